-- Joined and pruned by wip/tools/prune.py out of this session's own texts (Rbi, Pr12)
import Derived.Test.YtbdonoeellmeoaaZbs11
/- impl.RunBus by hand: the walk. -/
namespace Go.Proofs.Ytbdonoeellmeoaa.Pr
open Go.RowKit Go.Proofs.YtbdonoeellmeoaaW.PrintWords Go.Proofs.YtbdonoeellmeoaaW.PrintLast Go.Proofs.YtbdonoeellmeoaaW.PrintMore Go.Proofs.Ytbdonoeellmeoaa.Bus
set_option linter.unusedVariables false
set_option linter.unusedSimpArgs false
/-- The ending. -/
def EndsB (w : World) (r : List S73 × List S66 × Bool) (e : Ending) (w' : World) : Prop := ∃ v0_ v1_ : Value, e = .returned (.tuple #[v0_, v1_, .bool r.2.2]) ∧ Kd.R k73 73 w' w.heap.size (fun _ => True) v0_ r.1 ∧ Kd.N k66 66 w' w.heap.size (fun _ => True) v1_ r.2.1 ∧ Below w.heap.size w w'
theorem endsB_no {w w' : World} (h : Below w.heap.size w w') : EndsB w ([], [], false) (.returned (.tuple #[.slice none 0 0, .slice none 0 0, .bool false])) w' := ⟨_, _, rfl, Kd.R_nil _ _ _ _ _, Kd.N_nil _ _ _ _ _, h⟩
set_option maxHeartbeats 4000000 in
set_option maxRecDepth 100000 in
theorem runbus_walk (A0 : Option Addr) (c0 : Nat) (l : List S66) (rounds window : Int) (A3 : Option Addr) (c3 : Nat) (sp : List Int) (w : World) (rr : List S73 × List S66 × Bool)
    (hr0 : Kd.C k66 w A0 l.length l) (hc0 : l.length ≤ c0) (hr3 : Kd.C (Kd.int .i64) w A3 sp.length sp) (hc3 : sp.length ≤ c3) (hsm : smallB l sp = true) (hr : runOf l rounds window sp = rr) :
    Calls Try.prog 24 #[.slice A0 l.length c0, .int .i64 rounds, .int .i64 window, .slice A3 sp.length c3] w (EndsB w rr) := by
  have HR0 := Aside0.mk hr0
  have HC0 := Aside0.mk hc0
  have HR3 := Aside0.mk hr3
  have HC3 := Aside0.mk hc3
  have HSM := Aside0.mk hsm
  have HRR := Aside0.mk hr
  clear hr0 hc0 hr3 hc3 hsm hr
  by_cases a1 : 6 < l.length
  · have a1b : decide ((6 : Int) < (l.length : Int)) = true := decide_eq_true (by omega)
    have a1c : decide (6 < l.length) = true := decide_eq_true a1
    have hr := HRR.out
    unfold runOf at hr
    rw [if_neg (fun h => absurd h.1 (by unfold argsOk; simp only [decide_eq_true_eq]; omega))] at hr
    have HR2 := Aside0.mk hr
    clear hr HRR
    go_enter Try.func24, Try.ntmps24
    go_wp2_with (fail)
    go_ret3
    rw [← HR2.out]
    exact endsB_no (by repeat (first | exact Below.refl _ _ | apply pw_below_drewN))
  have a1b : decide ((6 : Int) < (l.length : Int)) = false := decide_eq_false (by omega)
  have a1c : decide (6 < l.length) = false := decide_eq_false a1
  by_cases a2 : 0 ≤ rounds ∧ rounds ≤ 40
  rotate_left
  · have a2b := Aside0.mk (decide_eq_false a2)
    have hr := HRR.out
    unfold runOf at hr
    rw [if_neg (fun h => absurd h.1 (by unfold argsOk; simp only [decide_eq_true_eq]; omega))] at hr
    have HR2 := Aside0.mk hr
    clear hr HRR
    go_enter Try.func24, Try.ntmps24
    go_wp2_with ((go_at_call 29; (with_reducible refine (between_calls rounds 0 40 _ _ a2b.out).mono ?_); rintro e w' ⟨rfl, ⟨nd, rfl⟩⟩))
    go_ret3
    rw [← HR2.out]
    exact endsB_no (by repeat (first | exact Below.refl _ _ | apply pw_below_drewN))
  have a2b := Aside0.mk (decide_eq_true a2)
  by_cases a3 : 1 ≤ window ∧ window ≤ 20
  rotate_left
  · have a3b := Aside0.mk (decide_eq_false a3)
    have hr := HRR.out
    unfold runOf at hr
    rw [if_neg (fun h => absurd h.1 (by unfold argsOk; simp only [decide_eq_true_eq]; omega))] at hr
    have HR2 := Aside0.mk hr
    clear hr HRR
    go_enter Try.func24, Try.ntmps24
    go_wp2_with (first | (go_at_call 29; (with_reducible refine (between_calls rounds 0 40 _ _ a2b.out).mono ?_); rintro e w' ⟨rfl, ⟨nd, rfl⟩⟩) | (go_at_call 29; (with_reducible refine (between_calls window 1 20 _ _ a3b.out).mono ?_); rintro e w' ⟨rfl, ⟨nd, rfl⟩⟩))
    go_ret3
    rw [← HR2.out]
    exact endsB_no (by repeat (first | exact Below.refl _ _ | apply pw_below_drewN))
  have a3b := Aside0.mk (decide_eq_true a3)
  by_cases a4 : 40 < sp.length
  · have a4b : decide ((40 : Int) < (sp.length : Int)) = true := decide_eq_true (by omega)
    have a4c : decide (40 < sp.length) = true := decide_eq_true a4
    have hr := HRR.out
    unfold runOf at hr
    rw [if_neg (fun h => absurd h.1 (by unfold argsOk; simp only [decide_eq_true_eq]; omega))] at hr
    have HR2 := Aside0.mk hr
    clear hr HRR
    go_enter Try.func24, Try.ntmps24
    go_wp2_with (first | (go_at_call 29; (with_reducible refine (between_calls rounds 0 40 _ _ a2b.out).mono ?_); rintro e w' ⟨rfl, ⟨nd, rfl⟩⟩) | (go_at_call 29; (with_reducible refine (between_calls window 1 20 _ _ a3b.out).mono ?_); rintro e w' ⟨rfl, ⟨nd, rfl⟩⟩))
    go_ret3
    rw [← HR2.out]
    exact endsB_no (by repeat (first | exact Below.refl _ _ | apply pw_below_drewN))
  have a4b : decide ((40 : Int) < (sp.length : Int)) = false := decide_eq_false (by omega)
  have a4c : decide (40 < sp.length) = false := decide_eq_false a4
  have HAO : Aside0 (argsOk l rounds window sp = true) := ⟨decide_eq_true ⟨by omega, a2, a3, by omega⟩⟩
  go_enter Try.func24, Try.ntmps24
  go_upto_region 3 with (first | (go_at_call 29; (with_reducible refine (between_calls rounds 0 40 _ _ a2b.out).mono ?_); rintro e w' ⟨rfl, ⟨nd, rfl⟩⟩) | (go_at_call 29; (with_reducible refine (between_calls window 1 20 _ _ a3b.out).mono ?_); rintro e w' ⟨rfl, ⟨nd, rfl⟩⟩))
  clear a1b a1c a4b a4c
  go_wp2_with fail
  go_loopg [11, 51] l.length (fun g v11 v51 w' => ∃ j : Nat, v51 = .int .i64 (j : Int) ∧ Aside0 (j + g = l.length) ∧ Aside0 (Kd.N k66 66 w' w.heap.size (fun _ => True) v11 (l.take j)) ∧ Aside0 ((l.take j).all goodT = true) ∧ Aside0 (Below w.heap.size w w'))
  case atStart => exact ⟨0, rfl, ⟨by omega⟩, ⟨Kd.N_nil _ _ _ _ _⟩, ⟨rfl⟩, ⟨by repeat (first | exact Below.refl _ _ | apply pw_below_drewN)⟩⟩
  case round =>
    obtain ⟨j, rfl, HJ, HE, HG, HB⟩ := hrel
    by_cases cj : j < l.length
    rotate_left
    · have hj : j = l.length := by have := HJ.out; omega
      subst hj
      have cjb : decide (l.length < l.length) = false := decide_eq_false (by omega)
      clear cj
      rw [List.take_length] at HE HG
      have hr := HRR.out
      unfold runOf at hr
      rw [if_pos ⟨HAO.out, HG.out⟩] at hr
      obtain ⟨R, hR⟩ : ∃ R : Nat, rounds = (R : Int) := ⟨rounds.toNat, by omega⟩
      obtain ⟨V, hV⟩ : ∃ V : Nat, window = (V : Int) := ⟨window.toNat, by omega⟩
      subst hR
      subst hV
      simp only [Int.toNat_natCast] at hr
      obtain ⟨fin, hfin⟩ : ∃ fin, busFrom pkOf V sp R 0 l (List.replicate l.length 0) [] = fin := ⟨_, rfl⟩
      rw [hfin] at hr
      have HFIN := Aside0.mk hfin
      have HR2 := Aside0.mk hr
      clear hfin hr HRR HAO a2b a3b
      have HRV : Aside0 (R ≤ 40 ∧ 1 ≤ V ∧ V ≤ 20 ∧ l.length ≤ 6 ∧ sp.length ≤ 40) := ⟨by omega⟩
      clear a1 a2 a3 a4
      obtain ⟨AE, cE, eE⟩ := Kd.N_slice HE.out
      subst eE
      obtain ⟨b1, hb1⟩ : ∃ b1, b1 = wr.heap.size := ⟨_, rfl⟩
      have HB1 := Aside0.mk hb1
      clear hb1
      have HW1 : Aside0 (w.heap.size ≤ b1) := ⟨by rw [HB1.out]; exact HB.out.size⟩
      replace HE := Aside0.mk (Kd.N_mono (Kd.N_bound HE.out) (ok' := fun k => k < b1) (fun k hk => by have := HB1.out; have := hk.2; omega))
      go_wp2_with (first | ((with_reducible refine gate_dst (N := 84) rfl ?_); refine Kd.R_make (Kd.int .i64) (w0 := w) w.heap.size 3 rfl (N := 84) rfl 31 _ _ rfl (l.length : Int) rfl rfl Try.underlying31 (.int .i64 0) 8 info3 rfl (by decide) (by omega) 0 (ok := fun k => b1 ≤ k) (okp := fun _ => False) rfl (fun _ hk => hk.elim) (Nat.le_of_eq HB1.out) (by omega) (by have := HRV.out; omega) HB.out HB.out.size ?_; intro v18 w5 ho hb hg hnew; have HS := Aside0.mk ho; have HBn := Aside0.mk hb; have HGn := Aside0.mk hg; clear ho hb hg hnew; obtain ⟨AS, cS, eS⟩ := Kd.R_slice HS.out; subst eS))
      replace HE := Aside0.mk (Kd.N_grown HE.out HGn.out (fun _ _ h => by cases h))
      replace HB := HBn
      obtain ⟨b2, hb2⟩ : ∃ b2, b2 = w5.heap.size := ⟨_, rfl⟩
      have HB2 := Aside0.mk hb2
      clear hb2 HBn
      replace HS := Aside0.mk (Kd.R_mono (Kd.R_bound HS.out) (ok' := fun k => b1 ≤ k ∧ k < b2) (fun k hk => ⟨hk.1, by have := HB2.out; have := hk.2.2.1; omega⟩))
      have HW2 : Aside0 (b1 ≤ b2) := ⟨by rw [HB1.out, HB2.out]; exact HGn.out.size⟩
      simp only [Int.toNat_natCast, List.length_replicate] at HS
      go_loopg [17, 86] R (fun g v17 v86 w' => ∃ (r : Nat) (now : List S66) (used : List Int) (out : List S73), v86 = .int .i64 (r : Int) ∧ Aside0 (r + g = R) ∧ Aside0 (busFrom pkOf V sp g r now used out = fin) ∧ Aside0 (BInv l.length now used r) ∧ Aside0 (out.length ≤ r) ∧ Aside0 (Kd.N k66 66 w' w.heap.size (fun k => k < b1) (.slice AE l.length cE) now) ∧ Aside0 (Kd.R (Kd.int .i64) 3 w' w.heap.size (fun k => b1 ≤ k ∧ k < b2) (.slice AS l.length cS) used) ∧ Aside0 (Kd.R k73 73 w' w.heap.size (fun k => b2 ≤ k) v17 out) ∧ Aside0 (b2 ≤ w'.heap.size) ∧ Aside0 (Below w.heap.size w w'))
      case atStart => exact ⟨0, l, List.replicate l.length 0, [], rfl, ⟨by omega⟩, HFIN, ⟨BInv.first HG.out⟩, ⟨Nat.le_refl _⟩, HE, HS, ⟨Kd.R_nil _ _ _ _ _⟩, ⟨Nat.le_of_eq HB2.out⟩, HB⟩
      case round =>
        clear HFIN HE HS HB HB2 HGn HSM HR0 HC0
        obtain ⟨r, now, used, out, rfl, HRG, HFIN, HI, HOL, HE, HS, HO, HWZ, HB⟩ := hrel
        by_cases cr : r < R
        rotate_left
        · have hr : gk = 0 := by have := HRG.out; omega
          have crb : decide (r < R) = false := decide_eq_false cr
          have hf := HFIN.out
          rw [hr] at hf
          have HFN : Aside0 ((out, now) = fin) := ⟨hf⟩
          clear hf hr HFIN cr
          obtain ⟨b4, hb4⟩ : ∃ b4, b4 = wr.heap.size := ⟨_, rfl⟩
          have HB4 := Aside0.mk hb4
          clear hb4
          have HW4 : Aside0 (b2 ≤ b4) := ⟨by rw [HB4.out]; exact HWZ.out⟩
          replace HO := Aside0.mk (Kd.R_mono (Kd.R_bound HO.out) (ok' := fun k => b2 ≤ k ∧ k < b4) (fun k hk => ⟨hk.1, by have := HB4.out; have := hk.2.2.1; omega⟩))
          replace HE := Aside0.mk (Kd.N_mono HE.out (ok' := fun k => k < b1 ∨ b4 ≤ k) (fun k hk => Or.inl hk))
          have HEB : Aside0 (∀ k, (Value.slice AE l.length cE).ownBlock = some k → k < b1) := ⟨fun k hk => by have h1 := HE.out.1 k hk; have h2 := Kd.N_lt HE.out k hk; have := HB4.out; omega⟩
          obtain ⟨A17, c17, e17⟩ := Kd.R_slice HO.out
          subst e17
          go_wp2_with fail
          go_loopg [206] l.length (fun g v206 w' => ∃ j : Nat, v206 = .int .i64 (j : Int) ∧ Aside0 (j + g = l.length) ∧ Aside0 (Kd.N k66 66 w' w.heap.size (fun k => k < b1 ∨ b4 ≤ k) (.slice AE l.length cE) now) ∧ Aside0 (Kd.R k73 73 w' w.heap.size (fun k => b2 ≤ k ∧ k < b4) (.slice A17 out.length c17) out) ∧ Aside0 (b4 ≤ w'.heap.size) ∧ Aside0 (Below w.heap.size w w'))
          case atStart => exact ⟨0, rfl, ⟨by omega⟩, HE, HO, ⟨Nat.le_of_eq HB4.out⟩, HB⟩
          case round =>
            clear HE HO HB HS HWZ HB4
            obtain ⟨j, rfl, HJ2, HE, HO, HWZ, HB⟩ := hrel
            by_cases cj : j < l.length
            rotate_left
            · have cjb2 : decide (j < l.length) = false := decide_eq_false cj
              go_wp2_with fail
              go_ret3
              have e : rr = (out, now, true) := by rw [← HR2.out, ← HFN.out]
              rw [e]
              exact ⟨_, _, rfl, Kd.R_mono HO.out (fun _ _ => trivial), Kd.N_mono HE.out (fun _ _ => trivial), HB.out⟩
            have cjb2 : decide (j < l.length) = true := decide_eq_true cj
            obtain ⟨g5, rfl⟩ : ∃ g5, gk = g5 + 1 := ⟨gk - 1, by have := HJ2.out; omega⟩
            obtain ⟨gE, cE2, eE, hgE, _, _⟩ := Kd.N_form HE.out (by rw [HI.out.ln]; omega)
            injection eE with eE1 eE2 eE3
            clear eE2 eE3
            subst eE1
            obtain ⟨Aq, cq, hlq, hFq, hcc⟩ := now_open HE.out j cj
            obtain ⟨t, hti⟩ : ∃ t, now.getD j z66 = t := ⟨_, rfl⟩
            rw [hti] at hlq hFq hcc
            have HTI := Aside0.mk hti
            have HFQ := Aside0.mk hFq
            have HTL : Aside0 (t.f0.length ≤ 8) := ⟨by have h := HI.out.tk j cj; rw [show tkAt now j = t from hti] at h; exact h.1⟩
            have hx0 : wr.cell? ⟨gE, j * 4, none⟩ = some (.slice Aq t.f0.length cq) := hcc 0 _ rfl
            clear hti hlq hFq hcc
            have j0 : (0 ≤ (j : Int)) = True := eq_true (by omega)
            have j1 : (j < l.length) = True := eq_true cj
            have j2 : ((j : Int) < (l.length : Int)) = True := eq_true (by omega)
            obtain ⟨cells, hce⟩ := Kd.N_typed HE.out gE (by simp [Value.ownBlock])
            have HCE := Aside0.mk hce
            clear hce
            go_wp2_with (first | (go_at_call 45; refine (cloneF_calls Aq cq t.f0 _ _ HFQ.out (by have := HTL.out; omega)).mono ?_; rintro e w5 ⟨v5, rfl, hn, hb⟩; obtain ⟨A5, c5, e5⟩ := Kd.N_slice hn; subst e5; replace hx0 := pw_cell_below hb hx0; have hy0 : w5.frozen? ⟨gE, j * 4, none⟩ = false := blk_frozen (blk_below HCE.out hb) _; have HN5 := Aside0.mk hn; have HSZ : Aside0 (wr.heap.size ≤ w5.heap.size) := ⟨hb.size⟩; replace HE := Aside0.mk (Kd.N_below HE.out hb); replace HO := Aside0.mk (Kd.R_below HO.out hb); replace HB := Aside0.mk (below_step HB.out hb); clear hb hn))
            have hgb := HEB.out gE (by simp [Value.ownBlock])
            have hn_ := now_keep HE.out j cj HI.out.ln HTI.out (Kd.N_reads' HN5.out).2.1 (Kd.N_F HN5.out) (fun k hk => by have := HWZ.out; have := HW4.out; have := HW2.out; rcases hk with hk | hk; exact hk; exact ⟨by omega, by omega⟩)
            have hj1 : wrap64 ((j : Int) + 1) = ((j + 1 : Nat) : Int) := by have := HRV.out; rw [EvKit.wrap64_id (by omega) (by omega)]; omega
            go_roundg g5
            case measure => omega
            case rel => exact ⟨j + 1, by first | (rw [← hj1]; done) | rfl | (congr 1; omega), ⟨by have := HJ2.out; omega⟩, ⟨hn_⟩, ⟨Kd.R_far (p := ⟨gE, j * 4, none⟩) HO.out (fun k hk => by have := HW2.out; show k ≠ gE; omega) _⟩, ⟨by have := HSZ.out; have := HWZ.out; simpa using (by omega : b4 ≤ w5.heap.size)⟩, ⟨below_set HB.out hgE⟩⟩
        have crb : decide (r < R) = true := decide_eq_true cr
        obtain ⟨g, rfl⟩ : ∃ g, gk = g + 1 := ⟨gk - 1, by have := HRG.out; omega⟩
        have hf := HFIN.out
        rw [busFrom_succ] at hf
        have hln := HI.out.ln
        rw [hln] at hf
        obtain ⟨u, hu⟩ : ∃ u, (if r % V = 0 then List.replicate l.length (0 : Int) else used) = u := ⟨_, rfl⟩
        rw [hu] at hf
        have HU := Aside0.mk hu
        have HF2 := Aside0.mk hf
        clear hf hu hln HFIN
        have HIU : Aside0 (BInv l.length now u r) := ⟨by rw [← HU.out]; split; exact HI.out.zero; exact HI.out⟩
        have hV0 : (V = 0) = False := eq_false (by have := HRV.out; omega)
        go_upto_if 92 with (fail)
        go_cut [19] (fun v19 wc => v19 = .int .i64 (r : Int) ∧ Aside0 (Kd.N k66 66 wc w.heap.size (fun k => k < b1) (.slice AE l.length cE) now) ∧ Aside0 (Kd.R (Kd.int .i64) 3 wc w.heap.size (fun k => b1 ≤ k ∧ k < b2) (.slice AS l.length cS) u) ∧ Aside0 (Kd.R k73 73 wc w.heap.size (fun k => b2 ≤ k) u17 out) ∧ Aside0 (b2 ≤ wc.heap.size) ∧ Aside0 (Below w.heap.size w wc))
        case first =>
          have hmc : (r : Int) % (V : Int) = ((r % V : Nat) : Int) := by simp
          by_cases cm : r % V = 0
          · have hmt : ((r : Int) % (V : Int) == 0) = true := beq_iff_eq.mpr (by rw [hmc, cm]; rfl)
            clear hmc
            have hun := HU.out
            rw [if_pos cm] at hun
            have HUN := Aside0.mk hun
            clear hun cm
            go_wp2_with (first | ((with_reducible refine gate_builtin (b := .clear) (xs := #[.tmp 93]) rfl ?_); refine clear_event (v := .slice AS l.length cS) rfl rfl (.tmp 93) rfl rfl HS.out HB.out HB.out.size ?_; intro w6 ho hb hg; have n0_ := Aside0.mk (Kd.N_grown HE.out hg (fun k hk e => by have := HS.out.1 k e.symm; omega)); have n1_ := Aside0.mk (Kd.R_grown HO.out hg (fun k hk e => by have := HS.out.1 k e.symm; omega)); have n2_ := Aside0.mk hb; have n3_ : Aside0 (b2 ≤ w6.heap.size) := ⟨Nat.le_trans HWZ.out hg.size⟩; have n4_ := Aside0.mk ho; clear HE HO HB HWZ HS hb hg ho; have HE := n0_; have HO := n1_; have HB := n2_; have HWZ := n3_; have HS := n4_; clear n0_ n1_ n2_ n3_ n4_))
            go_meet
            case rel => exact ⟨rfl, HE, ⟨by have h := HS.out; rw [HI.out.lu, HUN.out] at h; exact h⟩, HO, HWZ, HB⟩
          · have hmt : ((r : Int) % (V : Int) == 0) = false := beq_eq_false_iff_ne.mpr (by rw [hmc]; exact_mod_cast cm)
            clear hmc
            have hun := HU.out
            rw [if_neg cm] at hun
            have HUN := Aside0.mk hun
            clear hun cm
            go_wp2
            go_meet
            case rel => exact ⟨rfl, HE, ⟨by rw [← HUN.out]; exact HS.out⟩, HO, HWZ, HB⟩
        case rest => as_aux_lemma =>
          clear HE HS HO HWZ HB
          obtain ⟨rfl, HE, HS, HO, HWZ, HB⟩ := hcut
          clear hV0 HU HI
          obtain ⟨b3, hb3⟩ : ∃ b3, b3 = wc.heap.size := ⟨_, rfl⟩
          have HB3 := Aside0.mk hb3
          clear hb3
          have HW3 : Aside0 (b2 ≤ b3) := ⟨by rw [HB3.out]; exact HWZ.out⟩
          replace HO := Aside0.mk (Kd.R_mono (Kd.R_bound HO.out) (ok' := fun k => b2 ≤ k ∧ k < b3) (fun k hk => ⟨hk.1, by have := HB3.out; have := hk.2.2.1; omega⟩))
          go_wp2_with fail
          go_loopg [20, 21, 96] l.length (fun g v20 v21 v96 w' => ∃ i : Nat, v96 = .int .i64 (i : Int) ∧ Aside0 (i + g = l.length) ∧ Aside0 (Kd.R (Kd.int .i64) 3 w' w.heap.size (fun k => b3 ≤ k ∧ some k ≠ (v21 : Value).ownBlock) v20 ((candTo now u i).map fun (x : Nat) => (x : Int))) ∧ Aside0 (Kd.R (Kd.int .i64) 3 w' w.heap.size (fun k => b3 ≤ k ∧ some k ≠ (v20 : Value).ownBlock) v21 (idsTo now u i)) ∧ Aside0 (Kd.N k66 66 w' w.heap.size (fun k => k < b1) (.slice AE l.length cE) now) ∧ Aside0 (Kd.R (Kd.int .i64) 3 w' w.heap.size (fun k => b1 ≤ k ∧ k < b2) (.slice AS l.length cS) u) ∧ Aside0 (Kd.R k73 73 w' w.heap.size (fun k => b2 ≤ k ∧ k < b3) u17 out) ∧ Aside0 (b3 ≤ w'.heap.size) ∧ Aside0 (Below w.heap.size w w'))
          case atStart => exact ⟨0, rfl, ⟨by omega⟩, ⟨Kd.R_nil _ _ _ _ _⟩, ⟨Kd.R_nil _ _ _ _ _⟩, HE, HS, HO, ⟨Nat.le_of_eq HB3.out⟩, HB⟩
          case round =>
            clear HE HS HO HWZ HB HB3
            obtain ⟨i, rfl, HII, HC, HD, HE, HS, HO, HWZ, HB⟩ := hrel
            by_cases ci : i < l.length
            rotate_left
            · have hi : i = l.length := by have := HII.out; omega
              subst hi
              have cib : decide (l.length < l.length) = false := decide_eq_false (by omega)
              clear ci
              by_cases cc : candTo now u l.length = []
              · as_aux_lemma =>
                  have hf := HF2.out
                  rw [if_pos cc] at hf
                  obtain ⟨⟨ka, hka⟩, hie⟩ := no_cand cc
                  have HKA := Aside0.mk (hka ka (Nat.le_refl _))
                  have HFF := Aside0.mk hf
                  clear hf hka hie HF2 cc
                  obtain ⟨A21, c21, e21⟩ := Kd.R_slice HD.out
                  subst e21
                  go_wp2_with (first | (go_at_call 15; refine (impl_Arbitrate.calls ka A21 c21 (idsTo now u l.length) 0 [] false _ (Kd.R_reads' HD.out).2.2 (Kd.R_reads' HD.out).2.1 HKA.out).mono ?_; rintro e w6 ⟨v6, rfl, hr6, hb⟩; replace HE := Aside0.mk (Kd.N_below HE.out hb); replace HS := Aside0.mk (Kd.R_below HS.out hb); replace HO := Aside0.mk (Kd.R_below HO.out hb); replace HC := Aside0.mk (Kd.R_below HC.out hb); replace HD := Aside0.mk (Kd.R_below HD.out hb); replace HB := Aside0.mk (below_step HB.out hb); replace HWZ : Aside0 (b3 ≤ w6.heap.size) := ⟨Nat.le_trans HWZ.out hb.size⟩; clear hb hr6))
                  have hr1 : wrap64 ((r : Int) + 1) = ((r + 1 : Nat) : Int) := by have := HRV.out; rw [EvKit.wrap64_id (by omega) (by omega)]; omega
                  go_roundg g
                  case measure => omega
                  case rel => exact ⟨r + 1, now, u, out, by first | (rw [← hr1]; done) | rfl | (congr 1; omega), ⟨by have := HRG.out; omega⟩, HFF, ⟨HIU.out.succ⟩, ⟨by have := HOL.out; omega⟩, HE, HS, ⟨Kd.R_mono HO.out (fun k hk => hk.1)⟩, ⟨by have := HWZ.out; have := HW3.out; omega⟩, HB⟩
              obtain ⟨pk, x, hx6, ⟨ka, hka⟩, _, hp1, hp2, hs1, hs2, hid⟩ := step_facts HIU.out (by have := HRV.out; omega) cc
              have hf := HF2.out
              rw [if_neg cc] at hf
              have HKA := Aside0.mk (hka ka (Nat.le_refl _))
              clear hka HF2 cc
              generalize stepI pkOf now u = si at hf hp2 hs1 hs2 hid
              have HFF := Aside0.mk hf
              have HPP := Aside0.mk hp2
              have HID := Aside0.mk hid
              have HMY := Aside0.mk hs2
              clear hf hp2 hid hs2
              obtain ⟨A21, c21, e21⟩ := Kd.R_slice HD.out
              subst e21
              obtain ⟨A20, c20, e20⟩ := Kd.R_slice HC.out
              subst e20
              simp only [List.length_map] at HC
              have HIL : Aside0 ((idsTo now u l.length).length = (candTo now u l.length).length) := ⟨idsTo_len now u l.length⟩
              have HCL : Aside0 ((candTo now u l.length).length ≤ 6) := ⟨by have := candTo_le now u l.length; have := HRV.out; omega⟩
              go_upto_region 34 with (first | (go_at_call 15; refine (impl_Arbitrate.calls ka A21 c21 (idsTo now u l.length) (pk : Int) x true _ (Kd.R_reads' HD.out).2.2 (Kd.R_reads' HD.out).2.1 HKA.out).mono ?_; rintro e w6 ⟨v6, rfl, hr6, hb⟩; replace HE := Aside0.mk (Kd.N_below HE.out hb); replace HS := Aside0.mk (Kd.R_below HS.out hb); replace HO := Aside0.mk (Kd.R_below HO.out hb); replace HC := Aside0.mk (Kd.R_below HC.out hb); replace HD := Aside0.mk (Kd.R_below HD.out hb); replace HB := Aside0.mk (below_step HB.out hb); replace HWZ : Aside0 (b3 ≤ w6.heap.size) := ⟨Nat.le_trans HWZ.out hb.size⟩; clear hb hr6))
              obtain ⟨gw, cw, ew, _, _, _⟩ := Kd.R_form HC.out (by rw [List.length_map]; omega)
              obtain ⟨gi, cq2, ei, _, _, _⟩ := Kd.R_form HD.out (by rw [idsTo_len]; omega)
              obtain ⟨gE, cE2, eE, hgE, _, _⟩ := Kd.N_form HE.out (by rw [HIU.out.ln]; omega)
              obtain ⟨gS, cS2, eS, hgS, _, _⟩ := Kd.R_form HS.out (by rw [HIU.out.lu]; omega)
              injection ew with ew1 ew2 ew3
              injection ei with ei1 ei2 ei3
              injection eE with eE1 eE2 eE3
              injection eS with eS1 eS2 eS3
              clear ew2 ew3 ei2 ei3 eE2 eE3 eS2 eS3
              subst ew1
              subst ei1
              subst eE1
              subst eS1
              have hcw := (Kd.Q_cell (0 : Int) (Kd.Q_of_R HC.out) (pk : Int) (by omega) (by omega)).1
              have hci := (Kd.Q_cell (0 : Int) (Kd.Q_of_R HD.out) (pk : Int) (by omega) (by rw [idsTo_len]; omega)).1
              have hcs := Kd.Q_cell (0 : Int) (Kd.Q_of_R HS.out) (si : Int) (by omega) (by omega)
              rw [Nat.zero_add] at hcw hci hcs
              have hw : w6.cell? ⟨gw, pk, none⟩ = some (.int .i64 (si : Int)) := by rw [← HPP.out, ← getD_map _ (fun (x : Nat) => (x : Int)) _ 0 _ hp1]; exact hcw
              have hi : w6.cell? ⟨gi, pk, none⟩ = some (.int .i64 (headId (tkAt now si))) := by rw [← HID.out]; exact hci
              obtain ⟨ui, hui⟩ : ∃ ui, u.getD si 0 = ui := ⟨_, rfl⟩
              have hs : w6.cell? ⟨gS, si, none⟩ = some (.int .i64 ui) := by rw [← hui]; exact hcs.1
              have hsf : w6.frozen? ⟨gS, si, none⟩ = false := hcs.2
              have HUI := Aside0.mk hui
              have HUB : Aside0 (0 ≤ ui ∧ ui ≤ (r : Int)) := ⟨by rw [← hui]; exact HIU.out.us si hs1⟩
              have HSB : Aside0 (gS < b2 ∧ b1 ≤ gS) := ⟨by have := HS.out.1 gS (by simp [Value.ownBlock]); omega⟩
              clear hcw hci hcs hui hx6
              have p0 : (0 ≤ (pk : Int)) = True := eq_true (by omega)
              have p1 : (pk < (candTo now u l.length).length) = True := eq_true hp1
              have p2 : ((pk : Int) < ((candTo now u l.length).length : Int)) = True := eq_true (by omega)
              have s0 : (0 ≤ (si : Int)) = True := eq_true (by omega)
              have s1 : (si < l.length) = True := eq_true hs1
              have s2 : ((si : Int) < (l.length : Int)) = True := eq_true (by omega)
              go_upto_region 37 with (fail)
              have hwu : wrap64 (ui + 1) = ui + 1 := by have := HUB.out; have := HRV.out; rw [EvKit.wrap64_id (by omega) (by omega)]
              have hsb := HSB.out
              have hw3 := HW3.out
              have n0_ : Aside0 (Kd.R (Kd.int .i64) 3 (w6.setCell ⟨gS, si, none⟩ (.int .i64 (wrap64 (ui + 1)))) w.heap.size (fun k => b1 ≤ k ∧ k < b2) (.slice (some ⟨gS, 0, none⟩) l.length cS) (u.set si (u.getD si 0 + 1))) := ⟨by have e : u.getD si 0 + 1 = wrap64 (ui + 1) := (by rw [HUI.out, hwu]); rw [e]; exact Kd.R_putn HS.out (si : Int) (wrap64 (ui + 1))⟩
              have n1_ := Aside0.mk (Kd.N_far (p := ⟨gS, si, none⟩) HE.out (fun k hk => by show k ≠ gS; omega) (.int .i64 (wrap64 (ui + 1))))
              have n2_ := Aside0.mk (Kd.R_far (p := ⟨gS, si, none⟩) HO.out (fun k hk => by show k ≠ gS; omega) (.int .i64 (wrap64 (ui + 1))))
              have n3_ := Aside0.mk (Kd.R_far (p := ⟨gS, si, none⟩) HD.out (fun k hk => by show k ≠ gS; omega) (.int .i64 (wrap64 (ui + 1))))
              have n4_ : Aside0 (Below w.heap.size w (w6.setCell ⟨gS, si, none⟩ (.int .i64 (wrap64 (ui + 1))))) := ⟨below_set HB.out hgS⟩
              have n5_ : Aside0 (b3 ≤ (w6.setCell ⟨gS, si, none⟩ (.int .i64 (wrap64 (ui + 1)))).heap.size) := ⟨by simpa using HWZ.out⟩
              clear HS HE HO HD HB HWZ HC hw hi hs hsf hwu hsb hw3
              have HS := n0_
              have HE := n1_
              have HO := n2_
              have HD := n3_
              have HB := n4_
              have HWZ := n5_
              clear n0_ n1_ n2_ n3_ n4_ n5_
              generalize (w6.setCell ⟨gS, si, none⟩ (.int .i64 (wrap64 (ui + 1)))) = w7 at HS HE HO HD HB HWZ ⊢
              obtain ⟨kc, hkc⟩ := Pure.containsI_ev sp (r : Int) (by have := HRV.out; omega)
              have HKC := Aside0.mk (hkc kc (Nat.le_refl _))
              clear hkc
              obtain ⟨bs, hbs⟩ : ∃ bs, decide ((r : Int) ∈ sp) = bs := ⟨_, rfl⟩
              rw [hbs] at HKC HFF
              clear hbs
              go_upto_region 38 with (first | (go_at_call 44; refine (slices_Contains_int_int.calls kc A3 c3 sp (r : Int) bs _ (Kd.C_below HR3.out HB.out) HC3.out HKC.out).mono ?_; rintro e w8 ⟨rfl, hd⟩; have hb := drawn_below0 hd; clear hd; replace HE := Aside0.mk (Kd.N_below HE.out hb); replace HS := Aside0.mk (Kd.R_below HS.out hb); replace HO := Aside0.mk (Kd.R_below HO.out hb); replace HD := Aside0.mk (Kd.R_below HD.out hb); replace HB := Aside0.mk (below_step HB.out hb); replace HWZ : Aside0 (b3 ≤ w8.heap.size) := ⟨Nat.le_trans HWZ.out hb.size⟩; clear hb))
              have hci := (Kd.Q_cell (0 : Int) (Kd.Q_of_R HD.out) (pk : Int) (by omega) (by rw [idsTo_len]; omega)).1
              rw [Nat.zero_add] at hci
              have hi : w8.cell? ⟨gi, pk, none⟩ = some (.int .i64 (headId (tkAt now si))) := by rw [← HID.out]; exact hci
              clear hci
              have p3 : (pk < (idsTo now u l.length).length) = True := eq_true (by rw [idsTo_len]; exact hp1)
              have p4 : ((pk : Int) < ((idsTo now u l.length).length : Int)) = True := eq_true (by rw [idsTo_len]; omega)
              go_upto_region 39 with (first | ((with_reducible refine gate_builtin (b := .append) (xs := #[.tmp 157, .tmp 166]) rfl ?_); at_builtin; refine Kd.R_append k73 (w0 := w) w.heap.size rfl (.tmp 157) (.tmp 166) 45 73 (.agg #[.int .i64 0, .int .i64 0, .int .i64 0, .bool false]) 32 rfl Try.underlying45 info73 rfl (by decide) (by omega) u17 out ⟨(r : Int), (si : Int), headId (tkAt now si), !bs⟩ [.int .i64 (r : Int), .int .i64 (si : Int), .int .i64 (headId (tkAt now si)), .bool (!bs)] (fun k => b2 ≤ k) (fun _ => False) rfl rfl (k73_mkM _ _ _ ⟨(r : Int), (si : Int), headId (tkAt now si), !bs⟩) (fun _ hk => hk.elim) (fun k hk => by have := HWZ.out; have := HW3.out; omega) (Kd.R_mono HO.out (fun k hk => hk.1)) HB.out HB.out.size (by have := HOL.out; have := HRV.out; omega) ?_; intro v9 w9 ho hb hg hat; have n0_ := Aside0.mk (Kd.N_grown HE.out hg (fun k hk e => by have := (HO.out.1 k e.symm).1; have := HW2.out; omega)); have n1_ := Aside0.mk (Kd.R_grown HS.out hg (fun k hk e => by have := (HO.out.1 k e.symm).1; omega)); have n2_ := Aside0.mk ho; have n3_ := Aside0.mk hb; have n4_ : Aside0 (b2 ≤ w9.heap.size) := ⟨by have := HWZ.out; have := HW3.out; have := hg.size; omega⟩; clear HE HS HO HD HB HWZ ho hb hg hat; have HE := n0_; have HS := n1_; have HO := n2_; have HB := n3_; have HWZ := n4_; clear n0_ n1_ n2_ n3_ n4_))
              clear hi p3 p4 p0 p1 p2
              obtain ⟨c66, hcl, hK, hcc, hfr⟩ := Kd.N_elem HE.out z66 (si : Int) (by omega) (by omega)
              obtain ⟨Aq, cq, rfl, hlq, hcq⟩ := k66_open (Kd.FK_now hK)
              simp only [Int.toNat_natCast] at hK hcc hfr hlq hcq
              obtain ⟨t, hti⟩ : ∃ t, tkAt now si = t := ⟨_, rfl⟩
              change now.getD si z66 = t at hti
              clear hcl
              rw [hti] at hK hcc hlq hcq
              have HTI : Aside0 (tkAt now si = t) := ⟨hti⟩
              rw [show tkAt now si = t from hti] at HFF HO
              clear hti
              have hx0 : w9.cell? ⟨gE, si * 4, none⟩ = some (.slice Aq t.f0.length cq) := hcc 0 _ rfl
              have hx1 : w9.cell? ⟨gE, si * 4 + 1, none⟩ = some (.int .i64 t.f1) := hcc 1 _ rfl
              have hx2 : w9.cell? ⟨gE, si * 4 + 2, none⟩ = some (.int .i64 t.f2) := hcc 2 _ rfl
              have hx3 : w9.cell? ⟨gE, si * 4 + 3, none⟩ = some (.bool t.f3) := hcc 3 _ rfl
              have hy0 : w9.frozen? ⟨gE, si * 4, none⟩ = false := hfr 0
              have hy1 : w9.frozen? ⟨gE, si * 4 + 1, none⟩ = false := hfr 1
              have hy2 : w9.frozen? ⟨gE, si * 4 + 2, none⟩ = false := hfr 2
              have hy3 : w9.frozen? ⟨gE, si * 4 + 3, none⟩ = false := hfr 3
              have HKF := Aside0.mk (fk66_F hK)
              have HLQ := Aside0.mk hlq
              have hmy := (may_iff now u si).1 HMY.out
              rw [HTI.out] at hmy
              have HMT := Aside0.mk hmy
              have HER : Aside0 (0 ≤ t.f2 ∧ t.f2 ≤ 255) := ⟨by have h := HIU.out.tk si hs1; rw [HTI.out] at h; exact ⟨h.2.2.1, h.2.2.2⟩⟩
              have HGE : Aside0 (gE < b1) := ⟨HE.out.1 gE (by simp [Value.ownBlock])⟩
              clear hK hcc hfr hcq hlq hmy
              cases bs
              case false => as_aux_lemma =>
                have q1 : ((1 : Int) ≤ (t.f0.length : Int)) = True := eq_true (by have := HMT.out.2.1; omega)
                have hwe := HER.out
                have HWE : Aside0 (wrap64 (t.f2 - 1) = t.f2 - 1) := ⟨EvKit.wrap64_id (by omega) (by omega)⟩
                clear hwe
                by_cases c1 : cq = 1
                · subst c1
                  go_wp2_with fail
                  case inl =>
                    have hn_ := Aside0.mk (sent_good1 HE.out si hs1 HIU.out.ln HTI.out 0 (by have h2 := h; rw [HWE.out] at h2; rw [if_pos h2]) HLQ.out HMT.out.2.1 HKF.out)
                    have hs_ := Aside0.mk (far2_R HS.out gE (si * 4) (si * 4 + 2) (fun k hk => by have := HGE.out; have := HW2.out; omega) (.slice Aq (t.f0.length - 1) 0) (.int .i64 0))
                    have ho_ := Aside0.mk (far2_R HO.out gE (si * 4) (si * 4 + 2) (fun k hk => by have := HGE.out; have := HW2.out; omega) (.slice Aq (t.f0.length - 1) 0) (.int .i64 0))
                    have hb_ := Aside0.mk (below_set2 HB.out hgE (si * 4) (si * 4 + 2) (.slice Aq (t.f0.length - 1) 0) (.int .i64 0))
                    have hw_ := Aside0.mk (size_set2 (g := gE) HWZ.out (si * 4) (si * 4 + 2) (.slice Aq (t.f0.length - 1) 0) (.int .i64 0))
                    clear HE HS HO HB HWZ
                    generalize ((w9.setCell ⟨gE, si * 4, none⟩ (.slice Aq (t.f0.length - 1) 0)).setCell ⟨gE, si * 4 + 2, none⟩ (.int .i64 0)) = wz at hn_ hs_ ho_ hb_ hw_ ⊢
                    have hr1 : wrap64 ((r : Int) + 1) = ((r + 1 : Nat) : Int) := by have := HRV.out; rw [EvKit.wrap64_id (by omega) (by omega)]; omega
                    go_roundg g
                    case measure => omega
                    case rel => exact ⟨r + 1, now.set si (sentBy true t), u.set si (u.getD si 0 + 1), _, by first | (rw [← hr1]; done) | rfl | (congr 1; omega), ⟨stp_ HRG.out⟩, HFF, ⟨by rw [← HTI.out]; exact HIU.out.sent si hs1 _⟩, ⟨len1_ HOL.out⟩, hn_, hs_, ho_, hw_, hb_⟩
                  case inr =>
                    have hn_ := Aside0.mk (sent_good1 HE.out si hs1 HIU.out.ln HTI.out (wrap64 (t.f2 - 1)) (by have h2 := h; rw [HWE.out] at h2 ⊢; rw [if_neg (by omega)]) HLQ.out HMT.out.2.1 HKF.out)
                    have hs_ := Aside0.mk (far2_R HS.out gE (si * 4) (si * 4 + 2) (fun k hk => by have := HGE.out; have := HW2.out; omega) (.slice Aq (t.f0.length - 1) 0) (.int .i64 (wrap64 (t.f2 - 1))))
                    have ho_ := Aside0.mk (far2_R HO.out gE (si * 4) (si * 4 + 2) (fun k hk => by have := HGE.out; have := HW2.out; omega) (.slice Aq (t.f0.length - 1) 0) (.int .i64 (wrap64 (t.f2 - 1))))
                    have hb_ := Aside0.mk (below_set2 HB.out hgE (si * 4) (si * 4 + 2) (.slice Aq (t.f0.length - 1) 0) (.int .i64 (wrap64 (t.f2 - 1))))
                    have hw_ := Aside0.mk (size_set2 (g := gE) HWZ.out (si * 4) (si * 4 + 2) (.slice Aq (t.f0.length - 1) 0) (.int .i64 (wrap64 (t.f2 - 1))))
                    clear HE HS HO HB HWZ
                    generalize ((w9.setCell ⟨gE, si * 4, none⟩ (.slice Aq (t.f0.length - 1) 0)).setCell ⟨gE, si * 4 + 2, none⟩ (.int .i64 (wrap64 (t.f2 - 1)))) = wz at hn_ hs_ ho_ hb_ hw_ ⊢
                    have hr1 : wrap64 ((r : Int) + 1) = ((r + 1 : Nat) : Int) := by have := HRV.out; rw [EvKit.wrap64_id (by omega) (by omega)]; omega
                    go_roundg g
                    case measure => omega
                    case rel => exact ⟨r + 1, now.set si (sentBy true t), u.set si (u.getD si 0 + 1), _, by first | (rw [← hr1]; done) | rfl | (congr 1; omega), ⟨stp_ HRG.out⟩, HFF, ⟨by rw [← HTI.out]; exact HIU.out.sent si hs1 _⟩, ⟨len1_ HOL.out⟩, hn_, hs_, ho_, hw_, hb_⟩
                · have c1b : (cq = 1) = False := eq_false c1
                  go_wp2_with fail
                  case inl =>
                    have hn_ := Aside0.mk (sent_goodN HE.out si hs1 HIU.out.ln HTI.out 0 (by have h2 := h; rw [HWE.out] at h2; rw [if_pos h2]) HLQ.out c1 HMT.out.2.1 HKF.out)
                    have hs_ := Aside0.mk (far2_R HS.out gE (si * 4) (si * 4 + 2) (fun k hk => by have := HGE.out; have := HW2.out; omega) (.slice (Option.map (fun x => (⟨x.block, x.off + 2, none⟩ : Addr)) Aq) (t.f0.length - 1) (cq - 1)) (.int .i64 0))
                    have ho_ := Aside0.mk (far2_R HO.out gE (si * 4) (si * 4 + 2) (fun k hk => by have := HGE.out; have := HW2.out; omega) (.slice (Option.map (fun x => (⟨x.block, x.off + 2, none⟩ : Addr)) Aq) (t.f0.length - 1) (cq - 1)) (.int .i64 0))
                    have hb_ := Aside0.mk (below_set2 HB.out hgE (si * 4) (si * 4 + 2) (.slice (Option.map (fun x => (⟨x.block, x.off + 2, none⟩ : Addr)) Aq) (t.f0.length - 1) (cq - 1)) (.int .i64 0))
                    have hw_ := Aside0.mk (size_set2 (g := gE) HWZ.out (si * 4) (si * 4 + 2) (.slice (Option.map (fun x => (⟨x.block, x.off + 2, none⟩ : Addr)) Aq) (t.f0.length - 1) (cq - 1)) (.int .i64 0))
                    clear HE HS HO HB HWZ
                    generalize ((w9.setCell ⟨gE, si * 4, none⟩ (.slice (Option.map (fun x => (⟨x.block, x.off + 2, none⟩ : Addr)) Aq) (t.f0.length - 1) (cq - 1))).setCell ⟨gE, si * 4 + 2, none⟩ (.int .i64 0)) = wz at hn_ hs_ ho_ hb_ hw_ ⊢
                    have hr1 : wrap64 ((r : Int) + 1) = ((r + 1 : Nat) : Int) := by have := HRV.out; rw [EvKit.wrap64_id (by omega) (by omega)]; omega
                    go_roundg g
                    case measure => omega
                    case rel => exact ⟨r + 1, now.set si (sentBy true t), u.set si (u.getD si 0 + 1), _, by first | (rw [← hr1]; done) | rfl | (congr 1; omega), ⟨stp_ HRG.out⟩, HFF, ⟨by rw [← HTI.out]; exact HIU.out.sent si hs1 _⟩, ⟨len1_ HOL.out⟩, hn_, hs_, ho_, hw_, hb_⟩
                  case inr =>
                    have hn_ := Aside0.mk (sent_goodN HE.out si hs1 HIU.out.ln HTI.out (wrap64 (t.f2 - 1)) (by have h2 := h; rw [HWE.out] at h2 ⊢; rw [if_neg (by omega)]) HLQ.out c1 HMT.out.2.1 HKF.out)
                    have hs_ := Aside0.mk (far2_R HS.out gE (si * 4) (si * 4 + 2) (fun k hk => by have := HGE.out; have := HW2.out; omega) (.slice (Option.map (fun x => (⟨x.block, x.off + 2, none⟩ : Addr)) Aq) (t.f0.length - 1) (cq - 1)) (.int .i64 (wrap64 (t.f2 - 1))))
                    have ho_ := Aside0.mk (far2_R HO.out gE (si * 4) (si * 4 + 2) (fun k hk => by have := HGE.out; have := HW2.out; omega) (.slice (Option.map (fun x => (⟨x.block, x.off + 2, none⟩ : Addr)) Aq) (t.f0.length - 1) (cq - 1)) (.int .i64 (wrap64 (t.f2 - 1))))
                    have hb_ := Aside0.mk (below_set2 HB.out hgE (si * 4) (si * 4 + 2) (.slice (Option.map (fun x => (⟨x.block, x.off + 2, none⟩ : Addr)) Aq) (t.f0.length - 1) (cq - 1)) (.int .i64 (wrap64 (t.f2 - 1))))
                    have hw_ := Aside0.mk (size_set2 (g := gE) HWZ.out (si * 4) (si * 4 + 2) (.slice (Option.map (fun x => (⟨x.block, x.off + 2, none⟩ : Addr)) Aq) (t.f0.length - 1) (cq - 1)) (.int .i64 (wrap64 (t.f2 - 1))))
                    clear HE HS HO HB HWZ
                    generalize ((w9.setCell ⟨gE, si * 4, none⟩ (.slice (Option.map (fun x => (⟨x.block, x.off + 2, none⟩ : Addr)) Aq) (t.f0.length - 1) (cq - 1))).setCell ⟨gE, si * 4 + 2, none⟩ (.int .i64 (wrap64 (t.f2 - 1)))) = wz at hn_ hs_ ho_ hb_ hw_ ⊢
                    have hr1 : wrap64 ((r : Int) + 1) = ((r + 1 : Nat) : Int) := by have := HRV.out; rw [EvKit.wrap64_id (by omega) (by omega)]; omega
                    go_roundg g
                    case measure => omega
                    case rel => exact ⟨r + 1, now.set si (sentBy true t), u.set si (u.getD si 0 + 1), _, by first | (rw [← hr1]; done) | rfl | (congr 1; omega), ⟨stp_ HRG.out⟩, HFF, ⟨by rw [← HTI.out]; exact HIU.out.sent si hs1 _⟩, ⟨len1_ HOL.out⟩, hn_, hs_, ho_, hw_, hb_⟩
              case true => as_aux_lemma =>
                have hwe := HER.out
                have HWE : Aside0 (wrap64 (t.f2 + 8) = t.f2 + 8) := ⟨EvKit.wrap64_id (by omega) (by omega)⟩
                clear hwe
                go_wp2_with fail
                case inl =>
                  have hn_ := Aside0.mk (sent_bad HE.out si hs1 HIU.out.ln HTI.out 255 (by have h2 := h; rw [HWE.out] at h2; rw [if_pos h2]) true rfl)
                  have hs_ := Aside0.mk (far2_R HS.out gE (si * 4 + 2) (si * 4 + 3) (fun k hk => by have := HGE.out; have := HW2.out; omega) (.int .i64 255) (.bool true))
                  have ho_ := Aside0.mk (far2_R HO.out gE (si * 4 + 2) (si * 4 + 3) (fun k hk => by have := HGE.out; have := HW2.out; omega) (.int .i64 255) (.bool true))
                  have hb_ := Aside0.mk (below_set2 HB.out hgE (si * 4 + 2) (si * 4 + 3) (.int .i64 255) (.bool true))
                  have hw_ := Aside0.mk (size_set2 (g := gE) HWZ.out (si * 4 + 2) (si * 4 + 3) (.int .i64 255) (.bool true))
                  clear HE HS HO HB HWZ
                  generalize ((w9.setCell ⟨gE, si * 4 + 2, none⟩ (.int .i64 255)).setCell ⟨gE, si * 4 + 3, none⟩ (.bool true)) = wz at hn_ hs_ ho_ hb_ hw_ ⊢
                  have hr1 : wrap64 ((r : Int) + 1) = ((r + 1 : Nat) : Int) := by have := HRV.out; rw [EvKit.wrap64_id (by omega) (by omega)]; omega
                  go_roundg g
                  case measure => omega
                  case rel => exact ⟨r + 1, now.set si (sentBy false t), u.set si (u.getD si 0 + 1), _, by first | (rw [← hr1]; done) | rfl | (congr 1; omega), ⟨stp_ HRG.out⟩, HFF, ⟨by rw [← HTI.out]; exact HIU.out.sent si hs1 _⟩, ⟨len1_ HOL.out⟩, hn_, hs_, ho_, hw_, hb_⟩
                case inr =>
                  have hn_ := Aside0.mk (sent_bad HE.out si hs1 HIU.out.ln HTI.out (wrap64 (t.f2 + 8)) (by have h2 := h; rw [HWE.out] at h2 ⊢; rw [if_neg (by omega)]) (wrap64 (t.f2 + 8) == 255) rfl)
                  have hs_ := Aside0.mk (far2_R HS.out gE (si * 4 + 2) (si * 4 + 3) (fun k hk => by have := HGE.out; have := HW2.out; omega) (.int .i64 (wrap64 (t.f2 + 8))) (.bool (wrap64 (t.f2 + 8) == 255)))
                  have ho_ := Aside0.mk (far2_R HO.out gE (si * 4 + 2) (si * 4 + 3) (fun k hk => by have := HGE.out; have := HW2.out; omega) (.int .i64 (wrap64 (t.f2 + 8))) (.bool (wrap64 (t.f2 + 8) == 255)))
                  have hb_ := Aside0.mk (below_set2 HB.out hgE (si * 4 + 2) (si * 4 + 3) (.int .i64 (wrap64 (t.f2 + 8))) (.bool (wrap64 (t.f2 + 8) == 255)))
                  have hw_ := Aside0.mk (size_set2 (g := gE) HWZ.out (si * 4 + 2) (si * 4 + 3) (.int .i64 (wrap64 (t.f2 + 8))) (.bool (wrap64 (t.f2 + 8) == 255)))
                  clear HE HS HO HB HWZ
                  generalize ((w9.setCell ⟨gE, si * 4 + 2, none⟩ (.int .i64 (wrap64 (t.f2 + 8)))).setCell ⟨gE, si * 4 + 3, none⟩ (.bool (wrap64 (t.f2 + 8) == 255))) = wz at hn_ hs_ ho_ hb_ hw_ ⊢
                  have hr1 : wrap64 ((r : Int) + 1) = ((r + 1 : Nat) : Int) := by have := HRV.out; rw [EvKit.wrap64_id (by omega) (by omega)]; omega
                  go_roundg g
                  case measure => omega
                  case rel => exact ⟨r + 1, now.set si (sentBy false t), u.set si (u.getD si 0 + 1), _, by first | (rw [← hr1]; done) | rfl | (congr 1; omega), ⟨stp_ HRG.out⟩, HFF, ⟨by rw [← HTI.out]; exact HIU.out.sent si hs1 _⟩, ⟨len1_ HOL.out⟩, hn_, hs_, ho_, hw_, hb_⟩
            have cib : decide (i < l.length) = true := decide_eq_true ci
            obtain ⟨g3, rfl⟩ : ∃ g3, gk = g3 + 1 := ⟨gk - 1, by have := HII.out; omega⟩
            go_upto_block 7 with (fail)
            go_cut [20, 21] (fun v20 v21 wc => ∃ (z20 z21 : Value), v20 = z20 ∧ v21 = z21 ∧ Aside0 (Kd.R (Kd.int .i64) 3 wc w.heap.size (fun k => b3 ≤ k ∧ some k ≠ (z21 : Value).ownBlock) z20 ((candTo now u (i + 1)).map fun (x : Nat) => (x : Int))) ∧ Aside0 (Kd.R (Kd.int .i64) 3 wc w.heap.size (fun k => b3 ≤ k ∧ some k ≠ (z20 : Value).ownBlock) z21 (idsTo now u (i + 1))) ∧ Aside0 (Kd.N k66 66 wc w.heap.size (fun k => k < b1) (.slice AE l.length cE) now) ∧ Aside0 (Kd.R (Kd.int .i64) 3 wc w.heap.size (fun k => b1 ≤ k ∧ k < b2) (.slice AS l.length cS) u) ∧ Aside0 (Kd.R k73 73 wc w.heap.size (fun k => b2 ≤ k ∧ k < b3) u17 out) ∧ Aside0 (b3 ≤ wc.heap.size) ∧ Aside0 (Below w.heap.size w wc))
            case first => as_aux_lemma =>
              obtain ⟨gE, cE2, eE, hgE, _, _⟩ := Kd.N_form HE.out (by rw [HIU.out.ln]; omega)
              obtain ⟨gS, cS2, eS, hgS, _, _⟩ := Kd.R_form HS.out (by rw [HIU.out.lu]; omega)
              injection eE with eE1 eE2 eE3
              injection eS with eS1 eS2 eS3
              subst eE1
              subst eS1
              clear eE2 eE3 eS2 eS3
              obtain ⟨c66, hcl, hK, hcc, hfr⟩ := Kd.N_elem HE.out z66 (i : Int) (by omega) (by omega)
              obtain ⟨Aq, cq, rfl, hlq, hcq⟩ := k66_open (Kd.FK_now hK)
              simp only [Int.toNat_natCast] at hK hcc hfr hlq hcq
              have hsc := Kd.Q_cell (0 : Int) (Kd.Q_of_R HS.out) (i : Int) (by omega) (by omega)
              obtain ⟨t, hti⟩ : ∃ t, tkAt now i = t := ⟨_, rfl⟩
              change now.getD i z66 = t at hti
              clear hcl
              rw [hti] at hK hcc hlq hcq
              have HTI : Aside0 (tkAt now i = t) := ⟨hti⟩
              clear hti
              have hx0 : wr.cell? ⟨gE, i * 4, none⟩ = some (.slice Aq t.f0.length cq) := hcc 0 _ rfl
              have hx1 : wr.cell? ⟨gE, i * 4 + 1, none⟩ = some (.int .i64 t.f1) := hcc 1 _ rfl
              have hx2 : wr.cell? ⟨gE, i * 4 + 2, none⟩ = some (.int .i64 t.f2) := hcc 2 _ rfl
              have hx3 : wr.cell? ⟨gE, i * 4 + 3, none⟩ = some (.bool t.f3) := hcc 3 _ rfl
              have hxs : wr.cell? ⟨gS, i, none⟩ = some (.int .i64 (u.getD i 0)) := by have h := hsc.1; rw [Nat.zero_add] at h; exact h
              obtain ⟨ui, hui⟩ : ∃ ui, u.getD i 0 = ui := ⟨_, rfl⟩
              rw [hui] at hxs
              have HUI := Aside0.mk hui
              clear hui
              have HQF : Aside0 (Kd.F k27 wr (fun k => k < b1) Aq t.f0.length t.f0) := ⟨fk66_F (Kd.FK_mono hK (fun k hk => hk.1))⟩
              have HTB : Aside0 (t.f0.length ≤ 8 ∧ 0 ≤ t.f2 ∧ t.f2 ≤ 255) := ⟨by have h := HIU.out.tk i ci; rw [HTI.out] at h; exact ⟨h.1, h.2.2.1, h.2.2.2⟩⟩
              clear hK hcc hfr hcq hsc
              have HLQ := Aside0.mk hlq
              clear hlq
              have ci0 : (0 ≤ (i : Int)) = True := eq_true (by omega)
              have ci1 : (i < l.length) = True := eq_true ci
              have ci2 : ((i : Int) < (l.length : Int)) = True := eq_true (by omega)
              have HSB : Aside0 (gS < b2 ∧ b1 ≤ gS) := ⟨by have := HS.out.1 gS (by simp [Value.ownBlock]); omega⟩
              go_upto_region 29 with (first | ((with_reducible refine gate_dst (N := 23) rfl ?_); refine box_event ?hggb (N := 23) ?hdgb (cs := #[.slice none 0 0, .int .i64 0, .int .i64 0, .bool false]) (t := 66) ?hrgb ?_; (case hdgb => rfl); (case hggb => rfl); (case hrgb => first | (go_simp; done) | (go_simp; rfl)); intro gb hgz wb hbox hb; have gbZ := Aside0.mk hgz; have gbB := Aside0.mk hbox; have gbH := Aside0.mk hb; clear hgz hbox hb; have gbf0 := blk_frozen gbB.out 0; have gbz0 : wb.cell? ⟨gb, 0, none⟩ = some (.slice none 0 0) := (blk_cell gbB.out 0).trans rfl; have gbf1 := blk_frozen gbB.out 1; have gbz1 : wb.cell? ⟨gb, 1, none⟩ = some (.int .i64 0) := (blk_cell gbB.out 1).trans rfl; have gbf2 := blk_frozen gbB.out 2; have gbz2 : wb.cell? ⟨gb, 2, none⟩ = some (.int .i64 0) := (blk_cell gbB.out 2).trans rfl; have gbf3 := blk_frozen gbB.out 3; have gbz3 : wb.cell? ⟨gb, 3, none⟩ = some (.bool false) := (blk_cell gbB.out 3).trans rfl))
              have hle : wr.heap.size ≤ gb := Nat.le_of_eq gbZ.out.symm
              have hbW : Below wr.heap.size wr ((((wb.setCell ⟨gb, 0, none⟩ (.slice Aq t.f0.length cq)).setCell ⟨gb, 1, none⟩ (.int .i64 t.f1)).setCell ⟨gb, 2, none⟩ (.int .i64 t.f2)).setCell ⟨gb, 3, none⟩ (.bool t.f3)) := (below_set (below_set (below_set (below_set gbH.out hle) hle) hle) hle)
              have hBT : ((((wb.setCell ⟨gb, 0, none⟩ (.slice Aq t.f0.length cq)).setCell ⟨gb, 1, none⟩ (.int .i64 t.f1)).setCell ⟨gb, 2, none⟩ (.int .i64 t.f2)).setCell ⟨gb, 3, none⟩ (.bool t.f3)).heap[gb]? = some (.cells #[.slice Aq t.f0.length cq, .int .i64 t.f1, .int .i64 t.f2, .bool t.f3] 66 (0, 0)) := (blk_put (blk_put (blk_put (blk_put gbB.out 0 _ rfl) 1 _ rfl) 2 _ rfl) 3 _ rfl)
              generalize ((((wb.setCell ⟨gb, 0, none⟩ (.slice Aq t.f0.length cq)).setCell ⟨gb, 1, none⟩ (.int .i64 t.f1)).setCell ⟨gb, 2, none⟩ (.int .i64 t.f2)).setCell ⟨gb, 3, none⟩ (.bool t.f3)) = w1 at hbW hBT ⊢
              have BG := Aside0.mk hBT
              replace HC := Aside0.mk (Kd.R_below HC.out hbW)
              replace HD := Aside0.mk (Kd.R_below HD.out hbW)
              replace HE := Aside0.mk (Kd.N_below HE.out hbW)
              replace HS := Aside0.mk (Kd.R_below HS.out hbW)
              replace HO := Aside0.mk (Kd.R_below HO.out hbW)
              replace HQF := Aside0.mk (Kd.F_below HQF.out hbW)
              replace HB := Aside0.mk (below_step HB.out hbW)
              have HGB2 : Aside0 (b3 ≤ gb) := ⟨by have := gbZ.out; have := HWZ.out; omega⟩
              replace HWZ : Aside0 (b3 ≤ w1.heap.size) := ⟨Nat.le_trans HWZ.out hbW.size⟩
              replace hxs := pw_cell_below hbW hxs
              clear hBT hbW hle gbB gbH gbf0 gbz0 gbf1 gbz1 gbf2 gbz2 gbf3 gbz3
              clear hx0 hx1 hx2 hx3
              by_cases t1 : t.f3 = true
              · as_aux_lemma =>
                  rw [t1] at BG
                  have HNO := Aside0.mk t1
                  clear t1
                  have HMY : Aside0 (may now u i = false) := ⟨by refine Bool.eq_false_iff.2 (fun h => ?_); have h2 := (may_iff now u i).1 h; rw [HTI.out, HUI.out] at h2; rw [HNO.out] at h2; cases h2.1⟩
                  have bz0 : w1.cell? ⟨gb, 0, none⟩ = some (.slice Aq t.f0.length cq) := (blk_cell BG.out 0).trans rfl
                  have bf0 := blk_frozen BG.out 0
                  have bz1 : w1.cell? ⟨gb, 1, none⟩ = some (.int .i64 t.f1) := (blk_cell BG.out 1).trans rfl
                  have bf1 := blk_frozen BG.out 1
                  have bz2 : w1.cell? ⟨gb, 2, none⟩ = some (.int .i64 t.f2) := (blk_cell BG.out 2).trans rfl
                  have bf2 := blk_frozen BG.out 2
                  have bz3 : w1.cell? ⟨gb, 3, none⟩ = some (.bool true) := (blk_cell BG.out 3).trans rfl
                  have bf3 := blk_frozen BG.out 3
                  repeat (go_quiet (fail); try go_wp2)
                  go_meet
                  case rel => exact ⟨_, _, rfl, rfl, ⟨by rw [candTo_succ, if_neg (by rw [HMY.out]; decide), List.append_nil]; exact ra_ HC.out⟩, ⟨by rw [idsTo_succ, if_neg (by rw [HMY.out]; decide), List.append_nil]; exact ra_ HD.out⟩, ⟨by repeat (first | exact HE.out | apply Kd.N_drewN | apply Kd.N_drew)⟩, ⟨ra_ HS.out⟩, ⟨ra_ HO.out⟩, HWZ, ⟨by repeat (first | exact HB.out | apply pw_below_drewN | apply below_drew1)⟩⟩
              have t1f : t.f3 = false := by simpa using t1
              rw [t1f] at BG
              have HOF := Aside0.mk t1f
              clear t1 t1f
              by_cases t2 : 0 < t.f0.length
              rotate_left
              · as_aux_lemma =>
                  have t2b : decide (0 < t.f0.length) = false := decide_eq_false t2
                  have t2c : decide ((0 : Int) < (t.f0.length : Int)) = false := decide_eq_false (by omega)
                  have HNO := Aside0.mk t2
                  clear t2
                  have HMY : Aside0 (may now u i = false) := ⟨by refine Bool.eq_false_iff.2 (fun h => ?_); have h2 := (may_iff now u i).1 h; rw [HTI.out, HUI.out] at h2; exact HNO.out h2.2.1⟩
                  have bz0 : w1.cell? ⟨gb, 0, none⟩ = some (.slice Aq t.f0.length cq) := (blk_cell BG.out 0).trans rfl
                  have bf0 := blk_frozen BG.out 0
                  have bz1 : w1.cell? ⟨gb, 1, none⟩ = some (.int .i64 t.f1) := (blk_cell BG.out 1).trans rfl
                  have bf1 := blk_frozen BG.out 1
                  have bz2 : w1.cell? ⟨gb, 2, none⟩ = some (.int .i64 t.f2) := (blk_cell BG.out 2).trans rfl
                  have bf2 := blk_frozen BG.out 2
                  have bz3 : w1.cell? ⟨gb, 3, none⟩ = some (.bool false) := (blk_cell BG.out 3).trans rfl
                  have bf3 := blk_frozen BG.out 3
                  repeat (go_quiet (fail); try go_wp2)
                  go_meet
                  case rel => exact ⟨_, _, rfl, rfl, ⟨by rw [candTo_succ, if_neg (by rw [HMY.out]; decide), List.append_nil]; exact ra_ HC.out⟩, ⟨by rw [idsTo_succ, if_neg (by rw [HMY.out]; decide), List.append_nil]; exact ra_ HD.out⟩, ⟨by repeat (first | exact HE.out | apply Kd.N_drewN | apply Kd.N_drew)⟩, ⟨ra_ HS.out⟩, ⟨ra_ HO.out⟩, HWZ, ⟨by repeat (first | exact HB.out | apply pw_below_drewN | apply below_drew1)⟩⟩
              have t2b : decide (0 < t.f0.length) = true := decide_eq_true t2
              have t2c : decide ((0 : Int) < (t.f0.length : Int)) = true := decide_eq_true (by omega)
              by_cases t3 : ui < t.f1
              rotate_left
              · as_aux_lemma =>
                  have t3b : decide (ui < t.f1) = false := decide_eq_false t3
                  have HNO := Aside0.mk t3
                  clear t3
                  have HMY : Aside0 (may now u i = false) := ⟨by refine Bool.eq_false_iff.2 (fun h => ?_); have h2 := (may_iff now u i).1 h; rw [HTI.out, HUI.out] at h2; exact HNO.out h2.2.2⟩
                  have bz0 : w1.cell? ⟨gb, 0, none⟩ = some (.slice Aq t.f0.length cq) := (blk_cell BG.out 0).trans rfl
                  have bf0 := blk_frozen BG.out 0
                  have bz1 : w1.cell? ⟨gb, 1, none⟩ = some (.int .i64 t.f1) := (blk_cell BG.out 1).trans rfl
                  have bf1 := blk_frozen BG.out 1
                  have bz2 : w1.cell? ⟨gb, 2, none⟩ = some (.int .i64 t.f2) := (blk_cell BG.out 2).trans rfl
                  have bf2 := blk_frozen BG.out 2
                  have bz3 : w1.cell? ⟨gb, 3, none⟩ = some (.bool false) := (blk_cell BG.out 3).trans rfl
                  have bf3 := blk_frozen BG.out 3
                  repeat (go_quiet (fail); try go_wp2)
                  go_meet
                  case rel => exact ⟨_, _, rfl, rfl, ⟨by rw [candTo_succ, if_neg (by rw [HMY.out]; decide), List.append_nil]; exact ra_ HC.out⟩, ⟨by rw [idsTo_succ, if_neg (by rw [HMY.out]; decide), List.append_nil]; exact ra_ HD.out⟩, ⟨by repeat (first | exact HE.out | apply Kd.N_drewN | apply Kd.N_drew)⟩, ⟨ra_ HS.out⟩, ⟨ra_ HO.out⟩, HWZ, ⟨by repeat (first | exact HB.out | apply pw_below_drewN | apply below_drew1)⟩⟩
              have t3b : decide (ui < t.f1) = true := decide_eq_true t3
              have HMY : Aside0 (may now u i = true) := ⟨(may_iff now u i).2 (by rw [HTI.out, HUI.out]; exact ⟨HOF.out, t2, t3⟩)⟩
              clear t3
              have bz0 : w1.cell? ⟨gb, 0, none⟩ = some (.slice Aq t.f0.length cq) := (blk_cell BG.out 0).trans rfl
              have bf0 := blk_frozen BG.out 0
              have bz1 : w1.cell? ⟨gb, 1, none⟩ = some (.int .i64 t.f1) := (blk_cell BG.out 1).trans rfl
              have bf1 := blk_frozen BG.out 1
              have bz2 : w1.cell? ⟨gb, 2, none⟩ = some (.int .i64 t.f2) := (blk_cell BG.out 2).trans rfl
              have bf2 := blk_frozen BG.out 2
              have bz3 : w1.cell? ⟨gb, 3, none⟩ = some (.bool false) := (blk_cell BG.out 3).trans rfl
              have bf3 := blk_frozen BG.out 3
              go_quiet (fail)
              go_upto_region 30 with (fail)
              clear bz0 bf0 bz1 bf1 bz2 bf2 bz3 bf3
              have hb : Below w1.heap.size w1 (w1.drewN nq) := pw_below_drewN (Below.refl _ _) nq
              replace HC := Aside0.mk (Kd.R_below HC.out hb)
              replace HD := Aside0.mk (Kd.R_below HD.out hb)
              replace HE := Aside0.mk (Kd.N_below HE.out hb)
              replace HS := Aside0.mk (Kd.R_below HS.out hb)
              replace HO := Aside0.mk (Kd.R_below HO.out hb)
              replace HQF := Aside0.mk (Kd.F_below HQF.out hb)
              replace BG := Aside0.mk (blk_below BG.out hb)
              replace HB := Aside0.mk (below_step HB.out hb)
              replace HWZ : Aside0 (b3 ≤ (w1.drewN nq).heap.size) := ⟨Nat.le_trans HWZ.out hb.size⟩
              clear hb hxs t2b t2c t3b
              generalize w1.drewN nq = w2 at HC HD HE HS HO HQF BG HB HWZ ⊢
              obtain ⟨adq, _, _, eqq, _⟩ := at_T27 (Kd.F_now HQF.out) 0 (by omega) (by omega)
              subst eqq
              refine start_ (n := 14) (S := fun w' => w'.cell? ⟨gb, 0, none⟩ = some (.slice (some adq) t.f0.length cq) ∧ Kd.C k27 w' (some adq) t.f0.length t.f0) (ds := []) #[false, false, false, false, false, false, false, false, false, false, false, false, false, false] (by kernel_rfl) rfl rfl ⟨(blk_cell BG.out 0).trans rfl, Kd.F_now (Kd.F_drew HQF.out)⟩ (fun hHeld => ?_)
              have hb : Below w2.heap.size w2 w2.drew := by apply below_drew1; exact Below.refl _ _
              replace HC := Aside0.mk (Kd.R_below HC.out hb)
              replace HD := Aside0.mk (Kd.R_below HD.out hb)
              replace HE := Aside0.mk (Kd.N_below HE.out hb)
              replace HS := Aside0.mk (Kd.R_below HS.out hb)
              replace HO := Aside0.mk (Kd.R_below HO.out hb)
              replace HQF := Aside0.mk (Kd.F_below HQF.out hb)
              replace BG := Aside0.mk (blk_below BG.out hb)
              replace HB := Aside0.mk (below_step HB.out hb)
              replace HWZ : Aside0 (b3 ≤ w2.drew.heap.size) := ⟨Nat.le_trans HWZ.out hb.size⟩
              clear hb
              generalize w2.drew = w3 at HC HD HE HS HO HQF BG HB HWZ hHeld ⊢
              refine pure_ (i := 0) (N := some 119) (v := ?_) (a' := ?_) #[true, false, false, false, false, false, false, false, false, false, false, false, false, false] rfl rfl (by kernel_rfl) (fun _ _ _ h => h) (Or.inl ⟨by rfl, ?_⟩) ?_ ?_
              rotate_left
              · intro w'
                go_simp
                with_reducible rfl
              rotate_left
              · simp only [Act.put, List.setIfInBounds_toArray, List.set_cons_zero, List.set_cons_succ]
                rfl
              refine pure_ (i := 1) (N := some 120) (v := ?_) (a' := ?_) #[true, true, false, false, false, false, false, false, false, false, false, false, false, false] rfl rfl (by kernel_rfl) (fun _ _ _ h => h) (Or.inl ⟨by rfl, ?_⟩) ?_ ?_
              rotate_left
              · intro w'
                go_simp
                with_reducible rfl
              rotate_left
              · simp only [Act.put, List.setIfInBounds_toArray, List.set_cons_zero, List.set_cons_succ]
                rfl
              refine pure_ (i := 4) (N := some 123) (v := ?_) (a' := ?_) #[true, true, false, false, true, false, false, false, false, false, false, false, false, false] rfl rfl (by kernel_rfl) (fun _ _ _ h => h) (Or.inl ⟨by rfl, ?_⟩) ?_ ?_
              rotate_left
              · intro w'
                go_simp
                with_reducible rfl
              rotate_left
              · simp only [Act.put, List.setIfInBounds_toArray, List.set_cons_zero, List.set_cons_succ]
                rfl
              refine pure_ (i := 5) (N := some 124) (v := ?_) (a' := ?_) #[true, true, false, false, true, true, false, false, false, false, false, false, false, false] rfl rfl (by kernel_rfl) (fun _ _ _ h => h) (Or.inl ⟨by rfl, ?_⟩) ?_ ?_
              rotate_left
              · intro w'
                go_simp
                with_reducible rfl
              rotate_left
              · simp only [Act.put, List.setIfInBounds_toArray, List.set_cons_zero, List.set_cons_succ]
                rfl
              refine take_ (i := 6) (N := some 125) (v := ?_) (a' := ?_) #[true, true, false, false, true, true, true, false, false, false, false, false, false, false] rfl rfl (by kernel_rfl) (fun _ _ _ h => h) (Or.inl ⟨by rfl, ?_⟩) hHeld ?_ ?_
              rotate_left
              · rintro w' ⟨s0, s1⟩
                go_simp
                with_reducible rfl
              rotate_left
              · simp only [Act.put, List.setIfInBounds_toArray, List.set_cons_zero, List.set_cons_succ]
                rfl
              refine pure_ (i := 7) (N := some 126) (v := ?_) (a' := ?_) #[true, true, false, false, true, true, true, true, false, false, false, false, false, false] rfl rfl (by kernel_rfl) (fun _ _ _ h => h) (Or.inl ⟨by rfl, ?_⟩) ?_ ?_
              rotate_left
              · intro w'
                go_simp
                with_reducible rfl
              rotate_left
              · simp only [Act.put, List.setIfInBounds_toArray, List.set_cons_zero, List.set_cons_succ]
                rfl
              refine pure_ (i := 8) (N := some 127) (v := ?_) (a' := ?_) #[true, true, false, false, true, true, true, true, true, false, false, false, false, false] rfl rfl (by kernel_rfl) (fun _ _ _ h => h) (Or.inl ⟨by rfl, ?_⟩) ?_ ?_
              rotate_left
              · intro w'
                go_simp
                with_reducible rfl
              rotate_left
              · simp only [Act.put, List.setIfInBounds_toArray, List.set_cons_zero, List.set_cons_succ]
                rfl
              refine take_ (i := 9) (N := some 128) (v := ?_) (a' := ?_) #[true, true, false, false, true, true, true, true, true, true, false, false, false, false] rfl rfl (by kernel_rfl) (fun _ _ _ h => h) (Or.inl ⟨by rfl, ?_⟩) hHeld ?_ ?_
              rotate_left
              · rintro w' ⟨s0, s1⟩
                have s2 := head_cell s1 t2
                go_simp
                with_reducible rfl
              rotate_left
              · simp only [Act.put, List.setIfInBounds_toArray, List.set_cons_zero, List.set_cons_succ]
                rfl
              refine two_ (i := 2) (j := 10) (Ni := some 121) (Nj := some 129) #[true, true, true, false, true, true, true, true, true, true, false, false, false, false] #[true, true, false, false, true, true, true, true, true, true, true, false, false, false] rfl rfl rfl rfl (by kernel_rfl) (by decide) (by decide) (fun K hK => ?_) (fun K hK => ?_)
              · as_aux_lemma =>
                  refine value_ (w1 := (w3.alloc (.cells #[.int .i64 (i : Int)] 3))) (v := .slice (some ⟨w3.heap.size, 0, none⟩) 1 1) (by rfl) rfl (by first | (go_simp; done) | (go_simp; rfl)) ?_
                  have hb : Below w3.heap.size w3 (w3.alloc (.cells #[.int .i64 (i : Int)] 3)) := below_alloc (Below.refl _ _) _
                  have n9_ : (w3.alloc (.cells #[.int .i64 (i : Int)] 3)).heap[w3.heap.size]? = some (.cells #[.int .i64 (i : Int)] 3 (0, 0)) := blk_new _ _
                  obtain ⟨bA, hzbA⟩ : ∃ b, b = w3.heap.size := ⟨_, rfl⟩
                  rw [← hzbA] at n9_ ⊢
                  have LA := Aside0.mk n9_
                  have HVbA : Aside0 (∀ k, (u20 : Value).ownBlock = some k → k < bA) := ⟨fun k hk => by rw [hzbA]; exact Kd.R_lt HC.out k hk⟩
                  replace HC := Aside0.mk (Kd.R_below HC.out hb)
                  replace HD := Aside0.mk (Kd.R_below HD.out hb)
                  replace HE := Aside0.mk (Kd.N_below HE.out hb)
                  replace HS := Aside0.mk (Kd.R_below HS.out hb)
                  replace HO := Aside0.mk (Kd.R_below HO.out hb)
                  replace HQF := Aside0.mk (Kd.F_below HQF.out hb)
                  replace BG := Aside0.mk (blk_below BG.out hb)
                  replace HB := Aside0.mk (below_step HB.out hb)
                  replace HWZ : Aside0 (b3 ≤ (w3.alloc (.cells #[.int .i64 (i : Int)] 3)).heap.size) := ⟨Nat.le_trans HWZ.out hb.size⟩
                  clear hb n9_ hzbA
                  generalize (w3.alloc (.cells #[.int .i64 (i : Int)] 3)) = x10 at HC HD HE HS HO HQF BG HB HWZ LA ⊢
                  refine hK.out _ _ ⟨(blk_cell BG.out 0).trans rfl, Kd.F_now HQF.out⟩ (fun hHeld => ?_)
                  clear hK K
                  refine norm_ (a' := ?_) ?_ ?_
                  rotate_left
                  · show Act.put _ (some 121) _ = _
                    simp only [Act.put, List.setIfInBounds_toArray, List.set_cons_zero, List.set_cons_succ]
                    rfl
                  refine two_ (i := 3) (j := 10) (Ni := some 122) (Nj := some 129) #[true, true, true, true, true, true, true, true, true, true, false, false, false, false] #[true, true, true, false, true, true, true, true, true, true, true, false, false, false] rfl rfl rfl rfl (by kernel_rfl) (by decide) (by decide) (fun K hK => ?_) (fun K hK => ?_)
                  · as_aux_lemma =>
                      refine app_int (w0 := w) (base := w.heap.size) (b := bA) (by rfl) (.tmp 119) (.tmp 121) rfl (v := u20) (xs := ((candTo now u i).map fun (x : Nat) => (x : Int))) (y := (i : Int)) rfl rfl LA.out HC.out (fun k hk => ⟨by have := HWZ.out; omega, fun e => by have := Kd.R_lt HD.out k e.symm; omega⟩) HB.out HB.out.size (by rw [List.length_map]; have := candTo_le now u i; have := HRV.out; omega) ?_
                      intro v20 x11 ho hb hg hat
                      have n0_ := Aside0.mk (Kd.R_after HD.out hg hat)
                      have n1_ := Aside0.mk (Kd.N_grown HE.out hg (fun k hk e => by have := (HC.out.1 k e.symm).1; have := HW2.out; have := HW3.out; omega))
                      have n2_ := Aside0.mk (Kd.R_grown HS.out hg (fun k hk e => by have := (HC.out.1 k e.symm).1; have := HW2.out; have := HW3.out; omega))
                      have n3_ := Aside0.mk (Kd.R_grown HO.out hg (fun k hk e => by have := (HC.out.1 k e.symm).1; have := HW2.out; have := HW3.out; omega))
                      have n4_ := Aside0.mk (Kd.F_grown HQF.out hg (fun k hk e => by have := (HC.out.1 k e.symm).1; have := HW2.out; have := HW3.out; omega))
                      have n5_ := Aside0.mk (blk_grown BG.out hg (Kd.R_ne HC.out BG.out (by decide)))
                      have n6_ := Aside0.mk hb
                      have n7_ : Aside0 (b3 ≤ x11.heap.size) := ⟨Nat.le_trans HWZ.out hg.size⟩
                      have n8_ := Aside0.mk ho
                      clear HC HD HE HS HO HQF BG HB HWZ ho hb hg hat LA
                      have HD := n0_
                      have HE := n1_
                      have HS := n2_
                      have HO := n3_
                      have HQF := n4_
                      have BG := n5_
                      have HB := n6_
                      have HWZ := n7_
                      have HC := n8_
                      clear n0_ n1_ n2_ n3_ n4_ n5_ n6_ n7_ n8_
                      refine hK.out _ _ ⟨(blk_cell BG.out 0).trans rfl, Kd.F_now HQF.out⟩ (fun hHeld => ?_)
                      clear hK K
                      refine norm_ (a' := ?_) ?_ ?_
                      rotate_left
                      · show Act.put _ (some 122) _ = _
                        simp only [Act.put, List.setIfInBounds_toArray, List.set_cons_zero, List.set_cons_succ]
                        rfl
                      refine one_ (i := 10) (N := some 129) #[true, true, true, true, true, true, true, true, true, true, true, false, false, false] rfl rfl (by kernel_rfl) (by decide) (fun K hK => ?_)
                      refine value_ (w1 := (x11.alloc (.cells #[.int .i64 (t.f0.getD 0 z27).f0] 3))) (v := .slice (some ⟨x11.heap.size, 0, none⟩) 1 1) (by rfl) rfl (by first | (go_simp; done) | (go_simp; rfl)) ?_
                      have hb : Below x11.heap.size x11 (x11.alloc (.cells #[.int .i64 (t.f0.getD 0 z27).f0] 3)) := below_alloc (Below.refl _ _) _
                      have n9_ : (x11.alloc (.cells #[.int .i64 (t.f0.getD 0 z27).f0] 3)).heap[x11.heap.size]? = some (.cells #[.int .i64 (t.f0.getD 0 z27).f0] 3 (0, 0)) := blk_new _ _
                      obtain ⟨bB, hzbB⟩ : ∃ b, b = x11.heap.size := ⟨_, rfl⟩
                      rw [← hzbB] at n9_ ⊢
                      have LB := Aside0.mk n9_
                      have HVbB : Aside0 (∀ k, (v20 : Value).ownBlock = some k → k < bB) := ⟨fun k hk => by rw [hzbB]; exact Kd.R_lt HC.out k hk⟩
                      replace HC := Aside0.mk (Kd.R_below HC.out hb)
                      replace HD := Aside0.mk (Kd.R_below HD.out hb)
                      replace HE := Aside0.mk (Kd.N_below HE.out hb)
                      replace HS := Aside0.mk (Kd.R_below HS.out hb)
                      replace HO := Aside0.mk (Kd.R_below HO.out hb)
                      replace HQF := Aside0.mk (Kd.F_below HQF.out hb)
                      replace BG := Aside0.mk (blk_below BG.out hb)
                      replace HB := Aside0.mk (below_step HB.out hb)
                      replace HWZ : Aside0 (b3 ≤ (x11.alloc (.cells #[.int .i64 (t.f0.getD 0 z27).f0] 3)).heap.size) := ⟨Nat.le_trans HWZ.out hb.size⟩
                      clear hb n9_ hzbB
                      generalize (x11.alloc (.cells #[.int .i64 (t.f0.getD 0 z27).f0] 3)) = x12 at HC HD HE HS HO HQF BG HB HWZ LB ⊢
                      refine hK.out _ _ ⟨(blk_cell BG.out 0).trans rfl, Kd.F_now HQF.out⟩ (fun hHeld => ?_)
                      clear hK K
                      refine norm_ (a' := ?_) ?_ ?_
                      rotate_left
                      · show Act.put _ (some 129) _ = _
                        simp only [Act.put, List.setIfInBounds_toArray, List.set_cons_zero, List.set_cons_succ]
                        rfl
                      refine one_ (i := 11) (N := some 130) #[true, true, true, true, true, true, true, true, true, true, true, true, false, false] rfl rfl (by kernel_rfl) (by decide) (fun K hK => ?_)
                      refine app_int (w0 := w) (base := w.heap.size) (b := bB) (by rfl) (.tmp 123) (.tmp 129) rfl (v := u21) (xs := (idsTo now u i)) (y := (t.f0.getD 0 z27).f0) rfl rfl LB.out HD.out (fun k hk => ⟨by have := HWZ.out; omega, fun e => by have := Kd.R_lt HC.out k e.symm; omega⟩) HB.out HB.out.size (by rw [idsTo_len]; have := candTo_le now u i; have := HRV.out; omega) ?_
                      intro v21 x13 ho hb hg hat
                      have n0_ := Aside0.mk (Kd.R_after HC.out hg hat)
                      have n1_ := Aside0.mk (Kd.N_grown HE.out hg (fun k hk e => by have := (HD.out.1 k e.symm).1; have := HW2.out; have := HW3.out; omega))
                      have n2_ := Aside0.mk (Kd.R_grown HS.out hg (fun k hk e => by have := (HD.out.1 k e.symm).1; have := HW2.out; have := HW3.out; omega))
                      have n3_ := Aside0.mk (Kd.R_grown HO.out hg (fun k hk e => by have := (HD.out.1 k e.symm).1; have := HW2.out; have := HW3.out; omega))
                      have n4_ := Aside0.mk (Kd.F_grown HQF.out hg (fun k hk e => by have := (HD.out.1 k e.symm).1; have := HW2.out; have := HW3.out; omega))
                      have n5_ := Aside0.mk (blk_grown BG.out hg (Kd.R_ne HD.out BG.out (by decide)))
                      have n6_ := Aside0.mk hb
                      have n7_ : Aside0 (b3 ≤ x13.heap.size) := ⟨Nat.le_trans HWZ.out hg.size⟩
                      have n8_ := Aside0.mk ho
                      clear HC HD HE HS HO HQF BG HB HWZ ho hb hg hat LB
                      have HC := n0_
                      have HE := n1_
                      have HS := n2_
                      have HO := n3_
                      have HQF := n4_
                      have BG := n5_
                      have HB := n6_
                      have HWZ := n7_
                      have HD := n8_
                      clear n0_ n1_ n2_ n3_ n4_ n5_ n6_ n7_ n8_
                      refine hK.out _ _ ⟨(blk_cell BG.out 0).trans rfl, Kd.F_now HQF.out⟩ (fun hHeld => ?_)
                      clear hK K
                      refine norm_ (a' := ?_) ?_ ?_
                      rotate_left
                      · show Act.put _ (some 130) _ = _
                        simp only [Act.put, List.setIfInBounds_toArray, List.set_cons_zero, List.set_cons_succ]
                        rfl
                      refine pure_ (i := 12) (N := some 20) (v := ?_) (a' := ?_) #[true, true, true, true, true, true, true, true, true, true, true, true, true, false] rfl rfl (by kernel_rfl) (fun _ _ _ h => h) (Or.inl ⟨by rfl, ?_⟩) ?_ ?_
                      rotate_left
                      · intro w'
                        go_simp
                        with_reducible rfl
                      rotate_left
                      · simp only [Act.put, List.setIfInBounds_toArray, List.set_cons_zero, List.set_cons_succ]
                        rfl
                      refine pure_ (i := 13) (N := some 21) (v := ?_) (a' := ?_) #[true, true, true, true, true, true, true, true, true, true, true, true, true, true] rfl rfl (by kernel_rfl) (fun _ _ _ h => h) (Or.inl ⟨by rfl, ?_⟩) ?_ ?_
                      rotate_left
                      · intro w'
                        go_simp
                        with_reducible rfl
                      rotate_left
                      · simp only [Act.put, List.setIfInBounds_toArray, List.set_cons_zero, List.set_cons_succ]
                        rfl
                      refine done_ (by kernel_rfl) ?_
                      go_wp2_with fail
                      go_meet
                      case rel => exact ⟨_, _, rfl, rfl, ⟨by rw [candTo_succ, if_pos HMY.out, List.map_append]; exact HC.out⟩, ⟨by rw [idsTo_succ, if_pos HMY.out, HTI.out]; exact HD.out⟩, HE, HS, HO, HWZ, HB⟩
                  · as_aux_lemma =>
                      refine value_ (w1 := (x10.alloc (.cells #[.int .i64 (t.f0.getD 0 z27).f0] 3))) (v := .slice (some ⟨x10.heap.size, 0, none⟩) 1 1) (by rfl) rfl (by first | (go_simp; done) | (go_simp; rfl)) ?_
                      have hb : Below x10.heap.size x10 (x10.alloc (.cells #[.int .i64 (t.f0.getD 0 z27).f0] 3)) := below_alloc (Below.refl _ _) _
                      have n9_ : (x10.alloc (.cells #[.int .i64 (t.f0.getD 0 z27).f0] 3)).heap[x10.heap.size]? = some (.cells #[.int .i64 (t.f0.getD 0 z27).f0] 3 (0, 0)) := blk_new _ _
                      obtain ⟨bB, hzbB⟩ : ∃ b, b = x10.heap.size := ⟨_, rfl⟩
                      rw [← hzbB] at n9_ ⊢
                      have LB := Aside0.mk n9_
                      have HVbB : Aside0 (∀ k, (u20 : Value).ownBlock = some k → k < bB) := ⟨fun k hk => by rw [hzbB]; exact Kd.R_lt HC.out k hk⟩
                      replace HC := Aside0.mk (Kd.R_below HC.out hb)
                      replace HD := Aside0.mk (Kd.R_below HD.out hb)
                      replace HE := Aside0.mk (Kd.N_below HE.out hb)
                      replace HS := Aside0.mk (Kd.R_below HS.out hb)
                      replace HO := Aside0.mk (Kd.R_below HO.out hb)
                      replace HQF := Aside0.mk (Kd.F_below HQF.out hb)
                      replace BG := Aside0.mk (blk_below BG.out hb)
                      replace HB := Aside0.mk (below_step HB.out hb)
                      replace LA := Aside0.mk (blk_below LA.out hb)
                      replace HWZ : Aside0 (b3 ≤ (x10.alloc (.cells #[.int .i64 (t.f0.getD 0 z27).f0] 3)).heap.size) := ⟨Nat.le_trans HWZ.out hb.size⟩
                      clear hb n9_ hzbB
                      generalize (x10.alloc (.cells #[.int .i64 (t.f0.getD 0 z27).f0] 3)) = x11 at HC HD HE HS HO HQF BG HB HWZ LA LB ⊢
                      refine hK.out _ _ ⟨(blk_cell BG.out 0).trans rfl, Kd.F_now HQF.out⟩ (fun hHeld => ?_)
                      clear hK K
                      refine norm_ (a' := ?_) ?_ ?_
                      rotate_left
                      · show Act.put _ (some 129) _ = _
                        simp only [Act.put, List.setIfInBounds_toArray, List.set_cons_zero, List.set_cons_succ]
                        rfl
                      refine one_ (i := 3) (N := some 122) #[true, true, true, true, true, true, true, true, true, true, true, false, false, false] rfl rfl (by kernel_rfl) (by decide) (fun K hK => ?_)
                      refine app_int (w0 := w) (base := w.heap.size) (b := bA) (by rfl) (.tmp 119) (.tmp 121) rfl (v := u20) (xs := ((candTo now u i).map fun (x : Nat) => (x : Int))) (y := (i : Int)) rfl rfl LA.out HC.out (fun k hk => ⟨by have := HWZ.out; omega, fun e => by have := Kd.R_lt HD.out k e.symm; omega⟩) HB.out HB.out.size (by rw [List.length_map]; have := candTo_le now u i; have := HRV.out; omega) ?_
                      intro v20 x12 ho hb hg hat
                      have n0_ := Aside0.mk (Kd.R_after HD.out hg hat)
                      have n1_ := Aside0.mk (Kd.N_grown HE.out hg (fun k hk e => by have := (HC.out.1 k e.symm).1; have := HW2.out; have := HW3.out; omega))
                      have n2_ := Aside0.mk (Kd.R_grown HS.out hg (fun k hk e => by have := (HC.out.1 k e.symm).1; have := HW2.out; have := HW3.out; omega))
                      have n3_ := Aside0.mk (Kd.R_grown HO.out hg (fun k hk e => by have := (HC.out.1 k e.symm).1; have := HW2.out; have := HW3.out; omega))
                      have n4_ := Aside0.mk (Kd.F_grown HQF.out hg (fun k hk e => by have := (HC.out.1 k e.symm).1; have := HW2.out; have := HW3.out; omega))
                      have n5_ := Aside0.mk (blk_grown BG.out hg (Kd.R_ne HC.out BG.out (by decide)))
                      have n6_ := Aside0.mk hb
                      have n7_ : Aside0 (b3 ≤ x12.heap.size) := ⟨Nat.le_trans HWZ.out hg.size⟩
                      have n8_ := Aside0.mk ho
                      have nL_ := Aside0.mk (blk_grown LB.out hg (fun e => by have := HVbB.out _ e.symm; omega))
                      clear HC HD HE HS HO HQF BG HB HWZ ho hb hg hat LA LB
                      have HD := n0_
                      have HE := n1_
                      have HS := n2_
                      have HO := n3_
                      have HQF := n4_
                      have BG := n5_
                      have HB := n6_
                      have HWZ := n7_
                      have HC := n8_
                      have LB := nL_
                      clear n0_ n1_ n2_ n3_ n4_ n5_ n6_ n7_ n8_ nL_
                      refine hK.out _ _ ⟨(blk_cell BG.out 0).trans rfl, Kd.F_now HQF.out⟩ (fun hHeld => ?_)
                      clear hK K
                      refine norm_ (a' := ?_) ?_ ?_
                      rotate_left
                      · show Act.put _ (some 122) _ = _
                        simp only [Act.put, List.setIfInBounds_toArray, List.set_cons_zero, List.set_cons_succ]
                        rfl
                      refine one_ (i := 11) (N := some 130) #[true, true, true, true, true, true, true, true, true, true, true, true, false, false] rfl rfl (by kernel_rfl) (by decide) (fun K hK => ?_)
                      refine app_int (w0 := w) (base := w.heap.size) (b := bB) (by rfl) (.tmp 123) (.tmp 129) rfl (v := u21) (xs := (idsTo now u i)) (y := (t.f0.getD 0 z27).f0) rfl rfl LB.out HD.out (fun k hk => ⟨by have := HWZ.out; omega, fun e => by have := Kd.R_lt HC.out k e.symm; omega⟩) HB.out HB.out.size (by rw [idsTo_len]; have := candTo_le now u i; have := HRV.out; omega) ?_
                      intro v21 x13 ho hb hg hat
                      have n0_ := Aside0.mk (Kd.R_after HC.out hg hat)
                      have n1_ := Aside0.mk (Kd.N_grown HE.out hg (fun k hk e => by have := (HD.out.1 k e.symm).1; have := HW2.out; have := HW3.out; omega))
                      have n2_ := Aside0.mk (Kd.R_grown HS.out hg (fun k hk e => by have := (HD.out.1 k e.symm).1; have := HW2.out; have := HW3.out; omega))
                      have n3_ := Aside0.mk (Kd.R_grown HO.out hg (fun k hk e => by have := (HD.out.1 k e.symm).1; have := HW2.out; have := HW3.out; omega))
                      have n4_ := Aside0.mk (Kd.F_grown HQF.out hg (fun k hk e => by have := (HD.out.1 k e.symm).1; have := HW2.out; have := HW3.out; omega))
                      have n5_ := Aside0.mk (blk_grown BG.out hg (Kd.R_ne HD.out BG.out (by decide)))
                      have n6_ := Aside0.mk hb
                      have n7_ : Aside0 (b3 ≤ x13.heap.size) := ⟨Nat.le_trans HWZ.out hg.size⟩
                      have n8_ := Aside0.mk ho
                      clear HC HD HE HS HO HQF BG HB HWZ ho hb hg hat LB
                      have HC := n0_
                      have HE := n1_
                      have HS := n2_
                      have HO := n3_
                      have HQF := n4_
                      have BG := n5_
                      have HB := n6_
                      have HWZ := n7_
                      have HD := n8_
                      clear n0_ n1_ n2_ n3_ n4_ n5_ n6_ n7_ n8_
                      refine hK.out _ _ ⟨(blk_cell BG.out 0).trans rfl, Kd.F_now HQF.out⟩ (fun hHeld => ?_)
                      clear hK K
                      refine norm_ (a' := ?_) ?_ ?_
                      rotate_left
                      · show Act.put _ (some 130) _ = _
                        simp only [Act.put, List.setIfInBounds_toArray, List.set_cons_zero, List.set_cons_succ]
                        rfl
                      refine pure_ (i := 12) (N := some 20) (v := ?_) (a' := ?_) #[true, true, true, true, true, true, true, true, true, true, true, true, true, false] rfl rfl (by kernel_rfl) (fun _ _ _ h => h) (Or.inl ⟨by rfl, ?_⟩) ?_ ?_
                      rotate_left
                      · intro w'
                        go_simp
                        with_reducible rfl
                      rotate_left
                      · simp only [Act.put, List.setIfInBounds_toArray, List.set_cons_zero, List.set_cons_succ]
                        rfl
                      refine pure_ (i := 13) (N := some 21) (v := ?_) (a' := ?_) #[true, true, true, true, true, true, true, true, true, true, true, true, true, true] rfl rfl (by kernel_rfl) (fun _ _ _ h => h) (Or.inl ⟨by rfl, ?_⟩) ?_ ?_
                      rotate_left
                      · intro w'
                        go_simp
                        with_reducible rfl
                      rotate_left
                      · simp only [Act.put, List.setIfInBounds_toArray, List.set_cons_zero, List.set_cons_succ]
                        rfl
                      refine done_ (by kernel_rfl) ?_
                      go_wp2_with fail
                      go_meet
                      case rel => exact ⟨_, _, rfl, rfl, ⟨by rw [candTo_succ, if_pos HMY.out, List.map_append]; exact HC.out⟩, ⟨by rw [idsTo_succ, if_pos HMY.out, HTI.out]; exact HD.out⟩, HE, HS, HO, HWZ, HB⟩
              · as_aux_lemma =>
                  refine value_ (w1 := (w3.alloc (.cells #[.int .i64 (t.f0.getD 0 z27).f0] 3))) (v := .slice (some ⟨w3.heap.size, 0, none⟩) 1 1) (by rfl) rfl (by first | (go_simp; done) | (go_simp; rfl)) ?_
                  have hb : Below w3.heap.size w3 (w3.alloc (.cells #[.int .i64 (t.f0.getD 0 z27).f0] 3)) := below_alloc (Below.refl _ _) _
                  have n9_ : (w3.alloc (.cells #[.int .i64 (t.f0.getD 0 z27).f0] 3)).heap[w3.heap.size]? = some (.cells #[.int .i64 (t.f0.getD 0 z27).f0] 3 (0, 0)) := blk_new _ _
                  obtain ⟨bB, hzbB⟩ : ∃ b, b = w3.heap.size := ⟨_, rfl⟩
                  rw [← hzbB] at n9_ ⊢
                  have LB := Aside0.mk n9_
                  have HVbB : Aside0 (∀ k, (u20 : Value).ownBlock = some k → k < bB) := ⟨fun k hk => by rw [hzbB]; exact Kd.R_lt HC.out k hk⟩
                  replace HC := Aside0.mk (Kd.R_below HC.out hb)
                  replace HD := Aside0.mk (Kd.R_below HD.out hb)
                  replace HE := Aside0.mk (Kd.N_below HE.out hb)
                  replace HS := Aside0.mk (Kd.R_below HS.out hb)
                  replace HO := Aside0.mk (Kd.R_below HO.out hb)
                  replace HQF := Aside0.mk (Kd.F_below HQF.out hb)
                  replace BG := Aside0.mk (blk_below BG.out hb)
                  replace HB := Aside0.mk (below_step HB.out hb)
                  replace HWZ : Aside0 (b3 ≤ (w3.alloc (.cells #[.int .i64 (t.f0.getD 0 z27).f0] 3)).heap.size) := ⟨Nat.le_trans HWZ.out hb.size⟩
                  clear hb n9_ hzbB
                  generalize (w3.alloc (.cells #[.int .i64 (t.f0.getD 0 z27).f0] 3)) = x10 at HC HD HE HS HO HQF BG HB HWZ LB ⊢
                  refine hK.out _ _ ⟨(blk_cell BG.out 0).trans rfl, Kd.F_now HQF.out⟩ (fun hHeld => ?_)
                  clear hK K
                  refine norm_ (a' := ?_) ?_ ?_
                  rotate_left
                  · show Act.put _ (some 129) _ = _
                    simp only [Act.put, List.setIfInBounds_toArray, List.set_cons_zero, List.set_cons_succ]
                    rfl
                  refine one_ (i := 2) (N := some 121) #[true, true, true, false, true, true, true, true, true, true, true, false, false, false] rfl rfl (by kernel_rfl) (by decide) (fun K hK => ?_)
                  refine value_ (w1 := (x10.alloc (.cells #[.int .i64 (i : Int)] 3))) (v := .slice (some ⟨x10.heap.size, 0, none⟩) 1 1) (by rfl) rfl (by first | (go_simp; done) | (go_simp; rfl)) ?_
                  have hb : Below x10.heap.size x10 (x10.alloc (.cells #[.int .i64 (i : Int)] 3)) := below_alloc (Below.refl _ _) _
                  have n9_ : (x10.alloc (.cells #[.int .i64 (i : Int)] 3)).heap[x10.heap.size]? = some (.cells #[.int .i64 (i : Int)] 3 (0, 0)) := blk_new _ _
                  obtain ⟨bA, hzbA⟩ : ∃ b, b = x10.heap.size := ⟨_, rfl⟩
                  rw [← hzbA] at n9_ ⊢
                  have LA := Aside0.mk n9_
                  have HVbA : Aside0 (∀ k, (u20 : Value).ownBlock = some k → k < bA) := ⟨fun k hk => by rw [hzbA]; exact Kd.R_lt HC.out k hk⟩
                  replace HC := Aside0.mk (Kd.R_below HC.out hb)
                  replace HD := Aside0.mk (Kd.R_below HD.out hb)
                  replace HE := Aside0.mk (Kd.N_below HE.out hb)
                  replace HS := Aside0.mk (Kd.R_below HS.out hb)
                  replace HO := Aside0.mk (Kd.R_below HO.out hb)
                  replace HQF := Aside0.mk (Kd.F_below HQF.out hb)
                  replace BG := Aside0.mk (blk_below BG.out hb)
                  replace HB := Aside0.mk (below_step HB.out hb)
                  replace LB := Aside0.mk (blk_below LB.out hb)
                  replace HWZ : Aside0 (b3 ≤ (x10.alloc (.cells #[.int .i64 (i : Int)] 3)).heap.size) := ⟨Nat.le_trans HWZ.out hb.size⟩
                  clear hb n9_ hzbA
                  generalize (x10.alloc (.cells #[.int .i64 (i : Int)] 3)) = x11 at HC HD HE HS HO HQF BG HB HWZ LB LA ⊢
                  refine hK.out _ _ ⟨(blk_cell BG.out 0).trans rfl, Kd.F_now HQF.out⟩ (fun hHeld => ?_)
                  clear hK K
                  refine norm_ (a' := ?_) ?_ ?_
                  rotate_left
                  · show Act.put _ (some 121) _ = _
                    simp only [Act.put, List.setIfInBounds_toArray, List.set_cons_zero, List.set_cons_succ]
                    rfl
                  refine one_ (i := 3) (N := some 122) #[true, true, true, true, true, true, true, true, true, true, true, false, false, false] rfl rfl (by kernel_rfl) (by decide) (fun K hK => ?_)
                  refine app_int (w0 := w) (base := w.heap.size) (b := bA) (by rfl) (.tmp 119) (.tmp 121) rfl (v := u20) (xs := ((candTo now u i).map fun (x : Nat) => (x : Int))) (y := (i : Int)) rfl rfl LA.out HC.out (fun k hk => ⟨by have := HWZ.out; omega, fun e => by have := Kd.R_lt HD.out k e.symm; omega⟩) HB.out HB.out.size (by rw [List.length_map]; have := candTo_le now u i; have := HRV.out; omega) ?_
                  intro v20 x12 ho hb hg hat
                  have n0_ := Aside0.mk (Kd.R_after HD.out hg hat)
                  have n1_ := Aside0.mk (Kd.N_grown HE.out hg (fun k hk e => by have := (HC.out.1 k e.symm).1; have := HW2.out; have := HW3.out; omega))
                  have n2_ := Aside0.mk (Kd.R_grown HS.out hg (fun k hk e => by have := (HC.out.1 k e.symm).1; have := HW2.out; have := HW3.out; omega))
                  have n3_ := Aside0.mk (Kd.R_grown HO.out hg (fun k hk e => by have := (HC.out.1 k e.symm).1; have := HW2.out; have := HW3.out; omega))
                  have n4_ := Aside0.mk (Kd.F_grown HQF.out hg (fun k hk e => by have := (HC.out.1 k e.symm).1; have := HW2.out; have := HW3.out; omega))
                  have n5_ := Aside0.mk (blk_grown BG.out hg (Kd.R_ne HC.out BG.out (by decide)))
                  have n6_ := Aside0.mk hb
                  have n7_ : Aside0 (b3 ≤ x12.heap.size) := ⟨Nat.le_trans HWZ.out hg.size⟩
                  have n8_ := Aside0.mk ho
                  have nL_ := Aside0.mk (blk_grown LB.out hg (fun e => by have := HVbB.out _ e.symm; omega))
                  clear HC HD HE HS HO HQF BG HB HWZ ho hb hg hat LB LA
                  have HD := n0_
                  have HE := n1_
                  have HS := n2_
                  have HO := n3_
                  have HQF := n4_
                  have BG := n5_
                  have HB := n6_
                  have HWZ := n7_
                  have HC := n8_
                  have LB := nL_
                  clear n0_ n1_ n2_ n3_ n4_ n5_ n6_ n7_ n8_ nL_
                  refine hK.out _ _ ⟨(blk_cell BG.out 0).trans rfl, Kd.F_now HQF.out⟩ (fun hHeld => ?_)
                  clear hK K
                  refine norm_ (a' := ?_) ?_ ?_
                  rotate_left
                  · show Act.put _ (some 122) _ = _
                    simp only [Act.put, List.setIfInBounds_toArray, List.set_cons_zero, List.set_cons_succ]
                    rfl
                  refine one_ (i := 11) (N := some 130) #[true, true, true, true, true, true, true, true, true, true, true, true, false, false] rfl rfl (by kernel_rfl) (by decide) (fun K hK => ?_)
                  refine app_int (w0 := w) (base := w.heap.size) (b := bB) (by rfl) (.tmp 123) (.tmp 129) rfl (v := u21) (xs := (idsTo now u i)) (y := (t.f0.getD 0 z27).f0) rfl rfl LB.out HD.out (fun k hk => ⟨by have := HWZ.out; omega, fun e => by have := Kd.R_lt HC.out k e.symm; omega⟩) HB.out HB.out.size (by rw [idsTo_len]; have := candTo_le now u i; have := HRV.out; omega) ?_
                  intro v21 x13 ho hb hg hat
                  have n0_ := Aside0.mk (Kd.R_after HC.out hg hat)
                  have n1_ := Aside0.mk (Kd.N_grown HE.out hg (fun k hk e => by have := (HD.out.1 k e.symm).1; have := HW2.out; have := HW3.out; omega))
                  have n2_ := Aside0.mk (Kd.R_grown HS.out hg (fun k hk e => by have := (HD.out.1 k e.symm).1; have := HW2.out; have := HW3.out; omega))
                  have n3_ := Aside0.mk (Kd.R_grown HO.out hg (fun k hk e => by have := (HD.out.1 k e.symm).1; have := HW2.out; have := HW3.out; omega))
                  have n4_ := Aside0.mk (Kd.F_grown HQF.out hg (fun k hk e => by have := (HD.out.1 k e.symm).1; have := HW2.out; have := HW3.out; omega))
                  have n5_ := Aside0.mk (blk_grown BG.out hg (Kd.R_ne HD.out BG.out (by decide)))
                  have n6_ := Aside0.mk hb
                  have n7_ : Aside0 (b3 ≤ x13.heap.size) := ⟨Nat.le_trans HWZ.out hg.size⟩
                  have n8_ := Aside0.mk ho
                  clear HC HD HE HS HO HQF BG HB HWZ ho hb hg hat LB
                  have HC := n0_
                  have HE := n1_
                  have HS := n2_
                  have HO := n3_
                  have HQF := n4_
                  have BG := n5_
                  have HB := n6_
                  have HWZ := n7_
                  have HD := n8_
                  clear n0_ n1_ n2_ n3_ n4_ n5_ n6_ n7_ n8_
                  refine hK.out _ _ ⟨(blk_cell BG.out 0).trans rfl, Kd.F_now HQF.out⟩ (fun hHeld => ?_)
                  clear hK K
                  refine norm_ (a' := ?_) ?_ ?_
                  rotate_left
                  · show Act.put _ (some 130) _ = _
                    simp only [Act.put, List.setIfInBounds_toArray, List.set_cons_zero, List.set_cons_succ]
                    rfl
                  refine pure_ (i := 12) (N := some 20) (v := ?_) (a' := ?_) #[true, true, true, true, true, true, true, true, true, true, true, true, true, false] rfl rfl (by kernel_rfl) (fun _ _ _ h => h) (Or.inl ⟨by rfl, ?_⟩) ?_ ?_
                  rotate_left
                  · intro w'
                    go_simp
                    with_reducible rfl
                  rotate_left
                  · simp only [Act.put, List.setIfInBounds_toArray, List.set_cons_zero, List.set_cons_succ]
                    rfl
                  refine pure_ (i := 13) (N := some 21) (v := ?_) (a' := ?_) #[true, true, true, true, true, true, true, true, true, true, true, true, true, true] rfl rfl (by kernel_rfl) (fun _ _ _ h => h) (Or.inl ⟨by rfl, ?_⟩) ?_ ?_
                  rotate_left
                  · intro w'
                    go_simp
                    with_reducible rfl
                  rotate_left
                  · simp only [Act.put, List.setIfInBounds_toArray, List.set_cons_zero, List.set_cons_succ]
                    rfl
                  refine done_ (by kernel_rfl) ?_
                  go_wp2_with fail
                  go_meet
                  case rel => exact ⟨_, _, rfl, rfl, ⟨by rw [candTo_succ, if_pos HMY.out, List.map_append]; exact HC.out⟩, ⟨by rw [idsTo_succ, if_pos HMY.out, HTI.out]; exact HD.out⟩, HE, HS, HO, HWZ, HB⟩
            case rest => as_aux_lemma =>
              clear HC HD HE HS HO HWZ HB
              obtain ⟨z20, z21, rfl, rfl, HC, HD, HE, HS, HO, HWZ, HB⟩ := hcut
              go_wp2_with fail
              have hi1 : wrap64 ((i : Int) + 1) = ((i + 1 : Nat) : Int) := by have := HRV.out; rw [EvKit.wrap64_id (by omega) (by omega)]; omega
              go_roundg g3
              case measure => omega
              case rel => exact ⟨i + 1, by first | (rw [← hi1]; done) | rfl | (congr 1; omega), ⟨by have := HII.out; omega⟩, HC, HD, HE, HS, HO, HWZ, HB⟩
    have cjb : decide (j < l.length) = true := decide_eq_true cj
    obtain ⟨g, rfl⟩ : ∃ g, gk = g + 1 := ⟨gk - 1, by have := HJ.out; omega⟩
    have hsmj : smallT (rd_T66 l (j : Int)) = true := small_at HSM.out j cj
    have HSJ := Aside0.mk hsmj
    clear hsmj
    obtain ⟨ad, Aq, cq, ead, hx0, hx1, hx2, hx3, hlq, hcq⟩ := at_T66 HR0.out (j : Int) (by omega) (by omega)
    cases ead
    have HQI := Aside0.mk hcq
    have HQL := Aside0.mk hlq
    clear hcq hlq
    have htk : l.take (j + 1) = l.take j ++ [rd_T66 l (j : Int)] := take_T66 l j cj
    have HTK := Aside0.mk htk
    clear htk
    generalize rd_T66 l (j : Int) = t at hx0 hx1 hx2 hx3 HQI HQL HSJ HTK
    simp only [Int.toNat_natCast] at hx0 hx1 hx2 hx3
    replace hx0 := hc_ HB hx0
    replace hx1 := hc_ HB hx1
    replace hx2 := hc_ HB hx2
    replace hx3 := hc_ HB hx3
    have cj0 : (0 ≤ (j : Int)) = True := eq_true (by omega)
    have cj1 : (j < l.length) = True := eq_true cj
    have cj2 : ((j : Int) < (l.length : Int)) = True := eq_true (by omega)
    go_upto_region 7 with (first | ((with_reducible refine gate_dst (N := 13) rfl ?_); refine box_event ?hggt (N := 13) ?hdgt (cs := #[.slice none 0 0, .int .i64 0, .int .i64 0, .bool false]) (t := 66) ?hrgt ?_; (case hdgt => rfl); (case hggt => rfl); (case hrgt => first | (go_simp; done) | (go_simp; rfl)); intro gt hgz wt hbox hb; have gtZ := Aside0.mk hgz; have gtB := Aside0.mk hbox; have gtH := Aside0.mk hb; clear hgz hbox hb; have gtf0 := blk_frozen gtB.out 0; have gtz0 : wt.cell? ⟨gt, 0, none⟩ = some (.slice none 0 0) := (blk_cell gtB.out 0).trans rfl; have gtf1 := blk_frozen gtB.out 1; have gtz1 : wt.cell? ⟨gt, 1, none⟩ = some (.int .i64 0) := (blk_cell gtB.out 1).trans rfl; have gtf2 := blk_frozen gtB.out 2; have gtz2 : wt.cell? ⟨gt, 2, none⟩ = some (.int .i64 0) := (blk_cell gtB.out 2).trans rfl; have gtf3 := blk_frozen gtB.out 3; have gtz3 : wt.cell? ⟨gt, 3, none⟩ = some (.bool false) := (blk_cell gtB.out 3).trans rfl))
    replace HE := Aside0.mk (Kd.N_mono (Kd.N_bound HE.out) (ok' := fun k => k < gt) (fun k hk => by have := gtZ.out; have := hk.2; omega))
    have HGB : Aside0 (w.heap.size ≤ gt) := ⟨by have := gtZ.out; have := HB.out.size; omega⟩
    have hle : wr.heap.size ≤ gt := Nat.le_of_eq gtZ.out.symm
    have hbW : Below wr.heap.size wr ((((wt.setCell ⟨gt, 0, none⟩ (.slice Aq t.f0.length cq)).setCell ⟨gt, 1, none⟩ (.int .i64 t.f1)).setCell ⟨gt, 2, none⟩ (.int .i64 t.f2)).setCell ⟨gt, 3, none⟩ (.bool t.f3)) := (below_set (below_set (below_set (below_set gtH.out hle) hle) hle) hle)
    have hBT : ((((wt.setCell ⟨gt, 0, none⟩ (.slice Aq t.f0.length cq)).setCell ⟨gt, 1, none⟩ (.int .i64 t.f1)).setCell ⟨gt, 2, none⟩ (.int .i64 t.f2)).setCell ⟨gt, 3, none⟩ (.bool t.f3)).heap[gt]? = some (.cells #[.slice Aq t.f0.length cq, .int .i64 t.f1, .int .i64 t.f2, .bool t.f3] 66 (0, 0)) := (blk_put (blk_put (blk_put (blk_put gtB.out 0 _ rfl) 1 _ rfl) 2 _ rfl) 3 _ rfl)
    generalize ((((wt.setCell ⟨gt, 0, none⟩ (.slice Aq t.f0.length cq)).setCell ⟨gt, 1, none⟩ (.int .i64 t.f1)).setCell ⟨gt, 2, none⟩ (.int .i64 t.f2)).setCell ⟨gt, 3, none⟩ (.bool t.f3)) = w1 at hbW hBT ⊢
    have BT := Aside0.mk hBT
    replace HE := Aside0.mk (Kd.N_below HE.out hbW)
    replace HB := Aside0.mk (below_step HB.out hbW)
    clear hBT hbW hle gtB gtH gtf0 gtz0 gtf1 gtz1 gtf2 gtz2 gtf3 gtz3
    have tz0 : w1.cell? ⟨gt, 0, none⟩ = some (.slice Aq t.f0.length cq) := (blk_cell BT.out 0).trans rfl
    have tf0 := blk_frozen BT.out 0
    have tz1 : w1.cell? ⟨gt, 1, none⟩ = some (.int .i64 t.f1) := (blk_cell BT.out 1).trans rfl
    have tf1 := blk_frozen BT.out 1
    have tz2 : w1.cell? ⟨gt, 2, none⟩ = some (.int .i64 t.f2) := (blk_cell BT.out 2).trans rfl
    have tf2 := blk_frozen BT.out 2
    have tz3 : w1.cell? ⟨gt, 3, none⟩ = some (.bool t.f3) := (blk_cell BT.out 3).trans rfl
    have tf3 := blk_frozen BT.out 3
    clear hx0 hx1 hx2 hx3 cj0 cj1 cj2
    by_cases cg : goodT t = true
    rotate_left
    · have HGT : Aside0 (goodT t = false) := ⟨by simpa using cg⟩
      have hr := HRR.out
      unfold runOf at hr
      rw [if_neg (fun h => by have h1 := List.all_eq_true.1 h.2 t (List.mem_of_mem_take (i := j + 1) (by rw [HTK.out]; simp)); rw [HGT.out] at h1; cases h1)] at hr
      have HR2 := Aside0.mk hr
      clear hr HRR
      go_wp2_with (first | (go_at_call 42; refine (good_calls Aq cq t false _ (Kd.C_below HQI.out HB.out) HQL.out HSJ.out HGT.out).mono ?_; rintro e w2 ⟨rfl, hb⟩; replace HE := Aside0.mk (Kd.N_below HE.out hb); replace BT := Aside0.mk (blk_below BT.out hb); replace HB := Aside0.mk (below_step HB.out hb); clear hb; replace tz0 : w2.cell? ⟨gt, 0, none⟩ = some (.slice Aq t.f0.length cq) := (blk_cell BT.out 0).trans rfl; replace tf0 := blk_frozen BT.out 0; replace tz1 : w2.cell? ⟨gt, 1, none⟩ = some (.int .i64 t.f1) := (blk_cell BT.out 1).trans rfl; replace tf1 := blk_frozen BT.out 1; replace tz2 : w2.cell? ⟨gt, 2, none⟩ = some (.int .i64 t.f2) := (blk_cell BT.out 2).trans rfl; replace tf2 := blk_frozen BT.out 2; replace tz3 : w2.cell? ⟨gt, 3, none⟩ = some (.bool t.f3) := (blk_cell BT.out 3).trans rfl; replace tf3 := blk_frozen BT.out 3))
      go_ret3
      rw [← HR2.out]
      exact endsB_no HB.out
    have HGT := Aside0.mk cg
    go_upto_region 10 with (first | (go_at_call 42; refine (good_calls Aq cq t true _ (Kd.C_below HQI.out HB.out) HQL.out HSJ.out HGT.out).mono ?_; rintro e w2 ⟨rfl, hb⟩; replace HE := Aside0.mk (Kd.N_below HE.out hb); replace BT := Aside0.mk (blk_below BT.out hb); replace HB := Aside0.mk (below_step HB.out hb); clear hb; replace tz0 : w2.cell? ⟨gt, 0, none⟩ = some (.slice Aq t.f0.length cq) := (blk_cell BT.out 0).trans rfl; replace tf0 := blk_frozen BT.out 0; replace tz1 : w2.cell? ⟨gt, 1, none⟩ = some (.int .i64 t.f1) := (blk_cell BT.out 1).trans rfl; replace tf1 := blk_frozen BT.out 1; replace tz2 : w2.cell? ⟨gt, 2, none⟩ = some (.int .i64 t.f2) := (blk_cell BT.out 2).trans rfl; replace tf2 := blk_frozen BT.out 2; replace tz3 : w2.cell? ⟨gt, 3, none⟩ = some (.bool t.f3) := (blk_cell BT.out 3).trans rfl; replace tf3 := blk_frozen BT.out 3))
    go_wp2_with fail
    clear tz0 tz1 tz2 tz3 tf0 tf1 tf2 tf3
    go_loopg [14, 61] t.f0.length (fun g v14 v61 w' => ∃ m : Nat, v61 = .int .i64 (m : Int) ∧ Aside0 (m + g = t.f0.length) ∧ Aside0 (Kd.N k27 27 w' w.heap.size (fun k => k < w.heap.size ∨ gt < k) v14 (t.f0.take m)) ∧ Aside0 (Kd.N k66 66 w' w.heap.size (fun k => k < gt) u11 (l.take j)) ∧ Aside0 (w'.heap[gt]? = some (.cells #[.slice Aq t.f0.length cq, .int .i64 t.f1, .int .i64 t.f2, .bool t.f3] 66 (0, 0))) ∧ Aside0 (Below w.heap.size w w'))
    case atStart => exact ⟨0, rfl, ⟨by omega⟩, ⟨Kd.N_nil _ _ _ _ _⟩, HE, BT, HB⟩
    case round =>
      clear HE BT HB
      obtain ⟨m, rfl, HM, HQ, HE, BT, HB⟩ := hrel
      by_cases cm : m < t.f0.length
      rotate_left
      · have hm : m = t.f0.length := by have := HM.out; omega
        have cmb : decide (m < t.f0.length) = false := decide_eq_false cm
        rw [hm, List.take_length] at HQ
        clear hm cm
        obtain ⟨A14, c14, e14⟩ := Kd.N_slice HQ.out
        subst e14
        have tz0 : wr.cell? ⟨gt, 0, none⟩ = some (.slice Aq t.f0.length cq) := (blk_cell BT.out 0).trans rfl
        have tf0 := blk_frozen BT.out 0
        have tz1 : wr.cell? ⟨gt, 1, none⟩ = some (.int .i64 t.f1) := (blk_cell BT.out 1).trans rfl
        have tf1 := blk_frozen BT.out 1
        have tz2 : wr.cell? ⟨gt, 2, none⟩ = some (.int .i64 t.f2) := (blk_cell BT.out 2).trans rfl
        have tf2 := blk_frozen BT.out 2
        have tz3 : wr.cell? ⟨gt, 3, none⟩ = some (.bool t.f3) := (blk_cell BT.out 3).trans rfl
        have tf3 := blk_frozen BT.out 3
        go_upto_region 16 with (fail)
        have hgb := HGB.out
        replace HE := Aside0.mk (Kd.N_far (p := ⟨gt, 0, none⟩) HE.out (fun k hk => by show k ≠ gt; omega) (.slice A14 t.f0.length c14))
        replace HQ := Aside0.mk (Kd.N_far (p := ⟨gt, 0, none⟩) HQ.out (fun k hk => by show k ≠ gt; omega) (.slice A14 t.f0.length c14))
        have n1_ : Aside0 ((wr.setCell ⟨gt, 0, none⟩ (.slice A14 t.f0.length c14)).heap[gt]? = some (.cells #[.slice A14 t.f0.length c14, .int .i64 t.f1, .int .i64 t.f2, .bool t.f3] 66 (0, 0))) := ⟨blk_put BT.out 0 _ rfl⟩
        have n2_ : Aside0 (Below w.heap.size w (wr.setCell ⟨gt, 0, none⟩ (.slice A14 t.f0.length c14))) := ⟨below_set HB.out hgb⟩
        clear BT HB tz0 tz1 tz2 tz3 tf0 tf1 tf2 tf3 hgb
        generalize (wr.setCell ⟨gt, 0, none⟩ (.slice A14 t.f0.length c14)) = w3 at HE HQ n1_ n2_ ⊢
        have BT := n1_
        have HB := n2_
        clear n1_ n2_
        have tz0 : w3.cell? ⟨gt, 0, none⟩ = some (.slice A14 t.f0.length c14) := (blk_cell BT.out 0).trans rfl
        have tf0 := blk_frozen BT.out 0
        have tz1 : w3.cell? ⟨gt, 1, none⟩ = some (.int .i64 t.f1) := (blk_cell BT.out 1).trans rfl
        have tf1 := blk_frozen BT.out 1
        have tz2 : w3.cell? ⟨gt, 2, none⟩ = some (.int .i64 t.f2) := (blk_cell BT.out 2).trans rfl
        have tf2 := blk_frozen BT.out 2
        have tz3 : w3.cell? ⟨gt, 3, none⟩ = some (.bool t.f3) := (blk_cell BT.out 3).trans rfl
        have tf3 := blk_frozen BT.out 3
        have HQB : Aside0 (∀ k, (u11 : Value).ownBlock = some k → w.heap.size ≤ k ∧ k < gt) := ⟨fun k hk => ⟨Kd.N_base HE.out k hk, HE.out.1 k hk⟩⟩
        go_wp2_with (first | ((with_reducible refine gate_builtin (b := .append) (xs := #[.tmp 77, .tmp 79]) rfl ?_); at_builtin; refine Kd.N_append k66 (w0 := w) w.heap.size rfl (.tmp 77) (.tmp 79) 42 66 (.agg #[.slice none 0 0, .int .i64 0, .int .i64 0, .bool false]) 48 rfl Try.underlying42 info66 rfl (by decide) (by omega) u11 (l.take j) t [.slice A14 t.f0.length c14, .int .i64 t.f1, .int .i64 t.f2, .bool t.f3] (fun _ => True) (fun k => k < w.heap.size ∨ gt < k) rfl rfl (fk66 _ _ t (Kd.N_reads' HQ.out).2.1 (Kd.N_F HQ.out)) (fun k hk => ⟨trivial, fun e => by have := HQB.out k e.symm; omega⟩) (fun _ _ => trivial) (Kd.N_mono HE.out (fun _ _ => trivial)) HB.out HB.out.size (by have := HJ.out; rw [List.length_take]; omega) ?_; intro v11 w4 ho hb hg hat; have HE2 := Aside0.mk ho; have HB2 := Aside0.mk hb; clear ho hb hg hat))
        have hj1 : wrap64 ((j : Int) + 1) = ((j + 1 : Nat) : Int) := by rw [EvKit.wrap64_id (by omega) (by omega)]; omega
        go_roundg g
        case measure => omega
        case rel => exact ⟨j + 1, by first | (rw [← hj1]; done) | rfl | (congr 1; omega), ⟨by have := HJ.out; omega⟩, ⟨by rw [HTK.out]; exact HE2.out⟩, ⟨by rw [HTK.out, List.all_append, HG.out]; simp [HGT.out]⟩, HB2⟩
      have cmb : decide (m < t.f0.length) = true := decide_eq_true cm
      obtain ⟨g2, rfl⟩ : ∃ g2, gk = g2 + 1 := ⟨gk - 1, by have := HM.out; omega⟩
      obtain ⟨ad2, A1, c1, ead2, hx0, hx1, hl1, hi1⟩ := at_T27 HQI.out (m : Int) (by omega) (by omega)
      cases ead2
      have HVB : Aside0 (∀ k, (u14 : Value).ownBlock = some k → w.heap.size ≤ k ∧ k < wr.heap.size) := ⟨fun k hk => ⟨Kd.N_base HQ.out k hk, Kd.N_lt HQ.out k hk⟩⟩
      have HDI := Aside0.mk hi1
      have HDL := Aside0.mk hl1
      clear hi1 hl1
      have htk : t.f0.take (m + 1) = t.f0.take m ++ [rd_T27 t.f0 (m : Int)] := take_T27 t.f0 m cm
      have HTM := Aside0.mk htk
      clear htk
      have HSF : Aside0 ((rd_T27 t.f0 (m : Int)).f1.length ≤ 1048576) := ⟨small_f HSJ.out m cm⟩
      generalize rd_T27 t.f0 (m : Int) = f at hx0 hx1 HDI HDL HTM HSF
      simp only [Int.toNat_natCast] at hx0 hx1
      replace hx0 := hc_ HB hx0
      replace hx1 := hc_ HB hx1
      have cm0 : (0 ≤ (m : Int)) = True := eq_true (by omega)
      have cm1 : (m < t.f0.length) = True := eq_true cm
      have cm2 : ((m : Int) < (t.f0.length : Int)) = True := eq_true (by omega)
      have hbt := Aside0.mk (blk_lt BT.out)
      go_upto_region 13 with (first | ((with_reducible refine gate_dst (N := 16) rfl ?_); refine box_event ?hggc (N := 16) ?hdgc (cs := #[.int .i64 0, .slice none 0 0]) (t := 27) ?hrgc ?_; (case hdgc => rfl); (case hggc => rfl); (case hrgc => first | (go_simp; done) | (go_simp; rfl)); intro gc hgz wc hbox hb; have gcZ := Aside0.mk hgz; have gcB := Aside0.mk hbox; have gcH := Aside0.mk hb; clear hgz hbox hb; have gcf0 := blk_frozen gcB.out 0; have gcz0 : wc.cell? ⟨gc, 0, none⟩ = some (.int .i64 0) := (blk_cell gcB.out 0).trans rfl; have gcf1 := blk_frozen gcB.out 1; have gcz1 : wc.cell? ⟨gc, 1, none⟩ = some (.slice none 0 0) := (blk_cell gcB.out 1).trans rfl))
      have hle : wr.heap.size ≤ gc := Nat.le_of_eq gcZ.out.symm
      have hbW : Below wr.heap.size wr ((wc.setCell ⟨gc, 0, none⟩ (.int .i64 f.f0)).setCell ⟨gc, 1, none⟩ (.slice A1 f.f1.length c1)) := (below_set (below_set gcH.out hle) hle)
      have hBT : ((wc.setCell ⟨gc, 0, none⟩ (.int .i64 f.f0)).setCell ⟨gc, 1, none⟩ (.slice A1 f.f1.length c1)).heap[gc]? = some (.cells #[.int .i64 f.f0, .slice A1 f.f1.length c1] 27 (0, 0)) := (blk_put (blk_put gcB.out 0 _ rfl) 1 _ rfl)
      generalize ((wc.setCell ⟨gc, 0, none⟩ (.int .i64 f.f0)).setCell ⟨gc, 1, none⟩ (.slice A1 f.f1.length c1)) = w5 at hbW hBT ⊢
      have BF := Aside0.mk hBT
      replace HE := Aside0.mk (Kd.N_below HE.out hbW)
      replace HQ := Aside0.mk (Kd.N_below HQ.out hbW)
      replace BT := Aside0.mk (blk_below BT.out hbW)
      replace HB := Aside0.mk (below_step HB.out hbW)
      clear hBT hbW hle gcB gcH gcf0 gcz0 gcf1 gcz1
      have HGC : Aside0 (gt < w5.heap.size ∧ gc < w5.heap.size) := ⟨blk_lt BT.out, blk_lt BF.out⟩
      clear hx0 hx1 cm0 cm1 cm2 hbt
      refine start_ (n := 10) (S := fun w' => w'.cell? ⟨gc, 0, none⟩ = some (.int .i64 f.f0) ∧ w'.cell? ⟨gc, 1, none⟩ = some (.slice A1 f.f1.length c1)) (ds := []) #[false, false, false, false, false, false, false, false, false, false] (by kernel_rfl) rfl rfl ⟨(blk_cell BF.out 0).trans rfl, (blk_cell BF.out 1).trans rfl⟩ (fun hHeld => ?_)
      have hb : Below w5.heap.size w5 w5.drew := by apply below_drew1; exact Below.refl _ _
      replace HE := Aside0.mk (Kd.N_below HE.out hb)
      replace HQ := Aside0.mk (Kd.N_below HQ.out hb)
      replace BT := Aside0.mk (blk_below BT.out hb)
      replace BF := Aside0.mk (blk_below BF.out hb)
      replace HB := Aside0.mk (below_step HB.out hb)
      clear hb
      replace HGC : Aside0 (gt < w5.drew.heap.size ∧ gc < w5.drew.heap.size) := ⟨HGC.out⟩
      generalize w5.drew = w6 at HE HQ BT BF HB HGC hHeld ⊢
      refine pure_ (i := 0) (N := some 65) (v := ?_) (a' := ?_) #[true, false, false, false, false, false, false, false, false, false] rfl rfl (by kernel_rfl) (fun _ _ _ h => h) (Or.inl ⟨by rfl, ?_⟩) ?_ ?_
      rotate_left
      · intro w'
        go_simp
        with_reducible rfl
      rotate_left
      · simp only [Act.put, List.setIfInBounds_toArray, List.set_cons_zero, List.set_cons_succ]
        rfl
      refine pure_ (i := 1) (N := some 66) (v := ?_) (a' := ?_) #[true, true, false, false, false, false, false, false, false, false] rfl rfl (by kernel_rfl) (fun _ _ _ h => h) (Or.inl ⟨by rfl, ?_⟩) ?_ ?_
      rotate_left
      · intro w'
        go_simp
        with_reducible rfl
      rotate_left
      · simp only [Act.put, List.setIfInBounds_toArray, List.set_cons_zero, List.set_cons_succ]
        rfl
      refine pure_ (i := 3) (N := some 68) (v := ?_) (a' := ?_) #[true, true, false, true, false, false, false, false, false, false] rfl rfl (by kernel_rfl) (fun _ _ _ h => h) (Or.inl ⟨by rfl, ?_⟩) ?_ ?_
      rotate_left
      · intro w'
        go_simp
        with_reducible rfl
      rotate_left
      · simp only [Act.put, List.setIfInBounds_toArray, List.set_cons_zero, List.set_cons_succ]
        rfl
      refine take_ (i := 2) (N := some 67) (v := ?_) (a' := ?_) #[true, true, true, true, false, false, false, false, false, false] rfl rfl (by kernel_rfl) (fun _ _ _ h => h) (Or.inl ⟨by rfl, ?_⟩) hHeld ?_ ?_
      rotate_left
      · rintro w' ⟨s0, s1⟩
        go_simp
        with_reducible rfl
      rotate_left
      · simp only [Act.put, List.setIfInBounds_toArray, List.set_cons_zero, List.set_cons_succ]
        rfl
      refine take_ (i := 4) (N := some 69) (v := ?_) (a' := ?_) #[true, true, true, true, true, false, false, false, false, false] rfl rfl (by kernel_rfl) (fun _ _ _ h => h) (Or.inl ⟨by rfl, ?_⟩) hHeld ?_ ?_
      rotate_left
      · rintro w' ⟨s0, s1⟩
        go_simp
        with_reducible rfl
      rotate_left
      · simp only [Act.put, List.setIfInBounds_toArray, List.set_cons_zero, List.set_cons_succ]
        rfl
      refine one_ (i := 5) (N := some 70) #[true, true, true, true, true, true, false, false, false, false] rfl rfl (by kernel_rfl) (by decide) (fun K hK => ?_)
      refine goes_ Try.func43 (by kernel_rfl) rfl #[.slice A1 f.f1.length c1] (by rfl) rfl rfl (by simp only [List.map_toArray, List.map_cons, List.map_nil]; rfl) ?_
      refine (cloneB_calls A1 c1 f.f1 w6 (fun k => k < w.heap.size) (Kd.F_below (Kd.C_F (Kd.heap_int _) HDI.out) HB.out) HSF.out).mono ?_
      rintro e w7 ⟨v7, rfl, hcl, hb⟩
      replace HE := Aside0.mk (Kd.N_below HE.out hb)
      replace HQ := Aside0.mk (Kd.N_below HQ.out hb)
      replace BT := Aside0.mk (blk_below BT.out hb)
      replace BF := Aside0.mk (blk_below BF.out hb)
      replace HB := Aside0.mk (below_step HB.out hb)
      have HCL := Aside0.mk hcl
      have HSZ := Aside0.mk hb.size
      clear hb hcl
      obtain ⟨A7, c7, e7⟩ := Kd.N_slice HCL.out
      subst e7
      refine ⟨_, rfl, ?_⟩
      refine hK.out _ _ ⟨(blk_cell BF.out 0).trans rfl, (blk_cell BF.out 1).trans rfl⟩ (fun hHeld => ?_)
      clear hK K
      refine norm_ (a' := ?_) ?_ ?_
      rotate_left
      · show Act.put _ (some 70) _ = _
        simp only [Act.put, List.setIfInBounds_toArray, List.set_cons_zero, List.set_cons_succ]
        rfl
      refine pure_ (i := 6) (N := some 71) (v := ?_) (a' := ?_) #[true, true, true, true, true, true, true, false, false, false] rfl rfl (by kernel_rfl) (fun _ _ _ h => h) (Or.inl ⟨by rfl, ?_⟩) ?_ ?_
      rotate_left
      · intro w'
        go_simp
        with_reducible rfl
      rotate_left
      · simp only [Act.put, List.setIfInBounds_toArray, List.set_cons_zero, List.set_cons_succ]
        rfl
      refine one_ (i := 7) (N := some 72) #[true, true, true, true, true, true, true, true, false, false] rfl rfl (by kernel_rfl) (by decide) (fun K hK => ?_)
      refine value_ (w1 := w7.alloc (.cells #[.int .i64 f.f0, .slice A7 f.f1.length c7] 27)) (v := .slice (some ⟨w7.heap.size, 0, none⟩) 1 1) (by rfl) rfl (by first | (go_simp; done) | (go_simp; rfl)) ?_
      refine hK.out _ _ ⟨(blk_cell (blk_alloc BF.out _) 0).trans rfl, (blk_cell (blk_alloc BF.out _) 1).trans rfl⟩ (fun hHeld => ?_)
      clear hK K
      refine norm_ (a' := ?_) ?_ ?_
      rotate_left
      · show Act.put _ (some 72) _ = _
        simp only [Act.put, List.setIfInBounds_toArray, List.set_cons_zero, List.set_cons_succ]
        rfl
      refine one_ (i := 8) (N := some 73) #[true, true, true, true, true, true, true, true, true, false] rfl rfl (by kernel_rfl) (by decide) (fun K hK => ?_)
      refine Kd.N_append_step k27 (w0 := w) (W := w7) w.heap.size (by rfl) (.tmp 65) (.tmp 72) 64 27 (.agg #[.int .i64 0, .slice none 0 0]) 32 rfl Try.underlying64 info27 rfl (by decide) (by omega) u14 (t.f0.take m) f [.int .i64 f.f0, .slice A7 f.f1.length c7] (fun k => k < w.heap.size ∨ gt < k) (fun k => k < w.heap.size ∨ w6.heap.size ≤ k) rfl rfl (fk27 _ _ f (Kd.N_reads' HCL.out).2.1 (Kd.N_F HCL.out)) (fun k hk => ⟨by have := HGC.out; omega, fun e => by have := HVB.out k e.symm; have := HGC.out; have := gcZ.out; omega⟩) (fun k hk => by have := HSZ.out; have := HGC.out; omega) HQ.out HB.out HB.out.size (by have := small_q HSJ.out; rw [List.length_take]; omega) ?_
      intro v8 w8 ho hb hg hat
      have hbt := blk_lt BT.out
      have HVL := HVB.out
      have hgc := HGC.out
      have n0_ := Aside0.mk (Kd.N_grown HE.out hg (fun k hk e => by have := HQ.out.1 k e.symm; have := HVL k e.symm; omega))
      have n1_ := Aside0.mk (blk_grown BT.out hg (Kd.N_ne HQ.out BT.out (by decide)))
      have n3_ := Aside0.mk ho
      have n4_ := Aside0.mk hb
      have n2_ := Aside0.mk (blk_grown BF.out hg (fun e => by have := HVL gc e.symm; have := gcZ.out; omega))
      clear HE BT HQ HB hg hat ho hb hbt HVL hgc
      have HE := n0_
      have BT := n1_
      have HQ := n3_
      have HB := n4_
      replace BF := n2_
      clear n0_ n1_ n2_ n3_ n4_
      refine hK.out _ _ ⟨(blk_cell BF.out 0).trans rfl, (blk_cell BF.out 1).trans rfl⟩ (fun hHeld => ?_)
      clear hK K
      refine norm_ (a' := ?_) ?_ ?_
      rotate_left
      · show Act.put _ (some 73) _ = _
        simp only [Act.put, List.setIfInBounds_toArray, List.set_cons_zero, List.set_cons_succ]
        rfl
      refine pure_ (i := 9) (N := some 14) (v := ?_) (a' := ?_) #[true, true, true, true, true, true, true, true, true, true] rfl rfl (by kernel_rfl) (fun _ _ _ h => h) (Or.inl ⟨by rfl, ?_⟩) ?_ ?_
      rotate_left
      · intro w'
        go_simp
        with_reducible rfl
      rotate_left
      · simp only [Act.put, List.setIfInBounds_toArray, List.set_cons_zero, List.set_cons_succ]
        rfl
      refine done_ (by kernel_rfl) ?_
      go_wp2_with fail
      have hm1 : wrap64 ((m : Int) + 1) = ((m + 1 : Nat) : Int) := by have := small_q HSJ.out; rw [EvKit.wrap64_id (by omega) (by omega)]; omega
      go_roundg g2
      case measure => omega
      case rel => exact ⟨m + 1, by first | (rw [← hm1]; done) | rfl | (congr 1; omega), ⟨by have := HM.out; omega⟩, ⟨by rw [HTM.out]; exact HQ.out⟩, HE, BT, HB⟩
theorem impl_RunBus.calls (A0 : Option Addr) (c0 : Nat) (l0 : List S66) (a1 a2 : Int) (A3 : Option Addr) (c3 : Nat) (l3 : List Int) (r1 : List S73) (r2 : List S66) (r3 : Bool) (w : World)
    (hr0 : Kd.C k66 w A0 l0.length l0) (hc0 : l0.length ≤ c0) (hr3 : Kd.C (Kd.int .i64) w A3 l3.length l3) (hc3 : l3.length ≤ c3) (h : impl_RunBus.f l0 a1 a2 l3 = some (r1, r2, r3)) :
    Calls Try.prog 24 #[.slice A0 l0.length c0, .int .i64 a1, .int .i64 a2, .slice A3 l3.length c3] w fun e w' => ∃ v0_ v1_ : Value, e = .returned (.tuple #[v0_, v1_, .bool r3]) ∧ Kd.R k73 73 w' w.heap.size (fun _ => True) v0_ r1 ∧ Kd.N k66 66 w' w.heap.size (fun _ => True) v1_ r2 ∧ Below w.heap.size w w' := by
  unfold impl_RunBus.f at h
  by_cases c : smallB l0 l3 = true
  · rw [if_pos c] at h
    exact runbus_walk A0 c0 l0 a1 a2 A3 c3 l3 w (r1, r2, r3) hr0 hc0 hr3 hc3 c (Option.some.inj h)
  · rw [if_neg c] at h
    cases h
end Go.Proofs.Ytbdonoeellmeoaa.Pr
-- Written by this session's own print (wip/tools/mkmp.py) out of the translation. Lean checks it.
namespace Go.Proofs.Ytbdonoeellmeoaa.Pr
open Go.RowKit Go.Proofs.YtbdonoeellmeoaaW.PrintWords Go.Proofs.YtbdonoeellmeoaaW.PrintLast Go.Proofs.YtbdonoeellmeoaaW.PrintMore
attribute [local go_sem] max2_int min2_int max_two min_two max_three min_three max_four min_four   -- for this text's walks alone
set_option linter.unusedVariables false
set_option linter.unusedSimpArgs false

set_option maxHeartbeats 8000000 in
set_option maxRecDepth 100000 in
theorem spec_GoodFrame.calls (a0_0 : Int) (A0_1 : Option Addr) (c0_1 : Nat) (l0_1 : List Int) (r : Bool) (w : World) (hr0_1 : Kd.C (Kd.int .u8) w A0_1 l0_1.length l0_1) (hc0_1 : l0_1.length ≤ c0_1) (h : spec_GoodFrame.f a0_0 l0_1 = some r) :
   Calls Try.prog 9 #[.agg #[.int .i64 a0_0, .slice A0_1 l0_1.length c0_1]] w fun e w' => e = .returned (.bool r) ∧ Below w.heap.size w w' := by
  have hu27 := Try.underlying27
  have HR0_1 := Aside0.mk hr0_1
  have HC0_1 := Aside0.mk hc0_1
  clear hr0_1 hc0_1
  have HB := Aside0.mk (Below.refl w.heap.size w)
  have H : (if a0_0 ≥ 0 then (if a0_0 ≤ 2047 then (some (decide ((l0_1.length : Int) ≤ 8))) else (some false)) else (some false)) = some r := h
  clear h
  by_cases c2 : a0_0 ≥ 0
  ·rw [if_pos c2] at H
   have c2b0 : decide (0 ≤ a0_0) = true := decide_eq_true c2
   clear c2
   by_cases c3 : a0_0 ≤ 2047
   ·rw [if_pos c3] at H
    have c3b0 : decide (a0_0 ≤ 2047) = true := decide_eq_true c3
    clear c3
    obtain rfl := Option.some.inj H
    go_enter Try.func9, Try.ntmps9
    go_wp2_with (first | ((with_reducible refine gate_dst (N := 1) rfl ?_); (try (refine gate_guard (by rfl) ?_; dsimp only)); refine box_event ?hg (N := 1) ?hd (cs := #[.int .i64 a0_0, .slice A0_1 l0_1.length c0_1]) (t := 27) ?hr ?_; (case hd => rfl); (case hg => rfl); (case hr => first | (go_simp; done) | (go_simp; rfl)); intro gb395 hg w4 hbox hb; have n0_ := Aside0.mk (below_step hb_ hb); have n1_ := Aside0.mk (hbox); have n2_ : Aside0 (w.heap.size ≤ gb395) := gz_; have n3_ : Aside0 (w.heap.size ≤ gb395) := gz_; clear HB; have HB := n0_; have BK395 := n1_; have GW395 := n2_; have GE395 := n3_; clear n0_ n1_ n2_ n3_; clear hb hbox hg; have hcz5_0 : w4.cell? ⟨gb395, 0, none⟩ = some (.int .i64 a0_0) := (blk_cell BK395.out 0).trans rfl; have hcz5_1 : w4.cell? ⟨gb395, 1, none⟩ = some (.slice A0_1 l0_1.length c0_1) := (blk_cell BK395.out 1).trans rfl; have hfz5_0 := blk_frozen BK395.out 0; have hfz5_1 := blk_frozen BK395.out 1))
    go_ret
    exact ⟨er_, hb_⟩
   ·rw [if_neg c3] at H
    have c3b0 : decide (a0_0 ≤ 2047) = false := decide_eq_false c3
    clear c3
    obtain rfl := Option.some.inj H
    go_enter Try.func9, Try.ntmps9
    go_wp2_with (first | ((with_reducible refine gate_dst (N := 1) rfl ?_); (try (refine gate_guard (by rfl) ?_; dsimp only)); refine box_event ?hg (N := 1) ?hd (cs := #[.int .i64 a0_0, .slice A0_1 l0_1.length c0_1]) (t := 27) ?hr ?_; (case hd => rfl); (case hg => rfl); (case hr => first | (go_simp; done) | (go_simp; rfl)); intro gb395 hg w6 hbox hb; have n0_ := Aside0.mk (below_step hb_ hb); have n1_ := Aside0.mk (hbox); have n2_ : Aside0 (w.heap.size ≤ gb395) := gz_; have n3_ : Aside0 (w.heap.size ≤ gb395) := gz_; clear HB; have HB := n0_; have BK395 := n1_; have GW395 := n2_; have GE395 := n3_; clear n0_ n1_ n2_ n3_; clear hb hbox hg; have hcz7_0 : w6.cell? ⟨gb395, 0, none⟩ = some (.int .i64 a0_0) := (blk_cell BK395.out 0).trans rfl; have hcz7_1 : w6.cell? ⟨gb395, 1, none⟩ = some (.slice A0_1 l0_1.length c0_1) := (blk_cell BK395.out 1).trans rfl; have hfz7_0 := blk_frozen BK395.out 0; have hfz7_1 := blk_frozen BK395.out 1))
    go_ret
    exact ⟨er_, hb_⟩
  ·rw [if_neg c2] at H
   have c2b0 : decide (0 ≤ a0_0) = false := decide_eq_false c2
   clear c2
   obtain rfl := Option.some.inj H
   go_enter Try.func9, Try.ntmps9
   go_wp2_with (first | ((with_reducible refine gate_dst (N := 1) rfl ?_); (try (refine gate_guard (by rfl) ?_; dsimp only)); refine box_event ?hg (N := 1) ?hd (cs := #[.int .i64 a0_0, .slice A0_1 l0_1.length c0_1]) (t := 27) ?hr ?_; (case hd => rfl); (case hg => rfl); (case hr => first | (go_simp; done) | (go_simp; rfl)); intro gb395 hg w8 hbox hb; have n0_ := Aside0.mk (below_step hb_ hb); have n1_ := Aside0.mk (hbox); have n2_ : Aside0 (w.heap.size ≤ gb395) := gz_; have n3_ : Aside0 (w.heap.size ≤ gb395) := gz_; clear HB; have HB := n0_; have BK395 := n1_; have GW395 := n2_; have GE395 := n3_; clear n0_ n1_ n2_ n3_; clear hb hbox hg; have hcz9_0 : w8.cell? ⟨gb395, 0, none⟩ = some (.int .i64 a0_0) := (blk_cell BK395.out 0).trans rfl; have hcz9_1 : w8.cell? ⟨gb395, 1, none⟩ = some (.slice A0_1 l0_1.length c0_1) := (blk_cell BK395.out 1).trans rfl; have hfz9_0 := blk_frozen BK395.out 0; have hfz9_1 := blk_frozen BK395.out 1))
   go_ret
   exact ⟨er_, hb_⟩

end Go.Proofs.Ytbdonoeellmeoaa.Pr
