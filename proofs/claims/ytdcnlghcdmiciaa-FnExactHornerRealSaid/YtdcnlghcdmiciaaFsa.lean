/-
Own text: HornerReal, in the program and in the reference; its law.
-/
import Derived.Test.YtdcnlghcdmiciaaFs8
namespace Go.Proofs.Ytdcnlghcdmiciaa.Fl
open Go Ieee Go.RowKit Go.Proofs.YtdcnlghcdmiciaaW.PrintWords Go.Proofs.YtdcnlghcdmiciaaW.PrintLast Go.Proofs.Ytdcnlghcdmiciaa.Opn
set_option linter.unusedVariables false
set_option linter.unusedSimpArgs false
def hornS (x : Nat) : List Nat → Nat
  | [] => 0
  | c :: r => fop .add (fop .mul (hornS x r) x) c
theorem drop_get {l : List Nat} {k : Nat} (h : k < l.length) : l.drop k = l.getD k 0 :: l.drop (k + 1) := by
  rw [List.drop_eq_getElem_cons h]
  simp [List.getD_eq_getElem?_getD, h]
theorem horn_step {l : List Nat} {k x : Nat} (h : k < l.length) : hornS x (l.drop k) = fop .add (fop .mul (hornS x (l.drop (k + 1))) x) (l.getD k 0) := by rw [drop_get h]; rfl
theorem hornS_lt (x : Nat) : ∀ l, hornS x l < 18446744073709551616
  | [] => (by decide : 0 < 18446744073709551616)
  | _ :: _ => fop_lt _ _ _
def hornOk (l : List Nat) (x : Nat) : Bool := goodsB l && goodB x
def hornR (l : List Nat) (x : Nat) : Nat := if hornOk l x then told (hornS x l) else 0
def hornB (l : List Nat) (x : Nat) : Bool := hornOk l x && finB (hornS x l)
theorem horn_no {l : List Nat} {x : Nat} (h : hornOk l x = false) : hornR l x = 0 ∧ hornB l x = false := by unfold hornR hornB; rw [h]; exact ⟨rfl, rfl⟩
theorem horn_yes {l : List Nat} {x : Nat} (h : hornOk l x = true) : hornR l x = told (hornS x l) ∧ hornB l x = finB (hornS x l) := by unfold hornR hornB; rw [h]; exact ⟨rfl, rfl⟩
theorem hornR_lt (l : List Nat) (x : Nat) : hornR l x < 18446744073709551616 := by
  unfold hornR
  split
  · exact told_lt (hornS_lt _ _)
  · decide
section
attribute [local go_sem] run_fadd run_fmul
set_option maxHeartbeats 2000000 in
set_option maxRecDepth 100000 in
theorem spec_HornerReal (A : Option Addr) (c : Nat) (l : List Nat) (x : Nat) (w : World) (hr : flt.C w A l.length l) (hc : l.length ≤ c) (hn : l.length * 8 ≤ 140737488351232) (hb : Bits l) (hx : x < 18446744073709551616) :
    Calls Try.prog 19 #[.slice A l.length c, .float .f64 x] w fun e w' => e = .returned (.tuple #[.float .f64 (hornR l x), .bool (hornB l x)]) ∧ ∃ n, w' = w.drewN n := by
  have H1 := Aside0.mk (l2Goods A c l w hr hc hn hb)
  have H2 := Aside0.mk (spec_GoodReal x hx)
  have HN := Aside0.mk (horn_no (l := l) (x := x))
  have HY := Aside0.mk (horn_yes (l := l) (x := x))
  have HO : Aside0 (hornOk l x = (goodsB l && goodB x)) := ⟨rfl⟩
  have HR := Aside0.mk hr
  have hlen : (l.length : Int) ≤ 17592186044416 := by omega
  clear hr hc hn hb hx
  generalize hornOk l x = ok at *
  generalize goodsB l = g at *
  generalize goodB x = gx at *
  cases g
  case false =>
    have HN2 := Aside0.mk (HN.out HO.out)
    clear HN HY
    go_enter Try.func19, Try.ntmps19
    go_wp2_with (first | (go_at_call 47; refine (H1.out).mono ?_; rintro e w' ⟨rfl, n, rfl⟩))
    go_ret2
    exact ⟨by rw [HN2.out.1, HN2.out.2]; rfl, _, rfl⟩
  cases gx
  case false =>
    have HN2 := Aside0.mk (HN.out HO.out)
    clear HN HY
    go_enter Try.func19, Try.ntmps19
    go_wp2_with (first | (go_at_call 47; refine (H1.out).mono ?_; rintro e w' ⟨rfl, n, rfl⟩) | (go_at_call 35; refine (H2.out _).mono ?_; rintro e w' ⟨rfl, rfl⟩))
    go_ret2
    exact ⟨by rw [HN2.out.1, HN2.out.2]; rfl, _, rfl⟩
  have HY2 := Aside0.mk (HY.out HO.out)
  clear HN HY HO
  go_enter Try.func19, Try.ntmps19
  go_wp2_with (first | (go_at_call 47; refine (H1.out).mono ?_; rintro e w' ⟨rfl, n, rfl⟩) | (go_at_call 35; refine (H2.out _).mono ?_; rintro e w' ⟨rfl, rfl⟩))
  go_loopg [6, 7] l.length (fun g v6 v7 wr => ∃ (y m : Nat) (i : Int), v6 = .float .f64 y ∧ v7 = .int .i64 i ∧ wr = w.drewN m ∧ Aside0 (i = (g : Int) - 1) ∧ Aside0 (g ≤ l.length) ∧ Aside0 (y < 18446744073709551616 ∧ ab y = ab (hornS x (l.drop g))))
  case atStart => exact ⟨0, n, (l.length : Int) - 1, rfl, rfl, rfl, ⟨rfl⟩, ⟨Nat.le_refl _⟩, ⟨by decide, by rw [List.drop_length]; rfl⟩⟩
  case round =>
    obtain ⟨y, m, i, rfl, rfl, rfl, HI, HG, HV⟩ := hrel
    cases gk with
    | zero =>
      obtain rfl : i = -1 := by have := HI.out; omega
      have HV2 : Aside0 (y < 18446744073709551616 ∧ ab y = ab (hornS x l)) := HV
      clear HV HI
      go_wp2_with (go_at_call 37; refine (l2Told _ HV2.out.1 _).mono ?_; rintro e w' ⟨rfl, rfl⟩)
      go_ret2
      refine ⟨?_, _, rfl⟩
      rw [HY2.out.1, HY2.out.2, ← told_ab HV2.out.2, ← fin_eq_ab HV2.out.2]
      rfl
    | succ k =>
      obtain rfl : i = (k : Int) := by have := HI.out; omega
      have hkl : k < l.length := by have := HG.out; omega
      obtain ⟨ad, rfl, hxc⟩ := at_flt HR.out k hkl
      have hk0 : (0 : Int) ≤ (k : Int) := by omega
      have hk1 : (k : Int) < (l.length : Int) := by omega
      have HS := Aside0.mk (horn_step (x := x) hkl)
      clear HI
      generalize l.getD k 0 = cc at *
      go_wp2_with fail
      go_roundg k
      case measure => omega
      case rel =>
        refine ⟨_, _, (k : Int) - 1, rfl, rfl, rfl, ⟨rfl⟩, ⟨by omega⟩, ⟨fv_lt _ _ _ _, ?_⟩⟩
        rw [fv_ab, fop_fv_l, HS.out, fop_ab_]
        congr 1
        rw [← fop_ab_l, HV.out.2, fop_ab_l]
end
theorem horn_flag {s x c : Nat} : ((!finB s || !finB (fop .mul s x)) || !finB (fop .add (fop .mul s x) c)) = !finB (fop .add (fop .mul s x) c) := by
  cases h : finB (fop .add (fop .mul s x) c) with
  | true => rw [fin_l (op := .add) (by simp) h, fin_l (op := .mul) (by simp) (fin_l (op := .add) (by simp) h)]; rfl
  | false => simp
set_option maxHeartbeats 4000000 in
set_option maxRecDepth 100000 in
theorem impl_HornerReal (A : Option Addr) (c : Nat) (l : List Nat) (x : Nat) (w : World) (hr : flt.C w A l.length l) (hc : l.length ≤ c) (hn : l.length * 8 ≤ 140737488351232) (hb : Bits l) (hx : x < 18446744073709551616) :
    Calls Try.prog 21 #[.slice A l.length c, .float .f64 x] w fun e w' => e = .returned (.tuple #[.float .f64 (hornR l x), .bool (hornB l x)]) ∧ Below w.heap.size w w' := by
  have H1 := Aside0.mk (impl_goodReals A c l w hr hc hn hb)
  have H2 := Aside0.mk (impl_GoodReal x hx)
  have HN := Aside0.mk (horn_no (l := l) (x := x))
  have HY := Aside0.mk (horn_yes (l := l) (x := x))
  have HO : Aside0 (hornOk l x = (goodsB l && goodB x)) := ⟨rfl⟩
  have HR := Aside0.mk hr
  have HLK := Aside0.mk (fun hg => likes_good (l := l) hb hg)
  have HLX := Aside0.mk (fun hg => like_good hx hg)
  have hlen : (l.length : Int) ≤ 17592186044416 := by omega
  clear hr hc hn hb hx
  generalize hornOk l x = ok at *
  generalize goodsB l = g at *
  generalize goodB x = gx at *
  cases g
  case false =>
    have HN2 := Aside0.mk (HN.out HO.out)
    clear HN HY HLK HLX
    go_enter Try.func21, Try.ntmps21
    go_wp2_with (first | (go_at_call 48; refine (H1.out).mono ?_; rintro e w' ⟨rfl, n, rfl⟩))
    go_ret2
    exact ⟨by rw [HN2.out.1, HN2.out.2]; rfl, pw_below_drewN (Below.refl _ _) _⟩
  cases gx
  case false =>
    have HN2 := Aside0.mk (HN.out HO.out)
    clear HN HY HLK HLX
    go_enter Try.func21, Try.ntmps21
    go_wp2_with (first | (go_at_call 48; refine (H1.out).mono ?_; rintro e w' ⟨rfl, n, rfl⟩) | (go_at_call 39; refine (H2.out _).mono ?_; rintro e w' ⟨rfl, rfl⟩))
    go_ret2
    exact ⟨by rw [HN2.out.1, HN2.out.2]; rfl, pw_below_drewN (Below.refl _ _) _⟩
  have HY2 := Aside0.mk (HY.out HO.out)
  have LL := Aside0.mk (HLK.out rfl)
  have LX := Aside0.mk (HLX.out rfl)
  clear HN HY HO HLK HLX
  go_enter Try.func21, Try.ntmps21
  go_wp2_with (first | (go_at_call 48; refine (H1.out).mono ?_; rintro e w' ⟨rfl, n, rfl⟩) | (go_at_call 39; refine (H2.out _).mono ?_; rintro e w' ⟨rfl, rfl⟩))
  have HST0 := Aside0.mk (show St ((w.drewN n).alloc (.cells #[.bool false] 49 (0, 0))) w.heap.size false from blk_new _ _)
  have HF0 := Aside0.mk (Kd.C_foot_came (g := w.heap.size) heap_flt HR.out (below_alloc (pw_below_drewN (Below.refl w.heap.size w) n) (.cells #[.bool false] 49 (0, 0))) (Nat.le_refl _))
  have HB0 := Aside0.mk (below_alloc (pw_below_drewN (Below.refl w.heap.size w) n) (.cells #[.bool false] 49 (0, 0)))
  generalize (w.drewN n).alloc (.cells #[.bool false] 49 (0, 0)) = w1 at *
  go_loopg [7, 8] l.length (fun g v7 v8 wr => ∃ (y : Nat) (i : Int), v7 = .float .f64 y ∧ v8 = .int .i64 i ∧ Aside0 (i = (g : Int) - 1) ∧ Aside0 (g ≤ l.length) ∧ Aside0 (Like y (hornS x (l.drop g))) ∧ Aside0 (St wr w.heap.size (!finB (hornS x (l.drop g)))) ∧ Aside0 (Kp w1 wr w.heap.size))
  case atStart => exact ⟨0, (l.length : Int) - 1, rfl, rfl, ⟨rfl⟩, ⟨Nat.le_refl _⟩, ⟨by rw [List.drop_length]; exact (show Like 0 0 from ⟨by decide, by decide⟩)⟩, ⟨by rw [List.drop_length]; exact HST0.out⟩, ⟨Kp.refl _ _⟩⟩
  case round =>
    clear HST0
    obtain ⟨y, i, rfl, rfl, HI, HG, LY, HST, HKP⟩ := hrel
    cases gk with
    | zero =>
      obtain rfl : i = -1 := by have := HI.out; omega
      obtain ⟨f, S7, HF⟩ : ∃ f, Aside0 (St wr w.heap.size f) ∧ Aside0 ((if f then 0 else y) = hornR l x ∧ (!f) = hornB l x) := ⟨_, HST, ⟨by
        rw [HY2.out.1, HY2.out.2]
        exact told_end LY.out⟩⟩
      have HBB := Aside0.mk (Kp.fresh HB0.out (Nat.le_refl _) HKP.out)
      clear HST LY HI
      cases f <;> (
        go_wp2_with (go_at_call 42; refine (end_ _ _ _ _ (by exact S7.out)).mono ?_; rintro e w' ⟨rfl, rfl⟩)
        go_ret2
        exact ⟨by rw [← HF.out.1, ← HF.out.2]; rfl, HBB.out⟩)
    | succ k =>
      obtain rfl : i = (k : Int) := by have := HI.out; omega
      have hkl : k < l.length := by have := HG.out; omega
      obtain ⟨ad, rfl, _⟩ := at_flt HR.out k hkl
      have hk0 : (0 : Int) ≤ (k : Int) := by omega
      have hk1 : (k : Int) < (l.length : Int) := by omega
      have HS := Aside0.mk (horn_step (x := x) hkl)
      have LC := Aside0.mk (LL.out k hkl)
      have HXC := Aside0.mk (fun W' hk => at_flt_some (HF0.out W' hk) k hkl)
      clear HI
      generalize l.getD k 0 = c at *
      go_wp2_with fail
      refine start_ (n := 9) (S := fun w' => w'.cell? (ad.add k) = some (.float .f64 c)) (ds := []) #[false, false, false, false, false, false, false, false, false] (by kernel_rfl) rfl rfl (HXC.out _ HKP.out.drew.keep) (fun hHeld => ?_)
      refine pure_ (i := 0) (N := some 24) (v := ?_) (a' := ?_) #[true, false, false, false, false, false, false, false, false] rfl rfl (by kernel_rfl) (fun _ _ _ h => h) (Or.inl ⟨by rfl, ?_⟩) ?_ ?_
      rotate_left
      · intro w'
        go_simp
        with_reducible rfl
      rotate_left
      · simp only [Act.put, List.setIfInBounds_toArray, List.set_cons_zero, List.set_cons_succ]
        rfl
      refine pure_ (i := 1) (N := some 25) (v := ?_) (a' := ?_) #[true, true, false, false, false, false, false, false, false] rfl rfl (by kernel_rfl) (fun _ _ _ h => h) (Or.inl ⟨by rfl, ?_⟩) ?_ ?_
      rotate_left
      · intro w'
        go_simp
        with_reducible rfl
      rotate_left
      · simp only [Act.put, List.setIfInBounds_toArray, List.set_cons_zero, List.set_cons_succ]
        rfl
      refine pure_ (i := 3) (N := some 27) (v := ?_) (a' := ?_) #[true, true, false, true, false, false, false, false, false] rfl rfl (by kernel_rfl) (fun _ _ _ h => h) (Or.inl ⟨by rfl, ?_⟩) ?_ ?_
      rotate_left
      · intro w'
        go_simp
        with_reducible rfl
      rotate_left
      · simp only [Act.put, List.setIfInBounds_toArray, List.set_cons_zero, List.set_cons_succ]
        rfl
      refine pure_ (i := 4) (N := some 28) (v := ?_) (a' := ?_) #[true, true, false, true, true, false, false, false, false] rfl rfl (by kernel_rfl) (fun _ _ _ h => h) (Or.inl ⟨by rfl, ?_⟩) ?_ ?_
      rotate_left
      · intro w'
        go_simp
        with_reducible rfl
      rotate_left
      · simp only [Act.put, List.setIfInBounds_toArray, List.set_cons_zero, List.set_cons_succ]
        rfl
      refine pure_ (i := 5) (N := some 29) (v := ?_) (a' := ?_) #[true, true, false, true, true, true, false, false, false] rfl rfl (by kernel_rfl) (fun _ _ _ h => h) (Or.inl ⟨by rfl, ?_⟩) ?_ ?_
      rotate_left
      · intro w'
        go_simp
        with_reducible rfl
      rotate_left
      · simp only [Act.put, List.setIfInBounds_toArray, List.set_cons_zero, List.set_cons_succ]
        rfl
      refine take_ (i := 6) (N := some 30) (v := ?_) (a' := ?_) #[true, true, false, true, true, true, true, false, false] rfl rfl (by kernel_rfl) (fun _ _ _ h => h) (Or.inl ⟨by rfl, ?_⟩) hHeld ?_ ?_
      rotate_left
      · rintro w' s0
        go_simp
        with_reducible rfl
      rotate_left
      · simp only [Act.put, List.setIfInBounds_toArray, List.set_cons_zero, List.set_cons_succ]
        rfl
      refine one_ (i := 2) (N := some 26) #[true, true, true, true, true, true, true, false, false] rfl rfl (by kernel_rfl) (by decide) (fun K hK => ?_)
      refine goes_ Try.func41 (by kernel_rfl) rfl #[.pointer (some ⟨w.heap.size, 0, none⟩), .float .f64 y, .float .f64 x] (by rfl) rfl rfl (by simp only [List.map_toArray, List.map_cons, List.map_nil]; rfl) ?_
      refine (mulL _ (by exact HST.out) LY.out LX.out).mono ?_
      rintro e w2 ⟨x1, rfl, l1, s1, k1⟩
      have L1 := Aside0.mk l1
      have S1 := Aside0.mk s1
      have K1 := Aside0.mk (HKP.out.drew.trans k1)
      clear l1 s1 k1
      refine ⟨_, rfl, ?_⟩
      refine hK.out _ _ (HXC.out _ K1.out.keep) (fun hHeld => ?_)
      clear hK K
      refine norm_ (a' := ?_) ?_ ?_
      rotate_left
      · show Act.put _ (some 26) _ = _
        simp only [Act.put, List.setIfInBounds_toArray, List.set_cons_zero, List.set_cons_succ]
        rfl
      refine one_ (i := 7) (N := some 31) #[true, true, true, true, true, true, true, true, false] rfl rfl (by kernel_rfl) (by decide) (fun K hK => ?_)
      refine goes_ Try.func40 (by kernel_rfl) rfl #[.pointer (some ⟨w.heap.size, 0, none⟩), .float .f64 x1, .float .f64 c] (by rfl) rfl rfl (by simp only [List.map_toArray, List.map_cons, List.map_nil]; rfl) ?_
      refine (addL _ (by exact S1.out) L1.out LC.out).mono ?_
      rintro e w3 ⟨x2, rfl, l2, s2, k2⟩
      have L2 := Aside0.mk l2
      have S2 := Aside0.mk s2
      have K2 := Aside0.mk (K1.out.trans k2)
      clear l2 s2 k2
      refine ⟨_, rfl, ?_⟩
      refine hK.out _ _ (HXC.out _ K2.out.keep) (fun hHeld => ?_)
      clear hK K
      refine norm_ (a' := ?_) ?_ ?_
      rotate_left
      · show Act.put _ (some 31) _ = _
        simp only [Act.put, List.setIfInBounds_toArray, List.set_cons_zero, List.set_cons_succ]
        rfl
      refine pure_ (i := 8) (N := some 7) (v := ?_) (a' := ?_) #[true, true, true, true, true, true, true, true, true] rfl rfl (by kernel_rfl) (fun _ _ _ h => h) (Or.inl ⟨by rfl, ?_⟩) ?_ ?_
      rotate_left
      · intro w'
        go_simp
        with_reducible rfl
      rotate_left
      · simp only [Act.put, List.setIfInBounds_toArray, List.set_cons_zero, List.set_cons_succ]
        rfl
      refine done_ (by kernel_rfl) ?_
      go_wp2_with fail
      go_roundg k
      case measure => omega
      case rel => exact ⟨_, (k : Int) - 1, rfl, rfl, ⟨rfl⟩, ⟨by omega⟩, ⟨by rw [HS.out]; exact L2.out⟩, ⟨by rw [HS.out, ← horn_flag]; exact S2.out⟩, K2⟩
set_option maxHeartbeats 2000000 in
set_option maxRecDepth 100000 in
theorem law_HornerReal (Al : Option Addr) (cl : Nat) (l : List Nat) (x : Nat) (w : World) (hrl : flt.C w Al l.length l) (hcl : l.length ≤ cl) (hnl : l.length * 8 ≤ 140737488351232) (hbl : Bits l) (hx : x < 18446744073709551616) :
    Calls Try.prog 6 #[.slice Al l.length cl, .float .f64 x] w fun e w' => e = .returned (.bool true) ∧ Below w.heap.size w w' := by
  have HRl := Aside0.mk hrl
  have HCl := Aside0.mk hcl
  have HNl := Aside0.mk hnl
  have HBBl := Aside0.mk hbl
  clear hrl hcl hnl hbl
  have HFx := Aside0.mk hx
  clear hx
  have HB := Aside0.mk (Below.refl w.heap.size w)
  have HSM := Aside0.mk (sameFloat (hornR l x) (hornR_lt l x))
  by_cases bigl : (l.length : Int) > 1048576
  · go_enter Try.func6, Try.ntmps6
    go_wp2_with fail
    go_ret
    exact ⟨rfl, HB.out⟩
  go_enter Try.func6, Try.ntmps6
  go_wp2_with fail
  go_at_call 20
  refine (toFloat64S Al cl l _ (Kd.C_below HRl.out HB.out) HCl.out HNl.out).mono ?_
  rintro e w1 ⟨v1, rfl, ro, hb⟩
  obtain ⟨A1_, c1_, rfl⟩ := Kd.R_slice ro
  have R1n := Aside0.mk (flt_own ro)
  clear ro
  have HB_ := Aside0.mk (below_step HB.out hb)
  clear HB
  have HB := HB_
  clear HB_
  clear hb
  have R1 := R1n
  clear R1n
  go_wp2_with fail
  go_at_call 19
  refine (spec_HornerReal _ _ l x _ (Kd.R_reads' R1.out).2.2 (Kd.R_reads' R1.out).2.1 HNl.out HBBl.out HFx.out).mono ?_
  rintro e w' ⟨rfl, nd, rfl⟩
  have R1_ := Aside0.mk (Kd.R_drewN R1.out nd)
  clear R1
  have R1 := R1_
  clear R1_
  have HB_ := Aside0.mk (pw_below_drewN HB.out nd)
  clear HB
  have HB := HB_
  clear HB_
  clear R1
  go_wp2_with fail
  go_at_call 20
  refine (toFloat64S Al cl l _ (Kd.C_below HRl.out HB.out) HCl.out HNl.out).mono ?_
  rintro e w2 ⟨v2, rfl, ro, hb⟩
  obtain ⟨A2_, c2_, rfl⟩ := Kd.R_slice ro
  have R2n := Aside0.mk (flt_own ro)
  clear ro
  have HB_ := Aside0.mk (below_step HB.out hb)
  clear HB
  have HB := HB_
  clear HB_
  clear hb
  have R2 := R2n
  clear R2n
  go_wp2_with fail
  go_at_call 21
  refine (impl_HornerReal _ _ l x _ (Kd.R_reads' R2.out).2.2 (Kd.R_reads' R2.out).2.1 HNl.out HBBl.out HFx.out).mono ?_
  rintro e w' ⟨rfl, hb⟩
  have R2_ := Aside0.mk (Kd.R_below R2.out hb)
  clear R2
  have R2 := R2_
  clear R2_
  have HB_ := Aside0.mk (below_step HB.out hb)
  clear HB
  have HB := HB_
  clear HB_
  clear hb
  go_wp2_with fail
  go_at_call 14
  refine (HSM.out _).mono ?_
  rintro e w' ⟨rfl, nd, rfl⟩
  have R2_ := Aside0.mk (Kd.R_drewN R2.out nd)
  clear R2
  have R2 := R2_
  clear R2_
  have HB_ := Aside0.mk (pw_below_drewN HB.out nd)
  clear HB
  have HB := HB_
  clear HB_
  obtain ⟨B, hB⟩ : ∃ B, B = (hornB l x) := ⟨_, rfl⟩
  rw [← hB]
  clear hB HSM
  go_wp2_with fail
  go_at_call 20
  refine (toFloat64S Al cl l _ (Kd.C_below HRl.out HB.out) HCl.out HNl.out).mono ?_
  rintro e w3 ⟨v3, rfl, ro, hb⟩
  obtain ⟨A3_, c3_, rfl⟩ := Kd.R_slice ro
  have R3n := Aside0.mk (flt_own ro)
  clear ro
  have R2_ := Aside0.mk (Kd.R_below R2.out hb)
  clear R2
  have R2 := R2_
  clear R2_
  have HB_ := Aside0.mk (below_step HB.out hb)
  clear HB
  have HB := HB_
  clear HB_
  clear hb
  have R3 := R3n
  clear R3n
  go_wp2_with fail
  go_at_call 22
  refine (eqFloat64S _ _ _ _ l _ (Kd.R_reads' R2.out).2.2 (Kd.R_reads' R2.out).2.1 (Kd.R_reads' R3.out).2.2 (Kd.R_reads' R3.out).2.1 HNl.out HBBl.out).mono ?_
  rintro e w' ⟨rfl, nd, rfl⟩
  have R2_ := Aside0.mk (Kd.R_drewN R2.out nd)
  clear R2
  have R2 := R2_
  clear R2_
  have R3_ := Aside0.mk (Kd.R_drewN R3.out nd)
  clear R3
  have R3 := R3_
  clear R3_
  have HB_ := Aside0.mk (pw_below_drewN HB.out nd)
  clear HB
  have HB := HB_
  clear HB_
  go_wp2_with fail
  go_ret
  exact ⟨rfl, HB.out⟩
end Go.Proofs.Ytdcnlghcdmiciaa.Fl
