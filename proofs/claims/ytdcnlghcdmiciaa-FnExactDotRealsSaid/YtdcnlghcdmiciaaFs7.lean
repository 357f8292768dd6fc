/-
Own text: products of floats, summed, in the reckoning that gives up; the square root.
-/
import Derived.Test.YtdcnlghcdmiciaaFs6
namespace Go.Proofs.Ytdcnlghcdmiciaa.Fl
open Go Ieee Go.RowKit Go.Proofs.YtdcnlghcdmiciaaW.PrintWords Go.Proofs.YtdcnlghcdmiciaaW.PrintLast Go.Proofs.Ytdcnlghcdmiciaa.Opn
set_option linter.unusedVariables false
set_option linter.unusedSimpArgs false
attribute [local go_sem] run_store_float
theorem at_flt_some {w : World} {ad : Addr} {n : Nat} {xs : List Nat} (h : flt.C w (some ad) n xs) (i : Nat) (h1 : i < n) : w.cell? (ad.add i) = some (.float .f64 (xs.getD i 0)) := by
  obtain ⟨ad', e, hc⟩ := at_flt h i h1
  injection e with e
  rw [e]
  exact hc
/-- What is no number in the list makes the sum none. -/
theorem sumF_off : ∀ (f : Nat) (s : List Nat), s.length < f → (∃ i, i < s.length ∧ finB (s.getD i 0) = false) → finB (sumF f s) = false
  | 0, s, h, _ => absurd h (Nat.not_lt_zero _)
  | f + 1, s, h, ⟨i, hi, hf⟩ => by
    by_cases h1 : s.length = 1
    · rw [sumF_1 h1]
      have : i = 0 := by omega
      subst this
      exact hf
    · have hb := half_bounds (show 2 ≤ s.length by omega)
      rw [sumF_2 (by omega)]
      by_cases hk : i < half s.length
      · refine off_op_l (op := .add) (by simp) _ (sumF_off f _ (by rw [List.length_take]; omega) ⟨i, by rw [List.length_take]; omega, ?_⟩)
        rw [getD_take hk]; exact hf
      · refine off_op_r (op := .add) (by simp) _ (sumF_off f _ (by rw [List.length_drop]; omega) ⟨i - half s.length, by rw [List.length_drop]; omega, ?_⟩)
        rw [getD_drop, show half s.length + (i - half s.length) = i by omega]; exact hf
/-- As far as k the products stand there, and the flag tells whether each is a number. -/
def UptoL (a b z : List Nat) (k : Nat) (fb : Bool) : Prop := z.length = a.length ∧ (∀ i, i < k → Like (z.getD i 0) (fop .mul (a.getD i 0) (b.getD i 0))) ∧ (fb = false → ∀ i, i < k → finB (fop .mul (a.getD i 0) (b.getD i 0)) = true) ∧ (fb = true → ∃ i, i < k ∧ finB (fop .mul (a.getD i 0) (b.getD i 0)) = false)
theorem uptoL_step {a b z : List Nat} {k r : Nat} {fb : Bool} (h : UptoL a b z k fb) (hk : k < a.length) (hr : Like r (fop .mul (a.getD k 0) (b.getD k 0))) : UptoL a b (z.set k r) (k + 1) (fb || !finB (fop .mul (a.getD k 0) (b.getD k 0))) := by
  refine ⟨by rw [List.length_set]; exact h.1, fun i hi => ?_, fun hf i hi => ?_, fun hf => ?_⟩
  · by_cases e : i = k
    · subst e
      rw [List.getD_eq_getElem?_getD, List.getElem?_set_self (by rw [h.1]; exact hk)]
      exact hr
    · rw [List.getD_eq_getElem?_getD, List.getElem?_set_ne (Ne.symm e), ← List.getD_eq_getElem?_getD]
      exact h.2.1 i (by omega)
  · by_cases e : i = k
    · subst e
      cases hx : finB (fop .mul (a.getD i 0) (b.getD i 0)) with
      | true => rfl
      | false => rw [hx] at hf; cases fb <;> cases hf
    · exact h.2.2.1 (or_no hf) i (by omega)
  · cases hb : fb with
    | true => obtain ⟨i, hi, hx⟩ := h.2.2.2 hb; exact ⟨i, by omega, hx⟩
    | false =>
      refine ⟨k, by omega, ?_⟩
      cases hx : finB (fop .mul (a.getD k 0) (b.getD k 0)) with
      | false => rfl
      | true => rw [hb, hx] at hf; cases hf
theorem uptoL_end {a b z : List Nat} {fb : Bool} (h : UptoL a b z a.length fb) : z.length = (prods a b).length ∧ Likes z (prods a b) ∧ (fb = false → Fins (prods a b)) ∧ (fb || !finB (dotS a b)) = !finB (dotS a b) := by
  refine ⟨by rw [prods_len]; exact h.1, fun i hi => ?_, fun hf i hi => ?_, ?_⟩
  · rw [prods_get (by rw [← h.1]; exact hi)]; exact h.2.1 i (by rw [← h.1]; exact hi)
  · rw [prods_len] at hi
    rw [prods_get hi]; exact h.2.2.1 hf i hi
  · cases hb : fb with
    | false => rfl
    | true =>
      obtain ⟨i, hi, hx⟩ := h.2.2.2 hb
      have : finB (dotS a b) = false := sumF_off _ _ (by rw [prods_len]; omega) ⟨i, by rw [prods_len]; exact hi, by rw [prods_get hi]; exact hx⟩
      rw [this]; rfl
def DotL (a b : List Nat) (g : Nat) (w : World) (e : Ending) (w' : World) : Prop := ∃ r, e = .returned (.float .f64 r) ∧ Like r (dotS a b) ∧ St w' g (!finB (dotS a b)) ∧ Kp w w' g
theorem Kp.drew {w w1 : World} {g : Nat} (h : Kp w w1 g) : Kp w w1.drew g := ⟨h.os, h.tape, h.output, keep_drew h.keep⟩
theorem Kp.set {w w1 : World} {g p j : Nat} {u : Value} (h : Kp w w1 g) (hp : w.heap.size ≤ p) : Kp w (w1.setCell ⟨p, j, none⟩ u) g := ⟨h.os, h.tape, h.output, keep_far h.keep (p := ⟨p, j, none⟩) hp u⟩
set_option maxHeartbeats 4000000 in
set_option maxRecDepth 100000 in
theorem dotL (A B : Option Addr) (ca cb : Nat) (a b : List Nat) (g : Nat) (w : World) (hs : St w g false) (hA : ∀ W', KeepBut w W' g none → flt.C W' A a.length a) (hB : ∀ W', KeepBut w W' g none → flt.C W' B b.length b) (hca : a.length ≤ ca) (hcb : b.length ≤ cb) (hl : a.length = b.length) (hn : a.length * 8 ≤ 140737488351232) (la : Likes a a) (lb : Likes b b) :
    Calls Try.prog 52 #[.pointer (some ⟨g, 0, none⟩), .slice A a.length ca, .slice B b.length cb] w (DotL a b g w) := by
  have HA := Aside0.mk hA
  have HBB := Aside0.mk hB
  have HL := Aside0.mk hl
  have HN := Aside0.mk hn
  have HST := Aside0.mk hs
  have LA := Aside0.mk la
  have LB := Aside0.mk lb
  have HGL := Aside0.mk (blk_lt hs)
  clear hA hB hl hn hca hcb hs la lb
  have hlen : (a.length : Int) ≤ 17592186044416 := by have := HN.out; omega
  go_enter Try.func52, Try.ntmps52
  go_wp2_with (first | ((with_reducible refine gate_dst (N := 11) rfl ?_); refine Kd.R_make flt _ 22 rfl (N := 11) rfl 31 _ _ rfl (a.length : Int) rfl rfl Try.underlying31 (.float .f64 0) 8 info22 rfl (by decide) (by omega) 0 (ok := fun k => k ≠ g) (okp := fun _ => False) rfl (fun _ hk => hk.elim) (by have := HGL.out; show w.heap.size ≠ g; omega) (by omega) (by have := HN.out; omega) (Below.refl _ _) (Nat.le_refl _) ?_; intro v w4 ho hb hg_ hnew_; clear hg_ hnew_; have HO := Aside0.mk ho; have HB := Aside0.mk (Kp.of_below hb g); have HST1 := Aside0.mk (show St w4 g false from blk_below HST.out hb); clear hb ho))
  clear HST
  go_loopg [14] a.length (fun m v4 wr => ∃ (k : Nat) (z : List Nat) (fb : Bool), v4 = .int .i64 (k : Int) ∧ Aside0 (k + m = a.length) ∧ Aside0 (UptoL a b z k fb) ∧ Aside0 (flt.R 22 wr w.heap.size (fun k => k ≠ g) v z) ∧ Aside0 (Kp w wr g) ∧ Aside0 (St wr g fb))
  case atStart => exact ⟨0, List.replicate (a.length : Int).toNat 0, false, rfl, ⟨Nat.zero_add _⟩, ⟨by rw [List.length_replicate]; rfl, fun i hi => absurd hi (Nat.not_lt_zero i), fun _ i hi => absurd hi (Nat.not_lt_zero i), fun h => by cases h⟩, HO, HB, HST1⟩
  case round =>
    clear HO HB HST1
    obtain ⟨k, z, fb, rfl, HK, HU, HO, HKP, HST⟩ := hrel
    by_cases hlt : k < a.length
    · have hltb : k < b.length := by have := HL.out; omega
      obtain ⟨adA, rfl, _⟩ := at_flt (HA.out w (KeepBut.refl _ _ _)) k hlt
      obtain ⟨adB, rfl, _⟩ := at_flt (HBB.out w (KeepBut.refl _ _ _)) k hltb
      have HXA := Aside0.mk (fun W' hk => at_flt_some (HA.out W' hk) k hlt)
      have HXB := Aside0.mk (fun W' hk => at_flt_some (HBB.out W' hk) k hltb)
      have hlt2 : (k : Int) < (a.length : Int) := by omega
      have hlt3 : (k : Int) < (b.length : Int) := by omega
      have hlt4 : (k : Int) < (z.length : Int) := by have := HU.out.1; omega
      have hk0 : (0 : Int) ≤ (k : Int) := by omega
      have hltz : k < z.length := by have := HU.out.1; omega
      obtain ⟨pb, co, eo, gb, gl, cl, HG⟩ := Kd.R_form HO.out (by omega)
      subst eo
      have GB := Aside0.mk gb
      have GN : Aside0 (pb ≠ g) := ⟨HO.out.1 pb (by simp [Value.ownBlock])⟩
      clear gb gl HG
      have HSTEP := Aside0.mk (fun r hr => uptoL_step HU.out hlt (r := r) hr)
      have LX := Aside0.mk (LA.out k hlt)
      have LY := Aside0.mk (LB.out k hltb)
      have HK0 := Aside0.mk HKP.out.drew
      clear HU
      generalize a.getD k 0 = x at *
      generalize b.getD k 0 = y at *
      go_wp2_with fail
      refine start_ (n := 14) (S := fun w' => w'.cell? (adA.add k) = some (.float .f64 x) ∧ w'.cell? (adB.add k) = some (.float .f64 y)) (ds := [13]) #[false, false, false, false, false, false, false, false, false, false, false, false, false, false] (by kernel_rfl) rfl rfl ⟨HXA.out _ HK0.out.keep, HXB.out _ HK0.out.keep⟩ (fun hHeld => ?_)
      refine pure_ (i := 0) (N := some 17) (v := ?_) (a' := ?_) #[true, false, false, false, false, false, false, false, false, false, false, false, false, false] rfl rfl (by kernel_rfl) (fun _ _ _ h => h) (Or.inl ⟨by rfl, ?_⟩) ?_ ?_
      rotate_left
      · intro w'
        go_simp
        with_reducible rfl
      rotate_left
      · simp only [Act.put, List.setIfInBounds_toArray, List.set_cons_zero, List.set_cons_succ]
        rfl
      refine pure_ (i := 1) (N := some 18) (v := ?_) (a' := ?_) #[true, true, false, false, false, false, false, false, false, false, false, false, false, false] rfl rfl (by kernel_rfl) (fun _ _ _ h => h) (Or.inl ⟨by rfl, ?_⟩) ?_ ?_
      rotate_left
      · intro w'
        go_simp
        with_reducible rfl
      rotate_left
      · simp only [Act.put, List.setIfInBounds_toArray, List.set_cons_zero, List.set_cons_succ]
        rfl
      refine pure_ (i := 2) (N := some 19) (v := ?_) (a' := ?_) #[true, true, true, false, false, false, false, false, false, false, false, false, false, false] rfl rfl (by kernel_rfl) (fun _ _ _ h => h) (Or.inl ⟨by rfl, ?_⟩) ?_ ?_
      rotate_left
      · intro w'
        go_simp
        with_reducible rfl
      rotate_left
      · simp only [Act.put, List.setIfInBounds_toArray, List.set_cons_zero, List.set_cons_succ]
        rfl
      refine pure_ (i := 3) (N := some 20) (v := ?_) (a' := ?_) #[true, true, true, true, false, false, false, false, false, false, false, false, false, false] rfl rfl (by kernel_rfl) (fun _ _ _ h => h) (Or.inl ⟨by rfl, ?_⟩) ?_ ?_
      rotate_left
      · intro w'
        go_simp
        with_reducible rfl
      rotate_left
      · simp only [Act.put, List.setIfInBounds_toArray, List.set_cons_zero, List.set_cons_succ]
        rfl
      refine pure_ (i := 4) (N := some 21) (v := ?_) (a' := ?_) #[true, true, true, true, true, false, false, false, false, false, false, false, false, false] rfl rfl (by kernel_rfl) (fun _ _ _ h => h) (Or.inl ⟨by rfl, ?_⟩) ?_ ?_
      rotate_left
      · intro w'
        go_simp
        with_reducible rfl
      rotate_left
      · simp only [Act.put, List.setIfInBounds_toArray, List.set_cons_zero, List.set_cons_succ]
        rfl
      refine pure_ (i := 5) (N := some 22) (v := ?_) (a' := ?_) #[true, true, true, true, true, true, false, false, false, false, false, false, false, false] rfl rfl (by kernel_rfl) (fun _ _ _ h => h) (Or.inl ⟨by rfl, ?_⟩) ?_ ?_
      rotate_left
      · intro w'
        go_simp
        with_reducible rfl
      rotate_left
      · simp only [Act.put, List.setIfInBounds_toArray, List.set_cons_zero, List.set_cons_succ]
        rfl
      refine pure_ (i := 7) (N := some 24) (v := ?_) (a' := ?_) #[true, true, true, true, true, true, false, true, false, false, false, false, false, false] rfl rfl (by kernel_rfl) (fun _ _ _ h => h) (Or.inl ⟨by rfl, ?_⟩) ?_ ?_
      rotate_left
      · intro w'
        go_simp
        with_reducible rfl
      rotate_left
      · simp only [Act.put, List.setIfInBounds_toArray, List.set_cons_zero, List.set_cons_succ]
        rfl
      refine pure_ (i := 8) (N := some 25) (v := ?_) (a' := ?_) #[true, true, true, true, true, true, false, true, true, false, false, false, false, false] rfl rfl (by kernel_rfl) (fun _ _ _ h => h) (Or.inl ⟨by rfl, ?_⟩) ?_ ?_
      rotate_left
      · intro w'
        go_simp
        with_reducible rfl
      rotate_left
      · simp only [Act.put, List.setIfInBounds_toArray, List.set_cons_zero, List.set_cons_succ]
        rfl
      refine pure_ (i := 9) (N := some 26) (v := ?_) (a' := ?_) #[true, true, true, true, true, true, false, true, true, true, false, false, false, false] rfl rfl (by kernel_rfl) (fun _ _ _ h => h) (Or.inl ⟨by rfl, ?_⟩) ?_ ?_
      rotate_left
      · intro w'
        go_simp
        with_reducible rfl
      rotate_left
      · simp only [Act.put, List.setIfInBounds_toArray, List.set_cons_zero, List.set_cons_succ]
        rfl
      refine take_ (i := 6) (N := some 23) (v := ?_) (a' := ?_) #[true, true, true, true, true, true, true, true, true, true, false, false, false, false] rfl rfl (by kernel_rfl) (fun _ _ _ h => h) (Or.inl ⟨by rfl, ?_⟩) hHeld ?_ ?_
      rotate_left
      · rintro w' ⟨s0, s1⟩
        go_simp
        with_reducible rfl
      rotate_left
      · simp only [Act.put, List.setIfInBounds_toArray, List.set_cons_zero, List.set_cons_succ]
        rfl
      refine take_ (i := 10) (N := some 27) (v := ?_) (a' := ?_) #[true, true, true, true, true, true, true, true, true, true, true, false, false, false] rfl rfl (by kernel_rfl) (fun _ _ _ h => h) (Or.inl ⟨by rfl, ?_⟩) hHeld ?_ ?_
      rotate_left
      · rintro w' ⟨s0, s1⟩
        go_simp
        with_reducible rfl
      rotate_left
      · simp only [Act.put, List.setIfInBounds_toArray, List.set_cons_zero, List.set_cons_succ]
        rfl
      refine one_ (i := 11) (N := some 28) #[true, true, true, true, true, true, true, true, true, true, true, true, false, false] rfl rfl (by kernel_rfl) (by decide) (fun K hK => ?_)
      refine goes_ Try.func41 (by kernel_rfl) rfl #[.pointer (some ⟨g, 0, none⟩), .float .f64 x, .float .f64 y] (by rfl) rfl rfl (by simp only [List.map_toArray, List.map_cons, List.map_nil]; rfl) ?_
      refine (mulL _ (by exact HST.out) LX.out LY.out).mono ?_
      rintro e w1 ⟨x1, rfl, l1, s1, k1⟩
      have L1 := Aside0.mk l1
      have S1 := Aside0.mk s1
      have K1 := Aside0.mk (HK0.out.trans k1)
      have HO1 := Aside0.mk (Kd.R_keep (Kd.R_drew HO.out) k1.keep (fun _ hk => hk))
      clear l1 s1 k1 HO
      refine ⟨_, rfl, ?_⟩
      refine hK.out _ _ ⟨HXA.out _ K1.out.keep, HXB.out _ K1.out.keep⟩ (fun hHeld => ?_)
      clear hK K
      refine norm_ (a' := ?_) ?_ ?_
      rotate_left
      · show Act.put _ (some 28) _ = _
        simp only [Act.put, List.setIfInBounds_toArray, List.set_cons_zero, List.set_cons_succ]
        rfl
      obtain ⟨hp0, hpf⟩ := Kd.R_celln 0 HO1.out (k : Int) (by omega) hlt4
      simp only [Int.toNat_natCast] at hp0 hpf
      refine pure_ (i := 12) (N := some 29) (v := ?_) (a' := ?_) #[true, true, true, true, true, true, true, true, true, true, true, true, true, false] rfl rfl (by kernel_rfl) (fun _ _ _ h => h) (Or.inl ⟨by rfl, ?_⟩) ?_ ?_
      rotate_left
      · intro w'
        go_simp
        with_reducible rfl
      rotate_left
      · simp only [Act.put, List.setIfInBounds_toArray, List.set_cons_zero, List.set_cons_succ]
        rfl
      refine last_ (i := 13) (N := none) #[true, true, true, true, true, true, true, true, true, true, true, true, true, true] rfl rfl (by kernel_rfl) (by decide) (fun K hK => ?_)
      refine skip_step (w1 := (w1.setCell ⟨pb, k, none⟩ (.float .f64 x1))) (by rfl) rfl ?hr ?_
      case hr => first | (go_simp; done) | (go_simp; rfl)
      refine hK.out _ _ ?_
      clear hK K
      refine done_ (by kernel_rfl) ?_
      have HR := Aside0.mk (Kd.R_putg HO1.out (k : Int) x1).1
      have HU2 := Aside0.mk (HSTEP.out x1 L1.out)
      have HS2 : Aside0 (St (w1.setCell ⟨pb, k, none⟩ (.float .f64 x1)) g (fb || !finB (fop .mul x y))) := ⟨blk_far S1.out (p := ⟨pb, k, none⟩) (fun e => GN.out e.symm) _⟩
      have HK2 : Aside0 (Kp w (w1.setCell ⟨pb, k, none⟩ (.float .f64 x1)) g) := ⟨K1.out.set GB.out⟩
      have HR2 : Aside0 (flt.R 22 (w1.setCell ⟨pb, k, none⟩ (.float .f64 x1)) w.heap.size (fun k => k ≠ g) (.slice (some ⟨pb, 0, none⟩) z.length co) (z.set k x1)) := HR
      clear HR HO1 S1 K1 hp0 hpf HSTEP hHeld
      generalize w1.setCell ⟨pb, k, none⟩ (.float .f64 x1) = W2 at *
      go_wp2_with fail
      go_roundg (a.length - (k + 1))
      case measure => have := HK.out; omega
      case rel => exact ⟨k + 1, _, _, by go_num, ⟨by omega⟩, HU2, HR2, HK2, HS2⟩
    · have e : k = a.length := by have := HK.out; omega
      subst e
      obtain ⟨A2, c2, rfl⟩ := Kd.R_slice HO.out
      have hz : z.length = a.length := HU.out.1
      have HE := Aside0.mk (uptoL_end HU.out)
      have HS := Aside0.mk (sumL (z.length + 1) z (prods a b) A2 c2 g fb wr (by omega) HE.out.1 HE.out.2.1 HE.out.2.2.1 (Kd.C_foot_own HO.out (fun _ hk => hk)) (Kd.R_reads' HO.out).2.1 (by have := HN.out; omega) HST.out)
      have HD : Aside0 (sumF (z.length + 1) (prods a b) = dotS a b) := ⟨by rw [hz]; rfl⟩
      clear hz
      go_wp2_with (go_at_call 50; refine (HS.out).mono ?_; rintro e w1 ⟨r, rfl, l1, s1, k1⟩; rw [HD.out] at l1 s1; rw [HE.out.2.2.2] at s1; have L1 := Aside0.mk l1; have S1 := Aside0.mk s1; have K1 := Aside0.mk (HKP.out.trans k1); clear l1 s1 k1)
      go_ret
      exact ⟨_, rfl, L1.out, S1.out, K1.out⟩
end Go.Proofs.Ytdcnlghcdmiciaa.Fl
