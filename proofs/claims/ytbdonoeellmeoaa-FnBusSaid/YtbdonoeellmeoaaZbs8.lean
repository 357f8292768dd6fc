-- Joined and pruned by wip/tools/prune.py out of this session's own texts (Rbd, Prd4, Rcl, Pr11)
import Derived.Test.YtbdonoeellmeoaaZbs7
import Derived.Lib.SliceRun
import Derived.Outline
/- impl.RunBus, spec.RunBus and spec.BusFine by hand: what they compute. -/
namespace Go.Proofs.Ytbdonoeellmeoaa.Bus
open Go.RowKit Go.Proofs.Ytbdonoeellmeoaa.Pr
abbrev Tk := S66
abbrev St := S73
abbrev tk0 : Tk := z66
abbrev tkAt (l : List Tk) (i : Nat) : Tk := l.getD i tk0
def headId (t : Tk) : Int := (t.f0.getD 0 z27).f0
def may (now : List Tk) (used : List Int) (i : Nat) : Bool := !(tkAt now i).f3 && decide (0 < (tkAt now i).f0.length) && decide (used.getD i 0 < (tkAt now i).f1)
def candTo (now : List Tk) (used : List Int) (n : Nat) : List Nat := (List.range n).filter (may now used)
def idsTo (now : List Tk) (used : List Int) (n : Nat) : List Int := (candTo now used n).map fun i => headId (tkAt now i)
/-- The talker that has sent. -/
def sentBy (good : Bool) (t : Tk) : Tk := if good = true then ⟨t.f0.drop 1, t.f1, if t.f2 - 1 < 0 then 0 else t.f2 - 1, t.f3⟩ else ⟨t.f0, t.f1, if 255 < t.f2 + 8 then 255 else t.f2 + 8, decide ((if 255 < t.f2 + 8 then 255 else t.f2 + 8) = 255)⟩
def busFrom (pk : List Int → Nat) (w : Nat) (sp : List Int) : Nat → Nat → List Tk → List Int → List St → List St × List Tk
  | 0, _, now, _, out => (out, now)
  | n + 1, r, now, used, out =>
    let u := if r % w = 0 then List.replicate now.length 0 else used
    if candTo now u now.length = [] then busFrom pk w sp n (r + 1) now u out
    else
      let i := (candTo now u now.length).getD (pk (idsTo now u now.length)) 0
      let good := !decide ((r : Int) ∈ sp)
      busFrom pk w sp n (r + 1) (now.set i (sentBy good (tkAt now i))) (u.set i (u.getD i 0 + 1)) (out ++ [⟨(r : Int), (i : Int), headId (tkAt now i), good⟩])
def stepI (pk : List Int → Nat) (now : List Tk) (u : List Int) : Nat := (candTo now u now.length).getD (pk (idsTo now u now.length)) 0
/-! What BusFine keeps -/
structure FS where
  at_ : List Int
  err : List Int
  used : List Int
  last : Int
def shut (l : List Tk) (S : FS) (u : List Int) (i : Nat) : Prop := S.err.getD i 0 = 255 ∨ ((tkAt l i).f0.length : Int) ≤ S.at_.getD i 0 ∨ (tkAt l i).f1 ≤ u.getD i 0
instance (l : List Tk) (S : FS) (u : List Int) (i : Nat) : Decidable (shut l S u i) := by unfold shut; infer_instance
def atId (l : List Tk) (S : FS) (i : Nat) : Int := ((tkAt l i).f0.getD (S.at_.getD i 0).toNat z27).f0
def fitB (l : List Tk) (S : FS) (u : List Int) (who id : Int) (i : Nat) : Bool := if shut l S u i then decide ((i : Int) ≠ who) else decide (id ≤ atId l S i ∧ ((i : Int) = who → atId l S i = id))
def useOf (w : Nat) (S : FS) (n : Nat) (r : Int) : List Int := if S.last < 0 ∨ Int.tdiv r w ≠ Int.tdiv S.last w then List.replicate n 0 else S.used
def fstep (l : List Tk) (w : Nat) (S : FS) (s : St) : Option FS :=
  if S.last < s.f0 ∧ 0 ≤ s.f1 ∧ s.f1 < l.length then
    (if (List.range l.length).all (fitB l S (useOf w S l.length s.f0) s.f1 s.f2) = true then
      some (if s.f3 = true then ⟨S.at_.set s.f1.toNat (S.at_.getD s.f1.toNat 0 + 1), (if 0 < S.err.getD s.f1.toNat 0 then S.err.set s.f1.toNat (S.err.getD s.f1.toNat 0 - 1) else S.err), (useOf w S l.length s.f0).set s.f1.toNat ((useOf w S l.length s.f0).getD s.f1.toNat 0 + 1), s.f0⟩
        else ⟨S.at_, S.err.set s.f1.toNat (if 255 < S.err.getD s.f1.toNat 0 + 8 then 255 else S.err.getD s.f1.toNat 0 + 8), (useOf w S l.length s.f0).set s.f1.toNat ((useOf w S l.length s.f0).getD s.f1.toNat 0 + 1), s.f0⟩)
    else none)
  else none
def ffold (l : List Tk) (w : Nat) : FS → List St → Option FS
  | S, [] => some S
  | S, s :: r => (fstep l w S s).bind fun S1 => ffold l w S1 r
def start (l : List Tk) : FS := ⟨List.replicate l.length 0, l.map (fun t => t.f2), List.replicate l.length 0, -1⟩
structure Same (l now : List Tk) (S : FS) : Prop where
  ln : now.length = l.length
  la : S.at_.length = l.length
  le : S.err.length = l.length
  lu : S.used.length = l.length
  a0 : ∀ i, i < l.length → 0 ≤ S.at_.getD i 0
  a1 : ∀ i, i < l.length → S.at_.getD i 0 ≤ ((tkAt l i).f0.length : Int)
  e0 : ∀ i, i < l.length → 0 ≤ S.err.getD i 0 ∧ S.err.getD i 0 ≤ 255
  tk : ∀ i, i < l.length → tkAt now i = ⟨(tkAt l i).f0.drop (S.at_.getD i 0).toNat, (tkAt l i).f1, S.err.getD i 0, decide (S.err.getD i 0 = 255)⟩
  la1 : -1 ≤ S.last
/-! The whole -/
def goodF (f : S27) : Bool := decide ((0 ≤ f.f0 ∧ f.f0 ≤ 2047) ∧ f.f1.length ≤ 8)
def goodT (t : S66) : Bool := t.f0.all goodF && (decide (t.f0.length ≤ 8) && (decide (1 ≤ t.f1 ∧ t.f1 ≤ 10) && (decide (0 ≤ t.f2 ∧ t.f2 ≤ 255) && (t.f3 == (t.f2 == 255)))))
def argsOk (l : List S66) (rounds window : Int) (sp : List Int) : Bool := decide (l.length ≤ 6 ∧ (0 ≤ rounds ∧ rounds ≤ 40) ∧ (1 ≤ window ∧ window ≤ 20) ∧ sp.length ≤ 40)
def pkOf (xs : List Int) : Nat := xs.findIdx fun x => xs.all fun y => decide (x ≤ y)
def runOf (l : List S66) (rounds window : Int) (sp : List Int) : List S73 × List S66 × Bool :=
  if argsOk l rounds window sp = true ∧ l.all goodT = true then ((busFrom pkOf window.toNat sp rounds.toNat 0 l (List.replicate l.length 0) []).1, (busFrom pkOf window.toNat sp rounds.toNat 0 l (List.replicate l.length 0) []).2, true) else ([], [], false)
def smallF (f : S27) : Bool := decide (f.f1.length ≤ 1048576)
def smallT (t : S66) : Bool := decide (t.f0.length ≤ 1048576) && t.f0.all smallF
def smallB (l : List S66) (sp : List Int) : Bool := decide (l.length ≤ 1048576) && (decide (sp.length ≤ 1048576) && l.all smallT)
def FineP (l : List S66) (sent : List S73) (last : List S66) (w : Int) : Prop :=
  l.length ≤ 6 ∧ l.all goodT = true ∧ sent.length ≤ 40 ∧ (1 ≤ w ∧ w ≤ 20) ∧ (∀ s ∈ sent, 0 ≤ s.f0 ∧ s.f0 ≤ 40) ∧ ∃ S, ffold l w.toNat (start l) sent = some S ∧ Same l last S
end Go.Proofs.Ytbdonoeellmeoaa.Bus
namespace Go.Proofs.Ytbdonoeellmeoaa.Pr
open Go.RowKit Go.Proofs.Ytbdonoeellmeoaa.Bus
def impl_RunBus.f (l : List S66) (rounds window : Int) (sp : List Int) : Option (List S73 × List S66 × Bool) := if smallB l sp = true then some (runOf l rounds window sp) else none
def spec_RunBus.f (l : List S66) (rounds window : Int) (sp : List Int) : Option (List S73 × List S66 × Bool) := if smallB l sp = true then some (runOf l rounds window sp) else none
open Classical in
noncomputable def spec_BusFine.f (l : List S66) (sent : List S73) (last : List S66) (w : Int) : Option Bool := if FineP l sent last w then some true else none
end Go.Proofs.Ytbdonoeellmeoaa.Pr
-- Written by this session's own print (wip/tools/mkmp.py) out of the translation. Lean checks it.
namespace Go.Proofs.Ytbdonoeellmeoaa.Pr
open Go.RowKit Go.Proofs.YtbdonoeellmeoaaW.PrintWords Go.Proofs.YtbdonoeellmeoaaW.PrintLast Go.Proofs.YtbdonoeellmeoaaW.PrintMore
attribute [local go_sem] max2_int min2_int max_two min_two max_three min_three max_four min_four   -- for this text's walks alone
set_option linter.unusedVariables false
set_option linter.unusedSimpArgs false

/-! ### laws_FnBus: function 7 -/
noncomputable def laws_FnBus.f (k : Nat) (l0 : List Int) : Option (Bool) := if (l0.length : Int) > 1048576 then (some true) else ((spec_DrawRunBus.f k l0).bind fun bt415 => ((impl_RunBus.f bt415.1 bt415.2.1 bt415.2.2.1 bt415.2.2.2).bind fun bt423 => ((spec_RunBus.f bt415.1 bt415.2.1 bt415.2.2.1 bt415.2.2.2).bind fun bt430 => (if (bt423.2.2 != bt430.2.2) = true then (some false) else (if bt423.2.2 = true then ((spec_BusFine.f bt415.1 bt423.1 bt423.2.1 bt415.2.2.1).bind fun t437 => (some t437)) else (some true))))))
end Go.Proofs.Ytbdonoeellmeoaa.Pr
/- slices.Clone of frames and of bytes, by hand. -/
namespace Go.Proofs.Ytbdonoeellmeoaa.Pr
open Go.RowKit Go.Proofs.YtbdonoeellmeoaaW.PrintWords Go.Proofs.YtbdonoeellmeoaaW.PrintLast Go.Proofs.YtbdonoeellmeoaaW.PrintMore
set_option linter.unusedVariables false
set_option linter.unusedSimpArgs false
set_option maxHeartbeats 2000000 in
theorem cloneF_calls (A : Option Addr) (c : Nat) (xs : List S27) (w : World) (okp : Nat → Prop) (hF : Kd.F k27 w okp A xs.length xs) (hs : xs.length ≤ 1048576) :
    Calls Try.prog 45 #[.slice A xs.length c] w fun e w' => ∃ v : Value, e = .returned v ∧ Kd.N k27 27 w' w.heap.size (fun k => okp k ∨ w.heap.size ≤ k) v xs ∧ Below w.heap.size w w' := by
  have q64 : ∀ (w : World) (a : Option Addr) (n c n' c' : Nat), (binOp .eql 64 (.slice a n c) (.slice none n' c')).run Try.prog w = .ok (.bool a.isNone) w := fun w a n c n' c' => Lib.run_eql_slice_nil w _ _ a n c n' c' Try.underlying64
  have HF := Aside0.mk (Kd.F_bound hF)
  have HS := Aside0.mk hs
  rcases A with _ | ad
  · have hx : xs = [] := by
      rcases Nat.eq_zero_or_pos xs.length with h | h
      · exact List.eq_nil_of_length_eq_zero h
      · obtain ⟨ad, e, _⟩ := (Kd.F_now hF).2.2 h
        cases e
    subst hx
    clear hF hs
    go_enter Try.func45, Try.ntmps45
    go_wp2
    go_ret
    exact ⟨_, rfl, Kd.N_nil _ _ _ _ _, Below.refl _ _⟩
  · clear hF hs
    go_enter Try.func45, Try.ntmps45
    go_wp2_with (first | ((with_reducible refine gate_dst (N := 5) rfl ?_); refine Kd.N_lit k27 (w0 := w) w.heap.size 27 ?hg (N' := 5) ?hd (xs := ([] : List S27)) (inner := []) (ok := fun k => okp k ∨ w.heap.size ≤ k) (okp := fun _ => False) ?hr ?hp (fun _ hk => hk.elim) (Or.inr (Nat.le_refl _)) (Below.refl _ _) (Nat.le_refl _) (by simp) ?_; (case hd => rfl); (case hg => rfl); (case hr => first | (go_simp; done) | (go_simp; rfl)); (case hp => exact (Reps.none _ _)); intro v1 w1 ho hb hg hat; have HO := Aside0.mk ho; have HB := Aside0.mk hb; have HAT := Aside0.mk hat; clear ho hb hg hat) | ((with_reducible refine gate_builtin (b := .append) (xs := #[.tmp 5, .tmp 6]) rfl ?_); at_builtin; refine Kd.N_append_rows k27 (w0 := w) w.heap.size rfl (.tmp 5) (.tmp 6) 64 27 (.agg #[.int .i64 0, .slice none 0 0]) 32 rfl Try.underlying64 info27 rfl (by decide) (by omega) v1 [] xs (some ad) xs.length c (fun k => okp k ∨ w.heap.size ≤ k) (fun k => okp k ∧ k < w.heap.size) rfl rfl HO.out (Kd.F_below HF.out HB.out) (fun k hk => ⟨Or.inl hk.1, fun e => by obtain ⟨b, h1, h2⟩ := HAT.out; rw [h1] at e; injection e with e; have := hk.2; omega⟩) (fun k hk => Or.inr (Nat.le_trans HB.out.size hk)) HB.out HB.out.size (by have := HS.out; simp only [List.length_nil]; omega) ?_; intro v2 w2 ho hb hg hat; have HO2 := Aside0.mk ho; have HB2 := Aside0.mk hb; clear ho hb hg hat; obtain ⟨A2, c2, e2⟩ := Kd.N_slice HO2.out; subst e2))
    go_ret
    exact ⟨_, rfl, HO2.out, HB2.out⟩

set_option maxHeartbeats 2000000 in
theorem cloneB_calls (A : Option Addr) (c : Nat) (xs : List Int) (w : World) (okp : Nat → Prop) (hF : Kd.F (Kd.int .u8) w okp A xs.length xs) (hs : xs.length ≤ 1048576) :
    Calls Try.prog 43 #[.slice A xs.length c] w fun e w' => ∃ v : Value, e = .returned v ∧ Kd.N (Kd.int .u8) 5 w' w.heap.size (fun k => okp k ∨ w.heap.size ≤ k) v xs ∧ Below w.heap.size w w' := by
  have q22 : ∀ (w : World) (a : Option Addr) (n c n' c' : Nat), (binOp .eql 22 (.slice a n c) (.slice none n' c')).run Try.prog w = .ok (.bool a.isNone) w := fun w a n c n' c' => Lib.run_eql_slice_nil w _ _ a n c n' c' Try.underlying22
  have HF := Aside0.mk (Kd.F_bound hF)
  have HS := Aside0.mk hs
  rcases A with _ | ad
  · have hx : xs = [] := by
      rcases Nat.eq_zero_or_pos xs.length with h | h
      · exact List.eq_nil_of_length_eq_zero h
      · obtain ⟨ad, e, _⟩ := (Kd.F_now hF).2.2 h
        cases e
    subst hx
    clear hF hs
    go_enter Try.func43, Try.ntmps43
    go_wp2
    go_ret
    exact ⟨_, rfl, Kd.N_nil _ _ _ _ _, Below.refl _ _⟩
  · clear hF hs
    go_enter Try.func43, Try.ntmps43
    go_wp2_with (first | ((with_reducible refine gate_dst (N := 5) rfl ?_); refine Kd.N_lit (Kd.int .u8) (w0 := w) w.heap.size 5 ?hg (N' := 5) ?hd (xs := ([] : List Int)) (inner := []) (ok := fun k => okp k ∨ w.heap.size ≤ k) (okp := fun _ => False) ?hr ?hp (fun _ hk => hk.elim) (Or.inr (Nat.le_refl _)) (Below.refl _ _) (Nat.le_refl _) (by simp) ?_; (case hd => rfl); (case hg => rfl); (case hr => first | (go_simp; done) | (go_simp; rfl)); (case hp => exact (Reps.none _ _)); intro v1 w1 ho hb hg hat; have HO := Aside0.mk ho; have HB := Aside0.mk hb; have HAT := Aside0.mk hat; clear ho hb hg hat) | ((with_reducible refine gate_builtin (b := .append) (xs := #[.tmp 5, .tmp 6]) rfl ?_); at_builtin; refine Kd.N_append_rows (Kd.int .u8) (w0 := w) w.heap.size rfl (.tmp 5) (.tmp 6) 22 5 (.int .u8 0) 1 rfl Try.underlying22 info5 rfl (by decide) (by omega) v1 [] xs (some ad) xs.length c (fun k => okp k ∨ w.heap.size ≤ k) (fun k => okp k ∧ k < w.heap.size) rfl rfl HO.out (Kd.F_below HF.out HB.out) (fun k hk => ⟨Or.inl hk.1, fun e => by obtain ⟨b, h1, h2⟩ := HAT.out; rw [h1] at e; injection e with e; have := hk.2; omega⟩) (fun k hk => Or.inr (Nat.le_trans HB.out.size hk)) HB.out HB.out.size (by have := HS.out; simp only [List.length_nil]; omega) ?_; intro v2 w2 ho hb hg hat; have HO2 := Aside0.mk ho; have HB2 := Aside0.mk hb; clear ho hb hg hat; obtain ⟨A2, c2, e2⟩ := Kd.N_slice HO2.out; subst e2))
    go_ret
    exact ⟨_, rfl, HO2.out, HB2.out⟩

end Go.Proofs.Ytbdonoeellmeoaa.Pr
-- Written by this session's own print (wip/tools/mkmp.py) out of the translation. Lean checks it.
namespace Go.Proofs.Ytbdonoeellmeoaa.Pr
open Go.RowKit Go.Proofs.YtbdonoeellmeoaaW.PrintWords Go.Proofs.YtbdonoeellmeoaaW.PrintLast Go.Proofs.YtbdonoeellmeoaaW.PrintMore
attribute [local go_sem] max2_int min2_int max_two min_two max_three min_three max_four min_four   -- for this text's walks alone
set_option linter.unusedVariables false
set_option linter.unusedSimpArgs false

set_option maxHeartbeats 8000000 in
set_option maxRecDepth 100000 in
theorem impl_GoodFrame.calls (a0_0 : Int) (A0_1 : Option Addr) (c0_1 : Nat) (l0_1 : List Int) (r : Bool) (w : World) (hr0_1 : Kd.C (Kd.int .u8) w A0_1 l0_1.length l0_1) (hc0_1 : l0_1.length ≤ c0_1) (h : impl_GoodFrame.f a0_0 l0_1 = some r) :
   Calls Try.prog 11 #[.agg #[.int .i64 a0_0, .slice A0_1 l0_1.length c0_1]] w fun e w' => e = .returned (.bool r) ∧ Below w.heap.size w w' := by
  have hu27 := Try.underlying27
  have HR0_1 := Aside0.mk hr0_1
  have HC0_1 := Aside0.mk hc0_1
  clear hr0_1 hc0_1
  have HB := Aside0.mk (Below.refl w.heap.size w)
  have H : ((impl_between.f a0_0 0 2047).bind fun t387 => (if t387 = true then (some (decide ((l0_1.length : Int) ≤ 8))) else (some false))) = some r := h
  clear h
  replace H := Option.bind_eq_some_iff.mp H
  obtain ⟨t387, A20, H⟩ := H
  replace H : (if t387 = true then (some (decide ((l0_1.length : Int) ≤ 8))) else (some false)) = some r := H
  have A2 := Aside0.mk A20
  clear A20
  by_cases c3 : t387 = true
  ·subst c3
   rw [if_pos rfl] at H
   obtain rfl := Option.some.inj H
   go_enter Try.func11, Try.ntmps11
   go_wp2_with (first | ((with_reducible refine gate_dst (N := 1) rfl ?_); (try (refine gate_guard (by rfl) ?_; dsimp only)); refine box_event ?hg (N := 1) ?hd (cs := #[.int .i64 a0_0, .slice A0_1 l0_1.length c0_1]) (t := 27) ?hr ?_; (case hd => rfl); (case hg => rfl); (case hr => first | (go_simp; done) | (go_simp; rfl)); intro gb386 hg w4 hbox hb; have n0_ := Aside0.mk (below_step hb_ hb); have n1_ := Aside0.mk (hbox); have n2_ : Aside0 (w.heap.size ≤ gb386) := gz_; have n3_ : Aside0 (w.heap.size ≤ gb386) := gz_; clear HB; have HB := n0_; have BK386 := n1_; have GW386 := n2_; have GE386 := n3_; clear n0_ n1_ n2_ n3_; clear hb hbox hg; have hcz5_0 : w4.cell? ⟨gb386, 0, none⟩ = some (.int .i64 a0_0) := (blk_cell BK386.out 0).trans rfl; have hcz5_1 : w4.cell? ⟨gb386, 1, none⟩ = some (.slice A0_1 l0_1.length c0_1) := (blk_cell BK386.out 1).trans rfl; have hfz5_0 := blk_frozen BK386.out 0; have hfz5_1 := blk_frozen BK386.out 1) | ((with_reducible refine gate_callee (f := 29) rfl ?_); refine goesL_ (some 5) rfl rfl Try.func29 (by kernel_rfl) rfl #[.int .i64 a0_0, .int .i64 0, .int .i64 2047] rfl ls_ ?_; (with_reducible refine (impl_between.calls a0_0 0 2047 true _ A2.out).mono ?_); rintro e w' ⟨rfl, ⟨nd, rfl⟩⟩; refine ⟨_, rfl, ?_⟩))
   go_ret
   exact ⟨er_, hb_⟩
  ·replace c3 := Bool.eq_false_iff.mpr c3
   subst c3
   rw [if_neg (show ¬ (false = true) by decide)] at H
   obtain rfl := Option.some.inj H
   go_enter Try.func11, Try.ntmps11
   go_wp2_with (first | ((with_reducible refine gate_dst (N := 1) rfl ?_); (try (refine gate_guard (by rfl) ?_; dsimp only)); refine box_event ?hg (N := 1) ?hd (cs := #[.int .i64 a0_0, .slice A0_1 l0_1.length c0_1]) (t := 27) ?hr ?_; (case hd => rfl); (case hg => rfl); (case hr => first | (go_simp; done) | (go_simp; rfl)); intro gb386 hg w6 hbox hb; have n0_ := Aside0.mk (below_step hb_ hb); have n1_ := Aside0.mk (hbox); have n2_ : Aside0 (w.heap.size ≤ gb386) := gz_; have n3_ : Aside0 (w.heap.size ≤ gb386) := gz_; clear HB; have HB := n0_; have BK386 := n1_; have GW386 := n2_; have GE386 := n3_; clear n0_ n1_ n2_ n3_; clear hb hbox hg; have hcz7_0 : w6.cell? ⟨gb386, 0, none⟩ = some (.int .i64 a0_0) := (blk_cell BK386.out 0).trans rfl; have hcz7_1 : w6.cell? ⟨gb386, 1, none⟩ = some (.slice A0_1 l0_1.length c0_1) := (blk_cell BK386.out 1).trans rfl; have hfz7_0 := blk_frozen BK386.out 0; have hfz7_1 := blk_frozen BK386.out 1) | ((with_reducible refine gate_callee (f := 29) rfl ?_); refine goesL_ (some 5) rfl rfl Try.func29 (by kernel_rfl) rfl #[.int .i64 a0_0, .int .i64 0, .int .i64 2047] rfl ls_ ?_; (with_reducible refine (impl_between.calls a0_0 0 2047 false _ A2.out).mono ?_); rintro e w' ⟨rfl, ⟨nd, rfl⟩⟩; refine ⟨_, rfl, ?_⟩))
   go_ret
   exact ⟨er_, hb_⟩

set_option maxHeartbeats 8000000 in
set_option maxRecDepth 100000 in
theorem impl_goodTalker.calls (k : Nat) (A0_0 : Option Addr) (c0_0 : Nat) (l0_0 : List (S27)) (a0_1 : Int) (a0_2 : Int) (a0_3 : Bool) (r : Bool) (w : World) (hr0_0 : Kd.C k27 w A0_0 l0_0.length l0_0) (hc0_0 : l0_0.length ≤ c0_0) (h : impl_goodTalker.f k l0_0 a0_1 a0_2 a0_3 = some r) :
   Calls Try.prog 42 #[.agg #[.slice A0_0 l0_0.length c0_0, .int .i64 a0_1, .int .i64 a0_2, .bool a0_3]] w fun e w' => e = .returned (.bool r) ∧ Below w.heap.size w w' := by
  have hu66 := Try.underlying66
  have hu27 := Try.underlying27
  have HR0_0 := Aside0.mk hr0_0
  have HC0_0 := Aside0.mk hc0_0
  clear hr0_0 hc0_0
  have HB := Aside0.mk (Below.refl w.heap.size w)
  have H : (impl_goodTalker.l0 k l0_0 (l0_0.length : Int) 0 l0_0 a0_1 a0_2 a0_3) = some r := h
  clear h
  have H' := Aside0.mk H
  clear H
  go_enter Try.func42, Try.ntmps42
  go_wp2_with (first | ((with_reducible refine gate_dst (N := 1) rfl ?_); refine box_event ?hg (N := 1) ?hd (cs := #[.slice A0_0 l0_0.length c0_0, .int .i64 a0_1, .int .i64 a0_2, .bool a0_3]) (t := 66) ?hr ?_; (case hd => rfl); (case hg => rfl); (case hr => first | (go_simp; done) | (go_simp; rfl)); intro gb388 hg w2 hbox hb; have n0_ := Aside0.mk (below_step hb_ hb); have n1_ := Aside0.mk (hbox); have n2_ : Aside0 (w.heap.size ≤ gb388) := gz_; have n3_ : Aside0 (w.heap.size ≤ gb388) := gz_; clear HB; have HB := n0_; have BK388 := n1_; have GW388 := n2_; have GE388 := n3_; clear n0_ n1_ n2_ n3_; clear hb hbox hg; have hcz3_0 : w2.cell? ⟨gb388, 0, none⟩ = some (.slice A0_0 l0_0.length c0_0) := (blk_cell BK388.out 0).trans rfl; have hcz3_1 : w2.cell? ⟨gb388, 1, none⟩ = some (.int .i64 a0_1) := (blk_cell BK388.out 1).trans rfl; have hcz3_2 : w2.cell? ⟨gb388, 2, none⟩ = some (.int .i64 a0_2) := (blk_cell BK388.out 2).trans rfl; have hcz3_3 : w2.cell? ⟨gb388, 3, none⟩ = some (.bool a0_3) := (blk_cell BK388.out 3).trans rfl; have hfz3_0 := blk_frozen BK388.out 0; have hfz3_1 := blk_frozen BK388.out 1; have hfz3_2 := blk_frozen BK388.out 2; have hfz3_3 := blk_frozen BK388.out 3))
  go_loopg [8] k (fun kq v8 w' => ∃ (x8_1 : Int), v8 = .int .i64 x8_1 ∧ Aside0 (impl_goodTalker.l0 kq l0_0 (l0_0.length : Int) x8_1 l0_0 a0_1 a0_2 a0_3 = some r) ∧ Aside0 (kq ≤ k) ∧ Aside0 (w'.heap[gb388]? = some (.cells #[(.slice A0_0 l0_0.length c0_0), .int .i64 a0_1, .int .i64 a0_2, .bool a0_3] 66 (0, 0))) ∧ Aside0 (Below w.heap.size w w'))
  case atStart => exact ⟨(0), es_, H', ⟨Nat.le_refl _⟩, ⟨bk_ BK388.out⟩, ⟨hb_⟩⟩
  case round =>
   clear H'
   try clear p2
   try clear hcz3_0
   try clear hcz3_1
   try clear hcz3_2
   try clear hcz3_3
   try clear hfz3_0
   try clear hfz3_1
   try clear hfz3_2
   try clear hfz3_3
   obtain ⟨x8_1, rfl, HA, HK1, BK388, HB⟩ := hrel
   cases gk with
   | zero => exact absurd HA.out (by simp [impl_goodTalker.l0])
   | succ k1 =>
    have H := HA.out
    clear HA
    simp only [impl_goodTalker.l0] at H
    by_cases c4 : x8_1 < (l0_0.length : Int)
    ·rw [if_pos c4] at H
     have c4b0 : decide (x8_1 < (l0_0.length : Int)) = true := decide_eq_true c4
     clear c4
     by_cases c5 : 0 ≤ x8_1
     ·rw [if_pos c5] at H
      have c5b0 : decide (0 ≤ x8_1) = true := decide_eq_true c5
      clear c5
      by_cases c6 : x8_1 < (l0_0.length : Int)
      ·rw [if_pos c6] at H
       have c6b0 : decide (x8_1 < (l0_0.length : Int)) = true := decide_eq_true c6
       clear c6
       replace H := Option.bind_eq_some_iff.mp H
       obtain ⟨t391, A70, H⟩ := H
       replace H : (if t391 = true then (impl_goodTalker.l0 k1 l0_0 (l0_0.length : Int) (wrap64 (x8_1 + 1)) l0_0 a0_1 a0_2 a0_3) else (some false)) = some r := H
       have A7 := Aside0.mk A70
       clear A70
       by_cases c8 : t391 = true
       ·subst c8
        rw [if_pos rfl] at H
        have H' := Aside0.mk H
        clear H
        have p389 : 0 ≤ (x8_1 : Int) := of_decide_eq_true as_
        have q389 : x8_1 < (l0_0.length : Int) := of_decide_eq_true as_
        obtain ⟨ad389, A389_1, c389_1, e389, hx389_0, hx389_1, hl389_1, hi389_1⟩ := at_T27 HR0_0.out x8_1 p389 q389
        cases e389
        replace hx389_0 := hc_ HB hx389_0
        replace hx389_1 := hc_ HB hx389_1
        have HR389_1 := Aside0.mk hi389_1
        have HC389_1 := Aside0.mk hl389_1
        clear hi389_1 hl389_1
        replace p389 := eq_true p389
        replace q389 := eq_true q389
        go_wp2_with (first | ((with_reducible refine gate_dst (N := 4) rfl ?_); refine box_event ?hg (N := 4) ?hd (cs := #[.int .i64 0, .slice none 0 0]) (t := 27) ?hr ?_; (case hd => rfl); (case hg => rfl); (case hr => first | (go_simp; done) | (go_simp; rfl)); intro gb390 hg w9 hbox hb; have n0_ := bb_ BK388 hb; have n1_ := Aside0.mk (below_step hb_ hb); have n2_ := Aside0.mk (hbox); have n3_ : Aside0 (w.heap.size ≤ gb390) := gz_; have n4_ : Aside0 (w.heap.size ≤ gb390) := gz_; have n5_ := Aside0.mk ((by rw [hg]; exact Nat.ne_of_lt (blk_lt (g := gb388) (o := .cells #[.slice (some ad389) l0_0.length c0_0, .int .i64 a0_1, .int .i64 a0_2, .bool a0_3] 66 (0, 0)) (bk_ BK388.out)) : gb388 ≠ gb390)); have n6_ := Aside0.mk ((by rw [hg]; exact Nat.ne_of_gt (blk_lt (g := gb388) (o := .cells #[.slice (some ad389) l0_0.length c0_0, .int .i64 a0_1, .int .i64 a0_2, .bool a0_3] 66 (0, 0)) (bk_ BK388.out)) : gb390 ≠ gb388)); clear BK388; clear HB; have BK388 := n0_; have HB := n1_; have BK390 := n2_; have GW390 := n3_; have GE390 := n4_; have NB388_390 := n5_; have NB390_388 := n6_; clear n0_ n1_ n2_ n3_ n4_ n5_ n6_; clear hb hbox hg; have hnb10 := NB390_388.out; have hnc10 := NB388_390.out; have hcz11_0 : w9.cell? ⟨gb390, 0, none⟩ = some (.int .i64 0) := (blk_cell BK390.out 0).trans rfl; have hcz11_1 : w9.cell? ⟨gb390, 1, none⟩ = some (.slice none 0 0) := (blk_cell BK390.out 1).trans rfl; have hfz11_0 := blk_frozen BK390.out 0; have hfz11_1 := blk_frozen BK390.out 1) | ((with_reducible refine gate_callee (f := 11) rfl ?_); refine goesL_ (some 13) rfl rfl Try.func11 (by kernel_rfl) rfl #[.agg #[.int .i64 ((rd_T27 l0_0 x8_1).f0), .slice A389_1 ((rd_T27 l0_0 x8_1).f1).length c389_1]] rfl ls_ ?_; (with_reducible refine (impl_GoodFrame.calls ((rd_T27 l0_0 x8_1).f0) _ _ ((rd_T27 l0_0 x8_1).f1) true _ ?side1 ?side2 A7.out).mono ?_); (case side1 => exact Kd.C_below HR389_1.out hb_); (case side2 => exact HC389_1.out); rintro e w12 ⟨rfl, hb⟩; refine ⟨_, rfl, ?_⟩; have n0_ := Aside0.mk (blk_below (g := gb388) (o := .cells #[.slice (some ad389) l0_0.length c0_0, .int .i64 a0_1, .int .i64 a0_2, .bool a0_3] 66 (0, 0)) (by (with_reducible repeat (first | refine blk_drewN ?_ _ | refine blk_drew ?_ | refine blk_alloc ?_ _)); refine blk_far ?_ NB388_390.out _; (with_reducible repeat (first | refine blk_drewN ?_ _ | refine blk_drew ?_ | refine blk_alloc ?_ _)); refine blk_far ?_ NB388_390.out _; (with_reducible repeat (first | refine blk_drewN ?_ _ | refine blk_drew ?_ | refine blk_alloc ?_ _)); exact BK388.out) hb); have n1_ := Aside0.mk (blk_below (g := gb390) (o := .cells #[.int .i64 ((rd_T27 l0_0 x8_1).f0), .slice A389_1 ((rd_T27 l0_0 x8_1).f1).length c389_1] 27 (0, 0)) (by (with_reducible repeat (first | refine blk_drewN ?_ _ | refine blk_drew ?_ | refine blk_alloc ?_ _)); refine blk_put (cs := #[.int .i64 ((rd_T27 l0_0 x8_1).f0), .slice none 0 0]) ?_ 1 _ rfl; (with_reducible repeat (first | refine blk_drewN ?_ _ | refine blk_drew ?_ | refine blk_alloc ?_ _)); refine blk_put (cs := #[.int .i64 0, .slice none 0 0]) ?_ 0 _ rfl; (with_reducible repeat (first | refine blk_drewN ?_ _ | refine blk_drew ?_ | refine blk_alloc ?_ _)); exact BK390.out) hb); have n2_ := Aside0.mk (below_step hb_ hb); clear BK388; clear BK390; clear HB; have BK388 := n0_; have BK390 := n1_; have HB := n2_; clear n0_ n1_ n2_; (try clear hb); (try clear hb2); (try clear hk); (try clear hi)))
        go_roundg k1
        case measure => have := HK1.out; omega
        case rel => exact ⟨(wrap64 (x8_1 + 1)), es_, H', ⟨by have := HK1.out; omega⟩, ⟨bk_ BK388.out⟩, ⟨hb_⟩⟩
       ·replace c8 := Bool.eq_false_iff.mpr c8
        subst c8
        rw [if_neg (show ¬ (false = true) by decide)] at H
        obtain rfl := Option.some.inj H
        have p389 : 0 ≤ (x8_1 : Int) := of_decide_eq_true as_
        have q389 : x8_1 < (l0_0.length : Int) := of_decide_eq_true as_
        obtain ⟨ad389, A389_1, c389_1, e389, hx389_0, hx389_1, hl389_1, hi389_1⟩ := at_T27 HR0_0.out x8_1 p389 q389
        cases e389
        replace hx389_0 := hc_ HB hx389_0
        replace hx389_1 := hc_ HB hx389_1
        have HR389_1 := Aside0.mk hi389_1
        have HC389_1 := Aside0.mk hl389_1
        clear hi389_1 hl389_1
        replace p389 := eq_true p389
        replace q389 := eq_true q389
        go_wp2_with (first | ((with_reducible refine gate_dst (N := 4) rfl ?_); refine box_event ?hg (N := 4) ?hd (cs := #[.int .i64 0, .slice none 0 0]) (t := 27) ?hr ?_; (case hd => rfl); (case hg => rfl); (case hr => first | (go_simp; done) | (go_simp; rfl)); intro gb390 hg w13 hbox hb; have n0_ := bb_ BK388 hb; have n1_ := Aside0.mk (below_step hb_ hb); have n2_ := Aside0.mk (hbox); have n3_ : Aside0 (w.heap.size ≤ gb390) := gz_; have n4_ : Aside0 (w.heap.size ≤ gb390) := gz_; have n5_ := Aside0.mk ((by rw [hg]; exact Nat.ne_of_lt (blk_lt (g := gb388) (o := .cells #[.slice (some ad389) l0_0.length c0_0, .int .i64 a0_1, .int .i64 a0_2, .bool a0_3] 66 (0, 0)) (bk_ BK388.out)) : gb388 ≠ gb390)); have n6_ := Aside0.mk ((by rw [hg]; exact Nat.ne_of_gt (blk_lt (g := gb388) (o := .cells #[.slice (some ad389) l0_0.length c0_0, .int .i64 a0_1, .int .i64 a0_2, .bool a0_3] 66 (0, 0)) (bk_ BK388.out)) : gb390 ≠ gb388)); clear BK388; clear HB; have BK388 := n0_; have HB := n1_; have BK390 := n2_; have GW390 := n3_; have GE390 := n4_; have NB388_390 := n5_; have NB390_388 := n6_; clear n0_ n1_ n2_ n3_ n4_ n5_ n6_; clear hb hbox hg; have hnb14 := NB390_388.out; have hnc14 := NB388_390.out; have hcz15_0 : w13.cell? ⟨gb390, 0, none⟩ = some (.int .i64 0) := (blk_cell BK390.out 0).trans rfl; have hcz15_1 : w13.cell? ⟨gb390, 1, none⟩ = some (.slice none 0 0) := (blk_cell BK390.out 1).trans rfl; have hfz15_0 := blk_frozen BK390.out 0; have hfz15_1 := blk_frozen BK390.out 1) | ((with_reducible refine gate_callee (f := 11) rfl ?_); refine goesL_ (some 13) rfl rfl Try.func11 (by kernel_rfl) rfl #[.agg #[.int .i64 ((rd_T27 l0_0 x8_1).f0), .slice A389_1 ((rd_T27 l0_0 x8_1).f1).length c389_1]] rfl ls_ ?_; (with_reducible refine (impl_GoodFrame.calls ((rd_T27 l0_0 x8_1).f0) _ _ ((rd_T27 l0_0 x8_1).f1) false _ ?side1 ?side2 A7.out).mono ?_); (case side1 => exact Kd.C_below HR389_1.out hb_); (case side2 => exact HC389_1.out); rintro e w16 ⟨rfl, hb⟩; refine ⟨_, rfl, ?_⟩; have n0_ := Aside0.mk (blk_below (g := gb388) (o := .cells #[.slice (some ad389) l0_0.length c0_0, .int .i64 a0_1, .int .i64 a0_2, .bool a0_3] 66 (0, 0)) (by (with_reducible repeat (first | refine blk_drewN ?_ _ | refine blk_drew ?_ | refine blk_alloc ?_ _)); refine blk_far ?_ NB388_390.out _; (with_reducible repeat (first | refine blk_drewN ?_ _ | refine blk_drew ?_ | refine blk_alloc ?_ _)); refine blk_far ?_ NB388_390.out _; (with_reducible repeat (first | refine blk_drewN ?_ _ | refine blk_drew ?_ | refine blk_alloc ?_ _)); exact BK388.out) hb); have n1_ := Aside0.mk (blk_below (g := gb390) (o := .cells #[.int .i64 ((rd_T27 l0_0 x8_1).f0), .slice A389_1 ((rd_T27 l0_0 x8_1).f1).length c389_1] 27 (0, 0)) (by (with_reducible repeat (first | refine blk_drewN ?_ _ | refine blk_drew ?_ | refine blk_alloc ?_ _)); refine blk_put (cs := #[.int .i64 ((rd_T27 l0_0 x8_1).f0), .slice none 0 0]) ?_ 1 _ rfl; (with_reducible repeat (first | refine blk_drewN ?_ _ | refine blk_drew ?_ | refine blk_alloc ?_ _)); refine blk_put (cs := #[.int .i64 0, .slice none 0 0]) ?_ 0 _ rfl; (with_reducible repeat (first | refine blk_drewN ?_ _ | refine blk_drew ?_ | refine blk_alloc ?_ _)); exact BK390.out) hb); have n2_ := Aside0.mk (below_step hb_ hb); clear BK388; clear BK390; clear HB; have BK388 := n0_; have BK390 := n1_; have HB := n2_; clear n0_ n1_ n2_; (try clear hb); (try clear hb2); (try clear hk); (try clear hi)))
        go_ret
        exact ⟨er_, hb_⟩
      ·rw [if_neg c6] at H
       exact absurd H (by simp)
     ·rw [if_neg c5] at H
      exact absurd H (by simp)
    ·rw [if_neg c4] at H
     have c4b0 : decide (x8_1 < (l0_0.length : Int)) = false := decide_eq_false c4
     clear c4
     by_cases c17 : (l0_0.length : Int) ≤ 8
     ·rw [if_pos c17] at H
      have c17b0 : decide ((l0_0.length : Int) ≤ 8) = true := decide_eq_true c17
      have c17b1 : decide (l0_0.length ≤ 8) = true := decide_eq_true (by omega)
      clear c17
      replace H := Option.bind_eq_some_iff.mp H
      obtain ⟨t392, A180, H⟩ := H
      replace H : (if t392 = true then ((impl_between.f a0_2 0 255).bind fun t393 => (if t393 = true then (some (a0_3 == (a0_2 == 255))) else (some false))) else (some false)) = some r := H
      have A18 := Aside0.mk A180
      clear A180
      by_cases c19 : t392 = true
      ·subst c19
       rw [if_pos rfl] at H
       replace H := Option.bind_eq_some_iff.mp H
       obtain ⟨t393, A200, H⟩ := H
       replace H : (if t393 = true then (some (a0_3 == (a0_2 == 255))) else (some false)) = some r := H
       have A20 := Aside0.mk A200
       clear A200
       by_cases c21 : t393 = true
       ·subst c21
        rw [if_pos rfl] at H
        obtain rfl := Option.some.inj H
        have hcz22_0 : wr.cell? ⟨gb388, 0, none⟩ = some (.slice A0_0 l0_0.length c0_0) := (blk_cell BK388.out 0).trans rfl
        have hcz22_1 : wr.cell? ⟨gb388, 1, none⟩ = some (.int .i64 a0_1) := (blk_cell BK388.out 1).trans rfl
        have hcz22_2 : wr.cell? ⟨gb388, 2, none⟩ = some (.int .i64 a0_2) := (blk_cell BK388.out 2).trans rfl
        have hcz22_3 : wr.cell? ⟨gb388, 3, none⟩ = some (.bool a0_3) := (blk_cell BK388.out 3).trans rfl
        have hfz22_0 := blk_frozen BK388.out 0
        have hfz22_1 := blk_frozen BK388.out 1
        have hfz22_2 := blk_frozen BK388.out 2
        have hfz22_3 := blk_frozen BK388.out 3
        go_wp2_with (first | (go_at_call 29; (with_reducible refine (impl_between.calls a0_1 1 10 true _ A18.out).mono ?_); rintro e w' ⟨rfl, ⟨nd, rfl⟩⟩) | (go_at_call 29; (with_reducible refine (impl_between.calls a0_2 0 255 true _ A20.out).mono ?_); rintro e w' ⟨rfl, ⟨nd, rfl⟩⟩))
        go_ret
        exact ⟨er_, hb_⟩
       ·replace c21 := Bool.eq_false_iff.mpr c21
        subst c21
        rw [if_neg (show ¬ (false = true) by decide)] at H
        obtain rfl := Option.some.inj H
        have hcz23_0 : wr.cell? ⟨gb388, 0, none⟩ = some (.slice A0_0 l0_0.length c0_0) := (blk_cell BK388.out 0).trans rfl
        have hcz23_1 : wr.cell? ⟨gb388, 1, none⟩ = some (.int .i64 a0_1) := (blk_cell BK388.out 1).trans rfl
        have hcz23_2 : wr.cell? ⟨gb388, 2, none⟩ = some (.int .i64 a0_2) := (blk_cell BK388.out 2).trans rfl
        have hcz23_3 : wr.cell? ⟨gb388, 3, none⟩ = some (.bool a0_3) := (blk_cell BK388.out 3).trans rfl
        have hfz23_0 := blk_frozen BK388.out 0
        have hfz23_1 := blk_frozen BK388.out 1
        have hfz23_2 := blk_frozen BK388.out 2
        have hfz23_3 := blk_frozen BK388.out 3
        go_wp2_with (first | (go_at_call 29; (with_reducible refine (impl_between.calls a0_1 1 10 true _ A18.out).mono ?_); rintro e w' ⟨rfl, ⟨nd, rfl⟩⟩) | (go_at_call 29; (with_reducible refine (impl_between.calls a0_2 0 255 false _ A20.out).mono ?_); rintro e w' ⟨rfl, ⟨nd, rfl⟩⟩))
        go_ret
        exact ⟨er_, hb_⟩
      ·replace c19 := Bool.eq_false_iff.mpr c19
       subst c19
       rw [if_neg (show ¬ (false = true) by decide)] at H
       obtain rfl := Option.some.inj H
       have hcz24_0 : wr.cell? ⟨gb388, 0, none⟩ = some (.slice A0_0 l0_0.length c0_0) := (blk_cell BK388.out 0).trans rfl
       have hcz24_1 : wr.cell? ⟨gb388, 1, none⟩ = some (.int .i64 a0_1) := (blk_cell BK388.out 1).trans rfl
       have hcz24_2 : wr.cell? ⟨gb388, 2, none⟩ = some (.int .i64 a0_2) := (blk_cell BK388.out 2).trans rfl
       have hcz24_3 : wr.cell? ⟨gb388, 3, none⟩ = some (.bool a0_3) := (blk_cell BK388.out 3).trans rfl
       have hfz24_0 := blk_frozen BK388.out 0
       have hfz24_1 := blk_frozen BK388.out 1
       have hfz24_2 := blk_frozen BK388.out 2
       have hfz24_3 := blk_frozen BK388.out 3
       go_wp2_with (first | (go_at_call 29; (with_reducible refine (impl_between.calls a0_1 1 10 false _ A18.out).mono ?_); rintro e w' ⟨rfl, ⟨nd, rfl⟩⟩))
       go_ret
       exact ⟨er_, hb_⟩
     ·rw [if_neg c17] at H
      have c17b0 : decide ((l0_0.length : Int) ≤ 8) = false := decide_eq_false c17
      have c17b1 : decide (l0_0.length ≤ 8) = false := decide_eq_false (by omega)
      clear c17
      obtain rfl := Option.some.inj H
      have hcz25_0 : wr.cell? ⟨gb388, 0, none⟩ = some (.slice A0_0 l0_0.length c0_0) := (blk_cell BK388.out 0).trans rfl
      have hcz25_1 : wr.cell? ⟨gb388, 1, none⟩ = some (.int .i64 a0_1) := (blk_cell BK388.out 1).trans rfl
      have hcz25_2 : wr.cell? ⟨gb388, 2, none⟩ = some (.int .i64 a0_2) := (blk_cell BK388.out 2).trans rfl
      have hcz25_3 : wr.cell? ⟨gb388, 3, none⟩ = some (.bool a0_3) := (blk_cell BK388.out 3).trans rfl
      have hfz25_0 := blk_frozen BK388.out 0
      have hfz25_1 := blk_frozen BK388.out 1
      have hfz25_2 := blk_frozen BK388.out 2
      have hfz25_3 := blk_frozen BK388.out 3
      go_wp2
      go_ret
      exact ⟨er_, hb_⟩

-- NOT PRINTED: function 43 (slices_Clone_byte_byte)

set_option maxHeartbeats 8000000 in
set_option maxRecDepth 100000 in
theorem slices_Contains_int_int.calls (k : Nat) (A0 : Option Addr) (c0 : Nat) (l0 : List Int) (a1 : Int) (r : Bool) (w : World) (hr0 : Kd.C (Kd.int .i64) w A0 l0.length l0) (hc0 : l0.length ≤ c0) (h : slices_Contains_int_int.f k l0 a1 = some r) :
   Calls Try.prog 44 #[.slice A0 l0.length c0, .int .i64 a1] w fun e w' => e = .returned (.bool r) ∧ Drawn0 w w' := by
  have HR0 := Aside0.mk hr0
  have HC0 := Aside0.mk hc0
  clear hr0 hc0
  have H : ((slices_Index_int_int.f k l0 a1).bind fun t394 => (some (decide (t394 ≥ 0)))) = some r := h
  clear h
  replace H := Option.bind_eq_some_iff.mp H
  obtain ⟨t394, A30, H⟩ := H
  replace H : (some (decide (t394 ≥ 0))) = some r := H
  have A3 := Aside0.mk A30
  clear A30
  obtain rfl := Option.some.inj H
  go_enter Try.func44, Try.ntmps44
  go_wp2_with (first | ((with_reducible refine gate_callee (f := 31) rfl ?_); refine goesL_ (some 7) rfl rfl Try.func31 (by kernel_rfl) rfl #[.slice A0 l0.length c0, .int .i64 a1] rfl ls_ ?_; (with_reducible refine (slices_Index_int_int.calls k _ _ l0 a1 t394 _ ?side1 ?side2 A3.out).mono ?_); (case side1 => repeat (first | exact HR0.out | (with_reducible refine Kd.C_alloc ?_ _) | (with_reducible refine Kd.C_drewN ?_ _) | (with_reducible refine Kd.C_drew ?_))); (case side2 => exact HC0.out); rintro e w' ⟨rfl, ⟨nd, rfl⟩⟩; refine ⟨_, rfl, ?_⟩))
  go_ret
  exact ⟨es_, by repeat (first | exact Drawn0.refl _ | apply Drawn0.step)⟩

-- NOT PRINTED: function 45 (impl_Frame)

end Go.Proofs.Ytbdonoeellmeoaa.Pr
