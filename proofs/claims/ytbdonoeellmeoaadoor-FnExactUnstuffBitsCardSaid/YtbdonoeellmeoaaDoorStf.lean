/- impl.stuff by hand: its closure 'put', and the walk (gen-stf.py). -/
import Derived.Test.YtbdonoeellmeoaaDoorPr0
import Derived.Test.YtbdonoeellmeoaaDoorStd
import Derived.Outline
namespace Go.Proofs.YtbdonoeellmeoaaDoor.Pr
open Go.RowKit Go.Proofs.YtbdonoeellmeoaaDoorW.PrintWords Go.Proofs.YtbdonoeellmeoaaDoorW.PrintLast Go.Proofs.YtbdonoeellmeoaaDoorW.PrintMore
set_option linter.unusedVariables false
set_option linter.unusedSimpArgs false
/-- What the closure's call leaves. -/
def Put (w0 : World) (gr gb : Nat) (xs : List Int) (run : Int) (w : World) : Prop :=
  ∃ v : Value, w.heap[gr]? = some (.cells #[.int .i64 run] 3 (0, 0)) ∧ w.heap[gb]? = some (.cells #[v] 29 (0, 0)) ∧ Kd.R (Kd.int .u8) 5 w w0.heap.size (fun _ => True) v xs ∧ Below w0.heap.size w0 w ∧ w0.heap.size ≤ gr ∧ w0.heap.size ≤ gb
set_option maxHeartbeats 1000000 in
set_option maxRecDepth 100000 in
theorem put_new (gr gb : Nat) (c run : Int) (xs : List Int) (w0 w : World) (h : Put w0 gr gb xs run w) (h0 : run ≤ 0) (hl : xs.length < 1000000) :
    Calls Tryd.prog 19 #[.int .u8 c, .pointer (some ⟨gr, 0, none⟩), .pointer (some ⟨gb, 0, none⟩)] w fun e w' => e = .returned (.tuple #[]) ∧ Put w0 gr gb (xs ++ [c]) (1) w' := by
  obtain ⟨v, hgr, hgb, hR, hB, hbr, hbb⟩ := h
  have hcr : w.cell? ⟨gr, 0, none⟩ = some (.int .i64 run) := (blk_cell hgr 0).trans rfl
  have hfr := blk_frozen hgr 0
  have hcb : w.cell? ⟨gb, 0, none⟩ = some v := (blk_cell hgb 0).trans rfl
  have hfb := blk_frozen hgb 0
  have hd : decide (0 < run) = false := decide_eq_false (by omega)
  have HR := Aside0.mk hR
  have HB := Aside0.mk hB
  have KR := Aside0.mk hgr
  have KB := Aside0.mk hgb
  have NE := Aside0.mk (blk_ne hgr hgb (by decide))
  have HL := Aside0.mk hl
  clear hR hB hgr hgb
  obtain ⟨y, hy⟩ : ∃ y, y = xs ++ [c] := ⟨_, rfl⟩
  have HY := Aside0.mk hy
  rw [← hy]
  clear hy
  go_enter Tryd.func19, Tryd.ntmps19
  go_wp2_with (first
    | ((with_reducible refine gate_store (t := 3) (p := 1) rfl ?_); refine store_event (t := 3) (p := 1) (v := ?vo) (w1 := (w.setCell ⟨gr, 0, none⟩ (.int .i64 (1)))) ?hg ?ho ?hn ?hr ?_; (case ho => rfl); (case hg => rfl); (case hn => rfl); (case hr => first | (go_simp; done) | (go_simp; rfl)); intro w1 hw; have KR1 : Aside0 (w1.heap[gr]? = some (.cells #[.int .i64 (1)] 3 (0, 0))) := ⟨by rw [hw]; exact (blk_set KR.out 0 _).trans rfl⟩; have KB1 : Aside0 (w1.heap[gb]? = some (.cells #[v] 29 (0, 0))) := ⟨by rw [hw]; exact blk_far KB.out (Ne.symm NE.out) _⟩; have HR1 : Aside0 (Kd.R (Kd.int .u8) 5 w1 w0.heap.size (fun _ => True) (v) xs) := ⟨by rw [hw]; exact Kd.R_set HR.out KR.out (by decide) 0 _⟩; have HB1 : Aside0 (Below w0.heap.size w0 w1) := ⟨by rw [hw]; exact HB.out.setCell hbr _⟩; clear hw HR HB KR KB hcb hfb hcr hfr; have hcb : w1.cell? ⟨gb, 0, none⟩ = some (v) := (blk_cell KB1.out 0).trans rfl; have hfb := blk_frozen KB1.out 0)
    | ((with_reducible refine gate_builtin (b := .append) (xs := #[.tmp 18, .tmp 20]) rfl ?_); (try (refine gate_guard (by rfl) ?_; dsimp only)); at_builtin; refine Kd.R_append (Kd.int .u8) (w0 := w0) w0.heap.size rfl (.tmp 18) (.tmp 20) 29 5 (.int .u8 0) 1 rfl Tryd.underlying29 info5 rfl (by decide) (by omega) (v) xs c [.int .u8 c] (fun _ => True) (fun _ => False) rfl rfl ?aP (fun _ hk => hk.elim) ?aF ?aO ?aB ?aS ?aL ?_; (case aP => exact rfl); (case aB => exact HB1.out); (case aF => exact (fun _ _ => trivial)); (case aO => exact HR1.out); (case aS => exact HB1.out.size); (case aL => have := HL.out; omega); intro v2 w2 ho hb hg hat; rw [← HY.out] at ho; obtain ⟨A2, c2, e2⟩ := Kd.R_slice ho; subst e2; have KR2 : Aside0 (w2.heap[gr]? = some (.cells #[.int .i64 (1)] 3 (0, 0))) := ⟨blk_grown KR1.out hg (Kd.R_ne HR1.out KR1.out (by decide))⟩; have KB2 : Aside0 (w2.heap[gb]? = some (.cells #[v] 29 (0, 0))) := ⟨blk_grown KB1.out hg (Kd.R_ne HR1.out KB1.out (by decide))⟩; have HR2 := Aside0.mk ho; have HB2 := Aside0.mk hb; clear ho hb hg hat hcb hfb HR1 HB1 KR1 KB1; have hcb : w2.cell? ⟨gb, 0, none⟩ = some (v) := (blk_cell KB2.out 0).trans rfl; have hfb := blk_frozen KB2.out 0))
  go_end0
  exact ⟨rfl, ⟨_, blk_far KR2.out NE.out _, (blk_set KB2.out 0 _).trans rfl, Kd.R_set HR2.out KB2.out (by decide) 0 _, HB2.out.setCell hbb _, hbr, hbb⟩⟩
set_option maxHeartbeats 1000000 in
set_option maxRecDepth 100000 in
theorem put_same (gr gb : Nat) (c run : Int) (xs : List Int) (w0 w : World) (h : Put w0 gr gb xs run w) (h0 : 0 < run) (h1 : run ≤ 1000) (hx : xs ≠ []) (he : rd xs ((xs.length : Int) - 1) = c) (hl : xs.length < 1000000) :
    Calls Tryd.prog 19 #[.int .u8 c, .pointer (some ⟨gr, 0, none⟩), .pointer (some ⟨gb, 0, none⟩)] w fun e w' => e = .returned (.tuple #[]) ∧ Put w0 gr gb (xs ++ [c]) (run + 1) w' := by
  obtain ⟨v, hgr, hgb, hR, hB, hbr, hbb⟩ := h
  have hcr : w.cell? ⟨gr, 0, none⟩ = some (.int .i64 run) := (blk_cell hgr 0).trans rfl
  have hfr := blk_frozen hgr 0
  have hcb : w.cell? ⟨gb, 0, none⟩ = some v := (blk_cell hgb 0).trans rfl
  have hfb := blk_frozen hgb 0
  have hd : decide (0 < run) = true := decide_eq_true (by omega)
  have hxp : 0 < xs.length := List.length_pos_iff.2 hx
  obtain ⟨g, cap, ev, gb_, gl_, cl_⟩ := Kd.R_form hR hxp
  subst ev
  have hla : w.cell? ⟨g, xs.length - 1, none⟩ = some (.int .u8 c) := by have := (Kd.R_cell (0 : Int) hR ((xs.length : Int) - 1) (by omega) (by omega)).1; rw [show ((xs.length : Int) - 1).toNat = xs.length - 1 by omega] at this; rw [← he]; exact this
  clear hx he gb_ gl_ cl_
  have p1 : 0 ≤ (xs.length : Int) - 1 := by omega
  have p2 : (xs.length : Int) - 1 < (xs.length : Int) := by omega
  have HR := Aside0.mk hR
  have HB := Aside0.mk hB
  have KR := Aside0.mk hgr
  have KB := Aside0.mk hgb
  have NE := Aside0.mk (blk_ne hgr hgb (by decide))
  have HL := Aside0.mk hl
  clear hR hB hgr hgb
  obtain ⟨y, hy⟩ : ∃ y, y = xs ++ [c] := ⟨_, rfl⟩
  have HY := Aside0.mk hy
  rw [← hy]
  clear hy
  go_enter Tryd.func19, Tryd.ntmps19
  go_wp2_with (first
    | ((with_reducible refine gate_store (t := 3) (p := 1) rfl ?_); refine store_event (t := 3) (p := 1) (v := ?vo) (w1 := (w.setCell ⟨gr, 0, none⟩ (.int .i64 (run + 1)))) ?hg ?ho ?hn ?hr ?_; (case ho => rfl); (case hg => rfl); (case hn => rfl); (case hr => first | (go_simp; done) | (go_simp; rfl)); intro w1 hw; have KR1 : Aside0 (w1.heap[gr]? = some (.cells #[.int .i64 (run + 1)] 3 (0, 0))) := ⟨by rw [hw]; exact (blk_set KR.out 0 _).trans rfl⟩; have KB1 : Aside0 (w1.heap[gb]? = some (.cells #[.slice (some ⟨g, 0, none⟩) xs.length cap] 29 (0, 0))) := ⟨by rw [hw]; exact blk_far KB.out (Ne.symm NE.out) _⟩; have HR1 : Aside0 (Kd.R (Kd.int .u8) 5 w1 w0.heap.size (fun _ => True) (.slice (some ⟨g, 0, none⟩) xs.length cap) xs) := ⟨by rw [hw]; exact Kd.R_set HR.out KR.out (by decide) 0 _⟩; have HB1 : Aside0 (Below w0.heap.size w0 w1) := ⟨by rw [hw]; exact HB.out.setCell hbr _⟩; clear hw HR HB KR KB hcb hfb hcr hfr; have hcb : w1.cell? ⟨gb, 0, none⟩ = some (.slice (some ⟨g, 0, none⟩) xs.length cap) := (blk_cell KB1.out 0).trans rfl; have hfb := blk_frozen KB1.out 0)
    | ((with_reducible refine gate_builtin (b := .append) (xs := #[.tmp 18, .tmp 20]) rfl ?_); (try (refine gate_guard (by rfl) ?_; dsimp only)); at_builtin; refine Kd.R_append (Kd.int .u8) (w0 := w0) w0.heap.size rfl (.tmp 18) (.tmp 20) 29 5 (.int .u8 0) 1 rfl Tryd.underlying29 info5 rfl (by decide) (by omega) (.slice (some ⟨g, 0, none⟩) xs.length cap) xs c [.int .u8 c] (fun _ => True) (fun _ => False) rfl rfl ?aP (fun _ hk => hk.elim) ?aF ?aO ?aB ?aS ?aL ?_; (case aP => exact rfl); (case aB => exact HB1.out); (case aF => exact (fun _ _ => trivial)); (case aO => exact HR1.out); (case aS => exact HB1.out.size); (case aL => have := HL.out; omega); intro v2 w2 ho hb hg hat; rw [← HY.out] at ho; obtain ⟨A2, c2, e2⟩ := Kd.R_slice ho; subst e2; have KR2 : Aside0 (w2.heap[gr]? = some (.cells #[.int .i64 (run + 1)] 3 (0, 0))) := ⟨blk_grown KR1.out hg (Kd.R_ne HR1.out KR1.out (by decide))⟩; have KB2 : Aside0 (w2.heap[gb]? = some (.cells #[.slice (some ⟨g, 0, none⟩) xs.length cap] 29 (0, 0))) := ⟨blk_grown KB1.out hg (Kd.R_ne HR1.out KB1.out (by decide))⟩; have HR2 := Aside0.mk ho; have HB2 := Aside0.mk hb; clear ho hb hg hat hcb hfb HR1 HB1 KR1 KB1; have hcb : w2.cell? ⟨gb, 0, none⟩ = some (.slice (some ⟨g, 0, none⟩) xs.length cap) := (blk_cell KB2.out 0).trans rfl; have hfb := blk_frozen KB2.out 0))
  go_end0
  exact ⟨rfl, ⟨_, blk_far KR2.out NE.out _, (blk_set KB2.out 0 _).trans rfl, Kd.R_set HR2.out KB2.out (by decide) 0 _, HB2.out.setCell hbb _, hbr, hbb⟩⟩
set_option maxHeartbeats 1000000 in
set_option maxRecDepth 100000 in
theorem put_other (gr gb : Nat) (c run : Int) (xs : List Int) (w0 w : World) (h : Put w0 gr gb xs run w) (h0 : 0 < run) (h1 : run ≤ 1000) (hx : xs ≠ []) (he : rd xs ((xs.length : Int) - 1) ≠ c) (hl : xs.length < 1000000) :
    Calls Tryd.prog 19 #[.int .u8 c, .pointer (some ⟨gr, 0, none⟩), .pointer (some ⟨gb, 0, none⟩)] w fun e w' => e = .returned (.tuple #[]) ∧ Put w0 gr gb (xs ++ [c]) (1) w' := by
  obtain ⟨v, hgr, hgb, hR, hB, hbr, hbb⟩ := h
  have hcr : w.cell? ⟨gr, 0, none⟩ = some (.int .i64 run) := (blk_cell hgr 0).trans rfl
  have hfr := blk_frozen hgr 0
  have hcb : w.cell? ⟨gb, 0, none⟩ = some v := (blk_cell hgb 0).trans rfl
  have hfb := blk_frozen hgb 0
  have hd : decide (0 < run) = true := decide_eq_true (by omega)
  have hxp : 0 < xs.length := List.length_pos_iff.2 hx
  obtain ⟨g, cap, ev, gb_, gl_, cl_⟩ := Kd.R_form hR hxp
  subst ev
  obtain ⟨q, hq⟩ : ∃ q, q = rd xs ((xs.length : Int) - 1) := ⟨_, rfl⟩
  rw [← hq] at he
  have hla : w.cell? ⟨g, xs.length - 1, none⟩ = some (.int .u8 q) := by have := (Kd.R_cell (0 : Int) hR ((xs.length : Int) - 1) (by omega) (by omega)).1; rw [show ((xs.length : Int) - 1).toNat = xs.length - 1 by omega] at this; rw [hq]; exact this
  have e1 : (q == c) = false := beq_eq_false_iff_ne.2 he
  have e2 : (q != c) = true := bne_iff_ne.2 he
  clear hx he gb_ gl_ cl_ hq
  have p1 : 0 ≤ (xs.length : Int) - 1 := by omega
  have p2 : (xs.length : Int) - 1 < (xs.length : Int) := by omega
  have HR := Aside0.mk hR
  have HB := Aside0.mk hB
  have KR := Aside0.mk hgr
  have KB := Aside0.mk hgb
  have NE := Aside0.mk (blk_ne hgr hgb (by decide))
  have HL := Aside0.mk hl
  clear hR hB hgr hgb
  obtain ⟨y, hy⟩ : ∃ y, y = xs ++ [c] := ⟨_, rfl⟩
  have HY := Aside0.mk hy
  rw [← hy]
  clear hy
  go_enter Tryd.func19, Tryd.ntmps19
  go_wp2_with (first
    | ((with_reducible refine gate_store (t := 3) (p := 1) rfl ?_); refine store_event (t := 3) (p := 1) (v := ?vo) (w1 := (w.setCell ⟨gr, 0, none⟩ (.int .i64 (1)))) ?hg ?ho ?hn ?hr ?_; (case ho => rfl); (case hg => rfl); (case hn => rfl); (case hr => first | (go_simp; done) | (go_simp; rfl)); intro w1 hw; have KR1 : Aside0 (w1.heap[gr]? = some (.cells #[.int .i64 (1)] 3 (0, 0))) := ⟨by rw [hw]; exact (blk_set KR.out 0 _).trans rfl⟩; have KB1 : Aside0 (w1.heap[gb]? = some (.cells #[.slice (some ⟨g, 0, none⟩) xs.length cap] 29 (0, 0))) := ⟨by rw [hw]; exact blk_far KB.out (Ne.symm NE.out) _⟩; have HR1 : Aside0 (Kd.R (Kd.int .u8) 5 w1 w0.heap.size (fun _ => True) (.slice (some ⟨g, 0, none⟩) xs.length cap) xs) := ⟨by rw [hw]; exact Kd.R_set HR.out KR.out (by decide) 0 _⟩; have HB1 : Aside0 (Below w0.heap.size w0 w1) := ⟨by rw [hw]; exact HB.out.setCell hbr _⟩; clear hw HR HB KR KB hcb hfb hcr hfr; have hcb : w1.cell? ⟨gb, 0, none⟩ = some (.slice (some ⟨g, 0, none⟩) xs.length cap) := (blk_cell KB1.out 0).trans rfl; have hfb := blk_frozen KB1.out 0)
    | ((with_reducible refine gate_builtin (b := .append) (xs := #[.tmp 18, .tmp 20]) rfl ?_); (try (refine gate_guard (by rfl) ?_; dsimp only)); at_builtin; refine Kd.R_append (Kd.int .u8) (w0 := w0) w0.heap.size rfl (.tmp 18) (.tmp 20) 29 5 (.int .u8 0) 1 rfl Tryd.underlying29 info5 rfl (by decide) (by omega) (.slice (some ⟨g, 0, none⟩) xs.length cap) xs c [.int .u8 c] (fun _ => True) (fun _ => False) rfl rfl ?aP (fun _ hk => hk.elim) ?aF ?aO ?aB ?aS ?aL ?_; (case aP => exact rfl); (case aB => exact HB1.out); (case aF => exact (fun _ _ => trivial)); (case aO => exact HR1.out); (case aS => exact HB1.out.size); (case aL => have := HL.out; omega); intro v2 w2 ho hb hg hat; rw [← HY.out] at ho; obtain ⟨A2, c2, e2⟩ := Kd.R_slice ho; subst e2; have KR2 : Aside0 (w2.heap[gr]? = some (.cells #[.int .i64 (1)] 3 (0, 0))) := ⟨blk_grown KR1.out hg (Kd.R_ne HR1.out KR1.out (by decide))⟩; have KB2 : Aside0 (w2.heap[gb]? = some (.cells #[.slice (some ⟨g, 0, none⟩) xs.length cap] 29 (0, 0))) := ⟨blk_grown KB1.out hg (Kd.R_ne HR1.out KB1.out (by decide))⟩; have HR2 := Aside0.mk ho; have HB2 := Aside0.mk hb; clear ho hb hg hat hcb hfb HR1 HB1 KR1 KB1; have hcb : w2.cell? ⟨gb, 0, none⟩ = some (.slice (some ⟨g, 0, none⟩) xs.length cap) := (blk_cell KB2.out 0).trans rfl; have hfb := blk_frozen KB2.out 0))
  go_end0
  exact ⟨rfl, ⟨_, blk_far KR2.out NE.out _, (blk_set KB2.out 0 _).trans rfl, Kd.R_set HR2.out KB2.out (by decide) 0 _, HB2.out.setCell hbb _, hbr, hbb⟩⟩
/-- How long the run is behind one more. -/
def putR (xs : List Int) (run c : Int) : Int := if 0 < run ∧ rd xs ((xs.length : Int) - 1) = c then run + 1 else 1
theorem put_any (gr gb : Nat) (c run r : Int) (xs ys : List Int) (w0 w : World) (h : Put w0 gr gb xs run w) (h0 : 0 ≤ run) (h1 : run ≤ 1000) (hx : 0 < run → xs ≠ []) (hl : xs.length < 1000000) (hr : putR xs run c = r) (hy : xs ++ [c] = ys) :
    Calls Tryd.prog 19 #[.int .u8 c, .pointer (some ⟨gr, 0, none⟩), .pointer (some ⟨gb, 0, none⟩)] w fun e w' => e = .returned (.tuple #[]) ∧ Put w0 gr gb ys r w' := by
  subst hr hy
  unfold putR
  by_cases a : 0 < run
  · by_cases b : rd xs ((xs.length : Int) - 1) = c
    · rw [if_pos ⟨a, b⟩]
      exact put_same gr gb c run xs w0 w h a h1 (hx a) b hl
    · rw [if_neg (fun h => b h.2)]
      exact put_other gr gb c run xs w0 w h a h1 (hx a) b hl
  · rw [if_neg (fun h => a h.1)]
    exact put_new gr gb c run xs w0 w h (by omega) hl
theorem Put.cell {w0 w : World} {gr gb : Nat} {xs : List Int} {run : Int} (h : Put w0 gr gb xs run w) : w.cell? ⟨gr, 0, none⟩ = some (.int .i64 run) := by
  obtain ⟨v, hgr, _⟩ := h
  exact (blk_cell hgr 0).trans rfl
/-- What the loop keeps. -/
def StI (s : ByteArray) (i : Nat) (xs : List Int) (run : Int) : Prop :=
  xs.length ≤ 2 * i ∧ 0 ≤ run ∧ run ≤ 4 ∧ (0 < run → xs ≠ []) ∧ (run = 0 → xs = []) ∧ xs ++ Pure.stf (rd xs ((xs.length : Int) - 1)) run ((bytesOf s).drop i) = Pure.stf 0 0 (bytesOf s)
theorem rd_last (xs : List Int) (c : Int) : rd (xs ++ [c]) (((xs ++ [c]).length : Int) - 1) = c := by
  unfold rd
  rw [show (((xs ++ [c]).length : Int) - 1).toNat = xs.length by simp]
  simp [List.getD_eq_getElem?_getD]
theorem drop_bt (s : ByteArray) (i : Nat) (h : i < s.size) : (bytesOf s).drop i = bt s (i : Int) :: (bytesOf s).drop (i + 1) := by
  have hl : i < (bytesOf s).length := by rw [bytesOf_length]; exact h
  rw [List.drop_eq_getElem_cons hl]
  congr 1
  have := rd_bytesOf s i
  unfold rd at this
  rw [← this]
  simp [List.getD_eq_getElem?_getD, List.getElem?_eq_getElem hl]
theorem StI.start (s : ByteArray) : StI s 0 [] 0 := ⟨by simp, by omega, by omega, by omega, fun _ => rfl, by simp [rd]⟩
theorem StI.putR {s : ByteArray} {i : Nat} {xs : List Int} {run : Int} (h : StI s i xs run) (c : Int) : putR xs run c = if c = rd xs ((xs.length : Int) - 1) then run + 1 else 1 := by
  obtain ⟨_, h0, _, h1, h2, _⟩ := h
  unfold Pr.putR
  by_cases a : 0 < run
  · by_cases b : rd xs ((xs.length : Int) - 1) = c
    · rw [if_pos ⟨a, b⟩, if_pos b.symm]
    · rw [if_neg (fun h => b h.2), if_neg (fun h => b h.symm)]
  · rw [if_neg (fun h => a h.1)]
    obtain rfl : run = 0 := by omega
    split <;> rfl
theorem StI.step {s : ByteArray} {i : Nat} {xs : List Int} {run : Int} (h : StI s i xs run) (hi : i < s.size) (hr : Pr.putR xs run (bt s i) ≠ 5) : StI s (i + 1) (xs ++ [bt s i]) (Pr.putR xs run (bt s i)) := by
  have e := h.putR (bt s i)
  obtain ⟨h1, h2, h3, h4, h5, h6⟩ := h
  rw [drop_bt s i hi] at h6
  simp only [Pure.stf] at h6
  rw [← e, if_neg hr] at h6
  have hb : Pr.putR xs run (bt s i) = run + 1 ∨ Pr.putR xs run (bt s i) = 1 := by unfold Pr.putR; split <;> simp
  refine ⟨by simp; omega, by omega, by omega, fun _ => by simp, fun h => by omega, ?_⟩
  rw [rd_last, List.append_assoc]
  exact h6
theorem StI.five {s : ByteArray} {i : Nat} {xs : List Int} {run : Int} (h : StI s i xs run) (hi : i < s.size) (hr : Pr.putR xs run (bt s i) = 5) :
    Pr.putR (xs ++ [bt s i]) 5 ((97 - bt s i) % 256) = 1 ∧ StI s (i + 1) (xs ++ [bt s i] ++ [(97 - bt s i) % 256]) 1 := by
  have e := h.putR (bt s i)
  obtain ⟨h1, h2, h3, h4, h5, h6⟩ := h
  rw [drop_bt s i hi] at h6
  simp only [Pure.stf] at h6
  rw [← e, if_pos hr] at h6
  have hbt := bt_range s i
  constructor
  · unfold Pr.putR
    rw [rd_last, if_neg (by omega)]
  · refine ⟨by simp; omega, by omega, by omega, fun _ => by simp, fun h => by omega, ?_⟩
    rw [rd_last, List.append_assoc, List.append_assoc]
    exact h6
theorem StI.done {s : ByteArray} {i : Nat} {xs : List Int} {run : Int} (h : StI s i xs run) (hi : s.size ≤ i) : xs = Pure.stf 0 0 (bytesOf s) := by
  obtain ⟨h1, h2, h3, h4, h5, h6⟩ := h
  rw [List.drop_of_length_le (by rw [bytesOf_length]; exact hi)] at h6
  simpa [Pure.stf] using h6
theorem box_put (w w1 w2 : World) (gr gb : Nat) (hb : w1.heap[gb]? = some (.cells #[.slice none 0 0] 29 (0, 0))) (b1 : Below w.heap.size w w1) (hr : w2.heap[gr]? = some (.cells #[.int .i64 0] 3 (0, 0))) (b2 : Below w1.heap.size w1 w2) (e1 : w.heap.size ≤ gb) (e2 : w.heap.size ≤ gr) : Put w gr gb [] 0 w2 :=
  ⟨_, hr, blk_below hb b2, Kd.R_nil _ _ _ _ _, below_step b1 b2, e2, e1⟩
theorem Put.set {w0 w : World} {gr gb : Nat} {xs : List Int} {run : Int} (h : Put w0 gr gb xs run w) (q : Int) : Put w0 gr gb xs q (w.setCell ⟨gr, 0, none⟩ (.int .i64 q)) := by
  obtain ⟨v, hgr, hgb, hR, hB, h1, h2⟩ := h
  exact ⟨v, (blk_set hgr 0 _).trans rfl, blk_far hgb (Ne.symm (blk_ne hgr hgb (by decide))) _, Kd.R_set hR hgr (by decide) 0 _, hB.setCell h1 _, h1, h2⟩
set_option maxHeartbeats 1000000 in
set_option maxRecDepth 100000 in
theorem impl_stuff.calls (s : ByteArray) (r : ByteArray) (w : World) (h : impl_stuff.f s = some r) :
    Calls Tryd.prog 17 #[.string s] w fun e w' => e = .returned (.string r) ∧ Below w.heap.size w w' := by
  unfold impl_stuff.f at h
  by_cases hs : s.size ≤ 100000
  case neg => rw [if_neg hs] at h; cases h
  case pos =>
  rw [if_pos hs] at h
  injection h with h
  have HR := Aside0.mk h
  have HS := Aside0.mk hs
  clear h hs
  go_enter Tryd.func17, Tryd.ntmps17
  go_wp2_with (first
    | ((with_reducible refine gate_dst (N := 3) rfl ?_); refine box_event ?hg (N := 3) ?hd (cs := #[.slice none 0 0]) (t := 29) ?hr ?_; (case hd => rfl); (case hg => rfl); (case hr => first | (go_simp; done) | (go_simp; rfl)); intro gb hg1 w1 hbox hb1; have HB1 := Aside0.mk hb1; have KB1 := Aside0.mk hbox; have G1 := Aside0.mk hg1; clear hg1 hb1 hbox)
    | ((with_reducible refine gate_dst (N := 4) rfl ?_); refine box_event ?hg (N := 4) ?hd (cs := #[.int .i64 0]) (t := 3) ?hr ?_; (case hd => rfl); (case hg => rfl); (case hr => first | (go_simp; done) | (go_simp; rfl)); intro gr hg2 w2 hbox hb2; have HB2 := Aside0.mk hb2; have KR2 := Aside0.mk hbox; have G2 := Aside0.mk hg2; have hcr : w2.cell? ⟨gr, 0, none⟩ = some (.int .i64 0) := (blk_cell hbox 0).trans rfl; have hfr := blk_frozen hbox 0; clear hg2 hb2 hbox))
  have HP := Aside0.mk (box_put w w1 w2 gr gb KB1.out HB1.out KR2.out HB2.out (by rw [G1.out]; exact Nat.le_refl _) (by rw [G2.out]; exact HB1.out.size))
  clear HB1 KB1 HB2 KR2 G1 G2
  replace HP := Aside0.mk (HP.out.set 0)
  clear hcr hfr
  go_loopg [10] s.size (fun g v10 w' => ∃ (x : Int) (xs : List Int) (run : Int), v10 = .int .i64 x ∧ Aside0 (0 ≤ x ∧ x.toNat + g = s.size) ∧ Aside0 (StI s x.toNat xs run) ∧ Aside0 (Put w gr gb xs run w'))
  case atStart => exact ⟨0, [], 0, es_, ⟨by omega, by simp⟩, ⟨StI.start s⟩, HP⟩
  case round =>
   clear HP
   obtain ⟨x, xs, run, rfl, HX, HI, HP⟩ := hrel
   by_cases c1 : x < (s.size : Int)
   ·have c1b : decide (x < (s.size : Int)) = true := decide_eq_true c1
    have hx0 : 0 ≤ x := HX.out.1
    have c2b : decide (0 ≤ x) = true := decide_eq_true hx0
    have hbt := bt_at s x
    obtain ⟨q, hq⟩ : ∃ q, putR xs run (bt s x) = q := ⟨_, rfl⟩
    obtain ⟨ys, hys⟩ : ∃ ys, xs ++ [bt s x] = ys := ⟨_, rfl⟩
    have HQ := Aside0.mk hq
    have HY := Aside0.mk hys
    have hw : wrap64 (x + 1) = x + 1 := by have := HS.out; unfold wrap64; omega
    have HW := Aside0.mk hw
    clear hq hys hw
    have HLT := Aside0.mk c1
    have HX0 := Aside0.mk hx0
    replace c1 := eq_true c1
    replace hx0 := eq_true hx0
    go_wp2_with fail
    go_at_call 19
    refine (put_any gr gb (bt s x) run q xs ys w _ HP.out HI.out.2.1 (by have := HI.out.2.2.1; omega) HI.out.2.2.2.1 (by have := HI.out.1; have := HX.out; have := HS.out; omega) HQ.out HY.out).mono ?_
    rintro e w5 ⟨rfl, hp⟩
    have hcr := hp.cell
    have HP5 := Aside0.mk hp
    clear hp HP
    by_cases c5 : q = 5
    ·subst c5
     have hb5 := hbt
     clear hbt
     obtain ⟨d, hd⟩ : ∃ d, (97 - bt s x) % 256 = d := ⟨_, rfl⟩
     have HD := Aside0.mk hd
     go_wp2_with fail
     go_at_call 19
     obtain ⟨hf1, hf2⟩ := HI.out.five (by have := HX.out; have := HLT.out; omega) (by rw [show ((x.toNat : Nat) : Int) = x by have := HX.out; omega]; exact HQ.out)
     rw [show ((x.toNat : Nat) : Int) = x by have := HX.out; omega, HY.out] at hf1 hf2
     rw [← HD.out]
     refine (put_any gr gb _ 5 1 ys _ w _ HP5.out (by omega) (by omega) (fun _ => by rw [← HY.out]; simp) (by rw [← HY.out]; have := HI.out.1; have := HX.out; have := HS.out; simp only [List.length_append, List.length_singleton]; omega) hf1 rfl).mono ?_
     rintro e w6 ⟨rfl, hp⟩
     have HP6 := Aside0.mk hp
     have HI6 := Aside0.mk hf2
     clear hp hf1 hf2 hcr HP5
     go_wp2_with fail
     rw [HW.out]
     go_roundg (gk - 1)
     case measure => have := HX.out; have := HLT.out; omega
     case rel => exact ⟨x + 1, _, _, rfl, ⟨by have := HX.out; have := HLT.out; omega⟩, ⟨by rw [show (x + 1).toNat = x.toNat + 1 by have := HX.out; omega]; exact HI6.out⟩, HP6⟩
    ·have c5b : (q == 5) = false := beq_eq_false_iff_ne.2 c5
     have c5b1 : (q != 5) = true := bne_iff_ne.2 c5
     have C5 := Aside0.mk c5
     clear c5
     go_wp2_with fail
     rw [HW.out]
     go_roundg (gk - 1)
     case measure => have := HX.out; have := HLT.out; omega
     case rel => exact ⟨x + 1, _, _, rfl, ⟨by have := HX.out; have := HLT.out; omega⟩, ⟨by
      have hf := HI.out.step (by have := HX.out; have := HLT.out; omega) (by rw [show ((x.toNat : Nat) : Int) = x by have := HX.out; omega, HQ.out]; exact C5.out)
      rw [show ((x.toNat : Nat) : Int) = x by have := HX.out; omega, HY.out, HQ.out] at hf
      rw [show (x + 1).toNat = x.toNat + 1 by have := HX.out; omega]; exact hf⟩, HP5⟩
   ·have c1b : decide (x < (s.size : Int)) = false := decide_eq_false c1
    have hfin := HI.out.done (by have := HX.out; omega)
    subst hfin
    obtain ⟨v, _, hgb, hR, hB, _⟩ := HP.out
    obtain ⟨A, cp, ev, hcp, hC⟩ := Kd.R_reads hR
    subst ev
    have hcb : wr.cell? ⟨gb, 0, none⟩ = some (.slice A _ cp) := (blk_cell hgb 0).trans rfl
    have hcv := Kd.C_string (P := Tryd.prog) (src := 29) (dst := 9) (e := 5) (c := cp) Tryd.underlying29 Tryd.underlying5 Tryd.underlying9 hC
    clear hgb hR hC c1
    go_wp2_with fail
    go_ret
    exact ⟨by rw [← HR.out]; rfl, HP.out.choose_spec.2.2.2.1⟩
end Go.Proofs.YtbdonoeellmeoaaDoor.Pr
