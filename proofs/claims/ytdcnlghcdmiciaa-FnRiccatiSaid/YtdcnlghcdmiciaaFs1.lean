/-
Own text: slices of floats: looked through, copied, compared.
-/
import Derived.Test.YtdcnlghcdmiciaaFsame
import Derived.Test.YtdcnlghcdmiciaaFlk
import Derived.Test.YtdcnlghcdmiciaaWMore
import Derived.Deep.LoopGhost
namespace Go.Proofs.Ytdcnlghcdmiciaa.Fl
open Go Ieee Go.RowKit Go.Proofs.YtdcnlghcdmiciaaW.PrintWords Go.Proofs.YtdcnlghcdmiciaaW.PrintLast Go.Proofs.Ytdcnlghcdmiciaa.Opn
set_option linter.unusedVariables false
set_option linter.unusedSimpArgs false
theorem at_flt {w : World} {A : Option Addr} {n : Nat} {xs : List Nat} (h : flt.C w A n xs) (i : Nat) (h1 : i < n) : ∃ ad, A = some ad ∧ w.cell? (ad.add i) = some (.float .f64 (xs.getD i 0)) := by
  obtain ⟨ad, c, e, _, hK, hc⟩ := Kd.C_get h 0 (i : Int) (by omega) (by omega)
  have hK' : c = [.float .f64 (xs.getD (i : Int).toNat 0)] := hK
  subst hK'
  refine ⟨ad, e, ?_⟩
  have := hc 0 _ rfl
  simpa [show flt.sz = 1 from rfl] using this
def Bits (l : List Nat) : Prop := ∀ x ∈ l, x < 18446744073709551616
theorem Bits.get {l : List Nat} (h : Bits l) (i : Nat) : l.getD i 0 < 18446744073709551616 := by
  rw [List.getD_eq_getElem?_getD]
  cases hi : l[i]? with
  | none => decide
  | some x => exact h x (List.mem_of_getElem? hi)
theorem all_take_succ {l : List Nat} {p : Nat → Bool} {k : Nat} (hk : k < l.length) : (l.take (k + 1)).all p = ((l.take k).all p && p (l.getD k 0)) := by
  rw [List.take_succ_eq_append_getElem hk, List.all_append]
  simp [List.getD_eq_getElem?_getD, hk]
theorem all_not {l : List Nat} {p : Nat → Bool} {k : Nat} (hk : k < l.length) (h : p (l.getD k 0) = false) : l.all p = false := by
  rw [List.all_eq_false]
  refine ⟨l[k], List.getElem_mem hk, ?_⟩
  have : l.getD k 0 = l[k] := by simp [List.getD_eq_getElem?_getD, hk]
  rw [← this, h]
  decide
theorem run_store_float {P : Program} {w : World} {a : Addr} {m : Mode} (k : FloatKind) (n : Nat) : (store a (.float k n) m).run P w = stored P w a (.float k n) m := run_store P w a _ m rfl
attribute [local go_sem] run_store_float
def goodsB (l : List Nat) : Bool := l.all goodB && decide ((l.length : Int) ≤ 200)
theorem goods_no {l : List Nat} (h : l.all goodB = false) : goodsB l = false := by unfold goodsB; rw [h]; rfl
set_option maxHeartbeats 1000000 in
set_option maxRecDepth 100000 in
theorem impl_goodReals (A : Option Addr) (c : Nat) (l : List Nat) (w : World) (hr : flt.C w A l.length l) (hc : l.length ≤ c) (hn : l.length * 8 ≤ 140737488351232) (hb : Bits l) :
    Calls Try.prog 48 #[.slice A l.length c] w fun e w' => e = .returned (.bool (goodsB l)) ∧ ∃ n, w' = w.drewN n := by
  have HR := Aside0.mk hr
  have HB := Aside0.mk hb
  have HL : Aside0 (l.length < 9223372036854775807) := ⟨by omega⟩
  clear hr hb hn hc
  have hlen : (l.length : Int) ≤ 9223372036854775807 := by have := HL.out; omega
  go_enter Try.func48, Try.ntmps48
  go_wp2_with fail
  go_loopg [7] l.length (fun g v7 wr => ∃ (k n : Nat), v7 = .int .i64 (k : Int) ∧ Aside0 (k + g = l.length) ∧ wr = w.drewN n ∧ Aside0 ((l.take k).all goodB = true))
  case atStart => exact ⟨0, 0, rfl, ⟨Nat.zero_add _⟩, rfl, ⟨rfl⟩⟩
  case round =>
    obtain ⟨k, n, rfl, HK, rfl, HA⟩ := hrel
    by_cases hlt : k < l.length
    · obtain ⟨ad, rfl, hx⟩ := at_flt HR.out k hlt
      have HG := Aside0.mk (impl_GoodReal (l.getD k 0) (HB.out.get k))
      have HT := Aside0.mk (all_take_succ (p := goodB) hlt)
      have HF := Aside0.mk (fun h => all_not (p := goodB) hlt h)
      have hlt2 : (k : Int) < (l.length : Int) := by omega
      generalize l.getD k 0 = x at *
      generalize goodB x = g at *
      cases g
      · have HF2 := Aside0.mk (HF.out rfl)
        clear HF HT
        go_wp2_with (first | (go_at_call 39; refine (HG.out _).mono ?_; rintro e w' ⟨rfl, rfl⟩))
        go_ret
        exact ⟨by rw [goods_no HF2.out]; rfl, _, rfl⟩
      · go_wp2_with (first | (go_at_call 39; refine (HG.out _).mono ?_; rintro e w' ⟨rfl, rfl⟩))
        go_roundg (l.length - (k + 1))
        case measure => have := HK.out; omega
        case rel => exact ⟨k + 1, _, by go_num, ⟨by omega⟩, rfl, ⟨by rw [HT.out, HA.out]; rfl⟩⟩
    · have e : k = l.length := by have := HK.out; omega
      subst e
      have HA2 : Aside0 (l.all goodB = true) := ⟨by rw [← HA.out, List.take_length]⟩
      clear HA HK hlt
      go_wp2_with fail
      go_ret
      refine ⟨?_, _, rfl⟩
      unfold goodsB
      rw [HA2.out, Bool.true_and]
      rfl
set_option maxHeartbeats 1000000 in
set_option maxRecDepth 100000 in
theorem l2Goods (A : Option Addr) (c : Nat) (l : List Nat) (w : World) (hr : flt.C w A l.length l) (hc : l.length ≤ c) (hn : l.length * 8 ≤ 140737488351232) (hb : Bits l) :
    Calls Try.prog 47 #[.slice A l.length c] w fun e w' => e = .returned (.bool (goodsB l)) ∧ ∃ n, w' = w.drewN n := by
  have HR := Aside0.mk hr
  have HB := Aside0.mk hb
  have HL : Aside0 (l.length < 9223372036854775807) := ⟨by omega⟩
  clear hr hb hn hc
  have hlen : (l.length : Int) ≤ 9223372036854775807 := by have := HL.out; omega
  by_cases h200 : (l.length : Int) > 200
  · have HN : Aside0 (goodsB l = false) := ⟨by unfold goodsB; rw [decide_eq_false (by omega)]; exact Bool.and_false _⟩
    go_enter Try.func47, Try.ntmps47
    go_wp2_with fail
    go_ret
    exact ⟨by rw [HN.out]; rfl, 0, rfl⟩
  have HY : Aside0 (goodsB l = l.all goodB) := ⟨by unfold goodsB; rw [decide_eq_true (by omega)]; exact Bool.and_true _⟩
  go_enter Try.func47, Try.ntmps47
  go_wp2_with fail
  go_loopg [10] l.length (fun g v7 wr => ∃ (k n : Nat), v7 = .int .i64 (k : Int) ∧ Aside0 (k + g = l.length) ∧ wr = w.drewN n ∧ Aside0 ((l.take k).all goodB = true))
  case atStart => exact ⟨0, 0, rfl, ⟨Nat.zero_add _⟩, rfl, ⟨rfl⟩⟩
  case round =>
    obtain ⟨k, n, rfl, HK, rfl, HA⟩ := hrel
    by_cases hlt : k < l.length
    · obtain ⟨ad, rfl, hx⟩ := at_flt HR.out k hlt
      have HG := Aside0.mk (spec_GoodReal (l.getD k 0) (HB.out.get k))
      have HT := Aside0.mk (all_take_succ (p := goodB) hlt)
      have HF := Aside0.mk (fun h => all_not (p := goodB) hlt h)
      have hlt2 : (k : Int) < (l.length : Int) := by omega
      generalize l.getD k 0 = x at *
      generalize goodB x = g at *
      cases g
      · have HF2 := Aside0.mk (HF.out rfl)
        clear HF HT
        go_wp2_with (first | (go_at_call 35; refine (HG.out _).mono ?_; rintro e w' ⟨rfl, rfl⟩))
        go_ret
        exact ⟨by rw [goods_no HF2.out]; rfl, _, rfl⟩
      · go_wp2_with (first | (go_at_call 35; refine (HG.out _).mono ?_; rintro e w' ⟨rfl, rfl⟩))
        go_roundg (l.length - (k + 1))
        case measure => have := HK.out; omega
        case rel => exact ⟨k + 1, _, by go_num, ⟨by omega⟩, rfl, ⟨by rw [HT.out, HA.out]; rfl⟩⟩
    · have e : k = l.length := by have := HK.out; omega
      subst e
      have HA2 : Aside0 (l.all goodB = true) := ⟨by rw [← HA.out, List.take_length]⟩
      clear HA HK hlt
      go_wp2_with fail
      go_ret
      exact ⟨by rw [HY.out, HA2.out]; rfl, _, rfl⟩
theorem take_set_succ {y l : List Nat} {k : Nat} (hy : y.length = l.length) (ht : y.take k = l.take k) (hk : k < l.length) : (y.set k (l.getD k 0)).take (k + 1) = l.take (k + 1) := by
  rw [List.take_succ_eq_append_getElem (by rw [List.length_set]; omega), List.take_succ_eq_append_getElem hk, List.take_set_of_le (Nat.le_refl k), ht, List.getElem_set_self]
  simp [List.getD_eq_getElem?_getD, hk]
theorem quiet_add {w w' : World} {n x : Nat} (h : ∃ m, w' = (w.drewN (n + x)).drewN m) : ∃ k, w' = w.drewN (n + k) := by
  obtain ⟨m, rfl⟩ := h
  exact ⟨x + m, by rw [World.drewN_drewN, Nat.add_assoc]⟩
theorem info22 : (Try.prog.info? 22).map (fun i => (i.zero, i.size, i.bytes)) = some (some (.float .f64 0), 1, 8) := by kernel_rfl
set_option maxHeartbeats 2000000 in
set_option maxRecDepth 100000 in
theorem toFloat64S (A : Option Addr) (c : Nat) (l : List Nat) (w : World) (hr : flt.C w A l.length l) (hc : l.length ≤ c) (hn : l.length * 8 ≤ 140737488351232) :
    Calls Try.prog 20 #[.slice A l.length c] w fun e w' => ∃ v, e = .returned v ∧ flt.R 22 w' w.heap.size (fun _ => True) v l ∧ Below w.heap.size w w' := by
  have HR := Aside0.mk hr
  have HL : Aside0 (l.length < 9223372036854775807) := ⟨by omega⟩
  have HC := Aside0.mk hc
  have HN := Aside0.mk hn
  clear hr hn hc
  have hlen : (l.length : Int) ≤ 9223372036854775807 := by have := HL.out; omega
  have hpos : decide (0 ≤ (l.length : Int)) = true := decide_eq_true (by omega)
  go_enter Try.func20, Try.ntmps20
  go_wp2_with (first | ((with_reducible refine gate_dst (N := 7) rfl ?_); refine Kd.R_make flt _ 22 rfl (N := 7) rfl 31 _ _ rfl (l.length : Int) rfl rfl Try.underlying31 (.float .f64 0) 8 info22 rfl (by decide) (by omega) 0 (ok := fun _ => True) (okp := fun _ => True) rfl (fun _ hk => hk) trivial (by omega) (by have := HN.out; omega) (Below.refl _ _) (Nat.le_refl _) ?_; intro v w4 ho hb hg_ hnew_; clear hg_ hnew_; have HO := Aside0.mk ho; have HB := Aside0.mk hb; clear hb ho))
  go_loopg [4] l.length (fun g v4 wr => ∃ (k : Nat) (y : List Nat), v4 = .int .i64 (k : Int) ∧ Aside0 (k + g = l.length) ∧ Aside0 (y.length = l.length) ∧ Aside0 (y.take k = l.take k) ∧ Aside0 (flt.R 22 wr w.heap.size (fun _ => True) v y) ∧ Aside0 (Below w.heap.size w wr))
  case atStart => exact ⟨0, List.replicate (l.length : Int).toNat 0, rfl, ⟨Nat.zero_add _⟩, ⟨by rw [List.length_replicate]; rfl⟩, ⟨rfl⟩, HO, HB⟩
  case round =>
    clear HO HB
    obtain ⟨k, y, rfl, HK, HY, HT, HO, HB⟩ := hrel
    by_cases hlt : k < l.length
    · obtain ⟨ad, rfl, hx⟩ := at_flt HR.out k hlt
      replace hx := (HB.out.cell (World.block_lt_of_cell? w _ hx)).trans hx
      have HS := Aside0.mk (take_set_succ HY.out HT.out hlt)
      have hlt2 : (k : Int) < (l.length : Int) := by omega
      have hlt3 : (k : Int) < (y.length : Int) := by have := HY.out; omega
      obtain ⟨g, co, eo, gb, gl, cl, HG⟩ := Kd.R_form HO.out (by omega)
      subst eo
      have GB := Aside0.mk gb
      clear gb gl HG
      obtain ⟨hx0, hf0⟩ := Kd.R_celln 0 HO.out (k : Int) (by omega) hlt3
      simp only [Int.toNat_natCast] at hx0 hf0
      have HP := Kd.R_putg HO.out (k : Int) (l.getD k 0)
      generalize l.getD k 0 = x at *
      go_wp2_with (first | ((with_reducible refine gate_store (t := 22) (p := 20) rfl ?_); refine store_event (t := 22) (p := 20) (v := ?vo) (w1 := (wr.setCell ⟨g, k, none⟩ (.float .f64 x))) ?hg ?ho ?hn ?hr ?_; (case ho => rfl); (case hg => rfl); (case hn => rfl); (case hr => first | (go_simp; done) | (go_simp; rfl)); intro w11 hw; have hg : wr.grownBy w11 (some g) := (by rw [hw]; exact HP.2); have hp_ : flt.R 22 w11 w.heap.size (fun _ => True) (.slice (some ⟨g, 0, none⟩) y.length co) (y.set k x) := (by rw [hw]; exact HP.1); clear HP; have n0_ := Aside0.mk (hp_); have n1_ := Aside0.mk ((by rw [hw]; exact below_set (HB.out) GB.out : Below w.heap.size w w11)); clear HO; clear HB; have HO := n0_; have HB := n1_; clear n0_ n1_; clear hg hw hp_))
      go_roundg (l.length - (k + 1))
      case measure => have := HK.out; omega
      case rel => exact ⟨k + 1, _, by go_num, ⟨by omega⟩, ⟨by rw [List.length_set]; exact HY.out⟩, HS, HO, HB⟩
    · have e : k = l.length := by have := HK.out; omega
      subst e
      have HE : Aside0 (y = l) := ⟨by have h := HT.out; rw [List.take_length, ← HY.out, List.take_length] at h; exact h⟩
      go_wp2_with fail
      go_ret
      exact ⟨_, rfl, by rw [← HE.out]; exact HO.out, HB.out⟩
set_option maxHeartbeats 1000000 in
set_option maxRecDepth 100000 in
theorem eqFloat64S (A A2 : Option Addr) (c c2 : Nat) (l : List Nat) (w : World) (hr : flt.C w A l.length l) (hc : l.length ≤ c) (hr2 : flt.C w A2 l.length l) (hc2 : l.length ≤ c2) (hn : l.length * 8 ≤ 140737488351232) (hb : Bits l) :
    Calls Try.prog 22 #[.slice A l.length c, .slice A2 l.length c2] w fun e w' => e = .returned (.bool true) ∧ ∃ n, w' = w.drewN n := by
  have HR := Aside0.mk hr
  have HR2 := Aside0.mk hr2
  have HB := Aside0.mk hb
  have HL : Aside0 (l.length < 9223372036854775807) := ⟨by omega⟩
  clear hr hr2 hb hn hc hc2
  have hlen : (l.length : Int) ≤ 9223372036854775807 := by have := HL.out; omega
  go_enter Try.func22, Try.ntmps22
  go_wp2
  repeat (go_quiet (fail); try go_wp2)
  go_loopg [5] l.length (fun g v7 wr => ∃ (k n : Nat), v7 = .int .i64 (k : Int) ∧ Aside0 (k + g = l.length) ∧ wr = w.drewN n)
  case atStart => exact ⟨0, 0, rfl, ⟨Nat.zero_add _⟩, rfl⟩
  case round =>
    obtain ⟨k, n, rfl, HK, rfl⟩ := hrel
    by_cases hlt : k < l.length
    · obtain ⟨ad, rfl, hx⟩ := at_flt HR.out k hlt
      obtain ⟨ad2, rfl, hx2⟩ := at_flt HR2.out k hlt
      have HS := Aside0.mk (sameFloat (l.getD k 0) (HB.out.get k))
      have hlt2 : (k : Int) < (l.length : Int) := by omega
      have hk0 : (0 : Int) ≤ (k : Int) := by omega
      generalize l.getD k 0 = x at *
      go_wp2
      go_quiet ((go_at_call 14; exact (HS.out _).mono fun e w' h => ⟨h.1, quiet_add h.2⟩))
      go_wp2
      go_roundg (l.length - (k + 1))
      case measure => have := HK.out; omega
      case rel => exact ⟨k + 1, _, by go_num, ⟨by omega⟩, rfl⟩
    · have e : k = l.length := by have := HK.out; omega
      subst e
      go_wp2_with fail
      go_ret
      exact ⟨rfl, _, rfl⟩
end Go.Proofs.Ytdcnlghcdmiciaa.Fl
