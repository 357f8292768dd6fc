/- THE LAW FnExactFrameBits, as a statement over numbers and lists: for every frame the program's and the reference's bits are the same. No condition. -/
import Derived.Test.YtbdonoeellmeoaaPureFrame
import Derived.Test.YtbdonoeellmeoaaPureGf
namespace Go.Proofs.Ytbdonoeellmeoaa.Pure
open Go.RowKit Go.Proofs.YtbdonoeellmeoaaW.PrintWords Go.Proofs.YtbdonoeellmeoaaW.PrintLast Go.Proofs.Ytbdonoeellmeoaa.Pr Go.Proofs.Ytbdonoeellmeoaa.EvKit

/-- A frame's bits ahead of the checksum: the data from the i-th on. -/
def dat (l : List Int) : List Int := l.flatMap fun b => bin b.toNat 8
theorem dat_snoc (l : List Int) (b : Int) : dat (l ++ [b]) = dat l ++ bin b.toNat 8 := by simp [dat]
theorem dat_length (l : List Int) : (dat l).length = 8 * l.length := by
  induction l with
  | nil => rfl
  | cons b l ih => simp only [dat, List.flatMap_cons, List.length_append, bin_length, List.length_cons] at *; omega
def head_ (a : Int) (l : List Int) : List Int := [48] ++ bin a.toNat 11 ++ bin l.length 4
theorem head_length (a : Int) (l : List Int) : (head_ a l).length = 16 := by simp [head_, bin_length]
def body (a : Int) (l : List Int) : List Int := head_ a l ++ dat l
theorem body_length (a : Int) (l : List Int) (h : l.length ≤ 8) : (body a l).length ≤ 80 := by simp only [body, List.length_append, head_length, dat_length]; omega
def full (a : Int) (l : List Int) : List Int := body a l ++ bin (crcOf (strOfNums (body a l))) 15
theorem full_length (a : Int) (l : List Int) (h : l.length ≤ 8) : (full a l).length ≤ 95 := by have := body_length a l h; simp only [full, List.length_append, bin_length]; omega
theorem take_dat (l : List Int) (i : Nat) (h : i < l.length) : dat (l.take (i + 1)) = dat (l.take i) ++ bin (rd l (i : Int)).toNat 8 := by
  rw [List.take_add_one, List.getElem?_eq_getElem h]
  have : rd l (i : Int) = l[i] := by unfold rd; simp [List.getD_eq_getElem?_getD, List.getElem?_eq_getElem h]
  rw [this]
  exact dat_snoc _ _
def Byts (l : List Int) : Prop := ∀ y ∈ l, 0 ≤ y ∧ y < 256
theorem Byts.rd {l : List Int} (h : Byts l) (i : Nat) (hi : i < l.length) : 0 ≤ rd l (i : Int) ∧ YtbdonoeellmeoaaW.PrintWords.rd l (i : Int) < 256 := by
  have := h _ (List.getElem_mem hi)
  have e : YtbdonoeellmeoaaW.PrintWords.rd l (i : Int) = l[i] := by unfold YtbdonoeellmeoaaW.PrintWords.rd; simp [List.getD_eq_getElem?_getD, List.getElem?_eq_getElem hi]
  rw [e]
  exact this
theorem l23Body_l0 (a : Int) (l : List Int) (hb : Byts l) (hl : l.length ≤ 8) (d : Nat) : ∀ i : Nat, i + d = l.length →
    Ev (fun k => spec_l23Body.l0 k (head_ a l ++ dat (l.take i)) l l.length i) (strOfNums (full a l)) := by
  induction d with
  | zero =>
    intro i hi
    apply Ev.succ
    obtain rfl : i = l.length := by omega
    simp only [spec_l23Body.l0, Int.lt_irrefl, if_false]
    rw [List.take_of_length_le (Nat.le_refl _)]
    have h1 := body_length a l hl
    refine Ev.bnd (crc_spec _ (by rw [strOfNums_size]; exact Nat.le_trans h1 (by decide))) ?_
    have h2 := crcOf_lt (strOfNums (head_ a l ++ dat l))
    exact Ev.bnd (l23Put_ev (crcOf (strOfNums (head_ a l ++ dat l))) 15 (by omega) (by decide) (head_ a l ++ dat l) (by show (body a l).length < _; omega) _ _ rfl rfl) (Ev.some rfl)
  | succ d ih =>
    intro i hi
    apply Ev.succ
    obtain ⟨b0, b1⟩ := hb.rd i (by omega)
    simp only [spec_l23Body.l0, show ((i : Int) < (l.length : Int)) by omega, show (0 : Int) ≤ (i : Int) by omega, if_true]
    rw [wrap64_id (x := rd l i) (by omega) (by omega), show wrap64 ((i : Int) + 1) = ((i + 1 : Nat) : Int) by rw [wrap64_id (by omega) (by omega)]; omega]
    refine Ev.bnd (l23Put_ev (rd l i).toNat 8 (by omega) (by decide) _ (by simp only [List.length_append, head_length, dat_length, List.length_take]; omega) _ _ (by omega) rfl) ?_
    rw [List.append_assoc, ← take_dat l i (by omega)]
    exact ih (i + 1) (by omega)
theorem l23Body_ev (a : Int) (l : List Int) (hb : Byts l) (h0 : 0 ≤ a) (h1 : a ≤ 2047) (hl : l.length ≤ 8) : Ev (fun k => spec_l23Body.f k a l) (strOfNums (full a l)) := by
  unfold spec_l23Body.f
  refine Ev.bnd (l23Put_ev a.toNat 11 (by omega) (by decide) [48] (by simp) _ _ (by omega) rfl) ?_
  refine Ev.bnd (l23Put_ev l.length 4 (by omega) (by decide) _ (by simp [bin_length]) _ _ rfl rfl) ?_
  have := l23Body_l0 a l hb hl l.length 0 (by omega)
  simpa [dat, head_] using this
theorem frame_l0 (a : Int) (l : List Int) (hb : Byts l) (hl : l.length ≤ 8) (d : Nat) : ∀ i : Nat, i + d = l.length →
    Ev (fun k => impl_FrameBits.l0 k (strOfNums (head_ a l ++ dat (l.take i))) l l.length i) (strOfNums (stf 0 0 (bytesOf (strOfNums (full a l)))) ++ (⟨#[49, 49, 49, 49, 49, 49, 49]⟩ : ByteArray)) := by
  induction d with
  | zero =>
    intro i hi
    apply Ev.succ
    obtain rfl : i = l.length := by omega
    simp only [impl_FrameBits.l0, Int.lt_irrefl, if_false]
    rw [List.take_of_length_le (Nat.le_refl _)]
    have h1 := body_length a l hl
    have h2 := crcOf_lt (strOfNums (head_ a l ++ dat l))
    refine Ev.bnd (crc_impl _ (by rw [strOfNums_size]; exact Nat.le_trans h1 (by decide))) ?_
    refine Ev.bnd (binary_ev (crcOf (strOfNums (head_ a l ++ dat l))) 15 (by omega) (by decide) _ _ rfl rfl) ?_
    refine Ev.pos (by rw [strOfNums_size, strOfNums_size, bin_length]; show (body a l).length + 15 ≤ _; omega) ?_
    rw [sON_append]
    have h3 := full_length a l hl
    have e : impl_stuff.f (strOfNums (head_ a l ++ dat l ++ bin (crcOf (strOfNums (head_ a l ++ dat l))) 15)) = some (strOfNums (stf 0 0 (bytesOf (strOfNums (full a l))))) := by
      unfold impl_stuff.f
      rw [if_pos (by rw [strOfNums_size]; show (full a l).length ≤ _; omega)]
      rfl
    refine Ev.bnd0 e (Ev.pos ?_ (Ev.some rfl))
    rw [strOfNums_size]
    have := stf_length (bytesOf (strOfNums (full a l))) 0 0
    rw [bytesOf_length, strOfNums_size] at this
    omega
  | succ d ih =>
    intro i hi
    apply Ev.succ
    obtain ⟨b0, b1⟩ := hb.rd i (by omega)
    simp only [impl_FrameBits.l0, show ((i : Int) < (l.length : Int)) by omega, show (0 : Int) ≤ (i : Int) by omega, if_true]
    rw [wrap64_id (x := rd l i) (by omega) (by omega), show wrap64 ((i : Int) + 1) = ((i + 1 : Nat) : Int) by rw [wrap64_id (by omega) (by omega)]; omega]
    refine Ev.bnd (binary_ev (rd l i).toNat 8 (by omega) (by decide) _ _ (by omega) rfl) ?_
    refine Ev.pos (by rw [strOfNums_size, strOfNums_size, bin_length]; simp only [List.length_append, head_length, dat_length, List.length_take]; omega) ?_
    rw [sON_append, List.append_assoc, ← take_dat l i (by omega)]
    exact ih (i + 1) (by omega)
theorem frame_both (a : Int) (l : List Int) (hb : Byts l) : ∃ s : ByteArray, Ev (fun k => impl_FrameBits.f k a l) s ∧ Ev (fun k => spec_FrameBits.f k a l) s := by
  obtain ⟨g1, g2⟩ := goodFrame_both a l
  unfold impl_FrameBits.f spec_FrameBits.f
  rw [g1, g2]
  by_cases h : (0 ≤ a ∧ a ≤ 2047) ∧ l.length ≤ 8
  · obtain ⟨⟨h0, h1⟩, hl⟩ := h
    have h3 := full_length a l hl
    refine ⟨strOfNums (stf 0 0 (bytesOf (strOfNums (full a l)))) ++ (⟨#[49, 49, 49, 49, 49, 49, 49]⟩ : ByteArray), ?_, ?_⟩
    · simp only [Option.bind_some, h0, h1, hl, and_self, decide_true, if_true]
      refine Ev.bnd (binary_ev a.toNat 11 (by omega) (by decide) _ _ (by omega) rfl) (Ev.pos (by rw [strOfNums_size, bin_length]; omega) ?_)
      refine Ev.bnd (binary_ev l.length 4 (by omega) (by decide) _ _ rfl rfl) ?_
      rw [show (⟨#[48]⟩ : ByteArray) = strOfNums [48] from rfl, sON_append, sON_append]
      refine Ev.pos (by rw [strOfNums_size, strOfNums_size]; simp [bin_length]) ?_
      have := frame_l0 a l hb hl l.length 0 (by omega)
      simpa [dat, head_] using this
    · simp only [Option.bind_some, h0, h1, hl, and_self, decide_true, if_true]
      refine Ev.bnd (l23Body_ev a l hb h0 h1 hl) (Ev.bnd (l23Stuff_ev _ (by rw [strOfNums_size]; omega)) (Ev.pos ?_ (Ev.some rfl)))
      rw [strOfNums_size]
      have := stf_length (bytesOf (strOfNums (full a l))) 0 0
      rw [bytesOf_length, strOfNums_size] at this
      omega
  · refine ⟨⟨#[]⟩, ?_, ?_⟩ <;> simp only [Option.bind_some, h, decide_false, Bool.false_eq_true, if_false] <;> exact Ev.some rfl
theorem byts_of (l : List Int) (h : ∀ y0 ∈ l, (Lit.int .u8 y0).wf = true) : Byts l := by
  intro y hy
  have := h y hy
  simp [Lit.wf, IntKind.min, IntKind.max, IntKind.bits, IntKind.signed] at this
  omega
theorem FnExactFrameBits : ∀ (a0_0 : Int) (l0_1 : List Int), ((Lit.int .i64 a0_0).wf = true ∧ (l0_1.length ≤ maxLen ∧ l0_1.length * 1 ≤ 140737488351232 ∧ ∀ y0 ∈ l0_1, (Lit.int .u8 y0).wf = true)) → ∃ k, laws_FnExactFrameBits.f k a0_0 l0_1 = some true := by
  intro a l h
  have hl : l.length ≤ 9223372036854775807 := by have := h.2.1; unfold maxLen at this; omega
  apply Ev.rounds
  simp only [laws_FnExactFrameBits.f]
  obtain ⟨s, e1, e2⟩ := szFrame_eq a l 1048576 hl (by omega) (by omega)
  refine Ev.bnd0 e1 (Ev.ite (fun _ => Ev.some rfl) (fun h0 => ?_))
  obtain ⟨h1, _⟩ := e2 h0
  have t := toFrame_ev a l (by omega)
  obtain ⟨z, x, y⟩ := frame_both a l (byts_of l h.2.2.2)
  exact Ev.bnd t (Ev.bnd y (Ev.bnd t (Ev.bnd x (Ev.pos rfl (Ev.bnd t (Ev.bnd (eqFrame_ev a l (by omega)) (Ev.pos rfl (Ev.some rfl))))))))

end Go.Proofs.Ytbdonoeellmeoaa.Pure
