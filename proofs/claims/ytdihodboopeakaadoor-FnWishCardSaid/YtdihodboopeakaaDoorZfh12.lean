-- Joined and pruned by wip/tools/prune.py out of this session's own texts (PureCurW, PureWrite, PureRound, PureWrV, PureDrwW, PureFnWish)
import Derived.Test.YtdihodboopeakaaDoorZfh11
import Derived.Laws.BitsLemmas
/-
Own text: the cursor that draws numbers out of a code: it always answers, within its bounds.
-/
namespace Go.Proofs.YtdihodboopeakaaDoor.Pure
open Go.RowKit Go.Proofs.YtdihodboopeakaaDoorW.PrintWords Go.Proofs.YtdihodboopeakaaDoorW.PrintLast Go.Proofs.YtdihodboopeakaaDoor.Pr Go.Proofs.YtdihodboopeakaaDoor.EvKit

/-- A code: bytes, not too many. -/
def Code (c : List Int) : Prop := c.length ≤ 1048576 ∧ ∀ y ∈ c, 0 ≤ y ∧ y ≤ 255
theorem wrap_u64 (n : Int) : IntKind.u64.wrap n = n % 18446744073709551616 := by
  simp [IntKind.wrap, IntKind.bits, IntKind.signed]
theorem mask_in (n : Int) : 0 ≤ Go.bits .and .u64 (IntKind.u64.wrap n / 1099511627776) 255 ∧ Go.bits .and .u64 (IntKind.u64.wrap n / 1099511627776) 255 ≤ 255 := by
  have h0 : 0 ≤ IntKind.u64.wrap n / 1099511627776 ∧ IntKind.u64.wrap n / 1099511627776 < 2 ^ 32 := by
    rw [wrap_u64]
    omega
  have h := bits_mask .u64 32 (by decide) (fun m h1 h2 => by rw [wrap_u64]; omega) 8 (by decide) _ h0.1 h0.2
  rw [show ((2 : Int) ^ 8 - 1) = 255 by decide] at h
  rw [h]
  omega
theorem code_rd {c : List Int} (hc : Code c) (i : Int) : 0 ≤ rd c i ∧ rd c i ≤ 255 := by
  unfold rd
  rw [List.getD_eq_getElem?_getD]
  by_cases h : i.toNat < c.length
  · rw [List.getElem?_eq_getElem h]
    exact hc.2 _ (List.getElem_mem h)
  · rw [List.getElem?_eq_none (by omega)]
    exact ⟨by decide, by decide⟩
theorem next_ok {c : List Int} (hc : Code c) (a s : Int) (h0 : 0 ≤ a) (h1 : a ≤ 4611686018427387904) : ∃ b s', spec_l1Cur_next.f c a s = some (b, a + 1, s') ∧ 0 ≤ b ∧ b ≤ 255 := by
  unfold spec_l1Cur_next.f
  have e : wrap64 (a + 1) = a + 1 := wrap64_id (by omega) (by omega)
  have hr := code_rd hc a
  rw [e]
  by_cases h2 : a < (c.length : Int)
  · rw [if_pos h2, if_pos h0, if_pos (by omega)]
    exact ⟨_, _, rfl, by rw [wrap64_id (by omega) (by omega)]; exact hr.1, by rw [wrap64_id (by omega) (by omega)]; exact hr.2⟩
  · rw [if_neg h2, if_neg (by omega)]
    have hm := mask_in ((IntKind.u64.wrap ((IntKind.u64.wrap (s * 6364136223846793005)) + 0)) + 1442695040888963407)
    exact ⟨_, _, rfl, by rw [wrap64_id (by omega) (by omega)]; exact hm.1, by rw [wrap64_id (by omega) (by omega)]; exact hm.2⟩
theorem tmod_in (x n : Int) (hx : 0 ≤ x) (hn : 0 < n) : 0 ≤ x.tmod n ∧ x.tmod n < n := by
  rw [Int.tmod_eq_emod_of_nonneg hx]
  exact ⟨Int.emod_nonneg _ (by omega), Int.emod_lt_of_pos _ hn⟩
theorem pick_ok {c : List Int} (hc : Code c) (a s n : Int) (h0 : 0 ≤ a) (h1 : a ≤ 4611686018427387000) : ∃ v a' s', spec_l1Cur_pick.f c a s n = some (v, a', s') ∧ a ≤ a' ∧ a' ≤ a + 2 ∧ 0 ≤ v ∧ (1 < n → v < n) ∧ (n ≤ 1 → v = 0) := by
  unfold spec_l1Cur_pick.f
  by_cases hn : n ≤ 1
  · rw [if_pos hn]
    exact ⟨0, a, s, rfl, by omega, by omega, by omega, by omega, fun _ => rfl⟩
  · rw [if_neg hn]
    obtain ⟨b, s1, e1, b0, b1⟩ := next_ok hc a s h0 (by omega)
    rw [e1]
    simp only [Option.bind_some]
    by_cases h2 : n > 200
    · rw [if_pos h2]
      obtain ⟨b2, s2, e2, b20, b21⟩ := next_ok hc (a + 1) s1 (by omega) (by omega)
      rw [e2]
      simp only [Option.bind_some]
      rw [if_neg (by omega), wrap64_id (x := b * 256) (by omega) (by omega), wrap64_id (x := b * 256 + b2) (by omega) (by omega)]
      have := tmod_in (b * 256 + b2) n (by omega) (by omega)
      exact ⟨_, _, _, rfl, by omega, by omega, this.1, fun _ => this.2, fun h => by omega⟩
    · rw [if_neg h2, if_neg (by omega)]
      have := tmod_in b n b0 (by omega)
      exact ⟨_, _, _, rfl, by omega, by omega, this.1, fun _ => this.2, fun h => by omega⟩
theorem one_ok {c : List Int} (hc : Code c) (a s n : Int) (h0 : 0 ≤ a) (h1 : a ≤ 4611686018427387000) : ∃ b a' s', spec_l1Cur_one.f c a s n = some (b, a', s') ∧ a ≤ a' ∧ a' ≤ a + 2 := by
  obtain ⟨v, a', s', e, h2, h3, _⟩ := pick_ok hc a s n h0 h1
  unfold spec_l1Cur_one.f
  rw [e]
  exact ⟨_, _, _, rfl, h2, h3⟩
end Go.Proofs.YtdihodboopeakaaDoor.Pure
/-
Own text: writing a wish: the texts joined by the program are those that the reference adds up.
-/
namespace Go.Proofs.YtdihodboopeakaaDoor.Pure
open Go.RowKit Go.Proofs.YtdihodboopeakaaDoorW.PrintWords Go.Proofs.YtdihodboopeakaaDoorW.PrintLast Go.Proofs.YtdihodboopeakaaDoor.Pr Go.Proofs.YtdihodboopeakaaDoor.EvKit
open Classical

/-- The texts with one blank between two. -/
def jB (l : List ByteArray) : ByteArray := ⟨(joinOf l ⟨#[32]⟩).toArray⟩
theorem ba_ext {a b : ByteArray} (h : a.data.toList = b.data.toList) : a = b := ByteArray.ext (Array.toList_inj.1 h)
theorem ba_app (a b : ByteArray) : (a ++ b).data.toList = a.data.toList ++ b.data.toList := by
  rw [ByteArray.data_append, Array.toList_append]
theorem jB_data (l : List ByteArray) : (jB l).data.toList = joinOf l ⟨#[32]⟩ := rfl
theorem jB_nil : jB [] = ⟨#[]⟩ := rfl
theorem jB_one (s : ByteArray) : jB [s] = s := by
  apply ba_ext
  rw [jB_data]
  unfold joinOf
  exact Lib.join_one _ _
theorem jB_snoc (l : List ByteArray) (s : ByteArray) (h : l ≠ []) : jB (l ++ [s]) = jB l ++ ((⟨#[32]⟩ : ByteArray) ++ s) := by
  cases l with
  | nil => exact absurd rfl h
  | cons x r =>
    apply ba_ext
    rw [ba_app, ba_app, jB_data, jB_data]
    unfold joinOf
    rw [List.cons_append, List.map_cons, List.map_cons, Lib.join_cons, Lib.join_cons]
    simp [Lib.joinTail]
theorem jB_snoc2 (l : List ByteArray) (s : ByteArray) (h : l ≠ []) : jB (l ++ [s]) = (jB l ++ (⟨#[32]⟩ : ByteArray)) ++ s := by
  rw [jB_snoc l s h]
  apply ba_ext
  simp only [ba_app, List.append_assoc]
theorem sz_app (a b : ByteArray) : (a ++ b).size = a.size + b.size := ByteArray.size_append
theorem tl_nil (a : ByteArray) : a.toList = [] ↔ a.size = 0 := by
  rw [Lib.toList_data, List.eq_nil_iff_length_eq_zero]
  exact Iff.rfl
/-- What holds of the texts so far: they are some, not too many and not too long. -/
structure Wr (xs : List ByteArray) (m : Nat) : Prop where
  ne : xs ≠ []
  pos : 0 < (jB xs).size
  len : xs.length ≤ m
  sz : (jB xs).size ≤ xs.length * 1048577
theorem Wr.snoc {xs : List ByteArray} {m : Nat} (h : Wr xs m) {s : ByteArray} (hs : s.size ≤ 1048576) : Wr (xs ++ [s]) (m + 1) := by
  have e := jB_snoc xs s h.ne
  have e2 : (jB (xs ++ [s])).size = (jB xs).size + (1 + s.size) := by rw [e, sz_app, sz_app]; rfl
  have h1 := h.pos
  have h2 := h.len
  have h3 := h.sz
  have e3 : (xs ++ [s]).length = xs.length + 1 := by simp
  refine ⟨by simp, by omega, by omega, ?_⟩
  rw [e2, e3]
  omega
theorem isWord_eq (s : ByteArray) : impl_isWord.f s = some (decide (s.toList = ([114, 101, 97, 99, 104] : List UInt8) ∨ s.toList = ([97, 118, 111, 105, 100] : List UInt8))) := by
  unfold impl_isWord.f
  by_cases c : s.toList = ([114, 101, 97, 99, 104] : List UInt8)
  · rw [if_pos c, decide_eq_true (Or.inl c)]
  · rw [if_neg c]
    congr 1
    rw [Bool.eq_iff_iff]
    simp [c]
theorem write_in (l : List ByteArray) (hl : l.length ≤ 6) (hs : ∀ x ∈ l, x.size ≤ 1048576) (L : List (List ByteArray)) (n j : Int) (m : Nat) (hm : m ≤ 8)
    (H : ∀ xs : List ByteArray, Wr xs (m + l.length) → ∃ r, Ev (fun k => spec_WriteWish.l0 k (jB xs) L n (wrap64 (j + 1))) r ∧ Ev (fun k => impl_WriteWish.l0 k xs L n (wrap64 (j + 1))) r) (d : Nat) :
    ∀ (i : Nat) (xs : List ByteArray), i + d = l.length → Wr xs (m + i) → ∃ r, Ev (fun k => spec_WriteWish.l1 k (jB xs) L n j l l.length i) r ∧ Ev (fun k => impl_WriteWish.l1 k xs L n j l l.length i) r := by
  induction d with
  | zero =>
    intro i xs hi hw
    obtain rfl : i = l.length := by omega
    obtain ⟨r, h1, h2⟩ := H xs hw
    refine ⟨r, Ev.succ ?_, Ev.succ ?_⟩
    · simp only [spec_WriteWish.l1, show ¬ ((l.length : Int) < (l.length : Int)) by omega, if_false]
      exact h1
    · simp only [impl_WriteWish.l1, show ¬ ((l.length : Int) < (l.length : Int)) by omega, if_false]
      exact h2
  | succ d ih =>
    intro i xs hi hw
    have hsz : (l.getD i ByteArray.empty).size ≤ 1048576 := hs _ (getD_mem l i _ (by omega))
    have e : rdOf ByteArray.empty l (i : Int) = l.getD i ByteArray.empty := rfl
    generalize l.getD i ByteArray.empty = s at hsz e
    have w1 := hw.len
    have w2 := hw.sz
    have w3 : (jB xs).size ≤ 100000000 := by omega
    have e5 : ((⟨#[32]⟩ : ByteArray) ++ s).size = 1 + s.size := by rw [sz_app]; rfl
    by_cases c : s.toList = ([114, 101, 97, 99, 104] : List UInt8) ∨ s.toList = ([97, 118, 111, 105, 100] : List UInt8)
    · refine ⟨((⟨#[]⟩ : ByteArray), false), Ev.succ ?_, Ev.succ ?_⟩
      · simp only [spec_WriteWish.l1, show ((i : Int) < (l.length : Int)) by omega, show (0 : Int) ≤ (i : Int) by omega, if_true, e]
        by_cases c1 : s.toList = ([114, 101, 97, 99, 104] : List UInt8)
        · exact Ev.pos c1 (Ev.some rfl)
        · exact Ev.neg c1 (Ev.pos (c.resolve_left c1) (Ev.some rfl))
      · simp only [impl_WriteWish.l1, show ((i : Int) < (l.length : Int)) by omega, show (0 : Int) ≤ (i : Int) by omega, if_true, e]
        exact Ev.bnd0 (isWord_eq s) (Ev.pos (decide_eq_true c) (Ev.some rfl))
    · obtain ⟨r, h1, h2⟩ := ih (i + 1) (xs ++ [s]) (by omega) (hw.snoc hsz)
      rw [jB_snoc xs s hw.ne] at h1
      refine ⟨r, Ev.succ ?_, Ev.succ ?_⟩
      · simp only [spec_WriteWish.l1, show ((i : Int) < (l.length : Int)) by omega, show (0 : Int) ≤ (i : Int) by omega, if_true, e, succ_w2 i (by omega)]
        exact Ev.neg (fun h => c (.inl h)) (Ev.neg (fun h => c (.inr h)) (Ev.pos (by omega) (Ev.pos (by omega) h1)))
      · simp only [impl_WriteWish.l1, show ((i : Int) < (l.length : Int)) by omega, show (0 : Int) ≤ (i : Int) by omega, if_true, e, succ_w2 i (by omega)]
        exact Ev.bnd0 (isWord_eq s) (Ev.neg (by simpa using c) (Ev.pos (by omega) h2))
section
variable (reach avoid : List ByteArray)
theorem write_2 (xs : List ByteArray) (h1 : xs.length ≤ 14) (h2 : (jB xs).size ≤ 100000000) : ∃ r, Ev (fun k => spec_WriteWish.l0 k (jB xs) [reach, avoid] 2 2) r ∧ Ev (fun k => impl_WriteWish.l0 k xs [reach, avoid] 2 2) r := by
  have hj : strings_Join.f xs (⟨#[32]⟩ : ByteArray) = some (jB xs) := by
    have h3 : (joinOf xs ⟨#[32]⟩).length = (jB xs).size := rfl
    unfold strings_Join.f
    rw [if_pos ⟨by omega, by omega⟩]
    rfl
  by_cases c : ((jB xs).size : Int) > 200
  · refine ⟨((⟨#[]⟩ : ByteArray), false), Ev.succ ?_, Ev.succ ?_⟩
    · set_option simprocs false in simp only [spec_WriteWish.l0]
      exact Ev.neg (by decide) (Ev.pos c (Ev.some rfl))
    · set_option simprocs false in simp only [impl_WriteWish.l0]
      exact Ev.neg (by decide) (Ev.bnd0 hj (Ev.pos c (Ev.some rfl)))
  · refine ⟨(jB xs, true), Ev.succ ?_, Ev.succ ?_⟩
    · set_option simprocs false in simp only [spec_WriteWish.l0]
      exact Ev.neg (by decide) (Ev.neg c (Ev.some rfl))
    · set_option simprocs false in simp only [impl_WriteWish.l0]
      exact Ev.neg (by decide) (Ev.bnd0 hj (Ev.neg c (Ev.some rfl)))
variable (hr : reach.length ≤ 6) (hrs : ∀ x ∈ reach, x.size ≤ 1048576) (ha : avoid.length ≤ 6) (has : ∀ x ∈ avoid, x.size ≤ 1048576)
include ha has
theorem write_1 (xs : List ByteArray) (hx : xs = [] ∨ Wr xs 7) : ∃ r, Ev (fun k => spec_WriteWish.l0 k (jB xs) [reach, avoid] 2 1) r ∧ Ev (fun k => impl_WriteWish.l0 k xs [reach, avoid] 2 1) r := by
  have hb : xs.length ≤ 7 ∧ (jB xs).size ≤ 100000000 := by
    rcases hx with rfl | h
    · exact ⟨by simp, by rw [jB_nil]; decide⟩
    · have h1 := h.len
      have h2 := h.sz
      exact ⟨h1, by omega⟩
  have e1 : rd_L4 [reach, avoid] 1 = avoid := rfl
  have g1 : (1 : Int) < (([reach, avoid] : List (List ByteArray)).length : Int) := (by decide : (1 : Int) < ((2 : Nat) : Int))
  have e2 : wrap64 (1 + 1) = 2 := by rw [wrap64_id (by omega) (by omega)]; rfl
  have e3 : rdOf ByteArray.empty [(⟨#[114, 101, 97, 99, 104]⟩ : ByteArray), (⟨#[97, 118, 111, 105, 100]⟩ : ByteArray)] 1 = (⟨#[97, 118, 111, 105, 100]⟩ : ByteArray) := rfl
  by_cases c : (avoid.length : Int) = 0
  · obtain ⟨r, h1, h2⟩ := write_2 reach avoid xs (by omega) hb.2
    have h3 : Ev (fun k => impl_WriteWish.l1 k xs [reach, avoid] 2 1 avoid avoid.length 0) r := by
      refine Ev.succ ?_
      set_option simprocs false in simp only [impl_WriteWish.l1, e2]
      exact Ev.neg (by omega) h2
    refine ⟨r, Ev.succ ?_, Ev.succ ?_⟩
    · set_option simprocs false in simp only [spec_WriteWish.l0, e1, e2]
      exact Ev.pos (by decide) (Ev.pos (by decide) (Ev.pos g1 (Ev.pos c h1)))
    · set_option simprocs false in simp only [impl_WriteWish.l0, e1]
      exact Ev.pos (by decide) (Ev.pos (by decide) (Ev.pos g1 (Ev.neg (by omega) h3)))
  · have hin (ys : List ByteArray) (hy : Wr ys 8) : ∃ r, Ev (fun k => spec_WriteWish.l1 k (jB ys) [reach, avoid] 2 1 avoid avoid.length 0) r ∧ Ev (fun k => impl_WriteWish.l1 k ys [reach, avoid] 2 1 avoid avoid.length 0) r :=
      write_in avoid ha has [reach, avoid] 2 1 8 (by decide) (fun zs hz => by rw [e2]; exact write_2 reach avoid zs (by have := hz.len; omega) (by have := hz.len; have := hz.sz; omega)) avoid.length 0 ys (by omega) hy
    rcases hx with rfl | hx
    · obtain ⟨r, h1, h2⟩ := hin [(⟨#[97, 118, 111, 105, 100]⟩ : ByteArray)] ⟨by simp, by rw [jB_one]; decide, by simp, by rw [jB_one]; decide⟩
      rw [jB_one] at h1
      rw [jB_nil]
      refine ⟨r, Ev.succ ?_, Ev.succ ?_⟩
      · set_option simprocs false in simp only [spec_WriteWish.l0, e1, e2]
        exact Ev.pos (by decide) (Ev.pos (by decide) (Ev.pos g1 (Ev.neg c (Ev.pos (by rw [tl_nil]; rfl) (Ev.neg (by decide) (Ev.pos (by decide) h1))))))
      · set_option simprocs false in simp only [impl_WriteWish.l0, e1]
        exact Ev.pos (by decide) (Ev.pos (by decide) (Ev.pos g1 (Ev.pos (by omega) (Ev.bnd0 rfl (Ev.pos (by decide) (Ev.pos (by decide) h2))))))
    · obtain ⟨r, h1, h2⟩ := hin (xs ++ [(⟨#[97, 118, 111, 105, 100]⟩ : ByteArray)]) (hx.snoc (by decide))
      rw [jB_snoc2 _ _ hx.ne] at h1
      have hp := hx.pos
      have e6 : (jB xs ++ (⟨#[32]⟩ : ByteArray)).size = (jB xs).size + 1 := by rw [sz_app]; rfl
      refine ⟨r, Ev.succ ?_, Ev.succ ?_⟩
      · set_option simprocs false in simp only [spec_WriteWish.l0, e1, e2]
        exact Ev.pos (by decide) (Ev.pos (by decide) (Ev.pos g1 (Ev.neg c (Ev.neg (by rw [tl_nil]; omega) (Ev.pos (by omega) (Ev.neg (by decide) (Ev.pos (by omega) h1)))))))
      · set_option simprocs false in simp only [impl_WriteWish.l0, e1]
        exact Ev.pos (by decide) (Ev.pos (by decide) (Ev.pos g1 (Ev.pos (by omega) (Ev.bnd0 rfl (Ev.pos (by decide) (Ev.pos (by omega) h2))))))
include hr hrs
theorem write_0 : ∃ r, Ev (fun k => spec_WriteWish.l0 k (⟨#[]⟩ : ByteArray) [reach, avoid] 2 0) r ∧ Ev (fun k => impl_WriteWish.l0 k [] [reach, avoid] 2 0) r := by
  have e1 : rd_L4 [reach, avoid] 0 = reach := rfl
  have g1 : (0 : Int) < (([reach, avoid] : List (List ByteArray)).length : Int) := (by decide : (0 : Int) < ((2 : Nat) : Int))
  have e2 : wrap64 (0 + 1) = 1 := by rw [wrap64_id (by omega) (by omega)]; rfl
  by_cases c : (reach.length : Int) = 0
  · obtain ⟨r, h1, h2⟩ := write_1 reach avoid ha has [] (.inl rfl)
    rw [jB_nil] at h1
    have h3 : Ev (fun k => impl_WriteWish.l1 k [] [reach, avoid] 2 0 reach reach.length 0) r := by
      refine Ev.succ ?_
      set_option simprocs false in simp only [impl_WriteWish.l1, e2]
      exact Ev.neg (by omega) h2
    refine ⟨r, Ev.succ ?_, Ev.succ ?_⟩
    · set_option simprocs false in simp only [spec_WriteWish.l0, e1, e2]
      exact Ev.pos (by decide) (Ev.pos (by decide) (Ev.pos g1 (Ev.pos c h1)))
    · set_option simprocs false in simp only [impl_WriteWish.l0, e1]
      exact Ev.pos (by decide) (Ev.pos (by decide) (Ev.pos g1 (Ev.neg (by omega) h3)))
  · obtain ⟨r, h1, h2⟩ := write_in reach hr hrs [reach, avoid] 2 0 1 (by decide) (fun zs hz => by rw [e2]; exact write_1 reach avoid ha has zs (.inr ⟨hz.ne, hz.pos, by have := hz.len; omega, hz.sz⟩)) reach.length 0 [(⟨#[114, 101, 97, 99, 104]⟩ : ByteArray)] (by omega) ⟨by simp, by rw [jB_one]; decide, by simp, by rw [jB_one]; decide⟩
    rw [jB_one] at h1
    refine ⟨r, Ev.succ ?_, Ev.succ ?_⟩
    · set_option simprocs false in simp only [spec_WriteWish.l0, e1, e2]
      exact Ev.pos (by decide) (Ev.pos (by decide) (Ev.pos g1 (Ev.neg c (Ev.pos (by rw [tl_nil]; rfl) (Ev.pos trivial (Ev.pos (by decide) h1))))))
    · set_option simprocs false in simp only [impl_WriteWish.l0, e1]
      exact Ev.pos (by decide) (Ev.pos (by decide) (Ev.pos g1 (Ev.pos (by omega) (Ev.bnd0 rfl (Ev.pos (by decide) (Ev.pos (by decide) h2))))))
end
theorem write_both {reach avoid : List ByteArray} (h : SmallW reach avoid) : ∃ r, Ev (fun k => spec_WriteWish.f k reach avoid) r ∧ Ev (fun k => impl_WriteWish.f k reach avoid) r := by
  have hg := l22Good_ev reach avoid h.r2 h.a2
  have hi := goodWish_eq reach avoid h.r1 h.r2 h.a1 h.a2
  by_cases c : WishOk reach avoid
  · obtain ⟨r, h1, h2⟩ := write_0 reach avoid c.1.1 h.r2 c.2.1 h.a2
    exact ⟨r, Ev.bnd hg (Ev.pos (decide_eq_true c) (Ev.bnd0 rfl h1)), Ev.bnd0 hi (Ev.pos (decide_eq_true c) (Ev.bnd0 rfl h2))⟩
  · exact ⟨((⟨#[]⟩ : ByteArray), false), Ev.bnd hg (Ev.neg (by simpa using c) (Ev.some rfl)), Ev.bnd0 hi (Ev.neg (by simpa using c) (Ev.some rfl))⟩
end Go.Proofs.YtdihodboopeakaaDoor.Pure
/-
Own text: a wish that is written is read as it; what is read is written no longer than it was.
-/
namespace Go.Proofs.YtdihodboopeakaaDoor.Pure
open Go.RowKit Go.Proofs.YtdihodboopeakaaDoorW.PrintWords Go.Proofs.YtdihodboopeakaaDoorW.PrintLast Go.Proofs.YtdihodboopeakaaDoor.Pr Go.Proofs.YtdihodboopeakaaDoor.EvKit
open Classical

abbrev bs (s : ByteArray) : List UInt8 := s.data.toList
abbrev rB : ByteArray := ⟨#[114, 101, 97, 99, 104]⟩
abbrev aB : ByteArray := ⟨#[97, 118, 111, 105, 100]⟩
/-- One of the two words. -/
abbrev IsW (s : ByteArray) : Prop := s.toList = ([114, 101, 97, 99, 104] : List UInt8) ∨ s.toList = ([97, 118, 111, 105, 100] : List UInt8)
/-- The bytes of texts, each behind a blank. -/
def tl : List ByteArray → List UInt8
  | [] => []
  | x :: r => 32 :: (bs x ++ tl r)
/-- The words of a wish's text. -/
def wsOf (R A : List ByteArray) : List ByteArray := (if R = [] then [] else rB :: R) ++ (if A = [] then [] else aB :: A)
theorem bs_size (s : ByteArray) : s.size = (bs s).length := rfl
theorem tail_tl (l : List ByteArray) : Lib.joinTail [32] (l.map (·.data.toList)) = tl l := by
  induction l with
  | nil => rfl
  | cons x r ih =>
    unfold tl
    rw [← ih]
    simp [Lib.joinTail]
theorem jB_cons (x : ByteArray) (l : List ByteArray) : bs (jB (x :: l)) = bs x ++ tl l := by
  show (jB (x :: l)).data.toList = _
  rw [jB_data, ← tail_tl]
  unfold joinOf
  rw [List.map_cons, Lib.join_cons]
theorem tl_app (a b : List ByteArray) : tl (a ++ b) = tl a ++ tl b := by
  induction a with
  | nil => rfl
  | cons x r ih =>
    show 32 :: (bs x ++ tl (r ++ b)) = 32 :: (bs x ++ tl r) ++ tl b
    rw [ih]
    simp
def tot (l : List ByteArray) : Nat := (l.map fun x => x.size + 1).sum
theorem tot_tl (l : List ByteArray) : (tl l).length = tot l := by
  induction l with
  | nil => rfl
  | cons x r ih =>
    show (32 :: (bs x ++ tl r)).length = _
    rw [List.length_cons, List.length_append, ih]
    show (bs x).length + tot r + 1 = ((x :: r).map fun x => x.size + 1).sum
    rw [List.map_cons, List.sum_cons]
    show (bs x).length + tot r + 1 = ((bs x).length + 1) + tot r
    omega
theorem tot_app (a b : List ByteArray) : tot (a ++ b) = tot a + tot b := by unfold tot; simp
theorem tot_one (a : ByteArray) : tot [a] = a.size + 1 := by unfold tot; simp
theorem jB_tot (x : ByteArray) (l : List ByteArray) : (jB (x :: l)).size + 1 = tot (x :: l) := by
  rw [bs_size, jB_cons, List.length_append, tot_tl]
  show _ = ((x :: l).map fun x => x.size + 1).sum
  rw [List.map_cons, List.sum_cons, bs_size]
  show _ = _ + tot l
  omega
/-! Names have no blank -/
theorem odd_blank (s : ByteArray) (f : Nat) : ∀ pos, s.size - pos ≤ f → oddFrom s f pos < 0 → ∀ j, pos ≤ j → j < s.size → s.get! j ≠ 32 := by
  induction f with
  | zero => intro pos hf _ j h1 h2; omega
  | succ f ih =>
    intro pos hf ho j h1 h2
    have hp : pos < s.size := by omega
    simp only [oddFrom, if_pos hp] at ho
    have hw := decode_w s pos
    by_cases c : badRune (Utf8.decode s pos) = true
    · rw [if_pos c] at ho; omega
    · rw [if_neg c] at ho
      have hr := rwAt_eq s pos hp
      have hn : ¬ ((Utf8.decode s pos).1 = 65533 ∧ (Utf8.decode s pos).2 = 1) := fun h => c (decide_eq_true (Or.inl h))
      have e1 : wid (Utf8.decode s pos) = (Utf8.decode s pos).2 := if_neg hn
      rw [e1] at hr
      by_cases hj : pos + (Utf8.decode s pos).2 ≤ j
      · exact ih _ (by omega) ho j hj h2
      · intro hb
        have hb2 : (s.get! j).toNat = 32 := by rw [hb]; rfl
        by_cases c2 : (s.get! pos).toNat < 128
        · have hd := decode_small s pos c2
          rw [hd] at c hj
          have hj2 : ¬ (pos + 1 ≤ j) := hj
          obtain rfl : j = pos := by omega
          rw [hb2] at c
          exact c (decide_eq_true (Or.inr (by decide)))
        · unfold rwAt rw4 at hr
          rw [if_neg c2] at hr
          by_cases c3 : szOf (s.get! pos).toNat = 0
          · rw [if_pos c3] at hr; omega
          · rw [if_neg c3] at hr
            by_cases c4 : contOk (s.size - pos) (s.get! (pos + 1)).toNat (s.get! (pos + 2)).toNat (s.get! (pos + 3)).toNat (szOf (s.get! pos).toNat) (loOf (s.get! pos).toNat) (hiOf (s.get! pos).toNat)
            · rw [if_pos c4] at hr
              obtain ⟨⟨a1, a2, a3⟩, a4, a5⟩ := c4
              have hlo : 128 ≤ loOf (s.get! pos).toNat := by unfold loOf; split <;> (try split) <;> omega
              by_cases k0 : j = pos
              · rw [k0] at hb2; omega
              · by_cases k1 : j = pos + 1
                · rw [k1] at hb2; omega
                · by_cases k2 : j = pos + 2
                  · have := a4 (by omega)
                    rw [k2] at hb2; omega
                  · have k3 : j = pos + 3 := by omega
                    have := a5 (by omega)
                    rw [k3] at hb2; omega
            · rw [if_neg c4] at hr; omega
theorem get_at (s : ByteArray) (p q : List UInt8) (b : UInt8) (h : bs s = p ++ b :: q) : p.length < s.size ∧ s.get! p.length = b := by
  have hl := bs_size s
  rw [h, List.length_append, List.length_cons] at hl
  have hp : p.length < s.size := by omega
  refine ⟨hp, ?_⟩
  show s.data[p.length]! = b
  have e : s.data.toList[p.length]? = some b := by
    rw [show s.data.toList = p ++ b :: q from h]
    simp
  rw [Array.getElem?_toList] at e
  rw [getElem!_pos s.data p.length hp]
  rw [Array.getElem?_eq_getElem hp] at e
  exact Option.some.inj e
theorem mem_get (s : ByteArray) (b : UInt8) (h : b ∈ bs s) : ∃ j, j < s.size ∧ s.get! j = b := by
  obtain ⟨p, q, e⟩ := List.append_of_mem h
  exact ⟨p.length, get_at s p q b e⟩
theorem name_blank {s : ByteArray} (h : NameOk s) : ∀ b ∈ bs s, b ≠ 32 := by
  intro b hb
  obtain ⟨j, h1, h2⟩ := mem_get s b hb
  rw [← h2]
  exact odd_blank s s.size 0 (by omega) h.2.2 j (by omega) h1
theorem name_pos {s : ByteArray} (h : NameOk s) : 0 < s.size := by
  rcases Nat.eq_zero_or_pos s.size with e | e
  · have h1 := h.1
    unfold Lib.runeCount at h1
    rw [e] at h1
    exact absurd h1 (by show ¬ ((1 : Nat) ≤ 0); omega)
  · exact e
theorem count_pos {s : ByteArray} (h : 0 < s.size) : 1 ≤ Lib.runeCount s := by
  unfold Lib.runeCount
  obtain ⟨n, hn⟩ : ∃ n, s.size = n + 1 := ⟨s.size - 1, by omega⟩
  rw [hn]
  unfold Lib.runeCountFrom
  rw [if_pos h]
  omega
/-! One round of reading -/
def Ends32 (q : List UInt8) : Prop := q = [] ∨ ∃ r, q = 32 :: r
theorem ends_nil : Ends32 [] := Or.inl rfl
theorem ends_tl (l : List ByteArray) {q : List UInt8} (h : Ends32 q) : Ends32 (tl l ++ q) := by
  cases l with
  | nil => exact h
  | cons x r => exact Or.inr ⟨_, rfl⟩
theorem endFrom_run (s : ByteArray) (u : List UInt8) : ∀ (p q : List UInt8) (f : Nat), bs s = p ++ (u ++ q) → (∀ b ∈ u, b ≠ 32) → Ends32 q → p.length + f = s.size → endFrom s f p.length = p.length + u.length := by
  induction u with
  | nil =>
    intro p q f h _ hq hf
    cases f with
    | zero => rfl
    | succ f =>
      unfold endFrom
      rcases hq with rfl | ⟨q', rfl⟩
      · have := bs_size s
        rw [h] at this
        simp at this
        omega
      · obtain ⟨a, b⟩ := get_at s p q' 32 (by simpa using h)
        rw [if_pos a, if_pos b]
        rfl
  | cons b u ih =>
    intro p q f h hu hq hf
    obtain ⟨a, e⟩ := get_at s p (u ++ q) b (by simpa using h)
    obtain ⟨f, rfl⟩ : ∃ g, f = g + 1 := ⟨f - 1, by omega⟩
    unfold endFrom
    rw [if_pos a, if_neg (by rw [e]; exact hu b List.mem_cons_self)]
    have e2 : (p ++ [b]).length = p.length + 1 := by simp
    have := ih (p ++ [b]) q f (by simpa using h) (fun x hx => hu x (List.mem_cons_of_mem _ hx)) hq (by omega)
    rw [e2] at this
    rw [this, List.length_cons]
    omega
theorem word_at (s t : ByteArray) (p q : List UInt8) (h : bs s = p ++ (bs t ++ q)) (ht : ∀ b ∈ bs t, b ≠ 32) (h0 : 0 < t.size) (hq : Ends32 q) :
    p.length < s.size ∧ s.get! p.length ≠ 32 ∧ wordEnd s p.length = p.length + t.size ∧ s.extract p.length (p.length + t.size) = t := by
  have hl := bs_size s
  rw [h, List.length_append, List.length_append, ← bs_size t] at hl
  have e1 : wordEnd s p.length = p.length + t.size := endFrom_run s (bs t) p q _ h ht hq (by omega)
  refine ⟨by omega, ?_, e1, ?_⟩
  · cases hb : bs t with
    | nil =>
      have e0 := bs_size t
      rw [hb] at e0
      have e1 : t.size = 0 := e0
      omega
    | cons b u =>
      rw [hb] at h ht
      rw [(get_at s p (u ++ q) b (by simpa using h)).2]
      exact ht b List.mem_cons_self
  · apply ba_ext
    rw [ByteArray.data_extract, Array.toList_extract, show s.data.toList = p ++ (bs t ++ q) from h, List.extract_eq_take_drop]
    rw [List.drop_left, Nat.add_sub_cancel_left, bs_size t, List.take_left]
theorem rd_blank (s : ByteArray) (p q : List UInt8) (g part many : Nat) (R A : List ByteArray) (h : bs s = p ++ 32 :: q) : rdFrom s (g + 1) p.length part many R A = rdFrom s g (p.length + 1) part many R A := by
  obtain ⟨a, b⟩ := get_at s p q 32 h
  show (if p.length < s.size then _ else _) = _
  rw [if_pos a, if_pos b]
theorem reach_iff (t : ByteArray) : isReach t = true ↔ t.toList = ([114, 101, 97, 99, 104] : List UInt8) := decide_eq_true_iff
theorem avoid_iff (t : ByteArray) : isAvoid t = true ↔ t.toList = ([97, 118, 111, 105, 100] : List UInt8) := decide_eq_true_iff
theorem rd_name1 (s t : ByteArray) (p q : List UInt8) (g many : Nat) (R A : List ByteArray) (h : bs s = p ++ (bs t ++ q)) (hq : Ends32 q) (hn : NameOk t) (hw : ¬ IsW t) (hm : many ≠ 6) (hR : t ∉ R) :
    rdFrom s (g + 1) p.length 1 many R A = rdFrom s g (p.length + t.size) 1 (many + 1) (R ++ [t]) A := by
  obtain ⟨a, b, c, d⟩ := word_at s t p q h (name_blank hn) (name_pos hn) hq
  have h3 := hn.2.2
  have h4 := hn.2.1
  show (if p.length < s.size then _ else _) = _
  rw [if_pos a, if_neg b, c, d, if_neg (by omega), if_neg (fun e => hw (Or.inl ((reach_iff t).1 e))), if_neg (fun e => hw (Or.inr ((avoid_iff t).1 e))), if_neg (by decide), if_neg (by omega), if_neg (by decide), if_neg (by rw [inB_eq]; simpa using hR)]
theorem rd_name2 (s t : ByteArray) (p q : List UInt8) (g many : Nat) (R A : List ByteArray) (h : bs s = p ++ (bs t ++ q)) (hq : Ends32 q) (hn : NameOk t) (hw : ¬ IsW t) (hm : many ≠ 6) (hA : t ∉ A) :
    rdFrom s (g + 1) p.length 2 many R A = rdFrom s g (p.length + t.size) 2 (many + 1) R (A ++ [t]) := by
  obtain ⟨a, b, c, d⟩ := word_at s t p q h (name_blank hn) (name_pos hn) hq
  have h3 := hn.2.2
  have h4 := hn.2.1
  show (if p.length < s.size then _ else _) = _
  rw [if_pos a, if_neg b, c, d, if_neg (by omega), if_neg (fun e => hw (Or.inl ((reach_iff t).1 e))), if_neg (fun e => hw (Or.inr ((avoid_iff t).1 e))), if_neg (by decide), if_neg (by omega), if_pos rfl, if_neg (by rw [inB_eq]; simpa using hA)]
theorem tl_rB : rB.toList = ([114, 101, 97, 99, 104] : List UInt8) := by rw [Lib.toList_data]
theorem tl_aB : aB.toList = ([97, 118, 111, 105, 100] : List UInt8) := by rw [Lib.toList_data]
theorem odd_rB : oddOf rB = -1 := by decide
theorem odd_aB : oddOf aB = -1 := by decide
theorem blank_rB : ∀ b ∈ bs rB, b ≠ 32 := by decide
theorem blank_aB : ∀ b ∈ bs aB, b ≠ 32 := by decide
theorem rd_reach (s : ByteArray) (p q : List UInt8) (g : Nat) (R A : List ByteArray) (h : bs s = p ++ (bs rB ++ q)) (hq : Ends32 q) :
    rdFrom s (g + 1) p.length 0 1 R A = rdFrom s g (p.length + 5) 1 0 R A := by
  obtain ⟨a, b, c, d⟩ := word_at s rB p q h blank_rB (by decide) hq
  show (if p.length < s.size then _ else _) = _
  rw [if_pos a, if_neg b, c, d, odd_rB, if_neg (by omega), if_pos ((reach_iff rB).2 tl_rB), if_neg (by decide)]
  rfl
theorem rd_avoid (s : ByteArray) (p q : List UInt8) (g part many : Nat) (hp : part ≤ 1) (hm : many ≠ 0) (R A : List ByteArray) (h : bs s = p ++ (bs aB ++ q)) (hq : Ends32 q) :
    rdFrom s (g + 1) p.length part many R A = rdFrom s g (p.length + 5) 2 0 R A := by
  obtain ⟨a, b, c, d⟩ := word_at s aB p q h blank_aB (by decide) hq
  show (if p.length < s.size then _ else _) = _
  rw [if_pos a, if_neg b, c, d, odd_aB, if_neg (by omega), if_neg (fun e => absurd (tl_aB.symm.trans ((reach_iff aB).1 e)) (by decide)), if_pos ((avoid_iff aB).2 tl_aB), if_neg (by omega)]
  rfl
theorem rd_fin (s : ByteArray) (g part many : Nat) (R A : List ByteArray) (hm : many ≠ 0) : rdFrom s g s.size part many R A = (R, A, 0, 0) := by
  cases g with
  | zero => exact if_neg hm
  | succ g =>
    show (if s.size < s.size then _ else _) = _
    rw [if_neg (by omega), if_neg hm]
/-! Good lists -/
theorem ListOk.nil : ListOk [] := ⟨Nat.zero_le _, From.end_ (Nat.le_refl _)⟩
theorem ListOk.snoc {l : List ByteArray} {x : ByteArray} (h : ListOk l) (hl : l.length ≠ 6) (hn : NameOk x) (hx : x ∉ l) : ListOk (l ++ [x]) := by
  have h6 := h.1
  refine ⟨by simp; omega, fun j h1 h2 => ?_⟩
  rw [List.length_append] at h2
  simp only [List.length_cons, List.length_nil] at h2
  by_cases c : j < l.length
  · have e := h.2 j h1 c
    have e1 : (l ++ [x]).getD j ByteArray.empty = l.getD j ByteArray.empty := by simp [List.getD_eq_getElem?_getD, List.getElem?_append_left c]
    rw [e1, List.take_append_of_le_length (by omega)]
    exact e
  · obtain rfl : j = l.length := by omega
    have e1 : (l ++ [x]).getD l.length ByteArray.empty = x := by simp [List.getD_eq_getElem?_getD]
    rw [e1, List.take_left]
    exact ⟨hn, hx⟩
theorem ListOk.mid {l r : List ByteArray} {x : ByteArray} (h : ListOk (l ++ x :: r)) : NameOk x ∧ x ∉ l ∧ l.length ≠ 6 := by
  have h6 := h.1
  rw [List.length_append, List.length_cons] at h6
  have e : NameOk ((l ++ x :: r).getD l.length ByteArray.empty) ∧ (l ++ x :: r).getD l.length ByteArray.empty ∉ (l ++ x :: r).take l.length := h.2 l.length (by omega) (by rw [List.length_append, List.length_cons]; omega)
  have e1 : (l ++ x :: r).getD l.length ByteArray.empty = x := by simp [List.getD_eq_getElem?_getD]
  rw [e1, List.take_left] at e
  exact ⟨e.1, e.2, by omega⟩
theorem rd_names1 (s : ByteArray) (A ns : List ByteArray) : ∀ (p q : List UInt8) (R : List ByteArray) (g : Nat), bs s = p ++ (tl ns ++ q) → Ends32 q → ListOk (R ++ ns) → (∀ x ∈ ns, ¬ IsW x) → s.size ≤ p.length + g →
    ∃ g', s.size ≤ (p ++ tl ns).length + g' ∧ rdFrom s g p.length 1 R.length R A = rdFrom s g' (p ++ tl ns).length 1 (R ++ ns).length (R ++ ns) A := by
  induction ns with
  | nil =>
    intro p q R g h hq hl hw hg
    refine ⟨g, ?_, ?_⟩
    · simpa [tl] using hg
    · simp [tl]
  | cons x ns ih =>
    intro p q R g h hq hl hw hg
    obtain ⟨hn, hx, h6⟩ := hl.mid
    have h1 : bs s = p ++ 32 :: (bs x ++ (tl ns ++ q)) := by rw [h]; simp [tl]
    have h2 : bs s = (p ++ [32]) ++ (bs x ++ (tl ns ++ q)) := by rw [h]; simp [tl]
    have h3 : bs s = (p ++ 32 :: bs x) ++ (tl ns ++ q) := by rw [h]; simp [tl]
    have hs := bs_size s
    rw [h1, List.length_append, List.length_cons, List.length_append, ← bs_size x] at hs
    have hp := name_pos hn
    obtain ⟨g, rfl⟩ : ∃ g', g = g' + 2 := ⟨g - 2, by omega⟩
    have l2 : (p ++ [32]).length = p.length + 1 := by simp
    have l3 : (p ++ 32 :: bs x).length = p.length + 1 + x.size := by rw [List.length_append, List.length_cons, ← bs_size x]; omega
    have e2 := rd_name1 s x (p ++ [32]) (tl ns ++ q) g R.length R A h2 (ends_tl ns hq) hn (hw x List.mem_cons_self) h6 hx
    rw [l2, ← l3] at e2
    obtain ⟨g', k1, k2⟩ := ih (p ++ 32 :: bs x) q (R ++ [x]) g h3 hq (by simpa using hl) (fun y hy => hw y (List.mem_cons_of_mem _ hy)) (by rw [l3]; omega)
    have e4 : p ++ 32 :: bs x ++ tl ns = p ++ tl (x :: ns) := by simp [tl]
    have e5 : R ++ [x] ++ ns = R ++ x :: ns := by simp
    have e6 : (R ++ [x]).length = R.length + 1 := by simp
    rw [e4] at k1 k2
    rw [e5, e6] at k2
    exact ⟨g', k1, by rw [rd_blank s p _ (g + 1) 1 R.length R A h1, e2, k2]⟩
theorem rd_names2 (s : ByteArray) (R ns : List ByteArray) : ∀ (p q : List UInt8) (A : List ByteArray) (g : Nat), bs s = p ++ (tl ns ++ q) → Ends32 q → ListOk (A ++ ns) → (∀ x ∈ ns, ¬ IsW x) → s.size ≤ p.length + g →
    ∃ g', s.size ≤ (p ++ tl ns).length + g' ∧ rdFrom s g p.length 2 A.length R A = rdFrom s g' (p ++ tl ns).length 2 (A ++ ns).length R (A ++ ns) := by
  induction ns with
  | nil =>
    intro p q A g h hq hl hw hg
    refine ⟨g, ?_, ?_⟩
    · simpa [tl] using hg
    · simp [tl]
  | cons x ns ih =>
    intro p q A g h hq hl hw hg
    obtain ⟨hn, hx, h6⟩ := hl.mid
    have h1 : bs s = p ++ 32 :: (bs x ++ (tl ns ++ q)) := by rw [h]; simp [tl]
    have h2 : bs s = (p ++ [32]) ++ (bs x ++ (tl ns ++ q)) := by rw [h]; simp [tl]
    have h3 : bs s = (p ++ 32 :: bs x) ++ (tl ns ++ q) := by rw [h]; simp [tl]
    have hs := bs_size s
    rw [h1, List.length_append, List.length_cons, List.length_append, ← bs_size x] at hs
    have hp := name_pos hn
    obtain ⟨g, rfl⟩ : ∃ g', g = g' + 2 := ⟨g - 2, by omega⟩
    have l2 : (p ++ [32]).length = p.length + 1 := by simp
    have l3 : (p ++ 32 :: bs x).length = p.length + 1 + x.size := by rw [List.length_append, List.length_cons, ← bs_size x]; omega
    have e2 := rd_name2 s x (p ++ [32]) (tl ns ++ q) g A.length R A h2 (ends_tl ns hq) hn (hw x List.mem_cons_self) h6 hx
    rw [l2, ← l3] at e2
    obtain ⟨g', k1, k2⟩ := ih (p ++ 32 :: bs x) q (A ++ [x]) g h3 hq (by simpa using hl) (fun y hy => hw y (List.mem_cons_of_mem _ hy)) (by rw [l3]; omega)
    have e4 : p ++ 32 :: bs x ++ tl ns = p ++ tl (x :: ns) := by simp [tl]
    have e5 : A ++ [x] ++ ns = A ++ x :: ns := by simp
    have e6 : (A ++ [x]).length = A.length + 1 := by simp
    rw [e4] at k1 k2
    rw [e5, e6] at k2
    exact ⟨g', k1, by rw [rd_blank s p _ (g + 1) 2 A.length R A h1, e2, k2]⟩
/-- The second part of a wish's text. -/
theorem rd_partA (s : ByteArray) (p : List UInt8) (g part many : Nat) (R A : List ByteArray) (h : bs s = p ++ (bs aB ++ tl A)) (hA : A ≠ []) (hl : ListOk A) (hw : ∀ x ∈ A, ¬ IsW x) (hp : part ≤ 1) (hm : many ≠ 0) (hg : s.size ≤ p.length + g) :
    rdFrom s g p.length part many R [] = (R, A, 0, 0) := by
  have hs := bs_size s
  rw [h, List.length_append, List.length_append] at hs
  have e5 : (bs aB).length = 5 := rfl
  obtain ⟨g, rfl⟩ : ∃ g', g = g' + 1 := ⟨g - 1, by omega⟩
  have l3 : (p ++ bs aB).length = p.length + 5 := by rw [List.length_append, e5]
  rw [rd_avoid s p (tl A) g part many hp hm R [] h (by have := ends_tl A ends_nil; simpa using this), ← l3]
  obtain ⟨g', k1, k2⟩ := rd_names2 s R A (p ++ bs aB) [] [] g (by rw [h]; simp) ends_nil (by simpa using hl) hw (by omega)
  have e6 : (p ++ bs aB ++ tl A).length = s.size := by rw [hs]; simp
  rw [e6, List.nil_append] at k2
  rw [show (0 : Nat) = ([] : List ByteArray).length from rfl, k2]
  exact rd_fin s g' 2 A.length R A (by intro e; exact hA (List.length_eq_zero_iff.1 e))
/-- A wish that is written is read as it. -/
theorem read_write (R A : List ByteArray) (h : WishOk R A) (hw : ∀ x, x ∈ R ∨ x ∈ A → ¬ IsW x) (hs : (jB (wsOf R A)).size ≤ 200) : readOf (jB (wsOf R A)) = (R, A, 0, 0) := by
  unfold readOf
  rw [if_neg (by omega)]
  by_cases cR : R = []
  · subst cR
    by_cases cA : A = []
    · subst cA
      rfl
    · have e : wsOf [] A = aB :: A := by unfold wsOf; rw [if_pos rfl, if_neg cA]; rfl
      rw [e]
      exact rd_partA (jB (aB :: A)) [] _ 0 1 [] A (by rw [jB_cons]; rfl) cA h.2 (fun x hx => hw x (Or.inr hx)) (by decide) (by decide) (by simp)
  · have e : wsOf R A = rB :: (R ++ (if A = [] then [] else aB :: A)) := by unfold wsOf; rw [if_neg cR]; rfl
    rw [e] at hs ⊢
    have hb : bs (jB (rB :: (R ++ (if A = [] then [] else aB :: A)))) = bs rB ++ (tl R ++ tl (if A = [] then [] else aB :: A)) := by rw [jB_cons, tl_app]
    generalize jB (rB :: (R ++ (if A = [] then [] else aB :: A))) = s at hb hs
    have hz := bs_size s
    rw [hb, List.length_append, List.length_append] at hz
    have e5 : (bs rB).length = 5 := rfl
    obtain ⟨g, hg⟩ : ∃ g', s.size = g' + 1 := ⟨s.size - 1, by omega⟩
    have hq : Ends32 (tl (if A = [] then [] else aB :: A)) := by have := ends_tl (if A = [] then [] else aB :: A) ends_nil; simpa using this
    have e1 := rd_reach s [] (tl R ++ tl (if A = [] then [] else aB :: A)) g [] [] hb (ends_tl R hq)
    rw [← hg] at e1
    have e1b : rdFrom s s.size 0 0 1 [] [] = rdFrom s g (bs rB).length 1 ([] : List ByteArray).length [] [] := e1
    rw [e1b]
    obtain ⟨g', k1, k2⟩ := rd_names1 s [] R (bs rB) _ [] g hb hq (by simpa using h.1) (fun x hx => hw x (Or.inl hx)) (by omega)
    rw [k2, List.nil_append]
    have hm : R.length ≠ 0 := fun e => cR (List.length_eq_zero_iff.1 e)
    by_cases cA : A = []
    · subst cA
      have e6 : (bs rB ++ tl R).length = s.size := by rw [hz]; simp [tl]
      rw [e6]
      exact rd_fin s g' 1 R.length R [] hm
    · rw [if_neg cA] at hb hz
      have hb2 : bs s = (bs rB ++ tl R) ++ 32 :: (bs aB ++ tl A) := by rw [hb]; simp [tl]
      have hb3 : bs s = ((bs rB ++ tl R) ++ [32]) ++ (bs aB ++ tl A) := by rw [hb]; simp [tl]
      have hz2 := bs_size s
      rw [hb2, List.length_append, List.length_cons] at hz2
      obtain ⟨g', rfl⟩ : ∃ g2, g' = g2 + 1 := ⟨g' - 1, by omega⟩
      rw [rd_blank s (bs rB ++ tl R) _ g' 1 R.length R [] hb2]
      have l3 : (bs rB ++ tl R ++ [32]).length = (bs rB ++ tl R).length + 1 := by rw [List.length_append]; rfl
      rw [← l3]
      exact rd_partA s _ g' 1 R.length R A hb3 cA h.2 (fun x hx => hw x (Or.inr hx)) (by decide) hm (by omega)
/-! What is read is good, and its text is no longer than the one read -/
theorem rd_bad (s : ByteArray) : ∀ (g i part many : Nat) (R A : List ByteArray), (rdFrom s g i part many R A).2.2.1 ≠ 0 → (rdFrom s g i part many R A).1 = [] ∧ (rdFrom s g i part many R A).2.1 = [] := by
  intro g
  induction g with
  | zero =>
    intro i part many R A h
    unfold rdFrom at h ⊢
    by_cases c : many = 0
    · rw [if_pos c]; exact ⟨rfl, rfl⟩
    · rw [if_neg c] at h; exact absurd rfl h
  | succ g ih =>
    intro i part many R A
    unfold rdFrom
    repeat' split
    all_goals first
      | exact ih _ _ _ _ _
      | exact fun _ => ⟨rfl, rfl⟩
      | exact fun h => absurd rfl h
theorem read_bad (s : ByteArray) (h : (readOf s).2.2.1 ≠ 0) : (readOf s).1 = [] ∧ (readOf s).2.1 = [] := by
  unfold readOf at h ⊢
  by_cases c : 200 < s.size
  · rw [if_pos c]; exact ⟨rfl, rfl⟩
  · rw [if_neg c] at h ⊢; exact rd_bad s _ _ _ _ _ _ h
/-- The words read so far. -/
def wo (part : Nat) (R A : List ByteArray) : List ByteArray := (if R = [] ∧ part ≠ 1 then [] else rB :: R) ++ (if part = 2 then aB :: A else [])
structure RInv (s : ByteArray) (i part many : Nat) (R A : List ByteArray) : Prop where
  p2 : part ≤ 2
  r : ListOk R
  a : ListOk A
  w : ∀ x, x ∈ R ∨ x ∈ A → ¬ IsW x
  z : part = 0 → R = [] ∧ A = [] ∧ many = 1
  o : part = 1 → many = R.length ∧ A = []
  t : part = 2 → many = A.length
  le : i ≤ s.size
  sz : tot (wo part R A) ≤ i ∨ (tot (wo part R A) ≤ i + 1 ∧ (i = s.size ∨ s.get! i = 32))
structure RGood (s : ByteArray) (R A : List ByteArray) : Prop where
  r : ListOk R
  a : ListOk A
  w : ∀ x, x ∈ R ∨ x ∈ A → ¬ IsW x
  sz : tot (wsOf R A) ≤ s.size + 1
theorem RInv.fin {s : ByteArray} {i part many : Nat} {R A : List ByteArray} (h : RInv s i part many R A) (hm : many ≠ 0) : RGood s R A := by
  refine ⟨h.r, h.a, h.w, ?_⟩
  have e : wsOf R A = wo part R A := by
    have hp := h.p2
    unfold wsOf wo
    by_cases c0 : part = 0
    · obtain ⟨rfl, rfl, _⟩ := h.z c0
      subst c0
      rfl
    · by_cases c1 : part = 1
      · obtain ⟨h1, rfl⟩ := h.o c1
        subst c1
        have hR : R ≠ [] := fun e => by rw [e] at h1; exact hm h1
        simp [hR]
      · have c2 : part = 2 := by omega
        have h1 := h.t c2
        subst c2
        have hA : A ≠ [] := fun e => by rw [e] at h1; exact hm h1
        simp [hA]
  rw [e]
  have := h.le
  rcases h.sz with k | ⟨k, _⟩ <;> omega
theorem endFrom_stop (s : ByteArray) : ∀ f k, k + f = s.size → endFrom s f k = s.size ∨ s.get! (endFrom s f k) = 32
  | 0, k, h => Or.inl (by simpa [endFrom] using h)
  | f + 1, k, h => by
    unfold endFrom
    by_cases c : k < s.size
    · rw [if_pos c]
      by_cases c2 : s.get! k = 32
      · rw [if_pos c2]; exact Or.inr c2
      · rw [if_neg c2]; exact endFrom_stop s f (k + 1) (by omega)
    · omega
theorem rd_good (s : ByteArray) : ∀ (g i part many : Nat) (R A : List ByteArray), RInv s i part many R A → (rdFrom s g i part many R A).2.2.1 = 0 → s.size ≤ i + g → RGood s (rdFrom s g i part many R A).1 (rdFrom s g i part many R A).2.1 := by
  intro g
  induction g with
  | zero =>
    intro i part many R A hi hr hg
    unfold rdFrom at hr ⊢
    by_cases c : many = 0
    · rw [if_pos c] at hr; exact absurd hr (by show ¬ ((2 : Int) = 0); decide)
    · rw [if_neg c]; exact hi.fin c
  | succ g ih =>
    intro i part many R A hi hr hg
    unfold rdFrom at hr ⊢
    by_cases c : i < s.size
    · rw [if_pos c] at hr ⊢
      by_cases c1 : s.get! i = 32
      · rw [if_pos c1] at hr ⊢
        exact ih _ _ _ _ _ ⟨hi.p2, hi.r, hi.a, hi.w, hi.z, hi.o, hi.t, c, Or.inl (by rcases hi.sz with k | ⟨k, _⟩ <;> omega)⟩ hr (by omega)
      · rw [if_neg c1] at hr ⊢
        have hs : tot (wo part R A) ≤ i := by
          rcases hi.sz with k | ⟨k, k2⟩
          · exact k
          · rcases k2 with k2 | k2
            · omega
            · exact absurd k2 c1
        have he := wordEnd_gt s i c c1
        have he2 := wordEnd_le s i c
        have hst : wordEnd s i = s.size ∨ s.get! (wordEnd s i) = 32 := endFrom_stop s _ i (by omega)
        have hz : (s.extract i (wordEnd s i)).size = wordEnd s i - i := by rw [ByteArray.size_extract]; omega
        generalize wordEnd s i = k at hr he he2 hst hz ⊢
        generalize s.extract i k = t at hr hz ⊢
        by_cases d0 : 0 ≤ oddOf t
        · rw [if_pos d0] at hr; exact absurd hr (by show ¬ ((3 : Int) = 0); decide)
        · rw [if_neg d0] at hr ⊢
          by_cases d1 : isReach t = true
          · rw [if_pos d1] at hr ⊢
            by_cases d2 : 1 ≤ part ∨ many = 0
            · rw [if_pos d2] at hr; exact absurd hr (by show ¬ ((1 : Int) = 0); decide)
            · rw [if_neg d2] at hr ⊢
              obtain ⟨rfl, rfl, _⟩ := hi.z (by omega)
              have ht : t = rB := (text_eq t rB).1 (((reach_iff t).1 d1).trans tl_rB.symm)
              have e0 : tot (wo 1 [] []) = 6 := rfl
              have e5 : t.size = 5 := by rw [ht]; rfl
              exact ih _ _ _ _ _ ⟨by omega, hi.r, hi.a, hi.w, (by intro h; omega), (by intro _; exact ⟨rfl, rfl⟩), (by intro h; omega), he2, Or.inr ⟨by omega, hst⟩⟩ hr (by omega)
          · rw [if_neg d1] at hr ⊢
            by_cases d2 : isAvoid t = true
            · rw [if_pos d2] at hr ⊢
              by_cases d3 : 2 ≤ part ∨ many = 0
              · rw [if_pos d3] at hr; exact absurd hr (by show ¬ ((1 : Int) = 0); decide)
              · rw [if_neg d3] at hr ⊢
                have ht : t = aB := (text_eq t aB).1 (((avoid_iff t).1 d2).trans tl_aB.symm)
                have e5 : t.size = 5 := by rw [ht]; rfl
                have hA : A = [] := by
                  by_cases c0 : part = 0
                  · exact (hi.z c0).2.1
                  · exact (hi.o (by omega)).2
                subst hA
                have e0 : tot (wo 2 R []) = tot (wo part R []) + 6 := by
                  have ew : wo 2 R [] = wo part R [] ++ [aB] := by
                    unfold wo
                    by_cases c0 : part = 0
                    · obtain ⟨rfl, _, _⟩ := hi.z c0
                      subst c0
                      rfl
                    · have c1 : part = 1 := by omega
                      obtain ⟨h1, _⟩ := hi.o c1
                      subst c1
                      have hR : R ≠ [] := fun e => by rw [e] at h1; exact d3 (Or.inr h1)
                      simp [hR]
                  rw [ew, tot_app, tot_one]
                  rfl
                exact ih _ _ _ _ _ ⟨by omega, hi.r, hi.a, hi.w, (by intro h; omega), (by intro h; omega), (by intro _; rfl), he2, Or.inr ⟨by omega, hst⟩⟩ hr (by omega)
            · rw [if_neg d2] at hr ⊢
              by_cases d3 : part = 0
              · rw [if_pos d3] at hr; exact absurd hr (by show ¬ ((1 : Int) = 0); decide)
              · rw [if_neg d3] at hr ⊢
                by_cases d4 : 12 < Lib.runeCount t ∨ many = 6
                · rw [if_pos d4] at hr; exact absurd hr (by show ¬ ((2 : Int) = 0); decide)
                · rw [if_neg d4] at hr ⊢
                  have hn : NameOk t := ⟨count_pos (by omega), by omega, by omega⟩
                  have hw : ¬ IsW t := fun h => h.elim (fun h => d1 ((reach_iff t).2 h)) (fun h => d2 ((avoid_iff t).2 h))
                  by_cases d5 : part = 2
                  · rw [if_pos d5] at hr ⊢
                    by_cases d6 : inB A t = true
                    · rw [if_pos d6] at hr; exact absurd hr (by show ¬ ((4 : Int) = 0); decide)
                    · rw [if_neg d6] at hr ⊢
                      rw [inB_eq] at d6
                      have h1 := hi.t d5
                      have e0 : tot (wo part R (A ++ [t])) = tot (wo part R A) + (t.size + 1) := by
                        have ew : wo part R (A ++ [t]) = wo part R A ++ [t] := by
                          unfold wo
                          rw [if_pos d5, if_pos d5]
                          simp
                        rw [ew, tot_app, tot_one]
                      exact ih _ _ _ _ _ ⟨hi.p2, hi.r, hi.a.snoc (by omega) hn (by simpa using d6), (by
                        intro x hx
                        rcases hx with hx | hx
                        · exact hi.w x (Or.inl hx)
                        · rcases List.mem_append.1 hx with hx | hx
                          · exact hi.w x (Or.inr hx)
                          · rw [List.mem_singleton.1 hx]; exact hw), (by intro h; omega), (by intro h; omega), (by intro _; rw [h1]; simp), he2, Or.inr ⟨by omega, hst⟩⟩ hr (by omega)
                  · rw [if_neg d5] at hr ⊢
                    by_cases d6 : inB R t = true
                    · rw [if_pos d6] at hr; exact absurd hr (by show ¬ ((4 : Int) = 0); decide)
                    · rw [if_neg d6] at hr ⊢
                      rw [inB_eq] at d6
                      have hp := hi.p2
                      have c1 : part = 1 := by omega
                      obtain ⟨h1, hA⟩ := hi.o c1
                      have e0 : tot (wo part (R ++ [t]) A) = tot (wo part R A) + (t.size + 1) := by
                        have ew : wo part (R ++ [t]) A = wo part R A ++ [t] := by
                          unfold wo
                          rw [if_neg d5]
                          simp [c1]
                        rw [ew, tot_app, tot_one]
                      exact ih _ _ _ _ _ ⟨hi.p2, hi.r.snoc (by omega) hn (by simpa using d6), hi.a, (by
                        intro x hx
                        rcases hx with hx | hx
                        · rcases List.mem_append.1 hx with hx | hx
                          · exact hi.w x (Or.inl hx)
                          · rw [List.mem_singleton.1 hx]; exact hw
                        · exact hi.w x (Or.inr hx)), (by intro h; omega), (by intro _; exact ⟨by rw [h1]; simp, hA⟩), (by intro h; omega), he2, Or.inr ⟨by omega, hst⟩⟩ hr (by omega)
    · rw [if_neg c] at hr ⊢
      by_cases c2 : many = 0
      · rw [if_pos c2] at hr; exact absurd hr (by show ¬ ((2 : Int) = 0); decide)
      · rw [if_neg c2]; exact hi.fin c2
theorem read_good (s : ByteArray) (h : (readOf s).2.2.1 = 0) : WishOk (readOf s).1 (readOf s).2.1 ∧ (∀ x, x ∈ (readOf s).1 ∨ x ∈ (readOf s).2.1 → ¬ IsW x) ∧ (jB (wsOf (readOf s).1 (readOf s).2.1)).size ≤ 200 := by
  unfold readOf at h ⊢
  by_cases c : 200 < s.size
  · rw [if_pos c] at h; exact absurd h (by decide)
  · rw [if_neg c] at h ⊢
    have g := rd_good s s.size 0 0 1 [] [] ⟨by decide, ListOk.nil, ListOk.nil, (by intro x hx; rcases hx with hx | hx <;> cases hx), (fun _ => ⟨rfl, rfl, rfl⟩), (by intro h; omega), (by intro h; omega), Nat.zero_le _, Or.inl (by decide)⟩ h (by omega)
    refine ⟨⟨g.r, g.a⟩, g.w, ?_⟩
    have hz := g.sz
    generalize wsOf (rdFrom s s.size 0 0 1 [] []).1 (rdFrom s s.size 0 0 1 [] []).2.1 = ws at hz ⊢
    cases ws with
    | nil => exact (by decide : (jB []).size ≤ 200)
    | cons x l =>
      have := jB_tot x l
      omega
end Go.Proofs.YtdihodboopeakaaDoor.Pure
/-
Own text: what writing a wish gives, plainly.
-/
namespace Go.Proofs.YtdihodboopeakaaDoor.Pure
open Go.RowKit Go.Proofs.YtdihodboopeakaaDoorW.PrintWords Go.Proofs.YtdihodboopeakaaDoorW.PrintLast Go.Proofs.YtdihodboopeakaaDoor.Pr Go.Proofs.YtdihodboopeakaaDoor.EvKit
open Classical

def badW : ByteArray × Bool := ((⟨#[]⟩ : ByteArray), false)
noncomputable def wV2 (xs : List ByteArray) : ByteArray × Bool := if (jB xs).size > 200 then badW else (jB xs, true)
noncomputable def wIn (l : List ByteArray) (V : List ByteArray → ByteArray × Bool) (xs : List ByteArray) : ByteArray × Bool := if ∃ x ∈ l, IsW x then badW else V (xs ++ l)
noncomputable def wV1 (A xs : List ByteArray) : ByteArray × Bool := wIn A wV2 (if A = [] then xs else xs ++ [aB])
noncomputable def wV0 (R A xs : List ByteArray) : ByteArray × Bool := wIn R (wV1 A) (if R = [] then xs else xs ++ [rB])
noncomputable def wrV (R A : List ByteArray) : ByteArray × Bool := if WishOk R A then wV0 R A [] else badW
/-- What is written, where it is. -/
theorem wrV_ok {R A : List ByteArray} (h : (wrV R A).2 = true) : WishOk R A ∧ (∀ x, x ∈ R ∨ x ∈ A → ¬ IsW x) ∧ (jB (wsOf R A)).size ≤ 200 ∧ (wrV R A).1 = jB (wsOf R A) := by
  have e : (if A = [] then (if R = [] then [] else [] ++ [rB]) ++ R else ((if R = [] then [] else [] ++ [rB]) ++ R) ++ [aB]) ++ A = wsOf R A := by
    unfold wsOf
    by_cases c1 : R = [] <;> by_cases c2 : A = [] <;> simp [c1, c2]
  unfold wrV at h ⊢
  by_cases c : WishOk R A
  · rw [if_pos c] at h ⊢
    unfold wV0 wIn at h ⊢
    by_cases c1 : ∃ x ∈ R, IsW x
    · rw [if_pos c1] at h; cases h
    · rw [if_neg c1] at h ⊢
      unfold wV1 wIn at h ⊢
      by_cases c2 : ∃ x ∈ A, IsW x
      · rw [if_pos c2] at h; cases h
      · rw [if_neg c2] at h ⊢
        rw [e] at h ⊢
        unfold wV2 at h ⊢
        by_cases c3 : (jB (wsOf R A)).size > 200
        · rw [if_pos c3] at h; cases h
        · rw [if_neg c3]
          refine ⟨c, ?_, by omega, rfl⟩
          intro x hx hw
          rcases hx with hx | hx
          · exact c1 ⟨x, hx, hw⟩
          · exact c2 ⟨x, hx, hw⟩
  · rw [if_neg c] at h; cases h
theorem wrV_is {R A : List ByteArray} (h : WishOk R A) (hw : ∀ x, x ∈ R ∨ x ∈ A → ¬ IsW x) (hs : (jB (wsOf R A)).size ≤ 200) : wrV R A = (jB (wsOf R A), true) := by
  have e : (if A = [] then (if R = [] then [] else [] ++ [rB]) ++ R else ((if R = [] then [] else [] ++ [rB]) ++ R) ++ [aB]) ++ A = wsOf R A := by
    unfold wsOf
    by_cases c1 : R = [] <;> by_cases c2 : A = [] <;> simp [c1, c2]
  unfold wrV
  rw [if_pos h]
  unfold wV0 wIn
  rw [if_neg (fun ⟨x, hx, hy⟩ => hw x (Or.inl hx) hy)]
  unfold wV1 wIn
  rw [if_neg (fun ⟨x, hx, hy⟩ => hw x (Or.inr hx) hy), e]
  unfold wV2
  rw [if_neg (by omega)]
theorem wrV_size (R A : List ByteArray) : (wrV R A).1.size ≤ 200 := by
  by_cases h : (wrV R A).2 = true
  · obtain ⟨_, _, h3, h4⟩ := wrV_ok h
    rw [h4]
    exact h3
  · unfold wrV wV0 wIn wV1 wIn wV2 at h ⊢
    repeat' split
    all_goals first
      | exact (by decide : (0 : Nat) ≤ 200)
      | (show (jB _).size ≤ 200; omega)
/-! The program's -/
def Pw (xs : List ByteArray) (m : Nat) : Prop := xs.length ≤ m ∧ ∀ x ∈ xs, x.size ≤ 1048576
theorem Pw.snoc {xs : List ByteArray} {m : Nat} (h : Pw xs m) {s : ByteArray} (hs : s.size ≤ 1048576) : Pw (xs ++ [s]) (m + 1) := by
  refine ⟨by have := h.1; simp; omega, fun x hx => ?_⟩
  rcases List.mem_append.1 hx with hx | hx
  · exact h.2 x hx
  · rw [List.mem_singleton.1 hx]; exact hs
theorem Pw.more {xs : List ByteArray} {m n : Nat} (h : Pw xs m) (hmn : m ≤ n) : Pw xs n := ⟨Nat.le_trans h.1 hmn, h.2⟩
theorem tot_le (xs : List ByteArray) (h : ∀ x ∈ xs, x.size ≤ 1048576) : tot xs ≤ xs.length * 1048577 := by
  induction xs with
  | nil => exact Nat.le_refl _
  | cons x l ih =>
    have h1 := ih (fun y hy => h y (List.mem_cons_of_mem _ hy))
    have h2 := h x List.mem_cons_self
    have h3 : tot (x :: l) = (x.size + 1) + tot l := by unfold tot; rw [List.map_cons, List.sum_cons]
    rw [h3, List.length_cons]
    omega
theorem Pw.size {xs : List ByteArray} (h : Pw xs 14) : (jB xs).size ≤ 100000000 := by
  cases xs with
  | nil => rw [jB_nil]; decide
  | cons x l =>
    have h1 := jB_tot x l
    have h2 := tot_le (x :: l) h.2
    have h3 := h.1
    omega
theorem wi_in (l : List ByteArray) (hl : l.length ≤ 6) (hs : ∀ x ∈ l, x.size ≤ 1048576) (L : List (List ByteArray)) (n j : Int) (V : List ByteArray → ByteArray × Bool) (m : Nat) (hm : m ≤ 8)
    (H : ∀ xs : List ByteArray, Pw xs (m + l.length) → Ev (fun k => impl_WriteWish.l0 k xs L n (wrap64 (j + 1))) (V xs)) (d : Nat) :
    ∀ (i : Nat) (xs : List ByteArray), i + d = l.length → Pw xs (m + i) → Ev (fun k => impl_WriteWish.l1 k xs L n j l l.length i) (wIn (l.drop i) V xs) := by
  induction d with
  | zero =>
    intro i xs hi hw
    obtain rfl : i = l.length := by omega
    have e : wIn (l.drop l.length) V xs = V xs := by
      unfold wIn
      rw [List.drop_length, if_neg (by rintro ⟨x, hx, _⟩; cases hx), List.append_nil]
    rw [e]
    refine Ev.succ ?_
    simp only [impl_WriteWish.l1, show ¬ ((l.length : Int) < (l.length : Int)) by omega, if_false]
    exact H xs hw
  | succ d ih =>
    intro i xs hi hw
    have hsz : (l.getD i ByteArray.empty).size ≤ 1048576 := hs _ (getD_mem l i _ (by omega))
    have e : rdOf ByteArray.empty l (i : Int) = l.getD i ByteArray.empty := rfl
    have ed := drop_get l i ByteArray.empty (by omega)
    generalize l.getD i ByteArray.empty = s at hsz e ed
    have hlen := hw.1
    by_cases c : IsW s
    · have ev : wIn (l.drop i) V xs = badW := by
        unfold wIn
        rw [if_pos ⟨s, by rw [ed]; exact List.mem_cons_self, c⟩]
      rw [ev]
      refine Ev.succ ?_
      simp only [impl_WriteWish.l1, show ((i : Int) < (l.length : Int)) by omega, show (0 : Int) ≤ (i : Int) by omega, if_true, e]
      exact Ev.bnd0 (isWord_eq s) (Ev.pos (decide_eq_true c) (Ev.some rfl))
    · have h2 := ih (i + 1) (xs ++ [s]) (by omega) (hw.snoc hsz)
      have ev : wIn (l.drop i) V xs = wIn (l.drop (i + 1)) V (xs ++ [s]) := by
        unfold wIn
        rw [ed]
        by_cases c2 : ∃ x ∈ l.drop (i + 1), IsW x
        · rw [if_pos c2]
          obtain ⟨x, h1, h2⟩ := c2
          rw [if_pos ⟨x, List.mem_cons_of_mem _ h1, h2⟩]
        · rw [if_neg c2, if_neg (by
            rintro ⟨x, k1, k2⟩
            rcases List.mem_cons.1 k1 with k3 | k3
            · exact c (k3 ▸ k2)
            · exact c2 ⟨x, k3, k2⟩)]
          simp
      rw [ev]
      refine Ev.succ ?_
      simp only [impl_WriteWish.l1, show ((i : Int) < (l.length : Int)) by omega, show (0 : Int) ≤ (i : Int) by omega, if_true, e, succ_w2 i (by omega)]
      exact Ev.bnd0 (isWord_eq s) (Ev.neg (by simpa using c) (Ev.pos (by omega) h2))
section
variable (reach avoid : List ByteArray)
theorem wi_2 (xs : List ByteArray) (h : Pw xs 14) : Ev (fun k => impl_WriteWish.l0 k xs [reach, avoid] 2 2) (wV2 xs) := by
  have h2 := h.size
  have hj : strings_Join.f xs (⟨#[32]⟩ : ByteArray) = some (jB xs) := by
    have h3 : (joinOf xs ⟨#[32]⟩).length = (jB xs).size := rfl
    have h1 := h.1
    unfold strings_Join.f
    rw [if_pos ⟨by omega, by omega⟩]
    rfl
  unfold wV2
  by_cases c : (jB xs).size > 200
  · rw [if_pos c]
    refine Ev.succ ?_
    set_option simprocs false in simp only [impl_WriteWish.l0]
    exact Ev.neg (by decide) (Ev.bnd0 hj (Ev.pos (by omega) (Ev.some rfl)))
  · rw [if_neg c]
    refine Ev.succ ?_
    set_option simprocs false in simp only [impl_WriteWish.l0]
    exact Ev.neg (by decide) (Ev.bnd0 hj (Ev.neg (by omega) (Ev.some rfl)))
variable (hr : reach.length ≤ 6) (hrs : ∀ x ∈ reach, x.size ≤ 1048576) (ha : avoid.length ≤ 6) (has : ∀ x ∈ avoid, x.size ≤ 1048576)
include ha has
theorem wi_1 (xs : List ByteArray) (h : Pw xs 7) : Ev (fun k => impl_WriteWish.l0 k xs [reach, avoid] 2 1) (wV1 avoid xs) := by
  have e1 : rd_L4 [reach, avoid] 1 = avoid := rfl
  have g1 : (1 : Int) < (([reach, avoid] : List (List ByteArray)).length : Int) := (by decide : (1 : Int) < ((2 : Nat) : Int))
  have e2 : wrap64 (1 + 1) = 2 := by rw [wrap64_id (by omega) (by omega)]; rfl
  have hl := h.1
  have hin (ys : List ByteArray) (hy : Pw ys 8) : Ev (fun k => impl_WriteWish.l1 k ys [reach, avoid] 2 1 avoid avoid.length 0) (wIn avoid wV2 ys) :=
    wi_in avoid ha has [reach, avoid] 2 1 wV2 8 (by decide) (fun zs hz => by rw [e2]; exact wi_2 reach avoid zs (hz.more (by omega))) avoid.length 0 ys (by omega) hy
  unfold wV1
  by_cases c : avoid = []
  · rw [if_pos c]
    have h3 := hin xs (h.more (by omega))
    have c2 : (avoid.length : Int) = 0 := by rw [c]; rfl
    refine Ev.succ ?_
    set_option simprocs false in simp only [impl_WriteWish.l0, e1]
    exact Ev.pos (by decide) (Ev.pos (by decide) (Ev.pos g1 (Ev.neg (by omega) h3)))
  · rw [if_neg c]
    have h3 := hin (xs ++ [aB]) (h.snoc (by decide))
    have c2 : (avoid.length : Int) ≠ 0 := fun e => c (List.length_eq_zero_iff.1 (by omega))
    have e3 : rdOf ByteArray.empty [(⟨#[114, 101, 97, 99, 104]⟩ : ByteArray), (⟨#[97, 118, 111, 105, 100]⟩ : ByteArray)] 1 = (⟨#[97, 118, 111, 105, 100]⟩ : ByteArray) := rfl
    refine Ev.succ ?_
    set_option simprocs false in simp only [impl_WriteWish.l0, e1]
    exact Ev.pos (by decide) (Ev.pos (by decide) (Ev.pos g1 (Ev.pos (by omega) (Ev.bnd0 rfl (Ev.pos (by decide) (Ev.pos (by omega) h3))))))
include hr hrs
theorem wi_0 : Ev (fun k => impl_WriteWish.l0 k [] [reach, avoid] 2 0) (wV0 reach avoid []) := by
  have e1 : rd_L4 [reach, avoid] 0 = reach := rfl
  have g1 : (0 : Int) < (([reach, avoid] : List (List ByteArray)).length : Int) := (by decide : (0 : Int) < ((2 : Nat) : Int))
  have e2 : wrap64 (0 + 1) = 1 := by rw [wrap64_id (by omega) (by omega)]; rfl
  have hin (ys : List ByteArray) (hy : Pw ys 1) : Ev (fun k => impl_WriteWish.l1 k ys [reach, avoid] 2 0 reach reach.length 0) (wIn reach (wV1 avoid) ys) :=
    wi_in reach hr hrs [reach, avoid] 2 0 (wV1 avoid) 1 (by decide) (fun zs hz => by rw [e2]; exact wi_1 reach avoid ha has zs (hz.more (by omega))) reach.length 0 ys (by omega) hy
  have hn : Pw [] 0 := ⟨Nat.le_refl _, by intro x hx; cases hx⟩
  unfold wV0
  by_cases c : reach = []
  · rw [if_pos c]
    have h3 := hin [] (hn.more (by omega))
    have c2 : (reach.length : Int) = 0 := by rw [c]; rfl
    refine Ev.succ ?_
    set_option simprocs false in simp only [impl_WriteWish.l0, e1]
    exact Ev.pos (by decide) (Ev.pos (by decide) (Ev.pos g1 (Ev.neg (by omega) h3)))
  · rw [if_neg c]
    have h3 := hin [rB] (hn.snoc (s := rB) (by decide))
    have c2 : (reach.length : Int) ≠ 0 := fun e => c (List.length_eq_zero_iff.1 (by omega))
    refine Ev.succ ?_
    set_option simprocs false in simp only [impl_WriteWish.l0, e1]
    exact Ev.pos (by decide) (Ev.pos (by decide) (Ev.pos g1 (Ev.pos (by omega) (Ev.bnd0 rfl (Ev.pos (by decide) (Ev.pos (by decide) h3))))))
end
theorem write_impl {reach avoid : List ByteArray} (h : SmallW reach avoid) : Ev (fun k => impl_WriteWish.f k reach avoid) (wrV reach avoid) := by
  have hi := goodWish_eq reach avoid h.r1 h.r2 h.a1 h.a2
  unfold wrV
  by_cases c : WishOk reach avoid
  · rw [if_pos c]
    exact Ev.bnd0 hi (Ev.pos (decide_eq_true c) (Ev.bnd0 rfl (wi_0 reach avoid c.1.1 h.r2 c.2.1 h.a2)))
  · rw [if_neg c]
    exact Ev.bnd0 hi (Ev.neg (by simpa using c) (Ev.some rfl))
theorem ev_one {α : Type} {f : Nat → Option α} {a b : α} (h : Ev f a) (k : Ev f b) : a = b := by
  obtain ⟨m, hm⟩ := h
  obtain ⟨n, hn⟩ := k
  have h1 := hm (max m n) (Nat.le_max_left _ _)
  have h2 := hn (max m n) (Nat.le_max_right _ _)
  rw [h1] at h2
  exact Option.some.inj h2
theorem write_spec {reach avoid : List ByteArray} (h : SmallW reach avoid) : Ev (fun k => spec_WriteWish.f k reach avoid) (wrV reach avoid) := by
  obtain ⟨r, h1, h2⟩ := write_both h
  rw [ev_one (write_impl h) h2]
  exact h1
end Go.Proofs.YtdihodboopeakaaDoor.Pure
/-
Own text: a drawn wish and a drawn text are small.
-/
namespace Go.Proofs.YtdihodboopeakaaDoor.Pure
open Go.RowKit Go.Proofs.YtdihodboopeakaaDoorW.PrintWords Go.Proofs.YtdihodboopeakaaDoorW.PrintLast Go.Proofs.YtdihodboopeakaaDoor.Pr Go.Proofs.YtdihodboopeakaaDoor.EvKit
open Classical
set_option linter.unusedVariables false
theorem of_ok {c : List Int} (hc : Code c) (a s : Int) (l : List ByteArray) (hl : 0 < l.length) (h0 : 0 ≤ a) (h1 : a ≤ 4611686018427387000) : ∃ v a' s', spec_l1Cur_of.f c a s l = some (v, a', s') ∧ a ≤ a' ∧ a' ≤ a + 2 ∧ v ∈ l := by
  obtain ⟨v, a', s', e, h2, h3, h4, h5, h6⟩ := pick_ok hc a s (l.length : Int) h0 h1
  have hv : v < (l.length : Int) := by
    by_cases h : (1 : Int) < l.length
    · exact h5 h
    · have := h6 (by omega)
      omega
  unfold spec_l1Cur_of.f
  rw [e]
  simp only [Option.bind_some]
  rw [if_pos h4, if_pos hv]
  refine ⟨_, _, _, rfl, h2, h3, ?_⟩
  unfold rdOf
  exact getD_mem l _ _ (by omega)
theorem name_ok {c : List Int} (hc : Code c) (a s : Int) (h0 : 0 ≤ a) (h1 : a ≤ 4611686018427387000) : ∃ v a' s', spec_l1Cur_name.f c a s = some (v, a', s') ∧ a ≤ a' ∧ a' ≤ a + 2 ∧ v.size ≤ 60 := by
  unfold spec_l1Cur_name.f
  obtain ⟨v, a', s', e, h2, h3, h4⟩ := of_ok hc a s [(⟨#[100, 111, 99, 107]⟩ : ByteArray), (⟨#[104, 97, 108, 108]⟩ : ByteArray), (⟨#[112, 105, 116]⟩ : ByteArray), (⟨#[108, 97, 98]⟩ : ByteArray), (⟨#[84, 195, 188, 114]⟩ : ByteArray), (⟨#[206, 182]⟩ : ByteArray), (⟨#[208, 188, 208, 190, 209, 129, 209, 130]⟩ : ByteArray), (⟨#[97]⟩ : ByteArray), (⟨#[230, 151, 165, 230, 156, 172]⟩ : ByteArray), (⟨#[97, 98, 99, 100, 101, 102, 103, 104, 105, 106, 107, 108]⟩ : ByteArray), (⟨#[108, 105, 102, 116]⟩ : ByteArray)] (by decide) h0 h1
  rw [e]
  refine ⟨_, _, _, rfl, h2, h3, ?_⟩
  revert h4
  generalize hL : ([(⟨#[100, 111, 99, 107]⟩ : ByteArray), (⟨#[104, 97, 108, 108]⟩ : ByteArray), (⟨#[112, 105, 116]⟩ : ByteArray), (⟨#[108, 97, 98]⟩ : ByteArray), (⟨#[84, 195, 188, 114]⟩ : ByteArray), (⟨#[206, 182]⟩ : ByteArray), (⟨#[208, 188, 208, 190, 209, 129, 209, 130]⟩ : ByteArray), (⟨#[97]⟩ : ByteArray), (⟨#[230, 151, 165, 230, 156, 172]⟩ : ByteArray), (⟨#[97, 98, 99, 100, 101, 102, 103, 104, 105, 106, 107, 108]⟩ : ByteArray), (⟨#[108, 105, 102, 116]⟩ : ByteArray)] : List ByteArray) = L
  intro h4
  have hall : L.all (fun x => decide (x.size ≤ 60)) = true := by rw [← hL]; decide
  exact of_decide_eq_true (List.all_eq_true.1 hall _ h4)
theorem names_l0 {c : List Int} (hc : Code c) (d : Nat) : ∀ (n : Nat) (l : List ByteArray) (a s : Int), n = d → 0 ≤ a → a + 10 * n ≤ 4611686018427380000 → l.length + n ≤ 100 → d ≤ 100 → (∀ x ∈ l, x.size ≤ 60) →
    ∃ r a' s', Ev (fun k => spec_l1Cur_names.l0 k l n c a s) (r, a', s') ∧ a ≤ a' ∧ a' ≤ a + 4 * n + 4 ∧ r.length ≤ l.length + n + 6 ∧ ∀ x ∈ r, x.size ≤ 60 := by
  induction d with
  | zero =>
    intro n l a s hn h0 h1 hl _ hx
    subst hn
    obtain ⟨v, a1, s1, e1, g1, g2, g3, _⟩ := pick_ok hc a s 30 h0 (by omega)
    by_cases c0 : v = 0
    · obtain ⟨w, a2, s2, e2, f1, f2, f3⟩ := of_ok hc a1 s1 [(⟨#[]⟩ : ByteArray), (⟨#[97, 32, 98]⟩ : ByteArray), (⟨#[97, 98, 99, 100, 101, 102, 103, 104, 105, 106, 107, 108, 109]⟩ : ByteArray), (⟨#[120, 49]⟩ : ByteArray), (⟨#[114, 101, 97, 99, 104]⟩ : ByteArray), (⟨#[97, 118, 111, 105, 100]⟩ : ByteArray), (⟨#[255]⟩ : ByteArray), (⟨#[206, 182, 206, 182, 206, 182, 206, 182, 206, 182, 206, 182, 206, 182, 206, 182, 206, 182, 206, 182, 206, 182, 206, 182]⟩ : ByteArray), (⟨#[206, 182, 206, 182, 206, 182, 206, 182, 206, 182, 206, 182, 206, 182, 206, 182, 206, 182, 206, 182, 206, 182, 206, 182, 206, 182]⟩ : ByteArray)] (by decide) (by omega) (by omega)
      have hw : w.size ≤ 60 := by
        revert f3
        generalize hL : ([(⟨#[]⟩ : ByteArray), (⟨#[97, 32, 98]⟩ : ByteArray), (⟨#[97, 98, 99, 100, 101, 102, 103, 104, 105, 106, 107, 108, 109]⟩ : ByteArray), (⟨#[120, 49]⟩ : ByteArray), (⟨#[114, 101, 97, 99, 104]⟩ : ByteArray), (⟨#[97, 118, 111, 105, 100]⟩ : ByteArray), (⟨#[255]⟩ : ByteArray), (⟨#[206, 182, 206, 182, 206, 182, 206, 182, 206, 182, 206, 182, 206, 182, 206, 182, 206, 182, 206, 182, 206, 182, 206, 182]⟩ : ByteArray), (⟨#[206, 182, 206, 182, 206, 182, 206, 182, 206, 182, 206, 182, 206, 182, 206, 182, 206, 182, 206, 182, 206, 182, 206, 182, 206, 182]⟩ : ByteArray)] : List ByteArray) = L
        intro f3
        have hall : L.all (fun x => decide (x.size ≤ 60)) = true := by rw [← hL]; decide
        exact of_decide_eq_true (List.all_eq_true.1 hall _ f3)
      refine ⟨l ++ [w], a2, s2, Ev.succ ?_, by omega, by omega, by simp, ?_⟩
      · simp only [spec_l1Cur_names.l0, show ¬ (((0 : Nat) : Int) > 0) by omega, if_false, e1, Option.bind_some, c0, if_true, e2, show l.length < 8796093022208 by omega]
        exact Ev.some rfl
      · intro x hx'
        rcases List.mem_append.1 hx' with h | h
        · exact hx x h
        · rw [List.mem_singleton.1 h]; exact hw
    · by_cases c1 : v = 1
      · refine ⟨l ++ [(⟨#[112]⟩ : ByteArray), (⟨#[113]⟩ : ByteArray), (⟨#[114]⟩ : ByteArray), (⟨#[115]⟩ : ByteArray), (⟨#[116]⟩ : ByteArray), (⟨#[117]⟩ : ByteArray)], a1, s1, Ev.succ ?_, by omega, by omega, by simp, ?_⟩
        · have hne : ¬ ((1 : Int) = 0) := by decide
          simp only [spec_l1Cur_names.l0, show ¬ (((0 : Nat) : Int) > 0) by omega, if_false, e1, Option.bind_some, c1, hne, if_true, List.length_cons, List.length_nil, show l.length + (0 + 1 + 1 + 1 + 1 + 1 + 1) < 8796093022208 by omega]
          exact Ev.some rfl
        · intro x hx'
          rcases List.mem_append.1 hx' with h | h
          · exact hx x h
          · have hall : [(⟨#[112]⟩ : ByteArray), (⟨#[113]⟩ : ByteArray), (⟨#[114]⟩ : ByteArray), (⟨#[115]⟩ : ByteArray), (⟨#[116]⟩ : ByteArray), (⟨#[117]⟩ : ByteArray)].all (fun x => decide (x.size ≤ 60)) = true := by decide
            exact of_decide_eq_true (List.all_eq_true.1 hall _ h)
      · refine ⟨l, a1, s1, Ev.succ ?_, by omega, by omega, by omega, hx⟩
        simp only [spec_l1Cur_names.l0, show ¬ (((0 : Nat) : Int) > 0) by omega, if_false, e1, Option.bind_some, c0, c1]
        exact Ev.some rfl
  | succ d ih =>
    intro n l a s hn h0 h1 hl hd hx
    obtain ⟨v, a1, s1, e1, g1, g2, g3⟩ := name_ok hc a s h0 (by omega)
    have hw : wrap64 ((n : Int) - 1) = ((n - 1 : Nat) : Int) := by rw [wrap64_id (by omega) (by omega)]; omega
    have hin : ∀ x ∈ l ++ [v], x.size ≤ 60 := by
      intro x hx'
      rcases List.mem_append.1 hx' with h | h
      · exact hx x h
      · rw [List.mem_singleton.1 h]; exact g3
    have hlen : l.length < 8796093022208 := by omega
    by_cases c1 : v ∈ l
    · obtain ⟨b, a2, s2, e2, f1, f2⟩ := one_ok hc a1 s1 16 (by omega) (by omega)
      cases b
      · obtain ⟨r, a', s', he, k1, k2, k3, k4⟩ := ih (n - 1) l a2 s2 (by omega) (by omega) (by omega) (by omega) (by omega) hx
        refine ⟨r, a', s', Ev.succ ?_, by omega, by omega, by omega, k4⟩
        simp only [spec_l1Cur_names.l0, show ((n : Int) > 0) by omega, if_true, e1, Option.bind_some, hw]
        refine Ev.bnd (l22In_ev l v (by omega)) (Ev.pos (decide_eq_true c1) ?_)
        simp only [e2, Option.bind_some, Bool.false_eq_true, if_false]
        exact he
      · obtain ⟨r, a', s', he, k1, k2, k3, k4⟩ := ih (n - 1) (l ++ [v]) a2 s2 (by omega) (by omega) (by omega) (by simp; omega) (by omega) hin
        refine ⟨r, a', s', Ev.succ ?_, by omega, by omega, by simp at k3; omega, k4⟩
        simp only [spec_l1Cur_names.l0, show ((n : Int) > 0) by omega, if_true, e1, Option.bind_some, hw, hlen]
        refine Ev.bnd (l22In_ev l v (by omega)) (Ev.pos (decide_eq_true c1) ?_)
        simp only [e2, Option.bind_some, if_true]
        exact he
    · obtain ⟨r, a', s', he, k1, k2, k3, k4⟩ := ih (n - 1) (l ++ [v]) a1 s1 (by omega) (by omega) (by omega) (by simp; omega) (by omega) hin
      refine ⟨r, a', s', Ev.succ ?_, by omega, by omega, by simp at k3; omega, k4⟩
      simp only [spec_l1Cur_names.l0, show ((n : Int) > 0) by omega, if_true, e1, Option.bind_some, hw, hlen]
      exact Ev.bnd (l22In_ev l v (by omega)) (Ev.neg (by simpa using c1) he)
theorem names_ok {c : List Int} (hc : Code c) (a s : Int) (h0 : 0 ≤ a) (h1 : a ≤ 4611686018427370000) : ∃ r a' s', Ev (fun k => spec_l1Cur_names.f k c a s) (r, a', s') ∧ a ≤ a' ∧ a' ≤ a + 30 ∧ r.length ≤ 20 ∧ ∀ x ∈ r, x.size ≤ 60 := by
  obtain ⟨v, a1, s1, e1, g1, g2, g3, g4, _⟩ := pick_ok hc a s 4 h0 (by omega)
  have := g4 (by omega)
  obtain ⟨r, a', s', he, k1, k2, k3, k4⟩ := names_l0 hc v.toNat v.toNat [] a1 s1 rfl (by omega) (by omega) (by simp; omega) (by omega) (by intro x hx; cases hx)
  refine ⟨r, a', s', ?_, by omega, by omega, by simp at k3; omega, k4⟩
  unfold spec_l1Cur_names.f
  simp only [e1, Option.bind_some]
  rwa [Int.toNat_of_nonneg g3] at he
theorem wish_ok {c : List Int} (hc : Code c) (a s : Int) (h0 : 0 ≤ a) (h1 : a ≤ 4611686018427360000) : ∃ r q a' s', Ev (fun k => spec_l1Cur_wish.f k c a s) (r, q, a', s') ∧ SmallW r q ∧ a ≤ a' ∧ a' ≤ a + 60 := by
  obtain ⟨r, a1, s1, e1, g1, g2, g3, g4⟩ := names_ok hc a s h0 (by omega)
  obtain ⟨q, a2, s2, e2, f1, f2, f3, f4⟩ := names_ok hc a1 s1 (by omega) (by omega)
  refine ⟨r, q, a2, s2, ?_, ⟨by omega, fun x hx => by have := g4 x hx; omega, by omega, fun x hx => by have := f4 x hx; omega⟩, by omega, by omega⟩
  unfold spec_l1Cur_wish.f
  exact Ev.bnd e1 (Ev.bnd e2 (Ev.some rfl))
theorem drawWrite_ok {c : List Int} (hc : Code c) : ∃ r q, Ev (fun k => spec_DrawWriteWish.f k c) (r, q) ∧ SmallW r q := by
  obtain ⟨r, q, a, s, e, h, _⟩ := wish_ok hc 0 0 (by omega) (by omega)
  exact ⟨r, q, Ev.bnd e (Ev.some rfl), h⟩
theorem ext_size (t : ByteArray) (i j : Nat) (hij : i ≤ j) (hj : j ≤ t.size) : (t.extract i j).size = j - i := by rw [ByteArray.size_extract]; omega
abbrev lettersB : ByteArray := ⟨#[32, 114, 101, 97, 99, 104, 118, 111, 105, 100, 195, 188, 255, 49]⟩
theorem one_size (b : Int) : (strOfNums [b]).size = 1 := rfl
theorem spoilt_l0 {c : List Int} (hc : Code c) (d : Nat) : ∀ (t : ByteArray) (a s : Int), 0 ≤ a → a + 6 * d ≤ 4611686018427380000 → t.size + d ≤ 1000 →
    ∃ r a' s', Ev (fun k => spec_l1Cur_spoilt.l0 k t lettersB (d : Int) c a s) (r, a', s') ∧ r.size ≤ t.size + d := by
  induction d with
  | zero =>
    intro t a s h0 h1 h2
    refine ⟨t, a, s, Ev.succ ?_, by omega⟩
    simp only [spec_l1Cur_spoilt.l0]
    exact Ev.neg (by decide) (Ev.succ (by simp only [spec_l1Cur_spoilt.j1]; exact Ev.neg (by decide) (Ev.some rfl)))
  | succ d ih =>
    intro t a s h0 h1 h2
    have hl : ((lettersB.size : Nat) : Int) = 14 := rfl
    have hw : wrap64 (((d + 1 : Nat) : Int) - 1) = (d : Int) := by rw [wrap64_id (by omega) (by omega)]; omega
    by_cases c0 : (t.size : Int) > 0
    · obtain ⟨v1, a1, s1, e1, p1, p2, p3, p4, p5⟩ := pick_ok hc a s (t.size : Int) h0 (by omega)
      have hv1 : v1 < (t.size : Int) := by
        by_cases h : (1 : Int) < t.size
        · exact p4 h
        · have := p5 (by omega)
          omega
      obtain ⟨v2, a2, s2, e2, q1, q2, q3, q4, _⟩ := pick_ok hc a1 s1 ((lettersB.size : Nat) : Int) (by omega) (by omega)
      have hv2 : v2 < ((lettersB.size : Nat) : Int) := q4 (by omega)
      obtain ⟨v3, a3, s3, e3, r1, r2, r3, r4, _⟩ := pick_ok hc a2 s2 3 (by omega) (by omega)
      have hz1 : (t.extract 0 v1.toNat).size = v1.toNat := by rw [ext_size t 0 v1.toNat (by omega) (by omega)]; omega
      have hz2 : (t.extract v1.toNat t.size).size = t.size - v1.toNat := ext_size t v1.toNat t.size (by omega) (Nat.le_refl _)
      have hw1 : wrap64 (v1 + 1) = v1 + 1 := wrap64_id (by omega) (by omega)
      have hz3 : (t.extract (v1 + 1).toNat t.size).size = t.size - (v1.toNat + 1) := by rw [ext_size t (v1 + 1).toNat t.size (by omega) (Nat.le_refl _)]; omega
      have fin (u : ByteArray) (hu : u.size ≤ t.size + 1) : ∃ r a' s', Ev (fun k => spec_l1Cur_spoilt.l0 k u lettersB (wrap64 (((d + 1 : Nat) : Int) - 1)) c a3 s3) (r, a', s') ∧ r.size ≤ t.size + (d + 1) := by
        rw [hw]
        obtain ⟨r, a', s', h, hr⟩ := ih u a3 s3 (by omega) (by omega) (by omega)
        exact ⟨r, a', s', h, by omega⟩
      have hb : (strOfNums [bt lettersB v2]).size = 1 := one_size _
      have start (r : ByteArray) (a' s' : Int) (h : Ev (fun k => spec_l1Cur_spoilt.j1 k t lettersB ((d + 1 : Nat) : Int) true c a s) (r, a', s')) : Ev (fun k => spec_l1Cur_spoilt.l0 k t lettersB ((d + 1 : Nat) : Int) c a s) (r, a', s') := by
        refine Ev.succ ?_
        simp only [spec_l1Cur_spoilt.l0]
        refine Ev.pos (by omega) ?_
        rw [decide_eq_true c0]
        exact h
      by_cases c1 : v3 = 0
      · obtain ⟨r, a', s', h, hr⟩ := fin (((t.extract 0 v1.toNat) ++ strOfNums [bt lettersB v2]) ++ t.extract v1.toNat t.size) (by rw [sz_app, sz_app, hz1, hz2, hb]; omega)
        refine ⟨r, a', s', start r a' s' (Ev.succ ?_), hr⟩
        simp only [spec_l1Cur_spoilt.j1]
        refine Ev.pos trivial (Ev.bnd0 e1 (Ev.bnd0 e2 (Ev.pos q3 (Ev.pos hv2 (Ev.bnd0 rfl (Ev.bnd0 e3 (Ev.pos c1 (Ev.pos p3 (Ev.pos (by omega) (Ev.pos ?_ (Ev.pos ?_ h)))))))))))
        · rw [hz1, hb]; omega
        · rw [sz_app, hz1, hz2, hb]; omega
      · by_cases c2 : v3 = 1
        · obtain ⟨r, a', s', h, hr⟩ := fin (((t.extract 0 v1.toNat) ++ strOfNums [bt lettersB v2]) ++ t.extract (v1 + 1).toNat t.size) (by rw [sz_app, sz_app, hz1, hz3, hb]; omega)
          refine ⟨r, a', s', start r a' s' (Ev.succ ?_), hr⟩
          simp only [spec_l1Cur_spoilt.j1]
          refine Ev.pos trivial (Ev.bnd0 e1 (Ev.bnd0 e2 (Ev.pos q3 (Ev.pos hv2 (Ev.bnd0 rfl (Ev.bnd0 e3 (Ev.neg c1 (Ev.pos c2 (Ev.pos p3 (Ev.pos (by omega) (Ev.pos ?_ ?_)))))))))))
          · rw [hz1, hb]; omega
          · rw [hw1]
            refine Ev.pos (by omega) (Ev.pos (by omega) (Ev.pos ?_ h))
            rw [sz_app, hz1, hz3, hb]; omega
        · obtain ⟨r, a', s', h, hr⟩ := fin ((t.extract 0 v1.toNat) ++ t.extract (v1 + 1).toNat t.size) (by rw [sz_app, hz1, hz3]; omega)
          refine ⟨r, a', s', start r a' s' (Ev.succ ?_), hr⟩
          simp only [spec_l1Cur_spoilt.j1]
          refine Ev.pos trivial (Ev.bnd0 e1 (Ev.bnd0 e2 (Ev.pos q3 (Ev.pos hv2 (Ev.bnd0 rfl (Ev.bnd0 e3 (Ev.neg c1 (Ev.neg c2 (Ev.pos p3 (Ev.pos (by omega) ?_))))))))))
          rw [hw1]
          refine Ev.pos (by omega) (Ev.pos (by omega) (Ev.pos ?_ h))
          rw [hz1, hz3]; omega
    · refine ⟨t, a, s, Ev.succ ?_, by omega⟩
      simp only [spec_l1Cur_spoilt.l0]
      refine Ev.pos (by omega) ?_
      rw [decide_eq_false c0]
      exact Ev.succ (by simp only [spec_l1Cur_spoilt.j1]; exact Ev.neg (by decide) (Ev.some rfl))
theorem spoilt_ok {c : List Int} (hc : Code c) (t : ByteArray) (a s : Int) (h0 : 0 ≤ a) (h1 : a ≤ 1000) (ht : t.size ≤ 500) : ∃ r a' s', Ev (fun k => spec_l1Cur_spoilt.f k c a s t lettersB) (r, a', s') ∧ r.size ≤ 1000 := by
  obtain ⟨v, a1, s1, e1, p1, p2, p3, p4, _⟩ := pick_ok hc a s 3 h0 (by omega)
  have hv := p4 (by omega)
  obtain ⟨r, a', s', h, hr⟩ := spoilt_l0 hc v.toNat t a1 s1 (by omega) (by omega) (by omega)
  rw [Int.toNat_of_nonneg p3] at h
  unfold spec_l1Cur_spoilt.f
  exact ⟨r, a', s', Ev.bnd0 e1 h, by omega⟩
theorem pad_l0 (n : Nat) (hn : n ≤ 1000) (d : Nat) : ∀ t : ByteArray, t.size ≤ 1000 → n - t.size = d → ∃ r, Ev (fun k => spec_DrawReadWish.l0 k t (n : Int)) r ∧ r.size ≤ 1000 := by
  induction d with
  | zero =>
    intro t ht hd
    refine ⟨t, Ev.succ ?_, ht⟩
    simp only [spec_DrawReadWish.l0]
    exact Ev.neg (by omega) (Ev.some rfl)
  | succ d ih =>
    intro t ht hd
    have e : (t ++ (⟨#[32]⟩ : ByteArray)).size = t.size + 1 := by rw [sz_app]; rfl
    obtain ⟨r, h, hr⟩ := ih (t ++ (⟨#[32]⟩ : ByteArray)) (by omega) (by omega)
    refine ⟨r, Ev.succ ?_, hr⟩
    simp only [spec_DrawReadWish.l0]
    exact Ev.pos (by omega) (Ev.pos (by omega) h)
theorem drawRead_ok {c : List Int} (hc : Code c) : ∃ t, Ev (fun k => spec_DrawReadWish.f k c) t ∧ t.size ≤ 1000 := by
  obtain ⟨r, q, a, s, e, hs, h0, h1⟩ := wish_ok hc 0 0 (by omega) (by omega)
  have hw := write_spec hs
  have hz := wrV_size r q
  generalize wrV r q = v at hw hz
  obtain ⟨v1, a1, s1, e1, p1, p2, p3, _⟩ := pick_ok hc a s 8 h0 (by omega)
  unfold spec_DrawReadWish.f
  by_cases c0 : v1 = 0
  · obtain ⟨t, a', s', h, hr⟩ := spoilt_ok hc v.1 a1 s1 (by omega) (by omega) (by omega)
    exact ⟨t, Ev.bnd e (Ev.bnd hw (Ev.bnd0 e1 (Ev.pos c0 (Ev.bnd h (Ev.some rfl))))), by omega⟩
  · by_cases c1 : v1 = 1
    · have hof (L : List ByteArray) (hL : 0 < L.length) (hall : L.all (fun x => decide (x.size ≤ 60)) = true) : ∃ t a' s', spec_l1Cur_of.f c a1 s1 L = some (t, a', s') ∧ t.size ≤ 60 := by
        obtain ⟨t, a', s', h, _, _, hm⟩ := of_ok hc a1 s1 L hL (by omega) (by omega)
        exact ⟨t, a', s', h, of_decide_eq_true (List.all_eq_true.1 hall _ hm)⟩
      obtain ⟨t, a', s', h, hr⟩ := hof ([(⟨#[114, 101, 97, 99, 104]⟩ : ByteArray), (⟨#[97, 118, 111, 105, 100]⟩ : ByteArray), (⟨#[114, 101, 97, 99, 104, 32, 97, 118, 111, 105, 100, 32, 97]⟩ : ByteArray), (⟨#[97, 118, 111, 105, 100, 32, 97, 32, 114, 101, 97, 99, 104, 32, 98]⟩ : ByteArray), (⟨#[114, 101, 97, 99, 104, 32, 97, 32, 114, 101, 97, 99, 104, 32, 98]⟩ : ByteArray), (⟨#[97]⟩ : ByteArray), (⟨#[32, 32, 114, 101, 97, 99, 104, 32, 32, 32, 97, 32, 32]⟩ : ByteArray), (⟨#[114, 101, 97, 99, 104, 32, 97, 32, 97]⟩ : ByteArray), (⟨#[114, 101, 97, 99, 104, 32, 97, 32, 97, 118, 111, 105, 100]⟩ : ByteArray), (⟨#[114, 101, 97, 99, 104, 32, 97, 32, 97, 118, 111, 105, 100, 32, 97]⟩ : ByteArray), (⟨#[97, 118, 111, 105, 100, 32, 98, 32, 97, 118, 111, 105, 100, 32, 99]⟩ : ByteArray), (⟨#[114, 101, 97, 99, 104, 32, 97, 32, 98, 32, 99, 32, 100, 32, 101, 32, 102, 32, 103]⟩ : ByteArray), (⟨#[114, 101, 97, 99, 104, 32, 97, 98, 99, 100, 101, 102, 103, 104, 105, 106, 107, 108, 109]⟩ : ByteArray), (⟨#[114, 101, 97, 99, 104, 32, 206]⟩ : ByteArray), (⟨#[114, 101, 97, 99, 104, 32, 97, 49]⟩ : ByteArray), (⟨#[114, 101, 97, 99, 104, 32, 237, 160, 128]⟩ : ByteArray), (⟨#[114, 101, 97, 99, 104, 32, 97, 32, 97, 118, 111, 105, 100, 32, 244, 143, 191, 191]⟩ : ByteArray)] : List ByteArray) (by decide) (by decide)
      exact ⟨t, Ev.bnd e (Ev.bnd hw (Ev.bnd0 e1 (Ev.neg c0 (Ev.pos c1 (Ev.bnd0 h (Ev.some rfl)))))), by omega⟩
    · by_cases c2 : v1 = 2
      · obtain ⟨v2, a2, s2, e2, q1, q2, q3, q4, _⟩ := pick_ok hc a1 s1 3 (by omega) (by omega)
        have hv := q4 (by omega)
        obtain ⟨t, h, hr⟩ := pad_l0 (199 + v2.toNat) (by omega) _ v.1 (by omega) rfl
        have hn : wrap64 (199 + v2) = ((199 + v2.toNat : Nat) : Int) := by rw [wrap64_id (by omega) (by omega)]; omega
        exact ⟨t, Ev.bnd e (Ev.bnd hw (Ev.bnd0 e1 (Ev.neg c0 (Ev.neg c1 (Ev.pos c2 (Ev.bnd0 e2 (by rw [hn]; exact h))))))), hr⟩
      · exact ⟨v.1, Ev.bnd e (Ev.bnd hw (Ev.bnd0 e1 (Ev.neg c0 (Ev.neg c1 (Ev.neg c2 (Ev.some rfl)))))), by omega⟩
end Go.Proofs.YtdihodboopeakaaDoor.Pure
/- THE LAW FnWish, as a statement over numbers and lists: proved here. No condition. -/
namespace Go.Proofs.YtdihodboopeakaaDoor.Pure
open Go.RowKit Go.Proofs.YtdihodboopeakaaDoorW.PrintWords Go.Proofs.YtdihodboopeakaaDoorW.PrintLast Go.Proofs.YtdihodboopeakaaDoor.Pr Go.Proofs.YtdihodboopeakaaDoor.EvKit
open Classical
set_option linter.unusedVariables false
theorem sameList_l0 (l : List ByteArray) (hl : l.length ≤ 1048576) (d : Nat) : ∀ i : Nat, i + d = l.length → Ev (fun k => spec_l7SameList.l0 k l l l.length i) true := by
  induction d with
  | zero =>
    intro i hi
    apply Ev.succ
    simp only [spec_l7SameList.l0, show ¬ ((i : Int) < (l.length : Int)) by omega, if_false]
    exact Ev.some rfl
  | succ d ih =>
    intro i hi
    apply Ev.succ
    simp only [spec_l7SameList.l0, show ((i : Int) < (l.length : Int)) by omega, show (0 : Int) ≤ (i : Int) by omega, if_true, succ_w2 i (by omega)]
    exact ih (i + 1) (by omega)
theorem sameTexts_ev (l : List ByteArray) (hl : l.length ≤ 1048576) : Ev (fun k => spec_SameTexts.f k l l) true := by
  unfold spec_SameTexts.f
  refine Ev.bnd (r := true) ?_ (Ev.some rfl)
  unfold spec_l7SameList.f
  exact Ev.pos rfl (sameList_l0 l hl l.length 0 (by omega))
theorem read_eq (t : ByteArray) (h : t.size ≤ 1048576) : impl_ReadWish.f t = some (readOf t) := if_pos h
theorem tot_mem {x : ByteArray} {l : List ByteArray} (h : x ∈ l) : x.size + 1 ≤ tot l := by
  induction l with
  | nil => cases h
  | cons y r ih =>
    have e : tot (y :: r) = (y.size + 1) + tot r := by unfold tot; rw [List.map_cons, List.sum_cons]
    rcases List.mem_cons.1 h with rfl | h
    · omega
    · have := ih h
      omega
theorem small_of {R A : List ByteArray} (h : WishOk R A) (hs : (jB (wsOf R A)).size ≤ 200) : SmallW R A := by
  have ht : tot (wsOf R A) ≤ 201 := by
    generalize wsOf R A = ws at hs
    cases ws with
    | nil => exact Nat.zero_le _
    | cons x l => have := jB_tot x l; omega
  have e : tot (wsOf R A) = tot (if R = [] then [] else rB :: R) + tot (if A = [] then [] else aB :: A) := tot_app _ _
  refine ⟨by have := h.1.1; omega, fun x hx => ?_, by have := h.2.1; omega, fun x hx => ?_⟩
  · have hm : x ∈ (if R = [] then [] else rB :: R) := by
      rw [if_neg (fun e => by rw [e] at hx; cases hx)]
      exact List.mem_cons_of_mem _ hx
    have := tot_mem hm
    omega
  · have hm : x ∈ (if A = [] then [] else aB :: A) := by
      rw [if_neg (fun e => by rw [e] at hx; cases hx)]
      exact List.mem_cons_of_mem _ hx
    have := tot_mem hm
    omega
theorem wish_j1 (m : List Int) (hm : Code m) : Ev (fun k => laws_FnWish.j1 k m false) true := by
  obtain ⟨t, ht, hz⟩ := drawRead_ok hm
  refine Ev.succ ?_
  simp only [laws_FnWish.j1]
  refine Ev.neg (by decide) (Ev.bnd ht (Ev.bnd0 (read_eq t (by omega)) ?_))
  by_cases c : (readOf t).2.2.1 = 0
  · obtain ⟨h1, h2, h3⟩ := read_good t c
    have hs := small_of h1 h3
    have hw := write_impl hs
    rw [wrV_is h1 h2 h3] at hw
    have hr := read_write _ _ h1 h2 h3
    have g1 := h1.1.1
    have g2 := h1.2.1
    refine Ev.pos c (Ev.bnd hw (Ev.bnd0 (read_eq _ (by show (jB _).size ≤ _; omega)) ?_))
    show Ev (fun k => if (true : Bool) = true then _ else _) true
    refine Ev.pos rfl ?_
    rw [hr]
    exact Ev.pos rfl (Ev.bnd (sameTexts_ev (readOf t).1 (by omega)) (Ev.pos rfl (Ev.bnd (sameTexts_ev (readOf t).2.1 (by omega)) (Ev.some rfl))))
  · obtain ⟨h1, h2⟩ := read_bad t c
    refine Ev.neg c (Ev.pos (by rw [h1]; rfl) (Ev.some (by rw [h2]; rfl)))
theorem FnWish : ∀ (l0 : List Int) (l1 : List Int), (l0.length ≤ maxLen ∧ l0.length * 1 ≤ 140737488351232 ∧ ∀ y0 ∈ l0, (Lit.int .u8 y0).wf = true) → (l1.length ≤ maxLen ∧ l1.length * 1 ≤ 140737488351232 ∧ ∀ y0 ∈ l1, (Lit.int .u8 y0).wf = true) → ∃ k, laws_FnWish.f k l0 l1 = some true := by
  rintro c m ⟨_, _, q0⟩ ⟨_, _, q1⟩
  apply Ev.rounds
  simp only [laws_FnWish.f]
  have yes (x : Bool) (hx : x = true) : Ev (fun k => laws_FnWish.j0 k c m x) true := by
    subst hx
    apply Ev.succ
    simp only [laws_FnWish.j0, if_true]
    exact Ev.some rfl
  by_cases c0 : (c.length : Int) > 1048576
  · exact Ev.pos c0 (yes true rfl)
  · refine Ev.neg c0 ?_
    by_cases c1 : (m.length : Int) > 1048576
    · exact yes _ (decide_eq_true c1)
    · rw [decide_eq_false c1]
      have hc : Code c := ⟨by omega, fun y hy => by
        have := q0 y hy
        simp [Lit.wf, IntKind.min, IntKind.max, IntKind.bits, IntKind.signed] at this
        omega⟩
      have hm : Code m := ⟨by omega, fun y hy => by
        have := q1 y hy
        simp [Lit.wf, IntKind.min, IntKind.max, IntKind.bits, IntKind.signed] at this
        omega⟩
      obtain ⟨r, q, hd, hs⟩ := drawWrite_ok hc
      have hi := write_impl hs
      have hsp := write_spec hs
      refine Ev.succ ?_
      simp only [laws_FnWish.j0]
      refine Ev.neg (by decide) (Ev.bnd hd (Ev.bnd hi (Ev.bnd hsp (Ev.neg (by simp) (Ev.bnd0 (read_eq _ (by have := wrV_size r q; omega)) ?_)))))
      have hj := wish_j1 m hm
      by_cases ok : (wrV r q).2 = true
      · obtain ⟨h1, h2, h3, h4⟩ := wrV_ok ok
        have hr := read_write r q h1 h2 h3
        rw [h4, hr]
        have g1 := h1.1.1
        have g2 := h1.2.1
        exact Ev.pos ok (Ev.pos rfl (Ev.bnd (sameTexts_ev r (by omega)) (Ev.pos rfl (Ev.bnd (sameTexts_ev q (by omega)) hj))))
      · exact Ev.neg ok hj
end Go.Proofs.YtdihodboopeakaaDoor.Pure
