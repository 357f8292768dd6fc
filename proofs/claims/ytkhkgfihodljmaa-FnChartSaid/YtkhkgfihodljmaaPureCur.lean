/-
Own text: the cursor that draws numbers out of a code: it always answers, within its bounds.
-/
import Derived.Test.YtkhkgfihodljmaaPrd1
import Derived.Test.YtkhkgfihodljmaaEvKit
import Derived.Laws.BitsLemmas
namespace Go.Proofs.Ytkhkgfihodljmaa.Pure
open Go.RowKit Go.Proofs.YtkhkgfihodljmaaW.PrintWords Go.Proofs.YtkhkgfihodljmaaW.PrintLast Go.Proofs.Ytkhkgfihodljmaa.Pr Go.Proofs.Ytkhkgfihodljmaa.EvKit

/-- A code: bytes, not too many. -/
def Code (c : List Int) : Prop := c.length ≤ 1048576 ∧ ∀ y ∈ c, 0 ≤ y ∧ y ≤ 255
/-- The cursor's place, no further than so many draws. -/
def AtB (at_ n : Int) : Prop := 0 ≤ at_ ∧ at_ ≤ n
theorem wrap_u64 (n : Int) : IntKind.u64.wrap n = n % 18446744073709551616 := by
  simp [IntKind.wrap, IntKind.bits, IntKind.signed]
theorem mask_in (n : Int) : 0 ≤ Go.bits .and .u64 (IntKind.u64.wrap n / 1099511627776) 255 ∧ Go.bits .and .u64 (IntKind.u64.wrap n / 1099511627776) 255 ≤ 255 := by
  have h0 : 0 ≤ IntKind.u64.wrap n / 1099511627776 ∧ IntKind.u64.wrap n / 1099511627776 < 2 ^ 32 := by
    rw [wrap_u64]
    omega
  have h := bits_mask .u64 32 (by decide) (fun m h1 h2 => by rw [wrap_u64]; omega) 8 (by decide) _ h0.1 h0.2
  rw [show ((2 : Int) ^ 8 - 1) = 255 by decide] at h
  rw [h]
  omega
theorem code_rd {c : List Int} (hc : Code c) (i : Int) : 0 ≤ rd c i ∧ rd c i ≤ 255 := by
  unfold rd
  rw [List.getD_eq_getElem?_getD]
  by_cases h : i.toNat < c.length
  · rw [List.getElem?_eq_getElem h]
    exact hc.2 _ (List.getElem_mem h)
  · rw [List.getElem?_eq_none (by omega)]
    exact ⟨by decide, by decide⟩
theorem next_ok {c : List Int} (hc : Code c) (a s : Int) (h0 : 0 ≤ a) (h1 : a ≤ 4611686018427387904) : ∃ b s', spec_l1Cur_next.f c a s = some (b, a + 1, s') ∧ 0 ≤ b ∧ b ≤ 255 := by
  unfold spec_l1Cur_next.f
  have e : wrap64 (a + 1) = a + 1 := wrap64_id (by omega) (by omega)
  have hr := code_rd hc a
  rw [e]
  by_cases h2 : a < (c.length : Int)
  · rw [if_pos h2, if_pos h0, if_pos (by omega)]
    exact ⟨_, _, rfl, by rw [wrap64_id (by omega) (by omega)]; exact hr.1, by rw [wrap64_id (by omega) (by omega)]; exact hr.2⟩
  · rw [if_neg h2, if_neg (by omega)]
    have hm := mask_in ((IntKind.u64.wrap ((IntKind.u64.wrap (s * 6364136223846793005)) + 0)) + 1442695040888963407)
    exact ⟨_, _, rfl, by rw [wrap64_id (by omega) (by omega)]; exact hm.1, by rw [wrap64_id (by omega) (by omega)]; exact hm.2⟩
theorem tmod_in (x n : Int) (hx : 0 ≤ x) (hn : 0 < n) : 0 ≤ x.tmod n ∧ x.tmod n < n := by
  rw [Int.tmod_eq_emod_of_nonneg hx]
  exact ⟨Int.emod_nonneg _ (by omega), Int.emod_lt_of_pos _ hn⟩
theorem pick_ok {c : List Int} (hc : Code c) (a s n : Int) (h0 : 0 ≤ a) (h1 : a ≤ 4611686018427387000) : ∃ v a' s', spec_l1Cur_pick.f c a s n = some (v, a', s') ∧ a ≤ a' ∧ a' ≤ a + 2 ∧ 0 ≤ v ∧ (1 < n → v < n) ∧ (n ≤ 1 → v = 0) := by
  unfold spec_l1Cur_pick.f
  by_cases hn : n ≤ 1
  · rw [if_pos hn]
    exact ⟨0, a, s, rfl, by omega, by omega, by omega, by omega, fun _ => rfl⟩
  · rw [if_neg hn]
    obtain ⟨b, s1, e1, b0, b1⟩ := next_ok hc a s h0 (by omega)
    rw [e1]
    simp only [Option.bind_some]
    by_cases h2 : n > 200
    · rw [if_pos h2]
      obtain ⟨b2, s2, e2, b20, b21⟩ := next_ok hc (a + 1) s1 (by omega) (by omega)
      rw [e2]
      simp only [Option.bind_some]
      rw [if_neg (by omega), wrap64_id (x := b * 256) (by omega) (by omega), wrap64_id (x := b * 256 + b2) (by omega) (by omega)]
      have := tmod_in (b * 256 + b2) n (by omega) (by omega)
      exact ⟨_, _, _, rfl, by omega, by omega, this.1, fun _ => this.2, fun h => by omega⟩
    · rw [if_neg h2, if_neg (by omega)]
      have := tmod_in b n b0 (by omega)
      exact ⟨_, _, _, rfl, by omega, by omega, this.1, fun _ => this.2, fun h => by omega⟩
theorem one_ok {c : List Int} (hc : Code c) (a s n : Int) (h0 : 0 ≤ a) (h1 : a ≤ 4611686018427387000) : ∃ b a' s', spec_l1Cur_one.f c a s n = some (b, a', s') ∧ a ≤ a' ∧ a' ≤ a + 2 := by
  obtain ⟨v, a', s', e, h2, h3, _⟩ := pick_ok hc a s n h0 h1
  unfold spec_l1Cur_one.f
  rw [e]
  exact ⟨_, _, _, rfl, h2, h3⟩
theorem among_ok {c : List Int} (hc : Code c) (a s : Int) (l : List Int) (hl : 0 < l.length) (h0 : 0 ≤ a) (h1 : a ≤ 4611686018427387000) : ∃ v a' s', spec_l1Cur_among.f c a s l = some (v, a', s') ∧ a ≤ a' ∧ a' ≤ a + 2 ∧ v ∈ l := by
  obtain ⟨v, a', s', e, h2, h3, h4, h5, h6⟩ := pick_ok hc a s (l.length : Int) h0 h1
  have hv : v < (l.length : Int) := by
    by_cases h : (1 : Int) < l.length
    · exact h5 h
    · have := h6 (by omega)
      omega
  unfold spec_l1Cur_among.f
  rw [e]
  simp only [Option.bind_some]
  rw [if_pos h4, if_pos hv]
  refine ⟨_, _, _, rfl, h2, h3, ?_⟩
  unfold rd
  exact getD_mem l _ _ (by omega)
end Go.Proofs.Ytkhkgfihodljmaa.Pure
