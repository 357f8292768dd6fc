-- Joined and pruned by wip/tools/prune.py out of this session's own texts (PureRead)
import Derived.Test.YtdihodboopeakaaDoorZfh6
/-
Own text: reading a wish: the reference computes readOf.
-/
namespace Go.Proofs.YtdihodboopeakaaDoor.Pure
open Go.RowKit Go.Proofs.YtdihodboopeakaaDoorW.PrintWords Go.Proofs.YtdihodboopeakaaDoorW.PrintLast Go.Proofs.YtdihodboopeakaaDoor.Pr Go.Proofs.YtdihodboopeakaaDoor.EvKit
open Classical

theorem endFrom_le (s : ByteArray) : ∀ f k, k ≤ endFrom s f k
  | 0, k => Nat.le_refl _
  | f + 1, k => by
    unfold endFrom
    by_cases c : k < s.size
    · rw [if_pos c]
      by_cases c2 : s.get! k = 32
      · rw [if_pos c2]; exact Nat.le_refl _
      · rw [if_neg c2]; exact Nat.le_trans (Nat.le_succ k) (endFrom_le s f (k + 1))
    · rw [if_neg c]; exact Nat.le_refl _
theorem endFrom_top (s : ByteArray) : ∀ f k, k ≤ s.size → endFrom s f k ≤ s.size
  | 0, k, h => h
  | f + 1, k, h => by
    unfold endFrom
    by_cases c : k < s.size
    · rw [if_pos c]
      by_cases c2 : s.get! k = 32
      · rw [if_pos c2]; exact h
      · rw [if_neg c2]; exact endFrom_top s f (k + 1) c
    · rw [if_neg c]; exact h
theorem wordEnd_gt (s : ByteArray) (i : Nat) (h : i < s.size) (h2 : s.get! i ≠ 32) : i < wordEnd s i := by
  unfold wordEnd
  obtain ⟨d, hd⟩ : ∃ d, s.size - i = d + 1 := ⟨s.size - i - 1, by omega⟩
  rw [hd]
  unfold endFrom
  rw [if_pos h, if_neg h2]
  exact endFrom_le s d (i + 1)
theorem wordEnd_le (s : ByteArray) (i : Nat) (h : i < s.size) : wordEnd s i ≤ s.size := endFrom_top s _ i (by omega)
theorem bt_32 (s : ByteArray) (i : Nat) (h : i < s.size) : bt s (i : Int) = 32 ↔ s.get! i = 32 := by
  rw [bt_get s i h]
  constructor
  · intro e
    apply UInt8.toNat_inj.1
    show (s.get! i).toNat = 32
    omega
  · intro e; rw [e]; rfl
theorem oddFrom_lt (s : ByteArray) : ∀ f pos, oddFrom s f pos < (s.size : Int)
  | 0, _ => by unfold oddFrom; omega
  | f + 1, pos => by
    unfold oddFrom
    by_cases c : pos < s.size
    · rw [if_pos c]
      by_cases c2 : badRune (Utf8.decode s pos) = true
      · rw [if_pos c2]; omega
      · rw [if_neg c2]; exact oddFrom_lt s f _
    · rw [if_neg c]; omega
end Go.Proofs.YtdihodboopeakaaDoor.Pure
