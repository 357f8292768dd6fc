/-
Own text: stuffing of bits, as a plain function on lists; and what is taken out again. No program in it.
-/
import Derived.Test.YtbdonoeellmeoaaDoorWWords
namespace Go.Proofs.YtbdonoeellmeoaaDoor.Pure

/-- What is told behind (last, run): the list with the other bit behind each fifth alike. -/
def stf : Int → Int → List Int → List Int
  | _, _, [] => []
  | last, run, c :: cs => if (if c = last then run + 1 else 1) = 5 then c :: (97 - c) % 256 :: stf ((97 - c) % 256) 1 cs else c :: stf c (if c = last then run + 1 else 1) cs
/-- The same with what is owed told first. -/
def stf' (last run : Int) (l : List Int) : List Int := if run = 5 then (97 - last) % 256 :: stf ((97 - last) % 256) 1 l else stf last run l
/-- What is left when the bits that were put in are taken out. -/
def uns : Int → Int → List Int → List Int
  | _, _, [] => []
  | last, run, c :: cs => if run = 5 then uns c 1 cs else c :: uns c (if c = last then run + 1 else 1) cs
/-- Was each that is taken out rightly put in? -/
def unsOk : Int → Int → List Int → Bool
  | _, run, [] => decide (run ≠ 5)
  | last, run, c :: cs => if run = 5 then decide (c ≠ last) && unsOk c 1 cs else unsOk c (if c = last then run + 1 else 1) cs
def bit01 (c : Int) : Prop := c = 48 ∨ c = 49
theorem stf'_uns (l : List Int) : ∀ last run : Int, (∀ c ∈ l, bit01 c) → (run = 5 → bit01 last) → (stf' last run (uns last run l) = l ↔ unsOk last run l = true) := by
  induction l with
  | nil =>
    intro last run _ _
    by_cases h : run = 5
    · subst h
      simp [stf', uns, unsOk]
    · simp [stf', uns, unsOk, h, stf]
  | cons c cs ih =>
    intro last run hl h5
    have hc : bit01 c := hl c (by simp)
    have hcs : ∀ c ∈ cs, bit01 c := fun x hx => hl x (by simp [hx])
    by_cases h : run = 5
    · subst h
      have hlast := h5 rfl
      have e1 : uns last 5 (c :: cs) = uns c 1 cs := by simp [uns]
      have e2 : unsOk last 5 (c :: cs) = (decide (c ≠ last) && unsOk c 1 cs) := by simp [unsOk]
      rw [e1, e2]
      have i1 := ih c 1 hcs (fun h => absurd h (by decide))
      have e3 : stf' last 5 (uns c 1 cs) = (97 - last) % 256 :: stf ((97 - last) % 256) 1 (uns c 1 cs) := by simp [stf']
      have e4 : stf' c 1 (uns c 1 cs) = stf c 1 (uns c 1 cs) := by simp [stf']
      rw [e3]
      rw [e4] at i1
      by_cases hcl : c = last
      · subst hcl
        have : ¬ ((97 - c) % 256 = c) := by
          rcases hc with rfl | rfl <;> decide
        simp [this]
      · have : (97 - last) % 256 = c := by
          rcases hc with rfl | rfl <;> rcases hlast with rfl | rfl <;> simp_all
        rw [this]
        simp [hcl, i1]
    · have e1 : uns last run (c :: cs) = c :: uns c (if c = last then run + 1 else 1) cs := by simp [uns, h]
      have e2 : unsOk last run (c :: cs) = unsOk c (if c = last then run + 1 else 1) cs := by simp [unsOk, h]
      rw [e1, e2]
      have i1 := ih c (if c = last then run + 1 else 1) hcs (fun _ => hc)
      rw [← i1]
      have e3 : ∀ X, stf' last run (c :: X) = c :: stf' c (if c = last then run + 1 else 1) X := by
        intro X
        unfold stf'
        rw [if_neg h]
        generalize hr : (if c = last then run + 1 else 1) = r
        simp only [stf, hr]
        by_cases h2 : r = 5 <;> simp [h2]
      rw [e3]
      simp
theorem stf_length (l : List Int) : ∀ last run : Int, (stf last run l).length ≤ 2 * l.length := by
  induction l with
  | nil => intro _ _; simp [stf]
  | cons c cs ih =>
    intro last run
    simp only [stf]
    generalize (if c = last then run + 1 else 1) = r
    by_cases h : r = 5
    · rw [if_pos h]
      have := ih ((97 - c) % 256) 1
      simp only [List.length_cons]; omega
    · rw [if_neg h]
      have := ih c r
      simp only [List.length_cons]; omega
end Go.Proofs.YtbdonoeellmeoaaDoor.Pure
