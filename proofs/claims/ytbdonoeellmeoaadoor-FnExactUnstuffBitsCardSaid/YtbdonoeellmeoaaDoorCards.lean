/-
  DERIVED. GIVEN WITH THE SEED: THE CARDS: each row of YtbdonoeellmeoaaDoorRows.lean that lists a variable, with what it lists TIED to the program's text (the seventh form; the later family's looks); each row that meets fmt, with fmt's text TOLD by the authors' own Lean function (tested against real Go, not proved from fmt's source: count such statements apart). THE CARD IS WHAT COUNTS. Prove the row's statement (the work); the ties are given (YtbdonoeellmeoaaDoorTie.lean); close each card by the builder's one call (the guide's Derived/Test/ToyasCard.lean, 'card_holds'). Laid BY PROGRAM, IN A SANDBOX (cutbox-door.mjs). By AI agents, Wed Nov 11 2026. No macro, syntax, notation, axiom, sorry.
-/
import Derived.Test.YtbdonoeellmeoaaDoorRows
import GoSem.ClaimSeven
namespace Go.Proofs.YtbdonoeellmeoaaDoor
namespace Rows

/-- THE TIED CARD OF 'laws.FnExactCrc15'. -/
def fnExactCrc15Card : Claim7 := { stood := { row := fnExactCrc15Row, standIns := [], harness := (true, "1f38d41f611c7c248c248d8e1544424025dde34a81a709fc0ca358de0856da2e"), looks := false }, kinds := [], alts := [], laidByText := true, laidKinds := [.data, .pinned], laidTests := true, laidLooks := .later }
def FnExactCrc15CardSaid : Prop := Claim7.holds Tryd.pinned (.plain (OpenSpec.ofChange fnExactCrc15Spec)) fnExactCrc15Card

/-- THE TIED CARD OF 'laws.FnExactStuffBits'. -/
def fnExactStuffBitsCard : Claim7 := { stood := { row := fnExactStuffBitsRow, standIns := [], harness := (true, "1f38d41f611c7c248c248d8e1544424025dde34a81a709fc0ca358de0856da2e"), looks := false }, kinds := [], alts := [], laidByText := true, laidKinds := [.data, .pinned], laidTests := true, laidLooks := .later }
def FnExactStuffBitsCardSaid : Prop := Claim7.holds Tryd.pinned (.plain (OpenSpec.ofChange fnExactStuffBitsSpec)) fnExactStuffBitsCard

/-- THE TIED CARD OF 'laws.FnExactUnstuffBits'. -/
def fnExactUnstuffBitsCard : Claim7 := { stood := { row := fnExactUnstuffBitsRow, standIns := [], harness := (true, "1f38d41f611c7c248c248d8e1544424025dde34a81a709fc0ca358de0856da2e"), looks := false }, kinds := [], alts := [], laidByText := true, laidKinds := [.data, .pinned], laidTests := true, laidLooks := .later }
def FnExactUnstuffBitsCardSaid : Prop := Claim7.holds Tryd.pinned (.plain (OpenSpec.ofChange fnExactUnstuffBitsSpec)) fnExactUnstuffBitsCard

/-- THE SECOND FORM's CARD OF 'laws.FnExactCrc15'. -/
def fnExactCrc15UptoCard : Claim7 := { stood := { row := fnExactCrc15UptoRow, standIns := [], harness := (true, "1f38d41f611c7c248c248d8e1544424025dde34a81a709fc0ca358de0856da2e"), looks := false }, kinds := [], alts := [], laidByText := true, laidKinds := [.data, .pinned], laidTests := true, laidLooks := .later }
def FnExactCrc15UptoCardSaid : Prop := Claim7.holds Tryd.pinned (.plain (OpenSpec.upto fnExactCrc15Spec)) fnExactCrc15UptoCard

/-- THE SECOND FORM's CARD OF 'laws.FnExactStuffBits'. -/
def fnExactStuffBitsUptoCard : Claim7 := { stood := { row := fnExactStuffBitsUptoRow, standIns := [], harness := (true, "1f38d41f611c7c248c248d8e1544424025dde34a81a709fc0ca358de0856da2e"), looks := false }, kinds := [], alts := [], laidByText := true, laidKinds := [.data, .pinned], laidTests := true, laidLooks := .later }
def FnExactStuffBitsUptoCardSaid : Prop := Claim7.holds Tryd.pinned (.plain (OpenSpec.upto fnExactStuffBitsSpec)) fnExactStuffBitsUptoCard

/-- THE SECOND FORM's CARD OF 'laws.FnExactUnstuffBits'. -/
def fnExactUnstuffBitsUptoCard : Claim7 := { stood := { row := fnExactUnstuffBitsUptoRow, standIns := [], harness := (true, "1f38d41f611c7c248c248d8e1544424025dde34a81a709fc0ca358de0856da2e"), looks := false }, kinds := [], alts := [], laidByText := true, laidKinds := [.data, .pinned], laidTests := true, laidLooks := .later }
def FnExactUnstuffBitsUptoCardSaid : Prop := Claim7.holds Tryd.pinned (.plain (OpenSpec.upto fnExactUnstuffBitsSpec)) fnExactUnstuffBitsUptoCard
end Rows
end Go.Proofs.YtbdonoeellmeoaaDoor
