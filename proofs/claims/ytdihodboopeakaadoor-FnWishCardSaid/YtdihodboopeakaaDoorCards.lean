/-
  DERIVED. GIVEN WITH THE SEED: THE CARDS: each row of YtdihodboopeakaaDoorRows.lean that lists a variable, with what it lists TIED to the program's text (the seventh form; the later family's looks); each row that meets fmt, with fmt's text TOLD by the authors' own Lean function (tested against real Go, not proved from fmt's source: count such statements apart). THE CARD IS WHAT COUNTS. Prove the row's statement (the work); the ties are given (YtdihodboopeakaaDoorTie.lean); close each card by the builder's one call (the guide's Derived/Test/ToyasCard.lean, 'card_holds'). Laid BY PROGRAM, IN A SANDBOX (cutbox-door.mjs). By AI agents, Wed Nov 11 2026. No macro, syntax, notation, axiom, sorry.
-/
import Derived.Test.YtdihodboopeakaaDoorRows
import GoSem.ClaimSeven
namespace Go.Proofs.YtdihodboopeakaaDoor
namespace Rows

/-- THE TIED CARD OF 'laws.FnExactWinningPlaces'. -/
def fnExactWinningPlacesCard : Claim7 := { stood := { row := fnExactWinningPlacesRow, standIns := [], harness := (true, "6066e12998bdf1df9d95be0b75b088ec13e8af435f8e4675962bad28dcb65d31"), looks := false }, kinds := [], alts := [], laidByText := true, laidKinds := [.data, .pinned], laidTests := true, laidLooks := .later }
def FnExactWinningPlacesCardSaid : Prop := Claim7.holds Tryd.pinned (.plain (OpenSpec.ofChange fnExactWinningPlacesSpec)) fnExactWinningPlacesCard

/-- THE TIED CARD OF 'laws.FnExactStrategy'. -/
def fnExactStrategyCard : Claim7 := { stood := { row := fnExactStrategyRow, standIns := [], harness := (true, "6066e12998bdf1df9d95be0b75b088ec13e8af435f8e4675962bad28dcb65d31"), looks := false }, kinds := [], alts := [], laidByText := true, laidKinds := [.data, .pinned], laidTests := true, laidLooks := .later }
def FnExactStrategyCardSaid : Prop := Claim7.holds Tryd.pinned (.plain (OpenSpec.ofChange fnExactStrategySpec)) fnExactStrategyCard

/-- THE TIED CARD OF 'laws.FnExactGoodBoard'. -/
def fnExactGoodBoardCard : Claim7 := { stood := { row := fnExactGoodBoardRow, standIns := [], harness := (true, "6066e12998bdf1df9d95be0b75b088ec13e8af435f8e4675962bad28dcb65d31"), looks := false }, kinds := [], alts := [], laidByText := true, laidKinds := [.data, .pinned], laidTests := true, laidLooks := .later }
def FnExactGoodBoardCardSaid : Prop := Claim7.holds Tryd.pinned (.plain (OpenSpec.ofChange fnExactGoodBoardSpec)) fnExactGoodBoardCard

/-- THE TIED CARD OF 'laws.FnExactReadWish'. -/
def fnExactReadWishCard : Claim7 := { stood := { row := fnExactReadWishRow, standIns := [], harness := (true, "6066e12998bdf1df9d95be0b75b088ec13e8af435f8e4675962bad28dcb65d31"), looks := false }, kinds := [], alts := [], laidByText := true, laidKinds := [.data, .pinned], laidTests := true, laidLooks := .later }
def FnExactReadWishCardSaid : Prop := Claim7.holds Tryd.pinned (.plain (OpenSpec.ofChange fnExactReadWishSpec)) fnExactReadWishCard

/-- THE TIED CARD OF 'laws.FnExactWriteWish'. -/
def fnExactWriteWishCard : Claim7 := { stood := { row := fnExactWriteWishRow, standIns := [], harness := (true, "6066e12998bdf1df9d95be0b75b088ec13e8af435f8e4675962bad28dcb65d31"), looks := false }, kinds := [], alts := [], laidByText := true, laidKinds := [.data, .pinned], laidTests := true, laidLooks := .later }
def FnExactWriteWishCardSaid : Prop := Claim7.holds Tryd.pinned (.plain (OpenSpec.ofChange fnExactWriteWishSpec)) fnExactWriteWishCard

/-- THE TIED CARD OF 'laws.FnExactWishMet'. -/
def fnExactWishMetCard : Claim7 := { stood := { row := fnExactWishMetRow, standIns := [], harness := (true, "6066e12998bdf1df9d95be0b75b088ec13e8af435f8e4675962bad28dcb65d31"), looks := false }, kinds := [], alts := [], laidByText := true, laidKinds := [.data, .pinned], laidTests := true, laidLooks := .later }
def FnExactWishMetCardSaid : Prop := Claim7.holds Tryd.pinned (.plain (OpenSpec.ofChange fnExactWishMetSpec)) fnExactWishMetCard

/-- THE TIED CARD OF 'laws.FnExactPlayBoard'. -/
def fnExactPlayBoardCard : Claim7 := { stood := { row := fnExactPlayBoardRow, standIns := [], harness := (true, "6066e12998bdf1df9d95be0b75b088ec13e8af435f8e4675962bad28dcb65d31"), looks := false }, kinds := [], alts := [], laidByText := true, laidKinds := [.data, .pinned], laidTests := true, laidLooks := .later }
def FnExactPlayBoardCardSaid : Prop := Claim7.holds Tryd.pinned (.plain (OpenSpec.ofChange fnExactPlayBoardSpec)) fnExactPlayBoardCard

/-- THE TIED CARD OF 'laws.FnWish'. -/
def fnWishCard : Claim7 := { stood := { row := fnWishRow, standIns := [], harness := (true, "6066e12998bdf1df9d95be0b75b088ec13e8af435f8e4675962bad28dcb65d31"), looks := false }, kinds := [], alts := [], laidByText := true, laidKinds := [.data, .pinned], laidTests := true, laidLooks := .later }
def FnWishCardSaid : Prop := Claim7.holds Tryd.pinned (.plain (OpenSpec.ofChange fnWishSpec)) fnWishCard

/-- THE TIED CARD OF 'laws.FnWin'. -/
def fnWinCard : Claim7 := { stood := { row := fnWinRow, standIns := [], harness := (true, "6066e12998bdf1df9d95be0b75b088ec13e8af435f8e4675962bad28dcb65d31"), looks := false }, kinds := [], alts := [], laidByText := true, laidKinds := [.data, .pinned], laidTests := true, laidLooks := .later }
def FnWinCardSaid : Prop := Claim7.holds Tryd.pinned (.plain (OpenSpec.ofChange fnWinSpec)) fnWinCard

/-- THE SECOND FORM's CARD OF 'laws.FnExactWinningPlaces'. -/
def fnExactWinningPlacesUptoCard : Claim7 := { stood := { row := fnExactWinningPlacesUptoRow, standIns := [], harness := (true, "6066e12998bdf1df9d95be0b75b088ec13e8af435f8e4675962bad28dcb65d31"), looks := false }, kinds := [], alts := [], laidByText := true, laidKinds := [.data, .pinned], laidTests := true, laidLooks := .later }
def FnExactWinningPlacesUptoCardSaid : Prop := Claim7.holds Tryd.pinned (.plain (OpenSpec.upto fnExactWinningPlacesSpec)) fnExactWinningPlacesUptoCard

/-- THE SECOND FORM's CARD OF 'laws.FnExactStrategy'. -/
def fnExactStrategyUptoCard : Claim7 := { stood := { row := fnExactStrategyUptoRow, standIns := [], harness := (true, "6066e12998bdf1df9d95be0b75b088ec13e8af435f8e4675962bad28dcb65d31"), looks := false }, kinds := [], alts := [], laidByText := true, laidKinds := [.data, .pinned], laidTests := true, laidLooks := .later }
def FnExactStrategyUptoCardSaid : Prop := Claim7.holds Tryd.pinned (.plain (OpenSpec.upto fnExactStrategySpec)) fnExactStrategyUptoCard

/-- THE SECOND FORM's CARD OF 'laws.FnExactGoodBoard'. -/
def fnExactGoodBoardUptoCard : Claim7 := { stood := { row := fnExactGoodBoardUptoRow, standIns := [], harness := (true, "6066e12998bdf1df9d95be0b75b088ec13e8af435f8e4675962bad28dcb65d31"), looks := false }, kinds := [], alts := [], laidByText := true, laidKinds := [.data, .pinned], laidTests := true, laidLooks := .later }
def FnExactGoodBoardUptoCardSaid : Prop := Claim7.holds Tryd.pinned (.plain (OpenSpec.upto fnExactGoodBoardSpec)) fnExactGoodBoardUptoCard

/-- THE SECOND FORM's CARD OF 'laws.FnExactReadWish'. -/
def fnExactReadWishUptoCard : Claim7 := { stood := { row := fnExactReadWishUptoRow, standIns := [], harness := (true, "6066e12998bdf1df9d95be0b75b088ec13e8af435f8e4675962bad28dcb65d31"), looks := false }, kinds := [], alts := [], laidByText := true, laidKinds := [.data, .pinned], laidTests := true, laidLooks := .later }
def FnExactReadWishUptoCardSaid : Prop := Claim7.holds Tryd.pinned (.plain (OpenSpec.upto fnExactReadWishSpec)) fnExactReadWishUptoCard

/-- THE SECOND FORM's CARD OF 'laws.FnExactWriteWish'. -/
def fnExactWriteWishUptoCard : Claim7 := { stood := { row := fnExactWriteWishUptoRow, standIns := [], harness := (true, "6066e12998bdf1df9d95be0b75b088ec13e8af435f8e4675962bad28dcb65d31"), looks := false }, kinds := [], alts := [], laidByText := true, laidKinds := [.data, .pinned], laidTests := true, laidLooks := .later }
def FnExactWriteWishUptoCardSaid : Prop := Claim7.holds Tryd.pinned (.plain (OpenSpec.upto fnExactWriteWishSpec)) fnExactWriteWishUptoCard

/-- THE SECOND FORM's CARD OF 'laws.FnExactWishMet'. -/
def fnExactWishMetUptoCard : Claim7 := { stood := { row := fnExactWishMetUptoRow, standIns := [], harness := (true, "6066e12998bdf1df9d95be0b75b088ec13e8af435f8e4675962bad28dcb65d31"), looks := false }, kinds := [], alts := [], laidByText := true, laidKinds := [.data, .pinned], laidTests := true, laidLooks := .later }
def FnExactWishMetUptoCardSaid : Prop := Claim7.holds Tryd.pinned (.plain (OpenSpec.upto fnExactWishMetSpec)) fnExactWishMetUptoCard

/-- THE SECOND FORM's CARD OF 'laws.FnExactPlayBoard'. -/
def fnExactPlayBoardUptoCard : Claim7 := { stood := { row := fnExactPlayBoardUptoRow, standIns := [], harness := (true, "6066e12998bdf1df9d95be0b75b088ec13e8af435f8e4675962bad28dcb65d31"), looks := false }, kinds := [], alts := [], laidByText := true, laidKinds := [.data, .pinned], laidTests := true, laidLooks := .later }
def FnExactPlayBoardUptoCardSaid : Prop := Claim7.holds Tryd.pinned (.plain (OpenSpec.upto fnExactPlayBoardSpec)) fnExactPlayBoardUptoCard

/-- THE SECOND FORM's CARD OF 'laws.FnWish'. -/
def fnWishUptoCard : Claim7 := { stood := { row := fnWishUptoRow, standIns := [], harness := (true, "6066e12998bdf1df9d95be0b75b088ec13e8af435f8e4675962bad28dcb65d31"), looks := false }, kinds := [], alts := [], laidByText := true, laidKinds := [.data, .pinned], laidTests := true, laidLooks := .later }
def FnWishUptoCardSaid : Prop := Claim7.holds Tryd.pinned (.plain (OpenSpec.upto fnWishSpec)) fnWishUptoCard

/-- THE SECOND FORM's CARD OF 'laws.FnWin'. -/
def fnWinUptoCard : Claim7 := { stood := { row := fnWinUptoRow, standIns := [], harness := (true, "6066e12998bdf1df9d95be0b75b088ec13e8af435f8e4675962bad28dcb65d31"), looks := false }, kinds := [], alts := [], laidByText := true, laidKinds := [.data, .pinned], laidTests := true, laidLooks := .later }
def FnWinUptoCardSaid : Prop := Claim7.holds Tryd.pinned (.plain (OpenSpec.upto fnWinSpec)) fnWinUptoCard
end Rows
end Go.Proofs.YtdihodboopeakaaDoor
