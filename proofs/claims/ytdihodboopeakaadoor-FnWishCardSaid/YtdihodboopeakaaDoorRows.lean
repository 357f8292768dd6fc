/-
  NARROWER THAN 'FOR EVERY INPUT', by the rows' own cells (each row's printed sentence says how): FnExactWinningPlaces: laid · FnExactStrategy: laid · FnExactGoodBoard: laid · FnExactReadWish: laid · FnExactWriteWish: laid · FnExactWishMet: laid · FnExactPlayBoard: laid · FnWish: laid · FnWin: laid.
  DERIVED. THE GIVEN ROWS OF THIS SEAT. 9 by the template 'for every input the law returns true; each argument reads behind the call as it read before'; 0 by the template 'total and deterministic' (their statements: YtdihodboopeakaaDoorTotals.lean).
  GIVEN WITH THE SEED: the statements are not yours to turn. If you find one false, say at which input.
  Laid BY PROGRAM, IN A SANDBOX (cutbox-rows.mjs): the forced cells as the released guide's own fill.sh prints them over the translation 552f54c582d3c1ad… (all of the seat's roots in one cut). By AI agents, Wed Nov 11 2026. No macro, syntax, notation, axiom, sorry.
-/
import Derived.Test.YtdihodboopeakaaDoorChecked
import GoSem.PinnedTables
import GoSem.Claim
import GoSem.ClaimJoined
import GoSem.ClaimMapViews
import Derived.JoinedTies
import Derived.KernelRfl
namespace Go.Proofs.YtdihodboopeakaaDoor
/- THE CELL 'sum', in the pinned program and in every row, IS THE sha256 OF THE DUMP (.gsa) THAT YtdihodboopeakaaDoorProg.lean LOADS. Nothing in Lean hashes anything: it is a label: what it is worth is what the hold of that sum in a sandbox is worth. -/
noncomputable def Tryd.pinned : Pinned := { name := "ytdihodboopeakaadoor", sum := "552f54c582d3c1adaa8d7503dedc8e2f1ebd7390ab561b7510c0e9a8a7b1e2e9", checked := Tryd.checked }
namespace Rows
def none {H : Type} : Left H := { results := [], args := [] }

/- WHAT THE LISTED PACKAGE-LEVEL VARIABLES READ AS WHEN THE CALL BEGINS. Each datum BY PROGRAM (the guide's laid-datum.mjs) off the statement by which the dump's own 'gosem.cut.vars' lays the variable. In a bare row this is a premise. The card (YtdihodboopeakaaDoorCards.lean) ties it to the program's text. -/
def laid_unicode_utf8_acceptRanges {H : Type} : DataW H := .agg [.agg [.lit (.int .u8 128), .lit (.int .u8 191)], .agg [.lit (.int .u8 160), .lit (.int .u8 191)], .agg [.lit (.int .u8 128), .lit (.int .u8 159)], .agg [.lit (.int .u8 144), .lit (.int .u8 191)], .agg [.lit (.int .u8 128), .lit (.int .u8 143)], .agg [.lit (.int .u8 0), .lit (.int .u8 0)], .agg [.lit (.int .u8 0), .lit (.int .u8 0)], .agg [.lit (.int .u8 0), .lit (.int .u8 0)], .agg [.lit (.int .u8 0), .lit (.int .u8 0)], .agg [.lit (.int .u8 0), .lit (.int .u8 0)], .agg [.lit (.int .u8 0), .lit (.int .u8 0)], .agg [.lit (.int .u8 0), .lit (.int .u8 0)], .agg [.lit (.int .u8 0), .lit (.int .u8 0)], .agg [.lit (.int .u8 0), .lit (.int .u8 0)], .agg [.lit (.int .u8 0), .lit (.int .u8 0)], .agg [.lit (.int .u8 0), .lit (.int .u8 0)]]
/-- One of Go's own tables, pinned by name: the form's constant. -/
def laid_unicode_utf8_first : DataW Unit := Go.Pinned.utf8First

/-- 'laws.FnExactWinningPlaces': WHATEVER THE INPUT: true; the input reads as it did. -/
def fnExactWinningPlacesSpec : ChangeSpec := { name := "fnExactWinningPlaces", fn := fun _ => fun
  | [d1, d2] => { results := [.lit (.bool true)], args := [d1, d2] }
  | _ => none }
def fnExactWinningPlacesRow : OpenClaim := { program := "ytdihodboopeakaadoor", sum := "552f54c582d3c1adaa8d7503dedc8e2f1ebd7390ab561b7510c0e9a8a7b1e2e9", func := "loop.example/g00047/laws.FnExactWinningPlaces", spec := "fnExactWinningPlaces", named := ["unicode/utf8.first", "unicode/utf8.acceptRanges"], apart := false, laid := [("unicode/utf8.acceptRanges", laid_unicode_utf8_acceptRanges), ("unicode/utf8.first", laid_unicode_utf8_first)] }
def FnExactWinningPlacesSaid : Prop := fnExactWinningPlacesRow.holds Tryd.pinned (OpenSpec.ofChange fnExactWinningPlacesSpec)

/-- ITS FALSE NEIGHBOUR: 'it returns false'. Refute it at one input. -/
def fnExactWinningPlacesWrong : ChangeSpec := { name := "fnExactWinningPlaces", fn := fun _ => fun
  | [d1, d2] => { results := [.lit (.bool false)], args := [d1, d2] }
  | _ => none }
def FnExactWinningPlacesWrongFalsely : Prop := fnExactWinningPlacesRow.holds Tryd.pinned (OpenSpec.ofChange fnExactWinningPlacesWrong)

/-- 'laws.FnExactStrategy': WHATEVER THE INPUT: true; the input reads as it did. -/
def fnExactStrategySpec : ChangeSpec := { name := "fnExactStrategy", fn := fun _ => fun
  | [d1, d2] => { results := [.lit (.bool true)], args := [d1, d2] }
  | _ => none }
def fnExactStrategyRow : OpenClaim := { program := "ytdihodboopeakaadoor", sum := "552f54c582d3c1adaa8d7503dedc8e2f1ebd7390ab561b7510c0e9a8a7b1e2e9", func := "loop.example/g00047/laws.FnExactStrategy", spec := "fnExactStrategy", named := ["unicode/utf8.first", "unicode/utf8.acceptRanges"], apart := false, laid := [("unicode/utf8.acceptRanges", laid_unicode_utf8_acceptRanges), ("unicode/utf8.first", laid_unicode_utf8_first)] }
def FnExactStrategySaid : Prop := fnExactStrategyRow.holds Tryd.pinned (OpenSpec.ofChange fnExactStrategySpec)

/-- ITS FALSE NEIGHBOUR: 'it returns false'. Refute it at one input. -/
def fnExactStrategyWrong : ChangeSpec := { name := "fnExactStrategy", fn := fun _ => fun
  | [d1, d2] => { results := [.lit (.bool false)], args := [d1, d2] }
  | _ => none }
def FnExactStrategyWrongFalsely : Prop := fnExactStrategyRow.holds Tryd.pinned (OpenSpec.ofChange fnExactStrategyWrong)

/-- 'laws.FnExactGoodBoard': WHATEVER THE INPUT: true; the input reads as it did. -/
def fnExactGoodBoardSpec : ChangeSpec := { name := "fnExactGoodBoard", fn := fun _ => fun
  | [d] => { results := [.lit (.bool true)], args := [d] }
  | _ => none }
def fnExactGoodBoardRow : OpenClaim := { program := "ytdihodboopeakaadoor", sum := "552f54c582d3c1adaa8d7503dedc8e2f1ebd7390ab561b7510c0e9a8a7b1e2e9", func := "loop.example/g00047/laws.FnExactGoodBoard", spec := "fnExactGoodBoard", named := ["unicode/utf8.first", "unicode/utf8.acceptRanges"], apart := false, laid := [("unicode/utf8.acceptRanges", laid_unicode_utf8_acceptRanges), ("unicode/utf8.first", laid_unicode_utf8_first)] }
def FnExactGoodBoardSaid : Prop := fnExactGoodBoardRow.holds Tryd.pinned (OpenSpec.ofChange fnExactGoodBoardSpec)

/-- ITS FALSE NEIGHBOUR: 'it returns false'. Refute it at one input. -/
def fnExactGoodBoardWrong : ChangeSpec := { name := "fnExactGoodBoard", fn := fun _ => fun
  | [d] => { results := [.lit (.bool false)], args := [d] }
  | _ => none }
def FnExactGoodBoardWrongFalsely : Prop := fnExactGoodBoardRow.holds Tryd.pinned (OpenSpec.ofChange fnExactGoodBoardWrong)

/-- 'laws.FnExactReadWish': WHATEVER THE INPUT: true; the input reads as it did. -/
def fnExactReadWishSpec : ChangeSpec := { name := "fnExactReadWish", fn := fun _ => fun
  | [d] => { results := [.lit (.bool true)], args := [d] }
  | _ => none }
def fnExactReadWishRow : OpenClaim := { program := "ytdihodboopeakaadoor", sum := "552f54c582d3c1adaa8d7503dedc8e2f1ebd7390ab561b7510c0e9a8a7b1e2e9", func := "loop.example/g00047/laws.FnExactReadWish", spec := "fnExactReadWish", unfollowed := true, recurses := true, named := ["unicode/utf8.first", "unicode/utf8.acceptRanges"], apart := false, laid := [("unicode/utf8.acceptRanges", laid_unicode_utf8_acceptRanges), ("unicode/utf8.first", laid_unicode_utf8_first)] }
def FnExactReadWishSaid : Prop := fnExactReadWishRow.holds Tryd.pinned (OpenSpec.ofChange fnExactReadWishSpec)

/-- ITS FALSE NEIGHBOUR: 'it returns false'. Refute it at one input. -/
def fnExactReadWishWrong : ChangeSpec := { name := "fnExactReadWish", fn := fun _ => fun
  | [d] => { results := [.lit (.bool false)], args := [d] }
  | _ => none }
def FnExactReadWishWrongFalsely : Prop := fnExactReadWishRow.holds Tryd.pinned (OpenSpec.ofChange fnExactReadWishWrong)

/-- 'laws.FnExactWriteWish': WHATEVER THE INPUT: true; the input reads as it did. -/
def fnExactWriteWishSpec : ChangeSpec := { name := "fnExactWriteWish", fn := fun _ => fun
  | [d] => { results := [.lit (.bool true)], args := [d] }
  | _ => none }
def fnExactWriteWishRow : OpenClaim := { program := "ytdihodboopeakaadoor", sum := "552f54c582d3c1adaa8d7503dedc8e2f1ebd7390ab561b7510c0e9a8a7b1e2e9", func := "loop.example/g00047/laws.FnExactWriteWish", spec := "fnExactWriteWish", inPlace := ["internal/abi.NoEscape", "internal/bytealg.MakeNoZero"], named := ["unicode/utf8.first", "unicode/utf8.acceptRanges"], apart := false, laid := [("unicode/utf8.acceptRanges", laid_unicode_utf8_acceptRanges), ("unicode/utf8.first", laid_unicode_utf8_first)] }
def FnExactWriteWishSaid : Prop := fnExactWriteWishRow.holds Tryd.pinned (OpenSpec.ofChange fnExactWriteWishSpec)

/-- ITS FALSE NEIGHBOUR: 'it returns false'. Refute it at one input. -/
def fnExactWriteWishWrong : ChangeSpec := { name := "fnExactWriteWish", fn := fun _ => fun
  | [d] => { results := [.lit (.bool false)], args := [d] }
  | _ => none }
def FnExactWriteWishWrongFalsely : Prop := fnExactWriteWishRow.holds Tryd.pinned (OpenSpec.ofChange fnExactWriteWishWrong)

/-- 'laws.FnExactWishMet': WHATEVER THE INPUT: true; the input reads as it did. -/
def fnExactWishMetSpec : ChangeSpec := { name := "fnExactWishMet", fn := fun _ => fun
  | [d1, d2, d3] => { results := [.lit (.bool true)], args := [d1, d2, d3] }
  | _ => none }
def fnExactWishMetRow : OpenClaim := { program := "ytdihodboopeakaadoor", sum := "552f54c582d3c1adaa8d7503dedc8e2f1ebd7390ab561b7510c0e9a8a7b1e2e9", func := "loop.example/g00047/laws.FnExactWishMet", spec := "fnExactWishMet", named := ["unicode/utf8.first", "unicode/utf8.acceptRanges"], apart := false, laid := [("unicode/utf8.acceptRanges", laid_unicode_utf8_acceptRanges), ("unicode/utf8.first", laid_unicode_utf8_first)] }
def FnExactWishMetSaid : Prop := fnExactWishMetRow.holds Tryd.pinned (OpenSpec.ofChange fnExactWishMetSpec)

/-- ITS FALSE NEIGHBOUR: 'it returns false'. Refute it at one input. -/
def fnExactWishMetWrong : ChangeSpec := { name := "fnExactWishMet", fn := fun _ => fun
  | [d1, d2, d3] => { results := [.lit (.bool false)], args := [d1, d2, d3] }
  | _ => none }
def FnExactWishMetWrongFalsely : Prop := fnExactWishMetRow.holds Tryd.pinned (OpenSpec.ofChange fnExactWishMetWrong)

/-- 'laws.FnExactPlayBoard': WHATEVER THE INPUT: true; the input reads as it did. -/
def fnExactPlayBoardSpec : ChangeSpec := { name := "fnExactPlayBoard", fn := fun _ => fun
  | [d1, d2, d3, d4] => { results := [.lit (.bool true)], args := [d1, d2, d3, d4] }
  | _ => none }
def fnExactPlayBoardRow : OpenClaim := { program := "ytdihodboopeakaadoor", sum := "552f54c582d3c1adaa8d7503dedc8e2f1ebd7390ab561b7510c0e9a8a7b1e2e9", func := "loop.example/g00047/laws.FnExactPlayBoard", spec := "fnExactPlayBoard", named := ["unicode/utf8.first", "unicode/utf8.acceptRanges"], apart := false, laid := [("unicode/utf8.acceptRanges", laid_unicode_utf8_acceptRanges), ("unicode/utf8.first", laid_unicode_utf8_first)] }
def FnExactPlayBoardSaid : Prop := fnExactPlayBoardRow.holds Tryd.pinned (OpenSpec.ofChange fnExactPlayBoardSpec)

/-- ITS FALSE NEIGHBOUR: 'it returns false'. Refute it at one input. -/
def fnExactPlayBoardWrong : ChangeSpec := { name := "fnExactPlayBoard", fn := fun _ => fun
  | [d1, d2, d3, d4] => { results := [.lit (.bool false)], args := [d1, d2, d3, d4] }
  | _ => none }
def FnExactPlayBoardWrongFalsely : Prop := fnExactPlayBoardRow.holds Tryd.pinned (OpenSpec.ofChange fnExactPlayBoardWrong)

/-- 'laws.FnWish': WHATEVER THE INPUT: true; the input reads as it did. -/
def fnWishSpec : ChangeSpec := { name := "fnWish", fn := fun _ => fun
  | [d1, d2] => { results := [.lit (.bool true)], args := [d1, d2] }
  | _ => none }
def fnWishRow : OpenClaim := { program := "ytdihodboopeakaadoor", sum := "552f54c582d3c1adaa8d7503dedc8e2f1ebd7390ab561b7510c0e9a8a7b1e2e9", func := "loop.example/g00047/laws.FnWish", spec := "fnWish", inPlace := ["internal/abi.NoEscape", "internal/bytealg.MakeNoZero"], unfollowed := true, recurses := true, named := ["unicode/utf8.first", "unicode/utf8.acceptRanges"], apart := false, laid := [("unicode/utf8.acceptRanges", laid_unicode_utf8_acceptRanges), ("unicode/utf8.first", laid_unicode_utf8_first)] }
def FnWishSaid : Prop := fnWishRow.holds Tryd.pinned (OpenSpec.ofChange fnWishSpec)

/-- ITS FALSE NEIGHBOUR: 'it returns false'. Refute it at one input. -/
def fnWishWrong : ChangeSpec := { name := "fnWish", fn := fun _ => fun
  | [d1, d2] => { results := [.lit (.bool false)], args := [d1, d2] }
  | _ => none }
def FnWishWrongFalsely : Prop := fnWishRow.holds Tryd.pinned (OpenSpec.ofChange fnWishWrong)

/-- 'laws.FnWin': WHATEVER THE INPUT: true; the input reads as it did. -/
def fnWinSpec : ChangeSpec := { name := "fnWin", fn := fun _ => fun
  | [d1, d2] => { results := [.lit (.bool true)], args := [d1, d2] }
  | _ => none }
def fnWinRow : OpenClaim := { program := "ytdihodboopeakaadoor", sum := "552f54c582d3c1adaa8d7503dedc8e2f1ebd7390ab561b7510c0e9a8a7b1e2e9", func := "loop.example/g00047/laws.FnWin", spec := "fnWin", named := ["unicode/utf8.first", "unicode/utf8.acceptRanges"], apart := false, laid := [("unicode/utf8.acceptRanges", laid_unicode_utf8_acceptRanges), ("unicode/utf8.first", laid_unicode_utf8_first)] }
def FnWinSaid : Prop := fnWinRow.holds Tryd.pinned (OpenSpec.ofChange fnWinSpec)

/-- ITS FALSE NEIGHBOUR: 'it returns false'. Refute it at one input. -/
def fnWinWrong : ChangeSpec := { name := "fnWin", fn := fun _ => fun
  | [d1, d2] => { results := [.lit (.bool false)], args := [d1, d2] }
  | _ => none }
def FnWinWrongFalsely : Prop := fnWinRow.holds Tryd.pinned (OpenSpec.ofChange fnWinWrong)

/- THE SECOND FORM. 'bulk': how many values and letters a reading holds, each counted each time it is reached (what is shared counts as often as it is met; a slice's spare places count too). A statement '..UptoSaid' is the law's where the arguments, and the package variables that the reading takes, are together of bulk at most 1048576: NARROWER than '..Said'. Prove '..Said' where nothing that the law and all that it calls make is longer than what came in: it says more and counts as full. Else prove '..UptoSaid'. A law counts once. -/
mutual
def uptoBulk {H : Type} : DataW H → Nat
  | .lit (.string bytes) => bytes.length + 1
  | .lit _ => 1
  | .nil => 1
  | .ptr d => uptoBulk d + 1
  | .slice elems spare => uptoBulkAll elems + uptoBulkAll spare + 1
  | .agg parts => uptoBulkAll parts + 1
  | .iface _ d => uptoBulk d + 1
  | .map entries => uptoBulkEntries entries + 1
  | .held _ => 1
def uptoBulkAll {H : Type} : List (DataW H) → Nat
  | [] => 0
  | d :: r => uptoBulk d + uptoBulkAll r
def uptoBulkEntries {H : Type} : List (Lit × DataW H) → Nat
  | [] => 0
  | x :: r => uptoBulkEntry x + uptoBulkEntries r
def uptoBulkEntry {H : Type} : Lit × DataW H → Nat
  | (.string bytes, d) => bytes.length + uptoBulk d + 1
  | (_, d) => uptoBulk d + 1
 end
def uptoSmall : (H : Type) → List (DataW H) → Bool := fun _ ds => decide (uptoBulkAll ds ≤ 1048576)
def OpenSpec.upto (s : _root_.Go.ChangeSpec) : _root_.Go.OpenSpec := { _root_.Go.OpenSpec.ofChange s with cond := some uptoSmall }

/-- 'laws.FnExactWinningPlaces', WHERE WHAT IT READS IS OF BULK AT MOST 1048576: true; the input reads as it did. -/
def fnExactWinningPlacesUptoRow : OpenClaim := { program := "ytdihodboopeakaadoor", sum := "552f54c582d3c1adaa8d7503dedc8e2f1ebd7390ab561b7510c0e9a8a7b1e2e9", func := "loop.example/g00047/laws.FnExactWinningPlaces", spec := "fnExactWinningPlaces", named := ["unicode/utf8.first", "unicode/utf8.acceptRanges"], apart := false, laid := [("unicode/utf8.acceptRanges", laid_unicode_utf8_acceptRanges), ("unicode/utf8.first", laid_unicode_utf8_first)], narrowed := true }
def FnExactWinningPlacesUptoSaid : Prop := fnExactWinningPlacesUptoRow.holds Tryd.pinned (OpenSpec.upto fnExactWinningPlacesSpec)

/-- 'laws.FnExactStrategy', WHERE WHAT IT READS IS OF BULK AT MOST 1048576: true; the input reads as it did. -/
def fnExactStrategyUptoRow : OpenClaim := { program := "ytdihodboopeakaadoor", sum := "552f54c582d3c1adaa8d7503dedc8e2f1ebd7390ab561b7510c0e9a8a7b1e2e9", func := "loop.example/g00047/laws.FnExactStrategy", spec := "fnExactStrategy", named := ["unicode/utf8.first", "unicode/utf8.acceptRanges"], apart := false, laid := [("unicode/utf8.acceptRanges", laid_unicode_utf8_acceptRanges), ("unicode/utf8.first", laid_unicode_utf8_first)], narrowed := true }
def FnExactStrategyUptoSaid : Prop := fnExactStrategyUptoRow.holds Tryd.pinned (OpenSpec.upto fnExactStrategySpec)

/-- 'laws.FnExactGoodBoard', WHERE WHAT IT READS IS OF BULK AT MOST 1048576: true; the input reads as it did. -/
def fnExactGoodBoardUptoRow : OpenClaim := { program := "ytdihodboopeakaadoor", sum := "552f54c582d3c1adaa8d7503dedc8e2f1ebd7390ab561b7510c0e9a8a7b1e2e9", func := "loop.example/g00047/laws.FnExactGoodBoard", spec := "fnExactGoodBoard", named := ["unicode/utf8.first", "unicode/utf8.acceptRanges"], apart := false, laid := [("unicode/utf8.acceptRanges", laid_unicode_utf8_acceptRanges), ("unicode/utf8.first", laid_unicode_utf8_first)], narrowed := true }
def FnExactGoodBoardUptoSaid : Prop := fnExactGoodBoardUptoRow.holds Tryd.pinned (OpenSpec.upto fnExactGoodBoardSpec)

/-- 'laws.FnExactReadWish', WHERE WHAT IT READS IS OF BULK AT MOST 1048576: true; the input reads as it did. -/
def fnExactReadWishUptoRow : OpenClaim := { program := "ytdihodboopeakaadoor", sum := "552f54c582d3c1adaa8d7503dedc8e2f1ebd7390ab561b7510c0e9a8a7b1e2e9", func := "loop.example/g00047/laws.FnExactReadWish", spec := "fnExactReadWish", unfollowed := true, recurses := true, named := ["unicode/utf8.first", "unicode/utf8.acceptRanges"], apart := false, laid := [("unicode/utf8.acceptRanges", laid_unicode_utf8_acceptRanges), ("unicode/utf8.first", laid_unicode_utf8_first)], narrowed := true }
def FnExactReadWishUptoSaid : Prop := fnExactReadWishUptoRow.holds Tryd.pinned (OpenSpec.upto fnExactReadWishSpec)

/-- 'laws.FnExactWriteWish', WHERE WHAT IT READS IS OF BULK AT MOST 1048576: true; the input reads as it did. -/
def fnExactWriteWishUptoRow : OpenClaim := { program := "ytdihodboopeakaadoor", sum := "552f54c582d3c1adaa8d7503dedc8e2f1ebd7390ab561b7510c0e9a8a7b1e2e9", func := "loop.example/g00047/laws.FnExactWriteWish", spec := "fnExactWriteWish", inPlace := ["internal/abi.NoEscape", "internal/bytealg.MakeNoZero"], named := ["unicode/utf8.first", "unicode/utf8.acceptRanges"], apart := false, laid := [("unicode/utf8.acceptRanges", laid_unicode_utf8_acceptRanges), ("unicode/utf8.first", laid_unicode_utf8_first)], narrowed := true }
def FnExactWriteWishUptoSaid : Prop := fnExactWriteWishUptoRow.holds Tryd.pinned (OpenSpec.upto fnExactWriteWishSpec)

/-- 'laws.FnExactWishMet', WHERE WHAT IT READS IS OF BULK AT MOST 1048576: true; the input reads as it did. -/
def fnExactWishMetUptoRow : OpenClaim := { program := "ytdihodboopeakaadoor", sum := "552f54c582d3c1adaa8d7503dedc8e2f1ebd7390ab561b7510c0e9a8a7b1e2e9", func := "loop.example/g00047/laws.FnExactWishMet", spec := "fnExactWishMet", named := ["unicode/utf8.first", "unicode/utf8.acceptRanges"], apart := false, laid := [("unicode/utf8.acceptRanges", laid_unicode_utf8_acceptRanges), ("unicode/utf8.first", laid_unicode_utf8_first)], narrowed := true }
def FnExactWishMetUptoSaid : Prop := fnExactWishMetUptoRow.holds Tryd.pinned (OpenSpec.upto fnExactWishMetSpec)

/-- 'laws.FnExactPlayBoard', WHERE WHAT IT READS IS OF BULK AT MOST 1048576: true; the input reads as it did. -/
def fnExactPlayBoardUptoRow : OpenClaim := { program := "ytdihodboopeakaadoor", sum := "552f54c582d3c1adaa8d7503dedc8e2f1ebd7390ab561b7510c0e9a8a7b1e2e9", func := "loop.example/g00047/laws.FnExactPlayBoard", spec := "fnExactPlayBoard", named := ["unicode/utf8.first", "unicode/utf8.acceptRanges"], apart := false, laid := [("unicode/utf8.acceptRanges", laid_unicode_utf8_acceptRanges), ("unicode/utf8.first", laid_unicode_utf8_first)], narrowed := true }
def FnExactPlayBoardUptoSaid : Prop := fnExactPlayBoardUptoRow.holds Tryd.pinned (OpenSpec.upto fnExactPlayBoardSpec)

/-- 'laws.FnWish', WHERE WHAT IT READS IS OF BULK AT MOST 1048576: true; the input reads as it did. -/
def fnWishUptoRow : OpenClaim := { program := "ytdihodboopeakaadoor", sum := "552f54c582d3c1adaa8d7503dedc8e2f1ebd7390ab561b7510c0e9a8a7b1e2e9", func := "loop.example/g00047/laws.FnWish", spec := "fnWish", inPlace := ["internal/abi.NoEscape", "internal/bytealg.MakeNoZero"], unfollowed := true, recurses := true, named := ["unicode/utf8.first", "unicode/utf8.acceptRanges"], apart := false, laid := [("unicode/utf8.acceptRanges", laid_unicode_utf8_acceptRanges), ("unicode/utf8.first", laid_unicode_utf8_first)], narrowed := true }
def FnWishUptoSaid : Prop := fnWishUptoRow.holds Tryd.pinned (OpenSpec.upto fnWishSpec)

/-- 'laws.FnWin', WHERE WHAT IT READS IS OF BULK AT MOST 1048576: true; the input reads as it did. -/
def fnWinUptoRow : OpenClaim := { program := "ytdihodboopeakaadoor", sum := "552f54c582d3c1adaa8d7503dedc8e2f1ebd7390ab561b7510c0e9a8a7b1e2e9", func := "loop.example/g00047/laws.FnWin", spec := "fnWin", named := ["unicode/utf8.first", "unicode/utf8.acceptRanges"], apart := false, laid := [("unicode/utf8.acceptRanges", laid_unicode_utf8_acceptRanges), ("unicode/utf8.first", laid_unicode_utf8_first)], narrowed := true }
def FnWinUptoSaid : Prop := fnWinUptoRow.holds Tryd.pinned (OpenSpec.upto fnWinSpec)

end Rows
end Go.Proofs.YtdihodboopeakaaDoor
