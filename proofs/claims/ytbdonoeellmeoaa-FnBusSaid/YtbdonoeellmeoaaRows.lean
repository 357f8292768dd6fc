/-
  No cell of these rows narrows 'for every input' (looked for: loops, veiled, ifaces, maps, wideKeys, modest, calm, conditions, laid).
  DERIVED. THE GIVEN ROWS OF THIS SEAT. 5 by the template 'for every input the law returns true; each argument reads behind the call as it read before'; 0 by the template 'total and deterministic' (their statements: YtbdonoeellmeoaaTotals.lean).
  GIVEN WITH THE SEED: the statements are not yours to turn. If you find one false, say at which input.
  Laid BY PROGRAM, IN A SANDBOX (cutbox-rows.mjs): the forced cells as the released guide's own fill.sh prints them over the translation 110bcd5fc50170cd… (all of the seat's roots in one cut). By AI agents, Wed Nov 11 2026. No macro, syntax, notation, axiom, sorry.
-/
import Derived.Test.YtbdonoeellmeoaaChecked
import GoSem.Claim
import GoSem.ClaimJoined
import GoSem.ClaimMapViews
import Derived.JoinedTies
import Derived.KernelRfl
namespace Go.Proofs.Ytbdonoeellmeoaa
/- THE CELL 'sum', in the pinned program and in every row, IS THE sha256 OF THE DUMP (.gsa) THAT YtbdonoeellmeoaaProg.lean LOADS. Nothing in Lean hashes anything: it is a label: what it is worth is what the hold of that sum in a sandbox is worth. -/
noncomputable def Try.pinned : Pinned := { name := "ytbdonoeellmeoaa", sum := "110bcd5fc50170cd838e3e5a6e94fb08a6c87a0bf661f00d64700f052cc7ef93", checked := Try.checked }
namespace Rows
def none {H : Type} : Left H := { results := [], args := [] }

/-- 'laws.FnExactGoodFrame': WHATEVER THE INPUT: true; the input reads as it did. -/
def fnExactGoodFrameSpec : ChangeSpec := { name := "fnExactGoodFrame", fn := fun _ => fun
  | [d] => { results := [.lit (.bool true)], args := [d] }
  | _ => none }
def fnExactGoodFrameRow : OpenClaim := { program := "ytbdonoeellmeoaa", sum := "110bcd5fc50170cd838e3e5a6e94fb08a6c87a0bf661f00d64700f052cc7ef93", func := "loop.example/g00047/laws.FnExactGoodFrame", spec := "fnExactGoodFrame", apart := false }
def FnExactGoodFrameSaid : Prop := fnExactGoodFrameRow.holds Try.pinned (OpenSpec.ofChange fnExactGoodFrameSpec)

/-- ITS FALSE NEIGHBOUR: 'it returns false'. Refute it at one input. -/
def fnExactGoodFrameWrong : ChangeSpec := { name := "fnExactGoodFrame", fn := fun _ => fun
  | [d] => { results := [.lit (.bool false)], args := [d] }
  | _ => none }
def FnExactGoodFrameWrongFalsely : Prop := fnExactGoodFrameRow.holds Try.pinned (OpenSpec.ofChange fnExactGoodFrameWrong)

/-- 'laws.FnExactArbitrate': WHATEVER THE INPUT: true; the input reads as it did. -/
def fnExactArbitrateSpec : ChangeSpec := { name := "fnExactArbitrate", fn := fun _ => fun
  | [d] => { results := [.lit (.bool true)], args := [d] }
  | _ => none }
def fnExactArbitrateRow : OpenClaim := { program := "ytbdonoeellmeoaa", sum := "110bcd5fc50170cd838e3e5a6e94fb08a6c87a0bf661f00d64700f052cc7ef93", func := "loop.example/g00047/laws.FnExactArbitrate", spec := "fnExactArbitrate", apart := false }
def FnExactArbitrateSaid : Prop := fnExactArbitrateRow.holds Try.pinned (OpenSpec.ofChange fnExactArbitrateSpec)

/-- ITS FALSE NEIGHBOUR: 'it returns false'. Refute it at one input. -/
def fnExactArbitrateWrong : ChangeSpec := { name := "fnExactArbitrate", fn := fun _ => fun
  | [d] => { results := [.lit (.bool false)], args := [d] }
  | _ => none }
def FnExactArbitrateWrongFalsely : Prop := fnExactArbitrateRow.holds Try.pinned (OpenSpec.ofChange fnExactArbitrateWrong)

/-- 'laws.FnArbitrate': WHATEVER THE INPUT: true; the input reads as it did. -/
def fnArbitrateSpec : ChangeSpec := { name := "fnArbitrate", fn := fun _ => fun
  | [d] => { results := [.lit (.bool true)], args := [d] }
  | _ => none }
def fnArbitrateRow : OpenClaim := { program := "ytbdonoeellmeoaa", sum := "110bcd5fc50170cd838e3e5a6e94fb08a6c87a0bf661f00d64700f052cc7ef93", func := "loop.example/g00047/laws.FnArbitrate", spec := "fnArbitrate", apart := false }
def FnArbitrateSaid : Prop := fnArbitrateRow.holds Try.pinned (OpenSpec.ofChange fnArbitrateSpec)

/-- ITS FALSE NEIGHBOUR: 'it returns false'. Refute it at one input. -/
def fnArbitrateWrong : ChangeSpec := { name := "fnArbitrate", fn := fun _ => fun
  | [d] => { results := [.lit (.bool false)], args := [d] }
  | _ => none }
def FnArbitrateWrongFalsely : Prop := fnArbitrateRow.holds Try.pinned (OpenSpec.ofChange fnArbitrateWrong)

/-- 'laws.FnExactFrameBits': WHATEVER THE INPUT: true; the input reads as it did. -/
def fnExactFrameBitsSpec : ChangeSpec := { name := "fnExactFrameBits", fn := fun _ => fun
  | [d] => { results := [.lit (.bool true)], args := [d] }
  | _ => none }
def fnExactFrameBitsRow : OpenClaim := { program := "ytbdonoeellmeoaa", sum := "110bcd5fc50170cd838e3e5a6e94fb08a6c87a0bf661f00d64700f052cc7ef93", func := "loop.example/g00047/laws.FnExactFrameBits", spec := "fnExactFrameBits", unfollowed := true, recurses := true, apart := false }
def FnExactFrameBitsSaid : Prop := fnExactFrameBitsRow.holds Try.pinned (OpenSpec.ofChange fnExactFrameBitsSpec)

/-- ITS FALSE NEIGHBOUR: 'it returns false'. Refute it at one input. -/
def fnExactFrameBitsWrong : ChangeSpec := { name := "fnExactFrameBits", fn := fun _ => fun
  | [d] => { results := [.lit (.bool false)], args := [d] }
  | _ => none }
def FnExactFrameBitsWrongFalsely : Prop := fnExactFrameBitsRow.holds Try.pinned (OpenSpec.ofChange fnExactFrameBitsWrong)

/-- 'laws.FnBus': WHATEVER THE INPUT: true; the input reads as it did. -/
def fnBusSpec : ChangeSpec := { name := "fnBus", fn := fun _ => fun
  | [d] => { results := [.lit (.bool true)], args := [d] }
  | _ => none }
def fnBusRow : OpenClaim := { program := "ytbdonoeellmeoaa", sum := "110bcd5fc50170cd838e3e5a6e94fb08a6c87a0bf661f00d64700f052cc7ef93", func := "loop.example/g00047/laws.FnBus", spec := "fnBus", apart := false }
def FnBusSaid : Prop := fnBusRow.holds Try.pinned (OpenSpec.ofChange fnBusSpec)

/-- ITS FALSE NEIGHBOUR: 'it returns false'. Refute it at one input. -/
def fnBusWrong : ChangeSpec := { name := "fnBus", fn := fun _ => fun
  | [d] => { results := [.lit (.bool false)], args := [d] }
  | _ => none }
def FnBusWrongFalsely : Prop := fnBusRow.holds Try.pinned (OpenSpec.ofChange fnBusWrong)

/- THE SECOND FORM. 'bulk': how many values and letters a reading holds, each counted each time it is reached (what is shared counts as often as it is met; a slice's spare places count too). A statement '..UptoSaid' is the law's where the arguments, and the package variables that the reading takes, are together of bulk at most 1048576: NARROWER than '..Said'. Prove '..Said' where nothing that the law and all that it calls make is longer than what came in: it says more and counts as full. Else prove '..UptoSaid'. A law counts once. -/
mutual
def uptoBulk {H : Type} : DataW H → Nat
  | .lit (.string bytes) => bytes.length + 1
  | .lit _ => 1
  | .nil => 1
  | .ptr d => uptoBulk d + 1
  | .slice elems spare => uptoBulkAll elems + uptoBulkAll spare + 1
  | .agg parts => uptoBulkAll parts + 1
  | .iface _ d => uptoBulk d + 1
  | .map entries => uptoBulkEntries entries + 1
  | .held _ => 1
def uptoBulkAll {H : Type} : List (DataW H) → Nat
  | [] => 0
  | d :: r => uptoBulk d + uptoBulkAll r
def uptoBulkEntries {H : Type} : List (Lit × DataW H) → Nat
  | [] => 0
  | x :: r => uptoBulkEntry x + uptoBulkEntries r
def uptoBulkEntry {H : Type} : Lit × DataW H → Nat
  | (.string bytes, d) => bytes.length + uptoBulk d + 1
  | (_, d) => uptoBulk d + 1
 end
def uptoSmall : (H : Type) → List (DataW H) → Bool := fun _ ds => decide (uptoBulkAll ds ≤ 1048576)
def OpenSpec.upto (s : _root_.Go.ChangeSpec) : _root_.Go.OpenSpec := { _root_.Go.OpenSpec.ofChange s with cond := some uptoSmall }

/-- 'laws.FnExactGoodFrame', WHERE WHAT IT READS IS OF BULK AT MOST 1048576: true; the input reads as it did. -/
def fnExactGoodFrameUptoRow : OpenClaim := { program := "ytbdonoeellmeoaa", sum := "110bcd5fc50170cd838e3e5a6e94fb08a6c87a0bf661f00d64700f052cc7ef93", func := "loop.example/g00047/laws.FnExactGoodFrame", spec := "fnExactGoodFrame", apart := false, narrowed := true }
def FnExactGoodFrameUptoSaid : Prop := fnExactGoodFrameUptoRow.holds Try.pinned (OpenSpec.upto fnExactGoodFrameSpec)

/-- 'laws.FnExactArbitrate', WHERE WHAT IT READS IS OF BULK AT MOST 1048576: true; the input reads as it did. -/
def fnExactArbitrateUptoRow : OpenClaim := { program := "ytbdonoeellmeoaa", sum := "110bcd5fc50170cd838e3e5a6e94fb08a6c87a0bf661f00d64700f052cc7ef93", func := "loop.example/g00047/laws.FnExactArbitrate", spec := "fnExactArbitrate", apart := false, narrowed := true }
def FnExactArbitrateUptoSaid : Prop := fnExactArbitrateUptoRow.holds Try.pinned (OpenSpec.upto fnExactArbitrateSpec)

/-- 'laws.FnArbitrate', WHERE WHAT IT READS IS OF BULK AT MOST 1048576: true; the input reads as it did. -/
def fnArbitrateUptoRow : OpenClaim := { program := "ytbdonoeellmeoaa", sum := "110bcd5fc50170cd838e3e5a6e94fb08a6c87a0bf661f00d64700f052cc7ef93", func := "loop.example/g00047/laws.FnArbitrate", spec := "fnArbitrate", apart := false, narrowed := true }
def FnArbitrateUptoSaid : Prop := fnArbitrateUptoRow.holds Try.pinned (OpenSpec.upto fnArbitrateSpec)

/-- 'laws.FnExactFrameBits', WHERE WHAT IT READS IS OF BULK AT MOST 1048576: true; the input reads as it did. -/
def fnExactFrameBitsUptoRow : OpenClaim := { program := "ytbdonoeellmeoaa", sum := "110bcd5fc50170cd838e3e5a6e94fb08a6c87a0bf661f00d64700f052cc7ef93", func := "loop.example/g00047/laws.FnExactFrameBits", spec := "fnExactFrameBits", unfollowed := true, recurses := true, apart := false, narrowed := true }
def FnExactFrameBitsUptoSaid : Prop := fnExactFrameBitsUptoRow.holds Try.pinned (OpenSpec.upto fnExactFrameBitsSpec)

/-- 'laws.FnBus', WHERE WHAT IT READS IS OF BULK AT MOST 1048576: true; the input reads as it did. -/
def fnBusUptoRow : OpenClaim := { program := "ytbdonoeellmeoaa", sum := "110bcd5fc50170cd838e3e5a6e94fb08a6c87a0bf661f00d64700f052cc7ef93", func := "loop.example/g00047/laws.FnBus", spec := "fnBus", apart := false, narrowed := true }
def FnBusUptoSaid : Prop := fnBusUptoRow.holds Try.pinned (OpenSpec.upto fnBusSpec)

end Rows
end Go.Proofs.Ytbdonoeellmeoaa
