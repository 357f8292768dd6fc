/-
  No cell of these rows narrows 'for every input' (looked for: loops, veiled, ifaces, maps, wideKeys, modest, calm, conditions, laid).
  DERIVED. THE GIVEN ROWS OF THIS SEAT. 7 by the template 'for every input the law returns true; each argument reads behind the call as it read before'; 0 by the template 'total and deterministic' (their statements: YtjcmlggdaajicaaTotals.lean).
  GIVEN WITH THE SEED: the statements are not yours to turn. If you find one false, say at which input.
  Laid BY PROGRAM, IN A SANDBOX (cutbox-rows.mjs): the forced cells as the released guide's own fill.sh prints them over the translation 5c74bf489e5d1586… (all of the seat's roots in one cut). By AI agents, Wed Nov 11 2026. No macro, syntax, notation, axiom, sorry.
-/
import Derived.Test.YtjcmlggdaajicaaChecked
import GoSem.Claim
import GoSem.ClaimJoined
import GoSem.ClaimMapViews
import Derived.JoinedTies
import Derived.KernelRfl
namespace Go.Proofs.Ytjcmlggdaajicaa
/- THE CELL 'sum', in the pinned program and in every row, IS THE sha256 OF THE DUMP (.gsa) THAT YtjcmlggdaajicaaProg.lean LOADS. Nothing in Lean hashes anything: it is a label: what it is worth is what the hold of that sum in a sandbox is worth. -/
noncomputable def Try.pinned : Pinned := { name := "ytjcmlggdaajicaa", sum := "5c74bf489e5d1586b85086a04aeefcde44080aa43dff58a58d28a67e0d982fd0", checked := Try.checked }
namespace Rows
def none {H : Type} : Left H := { results := [], args := [] }

/-- 'laws.FnExactClear': WHATEVER THE INPUT: true; the input reads as it did. -/
def fnExactClearSpec : ChangeSpec := { name := "fnExactClear", fn := fun _ => fun
  | [d1, d2, d3] => { results := [.lit (.bool true)], args := [d1, d2, d3] }
  | _ => none }
def fnExactClearRow : OpenClaim := { program := "ytjcmlggdaajicaa", sum := "5c74bf489e5d1586b85086a04aeefcde44080aa43dff58a58d28a67e0d982fd0", func := "loop.example/g00047/laws.FnExactClear", spec := "fnExactClear", apart := false }
def FnExactClearSaid : Prop := fnExactClearRow.holds Try.pinned (OpenSpec.ofChange fnExactClearSpec)

/-- ITS FALSE NEIGHBOUR: 'it returns false'. Refute it at one input. -/
def fnExactClearWrong : ChangeSpec := { name := "fnExactClear", fn := fun _ => fun
  | [d1, d2, d3] => { results := [.lit (.bool false)], args := [d1, d2, d3] }
  | _ => none }
def FnExactClearWrongFalsely : Prop := fnExactClearRow.holds Try.pinned (OpenSpec.ofChange fnExactClearWrong)

/-- 'laws.FnExactWayCost': WHATEVER THE INPUT: true; the input reads as it did. -/
def fnExactWayCostSpec : ChangeSpec := { name := "fnExactWayCost", fn := fun _ => fun
  | [d1, d2] => { results := [.lit (.bool true)], args := [d1, d2] }
  | _ => none }
def fnExactWayCostRow : OpenClaim := { program := "ytjcmlggdaajicaa", sum := "5c74bf489e5d1586b85086a04aeefcde44080aa43dff58a58d28a67e0d982fd0", func := "loop.example/g00047/laws.FnExactWayCost", spec := "fnExactWayCost", apart := false }
def FnExactWayCostSaid : Prop := fnExactWayCostRow.holds Try.pinned (OpenSpec.ofChange fnExactWayCostSpec)

/-- ITS FALSE NEIGHBOUR: 'it returns false'. Refute it at one input. -/
def fnExactWayCostWrong : ChangeSpec := { name := "fnExactWayCost", fn := fun _ => fun
  | [d1, d2] => { results := [.lit (.bool false)], args := [d1, d2] }
  | _ => none }
def FnExactWayCostWrongFalsely : Prop := fnExactWayCostRow.holds Try.pinned (OpenSpec.ofChange fnExactWayCostWrong)

/-- 'laws.FnExactMostClear': WHATEVER THE INPUT: true; the input reads as it did. -/
def fnExactMostClearSpec : ChangeSpec := { name := "fnExactMostClear", fn := fun _ => fun
  | [d1, d2] => { results := [.lit (.bool true)], args := [d1, d2] }
  | _ => none }
def fnExactMostClearRow : OpenClaim := { program := "ytjcmlggdaajicaa", sum := "5c74bf489e5d1586b85086a04aeefcde44080aa43dff58a58d28a67e0d982fd0", func := "loop.example/g00047/laws.FnExactMostClear", spec := "fnExactMostClear", apart := false }
def FnExactMostClearSaid : Prop := fnExactMostClearRow.holds Try.pinned (OpenSpec.ofChange fnExactMostClearSpec)

/-- ITS FALSE NEIGHBOUR: 'it returns false'. Refute it at one input. -/
def fnExactMostClearWrong : ChangeSpec := { name := "fnExactMostClear", fn := fun _ => fun
  | [d1, d2] => { results := [.lit (.bool false)], args := [d1, d2] }
  | _ => none }
def FnExactMostClearWrongFalsely : Prop := fnExactMostClearRow.holds Try.pinned (OpenSpec.ofChange fnExactMostClearWrong)

/-- 'laws.FnExactPulledWay': WHATEVER THE INPUT: true; the input reads as it did. -/
def fnExactPulledWaySpec : ChangeSpec := { name := "fnExactPulledWay", fn := fun _ => fun
  | [d1, d2] => { results := [.lit (.bool true)], args := [d1, d2] }
  | _ => none }
def fnExactPulledWayRow : OpenClaim := { program := "ytjcmlggdaajicaa", sum := "5c74bf489e5d1586b85086a04aeefcde44080aa43dff58a58d28a67e0d982fd0", func := "loop.example/g00047/laws.FnExactPulledWay", spec := "fnExactPulledWay", apart := false }
def FnExactPulledWaySaid : Prop := fnExactPulledWayRow.holds Try.pinned (OpenSpec.ofChange fnExactPulledWaySpec)

/-- ITS FALSE NEIGHBOUR: 'it returns false'. Refute it at one input. -/
def fnExactPulledWayWrong : ChangeSpec := { name := "fnExactPulledWay", fn := fun _ => fun
  | [d1, d2] => { results := [.lit (.bool false)], args := [d1, d2] }
  | _ => none }
def FnExactPulledWayWrongFalsely : Prop := fnExactPulledWayRow.holds Try.pinned (OpenSpec.ofChange fnExactPulledWayWrong)

/-- 'laws.FnClears': WHATEVER THE INPUT: true; the input reads as it did. -/
def fnClearsSpec : ChangeSpec := { name := "fnClears", fn := fun _ => fun
  | [d] => { results := [.lit (.bool true)], args := [d] }
  | _ => none }
def fnClearsRow : OpenClaim := { program := "ytjcmlggdaajicaa", sum := "5c74bf489e5d1586b85086a04aeefcde44080aa43dff58a58d28a67e0d982fd0", func := "loop.example/g00047/laws.FnClears", spec := "fnClears", apart := false }
def FnClearsSaid : Prop := fnClearsRow.holds Try.pinned (OpenSpec.ofChange fnClearsSpec)

/-- ITS FALSE NEIGHBOUR: 'it returns false'. Refute it at one input. -/
def fnClearsWrong : ChangeSpec := { name := "fnClears", fn := fun _ => fun
  | [d] => { results := [.lit (.bool false)], args := [d] }
  | _ => none }
def FnClearsWrongFalsely : Prop := fnClearsRow.holds Try.pinned (OpenSpec.ofChange fnClearsWrong)

/-- 'laws.FnExactShortestWay': WHATEVER THE INPUT: true; the input reads as it did. -/
def fnExactShortestWaySpec : ChangeSpec := { name := "fnExactShortestWay", fn := fun _ => fun
  | [d1, d2, d3] => { results := [.lit (.bool true)], args := [d1, d2, d3] }
  | _ => none }
def fnExactShortestWayRow : OpenClaim := { program := "ytjcmlggdaajicaa", sum := "5c74bf489e5d1586b85086a04aeefcde44080aa43dff58a58d28a67e0d982fd0", func := "loop.example/g00047/laws.FnExactShortestWay", spec := "fnExactShortestWay", apart := false }
def FnExactShortestWaySaid : Prop := fnExactShortestWayRow.holds Try.pinned (OpenSpec.ofChange fnExactShortestWaySpec)

/-- ITS FALSE NEIGHBOUR: 'it returns false'. Refute it at one input. -/
def fnExactShortestWayWrong : ChangeSpec := { name := "fnExactShortestWay", fn := fun _ => fun
  | [d1, d2, d3] => { results := [.lit (.bool false)], args := [d1, d2, d3] }
  | _ => none }
def FnExactShortestWayWrongFalsely : Prop := fnExactShortestWayRow.holds Try.pinned (OpenSpec.ofChange fnExactShortestWayWrong)

/-- 'laws.FnWays': WHATEVER THE INPUT: true; the input reads as it did. -/
def fnWaysSpec : ChangeSpec := { name := "fnWays", fn := fun _ => fun
  | [d1, d2] => { results := [.lit (.bool true)], args := [d1, d2] }
  | _ => none }
def fnWaysRow : OpenClaim := { program := "ytjcmlggdaajicaa", sum := "5c74bf489e5d1586b85086a04aeefcde44080aa43dff58a58d28a67e0d982fd0", func := "loop.example/g00047/laws.FnWays", spec := "fnWays", apart := false }
def FnWaysSaid : Prop := fnWaysRow.holds Try.pinned (OpenSpec.ofChange fnWaysSpec)

/-- ITS FALSE NEIGHBOUR: 'it returns false'. Refute it at one input. -/
def fnWaysWrong : ChangeSpec := { name := "fnWays", fn := fun _ => fun
  | [d1, d2] => { results := [.lit (.bool false)], args := [d1, d2] }
  | _ => none }
def FnWaysWrongFalsely : Prop := fnWaysRow.holds Try.pinned (OpenSpec.ofChange fnWaysWrong)

/- THE SECOND FORM. 'bulk': how many values and letters a reading holds, each counted each time it is reached (what is shared counts as often as it is met; a slice's spare places count too). A statement '..UptoSaid' is the law's where the arguments, and the package variables that the reading takes, are together of bulk at most 1048576: NARROWER than '..Said'. Prove '..Said' where nothing that the law and all that it calls make is longer than what came in: it says more and counts as full. Else prove '..UptoSaid'. A law counts once. -/
mutual
def uptoBulk {H : Type} : DataW H → Nat
  | .lit (.string bytes) => bytes.length + 1
  | .lit _ => 1
  | .nil => 1
  | .ptr d => uptoBulk d + 1
  | .slice elems spare => uptoBulkAll elems + uptoBulkAll spare + 1
  | .agg parts => uptoBulkAll parts + 1
  | .iface _ d => uptoBulk d + 1
  | .map entries => uptoBulkEntries entries + 1
  | .held _ => 1
def uptoBulkAll {H : Type} : List (DataW H) → Nat
  | [] => 0
  | d :: r => uptoBulk d + uptoBulkAll r
def uptoBulkEntries {H : Type} : List (Lit × DataW H) → Nat
  | [] => 0
  | x :: r => uptoBulkEntry x + uptoBulkEntries r
def uptoBulkEntry {H : Type} : Lit × DataW H → Nat
  | (.string bytes, d) => bytes.length + uptoBulk d + 1
  | (_, d) => uptoBulk d + 1
 end
def uptoSmall : (H : Type) → List (DataW H) → Bool := fun _ ds => decide (uptoBulkAll ds ≤ 1048576)
def OpenSpec.upto (s : _root_.Go.ChangeSpec) : _root_.Go.OpenSpec := { _root_.Go.OpenSpec.ofChange s with cond := some uptoSmall }

/-- 'laws.FnExactClear', WHERE WHAT IT READS IS OF BULK AT MOST 1048576: true; the input reads as it did. -/
def fnExactClearUptoRow : OpenClaim := { program := "ytjcmlggdaajicaa", sum := "5c74bf489e5d1586b85086a04aeefcde44080aa43dff58a58d28a67e0d982fd0", func := "loop.example/g00047/laws.FnExactClear", spec := "fnExactClear", apart := false, narrowed := true }
def FnExactClearUptoSaid : Prop := fnExactClearUptoRow.holds Try.pinned (OpenSpec.upto fnExactClearSpec)

/-- 'laws.FnExactWayCost', WHERE WHAT IT READS IS OF BULK AT MOST 1048576: true; the input reads as it did. -/
def fnExactWayCostUptoRow : OpenClaim := { program := "ytjcmlggdaajicaa", sum := "5c74bf489e5d1586b85086a04aeefcde44080aa43dff58a58d28a67e0d982fd0", func := "loop.example/g00047/laws.FnExactWayCost", spec := "fnExactWayCost", apart := false, narrowed := true }
def FnExactWayCostUptoSaid : Prop := fnExactWayCostUptoRow.holds Try.pinned (OpenSpec.upto fnExactWayCostSpec)

/-- 'laws.FnExactMostClear', WHERE WHAT IT READS IS OF BULK AT MOST 1048576: true; the input reads as it did. -/
def fnExactMostClearUptoRow : OpenClaim := { program := "ytjcmlggdaajicaa", sum := "5c74bf489e5d1586b85086a04aeefcde44080aa43dff58a58d28a67e0d982fd0", func := "loop.example/g00047/laws.FnExactMostClear", spec := "fnExactMostClear", apart := false, narrowed := true }
def FnExactMostClearUptoSaid : Prop := fnExactMostClearUptoRow.holds Try.pinned (OpenSpec.upto fnExactMostClearSpec)

/-- 'laws.FnExactPulledWay', WHERE WHAT IT READS IS OF BULK AT MOST 1048576: true; the input reads as it did. -/
def fnExactPulledWayUptoRow : OpenClaim := { program := "ytjcmlggdaajicaa", sum := "5c74bf489e5d1586b85086a04aeefcde44080aa43dff58a58d28a67e0d982fd0", func := "loop.example/g00047/laws.FnExactPulledWay", spec := "fnExactPulledWay", apart := false, narrowed := true }
def FnExactPulledWayUptoSaid : Prop := fnExactPulledWayUptoRow.holds Try.pinned (OpenSpec.upto fnExactPulledWaySpec)

/-- 'laws.FnClears', WHERE WHAT IT READS IS OF BULK AT MOST 1048576: true; the input reads as it did. -/
def fnClearsUptoRow : OpenClaim := { program := "ytjcmlggdaajicaa", sum := "5c74bf489e5d1586b85086a04aeefcde44080aa43dff58a58d28a67e0d982fd0", func := "loop.example/g00047/laws.FnClears", spec := "fnClears", apart := false, narrowed := true }
def FnClearsUptoSaid : Prop := fnClearsUptoRow.holds Try.pinned (OpenSpec.upto fnClearsSpec)

/-- 'laws.FnExactShortestWay', WHERE WHAT IT READS IS OF BULK AT MOST 1048576: true; the input reads as it did. -/
def fnExactShortestWayUptoRow : OpenClaim := { program := "ytjcmlggdaajicaa", sum := "5c74bf489e5d1586b85086a04aeefcde44080aa43dff58a58d28a67e0d982fd0", func := "loop.example/g00047/laws.FnExactShortestWay", spec := "fnExactShortestWay", apart := false, narrowed := true }
def FnExactShortestWayUptoSaid : Prop := fnExactShortestWayUptoRow.holds Try.pinned (OpenSpec.upto fnExactShortestWaySpec)

/-- 'laws.FnWays', WHERE WHAT IT READS IS OF BULK AT MOST 1048576: true; the input reads as it did. -/
def fnWaysUptoRow : OpenClaim := { program := "ytjcmlggdaajicaa", sum := "5c74bf489e5d1586b85086a04aeefcde44080aa43dff58a58d28a67e0d982fd0", func := "loop.example/g00047/laws.FnWays", spec := "fnWays", apart := false, narrowed := true }
def FnWaysUptoSaid : Prop := fnWaysUptoRow.holds Try.pinned (OpenSpec.upto fnWaysSpec)

end Rows
end Go.Proofs.Ytjcmlggdaajicaa
