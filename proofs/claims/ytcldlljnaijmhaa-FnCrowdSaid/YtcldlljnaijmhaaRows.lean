/-
  No cell of these rows narrows 'for every input' (looked for: loops, veiled, ifaces, maps, wideKeys, modest, calm, conditions, laid).
  DERIVED. THE GIVEN ROWS OF THIS SEAT. 9 by the template 'for every input the law returns true; each argument reads behind the call as it read before'; 0 by the template 'total and deterministic' (their statements: YtcldlljnaijmhaaTotals.lean).
  GIVEN WITH THE SEED: the statements are not yours to turn. If you find one false, say at which input.
  Laid BY PROGRAM, IN A SANDBOX (cutbox-rows.mjs): the forced cells as the released guide's own fill.sh prints them over the translation 6edaa6654dcc5b77… (all of the seat's roots in one cut). By AI agents, Wed Nov 11 2026. No macro, syntax, notation, axiom, sorry.
-/
import Derived.Test.YtcldlljnaijmhaaChecked
import GoSem.Claim
import GoSem.ClaimJoined
import GoSem.ClaimMapViews
import Derived.JoinedTies
import Derived.KernelRfl
namespace Go.Proofs.Ytcldlljnaijmhaa
/- THE CELL 'sum', in the pinned program and in every row, IS THE sha256 OF THE DUMP (.gsa) THAT YtcldlljnaijmhaaProg.lean LOADS. Nothing in Lean hashes anything: it is a label: what it is worth is what the hold of that sum in a sandbox is worth. -/
noncomputable def Try.pinned : Pinned := { name := "ytcldlljnaijmhaa", sum := "6edaa6654dcc5b776356e91356bba4e3b61ac7f320b64c54ef63b7f9c02f5c43", checked := Try.checked }
namespace Rows
def none {H : Type} : Left H := { results := [], args := [] }

/-- 'laws.FnExactWaitRing': WHATEVER THE INPUT: true; the input reads as it did. -/
def fnExactWaitRingSpec : ChangeSpec := { name := "fnExactWaitRing", fn := fun _ => fun
  | [d] => { results := [.lit (.bool true)], args := [d] }
  | _ => none }
def fnExactWaitRingRow : OpenClaim := { program := "ytcldlljnaijmhaa", sum := "6edaa6654dcc5b776356e91356bba4e3b61ac7f320b64c54ef63b7f9c02f5c43", func := "loop.example/g00047/laws.FnExactWaitRing", spec := "fnExactWaitRing", plainKeys := false, apart := false }
def FnExactWaitRingSaid : Prop := fnExactWaitRingRow.holds Try.pinned (OpenSpec.ofChange fnExactWaitRingSpec)

/-- ITS FALSE NEIGHBOUR: 'it returns false'. Refute it at one input. -/
def fnExactWaitRingWrong : ChangeSpec := { name := "fnExactWaitRing", fn := fun _ => fun
  | [d] => { results := [.lit (.bool false)], args := [d] }
  | _ => none }
def FnExactWaitRingWrongFalsely : Prop := fnExactWaitRingRow.holds Try.pinned (OpenSpec.ofChange fnExactWaitRingWrong)

/-- 'laws.FnExactFirstMeet': WHATEVER THE INPUT: true; the input reads as it did. -/
def fnExactFirstMeetSpec : ChangeSpec := { name := "fnExactFirstMeet", fn := fun _ => fun
  | [d] => { results := [.lit (.bool true)], args := [d] }
  | _ => none }
def fnExactFirstMeetRow : OpenClaim := { program := "ytcldlljnaijmhaa", sum := "6edaa6654dcc5b776356e91356bba4e3b61ac7f320b64c54ef63b7f9c02f5c43", func := "loop.example/g00047/laws.FnExactFirstMeet", spec := "fnExactFirstMeet", plainKeys := false, apart := false }
def FnExactFirstMeetSaid : Prop := fnExactFirstMeetRow.holds Try.pinned (OpenSpec.ofChange fnExactFirstMeetSpec)

/-- ITS FALSE NEIGHBOUR: 'it returns false'. Refute it at one input. -/
def fnExactFirstMeetWrong : ChangeSpec := { name := "fnExactFirstMeet", fn := fun _ => fun
  | [d] => { results := [.lit (.bool false)], args := [d] }
  | _ => none }
def FnExactFirstMeetWrongFalsely : Prop := fnExactFirstMeetRow.holds Try.pinned (OpenSpec.ofChange fnExactFirstMeetWrong)

/-- 'laws.FnExactGoodTrips': WHATEVER THE INPUT: true; the input reads as it did. -/
def fnExactGoodTripsSpec : ChangeSpec := { name := "fnExactGoodTrips", fn := fun _ => fun
  | [d1, d2] => { results := [.lit (.bool true)], args := [d1, d2] }
  | _ => none }
def fnExactGoodTripsRow : OpenClaim := { program := "ytcldlljnaijmhaa", sum := "6edaa6654dcc5b776356e91356bba4e3b61ac7f320b64c54ef63b7f9c02f5c43", func := "loop.example/g00047/laws.FnExactGoodTrips", spec := "fnExactGoodTrips", plainKeys := false, apart := false }
def FnExactGoodTripsSaid : Prop := fnExactGoodTripsRow.holds Try.pinned (OpenSpec.ofChange fnExactGoodTripsSpec)

/-- ITS FALSE NEIGHBOUR: 'it returns false'. Refute it at one input. -/
def fnExactGoodTripsWrong : ChangeSpec := { name := "fnExactGoodTrips", fn := fun _ => fun
  | [d1, d2] => { results := [.lit (.bool false)], args := [d1, d2] }
  | _ => none }
def FnExactGoodTripsWrongFalsely : Prop := fnExactGoodTripsRow.holds Try.pinned (OpenSpec.ofChange fnExactGoodTripsWrong)

/-- 'laws.FnExactAloneTicks': WHATEVER THE INPUT: true; the input reads as it did. -/
def fnExactAloneTicksSpec : ChangeSpec := { name := "fnExactAloneTicks", fn := fun _ => fun
  | [d1, d2] => { results := [.lit (.bool true)], args := [d1, d2] }
  | _ => none }
def fnExactAloneTicksRow : OpenClaim := { program := "ytcldlljnaijmhaa", sum := "6edaa6654dcc5b776356e91356bba4e3b61ac7f320b64c54ef63b7f9c02f5c43", func := "loop.example/g00047/laws.FnExactAloneTicks", spec := "fnExactAloneTicks", plainKeys := false, apart := false }
def FnExactAloneTicksSaid : Prop := fnExactAloneTicksRow.holds Try.pinned (OpenSpec.ofChange fnExactAloneTicksSpec)

/-- ITS FALSE NEIGHBOUR: 'it returns false'. Refute it at one input. -/
def fnExactAloneTicksWrong : ChangeSpec := { name := "fnExactAloneTicks", fn := fun _ => fun
  | [d1, d2] => { results := [.lit (.bool false)], args := [d1, d2] }
  | _ => none }
def FnExactAloneTicksWrongFalsely : Prop := fnExactAloneTicksRow.holds Try.pinned (OpenSpec.ofChange fnExactAloneTicksWrong)

/-- 'laws.FnExactJointTicks': WHATEVER THE INPUT: true; the input reads as it did. -/
def fnExactJointTicksSpec : ChangeSpec := { name := "fnExactJointTicks", fn := fun _ => fun
  | [d1, d2, d3] => { results := [.lit (.bool true)], args := [d1, d2, d3] }
  | _ => none }
def fnExactJointTicksRow : OpenClaim := { program := "ytcldlljnaijmhaa", sum := "6edaa6654dcc5b776356e91356bba4e3b61ac7f320b64c54ef63b7f9c02f5c43", func := "loop.example/g00047/laws.FnExactJointTicks", spec := "fnExactJointTicks", plainKeys := false, apart := false }
def FnExactJointTicksSaid : Prop := fnExactJointTicksRow.holds Try.pinned (OpenSpec.ofChange fnExactJointTicksSpec)

/-- ITS FALSE NEIGHBOUR: 'it returns false'. Refute it at one input. -/
def fnExactJointTicksWrong : ChangeSpec := { name := "fnExactJointTicks", fn := fun _ => fun
  | [d1, d2, d3] => { results := [.lit (.bool false)], args := [d1, d2, d3] }
  | _ => none }
def FnExactJointTicksWrongFalsely : Prop := fnExactJointTicksRow.holds Try.pinned (OpenSpec.ofChange fnExactJointTicksWrong)

/-- 'laws.FnExactGoodPaths': WHATEVER THE INPUT: true; the input reads as it did. -/
def fnExactGoodPathsSpec : ChangeSpec := { name := "fnExactGoodPaths", fn := fun _ => fun
  | [d1, d2, d3] => { results := [.lit (.bool true)], args := [d1, d2, d3] }
  | _ => none }
def fnExactGoodPathsRow : OpenClaim := { program := "ytcldlljnaijmhaa", sum := "6edaa6654dcc5b776356e91356bba4e3b61ac7f320b64c54ef63b7f9c02f5c43", func := "loop.example/g00047/laws.FnExactGoodPaths", spec := "fnExactGoodPaths", plainKeys := false, apart := false }
def FnExactGoodPathsSaid : Prop := fnExactGoodPathsRow.holds Try.pinned (OpenSpec.ofChange fnExactGoodPathsSpec)

/-- ITS FALSE NEIGHBOUR: 'it returns false'. Refute it at one input. -/
def fnExactGoodPathsWrong : ChangeSpec := { name := "fnExactGoodPaths", fn := fun _ => fun
  | [d1, d2, d3] => { results := [.lit (.bool false)], args := [d1, d2, d3] }
  | _ => none }
def FnExactGoodPathsWrongFalsely : Prop := fnExactGoodPathsRow.holds Try.pinned (OpenSpec.ofChange fnExactGoodPathsWrong)

/-- 'laws.FnExactPlanCrowd': WHATEVER THE INPUT: true; the input reads as it did. -/
def fnExactPlanCrowdSpec : ChangeSpec := { name := "fnExactPlanCrowd", fn := fun _ => fun
  | [d1, d2, d3] => { results := [.lit (.bool true)], args := [d1, d2, d3] }
  | _ => none }
def fnExactPlanCrowdRow : OpenClaim := { program := "ytcldlljnaijmhaa", sum := "6edaa6654dcc5b776356e91356bba4e3b61ac7f320b64c54ef63b7f9c02f5c43", func := "loop.example/g00047/laws.FnExactPlanCrowd", spec := "fnExactPlanCrowd", unfollowed := true, recurses := true, plainKeys := false, apart := false }
def FnExactPlanCrowdSaid : Prop := fnExactPlanCrowdRow.holds Try.pinned (OpenSpec.ofChange fnExactPlanCrowdSpec)

/-- ITS FALSE NEIGHBOUR: 'it returns false'. Refute it at one input. -/
def fnExactPlanCrowdWrong : ChangeSpec := { name := "fnExactPlanCrowd", fn := fun _ => fun
  | [d1, d2, d3] => { results := [.lit (.bool false)], args := [d1, d2, d3] }
  | _ => none }
def FnExactPlanCrowdWrongFalsely : Prop := fnExactPlanCrowdRow.holds Try.pinned (OpenSpec.ofChange fnExactPlanCrowdWrong)

/-- 'laws.FnMeets': WHATEVER THE INPUT: true; the input reads as it did. -/
def fnMeetsSpec : ChangeSpec := { name := "fnMeets", fn := fun _ => fun
  | [d1, d2] => { results := [.lit (.bool true)], args := [d1, d2] }
  | _ => none }
def fnMeetsRow : OpenClaim := { program := "ytcldlljnaijmhaa", sum := "6edaa6654dcc5b776356e91356bba4e3b61ac7f320b64c54ef63b7f9c02f5c43", func := "loop.example/g00047/laws.FnMeets", spec := "fnMeets", unfollowed := true, recurses := true, plainKeys := false, apart := false }
def FnMeetsSaid : Prop := fnMeetsRow.holds Try.pinned (OpenSpec.ofChange fnMeetsSpec)

/-- ITS FALSE NEIGHBOUR: 'it returns false'. Refute it at one input. -/
def fnMeetsWrong : ChangeSpec := { name := "fnMeets", fn := fun _ => fun
  | [d1, d2] => { results := [.lit (.bool false)], args := [d1, d2] }
  | _ => none }
def FnMeetsWrongFalsely : Prop := fnMeetsRow.holds Try.pinned (OpenSpec.ofChange fnMeetsWrong)

/-- 'laws.FnCrowd': WHATEVER THE INPUT: true; the input reads as it did. -/
def fnCrowdSpec : ChangeSpec := { name := "fnCrowd", fn := fun _ => fun
  | [d] => { results := [.lit (.bool true)], args := [d] }
  | _ => none }
def fnCrowdRow : OpenClaim := { program := "ytcldlljnaijmhaa", sum := "6edaa6654dcc5b776356e91356bba4e3b61ac7f320b64c54ef63b7f9c02f5c43", func := "loop.example/g00047/laws.FnCrowd", spec := "fnCrowd", unfollowed := true, recurses := true, plainKeys := false, apart := false }
def FnCrowdSaid : Prop := fnCrowdRow.holds Try.pinned (OpenSpec.ofChange fnCrowdSpec)

/-- ITS FALSE NEIGHBOUR: 'it returns false'. Refute it at one input. -/
def fnCrowdWrong : ChangeSpec := { name := "fnCrowd", fn := fun _ => fun
  | [d] => { results := [.lit (.bool false)], args := [d] }
  | _ => none }
def FnCrowdWrongFalsely : Prop := fnCrowdRow.holds Try.pinned (OpenSpec.ofChange fnCrowdWrong)

/- THE SECOND FORM. 'bulk': how many values and letters a reading holds, each counted each time it is reached (what is shared counts as often as it is met; a slice's spare places count too). A statement '..UptoSaid' is the law's where the arguments, and the package variables that the reading takes, are together of bulk at most 1048576: NARROWER than '..Said'. Prove '..Said' where nothing that the law and all that it calls make is longer than what came in: it says more and counts as full. Else prove '..UptoSaid'. A law counts once. -/
mutual
def uptoBulk {H : Type} : DataW H → Nat
  | .lit (.string bytes) => bytes.length + 1
  | .lit _ => 1
  | .nil => 1
  | .ptr d => uptoBulk d + 1
  | .slice elems spare => uptoBulkAll elems + uptoBulkAll spare + 1
  | .agg parts => uptoBulkAll parts + 1
  | .iface _ d => uptoBulk d + 1
  | .map entries => uptoBulkEntries entries + 1
  | .held _ => 1
def uptoBulkAll {H : Type} : List (DataW H) → Nat
  | [] => 0
  | d :: r => uptoBulk d + uptoBulkAll r
def uptoBulkEntries {H : Type} : List (Lit × DataW H) → Nat
  | [] => 0
  | x :: r => uptoBulkEntry x + uptoBulkEntries r
def uptoBulkEntry {H : Type} : Lit × DataW H → Nat
  | (.string bytes, d) => bytes.length + uptoBulk d + 1
  | (_, d) => uptoBulk d + 1
 end
def uptoSmall : (H : Type) → List (DataW H) → Bool := fun _ ds => decide (uptoBulkAll ds ≤ 1048576)
def OpenSpec.upto (s : _root_.Go.ChangeSpec) : _root_.Go.OpenSpec := { _root_.Go.OpenSpec.ofChange s with cond := some uptoSmall }

/-- 'laws.FnExactWaitRing', WHERE WHAT IT READS IS OF BULK AT MOST 1048576: true; the input reads as it did. -/
def fnExactWaitRingUptoRow : OpenClaim := { program := "ytcldlljnaijmhaa", sum := "6edaa6654dcc5b776356e91356bba4e3b61ac7f320b64c54ef63b7f9c02f5c43", func := "loop.example/g00047/laws.FnExactWaitRing", spec := "fnExactWaitRing", plainKeys := false, apart := false, narrowed := true }
def FnExactWaitRingUptoSaid : Prop := fnExactWaitRingUptoRow.holds Try.pinned (OpenSpec.upto fnExactWaitRingSpec)

/-- 'laws.FnExactFirstMeet', WHERE WHAT IT READS IS OF BULK AT MOST 1048576: true; the input reads as it did. -/
def fnExactFirstMeetUptoRow : OpenClaim := { program := "ytcldlljnaijmhaa", sum := "6edaa6654dcc5b776356e91356bba4e3b61ac7f320b64c54ef63b7f9c02f5c43", func := "loop.example/g00047/laws.FnExactFirstMeet", spec := "fnExactFirstMeet", plainKeys := false, apart := false, narrowed := true }
def FnExactFirstMeetUptoSaid : Prop := fnExactFirstMeetUptoRow.holds Try.pinned (OpenSpec.upto fnExactFirstMeetSpec)

/-- 'laws.FnExactGoodTrips', WHERE WHAT IT READS IS OF BULK AT MOST 1048576: true; the input reads as it did. -/
def fnExactGoodTripsUptoRow : OpenClaim := { program := "ytcldlljnaijmhaa", sum := "6edaa6654dcc5b776356e91356bba4e3b61ac7f320b64c54ef63b7f9c02f5c43", func := "loop.example/g00047/laws.FnExactGoodTrips", spec := "fnExactGoodTrips", plainKeys := false, apart := false, narrowed := true }
def FnExactGoodTripsUptoSaid : Prop := fnExactGoodTripsUptoRow.holds Try.pinned (OpenSpec.upto fnExactGoodTripsSpec)

/-- 'laws.FnExactAloneTicks', WHERE WHAT IT READS IS OF BULK AT MOST 1048576: true; the input reads as it did. -/
def fnExactAloneTicksUptoRow : OpenClaim := { program := "ytcldlljnaijmhaa", sum := "6edaa6654dcc5b776356e91356bba4e3b61ac7f320b64c54ef63b7f9c02f5c43", func := "loop.example/g00047/laws.FnExactAloneTicks", spec := "fnExactAloneTicks", plainKeys := false, apart := false, narrowed := true }
def FnExactAloneTicksUptoSaid : Prop := fnExactAloneTicksUptoRow.holds Try.pinned (OpenSpec.upto fnExactAloneTicksSpec)

/-- 'laws.FnExactJointTicks', WHERE WHAT IT READS IS OF BULK AT MOST 1048576: true; the input reads as it did. -/
def fnExactJointTicksUptoRow : OpenClaim := { program := "ytcldlljnaijmhaa", sum := "6edaa6654dcc5b776356e91356bba4e3b61ac7f320b64c54ef63b7f9c02f5c43", func := "loop.example/g00047/laws.FnExactJointTicks", spec := "fnExactJointTicks", plainKeys := false, apart := false, narrowed := true }
def FnExactJointTicksUptoSaid : Prop := fnExactJointTicksUptoRow.holds Try.pinned (OpenSpec.upto fnExactJointTicksSpec)

/-- 'laws.FnExactGoodPaths', WHERE WHAT IT READS IS OF BULK AT MOST 1048576: true; the input reads as it did. -/
def fnExactGoodPathsUptoRow : OpenClaim := { program := "ytcldlljnaijmhaa", sum := "6edaa6654dcc5b776356e91356bba4e3b61ac7f320b64c54ef63b7f9c02f5c43", func := "loop.example/g00047/laws.FnExactGoodPaths", spec := "fnExactGoodPaths", plainKeys := false, apart := false, narrowed := true }
def FnExactGoodPathsUptoSaid : Prop := fnExactGoodPathsUptoRow.holds Try.pinned (OpenSpec.upto fnExactGoodPathsSpec)

/-- 'laws.FnExactPlanCrowd', WHERE WHAT IT READS IS OF BULK AT MOST 1048576: true; the input reads as it did. -/
def fnExactPlanCrowdUptoRow : OpenClaim := { program := "ytcldlljnaijmhaa", sum := "6edaa6654dcc5b776356e91356bba4e3b61ac7f320b64c54ef63b7f9c02f5c43", func := "loop.example/g00047/laws.FnExactPlanCrowd", spec := "fnExactPlanCrowd", unfollowed := true, recurses := true, plainKeys := false, apart := false, narrowed := true }
def FnExactPlanCrowdUptoSaid : Prop := fnExactPlanCrowdUptoRow.holds Try.pinned (OpenSpec.upto fnExactPlanCrowdSpec)

/-- 'laws.FnMeets', WHERE WHAT IT READS IS OF BULK AT MOST 1048576: true; the input reads as it did. -/
def fnMeetsUptoRow : OpenClaim := { program := "ytcldlljnaijmhaa", sum := "6edaa6654dcc5b776356e91356bba4e3b61ac7f320b64c54ef63b7f9c02f5c43", func := "loop.example/g00047/laws.FnMeets", spec := "fnMeets", unfollowed := true, recurses := true, plainKeys := false, apart := false, narrowed := true }
def FnMeetsUptoSaid : Prop := fnMeetsUptoRow.holds Try.pinned (OpenSpec.upto fnMeetsSpec)

/-- 'laws.FnCrowd', WHERE WHAT IT READS IS OF BULK AT MOST 1048576: true; the input reads as it did. -/
def fnCrowdUptoRow : OpenClaim := { program := "ytcldlljnaijmhaa", sum := "6edaa6654dcc5b776356e91356bba4e3b61ac7f320b64c54ef63b7f9c02f5c43", func := "loop.example/g00047/laws.FnCrowd", spec := "fnCrowd", unfollowed := true, recurses := true, plainKeys := false, apart := false, narrowed := true }
def FnCrowdUptoSaid : Prop := fnCrowdUptoRow.holds Try.pinned (OpenSpec.upto fnCrowdSpec)

end Rows
end Go.Proofs.Ytcldlljnaijmhaa
