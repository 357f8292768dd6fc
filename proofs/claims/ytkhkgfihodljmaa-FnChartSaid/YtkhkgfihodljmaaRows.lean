/-
  No cell of these rows narrows 'for every input' (looked for: loops, veiled, ifaces, maps, wideKeys, modest, calm, conditions, laid).
  DERIVED. THE GIVEN ROWS OF THIS SEAT. 9 by the template 'for every input the law returns true; each argument reads behind the call as it read before'; 0 by the template 'total and deterministic' (their statements: YtkhkgfihodljmaaTotals.lean).
  GIVEN WITH THE SEED: the statements are not yours to turn. If you find one false, say at which input.
  Laid BY PROGRAM, IN A SANDBOX (cutbox-rows.mjs): the forced cells as the released guide's own fill.sh prints them over the translation 83f4fa15d42fef59… (all of the seat's roots in one cut). By AI agents, Wed Nov 11 2026. No macro, syntax, notation, axiom, sorry.
-/
import Derived.Test.YtkhkgfihodljmaaChecked
import GoSem.Claim
import GoSem.ClaimJoined
import GoSem.ClaimMapViews
import Derived.JoinedTies
import Derived.KernelRfl
namespace Go.Proofs.Ytkhkgfihodljmaa
/- THE CELL 'sum', in the pinned program and in every row, IS THE sha256 OF THE DUMP (.gsa) THAT YtkhkgfihodljmaaProg.lean LOADS. Nothing in Lean hashes anything: it is a label: what it is worth is what the hold of that sum in a sandbox is worth. -/
noncomputable def Try.pinned : Pinned := { name := "ytkhkgfihodljmaa", sum := "83f4fa15d42fef59a306be0e4c3764336dc582cb6faf332c37b0f1cbd9c5b953", checked := Try.checked }
namespace Rows
def none {H : Type} : Left H := { results := [], args := [] }

/-- 'laws.FnExactGoodTree': WHATEVER THE INPUT: true; the input reads as it did. -/
def fnExactGoodTreeSpec : ChangeSpec := { name := "fnExactGoodTree", fn := fun _ => fun
  | [d] => { results := [.lit (.bool true)], args := [d] }
  | _ => none }
def fnExactGoodTreeRow : OpenClaim := { program := "ytkhkgfihodljmaa", sum := "83f4fa15d42fef59a306be0e4c3764336dc582cb6faf332c37b0f1cbd9c5b953", func := "loop.example/g00047/laws.FnExactGoodTree", spec := "fnExactGoodTree", apart := false }
def FnExactGoodTreeSaid : Prop := fnExactGoodTreeRow.holds Try.pinned (OpenSpec.ofChange fnExactGoodTreeSpec)

/-- ITS FALSE NEIGHBOUR: 'it returns false'. Refute it at one input. -/
def fnExactGoodTreeWrong : ChangeSpec := { name := "fnExactGoodTree", fn := fun _ => fun
  | [d] => { results := [.lit (.bool false)], args := [d] }
  | _ => none }
def FnExactGoodTreeWrongFalsely : Prop := fnExactGoodTreeRow.holds Try.pinned (OpenSpec.ofChange fnExactGoodTreeWrong)

/-- 'laws.FnUnwrap': WHATEVER THE INPUT: true; the input reads as it did. -/
def fnUnwrapSpec : ChangeSpec := { name := "fnUnwrap", fn := fun _ => fun
  | [d] => { results := [.lit (.bool true)], args := [d] }
  | _ => none }
def fnUnwrapRow : OpenClaim := { program := "ytkhkgfihodljmaa", sum := "83f4fa15d42fef59a306be0e4c3764336dc582cb6faf332c37b0f1cbd9c5b953", func := "loop.example/g00047/laws.FnUnwrap", spec := "fnUnwrap", apart := false }
def FnUnwrapSaid : Prop := fnUnwrapRow.holds Try.pinned (OpenSpec.ofChange fnUnwrapSpec)

/-- ITS FALSE NEIGHBOUR: 'it returns false'. Refute it at one input. -/
def fnUnwrapWrong : ChangeSpec := { name := "fnUnwrap", fn := fun _ => fun
  | [d] => { results := [.lit (.bool false)], args := [d] }
  | _ => none }
def FnUnwrapWrongFalsely : Prop := fnUnwrapRow.holds Try.pinned (OpenSpec.ofChange fnUnwrapWrong)

/-- 'laws.FnExactRunFlat': WHATEVER THE INPUT: true; the input reads as it did. -/
def fnExactRunFlatSpec : ChangeSpec := { name := "fnExactRunFlat", fn := fun _ => fun
  | [d1, d2, d3] => { results := [.lit (.bool true)], args := [d1, d2, d3] }
  | _ => none }
def fnExactRunFlatRow : OpenClaim := { program := "ytkhkgfihodljmaa", sum := "83f4fa15d42fef59a306be0e4c3764336dc582cb6faf332c37b0f1cbd9c5b953", func := "loop.example/g00047/laws.FnExactRunFlat", spec := "fnExactRunFlat", unfollowed := true, recurses := true, apart := false }
def FnExactRunFlatSaid : Prop := fnExactRunFlatRow.holds Try.pinned (OpenSpec.ofChange fnExactRunFlatSpec)

/-- ITS FALSE NEIGHBOUR: 'it returns false'. Refute it at one input. -/
def fnExactRunFlatWrong : ChangeSpec := { name := "fnExactRunFlat", fn := fun _ => fun
  | [d1, d2, d3] => { results := [.lit (.bool false)], args := [d1, d2, d3] }
  | _ => none }
def FnExactRunFlatWrongFalsely : Prop := fnExactRunFlatRow.holds Try.pinned (OpenSpec.ofChange fnExactRunFlatWrong)

/-- 'laws.FnExactGoodChart': WHATEVER THE INPUT: true; the input reads as it did. -/
def fnExactGoodChartSpec : ChangeSpec := { name := "fnExactGoodChart", fn := fun _ => fun
  | [d] => { results := [.lit (.bool true)], args := [d] }
  | _ => none }
def fnExactGoodChartRow : OpenClaim := { program := "ytkhkgfihodljmaa", sum := "83f4fa15d42fef59a306be0e4c3764336dc582cb6faf332c37b0f1cbd9c5b953", func := "loop.example/g00047/laws.FnExactGoodChart", spec := "fnExactGoodChart", apart := false }
def FnExactGoodChartSaid : Prop := fnExactGoodChartRow.holds Try.pinned (OpenSpec.ofChange fnExactGoodChartSpec)

/-- ITS FALSE NEIGHBOUR: 'it returns false'. Refute it at one input. -/
def fnExactGoodChartWrong : ChangeSpec := { name := "fnExactGoodChart", fn := fun _ => fun
  | [d] => { results := [.lit (.bool false)], args := [d] }
  | _ => none }
def FnExactGoodChartWrongFalsely : Prop := fnExactGoodChartRow.holds Try.pinned (OpenSpec.ofChange fnExactGoodChartWrong)

/-- 'laws.FnExactEnterState': WHATEVER THE INPUT: true; the input reads as it did. -/
def fnExactEnterStateSpec : ChangeSpec := { name := "fnExactEnterState", fn := fun _ => fun
  | [d1, d2] => { results := [.lit (.bool true)], args := [d1, d2] }
  | _ => none }
def fnExactEnterStateRow : OpenClaim := { program := "ytkhkgfihodljmaa", sum := "83f4fa15d42fef59a306be0e4c3764336dc582cb6faf332c37b0f1cbd9c5b953", func := "loop.example/g00047/laws.FnExactEnterState", spec := "fnExactEnterState", apart := false }
def FnExactEnterStateSaid : Prop := fnExactEnterStateRow.holds Try.pinned (OpenSpec.ofChange fnExactEnterStateSpec)

/-- ITS FALSE NEIGHBOUR: 'it returns false'. Refute it at one input. -/
def fnExactEnterStateWrong : ChangeSpec := { name := "fnExactEnterState", fn := fun _ => fun
  | [d1, d2] => { results := [.lit (.bool false)], args := [d1, d2] }
  | _ => none }
def FnExactEnterStateWrongFalsely : Prop := fnExactEnterStateRow.holds Try.pinned (OpenSpec.ofChange fnExactEnterStateWrong)

/-- 'laws.FnExactChartStep': WHATEVER THE INPUT: true; the input reads as it did. -/
def fnExactChartStepSpec : ChangeSpec := { name := "fnExactChartStep", fn := fun _ => fun
  | [d1, d2, d3] => { results := [.lit (.bool true)], args := [d1, d2, d3] }
  | _ => none }
def fnExactChartStepRow : OpenClaim := { program := "ytkhkgfihodljmaa", sum := "83f4fa15d42fef59a306be0e4c3764336dc582cb6faf332c37b0f1cbd9c5b953", func := "loop.example/g00047/laws.FnExactChartStep", spec := "fnExactChartStep", apart := false }
def FnExactChartStepSaid : Prop := fnExactChartStepRow.holds Try.pinned (OpenSpec.ofChange fnExactChartStepSpec)

/-- ITS FALSE NEIGHBOUR: 'it returns false'. Refute it at one input. -/
def fnExactChartStepWrong : ChangeSpec := { name := "fnExactChartStep", fn := fun _ => fun
  | [d1, d2, d3] => { results := [.lit (.bool false)], args := [d1, d2, d3] }
  | _ => none }
def FnExactChartStepWrongFalsely : Prop := fnExactChartStepRow.holds Try.pinned (OpenSpec.ofChange fnExactChartStepWrong)

/-- 'laws.FnChart': WHATEVER THE INPUT: true; the input reads as it did. -/
def fnChartSpec : ChangeSpec := { name := "fnChart", fn := fun _ => fun
  | [d] => { results := [.lit (.bool true)], args := [d] }
  | _ => none }
def fnChartRow : OpenClaim := { program := "ytkhkgfihodljmaa", sum := "83f4fa15d42fef59a306be0e4c3764336dc582cb6faf332c37b0f1cbd9c5b953", func := "loop.example/g00047/laws.FnChart", spec := "fnChart", unfollowed := true, recurses := true, apart := false }
def FnChartSaid : Prop := fnChartRow.holds Try.pinned (OpenSpec.ofChange fnChartSpec)

/-- ITS FALSE NEIGHBOUR: 'it returns false'. Refute it at one input. -/
def fnChartWrong : ChangeSpec := { name := "fnChart", fn := fun _ => fun
  | [d] => { results := [.lit (.bool false)], args := [d] }
  | _ => none }
def FnChartWrongFalsely : Prop := fnChartRow.holds Try.pinned (OpenSpec.ofChange fnChartWrong)

/-- 'laws.FnExactRunChart': WHATEVER THE INPUT: true; the input reads as it did. -/
def fnExactRunChartSpec : ChangeSpec := { name := "fnExactRunChart", fn := fun _ => fun
  | [d1, d2] => { results := [.lit (.bool true)], args := [d1, d2] }
  | _ => none }
def fnExactRunChartRow : OpenClaim := { program := "ytkhkgfihodljmaa", sum := "83f4fa15d42fef59a306be0e4c3764336dc582cb6faf332c37b0f1cbd9c5b953", func := "loop.example/g00047/laws.FnExactRunChart", spec := "fnExactRunChart", apart := false }
def FnExactRunChartSaid : Prop := fnExactRunChartRow.holds Try.pinned (OpenSpec.ofChange fnExactRunChartSpec)

/-- ITS FALSE NEIGHBOUR: 'it returns false'. Refute it at one input. -/
def fnExactRunChartWrong : ChangeSpec := { name := "fnExactRunChart", fn := fun _ => fun
  | [d1, d2] => { results := [.lit (.bool false)], args := [d1, d2] }
  | _ => none }
def FnExactRunChartWrongFalsely : Prop := fnExactRunChartRow.holds Try.pinned (OpenSpec.ofChange fnExactRunChartWrong)

/-- 'laws.FnExactFlatChart': WHATEVER THE INPUT: true; the input reads as it did. -/
def fnExactFlatChartSpec : ChangeSpec := { name := "fnExactFlatChart", fn := fun _ => fun
  | [d] => { results := [.lit (.bool true)], args := [d] }
  | _ => none }
def fnExactFlatChartRow : OpenClaim := { program := "ytkhkgfihodljmaa", sum := "83f4fa15d42fef59a306be0e4c3764336dc582cb6faf332c37b0f1cbd9c5b953", func := "loop.example/g00047/laws.FnExactFlatChart", spec := "fnExactFlatChart", apart := false }
def FnExactFlatChartSaid : Prop := fnExactFlatChartRow.holds Try.pinned (OpenSpec.ofChange fnExactFlatChartSpec)

/-- ITS FALSE NEIGHBOUR: 'it returns false'. Refute it at one input. -/
def fnExactFlatChartWrong : ChangeSpec := { name := "fnExactFlatChart", fn := fun _ => fun
  | [d] => { results := [.lit (.bool false)], args := [d] }
  | _ => none }
def FnExactFlatChartWrongFalsely : Prop := fnExactFlatChartRow.holds Try.pinned (OpenSpec.ofChange fnExactFlatChartWrong)

/- THE SECOND FORM. 'bulk': how many values and letters a reading holds, each counted each time it is reached (what is shared counts as often as it is met; a slice's spare places count too). A statement '..UptoSaid' is the law's where the arguments, and the package variables that the reading takes, are together of bulk at most 1048576: NARROWER than '..Said'. Prove '..Said' where nothing that the law and all that it calls make is longer than what came in: it says more and counts as full. Else prove '..UptoSaid'. A law counts once. -/
mutual
def uptoBulk {H : Type} : DataW H → Nat
  | .lit (.string bytes) => bytes.length + 1
  | .lit _ => 1
  | .nil => 1
  | .ptr d => uptoBulk d + 1
  | .slice elems spare => uptoBulkAll elems + uptoBulkAll spare + 1
  | .agg parts => uptoBulkAll parts + 1
  | .iface _ d => uptoBulk d + 1
  | .map entries => uptoBulkEntries entries + 1
  | .held _ => 1
def uptoBulkAll {H : Type} : List (DataW H) → Nat
  | [] => 0
  | d :: r => uptoBulk d + uptoBulkAll r
def uptoBulkEntries {H : Type} : List (Lit × DataW H) → Nat
  | [] => 0
  | x :: r => uptoBulkEntry x + uptoBulkEntries r
def uptoBulkEntry {H : Type} : Lit × DataW H → Nat
  | (.string bytes, d) => bytes.length + uptoBulk d + 1
  | (_, d) => uptoBulk d + 1
 end
def uptoSmall : (H : Type) → List (DataW H) → Bool := fun _ ds => decide (uptoBulkAll ds ≤ 1048576)
def OpenSpec.upto (s : _root_.Go.ChangeSpec) : _root_.Go.OpenSpec := { _root_.Go.OpenSpec.ofChange s with cond := some uptoSmall }

/-- 'laws.FnExactGoodTree', WHERE WHAT IT READS IS OF BULK AT MOST 1048576: true; the input reads as it did. -/
def fnExactGoodTreeUptoRow : OpenClaim := { program := "ytkhkgfihodljmaa", sum := "83f4fa15d42fef59a306be0e4c3764336dc582cb6faf332c37b0f1cbd9c5b953", func := "loop.example/g00047/laws.FnExactGoodTree", spec := "fnExactGoodTree", apart := false, narrowed := true }
def FnExactGoodTreeUptoSaid : Prop := fnExactGoodTreeUptoRow.holds Try.pinned (OpenSpec.upto fnExactGoodTreeSpec)

/-- 'laws.FnUnwrap', WHERE WHAT IT READS IS OF BULK AT MOST 1048576: true; the input reads as it did. -/
def fnUnwrapUptoRow : OpenClaim := { program := "ytkhkgfihodljmaa", sum := "83f4fa15d42fef59a306be0e4c3764336dc582cb6faf332c37b0f1cbd9c5b953", func := "loop.example/g00047/laws.FnUnwrap", spec := "fnUnwrap", apart := false, narrowed := true }
def FnUnwrapUptoSaid : Prop := fnUnwrapUptoRow.holds Try.pinned (OpenSpec.upto fnUnwrapSpec)

/-- 'laws.FnExactRunFlat', WHERE WHAT IT READS IS OF BULK AT MOST 1048576: true; the input reads as it did. -/
def fnExactRunFlatUptoRow : OpenClaim := { program := "ytkhkgfihodljmaa", sum := "83f4fa15d42fef59a306be0e4c3764336dc582cb6faf332c37b0f1cbd9c5b953", func := "loop.example/g00047/laws.FnExactRunFlat", spec := "fnExactRunFlat", unfollowed := true, recurses := true, apart := false, narrowed := true }
def FnExactRunFlatUptoSaid : Prop := fnExactRunFlatUptoRow.holds Try.pinned (OpenSpec.upto fnExactRunFlatSpec)

/-- 'laws.FnExactGoodChart', WHERE WHAT IT READS IS OF BULK AT MOST 1048576: true; the input reads as it did. -/
def fnExactGoodChartUptoRow : OpenClaim := { program := "ytkhkgfihodljmaa", sum := "83f4fa15d42fef59a306be0e4c3764336dc582cb6faf332c37b0f1cbd9c5b953", func := "loop.example/g00047/laws.FnExactGoodChart", spec := "fnExactGoodChart", apart := false, narrowed := true }
def FnExactGoodChartUptoSaid : Prop := fnExactGoodChartUptoRow.holds Try.pinned (OpenSpec.upto fnExactGoodChartSpec)

/-- 'laws.FnExactEnterState', WHERE WHAT IT READS IS OF BULK AT MOST 1048576: true; the input reads as it did. -/
def fnExactEnterStateUptoRow : OpenClaim := { program := "ytkhkgfihodljmaa", sum := "83f4fa15d42fef59a306be0e4c3764336dc582cb6faf332c37b0f1cbd9c5b953", func := "loop.example/g00047/laws.FnExactEnterState", spec := "fnExactEnterState", apart := false, narrowed := true }
def FnExactEnterStateUptoSaid : Prop := fnExactEnterStateUptoRow.holds Try.pinned (OpenSpec.upto fnExactEnterStateSpec)

/-- 'laws.FnExactChartStep', WHERE WHAT IT READS IS OF BULK AT MOST 1048576: true; the input reads as it did. -/
def fnExactChartStepUptoRow : OpenClaim := { program := "ytkhkgfihodljmaa", sum := "83f4fa15d42fef59a306be0e4c3764336dc582cb6faf332c37b0f1cbd9c5b953", func := "loop.example/g00047/laws.FnExactChartStep", spec := "fnExactChartStep", apart := false, narrowed := true }
def FnExactChartStepUptoSaid : Prop := fnExactChartStepUptoRow.holds Try.pinned (OpenSpec.upto fnExactChartStepSpec)

/-- 'laws.FnChart', WHERE WHAT IT READS IS OF BULK AT MOST 1048576: true; the input reads as it did. -/
def fnChartUptoRow : OpenClaim := { program := "ytkhkgfihodljmaa", sum := "83f4fa15d42fef59a306be0e4c3764336dc582cb6faf332c37b0f1cbd9c5b953", func := "loop.example/g00047/laws.FnChart", spec := "fnChart", unfollowed := true, recurses := true, apart := false, narrowed := true }
def FnChartUptoSaid : Prop := fnChartUptoRow.holds Try.pinned (OpenSpec.upto fnChartSpec)

/-- 'laws.FnExactRunChart', WHERE WHAT IT READS IS OF BULK AT MOST 1048576: true; the input reads as it did. -/
def fnExactRunChartUptoRow : OpenClaim := { program := "ytkhkgfihodljmaa", sum := "83f4fa15d42fef59a306be0e4c3764336dc582cb6faf332c37b0f1cbd9c5b953", func := "loop.example/g00047/laws.FnExactRunChart", spec := "fnExactRunChart", apart := false, narrowed := true }
def FnExactRunChartUptoSaid : Prop := fnExactRunChartUptoRow.holds Try.pinned (OpenSpec.upto fnExactRunChartSpec)

/-- 'laws.FnExactFlatChart', WHERE WHAT IT READS IS OF BULK AT MOST 1048576: true; the input reads as it did. -/
def fnExactFlatChartUptoRow : OpenClaim := { program := "ytkhkgfihodljmaa", sum := "83f4fa15d42fef59a306be0e4c3764336dc582cb6faf332c37b0f1cbd9c5b953", func := "loop.example/g00047/laws.FnExactFlatChart", spec := "fnExactFlatChart", apart := false, narrowed := true }
def FnExactFlatChartUptoSaid : Prop := fnExactFlatChartUptoRow.holds Try.pinned (OpenSpec.upto fnExactFlatChartSpec)

end Rows
end Go.Proofs.Ytkhkgfihodljmaa
