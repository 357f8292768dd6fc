/-
  No cell of these rows narrows 'for every input' (looked for: loops, veiled, ifaces, maps, wideKeys, modest, calm, conditions, laid).
  DERIVED. THE GIVEN ROWS OF THIS SEAT. 9 by the template 'for every input the law returns true; each argument reads behind the call as it read before'; 0 by the template 'total and deterministic' (their statements: YtdcnlghcdmiciaaTotals.lean).
  GIVEN WITH THE SEED: the statements are not yours to turn. If you find one false, say at which input.
  Laid BY PROGRAM, IN A SANDBOX (cutbox-rows.mjs): the forced cells as the released guide's own fill.sh prints them over the translation 303bfa226a7d2a9c… (all of the seat's roots in one cut). By AI agents, Wed Nov 11 2026. No macro, syntax, notation, axiom, sorry.
-/
import Derived.Test.YtdcnlghcdmiciaaChecked
import GoSem.Claim
import GoSem.ClaimJoined
import GoSem.ClaimMapViews
import Derived.JoinedTies
import Derived.KernelRfl
namespace Go.Proofs.Ytdcnlghcdmiciaa
/- THE CELL 'sum', in the pinned program and in every row, IS THE sha256 OF THE DUMP (.gsa) THAT YtdcnlghcdmiciaaProg.lean LOADS. Nothing in Lean hashes anything: it is a label: what it is worth is what the hold of that sum in a sandbox is worth. -/
noncomputable def Try.pinned : Pinned := { name := "ytdcnlghcdmiciaa", sum := "303bfa226a7d2a9cc3500d7875ca057197ae74a56741c9e6eefae1026e4104aa", checked := Try.checked }
namespace Rows
def none {H : Type} : Left H := { results := [], args := [] }

/-- 'laws.FnExactGainReal': WHATEVER THE INPUT: true; the input reads as it did. -/
def fnExactGainRealSpec : ChangeSpec := { name := "fnExactGainReal", fn := fun _ => fun
  | [d1, d2, d3, d4] => { results := [.lit (.bool true)], args := [d1, d2, d3, d4] }
  | _ => none }
def fnExactGainRealRow : OpenClaim := { program := "ytdcnlghcdmiciaa", sum := "303bfa226a7d2a9cc3500d7875ca057197ae74a56741c9e6eefae1026e4104aa", func := "loop.example/g00047/laws.FnExactGainReal", spec := "fnExactGainReal", inPlace := ["math.Float64bits", "math.Float64frombits"], apart := false }
def FnExactGainRealSaid : Prop := fnExactGainRealRow.holds Try.pinned (OpenSpec.ofChange fnExactGainRealSpec)

/-- ITS FALSE NEIGHBOUR: 'it returns false'. Refute it at one input. -/
def fnExactGainRealWrong : ChangeSpec := { name := "fnExactGainReal", fn := fun _ => fun
  | [d1, d2, d3, d4] => { results := [.lit (.bool false)], args := [d1, d2, d3, d4] }
  | _ => none }
def FnExactGainRealWrongFalsely : Prop := fnExactGainRealRow.holds Try.pinned (OpenSpec.ofChange fnExactGainRealWrong)

/-- 'laws.FnExactMissReal': WHATEVER THE INPUT: true; the input reads as it did. -/
def fnExactMissRealSpec : ChangeSpec := { name := "fnExactMissReal", fn := fun _ => fun
  | [d1, d2, d3, d4, d5] => { results := [.lit (.bool true)], args := [d1, d2, d3, d4, d5] }
  | _ => none }
def fnExactMissRealRow : OpenClaim := { program := "ytdcnlghcdmiciaa", sum := "303bfa226a7d2a9cc3500d7875ca057197ae74a56741c9e6eefae1026e4104aa", func := "loop.example/g00047/laws.FnExactMissReal", spec := "fnExactMissReal", inPlace := ["math.Float64bits", "math.Float64frombits"], apart := false }
def FnExactMissRealSaid : Prop := fnExactMissRealRow.holds Try.pinned (OpenSpec.ofChange fnExactMissRealSpec)

/-- ITS FALSE NEIGHBOUR: 'it returns false'. Refute it at one input. -/
def fnExactMissRealWrong : ChangeSpec := { name := "fnExactMissReal", fn := fun _ => fun
  | [d1, d2, d3, d4, d5] => { results := [.lit (.bool false)], args := [d1, d2, d3, d4, d5] }
  | _ => none }
def FnExactMissRealWrongFalsely : Prop := fnExactMissRealRow.holds Try.pinned (OpenSpec.ofChange fnExactMissRealWrong)

/-- 'laws.FnExactRiccatiReal': WHATEVER THE INPUT: true; the input reads as it did. -/
def fnExactRiccatiRealSpec : ChangeSpec := { name := "fnExactRiccatiReal", fn := fun _ => fun
  | [d1, d2, d3, d4, d5] => { results := [.lit (.bool true)], args := [d1, d2, d3, d4, d5] }
  | _ => none }
def fnExactRiccatiRealRow : OpenClaim := { program := "ytdcnlghcdmiciaa", sum := "303bfa226a7d2a9cc3500d7875ca057197ae74a56741c9e6eefae1026e4104aa", func := "loop.example/g00047/laws.FnExactRiccatiReal", spec := "fnExactRiccatiReal", inPlace := ["math.Float64bits", "math.Float64frombits"], apart := false }
def FnExactRiccatiRealSaid : Prop := fnExactRiccatiRealRow.holds Try.pinned (OpenSpec.ofChange fnExactRiccatiRealSpec)

/-- ITS FALSE NEIGHBOUR: 'it returns false'. Refute it at one input. -/
def fnExactRiccatiRealWrong : ChangeSpec := { name := "fnExactRiccatiReal", fn := fun _ => fun
  | [d1, d2, d3, d4, d5] => { results := [.lit (.bool false)], args := [d1, d2, d3, d4, d5] }
  | _ => none }
def FnExactRiccatiRealWrongFalsely : Prop := fnExactRiccatiRealRow.holds Try.pinned (OpenSpec.ofChange fnExactRiccatiRealWrong)

/-- 'laws.FnExactHornerReal': WHATEVER THE INPUT: true; the input reads as it did. -/
def fnExactHornerRealSpec : ChangeSpec := { name := "fnExactHornerReal", fn := fun _ => fun
  | [d1, d2] => { results := [.lit (.bool true)], args := [d1, d2] }
  | _ => none }
def fnExactHornerRealRow : OpenClaim := { program := "ytdcnlghcdmiciaa", sum := "303bfa226a7d2a9cc3500d7875ca057197ae74a56741c9e6eefae1026e4104aa", func := "loop.example/g00047/laws.FnExactHornerReal", spec := "fnExactHornerReal", inPlace := ["math.Float64bits", "math.Float64frombits"], apart := false }
def FnExactHornerRealSaid : Prop := fnExactHornerRealRow.holds Try.pinned (OpenSpec.ofChange fnExactHornerRealSpec)

/-- ITS FALSE NEIGHBOUR: 'it returns false'. Refute it at one input. -/
def fnExactHornerRealWrong : ChangeSpec := { name := "fnExactHornerReal", fn := fun _ => fun
  | [d1, d2] => { results := [.lit (.bool false)], args := [d1, d2] }
  | _ => none }
def FnExactHornerRealWrongFalsely : Prop := fnExactHornerRealRow.holds Try.pinned (OpenSpec.ofChange fnExactHornerRealWrong)

/-- 'laws.FnExactSumReals': WHATEVER THE INPUT: true; the input reads as it did. -/
def fnExactSumRealsSpec : ChangeSpec := { name := "fnExactSumReals", fn := fun _ => fun
  | [d] => { results := [.lit (.bool true)], args := [d] }
  | _ => none }
def fnExactSumRealsRow : OpenClaim := { program := "ytdcnlghcdmiciaa", sum := "303bfa226a7d2a9cc3500d7875ca057197ae74a56741c9e6eefae1026e4104aa", func := "loop.example/g00047/laws.FnExactSumReals", spec := "fnExactSumReals", inPlace := ["math.Float64bits", "math.Float64frombits"], recurses := true, apart := false }
def FnExactSumRealsSaid : Prop := fnExactSumRealsRow.holds Try.pinned (OpenSpec.ofChange fnExactSumRealsSpec)

/-- ITS FALSE NEIGHBOUR: 'it returns false'. Refute it at one input. -/
def fnExactSumRealsWrong : ChangeSpec := { name := "fnExactSumReals", fn := fun _ => fun
  | [d] => { results := [.lit (.bool false)], args := [d] }
  | _ => none }
def FnExactSumRealsWrongFalsely : Prop := fnExactSumRealsRow.holds Try.pinned (OpenSpec.ofChange fnExactSumRealsWrong)

/-- 'laws.FnExactDotReals': WHATEVER THE INPUT: true; the input reads as it did. -/
def fnExactDotRealsSpec : ChangeSpec := { name := "fnExactDotReals", fn := fun _ => fun
  | [d1, d2] => { results := [.lit (.bool true)], args := [d1, d2] }
  | _ => none }
def fnExactDotRealsRow : OpenClaim := { program := "ytdcnlghcdmiciaa", sum := "303bfa226a7d2a9cc3500d7875ca057197ae74a56741c9e6eefae1026e4104aa", func := "loop.example/g00047/laws.FnExactDotReals", spec := "fnExactDotReals", inPlace := ["math.Float64bits", "math.Float64frombits"], recurses := true, apart := false }
def FnExactDotRealsSaid : Prop := fnExactDotRealsRow.holds Try.pinned (OpenSpec.ofChange fnExactDotRealsSpec)

/-- ITS FALSE NEIGHBOUR: 'it returns false'. Refute it at one input. -/
def fnExactDotRealsWrong : ChangeSpec := { name := "fnExactDotReals", fn := fun _ => fun
  | [d1, d2] => { results := [.lit (.bool false)], args := [d1, d2] }
  | _ => none }
def FnExactDotRealsWrongFalsely : Prop := fnExactDotRealsRow.holds Try.pinned (OpenSpec.ofChange fnExactDotRealsWrong)

/-- 'laws.FnExactNormReal': WHATEVER THE INPUT: true; the input reads as it did. -/
def fnExactNormRealSpec : ChangeSpec := { name := "fnExactNormReal", fn := fun _ => fun
  | [d] => { results := [.lit (.bool true)], args := [d] }
  | _ => none }
def fnExactNormRealRow : OpenClaim := { program := "ytdcnlghcdmiciaa", sum := "303bfa226a7d2a9cc3500d7875ca057197ae74a56741c9e6eefae1026e4104aa", func := "loop.example/g00047/laws.FnExactNormReal", spec := "fnExactNormReal", inPlace := ["math.Float64bits", "math.Float64frombits", "math.sqrt"], recurses := true, apart := false }
def FnExactNormRealSaid : Prop := fnExactNormRealRow.holds Try.pinned (OpenSpec.ofChange fnExactNormRealSpec)

/-- ITS FALSE NEIGHBOUR: 'it returns false'. Refute it at one input. -/
def fnExactNormRealWrong : ChangeSpec := { name := "fnExactNormReal", fn := fun _ => fun
  | [d] => { results := [.lit (.bool false)], args := [d] }
  | _ => none }
def FnExactNormRealWrongFalsely : Prop := fnExactNormRealRow.holds Try.pinned (OpenSpec.ofChange fnExactNormRealWrong)

/-- 'laws.FnRiccati': WHATEVER THE INPUT: true; the input reads as it did. -/
def fnRiccatiSpec : ChangeSpec := { name := "fnRiccati", fn := fun _ => fun
  | [d] => { results := [.lit (.bool true)], args := [d] }
  | _ => none }
def fnRiccatiRow : OpenClaim := { program := "ytdcnlghcdmiciaa", sum := "303bfa226a7d2a9cc3500d7875ca057197ae74a56741c9e6eefae1026e4104aa", func := "loop.example/g00047/laws.FnRiccati", spec := "fnRiccati", inPlace := ["math.Float64frombits", "math.Float64bits"], recurses := true, apart := false }
def FnRiccatiSaid : Prop := fnRiccatiRow.holds Try.pinned (OpenSpec.ofChange fnRiccatiSpec)

/-- ITS FALSE NEIGHBOUR: 'it returns false'. Refute it at one input. -/
def fnRiccatiWrong : ChangeSpec := { name := "fnRiccati", fn := fun _ => fun
  | [d] => { results := [.lit (.bool false)], args := [d] }
  | _ => none }
def FnRiccatiWrongFalsely : Prop := fnRiccatiRow.holds Try.pinned (OpenSpec.ofChange fnRiccatiWrong)

/-- 'laws.FnSums': WHATEVER THE INPUT: true; the input reads as it did. -/
def fnSumsSpec : ChangeSpec := { name := "fnSums", fn := fun _ => fun
  | [d] => { results := [.lit (.bool true)], args := [d] }
  | _ => none }
def fnSumsRow : OpenClaim := { program := "ytdcnlghcdmiciaa", sum := "303bfa226a7d2a9cc3500d7875ca057197ae74a56741c9e6eefae1026e4104aa", func := "loop.example/g00047/laws.FnSums", spec := "fnSums", inPlace := ["math.Float64frombits", "math.Float64bits", "math.archTrunc"], recurses := true, apart := false }
def FnSumsSaid : Prop := fnSumsRow.holds Try.pinned (OpenSpec.ofChange fnSumsSpec)

/-- ITS FALSE NEIGHBOUR: 'it returns false'. Refute it at one input. -/
def fnSumsWrong : ChangeSpec := { name := "fnSums", fn := fun _ => fun
  | [d] => { results := [.lit (.bool false)], args := [d] }
  | _ => none }
def FnSumsWrongFalsely : Prop := fnSumsRow.holds Try.pinned (OpenSpec.ofChange fnSumsWrong)

/- THE SECOND FORM. 'bulk': how many values and letters a reading holds, each counted each time it is reached (what is shared counts as often as it is met; a slice's spare places count too). A statement '..UptoSaid' is the law's where the arguments, and the package variables that the reading takes, are together of bulk at most 1048576: NARROWER than '..Said'. Prove '..Said' where nothing that the law and all that it calls make is longer than what came in: it says more and counts as full. Else prove '..UptoSaid'. A law counts once. -/
mutual
def uptoBulk {H : Type} : DataW H → Nat
  | .lit (.string bytes) => bytes.length + 1
  | .lit _ => 1
  | .nil => 1
  | .ptr d => uptoBulk d + 1
  | .slice elems spare => uptoBulkAll elems + uptoBulkAll spare + 1
  | .agg parts => uptoBulkAll parts + 1
  | .iface _ d => uptoBulk d + 1
  | .map entries => uptoBulkEntries entries + 1
  | .held _ => 1
def uptoBulkAll {H : Type} : List (DataW H) → Nat
  | [] => 0
  | d :: r => uptoBulk d + uptoBulkAll r
def uptoBulkEntries {H : Type} : List (Lit × DataW H) → Nat
  | [] => 0
  | x :: r => uptoBulkEntry x + uptoBulkEntries r
def uptoBulkEntry {H : Type} : Lit × DataW H → Nat
  | (.string bytes, d) => bytes.length + uptoBulk d + 1
  | (_, d) => uptoBulk d + 1
 end
def uptoSmall : (H : Type) → List (DataW H) → Bool := fun _ ds => decide (uptoBulkAll ds ≤ 1048576)
def OpenSpec.upto (s : _root_.Go.ChangeSpec) : _root_.Go.OpenSpec := { _root_.Go.OpenSpec.ofChange s with cond := some uptoSmall }

/-- 'laws.FnExactGainReal', WHERE WHAT IT READS IS OF BULK AT MOST 1048576: true; the input reads as it did. -/
def fnExactGainRealUptoRow : OpenClaim := { program := "ytdcnlghcdmiciaa", sum := "303bfa226a7d2a9cc3500d7875ca057197ae74a56741c9e6eefae1026e4104aa", func := "loop.example/g00047/laws.FnExactGainReal", spec := "fnExactGainReal", inPlace := ["math.Float64bits", "math.Float64frombits"], apart := false, narrowed := true }
def FnExactGainRealUptoSaid : Prop := fnExactGainRealUptoRow.holds Try.pinned (OpenSpec.upto fnExactGainRealSpec)

/-- 'laws.FnExactMissReal', WHERE WHAT IT READS IS OF BULK AT MOST 1048576: true; the input reads as it did. -/
def fnExactMissRealUptoRow : OpenClaim := { program := "ytdcnlghcdmiciaa", sum := "303bfa226a7d2a9cc3500d7875ca057197ae74a56741c9e6eefae1026e4104aa", func := "loop.example/g00047/laws.FnExactMissReal", spec := "fnExactMissReal", inPlace := ["math.Float64bits", "math.Float64frombits"], apart := false, narrowed := true }
def FnExactMissRealUptoSaid : Prop := fnExactMissRealUptoRow.holds Try.pinned (OpenSpec.upto fnExactMissRealSpec)

/-- 'laws.FnExactRiccatiReal', WHERE WHAT IT READS IS OF BULK AT MOST 1048576: true; the input reads as it did. -/
def fnExactRiccatiRealUptoRow : OpenClaim := { program := "ytdcnlghcdmiciaa", sum := "303bfa226a7d2a9cc3500d7875ca057197ae74a56741c9e6eefae1026e4104aa", func := "loop.example/g00047/laws.FnExactRiccatiReal", spec := "fnExactRiccatiReal", inPlace := ["math.Float64bits", "math.Float64frombits"], apart := false, narrowed := true }
def FnExactRiccatiRealUptoSaid : Prop := fnExactRiccatiRealUptoRow.holds Try.pinned (OpenSpec.upto fnExactRiccatiRealSpec)

/-- 'laws.FnExactHornerReal', WHERE WHAT IT READS IS OF BULK AT MOST 1048576: true; the input reads as it did. -/
def fnExactHornerRealUptoRow : OpenClaim := { program := "ytdcnlghcdmiciaa", sum := "303bfa226a7d2a9cc3500d7875ca057197ae74a56741c9e6eefae1026e4104aa", func := "loop.example/g00047/laws.FnExactHornerReal", spec := "fnExactHornerReal", inPlace := ["math.Float64bits", "math.Float64frombits"], apart := false, narrowed := true }
def FnExactHornerRealUptoSaid : Prop := fnExactHornerRealUptoRow.holds Try.pinned (OpenSpec.upto fnExactHornerRealSpec)

/-- 'laws.FnExactSumReals', WHERE WHAT IT READS IS OF BULK AT MOST 1048576: true; the input reads as it did. -/
def fnExactSumRealsUptoRow : OpenClaim := { program := "ytdcnlghcdmiciaa", sum := "303bfa226a7d2a9cc3500d7875ca057197ae74a56741c9e6eefae1026e4104aa", func := "loop.example/g00047/laws.FnExactSumReals", spec := "fnExactSumReals", inPlace := ["math.Float64bits", "math.Float64frombits"], recurses := true, apart := false, narrowed := true }
def FnExactSumRealsUptoSaid : Prop := fnExactSumRealsUptoRow.holds Try.pinned (OpenSpec.upto fnExactSumRealsSpec)

/-- 'laws.FnExactDotReals', WHERE WHAT IT READS IS OF BULK AT MOST 1048576: true; the input reads as it did. -/
def fnExactDotRealsUptoRow : OpenClaim := { program := "ytdcnlghcdmiciaa", sum := "303bfa226a7d2a9cc3500d7875ca057197ae74a56741c9e6eefae1026e4104aa", func := "loop.example/g00047/laws.FnExactDotReals", spec := "fnExactDotReals", inPlace := ["math.Float64bits", "math.Float64frombits"], recurses := true, apart := false, narrowed := true }
def FnExactDotRealsUptoSaid : Prop := fnExactDotRealsUptoRow.holds Try.pinned (OpenSpec.upto fnExactDotRealsSpec)

/-- 'laws.FnExactNormReal', WHERE WHAT IT READS IS OF BULK AT MOST 1048576: true; the input reads as it did. -/
def fnExactNormRealUptoRow : OpenClaim := { program := "ytdcnlghcdmiciaa", sum := "303bfa226a7d2a9cc3500d7875ca057197ae74a56741c9e6eefae1026e4104aa", func := "loop.example/g00047/laws.FnExactNormReal", spec := "fnExactNormReal", inPlace := ["math.Float64bits", "math.Float64frombits", "math.sqrt"], recurses := true, apart := false, narrowed := true }
def FnExactNormRealUptoSaid : Prop := fnExactNormRealUptoRow.holds Try.pinned (OpenSpec.upto fnExactNormRealSpec)

/-- 'laws.FnRiccati', WHERE WHAT IT READS IS OF BULK AT MOST 1048576: true; the input reads as it did. -/
def fnRiccatiUptoRow : OpenClaim := { program := "ytdcnlghcdmiciaa", sum := "303bfa226a7d2a9cc3500d7875ca057197ae74a56741c9e6eefae1026e4104aa", func := "loop.example/g00047/laws.FnRiccati", spec := "fnRiccati", inPlace := ["math.Float64frombits", "math.Float64bits"], recurses := true, apart := false, narrowed := true }
def FnRiccatiUptoSaid : Prop := fnRiccatiUptoRow.holds Try.pinned (OpenSpec.upto fnRiccatiSpec)

/-- 'laws.FnSums', WHERE WHAT IT READS IS OF BULK AT MOST 1048576: true; the input reads as it did. -/
def fnSumsUptoRow : OpenClaim := { program := "ytdcnlghcdmiciaa", sum := "303bfa226a7d2a9cc3500d7875ca057197ae74a56741c9e6eefae1026e4104aa", func := "loop.example/g00047/laws.FnSums", spec := "fnSums", inPlace := ["math.Float64frombits", "math.Float64bits", "math.archTrunc"], recurses := true, apart := false, narrowed := true }
def FnSumsUptoSaid : Prop := fnSumsUptoRow.holds Try.pinned (OpenSpec.upto fnSumsSpec)

end Rows
end Go.Proofs.Ytdcnlghcdmiciaa
