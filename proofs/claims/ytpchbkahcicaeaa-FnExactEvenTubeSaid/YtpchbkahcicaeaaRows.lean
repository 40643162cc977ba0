/-
  No cell of these rows narrows 'for every input' (looked for: loops, veiled, ifaces, maps, wideKeys, modest, calm, conditions, laid).
  DERIVED. THE GIVEN ROWS OF THIS SEAT. 10 by the template 'for every input the law returns true; each argument reads behind the call as it read before'; 0 by the template 'total and deterministic' (their statements: YtpchbkahcicaeaaTotals.lean).
  GIVEN WITH THE SEED: the statements are not yours to turn. If you find one false, say at which input.
  Laid BY PROGRAM, IN A SANDBOX (cutbox-rows.mjs): the forced cells as the released guide's own fill.sh prints them over the translation b0776fcfbbf934d0… (all of the seat's roots in one cut). By AI agents, Wed Nov 11 2026. No macro, syntax, notation, axiom, sorry.
-/
import Derived.Test.YtpchbkahcicaeaaChecked
import GoSem.Claim
import GoSem.ClaimJoined
import GoSem.ClaimMapViews
import Derived.JoinedTies
import Derived.KernelRfl
namespace Go.Proofs.Ytpchbkahcicaeaa
/- THE CELL 'sum', in the pinned program and in every row, IS THE sha256 OF THE DUMP (.gsa) THAT YtpchbkahcicaeaaProg.lean LOADS. Nothing in Lean hashes anything: it is a label: what it is worth is what the hold of that sum in a sandbox is worth. -/
noncomputable def Try.pinned : Pinned := { name := "ytpchbkahcicaeaa", sum := "b0776fcfbbf934d0fb10b99bf638c871ab468616f944ca8ec6a3200f542a9704", checked := Try.checked }
namespace Rows
def none {H : Type} : Left H := { results := [], args := [] }

/-- 'laws.FnExactScaleTube': WHATEVER THE INPUT: true; the input reads as it did. -/
def fnExactScaleTubeSpec : ChangeSpec := { name := "fnExactScaleTube", fn := fun _ => fun
  | [d1, d2] => { results := [.lit (.bool true)], args := [d1, d2] }
  | _ => none }
def fnExactScaleTubeRow : OpenClaim := { program := "ytpchbkahcicaeaa", sum := "b0776fcfbbf934d0fb10b99bf638c871ab468616f944ca8ec6a3200f542a9704", func := "loop.example/g01279/laws.FnExactScaleTube", spec := "fnExactScaleTube", unfollowed := true, recurses := true, apart := false }
def FnExactScaleTubeSaid : Prop := fnExactScaleTubeRow.holds Try.pinned (OpenSpec.ofChange fnExactScaleTubeSpec)

/-- ITS FALSE NEIGHBOUR: 'it returns false'. Refute it at one input. -/
def fnExactScaleTubeWrong : ChangeSpec := { name := "fnExactScaleTube", fn := fun _ => fun
  | [d1, d2] => { results := [.lit (.bool false)], args := [d1, d2] }
  | _ => none }
def FnExactScaleTubeWrongFalsely : Prop := fnExactScaleTubeRow.holds Try.pinned (OpenSpec.ofChange fnExactScaleTubeWrong)

/-- 'laws.FnExactMixTubes': WHATEVER THE INPUT: true; the input reads as it did. -/
def fnExactMixTubesSpec : ChangeSpec := { name := "fnExactMixTubes", fn := fun _ => fun
  | [d1, d2, d3] => { results := [.lit (.bool true)], args := [d1, d2, d3] }
  | _ => none }
def fnExactMixTubesRow : OpenClaim := { program := "ytpchbkahcicaeaa", sum := "b0776fcfbbf934d0fb10b99bf638c871ab468616f944ca8ec6a3200f542a9704", func := "loop.example/g01279/laws.FnExactMixTubes", spec := "fnExactMixTubes", unfollowed := true, recurses := true, apart := false }
def FnExactMixTubesSaid : Prop := fnExactMixTubesRow.holds Try.pinned (OpenSpec.ofChange fnExactMixTubesSpec)

/-- ITS FALSE NEIGHBOUR: 'it returns false'. Refute it at one input. -/
def fnExactMixTubesWrong : ChangeSpec := { name := "fnExactMixTubes", fn := fun _ => fun
  | [d1, d2, d3] => { results := [.lit (.bool false)], args := [d1, d2, d3] }
  | _ => none }
def FnExactMixTubesWrongFalsely : Prop := fnExactMixTubesRow.holds Try.pinned (OpenSpec.ofChange fnExactMixTubesWrong)

/-- 'laws.FnExactEvenTube': WHATEVER THE INPUT: true; the input reads as it did. -/
def fnExactEvenTubeSpec : ChangeSpec := { name := "fnExactEvenTube", fn := fun _ => fun
  | [d1, d2] => { results := [.lit (.bool true)], args := [d1, d2] }
  | _ => none }
def fnExactEvenTubeRow : OpenClaim := { program := "ytpchbkahcicaeaa", sum := "b0776fcfbbf934d0fb10b99bf638c871ab468616f944ca8ec6a3200f542a9704", func := "loop.example/g01279/laws.FnExactEvenTube", spec := "fnExactEvenTube", apart := false }
def FnExactEvenTubeSaid : Prop := fnExactEvenTubeRow.holds Try.pinned (OpenSpec.ofChange fnExactEvenTubeSpec)

/-- ITS FALSE NEIGHBOUR: 'it returns false'. Refute it at one input. -/
def fnExactEvenTubeWrong : ChangeSpec := { name := "fnExactEvenTube", fn := fun _ => fun
  | [d1, d2] => { results := [.lit (.bool false)], args := [d1, d2] }
  | _ => none }
def FnExactEvenTubeWrongFalsely : Prop := fnExactEvenTubeRow.holds Try.pinned (OpenSpec.ofChange fnExactEvenTubeWrong)

/-- 'laws.FnExactEnergyOfWaves': WHATEVER THE INPUT: true; the input reads as it did. -/
def fnExactEnergyOfWavesSpec : ChangeSpec := { name := "fnExactEnergyOfWaves", fn := fun _ => fun
  | [d1, d2] => { results := [.lit (.bool true)], args := [d1, d2] }
  | _ => none }
def fnExactEnergyOfWavesRow : OpenClaim := { program := "ytpchbkahcicaeaa", sum := "b0776fcfbbf934d0fb10b99bf638c871ab468616f944ca8ec6a3200f542a9704", func := "loop.example/g01279/laws.FnExactEnergyOfWaves", spec := "fnExactEnergyOfWaves", apart := false }
def FnExactEnergyOfWavesSaid : Prop := fnExactEnergyOfWavesRow.holds Try.pinned (OpenSpec.ofChange fnExactEnergyOfWavesSpec)

/-- ITS FALSE NEIGHBOUR: 'it returns false'. Refute it at one input. -/
def fnExactEnergyOfWavesWrong : ChangeSpec := { name := "fnExactEnergyOfWaves", fn := fun _ => fun
  | [d1, d2] => { results := [.lit (.bool false)], args := [d1, d2] }
  | _ => none }
def FnExactEnergyOfWavesWrongFalsely : Prop := fnExactEnergyOfWavesRow.holds Try.pinned (OpenSpec.ofChange fnExactEnergyOfWavesWrong)

/-- 'laws.FnExactJoinTubes': WHATEVER THE INPUT: true; the input reads as it did. -/
def fnExactJoinTubesSpec : ChangeSpec := { name := "fnExactJoinTubes", fn := fun _ => fun
  | [d1, d2] => { results := [.lit (.bool true)], args := [d1, d2] }
  | _ => none }
def fnExactJoinTubesRow : OpenClaim := { program := "ytpchbkahcicaeaa", sum := "b0776fcfbbf934d0fb10b99bf638c871ab468616f944ca8ec6a3200f542a9704", func := "loop.example/g01279/laws.FnExactJoinTubes", spec := "fnExactJoinTubes", apart := false }
def FnExactJoinTubesSaid : Prop := fnExactJoinTubesRow.holds Try.pinned (OpenSpec.ofChange fnExactJoinTubesSpec)

/-- ITS FALSE NEIGHBOUR: 'it returns false'. Refute it at one input. -/
def fnExactJoinTubesWrong : ChangeSpec := { name := "fnExactJoinTubes", fn := fun _ => fun
  | [d1, d2] => { results := [.lit (.bool false)], args := [d1, d2] }
  | _ => none }
def FnExactJoinTubesWrongFalsely : Prop := fnExactJoinTubesRow.holds Try.pinned (OpenSpec.ofChange fnExactJoinTubesWrong)

/-- 'laws.FnExactAddWaves': WHATEVER THE INPUT: true; the input reads as it did. -/
def fnExactAddWavesSpec : ChangeSpec := { name := "fnExactAddWaves", fn := fun _ => fun
  | [d1, d2, d3] => { results := [.lit (.bool true)], args := [d1, d2, d3] }
  | _ => none }
def fnExactAddWavesRow : OpenClaim := { program := "ytpchbkahcicaeaa", sum := "b0776fcfbbf934d0fb10b99bf638c871ab468616f944ca8ec6a3200f542a9704", func := "loop.example/g01279/laws.FnExactAddWaves", spec := "fnExactAddWaves", apart := false }
def FnExactAddWavesSaid : Prop := fnExactAddWavesRow.holds Try.pinned (OpenSpec.ofChange fnExactAddWavesSpec)

/-- ITS FALSE NEIGHBOUR: 'it returns false'. Refute it at one input. -/
def fnExactAddWavesWrong : ChangeSpec := { name := "fnExactAddWaves", fn := fun _ => fun
  | [d1, d2, d3] => { results := [.lit (.bool false)], args := [d1, d2, d3] }
  | _ => none }
def FnExactAddWavesWrongFalsely : Prop := fnExactAddWavesRow.holds Try.pinned (OpenSpec.ofChange fnExactAddWavesWrong)

/-- 'laws.FnExactStepWaves': WHATEVER THE INPUT: true; the input reads as it did. -/
def fnExactStepWavesSpec : ChangeSpec := { name := "fnExactStepWaves", fn := fun _ => fun
  | [d1, d2, d3] => { results := [.lit (.bool true)], args := [d1, d2, d3] }
  | _ => none }
def fnExactStepWavesRow : OpenClaim := { program := "ytpchbkahcicaeaa", sum := "b0776fcfbbf934d0fb10b99bf638c871ab468616f944ca8ec6a3200f542a9704", func := "loop.example/g01279/laws.FnExactStepWaves", spec := "fnExactStepWaves", apart := false }
def FnExactStepWavesSaid : Prop := fnExactStepWavesRow.holds Try.pinned (OpenSpec.ofChange fnExactStepWavesSpec)

/-- ITS FALSE NEIGHBOUR: 'it returns false'. Refute it at one input. -/
def fnExactStepWavesWrong : ChangeSpec := { name := "fnExactStepWaves", fn := fun _ => fun
  | [d1, d2, d3] => { results := [.lit (.bool false)], args := [d1, d2, d3] }
  | _ => none }
def FnExactStepWavesWrongFalsely : Prop := fnExactStepWavesRow.holds Try.pinned (OpenSpec.ofChange fnExactStepWavesWrong)

/-- 'laws.FnExactRunWaves': WHATEVER THE INPUT: true; the input reads as it did. -/
def fnExactRunWavesSpec : ChangeSpec := { name := "fnExactRunWaves", fn := fun _ => fun
  | [d1, d2, d3] => { results := [.lit (.bool true)], args := [d1, d2, d3] }
  | _ => none }
def fnExactRunWavesRow : OpenClaim := { program := "ytpchbkahcicaeaa", sum := "b0776fcfbbf934d0fb10b99bf638c871ab468616f944ca8ec6a3200f542a9704", func := "loop.example/g01279/laws.FnExactRunWaves", spec := "fnExactRunWaves", apart := false }
def FnExactRunWavesSaid : Prop := fnExactRunWavesRow.holds Try.pinned (OpenSpec.ofChange fnExactRunWavesSpec)

/-- ITS FALSE NEIGHBOUR: 'it returns false'. Refute it at one input. -/
def fnExactRunWavesWrong : ChangeSpec := { name := "fnExactRunWaves", fn := fun _ => fun
  | [d1, d2, d3] => { results := [.lit (.bool false)], args := [d1, d2, d3] }
  | _ => none }
def FnExactRunWavesWrongFalsely : Prop := fnExactRunWavesRow.holds Try.pinned (OpenSpec.ofChange fnExactRunWavesWrong)

/-- 'laws.FnExactPinchTube': WHATEVER THE INPUT: true; the input reads as it did. -/
def fnExactPinchTubeSpec : ChangeSpec := { name := "fnExactPinchTube", fn := fun _ => fun
  | [d1, d2, d3] => { results := [.lit (.bool true)], args := [d1, d2, d3] }
  | _ => none }
def fnExactPinchTubeRow : OpenClaim := { program := "ytpchbkahcicaeaa", sum := "b0776fcfbbf934d0fb10b99bf638c871ab468616f944ca8ec6a3200f542a9704", func := "loop.example/g01279/laws.FnExactPinchTube", spec := "fnExactPinchTube", inPlace := ["math.sqrt"], unfollowed := true, recurses := true, apart := false }
def FnExactPinchTubeSaid : Prop := fnExactPinchTubeRow.holds Try.pinned (OpenSpec.ofChange fnExactPinchTubeSpec)

/-- ITS FALSE NEIGHBOUR: 'it returns false'. Refute it at one input. -/
def fnExactPinchTubeWrong : ChangeSpec := { name := "fnExactPinchTube", fn := fun _ => fun
  | [d1, d2, d3] => { results := [.lit (.bool false)], args := [d1, d2, d3] }
  | _ => none }
def FnExactPinchTubeWrongFalsely : Prop := fnExactPinchTubeRow.holds Try.pinned (OpenSpec.ofChange fnExactPinchTubeWrong)

/-- 'laws.FnExactScaleToPeak': WHATEVER THE INPUT: true; the input reads as it did. -/
def fnExactScaleToPeakSpec : ChangeSpec := { name := "fnExactScaleToPeak", fn := fun _ => fun
  | [d1, d2] => { results := [.lit (.bool true)], args := [d1, d2] }
  | _ => none }
def fnExactScaleToPeakRow : OpenClaim := { program := "ytpchbkahcicaeaa", sum := "b0776fcfbbf934d0fb10b99bf638c871ab468616f944ca8ec6a3200f542a9704", func := "loop.example/g01279/laws.FnExactScaleToPeak", spec := "fnExactScaleToPeak", inPlace := ["math.Float64bits", "math.Float64frombits"], unfollowed := true, recurses := true, apart := false }
def FnExactScaleToPeakSaid : Prop := fnExactScaleToPeakRow.holds Try.pinned (OpenSpec.ofChange fnExactScaleToPeakSpec)

/-- ITS FALSE NEIGHBOUR: 'it returns false'. Refute it at one input. -/
def fnExactScaleToPeakWrong : ChangeSpec := { name := "fnExactScaleToPeak", fn := fun _ => fun
  | [d1, d2] => { results := [.lit (.bool false)], args := [d1, d2] }
  | _ => none }
def FnExactScaleToPeakWrongFalsely : Prop := fnExactScaleToPeakRow.holds Try.pinned (OpenSpec.ofChange fnExactScaleToPeakWrong)

/- THE SECOND FORM. 'bulk': how many values and letters a reading holds, each counted each time it is reached (what is shared counts as often as it is met; a slice's spare places count too). A statement '..UptoSaid' is the law's where the arguments, and the package variables that the reading takes, are together of bulk at most 1048576: NARROWER than '..Said'. Prove '..Said' where nothing that the law and all that it calls make is longer than what came in: it says more and counts as full. Else prove '..UptoSaid'. A law counts once. -/
mutual
def uptoBulk {H : Type} : DataW H → Nat
  | .lit (.string bytes) => bytes.length + 1
  | .lit _ => 1
  | .nil => 1
  | .ptr d => uptoBulk d + 1
  | .slice elems spare => uptoBulkAll elems + uptoBulkAll spare + 1
  | .agg parts => uptoBulkAll parts + 1
  | .iface _ d => uptoBulk d + 1
  | .map entries => uptoBulkEntries entries + 1
  | .held _ => 1
def uptoBulkAll {H : Type} : List (DataW H) → Nat
  | [] => 0
  | d :: r => uptoBulk d + uptoBulkAll r
def uptoBulkEntries {H : Type} : List (Lit × DataW H) → Nat
  | [] => 0
  | x :: r => uptoBulkEntry x + uptoBulkEntries r
def uptoBulkEntry {H : Type} : Lit × DataW H → Nat
  | (.string bytes, d) => bytes.length + uptoBulk d + 1
  | (_, d) => uptoBulk d + 1
 end
def uptoSmall : (H : Type) → List (DataW H) → Bool := fun _ ds => decide (uptoBulkAll ds ≤ 1048576)
def OpenSpec.upto (s : _root_.Go.ChangeSpec) : _root_.Go.OpenSpec := { _root_.Go.OpenSpec.ofChange s with cond := some uptoSmall }

/-- 'laws.FnExactScaleTube', WHERE WHAT IT READS IS OF BULK AT MOST 1048576: true; the input reads as it did. -/
def fnExactScaleTubeUptoRow : OpenClaim := { program := "ytpchbkahcicaeaa", sum := "b0776fcfbbf934d0fb10b99bf638c871ab468616f944ca8ec6a3200f542a9704", func := "loop.example/g01279/laws.FnExactScaleTube", spec := "fnExactScaleTube", unfollowed := true, recurses := true, apart := false, narrowed := true }
def FnExactScaleTubeUptoSaid : Prop := fnExactScaleTubeUptoRow.holds Try.pinned (OpenSpec.upto fnExactScaleTubeSpec)

/-- 'laws.FnExactMixTubes', WHERE WHAT IT READS IS OF BULK AT MOST 1048576: true; the input reads as it did. -/
def fnExactMixTubesUptoRow : OpenClaim := { program := "ytpchbkahcicaeaa", sum := "b0776fcfbbf934d0fb10b99bf638c871ab468616f944ca8ec6a3200f542a9704", func := "loop.example/g01279/laws.FnExactMixTubes", spec := "fnExactMixTubes", unfollowed := true, recurses := true, apart := false, narrowed := true }
def FnExactMixTubesUptoSaid : Prop := fnExactMixTubesUptoRow.holds Try.pinned (OpenSpec.upto fnExactMixTubesSpec)

/-- 'laws.FnExactEvenTube', WHERE WHAT IT READS IS OF BULK AT MOST 1048576: true; the input reads as it did. -/
def fnExactEvenTubeUptoRow : OpenClaim := { program := "ytpchbkahcicaeaa", sum := "b0776fcfbbf934d0fb10b99bf638c871ab468616f944ca8ec6a3200f542a9704", func := "loop.example/g01279/laws.FnExactEvenTube", spec := "fnExactEvenTube", apart := false, narrowed := true }
def FnExactEvenTubeUptoSaid : Prop := fnExactEvenTubeUptoRow.holds Try.pinned (OpenSpec.upto fnExactEvenTubeSpec)

/-- 'laws.FnExactEnergyOfWaves', WHERE WHAT IT READS IS OF BULK AT MOST 1048576: true; the input reads as it did. -/
def fnExactEnergyOfWavesUptoRow : OpenClaim := { program := "ytpchbkahcicaeaa", sum := "b0776fcfbbf934d0fb10b99bf638c871ab468616f944ca8ec6a3200f542a9704", func := "loop.example/g01279/laws.FnExactEnergyOfWaves", spec := "fnExactEnergyOfWaves", apart := false, narrowed := true }
def FnExactEnergyOfWavesUptoSaid : Prop := fnExactEnergyOfWavesUptoRow.holds Try.pinned (OpenSpec.upto fnExactEnergyOfWavesSpec)

/-- 'laws.FnExactJoinTubes', WHERE WHAT IT READS IS OF BULK AT MOST 1048576: true; the input reads as it did. -/
def fnExactJoinTubesUptoRow : OpenClaim := { program := "ytpchbkahcicaeaa", sum := "b0776fcfbbf934d0fb10b99bf638c871ab468616f944ca8ec6a3200f542a9704", func := "loop.example/g01279/laws.FnExactJoinTubes", spec := "fnExactJoinTubes", apart := false, narrowed := true }
def FnExactJoinTubesUptoSaid : Prop := fnExactJoinTubesUptoRow.holds Try.pinned (OpenSpec.upto fnExactJoinTubesSpec)

/-- 'laws.FnExactAddWaves', WHERE WHAT IT READS IS OF BULK AT MOST 1048576: true; the input reads as it did. -/
def fnExactAddWavesUptoRow : OpenClaim := { program := "ytpchbkahcicaeaa", sum := "b0776fcfbbf934d0fb10b99bf638c871ab468616f944ca8ec6a3200f542a9704", func := "loop.example/g01279/laws.FnExactAddWaves", spec := "fnExactAddWaves", apart := false, narrowed := true }
def FnExactAddWavesUptoSaid : Prop := fnExactAddWavesUptoRow.holds Try.pinned (OpenSpec.upto fnExactAddWavesSpec)

/-- 'laws.FnExactStepWaves', WHERE WHAT IT READS IS OF BULK AT MOST 1048576: true; the input reads as it did. -/
def fnExactStepWavesUptoRow : OpenClaim := { program := "ytpchbkahcicaeaa", sum := "b0776fcfbbf934d0fb10b99bf638c871ab468616f944ca8ec6a3200f542a9704", func := "loop.example/g01279/laws.FnExactStepWaves", spec := "fnExactStepWaves", apart := false, narrowed := true }
def FnExactStepWavesUptoSaid : Prop := fnExactStepWavesUptoRow.holds Try.pinned (OpenSpec.upto fnExactStepWavesSpec)

/-- 'laws.FnExactRunWaves', WHERE WHAT IT READS IS OF BULK AT MOST 1048576: true; the input reads as it did. -/
def fnExactRunWavesUptoRow : OpenClaim := { program := "ytpchbkahcicaeaa", sum := "b0776fcfbbf934d0fb10b99bf638c871ab468616f944ca8ec6a3200f542a9704", func := "loop.example/g01279/laws.FnExactRunWaves", spec := "fnExactRunWaves", apart := false, narrowed := true }
def FnExactRunWavesUptoSaid : Prop := fnExactRunWavesUptoRow.holds Try.pinned (OpenSpec.upto fnExactRunWavesSpec)

/-- 'laws.FnExactPinchTube', WHERE WHAT IT READS IS OF BULK AT MOST 1048576: true; the input reads as it did. -/
def fnExactPinchTubeUptoRow : OpenClaim := { program := "ytpchbkahcicaeaa", sum := "b0776fcfbbf934d0fb10b99bf638c871ab468616f944ca8ec6a3200f542a9704", func := "loop.example/g01279/laws.FnExactPinchTube", spec := "fnExactPinchTube", inPlace := ["math.sqrt"], unfollowed := true, recurses := true, apart := false, narrowed := true }
def FnExactPinchTubeUptoSaid : Prop := fnExactPinchTubeUptoRow.holds Try.pinned (OpenSpec.upto fnExactPinchTubeSpec)

/-- 'laws.FnExactScaleToPeak', WHERE WHAT IT READS IS OF BULK AT MOST 1048576: true; the input reads as it did. -/
def fnExactScaleToPeakUptoRow : OpenClaim := { program := "ytpchbkahcicaeaa", sum := "b0776fcfbbf934d0fb10b99bf638c871ab468616f944ca8ec6a3200f542a9704", func := "loop.example/g01279/laws.FnExactScaleToPeak", spec := "fnExactScaleToPeak", inPlace := ["math.Float64bits", "math.Float64frombits"], unfollowed := true, recurses := true, apart := false, narrowed := true }
def FnExactScaleToPeakUptoSaid : Prop := fnExactScaleToPeakUptoRow.holds Try.pinned (OpenSpec.upto fnExactScaleToPeakSpec)

end Rows
end Go.Proofs.Ytpchbkahcicaeaa
