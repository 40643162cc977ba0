/-
  No cell of these rows narrows 'for every input' (looked for: loops, veiled, ifaces, maps, wideKeys, modest, calm, conditions, laid).
  DERIVED. THE GIVEN ROWS OF THIS SEAT. 8 by the template 'for every input the law returns true; each argument reads behind the call as it read before'; 0 by the template 'total and deterministic' (their statements: YteddfolpmmimiaaTotals.lean).
  GIVEN WITH THE SEED: the statements are not yours to turn. If you find one false, say at which input.
  Laid BY PROGRAM, IN A SANDBOX (cutbox-rows.mjs): the forced cells as the released guide's own fill.sh prints them over the translation 580e52c5bb8b3df3… (all of the seat's roots in one cut). By AI agents, Wed Nov 11 2026. No macro, syntax, notation, axiom, sorry.
-/
import Derived.Test.YteddfolpmmimiaaChecked
import GoSem.Claim
import GoSem.ClaimJoined
import GoSem.ClaimMapViews
import Derived.JoinedTies
import Derived.KernelRfl
namespace Go.Proofs.Yteddfolpmmimiaa
/- THE CELL 'sum', in the pinned program and in every row, IS THE sha256 OF THE DUMP (.gsa) THAT YteddfolpmmimiaaProg.lean LOADS. Nothing in Lean hashes anything: it is a label: what it is worth is what the hold of that sum in a sandbox is worth. -/
noncomputable def Try.pinned : Pinned := { name := "yteddfolpmmimiaa", sum := "580e52c5bb8b3df3987b4cd45aa12e7d8b728a31258d0416c915b4a08cf438d2", checked := Try.checked }
namespace Rows
def none {H : Type} : Left H := { results := [], args := [] }

/-- 'laws.FnVoices': WHATEVER THE INPUT: true; the input reads as it did. -/
def fnVoicesSpec : ChangeSpec := { name := "fnVoices", fn := fun _ => fun
  | [d1, d2] => { results := [.lit (.bool true)], args := [d1, d2] }
  | _ => none }
def fnVoicesRow : OpenClaim := { program := "yteddfolpmmimiaa", sum := "580e52c5bb8b3df3987b4cd45aa12e7d8b728a31258d0416c915b4a08cf438d2", func := "loop.example/g01279/laws.FnVoices", spec := "fnVoices", inPlace := ["math.Float64frombits", "math.Float32bits", "math.Float64bits"], apart := false }
def FnVoicesSaid : Prop := fnVoicesRow.holds Try.pinned (OpenSpec.ofChange fnVoicesSpec)

/-- ITS FALSE NEIGHBOUR: 'it returns false'. Refute it at one input. -/
def fnVoicesWrong : ChangeSpec := { name := "fnVoices", fn := fun _ => fun
  | [d1, d2] => { results := [.lit (.bool false)], args := [d1, d2] }
  | _ => none }
def FnVoicesWrongFalsely : Prop := fnVoicesRow.holds Try.pinned (OpenSpec.ofChange fnVoicesWrong)

/-- 'laws.FnWaves': WHATEVER THE INPUT: true; the input reads as it did. -/
def fnWavesSpec : ChangeSpec := { name := "fnWaves", fn := fun _ => fun
  | [d1, d2] => { results := [.lit (.bool true)], args := [d1, d2] }
  | _ => none }
def fnWavesRow : OpenClaim := { program := "yteddfolpmmimiaa", sum := "580e52c5bb8b3df3987b4cd45aa12e7d8b728a31258d0416c915b4a08cf438d2", func := "loop.example/g01279/laws.FnWaves", spec := "fnWaves", inPlace := ["math.Float64bits"], apart := false }
def FnWavesSaid : Prop := fnWavesRow.holds Try.pinned (OpenSpec.ofChange fnWavesSpec)

/-- ITS FALSE NEIGHBOUR: 'it returns false'. Refute it at one input. -/
def fnWavesWrong : ChangeSpec := { name := "fnWaves", fn := fun _ => fun
  | [d1, d2] => { results := [.lit (.bool false)], args := [d1, d2] }
  | _ => none }
def FnWavesWrongFalsely : Prop := fnWavesRow.holds Try.pinned (OpenSpec.ofChange fnWavesWrong)

/-- 'laws.FnResponses': WHATEVER THE INPUT: true; the input reads as it did. -/
def fnResponsesSpec : ChangeSpec := { name := "fnResponses", fn := fun _ => fun
  | [d1, d2] => { results := [.lit (.bool true)], args := [d1, d2] }
  | _ => none }
def fnResponsesRow : OpenClaim := { program := "yteddfolpmmimiaa", sum := "580e52c5bb8b3df3987b4cd45aa12e7d8b728a31258d0416c915b4a08cf438d2", func := "loop.example/g01279/laws.FnResponses", spec := "fnResponses", inPlace := ["math.Float64frombits", "math.sqrt"], unfollowed := true, recurses := true, apart := false }
def FnResponsesSaid : Prop := fnResponsesRow.holds Try.pinned (OpenSpec.ofChange fnResponsesSpec)

/-- ITS FALSE NEIGHBOUR: 'it returns false'. Refute it at one input. -/
def fnResponsesWrong : ChangeSpec := { name := "fnResponses", fn := fun _ => fun
  | [d1, d2] => { results := [.lit (.bool false)], args := [d1, d2] }
  | _ => none }
def FnResponsesWrongFalsely : Prop := fnResponsesRow.holds Try.pinned (OpenSpec.ofChange fnResponsesWrong)

/-- 'laws.FnRates': WHATEVER THE INPUT: true; the input reads as it did. -/
def fnRatesSpec : ChangeSpec := { name := "fnRates", fn := fun _ => fun
  | [d1, d2] => { results := [.lit (.bool true)], args := [d1, d2] }
  | _ => none }
def fnRatesRow : OpenClaim := { program := "yteddfolpmmimiaa", sum := "580e52c5bb8b3df3987b4cd45aa12e7d8b728a31258d0416c915b4a08cf438d2", func := "loop.example/g01279/laws.FnRates", spec := "fnRates", inPlace := ["math.Float64frombits"], apart := false }
def FnRatesSaid : Prop := fnRatesRow.holds Try.pinned (OpenSpec.ofChange fnRatesSpec)

/-- ITS FALSE NEIGHBOUR: 'it returns false'. Refute it at one input. -/
def fnRatesWrong : ChangeSpec := { name := "fnRates", fn := fun _ => fun
  | [d1, d2] => { results := [.lit (.bool false)], args := [d1, d2] }
  | _ => none }
def FnRatesWrongFalsely : Prop := fnRatesRow.holds Try.pinned (OpenSpec.ofChange fnRatesWrong)

/-- 'laws.FnEnvelopes': WHATEVER THE INPUT: true; the input reads as it did. -/
def fnEnvelopesSpec : ChangeSpec := { name := "fnEnvelopes", fn := fun _ => fun
  | [d1, d2] => { results := [.lit (.bool true)], args := [d1, d2] }
  | _ => none }
def fnEnvelopesRow : OpenClaim := { program := "yteddfolpmmimiaa", sum := "580e52c5bb8b3df3987b4cd45aa12e7d8b728a31258d0416c915b4a08cf438d2", func := "loop.example/g01279/laws.FnEnvelopes", spec := "fnEnvelopes", inPlace := ["math.Float64bits"], unfollowed := true, recurses := true, apart := false }
def FnEnvelopesSaid : Prop := fnEnvelopesRow.holds Try.pinned (OpenSpec.ofChange fnEnvelopesSpec)

/-- ITS FALSE NEIGHBOUR: 'it returns false'. Refute it at one input. -/
def fnEnvelopesWrong : ChangeSpec := { name := "fnEnvelopes", fn := fun _ => fun
  | [d1, d2] => { results := [.lit (.bool false)], args := [d1, d2] }
  | _ => none }
def FnEnvelopesWrongFalsely : Prop := fnEnvelopesRow.holds Try.pinned (OpenSpec.ofChange fnEnvelopesWrong)

/-- 'laws.FnMixed': WHATEVER THE INPUT: true; the input reads as it did. -/
def fnMixedSpec : ChangeSpec := { name := "fnMixed", fn := fun _ => fun
  | [d1, d2] => { results := [.lit (.bool true)], args := [d1, d2] }
  | _ => none }
def fnMixedRow : OpenClaim := { program := "yteddfolpmmimiaa", sum := "580e52c5bb8b3df3987b4cd45aa12e7d8b728a31258d0416c915b4a08cf438d2", func := "loop.example/g01279/laws.FnMixed", spec := "fnMixed", inPlace := ["math.Float64bits", "math.Float64frombits", "math.sqrt"], unfollowed := true, recurses := true, apart := false }
def FnMixedSaid : Prop := fnMixedRow.holds Try.pinned (OpenSpec.ofChange fnMixedSpec)

/-- ITS FALSE NEIGHBOUR: 'it returns false'. Refute it at one input. -/
def fnMixedWrong : ChangeSpec := { name := "fnMixed", fn := fun _ => fun
  | [d1, d2] => { results := [.lit (.bool false)], args := [d1, d2] }
  | _ => none }
def FnMixedWrongFalsely : Prop := fnMixedRow.holds Try.pinned (OpenSpec.ofChange fnMixedWrong)

/-- 'laws.FnPulses': WHATEVER THE INPUT: true; the input reads as it did. -/
def fnPulsesSpec : ChangeSpec := { name := "fnPulses", fn := fun _ => fun
  | [d1, d2] => { results := [.lit (.bool true)], args := [d1, d2] }
  | _ => none }
def fnPulsesRow : OpenClaim := { program := "yteddfolpmmimiaa", sum := "580e52c5bb8b3df3987b4cd45aa12e7d8b728a31258d0416c915b4a08cf438d2", func := "loop.example/g01279/laws.FnPulses", spec := "fnPulses", inPlace := ["math.Float64frombits", "math.archFloor", "math.Float64bits", "math.archTrunc"], apart := false }
def FnPulsesSaid : Prop := fnPulsesRow.holds Try.pinned (OpenSpec.ofChange fnPulsesSpec)

/-- ITS FALSE NEIGHBOUR: 'it returns false'. Refute it at one input. -/
def fnPulsesWrong : ChangeSpec := { name := "fnPulses", fn := fun _ => fun
  | [d1, d2] => { results := [.lit (.bool false)], args := [d1, d2] }
  | _ => none }
def FnPulsesWrongFalsely : Prop := fnPulsesRow.holds Try.pinned (OpenSpec.ofChange fnPulsesWrong)

/-- 'laws.FnTubes': WHATEVER THE INPUT: true; the input reads as it did. -/
def fnTubesSpec : ChangeSpec := { name := "fnTubes", fn := fun _ => fun
  | [d1, d2] => { results := [.lit (.bool true)], args := [d1, d2] }
  | _ => none }
def fnTubesRow : OpenClaim := { program := "yteddfolpmmimiaa", sum := "580e52c5bb8b3df3987b4cd45aa12e7d8b728a31258d0416c915b4a08cf438d2", func := "loop.example/g01279/laws.FnTubes", spec := "fnTubes", inPlace := ["math.Float64bits", "math.sqrt"], unfollowed := true, recurses := true, apart := false }
def FnTubesSaid : Prop := fnTubesRow.holds Try.pinned (OpenSpec.ofChange fnTubesSpec)

/-- ITS FALSE NEIGHBOUR: 'it returns false'. Refute it at one input. -/
def fnTubesWrong : ChangeSpec := { name := "fnTubes", fn := fun _ => fun
  | [d1, d2] => { results := [.lit (.bool false)], args := [d1, d2] }
  | _ => none }
def FnTubesWrongFalsely : Prop := fnTubesRow.holds Try.pinned (OpenSpec.ofChange fnTubesWrong)

/- THE SECOND FORM. 'bulk': how many values and letters a reading holds, each counted each time it is reached (what is shared counts as often as it is met; a slice's spare places count too). A statement '..UptoSaid' is the law's where the arguments, and the package variables that the reading takes, are together of bulk at most 1048576: NARROWER than '..Said'. Prove '..Said' where nothing that the law and all that it calls make is longer than what came in: it says more and counts as full. Else prove '..UptoSaid'. A law counts once. -/
mutual
def uptoBulk {H : Type} : DataW H → Nat
  | .lit (.string bytes) => bytes.length + 1
  | .lit _ => 1
  | .nil => 1
  | .ptr d => uptoBulk d + 1
  | .slice elems spare => uptoBulkAll elems + uptoBulkAll spare + 1
  | .agg parts => uptoBulkAll parts + 1
  | .iface _ d => uptoBulk d + 1
  | .map entries => uptoBulkEntries entries + 1
  | .held _ => 1
def uptoBulkAll {H : Type} : List (DataW H) → Nat
  | [] => 0
  | d :: r => uptoBulk d + uptoBulkAll r
def uptoBulkEntries {H : Type} : List (Lit × DataW H) → Nat
  | [] => 0
  | x :: r => uptoBulkEntry x + uptoBulkEntries r
def uptoBulkEntry {H : Type} : Lit × DataW H → Nat
  | (.string bytes, d) => bytes.length + uptoBulk d + 1
  | (_, d) => uptoBulk d + 1
 end
def uptoSmall : (H : Type) → List (DataW H) → Bool := fun _ ds => decide (uptoBulkAll ds ≤ 1048576)
def OpenSpec.upto (s : _root_.Go.ChangeSpec) : _root_.Go.OpenSpec := { _root_.Go.OpenSpec.ofChange s with cond := some uptoSmall }

/-- 'laws.FnVoices', WHERE WHAT IT READS IS OF BULK AT MOST 1048576: true; the input reads as it did. -/
def fnVoicesUptoRow : OpenClaim := { program := "yteddfolpmmimiaa", sum := "580e52c5bb8b3df3987b4cd45aa12e7d8b728a31258d0416c915b4a08cf438d2", func := "loop.example/g01279/laws.FnVoices", spec := "fnVoices", inPlace := ["math.Float64frombits", "math.Float32bits", "math.Float64bits"], apart := false, narrowed := true }
def FnVoicesUptoSaid : Prop := fnVoicesUptoRow.holds Try.pinned (OpenSpec.upto fnVoicesSpec)

/-- 'laws.FnWaves', WHERE WHAT IT READS IS OF BULK AT MOST 1048576: true; the input reads as it did. -/
def fnWavesUptoRow : OpenClaim := { program := "yteddfolpmmimiaa", sum := "580e52c5bb8b3df3987b4cd45aa12e7d8b728a31258d0416c915b4a08cf438d2", func := "loop.example/g01279/laws.FnWaves", spec := "fnWaves", inPlace := ["math.Float64bits"], apart := false, narrowed := true }
def FnWavesUptoSaid : Prop := fnWavesUptoRow.holds Try.pinned (OpenSpec.upto fnWavesSpec)

/-- 'laws.FnResponses', WHERE WHAT IT READS IS OF BULK AT MOST 1048576: true; the input reads as it did. -/
def fnResponsesUptoRow : OpenClaim := { program := "yteddfolpmmimiaa", sum := "580e52c5bb8b3df3987b4cd45aa12e7d8b728a31258d0416c915b4a08cf438d2", func := "loop.example/g01279/laws.FnResponses", spec := "fnResponses", inPlace := ["math.Float64frombits", "math.sqrt"], unfollowed := true, recurses := true, apart := false, narrowed := true }
def FnResponsesUptoSaid : Prop := fnResponsesUptoRow.holds Try.pinned (OpenSpec.upto fnResponsesSpec)

/-- 'laws.FnRates', WHERE WHAT IT READS IS OF BULK AT MOST 1048576: true; the input reads as it did. -/
def fnRatesUptoRow : OpenClaim := { program := "yteddfolpmmimiaa", sum := "580e52c5bb8b3df3987b4cd45aa12e7d8b728a31258d0416c915b4a08cf438d2", func := "loop.example/g01279/laws.FnRates", spec := "fnRates", inPlace := ["math.Float64frombits"], apart := false, narrowed := true }
def FnRatesUptoSaid : Prop := fnRatesUptoRow.holds Try.pinned (OpenSpec.upto fnRatesSpec)

/-- 'laws.FnEnvelopes', WHERE WHAT IT READS IS OF BULK AT MOST 1048576: true; the input reads as it did. -/
def fnEnvelopesUptoRow : OpenClaim := { program := "yteddfolpmmimiaa", sum := "580e52c5bb8b3df3987b4cd45aa12e7d8b728a31258d0416c915b4a08cf438d2", func := "loop.example/g01279/laws.FnEnvelopes", spec := "fnEnvelopes", inPlace := ["math.Float64bits"], unfollowed := true, recurses := true, apart := false, narrowed := true }
def FnEnvelopesUptoSaid : Prop := fnEnvelopesUptoRow.holds Try.pinned (OpenSpec.upto fnEnvelopesSpec)

/-- 'laws.FnMixed', WHERE WHAT IT READS IS OF BULK AT MOST 1048576: true; the input reads as it did. -/
def fnMixedUptoRow : OpenClaim := { program := "yteddfolpmmimiaa", sum := "580e52c5bb8b3df3987b4cd45aa12e7d8b728a31258d0416c915b4a08cf438d2", func := "loop.example/g01279/laws.FnMixed", spec := "fnMixed", inPlace := ["math.Float64bits", "math.Float64frombits", "math.sqrt"], unfollowed := true, recurses := true, apart := false, narrowed := true }
def FnMixedUptoSaid : Prop := fnMixedUptoRow.holds Try.pinned (OpenSpec.upto fnMixedSpec)

/-- 'laws.FnPulses', WHERE WHAT IT READS IS OF BULK AT MOST 1048576: true; the input reads as it did. -/
def fnPulsesUptoRow : OpenClaim := { program := "yteddfolpmmimiaa", sum := "580e52c5bb8b3df3987b4cd45aa12e7d8b728a31258d0416c915b4a08cf438d2", func := "loop.example/g01279/laws.FnPulses", spec := "fnPulses", inPlace := ["math.Float64frombits", "math.archFloor", "math.Float64bits", "math.archTrunc"], apart := false, narrowed := true }
def FnPulsesUptoSaid : Prop := fnPulsesUptoRow.holds Try.pinned (OpenSpec.upto fnPulsesSpec)

/-- 'laws.FnTubes', WHERE WHAT IT READS IS OF BULK AT MOST 1048576: true; the input reads as it did. -/
def fnTubesUptoRow : OpenClaim := { program := "yteddfolpmmimiaa", sum := "580e52c5bb8b3df3987b4cd45aa12e7d8b728a31258d0416c915b4a08cf438d2", func := "loop.example/g01279/laws.FnTubes", spec := "fnTubes", inPlace := ["math.Float64bits", "math.sqrt"], unfollowed := true, recurses := true, apart := false, narrowed := true }
def FnTubesUptoSaid : Prop := fnTubesUptoRow.holds Try.pinned (OpenSpec.upto fnTubesSpec)

end Rows
end Go.Proofs.Yteddfolpmmimiaa
