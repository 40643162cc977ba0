/-
  No cell of these rows narrows 'for every input' (looked for: loops, veiled, ifaces, maps, wideKeys, modest, calm, conditions, laid).
  DERIVED. THE GIVEN ROWS OF THIS SEAT. 12 by the template 'for every input the law returns true; each argument reads behind the call as it read before'; 0 by the template 'total and deterministic' (their statements: YthhkkhjiaflkpaaTotals.lean).
  GIVEN WITH THE SEED: the statements are not yours to turn. If you find one false, say at which input.
  Laid BY PROGRAM, IN A SANDBOX (cutbox-rows.mjs): the forced cells as the released guide's own fill.sh prints them over the translation 8ddbece2a71fd838… (all of the seat's roots in one cut). By AI agents, Wed Nov 11 2026. No macro, syntax, notation, axiom, sorry.
-/
import Derived.Test.YthhkkhjiaflkpaaChecked
import GoSem.Claim
import GoSem.ClaimJoined
import GoSem.ClaimMapViews
import Derived.JoinedTies
import Derived.KernelRfl
namespace Go.Proofs.Ythhkkhjiaflkpaa
/- THE CELL 'sum', in the pinned program and in every row, IS THE sha256 OF THE DUMP (.gsa) THAT YthhkkhjiaflkpaaProg.lean LOADS. Nothing in Lean hashes anything: it is a label: what it is worth is what the hold of that sum in a sandbox is worth. -/
noncomputable def Try.pinned : Pinned := { name := "ythhkkhjiaflkpaa", sum := "8ddbece2a71fd838afc3efefb0710e0756d119e7df136bf50861ec9d1cb7aae4", checked := Try.checked }
namespace Rows
def none {H : Type} : Left H := { results := [], args := [] }

/-- 'laws.FnExactValidThroat': WHATEVER THE INPUT: true; the input reads as it did. -/
def fnExactValidThroatSpec : ChangeSpec := { name := "fnExactValidThroat", fn := fun _ => fun
  | [d] => { results := [.lit (.bool true)], args := [d] }
  | _ => none }
def fnExactValidThroatRow : OpenClaim := { program := "ythhkkhjiaflkpaa", sum := "8ddbece2a71fd838afc3efefb0710e0756d119e7df136bf50861ec9d1cb7aae4", func := "loop.example/g01279/laws.FnExactValidThroat", spec := "fnExactValidThroat", apart := false }
def FnExactValidThroatSaid : Prop := fnExactValidThroatRow.holds Try.pinned (OpenSpec.ofChange fnExactValidThroatSpec)

/-- ITS FALSE NEIGHBOUR: 'it returns false'. Refute it at one input. -/
def fnExactValidThroatWrong : ChangeSpec := { name := "fnExactValidThroat", fn := fun _ => fun
  | [d] => { results := [.lit (.bool false)], args := [d] }
  | _ => none }
def FnExactValidThroatWrongFalsely : Prop := fnExactValidThroatRow.holds Try.pinned (OpenSpec.ofChange fnExactValidThroatWrong)

/-- 'laws.FnExactValidVoice': WHATEVER THE INPUT: true; the input reads as it did. -/
def fnExactValidVoiceSpec : ChangeSpec := { name := "fnExactValidVoice", fn := fun _ => fun
  | [d] => { results := [.lit (.bool true)], args := [d] }
  | _ => none }
def fnExactValidVoiceRow : OpenClaim := { program := "ythhkkhjiaflkpaa", sum := "8ddbece2a71fd838afc3efefb0710e0756d119e7df136bf50861ec9d1cb7aae4", func := "loop.example/g01279/laws.FnExactValidVoice", spec := "fnExactValidVoice", apart := false }
def FnExactValidVoiceSaid : Prop := fnExactValidVoiceRow.holds Try.pinned (OpenSpec.ofChange fnExactValidVoiceSpec)

/-- ITS FALSE NEIGHBOUR: 'it returns false'. Refute it at one input. -/
def fnExactValidVoiceWrong : ChangeSpec := { name := "fnExactValidVoice", fn := fun _ => fun
  | [d] => { results := [.lit (.bool false)], args := [d] }
  | _ => none }
def FnExactValidVoiceWrongFalsely : Prop := fnExactValidVoiceRow.holds Try.pinned (OpenSpec.ofChange fnExactValidVoiceWrong)

/-- 'laws.FnExactSameVoice': WHATEVER THE INPUT: true; the input reads as it did. -/
def fnExactSameVoiceSpec : ChangeSpec := { name := "fnExactSameVoice", fn := fun _ => fun
  | [d1, d2] => { results := [.lit (.bool true)], args := [d1, d2] }
  | _ => none }
def fnExactSameVoiceRow : OpenClaim := { program := "ythhkkhjiaflkpaa", sum := "8ddbece2a71fd838afc3efefb0710e0756d119e7df136bf50861ec9d1cb7aae4", func := "loop.example/g01279/laws.FnExactSameVoice", spec := "fnExactSameVoice", inPlace := ["math.Float32bits", "math.Float64bits"], apart := false }
def FnExactSameVoiceSaid : Prop := fnExactSameVoiceRow.holds Try.pinned (OpenSpec.ofChange fnExactSameVoiceSpec)

/-- ITS FALSE NEIGHBOUR: 'it returns false'. Refute it at one input. -/
def fnExactSameVoiceWrong : ChangeSpec := { name := "fnExactSameVoice", fn := fun _ => fun
  | [d1, d2] => { results := [.lit (.bool false)], args := [d1, d2] }
  | _ => none }
def FnExactSameVoiceWrongFalsely : Prop := fnExactSameVoiceRow.holds Try.pinned (OpenSpec.ofChange fnExactSameVoiceWrong)

/-- 'laws.FnExactSameThroat': WHATEVER THE INPUT: true; the input reads as it did. -/
def fnExactSameThroatSpec : ChangeSpec := { name := "fnExactSameThroat", fn := fun _ => fun
  | [d1, d2] => { results := [.lit (.bool true)], args := [d1, d2] }
  | _ => none }
def fnExactSameThroatRow : OpenClaim := { program := "ythhkkhjiaflkpaa", sum := "8ddbece2a71fd838afc3efefb0710e0756d119e7df136bf50861ec9d1cb7aae4", func := "loop.example/g01279/laws.FnExactSameThroat", spec := "fnExactSameThroat", inPlace := ["math.Float32bits", "math.Float64bits"], apart := false }
def FnExactSameThroatSaid : Prop := fnExactSameThroatRow.holds Try.pinned (OpenSpec.ofChange fnExactSameThroatSpec)

/-- ITS FALSE NEIGHBOUR: 'it returns false'. Refute it at one input. -/
def fnExactSameThroatWrong : ChangeSpec := { name := "fnExactSameThroat", fn := fun _ => fun
  | [d1, d2] => { results := [.lit (.bool false)], args := [d1, d2] }
  | _ => none }
def FnExactSameThroatWrongFalsely : Prop := fnExactSameThroatRow.holds Try.pinned (OpenSpec.ofChange fnExactSameThroatWrong)

/-- 'laws.FnExactNewVoice': WHATEVER THE INPUT: true; the input reads as it did. -/
def fnExactNewVoiceSpec : ChangeSpec := { name := "fnExactNewVoice", fn := fun _ => fun
  | [d1, d2] => { results := [.lit (.bool true)], args := [d1, d2] }
  | _ => none }
def fnExactNewVoiceRow : OpenClaim := { program := "ythhkkhjiaflkpaa", sum := "8ddbece2a71fd838afc3efefb0710e0756d119e7df136bf50861ec9d1cb7aae4", func := "loop.example/g01279/laws.FnExactNewVoice", spec := "fnExactNewVoice", apart := false }
def FnExactNewVoiceSaid : Prop := fnExactNewVoiceRow.holds Try.pinned (OpenSpec.ofChange fnExactNewVoiceSpec)

/-- ITS FALSE NEIGHBOUR: 'it returns false'. Refute it at one input. -/
def fnExactNewVoiceWrong : ChangeSpec := { name := "fnExactNewVoice", fn := fun _ => fun
  | [d1, d2] => { results := [.lit (.bool false)], args := [d1, d2] }
  | _ => none }
def FnExactNewVoiceWrongFalsely : Prop := fnExactNewVoiceRow.holds Try.pinned (OpenSpec.ofChange fnExactNewVoiceWrong)

/-- 'laws.FnExactNoteRate': WHATEVER THE INPUT: true; the input reads as it did. -/
def fnExactNoteRateSpec : ChangeSpec := { name := "fnExactNoteRate", fn := fun _ => fun
  | [d] => { results := [.lit (.bool true)], args := [d] }
  | _ => none }
def fnExactNoteRateRow : OpenClaim := { program := "ythhkkhjiaflkpaa", sum := "8ddbece2a71fd838afc3efefb0710e0756d119e7df136bf50861ec9d1cb7aae4", func := "loop.example/g01279/laws.FnExactNoteRate", spec := "fnExactNoteRate", inPlace := ["math.Float64frombits"], apart := false }
def FnExactNoteRateSaid : Prop := fnExactNoteRateRow.holds Try.pinned (OpenSpec.ofChange fnExactNoteRateSpec)

/-- ITS FALSE NEIGHBOUR: 'it returns false'. Refute it at one input. -/
def fnExactNoteRateWrong : ChangeSpec := { name := "fnExactNoteRate", fn := fun _ => fun
  | [d] => { results := [.lit (.bool false)], args := [d] }
  | _ => none }
def FnExactNoteRateWrongFalsely : Prop := fnExactNoteRateRow.holds Try.pinned (OpenSpec.ofChange fnExactNoteRateWrong)

/-- 'laws.FnExactPulseAt': WHATEVER THE INPUT: true; the input reads as it did. -/
def fnExactPulseAtSpec : ChangeSpec := { name := "fnExactPulseAt", fn := fun _ => fun
  | [d1, d2] => { results := [.lit (.bool true)], args := [d1, d2] }
  | _ => none }
def fnExactPulseAtRow : OpenClaim := { program := "ythhkkhjiaflkpaa", sum := "8ddbece2a71fd838afc3efefb0710e0756d119e7df136bf50861ec9d1cb7aae4", func := "loop.example/g01279/laws.FnExactPulseAt", spec := "fnExactPulseAt", inPlace := ["math.Float64frombits"], apart := false }
def FnExactPulseAtSaid : Prop := fnExactPulseAtRow.holds Try.pinned (OpenSpec.ofChange fnExactPulseAtSpec)

/-- ITS FALSE NEIGHBOUR: 'it returns false'. Refute it at one input. -/
def fnExactPulseAtWrong : ChangeSpec := { name := "fnExactPulseAt", fn := fun _ => fun
  | [d1, d2] => { results := [.lit (.bool false)], args := [d1, d2] }
  | _ => none }
def FnExactPulseAtWrongFalsely : Prop := fnExactPulseAtRow.holds Try.pinned (OpenSpec.ofChange fnExactPulseAtWrong)

/-- 'laws.FnExactMeanFlow': WHATEVER THE INPUT: true; the input reads as it did. -/
def fnExactMeanFlowSpec : ChangeSpec := { name := "fnExactMeanFlow", fn := fun _ => fun
  | [d1, d2] => { results := [.lit (.bool true)], args := [d1, d2] }
  | _ => none }
def fnExactMeanFlowRow : OpenClaim := { program := "ythhkkhjiaflkpaa", sum := "8ddbece2a71fd838afc3efefb0710e0756d119e7df136bf50861ec9d1cb7aae4", func := "loop.example/g01279/laws.FnExactMeanFlow", spec := "fnExactMeanFlow", inPlace := ["math.Float64frombits"], apart := false }
def FnExactMeanFlowSaid : Prop := fnExactMeanFlowRow.holds Try.pinned (OpenSpec.ofChange fnExactMeanFlowSpec)

/-- ITS FALSE NEIGHBOUR: 'it returns false'. Refute it at one input. -/
def fnExactMeanFlowWrong : ChangeSpec := { name := "fnExactMeanFlow", fn := fun _ => fun
  | [d1, d2] => { results := [.lit (.bool false)], args := [d1, d2] }
  | _ => none }
def FnExactMeanFlowWrongFalsely : Prop := fnExactMeanFlowRow.holds Try.pinned (OpenSpec.ofChange fnExactMeanFlowWrong)

/-- 'laws.FnExactFlowOfThroat': WHATEVER THE INPUT: true; the input reads as it did. -/
def fnExactFlowOfThroatSpec : ChangeSpec := { name := "fnExactFlowOfThroat", fn := fun _ => fun
  | [d1, d2] => { results := [.lit (.bool true)], args := [d1, d2] }
  | _ => none }
def fnExactFlowOfThroatRow : OpenClaim := { program := "ythhkkhjiaflkpaa", sum := "8ddbece2a71fd838afc3efefb0710e0756d119e7df136bf50861ec9d1cb7aae4", func := "loop.example/g01279/laws.FnExactFlowOfThroat", spec := "fnExactFlowOfThroat", inPlace := ["math.archFloor", "math.Float64bits", "math.Float64frombits", "math.archTrunc"], apart := false }
def FnExactFlowOfThroatSaid : Prop := fnExactFlowOfThroatRow.holds Try.pinned (OpenSpec.ofChange fnExactFlowOfThroatSpec)

/-- ITS FALSE NEIGHBOUR: 'it returns false'. Refute it at one input. -/
def fnExactFlowOfThroatWrong : ChangeSpec := { name := "fnExactFlowOfThroat", fn := fun _ => fun
  | [d1, d2] => { results := [.lit (.bool false)], args := [d1, d2] }
  | _ => none }
def FnExactFlowOfThroatWrongFalsely : Prop := fnExactFlowOfThroatRow.holds Try.pinned (OpenSpec.ofChange fnExactFlowOfThroatWrong)

/-- 'laws.FnExactStepVoice': WHATEVER THE INPUT: true; the input reads as it did. -/
def fnExactStepVoiceSpec : ChangeSpec := { name := "fnExactStepVoice", fn := fun _ => fun
  | [d1, d2] => { results := [.lit (.bool true)], args := [d1, d2] }
  | _ => none }
def fnExactStepVoiceRow : OpenClaim := { program := "ythhkkhjiaflkpaa", sum := "8ddbece2a71fd838afc3efefb0710e0756d119e7df136bf50861ec9d1cb7aae4", func := "loop.example/g01279/laws.FnExactStepVoice", spec := "fnExactStepVoice", inPlace := ["math.Float64frombits"], apart := false }
def FnExactStepVoiceSaid : Prop := fnExactStepVoiceRow.holds Try.pinned (OpenSpec.ofChange fnExactStepVoiceSpec)

/-- ITS FALSE NEIGHBOUR: 'it returns false'. Refute it at one input. -/
def fnExactStepVoiceWrong : ChangeSpec := { name := "fnExactStepVoice", fn := fun _ => fun
  | [d1, d2] => { results := [.lit (.bool false)], args := [d1, d2] }
  | _ => none }
def FnExactStepVoiceWrongFalsely : Prop := fnExactStepVoiceRow.holds Try.pinned (OpenSpec.ofChange fnExactStepVoiceWrong)

/-- 'laws.FnExactRunVoice': WHATEVER THE INPUT: true; the input reads as it did. -/
def fnExactRunVoiceSpec : ChangeSpec := { name := "fnExactRunVoice", fn := fun _ => fun
  | [d1, d2, d3] => { results := [.lit (.bool true)], args := [d1, d2, d3] }
  | _ => none }
def fnExactRunVoiceRow : OpenClaim := { program := "ythhkkhjiaflkpaa", sum := "8ddbece2a71fd838afc3efefb0710e0756d119e7df136bf50861ec9d1cb7aae4", func := "loop.example/g01279/laws.FnExactRunVoice", spec := "fnExactRunVoice", inPlace := ["math.Float64frombits"], apart := false }
def FnExactRunVoiceSaid : Prop := fnExactRunVoiceRow.holds Try.pinned (OpenSpec.ofChange fnExactRunVoiceSpec)

/-- ITS FALSE NEIGHBOUR: 'it returns false'. Refute it at one input. -/
def fnExactRunVoiceWrong : ChangeSpec := { name := "fnExactRunVoice", fn := fun _ => fun
  | [d1, d2, d3] => { results := [.lit (.bool false)], args := [d1, d2, d3] }
  | _ => none }
def FnExactRunVoiceWrongFalsely : Prop := fnExactRunVoiceRow.holds Try.pinned (OpenSpec.ofChange fnExactRunVoiceWrong)

/-- 'laws.FnExactTrembleOf': WHATEVER THE INPUT: true; the input reads as it did. -/
def fnExactTrembleOfSpec : ChangeSpec := { name := "fnExactTrembleOf", fn := fun _ => fun
  | [d1, d2, d3, d4] => { results := [.lit (.bool true)], args := [d1, d2, d3, d4] }
  | _ => none }
def fnExactTrembleOfRow : OpenClaim := { program := "ythhkkhjiaflkpaa", sum := "8ddbece2a71fd838afc3efefb0710e0756d119e7df136bf50861ec9d1cb7aae4", func := "loop.example/g01279/laws.FnExactTrembleOf", spec := "fnExactTrembleOf", inPlace := ["math.Float64frombits"], apart := false }
def FnExactTrembleOfSaid : Prop := fnExactTrembleOfRow.holds Try.pinned (OpenSpec.ofChange fnExactTrembleOfSpec)

/-- ITS FALSE NEIGHBOUR: 'it returns false'. Refute it at one input. -/
def fnExactTrembleOfWrong : ChangeSpec := { name := "fnExactTrembleOf", fn := fun _ => fun
  | [d1, d2, d3, d4] => { results := [.lit (.bool false)], args := [d1, d2, d3, d4] }
  | _ => none }
def FnExactTrembleOfWrongFalsely : Prop := fnExactTrembleOfRow.holds Try.pinned (OpenSpec.ofChange fnExactTrembleOfWrong)

/- THE SECOND FORM. 'bulk': how many values and letters a reading holds, each counted each time it is reached (what is shared counts as often as it is met; a slice's spare places count too). A statement '..UptoSaid' is the law's where the arguments, and the package variables that the reading takes, are together of bulk at most 1048576: NARROWER than '..Said'. Prove '..Said' where nothing that the law and all that it calls make is longer than what came in: it says more and counts as full. Else prove '..UptoSaid'. A law counts once. -/
mutual
def uptoBulk {H : Type} : DataW H → Nat
  | .lit (.string bytes) => bytes.length + 1
  | .lit _ => 1
  | .nil => 1
  | .ptr d => uptoBulk d + 1
  | .slice elems spare => uptoBulkAll elems + uptoBulkAll spare + 1
  | .agg parts => uptoBulkAll parts + 1
  | .iface _ d => uptoBulk d + 1
  | .map entries => uptoBulkEntries entries + 1
  | .held _ => 1
def uptoBulkAll {H : Type} : List (DataW H) → Nat
  | [] => 0
  | d :: r => uptoBulk d + uptoBulkAll r
def uptoBulkEntries {H : Type} : List (Lit × DataW H) → Nat
  | [] => 0
  | x :: r => uptoBulkEntry x + uptoBulkEntries r
def uptoBulkEntry {H : Type} : Lit × DataW H → Nat
  | (.string bytes, d) => bytes.length + uptoBulk d + 1
  | (_, d) => uptoBulk d + 1
 end
def uptoSmall : (H : Type) → List (DataW H) → Bool := fun _ ds => decide (uptoBulkAll ds ≤ 1048576)
def OpenSpec.upto (s : _root_.Go.ChangeSpec) : _root_.Go.OpenSpec := { _root_.Go.OpenSpec.ofChange s with cond := some uptoSmall }

/-- 'laws.FnExactValidThroat', WHERE WHAT IT READS IS OF BULK AT MOST 1048576: true; the input reads as it did. -/
def fnExactValidThroatUptoRow : OpenClaim := { program := "ythhkkhjiaflkpaa", sum := "8ddbece2a71fd838afc3efefb0710e0756d119e7df136bf50861ec9d1cb7aae4", func := "loop.example/g01279/laws.FnExactValidThroat", spec := "fnExactValidThroat", apart := false, narrowed := true }
def FnExactValidThroatUptoSaid : Prop := fnExactValidThroatUptoRow.holds Try.pinned (OpenSpec.upto fnExactValidThroatSpec)

/-- 'laws.FnExactValidVoice', WHERE WHAT IT READS IS OF BULK AT MOST 1048576: true; the input reads as it did. -/
def fnExactValidVoiceUptoRow : OpenClaim := { program := "ythhkkhjiaflkpaa", sum := "8ddbece2a71fd838afc3efefb0710e0756d119e7df136bf50861ec9d1cb7aae4", func := "loop.example/g01279/laws.FnExactValidVoice", spec := "fnExactValidVoice", apart := false, narrowed := true }
def FnExactValidVoiceUptoSaid : Prop := fnExactValidVoiceUptoRow.holds Try.pinned (OpenSpec.upto fnExactValidVoiceSpec)

/-- 'laws.FnExactSameVoice', WHERE WHAT IT READS IS OF BULK AT MOST 1048576: true; the input reads as it did. -/
def fnExactSameVoiceUptoRow : OpenClaim := { program := "ythhkkhjiaflkpaa", sum := "8ddbece2a71fd838afc3efefb0710e0756d119e7df136bf50861ec9d1cb7aae4", func := "loop.example/g01279/laws.FnExactSameVoice", spec := "fnExactSameVoice", inPlace := ["math.Float32bits", "math.Float64bits"], apart := false, narrowed := true }
def FnExactSameVoiceUptoSaid : Prop := fnExactSameVoiceUptoRow.holds Try.pinned (OpenSpec.upto fnExactSameVoiceSpec)

/-- 'laws.FnExactSameThroat', WHERE WHAT IT READS IS OF BULK AT MOST 1048576: true; the input reads as it did. -/
def fnExactSameThroatUptoRow : OpenClaim := { program := "ythhkkhjiaflkpaa", sum := "8ddbece2a71fd838afc3efefb0710e0756d119e7df136bf50861ec9d1cb7aae4", func := "loop.example/g01279/laws.FnExactSameThroat", spec := "fnExactSameThroat", inPlace := ["math.Float32bits", "math.Float64bits"], apart := false, narrowed := true }
def FnExactSameThroatUptoSaid : Prop := fnExactSameThroatUptoRow.holds Try.pinned (OpenSpec.upto fnExactSameThroatSpec)

/-- 'laws.FnExactNewVoice', WHERE WHAT IT READS IS OF BULK AT MOST 1048576: true; the input reads as it did. -/
def fnExactNewVoiceUptoRow : OpenClaim := { program := "ythhkkhjiaflkpaa", sum := "8ddbece2a71fd838afc3efefb0710e0756d119e7df136bf50861ec9d1cb7aae4", func := "loop.example/g01279/laws.FnExactNewVoice", spec := "fnExactNewVoice", apart := false, narrowed := true }
def FnExactNewVoiceUptoSaid : Prop := fnExactNewVoiceUptoRow.holds Try.pinned (OpenSpec.upto fnExactNewVoiceSpec)

/-- 'laws.FnExactNoteRate', WHERE WHAT IT READS IS OF BULK AT MOST 1048576: true; the input reads as it did. -/
def fnExactNoteRateUptoRow : OpenClaim := { program := "ythhkkhjiaflkpaa", sum := "8ddbece2a71fd838afc3efefb0710e0756d119e7df136bf50861ec9d1cb7aae4", func := "loop.example/g01279/laws.FnExactNoteRate", spec := "fnExactNoteRate", inPlace := ["math.Float64frombits"], apart := false, narrowed := true }
def FnExactNoteRateUptoSaid : Prop := fnExactNoteRateUptoRow.holds Try.pinned (OpenSpec.upto fnExactNoteRateSpec)

/-- 'laws.FnExactPulseAt', WHERE WHAT IT READS IS OF BULK AT MOST 1048576: true; the input reads as it did. -/
def fnExactPulseAtUptoRow : OpenClaim := { program := "ythhkkhjiaflkpaa", sum := "8ddbece2a71fd838afc3efefb0710e0756d119e7df136bf50861ec9d1cb7aae4", func := "loop.example/g01279/laws.FnExactPulseAt", spec := "fnExactPulseAt", inPlace := ["math.Float64frombits"], apart := false, narrowed := true }
def FnExactPulseAtUptoSaid : Prop := fnExactPulseAtUptoRow.holds Try.pinned (OpenSpec.upto fnExactPulseAtSpec)

/-- 'laws.FnExactMeanFlow', WHERE WHAT IT READS IS OF BULK AT MOST 1048576: true; the input reads as it did. -/
def fnExactMeanFlowUptoRow : OpenClaim := { program := "ythhkkhjiaflkpaa", sum := "8ddbece2a71fd838afc3efefb0710e0756d119e7df136bf50861ec9d1cb7aae4", func := "loop.example/g01279/laws.FnExactMeanFlow", spec := "fnExactMeanFlow", inPlace := ["math.Float64frombits"], apart := false, narrowed := true }
def FnExactMeanFlowUptoSaid : Prop := fnExactMeanFlowUptoRow.holds Try.pinned (OpenSpec.upto fnExactMeanFlowSpec)

/-- 'laws.FnExactFlowOfThroat', WHERE WHAT IT READS IS OF BULK AT MOST 1048576: true; the input reads as it did. -/
def fnExactFlowOfThroatUptoRow : OpenClaim := { program := "ythhkkhjiaflkpaa", sum := "8ddbece2a71fd838afc3efefb0710e0756d119e7df136bf50861ec9d1cb7aae4", func := "loop.example/g01279/laws.FnExactFlowOfThroat", spec := "fnExactFlowOfThroat", inPlace := ["math.archFloor", "math.Float64bits", "math.Float64frombits", "math.archTrunc"], apart := false, narrowed := true }
def FnExactFlowOfThroatUptoSaid : Prop := fnExactFlowOfThroatUptoRow.holds Try.pinned (OpenSpec.upto fnExactFlowOfThroatSpec)

/-- 'laws.FnExactStepVoice', WHERE WHAT IT READS IS OF BULK AT MOST 1048576: true; the input reads as it did. -/
def fnExactStepVoiceUptoRow : OpenClaim := { program := "ythhkkhjiaflkpaa", sum := "8ddbece2a71fd838afc3efefb0710e0756d119e7df136bf50861ec9d1cb7aae4", func := "loop.example/g01279/laws.FnExactStepVoice", spec := "fnExactStepVoice", inPlace := ["math.Float64frombits"], apart := false, narrowed := true }
def FnExactStepVoiceUptoSaid : Prop := fnExactStepVoiceUptoRow.holds Try.pinned (OpenSpec.upto fnExactStepVoiceSpec)

/-- 'laws.FnExactRunVoice', WHERE WHAT IT READS IS OF BULK AT MOST 1048576: true; the input reads as it did. -/
def fnExactRunVoiceUptoRow : OpenClaim := { program := "ythhkkhjiaflkpaa", sum := "8ddbece2a71fd838afc3efefb0710e0756d119e7df136bf50861ec9d1cb7aae4", func := "loop.example/g01279/laws.FnExactRunVoice", spec := "fnExactRunVoice", inPlace := ["math.Float64frombits"], apart := false, narrowed := true }
def FnExactRunVoiceUptoSaid : Prop := fnExactRunVoiceUptoRow.holds Try.pinned (OpenSpec.upto fnExactRunVoiceSpec)

/-- 'laws.FnExactTrembleOf', WHERE WHAT IT READS IS OF BULK AT MOST 1048576: true; the input reads as it did. -/
def fnExactTrembleOfUptoRow : OpenClaim := { program := "ythhkkhjiaflkpaa", sum := "8ddbece2a71fd838afc3efefb0710e0756d119e7df136bf50861ec9d1cb7aae4", func := "loop.example/g01279/laws.FnExactTrembleOf", spec := "fnExactTrembleOf", inPlace := ["math.Float64frombits"], apart := false, narrowed := true }
def FnExactTrembleOfUptoSaid : Prop := fnExactTrembleOfUptoRow.holds Try.pinned (OpenSpec.upto fnExactTrembleOfSpec)

end Rows
end Go.Proofs.Ythhkkhjiaflkpaa
