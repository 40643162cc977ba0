/-
  No cell of these rows narrows 'for every input' (looked for: loops, veiled, ifaces, maps, wideKeys, modest, calm, conditions, laid).
  DERIVED. THE GIVEN ROWS OF THIS SEAT. 12 by the template 'for every input the law returns true; each argument reads behind the call as it read before'; 0 by the template 'total and deterministic' (their statements: YtblpeabiaoddiaaTotals.lean).
  GIVEN WITH THE SEED: the statements are not yours to turn. If you find one false, say at which input.
  Laid BY PROGRAM, IN A SANDBOX (cutbox-rows.mjs): the forced cells as the released guide's own fill.sh prints them over the translation 9ccf23709fd7c8f9… (all of the seat's roots in one cut). By AI agents, Wed Nov 11 2026. No macro, syntax, notation, axiom, sorry.
-/
import Derived.Test.YtblpeabiaoddiaaChecked
import GoSem.Claim
import GoSem.ClaimJoined
import GoSem.ClaimMapViews
import Derived.JoinedTies
import Derived.KernelRfl
namespace Go.Proofs.Ytblpeabiaoddiaa
/- THE CELL 'sum', in the pinned program and in every row, IS THE sha256 OF THE DUMP (.gsa) THAT YtblpeabiaoddiaaProg.lean LOADS. Nothing in Lean hashes anything: it is a label: what it is worth is what the hold of that sum in a sandbox is worth. -/
noncomputable def Try.pinned : Pinned := { name := "ytblpeabiaoddiaa", sum := "9ccf23709fd7c8f9a0771be1682eb624cbfb14a040051f62f39d4af874db2f8a", checked := Try.checked }
namespace Rows
def none {H : Type} : Left H := { results := [], args := [] }

/-- 'laws.FnExactValidPredictor': WHATEVER THE INPUT: true; the input reads as it did. -/
def fnExactValidPredictorSpec : ChangeSpec := { name := "fnExactValidPredictor", fn := fun _ => fun
  | [d] => { results := [.lit (.bool true)], args := [d] }
  | _ => none }
def fnExactValidPredictorRow : OpenClaim := { program := "ytblpeabiaoddiaa", sum := "9ccf23709fd7c8f9a0771be1682eb624cbfb14a040051f62f39d4af874db2f8a", func := "loop.example/g01279/laws.FnExactValidPredictor", spec := "fnExactValidPredictor", apart := false }
def FnExactValidPredictorSaid : Prop := fnExactValidPredictorRow.holds Try.pinned (OpenSpec.ofChange fnExactValidPredictorSpec)

/-- ITS FALSE NEIGHBOUR: 'it returns false'. Refute it at one input. -/
def fnExactValidPredictorWrong : ChangeSpec := { name := "fnExactValidPredictor", fn := fun _ => fun
  | [d] => { results := [.lit (.bool false)], args := [d] }
  | _ => none }
def FnExactValidPredictorWrongFalsely : Prop := fnExactValidPredictorRow.holds Try.pinned (OpenSpec.ofChange fnExactValidPredictorWrong)

/-- 'laws.FnExactSamePredictor': WHATEVER THE INPUT: true; the input reads as it did. -/
def fnExactSamePredictorSpec : ChangeSpec := { name := "fnExactSamePredictor", fn := fun _ => fun
  | [d1, d2] => { results := [.lit (.bool true)], args := [d1, d2] }
  | _ => none }
def fnExactSamePredictorRow : OpenClaim := { program := "ytblpeabiaoddiaa", sum := "9ccf23709fd7c8f9a0771be1682eb624cbfb14a040051f62f39d4af874db2f8a", func := "loop.example/g01279/laws.FnExactSamePredictor", spec := "fnExactSamePredictor", inPlace := ["math.Float32bits", "math.Float64bits"], apart := false }
def FnExactSamePredictorSaid : Prop := fnExactSamePredictorRow.holds Try.pinned (OpenSpec.ofChange fnExactSamePredictorSpec)

/-- ITS FALSE NEIGHBOUR: 'it returns false'. Refute it at one input. -/
def fnExactSamePredictorWrong : ChangeSpec := { name := "fnExactSamePredictor", fn := fun _ => fun
  | [d1, d2] => { results := [.lit (.bool false)], args := [d1, d2] }
  | _ => none }
def FnExactSamePredictorWrongFalsely : Prop := fnExactSamePredictorRow.holds Try.pinned (OpenSpec.ofChange fnExactSamePredictorWrong)

/-- 'laws.FnExactMixLadders': WHATEVER THE INPUT: true; the input reads as it did. -/
def fnExactMixLaddersSpec : ChangeSpec := { name := "fnExactMixLadders", fn := fun _ => fun
  | [d1, d2, d3] => { results := [.lit (.bool true)], args := [d1, d2, d3] }
  | _ => none }
def fnExactMixLaddersRow : OpenClaim := { program := "ytblpeabiaoddiaa", sum := "9ccf23709fd7c8f9a0771be1682eb624cbfb14a040051f62f39d4af874db2f8a", func := "loop.example/g01279/laws.FnExactMixLadders", spec := "fnExactMixLadders", unfollowed := true, recurses := true, apart := false }
def FnExactMixLaddersSaid : Prop := fnExactMixLaddersRow.holds Try.pinned (OpenSpec.ofChange fnExactMixLaddersSpec)

/-- ITS FALSE NEIGHBOUR: 'it returns false'. Refute it at one input. -/
def fnExactMixLaddersWrong : ChangeSpec := { name := "fnExactMixLadders", fn := fun _ => fun
  | [d1, d2, d3] => { results := [.lit (.bool false)], args := [d1, d2, d3] }
  | _ => none }
def FnExactMixLaddersWrongFalsely : Prop := fnExactMixLaddersRow.holds Try.pinned (OpenSpec.ofChange fnExactMixLaddersWrong)

/-- 'laws.FnExactLagsOf': WHATEVER THE INPUT: true; the input reads as it did. -/
def fnExactLagsOfSpec : ChangeSpec := { name := "fnExactLagsOf", fn := fun _ => fun
  | [d1, d2] => { results := [.lit (.bool true)], args := [d1, d2] }
  | _ => none }
def fnExactLagsOfRow : OpenClaim := { program := "ytblpeabiaoddiaa", sum := "9ccf23709fd7c8f9a0771be1682eb624cbfb14a040051f62f39d4af874db2f8a", func := "loop.example/g01279/laws.FnExactLagsOf", spec := "fnExactLagsOf", apart := false }
def FnExactLagsOfSaid : Prop := fnExactLagsOfRow.holds Try.pinned (OpenSpec.ofChange fnExactLagsOfSpec)

/-- ITS FALSE NEIGHBOUR: 'it returns false'. Refute it at one input. -/
def fnExactLagsOfWrong : ChangeSpec := { name := "fnExactLagsOf", fn := fun _ => fun
  | [d1, d2] => { results := [.lit (.bool false)], args := [d1, d2] }
  | _ => none }
def FnExactLagsOfWrongFalsely : Prop := fnExactLagsOfRow.holds Try.pinned (OpenSpec.ofChange fnExactLagsOfWrong)

/-- 'laws.FnExactPredictAt': WHATEVER THE INPUT: true; the input reads as it did. -/
def fnExactPredictAtSpec : ChangeSpec := { name := "fnExactPredictAt", fn := fun _ => fun
  | [d1, d2, d3] => { results := [.lit (.bool true)], args := [d1, d2, d3] }
  | _ => none }
def fnExactPredictAtRow : OpenClaim := { program := "ytblpeabiaoddiaa", sum := "9ccf23709fd7c8f9a0771be1682eb624cbfb14a040051f62f39d4af874db2f8a", func := "loop.example/g01279/laws.FnExactPredictAt", spec := "fnExactPredictAt", apart := false }
def FnExactPredictAtSaid : Prop := fnExactPredictAtRow.holds Try.pinned (OpenSpec.ofChange fnExactPredictAtSpec)

/-- ITS FALSE NEIGHBOUR: 'it returns false'. Refute it at one input. -/
def fnExactPredictAtWrong : ChangeSpec := { name := "fnExactPredictAt", fn := fun _ => fun
  | [d1, d2, d3] => { results := [.lit (.bool false)], args := [d1, d2, d3] }
  | _ => none }
def FnExactPredictAtWrongFalsely : Prop := fnExactPredictAtRow.holds Try.pinned (OpenSpec.ofChange fnExactPredictAtWrong)

/-- 'laws.FnExactLadderResidue': WHATEVER THE INPUT: true; the input reads as it did. -/
def fnExactLadderResidueSpec : ChangeSpec := { name := "fnExactLadderResidue", fn := fun _ => fun
  | [d1, d2] => { results := [.lit (.bool true)], args := [d1, d2] }
  | _ => none }
def fnExactLadderResidueRow : OpenClaim := { program := "ytblpeabiaoddiaa", sum := "9ccf23709fd7c8f9a0771be1682eb624cbfb14a040051f62f39d4af874db2f8a", func := "loop.example/g01279/laws.FnExactLadderResidue", spec := "fnExactLadderResidue", unfollowed := true, recurses := true, apart := false }
def FnExactLadderResidueSaid : Prop := fnExactLadderResidueRow.holds Try.pinned (OpenSpec.ofChange fnExactLadderResidueSpec)

/-- ITS FALSE NEIGHBOUR: 'it returns false'. Refute it at one input. -/
def fnExactLadderResidueWrong : ChangeSpec := { name := "fnExactLadderResidue", fn := fun _ => fun
  | [d1, d2] => { results := [.lit (.bool false)], args := [d1, d2] }
  | _ => none }
def FnExactLadderResidueWrongFalsely : Prop := fnExactLadderResidueRow.holds Try.pinned (OpenSpec.ofChange fnExactLadderResidueWrong)

/-- 'laws.FnExactDampPredictor': WHATEVER THE INPUT: true; the input reads as it did. -/
def fnExactDampPredictorSpec : ChangeSpec := { name := "fnExactDampPredictor", fn := fun _ => fun
  | [d1, d2] => { results := [.lit (.bool true)], args := [d1, d2] }
  | _ => none }
def fnExactDampPredictorRow : OpenClaim := { program := "ytblpeabiaoddiaa", sum := "9ccf23709fd7c8f9a0771be1682eb624cbfb14a040051f62f39d4af874db2f8a", func := "loop.example/g01279/laws.FnExactDampPredictor", spec := "fnExactDampPredictor", apart := false }
def FnExactDampPredictorSaid : Prop := fnExactDampPredictorRow.holds Try.pinned (OpenSpec.ofChange fnExactDampPredictorSpec)

/-- ITS FALSE NEIGHBOUR: 'it returns false'. Refute it at one input. -/
def fnExactDampPredictorWrong : ChangeSpec := { name := "fnExactDampPredictor", fn := fun _ => fun
  | [d1, d2] => { results := [.lit (.bool false)], args := [d1, d2] }
  | _ => none }
def FnExactDampPredictorWrongFalsely : Prop := fnExactDampPredictorRow.holds Try.pinned (OpenSpec.ofChange fnExactDampPredictorWrong)

/-- 'laws.FnExactValidEnvelope': WHATEVER THE INPUT: true; the input reads as it did. -/
def fnExactValidEnvelopeSpec : ChangeSpec := { name := "fnExactValidEnvelope", fn := fun _ => fun
  | [d] => { results := [.lit (.bool true)], args := [d] }
  | _ => none }
def fnExactValidEnvelopeRow : OpenClaim := { program := "ytblpeabiaoddiaa", sum := "9ccf23709fd7c8f9a0771be1682eb624cbfb14a040051f62f39d4af874db2f8a", func := "loop.example/g01279/laws.FnExactValidEnvelope", spec := "fnExactValidEnvelope", apart := false }
def FnExactValidEnvelopeSaid : Prop := fnExactValidEnvelopeRow.holds Try.pinned (OpenSpec.ofChange fnExactValidEnvelopeSpec)

/-- ITS FALSE NEIGHBOUR: 'it returns false'. Refute it at one input. -/
def fnExactValidEnvelopeWrong : ChangeSpec := { name := "fnExactValidEnvelope", fn := fun _ => fun
  | [d] => { results := [.lit (.bool false)], args := [d] }
  | _ => none }
def FnExactValidEnvelopeWrongFalsely : Prop := fnExactValidEnvelopeRow.holds Try.pinned (OpenSpec.ofChange fnExactValidEnvelopeWrong)

/-- 'laws.FnExactSameEnvelope': WHATEVER THE INPUT: true; the input reads as it did. -/
def fnExactSameEnvelopeSpec : ChangeSpec := { name := "fnExactSameEnvelope", fn := fun _ => fun
  | [d1, d2] => { results := [.lit (.bool true)], args := [d1, d2] }
  | _ => none }
def fnExactSameEnvelopeRow : OpenClaim := { program := "ytblpeabiaoddiaa", sum := "9ccf23709fd7c8f9a0771be1682eb624cbfb14a040051f62f39d4af874db2f8a", func := "loop.example/g01279/laws.FnExactSameEnvelope", spec := "fnExactSameEnvelope", inPlace := ["math.Float32bits", "math.Float64bits"], apart := false }
def FnExactSameEnvelopeSaid : Prop := fnExactSameEnvelopeRow.holds Try.pinned (OpenSpec.ofChange fnExactSameEnvelopeSpec)

/-- ITS FALSE NEIGHBOUR: 'it returns false'. Refute it at one input. -/
def fnExactSameEnvelopeWrong : ChangeSpec := { name := "fnExactSameEnvelope", fn := fun _ => fun
  | [d1, d2] => { results := [.lit (.bool false)], args := [d1, d2] }
  | _ => none }
def FnExactSameEnvelopeWrongFalsely : Prop := fnExactSameEnvelopeRow.holds Try.pinned (OpenSpec.ofChange fnExactSameEnvelopeWrong)

/-- 'laws.FnExactEnvelopeAt': WHATEVER THE INPUT: true; the input reads as it did. -/
def fnExactEnvelopeAtSpec : ChangeSpec := { name := "fnExactEnvelopeAt", fn := fun _ => fun
  | [d1, d2] => { results := [.lit (.bool true)], args := [d1, d2] }
  | _ => none }
def fnExactEnvelopeAtRow : OpenClaim := { program := "ytblpeabiaoddiaa", sum := "9ccf23709fd7c8f9a0771be1682eb624cbfb14a040051f62f39d4af874db2f8a", func := "loop.example/g01279/laws.FnExactEnvelopeAt", spec := "fnExactEnvelopeAt", unfollowed := true, recurses := true, apart := false }
def FnExactEnvelopeAtSaid : Prop := fnExactEnvelopeAtRow.holds Try.pinned (OpenSpec.ofChange fnExactEnvelopeAtSpec)

/-- ITS FALSE NEIGHBOUR: 'it returns false'. Refute it at one input. -/
def fnExactEnvelopeAtWrong : ChangeSpec := { name := "fnExactEnvelopeAt", fn := fun _ => fun
  | [d1, d2] => { results := [.lit (.bool false)], args := [d1, d2] }
  | _ => none }
def FnExactEnvelopeAtWrongFalsely : Prop := fnExactEnvelopeAtRow.holds Try.pinned (OpenSpec.ofChange fnExactEnvelopeAtWrong)

/-- 'laws.FnExactShapeBy': WHATEVER THE INPUT: true; the input reads as it did. -/
def fnExactShapeBySpec : ChangeSpec := { name := "fnExactShapeBy", fn := fun _ => fun
  | [d1, d2] => { results := [.lit (.bool true)], args := [d1, d2] }
  | _ => none }
def fnExactShapeByRow : OpenClaim := { program := "ytblpeabiaoddiaa", sum := "9ccf23709fd7c8f9a0771be1682eb624cbfb14a040051f62f39d4af874db2f8a", func := "loop.example/g01279/laws.FnExactShapeBy", spec := "fnExactShapeBy", unfollowed := true, recurses := true, apart := false }
def FnExactShapeBySaid : Prop := fnExactShapeByRow.holds Try.pinned (OpenSpec.ofChange fnExactShapeBySpec)

/-- ITS FALSE NEIGHBOUR: 'it returns false'. Refute it at one input. -/
def fnExactShapeByWrong : ChangeSpec := { name := "fnExactShapeBy", fn := fun _ => fun
  | [d1, d2] => { results := [.lit (.bool false)], args := [d1, d2] }
  | _ => none }
def FnExactShapeByWrongFalsely : Prop := fnExactShapeByRow.holds Try.pinned (OpenSpec.ofChange fnExactShapeByWrong)

/-- 'laws.FnExactLoudOf': WHATEVER THE INPUT: true; the input reads as it did. -/
def fnExactLoudOfSpec : ChangeSpec := { name := "fnExactLoudOf", fn := fun _ => fun
  | [d] => { results := [.lit (.bool true)], args := [d] }
  | _ => none }
def fnExactLoudOfRow : OpenClaim := { program := "ytblpeabiaoddiaa", sum := "9ccf23709fd7c8f9a0771be1682eb624cbfb14a040051f62f39d4af874db2f8a", func := "loop.example/g01279/laws.FnExactLoudOf", spec := "fnExactLoudOf", inPlace := ["math.sqrt"], apart := false }
def FnExactLoudOfSaid : Prop := fnExactLoudOfRow.holds Try.pinned (OpenSpec.ofChange fnExactLoudOfSpec)

/-- ITS FALSE NEIGHBOUR: 'it returns false'. Refute it at one input. -/
def fnExactLoudOfWrong : ChangeSpec := { name := "fnExactLoudOf", fn := fun _ => fun
  | [d] => { results := [.lit (.bool false)], args := [d] }
  | _ => none }
def FnExactLoudOfWrongFalsely : Prop := fnExactLoudOfRow.holds Try.pinned (OpenSpec.ofChange fnExactLoudOfWrong)

/- THE SECOND FORM. 'bulk': how many values and letters a reading holds, each counted each time it is reached (what is shared counts as often as it is met; a slice's spare places count too). A statement '..UptoSaid' is the law's where the arguments, and the package variables that the reading takes, are together of bulk at most 1048576: NARROWER than '..Said'. Prove '..Said' where nothing that the law and all that it calls make is longer than what came in: it says more and counts as full. Else prove '..UptoSaid'. A law counts once. -/
mutual
def uptoBulk {H : Type} : DataW H → Nat
  | .lit (.string bytes) => bytes.length + 1
  | .lit _ => 1
  | .nil => 1
  | .ptr d => uptoBulk d + 1
  | .slice elems spare => uptoBulkAll elems + uptoBulkAll spare + 1
  | .agg parts => uptoBulkAll parts + 1
  | .iface _ d => uptoBulk d + 1
  | .map entries => uptoBulkEntries entries + 1
  | .held _ => 1
def uptoBulkAll {H : Type} : List (DataW H) → Nat
  | [] => 0
  | d :: r => uptoBulk d + uptoBulkAll r
def uptoBulkEntries {H : Type} : List (Lit × DataW H) → Nat
  | [] => 0
  | x :: r => uptoBulkEntry x + uptoBulkEntries r
def uptoBulkEntry {H : Type} : Lit × DataW H → Nat
  | (.string bytes, d) => bytes.length + uptoBulk d + 1
  | (_, d) => uptoBulk d + 1
 end
def uptoSmall : (H : Type) → List (DataW H) → Bool := fun _ ds => decide (uptoBulkAll ds ≤ 1048576)
def OpenSpec.upto (s : _root_.Go.ChangeSpec) : _root_.Go.OpenSpec := { _root_.Go.OpenSpec.ofChange s with cond := some uptoSmall }

/-- 'laws.FnExactValidPredictor', WHERE WHAT IT READS IS OF BULK AT MOST 1048576: true; the input reads as it did. -/
def fnExactValidPredictorUptoRow : OpenClaim := { program := "ytblpeabiaoddiaa", sum := "9ccf23709fd7c8f9a0771be1682eb624cbfb14a040051f62f39d4af874db2f8a", func := "loop.example/g01279/laws.FnExactValidPredictor", spec := "fnExactValidPredictor", apart := false, narrowed := true }
def FnExactValidPredictorUptoSaid : Prop := fnExactValidPredictorUptoRow.holds Try.pinned (OpenSpec.upto fnExactValidPredictorSpec)

/-- 'laws.FnExactSamePredictor', WHERE WHAT IT READS IS OF BULK AT MOST 1048576: true; the input reads as it did. -/
def fnExactSamePredictorUptoRow : OpenClaim := { program := "ytblpeabiaoddiaa", sum := "9ccf23709fd7c8f9a0771be1682eb624cbfb14a040051f62f39d4af874db2f8a", func := "loop.example/g01279/laws.FnExactSamePredictor", spec := "fnExactSamePredictor", inPlace := ["math.Float32bits", "math.Float64bits"], apart := false, narrowed := true }
def FnExactSamePredictorUptoSaid : Prop := fnExactSamePredictorUptoRow.holds Try.pinned (OpenSpec.upto fnExactSamePredictorSpec)

/-- 'laws.FnExactMixLadders', WHERE WHAT IT READS IS OF BULK AT MOST 1048576: true; the input reads as it did. -/
def fnExactMixLaddersUptoRow : OpenClaim := { program := "ytblpeabiaoddiaa", sum := "9ccf23709fd7c8f9a0771be1682eb624cbfb14a040051f62f39d4af874db2f8a", func := "loop.example/g01279/laws.FnExactMixLadders", spec := "fnExactMixLadders", unfollowed := true, recurses := true, apart := false, narrowed := true }
def FnExactMixLaddersUptoSaid : Prop := fnExactMixLaddersUptoRow.holds Try.pinned (OpenSpec.upto fnExactMixLaddersSpec)

/-- 'laws.FnExactLagsOf', WHERE WHAT IT READS IS OF BULK AT MOST 1048576: true; the input reads as it did. -/
def fnExactLagsOfUptoRow : OpenClaim := { program := "ytblpeabiaoddiaa", sum := "9ccf23709fd7c8f9a0771be1682eb624cbfb14a040051f62f39d4af874db2f8a", func := "loop.example/g01279/laws.FnExactLagsOf", spec := "fnExactLagsOf", apart := false, narrowed := true }
def FnExactLagsOfUptoSaid : Prop := fnExactLagsOfUptoRow.holds Try.pinned (OpenSpec.upto fnExactLagsOfSpec)

/-- 'laws.FnExactPredictAt', WHERE WHAT IT READS IS OF BULK AT MOST 1048576: true; the input reads as it did. -/
def fnExactPredictAtUptoRow : OpenClaim := { program := "ytblpeabiaoddiaa", sum := "9ccf23709fd7c8f9a0771be1682eb624cbfb14a040051f62f39d4af874db2f8a", func := "loop.example/g01279/laws.FnExactPredictAt", spec := "fnExactPredictAt", apart := false, narrowed := true }
def FnExactPredictAtUptoSaid : Prop := fnExactPredictAtUptoRow.holds Try.pinned (OpenSpec.upto fnExactPredictAtSpec)

/-- 'laws.FnExactLadderResidue', WHERE WHAT IT READS IS OF BULK AT MOST 1048576: true; the input reads as it did. -/
def fnExactLadderResidueUptoRow : OpenClaim := { program := "ytblpeabiaoddiaa", sum := "9ccf23709fd7c8f9a0771be1682eb624cbfb14a040051f62f39d4af874db2f8a", func := "loop.example/g01279/laws.FnExactLadderResidue", spec := "fnExactLadderResidue", unfollowed := true, recurses := true, apart := false, narrowed := true }
def FnExactLadderResidueUptoSaid : Prop := fnExactLadderResidueUptoRow.holds Try.pinned (OpenSpec.upto fnExactLadderResidueSpec)

/-- 'laws.FnExactDampPredictor', WHERE WHAT IT READS IS OF BULK AT MOST 1048576: true; the input reads as it did. -/
def fnExactDampPredictorUptoRow : OpenClaim := { program := "ytblpeabiaoddiaa", sum := "9ccf23709fd7c8f9a0771be1682eb624cbfb14a040051f62f39d4af874db2f8a", func := "loop.example/g01279/laws.FnExactDampPredictor", spec := "fnExactDampPredictor", apart := false, narrowed := true }
def FnExactDampPredictorUptoSaid : Prop := fnExactDampPredictorUptoRow.holds Try.pinned (OpenSpec.upto fnExactDampPredictorSpec)

/-- 'laws.FnExactValidEnvelope', WHERE WHAT IT READS IS OF BULK AT MOST 1048576: true; the input reads as it did. -/
def fnExactValidEnvelopeUptoRow : OpenClaim := { program := "ytblpeabiaoddiaa", sum := "9ccf23709fd7c8f9a0771be1682eb624cbfb14a040051f62f39d4af874db2f8a", func := "loop.example/g01279/laws.FnExactValidEnvelope", spec := "fnExactValidEnvelope", apart := false, narrowed := true }
def FnExactValidEnvelopeUptoSaid : Prop := fnExactValidEnvelopeUptoRow.holds Try.pinned (OpenSpec.upto fnExactValidEnvelopeSpec)

/-- 'laws.FnExactSameEnvelope', WHERE WHAT IT READS IS OF BULK AT MOST 1048576: true; the input reads as it did. -/
def fnExactSameEnvelopeUptoRow : OpenClaim := { program := "ytblpeabiaoddiaa", sum := "9ccf23709fd7c8f9a0771be1682eb624cbfb14a040051f62f39d4af874db2f8a", func := "loop.example/g01279/laws.FnExactSameEnvelope", spec := "fnExactSameEnvelope", inPlace := ["math.Float32bits", "math.Float64bits"], apart := false, narrowed := true }
def FnExactSameEnvelopeUptoSaid : Prop := fnExactSameEnvelopeUptoRow.holds Try.pinned (OpenSpec.upto fnExactSameEnvelopeSpec)

/-- 'laws.FnExactEnvelopeAt', WHERE WHAT IT READS IS OF BULK AT MOST 1048576: true; the input reads as it did. -/
def fnExactEnvelopeAtUptoRow : OpenClaim := { program := "ytblpeabiaoddiaa", sum := "9ccf23709fd7c8f9a0771be1682eb624cbfb14a040051f62f39d4af874db2f8a", func := "loop.example/g01279/laws.FnExactEnvelopeAt", spec := "fnExactEnvelopeAt", unfollowed := true, recurses := true, apart := false, narrowed := true }
def FnExactEnvelopeAtUptoSaid : Prop := fnExactEnvelopeAtUptoRow.holds Try.pinned (OpenSpec.upto fnExactEnvelopeAtSpec)

/-- 'laws.FnExactShapeBy', WHERE WHAT IT READS IS OF BULK AT MOST 1048576: true; the input reads as it did. -/
def fnExactShapeByUptoRow : OpenClaim := { program := "ytblpeabiaoddiaa", sum := "9ccf23709fd7c8f9a0771be1682eb624cbfb14a040051f62f39d4af874db2f8a", func := "loop.example/g01279/laws.FnExactShapeBy", spec := "fnExactShapeBy", unfollowed := true, recurses := true, apart := false, narrowed := true }
def FnExactShapeByUptoSaid : Prop := fnExactShapeByUptoRow.holds Try.pinned (OpenSpec.upto fnExactShapeBySpec)

/-- 'laws.FnExactLoudOf', WHERE WHAT IT READS IS OF BULK AT MOST 1048576: true; the input reads as it did. -/
def fnExactLoudOfUptoRow : OpenClaim := { program := "ytblpeabiaoddiaa", sum := "9ccf23709fd7c8f9a0771be1682eb624cbfb14a040051f62f39d4af874db2f8a", func := "loop.example/g01279/laws.FnExactLoudOf", spec := "fnExactLoudOf", inPlace := ["math.sqrt"], apart := false, narrowed := true }
def FnExactLoudOfUptoSaid : Prop := fnExactLoudOfUptoRow.holds Try.pinned (OpenSpec.upto fnExactLoudOfSpec)

end Rows
end Go.Proofs.Ytblpeabiaoddiaa
