/-
  No cell of these rows narrows 'for every input' (looked for: loops, veiled, ifaces, maps, wideKeys, modest, calm, conditions, laid).
  DERIVED. THE GIVEN ROWS OF THIS SEAT. 12 by the template 'for every input the law returns true; each argument reads behind the call as it read before'; 0 by the template 'total and deterministic' (their statements: YtmhipgdojbdllaaTotals.lean).
  GIVEN WITH THE SEED: the statements are not yours to turn. If you find one false, say at which input.
  Laid BY PROGRAM, IN A SANDBOX (cutbox-rows.mjs): the forced cells as the released guide's own fill.sh prints them over the translation fb6d0289fb393961… (all of the seat's roots in one cut). By AI agents, Wed Nov 11 2026. No macro, syntax, notation, axiom, sorry.
-/
import Derived.Test.YtmhipgdojbdllaaChecked
import GoSem.Claim
import GoSem.ClaimJoined
import GoSem.ClaimMapViews
import Derived.JoinedTies
import Derived.KernelRfl
namespace Go.Proofs.Ytmhipgdojbdllaa
/- THE CELL 'sum', in the pinned program and in every row, IS THE sha256 OF THE DUMP (.gsa) THAT YtmhipgdojbdllaaProg.lean LOADS. Nothing in Lean hashes anything: it is a label: what it is worth is what the hold of that sum in a sandbox is worth. -/
noncomputable def Try.pinned : Pinned := { name := "ytmhipgdojbdllaa", sum := "fb6d0289fb393961f6d8384ce4169bc4692a01a8a29574888fc7a9f7646995a3", checked := Try.checked }
namespace Rows
def none {H : Type} : Left H := { results := [], args := [] }

/-- 'laws.FnExactIsSound': WHATEVER THE INPUT: true; the input reads as it did. -/
def fnExactIsSoundSpec : ChangeSpec := { name := "fnExactIsSound", fn := fun _ => fun
  | [d] => { results := [.lit (.bool true)], args := [d] }
  | _ => none }
def fnExactIsSoundRow : OpenClaim := { program := "ytmhipgdojbdllaa", sum := "fb6d0289fb393961f6d8384ce4169bc4692a01a8a29574888fc7a9f7646995a3", func := "loop.example/g01279/laws.FnExactIsSound", spec := "fnExactIsSound", apart := false }
def FnExactIsSoundSaid : Prop := fnExactIsSoundRow.holds Try.pinned (OpenSpec.ofChange fnExactIsSoundSpec)

/-- ITS FALSE NEIGHBOUR: 'it returns false'. Refute it at one input. -/
def fnExactIsSoundWrong : ChangeSpec := { name := "fnExactIsSound", fn := fun _ => fun
  | [d] => { results := [.lit (.bool false)], args := [d] }
  | _ => none }
def FnExactIsSoundWrongFalsely : Prop := fnExactIsSoundRow.holds Try.pinned (OpenSpec.ofChange fnExactIsSoundWrong)

/-- 'laws.FnExactEnergyOfSound': WHATEVER THE INPUT: true; the input reads as it did. -/
def fnExactEnergyOfSoundSpec : ChangeSpec := { name := "fnExactEnergyOfSound", fn := fun _ => fun
  | [d] => { results := [.lit (.bool true)], args := [d] }
  | _ => none }
def fnExactEnergyOfSoundRow : OpenClaim := { program := "ytmhipgdojbdllaa", sum := "fb6d0289fb393961f6d8384ce4169bc4692a01a8a29574888fc7a9f7646995a3", func := "loop.example/g01279/laws.FnExactEnergyOfSound", spec := "fnExactEnergyOfSound", apart := false }
def FnExactEnergyOfSoundSaid : Prop := fnExactEnergyOfSoundRow.holds Try.pinned (OpenSpec.ofChange fnExactEnergyOfSoundSpec)

/-- ITS FALSE NEIGHBOUR: 'it returns false'. Refute it at one input. -/
def fnExactEnergyOfSoundWrong : ChangeSpec := { name := "fnExactEnergyOfSound", fn := fun _ => fun
  | [d] => { results := [.lit (.bool false)], args := [d] }
  | _ => none }
def FnExactEnergyOfSoundWrongFalsely : Prop := fnExactEnergyOfSoundRow.holds Try.pinned (OpenSpec.ofChange fnExactEnergyOfSoundWrong)

/-- 'laws.FnExactPeakOfSound': WHATEVER THE INPUT: true; the input reads as it did. -/
def fnExactPeakOfSoundSpec : ChangeSpec := { name := "fnExactPeakOfSound", fn := fun _ => fun
  | [d] => { results := [.lit (.bool true)], args := [d] }
  | _ => none }
def fnExactPeakOfSoundRow : OpenClaim := { program := "ytmhipgdojbdllaa", sum := "fb6d0289fb393961f6d8384ce4169bc4692a01a8a29574888fc7a9f7646995a3", func := "loop.example/g01279/laws.FnExactPeakOfSound", spec := "fnExactPeakOfSound", inPlace := ["math.Float64bits", "math.Float64frombits"], apart := false }
def FnExactPeakOfSoundSaid : Prop := fnExactPeakOfSoundRow.holds Try.pinned (OpenSpec.ofChange fnExactPeakOfSoundSpec)

/-- ITS FALSE NEIGHBOUR: 'it returns false'. Refute it at one input. -/
def fnExactPeakOfSoundWrong : ChangeSpec := { name := "fnExactPeakOfSound", fn := fun _ => fun
  | [d] => { results := [.lit (.bool false)], args := [d] }
  | _ => none }
def FnExactPeakOfSoundWrongFalsely : Prop := fnExactPeakOfSoundRow.holds Try.pinned (OpenSpec.ofChange fnExactPeakOfSoundWrong)

/-- 'laws.FnExactReachOfSound': WHATEVER THE INPUT: true; the input reads as it did. -/
def fnExactReachOfSoundSpec : ChangeSpec := { name := "fnExactReachOfSound", fn := fun _ => fun
  | [d] => { results := [.lit (.bool true)], args := [d] }
  | _ => none }
def fnExactReachOfSoundRow : OpenClaim := { program := "ytmhipgdojbdllaa", sum := "fb6d0289fb393961f6d8384ce4169bc4692a01a8a29574888fc7a9f7646995a3", func := "loop.example/g01279/laws.FnExactReachOfSound", spec := "fnExactReachOfSound", inPlace := ["math.Float64bits", "math.Float64frombits"], apart := false }
def FnExactReachOfSoundSaid : Prop := fnExactReachOfSoundRow.holds Try.pinned (OpenSpec.ofChange fnExactReachOfSoundSpec)

/-- ITS FALSE NEIGHBOUR: 'it returns false'. Refute it at one input. -/
def fnExactReachOfSoundWrong : ChangeSpec := { name := "fnExactReachOfSound", fn := fun _ => fun
  | [d] => { results := [.lit (.bool false)], args := [d] }
  | _ => none }
def FnExactReachOfSoundWrongFalsely : Prop := fnExactReachOfSoundRow.holds Try.pinned (OpenSpec.ofChange fnExactReachOfSoundWrong)

/-- 'laws.FnExactMixSounds': WHATEVER THE INPUT: true; the input reads as it did. -/
def fnExactMixSoundsSpec : ChangeSpec := { name := "fnExactMixSounds", fn := fun _ => fun
  | [d1, d2, d3, d4] => { results := [.lit (.bool true)], args := [d1, d2, d3, d4] }
  | _ => none }
def fnExactMixSoundsRow : OpenClaim := { program := "ytmhipgdojbdllaa", sum := "fb6d0289fb393961f6d8384ce4169bc4692a01a8a29574888fc7a9f7646995a3", func := "loop.example/g01279/laws.FnExactMixSounds", spec := "fnExactMixSounds", unfollowed := true, recurses := true, apart := false }
def FnExactMixSoundsSaid : Prop := fnExactMixSoundsRow.holds Try.pinned (OpenSpec.ofChange fnExactMixSoundsSpec)

/-- ITS FALSE NEIGHBOUR: 'it returns false'. Refute it at one input. -/
def fnExactMixSoundsWrong : ChangeSpec := { name := "fnExactMixSounds", fn := fun _ => fun
  | [d1, d2, d3, d4] => { results := [.lit (.bool false)], args := [d1, d2, d3, d4] }
  | _ => none }
def FnExactMixSoundsWrongFalsely : Prop := fnExactMixSoundsRow.holds Try.pinned (OpenSpec.ofChange fnExactMixSoundsWrong)

/-- 'laws.FnExactScaleSound': WHATEVER THE INPUT: true; the input reads as it did. -/
def fnExactScaleSoundSpec : ChangeSpec := { name := "fnExactScaleSound", fn := fun _ => fun
  | [d1, d2] => { results := [.lit (.bool true)], args := [d1, d2] }
  | _ => none }
def fnExactScaleSoundRow : OpenClaim := { program := "ytmhipgdojbdllaa", sum := "fb6d0289fb393961f6d8384ce4169bc4692a01a8a29574888fc7a9f7646995a3", func := "loop.example/g01279/laws.FnExactScaleSound", spec := "fnExactScaleSound", unfollowed := true, recurses := true, apart := false }
def FnExactScaleSoundSaid : Prop := fnExactScaleSoundRow.holds Try.pinned (OpenSpec.ofChange fnExactScaleSoundSpec)

/-- ITS FALSE NEIGHBOUR: 'it returns false'. Refute it at one input. -/
def fnExactScaleSoundWrong : ChangeSpec := { name := "fnExactScaleSound", fn := fun _ => fun
  | [d1, d2] => { results := [.lit (.bool false)], args := [d1, d2] }
  | _ => none }
def FnExactScaleSoundWrongFalsely : Prop := fnExactScaleSoundRow.holds Try.pinned (OpenSpec.ofChange fnExactScaleSoundWrong)

/-- 'laws.FnExactEchoSound': WHATEVER THE INPUT: true; the input reads as it did. -/
def fnExactEchoSoundSpec : ChangeSpec := { name := "fnExactEchoSound", fn := fun _ => fun
  | [d1, d2, d3] => { results := [.lit (.bool true)], args := [d1, d2, d3] }
  | _ => none }
def fnExactEchoSoundRow : OpenClaim := { program := "ytmhipgdojbdllaa", sum := "fb6d0289fb393961f6d8384ce4169bc4692a01a8a29574888fc7a9f7646995a3", func := "loop.example/g01279/laws.FnExactEchoSound", spec := "fnExactEchoSound", apart := false }
def FnExactEchoSoundSaid : Prop := fnExactEchoSoundRow.holds Try.pinned (OpenSpec.ofChange fnExactEchoSoundSpec)

/-- ITS FALSE NEIGHBOUR: 'it returns false'. Refute it at one input. -/
def fnExactEchoSoundWrong : ChangeSpec := { name := "fnExactEchoSound", fn := fun _ => fun
  | [d1, d2, d3] => { results := [.lit (.bool false)], args := [d1, d2, d3] }
  | _ => none }
def FnExactEchoSoundWrongFalsely : Prop := fnExactEchoSoundRow.holds Try.pinned (OpenSpec.ofChange fnExactEchoSoundWrong)

/-- 'laws.FnExactAddSounds': WHATEVER THE INPUT: true; the input reads as it did. -/
def fnExactAddSoundsSpec : ChangeSpec := { name := "fnExactAddSounds", fn := fun _ => fun
  | [d1, d2] => { results := [.lit (.bool true)], args := [d1, d2] }
  | _ => none }
def fnExactAddSoundsRow : OpenClaim := { program := "ytmhipgdojbdllaa", sum := "fb6d0289fb393961f6d8384ce4169bc4692a01a8a29574888fc7a9f7646995a3", func := "loop.example/g01279/laws.FnExactAddSounds", spec := "fnExactAddSounds", apart := false }
def FnExactAddSoundsSaid : Prop := fnExactAddSoundsRow.holds Try.pinned (OpenSpec.ofChange fnExactAddSoundsSpec)

/-- ITS FALSE NEIGHBOUR: 'it returns false'. Refute it at one input. -/
def fnExactAddSoundsWrong : ChangeSpec := { name := "fnExactAddSounds", fn := fun _ => fun
  | [d1, d2] => { results := [.lit (.bool false)], args := [d1, d2] }
  | _ => none }
def FnExactAddSoundsWrongFalsely : Prop := fnExactAddSoundsRow.holds Try.pinned (OpenSpec.ofChange fnExactAddSoundsWrong)

/-- 'laws.FnExactJoinSounds': WHATEVER THE INPUT: true; the input reads as it did. -/
def fnExactJoinSoundsSpec : ChangeSpec := { name := "fnExactJoinSounds", fn := fun _ => fun
  | [d1, d2, d3] => { results := [.lit (.bool true)], args := [d1, d2, d3] }
  | _ => none }
def fnExactJoinSoundsRow : OpenClaim := { program := "ytmhipgdojbdllaa", sum := "fb6d0289fb393961f6d8384ce4169bc4692a01a8a29574888fc7a9f7646995a3", func := "loop.example/g01279/laws.FnExactJoinSounds", spec := "fnExactJoinSounds", apart := false }
def FnExactJoinSoundsSaid : Prop := fnExactJoinSoundsRow.holds Try.pinned (OpenSpec.ofChange fnExactJoinSoundsSpec)

/-- ITS FALSE NEIGHBOUR: 'it returns false'. Refute it at one input. -/
def fnExactJoinSoundsWrong : ChangeSpec := { name := "fnExactJoinSounds", fn := fun _ => fun
  | [d1, d2, d3] => { results := [.lit (.bool false)], args := [d1, d2, d3] }
  | _ => none }
def FnExactJoinSoundsWrongFalsely : Prop := fnExactJoinSoundsRow.holds Try.pinned (OpenSpec.ofChange fnExactJoinSoundsWrong)

/-- 'laws.FnExactFadeEnds': WHATEVER THE INPUT: true; the input reads as it did. -/
def fnExactFadeEndsSpec : ChangeSpec := { name := "fnExactFadeEnds", fn := fun _ => fun
  | [d1, d2, d3] => { results := [.lit (.bool true)], args := [d1, d2, d3] }
  | _ => none }
def fnExactFadeEndsRow : OpenClaim := { program := "ytmhipgdojbdllaa", sum := "fb6d0289fb393961f6d8384ce4169bc4692a01a8a29574888fc7a9f7646995a3", func := "loop.example/g01279/laws.FnExactFadeEnds", spec := "fnExactFadeEnds", unfollowed := true, recurses := true, apart := false }
def FnExactFadeEndsSaid : Prop := fnExactFadeEndsRow.holds Try.pinned (OpenSpec.ofChange fnExactFadeEndsSpec)

/-- ITS FALSE NEIGHBOUR: 'it returns false'. Refute it at one input. -/
def fnExactFadeEndsWrong : ChangeSpec := { name := "fnExactFadeEnds", fn := fun _ => fun
  | [d1, d2, d3] => { results := [.lit (.bool false)], args := [d1, d2, d3] }
  | _ => none }
def FnExactFadeEndsWrongFalsely : Prop := fnExactFadeEndsRow.holds Try.pinned (OpenSpec.ofChange fnExactFadeEndsWrong)

/-- 'laws.FnExactSoftenSound': WHATEVER THE INPUT: true; the input reads as it did. -/
def fnExactSoftenSoundSpec : ChangeSpec := { name := "fnExactSoftenSound", fn := fun _ => fun
  | [d1, d2, d3] => { results := [.lit (.bool true)], args := [d1, d2, d3] }
  | _ => none }
def fnExactSoftenSoundRow : OpenClaim := { program := "ytmhipgdojbdllaa", sum := "fb6d0289fb393961f6d8384ce4169bc4692a01a8a29574888fc7a9f7646995a3", func := "loop.example/g01279/laws.FnExactSoftenSound", spec := "fnExactSoftenSound", unfollowed := true, recurses := true, apart := false }
def FnExactSoftenSoundSaid : Prop := fnExactSoftenSoundRow.holds Try.pinned (OpenSpec.ofChange fnExactSoftenSoundSpec)

/-- ITS FALSE NEIGHBOUR: 'it returns false'. Refute it at one input. -/
def fnExactSoftenSoundWrong : ChangeSpec := { name := "fnExactSoftenSound", fn := fun _ => fun
  | [d1, d2, d3] => { results := [.lit (.bool false)], args := [d1, d2, d3] }
  | _ => none }
def FnExactSoftenSoundWrongFalsely : Prop := fnExactSoftenSoundRow.holds Try.pinned (OpenSpec.ofChange fnExactSoftenSoundWrong)

/-- 'laws.FnExactPeaksOf': WHATEVER THE INPUT: true; the input reads as it did. -/
def fnExactPeaksOfSpec : ChangeSpec := { name := "fnExactPeaksOf", fn := fun _ => fun
  | [d] => { results := [.lit (.bool true)], args := [d] }
  | _ => none }
def fnExactPeaksOfRow : OpenClaim := { program := "ytmhipgdojbdllaa", sum := "fb6d0289fb393961f6d8384ce4169bc4692a01a8a29574888fc7a9f7646995a3", func := "loop.example/g01279/laws.FnExactPeaksOf", spec := "fnExactPeaksOf", apart := false }
def FnExactPeaksOfSaid : Prop := fnExactPeaksOfRow.holds Try.pinned (OpenSpec.ofChange fnExactPeaksOfSpec)

/-- ITS FALSE NEIGHBOUR: 'it returns false'. Refute it at one input. -/
def fnExactPeaksOfWrong : ChangeSpec := { name := "fnExactPeaksOf", fn := fun _ => fun
  | [d] => { results := [.lit (.bool false)], args := [d] }
  | _ => none }
def FnExactPeaksOfWrongFalsely : Prop := fnExactPeaksOfRow.holds Try.pinned (OpenSpec.ofChange fnExactPeaksOfWrong)

/- THE SECOND FORM. 'bulk': how many values and letters a reading holds, each counted each time it is reached (what is shared counts as often as it is met; a slice's spare places count too). A statement '..UptoSaid' is the law's where the arguments, and the package variables that the reading takes, are together of bulk at most 1048576: NARROWER than '..Said'. Prove '..Said' where nothing that the law and all that it calls make is longer than what came in: it says more and counts as full. Else prove '..UptoSaid'. A law counts once. -/
mutual
def uptoBulk {H : Type} : DataW H → Nat
  | .lit (.string bytes) => bytes.length + 1
  | .lit _ => 1
  | .nil => 1
  | .ptr d => uptoBulk d + 1
  | .slice elems spare => uptoBulkAll elems + uptoBulkAll spare + 1
  | .agg parts => uptoBulkAll parts + 1
  | .iface _ d => uptoBulk d + 1
  | .map entries => uptoBulkEntries entries + 1
  | .held _ => 1
def uptoBulkAll {H : Type} : List (DataW H) → Nat
  | [] => 0
  | d :: r => uptoBulk d + uptoBulkAll r
def uptoBulkEntries {H : Type} : List (Lit × DataW H) → Nat
  | [] => 0
  | x :: r => uptoBulkEntry x + uptoBulkEntries r
def uptoBulkEntry {H : Type} : Lit × DataW H → Nat
  | (.string bytes, d) => bytes.length + uptoBulk d + 1
  | (_, d) => uptoBulk d + 1
 end
def uptoSmall : (H : Type) → List (DataW H) → Bool := fun _ ds => decide (uptoBulkAll ds ≤ 1048576)
def OpenSpec.upto (s : _root_.Go.ChangeSpec) : _root_.Go.OpenSpec := { _root_.Go.OpenSpec.ofChange s with cond := some uptoSmall }

/-- 'laws.FnExactIsSound', WHERE WHAT IT READS IS OF BULK AT MOST 1048576: true; the input reads as it did. -/
def fnExactIsSoundUptoRow : OpenClaim := { program := "ytmhipgdojbdllaa", sum := "fb6d0289fb393961f6d8384ce4169bc4692a01a8a29574888fc7a9f7646995a3", func := "loop.example/g01279/laws.FnExactIsSound", spec := "fnExactIsSound", apart := false, narrowed := true }
def FnExactIsSoundUptoSaid : Prop := fnExactIsSoundUptoRow.holds Try.pinned (OpenSpec.upto fnExactIsSoundSpec)

/-- 'laws.FnExactEnergyOfSound', WHERE WHAT IT READS IS OF BULK AT MOST 1048576: true; the input reads as it did. -/
def fnExactEnergyOfSoundUptoRow : OpenClaim := { program := "ytmhipgdojbdllaa", sum := "fb6d0289fb393961f6d8384ce4169bc4692a01a8a29574888fc7a9f7646995a3", func := "loop.example/g01279/laws.FnExactEnergyOfSound", spec := "fnExactEnergyOfSound", apart := false, narrowed := true }
def FnExactEnergyOfSoundUptoSaid : Prop := fnExactEnergyOfSoundUptoRow.holds Try.pinned (OpenSpec.upto fnExactEnergyOfSoundSpec)

/-- 'laws.FnExactPeakOfSound', WHERE WHAT IT READS IS OF BULK AT MOST 1048576: true; the input reads as it did. -/
def fnExactPeakOfSoundUptoRow : OpenClaim := { program := "ytmhipgdojbdllaa", sum := "fb6d0289fb393961f6d8384ce4169bc4692a01a8a29574888fc7a9f7646995a3", func := "loop.example/g01279/laws.FnExactPeakOfSound", spec := "fnExactPeakOfSound", inPlace := ["math.Float64bits", "math.Float64frombits"], apart := false, narrowed := true }
def FnExactPeakOfSoundUptoSaid : Prop := fnExactPeakOfSoundUptoRow.holds Try.pinned (OpenSpec.upto fnExactPeakOfSoundSpec)

/-- 'laws.FnExactReachOfSound', WHERE WHAT IT READS IS OF BULK AT MOST 1048576: true; the input reads as it did. -/
def fnExactReachOfSoundUptoRow : OpenClaim := { program := "ytmhipgdojbdllaa", sum := "fb6d0289fb393961f6d8384ce4169bc4692a01a8a29574888fc7a9f7646995a3", func := "loop.example/g01279/laws.FnExactReachOfSound", spec := "fnExactReachOfSound", inPlace := ["math.Float64bits", "math.Float64frombits"], apart := false, narrowed := true }
def FnExactReachOfSoundUptoSaid : Prop := fnExactReachOfSoundUptoRow.holds Try.pinned (OpenSpec.upto fnExactReachOfSoundSpec)

/-- 'laws.FnExactMixSounds', WHERE WHAT IT READS IS OF BULK AT MOST 1048576: true; the input reads as it did. -/
def fnExactMixSoundsUptoRow : OpenClaim := { program := "ytmhipgdojbdllaa", sum := "fb6d0289fb393961f6d8384ce4169bc4692a01a8a29574888fc7a9f7646995a3", func := "loop.example/g01279/laws.FnExactMixSounds", spec := "fnExactMixSounds", unfollowed := true, recurses := true, apart := false, narrowed := true }
def FnExactMixSoundsUptoSaid : Prop := fnExactMixSoundsUptoRow.holds Try.pinned (OpenSpec.upto fnExactMixSoundsSpec)

/-- 'laws.FnExactScaleSound', WHERE WHAT IT READS IS OF BULK AT MOST 1048576: true; the input reads as it did. -/
def fnExactScaleSoundUptoRow : OpenClaim := { program := "ytmhipgdojbdllaa", sum := "fb6d0289fb393961f6d8384ce4169bc4692a01a8a29574888fc7a9f7646995a3", func := "loop.example/g01279/laws.FnExactScaleSound", spec := "fnExactScaleSound", unfollowed := true, recurses := true, apart := false, narrowed := true }
def FnExactScaleSoundUptoSaid : Prop := fnExactScaleSoundUptoRow.holds Try.pinned (OpenSpec.upto fnExactScaleSoundSpec)

/-- 'laws.FnExactEchoSound', WHERE WHAT IT READS IS OF BULK AT MOST 1048576: true; the input reads as it did. -/
def fnExactEchoSoundUptoRow : OpenClaim := { program := "ytmhipgdojbdllaa", sum := "fb6d0289fb393961f6d8384ce4169bc4692a01a8a29574888fc7a9f7646995a3", func := "loop.example/g01279/laws.FnExactEchoSound", spec := "fnExactEchoSound", apart := false, narrowed := true }
def FnExactEchoSoundUptoSaid : Prop := fnExactEchoSoundUptoRow.holds Try.pinned (OpenSpec.upto fnExactEchoSoundSpec)

/-- 'laws.FnExactAddSounds', WHERE WHAT IT READS IS OF BULK AT MOST 1048576: true; the input reads as it did. -/
def fnExactAddSoundsUptoRow : OpenClaim := { program := "ytmhipgdojbdllaa", sum := "fb6d0289fb393961f6d8384ce4169bc4692a01a8a29574888fc7a9f7646995a3", func := "loop.example/g01279/laws.FnExactAddSounds", spec := "fnExactAddSounds", apart := false, narrowed := true }
def FnExactAddSoundsUptoSaid : Prop := fnExactAddSoundsUptoRow.holds Try.pinned (OpenSpec.upto fnExactAddSoundsSpec)

/-- 'laws.FnExactJoinSounds', WHERE WHAT IT READS IS OF BULK AT MOST 1048576: true; the input reads as it did. -/
def fnExactJoinSoundsUptoRow : OpenClaim := { program := "ytmhipgdojbdllaa", sum := "fb6d0289fb393961f6d8384ce4169bc4692a01a8a29574888fc7a9f7646995a3", func := "loop.example/g01279/laws.FnExactJoinSounds", spec := "fnExactJoinSounds", apart := false, narrowed := true }
def FnExactJoinSoundsUptoSaid : Prop := fnExactJoinSoundsUptoRow.holds Try.pinned (OpenSpec.upto fnExactJoinSoundsSpec)

/-- 'laws.FnExactFadeEnds', WHERE WHAT IT READS IS OF BULK AT MOST 1048576: true; the input reads as it did. -/
def fnExactFadeEndsUptoRow : OpenClaim := { program := "ytmhipgdojbdllaa", sum := "fb6d0289fb393961f6d8384ce4169bc4692a01a8a29574888fc7a9f7646995a3", func := "loop.example/g01279/laws.FnExactFadeEnds", spec := "fnExactFadeEnds", unfollowed := true, recurses := true, apart := false, narrowed := true }
def FnExactFadeEndsUptoSaid : Prop := fnExactFadeEndsUptoRow.holds Try.pinned (OpenSpec.upto fnExactFadeEndsSpec)

/-- 'laws.FnExactSoftenSound', WHERE WHAT IT READS IS OF BULK AT MOST 1048576: true; the input reads as it did. -/
def fnExactSoftenSoundUptoRow : OpenClaim := { program := "ytmhipgdojbdllaa", sum := "fb6d0289fb393961f6d8384ce4169bc4692a01a8a29574888fc7a9f7646995a3", func := "loop.example/g01279/laws.FnExactSoftenSound", spec := "fnExactSoftenSound", unfollowed := true, recurses := true, apart := false, narrowed := true }
def FnExactSoftenSoundUptoSaid : Prop := fnExactSoftenSoundUptoRow.holds Try.pinned (OpenSpec.upto fnExactSoftenSoundSpec)

/-- 'laws.FnExactPeaksOf', WHERE WHAT IT READS IS OF BULK AT MOST 1048576: true; the input reads as it did. -/
def fnExactPeaksOfUptoRow : OpenClaim := { program := "ytmhipgdojbdllaa", sum := "fb6d0289fb393961f6d8384ce4169bc4692a01a8a29574888fc7a9f7646995a3", func := "loop.example/g01279/laws.FnExactPeaksOf", spec := "fnExactPeaksOf", apart := false, narrowed := true }
def FnExactPeaksOfUptoSaid : Prop := fnExactPeaksOfUptoRow.holds Try.pinned (OpenSpec.upto fnExactPeaksOfSpec)

end Rows
end Go.Proofs.Ytmhipgdojbdllaa
