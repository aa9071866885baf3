/-
  No cell of these rows narrows 'for every input' (looked for: loops, veiled, ifaces, maps, wideKeys, modest, calm, conditions, laid).
  DERIVED. THE GIVEN ROWS OF THIS SEAT. 14 by the template 'for every input the law returns true; each argument reads behind the call as it read before'; 0 by the template 'total and deterministic' (their statements: YthfjgaifdadgnaaGreatTotals.lean).
  GIVEN WITH THE SEED: the statements are not yours to turn. If you find one false, say at which input.
  Laid BY PROGRAM, IN A SANDBOX (cutbox-rows.mjs): the forced cells as the released guide's own fill.sh prints them over the translation 6e33afd4c29bd4c0… (all of the seat's roots in one cut). By AI agents, Wed Nov 11 2026. No macro, syntax, notation, axiom, sorry.
-/
import Derived.Test.YthfjgaifdadgnaaGreatChecked
import GoSem.Claim
import GoSem.ClaimJoined
import GoSem.ClaimMapViews
import Derived.JoinedTies
import Derived.KernelRfl
namespace Go.Proofs.YthfjgaifdadgnaaGreat
/- THE CELL 'sum', in the pinned program and in every row, IS THE sha256 OF THE DUMP (.gsa) THAT YthfjgaifdadgnaaGreatProg.lean LOADS. Nothing in Lean hashes anything: it is a label: what it is worth is what the hold of that sum in a sandbox is worth. -/
noncomputable def Tryz.pinned : Pinned := { name := "ythfjgaifdadgnaagreat", sum := "6e33afd4c29bd4c0f009f299ba52afbc0a97d7597399f1c43219ce0248b48f1b", checked := Tryz.checked }
namespace Rows
def none {H : Type} : Left H := { results := [], args := [] }

/-- 'dripstonelaw12.BufferEnds': WHATEVER THE INPUT: true; the input reads as it did. -/
def bufferEndsSpec : ChangeSpec := { name := "bufferEnds", fn := fun _ => fun
  | [d] => { results := [.lit (.bool true)], args := [d] }
  | _ => none }
def bufferEndsRow : OpenClaim := { program := "ythfjgaifdadgnaagreat", sum := "6e33afd4c29bd4c0f009f299ba52afbc0a97d7597399f1c43219ce0248b48f1b", func := "dripstone/dripstonelaw12.BufferEnds", spec := "bufferEnds", unfollowed := true, recurses := true, apart := false }
def BufferEndsSaid : Prop := bufferEndsRow.holds Tryz.pinned (OpenSpec.ofChange bufferEndsSpec)

/-- ITS FALSE NEIGHBOUR: 'it returns false'. Refute it at one input. -/
def bufferEndsWrong : ChangeSpec := { name := "bufferEnds", fn := fun _ => fun
  | [d] => { results := [.lit (.bool false)], args := [d] }
  | _ => none }
def BufferEndsWrongFalsely : Prop := bufferEndsRow.holds Tryz.pinned (OpenSpec.ofChange bufferEndsWrong)

/-- 'dripstonelaw12.BufferWays': WHATEVER THE INPUT: true; the input reads as it did. -/
def bufferWaysSpec : ChangeSpec := { name := "bufferWays", fn := fun _ => fun
  | [d1, d2] => { results := [.lit (.bool true)], args := [d1, d2] }
  | _ => none }
def bufferWaysRow : OpenClaim := { program := "ythfjgaifdadgnaagreat", sum := "6e33afd4c29bd4c0f009f299ba52afbc0a97d7597399f1c43219ce0248b48f1b", func := "dripstone/dripstonelaw12.BufferWays", spec := "bufferWays", unfollowed := true, recurses := true, apart := false }
def BufferWaysSaid : Prop := bufferWaysRow.holds Tryz.pinned (OpenSpec.ofChange bufferWaysSpec)

/-- ITS FALSE NEIGHBOUR: 'it returns false'. Refute it at one input. -/
def bufferWaysWrong : ChangeSpec := { name := "bufferWays", fn := fun _ => fun
  | [d1, d2] => { results := [.lit (.bool false)], args := [d1, d2] }
  | _ => none }
def BufferWaysWrongFalsely : Prop := bufferWaysRow.holds Tryz.pinned (OpenSpec.ofChange bufferWaysWrong)

/-- 'dripstonelaw12.BufferFences': WHATEVER THE INPUT: true; the input reads as it did. -/
def bufferFencesSpec : ChangeSpec := { name := "bufferFences", fn := fun _ => fun
  | [d] => { results := [.lit (.bool true)], args := [d] }
  | _ => none }
def bufferFencesRow : OpenClaim := { program := "ythfjgaifdadgnaagreat", sum := "6e33afd4c29bd4c0f009f299ba52afbc0a97d7597399f1c43219ce0248b48f1b", func := "dripstone/dripstonelaw12.BufferFences", spec := "bufferFences", unfollowed := true, recurses := true, apart := false }
def BufferFencesSaid : Prop := bufferFencesRow.holds Tryz.pinned (OpenSpec.ofChange bufferFencesSpec)

/-- ITS FALSE NEIGHBOUR: 'it returns false'. Refute it at one input. -/
def bufferFencesWrong : ChangeSpec := { name := "bufferFences", fn := fun _ => fun
  | [d] => { results := [.lit (.bool false)], args := [d] }
  | _ => none }
def BufferFencesWrongFalsely : Prop := bufferFencesRow.holds Tryz.pinned (OpenSpec.ofChange bufferFencesWrong)

/-- 'dripstonelaw12.BufferStrong': WHATEVER THE INPUT: true; the input reads as it did. -/
def bufferStrongSpec : ChangeSpec := { name := "bufferStrong", fn := fun _ => fun
  | [d] => { results := [.lit (.bool true)], args := [d] }
  | _ => none }
def bufferStrongRow : OpenClaim := { program := "ythfjgaifdadgnaagreat", sum := "6e33afd4c29bd4c0f009f299ba52afbc0a97d7597399f1c43219ce0248b48f1b", func := "dripstone/dripstonelaw12.BufferStrong", spec := "bufferStrong", unfollowed := true, recurses := true, apart := false }
def BufferStrongSaid : Prop := bufferStrongRow.holds Tryz.pinned (OpenSpec.ofChange bufferStrongSpec)

/-- ITS FALSE NEIGHBOUR: 'it returns false'. Refute it at one input. -/
def bufferStrongWrong : ChangeSpec := { name := "bufferStrong", fn := fun _ => fun
  | [d] => { results := [.lit (.bool false)], args := [d] }
  | _ => none }
def BufferStrongWrongFalsely : Prop := bufferStrongRow.holds Tryz.pinned (OpenSpec.ofChange bufferStrongWrong)

/-- 'dripstonelaw12.BufferRoom': WHATEVER THE INPUT: true; the input reads as it did. -/
def bufferRoomSpec : ChangeSpec := { name := "bufferRoom", fn := fun _ => fun
  | [d1, d2] => { results := [.lit (.bool true)], args := [d1, d2] }
  | _ => none }
def bufferRoomRow : OpenClaim := { program := "ythfjgaifdadgnaagreat", sum := "6e33afd4c29bd4c0f009f299ba52afbc0a97d7597399f1c43219ce0248b48f1b", func := "dripstone/dripstonelaw12.BufferRoom", spec := "bufferRoom", unfollowed := true, recurses := true, apart := false }
def BufferRoomSaid : Prop := bufferRoomRow.holds Tryz.pinned (OpenSpec.ofChange bufferRoomSpec)

/-- ITS FALSE NEIGHBOUR: 'it returns false'. Refute it at one input. -/
def bufferRoomWrong : ChangeSpec := { name := "bufferRoom", fn := fun _ => fun
  | [d1, d2] => { results := [.lit (.bool false)], args := [d1, d2] }
  | _ => none }
def BufferRoomWrongFalsely : Prop := bufferRoomRow.holds Tryz.pinned (OpenSpec.ofChange bufferRoomWrong)

/-- 'dripstonelaw12.BufferAlone': WHATEVER THE INPUT: true; the input reads as it did. -/
def bufferAloneSpec : ChangeSpec := { name := "bufferAlone", fn := fun _ => fun
  | [d1, d2] => { results := [.lit (.bool true)], args := [d1, d2] }
  | _ => none }
def bufferAloneRow : OpenClaim := { program := "ythfjgaifdadgnaagreat", sum := "6e33afd4c29bd4c0f009f299ba52afbc0a97d7597399f1c43219ce0248b48f1b", func := "dripstone/dripstonelaw12.BufferAlone", spec := "bufferAlone", unfollowed := true, recurses := true, apart := false }
def BufferAloneSaid : Prop := bufferAloneRow.holds Tryz.pinned (OpenSpec.ofChange bufferAloneSpec)

/-- ITS FALSE NEIGHBOUR: 'it returns false'. Refute it at one input. -/
def bufferAloneWrong : ChangeSpec := { name := "bufferAlone", fn := fun _ => fun
  | [d1, d2] => { results := [.lit (.bool false)], args := [d1, d2] }
  | _ => none }
def BufferAloneWrongFalsely : Prop := bufferAloneRow.holds Tryz.pinned (OpenSpec.ofChange bufferAloneWrong)

/-- 'dripstonelaw12.BufferTurned': WHATEVER THE INPUT: true; the input reads as it did. -/
def bufferTurnedSpec : ChangeSpec := { name := "bufferTurned", fn := fun _ => fun
  | [d1, d2] => { results := [.lit (.bool true)], args := [d1, d2] }
  | _ => none }
def bufferTurnedRow : OpenClaim := { program := "ythfjgaifdadgnaagreat", sum := "6e33afd4c29bd4c0f009f299ba52afbc0a97d7597399f1c43219ce0248b48f1b", func := "dripstone/dripstonelaw12.BufferTurned", spec := "bufferTurned", unfollowed := true, recurses := true, apart := false }
def BufferTurnedSaid : Prop := bufferTurnedRow.holds Tryz.pinned (OpenSpec.ofChange bufferTurnedSpec)

/-- ITS FALSE NEIGHBOUR: 'it returns false'. Refute it at one input. -/
def bufferTurnedWrong : ChangeSpec := { name := "bufferTurned", fn := fun _ => fun
  | [d1, d2] => { results := [.lit (.bool false)], args := [d1, d2] }
  | _ => none }
def BufferTurnedWrongFalsely : Prop := bufferTurnedRow.holds Tryz.pinned (OpenSpec.ofChange bufferTurnedWrong)

/-- 'dripstonelaw12.BufferChecks': WHATEVER THE INPUT: true; the input reads as it did. -/
def bufferChecksSpec : ChangeSpec := { name := "bufferChecks", fn := fun _ => fun
  | [d] => { results := [.lit (.bool true)], args := [d] }
  | _ => none }
def bufferChecksRow : OpenClaim := { program := "ythfjgaifdadgnaagreat", sum := "6e33afd4c29bd4c0f009f299ba52afbc0a97d7597399f1c43219ce0248b48f1b", func := "dripstone/dripstonelaw12.BufferChecks", spec := "bufferChecks", unfollowed := true, recurses := true, apart := false }
def BufferChecksSaid : Prop := bufferChecksRow.holds Tryz.pinned (OpenSpec.ofChange bufferChecksSpec)

/-- ITS FALSE NEIGHBOUR: 'it returns false'. Refute it at one input. -/
def bufferChecksWrong : ChangeSpec := { name := "bufferChecks", fn := fun _ => fun
  | [d] => { results := [.lit (.bool false)], args := [d] }
  | _ => none }
def BufferChecksWrongFalsely : Prop := bufferChecksRow.holds Tryz.pinned (OpenSpec.ofChange bufferChecksWrong)

/-- 'dripstonelaw12.BufferStates': WHATEVER THE INPUT: true; the input reads as it did. -/
def bufferStatesSpec : ChangeSpec := { name := "bufferStates", fn := fun _ => fun
  | [d1, d2] => { results := [.lit (.bool true)], args := [d1, d2] }
  | _ => none }
def bufferStatesRow : OpenClaim := { program := "ythfjgaifdadgnaagreat", sum := "6e33afd4c29bd4c0f009f299ba52afbc0a97d7597399f1c43219ce0248b48f1b", func := "dripstone/dripstonelaw12.BufferStates", spec := "bufferStates", unfollowed := true, recurses := true, apart := false }
def BufferStatesSaid : Prop := bufferStatesRow.holds Tryz.pinned (OpenSpec.ofChange bufferStatesSpec)

/-- ITS FALSE NEIGHBOUR: 'it returns false'. Refute it at one input. -/
def bufferStatesWrong : ChangeSpec := { name := "bufferStates", fn := fun _ => fun
  | [d1, d2] => { results := [.lit (.bool false)], args := [d1, d2] }
  | _ => none }
def BufferStatesWrongFalsely : Prop := bufferStatesRow.holds Tryz.pinned (OpenSpec.ofChange bufferStatesWrong)

/-- 'dripstonelaw12.BufferRuns': WHATEVER THE INPUT: true; the input reads as it did. -/
def bufferRunsSpec : ChangeSpec := { name := "bufferRuns", fn := fun _ => fun
  | [d1, d2] => { results := [.lit (.bool true)], args := [d1, d2] }
  | _ => none }
def bufferRunsRow : OpenClaim := { program := "ythfjgaifdadgnaagreat", sum := "6e33afd4c29bd4c0f009f299ba52afbc0a97d7597399f1c43219ce0248b48f1b", func := "dripstone/dripstonelaw12.BufferRuns", spec := "bufferRuns", unfollowed := true, recurses := true, apart := false }
def BufferRunsSaid : Prop := bufferRunsRow.holds Tryz.pinned (OpenSpec.ofChange bufferRunsSpec)

/-- ITS FALSE NEIGHBOUR: 'it returns false'. Refute it at one input. -/
def bufferRunsWrong : ChangeSpec := { name := "bufferRuns", fn := fun _ => fun
  | [d1, d2] => { results := [.lit (.bool false)], args := [d1, d2] }
  | _ => none }
def BufferRunsWrongFalsely : Prop := bufferRunsRow.holds Tryz.pinned (OpenSpec.ofChange bufferRunsWrong)

/-- 'dripstonelaw12.BufferDoes': WHATEVER THE INPUT: true; the input reads as it did. -/
def bufferDoesSpec : ChangeSpec := { name := "bufferDoes", fn := fun _ => fun
  | [d1, d2, d3] => { results := [.lit (.bool true)], args := [d1, d2, d3] }
  | _ => none }
def bufferDoesRow : OpenClaim := { program := "ythfjgaifdadgnaagreat", sum := "6e33afd4c29bd4c0f009f299ba52afbc0a97d7597399f1c43219ce0248b48f1b", func := "dripstone/dripstonelaw12.BufferDoes", spec := "bufferDoes", unfollowed := true, recurses := true, apart := false }
def BufferDoesSaid : Prop := bufferDoesRow.holds Tryz.pinned (OpenSpec.ofChange bufferDoesSpec)

/-- ITS FALSE NEIGHBOUR: 'it returns false'. Refute it at one input. -/
def bufferDoesWrong : ChangeSpec := { name := "bufferDoes", fn := fun _ => fun
  | [d1, d2, d3] => { results := [.lit (.bool false)], args := [d1, d2, d3] }
  | _ => none }
def BufferDoesWrongFalsely : Prop := bufferDoesRow.holds Tryz.pinned (OpenSpec.ofChange bufferDoesWrong)

/-- 'dripstonelaw12.BufferReach': WHATEVER THE INPUT: true; the input reads as it did. -/
def bufferReachSpec : ChangeSpec := { name := "bufferReach", fn := fun _ => fun
  | [d1, d2] => { results := [.lit (.bool true)], args := [d1, d2] }
  | _ => none }
def bufferReachRow : OpenClaim := { program := "ythfjgaifdadgnaagreat", sum := "6e33afd4c29bd4c0f009f299ba52afbc0a97d7597399f1c43219ce0248b48f1b", func := "dripstone/dripstonelaw12.BufferReach", spec := "bufferReach", unfollowed := true, recurses := true, apart := false }
def BufferReachSaid : Prop := bufferReachRow.holds Tryz.pinned (OpenSpec.ofChange bufferReachSpec)

/-- ITS FALSE NEIGHBOUR: 'it returns false'. Refute it at one input. -/
def bufferReachWrong : ChangeSpec := { name := "bufferReach", fn := fun _ => fun
  | [d1, d2] => { results := [.lit (.bool false)], args := [d1, d2] }
  | _ => none }
def BufferReachWrongFalsely : Prop := bufferReachRow.holds Tryz.pinned (OpenSpec.ofChange bufferReachWrong)

/-- 'dripstonelaw12.BufferOwn': WHATEVER THE INPUT: true; the input reads as it did. -/
def bufferOwnSpec : ChangeSpec := { name := "bufferOwn", fn := fun _ => fun
  | [d1, d2] => { results := [.lit (.bool true)], args := [d1, d2] }
  | _ => none }
def bufferOwnRow : OpenClaim := { program := "ythfjgaifdadgnaagreat", sum := "6e33afd4c29bd4c0f009f299ba52afbc0a97d7597399f1c43219ce0248b48f1b", func := "dripstone/dripstonelaw12.BufferOwn", spec := "bufferOwn", unfollowed := true, recurses := true, apart := false }
def BufferOwnSaid : Prop := bufferOwnRow.holds Tryz.pinned (OpenSpec.ofChange bufferOwnSpec)

/-- ITS FALSE NEIGHBOUR: 'it returns false'. Refute it at one input. -/
def bufferOwnWrong : ChangeSpec := { name := "bufferOwn", fn := fun _ => fun
  | [d1, d2] => { results := [.lit (.bool false)], args := [d1, d2] }
  | _ => none }
def BufferOwnWrongFalsely : Prop := bufferOwnRow.holds Tryz.pinned (OpenSpec.ofChange bufferOwnWrong)

/-- 'dripstonelaw12.BufferRight': WHATEVER THE INPUT: true; the input reads as it did. -/
def bufferRightSpec : ChangeSpec := { name := "bufferRight", fn := fun _ => fun
  | [d1, d2] => { results := [.lit (.bool true)], args := [d1, d2] }
  | _ => none }
def bufferRightRow : OpenClaim := { program := "ythfjgaifdadgnaagreat", sum := "6e33afd4c29bd4c0f009f299ba52afbc0a97d7597399f1c43219ce0248b48f1b", func := "dripstone/dripstonelaw12.BufferRight", spec := "bufferRight", unfollowed := true, recurses := true, apart := false }
def BufferRightSaid : Prop := bufferRightRow.holds Tryz.pinned (OpenSpec.ofChange bufferRightSpec)

/-- ITS FALSE NEIGHBOUR: 'it returns false'. Refute it at one input. -/
def bufferRightWrong : ChangeSpec := { name := "bufferRight", fn := fun _ => fun
  | [d1, d2] => { results := [.lit (.bool false)], args := [d1, d2] }
  | _ => none }
def BufferRightWrongFalsely : Prop := bufferRightRow.holds Tryz.pinned (OpenSpec.ofChange bufferRightWrong)

/- THE SECOND FORM. 'bulk': how many values and letters a reading holds, each counted each time it is reached (what is shared counts as often as it is met; a slice's spare places count too). A statement '..UptoSaid' is the law's where the arguments, and the package variables that the reading takes, are together of bulk at most 1048576: NARROWER than '..Said'. Prove '..Said' where nothing that the law and all that it calls make is longer than what came in: it says more and counts as full. Else prove '..UptoSaid'. A law counts once. -/
mutual
def uptoBulk {H : Type} : DataW H → Nat
  | .lit (.string bytes) => bytes.length + 1
  | .lit _ => 1
  | .nil => 1
  | .ptr d => uptoBulk d + 1
  | .slice elems spare => uptoBulkAll elems + uptoBulkAll spare + 1
  | .agg parts => uptoBulkAll parts + 1
  | .iface _ d => uptoBulk d + 1
  | .map entries => uptoBulkEntries entries + 1
  | .held _ => 1
def uptoBulkAll {H : Type} : List (DataW H) → Nat
  | [] => 0
  | d :: r => uptoBulk d + uptoBulkAll r
def uptoBulkEntries {H : Type} : List (Lit × DataW H) → Nat
  | [] => 0
  | x :: r => uptoBulkEntry x + uptoBulkEntries r
def uptoBulkEntry {H : Type} : Lit × DataW H → Nat
  | (.string bytes, d) => bytes.length + uptoBulk d + 1
  | (_, d) => uptoBulk d + 1
 end
def uptoSmall : (H : Type) → List (DataW H) → Bool := fun _ ds => decide (uptoBulkAll ds ≤ 1048576)
def OpenSpec.upto (s : _root_.Go.ChangeSpec) : _root_.Go.OpenSpec := { _root_.Go.OpenSpec.ofChange s with cond := some uptoSmall }

/-- 'dripstonelaw12.BufferEnds', WHERE WHAT IT READS IS OF BULK AT MOST 1048576: true; the input reads as it did. -/
def bufferEndsUptoRow : OpenClaim := { program := "ythfjgaifdadgnaagreat", sum := "6e33afd4c29bd4c0f009f299ba52afbc0a97d7597399f1c43219ce0248b48f1b", func := "dripstone/dripstonelaw12.BufferEnds", spec := "bufferEnds", unfollowed := true, recurses := true, apart := false, narrowed := true }
def BufferEndsUptoSaid : Prop := bufferEndsUptoRow.holds Tryz.pinned (OpenSpec.upto bufferEndsSpec)

/-- 'dripstonelaw12.BufferWays', WHERE WHAT IT READS IS OF BULK AT MOST 1048576: true; the input reads as it did. -/
def bufferWaysUptoRow : OpenClaim := { program := "ythfjgaifdadgnaagreat", sum := "6e33afd4c29bd4c0f009f299ba52afbc0a97d7597399f1c43219ce0248b48f1b", func := "dripstone/dripstonelaw12.BufferWays", spec := "bufferWays", unfollowed := true, recurses := true, apart := false, narrowed := true }
def BufferWaysUptoSaid : Prop := bufferWaysUptoRow.holds Tryz.pinned (OpenSpec.upto bufferWaysSpec)

/-- 'dripstonelaw12.BufferFences', WHERE WHAT IT READS IS OF BULK AT MOST 1048576: true; the input reads as it did. -/
def bufferFencesUptoRow : OpenClaim := { program := "ythfjgaifdadgnaagreat", sum := "6e33afd4c29bd4c0f009f299ba52afbc0a97d7597399f1c43219ce0248b48f1b", func := "dripstone/dripstonelaw12.BufferFences", spec := "bufferFences", unfollowed := true, recurses := true, apart := false, narrowed := true }
def BufferFencesUptoSaid : Prop := bufferFencesUptoRow.holds Tryz.pinned (OpenSpec.upto bufferFencesSpec)

/-- 'dripstonelaw12.BufferStrong', WHERE WHAT IT READS IS OF BULK AT MOST 1048576: true; the input reads as it did. -/
def bufferStrongUptoRow : OpenClaim := { program := "ythfjgaifdadgnaagreat", sum := "6e33afd4c29bd4c0f009f299ba52afbc0a97d7597399f1c43219ce0248b48f1b", func := "dripstone/dripstonelaw12.BufferStrong", spec := "bufferStrong", unfollowed := true, recurses := true, apart := false, narrowed := true }
def BufferStrongUptoSaid : Prop := bufferStrongUptoRow.holds Tryz.pinned (OpenSpec.upto bufferStrongSpec)

/-- 'dripstonelaw12.BufferRoom', WHERE WHAT IT READS IS OF BULK AT MOST 1048576: true; the input reads as it did. -/
def bufferRoomUptoRow : OpenClaim := { program := "ythfjgaifdadgnaagreat", sum := "6e33afd4c29bd4c0f009f299ba52afbc0a97d7597399f1c43219ce0248b48f1b", func := "dripstone/dripstonelaw12.BufferRoom", spec := "bufferRoom", unfollowed := true, recurses := true, apart := false, narrowed := true }
def BufferRoomUptoSaid : Prop := bufferRoomUptoRow.holds Tryz.pinned (OpenSpec.upto bufferRoomSpec)

/-- 'dripstonelaw12.BufferAlone', WHERE WHAT IT READS IS OF BULK AT MOST 1048576: true; the input reads as it did. -/
def bufferAloneUptoRow : OpenClaim := { program := "ythfjgaifdadgnaagreat", sum := "6e33afd4c29bd4c0f009f299ba52afbc0a97d7597399f1c43219ce0248b48f1b", func := "dripstone/dripstonelaw12.BufferAlone", spec := "bufferAlone", unfollowed := true, recurses := true, apart := false, narrowed := true }
def BufferAloneUptoSaid : Prop := bufferAloneUptoRow.holds Tryz.pinned (OpenSpec.upto bufferAloneSpec)

/-- 'dripstonelaw12.BufferTurned', WHERE WHAT IT READS IS OF BULK AT MOST 1048576: true; the input reads as it did. -/
def bufferTurnedUptoRow : OpenClaim := { program := "ythfjgaifdadgnaagreat", sum := "6e33afd4c29bd4c0f009f299ba52afbc0a97d7597399f1c43219ce0248b48f1b", func := "dripstone/dripstonelaw12.BufferTurned", spec := "bufferTurned", unfollowed := true, recurses := true, apart := false, narrowed := true }
def BufferTurnedUptoSaid : Prop := bufferTurnedUptoRow.holds Tryz.pinned (OpenSpec.upto bufferTurnedSpec)

/-- 'dripstonelaw12.BufferChecks', WHERE WHAT IT READS IS OF BULK AT MOST 1048576: true; the input reads as it did. -/
def bufferChecksUptoRow : OpenClaim := { program := "ythfjgaifdadgnaagreat", sum := "6e33afd4c29bd4c0f009f299ba52afbc0a97d7597399f1c43219ce0248b48f1b", func := "dripstone/dripstonelaw12.BufferChecks", spec := "bufferChecks", unfollowed := true, recurses := true, apart := false, narrowed := true }
def BufferChecksUptoSaid : Prop := bufferChecksUptoRow.holds Tryz.pinned (OpenSpec.upto bufferChecksSpec)

/-- 'dripstonelaw12.BufferStates', WHERE WHAT IT READS IS OF BULK AT MOST 1048576: true; the input reads as it did. -/
def bufferStatesUptoRow : OpenClaim := { program := "ythfjgaifdadgnaagreat", sum := "6e33afd4c29bd4c0f009f299ba52afbc0a97d7597399f1c43219ce0248b48f1b", func := "dripstone/dripstonelaw12.BufferStates", spec := "bufferStates", unfollowed := true, recurses := true, apart := false, narrowed := true }
def BufferStatesUptoSaid : Prop := bufferStatesUptoRow.holds Tryz.pinned (OpenSpec.upto bufferStatesSpec)

/-- 'dripstonelaw12.BufferRuns', WHERE WHAT IT READS IS OF BULK AT MOST 1048576: true; the input reads as it did. -/
def bufferRunsUptoRow : OpenClaim := { program := "ythfjgaifdadgnaagreat", sum := "6e33afd4c29bd4c0f009f299ba52afbc0a97d7597399f1c43219ce0248b48f1b", func := "dripstone/dripstonelaw12.BufferRuns", spec := "bufferRuns", unfollowed := true, recurses := true, apart := false, narrowed := true }
def BufferRunsUptoSaid : Prop := bufferRunsUptoRow.holds Tryz.pinned (OpenSpec.upto bufferRunsSpec)

/-- 'dripstonelaw12.BufferDoes', WHERE WHAT IT READS IS OF BULK AT MOST 1048576: true; the input reads as it did. -/
def bufferDoesUptoRow : OpenClaim := { program := "ythfjgaifdadgnaagreat", sum := "6e33afd4c29bd4c0f009f299ba52afbc0a97d7597399f1c43219ce0248b48f1b", func := "dripstone/dripstonelaw12.BufferDoes", spec := "bufferDoes", unfollowed := true, recurses := true, apart := false, narrowed := true }
def BufferDoesUptoSaid : Prop := bufferDoesUptoRow.holds Tryz.pinned (OpenSpec.upto bufferDoesSpec)

/-- 'dripstonelaw12.BufferReach', WHERE WHAT IT READS IS OF BULK AT MOST 1048576: true; the input reads as it did. -/
def bufferReachUptoRow : OpenClaim := { program := "ythfjgaifdadgnaagreat", sum := "6e33afd4c29bd4c0f009f299ba52afbc0a97d7597399f1c43219ce0248b48f1b", func := "dripstone/dripstonelaw12.BufferReach", spec := "bufferReach", unfollowed := true, recurses := true, apart := false, narrowed := true }
def BufferReachUptoSaid : Prop := bufferReachUptoRow.holds Tryz.pinned (OpenSpec.upto bufferReachSpec)

/-- 'dripstonelaw12.BufferOwn', WHERE WHAT IT READS IS OF BULK AT MOST 1048576: true; the input reads as it did. -/
def bufferOwnUptoRow : OpenClaim := { program := "ythfjgaifdadgnaagreat", sum := "6e33afd4c29bd4c0f009f299ba52afbc0a97d7597399f1c43219ce0248b48f1b", func := "dripstone/dripstonelaw12.BufferOwn", spec := "bufferOwn", unfollowed := true, recurses := true, apart := false, narrowed := true }
def BufferOwnUptoSaid : Prop := bufferOwnUptoRow.holds Tryz.pinned (OpenSpec.upto bufferOwnSpec)

/-- 'dripstonelaw12.BufferRight', WHERE WHAT IT READS IS OF BULK AT MOST 1048576: true; the input reads as it did. -/
def bufferRightUptoRow : OpenClaim := { program := "ythfjgaifdadgnaagreat", sum := "6e33afd4c29bd4c0f009f299ba52afbc0a97d7597399f1c43219ce0248b48f1b", func := "dripstone/dripstonelaw12.BufferRight", spec := "bufferRight", unfollowed := true, recurses := true, apart := false, narrowed := true }
def BufferRightUptoSaid : Prop := bufferRightUptoRow.holds Tryz.pinned (OpenSpec.upto bufferRightSpec)

end Rows
end Go.Proofs.YthfjgaifdadgnaaGreat
