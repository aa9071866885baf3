/-
  No cell of these rows narrows 'for every input' (looked for: loops, veiled, ifaces, maps, wideKeys, modest, calm, conditions, laid).
  DERIVED. THE GIVEN ROWS OF THIS SEAT. 12 by the template 'for every input the law returns true; each argument reads behind the call as it read before'; 0 by the template 'total and deterministic' (their statements: YtljepnnnjfalcaaGreatTotals.lean).
  GIVEN WITH THE SEED: the statements are not yours to turn. If you find one false, say at which input.
  Laid BY PROGRAM, IN A SANDBOX (cutbox-rows.mjs): the forced cells as the released guide's own fill.sh prints them over the translation d893a0667d4900bf… (all of the seat's roots in one cut). By AI agents, Wed Nov 11 2026. No macro, syntax, notation, axiom, sorry.
-/
import Derived.Test.YtljepnnnjfalcaaGreatChecked
import GoSem.Claim
import GoSem.ClaimJoined
import GoSem.ClaimMapViews
import Derived.JoinedTies
import Derived.KernelRfl
namespace Go.Proofs.YtljepnnnjfalcaaGreat
/- THE CELL 'sum', in the pinned program and in every row, IS THE sha256 OF THE DUMP (.gsa) THAT YtljepnnnjfalcaaGreatProg.lean LOADS. Nothing in Lean hashes anything: it is a label: what it is worth is what the hold of that sum in a sandbox is worth. -/
noncomputable def Tryz.pinned : Pinned := { name := "ytljepnnnjfalcaagreat", sum := "d893a0667d4900bf364f4bb61f44e6667ee5f193637ed03cfa0571c6a6498860", checked := Tryz.checked }
namespace Rows
def none {H : Type} : Left H := { results := [], args := [] }

/-- 'dripstonelaw15.BellNames': WHATEVER THE INPUT: true; the input reads as it did. -/
def bellNamesSpec : ChangeSpec := { name := "bellNames", fn := fun _ => fun
  | [] => { results := [.lit (.bool true)], args := [] }
  | _ => none }
def bellNamesRow : OpenClaim := { program := "ytljepnnnjfalcaagreat", sum := "d893a0667d4900bf364f4bb61f44e6667ee5f193637ed03cfa0571c6a6498860", func := "dripstone/dripstonelaw15.BellNames", spec := "bellNames", unfollowed := true, recurses := true, apart := false }
def BellNamesSaid : Prop := bellNamesRow.holds Tryz.pinned (OpenSpec.ofChange bellNamesSpec)

/-- ITS FALSE NEIGHBOUR: 'it returns false'. Refute it at one input. -/
def bellNamesWrong : ChangeSpec := { name := "bellNames", fn := fun _ => fun
  | [] => { results := [.lit (.bool false)], args := [] }
  | _ => none }
def BellNamesWrongFalsely : Prop := bellNamesRow.holds Tryz.pinned (OpenSpec.ofChange bellNamesWrong)

/-- 'dripstonelaw15.BellRuns': WHATEVER THE INPUT: true; the input reads as it did. -/
def bellRunsSpec : ChangeSpec := { name := "bellRuns", fn := fun _ => fun
  | [d1, d2] => { results := [.lit (.bool true)], args := [d1, d2] }
  | _ => none }
def bellRunsRow : OpenClaim := { program := "ytljepnnnjfalcaagreat", sum := "d893a0667d4900bf364f4bb61f44e6667ee5f193637ed03cfa0571c6a6498860", func := "dripstone/dripstonelaw15.BellRuns", spec := "bellRuns", unfollowed := true, recurses := true, apart := false }
def BellRunsSaid : Prop := bellRunsRow.holds Tryz.pinned (OpenSpec.ofChange bellRunsSpec)

/-- ITS FALSE NEIGHBOUR: 'it returns false'. Refute it at one input. -/
def bellRunsWrong : ChangeSpec := { name := "bellRuns", fn := fun _ => fun
  | [d1, d2] => { results := [.lit (.bool false)], args := [d1, d2] }
  | _ => none }
def BellRunsWrongFalsely : Prop := bellRunsRow.holds Tryz.pinned (OpenSpec.ofChange bellRunsWrong)

/-- 'dripstonelaw15.BellTurned': WHATEVER THE INPUT: true; the input reads as it did. -/
def bellTurnedSpec : ChangeSpec := { name := "bellTurned", fn := fun _ => fun
  | [d1, d2, d3] => { results := [.lit (.bool true)], args := [d1, d2, d3] }
  | _ => none }
def bellTurnedRow : OpenClaim := { program := "ytljepnnnjfalcaagreat", sum := "d893a0667d4900bf364f4bb61f44e6667ee5f193637ed03cfa0571c6a6498860", func := "dripstone/dripstonelaw15.BellTurned", spec := "bellTurned", unfollowed := true, recurses := true, apart := false }
def BellTurnedSaid : Prop := bellTurnedRow.holds Tryz.pinned (OpenSpec.ofChange bellTurnedSpec)

/-- ITS FALSE NEIGHBOUR: 'it returns false'. Refute it at one input. -/
def bellTurnedWrong : ChangeSpec := { name := "bellTurned", fn := fun _ => fun
  | [d1, d2, d3] => { results := [.lit (.bool false)], args := [d1, d2, d3] }
  | _ => none }
def BellTurnedWrongFalsely : Prop := bellTurnedRow.holds Tryz.pinned (OpenSpec.ofChange bellTurnedWrong)

/-- 'dripstonelaw15.BellOnce': WHATEVER THE INPUT: true; the input reads as it did. -/
def bellOnceSpec : ChangeSpec := { name := "bellOnce", fn := fun _ => fun
  | [d1, d2] => { results := [.lit (.bool true)], args := [d1, d2] }
  | _ => none }
def bellOnceRow : OpenClaim := { program := "ytljepnnnjfalcaagreat", sum := "d893a0667d4900bf364f4bb61f44e6667ee5f193637ed03cfa0571c6a6498860", func := "dripstone/dripstonelaw15.BellOnce", spec := "bellOnce", unfollowed := true, recurses := true, apart := false }
def BellOnceSaid : Prop := bellOnceRow.holds Tryz.pinned (OpenSpec.ofChange bellOnceSpec)

/-- ITS FALSE NEIGHBOUR: 'it returns false'. Refute it at one input. -/
def bellOnceWrong : ChangeSpec := { name := "bellOnce", fn := fun _ => fun
  | [d1, d2] => { results := [.lit (.bool false)], args := [d1, d2] }
  | _ => none }
def BellOnceWrongFalsely : Prop := bellOnceRow.holds Tryz.pinned (OpenSpec.ofChange bellOnceWrong)

/-- 'dripstonelaw15.BellChecks': WHATEVER THE INPUT: true; the input reads as it did. -/
def bellChecksSpec : ChangeSpec := { name := "bellChecks", fn := fun _ => fun
  | [d] => { results := [.lit (.bool true)], args := [d] }
  | _ => none }
def bellChecksRow : OpenClaim := { program := "ytljepnnnjfalcaagreat", sum := "d893a0667d4900bf364f4bb61f44e6667ee5f193637ed03cfa0571c6a6498860", func := "dripstone/dripstonelaw15.BellChecks", spec := "bellChecks", unfollowed := true, recurses := true, apart := false }
def BellChecksSaid : Prop := bellChecksRow.holds Tryz.pinned (OpenSpec.ofChange bellChecksSpec)

/-- ITS FALSE NEIGHBOUR: 'it returns false'. Refute it at one input. -/
def bellChecksWrong : ChangeSpec := { name := "bellChecks", fn := fun _ => fun
  | [d] => { results := [.lit (.bool false)], args := [d] }
  | _ => none }
def BellChecksWrongFalsely : Prop := bellChecksRow.holds Tryz.pinned (OpenSpec.ofChange bellChecksWrong)

/-- 'dripstonelaw15.BellCodes': WHATEVER THE INPUT: true; the input reads as it did. -/
def bellCodesSpec : ChangeSpec := { name := "bellCodes", fn := fun _ => fun
  | [d1, d2, d3] => { results := [.lit (.bool true)], args := [d1, d2, d3] }
  | _ => none }
def bellCodesRow : OpenClaim := { program := "ytljepnnnjfalcaagreat", sum := "d893a0667d4900bf364f4bb61f44e6667ee5f193637ed03cfa0571c6a6498860", func := "dripstone/dripstonelaw15.BellCodes", spec := "bellCodes", unfollowed := true, recurses := true, apart := false }
def BellCodesSaid : Prop := bellCodesRow.holds Tryz.pinned (OpenSpec.ofChange bellCodesSpec)

/-- ITS FALSE NEIGHBOUR: 'it returns false'. Refute it at one input. -/
def bellCodesWrong : ChangeSpec := { name := "bellCodes", fn := fun _ => fun
  | [d1, d2, d3] => { results := [.lit (.bool false)], args := [d1, d2, d3] }
  | _ => none }
def BellCodesWrongFalsely : Prop := bellCodesRow.holds Tryz.pinned (OpenSpec.ofChange bellCodesWrong)

/-- 'dripstonelaw15.BellViews': WHATEVER THE INPUT: true; the input reads as it did. -/
def bellViewsSpec : ChangeSpec := { name := "bellViews", fn := fun _ => fun
  | [d1, d2] => { results := [.lit (.bool true)], args := [d1, d2] }
  | _ => none }
def bellViewsRow : OpenClaim := { program := "ytljepnnnjfalcaagreat", sum := "d893a0667d4900bf364f4bb61f44e6667ee5f193637ed03cfa0571c6a6498860", func := "dripstone/dripstonelaw15.BellViews", spec := "bellViews", unfollowed := true, recurses := true, apart := false }
def BellViewsSaid : Prop := bellViewsRow.holds Tryz.pinned (OpenSpec.ofChange bellViewsSpec)

/-- ITS FALSE NEIGHBOUR: 'it returns false'. Refute it at one input. -/
def bellViewsWrong : ChangeSpec := { name := "bellViews", fn := fun _ => fun
  | [d1, d2] => { results := [.lit (.bool false)], args := [d1, d2] }
  | _ => none }
def BellViewsWrongFalsely : Prop := bellViewsRow.holds Tryz.pinned (OpenSpec.ofChange bellViewsWrong)

/-- 'dripstonelaw15.BellTells': WHATEVER THE INPUT: true; the input reads as it did. -/
def bellTellsSpec : ChangeSpec := { name := "bellTells", fn := fun _ => fun
  | [d1, d2] => { results := [.lit (.bool true)], args := [d1, d2] }
  | _ => none }
def bellTellsRow : OpenClaim := { program := "ytljepnnnjfalcaagreat", sum := "d893a0667d4900bf364f4bb61f44e6667ee5f193637ed03cfa0571c6a6498860", func := "dripstone/dripstonelaw15.BellTells", spec := "bellTells", unfollowed := true, recurses := true, apart := false }
def BellTellsSaid : Prop := bellTellsRow.holds Tryz.pinned (OpenSpec.ofChange bellTellsSpec)

/-- ITS FALSE NEIGHBOUR: 'it returns false'. Refute it at one input. -/
def bellTellsWrong : ChangeSpec := { name := "bellTells", fn := fun _ => fun
  | [d1, d2] => { results := [.lit (.bool false)], args := [d1, d2] }
  | _ => none }
def BellTellsWrongFalsely : Prop := bellTellsRow.holds Tryz.pinned (OpenSpec.ofChange bellTellsWrong)

/-- 'dripstonelaw15.BellHeard': WHATEVER THE INPUT: true; the input reads as it did. -/
def bellHeardSpec : ChangeSpec := { name := "bellHeard", fn := fun _ => fun
  | [d1, d2] => { results := [.lit (.bool true)], args := [d1, d2] }
  | _ => none }
def bellHeardRow : OpenClaim := { program := "ytljepnnnjfalcaagreat", sum := "d893a0667d4900bf364f4bb61f44e6667ee5f193637ed03cfa0571c6a6498860", func := "dripstone/dripstonelaw15.BellHeard", spec := "bellHeard", unfollowed := true, recurses := true, apart := false }
def BellHeardSaid : Prop := bellHeardRow.holds Tryz.pinned (OpenSpec.ofChange bellHeardSpec)

/-- ITS FALSE NEIGHBOUR: 'it returns false'. Refute it at one input. -/
def bellHeardWrong : ChangeSpec := { name := "bellHeard", fn := fun _ => fun
  | [d1, d2] => { results := [.lit (.bool false)], args := [d1, d2] }
  | _ => none }
def BellHeardWrongFalsely : Prop := bellHeardRow.holds Tryz.pinned (OpenSpec.ofChange bellHeardWrong)

/-- 'dripstonelaw15.BellGrows': WHATEVER THE INPUT: true; the input reads as it did. -/
def bellGrowsSpec : ChangeSpec := { name := "bellGrows", fn := fun _ => fun
  | [d1, d2] => { results := [.lit (.bool true)], args := [d1, d2] }
  | _ => none }
def bellGrowsRow : OpenClaim := { program := "ytljepnnnjfalcaagreat", sum := "d893a0667d4900bf364f4bb61f44e6667ee5f193637ed03cfa0571c6a6498860", func := "dripstone/dripstonelaw15.BellGrows", spec := "bellGrows", unfollowed := true, recurses := true, apart := false }
def BellGrowsSaid : Prop := bellGrowsRow.holds Tryz.pinned (OpenSpec.ofChange bellGrowsSpec)

/-- ITS FALSE NEIGHBOUR: 'it returns false'. Refute it at one input. -/
def bellGrowsWrong : ChangeSpec := { name := "bellGrows", fn := fun _ => fun
  | [d1, d2] => { results := [.lit (.bool false)], args := [d1, d2] }
  | _ => none }
def BellGrowsWrongFalsely : Prop := bellGrowsRow.holds Tryz.pinned (OpenSpec.ofChange bellGrowsWrong)

/-- 'dripstonelaw15.BellEnds': WHATEVER THE INPUT: true; the input reads as it did. -/
def bellEndsSpec : ChangeSpec := { name := "bellEnds", fn := fun _ => fun
  | [d] => { results := [.lit (.bool true)], args := [d] }
  | _ => none }
def bellEndsRow : OpenClaim := { program := "ytljepnnnjfalcaagreat", sum := "d893a0667d4900bf364f4bb61f44e6667ee5f193637ed03cfa0571c6a6498860", func := "dripstone/dripstonelaw15.BellEnds", spec := "bellEnds", unfollowed := true, recurses := true, apart := false }
def BellEndsSaid : Prop := bellEndsRow.holds Tryz.pinned (OpenSpec.ofChange bellEndsSpec)

/-- ITS FALSE NEIGHBOUR: 'it returns false'. Refute it at one input. -/
def bellEndsWrong : ChangeSpec := { name := "bellEnds", fn := fun _ => fun
  | [d] => { results := [.lit (.bool false)], args := [d] }
  | _ => none }
def BellEndsWrongFalsely : Prop := bellEndsRow.holds Tryz.pinned (OpenSpec.ofChange bellEndsWrong)

/-- 'dripstonelaw15.BellRash': WHATEVER THE INPUT: true; the input reads as it did. -/
def bellRashSpec : ChangeSpec := { name := "bellRash", fn := fun _ => fun
  | [d] => { results := [.lit (.bool true)], args := [d] }
  | _ => none }
def bellRashRow : OpenClaim := { program := "ytljepnnnjfalcaagreat", sum := "d893a0667d4900bf364f4bb61f44e6667ee5f193637ed03cfa0571c6a6498860", func := "dripstone/dripstonelaw15.BellRash", spec := "bellRash", unfollowed := true, recurses := true, apart := false }
def BellRashSaid : Prop := bellRashRow.holds Tryz.pinned (OpenSpec.ofChange bellRashSpec)

/-- ITS FALSE NEIGHBOUR: 'it returns false'. Refute it at one input. -/
def bellRashWrong : ChangeSpec := { name := "bellRash", fn := fun _ => fun
  | [d] => { results := [.lit (.bool false)], args := [d] }
  | _ => none }
def BellRashWrongFalsely : Prop := bellRashRow.holds Tryz.pinned (OpenSpec.ofChange bellRashWrong)

/- THE SECOND FORM. 'bulk': how many values and letters a reading holds, each counted each time it is reached (what is shared counts as often as it is met; a slice's spare places count too). A statement '..UptoSaid' is the law's where the arguments, and the package variables that the reading takes, are together of bulk at most 1048576: NARROWER than '..Said'. Prove '..Said' where nothing that the law and all that it calls make is longer than what came in: it says more and counts as full. Else prove '..UptoSaid'. A law counts once. -/
mutual
def uptoBulk {H : Type} : DataW H → Nat
  | .lit (.string bytes) => bytes.length + 1
  | .lit _ => 1
  | .nil => 1
  | .ptr d => uptoBulk d + 1
  | .slice elems spare => uptoBulkAll elems + uptoBulkAll spare + 1
  | .agg parts => uptoBulkAll parts + 1
  | .iface _ d => uptoBulk d + 1
  | .map entries => uptoBulkEntries entries + 1
  | .held _ => 1
def uptoBulkAll {H : Type} : List (DataW H) → Nat
  | [] => 0
  | d :: r => uptoBulk d + uptoBulkAll r
def uptoBulkEntries {H : Type} : List (Lit × DataW H) → Nat
  | [] => 0
  | x :: r => uptoBulkEntry x + uptoBulkEntries r
def uptoBulkEntry {H : Type} : Lit × DataW H → Nat
  | (.string bytes, d) => bytes.length + uptoBulk d + 1
  | (_, d) => uptoBulk d + 1
 end
def uptoSmall : (H : Type) → List (DataW H) → Bool := fun _ ds => decide (uptoBulkAll ds ≤ 1048576)
def OpenSpec.upto (s : _root_.Go.ChangeSpec) : _root_.Go.OpenSpec := { _root_.Go.OpenSpec.ofChange s with cond := some uptoSmall }

/-- 'dripstonelaw15.BellNames', WHERE WHAT IT READS IS OF BULK AT MOST 1048576: true; the input reads as it did. -/
def bellNamesUptoRow : OpenClaim := { program := "ytljepnnnjfalcaagreat", sum := "d893a0667d4900bf364f4bb61f44e6667ee5f193637ed03cfa0571c6a6498860", func := "dripstone/dripstonelaw15.BellNames", spec := "bellNames", unfollowed := true, recurses := true, apart := false, narrowed := true }
def BellNamesUptoSaid : Prop := bellNamesUptoRow.holds Tryz.pinned (OpenSpec.upto bellNamesSpec)

/-- 'dripstonelaw15.BellRuns', WHERE WHAT IT READS IS OF BULK AT MOST 1048576: true; the input reads as it did. -/
def bellRunsUptoRow : OpenClaim := { program := "ytljepnnnjfalcaagreat", sum := "d893a0667d4900bf364f4bb61f44e6667ee5f193637ed03cfa0571c6a6498860", func := "dripstone/dripstonelaw15.BellRuns", spec := "bellRuns", unfollowed := true, recurses := true, apart := false, narrowed := true }
def BellRunsUptoSaid : Prop := bellRunsUptoRow.holds Tryz.pinned (OpenSpec.upto bellRunsSpec)

/-- 'dripstonelaw15.BellTurned', WHERE WHAT IT READS IS OF BULK AT MOST 1048576: true; the input reads as it did. -/
def bellTurnedUptoRow : OpenClaim := { program := "ytljepnnnjfalcaagreat", sum := "d893a0667d4900bf364f4bb61f44e6667ee5f193637ed03cfa0571c6a6498860", func := "dripstone/dripstonelaw15.BellTurned", spec := "bellTurned", unfollowed := true, recurses := true, apart := false, narrowed := true }
def BellTurnedUptoSaid : Prop := bellTurnedUptoRow.holds Tryz.pinned (OpenSpec.upto bellTurnedSpec)

/-- 'dripstonelaw15.BellOnce', WHERE WHAT IT READS IS OF BULK AT MOST 1048576: true; the input reads as it did. -/
def bellOnceUptoRow : OpenClaim := { program := "ytljepnnnjfalcaagreat", sum := "d893a0667d4900bf364f4bb61f44e6667ee5f193637ed03cfa0571c6a6498860", func := "dripstone/dripstonelaw15.BellOnce", spec := "bellOnce", unfollowed := true, recurses := true, apart := false, narrowed := true }
def BellOnceUptoSaid : Prop := bellOnceUptoRow.holds Tryz.pinned (OpenSpec.upto bellOnceSpec)

/-- 'dripstonelaw15.BellChecks', WHERE WHAT IT READS IS OF BULK AT MOST 1048576: true; the input reads as it did. -/
def bellChecksUptoRow : OpenClaim := { program := "ytljepnnnjfalcaagreat", sum := "d893a0667d4900bf364f4bb61f44e6667ee5f193637ed03cfa0571c6a6498860", func := "dripstone/dripstonelaw15.BellChecks", spec := "bellChecks", unfollowed := true, recurses := true, apart := false, narrowed := true }
def BellChecksUptoSaid : Prop := bellChecksUptoRow.holds Tryz.pinned (OpenSpec.upto bellChecksSpec)

/-- 'dripstonelaw15.BellCodes', WHERE WHAT IT READS IS OF BULK AT MOST 1048576: true; the input reads as it did. -/
def bellCodesUptoRow : OpenClaim := { program := "ytljepnnnjfalcaagreat", sum := "d893a0667d4900bf364f4bb61f44e6667ee5f193637ed03cfa0571c6a6498860", func := "dripstone/dripstonelaw15.BellCodes", spec := "bellCodes", unfollowed := true, recurses := true, apart := false, narrowed := true }
def BellCodesUptoSaid : Prop := bellCodesUptoRow.holds Tryz.pinned (OpenSpec.upto bellCodesSpec)

/-- 'dripstonelaw15.BellViews', WHERE WHAT IT READS IS OF BULK AT MOST 1048576: true; the input reads as it did. -/
def bellViewsUptoRow : OpenClaim := { program := "ytljepnnnjfalcaagreat", sum := "d893a0667d4900bf364f4bb61f44e6667ee5f193637ed03cfa0571c6a6498860", func := "dripstone/dripstonelaw15.BellViews", spec := "bellViews", unfollowed := true, recurses := true, apart := false, narrowed := true }
def BellViewsUptoSaid : Prop := bellViewsUptoRow.holds Tryz.pinned (OpenSpec.upto bellViewsSpec)

/-- 'dripstonelaw15.BellTells', WHERE WHAT IT READS IS OF BULK AT MOST 1048576: true; the input reads as it did. -/
def bellTellsUptoRow : OpenClaim := { program := "ytljepnnnjfalcaagreat", sum := "d893a0667d4900bf364f4bb61f44e6667ee5f193637ed03cfa0571c6a6498860", func := "dripstone/dripstonelaw15.BellTells", spec := "bellTells", unfollowed := true, recurses := true, apart := false, narrowed := true }
def BellTellsUptoSaid : Prop := bellTellsUptoRow.holds Tryz.pinned (OpenSpec.upto bellTellsSpec)

/-- 'dripstonelaw15.BellHeard', WHERE WHAT IT READS IS OF BULK AT MOST 1048576: true; the input reads as it did. -/
def bellHeardUptoRow : OpenClaim := { program := "ytljepnnnjfalcaagreat", sum := "d893a0667d4900bf364f4bb61f44e6667ee5f193637ed03cfa0571c6a6498860", func := "dripstone/dripstonelaw15.BellHeard", spec := "bellHeard", unfollowed := true, recurses := true, apart := false, narrowed := true }
def BellHeardUptoSaid : Prop := bellHeardUptoRow.holds Tryz.pinned (OpenSpec.upto bellHeardSpec)

/-- 'dripstonelaw15.BellGrows', WHERE WHAT IT READS IS OF BULK AT MOST 1048576: true; the input reads as it did. -/
def bellGrowsUptoRow : OpenClaim := { program := "ytljepnnnjfalcaagreat", sum := "d893a0667d4900bf364f4bb61f44e6667ee5f193637ed03cfa0571c6a6498860", func := "dripstone/dripstonelaw15.BellGrows", spec := "bellGrows", unfollowed := true, recurses := true, apart := false, narrowed := true }
def BellGrowsUptoSaid : Prop := bellGrowsUptoRow.holds Tryz.pinned (OpenSpec.upto bellGrowsSpec)

/-- 'dripstonelaw15.BellEnds', WHERE WHAT IT READS IS OF BULK AT MOST 1048576: true; the input reads as it did. -/
def bellEndsUptoRow : OpenClaim := { program := "ytljepnnnjfalcaagreat", sum := "d893a0667d4900bf364f4bb61f44e6667ee5f193637ed03cfa0571c6a6498860", func := "dripstone/dripstonelaw15.BellEnds", spec := "bellEnds", unfollowed := true, recurses := true, apart := false, narrowed := true }
def BellEndsUptoSaid : Prop := bellEndsUptoRow.holds Tryz.pinned (OpenSpec.upto bellEndsSpec)

/-- 'dripstonelaw15.BellRash', WHERE WHAT IT READS IS OF BULK AT MOST 1048576: true; the input reads as it did. -/
def bellRashUptoRow : OpenClaim := { program := "ytljepnnnjfalcaagreat", sum := "d893a0667d4900bf364f4bb61f44e6667ee5f193637ed03cfa0571c6a6498860", func := "dripstone/dripstonelaw15.BellRash", spec := "bellRash", unfollowed := true, recurses := true, apart := false, narrowed := true }
def BellRashUptoSaid : Prop := bellRashUptoRow.holds Tryz.pinned (OpenSpec.upto bellRashSpec)

end Rows
end Go.Proofs.YtljepnnnjfalcaaGreat
