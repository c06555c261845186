/-
  No cell of these rows narrows 'for every input' (looked for: loops, veiled, ifaces, maps, wideKeys, modest, calm, conditions, laid).
  DERIVED. THE GIVEN ROWS OF THIS SEAT. 10 by the template 'for every input the law returns true; each argument reads behind the call as it read before'; 0 by the template 'total and deterministic' (their statements: YthjnmfemndfijaaGreatTotals.lean).
  GIVEN WITH THE SEED: the statements are not yours to turn. If you find one false, say at which input.
  Laid BY PROGRAM, IN A SANDBOX (cutbox-rows.mjs): the forced cells as the released guide's own fill.sh prints them over the translation 75ca7574c28cce36… (all of the seat's roots in one cut). By AI agents, Wed Nov 11 2026. No macro, syntax, notation, axiom, sorry.
-/
import Derived.Test.YthjnmfemndfijaaGreatChecked
import GoSem.Claim
import GoSem.ClaimJoined
import GoSem.ClaimMapViews
import Derived.JoinedTies
import Derived.KernelRfl
namespace Go.Proofs.YthjnmfemndfijaaGreat
/- THE CELL 'sum', in the pinned program and in every row, IS THE sha256 OF THE DUMP (.gsa) THAT YthjnmfemndfijaaGreatProg.lean LOADS. Nothing in Lean hashes anything: it is a label: what it is worth is what the hold of that sum in a sandbox is worth. -/
noncomputable def Tryz.pinned : Pinned := { name := "ythjnmfemndfijaagreat", sum := "75ca7574c28cce36373df11e8a11ae18fda684b7f4a847e3b09c907376c5aa9e", checked := Tryz.checked }
namespace Rows
def none {H : Type} : Left H := { results := [], args := [] }

/-- 'pylonlaw04.MatMatches': WHATEVER THE INPUT: true; the input reads as it did. -/
def matMatchesSpec : ChangeSpec := { name := "matMatches", fn := fun _ => fun
  | [d1, d2, d3, d4, d5, d6] => { results := [.lit (.bool true)], args := [d1, d2, d3, d4, d5, d6] }
  | _ => none }
def matMatchesRow : OpenClaim := { program := "ythjnmfemndfijaagreat", sum := "75ca7574c28cce36373df11e8a11ae18fda684b7f4a847e3b09c907376c5aa9e", func := "pylon/pylonlaw04.MatMatches", spec := "matMatches", unfollowed := true, recurses := true, apart := false }
def MatMatchesSaid : Prop := matMatchesRow.holds Tryz.pinned (OpenSpec.ofChange matMatchesSpec)

/-- ITS FALSE NEIGHBOUR: 'it returns false'. Refute it at one input. -/
def matMatchesWrong : ChangeSpec := { name := "matMatches", fn := fun _ => fun
  | [d1, d2, d3, d4, d5, d6] => { results := [.lit (.bool false)], args := [d1, d2, d3, d4, d5, d6] }
  | _ => none }
def MatMatchesWrongFalsely : Prop := matMatchesRow.holds Tryz.pinned (OpenSpec.ofChange matMatchesWrong)

/-- 'pylonlaw18.ShiftMatches': WHATEVER THE INPUT: true; the input reads as it did. -/
def shiftMatchesSpec : ChangeSpec := { name := "shiftMatches", fn := fun _ => fun
  | [d1, d2, d3, d4] => { results := [.lit (.bool true)], args := [d1, d2, d3, d4] }
  | _ => none }
def shiftMatchesRow : OpenClaim := { program := "ythjnmfemndfijaagreat", sum := "75ca7574c28cce36373df11e8a11ae18fda684b7f4a847e3b09c907376c5aa9e", func := "pylon/pylonlaw18.ShiftMatches", spec := "shiftMatches", unfollowed := true, recurses := true, apart := false }
def ShiftMatchesSaid : Prop := shiftMatchesRow.holds Tryz.pinned (OpenSpec.ofChange shiftMatchesSpec)

/-- ITS FALSE NEIGHBOUR: 'it returns false'. Refute it at one input. -/
def shiftMatchesWrong : ChangeSpec := { name := "shiftMatches", fn := fun _ => fun
  | [d1, d2, d3, d4] => { results := [.lit (.bool false)], args := [d1, d2, d3, d4] }
  | _ => none }
def ShiftMatchesWrongFalsely : Prop := shiftMatchesRow.holds Tryz.pinned (OpenSpec.ofChange shiftMatchesWrong)

/-- 'pylonlaw18.ShiftZero': WHATEVER THE INPUT: true; the input reads as it did. -/
def shiftZeroSpec : ChangeSpec := { name := "shiftZero", fn := fun _ => fun
  | [d1, d2] => { results := [.lit (.bool true)], args := [d1, d2] }
  | _ => none }
def shiftZeroRow : OpenClaim := { program := "ythjnmfemndfijaagreat", sum := "75ca7574c28cce36373df11e8a11ae18fda684b7f4a847e3b09c907376c5aa9e", func := "pylon/pylonlaw18.ShiftZero", spec := "shiftZero", unfollowed := true, recurses := true, apart := false }
def ShiftZeroSaid : Prop := shiftZeroRow.holds Tryz.pinned (OpenSpec.ofChange shiftZeroSpec)

/-- ITS FALSE NEIGHBOUR: 'it returns false'. Refute it at one input. -/
def shiftZeroWrong : ChangeSpec := { name := "shiftZero", fn := fun _ => fun
  | [d1, d2] => { results := [.lit (.bool false)], args := [d1, d2] }
  | _ => none }
def ShiftZeroWrongFalsely : Prop := shiftZeroRow.holds Tryz.pinned (OpenSpec.ofChange shiftZeroWrong)

/-- 'pylonlaw18.ShiftFlowsMatch': WHATEVER THE INPUT: true; the input reads as it did. -/
def shiftFlowsMatchSpec : ChangeSpec := { name := "shiftFlowsMatch", fn := fun _ => fun
  | [d1, d2, d3] => { results := [.lit (.bool true)], args := [d1, d2, d3] }
  | _ => none }
def shiftFlowsMatchRow : OpenClaim := { program := "ythjnmfemndfijaagreat", sum := "75ca7574c28cce36373df11e8a11ae18fda684b7f4a847e3b09c907376c5aa9e", func := "pylon/pylonlaw18.ShiftFlowsMatch", spec := "shiftFlowsMatch", unfollowed := true, recurses := true, apart := false }
def ShiftFlowsMatchSaid : Prop := shiftFlowsMatchRow.holds Tryz.pinned (OpenSpec.ofChange shiftFlowsMatchSpec)

/-- ITS FALSE NEIGHBOUR: 'it returns false'. Refute it at one input. -/
def shiftFlowsMatchWrong : ChangeSpec := { name := "shiftFlowsMatch", fn := fun _ => fun
  | [d1, d2, d3] => { results := [.lit (.bool false)], args := [d1, d2, d3] }
  | _ => none }
def ShiftFlowsMatchWrongFalsely : Prop := shiftFlowsMatchRow.holds Tryz.pinned (OpenSpec.ofChange shiftFlowsMatchWrong)

/-- 'pylonlaw18.ShiftExamples': WHATEVER THE INPUT: true; the input reads as it did. -/
def shiftExamplesSpec : ChangeSpec := { name := "shiftExamples", fn := fun _ => fun
  | [] => { results := [.lit (.bool true)], args := [] }
  | _ => none }
def shiftExamplesRow : OpenClaim := { program := "ythjnmfemndfijaagreat", sum := "75ca7574c28cce36373df11e8a11ae18fda684b7f4a847e3b09c907376c5aa9e", func := "pylon/pylonlaw18.ShiftExamples", spec := "shiftExamples", unfollowed := true, recurses := true, apart := false }
def ShiftExamplesSaid : Prop := shiftExamplesRow.holds Tryz.pinned (OpenSpec.ofChange shiftExamplesSpec)

/-- ITS FALSE NEIGHBOUR: 'it returns false'. Refute it at one input. -/
def shiftExamplesWrong : ChangeSpec := { name := "shiftExamples", fn := fun _ => fun
  | [] => { results := [.lit (.bool false)], args := [] }
  | _ => none }
def ShiftExamplesWrongFalsely : Prop := shiftExamplesRow.holds Tryz.pinned (OpenSpec.ofChange shiftExamplesWrong)

/-- 'pylonlaw18.ShiftBound': WHATEVER THE INPUT: true; the input reads as it did. -/
def shiftBoundSpec : ChangeSpec := { name := "shiftBound", fn := fun _ => fun
  | [d1, d2, d3, d4] => { results := [.lit (.bool true)], args := [d1, d2, d3, d4] }
  | _ => none }
def shiftBoundRow : OpenClaim := { program := "ythjnmfemndfijaagreat", sum := "75ca7574c28cce36373df11e8a11ae18fda684b7f4a847e3b09c907376c5aa9e", func := "pylon/pylonlaw18.ShiftBound", spec := "shiftBound", unfollowed := true, recurses := true, apart := false }
def ShiftBoundSaid : Prop := shiftBoundRow.holds Tryz.pinned (OpenSpec.ofChange shiftBoundSpec)

/-- ITS FALSE NEIGHBOUR: 'it returns false'. Refute it at one input. -/
def shiftBoundWrong : ChangeSpec := { name := "shiftBound", fn := fun _ => fun
  | [d1, d2, d3, d4] => { results := [.lit (.bool false)], args := [d1, d2, d3, d4] }
  | _ => none }
def ShiftBoundWrongFalsely : Prop := shiftBoundRow.holds Tryz.pinned (OpenSpec.ofChange shiftBoundWrong)

/-- 'pylonlaw18.ShiftBetween': WHATEVER THE INPUT: true; the input reads as it did. -/
def shiftBetweenSpec : ChangeSpec := { name := "shiftBetween", fn := fun _ => fun
  | [d1, d2, d3, d4, d5] => { results := [.lit (.bool true)], args := [d1, d2, d3, d4, d5] }
  | _ => none }
def shiftBetweenRow : OpenClaim := { program := "ythjnmfemndfijaagreat", sum := "75ca7574c28cce36373df11e8a11ae18fda684b7f4a847e3b09c907376c5aa9e", func := "pylon/pylonlaw18.ShiftBetween", spec := "shiftBetween", unfollowed := true, recurses := true, apart := false }
def ShiftBetweenSaid : Prop := shiftBetweenRow.holds Tryz.pinned (OpenSpec.ofChange shiftBetweenSpec)

/-- ITS FALSE NEIGHBOUR: 'it returns false'. Refute it at one input. -/
def shiftBetweenWrong : ChangeSpec := { name := "shiftBetween", fn := fun _ => fun
  | [d1, d2, d3, d4, d5] => { results := [.lit (.bool false)], args := [d1, d2, d3, d4, d5] }
  | _ => none }
def ShiftBetweenWrongFalsely : Prop := shiftBetweenRow.holds Tryz.pinned (OpenSpec.ofChange shiftBetweenWrong)

/-- 'pylonlaw18.ShiftOutflow': WHATEVER THE INPUT: true; the input reads as it did. -/
def shiftOutflowSpec : ChangeSpec := { name := "shiftOutflow", fn := fun _ => fun
  | [d1, d2] => { results := [.lit (.bool true)], args := [d1, d2] }
  | _ => none }
def shiftOutflowRow : OpenClaim := { program := "ythjnmfemndfijaagreat", sum := "75ca7574c28cce36373df11e8a11ae18fda684b7f4a847e3b09c907376c5aa9e", func := "pylon/pylonlaw18.ShiftOutflow", spec := "shiftOutflow", unfollowed := true, recurses := true, apart := false }
def ShiftOutflowSaid : Prop := shiftOutflowRow.holds Tryz.pinned (OpenSpec.ofChange shiftOutflowSpec)

/-- ITS FALSE NEIGHBOUR: 'it returns false'. Refute it at one input. -/
def shiftOutflowWrong : ChangeSpec := { name := "shiftOutflow", fn := fun _ => fun
  | [d1, d2] => { results := [.lit (.bool false)], args := [d1, d2] }
  | _ => none }
def ShiftOutflowWrongFalsely : Prop := shiftOutflowRow.holds Tryz.pinned (OpenSpec.ofChange shiftOutflowWrong)

/-- 'pylonlaw18.ShiftFlows': WHATEVER THE INPUT: true; the input reads as it did. -/
def shiftFlowsSpec : ChangeSpec := { name := "shiftFlows", fn := fun _ => fun
  | [d1, d2, d3] => { results := [.lit (.bool true)], args := [d1, d2, d3] }
  | _ => none }
def shiftFlowsRow : OpenClaim := { program := "ythjnmfemndfijaagreat", sum := "75ca7574c28cce36373df11e8a11ae18fda684b7f4a847e3b09c907376c5aa9e", func := "pylon/pylonlaw18.ShiftFlows", spec := "shiftFlows", unfollowed := true, recurses := true, apart := false }
def ShiftFlowsSaid : Prop := shiftFlowsRow.holds Tryz.pinned (OpenSpec.ofChange shiftFlowsSpec)

/-- ITS FALSE NEIGHBOUR: 'it returns false'. Refute it at one input. -/
def shiftFlowsWrong : ChangeSpec := { name := "shiftFlows", fn := fun _ => fun
  | [d1, d2, d3] => { results := [.lit (.bool false)], args := [d1, d2, d3] }
  | _ => none }
def ShiftFlowsWrongFalsely : Prop := shiftFlowsRow.holds Tryz.pinned (OpenSpec.ofChange shiftFlowsWrong)

/-- 'pylonlaw18.ShiftTree': WHATEVER THE INPUT: true; the input reads as it did. -/
def shiftTreeSpec : ChangeSpec := { name := "shiftTree", fn := fun _ => fun
  | [d1, d2] => { results := [.lit (.bool true)], args := [d1, d2] }
  | _ => none }
def shiftTreeRow : OpenClaim := { program := "ythjnmfemndfijaagreat", sum := "75ca7574c28cce36373df11e8a11ae18fda684b7f4a847e3b09c907376c5aa9e", func := "pylon/pylonlaw18.ShiftTree", spec := "shiftTree", unfollowed := true, recurses := true, apart := false }
def ShiftTreeSaid : Prop := shiftTreeRow.holds Tryz.pinned (OpenSpec.ofChange shiftTreeSpec)

/-- ITS FALSE NEIGHBOUR: 'it returns false'. Refute it at one input. -/
def shiftTreeWrong : ChangeSpec := { name := "shiftTree", fn := fun _ => fun
  | [d1, d2] => { results := [.lit (.bool false)], args := [d1, d2] }
  | _ => none }
def ShiftTreeWrongFalsely : Prop := shiftTreeRow.holds Tryz.pinned (OpenSpec.ofChange shiftTreeWrong)

/- THE SECOND FORM. 'bulk': how many values and letters a reading holds, each counted each time it is reached (what is shared counts as often as it is met; a slice's spare places count too). A statement '..UptoSaid' is the law's where the arguments, and the package variables that the reading takes, are together of bulk at most 1048576: NARROWER than '..Said'. Prove '..Said' where nothing that the law and all that it calls make is longer than what came in: it says more and counts as full. Else prove '..UptoSaid'. A law counts once. -/
mutual
def uptoBulk {H : Type} : DataW H → Nat
  | .lit (.string bytes) => bytes.length + 1
  | .lit _ => 1
  | .nil => 1
  | .ptr d => uptoBulk d + 1
  | .slice elems spare => uptoBulkAll elems + uptoBulkAll spare + 1
  | .agg parts => uptoBulkAll parts + 1
  | .iface _ d => uptoBulk d + 1
  | .map entries => uptoBulkEntries entries + 1
  | .held _ => 1
def uptoBulkAll {H : Type} : List (DataW H) → Nat
  | [] => 0
  | d :: r => uptoBulk d + uptoBulkAll r
def uptoBulkEntries {H : Type} : List (Lit × DataW H) → Nat
  | [] => 0
  | x :: r => uptoBulkEntry x + uptoBulkEntries r
def uptoBulkEntry {H : Type} : Lit × DataW H → Nat
  | (.string bytes, d) => bytes.length + uptoBulk d + 1
  | (_, d) => uptoBulk d + 1
 end
def uptoSmall : (H : Type) → List (DataW H) → Bool := fun _ ds => decide (uptoBulkAll ds ≤ 1048576)
def OpenSpec.upto (s : _root_.Go.ChangeSpec) : _root_.Go.OpenSpec := { _root_.Go.OpenSpec.ofChange s with cond := some uptoSmall }

/-- 'pylonlaw04.MatMatches', WHERE WHAT IT READS IS OF BULK AT MOST 1048576: true; the input reads as it did. -/
def matMatchesUptoRow : OpenClaim := { program := "ythjnmfemndfijaagreat", sum := "75ca7574c28cce36373df11e8a11ae18fda684b7f4a847e3b09c907376c5aa9e", func := "pylon/pylonlaw04.MatMatches", spec := "matMatches", unfollowed := true, recurses := true, apart := false, narrowed := true }
def MatMatchesUptoSaid : Prop := matMatchesUptoRow.holds Tryz.pinned (OpenSpec.upto matMatchesSpec)

/-- 'pylonlaw18.ShiftMatches', WHERE WHAT IT READS IS OF BULK AT MOST 1048576: true; the input reads as it did. -/
def shiftMatchesUptoRow : OpenClaim := { program := "ythjnmfemndfijaagreat", sum := "75ca7574c28cce36373df11e8a11ae18fda684b7f4a847e3b09c907376c5aa9e", func := "pylon/pylonlaw18.ShiftMatches", spec := "shiftMatches", unfollowed := true, recurses := true, apart := false, narrowed := true }
def ShiftMatchesUptoSaid : Prop := shiftMatchesUptoRow.holds Tryz.pinned (OpenSpec.upto shiftMatchesSpec)

/-- 'pylonlaw18.ShiftZero', WHERE WHAT IT READS IS OF BULK AT MOST 1048576: true; the input reads as it did. -/
def shiftZeroUptoRow : OpenClaim := { program := "ythjnmfemndfijaagreat", sum := "75ca7574c28cce36373df11e8a11ae18fda684b7f4a847e3b09c907376c5aa9e", func := "pylon/pylonlaw18.ShiftZero", spec := "shiftZero", unfollowed := true, recurses := true, apart := false, narrowed := true }
def ShiftZeroUptoSaid : Prop := shiftZeroUptoRow.holds Tryz.pinned (OpenSpec.upto shiftZeroSpec)

/-- 'pylonlaw18.ShiftFlowsMatch', WHERE WHAT IT READS IS OF BULK AT MOST 1048576: true; the input reads as it did. -/
def shiftFlowsMatchUptoRow : OpenClaim := { program := "ythjnmfemndfijaagreat", sum := "75ca7574c28cce36373df11e8a11ae18fda684b7f4a847e3b09c907376c5aa9e", func := "pylon/pylonlaw18.ShiftFlowsMatch", spec := "shiftFlowsMatch", unfollowed := true, recurses := true, apart := false, narrowed := true }
def ShiftFlowsMatchUptoSaid : Prop := shiftFlowsMatchUptoRow.holds Tryz.pinned (OpenSpec.upto shiftFlowsMatchSpec)

/-- 'pylonlaw18.ShiftExamples', WHERE WHAT IT READS IS OF BULK AT MOST 1048576: true; the input reads as it did. -/
def shiftExamplesUptoRow : OpenClaim := { program := "ythjnmfemndfijaagreat", sum := "75ca7574c28cce36373df11e8a11ae18fda684b7f4a847e3b09c907376c5aa9e", func := "pylon/pylonlaw18.ShiftExamples", spec := "shiftExamples", unfollowed := true, recurses := true, apart := false, narrowed := true }
def ShiftExamplesUptoSaid : Prop := shiftExamplesUptoRow.holds Tryz.pinned (OpenSpec.upto shiftExamplesSpec)

/-- 'pylonlaw18.ShiftBound', WHERE WHAT IT READS IS OF BULK AT MOST 1048576: true; the input reads as it did. -/
def shiftBoundUptoRow : OpenClaim := { program := "ythjnmfemndfijaagreat", sum := "75ca7574c28cce36373df11e8a11ae18fda684b7f4a847e3b09c907376c5aa9e", func := "pylon/pylonlaw18.ShiftBound", spec := "shiftBound", unfollowed := true, recurses := true, apart := false, narrowed := true }
def ShiftBoundUptoSaid : Prop := shiftBoundUptoRow.holds Tryz.pinned (OpenSpec.upto shiftBoundSpec)

/-- 'pylonlaw18.ShiftBetween', WHERE WHAT IT READS IS OF BULK AT MOST 1048576: true; the input reads as it did. -/
def shiftBetweenUptoRow : OpenClaim := { program := "ythjnmfemndfijaagreat", sum := "75ca7574c28cce36373df11e8a11ae18fda684b7f4a847e3b09c907376c5aa9e", func := "pylon/pylonlaw18.ShiftBetween", spec := "shiftBetween", unfollowed := true, recurses := true, apart := false, narrowed := true }
def ShiftBetweenUptoSaid : Prop := shiftBetweenUptoRow.holds Tryz.pinned (OpenSpec.upto shiftBetweenSpec)

/-- 'pylonlaw18.ShiftOutflow', WHERE WHAT IT READS IS OF BULK AT MOST 1048576: true; the input reads as it did. -/
def shiftOutflowUptoRow : OpenClaim := { program := "ythjnmfemndfijaagreat", sum := "75ca7574c28cce36373df11e8a11ae18fda684b7f4a847e3b09c907376c5aa9e", func := "pylon/pylonlaw18.ShiftOutflow", spec := "shiftOutflow", unfollowed := true, recurses := true, apart := false, narrowed := true }
def ShiftOutflowUptoSaid : Prop := shiftOutflowUptoRow.holds Tryz.pinned (OpenSpec.upto shiftOutflowSpec)

/-- 'pylonlaw18.ShiftFlows', WHERE WHAT IT READS IS OF BULK AT MOST 1048576: true; the input reads as it did. -/
def shiftFlowsUptoRow : OpenClaim := { program := "ythjnmfemndfijaagreat", sum := "75ca7574c28cce36373df11e8a11ae18fda684b7f4a847e3b09c907376c5aa9e", func := "pylon/pylonlaw18.ShiftFlows", spec := "shiftFlows", unfollowed := true, recurses := true, apart := false, narrowed := true }
def ShiftFlowsUptoSaid : Prop := shiftFlowsUptoRow.holds Tryz.pinned (OpenSpec.upto shiftFlowsSpec)

/-- 'pylonlaw18.ShiftTree', WHERE WHAT IT READS IS OF BULK AT MOST 1048576: true; the input reads as it did. -/
def shiftTreeUptoRow : OpenClaim := { program := "ythjnmfemndfijaagreat", sum := "75ca7574c28cce36373df11e8a11ae18fda684b7f4a847e3b09c907376c5aa9e", func := "pylon/pylonlaw18.ShiftTree", spec := "shiftTree", unfollowed := true, recurses := true, apart := false, narrowed := true }
def ShiftTreeUptoSaid : Prop := shiftTreeUptoRow.holds Tryz.pinned (OpenSpec.upto shiftTreeSpec)

end Rows
end Go.Proofs.YthjnmfemndfijaaGreat
