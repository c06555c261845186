/-
  No cell of these rows narrows 'for every input' (looked for: loops, veiled, ifaces, maps, wideKeys, modest, calm, conditions, laid).
  DERIVED. THE GIVEN ROWS OF THIS SEAT. 12 by the template 'for every input the law returns true; each argument reads behind the call as it read before'; 0 by the template 'total and deterministic' (their statements: YteghbhdniimjbaaGreatTotals.lean).
  GIVEN WITH THE SEED: the statements are not yours to turn. If you find one false, say at which input.
  Laid BY PROGRAM, IN A SANDBOX (cutbox-rows.mjs): the forced cells as the released guide's own fill.sh prints them over the translation 1d0ad5a760fe0cdd… (all of the seat's roots in one cut). By AI agents, Wed Nov 11 2026. No macro, syntax, notation, axiom, sorry.
-/
import Derived.Test.YteghbhdniimjbaaGreatChecked
import GoSem.Claim
import GoSem.ClaimJoined
import GoSem.ClaimMapViews
import Derived.JoinedTies
import Derived.KernelRfl
namespace Go.Proofs.YteghbhdniimjbaaGreat
/- THE CELL 'sum', in the pinned program and in every row, IS THE sha256 OF THE DUMP (.gsa) THAT YteghbhdniimjbaaGreatProg.lean LOADS. Nothing in Lean hashes anything: it is a label: what it is worth is what the hold of that sum in a sandbox is worth. -/
noncomputable def Tryz.pinned : Pinned := { name := "yteghbhdniimjbaagreat", sum := "1d0ad5a760fe0cdd7b488c576c7422bbb262c44cb671bc4ef0d97c3e54b9fd8b", checked := Tryz.checked }
namespace Rows
def none {H : Type} : Left H := { results := [], args := [] }

/-- 'pylonlaw04.MatMatches': WHATEVER THE INPUT: true; the input reads as it did. -/
def matMatchesSpec : ChangeSpec := { name := "matMatches", fn := fun _ => fun
  | [d1, d2, d3, d4, d5, d6] => { results := [.lit (.bool true)], args := [d1, d2, d3, d4, d5, d6] }
  | _ => none }
def matMatchesRow : OpenClaim := { program := "yteghbhdniimjbaagreat", sum := "1d0ad5a760fe0cdd7b488c576c7422bbb262c44cb671bc4ef0d97c3e54b9fd8b", func := "pylon/pylonlaw04.MatMatches", spec := "matMatches", unfollowed := true, recurses := true, apart := false }
def MatMatchesSaid : Prop := matMatchesRow.holds Tryz.pinned (OpenSpec.ofChange matMatchesSpec)

/-- ITS FALSE NEIGHBOUR: 'it returns false'. Refute it at one input. -/
def matMatchesWrong : ChangeSpec := { name := "matMatches", fn := fun _ => fun
  | [d1, d2, d3, d4, d5, d6] => { results := [.lit (.bool false)], args := [d1, d2, d3, d4, d5, d6] }
  | _ => none }
def MatMatchesWrongFalsely : Prop := matMatchesRow.holds Tryz.pinned (OpenSpec.ofChange matMatchesWrong)

/-- 'pylonlaw17.FlowUnique': WHATEVER THE INPUT: true; the input reads as it did. -/
def flowUniqueSpec : ChangeSpec := { name := "flowUnique", fn := fun _ => fun
  | [d1, d2, d3] => { results := [.lit (.bool true)], args := [d1, d2, d3] }
  | _ => none }
def flowUniqueRow : OpenClaim := { program := "yteghbhdniimjbaagreat", sum := "1d0ad5a760fe0cdd7b488c576c7422bbb262c44cb671bc4ef0d97c3e54b9fd8b", func := "pylon/pylonlaw17.FlowUnique", spec := "flowUnique", unfollowed := true, recurses := true, apart := false }
def FlowUniqueSaid : Prop := flowUniqueRow.holds Tryz.pinned (OpenSpec.ofChange flowUniqueSpec)

/-- ITS FALSE NEIGHBOUR: 'it returns false'. Refute it at one input. -/
def flowUniqueWrong : ChangeSpec := { name := "flowUnique", fn := fun _ => fun
  | [d1, d2, d3] => { results := [.lit (.bool false)], args := [d1, d2, d3] }
  | _ => none }
def FlowUniqueWrongFalsely : Prop := flowUniqueRow.holds Tryz.pinned (OpenSpec.ofChange flowUniqueWrong)

/-- 'pylonlaw17.FlowLinear': WHATEVER THE INPUT: true; the input reads as it did. -/
def flowLinearSpec : ChangeSpec := { name := "flowLinear", fn := fun _ => fun
  | [d1, d2, d3, d4, d5] => { results := [.lit (.bool true)], args := [d1, d2, d3, d4, d5] }
  | _ => none }
def flowLinearRow : OpenClaim := { program := "yteghbhdniimjbaagreat", sum := "1d0ad5a760fe0cdd7b488c576c7422bbb262c44cb671bc4ef0d97c3e54b9fd8b", func := "pylon/pylonlaw17.FlowLinear", spec := "flowLinear", unfollowed := true, recurses := true, apart := false }
def FlowLinearSaid : Prop := flowLinearRow.holds Tryz.pinned (OpenSpec.ofChange flowLinearSpec)

/-- ITS FALSE NEIGHBOUR: 'it returns false'. Refute it at one input. -/
def flowLinearWrong : ChangeSpec := { name := "flowLinear", fn := fun _ => fun
  | [d1, d2, d3, d4, d5] => { results := [.lit (.bool false)], args := [d1, d2, d3, d4, d5] }
  | _ => none }
def FlowLinearWrongFalsely : Prop := flowLinearRow.holds Tryz.pinned (OpenSpec.ofChange flowLinearWrong)

/-- 'pylonlaw17.FlowScaling': WHATEVER THE INPUT: true; the input reads as it did. -/
def flowScalingSpec : ChangeSpec := { name := "flowScaling", fn := fun _ => fun
  | [d1, d2, d3, d4] => { results := [.lit (.bool true)], args := [d1, d2, d3, d4] }
  | _ => none }
def flowScalingRow : OpenClaim := { program := "yteghbhdniimjbaagreat", sum := "1d0ad5a760fe0cdd7b488c576c7422bbb262c44cb671bc4ef0d97c3e54b9fd8b", func := "pylon/pylonlaw17.FlowScaling", spec := "flowScaling", unfollowed := true, recurses := true, apart := false }
def FlowScalingSaid : Prop := flowScalingRow.holds Tryz.pinned (OpenSpec.ofChange flowScalingSpec)

/-- ITS FALSE NEIGHBOUR: 'it returns false'. Refute it at one input. -/
def flowScalingWrong : ChangeSpec := { name := "flowScaling", fn := fun _ => fun
  | [d1, d2, d3, d4] => { results := [.lit (.bool false)], args := [d1, d2, d3, d4] }
  | _ => none }
def FlowScalingWrongFalsely : Prop := flowScalingRow.holds Tryz.pinned (OpenSpec.ofChange flowScalingWrong)

/-- 'pylonlaw17.FlowBound': WHATEVER THE INPUT: true; the input reads as it did. -/
def flowBoundSpec : ChangeSpec := { name := "flowBound", fn := fun _ => fun
  | [d1, d2, d3] => { results := [.lit (.bool true)], args := [d1, d2, d3] }
  | _ => none }
def flowBoundRow : OpenClaim := { program := "yteghbhdniimjbaagreat", sum := "1d0ad5a760fe0cdd7b488c576c7422bbb262c44cb671bc4ef0d97c3e54b9fd8b", func := "pylon/pylonlaw17.FlowBound", spec := "flowBound", unfollowed := true, recurses := true, apart := false }
def FlowBoundSaid : Prop := flowBoundRow.holds Tryz.pinned (OpenSpec.ofChange flowBoundSpec)

/-- ITS FALSE NEIGHBOUR: 'it returns false'. Refute it at one input. -/
def flowBoundWrong : ChangeSpec := { name := "flowBound", fn := fun _ => fun
  | [d1, d2, d3] => { results := [.lit (.bool false)], args := [d1, d2, d3] }
  | _ => none }
def FlowBoundWrongFalsely : Prop := flowBoundRow.holds Tryz.pinned (OpenSpec.ofChange flowBoundWrong)

/-- 'pylonlaw17.FlowReverse': WHATEVER THE INPUT: true; the input reads as it did. -/
def flowReverseSpec : ChangeSpec := { name := "flowReverse", fn := fun _ => fun
  | [d1, d2, d3, d4] => { results := [.lit (.bool true)], args := [d1, d2, d3, d4] }
  | _ => none }
def flowReverseRow : OpenClaim := { program := "yteghbhdniimjbaagreat", sum := "1d0ad5a760fe0cdd7b488c576c7422bbb262c44cb671bc4ef0d97c3e54b9fd8b", func := "pylon/pylonlaw17.FlowReverse", spec := "flowReverse", unfollowed := true, recurses := true, apart := false }
def FlowReverseSaid : Prop := flowReverseRow.holds Tryz.pinned (OpenSpec.ofChange flowReverseSpec)

/-- ITS FALSE NEIGHBOUR: 'it returns false'. Refute it at one input. -/
def flowReverseWrong : ChangeSpec := { name := "flowReverse", fn := fun _ => fun
  | [d1, d2, d3, d4] => { results := [.lit (.bool false)], args := [d1, d2, d3, d4] }
  | _ => none }
def FlowReverseWrongFalsely : Prop := flowReverseRow.holds Tryz.pinned (OpenSpec.ofChange flowReverseWrong)

/-- 'pylonlaw38.RightFewer': WHATEVER THE INPUT: true; the input reads as it did. -/
def rightFewerSpec : ChangeSpec := { name := "rightFewer", fn := fun _ => fun
  | [d1, d2, d3, d4, d5] => { results := [.lit (.bool true)], args := [d1, d2, d3, d4, d5] }
  | _ => none }
def rightFewerRow : OpenClaim := { program := "yteghbhdniimjbaagreat", sum := "1d0ad5a760fe0cdd7b488c576c7422bbb262c44cb671bc4ef0d97c3e54b9fd8b", func := "pylon/pylonlaw38.RightFewer", spec := "rightFewer", unfollowed := true, recurses := true, apart := false }
def RightFewerSaid : Prop := rightFewerRow.holds Tryz.pinned (OpenSpec.ofChange rightFewerSpec)

/-- ITS FALSE NEIGHBOUR: 'it returns false'. Refute it at one input. -/
def rightFewerWrong : ChangeSpec := { name := "rightFewer", fn := fun _ => fun
  | [d1, d2, d3, d4, d5] => { results := [.lit (.bool false)], args := [d1, d2, d3, d4, d5] }
  | _ => none }
def RightFewerWrongFalsely : Prop := rightFewerRow.holds Tryz.pinned (OpenSpec.ofChange rightFewerWrong)

/-- 'pylonlaw38.RightSplit': WHATEVER THE INPUT: true; the input reads as it did. -/
def rightSplitSpec : ChangeSpec := { name := "rightSplit", fn := fun _ => fun
  | [d1, d2, d3, d4, d5, d6] => { results := [.lit (.bool true)], args := [d1, d2, d3, d4, d5, d6] }
  | _ => none }
def rightSplitRow : OpenClaim := { program := "yteghbhdniimjbaagreat", sum := "1d0ad5a760fe0cdd7b488c576c7422bbb262c44cb671bc4ef0d97c3e54b9fd8b", func := "pylon/pylonlaw38.RightSplit", spec := "rightSplit", unfollowed := true, recurses := true, apart := false }
def RightSplitSaid : Prop := rightSplitRow.holds Tryz.pinned (OpenSpec.ofChange rightSplitSpec)

/-- ITS FALSE NEIGHBOUR: 'it returns false'. Refute it at one input. -/
def rightSplitWrong : ChangeSpec := { name := "rightSplit", fn := fun _ => fun
  | [d1, d2, d3, d4, d5, d6] => { results := [.lit (.bool false)], args := [d1, d2, d3, d4, d5, d6] }
  | _ => none }
def RightSplitWrongFalsely : Prop := rightSplitRow.holds Tryz.pinned (OpenSpec.ofChange rightSplitWrong)

/-- 'pylonlaw38.RightTotal': WHATEVER THE INPUT: true; the input reads as it did. -/
def rightTotalSpec : ChangeSpec := { name := "rightTotal", fn := fun _ => fun
  | [d1, d2] => { results := [.lit (.bool true)], args := [d1, d2] }
  | _ => none }
def rightTotalRow : OpenClaim := { program := "yteghbhdniimjbaagreat", sum := "1d0ad5a760fe0cdd7b488c576c7422bbb262c44cb671bc4ef0d97c3e54b9fd8b", func := "pylon/pylonlaw38.RightTotal", spec := "rightTotal", unfollowed := true, recurses := true, apart := false }
def RightTotalSaid : Prop := rightTotalRow.holds Tryz.pinned (OpenSpec.ofChange rightTotalSpec)

/-- ITS FALSE NEIGHBOUR: 'it returns false'. Refute it at one input. -/
def rightTotalWrong : ChangeSpec := { name := "rightTotal", fn := fun _ => fun
  | [d1, d2] => { results := [.lit (.bool false)], args := [d1, d2] }
  | _ => none }
def RightTotalWrongFalsely : Prop := rightTotalRow.holds Tryz.pinned (OpenSpec.ofChange rightTotalWrong)

/-- 'pylonlaw17.FlowConservation': WHATEVER THE INPUT: true; the input reads as it did. -/
def flowConservationSpec : ChangeSpec := { name := "flowConservation", fn := fun _ => fun
  | [d1, d2, d3] => { results := [.lit (.bool true)], args := [d1, d2, d3] }
  | _ => none }
def flowConservationRow : OpenClaim := { program := "yteghbhdniimjbaagreat", sum := "1d0ad5a760fe0cdd7b488c576c7422bbb262c44cb671bc4ef0d97c3e54b9fd8b", func := "pylon/pylonlaw17.FlowConservation", spec := "flowConservation", unfollowed := true, recurses := true, apart := false }
def FlowConservationSaid : Prop := flowConservationRow.holds Tryz.pinned (OpenSpec.ofChange flowConservationSpec)

/-- ITS FALSE NEIGHBOUR: 'it returns false'. Refute it at one input. -/
def flowConservationWrong : ChangeSpec := { name := "flowConservation", fn := fun _ => fun
  | [d1, d2, d3] => { results := [.lit (.bool false)], args := [d1, d2, d3] }
  | _ => none }
def FlowConservationWrongFalsely : Prop := flowConservationRow.holds Tryz.pinned (OpenSpec.ofChange flowConservationWrong)

/-- 'pylonlaw38.RightRevenueAdequacy': WHATEVER THE INPUT: true; the input reads as it did. -/
def rightRevenueAdequacySpec : ChangeSpec := { name := "rightRevenueAdequacy", fn := fun _ => fun
  | [d1, d2, d3, d4, d5] => { results := [.lit (.bool true)], args := [d1, d2, d3, d4, d5] }
  | _ => none }
def rightRevenueAdequacyRow : OpenClaim := { program := "yteghbhdniimjbaagreat", sum := "1d0ad5a760fe0cdd7b488c576c7422bbb262c44cb671bc4ef0d97c3e54b9fd8b", func := "pylon/pylonlaw38.RightRevenueAdequacy", spec := "rightRevenueAdequacy", unfollowed := true, recurses := true, apart := false }
def RightRevenueAdequacySaid : Prop := rightRevenueAdequacyRow.holds Tryz.pinned (OpenSpec.ofChange rightRevenueAdequacySpec)

/-- ITS FALSE NEIGHBOUR: 'it returns false'. Refute it at one input. -/
def rightRevenueAdequacyWrong : ChangeSpec := { name := "rightRevenueAdequacy", fn := fun _ => fun
  | [d1, d2, d3, d4, d5] => { results := [.lit (.bool false)], args := [d1, d2, d3, d4, d5] }
  | _ => none }
def RightRevenueAdequacyWrongFalsely : Prop := rightRevenueAdequacyRow.holds Tryz.pinned (OpenSpec.ofChange rightRevenueAdequacyWrong)

/-- 'pylonlaw18.ShiftFlows': WHATEVER THE INPUT: true; the input reads as it did. -/
def shiftFlowsSpec : ChangeSpec := { name := "shiftFlows", fn := fun _ => fun
  | [d1, d2, d3] => { results := [.lit (.bool true)], args := [d1, d2, d3] }
  | _ => none }
def shiftFlowsRow : OpenClaim := { program := "yteghbhdniimjbaagreat", sum := "1d0ad5a760fe0cdd7b488c576c7422bbb262c44cb671bc4ef0d97c3e54b9fd8b", func := "pylon/pylonlaw18.ShiftFlows", spec := "shiftFlows", unfollowed := true, recurses := true, apart := false }
def ShiftFlowsSaid : Prop := shiftFlowsRow.holds Tryz.pinned (OpenSpec.ofChange shiftFlowsSpec)

/-- ITS FALSE NEIGHBOUR: 'it returns false'. Refute it at one input. -/
def shiftFlowsWrong : ChangeSpec := { name := "shiftFlows", fn := fun _ => fun
  | [d1, d2, d3] => { results := [.lit (.bool false)], args := [d1, d2, d3] }
  | _ => none }
def ShiftFlowsWrongFalsely : Prop := shiftFlowsRow.holds Tryz.pinned (OpenSpec.ofChange shiftFlowsWrong)

/- THE SECOND FORM. 'bulk': how many values and letters a reading holds, each counted each time it is reached (what is shared counts as often as it is met; a slice's spare places count too). A statement '..UptoSaid' is the law's where the arguments, and the package variables that the reading takes, are together of bulk at most 1048576: NARROWER than '..Said'. Prove '..Said' where nothing that the law and all that it calls make is longer than what came in: it says more and counts as full. Else prove '..UptoSaid'. A law counts once. -/
mutual
def uptoBulk {H : Type} : DataW H → Nat
  | .lit (.string bytes) => bytes.length + 1
  | .lit _ => 1
  | .nil => 1
  | .ptr d => uptoBulk d + 1
  | .slice elems spare => uptoBulkAll elems + uptoBulkAll spare + 1
  | .agg parts => uptoBulkAll parts + 1
  | .iface _ d => uptoBulk d + 1
  | .map entries => uptoBulkEntries entries + 1
  | .held _ => 1
def uptoBulkAll {H : Type} : List (DataW H) → Nat
  | [] => 0
  | d :: r => uptoBulk d + uptoBulkAll r
def uptoBulkEntries {H : Type} : List (Lit × DataW H) → Nat
  | [] => 0
  | x :: r => uptoBulkEntry x + uptoBulkEntries r
def uptoBulkEntry {H : Type} : Lit × DataW H → Nat
  | (.string bytes, d) => bytes.length + uptoBulk d + 1
  | (_, d) => uptoBulk d + 1
 end
def uptoSmall : (H : Type) → List (DataW H) → Bool := fun _ ds => decide (uptoBulkAll ds ≤ 1048576)
def OpenSpec.upto (s : _root_.Go.ChangeSpec) : _root_.Go.OpenSpec := { _root_.Go.OpenSpec.ofChange s with cond := some uptoSmall }

/-- 'pylonlaw04.MatMatches', WHERE WHAT IT READS IS OF BULK AT MOST 1048576: true; the input reads as it did. -/
def matMatchesUptoRow : OpenClaim := { program := "yteghbhdniimjbaagreat", sum := "1d0ad5a760fe0cdd7b488c576c7422bbb262c44cb671bc4ef0d97c3e54b9fd8b", func := "pylon/pylonlaw04.MatMatches", spec := "matMatches", unfollowed := true, recurses := true, apart := false, narrowed := true }
def MatMatchesUptoSaid : Prop := matMatchesUptoRow.holds Tryz.pinned (OpenSpec.upto matMatchesSpec)

/-- 'pylonlaw17.FlowUnique', WHERE WHAT IT READS IS OF BULK AT MOST 1048576: true; the input reads as it did. -/
def flowUniqueUptoRow : OpenClaim := { program := "yteghbhdniimjbaagreat", sum := "1d0ad5a760fe0cdd7b488c576c7422bbb262c44cb671bc4ef0d97c3e54b9fd8b", func := "pylon/pylonlaw17.FlowUnique", spec := "flowUnique", unfollowed := true, recurses := true, apart := false, narrowed := true }
def FlowUniqueUptoSaid : Prop := flowUniqueUptoRow.holds Tryz.pinned (OpenSpec.upto flowUniqueSpec)

/-- 'pylonlaw17.FlowLinear', WHERE WHAT IT READS IS OF BULK AT MOST 1048576: true; the input reads as it did. -/
def flowLinearUptoRow : OpenClaim := { program := "yteghbhdniimjbaagreat", sum := "1d0ad5a760fe0cdd7b488c576c7422bbb262c44cb671bc4ef0d97c3e54b9fd8b", func := "pylon/pylonlaw17.FlowLinear", spec := "flowLinear", unfollowed := true, recurses := true, apart := false, narrowed := true }
def FlowLinearUptoSaid : Prop := flowLinearUptoRow.holds Tryz.pinned (OpenSpec.upto flowLinearSpec)

/-- 'pylonlaw17.FlowScaling', WHERE WHAT IT READS IS OF BULK AT MOST 1048576: true; the input reads as it did. -/
def flowScalingUptoRow : OpenClaim := { program := "yteghbhdniimjbaagreat", sum := "1d0ad5a760fe0cdd7b488c576c7422bbb262c44cb671bc4ef0d97c3e54b9fd8b", func := "pylon/pylonlaw17.FlowScaling", spec := "flowScaling", unfollowed := true, recurses := true, apart := false, narrowed := true }
def FlowScalingUptoSaid : Prop := flowScalingUptoRow.holds Tryz.pinned (OpenSpec.upto flowScalingSpec)

/-- 'pylonlaw17.FlowBound', WHERE WHAT IT READS IS OF BULK AT MOST 1048576: true; the input reads as it did. -/
def flowBoundUptoRow : OpenClaim := { program := "yteghbhdniimjbaagreat", sum := "1d0ad5a760fe0cdd7b488c576c7422bbb262c44cb671bc4ef0d97c3e54b9fd8b", func := "pylon/pylonlaw17.FlowBound", spec := "flowBound", unfollowed := true, recurses := true, apart := false, narrowed := true }
def FlowBoundUptoSaid : Prop := flowBoundUptoRow.holds Tryz.pinned (OpenSpec.upto flowBoundSpec)

/-- 'pylonlaw17.FlowReverse', WHERE WHAT IT READS IS OF BULK AT MOST 1048576: true; the input reads as it did. -/
def flowReverseUptoRow : OpenClaim := { program := "yteghbhdniimjbaagreat", sum := "1d0ad5a760fe0cdd7b488c576c7422bbb262c44cb671bc4ef0d97c3e54b9fd8b", func := "pylon/pylonlaw17.FlowReverse", spec := "flowReverse", unfollowed := true, recurses := true, apart := false, narrowed := true }
def FlowReverseUptoSaid : Prop := flowReverseUptoRow.holds Tryz.pinned (OpenSpec.upto flowReverseSpec)

/-- 'pylonlaw38.RightFewer', WHERE WHAT IT READS IS OF BULK AT MOST 1048576: true; the input reads as it did. -/
def rightFewerUptoRow : OpenClaim := { program := "yteghbhdniimjbaagreat", sum := "1d0ad5a760fe0cdd7b488c576c7422bbb262c44cb671bc4ef0d97c3e54b9fd8b", func := "pylon/pylonlaw38.RightFewer", spec := "rightFewer", unfollowed := true, recurses := true, apart := false, narrowed := true }
def RightFewerUptoSaid : Prop := rightFewerUptoRow.holds Tryz.pinned (OpenSpec.upto rightFewerSpec)

/-- 'pylonlaw38.RightSplit', WHERE WHAT IT READS IS OF BULK AT MOST 1048576: true; the input reads as it did. -/
def rightSplitUptoRow : OpenClaim := { program := "yteghbhdniimjbaagreat", sum := "1d0ad5a760fe0cdd7b488c576c7422bbb262c44cb671bc4ef0d97c3e54b9fd8b", func := "pylon/pylonlaw38.RightSplit", spec := "rightSplit", unfollowed := true, recurses := true, apart := false, narrowed := true }
def RightSplitUptoSaid : Prop := rightSplitUptoRow.holds Tryz.pinned (OpenSpec.upto rightSplitSpec)

/-- 'pylonlaw38.RightTotal', WHERE WHAT IT READS IS OF BULK AT MOST 1048576: true; the input reads as it did. -/
def rightTotalUptoRow : OpenClaim := { program := "yteghbhdniimjbaagreat", sum := "1d0ad5a760fe0cdd7b488c576c7422bbb262c44cb671bc4ef0d97c3e54b9fd8b", func := "pylon/pylonlaw38.RightTotal", spec := "rightTotal", unfollowed := true, recurses := true, apart := false, narrowed := true }
def RightTotalUptoSaid : Prop := rightTotalUptoRow.holds Tryz.pinned (OpenSpec.upto rightTotalSpec)

/-- 'pylonlaw17.FlowConservation', WHERE WHAT IT READS IS OF BULK AT MOST 1048576: true; the input reads as it did. -/
def flowConservationUptoRow : OpenClaim := { program := "yteghbhdniimjbaagreat", sum := "1d0ad5a760fe0cdd7b488c576c7422bbb262c44cb671bc4ef0d97c3e54b9fd8b", func := "pylon/pylonlaw17.FlowConservation", spec := "flowConservation", unfollowed := true, recurses := true, apart := false, narrowed := true }
def FlowConservationUptoSaid : Prop := flowConservationUptoRow.holds Tryz.pinned (OpenSpec.upto flowConservationSpec)

/-- 'pylonlaw38.RightRevenueAdequacy', WHERE WHAT IT READS IS OF BULK AT MOST 1048576: true; the input reads as it did. -/
def rightRevenueAdequacyUptoRow : OpenClaim := { program := "yteghbhdniimjbaagreat", sum := "1d0ad5a760fe0cdd7b488c576c7422bbb262c44cb671bc4ef0d97c3e54b9fd8b", func := "pylon/pylonlaw38.RightRevenueAdequacy", spec := "rightRevenueAdequacy", unfollowed := true, recurses := true, apart := false, narrowed := true }
def RightRevenueAdequacyUptoSaid : Prop := rightRevenueAdequacyUptoRow.holds Tryz.pinned (OpenSpec.upto rightRevenueAdequacySpec)

/-- 'pylonlaw18.ShiftFlows', WHERE WHAT IT READS IS OF BULK AT MOST 1048576: true; the input reads as it did. -/
def shiftFlowsUptoRow : OpenClaim := { program := "yteghbhdniimjbaagreat", sum := "1d0ad5a760fe0cdd7b488c576c7422bbb262c44cb671bc4ef0d97c3e54b9fd8b", func := "pylon/pylonlaw18.ShiftFlows", spec := "shiftFlows", unfollowed := true, recurses := true, apart := false, narrowed := true }
def ShiftFlowsUptoSaid : Prop := shiftFlowsUptoRow.holds Tryz.pinned (OpenSpec.upto shiftFlowsSpec)

end Rows
end Go.Proofs.YteghbhdniimjbaaGreat
