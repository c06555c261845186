/-
  No cell of these rows narrows 'for every input' (looked for: loops, veiled, ifaces, maps, wideKeys, modest, calm, conditions, laid).
  DERIVED. THE GIVEN ROWS OF THIS SEAT. 12 by the template 'for every input the law returns true; each argument reads behind the call as it read before'; 0 by the template 'total and deterministic' (their statements: YtggegpiffjbngaaGreatTotals.lean).
  GIVEN WITH THE SEED: the statements are not yours to turn. If you find one false, say at which input.
  Laid BY PROGRAM, IN A SANDBOX (cutbox-rows.mjs): the forced cells as the released guide's own fill.sh prints them over the translation b09de5fcd9bc9395… (all of the seat's roots in one cut). By AI agents, Wed Nov 11 2026. No macro, syntax, notation, axiom, sorry.
-/
import Derived.Test.YtggegpiffjbngaaGreatChecked
import GoSem.Claim
import GoSem.ClaimJoined
import GoSem.ClaimMapViews
import Derived.JoinedTies
import Derived.KernelRfl
namespace Go.Proofs.YtggegpiffjbngaaGreat
/- THE CELL 'sum', in the pinned program and in every row, IS THE sha256 OF THE DUMP (.gsa) THAT YtggegpiffjbngaaGreatProg.lean LOADS. Nothing in Lean hashes anything: it is a label: what it is worth is what the hold of that sum in a sandbox is worth. -/
noncomputable def Tryz.pinned : Pinned := { name := "ytggegpiffjbngaagreat", sum := "b09de5fcd9bc93955036af758fe161224ed12570eca4e38a104c2a45be7bcca0", checked := Tryz.checked }
namespace Rows
def none {H : Type} : Left H := { results := [], args := [] }

/-- 'pylonlaw18.ShiftMatches': WHATEVER THE INPUT: true; the input reads as it did. -/
def shiftMatchesSpec : ChangeSpec := { name := "shiftMatches", fn := fun _ => fun
  | [d1, d2, d3, d4] => { results := [.lit (.bool true)], args := [d1, d2, d3, d4] }
  | _ => none }
def shiftMatchesRow : OpenClaim := { program := "ytggegpiffjbngaagreat", sum := "b09de5fcd9bc93955036af758fe161224ed12570eca4e38a104c2a45be7bcca0", func := "pylon/pylonlaw18.ShiftMatches", spec := "shiftMatches", unfollowed := true, recurses := true, apart := false }
def ShiftMatchesSaid : Prop := shiftMatchesRow.holds Tryz.pinned (OpenSpec.ofChange shiftMatchesSpec)

/-- ITS FALSE NEIGHBOUR: 'it returns false'. Refute it at one input. -/
def shiftMatchesWrong : ChangeSpec := { name := "shiftMatches", fn := fun _ => fun
  | [d1, d2, d3, d4] => { results := [.lit (.bool false)], args := [d1, d2, d3, d4] }
  | _ => none }
def ShiftMatchesWrongFalsely : Prop := shiftMatchesRow.holds Tryz.pinned (OpenSpec.ofChange shiftMatchesWrong)

/-- 'pylonlaw18.ShiftFlowsMatch': WHATEVER THE INPUT: true; the input reads as it did. -/
def shiftFlowsMatchSpec : ChangeSpec := { name := "shiftFlowsMatch", fn := fun _ => fun
  | [d1, d2, d3] => { results := [.lit (.bool true)], args := [d1, d2, d3] }
  | _ => none }
def shiftFlowsMatchRow : OpenClaim := { program := "ytggegpiffjbngaagreat", sum := "b09de5fcd9bc93955036af758fe161224ed12570eca4e38a104c2a45be7bcca0", func := "pylon/pylonlaw18.ShiftFlowsMatch", spec := "shiftFlowsMatch", unfollowed := true, recurses := true, apart := false }
def ShiftFlowsMatchSaid : Prop := shiftFlowsMatchRow.holds Tryz.pinned (OpenSpec.ofChange shiftFlowsMatchSpec)

/-- ITS FALSE NEIGHBOUR: 'it returns false'. Refute it at one input. -/
def shiftFlowsMatchWrong : ChangeSpec := { name := "shiftFlowsMatch", fn := fun _ => fun
  | [d1, d2, d3] => { results := [.lit (.bool false)], args := [d1, d2, d3] }
  | _ => none }
def ShiftFlowsMatchWrongFalsely : Prop := shiftFlowsMatchRow.holds Tryz.pinned (OpenSpec.ofChange shiftFlowsMatchWrong)

/-- 'pylonlaw17.FlowMatches': WHATEVER THE INPUT: true; the input reads as it did. -/
def flowMatchesSpec : ChangeSpec := { name := "flowMatches", fn := fun _ => fun
  | [d1, d2, d3] => { results := [.lit (.bool true)], args := [d1, d2, d3] }
  | _ => none }
def flowMatchesRow : OpenClaim := { program := "ytggegpiffjbngaagreat", sum := "b09de5fcd9bc93955036af758fe161224ed12570eca4e38a104c2a45be7bcca0", func := "pylon/pylonlaw17.FlowMatches", spec := "flowMatches", unfollowed := true, recurses := true, apart := false }
def FlowMatchesSaid : Prop := flowMatchesRow.holds Tryz.pinned (OpenSpec.ofChange flowMatchesSpec)

/-- ITS FALSE NEIGHBOUR: 'it returns false'. Refute it at one input. -/
def flowMatchesWrong : ChangeSpec := { name := "flowMatches", fn := fun _ => fun
  | [d1, d2, d3] => { results := [.lit (.bool false)], args := [d1, d2, d3] }
  | _ => none }
def FlowMatchesWrongFalsely : Prop := flowMatchesRow.holds Tryz.pinned (OpenSpec.ofChange flowMatchesWrong)

/-- 'pylonlaw17.FlowPartsMatch': WHATEVER THE INPUT: true; the input reads as it did. -/
def flowPartsMatchSpec : ChangeSpec := { name := "flowPartsMatch", fn := fun _ => fun
  | [d1, d2, d3] => { results := [.lit (.bool true)], args := [d1, d2, d3] }
  | _ => none }
def flowPartsMatchRow : OpenClaim := { program := "ytggegpiffjbngaagreat", sum := "b09de5fcd9bc93955036af758fe161224ed12570eca4e38a104c2a45be7bcca0", func := "pylon/pylonlaw17.FlowPartsMatch", spec := "flowPartsMatch", unfollowed := true, recurses := true, apart := false }
def FlowPartsMatchSaid : Prop := flowPartsMatchRow.holds Tryz.pinned (OpenSpec.ofChange flowPartsMatchSpec)

/-- ITS FALSE NEIGHBOUR: 'it returns false'. Refute it at one input. -/
def flowPartsMatchWrong : ChangeSpec := { name := "flowPartsMatch", fn := fun _ => fun
  | [d1, d2, d3] => { results := [.lit (.bool false)], args := [d1, d2, d3] }
  | _ => none }
def FlowPartsMatchWrongFalsely : Prop := flowPartsMatchRow.holds Tryz.pinned (OpenSpec.ofChange flowPartsMatchWrong)

/-- 'pylonlaw17.FlowCycles': WHATEVER THE INPUT: true; the input reads as it did. -/
def flowCyclesSpec : ChangeSpec := { name := "flowCycles", fn := fun _ => fun
  | [d1, d2, d3] => { results := [.lit (.bool true)], args := [d1, d2, d3] }
  | _ => none }
def flowCyclesRow : OpenClaim := { program := "ytggegpiffjbngaagreat", sum := "b09de5fcd9bc93955036af758fe161224ed12570eca4e38a104c2a45be7bcca0", func := "pylon/pylonlaw17.FlowCycles", spec := "flowCycles", unfollowed := true, recurses := true, apart := false }
def FlowCyclesSaid : Prop := flowCyclesRow.holds Tryz.pinned (OpenSpec.ofChange flowCyclesSpec)

/-- ITS FALSE NEIGHBOUR: 'it returns false'. Refute it at one input. -/
def flowCyclesWrong : ChangeSpec := { name := "flowCycles", fn := fun _ => fun
  | [d1, d2, d3] => { results := [.lit (.bool false)], args := [d1, d2, d3] }
  | _ => none }
def FlowCyclesWrongFalsely : Prop := flowCyclesRow.holds Tryz.pinned (OpenSpec.ofChange flowCyclesWrong)

/-- 'pylonlaw18.ShiftTree': WHATEVER THE INPUT: true; the input reads as it did. -/
def shiftTreeSpec : ChangeSpec := { name := "shiftTree", fn := fun _ => fun
  | [d1, d2] => { results := [.lit (.bool true)], args := [d1, d2] }
  | _ => none }
def shiftTreeRow : OpenClaim := { program := "ytggegpiffjbngaagreat", sum := "b09de5fcd9bc93955036af758fe161224ed12570eca4e38a104c2a45be7bcca0", func := "pylon/pylonlaw18.ShiftTree", spec := "shiftTree", unfollowed := true, recurses := true, apart := false }
def ShiftTreeSaid : Prop := shiftTreeRow.holds Tryz.pinned (OpenSpec.ofChange shiftTreeSpec)

/-- ITS FALSE NEIGHBOUR: 'it returns false'. Refute it at one input. -/
def shiftTreeWrong : ChangeSpec := { name := "shiftTree", fn := fun _ => fun
  | [d1, d2] => { results := [.lit (.bool false)], args := [d1, d2] }
  | _ => none }
def ShiftTreeWrongFalsely : Prop := shiftTreeRow.holds Tryz.pinned (OpenSpec.ofChange shiftTreeWrong)

/-- 'pylonlaw19.LodfIslands': WHATEVER THE INPUT: true; the input reads as it did. -/
def lodfIslandsSpec : ChangeSpec := { name := "lodfIslands", fn := fun _ => fun
  | [d1, d2, d3] => { results := [.lit (.bool true)], args := [d1, d2, d3] }
  | _ => none }
def lodfIslandsRow : OpenClaim := { program := "ytggegpiffjbngaagreat", sum := "b09de5fcd9bc93955036af758fe161224ed12570eca4e38a104c2a45be7bcca0", func := "pylon/pylonlaw19.LodfIslands", spec := "lodfIslands", unfollowed := true, recurses := true, apart := false }
def LodfIslandsSaid : Prop := lodfIslandsRow.holds Tryz.pinned (OpenSpec.ofChange lodfIslandsSpec)

/-- ITS FALSE NEIGHBOUR: 'it returns false'. Refute it at one input. -/
def lodfIslandsWrong : ChangeSpec := { name := "lodfIslands", fn := fun _ => fun
  | [d1, d2, d3] => { results := [.lit (.bool false)], args := [d1, d2, d3] }
  | _ => none }
def LodfIslandsWrongFalsely : Prop := lodfIslandsRow.holds Tryz.pinned (OpenSpec.ofChange lodfIslandsWrong)

/-- 'pylonlaw19.LodfOrder': WHATEVER THE INPUT: true; the input reads as it did. -/
def lodfOrderSpec : ChangeSpec := { name := "lodfOrder", fn := fun _ => fun
  | [d1, d2, d3, d4, d5] => { results := [.lit (.bool true)], args := [d1, d2, d3, d4, d5] }
  | _ => none }
def lodfOrderRow : OpenClaim := { program := "ytggegpiffjbngaagreat", sum := "b09de5fcd9bc93955036af758fe161224ed12570eca4e38a104c2a45be7bcca0", func := "pylon/pylonlaw19.LodfOrder", spec := "lodfOrder", unfollowed := true, recurses := true, apart := false }
def LodfOrderSaid : Prop := lodfOrderRow.holds Tryz.pinned (OpenSpec.ofChange lodfOrderSpec)

/-- ITS FALSE NEIGHBOUR: 'it returns false'. Refute it at one input. -/
def lodfOrderWrong : ChangeSpec := { name := "lodfOrder", fn := fun _ => fun
  | [d1, d2, d3, d4, d5] => { results := [.lit (.bool false)], args := [d1, d2, d3, d4, d5] }
  | _ => none }
def LodfOrderWrongFalsely : Prop := lodfOrderRow.holds Tryz.pinned (OpenSpec.ofChange lodfOrderWrong)

/-- 'pylonlaw19.LodfReverse': WHATEVER THE INPUT: true; the input reads as it did. -/
def lodfReverseSpec : ChangeSpec := { name := "lodfReverse", fn := fun _ => fun
  | [d1, d2, d3, d4] => { results := [.lit (.bool true)], args := [d1, d2, d3, d4] }
  | _ => none }
def lodfReverseRow : OpenClaim := { program := "ytggegpiffjbngaagreat", sum := "b09de5fcd9bc93955036af758fe161224ed12570eca4e38a104c2a45be7bcca0", func := "pylon/pylonlaw19.LodfReverse", spec := "lodfReverse", unfollowed := true, recurses := true, apart := false }
def LodfReverseSaid : Prop := lodfReverseRow.holds Tryz.pinned (OpenSpec.ofChange lodfReverseSpec)

/-- ITS FALSE NEIGHBOUR: 'it returns false'. Refute it at one input. -/
def lodfReverseWrong : ChangeSpec := { name := "lodfReverse", fn := fun _ => fun
  | [d1, d2, d3, d4] => { results := [.lit (.bool false)], args := [d1, d2, d3, d4] }
  | _ => none }
def LodfReverseWrongFalsely : Prop := lodfReverseRow.holds Tryz.pinned (OpenSpec.ofChange lodfReverseWrong)

/-- 'pylonlaw19.LodfBridges': WHATEVER THE INPUT: true; the input reads as it did. -/
def lodfBridgesSpec : ChangeSpec := { name := "lodfBridges", fn := fun _ => fun
  | [d1, d2, d3] => { results := [.lit (.bool true)], args := [d1, d2, d3] }
  | _ => none }
def lodfBridgesRow : OpenClaim := { program := "ytggegpiffjbngaagreat", sum := "b09de5fcd9bc93955036af758fe161224ed12570eca4e38a104c2a45be7bcca0", func := "pylon/pylonlaw19.LodfBridges", spec := "lodfBridges", unfollowed := true, recurses := true, apart := false }
def LodfBridgesSaid : Prop := lodfBridgesRow.holds Tryz.pinned (OpenSpec.ofChange lodfBridgesSpec)

/-- ITS FALSE NEIGHBOUR: 'it returns false'. Refute it at one input. -/
def lodfBridgesWrong : ChangeSpec := { name := "lodfBridges", fn := fun _ => fun
  | [d1, d2, d3] => { results := [.lit (.bool false)], args := [d1, d2, d3] }
  | _ => none }
def LodfBridgesWrongFalsely : Prop := lodfBridgesRow.holds Tryz.pinned (OpenSpec.ofChange lodfBridgesWrong)

/-- 'pylonlaw19.LodfSuperposition': WHATEVER THE INPUT: true; the input reads as it did. -/
def lodfSuperpositionSpec : ChangeSpec := { name := "lodfSuperposition", fn := fun _ => fun
  | [d1, d2, d3, d4] => { results := [.lit (.bool true)], args := [d1, d2, d3, d4] }
  | _ => none }
def lodfSuperpositionRow : OpenClaim := { program := "ytggegpiffjbngaagreat", sum := "b09de5fcd9bc93955036af758fe161224ed12570eca4e38a104c2a45be7bcca0", func := "pylon/pylonlaw19.LodfSuperposition", spec := "lodfSuperposition", unfollowed := true, recurses := true, apart := false }
def LodfSuperpositionSaid : Prop := lodfSuperpositionRow.holds Tryz.pinned (OpenSpec.ofChange lodfSuperpositionSpec)

/-- ITS FALSE NEIGHBOUR: 'it returns false'. Refute it at one input. -/
def lodfSuperpositionWrong : ChangeSpec := { name := "lodfSuperposition", fn := fun _ => fun
  | [d1, d2, d3, d4] => { results := [.lit (.bool false)], args := [d1, d2, d3, d4] }
  | _ => none }
def LodfSuperpositionWrongFalsely : Prop := lodfSuperpositionRow.holds Tryz.pinned (OpenSpec.ofChange lodfSuperpositionWrong)

/-- 'pylonlaw19.LodfBound': WHATEVER THE INPUT: true; the input reads as it did. -/
def lodfBoundSpec : ChangeSpec := { name := "lodfBound", fn := fun _ => fun
  | [d1, d2, d3] => { results := [.lit (.bool true)], args := [d1, d2, d3] }
  | _ => none }
def lodfBoundRow : OpenClaim := { program := "ytggegpiffjbngaagreat", sum := "b09de5fcd9bc93955036af758fe161224ed12570eca4e38a104c2a45be7bcca0", func := "pylon/pylonlaw19.LodfBound", spec := "lodfBound", unfollowed := true, recurses := true, apart := false }
def LodfBoundSaid : Prop := lodfBoundRow.holds Tryz.pinned (OpenSpec.ofChange lodfBoundSpec)

/-- ITS FALSE NEIGHBOUR: 'it returns false'. Refute it at one input. -/
def lodfBoundWrong : ChangeSpec := { name := "lodfBound", fn := fun _ => fun
  | [d1, d2, d3] => { results := [.lit (.bool false)], args := [d1, d2, d3] }
  | _ => none }
def LodfBoundWrongFalsely : Prop := lodfBoundRow.holds Tryz.pinned (OpenSpec.ofChange lodfBoundWrong)

/- THE SECOND FORM. 'bulk': how many values and letters a reading holds, each counted each time it is reached (what is shared counts as often as it is met; a slice's spare places count too). A statement '..UptoSaid' is the law's where the arguments, and the package variables that the reading takes, are together of bulk at most 1048576: NARROWER than '..Said'. Prove '..Said' where nothing that the law and all that it calls make is longer than what came in: it says more and counts as full. Else prove '..UptoSaid'. A law counts once. -/
mutual
def uptoBulk {H : Type} : DataW H → Nat
  | .lit (.string bytes) => bytes.length + 1
  | .lit _ => 1
  | .nil => 1
  | .ptr d => uptoBulk d + 1
  | .slice elems spare => uptoBulkAll elems + uptoBulkAll spare + 1
  | .agg parts => uptoBulkAll parts + 1
  | .iface _ d => uptoBulk d + 1
  | .map entries => uptoBulkEntries entries + 1
  | .held _ => 1
def uptoBulkAll {H : Type} : List (DataW H) → Nat
  | [] => 0
  | d :: r => uptoBulk d + uptoBulkAll r
def uptoBulkEntries {H : Type} : List (Lit × DataW H) → Nat
  | [] => 0
  | x :: r => uptoBulkEntry x + uptoBulkEntries r
def uptoBulkEntry {H : Type} : Lit × DataW H → Nat
  | (.string bytes, d) => bytes.length + uptoBulk d + 1
  | (_, d) => uptoBulk d + 1
 end
def uptoSmall : (H : Type) → List (DataW H) → Bool := fun _ ds => decide (uptoBulkAll ds ≤ 1048576)
def OpenSpec.upto (s : _root_.Go.ChangeSpec) : _root_.Go.OpenSpec := { _root_.Go.OpenSpec.ofChange s with cond := some uptoSmall }

/-- 'pylonlaw18.ShiftMatches', WHERE WHAT IT READS IS OF BULK AT MOST 1048576: true; the input reads as it did. -/
def shiftMatchesUptoRow : OpenClaim := { program := "ytggegpiffjbngaagreat", sum := "b09de5fcd9bc93955036af758fe161224ed12570eca4e38a104c2a45be7bcca0", func := "pylon/pylonlaw18.ShiftMatches", spec := "shiftMatches", unfollowed := true, recurses := true, apart := false, narrowed := true }
def ShiftMatchesUptoSaid : Prop := shiftMatchesUptoRow.holds Tryz.pinned (OpenSpec.upto shiftMatchesSpec)

/-- 'pylonlaw18.ShiftFlowsMatch', WHERE WHAT IT READS IS OF BULK AT MOST 1048576: true; the input reads as it did. -/
def shiftFlowsMatchUptoRow : OpenClaim := { program := "ytggegpiffjbngaagreat", sum := "b09de5fcd9bc93955036af758fe161224ed12570eca4e38a104c2a45be7bcca0", func := "pylon/pylonlaw18.ShiftFlowsMatch", spec := "shiftFlowsMatch", unfollowed := true, recurses := true, apart := false, narrowed := true }
def ShiftFlowsMatchUptoSaid : Prop := shiftFlowsMatchUptoRow.holds Tryz.pinned (OpenSpec.upto shiftFlowsMatchSpec)

/-- 'pylonlaw17.FlowMatches', WHERE WHAT IT READS IS OF BULK AT MOST 1048576: true; the input reads as it did. -/
def flowMatchesUptoRow : OpenClaim := { program := "ytggegpiffjbngaagreat", sum := "b09de5fcd9bc93955036af758fe161224ed12570eca4e38a104c2a45be7bcca0", func := "pylon/pylonlaw17.FlowMatches", spec := "flowMatches", unfollowed := true, recurses := true, apart := false, narrowed := true }
def FlowMatchesUptoSaid : Prop := flowMatchesUptoRow.holds Tryz.pinned (OpenSpec.upto flowMatchesSpec)

/-- 'pylonlaw17.FlowPartsMatch', WHERE WHAT IT READS IS OF BULK AT MOST 1048576: true; the input reads as it did. -/
def flowPartsMatchUptoRow : OpenClaim := { program := "ytggegpiffjbngaagreat", sum := "b09de5fcd9bc93955036af758fe161224ed12570eca4e38a104c2a45be7bcca0", func := "pylon/pylonlaw17.FlowPartsMatch", spec := "flowPartsMatch", unfollowed := true, recurses := true, apart := false, narrowed := true }
def FlowPartsMatchUptoSaid : Prop := flowPartsMatchUptoRow.holds Tryz.pinned (OpenSpec.upto flowPartsMatchSpec)

/-- 'pylonlaw17.FlowCycles', WHERE WHAT IT READS IS OF BULK AT MOST 1048576: true; the input reads as it did. -/
def flowCyclesUptoRow : OpenClaim := { program := "ytggegpiffjbngaagreat", sum := "b09de5fcd9bc93955036af758fe161224ed12570eca4e38a104c2a45be7bcca0", func := "pylon/pylonlaw17.FlowCycles", spec := "flowCycles", unfollowed := true, recurses := true, apart := false, narrowed := true }
def FlowCyclesUptoSaid : Prop := flowCyclesUptoRow.holds Tryz.pinned (OpenSpec.upto flowCyclesSpec)

/-- 'pylonlaw18.ShiftTree', WHERE WHAT IT READS IS OF BULK AT MOST 1048576: true; the input reads as it did. -/
def shiftTreeUptoRow : OpenClaim := { program := "ytggegpiffjbngaagreat", sum := "b09de5fcd9bc93955036af758fe161224ed12570eca4e38a104c2a45be7bcca0", func := "pylon/pylonlaw18.ShiftTree", spec := "shiftTree", unfollowed := true, recurses := true, apart := false, narrowed := true }
def ShiftTreeUptoSaid : Prop := shiftTreeUptoRow.holds Tryz.pinned (OpenSpec.upto shiftTreeSpec)

/-- 'pylonlaw19.LodfIslands', WHERE WHAT IT READS IS OF BULK AT MOST 1048576: true; the input reads as it did. -/
def lodfIslandsUptoRow : OpenClaim := { program := "ytggegpiffjbngaagreat", sum := "b09de5fcd9bc93955036af758fe161224ed12570eca4e38a104c2a45be7bcca0", func := "pylon/pylonlaw19.LodfIslands", spec := "lodfIslands", unfollowed := true, recurses := true, apart := false, narrowed := true }
def LodfIslandsUptoSaid : Prop := lodfIslandsUptoRow.holds Tryz.pinned (OpenSpec.upto lodfIslandsSpec)

/-- 'pylonlaw19.LodfOrder', WHERE WHAT IT READS IS OF BULK AT MOST 1048576: true; the input reads as it did. -/
def lodfOrderUptoRow : OpenClaim := { program := "ytggegpiffjbngaagreat", sum := "b09de5fcd9bc93955036af758fe161224ed12570eca4e38a104c2a45be7bcca0", func := "pylon/pylonlaw19.LodfOrder", spec := "lodfOrder", unfollowed := true, recurses := true, apart := false, narrowed := true }
def LodfOrderUptoSaid : Prop := lodfOrderUptoRow.holds Tryz.pinned (OpenSpec.upto lodfOrderSpec)

/-- 'pylonlaw19.LodfReverse', WHERE WHAT IT READS IS OF BULK AT MOST 1048576: true; the input reads as it did. -/
def lodfReverseUptoRow : OpenClaim := { program := "ytggegpiffjbngaagreat", sum := "b09de5fcd9bc93955036af758fe161224ed12570eca4e38a104c2a45be7bcca0", func := "pylon/pylonlaw19.LodfReverse", spec := "lodfReverse", unfollowed := true, recurses := true, apart := false, narrowed := true }
def LodfReverseUptoSaid : Prop := lodfReverseUptoRow.holds Tryz.pinned (OpenSpec.upto lodfReverseSpec)

/-- 'pylonlaw19.LodfBridges', WHERE WHAT IT READS IS OF BULK AT MOST 1048576: true; the input reads as it did. -/
def lodfBridgesUptoRow : OpenClaim := { program := "ytggegpiffjbngaagreat", sum := "b09de5fcd9bc93955036af758fe161224ed12570eca4e38a104c2a45be7bcca0", func := "pylon/pylonlaw19.LodfBridges", spec := "lodfBridges", unfollowed := true, recurses := true, apart := false, narrowed := true }
def LodfBridgesUptoSaid : Prop := lodfBridgesUptoRow.holds Tryz.pinned (OpenSpec.upto lodfBridgesSpec)

/-- 'pylonlaw19.LodfSuperposition', WHERE WHAT IT READS IS OF BULK AT MOST 1048576: true; the input reads as it did. -/
def lodfSuperpositionUptoRow : OpenClaim := { program := "ytggegpiffjbngaagreat", sum := "b09de5fcd9bc93955036af758fe161224ed12570eca4e38a104c2a45be7bcca0", func := "pylon/pylonlaw19.LodfSuperposition", spec := "lodfSuperposition", unfollowed := true, recurses := true, apart := false, narrowed := true }
def LodfSuperpositionUptoSaid : Prop := lodfSuperpositionUptoRow.holds Tryz.pinned (OpenSpec.upto lodfSuperpositionSpec)

/-- 'pylonlaw19.LodfBound', WHERE WHAT IT READS IS OF BULK AT MOST 1048576: true; the input reads as it did. -/
def lodfBoundUptoRow : OpenClaim := { program := "ytggegpiffjbngaagreat", sum := "b09de5fcd9bc93955036af758fe161224ed12570eca4e38a104c2a45be7bcca0", func := "pylon/pylonlaw19.LodfBound", spec := "lodfBound", unfollowed := true, recurses := true, apart := false, narrowed := true }
def LodfBoundUptoSaid : Prop := lodfBoundUptoRow.holds Tryz.pinned (OpenSpec.upto lodfBoundSpec)

end Rows
end Go.Proofs.YtggegpiffjbngaaGreat
