/-
  No cell of these rows narrows 'for every input' (looked for: loops, veiled, ifaces, maps, wideKeys, modest, calm, conditions, laid).
  DERIVED. THE GIVEN ROWS OF THIS SEAT. 8 by the template 'for every input the law returns true; each argument reads behind the call as it read before'; 0 by the template 'total and deterministic' (their statements: YtpgkacdihhjknaaGreatTotals.lean).
  GIVEN WITH THE SEED: the statements are not yours to turn. If you find one false, say at which input.
  Laid BY PROGRAM, IN A SANDBOX (cutbox-rows.mjs): the forced cells as the released guide's own fill.sh prints them over the translation 6e8e044495d82ee2… (all of the seat's roots in one cut). By AI agents, Wed Nov 11 2026. No macro, syntax, notation, axiom, sorry.
-/
import Derived.Test.YtpgkacdihhjknaaGreatChecked
import GoSem.Claim
import GoSem.ClaimJoined
import GoSem.ClaimMapViews
import Derived.JoinedTies
import Derived.KernelRfl
namespace Go.Proofs.YtpgkacdihhjknaaGreat
/- THE CELL 'sum', in the pinned program and in every row, IS THE sha256 OF THE DUMP (.gsa) THAT YtpgkacdihhjknaaGreatProg.lean LOADS. Nothing in Lean hashes anything: it is a label: what it is worth is what the hold of that sum in a sandbox is worth. -/
noncomputable def Tryz.pinned : Pinned := { name := "ytpgkacdihhjknaagreat", sum := "6e8e044495d82ee2245b78508376f82f84bc5cdb73eb13aa466efa626003b837", checked := Tryz.checked }
namespace Rows
def none {H : Type} : Left H := { results := [], args := [] }

/-- 'pylonlaw20.ScreenBridges': WHATEVER THE INPUT: true; the input reads as it did. -/
def screenBridgesSpec : ChangeSpec := { name := "screenBridges", fn := fun _ => fun
  | [d1, d2, d3] => { results := [.lit (.bool true)], args := [d1, d2, d3] }
  | _ => none }
def screenBridgesRow : OpenClaim := { program := "ytpgkacdihhjknaagreat", sum := "6e8e044495d82ee2245b78508376f82f84bc5cdb73eb13aa466efa626003b837", func := "pylon/pylonlaw20.ScreenBridges", spec := "screenBridges", unfollowed := true, recurses := true, apart := false }
def ScreenBridgesSaid : Prop := screenBridgesRow.holds Tryz.pinned (OpenSpec.ofChange screenBridgesSpec)

/-- ITS FALSE NEIGHBOUR: 'it returns false'. Refute it at one input. -/
def screenBridgesWrong : ChangeSpec := { name := "screenBridges", fn := fun _ => fun
  | [d1, d2, d3] => { results := [.lit (.bool false)], args := [d1, d2, d3] }
  | _ => none }
def ScreenBridgesWrongFalsely : Prop := screenBridgesRow.holds Tryz.pinned (OpenSpec.ofChange screenBridgesWrong)

/-- 'pylonlaw20.ScreenOrder': WHATEVER THE INPUT: true; the input reads as it did. -/
def screenOrderSpec : ChangeSpec := { name := "screenOrder", fn := fun _ => fun
  | [d1, d2, d3] => { results := [.lit (.bool true)], args := [d1, d2, d3] }
  | _ => none }
def screenOrderRow : OpenClaim := { program := "ytpgkacdihhjknaagreat", sum := "6e8e044495d82ee2245b78508376f82f84bc5cdb73eb13aa466efa626003b837", func := "pylon/pylonlaw20.ScreenOrder", spec := "screenOrder", unfollowed := true, recurses := true, apart := false }
def ScreenOrderSaid : Prop := screenOrderRow.holds Tryz.pinned (OpenSpec.ofChange screenOrderSpec)

/-- ITS FALSE NEIGHBOUR: 'it returns false'. Refute it at one input. -/
def screenOrderWrong : ChangeSpec := { name := "screenOrder", fn := fun _ => fun
  | [d1, d2, d3] => { results := [.lit (.bool false)], args := [d1, d2, d3] }
  | _ => none }
def ScreenOrderWrongFalsely : Prop := screenOrderRow.holds Tryz.pinned (OpenSpec.ofChange screenOrderWrong)

/-- 'pylonlaw20.ScreenFinds': WHATEVER THE INPUT: true; the input reads as it did. -/
def screenFindsSpec : ChangeSpec := { name := "screenFinds", fn := fun _ => fun
  | [d1, d2, d3] => { results := [.lit (.bool true)], args := [d1, d2, d3] }
  | _ => none }
def screenFindsRow : OpenClaim := { program := "ytpgkacdihhjknaagreat", sum := "6e8e044495d82ee2245b78508376f82f84bc5cdb73eb13aa466efa626003b837", func := "pylon/pylonlaw20.ScreenFinds", spec := "screenFinds", unfollowed := true, recurses := true, apart := false }
def ScreenFindsSaid : Prop := screenFindsRow.holds Tryz.pinned (OpenSpec.ofChange screenFindsSpec)

/-- ITS FALSE NEIGHBOUR: 'it returns false'. Refute it at one input. -/
def screenFindsWrong : ChangeSpec := { name := "screenFinds", fn := fun _ => fun
  | [d1, d2, d3] => { results := [.lit (.bool false)], args := [d1, d2, d3] }
  | _ => none }
def ScreenFindsWrongFalsely : Prop := screenFindsRow.holds Tryz.pinned (OpenSpec.ofChange screenFindsWrong)

/-- 'pylonlaw20.ScreenLimits': WHATEVER THE INPUT: true; the input reads as it did. -/
def screenLimitsSpec : ChangeSpec := { name := "screenLimits", fn := fun _ => fun
  | [d1, d2, d3, d4, d5] => { results := [.lit (.bool true)], args := [d1, d2, d3, d4, d5] }
  | _ => none }
def screenLimitsRow : OpenClaim := { program := "ytpgkacdihhjknaagreat", sum := "6e8e044495d82ee2245b78508376f82f84bc5cdb73eb13aa466efa626003b837", func := "pylon/pylonlaw20.ScreenLimits", spec := "screenLimits", unfollowed := true, recurses := true, apart := false }
def ScreenLimitsSaid : Prop := screenLimitsRow.holds Tryz.pinned (OpenSpec.ofChange screenLimitsSpec)

/-- ITS FALSE NEIGHBOUR: 'it returns false'. Refute it at one input. -/
def screenLimitsWrong : ChangeSpec := { name := "screenLimits", fn := fun _ => fun
  | [d1, d2, d3, d4, d5] => { results := [.lit (.bool false)], args := [d1, d2, d3, d4, d5] }
  | _ => none }
def ScreenLimitsWrongFalsely : Prop := screenLimitsRow.holds Tryz.pinned (OpenSpec.ofChange screenLimitsWrong)

/-- 'pylonlaw20.ScreenSign': WHATEVER THE INPUT: true; the input reads as it did. -/
def screenSignSpec : ChangeSpec := { name := "screenSign", fn := fun _ => fun
  | [d1, d2, d3] => { results := [.lit (.bool true)], args := [d1, d2, d3] }
  | _ => none }
def screenSignRow : OpenClaim := { program := "ytpgkacdihhjknaagreat", sum := "6e8e044495d82ee2245b78508376f82f84bc5cdb73eb13aa466efa626003b837", func := "pylon/pylonlaw20.ScreenSign", spec := "screenSign", unfollowed := true, recurses := true, apart := false }
def ScreenSignSaid : Prop := screenSignRow.holds Tryz.pinned (OpenSpec.ofChange screenSignSpec)

/-- ITS FALSE NEIGHBOUR: 'it returns false'. Refute it at one input. -/
def screenSignWrong : ChangeSpec := { name := "screenSign", fn := fun _ => fun
  | [d1, d2, d3] => { results := [.lit (.bool false)], args := [d1, d2, d3] }
  | _ => none }
def ScreenSignWrongFalsely : Prop := screenSignRow.holds Tryz.pinned (OpenSpec.ofChange screenSignWrong)

/-- 'pylonlaw19.LodfAfter': WHATEVER THE INPUT: true; the input reads as it did. -/
def lodfAfterSpec : ChangeSpec := { name := "lodfAfter", fn := fun _ => fun
  | [d1, d2, d3, d4] => { results := [.lit (.bool true)], args := [d1, d2, d3, d4] }
  | _ => none }
def lodfAfterRow : OpenClaim := { program := "ytpgkacdihhjknaagreat", sum := "6e8e044495d82ee2245b78508376f82f84bc5cdb73eb13aa466efa626003b837", func := "pylon/pylonlaw19.LodfAfter", spec := "lodfAfter", unfollowed := true, recurses := true, apart := false }
def LodfAfterSaid : Prop := lodfAfterRow.holds Tryz.pinned (OpenSpec.ofChange lodfAfterSpec)

/-- ITS FALSE NEIGHBOUR: 'it returns false'. Refute it at one input. -/
def lodfAfterWrong : ChangeSpec := { name := "lodfAfter", fn := fun _ => fun
  | [d1, d2, d3, d4] => { results := [.lit (.bool false)], args := [d1, d2, d3, d4] }
  | _ => none }
def LodfAfterWrongFalsely : Prop := lodfAfterRow.holds Tryz.pinned (OpenSpec.ofChange lodfAfterWrong)

/-- 'pylonlaw19.LodfMatches': WHATEVER THE INPUT: true; the input reads as it did. -/
def lodfMatchesSpec : ChangeSpec := { name := "lodfMatches", fn := fun _ => fun
  | [d1, d2, d3] => { results := [.lit (.bool true)], args := [d1, d2, d3] }
  | _ => none }
def lodfMatchesRow : OpenClaim := { program := "ytpgkacdihhjknaagreat", sum := "6e8e044495d82ee2245b78508376f82f84bc5cdb73eb13aa466efa626003b837", func := "pylon/pylonlaw19.LodfMatches", spec := "lodfMatches", unfollowed := true, recurses := true, apart := false }
def LodfMatchesSaid : Prop := lodfMatchesRow.holds Tryz.pinned (OpenSpec.ofChange lodfMatchesSpec)

/-- ITS FALSE NEIGHBOUR: 'it returns false'. Refute it at one input. -/
def lodfMatchesWrong : ChangeSpec := { name := "lodfMatches", fn := fun _ => fun
  | [d1, d2, d3] => { results := [.lit (.bool false)], args := [d1, d2, d3] }
  | _ => none }
def LodfMatchesWrongFalsely : Prop := lodfMatchesRow.holds Tryz.pinned (OpenSpec.ofChange lodfMatchesWrong)

/-- 'pylonlaw19.LodfExamples': WHATEVER THE INPUT: true; the input reads as it did. -/
def lodfExamplesSpec : ChangeSpec := { name := "lodfExamples", fn := fun _ => fun
  | [] => { results := [.lit (.bool true)], args := [] }
  | _ => none }
def lodfExamplesRow : OpenClaim := { program := "ytpgkacdihhjknaagreat", sum := "6e8e044495d82ee2245b78508376f82f84bc5cdb73eb13aa466efa626003b837", func := "pylon/pylonlaw19.LodfExamples", spec := "lodfExamples", unfollowed := true, recurses := true, apart := false }
def LodfExamplesSaid : Prop := lodfExamplesRow.holds Tryz.pinned (OpenSpec.ofChange lodfExamplesSpec)

/-- ITS FALSE NEIGHBOUR: 'it returns false'. Refute it at one input. -/
def lodfExamplesWrong : ChangeSpec := { name := "lodfExamples", fn := fun _ => fun
  | [] => { results := [.lit (.bool false)], args := [] }
  | _ => none }
def LodfExamplesWrongFalsely : Prop := lodfExamplesRow.holds Tryz.pinned (OpenSpec.ofChange lodfExamplesWrong)

/- THE SECOND FORM. 'bulk': how many values and letters a reading holds, each counted each time it is reached (what is shared counts as often as it is met; a slice's spare places count too). A statement '..UptoSaid' is the law's where the arguments, and the package variables that the reading takes, are together of bulk at most 1048576: NARROWER than '..Said'. Prove '..Said' where nothing that the law and all that it calls make is longer than what came in: it says more and counts as full. Else prove '..UptoSaid'. A law counts once. -/
mutual
def uptoBulk {H : Type} : DataW H → Nat
  | .lit (.string bytes) => bytes.length + 1
  | .lit _ => 1
  | .nil => 1
  | .ptr d => uptoBulk d + 1
  | .slice elems spare => uptoBulkAll elems + uptoBulkAll spare + 1
  | .agg parts => uptoBulkAll parts + 1
  | .iface _ d => uptoBulk d + 1
  | .map entries => uptoBulkEntries entries + 1
  | .held _ => 1
def uptoBulkAll {H : Type} : List (DataW H) → Nat
  | [] => 0
  | d :: r => uptoBulk d + uptoBulkAll r
def uptoBulkEntries {H : Type} : List (Lit × DataW H) → Nat
  | [] => 0
  | x :: r => uptoBulkEntry x + uptoBulkEntries r
def uptoBulkEntry {H : Type} : Lit × DataW H → Nat
  | (.string bytes, d) => bytes.length + uptoBulk d + 1
  | (_, d) => uptoBulk d + 1
 end
def uptoSmall : (H : Type) → List (DataW H) → Bool := fun _ ds => decide (uptoBulkAll ds ≤ 1048576)
def OpenSpec.upto (s : _root_.Go.ChangeSpec) : _root_.Go.OpenSpec := { _root_.Go.OpenSpec.ofChange s with cond := some uptoSmall }

/-- 'pylonlaw20.ScreenBridges', WHERE WHAT IT READS IS OF BULK AT MOST 1048576: true; the input reads as it did. -/
def screenBridgesUptoRow : OpenClaim := { program := "ytpgkacdihhjknaagreat", sum := "6e8e044495d82ee2245b78508376f82f84bc5cdb73eb13aa466efa626003b837", func := "pylon/pylonlaw20.ScreenBridges", spec := "screenBridges", unfollowed := true, recurses := true, apart := false, narrowed := true }
def ScreenBridgesUptoSaid : Prop := screenBridgesUptoRow.holds Tryz.pinned (OpenSpec.upto screenBridgesSpec)

/-- 'pylonlaw20.ScreenOrder', WHERE WHAT IT READS IS OF BULK AT MOST 1048576: true; the input reads as it did. -/
def screenOrderUptoRow : OpenClaim := { program := "ytpgkacdihhjknaagreat", sum := "6e8e044495d82ee2245b78508376f82f84bc5cdb73eb13aa466efa626003b837", func := "pylon/pylonlaw20.ScreenOrder", spec := "screenOrder", unfollowed := true, recurses := true, apart := false, narrowed := true }
def ScreenOrderUptoSaid : Prop := screenOrderUptoRow.holds Tryz.pinned (OpenSpec.upto screenOrderSpec)

/-- 'pylonlaw20.ScreenFinds', WHERE WHAT IT READS IS OF BULK AT MOST 1048576: true; the input reads as it did. -/
def screenFindsUptoRow : OpenClaim := { program := "ytpgkacdihhjknaagreat", sum := "6e8e044495d82ee2245b78508376f82f84bc5cdb73eb13aa466efa626003b837", func := "pylon/pylonlaw20.ScreenFinds", spec := "screenFinds", unfollowed := true, recurses := true, apart := false, narrowed := true }
def ScreenFindsUptoSaid : Prop := screenFindsUptoRow.holds Tryz.pinned (OpenSpec.upto screenFindsSpec)

/-- 'pylonlaw20.ScreenLimits', WHERE WHAT IT READS IS OF BULK AT MOST 1048576: true; the input reads as it did. -/
def screenLimitsUptoRow : OpenClaim := { program := "ytpgkacdihhjknaagreat", sum := "6e8e044495d82ee2245b78508376f82f84bc5cdb73eb13aa466efa626003b837", func := "pylon/pylonlaw20.ScreenLimits", spec := "screenLimits", unfollowed := true, recurses := true, apart := false, narrowed := true }
def ScreenLimitsUptoSaid : Prop := screenLimitsUptoRow.holds Tryz.pinned (OpenSpec.upto screenLimitsSpec)

/-- 'pylonlaw20.ScreenSign', WHERE WHAT IT READS IS OF BULK AT MOST 1048576: true; the input reads as it did. -/
def screenSignUptoRow : OpenClaim := { program := "ytpgkacdihhjknaagreat", sum := "6e8e044495d82ee2245b78508376f82f84bc5cdb73eb13aa466efa626003b837", func := "pylon/pylonlaw20.ScreenSign", spec := "screenSign", unfollowed := true, recurses := true, apart := false, narrowed := true }
def ScreenSignUptoSaid : Prop := screenSignUptoRow.holds Tryz.pinned (OpenSpec.upto screenSignSpec)

/-- 'pylonlaw19.LodfAfter', WHERE WHAT IT READS IS OF BULK AT MOST 1048576: true; the input reads as it did. -/
def lodfAfterUptoRow : OpenClaim := { program := "ytpgkacdihhjknaagreat", sum := "6e8e044495d82ee2245b78508376f82f84bc5cdb73eb13aa466efa626003b837", func := "pylon/pylonlaw19.LodfAfter", spec := "lodfAfter", unfollowed := true, recurses := true, apart := false, narrowed := true }
def LodfAfterUptoSaid : Prop := lodfAfterUptoRow.holds Tryz.pinned (OpenSpec.upto lodfAfterSpec)

/-- 'pylonlaw19.LodfMatches', WHERE WHAT IT READS IS OF BULK AT MOST 1048576: true; the input reads as it did. -/
def lodfMatchesUptoRow : OpenClaim := { program := "ytpgkacdihhjknaagreat", sum := "6e8e044495d82ee2245b78508376f82f84bc5cdb73eb13aa466efa626003b837", func := "pylon/pylonlaw19.LodfMatches", spec := "lodfMatches", unfollowed := true, recurses := true, apart := false, narrowed := true }
def LodfMatchesUptoSaid : Prop := lodfMatchesUptoRow.holds Tryz.pinned (OpenSpec.upto lodfMatchesSpec)

/-- 'pylonlaw19.LodfExamples', WHERE WHAT IT READS IS OF BULK AT MOST 1048576: true; the input reads as it did. -/
def lodfExamplesUptoRow : OpenClaim := { program := "ytpgkacdihhjknaagreat", sum := "6e8e044495d82ee2245b78508376f82f84bc5cdb73eb13aa466efa626003b837", func := "pylon/pylonlaw19.LodfExamples", spec := "lodfExamples", unfollowed := true, recurses := true, apart := false, narrowed := true }
def LodfExamplesUptoSaid : Prop := lodfExamplesUptoRow.holds Tryz.pinned (OpenSpec.upto lodfExamplesSpec)

end Rows
end Go.Proofs.YtpgkacdihhjknaaGreat
