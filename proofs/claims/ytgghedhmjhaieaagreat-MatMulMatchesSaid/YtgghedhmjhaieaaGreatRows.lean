/-
  No cell of these rows narrows 'for every input' (looked for: loops, veiled, ifaces, maps, wideKeys, modest, calm, conditions, laid).
  DERIVED. THE GIVEN ROWS OF THIS SEAT. 2 by the template 'for every input the law returns true; each argument reads behind the call as it read before'; 0 by the template 'total and deterministic' (their statements: YtgghedhmjhaieaaGreatTotals.lean).
  GIVEN WITH THE SEED: the statements are not yours to turn. If you find one false, say at which input.
  Laid BY PROGRAM, IN A SANDBOX (cutbox-rows.mjs): the forced cells as the released guide's own fill.sh prints them over the translation 13e21ee2e26c1d4c… (all of the seat's roots in one cut). By AI agents, Wed Nov 11 2026. No macro, syntax, notation, axiom, sorry.
-/
import Derived.Test.YtgghedhmjhaieaaGreatChecked
import GoSem.Claim
import GoSem.ClaimJoined
import GoSem.ClaimMapViews
import Derived.JoinedTies
import Derived.KernelRfl
namespace Go.Proofs.YtgghedhmjhaieaaGreat
/- THE CELL 'sum', in the pinned program and in every row, IS THE sha256 OF THE DUMP (.gsa) THAT YtgghedhmjhaieaaGreatProg.lean LOADS. Nothing in Lean hashes anything: it is a label: what it is worth is what the hold of that sum in a sandbox is worth. -/
noncomputable def Tryz.pinned : Pinned := { name := "ytgghedhmjhaieaagreat", sum := "13e21ee2e26c1d4c8599f8e414c0baa4184cd10a7756401b46acd4c4226e9bea", checked := Tryz.checked }
namespace Rows
def none {H : Type} : Left H := { results := [], args := [] }

/-- 'pylonlaw04.MatMulMatches': WHATEVER THE INPUT: true; the input reads as it did. -/
def matMulMatchesSpec : ChangeSpec := { name := "matMulMatches", fn := fun _ => fun
  | [d1, d2, d3, d4] => { results := [.lit (.bool true)], args := [d1, d2, d3, d4] }
  | _ => none }
def matMulMatchesRow : OpenClaim := { program := "ytgghedhmjhaieaagreat", sum := "13e21ee2e26c1d4c8599f8e414c0baa4184cd10a7756401b46acd4c4226e9bea", func := "pylon/pylonlaw04.MatMulMatches", spec := "matMulMatches", unfollowed := true, recurses := true, apart := false }
def MatMulMatchesSaid : Prop := matMulMatchesRow.holds Tryz.pinned (OpenSpec.ofChange matMulMatchesSpec)

/-- ITS FALSE NEIGHBOUR: 'it returns false'. Refute it at one input. -/
def matMulMatchesWrong : ChangeSpec := { name := "matMulMatches", fn := fun _ => fun
  | [d1, d2, d3, d4] => { results := [.lit (.bool false)], args := [d1, d2, d3, d4] }
  | _ => none }
def MatMulMatchesWrongFalsely : Prop := matMulMatchesRow.holds Tryz.pinned (OpenSpec.ofChange matMulMatchesWrong)

/-- 'pylonlaw04.MatMatches': WHATEVER THE INPUT: true; the input reads as it did. -/
def matMatchesSpec : ChangeSpec := { name := "matMatches", fn := fun _ => fun
  | [d1, d2, d3, d4, d5, d6] => { results := [.lit (.bool true)], args := [d1, d2, d3, d4, d5, d6] }
  | _ => none }
def matMatchesRow : OpenClaim := { program := "ytgghedhmjhaieaagreat", sum := "13e21ee2e26c1d4c8599f8e414c0baa4184cd10a7756401b46acd4c4226e9bea", func := "pylon/pylonlaw04.MatMatches", spec := "matMatches", unfollowed := true, recurses := true, apart := false }
def MatMatchesSaid : Prop := matMatchesRow.holds Tryz.pinned (OpenSpec.ofChange matMatchesSpec)

/-- ITS FALSE NEIGHBOUR: 'it returns false'. Refute it at one input. -/
def matMatchesWrong : ChangeSpec := { name := "matMatches", fn := fun _ => fun
  | [d1, d2, d3, d4, d5, d6] => { results := [.lit (.bool false)], args := [d1, d2, d3, d4, d5, d6] }
  | _ => none }
def MatMatchesWrongFalsely : Prop := matMatchesRow.holds Tryz.pinned (OpenSpec.ofChange matMatchesWrong)

/- THE SECOND FORM. 'bulk': how many values and letters a reading holds, each counted each time it is reached (what is shared counts as often as it is met; a slice's spare places count too). A statement '..UptoSaid' is the law's where the arguments, and the package variables that the reading takes, are together of bulk at most 1048576: NARROWER than '..Said'. Prove '..Said' where nothing that the law and all that it calls make is longer than what came in: it says more and counts as full. Else prove '..UptoSaid'. A law counts once. -/
mutual
def uptoBulk {H : Type} : DataW H → Nat
  | .lit (.string bytes) => bytes.length + 1
  | .lit _ => 1
  | .nil => 1
  | .ptr d => uptoBulk d + 1
  | .slice elems spare => uptoBulkAll elems + uptoBulkAll spare + 1
  | .agg parts => uptoBulkAll parts + 1
  | .iface _ d => uptoBulk d + 1
  | .map entries => uptoBulkEntries entries + 1
  | .held _ => 1
def uptoBulkAll {H : Type} : List (DataW H) → Nat
  | [] => 0
  | d :: r => uptoBulk d + uptoBulkAll r
def uptoBulkEntries {H : Type} : List (Lit × DataW H) → Nat
  | [] => 0
  | x :: r => uptoBulkEntry x + uptoBulkEntries r
def uptoBulkEntry {H : Type} : Lit × DataW H → Nat
  | (.string bytes, d) => bytes.length + uptoBulk d + 1
  | (_, d) => uptoBulk d + 1
 end
def uptoSmall : (H : Type) → List (DataW H) → Bool := fun _ ds => decide (uptoBulkAll ds ≤ 1048576)
def OpenSpec.upto (s : _root_.Go.ChangeSpec) : _root_.Go.OpenSpec := { _root_.Go.OpenSpec.ofChange s with cond := some uptoSmall }

/-- 'pylonlaw04.MatMulMatches', WHERE WHAT IT READS IS OF BULK AT MOST 1048576: true; the input reads as it did. -/
def matMulMatchesUptoRow : OpenClaim := { program := "ytgghedhmjhaieaagreat", sum := "13e21ee2e26c1d4c8599f8e414c0baa4184cd10a7756401b46acd4c4226e9bea", func := "pylon/pylonlaw04.MatMulMatches", spec := "matMulMatches", unfollowed := true, recurses := true, apart := false, narrowed := true }
def MatMulMatchesUptoSaid : Prop := matMulMatchesUptoRow.holds Tryz.pinned (OpenSpec.upto matMulMatchesSpec)

/-- 'pylonlaw04.MatMatches', WHERE WHAT IT READS IS OF BULK AT MOST 1048576: true; the input reads as it did. -/
def matMatchesUptoRow : OpenClaim := { program := "ytgghedhmjhaieaagreat", sum := "13e21ee2e26c1d4c8599f8e414c0baa4184cd10a7756401b46acd4c4226e9bea", func := "pylon/pylonlaw04.MatMatches", spec := "matMatches", unfollowed := true, recurses := true, apart := false, narrowed := true }
def MatMatchesUptoSaid : Prop := matMatchesUptoRow.holds Tryz.pinned (OpenSpec.upto matMatchesSpec)

end Rows
end Go.Proofs.YtgghedhmjhaieaaGreat
