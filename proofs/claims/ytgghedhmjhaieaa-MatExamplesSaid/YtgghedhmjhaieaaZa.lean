/-
  'pylonlaw04.MatExamples' returns true and leaves what it was handed as it was; no condition.
-/
import Derived.Test.YtgghedhmjhaieaaRows
import Derived.Test.YtgghedhmjhaieaaG8
import Derived.ProofKit
import Derived.OpenShut
namespace Go.Proofs.Ytgghedhmjhaieaa
open Go Go.Kx Go.ChangeShapes Go.WideShapes Go.ChangeAt Go.RowKit

theorem ownK : ownKnob Try.prog.godebug = none := by kernel_rfl
theorem laidOutP : laidOutB Try.prog = true := by kernel_rfl
/-- what a contract says of a call -/
theorem calls_of_CR {P : Program} {f : FuncId} {args : Array Value} {w : World} {v : Value} (h : CR P f args w (Is v)) : Calls P f args w fun e w' => e = .returned v ∧ Below w.heap.size w w' :=
  Calls.mono h fun _ _ ⟨u, he, hx, hv⟩ => by subst hv; exact ⟨he, hx⟩

set_option maxRecDepth 100000 in
theorem matExamples_lifted (os : Os) (started : os.Started) (H : Type) (enc : TypeId × Value → H) :
    ReturnsInHanded {} Try.checked os 3 .any (Rows.matExamplesSpec.pre6 enc Try.prog Try.f3 Rows.matExamplesRow.domain false) (Rows.matExamplesSpec.post enc Try.prog Try.f3 false true false false) := by
  refine returnsInHanded_of_change (C := Try.checked) ownK started (by kernel_rfl) Try.func3
    (ChangeSpec.witness6 (enc := enc) (C := Try.checked) false ⟨#[], #[], []⟩ 8 (by kernel_rfl) (by kernel_rfl) (by kernel_rfl) (by kernel_rfl)) ?_
  intro W base args ds gs before hval0 hW _ _
  have hW' := hW
  obtain ⟨p, q, hA0, hV, rfl, _, _⟩ := hW
  have hA : DataW.TrodAll enc Try.prog W 0 (fun _ => true) true Try.f3.params.toList args.toList ds p := hA0
  rw [Try.params3] at hA
  obtain ⟨rfl, rfl, rfl⟩ := trodAll_none hA
  obtain ⟨rfl, rfl⟩ := trodVars_none hV
  refine (calls_of_CR (law04_MatExamples_c (w := W))).mono fun e W' ⟨he, hb⟩ => ?_
  subst he
  exact ⟨_, rfl, _, _, _, [], _, [], hW', trodAll_mk1 (shut_bool Try.underlying4 _), trodAll_mk0, rfl, hb.frame _, fun h => by cases h⟩
theorem matExamples_holds : Rows.MatExamplesSaid :=
  OpenClaim.holds_of_wide 3 Try.f3 rfl rfl rfl rfl rfl rfl rfl ⟨rfl, rfl, rfl, rfl, rfl⟩ rfl rfl rfl rfl rfl (by kernel_rfl) Try.func3 (by kernel_rfl)
    (of_decide_eq_true (by kernel_rfl)) (by unfold Func.isWrapper; first | (rw [if_pos (by decide +kernel)]; kernel_rfl) | (rw [if_neg (by decide +kernel)]; exact ⟨rfl, rfl⟩))
    (fun os started H enc _ => matExamples_lifted os started H enc)
end Go.Proofs.Ytgghedhmjhaieaa
