/-
  'pylonlaw04.MatColumns' returns true for all arguments and leaves them as they were; no condition.
-/
import Derived.Test.YtgghedhmjhaieaaRows
import Derived.Test.YtgghedhmjhaieaaHTe
namespace Go.Proofs.Ytgghedhmjhaieaa
open Go Go.Kx Go.ChangeShapes Go.WideShapes Go.ChangeAt Go.RowKit

theorem ownK : ownKnob Try.prog.godebug = none := by kernel_rfl
theorem laidOutP : laidOutB Try.prog = true := by kernel_rfl
theorem rdM : Try.prog.readableRec 25 = true := by kernel_rfl
theorem inM : 25 < Try.prog.types.size := of_decide_eq_true (by kernel_rfl)
theorem rdV : Try.prog.readableRec 30 = true := by kernel_rfl
theorem inV : 30 < Try.prog.types.size := of_decide_eq_true (by kernel_rfl)
/-- what a contract says of a call -/
theorem calls_of_CR {P : Program} {f : FuncId} {args : Array Value} {w : World} {v : Value} (h : CR P f args w (Is v)) : Calls P f args w fun e w' => e = .returned v ∧ Below w.heap.size w w' :=
  Calls.mono h fun _ _ ⟨u, he, hx, hv⟩ => by subst hv; exact ⟨he, hx⟩

set_option maxRecDepth 100000 in
theorem matColumns_lifted (os : Os) (started : os.Started) (H : Type) (enc : TypeId × Value → H) :
    ReturnsInHanded {} Try.checked os 7 .any (Rows.matColumnsSpec.pre6 enc Try.prog Try.f7 Rows.matColumnsRow.domain false) (Rows.matColumnsSpec.post enc Try.prog Try.f7 false true false false) := by
  refine returnsInHanded_of_change (C := Try.checked) ownK started (by kernel_rfl) Try.func7
    (ChangeSpec.witness6 (enc := enc) (C := Try.checked) false ⟨#[], #[.slice none 0 0, .slice none 0 0, .slice none 0 0], []⟩ 8 (by kernel_rfl) (by kernel_rfl) (by kernel_rfl) (by kernel_rfl)) ?_
  intro W base args ds gs before hval0 hW _ _
  have hval : ∀ (j : Nat) t v, Try.f7.params[j]? = some t → args[j]? = some v → Value.okWide Try.prog W .any base t v := hval0
  have hW' := hW
  obtain ⟨p, q, hA0, hV, rfl, _, _⟩ := hW
  have hA : DataW.TrodAll enc Try.prog W 0 (fun _ => true) true Try.f7.params.toList args.toList ds p := hA0
  rw [Try.params7] at hA hval
  obtain ⟨v0, v1, v2, d0, d1, d2, p0, p1, p2, rfl, rfl, rfl, h0, h1, h2⟩ := trodAll_three hA
  obtain ⟨rfl, rfl⟩ := trodVars_none hV
  clear hA0 hval0
  simp only [List.append_nil] at hW'
  have hlt : ∀ x ∈ p0 ++ p1 ++ p2, x.block < W.heap.size := fun x hx => by simpa using hW'.lt x (by simpa using hx)
  obtain ⟨a0, r0, _⟩ := Opn.arg un_M opnM (hval 0 25 v0 rfl rfl) h0
  obtain ⟨a1, r1, _⟩ := Opn.arg un_M opnM (hval 1 25 v1 rfl rfl) h1
  obtain ⟨a2, r2, _⟩ := Opn.arg un_V opnV (hval 2 30 v2 rfl rfl) h2
  refine (calls_of_CR (law04_MatColumns_c r0 r1 r2)).mono fun e W' ⟨he, hb⟩ => ?_
  subst he
  exact ⟨_, rfl, _, _, _, [], _, [], hW', trodAll_mk1 (shut_bool Try.underlying4 _),
    trodAll_mk3 (Below.trod laidOutP rdM inM h0 hb fun x hx => hlt x (by simp [hx])) (Below.trod laidOutP rdM inM h1 hb fun x hx => hlt x (by simp [hx])) (Below.trod laidOutP rdV inV h2 hb fun x hx => hlt x (by simp [hx])), rfl, hb.frame _, fun h => by cases h⟩
theorem matColumns_holds : Rows.MatColumnsSaid :=
  OpenClaim.holds_of_wide 7 Try.f7 rfl rfl rfl rfl rfl rfl rfl ⟨rfl, rfl, rfl, rfl, rfl⟩ rfl rfl rfl rfl rfl (by kernel_rfl) Try.func7 (by kernel_rfl)
    (of_decide_eq_true (by kernel_rfl)) (by unfold Func.isWrapper; first | (rw [if_pos (by decide +kernel)]; kernel_rfl) | (rw [if_neg (by decide +kernel)]; exact ⟨rfl, rfl⟩))
    (fun os started H enc _ => matColumns_lifted os started H enc)
end Go.Proofs.Ytgghedhmjhaieaa
