/-
  'pylonlaw19.LodfAfter' returns true for all arguments and leaves them as they were; no condition.
-/
import Derived.Test.YtpgkacdihhjknaaGreatG9
import Derived.Test.YtpgkacdihhjknaaGreatRows
namespace Go.Proofs.YtpgkacdihhjknaaGreat
open Go Go.ChangeShapes Go.WideShapes Go.ChangeAt Go.RowKit

theorem ownK : ownKnob Tryz.prog.godebug = none := by kernel_rfl
theorem laidOutP : laidOutB Tryz.prog = true := by kernel_rfl
theorem rdH : Tryz.prog.readableRec 25 = true := by kernel_rfl
theorem inH : 25 < Tryz.prog.types.size := of_decide_eq_true (by kernel_rfl)
theorem rdJ : Tryz.prog.readableRec 3 = true := by kernel_rfl
theorem inJ : 3 < Tryz.prog.types.size := of_decide_eq_true (by kernel_rfl)
theorem rdN : Tryz.prog.readableRec 24 = true := by kernel_rfl
theorem inN : 24 < Tryz.prog.types.size := of_decide_eq_true (by kernel_rfl)
theorem rdV : Tryz.prog.readableRec 26 = true := by kernel_rfl
theorem inV : 26 < Tryz.prog.types.size := of_decide_eq_true (by kernel_rfl)
/-- what a contract says of a call -/
theorem BI3 {P : Program} {f : FuncId} {args : Array Value} {w : World} {v : Value} (h : CR P f args w (Is v)) : Calls P f args w fun e w' => e = .returned v ∧ Below w.heap.size w w' :=
  Calls.mono h fun _ _ ⟨u, he, hx, hv⟩ => by subst hv; exact ⟨he, hx⟩

set_option maxRecDepth 100000 in
theorem lodfAfter_lifted (os : Os) (started : os.Started) (H : Type) (enc : TypeId × Value → H) :
    ReturnsInHanded {} Tryz.checked os 8 .any (Rows.lodfAfterSpec.pre6 enc Tryz.prog Tryz.f8 Rows.lodfAfterRow.domain false) (Rows.lodfAfterSpec.post enc Tryz.prog Tryz.f8 false true false false) := by
  refine returnsInHanded_of_change (C := Tryz.checked) ownK started (by kernel_rfl) Tryz.func8
    (ChangeSpec.witness6 (enc := enc) (C := Tryz.checked) false ⟨#[], #[.agg #[.int .i64 0, .slice none 0 0], .slice none 0 0, .int .i64 0, .slice none 0 0], []⟩ 8 (by kernel_rfl) (by kernel_rfl) (by kernel_rfl) (by kernel_rfl)) ?_
  intro W base args ds gs before hval0 hW _ _
  have hval : ∀ (j : Nat) t v, Tryz.f8.params[j]? = some t → args[j]? = some v → Value.okWide Tryz.prog W .any base t v := hval0
  have hW' := hW
  obtain ⟨p, q, hA0, hV, rfl, hfz, _⟩ := hW
  have hA : DataW.TrodAll enc Tryz.prog W 0 (fun _ => true) true Tryz.f8.params.toList args.toList ds p := hA0
  rw [Tryz.params8] at hA hval
  obtain ⟨v0, v1, v2, v3, d0, d1, d2, d3, p0, p1, p2, p3, rfl, rfl, rfl, h0, h1, h2, h3⟩ := trodAll_four hA
  obtain ⟨rfl, rfl⟩ := trodVars_none hV
  clear hA0 hval0
  simp only [List.append_nil] at hW'
  have hlt : ∀ x ∈ p0 ++ p1 ++ p2 ++ p3, x.block < W.heap.size := fun x hx => by simpa using hW'.lt x (by simpa using hx)
  have fz0 : W.noneFrozen p0 := fun b o h => hfz b o (by simp [h])
  have fz1 : W.noneFrozen p1 := fun b o h => hfz b o (by simp [h])
  have fz3 : W.noneFrozen p3 := fun b o h => hfz b o (by simp [h])
  obtain ⟨a0, r0, _⟩ := Opn.argS rfl Tryz.underlying24 opnN (hval 0 24 v0 rfl rfl) h0 fz0
  obtain ⟨a1, r1, _⟩ := Opn.arg un_I opnH (hval 1 25 v1 rfl rfl) h1 fz1
  obtain ⟨a2, rfl, _, _⟩ := Opn.argI Tryz.underlying3 (hval 2 3 v2 rfl rfl) h2
  obtain ⟨a3, r3, _⟩ := Opn.arg un_V opnV (hval 3 26 v3 rfl rfl) h3 fz3
  refine (BI3 (AY3 r0 r1 r3)).mono fun e W' ⟨he, hb⟩ => ?_
  subst he
  exact ⟨_, rfl, _, _, _, [], _, [], hW', trodAll_mk1 (shut_bool Tryz.underlying4 _),
    trodAll_mk4 (Below.trod laidOutP rdN inN h0 hb fun x hx => hlt x (by simp [hx])) (Below.trod laidOutP rdH inH h1 hb fun x hx => hlt x (by simp [hx])) (Below.trod laidOutP rdJ inJ h2 hb fun x hx => hlt x (by simp [hx])) (Below.trod laidOutP rdV inV h3 hb fun x hx => hlt x (by simp [hx])), rfl, hb.frame _, fun h => by cases h⟩
theorem lodfAfter_holds : Rows.LodfAfterSaid :=
  OpenClaim.holds_of_wide 8 Tryz.f8 rfl rfl rfl rfl rfl rfl rfl ⟨rfl, rfl, rfl, rfl, rfl⟩ rfl rfl rfl rfl rfl (by kernel_rfl) Tryz.func8 (by kernel_rfl)
    (of_decide_eq_true (by kernel_rfl)) (by unfold Func.isWrapper; first | (rw [if_pos (by decide +kernel)]; kernel_rfl) | (rw [if_neg (by decide +kernel)]; exact ⟨rfl, rfl⟩))
    (fun os started H enc _ => lodfAfter_lifted os started H enc)
end Go.Proofs.YtpgkacdihhjknaaGreat
