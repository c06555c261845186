/-
  'pylonlaw19.LodfMatches' returns true for all arguments and leaves them as they were; no condition.
-/
import Derived.Test.YtpgkacdihhjknaaGreatG9
import Derived.Test.YtpgkacdihhjknaaGreatRows
namespace Go.Proofs.YtpgkacdihhjknaaGreat
open Go Go.ChangeShapes Go.WideShapes Go.ChangeAt Go.RowKit

theorem ownK : ownKnob Tryz.prog.godebug = none := by kernel_rfl
theorem laidOutP : laidOutB Tryz.prog = true := by kernel_rfl
theorem rdH : Tryz.prog.readableRec 25 = true := by kernel_rfl
theorem inH : 25 < Tryz.prog.types.size := of_decide_eq_true (by kernel_rfl)
theorem rdJ : Tryz.prog.readableRec 3 = true := by kernel_rfl
theorem inJ : 3 < Tryz.prog.types.size := of_decide_eq_true (by kernel_rfl)
theorem rdN : Tryz.prog.readableRec 24 = true := by kernel_rfl
theorem inN : 24 < Tryz.prog.types.size := of_decide_eq_true (by kernel_rfl)
/-- what a contract says of a call -/
theorem BY0 {P : Program} {f : FuncId} {args : Array Value} {w : World} {v : Value} (h : CR P f args w (Is v)) : Calls P f args w fun e w' => e = .returned v ∧ Below w.heap.size w w' :=
  Calls.mono h fun _ _ ⟨u, he, hx, hv⟩ => by subst hv; exact ⟨he, hx⟩

set_option maxRecDepth 100000 in
theorem lodfMatches_lifted (os : Os) (started : os.Started) (H : Type) (enc : TypeId × Value → H) :
    ReturnsInHanded {} Tryz.checked os 9 .any (Rows.lodfMatchesSpec.pre6 enc Tryz.prog Tryz.f9 Rows.lodfMatchesRow.domain false) (Rows.lodfMatchesSpec.post enc Tryz.prog Tryz.f9 false true false false) := by
  refine returnsInHanded_of_change (C := Tryz.checked) ownK started (by kernel_rfl) Tryz.func9
    (ChangeSpec.witness6 (enc := enc) (C := Tryz.checked) false ⟨#[], #[.agg #[.int .i64 0, .slice none 0 0], .slice none 0 0, .int .i64 0], []⟩ 8 (by kernel_rfl) (by kernel_rfl) (by kernel_rfl) (by kernel_rfl)) ?_
  intro W base args ds gs before hval0 hW _ _
  have hval : ∀ (j : Nat) t v, Tryz.f9.params[j]? = some t → args[j]? = some v → Value.okWide Tryz.prog W .any base t v := hval0
  have hW' := hW
  obtain ⟨p, q, hA0, hV, rfl, hfz, _⟩ := hW
  have hA : DataW.TrodAll enc Tryz.prog W 0 (fun _ => true) true Tryz.f9.params.toList args.toList ds p := hA0
  rw [Tryz.params9] at hA hval
  obtain ⟨v0, v1, v2, d0, d1, d2, p0, p1, p2, rfl, rfl, rfl, h0, h1, h2⟩ := trodAll_three hA
  obtain ⟨rfl, rfl⟩ := trodVars_none hV
  clear hA0 hval0
  simp only [List.append_nil] at hW'
  have hlt : ∀ x ∈ p0 ++ p1 ++ p2, x.block < W.heap.size := fun x hx => by simpa using hW'.lt x (by simpa using hx)
  have fz0 : W.noneFrozen p0 := fun b o h => hfz b o (by simp [h])
  have fz1 : W.noneFrozen p1 := fun b o h => hfz b o (by simp [h])
  obtain ⟨a0, r0, _⟩ := Opn.argS rfl Tryz.underlying24 opnN (hval 0 24 v0 rfl rfl) h0 fz0
  obtain ⟨a1, r1, _⟩ := Opn.arg C5 opnH (hval 1 25 v1 rfl rfl) h1 fz1
  obtain ⟨a2, rfl, _, _⟩ := Opn.argI Tryz.underlying3 (hval 2 3 v2 rfl rfl) h2
  refine (BY0 (Ac1 r0 r1)).mono fun e W' ⟨he, hb⟩ => ?_
  subst he
  exact ⟨_, rfl, _, _, _, [], _, [], hW', trodAll_mk1 (shut_bool Tryz.underlying4 _),
    trodAll_mk3 (Below.trod laidOutP rdN inN h0 hb fun x hx => hlt x (by simp [hx])) (Below.trod laidOutP rdH inH h1 hb fun x hx => hlt x (by simp [hx])) (Below.trod laidOutP rdJ inJ h2 hb fun x hx => hlt x (by simp [hx])), rfl, hb.frame _, fun h => by cases h⟩
theorem lodfMatches_holds : Rows.LodfMatchesSaid :=
  OpenClaim.holds_of_wide 9 Tryz.f9 rfl rfl rfl rfl rfl rfl rfl ⟨rfl, rfl, rfl, rfl, rfl⟩ rfl rfl rfl rfl rfl (by kernel_rfl) Tryz.func9 (by kernel_rfl)
    (of_decide_eq_true (by kernel_rfl)) (by unfold Func.isWrapper; first | (rw [if_pos (by decide +kernel)]; kernel_rfl) | (rw [if_neg (by decide +kernel)]; exact ⟨rfl, rfl⟩))
    (fun os started H enc _ => lodfMatches_lifted os started H enc)
end Go.Proofs.YtpgkacdihhjknaaGreat
