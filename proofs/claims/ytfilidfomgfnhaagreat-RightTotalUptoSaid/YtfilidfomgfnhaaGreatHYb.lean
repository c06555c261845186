/-
  'pylonlaw38.RightTotal' returns true for all arguments that hold at most 1048576 values in all, and leaves them as they were.
-/
import Derived.Test.YtfilidfomgfnhaaGreatG6
import Derived.Test.YtfilidfomgfnhaaGreatRows
import Derived.JoinedCond
namespace Go.Proofs.YtfilidfomgfnhaaGreat
open Go Go.Kx Go.ChangeShapes Go.WideShapes Go.ChangeAt Go.RowKit

theorem ownK : ownKnob Tryz.prog.godebug = none := by kernel_rfl
theorem laidOutP : laidOutB Tryz.prog = true := by kernel_rfl
theorem rdTR : Tryz.prog.readableRec 57 = true := by kernel_rfl
theorem inTR : 57 < Tryz.prog.types.size := of_decide_eq_true (by kernel_rfl)
theorem rdTV : Tryz.prog.readableRec 32 = true := by kernel_rfl
theorem inTV : 32 < Tryz.prog.types.size := of_decide_eq_true (by kernel_rfl)
/-- what a contract says of a call -/
theorem Ad5 {P : Program} {f : FuncId} {args : Array Value} {w : World} {v : Value} (h : CR P f args w (Is v)) : Calls P f args w fun e w' => e = .returned v ∧ Below w.heap.size w w' :=
  Calls.mono h fun _ _ ⟨u, he, hx, hv⟩ => by subst hv; exact ⟨he, hx⟩

set_option maxRecDepth 100000 in
theorem rightTotal_lifted (os : Os) (started : os.Started) (H : Type) (enc : TypeId × Value → H) (F : Stop.Interp) :
    ReturnsInHanded {} Tryz.checked os 10 .any ((Rows.OpenSpec.upto Rows.rightTotalSpec).pre6 enc Tryz.prog Tryz.f10 Rows.rightTotalUptoRow.domain false) (((Rows.OpenSpec.upto Rows.rightTotalSpec).at F).post enc Tryz.prog Tryz.f10 false true false false) := by
  refine returnsInHanded_of_cond (C := Tryz.checked) (s := Rows.OpenSpec.upto Rows.rightTotalSpec) (k := Rows.uptoSmall) rfl ownK started (by kernel_rfl) Tryz.func10
    (OpenSpec.witness (enc := enc) (C := Tryz.checked) (s := Rows.OpenSpec.upto Rows.rightTotalSpec) (k := Rows.uptoSmall) rfl false ⟨#[], #[.slice none 0 0, .slice none 0 0], []⟩ 8 (by kernel_rfl) (by kernel_rfl) (by kernel_rfl)
      (x := ([.nil, .nil], [], [])) (by kernel_rfl) rfl (by kernel_rfl)) ?_
  intro W base args ds gs before hval0 hW _ hk _
  have hval : ∀ (j : Nat) t v, Tryz.f10.params[j]? = some t → args[j]? = some v → Value.okWide Tryz.prog W .any base t v := hval0
  have hW' := hW
  obtain ⟨p, q, hA0, hV, rfl, hfz, _⟩ := hW
  have hA : DataW.TrodAll enc Tryz.prog W 0 (fun _ => true) true Tryz.f10.params.toList args.toList ds p := hA0
  rw [Tryz.params10] at hA hval
  obtain ⟨v0, v1, d0, d1, p0, p1, rfl, rfl, rfl, h0, h1⟩ := trodAll_two hA
  obtain ⟨rfl, rfl⟩ := trodVars_none hV
  clear hA0 hval0
  simp only [List.append_nil] at hW'
  have hlt : ∀ x ∈ p0 ++ p1, x.block < W.heap.size := fun x hx => by simpa using hW'.lt x (by simpa using hx)
  have hb := of_decide_eq_true hk
  simp only [List.append_nil, Rows.uptoBulkAll] at hb
  have fz0 : W.noneFrozen p0 := fun b o h => hfz b o (by simp [h])
  have fz1 : W.noneFrozen p1 := fun b o h => hfz b o (by simp [h])
  obtain ⟨a0, r0, _⟩ := Opn.arg I5 opnR (hval 0 57 v0 rfl rfl) h0 fz0
  obtain ⟨a1, r1, z1⟩ := Opn.arg un_V opnVb (hval 1 32 v1 rfl rfl) h1 fz1
  refine (Ad5 (AC8 r0 r1 (As8 r1 z1 (by omega)))).mono fun e W' ⟨he, hb⟩ => ?_
  subst he
  exact ⟨_, rfl, _, _, _, [], _, [], hW', trodAll_mk1 (shut_bool Tryz.underlying4 _),
    trodAll_mk2 (Below.trod laidOutP rdTR inTR h0 hb fun x hx => hlt x (by simp [hx])) (Below.trod laidOutP rdTV inTV h1 hb fun x hx => hlt x (by simp [hx])), rfl, hb.frame _, fun h => by cases h⟩
theorem rightTotal_holds : Rows.RightTotalUptoSaid :=
  OpenClaim.holds_of_cond 10 Tryz.f10 rfl rfl rfl rfl rfl rfl rfl ⟨rfl, rfl, rfl, rfl, rfl⟩ rfl rfl rfl rfl rfl (by kernel_rfl) Tryz.func10 (by kernel_rfl)
    (of_decide_eq_true (by kernel_rfl)) (by unfold Func.isWrapper; first | (rw [if_pos (by decide +kernel)]; kernel_rfl) | (rw [if_neg (by decide +kernel)]; exact ⟨rfl, rfl⟩))
    (fun os started H enc _ F => rightTotal_lifted os started H enc F)
end Go.Proofs.YtfilidfomgfnhaaGreat
