/-
  'pylonlaw38.RightRevenueAdequacy' returns true for all arguments that hold at most 1048576 values in all, and leaves them as they were.
-/
import Derived.Test.YtfilidfomgfnhaaGreatG6
import Derived.Test.YtfilidfomgfnhaaGreatRows
import Derived.JoinedCond
namespace Go.Proofs.YtfilidfomgfnhaaGreat
open Go Go.Kx Go.ChangeShapes Go.WideShapes Go.ChangeAt Go.RowKit

theorem ownK : ownKnob Tryz.prog.godebug = none := by kernel_rfl
theorem laidOutP : laidOutB Tryz.prog = true := by kernel_rfl
theorem rdTH : Tryz.prog.readableRec 25 = true := by kernel_rfl
theorem inTH : 25 < Tryz.prog.types.size := of_decide_eq_true (by kernel_rfl)
theorem rdTN : Tryz.prog.readableRec 24 = true := by kernel_rfl
theorem inTN : 24 < Tryz.prog.types.size := of_decide_eq_true (by kernel_rfl)
theorem rdTR : Tryz.prog.readableRec 57 = true := by kernel_rfl
theorem inTR : 57 < Tryz.prog.types.size := of_decide_eq_true (by kernel_rfl)
theorem rdTV : Tryz.prog.readableRec 32 = true := by kernel_rfl
theorem inTV : 32 < Tryz.prog.types.size := of_decide_eq_true (by kernel_rfl)
/-- what a contract says of a call -/
theorem Af8 {P : Program} {f : FuncId} {args : Array Value} {w : World} {v : Value} (h : CR P f args w (Is v)) : Calls P f args w fun e w' => e = .returned v ∧ Below w.heap.size w w' :=
  Calls.mono h fun _ _ ⟨u, he, hx, hv⟩ => by subst hv; exact ⟨he, hx⟩

set_option maxRecDepth 100000 in
theorem rightRevenueAdequacy_lifted (os : Os) (started : os.Started) (H : Type) (enc : TypeId × Value → H) (F : Stop.Interp) :
    ReturnsInHanded {} Tryz.checked os 11 .any ((Rows.OpenSpec.upto Rows.rightRevenueAdequacySpec).pre6 enc Tryz.prog Tryz.f11 Rows.rightRevenueAdequacyUptoRow.domain false) (((Rows.OpenSpec.upto Rows.rightRevenueAdequacySpec).at F).post enc Tryz.prog Tryz.f11 false true false false) := by
  refine returnsInHanded_of_cond (C := Tryz.checked) (s := Rows.OpenSpec.upto Rows.rightRevenueAdequacySpec) (k := Rows.uptoSmall) rfl ownK started (by kernel_rfl) Tryz.func11
    (OpenSpec.witness (enc := enc) (C := Tryz.checked) (s := Rows.OpenSpec.upto Rows.rightRevenueAdequacySpec) (k := Rows.uptoSmall) rfl false ⟨#[], #[.agg #[.int .i64 0, .slice none 0 0], .slice none 0 0, .slice none 0 0, .slice none 0 0, .slice none 0 0], []⟩ 8 (by kernel_rfl) (by kernel_rfl) (by kernel_rfl)
      (x := ([.agg [.lit (.int .i64 0), .nil], .nil, .nil, .nil, .nil], [], [])) (by kernel_rfl) rfl (by kernel_rfl)) ?_
  intro W base args ds gs before hval0 hW _ hk _
  have hval : ∀ (j : Nat) t v, Tryz.f11.params[j]? = some t → args[j]? = some v → Value.okWide Tryz.prog W .any base t v := hval0
  have hW' := hW
  obtain ⟨p, q, hA0, hV, rfl, hfz, _⟩ := hW
  have hA : DataW.TrodAll enc Tryz.prog W 0 (fun _ => true) true Tryz.f11.params.toList args.toList ds p := hA0
  rw [Tryz.params11] at hA hval
  obtain ⟨v0, v1, v2, v3, v4, d0, d1, d2, d3, d4, p0, p1, p2, p3, p4, rfl, rfl, rfl, h0, h1, h2, h3, h4⟩ := AX7 hA
  obtain ⟨rfl, rfl⟩ := trodVars_none hV
  clear hA0 hval0
  simp only [List.append_nil] at hW'
  have hlt : ∀ x ∈ p0 ++ p1 ++ p2 ++ p3 ++ p4, x.block < W.heap.size := fun x hx => by simpa using hW'.lt x (by simpa using hx)
  have hb := of_decide_eq_true hk
  simp only [List.append_nil, Rows.uptoBulkAll] at hb
  have fz0 : W.noneFrozen p0 := fun b o h => hfz b o (by simp [h])
  have fz1 : W.noneFrozen p1 := fun b o h => hfz b o (by simp [h])
  have fz2 : W.noneFrozen p2 := fun b o h => hfz b o (by simp [h])
  have fz3 : W.noneFrozen p3 := fun b o h => hfz b o (by simp [h])
  have fz4 : W.noneFrozen p4 := fun b o h => hfz b o (by simp [h])
  obtain ⟨a0, r0, _⟩ := Opn.argS rfl Tryz.underlying24 opnN (hval 0 24 v0 rfl rfl) h0 fz0
  obtain ⟨a1, r1, _⟩ := Opn.arg un_I opnH (hval 1 25 v1 rfl rfl) h1 fz1
  obtain ⟨a2, r2, _⟩ := Opn.arg K2 opnR (hval 2 57 v2 rfl rfl) h2 fz2
  obtain ⟨a3, r3, z3⟩ := Opn.arg un_V opnVb (hval 3 32 v3 rfl rfl) h3 fz3
  obtain ⟨a4, r4, z4⟩ := Opn.arg un_V opnVb (hval 4 32 v4 rfl rfl) h4 fz4
  refine (Af8 (P2 r0 r1 r2 r3 (Ae4 r3 z3 (by omega)) r4 (Ae4 r4 z4 (by omega)))).mono fun e W' ⟨he, hb⟩ => ?_
  subst he
  exact ⟨_, rfl, _, _, _, [], _, [], hW', trodAll_mk1 (shut_bool Tryz.underlying4 _),
    Ad5 (Below.trod laidOutP rdTN inTN h0 hb fun x hx => hlt x (by simp [hx])) (Below.trod laidOutP rdTH inTH h1 hb fun x hx => hlt x (by simp [hx])) (Below.trod laidOutP rdTR inTR h2 hb fun x hx => hlt x (by simp [hx])) (Below.trod laidOutP rdTV inTV h3 hb fun x hx => hlt x (by simp [hx])) (Below.trod laidOutP rdTV inTV h4 hb fun x hx => hlt x (by simp [hx])), rfl, hb.frame _, fun h => by cases h⟩
theorem rightRevenueAdequacy_holds : Rows.RightRevenueAdequacyUptoSaid :=
  OpenClaim.holds_of_cond 11 Tryz.f11 rfl rfl rfl rfl rfl rfl rfl ⟨rfl, rfl, rfl, rfl, rfl⟩ rfl rfl rfl rfl rfl (by kernel_rfl) Tryz.func11 (by kernel_rfl)
    (of_decide_eq_true (by kernel_rfl)) (by unfold Func.isWrapper; first | (rw [if_pos (by decide +kernel)]; kernel_rfl) | (rw [if_neg (by decide +kernel)]; exact ⟨rfl, rfl⟩))
    (fun os started H enc _ F => rightRevenueAdequacy_lifted os started H enc F)
end Go.Proofs.YtfilidfomgfnhaaGreat
