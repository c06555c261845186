/-
  'pylonlaw04.MatLimit' returns true for all l and n and leaves them as they were, where what it reads holds at most 1048576 values.
-/
import Derived.Test.YtgghedhmjhaieaaRows
import Derived.Test.YtgghedhmjhaieaaHTd
import Derived.JoinedCond
namespace Go.Proofs.Ytgghedhmjhaieaa
open Go Go.Kx Go.ChangeShapes Go.WideShapes Go.ChangeAt Go.RowKit

theorem ownK : ownKnob Try.prog.godebug = none := by kernel_rfl
theorem laidOutP : laidOutB Try.prog = true := by kernel_rfl
theorem rdLL : Try.prog.readableRec 23 = true := by kernel_rfl
theorem inLL : 23 < Try.prog.types.size := of_decide_eq_true (by kernel_rfl)
/-- what a contract says of a call -/
theorem calls_of_CR {P : Program} {f : FuncId} {args : Array Value} {w : World} {v : Value} (h : CR P f args w (Is v)) : Calls P f args w fun e w' => e = .returned v ∧ Below w.heap.size w w' :=
  Calls.mono h fun _ _ ⟨u, he, hx, hv⟩ => by subst hv; exact ⟨he, hx⟩
theorem bulk_one {H : Type} (d : DataW H) : 1 ≤ Rows.uptoBulk d := by
  cases d with
  | lit l => cases l <;> simp [Rows.uptoBulk]
  | _ => simp [Rows.uptoBulk]
theorem bulk_len {H : Type} (l : List (DataW H)) : l.length ≤ Rows.uptoBulkAll l := by
  induction l with
  | nil => simp
  | cons x r ih =>
    have := bulk_one x
    simp only [Rows.uptoBulkAll, List.length_cons]; omega
theorem bulk_mem {H : Type} {d : DataW H} {l : List (DataW H)} (h : d ∈ l) : Rows.uptoBulk d ≤ Rows.uptoBulkAll l := by
  induction l with
  | nil => cases h
  | cons x r ih =>
    simp only [Rows.uptoBulkAll]
    rcases List.mem_cons.1 h with rfl | h
    · omega
    · have := ih h; omega
theorem rows_small {H : Type} {d : DataW H} {l : List (List Int)} (hz : ZL (ZL fun _ _ => True) d l) : ∀ r ∈ l, r.length ≤ Rows.uptoBulk d := by
  intro r hr
  rcases hz with ⟨_, rfl⟩ | ⟨elems, spare, rfl, hl, hz⟩
  · cases hr
  · obtain ⟨i, hi⟩ := List.mem_iff_getElem?.1 hr
    have hlt := mem_lt hi
    obtain ⟨d', hd'⟩ : ∃ d', elems[i]? = some d' := ⟨_, List.getElem?_eq_getElem (by rw [hl]; exact hlt)⟩
    have h1 := bulk_mem (List.mem_iff_getElem?.2 ⟨i, hd'⟩)
    simp only [Rows.uptoBulk]
    rcases hz i d' r hd' hi with ⟨_, rfl⟩ | ⟨el, sp, rfl, hl', _⟩
    · simp
    · have h2 := bulk_len el
      simp only [Rows.uptoBulk] at h1
      omega

set_option maxRecDepth 100000 in
theorem matLimit_lifted (os : Os) (started : os.Started) (H : Type) (enc : TypeId × Value → H) (F : Stop.Interp) :
    ReturnsInHanded {} Try.checked os 4 .any ((Rows.OpenSpec.upto Rows.matLimitSpec).pre6 enc Try.prog Try.f4 Rows.matLimitUptoRow.domain false) (((Rows.OpenSpec.upto Rows.matLimitSpec).at F).post enc Try.prog Try.f4 false true false false) := by
  refine returnsInHanded_of_cond (C := Try.checked) (s := Rows.OpenSpec.upto Rows.matLimitSpec) (k := Rows.uptoSmall) rfl ownK started (by kernel_rfl) Try.func4
    (OpenSpec.witness (enc := enc) (C := Try.checked) (s := Rows.OpenSpec.upto Rows.matLimitSpec) (k := Rows.uptoSmall) rfl false ⟨#[], #[.slice none 0 0, .int .i64 0], []⟩ 8 (by kernel_rfl) (by kernel_rfl) (by kernel_rfl)
      (x := ([.nil, .lit (.int .i64 0)], [], [])) (by kernel_rfl) rfl (by kernel_rfl)) ?_
  intro W base args ds gs before hval0 hW _ hk _
  have hval : ∀ (j : Nat) t v, Try.f4.params[j]? = some t → args[j]? = some v → Value.okWide Try.prog W .any base t v := hval0
  have hW' := hW
  obtain ⟨p, q, hA0, hV, rfl, _, _⟩ := hW
  have hA : DataW.TrodAll enc Try.prog W 0 (fun _ => true) true Try.f4.params.toList args.toList ds p := hA0
  rw [Try.params4] at hA hval
  obtain ⟨v0, v1, d0, d1, p0, p1, rfl, rfl, rfl, h0, h1⟩ := trodAll_two hA
  obtain ⟨rfl, rfl⟩ := trodVars_none hV
  clear hA0 hval0
  obtain ⟨n, rfl, rfl, rfl, wn⟩ := open_int Try.underlying3 (hval 1 3 v1 rfl rfl) h1
  simp only [List.append_nil] at hW'
  have hlt : ∀ x ∈ p0, x.block < W.heap.size := fun x hx => by simpa using hW'.lt x (by simpa using hx)
  obtain ⟨l, rl, hz⟩ := Opn.arg un_LL opnII (hval 0 23 v0 rfl rfl) h0
  have hb := of_decide_eq_true hk
  simp only [List.append_nil, Rows.uptoBulkAll] at hb
  have hs := rows_small hz
  refine (calls_of_CR (law04_MatLimit_c (n := n) rl fun r hr => by have := hs r hr; omega)).mono fun e W' ⟨he, hb⟩ => ?_
  subst he
  have harg : DataW.TrodAll enc Try.prog W' 0 (fun b => decide (b < W.heap.size)) true [23, 3] [v0, .int .i64 n] [d0, .lit (.int .i64 n)] (p0 ++ []) :=
    trodAll_mk2 (Below.trod laidOutP rdLL inLL h0 hb hlt) (shut_int Try.underlying3 wn)
  rw [List.append_nil] at harg
  exact ⟨_, rfl, _, _, _, [], _, [], hW', trodAll_mk1 (shut_bool Try.underlying4 _), harg, rfl, hb.frame _, fun h => by cases h⟩
theorem matLimit_holds : Rows.MatLimitUptoSaid :=
  OpenClaim.holds_of_cond 4 Try.f4 rfl rfl rfl rfl rfl rfl rfl ⟨rfl, rfl, rfl, rfl, rfl⟩ rfl rfl rfl rfl rfl (by kernel_rfl) Try.func4 (by kernel_rfl)
    (of_decide_eq_true (by kernel_rfl)) (by unfold Func.isWrapper; first | (rw [if_pos (by decide +kernel)]; kernel_rfl) | (rw [if_neg (by decide +kernel)]; exact ⟨rfl, rfl⟩))
    (fun os started H enc _ F => matLimit_lifted os started H enc F)
end Go.Proofs.Ytgghedhmjhaieaa
