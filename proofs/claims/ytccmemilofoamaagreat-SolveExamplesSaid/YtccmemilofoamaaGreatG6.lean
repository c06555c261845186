/-
  law 05: alive; SolveExamples
-/
import Derived.Test.YtccmemilofoamaaGreatG5
set_option linter.unusedVariables false
namespace Go.Proofs.YtccmemilofoamaaGreat
open Go Go.Kx Go.RowKit
theorem isM_t {w : World} {va vb : Value} {a b : List (List QV)} (ha : eM.R (fun _ => True) w va a) (hb : eM.R (fun _ => True) w vb b) (h : a = b) : CR Tryz.prog 20 #[va, vb] w (Is (.bool true)) := by
  have := ref04_Is_c ha hb
  rwa [same_true h] at this
theorem isV_t {w : World} {va vb : Value} {a b : List QV} (ha : eV.R (fun _ => True) w va a) (hb : eV.R (fun _ => True) w vb b) (h : a = b) : CR Tryz.prog 19 #[va, vb] w (Is (.bool true)) := by
  have := ref03_Is_c ha hb
  rwa [same_true h] at this
theorem isQ_t {w : World} {va vb : Value} {a b : QV} (ha : eQ.R (fun _ => True) w va a) (hb : eQ.R (fun _ => True) w vb b) (h : a = b) : CR Tryz.prog 22 #[va, vb] w (Is (.bool true)) := by
  have := ref02_Is_c ha hb
  rwa [same_true h] at this
theorem bsl_V2 {x y z u x' y' z' u' : Value} : bslOf Tryz.prog 23 2 [(0, .agg #[x, y, z, u]), (1, .agg #[x', y', z', u'])] = some (37, #[x, y, z, u, x', y', z', u']) := by kernel_rfl
theorem ok5 (l : List (List Int)) (h : ∀ r ∈ l, ∀ n ∈ r, -9223372036854775808 ≤ n ∧ n ≤ 9223372036854775807) (hl : l.length ≤ 2) (hc : colsOf (intsM l) ≤ 2) : eOk 2 2 2 (intsM l) := ⟨mk_intsM h, by decide, by decide, by omega, by rw [intsM_length]; omega, hc, by decide⟩

theorem ob_V2 {w : World} {σ : Env} {d : Option Tmp} {ty : TypeId} {pos : String} {af : Array Edge} {g : Option (Nat × Bool)} {x y : Operand} {u v : Value} {a b : QV} (hu : eQ.R (fun _ => True) w u a) (hv : eQ.R (fun _ => True) w v b) (hx : ev σ x = some u := by rfl) (hy : ev σ y = some v := by rfl) :
    Gv Tryz.prog ⟨d, .buildSlice 23 2 #[(0, x), (1, y)], ty, pos, af, g⟩ σ w fun v' w' => Ext w w' ∧ Sp.ok (.inr (eV.at (fun _ => True) [a, b])) v' w' := by
  have hu' := hu
  have hv' := hv
  obtain ⟨s, t, rfl, _, _⟩ := hu'
  obtain ⟨s', t', rfl, _, _⟩ := hv'
  refine (g_bsl (ps := [(0, x), (1, y)]) [(0, .agg #[.bool a.num.neg, s, .bool a.den.neg, t]), (1, .agg #[.bool b.num.neg, s', .bool b.den.neg, t'])] (by simp [evp, hx, hy]) bsl_V2).mono fun v' w' ⟨b2, hv', n2⟩ => ⟨n2.1, fun w'' e => ?_⟩
  have hz : eV.R (fun _ => True) w' (.slice (some ⟨b2, 0, none⟩) 2 2) [a, b] := by
    refine RL.ofBlk (l := [a, b]) (es := [.agg #[.bool a.num.neg, s, .bool a.den.neg, t], .agg #[.bool b.num.neg, s', .bool b.den.neg, t']]) n2.2.1 trivial (Els.snoc (Els.snoc Els.nil (ER.ext eQ hu n2.1)) (ER.ext eQ hv n2.1)) (fun j u hu => ?_) (Nat.le_refl _) (by simp)
    simpa [cellsOf, Value.cells] using hu
  rw [hv']
  exact ER.ext eV hz e
theorem ob_M2 {w : World} {σ : Env} {d : Option Tmp} {ty : TypeId} {pos : String} {af : Array Edge} {g : Option (Nat × Bool)} {x y : Operand} {u v : Value} {a b : List QV} (hu : eV.R (fun _ => True) w u a) (hv : eV.R (fun _ => True) w v b) (hx : ev σ x = some u := by rfl) (hy : ev σ y = some v := by rfl) :
    Gv Tryz.prog ⟨d, .buildSlice 22 2 #[(0, x), (1, y)], ty, pos, af, g⟩ σ w fun v' w' => Ext w w' ∧ Sp.ok (.inr (eM.at (fun _ => True) [a, b])) v' w' := by
  obtain ⟨a1, c1, h1, _⟩ := RL.len hu
  obtain ⟨a2, c2, h2, _⟩ := RL.len hv
  refine (g_bsl (ps := [(0, x), (1, y)]) [(0, u), (1, v)] (by simp [evp, hx, hy]) (cs := #[u, v]) (e := 23) (by rw [h1, h2]; exact bsl_M2)).mono fun v' w' ⟨b2, hv', n2⟩ => ⟨n2.1, fun w'' e => ?_⟩
  have := eS_new (E := eQ) (hsz := by decide) (n := 2) [u, v] [a, b] n2 upT rfl rfl (by decide) (Els.snoc (Els.snoc Els.nil hu) hv)
  rw [hv']
  exact ER.ext eM this e
theorem ob_L2 {w : World} {σ : Env} {d : Option Tmp} {ty : TypeId} {pos : String} {af : Array Edge} {g : Option (Nat × Bool)} {m n : Int} (h : (-9223372036854775808 ≤ m ∧ m ≤ 9223372036854775807) ∧ -9223372036854775808 ≤ n ∧ n ≤ 9223372036854775807) :
    Gv Tryz.prog ⟨d, .buildSlice 72 2 #[(0, .const (.int .i64 m)), (1, .const (.int .i64 n))], ty, pos, af, g⟩ σ w fun v' w' => Ext w w' ∧ Sp.ok (.inr (eI.at (fun _ => True) [m, n])) v' w' :=
  (g_bsl (ps := [(0, .const (.int .i64 m)), (1, .const (.int .i64 n))]) _ rfl bsl_L2).mono fun v' w' ⟨b2, hv', n2⟩ => ⟨n2.1, fun w'' e => by
    rw [hv']
    exact ER.ext eI (eI_new [m, n] 2 n2 upT rfl rfl (by intro x hx; simp at hx; rcases hx with rfl | rfl; exact h.1; exact h.2) (by omega)) e⟩

theorem E_law05_alive : Ent Tryz.prog 12 := ent_of Tryz.func12 (by kernel_rfl) rfl
theorem law05_alive_c {w : World} : CR Tryz.prog 12 #[] w (Is (.bool true)) := by
  have hkm : mk_ 2 (intsM l5m) := mk_intsM (by decide)
  have hks : mk_ 2 (intsM l5s) := mk_intsM (by decide)
  refine enter Tryz.func12 rfl Tryz.ntmps12 rfl ?_
  refine .seq (.region (.asg rfl rfl (.nil (.seq (.region (.asg rfl rfl (.nil ?_)))))))
  refine .seq (.region (.mv rfl rfl (.bsl _ rfl rfl bsl_L2 fun w1 b1 n1 => .bsl _ rfl rfl bsl_L2 fun w2 b2 n2 => .bsl _ rfl rfl bsl_LL2 fun w3 b3 n3 => ?_)))
  have h1 := eI_new [2, 4] 2 n1 upT rfl rfl (by decide) (by omega)
  have h2 := eI_new [1, 3] 2 n2 upT rfl rfl (by decide) (by omega)
  have h3 := eII_new2 n3 upT (h1.ext n2.1) h2
  refine .callv [_] rfl rfl E_ref04_Ints rfl (ref04_Ints_c upT h3 (by decide) (by decide)) fun vm w4 e4 hm => ?_
  have y4 := ((n1.1.trans n2.1).trans n3.1).trans e4
  refine .mv rfl rfl (.bsl _ rfl rfl bsl_L2 fun w5 b5 n5 => .bsl _ rfl rfl bsl_L2 fun w6 b6 n6 => .bsl _ rfl rfl bsl_LL2 fun w7 b7 n7 => ?_)
  have h5 := eI_new [1, 2] 2 n5 upT rfl rfl (by decide) (by omega)
  have h6 := eI_new [2, 4] 2 n6 upT rfl rfl (by decide) (by omega)
  have h7 := eII_new2 n7 upT (h5.ext n6.1) h6
  refine .callv [_] rfl rfl E_ref04_Ints rfl (ref04_Ints_c upT h7 (by decide) (by decide)) fun vs w8 e8 hs => .asg rfl rfl (.asg rfl rfl (.nil ?_))
  have y8 := ((n5.1.trans n6.1).trans n7.1).trans e8
  have x8 := y4.trans y8
  have hm := hm.ext y8
  clear h1 h2 h3 h5 h6 h7
  replace hm : eM.R (fun _ => True) w8 vm (intsM l5m) := hm
  replace hs : eM.R (fun _ => True) w8 vs (intsM l5s) := hs
  -- Solve(m, (6, 4))
  refine .seq (.region (.mv rfl rfl (.bsl _ rfl rfl bsl_L2 fun w9 b9 n9 => ?_)))
  have h9 := eI_new [6, 4] 2 n9 upT rfl rfl (by decide) (by omega)
  refine .call _ rfl E_vec_FromInts rfl (vec_FromInts_c upT h9 (by decide)) fun v10 w10 e10 h10 => ?_
  replace h10 : eV.R (fun _ => True) w10 v10 (intsV [6, 4]) := h10
  have y10 := n9.1.trans e10
  refine .call _ rfl E_solve_Solve rfl (solve_Solve_c (L := 2) (n := 2) upT (hm.ext y10) h10 hkm (vk_intsV (by decide)) (by decide) (by rw [intsM_length]; decide) (by rw [intsV_length]; decide) (by rw [cols_m]; decide) (by rw [intsM_length, intsV_length]; decide) (by decide)) fun v11 w11 e11 h11 => ?_
  obtain ⟨vx, vf, ve, rfl, hx, hf, he⟩ := h11
  rw [if_pos solvable_1] at he
  replace he : ve = .int .i64 0 := he
  subst he
  rw [if_pos solvable_1, solX_1] at hx
  rw [if_pos solvable_1, null_m] at hf
  have x11 := (x8.trans y10).trans e11
  have z11 := y10.trans e11
  have hm := hm.ext z11
  have hs := hs.ext z11
  refine .mv rfl rfl (.ext rfl rfl rfl (.ext rfl rfl rfl (.ext rfl rfl rfl (.asg rfl rfl (.asg rfl rfl (.asg rfl rfl (.nil ?_)))))))
  -- Reduce(s)
  refine .seq (.region (.mv rfl rfl ?_))
  refine .call _ rfl E_solve_Reduce rfl (solve_Reduce_c upT hs (ok5 l5s (by decide) (by decide) (by rw [cols_s]; decide))) fun v12 w12 e12 h12 => ?_
  obtain ⟨vr, vp, rfl, hr, hp⟩ := h12
  rw [redM_s] at hr
  rw [redP_s] at hp
  refine .mv rfl rfl (.ext rfl rfl rfl (.ext rfl rfl rfl (.asg rfl rfl (.asg rfl rfl (.nil ?_)))))
  -- NullSpace(s)
  refine .seq (.region (.mv rfl rfl ?_))
  refine .call _ rfl E_solve_NullSpace rfl (solve_NullSpace_c upT (hs.ext e12) (ok5 l5s (by decide) (by decide) (by rw [cols_s]; decide))) fun vn w13 e13 hn => .asg rfl rfl (.nil ?_)
  rw [null_s] at hn
  have z13 := e12.trans e13
  have hs := hs.ext z13
  have hm := hm.ext z13
  have hx := hx.ext z13
  have hf := hf.ext z13
  have hr := hr.ext e13
  have hp := hp.ext e13
  have x13 := x11.trans z13
  -- Solve(s, (1, 3))
  refine .seq (.region (.mv rfl rfl (.bsl _ rfl rfl bsl_L2 fun w14 b14 n14 => ?_)))
  have h14 := eI_new [1, 3] 2 n14 upT rfl rfl (by decide) (by omega)
  refine .call _ rfl E_vec_FromInts rfl (vec_FromInts_c upT h14 (by decide)) fun v15 w15 e15 h15 => ?_
  replace h15 : eV.R (fun _ => True) w15 v15 (intsV [1, 3]) := h15
  have y15 := n14.1.trans e15
  refine .call _ rfl E_solve_Solve rfl (solve_Solve_c (L := 2) (n := 2) upT (hs.ext y15) h15 hks (vk_intsV (by decide)) (by decide) (by rw [intsM_length]; decide) (by rw [intsV_length]; decide) (by rw [cols_s]; decide) (by rw [intsM_length, intsV_length]; decide) (by decide)) fun v16 w16 e16 h16 => ?_
  obtain ⟨_, _, ve2, rfl, _, _, he2⟩ := h16
  rw [if_neg solvable_2] at he2
  replace he2 : ve2 = .int .i64 8 := he2
  subst he2
  have z16 := y15.trans e16
  refine .mv rfl rfl (.ext rfl rfl rfl (.ext rfl rfl rfl (.ext rfl rfl rfl (.asg rfl rfl (.asg rfl rfl (.asg rfl rfl (.nil ?_)))))))
  -- Solve(s, (1, 2))
  refine .seq (.region (.mv rfl rfl (.bsl _ rfl rfl bsl_L2 fun w17 b17 n17 => ?_)))
  have h17 := eI_new [1, 2] 2 n17 upT rfl rfl (by decide) (by omega)
  refine .call _ rfl E_vec_FromInts rfl (vec_FromInts_c upT h17 (by decide)) fun v18 w18 e18 h18 => ?_
  replace h18 : eV.R (fun _ => True) w18 v18 (intsV [1, 2]) := h18
  have y18 := (z16.trans n17.1).trans e18
  refine .call _ rfl E_solve_Solve rfl (solve_Solve_c (L := 2) (n := 2) upT (hs.ext y18) h18 hks (vk_intsV (by decide)) (by decide) (by rw [intsM_length]; decide) (by rw [intsV_length]; decide) (by rw [cols_s]; decide) (by rw [intsM_length, intsV_length]; decide) (by decide)) fun v19 w19 e19 h19 => ?_
  obtain ⟨vz, _, ve3, rfl, hz, _, he3⟩ := h19
  rw [if_pos solvable_3] at he3
  replace he3 : ve3 = .int .i64 0 := he3
  subst he3
  rw [if_pos solvable_3, solX_3] at hz
  have z19 := y18.trans e19
  have hm := hm.ext z19
  refine .mv rfl rfl (.ext rfl rfl rfl (.ext rfl rfl rfl (.ext rfl rfl rfl (.asg rfl rfl (.asg rfl rfl (.asg rfl rfl (.nil ?_)))))))
  -- Det(m)
  refine .seq (.region (.mv rfl rfl ?_))
  refine .call _ rfl E_solve_Det rfl (solve_Det_c (L := 2) (n := 2) upT hm hkm (by decide) (by rw [intsM_length]; decide) (by rw [cols_m]; decide) (by decide) (by decide)) fun v20 w20 e20 h20 => ?_
  obtain ⟨vd, ve4, rfl, hd, he4⟩ := h20
  have hsq : colsOf (intsM l5m) = (intsM l5m).length := by rw [cols_m, intsM_length]; rfl
  rw [if_pos hsq] at he4
  replace he4 : ve4 = .int .i64 0 := he4
  subst he4
  rw [if_pos hsq, det_m] at hd
  refine .mv rfl rfl (.ext rfl rfl rfl (.ext rfl rfl rfl (.alloc rfl zero_Q fun w21 b16 n21 => ?_)))
  obtain ⟨e21, k16, hb16, hs21⟩ := n21
  refine .storeA (E := eQ) ty_Q rfl rfl k16 rfl rfl (S := fun k => True ∧ k < w20.heap.size) ((ER.lt eQ hd).ext e21) (fun h => by have := h.2; omega) fun w22 k16 u22 hd => .asg rfl rfl (.nil ?_)
  have x22 : Ext w20 w22 := u22.below e21 (by omega)
  have hdv := shpA rfl hd
  have hd : eQ.R (fun _ => True) w22 vd (qc 2) := eQ.mono (fun _ _ _ => trivial) hd
  -- Inverse(m)
  refine .seq (.region (.mv rfl rfl ?_))
  refine .call _ rfl E_solve_Inverse rfl (solve_Inverse_c (L := 2) (n := 2) upT ((hm.ext e20).ext x22) hkm (by decide) (by rw [intsM_length]; decide) (by rw [cols_m]; decide) (by decide) (by decide)) fun v23 w23 e23 h23 => ?_
  obtain ⟨vv, ve5, rfl, hv, he5⟩ := h23
  rw [if_pos hsq, if_pos invertible_m] at he5
  replace he5 : ve5 = .int .i64 0 := he5
  subst he5
  rw [if_pos ⟨hsq, invertible_m⟩, invM_m] at hv
  refine .mv rfl rfl (.ext rfl rfl rfl (.ext rfl rfl rfl (.asg rfl rfl (.asg rfl rfl (.nil ?_)))))
  have z23 := (e20.trans x22).trans e23
  have z13_23 := z19.trans z23
  have x23 := x13.trans z13_23
  have hx := hx.ext z13_23
  have hf := hf.ext z13_23
  have hr := hr.ext z13_23
  have hp := hp.ext z13_23
  have hn := hn.ext z13_23
  have hz := hz.ext z23
  have k16 := k16.ext e23
  have hd := hd.ext e23
  clear hs hm
  -- the first tests
  refine .seq (.seq (.region (.mv rfl rfl (.bsl _ rfl rfl bsl_L2 fun w24 b24 n24 => ?_))))
  have h24 := eI_new [1, 1] 2 n24 upT rfl rfl (by decide) (by omega)
  refine .call _ rfl E_vec_FromInts rfl (vec_FromInts_c upT h24 (by decide)) fun v25 w25 e25 h25 => ?_
  have y25 := n24.1.trans e25
  refine .call _ rfl E_ref03_Is rfl (isV_t (hx.ext y25) h25 rfl) fun v26 w26 e26 h26 => ?_
  subst h26
  have y26 := y25.trans e26
  refine .not_ rfl rfl (.mv rfl rfl (.gr rfl rfl rfl rfl (.mv rfl rfl (.gr rfl rfl rfl rfl (.lenR un_M rfl rfl (hf.ext y26) (.gr rfl rfl rfl rfl (.neqF rfl rfl rfl rfl (.pick rfl rfl rfl (.mv rfl rfl ?_)))))))))
  refine .gr rfl rfl rfl rfl (.mv rfl rfl (.gr rfl rfl rfl rfl (.neqF rfl rfl rfl rfl (.pick rfl rfl rfl (.mv rfl rfl ?_)))))
  refine .gr rfl rfl rfl rfl (.mv rfl rfl (.gr rfl rfl rfl rfl (.mv rfl rfl (.gr rfl rfl rfl rfl (.bsl _ rfl rfl bsl_L2 fun w27 b27 n27 => .gr rfl rfl rfl rfl (.bsl _ rfl rfl bsl_LL1 fun w28 b28 n28 => .gr rfl rfl rfl rfl ?_))))))
  have h27 := eI_new [1, 2] 2 n27 upT rfl rfl (by decide) (by omega)
  have h28 := eII_new1 n28 upT h27
  refine .callv [_] rfl rfl E_ref04_Ints rfl (ref04_Ints_c upT h28 (by decide) (by decide)) fun v29 w29 e29 h29 => .gr rfl rfl rfl rfl ?_
  have y29 := ((y26.trans n27.1).trans n28.1).trans e29
  refine .call _ rfl E_ref04_Is rfl (isM_t (hr.ext y29) h29 rfl) fun v30 w30 e30 h30 => .gr rfl rfl rfl rfl ?_
  subst h30
  have y30 := y29.trans e30
  refine .not_ rfl rfl (.pick rfl rfl rfl (.mv rfl rfl (.gr rfl rfl rfl rfl (.mv rfl rfl (.gr rfl rfl rfl rfl (.bsl _ rfl rfl bsl_I1 fun w31 b31 n31 => .gr rfl rfl rfl rfl ?_))))))
  have h31 := eI_new [0] 1 n31 upT rfl rfl (by decide) (by omega)
  have y31 := y30.trans n31.1
  refine .call _ rfl E_ref05_Ints rfl (ref05_Ints_c (a := [0]) (hp.ext y31) h31) fun v32 w32 e32 h32 => .gr rfl rfl rfl rfl ?_
  subst h32
  have y32 := y31.trans e32
  refine .not_ rfl rfl (.pick rfl rfl rfl (.mv rfl rfl (.gr rfl rfl rfl rfl (.mv rfl rfl (.gr rfl rfl rfl rfl (.mv rfl rfl (.gr rfl rfl rfl rfl (.bsl _ rfl rfl bsl_L2 fun w33 b33 n33 => .gr rfl rfl rfl rfl (.bsl _ rfl rfl bsl_LL1 fun w34 b34 n34 => .gr rfl rfl rfl rfl ?_)))))))))
  have h33 := eI_new [-2, 1] 2 n33 upT rfl rfl (by decide) (by omega)
  have h34 := eII_new1 n34 upT h33
  refine .callv [_] rfl rfl E_ref04_Ints rfl (ref04_Ints_c upT h34 (by decide) (by decide)) fun v35 w35 e35 h35 => .gr rfl rfl rfl rfl ?_
  have y35 := ((y32.trans n33.1).trans n34.1).trans e35
  refine .call _ rfl E_ref04_Is rfl (isM_t (hn.ext y35) h35 rfl) fun v36 w36 e36 h36 => .gr rfl rfl rfl rfl ?_
  subst h36
  have y36 := y35.trans e36
  refine .not_ rfl rfl (.pick rfl rfl rfl (.mv rfl rfl (.gr rfl rfl rfl rfl (.mv rfl rfl (.gr rfl rfl rfl rfl (.neqF rfl rfl rfl rfl (.pick rfl rfl rfl (.nil (.condF rfl (.skip ?_))))))))))
  have hz := hz.ext y36
  have hv := hv.ext y36
  have k16 := k16.ext y36
  have hd := hd.ext y36
  have x36 := x23.trans y36
  -- the half
  refine .seq (.region ?_)
  refine .call _ rfl E_ref02_Of rfl (ref02_Of_c upT (by decide) (by decide)) fun v37 w37 e37 h37 => .alloc rfl zero_Q fun w38 b20 n38 => ?_
  obtain ⟨e38, k20, hb20, hs38⟩ := n38
  refine .storeA (E := eQ) ty_Q rfl rfl k20 rfl rfl (S := fun k => True ∧ k < w37.heap.size) ((ER.lt eQ h37).ext e38) (fun h => by have := h.2; omega) fun w39 k20 u39 hh => .nil ?_
  have x39 : Ext w36 w39 := (e37.trans (u39.below e38 (by omega)))
  have hhv := shpA rfl hh
  have hh : eQ.R (fun _ => True) w39 v37 (qc (Rat.divInt 1 2)) := eQ.mono (fun _ _ _ => trivial) hh
  have hz := hz.ext x39
  have hv := hv.ext x39
  have k16 := k16.ext x39
  have hd := hd.ext x39
  have x39 := x36.trans x39
  refine .seq ?_
  refine .par follows 8 [.inr (eQ.at (fun _ => True) (qc (Rat.divInt 3 2))), .inr (eQ.at (fun _ => True) (qc ((-2 : Int) : Rat))), .inr (eV.at (fun _ => True) [qc (Rat.divInt 3 2), qc ((-2 : Int) : Rat)]), .inl v37, .inr (eQ.at (fun _ => True) (qc (-(Rat.divInt 1 2)))), .inr (eQ.at (fun _ => True) (qc ((1 : Int) : Rat))), .inr (eV.at (fun _ => True) [qc (-(Rat.divInt 1 2)), qc ((1 : Int) : Rat)]), .inr (eM.at (fun _ => True) [[qc (Rat.divInt 3 2), qc ((-2 : Int) : Rat)], [qc (-(Rat.divInt 1 2)), qc ((1 : Int) : Rat)]])]
    [[], [], [(116, 0), (117, 1)], [], [(119, 3)], [], [(120, 4), (121, 5)], [(118, 2), (122, 6)]] (by kernel_rfl) ⟨
    fun w e => (g_call _ E_ref02_Of rfl (ref02_Of_c upT (by decide) (by decide))).ob (st_at _ _ _),
    fun w e => (g_call _ E_ref02_Int rfl (ref02_Int_c upT (by decide) (by decide))).ob (st_at _ _ _),
    fun w e x hx y hy => ob_V2 hx hy,
    fun w e => ((v_ldA ty_Q rfl (k20.ext e) (eQ.csz hh)).eq hhv.symm).ob,
    fun w e => by
      have := ref02_Neg_c (L := 2) upT (ER.ext eQ hh e) (Rsz.toOk ⟨by decide +kernel, by decide +kernel⟩) (by decide) (by decide)
      rw [qval_qc] at this
      exact (g_call _ E_ref02_Neg rfl this).ob (st_at _ _ _),
    fun w e => (g_call _ E_ref02_Int rfl (ref02_Int_c upT (by decide) (by decide))).ob (st_at _ _ _),
    fun w e x hx y hy => ob_V2 hx hy,
    fun w e x hx y hy => ob_M2 hx hy, trivial⟩ ?_
  intro w40 e40 y0 _ y1 _ y2 _ y4 _ y5 _ y6 _ y7 hw
  refine .asg rfl rfl (.nil (.seq ?_))
  have hz := hz.ext e40
  have hv := hv.ext e40
  have k16 := k16.ext e40
  have hd := hd.ext e40
  have x40 := x39.trans e40
  refine .par follows 26 [.inl vz, .inr (eI.at (fun _ => True) [1, 0]), .inr (eV.at (fun _ => True) (intsV [1, 0])), .inl (.bool true), .inl (.bool true), .inl (.int .i64 0), .inl (.bool true), .inl (.bool true), .inl (.bool true), .inl vd, .inr (eQ.at (fun _ => True) (qc ((2 : Int) : Rat))), .inl (.bool true), .inl (.bool true), .inl (.bool true), .inl (.int .i64 0), .inl (.bool true), .inl (.bool true), .inl (.bool true), .inl vv, .inl y7, .inl (.bool true), .inl (.bool true), .inl (.bool true), .inl (.int .i64 0), .inl (.bool true), .inl (.bool true)]
    [[], [], [(125, 1)], [(124, 0), (126, 2)], [(127, 3)], [(128, 4)], [(129, 5), (128, 4)], [(128, 4), (130, 6)], [(131, 7)], [(132, 8)], [(132, 8)], [(133, 9), (134, 10), (132, 8)], [(132, 8), (135, 11)], [(136, 12)], [(137, 13)], [(138, 14), (137, 13)], [(137, 13), (139, 15)], [(140, 16)], [(141, 17)], [(141, 17)], [(142, 18), (143, 19), (141, 17)], [(141, 17), (144, 20)], [(145, 21)], [(146, 22)], [(147, 23), (146, 22)], [(146, 22), (148, 24)]] (by kernel_rfl) ⟨
    fun w e => (v_mv rfl).ob,
    fun w e => ob_L2 (by decide),
    fun w e x hx => (g_call _ E_vec_FromInts rfl (vec_FromInts_c upT hx (by decide))).ob (st_at _ _ _),
    fun w e x hx => (g_call _ E_ref03_Is rfl (isV_t (ER.ext eV hz e) hx rfl)).obIs,
    fun w e => (v_mv rfl).ob, fun w e => (v_mv rfl).ob, fun w e => (v_eql (m := 0) (n := 0) rfl rfl).ob, fun w e => (v_pickT rfl rfl).ob, fun w e => (v_mv rfl).ob,
    fun w e => ((v_ldA ty_Q rfl (k16.ext e) (eQ.csz hd)).eq hdv.symm).ob,
    fun w e => (g_call _ E_ref02_Int rfl (ref02_Int_c upT (by decide) (by decide))).ob (st_at _ _ _),
    fun w e x hx => (g_call _ E_ref02_Is rfl (isQ_t (ER.ext eQ hd e) hx rfl)).obIs,
    fun w e => (v_pickT rfl rfl).ob, fun w e => (v_mv rfl).ob, fun w e => (v_mv rfl).ob, fun w e => (v_eql (m := 0) (n := 0) rfl rfl).ob, fun w e => (v_pickT rfl rfl).ob, fun w e => (v_mv rfl).ob, fun w e => (v_mv rfl).ob, fun w e => (v_mv rfl).ob,
    fun w e => (g_call _ E_ref04_Is rfl (isM_t (ER.ext eM hv e) (ER.ext eM hw e) rfl)).obIs,
    fun w e => (v_pickT rfl rfl).ob, fun w e => (v_mv rfl).ob, fun w e => (v_mv rfl).ob, fun w e => (v_eql (m := 0) (n := 0) rfl rfl).ob, fun w e => (v_pickT rfl rfl).ob, trivial⟩ ?_
  intro w41 e41 y1 _ y2 _ y10 _
  refine .asg rfl rfl (.nil (.ret ?_))
  exact .plain [_] Tryz.results12 ⟨rfl, trivial⟩ ⟨x40.trans e41, rfl⟩

theorem law05_SolveExamples_c {w : World} : CR Tryz.prog 4 #[] w (Is (.bool true)) := by
  refine enter Tryz.func4 rfl Tryz.ntmps4 rfl ?_
  refine .seq (.region (.asg rfl rfl (.nil (.seq (.region ?_)))))
  refine .call _ rfl E_law05_alive rfl law05_alive_c fun v1 w1 e1 h1 => .asg rfl rfl (.nil (.ret ?_))
  exact .plain [_] Tryz.results4 ⟨rfl, trivial⟩ ⟨e1, h1⟩
end Go.Proofs.YtccmemilofoamaaGreat
