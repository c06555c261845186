/-
  law 04: MatMulMatches
-/
import Derived.Test.YtgghedhmjhaieaaGreatGC
import Derived.Test.YtgghedhmjhaieaaGreatHTb
namespace Go.Proofs.YtgghedhmjhaieaaGreat
open Go Go.Kx Go.RowKit

theorem times_eq (m : List (List QV)) (x : List QV) : (tab m.length fun i => sumN (m.getD i []).length fun k => rm m i k * rv x k) = tab m.length fun i => sumN x.length fun k => rm m i k * rv x k := by
  apply tab_congr
  intro i _
  rw [← sumN_ext (n := (m.getD i []).length) (m := max (m.getD i []).length x.length) (Nat.le_max_left _ _) (fun k h _ => by unfold rm; rw [rv_out h, Rat.zero_mul])]
  rw [← sumN_ext (n := x.length) (m := max (m.getD i []).length x.length) (Nat.le_max_right _ _) (fun k h _ => by rw [rv_out h, Rat.mul_zero])]
theorem is_true {w : World} {va vb : Value} {a b : List (List QV)} (ha : eM.R (fun _ => True) w va a) (hb : eM.R (fun _ => True) w vb b) (h : a = b) : CR Tryz.prog 10 #[va, vb] w (Is (.bool true)) := by
  have := ref04_Is_c ha hb
  rwa [same_true h] at this
theorem isV_true {w : World} {va vb : Value} {a b : List QV} (ha : eV.R (fun _ => True) w va a) (hb : eV.R (fun _ => True) w vb b) (h : a = b) : CR Tryz.prog 19 #[va, vb] w (Is (.bool true)) := by
  have := ref03_Is_c ha hb
  rwa [same_true h] at this
theorem okM_own {m : List (List QV)} (h : okM m) : ∀ r ∈ m, ∀ q ∈ r, qok 1000000000 q := fun r hr q hq => ((h.2.2 r hr).2 q hq).mono (by omega)
abbrev isF : Value := .func (.func 10) #[] #[]

theorem E_law04_MatMulMatches : Ent Tryz.prog 3 := ent_of Tryz.func3 (by kernel_rfl) rfl
theorem law04_MatMulMatches_c {w : World} {va vb vx vk_ : Value} {a b : List (List QV)} {x : List QV} {k : QV} (ha : eM.R (fun _ => True) w va a) (hb : eM.R (fun _ => True) w vb b) (hx : eV.R (fun _ => True) w vx x) (hk : eQ.R (fun _ => True) w vk_ k) :
    CR Tryz.prog 3 #[va, vb, vx, vk_] w (Is (.bool true)) := by
  obtain ⟨aa, ca, hva, _⟩ := RL.len ha
  obtain ⟨ab, cb, hvb, _⟩ := RL.len hb
  obtain ⟨ax, cx, hvx, _⟩ := RL.len hx
  obtain ⟨s, t, rfl, hs, ht⟩ := hk
  have hk : eQ.R (fun _ => True) w (.agg #[.bool k.num.neg, s, .bool k.den.neg, t]) k := ⟨s, t, rfl, hs, ht⟩
  have hels : Els eM (fun _ => True) w [va, vb] [a, b] := Els.snoc (Els.snoc Els.nil ha) hb
  refine enter Tryz.func3 rfl Tryz.ntmps3 rfl ?_
  refine .seq (.region (.box rfl rfl fun w1 b7 n1 => .asg rfl rfl (.nil ?_)))
  obtain ⟨e1, k7, hb7, hs1⟩ := n1
  refine .mid (α := Unit) (fun _ => [(0, va), (1, vb), (2, vx), (7, .pointer (some ⟨b7, 0, none⟩))]) (fun _ W => Ext w1 W ∧ okM a ∧ okM b ∧ okV x ∧ qok 6 k) ?_ ?_
  · refine .seq (.region (.mv rfl rfl (.mv rfl rfl ?_)))
    refine .bsl _ rfl rfl (by rw [hva, hvb]; exact bsl_MM2) fun w2 b2 n2 => ?_
    have hmm : eMM.R (fun _ => True) w2 (.slice (some ⟨b2, 0, none⟩) 2 2) [a, b] := eS_new [va, vb] [a, b] n2 upT (by rw [hva, hvb]) rfl (by decide) (hels.ext e1)
    refine .call _ rfl E_law04_Long rfl (law04_Long_c upT hmm) fun v3 w3 e3 h3 => .mv rfl rfl ?_
    obtain ⟨bb, rfl, hlong⟩ := h3
    have x3 := n2.1.trans e3
    have ok : ∀ {σ : Env} {W : World}, Ext w1 W → Kx.look σ 7 = Kx.look σ 7 → True := fun _ _ => trivial
    cases bb with
    | true =>
      refine .gs rfl rfl rfl rfl rfl (.gs rfl rfl rfl rfl rfl (.gs rfl rfl rfl rfl rfl (.pick rfl rfl rfl (.mv rfl rfl (.gs rfl rfl rfl rfl rfl (.gs rfl rfl rfl rfl rfl (.gs rfl rfl rfl rfl rfl (.pick rfl rfl rfl (.nil (.condT rfl (.seq (.region ?_))))))))))))
      refine .call _ rfl E_law04_alive rfl law04_alive_c fun v4 w4 e4 h4 => .asg rfl rfl (.nil (.ret ?_))
      exact .plain [_] Tryz.results3 ⟨rfl, trivial⟩ ⟨(e1.trans x3).trans e4, h4⟩
    | false =>
    refine .gr rfl rfl rfl rfl (.mv rfl rfl (.gr rfl rfl rfl rfl ?_))
    refine .bsl _ rfl rfl (by rw [hvx]; exact bsl_M1) fun w4 b4 n4 => ?_
    have hvv : eM.R (fun _ => True) w4 (.slice (some ⟨b4, 0, none⟩) 1 1) [x] := eS_new [vx] [x] n4 upT (by rw [hvx]) rfl (by decide) (Els.snoc Els.nil (hx.ext (e1.trans x3)))
    refine .gr rfl rfl rfl rfl (.call _ rfl E_law03_Long rfl (law03_Long_c upT hvv) fun v5 w5 e5 h5 => ?_)
    obtain ⟨bb, rfl, hlong2⟩ := h5
    have x5 := (x3.trans n4.1).trans e5
    cases bb with
    | true =>
      refine .pick rfl rfl rfl (.mv rfl rfl (.gs rfl rfl rfl rfl rfl (.gs rfl rfl rfl rfl rfl (.gs rfl rfl rfl rfl rfl (.pick rfl rfl rfl (.nil (.condT rfl (.seq (.region ?_)))))))))
      refine .call _ rfl E_law04_alive rfl law04_alive_c fun v6 w6 e6 h6 => .asg rfl rfl (.nil (.ret ?_))
      exact .plain [_] Tryz.results3 ⟨rfl, trivial⟩ ⟨(e1.trans x5).trans e6, h6⟩
    | false =>
    refine .pick rfl rfl rfl (.mv rfl rfl (.gr rfl rfl rfl rfl (.ldA ty_Q rfl rfl (k7.ext x5) rfl (.gr rfl rfl rfl rfl ?_))))
    refine .bsl _ rfl rfl bsl_V1 fun w6 b6 n6 => ?_
    have hqq : eV.R (fun _ => True) w6 (.slice (some ⟨b6, 0, none⟩) 1 1) [k] := by
      refine RL.ofBlk (es := [.agg #[.bool k.num.neg, s, .bool k.den.neg, t]]) n6.2.1 trivial (Els.snoc Els.nil (ER.ext eQ hk ((e1.trans x5).trans n6.1))) (fun j u hu => ?_) (Nat.le_refl _) (by simp)
      simpa [cellsOf, Value.cells] using hu
    refine .gr rfl rfl rfl rfl (.call _ rfl E_law02_Long rfl (law02_Long_c upT hqq) fun v7 w7 e7 h7 => ?_)
    obtain ⟨bb, rfl, hlong3⟩ := h7
    have x7 := (x5.trans n6.1).trans e7
    cases bb with
    | true =>
      refine .pick rfl rfl rfl (.nil (.condT rfl (.seq (.region ?_))))
      refine .call _ rfl E_law04_alive rfl law04_alive_c fun v8 w8 e8 h8 => .asg rfl rfl (.nil (.ret ?_))
      exact .plain [_] Tryz.results3 ⟨rfl, trivial⟩ ⟨(e1.trans x7).trans e8, h8⟩
    | false =>
      refine .pick rfl rfl rfl (.nil (.condF rfl (.skip ?_)))
      exact ⟨rfl, (), look_cons rfl (look_cons rfl (look_cons rfl (look_cons rfl look_nil))), x7, hlong rfl a (by simp), hlong rfl b (by simp), hlong2 rfl x (by simp), hlong3 rfl k (by simp)⟩
  rintro _ W ⟨hW, oa, ob, ox, ok⟩
  have xW := e1.trans hW
  refine .seq (.region (.mv rfl rfl ?_))
  refine .call _ rfl E_law04_Own rfl (law04_Own_c upT (ER.ext eM ha xW) (okM_own oa) (Nat.le_trans oa.1 (by decide)) (Nat.le_trans oa.2.1 (by decide))) fun vm w3 e3 h3 => .mv rfl rfl ?_
  refine .call _ rfl E_law04_Own rfl (law04_Own_c upT (ER.ext eM hb (xW.trans e3)) (okM_own ob) (Nat.le_trans ob.1 (by decide)) (Nat.le_trans ob.2.1 (by decide))) fun vn w4 e4 hn => .asg rfl rfl (.asg rfl rfl (.nil (.seq (.region (.asg rfl rfl (.nil ?_))))))
  have x4 := (xW.trans e3).trans e4
  have hm := ER.ext eM h3 e4
  have hA := ER.ext eM ha x4
  have hB := ER.ext eM hb x4
  have hX := ER.ext eV hx x4
  have hK := ER.ext eQ hk x4
  have k7W := k7.ext ((hW.trans e3).trans e4)
  have ka := (oa.mr hA).hk
  have kb := (ob.mr hB).hk
  have kx := (ox.vr hX).hk
  have kk : qk 6 k := ⟨ok, rsz_qval (eQ_digs hK).1 (eQ_digs hK).2 ok (by decide)⟩
  have la := oa.1
  have lb := ob.1
  have ca' := oa.2.1
  have cb' := ob.2.1
  have lx := ox.1
  refine .seq (.seq ?_)
  refine .par follows 42 (.inl isF :: .inl vm :: .inl vn :: .inr (eM.at (fun _ => True) (tabM a.length (colsOf b) (mmul a b))) :: .inl va :: .inl vb :: .inr (eM.at (fun _ => True) (tabM a.length (colsOf b) (mmul a b))) :: .inl (.bool true) :: .inl (.bool false) :: .inl (.bool false) :: .inl isF :: .inl vm :: .inl vn :: .inr (eM.at (fun _ => True) (addM a b)) :: .inl va :: .inl vb :: .inr (eM.at (fun _ => True) (addM a b)) :: .inl (.bool true) :: .inl (.bool false) :: .inl (.bool false) :: .inl (.bool false) :: .inl isF :: .inl (.agg #[.bool k.num.neg, s, .bool k.den.neg, t]) :: .inl vm :: .inr (eM.at (fun _ => True) ((List.range a.length).map (sclR k a))) :: .inl (.agg #[.bool k.num.neg, s, .bool k.den.neg, t]) :: .inl va :: .inr (eM.at (fun _ => True) ((List.range a.length).map (sclR k a))) :: .inl (.bool true) :: .inl (.bool false) :: .inl (.bool false) :: .inl (.bool false) :: .inl isF :: .inl vm :: .inl vn :: .inr (eM.at (fun _ => True) (tabM (max a.length b.length) (colsOf a + colsOf b) (catM a b))) :: .inl va :: .inl vb :: .inr (eM.at (fun _ => True) (tabM (max a.length b.length) (colsOf a + colsOf b) (catM a b))) :: .inl (.bool true) :: .inl (.bool false) :: .inl (.bool false) :: [])
    ([] :: [] :: [] :: [(32, 1), (33, 2)] :: [] :: [] :: [(35, 4), (36, 5)] :: [(31, 0), (34, 3), (37, 6)] :: [(38, 7)] :: [(39, 8)] :: [(40, 9)] :: [(40, 9)] :: [(40, 9)] :: [(42, 11), (43, 12), (40, 9)] :: [(40, 9)] :: [(40, 9)] :: [(45, 14), (46, 15), (40, 9)] :: [(41, 10), (44, 13), (47, 16), (40, 9)] :: [(48, 17), (40, 9)] :: [(40, 9), (49, 18)] :: [(50, 19)] :: [(51, 20)] :: [(51, 20)] :: [(51, 20)] :: [(53, 22), (54, 23), (51, 20)] :: [(51, 20)] :: [(51, 20)] :: [(56, 25), (57, 26), (51, 20)] :: [(52, 21), (55, 24), (58, 27), (51, 20)] :: [(59, 28), (51, 20)] :: [(51, 20), (60, 29)] :: [(61, 30)] :: [(62, 31)] :: [(62, 31)] :: [(62, 31)] :: [(64, 33), (65, 34), (62, 31)] :: [(62, 31)] :: [(62, 31)] :: [(67, 36), (68, 37), (62, 31)] :: [(63, 32), (66, 35), (69, 38), (62, 31)] :: [(70, 39), (62, 31)] :: [(62, 31), (71, 40)] :: []) (by kernel_rfl) ⟨
    fun w e => (v_mv rfl).ob,
    fun w e => (v_mv rfl).ob,
    fun w e => (v_mv rfl).ob,
    fun w e => (g_call _ E_mat_Mul rfl (mat_Mul_c (L := 6) upT (ER.ext eM hm e) (ER.ext eM hn e) ka kb (by decide) (by decide) (by omega) (by omega) (by omega))).ob (st_at _ _ _),
    fun w e => (v_mv rfl).ob,
    fun w e => (v_mv rfl).ob,
    fun w e => (g_call _ E_ref04_Mul rfl (ref04_Mul_c (L := 6) upT (ER.ext eM hA e) (ER.ext eM hB e) ka kb (by decide) (by decide) (by omega) (by omega) (by omega))).ob (st_at _ _ _),
    fun w e x hx y hy => g_callv [x, y] rfl E_ref04_Is rfl (is_true hx hy rfl),
    fun w e => (v_not (b := true) rfl).ob,
    fun w e => (v_mv rfl).ob,
    fun w e => (v_mv rfl).ob,
    fun w e => (v_mv rfl).ob,
    fun w e => (v_mv rfl).ob,
    fun w e => (g_call _ E_mat_Add rfl (mat_Add_c (L := 6) upT (ER.ext eM hm e) (ER.ext eM hn e) ka kb (by decide) (by decide) (by omega) (by omega) (by omega) (by omega))).ob (st_at _ _ _),
    fun w e => (v_mv rfl).ob,
    fun w e => (v_mv rfl).ob,
    fun w e => (g_call _ E_ref04_Add rfl (ref04_Add_c (L := 6) upT (ER.ext eM hA e) (ER.ext eM hB e) ka kb (by decide) (by decide) (by omega) (by omega) (by omega) (by omega))).ob (st_at _ _ _),
    fun w e x hx y hy => g_callv [x, y] rfl E_ref04_Is rfl (is_true hx hy rfl),
    fun w e => (v_not (b := true) rfl).ob,
    fun w e => (v_pickF rfl rfl).ob,
    fun w e => (v_mv rfl).ob,
    fun w e => (v_mv rfl).ob,
    fun w e => (v_ldA ty_Q rfl (k7W.ext e) rfl).ob,
    fun w e => (v_mv rfl).ob,
    fun w e => (g_call _ E_mat_Scale rfl (mat_Scale_c (L := 6) upT (ER.ext eQ hK e) (ER.ext eM hm e) kk ka (by decide) (by decide) (by omega) (by omega))).ob (st_at _ _ _),
    fun w e => (v_ldA ty_Q rfl (k7W.ext e) rfl).ob,
    fun w e => (v_mv rfl).ob,
    fun w e => (g_call _ E_ref04_Scale rfl (ref04_Scale_c (L := 6) upT (ER.ext eQ hK e) (ER.ext eM hA e) kk ka (by decide) (by decide) (by omega) (by omega))).ob (st_at _ _ _),
    fun w e x hx y hy => g_callv [x, y] rfl E_ref04_Is rfl (is_true hx hy rfl),
    fun w e => (v_not (b := true) rfl).ob,
    fun w e => (v_pickF rfl rfl).ob,
    fun w e => (v_mv rfl).ob,
    fun w e => (v_mv rfl).ob,
    fun w e => (v_mv rfl).ob,
    fun w e => (v_mv rfl).ob,
    fun w e => (g_call _ E_mat_Concat rfl (mat_Concat_c (L := 6) upT (ER.ext eM hm e) (ER.ext eM hn e) ka kb (by decide) (by decide) (by omega) (by omega) (by omega) (by omega))).ob (st_at _ _ _),
    fun w e => (v_mv rfl).ob,
    fun w e => (v_mv rfl).ob,
    fun w e => (g_call _ E_ref04_Beside rfl (ref04_Beside_c (L := 6) upT (ER.ext eM hA e) (ER.ext eM hB e) ka kb (by decide) (by decide) (by omega) (by omega) (by omega) (by omega))).ob (st_at _ _ _),
    fun w e x hx y hy => g_callv [x, y] rfl E_ref04_Is rfl (is_true hx hy rfl),
    fun w e => (v_not (b := true) rfl).ob,
    fun w e => (v_pickF rfl rfl).ob, trivial⟩ ?_
  rintro w5 e5 z0 - z1 - z2 - z3 - z4 - z5 - z6 - z7 -
  refine .nil (.condF rfl (.skip ?_))
  have hm := ER.ext eM hm e5
  have hn := ER.ext eM hn e5
  have hA := ER.ext eM hA e5
  have hB := ER.ext eM hB e5
  have hX := ER.ext eV hX e5
  have x5 := x4.trans e5
  refine .seq (.region (.mv rfl rfl (.mv rfl rfl ?_)))
  refine .call _ rfl E_mat_MulVec rfl (mat_MulVec_c (L := 6) upT hm hX ka kx (by decide) (by decide) (by omega) (by omega)) fun v6 w6 e6 h6 => .mv rfl rfl (.mv rfl rfl ?_)
  refine .call _ rfl E_ref04_Times rfl (ref04_Times_c (L := 6) upT (ER.ext eM hA e6) (ER.ext eV hX e6) ka kx (by decide) (by decide) (by omega) (by omega)) fun v7 w7 e7 h7 => ?_
  refine .call _ rfl E_ref03_Is rfl (isV_true (ER.ext eV h6 e7) h7 (times_eq a x).symm) fun v8 w8 e8 h8 => .mv rfl rfl ?_
  subst h8
  have f8 := (e6.trans e7).trans e8
  refine .gr rfl rfl rfl rfl (.mv rfl rfl (.gr rfl rfl rfl rfl (.mv rfl rfl ?_)))
  refine .gr rfl rfl rfl rfl (.call _ rfl E_mat_VecMul rfl (mat_VecMul_c (L := 6) upT (ER.ext eV hX f8) (ER.ext eM hm f8) kx ka (by decide) (by decide) (by omega) (by omega)) fun v9 w9 e9 h9 => .gr rfl rfl rfl rfl (.mv rfl rfl (.gr rfl rfl rfl rfl (.mv rfl rfl ?_))))
  have f9 := f8.trans e9
  refine .gr rfl rfl rfl rfl (.call _ rfl E_ref04_Left rfl (ref04_Left_c (L := 6) upT (ER.ext eV hX f9) (ER.ext eM hA f9) kx ka (by decide) (by decide) (by omega) (by omega)) fun v10 w10 e10 h10 => ?_)
  refine .gr rfl rfl rfl rfl (.call _ rfl E_ref03_Is rfl (isV_true (ER.ext eV h9 e10) h10 rfl) fun v11 w11 e11 h11 => ?_)
  subst h11
  have f11 := (f9.trans e10).trans e11
  refine .pick rfl rfl rfl (.mv rfl rfl (.gr rfl rfl rfl rfl (.mv rfl rfl (.gr rfl rfl rfl rfl (.mv rfl rfl (.gr rfl rfl rfl rfl (.mv rfl rfl ?_)))))))
  refine .gr rfl rfl rfl rfl (.callv [_, _] rfl rfl E_ref04_Is rfl (is_true (ER.ext eM hm f11) (ER.ext eM hA f11) rfl) fun v12 w12 e12 h12 => ?_)
  subst h12
  have f12 := f11.trans e12
  refine .pick rfl rfl rfl (.mv rfl rfl (.gr rfl rfl rfl rfl (.mv rfl rfl (.gr rfl rfl rfl rfl (.mv rfl rfl (.gr rfl rfl rfl rfl (.mv rfl rfl ?_)))))))
  refine .gr rfl rfl rfl rfl (.callv [_, _] rfl rfl E_ref04_Is rfl (is_true (ER.ext eM hn f12) (ER.ext eM hB f12) rfl) fun v13 w13 e13 h13 => ?_)
  subst h13
  refine .pick rfl rfl rfl (.mv rfl rfl ?_)
  refine .gr rfl rfl rfl rfl (.call _ rfl E_law04_alive rfl law04_alive_c fun v14 w14 e14 h14 => ?_)
  subst h14
  refine .pick rfl rfl rfl (.asg rfl rfl (.nil (.ret ?_)))
  exact .plain [_] Tryz.results3 ⟨rfl, trivial⟩ ⟨((x5.trans f12).trans e13).trans e14, rfl⟩
end Go.Proofs.YtgghedhmjhaieaaGreat
