/-
  law 04: MatColumns
-/
import Derived.Test.YtgghedhmjhaieaaHTd
namespace Go.Kx
open Go
theorem colsOf_tabM_eq {n c : Nat} (f : Nat → Nat → Rat) (hn : 0 < n) : colsOf (tabM n c f) = c := by
  have h1 : (tab c (f 0)) ∈ tabM n c f := List.mem_map.2 ⟨0, List.mem_range.2 hn, rfl⟩
  have h2 := colsOf_mem h1
  rw [tab_length] at h2
  have h3 : colsOf (tabM n c f) ≤ c := by
    refine colsOf_le fun r hr => ?_
    obtain ⟨i, _, rfl⟩ := List.mem_map.1 hr
    rw [tab_length]; exact Nat.le_refl _
  omega
/-- the column of a vector -/
def colV (x : List QV) (i : Nat) : List QV := (x.take (i + 1)).drop i
def colM (x : List QV) : List (List QV) := (List.range x.length).map (colV x)
theorem rv_colV (x : List QV) (i k : Nat) : rv (colV x i) k = if k = 0 then rv x i else 0 := by
  unfold rv colV
  rw [List.getD_eq_getElem?_getD, List.getElem?_drop, List.getElem?_take]
  by_cases h : k = 0
  · subst h
    rw [if_pos (by omega), if_pos rfl, List.getD_eq_getElem?_getD]; simp
  · rw [if_neg (by omega), if_neg h]; exact qval_q0
theorem colV_len (x : List QV) (i : Nat) : (colV x i).length ≤ 1 := by unfold colV; simp; omega
theorem colM_length (x : List QV) : (colM x).length = x.length := by simp [colM]
theorem rm_colM (x : List QV) (i k : Nat) : rm (colM x) i k = if k = 0 then rv x i else 0 := by
  unfold rm colM
  rw [List.getD_eq_getElem?_getD, List.getElem?_map]
  by_cases h : i < x.length
  · rw [List.getElem?_range h]; exact rv_colV x i k
  · rw [List.getElem?_eq_none (by simpa using h), rv_out (a := x) (by omega)]
    simp only [Option.map_none, Option.getD_none, ite_self]
    exact rv_nil k
theorem colsOf_colM (x : List QV) : colsOf (colM x) ≤ 1 := colsOf_le fun r hr => by
  obtain ⟨i, _, rfl⟩ := List.mem_map.1 hr
  exact colV_len x i
theorem mk_colM {x : List QV} {L : Nat} (h : vk L x) : mk_ L (colM x) := by
  intro r hr
  obtain ⟨i, _, rfl⟩ := List.mem_map.1 hr
  exact fun q hq => h q (List.mem_of_mem_take (List.mem_of_mem_drop hq))
end Go.Kx
namespace Go.Proofs.Ytgghedhmjhaieaa
open Go Go.Kx Go.RowKit

def mvec (a : List (List QV)) (x : List QV) : List QV := tab a.length fun i => sumN x.length fun k => rm a i k * rv x k
theorem col_mul (a : List (List QV)) (x : List QV) (i : Nat) : eqV ((mulM a (colM x)).getD i []) (colV (mvec a x) i) := by
  intro k
  have h1 : rv ((mulM a (colM x)).getD i []) k = mmul a (colM x) i k := rm_mulM a (colM x) i k
  rw [h1, rv_colV]
  unfold mmul
  rw [colM_length]
  by_cases h : k = 0
  · subst h
    rw [if_pos rfl]
    unfold mvec
    rw [rv_tab]
    split
    · exact sumN_congr fun j _ => by rw [rm_colM, if_pos rfl]
    · exact sumN_zero' fun j _ => by rw [rm_out (m := a) (by omega), Rat.zero_mul]
  · rw [if_neg h]
    exact sumN_zero' fun j _ => by rw [rm_colM, if_neg h, Rat.mul_zero]
theorem unit_col (a : List (List QV)) {n k i : Nat} (hk : k < n) (hi : i < a.length) : rv (mvec a (tab n (uni k))) i = rm a i k := by
  unfold mvec
  rw [rv_tab, if_pos hi, tab_length]
  have hz : ∀ j, j < n → j ≠ k → rm a i j * rv (tab n (uni k)) j = 0 := by
    intro j hj hne
    rw [rv_tab, if_pos hj]
    unfold uni
    rw [if_neg (by omega), Rat.mul_zero]
  rw [sumN_single hz, if_pos hk, rv_tab, if_pos hk]
  unfold uni
  rw [if_pos rfl, Rat.mul_one]
theorem vk_unit (n : Nat) (k : Int) : vk 1 (tab n (uni k)) := vk_tab fun j _ => by
  unfold uni
  split
  · have := Rsz.int 1 (L := 1) (by decide) (by omega)
    simpa using this
  · exact Rsz.zero (Nat.le_refl _)
def catT (a b : List (List QV)) : List (List QV) := tabM (max a.length b.length) (colsOf a + colsOf b) (catM a b)
theorem cat_left (a b : List (List QV)) : eqM (tabM (max a.length b.length) (colsOf a) (rm (catT a b))) a := by
  intro i k
  rw [rm_tabM]
  split
  · rename_i h
    unfold catT
    rw [rm_tabM, if_pos ⟨h.1, by omega⟩]
    unfold catM
    rw [if_pos h.2]
  · rename_i h
    rcases Nat.lt_or_ge i a.length with hi | hi
    · rw [rm_outc (m := a) (by omega)]
    · rw [rm_out (m := a) hi]
theorem mk_catT {a b : List (List QV)} {L : Nat} (ha : mk_ L a) (hb : mk_ L b) (hL : 1 ≤ L) : mk_ L (catT a b) := mk_tabM fun i k _ _ => by
  unfold catM
  split
  · exact ha.rsz hL i k
  · exact hb.rsz hL i _

theorem E_law04_MatColumns : Ent Try.prog 7 := ent_of Try.func7 (by kernel_rfl) rfl
theorem law04_MatColumns_c {w : World} {va vb vx : Value} {a b : List (List QV)} {x : List QV} (ha : eM.R (fun _ => True) w va a) (hb : eM.R (fun _ => True) w vb b) (hx : eV.R (fun _ => True) w vx x) : CR Try.prog 7 #[va, vb, vx] w (Is (.bool true)) := by
  obtain ⟨aa, ca, hva, _⟩ := RL.len ha
  obtain ⟨ab, cb, hvb, _⟩ := RL.len hb
  obtain ⟨ax, cx, hvx, _⟩ := RL.len hx
  have hels : Els eM (fun _ => True) w [va, vb] [a, b] := Els.snoc (Els.snoc Els.nil ha) hb
  refine enter Try.func7 rfl Try.ntmps7 rfl ?_
  refine .seq (.region (.asg rfl rfl (.nil (.seq (.seq (.region (.mv rfl rfl (.mv rfl rfl ?_))))))))
  refine .bsl _ rfl rfl (by rw [hva, hvb]; exact bsl_MM2) fun w1 b1 n1 => ?_
  have hmm : eMM.R (fun _ => True) w1 (.slice (some ⟨b1, 0, none⟩) 2 2) [a, b] := eS_new [va, vb] [a, b] n1 upT (by rw [hva, hvb]) rfl (by decide) hels
  refine .call _ rfl E_law04_Long rfl (law04_Long_c upT hmm) fun v2 w2 e2 h2 => ?_
  obtain ⟨bb, rfl, hlong⟩ := h2
  have x2 := n1.1.trans e2
  cases bb with
  | true =>
    refine .mv rfl rfl (.gs rfl rfl rfl rfl rfl (.gs rfl rfl rfl rfl rfl (.gs rfl rfl rfl rfl rfl (.pick rfl rfl rfl (.nil (.condT rfl (.seq (.region ?_))))))))
    refine .call _ rfl E_law04_alive rfl law04_alive_c fun v3 w3 e3 h3 => .asg rfl rfl (.nil (.ret ?_))
    exact .plain [_] Try.results7 ⟨rfl, trivial⟩ ⟨x2.trans e3, h3⟩
  | false =>
  refine .mv rfl rfl (.gr rfl rfl rfl rfl (.mv rfl rfl (.gr rfl rfl rfl rfl ?_)))
  refine .bsl _ rfl rfl (by rw [hvx]; exact bsl_M1) fun w3 b3 n3 => ?_
  have hels2 : Els eV (fun _ => True) w2 [vx] [x] := Els.snoc Els.nil (hx.ext x2)
  have hvv : eM.R (fun _ => True) w3 (.slice (some ⟨b3, 0, none⟩) 1 1) [x] := eS_new [vx] [x] n3 upT (by rw [hvx]) rfl (by decide) hels2
  refine .gr rfl rfl rfl rfl (.call _ rfl E_law03_Long rfl (law03_Long_c upT hvv) fun v4 w4 e4 h4 => ?_)
  obtain ⟨bb, rfl, hlong2⟩ := h4
  have x4 := (x2.trans n3.1).trans e4
  cases bb with
  | true =>
    refine .pick rfl rfl rfl (.nil (.condT rfl (.seq (.region ?_))))
    refine .call _ rfl E_law04_alive rfl law04_alive_c fun v3 w3 e3 h3 => .asg rfl rfl (.nil (.ret ?_))
    exact .plain [_] Try.results7 ⟨rfl, trivial⟩ ⟨x4.trans e3, h3⟩
  | false =>
  have hl := hlong rfl
  have hl2 := hlong2 rfl
  have ma := (hl a (by simp)).mr (ha.ext x4)
  have mb := (hl b (by simp)).mr (hb.ext x4)
  have mx := (hl2 x (by simp)).vr (hx.ext x4)
  clear hlong hlong2 hl hl2 hmm hels hvv hels2
  have hxn := mx.hn
  have han := ma.hn
  have hac := ma.hc
  have hbn := mb.hn
  have hbc := mb.hc
  refine .pick rfl rfl rfl (.nil (.condF rfl (.skip ?_)))
  refine .seq (.region (.asg rfl rfl (.nil ?_)))
  -- the column
  have hx0 := ER.lt eV mx.r
  have hX : ∀ {W : World}, Below w4.heap.size w4 W → eV.R (fun k => True ∧ k < w4.heap.size) W vx x := fun hB => eV.keep (fun k c t f hk h => (hB.block k hk.2).trans h) hx0
  refine .mid (α := Value) (fun u => [(0, va), (1, vb), (2, vx), (7, u)]) (fun u W => Ext w4 W ∧ eM.R (fun _ => True) W u (colM x)) ?_ ?_
  · refine .seq (.region (.asg rfl rfl (.nil ?_)))
    refine .block (.loop (α := Nat × Value) (fun y => [(0, va), (1, vb), (2, vx), (7, y.2), (8, .int .i64 (y.1 : Nat))]) (fun y W => Below w4.heap.size w4 W ∧ y.1 ≤ x.length ∧ OwnL eV 30 w4.heap.size (fun k => True ∧ k < w4.heap.size) W y.2 ((List.range y.1).map (colV x))) (fun y => x.length - y.1) (0, .slice none 0 0) ?_ ?_ ?_)
    · exact look_cons rfl (look_cons rfl (look_cons rfl (look_cons rfl (look_cons rfl look_nil))))
    · exact ⟨Below.refl _ _, Nat.zero_le _, OwnL.nil⟩
    · rintro ⟨i, u⟩ W ⟨hB, hi, ho⟩
      replace hB : Below w4.heap.size w4 W := hB
      replace hi : i ≤ x.length := hi
      replace ho : OwnL eV 30 w4.heap.size (fun k => True ∧ k < w4.heap.size) W u ((List.range i).map (colV x)) := ho
      refine .seq (.seq (.region (.mv rfl rfl (.mv rfl rfl (.lenR un_V rfl rfl (hX hB) ?_)))))
      by_cases hlt : i < x.length
      · refine .lssT rfl rfl rfl (by omega) (.nil (.condT rfl (.skip (.seq (.block (.region (.mv rfl rfl (.mv rfl rfl (.mv rfl rfl (.mv rfl rfl (.add rfl rfl rfl ?_)))))))))))
        rw [wI (by omega), show ((i : Int) + 1) = ((i + 1 : Nat) : Int) by omega]
        refine .cut i (i + 1) un_V ty_Q rfl rfl (hX hB) ⟨_, rfl⟩ ⟨_, rfl⟩ (by omega) (by omega) fun vc hc => ?_
        obtain ⟨ac, cc, hvc, _⟩ := RL.len hc
        generalize hnc : ((x.take (i + 1)).drop i).length = nc at hvc
        subst hvc
        refine .bsl _ rfl rfl bsl_M1 fun W3 b3 n3 => ?_
        obtain ⟨e3, k3, hb3, hs3⟩ := n3
        have hB3 : Below w4.heap.size w4 W3 := hB.trans (e3.mono hB.size)
        obtain ⟨es, ho1, ho2⟩ := id ho
        refine .gv rfl rfl (g_appL (E := eV) (base := w4.heap.size) (n := colV x i) (e := .slice ac nc cc) (by decide) un_M info_V rfl rfl rfl (ho.ext e3) k3 (eV.mono (fun k _ hk => ⟨hk, fun h => by have := (ho1.lt k h).1; have := hk.2; omega⟩) (ER.ext eV hc e3)) (by simp; omega) (by decide) hB3.size) ?_
        rintro v5 W5 ⟨ho5, hg5⟩
        refine .asg rfl rfl (.nil (.region (.mv rfl rfl (.add rfl rfl rfl (.asg rfl rfl (.nil ?_))))))
        rw [wI (by omega)]
        refine ⟨rfl, (i + 1, v5), look_cons rfl (look_cons rfl (look_cons rfl (look_cons rfl (look_cons rfl look_nil)))), ⟨(ho.ext e3).below hg5 hB3 hB3.size, hlt, ?_⟩, by show x.length - (i + 1) < x.length - i; omega⟩
        show OwnL eV 30 w4.heap.size _ W5 v5 ((List.range (i + 1)).map (colV x))
        rw [List.range_succ, List.map_append]; exact ho5
      · refine .lssF rfl rfl rfl (by omega) (.nil (.condF rfl (.exit ?_)))
        have : i = x.length := by omega
        subst this
        exact ⟨rfl, u, look_cons rfl (look_cons rfl (look_cons rfl (look_cons rfl look_nil))), hB, ho.toR (fun _ _ => trivial) (fun _ _ => trivial)⟩
  rintro vcol w5 ⟨e5, hcol⟩
  have mcol : MR w5 vcol 20 1 6 (colM x) := ⟨hcol, by rw [colM_length]; exact hxn, colsOf_colM x, mk_colM mx.hk⟩
  refine .seq (.region (.mv rfl rfl (.mv rfl rfl ?_)))
  refine .call _ rfl E_mat_Mul rfl (mulW 300 (ma.ext e5) mcol) fun vp w6 e6 mp => .mv rfl rfl (.mv rfl rfl ?_)
  have y6 := e5.trans e6
  refine .call _ rfl E_mat_MulVec rfl (mulvecW 300 (ma.ext y6) (mx.ext y6)) fun vq w7 e7 mq => .asg rfl rfl (.asg rfl rfl (.nil ?_))
  replace mq : VR w7 vq 8 300 (mvec a x) := mq
  have mp := mp.ext e7
  have y7 := y6.trans e7
  have lp : (mulM a (colM x)).length = a.length := mulM_length _ _
  have lq : (mvec a x).length = a.length := tab_length _ _
  refine .seq (.seq (.region (.mv rfl rfl (.lenR un_M rfl rfl mp.r (.mv rfl rfl (.lenR un_V rfl rfl mq.r ?_))))))
  rw [lp, lq]
  refine .neqF rfl rfl rfl rfl (.mv rfl rfl (.gr rfl rfl rfl rfl (.mv rfl rfl (.gr rfl rfl rfl rfl (.lenR un_V rfl rfl mq.r (.gr rfl rfl rfl rfl (.mv rfl rfl (.gr rfl rfl rfl rfl (.lenR un_M rfl rfl (ma.ext y7).r ?_)))))))))
  rw [lq]
  refine .gr rfl rfl rfl rfl (.neqF rfl rfl rfl rfl (.pick rfl rfl rfl (.nil (.condF rfl (.skip ?_)))))
  -- row by row
  refine .mid (α := Unit) (fun _ => [(0, va), (1, vb)]) (fun _ W => Ext w7 W) ?_ ?_
  · refine .seq (.region (.asg rfl rfl (.nil ?_)))
    refine .block (.loop (α := Nat) (fun i => [(0, va), (1, vb), (9, vp), (10, vq), (11, .int .i64 (i : Nat))]) (fun i W => Ext w7 W ∧ i ≤ a.length) (fun i => a.length - i) 0 ?_ ?_ ?_)
    · exact look_cons rfl (look_cons rfl (look_cons rfl (look_cons rfl (look_cons rfl look_nil))))
    · exact ⟨.refl _, Nat.zero_le _⟩
    · rintro i W ⟨hW, hi⟩
      have mpW := mp.ext hW
      have mqW := mq.ext hW
      refine .seq (.seq (.region (.mv rfl rfl (.mv rfl rfl (.lenR un_M rfl rfl mpW.r ?_)))))
      rw [lp]
      by_cases hlt : i < a.length
      · refine .lssT rfl rfl rfl (by omega) (.nil (.condT rfl (.skip (.seq (.block (.seq ?_))))))
        refine .par follows 9 [.inl _, .inl _, .inr (Ptr eV (fun _ => True) ((mulM a (colM x)).getD i [])), .inr (eV.at (fun _ => True) ((mulM a (colM x)).getD i [])), .inl _, .inl _, .inl _, .inl (.int .i64 ((i + 1 : Nat) : Int)), .inr (eV.at (fun _ => True) (colV (mvec a x) i))] [[], [], [(65, 0), (66, 1)], [(67, 2)], [], [], [], [(71, 6)], [(69, 4), (70, 5), (72, 7)]] (by kernel_rfl) ⟨
          fun w e => (v_mv rfl).ob, fun w e => (v_mv rfl).ob, fun w e => ob_ixN un_M ty_V rfl (mpW.r.ext e) rfl (getD_get' (by rw [lp]; exact hlt)), fun w e x hx => ob_ldE ty_V rfl hx,
          fun w e => (v_mv rfl).ob, fun w e => (v_mv rfl).ob, fun w e => (v_mv rfl).ob, fun w e => ((v_add rfl rfl).eq (by rw [wI (by omega), show ((i : Int) + 1) = ((i + 1 : Nat) : Int) by omega])).ob,
          fun w e => ob_cut i (i + 1) un_V ty_Q rfl (mqW.r.ext e) ⟨_, rfl⟩ ⟨_, rfl⟩ (by omega) (by rw [lq]; omega), trivial⟩ ?_
        intro W1 e1 x2 _ x3 hx3 x8 hx8
        have v3 : VR W1 x3 1 300 ((mulM a (colM x)).getD i []) := ⟨hx3, Nat.le_trans (colsOf_get _ i) mp.hc, mp.hk.get i⟩
        have v8 : VR W1 x8 1 300 (colV (mvec a x) i) := ⟨hx8, colV_len _ _, fun q hq => mq.hk q (List.mem_of_mem_take (List.mem_of_mem_drop hq))⟩
        refine .call _ rfl E_vec_Equal rfl (eqvW v3 v8 (he := col_mul a x i)) fun v9 W9 e9 h9 => ?_
        subst h9
        refine .not_ rfl rfl (.nil (.condF rfl (.skip (.region (.mv rfl rfl (.add rfl rfl rfl (.asg rfl rfl (.nil ?_))))))))
        rw [wI (by omega)]
        exact ⟨rfl, i + 1, look_cons rfl (look_cons rfl (look_cons rfl (look_cons rfl (look_cons rfl look_nil)))), ⟨(hW.trans e1).trans e9, hlt⟩, by show a.length - (i + 1) < a.length - i; omega⟩
      · refine .lssF rfl rfl rfl (by omega) (.nil (.condF rfl (.exit ?_)))
        exact ⟨rfl, (), look_cons rfl (look_cons rfl look_nil), hW⟩
  rintro _ w8 e8
  have y8 := y7.trans e8
  have ma := ma.ext y8
  have mb := mb.ext y8
  refine .seq (.region (.mv rfl rfl ?_))
  refine .call _ rfl E_mat_Cols rfl (mat_Cols_c ma.r) fun v9 w9 e9 h9 => .asg rfl rfl (.nil ?_)
  subst h9
  have ma := ma.ext e9
  have mb := mb.ext e9
  -- column by column
  refine .mid (α := Unit) (fun _ => [(0, va), (1, vb), (12, .int .i64 (colsOf a : Nat))]) (fun _ W => Ext w9 W) ?_ ?_
  · refine .seq (.region (.asg rfl rfl (.nil ?_)))
    refine .block (.loop (α := Nat) (fun k => [(0, va), (1, vb), (12, .int .i64 (colsOf a : Nat)), (13, .int .i64 (k : Nat))]) (fun k W => Ext w9 W ∧ k ≤ colsOf a) (fun k => colsOf a - k) 0 ?_ ?_ ?_)
    · exact look_cons rfl (look_cons rfl (look_cons rfl (look_cons rfl look_nil)))
    · exact ⟨.refl _, Nat.zero_le _⟩
    · rintro k W ⟨hW, hk⟩
      refine .seq (.seq (.region (.mv rfl rfl (.mv rfl rfl ?_))))
      by_cases hlt : k < colsOf a
      · refine .lssT rfl rfl rfl (by omega) (.nil (.condT rfl (.skip (.seq (.block (.seq (.region (.mv rfl rfl (.mv rfl rfl (.mv rfl rfl ?_))))))))))
        refine .call _ rfl E_vec_Unit rfl (vec_Unit_c (S := fun _ => True) upT) fun vu W1 e1 hu => ?_
        rw [show (min ((colsOf a : Nat) : Int) 65536).toNat = colsOf a by omega] at hu
        have mu : VR W1 vu 8 6 (tab (colsOf a) (uni k)) := ⟨hu, by rw [tab_length]; exact hac, (vk_unit _ _).mono (by decide)⟩
        have hW1 := hW.trans e1
        refine .call _ rfl E_mat_MulVec rfl (mulvecW 300 (ma.ext hW1) mu) fun vc W2 e2 mc => .asg rfl rfl (.nil (.seq (.region (.asg rfl rfl (.nil ?_)))))
        replace mc : VR W2 vc 8 300 (mvec a (tab (colsOf a) (uni k))) := mc
        have hW2 := hW1.trans e2
        have lc : (mvec a (tab (colsOf a) (uni k))).length = a.length := tab_length _ _
        refine .block (.loop (α := Nat) (fun i => [(0, va), (1, vb), (12, .int .i64 (colsOf a : Nat)), (13, .int .i64 (k : Nat)), (14, vc), (15, .int .i64 (i : Nat))]) (fun i W => Ext W2 W ∧ i ≤ a.length) (fun i => a.length - i) 0 ?_ ?_ ?_)
        · exact look_cons rfl (look_cons rfl (look_cons rfl (look_cons rfl (look_cons rfl (look_cons rfl look_nil)))))
        · exact ⟨.refl _, Nat.zero_le _⟩
        · rintro i W3 ⟨hW3, hi⟩
          have hW3' := hW2.trans hW3
          have maW := ma.ext hW3'
          have mcW := mc.ext hW3
          refine .seq (.seq (.region (.mv rfl rfl (.mv rfl rfl (.lenR un_M rfl rfl maW.r ?_)))))
          by_cases hlti : i < a.length
          · refine .lssT rfl rfl rfl (by omega) (.mv rfl rfl (.gr rfl rfl rfl rfl (.mv rfl rfl (.gr rfl rfl rfl rfl (.mv rfl rfl (.gr rfl rfl rfl rfl (.lenR un_V rfl rfl mcW.r ?_)))))))
            rw [lc]
            refine .gr rfl rfl rfl rfl (.lssT rfl rfl rfl (by omega) (.pick rfl rfl rfl (.nil (.condT rfl (.skip (.seq (.block (.seq ?_))))))))
            refine .par follows 8 [.inl _, .inl _, .inr (Ptr eQ (fun _ => True) ((mvec a (tab (colsOf a) (uni k))).getD i q0)), .inr (eQ.at (fun _ => True) ((mvec a (tab (colsOf a) (uni k))).getD i q0)), .inl _, .inl _, .inl _, .inr (eQ.at (fun _ => True) (qc (rmI a i k)))] [[], [], [(100, 0), (101, 1)], [(102, 2)], [], [], [], [(104, 4), (105, 5), (106, 6)]] (by kernel_rfl) ⟨
              fun w e => (v_mv rfl).ob, fun w e => (v_mv rfl).ob, fun w e => ob_ixN un_V ty_Q rfl (mcW.r.ext e) rfl (getD_get' (by rw [lc]; exact hlti)), fun w e x hx => ob_ldE ty_Q rfl hx,
              fun w e => (v_mv rfl).ob, fun w e => (v_mv rfl).ob, fun w e => (v_mv rfl).ob, fun w e => (g_call _ E_mat_At rfl (mat_At_c upT (maW.r.ext e) ma.hk (by decide) (by decide))).ob (st_at _ _ _), trivial⟩ ?_
            intro W4 e4 x2 _ x3 hx3 x7 hx7
            rw [rmI_nat] at hx7
            refine .call _ rfl E_frac_Equal rfl (frac_Equal_c (L := 300) upT hx3 hx7 (mc.hk.get (by decide) i).1 ((ma.hk.rsz (by decide) i k).toOk.mono (by decide)) (by decide) (by decide)) fun v5 W5 e5 h5 => ?_
            subst h5
            have hq : qval ((mvec a (tab (colsOf a) (uni k))).getD i q0) = qval (qc (rm a i k)) := by rw [qval_qc]; exact unit_col a hlt hlti
            rw [decide_eq_true hq]
            refine .not_ rfl rfl (.nil (.condF rfl (.skip (.region (.mv rfl rfl (.add rfl rfl rfl (.asg rfl rfl (.nil ?_))))))))
            rw [wI (by omega)]
            exact ⟨rfl, i + 1, look_cons rfl (look_cons rfl (look_cons rfl (look_cons rfl (look_cons rfl (look_cons rfl look_nil))))), ⟨(hW3.trans e4).trans e5, hlti⟩, by show a.length - (i + 1) < a.length - i; omega⟩
          · refine .lssF rfl rfl rfl (by omega) (.mv rfl rfl (.gs rfl rfl rfl rfl rfl (.gs rfl rfl rfl rfl rfl (.gs rfl rfl rfl rfl rfl (.gs rfl rfl rfl rfl rfl (.pick rfl rfl rfl (.nil (.condF rfl (.exit ?_)))))))))
            refine .region (.mv rfl rfl (.add rfl rfl rfl (.asg rfl rfl (.nil ?_))))
            rw [wI (by omega)]
            exact ⟨rfl, k + 1, look_cons rfl (look_cons rfl (look_cons rfl (look_cons rfl look_nil))), ⟨hW3', hlt⟩, by show colsOf a - (k + 1) < colsOf a - k; omega⟩
      · refine .lssF rfl rfl rfl (by omega) (.nil (.condF rfl (.exit ?_)))
        exact ⟨rfl, (), look_cons rfl (look_cons rfl (look_cons rfl look_nil)), hW⟩
  rintro _ w10 e10
  have ma := ma.ext e10
  have mb := mb.ext e10
  refine .seq (.region (.mv rfl rfl (.mv rfl rfl ?_)))
  refine .call _ rfl E_mat_Concat rfl (mat_Concat_c upT ma.r mb.r ma.hk mb.hk (by decide) (by decide) (by omega) (by omega) (by omega) (by omega)) fun vs w11 e11 hs => .asg rfl rfl (.nil ?_)
  replace hs : eM.R (fun _ => True) w11 vs (catT a b) := hs
  have ls : (catT a b).length = max a.length b.length := tabM_length _ _ _
  have hks := mk_catT ma.hk mb.hk (by decide)
  have ma := ma.ext e11
  have mb := mb.ext e11
  refine .seq (.region (.mv rfl rfl (.mv rfl rfl (.lenR un_M rfl rfl hs (.mv rfl rfl ?_)))))
  rw [ls]
  refine .call _ rfl E_mat_Resize rfl (mat_Resize_c (r := ((max a.length b.length : Nat) : Int)) (c := ((colsOf a : Nat) : Int)) upT hs hks (by decide) (by decide)) fun vr w12 e12 hr => .mv rfl rfl ?_
  rw [show cutN ((max a.length b.length : Nat) : Int) = max a.length b.length by unfold cutN; omega, show cutN ((colsOf a : Nat) : Int) = colsOf a by unfold cutN; omega] at hr
  have mr : MR w12 vr 8 8 6 (tabM (max a.length b.length) (colsOf a) (rm (catT a b))) := ⟨hr, by rw [tabM_length]; omega, Nat.le_trans (colsOf_tabM _ _ _) hac, mk_tabM fun i k _ _ => hks.rsz (by decide) i k⟩
  refine .call _ rfl E_mat_Equal rfl (eqW mr (ma.ext e12) (he := cat_left a b)) fun v13 w13 e13 h13 => ?_
  subst h13
  have y13 := e12.trans e13
  refine .mv rfl rfl (.gr rfl rfl rfl rfl (.mv rfl rfl (.gr rfl rfl rfl rfl ?_)))
  refine .call _ rfl E_mat_Cols rfl (mat_Cols_c (ER.ext eM hs y13)) fun v14 w14 e14 h14 => ?_
  subst h14
  have y14 := y13.trans e14
  refine .gr rfl rfl rfl rfl (.mv rfl rfl (.gr rfl rfl rfl rfl (.mv rfl rfl (.gr rfl rfl rfl rfl (.lenR un_M rfl rfl (ER.ext eM hs y14) (.gr rfl rfl rfl rfl (.min_ rfl rfl rfl (.gr rfl rfl rfl rfl (.mul rfl rfl rfl (.gr rfl rfl rfl rfl (.mv rfl rfl (.gr rfl rfl rfl rfl ?_))))))))))))
  refine .call _ rfl E_mat_Cols rfl (mat_Cols_c (mb.ext y14).r) fun v15 w15 e15 h15 => ?_
  subst h15
  have y15 := y14.trans e15
  refine .gr rfl rfl rfl rfl (.mv rfl rfl (.gr rfl rfl rfl rfl (.lenR un_M rfl rfl (ER.ext eM hs y15) (.gr rfl rfl rfl rfl (.min_ rfl rfl rfl (.gr rfl rfl rfl rfl (.mul rfl rfl rfl (.gr rfl rfl rfl rfl (.add rfl rfl rfl (.gr rfl rfl rfl rfl ?_))))))))))
  have hcs : ((colsOf (catT a b) : Nat) : Int) = IntKind.i64.wrap (IntKind.i64.wrap (((colsOf a : Nat) : Int) * min (((catT a b).length : Nat) : Int) 1) + IntKind.i64.wrap (((colsOf b : Nat) : Int) * min (((catT a b).length : Nat) : Int) 1)) := by
    rw [ls]
    by_cases h0 : max a.length b.length = 0
    · have hc0 : colsOf (catT a b) = 0 := by
        unfold catT tabM
        rw [h0]; rfl
      rw [hc0, h0]
      rw [show min (((0 : Nat) : Int)) 1 = 0 by omega, Int.mul_zero, Int.mul_zero]
      rw [wI (n := (0 : Int)) (by omega), wI (by omega)]; rfl
    · have hc1 : colsOf (catT a b) = colsOf a + colsOf b := colsOf_tabM_eq _ (by omega)
      rw [hc1, show min (((max a.length b.length : Nat) : Int)) 1 = 1 by omega, Int.mul_one, Int.mul_one, wI (n := ((colsOf a : Nat) : Int)) (by omega), wI (n := ((colsOf b : Nat) : Int)) (by omega), wI (by omega)]
      omega
  refine .eqlT rfl rfl rfl hcs (.pick rfl rfl rfl (.mv rfl rfl (.gr rfl rfl rfl rfl ?_)))
  refine .call _ rfl E_law04_alive rfl law04_alive_c fun v16 w16 e16 h16 => ?_
  subst h16
  refine .pick rfl rfl rfl (.asg rfl rfl (.nil (.ret ?_)))
  exact .plain [_] Try.results7 ⟨rfl, trivial⟩ ⟨x4.trans ((y8.trans (e9.trans (e10.trans (e11.trans y15)))).trans e16), rfl⟩
end Go.Proofs.Ytgghedhmjhaieaa
