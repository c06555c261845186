/-
  The references: Null law 05: SolveReduceMatches
-/
import Derived.Test.YtccmemilofoamaaGreatG6
set_option linter.unusedVariables false
namespace Go.Proofs.YtccmemilofoamaaGreat
open Go Go.Kx Go.RowKit
theorem red_rz {m : List (List QV)} {L n C0 : Nat} (ok : eOk L n C0 m) {i k : Nat} (hi : i < (redP m).length) (hk : k < colsOf m) : Rsz (redF m i k) (bd L n) := red_rsz ok.k ok.l1 ok.mn i k (by have := (red_ech m).len; omega) hk
theorem E_ref05_Null : Ent Tryz.prog 30 := ent_of Tryz.func30 (by kernel_rfl) rfl
theorem ref05_Null_c {S : Nat → Prop} {w : World} {vm : Value} {m : List (List QV)} {L n C0 : Nat} (up : Up S w) (hm : eM.R S w vm m) (ok : eOk L n C0 m) :
    CR Tryz.prog 30 #[vm] w (eM.at S (nullM m)) := by
  have hnr := ok.rows
  have hc := ok.cols
  have hc1 := ok.c1
  have hbd := ok.bd
  have he := red_ech m
  have hpl := he.len
  refine enter Tryz.func30 rfl Tryz.ntmps30 rfl ?_
  refine .seq (.region (.asg rfl rfl (.nil (.seq (.region (.mv rfl rfl ?_))))))
  refine .call _ rfl E_ref05_Reduce rfl (ref05_Reduce_c up hm ok) fun v1 w1 e1 h1 => ?_
  obtain ⟨vr, vp, rfl, hr, hp⟩ := h1
  refine .mv rfl rfl (.ext rfl rfl rfl (.ext rfl rfl rfl (.asg rfl rfl (.asg rfl rfl (.nil (.seq (.region (.mv rfl rfl ?_))))))))
  refine .call _ rfl E_ref04_Cols rfl (ref04_Cols_c (hm.ext e1)) fun v2 w2 e2 h2 => .asg rfl rfl (.nil (.seq (.region (.asg rfl rfl (.nil ?_)))))
  subst h2
  have x2 := e1.trans e2
  have hr2 : eM.R (fun k => S k ∧ k < w2.heap.size) w2 vr (redM m) := ER.lt eM (ER.ext eM hr e2)
  have hp2 : eI.R (fun k => S k ∧ k < w2.heap.size) w2 vp (pInts (redP m)) := ER.lt eI (ER.ext eI hp e2)
  have hrW : ∀ {W : World}, Ext w2 W → eM.R (fun k => S k ∧ k < w2.heap.size) W vr (redM m) := fun e => ER.ext eM hr2 e
  have hpW : ∀ {W : World}, Ext w2 W → eI.R (fun k => S k ∧ k < w2.heap.size) W vp (pInts (redP m)) := fun e => ER.ext eI hp2 e
  have hrl : (redM m).length = (redP m).length := tabM_length ..
  have hs2 := x2.size
  have up2 := up.ext x2.size
  generalize hG : (fun k => tab (colsOf m) (nv (redF m) (redP m) k)) = G
  refine .mid (α := Value) (fun o => [(6, o)]) (fun o W => Ext w2 W ∧ OwnL eV 23 w2.heap.size S W o ((freeTo (redP m) (colsOf m)).map G)) ?_ ?_
  · refine .seq (.region (.asg rfl rfl (.nil ?_)))
    refine .block (.loop (α := Nat × Value) (fun y => [(3, vr), (4, vp), (5, .int .i64 (colsOf m : Nat)), (6, y.2), (7, .int .i64 (y.1 : Nat))]) (fun y W => Ext w2 W ∧ y.1 ≤ colsOf m ∧ OwnL eV 23 w2.heap.size S W y.2 ((freeTo (redP m) y.1).map G)) (fun y => colsOf m - y.1) (0, .slice none 0 0) ?_ ?_ ?_)
    · exact look_cons rfl (look_cons rfl (look_cons rfl (look_cons rfl (look_cons rfl look_nil))))
    · exact ⟨Ext.refl _, Nat.zero_le _, OwnL.nil⟩
    rintro ⟨k, o⟩ W ⟨hW, hk, ho⟩
    replace hW : Ext w2 W := hW
    replace hk : k ≤ colsOf m := hk
    replace ho : OwnL eV 23 w2.heap.size S W o ((freeTo (redP m) k).map G) := ho
    have hsW := hW.size
    refine .seq (.seq (.region (.mv rfl rfl (.mv rfl rfl ?_))))
    rcases Nat.lt_or_ge k (colsOf m) with hlt | hge
    rotate_left
    · refine .lssF rfl rfl rfl (by omega) (.nil (.condF rfl (.exit ?_)))
      have : k = colsOf m := by omega
      subst this
      exact ⟨rfl, o, look_cons rfl look_nil, hW, ho⟩
    refine .lssT rfl rfl rfl (by omega) (.nil (.condT rfl (.skip (.seq (.block (.seq (.seq (.region (.mv rfl rfl (.mv rfl rfl ?_))))))))))
    refine .call _ rfl E_ref05_in rfl (ref05_in_c (hpW hW)) fun v3 W3 e3 h3 => .nil ?_
    subst h3
    have hW3 := hW.trans e3
    by_cases hkp : k ∈ redP m
    · rw [decide_eq_true hkp]
      refine .condT rfl (.exit (.region (.mv rfl rfl (.add rfl rfl rfl (.asg rfl rfl (.nil ?_))))))
      rw [wI (by omega)]
      refine ⟨rfl, (k + 1, o), look_cons rfl (look_cons rfl (look_cons rfl (look_cons rfl (look_cons rfl look_nil)))), ⟨hW3, hlt, ?_⟩, by show colsOf m - (k + 1) < colsOf m - k; omega⟩
      show OwnL eV 23 w2.heap.size S W3 o ((freeTo (redP m) (k + 1)).map G)
      rw [freeTo_succ, if_pos hkp, List.append_nil]
      exact ho.ext e3
    rw [decide_eq_false hkp]
    refine .condF rfl (.skip (.seq (.region (.mv rfl rfl (.mv rfl rfl ?_)))))
    have ho3 := ho.ext e3
    have upU : Up (fun k' => S k' ∧ o.ownBlock ≠ some k') W3 := fun k' hk' => ⟨up2 k' (by have := hW3.size; omega), fun h => by have := ho3.lt' k' h; omega⟩
    refine .call _ rfl E_ref03_Unit rfl (ref03_Unit_c (k := (k : Nat)) upU (by omega)) fun vx W4 e4 h4 => .asg rfl rfl (.nil ?_)
    obtain ⟨g, cap, rfl, hcap, hcap2, hgB, fp⟩ := h4.fp (by rw [tab_length]; omega)
    rw [tab_length] at hcap ⊢
    have hW4 := hW3.trans e4
    have ho4 := ho3.ext e4
    have hu0 : tab (colsOf m) (uniR (k : Nat)) = tab (colsOf m) (nvTo (redF m) (redP m) k 0) := tab_congr fun c _ => by
      unfold uniR nvTo
      show _ = (if c = k then 1 else 0) - 0
      by_cases e : c = k
      · rw [if_pos (by omega), if_pos e]; grind
      · rw [if_neg (by omega), if_neg e]; grind
    rw [hu0] at fp
    refine .mid (α := Unit) (fun _ => [(3, vr), (4, vp), (5, .int .i64 (colsOf m : Nat)), (6, o), (7, .int .i64 (k : Nat)), (8, .slice (some ⟨g, 0, none⟩) (colsOf m) cap)]) (fun _ W' => Ext w2 W' ∧ Ext W3 W' ∧ FP eQ 37 (fun k' => S k' ∧ o.ownBlock ≠ some k') W' g (tab (colsOf m) (nv (redF m) (redP m) k))) ?_ ?_
    · refine .seq (.region (.asg rfl rfl (.nil ?_)))
      refine .block (.loop (α := Nat) (fun i => [(3, vr), (4, vp), (5, .int .i64 (colsOf m : Nat)), (6, o), (7, .int .i64 (k : Nat)), (8, .slice (some ⟨g, 0, none⟩) (colsOf m) cap), (9, .int .i64 (i : Nat))]) (fun i W' => Ext w2 W' ∧ Ext W3 W' ∧ i ≤ (redP m).length ∧ FP eQ 37 (fun k' => S k' ∧ o.ownBlock ≠ some k') W' g (tab (colsOf m) (nvTo (redF m) (redP m) k i))) (fun i => (redP m).length - i) 0 ?_ ?_ ?_)
      · exact look_cons rfl (look_cons rfl (look_cons rfl (look_cons rfl (look_cons rfl (look_cons rfl (look_cons rfl look_nil))))))
      · exact ⟨hW4, e4, Nat.zero_le _, fp⟩
      rintro i W5 ⟨hW5, hX5, hi, fp⟩
      refine .seq (.seq (.region (.mv rfl rfl (.mv rfl rfl (.lenR un_M rfl rfl (hrW hW5) ?_)))))
      rw [hrl]
      rcases Nat.lt_or_ge i (redP m).length with hli | hgi
      rotate_left
      · refine .lssF rfl rfl rfl (by omega) (.nil (.condF rfl (.exit ?_)))
        have : i = (redP m).length := by omega
        subst this
        exact ⟨rfl, (), look_cons rfl (look_cons rfl (look_cons rfl (look_cons rfl (look_cons rfl (look_cons rfl look_nil))))), hW5, hX5, fp⟩
      have hg : (pInts (redP m))[i]? = some (((redP m).getD i 0 : Nat) : Int) := by rw [List.getElem?_map, getD_get' (z := 0) hli]; rfl
      have hrg : (redM m)[i]? = some (tab (colsOf m) (redF m i)) := tabM_get hli
      have hpi := he.lt i hli
      have hT : ∀ k', (S k' ∧ k' < w2.heap.size) → (S k' ∧ o.ownBlock ≠ some k') ∧ k' ≠ g := fun k' h => ⟨⟨h.1, fun e => by
        obtain ⟨es, ho1, _⟩ := id ho4
        have := (ho1.lt k' e).1; have := h.2; omega⟩, by have := h.2; have := hW3.size; omega⟩
      have upX : ∀ {W' : World}, Ext W5 W' → Up (fun k' => (S k' ∧ o.ownBlock ≠ some k') ∧ k' ≠ g) W' := fun e k' hk' => ⟨⟨up2 k' (by have := hW5.size; have := e.size; omega), fun h => by have := ho3.lt' k' h; have := hX5.size; have := e.size; omega⟩, by have := e.size; have := fp.lt; omega⟩
      refine .lssT rfl rfl rfl (by omega) (.nil (.condT rfl (.skip (.seq (.block ?_)))))
      refine .par follows 13 [.inl _, .inl _, .inl (.int .i64 (i : Nat)), .inr (Ptr (eInt .i64) (fun k => S k ∧ k < w2.heap.size) (((redP m).getD i 0 : Nat) : Int)), .inl (.int .i64 (((redP m).getD i 0 : Nat) : Int)), .inl _, .inl (.int .i64 (i : Nat)), .inr (Ptr eV (fun k => S k ∧ k < w2.heap.size) (tab (colsOf m) (redF m i))), .inr (eV.at (fun k => S k ∧ k < w2.heap.size) (tab (colsOf m) (redF m i))), .inl (.int .i64 (k : Nat)), .inr (Ptr eQ (fun k => S k ∧ k < w2.heap.size) (qc (redF m i k))), .inr (eQ.at (fun k => S k ∧ k < w2.heap.size) (qc (redF m i k))), .inr (eQ.at (fun k' => (S k' ∧ o.ownBlock ≠ some k') ∧ k' ≠ g) (qc (-(redF m i k))))] [[], [], [], [(35, 1), (36, 2)], [(37, 3)], [], [], [(39, 5), (40, 6)], [(41, 7)], [], [(42, 8), (43, 9)], [(44, 10)], [(45, 11)]] (by kernel_rfl) ⟨
        fun w e => (v_mv rfl).ob, fun w e => (v_mv rfl).ob, fun w e => (v_mv rfl).ob,
        fun w e => ob_ixN (i := i) un_I ty_I1 rfl (hpW (hW5.trans e)) rfl hg,
        fun w e x hx => ob_ldI ty_I1 rfl hx,
        fun w e => (v_mv rfl).ob, fun w e => (v_mv rfl).ob,
        fun w e => ob_ixN (i := i) un_M ty_V rfl (hrW (hW5.trans e)) rfl hrg,
        fun w e x hx => ob_ldE ty_V rfl hx,
        fun w e => (v_mv rfl).ob,
        fun w e x hx => ob_ixN (i := k) un_V ty_Q rfl hx rfl (tab_get hlt),
        fun w e x hx => ob_ldE ty_Q rfl hx,
        fun w e x hx => by
          have := ref02_Neg_c (L := bd L n) (upX e) (eQ.mono (fun k' _ h => hT k' h) hx) (red_rz ok hli hlt).toOk (bd_pos ok.l1 n) (by omega)
          rw [qval_qc] at this
          exact (g_call _ E_ref02_Neg rfl this).ob (st_at _ _ _), trivial⟩ ?_
      intro W6 e6 y3 _ y7 _ y8 _ y10 _ y11 _ y12 hy12
      refine .ixB (i := (redP m).getD i 0) un_V ty_Q rfl rfl rfl hpi (.storeP (E := eQ) (i := (redP m).getD i 0) (by decide) ty_Q rfl rfl (fp.ext e6) rfl (by rw [tab_length]; exact hpi) (Nat.zero_add _) hy12 fun W7 f7 u7 => .nil ?_)
      have hset : (tab (colsOf m) (nvTo (redF m) (redP m) k i)).set ((redP m).getD i 0) (qc (-(redF m i k))) = tab (colsOf m) (nvTo (redF m) (redP m) k (i + 1)) := by
        rw [tab_set, nvTo_succ he hli hkp (getD_mem hli)]
      rw [hset] at f7
      refine .region (.mv rfl rfl (.add rfl rfl rfl (.asg rfl rfl (.nil ?_))))
      rw [wI (by omega)]
      exact ⟨rfl, i + 1, look_cons rfl (look_cons rfl (look_cons rfl (look_cons rfl (look_cons rfl (look_cons rfl (look_cons rfl look_nil)))))), ⟨u7.below (hW5.trans e6) (by have := hW3.size; omega), u7.below (hX5.trans e6) hgB, hli, f7⟩, by show (redP m).length - (i + 1) < (redP m).length - i; omega⟩
    rintro _ W5 ⟨hW5, hX5, fp⟩
    have ho5 := ho3.lt_ hX5
    have hrow : eV.R (fun k' => S k' ∧ o.ownBlock ≠ some k') W5 (.slice (some ⟨g, 0, none⟩) (colsOf m) cap) (tab (colsOf m) (nv (redF m) (redP m) k)) := by
      have := fp.toR (c := cap) (hsz := by decide) (upU g hgB) (by rw [tab_length]; exact hcap) (by rw [tab_length]; omega)
      rwa [tab_length] at this
    refine .region (.mv rfl rfl (.mv rfl rfl (.bsl _ rfl rfl bsl_M1 fun Wy by_ ny => ?_)))
    obtain ⟨ey, ky, hby, hsy⟩ := ny
    have hfl : (freeTo (redP m) k).length ≤ k := by
      unfold freeTo
      have := List.length_filter_le (fun k => !(decide (k ∈ redP m))) (List.range k)
      simpa using this
    refine .gv rfl rfl (g_appL (E := eV) (base := w2.heap.size) (n := tab (colsOf m) (nv (redF m) (redP m) k)) (e := .slice (some ⟨g, 0, none⟩) (colsOf m) cap) (by decide) un_M info_V rfl rfl rfl (ho5.ext ey) ky (ER.ext eV hrow ey) (by simp; omega) (by decide) (by have := ey.size; have := hW5.size; omega)) ?_
    rintro v8 W8 ⟨ho8, hg8⟩
    refine .asg rfl rfl (.nil (.region (.mv rfl rfl (.add rfl rfl rfl (.asg rfl rfl (.nil ?_))))))
    rw [wI (by omega)]
    refine ⟨rfl, (k + 1, v8), look_cons rfl (look_cons rfl (look_cons rfl (look_cons rfl (look_cons rfl look_nil)))), ⟨(ho5.ext ey).below hg8 (hW5.trans ey) (by have := ey.size; have := hW5.size; omega), hlt, ?_⟩, by show colsOf m - (k + 1) < colsOf m - k; omega⟩
    show OwnL eV 23 w2.heap.size S W8 v8 ((freeTo (redP m) (k + 1)).map G)
    rw [freeTo_succ, if_neg hkp, List.map_append, ← hG]
    rw [← hG] at ho8
    exact ho8
  rintro o W ⟨hW, ho⟩
  refine .seq (.region (.mv rfl rfl (.asg rfl rfl (.nil (.ret ?_)))))
  refine .plain [_] Tryz.results30 ⟨rfl, trivial⟩ ⟨x2.trans hW, ?_⟩
  unfold nullM freeC
  rw [hG]
  exact ho.toR (fun k hk => up2 k hk) (fun _ h => h)
end Go.Proofs.YtccmemilofoamaaGreat

namespace Go.Proofs.YtccmemilofoamaaGreat
open Go Go.Kx Go.RowKit
theorem law05_SolveReduceMatches_c {w : World} {vm : Value} {m : List (List QV)} (hm : eM.R (fun _ => True) w vm m) :
    CR Tryz.prog 5 #[vm] w (Is (.bool true)) := by
  refine enter Tryz.func5 rfl Tryz.ntmps5 rfl ?_
  refine .seq (.region (.asg rfl rfl (.nil (.seq (.seq (.region (.mv rfl rfl ?_)))))))
  refine .call _ rfl E_law05_long rfl (law05_long_c (l := []) hm RL.nil) fun v2 w2 x2 h2 => .nil ?_
  obtain ⟨bb, rfl, hlong⟩ := h2
  cases bb with
  | true =>
    refine .condT rfl (.seq (.region ?_))
    refine .call _ rfl E_law05_alive rfl law05_alive_c fun v3 w3 e3 h3 => .asg rfl rfl (.nil (.ret ?_))
    exact .plain [_] Tryz.results5 ⟨rfl, trivial⟩ ⟨x2.trans e3, h3⟩
  | false =>
  obtain ⟨okm, _⟩ := hlong rfl
  clear hlong
  have mr := okm.mr (hm.ext x2)
  have m1 := okm.rows
  have m2 := okm.cols
  clear hm
  have ok : eOk 2 6 6 m := ⟨mr.hk, by decide, by decide, by omega, by omega, m2, by decide⟩
  refine .condF rfl (.skip (.seq (.region (.mv rfl rfl ?_))))
  refine .call _ rfl E_law04_Own rfl (law04_Own_c upT mr.r (fun r hr q hq => (okm.q r hr q hq).mono (by decide)) (by omega) (by omega)) fun vo w3 e3 h3 => .asg rfl rfl (.nil ?_)
  replace h3 : eM.R (fun _ => True) w3 vo m := h3
  have or_ : MR w3 vo 6 6 2 m := ⟨h3, m1, m2, mr.hk⟩
  refine .seq (.region (.mv rfl rfl ?_))
  refine .call _ rfl E_solve_Reduce rfl (solve_Reduce_c upT or_.r ok) fun v4 w4 e4 h4 => ?_
  obtain ⟨vr, vp, rfl, hr, hp⟩ := h4
  refine .mv rfl rfl (.ext rfl rfl rfl (.ext rfl rfl rfl (.asg rfl rfl (.asg rfl rfl (.nil (.seq (.region (.mv rfl rfl ?_))))))))
  have y4 := e3.trans e4
  refine .call _ rfl E_ref05_Reduce rfl (ref05_Reduce_c upT (mr.ext y4).r ok) fun v5 w5 e5 h5 => ?_
  obtain ⟨vs, vq, rfl, hs, hq⟩ := h5
  refine .mv rfl rfl (.ext rfl rfl rfl (.ext rfl rfl rfl (.asg rfl rfl (.asg rfl rfl (.nil ?_)))))
  have hr := ER.ext eM hr e5
  have hp := ER.ext eI hp e5
  have or_ := (or_.ext e4).ext e5
  have mr := (mr.ext y4).ext e5
  have x5 := (x2.trans y4).trans e5
  refine .seq (.region (.mv rfl rfl (.mv rfl rfl ?_)))
  refine .call _ rfl E_ref04_Is rfl (isM_t hr hs rfl) fun v6 w6 e6 h6 => ?_
  subst h6
  refine .mv rfl rfl (.gr rfl rfl rfl rfl (.mv rfl rfl (.gr rfl rfl rfl rfl (.mv rfl rfl (.gr rfl rfl rfl rfl ?_)))))
  refine .call _ rfl E_ref05_Ints rfl (ref05_Ints_c (a := pInts (redP m)) (ER.ext eI hp e6) (ER.ext eI hq e6)) fun v7 w7 e7 h7 => ?_
  subst h7
  refine .pick rfl rfl rfl (.mv rfl rfl (.gr rfl rfl rfl rfl (.mv rfl rfl (.gr rfl rfl rfl rfl ?_))))
  have y7 := e6.trans e7
  refine .call _ rfl E_solve_Rank rfl (solve_Rank_c upT (or_.ext y7).r ok) fun v8 w8 e8 h8 => ?_
  subst h8
  refine .gr rfl rfl rfl rfl (.mv rfl rfl (.gr rfl rfl rfl rfl (.lenR un_I rfl rfl (ER.ext eI hq (y7.trans e8)) (.gr rfl rfl rfl rfl ?_))))
  have y8 := y7.trans e8
  rw [show (pInts (redP m)).length = (redP m).length by simp]
  refine .eqlT rfl rfl rfl rfl (.pick rfl rfl rfl (.mv rfl rfl (.gr rfl rfl rfl rfl (.mv rfl rfl (.gr rfl rfl rfl rfl ?_)))))
  refine .call _ rfl E_solve_NullSpace rfl (solve_NullSpace_c upT (or_.ext y8).r ok) fun v9 w9 e9 h9 => .gr rfl rfl rfl rfl (.mv rfl rfl (.gr rfl rfl rfl rfl ?_))
  have y9 := y8.trans e9
  refine .call _ rfl E_ref05_Null rfl (ref05_Null_c upT (mr.ext y9).r ok) fun v10 w10 e10 h10 => .gr rfl rfl rfl rfl ?_
  have y10 := y9.trans e10
  refine .call _ rfl E_ref04_Is rfl (isM_t (ER.ext eM h9 e10) h10 rfl) fun v11 w11 e11 h11 => ?_
  subst h11
  refine .pick rfl rfl rfl (.mv rfl rfl (.gr rfl rfl rfl rfl (.mv rfl rfl (.gr rfl rfl rfl rfl (.mv rfl rfl (.gr rfl rfl rfl rfl ?_))))))
  have y11 := y10.trans e11
  refine .call _ rfl E_ref04_Is rfl (isM_t (or_.ext y11).r (mr.ext y11).r rfl) fun v12 w12 e12 h12 => ?_
  subst h12
  refine .pick rfl rfl rfl (.mv rfl rfl (.gr rfl rfl rfl rfl ?_))
  refine .call _ rfl E_law05_alive rfl law05_alive_c fun v13 w13 e13 h13 => ?_
  subst h13
  refine .pick rfl rfl rfl (.asg rfl rfl (.nil (.ret ?_)))
  exact .plain [_] Tryz.results5 ⟨rfl, trivial⟩ ⟨((x5.trans y11).trans e12).trans e13, rfl⟩
end Go.Proofs.YtccmemilofoamaaGreat
