/-
  law 05: what the answers of package solve satisfy; plain. law 05: what the walks of the laws share Elements that the call changes in place, in a row with room behind it. The references: cut, Fit, Unit, Div; by, in, Square The references: Unit, by The references: Reduce law 05: what inverses and determinants satisfy; plain. law 05: every solution; plain. The references: Null The references: Wide The references: Solve The references: Inverse The references: Det law 05: SolveMatches
-/
import Derived.Test.YtccmemilofoamaaGreatG6
set_option linter.unusedVariables false
namespace Go.Proofs.YtccmemilofoamaaGreat
open Go Go.Kx Go.RowKit
section
variable {m : List (List QV)} {b : List QV}
theorem rm_aug (i k : Nat) : rm (augM m b) i k = if i < max m.length b.length ∧ k < colsOf m + 1 then augF m b i k else 0 := rm_tabM ..
theorem aug_cols' (h : 0 < max m.length b.length) : colsOf (augM m b) = colsOf m + 1 := by rw [aug_cols, if_neg (by omega)]
theorem aug_ech (h : 0 < max m.length b.length) : Ech (max m.length b.length) (colsOf m + 1) (redF (augM m b)) (redP (augM m b)) := by
  have := red_ech (augM m b)
  rwa [aug_len, aug_cols' h] at this
theorem red_req (m : List (List QV)) : Req m.length (colsOf m) (rm m) (redF m) := elim_req _ _ _ _
theorem aug_req (h : 0 < max m.length b.length) : Req (max m.length b.length) (colsOf m + 1) (augF m b) (redF (augM m b)) := by
  have := red_req (augM m b)
  rw [aug_len, aug_cols' h] at this
  have e : ∀ i k, i < max m.length b.length → k < colsOf m + 1 → augF m b i k = rm (augM m b) i k := fun i k hi hk => by rw [rm_aug, if_pos ⟨hi, hk⟩]
  exact ⟨fun i hi => (this.1 i hi).of_eq e, fun i hi => (this.2 i hi).congr fun k hk => e i k hi hk⟩
theorem aug_nil (h : max m.length b.length = 0) : redP (augM m b) = [] := by
  have := (red_ech (augM m b)).len
  rw [aug_len] at this
  exact List.length_eq_zero_iff.1 (by omega)
theorem augF_low {i k : Nat} (h : k < colsOf m) : augF m b i k = rm m i k := by unfold augF; rw [if_pos h]
theorem augF_last {i : Nat} : augF m b i (colsOf m) = rv b i := by unfold augF; rw [if_neg (Nat.lt_irrefl _)]
theorem rv_solX (k : Nat) : rv (solX m b) k = if k < colsOf m then partF (redF (augM m b)) (redP (augM m b)) (colsOf m) k else 0 := rv_tab ..
theorem solX_length : (solX m b).length = colsOf m := tab_length ..
theorem rv_big {i : Nat} (h : max m.length b.length ≤ i) : rv b i = 0 := rv_out (by omega)
theorem rm_big {i k : Nat} (h : max m.length b.length ≤ i) : rm m i k = 0 := rm_out (by omega)
/-- what Solve returns is a solution -/
theorem sol_eq (hs : solvable m b) (i : Nat) : sumN (colsOf m) (fun k => rm m i k * rv (solX m b) k) = rv b i := by
  rcases Nat.lt_or_ge i (max m.length b.length) with hi | hi
  · have h0 : 0 < max m.length b.length := by omega
    have := sol_of (aug_ech h0) (aug_req h0) (fun j hj e => hs (e ▸ getD_mem hj)) i hi
    rw [augF_last] at this
    rw [← this]
    exact sumN_congr fun k hk => by rw [rv_solX, if_pos hk, augF_low hk]
  · rw [rv_big hi, sumN_zero' fun k _ => by rw [rm_big hi, Rat.zero_mul]]
theorem solv_of {y : Nat → Rat} (hy : ∀ i, sumN (colsOf m) (fun k => rm m i k * y k) = rv b i) : solvable m b := by
  intro hC
  by_cases h0 : max m.length b.length = 0
  · rw [aug_nil h0] at hC; cases hC
  · have h0 : 0 < max m.length b.length := by omega
    obtain ⟨j, hj, hjC⟩ := mem_getD_ex hC
    obtain ⟨t, ht1, ht2⟩ := no_sol (aug_ech h0) (aug_req h0) hj hjC
    have := sol_no (A := augF m b) (x := y) (fun i _ => by
      rw [augF_last, ← hy i]
      exact sumN_congr fun k hk => by rw [augF_low hk]) ht1
    rw [this] at ht2
    exact absurd ht2 (by decide)
theorem null_length : (nullM m).length = (freeC m).length := by unfold nullM; simp
theorem free_rank (m : List (List QV)) : (nullM m).length + (redP m).length = colsOf m := by rw [null_length]; exact (red_ech m).free_len
theorem red_rsz {L n : Nat} (hk : mk_ L m) (hL : 1 ≤ L) (hn : min m.length (colsOf m) ≤ n) (i k : Nat) (hi : i < m.length) (hc : k < colsOf m) : Rsz (redF m i k) (bd L n) :=
  (elim_rsz hL (fun i k _ _ => hk.rsz hL i k) (colsOf m) (Nat.le_refl _) i k hi hc).mono (bd_mono L (Nat.le_trans (by have h1 := (red_ech m).len_c; have h2 := (red_ech m).len; unfold redP at h1 h2; omega) hn))
end
end Go.Proofs.YtccmemilofoamaaGreat

namespace Go.Proofs.YtccmemilofoamaaGreat
open Go Go.Kx Go.RowKit
theorem okM5.mr {W : World} {v : Value} {m : List (List QV)} (h : okM5 m) (hr : eM.R (fun _ => True) W v m) : MR W v 6 6 2 m := ⟨hr, h.rows, h.cols, eM_mk hr h.q (by decide)⟩
theorem okV5.vr {W : World} {v : Value} {a : List QV} (h : okV5 a) (hr : eV.R (fun _ => True) W v a) : VR W v 8 2 a := ⟨hr, h.len, eV_vk hr h.q (by decide)⟩
section
variable {W W' : World} {v va vb : Value} {n c n' c' L L' : Nat} {a b m : List (List QV)} {x y : List QV}
end
end Go.Proofs.YtccmemilofoamaaGreat

namespace Go.Kx
open Go Go.RowKit

/-- the block g begins with the elements l; their own memory is S's, and not g -/
def FP {α : Type} (E : ER α) (t : TypeId) (S : Nat → Prop) (w : World) (g : Nat) (l : List α) : Prop :=
  ∃ es rest, Blk w g t (cellsOf es ++ rest).toArray ∧ Els E (fun k => S k ∧ k ≠ g) w es l

theorem cellsOf_setP {sz : Nat} (hsz : 0 < sz) (es rest : List Value) (i : Nat) (v : Value) (hs : ∀ e ∈ es, e.cells.size = sz) (hv : v.cells.size = sz) (hi : i < es.length) :
    wrt (cellsOf es ++ rest).toArray (i * sz) v.cells.toList = (cellsOf (es.set i v) ++ rest).toArray := by
  have h0 := cellsOf_set hsz es i v hs hv hi
  have hs' : ∀ e ∈ es.set i v, e.cells.size = sz := fun e he => by
    rcases List.mem_or_eq_of_mem_set he with h | h
    · exact hs e h
    · rw [h]; exact hv
  have hl := cellsOf_length es hs
  have hl' := cellsOf_length (es.set i v) hs'
  rw [List.length_set] at hl'
  have hle : i * sz + sz ≤ es.length * sz := by rw [← Nat.succ_mul]; exact Nat.mul_le_mul_right _ hi
  apply Array.ext_getElem?
  intro j
  rw [wrt_get _ _ _ _ (by simp only [Array.length_toList, hv, List.size_toArray, List.length_append, hl]; omega)]
  have h1 : (wrt (cellsOf es).toArray (i * sz) v.cells.toList)[j]? = (cellsOf (es.set i v)).toArray[j]? := by rw [h0]
  rw [wrt_get _ _ _ _ (by simp only [Array.length_toList, hv, List.size_toArray, hl]; exact hle)] at h1
  simp only [Array.length_toList, hv, List.getElem?_toArray, Array.getElem?_toList] at h1 ⊢
  rcases Nat.lt_or_ge j (es.length * sz) with hj | hj
  · rw [List.getElem?_append_left (by omega), List.getElem?_append_left (by omega)]; exact h1
  · rw [if_neg (by omega), List.getElem?_append_right (by omega), List.getElem?_append_right (by omega), hl, hl']

section
variable {α : Type} {E : ER α} {t : TypeId} {S X : Nat → Prop} {w w' : World} {g : Nat} {l : List α}
theorem FP.lt (h : FP E t S w g l) : g < w.heap.size := by obtain ⟨es, _, hb, _⟩ := h; exact hb.lt
theorem FP.kp (h : FP E t S w g l) (hk : Kp (fun _ => True) w w') : FP E t S w' g l := by
  obtain ⟨es, r, hb, he⟩ := h
  exact ⟨es, r, hk.blk trivial hb, he.keep fun k c t f _ hc => hk k c t f trivial hc⟩
theorem FP.ext (h : FP E t S w g l) (e : Ext w w') : FP E t S w' g l := h.kp (Kp.ext e)
theorem FP.upd {b : Nat} (h : FP E t S w g l) (u : Upd w w' b) (hne : g ≠ b) (hS : ¬ S b) : FP E t S w' g l := by
  obtain ⟨es, r, hb, he⟩ := h
  exact ⟨es, r, hb.upd u hne, he.keep (Kp.upd u fun h => hS h.1)⟩
theorem FP.mono {S' : Nat → Prop} (h : FP E t S w g l) (hk : ∀ k, k < w.heap.size → S k → S' k) : FP E t S' w g l := by
  obtain ⟨es, r, hb, he⟩ := h
  exact ⟨es, r, hb, he.1, fun i e x h1 h2 => E.mono (fun k hl hh => ⟨hk k hl hh.1, hh.2⟩) (he.2 i e x h1 h2)⟩
theorem FP.toR {hsz : 0 < E.sz} {c : Nat} (h : FP E t S w g l) (hS : S g) (hc : l.length ≤ c) (hm : l.length ≤ 9223372036854775807) : (RL E hsz).R S w (.slice (some ⟨g, 0, none⟩) l.length c) l := by
  obtain ⟨es, r, hb, he⟩ := h
  exact RL.ofBlk hb hS ⟨he.1, fun i e x h1 h2 => E.mono (fun k _ hh => hh.1) (he.2 i e x h1 h2)⟩ (fun j u hu => by
    rw [List.getElem?_toArray, List.getElem?_append_left (List.getElem?_eq_some_iff.1 hu).1]; exact hu) hc hm
theorem FP.chg (h : FP E t S w g l) (c : Chg X w w') (hg : ¬ X g) (hS : ∀ k, S k → ¬ X k) : FP E t S w' g l := by
  obtain ⟨es, r, hb, he⟩ := h
  exact ⟨es, r, c.blk hb hg, he.keep (c.kp fun k hk => hS k hk.1)⟩
theorem FP.at_ {i : Nat} {x : α} (h : FP E t S w g l) (hx : l[i]? = some x) : ∃ e, E.R (fun k => S k ∧ k ≠ g) w e x ∧ PtrX w ⟨g, i * E.sz, none⟩ e := by
  obtain ⟨es, r, hb, he⟩ := h
  have hlt : i < l.length := (List.getElem?_eq_some_iff.1 hx).1
  obtain ⟨e, hee⟩ : ∃ e, es[i]? = some e := ⟨_, List.getElem?_eq_getElem (by rw [he.1]; exact hlt)⟩
  refine ⟨e, he.2 i e x hee hx, fun j u hu => ?_⟩
  have hj : j < E.sz := by
    have hs := he.sz e (List.mem_iff_getElem?.2 ⟨i, hee⟩)
    rcases Nat.lt_or_ge j e.cells.size with h | h
    · omega
    · rw [Array.getElem?_eq_none h] at hu; cases hu
  have hg := cellsOf_get es i j e he.sz hee hj
  rw [hu] at hg
  rw [add_mk, hb.cell, List.getElem?_toArray, List.getElem?_append_left (List.getElem?_eq_some_iff.1 hg).1]
  exact hg
/-- a row that was appended to -/
theorem OwnL.fp {base : Nat} {v : Value} (h : OwnL E t base X w v l) (hne : 0 < l.length) : ∃ g cap, v = .slice (some ⟨g, 0, none⟩) l.length cap ∧ l.length ≤ cap ∧ cap ≤ 9223372036854775807 ∧ base ≤ g ∧ FP E t X w g l := by
  obtain ⟨es, ho, he⟩ := h
  rcases ho.2 with ⟨_, h0⟩ | ⟨g, cap, cur, hv, hb, hg, h1, h2, h3, h4⟩
  · omega
  · subst hv
    refine ⟨g, cap, rfl, h1, by simpa [maxLen] using h2, hb, es, cur.toList.drop (l.length * E.sz), ?_, he.1, fun i e x hi hx => E.mono (fun k _ hk => ⟨hk.1, fun e => hk.2 (by rw [e]; rfl)⟩) (he.2 i e x hi hx)⟩
    rw [← h4, List.take_append_drop]
    exact hg
end

section
variable {P : Program} {ro : Option Nat} {N : Nat} {ds : List Deferred} {ops : Array Oper} {K : Env → World → Prop} {rest : List Oper} {σ : Env} {w : World} {d : Tmp} {ty : TypeId} {pos : String} {af : Array Edge} {α : Type} {E : ER α} {S : Nat → Prop}
theorem g_storeP {dd : Option Tmp} {gd : Option (Nat × Bool)} {t t' : TypeId} {x y : Operand} {g i o n : Nat} {a : Bool} {l : List α} {v : Value} {z : α} (hsz : 0 < E.sz) (ht : tyOf P t = some (a, n)) (hx : ev σ x = some (.pointer (some ⟨g, o, none⟩))) (hy : ev σ y = some v) (hb : FP E t' S w g l)
    (hn : E.sz = n) (hi : i < l.length) (ho : o = i * E.sz) (hz : E.R (fun k => S k ∧ k ≠ g) w v z) :
    Gv P ⟨dd, .store t x y, ty, pos, af, gd⟩ σ w fun _ w' => FP E t' S w' g (l.set i z) ∧ Upd w w' g := by
  obtain ⟨es, r, hB, he⟩ := hb
  have hcs := E.csz hz
  subst ho
  have hl := cellsOf_length es he.sz
  have hie : i < es.length := by rw [he.1]; exact hi
  have hle : i * E.sz + n ≤ (cellsOf es ++ r).toArray.size := by
    have : i * E.sz + n ≤ es.length * E.sz := by rw [← hn, ← Nat.succ_mul]; exact Nat.mul_le_mul_right _ hie
    rw [List.size_toArray, List.length_append, hl]; omega
  refine (g_store ht hx hy hB (by omega) hle (E.one hz)).mono ?_
  rintro _ w' ⟨hB', u⟩
  rw [cellsOf_setP hsz es r i v he.sz hcs hie] at hB'
  refine ⟨⟨es.set i v, r, hB', ?_⟩, u⟩
  have := Els.set he i hz
  exact this.keep (Kp.upd u fun h => h.2 rfl)
theorem WL.storeP {t t' : TypeId} {x y : Operand} {g i o n : Nat} {a : Bool} {l : List α} {v : Value} {z : α} (hsz : 0 < E.sz) (ht : tyOf P t = some (a, n)) (hx : ev σ x = some (.pointer (some ⟨g, o, none⟩))) (hy : ev σ y = some v) (hb : FP E t' S w g l)
    (hn : E.sz = n) (hi : i < l.length) (ho : o = i * E.sz) (hz : E.R (fun k => S k ∧ k ≠ g) w v z) (k : ∀ w', FP E t' S w' g (l.set i z) → Upd w w' g → WL P ro N ds ops K rest σ w') :
    WL P ro N ds ops K (⟨none, .store t x y, ty, pos, af, none⟩ :: rest) σ w :=
  WL.gv rfl rfl (g_storeP hsz ht hx hy hb hn hi ho hz) fun _ w' ⟨h1, h2⟩ => k w' h1 h2
theorem ob_ldP {dd : Option Tmp} {gd : Option (Nat × Bool)} {t t' : TypeId} {x : Operand} {g i o : Nat} {l : List α} {z : α} (ht : tyOf P t = some (E.isA, E.sz)) (hx : ev σ x = some (.pointer (some ⟨g, o, none⟩))) (ho : o = i * E.sz) (hF : FP E t' S w g l) (hz : l[i]? = some z) :
    Gv P ⟨dd, .load t x, ty, pos, af, gd⟩ σ w fun v' w' => Ext w w' ∧ Sp.ok (.inr (E.at (fun k => S k ∧ k ≠ g) z)) v' w' := by
  subst ho
  obtain ⟨e, h1, h2⟩ := hF.at_ hz
  exact ob_vl (v_ldX ht hx h2 h1) h1 (st_at _ _ _)
theorem WL.ldP {t t' : TypeId} {x : Operand} {g i o : Nat} {l : List α} {z : α} (ht : tyOf P t = some (E.isA, E.sz)) (hd : Nat.blt d N = true) (hx : ev σ x = some (.pointer (some ⟨g, o, none⟩))) (ho : o = i * E.sz) (hF : FP E t' S w g l) (hz : l[i]? = some z)
    (k : ∀ e, E.R (fun k => S k ∧ k ≠ g) w e z → WL P ro N ds ops K rest ((d, e) :: σ) w) : WL P ro N ds ops K (⟨some d, .load t x, ty, pos, af, none⟩ :: rest) σ w := by
  subst ho
  obtain ⟨e, h1, h2⟩ := hF.at_ hz
  exact .ldX ht hd hx h2 h1 (k e h1)
end
end Go.Kx

namespace Go.Proofs.YtccmemilofoamaaGreat
open Go Go.Kx Go.RowKit
theorem E_ref04_cut : Ent Tryz.prog 124 := ent_of Tryz.func124 (by kernel_rfl) rfl
theorem ref04_cut_c {w : World} {n : Int} : CR Tryz.prog 124 #[.int .i64 n] w (Is (.int .i64 (cutN n))) := by
  refine enter Tryz.func124 rfl Tryz.ntmps124 rfl ?_
  refine .seq (.region (.asg rfl rfl (.nil (.seq (.region (.mv rfl rfl (.max_ rfl rfl rfl (.min_ rfl rfl rfl (.asg rfl rfl (.nil (.ret ?_)))))))))))
  refine .plain [_] Tryz.results124 ⟨rfl, trivial⟩ ⟨Ext.refl _, ?_⟩
  show Value.int .i64 (min (max n 0) 1024) = _
  rw [show min (max n 0) 1024 = ((cutN n : Nat) : Int) by unfold cutN; omega]
theorem E_ref04_Fit : Ent Tryz.prog 77 := ent_of Tryz.func77 (by kernel_rfl) rfl
theorem ref04_Fit_c {S : Nat → Prop} {w : World} {vm : Value} {m : List (List QV)} {r c : Int} {L : Nat} (up : Up S w) (hm : eM.R S w vm m) (hk : mk_ L m) (hL : 1 ≤ L) (hL2 : L ≤ 100000000) :
    CR Tryz.prog 77 #[vm, .int .i64 r, .int .i64 c] w (fun v W => OwnL eV 23 w.heap.size S W v (tabM (cutN r) (cutN c) (rm m))) := by
  have hr := cutN_le r
  have hc := cutN_le c
  refine enter Tryz.func77 rfl Tryz.ntmps77 rfl ?_
  refine .seq (.region (.asg rfl rfl (.nil (.seq (.region (.mv rfl rfl ?_))))))
  refine .call _ rfl E_ref04_cut rfl ref04_cut_c fun v1 w1 e1 h1 => .mv rfl rfl ?_
  subst h1
  refine .call _ rfl E_ref04_cut rfl ref04_cut_c fun v2 w2 e2 h2 => ?_
  subst h2
  have x2 := e1.trans e2
  refine .call _ rfl E_ref02_Int rfl (ref02_Int_c (S := S) (up.ext x2.size) (by decide) (by decide)) fun v3 w3 e3 h3 => .mv rfl rfl ?_
  have x3 := x2.trans e3
  have hk1 : qk L (qc ((1 : Int) : Rat)) := qk_qc (Rsz.int 1 (Nat.lt_of_lt_of_le (by decide) (Nat.pow_le_pow_right (by decide) hL)) hL)
  refine .call _ rfl E_ref04_made rfl (ref04_madeF_c (k := qc ((1 : Int) : Rat)) (b := []) (f := rm m) (up.ext x3.size) h3 (ER.ext eM hm x3) RL.nil (by omega) (by omega) fun {T W i j} u hk' ha hb hi hj => by
    have := ref04_place0_c (i := i) (j := j) (vb := .slice none 0 0) u hk' ha hk1 hk hL hL2
    rw [qval_qc, rmI_nat, show (((1 : Int) : Rat)) * rm m i j = rm m i j by grind] at this
    exact this) fun v4 w4 e4 h4 => .asg rfl rfl (.nil (.ret ?_))
  exact .plain [_] Tryz.results77 ⟨rfl, trivial⟩ ⟨x3.trans e4, OwnL.base h4 x3.size⟩
theorem E_ref05_Square : Ent Tryz.prog 21 := ent_of Tryz.func21 (by kernel_rfl) rfl
theorem ref05_Square_c {S : Nat → Prop} {w : World} {vm : Value} {m : List (List QV)} (hm : eM.R S w vm m) : CR Tryz.prog 21 #[vm] w (Is (.bool (decide (colsOf m = m.length)))) := by
  refine enter Tryz.func21 rfl Tryz.ntmps21 rfl ?_
  refine .seq (.region (.asg rfl rfl (.nil (.seq (.region (.mv rfl rfl (.lenR un_M rfl rfl hm (.mv rfl rfl ?_))))))))
  refine .call _ rfl E_ref04_Cols rfl (ref04_Cols_c hm) fun v1 w1 e1 h1 => ?_
  subst h1
  by_cases h : colsOf m = m.length
  · refine .eqlT rfl rfl rfl (by omega) (.asg rfl rfl (.nil (.ret ?_)))
    exact .plain [_] Tryz.results21 ⟨rfl, trivial⟩ ⟨e1, by rw [decide_eq_true h] <;> rfl⟩
  · refine .eqlF rfl rfl rfl (by omega) (.asg rfl rfl (.nil (.ret ?_)))
    exact .plain [_] Tryz.results21 ⟨rfl, trivial⟩ ⟨e1, by rw [decide_eq_false h] <;> rfl⟩
theorem mem_getD_ex' {p : List Nat} {c : Nat} (h : c ∈ p) : ∃ j, j < p.length ∧ p.getD j 0 = c := by
  obtain ⟨j, hj⟩ := List.mem_iff_getElem?.1 h
  exact ⟨j, (List.getElem?_eq_some_iff.1 hj).1, by rw [List.getD_eq_getElem?_getD, hj]; rfl⟩
theorem E_ref05_in : Ent Tryz.prog 64 := ent_of Tryz.func64 (by kernel_rfl) rfl
theorem ref05_in_c {S : Nat → Prop} {w : World} {v : Value} {p : List Nat} {k : Nat} (h : eI.R S w v (pInts p)) : CR Tryz.prog 64 #[v, .int .i64 (k : Nat)] w (Is (.bool (decide (k ∈ p)))) := by
  obtain ⟨_, _, _, _, hl⟩ := RL.len h
  have hpl : (pInts p).length = p.length := by simp
  refine enter Tryz.func64 rfl Tryz.ntmps64 rfl ?_
  refine .seq (.region (.asg rfl rfl (.nil (.seq (.seq (.region (.asg rfl rfl (.nil ?_))))))))
  refine .block (.loop (α := Nat) (fun i => [(0, v), (1, .int .i64 (k : Nat)), (5, .int .i64 (i : Nat))]) (fun i W => W = w ∧ i ≤ p.length ∧ ∀ j, j < i → p.getD j 0 ≠ k) (fun i => p.length - i) 0 ?_ ?_ ?_)
  · exact look_cons rfl (look_cons rfl (look_cons rfl look_nil))
  · exact ⟨rfl, Nat.zero_le _, fun j hj => absurd hj (Nat.not_lt_zero _)⟩
  rintro i W ⟨rfl, hi, hall⟩
  refine .seq (.seq (.region (.mv rfl rfl (.mv rfl rfl (.lenR un_I rfl rfl h ?_)))))
  rw [hpl]
  rcases Nat.lt_or_ge i p.length with hlt | hge
  rotate_left
  · refine .lssF rfl rfl rfl (by omega) (.nil (.condF rfl (.exit (.seq (.region (.asg rfl rfl (.nil (.ret ?_))))))))
    have hno : k ∉ p := fun hk => by
      obtain ⟨j, hj, e⟩ := mem_getD_ex' hk
      exact hall j (by omega) e
    exact .plain [_] Tryz.results64 ⟨rfl, trivial⟩ ⟨Ext.refl _, by rw [decide_eq_false hno] <;> rfl⟩
  have hg : (pInts p)[i]? = some ((p.getD i 0 : Nat) : Int) := by rw [List.getElem?_map, getD_get' (z := 0) hlt]; rfl
  refine .lssT rfl rfl rfl (by omega) (.nil (.condT rfl (.skip (.seq (.block (.seq (.region (.mv rfl rfl (.mv rfl rfl (.ixN (i := i) un_I ty_I1 rfl rfl h rfl hg fun q hq => .ldE (E := eInt .i64) ty_I1 rfl rfl hq fun e he => .mv rfl rfl ?_))))))))))
  obtain ⟨rfl, _⟩ := he
  by_cases he : p.getD i 0 = k
  · refine .eqlT rfl rfl rfl (by omega) (.nil (.condT rfl (.seq (.region (.asg rfl rfl (.nil (.ret ?_)))))))
    have hyes : k ∈ p := he ▸ List.mem_iff_getElem?.2 ⟨i, getD_get' hlt⟩
    exact .plain [_] Tryz.results64 ⟨rfl, trivial⟩ ⟨Ext.refl _, by rw [decide_eq_true hyes] <;> rfl⟩
  · refine .eqlF rfl rfl rfl (by omega) (.nil (.condF rfl (.skip (.region (.mv rfl rfl (.add rfl rfl rfl (.asg rfl rfl (.nil ?_))))))))
    rw [wI (by omega)]
    refine ⟨rfl, i + 1, look_cons rfl (look_cons rfl (look_cons rfl look_nil)), ⟨rfl, hlt, fun j hj => ?_⟩, by show p.length - (i + 1) < p.length - i; omega⟩
    by_cases e : j = i
    · subst e; exact he
    · exact hall j (by omega)
/-- a / b -/
theorem inv_q {b : QV} (h : pn b ≠ 0) : qval ⟨zc (pd b), zc (pn b)⟩ = (qval b)⁻¹ := by
  have hp := pd_pos b
  have h1 : qval b = Rat.divInt (pn b) (pd b) := rfl
  rw [h1, Rat.inv_divInt]
  generalize pn b = n at h
  generalize pd b = d at hp
  unfold qval pn pd
  simp only [zval_zc]
  rw [if_neg h]
  split
  · rw [Rat.divInt_neg', Int.neg_neg]
  · rfl
theorem E_ref02_Div : Ent Tryz.prog 125 := ent_of Tryz.func125 (by kernel_rfl) rfl
theorem ref02_Div_c {S : Nat → Prop} {w : World} {va vb : Value} {a b : QV} {L : Nat} (up : Up S w) (ha : eQ.R S w va a) (hb : eQ.R S w vb b) (hla : qok L a) (hlb : qok L b) (h1 : 1 ≤ L) (hL : L ≤ 400000000) (h0 : qval b ≠ 0) :
    CR Tryz.prog 125 #[va, vb] w (Two (eQ.at S (qc (qval a * (qval b)⁻¹))) (Is (.int .i64 0))) := by
  have hva := shpA rfl ha
  have hvb := shpA rfl hb
  have hL9 : L ≤ 1000000000 := by omega
  have hbn : pn b ≠ 0 := by
    intro h
    apply h0
    unfold qval
    rw [h, Rat.zero_divInt]
  obtain ⟨db1, db2⟩ := eQ_digs hb
  have lnb := pn_lt db1 hlb
  have ldb := pd_lt db2 hlb h1
  have hri : Rsz (qval b)⁻¹ L := (rsz_qval db1 db2 hlb h1).inv h1
  refine enter Tryz.func125 rfl Tryz.ntmps125 rfl ?_
  refine .seq (.region (.box rfl rfl fun w1 b2 n1 => .box rfl rfl fun w2 b3 n2 => .alloc rfl zero_Q fun w3 b4 n3 => .asg rfl rfl (.nil ?_)))
  obtain ⟨e1, k2, hb2, hs1⟩ := n1
  obtain ⟨e2, k3, hb3, hs2⟩ := n2
  obtain ⟨e3, k4, hb4, hs3⟩ := n3
  have x3 := (e1.trans e2).trans e3
  have k2 := (k2.ext e2).ext e3
  have k3 := k3.ext e3
  have hS4 : ¬ Sx S w.heap.size w3.heap.size b4 := Sx.no (by omega) (by omega)
  have up3 : Up (Sx S w.heap.size w3.heap.size) w3 := Sx.up up (Nat.le_refl _) x3.size
  have ha3 := (ha.par w3.heap.size).ext x3
  have hb3' := (hb.par w3.heap.size).ext x3
  have hout : ∀ {W : World} {v : Value} {z : QV}, eQ.R (Sx S w.heap.size w3.heap.size) W v z → eQ.R S W v z := fun h => h.out
  have hw4 : w.heap.size ≤ b4 := by omega
  generalize hT : Sx S w.heap.size w3.heap.size = T at *
  refine .seq (.seq (.region (.ldA ty_Q rfl rfl k3 (eQ.csz hb) ?_)))
  rw [← hvb]
  refine .call _ rfl E_ref02_Sign rfl (ref02_Sign_c up3 hb3' hlb hL9) fun v0 w0 e0 h00 => ?_
  subst h00
  refine .eqlF rfl rfl rfl (fun h => hbn (Int.sign_eq_zero_iff_zero.1 h)) (.nil (.condF rfl (.skip (.seq ?_))))
  have hq : qok L ⟨zc (pd b), zc (pn b)⟩ := ⟨zc_len ldb, zc_len lnb⟩
  have up4 := up3.ext e0.size
  refine .par follows 8 [.inl va, .inl vb, .inr (eZ.at T (zc (pd b))), .inl vb, .inr (eZ.at T (zc (pn b))), .inr (eQ.at T ⟨zc (pd b), zc (pn b)⟩), .inr (eQ.at T (qc (qval b)⁻¹)), .inr (eQ.at T (qc (qval a * (qval b)⁻¹)))] [[], [], [(11, 1)], [], [(13, 3)], [(12, 2), (14, 4)], [(15, 5)], [(10, 0), (16, 6)]] (by kernel_rfl) ⟨
    fun w e => ((v_ldA ty_Q rfl ((k2.ext e0).ext e) (eQ.csz ha)).eq hva.symm).ob,
    fun w e => ((v_ldA ty_Q rfl ((k3.ext e0).ext e) (eQ.csz hb)).eq hvb.symm).ob,
    fun w e => (g_call _ E_ref02_den rfl (ref02_den_c (up4.ext e.size) ((hb3'.ext e0).ext e) hlb hL9)).ob (st_at _ _ _),
    fun w e => ((v_ldA ty_Q rfl ((k3.ext e0).ext e) (eQ.csz hb)).eq hvb.symm).ob,
    fun w e => (g_call _ E_ref02_num rfl (ref02_num_c (up4.ext e.size) ((hb3'.ext e0).ext e) hlb hL9)).ob (st_at _ _ _),
    fun w e x hx y hy => by
      obtain ⟨s, rfl, hs⟩ := hx
      obtain ⟨t, rfl, ht⟩ := hy
      exact ob_vl (v_bld [(0, .agg #[.bool (zc (pd b)).neg, s]), (1, .agg #[.bool (zc (pn b)).neg, t])] rfl bld_Q2) ⟨s, t, rfl, hs, ht⟩ (st_at _ _ _),
    fun w e x hx => by
      have := ref02_Least_c (up4.ext e.size) hx hq h1 hL9
      rw [inv_q hbn] at this
      exact (g_call _ E_ref02_Least rfl this).ob (st_at _ _ _),
    fun w e x hx => by
      have := ref02_Mul_c (up4.ext e.size) ((ha3.ext e0).ext e) hx hla hri.toOk h1 hL
      rw [qval_qc] at this
      exact (g_call _ E_ref02_Mul rfl this).ob (st_at _ _ _), trivial⟩ ?_
  intro w5 e5 y2 _ y4 _ y5 _ y6 _ y7 h7
  refine .storeA (E := eQ) ty_Q rfl rfl ((k4.ext e0).ext e5) rfl rfl h7 hS4 fun w6 k6 u6 h6 => .asg rfl rfl (.nil (.ret ?_))
  exact .plain [_, _] Tryz.results125 ⟨⟨_, rfl, load_cell (E := eQ) ty_Q rfl rfl k6 h6⟩, rfl, trivial⟩ ⟨u6.below ((x3.trans e0).trans e5) hw4, _, _, rfl, hout h6, rfl⟩
end Go.Proofs.YtccmemilofoamaaGreat

namespace Go.Proofs.YtccmemilofoamaaGreat
open Go Go.Kx Go.RowKit
def uniR (k : Int) : Nat → Rat := fun i => if (i : Int) = k then 1 else 0
theorem E_ref03_Unit : Ent Tryz.prog 65 := ent_of Tryz.func65 (by kernel_rfl) rfl
theorem ref03_Unit_c {S : Nat → Prop} {w : World} {n : Nat} {k : Int} (up : Up S w) (hn : n ≤ 65536) : CR Tryz.prog 65 #[.int .i64 (n : Nat), .int .i64 k] w (fun v W => OwnL eQ 37 w.heap.size S W v (tab n (uniR k))) := by
  refine enter Tryz.func65 rfl Tryz.ntmps65 rfl ?_
  refine .seq (.region (.asg rfl rfl (.nil (.seq (.region (.asg rfl rfl (.nil (.seq (.seq (.region (.asg rfl rfl (.nil ?_))))))))))))
  generalize hf : (fun i => qc (uniR k i)) = f
  refine .block (.loop (α := Nat × Value) (fun x => [(0, .int .i64 (n : Nat)), (1, .int .i64 k), (5, x.2), (6, .int .i64 (x.1 : Nat))]) (fun x W => Below w.heap.size w W ∧ x.1 ≤ n ∧ OwnL eQ 37 w.heap.size S W x.2 ((List.range x.1).map f)) (fun x => n - x.1) (0, .slice none 0 0) ?_ ?_ ?_)
  · exact look_cons rfl (look_cons rfl (look_cons rfl (look_cons rfl look_nil)))
  · exact ⟨Below.refl _ _, Nat.zero_le _, OwnL.nil⟩
  rintro ⟨i, u⟩ W ⟨hB, hi, ho⟩
  replace hB : Below w.heap.size w W := hB
  replace hi : i ≤ n := hi
  replace ho : OwnL eQ 37 w.heap.size S W u ((List.range i).map f) := ho
  have hsz := hB.size
  refine .seq (.seq (.region (.mv rfl rfl (.mv rfl rfl ?_))))
  by_cases hlt : i < n
  rotate_left
  · refine .lssF rfl rfl rfl (by omega) (.mv rfl rfl (.gs rfl rfl rfl rfl rfl (.gs rfl rfl rfl rfl rfl (.pick rfl rfl rfl (.nil (.condF rfl (.exit (.seq (.region (.mv rfl rfl (.asg rfl rfl (.nil (.ret ?_)))))))))))))
    have : i = n := by omega
    subst this
    refine .plain [_] Tryz.results65 ⟨rfl, trivial⟩ ⟨hB, ?_⟩
    unfold tab
    rw [hf]
    exact ho
  obtain ⟨es, ho1, ho2⟩ := id ho
  refine .lssT rfl rfl rfl (by omega) (.mv rfl rfl (.gr rfl rfl rfl rfl (.mv rfl rfl (.gr rfl rfl rfl rfl (.lssT rfl rfl rfl (by omega) (.pick rfl rfl rfl (.nil (.condT rfl (.skip (.seq (.block (.seq (.region (.bld [] rfl rfl bld_Q0 (.alloc rfl zero_Q fun W1 b7 n1 => ?_)))))))))))))))
  obtain ⟨e1, k7, hb7, hs1⟩ := n1
  have hub : u.ownBlock ≠ some b7 := fun h => by have := (ho1.lt b7 h).2; omega
  refine .storeA (E := eQ) (S := fun k' => (S k' ∧ u.ownBlock ≠ some k') ∧ k' ≠ b7) (z := q0) ty_Q rfl rfl k7 rfl rfl ⟨_, _, rfl, RL.nil, RL.nil⟩ (fun h => h.2 rfl) fun W2 k7 u2 h7 => .nil ?_
  have x2 : Ext W W2 := u2.below e1 (by omega)
  have hs2 := u2.size
  refine .mid (α := Value) (fun _ => [(0, .int .i64 (n : Nat)), (1, .int .i64 k), (5, u), (6, .int .i64 (i : Nat)), (7, .pointer (some ⟨b7, 0, none⟩))]) (fun v W3 => Ext W W3 ∧ Blk W3 b7 37 v.cells ∧ eQ.R (fun k' => (S k' ∧ u.ownBlock ≠ some k') ∧ k' ≠ b7) W3 v (f i)) ?_ ?_
  · refine .seq (.region (.mv rfl rfl (.mv rfl rfl ?_)))
    by_cases hk : (i : Int) = k
    · refine .eqlT rfl rfl rfl hk (.nil (.condT rfl (.region ?_)))
      refine .call _ rfl E_ref02_Int rfl (ref02_Int_c (S := fun k' => (S k' ∧ u.ownBlock ≠ some k') ∧ k' ≠ b7) (fun k' hk' => ⟨⟨up k' (by omega), fun h => by have := (ho1.lt k' h).2; omega⟩, by omega⟩) (by decide) (by decide)) fun v3 W3 e3 h3 => ?_
      refine .storeA (E := eQ) ty_Q rfl rfl (k7.ext e3) rfl rfl h3 (fun h => h.2 rfl) fun W4 k7 u4 h4 => .nil ?_
      refine ⟨rfl, v3, look_cons rfl (look_cons rfl (look_cons rfl (look_cons rfl (look_cons rfl look_nil)))), u4.below (x2.trans e3) (by omega), k7, ?_⟩
      rw [← hf]
      show eQ.R _ _ _ (qc (uniR k i))
      unfold uniR
      rw [if_pos hk]
      exact h4
    · refine .eqlF rfl rfl rfl hk (.nil (.condF rfl (.skip ?_)))
      refine ⟨rfl, _, look_cons rfl (look_cons rfl (look_cons rfl (look_cons rfl (look_cons rfl look_nil)))), x2, k7, ?_⟩
      rw [← hf]
      show eQ.R _ _ _ (qc (uniR k i))
      unfold uniR
      rw [if_neg hk, qc_zero]
      exact h7
  rintro v W3 ⟨x3, k7, h7⟩
  have hv := shpA rfl h7
  have hr' := h7
  refine .region (.mv rfl rfl (.ldA ty_Q rfl rfl k7 (eQ.csz h7) ?_))
  rw [← hv]
  obtain ⟨s, t, rfl, _, _⟩ := hr'
  refine .bsl _ rfl rfl bsl_V1 fun W4 b4 n4 => ?_
  obtain ⟨e4, k4, hb4, hs4⟩ := n4
  have e14 := x3.trans e4
  have hB4 : Below w.heap.size w W4 := hB.trans (e14.mono hsz)
  refine .gv rfl rfl (g_appL (E := eQ) (base := w.heap.size) (n := f i) (by decide) un_V info_Q rfl rfl rfl (ho.ext e14) k4 (eQ.mono (fun k' _ h => h.1) (h7.ext e4)) (by simp; omega) (by decide) hB4.size) ?_
  rintro v5 W5 ⟨ho5, hg5⟩
  refine .asg rfl rfl (.nil (.region (.mv rfl rfl (.add rfl rfl rfl (.asg rfl rfl (.nil ?_))))))
  rw [wI (by omega)]
  refine ⟨rfl, (i + 1, v5), look_cons rfl (look_cons rfl (look_cons rfl (look_cons rfl look_nil))), ⟨(ho.ext e14).below hg5 hB4 hB4.size, hlt, ?_⟩, by show n - (i + 1) < n - i; omega⟩
  show OwnL eQ 37 w.heap.size S W5 v5 ((List.range (i + 1)).map f)
  rw [List.range_succ, List.map_append]
  exact ho5
theorem E_ref05_by : Ent Tryz.prog 79 := ent_of Tryz.func79 (by kernel_rfl) rfl
theorem ref05_by_c {S : Nat → Prop} {w : World} {va vb : Value} {a b : QV} {L : Nat} (up : Up S w) (ha : eQ.R S w va a) (hb : eQ.R S w vb b) (hla : qok L a) (hlb : qok L b) (h1 : 1 ≤ L) (hL : L ≤ 400000000) (h0 : qval b ≠ 0) :
    CR Tryz.prog 79 #[va, vb] w (eQ.at S (qc (qval a * (qval b)⁻¹))) := by
  have hva := shpA rfl ha
  have hvb := shpA rfl hb
  refine enter Tryz.func79 rfl Tryz.ntmps79 rfl ?_
  refine .seq (.region (.box rfl rfl fun w1 b2 n1 => .box rfl rfl fun w2 b3 n2 => .alloc rfl zero_Q fun w3 b4 n3 => .nil ?_))
  obtain ⟨e1, k2, hb2, hs1⟩ := n1
  obtain ⟨e2, k3, hb3, hs2⟩ := n2
  obtain ⟨e3, k4, hb4, hs3⟩ := n3
  have x3 := (e1.trans e2).trans e3
  have k2 := (k2.ext e2).ext e3
  have k3 := k3.ext e3
  have up3 : Up (fun k => S k ∧ k ≠ b4) w3 := fun k hk => ⟨up k (by have := x3.size; omega), by omega⟩
  have ha3 : eQ.R (fun k => S k ∧ k ≠ b4) w3 va a := eQ.mono (fun k _ h => ⟨h.1, by have := h.2; omega⟩) ((ER.lt eQ ha).ext x3)
  have hb3' : eQ.R (fun k => S k ∧ k ≠ b4) w3 vb b := eQ.mono (fun k _ h => ⟨h.1, by have := h.2; omega⟩) ((ER.lt eQ hb).ext x3)
  refine .seq (.region (.ldA ty_Q rfl rfl k2 (eQ.csz ha) (.ldA ty_Q rfl rfl k3 (eQ.csz hb) ?_)))
  rw [← hva, ← hvb]
  refine .call _ rfl E_ref02_Div rfl (ref02_Div_c up3 ha3 hb3' hla hlb h1 hL h0) fun v4 w4 e4 h4 => ?_
  obtain ⟨vq, ve, rfl, hq, rfl⟩ := h4
  refine .mv rfl rfl (.ext rfl rfl rfl (.ext rfl rfl rfl (.alloc rfl zero_Q fun w5 b5 n5 => ?_)))
  obtain ⟨e5, k5, hb5, hs5⟩ := n5
  refine .storeA (E := eQ) ty_Q rfl rfl k5 rfl rfl (S := fun k => (S k ∧ k ≠ b4) ∧ k < w4.heap.size) ((ER.lt eQ hq).ext e5) (fun h => by have := h.2; omega) fun w6 k5 u6 hq => .asg rfl rfl (.nil ?_)
  have x6 : Ext w4 w6 := u6.below e5 (by omega)
  have hvq := shpA rfl hq
  refine .seq (.region (.ldA ty_Q rfl rfl k5 (eQ.csz hq) ?_))
  rw [← hvq]
  have hb4l := k4.lt
  have hs4 := e4.size
  refine .storeA (E := eQ) ty_Q rfl rfl ((k4.ext e4).ext x6) rfl rfl hq (fun h => h.1.2 rfl) fun w7 k7 u7 h7 => .nil (.ret ?_)
  exact .cell Tryz.results79 rfl ty_Q rfl rfl k7 h7 ⟨u7.below ((x3.trans e4).trans x6) (by omega), eQ.mono (fun k _ h => h.1.1) h7⟩
end Go.Proofs.YtccmemilofoamaaGreat

namespace Go.Kx
open Go Go.RowKit
section
variable {α : Type} {E : ER α} {t : TypeId} {S : Nat → Prop} {w w' : World} {g : Nat} {l : List α}
theorem FP.blk (h : FP E t S w g l) : ∃ cs, Blk w g t cs := by obtain ⟨_, _, h, _⟩ := h; exact ⟨_, h⟩
/-- rows kept while another row grows -/
theorem FP.grow {v v' : Value} (h : FP E t (fun k => S k ∧ v.ownBlock ≠ some k) w g l) (hg : w.grownBy w' v.ownBlock) (hw : v'.ownBlock = v.ownBlock ∨ v'.ownBlock = some w.heap.size) (hne : v.ownBlock ≠ some g) : FP E t (fun k => S k ∧ v'.ownBlock ≠ some k) w' g l := by
  have h1 : FP E t (fun k => (S k ∧ v.ownBlock ≠ some k) ∧ k < w.heap.size) w g l := h.mono fun k hk hs => ⟨hs, hk⟩
  have h2 := h1.chg (Chg.grown hg) hne fun k hk => hk.1.2
  refine h2.mono fun k _ hk => ⟨hk.1.1, ?_⟩
  rcases hw with e | e
  · rw [e]; exact hk.1.2
  · rw [e]; intro e'; cases e'; exact Nat.lt_irrefl _ hk.2
theorem OwnL.ne {β : Type} {F : ER β} {t' : TypeId} {base : Nat} {X : Nat → Prop} {v : Value} {b : List β} {cs : Array Value} (h : OwnL F t' base X w v b) (hb : Blk w g t cs) (ht : t' ≠ t) : v.ownBlock ≠ some g := by
  obtain ⟨es, ho, _⟩ := h
  rcases ho.2 with ⟨rfl, _⟩ | ⟨g', cap, cur, rfl, _, hg, _⟩
  · intro e; cases e
  · intro e
    have : g' = g := by simpa [Value.ownBlock] using e
    subst this
    have e1 : w.heap[g']? = some (.cells cs t (0, 0)) := hb
    rw [hg] at e1; cases e1; exact ht rfl
end
theorem OwnL.lt' {β : Type} {F : ER β} {t' : TypeId} {base : Nat} {X : Nat → Prop} {w : World} {v : Value} {b : List β} (h : OwnL F t' base X w v b) (k : Nat) (hk : v.ownBlock = some k) : k < w.heap.size := by
  obtain ⟨es, ho, _⟩ := h
  exact (ho.lt k hk).2
theorem pivRow_is {f : RM} {col n i r : Nat} (h1 : i ≤ r) (h2 : r < i + n) (h3 : f r col ≠ 0) (h4 : ∀ k, i ≤ k → k < r → f k col = 0) : pivRow f col n i = some r := by
  cases h : pivRow f col n i with
  | none => exact absurd (pivRow_none h r h1 h2) h3
  | some r' =>
    obtain ⟨a1, a2, a3, a4⟩ := pivRow_some h
    rcases Nat.lt_trichotomy r r' with e | e | e
    · exact absurd (a4 r h1 e) h3
    · rw [e]
    · exact absurd (h4 r' a1 e) a3
theorem pivRow_no {f : RM} {col n i : Nat} (h4 : ∀ k, i ≤ k → k < i + n → f k col = 0) : pivRow f col n i = none := by
  cases h : pivRow f col n i with
  | none => rfl
  | some r' =>
    obtain ⟨a1, a2, a3, a4⟩ := pivRow_some h
    exact absurd (h4 r' a1 a2) a3
end Go.Kx
namespace Go.Proofs.YtccmemilofoamaaGreat
open Go Go.Kx Go.RowKit
theorem E_ref05_Reduce : Ent Tryz.prog 26 := ent_of Tryz.func26 (by kernel_rfl) rfl
theorem ref05_Reduce_c {S : Nat → Prop} {w : World} {vm : Value} {m : List (List QV)} {L n C0 : Nat} (up : Up S w) (hm : eM.R S w vm m) (ok : eOk L n C0 m) :
    CR Tryz.prog 26 #[vm] w (Two (eM.at S (redM m)) (eI.at S (pInts (redP m)))) := by
  have hnr := ok.rows
  have hc := ok.cols
  have hc1 := ok.c1
  have hLl := ok.le
  refine enter Tryz.func26 rfl Tryz.ntmps26 rfl ?_
  refine .seq (.region (.asg rfl rfl (.asg rfl rfl (.nil (.seq (.region (.mv rfl rfl ?_)))))))
  refine .call _ rfl E_ref04_Cols rfl (ref04_Cols_c hm) fun v1 w1 e1 h1 => .asg rfl rfl (.nil ?_)
  subst h1
  refine .seq (.region (.mv rfl rfl (.mv rfl rfl (.lenR un_M rfl rfl (hm.ext e1) (.mv rfl rfl ?_)))))
  refine .call _ rfl E_ref04_Fit rfl (ref04_Fit_c (up.ext e1.size) (hm.ext e1) ok.k ok.l1 (by omega)) fun vr w2 e2 h2 => .asg rfl rfl (.nil ?_)
  have hcr : cutN (m.length : Int) = m.length := by unfold cutN; omega
  have hcc : cutN (colsOf m : Int) = colsOf m := by unfold cutN; omega
  rw [hcr, hcc] at h2
  have h2 := OwnL.base h2 e1.size
  have x2 := e1.trans e2
  refine .seq (.region (.asg rfl rfl (.nil (.seq (.region (.asg rfl rfl (.nil ?_)))))))
  generalize hN : m.length = N at *
  generalize hCc : colsOf m = C at *
  have hf : ∀ i k, i < N → k < C → Rsz (rm m i k) L := fun i k _ _ => ok.k.rsz ok.l1 i k
  rcases Nat.eq_zero_or_pos N with h0 | hpos
  · have hm0 : m = [] := List.length_eq_zero_iff.1 (by omega)
    have hC0 : C = 0 := by rw [← hCc, hm0]; rfl
    have hp0 : redP m = [] := by rw [hm0]; rfl
    have hr0 : redM m = [] := by rw [hm0]; rfl
    subst hC0
    have hl0 : tabM N 0 (rm m) = [] := by rw [h0]; rfl
    rw [hl0] at h2
    have hvr : eM.R S w2 vr [] := h2.toR (fun k hk => up k hk) (fun _ h => h)
    rw [hp0, hr0]
    refine .seq (.seq (.region (.asg rfl rfl (.nil ?_))))
    refine .block (.loop (α := Unit) (fun _ => [(4, .int .i64 ((0 : Nat) : Int)), (5, vr), (6, .slice none 0 0), (7, .int .i64 0), (8, .int .i64 0)]) (fun _ W => W = w2) (fun _ => 0) () ?_ ?_ ?_)
    · exact look_cons rfl (look_cons rfl (look_cons rfl (look_cons rfl (look_cons rfl look_nil))))
    · rfl
    rintro _ W rfl
    refine .seq (.seq (.region (.mv rfl rfl (.mv rfl rfl (.lssF rfl rfl rfl (by decide) (.nil (.condF rfl (.exit (.seq (.region (.mv rfl rfl (.mv rfl rfl (.cut 0 0 un_M ty_V rfl rfl hvr rfl ⟨_, rfl⟩ (Nat.le_refl _) (Nat.zero_le _) fun v3 h3 => .mv rfl rfl (.asg rfl rfl (.asg rfl rfl (.nil (.ret ?_)))))))))))))))))
    exact .plain [_, _] Tryz.results26 ⟨rfl, rfl, trivial⟩ ⟨x2, _, _, rfl, h3, RL.nil⟩
  obtain ⟨g, cap, rfl, hcap, hcap2, hgB, fp⟩ := h2.fp (by rw [tabM_length]; exact hpos)
  rw [tabM_length] at hcap ⊢
  refine .mid (α := Value) (fun u => [(5, .slice (some ⟨g, 0, none⟩) N cap), (6, u), (7, .int .i64 ((redP m).length : Nat))]) (fun u W => Ext w W ∧ OwnL (eInt .i64) 3 w.heap.size (fun _ => False) W u (pInts (redP m)) ∧ FP eV 23 S W g (tabM N C (redF m))) ?_ ?_
  · refine .seq (.region (.asg rfl rfl (.nil ?_)))
    refine .block (.loop (α := Nat × Value) (fun y => [(4, .int .i64 (C : Nat)), (5, .slice (some ⟨g, 0, none⟩) N cap), (6, y.2), (7, .int .i64 ((elim N (rm m) y.1).2.length : Nat)), (8, .int .i64 (y.1 : Nat))])
      (fun y W => Ext w W ∧ y.1 ≤ C ∧ OwnL (eInt .i64) 3 w.heap.size (fun _ => False) W y.2 (pInts (elim N (rm m) y.1).2) ∧ FP eV 23 (fun k => S k ∧ y.2.ownBlock ≠ some k) W g (tabM N C (elim N (rm m) y.1).1)) (fun y => C - y.1) (0, .slice none 0 0) ?_ ?_ ?_)
    · exact look_cons rfl (look_cons rfl (look_cons rfl (look_cons rfl (look_cons rfl look_nil))))
    · exact ⟨x2, Nat.zero_le _, OwnL.nil, fp.mono fun k _ h => ⟨h, fun e => by cases e⟩⟩
    rintro ⟨c, u⟩ W ⟨hW, hcC, ho, fp⟩
    replace hW : Ext w W := hW
    replace hcC : c ≤ C := hcC
    replace ho : OwnL (eInt .i64) 3 w.heap.size (fun _ => False) W u (pInts (elim N (rm m) c).2) := ho
    replace fp : FP eV 23 (fun k => S k ∧ u.ownBlock ≠ some k) W g (tabM N C (elim N (rm m) c).1) := fp
    have hech := elim_ech N (rm m) c
    have hql := hech.len
    have hqc := hech.len_c
    have hsg := elim_rsz (C := C) ok.l1 hf c hcC
    have hnext : elim N (rm m) (c + 1) = estep N c (elim N (rm m) c) := rfl
    generalize hE : elim N (rm m) c = E at *
    obtain ⟨f, p⟩ := E
    simp only at ho fp hql hqc hsg
    have hsz := hW.size
    refine .seq (.seq (.region (.mv rfl rfl (.mv rfl rfl ?_))))
    rcases Nat.lt_or_ge c C with hlt | hge
    rotate_left
    · refine .lssF rfl rfl rfl (by omega) (.nil (.condF rfl (.exit ?_)))
      have : c = C := by omega
      subst this
      have e1' : redP m = p := by unfold redP; rw [hN, hCc, hE]
      have e2' : redF m = f := by unfold redF; rw [hN, hCc, hE]
      rw [e1', e2']
      exact ⟨rfl, u, look_cons rfl (look_cons rfl (look_cons rfl look_nil)), hW, ho, fp.mono fun k _ h => h.1⟩
    refine .lssT rfl rfl rfl (by omega) (.nil (.condT rfl (.skip (.seq (.block (.seq (.region (.mv rfl rfl (.asg rfl rfl (.nil ?_))))))))))
    have hugne : ∀ {W' : World} {l : List (List QV)} {S' : Nat → Prop}, OwnL (eInt .i64) 3 w.heap.size (fun _ => False) W' u (pInts p) → FP eV 23 S' W' g l → u.ownBlock ≠ some g := fun h h' => by
      obtain ⟨cs, hb⟩ := h'.blk
      exact h.ne hb (by decide)
    have hne := hugne ho fp
    have hB : 1 ≤ bd L p.length := bd_pos ok.l1 _
    have hBq : bd L p.length ≤ 40000000 := by
      refine Nat.le_trans (bd_mono L ?_) ok.bd
      have := ok.mn; omega
    -- the search of the pivot
    refine .mid (α := Nat) (fun r => [(4, .int .i64 (C : Nat)), (5, .slice (some ⟨g, 0, none⟩) N cap), (6, u), (7, .int .i64 (p.length : Nat)), (8, .int .i64 (c : Nat)), (9, .int .i64 (r : Nat))]) (fun r W' => Ext W W' ∧ p.length ≤ r ∧ r ≤ N ∧ (∀ j, p.length ≤ j → j < r → f j c = 0) ∧ (r < N → f r c ≠ 0)) ?_ ?_
    · refine .block (.loop (α := Nat) (fun r => [(4, .int .i64 (C : Nat)), (5, .slice (some ⟨g, 0, none⟩) N cap), (6, u), (7, .int .i64 (p.length : Nat)), (8, .int .i64 (c : Nat)), (9, .int .i64 (r : Nat))]) (fun r W' => Ext W W' ∧ p.length ≤ r ∧ r ≤ N ∧ (∀ j, p.length ≤ j → j < r → f j c = 0)) (fun r => N - r) p.length ?_ ?_ ?_)
      · exact look_cons rfl (look_cons rfl (look_cons rfl (look_cons rfl (look_cons rfl (look_cons rfl look_nil)))))
      · exact ⟨Ext.refl _, Nat.le_refl _, hql, fun j h1 h2 => by omega⟩
      rintro r W1 ⟨hW1, hr1, hr2, hz⟩
      refine .seq (.seq (.region (.mv rfl rfl (.mv rfl rfl (.len un_M rfl rfl ?_)))))
      rcases Nat.lt_or_ge r N with hlr | hgr
      rotate_left
      · refine .lssF rfl rfl rfl (by omega) (.mv rfl rfl (.gs rfl rfl rfl rfl rfl (.gs rfl rfl rfl rfl rfl (.gs rfl rfl rfl rfl rfl (.gs rfl rfl rfl rfl rfl (.gs rfl rfl rfl rfl rfl (.gs rfl rfl rfl rfl rfl (.gs rfl rfl rfl rfl rfl (.gs rfl rfl rfl rfl rfl (.gs rfl rfl rfl rfl rfl (.pick rfl rfl rfl (.nil (.condF rfl (.exit ?_))))))))))))))
        exact ⟨rfl, r, look_cons rfl (look_cons rfl (look_cons rfl (look_cons rfl (look_cons rfl (look_cons rfl look_nil))))), hW1, hr1, hr2, hz, fun h => by omega⟩
      have fp1 := fp.ext hW1
      refine .lssT rfl rfl rfl (by omega) (.mv rfl rfl (.gr rfl rfl rfl rfl (.mv rfl rfl (.gr rfl rfl rfl rfl (.mv rfl rfl (.gr rfl rfl rfl rfl (.ixB (i := r) un_M ty_V rfl rfl rfl hlr (.gr rfl rfl rfl rfl (.ldP (E := eV) (i := r) ty_V rfl rfl (Nat.zero_add _) fp1 (tabM_get hlr) fun er her => .gr rfl rfl rfl rfl (.mv rfl rfl (.gr rfl rfl rfl rfl ?_)))))))))))
      refine .ixN (i := c) un_V ty_Q rfl rfl her rfl (tab_get hlt) fun pp hp => .gr rfl rfl rfl rfl (.ldE ty_Q rfl rfl hp fun ex hex => .gr rfl rfl rfl rfl ?_)
      refine .call _ rfl E_ref02_Sign rfl (ref02_Sign_c (L := bd L p.length) (fun k hk => ⟨⟨up k (by have := hW1.size; omega), fun h => by have := (ho.lt' k h); have := hW1.size; omega⟩, by have := fp.lt; have := hW1.size; omega⟩) hex (hsg r c hlr hlt).toOk (by omega)) fun vs W2 e2 hvs => .gr rfl rfl rfl rfl ?_
      subst hvs
      rw [← sgnR_qval, qval_qc]
      by_cases hzr : f r c = 0
      · refine .eqlT rfl rfl rfl (sgnR_zero.2 hzr) (.pick rfl rfl rfl (.nil (.condT rfl (.skip (.block (.region (.mv rfl rfl (.add rfl rfl rfl (.asg rfl rfl (.nil ?_))))))))))
        rw [wI (by omega)]
        refine ⟨rfl, r + 1, look_cons rfl (look_cons rfl (look_cons rfl (look_cons rfl (look_cons rfl (look_cons rfl look_nil))))), ⟨hW1.trans e2, by omega, hlr, fun j h1 h2 => ?_⟩, by show N - (r + 1) < N - r; omega⟩
        by_cases e : j = r
        · rw [e]; exact hzr
        · exact hz j h1 (by omega)
      · refine .eqlF rfl rfl rfl (fun h => hzr (sgnR_zero.1 h)) (.pick rfl rfl rfl (.nil (.condF rfl (.exit ?_))))
        exact ⟨rfl, r, look_cons rfl (look_cons rfl (look_cons rfl (look_cons rfl (look_cons rfl (look_cons rfl look_nil))))), hW1.trans e2, hr1, hr2, hz, fun _ => hzr⟩
    rintro r W1 ⟨hW1, hr1, hr2, hz, hnz⟩
    have ho := ho.ext hW1
    have fp := fp.ext hW1
    have hW := hW.trans hW1
    have hsz := hW.size
    refine .seq (.seq (.region (.mv rfl rfl (.mv rfl rfl (.len un_M rfl rfl ?_)))))
    rcases Nat.lt_or_ge r N with hrn | hrn
    rotate_left
    · refine .eqlT rfl rfl rfl (by omega) (.nil (.condT rfl (.exit (.region (.mv rfl rfl (.add rfl rfl rfl (.asg rfl rfl (.nil ?_))))))))
      rw [wI (by omega)]
      have hst : elim N (rm m) (c + 1) = (f, p) := by
        rw [hnext]
        unfold estep
        simp only
        rw [pivRow_no fun k h1 h2 => hz k h1 (by omega)]
      refine ⟨rfl, (c + 1, u), ?_, ⟨hW, hlt, ?_, ?_⟩, by show C - (c + 1) < C - c; omega⟩
      · show ∀ t v, Kx.look [(4, Value.int .i64 (C : Nat)), (5, .slice (some ⟨g, 0, none⟩) N cap), (6, u), (7, .int .i64 ((elim N (rm m) (c + 1)).2.length : Nat)), (8, .int .i64 ((c + 1 : Nat) : Int))] t = some v → _
        rw [hst]
        exact look_cons rfl (look_cons rfl (look_cons rfl (look_cons rfl (look_cons rfl look_nil))))
      · show OwnL (eInt .i64) 3 w.heap.size (fun _ => False) W1 u (pInts (elim N (rm m) (c + 1)).2)
        rw [hst]; exact ho
      · show FP eV 23 (fun k => S k ∧ u.ownBlock ≠ some k) W1 g (tabM N C (elim N (rm m) (c + 1)).1)
        rw [hst]; exact fp
    refine .eqlF rfl rfl rfl (by omega) (.nil (.condF rfl (.skip ?_)))
    have hqlt : p.length < N := by omega
    have hpr : pivRow f c (N - p.length) p.length = some r := pivRow_is hr1 (by omega) (hnz hrn) hz
    have hst : elim N (rm m) (c + 1) = (clr (swp f r p.length) p.length c, p ++ [c]) := by
      rw [hnext]
      unfold estep
      simp only
      rw [hpr]
    -- the exchange
    refine .mid (α := Unit) (fun _ => [(4, .int .i64 (C : Nat)), (5, .slice (some ⟨g, 0, none⟩) N cap), (6, u), (7, .int .i64 (p.length : Nat)), (8, .int .i64 (c : Nat))]) (fun _ W' => Ext w W' ∧ OwnL (eInt .i64) 3 w.heap.size (fun _ => False) W' u (pInts p) ∧ FP eV 23 (fun k => S k ∧ u.ownBlock ≠ some k) W' g (tabM N C (swp f r p.length))) ?_ ?_
    · refine .heldT follows true (fun _ => True) [some _, some (.int .i64 (p.length : Nat)), some _, some (.int .i64 (r : Nat)), some _, some (.int .i64 (r : Nat)), some (.pointer (some ⟨g, 0 + r * 1, none⟩)), none, some _, some (.int .i64 (p.length : Nat)), some (.pointer (some ⟨g, 0 + p.length * 1, none⟩)), none, some (.pointer (some ⟨g, 0 + p.length * 1, none⟩)), none, some (.pointer (some ⟨g, 0 + r * 1, none⟩)), none]
        (.two 7 (.one 11 (.one 13 (.one 15 .done))) 11 (.one 7 (.one 13 (.one 15 .done)))) (by kernel_rfl) (by kernel_rfl)
        ⟨fun _ _ => v_mv rfl, fun _ _ => v_mv rfl, fun _ _ => v_mv rfl, fun _ _ => v_mv rfl, fun _ _ => v_mv rfl, fun _ _ => v_mv rfl, fun _ _ => v_ixB (i := r) un_M ty_V rfl rfl hrn, fun _ _ => v_mv rfl, fun _ _ => v_mv rfl, fun _ _ => v_ixB (i := p.length) un_M ty_V rfl rfl hqlt, fun _ _ => v_ixB (i := p.length) un_M ty_V rfl rfl hqlt, fun _ _ => v_ixB (i := r) un_M ty_V rfl rfl hrn, trivial⟩ ?_
      intro W3 e3 _
      obtain ⟨x7, h7, p7⟩ := (fp.ext e3).at_ (tabM_get hrn)
      obtain ⟨x11, h11, p11⟩ := (fp.ext e3).at_ (tabM_get hqlt)
      have q7 : PtrX W3 ⟨g, 0 + r * 1, none⟩ x7 := by rw [Nat.zero_add]; exact p7
      have q11 : PtrX W3 ⟨g, 0 + p.length * 1, none⟩ x11 := by rw [Nat.zero_add]; exact p11
      refine .gv2 (.gv rfl trivial rfl (v_ldX (E := eV) ty_V rfl q7 h7).gv ?_) (.gv rfl trivial rfl (v_ldX (E := eV) ty_V rfl q11 h11).gv ?_)
      all_goals
        rintro _ _ ⟨rfl, rfl⟩
        refine .gv rfl trivial rfl (by first | exact (v_ldX (E := eV) ty_V rfl q11 h11).gv | exact (v_ldX (E := eV) ty_V rfl q7 h7).gv) ?_
        rintro _ _ ⟨rfl, rfl⟩
        refine .gv rfl trivial rfl (g_storeP (E := eV) (i := p.length) (by decide) ty_V rfl rfl (fp.ext e3) rfl (by rw [tabM_length]; exact hqlt) (Nat.zero_add _) h7) ?_
        rintro _ W4 ⟨f4, u4⟩
        refine .gv rfl trivial rfl (g_storeP (E := eV) (i := r) (by decide) ty_V rfl rfl f4 rfl (by rw [List.length_set, tabM_length]; exact hrn) (Nat.zero_add _) (ER.upd eV h11 u4 (fun h => h.2 rfl))) ?_
        rintro _ W5 ⟨f5, u5⟩
        refine .nil (.inl rfl) ?_
        rw [tabM_set hqlt, tabM_set hrn] at f5
        have e5 : tabM N C (fun j k => if j = r then f p.length k else if j = p.length then f r k else f j k) = tabM N C (swp f r p.length) := tabM_congr' fun i k _ _ => by
          unfold swp
          by_cases e1 : i = r
          · rw [if_pos e1, if_pos e1]
          · by_cases e2 : i = p.length
            · rw [if_neg e1, if_pos e2, if_neg e1, if_pos e2]
            · rw [if_neg e1, if_neg e2, if_neg e1, if_neg e2]
        rw [e5] at f5
        obtain ⟨cs3, hb3⟩ := (fp.ext e3).blk
        obtain ⟨cs4, hb4⟩ := f4.blk
        exact ⟨rfl, (), look_cons rfl (look_cons rfl (look_cons rfl (look_cons rfl (look_cons rfl look_nil)))), u5.below (u4.below (hW.trans e3) hgB) hgB, ((ho.ext e3).upd u4 hb3 (by decide) (fun h => h)).upd u5 hb4 (by decide) (fun h => h), f5⟩
    rintro _ W2 ⟨hW2, ho, fp⟩
    have hss := swp_rsz (a := r) (b := p.length) hrn hqlt hsg
    have hsq : swp f r p.length p.length c = f r c := by
      unfold swp
      by_cases e : p.length = r
      · simp [e]
      · simp [e]
    have hs0 : swp f r p.length p.length c ≠ 0 := by rw [hsq]; exact hnz hrn
    generalize hs : swp f r p.length = s at *
    generalize hq : p.length = q at *
    have hgl := fp.lt
    have upW : ∀ {W' : World}, Ext W2 W' → Up (fun k => (S k ∧ u.ownBlock ≠ some k) ∧ k ≠ g) W' := fun e k hk => ⟨⟨up k (by have := hW2.size; have := e.size; omega), fun h => by have := ho.lt' k h; have := e.size; omega⟩, by have := e.size; omega⟩
    have h1k : qk (bd L q) (qc ((1 : Int) : Rat)) := qk_qc (Rsz.int 1 (Nat.lt_of_lt_of_le (by decide) (Nat.pow_le_pow_right (by decide) hB)) hB)
    have hki : qk (bd L q) (qc (s q c)⁻¹) := qk_qc ((hss q c hqlt hlt).inv hB)
    have hkr : ∀ i, i < N → vk (bd L q) (tab C (s i)) := fun i hi => vk_tab fun k hk => hss i k hi hk
    -- the row of the pivot
    refine .seq ?_
    refine .par follows 16 [.inl _, .inl (.int .i64 (q : Nat)), .inr (eQ.at (fun k => (S k ∧ u.ownBlock ≠ some k) ∧ k ≠ g) (qc ((1 : Int) : Rat))), .inl _, .inl (.int .i64 (q : Nat)), .inl (.pointer (some ⟨g, 0 + q * 1, none⟩)), .inr (eV.at (fun k => (S k ∧ u.ownBlock ≠ some k) ∧ k ≠ g) (tab C (s q))), .inl (.int .i64 (c : Nat)), .inr (Ptr eQ (fun k => (S k ∧ u.ownBlock ≠ some k) ∧ k ≠ g) (qc (s q c))), .inr (eQ.at (fun k => (S k ∧ u.ownBlock ≠ some k) ∧ k ≠ g) (qc (s q c))), .inr (eQ.at (fun k => (S k ∧ u.ownBlock ≠ some k) ∧ k ≠ g) (qc (s q c)⁻¹)), .inl _, .inl (.int .i64 (q : Nat)), .inl (.pointer (some ⟨g, 0 + q * 1, none⟩)), .inr (eV.at (fun k => (S k ∧ u.ownBlock ≠ some k) ∧ k ≠ g) (tab C (s q))), .inr (eV.at (fun k => (S k ∧ u.ownBlock ≠ some k) ∧ k ≠ g) (tab C fun k => (s q c)⁻¹ * s q k))]
      [[], [], [], [], [], [(62, 3), (63, 4)], [(64, 5)], [], [(65, 6), (66, 7)], [(67, 8)], [(61, 2), (68, 9)], [], [], [(70, 11), (71, 12)], [(72, 13)], [(69, 10), (73, 14)]] (by kernel_rfl) ⟨
      fun w e => (v_mv rfl).ob, fun w e => (v_mv rfl).ob,
      fun w e => (g_call _ E_ref02_Int rfl (ref02_Int_c (upW e) (by decide) (by decide))).ob (st_at _ _ _),
      fun w e => (v_mv rfl).ob, fun w e => (v_mv rfl).ob,
      fun w e => (v_ixB (i := q) un_M ty_V rfl rfl hqlt).ob,
      fun w e => ob_ldP (E := eV) (i := q) ty_V rfl (Nat.zero_add _) (fp.ext e) (tabM_get hqlt),
      fun w e => (v_mv rfl).ob,
      fun w e x hx => ob_ixN (i := c) un_V ty_Q rfl hx rfl (tab_get hlt),
      fun w e x hx => ob_ldE ty_Q rfl hx,
      fun w e x hx y hy => by
        have := ref05_by_c (upW e) hx hy h1k.1 (hss q c hqlt hlt).toOk hB (by omega) (by rw [qval_qc]; exact hs0)
        rw [qval_qc, qval_qc, show ((1 : Int) : Rat) * (s q c)⁻¹ = (s q c)⁻¹ by simp] at this
        exact (g_call _ E_ref05_by rfl this).ob (st_at _ _ _),
      fun w e => (v_mv rfl).ob, fun w e => (v_mv rfl).ob,
      fun w e => (v_ixB (i := q) un_M ty_V rfl rfl hqlt).ob,
      fun w e => ob_ldP (E := eV) (i := q) ty_V rfl (Nat.zero_add _) (fp.ext e) (tabM_get hqlt),
      fun w e x hx y hy => by
        have := ref03_Scale_c (upW e) hx hy hki (hkr q hqlt) hB (by omega) (by rw [tab_length]; omega)
        rw [tab_length, qval_qc, tab_congr (g := fun k => (s q c)⁻¹ * s q k) (fun k hk => by rw [rv_tab, if_pos hk])] at this
        exact (g_call _ E_ref03_Scale rfl this).ob (st_at _ _ _), trivial⟩ ?_
    intro W3 e3 y2 _ y6 _ y8 _ y9 _ y10 _ y14 _ y15 hy15
    refine .ixB (i := q) un_M ty_V rfl rfl rfl hqlt (.storeP (E := eV) (i := q) (by decide) ty_V rfl rfl (fp.ext e3) rfl (by rw [tabM_length]; exact hqlt) (Nat.zero_add _) hy15 fun W4 f4 u4 => .nil ?_)
    obtain ⟨cs3, hb3⟩ := (fp.ext e3).blk
    rw [tabM_set hqlt, ← clrTo_zero] at f4
    have ho4 := (ho.ext e3).upd u4 hb3 (by decide) (fun h => h)
    have hW4 : Ext w W4 := u4.below (hW2.trans e3) hgB
    have hs4 : W2.heap.size ≤ W4.heap.size := by have := u4.size; have := e3.size; omega
    have hur : vk (bd L q + bd L q) (tab C fun k => (s q c)⁻¹ * s q k) := vk_tab fun k hk => ((hss q c hqlt hlt).inv hB).mul (hss q k hqlt hk)
    -- the other rows
    refine .mid (α := Unit) (fun _ => [(4, .int .i64 (C : Nat)), (5, .slice (some ⟨g, 0, none⟩) N cap), (6, u), (7, .int .i64 (q : Nat)), (8, .int .i64 (c : Nat))]) (fun _ W' => Ext w W' ∧ OwnL (eInt .i64) 3 w.heap.size (fun _ => False) W' u (pInts p) ∧ FP eV 23 (fun k => S k ∧ u.ownBlock ≠ some k) W' g (tabM N C (clr s q c))) ?_ ?_
    · refine .seq (.region (.asg rfl rfl (.nil ?_)))
      refine .block (.loop (α := Nat) (fun i => [(4, .int .i64 (C : Nat)), (5, .slice (some ⟨g, 0, none⟩) N cap), (6, u), (7, .int .i64 (q : Nat)), (8, .int .i64 (c : Nat)), (10, .int .i64 (i : Nat))]) (fun i W' => Ext w W' ∧ W2.heap.size ≤ W'.heap.size ∧ i ≤ N ∧ OwnL (eInt .i64) 3 w.heap.size (fun _ => False) W' u (pInts p) ∧ FP eV 23 (fun k => S k ∧ u.ownBlock ≠ some k) W' g (tabM N C (clrTo s q c i))) (fun i => N - i) 0 ?_ ?_ ?_)
      · exact look_cons rfl (look_cons rfl (look_cons rfl (look_cons rfl (look_cons rfl (look_cons rfl look_nil)))))
      · exact ⟨hW4, hs4, Nat.zero_le _, ho4, f4⟩
      rintro i Wa ⟨hWa, hsa, hi, hoa, fa⟩
      refine .seq (.seq (.region (.mv rfl rfl (.mv rfl rfl (.len un_M rfl rfl ?_)))))
      rcases Nat.lt_or_ge i N with hin | hin
      rotate_left
      · refine .lssF rfl rfl rfl (by omega) (.nil (.condF rfl (.exit ?_)))
        have : i = N := by omega
        subst this
        rw [clrTo_all] at fa
        exact ⟨rfl, (), look_cons rfl (look_cons rfl (look_cons rfl (look_cons rfl (look_cons rfl look_nil)))), hWa, hoa, fa⟩
      refine .lssT rfl rfl rfl (by omega) (.nil (.condT rfl (.skip (.seq (.block (.seq (.region (.mv rfl rfl (.mv rfl rfl ?_)))))))))
      by_cases hiq : i = q
      · refine .neqF rfl rfl rfl (by omega) (.nil (.condF rfl (.skip (.region (.mv rfl rfl (.add rfl rfl rfl (.asg rfl rfl (.nil ?_))))))))
        rw [wI (by omega)]
        refine ⟨rfl, i + 1, look_cons rfl (look_cons rfl (look_cons rfl (look_cons rfl (look_cons rfl (look_cons rfl look_nil))))), ⟨hWa, hsa, hin, hoa, ?_⟩, by show N - (i + 1) < N - i; omega⟩
        have : tabM N C (clrTo s q c (i + 1)) = tabM N C (clrTo s q c i) := tabM_congr' fun j k _ _ => by
          rw [clrTo_succ]
          by_cases ej : j = i
          · simp only [ej, hiq, if_true]; unfold clrTo; simp
          · simp only [ej, if_false]
        rw [this]; exact fa
      refine .neqT rfl rfl rfl (by omega) (.nil (.condT rfl ?_))
      have hrow : tab C (clrTo s q c i i) = tab C (s i) := tab_congr fun k _ => by unfold clrTo; rw [if_neg hiq, if_neg (by omega)]
      have hrq : tab C (clrTo s q c i q) = tab C fun k => (s q c)⁻¹ * s q k := tab_congr fun k _ => by unfold clrTo; rw [if_pos rfl]
      have upa : ∀ {W' : World}, Ext Wa W' → Up (fun k => (S k ∧ u.ownBlock ≠ some k) ∧ k ≠ g) W' := fun e k hk => ⟨⟨up k (by have := hWa.size; have := e.size; omega), fun h => by have := hoa.lt' k h; have := e.size; omega⟩, by have := e.size; have := fa.lt; omega⟩
      refine .par follows 19 [.inl _, .inl (.int .i64 (i : Nat)), .inl _, .inl (.int .i64 (i : Nat)), .inl (.pointer (some ⟨g, 0 + i * 1, none⟩)), .inr (eV.at (fun k => (S k ∧ u.ownBlock ≠ some k) ∧ k ≠ g) (tab C (s i))), .inl (.int .i64 (c : Nat)), .inr (Ptr eQ (fun k => (S k ∧ u.ownBlock ≠ some k) ∧ k ≠ g) (qc (s i c))), .inr (eQ.at (fun k => (S k ∧ u.ownBlock ≠ some k) ∧ k ≠ g) (qc (s i c))), .inr (eQ.at (fun k => (S k ∧ u.ownBlock ≠ some k) ∧ k ≠ g) (qc (-(s i c)))), .inl _, .inl (.int .i64 (q : Nat)), .inl (.pointer (some ⟨g, 0 + q * 1, none⟩)), .inr (eV.at (fun k => (S k ∧ u.ownBlock ≠ some k) ∧ k ≠ g) (tab C fun k => (s q c)⁻¹ * s q k)), .inl _, .inl (.int .i64 (i : Nat)), .inl (.pointer (some ⟨g, 0 + i * 1, none⟩)), .inr (eV.at (fun k => (S k ∧ u.ownBlock ≠ some k) ∧ k ≠ g) (tab C (s i))), .inr (eV.at (fun k => (S k ∧ u.ownBlock ≠ some k) ∧ k ≠ g) (tab C fun k => -(s i c) * ((s q c)⁻¹ * s q k) + s i k))]
        [[], [], [], [], [(87, 2), (88, 3)], [(89, 4)], [], [(90, 5), (91, 6)], [(92, 7)], [(93, 8)], [], [], [(95, 10), (96, 11)], [(97, 12)], [], [], [(99, 14), (100, 15)], [(101, 16)], [(94, 9), (98, 13), (102, 17)]] (by kernel_rfl) ⟨
        fun w e => (v_mv rfl).ob, fun w e => (v_mv rfl).ob, fun w e => (v_mv rfl).ob, fun w e => (v_mv rfl).ob,
        fun w e => (v_ixB (i := i) un_M ty_V rfl rfl hin).ob,
        fun w e => hrow ▸ ob_ldP (E := eV) (i := i) ty_V rfl (Nat.zero_add _) (fa.ext e) (tabM_get hin),
        fun w e => (v_mv rfl).ob,
        fun w e x hx => ob_ixN (i := c) un_V ty_Q rfl hx rfl (tab_get hlt),
        fun w e x hx => ob_ldE ty_Q rfl hx,
        fun w e x hx => by
          have := ref02_Neg_c (L := bd L q) (upa e) hx (hss i c hin hlt).toOk hB (by omega)
          rw [qval_qc] at this
          exact (g_call _ E_ref02_Neg rfl this).ob (st_at _ _ _),
        fun w e => (v_mv rfl).ob, fun w e => (v_mv rfl).ob,
        fun w e => (v_ixB (i := q) un_M ty_V rfl rfl hqlt).ob,
        fun w e => hrq ▸ ob_ldP (E := eV) (i := q) ty_V rfl (Nat.zero_add _) (fa.ext e) (tabM_get hqlt),
        fun w e => (v_mv rfl).ob, fun w e => (v_mv rfl).ob,
        fun w e => (v_ixB (i := i) un_M ty_V rfl rfl hin).ob,
        fun w e => hrow ▸ ob_ldP (E := eV) (i := i) ty_V rfl (Nat.zero_add _) (fa.ext e) (tabM_get hin),
        fun w e x hx y hy z hz => by
          have := ref03_Combine_c (L := bd L q + bd L q) (upa e) hx hy hz (qk_qc ((hss i c hin hlt).neg.mono (by omega))) hur ((hkr i hin).mono (by omega)) (by omega) (by omega) (by rw [tab_length]; omega) (by rw [tab_length]; omega)
          rw [tab_length, tab_length, Nat.max_self, qval_qc, tab_congr (g := fun k => -(s i c) * ((s q c)⁻¹ * s q k) + s i k) (fun k hk => by rw [rv_tab, rv_tab, if_pos hk, if_pos hk])] at this
          exact (g_call _ E_ref03_Combine rfl this).ob (st_at _ _ _), trivial⟩ ?_
      intro Wb eb z5 _ z7 _ z8 _ z9 _ z13 _ z17 _ z18 hz18
      refine .ixB (i := i) un_M ty_V rfl rfl rfl hin (.storeP (E := eV) (i := i) (by decide) ty_V rfl rfl (fa.ext eb) rfl (by rw [tabM_length]; exact hin) (Nat.zero_add _) hz18 fun Wc fc uc => .nil ?_)
      obtain ⟨csb, hbb⟩ := (fa.ext eb).blk
      rw [tabM_set hin] at fc
      refine .region (.mv rfl rfl (.add rfl rfl rfl (.asg rfl rfl (.nil ?_))))
      rw [wI (by omega)]
      refine ⟨rfl, i + 1, look_cons rfl (look_cons rfl (look_cons rfl (look_cons rfl (look_cons rfl (look_cons rfl look_nil))))), ⟨uc.below (hWa.trans eb) hgB, by have := uc.size; have := eb.size; omega, hin, (hoa.ext eb).upd uc hbb (by decide) (fun h => h), ?_⟩, by show N - (i + 1) < N - i; omega⟩
      rw [clrTo_succ]
      simp only [hiq, if_false]
      exact fc
    rintro _ Wx ⟨hWx, hox, fx⟩
    refine .seq (.region (.mv rfl rfl (.mv rfl rfl (.bsl [(0, .int .i64 (c : Nat))] rfl rfl bsl_I1 fun Wy by_ ny => ?_))))
    obtain ⟨ey, ky, hby, hsy⟩ := ny
    have hlen : (pInts p).length ≤ 1000000000 := by simp; omega
    have hint : (eInt .i64).R (fun k => False ∧ u.ownBlock ≠ some k) Wy (.int .i64 (c : Nat)) (c : Int) := ⟨rfl, Int.le_trans (by decide : IntKind.min .i64 ≤ 0) (by omega), Int.le_trans (by omega : (c : Int) ≤ 1000) (by decide)⟩
    refine .gv rfl rfl (g_appLw (E := eInt .i64) (base := w.heap.size) (n := (c : Int)) (e := .int .i64 (c : Nat)) (by decide) un_I info_I rfl rfl rfl (hox.ext ey) ky hint hlen (by decide) (by have := ey.size; have := hWx.size; omega)) ?_
    rintro vq Wz ⟨hoz, hgz, hwz⟩
    refine .asg rfl rfl (.nil ?_)
    refine .region (.mv rfl rfl (.add rfl rfl rfl (.asg rfl rfl (.nil ?_))))
    rw [wI (by omega)]
    refine .region (.mv rfl rfl (.add rfl rfl rfl (.asg rfl rfl (.nil ?_))))
    rw [wI (by omega)]
    have hlq : (p ++ [c]).length = q + 1 := by simp [hq]
    refine ⟨rfl, (c + 1, vq), ?_, ⟨(hox.ext ey).below hgz (hWx.trans ey) (by have := ey.size; have := hWx.size; omega), hlt, ?_, ?_⟩, by show C - (c + 1) < C - c; omega⟩
    · show ∀ t v, Kx.look [(4, Value.int .i64 (C : Nat)), (5, .slice (some ⟨g, 0, none⟩) N cap), (6, vq), (7, .int .i64 ((elim N (rm m) (c + 1)).2.length : Nat)), (8, .int .i64 ((c + 1 : Nat) : Int))] t = some v → _
      rw [hst]
      simp only [hlq]
      exact look_cons rfl (look_cons rfl (look_cons rfl (look_cons rfl (look_cons rfl look_nil))))
    · show OwnL (eInt .i64) 3 w.heap.size (fun _ => False) Wz vq (pInts (elim N (rm m) (c + 1)).2)
      rw [hst]
      show OwnL (eInt .i64) 3 w.heap.size (fun _ => False) Wz vq (pInts (p ++ [c]))
      rw [show pInts (p ++ [c]) = pInts p ++ [(c : Int)] by simp]
      exact hoz
    · show FP eV 23 (fun k => S k ∧ vq.ownBlock ≠ some k) Wz g (tabM N C (elim N (rm m) (c + 1)).1)
      rw [hst]
      exact (fx.ext ey).grow hgz hwz hne
  rintro u W ⟨hW, ho, fp⟩
  have hpl : (redP m).length ≤ N := by have := (red_ech m).len; rwa [hN] at this
  have hMW : eM.R S W (.slice (some ⟨g, 0, none⟩) N cap) (tabM N C (redF m)) := by
    have := fp.toR (c := cap) (hsz := by decide) (up g hgB) (by rw [tabM_length]; exact hcap) (by rw [tabM_length]; omega)
    rwa [tabM_length] at this
  refine .seq (.region (.mv rfl rfl (.mv rfl rfl (.cut 0 (redP m).length un_M ty_V rfl rfl hMW rfl ⟨_, rfl⟩ (Nat.zero_le _) (by rw [tabM_length]; exact hpl) fun v3 h3 => .mv rfl rfl (.asg rfl rfl (.asg rfl rfl (.nil (.ret ?_))))))))
  rw [List.drop_zero, tabM_take hpl] at h3
  refine .plain [_, _] Tryz.results26 ⟨rfl, rfl, trivial⟩ ⟨hW, _, _, rfl, ?_, ho.toR (fun k hk => up k hk) (fun _ h => h.elim)⟩
  unfold redM
  rw [hCc]
  exact h3
end Go.Proofs.YtccmemilofoamaaGreat

namespace Go.Proofs.YtccmemilofoamaaGreat
open Go Go.Kx Go.RowKit
theorem rsz1 {L : Nat} (hL : 1 ≤ L) : Rsz 1 L := by
  have := Rsz.int 1 (L := L) (Nat.lt_of_lt_of_le (by decide) (Nat.pow_le_pow_right (by decide) hL)) hL
  simpa using this
section
variable {m : List (List QV)} {b : List QV}
theorem inv_p (hc : colsOf m = m.length) : (invE m).2 = redP m := by
  unfold invE redP
  rw [hc]
  exact (elim_loc (C := m.length) (fun i k _ hk => by unfold invF; rw [if_pos hk]) _ (Nat.le_refl _)).2
theorem inv_rank (hc : colsOf m = m.length) : invertible m ↔ (redP m).length = m.length := by
  unfold invertible
  rw [inv_p hc]
  have := (red_ech m).len
  omega
theorem inv_one (h : invertible m) {i k : Nat} (hi : i < m.length) (hk : k < m.length) : (invE m).1 i k = idR i k := by
  have he : Ech m.length m.length (invE m).1 (invE m).2 := elim_ech ..
  have hl : (invE m).2.length = m.length := by have := he.len; unfold invertible at h; omega
  have := he.one i k hi (by omega)
  rw [he.full hl k hk] at this
  exact this
theorem rm_inv {i k : Nat} (hi : i < m.length) (hk : k < m.length) : rm (invM m) i k = (invE m).1 i (m.length + k) := by
  unfold invM
  rw [rm_tabM, if_pos ⟨hi, hk⟩]
theorem invF_hi {i k : Nat} : invF m i (m.length + k) = idR i k := by
  unfold invF
  rw [if_neg (by omega), Nat.add_sub_cancel_left]
theorem invF_lo {i k : Nat} (h : k < m.length) : invF m i k = rm m i k := by unfold invF; rw [if_pos h]
theorem sum_id {n : Nat} (t : Nat → Rat) {k : Nat} (hk : k < n) : sumN n (fun j => t j * idR j k) = t k := by
  rw [sumN_single (i := k) (fun j hj hne => by unfold idR; rw [if_neg hne, Rat.mul_zero]), if_pos hk]
  unfold idR
  rw [if_pos rfl, Rat.mul_one]
/-- the matrix by its inverse -/
theorem inv_right (h : invertible m) {i k : Nat} (hi : i < m.length) (hk : k < m.length) : sumN m.length (fun j => rm m i j * rm (invM m) j k) = idR i k := by
  obtain ⟨t, ht⟩ := (elim_req m.length (m.length + m.length) (invF m) m.length).2 i hi
  have h1 : ∀ j, j < m.length → rm m i j = t j := fun j hj => by
    have := ht j (by omega)
    rw [invF_lo hj] at this
    rw [this, ← sum_id t hj]
    exact sumN_congr fun l hl => by rw [← inv_one h hl hj]; rfl
  have h2 := ht (m.length + k) (by omega)
  rw [invF_hi] at h2
  rw [h2]
  exact sumN_congr fun j hj => by rw [h1 j hj, rm_inv hj hk]; rfl
/-- the inverse by the matrix -/
theorem inv_left (h : invertible m) {i k : Nat} (hi : i < m.length) (hk : k < m.length) : sumN m.length (fun j => rm (invM m) i j * rm m j k) = idR i k := by
  obtain ⟨t, ht⟩ := (elim_req m.length (m.length + m.length) (invF m) m.length).1 i hi
  have h1 : ∀ j, j < m.length → rm (invM m) i j = t j := fun j hj => by
    have := ht (m.length + j) (by omega)
    rw [rm_inv hi hj]
    refine Eq.trans this ?_
    rw [← sum_id t hj]
    exact sumN_congr fun l hl => by rw [invF_hi]
  have h2 := ht k (by omega)
  rw [← inv_one h hi hk]
  refine Eq.trans ?_ h2.symm
  exact sumN_congr fun j hj => by rw [h1 j hj, invF_lo hk]
theorem inv_rsz {L n : Nat} (hk : mk_ L m) (hL : 1 ≤ L) (hn : m.length ≤ n) : mk_ (bd L n) (invM m) := by
  refine mk_tabM fun i k hi hk' => ?_
  have h1 := elim_rsz (C := m.length + m.length) (f := invF m) hL (fun i k _ _ => by
    unfold invF
    split
    · exact hk.rsz hL i k
    · unfold idR
      split
      · exact rsz1 hL
      · exact Rsz.zero hL) m.length (by omega) i (m.length + k) hi (by omega)
  exact h1.mono (bd_mono L (Nat.le_trans (elim_ech m.length (invF m) m.length).len hn))
/-- the inverse solves -/
theorem inv_solv (hc : colsOf m = m.length) (h : invertible m) (hb : ∀ i, m.length ≤ i → rv b i = 0) : solvable m b := by
  refine solv_of (y := fun k => sumN m.length fun j => rm (invM m) k j * rv b j) fun i => ?_
  rw [hc]
  rcases Nat.lt_or_ge i m.length with hi | hi
  · have h1 : sumN m.length (fun k => rm m i k * sumN m.length fun j => rm (invM m) k j * rv b j) = sumN m.length fun j => idR i j * rv b j := by
      rw [sumN_congr (g := fun k => sumN m.length fun j => rm m i k * rm (invM m) k j * rv b j) fun k _ => by rw [← sumN_mul]; exact sumN_congr fun j _ => by rw [Rat.mul_assoc]]
      rw [sumN_swap]
      exact sumN_congr fun j hj => by rw [sumN_mulr, inv_right h hi hj]
    rw [h1, sumN_single (i := i) (fun j hj hne => by unfold idR; rw [if_neg (fun e => hne e.symm), Rat.zero_mul]), if_pos hi]
    unfold idR
    rw [if_pos rfl, Rat.one_mul]
  · rw [hb i hi]
    exact sumN_zero' fun k _ => by rw [rm_out hi, Rat.zero_mul]
theorem inv_sol (hc : colsOf m = m.length) (h : invertible m) (hs : solvable m b) {i : Nat} (hi : i < m.length) : sumN m.length (fun j => rm (invM m) i j * rv b j) = rv (solX m b) i := by
  rw [sumN_congr (g := fun j => sumN m.length fun k => rm (invM m) i j * rm m j k * rv (solX m b) k) fun j _ => by rw [← sol_eq hs j, hc, ← sumN_mul]; exact sumN_congr fun k _ => by rw [Rat.mul_assoc]]
  rw [sumN_swap, sumN_congr (g := fun k => idR i k * rv (solX m b) k) fun k hk => by rw [sumN_mulr, inv_left h hi hk]]
  rw [sumN_single (i := i) (fun j hj hne => by unfold idR; rw [if_neg (fun e => hne e.symm), Rat.zero_mul]), if_pos hi]
  unfold idR
  rw [if_pos rfl, Rat.one_mul]
end
end Go.Proofs.YtccmemilofoamaaGreat

namespace Go.Proofs.YtccmemilofoamaaGreat
open Go Go.Kx Go.RowKit
theorem freeTo_succ (p : List Nat) (i : Nat) : freeTo p (i + 1) = freeTo p i ++ if i ∈ p then [] else [i] := by
  unfold freeTo
  rw [List.range_succ, List.filter_append]
  by_cases h : i ∈ p <;> simp [h]
section
variable {m : List (List QV)} {b z : List QV}
end
end Go.Proofs.YtccmemilofoamaaGreat

namespace Go.Proofs.YtccmemilofoamaaGreat
open Go Go.Kx Go.RowKit
theorem red_rz {m : List (List QV)} {L n C0 : Nat} (ok : eOk L n C0 m) {i k : Nat} (hi : i < (redP m).length) (hk : k < colsOf m) : Rsz (redF m i k) (bd L n) := red_rsz ok.k ok.l1 ok.mn i k (by have := (red_ech m).len; omega) hk
theorem E_ref05_Null : Ent Tryz.prog 30 := ent_of Tryz.func30 (by kernel_rfl) rfl
theorem ref05_Null_c {S : Nat → Prop} {w : World} {vm : Value} {m : List (List QV)} {L n C0 : Nat} (up : Up S w) (hm : eM.R S w vm m) (ok : eOk L n C0 m) :
    CR Tryz.prog 30 #[vm] w (eM.at S (nullM m)) := by
  have hnr := ok.rows
  have hc := ok.cols
  have hc1 := ok.c1
  have hbd := ok.bd
  have he := red_ech m
  have hpl := he.len
  refine enter Tryz.func30 rfl Tryz.ntmps30 rfl ?_
  refine .seq (.region (.asg rfl rfl (.nil (.seq (.region (.mv rfl rfl ?_))))))
  refine .call _ rfl E_ref05_Reduce rfl (ref05_Reduce_c up hm ok) fun v1 w1 e1 h1 => ?_
  obtain ⟨vr, vp, rfl, hr, hp⟩ := h1
  refine .mv rfl rfl (.ext rfl rfl rfl (.ext rfl rfl rfl (.asg rfl rfl (.asg rfl rfl (.nil (.seq (.region (.mv rfl rfl ?_))))))))
  refine .call _ rfl E_ref04_Cols rfl (ref04_Cols_c (hm.ext e1)) fun v2 w2 e2 h2 => .asg rfl rfl (.nil (.seq (.region (.asg rfl rfl (.nil ?_)))))
  subst h2
  have x2 := e1.trans e2
  have hr2 : eM.R (fun k => S k ∧ k < w2.heap.size) w2 vr (redM m) := ER.lt eM (ER.ext eM hr e2)
  have hp2 : eI.R (fun k => S k ∧ k < w2.heap.size) w2 vp (pInts (redP m)) := ER.lt eI (ER.ext eI hp e2)
  have hrW : ∀ {W : World}, Ext w2 W → eM.R (fun k => S k ∧ k < w2.heap.size) W vr (redM m) := fun e => ER.ext eM hr2 e
  have hpW : ∀ {W : World}, Ext w2 W → eI.R (fun k => S k ∧ k < w2.heap.size) W vp (pInts (redP m)) := fun e => ER.ext eI hp2 e
  have hrl : (redM m).length = (redP m).length := tabM_length ..
  have hs2 := x2.size
  have up2 := up.ext x2.size
  generalize hG : (fun k => tab (colsOf m) (nv (redF m) (redP m) k)) = G
  refine .mid (α := Value) (fun o => [(6, o)]) (fun o W => Ext w2 W ∧ OwnL eV 23 w2.heap.size S W o ((freeTo (redP m) (colsOf m)).map G)) ?_ ?_
  · refine .seq (.region (.asg rfl rfl (.nil ?_)))
    refine .block (.loop (α := Nat × Value) (fun y => [(3, vr), (4, vp), (5, .int .i64 (colsOf m : Nat)), (6, y.2), (7, .int .i64 (y.1 : Nat))]) (fun y W => Ext w2 W ∧ y.1 ≤ colsOf m ∧ OwnL eV 23 w2.heap.size S W y.2 ((freeTo (redP m) y.1).map G)) (fun y => colsOf m - y.1) (0, .slice none 0 0) ?_ ?_ ?_)
    · exact look_cons rfl (look_cons rfl (look_cons rfl (look_cons rfl (look_cons rfl look_nil))))
    · exact ⟨Ext.refl _, Nat.zero_le _, OwnL.nil⟩
    rintro ⟨k, o⟩ W ⟨hW, hk, ho⟩
    replace hW : Ext w2 W := hW
    replace hk : k ≤ colsOf m := hk
    replace ho : OwnL eV 23 w2.heap.size S W o ((freeTo (redP m) k).map G) := ho
    have hsW := hW.size
    refine .seq (.seq (.region (.mv rfl rfl (.mv rfl rfl ?_))))
    rcases Nat.lt_or_ge k (colsOf m) with hlt | hge
    rotate_left
    · refine .lssF rfl rfl rfl (by omega) (.nil (.condF rfl (.exit ?_)))
      have : k = colsOf m := by omega
      subst this
      exact ⟨rfl, o, look_cons rfl look_nil, hW, ho⟩
    refine .lssT rfl rfl rfl (by omega) (.nil (.condT rfl (.skip (.seq (.block (.seq (.seq (.region (.mv rfl rfl (.mv rfl rfl ?_))))))))))
    refine .call _ rfl E_ref05_in rfl (ref05_in_c (hpW hW)) fun v3 W3 e3 h3 => .nil ?_
    subst h3
    have hW3 := hW.trans e3
    by_cases hkp : k ∈ redP m
    · rw [decide_eq_true hkp]
      refine .condT rfl (.exit (.region (.mv rfl rfl (.add rfl rfl rfl (.asg rfl rfl (.nil ?_))))))
      rw [wI (by omega)]
      refine ⟨rfl, (k + 1, o), look_cons rfl (look_cons rfl (look_cons rfl (look_cons rfl (look_cons rfl look_nil)))), ⟨hW3, hlt, ?_⟩, by show colsOf m - (k + 1) < colsOf m - k; omega⟩
      show OwnL eV 23 w2.heap.size S W3 o ((freeTo (redP m) (k + 1)).map G)
      rw [freeTo_succ, if_pos hkp, List.append_nil]
      exact ho.ext e3
    rw [decide_eq_false hkp]
    refine .condF rfl (.skip (.seq (.region (.mv rfl rfl (.mv rfl rfl ?_)))))
    have ho3 := ho.ext e3
    have upU : Up (fun k' => S k' ∧ o.ownBlock ≠ some k') W3 := fun k' hk' => ⟨up2 k' (by have := hW3.size; omega), fun h => by have := ho3.lt' k' h; omega⟩
    refine .call _ rfl E_ref03_Unit rfl (ref03_Unit_c (k := (k : Nat)) upU (by omega)) fun vx W4 e4 h4 => .asg rfl rfl (.nil ?_)
    obtain ⟨g, cap, rfl, hcap, hcap2, hgB, fp⟩ := h4.fp (by rw [tab_length]; omega)
    rw [tab_length] at hcap ⊢
    have hW4 := hW3.trans e4
    have ho4 := ho3.ext e4
    have hu0 : tab (colsOf m) (uniR (k : Nat)) = tab (colsOf m) (nvTo (redF m) (redP m) k 0) := tab_congr fun c _ => by
      unfold uniR nvTo
      show _ = (if c = k then 1 else 0) - 0
      by_cases e : c = k
      · rw [if_pos (by omega), if_pos e]; grind
      · rw [if_neg (by omega), if_neg e]; grind
    rw [hu0] at fp
    refine .mid (α := Unit) (fun _ => [(3, vr), (4, vp), (5, .int .i64 (colsOf m : Nat)), (6, o), (7, .int .i64 (k : Nat)), (8, .slice (some ⟨g, 0, none⟩) (colsOf m) cap)]) (fun _ W' => Ext w2 W' ∧ Ext W3 W' ∧ FP eQ 37 (fun k' => S k' ∧ o.ownBlock ≠ some k') W' g (tab (colsOf m) (nv (redF m) (redP m) k))) ?_ ?_
    · refine .seq (.region (.asg rfl rfl (.nil ?_)))
      refine .block (.loop (α := Nat) (fun i => [(3, vr), (4, vp), (5, .int .i64 (colsOf m : Nat)), (6, o), (7, .int .i64 (k : Nat)), (8, .slice (some ⟨g, 0, none⟩) (colsOf m) cap), (9, .int .i64 (i : Nat))]) (fun i W' => Ext w2 W' ∧ Ext W3 W' ∧ i ≤ (redP m).length ∧ FP eQ 37 (fun k' => S k' ∧ o.ownBlock ≠ some k') W' g (tab (colsOf m) (nvTo (redF m) (redP m) k i))) (fun i => (redP m).length - i) 0 ?_ ?_ ?_)
      · exact look_cons rfl (look_cons rfl (look_cons rfl (look_cons rfl (look_cons rfl (look_cons rfl (look_cons rfl look_nil))))))
      · exact ⟨hW4, e4, Nat.zero_le _, fp⟩
      rintro i W5 ⟨hW5, hX5, hi, fp⟩
      refine .seq (.seq (.region (.mv rfl rfl (.mv rfl rfl (.lenR un_M rfl rfl (hrW hW5) ?_)))))
      rw [hrl]
      rcases Nat.lt_or_ge i (redP m).length with hli | hgi
      rotate_left
      · refine .lssF rfl rfl rfl (by omega) (.nil (.condF rfl (.exit ?_)))
        have : i = (redP m).length := by omega
        subst this
        exact ⟨rfl, (), look_cons rfl (look_cons rfl (look_cons rfl (look_cons rfl (look_cons rfl (look_cons rfl look_nil))))), hW5, hX5, fp⟩
      have hg : (pInts (redP m))[i]? = some (((redP m).getD i 0 : Nat) : Int) := by rw [List.getElem?_map, getD_get' (z := 0) hli]; rfl
      have hrg : (redM m)[i]? = some (tab (colsOf m) (redF m i)) := tabM_get hli
      have hpi := he.lt i hli
      have hT : ∀ k', (S k' ∧ k' < w2.heap.size) → (S k' ∧ o.ownBlock ≠ some k') ∧ k' ≠ g := fun k' h => ⟨⟨h.1, fun e => by
        obtain ⟨es, ho1, _⟩ := id ho4
        have := (ho1.lt k' e).1; have := h.2; omega⟩, by have := h.2; have := hW3.size; omega⟩
      have upX : ∀ {W' : World}, Ext W5 W' → Up (fun k' => (S k' ∧ o.ownBlock ≠ some k') ∧ k' ≠ g) W' := fun e k' hk' => ⟨⟨up2 k' (by have := hW5.size; have := e.size; omega), fun h => by have := ho3.lt' k' h; have := hX5.size; have := e.size; omega⟩, by have := e.size; have := fp.lt; omega⟩
      refine .lssT rfl rfl rfl (by omega) (.nil (.condT rfl (.skip (.seq (.block ?_)))))
      refine .par follows 13 [.inl _, .inl _, .inl (.int .i64 (i : Nat)), .inr (Ptr (eInt .i64) (fun k => S k ∧ k < w2.heap.size) (((redP m).getD i 0 : Nat) : Int)), .inl (.int .i64 (((redP m).getD i 0 : Nat) : Int)), .inl _, .inl (.int .i64 (i : Nat)), .inr (Ptr eV (fun k => S k ∧ k < w2.heap.size) (tab (colsOf m) (redF m i))), .inr (eV.at (fun k => S k ∧ k < w2.heap.size) (tab (colsOf m) (redF m i))), .inl (.int .i64 (k : Nat)), .inr (Ptr eQ (fun k => S k ∧ k < w2.heap.size) (qc (redF m i k))), .inr (eQ.at (fun k => S k ∧ k < w2.heap.size) (qc (redF m i k))), .inr (eQ.at (fun k' => (S k' ∧ o.ownBlock ≠ some k') ∧ k' ≠ g) (qc (-(redF m i k))))] [[], [], [], [(35, 1), (36, 2)], [(37, 3)], [], [], [(39, 5), (40, 6)], [(41, 7)], [], [(42, 8), (43, 9)], [(44, 10)], [(45, 11)]] (by kernel_rfl) ⟨
        fun w e => (v_mv rfl).ob, fun w e => (v_mv rfl).ob, fun w e => (v_mv rfl).ob,
        fun w e => ob_ixN (i := i) un_I ty_I1 rfl (hpW (hW5.trans e)) rfl hg,
        fun w e x hx => ob_ldI ty_I1 rfl hx,
        fun w e => (v_mv rfl).ob, fun w e => (v_mv rfl).ob,
        fun w e => ob_ixN (i := i) un_M ty_V rfl (hrW (hW5.trans e)) rfl hrg,
        fun w e x hx => ob_ldE ty_V rfl hx,
        fun w e => (v_mv rfl).ob,
        fun w e x hx => ob_ixN (i := k) un_V ty_Q rfl hx rfl (tab_get hlt),
        fun w e x hx => ob_ldE ty_Q rfl hx,
        fun w e x hx => by
          have := ref02_Neg_c (L := bd L n) (upX e) (eQ.mono (fun k' _ h => hT k' h) hx) (red_rz ok hli hlt).toOk (bd_pos ok.l1 n) (by omega)
          rw [qval_qc] at this
          exact (g_call _ E_ref02_Neg rfl this).ob (st_at _ _ _), trivial⟩ ?_
      intro W6 e6 y3 _ y7 _ y8 _ y10 _ y11 _ y12 hy12
      refine .ixB (i := (redP m).getD i 0) un_V ty_Q rfl rfl rfl hpi (.storeP (E := eQ) (i := (redP m).getD i 0) (by decide) ty_Q rfl rfl (fp.ext e6) rfl (by rw [tab_length]; exact hpi) (Nat.zero_add _) hy12 fun W7 f7 u7 => .nil ?_)
      have hset : (tab (colsOf m) (nvTo (redF m) (redP m) k i)).set ((redP m).getD i 0) (qc (-(redF m i k))) = tab (colsOf m) (nvTo (redF m) (redP m) k (i + 1)) := by
        rw [tab_set, nvTo_succ he hli hkp (getD_mem hli)]
      rw [hset] at f7
      refine .region (.mv rfl rfl (.add rfl rfl rfl (.asg rfl rfl (.nil ?_))))
      rw [wI (by omega)]
      exact ⟨rfl, i + 1, look_cons rfl (look_cons rfl (look_cons rfl (look_cons rfl (look_cons rfl (look_cons rfl (look_cons rfl look_nil)))))), ⟨u7.below (hW5.trans e6) (by have := hW3.size; omega), u7.below (hX5.trans e6) hgB, hli, f7⟩, by show (redP m).length - (i + 1) < (redP m).length - i; omega⟩
    rintro _ W5 ⟨hW5, hX5, fp⟩
    have ho5 := ho3.lt_ hX5
    have hrow : eV.R (fun k' => S k' ∧ o.ownBlock ≠ some k') W5 (.slice (some ⟨g, 0, none⟩) (colsOf m) cap) (tab (colsOf m) (nv (redF m) (redP m) k)) := by
      have := fp.toR (c := cap) (hsz := by decide) (upU g hgB) (by rw [tab_length]; exact hcap) (by rw [tab_length]; omega)
      rwa [tab_length] at this
    refine .region (.mv rfl rfl (.mv rfl rfl (.bsl _ rfl rfl bsl_M1 fun Wy by_ ny => ?_)))
    obtain ⟨ey, ky, hby, hsy⟩ := ny
    have hfl : (freeTo (redP m) k).length ≤ k := by
      unfold freeTo
      have := List.length_filter_le (fun k => !(decide (k ∈ redP m))) (List.range k)
      simpa using this
    refine .gv rfl rfl (g_appL (E := eV) (base := w2.heap.size) (n := tab (colsOf m) (nv (redF m) (redP m) k)) (e := .slice (some ⟨g, 0, none⟩) (colsOf m) cap) (by decide) un_M info_V rfl rfl rfl (ho5.ext ey) ky (ER.ext eV hrow ey) (by simp; omega) (by decide) (by have := ey.size; have := hW5.size; omega)) ?_
    rintro v8 W8 ⟨ho8, hg8⟩
    refine .asg rfl rfl (.nil (.region (.mv rfl rfl (.add rfl rfl rfl (.asg rfl rfl (.nil ?_))))))
    rw [wI (by omega)]
    refine ⟨rfl, (k + 1, v8), look_cons rfl (look_cons rfl (look_cons rfl (look_cons rfl (look_cons rfl look_nil)))), ⟨(ho5.ext ey).below hg8 (hW5.trans ey) (by have := ey.size; have := hW5.size; omega), hlt, ?_⟩, by show colsOf m - (k + 1) < colsOf m - k; omega⟩
    show OwnL eV 23 w2.heap.size S W8 v8 ((freeTo (redP m) (k + 1)).map G)
    rw [freeTo_succ, if_neg hkp, List.map_append, ← hG]
    rw [← hG] at ho8
    exact ho8
  rintro o W ⟨hW, ho⟩
  refine .seq (.region (.mv rfl rfl (.asg rfl rfl (.nil (.ret ?_)))))
  refine .plain [_] Tryz.results30 ⟨rfl, trivial⟩ ⟨x2.trans hW, ?_⟩
  unfold nullM freeC
  rw [hG]
  exact ho.toR (fun k hk => up2 k hk) (fun _ h => h)
end Go.Proofs.YtccmemilofoamaaGreat

namespace Go.Proofs.YtccmemilofoamaaGreat
open Go Go.Kx Go.RowKit
def wideR (m : List (List QV)) (b : List QV) (i : Nat) : List QV := tab (colsOf m) (rm m i) ++ [b.getD i q0]
def wideM (m : List (List QV)) (b : List QV) : List (List QV) := (List.range (max m.length b.length)).map (wideR m b)
section
variable {m : List (List QV)} {b : List QV}
theorem wide_length : (wideM m b).length = max m.length b.length := by simp [wideM]
theorem wideR_length (i : Nat) : (wideR m b i).length = colsOf m + 1 := by simp [wideR, tab_length]
theorem wide_getD (i : Nat) : (wideM m b).getD i [] = if i < max m.length b.length then wideR m b i else [] := by
  unfold wideM
  rw [List.getD_eq_getElem?_getD, List.getElem?_map]
  by_cases h : i < max m.length b.length
  · rw [if_pos h, List.getElem?_range h]; rfl
  · rw [if_neg h, List.getElem?_eq_none (by simpa using h)]; rfl
theorem rv_wideR (i k : Nat) : rv (wideR m b i) k = if k < colsOf m + 1 then augF m b i k else 0 := by
  by_cases h1 : k < colsOf m
  · rw [if_pos (by omega), augF_low h1]
    have : rv (tab (colsOf m) (rm m i)) k = rm m i k := by rw [rv_tab, if_pos h1]
    rw [← this]
    unfold rv wideR
    rw [List.getD_eq_getElem?_getD, List.getElem?_append_left (by rw [tab_length]; exact h1), ← List.getD_eq_getElem?_getD]
  · by_cases h2 : k = colsOf m
    · subst h2
      rw [if_pos (by omega), augF_last]
      unfold rv wideR
      rw [List.getD_eq_getElem?_getD, List.getElem?_append_right (by rw [tab_length]; omega), tab_length]
      simp
    · rw [if_neg (by omega), rv_out (by rw [wideR_length]; omega)]
theorem rm_wide (i k : Nat) : rm (wideM m b) i k = rm (augM m b) i k := by
  rw [rm_aug]
  unfold rm
  rw [wide_getD]
  by_cases h : i < max m.length b.length
  · rw [if_pos h, rv_wideR]; simp [h]
  · rw [if_neg h, rv_nil, if_neg (by omega)]
theorem wide_cols : colsOf (wideM m b) = colsOf (augM m b) := by
  rw [aug_cols]
  by_cases h : max m.length b.length = 0
  · rw [if_pos h]
    have : wideM m b = [] := List.length_eq_zero_iff.1 (by rw [wide_length]; exact h)
    rw [this]; rfl
  · rw [if_neg h]
    refine Nat.le_antisymm (colsOf_le fun r hr => ?_) ?_
    · obtain ⟨i, _, rfl⟩ := List.mem_map.1 hr
      rw [wideR_length]; exact Nat.le_refl _
    · have := colsOf_get (wideM m b) 0
      rwa [wide_getD, if_pos (by omega), wideR_length] at this
theorem red_wide : redF (wideM m b) = redF (augM m b) ∧ redP (wideM m b) = redP (augM m b) := by
  have e : rm (wideM m b) = rm (augM m b) := by funext i k; exact rm_wide i k
  unfold redF redP
  rw [wide_length, wide_cols, aug_len, e]
  exact ⟨rfl, rfl⟩
theorem wide_mk {L : Nat} (hm : mk_ L m) (hb : vk L b) (hL : 1 ≤ L) : mk_ L (wideM m b) := by
  intro r hr q hq
  obtain ⟨i, _, rfl⟩ := List.mem_map.1 hr
  rcases List.mem_append.1 hq with h | h
  · exact vk_tab (fun k _ => hm.rsz hL i k) q h
  · rw [List.mem_singleton.1 h]; exact hb.get hL i
end
theorem E_ref05_Wide : Ent Tryz.prog 63 := ent_of Tryz.func63 (by kernel_rfl) rfl
theorem ref05_Wide_c {S : Nat → Prop} {w : World} {vm vb : Value} {m : List (List QV)} {b : List QV} {L : Nat} (up : Up S w) (hm : eM.R S w vm m) (hb : eV.R S w vb b) (hkm : mk_ L m) (hL : 1 ≤ L) (hL2 : L ≤ 1000000000) (hr : m.length ≤ 1000) (hl : b.length ≤ 1000) (hc : colsOf m ≤ 1000) :
    CR Tryz.prog 63 #[vm, vb] w (eM.at S (wideM m b)) := by
  refine enter Tryz.func63 rfl Tryz.ntmps63 rfl ?_
  refine .seq (.region (.asg rfl rfl (.nil (.seq (.region (.mv rfl rfl ?_))))))
  refine .call _ rfl E_ref04_Cols rfl (ref04_Cols_c hm) fun v1 w1 e1 h1 => .asg rfl rfl (.nil (.seq (.region (.asg rfl rfl (.nil ?_)))))
  subst h1
  have up1 := up.ext e1.size
  have hm1 : ∀ {W : World}, Ext w1 W → eM.R (fun k => S k ∧ k < w1.heap.size) W vm m := fun e => ER.ext eM (ER.lt eM (ER.ext eM hm e1)) e
  have hb1 : ∀ {W : World}, Ext w1 W → eV.R (fun k => S k ∧ k < w1.heap.size) W vb b := fun e => ER.ext eV (ER.lt eV (ER.ext eV hb e1)) e
  refine .seq (.seq (.region (.asg rfl rfl (.nil ?_))))
  refine .block (.loop (α := Nat × Value) (fun y => [(0, vm), (1, vb), (5, .int .i64 (colsOf m : Nat)), (6, y.2), (7, .int .i64 (y.1 : Nat))]) (fun y W => Ext w1 W ∧ y.1 ≤ max m.length b.length ∧ OwnL eV 23 w1.heap.size S W y.2 ((List.range y.1).map (wideR m b))) (fun y => max m.length b.length - y.1) (0, .slice none 0 0) ?_ ?_ ?_)
  · exact look_cons rfl (look_cons rfl (look_cons rfl (look_cons rfl (look_cons rfl look_nil))))
  · exact ⟨Ext.refl _, Nat.zero_le _, OwnL.nil⟩
  rintro ⟨i, o⟩ W ⟨hW, hi, ho⟩
  replace hW : Ext w1 W := hW
  replace hi : i ≤ max m.length b.length := hi
  replace ho : OwnL eV 23 w1.heap.size S W o ((List.range i).map (wideR m b)) := ho
  have hsW := hW.size
  refine .mid (α := Unit) (fun _ => [(0, vm), (1, vb), (5, .int .i64 (colsOf m : Nat)), (6, o), (7, .int .i64 (i : Nat))]) (fun _ W' => W' = W ∧ i < max m.length b.length) ?_ ?_
  · refine .seq (.region (.mv rfl rfl (.mv rfl rfl (.lenR un_M rfl rfl (hm1 hW) ?_))))
    rcases Nat.lt_or_ge i m.length with h1 | h1
    · refine .lssT rfl rfl rfl (by omega) (.mv rfl rfl (.gs rfl rfl rfl rfl rfl (.gs rfl rfl rfl rfl rfl (.gs rfl rfl rfl rfl rfl (.gs rfl rfl rfl rfl rfl (.pick rfl rfl rfl (.nil (.condT rfl (.skip ?_)))))))))
      exact ⟨rfl, (), look_cons rfl (look_cons rfl (look_cons rfl (look_cons rfl (look_cons rfl look_nil)))), rfl, by omega⟩
    · refine .lssF rfl rfl rfl (by omega) (.mv rfl rfl (.gr rfl rfl rfl rfl (.mv rfl rfl (.gr rfl rfl rfl rfl (.mv rfl rfl (.gr rfl rfl rfl rfl (.lenR un_V rfl rfl (hb1 hW) (.gr rfl rfl rfl rfl ?_))))))))
      rcases Nat.lt_or_ge i b.length with h2 | h2
      · refine .lssT rfl rfl rfl (by omega) (.pick rfl rfl rfl (.nil (.condT rfl (.skip ?_))))
        exact ⟨rfl, (), look_cons rfl (look_cons rfl (look_cons rfl (look_cons rfl (look_cons rfl look_nil)))), rfl, by omega⟩
      · refine .lssF rfl rfl rfl (by omega) (.pick rfl rfl rfl (.nil (.condF rfl (.exit (.seq (.region (.mv rfl rfl (.asg rfl rfl (.nil (.ret ?_))))))))))
        have : i = max m.length b.length := by omega
        subst this
        exact .plain [_] Tryz.results63 ⟨rfl, trivial⟩ ⟨e1.trans hW, ho.toR (fun k hk => up1 k hk) (fun _ h => h)⟩
  rintro _ W' ⟨rfl, hlt⟩
  obtain ⟨es, ho1, ho2⟩ := id ho
  have hTu : ∀ k', S k' ∧ k' < w1.heap.size → S k' ∧ o.ownBlock ≠ some k' := fun k' hk' => ⟨hk'.1, fun h => by have := (ho1.lt k' h).1; have := hk'.2; omega⟩
  have upT' : Up (fun k' => S k' ∧ o.ownBlock ≠ some k') W' := fun k' hk' => ⟨up1 k' (by omega), fun h => by have := (ho1.lt k' h).2; omega⟩
  refine .seq (.block (.seq (.region (.asg rfl rfl (.nil ?_)))))
  refine .mid (α := Value) (fun x => [(0, vm), (1, vb), (5, .int .i64 (colsOf m : Nat)), (6, o), (7, .int .i64 (i : Nat)), (8, x)]) (fun x W2 => Ext W' W2 ∧ OwnL eQ 37 W'.heap.size (fun k' => S k' ∧ o.ownBlock ≠ some k') W2 x (tab (colsOf m) (rm m i))) ?_ ?_
  · refine .seq (.region (.asg rfl rfl (.nil ?_)))
    generalize hg : (fun j => qc (rm m i j)) = g
    refine .block (.loop (α := Nat × Value) (fun x => [(0, vm), (1, vb), (5, .int .i64 (colsOf m : Nat)), (6, o), (7, .int .i64 (i : Nat)), (8, x.2), (9, .int .i64 (x.1 : Nat))]) (fun x W2 => Ext W' W2 ∧ x.1 ≤ colsOf m ∧ OwnL eQ 37 W'.heap.size (fun k' => S k' ∧ o.ownBlock ≠ some k') W2 x.2 ((List.range x.1).map g)) (fun x => colsOf m - x.1) (0, .slice none 0 0) ?_ ?_ ?_)
    · exact look_cons rfl (look_cons rfl (look_cons rfl (look_cons rfl (look_cons rfl (look_cons rfl (look_cons rfl look_nil))))))
    · exact ⟨Ext.refl _, Nat.zero_le _, OwnL.nil⟩
    rintro ⟨j, x⟩ W2 ⟨hW2, hj, hx⟩
    replace hW2 : Ext W' W2 := hW2
    replace hj : j ≤ colsOf m := hj
    replace hx : OwnL eQ 37 W'.heap.size (fun k' => S k' ∧ o.ownBlock ≠ some k') W2 x ((List.range j).map g) := hx
    have hsz2 := hW2.size
    refine .seq (.seq (.region (.mv rfl rfl (.mv rfl rfl ?_))))
    by_cases hjl : j < colsOf m
    rotate_left
    · refine .lssF rfl rfl rfl (by omega) (.nil (.condF rfl (.exit ?_)))
      have : j = colsOf m := by omega
      subst this
      refine ⟨rfl, x, look_cons rfl (look_cons rfl (look_cons rfl (look_cons rfl (look_cons rfl (look_cons rfl look_nil))))), hW2, ?_⟩
      unfold tab
      rw [hg]
      exact hx
    obtain ⟨es', hx1, hx2⟩ := id hx
    have upX : Up (fun k' => (S k' ∧ o.ownBlock ≠ some k') ∧ x.ownBlock ≠ some k') W2 := fun k' hk' => ⟨upT' k' (by omega), fun h => by have := (hx1.lt k' h).2; omega⟩
    refine .lssT rfl rfl rfl (by omega) (.nil (.condT rfl (.skip (.seq (.block (.region (.mv rfl rfl (.mv rfl rfl (.mv rfl rfl (.mv rfl rfl ?_))))))))))
    refine .call _ rfl E_ref04_At rfl (ref04_At_c (i := (i : Nat)) (k := (j : Nat)) upX (eM.mono (fun k' _ h => ⟨hTu k' h, fun e => by have := (hx1.lt k' e).1; have := h.2; omega⟩) (hm1 (hW.trans hW2))) hkm hL hL2) fun v2 W3 e2 h2 => ?_
    rw [rmI_nat] at h2
    have hr' := h2
    obtain ⟨s2, t2, rfl, _, _⟩ := hr'
    refine .bsl _ rfl rfl bsl_V1 fun W4 b4 n4 => ?_
    obtain ⟨e4, k4, hb4, hs4⟩ := n4
    have e24 := e2.trans e4
    have hW4 := hW2.trans e24
    refine .gv rfl rfl (g_appL (E := eQ) (base := W'.heap.size) (by decide) un_V info_Q rfl rfl rfl (hx.ext e24) k4 (h2.ext e4) (by simp; omega) (by decide) hW4.size) ?_
    rintro v5 W5 ⟨ho5, hg5⟩
    refine .asg rfl rfl (.nil (.region (.mv rfl rfl (.add rfl rfl rfl (.asg rfl rfl (.nil ?_))))))
    rw [wI (by omega)]
    refine ⟨rfl, (j + 1, v5), look_cons rfl (look_cons rfl (look_cons rfl (look_cons rfl (look_cons rfl (look_cons rfl (look_cons rfl look_nil)))))), ⟨(hx.ext e24).below hg5 hW4 hW4.size, hjl, ?_⟩, by show colsOf m - (j + 1) < colsOf m - j; omega⟩
    show OwnL eQ 37 W'.heap.size (fun k' => S k' ∧ o.ownBlock ≠ some k') W5 v5 ((List.range (j + 1)).map g)
    rw [List.range_succ, List.map_append, ← hg]
    rw [← hg] at ho5
    exact ho5
  rintro x W2 ⟨hW2, hx⟩
  obtain ⟨es', hx1, hx2⟩ := id hx
  have hsz2 := hW2.size
  have upX : Up (fun k' => (S k' ∧ o.ownBlock ≠ some k') ∧ x.ownBlock ≠ some k') W2 := fun k' hk' => ⟨upT' k' (by omega), fun h => by have := (hx1.lt k' h).2; omega⟩
  refine .region (.mv rfl rfl (.mv rfl rfl (.mv rfl rfl (.mv rfl rfl ?_))))
  refine .call _ rfl E_ref03_At rfl (ref03_At_c (i := (i : Nat)) (S := fun k' => (S k' ∧ o.ownBlock ≠ some k') ∧ x.ownBlock ≠ some k') (eV.mono (fun k' _ h => ⟨hTu k' h, fun e => by have := (hx1.lt k' e).1; have := h.2; omega⟩) (hb1 (hW.trans hW2)))) fun v2 W3 e2 h2 => ?_
  rw [atI_nat] at h2
  have hr' := h2
  obtain ⟨s2, t2, rfl, _, _⟩ := hr'
  refine .bsl _ rfl rfl bsl_V1 fun W4 b4 n4 => ?_
  obtain ⟨e4, k4, hb4, hs4⟩ := n4
  have e24 := e2.trans e4
  have hW4 := hW2.trans e24
  refine .gv rfl rfl (g_appL (E := eQ) (base := W'.heap.size) (n := b.getD i q0) (by decide) un_V info_Q rfl rfl rfl (hx.ext e24) k4 (h2.ext e4) (by rw [tab_length]; omega) (by decide) hW4.size) ?_
  rintro v5 W5 ⟨ho5, hg5⟩
  have hW5 : Ext W' W5 := (hx.ext e24).below hg5 hW4 hW4.size
  have ho5r := ho.lt_ hW5
  have hrow : eV.R (fun k' => S k' ∧ o.ownBlock ≠ some k') W5 v5 (wideR m b i) := ho5.toR (fun k hk => upT' k hk) (fun _ h => h)
  obtain ⟨ar, cr, hvr, _⟩ := RL.len hrow
  rw [wideR_length] at hvr
  subst hvr
  refine .bsl _ rfl rfl bsl_M1 fun W6 b6 n6 => ?_
  obtain ⟨e6, k6, hb6, hs6⟩ := n6
  have hW6 := hW.trans (hW5.trans e6)
  refine .gv rfl rfl (g_appL (E := eV) (base := w1.heap.size) (n := wideR m b i) (e := .slice ar (colsOf m + 1) cr) (by decide) un_M info_V rfl rfl rfl (ho5r.ext e6) k6 (ER.ext eV hrow e6) (by simp; omega) (by decide) hW6.size) ?_
  rintro v7 W7 ⟨ho7, hg7⟩
  refine .asg rfl rfl (.nil (.region (.mv rfl rfl (.add rfl rfl rfl (.asg rfl rfl (.nil ?_))))))
  rw [wI (by omega)]
  refine ⟨rfl, (i + 1, v7), look_cons rfl (look_cons rfl (look_cons rfl (look_cons rfl (look_cons rfl look_nil)))), ⟨(ho5r.ext e6).below hg7 hW6 hW6.size, hlt, ?_⟩, by show max m.length b.length - (i + 1) < max m.length b.length - i; omega⟩
  show OwnL eV 23 w1.heap.size S W7 v7 ((List.range (i + 1)).map (wideR m b))
  rw [List.range_succ, List.map_append]
  exact ho7
end Go.Proofs.YtccmemilofoamaaGreat

namespace Go.Proofs.YtccmemilofoamaaGreat
open Go Go.Kx Go.RowKit
theorem E_ref05_Solve : Ent Tryz.prog 16 := ent_of Tryz.func16 (by kernel_rfl) rfl
theorem ref05_Solve_c {S : Nat → Prop} {w : World} {vm vb : Value} {m : List (List QV)} {b : List QV} {L n : Nat} (up : Up S w) (hm : eM.R S w vm m) (hb : eV.R S w vb b) (hkm : mk_ L m) (hkb : vk L b) (hL : 1 ≤ L) (hr : m.length ≤ 100) (hl : b.length ≤ 100) (hc : colsOf m ≤ 90) (hmn : min (max m.length b.length) (colsOf m + 1) ≤ n) (hbd : bd L n ≤ 40000000) :
    CR Tryz.prog 16 #[vm, vb] w (Three (eV.at S (if solvable m b then solX m b else [])) (eM.at S (if solvable m b then nullM m else [])) (Is (.int .i64 (if solvable m b then 0 else 8)))) := by
  have hL2 : L ≤ 40000000 := Nat.le_trans (bd_mono L (Nat.zero_le n)) hbd
  have hwc := wide_cols (m := m) (b := b)
  have hwl := wide_length (m := m) (b := b)
  have hac := aug_cols_le m b
  obtain ⟨eF, eP⟩ := red_wide (m := m) (b := b)
  have okw : eOk L n 100 (wideM m b) := ⟨wide_mk hkm hkb hL, hL, hbd, by rw [hwl, hwc]; omega, by omega, by omega, Nat.le_refl _⟩
  have okm : eOk L n 100 m := ⟨hkm, hL, hbd, by omega, hr, by omega, Nat.le_refl _⟩
  have he := red_ech (augM m b)
  refine enter Tryz.func16 rfl Tryz.ntmps16 rfl ?_
  refine .seq (.region (.asg rfl rfl (.asg rfl rfl (.asg rfl rfl (.nil (.seq (.region (.mv rfl rfl ?_))))))))
  refine .call _ rfl E_ref04_Cols rfl (ref04_Cols_c hm) fun v1 w1 e1 h1 => .asg rfl rfl (.nil (.seq (.region (.mv rfl rfl (.mv rfl rfl ?_)))))
  subst h1
  refine .call _ rfl E_ref05_Wide rfl (ref05_Wide_c (up.ext e1.size) (hm.ext e1) (hb.ext e1) hkm hL (by omega) (by omega) (by omega) (by omega)) fun v2 w2 e2 h2 => ?_
  have x2 := e1.trans e2
  refine .call _ rfl E_ref05_Reduce rfl (ref05_Reduce_c (up.ext x2.size) h2 okw) fun v3 w3 e3 h3 => ?_
  obtain ⟨vr, vp, rfl, hR, hP⟩ := h3
  have x3 := x2.trans e3
  have hRm : redM (wideM m b) = tabM (redP (augM m b)).length (colsOf (augM m b)) (redF (augM m b)) := by unfold redM; rw [eF, eP, hwc]
  rw [hRm] at hR
  rw [eP] at hP
  refine .mv rfl rfl (.ext rfl rfl rfl (.ext rfl rfl rfl (.asg rfl rfl (.asg rfl rfl (.nil (.seq (.seq (.region (.mv rfl rfl (.mv rfl rfl ?_))))))))))
  refine .call _ rfl E_ref05_in rfl (ref05_in_c hP) fun v4 w4 e4 h4 => .nil ?_
  subst h4
  have x4 := x3.trans e4
  by_cases hs : solvable m b
  rotate_left
  · rw [decide_eq_true (Classical.not_not.1 hs)]
    refine .condT rfl (.seq (.region (.asg rfl rfl (.asg rfl rfl (.asg rfl rfl (.nil (.ret ?_)))))))
    refine .plain [_, _, _] Tryz.results16 ⟨rfl, rfl, rfl, trivial⟩ ⟨x4, _, _, _, rfl, ?_, ?_, ?_⟩
    · rw [if_neg hs]; exact RL.nil
    · rw [if_neg hs]; exact RL.nil
    · show _ = _
      rw [if_neg hs]
  rw [decide_eq_false hs]
  have hplt : ∀ j, j < (redP (augM m b)).length → (redP (augM m b)).getD j 0 < colsOf m := fun j hj => by
    have h1 := he.lt j hj
    have h2 : (redP (augM m b)).getD j 0 ≠ colsOf m := fun e => hs (e ▸ getD_mem hj)
    omega
  refine .condF rfl (.skip (.seq (.region (.mv rfl rfl ?_))))
  refine .call _ rfl E_ref03_Unit rfl (ref03_Unit_c (k := -1) (up.ext x4.size) (by omega)) fun vx w5 e5 h5 => .asg rfl rfl (.nil ?_)
  have x5 := x4.trans e5
  have hu0 : tab (colsOf m) (uniR (-1)) = tab (colsOf m) (partTo (redF (augM m b)) (redP (augM m b)) (colsOf m) 0) := tab_congr fun c _ => by
    unfold uniR partTo
    rw [if_neg (by omega)]; rfl
  rw [hu0] at h5
  have hR4 : eM.R (fun k => S k ∧ k < w4.heap.size) w5 vr _ := ER.ext eM (ER.lt eM (ER.ext eM hR e4)) e5
  have hP4 : eI.R (fun k => S k ∧ k < w4.heap.size) w5 vp _ := ER.ext eI (ER.lt eI (ER.ext eI hP e4)) e5
  refine .mid (α := Value) (fun x => [(0, vm), (10, x)]) (fun x W => Ext w4 W ∧ eV.R S W x (solX m b)) ?_ ?_
  · rcases Nat.eq_zero_or_pos (colsOf m) with h0 | hpos
    · have hp0 : (redP (augM m b)).length = 0 := Nat.eq_zero_of_not_pos fun h => by have := hplt 0 h; omega
      have hx0 : solX m b = [] := List.length_eq_zero_iff.1 (by rw [solX_length]; exact h0)
      rw [show tab (colsOf m) (partTo (redF (augM m b)) (redP (augM m b)) (colsOf m) 0) = [] from List.length_eq_zero_iff.1 (by rw [tab_length]; exact h0)] at h5
      refine .seq (.region (.asg rfl rfl (.nil ?_)))
      refine .block (.loop (α := Unit) (fun _ => [(0, vm), (8, vr), (10, vx), (11, .int .i64 0)]) (fun _ W => W = w5) (fun _ => 0) () ?_ ?_ ?_)
      · exact look_cons rfl (look_cons rfl (look_cons rfl (look_cons rfl look_nil)))
      · rfl
      rintro _ W rfl
      refine .seq (.seq (.region (.mv rfl rfl (.mv rfl rfl (.lenR un_M rfl rfl hR4 ?_)))))
      rw [tabM_length, hp0]
      refine .lssF rfl rfl rfl (by decide) (.nil (.condF rfl (.exit ?_)))
      rw [hx0]
      exact ⟨rfl, vx, look_cons rfl (look_cons rfl look_nil), e5, h5.toR (fun k hk => up k (by have := x4.size; omega)) (fun _ h => h)⟩
    obtain ⟨g, cap, rfl, hcap, hcap2, hgB, fp⟩ := h5.fp (by rw [tab_length]; exact hpos)
    rw [tab_length] at hcap ⊢
    refine .seq (.region (.asg rfl rfl (.nil ?_)))
    refine .block (.loop (α := Nat) (fun i => [(0, vm), (7, .int .i64 (colsOf m : Nat)), (8, vr), (9, vp), (10, .slice (some ⟨g, 0, none⟩) (colsOf m) cap), (11, .int .i64 (i : Nat))]) (fun i W => Ext w4 W ∧ i ≤ (redP (augM m b)).length ∧ eM.R (fun k => S k ∧ k < w4.heap.size) W vr (tabM (redP (augM m b)).length (colsOf (augM m b)) (redF (augM m b))) ∧ eI.R (fun k => S k ∧ k < w4.heap.size) W vp (pInts (redP (augM m b))) ∧ FP eQ 37 S W g (tab (colsOf m) (partTo (redF (augM m b)) (redP (augM m b)) (colsOf m) i))) (fun i => (redP (augM m b)).length - i) 0 ?_ ?_ ?_)
    · exact look_cons rfl (look_cons rfl (look_cons rfl (look_cons rfl (look_cons rfl (look_cons rfl look_nil)))))
    · exact ⟨e5, Nat.zero_le _, hR4, hP4, fp⟩
    rintro i W ⟨hW, hi, hRW, hPW, fp⟩
    refine .seq (.seq (.region (.mv rfl rfl (.mv rfl rfl (.lenR un_M rfl rfl hRW ?_)))))
    rw [tabM_length]
    rcases Nat.lt_or_ge i (redP (augM m b)).length with hli | hgi
    rotate_left
    · refine .lssF rfl rfl rfl (by have := he.len; rw [aug_len] at this; omega) (.nil (.condF rfl (.exit ?_)))
      have : i = (redP (augM m b)).length := by omega
      subst this
      refine ⟨rfl, _, look_cons rfl (look_cons rfl look_nil), hW, ?_⟩
      have := fp.toR (c := cap) (hsz := by decide) (up g (by have := x4.size; omega)) (by rw [tab_length]; exact hcap) (by rw [tab_length]; omega)
      rw [tab_length] at this
      exact this
    have hli2 : i < max m.length b.length := by have := he.len; rw [aug_len] at this; omega
    have hacp : colsOf (augM m b) = colsOf m + 1 := aug_cols' (by omega)
    have hg : (pInts (redP (augM m b)))[i]? = some (((redP (augM m b)).getD i 0 : Nat) : Int) := by rw [List.getElem?_map, getD_get' (z := 0) hli]; rfl
    refine .lssT rfl rfl rfl (by omega) (.nil (.condT rfl (.skip (.seq (.block ?_)))))
    refine .par follows 12 [.inl _, .inl _, .inl (.int .i64 (i : Nat)), .inr (Ptr (eInt .i64) (fun k => S k ∧ k < w4.heap.size) (((redP (augM m b)).getD i 0 : Nat) : Int)), .inl (.int .i64 (((redP (augM m b)).getD i 0 : Nat) : Int)), .inl _, .inl (.int .i64 (i : Nat)), .inr (Ptr eV (fun k => S k ∧ k < w4.heap.size) (tab (colsOf (augM m b)) (redF (augM m b) i))), .inr (eV.at (fun k => S k ∧ k < w4.heap.size) (tab (colsOf (augM m b)) (redF (augM m b) i))), .inl (.int .i64 (colsOf m : Nat)), .inr (Ptr eQ (fun k => S k ∧ k < w4.heap.size) (qc (redF (augM m b) i (colsOf m)))), .inr (eQ.at (fun k => S k ∧ k < w4.heap.size) (qc (redF (augM m b) i (colsOf m))))] [[], [], [], [(33, 1), (34, 2)], [(35, 3)], [], [], [(37, 5), (38, 6)], [(39, 7)], [], [(40, 8), (41, 9)], [(42, 10)]] (by kernel_rfl) ⟨
      fun w e => (v_mv rfl).ob, fun w e => (v_mv rfl).ob, fun w e => (v_mv rfl).ob,
      fun w e => ob_ixN (i := i) un_I ty_I1 rfl (ER.ext eI hPW e) rfl hg,
      fun w e x hx => ob_ldI ty_I1 rfl hx,
      fun w e => (v_mv rfl).ob, fun w e => (v_mv rfl).ob,
      fun w e => ob_ixN (i := i) un_M ty_V rfl (ER.ext eM hRW e) rfl (tabM_get hli),
      fun w e x hx => ob_ldE ty_V rfl hx,
      fun w e => (v_mv rfl).ob,
      fun w e x hx => ob_ixN (i := colsOf m) un_V ty_Q rfl hx rfl (tab_get (by omega)),
      fun w e x hx => ob_ldE ty_Q rfl hx, trivial⟩ ?_
    intro W6 e6 y3 _ y7 _ y8 _ y10 _ y11 hy11
    have hg4 : w4.heap.size ≤ g := hgB
    refine .ixB (i := (redP (augM m b)).getD i 0) un_V ty_Q rfl rfl rfl (hplt i hli) (.storeP (E := eQ) (i := (redP (augM m b)).getD i 0) (by decide) ty_Q rfl rfl (fp.ext e6) rfl (by rw [tab_length]; exact hplt i hli) (Nat.zero_add _) (eQ.mono (fun k _ h => ⟨h.1, by have := h.2; omega⟩) hy11) fun W7 f7 u7 => .nil ?_)
    rw [tab_set, ← partTo_succ he hli] at f7
    refine .region (.mv rfl rfl (.add rfl rfl rfl (.asg rfl rfl (.nil ?_))))
    rw [wI (by have := he.len; rw [aug_len] at this; omega)]
    exact ⟨rfl, i + 1, look_cons rfl (look_cons rfl (look_cons rfl (look_cons rfl (look_cons rfl (look_cons rfl look_nil))))), ⟨u7.below (hW.trans e6) hg4, hli, ER.upd eM (ER.ext eM hRW e6) u7 (fun h => by have := h.2; omega), ER.upd eI (ER.ext eI hPW e6) u7 (fun h => by have := h.2; omega), f7⟩, by show (redP (augM m b)).length - (i + 1) < (redP (augM m b)).length - i; omega⟩
  rintro x W ⟨hW, hx⟩
  have xW := x4.trans hW
  refine .seq (.region (.mv rfl rfl (.mv rfl rfl ?_)))
  refine .call _ rfl E_ref05_Null rfl (ref05_Null_c (up.ext xW.size) (hm.ext xW) okm) fun v7 w7 e7 h7 => .asg rfl rfl (.asg rfl rfl (.asg rfl rfl (.nil (.ret ?_))))
  refine .plain [_, _, _] Tryz.results16 ⟨rfl, rfl, rfl, trivial⟩ ⟨xW.trans e7, _, _, _, rfl, ?_, ?_, ?_⟩
  · rw [if_pos hs]; exact ER.ext eV hx e7
  · rw [if_pos hs]; exact h7
  · show _ = _
    rw [if_pos hs]
end Go.Proofs.YtccmemilofoamaaGreat

namespace Go.Proofs.YtccmemilofoamaaGreat
open Go Go.Kx Go.RowKit
section
variable {m : List (List QV)}
theorem null_nil (hc : colsOf m = m.length) (h : invertible m) : nullM m = [] := by
  have h1 := free_rank m
  have h2 := (inv_rank hc).1 h
  exact List.length_eq_zero_iff.1 (by omega)
theorem null_pos (hc : colsOf m = m.length) (h : ¬ invertible m) : 0 < (nullM m).length := by
  have h1 := free_rank m
  have h2 : (redP m).length ≠ m.length := fun e => h ((inv_rank hc).2 e)
  have h3 := (red_ech m).len
  omega
theorem col_sol (hc : colsOf m = m.length) (h : invertible m) {k : Nat} (hk : k < m.length) : solvable m (tab m.length (uniR (k : Nat))) ∧ solX m (tab m.length (uniR (k : Nat))) = tab m.length fun i => rm (invM m) i k := by
  have hs : solvable m (tab m.length (uniR (k : Nat))) := inv_solv hc h fun i hi => rv_out (by rw [tab_length]; exact hi)
  refine ⟨hs, ?_⟩
  have e1 : solX m (tab m.length (uniR (k : Nat))) = tab (colsOf m) (rv (solX m (tab m.length (uniR (k : Nat))))) := by
    conv => lhs; unfold solX
    exact tab_congr fun c hc' => by rw [rv_solX, if_pos hc']
  rw [e1, hc]
  refine tab_congr fun i hi => ?_
  rw [← inv_sol hc h hs hi]
  rw [sumN_single (i := k) (fun j hj hne => by rw [rv_tab, if_pos hj]; unfold uniR; rw [if_neg (by omega), Rat.mul_zero]), if_pos hk, rv_tab, if_pos hk]
  unfold uniR
  rw [if_pos rfl, Rat.mul_one]
theorem uni_vk {L n : Nat} (hL : 1 ≤ L) (k : Int) : vk L (tab n (uniR k)) := vk_tab fun j _ => by
  unfold uniR
  split
  · exact rsz1 hL
  · exact Rsz.zero hL
end
theorem E_ref05_Inverse : Ent Tryz.prog 23 := ent_of Tryz.func23 (by kernel_rfl) rfl
theorem ref05_Inverse_c {S : Nat → Prop} {w : World} {vm : Value} {m : List (List QV)} {L n : Nat} (up : Up S w) (hm : eM.R S w vm m) (hkm : mk_ L m) (hL : 1 ≤ L) (hr : m.length ≤ n) (hc : colsOf m = m.length) (hn : n ≤ 80) (hbd : bd L n ≤ 40000000) :
    CR Tryz.prog 23 #[vm] w (Two (eM.at S (if invertible m then invM m else [])) (Is (.int .i64 (if invertible m then 0 else 8)))) := by
  refine enter Tryz.func23 rfl Tryz.ntmps23 rfl ?_
  refine .seq (.region (.asg rfl rfl (.asg rfl rfl (.nil (.seq (.region (.mv rfl rfl (.lenR un_M rfl rfl hm (.asg rfl rfl (.nil (.seq (.region (.asg rfl rfl (.nil ?_))))))))))))))
  generalize hG : (fun k => tab m.length fun i => rm (invM m) i k) = G
  have hmW : ∀ {W : World}, Ext w W → eM.R (fun k => S k ∧ k < w.heap.size) W vm m := fun e => ER.ext eM (ER.lt eM hm) e
  refine .mid (α := Value) (fun o => [(5, o)]) (fun o W => Ext w W ∧ invertible m ∧ OwnL eV 23 w.heap.size S W o ((List.range m.length).map G)) ?_ ?_
  · refine .seq (.region (.asg rfl rfl (.nil ?_)))
    refine .block (.loop (α := Nat × Value) (fun y => [(0, vm), (4, .int .i64 (m.length : Nat)), (5, y.2), (6, .int .i64 (y.1 : Nat))]) (fun y W => Ext w W ∧ y.1 ≤ m.length ∧ (0 < y.1 → invertible m) ∧ OwnL eV 23 w.heap.size S W y.2 ((List.range y.1).map G)) (fun y => m.length - y.1) (0, .slice none 0 0) ?_ ?_ ?_)
    · exact look_cons rfl (look_cons rfl (look_cons rfl (look_cons rfl look_nil)))
    · exact ⟨Ext.refl _, Nat.zero_le _, fun h => absurd h (Nat.lt_irrefl _), OwnL.nil⟩
    rintro ⟨k, o⟩ W ⟨hW, hk, hinv, ho⟩
    replace hW : Ext w W := hW
    replace hk : k ≤ m.length := hk
    replace hinv : 0 < k → invertible m := hinv
    replace ho : OwnL eV 23 w.heap.size S W o ((List.range k).map G) := ho
    have hsW := hW.size
    refine .seq (.seq (.region (.mv rfl rfl (.mv rfl rfl ?_))))
    rcases Nat.lt_or_ge k m.length with hlt | hge
    rotate_left
    · refine .lssF rfl rfl rfl (by omega) (.nil (.condF rfl (.exit ?_)))
      have : k = m.length := by omega
      subst this
      refine ⟨rfl, o, look_cons rfl look_nil, hW, ?_, ho⟩
      rcases Nat.eq_zero_or_pos m.length with h0 | h0
      · show ¬ _
        omega
      · exact hinv h0
    obtain ⟨es, ho1, _⟩ := id ho
    have hT : ∀ k', S k' ∧ k' < w.heap.size → S k' ∧ o.ownBlock ≠ some k' := fun k' h => ⟨h.1, fun e => by have := (ho1.lt k' e).1; have := h.2; omega⟩
    have upU : Up (fun k' => S k' ∧ o.ownBlock ≠ some k') W := fun k' hk' => ⟨up k' (by omega), fun h => by have := (ho1.lt k' h).2; omega⟩
    refine .lssT rfl rfl rfl (by omega) (.nil (.condT rfl (.skip (.seq (.block (.seq (.region (.mv rfl rfl (.mv rfl rfl (.mv rfl rfl ?_))))))))))
    refine .call _ rfl E_ref03_Unit rfl (ref03_Unit_c (k := (k : Nat)) upU (by omega)) fun vu W2 e2 h2 => ?_
    have hu : eV.R (fun k' => S k' ∧ o.ownBlock ≠ some k') W2 vu (tab m.length (uniR (k : Nat))) := h2.toR (fun k hk => upU k hk) (fun _ h => h)
    have hW2 := hW.trans e2
    refine .call _ rfl E_ref05_Solve rfl (ref05_Solve_c (L := L) (n := n) (S := fun k' => S k' ∧ o.ownBlock ≠ some k') (upU.ext e2.size) (eM.mono (fun k' _ h => hT k' h) (hmW hW2)) hu hkm (uni_vk hL _) hL (by omega) (by rw [tab_length]; omega) (by omega) (by rw [tab_length]; omega) hbd) fun v3 W3 e3 h3 => ?_
    obtain ⟨vx, vf, ve, rfl, hx, hf, he⟩ := h3
    have hW3 := hW2.trans e3
    refine .mv rfl rfl (.ext rfl rfl rfl (.ext rfl rfl rfl (.ext rfl rfl rfl (.asg rfl rfl (.asg rfl rfl (.asg rfl rfl (.nil ?_)))))))
    refine .seq (.seq (.region (.mv rfl rfl ?_)))
    by_cases hi : invertible m
    · obtain ⟨hs, hxe⟩ := col_sol hc hi hlt
      replace he : ve = .int .i64 0 := by rw [he, if_pos hs]
      subst he
      rw [if_pos hs] at hx hf
      rw [null_nil hc hi] at hf
      rw [hxe] at hx
      refine .neqF rfl rfl rfl rfl (.mv rfl rfl (.gr rfl rfl rfl rfl (.mv rfl rfl (.gr rfl rfl rfl rfl (.lenR un_M rfl rfl hf (.gr rfl rfl rfl rfl (.gtrF rfl rfl rfl (by decide) (.pick rfl rfl rfl (.nil (.condF rfl (.skip ?_)))))))))))
      obtain ⟨ar, cr, hvr, _⟩ := RL.len hx
      rw [tab_length] at hvr
      subst hvr
      refine .region (.mv rfl rfl (.mv rfl rfl (.bsl _ rfl rfl bsl_M1 fun Wy by_ ny => ?_)))
      obtain ⟨ey, ky, hby, hsy⟩ := ny
      have e23 := (e2.trans e3).trans ey
      have hWy := hW.trans e23
      refine .gv rfl rfl (g_appL (E := eV) (base := w.heap.size) (n := G k) (e := .slice ar m.length cr) (by decide) un_M info_V rfl rfl rfl (ho.ext e23) ky (by rw [← hG]; exact ER.ext eV hx ey) (by simp; omega) (by decide) hWy.size) ?_
      rintro v8 W8 ⟨ho8, hg8⟩
      refine .asg rfl rfl (.nil (.region (.mv rfl rfl (.add rfl rfl rfl (.asg rfl rfl (.nil ?_))))))
      rw [wI (by omega)]
      refine ⟨rfl, (k + 1, v8), look_cons rfl (look_cons rfl (look_cons rfl (look_cons rfl look_nil))), ⟨(ho.ext e23).below hg8 hWy hWy.size, hlt, fun _ => hi, ?_⟩, by show m.length - (k + 1) < m.length - k; omega⟩
      show OwnL eV 23 w.heap.size S W8 v8 ((List.range (k + 1)).map G)
      rw [List.range_succ, List.map_append]
      exact ho8
    · have hout : ∀ {σ : Env}, Kx.look σ 2 = some (.slice none 0 0) → Kx.look σ 3 = some (.int .i64 8) → Leave Tryz.prog Tryz.f23 39 (fun v w' => Ext w w' ∧ Two (eM.at S (if invertible m then invM m else [])) (Is (.int .i64 (if invertible m then 0 else 8))) v w') σ [] W3 := by
        intro σ h1 h2
        refine .plain [_, _] Tryz.results23 ⟨h1, h2, trivial⟩ ⟨hW3, _, _, rfl, ?_, ?_⟩
        · rw [if_neg hi]; exact RL.nil
        · show _ = _
          rw [if_neg hi]
      by_cases hs : solvable m (tab m.length (uniR (k : Nat)))
      · replace he : ve = .int .i64 0 := by rw [he, if_pos hs]
        subst he
        rw [if_pos hs] at hf
        have := null_pos hc hi
        obtain ⟨_, _, _, _, hfl⟩ := RL.len hf
        refine .neqF rfl rfl rfl rfl (.mv rfl rfl (.gr rfl rfl rfl rfl (.mv rfl rfl (.gr rfl rfl rfl rfl (.lenR un_M rfl rfl hf (.gr rfl rfl rfl rfl (.gtrT rfl rfl rfl (by omega) (.pick rfl rfl rfl (.nil (.condT rfl (.seq (.region (.asg rfl rfl (.asg rfl rfl (.nil (.ret ?_))))))))))))))))
        exact hout rfl rfl
      · replace he : ve = .int .i64 8 := by rw [he, if_neg hs]
        subst he
        refine .neqT rfl rfl rfl (by decide) (.mv rfl rfl (.gs rfl rfl rfl rfl rfl (.gs rfl rfl rfl rfl rfl (.gs rfl rfl rfl rfl rfl (.pick rfl rfl rfl (.nil (.condT rfl (.seq (.region (.asg rfl rfl (.asg rfl rfl (.nil (.ret ?_)))))))))))))
        exact hout rfl rfl
  rintro o W ⟨hW, hi, ho⟩
  have hcol : eM.R S W o (tabM m.length m.length fun k i => rm (invM m) i k) := by
    have := ho.toR (S := S) (hsz := by decide) (fun k hk => up k hk) (fun _ h => h)
    rw [← hG] at this
    exact this
  have hkc : mk_ (bd L n) (tabM m.length m.length fun k i => rm (invM m) i k) := mk_tabM fun k i _ _ => (inv_rsz hkm hL hr).rsz (bd_pos hL n) i k
  have hcl : (tabM m.length m.length fun k i => rm (invM m) i k).length = m.length := tabM_length ..
  have hcc := cols_tabM m.length m.length fun k i => rm (invM m) i k
  refine .seq (.region (.mv rfl rfl ?_))
  refine .call _ rfl E_ref04_Turn rfl (ref04_Turn_c (up.ext hW.size) hcol hkc (bd_pos hL n) (by omega) (by omega) (by rw [hcc]; split <;> omega)) fun v7 w7 e7 h7 => .asg rfl rfl (.asg rfl rfl (.nil (.ret ?_)))
  refine .plain [_, _] Tryz.results23 ⟨rfl, rfl, trivial⟩ ⟨hW.trans e7, _, _, rfl, ?_, ?_⟩
  · rw [if_pos hi]
    have hfin : (tabM (colsOf (tabM m.length m.length fun k i => rm (invM m) i k)) (tabM m.length m.length fun k i => rm (invM m) i k).length fun i k => rm (tabM m.length m.length fun k i => rm (invM m) i k) k i) = invM m := by
      rw [hcl, hcc]
      have h1 : (if m.length = 0 then 0 else m.length) = m.length := by split <;> omega
      rw [h1]
      unfold invM
      exact tabM_congr' fun i k hi' hk' => by rw [rm_tabM, if_pos ⟨hk', hi'⟩, rm_tabM, if_pos ⟨hi', hk'⟩]
    rw [hfin] at h7
    exact h7
  · show _ = _
    rw [if_pos hi]
end Go.Proofs.YtccmemilofoamaaGreat

namespace Go.Proofs.YtccmemilofoamaaGreat
open Go Go.Kx Go.RowKit
/-- how long a determinant may be -/
def dsz (L : Nat) : Nat → Nat
  | 0 => L
  | n + 1 => 1 + (n + 1) * (L + dsz L n + 1)
theorem dsz_ge {L : Nat} (n : Nat) : L ≤ dsz L n := by
  cases n with
  | zero => exact Nat.le_refl _
  | succ n =>
    have := Nat.le_mul_of_pos_left (L + dsz L n + 1) (Nat.succ_pos n)
    show L ≤ 1 + (n + 1) * (L + dsz L n + 1)
    have e : n.succ = n + 1 := rfl
    rw [e] at this
    omega
theorem sgk_rsz {k L : Nat} {a : Rat} (h : Rsz a L) : Rsz (sgk k * a) L := by
  unfold sgk
  split
  · rw [Rat.one_mul]; exact h
  · rw [show (-1 : Rat) * a = - a by grind]; exact h.neg
theorem det_rszT {L : Nat} (hL : 1 ≤ L) : ∀ {n : Nat} {f : RM}, (∀ i k, i < n → k < n → Rsz (f i k) L) → Rsz (det n f) (dsz L n)
  | 0, _, _ => rsz1 hL
  | n + 1, f, h => by
    unfold det dsz
    refine sumN_rsz fun k hk => ?_
    rw [Rat.mul_assoc]
    exact sgk_rsz ((h 0 k (by omega) hk).mul (det_rszT hL fun i c hi hc => h _ _ (by omega) (skp_lt hc)))
def cntK (k j : Nat) : Nat := if j ≤ k then j else j - 1
theorem E_ref05_Det : Ent Tryz.prog 24 := ent_of Tryz.func24 (by kernel_rfl) rfl
theorem ref05_Det_c : ∀ (n : Nat) {S : Nat → Prop} {w : World} {vm : Value} {m : List (List QV)} {L : Nat} (up : Up S w) (hm : eM.R S w vm m) (hkm : mk_ L m) (hL : 1 ≤ L) (hn : m.length = n) (hn2 : n ≤ 100) (hb : dsz L n ≤ 10000000),
    CR Tryz.prog 24 #[vm] w (eQ.at S (qc (det n (rm m)))) := by
  intro n
  induction n with
  | zero =>
    intro S w vm m L up hm hkm hL hn hn2 hb
    refine enter Tryz.func24 rfl Tryz.ntmps24 rfl ?_
    refine .seq (.region (.alloc rfl zero_Q fun w1 b2 n1 => .nil ?_))
    obtain ⟨e1, k2, hb2, hs1⟩ := n1
    have up1 : Up (Sx S w.heap.size w1.heap.size) w1 := Sx.up up (Nat.le_refl _) e1.size
    refine .seq (.seq (.region (.mv rfl rfl (.lenR un_M rfl rfl (hm.ext e1) ?_))))
    refine .eqlT rfl rfl rfl (by omega) (.nil (.condT rfl (.seq (.region ?_))))
    refine .call _ rfl E_ref02_Int rfl (ref02_Int_c up1 (by decide) (by decide)) fun v2 w2 e2 h2 => ?_
    refine .storeA (E := eQ) ty_Q rfl rfl (k2.ext e2) rfl rfl h2 (Sx.no (by omega) (by omega)) fun w3 k3 u3 h3 => .nil (.ret ?_)
    refine .cell (E := eQ) (S := S) (z := qc 1) Tryz.results24 rfl ty_Q rfl rfl k3 h3.out ⟨u3.below (e1.trans e2) (by omega), ?_⟩
    exact h3.out
  | succ n ih =>
    intro S w vm m L up hm hkm hL hn hn2 hb
    have hd := dsz_ge (L := L) (n + 1)
    have hL9 : L ≤ 1000000000 := by omega
    refine enter Tryz.func24 rfl Tryz.ntmps24 rfl ?_
    refine .seq (.region (.alloc rfl zero_Q fun w1 b2 n1 => .nil ?_))
    obtain ⟨e1, k2, hb2, hs1⟩ := n1
    refine .seq (.seq (.region (.mv rfl rfl (.lenR un_M rfl rfl (hm.ext e1) ?_))))
    refine .eqlF rfl rfl rfl (by omega) (.nil (.condF rfl (.skip ?_)))
    refine .seq (.region (.bld [] rfl rfl bld_Q0 (.alloc rfl zero_Q fun w2 b3 n2 => ?_)))
    obtain ⟨e2, k3, hb3, hs2⟩ := n2
    have k2 := k2.ext e2
    have x2 := e1.trans e2
    have hT2 : ¬ Sx S w.heap.size w2.heap.size b2 := Sx.no (by omega) (by omega)
    have hT3 : ¬ Sx S w.heap.size w2.heap.size b3 := Sx.no (by omega) (by omega)
    have hTl : ∀ k, S k ∧ k < w.heap.size → Sx S w.heap.size w2.heap.size k := fun k h => ⟨h.1, .inl h.2⟩
    have upT : ∀ {W : World}, w2.heap.size ≤ W.heap.size → Up (Sx S w.heap.size w2.heap.size) W := fun h => Sx.up up h (by omega)
    have hTS : ∀ k, Sx S w.heap.size w2.heap.size k → S k := fun k h => h.1
    have hmW : ∀ {W : World}, Ext w W → eM.R (fun k => S k ∧ k < w.heap.size) W vm m := fun e => ER.ext eM (ER.lt eM hm) e
    have hne : b2 ≠ b3 := by omega
    have hw2 : w.heap.size ≤ w2.heap.size := x2.size
    have hb2w : w.heap.size ≤ b2 := by omega
    have hb3w : w.heap.size ≤ b3 := by omega
    have hb2l : b2 < w2.heap.size := by omega
    have hb3l : b3 < w2.heap.size := by omega
    generalize hT : Sx S w.heap.size w2.heap.size = T at *
    have hq : eQ.R T w2 (.agg #[.bool false, .slice none 0 0, .bool false, .slice none 0 0]) (qc 0) := by rw [qc_zero]; exact ⟨_, _, rfl, RL.nil, RL.nil⟩
    refine .storeA (E := eQ) ty_Q rfl rfl k3 rfl rfl hq hT3 fun w3 k3 u3 h3 => .nil ?_
    have k2 := k2.upd u3 hne
    have x3 : Ext w w3 := u3.below x2 hb3w
    have hs3 := u3.size
    generalize hf : (fun k => sgk k * rm m 0 k * det n (mnr (rm m) k)) = f
    have hfk0 : ∀ k, f k = sgk k * (rm m 0 k * det n (mnr (rm m) k)) := fun k => by rw [← hf]; exact Rat.mul_assoc _ _ _
    have hterm : ∀ k, k < n + 1 → Rsz (f k) (L + dsz L n) := fun k hk => by
      rw [hfk0]
      exact sgk_rsz ((hkm.rsz hL 0 k).mul (det_rszT hL fun i c hi hc => hkm.rsz hL _ _))
    have hdn : dsz L (n + 1) = 1 + (n + 1) * (L + dsz L n + 1) := rfl
    have hdl : L + dsz L n + 1 ≤ (n + 1) * (L + dsz L n + 1) := Nat.le_mul_of_pos_left _ (Nat.succ_pos n)
    refine .mid (α := Value) (fun x => [(2, .pointer (some ⟨b2, 0, none⟩)), (3, .pointer (some ⟨b3, 0, none⟩))]) (fun x W => Ext w W ∧ w2.heap.size ≤ W.heap.size ∧ (∃ z : Array Value, z.size = 4 ∧ Blk W b2 37 z) ∧ Blk W b3 37 x.cells ∧ eQ.R T W x (qc (sumN (n + 1) f))) ?_ ?_
    · refine .seq (.region (.asg rfl rfl (.nil ?_)))
      refine .block (.loop (α := Nat × Value) (fun y => [(0, vm), (2, .pointer (some ⟨b2, 0, none⟩)), (3, .pointer (some ⟨b3, 0, none⟩)), (4, .int .i64 (y.1 : Nat))]) (fun y W => Ext w W ∧ w2.heap.size ≤ W.heap.size ∧ y.1 ≤ n + 1 ∧ (∃ z : Array Value, z.size = 4 ∧ Blk W b2 37 z) ∧ Blk W b3 37 y.2.cells ∧ eQ.R T W y.2 (qc (sumN y.1 f))) (fun y => n + 1 - y.1) (0, .agg #[.bool false, .slice none 0 0, .bool false, .slice none 0 0]) ?_ ?_ ?_)
      · exact look_cons rfl (look_cons rfl (look_cons rfl (look_cons rfl look_nil)))
      · exact ⟨x3, by omega, Nat.zero_le _, ⟨_, rfl, k2⟩, k3, h3⟩
      rintro ⟨k, x⟩ W ⟨hW, hWs, hk, ⟨z, hz4, k2⟩, k3, hx⟩
      replace hW : Ext w W := hW
      replace hk : k ≤ n + 1 := hk
      replace k3 : Blk W b3 37 x.cells := k3
      replace hx : eQ.R T W x (qc (sumN k f)) := hx
      refine .seq (.seq (.region (.mv rfl rfl (.mv rfl rfl (.lenR un_M rfl rfl (hmW hW) ?_)))))
      rw [hn]
      rcases Nat.lt_or_ge k (n + 1) with hkl | hge
      rotate_left
      · refine .lssF rfl rfl rfl (by omega) (.nil (.condF rfl (.exit ?_)))
        have : k = n + 1 := by omega
        subst this
        exact ⟨rfl, x, look_cons rfl (look_cons rfl look_nil), hW, hWs, ⟨z, hz4, k2⟩, k3, hx⟩
      refine .lssT rfl rfl rfl (by omega) (.nil (.condT rfl (.skip ?_)))
      have hnext : ∀ {W' : World} {x' : Value} {z' : Array Value} {σ : Env}, Kx.look σ 0 = some vm → Kx.look σ 2 = some (.pointer (some ⟨b2, 0, none⟩)) → Kx.look σ 3 = some (.pointer (some ⟨b3, 0, none⟩)) → Kx.look σ 4 = some (.int .i64 (k : Nat)) → Ext w W' → w2.heap.size ≤ W'.heap.size → z'.size = 4 → Blk W' b2 37 z' → Blk W' b3 37 x'.cells → eQ.R T W' x' (qc (sumN (k + 1) f)) →
          ∃ y : Nat × Value, (∀ t v, Kx.look [(0, vm), (2, .pointer (some ⟨b2, 0, none⟩)), (3, .pointer (some ⟨b3, 0, none⟩)), (4, .int .i64 (y.1 : Nat))] t = some v → Kx.look ((4, .int .i64 ((k : Int) + 1)) :: σ) t = some v) ∧ (Ext w W' ∧ w2.heap.size ≤ W'.heap.size ∧ y.1 ≤ n + 1 ∧ (∃ z : Array Value, z.size = 4 ∧ Blk W' b2 37 z) ∧ Blk W' b3 37 y.2.cells ∧ eQ.R T W' y.2 (qc (sumN y.1 f))) ∧ n + 1 - y.1 < n + 1 - k := by
        intro W' x' z' σ h0 h2 h3 h4 a1 a2 a3 a4 a5 a6
        refine ⟨(k + 1, x'), look_cons h0 (look_cons h2 (look_cons h3 (look_cons rfl look_nil))), ⟨a1, a2, hkl, ⟨z', a3, a4⟩, a5, a6⟩, by show n + 1 - (k + 1) < n + 1 - k; omega⟩
      refine .seq (.block (.seq (.region (.asg rfl rfl (.nil ?_)))))
      generalize hr : (fun i => tab n (mnr (rm m) k i)) = row
      refine .mid (α := Value) (fun o => [(0, vm), (2, .pointer (some ⟨b2, 0, none⟩)), (3, .pointer (some ⟨b3, 0, none⟩)), (4, .int .i64 (k : Nat)), (5, o)]) (fun o W2 => Ext W W2 ∧ OwnL eV 23 W.heap.size T W2 o ((List.range n).map row)) ?_ ?_
      · refine .seq (.region (.asg rfl rfl (.nil ?_)))
        refine .block (.loop (α := Nat × Value) (fun y => [(0, vm), (2, .pointer (some ⟨b2, 0, none⟩)), (3, .pointer (some ⟨b3, 0, none⟩)), (4, .int .i64 (k : Nat)), (5, y.2), (6, .int .i64 ((y.1 + 1 : Nat) : Int))]) (fun y W2 => Ext W W2 ∧ y.1 ≤ n ∧ OwnL eV 23 W.heap.size T W2 y.2 ((List.range y.1).map row)) (fun y => n - y.1) (0, .slice none 0 0) ?_ ?_ ?_)
        · exact look_cons rfl (look_cons rfl (look_cons rfl (look_cons rfl (look_cons rfl (look_cons rfl look_nil)))))
        · exact ⟨Ext.refl _, Nat.zero_le _, OwnL.nil⟩
        rintro ⟨i, o⟩ W2 ⟨hW2, hi, ho⟩
        replace hW2 : Ext W W2 := hW2
        replace hi : i ≤ n := hi
        replace ho : OwnL eV 23 W.heap.size T W2 o ((List.range i).map row) := ho
        have hs2' := hW2.size
        refine .seq (.seq (.region (.mv rfl rfl (.mv rfl rfl (.lenR un_M rfl rfl (hmW (hW.trans hW2)) ?_)))))
        rw [hn]
        rcases Nat.lt_or_ge i n with hlt | hge
        rotate_left
        · refine .lssF rfl rfl rfl (by omega) (.nil (.condF rfl (.exit ?_)))
          have : i = n := by omega
          subst this
          exact ⟨rfl, o, look_cons rfl (look_cons rfl (look_cons rfl (look_cons rfl (look_cons rfl look_nil)))), hW2, ho⟩
        obtain ⟨es, ho1, ho2⟩ := id ho
        refine .lssT rfl rfl rfl (by omega) (.nil (.condT rfl (.skip ?_)))
        have hTu : ∀ k', S k' ∧ k' < w.heap.size → T k' ∧ o.ownBlock ≠ some k' := fun k' hk' => ⟨hTl k' hk', fun h => by have := (ho1.lt k' h).1; have := hk'.2; omega⟩
        have upO : ∀ {W' : World}, W2.heap.size ≤ W'.heap.size → Up (fun k' => T k' ∧ o.ownBlock ≠ some k') W' := fun hs k' hk' => ⟨upT (W := W2) (by omega) k' (by omega), fun h => by have := (ho1.lt k' h).2; omega⟩
        refine .seq (.block (.seq (.region (.asg rfl rfl (.nil ?_)))))
        refine .mid (α := Value) (fun x => [(0, vm), (2, .pointer (some ⟨b2, 0, none⟩)), (3, .pointer (some ⟨b3, 0, none⟩)), (4, .int .i64 (k : Nat)), (5, o), (6, .int .i64 ((i + 1 : Nat) : Int)), (7, x)]) (fun x W3 => Ext W2 W3 ∧ OwnL eQ 37 W2.heap.size (fun k' => T k' ∧ o.ownBlock ≠ some k') W3 x (row i)) ?_ ?_
        · refine .seq (.region (.asg rfl rfl (.nil ?_)))
          refine .block (.loop (α := Nat × Value) (fun y => [(0, vm), (2, .pointer (some ⟨b2, 0, none⟩)), (3, .pointer (some ⟨b3, 0, none⟩)), (4, .int .i64 (k : Nat)), (5, o), (6, .int .i64 ((i + 1 : Nat) : Int)), (7, y.2), (8, .int .i64 (y.1 : Nat))]) (fun y W3 => Ext W2 W3 ∧ y.1 ≤ n + 1 ∧ OwnL eQ 37 W2.heap.size (fun k' => T k' ∧ o.ownBlock ≠ some k') W3 y.2 (tab (cntK k y.1) (mnr (rm m) k i))) (fun y => n + 1 - y.1) (0, .slice none 0 0) ?_ ?_ ?_)
          · exact look_cons rfl (look_cons rfl (look_cons rfl (look_cons rfl (look_cons rfl (look_cons rfl (look_cons rfl (look_cons rfl look_nil)))))))
          · refine ⟨Ext.refl _, Nat.zero_le _, ?_⟩
            rw [show cntK k 0 = 0 by unfold cntK; rw [if_pos (Nat.zero_le _)]]
            exact OwnL.nil
          rintro ⟨j, x⟩ W3 ⟨hW3, hj, hx⟩
          replace hW3 : Ext W2 W3 := hW3
          replace hj : j ≤ n + 1 := hj
          replace hx : OwnL eQ 37 W2.heap.size (fun k' => T k' ∧ o.ownBlock ≠ some k') W3 x (tab (cntK k j) (mnr (rm m) k i)) := hx
          have hsz3 := hW3.size
          refine .seq (.seq (.region (.mv rfl rfl (.mv rfl rfl (.lenR un_M rfl rfl (hmW (hW.trans (hW2.trans hW3))) ?_)))))
          rw [hn]
          rcases Nat.lt_or_ge j (n + 1) with hjl | hge
          rotate_left
          · refine .lssF rfl rfl rfl (by omega) (.nil (.condF rfl (.exit ?_)))
            have : j = n + 1 := by omega
            subst this
            refine ⟨rfl, x, look_cons rfl (look_cons rfl (look_cons rfl (look_cons rfl (look_cons rfl (look_cons rfl (look_cons rfl look_nil)))))), hW3, ?_⟩
            rw [← hr]
            rw [show cntK k (n + 1) = n by unfold cntK; rw [if_neg (by omega)]; rfl] at hx
            exact hx
          refine .lssT rfl rfl rfl (by omega) (.nil (.condT rfl (.skip (.seq (.block (.seq (.region (.mv rfl rfl (.mv rfl rfl ?_)))))))))
          by_cases hjk : j = k
          · refine .neqF rfl rfl rfl (by omega) (.nil (.condF rfl (.skip (.region (.mv rfl rfl (.add rfl rfl rfl (.asg rfl rfl (.nil ?_))))))))
            rw [wI (by omega)]
            refine ⟨rfl, (j + 1, x), look_cons rfl (look_cons rfl (look_cons rfl (look_cons rfl (look_cons rfl (look_cons rfl (look_cons rfl (look_cons rfl look_nil))))))), ⟨hW3, hjl, ?_⟩, by show n + 1 - (j + 1) < n + 1 - j; omega⟩
            show OwnL eQ 37 W2.heap.size _ W3 x (tab (cntK k (j + 1)) _)
            rw [show cntK k (j + 1) = cntK k j by unfold cntK; rw [if_neg (by omega), if_pos (by omega)]; rfl]
            exact hx
          obtain ⟨es', hx1, hx2⟩ := id hx
          have upX : Up (fun k' => (T k' ∧ o.ownBlock ≠ some k') ∧ x.ownBlock ≠ some k') W3 := fun k' hk' => ⟨upO hsz3 k' hk', fun h => by have := (hx1.lt k' h).2; omega⟩
          refine .neqT rfl rfl rfl (by omega) (.nil (.condT rfl (.region (.mv rfl rfl (.mv rfl rfl (.mv rfl rfl (.mv rfl rfl ?_)))))))
          refine .call _ rfl E_ref04_At rfl (ref04_At_c (i := ((i + 1 : Nat) : Int)) (k := (j : Nat)) upX (eM.mono (fun k' _ h => ⟨hTu k' h, fun e => by have := (hx1.lt k' e).1; have := h.2; omega⟩) (hmW (hW.trans (hW2.trans hW3)))) hkm hL hL9) fun v2 W4 e4 h4 => ?_
          rw [rmI_nat] at h4
          have hr' := h4
          obtain ⟨s2, t2, rfl, _, _⟩ := hr'
          refine .bsl _ rfl rfl bsl_V1 fun W5 b5 n5 => ?_
          obtain ⟨e5, k5, hb5, hs5⟩ := n5
          have e45 := e4.trans e5
          have hW5 := hW3.trans e45
          refine .gv rfl rfl (g_appL (E := eQ) (base := W2.heap.size) (by decide) un_V info_Q rfl rfl rfl (hx.ext e45) k5 (h4.ext e5) (by rw [tab_length]; unfold cntK; split <;> omega) (by decide) hW5.size) ?_
          rintro v6 W6 ⟨ho6, hg6⟩
          refine .asg rfl rfl (.nil (.region (.mv rfl rfl (.add rfl rfl rfl (.asg rfl rfl (.nil ?_))))))
          rw [wI (by omega)]
          refine ⟨rfl, (j + 1, v6), look_cons rfl (look_cons rfl (look_cons rfl (look_cons rfl (look_cons rfl (look_cons rfl (look_cons rfl (look_cons rfl look_nil))))))), ⟨(hx.ext e45).below hg6 hW5 hW5.size, hjl, ?_⟩, by show n + 1 - (j + 1) < n + 1 - j; omega⟩
          show OwnL eQ 37 W2.heap.size _ W6 v6 (tab (cntK k (j + 1)) _)
          have hc1 : cntK k (j + 1) = cntK k j + 1 := by
            unfold cntK
            by_cases h : j < k
            · rw [if_pos (by omega), if_pos (by omega)]
            · rw [if_neg (by omega), if_neg (by omega)]; omega
          have hc2 : skp k (cntK k j) = j := by
            unfold cntK skp
            split <;> split <;> omega
          have hc3 : tab (cntK k (j + 1)) (mnr (rm m) k i) = tab (cntK k j) (mnr (rm m) k i) ++ [qc (rm m (i + 1) j)] := by
            rw [hc1]
            unfold tab
            rw [List.range_succ, List.map_append]
            simp only [List.map_cons, List.map_nil]
            rw [show mnr (rm m) k i (cntK k j) = rm m (i + 1) j by unfold mnr; rw [hc2]]
          rw [hc3]
          exact ho6
        rintro x W3 ⟨hW3, hx⟩
        have hrow : eV.R (fun k' => T k' ∧ o.ownBlock ≠ some k') W3 x (row i) := hx.toR (fun k hk => upO (Nat.le_refl _) k hk) (fun _ h => h)
        obtain ⟨ar, cr, hvr, _⟩ := RL.len hrow
        have hrl : (row i).length = n := by rw [← hr]; exact tab_length ..
        rw [hrl] at hvr
        subst hvr
        have hW3' := hW2.trans hW3
        refine .region (.mv rfl rfl (.mv rfl rfl (.bsl _ rfl rfl bsl_M1 fun W6 b6 n6 => ?_)))
        obtain ⟨e6, k6, hb6, hs6⟩ := n6
        have hW6 := hW3'.trans e6
        have ho3 := (ho.lt_ hW3).ext e6
        refine .gv rfl rfl (g_appL (E := eV) (base := W.heap.size) (n := row i) (e := .slice ar n cr) (by decide) un_M info_V rfl rfl rfl ho3 k6 (ER.ext eV hrow e6) (by simp; omega) (by decide) hW6.size) ?_
        rintro v7 W7 ⟨ho7, hg7⟩
        refine .asg rfl rfl (.nil (.region (.mv rfl rfl (.add rfl rfl rfl (.asg rfl rfl (.nil ?_))))))
        rw [wI (by omega)]
        refine ⟨rfl, (i + 1, v7), look_cons rfl (look_cons rfl (look_cons rfl (look_cons rfl (look_cons rfl (look_cons (by show some (Value.int .i64 (((i + 1 : Nat) : Int) + 1)) = _; rfl) look_nil))))), ⟨ho3.below hg7 hW6 hW6.size, hlt, ?_⟩, by show n - (i + 1) < n - i; omega⟩
        show OwnL eV 23 W.heap.size T W7 v7 ((List.range (i + 1)).map row)
        rw [List.range_succ, List.map_append]
        exact ho7
      rintro o W2 ⟨hW2, ho⟩
      have hxW2 := hW.trans hW2
      have hs2' := hW2.size
      have hrest : eM.R T W2 o (tabM n n (mnr (rm m) k)) := by
        have := ho.toR (S := T) (hsz := by decide) (fun k hk => upT (W := W) hWs k hk) (fun _ h => h)
        rw [← hr] at this
        exact this
      refine .seq (.region (.mv rfl rfl (.mv rfl rfl ?_)))
      refine .call _ rfl E_ref04_At rfl (ref04_At_c (i := ((0 : Nat) : Int)) (k := (k : Nat)) (upT (by omega)) (eM.mono (fun k' _ h => hTl k' h) (hmW hxW2)) hkm hL hL9) fun v4 W4 e4 h4 => ?_
      rw [rmI_nat] at h4
      refine .alloc rfl zero_Q fun W5 b9 n5 => ?_
      obtain ⟨e5, k9, hb9, hs5⟩ := n5
      have e45 := e4.trans e5
      have hs4 := e4.size
      have upU : ∀ {W' : World}, W5.heap.size ≤ W'.heap.size → Up (fun k' => T k' ∧ k' ≠ b9) W' := fun h k' hk' => ⟨upT (W := W5) (by omega) k' (by omega), by omega⟩
      have hU9 : ¬ (fun k' => T k' ∧ k' ≠ b9) b9 := fun h => h.2 rfl
      have toU : ∀ {W' : World} {α : Type} {E : ER α} {v : Value} {x : α}, W'.heap.size ≤ b9 → E.R T W' v x → E.R (fun k' => T k' ∧ k' ≠ b9) W' v x := fun h hR => ER.mono _ (fun k' hk' h' => ⟨h', by omega⟩) hR
      have hv4 := ER.ext eQ (toU (E := eQ) (by omega) h4) e5
      refine .storeA (E := eQ) (S := fun k' => T k' ∧ k' ≠ b9) ty_Q rfl rfl k9 rfl rfl hv4 hU9 fun W6 k9 u6 h6 => .nil ?_
      have hs6 := u6.size
      have xW6 : Ext W W6 := u6.below (hW2.trans e45) (by omega)
      have hmo6 : eM.R (fun k' => T k' ∧ k' ≠ b9) W6 o (tabM n n (mnr (rm m) k)) := ER.upd eM (ER.ext eM (toU (E := eM) (by omega) hrest) e45) u6 hU9
      have hsg := qk_qc (hkm.rsz hL 0 k)
      have hxW6 := hW.trans xW6
      have hv4s := shpA (E := eQ) rfl h6
      refine .seq (.seq (.region (.ldA ty_Q rfl rfl k9 (eQ.csz h6) ?_)))
      rw [← hv4s]
      refine .call _ rfl E_ref02_Sign rfl (ref02_Sign_c (upU (by omega)) h6 hsg.1 hL9) fun v7 W7 e7 h7 => ?_
      subst h7
      have hpn : pn (qc (rm m 0 k)) = 0 ↔ rm m 0 k = 0 := by
        constructor
        · intro h
          rw [← qval_qc (rm m 0 k)]
          unfold qval
          rw [h, Rat.zero_divInt]
        · intro h
          rw [h, qc_zero]; rfl
      by_cases h0 : rm m 0 k = 0
      · refine .eqlT rfl rfl rfl (by rw [hpn.2 h0]; rfl) (.nil (.condT rfl (.exit (.region (.mv rfl rfl (.add rfl rfl rfl (.asg rfl rfl (.nil ?_))))))))
        rw [wI (by omega)]
        refine ⟨rfl, hnext rfl rfl rfl rfl (hxW6.trans e7) (by have := e7.size; omega) hz4 (k2.ext (xW6.trans e7)) (k3.ext (xW6.trans e7)) ?_⟩
        have : sumN (k + 1) f = sumN k f := by
          show sumN k f + f k = _
          rw [hfk0, h0]
          grind
        rw [this]
        exact ER.ext eQ hx (xW6.trans e7)
      refine .eqlF rfl rfl rfl (fun h => h0 (hpn.1 (Int.sign_eq_zero_iff_zero.1 h))) (.nil (.condF rfl (.skip (.seq ?_))))
      have h6 := ER.ext eQ h6 e7
      have hmo7 := ER.ext eM hmo6 e7
      have hs7 := e7.size
      have hmk : mk_ L (tabM n n (mnr (rm m) k)) := mk_tabM fun i c _ _ => hkm.rsz hL _ _
      have hdd : det n (rm (tabM n n (mnr (rm m) k))) = det n (mnr (rm m) k) := det_congr fun i c hi hc => by rw [rm_tabM, if_pos ⟨hi, hc⟩]
      have hdr : Rsz (det n (mnr (rm m) k)) (dsz L n) := det_rszT hL fun i c hi hc => hkm.rsz hL _ _
      have hprod : Rsz (rm m 0 k * det n (mnr (rm m) k)) (L + dsz L n) := (hkm.rsz hL 0 k).mul hdr
      refine .par follows 4 [.inl v4, .inl o, .inr (eQ.at (fun k' => T k' ∧ k' ≠ b9) (qc (det n (mnr (rm m) k)))), .inr (eQ.at (fun k' => T k' ∧ k' ≠ b9) (qc (rm m 0 k * det n (mnr (rm m) k))))] [[], [], [(54, 1)], [(53, 0), (55, 2)]] (by kernel_rfl) ⟨
        fun w e => ((v_ldA ty_Q rfl ((k9.ext e7).ext e) (eQ.csz h6)).eq hv4s.symm).ob,
        fun w e => (v_mv rfl).ob,
        fun w e => by
          have := ih (L := L) (upU (by have := e.size; omega)) (ER.ext eM hmo7 e) hmk hL (tabM_length ..) (by omega) (by omega)
          rw [hdd] at this
          exact (g_call _ E_ref05_Det rfl this).ob (st_at _ _ _),
        fun w e x hx => by
          have := ref02_Mul_c (L := dsz L n) (upU (by have := e.size; omega)) (ER.ext eQ h6 e) hx (hsg.1.mono (dsz_ge n)) hdr.toOk (Nat.le_trans hL (dsz_ge n)) (by omega)
          rw [qval_qc, qval_qc] at this
          exact (g_call _ E_ref02_Mul rfl this).ob (st_at _ _ _), trivial⟩ ?_
      intro W8 e8 y2 _ y3 hy3
      refine .storeA (E := eQ) (S := fun k' => T k' ∧ k' ≠ b9) ty_Q rfl rfl ((k9.ext e7).ext e8) (by rfl) (eQ.csz h6) hy3 hU9 fun W9 k9 u9 h9 => .nil ?_
      have hs8 := e8.size
      have hs9 := u9.size
      have x9 : Ext W W9 := u9.below (xW6.trans (e7.trans e8)) (by omega)
      have hfk := hfk0 k
      refine .mid (α := Value) (fun _ => [(0, vm), (2, .pointer (some ⟨b2, 0, none⟩)), (3, .pointer (some ⟨b3, 0, none⟩)), (4, .int .i64 (k : Nat)), (9, .pointer (some ⟨b9, 0, none⟩))]) (fun y W' => Ext W W' ∧ W5.heap.size ≤ W'.heap.size ∧ Blk W' b9 37 y.cells ∧ eQ.R (fun k' => T k' ∧ k' ≠ b9) W' y (qc (f k))) ?_ ?_
      · refine .seq (.region (.mv rfl rfl (.rem rfl rfl rfl (by decide) ?_)))
        by_cases hk2 : k % 2 = 1
        · have hsk : f k = -(rm m 0 k * det n (mnr (rm m) k)) := by rw [hfk]; unfold sgk; rw [if_neg (by omega)]; grind
          have hv9 := shpA (E := eQ) rfl h9
          refine .eqlT rfl rfl rfl (by rw [Int.tmod_eq_emod_of_nonneg (by omega)]; omega) (.nil (.condT rfl (.region (.ldA ty_Q rfl rfl k9 (eQ.csz h9) ?_))))
          rw [← hv9]
          have hneg := ref02_Neg_c (L := L + dsz L n) (upU (by omega)) h9 hprod.toOk (by omega) (by omega)
          rw [qval_qc, ← hsk] at hneg
          refine .call _ rfl E_ref02_Neg rfl hneg fun v10 W10 e10 h10 => ?_
          refine .storeA (E := eQ) (S := fun k' => T k' ∧ k' ≠ b9) ty_Q rfl rfl (k9.ext e10) (by rfl) (eQ.csz h9) h10 hU9 fun W11 k11 u11 h11 => .nil ?_
          have hs10 := e10.size
          have hs11 := u11.size
          exact ⟨rfl, v10, look_cons rfl (look_cons rfl (look_cons rfl (look_cons rfl (look_cons rfl look_nil)))), u11.below (x9.trans e10) (by omega), by omega, k11, h11⟩
        · have hsk : f k = rm m 0 k * det n (mnr (rm m) k) := by rw [hfk]; unfold sgk; rw [if_pos (by omega)]; grind
          refine .eqlF rfl rfl rfl (by rw [Int.tmod_eq_emod_of_nonneg (by omega)]; omega) (.nil (.condF rfl (.skip ?_)))
          rw [← hsk] at h9
          exact ⟨rfl, y3, look_cons rfl (look_cons rfl (look_cons rfl (look_cons rfl (look_cons rfl look_nil)))), x9, by omega, k9, h9⟩
      rintro y W10 ⟨x10, hs10, k9, h10⟩
      have hxv := shpA (E := eQ) rfl hx
      have hyv := shpA (E := eQ) rfl h10
      have hxU : eQ.R (fun k' => T k' ∧ k' ≠ b9) W10 x (qc (sumN k f)) := ER.ext eQ (toU (E := eQ) (by omega) hx) x10
      have hsum : Rsz (sumN k f) (1 + k * (L + dsz L n + 1)) := sumN_rsz fun j hj => hterm j (by omega)
      have hkn : 1 + k * (L + dsz L n + 1) ≤ 10000000 := by
        have := Nat.mul_le_mul_right (L + dsz L n + 1) hk
        omega
      refine .region (.ldA ty_Q rfl rfl (k3.ext x10) (eQ.csz hx) (.ldA ty_Q rfl rfl k9 (eQ.csz h10) ?_))
      rw [← hxv, ← hyv]
      have hadd := ref02_Add_c (L := 10000000) (upU hs10) hxU h10 (hsum.toOk.mono hkn) ((hterm k hkl).toOk.mono (by omega)) (by decide) (by decide)
      rw [qval_qc, qval_qc] at hadd
      refine .call _ rfl E_ref02_Add rfl hadd fun v11 W11 e11 h11 => ?_
      have hs11 := e11.size
      refine .storeA (E := eQ) (S := T) ty_Q rfl rfl ((k3.ext x10).ext e11) (by rfl) (eQ.csz hx) (eQ.mono (fun k' _ h => h.1) h11) hT3 fun W12 k12 u12 h12 => .nil ?_
      have hs12 := u12.size
      refine .region (.mv rfl rfl (.add rfl rfl rfl (.asg rfl rfl (.nil ?_))))
      rw [wI (by omega)]
      exact ⟨rfl, hnext rfl rfl rfl rfl (u12.below ((hW.trans x10).trans e11) hb3w) (by omega) hz4 (((k2.ext x10).ext e11).upd u12 hne) k12 h12⟩
    rintro x W ⟨hW, hWs, ⟨z, hz4, k2⟩, k3, hx⟩
    have hxv := shpA (E := eQ) rfl hx
    refine .seq (.region (.ldA ty_Q rfl rfl k3 (eQ.csz hx) ?_))
    rw [← hxv]
    refine .storeA (E := eQ) (S := T) ty_Q rfl rfl k2 (by rfl) hz4 hx hT2 fun W2 k2 u2 h2 => .nil (.ret ?_)
    have hfin : eQ.R S W2 x (qc (det (n + 1) (rm m))) := by
      have := eQ.mono (fun k _ h => hTS k h) h2
      rw [← hf] at this
      exact this
    exact .cell (E := eQ) (S := S) Tryz.results24 rfl ty_Q rfl rfl k2 hfin ⟨u2.below hW hb2w, hfin⟩
end Go.Proofs.YtccmemilofoamaaGreat

namespace Go.Proofs.YtccmemilofoamaaGreat
open Go Go.Kx Go.RowKit
theorem law05_SolveMatches_c {w : World} {vm vb : Value} {m : List (List QV)} {b : List QV} (hm : eM.R (fun _ => True) w vm m) (hb : eV.R (fun _ => True) w vb b) :
    CR Tryz.prog 3 #[vm, vb] w (Is (.bool true)) := by
  obtain ⟨ab, cb, hvb, _⟩ := RL.len hb
  refine enter Tryz.func3 rfl Tryz.ntmps3 rfl ?_
  refine .seq (.region (.asg rfl rfl (.nil (.seq (.seq (.region (.mv rfl rfl (.mv rfl rfl (.bsl _ rfl rfl (by rw [hvb]; exact bsl_M1) fun w1 b1 n1 => ?_)))))))))
  have hl : eM.R (fun _ => True) w1 (.slice (some ⟨b1, 0, none⟩) 1 1) [b] := eS_new [vb] [b] n1 upT (by rw [hvb]) rfl (by decide) (Els.snoc Els.nil hb)
  refine .call _ rfl E_law05_long rfl (law05_long_c (hm.ext n1.1) hl) fun v2 w2 e2 h2 => .nil ?_
  obtain ⟨bb, rfl, hlong⟩ := h2
  have x2 := n1.1.trans e2
  cases bb with
  | true =>
    refine .condT rfl (.seq (.region ?_))
    refine .call _ rfl E_law05_alive rfl law05_alive_c fun v3 w3 e3 h3 => .asg rfl rfl (.nil (.ret ?_))
    exact .plain [_] Tryz.results3 ⟨rfl, trivial⟩ ⟨x2.trans e3, h3⟩
  | false =>
  obtain ⟨okm, okb⟩ := hlong rfl
  have okb := okb b (by simp)
  clear hl hlong
  have mr := okm.mr (hm.ext x2)
  have br := okb.vr (hb.ext x2)
  have m1 := okm.rows
  have m2 := okm.cols
  have b1 := okb.len
  clear hm
  refine .condF rfl (.skip (.seq (.region (.mv rfl rfl ?_))))
  refine .call _ rfl E_law04_Own rfl (law04_Own_c upT mr.r (fun r hr q hq => (okm.q r hr q hq).mono (by decide)) (by omega) (by omega)) fun vo w3 e3 h3 => .asg rfl rfl (.nil ?_)
  replace h3 : eM.R (fun _ => True) w3 vo m := h3
  have or_ : MR w3 vo 6 6 2 m := ⟨h3, m1, m2, mr.hk⟩
  have mr := mr.ext e3
  have br := br.ext e3
  refine .seq (.region (.mv rfl rfl (.mv rfl rfl ?_)))
  refine .call _ rfl E_law03_Own rfl (law03_Own_c upT br.r (fun q hq => (okb.q q hq).mono (by decide)) (by omega)) fun vbo w4 e4 h4 => ?_
  replace h4 : eV.R (fun _ => True) w4 vbo b := h4
  refine .call _ rfl E_solve_Solve rfl (solve_Solve_c (L := 2) (n := 7) upT (or_.ext e4).r h4 mr.hk br.hk (by decide) (by omega) (by omega) (by omega) (by omega) (by decide)) fun v5 w5 e5 h5 => ?_
  obtain ⟨vx, vf, ve, rfl, hx, hf, he⟩ := h5
  replace he : ve = .int .i64 (if solvable m b then 0 else 8) := he
  subst he
  refine .mv rfl rfl (.ext rfl rfl rfl (.ext rfl rfl rfl (.ext rfl rfl rfl (.asg rfl rfl (.asg rfl rfl (.asg rfl rfl (.nil (.seq (.region (.mv rfl rfl (.mv rfl rfl ?_)))))))))))
  have y5 := e4.trans e5
  refine .call _ rfl E_ref05_Solve rfl (ref05_Solve_c (L := 2) (n := 7) upT (mr.ext y5).r (br.ext y5).r mr.hk br.hk (by decide) (by omega) (by omega) (by omega) (by omega) (by decide)) fun v6 w6 e6 h6 => ?_
  obtain ⟨vy, vn, vg, rfl, hy, hn, hg⟩ := h6
  replace hg : vg = .int .i64 (if solvable m b then 0 else 8) := hg
  subst hg
  refine .mv rfl rfl (.ext rfl rfl rfl (.ext rfl rfl rfl (.ext rfl rfl rfl (.asg rfl rfl (.asg rfl rfl (.asg rfl rfl (.nil (.seq (.region (.mv rfl rfl ?_))))))))))
  have y6 := y5.trans e6
  refine .call _ rfl E_solve_Inverse rfl (solve_Inverse_c (L := 2) (n := 6) upT (or_.ext y6).r mr.hk (by decide) (by omega) (by omega) (by decide) (by decide)) fun v7 w7 e7 h7 => ?_
  obtain ⟨vv, vi, rfl, hv, hi⟩ := h7
  replace hi : vi = .int .i64 (if colsOf m = m.length then (if invertible m then 0 else 8) else 13) := hi
  subst hi
  refine .mv rfl rfl (.ext rfl rfl rfl (.ext rfl rfl rfl (.asg rfl rfl (.asg rfl rfl (.nil (.seq (.region (.mv rfl rfl ?_))))))))
  have y7 := y6.trans e7
  refine .call _ rfl E_solve_Det rfl (solve_Det_c (L := 2) (n := 6) upT (or_.ext y7).r mr.hk (by decide) (by omega) (by omega) (by decide) (by decide)) fun v8 w8 e8 h8 => ?_
  obtain ⟨vd, vh, rfl, hd, hh⟩ := h8
  replace hh : vh = .int .i64 (if colsOf m = m.length then 0 else 13) := hh
  subst hh
  refine .mv rfl rfl (.ext rfl rfl rfl (.ext rfl rfl rfl (.alloc rfl zero_Q fun w9 b14 n9 => ?_)))
  obtain ⟨e9, k14, hb14, hs9⟩ := n9
  have hdl : eQ.R (fun k => True ∧ k < w8.heap.size) w8 vd _ := ER.lt eQ hd
  refine .storeA (E := eQ) (S := fun k => True ∧ k < w8.heap.size) ty_Q rfl rfl k14 rfl rfl (ER.ext eQ hdl e9) (fun h => by have := h.2; omega) fun w10 k14 u10 hd10 => .asg rfl rfl (.nil ?_)
  have hd10 := eQ.mono (S' := fun _ => True) (fun _ _ _ => trivial) hd10
  have e10 : Ext w8 w10 := u10.below e9 (by omega)
  have hvd := shpA (E := eQ) rfl hd10
  have y10 := (y7.trans e8).trans e10
  have or_ := or_.ext y10
  have mr := mr.ext y10
  have hx := ER.ext eV hx (((e6.trans e7).trans e8).trans e10)
  have hf := ER.ext eM hf (((e6.trans e7).trans e8).trans e10)
  have hy := ER.ext eV hy ((e7.trans e8).trans e10)
  have hn := ER.ext eM hn ((e7.trans e8).trans e10)
  have hv := ER.ext eM hv (e8.trans e10)
  have x10 := (x2.trans e3).trans y10
  clear hd hdl br h4 h3 hb
  refine .seq (.seq (.region (.mv rfl rfl (.mv rfl rfl ?_))))
  refine .call _ rfl E_ref03_Is rfl (isV_t hx hy rfl) fun v11 w11 e11 h11 => ?_
  subst h11
  refine .not_ rfl rfl (.mv rfl rfl (.gr rfl rfl rfl rfl (.mv rfl rfl (.gr rfl rfl rfl rfl (.mv rfl rfl (.gr rfl rfl rfl rfl ?_))))))
  refine .call _ rfl E_ref04_Is rfl (isM_t (ER.ext eM hf e11) (ER.ext eM hn e11) rfl) fun v12 w12 e12 h12 => ?_
  subst h12
  refine .gr rfl rfl rfl rfl (.not_ rfl rfl (.pick rfl rfl rfl (.mv rfl rfl (.gr rfl rfl rfl rfl (.mv rfl rfl (.gr rfl rfl rfl rfl (.mv rfl rfl (.gr rfl rfl rfl rfl (.neqF rfl rfl rfl rfl (.pick rfl rfl rfl (.mv rfl rfl (.gr rfl rfl rfl rfl (.mv rfl rfl (.gr rfl rfl rfl rfl (.mv rfl rfl (.gr rfl rfl rfl rfl ?_))))))))))))))))
  have y12 := e11.trans e12
  refine .call _ rfl E_ref04_Is rfl (isM_t (or_.ext y12).r (mr.ext y12).r rfl) fun v13 w13 e13 h13 => ?_
  subst h13
  refine .gr rfl rfl rfl rfl (.not_ rfl rfl (.pick rfl rfl rfl (.nil (.condF rfl (.skip (.seq (.seq (.region (.mv rfl rfl ?_)))))))))
  have y13 := y12.trans e13
  refine .call _ rfl E_ref05_Square rfl (ref05_Square_c (mr.ext y13).r) fun v14 w14 e14 h14 => ?_
  subst h14
  have y14 := y13.trans e14
  by_cases hc : colsOf m = m.length
  rotate_left
  · rw [decide_eq_false hc]
    rw [if_neg hc] at hd10
    rw [if_neg (fun h => hc h.1)] at hv
    refine .not_ rfl rfl (.nil (.condT rfl (.seq (.region (.mv rfl rfl (.lenR un_M rfl rfl (ER.ext eM hv y14) ?_))))))
    refine .eqlT rfl rfl rfl rfl (.mv rfl rfl (.gr rfl rfl rfl rfl (.mv rfl rfl (.gr rfl rfl rfl rfl ?_))))
    rw [if_neg hc]
    refine .eqlT rfl rfl rfl rfl (.pick rfl rfl rfl (.mv rfl rfl (.gr rfl rfl rfl rfl (.ldA ty_Q rfl rfl (k14.ext y14) (eQ.csz hd10) ?_))))
    rw [← hvd]
    refine .gr rfl rfl rfl rfl (.bld [] rfl rfl bld_Q0 (.gr rfl rfl rfl rfl ?_))
    refine .call _ rfl E_ref02_Is rfl (isQ_t (b := q0) (ER.ext eQ hd10 y14) ⟨_, _, rfl, RL.nil, RL.nil⟩ (by rw [if_neg hc]; exact qc_zero)) fun v15 w15 e15 h15 => ?_
    subst h15
    refine .pick rfl rfl rfl (.mv rfl rfl (.gr rfl rfl rfl rfl (.mv rfl rfl (.gr rfl rfl rfl rfl ?_))))
    rw [if_neg hc]
    refine .eqlT rfl rfl rfl rfl (.pick rfl rfl rfl (.mv rfl rfl (.gr rfl rfl rfl rfl ?_)))
    refine .call _ rfl E_law05_alive rfl law05_alive_c fun v16 w16 e16 h16 => ?_
    subst h16
    refine .pick rfl rfl rfl (.asg rfl rfl (.nil (.ret ?_)))
    exact .plain [_] Tryz.results3 ⟨rfl, trivial⟩ ⟨((x10.trans y14).trans e15).trans e16, rfl⟩
  rw [decide_eq_true hc]
  rw [if_pos hc] at hd10
  have hv : eM.R (fun _ => True) w10 vv (if invertible m then invM m else []) := by
    by_cases hi : invertible m
    · rw [if_pos hi]; rw [if_pos ⟨hc, hi⟩] at hv; exact hv
    · rw [if_neg hi]; rw [if_neg fun h => hi h.2] at hv; exact hv
  simp only [if_pos hc]
  refine .not_ rfl rfl (.nil (.condF rfl (.skip (.seq (.region (.mv rfl rfl ?_))))))
  refine .call _ rfl E_ref05_Inverse rfl (ref05_Inverse_c (L := 2) (n := 6) upT (mr.ext y14).r mr.hk (by decide) (by omega) hc (by decide) (by decide)) fun v15 w15 e15 h15 => ?_
  obtain ⟨vw, vj, rfl, hw, hj⟩ := h15
  replace hj : vj = .int .i64 (if invertible m then 0 else 8) := hj
  subst hj
  have y15 := y14.trans e15
  refine .mv rfl rfl (.ext rfl rfl rfl (.ext rfl rfl rfl (.asg rfl rfl (.asg rfl rfl (.nil (.seq ?_))))))
  have hdm : det m.length (rm m) = detM m := det_eq _ _
  refine .par follows 12 [.inl vv, .inl vw, .inl (.bool true), .inl (.bool true), .inl (.int .i64 (if invertible m then 0 else 8)), .inl (.int .i64 (if invertible m then 0 else 8)), .inl (.bool true), .inl (.bool true), .inl (.bool true), .inl vd, .inl vm, .inr (eQ.at (fun _ => True) (qc (detM m)))] [[], [], [(98, 0), (99, 1)], [(100, 2)], [(101, 3)], [(101, 3)], [(102, 4), (103, 5), (101, 3)], [(101, 3), (104, 6)], [(105, 7)], [(106, 8)], [(106, 8)], [(108, 10), (106, 8)]] (by kernel_rfl) ⟨
    fun w e => (v_mv rfl).ob, fun w e => (v_mv rfl).ob,
    fun w e => (g_call _ E_ref04_Is rfl (isM_t (ER.ext eM hv (y15.trans e)) (ER.ext eM hw e) rfl)).obIs,
    fun w e => (v_mv rfl).ob, fun w e => (v_mv rfl).ob, fun w e => (v_mv rfl).ob,
    fun w e => ((v_eql rfl rfl).eq (by simp)).ob,
    fun w e => (v_pickT rfl rfl).ob,
    fun w e => (v_mv rfl).ob,
    fun w e => ((v_ldA ty_Q rfl (k14.ext (y15.trans e)) (eQ.csz hd10)).eq hvd.symm).ob,
    fun w e => (v_mv rfl).ob,
    fun w e => by
      have := ref05_Det_c m.length (L := 2) (S := fun _ => True) upT (mr.ext (y15.trans e)).r mr.hk (by decide) rfl (by omega) (by
        have h6 : ∀ n, n ≤ 6 → dsz 2 n ≤ 10000000 := by decide
        exact h6 _ m1)
      rw [hdm] at this
      exact (g_call _ E_ref05_Det rfl this).ob (st_at _ _ _), trivial⟩ ?_
  intro w16 e16 y11 hy11
  have y16 := y15.trans e16
  refine .gr rfl rfl rfl rfl ?_
  refine .call _ rfl E_ref02_Is rfl (isQ_t (ER.ext eQ hd10 y16) hy11 (by rw [if_pos hc])) fun v17 w17 e17 h17 => ?_
  subst h17
  refine .pick rfl rfl rfl (.mv rfl rfl (.gr rfl rfl rfl rfl (.mv rfl rfl (.gr rfl rfl rfl rfl (.eqlT rfl rfl rfl rfl (.pick rfl rfl rfl (.mv rfl rfl (.gr rfl rfl rfl rfl ?_))))))))
  refine .call _ rfl E_law05_alive rfl law05_alive_c fun v18 w18 e18 h18 => ?_
  subst h18
  refine .pick rfl rfl rfl (.asg rfl rfl (.nil (.ret ?_)))
  exact .plain [_] Tryz.results3 ⟨rfl, trivial⟩ ⟨((x10.trans y16).trans e17).trans e18, rfl⟩
end Go.Proofs.YtccmemilofoamaaGreat
