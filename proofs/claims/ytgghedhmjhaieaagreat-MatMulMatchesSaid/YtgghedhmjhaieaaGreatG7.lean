/-
  mat: Cols, row, At, size mat: the filler mat: Resize, Identity, Transpose, Concat mat: Concat, MulVec, VecMul, Mul mat: VecMul, Mul mat: rowPairs, Add, Equal, FromInts
-/
import Derived.Test.YtgghedhmjhaieaaGreatG6
set_option linter.unusedVariables false
namespace Go.Kx
open Go
def colsOf (m : List (List QV)) : Nat := m.foldl (fun n r => max n r.length) 0
theorem foldl_max (m : List (List QV)) : ∀ n, m.foldl (fun n r => max n r.length) n = max n (colsOf m) := by
  unfold colsOf
  induction m with
  | nil => intro n; simp
  | cons r m ih => intro n; simp only [List.foldl_cons]; rw [ih, ih (max 0 r.length)]; omega
theorem colsOf_nil : colsOf [] = 0 := rfl
theorem colsOf_cons (r : List QV) (m : List (List QV)) : colsOf (r :: m) = max r.length (colsOf m) := by
  show List.foldl _ (max 0 r.length) m = _
  rw [foldl_max]; omega
theorem colsOf_append (a b : List (List QV)) : colsOf (a ++ b) = max (colsOf a) (colsOf b) := by
  induction a with
  | nil => simp [colsOf_nil]
  | cons r a ih => rw [List.cons_append, colsOf_cons, colsOf_cons, ih]; omega
theorem colsOf_take_succ (m : List (List QV)) {i : Nat} (h : i < m.length) : colsOf (m.take (i + 1)) = max (colsOf (m.take i)) (m.getD i []).length := by
  rw [List.take_succ_eq_append_getElem h, colsOf_append, colsOf_cons, colsOf_nil]
  rw [List.getD_eq_getElem?_getD, List.getElem?_eq_getElem h]
  simp
theorem colsOf_mem {m : List (List QV)} {r : List QV} (h : r ∈ m) : r.length ≤ colsOf m := by
  induction m with
  | nil => cases h
  | cons x m ih =>
    rw [colsOf_cons]
    rcases List.mem_cons.1 h with rfl | h
    · omega
    · have := ih h; omega
theorem colsOf_le {m : List (List QV)} {n : Nat} (h : ∀ r ∈ m, r.length ≤ n) : colsOf m ≤ n := by
  induction m with
  | nil => exact Nat.zero_le _
  | cons x m ih =>
    rw [colsOf_cons]
    have h1 := h x (by simp)
    have h2 := ih fun r hr => h r (by simp [hr])
    omega
theorem colsOf_get (m : List (List QV)) (i : Nat) : (m.getD i []).length ≤ colsOf m := mem_getD (P := fun r => r.length ≤ colsOf m) (fun r hr => colsOf_mem hr) (Nat.zero_le _) i
theorem rm_outc {m : List (List QV)} {i k : Nat} (h : colsOf m ≤ k) : rm m i k = 0 := rv_out (Nat.le_trans (colsOf_get m i) h)
/-- with integers for indices -/
def rmI (m : List (List QV)) (i k : Int) : Rat := if i < 0 ∨ k < 0 then 0 else rm m i.toNat k.toNat
theorem rmI_nat (m : List (List QV)) (i k : Nat) : rmI m i k = rm m i k := by
  unfold rmI; rw [if_neg (by omega)]; simp
def rowv (es : List Value) (i : Int) : Value := if i < 0 then nilV else es.getD i.toNat nilV
end Go.Kx
namespace Go.Proofs.YtgghedhmjhaieaaGreat
open Go Go.Kx Go.RowKit

theorem eM_le {S : Nat → Prop} {w : World} {v : Value} {m : List (List QV)} (h : eM.R S w v m) {i : Nat} {r : List QV} (hi : m[i]? = some r) : r.length ≤ 9223372036854775807 := by
  obtain ⟨es, he, _⟩ := h
  have hlt : i < m.length := by
    rcases Nat.lt_or_ge i m.length with h | h
    · exact h
    · rw [List.getElem?_eq_none h] at hi; cases hi
  obtain ⟨_, _, _, _, h5⟩ := RL.len (he.2 i _ r (List.getElem?_eq_getElem (by rw [he.1]; exact hlt)) hi)
  exact h5
theorem E_mat_Cols : Ent Tryz.prog 24 := ent_of Tryz.func24 (by kernel_rfl) rfl
theorem mat_Cols_c {S : Nat → Prop} {w : World} {vm : Value} {m : List (List QV)} (hm : eM.R S w vm m) : CR Tryz.prog 24 #[vm] w (Is (.int .i64 (colsOf m))) := by
  obtain ⟨am, cm, hvm, _, hlm⟩ := RL.len hm
  refine enter Tryz.func24 rfl Tryz.ntmps24 rfl ?_
  refine .seq (.region (.asg rfl rfl (.nil (.seq (.region (.asg rfl rfl (.nil ?_)))))))
  refine .mid (α := Unit) (fun _ => [(3, .int .i64 (colsOf m))]) (fun _ W => W = w) ?_ ?_
  · refine .seq (.region (.mv rfl rfl (.lenR un_M rfl rfl hm (.mv rfl rfl (.nil ?_)))))
    refine .block (.loop (α := Nat) (fun i => [(3, .int .i64 (colsOf (m.take i))), (6, vm), (7, .int .i64 (m.length : Nat)), (8, .int .i64 (i : Nat))]) (fun i W => W = w ∧ i ≤ m.length) (fun i => m.length - i) 0 ?_ ?_ ?_)
    · exact look_cons rfl (look_cons rfl (look_cons rfl (look_cons rfl look_nil)))
    · exact ⟨rfl, Nat.zero_le _⟩
    · rintro i W ⟨rfl, hi⟩
      by_cases hlt : i < m.length
      · refine .seq (.region (.lssT rfl rfl rfl (by omega) (.nil (.seq (.condT rfl (.skip (.seq (.block (.seq (.region ?_))))))))))
        refine .ixN (i := i) un_M ty_V rfl rfl hm rfl (getD_get' (z := []) hlt) fun p hp => .ldE ty_V rfl rfl hp fun e he => .asg rfl rfl (.nil (.region (.mv rfl rfl (.mv rfl rfl (.lenR un_V rfl rfl he (.max_ rfl rfl rfl (.asg rfl rfl (.nil ?_))))))))
        refine .region (.add rfl rfl rfl (.mv rfl rfl (.nil ?_)))
        rw [wI (by omega)]
        refine ⟨rfl, i + 1, look_cons ?_ (look_cons rfl (look_cons rfl (look_cons rfl look_nil))), ⟨rfl, hlt⟩, by show m.length - (i + 1) < m.length - i; omega⟩
        show some (Value.int .i64 (max ((colsOf (m.take i) : Nat) : Int) (((m.getD i []).length : Nat) : Int))) = _
        rw [colsOf_take_succ m hlt, show (max ((colsOf (m.take i) : Nat) : Int) (((m.getD i []).length : Nat) : Int)) = ((max (colsOf (m.take i)) (m.getD i []).length : Nat) : Int) by omega]
      · refine .seq (.region (.lssF rfl rfl rfl (by omega) (.nil (.seq (.condF rfl (.exit ?_))))))
        have : i = m.length := by omega
        subst this
        refine ⟨rfl, (), ?_, rfl⟩
        rw [List.take_of_length_le (Nat.le_refl _)]
        exact look_cons rfl look_nil
  · rintro _ W rfl
    refine .seq (.region (.mv rfl rfl (.asg rfl rfl (.nil (.ret ?_)))))
    exact .plain [_] Tryz.results24 ⟨rfl, trivial⟩ ⟨.refl _, rfl⟩

theorem rowv_R {S : Nat → Prop} {w : World} {vm : Value} {es : List Value} {m : List (List QV)} (h : EsR eV S w vm es m) (i : Int) : eV.R S w (rowv es i) (if i < 0 then [] else m.getD i.toNat []) := by
  unfold rowv
  split
  · exact RL.nil
  · exact h.get nilV_R _
theorem E_mat_row : Ent Tryz.prog 60 := ent_of Tryz.func60 (by kernel_rfl) rfl
theorem mat_row_c {S : Nat → Prop} {w : World} {vm : Value} {es : List Value} {m : List (List QV)} {i : Int} (hm : EsR eV S w vm es m) : CR Tryz.prog 60 #[vm, .int .i64 i] w (Is (rowv es i)) := by
  refine enter Tryz.func60 rfl Tryz.ntmps60 rfl ?_
  refine .seq (.region (.asg rfl rfl (.nil (.seq (.seq (.region (.mv rfl rfl ?_)))))))
  by_cases h0 : i < 0
  · refine .lssT rfl rfl rfl h0 (.mv rfl rfl (.gs rfl rfl rfl rfl rfl (.gs rfl rfl rfl rfl rfl (.gs rfl rfl rfl rfl rfl (.gs rfl rfl rfl rfl rfl (.pick rfl rfl rfl (.nil (.condT rfl (.seq (.region (.asg rfl rfl (.nil (.ret ?_)))))))))))))
    refine .plain [_] Tryz.results60 ⟨rfl, trivial⟩ ⟨.refl _, ?_⟩
    show _ = rowv es i
    unfold rowv; rw [if_pos h0]; rfl
  · refine .lssF rfl rfl rfl h0 (.mv rfl rfl (.gr rfl rfl rfl rfl (.mv rfl rfl (.gr rfl rfl rfl rfl (.mv rfl rfl (.gr rfl rfl rfl rfl (.lenR un_M rfl rfl (hm.toR (hsz := by decide)) (.gr rfl rfl rfl rfl ?_))))))))
    by_cases h1 : (m.length : Int) ≤ i
    · refine .geqT rfl rfl rfl h1 (.pick rfl rfl rfl (.nil (.condT rfl (.seq (.region (.asg rfl rfl (.nil (.ret ?_))))))))
      refine .plain [_] Tryz.results60 ⟨rfl, trivial⟩ ⟨.refl _, ?_⟩
      show _ = rowv es i
      unfold rowv; rw [if_neg h0, getD_out (by rw [hm.1.1]; omega)]; rfl
    · refine .geqF rfl rfl rfl h1 (.pick rfl rfl rfl (.nil (.condF rfl (.skip (.seq (.region (.mv rfl rfl (.mv rfl rfl ?_))))))))
      obtain ⟨k, rfl⟩ : ∃ k : Nat, i = k := ⟨i.toNat, by omega⟩
      have hk : k < m.length := by omega
      refine .ixX un_M ty_V rfl rfl hm rfl (getD_get' (z := nilV) (by rw [hm.1.1]; exact hk)) fun p hp => .ldX (E := eV) ty_V rfl rfl hp (hm.get nilV_R k) (.asg rfl rfl (.nil (.ret ?_)))
      refine .plain [_] Tryz.results60 ⟨rfl, trivial⟩ ⟨.refl _, ?_⟩
      show _ = rowv es k
      unfold rowv; rw [if_neg h0]; rfl

theorem E_mat_At : Ent Tryz.prog 27 := ent_of Tryz.func27 (by kernel_rfl) rfl
theorem mat_At_c {S : Nat → Prop} {w : World} {vm : Value} {m : List (List QV)} {i k : Int} {L : Nat} (up : Up S w) (hm : eM.R S w vm m) (hk : mk_ L m) (hL : 1 ≤ L) (hL2 : L ≤ 10000000000) : CR Tryz.prog 27 #[vm, .int .i64 i, .int .i64 k] w (eQ.at S (qc (rmI m i k))) := by
  refine enter Tryz.func27 rfl Tryz.ntmps27 rfl ?_
  refine .seq (.region (.alloc rfl zero_Q fun w1 b6 n1 => .nil (.seq (.region (.mv rfl rfl (.mv rfl rfl ?_))))))
  obtain ⟨e1, k6, hb6, hs1⟩ := n1
  have hS6 : ¬ Sx S w.heap.size w1.heap.size b6 := Sx.no (by omega) (by omega)
  have up1 : Up (Sx S w.heap.size w1.heap.size) w1 := Sx.up up (Nat.le_refl _) e1.size
  have hm1 := (ER.par eM hm w1.heap.size).ext e1
  obtain ⟨es, hE⟩ := RL.toEs hm1
  refine .call _ rfl E_mat_row rfl (mat_row_c hE) fun v2 w2 e2 h2 => .asg rfl rfl (.nil ?_)
  subst h2
  have hr := rowv_R (hE.ext e2) i
  generalize hrr : (if i < 0 then [] else m.getD i.toNat []) = r at hr
  have hkr : vk L r := by
    rw [← hrr]; split
    · exact vk_nil
    · exact hk.get _
  have hv : rmI m i k = if k < 0 then 0 else rv r k.toNat := by
    unfold rmI rm
    rw [← hrr]
    by_cases h1 : i < 0
    · simp [h1, rv_nil]
    · by_cases h2 : k < 0 <;> simp [h1, h2]
  have x2 := e1.trans e2
  have k6 := k6.ext e2
  have hz : (k < 0 ∨ (r.length : Int) ≤ k) → qc (rmI m i k) = q0 := by
    intro h
    rw [hv, ← qc_zero]
    congr 1
    by_cases h1 : k < 0
    · rw [if_pos h1]
    · rw [if_neg h1]; exact rv_out (by omega)
  have hzend : ∀ {σ : Env}, (k < 0 ∨ (r.length : Int) ≤ k) → True := fun _ => trivial
  refine .seq (.seq (.region (.mv rfl rfl ?_)))
  by_cases h0 : k < 0
  · refine .lssT rfl rfl rfl h0 (.mv rfl rfl (.gs rfl rfl rfl rfl rfl (.gs rfl rfl rfl rfl rfl (.gs rfl rfl rfl rfl rfl (.gs rfl rfl rfl rfl rfl (.pick rfl rfl rfl (.nil (.condT rfl (.seq (.region (.bld _ rfl rfl bld_Q0 ?_)))))))))))
    refine .storeA (E := eQ) ty_Q rfl rfl k6 rfl rfl (S := Sx S w.heap.size w1.heap.size) zq_R hS6 fun w3 k3 u3 h3 => .nil (.ret ?_)
    refine .cell Tryz.results27 rfl ty_Q rfl rfl k3 h3 ⟨u3.below x2 (by omega), ?_⟩
    show eQ.R _ _ _ _
    rw [hz (.inl h0)]; exact h3.out
  · refine .lssF rfl rfl rfl h0 (.mv rfl rfl (.gr rfl rfl rfl rfl (.mv rfl rfl (.gr rfl rfl rfl rfl (.mv rfl rfl (.gr rfl rfl rfl rfl (.lenR un_V rfl rfl hr (.gr rfl rfl rfl rfl ?_))))))))
    by_cases h1 : (r.length : Int) ≤ k
    · refine .geqT rfl rfl rfl h1 (.pick rfl rfl rfl (.nil (.condT rfl (.seq (.region (.bld _ rfl rfl bld_Q0 ?_))))))
      refine .storeA (E := eQ) ty_Q rfl rfl k6 rfl rfl (S := Sx S w.heap.size w1.heap.size) zq_R hS6 fun w3 k3 u3 h3 => .nil (.ret ?_)
      refine .cell Tryz.results27 rfl ty_Q rfl rfl k3 h3 ⟨u3.below x2 (by omega), ?_⟩
      show eQ.R _ _ _ _
      rw [hz (.inr h1)]; exact h3.out
    · refine .geqF rfl rfl rfl h1 (.pick rfl rfl rfl (.nil (.condF rfl (.skip (.seq (.region (.mv rfl rfl (.mv rfl rfl ?_))))))))
      obtain ⟨j, rfl⟩ : ∃ j : Nat, k = j := ⟨k.toNat, by omega⟩
      refine .ixN (i := j) un_V ty_Q rfl rfl hr rfl (getD_get' (z := q0) (by omega)) fun p hp => .ldE ty_Q rfl rfl hp fun e he => ?_
      refine .call _ rfl E_frac_Canonical rfl (frac_Canonical_c (up1.ext e2.size) he (hkr.get hL j).1 hL (by omega)) fun v3 w3 e3 h3 => ?_
      refine .storeA (E := eQ) ty_Q rfl rfl (k6.ext e3) rfl rfl h3 hS6 fun w4 k4 u4 h4 => .nil (.ret ?_)
      refine .cell Tryz.results27 rfl ty_Q rfl rfl k4 h4 ⟨u4.below (x2.trans e3) (by omega), ?_⟩
      have : rmI m i (j : Int) = qval (r.getD j q0) := by rw [hv, if_neg h0]; rfl
      show eQ.R _ _ _ _
      rw [this]; exact h4.out

theorem E_mat_size : Ent Tryz.prog 66 := ent_of Tryz.func66 (by kernel_rfl) rfl
theorem mat_size_c {w : World} {n : Int} : CR Tryz.prog 66 #[.int .i64 n] w (Is (.int .i64 (max 0 (min n 1024)))) := by
  refine enter Tryz.func66 rfl Tryz.ntmps66 rfl ?_
  refine .seq (.region (.asg rfl rfl (.nil (.seq (.region (.mv rfl rfl (.min_ rfl rfl rfl (.max_ rfl rfl rfl (.asg rfl rfl (.nil (.ret ?_)))))))))))
  exact .plain [_] Tryz.results66 ⟨rfl, trivial⟩ ⟨.refl _, rfl⟩
end Go.Proofs.YtgghedhmjhaieaaGreat

namespace Go.Proofs.YtgghedhmjhaieaaGreat
open Go Go.Kx Go.RowKit

theorem ty_FE : tyOf Tryz.prog 63 = some (false, 1) := by kernel_rfl
theorem fld_FL0 : fldOf Tryz.prog 65 0 = some 0 := by kernel_rfl
theorem info_V' : infoOf Tryz.prog 23 = some (.slice none 0 0, 1, 24) := info_V

theorem g_storeC {P : Program} {σ : Env} {w : World} {ty : TypeId} {pos : String} {af : Array Edge} {sz : Nat} {dd : Option Tmp} {gd : Option (Nat × Bool)} {t t' : TypeId} {x y : Operand} {g i o : Nat} {a : Bool} {es : List Value} {v : Value} (hsz : 0 < sz) (ht : tyOf P t = some (a, sz)) (hx : ev σ x = some (.pointer (some ⟨g, o, none⟩))) (hy : ev σ y = some v) (hb : Blk w g t' (cellsOf es).toArray)
    (hes : ∀ e ∈ es, e.cells.size = sz) (hv : v.cells.size = sz) (h1 : ∀ u ∈ v.cells.toList, one1 u = true) (hi : i < es.length) (ho : o = i * sz) :
    Gv P ⟨dd, .store t x y, ty, pos, af, gd⟩ σ w fun _ w' => Blk w' g t' (cellsOf (es.set i v)).toArray ∧ Upd w w' g := by
  subst ho
  have hl := cellsOf_length es hes
  have hle : i * sz + sz ≤ (cellsOf es).toArray.size := by
    rw [List.size_toArray, hl, ← Nat.succ_mul]; exact Nat.mul_le_mul_right _ hi
  refine (g_store ht hx hy hb hv hle h1).mono ?_
  rintro _ w' ⟨hB', u⟩
  rw [cellsOf_set hsz es i v hes hv hi] at hB'
  exact ⟨hB', u⟩

theorem E_matrix : Ent Tryz.prog 51 := ent_of Tryz.func51 (by kernel_rfl) rfl
theorem matrix_c {S : Nat → Prop} {w : World} {f : FuncId} {cap : Array Value} {rows cols : Nat} {g : Nat → Nat → Rat} (up : Up S w) (hr : rows ≤ 1000000000) (hc : cols ≤ 1000000000) (hE : Ent Tryz.prog f)
    (hf : ∀ (W : World) (T : Nat → Prop) (i k : Nat), Below w.heap.size w W → (∀ j, S j → j < w.heap.size → T j) → Up T W → i < rows → k < cols → CR Tryz.prog f ([.int .i64 (i : Nat), .int .i64 (k : Nat)].toArray ++ cap) W (eQ.at T (qc (g i k)))) :
    CR Tryz.prog 51 #[.agg #[.func (.func f) #[] cap], .int .i64 rows, .int .i64 cols] w (eM.at S (tabM rows cols g)) := by
  generalize hfv : Value.func (.func f) #[] cap = fv
  refine enter Tryz.func51 rfl Tryz.ntmps51 rfl ?_
  refine .seq (.region (.box rfl rfl fun w1 b3 n1 => .asg rfl rfl (.nil ?_)))
  obtain ⟨e1, k3, hb3, hs1⟩ := n1
  replace k3 : Blk w1 b3 65 #[fv] := k3
  refine .seq (.region (.mv rfl rfl ?_))
  refine .make_ _ _ un_M info_V rfl (by decide) rfl rfl rfl (Nat.le_refl _) (by omega) (by omega) fun w2 gb n2 => .asg rfl rfl (.nil ?_)
  have f2 : FB eV 23 S w2 gb (List.replicate rows []) := FB.made n2 RL.nil
  obtain ⟨e2, k2, hgb, hs2⟩ := n2
  have x2 := e1.trans e2
  have k3 := k3.ext e2
  generalize hF : (fun i => tab cols (g i)) = F
  refine .mid (α := Unit) (fun _ => [(7, .slice (some ⟨gb, 0, none⟩) rows rows)]) (fun _ W => Below w.heap.size w W ∧ FB eV 23 S W gb ((List.range rows).map F)) ?_ ?_
  · refine .seq (.region (.mv rfl rfl (.len un_M rfl rfl (.mv rfl rfl (.nil ?_)))))
    refine .block (.loop (α := Nat) (fun i => [(7, .slice (some ⟨gb, 0, none⟩) rows rows), (3, .pointer (some ⟨b3, 0, none⟩)), (2, .int .i64 (cols : Nat)), (13, .int .i64 (rows : Nat)), (14, .int .i64 (i : Nat))])
      (fun i W => Below w.heap.size w W ∧ i ≤ rows ∧ FB eV 23 S W gb (fil rows i F []) ∧ Blk W b3 65 #[fv]) (fun i => rows - i) 0 ?_ ?_ ?_)
    · exact look_cons rfl (look_cons rfl (look_cons rfl (look_cons rfl (look_cons rfl look_nil))))
    · exact ⟨x2, Nat.zero_le _, by rw [fil_zero]; exact f2, k3⟩
    · rintro i W ⟨hB, hi, hFB, k3⟩
      have hsz := hB.size
      have hgl := hFB.lt
      have hb3l := k3.lt
      by_cases hlt : i < rows
      · refine .seq (.region (.lssT rfl rfl rfl (by omega) (.nil (.seq (.condT rfl (.skip (.seq (.block (.seq (.region (.mv rfl rfl (.asg rfl rfl (.nil ?_))))))))))))) 
        refine .seq (.region (.mv rfl rfl (.mv rfl rfl (.mv rfl rfl ?_))))
        refine .make_ _ _ un_V info_Q rfl (by decide) rfl rfl rfl (Nat.le_refl _) (by omega) (by omega) fun W1 h n3 => ?_
        have f3 : FB eQ 28 (fun k => S k ∧ k ≠ gb) W1 h (List.replicate cols q0) := FB.made n3 zq_R
        obtain ⟨e3, k3', hh, hs3⟩ := n3
        obtain ⟨es, hBg, hels⟩ := hFB
        have hesz := hels.sz
        have hesl : es.length = rows := by rw [hels.1, fil_length]
        refine .ixB (i := i) un_M ty_V rfl rfl rfl hlt ?_
        refine .gv rfl rfl (g_storeC (i := i) (by decide) ty_V rfl rfl (hBg.ext e3) hesz rfl (by simp [Value.cells, one1]) (by omega) (Nat.zero_add _)) ?_
        rintro _ W2 ⟨hBg2, u2⟩
        refine .nil ?_
        have hB2 : Below w.heap.size w W2 := u2.below (hB.trans (e3.mono hsz)) (by omega)
        have hsz2 : W2.heap.size = W1.heap.size := u2.size
        have f4 : FB eQ 28 (fun k => S k ∧ k ≠ gb) W2 h (List.replicate cols q0) := f3.upd u2 (by omega) (fun h => h.2 rfl)
        have k3 := (k3.ext e3).upd u2 (show b3 ≠ gb by omega)
        have hset : (es.set i (.slice (some ⟨h, 0, none⟩) cols cols))[i]? = some (.slice (some ⟨h, 0, none⟩) cols cols) := by rw [List.getElem?_set_self (by omega)]
        generalize hes' : es.set i (.slice (some ⟨h, 0, none⟩) cols cols) = es' at *
        have hesz' : ∀ e ∈ es', e.cells.size = 1 := fun e he => by
          rw [← hes'] at he
          rcases List.mem_or_eq_of_mem_set he with h | h
          · exact hesz e h
          · rw [h]; rfl
        have hcell : (cellsOf es').toArray[0 + i * 1]? = some (.slice (some ⟨h, 0, none⟩) cols cols) := by
          have := cellsOf_get es' i 0 _ hesz' hset (by decide)
          rw [List.getElem?_toArray, show 0 + i * 1 = i * 1 + 0 by omega, this]; rfl
        refine .seq (.region (.mv rfl rfl (.mv rfl rfl (.ixB (i := i) un_M ty_V rfl rfl rfl hlt (.ld ty_V rfl rfl hBg2 hcell (.len un_V rfl rfl (.mv rfl rfl (.nil ?_))))))))
        have hend : ∀ (W : World), Below w.heap.size w W → Kp (fun k => k ≠ h) W2 W → FB eQ 28 (fun k => S k ∧ k ≠ gb) W h (tab cols (g i)) → FB eV 23 S W gb (fil rows (i + 1) F []) := by
          intro W3 hB3 hK hFB3
          refine ⟨es', hK.blk (show gb ≠ h by omega) hBg2, by rw [← hes', List.length_set, hesl, fil_length], fun j e x he hx => ?_⟩
          by_cases hj : j = i
          · subst hj
            rw [hset] at he
            cases he
            have hxx : x = F j := by
              rw [← fil_set, List.getElem?_set_self (by rw [fil_length]; exact hlt)] at hx
              cases hx; rfl
            rw [hxx, ← hF]
            have := hFB3.toR (c := cols) (hsz := by decide) ⟨up h (by omega), by omega⟩ (by rw [tab_length]; exact Nat.le_refl _) (by rw [tab_length]; omega)
            rw [tab_length] at this; exact this
          · rw [← hes', List.getElem?_set_ne (fun h => hj h.symm)] at he
            rw [← fil_set, List.getElem?_set_ne (fun h => hj h.symm)] at hx
            have h1 := hels.2 j e x he hx
            have h2 := ER.lt eV h1
            have h3 : eV.R (fun k => (S k ∧ k ≠ gb) ∧ k < W.heap.size) W2 e x := (ER.ext eV h2 e3).upd u2 (fun h => h.1.2 rfl)
            have h4 : eV.R (fun k => (S k ∧ k ≠ gb) ∧ k < W.heap.size) W3 e x := eV.keep (fun k c t f hk hc => hK k c t f (show k ≠ h by have := hk.2; omega) hc) h3
            exact eV.mono (fun k _ hk => hk.1) h4
        refine .block (.loop (α := Nat) (fun k => [(7, .slice (some ⟨gb, 0, none⟩) rows rows), (3, .pointer (some ⟨b3, 0, none⟩)), (2, .int .i64 (cols : Nat)), (13, .int .i64 (rows : Nat)), (14, .int .i64 (i : Nat)), (8, .int .i64 (i : Nat)), (26, .int .i64 (cols : Nat)), (27, .int .i64 (k : Nat))])
          (fun k W => Below w.heap.size w W ∧ k ≤ cols ∧ Kp (fun k => k ≠ h) W2 W ∧ W2.heap.size ≤ W.heap.size ∧ FB eQ 28 (fun k => S k ∧ k ≠ gb) W h (fil cols k (fun k => qc (g i k)) q0)) (fun k => cols - k) 0 ?_ ?_ ?_)
        · exact look_cons rfl (look_cons rfl (look_cons rfl (look_cons rfl (look_cons rfl (look_cons rfl (look_cons rfl (look_cons rfl look_nil)))))))
        · exact ⟨hB2, Nat.zero_le _, fun k c t f _ h => h, Nat.le_refl _, by rw [fil_zero]; exact f4⟩
        · rintro k W3 ⟨hB3, hk, hK, hsz3, hFB3⟩
          by_cases hlk : k < cols
          · refine .seq (.region (.lssT rfl rfl rfl (by omega) (.nil (.seq (.condT rfl (.skip (.seq (.block (.seq (.region (.mv rfl rfl (.asg rfl rfl (.nil ?_)))))))))))))
            have hg3 := hK.blk (show gb ≠ h by omega) hBg2
            have k33 := hK.blk (show b3 ≠ h by omega) k3
            refine .held follows true (fun W' => Blk W' gb 23 (cellsOf es').toArray ∧ Blk W' b3 65 #[fv])
              [some _, some _, some _, some (.slice (some ⟨h, 0, none⟩) cols cols), some _, some _, some fv, some _, some _, none, none, none] (by kernel_rfl)
              ⟨fun _ _ => v_mv rfl, fun _ _ => v_mv rfl, fun _ _ => v_ixB (i := i) un_M ty_V rfl rfl hlt, fun _ h => v_ld ty_V rfl h.1 hcell, fun _ _ => v_mv rfl, fun _ _ => v_fa fld_FL0 rfl, fun _ h => v_ld ty_FE rfl h.2 rfl, fun _ _ => v_mv rfl, fun _ _ => v_mv rfl, trivial⟩ ?_
            intro W4 e4 _
            have hB4 : Below w.heap.size w W4 := hB3.trans (e4.mono hB3.size)
            have hs4 := e4.size
            have hcall := hf W4 (fun k => (S k ∧ k ≠ gb) ∧ k ≠ h) i k hB4 (fun j hj hl => ⟨⟨hj, by omega⟩, by omega⟩) (fun j hj => ⟨⟨up j (by omega), by omega⟩, by omega⟩) hlt hlk
            subst hfv
            refine .gv ⟨hg3.ext e4, k33.ext e4⟩ rfl (g_callv [_, _] rfl hE rfl hcall) ?_
            rintro v5 W5 ⟨e5, h5⟩
            have e45 := e4.trans e5
            refine .gv ⟨hg3.ext e45, k33.ext e45⟩ rfl (v_ixB (i := k) un_V ty_Q rfl rfl hlk).gv ?_
            rintro _ _ ⟨rfl, rfl⟩
            refine .gv ⟨hg3.ext e45, k33.ext e45⟩ rfl (g_storeF (E := eQ) (i := k) (by decide) ty_Q rfl rfl (hFB3.ext e45) rfl (by rw [fil_length]; exact hlk) (Nat.zero_add _) h5) ?_
            rintro _ W6 ⟨hFB6, u6⟩
            rw [fil_set (f := fun k => qc (g i k))] at hFB6
            refine .nil (.inl rfl) ?_
            refine .region (.add rfl rfl rfl (.mv rfl rfl (.nil ?_)))
            rw [wI (by omega)]
            have hs6 := u6.size
            have hs5 := e5.size
            refine ⟨rfl, k + 1, look_cons rfl (look_cons rfl (look_cons rfl (look_cons rfl (look_cons rfl (look_cons rfl (look_cons rfl (look_cons rfl look_nil))))))), ⟨u6.below (hB3.trans (e45.mono hB3.size)) (by omega), hlk, ?_, by omega, hFB6⟩, by show cols - (k + 1) < cols - k; omega⟩
            intro j c t f hj hc
            exact (u6.block j hj).trans ((e45.block j (Array.getElem?_eq_some_iff.1 (hK j c t f hj hc)).1).trans (hK j c t f hj hc))
          · refine .seq (.region (.lssF rfl rfl rfl (by omega) (.nil (.seq (.condF rfl (.exit ?_))))))
            have : k = cols := by omega
            subst this
            rw [fil_all] at hFB3
            have hFB4 := hend W3 hB3 hK hFB3
            refine .region (.add rfl rfl rfl (.mv rfl rfl (.nil ?_)))
            rw [wI (by omega)]
            exact ⟨rfl, i + 1, look_cons rfl (look_cons rfl (look_cons rfl (look_cons rfl (look_cons rfl look_nil)))), ⟨hB3, hlt, hFB4, hK.blk (show b3 ≠ h by omega) k3⟩, by show rows - (i + 1) < rows - i; omega⟩
      · refine .seq (.region (.lssF rfl rfl rfl (by omega) (.nil (.seq (.condF rfl (.exit ?_))))))
        have : i = rows := by omega
        subst this
        rw [fil_all] at hFB
        exact ⟨rfl, (), look_cons rfl look_nil, hB, hFB⟩
  · rintro _ W ⟨hB, hFB⟩
    refine .seq (.region (.mv rfl rfl (.asg rfl rfl (.nil (.ret ?_)))))
    have hR := hFB.toR (c := rows) (hsz := by decide) (up gb (by omega)) (by simp) (by simp; omega)
    have hlen : ((List.range rows).map F).length = rows := by simp
    rw [hlen] at hR
    refine .plain [_] Tryz.results51 ⟨rfl, trivial⟩ ⟨hB, ?_⟩
    unfold tabM
    rw [hF]; exact hR
end Go.Proofs.YtgghedhmjhaieaaGreat

namespace Go.Proofs.YtgghedhmjhaieaaGreat
open Go Go.Kx Go.RowKit

theorem ty_FL : tyOf Tryz.prog 65 = some (true, 1) := by kernel_rfl
theorem zero_FL : zeroOf Tryz.prog 65 = some (.agg #[.nilFunc]) := by kernel_rfl
theorem bld_FL {f : FuncId} {cap : Array Value} : bldOf Tryz.prog 65 [(0, .func (.func f) #[] cap)] = some #[.func (.func f) #[] cap] := by kernel_rfl

/-- a matrix read beneath a world -/
theorem eM_at {S T : Nat → Prop} {w W : World} {B : Nat} {vm : Value} {m : List (List QV)} (h : eM.R S w vm m) (hB : Below B w W) (hle : w.heap.size ≤ B) (hT : ∀ k, S k → k < w.heap.size → T k) : eM.R T W vm m := by
  have h1 := ER.lt eM h
  have h2 : eM.R (fun k => S k ∧ k < w.heap.size) W vm m := eM.keep (fun k c t f hk hc => (hB.block k (by have := hk.2; omega)).trans hc) h1
  exact eM.mono (fun k _ hk => hT k hk.1 hk.2) h2

theorem E_Resize1 : Ent Tryz.prog 65 := ent_of Tryz.func65 (by kernel_rfl) rfl
theorem Resize1_c {S : Nat → Prop} {w : World} {vm : Value} {m : List (List QV)} {i k : Int} {b L : Nat} (up : Up S w) (hb : Blk w b 22 #[vm]) (hm : eM.R S w vm m) (hk : mk_ L m) (hL : 1 ≤ L) (hL2 : L ≤ 10000000000) :
    CR Tryz.prog 65 #[.int .i64 i, .int .i64 k, .pointer (some ⟨b, 0, none⟩)] w (eQ.at S (qc (rmI m i k))) := by
  refine enter Tryz.func65 rfl Tryz.ntmps65 rfl ?_
  refine .seq (.region (.alloc rfl zero_Q fun w1 b5 n1 => .nil ?_))
  obtain ⟨e1, k5, hb5, hs1⟩ := n1
  have hS5 : ¬ Sx S w.heap.size w1.heap.size b5 := Sx.no (by omega) (by omega)
  have up1 : Up (Sx S w.heap.size w1.heap.size) w1 := Sx.up up (Nat.le_refl _) e1.size
  have hm1 := (ER.par eM hm w1.heap.size).ext e1
  refine .seq (.region (.ld ty_M rfl rfl (hb.ext e1) rfl (.mv rfl rfl (.mv rfl rfl ?_))))
  refine .call _ rfl E_mat_At rfl (mat_At_c up1 hm1 hk hL hL2) fun v2 w2 e2 h2 => ?_
  refine .storeA (E := eQ) ty_Q rfl rfl (k5.ext e2) rfl rfl h2 hS5 fun w3 k3 u3 h3 => .nil (.ret ?_)
  exact .cell Tryz.results65 rfl ty_Q rfl rfl k3 h3 ⟨u3.below (e1.trans e2) (by omega), h3.out⟩

def cutN (n : Int) : Nat := (max 0 (min n 1024)).toNat
theorem cutN_eq (n : Int) : (max 0 (min n 1024)) = ((cutN n : Nat) : Int) := by unfold cutN; omega
theorem cutN_le (n : Int) : cutN n ≤ 1024 := by unfold cutN; omega
theorem E_mat_Resize : Ent Tryz.prog 31 := ent_of Tryz.func31 (by kernel_rfl) rfl
theorem mat_Resize_c {S : Nat → Prop} {w : World} {vm : Value} {m : List (List QV)} {r c : Int} {L : Nat} (up : Up S w) (hm : eM.R S w vm m) (hk : mk_ L m) (hL : 1 ≤ L) (hL2 : L ≤ 10000000000) :
    CR Tryz.prog 31 #[vm, .int .i64 r, .int .i64 c] w (eM.at S (tabM (cutN r) (cutN c) (rm m))) := by
  obtain ⟨am, cm, hvm, _⟩ := RL.len hm
  have hcells : vm.cells = #[vm] := by rw [hvm]; rfl
  have hr := cutN_le r
  have hc := cutN_le c
  refine enter Tryz.func31 rfl Tryz.ntmps31 rfl ?_
  refine .seq (.region (.box rfl rfl fun w1 b3 n1 => .asg rfl rfl (.nil ?_)))
  obtain ⟨e1, k3, hb3, hs1⟩ := n1
  rw [hcells] at k3
  refine .seq (.region (.mkf [] [_] rfl rfl rfl rfl (.bld _ rfl rfl bld_FL (.alloc rfl zero_FL fun w2 b7 n2 => ?_))))
  obtain ⟨e2, k7, hb7, hs2⟩ := n2
  refine .store ty_FL rfl rfl k7 rfl (by simp [Value.cells]) (by simp [one1, Value.cells]) fun w3 k7 u3 => .nil ?_
  have x3 : Ext w w3 := u3.below (e1.trans e2) (by omega)
  have k3 := (k3.ext e2).upd u3 (show b3 ≠ b7 by omega)
  have hs3 : w3.heap.size = w2.heap.size := u3.size
  replace k7 : Blk w3 b7 65 #[.func (.func 65) #[] #[.pointer (some ⟨b3, 0, none⟩)]] := k7
  refine .seq ?_
  refine .par follows 5 [.inl (.agg #[.func (.func 65) #[] #[.pointer (some ⟨b3, 0, none⟩)]]), .inl _, .inl (.int .i64 (cutN r)), .inl _, .inl (.int .i64 (cutN c))] [[], [], [(11, 1)], [], [(13, 3)]] (by kernel_rfl) ⟨
    fun w e => (v_ldA ty_FL rfl (k7.ext e) rfl).ob, fun w e => (v_mv rfl).ob, fun w e => (g_call _ E_mat_size rfl (by rw [← cutN_eq]; exact mat_size_c)).obIs,
    fun w e => (v_mv rfl).ob, fun w e => (g_call _ E_mat_size rfl (by rw [← cutN_eq]; exact mat_size_c)).obIs, trivial⟩ ?_
  intro w4 e4
  have x4 := x3.trans e4
  refine .call _ rfl E_matrix rfl (matrix_c (S := S) (g := rm m) (up.ext x4.size) (by omega) (by omega) E_Resize1 fun W T i k hB hT hup hi hk' => ?_) fun v5 w5 e5 h5 => .asg rfl rfl (.nil (.ret ?_))
  · have hx4 := x4.size
    have hbl := (k3.ext e4).lt
    have := Resize1_c (i := (i : Int)) (k := (k : Int)) hup ((hB.block b3 hbl).trans (k3.ext e4)) (eM_at (hm.ext x4) hB (Nat.le_refl _) hT) hk hL hL2
    rw [rmI_nat] at this
    exact this
  · exact .plain [_] Tryz.results31 ⟨rfl, trivial⟩ ⟨x4.trans e5, h5⟩

def idn (i k : Nat) : Rat := if i = k then 1 else 0
theorem E_Identity1 : Ent Tryz.prog 70 := ent_of Tryz.func70 (by kernel_rfl) rfl
theorem Identity1_c {S : Nat → Prop} {w : World} {i k : Nat} (up : Up S w) : CR Tryz.prog 70 #[.int .i64 i, .int .i64 k] w (eQ.at S (qc (idn i k))) := by
  refine enter Tryz.func70 rfl Tryz.ntmps70 rfl ?_
  refine .seq (.region (.alloc rfl zero_Q fun w1 b4 n1 => .nil ?_))
  obtain ⟨e1, k4, hb4, hs1⟩ := n1
  have hS4 : ¬ Sx S w.heap.size w1.heap.size b4 := Sx.no (by omega) (by omega)
  have up1 : Up (Sx S w.heap.size w1.heap.size) w1 := Sx.up up (Nat.le_refl _) e1.size
  refine .seq (.seq (.region (.mv rfl rfl (.mv rfl rfl ?_))))
  by_cases h : i = k
  · have hid : idn i k = ((1 : Int) : Rat) := by unfold idn; rw [if_pos h]; rfl
    refine .eqlT rfl rfl rfl (by omega) (.nil (.condT rfl (.seq (.region ?_))))
    refine .call _ rfl E_frac_FromInt64 rfl (frac_FromInt64_c (n := 1) up1 (by omega) (by omega)) fun v2 w2 e2 h2 => ?_
    refine .storeA (E := eQ) ty_Q rfl rfl (k4.ext e2) rfl rfl h2 hS4 fun w3 k3 u3 h3 => .nil (.ret ?_)
    exact .cell Tryz.results70 rfl ty_Q rfl rfl k3 h3 ⟨u3.below (e1.trans e2) (by omega), by rw [hid]; exact h3.out⟩
  · have hid : qc (idn i k) = q0 := by unfold idn; rw [if_neg h, qc_zero]
    refine .eqlF rfl rfl rfl (by omega) (.nil (.condF rfl (.skip (.seq (.region (.bld _ rfl rfl bld_Q0 ?_))))))
    refine .storeA (E := eQ) ty_Q rfl rfl k4 rfl rfl (S := Sx S w.heap.size w1.heap.size) zq_R hS4 fun w3 k3 u3 h3 => .nil (.ret ?_)
    exact .cell Tryz.results70 rfl ty_Q rfl rfl k3 h3 ⟨u3.below e1 (by omega), by rw [hid]; exact h3.out⟩
theorem E_mat_Identity : Ent Tryz.prog 35 := ent_of Tryz.func35 (by kernel_rfl) rfl
theorem mat_Identity_c {S : Nat → Prop} {w : World} {n : Int} (up : Up S w) : CR Tryz.prog 35 #[.int .i64 n] w (eM.at S (tabM (cutN n) (cutN n) idn)) := by
  have hn := cutN_le n
  refine enter Tryz.func35 rfl Tryz.ntmps35 rfl ?_
  refine .seq (.region (.asg rfl rfl (.nil (.seq (.region (.bld _ rfl rfl bld_FL (.alloc rfl zero_FL fun w2 b7 n2 => ?_)))))))
  obtain ⟨e2, k7, hb7, hs2⟩ := n2
  refine .store ty_FL rfl rfl k7 rfl (by simp [Value.cells]) (by simp [one1, Value.cells]) fun w3 k7 u3 => .nil ?_
  have x3 : Ext w w3 := u3.below e2 (by omega)
  replace k7 : Blk w3 b7 65 #[.func (.func 70) #[] #[]] := k7
  refine .seq ?_
  refine .par follows 5 [.inl (.agg #[.func (.func 70) #[] #[]]), .inl _, .inl (.int .i64 (cutN n)), .inl _, .inl (.int .i64 (cutN n))] [[], [], [(6, 1)], [], [(8, 3)]] (by kernel_rfl) ⟨
    fun w e => (v_ldA ty_FL rfl (k7.ext e) rfl).ob, fun w e => (v_mv rfl).ob, fun w e => (g_call _ E_mat_size rfl (by rw [← cutN_eq]; exact mat_size_c)).obIs,
    fun w e => (v_mv rfl).ob, fun w e => (g_call _ E_mat_size rfl (by rw [← cutN_eq]; exact mat_size_c)).obIs, trivial⟩ ?_
  intro w4 e4
  have x4 := x3.trans e4
  refine .call _ rfl E_matrix rfl (matrix_c (S := S) (g := idn) (up.ext x4.size) (by omega) (by omega) E_Identity1 fun W T i k hB hT hup hi hk' => ?_) fun v5 w5 e5 h5 => .asg rfl rfl (.nil (.ret ?_))
  · have := Identity1_c (S := T) (w := W) (i := i) (k := k) hup
    exact this
  exact .plain [_] Tryz.results35 ⟨rfl, trivial⟩ ⟨x4.trans e5, h5⟩

theorem E_Transpose1 : Ent Tryz.prog 69 := ent_of Tryz.func69 (by kernel_rfl) rfl
theorem Transpose1_c {S : Nat → Prop} {w : World} {vm : Value} {m : List (List QV)} {i k : Int} {b L : Nat} (up : Up S w) (hb : Blk w b 22 #[vm]) (hm : eM.R S w vm m) (hk : mk_ L m) (hL : 1 ≤ L) (hL2 : L ≤ 10000000000) :
    CR Tryz.prog 69 #[.int .i64 i, .int .i64 k, .pointer (some ⟨b, 0, none⟩)] w (eQ.at S (qc (rmI m k i))) := by
  refine enter Tryz.func69 rfl Tryz.ntmps69 rfl ?_
  refine .seq (.region (.alloc rfl zero_Q fun w1 b5 n1 => .nil ?_))
  obtain ⟨e1, k5, hb5, hs1⟩ := n1
  have hS5 : ¬ Sx S w.heap.size w1.heap.size b5 := Sx.no (by omega) (by omega)
  have up1 : Up (Sx S w.heap.size w1.heap.size) w1 := Sx.up up (Nat.le_refl _) e1.size
  have hm1 := (ER.par eM hm w1.heap.size).ext e1
  refine .seq (.region (.ld ty_M rfl rfl (hb.ext e1) rfl (.mv rfl rfl (.mv rfl rfl ?_))))
  refine .call _ rfl E_mat_At rfl (mat_At_c up1 hm1 hk hL hL2) fun v2 w2 e2 h2 => ?_
  refine .storeA (E := eQ) ty_Q rfl rfl (k5.ext e2) rfl rfl h2 hS5 fun w3 k3 u3 h3 => .nil (.ret ?_)
  exact .cell Tryz.results69 rfl ty_Q rfl rfl k3 h3 ⟨u3.below (e1.trans e2) (by omega), h3.out⟩
theorem E_mat_Transpose : Ent Tryz.prog 33 := ent_of Tryz.func33 (by kernel_rfl) rfl
theorem mat_Transpose_c {S : Nat → Prop} {w : World} {vm : Value} {m : List (List QV)} {L : Nat} (up : Up S w) (hm : eM.R S w vm m) (hk : mk_ L m) (hL : 1 ≤ L) (hL2 : L ≤ 10000000000) (hr : m.length ≤ 1000000000) (hc : colsOf m ≤ 1000000000) :
    CR Tryz.prog 33 #[vm] w (eM.at S (tabM (colsOf m) m.length fun i k => rm m k i)) := by
  obtain ⟨am, cm, hvm, _⟩ := RL.len hm
  have hcells : vm.cells = #[vm] := by rw [hvm]; rfl
  refine enter Tryz.func33 rfl Tryz.ntmps33 rfl ?_
  refine .seq (.region (.box rfl rfl fun w1 b3 n1 => .asg rfl rfl (.nil ?_)))
  obtain ⟨e1, k3, hb3, hs1⟩ := n1
  rw [hcells] at k3
  refine .seq (.region (.mkf [] [_] rfl rfl rfl rfl (.bld _ rfl rfl bld_FL (.alloc rfl zero_FL fun w2 b7 n2 => ?_))))
  obtain ⟨e2, k7, hb7, hs2⟩ := n2
  refine .store ty_FL rfl rfl k7 rfl (by simp [Value.cells]) (by simp [one1, Value.cells]) fun w3 k7 u3 => .nil ?_
  have x3 : Ext w w3 := u3.below (e1.trans e2) (by omega)
  have k3 := (k3.ext e2).upd u3 (show b3 ≠ b7 by omega)
  have hs3 : w3.heap.size = w2.heap.size := u3.size
  replace k7 : Blk w3 b7 65 #[.func (.func 69) #[] #[.pointer (some ⟨b3, 0, none⟩)]] := k7
  refine .seq ?_
  refine .par follows 5 [.inl (.agg #[.func (.func 69) #[] #[.pointer (some ⟨b3, 0, none⟩)]]), .inl vm, .inl (.int .i64 (colsOf m)), .inl vm, .inl (.int .i64 m.length)] [[], [], [(7, 1)], [], [(9, 3)]] (by kernel_rfl) ⟨
    fun w e => (v_ldA ty_FL rfl (k7.ext e) rfl).ob, fun w e => (v_ld ty_M rfl (k3.ext e) rfl).ob, fun w e => (g_call _ E_mat_Cols rfl (mat_Cols_c ((hm.ext x3).ext e))).obIs,
    fun w e => (v_ld ty_M rfl (k3.ext e) rfl).ob, fun w e => (v_lenR un_M rfl ((hm.ext x3).ext e)).ob, trivial⟩ ?_
  intro w4 e4
  have x4 := x3.trans e4
  refine .call _ rfl E_matrix rfl (matrix_c (S := S) (g := fun i k => rm m k i) (up.ext x4.size) hc hr E_Transpose1 fun W T i k hB hT hup hi hk' => ?_) fun v5 w5 e5 h5 => .asg rfl rfl (.nil (.ret ?_))
  · have hx4 := x4.size
    have hbl := (k3.ext e4).lt
    have := Transpose1_c (i := (i : Int)) (k := (k : Int)) hup ((hB.block b3 hbl).trans (k3.ext e4)) (eM_at (hm.ext x4) hB (Nat.le_refl _) hT) hk hL hL2
    rw [rmI_nat] at this
    exact this
  · exact .plain [_] Tryz.results33 ⟨rfl, trivial⟩ ⟨x4.trans e5, h5⟩
end Go.Proofs.YtgghedhmjhaieaaGreat

namespace Go.Kx
open Go Go.RowKit
/-- a new block, among others -/
@[reducible] def NewP (B : Nat) (t : TypeId) (cs : Array Value) : Value → World → Prop := fun v W => ∃ b, v = .pointer (some ⟨b, 0, none⟩) ∧ B ≤ b ∧ Blk W b t cs
theorem ob_alloc {P : Program} {σ : Env} {w : World} {d : Option Tmp} {ty : TypeId} {pos : String} {af : Array Edge} {g : Option (Nat × Bool)} {t : TypeId} {z : Value} {B : Nat} (hz : zeroOf P t = some z) (hB : B ≤ w.heap.size) :
    Gv P ⟨d, .alloc t, ty, pos, af, g⟩ σ w fun v' w' => Ext w w' ∧ Sp.ok (.inr (NewP B t z.cells)) v' w' :=
  (g_alloc hz).mono fun v' w' ⟨b, hv, hn⟩ => ⟨hn.1, fun w'' e => ⟨b, hv, by have := hn.2.2.1; omega, hn.2.1.ext e⟩⟩
theorem tab_congr {n : Nat} {f g : Nat → Rat} (h : ∀ k, k < n → f k = g k) : tab n f = tab n g := by
  unfold tab
  apply List.map_congr_left
  intro k hk
  rw [h k (List.mem_range.1 hk)]
theorem tabM_congr {n c : Nat} {f g : Nat → Nat → Rat} (h : ∀ i k, i < n → k < c → f i k = g i k) : tabM n c f = tabM n c g := by
  unfold tabM
  apply List.map_congr_left
  intro i hi
  exact tab_congr fun k hk => h i k (List.mem_range.1 hi) hk
end Go.Kx
namespace Go.Proofs.YtgghedhmjhaieaaGreat
open Go Go.Kx Go.RowKit

/-- the block matrix -/
def catM (a b : List (List QV)) (i k : Nat) : Rat := if k < colsOf a then rm a i k else rm b i (k - colsOf a)
theorem E_Concat1 : Ent Tryz.prog 50 := ent_of Tryz.func50 (by kernel_rfl) rfl
theorem Concat1_c {S : Nat → Prop} {w : World} {va vb : Value} {a b : List (List QV)} {i k : Nat} {bl ba bb L : Nat} (up : Up S w) (kl : Blk w bl 3 #[.int .i64 (colsOf a)]) (ka : Blk w ba 22 #[va]) (kb : Blk w bb 22 #[vb]) (ha : eM.R S w va a) (hb : eM.R S w vb b) (hka : mk_ L a) (hkb : mk_ L b) (hL : 1 ≤ L) (hL2 : L ≤ 10000000000) (hc : colsOf a ≤ 1000000000) (hk : k ≤ 2000000000) :
    CR Tryz.prog 50 #[.int .i64 i, .int .i64 k, .pointer (some ⟨bl, 0, none⟩), .pointer (some ⟨ba, 0, none⟩), .pointer (some ⟨bb, 0, none⟩)] w (eQ.at S (qc (catM a b i k))) := by
  refine enter Tryz.func50 rfl Tryz.ntmps50 rfl ?_
  refine .seq (.region (.alloc rfl zero_Q fun w1 b5 n1 => .nil ?_))
  obtain ⟨e1, k5, hb5, hs1⟩ := n1
  have hS5 : ¬ Sx S w.heap.size w1.heap.size b5 := Sx.no (by omega) (by omega)
  have up1 : Up (Sx S w.heap.size w1.heap.size) w1 := Sx.up up (Nat.le_refl _) e1.size
  have ha1 := (ER.par eM ha w1.heap.size).ext e1
  have hb1 := (ER.par eM hb w1.heap.size).ext e1
  refine .seq (.seq (.region (.mv rfl rfl (.ld ty_int rfl rfl (kl.ext e1) rfl ?_))))
  by_cases h : k < colsOf a
  · refine .lssT rfl rfl rfl (by omega) (.nil (.condT rfl (.seq (.region (.ld ty_M rfl rfl (ka.ext e1) rfl (.mv rfl rfl (.mv rfl rfl ?_)))))))
    refine .call _ rfl E_mat_At rfl (mat_At_c up1 ha1 hka hL hL2) fun v2 w2 e2 h2 => ?_
    refine .storeA (E := eQ) ty_Q rfl rfl (k5.ext e2) rfl rfl h2 hS5 fun w3 k3 u3 h3 => .nil (.ret ?_)
    have hv : catM a b i k = rmI a i k := by unfold catM; rw [if_pos h, rmI_nat]
    exact .cell Tryz.results50 rfl ty_Q rfl rfl k3 h3 ⟨u3.below (e1.trans e2) (by omega), by rw [hv]; exact h3.out⟩
  · refine .lssF rfl rfl rfl (by omega) (.nil (.condF rfl (.skip (.seq (.region (.ld ty_M rfl rfl (kb.ext e1) rfl (.mv rfl rfl (.mv rfl rfl (.ld ty_int rfl rfl (kl.ext e1) rfl (.sub rfl rfl rfl ?_))))))))))
    rw [wI (by omega), show (k : Int) - (colsOf a : Int) = ((k - colsOf a : Nat) : Int) by omega]
    refine .call _ rfl E_mat_At rfl (mat_At_c up1 hb1 hkb hL hL2) fun v2 w2 e2 h2 => ?_
    refine .storeA (E := eQ) ty_Q rfl rfl (k5.ext e2) rfl rfl h2 hS5 fun w3 k3 u3 h3 => .nil (.ret ?_)
    have hv : catM a b i k = rmI b i (k - colsOf a : Nat) := by unfold catM; rw [if_neg h, rmI_nat]
    exact .cell Tryz.results50 rfl ty_Q rfl rfl k3 h3 ⟨u3.below (e1.trans e2) (by omega), by rw [hv]; exact h3.out⟩
theorem E_mat_Concat : Ent Tryz.prog 17 := ent_of Tryz.func17 (by kernel_rfl) rfl
theorem mat_Concat_c {S : Nat → Prop} {w : World} {va vb : Value} {a b : List (List QV)} {L : Nat} (up : Up S w) (ha : eM.R S w va a) (hb : eM.R S w vb b) (hka : mk_ L a) (hkb : mk_ L b) (hL : 1 ≤ L) (hL2 : L ≤ 10000000000) (hra : a.length ≤ 100000000) (hrb : b.length ≤ 100000000) (hca : colsOf a ≤ 100000000) (hcb : colsOf b ≤ 100000000) :
    CR Tryz.prog 17 #[va, vb] w (eM.at S (tabM (max a.length b.length) (colsOf a + colsOf b) (catM a b))) := by
  obtain ⟨aa, ca, hva, _⟩ := RL.len ha
  obtain ⟨ab, cb, hvb, _⟩ := RL.len hb
  have hcells : va.cells = #[va] := by rw [hva]; rfl
  have hcells' : vb.cells = #[vb] := by rw [hvb]; rfl
  refine enter Tryz.func17 rfl Tryz.ntmps17 rfl ?_
  refine .seq (.region (.box rfl rfl fun w1 b2 n1 => .box rfl rfl fun w2 b3 n2 => .asg rfl rfl (.nil ?_)))
  obtain ⟨e1, k2, hb2, hs1⟩ := n1
  obtain ⟨e2, k3, hb3, hs2⟩ := n2
  rw [hcells] at k2
  rw [hcells'] at k3
  have x2 := e1.trans e2
  have k2 := k2.ext e2
  refine .seq ?_
  refine .par follows 5 [.inl va, .inl (.int .i64 (colsOf a)), .inl vb, .inl (.int .i64 (colsOf b)), .inr (NewP w2.heap.size 3 #[.int .i64 0])] [[], [(8, 0)], [], [(10, 2)], []] (by kernel_rfl) ⟨
    fun w e => (v_ld ty_M rfl (k2.ext e) rfl).ob,
    fun w e => (g_call _ E_mat_Cols rfl (mat_Cols_c ((ha.ext x2).ext e))).obIs,
    fun w e => (v_ld ty_M rfl (k3.ext e) rfl).ob,
    fun w e => (g_call _ E_mat_Cols rfl (mat_Cols_c ((hb.ext x2).ext e))).obIs,
    fun w e => ob_alloc zero_int e.size, trivial⟩ ?_
  intro w3 e3 x4 hx4
  obtain ⟨b5, rfl, hb5, k5⟩ := hx4
  refine .store ty_int rfl rfl k5 rfl (by simp) (by simp [one1, Value.cells]) fun w4 k5 u4 => .asg rfl rfl (.nil ?_)
  have x3 := x2.trans e3
  have x4 : Ext w w4 := u4.below x3 (by have := x2.size; omega)
  have k2 := (k2.ext e3).upd u4 (show b2 ≠ b5 by omega)
  have k3 := (k3.ext e3).upd u4 (show b3 ≠ b5 by omega)
  replace k5 : Blk w4 b5 3 #[.int .i64 (colsOf a)] := k5
  refine .seq (.region (.mkf [] [_, _, _] rfl rfl rfl rfl (.bld _ rfl rfl bld_FL (.alloc rfl zero_FL fun w5 b7 n5 => ?_))))
  obtain ⟨e5, k7, hb7, hs5⟩ := n5
  refine .store ty_FL rfl rfl k7 rfl (by simp [Value.cells]) (by simp [one1, Value.cells]) fun w6 k7 u6 => .nil ?_
  have hl2 := k2.lt
  have hl3 := k3.lt
  have hl5 := k5.lt
  have x6 : Ext w w6 := u6.below (x4.trans e5) (by have := x4.size; omega)
  have k2 := (k2.ext e5).upd u6 (show b2 ≠ b7 by omega)
  have k3 := (k3.ext e5).upd u6 (show b3 ≠ b7 by omega)
  have k5 := (k5.ext e5).upd u6 (show b5 ≠ b7 by omega)
  refine .seq (.region (.ldA ty_FL rfl rfl k7 rfl (.ld ty_M rfl rfl k2 rfl (.lenR un_M rfl rfl (ha.ext x6) (.ld ty_M rfl rfl k3 rfl (.lenR un_M rfl rfl (hb.ext x6) (.max_ rfl rfl rfl (.ld ty_int rfl rfl k5 rfl (.mv rfl rfl (.add rfl rfl rfl ?_))))))))))
  rw [wI (by omega), show (max (a.length : Int) (b.length : Int)) = ((max a.length b.length : Nat) : Int) by omega, ← Int.natCast_add]
  refine .call _ rfl E_matrix rfl (matrix_c (S := S) (g := catM a b) (f := 50) (cap := #[.pointer (some ⟨b5, 0, none⟩), .pointer (some ⟨b2, 0, none⟩), .pointer (some ⟨b3, 0, none⟩)]) (up.ext x6.size) (by omega) (by omega) E_Concat1 fun W T i k hB hT hup hi hk' => ?_) fun v8 w8 e8 h8 => .asg rfl rfl (.nil (.ret ?_))
  · have := Concat1_c (S := T) (w := W) (i := i) (k := k) hup ((hB.block b5 k5.lt).trans k5) ((hB.block b2 k2.lt).trans k2) ((hB.block b3 k3.lt).trans k3) (eM_at (ha.ext x6) hB (Nat.le_refl _) hT) (eM_at (hb.ext x6) hB (Nat.le_refl _) hT) hka hkb hL hL2 (by omega) (by omega)
    exact this
  · exact .plain [_] Tryz.results17 ⟨rfl, trivial⟩ ⟨x6.trans e8, h8⟩

theorem dot_eq {a b : List QV} : sumN (min a.length b.length) (fun k => rv a k * rv b k) = sumN b.length fun k => rv a k * rv b k := by
  refine (sumN_ext (Nat.min_le_right _ _) fun k h1 h2 => ?_).symm
  rw [rv_out (a := a) (by omega), Rat.zero_mul]
theorem E_mat_MulVec : Ent Tryz.prog 20 := ent_of Tryz.func20 (by kernel_rfl) rfl
theorem mat_MulVec_c {S : Nat → Prop} {w : World} {vm vx : Value} {m : List (List QV)} {x : List QV} {L : Nat} (up : Up S w) (hm : eM.R S w vm m) (hx : eV.R S w vx x) (hkm : mk_ L m) (hkx : vk L x) (hL : 1 ≤ L) (hL2 : L ≤ 1000) (hr : m.length ≤ 1000000) (hl : x.length ≤ 1000000) :
    CR Tryz.prog 20 #[vm, vx] w (eV.at S (tab m.length fun i => sumN x.length fun k => rm m i k * rv x k)) := by
  have hm0 := ER.lt eM hm
  have hx0 := ER.lt eV hx
  have hM : ∀ {W : World}, Below w.heap.size w W → eM.R (fun k => S k ∧ k < w.heap.size) W vm m := fun hB => eM.keep (fun k c t f hk h => (hB.block k hk.2).trans h) hm0
  have hX : ∀ {W : World}, Below w.heap.size w W → eV.R (fun k => S k ∧ k < w.heap.size) W vx x := fun hB => eV.keep (fun k c t f hk h => (hB.block k hk.2).trans h) hx0
  refine enter Tryz.func20 rfl Tryz.ntmps20 rfl ?_
  refine .seq (.region (.asg rfl rfl (.nil (.seq (.region (.mv rfl rfl (.lenR un_M rfl rfl hm ?_)))))))
  refine .make_ _ _ un_V info_Q rfl (by decide) rfl rfl rfl (Nat.le_refl _) (by omega) (by omega) fun w1 g n1 => .asg rfl rfl (.nil ?_)
  have f1 : FB eQ 28 S w1 g (List.replicate m.length q0) := FB.made n1 zq_R
  obtain ⟨e1, k1, hg, hs1⟩ := n1
  generalize hf : (fun i => qc (sumN x.length fun k => rm m i k * rv x k)) = f
  refine .mid (α := Unit) (fun _ => [(5, .slice (some ⟨g, 0, none⟩) m.length m.length)]) (fun _ W => Below w.heap.size w W ∧ FB eQ 28 S W g ((List.range m.length).map f)) ?_ ?_
  · refine .seq (.region (.mv rfl rfl (.lenR un_M rfl rfl (hM e1) (.mv rfl rfl (.nil ?_)))))
    refine .block (.loop (α := Nat) (fun i => [(5, .slice (some ⟨g, 0, none⟩) m.length m.length), (1, vx), (11, vm), (12, .int .i64 (m.length : Nat)), (13, .int .i64 (i : Nat))])
      (fun i W => Below w.heap.size w W ∧ i ≤ m.length ∧ FB eQ 28 S W g (fil m.length i f q0)) (fun i => m.length - i) 0 ?_ ?_ ?_)
    · exact look_cons rfl (look_cons rfl (look_cons rfl (look_cons rfl (look_cons rfl look_nil))))
    · exact ⟨e1, Nat.zero_le _, by rw [fil_zero]; exact f1⟩
    · rintro i W ⟨hB, hi, hF⟩
      have hsz := hB.size
      have hgl := hF.lt
      by_cases hlt : i < m.length
      · refine .seq (.region (.lssT rfl rfl rfl (by omega) (.nil (.seq (.condT rfl (.skip (.seq (.block (.seq (.region (.mv rfl rfl ?_)))))))))))
        refine .ixN (i := i) un_M ty_V rfl rfl (hM hB) rfl (getD_get' (z := []) hlt) fun p hp => .ldE ty_V rfl rfl hp fun e he => ?_
        refine .asg rfl rfl (.asg rfl rfl (.nil (.region (.mv rfl rfl (.mv rfl rfl (.mv rfl rfl (.mv rfl rfl ?_)))))))
        have hT : ∀ k, S k ∧ k < w.heap.size → S k ∧ k ≠ g := fun k hk => ⟨hk.1, by have := hk.2; omega⟩
        refine .call _ rfl E_vec_Dot rfl (vec_Dot_c (S := fun k => S k ∧ k ≠ g) (fun k hk => ⟨up k (by omega), by omega⟩) (eV.mono (fun k _ hk => hT k hk) he) (eV.mono (fun k _ hk => hT k hk) (hX hB)) (by omega) (hkm.get i) hkx hL hL2) fun v2 W2 e2 h2 => ?_
        rw [dot_eq] at h2
        refine .ixB (i := i) un_V ty_Q rfl rfl rfl hlt ?_
        refine .storeF (E := eQ) (i := i) (z := f i) (by decide) ty_Q rfl rfl (hF.ext e2) rfl (by rw [fil_length]; exact hlt) (Nat.zero_add _) (by rw [← hf]; exact h2) fun W3 hF3 u3 => .nil ?_
        rw [fil_set] at hF3
        refine .region (.add rfl rfl rfl (.mv rfl rfl (.nil ?_)))
        rw [wI (by omega)]
        exact ⟨rfl, i + 1, look_cons rfl (look_cons rfl (look_cons rfl (look_cons rfl (look_cons rfl look_nil)))), ⟨u3.below (hB.trans (e2.mono hsz)) (by omega), hlt, hF3⟩, by show m.length - (i + 1) < m.length - i; omega⟩
      · refine .seq (.region (.lssF rfl rfl rfl (by omega) (.nil (.seq (.condF rfl (.exit ?_))))))
        have : i = m.length := by omega
        subst this
        rw [fil_all] at hF
        exact ⟨rfl, (), look_cons rfl look_nil, hB, hF⟩
  · rintro _ W ⟨hB, hF⟩
    refine .seq (.region (.mv rfl rfl (.asg rfl rfl (.nil (.ret ?_)))))
    have hR := hF.toR (c := m.length) (hsz := by decide) (up g (by omega)) (by simp) (by simp; omega)
    have hlen : ((List.range m.length).map f).length = m.length := by simp
    rw [hlen] at hR
    refine .plain [_] Tryz.results20 ⟨rfl, trivial⟩ ⟨hB, ?_⟩
    unfold tab
    rw [hf]; exact hR
end Go.Proofs.YtgghedhmjhaieaaGreat

namespace Go.Proofs.YtgghedhmjhaieaaGreat
open Go Go.Kx Go.RowKit

theorem getD_take {α : Type} {l : List α} {n k : Nat} {z : α} (h : k < n) : ((l.take n).drop 0).getD k z = l.getD k z := by
  rw [List.drop_zero, List.getD_eq_getElem?_getD, List.getD_eq_getElem?_getD, List.getElem?_take, if_pos h]
def vmul (y : List QV) (m : List (List QV)) (k : Nat) : Rat := sumN m.length fun i => rv y i * rm m i k
theorem vmul_eq (y : List QV) (m : List (List QV)) (k : Nat) : sumN (min m.length y.length) (fun i => rv y i * rm m i k) = vmul y m k := by
  refine (sumN_ext (Nat.min_le_left _ _) fun i h1 h2 => ?_).symm
  rw [rv_out (a := y) (by omega), Rat.zero_mul]
theorem E_mat_VecMul : Ent Tryz.prog 22 := ent_of Tryz.func22 (by kernel_rfl) rfl
theorem mat_VecMul_c {S : Nat → Prop} {w : World} {vy vm : Value} {y : List QV} {m : List (List QV)} {L : Nat} (up : Up S w) (hy : eV.R S w vy y) (hm : eM.R S w vm m) (hky : vk L y) (hkm : mk_ L m) (hL : 1 ≤ L) (hL2 : L ≤ 1000) (hl : min m.length y.length ≤ 1000000) (hc : colsOf m ≤ 1000000) :
    CR Tryz.prog 22 #[vy, vm] w (eV.at S (tab (colsOf m) (vmul y m))) := by
  refine enter Tryz.func22 rfl Tryz.ntmps22 rfl ?_
  refine .seq (.region (.asg rfl rfl (.nil (.seq (.region (.mv rfl rfl ?_))))))
  refine .call _ rfl E_mat_Cols rfl (mat_Cols_c hm) fun v0 w0 e0 h0 => ?_
  subst h0
  refine .make_ _ _ un_V info_Q rfl (by decide) rfl rfl rfl (Nat.le_refl _) (by omega) (by omega) fun w1 g n1 => .asg rfl rfl (.nil ?_)
  have f1 : FB eQ 28 S w1 g (List.replicate (colsOf m) q0) := FB.made n1 zq_R
  obtain ⟨e1, k1, hg, hs1⟩ := n1
  have x1 := e0.trans e1
  have r1 := f1.toR (c := colsOf m) (hsz := by decide) (up g (by have := e0.size; omega)) (by simp) (by simp; omega)
  rw [List.length_replicate] at r1
  have hz : List.replicate (colsOf m) q0 = tab (colsOf m) fun k => sumN 0 fun i => rv y i * rm m i k := by
    unfold tab
    rw [← fil_zero (colsOf m) (fun _ => q0), ← fil_all (z := q0)]
    unfold fil
    apply List.map_congr_left
    intro j hj
    simp only [sumN, qc_zero, ite_self]
  rw [hz] at r1
  refine .mid (α := Value) (fun v => [(5, v)]) (fun v W => Ext w W ∧ eV.R S W v (tab (colsOf m) (vmul y m))) ?_ ?_
  · refine .seq (.region (.mv rfl rfl (.mv rfl rfl (.lenR un_M rfl rfl (hm.ext x1) (.mv rfl rfl (.lenR un_V rfl rfl (hy.ext x1) (.min_ rfl rfl rfl ?_)))))))
    rw [show (min (m.length : Int) (y.length : Int)) = ((min m.length y.length : Nat) : Int) by omega]
    generalize hn : min m.length y.length = n at *
    refine .cut 0 n un_M ty_V rfl rfl (hm.ext x1) rfl ⟨_, rfl⟩ (Nat.zero_le _) (by omega) fun vt ht => ?_
    have hlt : ((m.take n).drop 0).length = n := by simp; omega
    refine .lenR un_M rfl rfl ht (.mv rfl rfl (.nil ?_))
    rw [hlt]
    refine .block (.loop (α := Nat × Value) (fun x => [(5, x.2), (0, vy), (17, vt), (18, .int .i64 (n : Nat)), (19, .int .i64 (x.1 : Nat))])
      (fun x W => Ext w1 W ∧ x.1 ≤ n ∧ eV.R S W x.2 (tab (colsOf m) fun k => sumN x.1 fun i => rv y i * rm m i k)) (fun x => n - x.1) (0, .slice (some ⟨g, 0, none⟩) (colsOf m) (colsOf m)) ?_ ?_ ?_)
    · exact look_cons rfl (look_cons rfl (look_cons rfl (look_cons rfl (look_cons rfl look_nil))))
    · exact ⟨.refl _, Nat.zero_le _, r1⟩
    · rintro ⟨i, v⟩ W ⟨hB, hi, hR⟩
      replace hB : Ext w1 W := hB
      replace hi : i ≤ n := hi
      replace hR : eV.R S W v (tab (colsOf m) fun k => sumN i fun i => rv y i * rm m i k) := hR
      have hyW := (hy.ext x1).ext hB
      by_cases hlt' : i < n
      · refine .seq (.region (.lssT rfl rfl rfl (by omega) (.nil (.seq (.condT rfl (.skip (.seq (.block (.seq (.region (.mv rfl rfl ?_)))))))))))
        refine .ixN (i := i) un_M ty_V rfl rfl (ht.ext hB) rfl (getD_get' (z := []) (by omega)) fun p hp => .ldE ty_V rfl rfl hp fun e he => ?_
        rw [getD_take hlt'] at he
        refine .asg rfl rfl (.asg rfl rfl (.nil (.seq (.region (.mv rfl rfl (.mv rfl rfl ?_))))))
        refine .ixN (i := i) un_V ty_Q rfl rfl hyW rfl (getD_get' (z := q0) (by omega)) fun p2 hp2 => .ldE ty_Q rfl rfl hp2 fun q hq => ?_
        refine .call _ rfl E_frac_Sign rfl (frac_Sign_c hq) fun v2 W2 e2 h2 => ?_
        subst h2
        have hB2 := hB.trans e2
        by_cases h0 : rv y i = 0
        · refine .neqF rfl rfl rfl (sgnR_zero.2 h0) (.nil (.condF rfl (.skip (.region (.add rfl rfl rfl (.mv rfl rfl (.nil ?_)))))))
          rw [wI (by omega)]
          refine ⟨rfl, (i + 1, v), look_cons rfl (look_cons rfl (look_cons rfl (look_cons rfl (look_cons rfl look_nil)))), ⟨hB2, hlt', ?_⟩, by show n - (i + 1) < n - i; omega⟩
          have : (tab (colsOf m) fun k => sumN (i + 1) fun i => rv y i * rm m i k) = tab (colsOf m) fun k => sumN i fun i => rv y i * rm m i k :=
            tab_congr fun k _ => by rw [sumN, h0, Rat.zero_mul, Rat.add_zero]
          show eV.R S W2 v (tab (colsOf m) fun k => sumN (i + 1) fun i => rv y i * rm m i k)
          rw [this]; exact hR.ext e2
        · refine .neqT rfl rfl rfl (fun h => h0 (sgnR_zero.1 h)) (.nil (.condT rfl (.region (.mv rfl rfl (.mv rfl rfl ?_)))))
          refine .ixN (i := i) un_V ty_Q rfl rfl (hyW.ext e2) rfl (getD_get' (z := q0) (by omega)) fun p3 hp3 => .ldE ty_Q rfl rfl hp3 fun q' hq' => .mv rfl rfl (.mv rfl rfl ?_)
          have hsz : ∀ k, Rsz (sumN i fun i => rv y i * rm m i k) (1 + i * (L + L + 1)) := fun k => sumN_rsz fun j _ => (hky.rsz hL j).mul (hkm.rsz hL j k)
          have hbig : 1 + i * (L + L + 1) ≤ 5000000000 := by
            have : i * (L + L + 1) ≤ 1000000 * 2001 := Nat.mul_le_mul (by omega) (by omega)
            omega
          have hrow := colsOf_get m i
          refine .call _ rfl E_vec_AddScaled rfl (vec_AddScaled_c (L := 1 + i * (L + L + 1) + L) (up.ext (by have := x1.size; have := hB2.size; omega)) hq' (he.ext e2) (hR.ext e2) (by omega) (by rw [tab_length]; omega)
            ((hky.get hL i).mono (by omega)) ((hkm.get i).mono (by omega)) (vk_tab fun k _ => (hsz k).mono (by omega)) (by omega) (by omega)) fun v3 W3 e3 h3 => ?_
          refine .asg rfl rfl (.nil (.region (.add rfl rfl rfl (.mv rfl rfl (.nil ?_)))))
          rw [wI (by omega)]
          refine ⟨rfl, (i + 1, v3), look_cons rfl (look_cons rfl (look_cons rfl (look_cons rfl (look_cons rfl look_nil)))), ⟨hB2.trans e3, hlt', ?_⟩, by show n - (i + 1) < n - i; omega⟩
          rw [tab_length, Nat.max_eq_right hrow] at h3
          have : (tab (colsOf m) fun k => sumN (i + 1) fun i => rv y i * rm m i k) = tab (colsOf m) fun k => qval (y.getD i q0) * rv (m.getD i []) k + rv (tab (colsOf m) fun k => sumN i fun i => rv y i * rm m i k) k :=
            tab_congr fun k hk => by rw [sumN, rv_tab, if_pos hk, Rat.add_comm]; rfl
          show eV.R S W3 v3 (tab (colsOf m) fun k => sumN (i + 1) fun i => rv y i * rm m i k)
          rw [this]; exact h3
      · refine .seq (.region (.lssF rfl rfl rfl (by omega) (.nil (.seq (.condF rfl (.exit ?_))))))
        have : i = n := by omega
        subst this
        have he : (tab (colsOf m) fun k => sumN i fun i => rv y i * rm m i k) = tab (colsOf m) (vmul y m) := tab_congr fun k _ => by rw [← hn]; exact vmul_eq y m k
        rw [he] at hR
        exact ⟨rfl, v, look_cons rfl look_nil, x1.trans hB, hR⟩
  · rintro v W ⟨hB, hR⟩
    refine .seq (.region (.mv rfl rfl (.asg rfl rfl (.nil (.ret ?_)))))
    exact .plain [_] Tryz.results22 ⟨rfl, trivial⟩ ⟨hB, hR⟩

def mmul (a b : List (List QV)) (i k : Nat) : Rat := sumN b.length fun j => rm a i j * rm b j k
theorem E_mat_Mul : Ent Tryz.prog 11 := ent_of Tryz.func11 (by kernel_rfl) rfl
theorem mat_Mul_c {S : Nat → Prop} {w : World} {va vb : Value} {a b : List (List QV)} {L : Nat} (up : Up S w) (ha : eM.R S w va a) (hb : eM.R S w vb b) (hka : mk_ L a) (hkb : mk_ L b) (hL : 1 ≤ L) (hL2 : L ≤ 1000) (hra : a.length ≤ 1000000) (hrb : b.length ≤ 1000000) (hcb : colsOf b ≤ 1000000) :
    CR Tryz.prog 11 #[va, vb] w (eM.at S (tabM a.length (colsOf b) (mmul a b))) := by
  have ha0 := ER.lt eM ha
  have hb0 := ER.lt eM hb
  have hA : ∀ {W : World}, Below w.heap.size w W → eM.R (fun k => S k ∧ k < w.heap.size) W va a := fun hB => eM.keep (fun k c t f hk h => (hB.block k hk.2).trans h) ha0
  have hBb : ∀ {W : World}, Below w.heap.size w W → eM.R (fun k => S k ∧ k < w.heap.size) W vb b := fun hB => eM.keep (fun k c t f hk h => (hB.block k hk.2).trans h) hb0
  refine enter Tryz.func11 rfl Tryz.ntmps11 rfl ?_
  refine .seq (.region (.asg rfl rfl (.nil (.seq (.region (.mv rfl rfl (.lenR un_M rfl rfl ha ?_)))))))
  refine .make_ _ _ un_M info_V rfl (by decide) rfl rfl rfl (Nat.le_refl _) (by omega) (by omega) fun w1 g n1 => .asg rfl rfl (.nil ?_)
  have f1 : FB eV 23 S w1 g (List.replicate a.length []) := FB.made n1 RL.nil
  obtain ⟨e1, k1, hg, hs1⟩ := n1
  generalize hf : (fun i => tab (colsOf b) (mmul a b i)) = f
  refine .mid (α := Unit) (fun _ => [(5, .slice (some ⟨g, 0, none⟩) a.length a.length)]) (fun _ W => Below w.heap.size w W ∧ FB eV 23 S W g ((List.range a.length).map f)) ?_ ?_
  · refine .seq (.region (.mv rfl rfl (.lenR un_M rfl rfl (hA e1) (.mv rfl rfl (.nil ?_)))))
    refine .block (.loop (α := Nat) (fun i => [(5, .slice (some ⟨g, 0, none⟩) a.length a.length), (1, vb), (11, va), (12, .int .i64 (a.length : Nat)), (13, .int .i64 (i : Nat))])
      (fun i W => Below w.heap.size w W ∧ i ≤ a.length ∧ FB eV 23 S W g (fil a.length i f [])) (fun i => a.length - i) 0 ?_ ?_ ?_)
    · exact look_cons rfl (look_cons rfl (look_cons rfl (look_cons rfl (look_cons rfl look_nil))))
    · exact ⟨e1, Nat.zero_le _, by rw [fil_zero]; exact f1⟩
    · rintro i W ⟨hB, hi, hF⟩
      have hsz := hB.size
      have hgl := hF.lt
      by_cases hlt : i < a.length
      · refine .seq (.region (.lssT rfl rfl rfl (by omega) (.nil (.seq (.condT rfl (.skip (.seq (.block (.seq (.region (.mv rfl rfl ?_)))))))))))
        refine .ixN (i := i) un_M ty_V rfl rfl (hA hB) rfl (getD_get' (z := []) hlt) fun p hp => .ldE ty_V rfl rfl hp fun e he => ?_
        refine .asg rfl rfl (.asg rfl rfl (.nil (.region (.mv rfl rfl (.mv rfl rfl (.mv rfl rfl (.mv rfl rfl ?_)))))))
        have hT : ∀ k, S k ∧ k < w.heap.size → S k ∧ k ≠ g := fun k hk => ⟨hk.1, by have := hk.2; omega⟩
        refine .call _ rfl E_mat_VecMul rfl (mat_VecMul_c (S := fun k => S k ∧ k ≠ g) (fun k hk => ⟨up k (by omega), by omega⟩) (eV.mono (fun k _ hk => hT k hk) he) (eM.mono (fun k _ hk => hT k hk) (hBb hB)) (hka.get i) hkb hL hL2 (by omega) hcb) fun v2 W2 e2 h2 => ?_
        refine .ixB (i := i) un_M ty_V rfl rfl rfl hlt ?_
        refine .storeF (E := eV) (i := i) (z := f i) (by decide) ty_V rfl rfl (hF.ext e2) rfl (by rw [fil_length]; exact hlt) (Nat.zero_add _) (by rw [← hf]; exact h2) fun W3 hF3 u3 => .nil ?_
        rw [fil_set] at hF3
        refine .region (.add rfl rfl rfl (.mv rfl rfl (.nil ?_)))
        rw [wI (by omega)]
        exact ⟨rfl, i + 1, look_cons rfl (look_cons rfl (look_cons rfl (look_cons rfl (look_cons rfl look_nil)))), ⟨u3.below (hB.trans (e2.mono hsz)) (by omega), hlt, hF3⟩, by show a.length - (i + 1) < a.length - i; omega⟩
      · refine .seq (.region (.lssF rfl rfl rfl (by omega) (.nil (.seq (.condF rfl (.exit ?_))))))
        have : i = a.length := by omega
        subst this
        rw [fil_all] at hF
        exact ⟨rfl, (), look_cons rfl look_nil, hB, hF⟩
  · rintro _ W ⟨hB, hF⟩
    refine .seq (.region (.mv rfl rfl (.asg rfl rfl (.nil (.ret ?_)))))
    have hR := hF.toR (c := a.length) (hsz := by decide) (up g (by omega)) (by simp) (by simp; omega)
    have hlen : ((List.range a.length).map f).length = a.length := by simp
    rw [hlen] at hR
    refine .plain [_] Tryz.results11 ⟨rfl, trivial⟩ ⟨hB, ?_⟩
    unfold tabM
    rw [hf]; exact hR
end Go.Proofs.YtgghedhmjhaieaaGreat

namespace Go.Proofs.YtgghedhmjhaieaaGreat
open Go Go.Kx Go.RowKit

theorem E_mat_rowPairs : Ent Tryz.prog 44 := ent_of Tryz.func44 (by kernel_rfl) rfl
theorem mat_rowPairs_c {w : World} {va vb : Value} {n n' c c' : Nat} {a a' : Option Addr} (ha : va = .slice a n c) (hb : vb = .slice a' n' c') : CR Tryz.prog 44 #[va, vb] w (fun v w' => ∃ b1 b2, v = .func (.func 75) #[] #[.pointer (some ⟨b1, 0, none⟩), .pointer (some ⟨b2, 0, none⟩)] ∧
    Blk w' b1 22 #[va] ∧ Blk w' b2 22 #[vb] ∧ w.heap.size ≤ b1 ∧ w.heap.size ≤ b2) := by
  subst ha; subst hb
  refine enter Tryz.func44 rfl Tryz.ntmps44 rfl ?_
  refine .seq (.region ?_)
  refine .box rfl rfl fun w1 b1 n1 => ?_
  obtain ⟨e1, k1, hb1, hs1⟩ := n1
  refine .box rfl rfl fun w2 b2 n2 => .asg rfl rfl (.nil ?_)
  obtain ⟨e2, k2, hb2, hs2⟩ := n2
  refine .seq (.region ?_)
  refine .mkf [] [_, _] rfl rfl rfl rfl (.asg rfl rfl (.nil (.ret ?_)))
  exact .plain [_] Tryz.results44 ⟨rfl, trivial⟩ ⟨e1.trans e2, b1, b2, rfl, k1.ext e2, k2, by omega, by have := e1.size; omega⟩

theorem rowv_nat (es : List Value) (k : Nat) : rowv es (k : Int) = es.getD k nilV := by unfold rowv; rw [if_neg (by omega)]; simp
theorem E_rowPairs1 : Ent Tryz.prog 75 := ent_of Tryz.func75 (by kernel_rfl) rfl
theorem rowPairs1_c {S : Nat → Prop} {a b : List (List QV)} {esa esb : List Value} {va vb : Value} {b1 b2 : Nat} (hla : a.length ≤ 9223372036854775806) (hlb : b.length ≤ 9223372036854775806) : Iter Tryz.prog 75 #[.pointer (some ⟨b1, 0, none⟩), .pointer (some ⟨b2, 0, none⟩)] (max a.length b.length)
    (fun k => [esa.getD k nilV, esb.getD k nilV]) (fun W => Blk W b1 22 #[va] ∧ Blk W b2 22 #[vb] ∧ EsR eV S W va esa a ∧ EsR eV S W vb esb b) := by
  intro l J X stJ stX hF hy W hJ
  have hF0 := hF 0 W hJ
  refine enterG Tryz.func75 rfl Tryz.ntmps75 rfl ?_
  refine .seq (.region (.ld ty_M rfl rfl hF0.1 rfl (.lenR un_M rfl rfl (hF0.2.2.1.toR (hsz := by decide)) (.ld ty_M rfl rfl hF0.2.1 rfl (.lenR un_M rfl rfl (hF0.2.2.2.toR (hsz := by decide)) (.max_ rfl rfl rfl (.mv rfl rfl (.nil ?_))))))))
  refine .block (.loop (α := Nat) (fun k => [(10, .int .i64 (k : Nat)), (9, .int .i64 ((max a.length b.length : Nat) : Int)), (0, .func (.yield l) #[] #[]), (1, .pointer (some ⟨b1, 0, none⟩)), (2, .pointer (some ⟨b2, 0, none⟩))]) (fun k W => J k W ∧ k ≤ max a.length b.length) (fun k => max a.length b.length - k) 0 ?_ ?_ ?_)
  · refine look_cons rfl (look_cons ?_ (look_cons rfl (look_cons rfl (look_cons rfl look_nil))))
    show some (Value.int .i64 (max (a.length : Int) (b.length : Int))) = _
    rw [show (max (a.length : Int) (b.length : Int)) = ((max a.length b.length : Nat) : Int) by omega]
  · exact ⟨hJ, Nat.zero_le _⟩
  · rintro k W ⟨hJ, hk⟩
    have hF := hF k W hJ
    obtain ⟨hB1, hB2, hA, hB⟩ := hF
    by_cases hlt : k < max a.length b.length
    · refine .seq (.region (.lssT rfl rfl rfl (by omega) (.nil (.seq (.condT rfl (.skip ?_))))))
      refine .seq (.block (.seq (.region (.mv rfl rfl (.asg rfl rfl (.nil (.seq ?_)))))))
      refine .par follows 7 [.inl _, .inl va, .inl _, .inl (esa.getD k nilV), .inl vb, .inl _, .inl (esb.getD k nilV)] [[], [], [], [(14, 1), (15, 2)], [], [], [(17, 4), (18, 5)]] (by kernel_rfl) ⟨
        fun w e => (v_mv rfl).ob, fun w e => (v_ld ty_M rfl (hB1.ext e) rfl).ob, fun w e => (v_mv rfl).ob, fun w e => (g_call _ E_mat_row rfl (by rw [← rowv_nat]; exact mat_row_c (hA.ext e))).obIs,
        fun w e => (v_ld ty_M rfl (hB2.ext e) rfl).ob, fun w e => (v_mv rfl).ob, fun w e => (g_call _ E_mat_row rfl (by rw [← rowv_nat]; exact mat_row_c (hB.ext e))).obIs, trivial⟩ ?_
      intro W1 e1
      refine .yld (l := l) [esa.getD k nilV, esb.getD k nilV] (R := fun v w' => (v = .bool true ∧ J (k + 1) w') ∨ (v = .bool false ∧ X w')) rfl rfl rfl ?_ ?_
      · refine YieldAt.mono (hy k _ hlt (stJ _ _ _ hJ e1)) ?_
        rintro e W' (⟨rfl, h⟩ | ⟨rfl, h⟩)
        · exact ⟨_, rfl, .inl ⟨rfl, h⟩⟩
        · exact ⟨_, rfl, .inr ⟨rfl, h⟩⟩
      · rintro v w' (⟨rfl, h⟩ | ⟨rfl, h⟩)
        · refine .not_ rfl rfl (.nil (.condF rfl (.skip (.region (.add rfl rfl rfl (.mv rfl rfl (.nil ?_)))))))
          rw [wI (by omega)]
          exact ⟨rfl, k + 1, look_cons rfl (look_cons rfl (look_cons rfl (look_cons rfl (look_cons rfl look_nil)))), ⟨h, by omega⟩, by omega⟩
        · refine .not_ rfl rfl (.nil (.condT rfl (.ret ?_)))
          exact .plain [] Tryz.results75 trivial (.inr h)
    · refine .seq (.region (.lssF rfl rfl rfl (by omega) (.nil (.seq (.condF rfl (.exit ?_))))))
      refine .plain [] Tryz.results75 trivial ?_
      have : k = max a.length b.length := by omega
      subst this; exact .inl hJ

theorem bsl_M1 {a : Option Addr} {n c : Nat} : bslOf Tryz.prog 22 1 [(0, .slice a n c)] = some (23, #[.slice a n c]) := by kernel_rfl
def addR (a b : List (List QV)) (i : Nat) : List QV := tab (max (a.getD i []).length (b.getD i []).length) fun k => rm a i k + rm b i k
def addM (a b : List (List QV)) : List (List QV) := (List.range (max a.length b.length)).map (addR a b)

structure AdJ (w0 : World) (S : Nat → Prop) (b5 p1 p2 : Nat) (va vb : Value) (L : Nat → List (List QV)) (k : Nat) (W : World) : Prop where
  low : Below w0.heap.size w0 W
  k1 : Blk W p1 22 #[va]
  k2 : Blk W p2 22 #[vb]
  acc : ∃ v, Blk W b5 22 #[v] ∧ OwnL eV 23 w0.heap.size (fun k => S k ∧ k ≠ b5) W v (L k)
theorem AdJ.sft {w0 : World} {S : Nat → Prop} {b5 p1 p2 : Nat} {va vb : Value} {L : Nat → List (List QV)} {k D : Nat} {W W' : World} (h : AdJ w0 S b5 p1 p2 va vb L k W) (hs : Sft D W W') (hD : w0.heap.size ≤ D) : AdJ w0 S b5 p1 p2 va vb L k W' := by
  obtain ⟨v, h1, h2⟩ := h.acc
  exact ⟨h.low.trans (hs.below.mono hD), hs.cells.blk trivial h.k1, hs.cells.blk trivial h.k2, v, hs.cells.blk trivial h1, h2.kp hs.cells⟩

theorem E_mat_Add : Ent Tryz.prog 13 := ent_of Tryz.func13 (by kernel_rfl) rfl
theorem mat_Add_c {S : Nat → Prop} {w : World} {va vb : Value} {a b : List (List QV)} {L : Nat} (up : Up S w) (ha : eM.R S w va a) (hb : eM.R S w vb b) (hka : mk_ L a) (hkb : mk_ L b) (hL : 1 ≤ L) (hL2 : L ≤ 10000000000) (hra : a.length ≤ 1000000) (hrb : b.length ≤ 1000000) (hca : colsOf a ≤ 1000000) (hcb : colsOf b ≤ 1000000) :
    CR Tryz.prog 13 #[va, vb] w (eM.at S (addM a b)) := by
  obtain ⟨aa, ca, hva, _⟩ := RL.len ha
  obtain ⟨ab, cb, hvb, _⟩ := RL.len hb
  obtain ⟨esa, hA⟩ := RL.toEs ha
  obtain ⟨esb, hB⟩ := RL.toEs hb
  have hA0 := hA.mono (S' := fun k => S k ∧ k < w.heap.size) (by decide) (fun k hk hs => ⟨hs, hk⟩)
  have hB0 := hB.mono (S' := fun k => S k ∧ k < w.heap.size) (by decide) (fun k hk hs => ⟨hs, hk⟩)
  have hAB : ∀ {W : World}, Below w.heap.size w W → EsR eV (fun k => S k ∧ k < w.heap.size) W va esa a ∧ EsR eV (fun k => S k ∧ k < w.heap.size) W vb esb b := fun hL => ⟨hA0.keep (fun k c t f hk h => (hL.block k hk.2).trans h), hB0.keep (fun k c t f hk h => (hL.block k hk.2).trans h)⟩
  refine enter Tryz.func13 rfl Tryz.ntmps13 rfl ?_
  refine .seq (.region (.asg rfl rfl (.nil (.seq (.region (.alloc rfl zero_M fun w1 b5 n1 => .nil ?_))))))
  obtain ⟨e1, k5, hb5, hs1⟩ := n1
  replace k5 : Blk w1 b5 22 #[.slice none 0 0] := k5
  refine .seq (.seq (.region (.mv rfl rfl (.mv rfl rfl ?_))))
  refine .call _ rfl E_mat_rowPairs rfl (mat_rowPairs_c hva hvb) fun v2 w2 e2 h2 => .nil ?_
  obtain ⟨p1, p2, rfl, kp1, kp2, hp1, hp2⟩ := h2
  have x2 := e1.trans e2
  refine .block (.rangeA (rowPairs1_c (S := fun k => S k ∧ k < w.heap.size) (a := a) (b := b) (esa := esa) (esb := esb) (va := va) (vb := vb) (by omega) (by omega)) rfl E_rowPairs1 (fun k => rfl) (by decide)
    (AdJ w S b5 p1 p2 va vb fun k => (List.range k).map (addR a b)) (fun _ _ => False) (fun k W W' h hs => h.sft hs x2.size) (fun _ _ _ h _ => h.elim) (fun k W h => ⟨h.k1, h.k2, hAB h.low⟩) ?_ ?_ ?_ (fun _ _ h => h.elim))
  · exact ⟨x2, kp1, kp2, _, k5.ext e2, OwnL.nil⟩
  · intro l k W hk hJ hsz
    refine .seq (.region (.asg rfl rfl (.nil (.region (.asg rfl rfl (.nil ⟨rfl, .refl _, fun W5 hsf hsz5 => ?_⟩))))))
    have hJ5 := hJ.sft hsf x2.size
    obtain ⟨hlow, hp15, hp25, v, h5, ho⟩ := hJ5
    obtain ⟨hA1, hB1⟩ := hAB hlow
    have hxa := hA1.get nilV_R k
    have hxb := hB1.get nilV_R k
    have hlw5 := hlow.size
    have hb5lt := h5.lt
    refine .block (.held follows true (fun W' => Blk W' b5 22 #[v])
      [some v, some (esa.getD k nilV), some (esb.getD k nilV), none, none, none, none] (by kernel_rfl) ⟨fun _ h => v_ld ty_M rfl h rfl, fun _ _ => v_mv rfl, fun _ _ => v_mv rfl, trivial⟩ ?_)
    intro W6 e6 hh6
    have hlow6 : Below w.heap.size w W6 := hlow.trans (e6.mono hlow.size)
    have h5 := h5.ext e6
    have hp15 := hp15.ext e6
    have hp25 := hp25.ext e6
    have ho := ho.ext e6
    have hxa := hxa.ext e6
    have hxb := hxb.ext e6
    have hs6 := e6.size
    obtain ⟨es, ho1, ho2⟩ := id ho
    have hT0 : ∀ k, S k → k < w.heap.size → (S k ∧ k ≠ b5) ∧ v.ownBlock ≠ some k := fun k hk hlt => ⟨⟨hk, by omega⟩, fun h => by have := (ho1.lt k h).1; omega⟩
    have hcall := vec_Add_c (S := fun k => (S k ∧ k ≠ b5) ∧ v.ownBlock ≠ some k) (w := W6) (fun k hk => ⟨⟨up k (by omega), by omega⟩, fun h => by have := (ho1.lt k h).2; omega⟩)
      (eV.mono (fun k _ hk => hT0 k hk.1 hk.2) hxa) (eV.mono (fun k _ hk => hT0 k hk.1 hk.2) hxb) (by have := colsOf_get a k; omega) (by have := colsOf_get b k; omega) (hka.get k) (hkb.get k) hL hL2
    refine .gv h5 rfl (g_call [_, _] E_vec_Add rfl hcall) ?_
    rintro vr W7 ⟨e7, hr⟩
    obtain ⟨ar, cr, hvr, _⟩ := RL.len hr
    generalize hnr : (tab (max (a.getD k []).length (b.getD k []).length) fun j => rv (a.getD k []) j + rv (b.getD k []) j).length = nr at hvr
    subst hvr
    refine .gv (h5.ext e7) rfl (g_bsl _ rfl bsl_M1) ?_
    rintro _ W8 ⟨b8, rfl, n8⟩
    obtain ⟨e8, kb8, hb8, hs8⟩ := n8
    have e78 := e7.trans e8
    have hlow8 : Below w.heap.size w W8 := hlow6.trans (e78.mono hlow6.size)
    have ho8 := ho.ext e78
    refine .gv (h5.ext e78) rfl (g_appL (E := eV) (base := w.heap.size) (n := addR a b k) (e := .slice ar nr cr) (by decide) un_M info_V rfl rfl rfl ho8 kb8 (hr.ext e8) (by simp; omega) (by decide) hlow8.size) ?_
    rintro v9 W9 ⟨ho9, hg9⟩
    have h59 := ho8.gblk hg9 (h5.ext e78) (by decide)
    have hp19 := ho8.gblk hg9 (hp15.ext e78) (by decide)
    have hp29 := ho8.gblk hg9 (hp25.ext e78) (by decide)
    have hlow9 := ho8.below hg9 hlow8 hlow8.size
    have oth9 : Oth W5 W9 := ((Oth.ext e6).trans (Oth.ext e78)).trans (ho8.oth hg9)
    obtain ⟨a9, c9', hv9⟩ := ho9.slice
    refine .gv h59 rfl (g_store ty_M rfl rfl h59 (by rw [hv9]; rfl) (by simp) (by rw [hv9]; simp [one1, Value.cells])) ?_
    rintro _ W10 ⟨k10, u10⟩
    refine .nil (.inl rfl) ?_
    have k10 : Blk W10 b5 22 #[v9] := by rw [hv9] at k10 ⊢; exact k10
    refine ⟨oth9.trans (Oth.upd u10 h59), u10.below hlow9 (by omega), hp19.upd u10 (by omega), hp29.upd u10 (by omega), v9, k10, ?_⟩
    have := ho9.upd u10 h59 (by decide) (fun h => h.2 rfl)
    rw [List.range_succ, List.map_append]
    exact this
  · intro W hJ hD
    obtain ⟨hlow, hp15, hp25, v, h5, ho⟩ := hJ
    refine .seq (.region (.ld ty_M rfl rfl h5 rfl (.asg rfl rfl (.nil (.ret ?_)))))
    refine .mark [_] Tryz.results13 hD ⟨rfl, trivial⟩ ⟨below_put hlow x2.size, (ho.kp (Kp.put hD rfl)).toR up (fun k hk => hk.1)⟩

def eqM (a b : List (List QV)) : Prop := ∀ i k, rm a i k = rm b i k
noncomputable instance (a b : List (List QV)) : Decidable (eqM a b) := Classical.propDecidable _
theorem zero_bool : zeroOf Tryz.prog 4 = some (.bool false) := by kernel_rfl
structure EqJ (w0 : World) (b4 p1 p2 : Nat) (va vb : Value) (a b : List (List QV)) (k : Nat) (W : World) : Prop where
  low : Below w0.heap.size w0 W
  k1 : Blk W p1 22 #[va]
  k2 : Blk W p2 22 #[vb]
  out : Blk W b4 4 #[.bool false]
  eq : ∀ j, j < k → ∀ c, rm a j c = rm b j c
theorem EqJ.sft {w0 : World} {b4 p1 p2 : Nat} {va vb : Value} {a b : List (List QV)} {k D : Nat} {W W' : World} (h : EqJ w0 b4 p1 p2 va vb a b k W) (hs : Sft D W W') (hD : w0.heap.size ≤ D) : EqJ w0 b4 p1 p2 va vb a b k W' :=
  ⟨h.low.trans (hs.below.mono hD), hs.cells.blk trivial h.k1, hs.cells.blk trivial h.k2, hs.cells.blk trivial h.out, h.eq⟩
theorem E_mat_Equal : Ent Tryz.prog 29 := ent_of Tryz.func29 (by kernel_rfl) rfl
theorem mat_Equal_c {S : Nat → Prop} {w : World} {va vb : Value} {a b : List (List QV)} {L : Nat} (up : Up S w) (ha : eM.R S w va a) (hb : eM.R S w vb b) (hka : mk_ L a) (hkb : mk_ L b) (hL : 1 ≤ L) (hL2 : L ≤ 10000000000) (hra : a.length ≤ 1000000) (hrb : b.length ≤ 1000000) (hca : colsOf a ≤ 1000000) (hcb : colsOf b ≤ 1000000) :
    CR Tryz.prog 29 #[va, vb] w (Is (.bool (decide (eqM a b)))) := by
  obtain ⟨aa, ca, hva, _⟩ := RL.len ha
  obtain ⟨ab, cb, hvb, _⟩ := RL.len hb
  obtain ⟨esa, hA⟩ := RL.toEs ha
  obtain ⟨esb, hB⟩ := RL.toEs hb
  have hA0 := hA.mono (S' := fun k => S k ∧ k < w.heap.size) (by decide) (fun k hk hs => ⟨hs, hk⟩)
  have hB0 := hB.mono (S' := fun k => S k ∧ k < w.heap.size) (by decide) (fun k hk hs => ⟨hs, hk⟩)
  have hAB : ∀ {W : World}, Below w.heap.size w W → EsR eV (fun k => S k ∧ k < w.heap.size) W va esa a ∧ EsR eV (fun k => S k ∧ k < w.heap.size) W vb esb b := fun hL => ⟨hA0.keep (fun k c t f hk h => (hL.block k hk.2).trans h), hB0.keep (fun k c t f hk h => (hL.block k hk.2).trans h)⟩
  refine enter Tryz.func29 rfl Tryz.ntmps29 rfl ?_
  refine .seq (.region (.alloc rfl zero_bool fun w1 b4 n1 => .nil ?_))
  obtain ⟨e1, k4, hb4, hs1⟩ := n1
  refine .seq (.seq (.region (.mv rfl rfl (.mv rfl rfl ?_))))
  refine .call _ rfl E_mat_rowPairs rfl (mat_rowPairs_c hva hvb) fun v2 w2 e2 h2 => .nil ?_
  obtain ⟨p1, p2, rfl, kp1, kp2, hp1, hp2⟩ := h2
  have x2 := e1.trans e2
  refine .block (.rangeA (rowPairs1_c (S := fun k => S k ∧ k < w.heap.size) (a := a) (b := b) (esa := esa) (esb := esb) (va := va) (vb := vb) (by omega) (by omega)) rfl E_rowPairs1 (fun k => rfl) (by decide)
    (EqJ w b4 p1 p2 va vb a b) (fun c W => c = .ret ∧ Below w.heap.size w W ∧ Blk W b4 4 #[.bool false] ∧ ¬ eqM a b) (fun k W W' h hs => h.sft hs x2.size)
    (fun c W W' ⟨h1, h2, h3, h4⟩ hs => ⟨h1, h2.trans (hs.below.mono x2.size), hs.cells.blk trivial h3, h4⟩) (fun k W h => ⟨h.k1, h.k2, hAB h.low⟩) ?_ ?_ ?_ ?_)
  · exact ⟨x2, kp1, kp2, k4.ext e2, fun j hj => absurd hj (Nat.not_lt_zero _)⟩
  · intro l k W hk hJ hsz
    refine .seq (.region (.asg rfl rfl (.nil (.region (.asg rfl rfl (.nil ⟨rfl, .refl _, fun W5 hsf hsz5 => ?_⟩))))))
    have hJ5 := hJ.sft hsf x2.size
    obtain ⟨hlow, hp15, hp25, h4, heq⟩ := hJ5
    obtain ⟨hA1, hB1⟩ := hAB hlow
    have hxa : eV.R S W5 _ _ := eV.mono (fun k _ hk => hk.1) (hA1.get nilV_R k)
    have hxb : eV.R S W5 _ _ := eV.mono (fun k _ hk => hk.1) (hB1.get nilV_R k)
    have hlw5 := hlow.size
    refine .block (.seq (.region (.mv rfl rfl (.mv rfl rfl ?_))))
    refine .call _ rfl E_vec_Equal rfl (vec_Equal_c (up.ext hlw5) hxa hxb (by have := colsOf_get a k; omega) (by have := colsOf_get b k; omega) (hka.get k) (hkb.get k) hL hL2) fun v6 W6 e6 h6 => ?_
    subst h6
    have hlow6 : Below w.heap.size w W6 := hlow.trans (e6.mono hlow.size)
    by_cases h0 : eqV (a.getD k []) (b.getD k [])
    · rw [decide_eq_true h0]
      refine .not_ rfl rfl (.nil (.condF rfl (.skip ?_)))
      refine ⟨Oth.ext e6, hlow6, hp15.ext e6, hp25.ext e6, h4.ext e6, fun j hj => ?_⟩
      by_cases e : j = k
      · subst e; exact h0
      · exact heq j (by omega)
    · rw [decide_eq_false h0]
      refine .not_ rfl rfl (.nil (.condT rfl (.seq (.region ?_))))
      refine .store ty_bool rfl rfl (h4.ext e6) rfl (by simp) (by simp [one1, Value.cells]) fun W7 k7 u7 => .nil (.ret ?_)
      exact ⟨(Oth.ext e6).trans (Oth.upd u7 (h4.ext e6)), rfl, u7.below hlow6 (by omega), k7, fun h => h0 (h k)⟩
  · intro W hJ hD
    obtain ⟨hlow, hp15, hp25, h4, heq⟩ := hJ
    refine .seq (.region (.store ty_bool rfl rfl h4 rfl (by simp) (by simp [one1, Value.cells]) fun W2 k2 u2 => .nil (.ret ?_)))
    have hD2 := (Oth.upd u2 h4) _ _ hD rfl
    have k3 := (Kp.put (S := fun _ => True) (o' := .deferred none) hD2 rfl).blk trivial k2
    have hall : eqM a b := fun i k => by
      rcases Nat.lt_or_ge i (max a.length b.length) with h | h
      · exact heq i h k
      · rw [rm_out (by omega), rm_out (by omega)]
    refine .mark [.bool true] Tryz.results29 hD2 ⟨⟨_, rfl, run_loadVar1 ty_bool ((k3.cell 0).trans rfl)⟩, trivial⟩ ⟨below_put (u2.below hlow (by omega)) x2.size, isB ?_⟩
    rw [decide_eq_true hall]
  · rintro c W ⟨rfl, hlow, hx, hne⟩ hD
    refine .ret ?_
    have k3 := (Kp.put (S := fun _ => True) (o' := .deferred none) hD rfl).blk trivial hx
    refine .mark [.bool false] Tryz.results29 hD ⟨⟨_, rfl, run_loadVar1 ty_bool ((k3.cell 0).trans rfl)⟩, trivial⟩ ⟨below_put hlow x2.size, isB ?_⟩
    rw [decide_eq_false hne]
end Go.Proofs.YtgghedhmjhaieaaGreat
