/-
  The laws' Long for vectors and matrices Matrices with their bounds; the algebra of matrices: plain. law 04: MatRing solve: augmented solve: particular solve: NullSpace solve: Solve, Certificate solve: Inverse solve: Det law 05: long, tall; the references Of, Ints; vec.Sign law 05: the numbers of the examples law 05: alive; SolveExamples law 04: MatMatches What is handed in, opened: arguments that are structs or integers.
-/
import Derived.Test.YteghbhdniimjbaaGreatG5
set_option linter.unusedVariables false
namespace Go.Proofs.YteghbhdniimjbaaGreat
open Go Go.Kx Go.RowKit
theorem un_MM : Tryz.prog.underlying 98 = some (.slice 22) := by kernel_rfl
abbrev eMM : ER (List (List (List QV))) := RL eM
theorem mem_lt {α : Type} {l : List α} {j : Nat} {x : α} (h : l[j]? = some x) : j < l.length := by
 rcases Nat.lt_or_ge j l.length with h' | h'
 ·exact h'
 ·rw [List.getElem?_eq_none h'] at h; cases h
theorem eV_vk {S : Nat → Prop} {w : World} {v : Value} {a : List QV} {L : Nat} (h : eV.R S w v a) (hk : ∀ q ∈ a, qok L q) (hL : 1 ≤ L) : vk L a := by
 intro q hq
 obtain ⟨i, hi⟩ := List.mem_iff_getElem?.1 hq
 obtain ⟨es, he, _⟩ := h
 have hlt := mem_lt hi
 obtain ⟨s, t, _, hn, hd⟩ := he.2 i _ q (List.getElem?_eq_getElem (by rw [he.1]; exact hlt)) hi
 exact ⟨hk q hq, rsz_qval (eW_lt hn) (eW_lt hd) (hk q hq) hL⟩
theorem eM_mk {S : Nat → Prop} {w : World} {v : Value} {m : List (List QV)} {L : Nat} (h : eM.R S w v m) (hk : ∀ r ∈ m, ∀ q ∈ r, qok L q) (hL : 1 ≤ L) : mk_ L m := by
 intro r hr
 obtain ⟨i, hi⟩ := List.mem_iff_getElem?.1 hr
 obtain ⟨es, he, _⟩ := h
 have hlt := mem_lt hi
 exact eV_vk (he.2 i _ r (List.getElem?_eq_getElem (by rw [he.1]; exact hlt)) hi) (hk r hr) hL
def okV (r : List QV) : Prop := r.length ≤ 20 ∧ ∀ q ∈ r, qok 6 q
theorem E_law03_Long : Ent Tryz.prog 79 := ent_of Tryz.func79 (by kernel_rfl) rfl
theorem law03_Long_c {S : Nat → Prop} {w : World} {v : Value} {l : List (List QV)} (up : Up S w) (h : eM.R S w v l) : CR Tryz.prog 79 #[v] w (Lng (∀ r ∈ l, okV r)) := by
 obtain ⟨_, _, _, _, hl⟩ := RL.len h
 refine enter Tryz.func79 rfl Tryz.ntmps79 rfl ?_
 refine .seq (.region (.asg rfl rfl (.nil (.seq (.seq (.region (.asg rfl rfl (.nil ?_))))))))
 refine .block (.loop (α := Nat) (fun i => [(0, v), (3, .int .i64 (i : Nat))]) (fun i W => Ext w W ∧ i ≤ l.length ∧ ∀ j r, j < i → l[j]? = some r → okV r) (fun i => l.length - i) 0 ?_ ?_ ?_)
 ·exact look_cons rfl (look_cons rfl look_nil)
 ·exact ⟨.refl _, Nat.zero_le _, fun j r hj => absurd hj (Nat.not_lt_zero _)⟩
 ·rintro i W ⟨hW, hi, hall⟩
  have hW' := h.ext hW
  refine .seq (.seq (.region (.mv rfl rfl (.mv rfl rfl (.lenR un_M rfl rfl hW' ?_)))))
  have htrue : ∀ {σ : Env} {W3 : World}, Ext w W3 → Kx.look σ 2 = some (.bool true) → Leave Tryz.prog Tryz.f79 23 (fun v w' => Ext w w' ∧ Lng (∀ r ∈ l, okV r) v w') σ [] W3 := by
   intro σ W3 hW3 hl
   exact .plain [_] Tryz.results79 ⟨hl, trivial⟩ ⟨hW3, true, rfl, fun h => by cases h⟩
  by_cases hlt : i < l.length
  ·have hyy := List.getElem?_eq_getElem hlt
   generalize l[i] = r at hyy
   refine .lssT rfl rfl rfl (by omega) (.nil (.condT rfl (.skip (.seq (.block (.seq (.region (.mv rfl rfl (.mv rfl rfl ?_)))))))))
   refine .ixN (i := i) un_M ty_V rfl rfl hW' rfl hyy fun p hp => .ldE ty_V rfl rfl hp fun e he => .lenR un_V rfl rfl he ?_
   by_cases hn : r.length ≤ 20
   ·refine .gtrF rfl rfl rfl (by omega) (.mv rfl rfl (.gr rfl rfl rfl rfl (.mv rfl rfl (.gr rfl rfl rfl rfl (.mv rfl rfl (.gr rfl rfl rfl rfl ?_))))))
    refine .ixN (i := i) un_M ty_V rfl rfl hW' rfl hyy fun p' hp' => .gr rfl rfl rfl rfl (.ldE ty_V rfl rfl hp' fun e' he' => .gr rfl rfl rfl rfl ?_)
    refine .call _ rfl E_law02_Long rfl (law02_Long_c (up.ext hW.size) he') fun v2 W2 e2 h2 => ?_
    obtain ⟨b, rfl, hb⟩ := h2
    cases b with
    | true =>
     exact .pick rfl rfl rfl (.nil (.condT rfl (.seq (.region (.asg rfl rfl (.nil (.ret (htrue (hW.trans e2) rfl))))))))
    | false =>
     refine .pick rfl rfl rfl (.nil (.condF rfl (.skip (.region (.mv rfl rfl (.add rfl rfl rfl (.asg rfl rfl (.nil ?_))))))))
     rw [wI (by omega)]
     refine ⟨rfl, i + 1, look_cons rfl (look_cons rfl look_nil), ⟨hW.trans e2, hlt, fun j r' hj hr' => ?_⟩, by show l.length - (i + 1) < l.length - i; omega⟩
     by_cases e : j = i
     ·subst e; rw [hyy] at hr'; cases hr'; exact ⟨hn, hb rfl⟩
     ·exact hall j r' (by omega) hr'
   ·refine .gtrT rfl rfl rfl (by omega) (.mv rfl rfl (.gs rfl rfl rfl rfl rfl (.gs rfl rfl rfl rfl rfl (.gs rfl rfl rfl rfl rfl (.gs rfl rfl rfl rfl rfl (.gs rfl rfl rfl rfl rfl ?_))))))
    exact .pick rfl rfl rfl (.nil (.condT rfl (.seq (.region (.asg rfl rfl (.nil (.ret (htrue hW rfl))))))))
  ·refine .lssF rfl rfl rfl (by omega) (.nil (.condF rfl (.exit (.seq (.region (.asg rfl rfl (.nil (.ret ?_))))))))
   refine .plain [_] Tryz.results79 ⟨rfl, trivial⟩ ⟨hW, false, rfl, fun _ r hr => ?_⟩
   obtain ⟨j, hj⟩ := List.mem_iff_getElem?.1 hr
   exact hall j r (by have := mem_lt hj; omega) hj
def okM (m : List (List QV)) : Prop := m.length ≤ 8 ∧ colsOf m ≤ 8 ∧ ∀ r ∈ m, okV r
theorem E_law04_Long : Ent Tryz.prog 15 := ent_of Tryz.func15 (by kernel_rfl) rfl
theorem law04_Long_c {S : Nat → Prop} {w : World} {v : Value} {l : List (List (List QV))} (up : Up S w) (h : eMM.R S w v l) : CR Tryz.prog 15 #[v] w (Lng (∀ m ∈ l, okM m)) := by
 obtain ⟨_, _, _, _, hl⟩ := RL.len h
 refine enter Tryz.func15 rfl Tryz.ntmps15 rfl ?_
 refine .seq (.region (.asg rfl rfl (.nil (.seq (.seq (.region (.asg rfl rfl (.nil ?_))))))))
 refine .block (.loop (α := Nat) (fun i => [(0, v), (3, .int .i64 (i : Nat))]) (fun i W => Ext w W ∧ i ≤ l.length ∧ ∀ j r, j < i → l[j]? = some r → okM r) (fun i => l.length - i) 0 ?_ ?_ ?_)
 ·exact look_cons rfl (look_cons rfl look_nil)
 ·exact ⟨.refl _, Nat.zero_le _, fun j r hj => absurd hj (Nat.not_lt_zero _)⟩
 ·rintro i W ⟨hW, hi, hall⟩
  have hW' := h.ext hW
  refine .seq (.seq (.region (.mv rfl rfl (.mv rfl rfl (.lenR un_MM rfl rfl hW' ?_)))))
  have htrue : ∀ {σ : Env} {W3 : World}, Ext w W3 → Kx.look σ 2 = some (.bool true) → Leave Tryz.prog Tryz.f15 31 (fun v w' => Ext w w' ∧ Lng (∀ r ∈ l, okM r) v w') σ [] W3 := by
   intro σ W3 hW3 hl
   exact .plain [_] Tryz.results15 ⟨hl, trivial⟩ ⟨hW3, true, rfl, fun h => by cases h⟩
  by_cases hlt : i < l.length
  ·have hyy := List.getElem?_eq_getElem hlt
   generalize l[i] = m at hyy
   refine .lssT rfl rfl rfl (by omega) (.nil (.condT rfl (.skip (.seq (.block (.seq (.region (.mv rfl rfl (.mv rfl rfl ?_)))))))))
   refine .ixN (i := i) un_MM ty_M rfl rfl hW' rfl hyy fun p hp => .ldE ty_M rfl rfl hp fun e he => .lenR un_M rfl rfl he ?_
   by_cases hn : m.length ≤ 8
   ·refine .gtrF rfl rfl rfl (by omega) (.mv rfl rfl (.gr rfl rfl rfl rfl (.mv rfl rfl (.gr rfl rfl rfl rfl (.mv rfl rfl (.gr rfl rfl rfl rfl ?_))))))
    refine .ixN (i := i) un_MM ty_M rfl rfl hW' rfl hyy fun p' hp' => .gr rfl rfl rfl rfl (.ldE ty_M rfl rfl hp' fun e' he' => .gr rfl rfl rfl rfl ?_)
    refine .call _ rfl E_ref04_Cols rfl (ref04_Cols_c he') fun v2 W2 e2 h2 => .gr rfl rfl rfl rfl ?_
    subst h2
    by_cases hc : colsOf m ≤ 8
    ·refine .gtrF rfl rfl rfl (by omega) (.pick rfl rfl rfl (.mv rfl rfl (.gr rfl rfl rfl rfl (.mv rfl rfl (.gr rfl rfl rfl rfl (.mv rfl rfl (.gr rfl rfl rfl rfl ?_)))))))
     have hW2 := hW.trans e2
     refine .ixN (i := i) un_MM ty_M rfl rfl (h.ext hW2) rfl hyy fun p3 hp3 => .gr rfl rfl rfl rfl (.ldE ty_M rfl rfl hp3 fun e3 he3 => .gr rfl rfl rfl rfl ?_)
     refine .call _ rfl E_law03_Long rfl (law03_Long_c (up.ext hW2.size) he3) fun v4 W4 e4 h4 => ?_
     obtain ⟨b, rfl, hb⟩ := h4
     cases b with
     | true =>
      exact .pick rfl rfl rfl (.nil (.condT rfl (.seq (.region (.asg rfl rfl (.nil (.ret (htrue (hW2.trans e4) rfl))))))))
     | false =>
      refine .pick rfl rfl rfl (.nil (.condF rfl (.skip (.region (.mv rfl rfl (.add rfl rfl rfl (.asg rfl rfl (.nil ?_))))))))
      rw [wI (by omega)]
      refine ⟨rfl, i + 1, look_cons rfl (look_cons rfl look_nil), ⟨hW2.trans e4, hlt, fun j r' hj hr' => ?_⟩, by show l.length - (i + 1) < l.length - i; omega⟩
      by_cases e : j = i
      ·subst e; rw [hyy] at hr'; cases hr'; exact ⟨hn, hc, hb rfl⟩
      ·exact hall j r' (by omega) hr'
    ·refine .gtrT rfl rfl rfl (by omega) (.pick rfl rfl rfl (.mv rfl rfl (.gs rfl rfl rfl rfl rfl (.gs rfl rfl rfl rfl rfl (.gs rfl rfl rfl rfl rfl (.gs rfl rfl rfl rfl rfl (.gs rfl rfl rfl rfl rfl ?_)))))))
     exact .pick rfl rfl rfl (.nil (.condT rfl (.seq (.region (.asg rfl rfl (.nil (.ret (htrue (hW.trans e2) rfl))))))))
   ·refine .gtrT rfl rfl rfl (by omega) (.mv rfl rfl (.gs rfl rfl rfl rfl rfl (.gs rfl rfl rfl rfl rfl (.gs rfl rfl rfl rfl rfl (.gs rfl rfl rfl rfl rfl (.gs rfl rfl rfl rfl rfl (.gs rfl rfl rfl rfl rfl ?_)))))))
    refine .pick rfl rfl rfl (.mv rfl rfl (.gs rfl rfl rfl rfl rfl (.gs rfl rfl rfl rfl rfl (.gs rfl rfl rfl rfl rfl (.gs rfl rfl rfl rfl rfl (.gs rfl rfl rfl rfl rfl ?_))))))
    exact .pick rfl rfl rfl (.nil (.condT rfl (.seq (.region (.asg rfl rfl (.nil (.ret (htrue hW rfl))))))))
  ·refine .lssF rfl rfl rfl (by omega) (.nil (.condF rfl (.exit (.seq (.region (.asg rfl rfl (.nil (.ret ?_))))))))
   refine .plain [_] Tryz.results15 ⟨rfl, trivial⟩ ⟨hW, false, rfl, fun _ r hr => ?_⟩
   obtain ⟨j, hj⟩ := List.mem_iff_getElem?.1 hr
   exact hall j r (by have := mem_lt hj; omega) hj
end Go.Proofs.YteghbhdniimjbaaGreat

namespace Go.Kx
open Go Go.RowKit
end Go.Kx
namespace Go.Proofs.YteghbhdniimjbaaGreat
open Go Go.Kx Go.RowKit
structure MR (W : World) (v : Value) (n c L : Nat) (m : List (List QV)) : Prop where
 r : eM.R (fun _ => True) W v m
 hn : m.length ≤ n
 hc : colsOf m ≤ c
 hk : mk_ L m
structure VR (W : World) (v : Value) (n L : Nat) (a : List QV) : Prop where
 r : eV.R (fun _ => True) W v a
 hn : a.length ≤ n
 hk : vk L a
section
variable {W W' : World} {v va vb : Value} {n c n' c' L L' : Nat} {a b m : List (List QV)} {x y : List QV}
theorem MR.ext (h : MR W v n c L m) (e : Ext W W') : MR W' v n c L m := ⟨h.r.ext e, h.hn, h.hc, h.hk⟩
theorem VR.ext (h : VR W v n L x) (e : Ext W W') : VR W' v n L x := ⟨h.r.ext e, h.hn, h.hk⟩
theorem upT {W : World} : Up (fun _ => True) W := fun _ _ => trivial
end
/-- a matrix that is not long -/
theorem okM.mr {W : World} {v : Value} {m : List (List QV)} (h : okM m) (hr : eM.R (fun _ => True) W v m) : MR W v 8 8 6 m :=
 ⟨hr, h.1, h.2.1, eM_mk hr (fun r hr => (h.2.2 r hr).2) (by decide)⟩
theorem okV.vr {W : World} {v : Value} {a : List QV} (h : okV a) (hr : eV.R (fun _ => True) W v a) : VR W v 20 6 a := ⟨hr, h.1, eV_vk hr h.2 (by decide)⟩
end Go.Proofs.YteghbhdniimjbaaGreat

namespace Go.Proofs.YteghbhdniimjbaaGreat
open Go Go.Kx Go.RowKit
theorem bsl_MM2 {a a' : Option Addr} {n c n' c' : Nat} : bslOf Tryz.prog 98 2 [(0, .slice a n c), (1, .slice a' n' c')] = some (22, #[.slice a n c, .slice a' n' c']) := by kernel_rfl
/-- slices just laid in a row -/
theorem eS_new {α : Type} {E : ER α} {hsz : 0 < E.sz} {S : Nat → Prop} {w w' : World} {b : Nat} {t : TypeId} {cs : Array Value} {n : Nat} (vs : List Value) (ls : List (List α)) (hn : New w w' b t cs) (up : Up S w) (hcs : cs = vs.toArray) (hl : ls.length = n) (hm : n ≤ 1000) (h : Els (RL E hsz) S w vs ls) :
  (RL (RL E hsz) (show 0 < 1 by decide)).R S w' (.slice (some ⟨b, 0, none⟩) n n) ls := by
 subst hl
 refine RL.ofBlk (es := vs) hn.2.1 (up b (by have := hn.2.2.1; omega)) (h.ext hn.1) (fun j u hu => ?_) (Nat.le_refl _) (by omega)
 rw [hcs]
 have hv : ∀ v ∈ vs, v.cells = #[v] := by
  intro v hv
  obtain ⟨i, hi⟩ := List.mem_iff_getElem?.1 hv
  have hlt := mem_lt hi
  obtain ⟨a, c, rfl, _⟩ := RL.len (h.2 i v _ hi (List.getElem?_eq_getElem (by rw [← h.1]; exact hlt)))
  rfl
 have : cellsOf vs = vs := by
  clear h hcs hu
  induction vs with
  | nil => rfl
  | cons v vs ih => rw [cellsOf, List.flatMap_cons, hv v (by simp), ← cellsOf, ih fun u hu => hv u (by simp [hu])]; rfl
 rw [this] at hu
 simpa using hu
end Go.Proofs.YteghbhdniimjbaaGreat

namespace Go.Kx
open Go Go.RowKit
end Go.Kx
namespace Go.Proofs.YteghbhdniimjbaaGreat
open Go Go.Kx Go.RowKit
end Go.Proofs.YteghbhdniimjbaaGreat

namespace Go.Kx
open Go Go.RowKit
/-- the solution at the pivots, up to the i-th -/
def partTo (g : RM) (p : List Nat) (C i : Nat) : Nat → Rat := fun c => sumN i fun j => if p.getD j 0 = c then g j C else 0
end Go.Kx
namespace Go.Proofs.YteghbhdniimjbaaGreat
open Go Go.Kx Go.RowKit
/-- while the solution is filled -/
structure ParJ (w0 : World) (T : Nat → Prop) (b4 b5 b6 p1 p2 g C : Nat) (vr vp : Value) (es : List Value) (A : List (List QV)) (k : Nat) (W : World) : Prop where
 low : Below w0.heap.size w0 W
 k4 : Blk W b4 42 #[.slice (some ⟨g, 0, none⟩) C C]
 k5 : Blk W b5 4 #[.bool false]
 k6 : Blk W b6 3 #[.int .i64 (C : Nat)]
 kp1 : Blk W p1 22 #[vr]
 kp2 : Blk W p2 41 #[vp]
 x : FB eQ 32 T W g (tab C (partTo (redF A) (redP A) C k))
 r : EsR eV T W vr es (redM A)
 p : eI.R T W vp (pInts (redP A))
 no : ∀ j, j < k → (redP A).getD j 0 ≠ C
theorem ParJ.sft {w0 : World} {T : Nat → Prop} {b4 b5 b6 p1 p2 g C : Nat} {vr vp : Value} {es : List Value} {A : List (List QV)} {k D : Nat} {W W' : World} (h : ParJ w0 T b4 b5 b6 p1 p2 g C vr vp es A k W) (hs : Sft D W W') (hD : w0.heap.size ≤ D) : ParJ w0 T b4 b5 b6 p1 p2 g C vr vp es A k W' :=
 ⟨h.low.trans (hs.below.mono hD), hs.cells.blk trivial h.k4, hs.cells.blk trivial h.k5, hs.cells.blk trivial h.k6, hs.cells.blk trivial h.kp1, hs.cells.blk trivial h.kp2, h.x.kp hs.cells, h.r.keep (fun k c t f _ hc => hs.cells k c t f trivial hc), eI.keep (fun k c t f _ hc => hs.cells k c t f trivial hc) h.p, h.no⟩
end Go.Proofs.YteghbhdniimjbaaGreat

namespace Go.Kx
open Go Go.RowKit
end Go.Kx
namespace Go.Proofs.YteghbhdniimjbaaGreat
open Go Go.Kx Go.RowKit
end Go.Proofs.YteghbhdniimjbaaGreat

namespace Go.Proofs.YteghbhdniimjbaaGreat
open Go Go.Kx Go.RowKit
end Go.Proofs.YteghbhdniimjbaaGreat

namespace Go.Kx
open Go Go.RowKit
end Go.Kx
namespace Go.Proofs.YteghbhdniimjbaaGreat
open Go Go.Kx Go.RowKit
end Go.Proofs.YteghbhdniimjbaaGreat

namespace Go.Proofs.YteghbhdniimjbaaGreat
open Go Go.Kx Go.RowKit
end Go.Proofs.YteghbhdniimjbaaGreat

namespace Go.Proofs.YteghbhdniimjbaaGreat
open Go Go.Kx Go.RowKit
end Go.Proofs.YteghbhdniimjbaaGreat

namespace Go.Proofs.YteghbhdniimjbaaGreat
open Go Go.Kx Go.RowKit
end Go.Proofs.YteghbhdniimjbaaGreat

namespace Go.Proofs.YteghbhdniimjbaaGreat
open Go Go.Kx Go.RowKit
theorem isM_t {w : World} {va vb : Value} {a b : List (List QV)} (ha : eM.R (fun _ => True) w va a) (hb : eM.R (fun _ => True) w vb b) (h : a = b) : CR Tryz.prog 25 #[va, vb] w (Is (.bool true)) := by
 have := ref04_Is_c ha hb
 rwa [same_true h] at this
theorem isQ_t {w : World} {va vb : Value} {a b : QV} (ha : eQ.R (fun _ => True) w va a) (hb : eQ.R (fun _ => True) w vb b) (h : a = b) : CR Tryz.prog 20 #[va, vb] w (Is (.bool true)) := by
 have := ref02_Is_c ha hb
 rwa [same_true h] at this
end Go.Proofs.YteghbhdniimjbaaGreat

namespace Go.Proofs.YteghbhdniimjbaaGreat
open Go Go.Kx Go.RowKit
theorem okM_own' {m : List (List QV)} (h : okM m) : ∀ r ∈ m, ∀ q ∈ r, qok 1000000000 q := fun r hr q hq => ((h.2.2 r hr).2 q hq).mono (by omega)
theorem law04_MatMatches_c {w : World} {va vb : Value} {a b : List (List QV)} {i k r c : Int} (ha : eM.R (fun _ => True) w va a) (hb : eM.R (fun _ => True) w vb b) :
  CR Tryz.prog 3 #[va, vb, .int .i64 i, .int .i64 k, .int .i64 r, .int .i64 c] w (Is (.bool true)) := by
 obtain ⟨aa, ca, hva, _⟩ := RL.len ha
 obtain ⟨ab, cb, hvb, _⟩ := RL.len hb
 have hels : Els eM (fun _ => True) w [va, vb] [a, b] := Els.snoc (Els.snoc Els.nil ha) hb
 refine enter Tryz.func3 rfl Tryz.ntmps3 rfl ?_
 refine .seq (.region (.asg rfl rfl (.nil ?_)))
 have hend : ∀ {W : World} {σ : Env}, Ext w W → Leave Tryz.prog Tryz.f3 87 (fun v w' => Ext w w' ∧ Is (.bool true) v w') ((12, .bool true) :: σ) [] W := fun h => .plain [_] Tryz.results3 ⟨rfl, trivial⟩ ⟨h, rfl⟩
 refine .mid (α := Unit) (fun _ => [(0, va), (1, vb), (2, .int .i64 i), (3, .int .i64 k), (4, .int .i64 r), (5, .int .i64 c)]) (fun _ W => Ext w W ∧ okM a ∧ okM b) ?_ ?_
 ·refine .seq (.region (.mv rfl rfl (.mv rfl rfl ?_)))
  refine .bsl _ rfl rfl (by rw [hva, hvb]; exact bsl_MM2) fun w2 b2 n2 => ?_
  have hmm : eMM.R (fun _ => True) w2 (.slice (some ⟨b2, 0, none⟩) 2 2) [a, b] := eS_new [va, vb] [a, b] n2 upT (by rw [hva, hvb]) rfl (by decide) hels
  refine .call _ rfl E_law04_Long rfl (law04_Long_c upT hmm) fun v3 w3 e3 h3 => .mv rfl rfl ?_
  obtain ⟨bb, rfl, hlong⟩ := h3
  have x3 := n2.1.trans e3
  cases bb with
  | true =>
   refine .gs rfl rfl rfl rfl rfl (.gs rfl rfl rfl rfl rfl (.pick rfl rfl rfl (.mv rfl rfl (.gs rfl rfl rfl rfl rfl (.gs rfl rfl rfl rfl rfl (.pick rfl rfl rfl (.nil (.condT rfl (.seq (.region ?_))))))))))
   refine .call _ rfl E_law04_alive rfl law04_alive_c fun v4 w4 e4 h4 => ?_
   subst h4
   exact .asg rfl rfl (.nil (.ret (hend (x3.trans e4))))
  | false =>
  by_cases hr : 40 < r
  ·refine .gr rfl rfl rfl rfl (.mv rfl rfl (.gr rfl rfl rfl rfl (.gtrT rfl rfl rfl hr (.pick rfl rfl rfl (.mv rfl rfl (.gs rfl rfl rfl rfl rfl (.gs rfl rfl rfl rfl rfl (.pick rfl rfl rfl (.nil (.condT rfl (.seq (.region ?_))))))))))))
   refine .call _ rfl E_law04_alive rfl law04_alive_c fun v4 w4 e4 h4 => ?_
   subst h4
   exact .asg rfl rfl (.nil (.ret (hend (x3.trans e4))))
  by_cases hc : 40 < c
  ·refine .gr rfl rfl rfl rfl (.mv rfl rfl (.gr rfl rfl rfl rfl (.gtrF rfl rfl rfl (by omega) (.pick rfl rfl rfl (.mv rfl rfl (.gr rfl rfl rfl rfl (.mv rfl rfl (.gr rfl rfl rfl rfl (.gtrT rfl rfl rfl hc (.pick rfl rfl rfl (.nil (.condT rfl (.seq (.region ?_))))))))))))))
   refine .call _ rfl E_law04_alive rfl law04_alive_c fun v4 w4 e4 h4 => ?_
   subst h4
   exact .asg rfl rfl (.nil (.ret (hend (x3.trans e4))))
  refine .gr rfl rfl rfl rfl (.mv rfl rfl (.gr rfl rfl rfl rfl (.gtrF rfl rfl rfl (by omega) (.pick rfl rfl rfl (.mv rfl rfl (.gr rfl rfl rfl rfl (.mv rfl rfl (.gr rfl rfl rfl rfl (.gtrF rfl rfl rfl (by omega) (.pick rfl rfl rfl (.nil (.condF rfl (.skip ?_)))))))))))))
  exact ⟨rfl, (), look_cons rfl (look_cons rfl (look_cons rfl (look_cons rfl (look_cons rfl (look_cons rfl (look_nil)))))), x3, hlong rfl a (by simp), hlong rfl b (by simp)⟩
 rintro _ W ⟨hW, oa, ob⟩
 refine .seq (.region (.mv rfl rfl ?_))
 refine .call _ rfl E_law04_Own rfl (law04_Own_c upT (ER.ext eM ha hW) (okM_own' oa) (Nat.le_trans oa.1 (by decide)) (Nat.le_trans oa.2.1 (by decide))) fun vm w3 e3 hm => .asg rfl rfl (.nil ?_)
 replace hm : eM.R (fun _ => True) w3 vm a := hm
 have x3 := hW.trans e3
 have hA := ER.ext eM ha x3
 have hB := ER.ext eM hb x3
 have ka := (oa.mr hA).hk
 have kb := (ob.mr hB).hk
 have la := oa.1
 have lb := ob.1
 have ca' := oa.2.1
 have cb' := ob.2.1
 refine .seq (.seq (.region ?_))
 refine .mv rfl rfl (.call _ rfl E_mat_Cols rfl (mat_Cols_c hm) fun v1 u1 f1 h1 => ?_)
 subst h1
 refine .mv rfl rfl (.call _ rfl E_ref04_Cols rfl (ref04_Cols_c (ER.ext eM hA f1)) fun v2 u2 f2 h2 => ?_)
 subst h2
 refine .neqF rfl rfl rfl rfl (.mv rfl rfl (.gr rfl rfl rfl rfl (.mv rfl rfl (.gr rfl rfl rfl rfl (.mv rfl rfl (.gr rfl rfl rfl rfl (.mv rfl rfl (.gr rfl rfl rfl rfl (.call _ rfl E_mat_At rfl (mat_At_c (L := 6) upT (ER.ext eM hm (f1.trans f2)) ka (by decide) (by decide)) fun v3 u3 f3 h3 => ?_)))))))))
 have y3 := (f1.trans f2).trans f3
 refine .gr rfl rfl rfl rfl (.mv rfl rfl (.gr rfl rfl rfl rfl (.mv rfl rfl (.gr rfl rfl rfl rfl (.mv rfl rfl (.gr rfl rfl rfl rfl (.call _ rfl E_ref04_At rfl (ref04_At_c (L := 6) upT (ER.ext eM hA y3) ka (by decide) (by decide)) fun v4 u4 f4 h4 => ?_)))))))
 have y4 := y3.trans f4
 refine .gr rfl rfl rfl rfl (.call _ rfl E_ref02_Is rfl (isQ_t (ER.ext eQ h3 f4) h4 rfl) fun v5 u5 f5 h5 => ?_)
 subst h5
 have y5 := y4.trans f5
 refine .gr rfl rfl rfl rfl (.not_ rfl rfl (.pick rfl rfl rfl (.mv rfl rfl (.gr rfl rfl rfl rfl (.mv rfl rfl (.gr rfl rfl rfl rfl (.mv rfl rfl (.gr rfl rfl rfl rfl (.call _ rfl E_mat_Equal rfl (mat_Equal_c (L := 6) upT (ER.ext eM hm y5) (ER.ext eM hB y5) ka kb (by decide) (by decide) (by omega) (by omega) (by omega) (by omega)) fun v6 u6 f6 h6 => ?_)))))))))
 subst h6
 have y6 := y5.trans f6
 refine .gr rfl rfl rfl rfl (.mv rfl rfl (.gr rfl rfl rfl rfl (.mv rfl rfl (.gr rfl rfl rfl rfl (.call _ rfl E_ref04_Same rfl (ref04_Same_c (L := 6) upT (ER.ext eM hA y6) (ER.ext eM hB y6) ka kb (by decide) (by decide)) fun v7 u7 f7 h7 => ?_)))))
 subst h7
 have y7 := y6.trans f7
 refine .gr rfl rfl rfl rfl (.neqB un_bool rfl rfl rfl ?_)
 rw [bne_self_eq_false]
 refine .pick rfl rfl rfl (.mv rfl rfl (.gr rfl rfl rfl rfl (.mv rfl rfl (.gr rfl rfl rfl rfl (.mv rfl rfl (.gr rfl rfl rfl rfl (.mv rfl rfl (.gr rfl rfl rfl rfl (.call _ rfl E_mat_Resize rfl (mat_Resize_c (L := 6) upT (ER.ext eM hm y7) ka (by decide) (by decide)) fun v8 u8 f8 h8 => ?_)))))))))
 have y8 := y7.trans f8
 refine .gr rfl rfl rfl rfl (.mv rfl rfl (.gr rfl rfl rfl rfl (.mv rfl rfl (.gr rfl rfl rfl rfl (.mv rfl rfl (.gr rfl rfl rfl rfl (.call _ rfl E_ref04_Fit rfl (ref04_Fit_c (L := 6) upT (ER.ext eM hA y8) ka (by decide) (by decide)) fun v9 u9 f9 h9 => ?_)))))))
 have y9 := y8.trans f9
 have h9 := h9.toR (S := fun _ => True) (hsz := by decide) (fun _ _ => trivial) (fun _ h => h)
 refine .gr rfl rfl rfl rfl (.call _ rfl E_ref04_Is rfl (isM_t (ER.ext eM h8 f9) h9 rfl) fun v10 u10 f10 h10 => ?_)
 subst h10
 have y10 := y9.trans f10
 refine .gr rfl rfl rfl rfl (.not_ rfl rfl (.pick rfl rfl rfl (.nil (.condF rfl (.skip (.seq (.region ?_)))))))
 refine .mv rfl rfl (.call _ rfl E_mat_Transpose rfl (mat_Transpose_c (L := 6) upT (ER.ext eM hm y10) ka (by decide) (by decide) (by omega) (by omega)) fun v11 u11 f11 h11 => ?_)
 have y11 := y10.trans f11
 refine .mv rfl rfl (.call _ rfl E_ref04_Turn rfl (ref04_Turn_c (L := 6) upT (ER.ext eM hA y11) ka (by decide) (by decide) (by omega) (by omega)) fun v12 u12 f12 h12 => ?_)
 have y12 := y11.trans f12
 refine .call _ rfl E_ref04_Is rfl (isM_t (ER.ext eM h11 f12) h12 rfl) fun v13 u13 f13 h13 => ?_
 subst h13
 have y13 := y12.trans f13
 refine .mv rfl rfl (.gr rfl rfl rfl rfl (.mv rfl rfl (.gr rfl rfl rfl rfl (.call _ rfl E_mat_Identity rfl (mat_Identity_c upT) fun v14 u14 f14 h14 => ?_))))
 have y14 := y13.trans f14
 refine .gr rfl rfl rfl rfl (.mv rfl rfl (.gr rfl rfl rfl rfl (.call _ rfl E_ref04_Unit rfl (ref04_Unit_c upT) fun v15 u15 f15 h15 => ?_)))
 have y15 := y14.trans f15
 refine .gr rfl rfl rfl rfl (.call _ rfl E_ref04_Is rfl (isM_t (ER.ext eM h14 f15) h15 rfl) fun v16 u16 f16 h16 => ?_)
 subst h16
 have y16 := y15.trans f16
 refine .pick rfl rfl rfl (.mv rfl rfl (.gr rfl rfl rfl rfl (.mv rfl rfl (.gr rfl rfl rfl rfl (.mv rfl rfl (.gr rfl rfl rfl rfl (.call _ rfl E_ref04_Is rfl (isM_t (ER.ext eM hm y16) (ER.ext eM hA y16) rfl) fun v17 u17 f17 h17 => ?_)))))))
 subst h17
 have y17 := y16.trans f17
 refine .pick rfl rfl rfl (.mv rfl rfl (.gr rfl rfl rfl rfl (.call _ rfl E_law04_alive rfl (law04_alive_c) fun v18 u18 f18 h18 => ?_)))
 subst h18
 refine .pick rfl rfl rfl (.asg rfl rfl (.nil (.ret ?_)))
 exact hend ((x3.trans y17).trans f18)
end Go.Proofs.YteghbhdniimjbaaGreat

namespace Go.Kx
open Go Go.RowKit Go.ChangeShapes Go.WideShapes
section
variable {H : Type} {enc : TypeId × Value → H} {P : Program} {W : World}
theorem Opn.argI {t : TypeId} {k : IntKind} {r : Reach} {b0 : Nat} {v : Value} {d : DataW H} {ps : List MemPlace} (ht : P.underlying t = some (.int k))
  (hval : Value.okWide P W r b0 t v) (hd : DataW.Trod enc P W 0 (fun _ => true) true t v d ps) : ∃ n, v = .int k n ∧ k.min ≤ n ∧ n ≤ k.max := by
 obtain ⟨n, rfl⟩ := okWide_int ht hval
 obtain ⟨fuel, hf⟩ := hd
 obtain ⟨m, hm, _, hw⟩ := DataW.trod_int ht hf
 simp [Value.cells] at hm
 subst hm
 exact ⟨_, rfl, wf_bd hw⟩
end
section
open Go.ChangeShapes
variable {H : Type} {enc : TypeId × Value → H} {P : Program} {w : World} {base : Nat} {spare : Nat → Bool} {held : Bool}
theorem trodAll_mk5 {t t' t'' t3 t4 : TypeId} {v v' v'' v3 v4 : Value} {d d' d'' d3 d4 : DataW H} {p p' p'' p3 p4 : List MemPlace} (h : DataW.Trod enc P w base spare held t v d p) (h' : DataW.Trod enc P w base spare held t' v' d' p')
  (h'' : DataW.Trod enc P w base spare held t'' v'' d'' p'') (h3 : DataW.Trod enc P w base spare held t3 v3 d3 p3) (h4 : DataW.Trod enc P w base spare held t4 v4 d4 p4) : DataW.TrodAll enc P w base spare held [t, t', t'', t3, t4] [v, v', v'', v3, v4] [d, d', d'', d3, d4] (p ++ (p' ++ (p'' ++ (p3 ++ p4)))) := ⟨p, p' ++ (p'' ++ (p3 ++ p4)), h, trodAll_mk4 h' h'' h3 h4, rfl⟩
theorem trodAll_six {t t' t'' t3 t4 t5 : TypeId} {args : Array Value} {ds : List (DataW H)} {ps : List MemPlace} (h : DataW.TrodAll enc P w base spare held [t, t', t'', t3, t4, t5] args.toList ds ps) :
  ∃ v v' v'' v3 v4 v5 d d' d'' d3 d4 d5 p p' p'' p3 p4 p5, args = #[v, v', v'', v3, v4, v5] ∧ ds = [d, d', d'', d3, d4, d5] ∧ ps = p ++ p' ++ p'' ++ p3 ++ p4 ++ p5 ∧ DataW.Trod enc P w base spare held t v d p ∧ DataW.Trod enc P w base spare held t' v' d' p' ∧ DataW.Trod enc P w base spare held t'' v'' d'' p'' ∧ DataW.Trod enc P w base spare held t3 v3 d3 p3 ∧ DataW.Trod enc P w base spare held t4 v4 d4 p4 ∧ DataW.Trod enc P w base spare held t5 v5 d5 p5 := by
 obtain ⟨v, vs, d, ds1, p, q, hargs, rfl, rfl, hd, hrest⟩ := trodAll_cons h
 obtain ⟨v', vs', d', ds2, p', q', rfl, rfl, rfl, hd', hrest'⟩ := trodAll_cons hrest
 obtain ⟨v'', vs'', d'', ds3, p'', q'', rfl, rfl, rfl, hd'', hrest''⟩ := trodAll_cons hrest'
 obtain ⟨v3, vs3, d3, ds4, p3, q3, rfl, rfl, rfl, hd3, hrest3⟩ := trodAll_cons hrest''
 obtain ⟨v4, vs4, d4, ds5, p4, q4, rfl, rfl, rfl, hd4, hrest4⟩ := trodAll_cons hrest3
 obtain ⟨v5, vs5, d5, ds6, p5, q5, rfl, rfl, rfl, hd5, hrest5⟩ := trodAll_cons hrest4
 obtain ⟨rfl, rfl, rfl⟩ := trodAll_nil hrest5
 exact ⟨v, v', v'', v3, v4, v5, d, d', d'', d3, d4, d5, p, p', p'', p3, p4, p5, by cases args; simp_all, rfl, by simp, hd, hd', hd'', hd3, hd4, hd5⟩
theorem trodAll_mk6 {t t' t'' t3 t4 t5 : TypeId} {v v' v'' v3 v4 v5 : Value} {d d' d'' d3 d4 d5 : DataW H} {p p' p'' p3 p4 p5 : List MemPlace} (h : DataW.Trod enc P w base spare held t v d p) (h' : DataW.Trod enc P w base spare held t' v' d' p')
  (h'' : DataW.Trod enc P w base spare held t'' v'' d'' p'') (h3 : DataW.Trod enc P w base spare held t3 v3 d3 p3) (h4 : DataW.Trod enc P w base spare held t4 v4 d4 p4) (h5 : DataW.Trod enc P w base spare held t5 v5 d5 p5) : DataW.TrodAll enc P w base spare held [t, t', t'', t3, t4, t5] [v, v', v'', v3, v4, v5] [d, d', d'', d3, d4, d5] (p ++ (p' ++ (p'' ++ (p3 ++ (p4 ++ p5))))) := ⟨p, p' ++ (p'' ++ (p3 ++ (p4 ++ p5))), h, trodAll_mk5 h' h'' h3 h4 h5, rfl⟩
end
end Go.Kx
