/-
  Memory: blocks known whole, boxes, fields, loads, stores. What a value stands for: 'E.R S w v x': in the world w the value v reads as x, by blocks that S lets. Slices: index, load, cut, make, append, literals. Numbers in base 2^32: plain mathematics, no program. The walk's words: one rule an operation, for a list in the order of the text. A range over a function, outermost. The program's integers and their values: plain. Further words of the walk: a meeting point, exact slices, words of the call's own. Words that the call changes in place. Long division: plain. Machine integers: sums and differences that fit. The program's rationals and their values: plain. The order of rationals by numerators and denominators: plain. Maps with integer keys: made, filled, read. Values of integers by their number alone. Rows of the call's own with any elements; elements of a slice, exactly. The elements of a slice, exactly: which values lie there. A range over a function whose loop variables lie in memory. Elements that the call changes in place. Vectors and matrices of rationals: plain. Digits of sixteen bits: plain.
-/
import Derived.Test.YtgghedhmjhaieaaGreatG1
import Derived.WalkSpells
set_option linter.unusedVariables false
namespace Go.Kx
open Go Go.RowKit

/-- block b holds just these cells; none is frozen -/
def Blk (w : World) (b : Nat) (t : TypeId) (cs : Array Value) : Prop := w.heap[b]? = some (.cells cs t (0, 0))

/-- w' is w but for block b -/
structure Upd (w w' : World) (b : Nat) : Prop where
  os : w'.os = w.os
  tape : w'.tape = w.tape
  output : w'.output = w.output
  size : w'.heap.size = w.heap.size
  block : ∀ k, k ≠ b → w'.heap[k]? = w.heap[k]?

theorem Upd.refl (w : World) (b : Nat) : Upd w w b := ⟨rfl, rfl, rfl, rfl, fun _ _ => rfl⟩
theorem Upd.trans {a b c : World} {k : Nat} (h : Upd a b k) (h' : Upd b c k) : Upd a c k :=
  ⟨h'.os.trans h.os, h'.tape.trans h.tape, h'.output.trans h.output, h'.size.trans h.size, fun i hi => (h'.block i hi).trans (h.block i hi)⟩
theorem Upd.below {B : Nat} {w0 w w' : World} {b : Nat} (h : Upd w w' b) (hb : Below B w0 w) (hB : B ≤ b) : Below B w0 w' :=
  hb.trans ⟨h.os, h.tape, h.output, by rw [h.size]; exact Nat.le_refl _, fun k hk => h.block k (by omega)⟩
theorem Upd.setCell (w : World) (b off : Nat) (v : Value) : Upd w (w.setCell ⟨b, off, none⟩ v) b :=
  ⟨rfl, rfl, rfl, by simp [World.setCell], fun k hk => Below.heap_setCell _ _ _ _ hk⟩

section
variable {w w' : World} {b : Nat} {t : TypeId} {cs : Array Value}
theorem Blk.lt (h : Blk w b t cs) : b < w.heap.size := (Array.getElem?_eq_some_iff.1 h).1
theorem Blk.cell (h : Blk w b t cs) (i : Nat) : w.cell? ⟨b, i, none⟩ = cs[i]? := by
  have h' : w.heap[b]? = some (.cells cs t (0, 0)) := h
  simp [World.cell?, h']
theorem Blk.frozen (h : Blk w b t cs) (i : Nat) : w.frozen? ⟨b, i, none⟩ = false := by
  have h' : w.heap[b]? = some (.cells cs t (0, 0)) := h
  simp [World.frozen?, h']
theorem Blk.ext (h : Blk w b t cs) (e : Ext w w') : Blk w' b t cs := (e.block b h.lt).trans h
theorem Blk.upd {c : Nat} (h : Blk w b t cs) (e : Upd w w' c) (hne : b ≠ c) : Blk w' b t cs := (e.block b hne).trans h
theorem Blk.set (h : Blk w b t cs) (i : Nat) (v : Value) : Blk (w.setCell ⟨b, i, none⟩ v) b t (cs.setIfInBounds i v) := by
  have h' : w.heap[b]? = some (.cells cs t (0, 0)) := h
  show (w.setCell ⟨b, i, none⟩ v).heap[b]? = _
  simp [World.setCell, Array.getElem?_modify, h']
end

theorem add_mk (b off i : Nat) : (⟨b, off, none⟩ : Addr).add i = ⟨b, off + i, none⟩ := by
  unfold Addr.add
  split
  · rename_i h; subst h; rfl
  · rfl

/-- is the type made of cells (struct, array), and of how many -/
def tyOf (P : Program) (t : TypeId) : Option (Bool × Nat) :=
  match P.underlying t, P.info? t with
  | some (.struct _), some i => some (true, i.size)
  | some (.array _ _), some i => some (true, i.size)
  | some _, some i => some (false, i.size)
  | _, _ => none

theorem tyOf_agg {P : Program} {t : TypeId} {b : Bool} {n : Nat} (h : tyOf P t = some (b, n)) (w : World) : (isAgg t).run P w = .ok b w ∧ (sizeOf t).run P w = .ok n w := by
  unfold tyOf at h
  split at h
  all_goals first | (cases h; done) | skip
  all_goals
    rename_i hu hi
    cases h
    try (have hi := ‹P.info? t = some _›)
    constructor
    · simp [isAgg, run_underlying hu]
    · simp [sizeOf, typeInfo, hi]
  

theorem run_loadCellsFrom {P : Program} {w : World} {p : Addr} : ∀ (cs : List Value) (i : Nat) (acc : Array Value), (∀ j u, cs[j]? = some u → w.cell? (p.add (i + j)) = some u) →
    (loadCellsFrom p i cs.length acc).run P w = .ok (acc ++ cs.toArray) w
  | [], i, acc, _ => by simp [loadCellsFrom]
  | c :: cs, i, acc, h => by
    have h0 := h 0 c rfl
    rw [Nat.add_zero] at h0
    have ih := run_loadCellsFrom (P := P) (w := w) (p := p) cs (i + 1) (acc.push c) (fun j u hu => by have := h (j + 1) u (by simpa using hu); rwa [show i + 1 + j = i + (j + 1) by omega])
    simp only [List.length_cons, loadCellsFrom, Sem.run_bind, load, Sem.run, h0, Result.andThen_ok, ih]
    simp

theorem run_loadVar1 {P : Program} {t : TypeId} {n : Nat} {w : World} {p : Addr} {v : Value} (ht : tyOf P t = some (false, n)) (h : w.cell? p = some v) : (loadVar t p).run P w = .ok v w := by
  simp [loadVar, Sem.run_bind, (tyOf_agg ht w).1, load, Sem.run, h]
theorem run_loadVarN {P : Program} {t : TypeId} {w : World} {p : Addr} {cs : List Value} (ht : tyOf P t = some (true, cs.length)) (h : ∀ j u, cs[j]? = some u → w.cell? (p.add j) = some u) :
    (loadVar t p).run P w = .ok (.agg cs.toArray) w := by
  have := run_loadCellsFrom (P := P) (w := w) (p := p) cs 0 #[] (fun j u hu => by rw [Nat.zero_add]; exact h j u hu)
  simp only [loadVar, Sem.run_bind, (tyOf_agg ht w).1, (tyOf_agg ht w).2, loadCells, Result.andThen_ok, this, if_true]
  simp

/-- neither a struct's value nor a tuple: what one cell can hold -/
def one1 : Value → Bool
  | .agg _ | .tuple _ => false
  | _ => true

theorem run_store1 {P : Program} {w : World} {b i : Nat} {t : TypeId} {cs : Array Value} {v : Value} (hb : Blk w b t cs) (hi : i < cs.size) (hv : one1 v = true) :
    (store ⟨b, i, none⟩ v).run P w = .ok () (w.setCell ⟨b, i, none⟩ v) := by
  have h1 := hb.cell i
  have h2 := hb.frozen i
  rw [Array.getElem?_eq_getElem hi] at h1
  unfold store
  cases v <;> first | (simp [one1] at hv; done) | simp [Sem.run, h1, h2]

/-- cells off, off+1, .. become vs -/
def wrt (cs : Array Value) (off : Nat) : List Value → Array Value
  | [] => cs
  | v :: vs => wrt (cs.setIfInBounds off v) (off + 1) vs

theorem size_wrt : ∀ (vs : List Value) (cs : Array Value) (off : Nat), (wrt cs off vs).size = cs.size
  | [], _, _ => rfl
  | v :: vs, cs, off => by simp [wrt, size_wrt vs]

theorem wrt_get : ∀ (vs : List Value) (cs : Array Value) (off i : Nat), off + vs.length ≤ cs.size → (wrt cs off vs)[i]? = if off ≤ i ∧ i < off + vs.length then vs[i - off]? else cs[i]?
  | [], cs, off, i, _ => by
    rw [if_neg (by simp only [List.length_nil]; omega)]; rfl
  | v :: vs, cs, off, i, h => by
    simp only [List.length_cons] at h
    rw [wrt, wrt_get vs _ _ _ (by simp; omega)]
    by_cases h1 : off + 1 ≤ i ∧ i < off + 1 + vs.length
    · rw [if_pos h1, if_pos (by simp; omega), show i - off = (i - (off + 1)) + 1 by omega, List.getElem?_cons_succ]
    · rw [if_neg h1]
      by_cases h2 : i = off
      · subst h2
        rw [if_pos (by simp)]
        have : i < cs.size := by omega
        simp [this]
      · rw [if_neg (by simp; omega), Array.getElem?_setIfInBounds_ne (by omega)]

theorem wrt_all (vs : List Value) (cs : Array Value) (h : vs.length = cs.size) : wrt cs 0 vs = vs.toArray := by
  apply Array.ext_getElem?
  intro i
  rw [wrt_get vs cs 0 i (by omega)]
  by_cases hi : i < vs.length
  · rw [if_pos (by omega)]; simp
  · rw [if_neg (by omega)]
    rw [Array.getElem?_eq_none (by omega), Array.getElem?_eq_none (by simp; omega)]

theorem run_storeCells {P : Program} {b off : Nat} {t : TypeId} : ∀ (vs : List Value) (i : Nat) (w : World) (cs : Array Value), Blk w b t cs → off + i + vs.length ≤ cs.size → (∀ v ∈ vs, one1 v = true) →
    ∃ w', (storeCells ⟨b, off, none⟩ vs i).run P w = .ok () w' ∧ Blk w' b t (wrt cs (off + i) vs) ∧ Upd w w' b
  | [], i, w, cs, hb, _, _ => ⟨w, by simp [storeCells], hb, Upd.refl _ _⟩
  | v :: vs, i, w, cs, hb, hle, h1 => by
    simp only [List.length_cons] at hle
    have hs := run_store1 (P := P) (v := v) hb (i := off + i) (by omega) (h1 v (by simp))
    obtain ⟨w', hr, hb', hu⟩ := run_storeCells (P := P) (off := off) vs (i + 1) _ _ (hb.set (off + i) v) (by simp; omega) (fun u hu => h1 u (by simp [hu]))
    refine ⟨w', ?_, by simpa [wrt, Nat.add_assoc] using hb', (Upd.setCell w b (off + i) v).trans hu⟩
    simp only [storeCells, Sem.run_bind, add_mk, hs, Result.andThen_ok, hr]

theorem run_storeVar {P : Program} {t' : TypeId} {a : Bool} {n : Nat} {w : World} {b off : Nat} {t : TypeId} {cs : Array Value} {v : Value} (ht : tyOf P t' = some (a, n)) (hb : Blk w b t cs) (hn : v.cells.size = n)
    (hle : off + n ≤ cs.size) (h1 : ∀ u ∈ v.cells.toList, one1 u = true) :
    ∃ w', (storeVar t' ⟨b, off, none⟩ v).run P w = .ok () w' ∧ Blk w' b t (wrt cs off v.cells.toList) ∧ Upd w w' b := by
  obtain ⟨w', hr, hb', hu⟩ := run_storeCells (P := P) (off := off) v.cells.toList 0 w cs hb (by simp [hn]; omega) h1
  refine ⟨w', ?_, by simpa using hb', hu⟩
  simp [storeVar, Sem.run_bind, (tyOf_agg ht w).2, hn, hr]

/-- the offset of a field -/
def fldOf (P : Program) (s : TypeId) (i : Nat) : Option Nat :=
  match P.underlying s with
  | some (.struct fs) => match fs[i]? with
    | some f => match P.info? f.type with
      | some j => bif Nat.beq j.size 0 then none else some f.offset
      | none => none
    | none => none
  | _ => none

section
variable {P : Program} {σ : Env} {w : World} {d : Option Tmp} {ty : TypeId} {pos : String} {af : Array Edge} {g : Option (Nat × Bool)}

theorem v_fa {s : TypeId} {x : Operand} {i b o off : Nat} (hf : fldOf P s i = some off) (hx : ev σ x = some (.pointer (some ⟨b, o, none⟩))) :
    Vl P ⟨d, .fieldAddr s x i, ty, pos, af, g⟩ σ w (.pointer (some ⟨b, o + off, none⟩)) := by
  refine ⟨(by intro _ h; cases h), fun ρ hρ => ?_⟩
  have h1 := hρ x _ (by simp [Op.operands]) hx
  unfold fldOf at hf
  split at hf
  · rename_i fs hfs
    split at hf
    · rename_i f hff
      split at hf
      · rename_i j hj
        cases hz : Nat.beq j.size 0 with
        | true => rw [hz] at hf; cases hf
        | false =>
          rw [hz] at hf
          simp only [cond_false, Option.some.injEq] at hf
          have hz' : j.size ≠ 0 := fun e => by rw [e] at hz; cases hz
          simp [execOp, h1, Instr.fieldAt, run_underlying hfs, hff, Instr.sureAddr, fieldPlace, sizeOf, typeInfo, hj, hz', add_mk, hf]
      · cases hf
    · cases hf
  · cases hf

/-- a load out of a block: one cell -/
theorem v_ld {t t' : TypeId} {x : Operand} {b off n : Nat} {cs : Array Value} {v : Value} (ht : tyOf P t = some (false, n)) (hx : ev σ x = some (.pointer (some ⟨b, off, none⟩))) (hb : Blk w b t' cs) (hc : cs[off]? = some v) :
    Vl P ⟨d, .load t x, ty, pos, af, g⟩ σ w v := by
  refine ⟨(by intro _ h; cases h), fun ρ hρ => ?_⟩
  have h1 := hρ x _ (by simp [Op.operands]) hx
  have h2 := run_loadVar1 (P := P) (p := ⟨b, off, none⟩) ht ((hb.cell off).trans hc)
  simp [execOp, h1, Instr.loadAt, Instr.sureAddr, h2]
/-- a struct -/
theorem v_ldN {t t' : TypeId} {x : Operand} {b off : Nat} {cs : Array Value} (vs : List Value) (ht : tyOf P t = some (true, vs.length)) (hx : ev σ x = some (.pointer (some ⟨b, off, none⟩))) (hb : Blk w b t' cs)
    (hc : ∀ j u, vs[j]? = some u → cs[off + j]? = some u) : Vl P ⟨d, .load t x, ty, pos, af, g⟩ σ w (.agg vs.toArray) := by
  refine ⟨(by intro _ h; cases h), fun ρ hρ => ?_⟩
  have h1 := hρ x _ (by simp [Op.operands]) hx
  have h2 := run_loadVarN (P := P) (p := ⟨b, off, none⟩) ht (fun j u hu => by rw [add_mk, hb.cell]; exact hc j u hu)
  simp [execOp, h1, Instr.loadAt, Instr.sureAddr, h2]
/-- the whole block -/
theorem v_ldA {t t' : TypeId} {x : Operand} {b n : Nat} {cs : Array Value} (ht : tyOf P t = some (true, n)) (hx : ev σ x = some (.pointer (some ⟨b, 0, none⟩))) (hb : Blk w b t' cs) (hn : cs.size = n) :
    Vl P ⟨d, .load t x, ty, pos, af, g⟩ σ w (.agg cs) := by
  have := v_ldN (P := P) (d := d) (ty := ty) (pos := pos) (af := af) (g := g) cs.toList (by simpa [hn] using ht) hx hb (fun j u hu => by simpa using hu)
  simpa using this
/-- a load at whatever address -/
theorem v_ldP {t : TypeId} {x : Operand} {p : Addr} {n : Nat} {v : Value} (ht : tyOf P t = some (false, n)) (hx : ev σ x = some (.pointer (some p))) (hc : w.cell? p = some v) :
    Vl P ⟨d, .load t x, ty, pos, af, g⟩ σ w v := by
  refine ⟨(by intro _ h; cases h), fun ρ hρ => ?_⟩
  have h1 := hρ x _ (by simp [Op.operands]) hx
  have h2 := run_loadVar1 (P := P) ht hc
  simp [execOp, h1, Instr.loadAt, Instr.sureAddr, h2]
theorem v_ldPN {t : TypeId} {x : Operand} {p : Addr} {cs : List Value} (ht : tyOf P t = some (true, cs.length)) (hx : ev σ x = some (.pointer (some p))) (hc : ∀ j u, cs[j]? = some u → w.cell? (p.add j) = some u) :
    Vl P ⟨d, .load t x, ty, pos, af, g⟩ σ w (.agg cs.toArray) := by
  refine ⟨(by intro _ h; cases h), fun ρ hρ => ?_⟩
  have h1 := hρ x _ (by simp [Op.operands]) hx
  have h2 := run_loadVarN (P := P) ht hc
  simp [execOp, h1, Instr.loadAt, Instr.sureAddr, h2]

theorem alloc_ext (w : World) (o : Obj) : Ext w (w.alloc o) := (Below.refl _ w).alloc (Nat.le_refl _) o
theorem alloc_blk (w : World) (t : TypeId) (cs : Array Value) : Blk (w.alloc (.cells cs t)) w.heap.size t cs := World.alloc_heap_new w _

/-- what a new block is -/
def New (w w' : World) (b : Nat) (t : TypeId) (cs : Array Value) : Prop := Ext w w' ∧ Blk w' b t cs ∧ b = w.heap.size ∧ w'.heap.size = b + 1

theorem new_alloc (w : World) (t : TypeId) (cs : Array Value) : New w (w.alloc (.cells cs t)) w.heap.size t cs := ⟨alloc_ext w _, alloc_blk w t cs, rfl, World.size_alloc _ _⟩

theorem g_box {t : TypeId} {x : Operand} {v : Value} (hx : ev σ x = some v) : Gv P ⟨d, .box t x, ty, pos, af, g⟩ σ w fun v' w' => ∃ b, v' = .pointer (some ⟨b, 0, none⟩) ∧ New w w' b t v.cells := by
  refine ⟨(by intro _ h; cases h), fun ρ hρ => .inl ?_⟩
  have h1 := hρ x _ (by simp [Op.operands]) hx
  refine ⟨_, _, ?_, w.heap.size, rfl, new_alloc w t v.cells⟩
  simp [execOp, h1, Instr.box, newVar, newRow]

def zeroOf (P : Program) (t : TypeId) : Option Value := (P.info? t).bind (·.zero)

theorem g_alloc {t : TypeId} {z : Value} (hz : zeroOf P t = some z) : Gv P ⟨d, .alloc t, ty, pos, af, g⟩ σ w fun v' w' => ∃ b, v' = .pointer (some ⟨b, 0, none⟩) ∧ New w w' b t z.cells := by
  refine ⟨(by intro _ h; cases h), fun ρ hρ => .inl ?_⟩
  refine ⟨_, _, ?_, w.heap.size, rfl, new_alloc w t z.cells⟩
  unfold zeroOf at hz
  cases hi : P.info? t with
  | none => rw [hi] at hz; cases hz
  | some i =>
    rw [hi] at hz
    have hz' : i.zero = some z := hz
    simp [execOp, Instr.alloc, zeroValue, typeInfo, hi, hz', newVar, newRow]

/-- a store into a block -/
theorem g_store {t t' : TypeId} {x y : Operand} {b off n : Nat} {a : Bool} {cs : Array Value} {v : Value} (ht : tyOf P t = some (a, n)) (hx : ev σ x = some (.pointer (some ⟨b, off, none⟩))) (hy : ev σ y = some v) (hb : Blk w b t' cs)
    (hn : v.cells.size = n) (hle : off + n ≤ cs.size) (h1 : ∀ u ∈ v.cells.toList, one1 u = true) :
    Gv P ⟨d, .store t x y, ty, pos, af, g⟩ σ w fun _ w' => Blk w' b t' (wrt cs off v.cells.toList) ∧ Upd w w' b := by
  refine ⟨(by intro _ h; cases h), fun ρ hρ => .inr (.inl ?_)⟩
  have e1 := hρ x _ (by simp [Op.operands]) hx
  have e2 := hρ y _ (by simp [Op.operands]) hy
  obtain ⟨w', hr, hb', hu⟩ := run_storeVar (P := P) ht hb hn hle h1
  exact ⟨w', by simp [execOp, e1, e2, Instr.storeAt, Instr.sureAddr, hr], hb', hu⟩
end

section
variable {P : Program} {ro : Option Nat} {N : Nat} {ds : List Deferred} {ops : Array Oper} {K : Env → World → Prop} {rest : List Oper} {σ : Env} {w : World} {d : Tmp} {ty : TypeId} {pos : String} {af : Array Edge}

theorem WL.box {t : TypeId} {x : Operand} {v : Value} (hd : Nat.blt d N = true) (hx : ev σ x = some v) (k : ∀ w' b, New w w' b t v.cells → WL P ro N ds ops K rest ((d, .pointer (some ⟨b, 0, none⟩)) :: σ) w') :
    WL P ro N ds ops K (⟨some d, .box t x, ty, pos, af, none⟩ :: rest) σ w :=
  WL.gv rfl hd (g_box hx) fun v' w' ⟨b, hv, hn⟩ => by subst hv; exact k w' b hn
theorem WL.alloc {t : TypeId} {z : Value} (hd : Nat.blt d N = true) (hz : zeroOf P t = some z) (k : ∀ w' b, New w w' b t z.cells → WL P ro N ds ops K rest ((d, .pointer (some ⟨b, 0, none⟩)) :: σ) w') :
    WL P ro N ds ops K (⟨some d, .alloc t, ty, pos, af, none⟩ :: rest) σ w :=
  WL.gv rfl hd (g_alloc hz) fun v' w' ⟨b, hv, hn⟩ => by subst hv; exact k w' b hn
theorem WL.store {t t' : TypeId} {x y : Operand} {b off n : Nat} {a : Bool} {cs : Array Value} {v : Value} (ht : tyOf P t = some (a, n)) (hx : ev σ x = some (.pointer (some ⟨b, off, none⟩))) (hy : ev σ y = some v) (hb : Blk w b t' cs)
    (hn : v.cells.size = n) (hle : off + n ≤ cs.size) (h1 : ∀ u ∈ v.cells.toList, one1 u = true)
    (k : ∀ w', Blk w' b t' (wrt cs off v.cells.toList) → Upd w w' b → WL P ro N ds ops K rest σ w') :
    WL P ro N ds ops K (⟨none, .store t x y, ty, pos, af, none⟩ :: rest) σ w :=
  WL.gv rfl rfl (g_store ht hx hy hb hn hle h1) fun _ w' ⟨h1, h2⟩ => k w' h1 h2
end

/-! ### calls -/
/-- a function with a body, by its number -/
def Ent (P : Program) (f : FuncId) : Prop := ∀ args w, (callFunc f args).run P w = .ok (.enter f args) w
theorem ent_of {P : Program} {f : FuncId} {fn : Func} (hf : P.funcs[f]? = some fn) (hn : (fn.name == "runtime.NumGoroutine") = false) (hb : fn.body.isNone = false) : Ent P f := by
  intro args w
  simp only [callFunc, program, Sem.run_bind, Sem.run, Result.andThen_ok, hf, hn, hb, Bool.false_eq_true, if_false, Sem.run_pure]

section
variable {P : Program} {σ : Env} {w : World} {d : Option Tmp} {ty : TypeId} {pos : String} {af : Array Edge} {g : Option (Nat × Bool)}

def evs (σ : Env) (xs : List Operand) (vs : List Value) : Prop := xs.map (ev σ) = vs.map some

theorem evs_map {σ : Env} {ρ : Operand → Value} : ∀ {xs : List Operand} {vs : List Value}, (∀ x v, x ∈ xs → ev σ x = some v → ρ x = v) → evs σ xs vs → xs.map ρ = vs
  | [], [], _, _ => rfl
  | [], _ :: _, _, h => by simp [evs] at h
  | _ :: _, [], _, h => by simp [evs] at h
  | x :: xs, v :: vs, hρ, h => by
    simp only [evs, List.map_cons, List.cons.injEq] at h
    simp only [List.map_cons, List.cons.injEq]
    exact ⟨hρ x v (by simp) h.1, evs_map (fun y u hy => hρ y u (by simp [hy])) h.2⟩

/-- a call of a named function by its contract -/
theorem g_call {f : FuncId} {xs : List Operand} {ts : Array TypeId} (vs : List Value) {R : Value → World → Prop} (hf : Ent P f) (hx : xs.map (ev σ) = vs.map some) (hc : CR P f vs.toArray w R) :
    Gv P ⟨d, .call { callee := .value (.func f), args := xs.toArray, argTypes := ts }, ty, pos, af, g⟩ σ w fun v w' => Ext w w' ∧ R v w' := by
  refine ⟨(by intro _ h; cases h), fun ρ hρ => .inr (.inr ?_)⟩
  have h1 : ρ (.func f) = .func (.func f) #[] #[] := hρ _ _ (by simp [Op.operands, Call.operands]) rfl
  have h2 : xs.map ρ = vs := evs_map (σ := σ) (fun x v hx' => hρ x v (by simp [Op.operands, Call.operands, hx'])) hx
  refine ⟨f, vs.toArray, w, ?_, hc⟩
  simp [execOp, resolve, h1, h2, Deferred.ofValue, invoke, hf _ _]

/-- whatever the call does to the world -/
theorem g_callG {f : FuncId} {xs : List Operand} {ts : Array TypeId} (vs : List Value) {R : Value → World → Prop} (hf : Ent P f) (hx : xs.map (ev σ) = vs.map some) (hc : Calls P f vs.toArray w fun e w' => ∃ v, e = .returned v ∧ R v w') :
    Gv P ⟨d, .call { callee := .value (.func f), args := xs.toArray, argTypes := ts }, ty, pos, af, g⟩ σ w R := by
  refine ⟨(by intro _ h; cases h), fun ρ hρ => .inr (.inr ?_)⟩
  have h1 : ρ (.func f) = .func (.func f) #[] #[] := hρ _ _ (by simp [Op.operands, Call.operands]) rfl
  have h2 : xs.map ρ = vs := evs_map (σ := σ) (fun x v hx' => hρ x v (by simp [Op.operands, Call.operands, hx'])) hx
  refine ⟨f, vs.toArray, w, ?_, hc⟩
  simp [execOp, resolve, h1, h2, Deferred.ofValue, invoke, hf _ _]
theorem g_callvG {f : FuncId} {fx : Operand} {xs : List Operand} {ts : Array TypeId} {cap : Array Value} (vs : List Value) {R : Value → World → Prop} (hfx : ev σ fx = some (.func (.func f) #[] cap)) (hf : Ent P f) (hx : xs.map (ev σ) = vs.map some)
    (hc : Calls P f (vs.toArray ++ cap) w fun e w' => ∃ v, e = .returned v ∧ R v w') :
    Gv P ⟨d, .call { callee := .value fx, args := xs.toArray, argTypes := ts }, ty, pos, af, g⟩ σ w R := by
  refine ⟨(by intro _ h; cases h), fun ρ hρ => .inr (.inr ?_)⟩
  have h1 := hρ fx _ (by simp [Op.operands, Call.operands]) hfx
  have h2 : xs.map ρ = vs := evs_map (σ := σ) (fun x v hx' => hρ x v (by simp [Op.operands, Call.operands, hx'])) hx
  refine ⟨f, vs.toArray ++ cap, w, ?_, hc⟩
  simp [execOp, resolve, h1, h2, Deferred.ofValue, invoke, hf _ _]
/-- a call of a function value -/
theorem g_callv {f : FuncId} {fx : Operand} {xs : List Operand} {ts : Array TypeId} {cap : Array Value} (vs : List Value) {R : Value → World → Prop} (hfx : ev σ fx = some (.func (.func f) #[] cap)) (hf : Ent P f) (hx : xs.map (ev σ) = vs.map some)
    (hc : CR P f (vs.toArray ++ cap) w R) :
    Gv P ⟨d, .call { callee := .value fx, args := xs.toArray, argTypes := ts }, ty, pos, af, g⟩ σ w fun v w' => Ext w w' ∧ R v w' := by
  refine ⟨(by intro _ h; cases h), fun ρ hρ => .inr (.inr ?_)⟩
  have h1 := hρ fx _ (by simp [Op.operands, Call.operands]) hfx
  have h2 : xs.map ρ = vs := evs_map (σ := σ) (fun x v hx' => hρ x v (by simp [Op.operands, Call.operands, hx'])) hx
  refine ⟨f, vs.toArray ++ cap, w, ?_, hc⟩
  simp [execOp, resolve, h1, h2, Deferred.ofValue, invoke, hf _ _]
end

section
variable {P : Program} {ro : Option Nat} {N : Nat} {ds : List Deferred} {ops : Array Oper} {K : Env → World → Prop} {rest : List Oper} {σ : Env} {w : World} {d : Tmp} {ty : TypeId} {pos : String} {af : Array Edge}
theorem WL.call {f : FuncId} {xs : List Operand} {ts : Array TypeId} (vs : List Value) {R : Value → World → Prop} (hd : Nat.blt d N = true) (hf : Ent P f) (hx : xs.map (ev σ) = vs.map some) (hc : CR P f vs.toArray w R)
    (k : ∀ v w', Ext w w' → R v w' → WL P ro N ds ops K rest ((d, v) :: σ) w') :
    WL P ro N ds ops K (⟨some d, .call { callee := .value (.func f), args := xs.toArray, argTypes := ts }, ty, pos, af, none⟩ :: rest) σ w :=
  WL.gv rfl hd (g_call vs hf hx hc) fun v w' ⟨h1, h2⟩ => k v w' h1 h2
theorem WL.callv {f : FuncId} {fx : Operand} {xs : List Operand} {ts : Array TypeId} {cap : Array Value} (vs : List Value) {R : Value → World → Prop} (hd : Nat.blt d N = true) (hfx : ev σ fx = some (.func (.func f) #[] cap)) (hf : Ent P f)
    (hx : xs.map (ev σ) = vs.map some) (hc : CR P f (vs.toArray ++ cap) w R) (k : ∀ v w', Ext w w' → R v w' → WL P ro N ds ops K rest ((d, v) :: σ) w') :
    WL P ro N ds ops K (⟨some d, .call { callee := .value fx, args := xs.toArray, argTypes := ts }, ty, pos, af, none⟩ :: rest) σ w :=
  WL.gv rfl hd (g_callv vs hfx hf hx hc) fun v w' ⟨h1, h2⟩ => k v w' h1 h2
end
end Go.Kx

namespace Go.Kx
open Go Go.RowKit

/-- the cells of the blocks that S lets stay -/
def Kp (S : Nat → Prop) (w w' : World) : Prop := ∀ k c t f, S k → w.heap[k]? = some (.cells c t f) → w'.heap[k]? = some (.cells c t f)
theorem Kp.ext {S : Nat → Prop} {w w' : World} (e : Ext w w') : Kp S w w' := fun k _ _ _ _ h => (e.block k (Array.getElem?_eq_some_iff.1 h).1).trans h
theorem Kp.upd {S : Nat → Prop} {w w' : World} {b : Nat} (hu : Upd w w' b) (hb : ¬ S b) : Kp S w w' := fun k _ _ _ hS h => (hu.block k (fun e => hb (e ▸ hS))).trans h
theorem Kp.cell {S : Nat → Prop} {w w' : World} (h : Kp S w w') {p : Addr} {v : Value} (hS : S p.block) (hc : w.cell? p = some v) : w'.cell? p = some v := by
  unfold World.cell? at hc ⊢
  split at hc
  · rename_i c e f hh
    rw [h _ _ _ _ hS hh]; exact hc
  · cases hc
theorem Kp.blk {S : Nat → Prop} {w w' : World} (h : Kp S w w') {b : Nat} {t : TypeId} {cs : Array Value} (hS : S b) (hb : Blk w b t cs) : Blk w' b t cs := h _ _ _ _ hS hb

structure ER (α : Type) where
  sz : Nat
  isA : Bool
  R : (Nat → Prop) → World → Value → α → Prop
  csz : ∀ {S w e x}, R S w e x → e.cells.size = sz
  one : ∀ {S w e x}, R S w e x → ∀ u ∈ e.cells.toList, one1 u = true
  shp : ∀ {S w e x}, R S w e x → bif isA then e = .agg e.cells else one1 e = true
  keep : ∀ {S : Nat → Prop} {w w' : World} {e x}, Kp S w w' → R S w e x → R S w' e x
  mono : ∀ {S S' : Nat → Prop} {w : World} {e x}, (∀ k, k < w.heap.size → S k → S' k) → R S w e x → R S' w e x

section
variable {α : Type} (E : ER α)
theorem ER.ext {S : Nat → Prop} {w w' : World} {e : Value} {x : α} (h : E.R S w e x) (hx : Ext w w') : E.R S w' e x := E.keep (Kp.ext hx) h
theorem ER.upd {S : Nat → Prop} {w w' : World} {e : Value} {x : α} {b : Nat} (h : E.R S w e x) (hu : Upd w w' b) (hb : ¬ S b) : E.R S w' e x :=
  E.keep (Kp.upd hu hb) h
end

/-! posts that stay -/
def St (R : Value → World → Prop) : Prop := ∀ v w w', Ext w w' → R v w → R v w'
@[reducible] def Is (c : Value) : Value → World → Prop := fun v _ => v = c
@[reducible] def ER.at {α : Type} (E : ER α) (S : Nat → Prop) (x : α) : Value → World → Prop := fun v w => E.R S w v x
@[reducible] def Two (R1 R2 : Value → World → Prop) : Value → World → Prop := fun v w => ∃ a b, v = .tuple #[a, b] ∧ R1 a w ∧ R2 b w
@[reducible] def Three (R1 R2 R3 : Value → World → Prop) : Value → World → Prop := fun v w => ∃ a b c, v = .tuple #[a, b, c] ∧ R1 a w ∧ R2 b w ∧ R3 c w
theorem st_is (c : Value) : St (Is c) := fun _ _ _ _ h => h
theorem st_at {α : Type} (E : ER α) (S : Nat → Prop) (x : α) : St (E.at S x) := fun _ _ _ e h => E.ext h e
theorem st_two {R1 R2 : Value → World → Prop} (h1 : St R1) (h2 : St R2) : St (Two R1 R2) := fun _ _ _ e ⟨a, b, hv, x, y⟩ => ⟨a, b, hv, h1 _ _ _ e x, h2 _ _ _ e y⟩
theorem st_three {R1 R2 R3 : Value → World → Prop} (h1 : St R1) (h2 : St R2) (h3 : St R3) : St (Three R1 R2 R3) :=
  fun _ _ _ e ⟨a, b, c, hv, x, y, z⟩ => ⟨a, b, c, hv, h1 _ _ _ e x, h2 _ _ _ e y, h3 _ _ _ e z⟩

/-- the obligation of a call, in a region that draws -/
theorem Gv.ob {P : Program} {o : Oper} {σ : Env} {w : World} {R : Value → World → Prop} (h : Gv P o σ w fun v w' => Ext w w' ∧ R v w') (hs : St R) : Gv P o σ w fun v w' => Ext w w' ∧ Sp.ok (.inr R) v w' :=
  h.mono fun _ _ ⟨h1, h2⟩ => ⟨h1, fun _ e => hs _ _ _ e h2⟩
theorem Gv.obIs {P : Program} {o : Oper} {σ : Env} {w : World} {c : Value} (h : Gv P o σ w fun v w' => Ext w w' ∧ Is c v w') : Gv P o σ w fun v w' => Ext w w' ∧ Sp.ok (.inl c) v w' := h

/-! numbers and bools -/
def eInt (k : IntKind) : ER Int where
  sz := 1
  isA := false
  R := fun _ _ e x => e = .int k x ∧ k.min ≤ x ∧ x ≤ k.max
  csz := by rintro S w e x ⟨rfl, _⟩; rfl
  one := by rintro S w e x ⟨rfl, _⟩ u hu; simp [Value.cells] at hu; subst hu; rfl
  shp := by rintro S w e x ⟨rfl, _⟩; rfl
  keep := fun _ h => h
  mono := fun _ h => h
def eU32 : ER Nat where
  sz := 1
  isA := false
  R := fun _ _ e x => e = .int .u32 x ∧ x < 4294967296
  csz := by rintro S w e x ⟨rfl, _⟩; rfl
  one := by rintro S w e x ⟨rfl, _⟩ u hu; simp [Value.cells] at hu; subst hu; rfl
  shp := by rintro S w e x ⟨rfl, _⟩; rfl
  keep := fun _ h => h
  mono := fun _ h => h
def eBool : ER Bool where
  sz := 1
  isA := false
  R := fun _ _ e x => e = .bool x
  csz := by rintro S w e x rfl; rfl
  one := by rintro S w e x rfl u hu; simp [Value.cells] at hu; subst hu; rfl
  shp := by rintro S w e x rfl; rfl
  keep := fun _ h => h
  mono := fun _ h => h

/-! slices -/
def Row (S : Nat → Prop) (w : World) (sz : Nat) (v : Value) (n : Nat) (cs : List Value) : Prop :=
  ∃ a c, v = .slice a n c ∧ n ≤ c ∧ n ≤ 9223372036854775807 ∧ cs.length = n * sz ∧ (0 < n → ∃ ad : Addr, a = some ad ∧ S ad.block ∧ ∀ j u, cs[j]? = some u → w.cell? (ad.add j) = some u)

theorem block_add (a : Addr) (n : Nat) : (a.add n).block = a.block := by unfold Addr.add; split <;> rfl
theorem add_add (a : Addr) (i j : Nat) : (a.add i).add j = a.add (i + j) := by
  unfold Addr.add
  by_cases hi : i = 0 <;> by_cases hj : j = 0 <;> simp [hi, hj, Nat.add_assoc]
theorem cell_lt {w : World} {p : Addr} {v : Value} (h : w.cell? p = some v) : p.block < w.heap.size := by
  unfold World.cell? at h
  split at h
  · rename_i hh; exact (Array.getElem?_eq_some_iff.1 hh).1
  · cases h
theorem cell_same {w w' : World} {p : Addr} (h : w'.heap[p.block]? = w.heap[p.block]?) : w'.cell? p = w.cell? p := by simp [World.cell?, h]

theorem Row.keep {S : Nat → Prop} {w w' : World} {sz n : Nat} {v : Value} {cs : List Value} (hk : Kp S w w') (h : Row S w sz v n cs) : Row S w' sz v n cs := by
  obtain ⟨a, c, hv, h1, h2, h3, h4⟩ := h
  refine ⟨a, c, hv, h1, h2, h3, fun hn => ?_⟩
  obtain ⟨ad, ha, hS, hc⟩ := h4 hn
  refine ⟨ad, ha, hS, fun j u hu => ?_⟩
  exact hk.cell (p := ad.add j) (by rw [block_add]; exact hS) (hc j u hu)
theorem Row.mono {S S' : Nat → Prop} {w : World} {sz n : Nat} {v : Value} {cs : List Value} (hsz : 0 < sz) (hk : ∀ k, k < w.heap.size → S k → S' k) (h : Row S w sz v n cs) : Row S' w sz v n cs := by
  obtain ⟨a, c, hv, h1, h2, h3, h4⟩ := h
  refine ⟨a, c, hv, h1, h2, h3, fun hn => ?_⟩
  obtain ⟨ad, ha, hS, hc⟩ := h4 hn
  have hpos : 0 < cs.length := by rw [h3]; exact Nat.mul_pos hn hsz
  have hlt := cell_lt (hc 0 _ (List.getElem?_eq_getElem hpos))
  rw [block_add] at hlt
  exact ⟨ad, ha, hk _ hlt hS, hc⟩

abbrev cellsOf (es : List Value) : List Value := es.flatMap fun e => e.cells.toList

theorem cellsOf_get {sz : Nat} : ∀ (es : List Value) (i j : Nat) (e : Value), (∀ e ∈ es, e.cells.size = sz) → es[i]? = some e → j < sz → (cellsOf es)[i * sz + j]? = e.cells[j]?
  | [], i, j, e, _, h, _ => by simp at h
  | x :: es, 0, j, e, hs, h, hj => by
    simp at h; subst h
    have hx : x.cells.size = sz := hs x (by simp)
    simp only [cellsOf, List.flatMap_cons, Nat.zero_mul, Nat.zero_add]
    rw [List.getElem?_append_left (by rw [Array.length_toList]; omega), Array.getElem?_toList]
  | x :: es, i + 1, j, e, hs, h, hj => by
    have hx : x.cells.size = sz := hs x (by simp)
    have ih := cellsOf_get (sz := sz) es i j e (fun e he => hs e (by simp [he])) (by simpa using h) hj
    simp only [cellsOf, List.flatMap_cons] at ih ⊢
    rw [List.getElem?_append_right (by simp [hx, Nat.succ_mul]; omega), ← ih]
    congr 1
    simp [hx, Nat.succ_mul]; omega

theorem cellsOf_length {sz : Nat} : ∀ (es : List Value), (∀ e ∈ es, e.cells.size = sz) → (cellsOf es).length = es.length * sz
  | [], _ => by simp [cellsOf]
  | x :: es, h => by
    have ih := cellsOf_length (sz := sz) es (fun e he => h e (by simp [he]))
    have hx := h x (by simp)
    simp only [cellsOf, List.flatMap_cons, List.length_append, List.length_cons, Nat.succ_mul] at ih ⊢
    rw [ih]; simp [hx]; omega

/-- the elements of a slice -/
def Els {α : Type} (E : ER α) (S : Nat → Prop) (w : World) (es : List Value) (l : List α) : Prop :=
  es.length = l.length ∧ ∀ (i : Nat) (e : Value) (x : α), es[i]? = some e → l[i]? = some x → E.R S w e x

theorem Els.sz {α : Type} {E : ER α} {S : Nat → Prop} {w : World} {es : List Value} {l : List α} (h : Els E S w es l) : ∀ e ∈ es, e.cells.size = E.sz := by
  intro e he
  obtain ⟨i, hi⟩ := List.mem_iff_getElem?.1 he
  have hlt : i < es.length := by
    rcases Nat.lt_or_ge i es.length with h | h
    · exact h
    · rw [List.getElem?_eq_none h] at hi; cases hi
  exact E.csz (h.2 i e _ hi (List.getElem?_eq_getElem (by rw [← h.1]; exact hlt)))
theorem Els.keep {α : Type} {E : ER α} {S : Nat → Prop} {w w' : World} {es : List Value} {l : List α} (hk : Kp S w w') (h : Els E S w es l) : Els E S w' es l :=
  ⟨h.1, fun i e x he hx => E.keep hk (h.2 i e x he hx)⟩
theorem Els.ext {α : Type} {E : ER α} {S : Nat → Prop} {w w' : World} {es : List Value} {l : List α} (h : Els E S w es l) (hx : Ext w w') : Els E S w' es l := h.keep (Kp.ext hx)
theorem Els.upd {α : Type} {E : ER α} {S : Nat → Prop} {w w' : World} {es : List Value} {l : List α} {b : Nat} (h : Els E S w es l) (hu : Upd w w' b) (hb : ¬ S b) : Els E S w' es l :=
  h.keep (Kp.upd hu hb)
theorem Els.nil {α : Type} {E : ER α} {S : Nat → Prop} {w : World} : Els E S w [] ([] : List α) := ⟨rfl, fun i e x he => by simp at he⟩
theorem Els.snoc {α : Type} {E : ER α} {S : Nat → Prop} {w : World} {es : List Value} {l : List α} {e : Value} {x : α} (h : Els E S w es l) (he : E.R S w e x) : Els E S w (es ++ [e]) (l ++ [x]) := by
  refine ⟨by simp [h.1], fun i e' x' h1 h2 => ?_⟩
  rcases Nat.lt_or_ge i es.length with hi | hi
  · rw [List.getElem?_append_left hi] at h1
    rw [List.getElem?_append_left (by rw [← h.1]; exact hi)] at h2
    exact h.2 i e' x' h1 h2
  · rw [List.getElem?_append_right hi] at h1
    rw [List.getElem?_append_right (by rw [← h.1]; exact hi)] at h2
    rw [h.1] at h1
    cases hk : i - l.length with
    | zero => rw [hk] at h1 h2; simp at h1 h2; subst h1; subst h2; exact he
    | succ k => rw [hk] at h1; simp at h1
theorem Els.set {α : Type} {E : ER α} {S : Nat → Prop} {w : World} {es : List Value} {l : List α} {e : Value} {x : α} (h : Els E S w es l) (i : Nat) (he : E.R S w e x) : Els E S w (es.set i e) (l.set i x) := by
  refine ⟨by simp [h.1], fun j e' x' h1 h2 => ?_⟩
  rw [List.getElem?_set] at h1 h2
  by_cases hij : i = j
  · subst hij
    rw [if_pos rfl] at h1 h2
    split at h1
    · split at h2
      · cases h1; cases h2; exact he
      · cases h2
    · cases h1
  · rw [if_neg hij] at h1 h2
    exact h.2 j e' x' h1 h2

def RL {α : Type} (E : ER α) (hsz : 0 < E.sz := by decide) : ER (List α) where
  sz := 1
  isA := false
  R := fun S w v l => ∃ es, Els E S w es l ∧ Row S w E.sz v l.length (cellsOf es)
  csz := by rintro S w e x ⟨es, _, a, c, rfl, _⟩; rfl
  one := by rintro S w e x ⟨es, _, a, c, rfl, _⟩ u hu; simp [Value.cells] at hu; subst hu; rfl
  shp := by rintro S w e x ⟨es, _, a, c, rfl, _⟩; rfl
  keep := fun hk ⟨es, h1, h2⟩ => ⟨es, h1.keep hk, h2.keep hk⟩
  mono := fun hk ⟨es, h1, h2⟩ => ⟨es, ⟨h1.1, fun i e x he hx => E.mono hk (h1.2 i e x he hx)⟩, h2.mono hsz hk⟩

/-- an address at which an element lies -/
def PtrTo {α : Type} (E : ER α) (S : Nat → Prop) (w : World) (p : Addr) (x : α) : Prop :=
  ∃ e, E.R S w e x ∧ S p.block ∧ ∀ j u, e.cells[j]? = some u → w.cell? (p.add j) = some u

theorem PtrTo.keep {α : Type} {E : ER α} {S : Nat → Prop} {w w' : World} {p : Addr} {x : α} (hk : Kp S w w') (h : PtrTo E S w p x) : PtrTo E S w' p x := by
  obtain ⟨e, h1, h2, h3⟩ := h
  refine ⟨e, E.keep hk h1, h2, fun j u hu => ?_⟩
  exact hk.cell (p := p.add j) (by rw [block_add]; exact h2) (h3 j u hu)
theorem PtrTo.ext {α : Type} {E : ER α} {S : Nat → Prop} {w w' : World} {p : Addr} {x : α} (h : PtrTo E S w p x) (e : Ext w w') : PtrTo E S w' p x := h.keep (Kp.ext e)

section
variable {α : Type} {E : ER α} {hsz : 0 < E.sz} {S : Nat → Prop} {w : World} {v : Value} {l : List α}

theorem RL.len (h : (RL E hsz).R S w v l) : ∃ a c, v = .slice a l.length c ∧ l.length ≤ c ∧ l.length ≤ 9223372036854775807 := by
  obtain ⟨es, _, a, c, hv, h1, h2, _⟩ := h
  exact ⟨a, c, hv, h1, h2⟩

theorem RL.at_ (h : (RL E hsz).R S w v l) {i : Nat} {x : α} (hi : l[i]? = some x) : ∃ ad c, v = .slice (some ad) l.length c ∧ l.length ≤ c ∧ PtrTo E S w (ad.add (i * E.sz)) x := by
  obtain ⟨es, h1, a, c, hv, h2, _, h3, h4⟩ := h
  have hlt : i < l.length := by
    rcases Nat.lt_or_ge i l.length with h | h
    · exact h
    · rw [List.getElem?_eq_none h] at hi; cases hi
  obtain ⟨ad, ha, hS, hc⟩ := h4 (by omega)
  subst ha
  obtain ⟨e, he⟩ : ∃ e, es[i]? = some e := ⟨_, List.getElem?_eq_getElem (by rw [h1.1]; exact hlt)⟩
  refine ⟨ad, c, hv, h2, e, h1.2 i e x he hi, by rw [block_add]; exact hS, fun j u hu => ?_⟩
  rw [add_add]
  refine hc _ u ?_
  have hj : j < E.sz := by
    have hs := h1.sz e (List.mem_iff_getElem?.2 ⟨i, he⟩)
    rcases Nat.lt_or_ge j e.cells.size with h | h
    · omega
    · rw [Array.getElem?_eq_none h] at hu; cases hu
  rw [cellsOf_get es i j e h1.sz he hj]; exact hu

theorem RL.nil {a : Option Addr} {c : Nat} : (RL E hsz).R S w (.slice a 0 c) [] :=
  ⟨[], Els.nil, a, c, rfl, Nat.zero_le _, Nat.zero_le _, by simp [cellsOf], fun h => absurd h (Nat.lt_irrefl 0)⟩

/-- out of a block of the call's own -/
theorem RL.ofBlk {b : Nat} {t : TypeId} {cs : Array Value} {es : List Value} {c : Nat} (hb : Blk w b t cs) (hS : S b) (he : Els E S w es l) (hcs : ∀ (j : Nat) (u : Value), (cellsOf es)[j]? = some u → cs[j]? = some u) (hc : l.length ≤ c) (hm : l.length ≤ 9223372036854775807) :
    (RL E hsz).R S w (.slice (some ⟨b, 0, none⟩) l.length c) l :=
  ⟨es, he, _, c, rfl, hc, hm, by rw [cellsOf_length es he.sz, he.1], fun _ => ⟨_, rfl, hS, fun j u hu => by rw [add_mk, Nat.zero_add, hb.cell]; exact hcs j u hu⟩⟩

theorem RL.sub (h : (RL E hsz).R S w v l) {a : Option Addr} {n c : Nat} (hv : v = .slice a n c) (lo hi : Nat) (h1 : lo ≤ hi) (h2 : hi ≤ l.length) :
    (RL E hsz).R S w (.slice (if c = lo then a else a.map (·.add (lo * E.sz))) (hi - lo) (c - lo)) ((l.take hi).drop lo) := by
  obtain ⟨es, he, a', c', hv', h3, h4, h5, h6⟩ := h
  rw [hv'] at hv
  injection hv with e1 e2 e3
  subst e1; subst e2; subst e3
  have hlen : ((l.take hi).drop lo).length = hi - lo := by simp; omega
  have hsz' : ∀ e ∈ (es.take hi).drop lo, e.cells.size = E.sz := fun e hx => he.sz e (List.mem_of_mem_take (List.mem_of_mem_drop hx))
  have hel : ((es.take hi).drop lo).length = hi - lo := by simp [he.1]; omega
  refine ⟨(es.take hi).drop lo, ⟨by rw [hlen, hel], fun i e x hx1 hx2 => ?_⟩, _, c' - lo, by rw [hlen], by rw [hlen]; omega, by rw [hlen]; omega, ?_, fun hn => ?_⟩
  · rw [List.getElem?_drop, List.getElem?_take] at hx1 hx2
    split at hx1
    · rename_i hlt; rw [if_pos hlt] at hx2; exact he.2 _ e x hx1 hx2
    · cases hx1
  · rw [cellsOf_length _ hsz', hel, hlen]
  · rw [hlen] at hn
    obtain ⟨ad, rfl, hS, hc⟩ := h6 (by omega)
    rw [if_neg (by omega)]
    refine ⟨ad.add (lo * E.sz), rfl, by rw [block_add]; exact hS, fun j u hu => ?_⟩
    rw [add_add]
    refine hc _ u ?_
    have hj : j < (hi - lo) * E.sz := by
      rcases Nat.lt_or_ge j ((hi - lo) * E.sz) with h | h
      · exact h
      · rw [List.getElem?_eq_none (by rw [cellsOf_length _ hsz', hel]; exact h)] at hu; cases hu
    have hq : j / E.sz < hi - lo := (Nat.div_lt_iff_lt_mul hsz).2 hj
    have hr : j % E.sz < E.sz := Nat.mod_lt _ hsz
    have hjd : j = (j / E.sz) * E.sz + j % E.sz := by rw [Nat.mul_comm]; exact (Nat.div_add_mod j E.sz).symm
    obtain ⟨e, hee⟩ : ∃ e, ((es.take hi).drop lo)[j / E.sz]? = some e := ⟨_, List.getElem?_eq_getElem (by rw [hel]; exact hq)⟩
    have hg := cellsOf_get _ (j / E.sz) (j % E.sz) e hsz' hee hr
    rw [← hjd, hu] at hg
    have hee' : es[lo + j / E.sz]? = some e := by
      rw [List.getElem?_drop, List.getElem?_take] at hee
      split at hee
      · exact hee
      · cases hee
    have hg2 := cellsOf_get es (lo + j / E.sz) (j % E.sz) e he.sz hee' hr
    rw [← hg] at hg2
    rw [← hg2]
    congr 1
    rw [Nat.add_mul]
    omega
end
end Go.Kx

namespace Go.Kx
open Go Go.RowKit

/-! which blocks -/
def Up (S : Nat → Prop) (w : World) : Prop := ∀ k, w.heap.size ≤ k → S k
theorem Up.ext {S : Nat → Prop} {w w' : World} (h : Up S w) (e : w.heap.size ≤ w'.heap.size) : Up S w' := fun k hk => h k (by omega)
/-- S but for the blocks B .. C-1 -/
def Sx (S : Nat → Prop) (B C : Nat) : Nat → Prop := fun k => S k ∧ (k < B ∨ C ≤ k)
theorem Sx.up {S : Nat → Prop} {w w1 : World} {B C : Nat} (h : Up S w) (h1 : C ≤ w1.heap.size) (h2 : w.heap.size ≤ w1.heap.size) : Up (Sx S B C) w1 := fun k hk => ⟨h k (by omega), .inr (by omega)⟩
theorem Sx.no {S : Nat → Prop} {B C b : Nat} (h1 : B ≤ b) (h2 : b < C) : ¬ Sx S B C b := fun h => by rcases h.2 with h | h <;> omega
section
variable {α : Type} (E : ER α)
theorem ER.par {S : Nat → Prop} {w : World} {v : Value} {x : α} (h : E.R S w v x) (C : Nat) : E.R (Sx S w.heap.size C) w v x := E.mono (fun _ hk hs => ⟨hs, .inl hk⟩) h
theorem ER.lt {S : Nat → Prop} {w : World} {v : Value} {x : α} (h : E.R S w v x) : E.R (fun k => S k ∧ k < w.heap.size) w v x := E.mono (fun _ hk hs => ⟨hs, hk⟩) h
theorem ER.out {S : Nat → Prop} {B C : Nat} {w : World} {v : Value} {x : α} (h : E.R (Sx S B C) w v x) : E.R S w v x := E.mono (fun _ _ hs => hs.1) h
end

section
variable {P : Program} {σ : Env} {w : World} {d : Option Tmp} {ty : TypeId} {pos : String} {af : Array Edge} {g : Option (Nat × Bool)} {α : Type} {E : ER α} {hsz : 0 < E.sz} {S : Nat → Prop} {v : Value} {l : List α}

theorem v_lenR {t e : TypeId} {x : Operand} (ht : P.underlying t = some (.slice e)) (hx : ev σ x = some v) (h : (RL E hsz).R S w v l) :
    Vl P ⟨d, .call { callee := .builtin .len, args := #[x], argTypes := #[t] }, ty, pos, af, g⟩ σ w (.int .i64 l.length) := by
  obtain ⟨a, c, hv, _⟩ := RL.len h
  exact v_len ht (by rw [hx, hv])

/-- the address of an element -/
theorem g_ix {t e : TypeId} {x ix : Operand} {k : IntKind} {i : Int} {b : Bool} {y : α} (ht : P.underlying t = some (.slice e)) (he : tyOf P e = some (b, E.sz)) (hx : ev σ x = some v) (h : (RL E hsz).R S w v l)
    (hi : ev σ ix = some (.int k i)) (h0 : 0 ≤ i) (hy : l[i.toNat]? = some y) :
    Gv P ⟨d, .indexAddr t x ix, ty, pos, af, g⟩ σ w fun v' w' => w' = w ∧ ∃ p, v' = .pointer (some p) ∧ PtrTo E S w p y := by
  refine ⟨(by intro _ h; cases h), fun ρ hρ => .inl ?_⟩
  obtain ⟨ad, c, hv, hc, hp⟩ := RL.at_ h hy
  have h1 := hρ x _ (by simp [Op.operands]) hx
  have h2 := hρ ix _ (by simp [Op.operands]) hi
  have hlt : i.toNat < l.length := by
    rcases Nat.lt_or_ge i.toNat l.length with h | h
    · exact h
    · rw [List.getElem?_eq_none h] at hy; cases hy
  refine ⟨_, w, ?_, rfl, _, rfl, hp⟩
  have hlt' : i < (l.length : Int) := by omega
  simp [execOp, h1, h2, hv, Instr.indexAt, asIntOf, run_underlying ht, h0, hlt', (tyOf_agg he w).2]
theorem PtrTo.run {t : TypeId} {p : Addr} {y : α} (ht : tyOf P t = some (E.isA, E.sz)) (hp : PtrTo E S w p y) : ∃ e, (loadVar t p).run P w = .ok e w ∧ E.R S w e y := by
  obtain ⟨e, h1, _, h3⟩ := hp
  have hs := E.shp h1
  refine ⟨e, ?_, h1⟩
  cases hA : E.isA with
  | true =>
    rw [hA] at hs ht
    simp only [cond_true] at hs
    have := run_loadVarN (P := P) (w := w) (p := p) (cs := e.cells.toList) (t := t) (by rw [ht]; simp [E.csz h1]) (fun j u hu => h3 j u (by simpa using hu))
    rw [this, hs]; simp [Value.cells]
  | false =>
    rw [hA] at hs ht
    simp only [cond_false] at hs
    have h0 : e.cells[0]? = some e := by cases e <;> simp_all [one1, Value.cells]
    have := h3 0 e h0
    rw [show p.add 0 = p from rfl] at this
    exact run_loadVar1 ht this
/-- the element there -/
theorem g_ldE {t : TypeId} {x : Operand} {p : Addr} {y : α} (ht : tyOf P t = some (E.isA, E.sz)) (hx : ev σ x = some (.pointer (some p))) (hp : PtrTo E S w p y) :
    Gv P ⟨d, .load t x, ty, pos, af, g⟩ σ w fun v' w' => w' = w ∧ E.R S w v' y := by
  refine ⟨(by intro _ h; cases h), fun ρ hρ => .inl ?_⟩
  have h1 := hρ x _ (by simp [Op.operands]) hx
  obtain ⟨e, hr, he⟩ := PtrTo.run ht hp
  exact ⟨e, w, by simp [execOp, h1, Instr.loadAt, Instr.sureAddr, hr], rfl, he⟩
/-- s[lo:hi] -/
theorem g_cut {t e : TypeId} {x : Operand} {b : Bool} (lo hi : Option Operand) (L H : Nat) (ht : P.underlying t = some (.slice e)) (he : tyOf P e = some (b, E.sz)) (hx : ev σ x = some v) (h : (RL E hsz).R S w v l)
    (hlo : match lo with | none => L = 0 | some y => ∃ k, ev σ y = some (.int k (L : Int))) (hhi : match hi with | none => H = l.length | some y => ∃ k, ev σ y = some (.int k (H : Int))) (h1 : L ≤ H) (h2 : H ≤ l.length) :
    Gv P ⟨d, .slice t x lo hi none, ty, pos, af, g⟩ σ w fun v' w' => w' = w ∧ (RL E hsz).R S w v' ((l.take H).drop L) := by
  refine ⟨(by intro _ h; cases h), fun ρ hρ => .inl ?_⟩
  obtain ⟨a, c, hv, hc, _⟩ := RL.len h
  have e1 := hρ x _ (by simp [Op.operands]) hx
  refine ⟨_, w, ?_, rfl, RL.sub h hv L H h1 h2⟩
  have hlc : H ≤ c := by omega
  have hb1 : (Instr.sliceBounds true l.length c (lo.map ρ) (hi.map ρ) none).run P w = .ok (L, H, c) w := by
    cases lo with
    | none =>
      cases hi with
      | none => simp at hlo hhi; subst hlo; subst hhi; simp [Instr.sliceBounds]
      | some y =>
        simp at hlo
        obtain ⟨k, hk⟩ := hhi
        have := hρ y _ (by simp [Op.operands]) hk
        subst hlo
        simp [Instr.sliceBounds, Instr.sliceBound, this, asIntOf, Int.ofNat_le, hlc]
    | some z =>
      obtain ⟨k', hk'⟩ := hlo
      have e2 := hρ z _ (by simp [Op.operands]) hk'
      cases hi with
      | none =>
        simp at hhi; subst hhi
        simp [Instr.sliceBounds, Instr.sliceBound, e2, asIntOf, h1]
      | some y =>
        obtain ⟨k, hk⟩ := hhi
        have := hρ y _ (by simp [Op.operands]) hk
        simp [Instr.sliceBounds, Instr.sliceBound, this, e2, asIntOf, hlc, h1]
  simp [execOp, e1, hv, Instr.sliceAt, run_underlying ht, Instr.slice, hb1, (tyOf_agg he w).2]
end

/-! a new array -/
theorem madeCells_eq (z : Value) (n sz : Nat) (hz : z.cells.size = sz) (hsz : 0 < sz) : madeCells z.cells (n * sz) = (cellsOf (List.replicate n z)).toArray := by
  have hall : ∀ e ∈ List.replicate n z, e.cells.size = sz := fun e he => by rw [(List.mem_replicate.1 he).2]; exact hz
  apply Array.ext_getElem?
  intro i
  have hR : (cellsOf (List.replicate n z)).toArray[i]? = (cellsOf (List.replicate n z))[i]? := List.getElem?_toArray
  rw [hR]
  rcases Nat.lt_or_ge i (n * sz) with hi | hi
  · have hq : i / sz < n := (Nat.div_lt_iff_lt_mul hsz).2 hi
    have hr : i % sz < sz := Nat.mod_lt _ hsz
    have he : (List.replicate n z)[i / sz]? = some z := by rw [List.getElem?_replicate, if_pos hq]
    have := cellsOf_get (List.replicate n z) (i / sz) (i % sz) z hall he hr
    rw [show (i / sz) * sz + i % sz = i by rw [Nat.mul_comm]; exact Nat.div_add_mod i sz] at this
    rw [this]
    simp [madeCells, hi, hz, hr]
  · rw [Array.getElem?_eq_none (by simp [madeCells]; omega), List.getElem?_eq_none (by rw [cellsOf_length _ hall]; simpa using hi)]

def infoOf (P : Program) (t : TypeId) : Option (Value × Nat × Nat) := (P.info? t).bind fun i => i.zero.map fun z => (z, i.size, i.bytes)
theorem infoOf_parts {P : Program} {t : TypeId} {z : Value} {sz by_ : Nat} (h : infoOf P t = some (z, sz, by_)) : ∃ i, P.info? t = some i ∧ i.zero = some z ∧ i.size = sz ∧ i.bytes = by_ := by
  unfold infoOf at h
  cases hi : P.info? t with
  | none => rw [hi] at h; cases h
  | some i =>
    rw [hi] at h
    simp only [Option.bind_some, Option.map_eq_some_iff, Prod.mk.injEq] at h
    obtain ⟨z', h1, h2, h3, h4⟩ := h
    exact ⟨i, rfl, by rw [h1, h2], h3, h4⟩

section
variable {P : Program} {σ : Env} {w : World} {d : Option Tmp} {ty : TypeId} {pos : String} {af : Array Edge} {g : Option (Nat × Bool)}

theorem g_make {t e : TypeId} {x y : Operand} {z : Value} {sz by_ : Nat} (n c : Nat) {k k' : IntKind} (ht : P.underlying t = some (.slice e)) (hi : infoOf P e = some (z, sz, by_)) (hzs : z.cells.size = sz) (hsz : 0 < sz)
    (hx : ev σ x = some (.int k (n : Int))) (hy : ev σ y = some (.int k' (c : Int))) (hnc : n ≤ c) (hby : by_ * c ≤ 281474976710656) (hc : c ≤ 9223372036854775807) :
    Gv P ⟨d, .makeSlice t x y, ty, pos, af, g⟩ σ w fun v' w' => ∃ b, v' = .slice (some ⟨b, 0, none⟩) n c ∧ New w w' b e (cellsOf (List.replicate c z)).toArray := by
  obtain ⟨i, hi0, hi1, hi2, hi3⟩ := infoOf_parts hi
  refine ⟨(by intro _ h; cases h), fun ρ hρ => .inl ?_⟩
  have e1 := hρ x _ (by simp [Op.operands]) hx
  have e2 := hρ y _ (by simp [Op.operands]) hy
  have hb' : (i.bytes : Int) * (c : Int) ≤ 281474976710656 := by
    rw [hi3, ← Int.natCast_mul]
    omega
  have hr := run_make (P := P) w t e i z ht hi0 hi1 k k' n c (by omega) (by omega) hb' (by omega)
  rw [hi2, Int.toNat_natCast, Int.toNat_natCast, madeCells_eq z c sz hzs hsz] at hr
  exact ⟨_, _, by simp [execOp, e1, e2, hr], _, rfl, new_alloc w e _⟩

theorem oneCell'_of {v : Value} (h : one1 v = true) : v.oneCell' = true := by cases v <;> simp_all [one1, Value.oneCell']

/-- append of one or more elements to a slice of the call's own; the source is not nil -/
theorem g_app {t e : TypeId} {x y : Operand} {z : Value} {sz by_ base : Nat} {v : Value} {n : Nat} {xs : List Value} {a : Addr} {m c : Nat} (news : List Value) (ht : P.underlying t = some (.slice e)) (hi : infoOf P e = some (z, sz, by_))
    (hzs : z.cells.size = sz) (hsz : 0 < sz) (hx : ev σ x = some v) (hy : ev σ y = some (.slice (some a) m c)) (hown : w.ownsRow base e sz v n xs)
    (hl : news.length = m * sz) (hnews : ∀ j u, news[j]? = some u → w.cell? (a.add j) = some u) (h1 : ∀ u ∈ news, one1 u = true) (h63 : n + m ≤ 9223372036854775807) (hby : (n + m) * by_ ≤ 140737488355328) (hbase : base ≤ w.heap.size) :
    Gv P ⟨d, .call { callee := .builtin .append, args := #[x, y], argTypes := #[t, t] }, ty, pos, af, g⟩ σ w fun v' w' => w'.ownsRow base e sz v' (n + m) (xs ++ news) ∧ w.grownBy w' v.ownBlock := by
  obtain ⟨i, hi0, hi1, hi2, hi3⟩ := infoOf_parts hi
  refine ⟨(by intro _ h; cases h), fun ρ hρ => .inl ?_⟩
  have e1 := hρ x _ (by simp [Op.operands, Call.operands]) hx
  have e2 := hρ y _ (by simp [Op.operands, Call.operands]) hy
  obtain ⟨v', w', hr, h2, h3, _⟩ := run_append_own (P := P) w base t ty e i z sz by_ ht hi0 hi1 hi2 hi3 hzs hsz v n xs hown a m c news hl hnews (fun u hu => oneCell'_of (h1 u hu)) (by simpa [maxLen] using h63) hby hbase
  exact ⟨v', w', by simp [execOp, resolve, invoke, builtin, e1, e2, hr], h2, h3⟩
/-- the source is nil -/
theorem g_app0 {t e : TypeId} {x y : Operand} {z : Value} {sz by_ base : Nat} {v : Value} {n : Nat} {xs : List Value} {c : Nat} (ht : P.underlying t = some (.slice e)) (hi : infoOf P e = some (z, sz, by_))
    (hx : ev σ x = some v) (hy : ev σ y = some (.slice none 0 c)) (hown : w.ownsRow base e sz v n xs) :
    Vl P ⟨d, .call { callee := .builtin .append, args := #[x, y], argTypes := #[t, t] }, ty, pos, af, g⟩ σ w v := by
  obtain ⟨i, hi0, hi1, hi2, hi3⟩ := infoOf_parts hi
  refine ⟨(by intro _ h; cases h), fun ρ hρ => ?_⟩
  have e1 := hρ x _ (by simp [Op.operands, Call.operands]) hx
  have e2 := hρ y _ (by simp [Op.operands, Call.operands]) hy
  have hr : (Builtin.append_ #[t, t] ty #[v, .slice none 0 c]).run P w = .ok v w := by
    rcases hown.2 with ⟨rfl, rfl⟩ | ⟨g, cap, cur, rfl, _, _, hnc, _⟩
    · simp [Builtin.append_, run_underlying ht, sizeOf, typeInfo, hi0, Builtin.lenOf, Builtin.firstCells]
    · simp [Builtin.append_, run_underlying ht, sizeOf, typeInfo, hi0, Builtin.lenOf, Builtin.firstCells, hnc, storeCells]
  simp [execOp, resolve, invoke, builtin, e1, e2, hr]

end

/-! literals -/
def plcOf (P : Program) : List Field → Option (List (Nat × Nat))
  | [] => some []
  | f :: fs => match P.info? f.type, plcOf P fs with
    | some j, some r => some ((f.offset, j.size) :: r)
    | _, _ => none
theorem run_plc {P : Program} {w : World} : ∀ (fs : List Field) (r : List (Nat × Nat)), plcOf P fs = some r → (fs.mapM (m := Sem) fun f => do pure (f.offset, ← sizeOf f.type)).run P w = .ok r w
  | [], r, h => by simp [plcOf] at h; subst h; simp
  | f :: fs, r, h => by
    unfold plcOf at h
    split at h
    · rename_i j r' hj hr
      cases h
      have ih := run_plc (P := P) (w := w) fs r' hr
      have hs : (sizeOf f.type).run P w = .ok j.size w := by simp [sizeOf, typeInfo, hj]
      simp only [List.mapM_cons, Sem.run_bind, hs, Sem.run_pure, Result.andThen_ok, ih]
    · cases h
def bldOf (P : Program) (t : TypeId) (parts : List (Nat × Value)) : Option (Array Value) :=
  match P.underlying t with
  | some (.struct fs) => match zeroOf P t, plcOf P fs.toList with
    | some z, some r => Instr.fill (r.toArray[·]?) z.cells parts
    | _, _ => none
  | _ => none

def evp (σ : Env) : List (Nat × Operand) → Option (List (Nat × Value))
  | [] => some []
  | (i, x) :: r => match ev σ x, evp σ r with
    | some v, some vs => some ((i, v) :: vs)
    | _, _ => none
theorem evp_map {σ : Env} {ρ : Operand → Value} : ∀ {ps : List (Nat × Operand)} {vs : List (Nat × Value)}, (∀ x v, x ∈ ps.map (·.2) → ev σ x = some v → ρ x = v) → evp σ ps = some vs → ps.map (fun p => (p.1, ρ p.2)) = vs
  | [], vs, _, h => by simp [evp] at h; subst h; rfl
  | (i, x) :: r, vs, hρ, h => by
    unfold evp at h
    split at h
    · rename_i v vs' hv hvs
      cases h
      simp only [List.map_cons, List.cons.injEq, Prod.mk.injEq, true_and]
      exact ⟨hρ x v (by simp) hv, evp_map (fun y u hy => hρ y u (by simp only [List.map_cons, List.mem_cons]; exact .inr hy)) hvs⟩
    · cases h

section
variable {P : Program} {σ : Env} {w : World} {d : Option Tmp} {ty : TypeId} {pos : String} {af : Array Edge} {g : Option (Nat × Bool)}

theorem v_bld {t : TypeId} {ps : List (Nat × Operand)} (vs : List (Nat × Value)) {cs : Array Value} (hv : evp σ ps = some vs) (hc : bldOf P t vs = some cs) : Vl P ⟨d, .build t ps.toArray, ty, pos, af, g⟩ σ w (.agg cs) := by
  refine ⟨(by intro _ h; cases h), fun ρ hρ => ?_⟩
  have hm := evp_map (ρ := ρ) (fun x v hx => hρ x v (by simpa [Op.operands] using hx)) hv
  have hm' : (ps.toArray.map fun (i, x) => (i, ρ x)) = vs.toArray := by
    apply Array.toList_inj.1
    simpa using hm
  unfold bldOf at hc
  split at hc
  · rename_i fs hfs
    split at hc
    · rename_i z r hz hr
      unfold zeroOf at hz
      cases hi : P.info? t with
      | none => rw [hi] at hz; cases hz
      | some i =>
        rw [hi] at hz
        have hz' : i.zero = some z := hz
        have hp := run_plc (P := P) (w := w) fs.toList r hr
        have hp' : (fs.mapM (m := Sem) fun f => do pure (f.offset, ← sizeOf f.type)).run P w = .ok r.toArray w := by
          have : fs = fs.toList.toArray := by simp
          rw [this, List.mapM_toArray]
          simp only [map_eq_pure_bind, Sem.run_bind, hp, Result.andThen_ok, Sem.run_pure]
        simp only [execOp, Instr.build, hm', zeroValue, typeInfo, program, Sem.run_bind, Sem.run, hi, Sem.run_pure, Result.andThen_ok, hz', run_underlying hfs, hp', hc]
    · cases hc
  · cases hc

def bslOf (P : Program) (t : TypeId) (len : Nat) (parts : List (Nat × Value)) : Option (TypeId × Array Value) :=
  match P.underlying t with
  | some (.slice e) => match infoOf P e with
    | some (z, sz, _) => if len * sz > 2 ^ 24 then none else
      match Instr.fill (fun i => some (i * sz, sz)) ((Array.range (len * sz)).map ((if len * sz = 0 then #[] else z.cells)[· % (if len * sz = 0 then #[] else z.cells).size]!)) parts with
      | some cs => some (e, cs)
      | none => none
    | none => none
  | _ => none
theorem g_bsl {t e : TypeId} {len : Nat} {ps : List (Nat × Operand)} (vs : List (Nat × Value)) {cs : Array Value} (hv : evp σ ps = some vs) (hc : bslOf P t len vs = some (e, cs)) :
    Gv P ⟨d, .buildSlice t len ps.toArray, ty, pos, af, g⟩ σ w fun v' w' => ∃ b, v' = .slice (some ⟨b, 0, none⟩) len len ∧ New w w' b e cs := by
  refine ⟨(by intro _ h; cases h), fun ρ hρ => .inl ?_⟩
  have hm := evp_map (ρ := ρ) (fun x v hx => hρ x v (by simpa [Op.operands] using hx)) hv
  have hm' : (ps.toArray.map fun (i, x) => (i, ρ x)) = vs.toArray := by
    apply Array.toList_inj.1
    simpa using hm
  refine ⟨_, _, ?_, w.heap.size, rfl, new_alloc w e cs⟩
  unfold bslOf at hc
  split at hc
  · rename_i el hel
    split at hc
    · rename_i z sz by_ hi
      obtain ⟨i, hi0, hi1, hi2, hi3⟩ := infoOf_parts hi
      split at hc
      · cases hc
      · rename_i hle
        split at hc
        · rename_i cs' hf
          cases hc
          by_cases h0 : len * sz = 0
          · simp [h0, Array.range_zero'] at hf
            simp [execOp, Instr.buildSlice, hm', run_underlying hel, sizeOf, typeInfo, hi0, hi2, h0, hf, newRow, Array.range_zero']
          · simp only [h0, if_false] at hf
            simp [execOp, Instr.buildSlice, hm', run_underlying hel, sizeOf, typeInfo, hi0, hi2, h0, hf, newRow, zeroValue, hi1]
            omega
        · cases hc
    · cases hc
  · cases hc
/-- a field of a struct's value -/
def prtOf (P : Program) (t : TypeId) (cs : Array Value) (i : Nat) : Option Value :=
  match P.underlying t with
  | some (.struct fs) => match fs[i]? with
    | some f => match tyOf P f.type with
      | some (true, n) => some (.agg (cs.extract f.offset (f.offset + n)))
      | some (false, _) => cs[f.offset]?
      | none => none
    | none => none
  | _ => none
theorem v_fd {t : TypeId} {x : Operand} {i : Nat} {cs : Array Value} {v : Value} (hx : ev σ x = some (.agg cs)) (hp : prtOf P t cs i = some v) : Vl P ⟨d, .field t x i, ty, pos, af, g⟩ σ w v := by
  refine ⟨(by intro _ h; cases h), fun ρ hρ => ?_⟩
  have h1 := hρ x _ (by simp [Op.operands]) hx
  unfold prtOf at hp
  split at hp
  · rename_i fs hfs
    split at hp
    · rename_i f hff
      split at hp
      · rename_i n hn
        cases hp
        simp [execOp, h1, Instr.field, run_underlying hfs, hff, part, asAgg, (tyOf_agg hn w).1, (tyOf_agg hn w).2]
      · rename_i n hn
        simp [execOp, h1, Instr.field, run_underlying hfs, hff, part, asAgg, (tyOf_agg hn w).1, hp]
      · cases hp
    · cases hp
  · cases hp
end
end Go.Kx

namespace Go.Kx

def val : List Nat → Nat
  | [] => 0
  | x :: r => x + 4294967296 * val r

def dig (l : List Nat) : Prop := ∀ x ∈ l, x < 4294967296

def wds (n : Nat) : List Nat := if h : n = 0 then [] else n % 4294967296 :: wds (n / 4294967296)
  termination_by n
  decreasing_by exact Nat.div_lt_self (by omega) (by omega)

def trimL (l : List Nat) : List Nat := (l.reverse.dropWhile (· == 0)).reverse
theorem trimL_snoc0 (l : List Nat) : trimL (l ++ [0]) = trimL l := by simp [trimL]
theorem trimL_snoc (l : List Nat) (x : Nat) (h : x ≠ 0) : trimL (l ++ [x]) = l ++ [x] := by
  have : (x == 0) = false := by simpa using h
  simp [trimL, this]

theorem val_append (l r : List Nat) : val (l ++ r) = val l + 4294967296 ^ l.length * val r := by
  induction l with
  | nil => simp [val]
  | cons x l ih =>
    simp only [List.cons_append, val, ih, List.length_cons, Nat.pow_succ]
    rw [Nat.mul_add, Nat.add_assoc]
    congr 2
    rw [← Nat.mul_assoc, Nat.mul_comm 4294967296]

theorem val_lt {l : List Nat} (h : dig l) : val l < 4294967296 ^ l.length := by
  induction l with
  | nil => simp [val]
  | cons x l ih =>
    have h1 := h x (by simp)
    have h2 := ih (fun y hy => h y (by simp [hy]))
    simp only [val, List.length_cons, Nat.pow_succ]
    generalize 4294967296 ^ l.length = p at *
    omega

theorem wds_zero : wds 0 = [] := by unfold wds; simp
theorem wds_pos {n : Nat} (h : n ≠ 0) : wds n = n % 4294967296 :: wds (n / 4294967296) := by rw [wds]; simp [h]

theorem val_wds (n : Nat) : val (wds n) = n := by
  induction n using Nat.strongRecOn with
  | _ n ih =>
    by_cases h : n = 0
    · subst h; simp [wds_zero, val]
    · rw [wds_pos h, val, ih _ (Nat.div_lt_self (by omega) (by omega))]
      omega

theorem dig_wds (n : Nat) : dig (wds n) := by
  induction n using Nat.strongRecOn with
  | _ n ih =>
    by_cases h : n = 0
    · subst h; simp [wds_zero, dig]
    · rw [wds_pos h]
      intro x hx
      rcases List.mem_cons.1 hx with rfl | hx
      · omega
      · exact ih _ (Nat.div_lt_self (by omega) (by omega)) x hx

/-- no zero word at the end -/
def can (l : List Nat) : Prop := ∀ x, l.getLast? = some x → x ≠ 0

theorem can_nil : can [] := by simp [can]
theorem can_trimL (l : List Nat) : can (trimL l) := by
  intro x hx
  unfold trimL at hx
  rw [List.getLast?_reverse] at hx
  have := List.head?_dropWhile_not (p := fun y : Nat => y == 0) (l := l.reverse)
  intro h0
  subst h0
  simp [hx] at this

theorem wds_ne_nil {n : Nat} (h : n ≠ 0) : wds n ≠ [] := by rw [wds_pos h]; simp

/-- the canonical words of a value -/
theorem wds_of_can {l : List Nat} (hd : dig l) (hc : can l) : wds (val l) = l := by
  induction l with
  | nil => simp [val, wds_zero]
  | cons x l ih =>
    have hx := hd x (by simp)
    have hdl : dig l := fun y hy => hd y (by simp [hy])
    have hcl : can l := by
      intro y hy
      refine hc y ?_
      cases l with
      | nil => simp at hy
      | cons z r => rw [List.getLast?_cons_cons]; exact hy
    have ih' := ih hdl hcl
    have hne : val (x :: l) ≠ 0 := by
      intro h0
      simp only [val] at h0
      have hv : val l = 0 := by omega
      have hl : l = [] := by rw [← ih', hv, wds_zero]
      subst hl
      exact hc x (by simp) (by omega)
    rw [wds_pos hne]
    have e1 : val (x :: l) % 4294967296 = x := by simp only [val]; omega
    have e2 : val (x :: l) / 4294967296 = val l := by simp only [val]; omega
    rw [e1, e2, ih']

theorem trimL_cases (l : List Nat) : ∃ k, l = trimL l ++ List.replicate k 0 := by
  induction h : l.length generalizing l with
  | zero => have : l = [] := List.length_eq_zero_iff.1 h; subst this; exact ⟨0, rfl⟩
  | succ n ih =>
    rcases List.eq_nil_or_concat l with rfl | ⟨r, x, rfl⟩
    · simp at h
    · rw [List.concat_eq_append] at *
      by_cases h0 : x = 0
      · subst h0
        obtain ⟨k, hk⟩ := ih r (by simpa using h)
        refine ⟨k + 1, ?_⟩
        rw [trimL_snoc0, List.replicate_succ', ← List.append_assoc, ← hk]
      · exact ⟨0, by rw [trimL_snoc _ _ h0]; simp⟩

theorem val_replicate0 (k : Nat) : val (List.replicate k 0) = 0 := by
  induction k with
  | zero => rfl
  | succ k ih => simp [List.replicate_succ, val, ih]
theorem val_trimL (l : List Nat) : val (trimL l) = val l := by
  obtain ⟨k, hk⟩ := trimL_cases l
  have : val l = val (trimL l ++ List.replicate k 0) := by rw [← hk]
  rw [this, val_append, val_replicate0]; simp
theorem dig_trimL {l : List Nat} (h : dig l) : dig (trimL l) := by
  obtain ⟨k, hk⟩ := trimL_cases l
  intro x hx
  exact h x (by rw [hk]; simp [hx])
theorem trimL_eq {l : List Nat} (h : dig l) : trimL l = wds (val l) := by
  rw [← val_trimL l]; exact (wds_of_can (dig_trimL h) (can_trimL l)).symm
theorem can_wds (n : Nat) : can (wds n) := by
  have := trimL_eq (dig_wds n)
  rw [val_wds] at this
  rw [← this]; exact can_trimL _
theorem trimL_wds (n : Nat) : trimL (wds n) = wds n := by rw [trimL_eq (dig_wds n), val_wds]

theorem length_trimL (l : List Nat) : (trimL l).length ≤ l.length := by
  obtain ⟨k, hk⟩ := trimL_cases l
  have := congrArg List.length hk
  simp at this
  omega
theorem wds_length {n L : Nat} (h : n < 4294967296 ^ L) : (wds n).length ≤ L := by
  induction L generalizing n with
  | zero =>
    have : n = 0 := by simpa using h
    subst this; simp [wds_zero]
  | succ L ih =>
    by_cases h0 : n = 0
    · subst h0; simp [wds_zero]
    · rw [wds_pos h0, List.length_cons]
      have : n / 4294967296 < 4294967296 ^ L := by
        rw [Nat.div_lt_iff_lt_mul (by omega)]
        rw [Nat.pow_succ] at h; exact h
      have := ih this
      omega
theorem wds_lt (n : Nat) : n < 4294967296 ^ (wds n).length := by
  have := val_lt (dig_wds n)
  rwa [val_wds] at this
theorem wds_length_le {l : List Nat} (h : dig l) : (wds (val l)).length ≤ l.length := by rw [← trimL_eq h]; exact length_trimL l
theorem wds_eq_nil {n : Nat} : wds n = [] ↔ n = 0 := by
  constructor
  · intro h
    have := val_wds n
    rw [h] at this; exact this.symm
  · rintro rfl; exact wds_zero
theorem wds_inj {m n : Nat} (h : wds m = wds n) : m = n := by rw [← val_wds m, h, val_wds]
theorem wds_mono {m n : Nat} (h : m ≤ n) : (wds m).length ≤ (wds n).length := wds_length (Nat.lt_of_le_of_lt h (wds_lt n))
theorem val_nil_iff {l : List Nat} (h : dig l) : trimL l = [] ↔ val l = 0 := by rw [trimL_eq h, wds_eq_nil]
theorem wds_small {n : Nat} (h : n < 4294967296) (h0 : n ≠ 0) : wds n = [n] := by
  rw [wds_pos h0, Nat.mod_eq_of_lt h, Nat.div_eq_of_lt h, wds_zero]
theorem wds_two {n : Nat} (h : n < 18446744073709551616) (h0 : 4294967296 ≤ n) : wds n = [n % 4294967296, n / 4294967296] := by
  rw [wds_pos (by omega), wds_small (by omega) (by omega)]


/-! comparing -/
theorem val_split {l : List Nat} {i x : Nat} (h : l[i]? = some x) : val l = val (l.take i) + 4294967296 ^ i * (x + 4294967296 * val (l.drop (i + 1))) := by
  have hlt : i < l.length := by
    rcases Nat.lt_or_ge i l.length with h' | h'
    · exact h'
    · rw [List.getElem?_eq_none h'] at h; cases h
  have e : l = l.take i ++ (x :: l.drop (i + 1)) := by
    have hx : l[i] = x := by rw [List.getElem?_eq_getElem hlt] at h; exact Option.some.inj h
    rw [← hx, ← List.drop_eq_getElem_cons hlt, List.take_append_drop]
  have hl : (l.take i).length = i := by simp; omega
  conv => lhs; rw [e]
  rw [val_append, hl, val]

theorem val_lt_of {l r : List Nat} {i x y : Nat} (hl : dig l) (hd : l.drop (i + 1) = r.drop (i + 1)) (hx : l[i]? = some x) (hy : r[i]? = some y) (hxy : x < y) : val l < val r := by
  rw [val_split hx, val_split hy, hd]
  have hlt : i < l.length := by
    rcases Nat.lt_or_ge i l.length with h' | h'
    · exact h'
    · rw [List.getElem?_eq_none h'] at hx; cases hx
  have h1 : val (l.take i) < 4294967296 ^ i := by
    have := val_lt (l := l.take i) (fun z hz => hl z (List.mem_of_mem_take hz))
    rwa [show (l.take i).length = i by simp; omega] at this
  generalize val (r.drop (i + 1)) = D
  have h2 : 4294967296 ^ i * (x + 4294967296 * D + 1) ≤ 4294967296 ^ i * (y + 4294967296 * D) := Nat.mul_le_mul_left _ (by omega)
  rw [Nat.mul_add] at h2
  omega

/-- -1, 0, 1 -/
def cmpN (m n : Nat) : Int := if m < n then -1 else if n < m then 1 else 0
def cmpI (m n : Int) : Int := if m < n then -1 else if n < m then 1 else 0
theorem wds_len_lt {m n : Nat} (h : (wds m).length < (wds n).length) : m < n := by
  rcases Nat.lt_or_ge m n with h' | h'
  · exact h'
  · have := wds_mono h'; omega
end Go.Kx

namespace Go.Kx
open Go Go.RowKit

section
variable {P : Program} {ro : Option Nat} {N : Nat} {ds : List Deferred} {ops : Array Oper} {K : Env → World → Prop} {rest : List Oper} {σ : Env} {w : World} {d : Tmp} {ty : TypeId} {pos : String} {af : Array Edge}

theorem WL.mv {x : Operand} {v : Value} (hd : Nat.blt d N = true) (h : ev σ x = some v) (k : WL P ro N ds ops K rest ((d, v) :: σ) w) : WL P ro N ds ops K (⟨some d, .move x, ty, pos, af, none⟩ :: rest) σ w := WL.vl rfl hd (v_mv h) k
theorem WL.asg {x : Operand} {v : Value} (hd : Nat.blt d N = true) (h : ev σ x = some v) (k : WL P ro N ds ops K rest ((d, v) :: σ) w) : WL P ro N ds ops K (⟨some d, .assign x, ty, pos, af, none⟩ :: rest) σ w := WL.vl rfl hd (v_as h) k
theorem WL.pick {c x y : Operand} {b : Bool} {v : Value} (hd : Nat.blt d N = true) (hc : ev σ c = some (.bool b)) (h : (bif b then ev σ x else ev σ y) = some v) (k : WL P ro N ds ops K rest ((d, v) :: σ) w) : WL P ro N ds ops K (⟨some d, .pick c x y, ty, pos, af, none⟩ :: rest) σ w := by
  cases b with
  | true => exact WL.vl rfl hd (v_pickT hc h) k
  | false => exact WL.vl rfl hd (v_pickF hc h) k
section
variable {xt yt : TypeId} {x y : Operand} {kk : IntKind} {m n : Int}
theorem WL.add (hd : Nat.blt d N = true) (hx : ev σ x = some (.int kk m)) (hy : ev σ y = some (.int kk n)) (k : WL P ro N ds ops K rest ((d, .int kk (kk.wrap (m + n))) :: σ) w) : WL P ro N ds ops K (⟨some d, .binOp .add xt x y yt, ty, pos, af, none⟩ :: rest) σ w := WL.vl rfl hd (v_add hx hy) k
theorem WL.sub (hd : Nat.blt d N = true) (hx : ev σ x = some (.int kk m)) (hy : ev σ y = some (.int kk n)) (k : WL P ro N ds ops K rest ((d, .int kk (kk.wrap (m - n))) :: σ) w) : WL P ro N ds ops K (⟨some d, .binOp .sub xt x y yt, ty, pos, af, none⟩ :: rest) σ w := WL.vl rfl hd (v_sub hx hy) k
theorem WL.mul (hd : Nat.blt d N = true) (hx : ev σ x = some (.int kk m)) (hy : ev σ y = some (.int kk n)) (k : WL P ro N ds ops K rest ((d, .int kk (kk.wrap (m * n))) :: σ) w) : WL P ro N ds ops K (⟨some d, .binOp .mul xt x y yt, ty, pos, af, none⟩ :: rest) σ w := WL.vl rfl hd (v_mul hx hy) k
theorem WL.quo (hd : Nat.blt d N = true) (hx : ev σ x = some (.int kk m)) (hy : ev σ y = some (.int kk n)) (h0 : n ≠ 0) (k : WL P ro N ds ops K rest ((d, .int kk (kk.wrap (m.tdiv n))) :: σ) w) : WL P ro N ds ops K (⟨some d, .binOp .quo xt x y yt, ty, pos, af, none⟩ :: rest) σ w := WL.vl rfl hd (v_quo hx hy h0) k
theorem WL.rem (hd : Nat.blt d N = true) (hx : ev σ x = some (.int kk m)) (hy : ev σ y = some (.int kk n)) (h0 : n ≠ 0) (k : WL P ro N ds ops K rest ((d, .int kk (m.tmod n)) :: σ) w) : WL P ro N ds ops K (⟨some d, .binOp .rem xt x y yt, ty, pos, af, none⟩ :: rest) σ w := WL.vl rfl hd (v_rem hx hy h0) k
theorem WL.and_ (hd : Nat.blt d N = true) (hx : ev σ x = some (.int kk m)) (hy : ev σ y = some (.int kk n)) (k : WL P ro N ds ops K rest ((d, .int kk (kk.wrap (BitVec.ofInt kk.bits m &&& BitVec.ofInt kk.bits n).toNat)) :: σ) w) : WL P ro N ds ops K (⟨some d, .binOp .and xt x y yt, ty, pos, af, none⟩ :: rest) σ w := WL.vl rfl hd (v_and hx hy) k
theorem WL.or_ (hd : Nat.blt d N = true) (hx : ev σ x = some (.int kk m)) (hy : ev σ y = some (.int kk n)) (k : WL P ro N ds ops K rest ((d, .int kk (kk.wrap (BitVec.ofInt kk.bits m ||| BitVec.ofInt kk.bits n).toNat)) :: σ) w) : WL P ro N ds ops K (⟨some d, .binOp .or xt x y yt, ty, pos, af, none⟩ :: rest) σ w := WL.vl rfl hd (v_or hx hy) k
theorem WL.xor_ (hd : Nat.blt d N = true) (hx : ev σ x = some (.int kk m)) (hy : ev σ y = some (.int kk n)) (k : WL P ro N ds ops K rest ((d, .int kk (kk.wrap (BitVec.ofInt kk.bits m ^^^ BitVec.ofInt kk.bits n).toNat)) :: σ) w) : WL P ro N ds ops K (⟨some d, .binOp .xor xt x y yt, ty, pos, af, none⟩ :: rest) σ w := WL.vl rfl hd (v_xor hx hy) k
theorem WL.shl {k' : IntKind} (hd : Nat.blt d N = true) (hx : ev σ x = some (.int kk m)) (hy : ev σ y = some (.int k' n)) (h0 : 0 ≤ n) (k : WL P ro N ds ops K rest ((d, .int kk (kk.wrap (m * 2 ^ (min n.toNat kk.bits)))) :: σ) w) : WL P ro N ds ops K (⟨some d, .binOp .shl xt x y yt, ty, pos, af, none⟩ :: rest) σ w := WL.vl rfl hd (v_shl hx hy h0) k
theorem WL.shr {k' : IntKind} (hd : Nat.blt d N = true) (hx : ev σ x = some (.int kk m)) (hy : ev σ y = some (.int k' n)) (h0 : 0 ≤ n) (k : WL P ro N ds ops K rest ((d, .int kk (m.fdiv (2 ^ (min n.toNat kk.bits)))) :: σ) w) : WL P ro N ds ops K (⟨some d, .binOp .shr xt x y yt, ty, pos, af, none⟩ :: rest) σ w := WL.vl rfl hd (v_shr hx hy h0) k
theorem WL.eql (hd : Nat.blt d N = true) (hx : ev σ x = some (.int kk m)) (hy : ev σ y = some (.int kk n)) (k : WL P ro N ds ops K rest ((d, .bool (m == n)) :: σ) w) : WL P ro N ds ops K (⟨some d, .binOp .eql xt x y yt, ty, pos, af, none⟩ :: rest) σ w := WL.vl rfl hd (v_eql hx hy) k
theorem WL.neq (hd : Nat.blt d N = true) (hx : ev σ x = some (.int kk m)) (hy : ev σ y = some (.int kk n)) (k : WL P ro N ds ops K rest ((d, .bool (m != n)) :: σ) w) : WL P ro N ds ops K (⟨some d, .binOp .neq xt x y yt, ty, pos, af, none⟩ :: rest) σ w := WL.vl rfl hd (v_neq hx hy) k
theorem WL.lss (hd : Nat.blt d N = true) (hx : ev σ x = some (.int kk m)) (hy : ev σ y = some (.int kk n)) (k : WL P ro N ds ops K rest ((d, .bool (decide (m < n))) :: σ) w) : WL P ro N ds ops K (⟨some d, .binOp .lss xt x y yt, ty, pos, af, none⟩ :: rest) σ w := WL.vl rfl hd (v_lss hx hy) k
theorem WL.leq (hd : Nat.blt d N = true) (hx : ev σ x = some (.int kk m)) (hy : ev σ y = some (.int kk n)) (k : WL P ro N ds ops K rest ((d, .bool (decide (m ≤ n))) :: σ) w) : WL P ro N ds ops K (⟨some d, .binOp .leq xt x y yt, ty, pos, af, none⟩ :: rest) σ w := WL.vl rfl hd (v_leq hx hy) k
theorem WL.gtr (hd : Nat.blt d N = true) (hx : ev σ x = some (.int kk m)) (hy : ev σ y = some (.int kk n)) (k : WL P ro N ds ops K rest ((d, .bool (decide (n < m))) :: σ) w) : WL P ro N ds ops K (⟨some d, .binOp .gtr xt x y yt, ty, pos, af, none⟩ :: rest) σ w := WL.vl rfl hd (v_gtr hx hy) k
theorem WL.geq (hd : Nat.blt d N = true) (hx : ev σ x = some (.int kk m)) (hy : ev σ y = some (.int kk n)) (k : WL P ro N ds ops K rest ((d, .bool (decide (n ≤ m))) :: σ) w) : WL P ro N ds ops K (⟨some d, .binOp .geq xt x y yt, ty, pos, af, none⟩ :: rest) σ w := WL.vl rfl hd (v_geq hx hy) k
theorem WL.lssT (hd : Nat.blt d N = true) (hx : ev σ x = some (.int kk m)) (hy : ev σ y = some (.int kk n)) (h : m < n) (k : WL P ro N ds ops K rest ((d, .bool true) :: σ) w) : WL P ro N ds ops K (⟨some d, .binOp .lss xt x y yt, ty, pos, af, none⟩ :: rest) σ w := WL.lss hd hx hy (by simpa [h] using k)
theorem WL.lssF (hd : Nat.blt d N = true) (hx : ev σ x = some (.int kk m)) (hy : ev σ y = some (.int kk n)) (h : ¬ m < n) (k : WL P ro N ds ops K rest ((d, .bool false) :: σ) w) : WL P ro N ds ops K (⟨some d, .binOp .lss xt x y yt, ty, pos, af, none⟩ :: rest) σ w := WL.lss hd hx hy (by simpa [h] using k)
theorem WL.leqT (hd : Nat.blt d N = true) (hx : ev σ x = some (.int kk m)) (hy : ev σ y = some (.int kk n)) (h : m ≤ n) (k : WL P ro N ds ops K rest ((d, .bool true) :: σ) w) : WL P ro N ds ops K (⟨some d, .binOp .leq xt x y yt, ty, pos, af, none⟩ :: rest) σ w := WL.leq hd hx hy (by simpa [h] using k)
theorem WL.leqF (hd : Nat.blt d N = true) (hx : ev σ x = some (.int kk m)) (hy : ev σ y = some (.int kk n)) (h : ¬ m ≤ n) (k : WL P ro N ds ops K rest ((d, .bool false) :: σ) w) : WL P ro N ds ops K (⟨some d, .binOp .leq xt x y yt, ty, pos, af, none⟩ :: rest) σ w := WL.leq hd hx hy (by simpa [h] using k)
theorem WL.gtrT (hd : Nat.blt d N = true) (hx : ev σ x = some (.int kk m)) (hy : ev σ y = some (.int kk n)) (h : n < m) (k : WL P ro N ds ops K rest ((d, .bool true) :: σ) w) : WL P ro N ds ops K (⟨some d, .binOp .gtr xt x y yt, ty, pos, af, none⟩ :: rest) σ w := WL.gtr hd hx hy (by simpa [h] using k)
theorem WL.gtrF (hd : Nat.blt d N = true) (hx : ev σ x = some (.int kk m)) (hy : ev σ y = some (.int kk n)) (h : ¬ n < m) (k : WL P ro N ds ops K rest ((d, .bool false) :: σ) w) : WL P ro N ds ops K (⟨some d, .binOp .gtr xt x y yt, ty, pos, af, none⟩ :: rest) σ w := WL.gtr hd hx hy (by simpa [h] using k)
theorem WL.geqT (hd : Nat.blt d N = true) (hx : ev σ x = some (.int kk m)) (hy : ev σ y = some (.int kk n)) (h : n ≤ m) (k : WL P ro N ds ops K rest ((d, .bool true) :: σ) w) : WL P ro N ds ops K (⟨some d, .binOp .geq xt x y yt, ty, pos, af, none⟩ :: rest) σ w := WL.geq hd hx hy (by simpa [h] using k)
theorem WL.geqF (hd : Nat.blt d N = true) (hx : ev σ x = some (.int kk m)) (hy : ev σ y = some (.int kk n)) (h : ¬ n ≤ m) (k : WL P ro N ds ops K rest ((d, .bool false) :: σ) w) : WL P ro N ds ops K (⟨some d, .binOp .geq xt x y yt, ty, pos, af, none⟩ :: rest) σ w := WL.geq hd hx hy (by simpa [h] using k)
theorem WL.eqlT (hd : Nat.blt d N = true) (hx : ev σ x = some (.int kk m)) (hy : ev σ y = some (.int kk n)) (h : m = n) (k : WL P ro N ds ops K rest ((d, .bool true) :: σ) w) : WL P ro N ds ops K (⟨some d, .binOp .eql xt x y yt, ty, pos, af, none⟩ :: rest) σ w := WL.eql hd hx hy (by first | (rw [beq_iff_eq.2 h]; exact k) | (rw [beq_eq_false_iff_ne.2 h]; exact k))
theorem WL.eqlF (hd : Nat.blt d N = true) (hx : ev σ x = some (.int kk m)) (hy : ev σ y = some (.int kk n)) (h : m ≠ n) (k : WL P ro N ds ops K rest ((d, .bool false) :: σ) w) : WL P ro N ds ops K (⟨some d, .binOp .eql xt x y yt, ty, pos, af, none⟩ :: rest) σ w := WL.eql hd hx hy (by first | (rw [beq_iff_eq.2 h]; exact k) | (rw [beq_eq_false_iff_ne.2 h]; exact k))
theorem WL.neqT (hd : Nat.blt d N = true) (hx : ev σ x = some (.int kk m)) (hy : ev σ y = some (.int kk n)) (h : m ≠ n) (k : WL P ro N ds ops K rest ((d, .bool true) :: σ) w) : WL P ro N ds ops K (⟨some d, .binOp .neq xt x y yt, ty, pos, af, none⟩ :: rest) σ w := WL.neq hd hx hy (by first | (rw [bne_iff_ne.2 h]; exact k) | (rw [h, bne_self_eq_false]; exact k))
theorem WL.neqF (hd : Nat.blt d N = true) (hx : ev σ x = some (.int kk m)) (hy : ev σ y = some (.int kk n)) (h : m = n) (k : WL P ro N ds ops K rest ((d, .bool false) :: σ) w) : WL P ro N ds ops K (⟨some d, .binOp .neq xt x y yt, ty, pos, af, none⟩ :: rest) σ w := WL.neq hd hx hy (by first | (rw [bne_iff_ne.2 h]; exact k) | (rw [h, bne_self_eq_false]; exact k))
theorem WL.neg (hd : Nat.blt d N = true) (hx : ev σ x = some (.int kk m)) (k : WL P ro N ds ops K rest ((d, .int kk (kk.wrap (0 - m))) :: σ) w) : WL P ro N ds ops K (⟨some d, .unOp .neg xt x, ty, pos, af, none⟩ :: rest) σ w := WL.vl rfl hd (v_neg hx) k
theorem WL.cvt {k' : IntKind} {s t : TypeId} {dsc : TypeDesc} (hs : P.underlying s = some dsc) (ht : P.underlying t = some (.int k')) (hd : Nat.blt d N = true) (hx : ev σ x = some (.int kk m)) (k : WL P ro N ds ops K rest ((d, .int k' (k'.wrap m)) :: σ) w) : WL P ro N ds ops K (⟨some d, .convert s t x, ty, pos, af, none⟩ :: rest) σ w := WL.vl rfl hd (v_cvt hs ht hx) k
theorem WL.min_ {ts : Array TypeId} (hd : Nat.blt d N = true) (hx : ev σ x = some (.int kk m)) (hy : ev σ y = some (.int kk n)) (k : WL P ro N ds ops K rest ((d, .int kk (min m n)) :: σ) w) : WL P ro N ds ops K (⟨some d, .call { callee := .builtin .min, args := #[x, y], argTypes := ts }, ty, pos, af, none⟩ :: rest) σ w := WL.vl rfl hd (v_min hx hy) k
theorem WL.max_ {ts : Array TypeId} (hd : Nat.blt d N = true) (hx : ev σ x = some (.int kk m)) (hy : ev σ y = some (.int kk n)) (k : WL P ro N ds ops K rest ((d, .int kk (max m n)) :: σ) w) : WL P ro N ds ops K (⟨some d, .call { callee := .builtin .max, args := #[x, y], argTypes := ts }, ty, pos, af, none⟩ :: rest) σ w := WL.vl rfl hd (v_max hx hy) k
end
theorem WL.not_ {xt : TypeId} {x : Operand} {b : Bool} (hd : Nat.blt d N = true) (hx : ev σ x = some (.bool b)) (k : WL P ro N ds ops K rest ((d, .bool (!b)) :: σ) w) : WL P ro N ds ops K (⟨some d, .unOp .not xt x, ty, pos, af, none⟩ :: rest) σ w := WL.vl rfl hd (v_not hx) k
theorem WL.eqlB {xt yt : TypeId} {x y : Operand} {a b : Bool} (ht : P.underlying xt = some .bool) (hd : Nat.blt d N = true) (hx : ev σ x = some (.bool a)) (hy : ev σ y = some (.bool b)) (k : WL P ro N ds ops K rest ((d, .bool (a == b)) :: σ) w) : WL P ro N ds ops K (⟨some d, .binOp .eql xt x y yt, ty, pos, af, none⟩ :: rest) σ w := WL.vl rfl hd (v_eqlB ht hx hy) k
theorem WL.neqB {xt yt : TypeId} {x y : Operand} {a b : Bool} (ht : P.underlying xt = some .bool) (hd : Nat.blt d N = true) (hx : ev σ x = some (.bool a)) (hy : ev σ y = some (.bool b)) (k : WL P ro N ds ops K rest ((d, .bool (a != b)) :: σ) w) : WL P ro N ds ops K (⟨some d, .binOp .neq xt x y yt, ty, pos, af, none⟩ :: rest) σ w := WL.vl rfl hd (v_neqB ht hx hy) k
theorem WL.ext {x : Operand} {i : Nat} {vs : Array Value} {v : Value} (hd : Nat.blt d N = true) (hx : ev σ x = some (.tuple vs)) (hi : vs[i]? = some v) (k : WL P ro N ds ops K rest ((d, v) :: σ) w) : WL P ro N ds ops K (⟨some d, .extract x i, ty, pos, af, none⟩ :: rest) σ w := WL.vl rfl hd (v_ex hx hi) k
theorem WL.fa {s : TypeId} {x : Operand} {i b o off : Nat} (hf : fldOf P s i = some off) (hd : Nat.blt d N = true) (hx : ev σ x = some (.pointer (some ⟨b, o, none⟩))) (k : WL P ro N ds ops K rest ((d, .pointer (some ⟨b, o + off, none⟩)) :: σ) w) :
    WL P ro N ds ops K (⟨some d, .fieldAddr s x i, ty, pos, af, none⟩ :: rest) σ w := WL.vl rfl hd (v_fa hf hx) k
theorem WL.fd {t : TypeId} {x : Operand} {i : Nat} {cs : Array Value} {v : Value} (hd : Nat.blt d N = true) (hx : ev σ x = some (.agg cs)) (hp : prtOf P t cs i = some v) (k : WL P ro N ds ops K rest ((d, v) :: σ) w) : WL P ro N ds ops K (⟨some d, .field t x i, ty, pos, af, none⟩ :: rest) σ w := WL.vl rfl hd (v_fd hx hp) k
/-- a cell of a block of its own -/
theorem WL.ld {t t' : TypeId} {x : Operand} {b off n : Nat} {cs : Array Value} {v : Value} (ht : tyOf P t = some (false, n)) (hd : Nat.blt d N = true) (hx : ev σ x = some (.pointer (some ⟨b, off, none⟩))) (hb : Blk w b t' cs) (hc : cs[off]? = some v) (k : WL P ro N ds ops K rest ((d, v) :: σ) w) :
    WL P ro N ds ops K (⟨some d, .load t x, ty, pos, af, none⟩ :: rest) σ w := WL.vl rfl hd (v_ld ht hx hb hc) k
theorem WL.ldA {t t' : TypeId} {x : Operand} {b n : Nat} {cs : Array Value} (ht : tyOf P t = some (true, n)) (hd : Nat.blt d N = true) (hx : ev σ x = some (.pointer (some ⟨b, 0, none⟩))) (hb : Blk w b t' cs) (hn : cs.size = n) (k : WL P ro N ds ops K rest ((d, .agg cs) :: σ) w) :
    WL P ro N ds ops K (⟨some d, .load t x, ty, pos, af, none⟩ :: rest) σ w := WL.vl rfl hd (v_ldA ht hx hb hn) k
theorem WL.ldN {t t' : TypeId} {x : Operand} {b off : Nat} {cs : Array Value} (vs : List Value) (ht : tyOf P t = some (true, vs.length)) (hd : Nat.blt d N = true) (hx : ev σ x = some (.pointer (some ⟨b, off, none⟩))) (hb : Blk w b t' cs)
    (hc : ∀ j u, vs[j]? = some u → cs[off + j]? = some u) (k : WL P ro N ds ops K rest ((d, .agg vs.toArray) :: σ) w) :
    WL P ro N ds ops K (⟨some d, .load t x, ty, pos, af, none⟩ :: rest) σ w := WL.vl rfl hd (v_ldN vs ht hx hb hc) k
theorem WL.mkf {fn : Fn} {fs cs : Array Operand} {v : Value} (vf vc : List Value) (hd : Nat.blt d N = true) (hf : fs.toList.map (ev σ) = vf.map some) (hc : cs.toList.map (ev σ) = vc.map some) (hv : v = .func fn vf.toArray vc.toArray) (k : WL P ro N ds ops K rest ((d, v) :: σ) w) :
    WL P ro N ds ops K (⟨some d, .makeFunc fn fs cs, ty, pos, af, none⟩ :: rest) σ w := WL.vl rfl hd (v_mf vf vc hf hc hv) k
theorem WL.bld {t : TypeId} {ps : List (Nat × Operand)} (vs : List (Nat × Value)) {cs : Array Value} (hd : Nat.blt d N = true) (hv : evp σ ps = some vs) (hc : bldOf P t vs = some cs) (k : WL P ro N ds ops K rest ((d, .agg cs) :: σ) w) :
    WL P ro N ds ops K (⟨some d, .build t ps.toArray, ty, pos, af, none⟩ :: rest) σ w := WL.vl rfl hd (v_bld vs hv hc) k
theorem WL.bsl {t e : TypeId} {len : Nat} {ps : List (Nat × Operand)} (vs : List (Nat × Value)) {cs : Array Value} (hd : Nat.blt d N = true) (hv : evp σ ps = some vs) (hc : bslOf P t len vs = some (e, cs))
    (k : ∀ w' b, New w w' b e cs → WL P ro N ds ops K rest ((d, .slice (some ⟨b, 0, none⟩) len len) :: σ) w') :
    WL P ro N ds ops K (⟨some d, .buildSlice t len ps.toArray, ty, pos, af, none⟩ :: rest) σ w :=
  WL.gv rfl hd (g_bsl vs hv hc) fun v' w' ⟨b, hv, hn⟩ => by subst hv; exact k w' b hn
theorem WL.make_ {t e : TypeId} {x y : Operand} {z : Value} {sz by_ : Nat} (n c : Nat) {k1 k2 : IntKind} (ht : P.underlying t = some (.slice e)) (hi : infoOf P e = some (z, sz, by_)) (hzs : z.cells.size = sz) (hsz : 0 < sz) (hd : Nat.blt d N = true)
    (hx : ev σ x = some (.int k1 (n : Int))) (hy : ev σ y = some (.int k2 (c : Int))) (hnc : n ≤ c) (hby : by_ * c ≤ 281474976710656) (hc : c ≤ 9223372036854775807)
    (k : ∀ w' b, New w w' b e (cellsOf (List.replicate c z)).toArray → WL P ro N ds ops K rest ((d, .slice (some ⟨b, 0, none⟩) n c) :: σ) w') :
    WL P ro N ds ops K (⟨some d, .makeSlice t x y, ty, pos, af, none⟩ :: rest) σ w :=
  WL.gv rfl hd (g_make n c ht hi hzs hsz hx hy hnc hby hc) fun v' w' ⟨b, hv, hn⟩ => by subst hv; exact k w' b hn

section
variable {α : Type} {E : ER α} {hsz : 0 < E.sz} {S : Nat → Prop} {v : Value} {l : List α}
theorem WL.len {t e : TypeId} {x : Operand} {a : Option Addr} {n c : Nat} (ht : P.underlying t = some (.slice e)) (hd : Nat.blt d N = true) (hx : ev σ x = some (.slice a n c)) (k : WL P ro N ds ops K rest ((d, .int .i64 n) :: σ) w) :
    WL P ro N ds ops K (⟨some d, .call { callee := .builtin .len, args := #[x], argTypes := #[t] }, ty, pos, af, none⟩ :: rest) σ w := WL.vl rfl hd (v_len ht hx) k
theorem WL.lenR {t e : TypeId} {x : Operand} (ht : P.underlying t = some (.slice e)) (hd : Nat.blt d N = true) (hx : ev σ x = some v) (h : (RL E hsz).R S w v l) (k : WL P ro N ds ops K rest ((d, .int .i64 l.length) :: σ) w) :
    WL P ro N ds ops K (⟨some d, .call { callee := .builtin .len, args := #[x], argTypes := #[t] }, ty, pos, af, none⟩ :: rest) σ w := WL.vl rfl hd (v_lenR ht hx h) k
theorem WL.ix {t e : TypeId} {x ix : Operand} {kk : IntKind} {i : Int} {b : Bool} {y : α} (ht : P.underlying t = some (.slice e)) (he : tyOf P e = some (b, E.sz)) (hd : Nat.blt d N = true) (hx : ev σ x = some v) (h : (RL E hsz).R S w v l)
    (hi : ev σ ix = some (.int kk i)) (h0 : 0 ≤ i) (hy : l[i.toNat]? = some y) (k : ∀ p, PtrTo E S w p y → WL P ro N ds ops K rest ((d, .pointer (some p)) :: σ) w) :
    WL P ro N ds ops K (⟨some d, .indexAddr t x ix, ty, pos, af, none⟩ :: rest) σ w :=
  WL.gv rfl hd (g_ix ht he hx h hi h0 hy) fun v' w' ⟨e1, p, e2, hp⟩ => by subst e1; subst e2; exact k p hp
theorem WL.ixN {t e : TypeId} {x ix : Operand} {kk : IntKind} {i : Nat} {b : Bool} {y : α} (ht : P.underlying t = some (.slice e)) (he : tyOf P e = some (b, E.sz)) (hd : Nat.blt d N = true) (hx : ev σ x = some v) (h : (RL E hsz).R S w v l)
    (hi : ev σ ix = some (.int kk (i : Int))) (hy : l[i]? = some y) (k : ∀ p, PtrTo E S w p y → WL P ro N ds ops K rest ((d, .pointer (some p)) :: σ) w) :
    WL P ro N ds ops K (⟨some d, .indexAddr t x ix, ty, pos, af, none⟩ :: rest) σ w := WL.ix ht he hd hx h hi (Int.natCast_nonneg _) (by simpa using hy) k
theorem WL.ldE {t : TypeId} {x : Operand} {p : Addr} {y : α} (ht : tyOf P t = some (E.isA, E.sz)) (hd : Nat.blt d N = true) (hx : ev σ x = some (.pointer (some p))) (hp : PtrTo E S w p y) (k : ∀ v, E.R S w v y → WL P ro N ds ops K rest ((d, v) :: σ) w) :
    WL P ro N ds ops K (⟨some d, .load t x, ty, pos, af, none⟩ :: rest) σ w :=
  WL.gv rfl hd (g_ldE ht hx hp) fun v' w' ⟨e1, hp⟩ => by subst e1; exact k v' hp
theorem WL.cut {t e : TypeId} {x : Operand} {b : Bool} {lo hi : Option Operand} (L H : Nat) (ht : P.underlying t = some (.slice e)) (he : tyOf P e = some (b, E.sz)) (hd : Nat.blt d N = true) (hx : ev σ x = some v) (h : (RL E hsz).R S w v l)
    (hlo : match lo with | none => L = 0 | some y => ∃ k, ev σ y = some (.int k (L : Int))) (hhi : match hi with | none => H = l.length | some y => ∃ k, ev σ y = some (.int k (H : Int))) (h1 : L ≤ H) (h2 : H ≤ l.length)
    (k : ∀ v, (RL E hsz).R S w v ((l.take H).drop L) → WL P ro N ds ops K rest ((d, v) :: σ) w) :
    WL P ro N ds ops K (⟨some d, .slice t x lo hi none, ty, pos, af, none⟩ :: rest) σ w :=
  WL.gv rfl hd (g_cut lo hi L H ht he hx h hlo hhi h1 h2) fun v' w' ⟨e1, hp⟩ => by subst e1; exact k v' hp
end

theorem WL.gr {op : Op} {dd : Option Tmp} {j t : Nat} {b c : Bool} (hj : gslot ops j = some t) (ht : Nat.blt t N = true) (hv : look σ t = some (.bool c)) (hc : c = b)
    (h : WL P ro N ds ops K (⟨dd, op, ty, pos, af, none⟩ :: rest) σ w) : WL P ro N ds ops K (⟨dd, op, ty, pos, af, some (j, b)⟩ :: rest) σ w := by subst hc; exact WL.grun hj ht hv h
theorem WL.gs {op : Op} {dd : Option Tmp} {j t : Nat} {b c : Bool} (hj : gslot ops j = some t) (ht : Nat.blt t N = true) (hv : look σ t = some (.bool c)) (hc : c = !b) (hd : dOk N dd = true)
    (h : WL P ro N ds ops K rest (putE dd undef σ) w) : WL P ro N ds ops K (⟨dd, op, ty, pos, af, some (j, b)⟩ :: rest) σ w :=
  WL.gskip rfl hd hj ht hv (by subst hc; cases b <;> simp) h
/-- the guard's own operation was passed over -/
theorem WL.gu {op : Op} {dd : Option Tmp} {j t : Nat} {b : Bool} (hj : gslot ops j = some t) (ht : Nat.blt t N = true) (hv : look σ t = some undef) (hd : dOk N dd = true)
    (h : WL P ro N ds ops K rest (putE dd undef σ) w) : WL P ro N ds ops K (⟨dd, op, ty, pos, af, some (j, b)⟩ :: rest) σ w :=
  WL.gskip rfl hd hj ht hv (by simp [undef]) h
end

/-! an element's address among the others' values -/
@[reducible] def Ptr {α : Type} (E : ER α) (S : Nat → Prop) (y : α) : Value → World → Prop := fun v w => ∃ p, v = .pointer (some p) ∧ PtrTo E S w p y
theorem st_ptr {α : Type} (E : ER α) (S : Nat → Prop) (y : α) : St (Ptr E S y) := fun _ _ _ e ⟨p, hv, hp⟩ => ⟨p, hv, hp.ext e⟩
section
variable {P : Program} {σ : Env} {w : World} {d : Option Tmp} {ty : TypeId} {pos : String} {af : Array Edge} {g : Option (Nat × Bool)} {α : Type} {E : ER α} {hsz : 0 < E.sz} {S : Nat → Prop} {v : Value} {l : List α}
theorem ob_ix {t e : TypeId} {x ix : Operand} {k : IntKind} {i : Int} {b : Bool} {y : α} (ht : P.underlying t = some (.slice e)) (he : tyOf P e = some (b, E.sz)) (hx : ev σ x = some v) (h : (RL E hsz).R S w v l)
    (hi : ev σ ix = some (.int k i)) (h0 : 0 ≤ i) (hy : l[i.toNat]? = some y) :
    Gv P ⟨d, .indexAddr t x ix, ty, pos, af, g⟩ σ w fun v' w' => Ext w w' ∧ Sp.ok (.inr (Ptr E S y)) v' w' :=
  (g_ix ht he hx h hi h0 hy).mono fun v' w' ⟨e1, p, e2, hp⟩ => by subst e1; exact ⟨Ext.refl _, fun w'' e => ⟨p, e2, hp.ext e⟩⟩
theorem ob_ixN {t e : TypeId} {x ix : Operand} {k : IntKind} {i : Nat} {b : Bool} {y : α} (ht : P.underlying t = some (.slice e)) (he : tyOf P e = some (b, E.sz)) (hx : ev σ x = some v) (h : (RL E hsz).R S w v l)
    (hi : ev σ ix = some (.int k (i : Int))) (hy : l[i]? = some y) :
    Gv P ⟨d, .indexAddr t x ix, ty, pos, af, g⟩ σ w fun v' w' => Ext w w' ∧ Sp.ok (.inr (Ptr E S y)) v' w' := ob_ix ht he hx h hi (Int.natCast_nonneg _) (by simpa using hy)
theorem ob_ldE {t : TypeId} {x : Operand} {u : Value} {y : α} (ht : tyOf P t = some (E.isA, E.sz)) (hx : ev σ x = some u) (hp : Ptr E S y u w) :
    Gv P ⟨d, .load t x, ty, pos, af, g⟩ σ w fun v' w' => Ext w w' ∧ Sp.ok (.inr (E.at S y)) v' w' := by
  obtain ⟨p, rfl, hp⟩ := hp
  exact (g_ldE ht hx hp).mono fun v' w' ⟨e1, h⟩ => by subst e1; exact ⟨Ext.refl _, fun w'' e => E.ext h e⟩
theorem ob_ldU {t : TypeId} {x : Operand} {u : Value} {y : Nat} (ht : tyOf P t = some (false, 1)) (hx : ev σ x = some u) (hp : Ptr eU32 S y u w) :
    Gv P ⟨d, .load t x, ty, pos, af, g⟩ σ w fun v' w' => Ext w w' ∧ Sp.ok (.inl (.int .u32 y)) v' w' := by
  obtain ⟨p, rfl, hp⟩ := hp
  exact (g_ldE ht hx hp).mono fun v' w' ⟨e1, h⟩ => by subst e1; exact ⟨Ext.refl _, h.1⟩
theorem ob_ldI {t : TypeId} {x : Operand} {u : Value} {k : IntKind} {y : Int} (ht : tyOf P t = some (false, 1)) (hx : ev σ x = some u) (hp : Ptr (eInt k) S y u w) :
    Gv P ⟨d, .load t x, ty, pos, af, g⟩ σ w fun v' w' => Ext w w' ∧ Sp.ok (.inl (.int k y)) v' w' := by
  obtain ⟨p, rfl, hp⟩ := hp
  exact (g_ldE ht hx hp).mono fun v' w' ⟨e1, h⟩ => by subst e1; exact ⟨Ext.refl _, h.1⟩
end

/-! the result's cell -/
theorem shpA {α : Type} {E : ER α} (hA : E.isA = true) {S : Nat → Prop} {w : World} {v : Value} {x : α} (h : E.R S w v x) : v = .agg v.cells := by
  have := E.shp h
  rw [hA] at this
  exact this
section
variable {P : Program} {ro : Option Nat} {N : Nat} {ds : List Deferred} {ops : Array Oper} {K : Env → World → Prop} {rest : List Oper} {σ : Env} {w : World} {ty : TypeId} {pos : String} {af : Array Edge} {α : Type} {S : Nat → Prop}
theorem WL.storeA {E : ER α} {t t' : TypeId} {x y : Operand} {b n : Nat} {a : Bool} {cs : Array Value} {v : Value} {z : α} (ht : tyOf P t = some (a, n)) (hx : ev σ x = some (.pointer (some ⟨b, 0, none⟩))) (hy : ev σ y = some v) (hb : Blk w b t' cs)
    (hn : E.sz = n) (hcs : cs.size = n) (hz : E.R S w v z) (hS : ¬ S b) (k : ∀ w', Blk w' b t' v.cells → Upd w w' b → E.R S w' v z → WL P ro N ds ops K rest σ w') :
    WL P ro N ds ops K (⟨none, .store t x y, ty, pos, af, none⟩ :: rest) σ w := by
  have hs := E.csz hz
  refine WL.store ht hx hy hb (by omega) (by omega) (E.one hz) fun w' h1 h2 => k w' ?_ h2 (E.upd hz h2 hS)
  rw [wrt_all _ _ (by simp; omega)] at h1
  simpa using h1
end
theorem Leave.cell {P : Program} {fn : Func} {N : Nat} {R : Value → World → Prop} {σ : Env} {w : World} {s : Tmp} {t t' : TypeId} {b n : Nat} {α : Type} {E : ER α} {S : Nat → Prop} {v : Value} {z : α} (hr : fn.results = #[.cell s t])
    (hs : look σ s = some (.pointer (some ⟨b, 0, none⟩))) (ht : tyOf P t = some (true, n)) (hA : E.isA = true) (hn : E.sz = n) (hb : Blk w b t' v.cells) (hz : E.R S w v z) (hR : R v w) : Leave P fn N R σ [] w := by
  refine Leave.plain (rs := [.cell s t]) [v] (by simpa using hr) ⟨⟨_, hs, ?_⟩, trivial⟩ hR
  have hsz := E.csz hz
  have := run_loadVarN (P := P) (w := w) (p := ⟨b, 0, none⟩) (cs := v.cells.toList) (t := t) (by rw [ht]; simp; omega) (fun j u hu => by rw [add_mk, hb.cell]; simpa using hu)
  rw [this]
  have hv := shpA hA hz
  simp only [Array.toArray_toList]
  rw [← hv]

theorem ER.R.ext {α : Type} {E : ER α} {S : Nat → Prop} {w w' : World} {e : Value} {x : α} (h : E.R S w e x) (hx : Ext w w') : E.R S w' e x := E.ext h hx
theorem ER.R.upd {α : Type} {E : ER α} {S : Nat → Prop} {w w' : World} {e : Value} {x : α} {b : Nat} (h : E.R S w e x) (hu : Upd w w' b) (hb : ¬ S b) : E.R S w' e x := E.upd h hu hb
theorem ER.R.par {α : Type} {E : ER α} {S : Nat → Prop} {w : World} {v : Value} {x : α} (h : E.R S w v x) (C : Nat) : E.R (Sx S w.heap.size C) w v x := E.par h C
theorem ER.R.out {α : Type} {E : ER α} {S : Nat → Prop} {B C : Nat} {w : World} {v : Value} {x : α} (h : E.R (Sx S B C) w v x) : E.R S w v x := E.out h

theorem isI {k : IntKind} {a b : Int} {w : World} (h : a = b) : Is (.int k b) (tup [.int k a]) w := by subst h; rfl
theorem isB {a b : Bool} {w : World} (h : a = b) : Is (.bool b) (tup [.bool a]) w := by subst h; rfl
theorem wI {n : Int} (h : -9223372036854775808 ≤ n ∧ n ≤ 9223372036854775807) : IntKind.i64.wrap n = n := IntWalk.i64_in n h
theorem wU {n : Int} (h : 0 ≤ n ∧ n ≤ 18446744073709551615) : IntKind.u64.wrap n = n := IntWalk.u64_in n h
theorem w32 {n : Int} (h : 0 ≤ n ∧ n ≤ 4294967295) : IntKind.u32.wrap n = n := IntWalk.u32_in n h

theorem look_nil {σ : Env} : ∀ t v, look [] t = some v → look σ t = some v := fun t v h => by simp [look] at h
theorem look_cons {σ σ' : Env} {k : Nat} {u : Value} (h1 : look σ k = some u) (h2 : ∀ t v, look σ' t = some v → look σ t = some v) : ∀ t v, look ((k, u) :: σ') t = some v → look σ t = some v := by
  intro t v h
  by_cases e : k = t
  · subst e; simp [look] at h; rw [← h]; exact h1
  · simp only [look, beq_ne e, cond_false] at h; exact h2 t v h

theorem guard_slice {P : Program} {w : World} {op : BinOp} {t : TypeId} {a a' : Option Addr} {n c n' c' : Nat} (x y : Operand) : (eqGuard op t x y (.slice a n c) (.slice a' n' c')).run P w = .ok () w := by
  unfold eqGuard
  cases op <;> simp
section
variable {P : Program} {ro : Option Nat} {N : Nat} {ds : List Deferred} {ops : Array Oper} {K : Env → World → Prop} {rest : List Oper} {σ : Env} {w : World} {d : Tmp} {ty : TypeId} {pos : String} {af : Array Edge}
/-- a slice held against nil -/
theorem WL.eqNil {xt yt e : TypeId} {x y : Operand} {a : Option Addr} {n c : Nat} (ht : P.underlying xt = some (.slice e)) (hd : Nat.blt d N = true) (hx : ev σ x = some (.slice a n c)) (hy : ev σ y = some (.slice none 0 0))
    (k : WL P ro N ds ops K rest ((d, .bool a.isNone) :: σ) w) : WL P ro N ds ops K (⟨some d, .binOp .eql xt x y yt, ty, pos, af, none⟩ :: rest) σ w :=
  WL.vl rfl hd (v_bin hx hy guard_slice (Lib.run_eql_slice_nil w xt e a n c 0 0 ht)) k
end

/-- out of a row of the call's own -/
theorem RL.ofOwn {α : Type} {E : ER α} {hsz : 0 < E.sz} {S : Nat → Prop} {w : World} {base : Nat} {t : TypeId} {v : Value} {n : Nat} {es : List Value} {l : List α} (h : w.ownsRow base t E.sz v n (cellsOf es)) (hn : n = l.length) (he : Els E S w es l)
    (hS : ∀ k, base ≤ k → S k) : (RL E hsz).R S w v l := by
  subst hn
  rcases h.2 with ⟨rfl, h0⟩ | ⟨g, cap, cur, rfl, hbg, hg, hnc, hcm, hcs, htake⟩
  · have : l = [] := List.length_eq_zero_iff.1 h0
    subst this; exact RL.nil
  · refine RL.ofBlk (b := g) (t := t) (cs := cur) (es := es) hg (hS g hbg) he (fun j u hu => ?_) hnc (by simp only [maxLen] at hcm; omega)
    rw [← htake, List.getElem?_take] at hu
    split at hu
    · simpa using hu
    · cases hu

/-! integers and rationals as the program has them -/
structure ZV where
  neg : Bool
  w : List Nat
structure QV where
  num : ZV
  den : ZV

abbrev eW : ER (List Nat) := RL eU32
def eZ : ER ZV where
  sz := 2
  isA := true
  R := fun S w v z => ∃ s, v = .agg #[.bool z.neg, s] ∧ eW.R S w s z.w
  csz := by rintro S w e x ⟨s, rfl, _⟩; rfl
  one := by
    rintro S w e x ⟨s, rfl, h⟩ u hu
    have hs := eW.shp h
    simp [Value.cells] at hu
    rcases hu with rfl | rfl
    · rfl
    · exact hs
  shp := by rintro S w e x ⟨s, rfl, _⟩; rfl
  keep := fun hk ⟨s, h1, h2⟩ => ⟨s, h1, eW.keep hk h2⟩
  mono := fun hk ⟨s, h1, h2⟩ => ⟨s, h1, eW.mono hk h2⟩
def eQ : ER QV where
  sz := 4
  isA := true
  R := fun S w v q => ∃ s t, v = .agg #[.bool q.num.neg, s, .bool q.den.neg, t] ∧ eW.R S w s q.num.w ∧ eW.R S w t q.den.w
  csz := by rintro S w e x ⟨s, t, rfl, _⟩; rfl
  one := by
    rintro S w e x ⟨s, t, rfl, h1, h2⟩ u hu
    have hs := eW.shp h1
    have ht := eW.shp h2
    simp [Value.cells] at hu
    rcases hu with rfl | rfl | rfl | rfl
    · rfl
    · exact hs
    · rfl
    · exact ht
  shp := by rintro S w e x ⟨s, t, rfl, _⟩; rfl
  keep := fun hk ⟨s, t, h1, h2, h3⟩ => ⟨s, t, h1, eW.keep hk h2, eW.keep hk h3⟩
  mono := fun hk ⟨s, t, h1, h2, h3⟩ => ⟨s, t, h1, eW.mono hk h2, eW.mono hk h3⟩
abbrev eV : ER (List QV) := RL eQ
abbrev eM : ER (List (List QV)) := RL eV

theorem wI_len {S : Nat → Prop} {w : World} {v : Value} {l : List Nat} (h : eW.R S w v l) : l.length ≤ 9223372036854775807 := by obtain ⟨_, _, _, _, h⟩ := RL.len h; exact h
theorem eW_lt {S : Nat → Prop} {w : World} {v : Value} {l : List Nat} (h : eW.R S w v l) : ∀ x ∈ l, x < 4294967296 := by
  intro x hx
  obtain ⟨es, he, _⟩ := h
  obtain ⟨i, hi⟩ := List.mem_iff_getElem?.1 hx
  have hlt : i < l.length := by
    rcases Nat.lt_or_ge i l.length with h | h
    · exact h
    · rw [List.getElem?_eq_none h] at hi; cases hi
  exact (he.2 i _ x (List.getElem?_eq_getElem (by rw [he.1]; exact hlt)) hi).2
end Go.Kx

namespace Go.Kx
open Go Go.RowKit

/-- what is no cells lies as it lay -/
def Oth (w w' : World) : Prop := ∀ (k : Nat) (o : Obj), w.heap[k]? = some o → o.isCells = false → w'.heap[k]? = some o
theorem Oth.refl (w : World) : Oth w w := fun _ _ h _ => h
theorem Oth.trans {a b c : World} (h : Oth a b) (h' : Oth b c) : Oth a c := fun k o ho hc => h' k o (h k o ho hc) hc
theorem Oth.ext {w w' : World} (e : Ext w w') : Oth w w' := fun k _ h _ => (e.block k (Array.getElem?_eq_some_iff.1 h).1).trans h
theorem Oth.upd {w w' : World} {b : Nat} {t : TypeId} {cs : Array Value} (u : Upd w w' b) (hb : Blk w b t cs) : Oth w w' := fun k o h hc => (u.block k (fun e => by
  subst e
  have h' : w.heap[k]? = some (.cells cs t (0, 0)) := hb
  rw [h'] at h; cases h; cases hc)).trans h
theorem Oth.grown {w w' : World} {base : Nat} {t : TypeId} {sz n : Nat} {v : Value} {xs : List Value} (hg : w.grownBy w' v.ownBlock) (ho : w.ownsRow base t sz v n xs) : Oth w w' := by
  intro k o h hc
  refine (hg.block k (Array.getElem?_eq_some_iff.1 h).1 (fun e => ?_)).trans h
  rcases ho.2 with ⟨rfl, _⟩ | ⟨g, cap, cur, rfl, _, hh, _⟩
  · simp [Value.ownBlock] at e
  · have : k = g := by simpa [Value.ownBlock] using e
    subst this
    rw [hh] at h; cases h; cases hc

/-- a world that differs by what the loop itself does: what lay below D, and all cells, stay -/
structure Sft (D : Nat) (w w' : World) : Prop where
  below : Below D w w'
  cells : Kp (fun _ => True) w w'
theorem Sft.ext {D : Nat} {w w' : World} (e : Ext w w') (h : D ≤ w.heap.size) : Sft D w w' := ⟨e.mono h, Kp.ext e⟩
theorem Sft.put {D l : Nat} {w : World} {o o' : Obj} (h : D ≤ l) (hl : w.heap[l]? = some o) (hc : o.isCells = false) : Sft D w (w.putObj l o') := by
  refine ⟨⟨rfl, rfl, rfl, by simp, fun k hk => World.putObj_heap_other (by omega)⟩, fun k c t f _ hk => ?_⟩
  rw [World.putObj_heap_other (fun e => ?_)]; exact hk
  subst e
  rw [hl] at hk; cases hk; cases hc

def penv : List Tmp → List Value → Env → Env
  | p :: ps, v :: vs, σ => penv ps vs ((p, v) :: σ)
  | _, _, σ => σ

theorem agr_params {N : Nat} {ds ds' : List Deferred} : ∀ (ps : List Tmp) (vs : List Value) (σ : Env) (t : Array Value), (∀ p ∈ ps, p < N) → Agr N σ ds { tmps := t, defers := ds' } →
    Agr N (penv ps vs σ) ds { tmps := (ps.zip vs).foldl (fun t p => t.setIfInBounds p.1 p.2) t, defers := ds' }
  | [], _, σ, t, _, h => by simpa [penv] using h
  | p :: ps, [], σ, t, _, h => by simpa [penv] using h
  | p :: ps, v :: vs, σ, t, hp, h => by
    have h1 := h.put (d := some p) (by simpa [dOk, Nat.blt_eq] using hp p (by simp)) v
    exact agr_params ps vs ((p, v) :: σ) (t.setIfInBounds p v) (fun q hq => hp q (by simp [hq])) h1

/-- the end of a round -/
@[reducible] def rnd (J : World → Prop) (Jx : Code → World → Prop) (W : World) : Pst
  | .normal, _, _, W' => Oth W W' ∧ J W'
  | .ret, _, _, W' => Oth W W' ∧ Jx .ret W'
  | .exit id, _, _, W' => Oth W W' ∧ Jx (.exit id) W'
  | _, _, _, _ => False

/-- an iterator that hands out xs 0 .. xs (n-1) -/
def Iter (P : Program) (gf : FuncId) (lb : Array Value) (n : Nat) (xs : Nat → List Value) (F : World → Prop) : Prop :=
  ∀ (l : Nat) (J : Nat → World → Prop) (X : World → Prop), (∀ k W W', J k W → Ext W W' → J k W') → (∀ W W', X W → Ext W W' → X W') → (∀ k W, J k W → F W) →
    (∀ k W, k < n → J k W → YieldAt (wf none) 0 P l (xs k).toArray W fun e W' => (e = .returned (.bool true) ∧ J (k + 1) W') ∨ (e = .returned (.bool false) ∧ X W')) →
    ∀ W, J 0 W → Calls P gf (#[.func (.yield l) #[] #[]] ++ lb) W fun e W' => ∃ v, e = .returned v ∧ (J n W' ∨ X W')

theorem WC.range {P : Program} {N : Nat} {Q : Pst} {σ : Env} {ds : List Deferred} {w : World} {g : Operand} {ps : List Tmp} {assign body : Code} {gf : FuncId} {lb : Array Value} {n : Nat} {xs : Nat → List Value} {F : World → Prop}
    (hit : Iter P gf lb n xs F) (hg : ev σ g = some (.func (.func gf) #[] lb)) (hE : Ent P gf) (hps : ∀ k, (xs k).length = ps.length) (hpN : ∀ p ∈ ps, p < N)
    (J : Nat → World → Prop) (Jx : Code → World → Prop) (stJ : ∀ k W W', J k W → Sft w.heap.size W W' → J k W') (stX : ∀ c W W', Jx c W → Sft w.heap.size W W' → Jx c W') (hF : ∀ k W, J k W → F W) (h0 : J 0 w)
    (hbody : ∀ l k W, k < n → J k W → WC P (some l) N (thn (fun σ1 ds1 W1 => ds1 = [] ∧ W1 = W ∧ ∀ W2, J k W2 → w.heap.size ≤ W2.heap.size → WC P (some l) N (rnd (J (k + 1)) Jx W2) body σ1 [] W2) (fun _ _ _ _ => False)) assign (penv ps (xs k) σ) [] W)
    (hdone : ∀ W, J n W → W.heap[w.heap.size]? = some (.deferred (some [])) → Q .normal σ ({ target := .collected w.heap.size, args := #[] } :: ds) W)
    (hjump : ∀ c W, Jx c W → W.heap[w.heap.size]? = some (.deferred (some [])) → WC P none N Q c σ ({ target := .collected w.heap.size, args := #[] } :: ds) W) :
    WC P none N Q (.rangeFunc g ps.toArray assign body) σ ds w := by
  refine ⟨fun a ha => wpIn_rangeFunc fun fn _ => ?_⟩
  have hev := ha.ev hg
  let rec0 : Loop := { state := .ready, pending := none, fn := fn, tmps := a.tmps, params := ps.toArray, assign := assign, body := body, defers := w.heap.size }
  refine ⟨w.heap.size + 1, [{ target := .collected w.heap.size, args := #[] }], (w.alloc (.deferred (some []))).alloc (.loop rec0), { target := .fn (.func gf) lb, args := #[.func (.yield (w.heap.size + 1)) #[] #[]] }, (w.alloc (.deferred (some []))).alloc (.loop rec0), gf, #[.func (.yield (w.heap.size + 1)) #[] #[]] ++ lb, (w.alloc (.deferred (some []))).alloc (.loop rec0),
    run_enterLoop_outer fn a.tmps ps.toArray assign body, ?_, fun _ _ => trivial, ?_, (fun h => (by cases h)), ?_⟩
  · simp only [resolve]; rw [hev]; simp [Deferred.ofValue, rec0]; rfl
  · simp [invoke, hE _ _]
  let l := w.heap.size + 1
  let D := w.heap.size
  have hne : D ≠ l := by show w.heap.size ≠ w.heap.size + 1; omega
  let Jt : Nat → World → Prop := fun k W => J k W ∧ W.heap[l]? = some (.loop rec0) ∧ W.heap[D]? = some (.deferred (some []))
  let Xt : World → Prop := fun W => ∃ c, Jx c W ∧ W.heap[l]? = some (.loop { rec0 with state := .done, pending := some c }) ∧ W.heap[D]? = some (.deferred (some []))
  have hlt : ∀ {W : World} {o : Obj}, W.heap[l]? = some o → l < W.heap.size := fun h => (Array.getElem?_eq_some_iff.1 h).1
  have hlt' : ∀ {W : World} {o : Obj}, W.heap[D]? = some o → D < W.heap.size := fun h => (Array.getElem?_eq_some_iff.1 h).1
  have hstart : Jt 0 ((w.alloc (.deferred (some []))).alloc (.loop rec0)) := by
    have e1 := alloc_ext w (.deferred (some []))
    have e2 := alloc_ext (w.alloc (.deferred (some []))) (.loop rec0)
    refine ⟨stJ 0 _ _ h0 (Sft.ext (e1.trans e2) (Nat.le_refl _)), ?_, ?_⟩
    · have := World.alloc_heap_new (w.alloc (.deferred (some []))) (.loop rec0)
      rwa [World.size_alloc] at this
    · exact (e2.block D (by rw [World.size_alloc]; show w.heap.size < w.heap.size + 1; omega)).trans (World.alloc_heap_new w _)
  have hcall := hit l Jt Xt
    (fun k W W' ⟨h1, h2, h3⟩ e => ⟨stJ k W W' h1 (Sft.ext e (Nat.le_of_lt (hlt' h3))), (e.block l (hlt h2)).trans h2, (e.block D (hlt' h3)).trans h3⟩)
    (fun W W' ⟨c, h1, h2, h3⟩ e => ⟨c, stX c W W' h1 (Sft.ext e (Nat.le_of_lt (hlt' h3))), (e.block l (hlt h2)).trans h2, (e.block D (hlt' h3)).trans h3⟩)
    (fun k W h => hF k W h.1)
    (fun k W hk ⟨hJ, hl, hD⟩ => by
      refine ⟨fn, (ps.zip (xs k)).foldl (fun t p => t.setIfInBounds p.1 p.2) a.tmps, assign, body, ?_, ?_⟩
      · have := run_yield (P := P) (w := W) (l := l) (r := rec0) (args := (xs k).toArray) hl (by simp [rec0, hps])
        rw [this]
        simp [rec0]
      · refine roundIn_of_wpIn trivial ?_
        have hag : Agr N (penv ps (xs k) σ) [] { tmps := (ps.zip (xs k)).foldl (fun t p => t.setIfInBounds p.1 p.2) a.tmps, defers := [] } :=
          agr_params ps (xs k) σ a.tmps hpN ⟨ha.size, rfl, ha.slot⟩
        refine wpIn_mono ((hbody l k W hk hJ).out _ hag) ?_
        rintro e a₁ w₁ ⟨σ1, ds1, hag1, hq⟩
        cases e with
        | normal =>
          obtain ⟨rfl, rfl, hb⟩ := hq
          have hput : (w₁.putObj l (.loop { rec0 with state := .busy })).heap[l]? = some (.loop { rec0 with state := .busy }) := World.putObj_heap_same (hlt hl)
          have hputD : (w₁.putObj l (.loop { rec0 with state := .busy })).heap[D]? = some (.deferred (some [])) := by rw [World.putObj_heap_other hne]; exact hD
          refine ⟨_, run_beginRound hl rfl, wpIn_mono ((hb _ (stJ k _ _ hJ (Sft.put (show D ≤ l by show w.heap.size ≤ w.heap.size + 1; omega) hl rfl)) (by rw [World.putObj_size]; exact Nat.le_of_lt (hlt' hD))).out a₁ hag1) ?_⟩
          have hend : ∀ (W' : World) (j : Option Code), Oth (w₁.putObj l (.loop { rec0 with state := .busy })) W' →
              (Instr.endRound l j).run P W' = .ok (.bool j.isNone) (W'.putObj l (.loop { rec0 with state := if j.isNone then .ready else .done, pending := j })) ∧
              Sft D W' (W'.putObj l (.loop { rec0 with state := if j.isNone then .ready else .done, pending := j })) ∧
              (W'.putObj l (.loop { rec0 with state := if j.isNone then .ready else .done, pending := j })).heap[l]? = some (.loop { rec0 with state := if j.isNone then .ready else .done, pending := j }) ∧
              (W'.putObj l (.loop { rec0 with state := if j.isNone then .ready else .done, pending := j })).heap[D]? = some (.deferred (some [])) := by
            intro W' j ho
            have h1 := ho l _ hput rfl
            have h2 := ho D _ hputD rfl
            refine ⟨run_endRound (r := { rec0 with state := .busy }) j h1, Sft.put (show D ≤ l by show w.heap.size ≤ w.heap.size + 1; omega) h1 rfl, World.putObj_heap_same (hlt h1), ?_⟩
            rw [World.putObj_heap_other hne]; exact h2
          rintro e2 a₂ w₂ ⟨σ2, ds2, hag2, hq2⟩
          cases e2 with
          | normal =>
            obtain ⟨ho, hj⟩ := hq2
            obtain ⟨h1, h2, h3, h4⟩ := hend w₂ none ho
            exact ⟨_, _, h1, .inl ⟨rfl, stJ _ _ _ hj h2, h3, h4⟩⟩
          | ret =>
            obtain ⟨ho, hj⟩ := hq2
            obtain ⟨h1, h2, h3, h4⟩ := hend w₂ (some .ret) ho
            exact ⟨_, _, h1, .inr ⟨rfl, .ret, stX _ _ _ hj h2, h3, h4⟩⟩
          | exit id =>
            obtain ⟨ho, hj⟩ := hq2
            obtain ⟨h1, h2, h3, h4⟩ := hend w₂ (some (.exit id)) ho
            exact ⟨_, _, h1, .inr ⟨rfl, .exit id, stX _ _ _ hj h2, h3, h4⟩⟩
          | _ => exact hq2.elim
        | _ => exact hq.elim)
    _ hstart
  refine callsIn_wf.2 (hcall.mono ?_)
  have hag' : Agr N σ ({ target := .collected w.heap.size, args := #[] } :: ds) { tmps := a.tmps, defers := [{ target := .collected w.heap.size, args := #[] }] ++ a.defers } := ⟨ha.size, by rw [ha.defs]; rfl, ha.slot⟩
  rintro e W ⟨v, rfl, hres⟩
  rcases hres with ⟨hJ, hl, hD⟩ | ⟨c, hX, hl, hD⟩
  · refine ⟨none, _, run_endLoop hl (by simp [rec0]), ?_⟩
    refine ⟨σ, _, hag', hdone _ (stJ _ _ _ hJ (Sft.put (show D ≤ l by show w.heap.size ≤ w.heap.size + 1; omega) hl rfl)) ?_⟩
    rw [World.putObj_heap_other hne]; exact hD
  · refine ⟨some c, _, run_endLoop hl (by simp), ?_⟩
    refine (hjump c _ (stX _ _ _ hX (Sft.put (show D ≤ l by show w.heap.size ≤ w.heap.size + 1; omega) hl rfl)) ?_).out _ hag'
    rw [World.putObj_heap_other hne]; exact hD

section
variable {P : Program} {ro : Option Nat} {N : Nat} {ds : List Deferred} {ops : Array Oper} {K : Env → World → Prop} {rest : List Oper} {σ : Env} {w : World} {d : Tmp} {ty : TypeId} {pos : String} {af : Array Edge}
/-- the iterator calls yield -/
theorem WL.yld {l : Nat} {fx : Operand} {xs : List Operand} {ts : Array TypeId} (vs : List Value) {R : Value → World → Prop} (hd : Nat.blt d N = true) (hfx : ev σ fx = some (.func (.yield l) #[] #[])) (hx : xs.map (ev σ) = vs.map some)
    (hy : YieldAt (wf none) 0 P l vs.toArray w fun e w' => ∃ v, e = .returned v ∧ R v w') (k : ∀ v w', R v w' → WL P ro N ds ops K rest ((d, v) :: σ) w') :
    WL P ro N ds ops K (⟨some d, .call { callee := .value fx, args := xs.toArray, argTypes := ts }, ty, pos, af, none⟩ :: rest) σ w := by
  refine ⟨fun a ha => wpListIn_plain rfl fun K' hK => ?_⟩
  obtain ⟨fn, tmps, assign, body, hrun, hR⟩ := hy
  refine ⟨fun _ _ => trivial, ?_⟩
  show Oper.uponIn (wf ro) 0 P _ a K' _ ((Oper.semAt ro a.eval _).run P w)
  rw [semAt_wf (by intro c h; cases h)]
  have h1 := ha.ev hfx
  have h2 : xs.map a.eval = vs := evs_map (σ := σ) (fun x v _ hx' => ha.ev hx') hx
  have hex : (execOp a.eval { dst := some d, op := .call { callee := .value fx, args := xs.toArray, argTypes := ts }, type := ty, pos := pos, after := af, guard := none }).run P w = .ok (.round l fn tmps assign body) w := by
    simp [execOp, resolve, h1, h2, Deferred.ofValue, invoke, hrun]
  rw [hex]
  refine ⟨fun h => (by cases h), ?_⟩
  have hR' : RoundIn (wf ro) (0 - 1) P l fn tmps assign body w fun e w' => ∃ v, e = .returned v ∧ R v w' := hR
  refine hR'.mono ?_
  rintro e w' ⟨v, rfl, hv⟩
  exact hK _ _ ((k v w' hv).out _ (ha.put (d := some d) hd v))
end
end Go.Kx

namespace Go.Kx

def sg (neg : Bool) (n : Nat) : Int := if neg then -(n : Int) else n
def zval (z : ZV) : Int := sg z.neg (val z.w)
def zc (n : Int) : ZV := ⟨decide (n < 0), wds n.natAbs⟩
theorem zc_sg_zero (neg : Bool) : zc (sg neg 0) = ⟨false, []⟩ := by cases neg <;> simp [zc, sg, wds_zero]
theorem zc_sg (neg : Bool) {n : Nat} (h : n ≠ 0) : zc (sg neg n) = ⟨neg, wds n⟩ := by
  cases neg
  · simp [zc, sg]
  · have : 0 < n := by omega
    simp [zc, sg, this]
theorem zval_zc (n : Int) : zval (zc n) = n := by
  unfold zval zc sg
  simp only [val_wds, decide_eq_true_eq]
  split <;> omega

/-! words and machine integers -/
theorem wrap32_nat (n : Nat) : IntKind.u32.wrap (n : Int) = ((n % 4294967296 : Nat) : Int) := by rw [IntKind.wrap_u32]; omega
theorem wrap64_nat (n : Nat) : IntKind.u64.wrap (n : Int) = ((n % 18446744073709551616 : Nat) : Int) := by rw [IntKind.wrap_u64]; omega
theorem fdiv_nat (n k : Nat) : ((n : Int).fdiv ((2 : Int) ^ k)) = ((n / 2 ^ k : Nat) : Int) := by
  rw [Int.fdiv_eq_ediv_of_nonneg _ (by exact Int.le_of_lt (Int.pow_pos (by omega)))]
  rw [Int.natCast_ediv, Int.natCast_pow]
  rfl
theorem fdiv32 (n : Nat) : ((n : Int).fdiv ((2 : Int) ^ (min (32 : Int).toNat IntKind.u64.bits))) = ((n / 4294967296 : Nat) : Int) := fdiv_nat n 32
theorem shl32 (n : Nat) (h : n < 4294967296) : IntKind.u64.wrap ((n : Int) * 2 ^ (min (32 : Int).toNat IntKind.u64.bits)) = ((n * 4294967296 : Nat) : Int) := by
  have : ((n : Int) * 2 ^ (min (32 : Int).toNat IntKind.u64.bits)) = ((n * 4294967296 : Nat) : Int) := by
    show ((n : Int) * 2 ^ 32) = _
    omega
  rw [this, wrap64_nat]
  congr 1
  omega
theorem or_nat (x y : Nat) (hx : x < 18446744073709551616) (hy : y < 18446744073709551616) :
    IntKind.u64.wrap (BitVec.ofInt IntKind.u64.bits (x : Int) ||| BitVec.ofInt IntKind.u64.bits (y : Int)).toNat = ((x ||| y : Nat) : Int) := by
  show IntKind.u64.wrap (BitVec.ofInt 64 (x : Int) ||| BitVec.ofInt 64 (y : Int)).toNat = _
  rw [BitVec.toNat_or, BitVec.toNat_ofInt, BitVec.toNat_ofInt]
  have e1 : ((x : Int) % ((2 ^ 64 : Nat) : Int)).toNat = x := by omega
  have e2 : ((y : Int) % ((2 ^ 64 : Nat) : Int)).toNat = y := by omega
  rw [e1, e2, wrap64_nat]
  congr 1
  exact Nat.mod_eq_of_lt (Nat.or_lt_two_pow (n := 64) hx hy)
theorem or32 (x y : Nat) (hx : x < 4294967296) : (x ||| (y * 4294967296)) = x + 4294967296 * y := by
  have := Nat.shiftLeft_add_eq_or_of_lt (i := 32) (b := x) hx y
  rw [Nat.shiftLeft_eq, show (2 : Nat) ^ 32 = 4294967296 from rfl, Nat.or_comm] at this
  rw [← this]
  omega

theorem dig_nil : dig [] := by simp [dig]
theorem dig_cons {x : Nat} {l : List Nat} : dig (x :: l) ↔ x < 4294967296 ∧ dig l := by simp [dig]

theorem cellsOf_map1 {α : Type} (f : α → Value) (hf : ∀ x, (f x).cells = #[f x]) (l : List α) : cellsOf (l.map f) = l.map f := by
  induction l with
  | nil => rfl
  | cons x l ih =>
    simp only [cellsOf] at ih
    simp only [cellsOf, List.map_cons, List.flatMap_cons, ih, hf]
    rfl
/-- words just laid -/
theorem eW_new {S : Nat → Prop} {w : World} {b : Nat} {t : TypeId} {l : List Nat} {c : Nat} (hb : Blk w b t (l.map fun (x : Nat) => Value.int .u32 x).toArray) (hS : S b) (hd : dig l) (hl : l.length ≤ c) (hm : l.length ≤ 9223372036854775807) :
    eW.R S w (.slice (some ⟨b, 0, none⟩) l.length c) l := by
  refine RL.ofBlk (es := l.map fun (x : Nat) => Value.int .u32 x) hb hS ⟨by simp, fun i e x he hx => ?_⟩ (fun j u hu => ?_) hl hm
  · rw [List.getElem?_map, hx] at he
    simp at he
    exact ⟨he.symm, hd x (List.mem_iff_getElem?.2 ⟨i, hx⟩)⟩
  · have := cellsOf_map1 (fun (x : Nat) => Value.int .u32 x) (fun _ => rfl) l
    rw [this] at hu
    simpa using hu
end Go.Kx

namespace Go.Kx
open Go Go.RowKit

section
variable {P : Program} {ro : Option Nat} {N : Nat} {Q : Pst} {σ : Env} {ds : List Deferred} {w : World}
/-- where branches meet: E says which slots hold what, F what is known of the world -/
theorem WC.mid {α : Type} {x y : Code} (E : α → Env) (F : α → World → Prop) (h1 : WC P ro N (thn (fun σ' ds' w' => ds' = ds ∧ ∃ a, (∀ t v, look (E a) t = some v → look σ' t = some v) ∧ F a w') Q) x σ ds w)
    (h2 : ∀ a w', F a w' → WC P ro N Q y (E a) ds w') : WC P ro N Q (x.seq y) σ ds w :=
  WC.seq (h1.mono fun e σ' ds' w' h => by
    cases e with
    | normal => obtain ⟨rfl, a, he, hf⟩ := h; exact (h2 a w' hf).weak _ he
    | _ => exact h)
end

section
variable {P : Program} {ro : Option Nat} {N : Nat} {ds : List Deferred} {ops : Array Oper} {K : Env → World → Prop} {rest : List Oper} {σ : Env} {w : World} {d : Tmp} {ty : TypeId} {pos : String} {af : Array Edge}
theorem WL.callG {f : FuncId} {xs : List Operand} {ts : Array TypeId} (vs : List Value) {R : Value → World → Prop} (hd : Nat.blt d N = true) (hf : Ent P f) (hx : xs.map (ev σ) = vs.map some) (hc : Calls P f vs.toArray w fun e w' => ∃ v, e = .returned v ∧ R v w')
    (k : ∀ v w', R v w' → WL P ro N ds ops K rest ((d, v) :: σ) w') :
    WL P ro N ds ops K (⟨some d, .call { callee := .value (.func f), args := xs.toArray, argTypes := ts }, ty, pos, af, none⟩ :: rest) σ w :=
  WL.gv rfl hd (g_callG vs hf hx hc) k
theorem WL.callvG {f : FuncId} {fx : Operand} {xs : List Operand} {ts : Array TypeId} {cap : Array Value} (vs : List Value) {R : Value → World → Prop} (hd : Nat.blt d N = true) (hfx : ev σ fx = some (.func (.func f) #[] cap)) (hf : Ent P f)
    (hx : xs.map (ev σ) = vs.map some) (hc : Calls P f (vs.toArray ++ cap) w fun e w' => ∃ v, e = .returned v ∧ R v w') (k : ∀ v w', R v w' → WL P ro N ds ops K rest ((d, v) :: σ) w') :
    WL P ro N ds ops K (⟨some d, .call { callee := .value fx, args := xs.toArray, argTypes := ts }, ty, pos, af, none⟩ :: rest) σ w :=
  WL.gv rfl hd (g_callvG vs hfx hf hx hc) k
end

section
variable {P : Program} {σ : Env} {w : World} {d : Option Tmp} {ty : TypeId} {pos : String} {af : Array Edge} {g : Option (Nat × Bool)}
/-- the address of an element, exactly -/
theorem v_ixB {t e : TypeId} {x ix : Operand} {k : IntKind} {i : Nat} {b : Bool} {sz blk off n c : Nat} (ht : P.underlying t = some (.slice e)) (he : tyOf P e = some (b, sz)) (hx : ev σ x = some (.slice (some ⟨blk, off, none⟩) n c))
    (hi : ev σ ix = some (.int k (i : Int))) (hlt : i < n) : Vl P ⟨d, .indexAddr t x ix, ty, pos, af, g⟩ σ w (.pointer (some ⟨blk, off + i * sz, none⟩)) := by
  refine ⟨(by intro _ h; cases h), fun ρ hρ => ?_⟩
  have h1 := hρ x _ (by simp [Op.operands]) hx
  have h2 := hρ ix _ (by simp [Op.operands]) hi
  have hlt' : (i : Int) < (n : Int) := by omega
  simp [execOp, h1, h2, Instr.indexAt, asIntOf, run_underlying ht, (tyOf_agg he w).2, add_mk]
  intro hh; omega
/-- a part of a slice, exactly -/
theorem v_cutB {t e : TypeId} {x : Operand} {b : Bool} {sz blk off n c : Nat} (lo hi : Option Operand) (L H : Nat) (ht : P.underlying t = some (.slice e)) (he : tyOf P e = some (b, sz)) (hx : ev σ x = some (.slice (some ⟨blk, off, none⟩) n c))
    (hlo : match lo with | none => L = 0 | some y => ∃ k, ev σ y = some (.int k (L : Int))) (hhi : match hi with | none => H = n | some y => ∃ k, ev σ y = some (.int k (H : Int))) (h1 : L ≤ H) (h2 : H ≤ c) (h3 : L < c) :
    Vl P ⟨d, .slice t x lo hi none, ty, pos, af, g⟩ σ w (.slice (some ⟨blk, off + L * sz, none⟩) (H - L) (c - L)) := by
  refine ⟨(by intro _ h; cases h), fun ρ hρ => ?_⟩
  have e1 := hρ x _ (by simp [Op.operands]) hx
  have hb1 : (Instr.sliceBounds true n c (lo.map ρ) (hi.map ρ) none).run P w = .ok (L, H, c) w := by
    cases lo with
    | none =>
      cases hi with
      | none => simp at hlo hhi; subst hlo; subst hhi; simp [Instr.sliceBounds]
      | some y =>
        simp at hlo
        obtain ⟨k, hk⟩ := hhi
        have := hρ y _ (by simp [Op.operands]) hk
        subst hlo
        simp [Instr.sliceBounds, Instr.sliceBound, this, asIntOf, Int.ofNat_le, h2]
    | some z =>
      obtain ⟨k', hk'⟩ := hlo
      have e2 := hρ z _ (by simp [Op.operands]) hk'
      cases hi with
      | none =>
        simp at hhi; subst hhi
        simp [Instr.sliceBounds, Instr.sliceBound, e2, asIntOf, h1]
      | some y =>
        obtain ⟨k, hk⟩ := hhi
        have := hρ y _ (by simp [Op.operands]) hk
        simp [Instr.sliceBounds, Instr.sliceBound, this, e2, asIntOf, h2, h1]
  have hne : ¬ c = L := by omega
  simp [execOp, e1, Instr.sliceAt, run_underlying ht, Instr.slice, hb1, (tyOf_agg he w).2, hne, add_mk]
end
section
variable {P : Program} {ro : Option Nat} {N : Nat} {ds : List Deferred} {ops : Array Oper} {K : Env → World → Prop} {rest : List Oper} {σ : Env} {w : World} {d : Tmp} {ty : TypeId} {pos : String} {af : Array Edge}
theorem WL.ixB {t e : TypeId} {x ix : Operand} {k : IntKind} {i : Nat} {b : Bool} {sz blk off n c : Nat} (ht : P.underlying t = some (.slice e)) (he : tyOf P e = some (b, sz)) (hd : Nat.blt d N = true) (hx : ev σ x = some (.slice (some ⟨blk, off, none⟩) n c))
    (hi : ev σ ix = some (.int k (i : Int))) (hlt : i < n) (kk : WL P ro N ds ops K rest ((d, .pointer (some ⟨blk, off + i * sz, none⟩)) :: σ) w) : WL P ro N ds ops K (⟨some d, .indexAddr t x ix, ty, pos, af, none⟩ :: rest) σ w :=
  WL.vl rfl hd (v_ixB ht he hx hi hlt) kk
theorem WL.cutB {t e : TypeId} {x : Operand} {b : Bool} {sz blk off n c : Nat} {lo hi : Option Operand} (L H : Nat) (ht : P.underlying t = some (.slice e)) (he : tyOf P e = some (b, sz)) (hd : Nat.blt d N = true) (hx : ev σ x = some (.slice (some ⟨blk, off, none⟩) n c))
    (hlo : match lo with | none => L = 0 | some y => ∃ k, ev σ y = some (.int k (L : Int))) (hhi : match hi with | none => H = n | some y => ∃ k, ev σ y = some (.int k (H : Int))) (h1 : L ≤ H) (h2 : H ≤ c) (h3 : L < c)
    (kk : WL P ro N ds ops K rest ((d, .slice (some ⟨blk, off + L * sz, none⟩) (H - L) (c - L)) :: σ) w) : WL P ro N ds ops K (⟨some d, .slice t x lo hi none, ty, pos, af, none⟩ :: rest) σ w :=
  WL.vl rfl hd (v_cutB lo hi L H ht he hx hlo hhi h1 h2 h3) kk
end

theorem Vl.eq {P : Program} {o : Oper} {σ : Env} {w : World} {v v' : Value} (h : Vl P o σ w v) (e : v = v') : Vl P o σ w v' := e ▸ h

/-! words of the call's own -/
abbrev wv (x : Nat) : Value := .int .u32 x
def OwnW (t : TypeId) (base : Nat) (w : World) (v : Value) (r : List Nat) : Prop := w.ownsRow base t 1 v r.length (r.map wv) ∧ dig r

theorem OwnW.keep {t : TypeId} {base : Nat} {w w' : World} {v : Value} {r : List Nat} (h : OwnW t base w v r) (hk : ∀ k cs, base ≤ k → Blk w k t cs → Blk w' k t cs) : OwnW t base w' v r := by
  refine ⟨⟨h.1.1, ?_⟩, h.2⟩
  rcases h.1.2 with hn | ⟨g, cap, cur, hv, hb, hg, rest⟩
  · exact .inl hn
  · exact .inr ⟨g, cap, cur, hv, hb, hk g cur hb hg, rest⟩
theorem OwnW.kp {t : TypeId} {base : Nat} {w w' : World} {v : Value} {r : List Nat} (h : OwnW t base w v r) (hk : Kp (fun _ => True) w w') : OwnW t base w' v r := h.keep fun k cs _ hb => hk.blk trivial hb
theorem OwnW.ext {t : TypeId} {base : Nat} {w w' : World} {v : Value} {r : List Nat} (h : OwnW t base w v r) (e : Ext w w') : OwnW t base w' v r := h.kp (Kp.ext e)
theorem OwnW.upd {t t' : TypeId} {base b : Nat} {w w' : World} {v : Value} {r : List Nat} {cs : Array Value} (h : OwnW t base w v r) (hu : Upd w w' b) (hb : Blk w b t' cs) (ht : t ≠ t') : OwnW t base w' v r :=
  h.keep fun k c _ hk => hk.upd hu fun e => by
    subst e
    have h1 : w.heap[k]? = some (.cells c t (0, 0)) := hk
    have h2 : w.heap[k]? = some (.cells cs t' (0, 0)) := hb
    rw [h1] at h2; cases h2; exact ht rfl
theorem OwnW.gblk {t t' : TypeId} {base b : Nat} {w w' : World} {v : Value} {r : List Nat} {cs : Array Value} (h : OwnW t base w v r) (hg : w.grownBy w' v.ownBlock) (hb : Blk w b t' cs) (ht : t ≠ t') : Blk w' b t' cs := by
  refine (hg.block b hb.lt fun e => ?_).trans hb
  rcases h.1.2 with ⟨rfl, _⟩ | ⟨g, cap, cur, rfl, _, hgg, _⟩
  · simp [Value.ownBlock] at e
  · have : b = g := by simpa [Value.ownBlock] using e
    subst this
    have h2 : w.heap[b]? = some (.cells cs t' (0, 0)) := hb
    rw [hgg] at h2; cases h2; exact ht rfl
theorem OwnW.below {t : TypeId} {base : Nat} {w0 w w' : World} {v : Value} {r : List Nat} (h : OwnW t base w v r) (hg : w.grownBy w' v.ownBlock) (hb : Below base w0 w) (hB : base ≤ w.heap.size) : Below base w0 w' :=
  hb.grown hg hB fun k hk => (h.1.lt k hk).1
theorem OwnW.oth {t : TypeId} {base : Nat} {w w' : World} {v : Value} {r : List Nat} (h : OwnW t base w v r) (hg : w.grownBy w' v.ownBlock) : Oth w w' := Oth.grown hg h.1
theorem OwnW.made {t : TypeId} {base b c : Nat} {w w' : World} (hn : New w w' b t (cellsOf (List.replicate c (.int .u32 0))).toArray) (hb : base ≤ w.heap.size) (hc : c ≤ 9223372036854775807) : OwnW t base w' (.slice (some ⟨b, 0, none⟩) 0 c) [] := by
  obtain ⟨_, hk, hb', _⟩ := hn
  refine ⟨⟨rfl, .inr ⟨b, c, _, rfl, by omega, hk, Nat.zero_le _, by simpa [maxLen] using hc, ?_, by simp⟩⟩, by simp [dig]⟩
  rw [List.size_toArray, cellsOf_length (sz := 1) _ (fun e he => by rw [(List.mem_replicate.1 he).2]; rfl)]
  simp
theorem OwnW.toR {t : TypeId} {base : Nat} {w : World} {v : Value} {r : List Nat} {S : Nat → Prop} (h : OwnW t base w v r) (hS : ∀ k, base ≤ k → S k) : eW.R S w v r := by
  refine RL.ofOwn (E := eU32) (es := r.map wv) (base := base) (t := t) (n := r.length) ?_ rfl ⟨by simp, fun i e x he hx => ?_⟩ hS
  · rw [cellsOf_map1 wv (fun _ => rfl)]; exact h.1
  · rw [List.getElem?_map, hx] at he
    simp at he
    exact ⟨he.symm, h.2 x (List.mem_iff_getElem?.2 ⟨i, hx⟩)⟩

section
variable {P : Program} {σ : Env} {w : World} {d : Option Tmp} {ty : TypeId} {pos : String} {af : Array Edge} {g : Option (Nat × Bool)}
/-- append(r, x) -/
theorem g_appW {t e : TypeId} {x y : Operand} {base b : Nat} {v : Value} {r : List Nat} {n : Nat} (ht : P.underlying t = some (.slice e)) (hi : infoOf P e = some (.int .u32 0, 1, 4)) (hx : ev σ x = some v) (hy : ev σ y = some (.slice (some ⟨b, 0, none⟩) 1 1))
    (hown : OwnW e base w v r) (hb : Blk w b e #[wv n]) (hn : n < 4294967296) (hl : r.length ≤ 1099511627776) (hbase : base ≤ w.heap.size) :
    Gv P ⟨d, .call { callee := .builtin .append, args := #[x, y], argTypes := #[t, t] }, ty, pos, af, g⟩ σ w fun v' w' => OwnW e base w' v' (r ++ [n]) ∧ w.grownBy w' v.ownBlock := by
  refine (g_app [wv n] ht hi rfl (by decide) hx hy hown.1 rfl (fun j u hu => ?_) (fun u hu => ?_) (by omega) (by omega) hbase).mono ?_
  · cases j with
    | zero => simp at hu; subst hu; rw [add_mk, hb.cell]; rfl
    | succ j => simp at hu
  · simp at hu; subst hu; rfl
  · rintro v' w' ⟨h1, h2⟩
    refine ⟨⟨by simpa using h1, ?_⟩, h2⟩
    intro y hy
    rcases List.mem_append.1 hy with h | h
    · exact hown.2 y h
    · simp at h; subst h; exact hn
end

/-- words of a value -/
@[reducible] def Wv (S : Nat → Prop) (n L : Nat) : Value → World → Prop := fun v w => ∃ r, eW.R S w v r ∧ val r = n ∧ r.length ≤ L
theorem st_wv (S : Nat → Prop) (n L : Nat) : St (Wv S n L) := fun _ _ _ e ⟨r, h1, h2⟩ => ⟨r, h1.ext e, h2⟩

theorem val_snoc (l : List Nat) (x : Nat) : val (l ++ [x]) = val l + 4294967296 ^ l.length * x := by
  rw [val_append]; simp [val]
theorem val_take_succ (l : List Nat) (k : Nat) : val (l.take (k + 1)) = val (l.take k) + 4294967296 ^ k * l.getD k 0 := by
  rcases Nat.lt_or_ge k l.length with h | h
  · rw [List.take_succ_eq_append_getElem h, val_snoc, List.length_take, Nat.min_eq_left (by omega)]
    simp [List.getD_eq_getElem?_getD, List.getElem?_eq_getElem h]
  · rw [List.take_of_length_le (by omega), List.take_of_length_le h]
    simp [List.getD_eq_getElem?_getD, List.getElem?_eq_none h]
theorem dig_getD {l : List Nat} (h : dig l) (k : Nat) : l.getD k 0 < 4294967296 := by
  rw [List.getD_eq_getElem?_getD]
  cases hk : l[k]? with
  | none => simp
  | some x => exact h x (List.mem_iff_getElem?.2 ⟨k, hk⟩)
/-- a record of the loop is put -/
theorem below_put {B D : Nat} {w0 w : World} {o : Obj} (h : Below B w0 w) (hD : B ≤ D) : Below B w0 (w.putObj D o) :=
  h.trans ⟨rfl, rfl, rfl, by simp, fun k hk => World.putObj_heap_other (by omega)⟩
theorem Kp.put {S : Nat → Prop} {D : Nat} {w : World} {o o' : Obj} (hl : w.heap[D]? = some o) (hc : o.isCells = false) : Kp S w (w.putObj D o') := by
  intro k c t f _ hk
  rw [World.putObj_heap_other (fun e => ?_)]; exact hk
  subst e
  rw [hl] at hk; cases hk; cases hc
end Go.Kx

namespace Go.Kx
open Go Go.RowKit

/-- the block g begins with the words U -/
def OB (t : TypeId) (w : World) (g : Nat) (U : List Nat) : Prop := dig U ∧ ∃ cs, Blk w g t cs ∧ ∀ (i x : Nat), U[i]? = some x → cs[i]? = some (wv x)

section
variable {t : TypeId} {w w' : World} {g : Nat} {U : List Nat}
theorem OB.lt (h : OB t w g U) : g < w.heap.size := by obtain ⟨_, cs, hb, _⟩ := h; exact hb.lt
theorem OB.ext (h : OB t w g U) (e : Ext w w') : OB t w' g U := by obtain ⟨hd, cs, hb, hc⟩ := h; exact ⟨hd, cs, hb.ext e, hc⟩
theorem OB.upd {b : Nat} (h : OB t w g U) (u : Upd w w' b) (hne : g ≠ b) : OB t w' g U := by obtain ⟨hd, cs, hb, hc⟩ := h; exact ⟨hd, cs, hb.upd u hne, hc⟩
theorem OB.ne {t' : TypeId} {b : Nat} {cs : Array Value} (h : OB t w g U) (hb : Blk w b t' cs) (ht : t ≠ t') : g ≠ b := by
  obtain ⟨_, c, h1, _⟩ := h
  intro e; subst e
  have h1' : w.heap[g]? = some (.cells c t (0, 0)) := h1
  have h2 : w.heap[g]? = some (.cells cs t' (0, 0)) := hb
  rw [h1'] at h2; cases h2; exact ht rfl
theorem OB.toR {S : Nat → Prop} (h : OB t w g U) (hS : S g) (k m c : Nat) (hkm : k + m ≤ U.length) (hmc : m ≤ c) (hb : m ≤ 9223372036854775807) : eW.R S w (.slice (some ⟨g, k, none⟩) m c) ((U.drop k).take m) := by
  obtain ⟨hd, cs, hB, hc⟩ := h
  have hl : ((U.drop k).take m).length = m := by simp; omega
  refine ⟨((U.drop k).take m).map wv, ⟨by simp, fun i e x he hx => ?_⟩, some ⟨g, k, none⟩, c, by rw [hl], by omega, by omega, ?_, fun _ => ⟨_, rfl, hS, fun j u hu => ?_⟩⟩
  · rw [List.getElem?_map, hx] at he
    simp at he
    refine ⟨he.symm, hd x ?_⟩
    exact List.mem_of_mem_drop (List.mem_of_mem_take (List.mem_iff_getElem?.2 ⟨i, hx⟩))
  · rw [cellsOf_map1 wv (fun _ => rfl), List.length_map, hl]; exact (Nat.mul_one m).symm
  · rw [cellsOf_map1 wv (fun _ => rfl), List.getElem?_map] at hu
    rw [add_mk, hB.cell]
    cases hx : ((U.drop k).take m)[j]? with
    | none => rw [hx] at hu; cases hu
    | some x =>
      rw [hx] at hu
      simp at hu
      subst hu
      refine hc _ _ ?_
      rw [List.getElem?_take] at hx
      split at hx
      · rw [List.getElem?_drop] at hx; exact hx
      · cases hx
theorem OB.toR0 {S : Nat → Prop} {c : Nat} (h : OB t w g U) (hS : S g) (hmc : U.length ≤ c) (hb : U.length ≤ 9223372036854775807) : eW.R S w (.slice (some ⟨g, 0, none⟩) U.length c) U := by
  have := h.toR hS 0 U.length c (by omega) hmc hb
  simpa using this
theorem OwnW.ob {base : Nat} {v : Value} (h : OwnW t base w v U) (hne : U ≠ []) : ∃ g cap, v = .slice (some ⟨g, 0, none⟩) U.length cap ∧ U.length ≤ cap ∧ cap ≤ 9223372036854775807 ∧ base ≤ g ∧ OB t w g U := by
  rcases h.1.2 with ⟨_, h0⟩ | ⟨g, cap, cur, hv, hb, hg, h1, h2, h3, h4⟩
  · exact absurd (List.length_eq_zero_iff.1 h0) hne
  · refine ⟨g, cap, hv, h1, by simpa [maxLen] using h2, hb, h.2, cur, hg, fun i x hx => ?_⟩
    have : (cur.toList.take (U.length * 1))[i]? = some (wv x) := by rw [h4, List.getElem?_map, hx]; rfl
    rw [List.getElem?_take] at this
    split at this
    · simpa using this
    · cases this
theorem OB.made {b c : Nat} (hn : New w w' b t (cellsOf (List.replicate c (.int .u32 0))).toArray) : OB t w' b (List.replicate c 0) := by
  obtain ⟨_, hk, _, _⟩ := hn
  refine ⟨fun x hx => by rw [(List.mem_replicate.1 hx).2]; omega, _, hk, fun i x hx => ?_⟩
  have : cellsOf (List.replicate c (Value.int .u32 0)) = (List.replicate c 0).map wv := by
    have h := cellsOf_map1 wv (fun _ => rfl) (List.replicate c 0)
    rw [← h, List.map_replicate]; rfl
  rw [this]
  simp only [List.getElem?_toArray, List.getElem?_map, hx, Option.map_some]
end

section
variable {P : Program} {ro : Option Nat} {N : Nat} {ds : List Deferred} {ops : Array Oper} {K : Env → World → Prop} {rest : List Oper} {σ : Env} {w : World} {d : Tmp} {ty : TypeId} {pos : String} {af : Array Edge}
theorem v_ixW {dd : Option Tmp} {gd : Option (Nat × Bool)} {t e : TypeId} {x ix : Operand} {k : IntKind} {i : Nat} {b : Bool} {blk off n c : Nat} (ht : P.underlying t = some (.slice e)) (he : tyOf P e = some (b, 1)) (hx : ev σ x = some (.slice (some ⟨blk, off, none⟩) n c))
    (hi : ev σ ix = some (.int k (i : Int))) (hlt : i < n) : Vl P ⟨dd, .indexAddr t x ix, ty, pos, af, gd⟩ σ w (.pointer (some ⟨blk, off + i, none⟩)) := by
  have := v_ixB (d := dd) (g := gd) (ty := ty) (pos := pos) (af := af) (w := w) ht he hx hi hlt
  rwa [Nat.mul_one] at this
theorem WL.ixW {t e : TypeId} {x ix : Operand} {k : IntKind} {i : Nat} {b : Bool} {blk off n c : Nat} (ht : P.underlying t = some (.slice e)) (he : tyOf P e = some (b, 1)) (hd : Nat.blt d N = true) (hx : ev σ x = some (.slice (some ⟨blk, off, none⟩) n c))
    (hi : ev σ ix = some (.int k (i : Int))) (hlt : i < n) (kk : WL P ro N ds ops K rest ((d, .pointer (some ⟨blk, off + i, none⟩)) :: σ) w) : WL P ro N ds ops K (⟨some d, .indexAddr t x ix, ty, pos, af, none⟩ :: rest) σ w :=
  WL.vl rfl hd (v_ixW ht he hx hi hlt) kk
theorem v_ldO {dd : Option Tmp} {gd : Option (Nat × Bool)} {t t' : TypeId} {x : Operand} {g i y : Nat} {U : List Nat} (ht : tyOf P t = some (false, 1)) (hx : ev σ x = some (.pointer (some ⟨g, i, none⟩))) (h : OB t' w g U) (hi : U[i]? = some y) :
    Vl P ⟨dd, .load t x, ty, pos, af, gd⟩ σ w (wv y) := by
  obtain ⟨_, cs, hb, hc⟩ := h
  exact v_ld ht hx hb (hc i y hi)
theorem WL.ldO {t t' : TypeId} {x : Operand} {g i y : Nat} {U : List Nat} (ht : tyOf P t = some (false, 1)) (hd : Nat.blt d N = true) (hx : ev σ x = some (.pointer (some ⟨g, i, none⟩))) (h : OB t' w g U) (hi : U[i]? = some y)
    (k : WL P ro N ds ops K rest ((d, wv y) :: σ) w) : WL P ro N ds ops K (⟨some d, .load t x, ty, pos, af, none⟩ :: rest) σ w := WL.vl rfl hd (v_ldO ht hx h hi) k
theorem g_stO {dd : Option Tmp} {gd : Option (Nat × Bool)} {t t' : TypeId} {x y : Operand} {g i n : Nat} {U : List Nat} (ht : tyOf P t = some (false, 1)) (hx : ev σ x = some (.pointer (some ⟨g, i, none⟩))) (hy : ev σ y = some (wv n)) (h : OB t' w g U) (hi : i < U.length) (hn : n < 4294967296) :
    Gv P ⟨dd, .store t x y, ty, pos, af, gd⟩ σ w fun _ w' => OB t' w' g (U.set i n) ∧ Upd w w' g := by
  obtain ⟨hd, cs, hb, hc⟩ := h
  have hsz : i < cs.size := by
    have := hc i _ (List.getElem?_eq_getElem hi)
    rcases Nat.lt_or_ge i cs.size with h | h
    · exact h
    · rw [Array.getElem?_eq_none h] at this; cases this
  refine (g_store ht hx hy hb rfl (by omega) (by simp [one1, Value.cells])).mono ?_
  rintro _ w' ⟨h1, h2⟩
  refine ⟨⟨fun x hx => ?_, _, h1, fun j x hx => ?_⟩, h2⟩
  · rcases List.mem_or_eq_of_mem_set hx with h | h
    · exact hd x h
    · omega
  · have hcl : (wv n).cells.toList = [wv n] := rfl
    rw [hcl, wrt_get _ _ _ _ (by simp; omega), List.length_singleton]
    rw [List.getElem?_set] at hx
    by_cases e : i = j
    · subst e
      rw [if_pos rfl, if_pos hi] at hx
      cases hx
      rw [if_pos (by omega)]
      simp
    · rw [if_neg e] at hx
      rw [if_neg (by omega)]
      exact hc j x hx
theorem WL.stO {t t' : TypeId} {x y : Operand} {dd : Option Tmp} {g i n : Nat} {U : List Nat} (ht : tyOf P t = some (false, 1)) (hd : dd = none) (hx : ev σ x = some (.pointer (some ⟨g, i, none⟩))) (hy : ev σ y = some (wv n)) (h : OB t' w g U) (hi : i < U.length) (hn : n < 4294967296)
    (k : ∀ w', OB t' w' g (U.set i n) → Upd w w' g → WL P ro N ds ops K rest σ w') : WL P ro N ds ops K (⟨dd, .store t x y, ty, pos, af, none⟩ :: rest) σ w := by
  subst hd
  exact WL.gv rfl rfl (g_stO ht hx hy h hi hn) fun _ w' ⟨h1, h2⟩ => k w' h1 h2
end

section
variable {P : Program} {σ : Env} {w : World} {d : Option Tmp} {ty : TypeId} {pos : String} {af : Array Edge} {g : Option (Nat × Bool)}
theorem ob_as {x : Operand} {u : Value} {R : Value → World → Prop} (hx : ev σ x = some u) (h : R u w) (hs : St R) : Gv P ⟨d, .assign x, ty, pos, af, g⟩ σ w fun v' w' => Ext w w' ∧ Sp.ok (.inr R) v' w' :=
  (v_as hx).gv.mono fun v' w' ⟨e1, e2⟩ => by subst e1; subst e2; exact ⟨Ext.refl _, fun _ e => hs _ _ _ e h⟩
theorem ob_mv {x : Operand} {u : Value} {R : Value → World → Prop} (hx : ev σ x = some u) (h : R u w) (hs : St R) : Gv P ⟨d, .move x, ty, pos, af, g⟩ σ w fun v' w' => Ext w w' ∧ Sp.ok (.inr R) v' w' :=
  (v_mv hx).gv.mono fun v' w' ⟨e1, e2⟩ => by subst e1; subst e2; exact ⟨Ext.refl _, fun _ e => hs _ _ _ e h⟩
theorem ob_vl {o : Oper} {u : Value} {R : Value → World → Prop} (hv : Vl P o σ w u) (h : R u w) (hs : St R) : Gv P o σ w fun v' w' => Ext w w' ∧ Sp.ok (.inr R) v' w' :=
  hv.gv.mono fun v' w' ⟨e1, e2⟩ => by subst e1; subst e2; exact ⟨Ext.refl _, fun _ e => hs _ _ _ e h⟩
end

/-! plain -/
theorem val_set {l : List Nat} {i y : Nat} (x : Nat) (h : l[i]? = some y) : val (l.set i x) + 4294967296 ^ i * y = val l + 4294967296 ^ i * x := by
  have hlt : i < l.length := by
    rcases Nat.lt_or_ge i l.length with h' | h'
    · exact h'
    · rw [List.getElem?_eq_none h'] at h; cases h
  rw [val_split h, val_split (l := l.set i x) (i := i) (x := x) (by rw [List.getElem?_set, if_pos rfl, if_pos hlt])]
  rw [List.take_set_of_le (Nat.le_refl _), List.drop_set_of_lt (by omega)]
  generalize val (l.drop (i + 1)) = D
  rw [Nat.mul_add, Nat.mul_add]
  omega
theorem shl_nat (x s : Nat) (hs : s ≤ 31) (hx : x < 4294967296) : IntKind.u64.wrap ((x : Int) * 2 ^ (min (s : Int).toNat IntKind.u64.bits)) = ((x * 2 ^ s : Nat) : Int) := by
  have h1 : min (s : Int).toNat IntKind.u64.bits = s := by show min (s : Int).toNat 64 = s; omega
  rw [h1, show ((x : Int) * 2 ^ s) = ((x * 2 ^ s : Nat) : Int) by simp, wrap64_nat, Nat.mod_eq_of_lt]
  have : 2 ^ s ≤ 2 ^ 31 := Nat.pow_le_pow_right (by omega) hs
  have := Nat.mul_le_mul (show x ≤ 4294967296 by omega) this
  omega
theorem shr_nat (x s : Nat) (hs : s ≤ 63) : ((x : Int).fdiv ((2 : Int) ^ (min (s : Int).toNat IntKind.u64.bits))) = ((x / 2 ^ s : Nat) : Int) := by
  have h1 : min (s : Int).toNat IntKind.u64.bits = s := by show min (s : Int).toNat 64 = s; omega
  rw [h1]; exact fdiv_nat x s
theorem or_hi (q x : Nat) (hx : x < 4294967296) (hq : q < 4294967296) : IntKind.u64.wrap (BitVec.ofInt IntKind.u64.bits ((q * 4294967296 : Nat) : Int) ||| BitVec.ofInt IntKind.u64.bits (x : Int)).toNat = ((x + 4294967296 * q : Nat) : Int) := by
  rw [or_nat _ _ (by omega) (by omega), Nat.or_comm, or32 x q hx]
theorem tdiv_nat (a b : Nat) : (a : Int).tdiv (b : Int) = ((a / b : Nat) : Int) := rfl
theorem tmod_nat (a b : Nat) : (a : Int).tmod (b : Int) = ((a % b : Nat) : Int) := rfl
end Go.Kx

namespace Go.Kx

section
variable {B p U V U0 V0 u0 top v1 v2 g r : Nat}
theorem est_start (hp : 0 < p) (hB : 0 < B) (hU : U = U0 + p * (u0 + B * top)) (hV : V = V0 + p * (v2 + B * v1)) (hU0 : U0 < p) (hu0 : u0 < B) (h1 : 0 < v1) : U / V ≤ top / v1 := by
  have hVp : 0 < V := by
    have : 0 < p * (v2 + B * v1) := Nat.mul_pos hp (by have := Nat.mul_pos hB h1; omega)
    omega
  have hlt : top + 1 ≤ v1 * (top / v1 + 1) := by
    have := Nat.lt_mul_div_succ top h1
    omega
  have : U < V * (top / v1 + 1) := by
    have e1 : U < p * (B * (top + 1)) := by
      rw [hU]
      have : u0 + B * top + 1 ≤ B * (top + 1) := by rw [Nat.mul_add]; omega
      have := Nat.mul_le_mul_left p this
      rw [Nat.mul_add] at this
      omega
    have e2 : p * (B * (top + 1)) ≤ p * (B * (v1 * (top / v1 + 1))) := Nat.mul_le_mul_left _ (Nat.mul_le_mul_left _ hlt)
    have e3 : p * (B * (v1 * (top / v1 + 1))) ≤ V * (top / v1 + 1) := by
      have : p * (B * (v1 * (top / v1 + 1))) = (p * (B * v1)) * (top / v1 + 1) := by simp only [Nat.mul_assoc]
      rw [this]
      refine Nat.mul_le_mul_right _ ?_
      rw [hV, Nat.mul_add]; omega
    omega
  have := (Nat.div_lt_iff_lt_mul hVp).2 (by rw [Nat.mul_comm]; exact this)
  omega
theorem est_down (hp : 0 < p) (hB : 0 < B) (hU : U = U0 + p * (u0 + B * top)) (hV : V = V0 + p * (v2 + B * v1)) (hU0 : U0 < p) (h1 : 0 < v1) (ht : g * v1 + r = top) (h : r * B + u0 < g * v2) : U / V < g := by
  have hVp : 0 < V := by
    have : 0 < p * (v2 + B * v1) := Nat.mul_pos hp (by have := Nat.mul_pos hB h1; omega)
    omega
  rw [Nat.div_lt_iff_lt_mul hVp]
  have e1 : u0 + B * top + 1 ≤ g * (v2 + B * v1) := by
    have : g * (v2 + B * v1) = g * v2 + B * (g * v1) := by grind
    rw [this, ← ht, Nat.mul_add, Nat.mul_comm B r]
    omega
  have e2 : p * (u0 + B * top + 1) ≤ g * V := by
    rw [hV, Nat.mul_add g]
    have := Nat.mul_le_mul_left p e1
    have e : p * (g * (v2 + B * v1)) = g * (p * (v2 + B * v1)) := by grind
    omega
  rw [Nat.mul_add] at e2
  omega
theorem est_stop (hp : 0 < p) (hB : 0 < B) (hU : U = U0 + p * (u0 + B * top)) (hV : V = V0 + p * (v2 + B * v1)) (hV0 : V0 < p) (h1 : 0 < v1) (ht : g * v1 + r = top) (hg : g < B) (h : g * v2 ≤ r * B + u0) : g ≤ U / V + 1 := by
  have hVp : 0 < V := by
    have : 0 < p * (v2 + B * v1) := Nat.mul_pos hp (by have := Nat.mul_pos hB h1; omega)
    omega
  have e1 : g * (v2 + B * v1) ≤ u0 + B * top := by
    have : g * (v2 + B * v1) = g * v2 + B * (g * v1) := by grind
    rw [this, ← ht, Nat.mul_add, Nat.mul_comm B r]
    omega
  have e2 : g * V ≤ g * V0 + U := by
    rw [hV, Nat.mul_add]
    have := Nat.mul_le_mul_left p e1
    have e : p * (g * (v2 + B * v1)) = g * (p * (v2 + B * v1)) := by grind
    omega
  have e3 : g * V0 < V := by
    have h2 : g * V0 < B * p := Nat.mul_lt_mul'' hg hV0
    have h3 : B * p ≤ p * (v2 + B * v1) := by
      rw [Nat.mul_comm B p]
      refine Nat.mul_le_mul_left _ ?_
      have := Nat.mul_le_mul_left B h1
      omega
    omega
  have e4 : U < V * (U / V + 1) := Nat.lt_mul_div_succ U hVp
  have e5 : V * g < V * (U / V + 2) := by
    rw [show U / V + 2 = (U / V + 1) + 1 from rfl, Nat.mul_add V (U / V + 1), Nat.mul_one, Nat.mul_comm V g]
    omega
  have := Nat.lt_of_mul_lt_mul_left e5
  omega
theorem est_small (hp : 0 < p) (hB : 0 < B) (hU : U = U0 + p * (u0 + B * top)) (hV : V = V0 + p * (v2 + B * v1)) (hV0 : V0 < p) (hv2 : v2 < B) (ht : g * v1 + r = top) (hUV : U < B * V) (hr : B ≤ r) : g < B := by
  rcases Nat.lt_or_ge g B with h | h
  · exact h
  · exfalso
    have h1 : p * (B * top) ≤ U := by rw [hU, Nat.mul_add]; omega
    have h2 : V < p * (v2 + B * v1 + 1) := by rw [hV, Nat.mul_add p (v2 + B * v1)]; omega
    have h3 : p * (B * top) < p * (B * (v2 + B * v1 + 1)) := by
      have : B * V < B * (p * (v2 + B * v1 + 1)) := Nat.mul_lt_mul_of_pos_left h2 hB
      have e : B * (p * (v2 + B * v1 + 1)) = p * (B * (v2 + B * v1 + 1)) := by grind
      omega
    have h4 : top < v2 + B * v1 + 1 := Nat.lt_of_mul_lt_mul_left (Nat.lt_of_mul_lt_mul_left h3)
    have h5 : B * v1 ≤ g * v1 := Nat.mul_le_mul_right _ h
    omega
theorem est_break (hp : 0 < p) (hB : 0 < B) (hU : U = U0 + p * (u0 + B * top)) (hV : V = V0 + p * (v2 + B * v1)) (hV0 : V0 < p) (hv2 : v2 < B) (h1 : 0 < v1) (ht : g * v1 + r = top) (hg : g < B) (hr : B ≤ r) : g ≤ U / V := by
  have hVp : 0 < V := by
    have : 0 < p * (v2 + B * v1) := Nat.mul_pos hp (by have := Nat.mul_pos hB h1; omega)
    omega
  rw [Nat.le_div_iff_mul_le hVp]
  have e0 : g * V ≤ p * (g + g * v2 + B * (g * v1)) := by
    have h2 : g * V0 ≤ g * p := Nat.mul_le_mul_left _ (Nat.le_of_lt hV0)
    have e : p * (g + g * v2 + B * (g * v1)) = g * p + g * (p * (v2 + B * v1)) := by grind
    rw [hV, Nat.mul_add, e]; omega
  have e1 : g + g * v2 ≤ B * g := by
    have := Nat.mul_le_mul_left g (show v2 + 1 ≤ B from hv2)
    rw [Nat.mul_add, Nat.mul_one, Nat.mul_comm g B] at this
    omega
  have e2 : g + g * v2 + B * (g * v1) ≤ B * top := by
    rw [← ht, Nat.mul_add B]
    have := Nat.mul_le_mul_left B (show g ≤ r by omega)
    omega
  have e3 := Nat.mul_le_mul_left p e2
  rw [hU, Nat.mul_add]
  omega
end

theorem val_take_drop (l : List Nat) (k : Nat) (hk : k ≤ l.length) : val l = val (l.take k) + 4294967296 ^ k * val (l.drop k) := by
  conv => lhs; rw [← List.take_append_drop k l]
  rw [val_append, List.length_take, Nat.min_eq_left hk]
theorem dig_take {l : List Nat} (h : dig l) (k : Nat) : dig (l.take k) := fun x hx => h x (List.mem_of_mem_take hx)
theorem dig_drop {l : List Nat} (h : dig l) (k : Nat) : dig (l.drop k) := fun x hx => h x (List.mem_of_mem_drop hx)
theorem val_take_lt {l : List Nat} (h : dig l) (k : Nat) (hk : k ≤ l.length) : val (l.take k) < 4294967296 ^ k := by
  have := val_lt (dig_take h k)
  rwa [List.length_take, Nat.min_eq_left hk] at this
/-- the three highest words -/
theorem val_top3 {l : List Nat} {m : Nat} (h : l.length = m + 3) : val l = val (l.take m) + 4294967296 ^ m * (l.getD m 0 + 4294967296 * (l.getD (m + 1) 0 + 4294967296 * l.getD (m + 2) 0)) := by
  have e : l.take (m + 3) = l := List.take_of_length_le (by omega)
  conv => lhs; rw [← e]
  rw [val_take_succ, val_take_succ, val_take_succ, Nat.pow_succ, Nat.pow_succ]
  grind
theorem val_top2 {l : List Nat} {m : Nat} (h : l.length = m + 2) : val l = val (l.take m) + 4294967296 ^ m * (l.getD m 0 + 4294967296 * l.getD (m + 1) 0) := by
  have e : l.take (m + 2) = l := List.take_of_length_le (by omega)
  conv => lhs; rw [← e]
  rw [val_take_succ, val_take_succ, Nat.pow_succ]
  grind
/-- nothing lies above k: zeros -/
theorem val_drop_zero {l : List Nat} {k : Nat} (h : val l < 4294967296 ^ k) : val (l.drop k) = 0 := by
  rcases Nat.lt_or_ge k l.length with hk | hk
  · have := val_take_drop l k (by omega)
    rcases Nat.eq_zero_or_pos (val (l.drop k)) with h0 | h0
    · exact h0
    · have := Nat.mul_le_mul_left (4294967296 ^ k) h0
      omega
  · rw [List.drop_of_length_le hk]; rfl
theorem val_take_of_lt {l : List Nat} {k : Nat} (hk : k ≤ l.length) (h : val l < 4294967296 ^ k) : val (l.take k) = val l := by
  have := val_take_drop l k hk
  rw [val_drop_zero h] at this; omega
/-- the words of a window -/
theorem val_window {l : List Nat} {k m : Nat} (hd : dig l) (hk : k + m ≤ l.length) (h : val l < 4294967296 ^ (k + m)) : val ((l.drop k).take m) = val l / 4294967296 ^ k := by
  have e1 := val_take_drop l k (by omega)
  have e2 := val_take_lt hd k (by omega)
  have hp : 0 < 4294967296 ^ k := Nat.pow_pos (by omega)
  have e3 : val l / 4294967296 ^ k = val (l.drop k) := by
    rw [e1, Nat.add_mul_div_left _ _ hp, Nat.div_eq_of_lt e2]; omega
  rw [e3]
  refine val_take_of_lt (by simp; omega) ?_
  rw [← e3, Nat.div_lt_iff_lt_mul hp, Nat.mul_comm, ← Nat.pow_add]; exact h
theorem val_congr_hi {l r : List Nat} {k : Nat} (hlen : l.length = r.length) (hl : dig l) (h : ∀ j, k ≤ j → l.getD j 0 = r.getD j 0) (hr : val r < 4294967296 ^ k) : val l < 4294967296 ^ k := by
  rcases Nat.lt_or_ge k l.length with hk | hk
  · have e : l.drop k = r.drop k := by
      apply List.ext_getElem?
      intro i
      rw [List.getElem?_drop, List.getElem?_drop]
      rcases Nat.lt_or_ge (k + i) l.length with hi | hi
      · have := h (k + i) (by omega)
        rw [List.getD_eq_getElem?_getD, List.getD_eq_getElem?_getD, List.getElem?_eq_getElem hi, List.getElem?_eq_getElem (by omega)] at this
        rw [List.getElem?_eq_getElem hi, List.getElem?_eq_getElem (by omega)]
        exact congrArg some this
      · rw [List.getElem?_eq_none hi, List.getElem?_eq_none (by omega)]
    have := val_take_drop l k (by omega)
    rw [e, val_drop_zero hr] at this
    have := val_take_lt hl k (by omega)
    omega
  · have := val_lt hl
    have := Nat.pow_le_pow_right (show 0 < 4294967296 by omega) hk
    omega
/-- one step of the shift right -/
theorem shr_digit {l : List Nat} {s i : Nat} (hd : dig l) (hs : s ≤ 31) (hi : i + 1 < l.length) :
    (val l / 2 ^ s) % 4294967296 ^ (i + 1) = (val l / 2 ^ s) % 4294967296 ^ i + 4294967296 ^ i * (((l.getD i 0 + 4294967296 * l.getD (i + 1) 0) / 2 ^ s) % 4294967296) := by
  have hp : 0 < 4294967296 ^ i := Nat.pow_pos (by omega)
  have hps : 0 < 2 ^ s := Nat.pow_pos (by omega)
  have e0 : (val l / 2 ^ s) % 4294967296 ^ (i + 1) = (val l / 2 ^ s) % 4294967296 ^ i + 4294967296 ^ i * ((val l / 2 ^ s / 4294967296 ^ i) % 4294967296) := by
    rw [Nat.pow_succ, Nat.mod_mul]
  rw [e0]
  congr 2
  have e1 : val l / 2 ^ s / 4294967296 ^ i = val (l.drop i) / 2 ^ s := by
    rw [Nat.div_div_eq_div_mul, Nat.mul_comm, ← Nat.div_div_eq_div_mul]
    congr 1
    rw [val_take_drop l i (by omega), Nat.add_mul_div_left _ _ hp, Nat.div_eq_of_lt (val_take_lt hd i (by omega))]
    omega
  have e2 : val (l.drop i) = (l.getD i 0 + 4294967296 * l.getD (i + 1) 0) + 2 ^ s * (2 ^ (32 - s) * (4294967296 * val (l.drop (i + 2)))) := by
    rw [List.drop_eq_getElem_cons (show i < l.length by omega), List.drop_eq_getElem_cons (show i + 1 < l.length by omega), val, val]
    have h1 : l[i] = l.getD i 0 := by rw [List.getD_eq_getElem?_getD, List.getElem?_eq_getElem (by omega)]; rfl
    have h2 : l[i + 1] = l.getD (i + 1) 0 := by rw [List.getD_eq_getElem?_getD, List.getElem?_eq_getElem (by omega)]; rfl
    rw [h1, h2, ← Nat.mul_assoc (2 ^ s), ← Nat.pow_add, show s + (32 - s) = 32 by omega]
    show _ = _ + 4294967296 * _
    rw [Nat.mul_add, show i + 1 + 1 = i + 2 from rfl]
    omega
  rw [e1, e2, Nat.add_mul_div_left _ _ hps, show 2 ^ (32 - s) * (4294967296 * val (l.drop (i + 2))) = 4294967296 * (2 ^ (32 - s) * val (l.drop (i + 2))) by grind, Nat.add_mul_mod_self_left]
theorem top_fits {b : List Nat} {m s : Nat} (hdb : dig b) (hlb : b.length = m + 2) (hs : s ≤ 31) (htops : b.getD (m + 1) 0 * 2 ^ s < 4294967296) : val b * 2 ^ s < 4294967296 ^ (m + 2) := by
  have hps : 0 < 2 ^ s := Nat.pow_pos (by omega)
  have e : b.take (m + 2) = b := List.take_of_length_le (by omega)
  have e7 : 4294967296 ^ (m + 2) = 4294967296 ^ (m + 1) * 4294967296 := Nat.pow_succ _ _
  rw [← e, val_take_succ, e7]
  have h1 := val_take_lt hdb (m + 1) (by omega)
  have h2 : (val (b.take (m + 1)) + 4294967296 ^ (m + 1) * b.getD (m + 1) 0) * 2 ^ s < 4294967296 ^ (m + 1) * ((b.getD (m + 1) 0 + 1) * 2 ^ s) := by
    rw [← Nat.mul_assoc]
    refine Nat.mul_lt_mul_of_pos_right ?_ hps
    rw [Nat.mul_add]; omega
  have h3 : (b.getD (m + 1) 0 + 1) * 2 ^ s ≤ 4294967296 := by
    have h4 : 2 ^ s * 2 ^ (32 - s) = 4294967296 := by rw [← Nat.pow_add, show s + (32 - s) = 32 by omega]
    have h5 : b.getD (m + 1) 0 < 2 ^ (32 - s) := by
      rw [← h4, Nat.mul_comm] at htops
      exact Nat.lt_of_mul_lt_mul_left htops
    rw [← h4, Nat.mul_comm]
    exact Nat.mul_le_mul_left _ h5
  have h6 := Nat.mul_le_mul_left (4294967296 ^ (m + 1)) h3
  exact Nat.lt_of_lt_of_le h2 h6
theorem top_pos {l : List Nat} {m : Nat} (hd : dig l) (hl : l.length = m + 2) (h : 4294967296 ^ (m + 1) ≤ val l) : 0 < l.getD (m + 1) 0 := by
  have e : l.take (m + 2) = l := List.take_of_length_le (by omega)
  rw [← e, val_take_succ] at h
  have h1 := val_take_lt hd (m + 1) (by omega)
  rcases Nat.eq_zero_or_pos (l.getD (m + 1) 0) with h0 | h0
  · rw [h0] at h; omega
  · exact h0
theorem top_ge {b : List Nat} {m : Nat} (hlb : b.length = m + 2) (htop : 0 < b.getD (m + 1) 0) : 4294967296 ^ (m + 1) ≤ val b := by
  have e : b.take (m + 2) = b := List.take_of_length_le (by omega)
  rw [← e, val_take_succ]
  have := Nat.mul_le_mul_left (4294967296 ^ (m + 1)) htop
  omega
/-- a sum of words into a window, step by step -/
theorem add_step {P x y c z q V V' T T' : Nat} (h1 : V' + P * x = V + P * z) (hdm : 4294967296 * q + z = x + y + c) (hv : V + P * c = T) (hT : T' = T + P * y) : V' + P * 4294967296 * q = T' := by
  have := congrArg (P * ·) hdm
  simp only [Nat.mul_add] at this
  rw [Nat.mul_assoc]
  omega
/-- the end of the long division -/
theorem div_end {A b s U q : Nat} (hb : 0 < b) (h : U + b * 2 ^ s * q = A * 2 ^ s) (hlt : U < b * 2 ^ s) : A / b = q ∧ A % b = U / 2 ^ s := by
  have hps : 0 < 2 ^ s := Nat.pow_pos (by omega)
  have e : A * 2 ^ s = 2 ^ s * A := Nat.mul_comm _ _
  have e2 : b * 2 ^ s * q = 2 ^ s * (b * q) := by grind
  rw [e, e2] at h
  have hle : b * q ≤ A := Nat.le_of_mul_le_mul_left (by omega : 2 ^ s * (b * q) ≤ 2 ^ s * A) hps
  obtain ⟨R, hR⟩ : ∃ R, A = b * q + R := ⟨A - b * q, by omega⟩
  subst hR
  rw [Nat.mul_add] at h
  have hU : U = 2 ^ s * R := by omega
  subst hU
  have hRb : R < b := by
    rw [Nat.mul_comm b] at hlt
    exact Nat.lt_of_mul_lt_mul_left hlt
  refine ⟨?_, ?_⟩
  · rw [Nat.mul_add_div hb, Nat.div_eq_of_lt hRb]; omega
  · rw [Nat.mul_add_mod, Nat.mod_eq_of_lt hRb, Nat.mul_div_cancel_left _ hps]
end Go.Kx

namespace Go.Kx
open Go
theorem wrap_toInt (b : BitVec 64) : IntKind.i64.wrap (b.toNat : Int) = b.toInt := by
  rw [IntKind.wrap_i64, BitVec.toInt_eq_toNat_cond]
  have := b.isLt
  split <;> omega
theorem ofInt_wrap (b : BitVec 64) : BitVec.ofInt 64 (IntKind.i64.wrap (b.toNat : Int)) = b := by
  rw [wrap_toInt, BitVec.ofInt_toInt]
theorem msb_ofInt {x : Int} (h1 : -9223372036854775808 ≤ x) (h2 : x ≤ 9223372036854775807) : (BitVec.ofInt 64 x).msb = decide (x < 0) := by
  rw [BitVec.msb_eq_decide, BitVec.toNat_ofInt]
  simp only [decide_eq_decide]
  omega
theorem toInt_nonneg {b : BitVec 64} : 0 ≤ b.toInt ↔ b.msb = false := by
  rw [BitVec.toInt_eq_msb_cond]
  have := b.isLt
  cases b.msb <;> simp <;> omega
theorem add_ok {x y : Int} (hx1 : -9223372036854775808 ≤ x) (hx2 : x ≤ 9223372036854775807) (hy1 : -9223372036854775808 ≤ y) (hy2 : y ≤ 9223372036854775807)
   (h : 0 ≤ IntKind.i64.wrap (BitVec.ofInt IntKind.i64.bits (IntKind.i64.wrap (BitVec.ofInt IntKind.i64.bits x ^^^ BitVec.ofInt IntKind.i64.bits (IntKind.i64.wrap (x + y))).toNat) &&& BitVec.ofInt IntKind.i64.bits (IntKind.i64.wrap (BitVec.ofInt IntKind.i64.bits y ^^^ BitVec.ofInt IntKind.i64.bits (IntKind.i64.wrap (x + y))).toNat)).toNat) :
   IntKind.i64.wrap (x + y) = x + y := by
  change 0 ≤ IntKind.i64.wrap (BitVec.ofInt 64 (IntKind.i64.wrap (BitVec.ofInt 64 x ^^^ BitVec.ofInt 64 (IntKind.i64.wrap (x + y))).toNat) &&& BitVec.ofInt 64 (IntKind.i64.wrap (BitVec.ofInt 64 y ^^^ BitVec.ofInt 64 (IntKind.i64.wrap (x + y))).toNat)).toNat at h
  rw [ofInt_wrap, ofInt_wrap, wrap_toInt, toInt_nonneg, BitVec.msb_and, BitVec.msb_xor, BitVec.msb_xor] at h
  have hr : -9223372036854775808 ≤ IntKind.i64.wrap (x + y) ∧ IntKind.i64.wrap (x + y) ≤ 9223372036854775807 := by rw [IntKind.wrap_i64]; omega
  rw [msb_ofInt hx1 hx2, msb_ofInt hy1 hy2, msb_ofInt hr.1 hr.2] at h
  rw [IntKind.wrap_i64] at h ⊢
  simp only [Bool.and_eq_false_iff, bne_eq_false_iff_eq, decide_eq_decide] at h
  omega
theorem sub_ok {x y : Int} (hx1 : -9223372036854775808 ≤ x) (hx2 : x ≤ 9223372036854775807) (hy1 : -9223372036854775808 ≤ y) (hy2 : y ≤ 9223372036854775807)
   (h : 0 ≤ IntKind.i64.wrap (BitVec.ofInt IntKind.i64.bits (IntKind.i64.wrap (BitVec.ofInt IntKind.i64.bits x ^^^ BitVec.ofInt IntKind.i64.bits y).toNat) &&& BitVec.ofInt IntKind.i64.bits (IntKind.i64.wrap (BitVec.ofInt IntKind.i64.bits x ^^^ BitVec.ofInt IntKind.i64.bits (IntKind.i64.wrap (x - y))).toNat)).toNat) :
   IntKind.i64.wrap (x - y) = x - y := by
  change 0 ≤ IntKind.i64.wrap (BitVec.ofInt 64 (IntKind.i64.wrap (BitVec.ofInt 64 x ^^^ BitVec.ofInt 64 y).toNat) &&& BitVec.ofInt 64 (IntKind.i64.wrap (BitVec.ofInt 64 x ^^^ BitVec.ofInt 64 (IntKind.i64.wrap (x - y))).toNat)).toNat at h
  rw [ofInt_wrap, ofInt_wrap, wrap_toInt, toInt_nonneg, BitVec.msb_and, BitVec.msb_xor, BitVec.msb_xor] at h
  have hr : -9223372036854775808 ≤ IntKind.i64.wrap (x - y) ∧ IntKind.i64.wrap (x - y) ≤ 9223372036854775807 := by rw [IntKind.wrap_i64]; omega
  rw [msb_ofInt hx1 hx2, msb_ofInt hy1 hy2, msb_ofInt hr.1 hr.2] at h
  rw [IntKind.wrap_i64] at h ⊢
  simp only [Bool.and_eq_false_iff, bne_eq_false_iff_eq, decide_eq_decide] at h
  omega
end Go.Kx

namespace Go.Kx

/-- the numerator over the positive denominator -/
def pn (q : QV) : Int := if zval q.den < 0 then -zval q.num else zval q.num
def pd (q : QV) : Int := if zval q.den = 0 then 1 else if zval q.den < 0 then -zval q.den else zval q.den
theorem pd_pos (q : QV) : 0 < pd q := by unfold pd; split <;> (try split) <;> omega
def qval (q : QV) : Rat := Rat.divInt (pn q) (pd q)
def qc (r : Rat) : QV := ⟨zc r.num, if r.den = 1 then ⟨false, []⟩ else zc r.den⟩
def q0 : QV := ⟨⟨false, []⟩, ⟨false, []⟩⟩

theorem zval_nil : zval ⟨false, []⟩ = 0 := by simp [zval, sg, val]
theorem zc_zero : zc 0 = ⟨false, []⟩ := by simp [zc, wds_zero]
theorem pn_qc (r : Rat) : pn (qc r) = r.num := by
  have hd := r.den_pos
  unfold pn qc
  by_cases h : r.den = 1
  · simp [h, zval_nil, zval_zc]
  · have : ¬ ((r.den : Int) < 0) := by omega
    simp [h, zval_zc, this]
theorem pd_qc (r : Rat) : pd (qc r) = r.den := by
  have hd := r.den_pos
  unfold pd qc
  by_cases h : r.den = 1
  · simp [h, zval_nil]
  · have h1 : ¬ ((r.den : Int) < 0) := by omega
    have h2 : ¬ ((r.den : Int) = 0) := by omega
    simp only [h, if_false, zval_zc, h1, h2]
theorem qval_qc (r : Rat) : qval (qc r) = r := by
  unfold qval; rw [pn_qc, pd_qc, Rat.num_divInt_den]
theorem qval_q0 : qval q0 = 0 := by
  unfold qval pn pd q0
  simp [zval_nil]
theorem qc_zero : qc 0 = q0 := by
  unfold qc q0
  simp [zc_zero]
theorem qc_int (n : Int) : qc (n : Rat) = ⟨zc n, ⟨false, []⟩⟩ := by
  unfold qc
  simp

/-- sizes -/
def qok (L : Nat) (q : QV) : Prop := q.num.w.length ≤ L ∧ q.den.w.length ≤ L
def Rsz (r : Rat) (L : Nat) : Prop := r.num.natAbs < 4294967296 ^ L ∧ r.den < 4294967296 ^ L
theorem Rsz.mono {r : Rat} {L M : Nat} (h : Rsz r L) (hl : L ≤ M) : Rsz r M := by
  have := Nat.pow_le_pow_right (show 0 < 4294967296 by omega) hl
  exact ⟨Nat.lt_of_lt_of_le h.1 this, Nat.lt_of_lt_of_le h.2 this⟩
theorem qok.mono {q : QV} {L M : Nat} (h : qok L q) (hl : L ≤ M) : qok M q := ⟨Nat.le_trans h.1 hl, Nat.le_trans h.2 hl⟩
theorem zc_len {n : Int} {L : Nat} (h : n.natAbs < 4294967296 ^ L) : (zc n).w.length ≤ L := wds_length h
theorem Rsz.toOk {r : Rat} {L : Nat} (h : Rsz r L) : qok L (qc r) := by
  refine ⟨zc_len h.1, ?_⟩
  unfold qc
  by_cases h1 : r.den = 1
  · simp [h1]
  · simp only [h1, if_false]
    exact zc_len (by simpa using h.2)
theorem zval_natAbs (z : ZV) : (zval z).natAbs = val z.w := by unfold zval sg; split <;> omega
theorem zval_lt {z : ZV} {L : Nat} (hd : dig z.w) (h : z.w.length ≤ L) : (zval z).natAbs < 4294967296 ^ L := by
  rw [zval_natAbs]
  exact Nat.lt_of_lt_of_le (val_lt hd) (Nat.pow_le_pow_right (by omega) h)
theorem pn_lt {q : QV} {L : Nat} (hn : dig q.num.w) (h : qok L q) : (pn q).natAbs < 4294967296 ^ L := by
  have := zval_lt hn h.1
  unfold pn; split <;> omega
theorem pd_lt {q : QV} {L : Nat} (hn : dig q.den.w) (h : qok L q) (hL : 1 ≤ L) : (pd q).natAbs < 4294967296 ^ L := by
  have := zval_lt hn h.2
  have h1 : 4294967296 ^ 1 ≤ 4294967296 ^ L := Nat.pow_le_pow_right (by omega) hL
  unfold pd; split <;> (try split) <;> omega
theorem num_divInt_le (a b : Int) : (Rat.divInt a b).num.natAbs ≤ a.natAbs := by
  rw [Rat.num_divInt]
  have h1 : (b.sign * a / ((b.gcd a : Nat) : Int)).natAbs ≤ (b.sign * a).natAbs := by
    rw [Int.natAbs_ediv_of_dvd (Int.dvd_trans (Int.gcd_dvd_right ..) (Int.dvd_mul_left ..))]
    exact Nat.div_le_self _ _
  refine Nat.le_trans h1 ?_
  rw [Int.natAbs_mul]
  rcases Int.lt_trichotomy b 0 with h | h | h
  · rw [Int.sign_eq_neg_one_of_neg h]; simp
  · rw [h]; simp
  · rw [Int.sign_eq_one_of_pos h]; simp
theorem den_divInt_le (a b : Int) (hb : b ≠ 0) : (Rat.divInt a b).den ≤ b.natAbs := by
  rw [Rat.den_divInt, if_neg hb]
  exact Nat.div_le_self _ _
theorem rsz_qval {q : QV} {L : Nat} (hn : dig q.num.w) (hd : dig q.den.w) (h : qok L q) (hL : 1 ≤ L) : Rsz (qval q) L :=
  ⟨Nat.lt_of_le_of_lt (num_divInt_le _ _) (pn_lt hn h), Nat.lt_of_le_of_lt (den_divInt_le _ _ (by have := pd_pos q; omega)) (pd_lt hd h hL)⟩
theorem Rsz.add {a b : Rat} {L M : Nat} (ha : Rsz a L) (hb : Rsz b M) : Rsz (a + b) (L + M + 1) := by
  have e : a + b = Rat.divInt (a.num * b.den + b.num * a.den) (a.den * b.den) := by
    rw [Rat.add_def', ← Rat.divInt_ofNat]; simp
  have hda := a.den_pos
  have hdb := b.den_pos
  have hne : ((a.den : Int) * (b.den : Int)) ≠ 0 := by
    have := Int.mul_pos (show (0 : Int) < a.den by omega) (show (0 : Int) < b.den by omega)
    omega
  have h1 : a.num.natAbs * b.den < 4294967296 ^ (L + M) := by rw [Nat.pow_add]; exact Nat.mul_lt_mul'' ha.1 hb.2
  have h2 : b.num.natAbs * a.den < 4294967296 ^ (L + M) := by rw [Nat.add_comm, Nat.pow_add]; exact Nat.mul_lt_mul'' hb.1 ha.2
  have h3 : a.den * b.den < 4294967296 ^ (L + M) := by rw [Nat.pow_add]; exact Nat.mul_lt_mul'' ha.2 hb.2
  rw [e]
  refine ⟨Nat.lt_of_le_of_lt (num_divInt_le _ _) ?_, Nat.lt_of_le_of_lt (den_divInt_le _ _ hne) ?_⟩
  · have := Int.natAbs_add_le (a.num * b.den) (b.num * a.den)
    rw [Int.natAbs_mul, Int.natAbs_mul] at this
    simp only [Int.natAbs_natCast] at this
    rw [Nat.pow_succ]; omega
  · rw [Int.natAbs_mul]
    simp only [Int.natAbs_natCast]
    rw [Nat.pow_succ]; omega
theorem Rsz.mul {a b : Rat} {L M : Nat} (ha : Rsz a L) (hb : Rsz b M) : Rsz (a * b) (L + M) := by
  have e : a * b = Rat.divInt (a.num * b.num) (a.den * b.den) := by
    rw [Rat.mul_def', ← Rat.divInt_ofNat]; simp
  have hda := a.den_pos
  have hdb := b.den_pos
  have hne : ((a.den : Int) * (b.den : Int)) ≠ 0 := by
    have := Int.mul_pos (show (0 : Int) < a.den by omega) (show (0 : Int) < b.den by omega)
    omega
  rw [e]
  refine ⟨Nat.lt_of_le_of_lt (num_divInt_le _ _) ?_, Nat.lt_of_le_of_lt (den_divInt_le _ _ hne) ?_⟩
  · rw [Int.natAbs_mul, Nat.pow_add]; exact Nat.mul_lt_mul'' ha.1 hb.1
  · rw [Int.natAbs_mul, Nat.pow_add]; exact Nat.mul_lt_mul'' ha.2 hb.2
theorem Rsz.neg {a : Rat} {L : Nat} (ha : Rsz a L) : Rsz (-a) L := by
  refine ⟨?_, ha.2⟩
  rw [Rat.neg_num, Int.natAbs_neg]; exact ha.1
theorem Rsz.int (n : Int) {L : Nat} (h : n.natAbs < 4294967296 ^ L) (hL : 1 ≤ L) : Rsz (n : Rat) L := by
  refine ⟨by simpa using h, ?_⟩
  have h1 : 4294967296 ^ 1 ≤ 4294967296 ^ L := Nat.pow_le_pow_right (by omega) hL
  simp; omega
theorem Rsz.zero {L : Nat} (hL : 1 ≤ L) : Rsz 0 L := by
  have := Rsz.int 0 (L := L) (Nat.pow_pos (by omega)) hL
  simpa using this
/-- the canonical form by the greatest common divisor -/
theorem qc_divInt {n d : Int} (hd : 0 < d) : qc (Rat.divInt n d) = ⟨zc (n / (Nat.gcd n.natAbs d.natAbs : Nat)), if d / (Nat.gcd n.natAbs d.natAbs : Nat) = 1 then ⟨false, []⟩ else zc (d / (Nat.gcd n.natAbs d.natAbs : Nat))⟩ := by
  have hg : d.gcd n = Nat.gcd n.natAbs d.natAbs := by rw [Int.gcd, Nat.gcd_comm]
  have h1 : (Rat.divInt n d).num = n / (Nat.gcd n.natAbs d.natAbs : Nat) := by
    rw [Rat.num_divInt, Int.sign_eq_one_of_pos hd, Int.one_mul, hg]
  have h2 : ((Rat.divInt n d).den : Int) = d / (Nat.gcd n.natAbs d.natAbs : Nat) := by
    rw [Rat.den_divInt, if_neg (by omega), hg, Int.natCast_ediv, Int.natAbs_of_nonneg (by omega)]
  unfold qc
  rw [h1, ← h2]
  congr 1
  by_cases h : (Rat.divInt n d).den = 1
  · rw [if_pos h, if_pos (by rw [h]; rfl)]
  · rw [if_neg h, if_neg (by omega)]
end Go.Kx

namespace Go.Kx

def cmpR (x y : Rat) : Int := if x < y then -1 else if y < x then 1 else 0
theorem divInt_lt {a b c d : Int} (hb : 0 < b) (hd : 0 < d) : Rat.divInt a b < Rat.divInt c d ↔ a * d < c * b := by
  have hb' : (0 : Rat) < (b : Rat) := Rat.intCast_pos.2 hb
  have hd' : (0 : Rat) < (d : Rat) := Rat.intCast_pos.2 hd
  rw [Rat.divInt_eq_div, Rat.divInt_eq_div, Rat.div_lt_iff hb']
  have e : (c : Rat) / (d : Rat) * (b : Rat) = ((c * b : Int) : Rat) / (d : Rat) := by
    rw [Rat.div_def, Rat.div_def, Rat.intCast_mul]
    grind
  rw [e, Rat.lt_div_iff hd', ← Rat.intCast_mul, Rat.intCast_lt_intCast]
theorem cmpR_divInt {a b c d : Int} (hb : 0 < b) (hd : 0 < d) : cmpR (Rat.divInt a b) (Rat.divInt c d) = cmpI (a * d) (c * b) := by
  unfold cmpR cmpI
  simp only [divInt_lt hb hd, divInt_lt hd hb]
theorem cmpR_qval (a b : QV) : cmpR (qval a) (qval b) = cmpI (pn a * pd b) (pn b * pd a) := cmpR_divInt (pd_pos a) (pd_pos b)
theorem cmpR_eq_zero {x y : Rat} : cmpR x y = 0 ↔ x = y := by
  unfold cmpR
  constructor
  · intro h
    split at h
    · omega
    · split at h
      · omega
      · rename_i h1 h2
        exact Rat.le_antisymm (Rat.not_lt.1 h2) (Rat.not_lt.1 h1)
  · rintro rfl
    simp
theorem sign_mul_pos {a b : Int} (hb : 0 < b) : (a * b).sign = a.sign := by rw [Int.sign_mul, Int.sign_eq_one_of_pos hb, Int.mul_one]
theorem cmpI_of_signs {m n : Int} (h : m.sign ≠ n.sign ∨ m.sign = 0) : cmpI m n = (m.sign - n.sign).sign := by
  unfold cmpI
  rcases Int.lt_trichotomy m 0 with h1 | h1 | h1 <;> rcases Int.lt_trichotomy n 0 with h2 | h2 | h2 <;>
    simp_all [Int.sign_eq_neg_one_of_neg, Int.sign_eq_one_of_pos] <;> first | omega | (split <;> first | omega | rfl | (split <;> first | omega | rfl))
/-- the sign of a rational -/
def sgnR (r : Rat) : Int := r.num.sign
theorem sgnR_qval (q : QV) : sgnR (qval q) = (pn q).sign := by
  unfold sgnR qval
  have hp := pd_pos q
  generalize pn q = n at *
  generalize pd q = d at *
  rw [Rat.num_divInt, Int.sign_eq_one_of_pos hp, Int.one_mul]
  have hg : (0 : Int) < ((d.gcd n : Nat) : Int) := by
    have : 0 < d.gcd n := by rw [Int.gcd]; exact Nat.gcd_pos_of_pos_left _ (by omega)
    omega
  have hd : ((d.gcd n : Nat) : Int) ∣ n := Int.gcd_dvd_right ..
  obtain ⟨k, hk⟩ := hd
  generalize hgg : ((d.gcd n : Nat) : Int) = g at *
  rw [hk, Int.mul_ediv_cancel_left _ (by omega), Int.sign_mul, Int.sign_eq_one_of_pos hg, Int.one_mul]
theorem sgnR_zero {r : Rat} : sgnR r = 0 ↔ r = 0 := by
  unfold sgnR
  rw [Int.sign_eq_zero_iff_zero, Rat.num_eq_zero]
end Go.Kx

namespace Go.Kx
open Go Go.RowKit

section
variable {P : Program} {σ : Env} {w : World} {d : Option Tmp} {ty : TypeId} {pos : String} {af : Array Edge} {g : Option (Nat × Bool)}
def MapAt (w : World) (r : Nat) (es : Array MapEntry) (c : Nat) : Prop := w.heap[r]? = some (.map es c)
theorem MapAt.ext {w w' : World} {r : Nat} {es : Array MapEntry} {c : Nat} (h : MapAt w r es c) (e : Ext w w') : MapAt w' r es c := (e.block r (Array.getElem?_eq_some_iff.1 h).1).trans h
theorem g_mkmap {t : TypeId} : Gv P ⟨d, .makeMap t none, ty, pos, af, g⟩ σ w fun v' w' => v' = .map (some w.heap.size) ∧ Ext w w' ∧ MapAt w' w.heap.size #[] 0 := by
  refine ⟨(by intro _ h; cases h), fun ρ hρ => .inl ⟨_, _, ?_, rfl, alloc_ext w (.map #[] 0), World.alloc_heap_new w _⟩⟩
  simp [execOp, Instr.makeMap]
theorem g_ins {t kt et : TypeId} {m k x : Operand} {r : Nat} {es : Array MapEntry} {c : Nat} {kk : IntKind} {n : Int} {v : Value} (ht : P.underlying t = some (.map kt et)) (hk : P.underlying kt = some (.int kk)) (hm : ev σ m = some (.map (some r))) (hn : ev σ k = some (.int kk n)) (hx : ev σ x = some v)
    (hr : MapAt w r es c) (hf : Instr.findNow (.int kk) (.int kk n) es.toList 0 = some none) :
    Gv P ⟨d, .insert t m k x, ty, pos, af, g⟩ σ w fun _ w' => w' = w.putObj r (.map (es.push { key := .int kk n, val := v, born := c }) (c + 1)) := by
  refine ⟨(by intro _ h; cases h), fun ρ hρ => .inr (.inl ⟨_, ?_, rfl⟩)⟩
  have e1 := hρ m _ (by simp [Op.operands]) hm
  have e2 := hρ k _ (by simp [Op.operands]) hn
  have e3 := hρ x _ (by simp [Op.operands]) hx
  have hr' : w.heap[r]? = some (.map es c) := hr
  have hck : (Instr.checkKey false 10000 kt (.int kk n)).run P w = .ok () w := by
    unfold Instr.checkKey
    simp [run_underlying hk]
  have hfk : (Instr.findKey kt (.int kk n) es.toList).run P w = .ok none w := by
    unfold Instr.findKey
    simp [run_underlying hk, hf]
  have hget : (getObj r).run P w = .ok (.map es c) w := by simp [getObj, Sem.run, hr']
  have hset : ∀ o, (setObj r o).run P w = .ok () (w.putObj r o) := fun o => by simp [setObj, Sem.run, hr', World.putObj]
  simp [execOp, e1, e2, e3, Instr.mapUpdate, run_underlying ht, hget, hck, hfk, hset]
theorem MapAt.put {r : Nat} {es es' : Array MapEntry} {c c' : Nat} (h : MapAt w r es c) : MapAt (w.putObj r (.map es' c')) r es' c' := World.putObj_heap_same (Array.getElem?_eq_some_iff.1 h).1
theorem put_below {B r : Nat} {w0 : World} {o : Obj} (h : Below B w0 w) (hr : B ≤ r) : Below B w0 (w.putObj r o) := below_put h hr
/-- the entry is there -/
theorem v_lkp {t kt et : TypeId} {m k : Operand} {r : Nat} {es : Array MapEntry} {c : Nat} {kk : IntKind} {n : Int} {i : Nat} {v : Value} (ht : P.underlying t = some (.map kt et)) (hk : P.underlying kt = some (.int kk)) (hm : ev σ m = some (.map (some r))) (hn : ev σ k = some (.int kk n))
    (hr : MapAt w r es c) (hf : Instr.findNow (.int kk) (.int kk n) es.toList 0 = some (some (i, v))) : Vl P ⟨d, .lookup t m k false, ty, pos, af, g⟩ σ w v := by
  refine ⟨(by intro _ h; cases h), fun ρ hρ => ?_⟩
  have e1 := hρ m _ (by simp [Op.operands]) hm
  have e2 := hρ k _ (by simp [Op.operands]) hn
  have hr' : w.heap[r]? = some (.map es c) := hr
  have hck : ∀ b, (Instr.checkKey b 10000 kt (.int kk n)).run P w = .ok () w := by
    intro b
    unfold Instr.checkKey
    simp [run_underlying hk]
  have hfk : (Instr.findKey kt (.int kk n) es.toList).run P w = .ok (some (i, v)) w := by
    unfold Instr.findKey
    simp [run_underlying hk, hf]
  have hget : (getObj r).run P w = .ok (.map es c) w := by simp [getObj, Sem.run, hr']
  simp [execOp, e1, e2, Instr.lookup, run_underlying ht, hget, hck, hfk]
end

/-- an integer of a value -/
@[reducible] def Zv (S : Nat → Prop) (n : Int) (L : Nat) : Value → World → Prop := fun v w => ∃ z, eZ.R S w v z ∧ zval z = n ∧ z.w.length ≤ L
theorem st_zv (S : Nat → Prop) (n : Int) (L : Nat) : St (Zv S n L) := fun _ _ _ e ⟨z, h1, h2⟩ => ⟨z, h1.ext e, h2⟩
theorem Zv.of {S : Nat → Prop} {n : Int} {L : Nat} {v : Value} {w : World} (h : eZ.R S w v (zc n)) (hl : n.natAbs < 4294967296 ^ L) : Zv S n L v w := ⟨_, h, zval_zc n, zc_len hl⟩
theorem Zv.lt {S : Nat → Prop} {n : Int} {L : Nat} {v : Value} {w : World} (h : Zv S n L v w) : n.natAbs < 4294967296 ^ L := by
  obtain ⟨z, ⟨s, _, hs⟩, rfl, hl⟩ := h
  exact zval_lt (eW_lt hs) hl
theorem Zv.out {S : Nat → Prop} {B C : Nat} {n : Int} {L : Nat} {v : Value} {w : World} (h : Zv (Sx S B C) n L v w) : Zv S n L v w := by
  obtain ⟨z, h1, h2⟩ := h
  exact ⟨z, h1.out, h2⟩
theorem Zv.mono {S : Nat → Prop} {n : Int} {L M : Nat} {v : Value} {w : World} (h : Zv S n L v w) (hl : L ≤ M) : Zv S n M v w := by
  obtain ⟨z, h1, h2, h3⟩ := h
  exact ⟨z, h1, h2, Nat.le_trans h3 hl⟩
theorem Zv.ext {S : Nat → Prop} {n : Int} {L : Nat} {v : Value} {w w' : World} (h : Zv S n L v w) (e : Ext w w') : Zv S n L v w' := st_zv S n L _ _ _ e h
theorem Zv.agg {S : Nat → Prop} {n : Int} {L : Nat} {v : Value} {w : World} (h : Zv S n L v w) : ∃ b s, v = .agg #[.bool b, s] := by
  obtain ⟨z, ⟨s, rfl, _⟩, _⟩ := h
  exact ⟨_, _, rfl⟩
/-- integers by their number alone -/
def eZn (L : Nat) : ER Int where
  sz := 2
  isA := true
  R := fun S w v n => Zv S n L v w
  csz := by rintro S w e x ⟨z, h, _⟩; exact eZ.csz h
  one := by rintro S w e x ⟨z, h, _⟩; exact eZ.one h
  shp := by rintro S w e x ⟨z, h, _⟩; exact eZ.shp h
  keep := fun hk ⟨z, h1, h2⟩ => ⟨z, eZ.keep hk h1, h2⟩
  mono := fun hk ⟨z, h1, h2⟩ => ⟨z, eZ.mono hk h1, h2⟩
end Go.Kx

namespace Go.Kx
open Go Go.RowKit

/-- where an append leaves its row -/
theorem append_where {P : Program} (w : World) (base : Nat) (t ty e : TypeId) (i : TypeInfo) (z : Value) (ht : P.underlying t = some (.slice e)) (hi : P.info? e = some i) (hz : i.zero = some z)
    (hzs : z.cells.size = i.size) (hsz : 0 < i.size) (v : Value) (n : Nat) (xs : List Value) (hown : w.ownsRow base e i.size v n xs)
    (a : Addr) (m c : Nat) (news : List Value) (hl : news.length = m * i.size) (hnews : ∀ j u, news[j]? = some u → w.cell? (a.add j) = some u) (h1 : ∀ u ∈ news, u.oneCell' = true)
    (h63 : n + m ≤ maxLen) (hbytes : (n + m) * i.bytes ≤ 140737488355328) (hm : m ≠ 0) (v' : Value) (w' : World) (hr' : (Builtin.append_ #[t, t] ty #[v, .slice (some a) m c]).run P w = .ok v' w') :
    v'.ownBlock = v.ownBlock ∨ v'.ownBlock = some w.heap.size := by
  have hsmall : n + m ≤ 9223372036854775807 := by simp only [maxLen] at h63; omega
  rcases hown.2 with ⟨rfl, rfl⟩ | ⟨g, cap, cur, rfl, hbg, hg, hnc, hcm, hcs, htake⟩
  · have hr := run_append_nil (P := P) w t ty e i z ht hi hz a m c news hl hnews (by omega) (by omega) (by have hb := hbytes; simp only [Nat.zero_add] at hb; omega)
    rw [hr] at hr'
    cases hr'
    exact .inr (by simp [Value.ownBlock])
  · by_cases hroom : n + m ≤ cap
    · have hfit : n * i.size + news.length ≤ cur.size := by rw [hl, hcs, ← Nat.add_mul]; exact Nat.mul_le_mul_right _ hroom
      have hr := run_append_room (P := P) w t ty e i ht hi g n cap cur hg a m c news hl hnews h1 hroom hfit
      rw [hr] at hr'
      cases hr'
      exact .inl (by simp [Value.ownBlock])
    · have holds : ∀ j u, xs[j]? = some u → w.cell? ((⟨g, 0, none⟩ : Addr).add j) = some u := hown.cells (g := g) rfl
      have hr := run_append_grow (P := P) w t ty e i z ht hi hz ⟨g, 0, none⟩ n cap xs hown.1 holds a m c news hl hnews (by omega) (by omega) (growslice_fits (by omega) hbytes)
      rw [hr] at hr'
      cases hr'
      exact .inr (by simp [Value.ownBlock])

/-- the elements l lie in a row of the call's own; their own memory is X's, and not the row -/
def OwnL {α : Type} (E : ER α) (t : TypeId) (base : Nat) (X : Nat → Prop) (w : World) (v : Value) (l : List α) : Prop :=
  ∃ es, w.ownsRow base t E.sz v l.length (cellsOf es) ∧ Els E (fun k => X k ∧ v.ownBlock ≠ some k) w es l

section
variable {α : Type} {E : ER α} {t : TypeId} {base : Nat} {X : Nat → Prop} {w w' : World} {v : Value} {l : List α}
theorem own_keep {n : Nat} {xs : List Value} {sz : Nat} (h : w.ownsRow base t sz v n xs) (hk : ∀ k cs, base ≤ k → Blk w k t cs → Blk w' k t cs) : w'.ownsRow base t sz v n xs := by
  refine ⟨h.1, ?_⟩
  rcases h.2 with hn | ⟨g, cap, cur, hv, hb, hg, rest⟩
  · exact .inl hn
  · exact .inr ⟨g, cap, cur, hv, hb, hk g cur hb hg, rest⟩
theorem OwnL.kp (h : OwnL E t base X w v l) (hk : Kp (fun _ => True) w w') : OwnL E t base X w' v l := by
  obtain ⟨es, h1, h2⟩ := h
  exact ⟨es, own_keep h1 fun k cs _ hb => hk.blk trivial hb, h2.keep fun k c t f _ hc => hk k c t f trivial hc⟩
theorem OwnL.ext (h : OwnL E t base X w v l) (e : Ext w w') : OwnL E t base X w' v l := h.kp (Kp.ext e)
theorem OwnL.upd {t' : TypeId} {b : Nat} {cs : Array Value} (h : OwnL E t base X w v l) (hu : Upd w w' b) (hb : Blk w b t' cs) (ht : t ≠ t') (hX : ¬ X b) : OwnL E t base X w' v l := by
  obtain ⟨es, h1, h2⟩ := h
  refine ⟨es, own_keep h1 fun k c _ hk => hk.upd hu fun e => ?_, h2.keep (Kp.upd hu fun h => hX h.1)⟩
  subst e
  have e1 : w.heap[k]? = some (.cells c t (0, 0)) := hk
  have e2 : w.heap[k]? = some (.cells cs t' (0, 0)) := hb
  rw [e1] at e2; cases e2; exact ht rfl
theorem own_gblk {n sz : Nat} {xs : List Value} {t' : TypeId} {b : Nat} {cs : Array Value} (h : w.ownsRow base t sz v n xs) (hg : w.grownBy w' v.ownBlock) (hb : Blk w b t' cs) (ht : t ≠ t') : Blk w' b t' cs := by
  refine (hg.block b hb.lt fun e => ?_).trans hb
  rcases h.2 with ⟨rfl, _⟩ | ⟨g, cap, cur, rfl, _, hgg, _⟩
  · simp [Value.ownBlock] at e
  · have : b = g := by simpa [Value.ownBlock] using e
    subst this
    have h2 : w.heap[b]? = some (.cells cs t' (0, 0)) := hb
    rw [hgg] at h2; cases h2; exact ht rfl
theorem OwnL.gblk {t' : TypeId} {b : Nat} {cs : Array Value} (h : OwnL E t base X w v l) (hg : w.grownBy w' v.ownBlock) (hb : Blk w b t' cs) (ht : t ≠ t') : Blk w' b t' cs := by
  obtain ⟨es, h1, _⟩ := h
  exact own_gblk h1 hg hb ht
theorem OwnL.below {w0 : World} (h : OwnL E t base X w v l) (hg : w.grownBy w' v.ownBlock) (hb : Below base w0 w) (hB : base ≤ w.heap.size) : Below base w0 w' := by
  obtain ⟨es, h1, _⟩ := h
  exact hb.grown hg hB fun k hk => (h1.lt k hk).1
theorem OwnL.oth (h : OwnL E t base X w v l) (hg : w.grownBy w' v.ownBlock) : Oth w w' := by
  obtain ⟨es, h1, _⟩ := h
  exact Oth.grown hg h1
theorem OwnL.nil : OwnL E t base X w (.slice none 0 0) ([] : List α) := ⟨[], ⟨by simp, .inl ⟨rfl, rfl⟩⟩, Els.nil⟩
theorem OwnL.made {b c : Nat} {z : Value} (hz : z.cells.size = E.sz) (hn : New w w' b t (cellsOf (List.replicate c z)).toArray) (hb : base ≤ w.heap.size) (hc : c ≤ 9223372036854775807) : OwnL E t base X w' (.slice (some ⟨b, 0, none⟩) 0 c) ([] : List α) := by
  obtain ⟨_, hk, hb', _⟩ := hn
  refine ⟨[], ⟨by simp [cellsOf], .inr ⟨b, c, _, rfl, by omega, hk, Nat.zero_le _, by simpa [maxLen] using hc, ?_, by simp⟩⟩, Els.nil⟩
  rw [List.size_toArray, cellsOf_length (sz := E.sz) _ (fun e he => by rw [(List.mem_replicate.1 he).2]; exact hz)]
  simp
theorem OwnL.toR {S : Nat → Prop} {hsz : 0 < E.sz} (h : OwnL E t base X w v l) (hS : ∀ k, base ≤ k → S k) (hX : ∀ k, X k → S k) : (RL E hsz).R S w v l := by
  obtain ⟨es, h1, h2⟩ := h
  exact RL.ofOwn h1 rfl ⟨h2.1, fun i e x he hx => E.mono (fun k _ hk => hX k hk.1) (h2.2 i e x he hx)⟩ hS
theorem OwnL.slice (h : OwnL E t base X w v l) : ∃ a c, v = .slice a l.length c := by
  obtain ⟨es, h1, _⟩ := h
  rcases h1.2 with ⟨rfl, h0⟩ | ⟨g, cap, cur, rfl, _⟩
  · exact ⟨none, 0, by rw [h0]⟩
  · exact ⟨_, _, rfl⟩
end

section
variable {P : Program} {σ : Env} {w : World} {d : Option Tmp} {ty : TypeId} {pos : String} {af : Array Edge} {g : Option (Nat × Bool)} {α : Type} {E : ER α}
/-- append(l, x): the new element lies alone in the block b -/
theorem g_appL {tt t : TypeId} {x y : Operand} {z : Value} {by_ base b : Nat} {X : Nat → Prop} {v e : Value} {l : List α} {n : α} (hsz : 0 < E.sz) (ht : P.underlying tt = some (.slice t)) (hi : infoOf P t = some (z, E.sz, by_)) (hzs : z.cells.size = E.sz) (hx : ev σ x = some v) (hy : ev σ y = some (.slice (some ⟨b, 0, none⟩) 1 1))
    (hown : OwnL E t base X w v l) {t' : TypeId} (hb : Blk w b t' e.cells) (he : E.R (fun k => X k ∧ v.ownBlock ≠ some k) w e n) (hl : l.length ≤ 1000000000) (hby : by_ ≤ 100) (hbase : base ≤ w.heap.size) :
    Gv P ⟨d, .call { callee := .builtin .append, args := #[x, y], argTypes := #[tt, tt] }, ty, pos, af, g⟩ σ w fun v' w' => OwnL E t base X w' v' (l ++ [n]) ∧ w.grownBy w' v.ownBlock := by
  obtain ⟨es, ho, hels⟩ := hown
  obtain ⟨i, hi0, hi1, hi2, hi3⟩ := infoOf_parts hi
  refine ⟨(by intro _ h; cases h), fun ρ hρ => .inl ?_⟩
  have e1 := hρ x _ (by simp [Op.operands, Call.operands]) hx
  have e2 := hρ y _ (by simp [Op.operands, Call.operands]) hy
  have hcs := E.csz he
  have hl' : e.cells.toList.length = 1 * E.sz := by simpa using hcs
  have hnews : ∀ j u, e.cells.toList[j]? = some u → w.cell? ((⟨b, 0, none⟩ : Addr).add j) = some u := by
    intro j u hu
    rw [add_mk, Nat.zero_add, hb.cell]
    simpa using hu
  have hone : ∀ u ∈ e.cells.toList, u.oneCell' = true := fun u hu => oneCell'_of (E.one he u hu)
  have hbytes : (l.length + 1) * by_ ≤ 140737488355328 := by
    have : (l.length + 1) * by_ ≤ 1000000001 * 100 := Nat.mul_le_mul (by omega) hby
    omega
  obtain ⟨v', w', hr, h2, h3, _⟩ := run_append_own (P := P) w base tt ty t i z E.sz by_ ht hi0 hi1 hi2 hi3 hzs hsz v l.length (cellsOf es) ho ⟨b, 0, none⟩ 1 1 e.cells.toList hl' hnews hone (by simp only [maxLen]; omega) hbytes hbase
  have hw := append_where (P := P) w base tt ty t i z ht hi0 hi1 (by rw [hi2]; exact hzs) (by rw [hi2]; exact hsz) v l.length (cellsOf es) (by rw [hi2]; exact ho) ⟨b, 0, none⟩ 1 1 e.cells.toList (by rw [hi2]; exact hl') hnews hone (by simp only [maxLen]; omega) (by rw [hi3]; exact hbytes) (by omega) v' w' hr
  refine ⟨v', w', by simp [execOp, resolve, invoke, builtin, e1, e2, hr], ⟨es ++ [e], ?_, ?_⟩, h3⟩
  · have : cellsOf (es ++ [e]) = cellsOf es ++ e.cells.toList := by simp [cellsOf]
    rw [this, List.length_append]; exact h2
  · have hkeep : Kp (fun k => X k ∧ v.ownBlock ≠ some k) w w' := fun k c t f hk hc => (h3.block k (Array.getElem?_eq_some_iff.1 hc).1 (fun e => hk.2 e.symm)).trans hc
    have hmono : ∀ {y : α} {u : Value}, E.R (fun k => X k ∧ v.ownBlock ≠ some k) w u y → E.R (fun k => X k ∧ v'.ownBlock ≠ some k) w' u y := by
      intro y u hu
      have h1 := E.lt hu
      have h2 : E.R (fun k => (X k ∧ v.ownBlock ≠ some k) ∧ k < w.heap.size) w' u y := E.keep (fun k c t f hk hc => hkeep k c t f hk.1 hc) h1
      refine E.mono (fun k _ hk => ⟨hk.1.1, ?_⟩) h2
      rcases hw with h | h
      · rw [h]; exact hk.1.2
      · rw [h]; intro e; cases e; exact Nat.lt_irrefl _ hk.2
    exact Els.snoc ⟨hels.1, fun i e x he hx => hmono (hels.2 i e x he hx)⟩ (hmono he)
end
end Go.Kx

namespace Go.Kx
open Go Go.RowKit

def EsR {α : Type} (E : ER α) (S : Nat → Prop) (w : World) (v : Value) (es : List Value) (l : List α) : Prop := Els E S w es l ∧ Row S w E.sz v l.length (cellsOf es)
def PtrX (w : World) (p : Addr) (e : Value) : Prop := ∀ (j : Nat) (u : Value), e.cells[j]? = some u → w.cell? (p.add j) = some u

section
variable {α : Type} {E : ER α} {S : Nat → Prop} {w w' : World} {v : Value} {es : List Value} {l : List α}
theorem RL.toEs {hsz : 0 < E.sz} (h : (RL E hsz).R S w v l) : ∃ es, EsR E S w v es l := h
theorem EsR.toR {hsz : 0 < E.sz} (h : EsR E S w v es l) : (RL E hsz).R S w v l := ⟨es, h⟩
theorem EsR.keep (h : EsR E S w v es l) (hk : Kp S w w') : EsR E S w' v es l := ⟨h.1.keep hk, h.2.keep hk⟩
theorem EsR.ext (h : EsR E S w v es l) (e : Ext w w') : EsR E S w' v es l := h.keep (Kp.ext e)
theorem EsR.mono {S' : Nat → Prop} (hsz : 0 < E.sz) (h : EsR E S w v es l) (hk : ∀ k, k < w.heap.size → S k → S' k) : EsR E S' w v es l := ⟨⟨h.1.1, fun i e x he hx => E.mono hk (h.1.2 i e x he hx)⟩, h.2.mono hsz hk⟩
theorem EsR.slice (h : EsR E S w v es l) : ∃ a c, v = .slice a l.length c := by
  obtain ⟨_, a, c, hv, _⟩ := h
  exact ⟨a, c, hv⟩
theorem EsR.le (h : EsR E S w v es l) : l.length ≤ 9223372036854775807 := by
  obtain ⟨_, a, c, hv, _, h, _⟩ := h
  exact h
theorem EsR.get {z : Value} {x : α} (h : EsR E S w v es l) (hz : E.R S w z x) (k : Nat) : E.R S w (es.getD k z) (l.getD k x) := by
  rw [List.getD_eq_getElem?_getD, List.getD_eq_getElem?_getD]
  rcases Nat.lt_or_ge k l.length with hk | hk
  · have hk' : k < es.length := by rw [h.1.1]; exact hk
    rw [List.getElem?_eq_getElem hk, List.getElem?_eq_getElem hk']
    exact h.1.2 k _ _ (List.getElem?_eq_getElem hk') (List.getElem?_eq_getElem hk)
  · rw [List.getElem?_eq_none hk, List.getElem?_eq_none (by rw [h.1.1]; exact hk)]
    exact hz
theorem EsR.at_ (h : EsR E S w v es l) {i : Nat} {e : Value} (hi : es[i]? = some e) : ∃ ad c, v = .slice (some ad) l.length c ∧ PtrX w (ad.add (i * E.sz)) e := by
  obtain ⟨h1, a, c, hv, h2, _, h3, h4⟩ := h
  have hlt : i < l.length := by
    rcases Nat.lt_or_ge i es.length with h | h
    · rw [← h1.1]; exact h
    · rw [List.getElem?_eq_none h] at hi; cases hi
  obtain ⟨ad, ha, hS, hc⟩ := h4 (by omega)
  subst ha
  refine ⟨ad, c, hv, fun j u hu => ?_⟩
  rw [add_add]
  refine hc _ u ?_
  have hj : j < E.sz := by
    have hs := h1.sz e (List.mem_iff_getElem?.2 ⟨i, hi⟩)
    rcases Nat.lt_or_ge j e.cells.size with h | h
    · omega
    · rw [Array.getElem?_eq_none h] at hu; cases hu
  rw [cellsOf_get es i j e h1.sz hi hj]; exact hu
end

section
variable {P : Program} {ro : Option Nat} {N : Nat} {ds : List Deferred} {ops : Array Oper} {K : Env → World → Prop} {rest : List Oper} {σ : Env} {w : World} {d : Tmp} {ty : TypeId} {pos : String} {af : Array Edge} {α : Type} {E : ER α} {S : Nat → Prop} {v : Value} {es : List Value} {l : List α}
theorem g_ixX {dd : Option Tmp} {gd : Option (Nat × Bool)} {t e : TypeId} {x ix : Operand} {k : IntKind} {i : Nat} {b : Bool} {y : Value} (ht : P.underlying t = some (.slice e)) (he : tyOf P e = some (b, E.sz)) (hx : ev σ x = some v) (h : EsR E S w v es l)
    (hi : ev σ ix = some (.int k (i : Int))) (hy : es[i]? = some y) :
    Gv P ⟨dd, .indexAddr t x ix, ty, pos, af, gd⟩ σ w fun v' w' => w' = w ∧ ∃ p, v' = .pointer (some p) ∧ PtrX w p y := by
  refine ⟨(by intro _ h; cases h), fun ρ hρ => .inl ?_⟩
  obtain ⟨ad, c, hv, hp⟩ := h.at_ hy
  have h1 := hρ x _ (by simp [Op.operands]) hx
  have h2 := hρ ix _ (by simp [Op.operands]) hi
  have hlt : i < l.length := by
    rcases Nat.lt_or_ge i es.length with h' | h'
    · rw [← h.1.1]; exact h'
    · rw [List.getElem?_eq_none h'] at hy; cases hy
  refine ⟨_, w, ?_, rfl, _, rfl, hp⟩
  simp [execOp, h1, h2, hv, Instr.indexAt, asIntOf, run_underlying ht, (tyOf_agg he w).2]
  intro hh; omega
theorem WL.ixX {t e : TypeId} {x ix : Operand} {k : IntKind} {i : Nat} {b : Bool} {y : Value} (ht : P.underlying t = some (.slice e)) (he : tyOf P e = some (b, E.sz)) (hd : Nat.blt d N = true) (hx : ev σ x = some v) (h : EsR E S w v es l)
    (hi : ev σ ix = some (.int k (i : Int))) (hy : es[i]? = some y) (kk : ∀ p, PtrX w p y → WL P ro N ds ops K rest ((d, .pointer (some p)) :: σ) w) :
    WL P ro N ds ops K (⟨some d, .indexAddr t x ix, ty, pos, af, none⟩ :: rest) σ w :=
  WL.gv rfl hd (g_ixX ht he hx h hi hy) fun v' w' ⟨e1, p, e2, hp⟩ => by subst e1; subst e2; exact kk p hp
theorem v_ldX {dd : Option Tmp} {gd : Option (Nat × Bool)} {t : TypeId} {x : Operand} {p : Addr} {y : Value} {n : α} (ht : tyOf P t = some (E.isA, E.sz)) (hx : ev σ x = some (.pointer (some p))) (hp : PtrX w p y) (hy : E.R S w y n) :
    Vl P ⟨dd, .load t x, ty, pos, af, gd⟩ σ w y := by
  have hs := E.shp hy
  have hcs := E.csz hy
  cases hA : E.isA with
  | true =>
    rw [hA] at hs ht
    simp only [cond_true] at hs
    have := v_ldPN (P := P) (d := dd) (ty := ty) (pos := pos) (af := af) (g := gd) (cs := y.cells.toList) (by rw [ht]; simp [hcs]) hx (fun j u hu => hp j u (by simpa using hu))
    rw [hs]
    simpa [Value.cells] using this
  | false =>
    rw [hA] at hs ht
    simp only [cond_false] at hs
    have hc1 : y.cells = #[y] := by
      clear hp hy hcs
      cases y <;> first | rfl | (simp [one1] at hs)
    have h0 : y.cells[0]? = some y := by rw [hc1]; rfl
    have := hp 0 y h0
    rw [show p.add 0 = p from rfl] at this
    exact v_ldP ht hx this
theorem WL.ldX {t : TypeId} {x : Operand} {p : Addr} {y : Value} {n : α} (ht : tyOf P t = some (E.isA, E.sz)) (hd : Nat.blt d N = true) (hx : ev σ x = some (.pointer (some p))) (hp : PtrX w p y) (hy : E.R S w y n) (k : WL P ro N ds ops K rest ((d, y) :: σ) w) :
    WL P ro N ds ops K (⟨some d, .load t x, ty, pos, af, none⟩ :: rest) σ w := WL.vl rfl hd (v_ldX ht hx hp hy) k
end

/-- the zero of the rationals, as a value -/
abbrev zq : Value := .agg #[.bool false, .slice none 0 0, .bool false, .slice none 0 0]
theorem zq_R {S : Nat → Prop} {w : World} : eQ.R S w zq q0 := ⟨_, _, rfl, RL.nil, RL.nil⟩
abbrev nilV : Value := .slice none 0 0
theorem nilV_R {S : Nat → Prop} {w : World} : eV.R S w nilV [] := RL.nil
end Go.Kx

namespace Go.Kx
open Go Go.RowKit

theorem WC.rangeA {P : Program} {N : Nat} {Q : Pst} {σ : Env} {ds : List Deferred} {w : World} {g : Operand} {ps : List Tmp} {assign body : Code} {gf : FuncId} {lb : Array Value} {n : Nat} {xs : Nat → List Value} {F : World → Prop}
    (hit : Iter P gf lb n xs F) (hg : ev σ g = some (.func (.func gf) #[] lb)) (hE : Ent P gf) (hps : ∀ k, (xs k).length = ps.length) (hpN : ∀ p ∈ ps, p < N)
    (J : Nat → World → Prop) (Jx : Code → World → Prop) (stJ : ∀ k W W', J k W → Sft w.heap.size W W' → J k W') (stX : ∀ c W W', Jx c W → Sft w.heap.size W W' → Jx c W') (hF : ∀ k W, J k W → F W) (h0 : J 0 w)
    (hbody : ∀ l k W, k < n → J k W → w.heap.size ≤ W.heap.size → WC P (some l) N (thn (fun σ1 ds1 W1 => ds1 = [] ∧ Ext W W1 ∧ ∀ W2, Sft w.heap.size W1 W2 → W2.heap.size = W1.heap.size → WC P (some l) N (rnd (J (k + 1)) Jx W2) body σ1 [] W2) (fun _ _ _ _ => False)) assign (penv ps (xs k) σ) [] W)
    (hdone : ∀ W, J n W → W.heap[w.heap.size]? = some (.deferred (some [])) → Q .normal σ ({ target := .collected w.heap.size, args := #[] } :: ds) W)
    (hjump : ∀ c W, Jx c W → W.heap[w.heap.size]? = some (.deferred (some [])) → WC P none N Q c σ ({ target := .collected w.heap.size, args := #[] } :: ds) W) :
    WC P none N Q (.rangeFunc g ps.toArray assign body) σ ds w := by
  refine ⟨fun a ha => wpIn_rangeFunc fun fn _ => ?_⟩
  have hev := ha.ev hg
  let rec0 : Loop := { state := .ready, pending := none, fn := fn, tmps := a.tmps, params := ps.toArray, assign := assign, body := body, defers := w.heap.size }
  refine ⟨w.heap.size + 1, [{ target := .collected w.heap.size, args := #[] }], (w.alloc (.deferred (some []))).alloc (.loop rec0), { target := .fn (.func gf) lb, args := #[.func (.yield (w.heap.size + 1)) #[] #[]] }, (w.alloc (.deferred (some []))).alloc (.loop rec0), gf, #[.func (.yield (w.heap.size + 1)) #[] #[]] ++ lb, (w.alloc (.deferred (some []))).alloc (.loop rec0),
    run_enterLoop_outer fn a.tmps ps.toArray assign body, ?_, fun _ _ => trivial, ?_, (fun h => (by cases h)), ?_⟩
  · simp only [resolve]; rw [hev]; simp [Deferred.ofValue, rec0]; rfl
  · simp [invoke, hE _ _]
  let l := w.heap.size + 1
  let D := w.heap.size
  have hne : D ≠ l := by show w.heap.size ≠ w.heap.size + 1; omega
  let Jt : Nat → World → Prop := fun k W => J k W ∧ W.heap[l]? = some (.loop rec0) ∧ W.heap[D]? = some (.deferred (some []))
  let Xt : World → Prop := fun W => ∃ c, Jx c W ∧ W.heap[l]? = some (.loop { rec0 with state := .done, pending := some c }) ∧ W.heap[D]? = some (.deferred (some []))
  have hlt : ∀ {W : World} {o : Obj}, W.heap[l]? = some o → l < W.heap.size := fun h => (Array.getElem?_eq_some_iff.1 h).1
  have hlt' : ∀ {W : World} {o : Obj}, W.heap[D]? = some o → D < W.heap.size := fun h => (Array.getElem?_eq_some_iff.1 h).1
  have hstart : Jt 0 ((w.alloc (.deferred (some []))).alloc (.loop rec0)) := by
    have e1 := alloc_ext w (.deferred (some []))
    have e2 := alloc_ext (w.alloc (.deferred (some []))) (.loop rec0)
    refine ⟨stJ 0 _ _ h0 (Sft.ext (e1.trans e2) (Nat.le_refl _)), ?_, ?_⟩
    · have := World.alloc_heap_new (w.alloc (.deferred (some []))) (.loop rec0)
      rwa [World.size_alloc] at this
    · exact (e2.block D (by rw [World.size_alloc]; show w.heap.size < w.heap.size + 1; omega)).trans (World.alloc_heap_new w _)
  have hcall := hit l Jt Xt
    (fun k W W' ⟨h1, h2, h3⟩ e => ⟨stJ k W W' h1 (Sft.ext e (Nat.le_of_lt (hlt' h3))), (e.block l (hlt h2)).trans h2, (e.block D (hlt' h3)).trans h3⟩)
    (fun W W' ⟨c, h1, h2, h3⟩ e => ⟨c, stX c W W' h1 (Sft.ext e (Nat.le_of_lt (hlt' h3))), (e.block l (hlt h2)).trans h2, (e.block D (hlt' h3)).trans h3⟩)
    (fun k W h => hF k W h.1)
    (fun k W hk ⟨hJ, hl, hD⟩ => by
      refine ⟨fn, (ps.zip (xs k)).foldl (fun t p => t.setIfInBounds p.1 p.2) a.tmps, assign, body, ?_, ?_⟩
      · have := run_yield (P := P) (w := W) (l := l) (r := rec0) (args := (xs k).toArray) hl (by simp [rec0, hps])
        rw [this]
        simp [rec0]
      · refine roundIn_of_wpIn trivial ?_
        have hag : Agr N (penv ps (xs k) σ) [] { tmps := (ps.zip (xs k)).foldl (fun t p => t.setIfInBounds p.1 p.2) a.tmps, defers := [] } :=
          agr_params ps (xs k) σ a.tmps hpN ⟨ha.size, rfl, ha.slot⟩
        refine wpIn_mono ((hbody l k W hk hJ (Nat.le_of_lt (hlt' hD))).out _ hag) ?_
        rintro e a₁ w₁ ⟨σ1, ds1, hag1, hq⟩
        cases e with
        | normal =>
          obtain ⟨rfl, hx1, hb⟩ := hq
          have hl := (Oth.ext hx1) l _ hl rfl
          have hD := (Oth.ext hx1) D _ hD rfl
          have hput : (w₁.putObj l (.loop { rec0 with state := .busy })).heap[l]? = some (.loop { rec0 with state := .busy }) := World.putObj_heap_same (hlt hl)
          have hputD : (w₁.putObj l (.loop { rec0 with state := .busy })).heap[D]? = some (.deferred (some [])) := by rw [World.putObj_heap_other hne]; exact hD
          refine ⟨_, run_beginRound hl rfl, wpIn_mono ((hb _ (Sft.put (show D ≤ l by show w.heap.size ≤ w.heap.size + 1; omega) hl rfl) (World.putObj_size ..)).out a₁ hag1) ?_⟩
          have hend : ∀ (W' : World) (j : Option Code), Oth (w₁.putObj l (.loop { rec0 with state := .busy })) W' →
              (Instr.endRound l j).run P W' = .ok (.bool j.isNone) (W'.putObj l (.loop { rec0 with state := if j.isNone then .ready else .done, pending := j })) ∧
              Sft D W' (W'.putObj l (.loop { rec0 with state := if j.isNone then .ready else .done, pending := j })) ∧
              (W'.putObj l (.loop { rec0 with state := if j.isNone then .ready else .done, pending := j })).heap[l]? = some (.loop { rec0 with state := if j.isNone then .ready else .done, pending := j }) ∧
              (W'.putObj l (.loop { rec0 with state := if j.isNone then .ready else .done, pending := j })).heap[D]? = some (.deferred (some [])) := by
            intro W' j ho
            have h1 := ho l _ hput rfl
            have h2 := ho D _ hputD rfl
            refine ⟨run_endRound (r := { rec0 with state := .busy }) j h1, Sft.put (show D ≤ l by show w.heap.size ≤ w.heap.size + 1; omega) h1 rfl, World.putObj_heap_same (hlt h1), ?_⟩
            rw [World.putObj_heap_other hne]; exact h2
          rintro e2 a₂ w₂ ⟨σ2, ds2, hag2, hq2⟩
          cases e2 with
          | normal =>
            obtain ⟨ho, hj⟩ := hq2
            obtain ⟨h1, h2, h3, h4⟩ := hend w₂ none ho
            exact ⟨_, _, h1, .inl ⟨rfl, stJ _ _ _ hj h2, h3, h4⟩⟩
          | ret =>
            obtain ⟨ho, hj⟩ := hq2
            obtain ⟨h1, h2, h3, h4⟩ := hend w₂ (some .ret) ho
            exact ⟨_, _, h1, .inr ⟨rfl, .ret, stX _ _ _ hj h2, h3, h4⟩⟩
          | exit id =>
            obtain ⟨ho, hj⟩ := hq2
            obtain ⟨h1, h2, h3, h4⟩ := hend w₂ (some (.exit id)) ho
            exact ⟨_, _, h1, .inr ⟨rfl, .exit id, stX _ _ _ hj h2, h3, h4⟩⟩
          | _ => exact hq2.elim
        | _ => exact hq.elim)
    _ hstart
  refine callsIn_wf.2 (hcall.mono ?_)
  have hag' : Agr N σ ({ target := .collected w.heap.size, args := #[] } :: ds) { tmps := a.tmps, defers := [{ target := .collected w.heap.size, args := #[] }] ++ a.defers } := ⟨ha.size, by rw [ha.defs]; rfl, ha.slot⟩
  rintro e W ⟨v, rfl, hres⟩
  rcases hres with ⟨hJ, hl, hD⟩ | ⟨c, hX, hl, hD⟩
  · refine ⟨none, _, run_endLoop hl (by simp [rec0]), ?_⟩
    refine ⟨σ, _, hag', hdone _ (stJ _ _ _ hJ (Sft.put (show D ≤ l by show w.heap.size ≤ w.heap.size + 1; omega) hl rfl)) ?_⟩
    rw [World.putObj_heap_other hne]; exact hD
  · refine ⟨some c, _, run_endLoop hl (by simp), ?_⟩
    refine (hjump c _ (stX _ _ _ hX (Sft.put (show D ≤ l by show w.heap.size ≤ w.heap.size + 1; omega) hl rfl)) ?_).out _ hag'
    rw [World.putObj_heap_other hne]; exact hD
end Go.Kx

namespace Go.Kx
open Go Go.RowKit

/-- the block g holds the elements l; their own memory is S's, and not g -/
def FB {α : Type} (E : ER α) (t : TypeId) (S : Nat → Prop) (w : World) (g : Nat) (l : List α) : Prop :=
  ∃ es, Blk w g t (cellsOf es).toArray ∧ Els E (fun k => S k ∧ k ≠ g) w es l

theorem cellsOf_set {sz : Nat} (hsz : 0 < sz) (es : List Value) (i : Nat) (v : Value) (hs : ∀ e ∈ es, e.cells.size = sz) (hv : v.cells.size = sz) (hi : i < es.length) :
    wrt (cellsOf es).toArray (i * sz) v.cells.toList = (cellsOf (es.set i v)).toArray := by
  have hs' : ∀ e ∈ es.set i v, e.cells.size = sz := fun e he => by
    rcases List.mem_or_eq_of_mem_set he with h | h
    · exact hs e h
    · rw [h]; exact hv
  have hl := cellsOf_length es hs
  have hl' := cellsOf_length (es.set i v) hs'
  rw [List.length_set] at hl'
  have hle : i * sz + sz ≤ es.length * sz := by rw [← Nat.succ_mul]; exact Nat.mul_le_mul_right _ hi
  apply Array.ext_getElem?
  intro j
  rw [wrt_get _ _ _ _ (by simp only [Array.length_toList, hv, List.size_toArray, hl]; exact hle)]
  simp only [Array.length_toList, hv, List.getElem?_toArray, Array.getElem?_toList]
  rcases Nat.lt_or_ge j (es.length * sz) with hj | hj
  · have hq : j / sz < es.length := (Nat.div_lt_iff_lt_mul hsz).2 hj
    have hr : j % sz < sz := Nat.mod_lt _ hsz
    have hjd : (j / sz) * sz + j % sz = j := by rw [Nat.mul_comm]; exact Nat.div_add_mod j sz
    by_cases he : j / sz = i
    · have h1 : i * sz ≤ j ∧ j < i * sz + sz := by rw [he] at hjd; omega
      rw [if_pos h1]
      have h2 : (es.set i v)[i]? = some v := by rw [List.getElem?_set_self hi]
      have := cellsOf_get (es.set i v) i (j % sz) v hs' h2 hr
      rw [he] at hjd
      rw [hjd] at this
      rw [this]
      congr 1; omega
    · have h1 : ¬ (i * sz ≤ j ∧ j < i * sz + sz) := by
        intro ⟨ha, hb⟩
        apply he
        have h3 : i ≤ j / sz := (Nat.le_div_iff_mul_le hsz).2 ha
        have h4 : j / sz < i + 1 := (Nat.div_lt_iff_lt_mul hsz).2 (by rw [Nat.succ_mul]; exact hb)
        omega
      rw [if_neg h1]
      obtain ⟨e, hee⟩ : ∃ e, es[j / sz]? = some e := ⟨_, List.getElem?_eq_getElem hq⟩
      have g1 := cellsOf_get es (j / sz) (j % sz) e hs hee hr
      have g2 := cellsOf_get (es.set i v) (j / sz) (j % sz) e hs' (by rw [List.getElem?_set_ne (fun h => he h.symm)]; exact hee) hr
      rw [hjd] at g1 g2
      rw [g1, g2]
  · rw [if_neg (by omega), List.getElem?_eq_none (by omega), List.getElem?_eq_none (by omega)]

section
variable {α : Type} {E : ER α} {t : TypeId} {S : Nat → Prop} {w w' : World} {g : Nat} {l : List α}
theorem FB.lt (h : FB E t S w g l) : g < w.heap.size := by obtain ⟨es, hb, _⟩ := h; exact hb.lt
theorem FB.kp (h : FB E t S w g l) (hk : Kp (fun _ => True) w w') : FB E t S w' g l := by
  obtain ⟨es, hb, he⟩ := h
  exact ⟨es, hk.blk trivial hb, he.keep fun k c t f _ hc => hk k c t f trivial hc⟩
theorem FB.ext (h : FB E t S w g l) (e : Ext w w') : FB E t S w' g l := h.kp (Kp.ext e)
theorem FB.upd {b : Nat} (h : FB E t S w g l) (u : Upd w w' b) (hne : g ≠ b) (hS : ¬ S b) : FB E t S w' g l := by
  obtain ⟨es, hb, he⟩ := h
  exact ⟨es, hb.upd u hne, he.keep (Kp.upd u fun h => hS h.1)⟩
theorem FB.mono {S' : Nat → Prop} (h : FB E t S w g l) (hk : ∀ k, k < w.heap.size → S k → S' k) : FB E t S' w g l := by
  obtain ⟨es, hb, he⟩ := h
  exact ⟨es, hb, he.1, fun i e x h1 h2 => E.mono (fun k hl hh => ⟨hk k hl hh.1, hh.2⟩) (he.2 i e x h1 h2)⟩
theorem FB.made {c : Nat} {z : Value} {z0 : α} (hn : New w w' g t (cellsOf (List.replicate c z)).toArray) (hz : E.R (fun k => S k ∧ k ≠ g) w' z z0) : FB E t S w' g (List.replicate c z0) := by
  refine ⟨List.replicate c z, hn.2.1, by simp, fun i e x he hx => ?_⟩
  have h1 : e = z := by
    have := List.mem_iff_getElem?.2 ⟨i, he⟩
    exact (List.mem_replicate.1 this).2
  have h2 : x = z0 := by
    have := List.mem_iff_getElem?.2 ⟨i, hx⟩
    exact (List.mem_replicate.1 this).2
  subst h1; subst h2; exact hz
theorem FB.toR {hsz : 0 < E.sz} {c : Nat} (h : FB E t S w g l) (hS : S g) (hc : l.length ≤ c) (hm : l.length ≤ 9223372036854775807) : (RL E hsz).R S w (.slice (some ⟨g, 0, none⟩) l.length c) l := by
  obtain ⟨es, hb, he⟩ := h
  exact RL.ofBlk hb hS ⟨he.1, fun i e x h1 h2 => E.mono (fun k _ hh => hh.1) (he.2 i e x h1 h2)⟩ (fun j u hu => by rw [List.getElem?_toArray]; exact hu) hc hm
end

section
variable {P : Program} {ro : Option Nat} {N : Nat} {ds : List Deferred} {ops : Array Oper} {K : Env → World → Prop} {rest : List Oper} {σ : Env} {w : World} {d : Tmp} {ty : TypeId} {pos : String} {af : Array Edge} {α : Type} {E : ER α} {S : Nat → Prop}
theorem g_storeF {dd : Option Tmp} {gd : Option (Nat × Bool)} {t t' : TypeId} {x y : Operand} {g i o n : Nat} {a : Bool} {l : List α} {v : Value} {z : α} (hsz : 0 < E.sz) (ht : tyOf P t = some (a, n)) (hx : ev σ x = some (.pointer (some ⟨g, o, none⟩))) (hy : ev σ y = some v) (hb : FB E t' S w g l)
    (hn : E.sz = n) (hi : i < l.length) (ho : o = i * E.sz) (hz : E.R (fun k => S k ∧ k ≠ g) w v z) :
    Gv P ⟨dd, .store t x y, ty, pos, af, gd⟩ σ w fun _ w' => FB E t' S w' g (l.set i z) ∧ Upd w w' g := by
  obtain ⟨es, hB, he⟩ := hb
  have hcs := E.csz hz
  subst ho
  have hl := cellsOf_length es he.sz
  have hie : i < es.length := by rw [he.1]; exact hi
  have hle : i * E.sz + n ≤ (cellsOf es).toArray.size := by
    rw [List.size_toArray, hl, ← hn, ← Nat.succ_mul]; exact Nat.mul_le_mul_right _ hie
  refine (g_store ht hx hy hB (by omega) hle (E.one hz)).mono ?_
  rintro _ w' ⟨hB', u⟩
  rw [cellsOf_set hsz es i v he.sz hcs hie] at hB'
  refine ⟨⟨es.set i v, hB', ?_⟩, u⟩
  have := Els.set he i hz
  exact this.keep (Kp.upd u fun h => h.2 rfl)
theorem WL.storeF {t t' : TypeId} {x y : Operand} {g i o n : Nat} {a : Bool} {l : List α} {v : Value} {z : α} (hsz : 0 < E.sz) (ht : tyOf P t = some (a, n)) (hx : ev σ x = some (.pointer (some ⟨g, o, none⟩))) (hy : ev σ y = some v) (hb : FB E t' S w g l)
    (hn : E.sz = n) (hi : i < l.length) (ho : o = i * E.sz) (hz : E.R (fun k => S k ∧ k ≠ g) w v z) (k : ∀ w', FB E t' S w' g (l.set i z) → Upd w w' g → WL P ro N ds ops K rest σ w') :
    WL P ro N ds ops K (⟨none, .store t x y, ty, pos, af, none⟩ :: rest) σ w :=
  WL.gv rfl rfl (g_storeF hsz ht hx hy hb hn hi ho hz) fun _ w' ⟨h1, h2⟩ => k w' h1 h2
end

/-- filled up to i -/
def fil {α : Type} (n i : Nat) (f : Nat → α) (z : α) : List α := (List.range n).map fun j => if j < i then f j else z
theorem fil_zero {α : Type} (n : Nat) (f : Nat → α) (z : α) : fil n 0 f z = List.replicate n z := by
  unfold fil
  simp [List.map_const']
theorem fil_all {α : Type} (n : Nat) (f : Nat → α) (z : α) : fil n n f z = (List.range n).map f := by
  unfold fil
  apply List.map_congr_left
  intro j hj
  rw [if_pos (List.mem_range.1 hj)]
theorem fil_length {α : Type} (n i : Nat) (f : Nat → α) (z : α) : (fil n i f z).length = n := by simp [fil]
theorem fil_set {α : Type} (n i : Nat) (f : Nat → α) (z : α) : (fil n i f z).set i (f i) = fil n (i + 1) f z := by
  apply List.ext_getElem?
  intro j
  unfold fil
  rw [List.getElem?_set]
  by_cases hj : i = j
  · subst hj
    by_cases h : i < n
    · simp [h]
    · simp [h]
  · rw [if_neg hj, List.getElem?_map, List.getElem?_map]
    by_cases h : j < n
    · simp only [List.getElem?_range h, Option.map_some]
      by_cases h1 : j < i
      · simp [h1, show j < i + 1 by omega]
      · simp [h1, show ¬ j < i + 1 by omega]
    · rw [List.getElem?_eq_none (by simpa using h)]; rfl
end Go.Kx

namespace Go.Kx

/-- a rational whose words and value are small -/
def qk (L : Nat) (q : QV) : Prop := qok L q ∧ Rsz (qval q) L
theorem qk.mono {q : QV} {L M : Nat} (h : qk L q) (hl : L ≤ M) : qk M q := ⟨h.1.mono hl, h.2.mono hl⟩
theorem qk_qc {r : Rat} {L : Nat} (h : Rsz r L) : qk L (qc r) := ⟨h.toOk, by rw [qval_qc]; exact h⟩
theorem qk_q0 {L : Nat} (hL : 1 ≤ L) : qk L q0 := by rw [← qc_zero]; exact qk_qc (Rsz.zero hL)
def vk (L : Nat) (a : List QV) : Prop := ∀ q ∈ a, qk L q
def mk_ (L : Nat) (m : List (List QV)) : Prop := ∀ r ∈ m, vk L r
theorem vk.mono {a : List QV} {L M : Nat} (h : vk L a) (hl : L ≤ M) : vk M a := fun q hq => (h q hq).mono hl
theorem mk_.mono {a : List (List QV)} {L M : Nat} (h : mk_ L a) (hl : L ≤ M) : mk_ M a := fun q hq => (h q hq).mono hl
theorem mem_getD {α : Type} {P : α → Prop} {l : List α} {z : α} (h : ∀ x ∈ l, P x) (hz : P z) (k : Nat) : P (l.getD k z) := by
  rw [List.getD_eq_getElem?_getD]
  cases hk : l[k]? with
  | none => exact hz
  | some x => exact h x (List.mem_iff_getElem?.2 ⟨k, hk⟩)
theorem vk.get {a : List QV} {L : Nat} (h : vk L a) (hL : 1 ≤ L) (k : Nat) : qk L (a.getD k q0) := mem_getD h (qk_q0 hL) k
theorem vk_nil {L : Nat} : vk L [] := fun q hq => by cases hq
theorem mk_.get {a : List (List QV)} {L : Nat} (h : mk_ L a) (k : Nat) : vk L (a.getD k []) := mem_getD h vk_nil k

/-- element k -/
def rv (a : List QV) (k : Nat) : Rat := qval (a.getD k q0)
def rm (m : List (List QV)) (i k : Nat) : Rat := rv (m.getD i []) k
theorem rv_out {a : List QV} {k : Nat} (h : a.length ≤ k) : rv a k = 0 := by
  unfold rv
  rw [List.getD_eq_getElem?_getD, List.getElem?_eq_none h]; exact qval_q0
theorem rv_nil (k : Nat) : rv [] k = 0 := rv_out (Nat.zero_le _)
theorem rm_out {m : List (List QV)} {i k : Nat} (h : m.length ≤ i) : rm m i k = 0 := by
  unfold rm
  rw [List.getD_eq_getElem?_getD, List.getElem?_eq_none h]; exact rv_nil k
theorem vk.rsz {a : List QV} {L : Nat} (h : vk L a) (hL : 1 ≤ L) (k : Nat) : Rsz (rv a k) L := (h.get hL k).2
theorem mk_.rsz {m : List (List QV)} {L : Nat} (h : mk_ L m) (hL : 1 ≤ L) (i k : Nat) : Rsz (rm m i k) L := (h.get i).rsz hL k

/-- the vector of n elements f -/
def tab (n : Nat) (f : Nat → Rat) : List QV := (List.range n).map fun k => qc (f k)
def tabM (n c : Nat) (f : Nat → Nat → Rat) : List (List QV) := (List.range n).map fun i => tab c (f i)
theorem tab_length (n : Nat) (f : Nat → Rat) : (tab n f).length = n := by simp [tab]
theorem tabM_length (n c : Nat) (f : Nat → Nat → Rat) : (tabM n c f).length = n := by simp [tabM]
theorem rv_tab (n : Nat) (f : Nat → Rat) (k : Nat) : rv (tab n f) k = if k < n then f k else 0 := by
  unfold rv tab
  by_cases h : k < n
  · rw [if_pos h, List.getD_eq_getElem?_getD, List.getElem?_map, List.getElem?_range h]
    exact qval_qc _
  · rw [if_neg h, List.getD_eq_getElem?_getD, List.getElem?_eq_none (by simpa using h)]
    exact qval_q0
theorem getD_tabM (n c : Nat) (f : Nat → Nat → Rat) (i : Nat) : (tabM n c f).getD i [] = if i < n then tab c (f i) else [] := by
  unfold tabM
  by_cases h : i < n
  · rw [if_pos h, List.getD_eq_getElem?_getD, List.getElem?_map, List.getElem?_range h]; rfl
  · rw [if_neg h, List.getD_eq_getElem?_getD, List.getElem?_eq_none (by simpa using h)]; rfl
theorem rm_tabM (n c : Nat) (f : Nat → Nat → Rat) (i k : Nat) : rm (tabM n c f) i k = if i < n ∧ k < c then f i k else 0 := by
  unfold rm
  rw [getD_tabM]
  by_cases h : i < n
  · rw [if_pos h, rv_tab]; simp [h]
  · rw [if_neg h, rv_nil, if_neg (by omega)]
theorem vk_tab {n L : Nat} {f : Nat → Rat} (h : ∀ k, k < n → Rsz (f k) L) : vk L (tab n f) := by
  intro q hq
  obtain ⟨k, hk, rfl⟩ := List.mem_map.1 hq
  exact qk_qc (h k (List.mem_range.1 hk))
theorem mk_tabM {n c L : Nat} {f : Nat → Nat → Rat} (h : ∀ i k, i < n → k < c → Rsz (f i k) L) : mk_ L (tabM n c f) := by
  intro r hr
  obtain ⟨i, hi, rfl⟩ := List.mem_map.1 hr
  exact vk_tab fun k hk => h i k (List.mem_range.1 hi) hk

/-- a sum of n terms -/
def sumN : Nat → (Nat → Rat) → Rat
  | 0, _ => 0
  | n + 1, f => sumN n f + f n
theorem sumN_congr {n : Nat} {f g : Nat → Rat} (h : ∀ k, k < n → f k = g k) : sumN n f = sumN n g := by
  induction n with
  | zero => rfl
  | succ n ih => rw [sumN, sumN, ih fun k hk => h k (by omega), h n (by omega)]
theorem sumN_zero (n : Nat) : sumN n (fun _ => 0) = 0 := by
  induction n with
  | zero => rfl
  | succ n ih => rw [sumN, ih]; grind
theorem sumN_zero' {n : Nat} {f : Nat → Rat} (h : ∀ k, k < n → f k = 0) : sumN n f = 0 := by rw [sumN_congr h, sumN_zero]
theorem sumN_add (n : Nat) (f g : Nat → Rat) : sumN n (fun k => f k + g k) = sumN n f + sumN n g := by
  induction n with
  | zero => simp only [sumN]; grind
  | succ n ih => rw [sumN, sumN, sumN, ih]; grind
theorem sumN_mul (n : Nat) (c : Rat) (f : Nat → Rat) : sumN n (fun k => c * f k) = c * sumN n f := by
  induction n with
  | zero => simp [sumN]
  | succ n ih => rw [sumN, sumN, ih]; grind
theorem sumN_mulr (n : Nat) (c : Rat) (f : Nat → Rat) : sumN n (fun k => f k * c) = sumN n f * c := by
  induction n with
  | zero => simp [sumN]
  | succ n ih => rw [sumN, sumN, ih]; grind
theorem sumN_swap (m n : Nat) (f : Nat → Nat → Rat) : sumN m (fun i => sumN n (fun k => f i k)) = sumN n (fun k => sumN m (fun i => f i k)) := by
  induction m with
  | zero => simp [sumN, sumN_zero]
  | succ m ih => simp only [sumN]; rw [ih, ← sumN_add]
/-- terms beyond n that are 0 -/
theorem sumN_ext {n m : Nat} {f : Nat → Rat} (hnm : n ≤ m) (h : ∀ k, n ≤ k → k < m → f k = 0) : sumN m f = sumN n f := by
  induction m with
  | zero => rw [show n = 0 by omega]
  | succ m ih =>
    by_cases e : n = m + 1
    · rw [e]
    · rw [sumN, ih (by omega) fun k h1 h2 => h k h1 (by omega), h m (by omega) (by omega)]
      grind
theorem sumN_single {n i : Nat} {f : Nat → Rat} (h : ∀ k, k < n → k ≠ i → f k = 0) : sumN n f = if i < n then f i else 0 := by
  induction n with
  | zero => simp [sumN]
  | succ n ih =>
    rw [sumN, ih fun k h1 h2 => h k (by omega) h2]
    by_cases h1 : i < n
    · rw [if_pos h1, if_pos (by omega), h n (by omega) (by omega)]; grind
    · rw [if_neg h1]
      by_cases h2 : i = n
      · subst h2; rw [if_pos (by omega)]; grind
      · rw [if_neg (by omega), h n (by omega) (fun e => h2 e.symm)]; grind
theorem sumN_rsz {n L : Nat} {f : Nat → Rat} (h : ∀ k, k < n → Rsz (f k) L) : Rsz (sumN n f) (1 + n * (L + 1)) := by
  induction n with
  | zero => exact Rsz.zero (by omega)
  | succ n ih =>
    rw [sumN]
    exact ((ih fun k hk => h k (by omega)).add (h n (by omega))).mono (by rw [Nat.succ_mul]; omega)
end Go.Kx

namespace Go.Kx
def valH : List Nat → Nat
  | [] => 0
  | x :: l => x + 65536 * valH l
def digH (l : List Nat) : Prop := ∀ x ∈ l, x < 65536
def hlv (l : List Nat) : List Nat := l.flatMap fun x => [x % 65536, x / 65536]
theorem hlv_nil : hlv [] = [] := rfl
theorem hlv_cons (x : Nat) (l : List Nat) : hlv (x :: l) = x % 65536 :: x / 65536 :: hlv l := rfl
theorem hlv_snoc (l : List Nat) (x : Nat) : hlv (l ++ [x]) = hlv l ++ [x % 65536, x / 65536] := by simp [hlv]
theorem hlv_length (l : List Nat) : (hlv l).length = 2 * l.length := by
  induction l with
  | nil => rfl
  | cons x l ih => rw [hlv_cons]; simp [ih]; omega
theorem valH_hlv (l : List Nat) : valH (hlv l) = val l := by
  induction l with
  | nil => rfl
  | cons x l ih => rw [hlv_cons]; simp only [valH, val, ih]; omega
theorem digH_hlv {l : List Nat} (h : dig l) : digH (hlv l) := by
  intro y hy
  simp only [hlv, List.mem_flatMap, List.mem_cons, List.not_mem_nil, or_false] at hy
  obtain ⟨x, hx, rfl | rfl⟩ := hy
  · omega
  · have := h x hx; omega
theorem valH_append (l r : List Nat) : valH (l ++ r) = valH l + 65536 ^ l.length * valH r := by
  induction l with
  | nil => simp [valH]
  | cons x l ih => simp only [List.cons_append, valH, ih, List.length_cons, Nat.pow_succ]; grind
theorem valH_replicate0 (k : Nat) : valH (List.replicate k 0) = 0 := by
  induction k with
  | zero => rfl
  | succ k ih => simp [List.replicate_succ, valH, ih]
theorem valH_trimL (l : List Nat) : valH (trimL l) = valH l := by
  obtain ⟨k, hk⟩ := trimL_cases l
  have : valH l = valH (trimL l ++ List.replicate k 0) := by rw [← hk]
  rw [this, valH_append, valH_replicate0]; omega
theorem digH_trimL {l : List Nat} (h : digH l) : digH (trimL l) := by
  obtain ⟨k, hk⟩ := trimL_cases l
  intro x hx
  exact h x (by rw [hk]; exact List.mem_append_left _ hx)
def pairUp : List Nat → List Nat
  | [] => []
  | [x] => [x]
  | x :: y :: r => (x + 65536 * y) :: pairUp r
theorem val_pairUp : ∀ l, val (pairUp l) = valH l
  | [] => rfl
  | [x] => by simp [pairUp, val, valH]
  | x :: y :: r => by simp only [pairUp, val, valH, val_pairUp r]; omega
theorem dig_pairUp : ∀ {l : List Nat}, digH l → dig (pairUp l)
  | [], _ => dig_nil
  | [x], h => by
    have := h x (by simp)
    intro y hy
    simp only [pairUp, List.mem_singleton] at hy
    omega
  | x :: y :: r, h => by
    have h1 := h x (by simp)
    have h2 := h y (by simp)
    have ih := dig_pairUp (l := r) fun z hz => h z (by simp [hz])
    exact dig_cons.2 ⟨by omega, ih⟩
theorem pairUp_ne {x : Nat} {l : List Nat} : pairUp (x :: l) ≠ [] := by cases l <;> simp [pairUp]
theorem can_pairUp : ∀ {l : List Nat}, can l → can (pairUp l)
  | [], _ => can_nil
  | [x], h => h
  | [x, y], h => by
    have := h y (by simp)
    intro z hz
    simp only [pairUp, List.getLast?_singleton, Option.some.injEq] at hz
    omega
  | x :: y :: z :: r, h => by
    have ih := can_pairUp (l := z :: r) fun u hu => h u (by simpa [List.getLast?_cons_cons] using hu)
    intro u hu
    apply ih u
    simp only [pairUp] at hu
    cases hp : pairUp (z :: r) with
    | nil => exact absurd hp pairUp_ne
    | cons a b => rw [hp] at hu; simpa [List.getLast?_cons_cons] using hu
theorem pairUp_wds {l : List Nat} (h : digH l) : pairUp (trimL l) = wds (valH l) := by
  rw [← valH_trimL, ← val_pairUp, wds_of_can (dig_pairUp (digH_trimL h)) (can_pairUp (can_trimL l))]
theorem pairUp_eq : ∀ l, pairUp l = (List.range ((l.length + 1) / 2)).map fun t => l.getD (2 * t) 0 + 65536 * l.getD (2 * t + 1) 0
  | [] => rfl
  | [x] => by simp [pairUp]
  | x :: y :: r => by
    have : ((x :: y :: r).length + 1) / 2 = (r.length + 1) / 2 + 1 := by simp only [List.length_cons]; omega
    rw [this, List.range_succ_eq_map, List.map_cons, List.map_map, pairUp, pairUp_eq r]
    congr 1
end Go.Kx
