/-
  What is handed in, opened: a reading of data gives values. What is handed in, opened: matrices and vectors of this program. What is handed in, opened: arguments that are structs or integers. The laws' Long: whatever is not long is small. The laws' Long for vectors and matrices Matrices with their bounds; the algebra of matrices: plain.
-/
import Derived.Test.YtgghedhmjhaieaaGreatG2
import Derived.ProofKit
import Derived.OpenShut
import Derived.Deep.Slices
import Derived.Test.YtgghedhmjhaieaaGreatG8
set_option linter.unusedVariables false
namespace Go.Kx
open Go Go.RowKit Go.ChangeShapes Go.WideShapes

theorem list_of {β : Type} {p : Nat → β → Prop} : ∀ n, (∀ i, i < n → ∃ y, p i y) → ∃ ys : List β, ys.length = n ∧ ∀ i y, ys[i]? = some y → p i y
  | 0, _ => ⟨[], rfl, fun i y h => by simp at h⟩
  | n + 1, h => by
    obtain ⟨ys, hl, hy⟩ := list_of n fun i hi => h i (by omega)
    obtain ⟨y, hp⟩ := h n (by omega)
    refine ⟨ys ++ [y], by simp [hl], fun i z hz => ?_⟩
    rcases Nat.lt_or_ge i ys.length with hi | hi
    · rw [List.getElem?_append_left hi] at hz; exact hy i z hz
    · rw [List.getElem?_append_right hi] at hz
      cases hk : i - ys.length with
      | zero => rw [hk] at hz; simp at hz; subst hz; rw [show i = n by omega]; exact hp
      | succ k => rw [hk] at hz; simp at hz

section
variable {H : Type} {enc : TypeId × Value → H} {P : Program} {W : World}
/-- whatever reads as data of type t is a value that stands for something; Z: how the two go together -/
def Opn (enc : TypeId × Value → H) (P : Program) (W : World) {α : Type} (E : ER α) (t : TypeId) (Z : DataW H → α → Prop) : Prop :=
  ∀ (fuel : Nat) (cs : List Value) (x : DataW H × List MemPlace), DataW.trod enc P W 0 (fun _ => true) true fuel t cs = some x → ∃ e a, e.cells.toList = cs ∧ E.R (fun _ => True) W e a ∧ Z x.1 a

def ZL {α : Type} (Z : DataW H → α → Prop) (d : DataW H) (l : List α) : Prop :=
  (d = .nil ∧ l = []) ∨ ∃ elems spare, d = .slice elems spare ∧ elems.length = l.length ∧ ∀ (i : Nat) d' x, elems[i]? = some d' → l[i]? = some x → Z d' x

theorem Opn.slice {α : Type} {E : ER α} {t e : TypeId} {Z : DataW H → α → Prop} (hsz : 0 < E.sz) (ht : P.underlying t = some (.slice e)) (hc : P.cellsOf e = E.sz) (h : Opn enc P W E e Z) : Opn enc P W (RL E hsz) t (ZL Z) := by
  intro fuel cs x hx
  rcases Deep.open_slice ht hx with ⟨rfl, rfl⟩ | ⟨a, len, cap, m, n, D, Pl, rfl, _, hl, hcap, hm, rfl, hel⟩
  · exact ⟨.slice none 0 0, [], rfl, RL.nil, .inl ⟨rfl, rfl⟩⟩
  · have hlm : len ≤ m := by rw [hm]; simp; exact hl
    obtain ⟨ys, hyl, hys⟩ := list_of (p := fun i (y : Value × α) => E.R (fun _ => True) W y.1 y.2 ∧ (∀ j u, y.1.cells[j]? = some u → W.cell? ((a.add (i * E.sz)).add j) = some u) ∧ Z (D i) y.2) len fun i hi => by
      obtain ⟨cs', h1, h2⟩ := hel i (by omega)
      rw [hc] at h1
      obtain ⟨_, hlen, hcell⟩ := World.cells?_some h1
      obtain ⟨e, x, he, hR, hZ⟩ := h n cs' _ h2
      refine ⟨(e, x), hR, fun j u hu => ?_, hZ⟩
      have hj : j < E.sz := by
        rcases Nat.lt_or_ge j e.cells.size with h | h
        · rw [← hlen, ← he]; simpa using h
        · rw [Array.getElem?_eq_none h] at hu; cases hu
      rw [hcell j hj, ← he]; simpa using hu
    have hels : Els E (fun _ => True) W (ys.map (·.1)) (ys.map (·.2)) := by
      refine ⟨by simp, fun i e x he hx => ?_⟩
      rw [List.getElem?_map] at he hx
      cases hy : ys[i]? with
      | none => rw [hy] at he; cases he
      | some y => rw [hy] at he hx; cases he; cases hx; exact (hys i y hy).1
    refine ⟨.slice (some a) len cap, ys.map (·.2), rfl, ⟨ys.map (·.1), hels, some a, cap, by simp [hyl], by simp [hyl]; exact hl, by simp [hyl]; simp only [maxLen] at hcap; omega, by rw [cellsOf_length _ hels.sz]; simp, fun _ => ⟨a, rfl, trivial, fun j u hu => ?_⟩⟩, .inr ⟨_, _, rfl, by simp [hyl], fun i d' x hd hx => ?_⟩⟩
    · have hjl : j < len * E.sz := by
        rcases Nat.lt_or_ge j (len * E.sz) with h | h
        · exact h
        · rw [List.getElem?_eq_none (by rw [cellsOf_length _ hels.sz]; simpa [hyl] using h)] at hu; cases hu
      have hq : j / E.sz < len := (Nat.div_lt_iff_lt_mul hsz).2 hjl
      have hr : j % E.sz < E.sz := Nat.mod_lt _ hsz
      have hjd : (j / E.sz) * E.sz + j % E.sz = j := by rw [Nat.mul_comm]; exact Nat.div_add_mod j E.sz
      obtain ⟨y, hy⟩ : ∃ y, ys[j / E.sz]? = some y := ⟨_, List.getElem?_eq_getElem (by rw [hyl]; exact hq)⟩
      have hg := cellsOf_get (ys.map (·.1)) (j / E.sz) (j % E.sz) y.1 hels.sz (by rw [List.getElem?_map, hy]; rfl) hr
      rw [hjd, hu] at hg
      have := (hys _ y hy).2.1 (j % E.sz) u hg.symm
      rw [add_add, hjd] at this
      exact this
    · rw [List.getElem?_map] at hx
      cases hy : ys[i]? with
      | none => rw [hy] at hx; cases hx
      | some y =>
        rw [hy] at hx; cases hx
        have hi : i < len := by
          rcases Nat.lt_or_ge i ys.length with h | h
          · omega
          · rw [List.getElem?_eq_none h] at hy; cases hy
        rw [List.getElem?_map, List.getElem?_range hi] at hd
        cases hd
        exact (hys i y hy).2.2
theorem Opn.mono {α : Type} {E : ER α} {t : TypeId} {Z Z' : DataW H → α → Prop} (h : Opn enc P W E t Z) (hz : ∀ d a, Z d a → Z' d a) : Opn enc P W E t Z' := fun fuel cs x hx => by
  obtain ⟨e, a, h1, h2, h3⟩ := h fuel cs x hx
  exact ⟨e, a, h1, h2, hz _ _ h3⟩
theorem wf_bd {k : IntKind} {n : Int} (h : (Lit.int k n).wf = true) : k.min ≤ n ∧ n ≤ k.max := by
  simpa [Lit.wf] using h
theorem opn_int {t : TypeId} {k : IntKind} (ht : P.underlying t = some (.int k)) : Opn enc P W (eInt k) t (fun _ _ => True) := by
  intro fuel cs x hx
  obtain ⟨n, rfl, rfl, hw⟩ := DataW.trod_int ht hx
  exact ⟨.int k n, n, rfl, ⟨rfl, wf_bd hw⟩, trivial⟩
theorem opn_u32 {t : TypeId} (ht : P.underlying t = some (.int .u32)) : Opn enc P W eU32 t (fun _ _ => True) := by
  intro fuel cs x hx
  obtain ⟨n, rfl, rfl, hw⟩ := DataW.trod_int ht hx
  have := wf_bd hw
  simp [IntKind.min, IntKind.max, IntKind.signed, IntKind.bits] at this
  exact ⟨.int .u32 n, n.toNat, rfl, ⟨by rw [Int.toNat_of_nonneg this.1], by omega⟩, trivial⟩
def sh2 (P : Program) (t : TypeId) : Option ((TypeId × Nat) × (TypeId × Nat)) :=
  match P.underlying t with
  | some (.struct fs) => match fs.toList with
    | [f0, f1] => some ((f0.type, f0.offset), (f1.type, f1.offset))
    | _ => none
  | _ => none
theorem sh2_open {t t0 t1 : TypeId} {o0 o1 fuel : Nat} {cs : List Value} {x : DataW H × List MemPlace} (hs : sh2 P t = some ((t0, o0), (t1, o1))) (hx : DataW.trod enc P W 0 (fun _ => true) true fuel t cs = some x) :
    ∃ y0 y1 n, x = (.agg [y0.1, y1.1], y0.2 ++ y1.2) ∧ cs.length = P.cellsOf t ∧ DataW.trod enc P W 0 (fun _ => true) true n t0 ((cs.drop o0).take (P.cellsOf t0)) = some y0 ∧ DataW.trod enc P W 0 (fun _ => true) true n t1 ((cs.drop o1).take (P.cellsOf t1)) = some y1 := by
  unfold sh2 at hs
  split at hs
  · rename_i fs hu
    split at hs
    · rename_i f0 f1 hl
      simp only [Option.some.injEq, Prod.mk.injEq] at hs
      obtain ⟨⟨rfl, rfl⟩, rfl, rfl⟩ := hs
      have : fs = #[f0, f1] := by apply Array.toList_inj.1; simpa using hl
      subst this
      exact trod_struct2 hu hx
    · cases hs
  · cases hs
theorem opn_Z {t tb tw te : TypeId} (hs : sh2 P t = some ((tb, 0), (tw, 1))) (hb : P.underlying tb = some .bool) (hcb : P.cellsOf tb = 1) (hcw : P.cellsOf tw = 1) (hct : P.cellsOf t = 2) (hw : P.underlying tw = some (.slice te)) (hce : P.cellsOf te = 1) (he : P.underlying te = some (.int .u32)) : Opn enc P W eZ t (fun _ _ => True) := by
  intro fuel cs x hx
  obtain ⟨y0, y1, n, rfl, hl, h0, h1⟩ := sh2_open hs hx
  rw [hcb] at h0
  rw [hcw] at h1
  rw [hct] at hl
  obtain ⟨c0, c1, rfl⟩ : ∃ c0 c1, cs = [c0, c1] := by
    match cs, hl with
    | [c0, c1], _ => exact ⟨c0, c1, rfl⟩
  obtain ⟨b, hb', _⟩ := DataW.trod_bool hb h0
  simp at hb'
  subst hb'
  obtain ⟨e, l, he', hR, _⟩ := (Opn.slice (Z := fun _ _ => True) (E := eU32) (by decide) hw hce (opn_u32 he)) n _ _ h1
  obtain ⟨a, c, rfl, _⟩ := RL.len hR
  simp [Value.cells] at he'
  subst he'
  exact ⟨.agg #[.bool b, .slice a l.length c], ⟨b, l⟩, rfl, ⟨_, rfl, hR⟩, trivial⟩
theorem opn_Q {t tz : TypeId} (hs : sh2 P t = some ((tz, 0), (tz, 2))) (hcz : P.cellsOf tz = 2) (hct : P.cellsOf t = 4) (hz : Opn enc P W eZ tz (fun _ _ => True)) : Opn enc P W eQ t (fun _ _ => True) := by
  intro fuel cs x hx
  obtain ⟨y0, y1, n, rfl, hl, h0, h1⟩ := sh2_open hs hx
  rw [hcz] at h0 h1
  rw [hct] at hl
  obtain ⟨c0, c1, c2, c3, rfl⟩ : ∃ c0 c1 c2 c3, cs = [c0, c1, c2, c3] := by
    match cs, hl with
    | [c0, c1, c2, c3], _ => exact ⟨c0, c1, c2, c3, rfl⟩
  obtain ⟨e, z, he, ⟨s, rfl, hs⟩, _⟩ := hz n _ _ h0
  obtain ⟨e', z', he', ⟨s', rfl, hs'⟩, _⟩ := hz n _ _ h1
  simp [Value.cells] at he he'
  obtain ⟨rfl, rfl⟩ := he
  obtain ⟨rfl, rfl⟩ := he'
  exact ⟨_, ⟨z, z'⟩, rfl, ⟨s, s', rfl, hs, hs'⟩, trivial⟩
/-- an argument that is a slice -/
theorem Opn.arg {α : Type} {E : ER α} {hsz : 0 < E.sz} {t e : TypeId} {Z : DataW H → List α → Prop} {r : Reach} {b0 : Nat} {v : Value} {d : DataW H} {ps : List MemPlace} (ht : P.underlying t = some (.slice e)) (h : Opn enc P W (RL E hsz) t Z)
    (hval : Value.okWide P W r b0 t v) (hd : DataW.Trod enc P W 0 (fun _ => true) true t v d ps) : ∃ l, (RL E hsz).R (fun _ => True) W v l ∧ Z d l := by
  obtain ⟨a, n, c, rfl⟩ := okWide_slice ht hval
  obtain ⟨fuel, hf⟩ := hd
  obtain ⟨e', l, h1, h2, h3⟩ := h fuel _ _ hf
  obtain ⟨a', c', rfl, _⟩ := RL.len h2
  simp [Value.cells] at h1
  obtain ⟨rfl, rfl, rfl⟩ := h1
  exact ⟨l, h2, h3⟩
end
end Go.Kx

namespace Go.Proofs.YtgghedhmjhaieaaGreat
open Go Go.Kx Go.RowKit
section
variable {H : Type} {enc : TypeId × Value → H} {W : World}
theorem opnQ : Opn enc Tryz.prog W eQ 28 (fun _ _ => True) := opn_Q (tz := 26) (by kernel_rfl) (by kernel_rfl) (by kernel_rfl) (opn_Z (tb := 4) (tw := 24) (te := 89) (by kernel_rfl) un_bool (by kernel_rfl) (by kernel_rfl) (by kernel_rfl) un_W (by kernel_rfl) un_u32)
theorem opnV : Opn enc Tryz.prog W eV 23 (fun _ _ => True) := (Opn.slice (by decide) un_V (by kernel_rfl) opnQ).mono fun _ _ _ => trivial
theorem opnM : Opn enc Tryz.prog W eM 22 (fun _ _ => True) := (Opn.slice (by decide) un_M (by kernel_rfl) opnV).mono fun _ _ _ => trivial
theorem opnI : Opn enc Tryz.prog W eI 53 (ZL fun _ _ => True) := Opn.slice (by decide) un_L (by kernel_rfl) (opn_int un_i64)
theorem opnII : Opn enc Tryz.prog W eII 54 (ZL (ZL fun _ _ => True)) := Opn.slice (by decide) un_LL (by kernel_rfl) opnI
end
end Go.Proofs.YtgghedhmjhaieaaGreat

namespace Go.Kx
open Go Go.RowKit Go.ChangeShapes Go.WideShapes
section
variable {H : Type} {enc : TypeId × Value → H} {P : Program} {W : World}
theorem Opn.argS {α : Type} {E : ER α} {t : TypeId} {fs : Array Field} {Z : DataW H → α → Prop} {r : Reach} {b0 : Nat} {v : Value} {d : DataW H} {ps : List MemPlace} (hA : E.isA = true) (ht : P.underlying t = some (.struct fs)) (h : Opn enc P W E t Z)
    (hval : Value.okWide P W r b0 t v) (hd : DataW.Trod enc P W 0 (fun _ => true) true t v d ps) : ∃ a, E.R (fun _ => True) W v a ∧ Z d a := by
  obtain ⟨cs, rfl, _⟩ := okWide_struct ht hval
  obtain ⟨fuel, hf⟩ := hd
  obtain ⟨e', a, h1, h2, h3⟩ := h fuel _ _ hf
  have hs := shpA hA h2
  have hc : e'.cells = cs := Array.toList_inj.1 h1
  rw [hc] at hs
  subst hs
  exact ⟨a, h2, h3⟩
theorem Opn.argI {t : TypeId} {k : IntKind} {r : Reach} {b0 : Nat} {v : Value} {d : DataW H} {ps : List MemPlace} (ht : P.underlying t = some (.int k))
    (hval : Value.okWide P W r b0 t v) (hd : DataW.Trod enc P W 0 (fun _ => true) true t v d ps) : ∃ n, v = .int k n ∧ k.min ≤ n ∧ n ≤ k.max := by
  obtain ⟨n, rfl⟩ := okWide_int ht hval
  obtain ⟨fuel, hf⟩ := hd
  obtain ⟨m, hm, _, hw⟩ := DataW.trod_int ht hf
  simp [Value.cells] at hm
  subst hm
  exact ⟨_, rfl, wf_bd hw⟩
end
end Go.Kx

namespace Go.Kx
open Go Go.RowKit
section
variable {P : Program} {σ : Env} {w : World} {d : Option Tmp} {ty : TypeId} {pos : String} {af : Array Edge} {g : Option (Nat × Bool)}
theorem v_faP {s : TypeId} {x : Operand} {i off : Nat} {p : Addr} (hf : fldOf P s i = some off) (hx : ev σ x = some (.pointer (some p))) : Vl P ⟨d, .fieldAddr s x i, ty, pos, af, g⟩ σ w (.pointer (some (p.add off))) := by
  refine ⟨(by intro _ h; cases h), fun ρ hρ => ?_⟩
  have h1 := hρ x _ (by simp [Op.operands]) hx
  unfold fldOf at hf
  split at hf
  · rename_i fs hfs
    split at hf
    · rename_i f hff
      split at hf
      · rename_i j hj
        cases hz : Nat.beq j.size 0 with
        | true => rw [hz] at hf; cases hf
        | false =>
          rw [hz] at hf
          simp only [cond_false, Option.some.injEq] at hf
          have hz' : j.size ≠ 0 := fun e => by rw [e] at hz; cases hz
          simp [execOp, h1, Instr.fieldAt, run_underlying hfs, hff, Instr.sureAddr, fieldPlace, sizeOf, typeInfo, hj, hz', hf]
      · cases hf
    · cases hf
  · cases hf
end
theorem PtrTo.zw {S : Nat → Prop} {w : World} {p : Addr} {z : ZV} (h : PtrTo eZ S w p z) : PtrTo eW S w (p.add 1) z.w := by
  obtain ⟨e, ⟨s, rfl, hs⟩, h2, h3⟩ := h
  obtain ⟨a, c, hv, _⟩ := RL.len hs
  refine ⟨s, hs, by rw [block_add]; exact h2, fun j u hu => ?_⟩
  rw [hv] at hu
  have hj : j = 0 := by
    cases j with
    | zero => rfl
    | succ j => simp [Value.cells] at hu
  subst hj
  rw [add_add]
  refine h3 1 u ?_
  rw [hv]; simpa [Value.cells] using hu
theorem PtrTo.qn {S : Nat → Prop} {w : World} {p : Addr} {q : QV} (h : PtrTo eQ S w p q) : PtrTo eZ S w (p.add 0) q.num := by
  obtain ⟨e, ⟨s, t, rfl, hs, ht⟩, h2, h3⟩ := h
  refine ⟨.agg #[.bool q.num.neg, s], ⟨s, rfl, hs⟩, by rw [block_add]; exact h2, fun j u hu => ?_⟩
  rw [add_add]
  refine h3 _ u ?_
  match j with
  | 0 => simpa [Value.cells] using hu
  | 1 => simpa [Value.cells] using hu
  | j + 2 => simp [Value.cells] at hu
theorem PtrTo.qd {S : Nat → Prop} {w : World} {p : Addr} {q : QV} (h : PtrTo eQ S w p q) : PtrTo eZ S w (p.add 2) q.den := by
  obtain ⟨e, ⟨s, t, rfl, hs, ht⟩, h2, h3⟩ := h
  refine ⟨.agg #[.bool q.den.neg, t], ⟨t, rfl, ht⟩, by rw [block_add]; exact h2, fun j u hu => ?_⟩
  rw [add_add]
  refine h3 _ u ?_
  match j with
  | 0 => simpa [Value.cells] using hu
  | 1 => simpa [Value.cells] using hu
  | j + 2 => simp [Value.cells] at hu
section
variable {P : Program} {ro : Option Nat} {N : Nat} {ds : List Deferred} {ops : Array Oper} {K : Env → World → Prop} {rest : List Oper} {σ : Env} {w : World} {d : Tmp} {ty : TypeId} {pos : String} {af : Array Edge}
theorem WL.faP {s : TypeId} {x : Operand} {i off : Nat} {p : Addr} (hf : fldOf P s i = some off) (hd : Nat.blt d N = true) (hx : ev σ x = some (.pointer (some p))) (k : WL P ro N ds ops K rest ((d, .pointer (some (p.add off))) :: σ) w) :
    WL P ro N ds ops K (⟨some d, .fieldAddr s x i, ty, pos, af, none⟩ :: rest) σ w := WL.vl rfl hd (v_faP hf hx) k
end
section
variable {P : Program} {σ : Env} {w : World} {d : Option Tmp} {ty : TypeId} {pos : String} {af : Array Edge} {g : Option (Nat × Bool)} {S : Nat → Prop}
theorem ob_qn {s : TypeId} {x : Operand} {i : Nat} {u : Value} {q : QV} (hf : fldOf P s i = some 0) (hx : ev σ x = some u) (hp : Ptr eQ S q u w) :
    Gv P ⟨d, .fieldAddr s x i, ty, pos, af, g⟩ σ w fun v' w' => Ext w w' ∧ Sp.ok (.inr (Ptr eZ S q.num)) v' w' := by
  obtain ⟨p, rfl, hp⟩ := hp
  exact (v_faP hf hx).gv.mono fun v' w' ⟨e1, e2⟩ => by subst e2; exact ⟨Ext.refl _, fun w'' e => ⟨_, e1, hp.qn.ext e⟩⟩
theorem ob_qd {s : TypeId} {x : Operand} {i : Nat} {u : Value} {q : QV} (hf : fldOf P s i = some 2) (hx : ev σ x = some u) (hp : Ptr eQ S q u w) :
    Gv P ⟨d, .fieldAddr s x i, ty, pos, af, g⟩ σ w fun v' w' => Ext w w' ∧ Sp.ok (.inr (Ptr eZ S q.den)) v' w' := by
  obtain ⟨p, rfl, hp⟩ := hp
  exact (v_faP hf hx).gv.mono fun v' w' ⟨e1, e2⟩ => by subst e2; exact ⟨Ext.refl _, fun w'' e => ⟨_, e1, hp.qd.ext e⟩⟩
end
theorem ob_zw {P : Program} {σ : Env} {w : World} {d : Option Tmp} {ty : TypeId} {pos : String} {af : Array Edge} {g : Option (Nat × Bool)} {S : Nat → Prop} {s : TypeId} {x : Operand} {i : Nat} {u : Value} {z : ZV} (hf : fldOf P s i = some 1) (hx : ev σ x = some u) (hp : Ptr eZ S z u w) :
    Gv P ⟨d, .fieldAddr s x i, ty, pos, af, g⟩ σ w fun v' w' => Ext w w' ∧ Sp.ok (.inr (Ptr eW S z.w)) v' w' := by
  obtain ⟨p, rfl, hp⟩ := hp
  exact (v_faP hf hx).gv.mono fun v' w' ⟨e1, e2⟩ => by subst e2; exact ⟨Ext.refl _, fun w'' e => ⟨_, e1, hp.zw.ext e⟩⟩
/-- a bool that tells, if false, that Q holds -/
@[reducible] def Lng (Q : Prop) : Value → World → Prop := fun v _ => ∃ b, v = .bool b ∧ (b = false → Q)
end Go.Kx
namespace Go.Proofs.YtgghedhmjhaieaaGreat
open Go Go.Kx Go.RowKit

theorem un_Zs : Tryz.prog.underlying 78 = some (.slice 26) := by kernel_rfl
theorem bsl_Zs2 {x y x' y' : Value} : bslOf Tryz.prog 78 2 [(0, .agg #[x, y]), (1, .agg #[x', y'])] = some (26, #[x, y, x', y']) := by kernel_rfl
abbrev eZs : ER (List ZV) := RL eZ
def lg1 (l : List ZV) : Bool := l.any fun z => decide (12 < z.w.length)

theorem E_law01_Long : Ent Tryz.prog 37 := ent_of Tryz.func37 (by kernel_rfl) rfl
theorem law01_Long_c {S : Nat → Prop} {w : World} {v : Value} {l : List ZV} (h : eZs.R S w v l) : CR Tryz.prog 37 #[v] w (Is (.bool (lg1 l))) := by
  obtain ⟨_, _, _, _, hl⟩ := RL.len h
  refine enter Tryz.func37 rfl Tryz.ntmps37 rfl ?_
  refine .seq (.region (.asg rfl rfl (.nil (.seq (.seq (.region (.asg rfl rfl (.nil ?_))))))))
  refine .block (.loop (α := Nat) (fun i => [(0, v), (3, .int .i64 (i : Nat))]) (fun i W => W = w ∧ i ≤ l.length ∧ ∀ j z, j < i → l[j]? = some z → ¬ 12 < z.w.length) (fun i => l.length - i) 0 ?_ ?_ ?_)
  · exact look_cons rfl (look_cons rfl look_nil)
  · exact ⟨rfl, Nat.zero_le _, fun j z hj => absurd hj (Nat.not_lt_zero _)⟩
  · rintro i W ⟨rfl, hi, hall⟩
    refine .seq (.seq (.region (.mv rfl rfl (.mv rfl rfl (.lenR un_Zs rfl rfl h ?_)))))
    by_cases hlt : i < l.length
    · have hyy := List.getElem?_eq_getElem hlt
      generalize l[i] = z at hyy
      refine .lssT rfl rfl rfl (by omega) (.nil (.condT rfl (.skip (.seq (.block (.seq (.region (.mv rfl rfl (.mv rfl rfl ?_)))))))))
      refine .ixN (i := i) un_Zs ty_Z rfl rfl h rfl hyy fun p hp => .faP fld_Z1 rfl rfl (.ldE (E := eW) ty_W rfl rfl hp.zw fun e he => .lenR un_W rfl rfl he ?_)
      by_cases hz : 12 < z.w.length
      · refine .gtrT rfl rfl rfl (by omega) (.nil (.condT rfl (.seq (.region (.asg rfl rfl (.nil (.ret ?_)))))))
        refine .plain [_] Tryz.results37 ⟨rfl, trivial⟩ ⟨.refl _, isB ?_⟩
        symm
        exact List.any_eq_true.2 ⟨z, List.mem_iff_getElem?.2 ⟨i, hyy⟩, decide_eq_true hz⟩
      · refine .gtrF rfl rfl rfl (by omega) (.nil (.condF rfl (.skip (.region (.mv rfl rfl (.add rfl rfl rfl (.asg rfl rfl (.nil ?_))))))))
        rw [wI (by omega)]
        refine ⟨rfl, i + 1, look_cons rfl (look_cons rfl look_nil), ⟨rfl, hlt, fun j z' hj hz' => ?_⟩, by show l.length - (i + 1) < l.length - i; omega⟩
        by_cases e : j = i
        · subst e; rw [hyy] at hz'; cases hz'; exact hz
        · exact hall j z' (by omega) hz'
    · refine .lssF rfl rfl rfl (by omega) (.nil (.condF rfl (.exit (.seq (.region (.asg rfl rfl (.nil (.ret ?_))))))))
      refine .plain [_] Tryz.results37 ⟨rfl, trivial⟩ ⟨.refl _, isB ?_⟩
      symm
      refine List.any_eq_false.2 fun z hz => ?_
      obtain ⟨j, hj⟩ := List.mem_iff_getElem?.1 hz
      have hjl : j < l.length := by
        rcases Nat.lt_or_ge j l.length with h | h
        · exact h
        · rw [List.getElem?_eq_none h] at hj; cases hj
      have := hall j z (by omega) hj
      simpa using this

theorem ob_zs2 {S : Nat → Prop} {w : World} {σ : Env} {d : Option Tmp} {ty : TypeId} {pos : String} {af : Array Edge} {g : Option (Nat × Bool)} {x y : Operand} {u v : Value} {a b : ZV} (up : Up S w) (hu : eZ.R S w u a) (hv : eZ.R S w v b) (hx : ev σ x = some u := by rfl) (hy : ev σ y = some v := by rfl) :
    Gv Tryz.prog ⟨d, .buildSlice 78 2 #[(0, x), (1, y)], ty, pos, af, g⟩ σ w fun v' w' => Ext w w' ∧ Sp.ok (.inr (eZs.at S [a, b])) v' w' := by
  have hu' := hu
  have hv' := hv
  obtain ⟨s, rfl, hs⟩ := hu'
  obtain ⟨t, rfl, ht⟩ := hv'
  refine (g_bsl (ps := [(0, x), (1, y)]) [(0, .agg #[.bool a.neg, s]), (1, .agg #[.bool b.neg, t])] (by simp [evp, hx, hy]) bsl_Zs2).mono fun v' w' ⟨b2, hv', n2⟩ => ⟨n2.1, fun w'' e => ?_⟩
  have hz : eZs.R S w' (.slice (some ⟨b2, 0, none⟩) 2 2) [a, b] := by
    refine RL.ofBlk (l := [a, b]) (es := [.agg #[.bool a.neg, s], .agg #[.bool b.neg, t]]) n2.2.1 (up b2 (by have := n2.2.2.1; omega)) (Els.snoc (Els.snoc Els.nil (ER.ext eZ hu n2.1)) (ER.ext eZ hv n2.1)) (fun j u hu => ?_) (Nat.le_refl _) (by simp)
    simpa [cellsOf, Value.cells] using hu
  rw [hv']
  exact ER.ext eZs hz e

theorem E_law02_Long : Ent Tryz.prog 7 := ent_of Tryz.func7 (by kernel_rfl) rfl
theorem law02_Long_c {S : Nat → Prop} {w : World} {v : Value} {l : List QV} (up : Up S w) (h : eV.R S w v l) : CR Tryz.prog 7 #[v] w (Lng (∀ q ∈ l, qok 6 q)) := by
  obtain ⟨_, _, _, _, hl⟩ := RL.len h
  refine enter Tryz.func7 rfl Tryz.ntmps7 rfl ?_
  refine .seq (.region (.asg rfl rfl (.nil (.seq (.seq (.region (.asg rfl rfl (.nil ?_))))))))
  refine .block (.loop (α := Nat) (fun i => [(0, v), (3, .int .i64 (i : Nat))]) (fun i W => Ext w W ∧ i ≤ l.length ∧ ∀ j q, j < i → l[j]? = some q → qok 6 q) (fun i => l.length - i) 0 ?_ ?_ ?_)
  · exact look_cons rfl (look_cons rfl look_nil)
  · exact ⟨.refl _, Nat.zero_le _, fun j q hj => absurd hj (Nat.not_lt_zero _)⟩
  · rintro i W ⟨hW, hi, hall⟩
    have hW' := h.ext hW
    refine .seq (.seq (.region (.mv rfl rfl (.mv rfl rfl (.lenR un_V rfl rfl hW' ?_)))))
    by_cases hlt : i < l.length
    · have hyy := List.getElem?_eq_getElem hlt
      generalize l[i] = q at hyy
      refine .lssT rfl rfl rfl (by omega) (.nil (.condT rfl (.skip (.seq (.block (.seq ?_))))))
      have htrue : ∀ {σ : Env} {W3 : World}, Ext w W3 → Kx.look σ 2 = some (.bool true) → Leave Tryz.prog Tryz.f7 42 (fun v w' => Ext w w' ∧ Lng (∀ q ∈ l, qok 6 q) v w') σ [] W3 := by
        intro σ W3 hW3 hl
        exact .plain [_] Tryz.results7 ⟨hl, trivial⟩ ⟨hW3, true, rfl, fun h => by cases h⟩
      have upW := up.ext hW.size
      cases hb : lg1 [q.num, q.den] with
      | true =>
        refine .par follows 25 [.inl _, .inl _, .inr (Ptr eQ S q), .inr (Ptr eZ S q.num), .inr (eZ.at S q.num), .inl _, .inl _, .inr (Ptr eQ S q), .inr (Ptr eZ S q.den), .inr (eZ.at S q.den), .inr (eZs.at S [q.num, q.den]), .inl (.bool true), .inl (.bool true), .inl (undef), .inl (undef), .inl (undef), .inl (undef), .inl (undef), .inl (undef), .inl (undef), .inl (undef), .inl (.bool true), .inl (.bool true), .inl (undef), .inl (undef)] [[], [], [(10, 0), (11, 1)], [(12, 2)], [(13, 3)], [], [], [(15, 5), (16, 6)], [(17, 7)], [(18, 8)], [(14, 4), (19, 9)], [(20, 10)], [(21, 11)], [(22, 12)], [(22, 12)], [(23, 13), (24, 14), (22, 12)], [(25, 15), (22, 12)], [(26, 16), (22, 12)], [(27, 17), (22, 12)], [(28, 18), (22, 12)], [(29, 19), (22, 12)], [(22, 12), (30, 20)], [(31, 21)], [(32, 22)], [(32, 22)]] (by kernel_rfl) ⟨
          fun w e => (v_mv rfl).ob,
          fun w e => (v_mv rfl).ob,
          fun w e => ob_ixN un_V ty_Q rfl (hW'.ext e) rfl hyy,
          fun w e x hx => ob_qn fld_Q0 rfl hx,
          fun w e x hx => ob_ldE ty_Z rfl hx,
          fun w e => (v_mv rfl).ob,
          fun w e => (v_mv rfl).ob,
          fun w e => ob_ixN un_V ty_Q rfl (hW'.ext e) rfl hyy,
          fun w e x hx => ob_qd fld_Q1 rfl hx,
          fun w e x hx => ob_ldE ty_Z rfl hx,
          fun w e x hx y hy => ob_zs2 (upW.ext e.size) hx hy,
          fun w e x hx => (g_call _ E_law01_Long rfl (by have := law01_Long_c hx; rw [hb] at this; exact this)).obIs,
          fun w e => (v_mv rfl).ob,
          fun w e => rfl,
          fun w e => rfl,
          fun w e => rfl,
          fun w e => rfl,
          fun w e => rfl,
          fun w e => rfl,
          fun w e => rfl,
          fun w e => rfl,
          fun w e => (v_pickT rfl rfl).ob,
          fun w e => (v_mv rfl).ob,
          fun w e => rfl,
          fun w e => rfl,
          trivial⟩ ?_
        intro W1 e1 x2 _ x3 _ x4 _ x7 _ x8 _ x9 _ x10 _
        have hW1 := hW.trans e1
        have h1 := h.ext hW1
        refine .gs rfl rfl rfl rfl rfl (.gs rfl rfl rfl rfl rfl (.gs rfl rfl rfl rfl rfl (.gs rfl rfl rfl rfl rfl (.gs rfl rfl rfl rfl rfl (.gs rfl rfl rfl rfl rfl (.pick rfl rfl rfl (.nil ?_)))))))
        exact .condT rfl (.seq (.region (.asg rfl rfl (.nil (.ret (htrue hW1 rfl))))))
      | false =>
        by_cases hn : q.num.w.length ≤ 6
        · refine .par follows 25 [.inl _, .inl _, .inr (Ptr eQ S q), .inr (Ptr eZ S q.num), .inr (eZ.at S q.num), .inl _, .inl _, .inr (Ptr eQ S q), .inr (Ptr eZ S q.den), .inr (eZ.at S q.den), .inr (eZs.at S [q.num, q.den]), .inl (.bool false), .inl (.bool false), .inl _, .inl _, .inr (Ptr eQ S q), .inr (Ptr eZ S q.num), .inr (Ptr eW S q.num.w), .inr (eW.at S q.num.w), .inl (.int .i64 q.num.w.length), .inl (.bool false), .inl (.bool false), .inl (.bool false), .inl _, .inl _] [[], [], [(10, 0), (11, 1)], [(12, 2)], [(13, 3)], [], [], [(15, 5), (16, 6)], [(17, 7)], [(18, 8)], [(14, 4), (19, 9)], [(20, 10)], [(21, 11)], [(22, 12)], [(22, 12)], [(23, 13), (24, 14), (22, 12)], [(25, 15), (22, 12)], [(26, 16), (22, 12)], [(27, 17), (22, 12)], [(28, 18), (22, 12)], [(29, 19), (22, 12)], [(22, 12), (30, 20)], [(31, 21)], [(32, 22)], [(32, 22)]] (by kernel_rfl) ⟨
            fun w e => (v_mv rfl).ob,
            fun w e => (v_mv rfl).ob,
            fun w e => ob_ixN un_V ty_Q rfl (hW'.ext e) rfl hyy,
            fun w e x hx => ob_qn fld_Q0 rfl hx,
            fun w e x hx => ob_ldE ty_Z rfl hx,
            fun w e => (v_mv rfl).ob,
            fun w e => (v_mv rfl).ob,
            fun w e => ob_ixN un_V ty_Q rfl (hW'.ext e) rfl hyy,
            fun w e x hx => ob_qd fld_Q1 rfl hx,
            fun w e x hx => ob_ldE ty_Z rfl hx,
            fun w e x hx y hy => ob_zs2 (upW.ext e.size) hx hy,
            fun w e x hx => (g_call _ E_law01_Long rfl (by have := law01_Long_c hx; rw [hb] at this; exact this)).obIs,
            fun w e => (v_mv rfl).ob,
            fun w e => (v_mv rfl).ob,
            fun w e => (v_mv rfl).ob,
            fun w e => ob_ixN un_V ty_Q rfl (hW'.ext e) rfl hyy,
            fun w e x hx => ob_qn fld_Q0 rfl hx,
            fun w e x hx => ob_zw fld_Z1 rfl hx,
            fun w e x hx => ob_ldE ty_W rfl hx,
            fun w e x hx => (v_lenR un_W rfl hx).ob,
            fun w e => ((v_gtr rfl rfl).eq (by rw [decide_eq_false (by omega)])).ob,
            fun w e => (v_pickF rfl rfl).ob,
            fun w e => (v_mv rfl).ob,
            fun w e => (v_mv rfl).ob,
            fun w e => (v_mv rfl).ob,
            trivial⟩ ?_
          intro W1 e1 x2 _ x3 _ x4 _ x7 _ x8 _ x9 _ x10 _ x15 _ x16 _ x17 _ x18 _
          have hW1 := hW.trans e1
          have h1 := h.ext hW1
          refine .gr rfl rfl rfl rfl ?_
          refine .ixN (i := i) un_V ty_Q rfl rfl h1 rfl hyy fun p' hp' => ?_
          refine .gr rfl rfl rfl rfl (.faP fld_Q1 rfl rfl (.gr rfl rfl rfl rfl (.faP fld_Z1 rfl rfl (.gr rfl rfl rfl rfl (.ldE (E := eW) ty_W rfl rfl hp'.qd.zw fun e' he' => .gr rfl rfl rfl rfl (.lenR un_W rfl rfl he' (.gr rfl rfl rfl rfl ?_)))))))
          by_cases hd : q.den.w.length ≤ 6
          · refine .gtrF rfl rfl rfl (by omega) (.pick rfl rfl rfl (.nil (.condF rfl (.skip (.region (.mv rfl rfl (.add rfl rfl rfl (.asg rfl rfl (.nil ?_)))))))))
            rw [wI (by omega)]
            refine ⟨rfl, i + 1, look_cons rfl (look_cons rfl look_nil), ⟨hW1, hlt, fun j q' hj hq' => ?_⟩, by show l.length - (i + 1) < l.length - i; omega⟩
            by_cases e : j = i
            · subst e; rw [hyy] at hq'; cases hq'; exact ⟨hn, hd⟩
            · exact hall j q' (by omega) hq'
          · refine .gtrT rfl rfl rfl (by omega) (.pick rfl rfl rfl (.nil ?_))
            exact .condT rfl (.seq (.region (.asg rfl rfl (.nil (.ret (htrue hW1 rfl))))))
        · refine .par follows 25 [.inl _, .inl _, .inr (Ptr eQ S q), .inr (Ptr eZ S q.num), .inr (eZ.at S q.num), .inl _, .inl _, .inr (Ptr eQ S q), .inr (Ptr eZ S q.den), .inr (eZ.at S q.den), .inr (eZs.at S [q.num, q.den]), .inl (.bool false), .inl (.bool false), .inl _, .inl _, .inr (Ptr eQ S q), .inr (Ptr eZ S q.num), .inr (Ptr eW S q.num.w), .inr (eW.at S q.num.w), .inl (.int .i64 q.num.w.length), .inl (.bool true), .inl (.bool true), .inl (.bool true), .inl (undef), .inl (undef)] [[], [], [(10, 0), (11, 1)], [(12, 2)], [(13, 3)], [], [], [(15, 5), (16, 6)], [(17, 7)], [(18, 8)], [(14, 4), (19, 9)], [(20, 10)], [(21, 11)], [(22, 12)], [(22, 12)], [(23, 13), (24, 14), (22, 12)], [(25, 15), (22, 12)], [(26, 16), (22, 12)], [(27, 17), (22, 12)], [(28, 18), (22, 12)], [(29, 19), (22, 12)], [(22, 12), (30, 20)], [(31, 21)], [(32, 22)], [(32, 22)]] (by kernel_rfl) ⟨
            fun w e => (v_mv rfl).ob,
            fun w e => (v_mv rfl).ob,
            fun w e => ob_ixN un_V ty_Q rfl (hW'.ext e) rfl hyy,
            fun w e x hx => ob_qn fld_Q0 rfl hx,
            fun w e x hx => ob_ldE ty_Z rfl hx,
            fun w e => (v_mv rfl).ob,
            fun w e => (v_mv rfl).ob,
            fun w e => ob_ixN un_V ty_Q rfl (hW'.ext e) rfl hyy,
            fun w e x hx => ob_qd fld_Q1 rfl hx,
            fun w e x hx => ob_ldE ty_Z rfl hx,
            fun w e x hx y hy => ob_zs2 (upW.ext e.size) hx hy,
            fun w e x hx => (g_call _ E_law01_Long rfl (by have := law01_Long_c hx; rw [hb] at this; exact this)).obIs,
            fun w e => (v_mv rfl).ob,
            fun w e => (v_mv rfl).ob,
            fun w e => (v_mv rfl).ob,
            fun w e => ob_ixN un_V ty_Q rfl (hW'.ext e) rfl hyy,
            fun w e x hx => ob_qn fld_Q0 rfl hx,
            fun w e x hx => ob_zw fld_Z1 rfl hx,
            fun w e x hx => ob_ldE ty_W rfl hx,
            fun w e x hx => (v_lenR un_W rfl hx).ob,
            fun w e => ((v_gtr rfl rfl).eq (by rw [decide_eq_true (by omega)])).ob,
            fun w e => (v_pickF rfl rfl).ob,
            fun w e => (v_mv rfl).ob,
            fun w e => rfl,
            fun w e => rfl,
            trivial⟩ ?_
          intro W1 e1 x2 _ x3 _ x4 _ x7 _ x8 _ x9 _ x10 _ x15 _ x16 _ x17 _ x18 _
          have hW1 := hW.trans e1
          have h1 := h.ext hW1
          refine .gs rfl rfl rfl rfl rfl (.gs rfl rfl rfl rfl rfl (.gs rfl rfl rfl rfl rfl (.gs rfl rfl rfl rfl rfl (.gs rfl rfl rfl rfl rfl (.gs rfl rfl rfl rfl rfl (.pick rfl rfl rfl (.nil ?_)))))))
          exact .condT rfl (.seq (.region (.asg rfl rfl (.nil (.ret (htrue hW1 rfl))))))
    · refine .lssF rfl rfl rfl (by omega) (.nil (.condF rfl (.exit (.seq (.region (.asg rfl rfl (.nil (.ret ?_))))))))
      refine .plain [_] Tryz.results7 ⟨rfl, trivial⟩ ⟨hW, false, rfl, fun _ q hq => ?_⟩
      obtain ⟨j, hj⟩ := List.mem_iff_getElem?.1 hq
      have hjl : j < l.length := by
        rcases Nat.lt_or_ge j l.length with h | h
        · exact h
        · rw [List.getElem?_eq_none h] at hj; cases hj
      exact hall j q (by omega) hj
end Go.Proofs.YtgghedhmjhaieaaGreat

namespace Go.Proofs.YtgghedhmjhaieaaGreat
open Go Go.Kx Go.RowKit

theorem un_MM : Tryz.prog.underlying 47 = some (.slice 22) := by kernel_rfl
abbrev eMM : ER (List (List (List QV))) := RL eM
theorem mem_lt {α : Type} {l : List α} {j : Nat} {x : α} (h : l[j]? = some x) : j < l.length := by
  rcases Nat.lt_or_ge j l.length with h' | h'
  · exact h'
  · rw [List.getElem?_eq_none h'] at h; cases h
theorem eV_vk {S : Nat → Prop} {w : World} {v : Value} {a : List QV} {L : Nat} (h : eV.R S w v a) (hk : ∀ q ∈ a, qok L q) (hL : 1 ≤ L) : vk L a := by
  intro q hq
  obtain ⟨i, hi⟩ := List.mem_iff_getElem?.1 hq
  obtain ⟨es, he, _⟩ := h
  have hlt := mem_lt hi
  obtain ⟨s, t, _, hn, hd⟩ := he.2 i _ q (List.getElem?_eq_getElem (by rw [he.1]; exact hlt)) hi
  exact ⟨hk q hq, rsz_qval (eW_lt hn) (eW_lt hd) (hk q hq) hL⟩
theorem eM_mk {S : Nat → Prop} {w : World} {v : Value} {m : List (List QV)} {L : Nat} (h : eM.R S w v m) (hk : ∀ r ∈ m, ∀ q ∈ r, qok L q) (hL : 1 ≤ L) : mk_ L m := by
  intro r hr
  obtain ⟨i, hi⟩ := List.mem_iff_getElem?.1 hr
  obtain ⟨es, he, _⟩ := h
  have hlt := mem_lt hi
  exact eV_vk (he.2 i _ r (List.getElem?_eq_getElem (by rw [he.1]; exact hlt)) hi) (hk r hr) hL

def okV (r : List QV) : Prop := r.length ≤ 20 ∧ ∀ q ∈ r, qok 6 q
theorem E_law03_Long : Ent Tryz.prog 6 := ent_of Tryz.func6 (by kernel_rfl) rfl
theorem law03_Long_c {S : Nat → Prop} {w : World} {v : Value} {l : List (List QV)} (up : Up S w) (h : eM.R S w v l) : CR Tryz.prog 6 #[v] w (Lng (∀ r ∈ l, okV r)) := by
  obtain ⟨_, _, _, _, hl⟩ := RL.len h
  refine enter Tryz.func6 rfl Tryz.ntmps6 rfl ?_
  refine .seq (.region (.asg rfl rfl (.nil (.seq (.seq (.region (.asg rfl rfl (.nil ?_))))))))
  refine .block (.loop (α := Nat) (fun i => [(0, v), (3, .int .i64 (i : Nat))]) (fun i W => Ext w W ∧ i ≤ l.length ∧ ∀ j r, j < i → l[j]? = some r → okV r) (fun i => l.length - i) 0 ?_ ?_ ?_)
  · exact look_cons rfl (look_cons rfl look_nil)
  · exact ⟨.refl _, Nat.zero_le _, fun j r hj => absurd hj (Nat.not_lt_zero _)⟩
  · rintro i W ⟨hW, hi, hall⟩
    have hW' := h.ext hW
    refine .seq (.seq (.region (.mv rfl rfl (.mv rfl rfl (.lenR un_M rfl rfl hW' ?_)))))
    have htrue : ∀ {σ : Env} {W3 : World}, Ext w W3 → Kx.look σ 2 = some (.bool true) → Leave Tryz.prog Tryz.f6 23 (fun v w' => Ext w w' ∧ Lng (∀ r ∈ l, okV r) v w') σ [] W3 := by
      intro σ W3 hW3 hl
      exact .plain [_] Tryz.results6 ⟨hl, trivial⟩ ⟨hW3, true, rfl, fun h => by cases h⟩
    by_cases hlt : i < l.length
    · have hyy := List.getElem?_eq_getElem hlt
      generalize l[i] = r at hyy
      refine .lssT rfl rfl rfl (by omega) (.nil (.condT rfl (.skip (.seq (.block (.seq (.region (.mv rfl rfl (.mv rfl rfl ?_)))))))))
      refine .ixN (i := i) un_M ty_V rfl rfl hW' rfl hyy fun p hp => .ldE ty_V rfl rfl hp fun e he => .lenR un_V rfl rfl he ?_
      by_cases hn : r.length ≤ 20
      · refine .gtrF rfl rfl rfl (by omega) (.mv rfl rfl (.gr rfl rfl rfl rfl (.mv rfl rfl (.gr rfl rfl rfl rfl (.mv rfl rfl (.gr rfl rfl rfl rfl ?_))))))
        refine .ixN (i := i) un_M ty_V rfl rfl hW' rfl hyy fun p' hp' => .gr rfl rfl rfl rfl (.ldE ty_V rfl rfl hp' fun e' he' => .gr rfl rfl rfl rfl ?_)
        refine .call _ rfl E_law02_Long rfl (law02_Long_c (up.ext hW.size) he') fun v2 W2 e2 h2 => ?_
        obtain ⟨b, rfl, hb⟩ := h2
        cases b with
        | true =>
          exact .pick rfl rfl rfl (.nil (.condT rfl (.seq (.region (.asg rfl rfl (.nil (.ret (htrue (hW.trans e2) rfl))))))))
        | false =>
          refine .pick rfl rfl rfl (.nil (.condF rfl (.skip (.region (.mv rfl rfl (.add rfl rfl rfl (.asg rfl rfl (.nil ?_))))))))
          rw [wI (by omega)]
          refine ⟨rfl, i + 1, look_cons rfl (look_cons rfl look_nil), ⟨hW.trans e2, hlt, fun j r' hj hr' => ?_⟩, by show l.length - (i + 1) < l.length - i; omega⟩
          by_cases e : j = i
          · subst e; rw [hyy] at hr'; cases hr'; exact ⟨hn, hb rfl⟩
          · exact hall j r' (by omega) hr'
      · refine .gtrT rfl rfl rfl (by omega) (.mv rfl rfl (.gs rfl rfl rfl rfl rfl (.gs rfl rfl rfl rfl rfl (.gs rfl rfl rfl rfl rfl (.gs rfl rfl rfl rfl rfl (.gs rfl rfl rfl rfl rfl ?_))))))
        exact .pick rfl rfl rfl (.nil (.condT rfl (.seq (.region (.asg rfl rfl (.nil (.ret (htrue hW rfl))))))))
    · refine .lssF rfl rfl rfl (by omega) (.nil (.condF rfl (.exit (.seq (.region (.asg rfl rfl (.nil (.ret ?_))))))))
      refine .plain [_] Tryz.results6 ⟨rfl, trivial⟩ ⟨hW, false, rfl, fun _ r hr => ?_⟩
      obtain ⟨j, hj⟩ := List.mem_iff_getElem?.1 hr
      exact hall j r (by have := mem_lt hj; omega) hj

def okM (m : List (List QV)) : Prop := m.length ≤ 8 ∧ colsOf m ≤ 8 ∧ ∀ r ∈ m, okV r
theorem E_law04_Long : Ent Tryz.prog 5 := ent_of Tryz.func5 (by kernel_rfl) rfl
theorem law04_Long_c {S : Nat → Prop} {w : World} {v : Value} {l : List (List (List QV))} (up : Up S w) (h : eMM.R S w v l) : CR Tryz.prog 5 #[v] w (Lng (∀ m ∈ l, okM m)) := by
  obtain ⟨_, _, _, _, hl⟩ := RL.len h
  refine enter Tryz.func5 rfl Tryz.ntmps5 rfl ?_
  refine .seq (.region (.asg rfl rfl (.nil (.seq (.seq (.region (.asg rfl rfl (.nil ?_))))))))
  refine .block (.loop (α := Nat) (fun i => [(0, v), (3, .int .i64 (i : Nat))]) (fun i W => Ext w W ∧ i ≤ l.length ∧ ∀ j r, j < i → l[j]? = some r → okM r) (fun i => l.length - i) 0 ?_ ?_ ?_)
  · exact look_cons rfl (look_cons rfl look_nil)
  · exact ⟨.refl _, Nat.zero_le _, fun j r hj => absurd hj (Nat.not_lt_zero _)⟩
  · rintro i W ⟨hW, hi, hall⟩
    have hW' := h.ext hW
    refine .seq (.seq (.region (.mv rfl rfl (.mv rfl rfl (.lenR un_MM rfl rfl hW' ?_)))))
    have htrue : ∀ {σ : Env} {W3 : World}, Ext w W3 → Kx.look σ 2 = some (.bool true) → Leave Tryz.prog Tryz.f5 31 (fun v w' => Ext w w' ∧ Lng (∀ r ∈ l, okM r) v w') σ [] W3 := by
      intro σ W3 hW3 hl
      exact .plain [_] Tryz.results5 ⟨hl, trivial⟩ ⟨hW3, true, rfl, fun h => by cases h⟩
    by_cases hlt : i < l.length
    · have hyy := List.getElem?_eq_getElem hlt
      generalize l[i] = m at hyy
      refine .lssT rfl rfl rfl (by omega) (.nil (.condT rfl (.skip (.seq (.block (.seq (.region (.mv rfl rfl (.mv rfl rfl ?_)))))))))
      refine .ixN (i := i) un_MM ty_M rfl rfl hW' rfl hyy fun p hp => .ldE ty_M rfl rfl hp fun e he => .lenR un_M rfl rfl he ?_
      by_cases hn : m.length ≤ 8
      · refine .gtrF rfl rfl rfl (by omega) (.mv rfl rfl (.gr rfl rfl rfl rfl (.mv rfl rfl (.gr rfl rfl rfl rfl (.mv rfl rfl (.gr rfl rfl rfl rfl ?_))))))
        refine .ixN (i := i) un_MM ty_M rfl rfl hW' rfl hyy fun p' hp' => .gr rfl rfl rfl rfl (.ldE ty_M rfl rfl hp' fun e' he' => .gr rfl rfl rfl rfl ?_)
        refine .call _ rfl E_ref04_Cols rfl (ref04_Cols_c he') fun v2 W2 e2 h2 => .gr rfl rfl rfl rfl ?_
        subst h2
        by_cases hc : colsOf m ≤ 8
        · refine .gtrF rfl rfl rfl (by omega) (.pick rfl rfl rfl (.mv rfl rfl (.gr rfl rfl rfl rfl (.mv rfl rfl (.gr rfl rfl rfl rfl (.mv rfl rfl (.gr rfl rfl rfl rfl ?_)))))))
          have hW2 := hW.trans e2
          refine .ixN (i := i) un_MM ty_M rfl rfl (h.ext hW2) rfl hyy fun p3 hp3 => .gr rfl rfl rfl rfl (.ldE ty_M rfl rfl hp3 fun e3 he3 => .gr rfl rfl rfl rfl ?_)
          refine .call _ rfl E_law03_Long rfl (law03_Long_c (up.ext hW2.size) he3) fun v4 W4 e4 h4 => ?_
          obtain ⟨b, rfl, hb⟩ := h4
          cases b with
          | true =>
            exact .pick rfl rfl rfl (.nil (.condT rfl (.seq (.region (.asg rfl rfl (.nil (.ret (htrue (hW2.trans e4) rfl))))))))
          | false =>
            refine .pick rfl rfl rfl (.nil (.condF rfl (.skip (.region (.mv rfl rfl (.add rfl rfl rfl (.asg rfl rfl (.nil ?_))))))))
            rw [wI (by omega)]
            refine ⟨rfl, i + 1, look_cons rfl (look_cons rfl look_nil), ⟨hW2.trans e4, hlt, fun j r' hj hr' => ?_⟩, by show l.length - (i + 1) < l.length - i; omega⟩
            by_cases e : j = i
            · subst e; rw [hyy] at hr'; cases hr'; exact ⟨hn, hc, hb rfl⟩
            · exact hall j r' (by omega) hr'
        · refine .gtrT rfl rfl rfl (by omega) (.pick rfl rfl rfl (.mv rfl rfl (.gs rfl rfl rfl rfl rfl (.gs rfl rfl rfl rfl rfl (.gs rfl rfl rfl rfl rfl (.gs rfl rfl rfl rfl rfl (.gs rfl rfl rfl rfl rfl ?_)))))))
          exact .pick rfl rfl rfl (.nil (.condT rfl (.seq (.region (.asg rfl rfl (.nil (.ret (htrue (hW.trans e2) rfl))))))))
      · refine .gtrT rfl rfl rfl (by omega) (.mv rfl rfl (.gs rfl rfl rfl rfl rfl (.gs rfl rfl rfl rfl rfl (.gs rfl rfl rfl rfl rfl (.gs rfl rfl rfl rfl rfl (.gs rfl rfl rfl rfl rfl (.gs rfl rfl rfl rfl rfl ?_)))))))
        refine .pick rfl rfl rfl (.mv rfl rfl (.gs rfl rfl rfl rfl rfl (.gs rfl rfl rfl rfl rfl (.gs rfl rfl rfl rfl rfl (.gs rfl rfl rfl rfl rfl (.gs rfl rfl rfl rfl rfl ?_))))))
        exact .pick rfl rfl rfl (.nil (.condT rfl (.seq (.region (.asg rfl rfl (.nil (.ret (htrue hW rfl))))))))
    · refine .lssF rfl rfl rfl (by omega) (.nil (.condF rfl (.exit (.seq (.region (.asg rfl rfl (.nil (.ret ?_))))))))
      refine .plain [_] Tryz.results5 ⟨rfl, trivial⟩ ⟨hW, false, rfl, fun _ r hr => ?_⟩
      obtain ⟨j, hj⟩ := List.mem_iff_getElem?.1 hr
      exact hall j r (by have := mem_lt hj; omega) hj
end Go.Proofs.YtgghedhmjhaieaaGreat

namespace Go.Kx
open Go Go.RowKit
theorem colsOf_tabM (n c : Nat) (f : Nat → Nat → Rat) : colsOf (tabM n c f) ≤ c := by
  refine colsOf_le fun r hr => ?_
  obtain ⟨i, _, rfl⟩ := List.mem_map.1 hr
  rw [tab_length]; exact Nat.le_refl _
end Go.Kx
namespace Go.Proofs.YtgghedhmjhaieaaGreat
open Go Go.Kx Go.RowKit

def mulM (a b : List (List QV)) : List (List QV) := tabM a.length (colsOf b) (mmul a b)
def trM (m : List (List QV)) : List (List QV) := tabM (colsOf m) m.length fun i k => rm m k i
def idM (n : Nat) : List (List QV) := tabM n n idn
theorem rm_mulM (a b : List (List QV)) (i k : Nat) : rm (mulM a b) i k = mmul a b i k := by
  unfold mulM
  rw [rm_tabM]
  split
  · rfl
  · rename_i h
    symm
    refine sumN_zero' fun j _ => ?_
    rcases Nat.lt_or_ge i a.length with hi | hi
    · rw [rm_outc (m := b) (show colsOf b ≤ k by omega), Rat.mul_zero]
    · rw [rm_out (m := a) hi, Rat.zero_mul]
theorem rm_trM (m : List (List QV)) (i k : Nat) : rm (trM m) i k = rm m k i := by
  unfold trM
  rw [rm_tabM]
  split
  · rfl
  · rename_i h
    rcases Nat.lt_or_ge k m.length with hk | hk
    · rw [rm_outc (m := m) (show colsOf m ≤ i by omega)]
    · rw [rm_out (m := m) hk]
theorem rm_addM (a b : List (List QV)) (i k : Nat) : rm (addM a b) i k = rm a i k + rm b i k := by
  unfold addM rm
  rw [List.getD_eq_getElem?_getD, List.getElem?_map]
  by_cases h : i < max a.length b.length
  · rw [List.getElem?_range h]
    show rv (addR a b i) k = _
    unfold addR
    rw [rv_tab]
    split
    · rfl
    · rename_i h'
      rw [rv_out (a := a.getD i []) (by omega), rv_out (a := b.getD i []) (by omega), Rat.add_zero]
  · rw [List.getElem?_eq_none (by simpa using h)]
    have e1 := rm_out (m := a) (k := k) (show a.length ≤ i by omega)
    have e2 := rm_out (m := b) (k := k) (show b.length ≤ i by omega)
    unfold rm at e1 e2
    rw [e1, e2, Rat.add_zero]; exact rv_nil k
theorem addM_length (a b : List (List QV)) : (addM a b).length = max a.length b.length := by simp [addM]
theorem colsOf_addM (a b : List (List QV)) : colsOf (addM a b) ≤ max (colsOf a) (colsOf b) := by
  refine colsOf_le fun r hr => ?_
  obtain ⟨i, _, rfl⟩ := List.mem_map.1 hr
  unfold addR
  rw [tab_length]
  have := colsOf_get a i
  have := colsOf_get b i
  omega
theorem mk_addM {a b : List (List QV)} {L : Nat} (ha : mk_ L a) (hb : mk_ L b) (hL : 1 ≤ L) : mk_ (L + L + 1) (addM a b) := by
  intro r hr
  obtain ⟨i, _, rfl⟩ := List.mem_map.1 hr
  exact vk_tab fun k _ => (ha.rsz hL i k).add (hb.rsz hL i k)
theorem mk_mulM {a b : List (List QV)} {L : Nat} (ha : mk_ L a) (hb : mk_ L b) (hL : 1 ≤ L) : mk_ (1 + b.length * (L + L + 1)) (mulM a b) :=
  mk_tabM fun i k _ _ => sumN_rsz fun j _ => (ha.rsz hL i j).mul (hb.rsz hL j k)
theorem mk_trM {m : List (List QV)} {L : Nat} (h : mk_ L m) (hL : 1 ≤ L) : mk_ L (trM m) := mk_tabM fun i k _ _ => h.rsz hL k i
theorem mk_idM (n : Nat) : mk_ 1 (idM n) := mk_tabM fun i k _ _ => by
  unfold idn
  split
  · have := Rsz.int 1 (L := 1) (by decide) (by omega)
    simpa using this
  · exact Rsz.zero (Nat.le_refl _)
theorem mmul_ge (a b : List (List QV)) {n : Nat} (h : b.length ≤ n) (i k : Nat) : mmul a b i k = sumN n fun j => rm a i j * rm b j k :=
  (sumN_ext h fun j h1 _ => by rw [rm_out (m := b) h1, Rat.mul_zero]).symm
theorem mulM_length (a b : List (List QV)) : (mulM a b).length = a.length := tabM_length _ _ _

/-! the laws of a ring -/
theorem mul_assocM (a b c : List (List QV)) : eqM (mulM (mulM a b) c) (mulM a (mulM b c)) := by
  intro i k
  rw [rm_mulM, rm_mulM]
  unfold mmul
  simp only [rm_mulM, mmul]
  rw [mulM_length]
  have e1 : ∀ j, sumN b.length (fun l => rm a i l * rm b l j) * rm c j k = sumN b.length fun l => rm a i l * (rm b l j * rm c j k) := by
    intro j
    rw [← sumN_mulr]
    exact sumN_congr fun l _ => by rw [Rat.mul_assoc]
  simp only [e1]
  rw [sumN_swap]
  exact sumN_congr fun l _ => by rw [sumN_mul]
theorem mul_addM (a b c : List (List QV)) : eqM (mulM a (addM b c)) (addM (mulM a b) (mulM a c)) := by
  intro i k
  rw [rm_mulM, rm_addM, rm_mulM, rm_mulM]
  rw [mmul_ge a b (n := max b.length c.length) (by omega), mmul_ge a c (n := max b.length c.length) (by omega), ← sumN_add]
  unfold mmul
  rw [addM_length]
  exact sumN_congr fun j _ => by rw [rm_addM]; grind
theorem add_mulM (a b c : List (List QV)) : eqM (mulM (addM a b) c) (addM (mulM a c) (mulM b c)) := by
  intro i k
  rw [rm_mulM, rm_addM, rm_mulM, rm_mulM]
  unfold mmul
  rw [← sumN_add]
  exact sumN_congr fun j _ => by rw [rm_addM]; grind
theorem add_commM (a b : List (List QV)) : eqM (addM a b) (addM b a) := by
  intro i k
  rw [rm_addM, rm_addM, Rat.add_comm]
theorem rm_idM (n i k : Nat) : rm (idM n) i k = if i < n ∧ k < n then idn i k else 0 := rm_tabM _ _ _ _ _
theorem mul_idM (a : List (List QV)) : eqM (mulM a (idM (colsOf a))) a := by
  intro i k
  rw [rm_mulM]
  unfold mmul
  rw [show (idM (colsOf a)).length = colsOf a from tabM_length _ _ _]
  rw [sumN_single (i := k) fun j hj hne => by rw [rm_idM]; unfold idn; rw [if_neg hne]; split <;> rw [Rat.mul_zero]]
  split
  · rename_i h
    rw [rm_idM, if_pos ⟨h, h⟩]; unfold idn; rw [if_pos rfl, Rat.mul_one]
  · rename_i h
    rw [rm_outc (by omega)]
theorem id_mulM (a : List (List QV)) : eqM (mulM (idM a.length) a) a := by
  intro i k
  rw [rm_mulM]
  unfold mmul
  have hz : ∀ j, j < a.length → j ≠ i → rm (idM a.length) i j * rm a j k = 0 := by
    intro j hj hne
    have : rm (idM a.length) i j = 0 := by
      rw [rm_idM]
      split
      · unfold idn; exact if_neg fun e => hne e.symm
      · rfl
    rw [this, Rat.zero_mul]
  rw [sumN_single hz]
  split
  · rename_i h
    rw [rm_idM, if_pos ⟨h, h⟩]; unfold idn; rw [if_pos rfl, Rat.one_mul]
  · rename_i h
    rw [rm_out (by omega)]
theorem tr_trM (a : List (List QV)) : eqM (trM (trM a)) a := by intro i k; rw [rm_trM, rm_trM]
theorem tr_mulM (a b : List (List QV)) : eqM (trM (mulM a b)) (mulM (trM b) (trM a)) := by
  intro i k
  rw [rm_trM, rm_mulM, rm_mulM]
  have h1 : (trM a).length = colsOf a := tabM_length _ _ _
  rw [mmul_ge (trM b) (trM a) (n := max (colsOf a) b.length) (by omega), mmul_ge a b (n := max (colsOf a) b.length) (by omega)]
  exact sumN_congr fun j _ => by rw [rm_trM, rm_trM, Rat.mul_comm]

/-! with bounds, in a world -/
structure MR (W : World) (v : Value) (n c L : Nat) (m : List (List QV)) : Prop where
  r : eM.R (fun _ => True) W v m
  hn : m.length ≤ n
  hc : colsOf m ≤ c
  hk : mk_ L m
structure VR (W : World) (v : Value) (n L : Nat) (a : List QV) : Prop where
  r : eV.R (fun _ => True) W v a
  hn : a.length ≤ n
  hk : vk L a
section
variable {W W' : World} {v va vb : Value} {n c n' c' L L' : Nat} {a b m : List (List QV)} {x y : List QV}
theorem MR.ext (h : MR W v n c L m) (e : Ext W W') : MR W' v n c L m := ⟨h.r.ext e, h.hn, h.hc, h.hk⟩
theorem VR.ext (h : VR W v n L x) (e : Ext W W') : VR W' v n L x := ⟨h.r.ext e, h.hn, h.hk⟩
theorem MR.lift (h : MR W v n c L m) (hL : L ≤ L') : MR W v n c L' m := ⟨h.r, h.hn, h.hc, h.hk.mono hL⟩
theorem VR.lift (h : VR W v n L x) (hL : L ≤ L') : VR W v n L' x := ⟨h.r, h.hn, h.hk.mono hL⟩
theorem upT {W : World} : Up (fun _ => True) W := fun _ _ => trivial
theorem mulW (L' : Nat) (ha : MR W va n c L a) (hb : MR W vb n' c' L b) (h1 : 1 ≤ L := by decide) (h2 : L ≤ 1000 := by decide) (h3 : 1 + n' * (L + L + 1) ≤ L' := by decide) (hn : n ≤ 1000 := by decide) (hn' : n' ≤ 1000 := by decide) (hc' : c' ≤ 1000 := by decide) :
    CR Tryz.prog 11 #[va, vb] W fun v W' => MR W' v n c' L' (mulM a b) := by
  have a1 := ha.hn
  have a2 := hb.hn
  have a3 := hb.hc
  refine (mat_Mul_c upT ha.r hb.r ha.hk hb.hk h1 h2 (by omega) (by omega) (by omega)).mono fun v W' e h => ⟨h, by rw [mulM_length]; omega, Nat.le_trans (colsOf_tabM _ _ _) a3, (mk_mulM ha.hk hb.hk h1).mono ?_⟩
  have : b.length * (L + L + 1) ≤ n' * (L + L + 1) := Nat.mul_le_mul_right _ a2
  omega
theorem addW (L' : Nat) (ha : MR W va n c L a) (hb : MR W vb n c L b) (h1 : 1 ≤ L := by decide) (h2 : L ≤ 10000000000 := by decide) (h3 : L + L + 1 ≤ L' := by decide) (hn : n ≤ 1000 := by decide) (hc' : c ≤ 1000 := by decide) :
    CR Tryz.prog 13 #[va, vb] W fun v W' => MR W' v n c L' (addM a b) := by
  have a1 := ha.hn
  have a2 := hb.hn
  have a3 := hb.hc
  have a4 := ha.hc
  exact (mat_Add_c upT ha.r hb.r ha.hk hb.hk h1 h2 (by omega) (by omega) (by omega) (by omega)).mono fun v W' e h => ⟨h, by rw [addM_length]; omega, by have := colsOf_addM a b; omega, (mk_addM ha.hk hb.hk h1).mono h3⟩
theorem trW (ha : MR W va n c L a) (h1 : 1 ≤ L := by decide) (h2 : L ≤ 10000000000 := by decide) (hn : n ≤ 1000 := by decide) (hc : c ≤ 1000 := by decide) :
    CR Tryz.prog 33 #[va] W fun v W' => MR W' v c n L (trM a) := by
  have a1 := ha.hn
  have a4 := ha.hc
  exact (mat_Transpose_c upT ha.r ha.hk h1 h2 (by omega) (by omega)).mono fun v W' e h => ⟨h, by rw [show (trM a).length = colsOf a from tabM_length _ _ _]; exact a4, Nat.le_trans (colsOf_tabM _ _ _) a1, mk_trM ha.hk h1⟩
theorem eqW (ha : MR W va n c L a) (hb : MR W vb n' c' L b) (h1 : 1 ≤ L := by decide) (h2 : L ≤ 10000000000 := by decide) (hn : n ≤ 1000 := by decide) (hc : c ≤ 1000 := by decide) (hn' : n' ≤ 1000 := by decide) (hc' : c' ≤ 1000 := by decide) (he : eqM a b) :
    CR Tryz.prog 29 #[va, vb] W (Is (.bool true)) := by
  have a1 := ha.hn
  have a2 := hb.hn
  have a3 := hb.hc
  have a4 := ha.hc
  have := mat_Equal_c upT ha.r hb.r ha.hk hb.hk h1 h2 (by omega) (by omega) (by omega) (by omega)
  rwa [decide_eq_true he] at this
theorem idW (k : Nat) (hk : k ≤ n) (hn : n ≤ 1000 := by decide) (hL : 1 ≤ L := by decide) : CR Tryz.prog 35 #[.int .i64 k] W fun v W' => MR W' v n n L (idM k) := by
  have hc : cutN (k : Int) = k := by unfold cutN; omega
  have := mat_Identity_c (S := fun _ => True) (w := W) (n := k) upT
  rw [hc] at this
  exact this.mono fun v W' e h => ⟨h, by rw [show (idM k).length = k from tabM_length _ _ _]; exact hk, Nat.le_trans (colsOf_tabM _ _ _) hk, (mk_idM k).mono hL⟩
theorem mulvecW (L' : Nat) (ha : MR W va n c L a) (hx : VR W vb n' L x) (h1 : 1 ≤ L := by decide) (h2 : L ≤ 1000 := by decide) (h3 : 1 + n' * (L + L + 1) ≤ L' := by decide) (hn : n ≤ 1000 := by decide) (hn' : n' ≤ 1000 := by decide) :
    CR Tryz.prog 20 #[va, vb] W fun v W' => VR W' v n L' (tab a.length fun i => sumN x.length fun k => rm a i k * rv x k) := by
  have a1 := ha.hn
  have a2 := hx.hn
  refine (mat_MulVec_c upT ha.r hx.r ha.hk hx.hk h1 h2 (by omega) (by omega)).mono fun v W' e h => ⟨h, by rw [tab_length]; exact a1, vk_tab fun i _ => (sumN_rsz fun k _ => (ha.hk.rsz h1 i k).mul (hx.hk.rsz h1 k)).mono ?_⟩
  have : x.length * (L + L + 1) ≤ n' * (L + L + 1) := Nat.mul_le_mul_right _ a2
  omega
theorem vecmulW (L' : Nat) (hx : VR W vb n' L x) (ha : MR W va n c L a) (h1 : 1 ≤ L := by decide) (h2 : L ≤ 1000 := by decide) (h3 : 1 + n * (L + L + 1) ≤ L' := by decide) (hn : n ≤ 1000 := by decide) (hn' : n' ≤ 1000 := by decide) (hc : c ≤ 1000 := by decide) :
    CR Tryz.prog 22 #[vb, va] W fun v W' => VR W' v c L' (tab (colsOf a) (vmul x a)) := by
  have a1 := ha.hn
  have a2 := hx.hn
  have a3 := ha.hc
  refine (mat_VecMul_c upT hx.r ha.r hx.hk ha.hk h1 h2 (by omega) (by omega)).mono fun v W' e h => ⟨h, by rw [tab_length]; exact a3, vk_tab fun k _ => (sumN_rsz fun i _ => (hx.hk.rsz h1 i).mul (ha.hk.rsz h1 i k)).mono ?_⟩
  have : a.length * (L + L + 1) ≤ n * (L + L + 1) := Nat.mul_le_mul_right _ a1
  omega
theorem eqvW (hx : VR W va n L x) (hy : VR W vb n' L y) (h1 : 1 ≤ L := by decide) (h2 : L ≤ 10000000000 := by decide) (hn : n ≤ 1000 := by decide) (hn' : n' ≤ 1000 := by decide) (he : eqV x y) : CR Tryz.prog 63 #[va, vb] W (Is (.bool true)) := by
  have a1 := hx.hn
  have a2 := hy.hn
  have := vec_Equal_c upT hx.r hy.r (by omega) (by omega) hx.hk hy.hk h1 h2
  rwa [decide_eq_true he] at this
theorem dotW (hx : VR W va n L x) (hy : VR W vb n' L y) (h1 : 1 ≤ L := by decide) (h2 : L ≤ 1000 := by decide) (hn : n ≤ 1000 := by decide) : CR Tryz.prog 52 #[va, vb] W (eQ.at (fun _ => True) (qc (sumN y.length fun k => rv x k * rv y k))) := by
  have a1 := hx.hn
  have := vec_Dot_c upT hx.r hy.r (by omega) hx.hk hy.hk h1 h2
  rwa [dot_eq] at this
end
/-- a matrix that is not long -/
theorem okM.mr {W : World} {v : Value} {m : List (List QV)} (h : okM m) (hr : eM.R (fun _ => True) W v m) : MR W v 8 8 6 m :=
  ⟨hr, h.1, h.2.1, eM_mk hr (fun r hr => (h.2.2 r hr).2) (by decide)⟩
theorem okV.vr {W : World} {v : Value} {a : List QV} (h : okV a) (hr : eV.R (fun _ => True) W v a) : VR W v 20 6 a := ⟨hr, h.1, eV_vk hr h.2 (by decide)⟩
end Go.Proofs.YtgghedhmjhaieaaGreat
