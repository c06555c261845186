/-
  A walking layer over the kit's 'wpIn': frames are known by the slots that matter ('Env'), regions that draw their order by one rule. Any program. A region that draws its order: one obligation an operation, for whatever world the others may have grown; a tail that comes behind all the rest is walked in the order of the text. The operations: what each gives. A region that draws its order, whose operations are reads of one value each (H) and a chain that comes in the order of the text (T): the reads may come first. A region that draws its order: reads of one value each, and operations that come in one of the orders of a plan.
-/
import Derived.RangeFuncNested
import Derived.RangeFuncBound
import Derived.RangeFuncCalls
import Derived.RangeFuncLeaves
import Derived.WalkKit
import Derived.OwnWalkIn
import Derived.KernelRfl
import Derived.OrdersIn
set_option linter.unusedVariables false
namespace Go.Kx
open Go Go.RowKit

abbrev Env := List (Nat × Value)

theorem beq_ne {a b : Nat} (h : a ≠ b) : Nat.beq a b = false := by
  cases hh : Nat.beq a b with
  | false => rfl
  | true => exact absurd (Nat.eq_of_beq_eq_true hh) h

def look : Env → Nat → Option Value
  | [], _ => none
  | (k, v) :: r, t => bif Nat.beq k t then some v else look r t

def ev (σ : Env) : Operand → Option Value
  | .tmp t => look σ t
  | .const v => some v
  | .global g => some (.pointer (some ⟨g, 0, none⟩))
  | .func f => some (.func (.func f) #[] #[])

/-- what is known of a frame -/
structure Agr (N : Nat) (σ : Env) (ds : List Deferred) (a : Act) : Prop where
  size : a.tmps.size = N
  defs : a.defers = ds
  slot : ∀ t v, look σ t = some v → a.tmps.getD t undef = v

theorem Agr.ev {N : Nat} {σ : Env} {ds : List Deferred} {a : Act} (h : Agr N σ ds a) {x : Operand} {v : Value} (hx : ev σ x = some v) : a.eval x = v := by
  cases x with
  | tmp t => exact h.slot t v hx
  | const u => simpa [Kx.ev, Act.eval] using hx
  | global g => simpa [Kx.ev, Act.eval] using hx
  | func f => simpa [Kx.ev, Act.eval] using hx

def putE (d : Option Tmp) (v : Value) (σ : Env) : Env := match d with | some t => (t, v) :: σ | none => σ

def dOk (N : Nat) : Option Tmp → Bool | some t => Nat.blt t N | none => true

theorem Agr.put {N : Nat} {σ : Env} {ds : List Deferred} {a : Act} (h : Agr N σ ds a) {d : Option Tmp} (hd : dOk N d = true) (v : Value) : Agr N (putE d v σ) ds (a.put d v) := by
  cases d with
  | none => exact h
  | some t =>
    have ht : t < N := by simpa [dOk, Nat.blt_eq] using hd
    refine ⟨by simpa [Act.put] using h.size, by simpa [Act.put] using h.defs, fun u x hx => ?_⟩
    by_cases e : t = u
    · subst e
      have : look ((t, v) :: σ) t = some v := by simp [look]
      simp only [putE] at hx
      rw [this] at hx
      cases hx
      simp [Act.put, h.size, ht]
    · have hb : Nat.beq t u = false := beq_ne e
      have hl : look σ u = some x := by simpa [putE, look, hb] using hx
      have := h.slot u x hl
      simpa [Act.put, Array.getElem?_setIfInBounds_ne e] using this

theorem Agr.weak {N : Nat} {σ σ' : Env} {ds : List Deferred} {a : Act} (h : Agr N σ ds a) (hs : ∀ t v, look σ' t = some v → look σ t = some v) : Agr N σ' ds a :=
  ⟨h.size, h.defs, fun t v hv => h.slot t v (hs t v hv)⟩

/-- the fence that asks nothing, in a round or out of one -/
abbrev wf (ro : Option Nat) : Fence := { fn := fun _ => True, depth := none, alive := false, round := ro }

theorem wf_none : wf none = Fence.wide := rfl

theorem callsIn_wf {ro : Option Nat} {n : Nat} {P : Program} {f : FuncId} {args : Array Value} {w : World} {R : Ending → World → Prop} : CallsIn (wf ro) n P f args w R ↔ Calls P f args w R := by
  rw [← callsIn_wide (n := n)]
  exact Iff.rfl

/-- what one operation gives, in whatever frame holds its operands -/
def Gv (P : Program) (o : Oper) (σ : Env) (w : World) (R : Value → World → Prop) : Prop :=
  (∀ c, o.op ≠ .defer c) ∧ ∀ ρ : Operand → Value, (∀ x v, x ∈ o.op.operands → ev σ x = some v → ρ x = v) →
    (∃ v w', (execOp ρ o).run P w = .ok (.value v) w' ∧ R v w') ∨
    (∃ w', (execOp ρ o).run P w = .ok .skip w' ∧ R undef w') ∨
    (∃ f args w', (execOp ρ o).run P w = .ok (.enter f args) w' ∧ Calls P f args w' fun e w'' => ∃ v, e = .returned v ∧ R v w'')

theorem Gv.mono {P : Program} {o : Oper} {σ : Env} {w : World} {R R' : Value → World → Prop} (h : Gv P o σ w R) (hr : ∀ v w', R v w' → R' v w') : Gv P o σ w R' := by
  refine ⟨h.1, fun ρ hρ => ?_⟩
  rcases h.2 ρ hρ with ⟨v, w', h1, h2⟩ | ⟨w', h1, h2⟩ | ⟨f, args, w', h1, h2⟩
  · exact .inl ⟨v, w', h1, hr _ _ h2⟩
  · exact .inr (.inl ⟨w', h1, hr _ _ h2⟩)
  · exact .inr (.inr ⟨f, args, w', h1, h2.mono fun e w'' ⟨v, he, hv⟩ => ⟨v, he, hr _ _ hv⟩⟩)

theorem semAt_wf {ro : Option Nat} {ρ : Operand → Value} {o : Oper} (h : ∀ c, o.op ≠ .defer c) : o.semAt ro ρ = execOp ρ o := Oper.semAt_eq ro ρ o h

theorem Gv.wp {P : Program} {ro : Option Nat} {o : Oper} {σ : Env} {w : World} {R : Value → World → Prop} (h : Gv P o σ w R) {a : Act}
    (ha : ∀ x v, x ∈ o.op.operands → ev σ x = some v → a.eval x = v) {next : Act → World → Prop} {Q : Exit → Act → World → Prop}
    (hn : ∀ v w', R v w' → next (a.put o.dst v) w') : o.wpIn (wf ro) 0 P a w next Q := by
  refine ⟨fun _ _ => trivial, ?_⟩
  show o.uponIn (wf ro) 0 P a next Q ((o.semAt ro a.eval).run P w)
  rw [semAt_wf h.1]
  rcases h.2 a.eval ha with ⟨v, w', h1, h2⟩ | ⟨w', h1, h2⟩ | ⟨f, args, w', h1, h2⟩
  · rw [h1]; exact hn _ _ h2
  · rw [h1]; exact hn _ _ h2
  · rw [h1]
    refine ⟨fun hh => (by cases hh), callsIn_wf.2 (h2.mono ?_)⟩
    rintro e w'' ⟨v, rfl, hv⟩
    exact hn _ _ hv

/-- a list of operations in the order of the text -/
structure WL (P : Program) (ro : Option Nat) (N : Nat) (ds : List Deferred) (ops : Array Oper) (K : Env → World → Prop) (l : List Oper) (σ : Env) (w : World) : Prop where
  out : ∀ a, Agr N σ ds a → wpListIn (wf ro) 0 P ops (fun e a w => e = .normal ∧ ∃ σ', Agr N σ' ds a ∧ K σ' w) l a w

section
variable {P : Program} {ro : Option Nat} {N : Nat} {ds : List Deferred} {ops : Array Oper} {K : Env → World → Prop} {rest : List Oper} {σ : Env} {w : World}

theorem WL.nil (h : K σ w) : WL P ro N ds ops K [] σ w := ⟨fun a ha => ⟨rfl, σ, ha, h⟩⟩

theorem WL.weak (σ' : Env) (hs : ∀ t v, look σ' t = some v → look σ t = some v) {l : List Oper} (h : WL P ro N ds ops K l σ' w) : WL P ro N ds ops K l σ w :=
  ⟨fun a ha => h.out a (ha.weak hs)⟩

theorem WL.gv {o : Oper} {R : Value → World → Prop} (hg : o.guard = none) (hd : dOk N o.dst = true) (h : Gv P o σ w R)
    (k : ∀ v w', R v w' → WL P ro N ds ops K rest (putE o.dst v σ) w') : WL P ro N ds ops K (o :: rest) σ w := by
  refine ⟨fun a ha => wpListIn_plain hg fun K' hK => ?_⟩
  exact h.wp (fun x v _ hx => ha.ev hx) fun v w' hr => hK _ _ ((k v w' hr).out _ (ha.put hd v))

/-- the slot of the guard's test -/
def gslot (ops : Array Oper) (j : Nat) : Option Tmp := (ops[j]?).bind (·.dst)

theorem yielded_of {a : Act} (ha : Agr N σ ds a) {j t : Nat} (hj : gslot ops j = some t) (ht : Nat.blt t N = true) {v : Value} (hv : look σ t = some v) :
    yielded ops a.tmps j = match v with | .bool b => some b | _ => none := by
  have h1 := ha.slot t v hv
  have h2 : t < a.tmps.size := by rw [ha.size]; simpa [Nat.blt_eq] using ht
  unfold yielded
  unfold gslot at hj
  rw [hj]
  have h3 : a.tmps[t]? = some v := by
    rw [Array.getElem?_eq_getElem h2]
    simp [Array.getElem?_eq_getElem h2] at h1
    exact congrArg some h1
  simp only [Option.bind_some, h3]
  cases v <;> rfl

theorem WL.grun {d : Option Tmp} {op : Op} {ty : TypeId} {pos : String} {af : Array Edge} {j t : Nat} {b : Bool} (hj : gslot ops j = some t) (ht : Nat.blt t N = true) (hv : look σ t = some (.bool b))
    (h : WL P ro N ds ops K (⟨d, op, ty, pos, af, none⟩ :: rest) σ w) : WL P ro N ds ops K (⟨d, op, ty, pos, af, some (j, b)⟩ :: rest) σ w := by
  refine ⟨fun a ha => ?_⟩
  have h1 := h.out a ha
  have hy := yielded_of ha hj ht hv
  simp only [wpListIn, Region.wanted, if_true] at h1
  simp only [wpListIn, Region.wanted, hy, beq_self_eq_true, if_true]
  exact h1

theorem WL.gskip {o : Oper} {j t : Nat} {b : Bool} {v : Value} (hg : o.guard = some (j, b)) (hd : dOk N o.dst = true) (hj : gslot ops j = some t) (ht : Nat.blt t N = true) (hv : look σ t = some v)
    (hne : (match v with | .bool c => some c | _ => none) ≠ some b) (h : WL P ro N ds ops K rest (putE o.dst undef σ) w) : WL P ro N ds ops K (o :: rest) σ w := by
  refine ⟨fun a ha => ?_⟩
  have hy := yielded_of ha hj ht hv
  have hw : Region.wanted o (yielded ops a.tmps) = false := by
    simp only [Region.wanted, hg, hy]
    simpa using hne
  simp only [wpListIn, hw]
  exact ⟨fun _ _ => trivial, h.out _ (ha.put hd undef)⟩
end

/-- a piece of code -/
abbrev Pst := Exit → Env → List Deferred → World → Prop
def lft (N : Nat) (Q : Pst) : Exit → Act → World → Prop := fun e a w => ∃ σ ds, Agr N σ ds a ∧ Q e σ ds w

structure WC (P : Program) (ro : Option Nat) (N : Nat) (Q : Pst) (c : Code) (σ : Env) (ds : List Deferred) (w : World) : Prop where
  out : ∀ a, Agr N σ ds a → c.wpIn (wf ro) 0 P (lft N Q) a w

@[reducible] def thn (K : Env → List Deferred → World → Prop) (Q : Pst) : Pst
  | .normal, σ, ds, w => K σ ds w
  | e, σ, ds, w => Q e σ ds w

@[reducible] def inb (id : Nat) (Q : Pst) : Pst
  | .exit j, σ, ds, w => bif Nat.beq j id then Q .normal σ ds w else Q (.exit j) σ ds w
  | e, σ, ds, w => Q e σ ds w

section
variable {P : Program} {ro : Option Nat} {N : Nat} {Q : Pst} {σ : Env} {ds : List Deferred} {w : World}

theorem WC.weak {c : Code} (σ' : Env) (hs : ∀ t v, look σ' t = some v → look σ t = some v) (h : WC P ro N Q c σ' ds w) : WC P ro N Q c σ ds w :=
  ⟨fun a ha => h.out a (ha.weak hs)⟩

theorem WC.mono {c : Code} {Q' : Pst} (h : WC P ro N Q c σ ds w) (hq : ∀ e σ ds w, Q e σ ds w → Q' e σ ds w) : WC P ro N Q' c σ ds w :=
  ⟨fun a ha => wpIn_mono (h.out a ha) fun e _ w' ⟨σ', ds', hag, h⟩ => ⟨σ', ds', hag, hq e σ' ds' w' h⟩⟩

theorem WC.skip (h : Q .normal σ ds w) : WC P ro N Q .skip σ ds w := ⟨fun _ ha => wpIn_skip ⟨σ, ds, ha, h⟩⟩
theorem WC.exit {id : Nat} (h : Q (.exit id) σ ds w) : WC P ro N Q (.exit id) σ ds w := ⟨fun _ ha => wpIn_exit ⟨σ, ds, ha, h⟩⟩
theorem WC.ret (h : Q .ret σ ds w) : WC P ro N Q .ret σ ds w := ⟨fun _ ha => wpIn_ret ⟨σ, ds, ha, h⟩⟩
theorem WC.label {l : Nat} (h : Q .normal σ ds w) : WC P ro N Q (.label l) σ ds w := ⟨fun _ ha => wpIn_label ⟨σ, ds, ha, h⟩⟩

theorem WC.seq {x y : Code} (h : WC P ro N (thn (fun σ ds w => WC P ro N Q y σ ds w) Q) x σ ds w) : WC P ro N Q (x.seq y) σ ds w := by
  refine ⟨fun a ha => wpIn_seq (wpIn_mono (h.out a ha) ?_)⟩
  rintro e a' w' ⟨σ', ds', hag, hq⟩
  cases e with
  | normal => exact WC.out hq a' hag
  | _ => exact ⟨σ', ds', hag, hq⟩

theorem WC.block {id : Nat} {c : Code} (h : WC P ro N (inb id Q) c σ ds w) : WC P ro N Q (.block id c) σ ds w := by
  refine ⟨fun a ha => wpIn_block (wpIn_mono (h.out a ha) ?_)⟩
  rintro e a' w' ⟨σ', ds', hag, hq⟩
  cases e with
  | exit j =>
    by_cases e : j = id
    · subst e
      have hq' : Q .normal σ' ds' w' := by simpa [inb] using hq
      simp only [Exit.inBlock, if_true]
      exact ⟨σ', ds', hag, hq'⟩
    · have hb : Nat.beq j id = false := beq_ne e
      have hq' : Q (.exit j) σ' ds' w' := by simpa [inb, hb] using hq
      simp only [Exit.inBlock, e, if_false]
      exact ⟨σ', ds', hag, hq'⟩
  | _ => exact ⟨σ', ds', hag, hq⟩

theorem WC.cond {c : Operand} {x y : Code} {b : Bool} (hc : ev σ c = some (.bool b)) (ht : b = true → WC P ro N Q x σ ds w) (hf : b = false → WC P ro N Q y σ ds w) : WC P ro N Q (.cond c x y) σ ds w :=
  ⟨fun a ha => wpIn_cond_split (ha.ev hc) (fun h => (ht h).out a ha) (fun h => (hf h).out a ha)⟩
theorem WC.condT {c : Operand} {x y : Code} (hc : ev σ c = some (.bool true)) (h : WC P ro N Q x σ ds w) : WC P ro N Q (.cond c x y) σ ds w :=
  WC.cond hc (fun _ => h) (fun h => by cases h)
theorem WC.condF {c : Operand} {x y : Code} (hc : ev σ c = some (.bool false)) (h : WC P ro N Q y σ ds w) : WC P ro N Q (.cond c x y) σ ds w :=
  WC.cond hc (fun h => by cases h) (fun _ => h)

theorem WC.region {id : Nat} {l : List Oper} (h : WL P ro N ds l.toArray (fun σ w => Q .normal σ ds w) l σ w) : WC P ro N Q (.region id l.toArray false) σ ds w := by
  refine ⟨fun a ha => wpIn_mono (wpIn_region_lit (h.out a ha)) ?_⟩
  rintro e a' w' ⟨rfl, σ', hag, hk⟩
  exact ⟨σ', ds, hag, hk⟩

/-- a loop: the ghost x says which slots hold what (E x) and what is known of the world (F x) -/
theorem WC.loop {α : Type} {c : Code} (E : α → Env) (F : α → World → Prop) (m : α → Nat) (x : α) (hE : ∀ t v, look (E x) t = some v → look σ t = some v) (hF : F x w)
    (h : ∀ x w, F x w → WC P ro N (thn (fun σ' ds' w' => ds' = ds ∧ ∃ x', (∀ t v, look (E x') t = some v → look σ' t = some v) ∧ F x' w' ∧ m x' < m x) Q) c (E x) ds w) : WC P ro N Q (.loop c) σ ds w := by
  refine ⟨fun a ha => ?_⟩
  have key : ∀ k, ∀ x w, m x = k → F x w → ∀ a, Agr N (E x) ds a → (Code.loop c).wpIn (wf ro) 0 P (lft N Q) a w := by
    intro k x w _ hx a ha
    refine wpIn_loop (fun a w => ∃ x, Agr N (E x) ds a ∧ F x w) (fun a w => Classical.epsilon fun n => (∃ x, Agr N (E x) ds a ∧ F x w ∧ m x = n) ∧ ∀ n', (∃ x, Agr N (E x) ds a ∧ F x w ∧ m x = n') → n ≤ n') ⟨x, ha, hx⟩ ?_
    intro a₁ w₁ ⟨x₁, ha₁, hx₁⟩
    -- the least measure among the ghosts that fit
    have hleast : ∀ (a : Act) (w : World), (∃ x, Agr N (E x) ds a ∧ F x w) → (∃ x, Agr N (E x) ds a ∧ F x w ∧ m x = Classical.epsilon fun n => (∃ x, Agr N (E x) ds a ∧ F x w ∧ m x = n) ∧ ∀ n', (∃ x, Agr N (E x) ds a ∧ F x w ∧ m x = n') → n ≤ n') ∧
        ∀ x, Agr N (E x) ds a → F x w → (Classical.epsilon fun n => (∃ x, Agr N (E x) ds a ∧ F x w ∧ m x = n) ∧ ∀ n', (∃ x, Agr N (E x) ds a ∧ F x w ∧ m x = n') → n ≤ n') ≤ m x := by
      intro a w ⟨x, h1, h2⟩
      have hex : ∃ n, (∃ x, Agr N (E x) ds a ∧ F x w ∧ m x = n) ∧ ∀ n', (∃ x, Agr N (E x) ds a ∧ F x w ∧ m x = n') → n ≤ n' := by
        have hp : ∀ b, ∀ x, m x ≤ b → Agr N (E x) ds a → F x w → ∃ n, (∃ x, Agr N (E x) ds a ∧ F x w ∧ m x = n) ∧ ∀ n', (∃ x, Agr N (E x) ds a ∧ F x w ∧ m x = n') → n ≤ n' := by
          intro b
          induction b with
          | zero => exact fun x hb h1 h2 => ⟨m x, ⟨x, h1, h2, rfl⟩, fun n' _ => by omega⟩
          | succ b ih =>
            intro x hb h1 h2
            by_cases hh : ∃ y, Agr N (E y) ds a ∧ F y w ∧ m y < m x
            · obtain ⟨y, h3, h4, h5⟩ := hh
              exact ih y (by omega) h3 h4
            · exact ⟨m x, ⟨x, h1, h2, rfl⟩, fun n' ⟨y, h3, h4, h5⟩ => Nat.le_of_not_lt fun hlt => hh ⟨y, h3, h4, by omega⟩⟩
        exact hp (m x) x (Nat.le_refl _) h1 h2
      have hs := Classical.epsilon_spec hex
      exact ⟨hs.1, fun x h1 h2 => hs.2 _ ⟨x, h1, h2, rfl⟩⟩
    obtain ⟨⟨x₂, ha₂, hx₂, hm₂⟩, _⟩ := hleast a₁ w₁ ⟨x₁, ha₁, hx₁⟩
    refine wpIn_mono ((h x₂ w₁ hx₂).out a₁ ha₂) ?_
    rintro e a' w' ⟨σ', ds', hag, hq⟩
    cases e with
    | normal =>
      obtain ⟨rfl, x', hE', hF', hm'⟩ := hq
      refine ⟨⟨x', hag.weak hE', hF'⟩, ?_⟩
      have := (hleast a' w' ⟨x', hag.weak hE', hF'⟩).2 x' (hag.weak hE') hF'
      omega
    | _ => exact ⟨σ', ds', hag, hq⟩
  exact key _ x w rfl hF a (ha.weak hE)
end

/-! ### a function's contract -/

abbrev Ext (w w' : World) : Prop := Below w.heap.size w w'
theorem Ext.refl (w : World) : Ext w w := Below.refl _ w
theorem Ext.trans {a b c : World} (h : Ext a b) (k : Ext b c) : Ext a c := Below.trans h (Below.mono k h.size)

/-- the call returns; what was there stays; R says what comes back -/
def CR (P : Program) (f : FuncId) (args : Array Value) (w : World) (R : Value → World → Prop) : Prop :=
  Calls P f args w fun e w' => ∃ v, e = .returned v ∧ Ext w w' ∧ R v w'

theorem CR.mono {P : Program} {f : FuncId} {args : Array Value} {w : World} {R R' : Value → World → Prop} (h : CR P f args w R) (hr : ∀ v w', Ext w w' → R v w' → R' v w') : CR P f args w R' :=
  Calls.mono h fun _ _ ⟨v, he, hx, hv⟩ => ⟨v, he, hx, hr _ _ hx hv⟩

def envOf : Nat → List Value → Env
  | _, [] => []
  | k, v :: r => (k, v) :: envOf (k + 1) r

theorem look_envOf (l : List Value) : ∀ (k t : Nat) (v : Value), look (envOf k l) t = some v → k ≤ t ∧ l[t - k]? = some v := by
  induction l with
  | nil => intro k t v h; simp [envOf, look] at h
  | cons x l ih =>
    intro k t v h
    simp only [envOf, look] at h
    by_cases e : k = t
    · subst e; simp at h; subst h; simp
    · have hb : Nat.beq k t = false := beq_ne e
      simp only [hb, cond_false] at h
      obtain ⟨h1, h2⟩ := ih _ _ _ h
      refine ⟨by omega, ?_⟩
      have : t - k = (t - (k + 1)) + 1 := by omega
      rw [this, List.getElem?_cons_succ]; exact h2

/-- the results at a return -/
def Res (P : Program) (σ : Env) (w : World) : List ResultVar → List Value → Prop
  | [], [] => True
  | .tmp t :: rs, v :: vs => look σ t = some v ∧ Res P σ w rs vs
  | .cell a t :: rs, v :: vs => (∃ p, look σ a = some (.pointer (some p)) ∧ (loadVar t p).run P w = .ok v w) ∧ Res P σ w rs vs
  | _, _ => False

def tup : List Value → Value
  | [v] => v
  | vs => .tuple vs.toArray

/-- one result variable's value -/
def resOf (tmps : Array Value) : ResultVar → Sem Value
  | .tmp t => pure (tmps.getD t undef)
  | .cell b t => do loadVar t (← asAddr (tmps.getD b undef))

theorem run_results {P : Program} {fn : Func} {N : Nat} {σ : Env} {ds : List Deferred} {a : Act} {w : World} (ha : Agr N σ ds a) {rs : List ResultVar} {vs : List Value} (hr : fn.results = rs.toArray) (h : Res P σ w rs vs) :
    (results fn a.tmps).run P w = .ok (tup vs) w := by
  have key : ∀ (rs : List ResultVar) (vs : List Value), Res P σ w rs vs → (rs.mapM (m := Sem) (resOf a.tmps)).run P w = .ok vs w := by
    intro rs
    induction rs with
    | nil => intro vs h; cases vs with
      | nil => simp [Sem.run_pure]
      | cons v vs => exact h.elim
    | cons r rs ih =>
      intro vs h
      cases vs with
      | nil => cases r <;> exact h.elim
      | cons v vs =>
        cases r with
        | tmp t =>
          obtain ⟨h1, h2⟩ := h
          have := ha.slot t v h1
          have e : (resOf a.tmps (.tmp t)).run P w = .ok v w := by simp only [resOf, this, Sem.run_pure]
          simp only [List.mapM_cons, Sem.run_bind, Sem.run_pure, Result.andThen_ok, e, ih vs h2]
        | cell b t =>
          obtain ⟨⟨p, h1, h3⟩, h2⟩ := h
          have := ha.slot b _ h1
          have e : (resOf a.tmps (.cell b t)).run P w = .ok v w := by
            unfold resOf
            simp only [this, asAddr, Sem.run_bind, Sem.run_pure, Result.andThen_ok, h3]
          simp only [List.mapM_cons, Sem.run_bind, Sem.run_pure, Result.andThen_ok, e, ih vs h2]
  have hk := key rs vs h
  have he : results fn a.tmps = (do let vs ← fn.results.mapM (resOf a.tmps); pure (if h : vs.size = 1 then vs[0] else .tuple vs)) := by
    unfold results
    congr 1
  rw [he, hr]
  simp only [List.mapM_toArray, Sem.run_bind, map_eq_pure_bind, Sem.run_pure, hk, Result.andThen_ok]
  match vs with
  | [] => rfl
  | [v] => rfl
  | v :: u :: r => simp [tup]

/-- a function is left -/
def Leave (P : Program) (fn : Func) (N : Nat) (R : Value → World → Prop) (σ : Env) (ds : List Deferred) (w : World) : Prop :=
  ∀ a, Agr N σ ds a → LeavesInM (wf none) 0 P fn a.tmps (fun e w' => ∃ v, e = .returned v ∧ R v w') ds .returning w

theorem Leave.plain {P : Program} {fn : Func} {N : Nat} {R : Value → World → Prop} {σ : Env} {w : World} {rs : List ResultVar} (vs : List Value) (hr : fn.results = rs.toArray) (h : Res P σ w rs vs) (hR : R (tup vs) w) : Leave P fn N R σ [] w :=
  fun _ ha => ⟨_, run_results ha hr h, _, rfl, hR⟩

/-- behind one range over a function -/
theorem Leave.mark {P : Program} {fn : Func} {N : Nat} {R : Value → World → Prop} {σ : Env} {w : World} {rs : List ResultVar} {D : Nat} (vs : List Value) (hr : fn.results = rs.toArray) (hD : w.heap[D]? = some (.deferred (some [])))
    (h : Res P σ (w.putObj D (.deferred none)) rs vs) (hR : R (tup vs) (w.putObj D (.deferred none))) : Leave P fn N R σ [{ target := .collected D, args := #[] }] w :=
  fun _ ha => ⟨by simp, .inl ⟨_, _, rfl, run_takeDeferred hD, _, run_results ha hr h, _, rfl, hR⟩⟩

/-- the end of a body -/
@[reducible] def fin (P : Program) (fn : Func) (N : Nat) (R : Value → World → Prop) : Pst
  | .normal, σ, ds, w => Leave P fn N R σ ds w
  | .ret, σ, ds, w => Leave P fn N R σ ds w
  | _, _, _, _ => False

theorem enterG {P : Program} {f : FuncId} {fn : Func} {c : Code} {args : Array Value} {w : World} {R : Value → World → Prop} {N : Nat} (hf : P.funcs[f]? = some fn) (hb : fn.body = some c) (hn : fn.ntmps = N) (hsz : Nat.ble args.size N = true)
    (h : WC P none N (fin P fn N R) c (envOf 0 args.toList) [] w) : Calls P f args w fun e w' => ∃ v, e = .returned v ∧ R v w' := by
  have hag : Agr N (envOf 0 args.toList) [] { tmps := args ++ Array.replicate (fn.ntmps - args.size) undef, defers := [] } := by
    have hsz := Nat.le_of_ble_eq_true hsz
    refine ⟨by simp; omega, rfl, fun t v hv => ?_⟩
    obtain ⟨_, h2⟩ := look_envOf _ _ _ _ hv
    have h3 : args[t]? = some v := by simpa using h2
    have hlt : t < args.size := by
      rcases Nat.lt_or_ge t args.size with h | h
      · exact h
      · rw [Array.getElem?_eq_none h] at h3; cases h3
    simp [Array.getElem?_append, hlt]
    simpa [Array.getElem?_eq_getElem hlt] using h3
  refine callsIn_wide.1 (callsIn_of_wp_marks (F := Fence.wide) (n := 0) hf hb trivial ?_ rfl)
  refine wpIn_mono (h.out _ hag) ?_
  rintro e a' w' ⟨σ', ds', hag', hq⟩
  cases e with
  | normal => have := hq a' hag'; rw [← hag'.defs] at this; exact this
  | ret => have := hq a' hag'; rw [← hag'.defs] at this; exact this
  | _ => exact hq.elim
theorem enter {P : Program} {f : FuncId} {fn : Func} {c : Code} {args : Array Value} {w : World} {R : Value → World → Prop} {N : Nat} (hf : P.funcs[f]? = some fn) (hb : fn.body = some c) (hn : fn.ntmps = N) (hsz : Nat.ble args.size N = true)
    (h : WC P none N (fin P fn N fun v w' => Ext w w' ∧ R v w') c (envOf 0 args.toList) [] w) : CR P f args w R := enterG hf hb hn hsz h
end Go.Kx

namespace Go.Kx
open Go Go.RowKit

/-- what is known of an operation's value: the value itself, or a fact that stays -/
abbrev Sp := Value ⊕ (Value → World → Prop)
def Sp.ok : Sp → Value → World → Prop
  | .inl x, v, _ => v = x
  | .inr p, v, w => ∀ w', Ext w w' → p v w'

theorem Sp.ok_ext {s : Sp} {v : Value} {w w' : World} (h : Sp.ok s v w) (e : Ext w w') : Sp.ok s v w' := by
  cases s with
  | inl x => exact h
  | inr p => exact fun w'' e' => h w'' (e.trans e')

def edgeTo (o : Oper) (j : Nat) : Bool := o.after.any fun e => Region.binds .any e && Nat.beq e.on j
def tmpsOf (o : Oper) : List Tmp := o.op.operands.toList.filterMap fun | .tmp t => some t | _ => none

def okOp (ops : List Oper) (N i : Nat) (o : Oper) (dep : List (Tmp × Nat)) : Bool :=
  dOk N o.dst && o.dst.isSome && (match o.guard with | none => true | some (j, _) => dep.any fun p => Nat.beq p.2 j) && (match o.op with | .defer _ => false | .select .. => false | _ => true) &&
  dep.all (fun p => edgeTo o p.2 && (match ops[p.2]? with | some oj => oj.dst == some p.1 | none => false)) &&
  (tmpsOf o).all fun t => dep.any (fun p => Nat.beq p.1 t) || ops.zipIdx.all fun q => q.1.dst != some t || Nat.beq q.2 i || edgeTo q.1 i

def okBack (i : Nat) (o : Oper) : Bool := o.after.all fun e => !Region.binds .any e || Nat.blt e.on i
def edgesOf (o : Oper) : List Nat := o.after.toList.filterMap fun e => bif Region.binds .any e then some e.on else none
/-- what must have come before these -/
def closeB (ops : List Oper) : Nat → List Nat → List Nat
  | 0, m => m
  | i + 1, m => closeB ops i (bif m.any (Nat.beq i) then ((ops[i]?).map edgesOf).getD [] ++ m else m)
def okTail (ops : List Oper) (i : Nat) (o : Oper) : Bool := (List.range i).all fun j => (closeB ops i (edgesOf o)).any (Nat.beq j)
def dsts (ops : List Oper) : List Tmp := ops.filterMap (·.dst)
def nodupB : List Nat → Bool
  | [] => true
  | x :: r => r.all (fun y => !Nat.beq x y) && nodupB r

/-- the checks, all closed -/
def okPar (ops : List Oper) (N h : Nat) (deps : List (List (Tmp × Nat))) : Bool :=
  ops.zipIdx.all (fun q => okBack q.2 q.1) && nodupB (dsts (ops.take h)) &&
  ops.zipIdx.all (fun q => if Nat.blt q.2 h then okOp (ops.take h) N q.2 q.1 (deps.getD q.2 []) else okTail ops q.2 q.1) &&
  Nat.ble h ops.length

/-- a guarded operation: run, or passed over -/
def gOk (P : Program) (ops : List Oper) (o : Oper) (s : Sp) (w : World) (σ : Env) : Prop :=
  match o.guard with
  | none => Gv P o σ w fun v w' => Ext w w' ∧ Sp.ok s v w'
  | some (j, b) => match (ops[j]?).bind (·.dst) with
    | none => False
    | some t => match look σ t with
      | none => False
      | some (.bool c) => bif Bool.xor c b then Sp.ok s undef w else Gv P o σ w fun v w' => Ext w w' ∧ Sp.ok s v w'
      | some _ => Sp.ok s undef w

/-- with what its forerunners gave -/
def depQ (sp : List Sp) (G : Env → Prop) (w : World) : List (Tmp × Nat) → Env → Prop
  | [], σ => G σ
  | (t, j) :: r, σ => match sp[j]? with
    | some (.inl v) => depQ sp G w r ((t, v) :: σ)
    | some (.inr p) => ∀ v, p v w → depQ sp G w r ((t, v) :: σ)
    | none => False

def Obs (P : Program) (w0 : World) (σ0 : Env) (ops : List Oper) (sp : List Sp) : List Oper → List Sp → List (List (Tmp × Nat)) → Prop
  | o :: os, s :: ss, d :: dd => (∀ w, Ext w0 w → depQ sp (gOk P ops o s w) w d σ0) ∧ Obs P w0 σ0 ops sp os ss dd
  | [], [], [] => True
  | _, _, _ => False

def finQ (K : Env → World → Prop) (w : World) : List Oper → List Sp → Env → Prop
  | o :: os, s :: ss, σ => match s with
    | .inl v => finQ K w os ss (putE o.dst v σ)
    | .inr p => ∀ v, p v w → finQ K w os ss (putE o.dst v σ)
  | _, _, σ => K σ w

/-! ### the proof -/
theorem nodupB_spec : ∀ {l : List Nat}, nodupB l = true → l.Nodup
  | [], _ => List.nodup_nil
  | x :: r, h => by
    simp only [nodupB, Bool.and_eq_true, List.all_eq_true] at h
    refine List.nodup_cons.2 ⟨fun hx => ?_, nodupB_spec h.2⟩
    have := h.1 x hx
    simp at this

def cnt (listed : Array Bool) : Nat → Nat
  | 0 => 0
  | k + 1 => cnt listed k + if listed.getD k true then 0 else 1

theorem cnt_set_le (listed : Array Bool) (i : Nat) : ∀ k, cnt (listed.setIfInBounds i true) k ≤ cnt listed k
  | 0 => Nat.le_refl _
  | k + 1 => by
    have ih := cnt_set_le listed i k
    simp only [cnt]
    by_cases e : i = k
    · subst e
      have h1 : (listed.setIfInBounds i true).getD i true = true := by
        by_cases hi : i < listed.size <;> simp [hi]
      rw [h1]; simp; omega
    · have h1 : (listed.setIfInBounds i true).getD k true = listed.getD k true := by
        simp [Array.getElem?_setIfInBounds_ne e]
      rw [h1]; omega

theorem cnt_set_lt (listed : Array Bool) (i : Nat) (hi : listed.getD i true = false) : ∀ k, i < k → cnt (listed.setIfInBounds i true) k < cnt listed k
  | 0, h => by omega
  | k + 1, h => by
    simp only [cnt]
    by_cases e : i = k
    · subst e
      have h1 : (listed.setIfInBounds i true).getD i true = true := by
        by_cases hi : i < listed.size <;> simp [hi]
      rw [h1, hi]
      have := cnt_set_le listed i i
      simp; omega
    · have h1 : (listed.setIfInBounds i true).getD k true = listed.getD k true := by
        simp [Array.getElem?_setIfInBounds_ne e]
      rw [h1]
      have := cnt_set_lt listed i hi k (by omega)
      omega

theorem cnt_zero (listed : Array Bool) : ∀ k, cnt listed k = 0 → ∀ i, i < k → listed.getD i true = true
  | 0, _, i, h => by omega
  | k + 1, h, i, hi => by
    simp only [cnt] at h
    by_cases e : i = k
    · subst e
      by_cases hh : listed.getD i true = true
      · exact hh
      · rw [if_neg hh] at h; omega
    · exact cnt_zero listed k (by omega) i (by omega)

section
variable {P : Program} {ro : Option Nat} {N : Nat} {ds : List Deferred} {ops : List Oper} {K : Env → World → Prop} {σ0 : Env} {w0 : World} {h : Nat} {sp : List Sp} {deps : List (List (Tmp × Nat))} {a0 : Act}

def isL (listed : Array Bool) (i : Nat) : Prop := listed.getD i false = true

/-- what holds while the head runs -/
structure InvA (N : Nat) (ds : List Deferred) (ops : List Oper) (w0 : World) (h : Nat) (sp : List Sp) (a0 : Act) (listed : Array Bool) (a : Act) (w : World) : Prop where
  size : a.tmps.size = N
  defs : a.defers = ds
  ext : Ext w0 w
  vals : ∀ (i : Nat) (o : Oper) (s : Sp) (t : Tmp), i < h → ops[i]? = some o → sp[i]? = some s → isL listed i → o.dst = some t → Sp.ok s (a.tmps.getD t undef) w
  old : ∀ t, (∀ (i : Nat) (o : Oper), i < h → ops[i]? = some o → isL listed i → o.dst ≠ some t) → a.tmps.getD t undef = a0.tmps.getD t undef
  shut : ∀ (i : Nat) (o : Oper), ops[i]? = some o → isL listed i → ∀ j, edgeTo o j = true → isL listed j
  head : ∀ i, h ≤ i → ¬ isL listed i

theorem Obs.at_ {P : Program} {w0 : World} {σ0 : Env} {ops : List Oper} {sp : List Sp} : ∀ {os : List Oper} {ss : List Sp} {dd : List (List (Tmp × Nat))}, Obs P w0 σ0 ops sp os ss dd → ∀ (i : Nat) (o : Oper), os[i]? = some o →
    ∃ s d, ss[i]? = some s ∧ dd[i]? = some d ∧ ∀ w, Ext w0 w → depQ sp (gOk P ops o s w) w d σ0
  | [], _, _, _, i, o, hi => by simp at hi
  | o' :: os, [], _, h, i, o, hi => by simp [Obs] at h
  | o' :: os, s :: ss, [], h, i, o, hi => by simp [Obs] at h
  | o' :: os, s :: ss, d :: dd, h, 0, o, hi => by
    simp at hi; subst hi
    exact ⟨s, d, rfl, rfl, h.1⟩
  | o' :: os, s :: ss, d :: dd, h, i + 1, o, hi => by
    obtain ⟨s', d', h1, h2, h3⟩ := Obs.at_ h.2 i o (by simpa using hi)
    exact ⟨s', d', by simpa using h1, by simpa using h2, h3⟩

theorem Obs.len {P : Program} {w0 : World} {σ0 : Env} {ops : List Oper} {sp : List Sp} : ∀ {os : List Oper} {ss : List Sp} {dd : List (List (Tmp × Nat))}, Obs P w0 σ0 ops sp os ss dd → ss.length = os.length
  | [], [], [], _ => rfl
  | [], [], _ :: _, h => by simp [Obs] at h
  | [], _ :: _, _, h => by simp [Obs] at h
  | o' :: os, [], _, h => by simp [Obs] at h
  | o' :: os, s :: ss, [], h => by simp [Obs] at h
  | o' :: os, s :: ss, d :: dd, h => by simp [Obs.len h.2]

theorem edgeTo_spec {o : Oper} {j : Nat} : edgeTo o j = true ↔ ∃ e ∈ o.after, Region.binds .any e = true ∧ e.on = j := by
  unfold edgeTo
  simp only [Array.any_eq_true', Bool.and_eq_true, Nat.beq_eq]

theorem closeB_listed {ops : List Oper} {listed : Array Bool} (shut : ∀ (i : Nat) (o : Oper), ops[i]? = some o → isL listed i → ∀ j, edgeTo o j = true → isL listed j) :
    ∀ (n : Nat) (m : List Nat), (∀ j ∈ m, isL listed j) → ∀ j ∈ closeB ops n m, isL listed j
  | 0, m, h, j, hj => h j hj
  | n + 1, m, h, j, hj => by
    unfold closeB at hj
    refine closeB_listed shut n _ (fun k hk => ?_) j hj
    cases hc : m.any (Nat.beq n) with
    | false => rw [hc] at hk; exact h k hk
    | true =>
      rw [hc] at hk
      simp only [cond_true, List.mem_append] at hk
      rcases hk with hk | hk
      · cases ho : ops[n]? with
        | none => rw [ho] at hk; simp at hk
        | some o =>
          rw [ho] at hk
          simp only [Option.map_some, Option.getD_some, edgesOf, List.mem_filterMap] at hk
          obtain ⟨e, he, hb⟩ := hk
          obtain ⟨x, hx, hxe⟩ := List.any_eq_true.1 hc
          have hxn : n = x := Nat.eq_of_beq_eq_true hxe
          subst hxn
          have hbb : Region.binds .any e = true := by
            cases h' : Region.binds .any e with
            | true => rfl
            | false => rw [h'] at hb; simp at hb
          rw [hbb] at hb
          simp at hb
          exact shut n o ho (h n hx) k (edgeTo_spec.2 ⟨e, by simpa using he, hbb, hb⟩)
      · exact h k hk
theorem depQ_use {sp : List Sp} {G : Env → Prop} {w : World} {val : Tmp → Value} : ∀ (d : List (Tmp × Nat)) (σ : Env), depQ sp G w d σ →
    (∀ p ∈ d, ∃ s, sp[p.2]? = some s ∧ Sp.ok s (val p.1) w) →
    ∃ σ', G σ' ∧ (∀ t v, look σ' t = some v → v = val t ∨ (look σ t = some v ∧ ∀ p ∈ d, p.1 ≠ t))
  | [], σ, h, _ => ⟨σ, h, fun t v hv => .inr ⟨hv, by simp⟩⟩
  | (t, j) :: r, σ, h, hd => by
    obtain ⟨s, hs, hok⟩ := hd (t, j) (by simp)
    simp only at hs hok
    have step : ∀ v, v = val t → depQ sp G w r ((t, v) :: σ) → ∃ σ', G σ' ∧ (∀ u v, look σ' u = some v → v = val u ∨ (look σ u = some v ∧ ∀ p ∈ (t, j) :: r, p.1 ≠ u)) := by
      intro v hv hq
      obtain ⟨σ', hG, hl⟩ := depQ_use r ((t, v) :: σ) hq (fun p hp => hd p (by simp [hp]))
      refine ⟨σ', hG, fun u x hx => ?_⟩
      rcases hl u x hx with e | ⟨hx', hr⟩
      · exact .inl e
      · by_cases e : t = u
        · subst e
          simp [look] at hx'
          exact .inl (by rw [← hx', hv])
        · simp only [look, beq_ne e, cond_false] at hx'
          refine .inr ⟨hx', fun p hp => ?_⟩
          rcases List.mem_cons.1 hp with rfl | hp
          · exact e
          · exact hr p hp
    simp only [depQ, hs] at h
    cases s with
    | inl x => exact step x hok.symm h
    | inr p => exact step (val t) rfl (h _ (hok w (Ext.refl w)))

theorem finQ_use {w : World} {ds : List Deferred} : ∀ (os : List Oper) (ss : List Sp) (σ : Env) (a : Act), ss.length = os.length → finQ K w os ss σ → (∀ o ∈ os, dOk N o.dst = true) →
    (∀ (i : Nat) (o : Oper) (s : Sp) (t : Tmp), os[i]? = some o → ss[i]? = some s → o.dst = some t → Sp.ok s (a.tmps.getD t undef) w) →
    (∀ t v, look σ t = some v → (∀ o ∈ os, o.dst ≠ some t) → a.tmps.getD t undef = v) → (dsts os).Nodup → a.tmps.size = N → a.defers = ds →
    (∀ (i : Nat) (o : Oper) (s : Sp), os[i]? = some o → ss[i]? = some s → o.dst = none → Sp.ok s undef w) →
    ∃ σ', Agr N σ' ds a ∧ K σ' w := by
  intro os
  induction os with
  | nil =>
    intro ss σ a hlen h _ _ hold _ hs hd _
    cases ss with
    | nil => exact ⟨σ, ⟨hs, hd, fun t v hv => hold t v hv (by simp)⟩, h⟩
    | cons s ss => simp at hlen
  | cons o os ih =>
    intro ss σ a hlen h hdok hval hold hnd hs hd hnone
    cases ss with
    | nil => simp at hlen
    | cons s ss =>
      have fin : ∀ v, (∀ t, o.dst = some t → a.tmps.getD t undef = v) → finQ K w os ss (putE o.dst v σ) → ∃ σ', Agr N σ' ds a ∧ K σ' w := by
        intro v hv hq
        refine ih ss (putE o.dst v σ) a (by simpa using hlen) hq (fun o' ho' => hdok o' (by simp [ho'])) (fun i o' s' t h1 h2 h3 => hval (i + 1) o' s' t (by simpa using h1) (by simpa using h2) h3) ?_ ?_ hs hd
          (fun i o' s' h1 h2 h3 => hnone (i + 1) o' s' (by simpa using h1) (by simpa using h2) h3)
        · intro t x hx hno
          cases ho : o.dst with
          | none => rw [ho] at hx; exact hold t x hx (by simpa [ho] using hno)
          | some u =>
            rw [ho] at hx
            by_cases e : u = t
            · subst e
              simp [putE, look] at hx
              rw [← hx]; exact hv u ho
            · simp only [putE, look, beq_ne e, cond_false] at hx
              exact hold t x hx (by simpa [ho, e] using hno)
        · cases ho : o.dst with
          | none => simpa [dsts, ho] using hnd
          | some u => have : (u :: dsts os).Nodup := by simpa [dsts, ho] using hnd
                      exact (List.nodup_cons.1 this).2
      cases s with
      | inl x =>
        refine fin x (fun t ht => hval 0 o (.inl x) t rfl rfl ht) h
      | inr p =>
        cases ho : o.dst with
        | none => exact fin undef (fun t ht => by rw [ho] at ht; cases ht) (h undef (hnone 0 o (.inr p) rfl rfl ho w (Ext.refl w)))
        | some t => exact fin (a.tmps.getD t undef) (fun t' ht' => by rw [ho] at ht'; cases ht'; rfl) (h _ (hval 0 o (.inr p) t rfl rfl ho w (Ext.refl w)))

theorem mem_ready {ops : Array Oper} {listed : Array Bool} {i : Nat} : i ∈ Region.ready .any ops listed ↔ i < ops.size ∧ listed.getD i true = false ∧ ∀ o, ops[i]? = some o → ∀ j, edgeTo o j = true → isL listed j := by
  unfold Region.ready
  rw [List.mem_filter, List.mem_range]
  refine and_congr_right fun hi => ?_
  rw [Array.getElem?_eq_getElem hi]
  simp only [Bool.and_eq_true, Bool.not_eq_true', Option.map_some, Option.getD_some, Option.some.injEq, forall_eq']
  refine and_congr_right fun _ => ?_
  simp only [Array.all_eq_true', Bool.or_eq_true, Bool.not_eq_true', edgeTo_spec, isL]
  constructor
  · rintro h j ⟨e, he, hb, rfl⟩
    rcases h e he with h | h
    · rw [hb] at h; cases h
    · exact h
  · intro h e he
    cases hb : Region.binds .any e with
    | false => exact .inl rfl
    | true => exact .inr (h e.on ⟨e, he, hb, rfl⟩)

theorem getD_of_isL {listed : Array Bool} {i : Nat} (h : i < listed.size) : (listed.getD i true = false ↔ ¬ isL listed i) := by
  unfold isL
  simp [h]

theorem isL_set {listed : Array Bool} {i j : Nat} (h : i < listed.size) : isL (listed.setIfInBounds i true) j ↔ (i = j ∨ isL listed j) := by
  unfold isL
  by_cases e : i = j
  · subst e; simp [h]
  · simp [Array.getElem?_setIfInBounds_ne e, e]

section
variable {Q : Exit → Act → World → Prop}

set_option maxHeartbeats 1600000 in
theorem par_any (hchk : okPar ops N h deps = true) (ha0 : Agr N σ0 ds a0) (hob : Obs P w0 σ0 (ops.take h) sp (ops.take h) sp deps)
    (hfin : ∀ w, Ext w0 w → finQ (fun σ w => ∀ a, Agr N σ ds a → wpListIn (wf ro) 0 P ops.toArray Q (ops.drop h) a w) w (ops.take h) sp σ0) :
    ∀ (fuel : Nat) (listed : Array Bool) (a : Act) (w : World), listed.size = ops.length → cnt listed ops.length ≤ fuel →
      (InvA N ds ops w0 h sp a0 listed a w ∨ ∃ p, h ≤ p ∧ p ≤ ops.length ∧ (∀ j, j < p → isL listed j) ∧ (∀ j, p ≤ j → ¬ isL listed j) ∧ wpListIn (wf ro) 0 P ops.toArray Q (ops.drop p) a w) →
      wpAnyIn (wf ro) 0 P .any ops.toArray Q fuel listed a w := by
  simp only [okPar, Bool.and_eq_true, List.all_eq_true, Nat.ble_eq] at hchk
  obtain ⟨⟨⟨hback, hnd⟩, hall⟩, hle⟩ := hchk
  have hback' : ∀ (i : Nat) (o : Oper), ops[i]? = some o → ∀ j, edgeTo o j = true → j < i := by
    intro i o hi j hj
    have := hback (o, i) (by rw [List.mem_zipIdx_iff_getElem?]; exact hi)
    obtain ⟨e, he, hb, rfl⟩ := edgeTo_spec.1 hj
    simp only [okBack, Array.all_eq_true', Bool.or_eq_true, Bool.not_eq_true', Nat.blt_eq] at this
    rcases this e he with h | h
    · rw [hb] at h; cases h
    · exact h
  have hop : ∀ (i : Nat) (o : Oper), i < h → ops[i]? = some o → okOp (ops.take h) N i o (deps.getD i []) = true := by
    intro i o hi ho
    have := hall (o, i) (by rw [List.mem_zipIdx_iff_getElem?]; exact ho)
    simpa [Nat.blt_eq, hi] using this
  have htail : ∀ (listed : Array Bool), (∀ (i : Nat) (o : Oper), ops[i]? = some o → isL listed i → ∀ j, edgeTo o j = true → isL listed j) → ∀ (i : Nat) (o : Oper), h ≤ i → ops[i]? = some o → (∀ j, edgeTo o j = true → isL listed j) → ∀ j, j < i → isL listed j := by
    intro listed shut i o hi ho hed j hj
    have := hall (o, i) (by rw [List.mem_zipIdx_iff_getElem?]; exact ho)
    have hn : Nat.blt i h = false := by
      cases hh : Nat.blt i h with
      | false => rfl
      | true => rw [Nat.blt_eq] at hh; omega
    simp only [hn, Bool.false_eq_true, if_false, okTail, List.all_eq_true, List.mem_range] at this
    obtain ⟨x, hx, hxe⟩ := List.any_eq_true.1 (this j hj)
    have hxj : j = x := Nat.eq_of_beq_eq_true hxe
    subst hxj
    refine closeB_listed shut _ _ (fun k hk => ?_) j hx
    simp only [edgesOf, List.mem_filterMap] at hk
    obtain ⟨e, he, hb⟩ := hk
    have hbb : Region.binds .any e = true := by
      cases h' : Region.binds .any e with
      | true => rfl
      | false => rw [h'] at hb; simp at hb
    rw [hbb] at hb
    simp at hb
    exact hed k (edgeTo_spec.2 ⟨e, by simpa using he, hbb, hb⟩)
  have htake : ∀ i, i < h → (ops.take h)[i]? = ops[i]? := fun i hi => by rw [List.getElem?_take, if_pos hi]
  have hlen := Obs.len hob
  have hlt : (ops.take h).length = h := by simp; omega
  -- all of the head has run
  have toB : ∀ listed a w, InvA N ds ops w0 h sp a0 listed a w → (∀ i, i < h → isL listed i) → wpListIn (wf ro) 0 P ops.toArray Q (ops.drop h) a w := by
    intro listed a w hI hl
    have hmem : ∀ o ∈ ops.take h, ∃ i, i < h ∧ ops[i]? = some o := by
      intro o ho
      obtain ⟨i, hi⟩ := List.mem_iff_getElem?.1 ho
      have hi' : i < h := by
        rcases Nat.lt_or_ge i h with hh | hh
        · exact hh
        · rw [List.getElem?_eq_none (by omega)] at hi; cases hi
      exact ⟨i, hi', by rw [← htake i hi']; exact hi⟩
    have hsome : ∀ o ∈ ops.take h, dOk N o.dst = true ∧ o.dst.isSome = true := by
      intro o ho
      obtain ⟨i, hi, ho⟩ := hmem o ho
      have := hop i o hi ho
      simp only [okOp, Bool.and_eq_true] at this
      exact ⟨this.1.1.1.1.1, this.1.1.1.1.2⟩
    obtain ⟨σ', hag, hk⟩ := finQ_use (N := N) (ds := ds) (ops.take h) sp σ0 a hlen (hfin w hI.ext) (fun o ho => (hsome o ho).1)
      (fun i o s t h1 h2 h3 => by
        have hi' : i < h := by
          rcases Nat.lt_or_ge i h with hh | hh
          · exact hh
          · rw [List.getElem?_eq_none (by omega)] at h1; cases h1
        exact hI.vals i o s t hi' (by rw [← htake i hi']; exact h1) h2 (hl i hi') h3)
      (fun t v hv hno => by
        rw [hI.old t (fun i o hi ho _ => hno o (List.mem_iff_getElem?.2 ⟨i, by rw [htake i hi]; exact ho⟩))]
        exact ha0.slot t v hv)
      (nodupB_spec hnd) hI.size hI.defs
      (fun i o s h1 h2 h3 => by
        have := (hsome o (List.mem_iff_getElem?.2 ⟨i, h1⟩)).2
        rw [h3] at this; cases this)
    exact hk a hag
  -- where nothing is ready all has run
  have allL : ∀ listed : Array Bool, listed.size = ops.length → Region.ready .any ops.toArray listed = [] → ∀ i, i < ops.length → isL listed i := by
    intro listed hsz hr i
    induction i using Nat.strongRecOn with
    | _ i ih =>
      intro hi
      by_cases hh : isL listed i
      · exact hh
      · have : i ∈ Region.ready .any ops.toArray listed := by
          refine mem_ready.2 ⟨by simpa using hi, (getD_of_isL (by omega)).2 hh, fun o ho j hj => ?_⟩
          have := hback' i o (by simpa using ho) j hj
          exact ih j this (by omega)
        rw [hr] at this; cases this
  have done : ∀ listed a w, (∀ i, i < ops.length → isL listed i) → (InvA N ds ops w0 h sp a0 listed a w ∨ ∃ p, h ≤ p ∧ p ≤ ops.length ∧ (∀ j, j < p → isL listed j) ∧ (∀ j, p ≤ j → ¬ isL listed j) ∧ wpListIn (wf ro) 0 P ops.toArray Q (ops.drop p) a w) → Q .normal a w := by
    intro listed a w hl hJ
    rcases hJ with hI | ⟨p, hp, hpn, _, hno, hwp⟩
    · have hn : ops.length ≤ h := Nat.le_of_not_lt fun hh => hI.head h (Nat.le_refl _) (hl h hh)
      have := toB listed a w hI (fun i hi => hl i (by omega))
      rw [List.drop_of_length_le hn] at this
      exact this
    · have hn : ops.length ≤ p := Nat.le_of_not_lt fun hh => hno p (Nat.le_refl _) (hl p hh)
      rw [List.drop_of_length_le hn] at hwp
      exact hwp
  intro fuel
  induction fuel with
  | zero =>
    intro listed a w hsz hc hJ
    have hl : ∀ i, i < ops.length → isL listed i := by
      intro i hi
      have := cnt_zero listed ops.length (by omega) i hi
      by_cases hh : isL listed i
      · exact hh
      · have := (getD_of_isL (by omega : i < listed.size)).2 hh
        simp_all
    refine ⟨?_, done listed a w hl hJ⟩
    refine List.eq_nil_iff_forall_not_mem.2 fun i hi => ?_
    obtain ⟨h1, h2, _⟩ := mem_ready.1 hi
    have h1' : i < ops.length := by simpa using h1
    exact (getD_of_isL (by omega)).1 h2 (hl i h1')
  | succ fuel ih =>
    intro listed a w hsz hc hJ
    refine ⟨fun hr => done listed a w (allL listed hsz hr) hJ, fun i hi => ?_⟩
    obtain ⟨hin, hun, hed⟩ := mem_ready.1 hi
    have hin' : i < ops.length := by simpa using hin
    have hunl : ¬ isL listed i := (getD_of_isL (by omega)).1 hun
    obtain ⟨o, ho⟩ : ∃ o, ops[i]? = some o := ⟨_, List.getElem?_eq_getElem hin'⟩
    have hed' : ∀ j, edgeTo o j = true → isL listed j := hed o (by simpa using ho)
    have hsz' : (listed.setIfInBounds i true).size = ops.length := by simpa using hsz
    have hcnt : cnt (listed.setIfInBounds i true) ops.length ≤ fuel := by
      have := cnt_set_lt listed i hun ops.length hin'
      omega
    -- the tail's next
    have tailStep : h ≤ i → (∀ j, j < i → isL listed j) → (∀ j, i ≤ j → ¬ isL listed j) → wpListIn (wf ro) 0 P ops.toArray Q (ops.drop i) a w →
        wpOpIn (wf ro) 0 P ops.toArray Q i (wpAnyIn (wf ro) 0 P .any ops.toArray Q fuel (listed.setIfInBounds i true)) a w := by
      intro hhi hlow hhigh hwp
      have hd : ops.drop i = o :: ops.drop (i + 1) := by
        rw [List.drop_eq_getElem_cons hin']
        congr 1
        have := List.getElem?_eq_getElem hin'
        rw [ho] at this; exact (Option.some.inj this).symm
      rw [hd] at hwp
      have hw2 : wpOpIn (wf ro) 0 P ops.toArray Q i (wpListIn (wf ro) 0 P ops.toArray Q (ops.drop (i + 1))) a w := by
        unfold wpOpIn
        simp only [List.getElem?_toArray, ho]
        simpa only [wpListIn] using hwp
      refine wpOpIn_mono (fun a' w' hw' => ih _ a' w' hsz' hcnt (.inr ⟨i + 1, by omega, by omega, fun j hj => ?_, fun j hj => ?_, hw'⟩)) hw2
      · rw [isL_set (by omega)]
        by_cases e : i = j
        · exact .inl e
        · exact .inr (hlow j (by omega))
      · rw [isL_set (by omega)]
        rintro (e | e)
        · omega
        · exact hhigh j (by omega) e
    rcases hJ with hI | ⟨p, hp, hpn, hlow, hhigh, hwp⟩
    · rcases Nat.lt_or_ge i h with hih | hih
      · -- an operation of the head
        have hok := hop i o hih ho
        simp only [okOp, Bool.and_eq_true, List.all_eq_true] at hok
        obtain ⟨⟨⟨⟨⟨hdk, hds⟩, hgd⟩, hndf⟩, hdep⟩, hrd⟩ := hok
        obtain ⟨s, d, hs, hd, hq⟩ := Obs.at_ hob i o (by rw [htake i hih]; exact ho)
        have hdd : deps.getD i [] = d := by simp [hd]
        rw [hdd] at hdep hrd hgd
        obtain ⟨t0, ht0⟩ := Option.isSome_iff_exists.1 hds
        obtain ⟨σ', hG, hσ'⟩ := depQ_use (val := fun t => a.tmps.getD t undef) d σ0 (hq w hI.ext) (fun p hp => by
          have h1 := hdep p hp
          obtain ⟨h2, h3⟩ := h1
          split at h3
          · rename_i oj hoj
            have hlj := hed' _ h2
            have hjh : p.2 < h := Nat.lt_of_not_le fun hh => hI.head _ hh hlj
            obtain ⟨s', hs'⟩ : ∃ s', sp[p.2]? = some s' := ⟨_, List.getElem?_eq_getElem (by omega)⟩
            exact ⟨s', hs', hI.vals p.2 oj s' p.1 hjh (by rw [← htake _ hjh]; exact hoj) hs' hlj (by simpa using h3)⟩
          · cases h3)
        have hopnd : ∀ x v, x ∈ o.op.operands → ev σ' x = some v → a.eval x = v := by
          intro x v hx hv
          cases x with
          | const u => simpa [Kx.ev, Act.eval] using hv
          | global g => simpa [Kx.ev, Act.eval] using hv
          | func f => simpa [Kx.ev, Act.eval] using hv
          | tmp t =>
            rcases hσ' t v hv with e | ⟨hv0, hnd'⟩
            · exact e.symm
            · have hmem : t ∈ tmpsOf o := by
                unfold tmpsOf
                rw [List.mem_filterMap]
                exact ⟨.tmp t, by simpa using hx, rfl⟩
              have hc := hrd t hmem
              simp only [Bool.or_eq_true] at hc
              rcases hc with hc | hc
              · obtain ⟨p, hp, hpt⟩ := List.any_eq_true.1 hc
                exact absurd (by simpa using hpt) (hnd' p hp)
              · show a.tmps.getD t undef = v
                rw [hI.old t (fun i' o' hi' ho' hl' hdst => ?_), ha0.slot t v hv0]
                have := List.all_eq_true.1 hc (o', i') (by rw [List.mem_zipIdx_iff_getElem?, htake i' hi']; exact ho')
                simp only [Bool.or_eq_true] at this
                rcases this with (h1 | h1) | h1
                · simp [hdst] at h1
                · have : i' = i := by simpa using h1
                  subst this; exact hunl hl'
                · exact hunl (hI.shut i' o' ho' hl' i h1)
        -- what the frame is behind it
        have next : ∀ v w', Ext w w' → Sp.ok s v w' → wpAnyIn (wf ro) 0 P .any ops.toArray Q fuel (listed.setIfInBounds i true) (a.put o.dst v) w' := by
          intro v w' he hv
          refine ih _ _ _ hsz' hcnt (.inl ⟨by simpa [ht0, Act.put] using hI.size, by simpa [ht0, Act.put] using hI.defs, hI.ext.trans he, ?_, ?_, ?_, ?_⟩)
          · intro j oj sj t hj hoj hsj hlj hdj
            rw [isL_set (by omega)] at hlj
            have htN : t0 < N := by simpa [ht0, dOk, Nat.blt_eq] using hdk
            by_cases e : i = j
            · subst e
              rw [ho] at hoj; cases hoj
              rw [hs] at hsj; cases hsj
              rw [ht0] at hdj; cases hdj
              have : (a.put o.dst v).tmps.getD t0 undef = v := by simp [ht0, Act.put, hI.size, htN]
              rw [this]; exact hv
            · have hlj' := hlj.resolve_left e
              have hne : t0 ≠ t := by
                intro e2
                subst e2
                have hnd2 := nodupB_spec hnd
                have : ∀ (l : List Oper) (x y : Nat) (ox oy : Oper), (dsts l).Nodup → l[x]? = some ox → l[y]? = some oy → ox.dst = some t0 → oy.dst = some t0 → x = y := by
                  intro l
                  induction l with
                  | nil => intro x y ox oy _ hx; simp at hx
                  | cons c l ihl =>
                    intro x y ox oy hn hx hy dx dy
                    have hin : ∀ (z : Nat) (oz : Oper), l[z]? = some oz → oz.dst = some t0 → t0 ∈ dsts l := fun z oz hz dz => List.mem_filterMap.2 ⟨oz, List.mem_iff_getElem?.2 ⟨z, hz⟩, dz⟩
                    have hcons : ∀ oc : Oper, oc = c → oc.dst = some t0 → t0 ∉ dsts l ∧ (dsts l).Nodup := by
                      rintro oc rfl hc
                      have : (t0 :: dsts l).Nodup := by simpa [dsts, hc] using hn
                      exact List.nodup_cons.1 this
                    cases x with
                    | zero =>
                      simp at hx
                      cases y with
                      | zero => rfl
                      | succ y => exact absurd (hin y oy (by simpa using hy) dy) (hcons ox hx.symm dx).1
                    | succ x =>
                      cases y with
                      | zero => simp at hy; exact absurd (hin x ox (by simpa using hx) dx) (hcons oy hy.symm dy).1
                      | succ y =>
                        have hn' : (dsts l).Nodup := by
                          cases hc : c.dst with
                          | none => simpa [dsts, hc] using hn
                          | some u => have : (u :: dsts l).Nodup := by simpa [dsts, hc] using hn
                                      exact (List.nodup_cons.1 this).2
                        exact congrArg (· + 1) (ihl x y ox oy hn' (by simpa using hx) (by simpa using hy) dx dy)
                exact e (this (ops.take h) i j o oj hnd2 (by rw [htake i hih]; exact ho) (by rw [htake j hj]; exact hoj) ht0 hdj)
              have : (a.put o.dst v).tmps.getD t undef = a.tmps.getD t undef := by simp [ht0, Act.put, Array.getElem?_setIfInBounds_ne hne]
              rw [this]
              exact Sp.ok_ext (hI.vals j oj sj t hj hoj hsj hlj' hdj) he
          · intro t hno
            have hne : t0 ≠ t := fun e => hno i o hih ho ((isL_set (by omega)).2 (.inl rfl)) (e ▸ ht0)
            have : (a.put o.dst v).tmps.getD t undef = a.tmps.getD t undef := by simp [ht0, Act.put, Array.getElem?_setIfInBounds_ne hne]
            rw [this]
            exact hI.old t fun j oj hj hoj hlj => hno j oj hj hoj ((isL_set (by omega)).2 (.inr hlj))
          · intro j oj hoj hlj k hk
            rw [isL_set (by omega)] at hlj ⊢
            by_cases e : i = j
            · subst e
              rw [ho] at hoj; cases hoj
              exact .inr (hed' k hk)
            · exact .inr (hI.shut j oj hoj (hlj.resolve_left e) k hk)
          · intro j hj
            rw [isL_set (by omega)]
            rintro (e | e)
            · omega
            · exact hI.head j hj e
        unfold wpOpIn
        simp only [List.getElem?_toArray, ho]
        -- run or passed over
        have run : Gv P o σ' w (fun v w' => Ext w w' ∧ Sp.ok s v w') → o.wpIn (wf ro) 0 P a w (wpAnyIn (wf ro) 0 P .any ops.toArray Q fuel (listed.setIfInBounds i true)) Q :=
          fun hg => hg.wp hopnd fun v w' hv => next v w' hv.1 hv.2
        cases hgu : o.guard with
        | none =>
          simp only [gOk, hgu] at hG
          rw [if_pos (by simp [Region.wanted, hgu])]
          exact run hG
        | some g =>
          obtain ⟨j, b⟩ := g
          simp only [hgu] at hgd
          obtain ⟨p, hp, hpj⟩ := List.any_eq_true.1 hgd
          have hpj' : p.2 = j := by simpa using hpj
          have h1 := hdep p hp
          obtain ⟨h2, h3⟩ := h1
          rw [hpj'] at h2 h3
          split at h3
          · rename_i oj hoj
            have hdst : oj.dst = some p.1 := by simpa using h3
            have hjh : j < h := by
              rcases Nat.lt_or_ge j h with hh | hh
              · exact hh
              · rw [List.getElem?_eq_none (by omega)] at hoj; cases hoj
            have hoj' : ops[j]? = some oj := by rw [← htake j hjh]; exact hoj
            simp only [gOk, hgu, hoj, Option.bind_some, hdst] at hG
            have hyv : ∀ v, look σ' p.1 = some v → a.tmps.getD p.1 undef = v := by
              intro v hv
              rcases hσ' p.1 v hv with e | ⟨_, hn⟩
              · exact e.symm
              · exact absurd rfl (hn p hp)
            have hpN : p.1 < a.tmps.size := by
              have := hop j oj hjh hoj'
              simp only [okOp, Bool.and_eq_true] at this
              have := this.1.1.1.1.1
              rw [hdst] at this
              rw [hI.size]; simpa [dOk, Nat.blt_eq] using this
            have hyd : ∀ v, look σ' p.1 = some v → yielded ops.toArray a.tmps j = match v with | .bool b => some b | _ => none := by
              intro v hv
              have e1 := hyv v hv
              have e2 : a.tmps[p.1]? = some v := by
                rw [Array.getElem?_eq_getElem hpN]
                simp [Array.getElem?_eq_getElem hpN] at e1
                exact congrArg some e1
              unfold yielded
              simp only [List.getElem?_toArray, hoj', Option.bind_some, hdst, e2]
              cases v <;> rfl
            have skip : (∃ v, look σ' p.1 = some v ∧ (match v with | .bool b => some b | _ => none) ≠ some b) → Sp.ok s undef w →
                (if Region.wanted o (yielded ops.toArray a.tmps) = true then o.wpIn (wf ro) 0 P a w (wpAnyIn (wf ro) 0 P .any ops.toArray Q fuel (listed.setIfInBounds i true)) Q
                  else (∀ f, o.about P w a.eval = some f → (wf ro).fn f) ∧ wpAnyIn (wf ro) 0 P .any ops.toArray Q fuel (listed.setIfInBounds i true) (a.put o.dst undef) w) := by
              rintro ⟨v, hv, hne⟩ hok
              rw [if_neg (by simp only [Region.wanted, hgu, hyd v hv]; simpa using hne)]
              exact ⟨fun _ _ => trivial, next undef w (Ext.refl w) hok⟩
            split at hG
            · exact hG.elim
            · rename_i c hc
              cases hx : Bool.xor c b with
              | true =>
                rw [hx] at hG
                refine skip ⟨.bool c, hc, ?_⟩ hG
                intro e
                simp only [Option.some.injEq] at e
                subst e; simp at hx
              | false =>
                rw [hx] at hG
                have hcb : c = b := by cases c <;> cases b <;> simp_all
                rw [if_pos (by simp only [Region.wanted, hgu, hyd _ hc, hcb]; simp)]
                exact run hG
            · rename_i v hnb hv
              refine skip ⟨v, hv, ?_⟩ hG
              intro e
              cases v with
              | bool c => exact hnb c rfl
              | _ => cases e
          · cases h3
      · have hall' : ∀ j, j < i → isL listed j := fun j hj => htail listed hI.shut i o hih ho hed' j hj
        have e : i = h := by
          rcases Nat.lt_or_ge h i with hh | hh
          · exact absurd (hall' h hh) (hI.head h (Nat.le_refl _))
          · omega
        subst e
        exact tailStep (Nat.le_refl _) hall' hI.head (toB listed a w hI hall')
    · have hpi : p = i := by
        have h1 : p ≤ i := Nat.le_of_not_lt fun hh => hunl (hlow i hh)
        rcases Nat.lt_or_ge p i with hh | hh
        · exact absurd (htail listed (fun k ok hok hlk j hj => hlow j (by have := hback' k ok hok j hj; have : k < p := Nat.lt_of_not_le (fun h => hhigh k h hlk); omega)) i o (by omega) ho hed' p hh) (hhigh p (Nat.le_refl _))
        · omega
      subst hpi
      exact tailStep hp hlow hhigh hwp
end

theorem cnt_le (listed : Array Bool) : ∀ k, cnt listed k ≤ k
  | 0 => Nat.le_refl _
  | k + 1 => by
    have := cnt_le listed k
    simp only [cnt]
    split <;> omega

/-- **a region that draws its order** -/
theorem WC.par {Q : Pst} {id : Nat} (hm : P.follows .mixedOrders = true) (h : Nat) (sp : List Sp) (deps : List (List (Tmp × Nat))) (hchk : okPar ops N h deps = true)
    (hob : Obs P w0 σ0 (ops.take h) sp (ops.take h) sp deps)
    (hfin : ∀ w, Ext w0 w → finQ (fun σ w => WL P ro N ds ops.toArray (fun σ w => Q .normal σ ds w) (ops.drop h) σ w) w (ops.take h) sp σ0) : WC P ro N Q (.region id ops.toArray true) σ0 ds w0 := by
  refine ⟨fun a ha => ?_⟩
  have main : (Code.region id ops.toArray true).wpIn (wf ro) 0 P (fun e a w => e = .normal ∧ ∃ σ', Agr N σ' ds a ∧ Q .normal σ' ds w) a w0 := by
    refine wpIn_region_draw fun t => ?_
    simp only [Region.schedule, hm, Bool.true_or, if_true]
    refine wpAnyIn_sound ops.toArray.size t _ a _ ?_
    have hfalse : ∀ i, ¬ isL (Array.replicate ops.toArray.size false) i := by
      intro i
      unfold isL
      by_cases hi : i < ops.length <;> simp [hi]
    refine par_any hchk ha hob (fun w he => ?_) _ _ _ _ (by simp) (by simpa using cnt_le _ _) (.inl ⟨ha.size, ha.defs, (Below.refl _ w0).drew, fun i o s t _ _ _ hl => absurd hl (hfalse i), fun t _ => rfl, fun i o _ hl => absurd hl (hfalse i), fun i _ => hfalse i⟩)
    have key : ∀ (os : List Oper) (ss : List Sp) (σ : Env), finQ (fun σ w => WL P ro N ds ops.toArray (fun σ w => Q .normal σ ds w) (ops.drop h) σ w) w os ss σ →
        finQ (fun σ w => ∀ a, Agr N σ ds a → wpListIn (wf ro) 0 P ops.toArray (fun e a w => e = .normal ∧ ∃ σ', Agr N σ' ds a ∧ Q .normal σ' ds w) (ops.drop h) a w) w os ss σ := by
      intro os
      induction os with
      | nil => intro ss σ hq; exact WL.out hq
      | cons o os ih =>
        intro ss σ hq
        cases ss with
        | nil => exact WL.out hq
        | cons s ss =>
          cases s with
          | inl v => exact ih ss _ hq
          | inr p => exact fun v hv => ih ss _ (hq v hv)
    exact key _ _ _ (hfin w he)
  refine wpIn_mono main ?_
  rintro e a' w' ⟨rfl, σ', hag, hk⟩
  exact ⟨σ', ds, hag, hk⟩
end
end Go.Kx

namespace Go.Kx
open Go Go.RowKit

/-- an operation that gives one value and leaves the world -/
def Vl (P : Program) (o : Oper) (σ : Env) (w : World) (v : Value) : Prop :=
  (∀ c, o.op ≠ .defer c) ∧ ∀ ρ : Operand → Value, (∀ x v, x ∈ o.op.operands → ev σ x = some v → ρ x = v) → (execOp ρ o).run P w = .ok (.value v) w

section
variable {P : Program} {ro : Option Nat} {N : Nat} {ds : List Deferred} {ops : Array Oper} {K : Env → World → Prop} {rest : List Oper} {σ : Env} {w : World} {o : Oper} {v : Value}

theorem Vl.gv (h : Vl P o σ w v) : Gv P o σ w fun v' w' => v' = v ∧ w' = w := ⟨h.1, fun ρ hρ => .inl ⟨v, w, h.2 ρ hρ, rfl, rfl⟩⟩
theorem WL.vl (hg : o.guard = none) (hd : dOk N o.dst = true) (h : Vl P o σ w v) (k : WL P ro N ds ops K rest (putE o.dst v σ) w) : WL P ro N ds ops K (o :: rest) σ w :=
  WL.gv hg hd h.gv fun v' w' ⟨e1, e2⟩ => by subst e1; subst e2; exact k
/-- its obligation in a region that draws -/
theorem Vl.ob (h : Vl P o σ w v) : Gv P o σ w fun v' w' => Ext w w' ∧ Sp.ok (.inl v) v' w' := h.gv.mono fun v' w' ⟨e1, e2⟩ => by subst e2; exact ⟨Ext.refl _, e1⟩
end

section
variable {P : Program} {σ : Env} {w : World} {d : Option Tmp} {ty : TypeId} {pos : String} {af : Array Edge} {g : Option (Nat × Bool)}

theorem v_mv {x : Operand} {v : Value} (h : ev σ x = some v) : Vl P ⟨d, .move x, ty, pos, af, g⟩ σ w v :=
  ⟨(by intro _ h; cases h), fun ρ hρ => by rw [← hρ x v (by simp [Op.operands]) h]; rfl⟩
theorem v_as {x : Operand} {v : Value} (h : ev σ x = some v) : Vl P ⟨d, .assign x, ty, pos, af, g⟩ σ w v :=
  ⟨(by intro _ h; cases h), fun ρ hρ => by rw [← hρ x v (by simp [Op.operands]) h]; rfl⟩
theorem v_pickT {c x y : Operand} {v : Value} (hc : ev σ c = some (.bool true)) (h : ev σ x = some v) : Vl P ⟨d, .pick c x y, ty, pos, af, g⟩ σ w v :=
  ⟨(by intro _ h; cases h), fun ρ hρ => by
    have h1 := hρ c _ (by simp [Op.operands]) hc
    have h2 := hρ x _ (by simp [Op.operands]) h
    simp [execOp, h1, h2, asBool]⟩
theorem v_pickF {c x y : Operand} {v : Value} (hc : ev σ c = some (.bool false)) (h : ev σ y = some v) : Vl P ⟨d, .pick c x y, ty, pos, af, g⟩ σ w v :=
  ⟨(by intro _ h; cases h), fun ρ hρ => by
    have h1 := hρ c _ (by simp [Op.operands]) hc
    have h2 := hρ y _ (by simp [Op.operands]) h
    simp [execOp, h1, h2, asBool]⟩
theorem v_mf {fn : Fn} {fs cs : Array Operand} {v : Value} (vf vc : List Value) (hf : fs.toList.map (ev σ) = vf.map some) (hc : cs.toList.map (ev σ) = vc.map some) (hv : v = .func fn vf.toArray vc.toArray) :
    Vl P ⟨d, .makeFunc fn fs cs, ty, pos, af, g⟩ σ w v := by
  refine ⟨(by intro _ h; cases h), fun ρ hρ => ?_⟩
  have key : ∀ (l : List Operand) (vs : List Value), (∀ x ∈ l, x ∈ fs ++ cs) → l.map (ev σ) = vs.map some → l.map ρ = vs := by
    intro l
    induction l with
    | nil => intro vs _ h; cases vs with
      | nil => rfl
      | cons => simp at h
    | cons x l ih =>
      intro vs hm h
      cases vs with
      | nil => simp at h
      | cons y vs =>
        simp only [List.map_cons, List.cons.injEq] at h ⊢
        exact ⟨hρ x y (by simpa [Op.operands] using hm x (by simp)) h.1, ih vs (fun z hz => hm z (by simp [hz])) h.2⟩
  have h1 := key fs.toList vf (fun x hx => by simp at hx; simp [hx]) hf
  have h2 := key cs.toList vc (fun x hx => by simp at hx; simp [hx]) hc
  have e1 : fs.map ρ = vf.toArray := by apply Array.toList_inj.1; simpa using h1
  have e2 : cs.map ρ = vc.toArray := by apply Array.toList_inj.1; simpa using h2
  simp [execOp, Instr.makeFunc, e1, e2, hv]

/-! numbers -/
theorem v_bin {op : BinOp} {xt yt : TypeId} {x y : Operand} {vx vy v : Value} (hx : ev σ x = some vx) (hy : ev σ y = some vy)
    (hg : ∀ (a b : Operand), (eqGuard op xt a b vx vy).run P w = .ok () w) (h : (binOp op xt vx vy).run P w = .ok v w) : Vl P ⟨d, .binOp op xt x y yt, ty, pos, af, g⟩ σ w v :=
  ⟨(by intro _ h; cases h), fun ρ hρ => by
    have h1 := hρ x _ (by simp [Op.operands]) hx
    have h2 := hρ y _ (by simp [Op.operands]) hy
    simp [execOp, h1, h2, hg, h]⟩
theorem guard_int {op : BinOp} {t : TypeId} {k k' : IntKind} {m n : Int} (a b : Operand) : (eqGuard op t a b (.int k m) (.int k' n)).run P w = .ok () w := by
  unfold eqGuard
  cases op <;> simp
theorem guard_bool {op : BinOp} {t : TypeId} {m n : Bool} (a b : Operand) : (eqGuard op t a b (.bool m) (.bool n)).run P w = .ok () w := by
  unfold eqGuard
  cases op <;> simp
section
variable {xt yt : TypeId} {x y : Operand} {k : IntKind} {m n : Int}
theorem v_add (hx : ev σ x = some (.int k m)) (hy : ev σ y = some (.int k n)) : Vl P ⟨d, .binOp .add xt x y yt, ty, pos, af, g⟩ σ w (.int k (k.wrap (m + n))) :=
  v_bin hx hy guard_int (by simp [binOp, Op.intArith])
theorem v_sub (hx : ev σ x = some (.int k m)) (hy : ev σ y = some (.int k n)) : Vl P ⟨d, .binOp .sub xt x y yt, ty, pos, af, g⟩ σ w (.int k (k.wrap (m - n))) :=
  v_bin hx hy guard_int (by simp [binOp, Op.intArith])
theorem v_mul (hx : ev σ x = some (.int k m)) (hy : ev σ y = some (.int k n)) : Vl P ⟨d, .binOp .mul xt x y yt, ty, pos, af, g⟩ σ w (.int k (k.wrap (m * n))) :=
  v_bin hx hy guard_int (by simp [binOp, Op.intArith])
theorem v_quo (hx : ev σ x = some (.int k m)) (hy : ev σ y = some (.int k n)) (hn : n ≠ 0) : Vl P ⟨d, .binOp .quo xt x y yt, ty, pos, af, g⟩ σ w (.int k (k.wrap (m.tdiv n))) :=
  v_bin hx hy guard_int (by simp [binOp, Op.intDiv, hn])
theorem v_rem (hx : ev σ x = some (.int k m)) (hy : ev σ y = some (.int k n)) (hn : n ≠ 0) : Vl P ⟨d, .binOp .rem xt x y yt, ty, pos, af, g⟩ σ w (.int k (m.tmod n)) :=
  v_bin hx hy guard_int (by simp [binOp, Op.intDiv, hn])
theorem v_and (hx : ev σ x = some (.int k m)) (hy : ev σ y = some (.int k n)) : Vl P ⟨d, .binOp .and xt x y yt, ty, pos, af, g⟩ σ w (.int k (k.wrap (BitVec.ofInt k.bits m &&& BitVec.ofInt k.bits n).toNat)) :=
  v_bin hx hy guard_int (by simp [binOp, Op.intBits])
theorem v_or (hx : ev σ x = some (.int k m)) (hy : ev σ y = some (.int k n)) : Vl P ⟨d, .binOp .or xt x y yt, ty, pos, af, g⟩ σ w (.int k (k.wrap (BitVec.ofInt k.bits m ||| BitVec.ofInt k.bits n).toNat)) :=
  v_bin hx hy guard_int (by simp [binOp, Op.intBits])
theorem v_xor (hx : ev σ x = some (.int k m)) (hy : ev σ y = some (.int k n)) : Vl P ⟨d, .binOp .xor xt x y yt, ty, pos, af, g⟩ σ w (.int k (k.wrap (BitVec.ofInt k.bits m ^^^ BitVec.ofInt k.bits n).toNat)) :=
  v_bin hx hy guard_int (by simp [binOp, Op.intBits])
theorem v_shl {k' : IntKind} (hx : ev σ x = some (.int k m)) (hy : ev σ y = some (.int k' n)) (h0 : 0 ≤ n) : Vl P ⟨d, .binOp .shl xt x y yt, ty, pos, af, g⟩ σ w (.int k (k.wrap (m * 2 ^ (min n.toNat k.bits)))) :=
  v_bin hx hy guard_int (by simp [binOp, Op.shift, Int.not_lt.2 h0])
theorem v_shr {k' : IntKind} (hx : ev σ x = some (.int k m)) (hy : ev σ y = some (.int k' n)) (h0 : 0 ≤ n) : Vl P ⟨d, .binOp .shr xt x y yt, ty, pos, af, g⟩ σ w (.int k (m.fdiv (2 ^ (min n.toNat k.bits)))) :=
  v_bin hx hy guard_int (by simp [binOp, Op.shift, Int.not_lt.2 h0])
theorem v_eql (hx : ev σ x = some (.int k m)) (hy : ev σ y = some (.int k n)) : Vl P ⟨d, .binOp .eql xt x y yt, ty, pos, af, g⟩ σ w (.bool (m == n)) :=
  v_bin hx hy guard_int (by simp [binOp, Op.intCmp])
theorem v_neq (hx : ev σ x = some (.int k m)) (hy : ev σ y = some (.int k n)) : Vl P ⟨d, .binOp .neq xt x y yt, ty, pos, af, g⟩ σ w (.bool (m != n)) :=
  v_bin hx hy guard_int (by simp [binOp, Op.intCmp])
theorem v_lss (hx : ev σ x = some (.int k m)) (hy : ev σ y = some (.int k n)) : Vl P ⟨d, .binOp .lss xt x y yt, ty, pos, af, g⟩ σ w (.bool (decide (m < n))) :=
  v_bin hx hy guard_int (by simp [binOp, Op.intCmp])
theorem v_leq (hx : ev σ x = some (.int k m)) (hy : ev σ y = some (.int k n)) : Vl P ⟨d, .binOp .leq xt x y yt, ty, pos, af, g⟩ σ w (.bool (decide (m ≤ n))) :=
  v_bin hx hy guard_int (by simp [binOp, Op.intCmp])
theorem v_gtr (hx : ev σ x = some (.int k m)) (hy : ev σ y = some (.int k n)) : Vl P ⟨d, .binOp .gtr xt x y yt, ty, pos, af, g⟩ σ w (.bool (decide (n < m))) :=
  v_bin hx hy guard_int (by simp [binOp, Op.intCmp])
theorem v_geq (hx : ev σ x = some (.int k m)) (hy : ev σ y = some (.int k n)) : Vl P ⟨d, .binOp .geq xt x y yt, ty, pos, af, g⟩ σ w (.bool (decide (n ≤ m))) :=
  v_bin hx hy guard_int (by simp [binOp, Op.intCmp])
theorem v_neg (hx : ev σ x = some (.int k m)) : Vl P ⟨d, .unOp .neg xt x, ty, pos, af, g⟩ σ w (.int k (k.wrap (0 - m))) :=
  ⟨(by intro _ h; cases h), fun ρ hρ => by
    have h1 := hρ x _ (by simp [Op.operands]) hx
    simp [execOp, h1, Op.unary, Op.intArith]⟩
theorem v_cvt {k' : IntKind} {s t : TypeId} {ds : TypeDesc} (hs : P.underlying s = some ds) (ht : P.underlying t = some (.int k')) (hx : ev σ x = some (.int k m)) : Vl P ⟨d, .convert s t x, ty, pos, af, g⟩ σ w (.int k' (k'.wrap m)) :=
  ⟨(by intro _ h; cases h), fun ρ hρ => by
    have h1 := hρ x _ (by simp [Op.operands]) hx
    simp [execOp, h1, convert, run_underlying hs, run_underlying ht, Conv.intToInt]⟩
end
theorem v_not {xt : TypeId} {x : Operand} {b : Bool} (hx : ev σ x = some (.bool b)) : Vl P ⟨d, .unOp .not xt x, ty, pos, af, g⟩ σ w (.bool (!b)) :=
  ⟨(by intro _ h; cases h), fun ρ hρ => by
    have h1 := hρ x _ (by simp [Op.operands]) hx
    simp [execOp, h1, Op.unary]⟩
theorem v_eqlB {xt yt : TypeId} {x y : Operand} {a b : Bool} (ht : P.underlying xt = some .bool) (hx : ev σ x = some (.bool a)) (hy : ev σ y = some (.bool b)) : Vl P ⟨d, .binOp .eql xt x y yt, ty, pos, af, g⟩ σ w (.bool (a == b)) :=
  v_bin hx hy guard_bool (run_eql_bool _ _ _ _ ht)
theorem v_neqB {xt yt : TypeId} {x y : Operand} {a b : Bool} (ht : P.underlying xt = some .bool) (hx : ev σ x = some (.bool a)) (hy : ev σ y = some (.bool b)) : Vl P ⟨d, .binOp .neq xt x y yt, ty, pos, af, g⟩ σ w (.bool (a != b)) :=
  v_bin hx hy guard_bool (run_neq_bool _ _ _ _ ht)
theorem v_ex {x : Operand} {i : Nat} {vs : Array Value} {v : Value} (hx : ev σ x = some (.tuple vs)) (hi : vs[i]? = some v) : Vl P ⟨d, .extract x i, ty, pos, af, g⟩ σ w v :=
  ⟨(by intro _ h; cases h), fun ρ hρ => by
    have h1 := hρ x _ (by simp [Op.operands]) hx
    simp [execOp, h1, Instr.extract, hi]⟩
theorem v_len {t e : TypeId} {x : Operand} {a : Option Addr} {n c : Nat} (ht : P.underlying t = some (.slice e)) (hx : ev σ x = some (.slice a n c)) :
    Vl P ⟨d, .call { callee := .builtin .len, args := #[x], argTypes := #[t] }, ty, pos, af, g⟩ σ w (.int .i64 n) :=
  ⟨(by intro _ h; cases h), fun ρ hρ => by
    have h1 := hρ x _ (by simp [Op.operands, Call.operands]) hx
    simp [execOp, h1, resolve, invoke, builtin, Builtin.len_, run_underlying ht, goInt]⟩
theorem v_min {ts : Array TypeId} {x y : Operand} {k : IntKind} {m n : Int} (hx : ev σ x = some (.int k m)) (hy : ev σ y = some (.int k n)) :
    Vl P ⟨d, .call { callee := .builtin .min, args := #[x, y], argTypes := ts }, ty, pos, af, g⟩ σ w (.int k (min m n)) :=
  ⟨(by intro _ h; cases h), fun ρ hρ => by
    have h1 := hρ x _ (by simp [Op.operands, Call.operands]) hx
    have h2 := hρ y _ (by simp [Op.operands, Call.operands]) hy
    have e : (if n < m then n else m) = min m n := by omega
    simp [execOp, h1, h2, resolve, invoke, builtin, Builtin.min_, Builtin.min2, e]⟩
theorem v_max {ts : Array TypeId} {x y : Operand} {k : IntKind} {m n : Int} (hx : ev σ x = some (.int k m)) (hy : ev σ y = some (.int k n)) :
    Vl P ⟨d, .call { callee := .builtin .max, args := #[x, y], argTypes := ts }, ty, pos, af, g⟩ σ w (.int k (max m n)) :=
  ⟨(by intro _ h; cases h), fun ρ hρ => by
    have h1 := hρ x _ (by simp [Op.operands, Call.operands]) hx
    have h2 := hρ y _ (by simp [Op.operands, Call.operands]) hy
    have e : (if m < n then n else m) = max m n := by omega
    simp [execOp, h1, h2, resolve, invoke, builtin, Builtin.max_, Builtin.max2, e]⟩
end
end Go.Kx

namespace Go.Kx
open Go Go.RowKit

/-- a walk in the order of the text, I at each world on the way -/
def wlI (P : Program) (ro : Option Nat) (fl : Bool) (I : World → Prop) (Q : Exit → Act → World → Prop) : List Oper → Act → World → Prop
  | [], a, w => (fl = true ∨ I w) ∧ Q .normal a w
  | o :: rest, a, w => I w ∧ o.wpIn (wf ro) 0 P a w (wlI P ro fl I Q rest) Q

structure WLI (P : Program) (ro : Option Nat) (N : Nat) (ds : List Deferred) (fl : Bool) (I : World → Prop) (K : Env → World → Prop) (l : List Oper) (σ : Env) (w : World) : Prop where
  out : ∀ a, Agr N σ ds a → wlI P ro fl I (fun e a w => e = .normal ∧ ∃ σ', Agr N σ' ds a ∧ K σ' w) l a w

section
variable {P : Program} {ro : Option Nat} {N : Nat} {ds : List Deferred} {fl : Bool} {I : World → Prop} {K : Env → World → Prop} {rest : List Oper} {σ : Env} {w : World}
theorem WLI.nil (hI : fl = true ∨ I w) (h : K σ w) : WLI P ro N ds fl I K [] σ w := ⟨fun a ha => ⟨hI, rfl, σ, ha, h⟩⟩
theorem WLI.gv {o : Oper} {R : Value → World → Prop} (hI : I w) (hd : dOk N o.dst = true) (h : Gv P o σ w R) (k : ∀ v w', R v w' → WLI P ro N ds fl I K rest (putE o.dst v σ) w') : WLI P ro N ds fl I K (o :: rest) σ w :=
  ⟨fun a ha => ⟨hI, h.wp (fun x v _ hx => ha.ev hx) fun v w' hr => (k v w' hr).out _ (ha.put hd v)⟩⟩
end

def reachB (ops : List Oper) : Nat → Nat → Nat → Bool
  | 0, i, j => (ops[i]?).any fun o => edgeTo o j
  | f + 1, i, j => (ops[i]?).any fun o => edgeTo o j || o.after.any fun e => Region.binds .any e && reachB ops f e.on j

def hEnv : List Oper → List (Option Value) → Env → Env
  | o :: os, some v :: hs, σ => hEnv os hs (putE o.dst v σ)
  | _ :: os, none :: hs, σ => hEnv os hs σ
  | _, _, σ => σ
def tOps : List Oper → List (Option Value) → List Oper
  | o :: os, none :: hs => o :: tOps os hs
  | _ :: os, some _ :: hs => tOps os hs
  | _, _ => []

def isH (hv : List (Option Value)) (i : Nat) : Bool := ((hv[i]?).getD none).isSome

def okLast (ops : List Oper) (hv : List (Option Value)) : Bool :=
  match ops.getLast? with
  | some o => !(isH hv (ops.length - 1)) && (List.range (ops.length - 1)).all fun i => (closeB ops (ops.length - 1) (edgesOf o)).any (Nat.beq i)
  | none => false

def okHeld (ops : List Oper) (N : Nat) (fl : Bool) (hv : List (Option Value)) : Bool :=
  (!fl || okLast ops hv) && Nat.beq hv.length ops.length && ops.zipIdx.all (fun q => okBack q.2 q.1) && nodupB (dsts ops) &&
  ops.zipIdx.all fun q =>
    dOk N q.1.dst && (match q.1.guard with | none => true | _ => false) && (match q.1.op with | .defer _ => false | .select .. => false | _ => true) &&
    (bif isH hv q.2 then
      q.1.dst.isSome && (tmpsOf q.1).all fun t => ops.zipIdx.all fun r => r.1.dst != some t || (bif isH hv r.2 then reachB ops 3 q.2 r.2 else reachB ops 3 r.2 q.2)
    else
      ((tmpsOf q.1).all fun t => ops.zipIdx.all fun r => r.1.dst != some t || !(isH hv r.2) || reachB ops 3 q.2 r.2) &&
      (List.range q.2).all fun j => isH hv j || reachB ops 3 q.2 j)

def hObs (P : Program) (I : World → Prop) (σH : Env) : List Oper → List (Option Value) → Prop
  | o :: os, some v :: hs => (∀ w, I w → Vl P o σH w v) ∧ hObs P I σH os hs
  | _ :: os, none :: hs => hObs P I σH os hs
  | [], [] => True
  | _, _ => False

/-! ### the proof -/
theorem reach_listed {ops : List Oper} {listed : Array Bool} (shut : ∀ (i : Nat) (o : Oper), ops[i]? = some o → isL listed i → ∀ j, edgeTo o j = true → isL listed j) :
    ∀ (f i j : Nat) (o : Oper), ops[i]? = some o → (∀ j, edgeTo o j = true → isL listed j) → reachB ops f i j = true → isL listed j
  | 0, i, j, o, ho, he, h => by
    simp only [reachB, ho, Option.any_some] at h
    exact he j h
  | f + 1, i, j, o, ho, he, h => by
    simp only [reachB, ho, Option.any_some, Bool.or_eq_true] at h
    rcases h with h | h
    · exact he j h
    · simp only [Array.any_eq_true', Bool.and_eq_true] at h
      obtain ⟨e, hm, hb, hr⟩ := h
      have hl : isL listed e.on := he e.on (edgeTo_spec.2 ⟨e, hm, hb, rfl⟩)
      cases ho' : ops[e.on]? with
      | none => cases f <;> simp [reachB, ho'] at hr
      | some o' => exact reach_listed shut f e.on j o' ho' (fun j hj => shut e.on o' ho' hl j hj) hr

theorem okLast_listed {ops : List Oper} {hv : List (Option Value)} (hk : okLast ops hv = true) {listed : Array Bool} (shut : ∀ (i : Nat) (o : Oper), ops[i]? = some o → isL listed i → ∀ j, edgeTo o j = true → isL listed j)
    (hT : ∀ i, i < ops.length → isH hv i = false → isL listed i) : ∀ i, i < ops.length → isL listed i := by
  unfold okLast at hk
  cases hl : ops.getLast? with
  | none => rw [hl] at hk; cases hk
  | some o =>
    rw [hl] at hk
    simp only [Bool.and_eq_true, Bool.not_eq_true', List.all_eq_true, List.mem_range] at hk
    have hne : ops ≠ [] := fun e => by rw [e] at hl; cases hl
    have hlen : 0 < ops.length := List.length_pos_iff.2 hne
    have ho : ops[ops.length - 1]? = some o := by rw [← List.getLast?_eq_getElem?]; exact hl
    have hL := hT (ops.length - 1) (by omega) hk.1
    intro i hi
    by_cases e : i = ops.length - 1
    · rw [e]; exact hL
    · obtain ⟨x, hx, hxe⟩ := List.any_eq_true.1 (hk.2 i (by omega))
      have : i = x := Nat.eq_of_beq_eq_true hxe
      subst this
      refine closeB_listed shut _ _ (fun j hj => ?_) i hx
      simp only [edgesOf, List.mem_filterMap] at hj
      obtain ⟨e, he, hb⟩ := hj
      have hbb : Region.binds .any e = true := by
        cases h' : Region.binds .any e with
        | true => rfl
        | false => rw [h'] at hb; simp at hb
      rw [hbb] at hb
      simp at hb
      exact shut _ o ho hL j (edgeTo_spec.2 ⟨e, by simpa using he, hbb, hb⟩)

theorem wpIn_transfer {P : Program} {ro : Option Nat} {o : Oper} {a a' : Act} {w : World} {next next' : Act → World → Prop} {Q : Exit → Act → World → Prop} (hnd : ∀ c, o.op ≠ .defer c) (hns : ∀ cs b, o.op ≠ .select cs b)
    (he : ∀ x ∈ o.op.operands, a.eval x = a'.eval x) (hQ : ∀ e a w, Q e a w → e = .normal) (hn2 : ∀ (dd : List Deferred) v w', next' (({ a' with defers := dd ++ a'.defers } : Act).put o.dst v) w' → next (({ a with defers := dd ++ a.defers } : Act).put o.dst v) w') (h : o.wpIn (wf ro) 0 P a' w next' Q) : o.wpIn (wf ro) 0 P a w next Q := by
  refine ⟨fun _ _ => trivial, ?_⟩
  have h2 := h.2
  show o.uponIn (wf ro) 0 P a next Q ((o.semAt ro a.eval).run P w)
  have h3 : o.uponIn (wf ro) 0 P a' next' Q ((o.semAt ro a'.eval).run P w) := h2
  rw [semAt_wf hnd] at h3 ⊢
  rw [execOp_congr o hns he]
  generalize hr : (execOp a'.eval o).run P w = r at h3
  have hn : ∀ v w', next' (a'.put o.dst v) w' → next (a.put o.dst v) w' := fun v w' => hn2 [] v w'
  have noP : ∀ c (b : Act) (w : World), ¬ Q (.panic c) b w := fun c b w hq => by have := hQ _ _ _ hq; cases this
  have noO : ¬ LetsOut Q := fun ⟨b, w, hq⟩ => by have := hQ _ _ _ hq; cases this
  cases r with
  | ok x w' =>
    cases x with
    | value v => exact hn _ _ h3
    | skip => exact hn _ _ h3
    | defer d => exact hn2 [d] _ _ h3
    | enter f args =>
      refine ⟨h3.1, h3.2.mono fun e w'' hq => ?_⟩
      cases e with
      | returned v => exact hn _ _ hq
      | panicked c => exact absurd hq (noP _ _ _)
      | outgrown => exact absurd hq noO
    | row r args => exact ⟨h3.1, h3.2.mono fun v w'' hq => hn _ _ hq⟩
    | round l f tmps as_ body =>
      refine ⟨h3.1, h3.2.mono fun e w'' hq => ?_⟩
      cases e with
      | returned v => exact hn _ _ hq
      | panicked c => exact absurd hq (noP _ _ _)
      | outgrown => exact absurd hq noO
    | _ => exact h3.elim
  | halt x w' =>
    cases x with
    | panic v => exact absurd h3 (noP _ _ _)
    | _ => exact h3.elim

theorem tOps_skip {ops : List Oper} {hv : List (Option Value)} (hlen : hv.length = ops.length) : ∀ (k q : Nat), q + k ≤ ops.length → (∀ i, q ≤ i → i < q + k → isH hv i = true) → tOps (ops.drop q) (hv.drop q) = tOps (ops.drop (q + k)) (hv.drop (q + k))
  | 0, q, _, _ => rfl
  | k + 1, q, hle, h => by
    have hq : q < ops.length := by omega
    have hq' : q < hv.length := by omega
    have h0 := h q (Nat.le_refl _) (by omega)
    rw [List.drop_eq_getElem_cons hq, List.drop_eq_getElem_cons hq']
    unfold isH at h0
    rw [List.getElem?_eq_getElem hq'] at h0
    cases hh : hv[q] with
    | none => rw [hh] at h0; simp at h0
    | some v =>
      rw [tOps, tOps_skip hlen k (q + 1) (by omega) (fun i h1 h2 => h i (by omega) (by omega)), show q + 1 + k = q + (k + 1) by omega]

theorem tOps_at {ops : List Oper} {hv : List (Option Value)} (hlen : hv.length = ops.length) {i : Nat} {o : Oper} (ho : ops[i]? = some o) (hT : isH hv i = false) : tOps (ops.drop i) (hv.drop i) = o :: tOps (ops.drop (i + 1)) (hv.drop (i + 1)) := by
  have hi : i < ops.length := by
    rcases Nat.lt_or_ge i ops.length with h | h
    · exact h
    · rw [List.getElem?_eq_none h] at ho; cases ho
  have hi' : i < hv.length := by omega
  rw [List.drop_eq_getElem_cons hi, List.drop_eq_getElem_cons hi']
  rw [List.getElem?_eq_getElem hi] at ho
  unfold isH at hT
  rw [List.getElem?_eq_getElem hi'] at hT
  cases hh : hv[i] with
  | none => rw [tOps, Option.some.inj ho]
  | some v => rw [hh] at hT; simp at hT

/-- the frame with the reads' values in it -/
def hAct : List Oper → List (Option Value) → Act → Act
  | o :: os, some v :: hs, a => hAct os hs (a.put o.dst v)
  | _ :: os, none :: hs, a => hAct os hs a
  | _, _, a => a

theorem hAct_agr {N : Nat} {ds : List Deferred} : ∀ (os : List Oper) (hs : List (Option Value)) (σ : Env) (a : Act), (∀ o ∈ os, dOk N o.dst = true) → Agr N σ ds a → Agr N (hEnv os hs σ) ds (hAct os hs a)
  | [], _, σ, a, _, h => h
  | o :: os, [], σ, a, _, h => h
  | o :: os, some v :: hs, σ, a, hd, h => hAct_agr os hs _ _ (fun o' ho' => hd o' (by simp [ho'])) (h.put (hd o (by simp)) v)
  | o :: os, none :: hs, σ, a, hd, h => hAct_agr os hs σ a (fun o' ho' => hd o' (by simp [ho'])) h

theorem slot_put {N : Nat} {a : Act} (hs : a.tmps.size = N) {d : Option Tmp} {v : Value} {t : Tmp} : (a.put d v).tmps.size = N ∧ (a.put d v).defers = a.defers ∧ (d ≠ some t → (a.put d v).tmps.getD t undef = a.tmps.getD t undef) ∧ (d = some t → t < N → (a.put d v).tmps.getD t undef = v) := by
  cases d with
  | none => exact ⟨hs, rfl, fun _ => rfl, fun h => by cases h⟩
  | some u =>
    refine ⟨by simpa [Act.put] using hs, rfl, fun h => ?_, fun h ht => ?_⟩
    · have : u ≠ t := fun e => h (by rw [e])
      simp [Act.put, Array.getElem?_setIfInBounds_ne this]
    · cases h; simp [Act.put, hs, ht]

theorem hAct_other {N : Nat} : ∀ (os : List Oper) (hs : List (Option Value)) (a : Act) (t : Tmp), a.tmps.size = N → (∀ (i : Nat) (o : Oper), os[i]? = some o → isH hs i = true → o.dst ≠ some t) → (hAct os hs a).tmps.getD t undef = a.tmps.getD t undef
  | [], _, a, t, _, _ => rfl
  | o :: os, [], a, t, _, _ => rfl
  | o :: os, some v :: hs, a, t, hsz, h => by
    have h0 := h 0 o rfl rfl
    have hp := slot_put (v := v) (t := t) (d := o.dst) hsz
    rw [hAct, hAct_other os hs _ t hp.1 (fun i o' ho' hi => h (i + 1) o' (by simpa using ho') (by simpa [isH] using hi)), hp.2.2.1 h0]
  | o :: os, none :: hs, a, t, hsz, h => by
    rw [hAct, hAct_other os hs a t hsz (fun i o' ho' hi => h (i + 1) o' (by simpa using ho') (by simpa [isH] using hi))]

theorem hAct_val {N : Nat} : ∀ (os : List Oper) (hs : List (Option Value)) (a : Act), a.tmps.size = N → (dsts os).Nodup → ∀ (i : Nat) (o : Oper) (t : Tmp) (v : Value), os[i]? = some o → hs[i]? = some (some v) → o.dst = some t → t < N → (hAct os hs a).tmps.getD t undef = v
  | [], _, a, _, _, i, o, t, v, ho, _, _, _ => by simp at ho
  | o' :: os, [], a, _, _, i, o, t, v, _, hv, _, _ => by simp at hv
  | o' :: os, h' :: hs, a, hsz, hnd, i, o, t, v, ho, hv, hd, ht => by
    have hnd' : (dsts os).Nodup := by
      cases hc : o'.dst with
      | none => simpa [dsts, hc] using hnd
      | some u => have : (u :: dsts os).Nodup := by simpa [dsts, hc] using hnd
                  exact (List.nodup_cons.1 this).2
    cases i with
    | zero =>
      simp at ho hv
      subst ho; subst hv
      have hp := slot_put (v := v) (t := t) (d := o'.dst) hsz
      have hno : t ∉ dsts os := by
        have : (t :: dsts os).Nodup := by simpa [dsts, hd] using hnd
        exact (List.nodup_cons.1 this).1
      rw [hAct, hAct_other os hs _ t hp.1 (fun i o2 ho2 _ hd2 => hno (List.mem_filterMap.2 ⟨o2, List.mem_iff_getElem?.2 ⟨i, ho2⟩, hd2⟩))]
      exact hp.2.2.2 hd ht
    | succ i =>
      cases h' with
      | none => exact hAct_val os hs a hsz hnd' i o t v (by simpa using ho) (by simpa using hv) hd ht
      | some u => exact hAct_val os hs _ (slot_put (v := u) (t := t) (d := o'.dst) hsz).1 hnd' i o t v (by simpa using ho) (by simpa using hv) hd ht

theorem dst_inj {ops : List Oper} (h : (dsts ops).Nodup) : ∀ {x y : Nat} {ox oy : Oper} {t : Tmp}, ops[x]? = some ox → ops[y]? = some oy → ox.dst = some t → oy.dst = some t → x = y := by
  induction ops with
  | nil => intro x y ox oy t hx; simp at hx
  | cons c l ihl =>
    intro x y ox oy t hx hy dx dy
    have hin : ∀ (z : Nat) (oz : Oper), l[z]? = some oz → oz.dst = some t → t ∈ dsts l := fun z oz hz dz => List.mem_filterMap.2 ⟨oz, List.mem_iff_getElem?.2 ⟨z, hz⟩, dz⟩
    have hcons : ∀ oc : Oper, oc = c → oc.dst = some t → t ∉ dsts l := by
      rintro oc rfl hc
      have : (t :: dsts l).Nodup := by simpa [dsts, hc] using h
      exact (List.nodup_cons.1 this).1
    have hn' : (dsts l).Nodup := by
      cases hc : c.dst with
      | none => simpa [dsts, hc] using h
      | some u => have : (u :: dsts l).Nodup := by simpa [dsts, hc] using h
                  exact (List.nodup_cons.1 this).2
    cases x with
    | zero =>
      simp at hx
      cases y with
      | zero => rfl
      | succ y => exact absurd (hin y oy (by simpa using hy) dy) (hcons ox hx.symm dx)
    | succ x =>
      cases y with
      | zero => simp at hy; exact absurd (hin x ox (by simpa using hx) dx) (hcons oy hy.symm dy)
      | succ y => exact congrArg (· + 1) (ihl hn' (by simpa using hx) (by simpa using hy) dx dy)

theorem hObs_at {P : Program} {I : World → Prop} {σH : Env} : ∀ {os : List Oper} {hs : List (Option Value)}, hObs P I σH os hs → ∀ (i : Nat) (o : Oper) (v : Value), os[i]? = some o → hs[i]? = some (some v) → ∀ w, I w → Vl P o σH w v
  | [], _, _, i, o, v, ho, _ => by simp at ho
  | o' :: os, [], h, i, o, v, _, hv => by simp at hv
  | o' :: os, some u :: hs, h, 0, o, v, ho, hv => by simp at ho hv; subst ho; subst hv; exact h.1
  | o' :: os, none :: hs, h, 0, o, v, ho, hv => by simp at hv
  | o' :: os, some u :: hs, h, i + 1, o, v, ho, hv => hObs_at h.2 i o v (by simpa using ho) (by simpa using hv)
  | o' :: os, none :: hs, h, i + 1, o, v, ho, hv => hObs_at (hs := hs) h i o v (by simpa using ho) (by simpa using hv)

theorem look_hEnv : ∀ (os : List Oper) (hs : List (Option Value)) (σ : Env) (t : Tmp) (v : Value), look (hEnv os hs σ) t = some v →
    (∃ (i : Nat) (o : Oper), os[i]? = some o ∧ hs[i]? = some (some v) ∧ o.dst = some t) ∨ (look σ t = some v ∧ ∀ (i : Nat) (o : Oper), os[i]? = some o → isH hs i = true → o.dst ≠ some t)
  | [], _, σ, t, v, h => .inr ⟨h, fun i o ho => by simp at ho⟩
  | o :: os, [], σ, t, v, h => .inr ⟨h, fun i o _ hi => by simp [isH] at hi⟩
  | o :: os, none :: hs, σ, t, v, h => by
    rcases look_hEnv os hs σ t v h with ⟨i, o', h1, h2, h3⟩ | ⟨h1, h2⟩
    · exact .inl ⟨i + 1, o', by simpa using h1, by simpa using h2, h3⟩
    · refine .inr ⟨h1, fun i o' ho' hi => ?_⟩
      cases i with
      | zero => simp [isH] at hi
      | succ i => exact h2 i o' (by simpa using ho') (by simpa [isH] using hi)
  | o :: os, some u :: hs, σ, t, v, h => by
    rcases look_hEnv os hs (putE o.dst u σ) t v h with ⟨i, o', h1, h2, h3⟩ | ⟨h1, h2⟩
    · exact .inl ⟨i + 1, o', by simpa using h1, by simpa using h2, h3⟩
    · by_cases hd : o.dst = some t
      · rw [hd] at h1
        simp [putE, look] at h1
        subst h1
        exact .inl ⟨0, o, rfl, rfl, hd⟩
      · have h1' : look σ t = some v := by
          cases ho : o.dst with
          | none => rw [ho] at h1; exact h1
          | some k =>
            rw [ho] at h1 hd
            have : k ≠ t := fun e => hd (by rw [e])
            simpa [putE, look, beq_ne this] using h1
        refine .inr ⟨h1', fun i o' ho' hi => ?_⟩
        cases i with
        | zero => simp at ho'; subst ho'; exact hd
        | succ i => exact h2 i o' (by simpa using ho') (by simpa [isH] using hi)

theorem tOps_ne {ops : List Oper} {hv : List (Option Value)} (hlen : hv.length = ops.length) {j : Nat} {o : Oper} (ho : ops[j]? = some o) (hT : isH hv j = false) {q : Nat} (hq : q ≤ j) : tOps (ops.drop q) (hv.drop q) ≠ [] := by
  have key : ∀ k q, q + k = j → tOps (ops.drop q) (hv.drop q) ≠ [] := by
    intro k
    induction k with
    | zero => intro q h; rw [show q = j by omega, tOps_at hlen ho hT]; simp
    | succ k ih =>
      intro q h
      have hj : j < ops.length := by
        rcases Nat.lt_or_ge j ops.length with h' | h'
        · exact h'
        · rw [List.getElem?_eq_none h'] at ho; cases ho
      have hoq : ops[q]? = some ops[q] := List.getElem?_eq_getElem (by omega)
      cases hH : isH hv q with
      | false => rw [tOps_at hlen hoq hH]; simp
      | true =>
        rw [tOps_skip hlen 1 q (by omega) (fun i h1 h2 => by rw [show i = q by omega]; exact hH)]
        exact ih (q + 1) (by omega)
  exact key (j - q) q (by omega)

structure InvH (P : Program) (ro : Option Nat) (N : Nat) (fl : Bool) (I : World → Prop) (Q : Exit → Act → World → Prop) (ops : List Oper) (hv : List (Option Value)) (a0 : Act) (listed : Array Bool) (a a' : Act) (q : Nat) (w : World) : Prop where
  le : q ≤ ops.length
  tl : ∀ i, i < ops.length → isH hv i = false → (isL listed i ↔ i < q)
  wp : wlI P ro fl I Q (tOps (ops.drop q) (hv.drop q)) a' w
  sz : a.tmps.size = N
  sz' : a'.tmps.size = N
  df : a.defers = a'.defers
  hval : ∀ (i : Nat) (o : Oper) (t : Tmp) (v : Value), ops[i]? = some o → hv[i]? = some (some v) → o.dst = some t → a'.tmps.getD t undef = v
  pend : ∀ (i : Nat) (o : Oper) (t : Tmp), ops[i]? = some o → isH hv i = true → ¬ isL listed i → o.dst = some t → a.tmps.getD t undef = a0.tmps.getD t undef
  same : ∀ t, (∀ (i : Nat) (o : Oper), ops[i]? = some o → isH hv i = true → ¬ isL listed i → o.dst ≠ some t) → a.tmps.getD t undef = a'.tmps.getD t undef
  old : ∀ t, (∀ (i : Nat) (o : Oper), ops[i]? = some o → o.dst = some t → isH hv i = false ∧ ¬ isL listed i) → a'.tmps.getD t undef = a0.tmps.getD t undef
  shut : ∀ (i : Nat) (o : Oper), ops[i]? = some o → isL listed i → ∀ j, edgeTo o j = true → isL listed j

theorem wlI_I {P : Program} {ro : Option Nat} {fl : Bool} {I : World → Prop} {Q : Exit → Act → World → Prop} {l : List Oper} {a : Act} {w : World} (h : wlI P ro fl I Q l a w) (hl : fl = true → l ≠ []) : I w := by
  cases l with
  | nil => exact h.1.resolve_left fun e => hl e rfl
  | cons _ _ => exact h.1

theorem isH_some {hv : List (Option Value)} {i : Nat} (h : isH hv i = true) : ∃ v, hv[i]? = some (some v) := by
  unfold isH at h
  cases hh : hv[i]? with
  | none => rw [hh] at h; simp at h
  | some x =>
    cases x with
    | none => rw [hh] at h; simp at h
    | some v => exact ⟨v, rfl⟩

section
variable {P : Program} {ro : Option Nat} {N : Nat} {ds : List Deferred} {ops : List Oper} {I : World → Prop} {K : Env → World → Prop} {σ0 : Env} {w0 : World} {hv : List (Option Value)} {a0 : Act} {Q : Exit → Act → World → Prop}

theorem held_any {fl : Bool} (hchk : okHeld ops N fl hv = true) (ha0 : Agr N σ0 ds a0) (hob : hObs P I (hEnv ops hv σ0) ops hv) (hQ : ∀ e a w, Q e a w → e = .normal) :
    ∀ (fuel : Nat) (listed : Array Bool) (a a' : Act) (q : Nat) (w : World), listed.size = ops.length → cnt listed ops.length ≤ fuel → InvH P ro N fl I Q ops hv a0 listed a a' q w →
      wpAnyIn (wf ro) 0 P .any ops.toArray Q fuel listed a w := by
  simp only [okHeld, Bool.and_eq_true, List.all_eq_true] at hchk
  obtain ⟨⟨⟨⟨hfl, hlen0⟩, hback⟩, hnd0⟩, hall⟩ := hchk
  have hlen : hv.length = ops.length := Nat.eq_of_beq_eq_true hlen0
  have hnd := nodupB_spec hnd0
  have hback' : ∀ (i : Nat) (o : Oper), ops[i]? = some o → ∀ j, edgeTo o j = true → j < i := by
    intro i o hi j hj
    have := hback (o, i) (by rw [List.mem_zipIdx_iff_getElem?]; exact hi)
    obtain ⟨e, he, hb, rfl⟩ := edgeTo_spec.1 hj
    simp only [okBack, Array.all_eq_true', Bool.or_eq_true, Bool.not_eq_true', Nat.blt_eq] at this
    rcases this e he with h | h
    · rw [hb] at h; cases h
    · exact h
  have allL : ∀ listed : Array Bool, listed.size = ops.length → Region.ready .any ops.toArray listed = [] → ∀ i, i < ops.length → isL listed i := by
    intro listed hsz hr i
    induction i using Nat.strongRecOn with
    | _ i ih =>
      intro hi
      by_cases hh : isL listed i
      · exact hh
      · have : i ∈ Region.ready .any ops.toArray listed := by
          refine mem_ready.2 ⟨by simpa using hi, (getD_of_isL (by omega)).2 hh, fun o ho j hj => ?_⟩
          have := hback' i o (by simpa using ho) j hj
          exact ih j this (by omega)
        rw [hr] at this; cases this
  have done : ∀ listed a a' q w, (∀ i, i < ops.length → isL listed i) → InvH P ro N fl I Q ops hv a0 listed a a' q w → Q .normal a w := by
    intro listed a a' q w hl hI
    have hnoT : tOps (ops.drop q) (hv.drop q) = [] := by
      have h1 := tOps_skip hlen (ops.length - q) q (by have := hI.le; omega) (fun i h1 h2 => by
        cases hh : isH hv i with
        | true => rfl
        | false =>
          have hi : i < ops.length := by have := hI.le; omega
          have := (hI.tl i hi hh).1 (hl i hi)
          omega)
      rw [h1, show q + (ops.length - q) = ops.length by have := hI.le; omega, List.drop_of_length_le (Nat.le_refl _)]
      rfl
    have hwp := hI.wp
    rw [hnoT] at hwp
    have haa : a = a' := by
      have ht : a.tmps = a'.tmps := by
        apply Array.ext
        · rw [hI.sz, hI.sz']
        · intro i h1 h2
          have := hI.same i (fun j o ho _ hn => absurd (hl j (by
            rcases Nat.lt_or_ge j ops.length with h | h
            · exact h
            · rw [List.getElem?_eq_none h] at ho; cases ho)) hn)
          simpa [Array.getD_eq_getD_getElem?, h1, h2] using this
      cases a; cases a'
      simp only at ht
      have hd := hI.df
      simp only at hd
      rw [ht, hd]
    rw [haa]; exact hwp.2
  intro fuel
  induction fuel with
  | zero =>
    intro listed a a' q w hsz hc hI
    have hl : ∀ i, i < ops.length → isL listed i := by
      intro i hi
      have := cnt_zero listed ops.length (by omega) i hi
      by_cases hh : isL listed i
      · exact hh
      · have := (getD_of_isL (by omega : i < listed.size)).2 hh
        simp_all
    refine ⟨?_, done listed a a' q w hl hI⟩
    refine List.eq_nil_iff_forall_not_mem.2 fun i hi => ?_
    obtain ⟨h1, h2, _⟩ := mem_ready.1 hi
    have h1' : i < ops.length := by simpa using h1
    exact (getD_of_isL (by omega)).1 h2 (hl i h1')
  | succ fuel ih =>
    intro listed a a' q w hsz hc hI
    refine ⟨fun hr => done listed a a' q w (allL listed hsz hr) hI, fun i hi => ?_⟩
    obtain ⟨hin, hun, hed⟩ := mem_ready.1 hi
    have hin' : i < ops.length := by simpa using hin
    have hunl : ¬ isL listed i := (getD_of_isL (by omega)).1 hun
    obtain ⟨o, ho⟩ : ∃ o, ops[i]? = some o := ⟨_, List.getElem?_eq_getElem hin'⟩
    have hed' : ∀ j, edgeTo o j = true → isL listed j := hed o (by simpa using ho)
    have hsz' : (listed.setIfInBounds i true).size = ops.length := by simpa using hsz
    have hcnt : cnt (listed.setIfInBounds i true) ops.length ≤ fuel := by
      have := cnt_set_lt listed i hun ops.length hin'
      omega
    have hset : ∀ j, isL (listed.setIfInBounds i true) j ↔ (i = j ∨ isL listed j) := fun j => isL_set (by omega)
    have hreach : ∀ j, reachB ops 3 i j = true → isL listed j := fun j hj => reach_listed hI.shut 3 i j o ho hed' hj
    have hshut' : ∀ (j : Nat) (oj : Oper), ops[j]? = some oj → isL (listed.setIfInBounds i true) j → ∀ k, edgeTo oj k = true → isL (listed.setIfInBounds i true) k := by
      intro j oj hoj hlj k hk
      rw [hset] at hlj ⊢
      by_cases e : i = j
      · subst e
        rw [ho] at hoj; cases hoj
        exact .inr (hed' k hk)
      · exact .inr (hI.shut j oj hoj (hlj.resolve_left e) k hk)
    have hck := hall (o, i) (by rw [List.mem_zipIdx_iff_getElem?]; exact ho)
    simp only at hck
    obtain ⟨⟨⟨hdk, hgd⟩, hop⟩, hcls⟩ := hck
    have hgn : o.guard = none := by
      cases hg : o.guard with
      | none => rfl
      | some g => rw [hg] at hgd; cases hgd
    have hnd' : ∀ c, o.op ≠ .defer c := fun c e => by rw [e] at hop; cases hop
    have hns : ∀ cs b, o.op ≠ .select cs b := fun cs b e => by rw [e] at hop; cases hop
    have hw : Region.wanted o (yielded ops.toArray a.tmps) = true := by simp [Region.wanted, hgn]
    unfold wpOpIn
    simp only [List.getElem?_toArray, ho]
    rw [if_pos hw]
    cases hH : isH hv i with
    | true =>
      rw [hH] at hcls
      simp only [cond_true, Bool.and_eq_true, List.all_eq_true] at hcls
      obtain ⟨hds, hrd⟩ := hcls
      obtain ⟨t0, ht0⟩ := Option.isSome_iff_exists.1 hds
      obtain ⟨v, hvv⟩ := isH_some hH
      have htN : t0 < N := by simpa [ht0, dOk, Nat.blt_eq] using hdk
      have hV := hObs_at hob i o v ho hvv w (wlI_I hI.wp fun hft hnil => by
        subst hft
        refine hunl (okLast_listed (by simpa using hfl) hI.shut (fun j hj hHj => (hI.tl j hj hHj).2 ?_) i hin')
        rcases Nat.lt_or_ge j q with h | h
        · exact h
        · have hoj : ops[j]? = some ops[j] := List.getElem?_eq_getElem hj
          exact absurd hnil (tOps_ne hlen hoj hHj h))
      have hopn : ∀ x u, x ∈ o.op.operands → ev (hEnv ops hv σ0) x = some u → a.eval x = u := by
        intro x u hx hu
        cases x with
        | const c => simpa [Kx.ev, Act.eval] using hu
        | global g => simpa [Kx.ev, Act.eval] using hu
        | func f => simpa [Kx.ev, Act.eval] using hu
        | tmp t =>
          have hmem : t ∈ tmpsOf o := by
            unfold tmpsOf
            rw [List.mem_filterMap]
            exact ⟨.tmp t, by simpa using hx, rfl⟩
          have hc := hrd t hmem
          show a.tmps.getD t undef = u
          rcases look_hEnv ops hv σ0 t u hu with ⟨j, oj, hoj, hvj, hdj⟩ | ⟨hl0, hno⟩
          · have hc1 := hc (oj, j) (by rw [List.mem_zipIdx_iff_getElem?]; exact hoj)
            have hHj : isH hv j = true := by unfold isH; rw [hvj]; rfl
            simp only [Bool.or_eq_true, hHj, cond_true] at hc1
            have hlj : isL listed j := by
              rcases hc1 with h1 | h1
              · simp [hdj] at h1
              · exact hreach j h1
            rw [hI.same t (fun k ok hok _ hnl hdk' => ?_), hI.hval j oj t u hoj hvj hdj]
            have := dst_inj hnd hoj hok hdj hdk'
            subst this; exact hnl hlj
          · have h1 : a.tmps.getD t undef = a'.tmps.getD t undef := hI.same t (fun k ok hok hHk _ hdk' => hno k ok hok hHk hdk')
            rw [h1, hI.old t (fun k ok hok hdk' => ?_), ha0.slot t u hl0]
            have hHk : isH hv k = false := by
              cases hh : isH hv k with
              | false => rfl
              | true => exact absurd hdk' (hno k ok hok hh)
            refine ⟨hHk, fun hlk => ?_⟩
            have hc1 := hc (ok, k) (by rw [List.mem_zipIdx_iff_getElem?]; exact hok)
            simp only [Bool.or_eq_true, hHk, cond_false] at hc1
            rcases hc1 with h1 | h1
            · simp [hdk'] at h1
            · exact hunl (reach_listed hI.shut 3 k i ok hok (fun j hj => hI.shut k ok hok hlk j hj) h1)
      refine hV.gv.wp hopn ?_
      rintro v' w' ⟨rfl, rfl⟩
      have hp := fun t => slot_put (v := v') (t := t) (d := o.dst) hI.sz
      refine ih _ _ a' q _ hsz' hcnt ⟨hI.le, fun j hj hHj => ?_, hI.wp, (hp t0).1, hI.sz', (hp t0).2.1.trans hI.df, hI.hval, fun j oj t hoj hHj hnl hdj => ?_, fun t hno => ?_, fun t hno => ?_, hshut'⟩
      · rw [hset]
        constructor
        · rintro (e | e)
          · subst e; rw [hH] at hHj; cases hHj
          · exact (hI.tl j hj hHj).1 e
        · exact fun h => .inr ((hI.tl j hj hHj).2 h)
      · rw [hset] at hnl
        have hne : o.dst ≠ some t := fun e => hnl (.inl (dst_inj hnd ho hoj e hdj))
        rw [(hp t).2.2.1 hne]
        exact hI.pend j oj t hoj hHj (fun h => hnl (.inr h)) hdj
      · by_cases e : o.dst = some t
        · rw [ht0] at e; cases e
          rw [(hp t0).2.2.2 ht0 htN, hI.hval i o t0 v' ho hvv ht0]
        · rw [(hp t).2.2.1 e]
          refine hI.same t fun j oj hoj hHj hnl hdj => ?_
          refine hno j oj hoj hHj (fun h => ?_) hdj
          rw [hset] at h
          rcases h with h | h
          · subst h; rw [ho] at hoj; cases hoj; exact e hdj
          · exact hnl h
      · refine hI.old t fun j oj hoj hdj => ?_
        obtain ⟨h1, h2⟩ := hno j oj hoj hdj
        exact ⟨h1, fun h => h2 ((hset j).2 (.inr h))⟩
    | false =>
      rw [hH] at hcls
      simp only [cond_false, Bool.and_eq_true, List.all_eq_true, List.mem_range] at hcls
      obtain ⟨hrd, htot⟩ := hcls
      have hqi : q ≤ i := Nat.le_of_not_lt fun h => hunl ((hI.tl i hin' hH).2 h)
      have hskip := tOps_skip hlen (i - q) q (by omega) (fun j h1 h2 => by
        cases hh : isH hv j with
        | true => rfl
        | false =>
          have hj : j < i := by omega
          have := htot j hj
          rw [hh] at this
          simp only [Bool.false_or] at this
          have := (hI.tl j (by omega) hh).1 (hreach j this)
          omega)
      rw [show q + (i - q) = i by omega] at hskip
      have hwp := hI.wp
      rw [hskip, tOps_at hlen ho hH] at hwp
      obtain ⟨_, hwp⟩ := hwp
      refine wpIn_transfer hnd' hns (fun x hx => ?_) hQ (fun dd v w' hnx => ?_) hwp
      · cases x with
        | const c => rfl
        | global g => rfl
        | func f => rfl
        | tmp t =>
          have hmem : t ∈ tmpsOf o := by
            unfold tmpsOf
            rw [List.mem_filterMap]
            exact ⟨.tmp t, by simpa using hx, rfl⟩
          refine hI.same t fun j oj hoj hHj hnl hdj => hnl ?_
          have hc1 := hrd t hmem (oj, j) (by rw [List.mem_zipIdx_iff_getElem?]; exact hoj)
          simp only [Bool.or_eq_true, hHj] at hc1
          rcases hc1 with (h1 | h1) | h1
          · simp [hdj] at h1
          · simp at h1
          · exact hreach j h1
      · have hsa : ({ a with defers := dd ++ a.defers } : Act).tmps.size = N := hI.sz
        have hsa' : ({ a' with defers := dd ++ a'.defers } : Act).tmps.size = N := hI.sz'
        have hp := fun t => slot_put (v := v) (t := t) (d := o.dst) hsa
        have hp' := fun t => slot_put (v := v) (t := t) (d := o.dst) hsa'
        have hnoH : ∀ (j : Nat) (oj : Oper) (t : Tmp), ops[j]? = some oj → isH hv j = true → oj.dst = some t → o.dst ≠ some t := by
          intro j oj t hoj hHj hdj e
          have := dst_inj hnd ho hoj e hdj
          subst this; rw [hH] at hHj; cases hHj
        refine ih _ _ _ (i + 1) _ hsz' hcnt ⟨hin', fun j hj hHj => ?_, hnx, (hp 0).1, (hp' 0).1, ?_, fun j oj t u hoj hvj hdj => ?_, fun j oj t hoj hHj hnl hdj => ?_, fun t hno => ?_, fun t hno => ?_, hshut'⟩
        · rw [hset]
          constructor
          · rintro (e | e)
            · omega
            · have := (hI.tl j hj hHj).1 e; omega
          · intro h
            by_cases e : i = j
            · exact .inl e
            · have hj' : j < i := by omega
              have := htot j hj'
              rw [hHj] at this
              simp only [Bool.false_or] at this
              exact .inr (hreach j this)
        · rw [(hp 0).2.1, (hp' 0).2.1]
          show dd ++ a.defers = dd ++ a'.defers
          rw [hI.df]
        · have hHj : isH hv j = true := by unfold isH; rw [hvj]; rfl
          rw [(hp' t).2.2.1 (hnoH j oj t hoj hHj hdj)]
          exact hI.hval j oj t u hoj hvj hdj
        · rw [(hp t).2.2.1 (hnoH j oj t hoj hHj hdj)]
          exact hI.pend j oj t hoj hHj (fun h => hnl ((hset j).2 (.inr h))) hdj
        · by_cases e : o.dst = some t
          · have htN : t < N := by simpa [e, dOk, Nat.blt_eq] using hdk
            rw [(hp t).2.2.2 e htN, (hp' t).2.2.2 e htN]
          · rw [(hp t).2.2.1 e, (hp' t).2.2.1 e]
            refine hI.same t fun j oj hoj hHj hnl hdj => hno j oj hoj hHj (fun h => ?_) hdj
            rw [hset] at h
            rcases h with h | h
            · subst h; rw [hH] at hHj; cases hHj
            · exact hnl h
        · have e : o.dst ≠ some t := fun e => (hno i o ho e).2 ((hset i).2 (.inl rfl))
          rw [(hp' t).2.2.1 e]
          refine hI.old t fun j oj hoj hdj => ?_
          obtain ⟨h1, h2⟩ := hno j oj hoj hdj
          exact ⟨h1, fun h => h2 ((hset j).2 (.inr h))⟩

/-- **a region that draws its order: reads beside a chain.** 'hv': of each operation the value that it reads ('some v'), or 'none': it is of the chain. -/
theorem WC.held {Q : Pst} {id : Nat} (hm : P.follows .mixedOrders = true) (fl : Bool) (I : World → Prop) (hv : List (Option Value)) (hchk : okHeld ops N fl hv = true) (hob : hObs P I (hEnv ops hv σ0) ops hv)
    (hT : ∀ w, Ext w0 w → w.heap = w0.heap → WLI P ro N ds fl I (fun σ w => Q .normal σ ds w) (tOps ops hv) (hEnv ops hv σ0) w) : WC P ro N Q (.region id ops.toArray true) σ0 ds w0 := by
  refine ⟨fun a ha => ?_⟩
  have main : (Code.region id ops.toArray true).wpIn (wf ro) 0 P (fun e a w => e = .normal ∧ ∃ σ', Agr N σ' ds a ∧ Q .normal σ' ds w) a w0 := by
    refine wpIn_region_draw fun t => ?_
    simp only [Region.schedule, hm, Bool.true_or, if_true]
    refine wpAnyIn_sound ops.toArray.size t _ a _ ?_
    have hfalse : ∀ i, ¬ isL (Array.replicate ops.toArray.size false) i := by
      intro i
      unfold isL
      by_cases hi : i < ops.length <;> simp [hi]
    have hc := hchk
    simp only [okHeld, Bool.and_eq_true, List.all_eq_true] at hc
    obtain ⟨⟨⟨⟨hfl, hlen0⟩, hback⟩, hnd0⟩, hall⟩ := hc
    have hdk : ∀ o ∈ ops, dOk N o.dst = true := by
      intro o ho
      obtain ⟨i, hi⟩ := List.mem_iff_getElem?.1 ho
      exact (hall (o, i) (by rw [List.mem_zipIdx_iff_getElem?]; exact hi)).1.1.1
    have hag := hAct_agr (N := N) (ds := ds) ops hv σ0 a hdk ha
    have hdrew : Ext w0 { w0 with drawn := w0.drawn + 1 } := (Below.refl _ w0).drew
    refine held_any hchk ha hob (fun e a w h => h.1) _ _ a (hAct ops hv a) 0 _ (by simp) (by simpa using cnt_le _ _) ⟨Nat.zero_le _, fun i _ _ => ⟨fun h => absurd h (hfalse i), fun h => absurd h (Nat.not_lt_zero _)⟩, (hT _ hdrew rfl).out _ hag, ha.size, hag.size, by rw [ha.defs, hag.defs],
      fun i o t v ho hvi hd => hAct_val ops hv a ha.size (nodupB_spec hnd0) i o t v ho hvi hd ?_, fun i o t _ _ _ _ => ?_, fun t hno => ?_, fun t hno => ?_, fun i o _ hl => absurd hl (hfalse i)⟩
    · have := hdk o (List.mem_iff_getElem?.2 ⟨i, ho⟩)
      simpa [hd, dOk, Nat.blt_eq] using this
    · rfl
    · exact (hAct_other ops hv a t ha.size (fun i o ho hi => hno i o ho hi (hfalse i))).symm
    · exact hAct_other ops hv a t ha.size (fun i o ho hi hd => by have := (hno i o ho hd).1; rw [hi] at this; cases this)
  refine wpIn_mono main ?_
  rintro e a' w' ⟨rfl, σ', hag, hk⟩
  exact ⟨σ', ds, hag, hk⟩
end
end Go.Kx

namespace Go.Kx
open Go Go.RowKit

inductive Sch where
  | done
  | one (i : Nat) (n : Sch)
  | two (i : Nat) (n : Sch) (j : Nat) (m : Sch)

def wlT (P : Program) (ro : Option Nat) (ops : List Oper) (fl : Bool) (I : World → Prop) (Q : Exit → Act → World → Prop) : Sch → Act → World → Prop
  | .done, a, w => (fl = true ∨ I w) ∧ Q .normal a w
  | .one i n, a, w => I w ∧ ∃ o, ops[i]? = some o ∧ o.wpIn (wf ro) 0 P a w (wlT P ro ops fl I Q n) Q
  | .two i n j m, a, w => I w ∧ (∃ o, ops[i]? = some o ∧ o.wpIn (wf ro) 0 P a w (wlT P ro ops fl I Q n) Q) ∧ (∃ o, ops[j]? = some o ∧ o.wpIn (wf ro) 0 P a w (wlT P ro ops fl I Q m) Q)

structure WLT (P : Program) (ro : Option Nat) (N : Nat) (ds : List Deferred) (ops : List Oper) (fl : Bool) (I : World → Prop) (K : Env → World → Prop) (s : Sch) (σ : Env) (w : World) : Prop where
  out : ∀ a, Agr N σ ds a → wlT P ro ops fl I (fun e a w => e = .normal ∧ ∃ σ', Agr N σ' ds a ∧ K σ' w) s a w
section
variable {P : Program} {ro : Option Nat} {N : Nat} {ds : List Deferred} {ops : List Oper} {fl : Bool} {I : World → Prop} {K : Env → World → Prop} {σ : Env} {w : World} {n m : Sch} {i j : Nat}
theorem WLT.nil (hI : fl = true ∨ I w) (h : K σ w) : WLT P ro N ds ops fl I K .done σ w := ⟨fun a ha => ⟨hI, rfl, σ, ha, h⟩⟩
theorem WLT.gv {o : Oper} {R : Value → World → Prop} (ho : ops[i]? = some o) (hI : I w) (hd : dOk N o.dst = true) (h : Gv P o σ w R) (k : ∀ v w', R v w' → WLT P ro N ds ops fl I K n (putE o.dst v σ) w') : WLT P ro N ds ops fl I K (.one i n) σ w :=
  ⟨fun a ha => ⟨hI, o, ho, h.wp (fun x v _ hx => ha.ev hx) fun v w' hr => (k v w' hr).out _ (ha.put hd v)⟩⟩
theorem WLT.gv2 (h1 : WLT P ro N ds ops fl I K (.one i n) σ w) (h2 : WLT P ro N ds ops fl I K (.one j m) σ w) : WLT P ro N ds ops fl I K (.two i n j m) σ w :=
  ⟨fun a ha => ⟨(h1.out a ha).1, (h1.out a ha).2, (h2.out a ha).2⟩⟩
end

/-- every other of these waits for one of these -/
def waitB (ops : List Oper) (rem : List Nat) (k : Nat) : Bool := rem.any fun j => reachB ops 3 k j
def schOk (ops : List Oper) : List Nat → Sch → Bool
  | rem, .done => rem.isEmpty
  | rem, .one i n => !rem.isEmpty && rem.all (fun k => Nat.beq k i || waitB ops rem k) && schOk ops (rem.filter fun k => !(Nat.beq k i)) n
  | rem, .two i n j m => !rem.isEmpty && rem.all (fun k => Nat.beq k i || Nat.beq k j || waitB ops rem k) && schOk ops (rem.filter fun k => !(Nat.beq k i)) n && schOk ops (rem.filter fun k => !(Nat.beq k j)) m
def tIdx (ops : List Oper) (hv : List (Option Value)) : List Nat := (List.range ops.length).filter fun i => !(isH hv i)
theorem tIdx_mem {ops : List Oper} {hv : List (Option Value)} {i : Nat} : i ∈ tIdx ops hv ↔ i < ops.length ∧ isH hv i = false := by
  unfold tIdx
  rw [List.mem_filter, List.mem_range]
  simp

def okHeldT (ops : List Oper) (N : Nat) (fl : Bool) (hv : List (Option Value)) : Bool :=
  (!fl || okLast ops hv) && Nat.beq hv.length ops.length && ops.zipIdx.all (fun q => okBack q.2 q.1) && nodupB (dsts ops) &&
  ops.zipIdx.all fun q =>
    dOk N q.1.dst && (match q.1.guard with | none => true | _ => false) && (match q.1.op with | .defer _ => false | .select .. => false | _ => true) &&
    (bif isH hv q.2 then
      q.1.dst.isSome && (tmpsOf q.1).all fun t => ops.zipIdx.all fun r => r.1.dst != some t || (bif isH hv r.2 then reachB ops 3 q.2 r.2 else reachB ops 3 r.2 q.2)
    else
      (tmpsOf q.1).all fun t => ops.zipIdx.all fun r => r.1.dst != some t || !(isH hv r.2) || reachB ops 3 q.2 r.2)

theorem wlT_I {P : Program} {ro : Option Nat} {ops : List Oper} {fl : Bool} {I : World → Prop} {Q : Exit → Act → World → Prop} {s : Sch} {a : Act} {w : World} (h : wlT P ro ops fl I Q s a w) (hl : fl = true → s ≠ .done) : I w := by
  cases s with
  | done => exact h.1.resolve_left fun e => hl e rfl
  | one _ _ => exact h.1
  | two _ _ _ _ => exact h.1

theorem sch_step {P : Program} {ro : Option Nat} {ops : List Oper} {fl : Bool} {I : World → Prop} {Q : Exit → Act → World → Prop} {s : Sch} {a : Act} {w : World} {rem : List Nat} {i : Nat} {o : Oper} (hok : schOk ops rem s = true) (h : wlT P ro ops fl I Q s a w)
    (hi : i ∈ rem) (hr : ∀ j, j ∈ rem → reachB ops 3 i j = false) (ho : ops[i]? = some o) : ∃ s', o.wpIn (wf ro) 0 P a w (wlT P ro ops fl I Q s') Q ∧ schOk ops (rem.filter fun k => !(Nat.beq k i)) s' = true := by
  have hnw : waitB ops rem i = false := by
    cases hw : waitB ops rem i with
    | false => rfl
    | true =>
      obtain ⟨j, hj, hjr⟩ := List.any_eq_true.1 hw
      rw [hr j hj] at hjr; cases hjr
  cases s with
  | done => simp only [schOk, List.isEmpty_iff] at hok; rw [hok] at hi; cases hi
  | one k n =>
    simp only [schOk, Bool.and_eq_true, List.all_eq_true, Bool.or_eq_true] at hok
    have := hok.1.2 i hi
    rw [hnw] at this
    have e : i = k := Nat.eq_of_beq_eq_true (this.resolve_right (by simp))
    subst e
    obtain ⟨_, o', ho', hw⟩ := h
    rw [ho] at ho'; cases ho'
    exact ⟨n, hw, hok.2⟩
  | two k n l m =>
    simp only [schOk, Bool.and_eq_true, List.all_eq_true, Bool.or_eq_true] at hok
    have := hok.1.1.2 i hi
    rw [hnw] at this
    rcases this.resolve_right (by simp) with e | e
    · have e := Nat.eq_of_beq_eq_true e
      subst e
      obtain ⟨_, ⟨o', ho', hw⟩, _⟩ := h
      rw [ho] at ho'; cases ho'
      exact ⟨n, hw, hok.1.2⟩
    · have e := Nat.eq_of_beq_eq_true e
      subst e
      obtain ⟨_, _, o', ho', hw⟩ := h
      rw [ho] at ho'; cases ho'
      exact ⟨m, hw, hok.2⟩

structure InvT (P : Program) (ro : Option Nat) (N : Nat) (fl : Bool) (I : World → Prop) (Q : Exit → Act → World → Prop) (ops : List Oper) (hv : List (Option Value)) (a0 : Act) (listed : Array Bool) (a a' : Act) (q : List Nat × Sch) (w : World) : Prop where
  sub : ∀ i, i ∈ q.1 → i < ops.length ∧ isH hv i = false
  ok : schOk ops q.1 q.2 = true
  tl : ∀ i, i < ops.length → isH hv i = false → (isL listed i ↔ ¬ i ∈ q.1)
  wp : wlT P ro ops fl I Q q.2 a' w
  sz : a.tmps.size = N
  sz' : a'.tmps.size = N
  df : a.defers = a'.defers
  hval : ∀ (i : Nat) (o : Oper) (t : Tmp) (v : Value), ops[i]? = some o → hv[i]? = some (some v) → o.dst = some t → a'.tmps.getD t undef = v
  pend : ∀ (i : Nat) (o : Oper) (t : Tmp), ops[i]? = some o → isH hv i = true → ¬ isL listed i → o.dst = some t → a.tmps.getD t undef = a0.tmps.getD t undef
  same : ∀ t, (∀ (i : Nat) (o : Oper), ops[i]? = some o → isH hv i = true → ¬ isL listed i → o.dst ≠ some t) → a.tmps.getD t undef = a'.tmps.getD t undef
  old : ∀ t, (∀ (i : Nat) (o : Oper), ops[i]? = some o → o.dst = some t → isH hv i = false ∧ ¬ isL listed i) → a'.tmps.getD t undef = a0.tmps.getD t undef
  shut : ∀ (i : Nat) (o : Oper), ops[i]? = some o → isL listed i → ∀ j, edgeTo o j = true → isL listed j

section
variable {P : Program} {ro : Option Nat} {N : Nat} {ds : List Deferred} {ops : List Oper} {I : World → Prop} {K : Env → World → Prop} {σ0 : Env} {w0 : World} {hv : List (Option Value)} {a0 : Act} {Q : Exit → Act → World → Prop}

theorem heldT_any {fl : Bool} (hchk : okHeldT ops N fl hv = true) (ha0 : Agr N σ0 ds a0) (hob : hObs P I (hEnv ops hv σ0) ops hv) (hQ : ∀ e a w, Q e a w → e = .normal) :
    ∀ (fuel : Nat) (listed : Array Bool) (a a' : Act) (q : List Nat × Sch) (w : World), listed.size = ops.length → cnt listed ops.length ≤ fuel → InvT P ro N fl I Q ops hv a0 listed a a' q w →
      wpAnyIn (wf ro) 0 P .any ops.toArray Q fuel listed a w := by
  simp only [okHeldT, Bool.and_eq_true, List.all_eq_true] at hchk
  obtain ⟨⟨⟨⟨hfl, hlen0⟩, hback⟩, hnd0⟩, hall⟩ := hchk
  have hlen : hv.length = ops.length := Nat.eq_of_beq_eq_true hlen0
  have hnd := nodupB_spec hnd0
  have hback' : ∀ (i : Nat) (o : Oper), ops[i]? = some o → ∀ j, edgeTo o j = true → j < i := by
    intro i o hi j hj
    have := hback (o, i) (by rw [List.mem_zipIdx_iff_getElem?]; exact hi)
    obtain ⟨e, he, hb, rfl⟩ := edgeTo_spec.1 hj
    simp only [okBack, Array.all_eq_true', Bool.or_eq_true, Bool.not_eq_true', Nat.blt_eq] at this
    rcases this e he with h | h
    · rw [hb] at h; cases h
    · exact h
  have allL : ∀ listed : Array Bool, listed.size = ops.length → Region.ready .any ops.toArray listed = [] → ∀ i, i < ops.length → isL listed i := by
    intro listed hsz hr i
    induction i using Nat.strongRecOn with
    | _ i ih =>
      intro hi
      by_cases hh : isL listed i
      · exact hh
      · have : i ∈ Region.ready .any ops.toArray listed := by
          refine mem_ready.2 ⟨by simpa using hi, (getD_of_isL (by omega)).2 hh, fun o ho j hj => ?_⟩
          have := hback' i o (by simpa using ho) j hj
          exact ih j this (by omega)
        rw [hr] at this; cases this
  have done : ∀ listed a a' q w, (∀ i, i < ops.length → isL listed i) → InvT P ro N fl I Q ops hv a0 listed a a' q w → Q .normal a w := by
    intro listed a a' q w hl hI
    have hq : q.1 = [] := List.eq_nil_iff_forall_not_mem.2 fun i hi => by
      obtain ⟨h1, h2⟩ := hI.sub i hi
      exact (hI.tl i h1 h2).1 (hl i h1) hi
    have hwp := hI.wp
    have hok := hI.ok
    rw [hq] at hok
    have hdn : q.2 = .done := by
      cases hs : q.2 with
      | done => rfl
      | one _ _ => rw [hs] at hok; simp [schOk] at hok
      | two _ _ _ _ => rw [hs] at hok; simp [schOk] at hok
    rw [hdn] at hwp
    have haa : a = a' := by
      have ht : a.tmps = a'.tmps := by
        apply Array.ext
        · rw [hI.sz, hI.sz']
        · intro i h1 h2
          have := hI.same i (fun j o ho _ hn => absurd (hl j (by
            rcases Nat.lt_or_ge j ops.length with h | h
            · exact h
            · rw [List.getElem?_eq_none h] at ho; cases ho)) hn)
          simpa [Array.getD_eq_getD_getElem?, h1, h2] using this
      cases a; cases a'
      simp only at ht
      have hd := hI.df
      simp only at hd
      rw [ht, hd]
    rw [haa]; exact hwp.2
  intro fuel
  induction fuel with
  | zero =>
    intro listed a a' q w hsz hc hI
    have hl : ∀ i, i < ops.length → isL listed i := by
      intro i hi
      have := cnt_zero listed ops.length (by omega) i hi
      by_cases hh : isL listed i
      · exact hh
      · have := (getD_of_isL (by omega : i < listed.size)).2 hh
        simp_all
    refine ⟨?_, done listed a a' q w hl hI⟩
    refine List.eq_nil_iff_forall_not_mem.2 fun i hi => ?_
    obtain ⟨h1, h2, _⟩ := mem_ready.1 hi
    have h1' : i < ops.length := by simpa using h1
    exact (getD_of_isL (by omega)).1 h2 (hl i h1')
  | succ fuel ih =>
    intro listed a a' q w hsz hc hI
    refine ⟨fun hr => done listed a a' q w (allL listed hsz hr) hI, fun i hi => ?_⟩
    obtain ⟨hin, hun, hed⟩ := mem_ready.1 hi
    have hin' : i < ops.length := by simpa using hin
    have hunl : ¬ isL listed i := (getD_of_isL (by omega)).1 hun
    obtain ⟨o, ho⟩ : ∃ o, ops[i]? = some o := ⟨_, List.getElem?_eq_getElem hin'⟩
    have hed' : ∀ j, edgeTo o j = true → isL listed j := hed o (by simpa using ho)
    have hsz' : (listed.setIfInBounds i true).size = ops.length := by simpa using hsz
    have hcnt : cnt (listed.setIfInBounds i true) ops.length ≤ fuel := by
      have := cnt_set_lt listed i hun ops.length hin'
      omega
    have hset : ∀ j, isL (listed.setIfInBounds i true) j ↔ (i = j ∨ isL listed j) := fun j => isL_set (by omega)
    have hreach : ∀ j, reachB ops 3 i j = true → isL listed j := fun j hj => reach_listed hI.shut 3 i j o ho hed' hj
    have hshut' : ∀ (j : Nat) (oj : Oper), ops[j]? = some oj → isL (listed.setIfInBounds i true) j → ∀ k, edgeTo oj k = true → isL (listed.setIfInBounds i true) k := by
      intro j oj hoj hlj k hk
      rw [hset] at hlj ⊢
      by_cases e : i = j
      · subst e
        rw [ho] at hoj; cases hoj
        exact .inr (hed' k hk)
      · exact .inr (hI.shut j oj hoj (hlj.resolve_left e) k hk)
    have hck := hall (o, i) (by rw [List.mem_zipIdx_iff_getElem?]; exact ho)
    simp only at hck
    obtain ⟨⟨⟨hdk, hgd⟩, hop⟩, hcls⟩ := hck
    have hgn : o.guard = none := by
      cases hg : o.guard with
      | none => rfl
      | some g => rw [hg] at hgd; cases hgd
    have hnd' : ∀ c, o.op ≠ .defer c := fun c e => by rw [e] at hop; cases hop
    have hns : ∀ cs b, o.op ≠ .select cs b := fun cs b e => by rw [e] at hop; cases hop
    have hw : Region.wanted o (yielded ops.toArray a.tmps) = true := by simp [Region.wanted, hgn]
    unfold wpOpIn
    simp only [List.getElem?_toArray, ho]
    rw [if_pos hw]
    cases hH : isH hv i with
    | true =>
      rw [hH] at hcls
      simp only [cond_true, Bool.and_eq_true, List.all_eq_true] at hcls
      obtain ⟨hds, hrd⟩ := hcls
      obtain ⟨t0, ht0⟩ := Option.isSome_iff_exists.1 hds
      obtain ⟨v, hvv⟩ := isH_some hH
      have htN : t0 < N := by simpa [ht0, dOk, Nat.blt_eq] using hdk
      have hV := hObs_at hob i o v ho hvv w (wlT_I hI.wp fun hft hnil => by
        subst hft
        refine hunl (okLast_listed (by simpa using hfl) hI.shut (fun j hj hHj => (hI.tl j hj hHj).2 ?_) i hin')
        have hok := hI.ok
        rw [hnil] at hok
        simp only [schOk, List.isEmpty_iff] at hok
        rw [hok]; simp)
      have hopn : ∀ x u, x ∈ o.op.operands → ev (hEnv ops hv σ0) x = some u → a.eval x = u := by
        intro x u hx hu
        cases x with
        | const c => simpa [Kx.ev, Act.eval] using hu
        | global g => simpa [Kx.ev, Act.eval] using hu
        | func f => simpa [Kx.ev, Act.eval] using hu
        | tmp t =>
          have hmem : t ∈ tmpsOf o := by
            unfold tmpsOf
            rw [List.mem_filterMap]
            exact ⟨.tmp t, by simpa using hx, rfl⟩
          have hc := hrd t hmem
          show a.tmps.getD t undef = u
          rcases look_hEnv ops hv σ0 t u hu with ⟨j, oj, hoj, hvj, hdj⟩ | ⟨hl0, hno⟩
          · have hc1 := hc (oj, j) (by rw [List.mem_zipIdx_iff_getElem?]; exact hoj)
            have hHj : isH hv j = true := by unfold isH; rw [hvj]; rfl
            simp only [Bool.or_eq_true, hHj, cond_true] at hc1
            have hlj : isL listed j := by
              rcases hc1 with h1 | h1
              · simp [hdj] at h1
              · exact hreach j h1
            rw [hI.same t (fun k ok hok _ hnl hdk' => ?_), hI.hval j oj t u hoj hvj hdj]
            have := dst_inj hnd hoj hok hdj hdk'
            subst this; exact hnl hlj
          · have h1 : a.tmps.getD t undef = a'.tmps.getD t undef := hI.same t (fun k ok hok hHk _ hdk' => hno k ok hok hHk hdk')
            rw [h1, hI.old t (fun k ok hok hdk' => ?_), ha0.slot t u hl0]
            have hHk : isH hv k = false := by
              cases hh : isH hv k with
              | false => rfl
              | true => exact absurd hdk' (hno k ok hok hh)
            refine ⟨hHk, fun hlk => ?_⟩
            have hc1 := hc (ok, k) (by rw [List.mem_zipIdx_iff_getElem?]; exact hok)
            simp only [Bool.or_eq_true, hHk, cond_false] at hc1
            rcases hc1 with h1 | h1
            · simp [hdk'] at h1
            · exact hunl (reach_listed hI.shut 3 k i ok hok (fun j hj => hI.shut k ok hok hlk j hj) h1)
      refine hV.gv.wp hopn ?_
      rintro v' w' ⟨rfl, rfl⟩
      have hp := fun t => slot_put (v := v') (t := t) (d := o.dst) hI.sz
      refine ih _ _ a' q _ hsz' hcnt ⟨hI.sub, hI.ok, fun j hj hHj => ?_, hI.wp, (hp t0).1, hI.sz', (hp t0).2.1.trans hI.df, hI.hval, fun j oj t hoj hHj hnl hdj => ?_, fun t hno => ?_, fun t hno => ?_, hshut'⟩
      · rw [hset]
        constructor
        · rintro (e | e)
          · subst e; rw [hH] at hHj; cases hHj
          · exact (hI.tl j hj hHj).1 e
        · exact fun h => .inr ((hI.tl j hj hHj).2 h)
      · rw [hset] at hnl
        have hne : o.dst ≠ some t := fun e => hnl (.inl (dst_inj hnd ho hoj e hdj))
        rw [(hp t).2.2.1 hne]
        exact hI.pend j oj t hoj hHj (fun h => hnl (.inr h)) hdj
      · by_cases e : o.dst = some t
        · rw [ht0] at e; cases e
          rw [(hp t0).2.2.2 ht0 htN, hI.hval i o t0 v' ho hvv ht0]
        · rw [(hp t).2.2.1 e]
          refine hI.same t fun j oj hoj hHj hnl hdj => ?_
          refine hno j oj hoj hHj (fun h => ?_) hdj
          rw [hset] at h
          rcases h with h | h
          · subst h; rw [ho] at hoj; cases hoj; exact e hdj
          · exact hnl h
      · refine hI.old t fun j oj hoj hdj => ?_
        obtain ⟨h1, h2⟩ := hno j oj hoj hdj
        exact ⟨h1, fun h => h2 ((hset j).2 (.inr h))⟩
    | false =>
      rw [hH] at hcls
      simp only [cond_false, List.all_eq_true] at hcls
      have hrd := hcls
      have hirem : i ∈ q.1 := Classical.byContradiction fun h => hunl ((hI.tl i hin' hH).2 h)
      have hnor : ∀ j, j ∈ q.1 → reachB ops 3 i j = false := by
        intro j hj
        cases hr : reachB ops 3 i j with
        | false => rfl
        | true =>
          obtain ⟨h1, h2⟩ := hI.sub j hj
          exact absurd hj ((hI.tl j h1 h2).1 (hreach j hr))
      obtain ⟨sch, hwp, hok2⟩ := sch_step hI.ok hI.wp hirem hnor ho
      refine wpIn_transfer hnd' hns (fun x hx => ?_) hQ (fun dd v w' hnx => ?_) hwp
      · cases x with
        | const c => rfl
        | global g => rfl
        | func f => rfl
        | tmp t =>
          have hmem : t ∈ tmpsOf o := by
            unfold tmpsOf
            rw [List.mem_filterMap]
            exact ⟨.tmp t, by simpa using hx, rfl⟩
          refine hI.same t fun j oj hoj hHj hnl hdj => hnl ?_
          have hc1 := hrd t hmem (oj, j) (by rw [List.mem_zipIdx_iff_getElem?]; exact hoj)
          simp only [Bool.or_eq_true, hHj] at hc1
          rcases hc1 with (h1 | h1) | h1
          · simp [hdj] at h1
          · simp at h1
          · exact hreach j h1
      · have hsa : ({ a with defers := dd ++ a.defers } : Act).tmps.size = N := hI.sz
        have hsa' : ({ a' with defers := dd ++ a'.defers } : Act).tmps.size = N := hI.sz'
        have hp := fun t => slot_put (v := v) (t := t) (d := o.dst) hsa
        have hp' := fun t => slot_put (v := v) (t := t) (d := o.dst) hsa'
        have hnoH : ∀ (j : Nat) (oj : Oper) (t : Tmp), ops[j]? = some oj → isH hv j = true → oj.dst = some t → o.dst ≠ some t := by
          intro j oj t hoj hHj hdj e
          have := dst_inj hnd ho hoj e hdj
          subst this; rw [hH] at hHj; cases hHj
        refine ih _ _ _ (q.1.filter (fun k => !(Nat.beq k i)), sch) _ hsz' hcnt ⟨fun j hj => hI.sub j (List.mem_filter.1 hj).1, hok2, fun j hj hHj => ?_, hnx, (hp 0).1, (hp' 0).1, ?_, fun j oj t u hoj hvj hdj => ?_, fun j oj t hoj hHj hnl hdj => ?_, fun t hno => ?_, fun t hno => ?_, hshut'⟩
        · rw [hset]
          constructor
          · rintro (e | e) hm
            · subst e
              simpa using (List.mem_filter.1 hm).2
            · exact (hI.tl j hj hHj).1 e (List.mem_filter.1 hm).1
          · intro h
            by_cases e : i = j
            · exact .inl e
            · refine .inr ((hI.tl j hj hHj).2 fun hm => h (List.mem_filter.2 ⟨hm, ?_⟩))
              simp only [Bool.not_eq_true']
              exact beq_ne (fun e' => e e'.symm)
        · rw [(hp 0).2.1, (hp' 0).2.1]
          show dd ++ a.defers = dd ++ a'.defers
          rw [hI.df]
        · have hHj : isH hv j = true := by unfold isH; rw [hvj]; rfl
          rw [(hp' t).2.2.1 (hnoH j oj t hoj hHj hdj)]
          exact hI.hval j oj t u hoj hvj hdj
        · rw [(hp t).2.2.1 (hnoH j oj t hoj hHj hdj)]
          exact hI.pend j oj t hoj hHj (fun h => hnl ((hset j).2 (.inr h))) hdj
        · by_cases e : o.dst = some t
          · have htN : t < N := by simpa [e, dOk, Nat.blt_eq] using hdk
            rw [(hp t).2.2.2 e htN, (hp' t).2.2.2 e htN]
          · rw [(hp t).2.2.1 e, (hp' t).2.2.1 e]
            refine hI.same t fun j oj hoj hHj hnl hdj => hno j oj hoj hHj (fun h => ?_) hdj
            rw [hset] at h
            rcases h with h | h
            · subst h; rw [hH] at hHj; cases hHj
            · exact hnl h
        · have e : o.dst ≠ some t := fun e => (hno i o ho e).2 ((hset i).2 (.inl rfl))
          rw [(hp' t).2.2.1 e]
          refine hI.old t fun j oj hoj hdj => ?_
          obtain ⟨h1, h2⟩ := hno j oj hoj hdj
          exact ⟨h1, fun h => h2 ((hset j).2 (.inr h))⟩

/-- **a region that draws its order: reads beside what follows a plan.** 'hv': of each operation the value that it reads ('some v'), or 'none': it is of the chain. -/
theorem WC.heldT {Q : Pst} {id : Nat} (hm : P.follows .mixedOrders = true) (fl : Bool) (I : World → Prop) (hv : List (Option Value)) (sch : Sch) (hchk : okHeldT ops N fl hv = true) (hsc : schOk ops (tIdx ops hv) sch = true) (hob : hObs P I (hEnv ops hv σ0) ops hv)
    (hT : ∀ w, Ext w0 w → w.heap = w0.heap → WLT P ro N ds ops fl I (fun σ w => Q .normal σ ds w) sch (hEnv ops hv σ0) w) : WC P ro N Q (.region id ops.toArray true) σ0 ds w0 := by
  refine ⟨fun a ha => ?_⟩
  have main : (Code.region id ops.toArray true).wpIn (wf ro) 0 P (fun e a w => e = .normal ∧ ∃ σ', Agr N σ' ds a ∧ Q .normal σ' ds w) a w0 := by
    refine wpIn_region_draw fun t => ?_
    simp only [Region.schedule, hm, Bool.true_or, if_true]
    refine wpAnyIn_sound ops.toArray.size t _ a _ ?_
    have hfalse : ∀ i, ¬ isL (Array.replicate ops.toArray.size false) i := by
      intro i
      unfold isL
      by_cases hi : i < ops.length <;> simp [hi]
    have hc := hchk
    simp only [okHeldT, Bool.and_eq_true, List.all_eq_true] at hc
    obtain ⟨⟨⟨⟨hfl, hlen0⟩, hback⟩, hnd0⟩, hall⟩ := hc
    have hdk : ∀ o ∈ ops, dOk N o.dst = true := by
      intro o ho
      obtain ⟨i, hi⟩ := List.mem_iff_getElem?.1 ho
      exact (hall (o, i) (by rw [List.mem_zipIdx_iff_getElem?]; exact hi)).1.1.1
    have hag := hAct_agr (N := N) (ds := ds) ops hv σ0 a hdk ha
    have hdrew : Ext w0 { w0 with drawn := w0.drawn + 1 } := (Below.refl _ w0).drew
    refine heldT_any hchk ha hob (fun e a w h => h.1) _ _ a (hAct ops hv a) (tIdx ops hv, sch) _ (by simp) (by simpa using cnt_le _ _) ⟨fun i hi => tIdx_mem.1 hi, hsc, fun i h1 h2 => ⟨fun h => absurd h (hfalse i), fun h => absurd (tIdx_mem.2 ⟨h1, h2⟩) h⟩, (hT _ hdrew rfl).out _ hag, ha.size, hag.size, by rw [ha.defs, hag.defs],
      fun i o t v ho hvi hd => hAct_val ops hv a ha.size (nodupB_spec hnd0) i o t v ho hvi hd ?_, fun i o t _ _ _ _ => ?_, fun t hno => ?_, fun t hno => ?_, fun i o _ hl => absurd hl (hfalse i)⟩
    · have := hdk o (List.mem_iff_getElem?.2 ⟨i, ho⟩)
      simpa [hd, dOk, Nat.blt_eq] using this
    · rfl
    · exact (hAct_other ops hv a t ha.size (fun i o ho hi => hno i o ho hi (hfalse i))).symm
    · exact hAct_other ops hv a t ha.size (fun i o ho hi hd => by have := (hno i o ho hd).1; rw [hi] at this; cases this)
  refine wpIn_mono main ?_
  rintro e a' w' ⟨rfl, σ', hag, hk⟩
  exact ⟨σ', ds, hag, hk⟩
end
end Go.Kx
