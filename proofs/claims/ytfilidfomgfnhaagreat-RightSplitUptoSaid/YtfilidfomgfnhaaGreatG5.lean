/-
  A region that draws its order in which some pure operations may come late, even behind the stores. solve: eliminate Package net: Check, Outs Loops that leave marks, the leaving behind several marks, a slice with three indexes. solve: Reduce, Rank, visit solve: augmented solve: particular solve: NullSpace solve: Solve, Certificate solve: Inverse solve: Det Solutions of linear equations: plain. law 04: small, alive law 04: alive The laws' Long: whatever is not long is small. The laws' Long for vectors and matrices Numbers by digits of sixteen bits: plain. The references: add, sub, times, cmp of magnitudes The references: times, sub, cmp, small, back, mul The references: back, mul The references: div The references: Sign, Neg, Abs, Add, Mul, Cmp of integers The references: Gcd, Div, Cmp of integers Regions that draw their order, with cells of their own that are known apart (printed by mkkv.py) The references: rational numbers: one, den, num, over, Least, Add, Mul, Neg, Sub, Sign, Cmp
-/
import Derived.Test.YtfilidfomgfnhaaGreatG4
set_option linter.unusedVariables false
namespace Go.Kx
open Go Go.RowKit
def isLate (lt:List Nat) (i:Nat):Bool:=lt.any (Nat.beq i)
theorem AJ8 {lt:List Nat} {i:Nat}:isLate lt i=true↔i∈lt:=by
 unfold isLate
 rw [List.any_eq_true]
 constructor
 ·rintro ⟨x,hx,h⟩
  rw [Nat.eq_of_beq_eq_true h];exact hx
 ·exact fun h=>⟨i,h,by simp⟩
def nog (o:Oper):Bool:=match o.guard with | none=>true | _=>false
def pureOp (o:Oper):Bool:=match o.op with | .move _=>true | .extract _ _=>true | _=>false
def okTailL (ops:List Oper) (lt:List Nat) (i:Nat) (o:Oper):Bool :=
 (List.range i).all (fun j=>isLate lt j || (closeB ops i (edgesOf o)).any (Nat.beq j)) && (match o.op with | .defer _=>false | .select ..=>false | _=>true) &&
 (lt.all fun l=>match ops[l]? with
  | some ol=>(tmpsOf o).all (fun t=>ol.dst != some t) || (closeB ops i (edgesOf o)).any (Nat.beq l)
  | none=>true)
def okLate (ops:List Oper) (h:Nat) (deps:List (List (Tmp×Nat))) (l:Nat):Bool :=
 Nat.blt l h && match ops[l]? with
  | some ol=>pureOp ol && (tmpsOf ol).all fun t=>(deps.getD l []).any (fun p=>Nat.beq p.1 t && Nat.blt p.2 l) || ops.all fun q=>q.dst != some t
  | none=>false
def okParL (ops:List Oper) (N h:Nat) (deps:List (List (Tmp×Nat))) (lt:List Nat):Bool :=
 ops.zipIdx.all (fun q=>okBack q.2 q.1) && nodupB (dsts ops) && ops.all (fun o=>nog o && dOk N o.dst) &&
 ops.zipIdx.all (fun q=>if Nat.blt q.2 h then okOp (ops.take h) N q.2 q.1 (deps.getD q.2 []) else okTailL ops lt q.2 q.1) &&
 Nat.ble h ops.length && lt.all (okLate ops h deps)
/-- an operation that depends on its operands alone -/
def PureAt (P:Program) (o:Oper) (ρ:Operand→Value) (v:Value):Prop:=∀ ρ':Operand→Value,(∀ x∈o.op.operands,ρ' x=ρ x)→∀ w,(execOp ρ' o).run P w=.ok (.value v) w
theorem pure_of {P:Program} {o:Oper} {ρ:Operand→Value} {w:World} {R:Value→World→Prop} (hp:pureOp o=true)
  (h:(∃ v w',(execOp ρ o).run P w=.ok (.value v) w'∧R v w')∨(∃ w',(execOp ρ o).run P w=.ok .skip w'∧R undef w')∨(∃ f args w',(execOp ρ o).run P w=.ok (.enter f args) w'∧Calls P f args w' fun e w''=>∃ v,e=.returned v∧R v w'')) :
  ∃ v,PureAt P o ρ v∧R v w:=by
 obtain ⟨d,op,ty,pos,af,g⟩:=o
 unfold pureOp at hp
 cases op with
 | move x =>
  have e:∀ ρ' (w:World),(execOp ρ' ⟨d,.move x,ty,pos,af,g⟩).run P w=.ok (.value (ρ' x)) w:=fun _ _=>rfl
  refine ⟨ρ x,fun ρ' h' w=>by rw [e,h' x (by simp [Op.operands])],?_⟩
  rcases h with ⟨v,w',h1,h2⟩ | ⟨w',h1,_⟩ | ⟨f,args,w',h1,_⟩
  ·rw [e] at h1;cases h1;exact h2
  ·rw [e] at h1;cases h1
  ·rw [e] at h1;cases h1
 | extract x i =>
  have e:∀ ρ' (w:World),(execOp ρ' ⟨d,.extract x i,ty,pos,af,g⟩).run P w=((Instr.extract (ρ' x) i).run P w).andThen fun v w=>.ok (.value v) w:=by
   intro ρ' w
   simp only [execOp,Sem.run_bind,Sem.run_pure]
  cases hx:ρ x with
  | tuple vs =>
   cases hv:vs[i]? with
   | some v =>
    have e2:∀ ρ' (w:World),ρ' x=.tuple vs→(execOp ρ' ⟨d,.extract x i,ty,pos,af,g⟩).run P w=.ok (.value v) w:=by
     intro ρ' w hh
     simp [execOp,hh,Instr.extract,hv]
    refine ⟨v,fun ρ' h' w=>e2 ρ' w (by rw [h' x (by simp [Op.operands]),hx]),?_⟩
    rcases h with ⟨v',w',h1,h2⟩ | ⟨w',h1,_⟩ | ⟨f,args,w',h1,_⟩
    ·rw [e2 ρ w hx] at h1;cases h1;exact h2
    ·rw [e2 ρ w hx] at h1;cases h1
    ·rw [e2 ρ w hx] at h1;cases h1
   | none =>
    exfalso
    rcases h with ⟨v',w',h1,h2⟩ | ⟨w',h1,_⟩ | ⟨f,args,w',h1,_⟩<;>simp [execOp,hx,Instr.extract,hv] at h1
  | _ =>
   exfalso
   rcases h with ⟨v',w',h1,h2⟩ | ⟨w',h1,_⟩ | ⟨f,args,w',h1,_⟩<;>simp [execOp,hx,Instr.extract] at h1
 | _=>cases hp
section
variable {P:Program} {ro:Option Nat} {N:Nat} {ds:List Deferred} {ops:List Oper} {K:Env→World→Prop} {σ0:Env} {w0:World} {h:Nat} {sp:List Sp} {deps:List (List (Tmp×Nat))} {a0:Act}
/-- behind one more operation of the head -/
theorem InvA.next {listed:Array Bool} {a:Act} {w w':World} {i:Nat} {o:Oper} {s:Sp} {t0:Tmp} {v:Value} (hI:InvA N ds ops w0 h sp a0 listed a w) (hsz:listed.size=ops.length) (hnd:(dsts ops).Nodup) (hih:i<h) (hin:i<ops.length) (ho:ops[i]?=some o)
  (hs:sp[i]?=some s) (ht0:o.dst=some t0) (htN:t0<N) (hed':∀ j,edgeTo o j=true→isL listed j) (he:Ext w w') (hv:Sp.ok s v w'):InvA N ds ops w0 h sp a0 (listed.setIfInBounds i true) (a.put o.dst v) w':=by
 refine ⟨by simpa [ht0,Act.put] using hI.size,by simpa [ht0,Act.put] using hI.defs,hI.ext.trans he,?_,?_,?_,?_⟩
 ·intro j oj sj t hj hoj hsj hlj hdj
  rw [G4 (by omega)] at hlj
  by_cases e:i=j
  ·subst e
   rw [ho] at hoj;cases hoj
   rw [hs] at hsj;cases hsj
   rw [ht0] at hdj;cases hdj
   have:(a.put o.dst v).tmps.getD t0 undef=v:=by simp [ht0,Act.put,hI.size,htN]
   rw [this];exact hv
  ·have hlj':=hlj.resolve_left e
   have hne:t0≠t:=by
    intro e2
    subst e2
    exact e (K0 hnd ho hoj ht0 hdj)
   have:(a.put o.dst v).tmps.getD t undef=a.tmps.getD t undef:=by simp [ht0,Act.put,Array.getElem?_setIfInBounds_ne hne]
   rw [this]
   exact Sp.ok_ext (hI.vals j oj sj t hj hoj hsj hlj' hdj) he
 ·intro t hno
  have hne:t0≠t:=fun e=>hno i o hih ho ((G4 (by omega)).2 (.inl rfl)) (e▸ht0)
  have:(a.put o.dst v).tmps.getD t undef=a.tmps.getD t undef:=by simp [ht0,Act.put,Array.getElem?_setIfInBounds_ne hne]
  rw [this]
  exact hI.old t fun j oj hj hoj hlj=>hno j oj hj hoj ((G4 (by omega)).2 (.inr hlj))
 ·intro j oj hoj hlj k hk
  rw [G4 (by omega)] at hlj ⊢
  by_cases e:i=j
  ·subst e
   rw [ho] at hoj;cases hoj
   exact .inr (hed' k hk)
  ·exact .inr (hI.shut j oj hoj (hlj.resolve_left e) k hk)
 ·intro j hj
  rw [G4 (by omega)]
  rintro (e | e)
  ·omega
  ·exact hI.head j hj e
/-- what an operation of the head finds -/
theorem InvA.opnd {listed:Array Bool} {a:Act} {w:World} {i:Nat} {o:Oper} (hI:InvA N ds ops w0 h sp a0 listed a w) (ha0:Agr N σ0 ds a0) (hle:h≤ops.length) (hob:Obs P w0 σ0 (ops.take h) sp (ops.take h) sp deps) (hih:i<h) (ho:ops[i]?=some o)
  (hok:okOp (ops.take h) N i o (deps.getD i [])=true) (hunl:¬ isL listed i) (hed':∀ j,edgeTo o j=true→isL listed j) (hg:o.guard=none) :
  ∃ s t0 σ',sp[i]?=some s∧o.dst=some t0∧t0<N∧(Gv P o σ' w fun v w'=>Ext w w'∧Sp.ok s v w')∧∀ x v,x∈o.op.operands→ev σ' x=some v→a.eval x=v:=by
 have htake:∀ i,i<h→(ops.take h)[i]?=ops[i]?:=fun i hi=>by rw [List.getElem?_take,if_pos hi]
 have hlen:=Obs.len hob
 have hlt:(ops.take h).length=h:=by simp;omega
 simp only [okOp,Bool.and_eq_true,List.all_eq_true] at hok
 obtain ⟨⟨⟨⟨⟨hdk,hds⟩,hgd⟩,hndf⟩,hdep⟩,hrd⟩:=hok
 obtain ⟨s,d,hs,hd,hq⟩:=Obs.at_ hob i o (by rw [htake i hih];exact ho)
 have hdd:deps.getD i []=d:=by simp [hd]
 rw [hdd] at hdep hrd hgd
 obtain ⟨t0,ht0⟩:=Option.isSome_iff_exists.1 hds
 obtain ⟨σ',hG,hσ'⟩:=AZ5 (val:=fun t=>a.tmps.getD t undef) d σ0 (hq w hI.ext) (fun p hp=>by
  have h1:=hdep p hp
  obtain ⟨h2,h3⟩:=h1
  split at h3
  ·rename_i oj hoj
   have hlj:=hed' _ h2
   have hjh:p.2<h:=Nat.lt_of_not_le fun hh=>hI.head _ hh hlj
   obtain ⟨s',hs'⟩:∃ s',sp[p.2]?=some s':=⟨_,List.getElem?_eq_getElem (by omega)⟩
   exact ⟨s',hs',hI.vals p.2 oj s' p.1 hjh (by rw [←htake _ hjh];exact hoj) hs' hlj (by simpa using h3)⟩
  ·cases h3)
 refine ⟨s,t0,σ',hs,ht0,by simpa [ht0,dOk,Nat.blt_eq] using hdk,by simpa only [gOk,hg] using hG,?_⟩
 intro x v hx hv
 cases x with
 | const u=>simpa [Kx.ev,Act.eval] using hv
 | global g=>simpa [Kx.ev,Act.eval] using hv
 | func f=>simpa [Kx.ev,Act.eval] using hv
 | tmp t =>
  rcases hσ' t v hv with e | ⟨hv0,hnd'⟩
  ·exact e.symm
  ·have hmem:t∈tmpsOf o:=by
    unfold tmpsOf
    rw [List.mem_filterMap]
    exact ⟨.tmp t,by simpa using hx,rfl⟩
   have hc:=hrd t hmem
   simp only [Bool.or_eq_true] at hc
   rcases hc with hc | hc
   ·obtain ⟨p,hp,hpt⟩:=List.any_eq_true.1 hc
    exact absurd (by simpa using hpt) (hnd' p hp)
   ·show a.tmps.getD t undef=v
    rw [hI.old t (fun i' o' hi' ho' hl' hdst=>?_),ha0.slot t v hv0]
    have:=List.all_eq_true.1 hc (o',i') (by rw [List.mem_zipIdx_iff_getElem?,htake i' hi'];exact ho')
    simp only [Bool.or_eq_true] at this
    rcases this with (h1 | h1) | h1
    ·simp [hdst] at h1
    ·have:i'=i:=by simpa using h1
     subst this;exact hunl hl'
    ·exact hunl (hI.shut i' o' ho' hl' i h1)
theorem AM8 {o:Oper} {t:Tmp} (h:Operand.tmp t∈o.op.operands):t∈tmpsOf o:=by
 unfold tmpsOf
 rw [List.mem_filterMap]
 exact ⟨.tmp t,by simpa using h,rfl⟩
theorem AY6 {a:Act} {d:Option Tmp} {v:Value} {x:Operand} (h:∀ t,x=.tmp t→d≠some t):(a.put d v).eval x=a.eval x:=by
 cases x with
 | tmp t =>
  have hne:=h t rfl
  cases d with
  | none=>rfl
  | some u =>
   have:u≠t:=fun e=>hne (by rw [e])
   show (a.put (some u) v).tmps.getD t undef=a.tmps.getD t undef
   simp [Act.put,Array.getElem?_setIfInBounds_ne this]
 | _=>cases d<;>rfl
theorem PureAt.congr {P:Program} {o:Oper} {ρ ρ':Operand→Value} {v:Value} (h:PureAt P o ρ v) (e:∀ x∈o.op.operands,ρ' x=ρ x):PureAt P o ρ' v:=fun ρ'' h' w=>h ρ'' (fun x hx=>by rw [h' x hx,e x hx]) w
/-- what holds while the tail runs: the late ones are done already in the ghost a' -/
structure InvB (P:Program) (ro:Option Nat) (N:Nat) (ops:List Oper) (h:Nat) (lt:List Nat) (Q:Exit→Act→World→Prop) (listed:Array Bool) (a a':Act) (p:Nat) (w:World):Prop where
 hp:h≤p
 pl:p≤ops.length
 low:∀ j,j<p→isLate lt j=false→isL listed j
 high:∀ j,p≤j→¬ isL listed j
 wp:wpListIn (wf ro) 0 P ops.toArray Q (ops.drop p) a' w
 sz:a.tmps.size=N
 sz':a'.tmps.size=N
 df:a.defers=a'.defers
 same:∀ t,(∀ (l:Nat) (ol:Oper),isLate lt l=true→ops[l]?=some ol→¬ isL listed l→ol.dst≠some t)→a.tmps.getD t undef=a'.tmps.getD t undef
 late:∀ (l:Nat) (ol:Oper) (t:Tmp),isLate lt l=true→ops[l]?=some ol→¬ isL listed l→ol.dst=some t→PureAt P ol a'.eval (a'.tmps.getD t undef)
 shut:∀ (i:Nat) (o:Oper),ops[i]?=some o→isL listed i→∀ j,edgeTo o j=true→isL listed j
set_option maxHeartbeats 1600000 in
theorem BE1 {Q:Exit→Act→World→Prop} {lt:List Nat} (hchk:okParL ops N h deps lt=true) (ha0:Agr N σ0 ds a0) (hob:Obs P w0 σ0 (ops.take h) sp (ops.take h) sp deps)
  (hfin:∀ w,Ext w0 w→finQ (fun σ w=>∀ a,Agr N σ ds a→wpListIn (wf ro) 0 P ops.toArray Q (ops.drop h) a w) w (ops.take h) sp σ0)
  (hQ:∀ e a w,Q e a w→e=.normal) (hQc:∀ a a' w,Q .normal a' w→a.tmps.size=a'.tmps.size→a.defers=a'.defers→(∀ t,a.tmps.getD t undef=a'.tmps.getD t undef)→Q .normal a w) :
  ∀ (fuel:Nat) (listed:Array Bool) (a:Act) (w:World),listed.size=ops.length→cnt listed ops.length≤fuel →
   (InvA N ds ops w0 h sp a0 listed a w∨∃ a' p,InvB P ro N ops h lt Q listed a a' p w) →
   wpAnyIn (wf ro) 0 P .any ops.toArray Q fuel listed a w:=by
 simp only [okParL,Bool.and_eq_true,List.all_eq_true,Nat.ble_eq] at hchk
 obtain ⟨⟨⟨⟨⟨hback,hnd0⟩,hplain⟩,hall⟩,hle⟩,hlate⟩:=hchk
 have hnd:=G7 hnd0
 have hgn:∀ (i:Nat) (o:Oper),ops[i]?=some o→o.guard=none∧dOk N o.dst=true:=by
  intro i o ho
  obtain ⟨h1,h2⟩:=hplain o (List.mem_iff_getElem?.2 ⟨i,ho⟩)
  refine ⟨?_,h2⟩
  unfold nog at h1
  cases hg:o.guard with
  | none=>rfl
  | some g=>rw [hg] at h1;cases h1
 have hback':∀ (i:Nat) (o:Oper),ops[i]?=some o→∀ j,edgeTo o j=true→j<i:=by
  intro i o hi j hj
  have:=hback (o,i) (by rw [List.mem_zipIdx_iff_getElem?];exact hi)
  obtain ⟨e,he,hb,rfl⟩:=F9.1 hj
  simp only [okBack,Array.all_eq_true',Bool.or_eq_true,Bool.not_eq_true',Nat.blt_eq] at this
  rcases this e he with h | h
  ·rw [hb] at h;cases h
  ·exact h
 have hop:∀ (i:Nat) (o:Oper),i<h→ops[i]?=some o→okOp (ops.take h) N i o (deps.getD i [])=true:=by
  intro i o hi ho
  have:=hall (o,i) (by rw [List.mem_zipIdx_iff_getElem?];exact ho)
  simpa [Nat.blt_eq,hi] using this
 have hlt':∀ l,isLate lt l=true→l<h:=by
  intro l hl
  have:=hlate l (AJ8.1 hl)
  simp only [okLate,Bool.and_eq_true,Nat.blt_eq] at this
  exact this.1
 have hlop:∀ (l:Nat) (ol:Oper),isLate lt l=true→ops[l]?=some ol→pureOp ol=true∧∀ t∈tmpsOf ol,(∃ p∈deps.getD l [],p.1=t∧p.2<l)∨∀ q∈ops,q.dst≠some t:=by
  intro l ol hl hol
  have:=hlate l (AJ8.1 hl)
  simp only [okLate,Bool.and_eq_true,hol,List.all_eq_true,Bool.or_eq_true] at this
  refine ⟨this.2.1,fun t ht=>?_⟩
  rcases this.2.2 t ht with h1 | h1
  ·obtain ⟨p,hp,hpt⟩:=List.any_eq_true.1 h1
   simp only [Bool.and_eq_true,Nat.beq_eq,Nat.blt_eq] at hpt
   exact .inl ⟨p,hp,hpt.1,hpt.2⟩
  ·exact .inr fun q hq=>by simpa using h1 q hq
 have hdepd:∀ (i:Nat) (o:Oper) (p:Tmp×Nat),i<h→ops[i]?=some o→p∈deps.getD i []→edgeTo o p.2=true∧∃ oj,ops[p.2]?=some oj∧oj.dst=some p.1:=by
  intro i o p hi ho hp
  have hok:=hop i o hi ho
  simp only [okOp,Bool.and_eq_true,List.all_eq_true] at hok
  obtain ⟨h2,h3⟩:=hok.1.2 p hp
  refine ⟨h2,?_⟩
  split at h3
  ·rename_i oj hoj
   have hj:p.2<h:=Nat.lt_trans (hback' i o ho _ h2) hi
   exact ⟨oj,by rw [List.getElem?_take,if_pos hj] at hoj;exact hoj,by simpa using h3⟩
  ·cases h3
 have hclose:∀ (listed:Array Bool),(∀ (i:Nat) (o:Oper),ops[i]?=some o→isL listed i→∀ j,edgeTo o j=true→isL listed j)→∀ (i:Nat) (o:Oper),ops[i]?=some o→(∀ j,edgeTo o j=true→isL listed j)→∀ j,(closeB ops i (edgesOf o)).any (Nat.beq j)=true→isL listed j:=by
  intro listed shut i o ho hed j hj
  obtain ⟨x,hx,hxe⟩:=List.any_eq_true.1 hj
  have hxj:j=x:=Nat.eq_of_beq_eq_true hxe
  subst hxj
  refine Q9 shut _ _ (fun k hk=>?_) j hx
  simp only [edgesOf,List.mem_filterMap] at hk
  obtain ⟨e,he,hb⟩:=hk
  have hbb:Region.binds .any e=true:=by
   cases h':Region.binds .any e with
   | true=>rfl
   | false=>rw [h'] at hb;simp at hb
  rw [hbb] at hb
  simp at hb
  exact hed k (F9.2 ⟨e,by simpa using he,hbb,hb⟩)
 have htl:∀ (i:Nat) (o:Oper),h≤i→ops[i]?=some o→okTailL ops lt i o=true:=by
  intro i o hi ho
  have:=hall (o,i) (by rw [List.mem_zipIdx_iff_getElem?];exact ho)
  have hn:Nat.blt i h=false:=by
   cases hh:Nat.blt i h with
   | false=>rfl
   | true=>rw [Nat.blt_eq] at hh;omega
  simpa [hn] using this
 have htail:∀ (listed:Array Bool),(∀ (i:Nat) (o:Oper),ops[i]?=some o→isL listed i→∀ j,edgeTo o j=true→isL listed j)→∀ (i:Nat) (o:Oper),h≤i→ops[i]?=some o→(∀ j,edgeTo o j=true→isL listed j)→∀ j,j<i→isLate lt j=false→isL listed j:=by
  intro listed shut i o hi ho hed j hj hnl
  have:=htl i o hi ho
  simp only [okTailL,Bool.and_eq_true,List.all_eq_true,List.mem_range,Bool.or_eq_true] at this
  rcases this.1.1 j hj with h1 | h1
  ·rw [hnl] at h1;cases h1
  ·exact hclose listed shut i o ho hed j h1
 have htake:∀ i,i<h→(ops.take h)[i]?=ops[i]?:=fun i hi=>by rw [List.getElem?_take,if_pos hi]
 have hlen:=Obs.len hob
 have hltn:(ops.take h).length=h:=by simp;omega
 have hndh:(dsts (ops.take h)).Nodup:=by
  have:(dsts ops)=dsts (ops.take h)++dsts (ops.drop h):=by unfold dsts;rw [←List.filterMap_append,List.take_append_drop]
  rw [this] at hnd
  exact (List.nodup_append.1 hnd).1
 have toB:∀ listed a w,InvA N ds ops w0 h sp a0 listed a w→(∀ i,i<h→isL listed i)→wpListIn (wf ro) 0 P ops.toArray Q (ops.drop h) a w:=by
  intro listed a w hI hl
  have hmem:∀ o∈ops.take h,∃ i,i<h∧ops[i]?=some o:=by
   intro o ho
   obtain ⟨i,hi⟩:=List.mem_iff_getElem?.1 ho
   have hi':i<h:=by
    rcases Nat.lt_or_ge i h with hh | hh
    ·exact hh
    ·rw [List.getElem?_eq_none (by omega)] at hi;cases hi
   exact ⟨i,hi',by rw [←htake i hi'];exact hi⟩
  have hsome:∀ o∈ops.take h,dOk N o.dst=true∧o.dst.isSome=true:=by
   intro o ho
   obtain ⟨i,hi,ho⟩:=hmem o ho
   have:=hop i o hi ho
   simp only [okOp,Bool.and_eq_true] at this
   exact ⟨this.1.1.1.1.1,this.1.1.1.1.2⟩
  obtain ⟨σ',hag,hk⟩:=An0 (N:=N) (ds:=ds) (ops.take h) sp σ0 a hlen (hfin w hI.ext) (fun o ho=>(hsome o ho).1)
   (fun i o s t h1 h2 h3=>by
    have hi':i<h:=by
     rcases Nat.lt_or_ge i h with hh | hh
     ·exact hh
     ·rw [List.getElem?_eq_none (by omega)] at h1;cases h1
    exact hI.vals i o s t hi' (by rw [←htake i hi'];exact h1) h2 (hl i hi') h3)
   (fun t v hv hno=>by
    rw [hI.old t (fun i o hi ho _=>hno o (List.mem_iff_getElem?.2 ⟨i,by rw [htake i hi];exact ho⟩))]
    exact ha0.slot t v hv)
   hndh hI.size hI.defs
   (fun i o s h1 h2 h3=>by
    have:=(hsome o (List.mem_iff_getElem?.2 ⟨i,h1⟩)).2
    rw [h3] at this;cases this)
  exact hk a hag
 have ghost:∀ listed a w,listed.size=ops.length→InvA N ds ops w0 h sp a0 listed a w→(∀ j,j<h→isLate lt j=false→isL listed j)→∃ a' p,InvB P ro N ops h lt Q listed a a' p w∧p=h:=by
  intro listed a w hsz hI hl
  have key:∀ k,k≤h→∃ (listed':Array Bool) (a':Act),listed'.size=ops.length∧InvA N ds ops w0 h sp a0 listed' a' w∧(∀ j,j<k→isL listed' j)∧(∀ j,isL listed j→isL listed' j)∧(∀ j,isL listed' j→isL listed j∨j<k) ∧
    (∀ t,(∀ (l:Nat) (ol:Oper),isLate lt l=true→ops[l]?=some ol→¬ isL listed l→ol.dst≠some t)→a.tmps.getD t undef=a'.tmps.getD t undef) ∧
    (∀ (l:Nat) (ol:Oper) (t:Tmp),l<k→isLate lt l=true→ops[l]?=some ol→¬ isL listed l→ol.dst=some t→PureAt P ol a'.eval (a'.tmps.getD t undef)):=by
   intro k
   induction k with
   | zero=>intro _;exact ⟨listed,a,hsz,hI,fun j hj=>by omega,fun _ h=>h,fun _ h=>.inl h,fun _ _=>rfl,fun l _ _ hl=>by omega⟩
   | succ k ihk =>
    intro hk
    obtain ⟨L,a',hszL,hIL,hlow,hsub,hsup,hsame,hpure⟩:=ihk (by omega)
    by_cases hkl:isL L k
    ·by_cases hkl':isL listed k
     ·refine ⟨L,a',hszL,hIL,fun j hj=>?_,hsub,fun j hj=>(hsup j hj).imp id (by omega),hsame,fun l ol t hlk h1 h2 h3 h4=>?_⟩
      ·by_cases e:j=k
       ·rw [e];exact hkl
       ·exact hlow j (by omega)
      ·by_cases e:l=k
       ·rw [e] at h3;exact absurd hkl' h3
       ·exact hpure l ol t (by omega) h1 h2 h3 h4
     ·rcases hsup k hkl with h1 | h1
      ·exact absurd h1 hkl'
      ·omega
    ·have hkn:¬ isL listed k:=fun h1=>hkl (hsub k h1)
     have hkt:isLate lt k=true:=by
      cases hh:isLate lt k with
      | true=>rfl
      | false=>exact absurd (hl k (by omega) hh) hkn
     have hkin:k<ops.length:=by omega
     obtain ⟨o,ho⟩:∃ o,ops[k]?=some o:=⟨_,List.getElem?_eq_getElem hkin⟩
     have hed:∀ j,edgeTo o j=true→isL L j:=fun j hj=>hlow j (hback' k o ho j hj)
     obtain ⟨s,t0,σ',hs,ht0,htN,hG,hopnd⟩:=hIL.opnd ha0 hle hob (by omega:k<h) ho (hop k o (by omega) ho) hkl hed (hgn k o ho).1
     obtain ⟨hpu,htm⟩:=hlop k o hkt ho
     obtain ⟨v,hv1,hv2⟩:=pure_of hpu (hG.2 a'.eval hopnd)
     have hfree:∀ (l:Nat) (ol:Oper),l≤k→isLate lt l=true→ops[l]?=some ol→∀ x∈ol.op.operands,∀ t,x=.tmp t→o.dst≠some t:=by
      intro l ol hlk hll hol x hx t ht
      subst ht
      obtain ⟨_,htm'⟩:=hlop l ol hll hol
      rcases htm' t (AM8 hx) with ⟨p,hp,hpt,hpl⟩ | h1
      ·intro e
       obtain ⟨_,oj,hoj,hdj⟩:=hdepd l ol p (by omega) hol hp
       rw [hpt] at hdj
       have:=K0 hnd ho hoj e hdj
       omega
      ·exact h1 o (List.mem_iff_getElem?.2 ⟨k,ho⟩)
     refine ⟨L.setIfInBounds k true,a'.put o.dst v,by simpa using hszL,hIL.next hszL hnd (by omega) hkin ho hs ht0 htN hed hv2.1 hv2.2,fun j hj=>?_,fun j hj=>?_,fun j hj=>?_,fun t hno=>?_,fun l ol t hlk h1 h2 h3 h4=>?_⟩
     ·rw [G4 (by omega)]
      by_cases e:k=j
      ·exact .inl e
      ·exact .inr (hlow j (by omega))
     ·rw [G4 (by omega)];exact .inr (hsub j hj)
     ·rw [G4 (by omega)] at hj
      rcases hj with e | e
      ·exact .inr (by omega)
      ·exact (hsup j e).imp id (by omega)
     ·have hne:t0≠t:=fun e=>hno k o hkt ho hkn (by rw [ht0,e])
      have:(a'.put o.dst v).tmps.getD t undef=a'.tmps.getD t undef:=by simp [ht0,Act.put,Array.getElem?_setIfInBounds_ne hne]
      rw [this]
      exact hsame t hno
     ·by_cases e:l=k
      ·subst e
       rw [ho] at h2;cases h2
       rw [ht0] at h4;cases h4
       have hval:(a'.put o.dst v).tmps.getD t0 undef=v:=by simp [ht0,Act.put,hIL.size,htN]
       rw [hval]
       exact hv1.congr fun x hx=>AY6 (hfree l o (Nat.le_refl _) hkt ho x hx)
      ·have hne:t0≠t:=fun e2=>e (K0 hnd h2 ho h4 (by rw [ht0,e2]))
       have:(a'.put o.dst v).tmps.getD t undef=a'.tmps.getD t undef:=by simp [ht0,Act.put,Array.getElem?_setIfInBounds_ne hne]
       rw [this]
       exact (hpure l ol t (by omega) h1 h2 h3 h4).congr fun x hx=>AY6 (hfree l ol (by omega) h1 h2 x hx)
  obtain ⟨L,a',hszL,hIL,hlow,hsub,hsup,hsame,hpure⟩:=key h (Nat.le_refl _)
  exact ⟨a',h,⟨Nat.le_refl _,hle,hl,hI.head,toB L a' w hIL hlow,hI.size,hIL.size,hI.defs.trans hIL.defs.symm,hsame,fun l ol t h1=>hpure l ol t (hlt' l h1) h1,hI.shut⟩,rfl⟩
 have allL:∀ listed:Array Bool,listed.size=ops.length→Region.ready .any ops.toArray listed=[]→∀ i,i<ops.length→isL listed i:=by
  intro listed hsz hr i
  induction i using Nat.strongRecOn with
  | _ i ih =>
   intro hi
   by_cases hh:isL listed i
   ·exact hh
   ·have:i∈Region.ready .any ops.toArray listed:=by
     refine F0.2 ⟨by simpa using hi,(C1 (by omega)).2 hh,fun o ho j hj=>?_⟩
     have:=hback' i o (by simpa using ho) j hj
     exact ih j this (by omega)
    rw [hr] at this;cases this
 have done:∀ listed a w,listed.size=ops.length→(∀ i,i<ops.length→isL listed i)→(InvA N ds ops w0 h sp a0 listed a w∨∃ a' p,InvB P ro N ops h lt Q listed a a' p w)→Q .normal a w:=by
  intro listed a w hsz hl hJ
  have hB:∃ a' p,InvB P ro N ops h lt Q listed a a' p w:=by
   rcases hJ with hI | hB
   ·obtain ⟨a',p,hB,_⟩:=ghost listed a w hsz hI (fun j hj _=>hl j (by omega))
    exact ⟨a',p,hB⟩
   ·exact hB
  obtain ⟨a',p,hB⟩:=hB
  have hn:ops.length≤p:=Nat.le_of_not_lt fun hh=>hB.high p (Nat.le_refl _) (hl p hh)
  have hwp:=hB.wp
  rw [List.drop_of_length_le hn] at hwp
  exact hQc a a' w hwp (hB.sz.trans hB.sz'.symm) hB.df fun t=>hB.same t fun l ol _ hol hnl=>absurd (hl l (by
   rcases Nat.lt_or_ge l ops.length with h' | h'
   ·exact h'
   ·rw [List.getElem?_eq_none h'] at hol;cases hol)) hnl
 intro fuel
 induction fuel with
 | zero =>
  intro listed a w hsz hc hJ
  have hl:∀ i,i<ops.length→isL listed i:=by
   intro i hi
   have:=AA8 listed ops.length (by omega) i hi
   by_cases hh:isL listed i
   ·exact hh
   ·have:=(C1 (by omega:i<listed.size)).2 hh
    simp_all
  refine ⟨?_,done listed a w hsz hl hJ⟩
  refine List.eq_nil_iff_forall_not_mem.2 fun i hi=>?_
  obtain ⟨h1,h2,_⟩:=F0.1 hi
  have h1':i<ops.length:=by simpa using h1
  exact (C1 (by omega)).1 h2 (hl i h1')
 | succ fuel ih =>
  intro listed a w hsz hc hJ
  refine ⟨fun hr=>done listed a w hsz (allL listed hsz hr) hJ,fun i hi=>?_⟩
  obtain ⟨hin,hun,hed⟩:=F0.1 hi
  have hin':i<ops.length:=by simpa using hin
  have hunl:¬ isL listed i:=(C1 (by omega)).1 hun
  obtain ⟨o,ho⟩:∃ o,ops[i]?=some o:=⟨_,List.getElem?_eq_getElem hin'⟩
  have hed':∀ j,edgeTo o j=true→isL listed j:=hed o (by simpa using ho)
  have hsz':(listed.setIfInBounds i true).size=ops.length:=by simpa using hsz
  have hcnt:cnt (listed.setIfInBounds i true) ops.length≤fuel:=by
   have:=P6 listed i hun ops.length hin'
   omega
  have hset:∀ j,isL (listed.setIfInBounds i true) j↔(i=j∨isL listed j):=fun j=>G4 (by omega)
  obtain ⟨hgo,hdo⟩:=hgn i o ho
  have hw:Region.wanted o (yielded ops.toArray a.tmps)=true:=by simp [Region.wanted,hgo]
  unfold wpOpIn
  simp only [List.getElem?_toArray,ho]
  rw [if_pos hw]
  have part2:∀ a' p,InvB P ro N ops h lt Q listed a a' p w→o.wpIn (wf ro) 0 P a w (wpAnyIn (wf ro) 0 P .any ops.toArray Q fuel (listed.setIfInBounds i true)) Q:=by
   intro a' p hB
   have hshut':∀ (j:Nat) (oj:Oper),ops[j]?=some oj→isL (listed.setIfInBounds i true) j→∀ k,edgeTo oj k=true→isL (listed.setIfInBounds i true) k:=by
    intro j oj hoj hlj k hk
    rw [hset] at hlj ⊢
    by_cases e:i=j
    ·subst e
     rw [ho] at hoj;cases hoj
     exact .inr (hed' k hk)
    ·exact .inr (hB.shut j oj hoj (hlj.resolve_left e) k hk)
   cases hlat:isLate lt i with
   | true =>
    have hih:=hlt' i hlat
    obtain ⟨hpu,htm⟩:=hlop i o hlat ho
    have hok:=hop i o hih ho
    simp only [okOp,Bool.and_eq_true] at hok
    obtain ⟨t0,ht0⟩:=Option.isSome_iff_exists.1 hok.1.1.1.1.2
    have htN:t0<N:=by have:=hok.1.1.1.1.1;simpa [ht0,dOk,Nat.blt_eq] using this
    have hp:=hB.late i o t0 hlat ho hunl ht0
    have hopn:∀ x∈o.op.operands,a.eval x=a'.eval x:=by
     intro x hx
     cases x with
     | tmp t =>
      refine hB.same t fun l ol hll hol hnl hdl=>?_
      rcases htm t (AM8 hx) with ⟨p',hp',hpt,hpl⟩ | h1
      ·obtain ⟨h2,oj,hoj,hdj⟩:=hdepd i o p' hih ho hp'
       rw [hpt] at hdj
       have:=K0 hnd hol hoj hdl hdj
       rw [this] at hnl
       exact hnl (hed' _ h2)
      ·exact h1 ol (List.mem_iff_getElem?.2 ⟨l,hol⟩) hdl
     | _=>rfl
    have hrun:=hp a.eval hopn w
    have hnd':∀ c,o.op≠.defer c:=fun c e=>by unfold pureOp at hpu;rw [e] at hpu;cases hpu
    refine ⟨fun _ _=>trivial,?_⟩
    show o.uponIn (wf ro) 0 P a _ Q ((o.semAt ro a.eval).run P w)
    rw [AM1 hnd',hrun]
    refine ih _ _ _ hsz' hcnt (.inr ⟨a',p,hB.hp,hB.pl,fun j hj hnl=>(hset j).2 (.inr (hB.low j hj hnl)),fun j hj=>?_,hB.wp,by simpa [ht0,Act.put] using hB.sz,hB.sz',by simpa [ht0,Act.put] using hB.df,fun t hno=>?_,fun l ol t h1 h2 h3 h4=>?_,hshut'⟩)
    ·rw [hset]
     rintro (e | e)
     ·have:=hB.hp;omega
     ·exact hB.high j hj e
    ·by_cases e:t0=t
     ·subst e
      simp [ht0,Act.put,hB.sz,htN]
     ·have:(a.put o.dst (a'.tmps.getD t0 undef)).tmps.getD t undef=a.tmps.getD t undef:=by simp [ht0,Act.put,Array.getElem?_setIfInBounds_ne e]
      rw [this]
      refine hB.same t fun l ol h1 h2 h3 h4=>?_
      by_cases el:l=i
      ·subst el;rw [ho] at h2;cases h2;rw [ht0] at h4;cases h4;exact e rfl
      ·exact hno l ol h1 h2 (fun hh=>by rw [hset] at hh;rcases hh with hh | hh;exact el hh.symm;exact h3 hh) h4
    ·exact hB.late l ol t h1 h2 (fun hh=>h3 ((hset l).2 (.inr hh))) h4
   | false =>
    have hip:p≤i:=Nat.le_of_not_lt fun hh=>hunl (hB.low i hh hlat)
    have hpi:p=i:=by
     rcases Nat.lt_or_ge p i with hh | hh
     ·have hpl:isLate lt p=false:=by
       cases hx:isLate lt p with
       | false=>rfl
       | true=>have:=hlt' p hx;have:=hB.hp;omega
      exact absurd (htail listed hB.shut i o (by have:=hB.hp;omega) ho hed' p hh hpl) (hB.high p (Nat.le_refl _))
     ·omega
    subst hpi
    have hd:ops.drop p=o::ops.drop (p+1):=by
     rw [List.drop_eq_getElem_cons hin']
     congr 1
     have:=List.getElem?_eq_getElem hin'
     rw [ho] at this;exact (Option.some.inj this).symm
    have hwp:=hB.wp
    rw [hd] at hwp
    have hw':Region.wanted o (yielded ops.toArray a'.tmps)=true:=by simp [Region.wanted,hgo]
    simp only [wpListIn,hw',if_true] at hwp
    have hk:=htl p o hB.hp ho
    simp only [okTailL,Bool.and_eq_true,List.all_eq_true] at hk
    obtain ⟨⟨_,hkind⟩,hlts⟩:=hk
    have hopn:∀ x∈o.op.operands,a.eval x=a'.eval x:=by
     intro x hx
     cases x with
     | tmp t =>
      refine hB.same t fun l ol hll hol hnl hdl=>?_
      have:=hlts l (AJ8.1 hll)
      simp only [hol,Bool.or_eq_true,List.all_eq_true] at this
      rcases this with h1 | h1
      ·have:=h1 t (AM8 hx)
       rw [hdl] at this
       simp at this
      ·exact hnl (hclose listed hB.shut p o ho hed' l h1)
     | _=>rfl
    refine Q5 (a':=a') (next':=wpListIn (wf ro) 0 P ops.toArray Q (ops.drop (p+1))) (fun c e=>by rw [e] at hkind;cases hkind) (fun cs b e=>by rw [e] at hkind;cases hkind) hopn hQ (fun dd v w' hn=>?_) hwp
    have hput:∀ (b:Act) (t:Tmp),o.dst≠some t→(b.put o.dst v).tmps.getD t undef=b.tmps.getD t undef:=by
     intro b t hne
     cases hdst:o.dst with
     | none=>rfl
     | some u =>
      have:u≠t:=fun e=>hne (by rw [hdst,e])
      simp [Act.put,Array.getElem?_setIfInBounds_ne this]
    have hputs:∀ (b:Act) (t:Tmp),b.tmps.size=N→o.dst=some t→(b.put o.dst v).tmps.getD t undef=v:=by
     intro b t hb hdst
     have:t<N:=by rw [hdst] at hdo;simpa [dOk,Nat.blt_eq] using hdo
     simp [hdst,Act.put,hb,this]
    have hsz2:∀ b:Act,(b.put o.dst v).tmps.size=b.tmps.size:=fun b=>by cases o.dst<;>simp [Act.put]
    have hdf2:∀ b:Act,(b.put o.dst v).defers=b.defers:=fun b=>by cases o.dst<;>simp [Act.put]
    refine ih _ _ _ hsz' hcnt (.inr ⟨_,p+1,by have:=hB.hp;omega,by omega,fun j hj hnl=>?_,fun j hj=>?_,hn,?_,?_,?_,fun t hno=>?_,fun l ol t h1 h2 h3 h4=>?_,hshut'⟩)
    ·rw [hset]
     by_cases e:p=j
     ·exact .inl e
     ·exact .inr (hB.low j (by omega) hnl)
    ·rw [hset]
     rintro (e | e)
     ·omega
     ·exact hB.high j (by omega) e
    ·rw [hsz2];exact hB.sz
    ·rw [hsz2];exact hB.sz'
    ·rw [hdf2,hdf2]
     show dd++a.defers=dd++a'.defers
     rw [hB.df]
    ·by_cases e:o.dst=some t
     ·exact (hputs { a with defers:=dd++a.defers } t hB.sz e).trans (hputs { a' with defers:=dd++a'.defers } t hB.sz' e).symm
     ·refine (hput { a with defers:=dd++a.defers } t e).trans (Eq.trans ?_ (hput { a' with defers:=dd++a'.defers } t e).symm)
      show a.tmps.getD t undef=a'.tmps.getD t undef
      refine hB.same t fun l ol h1 h2 h3 h4=>?_
      refine hno l ol h1 h2 (fun hh=>?_) h4
      rw [hset] at hh
      rcases hh with hh | hh
      ·rw [←hh,hlat] at h1;cases h1
      ·exact h3 hh
    ·have hne:o.dst≠some t:=fun e=>by
      have:=K0 hnd h2 ho h4 e
      rw [this,hlat] at h1;cases h1
     have hpp:(({ a' with defers:=dd++a'.defers }:Act).put o.dst v).tmps.getD t undef=a'.tmps.getD t undef:=hput { a' with defers:=dd++a'.defers } t hne
     rw [hpp]
     have h3':¬ isL listed l:=fun hh=>h3 ((hset l).2 (.inr hh))
     refine (hB.late l ol t h1 h2 h3' h4).congr fun x hx=>?_
     rw [AY6 (a:=({ a' with defers:=dd++a'.defers }:Act)) fun u hu hdst=>?_]
     ·cases x<;>rfl
     ·subst hu
      obtain ⟨_,htm⟩:=hlop l ol h1 h2
      rcases htm u (AM8 hx) with ⟨p',hp',hpt,hpl⟩ | h5
      ·obtain ⟨_,oj,hoj,hdj⟩:=hdepd l ol p' (hlt' l h1) h2 hp'
       rw [hpt] at hdj
       have:=K0 hnd ho hoj hdst hdj
       have:=hlt' l h1
       have:=hB.hp
       omega
      ·exact h5 o (List.mem_iff_getElem?.2 ⟨p,ho⟩) hdst
  rcases hJ with hI | ⟨a',p,hB⟩
  ·rcases Nat.lt_or_ge i h with hih | hih
   ·obtain ⟨s,t0,σ',hs,ht0,htN,hG,hopnd⟩:=hI.opnd ha0 hle hob hih ho (hop i o hih ho) hunl hed' hgo
    exact hG.wp hopnd fun v w' hv=>ih _ _ _ hsz' hcnt (.inl (hI.next hsz hnd hih hin' ho hs ht0 htN hed' hv.1 hv.2))
   ·obtain ⟨a',p,hB,_⟩:=ghost listed a w hsz hI (fun j hj hnl=>htail listed hI.shut i o hih ho hed' j (by omega) hnl)
    exact part2 a' p hB
  ·exact part2 a' p hB
/-- **a region that draws its order, some pure operations late** -/
theorem WC.parL {Q:Pst} {id:Nat} (hm:P.follows .mixedOrders=true) (h:Nat) (lt:List Nat) (sp:List Sp) (deps:List (List (Tmp×Nat))) (hchk:okParL ops N h deps lt=true)
  (hob:Obs P w0 σ0 (ops.take h) sp (ops.take h) sp deps)
  (hfin:∀ w,Ext w0 w→finQ (fun σ w=>WL P ro N ds ops.toArray (fun σ w=>Q .normal σ ds w) (ops.drop h) σ w) w (ops.take h) sp σ0):WC P ro N Q (.region id ops.toArray true) σ0 ds w0:=by
 refine ⟨fun a ha=>?_⟩
 have main:(Code.region id ops.toArray true).wpIn (wf ro) 0 P (fun e a w=>e=.normal∧∃ σ',Agr N σ' ds a∧Q .normal σ' ds w) a w0:=by
  refine wpIn_region_draw fun t=>?_
  simp only [Region.schedule,hm,Bool.true_or,if_true]
  refine wpAnyIn_sound ops.toArray.size t _ a _ ?_
  have hfalse:∀ i,¬ isL (Array.replicate ops.toArray.size false) i:=by
   intro i
   unfold isL
   by_cases hi:i<ops.length<;>simp [hi]
  refine BE1 hchk ha hob (fun w he=>?_) (fun e a w hq=>hq.1) (fun a a' w hq h1 h2 h3=>⟨rfl,?_⟩) _ _ _ _ (by simp) (by simpa using cnt_le _ _) (.inl ⟨ha.size,ha.defs,(Below.refl _ w0).drew,fun i o s t _ _ _ hl=>absurd hl (hfalse i),fun t _=>rfl,fun i o _ hl=>absurd hl (hfalse i),fun i _=>hfalse i⟩)
  ·have key:∀ (os:List Oper) (ss:List Sp) (σ:Env),finQ (fun σ w=>WL P ro N ds ops.toArray (fun σ w=>Q .normal σ ds w) (ops.drop h) σ w) w os ss σ →
     finQ (fun σ w=>∀ a,Agr N σ ds a→wpListIn (wf ro) 0 P ops.toArray (fun e a w=>e=.normal∧∃ σ',Agr N σ' ds a∧Q .normal σ' ds w) (ops.drop h) a w) w os ss σ:=by
    intro os
    induction os with
    | nil=>intro ss σ hq;exact WL.out hq
    | cons o os ih =>
     intro ss σ hq
     cases ss with
     | nil=>exact WL.out hq
     | cons s ss =>
      cases s with
      | inl v=>exact ih ss _ hq
      | inr p=>exact fun v hv=>ih ss _ (hq v hv)
   exact key _ _ _ (hfin w he)
  ·obtain ⟨_,σ',hag,hk⟩:=hq
   exact ⟨σ',⟨h1.trans hag.size,h2.trans hag.defs,fun t v hv=>(h3 t).trans (hag.slot t v hv)⟩,hk⟩
 refine wpIn_mono main ?_
 rintro e a' w' ⟨rfl,σ',hag,hk⟩
 exact ⟨σ',ds,hag,hk⟩
end
end Go.Kx

namespace Go.Kx
open Go Go.RowKit
/-- the set without the blocks of Z -/
abbrev but (S Z:Nat→Prop):Nat→Prop:=fun k=>S k∧¬ Z k
/-- what a row of the call's own and the block g take -/
abbrev tak (g:Nat) (v:Value):Nat→Prop:=fun k=>k=g∨v.ownBlock=some k
section
variable {α:Type} {E:ER α} {t:TypeId} {S:Nat→Prop} {w w':World} {g:Nat} {l:List α}
/-- rows kept while another row grows -/
theorem FB.grow {v v':Value} (h:FB E t (fun k=>S k∧v.ownBlock≠some k) w g l) (hg:w.grownBy w' v.ownBlock) (hw:v'.ownBlock=v.ownBlock∨v'.ownBlock=some w.heap.size) (hne:v.ownBlock≠some g):FB E t (fun k=>S k∧v'.ownBlock≠some k) w' g l:=by
 have h1:FB E t (fun k=>(S k∧v.ownBlock≠some k)∧k<w.heap.size) w g l:=h.mono fun k hk hs=>⟨hs,hk⟩
 have h2:=h1.chg (Chg.grown hg) hne fun k hk=>hk.1.2
 refine h2.mono fun k _ hk=>⟨hk.1.1,?_⟩
 rcases hw with e | e
 ·rw [e];exact hk.1.2
 ·rw [e];intro e';cases e';exact Nat.lt_irrefl _ hk.2
end
end Go.Kx
namespace Go.Proofs.YtfilidfomgfnhaaGreat
open Go Go.Kx Go.RowKit
theorem un_I:Tryz.prog.underlying 25=some (.slice 3):=by kernel_rfl
theorem AX6:infoOf Tryz.prog 3=some (.int .i64 0,1,8):=by kernel_rfl
theorem G1:tyOf Tryz.prog 3=some (false,1):=by kernel_rfl
theorem At0 {x:Int}:bslOf Tryz.prog 25 1 [(0,.int .i64 x)]=some (3,#[.int .i64 x]):=by kernel_rfl
theorem fld_EV0:fldOf Tryz.prog 159 0=some 0:=by kernel_rfl
theorem fld_EV1:fldOf Tryz.prog 159 1=some 1:=by kernel_rfl
theorem ty_E0:tyOf Tryz.prog 1=some (false,1):=by kernel_rfl
theorem ty_E1:tyOf Tryz.prog 157=some (false,1):=by kernel_rfl
/-- what the events do: D Z j d: after j pivots the product is d, kept in memory that avoids Z -/
structure Evs (P:Program) (xe xs:FuncId) (cape caps:Array Value) (M:Nat) (S0 X:Nat→Prop) (D:(Nat→Prop)→Nat→Rat→World→Prop):Prop where
 entE:Ent P xe
 entS:Ent P xs
 mono:∀ {Z Z':Nat→Prop} {j:Nat} {d:Rat} {W:World},D Z j d W→(∀ k,k<W.heap.size→Z' k→Z k)→D Z' j d W
 chg:∀ {Z:Nat→Prop} {j:Nat} {d:Rat} {W W':World},D Z j d W→Chg Z W W'→D Z j d W'
 exch:∀ {Z:Nat→Prop} {j:Nat} {d:Rat} {W:World},D Z j d W→(∀ k,Z k→k<W.heap.size∧¬ X k)→Calls P xe (([]:List Value).toArray++cape) W fun e W'=>∃ v,e=.returned v∧Chg X W W'∧D Z j (-d) W'
 scal:∀ {Z:Nat→Prop} {j:Nat} {d:Rat} {W:World} {v:Value} {q:QV},D Z j d W→(∀ k,Z k→k<W.heap.size∧¬ X k)→eQ.R (fun k=>S0 k∧¬ Z k∧¬ X k) W v q→qk M q→j≤1000→Calls P xs ([v].toArray++caps) W fun e W'=>∃ v',e=.returned v'∧Chg X W W'∧D Z (j+1) (d*qval q) W'
abbrev pInts (p:List Nat):List Int:=p.map fun (k:Nat)=>(k:Int)
theorem AN5:Ent Tryz.prog 154:=A0 Tryz.func154 (by kernel_rfl) rfl
theorem AL8 {S X:Nat→Prop} {w:World} {gb n cap C cols L M:Nat} {f:RM} {xe xs:FuncId} {cape caps:Array Value} {D:(Nat→Prop)→Nat→Rat→World→Prop}
  (up:Up S w) (hF:FB eV 32 S w gb (tabM n C f)) (hcap:n≤cap) (hcols:cols≤C) (hn:n≤1000) (hC:C≤1000) (hL:1≤L) (hsz:∀ i k,i<n→k<C→Rsz (f i k) L) (hM:bd L (min n cols)≤M) (hM2:M≤40000000)
  (hSg:S gb) (hX:∀ k,X k→k<w.heap.size∧k≠gb∧¬ S k) (ev:Evs Tryz.prog xe xs cape caps M S X D) (hD:D (fun k=>k=gb) 0 1 w) :
  Calls Tryz.prog 154 #[.slice (some ⟨gb,0,none⟩) n cap,.int .i64 cols,.agg #[.func (.func xe) #[] cape,.func (.func xs) #[] caps]] w fun e W=>∃ v,e=.returned v∧Chg (fun k=>k=gb∨X k) w W ∧
   eI.R (fun k=>w.heap.size≤k) W v (pInts (elim n f cols).2)∧FB eV 32 S W gb (tabM n C (elim n f cols).1)∧D (fun k=>k=gb) (elim n f cols).2.length (elimD n f cols) W:=by
 have hgb:=hF.lt
 refine enterG Tryz.func154 rfl Tryz.ntmps154 rfl ?_
 refine .seq (.region (.box rfl rfl fun w1 b5 n1=>.asg rfl rfl (.nil (.seq (.region (.asg rfl rfl (.nil ?_)))))))
 obtain ⟨e1,k5,hb5,hs1⟩:=n1
 replace k5:Blk w1 b5 159 #[.func (.func xe) #[] cape,.func (.func xs) #[] caps]:=k5
 generalize hfe:Value.func (.func xe) #[] cape=fe at k5
 generalize hfs:Value.func (.func xs) #[] caps=fs at k5
 generalize hY:(fun k=>k=gb∨X k)=Y
 have hYi:∀ k,(k=gb∨X k)→Y k:=fun k h=>by rw [←hY];exact h
 have hYo:∀ k,Y k→(k=gb∨X k):=fun k h=>by rw [←hY] at h;exact h
 have hYw:∀ k,Y k→k<w.heap.size:=fun k hk=>by
  rcases hYo k hk with rfl | hk
  ·exact hgb
  ·exact (hX k hk).1
 have hb5X:¬ Y b5:=fun h=>by have:=hYw _ h;omega
 have hXg:¬ X gb:=fun h=>(hX _ h).2.1 rfl
 have hSX:∀ k,S k→¬ X k:=fun k hk hx=>(hX k hx).2.2 hk
 refine .mid (α:=Value) (fun vp=>[(7,vp)]) (fun vp W=>Chg Y w W∧OwnL (eInt .i64) 3 w.heap.size S W vp (pInts (elim n f cols).2)∧FB eV 32 (fun k=>S k∧vp.ownBlock≠some k) W gb (tabM n C (elim n f cols).1)∧D (tak gb vp) (elim n f cols).2.length (elimD n f cols) W) ?_ ?_
 rotate_left
 ·rintro vp W ⟨hc,ho,hf,hd⟩
  refine .seq (.region (.mv rfl rfl (.asg rfl rfl (.nil (.ret ?_)))))
  refine .plain [_] Tryz.results154 ⟨rfl,trivial⟩ ⟨hc,?_,hf.mono (fun k _ h=>h.1),ev.mono hd fun k _ h=>.inl h⟩
  obtain ⟨es,h1,h2⟩:=ho
  exact RL.ofOwn h1 rfl ⟨h2.1,fun i e x he hx=>h2.2 i e x he hx⟩ (fun k hk=>hk)
 refine .seq (.region (.mv rfl rfl (.mv rfl rfl (.nil ?_))))
 refine .block (.loop (α:=Nat×Value) (fun y=>[(0,.slice (some ⟨gb,0,none⟩) n cap),(5,.pointer (some ⟨b5,0,none⟩)),(7,y.2),(16,.int .i64 (cols:Nat)),(17,.int .i64 (y.1:Nat))])
  (fun y W=>Chg Y w W∧y.1≤cols∧Blk W b5 159 #[fe,fs]∧OwnL (eInt .i64) 3 w.heap.size S W y.2 (pInts (elim n f y.1).2)∧FB eV 32 (fun k=>S k∧y.2.ownBlock≠some k) W gb (tabM n C (elim n f y.1).1)∧D (tak gb y.2) (elim n f y.1).2.length (elimD n f y.1) W)
  (fun y=>cols-y.1) (0,.slice none 0 0) ?_ ?_ ?_)
 ·exact lkA rfl
 ·refine ⟨Chg.ext e1,Nat.zero_le _,k5,OwnL.nil,(hF.ext e1).mono fun k _ h=>⟨h,by simp [Value.ownBlock]⟩,ev.chg (ev.mono hD fun k _ h=>?_) (Chg.ext e1)⟩
  rcases h with h | h
  ·exact h
  ·simp [Value.ownBlock] at h
 rintro ⟨c,vp⟩ W ⟨hc,hcc,k5,ho,hf,hd⟩
 replace hcc:c≤cols:=hcc
 replace ho:OwnL (eInt .i64) 3 w.heap.size S W vp (pInts (elim n f c).2):=ho
 replace hf:FB eV 32 (fun k=>S k∧vp.ownBlock≠some k) W gb (tabM n C (elim n f c).1):=hf
 replace hd:D (tak gb vp) (elim n f c).2.length (elimD n f c) W:=hd
 refine .weak [(0,.slice (some ⟨gb,0,none⟩) n cap),(5,.pointer (some ⟨b5,0,none⟩)),(7,vp),(16,.int .i64 (cols:Nat)),(17,.int .i64 (c:Nat))] (fun t v h=>h) ?_
 have hszW:=hc.size
 have hech:=R8 n f c
 have hql:=hech.len
 have hcC:c≤C:=by omega
 have hsg:=AY8 hL hsz c hcC
 have hnext:elim n f (c+1)=estep n c (elim n f c):=rfl
 have hnextD:elimD n f (c+1)=estepD n c (elim n f c) (elimD n f c):=rfl
 have hBM:bd L (elim n f c).2.length≤M:=Nat.le_trans (AN4 L (by have:=hech.len_c;omega)) hM
 have hBp:=BI6 hL (elim n f c).2.length
 obtain ⟨ao,co,hvo⟩:=ho.slice
 have hplen:(pInts (elim n f c).2).length=(elim n f c).2.length:=by simp
 rw [hplen] at hvo
 have hown:∀ k,vp.ownBlock=some k→w.heap.size≤k∧k<W.heap.size:=by
  obtain ⟨es,h1,_⟩:=ho
  exact fun k hk=>h1.lt k hk
 rcases Nat.lt_or_ge c cols with hlt | hge
 rotate_left
 ·refine .seq (.region (.lssF rfl rfl rfl (by omega) (.nil (.seq (.condF rfl (.exit ?_))))))
  have:c=cols:=by omega
  subst this
  exact ⟨rfl,vp,lkA rfl,hc,ho,hf,hd⟩
 have hcC:c<C:=by omega
 refine .seq (.region (.lssT rfl rfl rfl (by omega) (.nil (.seq (.condT rfl (.skip (.seq (.block (.seq (.region (.mv rfl rfl (.asg rfl rfl (.nil ?_)))))))))))))
 generalize hq:(elim n f c).2.length=q at *
 generalize hg:(elim n f c).1=g at *
 have hoR:eI.R (fun _=>True) W vp (pInts (elim n f c).2):=by
  obtain ⟨es,h1,h2⟩:=ho
  exact RL.ofOwn h1 rfl ⟨h2.1,fun i e x he hx=>h2.2 i e x he hx⟩ (fun k hk=>trivial)
 refine .seq (.region (.mv rfl rfl (.lenR un_I rfl rfl hoR ?_)))
 rw [hplen]
 refine .asg rfl rfl (.nil (.seq (.seq (.region (.mv rfl rfl (.mv rfl rfl (.len un_M rfl rfl ?_)))))))
 by_cases hqn:q=n
 ·refine .eqlT rfl rfl rfl (by omega) (.nil (.condT rfl (.exit ?_)))
  obtain ⟨h1,h2⟩:=Ae1 (n:=n) (f:=f) (c:=c) (by omega) (cols-c)
  rw [show c+(cols-c)=cols by omega] at h1 h2
  rw [h1,h2,hq,hg]
  exact ⟨rfl,_,lkA rfl,hc,ho,hf,hd⟩
 refine .eqlF rfl rfl rfl (by omega) (.nil (.condF rfl (.skip (.seq (.region (.mv rfl rfl (.mv rfl rfl (.mv rfl rfl ?_))))))))
 have hM0:eM.R S w (.slice (some ⟨gb,0,none⟩) n cap) (tabM n C g)→True:=fun _=>trivial
 have hMW:eM.R S W (.slice (some ⟨gb,0,none⟩) n cap) (tabM n C g):=by
  have:=(hf.mono (S':=S) fun k _ h=>h.1).toR (c:=cap) (hsz:=by decide) hSg (by rw [A7];exact hcap) (by rw [A7];omega)
  rwa [A7] at this
 refine .call _ rfl AQ7 rfl (AP2 hMW hql hcC (by omega)) fun v2 W2 e2 h2=>?_
 subst h2
 have hc2:=hc.trans (Chg.ext e2)
 have k5:=k5.ext e2
 have ho:=ho.ext e2
 have hf:=hf.ext e2
 have hd:=ev.chg hd (Chg.ext e2)
 have hszW2:=e2.size
 have hstep:elim n f (c+1)=match pivRow g c (n-q) q with
  | none=>elim n f c
  | some r=>(clr (swp g r q) q c,(elim n f c).2++[c]):=by rw [hnext];unfold estep;rw [hq,hg]<;>rfl
 have hstepD:elimD n f (c+1)=match pivRow g c (n-q) q with
  | none=>elimD n f c
  | some r=>(if r=q then elimD n f c else -elimD n f c)*g r c:=by rw [hnextD];unfold estepD;rw [hq,hg]<;>rfl
 cases hp:pivRow g c (n-q) q with
 | none =>
  rw [hp] at hstep hstepD
  refine .mv rfl rfl (.ext rfl rfl rfl (.ext rfl rfl rfl (.asg rfl rfl (.asg rfl rfl (.nil (.seq (.seq (.region (.mv rfl rfl (.not_ rfl rfl (.nil (.condT rfl (.exit ?_)))))))))))))
  refine .region (.add rfl rfl rfl (.mv rfl rfl (.nil ?_)))
  rw [wI (by omega)]
  refine ⟨rfl,(c+1,vp),lkA rfl,⟨hc2,hlt,k5,?_,?_,?_⟩,by show cols-(c+1)<cols-c;omega⟩
  ·rw [hstep];exact ho
  ·rw [hstep,hg];exact hf
  ·rw [hstep,hstepD,hq];exact hd
 | some r =>
 rw [hp] at hstep hstepD
 obtain ⟨hr1,hr2,hr3,_⟩:=L0 hp
 have hrn:r<n:=by omega
 have hqlt:q<n:=by omega
 refine .mv rfl rfl (.ext rfl rfl rfl (.ext rfl rfl rfl (.asg rfl rfl (.asg rfl rfl (.nil (.seq (.seq (.region (.mv rfl rfl (.not_ rfl rfl (.nil (.condF rfl (.skip ?_)))))))))))))
 have upT:∀ {W':World},W2.heap.size≤W'.heap.size→Up (fun k=>(S k∧vp.ownBlock≠some k)∧k≠gb) W':=fun hs k hk=>⟨⟨up k (by omega),fun h=>by have:=(hown k h).2;omega⟩,by omega⟩
 have hTZ:∀ k,((S k∧vp.ownBlock≠some k)∧k≠gb)→S k∧¬ tak gb vp k∧¬ X k:=fun k hk=>⟨hk.1.1,fun h=>by rcases h with h | h;exact hk.2 h;exact hk.1.2 h,hSX k hk.1.1⟩
 have hZ:∀ {W':World},W2.heap.size≤W'.heap.size→∀ k,tak gb vp k→k<W'.heap.size∧¬ X k:=fun hs k hk=>by
  rcases hk with rfl | hk
  ·exact ⟨by omega,hXg⟩
  ·exact ⟨by have:=(hown k hk).2;omega,fun h=>by have:=(hX k h).1;have:=(hown k hk).1;omega⟩
 have hfX:∀ k,(S k∧vp.ownBlock≠some k)→¬ X k:=fun k hk=>hSX k hk.1
 have hXY:∀ {A B:World},Chg X A B→Chg Y A B:=fun h=>h.mono fun k _ hk=>hYi k (.inr hk)
 have hUY:∀ {A B:World},Upd A B gb→Chg Y A B:=fun h=>Chg.upd h (hYi _ (.inl rfl))
 have hUZ:∀ {A B:World},Upd A B gb→Chg (tak gb vp) A B:=fun h=>Chg.upd h (.inl rfl)
 refine .mid (α:=Unit) (fun _=>[(0,.slice (some ⟨gb,0,none⟩) n cap),(5,.pointer (some ⟨b5,0,none⟩)),(7,vp),(8,.int .i64 (c:Nat)),(9,.int .i64 (q:Nat)),(16,.int .i64 (cols:Nat)),(17,.int .i64 (c:Nat))])
  (fun _ W3=>Chg Y W2 W3∧FB eV 32 (fun k=>S k∧vp.ownBlock≠some k) W3 gb (tabM n C (swp g r q))∧D (tak gb vp) q (if r=q then elimD n f c else -elimD n f c) W3) ?_ ?_
 ·refine .seq (.region (.mv rfl rfl (.mv rfl rfl ?_)))
  by_cases hrq:r=q
  ·refine .neqF rfl rfl rfl (by omega) (.nil (.condF rfl (.skip ?_)))
   refine ⟨rfl,(),lkA rfl,Chg.refl _,?_,?_⟩
   ·have:tabM n C (swp g r q)=tabM n C g:=F8 fun i k _ _=>by
     unfold swp
     by_cases ei:i=q
     ·simp [hrq,ei]
     ·simp [hrq,ei]
    rw [this];exact hf
   ·rw [if_pos hrq];exact hd
  ·refine .neqT rfl rfl rfl (by omega) (.nil (.condT rfl (.seq ?_)))
   refine .heldT follows true (fun _=>True) [some _,some (.int .i64 (r:Nat)),some _,some (.int .i64 (q:Nat)),some _,some (.int .i64 (q:Nat)),some (.pointer (some ⟨gb,0+q*1,none⟩)),none,some _,some (.int .i64 (r:Nat)),some (.pointer (some ⟨gb,0+r*1,none⟩)),none,some (.pointer (some ⟨gb,0+r*1,none⟩)),none,some (.pointer (some ⟨gb,0+q*1,none⟩)),none]
    (.two 7 (.one 11 (.one 13 (.one 15 .done))) 11 (.one 7 (.one 13 (.one 15 .done)))) (by kernel_rfl) (by kernel_rfl)
    ⟨fun _ _=>v_mv rfl,fun _ _=>v_mv rfl,fun _ _=>v_mv rfl,fun _ _=>v_mv rfl,fun _ _=>v_mv rfl,fun _ _=>v_mv rfl,fun _ _=>H9 (i:=q) un_M ty_V rfl rfl hqlt,fun _ _=>v_mv rfl,fun _ _=>v_mv rfl,fun _ _=>H9 (i:=r) un_M ty_V rfl rfl hrn,fun _ _=>H9 (i:=r) un_M ty_V rfl rfl hrn,fun _ _=>H9 (i:=q) un_M ty_V rfl rfl hqlt,trivial⟩ ?_
   intro W3 e3 _
   obtain ⟨x7,h7,p7⟩:=(hf.ext e3).at_ (by decide) (F7 hqlt)
   obtain ⟨x11,h11,p11⟩:=(hf.ext e3).at_ (by decide) (F7 hrn)
   have q7:PtrX W3 ⟨gb,0+q*1,none⟩ x7:=by rw [Nat.zero_add];exact p7
   have q11:PtrX W3 ⟨gb,0+r*1,none⟩ x11:=by rw [Nat.zero_add];exact p11
   refine .gv2 (.gv rfl trivial rfl (AW9 (E:=eV) ty_V rfl q7 h7).gv ?_) (.gv rfl trivial rfl (AW9 (E:=eV) ty_V rfl q11 h11).gv ?_)
   all_goals
    rintro _ _ ⟨rfl,rfl⟩
    refine .gv rfl trivial rfl (by first | exact (AW9 (E:=eV) ty_V rfl q11 h11).gv | exact (AW9 (E:=eV) ty_V rfl q7 h7).gv) ?_
    rintro _ _ ⟨rfl,rfl⟩
    refine .gv rfl trivial rfl (AA5 (E:=eV) (i:=r) (by decide) ty_V rfl rfl (hf.ext e3) rfl (by rw [A7];exact hrn) (Nat.zero_add _) h7) ?_
    rintro _ W4 ⟨f4,u4⟩
    refine .gv rfl trivial rfl (AA5 (E:=eV) (i:=q) (by decide) ty_V rfl rfl f4 rfl (by rw [List.length_set,A7];exact hqlt) (Nat.zero_add _) (ER.upd eV h11 u4 (fun h=>h.2 rfl))) ?_
    rintro _ W5 ⟨f5,u5⟩
    refine .nil (.inl rfl) ?_
    rw [AA2 hrn,AA2 hqlt] at f5
    have e5:tabM n C (fun j k=>if j=q then g r k else if j=r then g q k else g j k)=tabM n C (swp g r q):=F8 fun i k _ _=>by
     unfold swp
     by_cases e1:i=q
     ·subst e1;rw [if_pos rfl,if_neg (fun h=>hrq h.symm),if_pos rfl]
     ·by_cases e2:i=r
      ·rw [if_neg e1,if_pos e2,if_pos e2]
      ·rw [if_neg e1,if_neg e2,if_neg e2,if_neg e1]
    rw [e5] at f5
    have c25:Chg Y W2 W5:=((Chg.ext e3).trans (hUY u4)).trans (hUY u5)
    have d5:=ev.chg hd (((Chg.ext e3).trans (hUZ u4)).trans (hUZ u5))
    have k55:=c25.blk k5 hb5X
    refine .region (.fa fld_EV0 rfl rfl (.ld ty_E0 rfl rfl k55 rfl ?_))
    refine .callvG [] rfl (show some fe=some (Value.func (.func xe) #[] cape) by rw [hfe]) ev.entE rfl (ev.exch d5 (hZ c25.size)) ?_
    rintro v6 W6 ⟨c6,d6⟩
    refine .nil ⟨rfl,(),lkA rfl,c25.trans (hXY c6),f5.chg c6 hXg hfX,?_⟩
    rw [if_neg hrq];exact d6
 rintro _ W3 ⟨c3,f3,d3⟩
 have k5:=c3.blk k5 hb5X
 have hs3:=c3.size
 generalize hdd:(if r=q then elimD n f c else -elimD n f c)=dd at *
 have hsq:swp g r q q c=g r c:=by
  unfold swp
  by_cases e:q=r
  ·simp [e]
  ·simp [e]
 have hss:=Au8 (a:=r) (b:=q) hrn hqlt hsg
 generalize hs:swp g r q=s at *
 have hs0:s q c≠0:=by rw [hsq];exact hr3
 have hqk:qk (bd L q) (qc (s q c)):=S8 (hss q c hqlt hcC)
 refine .seq ?_
 refine .par follows 9 [.inl _,.inl fs,.inl _,.inl (.int .i64 (q:Nat)),.inl _,.inr (eV.at (fun k=>(S k∧vp.ownBlock≠some k)∧k≠gb) (tab C (s q))),.inl (.int .i64 (c:Nat)),.inr (Ptr eQ (fun k=>(S k∧vp.ownBlock≠some k)∧k≠gb) (qc (s q c))),.inr (eQ.at (fun k=>(S k∧vp.ownBlock≠some k)∧k≠gb) (qc (s q c)))]
  [[],[(55,0)],[],[],[(57,2),(58,3)],[(59,4)],[],[(60,5),(61,6)],[(62,7)]] (by kernel_rfl) ⟨
  fun w e=>(v_fa fld_EV1 rfl).ob,fun w e=>(v_ld ty_E1 rfl (k5.ext e) rfl).ob,fun w e=>(v_mv rfl).ob,fun w e=>(v_mv rfl).ob,
  fun w e=>(H9 (i:=q) un_M ty_V rfl rfl hqlt).ob,
  fun w e=>AB9 (E:=eV) (i:=q) (by decide) ty_V rfl (Nat.zero_add _) (f3.ext e) (F7 hqlt),
  fun w e=>(v_mv rfl).ob,
  fun w e x hx=>D8 (i:=c) un_V ty_Q rfl hx rfl (J5 hcC),
  fun w e p hp=>K5 ty_Q rfl hp,trivial⟩ ?_
 intro W4 e4 x5 _ x7 _ x8 h8
 refine .callvG [x8] rfl (show some fs=some (Value.func (.func xs) #[] caps) by rw [hfs]) ev.entS rfl (ev.scal (ev.chg d3 (Chg.ext e4)) (hZ (by have:=e4.size;omega)) (eQ.mono (fun k _ hk=>hTZ k hk) h8) (hqk.mono hBM) (by omega)) ?_
 rintro v5 W5 ⟨c5,d5⟩
 refine .nil ?_
 rw [A8] at d5
 have c35:Chg Y W3 W5:=(Chg.ext e4).trans (hXY c5)
 have k5:=c35.blk k5 hb5X
 have f5:=(f3.ext e4).chg c5 hXg hfX
 have hs5:=c35.size
 have up5:=upT (show W2.heap.size≤W5.heap.size by omega)
 refine .seq ?_
 refine .parL follows 13 [11] [.inr (eQ.at (fun k=>(S k∧vp.ownBlock≠some k)∧k≠gb) (qc ((1:Int):Rat))),.inl _,.inl (.int .i64 (q:Nat)),.inl _,.inr (eV.at (fun k=>(S k∧vp.ownBlock≠some k)∧k≠gb) (tab C (s q))),.inl (.int .i64 (c:Nat)),.inr (Ptr eQ (fun k=>(S k∧vp.ownBlock≠some k)∧k≠gb) (qc (s q c))),.inr (eQ.at (fun k=>(S k∧vp.ownBlock≠some k)∧k≠gb) (qc (s q c))),
   .inr (Two (eQ.at (fun k=>(S k∧vp.ownBlock≠some k)∧k≠gb) (qc (s q c)⁻¹)) (Is (.int .i64 0))),.inr (Two (eQ.at (fun k=>(S k∧vp.ownBlock≠some k)∧k≠gb) (qc (s q c)⁻¹)) (Is (.int .i64 0))),.inr (eQ.at (fun k=>(S k∧vp.ownBlock≠some k)∧k≠gb) (qc (s q c)⁻¹)),.inl (.int .i64 0),.inr (NewP W5.heap.size 55 zq.cells)]
  [[],[],[],[(67,1),(68,2)],[(69,3)],[],[(70,4),(71,5)],[(72,6)],[(66,0),(73,7)],[(74,8)],[(65,9)],[(65,9)],[]] (by kernel_rfl) ⟨
  fun w e=>(A1 _ D5 rfl (D3 (up5.ext e.size) (by decide) (by decide))).ob (A6 _ _ _),
  fun w e=>(v_mv rfl).ob,fun w e=>(v_mv rfl).ob,
  fun w e=>(H9 (i:=q) un_M ty_V rfl rfl hqlt).ob,
  fun w e=>AB9 (E:=eV) (i:=q) (by decide) ty_V rfl (Nat.zero_add _) (f5.ext e) (F7 hqlt),
  fun w e=>(v_mv rfl).ob,
  fun w e x hx=>D8 (i:=c) un_V ty_Q rfl hx rfl (J5 hcC),
  fun w e p hp=>K5 ty_Q rfl hp,
  fun w e x hx y hy=>by
   have h1:qok (bd L q) (qc ((1:Int):Rat)):=(Rsz.int 1 (Nat.lt_of_lt_of_le (by decide) (Nat.pow_le_pow_right (by decide) hBp)) hBp).toOk
   have:=AY4 (up5.ext e.size) hx hy h1 hqk.1 hBp (by omega) (by rw [A8];exact hs0)
   rw [A8,A8,show ((1:Int):Rat) / s q c=(s q c)⁻¹ by rw [Rat.div_def];simp] at this
   exact (A1 _ Aa4 rfl this).ob (Y8 (A6 _ _ _) (AL7 _)),
  fun w e x hx=>ob_mv rfl hx (Y8 (A6 _ _ _) (AL7 _)),
  fun w e x hx=>by
   obtain ⟨a,b,rfl,h1,rfl⟩:=hx
   exact M4 (v_ex rfl rfl) h1 (A6 _ _ _),
  fun w e x hx=>by
   obtain ⟨a,b,rfl,h1,rfl⟩:=hx
   exact (v_ex rfl rfl).ob,
  fun w e=>AE4 C5 e.size,trivial⟩ ?_
 intro W6 e6 x0 _ x4 _ x6 _ x7' _ x8' _ x9 _ x10 h10 x12 hx12
 obtain ⟨b12,rfl,hb12,k12⟩:=hx12
 have h10s:=Ah2 h10 k12 AF8
 refine .storeA (E:=eQ) ty_Q rfl rfl k12 rfl rfl h10s (fun h=>h.2 rfl) fun W7 k12 u7 h7=>.asg rfl rfl (.nil ?_)
 have x57:Ext W5 W7:=u7.below e6 hb12
 have h7:eQ.R (fun k=>(S k∧vp.ownBlock≠some k)∧k≠gb) W7 x10 (qc (s q c)⁻¹):=eQ.mono (fun k _ h=>h.1) h7
 have hx10:=shpA rfl h7
 have k5:=k5.ext x57
 have f7:=f5.ext x57
 have d7:=ev.chg d5 (Chg.ext x57)
 have up7:=up5.ext x57.size
 have c37:Chg Y W3 W7:=c35.trans (Chg.ext x57)
 have hki:qk (bd L q) (qc (s q c)⁻¹):=S8 ((hss q c hqlt hcC).inv hBp)
 have hkr:∀ i,i<n→vk (bd L q) (tab C (s i)):=fun i hi=>AD4 fun k hk=>hss i k hi hk
 refine .seq ?_
 refine .par follows 8 [.inl _,.inl (.int .i64 (q:Nat)),.inl x10,.inl _,.inl (.int .i64 (q:Nat)),.inl _,.inr (eV.at (fun k=>(S k∧vp.ownBlock≠some k)∧k≠gb) (tab C (s q))),.inr (eV.at (fun k=>(S k∧vp.ownBlock≠some k)∧k≠gb) (tab C fun k=>(s q c)⁻¹*s q k))]
  [[],[],[],[],[],[(80,3),(81,4)],[(82,5)],[(79,2),(83,6)]] (by kernel_rfl) ⟨
  fun w e=>(v_mv rfl).ob,fun w e=>(v_mv rfl).ob,fun w e=>((B3 ty_Q rfl (k12.ext e) (eQ.csz h7)).eq hx10.symm).ob,fun w e=>(v_mv rfl).ob,fun w e=>(v_mv rfl).ob,
  fun w e=>(H9 (i:=q) un_M ty_V rfl rfl hqlt).ob,
  fun w e=>AB9 (E:=eV) (i:=q) (by decide) ty_V rfl (Nat.zero_add _) (f7.ext e) (F7 hqlt),
  fun w e x hx=>by
   have:=Ak0 (up7.ext e.size) (ER.ext eQ h7 e) hx hki (hkr q hqlt) hBp (by omega) (by rw [A3];omega)
   rw [A3,A8,G9 (g:=fun k=>(s q c)⁻¹*s q k) (fun k hk=>by rw [S4,if_pos hk])] at this
   exact (A1 _ Ao6 rfl this).ob (A6 _ _ _),trivial⟩ ?_
 intro W8 e8 x6b _ x7b h7b
 refine .ixB (i:=q) un_M ty_V rfl rfl rfl hqlt ?_
 refine .storeF (E:=eV) (i:=q) (by decide) ty_V rfl rfl (f7.ext e8) rfl (by rw [A7];exact hqlt) (Nat.zero_add _) h7b fun W9 f9 u9=>.nil ?_
 rw [AA2 hqlt] at f9
 have f9':FB eV 32 (fun k=>S k∧vp.ownBlock≠some k) W9 gb (tabM n C (clrTo s q c 0)):=by rw [As8];exact f9
 clear f9
 have c39:Chg Y W3 W9:=(c37.trans (Chg.ext e8)).trans (hUY u9)
 have k9:=(Chg.trans (Chg.ext e8) (hUY u9)).blk k5 hb5X
 have d9:=ev.chg d7 (Chg.trans (Chg.ext e8) (hUZ u9))
 have hs39:=c39.size
 have hur:vk (bd L q+bd L q) (tab C fun k=>(s q c)⁻¹*s q k):=AD4 fun k hk=>((hss q c hqlt hcC).inv hBp).mul (hss q k hqlt hk)
 refine .mid (α:=Unit) (fun _=>[(0,.slice (some ⟨gb,0,none⟩) n cap),(5,.pointer (some ⟨b5,0,none⟩)),(7,vp),(8,.int .i64 (c:Nat)),(16,.int .i64 (cols:Nat)),(17,.int .i64 (c:Nat))])
  (fun _ Wx=>Chg Y W3 Wx∧Blk Wx b5 159 #[fe,fs]∧FB eV 32 (fun k=>S k∧vp.ownBlock≠some k) Wx gb (tabM n C (clr s q c))∧D (tak gb vp) (q+1) (dd*s q c) Wx) ?_ ?_
 ·refine .seq (.region (.mv rfl rfl (.len un_M rfl rfl (.mv rfl rfl (.nil ?_)))))
  refine .block (.loop (α:=Nat) (fun i=>[(0,.slice (some ⟨gb,0,none⟩) n cap),(5,.pointer (some ⟨b5,0,none⟩)),(7,vp),(8,.int .i64 (c:Nat)),(9,.int .i64 (q:Nat)),(16,.int .i64 (cols:Nat)),(17,.int .i64 (c:Nat)),(86,.slice (some ⟨gb,0,none⟩) n cap),(87,.int .i64 (n:Nat)),(88,.int .i64 (i:Nat))])
   (fun i Wx=>Chg Y W3 Wx∧i≤n∧Blk Wx b5 159 #[fe,fs]∧FB eV 32 (fun k=>S k∧vp.ownBlock≠some k) Wx gb (tabM n C (clrTo s q c i))∧D (tak gb vp) (q+1) (dd*s q c) Wx) (fun i=>n-i) 0 ?_ ?_ ?_)
  ·exact lkA rfl
  ·exact ⟨c39,Nat.zero_le _,k9,f9',d9⟩
  ·rintro i Wa ⟨ca,hi,ka,fa,da⟩
   have hsa:=ca.size
   have upa:=upT (show W2.heap.size≤Wa.heap.size by omega)
   rcases Nat.lt_or_ge i n with hin | hin
   rotate_left
   ·refine .seq (.region (.lssF rfl rfl rfl (by omega) (.nil (.seq (.condF rfl (.exit ?_))))))
    have:i=n:=by omega
    subst this
    rw [BA5] at fa
    exact ⟨rfl,(),lkA rfl,ca,ka,fa,da⟩
   refine .seq (.region (.lssT rfl rfl rfl (by omega) (.nil (.seq (.condT rfl (.skip (.seq (.block (.seq (.region (.mv rfl rfl ?_)))))))))))
   refine .ixB (i:=i) un_M ty_V rfl rfl rfl hin (.ldF (E:=eV) (i:=i) (by decide) ty_V rfl rfl (Nat.zero_add _) fa (F7 hin) fun er her=>.asg rfl rfl (.asg rfl rfl (.nil ?_)))
   have hback:∀ {Wb:World} {σ:Env},Chg Y W3 Wb→Blk Wb b5 159 #[fe,fs]→FB eV 32 (fun k=>S k∧vp.ownBlock≠some k) Wb gb (tabM n C (clrTo s q c (i+1)))→D (tak gb vp) (q+1) (dd*s q c) Wb →
     Chg Y W3 Wb∧i+1≤n∧Blk Wb b5 159 #[fe,fs]∧FB eV 32 (fun k=>S k∧vp.ownBlock≠some k) Wb gb (tabM n C (clrTo s q c (i+1)))∧D (tak gb vp) (q+1) (dd*s q c) Wb:=fun h1 h2 h3 h4=>⟨h1,hin,h2,h3,h4⟩
   by_cases hiq:i=q
   ·refine .seq (.region (.mv rfl rfl (.mv rfl rfl (.neqF rfl rfl rfl (by omega) (.mv rfl rfl (.gs rfl rfl rfl rfl rfl (.gs rfl rfl rfl rfl rfl (.gs rfl rfl rfl rfl rfl (.gs rfl rfl rfl rfl rfl (.gs rfl rfl rfl rfl rfl (.gs rfl rfl rfl rfl rfl (.pick rfl rfl rfl (.nil (.condF rfl (.skip ?_)))))))))))))))
    refine .region (.add rfl rfl rfl (.mv rfl rfl (.nil ?_)))
    rw [wI (by omega)]
    refine ⟨rfl,i+1,lkA rfl,⟨ca,hin,ka,?_,da⟩,by show n-(i+1)<n-i;omega⟩
    have:tabM n C (clrTo s q c (i+1))=tabM n C (clrTo s q c i):=F8 fun j k _ _=>by
     rw [AK3]
     by_cases ej:j=i
     ·simp only [ej,hiq,if_true];unfold clrTo;simp
     ·simp only [ej,if_false]
    rw [this];exact fa
   ·have hrow:∀ k,clrTo s q c i i k=s i k:=fun k=>by unfold clrTo;rw [if_neg hiq,if_neg (by omega)]
    have hrowt:tab C (clrTo s q c i i)=tab C (s i):=G9 fun k _=>hrow k
    rw [hrowt] at her
    refine .seq (.region (.mv rfl rfl (.mv rfl rfl (.neqT rfl rfl rfl (by omega) (.mv rfl rfl (.gr rfl rfl rfl rfl (.mv rfl rfl (.gr rfl rfl rfl rfl (.mv rfl rfl (.gr rfl rfl rfl rfl ?_))))))))))
    refine .ixN (i:=c) un_V ty_Q rfl rfl her rfl (J5 hcC) fun p hp=>.gr rfl rfl rfl rfl (.ldE ty_Q rfl rfl hp fun ex hex=>.gr rfl rfl rfl rfl ?_)
    refine .call _ rfl S2 rfl (R7 hex) fun vs Wb eb hvs=>.gr rfl rfl rfl rfl ?_
    subst hvs
    rw [A8]
    have kb:=ka.ext eb
    have fb:=fa.ext eb
    have db:=ev.chg da (Chg.ext eb)
    have cb:=ca.trans (Chg.ext eb)
    have upb:=upa.ext eb.size
    have herb:=ER.ext eV her eb
    by_cases hz:s i c=0
    ·refine .neqF rfl rfl rfl (O9.2 hz) (.pick rfl rfl rfl (.nil (.condF rfl (.skip ?_))))
     refine .region (.add rfl rfl rfl (.mv rfl rfl (.nil ?_)))
     rw [wI (by omega)]
     refine ⟨rfl,i+1,lkA rfl,⟨cb,hin,kb,?_,db⟩,by show n-(i+1)<n-i;omega⟩
     have:tabM n C (clrTo s q c (i+1))=tabM n C (clrTo s q c i):=F8 fun j k _ _=>by
      rw [AK3]
      by_cases ej:j=i
      ·simp only [ej,hiq,if_true,if_false];rw [hrow,hz];grind
      ·simp only [ej,if_false]
     rw [this];exact fb
    ·refine .neqT rfl rfl rfl (fun h=>hz (O9.1 h)) (.pick rfl rfl rfl (.nil (.condT rfl ?_)))
     have hrq:tab C (clrTo s q c i q)=tab C fun k=>(s q c)⁻¹*s q k:=G9 fun k _=>by unfold clrTo;rw [if_pos rfl]
     refine .par follows 13 [.inl _,.inl (.int .i64 (i:Nat)),.inl er,.inl (.int .i64 (c:Nat)),.inr (Ptr eQ (fun k=>(S k∧vp.ownBlock≠some k)∧k≠gb) (qc (s i c))),.inr (eQ.at (fun k=>(S k∧vp.ownBlock≠some k)∧k≠gb) (qc (s i c))),.inr (eQ.at (fun k=>(S k∧vp.ownBlock≠some k)∧k≠gb) (qc (-(s i c)))),
       .inl _,.inl (.int .i64 (q:Nat)),.inl _,.inr (eV.at (fun k=>(S k∧vp.ownBlock≠some k)∧k≠gb) (tab C fun k=>(s q c)⁻¹*s q k)),.inl er,.inr (eV.at (fun k=>(S k∧vp.ownBlock≠some k)∧k≠gb) (tab C fun k => -(s i c)*((s q c)⁻¹*s q k)+s i k))]
      [[],[],[],[],[(106,2),(107,3)],[(108,4)],[(109,5)],[],[],[(111,7),(112,8)],[(113,9)],[],[(110,6),(114,10),(115,11)]] (by kernel_rfl) ⟨
      fun w e=>(v_mv rfl).ob,fun w e=>(v_mv rfl).ob,fun w e=>(v_mv rfl).ob,fun w e=>(v_mv rfl).ob,
      fun w e=>D8 (i:=c) un_V ty_Q rfl (ER.ext eV herb e) rfl (J5 hcC),
      fun w e p hp=>K5 ty_Q rfl hp,
      fun w e x hx=>by
       have:=AK0 (L:=bd L q) (upb.ext e.size) hx (S8 (hss i c hin hcC)) hBp (by omega)
       rw [A8] at this
       exact (A1 _ AK7 rfl this).ob (A6 _ _ _),
      fun w e=>(v_mv rfl).ob,fun w e=>(v_mv rfl).ob,
      fun w e=>(H9 (i:=q) un_M ty_V rfl rfl hqlt).ob,
      fun w e=>hrq▸AB9 (E:=eV) (i:=q) (by decide) ty_V rfl (Nat.zero_add _) (fb.ext e) (F7 hqlt),
      fun w e=>(v_mv rfl).ob,
      fun w e x hx y hy=>by
       have:=AT3 (L:=bd L q+bd L q) (upb.ext e.size) hx hy (ER.ext eV herb e) (by rw [A3];omega) (by rw [A3];omega) (S8 ((hss i c hin hcC).neg.mono (by omega))) hur ((hkr i hin).mono (by omega)) (by omega) (by omega)
       rw [A3,A3,Nat.max_self,A8,G9 (g:=fun k => -(s i c)*((s q c)⁻¹*s q k)+s i k) (fun k hk=>by rw [S4,S4,if_pos hk,if_pos hk])] at this
       exact (A1 _ AU1 rfl this).ob (A6 _ _ _),trivial⟩ ?_
     intro Wd ed y4 _ y5 _ y6 _ y10 _ y12 hy12
     refine .ixB (i:=i) un_M ty_V rfl rfl rfl hin ?_
     refine .storeF (E:=eV) (i:=i) (by decide) ty_V rfl rfl (fb.ext ed) rfl (by rw [A7];exact hin) (Nat.zero_add _) hy12 fun We fe' ue=>.nil ?_
     rw [AA2 hin] at fe'
     refine .region (.add rfl rfl rfl (.mv rfl rfl (.nil ?_)))
     rw [wI (by omega)]
     refine ⟨rfl,i+1,lkA rfl,⟨(cb.trans (Chg.ext ed)).trans (hUY ue),hin,(Chg.trans (Chg.ext ed) (hUY ue)).blk kb hb5X,?_,ev.chg db (Chg.trans (Chg.ext ed) (hUZ ue))⟩,by show n-(i+1)<n-i;omega⟩
     rw [AK3]
     simp only [hiq,if_false]
     exact fe'
 rintro _ Wx ⟨cx,kx,fx,dx⟩
 have hsx:=cx.size
 have hox:OwnL (eInt .i64) 3 w.heap.size S Wx vp (pInts (elim n f c).2):=ho.chgI (c3.trans cx) hYw
 have c2x:Chg Y w Wx:=hc2.trans (c3.trans cx)
 refine .region (.mv rfl rfl (.mv rfl rfl (.bsl [(0,.int .i64 (c:Nat))] rfl rfl At0 fun Wy by_ ny=>?_)))
 obtain ⟨ey,ky,hby,hsy⟩:=ny
 have hlen:(pInts (elim n f c).2).length≤1000000000:=by rw [hplen];omega
 have hint:(eInt .i64).R (fun k=>S k∧vp.ownBlock≠some k) Wy (.int .i64 (c:Nat)) (c:Int):=⟨rfl,Int.le_trans (by decide:IntKind.min .i64≤0) (by omega),Int.le_trans (by omega:(c:Int)≤1000) (by decide)⟩
 refine .gv rfl rfl (Aw5 (E:=eInt .i64) (base:=w.heap.size) (n:=(c:Int)) (e:=.int .i64 (c:Nat)) (by decide) un_I AX6 rfl rfl rfl (hox.ext ey) ky hint hlen (by decide) (by have:=ey.size;omega)) ?_
 rintro vq Wz ⟨hoz,hgz,hwz⟩
 refine .asg rfl rfl (.nil (.region (.add rfl rfl rfl (.mv rfl rfl (.nil ?_)))))
 rw [wI (by omega)]
 have hpg:vp.ownBlock≠some gb:=fun h=>by have:=(hown gb h).1;omega
 have hcz:Chg Y w Wz:=(c2x.trans (Chg.ext ey)).step (Chg.grown hgz) fun k hk h=>by have:=(hown k h).1;omega
 refine ⟨rfl,(c+1,vq),lkA rfl,⟨hcz,hlt,?_,?_,?_,?_⟩,by show cols-(c+1)<cols-c;omega⟩
 ·exact (hox.ext ey).gblk hgz (kx.ext ey) (by decide)
 ·rw [hstep]
  show OwnL (eInt .i64) 3 w.heap.size S Wz vq (pInts ((elim n f c).2++[c]))
  rw [show pInts ((elim n f c).2++[c])=pInts (elim n f c).2++[(c:Int)] by simp]
  exact hoz
 ·rw [hstep]
  show FB eV 32 (fun k=>S k∧vq.ownBlock≠some k) Wz gb (tabM n C (clr (swp g r q) q c))
  rw [hs]
  exact (fx.ext ey).grow hgz hwz hpg
 ·have hz:D (fun k=>tak gb vp k∨tak gb vq k) (q+1) (dd*s q c) Wy:=ev.mono (ev.chg dx (Chg.ext ey)) fun k hk h=>by
   rcases h with h | h | h
   ·exact h
   ·exact .inl h
   ·rcases hwz with e | e
    ·rw [e] at h;exact .inr h
    ·rw [e] at h;cases h;omega
  have hz2:=ev.chg hz ((Chg.grown hgz).mono fun k _ h=>.inl (.inr h))
  have hz3:=ev.mono (Z':=tak gb vq) hz2 fun k _ h=>.inr h
  rw [hstep,hstepD]
  show D (tak gb vq) ((elim n f c).2++[c]).length _ Wz
  have e9:(if r=q then elimD n f c else -elimD n f c)*g r c=dd*s q c:=by rw [hdd,hsq]
  show D (tak gb vq) ((elim n f c).2++[c]).length ((if r=q then elimD n f c else -elimD n f c)*g r c) Wz
  rw [List.length_append,hq,e9]
  exact hz3
end Go.Proofs.YtfilidfomgfnhaaGreat

namespace Go.Kx
open Go Go.RowKit
/-- a struct that holds a function -/
def eF:ER FuncId where
 sz:=1
 isA:=true
 R:=fun _ _ v f=>v=.agg #[.func (.func f) #[] #[]]
 csz:=by rintro S w e x rfl;rfl
 one:=by rintro S w e x rfl u hu;simp [Value.cells] at hu;subst hu;rfl
 shp:=by rintro S w e x rfl;rfl
 keep:=fun _ h=>h
 mono:=fun _ h=>h
abbrev eFs:ER (List FuncId):=RL eF
def ck (i:Nat) (b:Int) (l:LnV):Bool:=match i with
 | 0=>decide (0≤l.f) && decide (l.f<b)
 | 1=>decide (0≤l.t) && decide (l.t<b)
 | 2 => !(l.f == l.t)
 | 3=>decide (1≤l.x) && decide (l.x≤1000)
 | _=>decide (0≤l.c) && decide (l.c≤1000000)
def ckAll (b:Int) (l:LnV):Prop:=∀ i,i<5→ck i b l=true
def chkOk (n:NtV):Prop:=∀ i,i<n.ls.length→∀ l,n.ls[i]?=some l→ckAll n.b l
def outsOk (n:NtV) (o:List Int):Prop:=∀ i,i<o.length→0≤o.getD i 0∧o.getD i 0<n.ls.length∧(0<i→o.getD (i-1) 0<o.getD i 0)
open Classical in
noncomputable def chkE (n:NtV):Int:=if n.b<1∨6<n.b then 1 else if 10<n.ls.length then 5 else if chkOk n then 0 else 1
open Classical in
noncomputable def outE (n:NtV) (o:List Int):Int:=if chkE n≠0 then chkE n else if outsOk n o then 0 else 1
end Go.Kx
namespace Go.Proofs.YtfilidfomgfnhaaGreat
open Go Go.Kx Go.RowKit
theorem ty_N:tyOf Tryz.prog 24=some (true,2):=by kernel_rfl
theorem AA1:tyOf Tryz.prog 80=some (true,4):=by kernel_rfl
theorem AD0:tyOf Tryz.prog 22=some (false,1):=by kernel_rfl
theorem X4:Tryz.prog.underlying 22=some (.slice 80):=by kernel_rfl
theorem Ae4:zeroOf Tryz.prog 80=some (.agg #[.int .i64 0,.int .i64 0,.int .i64 0,.int .i64 0]):=by kernel_rfl
theorem S7:fldOf Tryz.prog 24 0=some 0:=by kernel_rfl
theorem S6:fldOf Tryz.prog 24 1=some 1:=by kernel_rfl
theorem M1:fldOf Tryz.prog 80 0=some 0:=by kernel_rfl
theorem M0:fldOf Tryz.prog 80 1=some 1:=by kernel_rfl
theorem AV4:fldOf Tryz.prog 80 2=some 2:=by kernel_rfl
theorem Ag9:fldOf Tryz.prog 80 3=some 3:=by kernel_rfl
theorem un_Cs:Tryz.prog.underlying 197=some (.slice 201):=by kernel_rfl
theorem BC3:tyOf Tryz.prog 201=some (true,1):=by kernel_rfl
theorem zero_Ck:zeroOf Tryz.prog 201=some (.agg #[.nilFunc]):=by kernel_rfl
theorem fld_Ck0:fldOf Tryz.prog 201 0=some 0:=by kernel_rfl
theorem ty_FCk:tyOf Tryz.prog 199=some (false,1):=by kernel_rfl
theorem Aa0 {f:FuncId}:bldOf Tryz.prog 201 [(0,.func (.func f) #[] #[])]=some #[.func (.func f) #[] #[]]:=by kernel_rfl
theorem bsl_Ck5 {a b c d e:Value}:bslOf Tryz.prog 197 5 [(0,.agg #[a]),(1,.agg #[b]),(2,.agg #[c]),(3,.agg #[d]),(4,.agg #[e])]=some (201,#[a,b,c,d,e]):=by kernel_rfl
theorem AS9:Ent Tryz.prog 246:=A0 Tryz.func246 (by kernel_rfl) rfl
theorem AR9 {S:Nat→Prop} {w:World} {vn:Value} {n:NtV} {b:Int} (hn:eN.R S w vn n):CR Tryz.prog 246 #[vn,.int .i64 b] w (Is (.bool (decide (0≤b) && decide (b<n.b)))):=by
 obtain ⟨s,rfl,hs,_⟩:=hn
 refine enter Tryz.func246 rfl Tryz.ntmps246 rfl ?_
 refine .seq (.region (.box rfl rfl fun w1 b2 n1=>.asg rfl rfl (.nil ?_)))
 obtain ⟨e1,k2,_,_⟩:=n1
 refine .seq (.region (.mv rfl rfl ?_))
 by_cases h0:0≤b
 ·refine .leqT rfl rfl rfl h0 (.mv rfl rfl (.gr rfl rfl rfl rfl (.mv rfl rfl (.gr rfl rfl rfl rfl (.fa S7 rfl rfl (.gr rfl rfl rfl rfl (.ld A5 rfl rfl k2 rfl (.gr rfl rfl rfl rfl ?_))))))))
  rw [decide_eq_true h0]
  by_cases h1:b<n.b
  ·refine .lssT rfl rfl rfl h1 (.pick rfl rfl rfl (.asg rfl rfl (.nil (.ret ?_))))
   exact .plain [_] Tryz.results246 ⟨rfl,trivial⟩ ⟨e1,by rw [decide_eq_true h1]<;>rfl⟩
  ·refine .lssF rfl rfl rfl (by omega) (.pick rfl rfl rfl (.asg rfl rfl (.nil (.ret ?_))))
   exact .plain [_] Tryz.results246 ⟨rfl,trivial⟩ ⟨e1,by rw [decide_eq_false h1]<;>rfl⟩
 ·refine .leqF rfl rfl rfl (by omega) (.mv rfl rfl (.gs rfl rfl rfl rfl rfl (.gs rfl rfl rfl rfl rfl (.gs rfl rfl rfl rfl rfl (.gs rfl rfl rfl rfl rfl (.pick rfl rfl rfl (.asg rfl rfl (.nil (.ret ?_)))))))))
  exact .plain [_] Tryz.results246 ⟨rfl,trivial⟩ ⟨e1,by rw [decide_eq_false h0]<;>rfl⟩
section
variable {S:Nat→Prop} {w:World} {vn vl:Value} {n:NtV} {l:LnV}
theorem E_ck1:Ent Tryz.prog 245:=A0 Tryz.func245 (by kernel_rfl) rfl
theorem ck1_c (hn:eN.R S w vn n) (hl:eL.R S w vl l):CR Tryz.prog 245 #[vn,vl] w (Is (.bool (ck 0 n.b l))):=by
 have hvn:=shpA rfl hn
 obtain ⟨rfl,_⟩:=hl
 refine enter Tryz.func245 rfl Tryz.ntmps245 rfl ?_
 refine .seq (.region (.box rfl rfl fun w1 b2 n1=>.box rfl rfl fun w2 b3 n2=>.asg rfl rfl (.nil ?_)))
 obtain ⟨e1,k2,_,_⟩:=n1
 obtain ⟨e2,k3,_,_⟩:=n2
 refine .seq (.region (.ldA ty_N rfl rfl (k2.ext e2) (eN.csz hn) (.fa M1 rfl rfl (.ld A5 rfl rfl k3 rfl ?_))))
 rw [←hvn]
 refine .call _ rfl AS9 rfl (AR9 (hn.ext (e1.trans e2))) fun v3 w3 e3 h3=>.asg rfl rfl (.nil (.ret ?_))
 exact .plain [_] Tryz.results245 ⟨rfl,trivial⟩ ⟨(e1.trans e2).trans e3,h3⟩
theorem E_ck2:Ent Tryz.prog 247:=A0 Tryz.func247 (by kernel_rfl) rfl
theorem ck2_c (hn:eN.R S w vn n) (hl:eL.R S w vl l):CR Tryz.prog 247 #[vn,vl] w (Is (.bool (ck 1 n.b l))):=by
 have hvn:=shpA rfl hn
 obtain ⟨rfl,_⟩:=hl
 refine enter Tryz.func247 rfl Tryz.ntmps247 rfl ?_
 refine .seq (.region (.box rfl rfl fun w1 b2 n1=>.box rfl rfl fun w2 b3 n2=>.asg rfl rfl (.nil ?_)))
 obtain ⟨e1,k2,_,_⟩:=n1
 obtain ⟨e2,k3,_,_⟩:=n2
 refine .seq (.region (.ldA ty_N rfl rfl (k2.ext e2) (eN.csz hn) (.fa M0 rfl rfl (.ld A5 rfl rfl k3 rfl ?_))))
 rw [←hvn]
 refine .call _ rfl AS9 rfl (AR9 (hn.ext (e1.trans e2))) fun v3 w3 e3 h3=>.asg rfl rfl (.nil (.ret ?_))
 exact .plain [_] Tryz.results247 ⟨rfl,trivial⟩ ⟨(e1.trans e2).trans e3,h3⟩
theorem E_ck3:Ent Tryz.prog 248:=A0 Tryz.func248 (by kernel_rfl) rfl
theorem ck3_c (hl:eL.R S w vl l):CR Tryz.prog 248 #[vn,vl] w (Is (.bool (ck 2 n.b l))):=by
 obtain ⟨rfl,_⟩:=hl
 refine enter Tryz.func248 rfl Tryz.ntmps248 rfl ?_
 refine .seq (.region (.box rfl rfl fun w1 b2 n1=>.box rfl rfl fun w2 b3 n2=>.asg rfl rfl (.nil ?_)))
 obtain ⟨e1,k2,_,_⟩:=n1
 obtain ⟨e2,k3,_,_⟩:=n2
 refine .seq (.region (.fa M1 rfl rfl (.ld A5 rfl rfl k3 rfl (.fa M0 rfl rfl (.ld A5 rfl rfl k3 rfl (.neq rfl rfl rfl (.asg rfl rfl (.nil (.ret ?_)))))))))
 exact .plain [_] Tryz.results248 ⟨rfl,trivial⟩ ⟨e1.trans e2,rfl⟩
theorem E_ck4:Ent Tryz.prog 249:=A0 Tryz.func249 (by kernel_rfl) rfl
theorem ck4_c (hl:eL.R S w vl l):CR Tryz.prog 249 #[vn,vl] w (Is (.bool (ck 3 n.b l))):=by
 obtain ⟨rfl,_⟩:=hl
 refine enter Tryz.func249 rfl Tryz.ntmps249 rfl ?_
 refine .seq (.region (.box rfl rfl fun w1 b2 n1=>.box rfl rfl fun w2 b3 n2=>.asg rfl rfl (.nil ?_)))
 obtain ⟨e1,k2,_,_⟩:=n1
 obtain ⟨e2,k3,_,_⟩:=n2
 refine .seq (.region (.fa AV4 rfl rfl (.ld I4 rfl rfl k3 rfl ?_)))
 by_cases h0:1≤l.x
 ·refine .leqT rfl rfl rfl h0 (.mv rfl rfl (.gr rfl rfl rfl rfl (.fa AV4 rfl rfl (.gr rfl rfl rfl rfl (.ld I4 rfl rfl k3 rfl (.gr rfl rfl rfl rfl ?_))))))
  by_cases h1:l.x≤1000
  ·refine .leqT rfl rfl rfl h1 (.pick rfl rfl rfl (.asg rfl rfl (.nil (.ret ?_))))
   exact .plain [_] Tryz.results249 ⟨rfl,trivial⟩ ⟨e1.trans e2,by unfold ck;rw [decide_eq_true h0,decide_eq_true h1]<;>rfl⟩
  ·refine .leqF rfl rfl rfl (by omega) (.pick rfl rfl rfl (.asg rfl rfl (.nil (.ret ?_))))
   exact .plain [_] Tryz.results249 ⟨rfl,trivial⟩ ⟨e1.trans e2,by unfold ck;rw [decide_eq_true h0,decide_eq_false h1]<;>rfl⟩
 ·refine .leqF rfl rfl rfl (by omega) (.mv rfl rfl (.gs rfl rfl rfl rfl rfl (.gs rfl rfl rfl rfl rfl (.gs rfl rfl rfl rfl rfl (.pick rfl rfl rfl (.asg rfl rfl (.nil (.ret ?_))))))))
  exact .plain [_] Tryz.results249 ⟨rfl,trivial⟩ ⟨e1.trans e2,by unfold ck;rw [decide_eq_false h0]<;>rfl⟩
theorem E_ck5:Ent Tryz.prog 250:=A0 Tryz.func250 (by kernel_rfl) rfl
theorem ck5_c (hl:eL.R S w vl l):CR Tryz.prog 250 #[vn,vl] w (Is (.bool (ck 4 n.b l))):=by
 obtain ⟨rfl,_⟩:=hl
 refine enter Tryz.func250 rfl Tryz.ntmps250 rfl ?_
 refine .seq (.region (.box rfl rfl fun w1 b2 n1=>.box rfl rfl fun w2 b3 n2=>.asg rfl rfl (.nil ?_)))
 obtain ⟨e1,k2,_,_⟩:=n1
 obtain ⟨e2,k3,_,_⟩:=n2
 refine .seq (.region (.fa Ag9 rfl rfl (.ld I4 rfl rfl k3 rfl ?_)))
 by_cases h0:0≤l.c
 ·refine .leqT rfl rfl rfl h0 (.mv rfl rfl (.gr rfl rfl rfl rfl (.fa Ag9 rfl rfl (.gr rfl rfl rfl rfl (.ld I4 rfl rfl k3 rfl (.gr rfl rfl rfl rfl ?_))))))
  by_cases h1:l.c≤1000000
  ·refine .leqT rfl rfl rfl h1 (.pick rfl rfl rfl (.asg rfl rfl (.nil (.ret ?_))))
   exact .plain [_] Tryz.results250 ⟨rfl,trivial⟩ ⟨e1.trans e2,by unfold ck;rw [decide_eq_true h0,decide_eq_true h1]<;>rfl⟩
  ·refine .leqF rfl rfl rfl (by omega) (.pick rfl rfl rfl (.asg rfl rfl (.nil (.ret ?_))))
   exact .plain [_] Tryz.results250 ⟨rfl,trivial⟩ ⟨e1.trans e2,by unfold ck;rw [decide_eq_true h0,decide_eq_false h1]<;>rfl⟩
 ·refine .leqF rfl rfl rfl (by omega) (.mv rfl rfl (.gs rfl rfl rfl rfl rfl (.gs rfl rfl rfl rfl rfl (.gs rfl rfl rfl rfl rfl (.pick rfl rfl rfl (.asg rfl rfl (.nil (.ret ?_))))))))
  exact .plain [_] Tryz.results250 ⟨rfl,trivial⟩ ⟨e1.trans e2,by unfold ck;rw [decide_eq_false h0]<;>rfl⟩
end
def ckFs:List FuncId:=[245,247,248,249,250]
theorem ckFs_c {S:Nat→Prop} {w:World} {vn vl:Value} {n:NtV} {l:LnV} (hn:eN.R S w vn n) (hl:eL.R S w vl l) {i:Nat} {f:FuncId} (hf:ckFs[i]?=some f):Ent Tryz.prog f∧CR Tryz.prog f #[vn,vl] w (Is (.bool (ck i n.b l))):=by
 match i with
 | 0=>cases hf;exact ⟨E_ck1,ck1_c hn hl⟩
 | 1=>cases hf;exact ⟨E_ck2,ck2_c hn hl⟩
 | 2=>cases hf;exact ⟨E_ck3,ck3_c hl⟩
 | 3=>cases hf;exact ⟨E_ck4,ck4_c hl⟩
 | 4=>cases hf;exact ⟨E_ck5,ck5_c hl⟩
 | i+5=>simp [ckFs] at hf
theorem Ai3:Ent Tryz.prog 199:=A0 Tryz.func199 (by kernel_rfl) rfl
theorem Af9 {w:World}:CR Tryz.prog 199 #[] w (eFs.at (fun _=>True) ckFs):=by
 refine enter Tryz.func199 rfl Tryz.ntmps199 rfl ?_
 refine .seq (.region (.asg rfl rfl (.nil ?_)))
 refine .seq (.region (.bld _ rfl rfl Aa0 (.bld _ rfl rfl Aa0 (.bld _ rfl rfl Aa0 (.bld _ rfl rfl Aa0 (.bld _ rfl rfl Aa0 (.bsl _ rfl rfl bsl_Ck5 fun w1 b1 n1=>.asg rfl rfl (.nil (.ret ?_)))))))))
 refine .plain [_] Tryz.results199 ⟨rfl,trivial⟩ ⟨n1.1,?_⟩
 exact AF3 (E:=eF) [.agg #[.func (.func 245) #[] #[]],.agg #[.func (.func 247) #[] #[]],.agg #[.func (.func 248) #[] #[]],.agg #[.func (.func 249) #[] #[]],.agg #[.func (.func 250) #[] #[]]] ckFs n1 (fun _ _=>trivial) rfl rfl (by decide) (Els.snoc (Els.snoc (Els.snoc (Els.snoc (Els.snoc Els.nil rfl) rfl) rfl) rfl) rfl)
theorem Ap8:Ent Tryz.prog 139:=A0 Tryz.func139 (by kernel_rfl) rfl
theorem Am4 {S:Nat→Prop} {w:World} {vn:Value} {n:NtV} (hn:eN.R S w vn n):CR Tryz.prog 139 #[vn] w (Is (.int .i64 (chkE n))):=by
 obtain ⟨s,rfl,hs,hb⟩:=hn
 have hn:eN.R S w (.agg #[.int .i64 n.b,s]) n:=⟨s,rfl,hs,hb⟩
 obtain ⟨_,_,_,_,hll⟩:=RL.len hs
 refine enter Tryz.func139 rfl Tryz.ntmps139 rfl ?_
 refine .seq (.region (.box rfl rfl fun w1 b1 n1=>.asg rfl rfl (.nil ?_)))
 obtain ⟨e1,k1,hb1,hs1⟩:=n1
 have hB:n.b<1∨6<n.b→chkE n=1:=fun h=>by unfold chkE;rw [if_pos h]
 refine .scope (.seq (.seq (.region (.fa S7 rfl rfl (.ld A5 rfl rfl k1 rfl ?_)))))
 by_cases h1:n.b<1
 ·refine .lssT rfl rfl rfl h1 (.mv rfl rfl (.gs rfl rfl rfl rfl rfl (.gs rfl rfl rfl rfl rfl (.gs rfl rfl rfl rfl rfl (.pick rfl rfl rfl (.nil (.condT rfl (.seq (.region (.asg rfl rfl (.nil (.ret ?_))))))))))))
  exact .plain [_] Tryz.results139 ⟨rfl,trivial⟩ ⟨e1,by rw [hB (.inl h1)];rfl⟩
 refine .lssF rfl rfl rfl (by omega) (.mv rfl rfl (.gr rfl rfl rfl rfl (.fa S7 rfl rfl (.gr rfl rfl rfl rfl (.ld A5 rfl rfl k1 rfl (.gr rfl rfl rfl rfl ?_))))))
 by_cases h6:6<n.b
 ·refine .gtrT rfl rfl rfl h6 (.pick rfl rfl rfl (.nil (.condT rfl (.seq (.region (.asg rfl rfl (.nil (.ret ?_))))))))
  exact .plain [_] Tryz.results139 ⟨rfl,trivial⟩ ⟨e1,by rw [hB (.inr h6)];rfl⟩
 refine .gtrF rfl rfl rfl (by omega) (.pick rfl rfl rfl (.nil (.condF rfl (.skip (.seq (.seq (.region (.fa S6 rfl rfl (.ld AD0 rfl rfl k1 rfl (.lenR X4 rfl rfl (hs.ext e1) ?_))))))))))
 by_cases h10:10<n.ls.length
 ·refine .gtrT rfl rfl rfl (by omega) (.nil (.condT rfl (.seq (.region (.asg rfl rfl (.nil (.ret ?_)))))))
  exact .plain [_] Tryz.results139 ⟨rfl,trivial⟩ ⟨e1,by unfold chkE;rw [if_neg (by omega),if_pos h10]<;>rfl⟩
 have hE:chkOk n→chkE n=0:=fun h=>by unfold chkE;rw [if_neg (by omega),if_neg h10,if_pos h]
 have hE1:¬ chkOk n→chkE n=1:=fun h=>by unfold chkE;rw [if_neg (by omega),if_neg h10,if_neg h]
 refine .gtrF rfl rfl rfl (by omega) (.nil (.condF rfl (.skip (.seq (.region (.asg rfl rfl (.nil (.seq (.region ?_)))))))))
 refine .call _ rfl Ai3 rfl Af9 fun va w2 e2 hF=>.asg rfl rfl (.nil (.seq (.label ?_)))
 have x2:=e1.trans e2
 have k1:=k1.ext e2
 refine .seq (.seq (.region (.fa S6 rfl rfl (.ld AD0 rfl rfl k1 rfl (.lenR X4 rfl rfl (hs.ext x2) (.mv rfl rfl (.nil ?_)))))))
 have hret:∀ {W:World} {σ:Env} {e:Int},Ext w W→chkE n=e→Leave Tryz.prog Tryz.f139 44 (fun v w'=>Ext w w'∧Is (.int .i64 (chkE n)) v w') ((2,.int .i64 e)::σ) [] W:=fun hW he=>.plain [_] Tryz.results139 ⟨rfl,trivial⟩ ⟨hW,by rw [he];rfl⟩
 refine .block (.loop (α:=Nat) (fun i=>[(1,.pointer (some ⟨b1,0,none⟩)),(3,.int .i64 0),(4,va),(23,s),(24,.int .i64 (n.ls.length:Nat)),(25,.int .i64 (i:Nat))]) (fun i W=>Ext w2 W∧i≤n.ls.length∧∀ j,j<i→∀ l,n.ls[j]?=some l→ckAll n.b l) (fun i=>n.ls.length-i) 0 ?_ ?_ ?_)
 ·exact lkA rfl
 ·exact ⟨Ext.refl _,Nat.zero_le _,fun j hj=>absurd hj (Nat.not_lt_zero _)⟩
 rintro i W ⟨hW,hi,hall⟩
 refine .seq (.region ?_)
 rcases Nat.lt_or_ge i n.ls.length with hlt | hge
 rotate_left
 ·refine .lssF rfl rfl rfl (by omega) (.nil (.seq (.condF rfl (.exit (.seq (.region (.mv rfl rfl (.asg rfl rfl (.nil ?_)))))))))
  exact .ret (hret (x2.trans hW) (hE fun j hj l hl=>hall j (by omega) l hl))
 refine .lssT rfl rfl rfl (by omega) (.nil (.seq (.condT rfl (.skip (.seq (.block (.seq (.region ?_))))))))
 have hy:n.ls[i]?=some n.ls[i]:=List.getElem?_eq_getElem hlt
 refine .ixN (i:=i) X4 AA1 rfl rfl (hs.ext (x2.trans hW)) rfl hy fun p hp=>.ldE (E:=eL) AA1 rfl rfl hp fun vl hl=>?_
 refine .alloc rfl Ae4 fun W1 b6 n1=>?_
 obtain ⟨f1,k6,hb6,hs1'⟩:=n1
 refine .storeA (E:=eL) (S:=fun k=>k≠b6) (z:=n.ls[i]) AA1 rfl rfl k6 rfl rfl hl (fun h=>h rfl) fun W2 k6 u6 hl6=>.nil ?_
 have f2:Ext W W2:=u6.below f1 (by omega)
 have hW2:=hW.trans f2
 have hvl:=shpA (E:=eL) rfl hl6
 refine .seq (.region (.mv rfl rfl (.lenR un_Cs rfl rfl (ER.ext eFs hF hW2) (.mv rfl rfl (.nil ?_)))))
 refine .block (.loop (α:=Nat) (fun j=>[(1,.pointer (some ⟨b1,0,none⟩)),(3,.int .i64 0),(4,va),(23,s),(24,.int .i64 (n.ls.length:Nat)),(25,.int .i64 (i:Nat)),(6,.pointer (some ⟨b6,0,none⟩)),(29,va),(30,.int .i64 5),(31,.int .i64 (j:Nat))]) (fun j W'=>Ext W2 W'∧j≤5∧∀ c,c<j→ck c n.b n.ls[i]=true) (fun j=>5-j) 0 ?_ ?_ ?_)
 ·exact lkA rfl
 ·exact ⟨Ext.refl _,Nat.zero_le _,fun j hj=>absurd hj (Nat.not_lt_zero _)⟩
 rintro j W3 ⟨hW3,hj,hck⟩
 refine .seq (.region ?_)
 rcases Nat.lt_or_ge j 5 with hjl | hge
 rotate_left
 ·refine .lssF rfl rfl rfl (by omega) (.nil (.seq (.condF rfl (.exit ?_))))
  have:j=5:=by omega
  subst this
  have hc:ckAll n.b n.ls[i]:=hck
  refine .region (.add rfl rfl rfl (.mv rfl rfl (.nil ?_)))
  rw [wI (by omega)]
  refine ⟨rfl,i+1,lkA rfl,⟨hW2.trans hW3,hlt,fun j' hj' l' hl'=>?_⟩,by show n.ls.length-(i+1)<n.ls.length-i;omega⟩
  by_cases e:j'=i
  ·rw [e,hy] at hl';cases hl';exact hc
  ·exact hall j' (by omega) l' hl'
 refine .lssT rfl rfl rfl (by omega) (.nil (.seq (.condT rfl (.skip (.seq (.block (.seq (.region ?_))))))))
 obtain ⟨f,hf⟩:∃ f,ckFs[j]?=some f:=⟨_,List.getElem?_eq_getElem (by exact hjl)⟩
 refine .ixN (i:=j) un_Cs BC3 rfl rfl (ER.ext eFs hF (hW2.trans hW3)) rfl hf fun p hp=>.ldE (E:=eF) BC3 rfl rfl hp fun vf hvf=>?_
 replace hvf:vf=.agg #[.func (.func f) #[] #[]]:=hvf
 subst hvf
 refine .alloc rfl zero_Ck fun W4 b8 n4=>?_
 obtain ⟨f4,k8,hb8,hs4⟩:=n4
 refine .store BC3 rfl rfl k8 rfl (by simp [Value.cells]) (by simp [one1,Value.cells]) fun W5 k8 u5=>.nil ?_
 have f5:Ext W3 W5:=u5.below f4 (by omega)
 have hW5:=hW3.trans f5
 have xW5:=x2.trans (hW2.trans hW5)
 obtain ⟨hEf,hcf⟩:=ckFs_c (hn.ext xW5) (ER.ext eL (S:=fun k=>k≠b6) hl6 hW5) hf
 refine .seq (.region (.fa fld_Ck0 rfl rfl (.ld ty_FCk rfl rfl k8 rfl (.ldA ty_N rfl rfl (k1.ext (hW2.trans hW5)) rfl (.ldA AA1 rfl rfl (k6.ext hW5) (eL.csz hl6) ?_)))))
 rw [←hvl]
 refine .callv [_,_] rfl rfl hEf rfl hcf fun v6 W6 e6 h6=>?_
 subst h6
 by_cases hc:ck j n.b n.ls[i]=true
 ·rw [hc]
  refine .not_ rfl rfl (.nil (.condF rfl (.skip (.region (.add rfl rfl rfl (.mv rfl rfl (.nil ?_)))))))
  rw [wI (by omega)]
  refine ⟨rfl,j+1,lkA rfl,⟨hW5.trans e6,hjl,fun c hc'=>?_⟩,by show 5-(j+1)<5-j;omega⟩
  by_cases e:c=j
  ·subst e;exact hc
  ·exact hck c (by omega)
 ·rw [Bool.not_eq_true] at hc
  rw [hc]
  refine .not_ rfl rfl (.nil (.condT rfl (.seq (.region (.asg rfl rfl (.nil (.exit (.seq (.region (.mv rfl rfl (.asg rfl rfl (.nil ?_))))))))))))
  refine .ret (hret (xW5.trans e6) (hE1 fun h=>?_))
  have:=h i hlt _ hy j hjl
  rw [hc] at this
  cases this
end Go.Proofs.YtfilidfomgfnhaaGreat

namespace Go.Kx
open Go Go.RowKit
section
variable {P:Program} {ro:Option Nat} {N:Nat} {Q:Pst} {σ:Env} {ds:List Deferred} {w:World}
end
section
variable {P:Program} {ro:Option Nat} {N:Nat} {ds:List Deferred} {ops:Array Oper} {K:Env→World→Prop} {rest:List Oper} {σ:Env} {w:World} {d:Tmp} {ty:TypeId} {pos:String} {af:Array Edge}
theorem RL.first {α:Type} {E:ER α} {hsz:0<E.sz} {S:Nat→Prop} {a:Option Addr} {n c H c':Nat} {l:List α} (h:(RL E hsz).R S w (.slice a n c) l) (hH:H≤l.length) (hc:H≤c'):(RL E hsz).R S w (.slice a H c') (l.take H):=by
 have h1:=RL.sub h rfl 0 H (Nat.zero_le _) hH
 obtain ⟨es,he,a',c'',hv,h3,h4,h5,h6⟩:=h1
 have hl:((l.take H).drop 0).length=H:=by simp;omega
 rw [List.drop_zero] at *
 refine ⟨es,he,a,c',by rw [show (l.take H).length=H by simp;omega],by rw [show (l.take H).length=H by simp;omega];exact hc,h4,h5,fun hn=>?_⟩
 obtain ⟨ad,ha,hS,hcl⟩:=h6 hn
 refine ⟨ad,?_,hS,hcl⟩
 simp only [Nat.sub_zero,Nat.zero_mul] at hv
 injection hv with e1 e2 e3
 rw [←ha,←e1]
 obtain ⟨_,_,_,hv2,hcc,_⟩:=h
 split
 ·rfl
 ·cases a with
  | none=>rfl
  | some x=>rfl
end
/-! a matrix with a new row h at i that is still being filled -/
def FBx (t:TypeId) (S:Nat→Prop) (w:World) (gb h i:Nat) (hv:Value) (l:List (List QV)):Prop :=
 ∃ es,Blk w gb t (cellsOf es).toArray∧es.length=l.length∧(∀ e∈es,e.cells.size=1)∧es[i]?=some hv∧∀ (j:Nat) (e:Value) (x:List QV),j≠i→es[j]?=some e→l[j]?=some x→eV.R (fun k=>(S k∧k≠gb)∧k≠h) w e x
section
variable {t:TypeId} {S:Nat→Prop} {w w':World} {gb h i:Nat} {hv:Value} {l:List (List QV)}
theorem FBx.keep (hF:FBx t S w gb h i hv l) (hk:Kp (fun k=>k≠h) w w') (hg:gb≠h):FBx t S w' gb h i hv l:=by
 obtain ⟨es,h1,h2,h3,h4,h5⟩:=hF
 exact ⟨es,hk.blk hg h1,h2,h3,h4,fun j e x hj he hx=>eV.keep (fun k c t f hh hc=>hk k c t f hh.2 hc) (h5 j e x hj he hx)⟩
theorem FBx.ptr (hF:FBx t S w gb h i hv l) (h1:hv.cells=#[hv]):w.cell? ⟨gb,0+i*1,none⟩=some hv:=by
 obtain ⟨es,hb,h2,h3,h4,h5⟩:=hF
 have:=D1 es i 0 hv h3 h4 (by decide)
 rw [hb.cell,List.getElem?_toArray,show 0+i*1=i*1+0 by omega,this,h1];rfl
theorem FBx.done {r:List QV} (hF:FBx t S w gb h i hv l) (hr:eV.R (fun k=>S k∧k≠gb) w hv r):FB eV t S w gb (l.set i r):=by
 obtain ⟨es,h1,h2,h3,h4,h5⟩:=hF
 refine ⟨es,h1,by simp [h2],fun j e x he hx=>?_⟩
 by_cases hj:j=i
 ·subst hj
  rw [h4] at he;cases he
  rw [List.getElem?_set_self (by rw [←h2];exact (List.getElem?_eq_some_iff.1 h4).1)] at hx
  cases hx;exact hr
 ·rw [List.getElem?_set_ne (fun e=>hj e.symm)] at hx
  exact eV.mono (fun k _ hk=>hk.1) (h5 j e x hj he hx)
/-- the store of the new row's slice -/
theorem FBx.start {P:Program} {σ:Env} {ty:TypeId} {pos:String} {af:Array Edge} {dd:Option Tmp} {gd:Option (Nat×Bool)} {tt:TypeId} {x y:Operand} {w1:World} {tq:TypeId} {cs:Array Value} {n c:Nat} (ht:tyOf P tt=some (false,1)) (hF:FB eV t S w gb l) (hn:New w w1 h tq cs) (hi:i<l.length)
  (hx:ev σ x=some (.pointer (some ⟨gb,0+i*1,none⟩))) (hy:ev σ y=some (.slice (some ⟨h,0,none⟩) n c)) :
  Gv P ⟨dd,.store tt x y,ty,pos,af,gd⟩ σ w1 fun _ w'=>FBx t S w' gb h i (.slice (some ⟨h,0,none⟩) n c) l∧Upd w1 w' gb∧Blk w' h tq cs∧gb≠h:=by
 obtain ⟨e1,k1,hh,hs⟩:=hn
 have hlt:=hF.lt
 obtain ⟨es,hb,hels⟩:=hF
 have hesz:=hels.sz
 have hle:i*1+1≤(cellsOf es).toArray.size:=by
  rw [List.size_toArray,C2 es hesz,hels.1];show i*1+1≤l.length*1;omega
 refine (C3 (n:=1) ht (by rw [hx,Nat.zero_add]) hy (hb.ext e1) rfl hle (by simp [one1,Value.cells])).mono ?_
 rintro _ w2 ⟨hB',u⟩
 have hset:=AF4 (sz:=1) (by decide) es i (.slice (some ⟨h,0,none⟩) n c) hesz rfl (by rw [hels.1];exact hi)
 have hne:gb≠h:=by omega
 rw [hset] at hB'
 refine ⟨⟨es.set i (.slice (some ⟨h,0,none⟩) n c),hB',by simp [hels.1],fun e he=>?_,?_,fun j e x hj he hx'=>?_⟩,u,k1.upd u (fun e=>hne e.symm),hne⟩
 ·rcases List.mem_or_eq_of_mem_set he with h' | h'
  ·exact hesz e h'
  ·rw [h'];rfl
 ·rw [List.getElem?_set_self (by rw [hels.1];exact hi)]
 ·rw [List.getElem?_set_ne (fun e=>hj e.symm)] at he
  have h1:=ER.lt eV (hels.2 j e x he hx')
  have h2:=(ER.ext eV h1 e1).upd u (fun hh=>hh.1.2 rfl)
  exact eV.mono (fun k _ hk=>⟨hk.1,by have:=hk.2;omega⟩) h2
end
end Go.Kx

namespace Go.Kx
open Go Go.RowKit
/-- the reduced form of a matrix and its pivots -/
def redF (m:List (List QV)):RM:=(elim m.length (rm m) (colsOf m)).1
def redP (m:List (List QV)):List Nat:=(elim m.length (rm m) (colsOf m)).2
theorem Af7 (m:List (List QV)):Ech m.length (colsOf m) (redF m) (redP m):=R8 _ _ _
end Go.Kx
namespace Go.Proofs.YtfilidfomgfnhaaGreat
open Go Go.Kx Go.RowKit
theorem E_ign1:Ent Tryz.prog 211:=A0 Tryz.func211 (by kernel_rfl) rfl
theorem E_ign2:Ent Tryz.prog 212:=A0 Tryz.func212 (by kernel_rfl) rfl
theorem evs_ign {M:Nat} {S0:Nat→Prop}:Evs Tryz.prog 211 212 #[] #[] M S0 (fun _=>False) (fun _ _ _ _=>True) where
 entE:=E_ign1
 entS:=E_ign2
 mono:=fun _ _=>trivial
 chg:=fun _ _=>trivial
 exch:=fun {Z j d W} _ _=>by
  refine enterG Tryz.func211 rfl Tryz.ntmps211 rfl ?_
  exact .skip (.plain [] Tryz.results211 trivial ⟨Chg.refl _,trivial⟩)
 scal:=fun {Z j d W v q} _ _ _ _ _=>by
  refine enterG Tryz.func212 rfl Tryz.ntmps212 rfl ?_
  refine .region (.box rfl rfl fun w1 b1 n1=>.nil ?_)
  exact .plain [] Tryz.results212 trivial ⟨Chg.ext n1.1,trivial⟩
theorem ty_I:tyOf Tryz.prog 25=some (false,1):=by kernel_rfl
end Go.Proofs.YtfilidfomgfnhaaGreat

namespace Go.Kx
open Go Go.RowKit
end Go.Kx
namespace Go.Proofs.YtfilidfomgfnhaaGreat
open Go Go.Kx Go.RowKit
end Go.Proofs.YtfilidfomgfnhaaGreat

namespace Go.Kx
open Go Go.RowKit
theorem Ae3 (n c:Nat) (f:RM):colsOf (tabM n c f)=if n=0 then 0 else c:=by
 by_cases h0:n=0
 ·subst h0;rfl
 ·rw [if_neg h0]
  refine Nat.le_antisymm (BA1 fun r hr=>?_) ?_
  ·obtain ⟨i,_,rfl⟩:=List.mem_map.1 hr
   rw [A3];exact Nat.le_refl _
  ·have:=As6 (m:=tabM n c f) (r:=tab c (f 0)) (List.mem_map.2 ⟨0,List.mem_range.2 (by omega),rfl⟩)
   rwa [A3] at this
end Go.Kx
namespace Go.Proofs.YtfilidfomgfnhaaGreat
open Go Go.Kx Go.RowKit
theorem H2 {p:List Nat} {j:Nat} (h:j<p.length):p.getD j 0∈p:=List.mem_iff_getElem?.2 ⟨j,B4 h⟩
end Go.Proofs.YtfilidfomgfnhaaGreat

namespace Go.Kx
open Go Go.RowKit
def freeTo (p:List Nat) (i:Nat):List Nat:=(List.range i).filter fun k => !(decide (k∈p))
def freeC (m:List (List QV)):List Nat:=freeTo (redP m) (colsOf m)
/-- the basis of the null space -/
def nullM (m:List (List QV)):List (List QV):=(freeC m).map fun k=>tab (colsOf m) (nv (redF m) (redP m) k)
end Go.Kx
namespace Go.Proofs.YtfilidfomgfnhaaGreat
open Go Go.Kx Go.RowKit
end Go.Proofs.YtfilidfomgfnhaaGreat

namespace Go.Proofs.YtfilidfomgfnhaaGreat
open Go Go.Kx Go.RowKit
end Go.Proofs.YtfilidfomgfnhaaGreat

namespace Go.Kx
open Go Go.RowKit
/-- the matrix beside the unit matrix -/
def invF (m:List (List QV)):RM:=fun i k=>if k<m.length then rm m i k else idR i (k-m.length)
def invE (m:List (List QV)):RM×List Nat:=elim m.length (invF m) m.length
def invM (m:List (List QV)):List (List QV):=tabM m.length m.length fun i k=>(invE m).1 i (m.length+k)
abbrev invertible (m:List (List QV)):Prop:=¬ (invE m).2.length<m.length
theorem BC5 (n c:Nat) (f:Nat→Rat):(tab (n+c) f).drop n=tab c fun k=>f (n+k):=by
 apply List.ext_getElem?
 intro j
 rw [List.getElem?_drop]
 by_cases h:j<c
 ·rw [J5 (by omega),J5 h]
 ·rw [List.getElem?_eq_none (by rw [A3];omega),List.getElem?_eq_none (by rw [A3];omega)]
end Go.Kx
namespace Go.Proofs.YtfilidfomgfnhaaGreat
open Go Go.Kx Go.RowKit
theorem AU3:Ent Tryz.prog 84:=A0 Tryz.func84 (by kernel_rfl) rfl
theorem AT6 {S:Nat→Prop} {w:World} {vm:Value} {m:List (List QV)} {L n:Nat} (up:Up S w) (hm:eM.R S w vm m) (hkm:mk_ L m) (hL:1≤L) (hr:m.length≤n) (hc:colsOf m≤90) (hn:n≤100) (hbd:bd L n≤40000000) :
  CR Tryz.prog 84 #[vm] w (Two (eM.at S (if colsOf m=m.length∧invertible m then invM m else [])) (Is (.int .i64 (if colsOf m=m.length then (if invertible m then 0 else 8) else 13)))):=by
 have hL2:L≤40000000:=Nat.le_trans (AN4 L (Nat.zero_le n)) hbd
 have hm0:=ER.lt eM hm
 have hMW:∀ {W:World},Below w.heap.size w W→eM.R S W vm m:=fun hB=>eM.mono (fun k _ hk=>hk.1) (eM.keep (fun k c t f hk h=>(hB.block k hk.2).trans h) hm0)
 generalize hRp:Two (eM.at S (if colsOf m=m.length∧invertible m then invM m else [])) (Is (.int .i64 (if colsOf m=m.length then (if invertible m then 0 else 8) else 13)))=Rp
 obtain ⟨N,hN⟩:∃ N,m.length=N:=⟨_,rfl⟩
 rw [hN] at hr
 generalize hG:(fun i=>tab N (idR i))=G
 refine enter Tryz.func84 rfl Tryz.ntmps84 rfl ?_
 refine .seq (.region (.asg rfl rfl (.asg rfl rfl (.nil (.seq (.region (.mv rfl rfl (.lenR un_M rfl rfl hm ?_))))))))
 rw [hN]
 refine .asg rfl rfl (.nil (.seq (.seq (.region (.mv rfl rfl ?_)))))
 refine .call _ rfl AK6 rfl (AJ6 hm) fun v0 w0 e0 h0=>?_
 subst h0
 refine .mv rfl rfl ?_
 by_cases hsq:colsOf m=N
 rotate_left
 ·refine .neqT rfl rfl rfl (by intro e;exact hsq (by omega)) (.nil (.condT rfl (.seq (.region (.asg rfl rfl (.asg rfl rfl (.nil (.ret ?_))))))))
  refine .plain [_,_] Tryz.results84 ⟨rfl,rfl,trivial⟩ ⟨e0,?_⟩
  rw [←hRp]
  refine ⟨_,_,rfl,?_,?_⟩
  ·rw [if_neg (fun h=>hsq (h.1.trans hN))];exact RL.nil
  ·show _=_
   rw [if_neg (fun h=>hsq (h.trans hN))]
 have hsq':colsOf m=m.length:=hsq.trans hN.symm
 refine .neqF rfl rfl rfl (by rw [hsq]) (.nil (.condF rfl (.skip (.seq (.region (.mv rfl rfl ?_))))))
 refine .make_ _ _ un_M Ag6 rfl (by decide) rfl rfl rfl (Nat.le_refl _) (by omega) (by omega) fun w1 gu n1=>.asg rfl rfl (.nil ?_)
 have f1:FB eV 32 S w1 gu (List.replicate N []):=FB.made n1 RL.nil
 obtain ⟨e1,_,hgu,hs1⟩:=n1
 have x1:=e0.trans e1
 have hs0:=e0.size
 refine .mid (α:=Unit) (fun _=>[(0,vm),(4,.int .i64 (N:Nat)),(5,.slice (some ⟨gu,0,none⟩) N N)]) (fun _ W=>Below w.heap.size w W∧FB eV 32 S W gu ((List.range N).map G)) ?_ ?_
 ·refine .seq (.region (.mv rfl rfl (.len un_M rfl rfl (.mv rfl rfl (.nil ?_)))))
  refine .block (.loop (α:=Nat) (fun i=>[(0,vm),(4,.int .i64 (N:Nat)),(5,.slice (some ⟨gu,0,none⟩) N N),(19,.int .i64 (N:Nat)),(20,.int .i64 (i:Nat))])
   (fun i W=>Below w.heap.size w W∧i≤N∧FB eV 32 S W gu (fil N i G [])) (fun i=>N-i) 0 ?_ ?_ ?_)
  ·exact lkA rfl
  ·exact ⟨x1,Nat.zero_le _,by rw [O2];exact f1⟩
  ·rintro i W ⟨hB,hi,hF⟩
   have hsz:=hB.size
   have hgl:=hF.lt
   rcases Nat.lt_or_ge i N with hlt | hge
   rotate_left
   ·refine .seq (.region (.lssF rfl rfl rfl (by omega) (.nil (.seq (.condF rfl (.exit ?_))))))
    have:i=N:=by omega
    subst this
    rw [T4] at hF
    exact ⟨rfl,(),lkA rfl,hB,hF⟩
   refine .seq (.region (.lssT rfl rfl rfl (by omega) (.nil (.seq (.condT rfl (.skip (.seq (.block (.seq (.region (.mv rfl rfl (.asg rfl rfl (.nil (.seq (.region (.mv rfl rfl (.mv rfl rfl (.mv rfl rfl ?_))))))))))))))))))
   refine .make_ _ _ un_V S5 rfl (by decide) rfl rfl rfl (Nat.le_refl _) (by omega) (by omega) fun W1 h n2=>?_
   have hn2:=n2
   have fh:FB eQ 55 (fun k=>S k∧k≠gu) W1 h (List.replicate N q0):=FB.made n2 zq_R
   obtain ⟨e2,k2,hh,hs2⟩:=n2
   refine .ixB (i:=i) un_M ty_V rfl rfl rfl hlt ?_
   refine .gv rfl rfl (FBx.start (i:=i) ty_V hF hn2 (by rw [I5];exact hlt) rfl rfl) ?_
   rintro _ W2 ⟨hx2,u2,kh2,hne⟩
   refine .nil ?_
   have hB2:Below w.heap.size w W2:=u2.below (hB.trans (e2.mono hsz)) (by omega)
   have hs2':=u2.size
   have fh2:=fh.upd u2 (fun e=>hne e.symm) (fun hh'=>hh'.2 rfl)
   refine .par follows 6 [.inl _,.inl (.int .i64 (i:Nat)),.inl _,.inl (.slice (some ⟨h,0,none⟩) N N),.inl (.int .i64 (i:Nat)),.inr (eQ.at (fun k=>(S k∧k≠gu)∧k≠h) (qc ((1:Int):Rat)))]
    [[],[],[(28,0),(29,1)],[(30,2)],[],[]] (by kernel_rfl) ⟨
    fun w e=>(v_mv rfl).ob,fun w e=>(v_mv rfl).ob,fun w e=>(H9 (i:=i) un_M ty_V rfl rfl hlt).ob,
    fun w e=>(Au4 ty_V rfl ((hx2.keep (Kp.ext e) hne).ptr rfl)).ob,
    fun w e=>(v_mv rfl).ob,
    fun w e=>(A1 _ D5 rfl (D3 (fun k hk=>⟨⟨up k (by have:=e.size;omega),by have:=e.size;omega⟩,by have:=e.size;omega⟩) (by decide) (by decide))).ob (A6 _ _ _),trivial⟩ ?_
   intro W3 e3 x5 h5
   refine .ixB (i:=i) un_V ty_Q rfl rfl rfl hlt ?_
   refine .storeF (E:=eQ) (i:=i) (by decide) ty_Q rfl rfl (fh2.ext e3) rfl (by simp;exact hlt) (Nat.zero_add _) h5 fun W4 f4 u4=>.nil ?_
   have hunit:(List.replicate N q0).set i (qc ((1:Int):Rat))=G i:=by
    have h0:List.replicate N q0=tab N fun _=>0:=by
     unfold tab;simp only [AG4];rw [List.map_const',List.length_range]
    rw [h0,AU8,←hG]
    refine G9 fun k _=>?_
    unfold idR
    by_cases e:k=i
    ·rw [if_pos e,if_pos e.symm];simp
    ·rw [if_neg e,if_neg (fun e2=>e e2.symm)]
   rw [hunit] at f4
   refine .region (.add rfl rfl rfl (.mv rfl rfl (.nil ?_)))
   rw [wI (by omega)]
   have hx4:=(hx2.keep (Kp.ext e3) hne).keep (Kp.upd u4 (fun hc=>hc rfl)) hne
   have hrow:eV.R (fun k=>S k∧k≠gu) W4 (.slice (some ⟨h,0,none⟩) N N) (G i):=by
    have hGl:(G i).length=N:=by rw [←hG];exact A3 ..
    have:=f4.toR (c:=N) (hsz:=by decide) ⟨up h (by omega),by omega⟩ (by rw [hGl];exact Nat.le_refl _) (by rw [hGl];omega)
    rwa [hGl] at this
   have hF4:=hx4.done hrow
   rw [Q8] at hF4
   exact ⟨rfl,i+1,lkA rfl,⟨u4.below (hB2.trans (e3.mono hB2.size)) (by omega),hlt,hF4⟩,by show N-(i+1)<N-i;omega⟩
 rintro _ W ⟨hB,hF⟩
 have hsz:=hB.size
 have hU:(List.range N).map G=tabM N N idR:=by rw [←hG];rfl
 rw [hU] at hF
 have hR:=hF.toR (c:=N) (hsz:=by decide) (up gu (by omega)) (by rw [A7];exact Nat.le_refl _) (by rw [A7];omega)
 rw [A7] at hR
 have hcU:colsOf (tabM N N idR)=N:=by rw [Ae3];split<;>omega
 have hkU:mk_ L (tabM N N idR):=AV1 fun i k _ _=>by
  unfold idR
  split
  ·have:=Rsz.int 1 (L:=L) (Nat.lt_of_lt_of_le (by decide) (Nat.pow_le_pow_right (by decide) hL)) hL
   simpa using this
  ·exact Rsz.zero hL
 have upW:=up.ext hsz
 refine .seq (.region (.mv rfl rfl (.mv rfl rfl ?_)))
 refine .call _ rfl Ai6 rfl (Ab4 (L:=L) upW (hMW hB) hR hkm hkU hL (by omega) (by omega) (by rw [A7];omega) (by omega) (by rw [hcU];omega)) fun v2 w2 e2 h2=>.asg rfl rfl (.nil ?_)
 rw [hN,A7,Nat.max_self,hsq,hcU] at h2
 obtain ⟨gb,rfl,hgb,hF2⟩:=h2
 have hcat:tabM N (N+N) (catM m (tabM N N idR))=tabM N (N+N) (invF m):=F8 fun i k hi hk=>by
  unfold catM invF
  rw [hsq,hN]
  by_cases h:k<N
  ·rw [if_pos h,if_pos h]
  ·rw [if_neg h,if_neg h,AU9,if_pos ⟨hi,by omega⟩]
 rw [hcat] at hF2
 have x2:=hB.trans (e2.mono hsz)
 have hgl2:=hF2.lt
 have hs2:=e2.size
 refine .seq (.seq (.region (.mv rfl rfl (.mv rfl rfl ?_))))
 refine .call _ rfl AU2 rfl AT5 fun v3 w3 e3 h3=>?_
 subst h3
 have hs3:=e3.size
 have hszF:∀ i k,i<N→k<N+N→Rsz (invF m i k) L:=fun i k _ _=>by
  unfold invF
  split
  ·exact hkm.rsz hL i k
  ·unfold idR
   split
   ·have:=Rsz.int 1 (L:=L) (Nat.lt_of_lt_of_le (by decide) (Nat.pow_le_pow_right (by decide) hL)) hL
    simpa using this
   ·exact Rsz.zero hL
 have hcall:=AL8 (X:=fun _=>False) (cols:=N) (cap:=N) (L:=L) (M:=40000000) (upW.ext (by omega)) (hF2.ext e3) (Nat.le_refl _) (by omega) (by omega) (by omega) hL hszF (Nat.le_trans (AN4 L (by omega)) hbd) (Nat.le_refl _) (up gb (by omega)) (fun _ h=>h.elim) evs_ign trivial
 refine .callG _ rfl AN5 rfl hcall ?_
 rintro v4 w4 ⟨c4,h4,f4,-⟩
 have x3:=x2.trans (e3.mono (by omega))
 have x4:Ext w w4:=c4.below x3 (by omega) (fun k hk=>by rcases hk with rfl | hk;omega;exact hk.elim)
 have hs4:=c4.size
 refine .lenR un_I rfl rfl h4 (.mv rfl rfl ?_)
 have hE:elim N (invF m) N=invE m:=by unfold invE;rw [hN]
 rw [hE] at f4
 rw [show (pInts (elim N (invF m) N).2).length=(invE m).2.length by rw [hE];simp]
 by_cases hinv:(invE m).2.length<N
 ·refine .lssT rfl rfl rfl (by omega) (.nil (.condT rfl (.seq (.region (.asg rfl rfl (.asg rfl rfl (.nil (.ret ?_))))))))
  refine .plain [_,_] Tryz.results84 ⟨rfl,rfl,trivial⟩ ⟨x4,?_⟩
  rw [←hRp]
  refine ⟨_,_,rfl,?_,?_⟩
  ·rw [if_neg (fun h=>h.2 (hN.symm▸hinv))];exact RL.nil
  ·show _=_
   rw [if_pos hsq',if_neg (fun h=>h (hN.symm▸hinv))]
 refine .lssF rfl rfl rfl (by omega) (.nil (.condF rfl (.skip ?_)))
 generalize hR2:(fun i=>tab N fun k=>(invE m).1 i (N+k))=R2
 refine .mid (α:=Unit) (fun _=>[(7,.slice (some ⟨gb,0,none⟩) N N)]) (fun _ W=>Below w.heap.size w W∧FB eV 32 S W gb ((List.range N).map R2)) ?_ ?_
 ·refine .seq (.region (.mv rfl rfl (.len un_M rfl rfl (.mv rfl rfl (.nil ?_)))))
  refine .block (.loop (α:=Nat) (fun i=>[(4,.int .i64 (N:Nat)),(7,.slice (some ⟨gb,0,none⟩) N N),(46,.slice (some ⟨gb,0,none⟩) N N),(47,.int .i64 (N:Nat)),(48,.int .i64 (i:Nat))])
   (fun i W=>Below w.heap.size w W∧i≤N∧FB eV 32 S W gb ((List.range N).map fun j=>if j<i then R2 j else tab (N+N) ((invE m).1 j))) (fun i=>N-i) 0 ?_ ?_ ?_)
  ·exact lkA rfl
  ·exact ⟨x4,Nat.zero_le _,by simpa [tabM] using f4⟩
  ·rintro i W ⟨hB,hi,hF⟩
   have hsz:=hB.size
   rcases Nat.lt_or_ge i N with hlt | hge
   rotate_left
   ·refine .seq (.region (.lssF rfl rfl rfl (by omega) (.nil (.seq (.condF rfl (.exit ?_))))))
    have:i=N:=by omega
    subst this
    have he:(List.range i).map (fun j=>if j<i then R2 j else tab (i+i) ((invE m).1 j))=(List.range i).map R2:=List.map_congr_left fun j hj=>by rw [if_pos (List.mem_range.1 hj)]
    rw [he] at hF
    exact ⟨rfl,(),lkA rfl,hB,hF⟩
   refine .seq (.region (.lssT rfl rfl rfl (by omega) (.nil (.seq (.condT rfl (.skip (.seq (.block (.seq (.region (.mv rfl rfl (.ixB (i:=i) un_M ty_V rfl rfl rfl hlt ?_))))))))))))
   have hrow:((List.range N).map fun j=>if j<i then R2 j else tab (N+N) ((invE m).1 j))[i]?=some (tab (N+N) ((invE m).1 i)):=by
    rw [List.getElem?_map,List.getElem?_range hlt];simp
   refine .ldF (E:=eV) (i:=i) (by decide) ty_V rfl rfl (Nat.zero_add _) hF hrow fun er her=>.asg rfl rfl (.asg rfl rfl (.nil (.region (.mv rfl rfl (.mv rfl rfl (.mv rfl rfl (.mv rfl rfl ?_)))))))
   refine .gv rfl rfl (BG2 (E:=eQ) (hsz:=by decide) (some _) none N (N+N) un_V ty_Q rfl her ⟨.i64,rfl⟩ (A3 _ _).symm (by omega) (by rw [A3];exact Nat.le_refl _)) ?_
   rintro v5 _ ⟨rfl,h5⟩
   rw [List.take_of_length_le (by rw [A3];exact Nat.le_refl _),BC5] at h5
   refine .ixB (i:=i) un_M ty_V rfl rfl rfl hlt ?_
   refine .storeF (E:=eV) (i:=i) (by decide) ty_V rfl rfl hF rfl (by simp;exact hlt) (Nat.zero_add _) h5 fun W3 f3 u3=>.nil ?_
   refine .region (.add rfl rfl rfl (.mv rfl rfl (.nil ?_)))
   rw [wI (by omega)]
   refine ⟨rfl,i+1,lkA rfl,⟨u3.below hB (by omega),hlt,?_⟩,by show N-(i+1)<N-i;omega⟩
   have he:((List.range N).map fun j=>if j<i then R2 j else tab (N+N) ((invE m).1 j)).set i (tab N fun k=>(invE m).1 i (N+k))=(List.range N).map fun j=>if j<i+1 then R2 j else tab (N+N) ((invE m).1 j):=by
    apply List.ext_getElem?
    intro j
    rw [List.getElem?_set]
    by_cases e:i=j
    ·subst e
     simp [hlt,←hR2]
    ·rw [if_neg e,List.getElem?_map,List.getElem?_map]
     by_cases hj:j<N
     ·simp only [List.getElem?_range hj,Option.map_some]
      by_cases h1:j<i
      ·rw [if_pos h1,if_pos (by omega)]
      ·rw [if_neg h1,if_neg (by omega)]
     ·rw [List.getElem?_eq_none (by simpa using hj)];rfl
   rw [he] at f3
   exact f3
 ·rintro _ W ⟨hB,hF⟩
  have hsz:=hB.size
  refine .seq (.region (.mv rfl rfl (.asg rfl rfl (.asg rfl rfl (.nil (.ret ?_))))))
  have hI:(List.range N).map R2=invM m:=by unfold invM;rw [hN,←hR2];rfl
  rw [hI] at hF
  have hl:(invM m).length=N:=by unfold invM;rw [A7,hN]
  have:=hF.toR (c:=N) (hsz:=by decide) (up gb (by omega)) (by rw [hl];exact Nat.le_refl _) (by rw [hl];omega)
  rw [hl] at this
  refine .plain [_,_] Tryz.results84 ⟨rfl,rfl,trivial⟩ ⟨hB,?_⟩
  rw [←hRp]
  refine ⟨_,_,rfl,?_,?_⟩
  ·rw [if_pos ⟨hsq',fun h=>hinv (hN▸h)⟩];exact this
  ·show _=_
   rw [if_pos hsq',if_pos (fun h=>hinv (hN▸h))]
end Go.Proofs.YtfilidfomgfnhaaGreat

namespace Go.Proofs.YtfilidfomgfnhaaGreat
open Go Go.Kx Go.RowKit
end Go.Proofs.YtfilidfomgfnhaaGreat

namespace Go.Kx
section
variable {n N C CA:Nat} {g A:RM} {p:List Nat}
end
theorem BH0 {n:Nat} {f:RM}:∀ c,elimD n f c≠0
 | 0=>by show (1:Rat)≠0;decide
 | c+1=>by
  have ih:=BH0 (n:=n) (f:=f) c
  have e2:elimD n f (c+1)=estepD n c (elim n f c) (elimD n f c):=rfl
  rw [e2]
  unfold estepD
  split
  ·exact ih
  ·rename_i r hr
   obtain ⟨_,_,h3,_⟩:=L0 hr
   refine fun h=>?_
   rcases Rat.mul_eq_zero.1 h with h | h
   ·split at h
    ·exact ih h
    ·exact ih (by grind)
   ·exact h3 h
theorem Ech.nodup {n c:Nat} {g:RM} {p:List Nat} (h:Ech n c g p):p.Nodup:=by
 rw [List.nodup_iff_pairwise_ne,List.pairwise_iff_getElem]
 intro i j hi hj hij
 have:=h.mono hij hj
 rw [List.getD_eq_getElem?_getD,List.getD_eq_getElem?_getD,List.getElem?_eq_getElem hi,List.getElem?_eq_getElem hj] at this
 simp at this
 omega
/-- free columns and pivots are all the columns -/
theorem AY2 {p:List Nat} (hn:p.Nodup):∀ i,(freeTo p i).length+p.countP (fun k=>decide (k<i))=i
 | 0=>by unfold freeTo;simp
 | i+1=>by
  have ih:=AY2 hn i
  have h1:(freeTo p (i+1)).length=(freeTo p i).length+if i∈p then 0 else 1:=by
   unfold freeTo
   rw [List.range_succ,List.filter_append,List.length_append]
   by_cases h:i∈p<;>simp [h]
  have h2:p.countP (fun k=>decide (k<i+1))=p.countP (fun k=>decide (k<i))+if i∈p then 1 else 0:=by
   clear ih h1
   induction p with
   | nil=>simp
   | cons x p ihp =>
    have hx:=List.nodup_cons.1 hn
    rw [List.countP_cons,List.countP_cons,ihp hx.2]
    by_cases e:x=i
    ·subst e
     simp [hx.1]
    ·have h3:(i∈x::p)↔i∈p:=by simp [show ¬ i=x from fun h=>e h.symm]
     simp only [h3]
     by_cases h4:x<i
     ·simp [h4,show x<i+1 by omega];omega
     ·simp [h4,show ¬ x<i+1 by omega]
  rw [h1,h2]
  by_cases h:i∈p
  ·simp only [h,if_true];omega
  ·simp only [h,if_false];omega
theorem Ech.free_len {n C:Nat} {g:RM} {p:List Nat} (h:Ech n C g p):(freeTo p C).length+p.length=C:=by
 have:=AY2 h.nodup C
 have h1:p.countP (fun k=>decide (k<C))=p.length:=by
  rw [List.countP_eq_length]
  intro k hk
  obtain ⟨j,hj⟩:=List.mem_iff_getElem?.1 hk
  have hl:j<p.length:=(List.getElem?_eq_some_iff.1 hj).1
  have:=h.lt j hl
  rw [List.getD_eq_getElem?_getD,hj] at this
  simpa using this
 omega
end Go.Kx

namespace Go.Kx
open Go Go.RowKit
theorem Aj9 {l:List Int} (h:∀ n∈l,-9223372036854775808≤n∧n≤9223372036854775807):vk 2 (intsV l) :=
 AD4 fun k _=>Rsz.int _ (by
  have:=N6 (P:=fun n:Int => -9223372036854775808≤n∧n≤9223372036854775807) (z:=0) h (by omega) k
  show (l.getD k 0).natAbs<18446744073709551616
  omega) (by omega)
abbrev iv (n:Int):Value:=.int .i64 n
end Go.Kx
namespace Go.Proofs.YtfilidfomgfnhaaGreat
open Go Go.Kx Go.RowKit
theorem BI3 {x:Int}:bslOf Tryz.prog 106 1 [(0,.int .i64 x)]=some (2,#[.int .i64 x]):=by kernel_rfl
theorem Ah6 {x y z:Int}:bslOf Tryz.prog 106 3 [(0,.int .i64 x),(1,.int .i64 y),(2,.int .i64 z)]=some (2,#[.int .i64 x,.int .i64 y,.int .i64 z]):=by kernel_rfl
theorem AF2 {S:Nat→Prop} {w w':World} {b:Nat} {t:TypeId} {cs:Array Value} (l:List Int) (n:Nat) (hn:New w w' b t cs) (up:Up S w) (hcs:cs=(l.map iv).toArray) (hl:l.length=n) (hd:∀ x∈l,-9223372036854775808≤x∧x≤9223372036854775807) (hm:n≤1000) :
  eI.R S w' (.slice (some ⟨b,0,none⟩) n n) l:=by
 subst hl
 refine RL.ofBlk (es:=l.map iv) hn.2.1 (up b (by have:=hn.2.2.1;omega)) ⟨by simp,fun i e x he hx=>?_⟩ (fun j u hu=>?_) (Nat.le_refl _) (by omega)
 ·rw [List.getElem?_map,hx] at he
  simp at he
  have:=hd x (List.mem_iff_getElem?.2 ⟨i,hx⟩)
  exact ⟨he.symm,this.1,this.2⟩
 ·rw [F4 iv (fun _=>rfl)] at hu
  rw [hcs];simpa using hu
end Go.Proofs.YtfilidfomgfnhaaGreat

namespace Go.Proofs.YtfilidfomgfnhaaGreat
open Go Go.Kx Go.RowKit
end Go.Proofs.YtfilidfomgfnhaaGreat

namespace Go.Kx
open Go Go.RowKit
section
variable {P:Program} {σ:Env} {w:World} {d:Option Tmp} {ty:TypeId} {pos:String} {af:Array Edge} {g:Option (Nat×Bool)}
theorem Au7 {s:TypeId} {x:Operand} {i off:Nat} {p:Addr} (hf:fldOf P s i=some off) (hx:ev σ x=some (.pointer (some p))):Vl P ⟨d,.fieldAddr s x i,ty,pos,af,g⟩ σ w (.pointer (some (p.add off))):=by
 refine ⟨(by intro _ h;cases h),fun ρ hρ=>?_⟩
 have h1:=hρ x _ (by simp [Op.operands]) hx
 unfold fldOf at hf
 split at hf
 ·rename_i fs hfs
  split at hf
  ·rename_i f hff
   split at hf
   ·rename_i j hj
    cases hz:Nat.beq j.size 0 with
    | true=>rw [hz] at hf;cases hf
    | false =>
     rw [hz] at hf
     simp only [cond_false,Option.some.injEq] at hf
     have hz':j.size≠0:=fun e=>by rw [e] at hz;cases hz
     simp [execOp,h1,Instr.fieldAt,run_underlying hfs,hff,Instr.sureAddr,fieldPlace,sizeOf,typeInfo,hj,hz',hf]
   ·cases hf
  ·cases hf
 ·cases hf
end
theorem PtrTo.zw {S:Nat→Prop} {w:World} {p:Addr} {z:ZV} (h:PtrTo eZ S w p z):PtrTo eW S w (p.add 1) z.w:=by
 obtain ⟨e,⟨s,rfl,hs⟩,h2,h3⟩:=h
 obtain ⟨a,c,hv,_⟩:=RL.len hs
 refine ⟨s,hs,by rw [G2];exact h2,fun j u hu=>?_⟩
 rw [hv] at hu
 have hj:j=0:=by
  cases j with
  | zero=>rfl
  | succ j=>simp [Value.cells] at hu
 subst hj
 rw [X8]
 refine h3 1 u ?_
 rw [hv];simpa [Value.cells] using hu
theorem PtrTo.qn {S:Nat→Prop} {w:World} {p:Addr} {q:QV} (h:PtrTo eQ S w p q):PtrTo eZ S w (p.add 0) q.num:=by
 obtain ⟨e,⟨s,t,rfl,hs,ht⟩,h2,h3⟩:=h
 refine ⟨.agg #[.bool q.num.neg,s],⟨s,rfl,hs⟩,by rw [G2];exact h2,fun j u hu=>?_⟩
 rw [X8]
 refine h3 _ u ?_
 match j with
 | 0=>simpa [Value.cells] using hu
 | 1=>simpa [Value.cells] using hu
 | j+2=>simp [Value.cells] at hu
theorem PtrTo.qd {S:Nat→Prop} {w:World} {p:Addr} {q:QV} (h:PtrTo eQ S w p q):PtrTo eZ S w (p.add 2) q.den:=by
 obtain ⟨e,⟨s,t,rfl,hs,ht⟩,h2,h3⟩:=h
 refine ⟨.agg #[.bool q.den.neg,t],⟨t,rfl,ht⟩,by rw [G2];exact h2,fun j u hu=>?_⟩
 rw [X8]
 refine h3 _ u ?_
 match j with
 | 0=>simpa [Value.cells] using hu
 | 1=>simpa [Value.cells] using hu
 | j+2=>simp [Value.cells] at hu
section
variable {P:Program} {ro:Option Nat} {N:Nat} {ds:List Deferred} {ops:Array Oper} {K:Env→World→Prop} {rest:List Oper} {σ:Env} {w:World} {d:Tmp} {ty:TypeId} {pos:String} {af:Array Edge}
end
section
variable {P:Program} {σ:Env} {w:World} {d:Option Tmp} {ty:TypeId} {pos:String} {af:Array Edge} {g:Option (Nat×Bool)} {S:Nat→Prop}
end
/-- a bool that tells, if false, that Q holds -/
@[reducible] def Lng (Q:Prop):Value→World→Prop:=fun v _=>∃ b,v=.bool b∧(b=false→Q)
end Go.Kx
namespace Go.Proofs.YtfilidfomgfnhaaGreat
open Go Go.Kx Go.RowKit
end Go.Proofs.YtfilidfomgfnhaaGreat

namespace Go.Proofs.YtfilidfomgfnhaaGreat
open Go Go.Kx Go.RowKit
theorem Ar6 {α:Type} {l:List α} {j:Nat} {x:α} (h:l[j]?=some x):j<l.length:=by
 rcases Nat.lt_or_ge j l.length with h' | h'
 ·exact h'
 ·rw [List.getElem?_eq_none h'] at h;cases h
theorem eV_vk {S:Nat→Prop} {w:World} {v:Value} {a:List QV} {L:Nat} (h:eV.R S w v a) (hk:∀ q∈a,qok L q) (hL:1≤L):vk L a:=by
 intro q hq
 obtain ⟨i,hi⟩:=List.mem_iff_getElem?.1 hq
 obtain ⟨es,he,_⟩:=h
 have hlt:=Ar6 hi
 obtain ⟨s,t,_,hn,hd⟩:=he.2 i _ q (List.getElem?_eq_getElem (by rw [he.1];exact hlt)) hi
 exact ⟨hk q hq,BD6 (E1 hn) (E1 hd) (hk q hq) hL⟩
end Go.Proofs.YtfilidfomgfnhaaGreat

namespace Go.Kx
def hds (n:Nat):List Nat:=if h:n=0 then [] else n % 65536::hds (n / 65536)
 decreasing_by omega
theorem L2:hds 0=[]:=by unfold hds;simp
theorem AG9 {n:Nat} (h:n≠0):hds n=n % 65536::hds (n / 65536):=by rw [hds];simp [h]
theorem D6 (n:Nat):valH (hds n)=n:=by
 induction n using Nat.strongRecOn with
 | ind n ih =>
  by_cases h:n=0
  ·subst h;rw [L2];rfl
  ·rw [AG9 h,valH,ih _ (by omega)];omega
theorem AZ4 (n:Nat):digH (hds n):=by
 induction n using Nat.strongRecOn with
 | ind n ih =>
  by_cases h:n=0
  ·subst h;rw [L2];intro x hx;cases hx
  ·rw [AG9 h]
   intro x hx
   rcases List.mem_cons.1 hx with rfl | hx
   ·omega
   ·exact ih _ (by omega) x hx
theorem AC8:∀ {l:List Nat},can l→l≠[]→valH l≠0
 | [],_,h=>absurd rfl h
 | [x],hc,_=>by
  have:=hc x (by simp)
  simp only [valH];omega
 | x::y::r,hc,_=>by
  have ih:=AC8 (l:=y::r) (fun u hu=>hc u (by simpa [List.getLast?_cons_cons] using hu)) (by simp)
  rw [valH];omega
theorem AX7:∀ {l:List Nat},digH l→can l→hds (valH l)=l
 | [],_,_=>L2
 | x::r,hd,hc=>by
  have hx:=hd x (by simp)
  have hr:can r:=by
   intro u hu
   apply hc u
   cases r with
   | nil=>simp at hu
   | cons y r=>simpa [List.getLast?_cons_cons] using hu
  have ih:=AX7 (l:=r) (fun z hz=>hd z (by simp [hz])) hr
  have h0:valH (x::r)≠0:=AC8 hc (by simp)
  rw [AG9 h0,valH]
  rw [show (x+65536*valH r) % 65536=x by omega,show (x+65536*valH r) / 65536=valH r by omega,ih]
theorem trimH {l:List Nat} (h:digH l):trimL l=hds (valH l):=by
 rw [←AJ1,AX7 (AK2 h) (AH4 l)]
theorem AB6 {l:List Nat} (h:digH l):valH l<65536 ^ l.length:=by
 induction l with
 | nil=>simp [valH]
 | cons x l ih =>
  have hx:=h x (by simp)
  have:=ih fun z hz=>h z (by simp [hz])
  rw [valH,List.length_cons,Nat.pow_succ];omega
theorem M2 {n L:Nat} (h:n<65536 ^ L):(hds n).length≤L:=by
 induction L generalizing n with
 | zero=>rw [show n=0 by simpa using h,L2];simp
 | succ L ih =>
  by_cases h0:n=0
  ·rw [h0,L2];simp
  ·rw [AG9 h0,List.length_cons]
   have:=ih (n:=n / 65536) (by rw [Nat.pow_succ] at h;exact (Nat.div_lt_iff_lt_mul (by omega)).2 h)
   omega
theorem AX8 (n:Nat):n<65536 ^ (hds n).length:=by
 have:=AB6 (AZ4 n)
 rwa [D6] at this
theorem P2 {n:Nat}:hds n=[]↔n=0:=by
 constructor
 ·intro h
  by_cases h0:n=0
  ·exact h0
  ·rw [AG9 h0] at h;cases h
 ·rintro rfl;exact L2
theorem AG0 (l:List Nat) (x:Nat):valH (l++[x])=valH l+65536 ^ l.length*x:=by rw [AD7];simp [valH]
theorem K8 (l:List Nat) (k:Nat):valH (l.take (k+1))=valH (l.take k)+65536 ^ k*l.getD k 0:=by
 rcases Nat.lt_or_ge k l.length with h | h
 ·rw [List.take_succ_eq_append_getElem h,AG0,List.length_take,Nat.min_eq_left (by omega)]
  simp [List.getD_eq_getElem?_getD,List.getElem?_eq_getElem h]
 ·rw [List.take_of_length_le (by omega),List.take_of_length_le h]
  simp [List.getD_eq_getElem?_getD,List.getElem?_eq_none h]
theorem AA0 {l:List Nat} {k:Nat} (h:k<l.length):valH (l.drop k)=l.getD k 0+65536*valH (l.drop (k+1)):=by
 rw [List.drop_eq_getElem_cons h,valH]
 simp [List.getD_eq_getElem?_getD,List.getElem?_eq_getElem h]
theorem M6 {l:List Nat} (h:digH l) (k:Nat):l.getD k 0<65536:=by
 rw [List.getD_eq_getElem?_getD]
 cases hk:l[k]? with
 | none=>simp
 | some x=>exact h x (List.mem_iff_getElem?.2 ⟨k,hk⟩)
theorem BA0 {l:List Nat} {x:Nat} (h:digH l) (hx:x<65536):digH (l++[x]):=by
 intro y hy
 rcases List.mem_append.1 hy with h' | h'
 ·exact h y h'
 ·simp at h';omega
theorem An4 {l r:List Nat} (h:digH l) (h':digH r):digH (l++r):=by
 intro y hy
 rcases List.mem_append.1 hy with h1 | h1
 ·exact h y h1
 ·exact h' y h1
/-- beyond the end nothing is left -/
theorem Q6 {l:List Nat} {k:Nat} (h:l.length≤k):valH (l.take k)=valH l:=by rw [List.take_of_length_le h]
theorem N9 {m n:Nat} (h:m≤n):(hds m).length≤(hds n).length:=M2 (Nat.lt_of_le_of_lt h (AX8 n))
end Go.Kx

namespace Go.Kx
open Go Go.RowKit
theorem tmod16 (m:Nat):((m:Int).tmod 65536)=((m % 65536:Nat):Int):=N0 m 65536
theorem tdiv16 (m:Nat):((m:Int).tdiv 65536)=((m / 65536:Nat):Int):=N1 m 65536
/-- digits of the call's own -/
def OwnH (t:TypeId) (base:Nat) (w:World) (v:Value) (r:List Nat):Prop:=w.ownsRow base t 1 v r.length (r.map hvv)∧digH r
section
variable {t:TypeId} {base:Nat} {w w':World} {v:Value} {r:List Nat}
theorem OwnH.ext (h:OwnH t base w v r) (e:Ext w w'):OwnH t base w' v r:=⟨AE3 h.1 fun k cs _ hb=>hb.ext e,h.2⟩
theorem OwnH.below {w0:World} (h:OwnH t base w v r) (hg:w.grownBy w' v.ownBlock) (hb:Below base w0 w) (hB:base≤w.heap.size):Below base w0 w':=hb.grown hg hB fun k hk=>(h.1.lt k hk).1
theorem OwnH.nil:OwnH t base w (.slice none 0 0) []:=⟨⟨rfl,.inl ⟨rfl,rfl⟩⟩,fun x hx=>by cases hx⟩
theorem OwnH.toR {S:Nat→Prop} (h:OwnH t base w v r) (hS:∀ k,base≤k→S k):eHs.R S w v r:=by
 refine RL.ofOwn (E:=eH) (es:=r.map hvv) (base:=base) (t:=t) (n:=r.length) ?_ rfl ⟨by simp,fun i e x he hx=>?_⟩ hS
 ·rw [F4 hvv (fun _=>rfl)];exact h.1
 ·rw [List.getElem?_map,hx] at he
  simp at he
  exact ⟨he.symm,h.2 x (List.mem_iff_getElem?.2 ⟨i,hx⟩)⟩
theorem OwnH.lit {b:Nat} {l:List Nat} (hn:New w w' b t (l.map hvv).toArray) (hB:base≤w.heap.size) (hd:digH l) (hl:l.length≤1000):OwnH t base w' (.slice (some ⟨b,0,none⟩) l.length l.length) l:=by
 obtain ⟨_,hk,hb,_⟩:=hn
 exact ⟨⟨by simp,.inr ⟨b,l.length,_,rfl,by omega,hk,Nat.le_refl _,by simp [maxLen];omega,by simp,by simp [List.take_of_length_le]⟩⟩,hd⟩
end
section
variable {P:Program} {σ:Env} {w:World} {d:Option Tmp} {ty:TypeId} {pos:String} {af:Array Edge} {g:Option (Nat×Bool)}
theorem Ar9 {t e:TypeId} {x y:Operand} {base b:Nat} {v:Value} {r:List Nat} {n:Nat} (ht:P.underlying t=some (.slice e)) (hi:infoOf P e=some (.int .i64 0,1,8)) (hx:ev σ x=some v) (hy:ev σ y=some (.slice (some ⟨b,0,none⟩) 1 1))
  (hown:OwnH e base w v r) (hb:Blk w b e #[hvv n]) (hn:n<65536) (hl:r.length≤1099511627776) (hbase:base≤w.heap.size) :
  Gv P ⟨d,.call { callee:=.builtin .append,args:=#[x,y],argTypes:=#[t,t] },ty,pos,af,g⟩ σ w fun v' w'=>OwnH e base w' v' (r++[n])∧w.grownBy w' v.ownBlock:=by
 refine (AY1 [hvv n] ht hi rfl (by decide) hx hy hown.1 rfl (fun j u hu=>?_) (fun u hu=>?_) (by omega) (by omega) hbase).mono ?_
 ·cases j with
  | zero=>simp at hu;subst hu;rw [I7,hb.cell];rfl
  | succ j=>simp at hu
 ·simp at hu;subst hu;rfl
 ·rintro v' w' ⟨h1,h2⟩
  exact ⟨⟨by simpa using h1,BA0 hown.2 hn⟩,h2⟩
/-- append(r, s...) -/
theorem g_appHs {S:Nat→Prop} {t e:TypeId} {x y:Operand} {base:Nat} {v u:Value} {r s:List Nat} (ht:P.underlying t=some (.slice e)) (hi:infoOf P e=some (.int .i64 0,1,8)) (hx:ev σ x=some v) (hy:ev σ y=some u)
  (hown:OwnH e base w v r) (hs:eHs.R S w u s) (hl:r.length≤1000) (hl2:s.length≤1099511627776) (hbase:base≤w.heap.size) :
  Gv P ⟨d,.call { callee:=.builtin .append,args:=#[x,y],argTypes:=#[t,t] },ty,pos,af,g⟩ σ w fun v' w'=>OwnH e base w' v' (r++s)∧Below base w w':=by
 have hds:=U7 hs
 obtain ⟨es,he,a,c,rfl,hc,_,hcl,hcells⟩:=hs
 have hes:es=s.map hvv:=by
  apply List.ext_getElem?
  intro i
  rw [List.getElem?_map]
  cases hi:s[i]? with
  | none=>rw [List.getElem?_eq_none (by rw [he.1];exact List.getElem?_eq_none_iff.1 hi)];rfl
  | some z =>
   have hlt:i<s.length:=(List.getElem?_eq_some_iff.1 hi).1
   have hee:=List.getElem?_eq_getElem (show i<es.length by rw [he.1];exact hlt)
   obtain ⟨h1,_⟩:=he.2 i _ z hee hi
   rw [hee,h1];rfl
 subst hes
 rw [F4 hvv (fun _=>rfl)] at hcells hcl
 have hone:∀ u∈s.map hvv,one1 u=true:=by
  intro u hu
  obtain ⟨z,_,rfl⟩:=List.mem_map.1 hu
  rfl
 have fin:∀ v' w',w'.ownsRow base e 1 v' (r.length+s.length) (r.map hvv++s.map hvv)→w.grownBy w' v.ownBlock→OwnH e base w' v' (r++s)∧Below base w w':=by
  intro v' w' h1 h2
  exact ⟨⟨by simpa using h1,An4 hown.2 hds⟩,hown.below h2 (Below.refl _ _) hbase⟩
 cases a with
 | some ad =>
  have hcell:∀ j u,(s.map hvv)[j]?=some u→w.cell? (ad.add j)=some u:=by
   intro j u hu
   have hpos:0<s.length:=by
    cases s with
    | nil=>simp at hu
    | cons z s=>simp
   obtain ⟨ad',h1,_,h2⟩:=hcells hpos
   cases h1
   exact (h2 j u hu).1
  exact (AY1 (s.map hvv) ht hi rfl (by decide) hx hy hown.1 (by simp) hcell hone (by omega) (by omega) hbase).mono fun v' w' ⟨h1,h2⟩=>fin v' w' h1 h2
 | none =>
  have h0:s=[]:=by
   cases s with
   | nil=>rfl
   | cons z s=>obtain ⟨ad,h1,_⟩:=hcells (by simp);cases h1
  subst h0
  refine (BG3 ht hi hx hy hown.1).gv.mono fun v' w' ⟨h1,h2⟩=>?_
  subst h1;subst h2
  exact ⟨by simpa using hown,Below.refl _ _⟩
end
end Go.Kx
namespace Go.Proofs.YtfilidfomgfnhaaGreat
open Go Go.Kx Go.RowKit
theorem AQ0 {x:Int}:bslOf Tryz.prog 25 1 [(0,.int .i64 x)]=some (3,#[.int .i64 x]):=by kernel_rfl
theorem bsl_H3 {x y z:Int}:bslOf Tryz.prog 25 3 [(0,.int .i64 x),(1,.int .i64 y),(2,.int .i64 z)]=some (3,#[.int .i64 x,.int .i64 y,.int .i64 z]):=by kernel_rfl
theorem Ap1:Ent Tryz.prog 225:=A0 Tryz.func225 (by kernel_rfl) rfl
theorem Al7 {S:Nat→Prop} {w:World} {va vb:Value} {a b:List Nat} (up:Up S w) (ha:eHs.R S w va a) (hb:eHs.R S w vb b) (hla:a.length≤100000000000) (hlb:b.length≤100000000000):CR Tryz.prog 225 #[va,vb] w (eHs.at S (hds (valH a+valH b))):=by
 have hda:=U7 ha
 have hdb:=U7 hb
 have hA:∀ {W:World},Below w.heap.size w W→eHs.R (fun k=>S k∧k<w.heap.size) W va a:=fun hB=>eHs.keep (fun k c t f hk h=>(hB.block k hk.2).trans h) (ER.lt eHs ha)
 have hBb:∀ {W:World},Below w.heap.size w W→eHs.R (fun k=>S k∧k<w.heap.size) W vb b:=fun hB=>eHs.keep (fun k c t f hk h=>(hB.block k hk.2).trans h) (ER.lt eHs hb)
 refine enter Tryz.func225 rfl Tryz.ntmps225 rfl ?_
 refine .seq (.region (.asg rfl rfl (.nil (.seq (.region (.asg rfl rfl (.nil (.seq (.region (.asg rfl rfl (.nil (.seq (.seq (.region (.asg rfl rfl (.nil ?_))))))))))))))))
 refine .block (.loop (α:=Nat×Value×List Nat×Nat) (fun x=>[(0,va),(1,vb),(5,x.2.1),(6,.int .i64 (x.2.2.2:Nat)),(7,.int .i64 (x.1:Nat))])
  (fun x W=>Below w.heap.size w W∧x.1≤max a.length b.length+1∧x.2.2.1.length=x.1∧OwnH 3 w.heap.size W x.2.1 x.2.2.1∧x.2.2.2≤1∧(max a.length b.length<x.1→x.2.2.2=0)∧valH x.2.2.1+65536 ^ x.1*x.2.2.2=valH (a.take x.1)+valH (b.take x.1))
  (fun x=>2*(max a.length b.length-x.1)+x.2.2.2) (0,.slice none 0 0,[],0) ?_ ?_ ?_)
 ·exact lkA rfl
 ·exact ⟨Below.refl _ _,Nat.zero_le _,rfl,OwnH.nil,Nat.zero_le _,fun _=>rfl,by simp [valH]⟩
 ·rintro ⟨i,u,r,c⟩ W ⟨hB,hi,hr,ho,hc,hc0,hv⟩
  replace hB:Below w.heap.size w W:=hB
  replace hi:i≤max a.length b.length+1:=hi
  replace hr:r.length=i:=hr
  replace ho:OwnH 3 w.heap.size W u r:=ho
  replace hc:c≤1:=hc
  replace hc0:max a.length b.length<i→c=0:=hc0
  replace hv:valH r+65536 ^ i*c=valH (a.take i)+valH (b.take i):=hv
  have hxa:=M6 hda i
  have hxb:=M6 hdb i
  have round:∀ {σ:Env},(i<max a.length b.length∨0<c)→Kx.look σ 0=some va→Kx.look σ 1=some vb→Kx.look σ 5=some u→Kx.look σ 6=some (.int .i64 (c:Nat))→Kx.look σ 7=some (.int .i64 (i:Nat))→True:=fun _ _ _ _ _ _=>trivial
  refine .mid (α:=Unit) (fun _=>[(0,va),(1,vb),(5,u),(6,.int .i64 (c:Nat)),(7,.int .i64 (i:Nat))]) (fun _ W'=>W'=W∧(i<max a.length b.length∨0<c)) ?_ ?_
  ·have hend:¬ (i<max a.length b.length∨0<c)→valH r=valH a+valH b:=by
    intro hn
    have h0:c=0:=by omega
    rw [h0,Nat.mul_zero,Nat.add_zero,Q6 (by omega),Q6 (by omega)] at hv
    exact hv
   refine .seq (.region (.mv rfl rfl (.mv rfl rfl (.lenR un_H rfl rfl (hA hB) ?_))))
   by_cases h1:i<a.length
   ·refine .lssT rfl rfl rfl (by omega) (.mv rfl rfl (.gs rfl rfl rfl rfl rfl (.gs rfl rfl rfl rfl rfl (.gs rfl rfl rfl rfl rfl (.gs rfl rfl rfl rfl rfl (.pick rfl rfl rfl (.mv rfl rfl (.gs rfl rfl rfl rfl rfl (.gs rfl rfl rfl rfl rfl (.pick rfl rfl rfl (.nil (.condT rfl (.skip ?_)))))))))))))
    exact ⟨rfl,(),lkA rfl,rfl,by omega⟩
   ·refine .lssF rfl rfl rfl (by omega) (.mv rfl rfl (.gr rfl rfl rfl rfl (.mv rfl rfl (.gr rfl rfl rfl rfl (.mv rfl rfl (.gr rfl rfl rfl rfl (.lenR un_H rfl rfl (hBb hB) (.gr rfl rfl rfl rfl ?_))))))))
    by_cases h2:i<b.length
    ·refine .lssT rfl rfl rfl (by omega) (.pick rfl rfl rfl (.mv rfl rfl (.gs rfl rfl rfl rfl rfl (.gs rfl rfl rfl rfl rfl (.pick rfl rfl rfl (.nil (.condT rfl (.skip ?_))))))))
     exact ⟨rfl,(),lkA rfl,rfl,by omega⟩
    ·refine .lssF rfl rfl rfl (by omega) (.pick rfl rfl rfl (.mv rfl rfl (.gr rfl rfl rfl rfl (.mv rfl rfl (.gr rfl rfl rfl rfl ?_)))))
     by_cases h3:0<c
     ·refine .gtrT rfl rfl rfl (show (0:Int)<((c:Nat):Int) by omega) (.pick rfl rfl rfl (.nil (.condT rfl (.skip ?_))))
      exact ⟨rfl,(),lkA rfl,rfl,.inr h3⟩
     ·refine .gtrF rfl rfl rfl (show ¬ (0:Int)<((c:Nat):Int) by omega) (.pick rfl rfl rfl (.nil (.condF rfl (.exit (.seq (.region (.mv rfl rfl ?_)))))))
      refine .call _ rfl F6 rfl (F3 (ho.toR up)) fun v2 W2 e2 h2=>.asg rfl rfl (.nil (.ret ?_))
      refine .plain [_] Tryz.results225 ⟨rfl,trivial⟩ ⟨hB.trans (e2.mono hB.size),?_⟩
      rw [←hend (by omega),←trimH ho.2];exact h2
  ·rintro _ W' ⟨rfl,hgo⟩
   refine .seq (.block (.seq (.region (.mv rfl rfl (.mv rfl rfl ?_)))))
   refine .call _ rfl H3 rfl (H1 (hA hB)) fun v3 W3 e3 h3=>.mv rfl rfl (.mv rfl rfl ?_)
   subst h3
   have hB3:Below w.heap.size w W3:=hB.trans (e3.mono hB.size)
   refine .call _ rfl H3 rfl (H1 (hBb hB3)) fun v4 W4 e4 h4=>?_
   subst h4
   refine .add rfl rfl rfl (.mv rfl rfl (.add rfl rfl rfl (.asg rfl rfl (.nil ?_))))
   rw [wI (n:=((a.getD i 0:Nat):Int)+((b.getD i 0:Nat):Int)) (by omega),wI (by omega),show ((a.getD i 0:Nat):Int)+((b.getD i 0:Nat):Int)+(c:Int)=((a.getD i 0+b.getD i 0+c:Nat):Int) by omega]
   generalize hm:a.getD i 0+b.getD i 0+c=m at *
   refine .seq (.region (.mv rfl rfl (.mv rfl rfl (.rem rfl rfl rfl (by decide) ?_))))
   rw [tmod16]
   refine .bsl _ rfl rfl AQ0 fun W5 b5 n5=>?_
   obtain ⟨e5,k5,hb5,hs5⟩:=n5
   have e35:=(e3.trans e4).trans e5
   have hB5:Below w.heap.size w W5:=hB.trans (e35.mono hB.size)
   refine .gv rfl rfl (Ar9 (base:=w.heap.size) un_H AA4 rfl rfl (ho.ext e35) k5 (by omega) (by omega) hB5.size) ?_
   rintro v6 W6 ⟨ho6,hg6⟩
   refine .asg rfl rfl (.nil (.region (.mv rfl rfl (.quo rfl rfl rfl (by decide) (.asg rfl rfl (.nil ?_))))))
   rw [tdiv16,wI (by omega)]
   refine .region (.mv rfl rfl (.add rfl rfl rfl (.asg rfl rfl (.nil ?_))))
   rw [wI (by omega)]
   have hget:max a.length b.length≤i→m / 65536=0:=by
    intro h
    have h1:a.getD i 0=0:=U3 (by omega)
    have h2:b.getD i 0=0:=U3 (by omega)
    omega
   refine ⟨rfl,(i+1,v6,_,m / 65536),lkA rfl,⟨(ho.ext e35).below hg6 hB5 hB5.size,by show i+1≤_;omega,by show (r++[_]).length=_;simp [hr],ho6,by show m / 65536≤1;omega,fun h=>hget (by have h':max a.length b.length<i+1:=h;omega),?_⟩,?_⟩
   ·show valH (r++[m % 65536])+65536 ^ (i+1)*(m / 65536)=valH (a.take (i+1))+valH (b.take (i+1))
    rw [AG0,K8,K8,hr]
    have hdm:=Nat.div_add_mod m 65536
    generalize m / 65536=q at *
    generalize m % 65536=z at *
    have:65536 ^ i*z+65536 ^ (i+1)*q=65536 ^ i*(a.getD i 0+b.getD i 0+c):=by
     rw [hm,←hdm,Nat.pow_succ];grind
    rw [Nat.mul_add,Nat.mul_add] at this
    omega
   ·show 2*(max a.length b.length-(i+1))+m / 65536<2*(max a.length b.length-i)+c
    rcases Nat.lt_or_ge i (max a.length b.length) with h | h
    ·omega
    ·have:=hget h;omega
end Go.Proofs.YtfilidfomgfnhaaGreat

namespace Go.Kx
theorem AJ2 (l:List Nat) (i:Nat):valH l=valH (l.take i)+65536 ^ i*valH (l.drop i):=by
 rcases Nat.lt_or_ge i l.length with h | h
 ·have:valH l=valH (l.take i++l.drop i):=by rw [List.take_append_drop]
  rw [this,AD7,List.length_take,Nat.min_eq_left (by omega)]
 ·rw [List.take_of_length_le h,List.drop_eq_nil_of_le h];simp [valH]
theorem AW4 (l:List Nat) (i:Nat):valH (l.drop i)=l.getD i 0+65536*valH (l.drop (i+1)):=by
 rcases Nat.lt_or_ge i l.length with h | h
 ·exact AA0 h
 ·rw [List.drop_eq_nil_of_le h,List.drop_eq_nil_of_le (by omega),List.getD_eq_getElem?_getD,List.getElem?_eq_none h];rfl
theorem Az9 {l:List Nat} (h:digH l) (i:Nat):digH (l.take i):=fun x hx=>h x (List.mem_of_mem_take hx)
theorem AL0 {l:List Nat} (h:digH l) (i:Nat):valH (l.take i)<65536 ^ i:=by
 have h1:=AB6 (Az9 h i)
 refine Nat.lt_of_lt_of_le h1 (Nat.pow_le_pow_right (by omega) ?_)
 simp;omega
end Go.Kx
namespace Go.Proofs.YtfilidfomgfnhaaGreat
open Go Go.Kx Go.RowKit
theorem AI4:Ent Tryz.prog 259:=A0 Tryz.func259 (by kernel_rfl) rfl
theorem AH9 {S:Nat→Prop} {w:World} {vb:Value} {b:List Nat} {n:Nat} (up:Up S w) (hb:eHs.R S w vb b) (hlb:b.length≤100000000000) (hn:n≤65536):CR Tryz.prog 259 #[vb,.int .i64 n] w (eHs.at S (hds (valH b*n))):=by
 have hdb:=U7 hb
 have hB0:∀ {W:World},Below w.heap.size w W→eHs.R (fun k=>S k∧k<w.heap.size) W vb b:=fun hB=>eHs.keep (fun k c t f hk h=>(hB.block k hk.2).trans h) (ER.lt eHs hb)
 refine enter Tryz.func259 rfl Tryz.ntmps259 rfl ?_
 refine .seq (.region (.asg rfl rfl (.nil (.seq (.region (.asg rfl rfl (.nil (.seq (.region (.asg rfl rfl (.nil (.seq (.seq (.region (.asg rfl rfl (.nil ?_))))))))))))))))
 refine .block (.loop (α:=Nat×Value×List Nat×Nat) (fun x=>[(0,vb),(1,.int .i64 (n:Nat)),(5,x.2.1),(6,.int .i64 (x.2.2.2:Nat)),(7,.int .i64 (x.1:Nat))])
  (fun x W=>Below w.heap.size w W∧x.1≤b.length+2∧x.2.2.1.length=x.1∧OwnH 3 w.heap.size W x.2.1 x.2.2.1∧x.2.2.2≤65536∧(b.length<x.1→x.2.2.2≤1)∧(b.length+1<x.1→x.2.2.2=0)∧valH x.2.2.1+65536 ^ x.1*x.2.2.2=valH (b.take x.1)*n)
  (fun x=>100000*(b.length-x.1)+x.2.2.2) (0,.slice none 0 0,[],0) ?_ ?_ ?_)
 ·exact lkA rfl
 ·exact ⟨Below.refl _ _,Nat.zero_le _,rfl,OwnH.nil,Nat.zero_le _,fun _=>Nat.zero_le _,fun _=>rfl,by simp [valH]⟩
 ·rintro ⟨i,u,r,c⟩ W ⟨hB,hi,hr,ho,hc,hc1,hc0,hv⟩
  replace hB:Below w.heap.size w W:=hB
  replace hi:i≤b.length+2:=hi
  replace hr:r.length=i:=hr
  replace ho:OwnH 3 w.heap.size W u r:=ho
  replace hc:c≤65536:=hc
  replace hc1:b.length<i→c≤1:=hc1
  replace hc0:b.length+1<i→c=0:=hc0
  replace hv:valH r+65536 ^ i*c=valH (b.take i)*n:=hv
  have hxb:=M6 hdb i
  refine .mid (α:=Unit) (fun _=>[(0,vb),(1,.int .i64 (n:Nat)),(5,u),(6,.int .i64 (c:Nat)),(7,.int .i64 (i:Nat))]) (fun _ W'=>W'=W∧(i<b.length∨0<c)) ?_ ?_
  ·refine .seq (.region (.mv rfl rfl (.mv rfl rfl (.lenR un_H rfl rfl (hB0 hB) ?_))))
   by_cases h1:i<b.length
   ·refine .lssT rfl rfl rfl (by omega) (.mv rfl rfl (.gs rfl rfl rfl rfl rfl (.gs rfl rfl rfl rfl rfl (.pick rfl rfl rfl (.nil (.condT rfl (.skip ?_)))))))
    exact ⟨rfl,(),lkA rfl,rfl,.inl h1⟩
   ·refine .lssF rfl rfl rfl (by omega) (.mv rfl rfl (.gr rfl rfl rfl rfl (.mv rfl rfl (.gr rfl rfl rfl rfl ?_))))
    by_cases h3:0<c
    ·refine .gtrT rfl rfl rfl (show (0:Int)<((c:Nat):Int) by omega) (.pick rfl rfl rfl (.nil (.condT rfl (.skip ?_))))
     exact ⟨rfl,(),lkA rfl,rfl,.inr h3⟩
    ·refine .gtrF rfl rfl rfl (show ¬ (0:Int)<((c:Nat):Int) by omega) (.pick rfl rfl rfl (.nil (.condF rfl (.exit (.seq (.region (.mv rfl rfl ?_)))))))
     refine .call _ rfl F6 rfl (F3 (ho.toR up)) fun v2 W2 e2 h2=>.asg rfl rfl (.nil (.ret ?_))
     refine .plain [_] Tryz.results259 ⟨rfl,trivial⟩ ⟨hB.trans (e2.mono hB.size),?_⟩
     have h0:c=0:=by omega
     rw [h0,Nat.mul_zero,Nat.add_zero,Q6 (by omega)] at hv
     rw [←hv,←trimH ho.2];exact h2
  ·rintro _ W' ⟨rfl,hgo⟩
   refine .seq (.block (.seq (.region (.mv rfl rfl (.mv rfl rfl ?_)))))
   refine .call _ rfl H3 rfl (H1 (hB0 hB)) fun v3 W3 e3 h3=>?_
   subst h3
   refine .mv rfl rfl (.mul rfl rfl rfl (.mv rfl rfl (.add rfl rfl rfl (.asg rfl rfl (.nil ?_)))))
   have hmul:b.getD i 0*n≤65535*65536:=Nat.mul_le_mul (by omega) hn
   rw [←Int.natCast_mul,wI (n:=((b.getD i 0*n:Nat):Int)) (by omega),←Int.natCast_add,wI (by omega)]
   generalize hm:b.getD i 0*n+c=m at *
   refine .seq (.region (.mv rfl rfl (.mv rfl rfl (.rem rfl rfl rfl (by decide) ?_))))
   rw [tmod16]
   refine .bsl _ rfl rfl AQ0 fun W5 b5 n5=>?_
   obtain ⟨e5,k5,hb5,hs5⟩:=n5
   have e35:=e3.trans e5
   have hB5:Below w.heap.size w W5:=hB.trans (e35.mono hB.size)
   refine .gv rfl rfl (Ar9 (base:=w.heap.size) un_H AA4 rfl rfl (ho.ext e35) k5 (by omega) (by omega) hB5.size) ?_
   rintro v6 W6 ⟨ho6,hg6⟩
   refine .asg rfl rfl (.nil (.region (.mv rfl rfl (.quo rfl rfl rfl (by decide) (.asg rfl rfl (.nil ?_))))))
   rw [tdiv16,wI (by omega)]
   refine .region (.mv rfl rfl (.add rfl rfl rfl (.asg rfl rfl (.nil ?_))))
   rw [wI (by omega)]
   have hget:b.length≤i→m=c:=by
    intro h
    have h2:b.getD i 0=0:=U3 h
    rw [h2] at hm;omega
   refine ⟨rfl,(i+1,v6,_,m / 65536),lkA rfl,⟨(ho.ext e35).below hg6 hB5 hB5.size,?_,by show (r++[_]).length=_;simp [hr],ho6,by show m / 65536≤65536;omega,?_,?_,?_⟩,?_⟩
   ·show i+1≤b.length+2
    rcases hgo with h | h
    ·omega
    ·by_cases hh:b.length+1<i
     ·have:=hc0 hh;omega
     ·omega
   ·intro h
    have h':b.length<i+1:=h
    have:=hget (by omega)
    show m / 65536≤1
    omega
   ·intro h
    have h':b.length+1<i+1:=h
    have h1:=hget (by omega)
    have h2:=hc1 (by omega)
    show m / 65536=0
    omega
   ·show valH (r++[m % 65536])+65536 ^ (i+1)*(m / 65536)=valH (b.take (i+1))*n
    rw [AG0,K8,hr,Nat.add_mul,←hv]
    have hdm:=Nat.div_add_mod m 65536
    generalize m / 65536=q at *
    generalize m % 65536=z at *
    have:65536 ^ i*z+65536 ^ (i+1)*q=65536 ^ i*(b.getD i 0*n+c):=by
     rw [hm,←hdm,Nat.pow_succ];grind
    rw [Nat.mul_add,←Nat.mul_assoc] at this
    omega
   ·show 100000*(b.length-(i+1))+m / 65536<100000*(b.length-i)+c
    rcases Nat.lt_or_ge i b.length with h | h
    ·omega
    ·have:=hget h;omega
theorem AS5:Ent Tryz.prog 227:=A0 Tryz.func227 (by kernel_rfl) rfl
theorem AR2 {S:Nat→Prop} {w:World} {va vb:Value} {a b:List Nat} (up:Up S w) (ha:eHs.R S w va a) (hb:eHs.R S w vb b) (hla:a.length≤100000000000) (hab:valH b≤valH a):CR Tryz.prog 227 #[va,vb] w (eHs.at S (hds (valH a-valH b))):=by
 have hda:=U7 ha
 have hdb:=U7 hb
 have hA:∀ {W:World},Below w.heap.size w W→eHs.R (fun k=>S k∧k<w.heap.size) W va a:=fun hB=>eHs.keep (fun k c t f hk h=>(hB.block k hk.2).trans h) (ER.lt eHs ha)
 have hBb:∀ {W:World},Below w.heap.size w W→eHs.R (fun k=>S k∧k<w.heap.size) W vb b:=fun hB=>eHs.keep (fun k c t f hk h=>(hB.block k hk.2).trans h) (ER.lt eHs hb)
 refine enter Tryz.func227 rfl Tryz.ntmps227 rfl ?_
 refine .seq (.region (.asg rfl rfl (.nil (.seq (.region (.asg rfl rfl (.nil (.seq (.region (.asg rfl rfl (.nil (.seq (.seq (.region (.asg rfl rfl (.nil ?_))))))))))))))))
 refine .block (.loop (α:=Nat×Value×List Nat×Nat) (fun x=>[(0,va),(1,vb),(5,x.2.1),(6,.int .i64 (x.2.2.2:Nat)),(7,.int .i64 (x.1:Nat))])
  (fun x W=>Below w.heap.size w W∧x.1≤a.length∧x.2.2.1.length=x.1∧OwnH 3 w.heap.size W x.2.1 x.2.2.1∧x.2.2.2≤1∧valH x.2.2.1+valH (b.take x.1)=valH (a.take x.1)+65536 ^ x.1*x.2.2.2)
  (fun x=>a.length-x.1) (0,.slice none 0 0,[],0) ?_ ?_ ?_)
 ·exact lkA rfl
 ·exact ⟨Below.refl _ _,Nat.zero_le _,rfl,OwnH.nil,Nat.zero_le _,by simp [valH]⟩
 ·rintro ⟨i,u,r,c⟩ W ⟨hB,hi,hr,ho,hc,hv⟩
  replace hB:Below w.heap.size w W:=hB
  replace hi:i≤a.length:=hi
  replace hr:r.length=i:=hr
  replace ho:OwnH 3 w.heap.size W u r:=ho
  replace hc:c≤1:=hc
  replace hv:valH r+valH (b.take i)=valH (a.take i)+65536 ^ i*c:=hv
  have hxa:=M6 hda i
  have hxb:=M6 hdb i
  refine .weak [(0,va),(1,vb),(5,u),(6,.int .i64 (c:Nat)),(7,.int .i64 (i:Nat))] (fun t v h=>h) ?_
  refine .seq (.seq (.region (.mv rfl rfl (.mv rfl rfl (.lenR un_H rfl rfl (hA hB) ?_)))))
  by_cases hlt:i<a.length
  ·refine .lssT rfl rfl rfl (by omega) (.nil (.condT rfl (.skip (.seq (.block (.seq (.region (.mv rfl rfl (.mv rfl rfl ?_)))))))))
   refine .call _ rfl H3 rfl (H1 (hA hB)) fun v3 W3 e3 h3=>.mv rfl rfl (.mv rfl rfl ?_)
   subst h3
   have hB3:Below w.heap.size w W3:=hB.trans (e3.mono hB.size)
   refine .call _ rfl H3 rfl (H1 (hBb hB3)) fun v4 W4 e4 h4=>?_
   subst h4
   refine .sub rfl rfl rfl (.mv rfl rfl (.sub rfl rfl rfl (.asg rfl rfl (.nil ?_))))
   rw [wI (n:=((a.getD i 0:Nat):Int)-((b.getD i 0:Nat):Int)) (by omega),wI (by omega)]
   have e34:=e3.trans e4
   refine .seq (.region (.asg rfl rfl (.nil ?_)))
   generalize hx:a.getD i 0=x at *
   generalize hy:b.getD i 0=y at *
   refine .mid (α:=Nat×Nat) (fun p=>[(0,va),(1,vb),(5,u),(6,.int .i64 (p.2:Nat)),(7,.int .i64 (i:Nat)),(8,.int .i64 (p.1:Nat))]) (fun p W'=>W'=W4∧p.1<65536∧p.2≤1∧p.1+y+c=x+65536*p.2) ?_ ?_
   ·refine .seq (.region (.mv rfl rfl ?_))
    by_cases h0:(x:Int)-(y:Int)-(c:Int)<0
    ·refine .lssT rfl rfl rfl h0 (.nil (.condT rfl (.seq (.region (.mv rfl rfl (.add rfl rfl rfl (.asg rfl rfl (.nil (.region (.asg rfl rfl (.nil ?_)))))))))))
     rw [wI (by omega),show (x:Int)-(y:Int)-(c:Int)+65536=((x+65536-y-c:Nat):Int) by omega]
     exact ⟨rfl,(x+65536-y-c,1),lkA rfl,rfl,by show x+65536-y-c<65536;omega,Nat.le_refl _,by show x+65536-y-c+y+c=x+65536*1;omega⟩
    ·refine .lssF rfl rfl rfl h0 (.nil (.condF rfl (.skip ?_)))
     rw [show (x:Int)-(y:Int)-(c:Int)=((x-y-c:Nat):Int) by omega]
     exact ⟨rfl,(x-y-c,0),lkA rfl,rfl,by show x-y-c<65536;omega,Nat.zero_le _,by show x-y-c+y+c=x+65536*0;omega⟩
   ·rintro ⟨z,l⟩ W' ⟨rfl,hz,hl,hzl⟩
    replace hz:z<65536:=hz
    replace hl:l≤1:=hl
    replace hzl:z+y+c=x+65536*l:=hzl
    refine .region (.mv rfl rfl (.mv rfl rfl (.bsl _ rfl rfl AQ0 fun W5 b5 n5=>?_)))
    obtain ⟨e5,k5,hb5,hs5⟩:=n5
    have e35:=e34.trans e5
    have hB5:Below w.heap.size w W5:=hB.trans (e35.mono hB.size)
    refine .gv rfl rfl (Ar9 (base:=w.heap.size) un_H AA4 rfl rfl (ho.ext e35) k5 hz (by omega) hB5.size) ?_
    rintro v6 W6 ⟨ho6,hg6⟩
    refine .asg rfl rfl (.nil (.region (.mv rfl rfl (.add rfl rfl rfl (.asg rfl rfl (.nil ?_))))))
    rw [wI (by omega)]
    refine ⟨rfl,(i+1,v6,_,l),lkA rfl,⟨(ho.ext e35).below hg6 hB5 hB5.size,hlt,by show (r++[_]).length=_;simp [hr],ho6,hl,?_⟩,by show a.length-(i+1)<a.length-i;omega⟩
    show valH (r++[z])+valH (b.take (i+1))=valH (a.take (i+1))+65536 ^ (i+1)*l
    rw [AG0,K8,K8,hr,hx,hy,Nat.pow_succ]
    have:65536 ^ i*(z+y+c)=65536 ^ i*(x+65536*l):=by rw [hzl]
    rw [Nat.mul_add,Nat.mul_add,Nat.mul_add,←Nat.mul_assoc] at this
    omega
  ·refine .lssF rfl rfl rfl (by omega) (.nil (.condF rfl (.exit (.seq (.region (.mv rfl rfl ?_))))))
   refine .call _ rfl F6 rfl (F3 (ho.toR up)) fun v2 W2 e2 h2=>.asg rfl rfl (.nil (.ret ?_))
   refine .plain [_] Tryz.results227 ⟨rfl,trivial⟩ ⟨hB.trans (e2.mono hB.size),?_⟩
   have hie:i=a.length:=by omega
   subst hie
   rw [Q6 (l:=a) (Nat.le_refl _)] at hv
   have h1:=AB6 hda
   have h2':=AB6 ho.2
   rw [hr] at h2'
   have h3:=AJ2 b a.length
   have hp:0<65536 ^ a.length:=Nat.pow_pos (by omega)
   have h4:valH (b.drop a.length)=0:=by
    rcases Nat.eq_zero_or_pos (valH (b.drop a.length)) with h | h
    ·exact h
    ·have:65536 ^ a.length*1≤65536 ^ a.length*valH (b.drop a.length):=Nat.mul_le_mul_left _ h
     omega
   rw [h4,Nat.mul_zero,Nat.add_zero] at h3
   have h5:c=0:=by
    rcases Nat.eq_zero_or_pos c with h | h
    ·exact h
    ·have:c=1:=by omega
     rw [this,Nat.mul_one] at hv
     omega
   rw [h5,Nat.mul_zero,Nat.add_zero,←h3] at hv
   rw [show valH a-valH b=valH r by omega,←trimH ho.2];exact h2
theorem AS7:Ent Tryz.prog 226:=A0 Tryz.func226 (by kernel_rfl) rfl
theorem AR4 {S:Nat→Prop} {w:World} {va vb:Value} {a b:List Nat} (ha:eHs.R S w va a) (hb:eHs.R S w vb b) (hla:a.length≤100000000000) (hlb:b.length≤100000000000):CR Tryz.prog 226 #[va,vb] w (Is (.int .i64 (cmpN (valH a) (valH b)))):=by
 have hda:=U7 ha
 have hdb:=U7 hb
 refine enter Tryz.func226 rfl Tryz.ntmps226 rfl ?_
 refine .seq (.region (.asg rfl rfl (.nil (.seq (.seq (.region (.mv rfl rfl (.lenR un_H rfl rfl ha (.mv rfl rfl (.lenR un_H rfl rfl hb (.max_ rfl rfl rfl (.sub rfl rfl rfl (.asg rfl rfl (.nil ?_))))))))))))))
 rw [wI (by omega),show max (a.length:Int) (b.length:Int)-1=((max a.length b.length:Nat):Int)-1 by omega]
 refine .block (.loop (α:=Nat) (fun j=>[(0,va),(1,vb),(5,.int .i64 ((j:Nat)-1:Int))]) (fun j W=>Ext w W∧j≤max a.length b.length∧valH (a.drop j)=valH (b.drop j)) (fun j=>j) (max a.length b.length) ?_ ?_ ?_)
 ·exact lkA rfl
 ·exact ⟨.refl _,Nat.le_refl _,by rw [List.drop_eq_nil_of_le (by omega),List.drop_eq_nil_of_le (by omega)]⟩
 ·rintro j W ⟨hW,hj,heq⟩
  refine .seq (.seq (.region (.mv rfl rfl ?_)))
  cases j with
  | zero =>
   refine .geqF rfl rfl rfl (by simp) (.nil (.condF rfl (.exit (.seq (.region (.asg rfl rfl (.nil (.ret ?_))))))))
   refine .plain [_] Tryz.results226 ⟨rfl,trivial⟩ ⟨hW,isI ?_⟩
   simp at heq
   unfold cmpN;rw [heq];simp
  | succ i =>
   rw [show (((i+1:Nat):Int)-1)=(i:Int) by omega]
   have ea:=AJ2 a i
   have eb:=AJ2 b i
   have da:=AW4 a i
   have db:=AW4 b i
   have ta:=AL0 hda i
   have tb:=AL0 hdb i
   have hp:0<65536 ^ i:=Nat.pow_pos (by omega)
   refine .geqT rfl rfl rfl (by omega) (.nil (.condT rfl (.skip (.seq (.block (.seq (.seq (.region (.mv rfl rfl (.mv rfl rfl ?_))))))))))
   refine .call _ rfl H3 rfl (H1 (ha.ext hW)) fun v3 W3 e3 h3=>.mv rfl rfl (.mv rfl rfl ?_)
   subst h3
   have hW3:=hW.trans e3
   refine .call _ rfl H3 rfl (H1 (hb.ext hW3)) fun v4 W4 e4 h4=>?_
   subst h4
   have hW4:=hW3.trans e4
   by_cases h1:a.getD i 0<b.getD i 0
   ·refine .lssT rfl rfl rfl (by omega) (.nil (.condT rfl (.seq (.region (.asg rfl rfl (.nil (.ret ?_)))))))
    refine .plain [_] Tryz.results226 ⟨rfl,trivial⟩ ⟨hW4,isI ?_⟩
    have hlt:valH (a.drop i)+1≤valH (b.drop i):=by omega
    have hm:65536 ^ i*(valH (a.drop i)+1)≤65536 ^ i*valH (b.drop i):=Nat.mul_le_mul_left _ hlt
    rw [Nat.mul_add,Nat.mul_one] at hm
    unfold cmpN;rw [if_pos (by omega)]
   ·refine .lssF rfl rfl rfl (by omega) (.nil (.condF rfl (.skip (.seq (.region (.mv rfl rfl (.mv rfl rfl ?_)))))))
    refine .call _ rfl H3 rfl (H1 (ha.ext hW4)) fun v5 W5 e5 h5=>.mv rfl rfl (.mv rfl rfl ?_)
    subst h5
    have hW5:=hW4.trans e5
    refine .call _ rfl H3 rfl (H1 (hb.ext hW5)) fun v6 W6 e6 h6=>?_
    subst h6
    have hW6:=hW5.trans e6
    by_cases h2:b.getD i 0<a.getD i 0
    ·refine .gtrT rfl rfl rfl (by omega) (.nil (.condT rfl (.seq (.region (.asg rfl rfl (.nil (.ret ?_)))))))
     refine .plain [_] Tryz.results226 ⟨rfl,trivial⟩ ⟨hW6,isI ?_⟩
     have hlt:valH (b.drop i)+1≤valH (a.drop i):=by omega
     have hm:65536 ^ i*(valH (b.drop i)+1)≤65536 ^ i*valH (a.drop i):=Nat.mul_le_mul_left _ hlt
     rw [Nat.mul_add,Nat.mul_one] at hm
     unfold cmpN;rw [if_neg (by omega),if_pos (by omega)]
    ·refine .gtrF rfl rfl rfl (by omega) (.nil (.condF rfl (.skip (.region (.mv rfl rfl (.sub rfl rfl rfl (.asg rfl rfl (.nil ?_))))))))
     rw [wI (by omega)]
     exact ⟨rfl,i,lkA rfl,⟨hW6,by omega,by omega⟩,by show i<i+1;omega⟩
theorem R0:Ent Tryz.prog 258:=A0 Tryz.func258 (by kernel_rfl) rfl
theorem Q7 {S:Nat→Prop} {w:World} {va:Value} {a:List Nat} (ha:eHs.R S w va a) (hla:a.length≤3):CR Tryz.prog 258 #[va] w (Is (.int .i64 (valH a))):=by
 have hda:=U7 ha
 refine enter Tryz.func258 rfl Tryz.ntmps258 rfl ?_
 refine .seq (.region (.asg rfl rfl (.nil (.seq (.region (.asg rfl rfl (.nil (.seq (.seq (.region (.mv rfl rfl (.lenR un_H rfl rfl ha (.sub rfl rfl rfl (.asg rfl rfl (.nil ?_)))))))))))))))
 rw [wI (by omega)]
 refine .block (.loop (α:=Nat) (fun j=>[(0,va),(3,.int .i64 (valH (a.drop j):Nat)),(4,.int .i64 ((j:Nat)-1:Int))]) (fun j W=>W=w∧j≤a.length) (fun j=>j) a.length ?_ ?_ ?_)
 ·refine A2 rfl (A2 ?_ (lkA rfl))
  rw [List.drop_eq_nil_of_le (Nat.le_refl _)];rfl
 ·exact ⟨rfl,Nat.le_refl _⟩
 ·rintro j W ⟨rfl,hj⟩
  refine .seq (.seq (.region (.mv rfl rfl ?_)))
  cases j with
  | zero =>
   refine .geqF rfl rfl rfl (by simp) (.nil (.condF rfl (.exit (.seq (.region (.mv rfl rfl (.asg rfl rfl (.nil (.ret ?_)))))))))
   exact .plain [_] Tryz.results258 ⟨rfl,trivial⟩ ⟨.refl _,rfl⟩
  | succ i =>
   rw [show (((i+1:Nat):Int)-1)=(i:Int) by omega]
   have hx:=M6 hda i
   have hlt:=AB6 (show digH (a.drop (i+1)) from fun x hx=>hda x (List.mem_of_mem_drop hx))
   have hlen:(a.drop (i+1)).length≤2:=by simp;omega
   have hpw:65536 ^ (a.drop (i+1)).length≤65536 ^ 2:=Nat.pow_le_pow_right (by omega) hlen
   have hd:=AA0 (l:=a) (k:=i) (by omega)
   refine .geqT rfl rfl rfl (by omega) (.nil (.condT rfl (.skip (.seq (.block (.region (.mv rfl rfl (.mul rfl rfl rfl (.mv rfl rfl (.mv rfl rfl ?_))))))))))
   refine .ixN (i:=i) un_H A5 rfl rfl ha rfl (C0 (by omega)) fun p hp=>.ldE A5 rfl rfl hp fun e he=>?_
   obtain ⟨rfl,_⟩:=he
   refine .add rfl rfl rfl (.asg rfl rfl (.nil (.region (.mv rfl rfl (.sub rfl rfl rfl (.asg rfl rfl (.nil ?_)))))))
   rw [wI (n:=((valH (a.drop (i+1)):Nat):Int)*65536) (by omega),wI (n:=((valH (a.drop (i+1)):Nat):Int)*65536+_) (by omega),wI (n:=(i:Int)-1) (by omega)]
   refine ⟨rfl,i,A2 rfl (A2 ?_ (lkA rfl)),⟨rfl,by omega⟩,by show i<i+1;omega⟩
   show some (Value.int .i64 (((valH (a.drop (i+1)):Nat):Int)*65536+((a.getD i 0:Nat):Int)))=_
   rw [hd]
   congr 2;omega
end Go.Proofs.YtfilidfomgfnhaaGreat

namespace Go.Kx
end Go.Kx
namespace Go.Proofs.YtfilidfomgfnhaaGreat
open Go Go.Kx Go.RowKit
theorem AN7:Ent Tryz.prog 257:=A0 Tryz.func257 (by kernel_rfl) rfl
theorem AM4 {S:Nat→Prop} {w:World} {v:Nat} (up:Up S w) (hv:v<281474976710656):CR Tryz.prog 257 #[.int .i64 v] w (eHs.at S (hds v)):=by
 refine enter Tryz.func257 rfl Tryz.ntmps257 rfl ?_
 refine .seq (.region (.asg rfl rfl (.nil (.seq (.region (.mv rfl rfl (.rem rfl rfl rfl (by decide) (.mv rfl rfl (.quo rfl rfl rfl (by decide) ?_)))))))))
 rw [tmod16,tdiv16,wI (by omega)]
 refine .rem rfl rfl rfl (by decide) (.mv rfl rfl (.quo rfl rfl rfl (by decide) ?_))
 rw [tmod16,tdiv16,wI (by omega)]
 refine .quo rfl rfl rfl (by decide) ?_
 rw [tdiv16,wI (by omega)]
 refine .bsl _ rfl rfl bsl_H3 fun w1 b1 n1=>?_
 have hd:digH [v % 65536,v / 65536 % 65536,v / 65536 / 65536]:=by
  intro x hx
  simp at hx
  omega
 have ho:OwnH 3 w.heap.size w1 (.slice (some ⟨b1,0,none⟩) 3 3) [v % 65536,v / 65536 % 65536,v / 65536 / 65536]:=OwnH.lit (l:=[v % 65536,v / 65536 % 65536,v / 65536 / 65536]) n1 (Nat.le_refl _) hd (by simp)
 have hval:valH [v % 65536,v / 65536 % 65536,v / 65536 / 65536]=v:=by simp only [valH];omega
 refine .call _ rfl F6 rfl (F3 (ho.toR up)) fun v2 w2 e2 h2=>.asg rfl rfl (.nil (.ret ?_))
 rw [trimH hd,hval] at h2
 exact .plain [_] Tryz.results257 ⟨rfl,trivial⟩ ⟨n1.1.trans e2,h2⟩
end Go.Proofs.YtfilidfomgfnhaaGreat

namespace Go.Kx
theorem hds_ge {n:Nat} (h:n≠0):65536 ^ ((hds n).length-1)≤n:=by
 induction n using Nat.strongRecOn with
 | ind n ih =>
  rw [AG9 h,List.length_cons,Nat.add_sub_cancel]
  by_cases h1:n / 65536=0
  ·rw [h1,L2];simp;omega
  ·have:=ih (n / 65536) (by omega) h1
   have hl:(hds (n / 65536)).length≠0:=fun e=>h1 (P2.1 (List.length_eq_zero_iff.1 e))
   obtain ⟨m,hm⟩:∃ m,(hds (n / 65536)).length=m+1:=⟨_,(Nat.succ_pred_eq_of_ne_zero hl).symm⟩
   rw [hm] at this ⊢
   rw [Nat.add_sub_cancel] at this
   rw [Nat.pow_succ]
   have:=Nat.mul_le_mul_right 65536 this
   omega
theorem AH7 {l:List Nat} {i q:Nat} (h:i<l.length):valH ((l.set i q).drop i)=q+65536*valH (l.drop (i+1)):=by
 rw [AA0 (by simpa using h)]
 have h1:(l.set i q).getD i 0=q:=by rw [List.getD_eq_getElem?_getD,List.getElem?_set_self h];rfl
 have h2:(l.set i q).drop (i+1)=l.drop (i+1):=by rw [List.drop_set];simp
 rw [h1,h2]
/-- one step of a long division -/
theorem An2 {D d x R Q:Nat} (hd:0<d) (hQ:Q=D / d) (hR:R=D % d):(x+65536*D) / d=(x+65536*R) / d+65536*Q∧(x+65536*D) % d=(x+65536*R) % d:=by
 have h1:=Nat.div_add_mod D d
 rw [←hQ,←hR] at h1
 have h2:x+65536*D=(x+65536*R)+d*(65536*Q):=by
  rw [←h1,Nat.mul_add]
  have:65536*(d*Q)=d*(65536*Q):=by rw [←Nat.mul_assoc,Nat.mul_comm 65536 d,Nat.mul_assoc]
  omega
 rw [h2,Nat.add_mul_div_left _ _ hd,Nat.add_mul_mod_self_left]
 exact ⟨rfl,rfl⟩
end Go.Kx
namespace Go.Proofs.YtfilidfomgfnhaaGreat
open Go Go.Kx Go.RowKit
theorem Au6 {P:Program} {σ:Env} {w:World} {dd:Option Tmp} {ty:TypeId} {pos:String} {af:Array Edge} {gd:Option (Nat×Bool)} {t e:TypeId} {x ix:Operand} {k:IntKind} {i:Nat} {b:Bool} {sz n c:Nat} {ad:Addr} (ht:P.underlying t=some (.slice e)) (he:tyOf P e=some (b,sz)) (hx:ev σ x=some (.slice (some ad) n c))
  (hi:ev σ ix=some (.int k (i:Int))) (hlt:i<n):Vl P ⟨dd,.indexAddr t x ix,ty,pos,af,gd⟩ σ w (.pointer (some (ad.add (i*sz)))):=by
 refine ⟨(by intro _ h;cases h),fun ρ hρ=>?_⟩
 have h1:=hρ x _ (by simp [Op.operands]) hx
 have h2:=hρ ix _ (by simp [Op.operands]) hi
 simp [execOp,h1,h2,Instr.indexAt,asIntOf,run_underlying ht,(J0 he w).2]
 intro hh;omega
theorem zero_H {S:Nat→Prop} {w:World}:eH.R S w (.int .i64 0) 0:=⟨rfl,by decide⟩
theorem Ax1 {S:Nat→Prop} {w:World} {t:TypeId} {g:Nat} {l:List Nat} (h:FB eH t S w g l):digH l:=by
 intro x hx
 obtain ⟨es,_,he⟩:=h
 obtain ⟨i,hi⟩:=List.mem_iff_getElem?.1 hx
 have hlt:i<l.length:=(List.getElem?_eq_some_iff.1 hi).1
 exact (he.2 i _ x (List.getElem?_eq_getElem (by rw [he.1];exact hlt)) hi).2
theorem AS6:Ent Tryz.prog 260:=A0 Tryz.func260 (by kernel_rfl) rfl
theorem AR3 {S:Nat→Prop} {w:World} {va vb:Value} {m d:Nat} (up:Up S w) (ha:eHs.R S w va (hds m)) (hb:eHs.R S w vb (hds d)) (hla:(hds m).length≤10000000000) (hlb:(hds d).length≤10000000000) (hd:d≠0) :
  CR Tryz.prog 260 #[va,vb] w (Two (eHs.at S (hds (m / d))) (eHs.at S (hds (m % d)))):=by
 have hda:=AZ4 m
 have hdb:=AZ4 d
 have hva:=D6 m
 have hvb:=D6 d
 have hbne:(hds d).length≠0:=fun e=>hd (P2.1 (List.length_eq_zero_iff.1 e))
 have hbge:=hds_ge hd
 have hblt:=AX8 d
 generalize hds m=a at *
 generalize hds d=b at *
 have hA:∀ {W:World},Below w.heap.size w W→eHs.R (fun k=>S k∧k<w.heap.size) W va a:=fun hB=>eHs.keep (fun k c t f hk h=>(hB.block k hk.2).trans h) (ER.lt eHs ha)
 have hBb:∀ {W:World},Below w.heap.size w W→eHs.R (fun k=>S k∧k<w.heap.size) W vb b:=fun hB=>eHs.keep (fun k c t f hk h=>(hB.block k hk.2).trans h) (ER.lt eHs hb)
 refine enter Tryz.func260 rfl Tryz.ntmps260 rfl ?_
 refine .seq (.region (.asg rfl rfl (.asg rfl rfl (.nil ?_))))
 refine .mid (α:=Unit) (fun _=>[(0,va),(1,vb)]) (fun _ W=>W=w∧(3<a.length∨3<b.length)) ?_ ?_
 ·refine .seq (.region (.mv rfl rfl (.lenR un_H rfl rfl ha ?_)))
  by_cases h1:a.length≤3
  ·refine .leqT rfl rfl rfl (by omega) (.mv rfl rfl (.gr rfl rfl rfl rfl (.mv rfl rfl (.gr rfl rfl rfl rfl (.lenR un_H rfl rfl hb (.gr rfl rfl rfl rfl ?_))))))
   by_cases h2:b.length≤3
   ·refine .leqT rfl rfl rfl (by omega) (.pick rfl rfl rfl (.nil (.condT rfl (.seq (.region (.mv rfl rfl ?_))))))
    refine .call _ rfl R0 rfl (Q7 ha h1) fun v1 w1 e1 r1=>.mv rfl rfl ?_
    subst r1
    refine .call _ rfl R0 rfl (Q7 (hb.ext e1) h2) fun v2 w2 e2 r2=>?_
    subst r2
    rw [hva,hvb]
    have x2:=e1.trans e2
    have hm3:m<281474976710656:=by
     have:=AB6 hda
     have hp:65536 ^ a.length≤65536 ^ 3:=Nat.pow_le_pow_right (by omega) h1
     omega
    have hdle:m / d≤m:=Nat.div_le_self _ _
    have hmlt:m % d≤m:=Nat.mod_le _ _
    refine .quo rfl rfl rfl (by omega) ?_
    rw [N1,wI (by have h0:(0:Int)≤((m / d:Nat):Int):=Int.natCast_nonneg _;omega)]
    refine .call _ rfl AN7 rfl (AM4 (up.ext x2.size) (by omega)) fun v3 w3 e3 r3=>.mv rfl rfl ?_
    have x3:=x2.trans e3
    refine .call _ rfl R0 rfl (Q7 (ha.ext x3) h1) fun v4 w4 e4 r4=>.mv rfl rfl ?_
    subst r4
    have x4:=x3.trans e4
    refine .call _ rfl R0 rfl (Q7 (hb.ext x4) h2) fun v5 w5 e5 r5=>?_
    subst r5
    rw [hva,hvb]
    have x5:=x4.trans e5
    refine .rem rfl rfl rfl (by omega) ?_
    rw [N0]
    refine .call _ rfl AN7 rfl (AM4 (up.ext x5.size) (by omega)) fun v6 w6 e6 r6=>.asg rfl rfl (.asg rfl rfl (.nil (.ret ?_)))
    exact .plain [_,_] Tryz.results260 ⟨rfl,rfl,trivial⟩ ⟨x5.trans e6,v3,v6,rfl,ER.ext eHs (ER.ext eHs (ER.ext eHs r3 e4) e5) e6,r6⟩
   ·refine .leqF rfl rfl rfl (by omega) (.pick rfl rfl rfl (.nil (.condF rfl (.skip ?_))))
    exact ⟨rfl,(),lkA rfl,rfl,by omega⟩
  ·refine .leqF rfl rfl rfl (by omega) (.mv rfl rfl (.gs rfl rfl rfl rfl rfl (.gs rfl rfl rfl rfl rfl (.gs rfl rfl rfl rfl rfl (.pick rfl rfl rfl (.nil (.condF rfl (.skip ?_))))))))
   exact ⟨rfl,(),lkA rfl,rfl,by omega⟩
 rintro _ W ⟨hWw,hbig⟩
 have hWw:=hWw.symm
 subst hWw
 refine .seq (.region (.mv rfl rfl (.lenR un_H rfl rfl ha ?_)))
 refine .make_ _ _ un_H AA4 rfl (by decide) rfl rfl rfl (Nat.le_refl _) (by omega) (by omega) fun w1 g n1=>.asg rfl rfl (.nil ?_)
 have f1:FB eH 3 S w1 g (List.replicate a.length 0):=FB.made n1 zero_H
 obtain ⟨e1,k1,hg,hs1⟩:=n1
 have hout:∀ {W2:World} {l:List Nat},FB eH 3 S W2 g l→l.length=a.length→eHs.R S W2 (.slice (some ⟨g,0,none⟩) a.length a.length) l:=by
  intro W2 l hF hl
  have:=hF.toR (c:=a.length) (hsz:=by decide) (up g (by omega)) (by omega) (by omega)
  rwa [hl] at this
 refine .seq (.seq (.region (.mv rfl rfl (.lenR un_H rfl rfl (hBb e1) ?_))))
 by_cases hb1:b.length=1
 ·refine .eqlT rfl rfl rfl (by omega) (.nil (.condT rfl (.seq (.region (.asg rfl rfl (.nil ?_))))))
  have hb0:b.getD 0 0=d:=by
   match b,hb1 with
   | [x],_=>simpa [valH] using hvb
  have hd16:d<65536:=by rw [hb1] at hblt;simpa using hblt
  have hgetb:=C0 (l:=b) (k:=0) (by omega)
  rw [hb0] at hgetb
  refine .mid (α:=List Nat×Nat) (fun p=>[(6,.slice (some ⟨g,0,none⟩) a.length a.length),(7,.int .i64 (p.2:Nat))]) (fun p W=>Below w.heap.size w W∧FB eH 3 S W g p.1∧p.1.length=a.length∧valH p.1=m / d∧p.2=m % d) ?_ ?_
  ·refine .seq (.region (.mv rfl rfl (.lenR un_H rfl rfl (hA e1) (.sub rfl rfl rfl (.asg rfl rfl (.nil ?_))))))
   rw [wI (by omega)]
   refine .block (.loop (α:=Nat×List Nat×Nat) (fun x=>[(0,va),(1,vb),(6,.slice (some ⟨g,0,none⟩) a.length a.length),(7,.int .i64 (x.2.2:Nat)),(8,.int .i64 ((x.1:Nat)-1:Int))])
    (fun x W=>Below w.heap.size w W∧x.1≤a.length∧FB eH 3 S W g x.2.1∧x.2.1.length=a.length∧valH (x.2.1.drop x.1)=valH (a.drop x.1) / d∧x.2.2=valH (a.drop x.1) % d) (fun x=>x.1) (a.length,List.replicate a.length 0,0) ?_ ?_ ?_)
   ·exact lkA rfl
   ·refine ⟨e1,Nat.le_refl _,f1,by simp,?_,?_⟩
    ·show valH ((List.replicate a.length 0).drop a.length)=_
     rw [List.drop_eq_nil_of_le (by simp),List.drop_eq_nil_of_le (Nat.le_refl _)];simp [valH]
    ·show 0=_
     rw [List.drop_eq_nil_of_le (Nat.le_refl _)];simp [valH]
   ·rintro ⟨j,l,r⟩ W ⟨hB,hj,hF,hl,hq,hr⟩
    replace hB:Below w.heap.size w W:=hB
    replace hj:j≤a.length:=hj
    replace hF:FB eH 3 S W g l:=hF
    replace hl:l.length=a.length:=hl
    replace hq:valH (l.drop j)=valH (a.drop j) / d:=hq
    replace hr:r=valH (a.drop j) % d:=hr
    refine .weak [(0,va),(1,vb),(6,.slice (some ⟨g,0,none⟩) a.length a.length),(7,.int .i64 (r:Nat)),(8,.int .i64 ((j:Nat)-1:Int))] (fun t v h=>h) ?_
    have hsz:=hB.size
    have hgl:=hF.lt
    have hrd:r<d:=by rw [hr];exact Nat.mod_lt _ (by omega)
    refine .seq (.seq (.region (.mv rfl rfl ?_)))
    cases j with
    | zero =>
     refine .geqF rfl rfl rfl (by simp) (.nil (.condF rfl (.exit ?_)))
     rw [List.drop_zero,List.drop_zero,hva] at hq
     rw [List.drop_zero,hva] at hr
     exact ⟨rfl,(l,r),lkA rfl,hB,hF,hl,hq,hr⟩
    | succ i =>
     rw [show (((i+1:Nat):Int)-1)=(i:Int) by omega]
     have hx:=M6 hda i
     have hget:=C0 (l:=a) (k:=i) (by omega)
     have hdr:=AA0 (l:=a) (k:=i) (by omega)
     have hst:=An2 (D:=valH (a.drop (i+1))) (x:=a.getD i 0) (by omega:0<d) hq hr
     rw [←hdr] at hst
     generalize a.getD i 0=x at *
     refine .geqT rfl rfl rfl (by omega) (.nil (.condT rfl (.skip (.seq (.block (.seq (.region (.mv rfl rfl (.mul rfl rfl rfl (.mv rfl rfl (.mv rfl rfl ?_)))))))))))
     refine .ixN (i:=i) un_H A5 rfl rfl (hA hB) rfl hget fun p hp=>.ldE A5 rfl rfl hp fun e he=>?_
     obtain ⟨rfl,_⟩:=he
     refine .add rfl rfl rfl (.asg rfl rfl (.nil ?_))
     rw [wI (n:=(r:Int)*65536) (by omega),wI (by omega),show (r:Int)*65536+(x:Int)=((x+65536*r:Nat):Int) by omega]
     generalize hy:x+65536*r=y at *
     have hyq:y / d<65536:=by
      rw [Nat.div_lt_iff_lt_mul (by omega)]
      have:65536*(r+1)≤65536*d:=Nat.mul_le_mul_left _ hrd
      omega
     have hyr:y % d<d:=Nat.mod_lt _ (by omega)
     obtain ⟨ad,cb,hvbs,_,hpt⟩:=RL.at_ (hBb hB) hgetb
     obtain ⟨eb,⟨rfl,_⟩,hadS,hadc⟩:=hpt
     have hcell:W.cell? (ad.add (0*1))=some (.int .i64 (d:Nat)):=hadc 0 _ rfl
     rw [G2] at hadS
     have hkeep:∀ {W':World},W'.heap[ad.block]?=W.heap[ad.block]?→W'.cell? (ad.add (0*1))=some (.int .i64 (d:Nat)):=fun h=>(AH3 (p:=ad.add (0*1)) (by rw [G2];exact h)).trans hcell
     refine .held follows false (fun W'=>W'.cell? (ad.add (0*1))=some (.int .i64 (d:Nat))) [some _,some _,some _,some vb,some (.pointer (some (ad.add (0*1)))),some (.int .i64 (d:Nat)),some (.int .i64 ((y / d:Nat):Int)),some _,some vb,some (.pointer (some (ad.add (0*1)))),some (.int .i64 (d:Nat)),some (.int .i64 ((y % d:Nat):Int)),none,none,none] (by kernel_rfl) ⟨
      fun _ _=>v_mv rfl,fun _ _=>v_mv rfl,fun _ _=>v_mv rfl,fun _ _=>v_mv rfl,
      fun _ _=>Au6 (i:=0) un_H A5 (by rw [←hvbs];rfl) rfl (by omega),fun _ h=>Au4 A5 rfl h,fun _ _=>(AW7 rfl rfl (by omega)).eq (by rw [N1,wI (by have h0:(0:Int)≤((y / d:Nat):Int):=Int.natCast_nonneg _;omega)]),
      fun _ _=>v_mv rfl,fun _ _=>v_mv rfl,
      fun _ _=>Au6 (i:=0) un_H A5 (by rw [←hvbs];rfl) rfl (by omega),fun _ h=>Au4 A5 rfl h,fun _ _=>(AW6 rfl rfl (by omega)).eq (by rw [N0]),trivial⟩ ?_
     intro W1 e1 hh1
     have hB1:Below w.heap.size w W1:=hB.trans (e1.mono hsz)
     have hI1:=hkeep (W':=W1) (by rw [hh1])
     refine .gv hI1 rfl (H9 (i:=i) un_H A5 rfl rfl (by omega)).gv ?_
     rintro _ W1' ⟨rfl,hW1'⟩
     have hW1':=hW1'.symm
     subst hW1'
     refine .gv hI1 rfl (AA5 (E:=eH) (i:=i) (z:=y / d) (by decide) A5 rfl rfl (hF.ext e1) rfl (by omega) (Nat.zero_add _) ⟨rfl,hyq⟩) ?_
     rintro _ W2 ⟨hF2,u2⟩
     have hI2:=hkeep (W':=W2) (by rw [u2.block ad.block (by have:=hadS.2;omega),hh1])
     refine .gv hI2 rfl (v_as rfl).gv ?_
     rintro _ W2' ⟨rfl,hW2'⟩
     have hW2':=hW2'.symm
     subst hW2'
     refine .nil (.inr hI2) ?_
     refine .region (.mv rfl rfl (.sub rfl rfl rfl (.asg rfl rfl (.nil ?_))))
     rw [wI (by omega)]
     refine ⟨rfl,(i,l.set i (y / d),y % d),lkA rfl,⟨u2.below hB1 (by omega),by show i≤a.length;omega,hF2,by show (l.set i _).length=_;simpa using hl,?_,hst.2.symm⟩,by show i<i+1;omega⟩
     show valH ((l.set i (y / d)).drop i)=valH (a.drop i) / d
     rw [AH7 (by omega),hst.1]
  ·rintro ⟨l,r⟩ W ⟨hB,hF,hl,hq,hr⟩
   replace hF:FB eH 3 S W g l:=hF
   replace hl:l.length=a.length:=hl
   replace hq:valH l=m / d:=hq
   replace hr:r=m % d:=hr
   have hrd:r<d:=by rw [hr];exact Nat.mod_lt _ (by omega)
   refine .seq (.region (.mv rfl rfl ?_))
   refine .call _ rfl F6 rfl (F3 (hout hF hl)) fun v2 W2 e2 h2=>.mv rfl rfl (.bsl _ rfl rfl AQ0 fun W3 b3 n3=>?_)
   have hB2:Below w.heap.size w W2:=hB.trans (e2.mono hB.size)
   rw [trimH (Ax1 hF),hq] at h2
   have hdr:digH [r]:=by intro x hx;simp at hx;omega
   have ho3:OwnH 3 W2.heap.size W3 (.slice (some ⟨b3,0,none⟩) 1 1) [r]:=OwnH.lit (l:=[r]) n3 (Nat.le_refl _) hdr (by simp)
   refine .call _ rfl F6 rfl (F3 (S:=S) (ho3.toR (fun k hk=>up k (by have:=hB2.size;omega)))) fun v4 W4 e4 h4=>.asg rfl rfl (.asg rfl rfl (.nil (.ret ?_)))
   rw [trimH hdr,show valH [r]=m % d by simp [valH,hr]] at h4
   have e24:=n3.1.trans e4
   exact .plain [_,_] Tryz.results260 ⟨rfl,rfl,trivial⟩ ⟨hB2.trans (e24.mono hB2.size),v2,v4,rfl,ER.ext eHs h2 e24,h4⟩
 ·refine .eqlF rfl rfl rfl (by omega) (.nil (.condF rfl (.skip (.seq (.region (.asg rfl rfl (.nil ?_)))))))
  have hb2:2≤b.length:=by omega
  refine .mid (α:=List Nat×Value) (fun p=>[(6,.slice (some ⟨g,0,none⟩) a.length a.length),(9,p.2)]) (fun p W=>Below w.heap.size w W∧FB eH 3 S W g p.1∧p.1.length=a.length∧valH p.1=m / d∧eHs.R (fun k=>S k∧k≠g) W p.2 (hds (m % d))) ?_ ?_
  ·refine .seq (.region (.mv rfl rfl (.lenR un_H rfl rfl (hA e1) (.sub rfl rfl rfl (.asg rfl rfl (.nil ?_))))))
   rw [wI (by omega)]
   refine .block (.loop (α:=Nat×List Nat×Value) (fun x=>[(0,va),(1,vb),(6,.slice (some ⟨g,0,none⟩) a.length a.length),(9,x.2.2),(10,.int .i64 ((x.1:Nat)-1:Int))])
    (fun x W=>Below w.heap.size w W∧x.1≤a.length∧FB eH 3 S W g x.2.1∧x.2.1.length=a.length∧valH (x.2.1.drop x.1)=valH (a.drop x.1) / d∧eHs.R (fun k=>S k∧k≠g) W x.2.2 (hds (valH (a.drop x.1) % d))) (fun x=>x.1) (a.length,List.replicate a.length 0,.slice none 0 0) ?_ ?_ ?_)
   ·exact lkA rfl
   ·refine ⟨e1,Nat.le_refl _,f1,by simp,?_,?_⟩
    ·show valH ((List.replicate a.length 0).drop a.length)=_
     rw [List.drop_eq_nil_of_le (by simp),List.drop_eq_nil_of_le (Nat.le_refl _)];simp [valH]
    ·show eHs.R _ _ _ (hds (valH (a.drop a.length) % d))
     rw [List.drop_eq_nil_of_le (Nat.le_refl _),valH,Nat.zero_mod,L2];exact RL.nil
   ·rintro ⟨j,l,u⟩ W ⟨hB,hj,hF,hl,hq,hu⟩
    replace hB:Below w.heap.size w W:=hB
    replace hj:j≤a.length:=hj
    replace hF:FB eH 3 S W g l:=hF
    replace hl:l.length=a.length:=hl
    replace hq:valH (l.drop j)=valH (a.drop j) / d:=hq
    replace hu:eHs.R (fun k=>S k∧k≠g) W u (hds (valH (a.drop j) % d)):=hu
    refine .weak [(0,va),(1,vb),(6,.slice (some ⟨g,0,none⟩) a.length a.length),(9,u),(10,.int .i64 ((j:Nat)-1:Int))] (fun t v h=>h) ?_
    have hsz:=hB.size
    have hgl:=hF.lt
    refine .seq (.seq (.region (.mv rfl rfl ?_)))
    cases j with
    | zero =>
     refine .geqF rfl rfl rfl (by simp) (.nil (.condF rfl (.exit ?_)))
     rw [List.drop_zero,List.drop_zero,hva] at hq
     rw [List.drop_zero,hva] at hu
     exact ⟨rfl,(l,u),lkA rfl,hB,hF,hl,hq,hu⟩
    | succ i =>
     rw [show (((i+1:Nat):Int)-1)=(i:Int) by omega]
     have hx:=M6 hda i
     have hget:=C0 (l:=a) (k:=i) (by omega)
     have hdr:=AA0 (l:=a) (k:=i) (by omega)
     have hst:=An2 (D:=valH (a.drop (i+1))) (x:=a.getD i 0) (by omega:0<d) hq rfl
     rw [←hdr] at hst
     generalize a.getD i 0=x at *
     have hR:valH (a.drop (i+1)) % d<d:=Nat.mod_lt _ (by omega)
     generalize hRR:valH (a.drop (i+1)) % d=R at *
     have hRl:(hds R).length≤b.length:=M2 (Nat.lt_trans hR hblt)
     have upT:∀ {W':World},Below w.heap.size w W'→g<W'.heap.size→Up (fun k=>S k∧k≠g) W':=fun hB' hg' k hk=>⟨up k (by have:=hB'.size;omega),by omega⟩
     refine .geqT rfl rfl rfl (by omega) (.nil (.condT rfl (.skip (.seq (.block (.seq (.region (.mv rfl rfl (.mv rfl rfl ?_)))))))))
     refine .ixN (i:=i) un_H A5 rfl rfl (hA hB) rfl hget fun p hp=>.ldE A5 rfl rfl hp fun e he=>?_
     obtain ⟨rfl,_⟩:=he
     refine .bsl _ rfl rfl AQ0 fun W1 b1 n1=>.mv rfl rfl ?_
     have ho1:OwnH 3 W.heap.size W1 (.slice (some ⟨b1,0,none⟩) 1 1) [x]:=OwnH.lit (l:=[x]) n1 (Nat.le_refl _) (by intro y hy;simp at hy;omega) (by simp)
     refine .gv rfl rfl (g_appHs (base:=W.heap.size) un_H AA4 rfl rfl ho1 (hu.ext n1.1) (by simp) (by omega) n1.1.size) ?_
     rintro v2 W2 ⟨ho2,hB2⟩
     have e2:Ext W W2:=Below.trans n1.1 hB2
     have hs2:=e2.size
     have hu2:eHs.R (fun k=>S k∧k≠g) W2 v2 ([x]++hds R):=ho2.toR (fun k hk=>⟨up k (by omega),by omega⟩)
     refine .call _ rfl F6 rfl (F3 hu2) fun v3 W3 e3 h3=>.asg rfl rfl (.nil (.seq (.region (.asg rfl rfl (.asg rfl rfl (.nil ?_))))))
     have hv3:valH ([x]++hds R)=x+65536*R:=by show valH (x::hds R)=_;rw [valH,D6]
     rw [trimH (U7 hu2),hv3] at h3
     have e23:=e2.trans e3
     have hs3:=e23.size
     have hB3:Below w.heap.size w W3:=hB.trans (e23.mono hsz)
     generalize hy:x+65536*R=y at *
     have hyd:y<65536*d:=by
      have:65536*(R+1)≤65536*d:=Nat.mul_le_mul_left _ hR
      omega
     have hylen:(hds y).length≤b.length+1:=M2 (by rw [Nat.pow_succ];omega)
     refine .mid (α:=Nat) (fun hi=>[(0,va),(1,vb),(6,.slice (some ⟨g,0,none⟩) a.length a.length),(9,v3),(10,.int .i64 (i:Nat)),(11,.int .i64 0),(12,.int .i64 (hi:Nat))]) (fun hi W'=>W'=W3∧1≤hi∧hi≤65536∧y<hi*d) ?_ ?_
     ·refine .seq (.region (.mv rfl rfl (.lenR un_H rfl rfl h3 (.mv rfl rfl (.lenR un_H rfl rfl (hBb hB3) ?_)))))
      by_cases hll:(hds y).length<b.length
      ·refine .lssT rfl rfl rfl (by omega) (.nil (.condT rfl (.region (.asg rfl rfl (.nil ?_)))))
       refine ⟨rfl,1,lkA rfl,rfl,Nat.le_refl _,by omega,?_⟩
       have h1:=AX8 y
       have h2:65536 ^ (hds y).length≤65536 ^ (b.length-1):=Nat.pow_le_pow_right (by omega) (by omega)
       omega
      ·refine .lssF rfl rfl rfl (by omega) (.nil (.condF rfl (.skip ?_)))
       exact ⟨rfl,65536,lkA rfl,rfl,by omega,Nat.le_refl _,hyd⟩
     ·rintro hi0 W3' ⟨hW3',hi1,hi2,hyhi⟩
      have hW3':=hW3'.symm
      subst hW3'
      refine .mid (α:=Nat) (fun lo=>[(0,va),(1,vb),(6,.slice (some ⟨g,0,none⟩) a.length a.length),(9,v3),(10,.int .i64 (i:Nat)),(11,.int .i64 (lo:Nat))]) (fun lo W'=>Ext W3 W'∧lo<65536∧lo=y / d) ?_ ?_
      ·refine .block (.loop (α:=Nat×Nat) (fun z=>[(0,va),(1,vb),(6,.slice (some ⟨g,0,none⟩) a.length a.length),(9,v3),(10,.int .i64 (i:Nat)),(11,.int .i64 (z.1:Nat)),(12,.int .i64 (z.2:Nat))]) (fun z W'=>Ext W3 W'∧z.1<z.2∧z.2≤65536∧z.1*d≤y∧y<z.2*d) (fun z=>z.2-z.1) (0,hi0) ?_ ?_ ?_)
       ·exact lkA rfl
       ·exact ⟨.refl _,hi1,hi2,by show 0*d≤y;omega,hyhi⟩
       ·rintro ⟨lo,hi⟩ W4 ⟨e4,hlh,hh,hlo,hhi⟩
        replace e4:Ext W3 W4:=e4
        replace hlh:lo<hi:=hlh
        replace hh:hi≤65536:=hh
        replace hlo:lo*d≤y:=hlo
        replace hhi:y<hi*d:=hhi
        refine .weak [(0,va),(1,vb),(6,.slice (some ⟨g,0,none⟩) a.length a.length),(9,v3),(10,.int .i64 (i:Nat)),(11,.int .i64 (lo:Nat)),(12,.int .i64 (hi:Nat))] (fun t v h=>h) ?_
        have hB4:Below w.heap.size w W4:=hB3.trans (e4.mono hB3.size)
        have hs4:=e4.size
        refine .seq (.seq (.region (.mv rfl rfl (.mv rfl rfl (.sub rfl rfl rfl ?_)))))
        rw [wI (by omega)]
        by_cases hgo:lo+1<hi
        ·refine .gtrT rfl rfl rfl (by omega) (.nil (.condT rfl (.skip (.block (.seq (.region (.mv rfl rfl (.mv rfl rfl (.add rfl rfl rfl (.quo rfl rfl rfl (by decide) (.asg rfl rfl (.nil ?_))))))))))))
         rw [wI (n:=(lo:Int)+(hi:Int)) (by omega),show ((lo:Int)+(hi:Int)).tdiv 2=(((lo+hi) / 2:Nat):Int) by rw [←Int.natCast_add];exact N1 (lo+hi) 2,wI (by omega)]
         generalize hmid:(lo+hi) / 2=mid at *
         refine .seq (.region (.mv rfl rfl (.mv rfl rfl ?_)))
         have hbT:eHs.R (fun k=>S k∧k≠g) W4 vb b:=eHs.mono (fun k _ hk=>⟨hk.1,by have:=hk.2;omega⟩) (hBb hB4)
         refine .call _ rfl AI4 rfl (AH9 (upT hB4 (by omega)) hbT (by omega) (show mid≤65536 by omega)) fun v5 W5 e5 h5=>.mv rfl rfl ?_
         rw [hvb] at h5
         have hml:(hds (d*mid)).length≤b.length+1:=M2 (by
          rw [Nat.pow_succ]
          have:d*mid≤d*65536:=Nat.mul_le_mul_left _ (by omega)
          omega)
         refine .call _ rfl AS7 rfl (AR4 h5 ((h3.ext e4).ext e5) (by omega) (by omega)) fun v6 W6 e6 h6=>?_
         subst h6
         rw [D6,D6,Nat.mul_comm d mid]
         have e46:=(e4.trans e5).trans e6
         by_cases hc:mid*d≤y
         ·refine .leqT rfl rfl rfl (by unfold cmpN;split<;>(try split)<;>omega) (.nil (.condT rfl (.region (.mv rfl rfl (.asg rfl rfl (.nil ?_))))))
          exact ⟨rfl,(mid,hi),lkA rfl,⟨e46,by show mid<hi;omega,hh,hc,hhi⟩,by show hi-mid<hi-lo;omega⟩
         ·refine .leqF rfl rfl rfl (by unfold cmpN;rw [if_neg (by omega),if_pos (by omega)];decide) (.nil (.condF rfl (.region (.mv rfl rfl (.asg rfl rfl (.nil ?_))))))
          exact ⟨rfl,(lo,mid),lkA rfl,⟨e46,by show lo<mid;omega,by show mid≤65536;omega,hlo,by show y<mid*d;omega⟩,by show mid-lo<hi-lo;omega⟩
        ·refine .gtrF rfl rfl rfl (by omega) (.nil (.condF rfl (.exit ?_)))
         refine ⟨rfl,lo,lkA rfl,e4,by show lo<65536;omega,?_⟩
         have h1:hi=lo+1:=by omega
         rw [h1] at hhi
         symm
         exact (Nat.div_eq_iff (by omega)).2 ⟨by omega,by rw [Nat.add_mul] at hhi;omega⟩
      ·rintro lo W4 ⟨e4,hlo,hlod⟩
       have hB4:Below w.heap.size w W4:=hB3.trans (e4.mono hB3.size)
       have hs4:=e4.size
       have hbT:eHs.R (fun k=>S k∧k≠g) W4 vb b:=eHs.mono (fun k _ hk=>⟨hk.1,by have:=hk.2;omega⟩) (hBb hB4)
       refine .region (.mv rfl rfl (.mv rfl rfl (.mv rfl rfl (.mv rfl rfl (.mv rfl rfl (.mv rfl rfl ?_))))))
       refine .call _ rfl AI4 rfl (AH9 (upT hB4 (by omega)) hbT (by omega) (show lo≤65536 by omega)) fun v5 W5 e5 h5=>?_
       rw [hvb] at h5
       have e45:=e4.trans e5
       have hB5:Below w.heap.size w W5:=hB3.trans (e45.mono hB3.size)
       have hs5:=e5.size
       have hdl:d*lo≤y:=by rw [hlod];exact Nat.mul_div_le y d
       refine .call _ rfl AS5 rfl (AR2 (upT hB5 (by omega)) (h3.ext e45) h5 (by omega) (by rw [D6,D6];exact hdl)) fun v6 W6 e6 h6=>?_
       rw [D6,D6] at h6
       have hmod:y-d*lo=y % d:=by rw [hlod];have:=Nat.div_add_mod y d;omega
       rw [hmod] at h6
       have e36:=e45.trans e6
       have hB6:Below w.heap.size w W6:=hB3.trans (e36.mono hB3.size)
       have eW6:=e23.trans e36
       refine .ixB (i:=i) un_H A5 rfl rfl rfl (by omega) ?_
       refine .storeF (E:=eH) (i:=i) (z:=lo) (by decide) A5 rfl rfl (hF.ext eW6) rfl (by omega) (Nat.zero_add _) ⟨rfl,hlo⟩ fun W7 hF7 u7=>.asg rfl rfl (.nil ?_)
       refine .region (.mv rfl rfl (.sub rfl rfl rfl (.asg rfl rfl (.nil ?_))))
       rw [wI (by omega)]
       refine ⟨rfl,(i,l.set i lo,v6),lkA rfl,⟨u7.below hB6 (by omega),by show i≤a.length;omega,hF7,by show (l.set i _).length=_;simpa using hl,?_,?_⟩,by show i<i+1;omega⟩
       ·show valH ((l.set i lo).drop i)=valH (a.drop i) / d
        rw [AH7 (by omega),hst.1,hlod]
       ·show eHs.R _ W7 v6 (hds (valH (a.drop i) % d))
        rw [hst.2]
        exact ER.upd eHs h6 u7 (fun h=>h.2 rfl)
  ·rintro ⟨l,u⟩ W ⟨hB,hF,hl,hq,hu⟩
   replace hF:FB eH 3 S W g l:=hF
   replace hl:l.length=a.length:=hl
   replace hq:valH l=m / d:=hq
   replace hu:eHs.R (fun k=>S k∧k≠g) W u (hds (m % d)):=hu
   refine .seq (.region (.mv rfl rfl ?_))
   refine .call _ rfl F6 rfl (F3 (hout hF hl)) fun v2 W2 e2 h2=>.mv rfl rfl (.asg rfl rfl (.asg rfl rfl (.nil (.ret ?_))))
   rw [trimH (Ax1 hF),hq] at h2
   exact .plain [_,_] Tryz.results260 ⟨rfl,rfl,trivial⟩ ⟨hB.trans (e2.mono hB.size),v2,u,rfl,h2,eHs.mono (fun k _ hk=>hk.1) (ER.ext eHs hu e2)⟩
end Go.Proofs.YtfilidfomgfnhaaGreat

namespace Go.Kx
theorem sg_neg (n:Bool) (v:Nat):sg (!n) v = -(sg n v):=by cases n<;>simp [sg]
theorem AS1 {A B K:Nat} (h1:(hds A).length≤K) (h2:(hds B).length≤K):(hds (A+B)).length≤K+1:=by
 have a1:=AX8 A
 have a2:=AX8 B
 have b1:65536 ^ (hds A).length≤65536 ^ K:=Nat.pow_le_pow_right (by omega) h1
 have b2:65536 ^ (hds B).length≤65536 ^ K:=Nat.pow_le_pow_right (by omega) h2
 exact M2 (by rw [Nat.pow_succ];omega)
theorem sign_sg {n:Bool} {v:Nat} (h:v≠0):(sg n v).sign=if n then -1 else 1:=by
 cases n
 ·simp only [sg,Bool.false_eq_true,if_false];rw [Int.sign_eq_one_of_pos (by omega)]
 ·simp only [sg,if_true];rw [Int.sign_eq_neg_one_of_neg (by omega)]
theorem AB1 (z:ZV):zval z=sg z.neg (val z.w):=rfl
theorem Ar8 {l:List Nat} {L:Nat} (h:l.length≤L):(hds (val l)).length≤2*L∨¬ dig l:=by
 by_cases hd:dig l
 ·left
  have h1:=AB6 (AZ3 hd)
  rw [AW3,AJ9] at h1
  have:=M2 h1
  omega
 ·exact .inr hd
end Go.Kx
namespace Go.Proofs.YtfilidfomgfnhaaGreat
open Go Go.Kx Go.RowKit
/-- the digits of an integer's words -/
theorem J6 {S:Nat→Prop} {w:World} {v:Value} {l:List Nat} (up:Up S w) (h:eW.R S w v l) (hl:l.length≤1000000000):CR Tryz.prog 218 #[v] w (eHs.at S (hds (val l))):=by
 have:=AE2 up h (by omega)
 rwa [trimH (AZ3 (E1 h)),AW3] at this
theorem AE6 {S:Nat→Prop} {w:World} {v:Value} {l:List Nat} (h:eW.R S w v l) (hl:l.length≤1000000000):(hds (val l)).length≤2000000000:=by
 rcases Ar8 hl with h' | h'
 ·exact h'
 ·exact absurd (E1 h) h'
theorem K1:Ent Tryz.prog 166:=A0 Tryz.func166 (by kernel_rfl) rfl
theorem J7 {S:Nat→Prop} {w:World} {v:Value} {a:ZV} (up:Up S w) (h:eZ.R S w v a) (hl:a.w.length≤1000000000):CR Tryz.prog 166 #[v] w (Is (.int .i64 (zval a).sign)):=by
 obtain ⟨s,rfl,hs⟩:=h
 refine enter Tryz.func166 rfl Tryz.ntmps166 rfl ?_
 refine .seq (.region (.box rfl rfl fun w1 b1 n1=>.asg rfl rfl (.nil ?_)))
 obtain ⟨e1,k1,hb1,hs1⟩:=n1
 refine .seq (.seq (.region (.fa D0 rfl rfl (.ld ty_W rfl rfl k1 rfl ?_))))
 refine .call _ rfl D9 rfl (J6 (up.ext e1.size) (hs.ext e1) hl) fun v2 w2 e2 h2=>.lenR un_H rfl rfl h2 ?_
 have x2:=e1.trans e2
 by_cases h0:val a.w=0
 ·rw [h0,L2]
  refine .eqlT rfl rfl rfl rfl (.nil (.condT rfl (.seq (.region (.asg rfl rfl (.nil (.ret ?_)))))))
  refine .plain [_] Tryz.results166 ⟨rfl,trivial⟩ ⟨x2,isI ?_⟩
  rw [AB1,h0];cases a.neg<;>rfl
 ·have hne:(hds (val a.w)).length≠0:=fun e=>h0 (P2.1 (List.length_eq_zero_iff.1 e))
  refine .eqlF rfl rfl rfl (by omega) (.nil (.condF rfl (.skip ?_)))
  refine .seq (.seq (.region (.fa H5 rfl rfl (.ld E9 rfl rfl (k1.ext e2) rfl (.nil ?_)))))
  have hz:(zval a).sign=if a.neg then -1 else 1:=by rw [AB1];exact sign_sg h0
  cases hn:a.neg with
  | true =>
   rw [hn] at hz
   refine .condT rfl (.seq (.region (.asg rfl rfl (.nil (.ret ?_)))))
   exact .plain [_] Tryz.results166 ⟨rfl,trivial⟩ ⟨x2,isI (by rw [hz];rfl)⟩
  | false =>
   rw [hn] at hz
   refine .condF rfl (.skip (.seq (.region (.asg rfl rfl (.nil (.ret ?_))))))
   exact .plain [_] Tryz.results166 ⟨rfl,trivial⟩ ⟨x2,isI (by rw [hz];rfl)⟩
theorem Ap2:Ent Tryz.prog 219:=A0 Tryz.func219 (by kernel_rfl) rfl
theorem Al8 {S:Nat→Prop} {w:World} {v:Value} {a:ZV} (up:Up S w) (h:eZ.R S w v a) (hl:a.w.length≤1000000000):CR Tryz.prog 219 #[v] w (eZ.at S (zc (-zval a))):=by
 obtain ⟨s,rfl,hs⟩:=h
 refine enter Tryz.func219 rfl Tryz.ntmps219 rfl ?_
 refine .seq (.region (.box rfl rfl fun w1 b1 n1=>.alloc rfl B9 fun w2 b2 n2=>.nil ?_))
 obtain ⟨e1,k1,hb1,hs1⟩:=n1
 obtain ⟨e2,k2,hb2,hs2⟩:=n2
 have x2:=e1.trans e2
 have k1:=k1.ext e2
 have hS2:¬ Sx S w.heap.size w2.heap.size b2:=Sx.no (by omega) (by omega)
 have up2:Up (Sx S w.heap.size w2.heap.size) w2:=Sx.up up (Nat.le_refl _) x2.size
 have hs2':=(ER.par eW hs w2.heap.size).ext x2
 refine .seq ?_
 refine .par follows 6 [.inl _,.inl (.bool a.neg),.inl _,.inl _,.inl s,.inr (eHs.at (Sx S w.heap.size w2.heap.size) (hds (val a.w)))] [[],[(3,0)],[(4,1)],[],[(6,3)],[(7,4)]] (by kernel_rfl) ⟨
  fun w e=>(v_fa H5 rfl).ob,fun w e=>(v_ld E9 rfl (k1.ext e) rfl).ob,fun w e=>(AW8 rfl).ob,fun w e=>(v_fa D0 rfl).ob,fun w e=>(v_ld ty_W rfl (k1.ext e) rfl).ob,
  fun w e=>(A1 _ D9 rfl (J6 (up2.ext e.size) (hs2'.ext e) hl)).ob (A6 _ _ _),trivial⟩ ?_
 intro w3 e3 x5 hx5
 have hlen:=AE6 hs hl
 refine .call _ rfl P9 rfl (P1 (up2.ext e3.size) hx5 (by omega)) fun v4 w4 e4 h4=>?_
 rw [D6,sg_neg,←AB1] at h4
 refine .storeA (E:=eZ) ty_Z rfl rfl ((k2.ext e3).ext e4) rfl rfl h4 hS2 fun w5 k5 u5 h5=>.nil (.ret ?_)
 exact .cell Tryz.results219 rfl ty_Z rfl rfl k5 h5 ⟨u5.below ((x2.trans e3).trans e4) (by omega),h5.out⟩
theorem Ap5:Ent Tryz.prog 221:=A0 Tryz.func221 (by kernel_rfl) rfl
theorem Am1 {S:Nat→Prop} {w:World} {v:Value} {a:ZV} (up:Up S w) (h:eZ.R S w v a) (hl:a.w.length≤1000000000):CR Tryz.prog 221 #[v] w (eZ.at S (zc (val a.w))):=by
 obtain ⟨s,rfl,hs⟩:=h
 refine enter Tryz.func221 rfl Tryz.ntmps221 rfl ?_
 refine .seq (.region (.box rfl rfl fun w1 b1 n1=>.alloc rfl B9 fun w2 b2 n2=>.nil ?_))
 obtain ⟨e1,k1,hb1,hs1⟩:=n1
 obtain ⟨e2,k2,hb2,hs2⟩:=n2
 have x2:=e1.trans e2
 have k1:=k1.ext e2
 have hS2:¬ Sx S w.heap.size w2.heap.size b2:=Sx.no (by omega) (by omega)
 have up2:Up (Sx S w.heap.size w2.heap.size) w2:=Sx.up up (Nat.le_refl _) x2.size
 have hs2':=(ER.par eW hs w2.heap.size).ext x2
 refine .seq (.region (.fa D0 rfl rfl (.ld ty_W rfl rfl k1 rfl ?_)))
 refine .call _ rfl D9 rfl (J6 up2 hs2' hl) fun v3 w3 e3 h3=>?_
 have hlen:=AE6 hs hl
 refine .call _ rfl P9 rfl (P1 (up2.ext e3.size) h3 (by omega)) fun v4 w4 e4 h4=>?_
 rw [D6] at h4
 refine .storeA (E:=eZ) ty_Z rfl rfl ((k2.ext e3).ext e4) rfl rfl h4 hS2 fun w5 k5 u5 h5=>.nil (.ret ?_)
 exact .cell Tryz.results221 rfl ty_Z rfl rfl k5 h5 ⟨u5.below ((x2.trans e3).trans e4) (by omega),h5.out⟩
end Go.Proofs.YtfilidfomgfnhaaGreat

namespace Go.Kx
theorem BG1 (a b:Nat):Nat.gcd b (a % b)=Nat.gcd a b:=by rw [Nat.gcd_comm b (a % b),←Nat.gcd_rec,Nat.gcd_comm]
theorem BA2 {a b:ZV} (hs:(zval a).sign=(zval b).sign):cmpI (zval a) (zval b)=if (zval a).sign<0 then 0-cmpN (val a.w) (val b.w) else cmpN (val a.w) (val b.w):=by
 have h1:=J3 a
 have h2:=J3 b
 generalize zval a=x at *
 generalize zval b=y at *
 rw [←h1,←h2]
 rcases Int.lt_trichotomy x 0 with h | h | h
 ·have e:=Int.sign_eq_neg_one_of_neg h
  rw [e] at hs ⊢
  have hy:y<0:=Int.sign_eq_neg_one_iff_neg.1 hs.symm
  rw [if_pos (by decide)]
  unfold cmpI cmpN
  split<;>split<;>(try split)<;>(try split)<;>omega
 ·subst h
  rw [Int.sign_zero] at hs ⊢
  have hy:y=0:=Int.sign_eq_zero_iff_zero.1 hs.symm
  subst hy
  decide
 ·have e:=Int.sign_eq_one_of_pos h
  rw [e] at hs ⊢
  have hy:0<y:=Int.sign_eq_one_iff_pos.1 hs.symm
  rw [if_neg (by decide)]
  unfold cmpI cmpN
  split<;>split<;>(try split)<;>(try split)<;>omega
theorem cmpI_ne {x y:Int} (hs:x.sign≠y.sign):cmpI x y=if x.sign<y.sign then -1 else 1:=by
 have hx:=Int.lt_trichotomy x 0
 have hy:=Int.lt_trichotomy y 0
 unfold cmpI
 rcases hx with h | h | h<;>rcases hy with h' | h' | h'<;>first
  | (rw [Int.sign_eq_neg_one_of_neg h,Int.sign_eq_neg_one_of_neg h'] at hs;exact absurd rfl hs)
  | (rw [Int.sign_eq_one_of_pos h,Int.sign_eq_one_of_pos h'] at hs;exact absurd rfl hs)
  | (rw [h,h'] at hs;exact absurd rfl hs)
  | (simp only [h,h',Int.sign_eq_neg_one_of_neg,Int.sign_eq_one_of_pos,Int.sign_zero];(try split)<;>(try split)<;>(try simp_all)<;>omega)
end Go.Kx
namespace Go.Proofs.YtfilidfomgfnhaaGreat
open Go Go.Kx Go.RowKit
theorem Ap3:Ent Tryz.prog 222:=A0 Tryz.func222 (by kernel_rfl) rfl
theorem Al9 {S:Nat→Prop} {w:World} {va vb:Value} {a b:ZV} (up:Up S w) (ha:eZ.R S w va a) (hb:eZ.R S w vb b) (hla:a.w.length≤1000000000) (hlb:b.w.length≤1000000000):CR Tryz.prog 222 #[va,vb] w (eZ.at S (zc (Nat.gcd (val a.w) (val b.w):Nat))):=by
 obtain ⟨s,rfl,hs⟩:=ha
 obtain ⟨t,rfl,ht⟩:=hb
 refine enter Tryz.func222 rfl Tryz.ntmps222 rfl ?_
 refine .seq (.region (.box rfl rfl fun w1 b2 n1=>.box rfl rfl fun w2 b3 n2=>.alloc rfl B9 fun w3 b4 n3=>.nil ?_))
 obtain ⟨e1,k2,hb2,hs1⟩:=n1
 obtain ⟨e2,k3,hb3,hs2⟩:=n2
 obtain ⟨e3,k4,hb4,hs3⟩:=n3
 have x3:=(e1.trans e2).trans e3
 have k2:=(k2.ext e2).ext e3
 have k3:=k3.ext e3
 have hS4:¬ Sx S w.heap.size w3.heap.size b4:=Sx.no (by omega) (by omega)
 have up3:Up (Sx S w.heap.size w3.heap.size) w3:=Sx.up up (Nat.le_refl _) x3.size
 have hs':=(ER.par eW hs w3.heap.size).ext x3
 have ht':=(ER.par eW ht w3.heap.size).ext x3
 have l1:=AE6 hs hla
 have l2:=AE6 ht hlb
 have hout:∀ {W:World} {v:Value} {z:ZV},eZ.R (Sx S w.heap.size w3.heap.size) W v z→eZ.R S W v z:=fun h=>h.out
 generalize hT:Sx S w.heap.size w3.heap.size=T at *
 refine .seq ?_
 refine .par follows 6 [.inl _,.inl s,.inr (eHs.at T (hds (val a.w))),.inl _,.inl t,.inr (eHs.at T (hds (val b.w)))] [[],[(9,0)],[(10,1)],[],[(12,3)],[(13,4)]] (by kernel_rfl) ⟨
  fun w e=>(v_fa D0 rfl).ob,fun w e=>(v_ld ty_W rfl (k2.ext e) rfl).ob,fun w e=>(A1 _ D9 rfl (J6 (up3.ext e.size) (hs'.ext e) hla)).ob (A6 _ _ _),
  fun w e=>(v_fa D0 rfl).ob,fun w e=>(v_ld ty_W rfl (k3.ext e) rfl).ob,fun w e=>(A1 _ D9 rfl (J6 (up3.ext e.size) (ht'.ext e) hlb)).ob (A6 _ _ _),trivial⟩ ?_
 intro w4 e4 x hx y hy
 refine .asg rfl rfl (.asg rfl rfl (.nil ?_))
 generalize val a.w=A at *
 generalize val b.w=B at *
 refine .mid (α:=Value) (fun p=>[(4,.pointer (some ⟨b4,0,none⟩)),(5,p)]) (fun p W=>Ext w4 W∧eHs.R T W p (hds (Nat.gcd A B))) ?_ ?_
 ·refine .block (.loop (α:=(Nat×Nat)×Value×Value) (fun p=>[(4,.pointer (some ⟨b4,0,none⟩)),(5,p.2.1),(6,p.2.2)])
   (fun p W=>Ext w4 W∧eHs.R T W p.2.1 (hds p.1.1)∧eHs.R T W p.2.2 (hds p.1.2)∧(hds p.1.1).length≤2000000000∧(hds p.1.2).length≤2000000000∧Nat.gcd p.1.1 p.1.2=Nat.gcd A B) (fun p=>p.1.2) ((A,B),x,y) ?_ ?_ ?_)
  ·exact lkA rfl
  ·exact ⟨.refl _,hx,hy,l1,l2,rfl⟩
  ·rintro ⟨⟨m,n⟩,u,v⟩ W ⟨hW,hu,hv,hm,hn,hg⟩
   replace hW:Ext w4 W:=hW
   replace hu:eHs.R T W u (hds m):=hu
   replace hv:eHs.R T W v (hds n):=hv
   replace hm:(hds m).length≤2000000000:=hm
   replace hn:(hds n).length≤2000000000:=hn
   replace hg:Nat.gcd m n=Nat.gcd A B:=hg
   refine .weak [(4,.pointer (some ⟨b4,0,none⟩)),(5,u),(6,v)] (fun t v h=>h) ?_
   refine .seq (.seq (.region (.mv rfl rfl (.lenR un_H rfl rfl hv ?_))))
   by_cases h0:n=0
   ·subst h0
    rw [L2]
    refine .gtrF rfl rfl rfl (by simp) (.nil (.condF rfl (.exit ?_)))
    rw [Nat.gcd_zero_right] at hg
    exact ⟨rfl,u,lkA rfl,hW,hg▸hu⟩
   ·have hne:(hds n).length≠0:=fun e=>h0 (P2.1 (List.length_eq_zero_iff.1 e))
    refine .gtrT rfl rfl rfl (by omega) (.nil (.condT rfl (.skip (.block (.seq (.region (.mv rfl rfl (.mv rfl rfl ?_))))))))
    refine .call _ rfl AS6 rfl (AR3 ((up3.ext e4.size).ext hW.size) hu hv (by omega) (by omega) h0) fun z W2 f2 h2=>?_
    obtain ⟨vq,vr,rfl,hq,hr⟩:=h2
    refine .mv rfl rfl (.ext rfl rfl rfl (.ext rfl rfl rfl (.asg rfl rfl (.asg rfl rfl (.nil ?_)))))
    refine .region (.mv rfl rfl (.mv rfl rfl (.asg rfl rfl (.asg rfl rfl (.nil ?_)))))
    have hlt:m % n<n:=Nat.mod_lt _ (by omega)
    exact ⟨rfl,((n,m % n),v,vr),lkA rfl,⟨hW.trans f2,ER.ext eHs hv f2,hr,hn,Nat.le_trans (N9 (Nat.le_of_lt hlt)) hn,(BG1 m n).trans hg⟩,hlt⟩
 ·rintro u W ⟨hW,hu⟩
  have e5:=e4.trans hW
  have lg:(hds (Nat.gcd A B)).length≤2000000001:=by
   have h1:Nat.gcd A B≤A+B:=by
    rcases Nat.eq_zero_or_pos A with h | h
    ·subst h;rw [Nat.gcd_zero_left];omega
    ·have:=Nat.gcd_le_left B h;omega
   exact Nat.le_trans (N9 h1) (AS1 l1 l2)
  refine .seq (.region (.mv rfl rfl ?_))
  refine .call _ rfl P9 rfl (P1 (up3.ext e5.size) hu (by omega)) fun v6 w6 e6 h6=>?_
  rw [D6] at h6
  have e56:=e5.trans e6
  refine .storeA (E:=eZ) ty_Z rfl rfl (k4.ext e56) rfl rfl h6 hS4 fun w7 k7 u7 h7=>.nil (.ret ?_)
  exact .cell Tryz.results222 rfl ty_Z rfl rfl k7 h7 ⟨u7.below (x3.trans e56) (by omega),hout h7⟩
theorem AS8:Ent Tryz.prog 223:=A0 Tryz.func223 (by kernel_rfl) rfl
theorem AR5 {S:Nat→Prop} {w:World} {va vb:Value} {a b:ZV} (up:Up S w) (ha:eZ.R S w va a) (hb:eZ.R S w vb b) (hla:a.w.length≤1000000000) (hlb:b.w.length≤1000000000) (hb0:zval b≠0) :
  CR Tryz.prog 223 #[va,vb] w (Three (eZ.at S (zc (zval a / zval b))) (eZ.at S (zc (zval a % zval b))) (Is (.int .i64 0))):=by
 obtain ⟨s,rfl,hs⟩:=ha
 obtain ⟨t,rfl,ht⟩:=hb
 refine enter Tryz.func223 rfl Tryz.ntmps223 rfl ?_
 refine .seq (.region (.box rfl rfl fun w1 b2 n1=>.box rfl rfl fun w2 b3 n2=>.alloc rfl B9 fun w3 b4 n3=>.alloc rfl B9 fun w4 b5 n4=>.asg rfl rfl (.nil ?_)))
 obtain ⟨e1,k2,hb2,hs1⟩:=n1
 obtain ⟨e2,k3,hb3,hs2⟩:=n2
 obtain ⟨e3,k4,hb4,hs3⟩:=n3
 obtain ⟨e4,k5,hb5,hs4⟩:=n4
 have x4:=((e1.trans e2).trans e3).trans e4
 have k2:=((k2.ext e2).ext e3).ext e4
 have k3:=(k3.ext e3).ext e4
 have k4:=k4.ext e4
 have hS4:¬ Sx S w.heap.size w4.heap.size b4:=Sx.no (by omega) (by omega)
 have hS5:¬ Sx S w.heap.size w4.heap.size b5:=Sx.no (by omega) (by omega)
 have hne:b5≠b4:=by omega
 have up4:Up (Sx S w.heap.size w4.heap.size) w4:=Sx.up up (Nat.le_refl _) x4.size
 have hs':=(ER.par eW hs w4.heap.size).ext x4
 have ht':=(ER.par eW ht w4.heap.size).ext x4
 have l1:=AE6 hs hla
 have l2:=AE6 ht hlb
 have hout:∀ {W:World} {v:Value} {z:ZV},eZ.R (Sx S w.heap.size w4.heap.size) W v z→eZ.R S W v z:=fun h=>h.out
 generalize hT:Sx S w.heap.size w4.heap.size=T at *
 refine .seq ?_
 refine .par follows 6 [.inl _,.inl s,.inr (eHs.at T (hds (val a.w))),.inl _,.inl t,.inr (eHs.at T (hds (val b.w)))] [[],[(11,0)],[(12,1)],[],[(14,3)],[(15,4)]] (by kernel_rfl) ⟨
  fun w e=>(v_fa D0 rfl).ob,fun w e=>(v_ld ty_W rfl (k2.ext e) rfl).ob,fun w e=>(A1 _ D9 rfl (J6 (up4.ext e.size) (hs'.ext e) hla)).ob (A6 _ _ _),
  fun w e=>(v_fa D0 rfl).ob,fun w e=>(v_ld ty_W rfl (k3.ext e) rfl).ob,fun w e=>(A1 _ D9 rfl (J6 (up4.ext e.size) (ht'.ext e) hlb)).ob (A6 _ _ _),trivial⟩ ?_
 intro w5 e5 x hx y hy
 refine .asg rfl rfl (.asg rfl rfl (.nil ?_))
 have hB0:0<val b.w:=by
  rcases Nat.eq_zero_or_pos (val b.w) with h | h
  ·exact absurd (by unfold zval sg;rw [h];simp) hb0
  ·exact h
 have eva:=AB1 a
 have evb:=AB1 b
 generalize val a.w=A at *
 generalize val b.w=B at *
 have hne0:(hds B).length≠0:=fun e=>by have:=P2.1 (List.length_eq_zero_iff.1 e);omega
 refine .seq (.seq (.region (.mv rfl rfl (.lenR un_H rfl rfl hy (.eqlF rfl rfl rfl (by omega) (.nil (.condF rfl (.skip ?_))))))))
 have up5:=up4.ext e5.size
 refine .seq (.region (.mv rfl rfl (.mv rfl rfl ?_)))
 refine .call _ rfl AS6 rfl (AR3 up5 hx hy (by omega) (by omega) (by omega)) fun z w6 e6 h6=>?_
 obtain ⟨vq,vr,rfl,hq,hr⟩:=h6
 refine .mv rfl rfl (.ext rfl rfl rfl (.ext rfl rfl rfl (.asg rfl rfl (.asg rfl rfl (.nil ?_)))))
 have e56:=e5.trans e6
 have x6:=x4.trans e56
 have up6:=up5.ext e6.size
 have k2:=k2.ext e56
 have k3:=k3.ext e56
 have k4:=k4.ext e56
 have k5:=k5.ext e56
 have hy6:=ER.ext eHs hy e6
 have lq:(hds (A / B)).length≤2000000000:=Nat.le_trans (N9 (Nat.div_le_self _ _)) l1
 have lr:(hds (A % B)).length≤2000000000:=Nat.le_trans (N9 (Nat.mod_le _ _)) l1
 refine .mid (α:=(Nat×Nat)×Value×Value) (fun z=>[(2,.pointer (some ⟨b2,0,none⟩)),(3,.pointer (some ⟨b3,0,none⟩)),(4,.pointer (some ⟨b4,0,none⟩)),(5,.pointer (some ⟨b5,0,none⟩)),(9,z.2.1),(10,z.2.2)])
  (fun z W=>Ext w6 W∧eHs.R T W z.2.1 (hds z.1.1)∧eHs.R T W z.2.2 (hds z.1.2)∧(hds z.1.1).length≤2000000002∧(hds z.1.2).length≤2000000002∧zval a / zval b=sg (a.neg != b.neg) z.1.1∧zval a % zval b=sg false z.1.2) ?_ ?_
 ·refine .seq (.region (.fa H5 rfl rfl (.ld E9 rfl rfl k2 rfl (.mv rfl rfl ?_))))
  cases hn:a.neg with
  | false =>
   refine .gs rfl rfl rfl rfl rfl (.gs rfl rfl rfl rfl rfl (.gs rfl rfl rfl rfl rfl (.pick rfl rfl rfl (.nil (.condF rfl (.skip ?_))))))
   obtain ⟨d1,d2⟩:=AC3 (p:=false) (q:=b.neg) (A:=A) hB0 (.inl rfl)
   refine ⟨rfl,((A / B,A % B),vq,vr),lkA rfl,.refl _,hq,hr,Nat.le_trans lq (by omega),Nat.le_trans lr (by omega),?_,?_⟩
   ·rw [eva,evb,hn];exact d1
   ·rw [eva,evb,hn];exact d2
  | true =>
   refine .gr rfl rfl rfl rfl (.mv rfl rfl (.gr rfl rfl rfl rfl (.lenR un_H rfl rfl hr (.gr rfl rfl rfl rfl ?_))))
   by_cases h0:A % B=0
   ·rw [h0,L2]
    refine .gtrF rfl rfl rfl (by simp) (.pick rfl rfl rfl (.nil (.condF rfl (.skip ?_))))
    obtain ⟨d1,d2⟩:=AC3 (p:=true) (q:=b.neg) (A:=A) hB0 (.inr h0)
    refine ⟨rfl,((A / B,A % B),vq,vr),lkA rfl,.refl _,hq,hr,Nat.le_trans lq (by omega),Nat.le_trans lr (by omega),?_,?_⟩
    ·rw [eva,evb,hn];exact d1
    ·rw [eva,evb,hn];exact d2
   ·have hne:(hds (A % B)).length≠0:=fun e=>h0 (P2.1 (List.length_eq_zero_iff.1 e))
    refine .gtrT rfl rfl rfl (by omega) (.pick rfl rfl rfl (.nil (.condT rfl (.seq (.region (.mv rfl rfl (.bsl _ rfl rfl AQ0 fun w7 b7 n7=>?_)))))))
    have hd1:digH [1]:=by intro x hx;simp at hx;omega
    have ho:OwnH 3 w6.heap.size w7 (.slice (some ⟨b7,0,none⟩) 1 1) [1]:=OwnH.lit (l:=[1]) n7 (Nat.le_refl _) hd1 (by simp)
    obtain ⟨e7,_,_,_⟩:=n7
    refine .call _ rfl Ap1 rfl (Al7 (S:=T) (up6.ext e7.size) (ER.ext eHs hq e7) (ho.toR up6) (by omega) (by simp)) fun v8 w8 e8 h8=>.asg rfl rfl (.nil ?_)
    rw [D6,show valH [1]=1 by rfl] at h8
    have e78:=e7.trans e8
    refine .region (.mv rfl rfl (.mv rfl rfl ?_))
    have hm:=Nat.mod_lt A hB0
    refine .call _ rfl AS5 rfl (AR2 (S:=T) (up6.ext e78.size) (ER.ext eHs hy6 e78) (ER.ext eHs hr e78) (by omega) (by rw [D6,D6];omega)) fun v9 w9 e9 h9=>.asg rfl rfl (.nil ?_)
    rw [D6,D6] at h9
    obtain ⟨d1,d2⟩:=AZ1 (q:=b.neg) (A:=A) hB0 (by omega)
    refine ⟨rfl,((A / B+1,B-A % B),v8,v9),lkA rfl,e78.trans e9,ER.ext eHs h8 e9,h9,?_,?_,?_,?_⟩
    ·exact Nat.le_trans (AS1 lq (B:=1) (Nat.le_trans (M2 (L:=1) (by decide)) (by omega))) (by omega)
    ·exact Nat.le_trans (N9 (Nat.sub_le _ _)) (by omega)
    ·rw [eva,evb,hn];exact d1
    ·rw [eva,evb,hn];exact d2
 ·rintro ⟨⟨q,r⟩,vq,vr⟩ W ⟨hW,hq,hr,lq,lr,d1,d2⟩
  replace hW:Ext w6 W:=hW
  replace hq:eHs.R T W vq (hds q):=hq
  replace hr:eHs.R T W vr (hds r):=hr
  replace lq:(hds q).length≤2000000002:=lq
  replace lr:(hds r).length≤2000000002:=lr
  replace d1:zval a / zval b=sg (a.neg != b.neg) q:=d1
  replace d2:zval a % zval b=sg false r:=d2
  refine .weak [(2,.pointer (some ⟨b2,0,none⟩)),(3,.pointer (some ⟨b3,0,none⟩)),(4,.pointer (some ⟨b4,0,none⟩)),(5,.pointer (some ⟨b5,0,none⟩)),(9,vq),(10,vr)] (fun t v h=>h) ?_
  have k2:=k2.ext hW
  have k3:=k3.ext hW
  have k4:=k4.ext hW
  have k5:=k5.ext hW
  have upW:=up6.ext hW.size
  refine .seq (.region (.fa H5 rfl rfl (.ld E9 rfl rfl k2 rfl (.fa H5 rfl rfl (.ld E9 rfl rfl k3 rfl (.neqB AB7 rfl rfl rfl (.mv rfl rfl ?_)))))))
  refine .call _ rfl P9 rfl (P1 upW hq (by omega)) fun v7 w7 e7 h7=>.mv rfl rfl ?_
  rw [D6,←d1] at h7
  refine .call _ rfl P9 rfl (P1 (upW.ext e7.size) (ER.ext eHs hr e7) (by omega)) fun v8 w8 e8 h8=>?_
  rw [D6,←d2] at h8
  have e78:=e7.trans e8
  refine .storeA (E:=eZ) ty_Z rfl rfl (k4.ext e78) rfl rfl (ER.ext eZ h7 e8) hS4 fun w9 k9 u9 h9=>?_
  refine .storeA (E:=eZ) ty_Z rfl rfl ((k5.ext e78).upd u9 hne) rfl rfl (ER.upd eZ h8 u9 hS4) hS5 fun w10 k10 u10 h10=>.asg rfl rfl (.nil (.ret ?_))
  exact .plain [_,_,_] Tryz.results223 ⟨⟨_,rfl,C9 (E:=eZ) ty_Z rfl rfl (k9.upd u10 (Ne.symm hne)) (ER.upd eZ h9 u10 hS5)⟩,⟨_,rfl,C9 (E:=eZ) ty_Z rfl rfl k10 h10⟩,rfl,trivial⟩
   ⟨u10.below (u9.below ((x6.trans hW).trans e78) (by omega)) (by omega),_,_,_,rfl,hout (ER.upd eZ h9 u10 hS5),hout h10,rfl⟩
theorem Ap4:Ent Tryz.prog 224:=A0 Tryz.func224 (by kernel_rfl) rfl
theorem Am0 {S:Nat→Prop} {w:World} {va vb:Value} {a b:ZV} (up:Up S w) (ha:eZ.R S w va a) (hb:eZ.R S w vb b) (hla:a.w.length≤1000000000) (hlb:b.w.length≤1000000000):CR Tryz.prog 224 #[va,vb] w (Is (.int .i64 (cmpI (zval a) (zval b)))):=by
 have ha0:=ha
 have hb0:=hb
 obtain ⟨s,rfl,hs⟩:=ha
 obtain ⟨t,rfl,ht⟩:=hb
 refine enter Tryz.func224 rfl Tryz.ntmps224 rfl ?_
 refine .seq (.region (.box rfl rfl fun w1 b2 n1=>.box rfl rfl fun w2 b3 n2=>.asg rfl rfl (.nil ?_)))
 obtain ⟨e1,k2,hb2,hs1⟩:=n1
 obtain ⟨e2,k3,hb3,hs2⟩:=n2
 have x2:=e1.trans e2
 have k2:=k2.ext e2
 have up2:=up.ext x2.size
 have ha2:=ER.ext eZ ha0 x2
 have hb2':=ER.ext eZ hb0 x2
 have eva:=AB1 a
 have evb:=AB1 b
 refine .seq (.seq ?_)
 refine .par follows 5 [.inl (.agg #[.bool a.neg,s]),.inl (.int .i64 (zval a).sign),.inl (.agg #[.bool b.neg,t]),.inl (.int .i64 (zval b).sign),.inl (.bool ((zval a).sign != (zval b).sign))] [[],[(6,0)],[],[(8,2)],[(7,1),(9,3)]] (by kernel_rfl) ⟨
  fun w e=>(B3 ty_Z rfl (k2.ext e) rfl).ob,fun w e=>A1 _ K1 rfl (J7 (up2.ext e.size) (ER.ext eZ ha2 e) hla),
  fun w e=>(B3 ty_Z rfl (k3.ext e) rfl).ob,fun w e=>A1 _ K1 rfl (J7 (up2.ext e.size) (ER.ext eZ hb2' e) hlb),fun w e=>(Au3 rfl rfl).ob,trivial⟩ ?_
 intro w3 e3
 have x3:=x2.trans e3
 have up3:=up2.ext e3.size
 have k2:=k2.ext e3
 have k3:=k3.ext e3
 have ha3:=ER.ext eZ ha2 e3
 have hb3:=ER.ext eZ hb2' e3
 by_cases hsg:(zval a).sign=(zval b).sign
 ·rw [show ((zval a).sign != (zval b).sign)=false by simpa using hsg]
  refine .nil (.condF rfl (.skip (.seq ?_)))
  have hs':=ER.ext eW hs x3
  have ht':=ER.ext eW ht x3
  have l1:=AE6 hs hla
  have l2:=AE6 ht hlb
  have hc:=BA2 hsg
  refine .par follows 7 [.inl _,.inl s,.inr (eHs.at S (hds (val a.w))),.inl _,.inl t,.inr (eHs.at S (hds (val b.w))),.inl (.int .i64 (cmpN (valH (hds (val a.w))) (valH (hds (val b.w)))))] [[],[(16,0)],[(17,1)],[],[(19,3)],[(20,4)],[(18,2),(21,5)]] (by kernel_rfl) ⟨
   fun w e=>(v_fa D0 rfl).ob,fun w e=>(v_ld ty_W rfl (k2.ext e) rfl).ob,fun w e=>(A1 _ D9 rfl (J6 (up3.ext e.size) (hs'.ext e) hla)).ob (A6 _ _ _),
   fun w e=>(v_fa D0 rfl).ob,fun w e=>(v_ld ty_W rfl (k3.ext e) rfl).ob,fun w e=>(A1 _ D9 rfl (J6 (up3.ext e.size) (ht'.ext e) hlb)).ob (A6 _ _ _),
   fun w e x hx y hy=>A1 _ AS7 rfl (AR4 hx hy (by omega) (by omega)),trivial⟩ ?_
  intro w4 e4 x hx y hy
  rw [D6,D6]
  refine .asg rfl rfl (.nil (.seq (.seq (.region (.ldA ty_Z rfl rfl (k2.ext e4) rfl ?_)))))
  refine .call _ rfl K1 rfl (J7 (up3.ext e4.size) (ER.ext eZ ha3 e4) hla) fun v5 w5 e5 h5=>?_
  subst h5
  have x5:=(x3.trans e4).trans e5
  by_cases hn:(zval a).sign<0
  ·rw [if_pos hn] at hc
   refine .lssT rfl rfl rfl hn (.nil (.condT rfl (.seq (.region (.mv rfl rfl (.neg rfl rfl (.asg rfl rfl (.nil (.ret ?_)))))))))
   exact .plain [_] Tryz.results224 ⟨rfl,trivial⟩ ⟨x5,isI (by rw [hc,wI (by unfold cmpN;split<;>(try split)<;>omega)])⟩
  ·rw [if_neg hn] at hc
   refine .lssF rfl rfl rfl hn (.nil (.condF rfl (.skip (.seq (.region (.mv rfl rfl (.asg rfl rfl (.nil (.ret ?_)))))))))
   exact .plain [_] Tryz.results224 ⟨rfl,trivial⟩ ⟨x5,isI (by rw [hc])⟩
 ·rw [show ((zval a).sign != (zval b).sign)=true by simpa using hsg]
  refine .nil (.condT rfl (.seq (.seq ?_)))
  have hc:=cmpI_ne hsg
  refine .par follows 5 [.inl (.agg #[.bool a.neg,s]),.inl (.int .i64 (zval a).sign),.inl (.agg #[.bool b.neg,t]),.inl (.int .i64 (zval b).sign),.inl (.bool (decide ((zval a).sign<(zval b).sign)))] [[],[(11,0)],[],[(13,2)],[(12,1),(14,3)]] (by kernel_rfl) ⟨
   fun w e=>(B3 ty_Z rfl (k2.ext e) rfl).ob,fun w e=>A1 _ K1 rfl (J7 (up3.ext e.size) (ER.ext eZ ha3 e) hla),
   fun w e=>(B3 ty_Z rfl (k3.ext e) rfl).ob,fun w e=>A1 _ K1 rfl (J7 (up3.ext e.size) (ER.ext eZ hb3 e) hlb),fun w e=>(BB9 rfl rfl).ob,trivial⟩ ?_
  intro w4 e4
  by_cases hn:(zval a).sign<(zval b).sign
  ·rw [if_pos hn] at hc
   rw [show decide ((zval a).sign<(zval b).sign)=true by simpa using hn]
   refine .nil (.condT rfl (.seq (.region (.asg rfl rfl (.nil (.ret ?_))))))
   exact .plain [_] Tryz.results224 ⟨rfl,trivial⟩ ⟨x3.trans e4,isI (by rw [hc])⟩
  ·rw [if_neg hn] at hc
   rw [show decide ((zval a).sign<(zval b).sign)=false by simpa using hn]
   refine .nil (.condF rfl (.skip (.seq (.region (.asg rfl rfl (.nil (.ret ?_)))))))
   exact .plain [_] Tryz.results224 ⟨rfl,trivial⟩ ⟨x3.trans e4,isI (by rw [hc])⟩
end Go.Proofs.YtfilidfomgfnhaaGreat

namespace Go.Kx
open Go Go.RowKit
section
variable {P:Program} {ro:Option Nat} {N:Nat} {ds:List Deferred} {ops:List Oper} {K:Env→World→Prop} {σ0:Env} {w0:World} {h:Nat} {sp:List Sp} {deps:List (List (Tmp×Nat))} {a0:Act}
section
variable {Q:Exit→Act→World→Prop}
end
end
end Go.Kx

namespace Go.Proofs.YtfilidfomgfnhaaGreat
open Go Go.Kx Go.RowKit
theorem AS4:Ent Tryz.prog 220:=A0 Tryz.func220 (by kernel_rfl) rfl
theorem AR1 {S:Nat→Prop} {w:World} (up:Up S w):CR Tryz.prog 220 #[] w (eZ.at S (zc 1)):=by
 refine enter Tryz.func220 rfl Tryz.ntmps220 rfl ?_
 refine .seq (.region (.alloc rfl B9 fun w1 b1 n1=>.nil ?_))
 obtain ⟨e1,k1,hb1,hs1⟩:=n1
 have hS:¬ Sx S w.heap.size w1.heap.size b1:=Sx.no (by omega) (by omega)
 have up1:Up (Sx S w.heap.size w1.heap.size) w1:=Sx.up up (Nat.le_refl _) e1.size
 refine .seq (.region (.call _ rfl Ai2 rfl (Af6 up1 (by decide) (by decide)) fun v2 w2 e2 h2=>?_))
 refine .storeA (E:=eZ) ty_Z rfl rfl (k1.ext e2) rfl rfl h2 hS fun w5 k5 u5 h5=>.nil (.ret ?_)
 exact .cell Tryz.results220 rfl ty_Z rfl rfl k5 h5 ⟨u5.below (e1.trans e2) (by omega),h5.out⟩
theorem Ap0:Ent Tryz.prog 163:=A0 Tryz.func163 (by kernel_rfl) rfl
theorem Al6 {S:Nat→Prop} {w:World} {v:Value} {q:QV} {L:Nat} (up:Up S w) (h:eQ.R S w v q) (hl:qok L q) (hL:L≤1000000000):CR Tryz.prog 163 #[v] w (eZ.at S (zc (pd q))):=by
 obtain ⟨s,t,rfl,hn,hd⟩:=O3 h
 refine enter Tryz.func163 rfl Tryz.ntmps163 rfl ?_
 refine .seq (.region (.box rfl rfl fun w1 b1 n1=>.alloc rfl B9 fun w2 b2 n2=>.nil ?_))
 obtain ⟨e1,k1,hb1,hs1⟩:=n1
 obtain ⟨e2,k2,hb2,hs2⟩:=n2
 have x2:=e1.trans e2
 have k1:=k1.ext e2
 have hS:¬ Sx S w.heap.size w2.heap.size b2:=Sx.no (by omega) (by omega)
 have up2:Up (Sx S w.heap.size w2.heap.size) w2:=Sx.up up (Nat.le_refl _) x2.size
 have hd2:=(ER.par eZ hd w2.heap.size).ext x2
 refine .seq (.seq (.region (.fa P4 rfl rfl (.ldN [.bool q.den.neg,t] ty_Z rfl rfl k1 AL1 ?_))))
 refine .call _ rfl K1 rfl (J7 up2 hd2 (Nat.le_trans hl.2 hL)) fun v3 w3 e3 h3=>?_
 subst h3
 have hp:zval q.den≠0→pd q=(val q.den.w:Nat):=by
  intro h0
  have:=J3 q.den
  unfold pd;rw [if_neg h0];split<;>omega
 by_cases h0:zval q.den=0
 ·refine .eqlT rfl rfl rfl (by rw [h0];rfl) (.nil (.condT rfl (.seq (.region ?_))))
  refine .call _ rfl AS4 rfl (AR1 (up2.ext e3.size)) fun v4 w4 e4 h4=>?_
  refine .storeA (E:=eZ) ty_Z rfl rfl ((k2.ext e3).ext e4) rfl rfl h4 hS fun w5 k5 u5 h5=>.nil (.ret ?_)
  exact .cell Tryz.results163 rfl ty_Z rfl rfl k5 h5 ⟨u5.below ((x2.trans e3).trans e4) (by omega),by rw [show pd q=1 by unfold pd;rw [if_pos h0]];exact h5.out⟩
 ·refine .eqlF rfl rfl rfl (fun h=>h0 (Int.sign_eq_zero_iff_zero.1 h)) (.nil (.condF rfl (.skip (.seq (.region (.fa P4 rfl rfl (.ldN [.bool q.den.neg,t] ty_Z rfl rfl (k1.ext e3) AL1 ?_)))))))
  refine .call _ rfl Ap5 rfl (Am1 (up2.ext e3.size) (ER.ext eZ hd2 e3) (Nat.le_trans hl.2 hL)) fun v4 w4 e4 h4=>?_
  refine .storeA (E:=eZ) ty_Z rfl rfl ((k2.ext e3).ext e4) rfl rfl h4 hS fun w5 k5 u5 h5=>.nil (.ret ?_)
  exact .cell Tryz.results163 rfl ty_Z rfl rfl k5 h5 ⟨u5.below ((x2.trans e3).trans e4) (by omega),by rw [hp h0];exact h5.out⟩
theorem Ao9:Ent Tryz.prog 162:=A0 Tryz.func162 (by kernel_rfl) rfl
theorem Al5 {S:Nat→Prop} {w:World} {v:Value} {q:QV} {L:Nat} (up:Up S w) (h:eQ.R S w v q) (hl:qok L q) (hL:L≤1000000000):CR Tryz.prog 162 #[v] w (eZ.at S (zc (pn q))):=by
 obtain ⟨s,t,rfl,hn,hd⟩:=O3 h
 refine enter Tryz.func162 rfl Tryz.ntmps162 rfl ?_
 refine .seq (.region (.box rfl rfl fun w1 b1 n1=>.alloc rfl B9 fun w2 b2 n2=>.nil ?_))
 obtain ⟨e1,k1,hb1,hs1⟩:=n1
 obtain ⟨e2,k2,hb2,hs2⟩:=n2
 have x2:=e1.trans e2
 have k1:=k1.ext e2
 have hS:¬ Sx S w.heap.size w2.heap.size b2:=Sx.no (by omega) (by omega)
 have up2:Up (Sx S w.heap.size w2.heap.size) w2:=Sx.up up (Nat.le_refl _) x2.size
 have hd2:=(ER.par eZ hd w2.heap.size).ext x2
 have hn2:=(ER.par eZ hn w2.heap.size).ext x2
 refine .seq (.seq (.region (.fa P4 rfl rfl (.ldN [.bool q.den.neg,t] ty_Z rfl rfl k1 AL1 ?_))))
 refine .call _ rfl K1 rfl (J7 up2 hd2 (Nat.le_trans hl.2 hL)) fun v3 w3 e3 h3=>?_
 subst h3
 by_cases h0:zval q.den<0
 ·refine .lssT rfl rfl rfl (by rw [Int.sign_eq_neg_one_of_neg h0];decide) (.nil (.condT rfl (.seq (.region (.fa P5 rfl rfl (.ldN [.bool q.num.neg,s] ty_Z rfl rfl (k1.ext e3) Ae8 ?_))))))
  refine .call _ rfl Ap2 rfl (Al8 (up2.ext e3.size) (ER.ext eZ hn2 e3) (Nat.le_trans hl.1 hL)) fun v4 w4 e4 h4=>?_
  refine .storeA (E:=eZ) ty_Z rfl rfl ((k2.ext e3).ext e4) rfl rfl h4 hS fun w5 k5 u5 h5=>.nil (.ret ?_)
  exact .cell Tryz.results162 rfl ty_Z rfl rfl k5 h5 ⟨u5.below ((x2.trans e3).trans e4) (by omega),by rw [show pn q = -zval q.num by unfold pn;rw [if_pos h0]];exact h5.out⟩
 ·refine .lssF rfl rfl rfl (fun h=>h0 (Int.sign_neg_iff.1 h)) (.nil (.condF rfl (.skip (.seq (.region (.fa P5 rfl rfl (.ldN [.bool q.num.neg,s] ty_Z rfl rfl (k1.ext e3) Ae8 ?_)))))))
  refine .call _ rfl AI5 rfl (AI0 (up2.ext e3.size) (ER.ext eZ hn2 e3) (Nat.le_trans hl.1 (by omega))) fun v4 w4 e4 h4=>?_
  refine .storeA (E:=eZ) ty_Z rfl rfl ((k2.ext e3).ext e4) rfl rfl h4 hS fun w5 k5 u5 h5=>.nil (.ret ?_)
  exact .cell Tryz.results162 rfl ty_Z rfl rfl k5 h5 ⟨u5.below ((x2.trans e3).trans e4) (by omega),by rw [show pn q=zval q.num by unfold pn;rw [if_neg h0]];exact h5.out⟩
theorem Ai0:Ent Tryz.prog 164:=A0 Tryz.func164 (by kernel_rfl) rfl
theorem Af4 {S:Nat→Prop} {w:World} {va vb:Value} {a b:ZV} {L:Nat} (up:Up S w) (ha:eZ.R S w va a) (hb:eZ.R S w vb b) (hla:a.w.length≤L) (hlb:b.w.length≤L) (hL:L≤1000000000) (hb0:0<zval b):CR Tryz.prog 164 #[va,vb] w (eQ.at S (qc (Rat.divInt (zval a) (zval b)))):=by
 have hda:=AF1 ha
 have hdb:=AF1 hb
 have hqc:=AP4 (n:=zval a) hb0
 have hga:=J3 a
 have hgb:=J3 b
 have hBp:0<val b.w:=by omega
 have hla1:=Q4 hda hla
 have hlb1:=Q4 hdb hlb
 rw [hga] at hla1
 rw [hgb] at hlb1
 rw [hga,hgb] at hqc
 have hg1:Nat.gcd (val a.w) (val b.w)≤val b.w:=Nat.gcd_le_right _ hBp
 have hg0:0<Nat.gcd (val a.w) (val b.w):=Nat.gcd_pos_of_pos_right _ hBp
 generalize hgg:Nat.gcd (val a.w) (val b.w)=g at *
 obtain ⟨s,rfl,hs⟩:=ha
 obtain ⟨t,rfl,ht⟩:=hb
 have ha:eZ.R S w (.agg #[.bool a.neg,s]) a:=⟨s,rfl,hs⟩
 have hb:eZ.R S w (.agg #[.bool b.neg,t]) b:=⟨t,rfl,ht⟩
 refine enter Tryz.func164 rfl Tryz.ntmps164 rfl ?_
 refine .seq (.region (.box rfl rfl fun w1 b2 n1=>.box rfl rfl fun w2 b3 n2=>.alloc rfl C5 fun w3 b4 n3=>.nil ?_))
 obtain ⟨e1,k2,hb2,hs1⟩:=n1
 obtain ⟨e2,k3,hb3,hs2⟩:=n2
 obtain ⟨e3,k4,hb4,hs3⟩:=n3
 have x3:=(e1.trans e2).trans e3
 have k2:=(k2.ext e2).ext e3
 have k3:=k3.ext e3
 have hS4:¬ Sx S w.heap.size w3.heap.size b4:=Sx.no (by omega) (by omega)
 have up3:Up (Sx S w.heap.size w3.heap.size) w3:=Sx.up up (Nat.le_refl _) x3.size
 have ha3:=(ER.par eZ ha w3.heap.size).ext x3
 have hb3':=(ER.par eZ hb w3.heap.size).ext x3
 have hout:∀ {W:World} {v:Value} {z:QV},eQ.R (Sx S w.heap.size w3.heap.size) W v z→eQ.R S W v z:=fun h=>h.out
 generalize hT:Sx S w.heap.size w3.heap.size=T at *
 refine .seq (.region (.ldA ty_Z rfl rfl k2 rfl (.ldA ty_Z rfl rfl k3 rfl ?_)))
 refine .call _ rfl Ap3 rfl (Al9 up3 ha3 hb3' (by omega) (by omega)) fun v4 w4 e4 h4=>?_
 rw [hgg] at h4
 obtain ⟨s4,rfl,hs4⟩:=h4
 have h4:eZ.R T w4 (.agg #[.bool (zc (g:Nat)).neg,s4]) (zc (g:Nat)):=⟨s4,rfl,hs4⟩
 refine .alloc rfl B9 fun w5 b5 n5=>?_
 obtain ⟨e5,k5,hb5,hs5⟩:=n5
 refine .storeA (E:=eZ) ty_Z rfl rfl k5 rfl rfl (ER.ext eZ (ER.lt eZ h4) e5) (fun h=>by have:=h.2;omega) fun w6 k5 u6 _=>.nil ?_
 have e46:Ext w4 w6:=u6.below e5 (by omega)
 have e36:=e4.trans e46
 have up6:=up3.ext e36.size
 have lg:(zc (g:Nat)).w.length≤1000000000:=Nat.le_trans (S3 (L:=L) (by rw [Int.natAbs_natCast];exact Nat.lt_of_le_of_lt hg1 hlb1)) hL
 have hgz:zval (zc ((g:Nat):Int))=(g:Int):=E8 _
 refine .seq (.region (.ldA ty_Z rfl rfl (k2.ext e36) rfl (.ldA ty_Z rfl rfl k5 rfl ?_)))
 refine .call _ rfl AS8 rfl (AR5 up6 (ER.ext eZ ha3 e36) (ER.ext eZ h4 e46) (by omega) lg (by rw [hgz];omega)) fun v7 w7 e7 h7=>?_
 obtain ⟨vq,vr,_,rfl,hq,hr,rfl⟩:=h7
 rw [hgz] at hq hr
 obtain ⟨sq,rfl,hsq⟩:=hq
 have hq:eZ.R T w7 (.agg #[.bool (zc (zval a / (g:Nat))).neg,sq]) (zc (zval a / (g:Nat))):=⟨sq,rfl,hsq⟩
 refine .mv rfl rfl (.ext rfl rfl rfl (.ext rfl rfl rfl (.ext rfl rfl rfl (.alloc rfl B9 fun w8 b6 n8=>.alloc rfl B9 fun w9 b7 n9=>?_))))
 obtain ⟨e8,k6,hb6,hs8⟩:=n8
 obtain ⟨e9,k7,hb7,hs9⟩:=n9
 have e79:=e8.trans e9
 refine .storeA (E:=eZ) ty_Z rfl rfl (k6.ext e9) rfl rfl (ER.ext eZ (ER.lt eZ hq) e79) (fun h=>by have:=h.2;omega) fun w10 k6 u10 _=>?_
 have e710:Ext w7 w10:=u10.below e79 (by omega)
 refine .storeA (E:=eZ) ty_Z rfl rfl (k7.upd u10 (by omega)) rfl rfl (ER.ext eZ (ER.lt eZ hr) e710) (fun h=>by have:=h.2;omega) fun w11 k7 u11 _=>.asg rfl rfl (.nil ?_)
 have e711:Ext w7 w11:=u11.below e710 (by omega)
 have k6:=k6.upd u11 (by omega)
 have e611:=e7.trans e711
 have up11:=up6.ext e611.size
 have k5:=k5.ext e611
 have e311:=e36.trans e611
 refine .seq (.region (.ldA ty_Z rfl rfl (k3.ext e311) rfl (.ldA ty_Z rfl rfl k5 rfl ?_)))
 refine .call _ rfl AS8 rfl (AR5 up11 (ER.ext eZ hb3' e311) (ER.ext eZ (ER.ext eZ h4 e46) e611) (by omega) lg (by rw [hgz];omega)) fun v12 w12 e12 h12=>?_
 obtain ⟨vd,ve,_,rfl,hd,he,rfl⟩:=h12
 rw [hgz] at hd he
 obtain ⟨sd,rfl,hsd⟩:=hd
 have hd:eZ.R T w12 (.agg #[.bool (zc (zval b / (g:Nat))).neg,sd]) (zc (zval b / (g:Nat))):=⟨sd,rfl,hsd⟩
 refine .mv rfl rfl (.ext rfl rfl rfl (.ext rfl rfl rfl (.ext rfl rfl rfl (.alloc rfl B9 fun w13 b9 n13=>.alloc rfl B9 fun w14 b10 n14=>?_))))
 obtain ⟨e13,k9,hb9,hs13⟩:=n13
 obtain ⟨e14,k10,hb10,hs14⟩:=n14
 have e1214:=e13.trans e14
 refine .storeA (E:=eZ) ty_Z rfl rfl (k9.ext e14) rfl rfl (ER.ext eZ (ER.lt eZ hd) e1214) (fun h=>by have:=h.2;omega) fun w15 k9 u15 _=>?_
 have e1215:Ext w12 w15:=u15.below e1214 (by omega)
 refine .storeA (E:=eZ) ty_Z rfl rfl (k10.upd u15 (by omega)) rfl rfl (ER.ext eZ (ER.lt eZ he) e1215) (fun h=>by have:=h.2;omega) fun w16 k10 u16 _=>.asg rfl rfl (.nil ?_)
 have e1216:Ext w12 w16:=u16.below e1215 (by omega)
 have k9:=k9.upd u16 (by omega)
 have e1116:=e12.trans e1216
 have k6:=k6.ext e1116
 have up16:=up11.ext e1116.size
 have hd:=ER.ext eZ hd e1216
 have hq:=ER.ext eZ hq (e711.trans e1116)
 have hdl:(zc (zval b / (g:Nat))).w.length≤1000000000:=Nat.le_trans (S3 (L:=L) (Nat.lt_of_le_of_lt (Int.natAbs_ediv_le_natAbs _ _) (by rw [hgb];exact hlb1))) hL
 have e316:=e311.trans e1116
 have k4:=k4.ext e316
 refine .seq (.seq ?_)
 refine .par follows 4 [.inl (.agg #[.bool (zc (zval b / (g:Nat))).neg,sd]),.inr (eZ.at T (zc 1)),.inl (.int .i64 (cmpI (zval (zc (zval b / (g:Nat)))) (zval (zc 1)))),.inl (.bool (cmpI (zval (zc (zval b / (g:Nat)))) (zval (zc 1)) == 0))] [[],[],[(29,0),(30,1)],[(31,2)]] (by kernel_rfl) ⟨
  fun w e=>(B3 ty_Z rfl (k9.ext e) rfl).ob,fun w e=>(A1 _ AS4 rfl (AR1 (up16.ext e.size))).ob (A6 _ _ _),
  fun w e x hx=>A1 _ Ap4 rfl (Am0 (up16.ext e.size) (ER.ext eZ hd e) hx hdl (Nat.le_trans (S3 (L:=1) (by decide)) (by omega))),fun w e=>(v_eql rfl rfl).ob,trivial⟩ ?_
 intro w17 e17 x1 hx1
 rw [E8,E8]
 have k4:=k4.ext e17
 have k6:=k6.ext e17
 have k9:=k9.ext e17
 obtain ⟨sq',he1,hsq'⟩:=ER.ext eZ hq e17
 obtain ⟨sd',he2,hsd'⟩:=ER.ext eZ hd e17
 injection he1 with he1
 injection he2 with he2
 simp at he1 he2
 subst he1
 subst he2
 have hxx:=x3.trans (e316.trans e17)
 by_cases h1:zval b / (g:Nat)=1
 ·rw [show (cmpI (zval b / (g:Nat)) 1 == 0)=true by rw [h1];decide]
  rw [if_pos h1] at hqc
  have hfin:eQ.R T w17 (.agg #[.bool (zc (zval a / (g:Nat))).neg,sq,.bool false,.slice none 0 0]) (qc (Rat.divInt (zval a) (zval b))):=by
   rw [hqc];exact ⟨sq,.slice none 0 0,rfl,hsq',RL.nil⟩
  refine .nil (.condT rfl (.seq (.region (.ldA ty_Z rfl rfl k6 rfl (.bld [(0,.agg #[.bool (zc (zval a / (g:Nat))).neg,sq])] rfl rfl At3 ?_)))))
  refine .storeA (E:=eQ) ty_Q rfl rfl k4 rfl rfl hfin hS4 fun w18 k18 u18 h18=>.nil (.ret ?_)
  exact .cell Tryz.results164 rfl ty_Q rfl rfl k18 h18 ⟨u18.below hxx (by omega),hout h18⟩
 ·rw [show (cmpI (zval b / (g:Nat)) 1 == 0)=false by unfold cmpI;split<;>(try split)<;>first | rfl | omega]
  rw [if_neg h1] at hqc
  have hfin:eQ.R T w17 (.agg #[.bool (zc (zval a / (g:Nat))).neg,sq,.bool (zc (zval b / (g:Nat))).neg,sd]) (qc (Rat.divInt (zval a) (zval b))):=by
   rw [hqc];exact ⟨sq,sd,rfl,hsq',hsd'⟩
  refine .nil (.condF rfl (.skip (.seq (.region (.ldA ty_Z rfl rfl k6 rfl (.ldA ty_Z rfl rfl k9 rfl (.bld [(0,.agg #[.bool (zc (zval a / (g:Nat))).neg,sq]),(1,.agg #[.bool (zc (zval b / (g:Nat))).neg,sd])] rfl rfl AZ9 ?_)))))))
  refine .storeA (E:=eQ) ty_Q rfl rfl k4 rfl rfl hfin hS4 fun w18 k18 u18 h18=>.nil (.ret ?_)
  exact .cell Tryz.results164 rfl ty_Q rfl rfl k18 h18 ⟨u18.below hxx (by omega),hout h18⟩
end Go.Proofs.YtfilidfomgfnhaaGreat
