/-
  A region that draws its order in which some pure operations may come late, even behind the stores. solve: eliminate Package net: Check, Outs Loops that leave marks, the leaving behind several marks, a slice with three indexes. solve: Reduce, Rank, visit solve: augmented solve: particular solve: NullSpace solve: Solve, Certificate solve: Inverse solve: Det Solutions of linear equations: plain. law 04: small, alive law 04: alive The laws' Long: whatever is not long is small. The laws' Long for vectors and matrices Numbers by digits of sixteen bits: plain. The references: add, sub, times, cmp of magnitudes The references: times, sub, cmp, small, back, mul The references: back, mul The references: div The references: Sign, Neg, Abs, Add, Mul, Cmp of integers The references: Gcd, Div, Cmp of integers Regions that draw their order, with cells of their own that are known apart (printed by mkkv.py) The references: rational numbers: one, den, num, over, Least, Add, Mul, Neg, Sub, Sign, Cmp The references: rational numbers: Least, Add, Mul, Neg, Sub, Sign, Cmp The references: ref02 Sub, Cmp; vectors: At, Combine, Add, Scale, Dot The references: vectors: Combine, Add, Scale, Dot The references: matrices: At, row, place, made The references: matrices: place of a product, made, Mul, Turn, Beside The references: matrices: Mul, Turn, Beside, Times, Add The references: matrices: Add, Scale, Left The references: matrices: Left mat.Scale The laws' own copies: Own The laws' own copies: vectors and matrices Matrices with their bounds; the algebra of matrices: plain. law 04: MatRing law 05: long, tall; the references Of, Ints; vec.Sign law 05: what the answers of package solve satisfy; plain. law 05: what inverses and determinants satisfy; plain. law 05: every solution; plain. Package net: Outs, In Potentials on a network: plain. Package island: Of Package island: Of Package island: Refs, Connected Packages whole, frac, vec: Abs, New, Sub Package right: exists, Check The Laplacian, line by line: plain.
-/
import Derived.Test.YtfilidfomgfnhaaGreatG4
set_option linter.unusedVariables false
namespace Go.Kx
open Go Go.RowKit
def isLate (lt:List Nat) (i:Nat):Bool:=lt.any (Nat.beq i)
theorem AE5 {lt:List Nat} {i:Nat}:isLate lt i=true↔i∈lt:=by
 unfold isLate
 rw [List.any_eq_true]
 constructor
 ·rintro ⟨x,hx,h⟩
  rw [Nat.eq_of_beq_eq_true h];exact hx
 ·exact fun h=>⟨i,h,by simp⟩
def nog (o:Oper):Bool:=match o.guard with | none=>true | _=>false
def pureOp (o:Oper):Bool:=match o.op with | .move _=>true | .extract _ _=>true | _=>false
def okTailL (ops:List Oper) (lt:List Nat) (i:Nat) (o:Oper):Bool :=
 (List.range i).all (fun j=>isLate lt j || (closeB ops i (edgesOf o)).any (Nat.beq j)) && (match o.op with | .defer _=>false | .select ..=>false | _=>true) &&
 (lt.all fun l=>match ops[l]? with
  | some ol=>(tmpsOf o).all (fun t=>ol.dst != some t) || (closeB ops i (edgesOf o)).any (Nat.beq l)
  | none=>true)
def okLate (ops:List Oper) (h:Nat) (deps:List (List (Tmp×Nat))) (l:Nat):Bool :=
 Nat.blt l h && match ops[l]? with
  | some ol=>pureOp ol && (tmpsOf ol).all fun t=>(deps.getD l []).any (fun p=>Nat.beq p.1 t && Nat.blt p.2 l) || ops.all fun q=>q.dst != some t
  | none=>false
def okParL (ops:List Oper) (N h:Nat) (deps:List (List (Tmp×Nat))) (lt:List Nat):Bool :=
 ops.zipIdx.all (fun q=>okBack q.2 q.1) && nodupB (dsts ops) && ops.all (fun o=>nog o && dOk N o.dst) &&
 ops.zipIdx.all (fun q=>if Nat.blt q.2 h then okOp (ops.take h) N q.2 q.1 (deps.getD q.2 []) else okTailL ops lt q.2 q.1) &&
 Nat.ble h ops.length && lt.all (okLate ops h deps)
/-- an operation that depends on its operands alone -/
def PureAt (P:Program) (o:Oper) (ρ:Operand→Value) (v:Value):Prop:=∀ ρ':Operand→Value,(∀ x∈o.op.operands,ρ' x=ρ x)→∀ w,(execOp ρ' o).run P w=.ok (.value v) w
theorem pure_of {P:Program} {o:Oper} {ρ:Operand→Value} {w:World} {R:Value→World→Prop} (hp:pureOp o=true)
  (h:(∃ v w',(execOp ρ o).run P w=.ok (.value v) w'∧R v w')∨(∃ w',(execOp ρ o).run P w=.ok .skip w'∧R undef w')∨(∃ f args w',(execOp ρ o).run P w=.ok (.enter f args) w'∧Calls P f args w' fun e w''=>∃ v,e=.returned v∧R v w'')) :
  ∃ v,PureAt P o ρ v∧R v w:=by
 obtain ⟨d,op,ty,pos,af,g⟩:=o
 unfold pureOp at hp
 cases op with
 | move x =>
  have e:∀ ρ' (w:World),(execOp ρ' ⟨d,.move x,ty,pos,af,g⟩).run P w=.ok (.value (ρ' x)) w:=fun _ _=>rfl
  refine ⟨ρ x,fun ρ' h' w=>by rw [e,h' x (by simp [Op.operands])],?_⟩
  rcases h with ⟨v,w',h1,h2⟩ | ⟨w',h1,_⟩ | ⟨f,args,w',h1,_⟩
  ·rw [e] at h1;cases h1;exact h2
  ·rw [e] at h1;cases h1
  ·rw [e] at h1;cases h1
 | extract x i =>
  have e:∀ ρ' (w:World),(execOp ρ' ⟨d,.extract x i,ty,pos,af,g⟩).run P w=((Instr.extract (ρ' x) i).run P w).andThen fun v w=>.ok (.value v) w:=by
   intro ρ' w
   simp only [execOp,Sem.run_bind,Sem.run_pure]
  cases hx:ρ x with
  | tuple vs =>
   cases hv:vs[i]? with
   | some v =>
    have e2:∀ ρ' (w:World),ρ' x=.tuple vs→(execOp ρ' ⟨d,.extract x i,ty,pos,af,g⟩).run P w=.ok (.value v) w:=by
     intro ρ' w hh
     simp [execOp,hh,Instr.extract,hv]
    refine ⟨v,fun ρ' h' w=>e2 ρ' w (by rw [h' x (by simp [Op.operands]),hx]),?_⟩
    rcases h with ⟨v',w',h1,h2⟩ | ⟨w',h1,_⟩ | ⟨f,args,w',h1,_⟩
    ·rw [e2 ρ w hx] at h1;cases h1;exact h2
    ·rw [e2 ρ w hx] at h1;cases h1
    ·rw [e2 ρ w hx] at h1;cases h1
   | none =>
    exfalso
    rcases h with ⟨v',w',h1,h2⟩ | ⟨w',h1,_⟩ | ⟨f,args,w',h1,_⟩<;>simp [execOp,hx,Instr.extract,hv] at h1
  | _ =>
   exfalso
   rcases h with ⟨v',w',h1,h2⟩ | ⟨w',h1,_⟩ | ⟨f,args,w',h1,_⟩<;>simp [execOp,hx,Instr.extract] at h1
 | _=>cases hp
section
variable {P:Program} {ro:Option Nat} {N:Nat} {ds:List Deferred} {ops:List Oper} {K:Env→World→Prop} {σ0:Env} {w0:World} {h:Nat} {sp:List Sp} {deps:List (List (Tmp×Nat))} {a0:Act}
/-- behind one more operation of the head -/
theorem InvA.next {listed:Array Bool} {a:Act} {w w':World} {i:Nat} {o:Oper} {s:Sp} {t0:Tmp} {v:Value} (hI:InvA N ds ops w0 h sp a0 listed a w) (hsz:listed.size=ops.length) (hnd:(dsts ops).Nodup) (hih:i<h) (hin:i<ops.length) (ho:ops[i]?=some o)
  (hs:sp[i]?=some s) (ht0:o.dst=some t0) (htN:t0<N) (hed':∀ j,edgeTo o j=true→isL listed j) (he:Ext w w') (hv:Sp.ok s v w'):InvA N ds ops w0 h sp a0 (listed.setIfInBounds i true) (a.put o.dst v) w':=by
 refine ⟨by simpa [ht0,Act.put] using hI.size,by simpa [ht0,Act.put] using hI.defs,hI.ext.trans he,?_,?_,?_,?_⟩
 ·intro j oj sj t hj hoj hsj hlj hdj
  rw [F4 (by omega)] at hlj
  by_cases e:i=j
  ·subst e
   rw [ho] at hoj;cases hoj
   rw [hs] at hsj;cases hsj
   rw [ht0] at hdj;cases hdj
   have:(a.put o.dst v).tmps.getD t0 undef=v:=by simp [ht0,Act.put,hI.size,htN]
   rw [this];exact hv
  ·have hlj':=hlj.resolve_left e
   have hne:t0≠t:=by
    intro e2
    subst e2
    exact e (L0 hnd ho hoj ht0 hdj)
   have:(a.put o.dst v).tmps.getD t undef=a.tmps.getD t undef:=by simp [ht0,Act.put,Array.getElem?_setIfInBounds_ne hne]
   rw [this]
   exact Sp.ok_ext (hI.vals j oj sj t hj hoj hsj hlj' hdj) he
 ·intro t hno
  have hne:t0≠t:=fun e=>hno i o hih ho ((F4 (by omega)).2 (.inl rfl)) (e▸ht0)
  have:(a.put o.dst v).tmps.getD t undef=a.tmps.getD t undef:=by simp [ht0,Act.put,Array.getElem?_setIfInBounds_ne hne]
  rw [this]
  exact hI.old t fun j oj hj hoj hlj=>hno j oj hj hoj ((F4 (by omega)).2 (.inr hlj))
 ·intro j oj hoj hlj k hk
  rw [F4 (by omega)] at hlj ⊢
  by_cases e:i=j
  ·subst e
   rw [ho] at hoj;cases hoj
   exact .inr (hed' k hk)
  ·exact .inr (hI.shut j oj hoj (hlj.resolve_left e) k hk)
 ·intro j hj
  rw [F4 (by omega)]
  rintro (e | e)
  ·omega
  ·exact hI.head j hj e
/-- what an operation of the head finds -/
theorem InvA.opnd {listed:Array Bool} {a:Act} {w:World} {i:Nat} {o:Oper} (hI:InvA N ds ops w0 h sp a0 listed a w) (ha0:Agr N σ0 ds a0) (hle:h≤ops.length) (hob:Obs P w0 σ0 (ops.take h) sp (ops.take h) sp deps) (hih:i<h) (ho:ops[i]?=some o)
  (hok:okOp (ops.take h) N i o (deps.getD i [])=true) (hunl:¬ isL listed i) (hed':∀ j,edgeTo o j=true→isL listed j) (hg:o.guard=none) :
  ∃ s t0 σ',sp[i]?=some s∧o.dst=some t0∧t0<N∧(Gv P o σ' w fun v w'=>Ext w w'∧Sp.ok s v w')∧∀ x v,x∈o.op.operands→ev σ' x=some v→a.eval x=v:=by
 have htake:∀ i,i<h→(ops.take h)[i]?=ops[i]?:=fun i hi=>by rw [List.getElem?_take,if_pos hi]
 have hlen:=Obs.len hob
 have hlt:(ops.take h).length=h:=by simp;omega
 simp only [okOp,Bool.and_eq_true,List.all_eq_true] at hok
 obtain ⟨⟨⟨⟨⟨hdk,hds⟩,hgd⟩,hndf⟩,hdep⟩,hrd⟩:=hok
 obtain ⟨s,d,hs,hd,hq⟩:=Obs.at_ hob i o (by rw [htake i hih];exact ho)
 have hdd:deps.getD i []=d:=by simp [hd]
 rw [hdd] at hdep hrd hgd
 obtain ⟨t0,ht0⟩:=Option.isSome_iff_exists.1 hds
 obtain ⟨σ',hG,hσ'⟩:=AR9 (val:=fun t=>a.tmps.getD t undef) d σ0 (hq w hI.ext) (fun p hp=>by
  have h1:=hdep p hp
  obtain ⟨h2,h3⟩:=h1
  split at h3
  ·rename_i oj hoj
   have hlj:=hed' _ h2
   have hjh:p.2<h:=Nat.lt_of_not_le fun hh=>hI.head _ hh hlj
   obtain ⟨s',hs'⟩:∃ s',sp[p.2]?=some s':=⟨_,List.getElem?_eq_getElem (by omega)⟩
   exact ⟨s',hs',hI.vals p.2 oj s' p.1 hjh (by rw [←htake _ hjh];exact hoj) hs' hlj (by simpa using h3)⟩
  ·cases h3)
 refine ⟨s,t0,σ',hs,ht0,by simpa [ht0,dOk,Nat.blt_eq] using hdk,by simpa only [gOk,hg] using hG,?_⟩
 intro x v hx hv
 cases x with
 | const u=>simpa [Kx.ev,Act.eval] using hv
 | global g=>simpa [Kx.ev,Act.eval] using hv
 | func f=>simpa [Kx.ev,Act.eval] using hv
 | tmp t =>
  rcases hσ' t v hv with e | ⟨hv0,hnd'⟩
  ·exact e.symm
  ·have hmem:t∈tmpsOf o:=by
    unfold tmpsOf
    rw [List.mem_filterMap]
    exact ⟨.tmp t,by simpa using hx,rfl⟩
   have hc:=hrd t hmem
   simp only [Bool.or_eq_true] at hc
   rcases hc with hc | hc
   ·obtain ⟨p,hp,hpt⟩:=List.any_eq_true.1 hc
    exact absurd (by simpa using hpt) (hnd' p hp)
   ·show a.tmps.getD t undef=v
    rw [hI.old t (fun i' o' hi' ho' hl' hdst=>?_),ha0.slot t v hv0]
    have:=List.all_eq_true.1 hc (o',i') (by rw [List.mem_zipIdx_iff_getElem?,htake i' hi'];exact ho')
    simp only [Bool.or_eq_true] at this
    rcases this with (h1 | h1) | h1
    ·simp [hdst] at h1
    ·have:i'=i:=by simpa using h1
     subst this;exact hunl hl'
    ·exact hunl (hI.shut i' o' ho' hl' i h1)
theorem AG8 {o:Oper} {t:Tmp} (h:Operand.tmp t∈o.op.operands):t∈tmpsOf o:=by
 unfold tmpsOf
 rw [List.mem_filterMap]
 exact ⟨.tmp t,by simpa using h,rfl⟩
theorem AR4 {a:Act} {d:Option Tmp} {v:Value} {x:Operand} (h:∀ t,x=.tmp t→d≠some t):(a.put d v).eval x=a.eval x:=by
 cases x with
 | tmp t =>
  have hne:=h t rfl
  cases d with
  | none=>rfl
  | some u =>
   have:u≠t:=fun e=>hne (by rw [e])
   show (a.put (some u) v).tmps.getD t undef=a.tmps.getD t undef
   simp [Act.put,Array.getElem?_setIfInBounds_ne this]
 | _=>cases d<;>rfl
theorem PureAt.congr {P:Program} {o:Oper} {ρ ρ':Operand→Value} {v:Value} (h:PureAt P o ρ v) (e:∀ x∈o.op.operands,ρ' x=ρ x):PureAt P o ρ' v:=fun ρ'' h' w=>h ρ'' (fun x hx=>by rw [h' x hx,e x hx]) w
/-- what holds while the tail runs: the late ones are done already in the ghost a' -/
structure InvB (P:Program) (ro:Option Nat) (N:Nat) (ops:List Oper) (h:Nat) (lt:List Nat) (Q:Exit→Act→World→Prop) (listed:Array Bool) (a a':Act) (p:Nat) (w:World):Prop where
 hp:h≤p
 pl:p≤ops.length
 low:∀ j,j<p→isLate lt j=false→isL listed j
 high:∀ j,p≤j→¬ isL listed j
 wp:wpListIn (wf ro) 0 P ops.toArray Q (ops.drop p) a' w
 sz:a.tmps.size=N
 sz':a'.tmps.size=N
 df:a.defers=a'.defers
 same:∀ t,(∀ (l:Nat) (ol:Oper),isLate lt l=true→ops[l]?=some ol→¬ isL listed l→ol.dst≠some t)→a.tmps.getD t undef=a'.tmps.getD t undef
 late:∀ (l:Nat) (ol:Oper) (t:Tmp),isLate lt l=true→ops[l]?=some ol→¬ isL listed l→ol.dst=some t→PureAt P ol a'.eval (a'.tmps.getD t undef)
 shut:∀ (i:Nat) (o:Oper),ops[i]?=some o→isL listed i→∀ j,edgeTo o j=true→isL listed j
set_option maxHeartbeats 1600000 in
theorem Au0 {Q:Exit→Act→World→Prop} {lt:List Nat} (hchk:okParL ops N h deps lt=true) (ha0:Agr N σ0 ds a0) (hob:Obs P w0 σ0 (ops.take h) sp (ops.take h) sp deps)
  (hfin:∀ w,Ext w0 w→finQ (fun σ w=>∀ a,Agr N σ ds a→wpListIn (wf ro) 0 P ops.toArray Q (ops.drop h) a w) w (ops.take h) sp σ0)
  (hQ:∀ e a w,Q e a w→e=.normal) (hQc:∀ a a' w,Q .normal a' w→a.tmps.size=a'.tmps.size→a.defers=a'.defers→(∀ t,a.tmps.getD t undef=a'.tmps.getD t undef)→Q .normal a w) :
  ∀ (fuel:Nat) (listed:Array Bool) (a:Act) (w:World),listed.size=ops.length→cnt listed ops.length≤fuel →
   (InvA N ds ops w0 h sp a0 listed a w∨∃ a' p,InvB P ro N ops h lt Q listed a a' p w) →
   wpAnyIn (wf ro) 0 P .any ops.toArray Q fuel listed a w:=by
 simp only [okParL,Bool.and_eq_true,List.all_eq_true,Nat.ble_eq] at hchk
 obtain ⟨⟨⟨⟨⟨hback,hnd0⟩,hplain⟩,hall⟩,hle⟩,hlate⟩:=hchk
 have hnd:=I0 hnd0
 have hgn:∀ (i:Nat) (o:Oper),ops[i]?=some o→o.guard=none∧dOk N o.dst=true:=by
  intro i o ho
  obtain ⟨h1,h2⟩:=hplain o (List.mem_iff_getElem?.2 ⟨i,ho⟩)
  refine ⟨?_,h2⟩
  unfold nog at h1
  cases hg:o.guard with
  | none=>rfl
  | some g=>rw [hg] at h1;cases h1
 have hback':∀ (i:Nat) (o:Oper),ops[i]?=some o→∀ j,edgeTo o j=true→j<i:=by
  intro i o hi j hj
  have:=hback (o,i) (by rw [List.mem_zipIdx_iff_getElem?];exact hi)
  obtain ⟨e,he,hb,rfl⟩:=F2.1 hj
  simp only [okBack,Array.all_eq_true',Bool.or_eq_true,Bool.not_eq_true',Nat.blt_eq] at this
  rcases this e he with h | h
  ·rw [hb] at h;cases h
  ·exact h
 have hop:∀ (i:Nat) (o:Oper),i<h→ops[i]?=some o→okOp (ops.take h) N i o (deps.getD i [])=true:=by
  intro i o hi ho
  have:=hall (o,i) (by rw [List.mem_zipIdx_iff_getElem?];exact ho)
  simpa [Nat.blt_eq,hi] using this
 have hlt':∀ l,isLate lt l=true→l<h:=by
  intro l hl
  have:=hlate l (AE5.1 hl)
  simp only [okLate,Bool.and_eq_true,Nat.blt_eq] at this
  exact this.1
 have hlop:∀ (l:Nat) (ol:Oper),isLate lt l=true→ops[l]?=some ol→pureOp ol=true∧∀ t∈tmpsOf ol,(∃ p∈deps.getD l [],p.1=t∧p.2<l)∨∀ q∈ops,q.dst≠some t:=by
  intro l ol hl hol
  have:=hlate l (AE5.1 hl)
  simp only [okLate,Bool.and_eq_true,hol,List.all_eq_true,Bool.or_eq_true] at this
  refine ⟨this.2.1,fun t ht=>?_⟩
  rcases this.2.2 t ht with h1 | h1
  ·obtain ⟨p,hp,hpt⟩:=List.any_eq_true.1 h1
   simp only [Bool.and_eq_true,Nat.beq_eq,Nat.blt_eq] at hpt
   exact .inl ⟨p,hp,hpt.1,hpt.2⟩
  ·exact .inr fun q hq=>by simpa using h1 q hq
 have hdepd:∀ (i:Nat) (o:Oper) (p:Tmp×Nat),i<h→ops[i]?=some o→p∈deps.getD i []→edgeTo o p.2=true∧∃ oj,ops[p.2]?=some oj∧oj.dst=some p.1:=by
  intro i o p hi ho hp
  have hok:=hop i o hi ho
  simp only [okOp,Bool.and_eq_true,List.all_eq_true] at hok
  obtain ⟨h2,h3⟩:=hok.1.2 p hp
  refine ⟨h2,?_⟩
  split at h3
  ·rename_i oj hoj
   have hj:p.2<h:=Nat.lt_trans (hback' i o ho _ h2) hi
   exact ⟨oj,by rw [List.getElem?_take,if_pos hj] at hoj;exact hoj,by simpa using h3⟩
  ·cases h3
 have hclose:∀ (listed:Array Bool),(∀ (i:Nat) (o:Oper),ops[i]?=some o→isL listed i→∀ j,edgeTo o j=true→isL listed j)→∀ (i:Nat) (o:Oper),ops[i]?=some o→(∀ j,edgeTo o j=true→isL listed j)→∀ j,(closeB ops i (edgesOf o)).any (Nat.beq j)=true→isL listed j:=by
  intro listed shut i o ho hed j hj
  obtain ⟨x,hx,hxe⟩:=List.any_eq_true.1 hj
  have hxj:j=x:=Nat.eq_of_beq_eq_true hxe
  subst hxj
  refine O3 shut _ _ (fun k hk=>?_) j hx
  simp only [edgesOf,List.mem_filterMap] at hk
  obtain ⟨e,he,hb⟩:=hk
  have hbb:Region.binds .any e=true:=by
   cases h':Region.binds .any e with
   | true=>rfl
   | false=>rw [h'] at hb;simp at hb
  rw [hbb] at hb
  simp at hb
  exact hed k (F2.2 ⟨e,by simpa using he,hbb,hb⟩)
 have htl:∀ (i:Nat) (o:Oper),h≤i→ops[i]?=some o→okTailL ops lt i o=true:=by
  intro i o hi ho
  have:=hall (o,i) (by rw [List.mem_zipIdx_iff_getElem?];exact ho)
  have hn:Nat.blt i h=false:=by
   cases hh:Nat.blt i h with
   | false=>rfl
   | true=>rw [Nat.blt_eq] at hh;omega
  simpa [hn] using this
 have htail:∀ (listed:Array Bool),(∀ (i:Nat) (o:Oper),ops[i]?=some o→isL listed i→∀ j,edgeTo o j=true→isL listed j)→∀ (i:Nat) (o:Oper),h≤i→ops[i]?=some o→(∀ j,edgeTo o j=true→isL listed j)→∀ j,j<i→isLate lt j=false→isL listed j:=by
  intro listed shut i o hi ho hed j hj hnl
  have:=htl i o hi ho
  simp only [okTailL,Bool.and_eq_true,List.all_eq_true,List.mem_range,Bool.or_eq_true] at this
  rcases this.1.1 j hj with h1 | h1
  ·rw [hnl] at h1;cases h1
  ·exact hclose listed shut i o ho hed j h1
 have htake:∀ i,i<h→(ops.take h)[i]?=ops[i]?:=fun i hi=>by rw [List.getElem?_take,if_pos hi]
 have hlen:=Obs.len hob
 have hltn:(ops.take h).length=h:=by simp;omega
 have hndh:(dsts (ops.take h)).Nodup:=by
  have:(dsts ops)=dsts (ops.take h)++dsts (ops.drop h):=by unfold dsts;rw [←List.filterMap_append,List.take_append_drop]
  rw [this] at hnd
  exact (List.nodup_append.1 hnd).1
 have toB:∀ listed a w,InvA N ds ops w0 h sp a0 listed a w→(∀ i,i<h→isL listed i)→wpListIn (wf ro) 0 P ops.toArray Q (ops.drop h) a w:=by
  intro listed a w hI hl
  have hmem:∀ o∈ops.take h,∃ i,i<h∧ops[i]?=some o:=by
   intro o ho
   obtain ⟨i,hi⟩:=List.mem_iff_getElem?.1 ho
   have hi':i<h:=by
    rcases Nat.lt_or_ge i h with hh | hh
    ·exact hh
    ·rw [List.getElem?_eq_none (by omega)] at hi;cases hi
   exact ⟨i,hi',by rw [←htake i hi'];exact hi⟩
  have hsome:∀ o∈ops.take h,dOk N o.dst=true∧o.dst.isSome=true:=by
   intro o ho
   obtain ⟨i,hi,ho⟩:=hmem o ho
   have:=hop i o hi ho
   simp only [okOp,Bool.and_eq_true] at this
   exact ⟨this.1.1.1.1.1,this.1.1.1.1.2⟩
  obtain ⟨σ',hag,hk⟩:=Af2 (N:=N) (ds:=ds) (ops.take h) sp σ0 a hlen (hfin w hI.ext) (fun o ho=>(hsome o ho).1)
   (fun i o s t h1 h2 h3=>by
    have hi':i<h:=by
     rcases Nat.lt_or_ge i h with hh | hh
     ·exact hh
     ·rw [List.getElem?_eq_none (by omega)] at h1;cases h1
    exact hI.vals i o s t hi' (by rw [←htake i hi'];exact h1) h2 (hl i hi') h3)
   (fun t v hv hno=>by
    rw [hI.old t (fun i o hi ho _=>hno o (List.mem_iff_getElem?.2 ⟨i,by rw [htake i hi];exact ho⟩))]
    exact ha0.slot t v hv)
   hndh hI.size hI.defs
   (fun i o s h1 h2 h3=>by
    have:=(hsome o (List.mem_iff_getElem?.2 ⟨i,h1⟩)).2
    rw [h3] at this;cases this)
  exact hk a hag
 have ghost:∀ listed a w,listed.size=ops.length→InvA N ds ops w0 h sp a0 listed a w→(∀ j,j<h→isLate lt j=false→isL listed j)→∃ a' p,InvB P ro N ops h lt Q listed a a' p w∧p=h:=by
  intro listed a w hsz hI hl
  have key:∀ k,k≤h→∃ (listed':Array Bool) (a':Act),listed'.size=ops.length∧InvA N ds ops w0 h sp a0 listed' a' w∧(∀ j,j<k→isL listed' j)∧(∀ j,isL listed j→isL listed' j)∧(∀ j,isL listed' j→isL listed j∨j<k) ∧
    (∀ t,(∀ (l:Nat) (ol:Oper),isLate lt l=true→ops[l]?=some ol→¬ isL listed l→ol.dst≠some t)→a.tmps.getD t undef=a'.tmps.getD t undef) ∧
    (∀ (l:Nat) (ol:Oper) (t:Tmp),l<k→isLate lt l=true→ops[l]?=some ol→¬ isL listed l→ol.dst=some t→PureAt P ol a'.eval (a'.tmps.getD t undef)):=by
   intro k
   induction k with
   | zero=>intro _;exact ⟨listed,a,hsz,hI,fun j hj=>by omega,fun _ h=>h,fun _ h=>.inl h,fun _ _=>rfl,fun l _ _ hl=>by omega⟩
   | succ k ihk =>
    intro hk
    obtain ⟨L,a',hszL,hIL,hlow,hsub,hsup,hsame,hpure⟩:=ihk (by omega)
    by_cases hkl:isL L k
    ·by_cases hkl':isL listed k
     ·refine ⟨L,a',hszL,hIL,fun j hj=>?_,hsub,fun j hj=>(hsup j hj).imp id (by omega),hsame,fun l ol t hlk h1 h2 h3 h4=>?_⟩
      ·by_cases e:j=k
       ·rw [e];exact hkl
       ·exact hlow j (by omega)
      ·by_cases e:l=k
       ·rw [e] at h3;exact absurd hkl' h3
       ·exact hpure l ol t (by omega) h1 h2 h3 h4
     ·rcases hsup k hkl with h1 | h1
      ·exact absurd h1 hkl'
      ·omega
    ·have hkn:¬ isL listed k:=fun h1=>hkl (hsub k h1)
     have hkt:isLate lt k=true:=by
      cases hh:isLate lt k with
      | true=>rfl
      | false=>exact absurd (hl k (by omega) hh) hkn
     have hkin:k<ops.length:=by omega
     obtain ⟨o,ho⟩:∃ o,ops[k]?=some o:=⟨_,List.getElem?_eq_getElem hkin⟩
     have hed:∀ j,edgeTo o j=true→isL L j:=fun j hj=>hlow j (hback' k o ho j hj)
     obtain ⟨s,t0,σ',hs,ht0,htN,hG,hopnd⟩:=hIL.opnd ha0 hle hob (by omega:k<h) ho (hop k o (by omega) ho) hkl hed (hgn k o ho).1
     obtain ⟨hpu,htm⟩:=hlop k o hkt ho
     obtain ⟨v,hv1,hv2⟩:=pure_of hpu (hG.2 a'.eval hopnd)
     have hfree:∀ (l:Nat) (ol:Oper),l≤k→isLate lt l=true→ops[l]?=some ol→∀ x∈ol.op.operands,∀ t,x=.tmp t→o.dst≠some t:=by
      intro l ol hlk hll hol x hx t ht
      subst ht
      obtain ⟨_,htm'⟩:=hlop l ol hll hol
      rcases htm' t (AG8 hx) with ⟨p,hp,hpt,hpl⟩ | h1
      ·intro e
       obtain ⟨_,oj,hoj,hdj⟩:=hdepd l ol p (by omega) hol hp
       rw [hpt] at hdj
       have:=L0 hnd ho hoj e hdj
       omega
      ·exact h1 o (List.mem_iff_getElem?.2 ⟨k,ho⟩)
     refine ⟨L.setIfInBounds k true,a'.put o.dst v,by simpa using hszL,hIL.next hszL hnd (by omega) hkin ho hs ht0 htN hed hv2.1 hv2.2,fun j hj=>?_,fun j hj=>?_,fun j hj=>?_,fun t hno=>?_,fun l ol t hlk h1 h2 h3 h4=>?_⟩
     ·rw [F4 (by omega)]
      by_cases e:k=j
      ·exact .inl e
      ·exact .inr (hlow j (by omega))
     ·rw [F4 (by omega)];exact .inr (hsub j hj)
     ·rw [F4 (by omega)] at hj
      rcases hj with e | e
      ·exact .inr (by omega)
      ·exact (hsup j e).imp id (by omega)
     ·have hne:t0≠t:=fun e=>hno k o hkt ho hkn (by rw [ht0,e])
      have:(a'.put o.dst v).tmps.getD t undef=a'.tmps.getD t undef:=by simp [ht0,Act.put,Array.getElem?_setIfInBounds_ne hne]
      rw [this]
      exact hsame t hno
     ·by_cases e:l=k
      ·subst e
       rw [ho] at h2;cases h2
       rw [ht0] at h4;cases h4
       have hval:(a'.put o.dst v).tmps.getD t0 undef=v:=by simp [ht0,Act.put,hIL.size,htN]
       rw [hval]
       exact hv1.congr fun x hx=>AR4 (hfree l o (Nat.le_refl _) hkt ho x hx)
      ·have hne:t0≠t:=fun e2=>e (L0 hnd h2 ho h4 (by rw [ht0,e2]))
       have:(a'.put o.dst v).tmps.getD t undef=a'.tmps.getD t undef:=by simp [ht0,Act.put,Array.getElem?_setIfInBounds_ne hne]
       rw [this]
       exact (hpure l ol t (by omega) h1 h2 h3 h4).congr fun x hx=>AR4 (hfree l ol (by omega) h1 h2 x hx)
  obtain ⟨L,a',hszL,hIL,hlow,hsub,hsup,hsame,hpure⟩:=key h (Nat.le_refl _)
  exact ⟨a',h,⟨Nat.le_refl _,hle,hl,hI.head,toB L a' w hIL hlow,hI.size,hIL.size,hI.defs.trans hIL.defs.symm,hsame,fun l ol t h1=>hpure l ol t (hlt' l h1) h1,hI.shut⟩,rfl⟩
 have allL:∀ listed:Array Bool,listed.size=ops.length→Region.ready .any ops.toArray listed=[]→∀ i,i<ops.length→isL listed i:=by
  intro listed hsz hr i
  induction i using Nat.strongRecOn with
  | _ i ih =>
   intro hi
   by_cases hh:isL listed i
   ·exact hh
   ·have:i∈Region.ready .any ops.toArray listed:=by
     refine F7.2 ⟨by simpa using hi,(C2 (by omega)).2 hh,fun o ho j hj=>?_⟩
     have:=hback' i o (by simpa using ho) j hj
     exact ih j this (by omega)
    rw [hr] at this;cases this
 have done:∀ listed a w,listed.size=ops.length→(∀ i,i<ops.length→isL listed i)→(InvA N ds ops w0 h sp a0 listed a w∨∃ a' p,InvB P ro N ops h lt Q listed a a' p w)→Q .normal a w:=by
  intro listed a w hsz hl hJ
  have hB:∃ a' p,InvB P ro N ops h lt Q listed a a' p w:=by
   rcases hJ with hI | hB
   ·obtain ⟨a',p,hB,_⟩:=ghost listed a w hsz hI (fun j hj _=>hl j (by omega))
    exact ⟨a',p,hB⟩
   ·exact hB
  obtain ⟨a',p,hB⟩:=hB
  have hn:ops.length≤p:=Nat.le_of_not_lt fun hh=>hB.high p (Nat.le_refl _) (hl p hh)
  have hwp:=hB.wp
  rw [List.drop_of_length_le hn] at hwp
  exact hQc a a' w hwp (hB.sz.trans hB.sz'.symm) hB.df fun t=>hB.same t fun l ol _ hol hnl=>absurd (hl l (by
   rcases Nat.lt_or_ge l ops.length with h' | h'
   ·exact h'
   ·rw [List.getElem?_eq_none h'] at hol;cases hol)) hnl
 intro fuel
 induction fuel with
 | zero =>
  intro listed a w hsz hc hJ
  have hl:∀ i,i<ops.length→isL listed i:=by
   intro i hi
   have:=AB5 listed ops.length (by omega) i hi
   by_cases hh:isL listed i
   ·exact hh
   ·have:=(C2 (by omega:i<listed.size)).2 hh
    simp_all
  refine ⟨?_,done listed a w hsz hl hJ⟩
  refine List.eq_nil_iff_forall_not_mem.2 fun i hi=>?_
  obtain ⟨h1,h2,_⟩:=F7.1 hi
  have h1':i<ops.length:=by simpa using h1
  exact (C2 (by omega)).1 h2 (hl i h1')
 | succ fuel ih =>
  intro listed a w hsz hc hJ
  refine ⟨fun hr=>done listed a w hsz (allL listed hsz hr) hJ,fun i hi=>?_⟩
  obtain ⟨hin,hun,hed⟩:=F7.1 hi
  have hin':i<ops.length:=by simpa using hin
  have hunl:¬ isL listed i:=(C2 (by omega)).1 hun
  obtain ⟨o,ho⟩:∃ o,ops[i]?=some o:=⟨_,List.getElem?_eq_getElem hin'⟩
  have hed':∀ j,edgeTo o j=true→isL listed j:=hed o (by simpa using ho)
  have hsz':(listed.setIfInBounds i true).size=ops.length:=by simpa using hsz
  have hcnt:cnt (listed.setIfInBounds i true) ops.length≤fuel:=by
   have:=R0 listed i hun ops.length hin'
   omega
  have hset:∀ j,isL (listed.setIfInBounds i true) j↔(i=j∨isL listed j):=fun j=>F4 (by omega)
  obtain ⟨hgo,hdo⟩:=hgn i o ho
  have hw:Region.wanted o (yielded ops.toArray a.tmps)=true:=by simp [Region.wanted,hgo]
  unfold wpOpIn
  simp only [List.getElem?_toArray,ho]
  rw [if_pos hw]
  have part2:∀ a' p,InvB P ro N ops h lt Q listed a a' p w→o.wpIn (wf ro) 0 P a w (wpAnyIn (wf ro) 0 P .any ops.toArray Q fuel (listed.setIfInBounds i true)) Q:=by
   intro a' p hB
   have hshut':∀ (j:Nat) (oj:Oper),ops[j]?=some oj→isL (listed.setIfInBounds i true) j→∀ k,edgeTo oj k=true→isL (listed.setIfInBounds i true) k:=by
    intro j oj hoj hlj k hk
    rw [hset] at hlj ⊢
    by_cases e:i=j
    ·subst e
     rw [ho] at hoj;cases hoj
     exact .inr (hed' k hk)
    ·exact .inr (hB.shut j oj hoj (hlj.resolve_left e) k hk)
   cases hlat:isLate lt i with
   | true =>
    have hih:=hlt' i hlat
    obtain ⟨hpu,htm⟩:=hlop i o hlat ho
    have hok:=hop i o hih ho
    simp only [okOp,Bool.and_eq_true] at hok
    obtain ⟨t0,ht0⟩:=Option.isSome_iff_exists.1 hok.1.1.1.1.2
    have htN:t0<N:=by have:=hok.1.1.1.1.1;simpa [ht0,dOk,Nat.blt_eq] using this
    have hp:=hB.late i o t0 hlat ho hunl ht0
    have hopn:∀ x∈o.op.operands,a.eval x=a'.eval x:=by
     intro x hx
     cases x with
     | tmp t =>
      refine hB.same t fun l ol hll hol hnl hdl=>?_
      rcases htm t (AG8 hx) with ⟨p',hp',hpt,hpl⟩ | h1
      ·obtain ⟨h2,oj,hoj,hdj⟩:=hdepd i o p' hih ho hp'
       rw [hpt] at hdj
       have:=L0 hnd hol hoj hdl hdj
       rw [this] at hnl
       exact hnl (hed' _ h2)
      ·exact h1 ol (List.mem_iff_getElem?.2 ⟨l,hol⟩) hdl
     | _=>rfl
    have hrun:=hp a.eval hopn w
    have hnd':∀ c,o.op≠.defer c:=fun c e=>by unfold pureOp at hpu;rw [e] at hpu;cases hpu
    refine ⟨fun _ _=>trivial,?_⟩
    show o.uponIn (wf ro) 0 P a _ Q ((o.semAt ro a.eval).run P w)
    rw [AG3 hnd',hrun]
    refine ih _ _ _ hsz' hcnt (.inr ⟨a',p,hB.hp,hB.pl,fun j hj hnl=>(hset j).2 (.inr (hB.low j hj hnl)),fun j hj=>?_,hB.wp,by simpa [ht0,Act.put] using hB.sz,hB.sz',by simpa [ht0,Act.put] using hB.df,fun t hno=>?_,fun l ol t h1 h2 h3 h4=>?_,hshut'⟩)
    ·rw [hset]
     rintro (e | e)
     ·have:=hB.hp;omega
     ·exact hB.high j hj e
    ·by_cases e:t0=t
     ·subst e
      simp [ht0,Act.put,hB.sz,htN]
     ·have:(a.put o.dst (a'.tmps.getD t0 undef)).tmps.getD t undef=a.tmps.getD t undef:=by simp [ht0,Act.put,Array.getElem?_setIfInBounds_ne e]
      rw [this]
      refine hB.same t fun l ol h1 h2 h3 h4=>?_
      by_cases el:l=i
      ·subst el;rw [ho] at h2;cases h2;rw [ht0] at h4;cases h4;exact e rfl
      ·exact hno l ol h1 h2 (fun hh=>by rw [hset] at hh;rcases hh with hh | hh;exact el hh.symm;exact h3 hh) h4
    ·exact hB.late l ol t h1 h2 (fun hh=>h3 ((hset l).2 (.inr hh))) h4
   | false =>
    have hip:p≤i:=Nat.le_of_not_lt fun hh=>hunl (hB.low i hh hlat)
    have hpi:p=i:=by
     rcases Nat.lt_or_ge p i with hh | hh
     ·have hpl:isLate lt p=false:=by
       cases hx:isLate lt p with
       | false=>rfl
       | true=>have:=hlt' p hx;have:=hB.hp;omega
      exact absurd (htail listed hB.shut i o (by have:=hB.hp;omega) ho hed' p hh hpl) (hB.high p (Nat.le_refl _))
     ·omega
    subst hpi
    have hd:ops.drop p=o::ops.drop (p+1):=by
     rw [List.drop_eq_getElem_cons hin']
     congr 1
     have:=List.getElem?_eq_getElem hin'
     rw [ho] at this;exact (Option.some.inj this).symm
    have hwp:=hB.wp
    rw [hd] at hwp
    have hw':Region.wanted o (yielded ops.toArray a'.tmps)=true:=by simp [Region.wanted,hgo]
    simp only [wpListIn,hw',if_true] at hwp
    have hk:=htl p o hB.hp ho
    simp only [okTailL,Bool.and_eq_true,List.all_eq_true] at hk
    obtain ⟨⟨_,hkind⟩,hlts⟩:=hk
    have hopn:∀ x∈o.op.operands,a.eval x=a'.eval x:=by
     intro x hx
     cases x with
     | tmp t =>
      refine hB.same t fun l ol hll hol hnl hdl=>?_
      have:=hlts l (AE5.1 hll)
      simp only [hol,Bool.or_eq_true,List.all_eq_true] at this
      rcases this with h1 | h1
      ·have:=h1 t (AG8 hx)
       rw [hdl] at this
       simp at this
      ·exact hnl (hclose listed hB.shut p o ho hed' l h1)
     | _=>rfl
    refine T1 (a':=a') (next':=wpListIn (wf ro) 0 P ops.toArray Q (ops.drop (p+1))) (fun c e=>by rw [e] at hkind;cases hkind) (fun cs b e=>by rw [e] at hkind;cases hkind) hopn hQ (fun dd v w' hn=>?_) hwp
    have hput:∀ (b:Act) (t:Tmp),o.dst≠some t→(b.put o.dst v).tmps.getD t undef=b.tmps.getD t undef:=by
     intro b t hne
     cases hdst:o.dst with
     | none=>rfl
     | some u =>
      have:u≠t:=fun e=>hne (by rw [hdst,e])
      simp [Act.put,Array.getElem?_setIfInBounds_ne this]
    have hputs:∀ (b:Act) (t:Tmp),b.tmps.size=N→o.dst=some t→(b.put o.dst v).tmps.getD t undef=v:=by
     intro b t hb hdst
     have:t<N:=by rw [hdst] at hdo;simpa [dOk,Nat.blt_eq] using hdo
     simp [hdst,Act.put,hb,this]
    have hsz2:∀ b:Act,(b.put o.dst v).tmps.size=b.tmps.size:=fun b=>by cases o.dst<;>simp [Act.put]
    have hdf2:∀ b:Act,(b.put o.dst v).defers=b.defers:=fun b=>by cases o.dst<;>simp [Act.put]
    refine ih _ _ _ hsz' hcnt (.inr ⟨_,p+1,by have:=hB.hp;omega,by omega,fun j hj hnl=>?_,fun j hj=>?_,hn,?_,?_,?_,fun t hno=>?_,fun l ol t h1 h2 h3 h4=>?_,hshut'⟩)
    ·rw [hset]
     by_cases e:p=j
     ·exact .inl e
     ·exact .inr (hB.low j (by omega) hnl)
    ·rw [hset]
     rintro (e | e)
     ·omega
     ·exact hB.high j (by omega) e
    ·rw [hsz2];exact hB.sz
    ·rw [hsz2];exact hB.sz'
    ·rw [hdf2,hdf2]
     show dd++a.defers=dd++a'.defers
     rw [hB.df]
    ·by_cases e:o.dst=some t
     ·exact (hputs { a with defers:=dd++a.defers } t hB.sz e).trans (hputs { a' with defers:=dd++a'.defers } t hB.sz' e).symm
     ·refine (hput { a with defers:=dd++a.defers } t e).trans (Eq.trans ?_ (hput { a' with defers:=dd++a'.defers } t e).symm)
      show a.tmps.getD t undef=a'.tmps.getD t undef
      refine hB.same t fun l ol h1 h2 h3 h4=>?_
      refine hno l ol h1 h2 (fun hh=>?_) h4
      rw [hset] at hh
      rcases hh with hh | hh
      ·rw [←hh,hlat] at h1;cases h1
      ·exact h3 hh
    ·have hne:o.dst≠some t:=fun e=>by
      have:=L0 hnd h2 ho h4 e
      rw [this,hlat] at h1;cases h1
     have hpp:(({ a' with defers:=dd++a'.defers }:Act).put o.dst v).tmps.getD t undef=a'.tmps.getD t undef:=hput { a' with defers:=dd++a'.defers } t hne
     rw [hpp]
     have h3':¬ isL listed l:=fun hh=>h3 ((hset l).2 (.inr hh))
     refine (hB.late l ol t h1 h2 h3' h4).congr fun x hx=>?_
     rw [AR4 (a:=({ a' with defers:=dd++a'.defers }:Act)) fun u hu hdst=>?_]
     ·cases x<;>rfl
     ·subst hu
      obtain ⟨_,htm⟩:=hlop l ol h1 h2
      rcases htm u (AG8 hx) with ⟨p',hp',hpt,hpl⟩ | h5
      ·obtain ⟨_,oj,hoj,hdj⟩:=hdepd l ol p' (hlt' l h1) h2 hp'
       rw [hpt] at hdj
       have:=L0 hnd ho hoj hdst hdj
       have:=hlt' l h1
       have:=hB.hp
       omega
      ·exact h5 o (List.mem_iff_getElem?.2 ⟨p,ho⟩) hdst
  rcases hJ with hI | ⟨a',p,hB⟩
  ·rcases Nat.lt_or_ge i h with hih | hih
   ·obtain ⟨s,t0,σ',hs,ht0,htN,hG,hopnd⟩:=hI.opnd ha0 hle hob hih ho (hop i o hih ho) hunl hed' hgo
    exact hG.wp hopnd fun v w' hv=>ih _ _ _ hsz' hcnt (.inl (hI.next hsz hnd hih hin' ho hs ht0 htN hed' hv.1 hv.2))
   ·obtain ⟨a',p,hB,_⟩:=ghost listed a w hsz hI (fun j hj hnl=>htail listed hI.shut i o hih ho hed' j (by omega) hnl)
    exact part2 a' p hB
  ·exact part2 a' p hB
/-- **a region that draws its order, some pure operations late** -/
theorem WC.parL {Q:Pst} {id:Nat} (hm:P.follows .mixedOrders=true) (h:Nat) (lt:List Nat) (sp:List Sp) (deps:List (List (Tmp×Nat))) (hchk:okParL ops N h deps lt=true)
  (hob:Obs P w0 σ0 (ops.take h) sp (ops.take h) sp deps)
  (hfin:∀ w,Ext w0 w→finQ (fun σ w=>WL P ro N ds ops.toArray (fun σ w=>Q .normal σ ds w) (ops.drop h) σ w) w (ops.take h) sp σ0):WC P ro N Q (.region id ops.toArray true) σ0 ds w0:=by
 refine ⟨fun a ha=>?_⟩
 have main:(Code.region id ops.toArray true).wpIn (wf ro) 0 P (fun e a w=>e=.normal∧∃ σ',Agr N σ' ds a∧Q .normal σ' ds w) a w0:=by
  refine wpIn_region_draw fun t=>?_
  simp only [Region.schedule,hm,Bool.true_or,if_true]
  refine wpAnyIn_sound ops.toArray.size t _ a _ ?_
  have hfalse:∀ i,¬ isL (Array.replicate ops.toArray.size false) i:=by
   intro i
   unfold isL
   by_cases hi:i<ops.length<;>simp [hi]
  refine Au0 hchk ha hob (fun w he=>?_) (fun e a w hq=>hq.1) (fun a a' w hq h1 h2 h3=>⟨rfl,?_⟩) _ _ _ _ (by simp) (by simpa using cnt_le _ _) (.inl ⟨ha.size,ha.defs,(Below.refl _ w0).drew,fun i o s t _ _ _ hl=>absurd hl (hfalse i),fun t _=>rfl,fun i o _ hl=>absurd hl (hfalse i),fun i _=>hfalse i⟩)
  ·have key:∀ (os:List Oper) (ss:List Sp) (σ:Env),finQ (fun σ w=>WL P ro N ds ops.toArray (fun σ w=>Q .normal σ ds w) (ops.drop h) σ w) w os ss σ →
     finQ (fun σ w=>∀ a,Agr N σ ds a→wpListIn (wf ro) 0 P ops.toArray (fun e a w=>e=.normal∧∃ σ',Agr N σ' ds a∧Q .normal σ' ds w) (ops.drop h) a w) w os ss σ:=by
    intro os
    induction os with
    | nil=>intro ss σ hq;exact WL.out hq
    | cons o os ih =>
     intro ss σ hq
     cases ss with
     | nil=>exact WL.out hq
     | cons s ss =>
      cases s with
      | inl v=>exact ih ss _ hq
      | inr p=>exact fun v hv=>ih ss _ (hq v hv)
   exact key _ _ _ (hfin w he)
  ·obtain ⟨_,σ',hag,hk⟩:=hq
   exact ⟨σ',⟨h1.trans hag.size,h2.trans hag.defs,fun t v hv=>(h3 t).trans (hag.slot t v hv)⟩,hk⟩
 refine wpIn_mono main ?_
 rintro e a' w' ⟨rfl,σ',hag,hk⟩
 exact ⟨σ',ds,hag,hk⟩
end
end Go.Kx

namespace Go.Kx
open Go Go.RowKit
/-- the set without the blocks of Z -/
abbrev but (S Z:Nat→Prop):Nat→Prop:=fun k=>S k∧¬ Z k
/-- what a row of the call's own and the block g take -/
abbrev tak (g:Nat) (v:Value):Nat→Prop:=fun k=>k=g∨v.ownBlock=some k
section
variable {α:Type} {E:ER α} {t:TypeId} {S:Nat→Prop} {w w':World} {g:Nat} {l:List α}
/-- rows kept while another row grows -/
theorem FB.grow {v v':Value} (h:FB E t (fun k=>S k∧v.ownBlock≠some k) w g l) (hg:w.grownBy w' v.ownBlock) (hw:v'.ownBlock=v.ownBlock∨v'.ownBlock=some w.heap.size) (hne:v.ownBlock≠some g):FB E t (fun k=>S k∧v'.ownBlock≠some k) w' g l:=by
 have h1:FB E t (fun k=>(S k∧v.ownBlock≠some k)∧k<w.heap.size) w g l:=h.mono fun k hk hs=>⟨hs,hk⟩
 have h2:=h1.chg (Chg.grown hg) hne fun k hk=>hk.1.2
 refine h2.mono fun k _ hk=>⟨hk.1.1,?_⟩
 rcases hw with e | e
 ·rw [e];exact hk.1.2
 ·rw [e];intro e';cases e';exact Nat.lt_irrefl _ hk.2
end
end Go.Kx
namespace Go.Proofs.YtfilidfomgfnhaaGreat
open Go Go.Kx Go.RowKit
theorem un_I:Tryz.prog.underlying 25=some (.slice 3):=by kernel_rfl
theorem AQ3:infoOf Tryz.prog 3=some (.int .i64 0,1,8):=by kernel_rfl
theorem E2:tyOf Tryz.prog 3=some (false,1):=by kernel_rfl
theorem Ak2 {x:Int}:bslOf Tryz.prog 25 1 [(0,.int .i64 x)]=some (3,#[.int .i64 x]):=by kernel_rfl
theorem fld_EV0:fldOf Tryz.prog 159 0=some 0:=by kernel_rfl
theorem fld_EV1:fldOf Tryz.prog 159 1=some 1:=by kernel_rfl
theorem ty_E0:tyOf Tryz.prog 1=some (false,1):=by kernel_rfl
theorem ty_E1:tyOf Tryz.prog 157=some (false,1):=by kernel_rfl
/-- what the events do: D Z j d: after j pivots the product is d, kept in memory that avoids Z -/
structure Evs (P:Program) (xe xs:FuncId) (cape caps:Array Value) (M:Nat) (S0 X:Nat→Prop) (D:(Nat→Prop)→Nat→Rat→World→Prop):Prop where
 entE:Ent P xe
 entS:Ent P xs
 mono:∀ {Z Z':Nat→Prop} {j:Nat} {d:Rat} {W:World},D Z j d W→(∀ k,k<W.heap.size→Z' k→Z k)→D Z' j d W
 chg:∀ {Z:Nat→Prop} {j:Nat} {d:Rat} {W W':World},D Z j d W→Chg Z W W'→D Z j d W'
 exch:∀ {Z:Nat→Prop} {j:Nat} {d:Rat} {W:World},D Z j d W→(∀ k,Z k→k<W.heap.size∧¬ X k)→Calls P xe (([]:List Value).toArray++cape) W fun e W'=>∃ v,e=.returned v∧Chg X W W'∧D Z j (-d) W'
 scal:∀ {Z:Nat→Prop} {j:Nat} {d:Rat} {W:World} {v:Value} {q:QV},D Z j d W→(∀ k,Z k→k<W.heap.size∧¬ X k)→eQ.R (fun k=>S0 k∧¬ Z k∧¬ X k) W v q→qk M q→j≤1000→Calls P xs ([v].toArray++caps) W fun e W'=>∃ v',e=.returned v'∧Chg X W W'∧D Z (j+1) (d*qval q) W'
abbrev pInts (p:List Nat):List Int:=p.map fun (k:Nat)=>(k:Int)
theorem AH9:Ent Tryz.prog 154:=A0 Tryz.func154 (by kernel_rfl) rfl
theorem AG0 {S X:Nat→Prop} {w:World} {gb n cap C cols L M:Nat} {f:RM} {xe xs:FuncId} {cape caps:Array Value} {D:(Nat→Prop)→Nat→Rat→World→Prop}
  (up:Up S w) (hF:FB eV 32 S w gb (tabM n C f)) (hcap:n≤cap) (hcols:cols≤C) (hn:n≤1000) (hC:C≤1000) (hL:1≤L) (hsz:∀ i k,i<n→k<C→Rsz (f i k) L) (hM:bd L (min n cols)≤M) (hM2:M≤40000000)
  (hSg:S gb) (hX:∀ k,X k→k<w.heap.size∧k≠gb∧¬ S k) (ev:Evs Tryz.prog xe xs cape caps M S X D) (hD:D (fun k=>k=gb) 0 1 w) :
  Calls Tryz.prog 154 #[.slice (some ⟨gb,0,none⟩) n cap,.int .i64 cols,.agg #[.func (.func xe) #[] cape,.func (.func xs) #[] caps]] w fun e W=>∃ v,e=.returned v∧Chg (fun k=>k=gb∨X k) w W ∧
   eI.R (fun k=>w.heap.size≤k) W v (pInts (elim n f cols).2)∧FB eV 32 S W gb (tabM n C (elim n f cols).1)∧D (fun k=>k=gb) (elim n f cols).2.length (elimD n f cols) W:=by
 have hgb:=hF.lt
 refine enterG Tryz.func154 rfl Tryz.ntmps154 rfl ?_
 refine .seq (.region (.box rfl rfl fun w1 b5 n1=>.asg rfl rfl (.nil (.seq (.region (.asg rfl rfl (.nil ?_)))))))
 obtain ⟨e1,k5,hb5,hs1⟩:=n1
 replace k5:Blk w1 b5 159 #[.func (.func xe) #[] cape,.func (.func xs) #[] caps]:=k5
 generalize hfe:Value.func (.func xe) #[] cape=fe at k5
 generalize hfs:Value.func (.func xs) #[] caps=fs at k5
 generalize hY:(fun k=>k=gb∨X k)=Y
 have hYi:∀ k,(k=gb∨X k)→Y k:=fun k h=>by rw [←hY];exact h
 have hYo:∀ k,Y k→(k=gb∨X k):=fun k h=>by rw [←hY] at h;exact h
 have hYw:∀ k,Y k→k<w.heap.size:=fun k hk=>by
  rcases hYo k hk with rfl | hk
  ·exact hgb
  ·exact (hX k hk).1
 have hb5X:¬ Y b5:=fun h=>by have:=hYw _ h;omega
 have hXg:¬ X gb:=fun h=>(hX _ h).2.1 rfl
 have hSX:∀ k,S k→¬ X k:=fun k hk hx=>(hX k hx).2.2 hk
 refine .mid (α:=Value) (fun vp=>[(7,vp)]) (fun vp W=>Chg Y w W∧OwnL (eInt .i64) 3 w.heap.size S W vp (pInts (elim n f cols).2)∧FB eV 32 (fun k=>S k∧vp.ownBlock≠some k) W gb (tabM n C (elim n f cols).1)∧D (tak gb vp) (elim n f cols).2.length (elimD n f cols) W) ?_ ?_
 rotate_left
 ·rintro vp W ⟨hc,ho,hf,hd⟩
  refine .seq (.region (.mv rfl rfl (.asg rfl rfl (.nil (.ret ?_)))))
  refine .plain [_] Tryz.results154 ⟨rfl,trivial⟩ ⟨hc,?_,hf.mono (fun k _ h=>h.1),ev.mono hd fun k _ h=>.inl h⟩
  obtain ⟨es,h1,h2⟩:=ho
  exact RL.ofOwn h1 rfl ⟨h2.1,fun i e x he hx=>h2.2 i e x he hx⟩ (fun k hk=>hk)
 refine .seq (.region (.mv rfl rfl (.mv rfl rfl (.nil ?_))))
 refine .block (.loop (α:=Nat×Value) (fun y=>[(0,.slice (some ⟨gb,0,none⟩) n cap),(5,.pointer (some ⟨b5,0,none⟩)),(7,y.2),(16,.int .i64 (cols:Nat)),(17,.int .i64 (y.1:Nat))])
  (fun y W=>Chg Y w W∧y.1≤cols∧Blk W b5 159 #[fe,fs]∧OwnL (eInt .i64) 3 w.heap.size S W y.2 (pInts (elim n f y.1).2)∧FB eV 32 (fun k=>S k∧y.2.ownBlock≠some k) W gb (tabM n C (elim n f y.1).1)∧D (tak gb y.2) (elim n f y.1).2.length (elimD n f y.1) W)
  (fun y=>cols-y.1) (0,.slice none 0 0) ?_ ?_ ?_)
 ·exact lkA rfl
 ·refine ⟨Chg.ext e1,Nat.zero_le _,k5,OwnL.nil,(hF.ext e1).mono fun k _ h=>⟨h,by simp [Value.ownBlock]⟩,ev.chg (ev.mono hD fun k _ h=>?_) (Chg.ext e1)⟩
  rcases h with h | h
  ·exact h
  ·simp [Value.ownBlock] at h
 rintro ⟨c,vp⟩ W ⟨hc,hcc,k5,ho,hf,hd⟩
 replace hcc:c≤cols:=hcc
 replace ho:OwnL (eInt .i64) 3 w.heap.size S W vp (pInts (elim n f c).2):=ho
 replace hf:FB eV 32 (fun k=>S k∧vp.ownBlock≠some k) W gb (tabM n C (elim n f c).1):=hf
 replace hd:D (tak gb vp) (elim n f c).2.length (elimD n f c) W:=hd
 refine .weak [(0,.slice (some ⟨gb,0,none⟩) n cap),(5,.pointer (some ⟨b5,0,none⟩)),(7,vp),(16,.int .i64 (cols:Nat)),(17,.int .i64 (c:Nat))] (fun t v h=>h) ?_
 have hszW:=hc.size
 have hech:=O8 n f c
 have hql:=hech.len
 have hcC:c≤C:=by omega
 have hsg:=AR6 hL hsz c hcC
 have hnext:elim n f (c+1)=estep n c (elim n f c):=rfl
 have hnextD:elimD n f (c+1)=estepD n c (elim n f c) (elimD n f c):=rfl
 have hBM:bd L (elim n f c).2.length≤M:=Nat.le_trans (AH8 L (by have:=hech.len_c;omega)) hM
 have hBp:=Ay0 hL (elim n f c).2.length
 obtain ⟨ao,co,hvo⟩:=ho.slice
 have hplen:(pInts (elim n f c).2).length=(elim n f c).2.length:=by simp
 rw [hplen] at hvo
 have hown:∀ k,vp.ownBlock=some k→w.heap.size≤k∧k<W.heap.size:=by
  obtain ⟨es,h1,_⟩:=ho
  exact fun k hk=>h1.lt k hk
 rcases Nat.lt_or_ge c cols with hlt | hge
 rotate_left
 ·refine .seq (.region (.lssF rfl rfl rfl (by omega) (.nil (.seq (.condF rfl (.exit ?_))))))
  have:c=cols:=by omega
  subst this
  exact ⟨rfl,vp,lkA rfl,hc,ho,hf,hd⟩
 have hcC:c<C:=by omega
 refine .seq (.region (.lssT rfl rfl rfl (by omega) (.nil (.seq (.condT rfl (.skip (.seq (.block (.seq (.region (.mv rfl rfl (.asg rfl rfl (.nil ?_)))))))))))))
 generalize hq:(elim n f c).2.length=q at *
 generalize hg:(elim n f c).1=g at *
 have hoR:eI.R (fun _=>True) W vp (pInts (elim n f c).2):=by
  obtain ⟨es,h1,h2⟩:=ho
  exact RL.ofOwn h1 rfl ⟨h2.1,fun i e x he hx=>h2.2 i e x he hx⟩ (fun k hk=>trivial)
 refine .seq (.region (.mv rfl rfl (.lenR un_I rfl rfl hoR ?_)))
 rw [hplen]
 refine .asg rfl rfl (.nil (.seq (.seq (.region (.mv rfl rfl (.mv rfl rfl (.len un_M rfl rfl ?_)))))))
 by_cases hqn:q=n
 ·refine .eqlT rfl rfl rfl (by omega) (.nil (.condT rfl (.exit ?_)))
  obtain ⟨h1,h2⟩:=AW8 (n:=n) (f:=f) (c:=c) (by omega) (cols-c)
  rw [show c+(cols-c)=cols by omega] at h1 h2
  rw [h1,h2,hq,hg]
  exact ⟨rfl,_,lkA rfl,hc,ho,hf,hd⟩
 refine .eqlF rfl rfl rfl (by omega) (.nil (.condF rfl (.skip (.seq (.region (.mv rfl rfl (.mv rfl rfl (.mv rfl rfl ?_))))))))
 have hM0:eM.R S w (.slice (some ⟨gb,0,none⟩) n cap) (tabM n C g)→True:=fun _=>trivial
 have hMW:eM.R S W (.slice (some ⟨gb,0,none⟩) n cap) (tabM n C g):=by
  have:=(hf.mono (S':=S) fun k _ h=>h.1).toR (c:=cap) (hsz:=by decide) hSg (by rw [A5];exact hcap) (by rw [A5];omega)
  rwa [A5] at this
 refine .call _ rfl AK7 rfl (AJ4 hMW hql hcC (by omega)) fun v2 W2 e2 h2=>?_
 subst h2
 have hc2:=hc.trans (Chg.ext e2)
 have k5:=k5.ext e2
 have ho:=ho.ext e2
 have hf:=hf.ext e2
 have hd:=ev.chg hd (Chg.ext e2)
 have hszW2:=e2.size
 have hstep:elim n f (c+1)=match pivRow g c (n-q) q with
  | none=>elim n f c
  | some r=>(clr (swp g r q) q c,(elim n f c).2++[c]):=by rw [hnext];unfold estep;rw [hq,hg]<;>rfl
 have hstepD:elimD n f (c+1)=match pivRow g c (n-q) q with
  | none=>elimD n f c
  | some r=>(if r=q then elimD n f c else -elimD n f c)*g r c:=by rw [hnextD];unfold estepD;rw [hq,hg]<;>rfl
 cases hp:pivRow g c (n-q) q with
 | none =>
  rw [hp] at hstep hstepD
  refine .mv rfl rfl (.ext rfl rfl rfl (.ext rfl rfl rfl (.asg rfl rfl (.asg rfl rfl (.nil (.seq (.seq (.region (.mv rfl rfl (.not_ rfl rfl (.nil (.condT rfl (.exit ?_)))))))))))))
  refine .region (.add rfl rfl rfl (.mv rfl rfl (.nil ?_)))
  rw [wI (by omega)]
  refine ⟨rfl,(c+1,vp),lkA rfl,⟨hc2,hlt,k5,?_,?_,?_⟩,by show cols-(c+1)<cols-c;omega⟩
  ·rw [hstep];exact ho
  ·rw [hstep,hg];exact hf
  ·rw [hstep,hstepD,hq];exact hd
 | some r =>
 rw [hp] at hstep hstepD
 obtain ⟨hr1,hr2,hr3,_⟩:=J4 hp
 have hrn:r<n:=by omega
 have hqlt:q<n:=by omega
 refine .mv rfl rfl (.ext rfl rfl rfl (.ext rfl rfl rfl (.asg rfl rfl (.asg rfl rfl (.nil (.seq (.seq (.region (.mv rfl rfl (.not_ rfl rfl (.nil (.condF rfl (.skip ?_)))))))))))))
 have upT:∀ {W':World},W2.heap.size≤W'.heap.size→Up (fun k=>(S k∧vp.ownBlock≠some k)∧k≠gb) W':=fun hs k hk=>⟨⟨up k (by omega),fun h=>by have:=(hown k h).2;omega⟩,by omega⟩
 have hTZ:∀ k,((S k∧vp.ownBlock≠some k)∧k≠gb)→S k∧¬ tak gb vp k∧¬ X k:=fun k hk=>⟨hk.1.1,fun h=>by rcases h with h | h;exact hk.2 h;exact hk.1.2 h,hSX k hk.1.1⟩
 have hZ:∀ {W':World},W2.heap.size≤W'.heap.size→∀ k,tak gb vp k→k<W'.heap.size∧¬ X k:=fun hs k hk=>by
  rcases hk with rfl | hk
  ·exact ⟨by omega,hXg⟩
  ·exact ⟨by have:=(hown k hk).2;omega,fun h=>by have:=(hX k h).1;have:=(hown k hk).1;omega⟩
 have hfX:∀ k,(S k∧vp.ownBlock≠some k)→¬ X k:=fun k hk=>hSX k hk.1
 have hXY:∀ {A B:World},Chg X A B→Chg Y A B:=fun h=>h.mono fun k _ hk=>hYi k (.inr hk)
 have hUY:∀ {A B:World},Upd A B gb→Chg Y A B:=fun h=>Chg.upd h (hYi _ (.inl rfl))
 have hUZ:∀ {A B:World},Upd A B gb→Chg (tak gb vp) A B:=fun h=>Chg.upd h (.inl rfl)
 refine .mid (α:=Unit) (fun _=>[(0,.slice (some ⟨gb,0,none⟩) n cap),(5,.pointer (some ⟨b5,0,none⟩)),(7,vp),(8,.int .i64 (c:Nat)),(9,.int .i64 (q:Nat)),(16,.int .i64 (cols:Nat)),(17,.int .i64 (c:Nat))])
  (fun _ W3=>Chg Y W2 W3∧FB eV 32 (fun k=>S k∧vp.ownBlock≠some k) W3 gb (tabM n C (swp g r q))∧D (tak gb vp) q (if r=q then elimD n f c else -elimD n f c) W3) ?_ ?_
 ·refine .seq (.region (.mv rfl rfl (.mv rfl rfl ?_)))
  by_cases hrq:r=q
  ·refine .neqF rfl rfl rfl (by omega) (.nil (.condF rfl (.skip ?_)))
   refine ⟨rfl,(),lkA rfl,Chg.refl _,?_,?_⟩
   ·have:tabM n C (swp g r q)=tabM n C g:=E8 fun i k _ _=>by
     unfold swp
     by_cases ei:i=q
     ·simp [hrq,ei]
     ·simp [hrq,ei]
    rw [this];exact hf
   ·rw [if_pos hrq];exact hd
  ·refine .neqT rfl rfl rfl (by omega) (.nil (.condT rfl (.seq ?_)))
   refine .heldT follows true (fun _=>True) [some _,some (.int .i64 (r:Nat)),some _,some (.int .i64 (q:Nat)),some _,some (.int .i64 (q:Nat)),some (.pointer (some ⟨gb,0+q*1,none⟩)),none,some _,some (.int .i64 (r:Nat)),some (.pointer (some ⟨gb,0+r*1,none⟩)),none,some (.pointer (some ⟨gb,0+r*1,none⟩)),none,some (.pointer (some ⟨gb,0+q*1,none⟩)),none]
    (.two 7 (.one 11 (.one 13 (.one 15 .done))) 11 (.one 7 (.one 13 (.one 15 .done)))) (by kernel_rfl) (by kernel_rfl)
    ⟨fun _ _=>v_mv rfl,fun _ _=>v_mv rfl,fun _ _=>v_mv rfl,fun _ _=>v_mv rfl,fun _ _=>v_mv rfl,fun _ _=>v_mv rfl,fun _ _=>H0 (i:=q) un_M ty_V rfl rfl hqlt,fun _ _=>v_mv rfl,fun _ _=>v_mv rfl,fun _ _=>H0 (i:=r) un_M ty_V rfl rfl hrn,fun _ _=>H0 (i:=r) un_M ty_V rfl rfl hrn,fun _ _=>H0 (i:=q) un_M ty_V rfl rfl hqlt,trivial⟩ ?_
   intro W3 e3 _
   obtain ⟨x7,h7,p7⟩:=(hf.ext e3).at_ (by decide) (E7 hqlt)
   obtain ⟨x11,h11,p11⟩:=(hf.ext e3).at_ (by decide) (E7 hrn)
   have q7:PtrX W3 ⟨gb,0+q*1,none⟩ x7:=by rw [Nat.zero_add];exact p7
   have q11:PtrX W3 ⟨gb,0+r*1,none⟩ x11:=by rw [Nat.zero_add];exact p11
   refine .gv2 (.gv rfl trivial rfl (AP0 (E:=eV) ty_V rfl q7 h7).gv ?_) (.gv rfl trivial rfl (AP0 (E:=eV) ty_V rfl q11 h11).gv ?_)
   all_goals
    rintro _ _ ⟨rfl,rfl⟩
    refine .gv rfl trivial rfl (by first | exact (AP0 (E:=eV) ty_V rfl q11 h11).gv | exact (AP0 (E:=eV) ty_V rfl q7 h7).gv) ?_
    rintro _ _ ⟨rfl,rfl⟩
    refine .gv rfl trivial rfl (AA9 (E:=eV) (i:=r) (by decide) ty_V rfl rfl (hf.ext e3) rfl (by rw [A5];exact hrn) (Nat.zero_add _) h7) ?_
    rintro _ W4 ⟨f4,u4⟩
    refine .gv rfl trivial rfl (AA9 (E:=eV) (i:=q) (by decide) ty_V rfl rfl f4 rfl (by rw [List.length_set,A5];exact hqlt) (Nat.zero_add _) (ER.upd eV h11 u4 (fun h=>h.2 rfl))) ?_
    rintro _ W5 ⟨f5,u5⟩
    refine .nil (.inl rfl) ?_
    rw [V3 hrn,V3 hqlt] at f5
    have e5:tabM n C (fun j k=>if j=q then g r k else if j=r then g q k else g j k)=tabM n C (swp g r q):=E8 fun i k _ _=>by
     unfold swp
     by_cases e1:i=q
     ·subst e1;rw [if_pos rfl,if_neg (fun h=>hrq h.symm),if_pos rfl]
     ·by_cases e2:i=r
      ·rw [if_neg e1,if_pos e2,if_pos e2]
      ·rw [if_neg e1,if_neg e2,if_neg e2,if_neg e1]
    rw [e5] at f5
    have c25:Chg Y W2 W5:=((Chg.ext e3).trans (hUY u4)).trans (hUY u5)
    have d5:=ev.chg hd (((Chg.ext e3).trans (hUZ u4)).trans (hUZ u5))
    have k55:=c25.blk k5 hb5X
    refine .region (.fa fld_EV0 rfl rfl (.ld ty_E0 rfl rfl k55 rfl ?_))
    refine .callvG [] rfl (show some fe=some (Value.func (.func xe) #[] cape) by rw [hfe]) ev.entE rfl (ev.exch d5 (hZ c25.size)) ?_
    rintro v6 W6 ⟨c6,d6⟩
    refine .nil ⟨rfl,(),lkA rfl,c25.trans (hXY c6),f5.chg c6 hXg hfX,?_⟩
    rw [if_neg hrq];exact d6
 rintro _ W3 ⟨c3,f3,d3⟩
 have k5:=c3.blk k5 hb5X
 have hs3:=c3.size
 generalize hdd:(if r=q then elimD n f c else -elimD n f c)=dd at *
 have hsq:swp g r q q c=g r c:=by
  unfold swp
  by_cases e:q=r
  ·simp [e]
  ·simp [e]
 have hss:=Al7 (a:=r) (b:=q) hrn hqlt hsg
 generalize hs:swp g r q=s at *
 have hs0:s q c≠0:=by rw [hsq];exact hr3
 have hqk:qk (bd L q) (qc (s q c)):=O6 (hss q c hqlt hcC)
 refine .seq ?_
 refine .par follows 9 [.inl _,.inl fs,.inl _,.inl (.int .i64 (q:Nat)),.inl _,.inr (eV.at (fun k=>(S k∧vp.ownBlock≠some k)∧k≠gb) (tab C (s q))),.inl (.int .i64 (c:Nat)),.inr (Ptr eQ (fun k=>(S k∧vp.ownBlock≠some k)∧k≠gb) (qc (s q c))),.inr (eQ.at (fun k=>(S k∧vp.ownBlock≠some k)∧k≠gb) (qc (s q c)))]
  [[],[(55,0)],[],[],[(57,2),(58,3)],[(59,4)],[],[(60,5),(61,6)],[(62,7)]] (by kernel_rfl) ⟨
  fun w e=>(v_fa fld_EV1 rfl).ob,fun w e=>(v_ld ty_E1 rfl (k5.ext e) rfl).ob,fun w e=>(v_mv rfl).ob,fun w e=>(v_mv rfl).ob,
  fun w e=>(H0 (i:=q) un_M ty_V rfl rfl hqlt).ob,
  fun w e=>X8 (E:=eV) (i:=q) (by decide) ty_V rfl (Nat.zero_add _) (f3.ext e) (E7 hqlt),
  fun w e=>(v_mv rfl).ob,
  fun w e x hx=>E0 (i:=c) un_V ty_Q rfl hx rfl (G1 hcC),
  fun w e p hp=>J5 ty_Q rfl hp,trivial⟩ ?_
 intro W4 e4 x5 _ x7 _ x8 h8
 refine .callvG [x8] rfl (show some fs=some (Value.func (.func xs) #[] caps) by rw [hfs]) ev.entS rfl (ev.scal (ev.chg d3 (Chg.ext e4)) (hZ (by have:=e4.size;omega)) (eQ.mono (fun k _ hk=>hTZ k hk) h8) (hqk.mono hBM) (by omega)) ?_
 rintro v5 W5 ⟨c5,d5⟩
 refine .nil ?_
 rw [A8] at d5
 have c35:Chg Y W3 W5:=(Chg.ext e4).trans (hXY c5)
 have k5:=c35.blk k5 hb5X
 have f5:=(f3.ext e4).chg c5 hXg hfX
 have hs5:=c35.size
 have up5:=upT (show W2.heap.size≤W5.heap.size by omega)
 refine .seq ?_
 refine .parL follows 13 [11] [.inr (eQ.at (fun k=>(S k∧vp.ownBlock≠some k)∧k≠gb) (qc ((1:Int):Rat))),.inl _,.inl (.int .i64 (q:Nat)),.inl _,.inr (eV.at (fun k=>(S k∧vp.ownBlock≠some k)∧k≠gb) (tab C (s q))),.inl (.int .i64 (c:Nat)),.inr (Ptr eQ (fun k=>(S k∧vp.ownBlock≠some k)∧k≠gb) (qc (s q c))),.inr (eQ.at (fun k=>(S k∧vp.ownBlock≠some k)∧k≠gb) (qc (s q c))),
   .inr (Two (eQ.at (fun k=>(S k∧vp.ownBlock≠some k)∧k≠gb) (qc (s q c)⁻¹)) (Is (.int .i64 0))),.inr (Two (eQ.at (fun k=>(S k∧vp.ownBlock≠some k)∧k≠gb) (qc (s q c)⁻¹)) (Is (.int .i64 0))),.inr (eQ.at (fun k=>(S k∧vp.ownBlock≠some k)∧k≠gb) (qc (s q c)⁻¹)),.inl (.int .i64 0),.inr (NewP W5.heap.size 55 zq.cells)]
  [[],[],[],[(67,1),(68,2)],[(69,3)],[],[(70,4),(71,5)],[(72,6)],[(66,0),(73,7)],[(74,8)],[(65,9)],[(65,9)],[]] (by kernel_rfl) ⟨
  fun w e=>(A2 _ C1 rfl (C0 (up5.ext e.size) (by decide) (by decide))).ob (A6 _ _ _),
  fun w e=>(v_mv rfl).ob,fun w e=>(v_mv rfl).ob,
  fun w e=>(H0 (i:=q) un_M ty_V rfl rfl hqlt).ob,
  fun w e=>X8 (E:=eV) (i:=q) (by decide) ty_V rfl (Nat.zero_add _) (f5.ext e) (E7 hqlt),
  fun w e=>(v_mv rfl).ob,
  fun w e x hx=>E0 (i:=c) un_V ty_Q rfl hx rfl (G1 hcC),
  fun w e p hp=>J5 ty_Q rfl hp,
  fun w e x hx y hy=>by
   have h1:qok (bd L q) (qc ((1:Int):Rat)):=(Rsz.int 1 (Nat.lt_of_lt_of_le (by decide) (Nat.pow_le_pow_right (by decide) hBp)) hBp).toOk
   have:=AR2 (up5.ext e.size) hx hy h1 hqk.1 hBp (by omega) (by rw [A8];exact hs0)
   rw [A8,A8,show ((1:Int):Rat) / s q c=(s q c)⁻¹ by rw [Rat.div_def];simp] at this
   exact (A2 _ AS6 rfl this).ob (T5 (A6 _ _ _) (AF9 _)),
  fun w e x hx=>ob_mv rfl hx (T5 (A6 _ _ _) (AF9 _)),
  fun w e x hx=>by
   obtain ⟨a,b,rfl,h1,rfl⟩:=hx
   exact L9 (v_ex rfl rfl) h1 (A6 _ _ _),
  fun w e x hx=>by
   obtain ⟨a,b,rfl,h1,rfl⟩:=hx
   exact (v_ex rfl rfl).ob,
  fun w e=>AA4 B7 e.size,trivial⟩ ?_
 intro W6 e6 x0 _ x4 _ x6 _ x7' _ x8' _ x9 _ x10 h10 x12 hx12
 obtain ⟨b12,rfl,hb12,k12⟩:=hx12
 have h10s:=Aa1 h10 k12 AC4
 refine .storeA (E:=eQ) ty_Q rfl rfl k12 rfl rfl h10s (fun h=>h.2 rfl) fun W7 k12 u7 h7=>.asg rfl rfl (.nil ?_)
 have x57:Ext W5 W7:=u7.below e6 hb12
 have h7:eQ.R (fun k=>(S k∧vp.ownBlock≠some k)∧k≠gb) W7 x10 (qc (s q c)⁻¹):=eQ.mono (fun k _ h=>h.1) h7
 have hx10:=shpA rfl h7
 have k5:=k5.ext x57
 have f7:=f5.ext x57
 have d7:=ev.chg d5 (Chg.ext x57)
 have up7:=up5.ext x57.size
 have c37:Chg Y W3 W7:=c35.trans (Chg.ext x57)
 have hki:qk (bd L q) (qc (s q c)⁻¹):=O6 ((hss q c hqlt hcC).inv hBp)
 have hkr:∀ i,i<n→vk (bd L q) (tab C (s i)):=fun i hi=>Q0 fun k hk=>hss i k hi hk
 refine .seq ?_
 refine .par follows 8 [.inl _,.inl (.int .i64 (q:Nat)),.inl x10,.inl _,.inl (.int .i64 (q:Nat)),.inl _,.inr (eV.at (fun k=>(S k∧vp.ownBlock≠some k)∧k≠gb) (tab C (s q))),.inr (eV.at (fun k=>(S k∧vp.ownBlock≠some k)∧k≠gb) (tab C fun k=>(s q c)⁻¹*s q k))]
  [[],[],[],[],[],[(80,3),(81,4)],[(82,5)],[(79,2),(83,6)]] (by kernel_rfl) ⟨
  fun w e=>(v_mv rfl).ob,fun w e=>(v_mv rfl).ob,fun w e=>((B8 ty_Q rfl (k12.ext e) (eQ.csz h7)).eq hx10.symm).ob,fun w e=>(v_mv rfl).ob,fun w e=>(v_mv rfl).ob,
  fun w e=>(H0 (i:=q) un_M ty_V rfl rfl hqlt).ob,
  fun w e=>X8 (E:=eV) (i:=q) (by decide) ty_V rfl (Nat.zero_add _) (f7.ext e) (E7 hqlt),
  fun w e x hx=>by
   have:=Ac8 (up7.ext e.size) (ER.ext eQ h7 e) hx hki (hkr q hqlt) hBp (by omega) (by rw [A1];omega)
   rw [A1,A8,F6 (g:=fun k=>(s q c)⁻¹*s q k) (fun k hk=>by rw [J3,if_pos hk])] at this
   exact (A2 _ Ag7 rfl this).ob (A6 _ _ _),trivial⟩ ?_
 intro W8 e8 x6b _ x7b h7b
 refine .ixB (i:=q) un_M ty_V rfl rfl rfl hqlt ?_
 refine .storeF (E:=eV) (i:=q) (by decide) ty_V rfl rfl (f7.ext e8) rfl (by rw [A5];exact hqlt) (Nat.zero_add _) h7b fun W9 f9 u9=>.nil ?_
 rw [V3 hqlt] at f9
 have f9':FB eV 32 (fun k=>S k∧vp.ownBlock≠some k) W9 gb (tabM n C (clrTo s q c 0)):=by rw [Ak0];exact f9
 clear f9
 have c39:Chg Y W3 W9:=(c37.trans (Chg.ext e8)).trans (hUY u9)
 have k9:=(Chg.trans (Chg.ext e8) (hUY u9)).blk k5 hb5X
 have d9:=ev.chg d7 (Chg.trans (Chg.ext e8) (hUZ u9))
 have hs39:=c39.size
 have hur:vk (bd L q+bd L q) (tab C fun k=>(s q c)⁻¹*s q k):=Q0 fun k hk=>((hss q c hqlt hcC).inv hBp).mul (hss q k hqlt hk)
 refine .mid (α:=Unit) (fun _=>[(0,.slice (some ⟨gb,0,none⟩) n cap),(5,.pointer (some ⟨b5,0,none⟩)),(7,vp),(8,.int .i64 (c:Nat)),(16,.int .i64 (cols:Nat)),(17,.int .i64 (c:Nat))])
  (fun _ Wx=>Chg Y W3 Wx∧Blk Wx b5 159 #[fe,fs]∧FB eV 32 (fun k=>S k∧vp.ownBlock≠some k) Wx gb (tabM n C (clr s q c))∧D (tak gb vp) (q+1) (dd*s q c) Wx) ?_ ?_
 ·refine .seq (.region (.mv rfl rfl (.len un_M rfl rfl (.mv rfl rfl (.nil ?_)))))
  refine .block (.loop (α:=Nat) (fun i=>[(0,.slice (some ⟨gb,0,none⟩) n cap),(5,.pointer (some ⟨b5,0,none⟩)),(7,vp),(8,.int .i64 (c:Nat)),(9,.int .i64 (q:Nat)),(16,.int .i64 (cols:Nat)),(17,.int .i64 (c:Nat)),(86,.slice (some ⟨gb,0,none⟩) n cap),(87,.int .i64 (n:Nat)),(88,.int .i64 (i:Nat))])
   (fun i Wx=>Chg Y W3 Wx∧i≤n∧Blk Wx b5 159 #[fe,fs]∧FB eV 32 (fun k=>S k∧vp.ownBlock≠some k) Wx gb (tabM n C (clrTo s q c i))∧D (tak gb vp) (q+1) (dd*s q c) Wx) (fun i=>n-i) 0 ?_ ?_ ?_)
  ·exact lkA rfl
  ·exact ⟨c39,Nat.zero_le _,k9,f9',d9⟩
  ·rintro i Wa ⟨ca,hi,ka,fa,da⟩
   have hsa:=ca.size
   have upa:=upT (show W2.heap.size≤Wa.heap.size by omega)
   rcases Nat.lt_or_ge i n with hin | hin
   rotate_left
   ·refine .seq (.region (.lssF rfl rfl rfl (by omega) (.nil (.seq (.condF rfl (.exit ?_))))))
    have:i=n:=by omega
    subst this
    rw [Aq7] at fa
    exact ⟨rfl,(),lkA rfl,ca,ka,fa,da⟩
   refine .seq (.region (.lssT rfl rfl rfl (by omega) (.nil (.seq (.condT rfl (.skip (.seq (.block (.seq (.region (.mv rfl rfl ?_)))))))))))
   refine .ixB (i:=i) un_M ty_V rfl rfl rfl hin (.ldF (E:=eV) (i:=i) (by decide) ty_V rfl rfl (Nat.zero_add _) fa (E7 hin) fun er her=>.asg rfl rfl (.asg rfl rfl (.nil ?_)))
   have hback:∀ {Wb:World} {σ:Env},Chg Y W3 Wb→Blk Wb b5 159 #[fe,fs]→FB eV 32 (fun k=>S k∧vp.ownBlock≠some k) Wb gb (tabM n C (clrTo s q c (i+1)))→D (tak gb vp) (q+1) (dd*s q c) Wb →
     Chg Y W3 Wb∧i+1≤n∧Blk Wb b5 159 #[fe,fs]∧FB eV 32 (fun k=>S k∧vp.ownBlock≠some k) Wb gb (tabM n C (clrTo s q c (i+1)))∧D (tak gb vp) (q+1) (dd*s q c) Wb:=fun h1 h2 h3 h4=>⟨h1,hin,h2,h3,h4⟩
   by_cases hiq:i=q
   ·refine .seq (.region (.mv rfl rfl (.mv rfl rfl (.neqF rfl rfl rfl (by omega) (.mv rfl rfl (.gs rfl rfl rfl rfl rfl (.gs rfl rfl rfl rfl rfl (.gs rfl rfl rfl rfl rfl (.gs rfl rfl rfl rfl rfl (.gs rfl rfl rfl rfl rfl (.gs rfl rfl rfl rfl rfl (.pick rfl rfl rfl (.nil (.condF rfl (.skip ?_)))))))))))))))
    refine .region (.add rfl rfl rfl (.mv rfl rfl (.nil ?_)))
    rw [wI (by omega)]
    refine ⟨rfl,i+1,lkA rfl,⟨ca,hin,ka,?_,da⟩,by show n-(i+1)<n-i;omega⟩
    have:tabM n C (clrTo s q c (i+1))=tabM n C (clrTo s q c i):=E8 fun j k _ _=>by
     rw [AE8]
     by_cases ej:j=i
     ·simp only [ej,hiq,if_true];unfold clrTo;simp
     ·simp only [ej,if_false]
    rw [this];exact fa
   ·have hrow:∀ k,clrTo s q c i i k=s i k:=fun k=>by unfold clrTo;rw [if_neg hiq,if_neg (by omega)]
    have hrowt:tab C (clrTo s q c i i)=tab C (s i):=F6 fun k _=>hrow k
    rw [hrowt] at her
    refine .seq (.region (.mv rfl rfl (.mv rfl rfl (.neqT rfl rfl rfl (by omega) (.mv rfl rfl (.gr rfl rfl rfl rfl (.mv rfl rfl (.gr rfl rfl rfl rfl (.mv rfl rfl (.gr rfl rfl rfl rfl ?_))))))))))
    refine .ixN (i:=c) un_V ty_Q rfl rfl her rfl (G1 hcC) fun p hp=>.gr rfl rfl rfl rfl (.ldE ty_Q rfl rfl hp fun ex hex=>.gr rfl rfl rfl rfl ?_)
    refine .call _ rfl P1 rfl (O7 hex) fun vs Wb eb hvs=>.gr rfl rfl rfl rfl ?_
    subst hvs
    rw [A8]
    have kb:=ka.ext eb
    have fb:=fa.ext eb
    have db:=ev.chg da (Chg.ext eb)
    have cb:=ca.trans (Chg.ext eb)
    have upb:=upa.ext eb.size
    have herb:=ER.ext eV her eb
    by_cases hz:s i c=0
    ·refine .neqF rfl rfl rfl (N7.2 hz) (.pick rfl rfl rfl (.nil (.condF rfl (.skip ?_))))
     refine .region (.add rfl rfl rfl (.mv rfl rfl (.nil ?_)))
     rw [wI (by omega)]
     refine ⟨rfl,i+1,lkA rfl,⟨cb,hin,kb,?_,db⟩,by show n-(i+1)<n-i;omega⟩
     have:tabM n C (clrTo s q c (i+1))=tabM n C (clrTo s q c i):=E8 fun j k _ _=>by
      rw [AE8]
      by_cases ej:j=i
      ·simp only [ej,hiq,if_true,if_false];rw [hrow,hz];grind
      ·simp only [ej,if_false]
     rw [this];exact fb
    ·refine .neqT rfl rfl rfl (fun h=>hz (N7.1 h)) (.pick rfl rfl rfl (.nil (.condT rfl ?_)))
     have hrq:tab C (clrTo s q c i q)=tab C fun k=>(s q c)⁻¹*s q k:=F6 fun k _=>by unfold clrTo;rw [if_pos rfl]
     refine .par follows 13 [.inl _,.inl (.int .i64 (i:Nat)),.inl er,.inl (.int .i64 (c:Nat)),.inr (Ptr eQ (fun k=>(S k∧vp.ownBlock≠some k)∧k≠gb) (qc (s i c))),.inr (eQ.at (fun k=>(S k∧vp.ownBlock≠some k)∧k≠gb) (qc (s i c))),.inr (eQ.at (fun k=>(S k∧vp.ownBlock≠some k)∧k≠gb) (qc (-(s i c)))),
       .inl _,.inl (.int .i64 (q:Nat)),.inl _,.inr (eV.at (fun k=>(S k∧vp.ownBlock≠some k)∧k≠gb) (tab C fun k=>(s q c)⁻¹*s q k)),.inl er,.inr (eV.at (fun k=>(S k∧vp.ownBlock≠some k)∧k≠gb) (tab C fun k => -(s i c)*((s q c)⁻¹*s q k)+s i k))]
      [[],[],[],[],[(106,2),(107,3)],[(108,4)],[(109,5)],[],[],[(111,7),(112,8)],[(113,9)],[],[(110,6),(114,10),(115,11)]] (by kernel_rfl) ⟨
      fun w e=>(v_mv rfl).ob,fun w e=>(v_mv rfl).ob,fun w e=>(v_mv rfl).ob,fun w e=>(v_mv rfl).ob,
      fun w e=>E0 (i:=c) un_V ty_Q rfl (ER.ext eV herb e) rfl (G1 hcC),
      fun w e p hp=>J5 ty_Q rfl hp,
      fun w e x hx=>by
       have:=AE6 (L:=bd L q) (upb.ext e.size) hx (O6 (hss i c hin hcC)) hBp (by omega)
       rw [A8] at this
       exact (A2 _ AF2 rfl this).ob (A6 _ _ _),
      fun w e=>(v_mv rfl).ob,fun w e=>(v_mv rfl).ob,
      fun w e=>(H0 (i:=q) un_M ty_V rfl rfl hqlt).ob,
      fun w e=>hrq▸X8 (E:=eV) (i:=q) (by decide) ty_V rfl (Nat.zero_add _) (fb.ext e) (E7 hqlt),
      fun w e=>(v_mv rfl).ob,
      fun w e x hx y hy=>by
       have:=AM1 (L:=bd L q+bd L q) (upb.ext e.size) hx hy (ER.ext eV herb e) (by rw [A1];omega) (by rw [A1];omega) (O6 ((hss i c hin hcC).neg.mono (by omega))) hur ((hkr i hin).mono (by omega)) (by omega) (by omega)
       rw [A1,A1,Nat.max_self,A8,F6 (g:=fun k => -(s i c)*((s q c)⁻¹*s q k)+s i k) (fun k hk=>by rw [J3,J3,if_pos hk,if_pos hk])] at this
       exact (A2 _ AM6 rfl this).ob (A6 _ _ _),trivial⟩ ?_
     intro Wd ed y4 _ y5 _ y6 _ y10 _ y12 hy12
     refine .ixB (i:=i) un_M ty_V rfl rfl rfl hin ?_
     refine .storeF (E:=eV) (i:=i) (by decide) ty_V rfl rfl (fb.ext ed) rfl (by rw [A5];exact hin) (Nat.zero_add _) hy12 fun We fe' ue=>.nil ?_
     rw [V3 hin] at fe'
     refine .region (.add rfl rfl rfl (.mv rfl rfl (.nil ?_)))
     rw [wI (by omega)]
     refine ⟨rfl,i+1,lkA rfl,⟨(cb.trans (Chg.ext ed)).trans (hUY ue),hin,(Chg.trans (Chg.ext ed) (hUY ue)).blk kb hb5X,?_,ev.chg db (Chg.trans (Chg.ext ed) (hUZ ue))⟩,by show n-(i+1)<n-i;omega⟩
     rw [AE8]
     simp only [hiq,if_false]
     exact fe'
 rintro _ Wx ⟨cx,kx,fx,dx⟩
 have hsx:=cx.size
 have hox:OwnL (eInt .i64) 3 w.heap.size S Wx vp (pInts (elim n f c).2):=ho.chgI (c3.trans cx) hYw
 have c2x:Chg Y w Wx:=hc2.trans (c3.trans cx)
 refine .region (.mv rfl rfl (.mv rfl rfl (.bsl [(0,.int .i64 (c:Nat))] rfl rfl Ak2 fun Wy by_ ny=>?_)))
 obtain ⟨ey,ky,hby,hsy⟩:=ny
 have hlen:(pInts (elim n f c).2).length≤1000000000:=by rw [hplen];omega
 have hint:(eInt .i64).R (fun k=>S k∧vp.ownBlock≠some k) Wy (.int .i64 (c:Nat)) (c:Int):=⟨rfl,Int.le_trans (by decide:IntKind.min .i64≤0) (by omega),Int.le_trans (by omega:(c:Int)≤1000) (by decide)⟩
 refine .gv rfl rfl (An5 (E:=eInt .i64) (base:=w.heap.size) (n:=(c:Int)) (e:=.int .i64 (c:Nat)) (by decide) un_I AQ3 rfl rfl rfl (hox.ext ey) ky hint hlen (by decide) (by have:=ey.size;omega)) ?_
 rintro vq Wz ⟨hoz,hgz,hwz⟩
 refine .asg rfl rfl (.nil (.region (.add rfl rfl rfl (.mv rfl rfl (.nil ?_)))))
 rw [wI (by omega)]
 have hpg:vp.ownBlock≠some gb:=fun h=>by have:=(hown gb h).1;omega
 have hcz:Chg Y w Wz:=(c2x.trans (Chg.ext ey)).step (Chg.grown hgz) fun k hk h=>by have:=(hown k h).1;omega
 refine ⟨rfl,(c+1,vq),lkA rfl,⟨hcz,hlt,?_,?_,?_,?_⟩,by show cols-(c+1)<cols-c;omega⟩
 ·exact (hox.ext ey).gblk hgz (kx.ext ey) (by decide)
 ·rw [hstep]
  show OwnL (eInt .i64) 3 w.heap.size S Wz vq (pInts ((elim n f c).2++[c]))
  rw [show pInts ((elim n f c).2++[c])=pInts (elim n f c).2++[(c:Int)] by simp]
  exact hoz
 ·rw [hstep]
  show FB eV 32 (fun k=>S k∧vq.ownBlock≠some k) Wz gb (tabM n C (clr (swp g r q) q c))
  rw [hs]
  exact (fx.ext ey).grow hgz hwz hpg
 ·have hz:D (fun k=>tak gb vp k∨tak gb vq k) (q+1) (dd*s q c) Wy:=ev.mono (ev.chg dx (Chg.ext ey)) fun k hk h=>by
   rcases h with h | h | h
   ·exact h
   ·exact .inl h
   ·rcases hwz with e | e
    ·rw [e] at h;exact .inr h
    ·rw [e] at h;cases h;omega
  have hz2:=ev.chg hz ((Chg.grown hgz).mono fun k _ h=>.inl (.inr h))
  have hz3:=ev.mono (Z':=tak gb vq) hz2 fun k _ h=>.inr h
  rw [hstep,hstepD]
  show D (tak gb vq) ((elim n f c).2++[c]).length _ Wz
  have e9:(if r=q then elimD n f c else -elimD n f c)*g r c=dd*s q c:=by rw [hdd,hsq]
  show D (tak gb vq) ((elim n f c).2++[c]).length ((if r=q then elimD n f c else -elimD n f c)*g r c) Wz
  rw [List.length_append,hq,e9]
  exact hz3
end Go.Proofs.YtfilidfomgfnhaaGreat

namespace Go.Kx
open Go Go.RowKit
/-- a struct that holds a function -/
def eF:ER FuncId where
 sz:=1
 isA:=true
 R:=fun _ _ v f=>v=.agg #[.func (.func f) #[] #[]]
 csz:=by rintro S w e x rfl;rfl
 one:=by rintro S w e x rfl u hu;simp [Value.cells] at hu;subst hu;rfl
 shp:=by rintro S w e x rfl;rfl
 keep:=fun _ h=>h
 mono:=fun _ h=>h
abbrev eFs:ER (List FuncId):=RL eF
def ck (i:Nat) (b:Int) (l:LnV):Bool:=match i with
 | 0=>decide (0≤l.f) && decide (l.f<b)
 | 1=>decide (0≤l.t) && decide (l.t<b)
 | 2 => !(l.f == l.t)
 | 3=>decide (1≤l.x) && decide (l.x≤1000)
 | _=>decide (0≤l.c) && decide (l.c≤1000000)
def ckAll (b:Int) (l:LnV):Prop:=∀ i,i<5→ck i b l=true
def chkOk (n:NtV):Prop:=∀ i,i<n.ls.length→∀ l,n.ls[i]?=some l→ckAll n.b l
def outsOk (n:NtV) (o:List Int):Prop:=∀ i,i<o.length→0≤o.getD i 0∧o.getD i 0<n.ls.length∧(0<i→o.getD (i-1) 0<o.getD i 0)
open Classical in
noncomputable def chkE (n:NtV):Int:=if n.b<1∨6<n.b then 1 else if 10<n.ls.length then 5 else if chkOk n then 0 else 1
open Classical in
noncomputable def outE (n:NtV) (o:List Int):Int:=if chkE n≠0 then chkE n else if outsOk n o then 0 else 1
end Go.Kx
namespace Go.Proofs.YtfilidfomgfnhaaGreat
open Go Go.Kx Go.RowKit
theorem ty_N:tyOf Tryz.prog 24=some (true,2):=by kernel_rfl
theorem S2:tyOf Tryz.prog 80=some (true,4):=by kernel_rfl
theorem Q5:tyOf Tryz.prog 22=some (false,1):=by kernel_rfl
theorem O5:Tryz.prog.underlying 22=some (.slice 80):=by kernel_rfl
theorem AX3:zeroOf Tryz.prog 80=some (.agg #[.int .i64 0,.int .i64 0,.int .i64 0,.int .i64 0]):=by kernel_rfl
theorem P3:fldOf Tryz.prog 24 0=some 0:=by kernel_rfl
theorem L5:fldOf Tryz.prog 24 1=some 1:=by kernel_rfl
theorem K9:fldOf Tryz.prog 80 0=some 0:=by kernel_rfl
theorem K8:fldOf Tryz.prog 80 1=some 1:=by kernel_rfl
theorem AN8:fldOf Tryz.prog 80 2=some 2:=by kernel_rfl
theorem AN7:fldOf Tryz.prog 80 3=some 3:=by kernel_rfl
theorem un_Cs:Tryz.prog.underlying 197=some (.slice 201):=by kernel_rfl
theorem As4:tyOf Tryz.prog 201=some (true,1):=by kernel_rfl
theorem zero_Ck:zeroOf Tryz.prog 201=some (.agg #[.nilFunc]):=by kernel_rfl
theorem fld_Ck0:fldOf Tryz.prog 201 0=some 0:=by kernel_rfl
theorem ty_FCk:tyOf Tryz.prog 199=some (false,1):=by kernel_rfl
theorem AS2 {f:FuncId}:bldOf Tryz.prog 201 [(0,.func (.func f) #[] #[])]=some #[.func (.func f) #[] #[]]:=by kernel_rfl
theorem bsl_Ck5 {a b c d e:Value}:bslOf Tryz.prog 197 5 [(0,.agg #[a]),(1,.agg #[b]),(2,.agg #[c]),(3,.agg #[d]),(4,.agg #[e])]=some (201,#[a,b,c,d,e]):=by kernel_rfl
theorem AL8:Ent Tryz.prog 246:=A0 Tryz.func246 (by kernel_rfl) rfl
theorem AL5 {S:Nat→Prop} {w:World} {vn:Value} {n:NtV} {b:Int} (hn:eN.R S w vn n):CR Tryz.prog 246 #[vn,.int .i64 b] w (Is (.bool (decide (0≤b) && decide (b<n.b)))):=by
 obtain ⟨s,rfl,hs,_⟩:=hn
 refine enter Tryz.func246 rfl Tryz.ntmps246 rfl ?_
 refine .seq (.region (.box rfl rfl fun w1 b2 n1=>.asg rfl rfl (.nil ?_)))
 obtain ⟨e1,k2,_,_⟩:=n1
 refine .seq (.region (.mv rfl rfl ?_))
 by_cases h0:0≤b
 ·refine .leqT rfl rfl rfl h0 (.mv rfl rfl (.gr rfl rfl rfl rfl (.mv rfl rfl (.gr rfl rfl rfl rfl (.fa P3 rfl rfl (.gr rfl rfl rfl rfl (.ld B0 rfl rfl k2 rfl (.gr rfl rfl rfl rfl ?_))))))))
  rw [decide_eq_true h0]
  by_cases h1:b<n.b
  ·refine .lssT rfl rfl rfl h1 (.pick rfl rfl rfl (.asg rfl rfl (.nil (.ret ?_))))
   exact .plain [_] Tryz.results246 ⟨rfl,trivial⟩ ⟨e1,by rw [decide_eq_true h1]<;>rfl⟩
  ·refine .lssF rfl rfl rfl (by omega) (.pick rfl rfl rfl (.asg rfl rfl (.nil (.ret ?_))))
   exact .plain [_] Tryz.results246 ⟨rfl,trivial⟩ ⟨e1,by rw [decide_eq_false h1]<;>rfl⟩
 ·refine .leqF rfl rfl rfl (by omega) (.mv rfl rfl (.gs rfl rfl rfl rfl rfl (.gs rfl rfl rfl rfl rfl (.gs rfl rfl rfl rfl rfl (.gs rfl rfl rfl rfl rfl (.pick rfl rfl rfl (.asg rfl rfl (.nil (.ret ?_)))))))))
  exact .plain [_] Tryz.results246 ⟨rfl,trivial⟩ ⟨e1,by rw [decide_eq_false h0]<;>rfl⟩
section
variable {S:Nat→Prop} {w:World} {vn vl:Value} {n:NtV} {l:LnV}
theorem E_ck1:Ent Tryz.prog 245:=A0 Tryz.func245 (by kernel_rfl) rfl
theorem ck1_c (hn:eN.R S w vn n) (hl:eL.R S w vl l):CR Tryz.prog 245 #[vn,vl] w (Is (.bool (ck 0 n.b l))):=by
 have hvn:=shpA rfl hn
 obtain ⟨rfl,_⟩:=hl
 refine enter Tryz.func245 rfl Tryz.ntmps245 rfl ?_
 refine .seq (.region (.box rfl rfl fun w1 b2 n1=>.box rfl rfl fun w2 b3 n2=>.asg rfl rfl (.nil ?_)))
 obtain ⟨e1,k2,_,_⟩:=n1
 obtain ⟨e2,k3,_,_⟩:=n2
 refine .seq (.region (.ldA ty_N rfl rfl (k2.ext e2) (eN.csz hn) (.fa K9 rfl rfl (.ld B0 rfl rfl k3 rfl ?_))))
 rw [←hvn]
 refine .call _ rfl AL8 rfl (AL5 (hn.ext (e1.trans e2))) fun v3 w3 e3 h3=>.asg rfl rfl (.nil (.ret ?_))
 exact .plain [_] Tryz.results245 ⟨rfl,trivial⟩ ⟨(e1.trans e2).trans e3,h3⟩
theorem E_ck2:Ent Tryz.prog 247:=A0 Tryz.func247 (by kernel_rfl) rfl
theorem ck2_c (hn:eN.R S w vn n) (hl:eL.R S w vl l):CR Tryz.prog 247 #[vn,vl] w (Is (.bool (ck 1 n.b l))):=by
 have hvn:=shpA rfl hn
 obtain ⟨rfl,_⟩:=hl
 refine enter Tryz.func247 rfl Tryz.ntmps247 rfl ?_
 refine .seq (.region (.box rfl rfl fun w1 b2 n1=>.box rfl rfl fun w2 b3 n2=>.asg rfl rfl (.nil ?_)))
 obtain ⟨e1,k2,_,_⟩:=n1
 obtain ⟨e2,k3,_,_⟩:=n2
 refine .seq (.region (.ldA ty_N rfl rfl (k2.ext e2) (eN.csz hn) (.fa K8 rfl rfl (.ld B0 rfl rfl k3 rfl ?_))))
 rw [←hvn]
 refine .call _ rfl AL8 rfl (AL5 (hn.ext (e1.trans e2))) fun v3 w3 e3 h3=>.asg rfl rfl (.nil (.ret ?_))
 exact .plain [_] Tryz.results247 ⟨rfl,trivial⟩ ⟨(e1.trans e2).trans e3,h3⟩
theorem E_ck3:Ent Tryz.prog 248:=A0 Tryz.func248 (by kernel_rfl) rfl
theorem ck3_c (hl:eL.R S w vl l):CR Tryz.prog 248 #[vn,vl] w (Is (.bool (ck 2 n.b l))):=by
 obtain ⟨rfl,_⟩:=hl
 refine enter Tryz.func248 rfl Tryz.ntmps248 rfl ?_
 refine .seq (.region (.box rfl rfl fun w1 b2 n1=>.box rfl rfl fun w2 b3 n2=>.asg rfl rfl (.nil ?_)))
 obtain ⟨e1,k2,_,_⟩:=n1
 obtain ⟨e2,k3,_,_⟩:=n2
 refine .seq (.region (.fa K9 rfl rfl (.ld B0 rfl rfl k3 rfl (.fa K8 rfl rfl (.ld B0 rfl rfl k3 rfl (.neq rfl rfl rfl (.asg rfl rfl (.nil (.ret ?_)))))))))
 exact .plain [_] Tryz.results248 ⟨rfl,trivial⟩ ⟨e1.trans e2,rfl⟩
theorem E_ck4:Ent Tryz.prog 249:=A0 Tryz.func249 (by kernel_rfl) rfl
theorem ck4_c (hl:eL.R S w vl l):CR Tryz.prog 249 #[vn,vl] w (Is (.bool (ck 3 n.b l))):=by
 obtain ⟨rfl,_⟩:=hl
 refine enter Tryz.func249 rfl Tryz.ntmps249 rfl ?_
 refine .seq (.region (.box rfl rfl fun w1 b2 n1=>.box rfl rfl fun w2 b3 n2=>.asg rfl rfl (.nil ?_)))
 obtain ⟨e1,k2,_,_⟩:=n1
 obtain ⟨e2,k3,_,_⟩:=n2
 refine .seq (.region (.fa AN8 rfl rfl (.ld L1 rfl rfl k3 rfl ?_)))
 by_cases h0:1≤l.x
 ·refine .leqT rfl rfl rfl h0 (.mv rfl rfl (.gr rfl rfl rfl rfl (.fa AN8 rfl rfl (.gr rfl rfl rfl rfl (.ld L1 rfl rfl k3 rfl (.gr rfl rfl rfl rfl ?_))))))
  by_cases h1:l.x≤1000
  ·refine .leqT rfl rfl rfl h1 (.pick rfl rfl rfl (.asg rfl rfl (.nil (.ret ?_))))
   exact .plain [_] Tryz.results249 ⟨rfl,trivial⟩ ⟨e1.trans e2,by unfold ck;rw [decide_eq_true h0,decide_eq_true h1]<;>rfl⟩
  ·refine .leqF rfl rfl rfl (by omega) (.pick rfl rfl rfl (.asg rfl rfl (.nil (.ret ?_))))
   exact .plain [_] Tryz.results249 ⟨rfl,trivial⟩ ⟨e1.trans e2,by unfold ck;rw [decide_eq_true h0,decide_eq_false h1]<;>rfl⟩
 ·refine .leqF rfl rfl rfl (by omega) (.mv rfl rfl (.gs rfl rfl rfl rfl rfl (.gs rfl rfl rfl rfl rfl (.gs rfl rfl rfl rfl rfl (.pick rfl rfl rfl (.asg rfl rfl (.nil (.ret ?_))))))))
  exact .plain [_] Tryz.results249 ⟨rfl,trivial⟩ ⟨e1.trans e2,by unfold ck;rw [decide_eq_false h0]<;>rfl⟩
theorem E_ck5:Ent Tryz.prog 250:=A0 Tryz.func250 (by kernel_rfl) rfl
theorem ck5_c (hl:eL.R S w vl l):CR Tryz.prog 250 #[vn,vl] w (Is (.bool (ck 4 n.b l))):=by
 obtain ⟨rfl,_⟩:=hl
 refine enter Tryz.func250 rfl Tryz.ntmps250 rfl ?_
 refine .seq (.region (.box rfl rfl fun w1 b2 n1=>.box rfl rfl fun w2 b3 n2=>.asg rfl rfl (.nil ?_)))
 obtain ⟨e1,k2,_,_⟩:=n1
 obtain ⟨e2,k3,_,_⟩:=n2
 refine .seq (.region (.fa AN7 rfl rfl (.ld L1 rfl rfl k3 rfl ?_)))
 by_cases h0:0≤l.c
 ·refine .leqT rfl rfl rfl h0 (.mv rfl rfl (.gr rfl rfl rfl rfl (.fa AN7 rfl rfl (.gr rfl rfl rfl rfl (.ld L1 rfl rfl k3 rfl (.gr rfl rfl rfl rfl ?_))))))
  by_cases h1:l.c≤1000000
  ·refine .leqT rfl rfl rfl h1 (.pick rfl rfl rfl (.asg rfl rfl (.nil (.ret ?_))))
   exact .plain [_] Tryz.results250 ⟨rfl,trivial⟩ ⟨e1.trans e2,by unfold ck;rw [decide_eq_true h0,decide_eq_true h1]<;>rfl⟩
  ·refine .leqF rfl rfl rfl (by omega) (.pick rfl rfl rfl (.asg rfl rfl (.nil (.ret ?_))))
   exact .plain [_] Tryz.results250 ⟨rfl,trivial⟩ ⟨e1.trans e2,by unfold ck;rw [decide_eq_true h0,decide_eq_false h1]<;>rfl⟩
 ·refine .leqF rfl rfl rfl (by omega) (.mv rfl rfl (.gs rfl rfl rfl rfl rfl (.gs rfl rfl rfl rfl rfl (.gs rfl rfl rfl rfl rfl (.pick rfl rfl rfl (.asg rfl rfl (.nil (.ret ?_))))))))
  exact .plain [_] Tryz.results250 ⟨rfl,trivial⟩ ⟨e1.trans e2,by unfold ck;rw [decide_eq_false h0]<;>rfl⟩
end
def ckFs:List FuncId:=[245,247,248,249,250]
theorem ckFs_c {S:Nat→Prop} {w:World} {vn vl:Value} {n:NtV} {l:LnV} (hn:eN.R S w vn n) (hl:eL.R S w vl l) {i:Nat} {f:FuncId} (hf:ckFs[i]?=some f):Ent Tryz.prog f∧CR Tryz.prog f #[vn,vl] w (Is (.bool (ck i n.b l))):=by
 match i with
 | 0=>cases hf;exact ⟨E_ck1,ck1_c hn hl⟩
 | 1=>cases hf;exact ⟨E_ck2,ck2_c hn hl⟩
 | 2=>cases hf;exact ⟨E_ck3,ck3_c hl⟩
 | 3=>cases hf;exact ⟨E_ck4,ck4_c hl⟩
 | 4=>cases hf;exact ⟨E_ck5,ck5_c hl⟩
 | i+5=>simp [ckFs] at hf
theorem Ab1:Ent Tryz.prog 199:=A0 Tryz.func199 (by kernel_rfl) rfl
theorem AY8 {w:World}:CR Tryz.prog 199 #[] w (eFs.at (fun _=>True) ckFs):=by
 refine enter Tryz.func199 rfl Tryz.ntmps199 rfl ?_
 refine .seq (.region (.asg rfl rfl (.nil ?_)))
 refine .seq (.region (.bld _ rfl rfl AS2 (.bld _ rfl rfl AS2 (.bld _ rfl rfl AS2 (.bld _ rfl rfl AS2 (.bld _ rfl rfl AS2 (.bsl _ rfl rfl bsl_Ck5 fun w1 b1 n1=>.asg rfl rfl (.nil (.ret ?_)))))))))
 refine .plain [_] Tryz.results199 ⟨rfl,trivial⟩ ⟨n1.1,?_⟩
 exact AJ9 (E:=eF) [.agg #[.func (.func 245) #[] #[]],.agg #[.func (.func 247) #[] #[]],.agg #[.func (.func 248) #[] #[]],.agg #[.func (.func 249) #[] #[]],.agg #[.func (.func 250) #[] #[]]] ckFs n1 (fun _ _=>trivial) rfl rfl (by decide) (Els.snoc (Els.snoc (Els.snoc (Els.snoc (Els.snoc Els.nil rfl) rfl) rfl) rfl) rfl)
theorem Ah2:Ent Tryz.prog 139:=A0 Tryz.func139 (by kernel_rfl) rfl
theorem Ae6 {S:Nat→Prop} {w:World} {vn:Value} {n:NtV} (hn:eN.R S w vn n):CR Tryz.prog 139 #[vn] w (Is (.int .i64 (chkE n))):=by
 obtain ⟨s,rfl,hs,hb⟩:=hn
 have hn:eN.R S w (.agg #[.int .i64 n.b,s]) n:=⟨s,rfl,hs,hb⟩
 obtain ⟨_,_,_,_,hll⟩:=RL.len hs
 refine enter Tryz.func139 rfl Tryz.ntmps139 rfl ?_
 refine .seq (.region (.box rfl rfl fun w1 b1 n1=>.asg rfl rfl (.nil ?_)))
 obtain ⟨e1,k1,hb1,hs1⟩:=n1
 have hB:n.b<1∨6<n.b→chkE n=1:=fun h=>by unfold chkE;rw [if_pos h]
 refine .scope (.seq (.seq (.region (.fa P3 rfl rfl (.ld B0 rfl rfl k1 rfl ?_)))))
 by_cases h1:n.b<1
 ·refine .lssT rfl rfl rfl h1 (.mv rfl rfl (.gs rfl rfl rfl rfl rfl (.gs rfl rfl rfl rfl rfl (.gs rfl rfl rfl rfl rfl (.pick rfl rfl rfl (.nil (.condT rfl (.seq (.region (.asg rfl rfl (.nil (.ret ?_))))))))))))
  exact .plain [_] Tryz.results139 ⟨rfl,trivial⟩ ⟨e1,by rw [hB (.inl h1)];rfl⟩
 refine .lssF rfl rfl rfl (by omega) (.mv rfl rfl (.gr rfl rfl rfl rfl (.fa P3 rfl rfl (.gr rfl rfl rfl rfl (.ld B0 rfl rfl k1 rfl (.gr rfl rfl rfl rfl ?_))))))
 by_cases h6:6<n.b
 ·refine .gtrT rfl rfl rfl h6 (.pick rfl rfl rfl (.nil (.condT rfl (.seq (.region (.asg rfl rfl (.nil (.ret ?_))))))))
  exact .plain [_] Tryz.results139 ⟨rfl,trivial⟩ ⟨e1,by rw [hB (.inr h6)];rfl⟩
 refine .gtrF rfl rfl rfl (by omega) (.pick rfl rfl rfl (.nil (.condF rfl (.skip (.seq (.seq (.region (.fa L5 rfl rfl (.ld Q5 rfl rfl k1 rfl (.lenR O5 rfl rfl (hs.ext e1) ?_))))))))))
 by_cases h10:10<n.ls.length
 ·refine .gtrT rfl rfl rfl (by omega) (.nil (.condT rfl (.seq (.region (.asg rfl rfl (.nil (.ret ?_)))))))
  exact .plain [_] Tryz.results139 ⟨rfl,trivial⟩ ⟨e1,by unfold chkE;rw [if_neg (by omega),if_pos h10]<;>rfl⟩
 have hE:chkOk n→chkE n=0:=fun h=>by unfold chkE;rw [if_neg (by omega),if_neg h10,if_pos h]
 have hE1:¬ chkOk n→chkE n=1:=fun h=>by unfold chkE;rw [if_neg (by omega),if_neg h10,if_neg h]
 refine .gtrF rfl rfl rfl (by omega) (.nil (.condF rfl (.skip (.seq (.region (.asg rfl rfl (.nil (.seq (.region ?_)))))))))
 refine .call _ rfl Ab1 rfl AY8 fun va w2 e2 hF=>.asg rfl rfl (.nil (.seq (.label ?_)))
 have x2:=e1.trans e2
 have k1:=k1.ext e2
 refine .seq (.seq (.region (.fa L5 rfl rfl (.ld Q5 rfl rfl k1 rfl (.lenR O5 rfl rfl (hs.ext x2) (.mv rfl rfl (.nil ?_)))))))
 have hret:∀ {W:World} {σ:Env} {e:Int},Ext w W→chkE n=e→Leave Tryz.prog Tryz.f139 44 (fun v w'=>Ext w w'∧Is (.int .i64 (chkE n)) v w') ((2,.int .i64 e)::σ) [] W:=fun hW he=>.plain [_] Tryz.results139 ⟨rfl,trivial⟩ ⟨hW,by rw [he];rfl⟩
 refine .block (.loop (α:=Nat) (fun i=>[(1,.pointer (some ⟨b1,0,none⟩)),(3,.int .i64 0),(4,va),(23,s),(24,.int .i64 (n.ls.length:Nat)),(25,.int .i64 (i:Nat))]) (fun i W=>Ext w2 W∧i≤n.ls.length∧∀ j,j<i→∀ l,n.ls[j]?=some l→ckAll n.b l) (fun i=>n.ls.length-i) 0 ?_ ?_ ?_)
 ·exact lkA rfl
 ·exact ⟨Ext.refl _,Nat.zero_le _,fun j hj=>absurd hj (Nat.not_lt_zero _)⟩
 rintro i W ⟨hW,hi,hall⟩
 refine .seq (.region ?_)
 rcases Nat.lt_or_ge i n.ls.length with hlt | hge
 rotate_left
 ·refine .lssF rfl rfl rfl (by omega) (.nil (.seq (.condF rfl (.exit (.seq (.region (.mv rfl rfl (.asg rfl rfl (.nil ?_)))))))))
  exact .ret (hret (x2.trans hW) (hE fun j hj l hl=>hall j (by omega) l hl))
 refine .lssT rfl rfl rfl (by omega) (.nil (.seq (.condT rfl (.skip (.seq (.block (.seq (.region ?_))))))))
 have hy:n.ls[i]?=some n.ls[i]:=List.getElem?_eq_getElem hlt
 refine .ixN (i:=i) O5 S2 rfl rfl (hs.ext (x2.trans hW)) rfl hy fun p hp=>.ldE (E:=eL) S2 rfl rfl hp fun vl hl=>?_
 refine .alloc rfl AX3 fun W1 b6 n1=>?_
 obtain ⟨f1,k6,hb6,hs1'⟩:=n1
 refine .storeA (E:=eL) (S:=fun k=>k≠b6) (z:=n.ls[i]) S2 rfl rfl k6 rfl rfl hl (fun h=>h rfl) fun W2 k6 u6 hl6=>.nil ?_
 have f2:Ext W W2:=u6.below f1 (by omega)
 have hW2:=hW.trans f2
 have hvl:=shpA (E:=eL) rfl hl6
 refine .seq (.region (.mv rfl rfl (.lenR un_Cs rfl rfl (ER.ext eFs hF hW2) (.mv rfl rfl (.nil ?_)))))
 refine .block (.loop (α:=Nat) (fun j=>[(1,.pointer (some ⟨b1,0,none⟩)),(3,.int .i64 0),(4,va),(23,s),(24,.int .i64 (n.ls.length:Nat)),(25,.int .i64 (i:Nat)),(6,.pointer (some ⟨b6,0,none⟩)),(29,va),(30,.int .i64 5),(31,.int .i64 (j:Nat))]) (fun j W'=>Ext W2 W'∧j≤5∧∀ c,c<j→ck c n.b n.ls[i]=true) (fun j=>5-j) 0 ?_ ?_ ?_)
 ·exact lkA rfl
 ·exact ⟨Ext.refl _,Nat.zero_le _,fun j hj=>absurd hj (Nat.not_lt_zero _)⟩
 rintro j W3 ⟨hW3,hj,hck⟩
 refine .seq (.region ?_)
 rcases Nat.lt_or_ge j 5 with hjl | hge
 rotate_left
 ·refine .lssF rfl rfl rfl (by omega) (.nil (.seq (.condF rfl (.exit ?_))))
  have:j=5:=by omega
  subst this
  have hc:ckAll n.b n.ls[i]:=hck
  refine .region (.add rfl rfl rfl (.mv rfl rfl (.nil ?_)))
  rw [wI (by omega)]
  refine ⟨rfl,i+1,lkA rfl,⟨hW2.trans hW3,hlt,fun j' hj' l' hl'=>?_⟩,by show n.ls.length-(i+1)<n.ls.length-i;omega⟩
  by_cases e:j'=i
  ·rw [e,hy] at hl';cases hl';exact hc
  ·exact hall j' (by omega) l' hl'
 refine .lssT rfl rfl rfl (by omega) (.nil (.seq (.condT rfl (.skip (.seq (.block (.seq (.region ?_))))))))
 obtain ⟨f,hf⟩:∃ f,ckFs[j]?=some f:=⟨_,List.getElem?_eq_getElem (by exact hjl)⟩
 refine .ixN (i:=j) un_Cs As4 rfl rfl (ER.ext eFs hF (hW2.trans hW3)) rfl hf fun p hp=>.ldE (E:=eF) As4 rfl rfl hp fun vf hvf=>?_
 replace hvf:vf=.agg #[.func (.func f) #[] #[]]:=hvf
 subst hvf
 refine .alloc rfl zero_Ck fun W4 b8 n4=>?_
 obtain ⟨f4,k8,hb8,hs4⟩:=n4
 refine .store As4 rfl rfl k8 rfl (by simp [Value.cells]) (by simp [one1,Value.cells]) fun W5 k8 u5=>.nil ?_
 have f5:Ext W3 W5:=u5.below f4 (by omega)
 have hW5:=hW3.trans f5
 have xW5:=x2.trans (hW2.trans hW5)
 obtain ⟨hEf,hcf⟩:=ckFs_c (hn.ext xW5) (ER.ext eL (S:=fun k=>k≠b6) hl6 hW5) hf
 refine .seq (.region (.fa fld_Ck0 rfl rfl (.ld ty_FCk rfl rfl k8 rfl (.ldA ty_N rfl rfl (k1.ext (hW2.trans hW5)) rfl (.ldA S2 rfl rfl (k6.ext hW5) (eL.csz hl6) ?_)))))
 rw [←hvl]
 refine .callv [_,_] rfl rfl hEf rfl hcf fun v6 W6 e6 h6=>?_
 subst h6
 by_cases hc:ck j n.b n.ls[i]=true
 ·rw [hc]
  refine .not_ rfl rfl (.nil (.condF rfl (.skip (.region (.add rfl rfl rfl (.mv rfl rfl (.nil ?_)))))))
  rw [wI (by omega)]
  refine ⟨rfl,j+1,lkA rfl,⟨hW5.trans e6,hjl,fun c hc'=>?_⟩,by show 5-(j+1)<5-j;omega⟩
  by_cases e:c=j
  ·subst e;exact hc
  ·exact hck c (by omega)
 ·rw [Bool.not_eq_true] at hc
  rw [hc]
  refine .not_ rfl rfl (.nil (.condT rfl (.seq (.region (.asg rfl rfl (.nil (.exit (.seq (.region (.mv rfl rfl (.asg rfl rfl (.nil ?_))))))))))))
  refine .ret (hret (xW5.trans e6) (hE1 fun h=>?_))
  have:=h i hlt _ hy j hjl
  rw [hc] at this
  cases this
end Go.Proofs.YtfilidfomgfnhaaGreat

namespace Go.Kx
open Go Go.RowKit
section
variable {P:Program} {ro:Option Nat} {N:Nat} {Q:Pst} {σ:Env} {ds:List Deferred} {w:World}
end
section
variable {P:Program} {ro:Option Nat} {N:Nat} {ds:List Deferred} {ops:Array Oper} {K:Env→World→Prop} {rest:List Oper} {σ:Env} {w:World} {d:Tmp} {ty:TypeId} {pos:String} {af:Array Edge}
theorem RL.first {α:Type} {E:ER α} {hsz:0<E.sz} {S:Nat→Prop} {a:Option Addr} {n c H c':Nat} {l:List α} (h:(RL E hsz).R S w (.slice a n c) l) (hH:H≤l.length) (hc:H≤c'):(RL E hsz).R S w (.slice a H c') (l.take H):=by
 have h1:=RL.sub h rfl 0 H (Nat.zero_le _) hH
 obtain ⟨es,he,a',c'',hv,h3,h4,h5,h6⟩:=h1
 have hl:((l.take H).drop 0).length=H:=by simp;omega
 rw [List.drop_zero] at *
 refine ⟨es,he,a,c',by rw [show (l.take H).length=H by simp;omega],by rw [show (l.take H).length=H by simp;omega];exact hc,h4,h5,fun hn=>?_⟩
 obtain ⟨ad,ha,hS,hcl⟩:=h6 hn
 refine ⟨ad,?_,hS,hcl⟩
 simp only [Nat.sub_zero,Nat.zero_mul] at hv
 injection hv with e1 e2 e3
 rw [←ha,←e1]
 obtain ⟨_,_,_,hv2,hcc,_⟩:=h
 split
 ·rfl
 ·cases a with
  | none=>rfl
  | some x=>rfl
end
/-! a matrix with a new row h at i that is still being filled -/
def FBx (t:TypeId) (S:Nat→Prop) (w:World) (gb h i:Nat) (hv:Value) (l:List (List QV)):Prop :=
 ∃ es,Blk w gb t (cellsOf es).toArray∧es.length=l.length∧(∀ e∈es,e.cells.size=1)∧es[i]?=some hv∧∀ (j:Nat) (e:Value) (x:List QV),j≠i→es[j]?=some e→l[j]?=some x→eV.R (fun k=>(S k∧k≠gb)∧k≠h) w e x
section
variable {t:TypeId} {S:Nat→Prop} {w w':World} {gb h i:Nat} {hv:Value} {l:List (List QV)}
theorem FBx.keep (hF:FBx t S w gb h i hv l) (hk:Kp (fun k=>k≠h) w w') (hg:gb≠h):FBx t S w' gb h i hv l:=by
 obtain ⟨es,h1,h2,h3,h4,h5⟩:=hF
 exact ⟨es,hk.blk hg h1,h2,h3,h4,fun j e x hj he hx=>eV.keep (fun k c t f hh hc=>hk k c t f hh.2 hc) (h5 j e x hj he hx)⟩
theorem FBx.ptr (hF:FBx t S w gb h i hv l) (h1:hv.cells=#[hv]):w.cell? ⟨gb,0+i*1,none⟩=some hv:=by
 obtain ⟨es,hb,h2,h3,h4,h5⟩:=hF
 have:=C7 es i 0 hv h3 h4 (by decide)
 rw [hb.cell,List.getElem?_toArray,show 0+i*1=i*1+0 by omega,this,h1];rfl
theorem FBx.done {r:List QV} (hF:FBx t S w gb h i hv l) (hr:eV.R (fun k=>S k∧k≠gb) w hv r):FB eV t S w gb (l.set i r):=by
 obtain ⟨es,h1,h2,h3,h4,h5⟩:=hF
 refine ⟨es,h1,by simp [h2],fun j e x he hx=>?_⟩
 by_cases hj:j=i
 ·subst hj
  rw [h4] at he;cases he
  rw [List.getElem?_set_self (by rw [←h2];exact (List.getElem?_eq_some_iff.1 h4).1)] at hx
  cases hx;exact hr
 ·rw [List.getElem?_set_ne (fun e=>hj e.symm)] at hx
  exact eV.mono (fun k _ hk=>hk.1) (h5 j e x hj he hx)
/-- the store of the new row's slice -/
theorem FBx.start {P:Program} {σ:Env} {ty:TypeId} {pos:String} {af:Array Edge} {dd:Option Tmp} {gd:Option (Nat×Bool)} {tt:TypeId} {x y:Operand} {w1:World} {tq:TypeId} {cs:Array Value} {n c:Nat} (ht:tyOf P tt=some (false,1)) (hF:FB eV t S w gb l) (hn:New w w1 h tq cs) (hi:i<l.length)
  (hx:ev σ x=some (.pointer (some ⟨gb,0+i*1,none⟩))) (hy:ev σ y=some (.slice (some ⟨h,0,none⟩) n c)) :
  Gv P ⟨dd,.store tt x y,ty,pos,af,gd⟩ σ w1 fun _ w'=>FBx t S w' gb h i (.slice (some ⟨h,0,none⟩) n c) l∧Upd w1 w' gb∧Blk w' h tq cs∧gb≠h:=by
 obtain ⟨e1,k1,hh,hs⟩:=hn
 have hlt:=hF.lt
 obtain ⟨es,hb,hels⟩:=hF
 have hesz:=hels.sz
 have hle:i*1+1≤(cellsOf es).toArray.size:=by
  rw [List.size_toArray,B9 es hesz,hels.1];show i*1+1≤l.length*1;omega
 refine (I8 (n:=1) ht (by rw [hx,Nat.zero_add]) hy (hb.ext e1) rfl hle (by simp [one1,Value.cells])).mono ?_
 rintro _ w2 ⟨hB',u⟩
 have hset:=AB6 (sz:=1) (by decide) es i (.slice (some ⟨h,0,none⟩) n c) hesz rfl (by rw [hels.1];exact hi)
 have hne:gb≠h:=by omega
 rw [hset] at hB'
 refine ⟨⟨es.set i (.slice (some ⟨h,0,none⟩) n c),hB',by simp [hels.1],fun e he=>?_,?_,fun j e x hj he hx'=>?_⟩,u,k1.upd u (fun e=>hne e.symm),hne⟩
 ·rcases List.mem_or_eq_of_mem_set he with h' | h'
  ·exact hesz e h'
  ·rw [h'];rfl
 ·rw [List.getElem?_set_self (by rw [hels.1];exact hi)]
 ·rw [List.getElem?_set_ne (fun e=>hj e.symm)] at he
  have h1:=ER.lt eV (hels.2 j e x he hx')
  have h2:=(ER.ext eV h1 e1).upd u (fun hh=>hh.1.2 rfl)
  exact eV.mono (fun k _ hk=>⟨hk.1,by have:=hk.2;omega⟩) h2
end
end Go.Kx

namespace Go.Kx
open Go Go.RowKit
/-- the reduced form of a matrix and its pivots -/
def redF (m:List (List QV)):RM:=(elim m.length (rm m) (colsOf m)).1
def redP (m:List (List QV)):List Nat:=(elim m.length (rm m) (colsOf m)).2
theorem AY4 (m:List (List QV)):Ech m.length (colsOf m) (redF m) (redP m):=O8 _ _ _
end Go.Kx
namespace Go.Proofs.YtfilidfomgfnhaaGreat
open Go Go.Kx Go.RowKit
theorem E_ign1:Ent Tryz.prog 211:=A0 Tryz.func211 (by kernel_rfl) rfl
theorem E_ign2:Ent Tryz.prog 212:=A0 Tryz.func212 (by kernel_rfl) rfl
theorem evs_ign {M:Nat} {S0:Nat→Prop}:Evs Tryz.prog 211 212 #[] #[] M S0 (fun _=>False) (fun _ _ _ _=>True) where
 entE:=E_ign1
 entS:=E_ign2
 mono:=fun _ _=>trivial
 chg:=fun _ _=>trivial
 exch:=fun {Z j d W} _ _=>by
  refine enterG Tryz.func211 rfl Tryz.ntmps211 rfl ?_
  exact .skip (.plain [] Tryz.results211 trivial ⟨Chg.refl _,trivial⟩)
 scal:=fun {Z j d W v q} _ _ _ _ _=>by
  refine enterG Tryz.func212 rfl Tryz.ntmps212 rfl ?_
  refine .region (.box rfl rfl fun w1 b1 n1=>.nil ?_)
  exact .plain [] Tryz.results212 trivial ⟨Chg.ext n1.1,trivial⟩
theorem ty_I:tyOf Tryz.prog 25=some (false,1):=by kernel_rfl
end Go.Proofs.YtfilidfomgfnhaaGreat

namespace Go.Kx
open Go Go.RowKit
end Go.Kx
namespace Go.Proofs.YtfilidfomgfnhaaGreat
open Go Go.Kx Go.RowKit
end Go.Proofs.YtfilidfomgfnhaaGreat

namespace Go.Kx
open Go Go.RowKit
theorem AX0 (n c:Nat) (f:RM):colsOf (tabM n c f)=if n=0 then 0 else c:=by
 by_cases h0:n=0
 ·subst h0;rfl
 ·rw [if_neg h0]
  refine Nat.le_antisymm (Aq4 fun r hr=>?_) ?_
  ·obtain ⟨i,_,rfl⟩:=List.mem_map.1 hr
   rw [A1];exact Nat.le_refl _
  ·have:=Aj8 (m:=tabM n c f) (r:=tab c (f 0)) (List.mem_map.2 ⟨0,List.mem_range.2 (by omega),rfl⟩)
   rwa [A1] at this
end Go.Kx
namespace Go.Proofs.YtfilidfomgfnhaaGreat
open Go Go.Kx Go.RowKit
theorem F3 {p:List Nat} {j:Nat} (h:j<p.length):p.getD j 0∈p:=List.mem_iff_getElem?.2 ⟨j,A9 h⟩
end Go.Proofs.YtfilidfomgfnhaaGreat

namespace Go.Kx
open Go Go.RowKit
def freeTo (p:List Nat) (i:Nat):List Nat:=(List.range i).filter fun k => !(decide (k∈p))
def freeC (m:List (List QV)):List Nat:=freeTo (redP m) (colsOf m)
/-- the basis of the null space -/
def nullM (m:List (List QV)):List (List QV):=(freeC m).map fun k=>tab (colsOf m) (nv (redF m) (redP m) k)
end Go.Kx
namespace Go.Proofs.YtfilidfomgfnhaaGreat
open Go Go.Kx Go.RowKit
end Go.Proofs.YtfilidfomgfnhaaGreat

namespace Go.Proofs.YtfilidfomgfnhaaGreat
open Go Go.Kx Go.RowKit
end Go.Proofs.YtfilidfomgfnhaaGreat

namespace Go.Kx
open Go Go.RowKit
/-- the matrix beside the unit matrix -/
def invF (m:List (List QV)):RM:=fun i k=>if k<m.length then rm m i k else idR i (k-m.length)
def invE (m:List (List QV)):RM×List Nat:=elim m.length (invF m) m.length
def invM (m:List (List QV)):List (List QV):=tabM m.length m.length fun i k=>(invE m).1 i (m.length+k)
abbrev invertible (m:List (List QV)):Prop:=¬ (invE m).2.length<m.length
theorem As7 (n c:Nat) (f:Nat→Rat):(tab (n+c) f).drop n=tab c fun k=>f (n+k):=by
 apply List.ext_getElem?
 intro j
 rw [List.getElem?_drop]
 by_cases h:j<c
 ·rw [G1 (by omega),G1 h]
 ·rw [List.getElem?_eq_none (by rw [A1];omega),List.getElem?_eq_none (by rw [A1];omega)]
end Go.Kx
namespace Go.Proofs.YtfilidfomgfnhaaGreat
open Go Go.Kx Go.RowKit
theorem AM8:Ent Tryz.prog 84:=A0 Tryz.func84 (by kernel_rfl) rfl
theorem AM3 {S:Nat→Prop} {w:World} {vm:Value} {m:List (List QV)} {L n:Nat} (up:Up S w) (hm:eM.R S w vm m) (hkm:mk_ L m) (hL:1≤L) (hr:m.length≤n) (hc:colsOf m≤90) (hn:n≤100) (hbd:bd L n≤40000000) :
  CR Tryz.prog 84 #[vm] w (Two (eM.at S (if colsOf m=m.length∧invertible m then invM m else [])) (Is (.int .i64 (if colsOf m=m.length then (if invertible m then 0 else 8) else 13)))):=by
 have hL2:L≤40000000:=Nat.le_trans (AH8 L (Nat.zero_le n)) hbd
 have hm0:=ER.lt eM hm
 have hMW:∀ {W:World},Below w.heap.size w W→eM.R S W vm m:=fun hB=>eM.mono (fun k _ hk=>hk.1) (eM.keep (fun k c t f hk h=>(hB.block k hk.2).trans h) hm0)
 generalize hRp:Two (eM.at S (if colsOf m=m.length∧invertible m then invM m else [])) (Is (.int .i64 (if colsOf m=m.length then (if invertible m then 0 else 8) else 13)))=Rp
 obtain ⟨N,hN⟩:∃ N,m.length=N:=⟨_,rfl⟩
 rw [hN] at hr
 generalize hG:(fun i=>tab N (idR i))=G
 refine enter Tryz.func84 rfl Tryz.ntmps84 rfl ?_
 refine .seq (.region (.asg rfl rfl (.asg rfl rfl (.nil (.seq (.region (.mv rfl rfl (.lenR un_M rfl rfl hm ?_))))))))
 rw [hN]
 refine .asg rfl rfl (.nil (.seq (.seq (.region (.mv rfl rfl ?_)))))
 refine .call _ rfl AF1 rfl (AE4 hm) fun v0 w0 e0 h0=>?_
 subst h0
 refine .mv rfl rfl ?_
 by_cases hsq:colsOf m=N
 rotate_left
 ·refine .neqT rfl rfl rfl (by intro e;exact hsq (by omega)) (.nil (.condT rfl (.seq (.region (.asg rfl rfl (.asg rfl rfl (.nil (.ret ?_))))))))
  refine .plain [_,_] Tryz.results84 ⟨rfl,rfl,trivial⟩ ⟨e0,?_⟩
  rw [←hRp]
  refine ⟨_,_,rfl,?_,?_⟩
  ·rw [if_neg (fun h=>hsq (h.1.trans hN))];exact RL.nil
  ·show _=_
   rw [if_neg (fun h=>hsq (h.trans hN))]
 have hsq':colsOf m=m.length:=hsq.trans hN.symm
 refine .neqF rfl rfl rfl (by rw [hsq]) (.nil (.condF rfl (.skip (.seq (.region (.mv rfl rfl ?_))))))
 refine .make_ _ _ un_M AZ5 rfl (by decide) rfl rfl rfl (Nat.le_refl _) (by omega) (by omega) fun w1 gu n1=>.asg rfl rfl (.nil ?_)
 have f1:FB eV 32 S w1 gu (List.replicate N []):=FB.made n1 RL.nil
 obtain ⟨e1,_,hgu,hs1⟩:=n1
 have x1:=e0.trans e1
 have hs0:=e0.size
 refine .mid (α:=Unit) (fun _=>[(0,vm),(4,.int .i64 (N:Nat)),(5,.slice (some ⟨gu,0,none⟩) N N)]) (fun _ W=>Below w.heap.size w W∧FB eV 32 S W gu ((List.range N).map G)) ?_ ?_
 ·refine .seq (.region (.mv rfl rfl (.len un_M rfl rfl (.mv rfl rfl (.nil ?_)))))
  refine .block (.loop (α:=Nat) (fun i=>[(0,vm),(4,.int .i64 (N:Nat)),(5,.slice (some ⟨gu,0,none⟩) N N),(19,.int .i64 (N:Nat)),(20,.int .i64 (i:Nat))])
   (fun i W=>Below w.heap.size w W∧i≤N∧FB eV 32 S W gu (fil N i G [])) (fun i=>N-i) 0 ?_ ?_ ?_)
  ·exact lkA rfl
  ·exact ⟨x1,Nat.zero_le _,by rw [H7];exact f1⟩
  ·rintro i W ⟨hB,hi,hF⟩
   have hsz:=hB.size
   have hgl:=hF.lt
   rcases Nat.lt_or_ge i N with hlt | hge
   rotate_left
   ·refine .seq (.region (.lssF rfl rfl rfl (by omega) (.nil (.seq (.condF rfl (.exit ?_))))))
    have:i=N:=by omega
    subst this
    rw [N2] at hF
    exact ⟨rfl,(),lkA rfl,hB,hF⟩
   refine .seq (.region (.lssT rfl rfl rfl (by omega) (.nil (.seq (.condT rfl (.skip (.seq (.block (.seq (.region (.mv rfl rfl (.asg rfl rfl (.nil (.seq (.region (.mv rfl rfl (.mv rfl rfl (.mv rfl rfl ?_))))))))))))))))))
   refine .make_ _ _ un_V K4 rfl (by decide) rfl rfl rfl (Nat.le_refl _) (by omega) (by omega) fun W1 h n2=>?_
   have hn2:=n2
   have fh:FB eQ 55 (fun k=>S k∧k≠gu) W1 h (List.replicate N q0):=FB.made n2 zq_R
   obtain ⟨e2,k2,hh,hs2⟩:=n2
   refine .ixB (i:=i) un_M ty_V rfl rfl rfl hlt ?_
   refine .gv rfl rfl (FBx.start (i:=i) ty_V hF hn2 (by rw [D6];exact hlt) rfl rfl) ?_
   rintro _ W2 ⟨hx2,u2,kh2,hne⟩
   refine .nil ?_
   have hB2:Below w.heap.size w W2:=u2.below (hB.trans (e2.mono hsz)) (by omega)
   have hs2':=u2.size
   have fh2:=fh.upd u2 (fun e=>hne e.symm) (fun hh'=>hh'.2 rfl)
   refine .par follows 6 [.inl _,.inl (.int .i64 (i:Nat)),.inl _,.inl (.slice (some ⟨h,0,none⟩) N N),.inl (.int .i64 (i:Nat)),.inr (eQ.at (fun k=>(S k∧k≠gu)∧k≠h) (qc ((1:Int):Rat)))]
    [[],[],[(28,0),(29,1)],[(30,2)],[],[]] (by kernel_rfl) ⟨
    fun w e=>(v_mv rfl).ob,fun w e=>(v_mv rfl).ob,fun w e=>(H0 (i:=i) un_M ty_V rfl rfl hlt).ob,
    fun w e=>(v_ldP ty_V rfl ((hx2.keep (Kp.ext e) hne).ptr rfl)).ob,
    fun w e=>(v_mv rfl).ob,
    fun w e=>(A2 _ C1 rfl (C0 (fun k hk=>⟨⟨up k (by have:=e.size;omega),by have:=e.size;omega⟩,by have:=e.size;omega⟩) (by decide) (by decide))).ob (A6 _ _ _),trivial⟩ ?_
   intro W3 e3 x5 h5
   refine .ixB (i:=i) un_V ty_Q rfl rfl rfl hlt ?_
   refine .storeF (E:=eQ) (i:=i) (by decide) ty_Q rfl rfl (fh2.ext e3) rfl (by simp;exact hlt) (Nat.zero_add _) h5 fun W4 f4 u4=>.nil ?_
   have hunit:(List.replicate N q0).set i (qc ((1:Int):Rat))=G i:=by
    have h0:List.replicate N q0=tab N fun _=>0:=by
     unfold tab;simp only [O2];rw [List.map_const',List.length_range]
    rw [h0,AN1,←hG]
    refine F6 fun k _=>?_
    unfold idR
    by_cases e:k=i
    ·rw [if_pos e,if_pos e.symm];simp
    ·rw [if_neg e,if_neg (fun e2=>e e2.symm)]
   rw [hunit] at f4
   refine .region (.add rfl rfl rfl (.mv rfl rfl (.nil ?_)))
   rw [wI (by omega)]
   have hx4:=(hx2.keep (Kp.ext e3) hne).keep (Kp.upd u4 (fun hc=>hc rfl)) hne
   have hrow:eV.R (fun k=>S k∧k≠gu) W4 (.slice (some ⟨h,0,none⟩) N N) (G i):=by
    have hGl:(G i).length=N:=by rw [←hG];exact A1 ..
    have:=f4.toR (c:=N) (hsz:=by decide) ⟨up h (by omega),by omega⟩ (by rw [hGl];exact Nat.le_refl _) (by rw [hGl];omega)
    rwa [hGl] at this
   have hF4:=hx4.done hrow
   rw [I9] at hF4
   exact ⟨rfl,i+1,lkA rfl,⟨u4.below (hB2.trans (e3.mono hB2.size)) (by omega),hlt,hF4⟩,by show N-(i+1)<N-i;omega⟩
 rintro _ W ⟨hB,hF⟩
 have hsz:=hB.size
 have hU:(List.range N).map G=tabM N N idR:=by rw [←hG];rfl
 rw [hU] at hF
 have hR:=hF.toR (c:=N) (hsz:=by decide) (up gu (by omega)) (by rw [A5];exact Nat.le_refl _) (by rw [A5];omega)
 rw [A5] at hR
 have hcU:colsOf (tabM N N idR)=N:=by rw [AX0];split<;>omega
 have hkU:mk_ L (tabM N N idR):=AN3 fun i k _ _=>by
  unfold idR
  split
  ·have:=Rsz.int 1 (L:=L) (Nat.lt_of_lt_of_le (by decide) (Nat.pow_le_pow_right (by decide) hL)) hL
   simpa using this
  ·exact Rsz.zero hL
 have upW:=up.ext hsz
 refine .seq (.region (.mv rfl rfl (.mv rfl rfl ?_)))
 refine .call _ rfl Ab4 rfl (AT8 (L:=L) upW (hMW hB) hR hkm hkU hL (by omega) (by omega) (by rw [A5];omega) (by omega) (by rw [hcU];omega)) fun v2 w2 e2 h2=>.asg rfl rfl (.nil ?_)
 rw [hN,A5,Nat.max_self,hsq,hcU] at h2
 obtain ⟨gb,rfl,hgb,hF2⟩:=h2
 have hcat:tabM N (N+N) (catM m (tabM N N idR))=tabM N (N+N) (invF m):=E8 fun i k hi hk=>by
  unfold catM invF
  rw [hsq,hN]
  by_cases h:k<N
  ·rw [if_pos h,if_pos h]
  ·rw [if_neg h,if_neg h,AG4,if_pos ⟨hi,by omega⟩]
 rw [hcat] at hF2
 have x2:=hB.trans (e2.mono hsz)
 have hgl2:=hF2.lt
 have hs2:=e2.size
 refine .seq (.seq (.region (.mv rfl rfl (.mv rfl rfl ?_))))
 refine .call _ rfl AM7 rfl AM2 fun v3 w3 e3 h3=>?_
 subst h3
 have hs3:=e3.size
 have hszF:∀ i k,i<N→k<N+N→Rsz (invF m i k) L:=fun i k _ _=>by
  unfold invF
  split
  ·exact hkm.rsz hL i k
  ·unfold idR
   split
   ·have:=Rsz.int 1 (L:=L) (Nat.lt_of_lt_of_le (by decide) (Nat.pow_le_pow_right (by decide) hL)) hL
    simpa using this
   ·exact Rsz.zero hL
 have hcall:=AG0 (X:=fun _=>False) (cols:=N) (cap:=N) (L:=L) (M:=40000000) (upW.ext (by omega)) (hF2.ext e3) (Nat.le_refl _) (by omega) (by omega) (by omega) hL hszF (Nat.le_trans (AH8 L (by omega)) hbd) (Nat.le_refl _) (up gb (by omega)) (fun _ h=>h.elim) evs_ign trivial
 refine .callG _ rfl AH9 rfl hcall ?_
 rintro v4 w4 ⟨c4,h4,f4,-⟩
 have x3:=x2.trans (e3.mono (by omega))
 have x4:Ext w w4:=c4.below x3 (by omega) (fun k hk=>by rcases hk with rfl | hk;omega;exact hk.elim)
 have hs4:=c4.size
 refine .lenR un_I rfl rfl h4 (.mv rfl rfl ?_)
 have hE:elim N (invF m) N=invE m:=by unfold invE;rw [hN]
 rw [hE] at f4
 rw [show (pInts (elim N (invF m) N).2).length=(invE m).2.length by rw [hE];simp]
 by_cases hinv:(invE m).2.length<N
 ·refine .lssT rfl rfl rfl (by omega) (.nil (.condT rfl (.seq (.region (.asg rfl rfl (.asg rfl rfl (.nil (.ret ?_))))))))
  refine .plain [_,_] Tryz.results84 ⟨rfl,rfl,trivial⟩ ⟨x4,?_⟩
  rw [←hRp]
  refine ⟨_,_,rfl,?_,?_⟩
  ·rw [if_neg (fun h=>h.2 (hN.symm▸hinv))];exact RL.nil
  ·show _=_
   rw [if_pos hsq',if_neg (fun h=>h (hN.symm▸hinv))]
 refine .lssF rfl rfl rfl (by omega) (.nil (.condF rfl (.skip ?_)))
 generalize hR2:(fun i=>tab N fun k=>(invE m).1 i (N+k))=R2
 refine .mid (α:=Unit) (fun _=>[(7,.slice (some ⟨gb,0,none⟩) N N)]) (fun _ W=>Below w.heap.size w W∧FB eV 32 S W gb ((List.range N).map R2)) ?_ ?_
 ·refine .seq (.region (.mv rfl rfl (.len un_M rfl rfl (.mv rfl rfl (.nil ?_)))))
  refine .block (.loop (α:=Nat) (fun i=>[(4,.int .i64 (N:Nat)),(7,.slice (some ⟨gb,0,none⟩) N N),(46,.slice (some ⟨gb,0,none⟩) N N),(47,.int .i64 (N:Nat)),(48,.int .i64 (i:Nat))])
   (fun i W=>Below w.heap.size w W∧i≤N∧FB eV 32 S W gb ((List.range N).map fun j=>if j<i then R2 j else tab (N+N) ((invE m).1 j))) (fun i=>N-i) 0 ?_ ?_ ?_)
  ·exact lkA rfl
  ·exact ⟨x4,Nat.zero_le _,by simpa [tabM] using f4⟩
  ·rintro i W ⟨hB,hi,hF⟩
   have hsz:=hB.size
   rcases Nat.lt_or_ge i N with hlt | hge
   rotate_left
   ·refine .seq (.region (.lssF rfl rfl rfl (by omega) (.nil (.seq (.condF rfl (.exit ?_))))))
    have:i=N:=by omega
    subst this
    have he:(List.range i).map (fun j=>if j<i then R2 j else tab (i+i) ((invE m).1 j))=(List.range i).map R2:=List.map_congr_left fun j hj=>by rw [if_pos (List.mem_range.1 hj)]
    rw [he] at hF
    exact ⟨rfl,(),lkA rfl,hB,hF⟩
   refine .seq (.region (.lssT rfl rfl rfl (by omega) (.nil (.seq (.condT rfl (.skip (.seq (.block (.seq (.region (.mv rfl rfl (.ixB (i:=i) un_M ty_V rfl rfl rfl hlt ?_))))))))))))
   have hrow:((List.range N).map fun j=>if j<i then R2 j else tab (N+N) ((invE m).1 j))[i]?=some (tab (N+N) ((invE m).1 i)):=by
    rw [List.getElem?_map,List.getElem?_range hlt];simp
   refine .ldF (E:=eV) (i:=i) (by decide) ty_V rfl rfl (Nat.zero_add _) hF hrow fun er her=>.asg rfl rfl (.asg rfl rfl (.nil (.region (.mv rfl rfl (.mv rfl rfl (.mv rfl rfl (.mv rfl rfl ?_)))))))
   refine .gv rfl rfl (Av8 (E:=eQ) (hsz:=by decide) (some _) none N (N+N) un_V ty_Q rfl her ⟨.i64,rfl⟩ (A1 _ _).symm (by omega) (by rw [A1];exact Nat.le_refl _)) ?_
   rintro v5 _ ⟨rfl,h5⟩
   rw [List.take_of_length_le (by rw [A1];exact Nat.le_refl _),As7] at h5
   refine .ixB (i:=i) un_M ty_V rfl rfl rfl hlt ?_
   refine .storeF (E:=eV) (i:=i) (by decide) ty_V rfl rfl hF rfl (by simp;exact hlt) (Nat.zero_add _) h5 fun W3 f3 u3=>.nil ?_
   refine .region (.add rfl rfl rfl (.mv rfl rfl (.nil ?_)))
   rw [wI (by omega)]
   refine ⟨rfl,i+1,lkA rfl,⟨u3.below hB (by omega),hlt,?_⟩,by show N-(i+1)<N-i;omega⟩
   have he:((List.range N).map fun j=>if j<i then R2 j else tab (N+N) ((invE m).1 j)).set i (tab N fun k=>(invE m).1 i (N+k))=(List.range N).map fun j=>if j<i+1 then R2 j else tab (N+N) ((invE m).1 j):=by
    apply List.ext_getElem?
    intro j
    rw [List.getElem?_set]
    by_cases e:i=j
    ·subst e
     simp [hlt,←hR2]
    ·rw [if_neg e,List.getElem?_map,List.getElem?_map]
     by_cases hj:j<N
     ·simp only [List.getElem?_range hj,Option.map_some]
      by_cases h1:j<i
      ·rw [if_pos h1,if_pos (by omega)]
      ·rw [if_neg h1,if_neg (by omega)]
     ·rw [List.getElem?_eq_none (by simpa using hj)];rfl
   rw [he] at f3
   exact f3
 ·rintro _ W ⟨hB,hF⟩
  have hsz:=hB.size
  refine .seq (.region (.mv rfl rfl (.asg rfl rfl (.asg rfl rfl (.nil (.ret ?_))))))
  have hI:(List.range N).map R2=invM m:=by unfold invM;rw [hN,←hR2];rfl
  rw [hI] at hF
  have hl:(invM m).length=N:=by unfold invM;rw [A5,hN]
  have:=hF.toR (c:=N) (hsz:=by decide) (up gb (by omega)) (by rw [hl];exact Nat.le_refl _) (by rw [hl];omega)
  rw [hl] at this
  refine .plain [_,_] Tryz.results84 ⟨rfl,rfl,trivial⟩ ⟨hB,?_⟩
  rw [←hRp]
  refine ⟨_,_,rfl,?_,?_⟩
  ·rw [if_pos ⟨hsq',fun h=>hinv (hN▸h)⟩];exact this
  ·show _=_
   rw [if_pos hsq',if_pos (fun h=>hinv (hN▸h))]
end Go.Proofs.YtfilidfomgfnhaaGreat

namespace Go.Proofs.YtfilidfomgfnhaaGreat
open Go Go.Kx Go.RowKit
end Go.Proofs.YtfilidfomgfnhaaGreat

namespace Go.Kx
section
variable {n N C CA:Nat} {g A:RM} {p:List Nat}
end
theorem Aw6 {n:Nat} {f:RM}:∀ c,elimD n f c≠0
 | 0=>by show (1:Rat)≠0;decide
 | c+1=>by
  have ih:=Aw6 (n:=n) (f:=f) c
  have e2:elimD n f (c+1)=estepD n c (elim n f c) (elimD n f c):=rfl
  rw [e2]
  unfold estepD
  split
  ·exact ih
  ·rename_i r hr
   obtain ⟨_,_,h3,_⟩:=J4 hr
   refine fun h=>?_
   rcases Rat.mul_eq_zero.1 h with h | h
   ·split at h
    ·exact ih h
    ·exact ih (by grind)
   ·exact h3 h
theorem Ech.nodup {n c:Nat} {g:RM} {p:List Nat} (h:Ech n c g p):p.Nodup:=by
 rw [List.nodup_iff_pairwise_ne,List.pairwise_iff_getElem]
 intro i j hi hj hij
 have:=h.mono hij hj
 rw [List.getD_eq_getElem?_getD,List.getD_eq_getElem?_getD,List.getElem?_eq_getElem hi,List.getElem?_eq_getElem hj] at this
 simp at this
 omega
/-- free columns and pivots are all the columns -/
theorem AQ9 {p:List Nat} (hn:p.Nodup):∀ i,(freeTo p i).length+p.countP (fun k=>decide (k<i))=i
 | 0=>by unfold freeTo;simp
 | i+1=>by
  have ih:=AQ9 hn i
  have h1:(freeTo p (i+1)).length=(freeTo p i).length+if i∈p then 0 else 1:=by
   unfold freeTo
   rw [List.range_succ,List.filter_append,List.length_append]
   by_cases h:i∈p<;>simp [h]
  have h2:p.countP (fun k=>decide (k<i+1))=p.countP (fun k=>decide (k<i))+if i∈p then 1 else 0:=by
   clear ih h1
   induction p with
   | nil=>simp
   | cons x p ihp =>
    have hx:=List.nodup_cons.1 hn
    rw [List.countP_cons,List.countP_cons,ihp hx.2]
    by_cases e:x=i
    ·subst e
     simp [hx.1]
    ·have h3:(i∈x::p)↔i∈p:=by simp [show ¬ i=x from fun h=>e h.symm]
     simp only [h3]
     by_cases h4:x<i
     ·simp [h4,show x<i+1 by omega];omega
     ·simp [h4,show ¬ x<i+1 by omega]
  rw [h1,h2]
  by_cases h:i∈p
  ·simp only [h,if_true];omega
  ·simp only [h,if_false];omega
theorem Ech.free_len {n C:Nat} {g:RM} {p:List Nat} (h:Ech n C g p):(freeTo p C).length+p.length=C:=by
 have:=AQ9 h.nodup C
 have h1:p.countP (fun k=>decide (k<C))=p.length:=by
  rw [List.countP_eq_length]
  intro k hk
  obtain ⟨j,hj⟩:=List.mem_iff_getElem?.1 hk
  have hl:j<p.length:=(List.getElem?_eq_some_iff.1 hj).1
  have:=h.lt j hl
  rw [List.getD_eq_getElem?_getD,hj] at this
  simpa using this
 omega
end Go.Kx

namespace Go.Kx
open Go Go.RowKit
theorem Ac7 {l:List Int} (h:∀ n∈l,-9223372036854775808≤n∧n≤9223372036854775807):vk 2 (intsV l) :=
 Q0 fun k _=>Rsz.int _ (by
  have:=AA6 (P:=fun n:Int => -9223372036854775808≤n∧n≤9223372036854775807) (z:=0) h (by omega) k
  show (l.getD k 0).natAbs<18446744073709551616
  omega) (by omega)
abbrev iv (n:Int):Value:=.int .i64 n
end Go.Kx
namespace Go.Proofs.YtfilidfomgfnhaaGreat
open Go Go.Kx Go.RowKit
theorem Ax6 {x:Int}:bslOf Tryz.prog 106 1 [(0,.int .i64 x)]=some (2,#[.int .i64 x]):=by kernel_rfl
theorem Aa4 {x y z:Int}:bslOf Tryz.prog 106 3 [(0,.int .i64 x),(1,.int .i64 y),(2,.int .i64 z)]=some (2,#[.int .i64 x,.int .i64 y,.int .i64 z]):=by kernel_rfl
theorem AB4 {S:Nat→Prop} {w w':World} {b:Nat} {t:TypeId} {cs:Array Value} (l:List Int) (n:Nat) (hn:New w w' b t cs) (up:Up S w) (hcs:cs=(l.map iv).toArray) (hl:l.length=n) (hd:∀ x∈l,-9223372036854775808≤x∧x≤9223372036854775807) (hm:n≤1000) :
  eI.R S w' (.slice (some ⟨b,0,none⟩) n n) l:=by
 subst hl
 refine RL.ofBlk (es:=l.map iv) hn.2.1 (up b (by have:=hn.2.2.1;omega)) ⟨by simp,fun i e x he hx=>?_⟩ (fun j u hu=>?_) (Nat.le_refl _) (by omega)
 ·rw [List.getElem?_map,hx] at he
  simp at he
  have:=hd x (List.mem_iff_getElem?.2 ⟨i,hx⟩)
  exact ⟨he.symm,this.1,this.2⟩
 ·rw [I2 iv (fun _=>rfl)] at hu
  rw [hcs];simpa using hu
end Go.Proofs.YtfilidfomgfnhaaGreat

namespace Go.Proofs.YtfilidfomgfnhaaGreat
open Go Go.Kx Go.RowKit
end Go.Proofs.YtfilidfomgfnhaaGreat

namespace Go.Kx
open Go Go.RowKit
section
variable {P:Program} {σ:Env} {w:World} {d:Option Tmp} {ty:TypeId} {pos:String} {af:Array Edge} {g:Option (Nat×Bool)}
theorem Al5 {s:TypeId} {x:Operand} {i off:Nat} {p:Addr} (hf:fldOf P s i=some off) (hx:ev σ x=some (.pointer (some p))):Vl P ⟨d,.fieldAddr s x i,ty,pos,af,g⟩ σ w (.pointer (some (p.add off))):=by
 refine ⟨(by intro _ h;cases h),fun ρ hρ=>?_⟩
 have h1:=hρ x _ (by simp [Op.operands]) hx
 unfold fldOf at hf
 split at hf
 ·rename_i fs hfs
  split at hf
  ·rename_i f hff
   split at hf
   ·rename_i j hj
    cases hz:Nat.beq j.size 0 with
    | true=>rw [hz] at hf;cases hf
    | false =>
     rw [hz] at hf
     simp only [cond_false,Option.some.injEq] at hf
     have hz':j.size≠0:=fun e=>by rw [e] at hz;cases hz
     simp [execOp,h1,Instr.fieldAt,run_underlying hfs,hff,Instr.sureAddr,fieldPlace,sizeOf,typeInfo,hj,hz',hf]
   ·cases hf
  ·cases hf
 ·cases hf
end
theorem PtrTo.zw {S:Nat→Prop} {w:World} {p:Addr} {z:ZV} (h:PtrTo eZ S w p z):PtrTo eW S w (p.add 1) z.w:=by
 obtain ⟨e,⟨s,rfl,hs⟩,h2,h3⟩:=h
 obtain ⟨a,c,hv,_⟩:=RL.len hs
 refine ⟨s,hs,by rw [F8];exact h2,fun j u hu=>?_⟩
 rw [hv] at hu
 have hj:j=0:=by
  cases j with
  | zero=>rfl
  | succ j=>simp [Value.cells] at hu
 subst hj
 rw [S6]
 refine h3 1 u ?_
 rw [hv];simpa [Value.cells] using hu
theorem PtrTo.qn {S:Nat→Prop} {w:World} {p:Addr} {q:QV} (h:PtrTo eQ S w p q):PtrTo eZ S w (p.add 0) q.num:=by
 obtain ⟨e,⟨s,t,rfl,hs,ht⟩,h2,h3⟩:=h
 refine ⟨.agg #[.bool q.num.neg,s],⟨s,rfl,hs⟩,by rw [F8];exact h2,fun j u hu=>?_⟩
 rw [S6]
 refine h3 _ u ?_
 match j with
 | 0=>simpa [Value.cells] using hu
 | 1=>simpa [Value.cells] using hu
 | j+2=>simp [Value.cells] at hu
theorem PtrTo.qd {S:Nat→Prop} {w:World} {p:Addr} {q:QV} (h:PtrTo eQ S w p q):PtrTo eZ S w (p.add 2) q.den:=by
 obtain ⟨e,⟨s,t,rfl,hs,ht⟩,h2,h3⟩:=h
 refine ⟨.agg #[.bool q.den.neg,t],⟨t,rfl,ht⟩,by rw [F8];exact h2,fun j u hu=>?_⟩
 rw [S6]
 refine h3 _ u ?_
 match j with
 | 0=>simpa [Value.cells] using hu
 | 1=>simpa [Value.cells] using hu
 | j+2=>simp [Value.cells] at hu
section
variable {P:Program} {ro:Option Nat} {N:Nat} {ds:List Deferred} {ops:Array Oper} {K:Env→World→Prop} {rest:List Oper} {σ:Env} {w:World} {d:Tmp} {ty:TypeId} {pos:String} {af:Array Edge}
end
section
variable {P:Program} {σ:Env} {w:World} {d:Option Tmp} {ty:TypeId} {pos:String} {af:Array Edge} {g:Option (Nat×Bool)} {S:Nat→Prop}
end
/-- a bool that tells, if false, that Q holds -/
@[reducible] def Lng (Q:Prop):Value→World→Prop:=fun v _=>∃ b,v=.bool b∧(b=false→Q)
end Go.Kx
namespace Go.Proofs.YtfilidfomgfnhaaGreat
open Go Go.Kx Go.RowKit
end Go.Proofs.YtfilidfomgfnhaaGreat

namespace Go.Proofs.YtfilidfomgfnhaaGreat
open Go Go.Kx Go.RowKit
theorem Aj0 {α:Type} {l:List α} {j:Nat} {x:α} (h:l[j]?=some x):j<l.length:=by
 rcases Nat.lt_or_ge j l.length with h' | h'
 ·exact h'
 ·rw [List.getElem?_eq_none h'] at h;cases h
theorem eV_vk {S:Nat→Prop} {w:World} {v:Value} {a:List QV} {L:Nat} (h:eV.R S w v a) (hk:∀ q∈a,qok L q) (hL:1≤L):vk L a:=by
 intro q hq
 obtain ⟨i,hi⟩:=List.mem_iff_getElem?.1 hq
 obtain ⟨es,he,_⟩:=h
 have hlt:=Aj0 hi
 obtain ⟨s,t,_,hn,hd⟩:=he.2 i _ q (List.getElem?_eq_getElem (by rw [he.1];exact hlt)) hi
 exact ⟨hk q hq,At6 (E3 hn) (E3 hd) (hk q hq) hL⟩
end Go.Proofs.YtfilidfomgfnhaaGreat

namespace Go.Kx
def hds (n:Nat):List Nat:=if h:n=0 then [] else n % 65536::hds (n / 65536)
 decreasing_by omega
end Go.Kx

namespace Go.Kx
open Go Go.RowKit
/-- digits of the call's own -/
def OwnH (t:TypeId) (base:Nat) (w:World) (v:Value) (r:List Nat):Prop:=w.ownsRow base t 1 v r.length (r.map hvv)∧digH r
section
variable {t:TypeId} {base:Nat} {w w':World} {v:Value} {r:List Nat}
theorem OwnH.lit {b:Nat} {l:List Nat} (hn:New w w' b t (l.map hvv).toArray) (hB:base≤w.heap.size) (hd:digH l) (hl:l.length≤1000):OwnH t base w' (.slice (some ⟨b,0,none⟩) l.length l.length) l:=by
 obtain ⟨_,hk,hb,_⟩:=hn
 exact ⟨⟨by simp,.inr ⟨b,l.length,_,rfl,by omega,hk,Nat.le_refl _,by simp [maxLen];omega,by simp,by simp [List.take_of_length_le]⟩⟩,hd⟩
end
section
variable {P:Program} {σ:Env} {w:World} {d:Option Tmp} {ty:TypeId} {pos:String} {af:Array Edge} {g:Option (Nat×Bool)}
end
end Go.Kx
namespace Go.Proofs.YtfilidfomgfnhaaGreat
open Go Go.Kx Go.RowKit
end Go.Proofs.YtfilidfomgfnhaaGreat

namespace Go.Kx
end Go.Kx
namespace Go.Proofs.YtfilidfomgfnhaaGreat
open Go Go.Kx Go.RowKit
end Go.Proofs.YtfilidfomgfnhaaGreat

namespace Go.Kx
end Go.Kx
namespace Go.Proofs.YtfilidfomgfnhaaGreat
open Go Go.Kx Go.RowKit
end Go.Proofs.YtfilidfomgfnhaaGreat

namespace Go.Kx
end Go.Kx
namespace Go.Proofs.YtfilidfomgfnhaaGreat
open Go Go.Kx Go.RowKit
theorem v_ixA {P:Program} {σ:Env} {w:World} {dd:Option Tmp} {ty:TypeId} {pos:String} {af:Array Edge} {gd:Option (Nat×Bool)} {t e:TypeId} {x ix:Operand} {k:IntKind} {i:Nat} {b:Bool} {sz n c:Nat} {ad:Addr} (ht:P.underlying t=some (.slice e)) (he:tyOf P e=some (b,sz)) (hx:ev σ x=some (.slice (some ad) n c))
  (hi:ev σ ix=some (.int k (i:Int))) (hlt:i<n):Vl P ⟨dd,.indexAddr t x ix,ty,pos,af,gd⟩ σ w (.pointer (some (ad.add (i*sz)))):=by
 refine ⟨(by intro _ h;cases h),fun ρ hρ=>?_⟩
 have h1:=hρ x _ (by simp [Op.operands]) hx
 have h2:=hρ ix _ (by simp [Op.operands]) hi
 simp [execOp,h1,h2,Instr.indexAt,asIntOf,run_underlying ht,(H3 he w).2]
 intro hh;omega
end Go.Proofs.YtfilidfomgfnhaaGreat

namespace Go.Kx
end Go.Kx
namespace Go.Proofs.YtfilidfomgfnhaaGreat
open Go Go.Kx Go.RowKit
end Go.Proofs.YtfilidfomgfnhaaGreat

namespace Go.Kx
end Go.Kx
namespace Go.Proofs.YtfilidfomgfnhaaGreat
open Go Go.Kx Go.RowKit
end Go.Proofs.YtfilidfomgfnhaaGreat

namespace Go.Kx
open Go Go.RowKit
section
variable {P:Program} {ro:Option Nat} {N:Nat} {ds:List Deferred} {ops:List Oper} {K:Env→World→Prop} {σ0:Env} {w0:World} {h:Nat} {sp:List Sp} {deps:List (List (Tmp×Nat))} {a0:Act}
section
variable {Q:Exit→Act→World→Prop}
end
end
end Go.Kx

namespace Go.Proofs.YtfilidfomgfnhaaGreat
open Go Go.Kx Go.RowKit
end Go.Proofs.YtfilidfomgfnhaaGreat

namespace Go.Kx
end Go.Kx
namespace Go.Proofs.YtfilidfomgfnhaaGreat
open Go Go.Kx Go.RowKit
end Go.Proofs.YtfilidfomgfnhaaGreat

namespace Go.Kx
open Go Go.RowKit
end Go.Kx
namespace Go.Proofs.YtfilidfomgfnhaaGreat
open Go Go.Kx Go.RowKit
end Go.Proofs.YtfilidfomgfnhaaGreat

namespace Go.Proofs.YtfilidfomgfnhaaGreat
open Go Go.Kx Go.RowKit
end Go.Proofs.YtfilidfomgfnhaaGreat

namespace Go.Kx
end Go.Kx
namespace Go.Proofs.YtfilidfomgfnhaaGreat
open Go Go.Kx Go.RowKit
end Go.Proofs.YtfilidfomgfnhaaGreat

namespace Go.Proofs.YtfilidfomgfnhaaGreat
open Go Go.Kx Go.RowKit
theorem Au3 {w:World} {v:Value} {t:TypeId} {sz n B B':Nat} {xs:List Value} (h:w.ownsRow B t sz v n xs) (hB:B'≤B):w.ownsRow B' t sz v n xs:=by
 refine ⟨h.1,?_⟩
 rcases h.2 with h | ⟨g,cap,cur,h1,h2,h3⟩
 ·exact .inl h
 ·exact .inr ⟨g,cap,cur,h1,Nat.le_trans hB h2,h3⟩
theorem OwnL.base {α:Type} {E:ER α} {t:TypeId} {B B':Nat} {X:Nat→Prop} {w:World} {v:Value} {l:List α} (h:OwnL E t B X w v l) (hB:B'≤B):OwnL E t B' X w v l:=by
 obtain ⟨es,h1,h2⟩:=h
 exact ⟨es,Au3 h1 hB,h2⟩
end Go.Proofs.YtfilidfomgfnhaaGreat

namespace Go.Proofs.YtfilidfomgfnhaaGreat
open Go Go.Kx Go.RowKit
end Go.Proofs.YtfilidfomgfnhaaGreat

namespace Go.Proofs.YtfilidfomgfnhaaGreat
open Go Go.Kx Go.RowKit
end Go.Proofs.YtfilidfomgfnhaaGreat

namespace Go.Proofs.YtfilidfomgfnhaaGreat
open Go Go.Kx Go.RowKit
end Go.Proofs.YtfilidfomgfnhaaGreat

namespace Go.Proofs.YtfilidfomgfnhaaGreat
open Go Go.Kx Go.RowKit
end Go.Proofs.YtfilidfomgfnhaaGreat

namespace Go.Kx
open Go Go.RowKit
section
variable {P:Program} {σ:Env} {w:World} {d:Option Tmp} {ty:TypeId} {pos:String} {af:Array Edge} {g:Option (Nat×Bool)}
end
end Go.Kx
namespace Go.Proofs.YtfilidfomgfnhaaGreat
open Go Go.Kx Go.RowKit
end Go.Proofs.YtfilidfomgfnhaaGreat

namespace Go.Kx
end Go.Kx
namespace Go.Proofs.YtfilidfomgfnhaaGreat
open Go Go.Kx Go.RowKit
end Go.Proofs.YtfilidfomgfnhaaGreat

namespace Go.Kx
open Go Go.RowKit
end Go.Kx
namespace Go.Proofs.YtfilidfomgfnhaaGreat
open Go Go.Kx Go.RowKit
section
variable {W W':World} {v va vb:Value} {n c n' c' L L':Nat} {a b m:List (List QV)} {x y:List QV}
theorem upT {W:World}:Up (fun _=>True) W:=fun _ _=>trivial
end
end Go.Proofs.YtfilidfomgfnhaaGreat

namespace Go.Proofs.YtfilidfomgfnhaaGreat
open Go Go.Kx Go.RowKit
theorem bsl_M2 {a a':Option Addr} {n c n' c':Nat}:bslOf Tryz.prog 28 2 [(0,.slice a n c),(1,.slice a' n' c')]=some (32,#[.slice a n c,.slice a' n' c']):=by kernel_rfl
/-- slices just laid in a row -/
theorem eS_new {α:Type} {E:ER α} {hsz:0<E.sz} {S:Nat→Prop} {w w':World} {b:Nat} {t:TypeId} {cs:Array Value} {n:Nat} (vs:List Value) (ls:List (List α)) (hn:New w w' b t cs) (up:Up S w) (hcs:cs=vs.toArray) (hl:ls.length=n) (hm:n≤1000) (h:Els (RL E hsz) S w vs ls) :
  (RL (RL E hsz) (show 0<1 by decide)).R S w' (.slice (some ⟨b,0,none⟩) n n) ls:=by
 subst hl
 refine RL.ofBlk (es:=vs) hn.2.1 (up b (by have:=hn.2.2.1;omega)) (h.ext hn.1) (fun j u hu=>?_) (Nat.le_refl _) (by omega)
 rw [hcs]
 have hv:∀ v∈vs,v.cells=#[v]:=by
  intro v hv
  obtain ⟨i,hi⟩:=List.mem_iff_getElem?.1 hv
  have hlt:=Aj0 hi
  obtain ⟨a,c,rfl,_⟩:=RL.len (h.2 i v _ hi (List.getElem?_eq_getElem (by rw [←h.1];exact hlt)))
  rfl
 have:cellsOf vs=vs:=by
  clear h hcs hu
  induction vs with
  | nil=>rfl
  | cons v vs ih=>rw [cellsOf,List.flatMap_cons,hv v (by simp),←cellsOf,ih fun u hu=>hv u (by simp [hu])];rfl
 rw [this] at hu
 simpa using hu
end Go.Proofs.YtfilidfomgfnhaaGreat

namespace Go.Proofs.YtfilidfomgfnhaaGreat
open Go Go.Kx Go.RowKit
end Go.Proofs.YtfilidfomgfnhaaGreat

namespace Go.Proofs.YtfilidfomgfnhaaGreat
open Go Go.Kx Go.RowKit
section
variable {m:List (List QV)} {b:List QV}
theorem red_req (m:List (List QV)):Req m.length (colsOf m) (rm m) (redF m):=AR7 _ _ _ _
theorem AL4:(nullM m).length=(freeC m).length:=by unfold nullM;simp
theorem Ap2 (m:List (List QV)):(nullM m).length+(redP m).length=colsOf m:=by rw [AL4];exact (AY4 m).free_len
theorem Ap4 {k:Nat}:k∈freeC m↔k<colsOf m∧k∉redP m:=by
 unfold freeC freeTo
 rw [List.mem_filter,List.mem_range]
 simp
theorem Ap5 {i:Nat} (hi:i<(freeC m).length):(freeC m).getD i 0<colsOf m∧(freeC m).getD i 0∉redP m:=Ap4.1 (F3 hi)
theorem not_piv {p:List Nat} {k:Nat} (h:k∉p):∀ j,j<p.length→p.getD j 0≠k:=fun _ hj e=>h (e▸F3 hj)
theorem Ao5 {k:Nat} (hk:k<colsOf m) (i:Nat):sumN (colsOf m) (fun c=>rm m i c*nv (redF m) (redP m) k c)=0:=by
 rcases Nat.lt_or_ge i m.length with hi | hi
 ·exact Spn.dot0 ((red_req m).2 i hi) fun j hj=>nv_null (AY4 m) hk hj
 ·exact L2 fun c _=>by rw [rm_out hi,Rat.zero_mul]
end
end Go.Proofs.YtfilidfomgfnhaaGreat

namespace Go.Proofs.YtfilidfomgfnhaaGreat
open Go Go.Kx Go.RowKit
theorem rsz1 {L:Nat} (hL:1≤L):Rsz 1 L:=by
 have:=Rsz.int 1 (L:=L) (Nat.lt_of_lt_of_le (by decide) (Nat.pow_le_pow_right (by decide) hL)) hL
 simpa using this
section
variable {m:List (List QV)} {b:List QV}
theorem inv_p (hc:colsOf m=m.length):(invE m).2=redP m:=by
 unfold invE redP
 rw [hc]
 exact (Af3 (C:=m.length) (fun i k _ hk=>by unfold invF;rw [if_pos hk]) _ (Nat.le_refl _)).2
theorem Av4 (hc:colsOf m=m.length):invertible m↔(redP m).length=m.length:=by
 unfold invertible
 rw [inv_p hc]
 have:=(AY4 m).len
 omega
theorem inv_one (h:invertible m) {i k:Nat} (hi:i<m.length) (hk:k<m.length):(invE m).1 i k=idR i k:=by
 have he:Ech m.length m.length (invE m).1 (invE m).2:=O8 ..
 have hl:(invE m).2.length=m.length:=by have:=he.len;unfold invertible at h;omega
 have:=he.one i k hi (by omega)
 rw [he.full hl k hk] at this
 exact this
theorem rm_inv {i k:Nat} (hi:i<m.length) (hk:k<m.length):rm (invM m) i k=(invE m).1 i (m.length+k):=by
 unfold invM
 rw [AG4,if_pos ⟨hi,hk⟩]
theorem invF_hi {i k:Nat}:invF m i (m.length+k)=idR i k:=by
 unfold invF
 rw [if_neg (by omega),Nat.add_sub_cancel_left]
theorem invF_lo {i k:Nat} (h:k<m.length):invF m i k=rm m i k:=by unfold invF;rw [if_pos h]
theorem sum_id {n:Nat} (t:Nat→Rat) {k:Nat} (hk:k<n):sumN n (fun j=>t j*idR j k)=t k:=by
 rw [J2 (i:=k) (fun j hj hne=>by unfold idR;rw [if_neg hne,Rat.mul_zero]),if_pos hk]
 unfold idR
 rw [if_pos rfl,Rat.mul_one]
/-- the matrix by its inverse -/
theorem Ao9 (h:invertible m) {i k:Nat} (hi:i<m.length) (hk:k<m.length):sumN m.length (fun j=>rm m i j*rm (invM m) j k)=idR i k:=by
 obtain ⟨t,ht⟩:=(AR7 m.length (m.length+m.length) (invF m) m.length).2 i hi
 have h1:∀ j,j<m.length→rm m i j=t j:=fun j hj=>by
  have:=ht j (by omega)
  rw [invF_lo hj] at this
  rw [this,←sum_id t hj]
  exact A7 fun l hl=>by rw [←inv_one h hl hj];rfl
 have h2:=ht (m.length+k) (by omega)
 rw [invF_hi] at h2
 rw [h2]
 exact A7 fun j hj=>by rw [h1 j hj,rm_inv hj hk];rfl
theorem An2 {L n:Nat} (hk:mk_ L m) (hL:1≤L) (hn:m.length≤n):mk_ (bd L n) (invM m):=by
 refine AN3 fun i k hi hk'=>?_
 have h1:=AR6 (C:=m.length+m.length) (f:=invF m) hL (fun i k _ _=>by
  unfold invF
  split
  ·exact hk.rsz hL i k
  ·unfold idR
   split
   ·exact rsz1 hL
   ·exact Rsz.zero hL) m.length (by omega) i (m.length+k) hi (by omega)
 exact h1.mono (AH8 L (Nat.le_trans (O8 m.length (invF m) m.length).len hn))
end
end Go.Proofs.YtfilidfomgfnhaaGreat

namespace Go.Proofs.YtfilidfomgfnhaaGreat
open Go Go.Kx Go.RowKit
theorem M0 (p:List Nat) (i:Nat):freeTo p (i+1)=freeTo p i++if i∈p then [] else [i]:=by
 unfold freeTo
 rw [List.range_succ,List.filter_append]
 by_cases h:i∈p<;>simp [h]
theorem AR0 (p:List Nat) (i:Nat):∀ d,∃ t,freeTo p (i+d)=freeTo p i++t
 | 0=>⟨[],(List.append_nil _).symm⟩
 | d+1=>by
  obtain ⟨t,ht⟩:=AR0 p i d
  exact ⟨t++if i+d∈p then [] else [i+d],by rw [←Nat.add_assoc,M0,ht,List.append_assoc]⟩
theorem Ap3 {p:List Nat} {i C:Nat} (hi:i<C) (hp:i∉p):(freeTo p C).getD (freeTo p i).length 0=i∧(freeTo p i).length<(freeTo p C).length:=by
 obtain ⟨t,ht⟩:=AR0 p (i+1) (C-(i+1))
 rw [show i+1+(C-(i+1))=C by omega,M0,if_neg hp] at ht
 rw [ht]
 constructor
 ·simp [List.getD_eq_getElem?_getD]
 ·simp
section
variable {m:List (List QV)} {b z:List QV}
end
end Go.Proofs.YtfilidfomgfnhaaGreat

namespace Go.Kx
open Go Go.RowKit
def oN (o:List Int):List Nat:=o.map Int.toNat
def inL (n:NtV) (o:List Int):List Nat:=freeTo (oN o) n.ls.length
theorem AJ6 {n:NtV} {o:List Int} (h:outsOk n o):∀ d i,i+d<o.length→o.getD i 0+d≤o.getD (i+d) 0
 | 0,i,_=>by simp
 | d+1,i,hd=>by
  have h1:=AJ6 h d i (by omega)
  have h2:=(h (i+(d+1)) hd).2.2 (by omega)
  rw [show i+(d+1)-1=i+d by omega] at h2
  omega
theorem AY9 {n:NtV} {o:List Int} (h:outsOk n o) {k:Nat}:k∈oN o↔∃ i,i<o.length∧o.getD i 0=k:=by
 unfold oN
 rw [List.mem_map]
 constructor
 ·rintro ⟨x,hx,rfl⟩
  obtain ⟨i,hi⟩:=List.mem_iff_getElem?.1 hx
  have hlt:=(List.getElem?_eq_some_iff.1 hi).1
  have e:o.getD i 0=x:=by rw [List.getD_eq_getElem?_getD,hi];rfl
  have:=h i hlt
  exact ⟨i,hlt,by omega⟩
 ·rintro ⟨i,hi,e⟩
  exact ⟨o.getD i 0,by rw [List.getD_eq_getElem?_getD,List.getElem?_eq_getElem hi];exact List.getElem_mem hi,by omega⟩
end Go.Kx
namespace Go.Proofs.YtfilidfomgfnhaaGreat
open Go Go.Kx Go.RowKit
theorem Au5 {n:NtV} {o:List Int} (h:chkE n≠0):outE n o=chkE n:=by unfold outE;rw [if_pos h]
theorem Am7 {n:NtV} {o:List Int} (h:outE n o=0):chkE n=0∧outsOk n o:=by
 unfold outE at h
 split at h
 ·exact absurd h (by assumption)
 ·split at h
  ·exact ⟨Classical.not_not.1 (by assumption),by assumption⟩
  ·cases h
theorem Ao0 {n:NtV} (h:chkE n=0):1≤n.b∧n.b≤6∧n.ls.length≤10∧chkOk n:=by
 unfold chkE at h
 split at h
 ·cases h
 ·split at h
  ·cases h
  ·split at h
   ·exact ⟨by omega,by omega,by omega,by assumption⟩
   ·cases h
theorem AS3:Ent Tryz.prog 70:=A0 Tryz.func70 (by kernel_rfl) rfl
theorem AQ1 {S:Nat→Prop} {w:World} {vn vo:Value} {n:NtV} {o:List Int} (hn:eN.R S w vn n) (ho:eI.R S w vo o):CR Tryz.prog 70 #[vn,vo] w (Is (.int .i64 (outE n o))):=by
 obtain ⟨s,rfl,hs,hb⟩:=hn
 have hn:eN.R S w (.agg #[.int .i64 n.b,s]) n:=⟨s,rfl,hs,hb⟩
 obtain ⟨_,_,_,_,hll⟩:=RL.len ho
 obtain ⟨_,_,_,_,hls⟩:=RL.len hs
 refine enter Tryz.func70 rfl Tryz.ntmps70 rfl ?_
 refine .seq (.region (.box rfl rfl fun w1 b2 n1=>.asg rfl rfl (.nil ?_)))
 obtain ⟨e1,k2,hb2,hs1⟩:=n1
 refine .seq (.seq (.region (.ldA ty_N rfl rfl k2 rfl ?_)))
 refine .call _ rfl Ah2 rfl (Ae6 (hn.ext e1)) fun v2 w2 e2 h2=>.asg rfl rfl (.nil ?_)
 subst h2
 have x2:=e1.trans e2
 refine .seq (.region (.mv rfl rfl ?_))
 by_cases hc:chkE n=0
 rotate_left
 ·refine .neqT rfl rfl rfl hc (.nil (.condT rfl (.seq (.region (.mv rfl rfl (.asg rfl rfl (.nil (.ret ?_))))))))
  exact .plain [_] Tryz.results70 ⟨rfl,trivial⟩ ⟨x2,by rw [Au5 hc];rfl⟩
 have hE:outsOk n o→outE n o=0:=fun h=>by unfold outE;rw [if_neg (by simpa using hc),if_pos h]
 have hE1:¬ outsOk n o→outE n o=1:=fun h=>by unfold outE;rw [if_neg (by simpa using hc),if_neg h]
 refine .neqF rfl rfl rfl hc (.nil (.condF rfl (.skip ?_)))
 have k2:=k2.ext e2
 have hs:=hs.ext x2
 have ho:=ho.ext x2
 refine .seq (.seq (.region (.mv rfl rfl (.lenR un_I rfl rfl ho (.mv rfl rfl (.nil ?_))))))
 refine .block (.loop (α:=Nat) (fun i=>[(1,vo),(2,.pointer (some ⟨b2,0,none⟩)),(13,vo),(14,.int .i64 (o.length:Nat)),(15,.int .i64 (i:Nat))]) (fun i W=>W=w2∧i≤o.length∧∀ j,j<i→0≤o.getD j 0∧o.getD j 0<n.ls.length∧(0<j→o.getD (j-1) 0<o.getD j 0)) (fun i=>o.length-i) 0 ?_ ?_ ?_)
 ·exact lkA rfl
 ·exact ⟨rfl,Nat.zero_le _,fun j hj=>absurd hj (Nat.not_lt_zero _)⟩
 rintro i W ⟨rfl,hi,hall⟩
 refine .seq (.region ?_)
 rcases Nat.lt_or_ge i o.length with hlt | hge
 rotate_left
 ·refine .lssF rfl rfl rfl (by omega) (.nil (.seq (.condF rfl (.exit (.seq (.region (.asg rfl rfl (.nil (.ret ?_)))))))))
  exact .plain [_] Tryz.results70 ⟨rfl,trivial⟩ ⟨x2,by rw [hE fun j hj=>hall j (by omega)];rfl⟩
 have hg:o[i]?=some (o.getD i 0):=A9 hlt
 refine .lssT rfl rfl rfl (by omega) (.nil (.seq (.condT rfl (.skip (.seq (.block (.seq (.region (.mv rfl rfl (.ixN (i:=i) un_I E2 rfl rfl ho rfl hg fun q hq=>.ldE (E:=eInt .i64) E2 rfl rfl hq fun e he=>.asg rfl rfl (.asg rfl rfl (.nil (.seq (.region (.mv rfl rfl ?_)))))))))))))))
 obtain ⟨rfl,_⟩:=he
 have hbad:∀ {σ:Env},¬ (0≤o.getD i 0∧o.getD i 0<n.ls.length∧(0<i→o.getD (i-1) 0<o.getD i 0))→Leave Tryz.prog Tryz.f70 43 (fun v w'=>Ext w w'∧Is (.int .i64 (outE n o)) v w') ((4,.int .i64 1)::σ) [] W:=fun h=>.plain [_] Tryz.results70 ⟨rfl,trivial⟩ ⟨x2,by rw [hE1 fun h'=>h (h' i hlt)];rfl⟩
 by_cases h0:o.getD i 0<0
 ·refine .lssT rfl rfl rfl h0 (.mv rfl rfl (.gs rfl rfl rfl rfl rfl (.gs rfl rfl rfl rfl rfl (.gs rfl rfl rfl rfl rfl (.gs rfl rfl rfl rfl rfl (.gs rfl rfl rfl rfl rfl (.pick rfl rfl rfl (.mv rfl rfl (.gs rfl rfl rfl rfl rfl (.gs rfl rfl rfl rfl rfl (.gs rfl rfl rfl rfl rfl ?_)))))))))))
  refine .gu rfl rfl rfl rfl (.gu rfl rfl rfl rfl (.gu rfl rfl rfl rfl (.gu rfl rfl rfl rfl (.gu rfl rfl rfl rfl (.gu rfl rfl rfl rfl (.gu rfl rfl rfl rfl (.gs rfl rfl rfl rfl rfl (.pick rfl rfl rfl (.nil (.condT rfl (.seq (.region (.asg rfl rfl (.nil (.ret ?_)))))))))))))))
  exact hbad (by omega)
 refine .lssF rfl rfl rfl (by omega) (.mv rfl rfl (.gr rfl rfl rfl rfl (.mv rfl rfl (.gr rfl rfl rfl rfl (.fa L5 rfl rfl (.gr rfl rfl rfl rfl (.ld Q5 rfl rfl k2 rfl (.gr rfl rfl rfl rfl (.lenR O5 rfl rfl hs (.gr rfl rfl rfl rfl ?_))))))))))
 by_cases h1:(n.ls.length:Int)≤o.getD i 0
 ·refine .geqT rfl rfl rfl h1 (.pick rfl rfl rfl (.mv rfl rfl (.gs rfl rfl rfl rfl rfl (.gs rfl rfl rfl rfl rfl (.gs rfl rfl rfl rfl rfl ?_)))))
  refine .gu rfl rfl rfl rfl (.gu rfl rfl rfl rfl (.gu rfl rfl rfl rfl (.gu rfl rfl rfl rfl (.gu rfl rfl rfl rfl (.gu rfl rfl rfl rfl (.gu rfl rfl rfl rfl (.gs rfl rfl rfl rfl rfl (.pick rfl rfl rfl (.nil (.condT rfl (.seq (.region (.asg rfl rfl (.nil (.ret ?_)))))))))))))))
  exact hbad (by omega)
 refine .geqF rfl rfl rfl (by omega) (.pick rfl rfl rfl (.mv rfl rfl (.gr rfl rfl rfl rfl (.mv rfl rfl (.gr rfl rfl rfl rfl ?_)))))
 have hnext:∀ {σ:Env},(0<i→o.getD (i-1) 0<o.getD i 0)→Kx.look σ 1=some vo→Kx.look σ 2=some (.pointer (some ⟨b2,0,none⟩))→Kx.look σ 13=some vo→Kx.look σ 14=some (.int .i64 (o.length:Nat))→∃ i':Nat,(∀ t v,Kx.look [(1,vo),(2,.pointer (some ⟨b2,0,none⟩)),(13,vo),(14,.int .i64 (o.length:Nat)),(15,.int .i64 (i':Nat))] t=some v→Kx.look ((15,.int .i64 ((i:Int)+1))::σ) t=some v)∧(W=W∧i'≤o.length∧∀ j,j<i'→0≤o.getD j 0∧o.getD j 0<n.ls.length∧(0<j→o.getD (j-1) 0<o.getD j 0))∧o.length-i'<o.length-i:=by
  intro σ hlast a1 a2 a3 a4
  refine ⟨i+1,A3 a1 (A3 a2 (A3 a3 (A3 a4 (lkA rfl)))),⟨rfl,hlt,fun j hj=>?_⟩,by omega⟩
  by_cases e:j=i
  ·subst e;exact ⟨by omega,by omega,hlast⟩
  ·exact hall j (by omega)
 by_cases hi0:0<i
 ·have hg':o[i-1]?=some (o.getD (i-1) 0):=A9 (by omega)
  refine .gtrT rfl rfl rfl (by omega) (.gr rfl rfl rfl rfl (.mv rfl rfl (.gr rfl rfl rfl rfl (.mv rfl rfl (.gr rfl rfl rfl rfl (.mv rfl rfl (.gr rfl rfl rfl rfl (.mv rfl rfl (.gr rfl rfl rfl rfl (.sub rfl rfl rfl ?_))))))))))
  rw [wI (by omega),show (i:Int)-1=((i-1:Nat):Int) by omega]
  refine .gr rfl rfl rfl rfl (.ixN (i:=i-1) un_I E2 rfl rfl ho rfl hg' fun q hq=>.gr rfl rfl rfl rfl (.ldE (E:=eInt .i64) E2 rfl rfl hq fun e he=>?_))
  obtain ⟨rfl,_⟩:=he
  by_cases hle:o.getD i 0≤o.getD (i-1) 0
  ·refine .gr rfl rfl rfl rfl (.leqT rfl rfl rfl hle (.gr rfl rfl rfl rfl (.pick rfl rfl rfl (.pick rfl rfl rfl (.nil (.condT rfl (.seq (.region (.asg rfl rfl (.nil (.ret ?_)))))))))))
   exact hbad (fun h=>by have:=h.2.2 hi0;omega)
  ·refine .gr rfl rfl rfl rfl (.leqF rfl rfl rfl (by omega) (.gr rfl rfl rfl rfl (.pick rfl rfl rfl (.pick rfl rfl rfl (.nil (.condF rfl (.skip (.region (.add rfl rfl rfl (.mv rfl rfl (.nil ?_)))))))))))
   rw [wI (by omega)]
   exact ⟨rfl,hnext (fun _=>by omega) rfl rfl rfl rfl⟩
 ·refine .gtrF rfl rfl rfl (by omega) (.gr rfl rfl rfl rfl (.mv rfl rfl (.gs rfl rfl rfl rfl rfl (.gs rfl rfl rfl rfl rfl (.gs rfl rfl rfl rfl rfl (.gs rfl rfl rfl rfl rfl (.gs rfl rfl rfl rfl rfl (.gs rfl rfl rfl rfl rfl (.gs rfl rfl rfl rfl rfl (.gr rfl rfl rfl rfl (.pick rfl rfl rfl (.pick rfl rfl rfl (.nil (.condF rfl (.skip (.region (.add rfl rfl rfl (.mv rfl rfl (.nil ?_)))))))))))))))))))
  rw [wI (by omega)]
  exact ⟨rfl,hnext (fun h=>absurd h hi0) rfl rfl rfl rfl⟩
theorem AM9:Ent Tryz.prog 151:=A0 Tryz.func151 (by kernel_rfl) rfl
theorem AM4 {w:World} {vn vo:Value} {x y:Value} (hn:vn=.agg #[x,y]) {a:Option Addr} {m c:Nat} (ho:vo=.slice a m c):CR Tryz.prog 151 #[vn,vo] w (fun v w'=>∃ b1 b2,v=.func (.func 205) #[] #[.pointer (some ⟨b1,0,none⟩),.pointer (some ⟨b2,0,none⟩)] ∧
  Blk w' b1 24 #[x,y]∧Blk w' b2 25 #[vo]∧w.heap.size≤b1∧w.heap.size≤b2):=by
 subst hn;subst ho
 refine enter Tryz.func151 rfl Tryz.ntmps151 rfl ?_
 refine .seq (.region (.box rfl rfl fun w1 b1 n1=>.box rfl rfl fun w2 b2 n2=>.asg rfl rfl (.nil ?_)))
 obtain ⟨e1,k1,hb1,hs1⟩:=n1
 obtain ⟨e2,k2,hb2,hs2⟩:=n2
 refine .seq (.region (.mkf [] [_,_] rfl rfl rfl rfl (.asg rfl rfl (.nil (.ret ?_)))))
 exact .plain [_] Tryz.results151 ⟨rfl,trivial⟩ ⟨e1.trans e2,b1,b2,rfl,k1.ext e2,k2,by omega,by have:=e1.size;omega⟩
theorem Ay3:Ent Tryz.prog 205:=A0 Tryz.func205 (by kernel_rfl) rfl
theorem Av6 {S:Nat→Prop} {n:NtV} {o:List Int} {s vo x:Value} {b1 b2:Nat} (hok:outsOk n o) (hl:n.ls.length≤10):Iter Tryz.prog 205 #[.pointer (some ⟨b1,0,none⟩),.pointer (some ⟨b2,0,none⟩)] (inL n o).length
  (fun k=>[.int .i64 ((inL n o).getD k 0:Nat)]) (fun W=>Blk W b1 24 #[x,s]∧Blk W b2 25 #[vo]∧eLs.R S W s n.ls∧eI.R S W vo o):=by
 intro l J X stJ stX hF hy W hJ
 have hF0:=hF 0 W hJ
 refine enterG Tryz.func205 rfl Tryz.ntmps205 rfl ?_
 refine .seq (.region (.asg rfl rfl (.nil (.seq (.region (.fa L5 rfl rfl (.ld Q5 rfl rfl hF0.1 rfl (.lenR O5 rfl rfl hF0.2.2.1 (.mv rfl rfl (.nil ?_))))))))))
 refine .block (.loop (α:=Nat×Nat) (fun y=>[(9,.int .i64 (y.1:Nat)),(8,.int .i64 (n.ls.length:Nat)),(4,.int .i64 (y.2:Nat)),(0,.func (.yield l) #[] #[]),(1,.pointer (some ⟨b1,0,none⟩)),(2,.pointer (some ⟨b2,0,none⟩))])
  (fun y W=>J (freeTo (oN o) y.1).length W∧y.1≤n.ls.length∧y.2≤o.length∧(∀ i,i<y.2→o.getD i 0<y.1)∧(y.2<o.length→(y.1:Int)≤o.getD y.2 0)) (fun y=>n.ls.length-y.1) (0,0) ?_ ?_ ?_)
 ·exact lkA rfl
 ·exact ⟨hJ,Nat.zero_le _,Nat.zero_le _,fun i hi=>absurd hi (Nat.not_lt_zero _),fun h=>(hok 0 h).1⟩
 rintro ⟨k,nx⟩ W ⟨hJ,hk,hnx,hlo,hhi⟩
 replace hJ:J (freeTo (oN o) k).length W:=hJ
 replace hk:k≤n.ls.length:=hk
 replace hnx:nx≤o.length:=hnx
 replace hlo:∀ i,i<nx→o.getD i 0<k:=hlo
 replace hhi:nx<o.length→(k:Int)≤o.getD nx 0:=hhi
 obtain ⟨hB1,hB2,hA,hB⟩:=hF _ W hJ
 obtain ⟨_,_,_,_,hll⟩:=RL.len hB
 refine .seq (.region ?_)
 rcases Nat.lt_or_ge k n.ls.length with hlt | hge
 rotate_left
 ·refine .lssF rfl rfl rfl (by omega) (.nil (.seq (.condF rfl (.exit ?_))))
  refine .plain [] Tryz.results205 trivial ?_
  have:k=n.ls.length:=by omega
  subst this;exact .inl hJ
 refine .lssT rfl rfl rfl (by omega) (.nil (.seq (.condT rfl (.skip (.seq (.block (.seq (.region (.mv rfl rfl (.asg rfl rfl (.nil ?_)))))))))))
 refine .mid (α:=Unit) (fun _=>[(9,.int .i64 (k:Nat)),(8,.int .i64 (n.ls.length:Nat)),(4,.int .i64 (nx:Nat)),(5,.int .i64 (k:Nat)),(0,.func (.yield l) #[] #[]),(1,.pointer (some ⟨b1,0,none⟩)),(2,.pointer (some ⟨b2,0,none⟩))]) (fun _ W'=>W'=W∧k∉oN o) ?_ ?_
 ·refine .seq (.region (.mv rfl rfl (.ld ty_I rfl rfl hB2 rfl (.lenR un_I rfl rfl hB ?_))))
  rcases Nat.lt_or_ge nx o.length with hn1 | hn1
  ·have hg:o[nx]?=some (o.getD nx 0):=A9 hn1
   refine .lssT rfl rfl rfl (by omega) (.mv rfl rfl (.gr rfl rfl rfl rfl (.ld ty_I rfl rfl hB2 rfl (.gr rfl rfl rfl rfl (.mv rfl rfl (.gr rfl rfl rfl rfl (.ixN (i:=nx) un_I E2 rfl rfl hB rfl hg fun q hq=>.gr rfl rfl rfl rfl (.ldE (E:=eInt .i64) E2 rfl rfl hq fun e he=>.gr rfl rfl rfl rfl (.mv rfl rfl (.gr rfl rfl rfl rfl ?_))))))))))
   obtain ⟨rfl,_⟩:=he
   have:=hhi hn1
   by_cases he:o.getD nx 0=k
   ·refine .eqlT rfl rfl rfl he (.pick rfl rfl rfl (.nil (.condT rfl (.seq (.region (.mv rfl rfl (.add rfl rfl rfl (.asg rfl rfl (.nil (.exit (.region (.add rfl rfl rfl (.mv rfl rfl (.nil ?_))))))))))))))
    rw [wI (by omega),wI (by omega)]
    refine ⟨rfl,(k+1,nx+1),lkA rfl,⟨?_,hlt,hn1,fun i hi=>?_,fun h=>?_⟩,by show n.ls.length-(k+1)<n.ls.length-k;omega⟩
    ·show J (freeTo (oN o) (k+1)).length W
     rw [M0,if_pos ((AY9 hok).2 ⟨nx,hn1,he⟩),List.append_nil]
     exact hJ
    ·show o.getD i 0<((k+1:Nat):Int)
     by_cases e:i=nx
     ·subst e;omega
     ·have:=hlo i (by have:i<nx+1:=hi;omega);omega
    ·show ((k+1:Nat):Int)≤o.getD (nx+1) 0
     have:=AJ6 hok 1 nx h
     omega
   ·refine .eqlF rfl rfl rfl he (.pick rfl rfl rfl (.nil (.condF rfl (.skip ?_))))
    refine ⟨rfl,(),lkA rfl,rfl,fun hm=>?_⟩
    obtain ⟨i,hi,e⟩:=(AY9 hok).1 hm
    rcases Nat.lt_or_ge i nx with h | h
    ·have:=hlo i h;omega
    ·have:=AJ6 hok (i-nx) nx (by omega)
     rw [show nx+(i-nx)=i by omega] at this
     omega
  ·refine .lssF rfl rfl rfl (by omega) (.mv rfl rfl (.gs rfl rfl rfl rfl rfl (.gs rfl rfl rfl rfl rfl (.gs rfl rfl rfl rfl rfl (.gs rfl rfl rfl rfl rfl (.gs rfl rfl rfl rfl rfl (.gs rfl rfl rfl rfl rfl (.pick rfl rfl rfl (.nil (.condF rfl (.skip ?_)))))))))))
   refine ⟨rfl,(),lkA rfl,rfl,fun hm=>?_⟩
   obtain ⟨i,hi,e⟩:=(AY9 hok).1 hm
   have:=hlo i (by omega)
   omega
 rintro _ _ ⟨rfl,hno⟩
 obtain ⟨hat,hatl⟩:=Ap3 (C:=n.ls.length) hlt hno
 have hy':=hy (freeTo (oN o) k).length _ hatl hJ
 dsimp only at hy'
 rw [show (inL n o).getD (freeTo (oN o) k).length 0=k from hat] at hy'
 refine .seq (.region (.mv rfl rfl (.mv rfl rfl ?_)))
 refine .yld (l:=l) [.int .i64 (k:Nat)] (R:=fun v w'=>(v=.bool true∧J ((freeTo (oN o) k).length+1) w')∨(v=.bool false∧X w')) rfl rfl rfl ?_ ?_
 ·refine YieldAt.mono hy' ?_
  rintro e W' (⟨rfl,h⟩ | ⟨rfl,h⟩)
  ·exact ⟨_,rfl,.inl ⟨rfl,h⟩⟩
  ·exact ⟨_,rfl,.inr ⟨rfl,h⟩⟩
 rintro v w' (⟨rfl,h⟩ | ⟨rfl,h⟩)
 ·refine .not_ rfl rfl (.nil (.condF rfl (.skip (.region (.add rfl rfl rfl (.mv rfl rfl (.nil ?_)))))))
  rw [wI (by omega)]
  refine ⟨rfl,(k+1,nx),lkA rfl,⟨?_,hlt,hnx,fun i hi=>?_,fun hn1=>?_⟩,by show n.ls.length-(k+1)<n.ls.length-k;omega⟩
  ·show J (freeTo (oN o) (k+1)).length w'
   rw [M0,if_neg hno,List.length_append]
   exact h
  ·show o.getD i 0<((k+1:Nat):Int)
   have:=hlo i hi;omega
  ·show ((k+1:Nat):Int)≤o.getD nx 0
   have h1:=hhi hn1
   have h2:o.getD nx 0≠k:=fun e=>hno ((AY9 hok).2 ⟨nx,hn1,e⟩)
   omega
 ·refine .not_ rfl rfl (.nil (.condT rfl (.ret ?_)))
  exact .plain [] Tryz.results205 trivial (.inr h)
theorem AW7 (p:List Nat) (i:Nat):(freeTo p i).length≤i:=by
 unfold freeTo
 have:=List.length_filter_le (fun k => !(decide (k∈p))) (List.range i)
 simpa using this
theorem AN5 (n:NtV) (o:List Int):(inL n o).length≤n.ls.length:=AW7 _ _
structure InJ (w:World) (S:Nat→Prop) (b7 b1 b2:Nat) (x s vo:Value) (n:NtV) (o:List Int) (k:Nat) (W:World):Prop where
 low:Below w.heap.size w W
 k1:Blk W b1 24 #[x,s]
 k2:Blk W b2 25 #[vo]
 acc:∃ v,Blk W b7 25 #[v]∧OwnL (eInt .i64) 3 w.heap.size (fun k=>S k∧k≠b7) W v (pInts ((inL n o).take k))
theorem InJ.sft {w0:World} {S:Nat→Prop} {b7 b1 b2:Nat} {x s vo:Value} {n:NtV} {o:List Int} {k D:Nat} {W W':World} (h:InJ w0 S b7 b1 b2 x s vo n o k W) (hs:Sft D W W') (hD:w0.heap.size≤D):InJ w0 S b7 b1 b2 x s vo n o k W':=by
 obtain ⟨v,h1,h2⟩:=h.acc
 exact ⟨h.low.trans (hs.below.mono hD),hs.cells.blk trivial h.k1,hs.cells.blk trivial h.k2,v,hs.cells.blk trivial h1,h2.kp hs.cells⟩
theorem Ah5:zeroOf Tryz.prog 25=some (.slice none 0 0):=by kernel_rfl
theorem Ah1:Ent Tryz.prog 82:=A0 Tryz.func82 (by kernel_rfl) rfl
theorem Ae5 {S:Nat→Prop} {w:World} {vn vo:Value} {n:NtV} {o:List Int} (up:Up S w) (hn:eN.R S w vn n) (ho:eI.R S w vo o):CR Tryz.prog 82 #[vn,vo] w (Two (eI.at S (if outE n o=0 then pInts (inL n o) else [])) (Is (.int .i64 (outE n o)))):=by
 obtain ⟨s,rfl,hs,hb⟩:=hn
 have hn:eN.R S w (.agg #[.int .i64 n.b,s]) n:=⟨s,rfl,hs,hb⟩
 obtain ⟨ao,co,hvo,_⟩:=RL.len ho
 refine enter Tryz.func82 rfl Tryz.ntmps82 rfl ?_
 refine .seq (.region (.box rfl rfl fun w1 b2 n1=>.asg rfl rfl (.asg rfl rfl (.nil ?_))))
 obtain ⟨e1,k2,hb2,hs1⟩:=n1
 refine .seq (.seq (.region (.ldA ty_N rfl rfl k2 rfl (.mv rfl rfl ?_))))
 refine .call _ rfl AS3 rfl (AQ1 (hn.ext e1) (ho.ext e1)) fun v2 w2 e2 h2=>.asg rfl rfl (.nil ?_)
 subst h2
 have x2:=e1.trans e2
 refine .seq (.region (.mv rfl rfl ?_))
 by_cases hE:outE n o=0
 rotate_left
 ·refine .neqT rfl rfl rfl hE (.nil (.condT rfl (.seq (.region (.mv rfl rfl (.asg rfl rfl (.asg rfl rfl (.nil (.ret ?_)))))))))
  refine .plain [_,_] Tryz.results82 ⟨rfl,rfl,trivial⟩ ⟨x2,_,_,rfl,?_,rfl⟩
  rw [if_neg hE];exact RL.nil
 rw [if_pos hE]
 obtain ⟨hc,hok⟩:=Am7 hE
 obtain ⟨_,_,hl10,_⟩:=Ao0 hc
 refine .neqF rfl rfl rfl hE (.nil (.condF rfl (.skip ?_)))
 refine .seq (.region (.alloc rfl Ah5 fun w3 b7 n3=>.nil ?_))
 obtain ⟨e3,k7,hb7,hs3⟩:=n3
 have x3:=x2.trans e3
 refine .seq (.seq (.region (.ldA ty_N rfl rfl ((k2.ext e2).ext e3) rfl (.mv rfl rfl ?_))))
 refine .call _ rfl AM9 rfl (AM4 rfl hvo) fun v4 w4 e4 h4=>.nil ?_
 obtain ⟨p1,p2,rfl,kp1,kp2,hp1,hp2⟩:=h4
 have x4:=x3.trans e4
 have hs4:=e4.size
 have hs2:=e2.size
 have hsL:∀ {W:World},Below w.heap.size w W→eLs.R (fun k=>S k∧k<w.heap.size) W s n.ls:=fun hB=>eLs.keep (fun k c t f hk h=>(hB.block k hk.2).trans h) (ER.lt eLs hs)
 have hoL:∀ {W:World},Below w.heap.size w W→eI.R (fun k=>S k∧k<w.heap.size) W vo o:=fun hB=>eI.keep (fun k c t f hk h=>(hB.block k hk.2).trans h) (ER.lt eI ho)
 refine .block (.range (Av6 (S:=fun k=>S k∧k<w.heap.size) (n:=n) (o:=o) (s:=s) (vo:=vo) (x:=.int .i64 n.b) hok hl10) rfl Ay3 (fun k=>rfl) (by decide)
  (InJ w S b7 p1 p2 (.int .i64 n.b) s vo n o) (fun _ _=>False) (fun k W W' h hs=>h.sft hs x4.size) (fun _ _ _ h _=>h.elim) (fun k W h=>⟨h.k1,h.k2,hsL h.low,hoL h.low⟩) ?_ ?_ ?_ (fun _ _ h=>h.elim))
 ·refine ⟨x4,kp1,kp2,_,k7.ext e4,?_⟩
  rw [List.take_zero];exact OwnL.nil
 ·intro l k W hk hJ
  refine .region (.asg rfl rfl (.nil ⟨rfl,rfl,fun W hJ hsz=>?_⟩))
  obtain ⟨hlow,kp1,kp2,v,k7,hown⟩:=hJ
  have hlw:=hlow.size
  refine .block (.region (.ld ty_I rfl rfl k7 rfl (.mv rfl rfl (.bsl _ rfl rfl Ak2 fun W1 by_ ny=>?_))))
  obtain ⟨ey,ky,hby,hsy⟩:=ny
  have hlow1:=hlow.trans (ey.mono hlw)
  have hkl:=AN5 n o
  refine .gv rfl rfl (AQ8 (E:=eInt .i64) (base:=w.heap.size) (n:=(((inL n o).getD k 0:Nat):Int)) (e:=.int .i64 (((inL n o).getD k 0:Nat):Int)) (by decide) un_I AQ3 rfl rfl rfl (hown.ext ey) ky ⟨rfl,by
    have:(inL n o).getD k 0<n.ls.length:=by
     have hm:(inL n o).getD k 0∈inL n o:=F3 hk
     unfold inL freeTo at hm
     exact List.mem_range.1 (List.mem_filter.1 hm).1
    exact F0.2 (by omega)⟩ (by simp;omega) (by decide) hlow1.size) ?_
  rintro v8 W8 ⟨ho8,hg8⟩
  have hown1:=hown.ext ey
  have k78:=hown1.gblk hg8 (k7.ext ey) (by decide)
  have kp18:=hown1.gblk hg8 (kp1.ext ey) (by decide)
  have kp28:=hown1.gblk hg8 (kp2.ext ey) (by decide)
  have hlow8:=hown1.below hg8 hlow1 hlow1.size
  obtain ⟨a8,c8,hv8⟩:=ho8.slice
  refine .store ty_I rfl rfl k78 (by rw [hv8];rfl) (by simp) (by rw [hv8];simp [one1,Value.cells]) fun W9 k9 u9=>.nil ?_
  refine ⟨((Oth.ext ey).trans (hown1.oth hg8)).trans (Oth.upd u9 k78),u9.below hlow8 (by omega),kp18.upd u9 (by omega),kp28.upd u9 (by omega),v8,by rw [hv8] at k9 ⊢;exact k9,?_⟩
  have:=ho8.upd u9 k78 (by decide) (fun h=>h.2 rfl)
  have htk:pInts ((inL n o).take (k+1))=pInts ((inL n o).take k)++[(((inL n o).getD k 0:Nat):Int)]:=by
   unfold pInts
   rw [List.take_add_one,A9 (z:=0) hk,List.map_append]
   rfl
  rw [htk]
  exact this
 ·intro W hJ hD
  obtain ⟨hlow,kp1,kp2,v,k7,hown⟩:=hJ
  refine .seq (.region (.ld ty_I rfl rfl k7 rfl (.asg rfl rfl (.asg rfl rfl (.nil (.ret ?_))))))
  refine .mark [_,_] Tryz.results82 hD ⟨rfl,rfl,trivial⟩ ⟨M1 hlow x4.size,_,_,rfl,?_,by rw [hE]⟩
  rw [List.take_of_length_le (Nat.le_refl _)] at hown
  exact (hown.kp (Kp.put hD rfl)).toR up (fun _ h=>h.1)
end Go.Proofs.YtfilidfomgfnhaaGreat

namespace Go.Kx
def dl (a b:Nat):Rat:=if a=b then 1 else 0
theorem AN9 (a:Nat):dl a a=1:=if_pos rfl
theorem Af4 {a b:Nat} (h:a≠b):dl a b=0:=if_neg h
theorem AP5 {n a:Nat} (f:Nat→Rat) (h:a<n):sumN n (fun b=>f b*dl a b)=f a:=by
 rw [J2 (i:=a) (fun k _ hne=>by rw [Af4 (Ne.symm hne),Rat.mul_zero]),if_pos h,AN9,Rat.mul_one]
theorem rat_sq (x:Rat):0≤x*x:=by
 rcases Rat.le_total (a:=0) (b:=x) with h | h
 ·exact Rat.mul_nonneg h h
 ·have h2:0 ≤ -x:=by grind
  have:=Rat.mul_nonneg h2 h2
  grind
theorem rat_sq0 {x:Rat} (h:x*x=0):x=0:=by
 rcases Rat.mul_eq_zero.1 h with h | h<;>exact h
theorem Ae1 {n:Nat} {f:Nat→Rat} (h:∀ k,k<n→0≤f k):0≤sumN n f:=by
 induction n with
 | zero=>exact Rat.le_refl
 | succ n ih =>
  have h1:=ih fun k hk=>h k (by omega)
  have h2:=h n (by omega)
  unfold sumN
  grind
theorem Al9 {n:Nat} {f g:Nat→Rat} (h:∀ k,k<n→f k≤g k):sumN n f≤sumN n g:=by
 have:=Ae1 (n:=n) (f:=fun k=>g k-f k) fun k hk=>by have:=h k hk;grind
 rw [V5] at this
 grind
theorem Ao1 {n:Nat} {f:Nat→Rat} (h:∀ k,k<n→0≤f k) {j:Nat} (hj:j<n):f j≤sumN n f:=by
 have h1:sumN n (fun k=>if k=j then f j else 0)=f j:=by
  rw [J2 (i:=j) (fun k _ hne=>if_neg hne),if_pos hj,if_pos rfl]
 rw [←h1]
 refine Al9 fun k hk=>?_
 have:=h k hk
 by_cases e:k=j
 ·subst e;rw [if_pos rfl];exact Rat.le_refl
 ·rw [if_neg e];exact this
theorem Ao2 {n:Nat} {f:Nat→Rat} (h:∀ k,k<n→0≤f k) (h0:sumN n f=0) {j:Nat} (hj:j<n):f j=0:=by
 have h1:=Ao1 h hj
 have h2:=h j hj
 rw [h0] at h1
 exact Rat.le_antisymm h1 h2
structure Nw where
 B:Nat
 M:Nat
 F:Nat→Nat
 T:Nat→Nat
 g:Nat→Rat
structure Nw.Ok (n:Nw):Prop where
 f:∀ k,k<n.M→n.F k<n.B
 t:∀ k,k<n.M→n.T k<n.B
 p:∀ k,k<n.M→0≤n.g k
namespace Nw
section
variable (n:Nw)
def inc (k b:Nat):Rat:=dl (n.F k) b-dl (n.T k) b
def fl (θ:Nat→Rat) (k:Nat):Rat:=n.g k*(θ (n.F k)-θ (n.T k))
def off (f:Nat→Rat) (b:Nat):Rat:=sumN n.M fun k=>n.inc k b*f k
def lap (θ:Nat→Rat) (b:Nat):Rat:=n.off (n.fl θ) b
def Lm (b c:Nat):Rat:=sumN n.M fun k=>n.g k*(n.inc k b*n.inc k c)
def clo (D:Nat→Prop):Prop:=∀ k,k<n.M→n.g k≠0→(D (n.F k)↔D (n.T k))
/-- the least bus of the island, with the first lines -/
def rootTo:Nat→Nat→Nat
 | 0,b=>b
 | j+1,b=>if n.g j=0 then rootTo j b else if rootTo j b=max (rootTo j (n.F j)) (rootTo j (n.T j)) then min (rootTo j (n.F j)) (rootTo j (n.T j)) else rootTo j b
def root (b:Nat):Nat:=n.rootTo n.M b
def gm (b c:Nat):Rat:=if n.root b=b then dl b c else n.Lm b c
end
section
variable {n:Nw} {θ φ f:Nat→Rat}
theorem Al8 (ok:n.Ok) {k:Nat} (hk:k<n.M) (φ:Nat→Rat):sumN n.B (fun b=>φ b*n.inc k b)=φ (n.F k)-φ (n.T k):=by
 have e:sumN n.B (fun b=>φ b*n.inc k b)=sumN n.B (fun b=>φ b*dl (n.F k) b-φ b*dl (n.T k) b):=A7 fun b _=>by unfold inc;grind
 rw [e,V5,AP5 φ (ok.f k hk),AP5 φ (ok.t k hk)]
theorem green (ok:n.Ok) (φ f:Nat→Rat):sumN n.B (fun b=>φ b*n.off f b)=sumN n.M fun k=>(φ (n.F k)-φ (n.T k))*f k:=by
 have e:sumN n.B (fun b=>φ b*n.off f b)=sumN n.B (fun b=>sumN n.M fun k=>φ b*n.inc k b*f k):=A7 fun b _=>by
  unfold off
  rw [←Q7]
  exact A7 fun k _=>by grind
 rw [e,V4]
 refine A7 fun k hk=>?_
 rw [AJ3,Al8 ok hk]
theorem lap_sum (ok:n.Ok) (θ:Nat→Rat) (b:Nat):sumN n.B (fun c=>n.Lm b c*θ c)=n.lap θ b:=by
 have e:sumN n.B (fun c=>n.Lm b c*θ c)=sumN n.B (fun c=>sumN n.M fun k=>n.g k*n.inc k b*(θ c*n.inc k c)):=A7 fun c _=>by
  unfold Lm
  rw [←AJ3]
  exact A7 fun k _=>by grind
 rw [e,V4]
 unfold lap off
 refine A7 fun k hk=>?_
 rw [Q7,Al8 ok hk]
 unfold fl
 grind
/-- no power, no differences -/
theorem rigid (ok:n.Ok) {D:Nat→Prop} (hD:n.clo D) (h:∀ b,b<n.B→D b→θ b*n.lap θ b=0):∀ k,k<n.M→n.g k≠0→D (n.F k)→θ (n.F k)=θ (n.T k):=by
 classical
 have e:=green ok (fun b=>if D b then θ b else 0) (n.fl θ)
 have e0:sumN n.B (fun b=>(if D b then θ b else 0)*n.off (n.fl θ) b)=0:=L2 fun b hb=>by
  by_cases hd:D b
  ·rw [if_pos hd];exact h b hb hd
  ·rw [if_neg hd,Rat.zero_mul]
 rw [e0] at e
 have hterm:∀ k,k<n.M→((if D (n.F k) then θ (n.F k) else 0)-(if D (n.T k) then θ (n.T k) else 0))*n.fl θ k=if D (n.F k) then n.g k*((θ (n.F k)-θ (n.T k))*(θ (n.F k)-θ (n.T k))) else 0:=by
  intro k hk
  by_cases hg:n.g k=0
  ·unfold fl
   rw [hg]
   split<;>grind
  ·have:=hD k hk hg
   by_cases hd:D (n.F k)
   ·rw [if_pos hd,if_pos (this.1 hd),if_pos hd]
    unfold fl
    grind
   ·rw [if_neg hd,if_neg (fun x=>hd (this.2 x)),if_neg hd]
    grind
 intro k hk hg hd
 have hn:∀ k,k<n.M→0≤((if D (n.F k) then θ (n.F k) else 0)-(if D (n.T k) then θ (n.T k) else 0))*n.fl θ k:=fun k hk=>by
  rw [hterm k hk]
  split
  ·exact Rat.mul_nonneg (ok.p k hk) (rat_sq _)
  ·exact Rat.le_refl
 have h0:=Ao2 hn e.symm hk
 rw [hterm k hk,if_pos hd] at h0
 rcases Rat.mul_eq_zero.1 h0 with h0 | h0
 ·exact absurd h0 hg
 ·have:=rat_sq0 h0
  grind
/-- what no line sees is the same all over an island -/
theorem Am2 {θ:Nat→Rat}:∀ j,(∀ k,k<j→n.g k≠0→θ (n.F k)=θ (n.T k))→∀ b,θ (n.rootTo j b)=θ b
 | 0,_,b=>rfl
 | j+1,h,b=>by
  have ih:=Am2 j fun k hk=>h k (by omega)
  unfold rootTo
  split
  ·exact ih b
  ·rename_i hg
   split
   ·rename_i e
    have h1:=h j (by omega) hg
    have hF:=ih (n.F j)
    have hT:=ih (n.T j)
    have hb:=ih b
    have h2:θ (max (n.rootTo j (n.F j)) (n.rootTo j (n.T j)))=θ (n.F j):=by
     rcases Nat.le_total (n.rootTo j (n.F j)) (n.rootTo j (n.T j)) with h | h
     ·rw [Nat.max_eq_right h,hT,h1]
     ·rw [Nat.max_eq_left h,hF]
    have h3:θ (min (n.rootTo j (n.F j)) (n.rootTo j (n.T j)))=θ (n.F j):=by
     rcases Nat.le_total (n.rootTo j (n.F j)) (n.rootTo j (n.T j)) with h | h
     ·rw [Nat.min_eq_left h,hF]
     ·rw [Nat.min_eq_right h,hT,h1]
    rw [h3,←h2,←e,hb]
   ·exact ih b
theorem AV8:∀ j b,n.rootTo j b≤b
 | 0,b=>Nat.le_refl b
 | j+1,b=>by
  have ih:=AV8 j
  have:=ih b
  unfold rootTo
  split
  ·exact this
  ·split
   ·rename_i e;omega
   ·exact this
theorem AL1:∀ j b,n.rootTo j (n.rootTo j b)=n.rootTo j b
 | 0,b=>rfl
 | j+1,b=>by
  have ih:=AL1 j
  have ib:=ih b
  have iF:=ih (n.F j)
  have iT:=ih (n.T j)
  by_cases hg:n.g j=0
  ·have e:∀ b,n.rootTo (j+1) b=n.rootTo j b:=fun b=>by rw [rootTo,if_pos hg]
   rw [e,e];exact ib
  ·have e:∀ b,n.rootTo (j+1) b=if n.rootTo j b=max (n.rootTo j (n.F j)) (n.rootTo j (n.T j)) then min (n.rootTo j (n.F j)) (n.rootTo j (n.T j)) else n.rootTo j b:=fun b=>by rw [rootTo,if_neg hg]
   rw [e b]
   split
   ·rw [e]
    rcases Nat.le_total (n.rootTo j (n.F j)) (n.rootTo j (n.T j)) with h | h
    ·rw [Nat.min_eq_left h,Nat.max_eq_right h,iF]
     split
     ·rfl
     ·rfl
    ·rw [Nat.min_eq_right h,Nat.max_eq_left h,iT]
     split
     ·rfl
     ·rfl
   ·rename_i hne
    rw [e,ib,if_neg hne]
theorem root_le (b:Nat):n.root b≤b:=AV8 _ b
theorem root_root (b:Nat):n.root (n.root b)=n.root b:=AL1 _ b
theorem Ai5 (h:∀ k,k<n.M→n.g k≠0→θ (n.F k)=θ (n.T k)) (b:Nat):θ (n.root b)=θ b:=Am2 _ h b
theorem fl_out {k:Nat} (h:n.g k=0):n.fl θ k=0:=by unfold fl;rw [h,Rat.zero_mul]
/-- the equations with the reference buses have no other solution than nothing -/
theorem ker0 (ok:n.Ok) (h:∀ b,b<n.B→if n.root b=b then θ b=0 else n.lap θ b=0):∀ b,b<n.B→θ b=0:=by
 have hr:=rigid (θ:=θ) ok (D:=fun _=>True) (fun _ _ _=>Iff.rfl) fun b hb _=>by
  have:=h b hb
  split at this
  ·rw [this,Rat.zero_mul]
  ·rw [this,Rat.mul_zero]
 intro b hb
 rw [←Ai5 (fun k hk hg=>hr k hk hg trivial) b]
 have hle:=root_le (n:=n) b
 have:=h (n.root b) (by omega)
 rw [if_pos (root_root b)] at this
 exact this
theorem gm_sum (ok:n.Ok) (θ:Nat→Rat) {b:Nat} (hb:b<n.B):sumN n.B (fun c=>n.gm b c*θ c)=if n.root b=b then θ b else n.lap θ b:=by
 unfold gm
 split
 ·rw [←AP5 θ hb]
  exact A7 fun c _=>by grind
 ·exact lap_sum ok θ b
theorem lap_sub (b:Nat):n.lap (fun c=>θ c-φ c) b=n.lap θ b-n.lap φ b:=by
 unfold lap off
 rw [←V5]
 exact A7 fun k _=>by unfold fl;grind
/-- angles are known by their outflow and by the reference buses -/
theorem uniq (ok:n.Ok) (h:∀ b,b<n.B→if n.root b=b then θ b=φ b else n.lap θ b=n.lap φ b):∀ b,b<n.B→θ b=φ b:=by
 intro b hb
 have:=ker0 (θ:=fun c=>θ c-φ c) ok (fun b hb=>by
  have:=h b hb
  split at this
  ·rw [if_pos (by assumption),this];grind
  ·rw [if_neg (by assumption),lap_sub,this];grind) b hb
 grind
end
end Nw
end Go.Kx

namespace Go.Kx
open Go Go.RowKit
def ln0:LnV:=⟨0,0,1,0⟩
/-- the network as numbers -/
def nwOf (n:NtV) (o:List Int):Nw where
 B:=n.b.toNat
 M:=n.ls.length
 F:=fun k=>(n.ls.getD k ln0).f.toNat
 T:=fun k=>(n.ls.getD k ln0).t.toNat
 g:=fun k=>if k∈oN o then 0 else ((n.ls.getD k ln0).x:Rat)⁻¹
def tabI (n:Nat) (p:Nat→Nat):List Int:=(List.range n).map fun b=>((p b:Nat):Int)
theorem G2 (n:Nat) (p:Nat→Nat):(tabI n p).length=n:=by simp [tabI]
theorem AA2 {n i:Nat} {p:Nat→Nat} (h:i<n):(tabI n p)[i]?=some ((p i:Nat):Int):=by unfold tabI;rw [List.getElem?_map,List.getElem?_range h];rfl
theorem As8 {n i v:Nat} {p:Nat→Nat}:(tabI n p).set i ((v:Nat):Int)=tabI n fun b=>if b=i then v else p b:=by
 apply List.ext_getElem?
 intro j
 rw [List.getElem?_set]
 unfold tabI
 rw [List.length_map,List.length_range,List.getElem?_map,List.getElem?_map]
 by_cases hj:i=j
 ·subst hj
  rw [if_pos rfl]
  by_cases h:i<n
  ·rw [if_pos h,List.getElem?_range h];simp
  ·rw [if_neg h,List.getElem?_eq_none (by simpa using h)];rfl
 ·rw [if_neg hj]
  by_cases h:j<n
  ·rw [List.getElem?_range h];simp [Ne.symm hj]
  ·rw [List.getElem?_eq_none (by simpa using h)];rfl
/-- climbing p leads to R -/
def Clm (B:Nat) (p R:Nat→Nat):Prop:=∀ b,b<B→p b≤b∧(p b=b→R b=b)∧(p b≠b→R b=R (p b))
def Nw.stepR (n:Nw) (R:Nat→Nat) (k:Nat):Nat→Nat:=fun b=>if R b=max (R (n.F k)) (R (n.T k)) then min (R (n.F k)) (R (n.T k)) else R b
def Nw.rootF (n:Nw) (l:List Nat):Nat→Nat:=l.foldl n.stepR id
theorem Nw.rootF_snoc (n:Nw) (l:List Nat) (k:Nat):n.rootF (l++[k])=n.stepR (n.rootF l) k:=by unfold Nw.rootF;rw [List.foldl_append];rfl
theorem Nw.rootF_free {n:Nw} {p:List Nat}:∀ j,(∀ k,k<j→(n.g k=0↔k∈p))→n.rootTo j=n.rootF (freeTo p j)
 | 0,_=>rfl
 | j+1,h=>by
  have ih:=Nw.rootF_free j fun k hk=>h k (by omega)
  have hj:=h j (by omega)
  rw [Go.Proofs.YtfilidfomgfnhaaGreat.M0]
  funext b
  rw [Nw.rootTo]
  by_cases hg:n.g j=0
  ·rw [if_pos hg,if_pos (hj.1 hg),List.append_nil,ih]
  ·rw [if_neg hg,if_neg (fun h=>hg (hj.2 h)),Nw.rootF_snoc,←ih];rfl
structure Idm (R:Nat→Nat):Prop where
 rr:∀ b,R (R b)=R b
 le:∀ b,R b≤b
theorem Idm.step {n:Nw} {R:Nat→Nat} (h:Idm R) (k:Nat):Idm (n.stepR R k):=by
 have hF:=h.rr (n.F k)
 have hT:=h.rr (n.T k)
 unfold Nw.stepR
 generalize R (n.F k)=a at *
 generalize R (n.T k)=c at *
 have hm:R (min a c)=min a c:=by
  rcases Nat.le_total a c with h | h
  ·rw [Nat.min_eq_left h,hF]
  ·rw [Nat.min_eq_right h,hT]
 refine ⟨fun b=>?_,fun b=>?_⟩
 ·by_cases hb:R b=max a c
  ·rw [if_pos hb,hm]
   split
   ·rfl
   ·rfl
  ·rw [if_neg hb,h.rr,if_neg hb]
 ·have:=h.le b
  split
  ·omega
  ·exact this
theorem Nw.rootF_idm (n:Nw) (l:List Nat):Idm (n.rootF l):=by
 unfold Nw.rootF
 have:∀ (l:List Nat) (R:Nat→Nat),Idm R→Idm (l.foldl n.stepR R):=by
  intro l
  induction l with
  | nil=>exact fun R h=>h
  | cons k l ih=>exact fun R h=>ih _ (h.step k)
 exact this l id ⟨fun _=>rfl,fun b=>Nat.le_refl b⟩
theorem Clm.step {n:Nw} {B k:Nat} {p R:Nat→Nat} (h:Clm B p R) (hi:Idm R):Clm B (fun b=>if b=max (R (n.F k)) (R (n.T k)) then min (R (n.F k)) (R (n.T k)) else p b) (n.stepR R k):=by
 have iF:=hi.rr (n.F k)
 have iT:=hi.rr (n.T k)
 unfold Nw.stepR
 generalize R (n.F k)=a at *
 generalize R (n.T k)=c at *
 have hM:R (max a c)=max a c:=by
  rcases Nat.le_total a c with h | h
  ·rw [Nat.max_eq_right h,iT]
  ·rw [Nat.max_eq_left h,iF]
 have hm:R (min a c)=min a c:=by
  rcases Nat.le_total a c with h | h
  ·rw [Nat.min_eq_left h,iF]
  ·rw [Nat.min_eq_right h,iT]
 intro b hb
 obtain ⟨h1,h2,h3⟩:=h b hb
 dsimp only
 by_cases hbM:b=max a c
 ·subst hbM
  rw [if_pos rfl]
  refine ⟨by omega,fun h=>?_,fun h=>?_⟩
  ·rw [hM,if_pos rfl];exact h
  ·rw [hM,hm,if_pos rfl,if_neg h]
 ·rw [if_neg hbM]
  refine ⟨h1,fun h=>?_,fun h=>?_⟩
  ·rw [h2 h,if_neg hbM]
  ·rw [h3 h]
/-- the number of an island -/
def Nw.lab (n:Nw) (b:Nat):Nat:=((List.range (n.root b)).filter fun r=>decide (n.root r=r)).length
def Nw.refs (n:Nw):List Nat:=(List.range n.B).filter fun r=>decide (n.root r=r)
def Nw.cnt (n:Nw) (b:Nat):Nat:=((List.range b).filter fun r=>decide (n.root r=r)).length
theorem Nw.cnt_succ (n:Nw) (b:Nat):n.cnt (b+1)=n.cnt b+if n.root b=b then 1 else 0:=by
 unfold Nw.cnt
 rw [List.range_succ,List.filter_append,List.length_append]
 by_cases h:n.root b=b
 ·simp [h]
 ·simp [h]
theorem Nw.cnt_le (n:Nw) (b:Nat):n.cnt b≤b:=by
 unfold Nw.cnt
 have:=List.length_filter_le (fun r=>decide (n.root r=r)) (List.range b)
 simpa using this
theorem Nw.lab_root (n:Nw) {b:Nat} (h:n.root b=b):n.lab b=n.cnt b:=by unfold Nw.lab Nw.cnt;rw [h]
theorem Nw.lab_of (n:Nw) (b:Nat):n.lab b=n.lab (n.root b):=by unfold Nw.lab;rw [Nw.root_root]
theorem Nw.lab_le (n:Nw) (b:Nat):n.lab b≤b:=Nat.le_trans (n.cnt_le _) (Nw.root_le b)
def lnI (l:LnV):Nat→Int
 | 0=>l.f
 | 1=>l.t
 | 2=>l.x
 | _=>l.c
theorem PtrTo.ln {S:Nat→Prop} {w:World} {p:Addr} {l:LnV} (h:PtrTo eL S w p l) (i:Nat) (hi:i<4):PtrTo (eInt .i64) S w (p.add i) (lnI l i):=by
 obtain ⟨e,⟨rfl,h1,h2,h3,h4⟩,hS,hc⟩:=h
 refine ⟨.int .i64 (lnI l i),⟨rfl,?_⟩,by rw [F8];exact hS,fun j u hu=>?_⟩
 ·match i with
  | 0=>exact h1
  | 1=>exact h2
  | 2=>exact h3
  | 3=>exact h4
 ·have hj:j=0:=by
   cases j with
   | zero=>rfl
   | succ j=>simp [Value.cells] at hu
  subst hj
  rw [S6]
  refine hc _ u ?_
  match i with
  | 0=>simpa [Value.cells,lnI] using hu
  | 1=>simpa [Value.cells,lnI] using hu
  | 2=>simpa [Value.cells,lnI] using hu
  | 3=>simpa [Value.cells,lnI] using hu
section
variable {P:Program} {σ:Env} {w:World} {d:Option Tmp} {ty:TypeId} {pos:String} {af:Array Edge} {g:Option (Nat×Bool)} {S:Nat→Prop}
theorem AY5 {s:TypeId} {x:Operand} {i off:Nat} {u:Value} {l:LnV} (hf:fldOf P s i=some off) (hx:ev σ x=some u) (hp:Ptr eL S l u w) (ho:off<4):Gv P ⟨d,.fieldAddr s x i,ty,pos,af,g⟩ σ w fun v' w'=>Ext w w'∧Sp.ok (.inr (Ptr (eInt .i64) S (lnI l off))) v' w':=by
 obtain ⟨p,rfl,hp⟩:=hp
 exact L9 (Al5 hf hx) ⟨_,rfl,hp.ln off ho⟩ (fun _ _ _ e ⟨p,h1,h2⟩=>⟨p,h1,h2.ext e⟩)
end
section
variable {P:Program} {ro:Option Nat} {N:Nat} {ds:List Deferred} {ops:Array Oper} {K:Env→World→Prop} {rest:List Oper} {σ:Env} {w:World} {d:Tmp} {ty:TypeId} {pos:String} {af:Array Edge} {S:Nat→Prop}
end
end Go.Kx
namespace Go.Proofs.YtfilidfomgfnhaaGreat
open Go Go.Kx Go.RowKit
/-- what a net that was found good is like -/
structure nwOk (n:NtV) (o:List Int):Prop where
 b:n.b=((nwOf n o).B:Nat)
 b1:1≤(nwOf n o).B
 b6:(nwOf n o).B≤6
 m:(nwOf n o).M≤10
 fI:∀ k,k<(nwOf n o).M→(n.ls.getD k ln0).f=((nwOf n o).F k:Nat)
 tI:∀ k,k<(nwOf n o).M→(n.ls.getD k ln0).t=((nwOf n o).T k:Nat)
 f:∀ k,k<(nwOf n o).M→(nwOf n o).F k<(nwOf n o).B
 t:∀ k,k<(nwOf n o).M→(nwOf n o).T k<(nwOf n o).B
 ne:∀ k,k<(nwOf n o).M→(nwOf n o).F k≠(nwOf n o).T k
 x:∀ k,k<(nwOf n o).M→1≤(n.ls.getD k ln0).x∧(n.ls.getD k ln0).x≤1000
 c:∀ k,k<(nwOf n o).M→0≤(n.ls.getD k ln0).c∧(n.ls.getD k ln0).c≤1000000
 outs:outsOk n o
theorem AG7 {n:NtV} {o:List Int} (h:outE n o=0):nwOk n o:=by
 obtain ⟨hc,ho⟩:=Am7 h
 obtain ⟨h1,h6,h10,hck⟩:=Ao0 hc
 have hB:n.b=((n.b.toNat:Nat):Int):=by omega
 have hl:∀ k,k<n.ls.length→∀ i,i<5→ck i n.b (n.ls.getD k ln0)=true:=fun k hk=>hck k hk _ (A9 hk)
 refine ⟨hB,by show 1≤n.b.toNat;omega,by show n.b.toNat≤6;omega,h10,fun k hk=>?_,fun k hk=>?_,fun k hk=>?_,fun k hk=>?_,fun k hk=>?_,fun k hk=>?_,fun k hk=>?_,ho⟩
 all_goals
  have c0:=hl k hk 0 (by decide)
  have c1:=hl k hk 1 (by decide)
  have c2:=hl k hk 2 (by decide)
  have c3:=hl k hk 3 (by decide)
  have c4:=hl k hk 4 (by decide)
  simp [ck] at c0 c1 c2 c3 c4
 ·show (n.ls.getD k ln0).f=(((n.ls.getD k ln0).f.toNat:Nat):Int)
  simp;omega
 ·show (n.ls.getD k ln0).t=(((n.ls.getD k ln0).t.toNat:Nat):Int)
  simp;omega
 ·show (n.ls.getD k ln0).f.toNat<n.b.toNat
  simp;omega
 ·show (n.ls.getD k ln0).t.toNat<n.b.toNat
  simp;omega
 ·show (n.ls.getD k ln0).f.toNat≠(n.ls.getD k ln0).t.toNat
  simp;omega
 ·simpa using c3
 ·simpa using c4
theorem nwOk.g0 {n:NtV} {o:List Int} (h:nwOk n o) {k:Nat} (hk:k<(nwOf n o).M):(nwOf n o).g k=0↔k∈oN o:=by
 show (if k∈oN o then (0:Rat) else ((n.ls.getD k ln0).x:Rat)⁻¹)=0↔_
 constructor
 ·intro h0
  by_cases hm:k∈oN o
  ·exact hm
  ·rw [if_neg hm] at h0
   have hx:=(h.x k hk).1
   have hne:((n.ls.getD k ln0).x:Rat)≠0:=fun e=>by
    have:(n.ls.getD k ln0).x=0:=by exact_mod_cast e
    omega
   have h2:=Rat.mul_inv_cancel _ hne
   rw [h0,Rat.mul_zero] at h2
   exact absurd h2 (by decide)
 ·intro hm;rw [if_pos hm]
theorem nwOk.ok {n:NtV} {o:List Int} (h:nwOk n o):(nwOf n o).Ok:=by
 refine ⟨h.f,h.t,fun k hk=>?_⟩
 show (0:Rat)≤if k∈oN o then (0:Rat) else ((n.ls.getD k ln0).x:Rat)⁻¹
 split
 ·exact Rat.le_refl
 ·have hx:=(h.x k hk).1
  exact Rat.le_of_lt (Rat.inv_pos.2 (by exact_mod_cast (by omega:0<(n.ls.getD k ln0).x)))
theorem Al0:Ent Tryz.prog 125:=A0 Tryz.func125 (by kernel_rfl) rfl
theorem Aj6 {w:World} {b8 g B b:Nat} {p R:Nat→Nat} (k8:Blk w b8 25 #[.slice (some ⟨g,0,none⟩) B B]) (hf:FB (eInt .i64) 3 (fun _=>True) w g (tabI B p)) (hp:Clm B p R) (hb:b<B) :
  CR Tryz.prog 125 #[.int .i64 (b:Nat),.pointer (some ⟨b8,0,none⟩)] w (Is (.int .i64 (R b:Nat))):=by
 refine enter Tryz.func125 rfl Tryz.ntmps125 rfl ?_
 refine .seq (.region (.asg rfl rfl (.nil (.scope (.seq (.label (.seq ?_)))))))
 refine .block (.loop (α:=Nat) (fun x=>[(0,.int .i64 (x:Nat)),(1,.pointer (some ⟨b8,0,none⟩))]) (fun x W=>W=w∧x<B∧R x=R b) (fun x=>x) b ?_ ?_ ?_)
 ·exact lkA rfl
 ·exact ⟨rfl,hb,rfl⟩
 rintro x W ⟨rfl,hx,hR⟩
 obtain ⟨h1,h2,h3⟩:=hp x hx
 refine .block (.seq (.region (.ld ty_I rfl rfl k8 rfl (.mv rfl rfl (.ixB (i:=x) un_I E2 rfl rfl rfl hx (.ldF (E:=eInt .i64) (i:=x) (by decide) E2 rfl rfl (Nat.zero_add _) hf (AA2 hx) fun e he=>.asg rfl rfl (.nil (.seq (.region (.mv rfl rfl (.nil ?_)))))))))))
 obtain ⟨rfl,_⟩:=he
 refine .block (.seq (.region (.mv rfl rfl ?_)))
 by_cases hpx:p x=x
 ·refine .eqlT rfl rfl rfl (by omega) (.asg rfl rfl (.nil (.condT rfl (.exit (.seq (.region (.mv rfl rfl (.asg rfl rfl (.nil (.ret ?_))))))))))
  exact .plain [_] Tryz.results125 ⟨rfl,trivial⟩ ⟨Ext.refl _,by rw [←hR,h2 hpx];rfl⟩
 ·refine .eqlF rfl rfl rfl (by omega) (.asg rfl rfl (.nil (.condF rfl (.region (.mv rfl rfl (.asg rfl rfl (.nil ?_)))))))
  exact ⟨rfl,p x,lkA rfl,⟨rfl,by omega,by rw [←h3 hpx];exact hR⟩,by omega⟩
end Go.Proofs.YtfilidfomgfnhaaGreat

namespace Go.Proofs.YtfilidfomgfnhaaGreat
open Go Go.Kx Go.RowKit
theorem AZ6 {n:NtV} {o:List Int} {i:Nat} (hi:i<(inL n o).length):(pInts (inL n o))[i]?=some (((inL n o).getD i 0:Nat):Int)∧(inL n o).getD i 0<n.ls.length∧(inL n o).getD i 0∉oN o:=by
 have key:∀ k,k∈inL n o→k<n.ls.length∧k∉oN o:=fun k hk=>by
  unfold inL freeTo at hk
  rw [List.mem_filter] at hk
  exact ⟨List.mem_range.1 hk.1,by simpa using hk.2⟩
 obtain ⟨h1,h2⟩:=key _ (F3 hi)
 exact ⟨by rw [List.getElem?_map,A9 (z:=0) hi];rfl,h1,h2⟩
theorem fil_get {B i j:Nat} {f:Nat→Int} (hj:j<B) (hi:j<i):(fil B i f 0)[j]?=some (f j):=by
 unfold fil
 rw [List.getElem?_map,List.getElem?_range hj]
 simp [hi]
theorem AC3:Ent Tryz.prog 58:=A0 Tryz.func58 (by kernel_rfl) rfl
theorem AA8 {S:Nat→Prop} {w:World} {vn vo:Value} {n:NtV} {o:List Int} (up:Up S w) (hn:eN.R S w vn n) (ho:eI.R S w vo o) :
  CR Tryz.prog 58 #[vn,vo] w (Two (eI.at S (if outE n o=0 then tabI (nwOf n o).B (nwOf n o).lab else [])) (Is (.int .i64 (outE n o)))):=by
 obtain ⟨s,rfl,hs,hb⟩:=hn
 have hn:eN.R S w (.agg #[.int .i64 n.b,s]) n:=⟨s,rfl,hs,hb⟩
 refine enter Tryz.func58 rfl Tryz.ntmps58 rfl ?_
 refine .seq (.region (.box rfl rfl fun w1 b2 n1=>.asg rfl rfl (.asg rfl rfl (.nil ?_))))
 obtain ⟨e1,k2,hb2,hs1⟩:=n1
 refine .seq (.region (.ldA ty_N rfl rfl k2 rfl (.mv rfl rfl ?_)))
 refine .call _ rfl Ah1 rfl (Ae5 (up.ext e1.size) (hn.ext e1) (ho.ext e1)) fun v2 w2 e2 h2=>?_
 obtain ⟨vl,ve,rfl,hl,he⟩:=h2
 replace he:ve=.int .i64 (outE n o):=he
 subst he
 have x2:=e1.trans e2
 refine .mv rfl rfl (.ext rfl rfl rfl (.ext rfl rfl rfl (.asg rfl rfl (.asg rfl rfl (.nil (.seq (.seq (.region (.mv rfl rfl ?_)))))))))
 by_cases hE:outE n o=0
 rotate_left
 ·refine .neqT rfl rfl rfl hE (.nil (.condT rfl (.seq (.region (.mv rfl rfl (.asg rfl rfl (.asg rfl rfl (.nil (.ret ?_)))))))))
  refine .plain [_,_] Tryz.results58 ⟨rfl,rfl,trivial⟩ ⟨x2,_,_,rfl,?_,rfl⟩
  rw [if_neg hE];exact RL.nil
 have ok:=AG7 hE
 rw [if_pos hE] at hl ⊢
 have hB6:=ok.b6
 have hM10:n.ls.length≤10:=ok.m
 have hll:=AN5 n o
 generalize hB:(nwOf n o).B=B at *
 refine .neqF rfl rfl rfl hE (.nil (.condF rfl (.skip ?_)))
 have k2:=k2.ext e2
 have hnb:=ok.b
 rw [hB] at hnb
 rw [hnb] at k2
 refine .seq (.region (.fa P3 rfl rfl (.ld B0 rfl rfl k2 rfl ?_)))
 refine .make_ B B un_I AQ3 rfl (by decide) rfl rfl rfl (Nat.le_refl _) (by omega) (by omega) fun w3 g n3=>?_
 have f3:FB (eInt .i64) 3 (fun _=>True) w3 g (List.replicate B 0):=FB.made n3 ⟨rfl,by decide⟩
 obtain ⟨e3,_,hg3,hs3⟩:=n3
 refine .alloc rfl Ah5 fun w4 b8 n4=>?_
 obtain ⟨e4,k8,hb8,hs4⟩:=n4
 refine .store ty_I rfl rfl k8 rfl (by simp [Value.cells]) (by simp [one1,Value.cells]) fun w5 k8 u5=>.nil ?_
 replace k8:Blk w5 b8 25 #[.slice (some ⟨g,0,none⟩) B B]:=k8
 have hs2:=e2.size
 have hs5:=u5.size
 have x4:=x2.trans (e3.trans e4)
 have x5:Ext w w5:=u5.below x4 (by omega)
 have x25:Ext w2 w5:=u5.below (e3.trans e4) (by omega)
 have k2:=k2.ext x25
 have hl:=ER.ext eI (ER.lt eI hl) x25
 have hsL:=ER.ext eLs (ER.lt eLs hs) x5
 have hupd:∀ {W W':World} {l:List Int} {b:Nat},FB (eInt .i64) 3 (fun _=>True) W g l→Upd W W' b→g≠b→FB (eInt .i64) 3 (fun _=>True) W' g l:=fun hf u hne=>by
  obtain ⟨es,hb,he⟩:=hf
  exact ⟨es,hb.upd u hne,he.1,fun i e x h1 h2=>he.2 i e x h1 h2⟩
 have f5:=hupd (f3.ext e4) u5 (by omega)
 have hgw:w2.heap.size≤g:=by omega
 have hg8:g≠b8:=by omega
 have hg2:b2≠g:=by omega
 have hw25:w2.heap.size≤w5.heap.size:=by omega
 refine .mid (α:=Unit) (fun _=>[(2,.pointer (some ⟨b2,0,none⟩)),(6,vl),(8,.pointer (some ⟨b8,0,none⟩))]) (fun _ W=>Below w2.heap.size w5 W∧Blk W b8 25 #[.slice (some ⟨g,0,none⟩) B B]∧FB (eInt .i64) 3 (fun _=>True) W g (tabI B id)) ?_ ?_
 ·refine .seq (.region (.ld ty_I rfl rfl k8 rfl (.len un_I rfl rfl (.mv rfl rfl (.nil ?_)))))
  refine .block (.loop (α:=Nat) (fun i=>[(2,.pointer (some ⟨b2,0,none⟩)),(6,vl),(8,.pointer (some ⟨b8,0,none⟩)),(32,.int .i64 (B:Nat)),(33,.int .i64 (i:Nat))]) (fun i W=>Below w2.heap.size w5 W∧Blk W b8 25 #[.slice (some ⟨g,0,none⟩) B B]∧i≤B∧FB (eInt .i64) 3 (fun _=>True) W g (fil B i (fun b=>((b:Nat):Int)) 0)) (fun i=>B-i) 0 ?_ ?_ ?_)
  ·exact lkA rfl
  ·refine ⟨Below.refl _ _,k8,Nat.zero_le _,?_⟩
   rw [H7];exact f5
  rintro i W ⟨hW,k8,hi,fb⟩
  refine .seq (.region ?_)
  rcases Nat.lt_or_ge i B with hlt | hge
  rotate_left
  ·refine .lssF rfl rfl rfl (by omega) (.nil (.seq (.condF rfl (.exit ?_))))
   have:i=B:=by omega
   subst this
   refine ⟨rfl,(),lkA rfl,hW,k8,?_⟩
   rw [N2] at fb
   exact fb
  refine .lssT rfl rfl rfl (by omega) (.nil (.seq (.condT rfl (.skip (.seq (.block (.seq (.region (.mv rfl rfl (.asg rfl rfl (.nil (.region (.ld ty_I rfl rfl k8 rfl (.mv rfl rfl (.mv rfl rfl (.ixB (i:=i) un_I E2 rfl rfl rfl hlt ?_))))))))))))))))
  refine .storeF (E:=eInt .i64) (i:=i) (z:=((i:Nat):Int)) (by decide) E2 rfl rfl fb rfl (by rw [D6];exact hlt) (Nat.zero_add _) ⟨rfl,F0.2 (by omega)⟩ fun W1 f1 u1=>.nil ?_
  refine .region (.add rfl rfl rfl (.mv rfl rfl (.nil ?_)))
  rw [wI (by omega)]
  rw [I9] at f1
  exact ⟨rfl,i+1,lkA rfl,⟨u1.below hW hgw,k8.upd u1 hg8.symm,hlt,f1⟩,by show B-(i+1)<B-i;omega⟩
 rintro _ W0 ⟨hW0,k8,fb0⟩
 have hk2:∀ {W:World},Below w2.heap.size w5 W→Blk W b2 24 #[.int .i64 (B:Nat),s]:=fun h=>(h.block b2 (by omega)).trans k2
 have hlW:∀ {W:World},Below w2.heap.size w5 W→eI.R (fun k=>S k∧k<w2.heap.size) W vl (pInts (inL n o)):=fun h=>eI.keep (fun k c t f hk hh=>(h.block k hk.2).trans hh) hl
 have hsW:∀ {W:World},Below w2.heap.size w5 W→eLs.R (fun k=>S k∧k<w.heap.size) W s n.ls:=fun h=>eLs.keep (fun k c t f hk hh=>(h.block k (by have:=hk.2;have:=x2.size;omega)).trans hh) hsL
 refine .seq (.region (.mkf [] [_] rfl rfl rfl rfl (.asg rfl rfl (.nil ?_))))
 refine .mid (α:=Nat→Nat) (fun _=>[(2,.pointer (some ⟨b2,0,none⟩)),(8,.pointer (some ⟨b8,0,none⟩)),(10,.func (.func 125) #[] #[.pointer (some ⟨b8,0,none⟩)])]) (fun p W=>Below w2.heap.size w5 W∧Blk W b8 25 #[.slice (some ⟨g,0,none⟩) B B]∧FB (eInt .i64) 3 (fun _=>True) W g (tabI B p)∧Clm B p ((nwOf n o).rootF (inL n o))) ?_ ?_
 ·refine .seq (.region (.mv rfl rfl (.lenR un_I rfl rfl (hlW hW0) (.mv rfl rfl (.nil ?_)))))
  rw [show (pInts (inL n o)).length=(inL n o).length by simp]
  refine .block (.loop (α:=Nat×(Nat→Nat)) (fun y=>[(2,.pointer (some ⟨b2,0,none⟩)),(8,.pointer (some ⟨b8,0,none⟩)),(10,.func (.func 125) #[] #[.pointer (some ⟨b8,0,none⟩)]),(42,vl),(43,.int .i64 ((inL n o).length:Nat)),(44,.int .i64 (y.1:Nat))])
   (fun y W=>Below w2.heap.size w5 W∧Blk W b8 25 #[.slice (some ⟨g,0,none⟩) B B]∧y.1≤(inL n o).length∧FB (eInt .i64) 3 (fun _=>True) W g (tabI B y.2)∧Clm B y.2 ((nwOf n o).rootF ((inL n o).take y.1))) (fun y=>(inL n o).length-y.1) (0,id) ?_ ?_ ?_)
  ·exact lkA rfl
  ·exact ⟨hW0,k8,Nat.zero_le _,fb0,fun b _=>⟨Nat.le_refl _,fun _=>rfl,fun h=>absurd rfl h⟩⟩
  rintro ⟨i,p⟩ W ⟨hW,k8,hi,fb,hc⟩
  replace hW:Below w2.heap.size w5 W:=hW
  replace hi:i≤(inL n o).length:=hi
  replace fb:FB (eInt .i64) 3 (fun _=>True) W g (tabI B p):=fb
  replace hc:Clm B p ((nwOf n o).rootF ((inL n o).take i)):=hc
  refine .seq (.region ?_)
  rcases Nat.lt_or_ge i (inL n o).length with hlt | hge
  rotate_left
  ·refine .lssF rfl rfl rfl (by omega) (.nil (.seq (.condF rfl (.exit ?_))))
   have:i=(inL n o).length:=by omega
   subst this
   rw [List.take_of_length_le (Nat.le_refl _)] at hc
   exact ⟨rfl,p,lkA rfl,hW,k8,fb,hc⟩
  obtain ⟨hgk,hkM,hko⟩:=AZ6 hlt
  refine .lssT rfl rfl rfl (by omega) (.nil (.seq (.condT rfl (.skip (.seq (.block (.seq (.region (.ixN (i:=i) un_I E2 rfl rfl (hlW hW) rfl hgk fun q hq=>.ldE (E:=eInt .i64) E2 rfl rfl hq fun e he=>.asg rfl rfl (.nil ?_))))))))))
  obtain ⟨rfl,_⟩:=he
  have htk:(inL n o).take (i+1)=(inL n o).take i++[(inL n o).getD i 0]:=by rw [List.take_add_one,A9 (z:=0) hlt];rfl
  have hFB:=ok.f _ hkM
  have hTB:=ok.t _ hkM
  have hFI:=ok.fI _ hkM
  have hTI:=ok.tI _ hkM
  have hgl:n.ls[(inL n o).getD i 0]?=some (n.ls.getD ((inL n o).getD i 0) ln0):=A9 hkM
  have hidm:=(nwOf n o).rootF_idm ((inL n o).take i)
  generalize hR:(nwOf n o).rootF ((inL n o).take i)=R at hc hidm
  generalize hk:(inL n o).getD i 0=k at hgl hFB hTB hFI hTI hkM hko htk
  rw [hB] at hFB hTB
  have hlF:=hidm.le ((nwOf n o).F k)
  have hlT:=hidm.le ((nwOf n o).T k)
  refine .seq ?_
  refine .par follows 16 [.inl (.func (.func 125) #[] #[.pointer (some ⟨b8,0,none⟩)]),.inl (.pointer (some ⟨b2,1,none⟩)),.inl s,.inl (.int .i64 (k:Nat)),.inr (Ptr eL (fun k=>S k∧k<w.heap.size) (n.ls.getD k ln0)),.inr (Ptr (eInt .i64) (fun k=>S k∧k<w.heap.size) (n.ls.getD k ln0).f),.inl (.int .i64 ((nwOf n o).F k:Nat)),.inl (.int .i64 (R ((nwOf n o).F k):Nat)),
   .inl (.func (.func 125) #[] #[.pointer (some ⟨b8,0,none⟩)]),.inl (.pointer (some ⟨b2,1,none⟩)),.inl s,.inl (.int .i64 (k:Nat)),.inr (Ptr eL (fun k=>S k∧k<w.heap.size) (n.ls.getD k ln0)),.inr (Ptr (eInt .i64) (fun k=>S k∧k<w.heap.size) (n.ls.getD k ln0).t),.inl (.int .i64 ((nwOf n o).T k:Nat)),.inl (.int .i64 (R ((nwOf n o).T k):Nat))]
   [[],[],[(49,1)],[],[(50,2),(51,3)],[(52,4)],[(53,5)],[(48,0),(54,6)],[],[],[(57,9)],[],[(58,10),(59,11)],[(60,12)],[(61,13)],[(56,8),(62,14)]] (by kernel_rfl) ⟨
   fun w e=>(v_mv rfl).ob,fun w e=>(v_fa L5 rfl).ob,fun w e=>(v_ld Q5 rfl ((hk2 hW).ext e) rfl).ob,fun w e=>(v_mv rfl).ob,
   fun w e=>E0 (i:=k) O5 S2 rfl (ER.ext eLs (hsW hW) e) rfl hgl,fun w e x hx=>AY5 K9 rfl hx (by decide),fun w e x hx=>by rw [←hFI];exact AJ7 E2 rfl hx,
   fun w e=>Gv.obIs (Y5 [.int .i64 ((nwOf n o).F k:Nat)] rfl Al0 rfl (Aj6 (k8.ext e) (fb.ext e) hc hFB)),
   fun w e=>(v_mv rfl).ob,fun w e=>(v_fa L5 rfl).ob,fun w e=>(v_ld Q5 rfl ((hk2 hW).ext e) rfl).ob,fun w e=>(v_mv rfl).ob,
   fun w e=>E0 (i:=k) O5 S2 rfl (ER.ext eLs (hsW hW) e) rfl hgl,fun w e x hx=>AY5 K8 rfl hx (by decide),fun w e x hx=>by rw [←hTI];exact AJ7 E2 rfl hx,
   fun w e=>Gv.obIs (Y5 [.int .i64 ((nwOf n o).T k:Nat)] rfl Al0 rfl (Aj6 (k8.ext e) (fb.ext e) hc hTB)),trivial⟩ ?_
  intro W1 f1 _ _ _ _ _ _ _ _
  refine .asg rfl rfl (.asg rfl rfl (.nil (.region (.ld ty_I rfl rfl (k8.ext f1) rfl (.mv rfl rfl (.mv rfl rfl (.max_ rfl rfl rfl (.mv rfl rfl (.mv rfl rfl (.min_ rfl rfl rfl ?_))))))))))
  rw [show max ((R ((nwOf n o).F k):Nat):Int) (R ((nwOf n o).T k):Nat)=((max (R ((nwOf n o).F k)) (R ((nwOf n o).T k)):Nat):Int) by omega,show min ((R ((nwOf n o).F k):Nat):Int) (R ((nwOf n o).T k):Nat)=((min (R ((nwOf n o).F k)) (R ((nwOf n o).T k)):Nat):Int) by omega]
  refine .ixB (i:=max (R ((nwOf n o).F k)) (R ((nwOf n o).T k))) un_I E2 rfl rfl rfl (by omega) ?_
  refine .storeF (E:=eInt .i64) (i:=max (R ((nwOf n o).F k)) (R ((nwOf n o).T k))) (z:=((min (R ((nwOf n o).F k)) (R ((nwOf n o).T k)):Nat):Int)) (by decide) E2 rfl rfl (fb.ext f1) rfl (by rw [G2];omega) (Nat.zero_add _) ⟨rfl,F0.2 (by omega)⟩ fun W2 f2 u2=>.nil ?_
  rw [As8] at f2
  have hW1:=hW.trans (f1.mono (by have:=hW.size;omega))
  refine .region (.add rfl rfl rfl (.mv rfl rfl (.nil ?_)))
  rw [wI (by omega)]
  refine ⟨rfl,(i+1,_),lkA rfl,⟨u2.below hW1 hgw,(k8.ext f1).upd u2 hg8.symm,hlt,f2,?_⟩,by show (inL n o).length-(i+1)<(inL n o).length-i;omega⟩
  show Clm B _ ((nwOf n o).rootF ((inL n o).take (i+1)))
  rw [htk,Nw.rootF_snoc,hR]
  exact hc.step hidm
 rintro p W1 ⟨hW1,k8,fb,hc⟩
 rw [show (nwOf n o).rootF (inL n o)=(nwOf n o).root by
  funext b
  unfold Nw.root
  rw [Nw.rootF_free (p:=oN o) _ fun k hk=>ok.g0 hk];rfl] at hc
 have hW1s:=hW1.size
 refine .seq (.region (.fa P3 rfl rfl (.ld B0 rfl rfl (hk2 hW1) rfl ?_)))
 refine .make_ B B un_I AQ3 rfl (by decide) rfl rfl rfl (Nat.le_refl _) (by omega) (by omega) fun W2 h n2=>?_
 have f2:FB (eInt .i64) 3 (fun _=>True) W2 h (List.replicate B 0):=FB.made n2 ⟨rfl,by decide⟩
 obtain ⟨e2',_,hh2,hs2'⟩:=n2
 refine .asg rfl rfl (.nil (.seq (.region (.asg rfl rfl (.nil ?_)))))
 have hgh:g≠h:=by have:=fb.lt;omega
 have k8:=k8.ext e2'
 have h8h:b8≠h:=by have:=hW1s;omega
 have fb:=fb.ext e2'
 have hW2:=hW1.trans (e2'.mono (by omega))
 have hhw:w2.heap.size≤h:=by omega
 have hupd':∀ {W W':World} {l:List Int},FB (eInt .i64) 3 (fun _=>True) W g l→Upd W W' h→FB (eInt .i64) 3 (fun _=>True) W' g l:=fun hf u=>hupd hf u hgh
 refine .seq (.seq (.region (.mv rfl rfl (.len un_I rfl rfl (.mv rfl rfl (.nil ?_))))))
 refine .block (.loop (α:=Nat) (fun i=>[(8,.pointer (some ⟨b8,0,none⟩)),(10,.func (.func 125) #[] #[.pointer (some ⟨b8,0,none⟩)]),(15,.slice (some ⟨h,0,none⟩) B B),(16,.int .i64 ((nwOf n o).cnt i:Nat)),(77,.int .i64 (B:Nat)),(78,.int .i64 (i:Nat))])
  (fun i W=>Below w2.heap.size w5 W∧Blk W b8 25 #[.slice (some ⟨g,0,none⟩) B B]∧i≤B∧FB (eInt .i64) 3 (fun _=>True) W g (tabI B p)∧FB (eInt .i64) 3 (fun _=>True) W h (fil B i (fun b=>(((nwOf n o).lab b:Nat):Int)) 0)) (fun i=>B-i) 0 ?_ ?_ ?_)
 ·exact lkA rfl
 ·refine ⟨hW2,k8,Nat.zero_le _,fb,?_⟩
  rw [H7];exact f2
 rintro i W ⟨hW,k8,hi,fb,fl⟩
 refine .seq (.region ?_)
 rcases Nat.lt_or_ge i B with hlt | hge
 rotate_left
 ·refine .lssF rfl rfl rfl (by omega) (.nil (.seq (.condF rfl (.exit (.seq (.region (.mv rfl rfl (.asg rfl rfl (.asg rfl rfl (.nil (.ret ?_)))))))))))
  have:i=B:=by omega
  subst this
  refine .plain [_,_] Tryz.results58 ⟨rfl,rfl,trivial⟩ ⟨Below.trans x5 (hW.mono (by omega)),_,_,rfl,?_,by rw [hE]⟩
  rw [N2] at fl
  have fl':FB (eInt .i64) 3 S W h (tabI i (nwOf n o).lab):=by
   obtain ⟨es,hb,he⟩:=fl
   exact ⟨es,hb,he.1,fun i e x h1 h2=>he.2 i e x h1 h2⟩
  have:=fl'.toR (hsz:=by decide) (c:=i) (up h (by omega)) (by rw [G2];omega) (by rw [G2];omega)
  rw [G2] at this
  exact this
 refine .lssT rfl rfl rfl (by omega) (.nil (.seq (.condT rfl (.skip (.seq (.block (.seq (.region (.mv rfl rfl (.asg rfl rfl (.nil (.seq (.seq (.region (.mv rfl rfl (.mv rfl rfl ?_))))))))))))))))
 refine .callv [.int .i64 (i:Nat)] rfl rfl Al0 rfl (Aj6 k8 fb hc hlt) fun v3 W3 e3 h3=>.asg rfl rfl (.nil (.seq (.region (.mv rfl rfl (.mv rfl rfl ?_)))))
 subst h3
 have hrl:=Nw.root_le (n:=nwOf n o) i
 have hlb:=Nw.lab_le (nwOf n o) i
 have hcl:=Nw.cnt_le (nwOf n o) i
 have hcs:=Nw.cnt_succ (nwOf n o) i
 have hW3:=hW.trans (e3.mono (by have:=hW.size;omega))
 have k8:=k8.ext e3
 have fb:=fb.ext e3
 have fl:=fl.ext e3
 by_cases hr:(nwOf n o).root i=i
 ·refine .neqF rfl rfl rfl (by omega) (.nil (.condF rfl (.skip (.seq (.region (.mv rfl rfl (.mv rfl rfl (.mv rfl rfl (.ixB (i:=i) un_I E2 rfl rfl rfl hlt ?_)))))))))
  refine .storeF (E:=eInt .i64) (i:=i) (z:=(((nwOf n o).lab i:Nat):Int)) (by decide) E2 rfl rfl fl rfl (by rw [D6];exact hlt) (Nat.zero_add _) ⟨by rw [Nw.lab_root _ hr],F0.2 (by omega)⟩ fun W4 f4 u4=>.nil ?_
  rw [I9 (f:=fun b=>(((nwOf n o).lab b:Nat):Int))] at f4
  refine .region (.mv rfl rfl (.add rfl rfl rfl (.asg rfl rfl (.nil (.region (.add rfl rfl rfl (.mv rfl rfl (.nil ?_))))))))
  rw [wI (by omega),wI (by omega)]
  rw [if_pos hr] at hcs
  exact ⟨rfl,i+1,A3 rfl (A3 rfl (A3 rfl (A3 (by rw [hcs];rfl) (lkA rfl)))),⟨u4.below hW3 hhw,k8.upd u4 h8h,hlt,hupd' fb u4,f4⟩,by show B-(i+1)<B-i;omega⟩
 ·refine .neqT rfl rfl rfl (by omega) (.nil (.condT rfl (.seq (.region (.mv rfl rfl (.mv rfl rfl (.mv rfl rfl (.mv rfl rfl (.ixB (i:=(nwOf n o).root i) un_I E2 rfl rfl rfl (by omega) ?_)))))))))
  refine .ldF (E:=eInt .i64) (i:=(nwOf n o).root i) (by decide) E2 rfl rfl (Nat.zero_add _) fl (fil_get (by omega) (by omega)) fun e he=>?_
  obtain ⟨rfl,_⟩:=he
  refine .ixB (i:=i) un_I E2 rfl rfl rfl hlt ?_
  refine .storeF (E:=eInt .i64) (i:=i) (z:=(((nwOf n o).lab i:Nat):Int)) (by decide) E2 rfl rfl fl rfl (by rw [D6];exact hlt) (Nat.zero_add _) ⟨by rw [Nw.lab_of _ i],F0.2 (by omega)⟩ fun W4 f4 u4=>.nil ?_
  rw [I9 (f:=fun b=>(((nwOf n o).lab b:Nat):Int))] at f4
  refine .exit (.region (.add rfl rfl rfl (.mv rfl rfl (.nil ?_))))
  rw [wI (by omega)]
  rw [if_neg hr,Nat.add_zero] at hcs
  exact ⟨rfl,i+1,A3 rfl (A3 rfl (A3 rfl (A3 (by rw [hcs];rfl) (lkA rfl)))),⟨u4.below hW3 hhw,k8.upd u4 h8h,hlt,hupd' fb u4,f4⟩,by show B-(i+1)<B-i;omega⟩
end Go.Proofs.YtfilidfomgfnhaaGreat

namespace Go.Kx
open Go Go.RowKit
theorem Am3 (P:Nat→Bool) (i:Nat):∀ d,∃ t,(List.range (i+d)).filter P=(List.range i).filter P++t
 | 0=>⟨[],by simp⟩
 | d+1=>by
  obtain ⟨t,ht⟩:=Am3 P i d
  rw [show i+(d+1)=(i+d)+1 by omega,List.range_succ,List.filter_append,ht,List.append_assoc]
  exact ⟨_,rfl⟩
theorem rng_at {P:Nat→Bool} {r C:Nat} (hr:r<C) (hP:P r=true):((List.range C).filter P).getD ((List.range r).filter P).length 0=r∧((List.range r).filter P).length<((List.range C).filter P).length:=by
 obtain ⟨t,ht⟩:=Am3 P (r+1) (C-(r+1))
 rw [show r+1+(C-(r+1))=C by omega,List.range_succ,List.filter_append] at ht
 have e:List.filter P [r]=[r]:=by simp [hP]
 rw [e] at ht
 rw [ht]
 constructor
 ·rw [List.getD_eq_getElem?_getD,List.append_assoc,List.getElem?_append_right (Nat.le_refl _)];simp
 ·simp
def Nw.refsTo (n:Nw) (b:Nat):List Nat:=(List.range b).filter fun r=>decide (n.root r=r)
theorem Nw.refsTo_len (n:Nw) (b:Nat):(n.refsTo b).length=n.cnt b:=rfl
theorem Nw.refsTo_succ (n:Nw) (b:Nat):n.refsTo (b+1)=n.refsTo b++if n.root b=b then [b] else []:=by
 unfold Nw.refsTo
 rw [List.range_succ,List.filter_append]
 by_cases h:n.root b=b
 ·simp [h]
 ·simp [h]
theorem Nw.cnt_mono (n:Nw) (a:Nat):∀ d,n.cnt a≤n.cnt (a+d)
 | 0=>Nat.le_refl _
 | d+1=>by have:=Nw.cnt_mono n a d;have:=n.cnt_succ (a+d);rw [show a+(d+1)=a+d+1 by omega];omega
theorem Nw.lab_cnt (n:Nw) (b:Nat):n.lab b=n.cnt b↔n.root b=b:=by
 refine ⟨fun h=>?_,fun h=>n.lab_root h⟩
 have hle:=Nw.root_le (n:=n) b
 rcases Nat.lt_or_ge (n.root b) b with hlt | hge
 ·exfalso
  have h1:n.lab b=n.cnt (n.root b):=rfl
  have h2:=n.cnt_succ (n.root b)
  rw [if_pos (Nw.root_root b)] at h2
  have h3:=n.cnt_mono (n.root b+1) (b-(n.root b+1))
  rw [show n.root b+1+(b-(n.root b+1))=b by omega] at h3
  omega
 ·omega
theorem Nw.refs_lab (n:Nw) {b:Nat} (hb:b<n.B):n.refs.getD (n.lab b) 0=n.root b∧n.lab b<n.refs.length:=by
 have hle:=Nw.root_le (n:=n) b
 exact rng_at (P:=fun r=>decide (n.root r=r)) (r:=n.root b) (C:=n.B) (by omega) (decide_eq_true (Nw.root_root b))
theorem Nw.mem_refs {n:Nw} {r:Nat}:r∈n.refs↔r<n.B∧n.root r=r:=by
 unfold Nw.refs
 rw [List.mem_filter,List.mem_range]
 simp
theorem Nw.lab_eq {n:Nw} {a b:Nat} (ha:a<n.B) (hb:b<n.B):n.lab a=n.lab b↔n.root a=n.root b:=by
 constructor
 ·intro h
  rw [←(n.refs_lab ha).1,←(n.refs_lab hb).1,h]
 ·intro h;unfold Nw.lab;rw [h]
end Go.Kx
namespace Go.Proofs.YtfilidfomgfnhaaGreat
open Go Go.Kx Go.RowKit
theorem AU9:Ent Tryz.prog 83:=A0 Tryz.func83 (by kernel_rfl) rfl
theorem AU1 {S:Nat→Prop} {w:World} {vn vo:Value} {n:NtV} {o:List Int} (up:Up S w) (hn:eN.R S w vn n) (ho:eI.R S w vo o) :
  CR Tryz.prog 83 #[vn,vo] w (Two (eI.at S (if outE n o=0 then pInts (nwOf n o).refs else [])) (Is (.int .i64 (outE n o)))):=by
 have hvn:=shpA (E:=eN) rfl hn
 refine enter Tryz.func83 rfl Tryz.ntmps83 rfl ?_
 refine .seq (.region (.box rfl rfl fun w1 b2 n1=>.asg rfl rfl (.asg rfl rfl (.nil ?_))))
 obtain ⟨e1,k2,hb2,hs1⟩:=n1
 refine .seq (.region (.ldA ty_N rfl rfl k2 (eN.csz hn) (.mv rfl rfl ?_)))
 rw [←hvn]
 refine .call _ rfl AC3 rfl (AA8 (up.ext e1.size) (hn.ext e1) (ho.ext e1)) fun v2 w2 e2 h2=>?_
 obtain ⟨vl,ve,rfl,hl,he⟩:=h2
 replace he:ve=.int .i64 (outE n o):=he
 subst he
 have x2:=e1.trans e2
 refine .mv rfl rfl (.ext rfl rfl rfl (.ext rfl rfl rfl (.asg rfl rfl (.asg rfl rfl (.nil (.seq (.seq (.region (.mv rfl rfl ?_)))))))))
 by_cases hE:outE n o=0
 rotate_left
 ·refine .neqT rfl rfl rfl hE (.nil (.condT rfl (.seq (.region (.mv rfl rfl (.asg rfl rfl (.asg rfl rfl (.nil (.ret ?_)))))))))
  refine .plain [_,_] Tryz.results83 ⟨rfl,rfl,trivial⟩ ⟨x2,_,_,rfl,?_,rfl⟩
  rw [if_neg hE];exact RL.nil
 have ok:=AG7 hE
 rw [if_pos hE] at hl ⊢
 have hB6:=ok.b6
 refine .neqF rfl rfl rfl hE (.nil (.condF rfl (.skip (.seq (.region (.asg rfl rfl (.nil ?_)))))))
 have hlW:∀ {W:World},Below w2.heap.size w2 W→eI.R (fun k=>S k∧k<w2.heap.size) W vl (tabI (nwOf n o).B (nwOf n o).lab):=fun h=>eI.keep (fun k c t f hk hh=>(h.block k hk.2).trans hh) (ER.lt eI hl)
 refine .seq (.seq (.region (.mv rfl rfl (.lenR un_I rfl rfl hl (.mv rfl rfl (.nil ?_))))))
 rw [G2]
 refine .block (.loop (α:=Nat×Value) (fun y=>[(8,y.2),(20,vl),(21,.int .i64 ((nwOf n o).B:Nat)),(22,.int .i64 (y.1:Nat))]) (fun y W=>Below w2.heap.size w2 W∧y.1≤(nwOf n o).B∧OwnL (eInt .i64) 3 w2.heap.size S W y.2 (pInts ((nwOf n o).refsTo y.1))) (fun y=>(nwOf n o).B-y.1) (0,.slice none 0 0) ?_ ?_ ?_)
 ·exact lkA rfl
 ·exact ⟨Below.refl _ _,Nat.zero_le _,OwnL.nil⟩
 rintro ⟨i,v⟩ W ⟨hW,hi,hown⟩
 replace hW:Below w2.heap.size w2 W:=hW
 replace hi:i≤(nwOf n o).B:=hi
 replace hown:OwnL (eInt .i64) 3 w2.heap.size S W v (pInts ((nwOf n o).refsTo i)):=hown
 refine .seq (.region ?_)
 rcases Nat.lt_or_ge i (nwOf n o).B with hlt | hge
 rotate_left
 ·refine .lssF rfl rfl rfl (by omega) (.nil (.seq (.condF rfl (.exit (.seq (.region (.mv rfl rfl (.asg rfl rfl (.asg rfl rfl (.nil (.ret ?_)))))))))))
  have:i=(nwOf n o).B:=by omega
  subst this
  refine .plain [_,_] Tryz.results83 ⟨rfl,rfl,trivial⟩ ⟨x2.trans hW,_,_,rfl,?_,by rw [hE]⟩
  exact hown.toR (fun k hk=>up k (by have:=x2.size;omega)) (fun _ h=>h)
 refine .lssT rfl rfl rfl (by omega) (.nil (.seq (.condT rfl (.skip (.seq (.block (.seq (.region (.mv rfl rfl (.ixN (i:=i) un_I E2 rfl rfl (hlW hW) rfl (AA2 hlt) fun q hq=>.ldE (E:=eInt .i64) E2 rfl rfl hq fun e he=>.asg rfl rfl (.asg rfl rfl (.nil ?_))))))))))))
 obtain ⟨rfl,_⟩:=he
 have hvl:eI.R (fun k=>S k∨w2.heap.size≤k) W v (pInts ((nwOf n o).refsTo i)):=hown.toR (fun k hk=>.inr hk) (fun _ h=>.inl h)
 have hcl:=(nwOf n o).cnt_le i
 have hlb:=(nwOf n o).lab_cnt i
 have hrs:=(nwOf n o).refsTo_succ i
 have hlen:(pInts ((nwOf n o).refsTo i)).length=(nwOf n o).cnt i:=by simp [Nw.refsTo_len]
 refine .seq (.region (.mv rfl rfl (.mv rfl rfl (.lenR un_I rfl rfl hvl ?_))))
 rw [hlen]
 by_cases hr:(nwOf n o).root i=i
 ·rw [if_pos hr] at hrs
  refine .eqlT rfl rfl rfl (by rw [hlb.2 hr]) (.nil (.condT rfl (.region (.mv rfl rfl (.mv rfl rfl (.bsl _ rfl rfl Ak2 fun W1 by_ ny=>?_))))))
  obtain ⟨ey,ky,hby,hsy⟩:=ny
  have hW1:=hW.trans (ey.mono hW.size)
  refine .gv rfl rfl (AQ8 (E:=eInt .i64) (base:=w2.heap.size) (n:=((i:Nat):Int)) (e:=.int .i64 (i:Nat)) (by decide) un_I AQ3 rfl rfl rfl (hown.ext ey) ky ⟨rfl,F0.2 (by omega)⟩ (by rw [hlen];omega) (by decide) hW1.size) ?_
  rintro v8 W8 ⟨ho8,hg8⟩
  refine .asg rfl rfl (.nil (.region (.add rfl rfl rfl (.mv rfl rfl (.nil ?_)))))
  rw [wI (by omega)]
  refine ⟨rfl,(i+1,v8),lkA rfl,⟨(hown.ext ey).below hg8 hW1 hW1.size,hlt,?_⟩,by show (nwOf n o).B-(i+1)<(nwOf n o).B-i;omega⟩
  show OwnL (eInt .i64) 3 w2.heap.size S W8 v8 (pInts ((nwOf n o).refsTo (i+1)))
  rw [hrs]
  unfold pInts
  rw [List.map_append]
  exact ho8
 ·rw [if_neg hr,List.append_nil] at hrs
  refine .eqlF rfl rfl rfl (by intro e;exact hr (hlb.1 (by omega))) (.nil (.condF rfl (.skip (.region (.add rfl rfl rfl (.mv rfl rfl (.nil ?_)))))))
  rw [wI (by omega)]
  refine ⟨rfl,(i+1,v),lkA rfl,⟨hW,hlt,?_⟩,by show (nwOf n o).B-(i+1)<(nwOf n o).B-i;omega⟩
  show OwnL (eInt .i64) 3 w2.heap.size S W v (pInts ((nwOf n o).refsTo (i+1)))
  rw [hrs];exact hown
end Go.Proofs.YtfilidfomgfnhaaGreat

namespace Go.Proofs.YtfilidfomgfnhaaGreat
open Go Go.Kx Go.RowKit
theorem Ak9:Ent Tryz.prog 157:=A0 Tryz.func157 (by kernel_rfl) rfl
theorem Aj4 {S:Nat→Prop} {w:World} {n d:Int} (up:Up S w) (hn1 : -9223372036854775808≤n) (hn2:n≤9223372036854775807) (hd1 : -9223372036854775808≤d) (hd2:d≤9223372036854775807) (hd:d≠0) :
  CR Tryz.prog 157 #[.int .i64 n,.int .i64 d] w (Two (eQ.at S (qc (Rat.divInt n d))) (Is (.int .i64 0))):=by
 refine enter Tryz.func157 rfl Tryz.ntmps157 rfl ?_
 refine .seq (.region (.alloc rfl B7 fun w1 b4 n1=>.asg rfl rfl (.nil ?_)))
 obtain ⟨e1,k4,hb4,hs1⟩:=n1
 have hS4:¬ Sx S w.heap.size w1.heap.size b4:=Sx.no (by omega) (by omega)
 have up1:Up (Sx S w.heap.size w1.heap.size) w1:=Sx.up up (Nat.le_refl _) e1.size
 refine .seq (.seq (.region (.mv rfl rfl (.eqlF rfl rfl rfl hd (.nil (.condF rfl (.skip (.seq (.region (.mv rfl rfl ?_))))))))))
 refine .call _ rfl C4 rfl (C3 up1 hn1 hn2) fun v2 w2 e2 h2=>.mv rfl rfl ?_
 refine .call _ rfl C4 rfl (C3 (up1.ext e2.size) hd1 hd2) fun v3 w3 e3 h3=>?_
 refine .call _ rfl U5 rfl (AU2 (L:=2) (up1.ext (e2.trans e3).size) (Zv.of (ER.ext eZ h2 e3) (by omega)) (Zv.of h3 (by omega)) hd (by decide)) fun v5 w5 e5 h5=>?_
 have x5:=((e1.trans e2).trans e3).trans e5
 refine .storeA (E:=eQ) ty_Q rfl rfl (((k4.ext e2).ext e3).ext e5) rfl rfl h5 hS4 fun w6 k6 u6 h6=>.asg rfl rfl (.nil (.ret ?_))
 exact .plain [_,_] Tryz.results157 ⟨⟨_,rfl,D1 (E:=eQ) ty_Q rfl rfl k6 h6⟩,rfl,trivial⟩ ⟨u6.below x5 (by omega),_,_,rfl,h6.out,rfl⟩
theorem Ag6:Ent Tryz.prog 129:=A0 Tryz.func129 (by kernel_rfl) rfl
theorem Ac6 {S:Nat→Prop} {w:World} {v:Value} {z:ZV} (up:Up S w) (h:eZ.R S w v z) (hl:z.w.length≤1099511627776):CR Tryz.prog 129 #[v] w (eZ.at S (zc ((zval z).natAbs:Nat))):=by
 obtain ⟨s,rfl,hs⟩:=h
 refine enter Tryz.func129 rfl Tryz.ntmps129 rfl ?_
 refine .seq (.region (.box rfl rfl fun w1 b1 n1=>.alloc rfl D3 fun w2 b2 n2=>.nil ?_))
 obtain ⟨e1,k1,hb1,hs1⟩:=n1
 obtain ⟨e2,k2,hb2,hs2⟩:=n2
 have k1:=k1.ext e2
 have hx:=e1.trans e2
 have hp:=(hs.par w2.heap.size).ext hx
 have upx:Up (Sx S w.heap.size w2.heap.size) w2:=Sx.up up (Nat.le_refl _) hx.size
 refine .seq (.region (.fa H6 rfl rfl (.ld ty_W rfl rfl k1 rfl ?_)))
 refine .call _ rfl B4 rfl (B3 hp) fun v3 w3 e3 h3=>?_
 refine .call _ rfl AI3 rfl (AO2 (upx.ext e3.size) h3 (Nat.le_trans (Y4 _) hl)) fun v4 w4 e4 h4=>?_
 refine .call _ rfl E6 rfl (E4 (upx.ext (e3.trans e4).size) h4) fun v5 w5 e5 h5=>?_
 refine .storeA ty_Z rfl rfl (((k2.ext e3).ext e4).ext e5) rfl rfl h5 (Sx.no (by omega) (by omega)) fun w6 k6 u6 h6=>.nil (.ret ?_)
 refine .cell Tryz.results129 rfl ty_Z rfl rfl k6 h6 ⟨u6.below (((hx.trans e3).trans e4).trans e5) (by omega),?_⟩
 have:zc ((zval z).natAbs:Nat)=zc (sg false (val (trimL z.w))):=by
  rw [AJ0];unfold zval sg;cases z.neg<;>simp
 rw [this]
 exact h6.out
def absR (r:Rat):Rat:=if r<0 then -r else r
theorem qc_abs (r:Rat):qc (absR r)=⟨zc (r.num.natAbs:Nat),(qc r).den⟩:=by
 unfold absR
 split
 ·rename_i h
  have:r.num<0:=by
   by_cases h1:r.num<0
   ·exact h1
   ·exact absurd h (Rat.not_lt.2 (Rat.num_nonneg.1 (by omega)))
  rw [At9]
  congr 1
  congr 1
  omega
 ·rename_i h
  have:0≤r.num:=Rat.num_nonneg.2 (Rat.not_lt.1 h)
  unfold qc
  congr 1
  congr 1
  omega
theorem AS7:Ent Tryz.prog 64:=A0 Tryz.func64 (by kernel_rfl) rfl
theorem AR3 {S:Nat→Prop} {w:World} {va:Value} {a:QV} {L:Nat} (up:Up S w) (ha:eQ.R S w va a) (hk:qk L a) (hL:1≤L) (hL2:L≤100000000000) :
  CR Tryz.prog 64 #[va] w (eQ.at S (qc (absR (qval a)))):=by
 have hva:=shpA rfl ha
 refine enter Tryz.func64 rfl Tryz.ntmps64 rfl ?_
 refine .seq (.region (.box rfl rfl fun w1 b1 n1=>.alloc rfl B7 fun w2 b2 n2=>.nil ?_))
 obtain ⟨e1,k1,hb1,hs1⟩:=n1
 obtain ⟨e2,k2,hb2,hs2⟩:=n2
 have x2:=e1.trans e2
 have k1:=k1.ext e2
 have hS2:¬ Sx S w.heap.size w2.heap.size b2:=Sx.no (by omega) (by omega)
 have up2:Up (Sx S w.heap.size w2.heap.size) w2:=Sx.up up (Nat.le_refl _) x2.size
 have ha2:=(ha.par w2.heap.size).ext x2
 have hout:∀ {W:World} {v:Value} {z:QV},eQ.R (Sx S w.heap.size w2.heap.size) W v z→eQ.R S W v z:=fun h=>h.out
 generalize hT:Sx S w.heap.size w2.heap.size=T at *
 refine .seq (.region (.ldA ty_Q rfl rfl k1 (eQ.csz ha) ?_))
 rw [←hva]
 refine .call _ rfl H9 rfl (O0 up2 ha2 hk.1 hL (by omega)) fun v3 w3 e3 h3=>.alloc rfl B7 fun w4 b3 n4=>?_
 obtain ⟨e4,k3,hb3,hs4⟩:=n4
 have hkc:qk L (qc (qval a)):=O6 hk.2
 have h3l:=(ER.lt eQ h3).ext e4
 have hno:¬ (T b3∧b3<w3.heap.size):=fun h=>by have:=h.2;omega
 refine .storeA (E:=eQ) ty_Q rfl rfl k3 rfl rfl h3l hno fun w5 k3 u5 h5=>.nil ?_
 have h5:eQ.R T w5 v3 (qc (qval a)):=eQ.mono (fun k _ h=>h.1) h5
 clear h3 h3l
 obtain ⟨s,t,rfl,hn,hd⟩:=AB3 h5
 replace k3:Blk w5 b3 55 #[.bool (qc (qval a)).num.neg,s,.bool (qc (qval a)).den.neg,t]:=k3
 have hs2':=x2.size
 have hs3':=e3.size
 have hs5':=u5.size
 have x4:=(x2.trans e3).trans e4
 have x5:Ext w w5:=u5.below x4 (by omega)
 have k2:=((k2.ext e3).ext e4).upd u5 (show b2≠b3 by omega)
 have up5:=up2.ext (show w2.heap.size≤w5.heap.size by omega)
 have hnum:zval (qc (qval a)).num=(qval a).num:=H1 _
 refine .seq ?_
 refine .par follows 6 [.inl _,.inl (.agg #[.bool (qc (qval a)).num.neg,s]),.inr (eZ.at T (zc ((qval a).num.natAbs:Nat))),.inl _,.inl (.agg #[.bool (qc (qval a)).den.neg,t]),.inr (eQ.at T (qc (absR (qval a))))] [[],[(6,0)],[(7,1)],[],[(9,3)],[(8,2),(10,4)]] (by kernel_rfl) ⟨
  fun w e=>(v_fa Y7 rfl).ob,fun w e=>(Z1 [.bool (qc (qval a)).num.neg,s] ty_Z rfl (k3.ext e) As5).ob,
  fun w e=>by
   have:=Ac6 (up5.ext e.size) (ER.ext eZ hn e) (Nat.le_trans hkc.1.1 (by omega))
   rw [hnum] at this
   exact (A2 _ Ag6 rfl this).ob (A6 _ _ _),
  fun w e=>(v_fa AB1 rfl).ob,fun w e=>(Z1 [.bool (qc (qval a)).den.neg,t] ty_Z rfl (k3.ext e) Al6).ob,
  fun w e x hx=>by
   obtain ⟨sx,rfl,hsx⟩:=hx
   obtain ⟨st,hst,hsd⟩:=ER.ext eZ hd e
   have est:st=t:=by simpa using hst.symm
   subst est
   refine L9 (AV2 [(0,.agg #[.bool (zc ((qval a).num.natAbs:Nat)).neg,sx]),(1,.agg #[.bool (qc (qval a)).den.neg,st])] rfl Aa6) ?_ (A6 _ _ _)
   rw [qc_abs]
   exact ⟨sx,st,rfl,hsx,hsd⟩,trivial⟩ ?_
 rintro w6 e6 x-z hz
 refine .storeA (E:=eQ) ty_Q rfl rfl (k2.ext e6) rfl rfl hz hS2 fun w7 k7 u7 h7=>.nil (.ret ?_)
 exact .cell Tryz.results64 rfl ty_Q rfl rfl k7 h7 ⟨u7.below (x5.trans e6) (by omega),hout h7⟩
end Go.Proofs.YtfilidfomgfnhaaGreat

namespace Go.Kx
open Go Go.RowKit
structure RtV where
 f:Int
 t:Int
 q:Int
def eRt:ER RtV where
 sz:=3
 isA:=true
 R:=fun _ _ v l=>v=.agg #[.int .i64 l.f,.int .i64 l.t,.int .i64 l.q]∧inI l.f∧inI l.t∧inI l.q
 csz:=by rintro S w e x ⟨rfl,_⟩;rfl
 one:=by
  rintro S w e x ⟨rfl,_⟩ u hu
  simp [Value.cells] at hu
  rcases hu with rfl | rfl | rfl<;>rfl
 shp:=by rintro S w e x ⟨rfl,_⟩;rfl
 keep:=fun _ h=>h
 mono:=fun _ h=>h
abbrev eRts:ER (List RtV):=RL eRt
def rtOk (b:Int) (r:RtV):Prop:=0≤r.f∧r.f<b∧0≤r.t∧r.t<b∧0≤r.q∧r.q≤1000000
open Classical in
noncomputable def rtE (l:List RtV) (b:Int):Int:=if 8<l.length then 5 else if ∀ r∈l,rtOk b r then 0 else 1
theorem AY2 {l:List RtV} {b:Int} (h:rtE l b=0):l.length≤8∧∀ r∈l,rtOk b r:=by
 unfold rtE at h
 split at h
 ·cases h
 ·split at h
  ·exact ⟨by omega,by assumption⟩
  ·cases h
end Go.Kx
namespace Go.Proofs.YtfilidfomgfnhaaGreat
open Go Go.Kx Go.RowKit
theorem Q4:tyOf Tryz.prog 59=some (true,3):=by kernel_rfl
theorem K2:Tryz.prog.underlying 57=some (.slice 59):=by kernel_rfl
theorem AF3:zeroOf Tryz.prog 59=some (.agg #[.int .i64 0,.int .i64 0,.int .i64 0]):=by kernel_rfl
theorem AH5:fldOf Tryz.prog 59 0=some 0:=by kernel_rfl
theorem AH4:fldOf Tryz.prog 59 1=some 1:=by kernel_rfl
theorem AH3:fldOf Tryz.prog 59 2=some 2:=by kernel_rfl
theorem R5:Ent Tryz.prog 185:=A0 Tryz.func185 (by kernel_rfl) rfl
theorem Q8 {w:World} {b m:Int}:CR Tryz.prog 185 #[.int .i64 b,.int .i64 m] w (Is (.bool (decide (0≤b∧b<m)))):=by
 refine enter Tryz.func185 rfl Tryz.ntmps185 rfl (.beg (.go rfl ?_))
 by_cases h0:0≤b
 ·refine .geqT rfl rfl rfl h0 (.go rfl ?_)
  by_cases h1:b<m
  ·refine .lssT rfl rfl rfl h1 (.goE rfl ?_)
   exact .plain [_] Tryz.results185 ⟨rfl,trivial⟩ ⟨Ext.refl _,by rw [decide_eq_true ⟨h0,h1⟩];rfl⟩
  ·refine .lssF rfl rfl rfl (by omega) (.goE rfl ?_)
   exact .plain [_] Tryz.results185 ⟨rfl,trivial⟩ ⟨Ext.refl _,by rw [decide_eq_false fun h=>h1 h.2];rfl⟩
 ·refine .geqF rfl rfl rfl (by omega) (.goE rfl ?_)
  exact .plain [_] Tryz.results185 ⟨rfl,trivial⟩ ⟨Ext.refl _,by rw [decide_eq_false fun h=>h0 h.1];rfl⟩
theorem AU7:Ent Tryz.prog 122:=A0 Tryz.func122 (by kernel_rfl) rfl
set_option maxRecDepth 8000 in
theorem AT4 {S:Nat→Prop} {w:World} {vl:Value} {l:List RtV} {b:Int} (hl:eRts.R S w vl l):CR Tryz.prog 122 #[vl,.int .i64 b] w (Two (fun v _=>∃ i,v=.int .i64 i) (Is (.int .i64 (rtE l b)))):=by
 obtain ⟨_,_,_,_,hll⟩:=RL.len hl
 refine enter Tryz.func122 rfl Tryz.ntmps122 rfl (.beg (.go rfl (.lenR K2 rfl rfl hl ?_)))
 by_cases h8:8<l.length
 ·refine .gtrT rfl rfl rfl (by omega) (.goE rfl ?_)
  exact .plain [_,_] Tryz.results122 ⟨rfl,rfl,trivial⟩ ⟨Ext.refl _,_,_,rfl,⟨_,rfl⟩,by unfold rtE;rw [if_pos h8]⟩
 refine .gtrF rfl rfl rfl (by omega) (.go rfl (.lenR K2 rfl rfl hl ?_))
 refine .goC rfl (.lp (α:=Nat) [1,11,12] rfl (fun i=>[(13,.int .i64 (i:Nat))]) (fun i W=>Ext w W∧i≤l.length∧∀ j r,j<i→l[j]?=some r→rtOk b r) (fun i=>l.length-i) 0 (lc1 rfl) ⟨Ext.refl _,Nat.zero_le _,fun j r hj=>absurd hj (Nat.not_lt_zero _)⟩ ?_)
 rintro i W ⟨hW,hi,hall⟩
 refine .go rfl ?_
 rcases Nat.lt_or_ge i l.length with hlt | hge
 rotate_left
 ·refine .lssF rfl rfl rfl (by omega) (.goE rfl ?_)
  refine .plain [_,_] Tryz.results122 ⟨rfl,rfl,trivial⟩ ⟨hW,_,_,rfl,⟨_,rfl⟩,?_⟩
  unfold rtE
  rw [if_neg h8,if_pos]
  intro r hr
  obtain ⟨j,hj⟩:=List.mem_iff_getElem?.1 hr
  exact hall j r (by have:=(List.getElem?_eq_some_iff.1 hj).1;omega) hj
 have hg:=List.getElem?_eq_getElem hlt
 generalize l[i]=r at hg
 have hbad:∀ {W':World} {σ:Env} {v:Value},¬ rtOk b r→Ext w W'→Kx.look σ 4=some (.int .i64 (i:Nat))→Kx.look σ 5=some (.int .i64 1)→Leave Tryz.prog Tryz.f122 42 (fun v w'=>Ext w w'∧Two (fun v _=>∃ i,v=.int .i64 i) (Is (.int .i64 (rtE l b))) v w') σ [] W':=fun {W' σ v} hn hx h4 h5=>by
  refine .plain [_,_] Tryz.results122 ⟨h4,h5,trivial⟩ ⟨hx,_,_,rfl,⟨_,rfl⟩,?_⟩
  unfold rtE
  rw [if_neg h8,if_neg fun h=>hn (h r (List.mem_iff_getElem?.2 ⟨i,hg⟩))]
 refine .lssT rfl rfl rfl (by omega) (.go rfl (.ixN (i:=i) K2 Q4 rfl rfl (ER.ext eRts hl hW) rfl hg fun q hq=>.ldE (E:=eRt) Q4 rfl rfl hq fun vr hr=>.alloc rfl AF3 fun W1 c n1=>.go rfl ?_))
 obtain ⟨g1,kc,hc,hs1⟩:=n1
 have hWs:=hW.size
 refine .storeA (E:=eRt) (S:=fun k=>k≠c) (z:=r) Q4 rfl rfl kc rfl rfl hr (fun h=>h rfl) fun W2 kc u2 hr=>?_
 obtain ⟨rfl,_⟩:=hr
 have x2:Ext w W2:=u2.below (hW.trans g1) (by omega)
 refine .go rfl (.fa AH5 rfl rfl (.lc B0 rfl rfl kc rfl (.go rfl ?_)))
 refine .call _ rfl R5 rfl Q8 fun v3 W3 e3 h3=>?_
 subst h3
 have x3:=x2.trans e3
 by_cases hf:0≤r.f∧r.f<b
 rotate_left
 ·rw [decide_eq_false hf]
  exact .goE rfl (hbad (v:=vl) (fun h=>hf ⟨h.1,h.2.1⟩) x3 rfl rfl)
 rw [decide_eq_true hf]
 refine .go rfl (.fa AH4 rfl rfl (.go rfl (.lc B0 rfl rfl (kc.ext e3) rfl (.go rfl ?_))))
 refine .call _ rfl R5 rfl Q8 fun v4 W4 e4 h4=>?_
 subst h4
 have x4:=x3.trans e4
 by_cases ht:0≤r.t∧r.t<b
 rotate_left
 ·rw [decide_eq_false ht]
  exact .goE rfl (hbad (v:=vl) (fun h=>ht ⟨h.2.2.1,h.2.2.2.1⟩) x4 rfl rfl)
 rw [decide_eq_true ht]
 refine .go rfl (.fa AH3 rfl rfl (.go rfl (.lc L1 rfl rfl (kc.ext (e3.trans e4)) rfl (.go rfl ?_))))
 by_cases hq0:0≤r.q
 rotate_left
 ·exact .lssT rfl rfl rfl (by omega) (.goE rfl (hbad (v:=vl) (fun h=>hq0 h.2.2.2.2.1) x4 rfl rfl))
 refine .lssF rfl rfl rfl (by omega) (.go rfl (.fa AH3 rfl rfl (.go rfl (.lc L1 rfl rfl (kc.ext (e3.trans e4)) rfl (.go rfl ?_)))))
 by_cases hq1:r.q≤1000000
 rotate_left
 ·exact .gtrT rfl rfl rfl (by omega) (.goE rfl (hbad (v:=vl) (fun h=>hq1 h.2.2.2.2.2) x4 rfl rfl))
 refine .gtrF rfl rfl rfl (by omega) (.go rfl (.inc rfl rfl rfl (by omega) (.goN rfl (.mk (i+1) rfl (lc1 rfl) ⟨⟨x4,hlt,fun j r' hj hr'=>?_⟩,by show l.length-(i+1)<l.length-i;omega⟩))))
 by_cases e:j=i
 ·subst e;rw [hg] at hr';cases hr';exact ⟨hf.1,hf.2,ht.1,ht.2,hq0,hq1⟩
 ·exact hall j r' (by omega) hr'
end Go.Proofs.YtfilidfomgfnhaaGreat

namespace Go.Kx
open Go Go.RowKit
def Nw.lmL (n:Nw) (l:List Nat):RM:=fun b c=>l.foldl (fun s k=>s+n.g k*(n.inc k b*n.inc k c)) 0
theorem Nw.lmL_snoc (n:Nw) (l:List Nat) (k b c:Nat):n.lmL (l++[k]) b c=n.lmL l b c+n.g k*(n.inc k b*n.inc k c):=by unfold Nw.lmL;rw [List.foldl_append];rfl
theorem Nw.lmL_free {n:Nw} {p:List Nat} (b c:Nat):∀ j,(∀ k,k<j→(n.g k=0↔k∈p))→n.lmL (freeTo p j) b c=sumN j fun k=>n.g k*(n.inc k b*n.inc k c)
 | 0,_=>rfl
 | j+1,h=>by
  have ih:=Nw.lmL_free (n:=n) (p:=p) b c j fun k hk=>h k (by omega)
  have hj:=h j (by omega)
  rw [Go.Proofs.YtfilidfomgfnhaaGreat.M0]
  show _=sumN j _+_
  by_cases hg:n.g j=0
  ·rw [if_pos (hj.1 hg),List.append_nil,ih]
   dsimp only
   rw [hg,Rat.zero_mul,Rat.add_zero]
  ·rw [if_neg (fun h=>hg (hj.2 h)),Nw.lmL_snoc,ih]
/-- one entry set -/
def upE (f:RM) (i j:Nat) (y:Rat):RM:=fun b c=>if b=i then (if c=j then y else f i c) else f b c
theorem AJ1 {f:RM} {i j b c:Nat} {y:Rat} (h:b≠i∨c≠j):upE f i j y b c=f b c:=by
 unfold upE
 by_cases hb:b=i
 ·subst hb
  rw [if_pos rfl,if_neg (by rcases h with h | h;exact absurd rfl h;exact h)]
 ·rw [if_neg hb]
theorem Nw.four (n:Nw) {k:Nat} (hne:n.F k≠n.T k) (f:RM) (b c:Nat) :
  upE (upE (upE (upE f (n.F k) (n.F k) (f (n.F k) (n.F k)+n.g k)) (n.F k) (n.T k) (f (n.F k) (n.T k)-n.g k)) (n.T k) (n.T k) (f (n.T k) (n.T k)+n.g k)) (n.T k) (n.F k) (f (n.T k) (n.F k)-n.g k) b c=f b c+n.g k*(n.inc k b*n.inc k c):=by
 unfold upE Nw.inc dl
 generalize n.F k=F at *
 generalize n.T k=T at *
 by_cases h1:b=F
 ·subst h1
  by_cases h2:c=b
  ·subst h2;simp [hne,Ne.symm hne];grind
  ·by_cases h3:c=T
   ·subst h3;simp [hne,Ne.symm hne];grind
   ·simp [hne,Ne.symm hne,h2,h3,Ne.symm h2,Ne.symm h3];grind
 ·by_cases h1':b=T
  ·subst h1'
   by_cases h2:c=b
   ·subst h2;simp [hne,Ne.symm hne];grind
   ·by_cases h3:c=F
    ·subst h3;simp [hne,Ne.symm hne];grind
    ·simp [hne,Ne.symm hne,h2,h3,Ne.symm h2,Ne.symm h3];grind
  ·simp [h1,h1',Ne.symm h1,Ne.symm h1'];grind
theorem rsz_tri {g:Rat} {s:Rat} {L:Nat} (h:Rsz g L) (hL:1≤L) (hs:s=0∨s=1∨s = -1):Rsz (g*s) L:=by
 rcases hs with rfl | rfl | rfl
 ·rw [Rat.mul_zero];exact Rsz.zero hL
 ·rw [Rat.mul_one];exact h
 ·rw [show g*(-1) = -g by grind];exact h.neg
theorem Nw.inc_tri (n:Nw) (k b:Nat):n.inc k b=0∨n.inc k b=1∨n.inc k b = -1:=by
 unfold Nw.inc dl
 split<;>split<;>grind
theorem Nw.lmL_rsz (n:Nw) {L:Nat} (hL:1≤L) (hg:∀ k,Rsz (n.g k) L) (b c:Nat) (l:List Nat):Rsz (n.lmL l b c) (1+l.length*(L+1)):=by
 have key:∀ (m:Nat) (l:List Nat),l.length=m→Rsz (n.lmL l b c) (1+m*(L+1)):=by
  intro m
  induction m with
  | zero=>intro l hl;rw [List.length_eq_zero_iff.1 hl];exact Rsz.zero (by omega)
  | succ m ih =>
   intro l hl
   obtain ⟨l',k,rfl⟩:∃ l' k,l=l'++[k]:=⟨l.dropLast,l.getLast (by intro e;rw [e] at hl;cases hl),(List.dropLast_concat_getLast _).symm⟩
   rw [Nw.lmL_snoc]
   have h1:=ih l' (by simp at hl;exact hl)
   have h2:Rsz (n.g k*(n.inc k b*n.inc k c)) L:=rsz_tri (hg k) hL (by
    rcases n.inc_tri k b with h | h | h<;>rcases n.inc_tri k c with h' | h' | h'<;>rw [h,h']<;>grind)
   refine (h1.add h2).mono ?_
   rw [Nat.add_mul];omega
 exact key _ l rfl
end Go.Kx
namespace Go.Proofs.YtfilidfomgfnhaaGreat
open Go Go.Kx Go.RowKit
theorem nwOk.gsz {n:NtV} {o:List Int} (h:nwOk n o) (k:Nat):Rsz ((nwOf n o).g k) 1:=by
 show Rsz (if k∈oN o then (0:Rat) else ((n.ls.getD k ln0).x:Rat)⁻¹) 1
 have hx:1≤(n.ls.getD k ln0).x∧(n.ls.getD k ln0).x≤1000:=by
  rcases Nat.lt_or_ge k n.ls.length with hk | hk
  ·exact h.x k hk
  ·rw [List.getD_eq_getElem?_getD,List.getElem?_eq_none hk];decide
 split
 ·exact Rsz.zero (Nat.le_refl _)
 ·exact (Rsz.int _ (by omega) (Nat.le_refl _)).inv (Nat.le_refl _)
end Go.Proofs.YtfilidfomgfnhaaGreat
