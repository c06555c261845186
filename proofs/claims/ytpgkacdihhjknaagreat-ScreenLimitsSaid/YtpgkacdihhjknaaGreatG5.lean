/-
  What the claim leans on.
-/
import Derived.Test.YtpgkacdihhjknaaGreatG4
set_option linter.unusedVariables false
namespace Go.Kx
open Go Go.RowKit
def isLate (lt:List Nat) (i:Nat):Bool:=lt.any (Nat.beq i)
theorem AH7 {lt:List Nat} {i:Nat}:isLate lt i=true<->i∈lt:=by
 unfold isLate
 rw [List.any_eq_true]
 constructor
 ·rintro ⟨x,hx,h⟩
  rw [Nat.eq_of_beq_eq_true h];exact hx
 ·exact fun h=>⟨i,h,by simp⟩
def nog (o:Oper):Bool:=match o.guard with | none=>true | _=>false
def pureOp (o:Oper):Bool:=match o.op with | .move _=>true | .extract _ _=>true | _=>false
def okTailL (ops:List Oper) (lt:List Nat) (i:Nat) (o:Oper):Bool :=
 (List.range i).all (fun j=>isLate lt j || (closeB ops i (edgesOf o)).any (Nat.beq j)) && (match o.op with | .defer _=>false | .select ..=>false | _=>true) &&
 (lt.all fun l=>match ops[l]? with
  | some ol=>(tmpsOf o).all (fun t=>ol.dst != some t) || (closeB ops i (edgesOf o)).any (Nat.beq l)
  | none=>true)
def okLate (ops:List Oper) (h:Nat) (deps:List (List (Tmp×Nat))) (l:Nat):Bool :=
 Nat.blt l h && match ops[l]? with
  | some ol=>pureOp ol && (tmpsOf ol).all fun t=>(deps.getD l []).any (fun p=>Nat.beq p.1 t && Nat.blt p.2 l) || ops.all fun q=>q.dst != some t
  | none=>false
def okParL (ops:List Oper) (N h:Nat) (deps:List (List (Tmp×Nat))) (lt:List Nat):Bool :=
 ops.zipIdx.all (fun q=>okBack q.2 q.1) && nodupB (dsts ops) && ops.all (fun o=>nog o && dOk N o.dst) &&
 ops.zipIdx.all (fun q=>if Nat.blt q.2 h then okOp (ops.take h) N q.2 q.1 (deps.getD q.2 []) else okTailL ops lt q.2 q.1) &&
 Nat.ble h ops.length && lt.all (okLate ops h deps)
def PureAt (P:Program) (o:Oper) (ρ:Operand->Value) (v:Value):Prop:=∀ ρ':Operand->Value,(∀ x∈o.op.operands,ρ' x=ρ x)->∀ w,(execOp ρ' o).run P w=.ok (.value v) w
theorem pure_of {P:Program} {o:Oper} {ρ:Operand->Value} {w:World} {R:Value->World->Prop} (hp:pureOp o=true)
  (h:(∃ v w',(execOp ρ o).run P w=.ok (.value v) w'/\R v w')\/(∃ w',(execOp ρ o).run P w=.ok .skip w'/\R undef w')\/(∃ f args w',(execOp ρ o).run P w=.ok (.enter f args) w'/\Calls P f args w' fun e w''=>∃ v,e=.returned v/\R v w'')) :
  ∃ v,PureAt P o ρ v/\R v w:=by
 obtain ⟨d,op,ty,pos,af,g⟩:=o
 unfold pureOp at hp
 cases op with
 | move x =>
  have e:∀ ρ' (w:World),(execOp ρ' ⟨d,.move x,ty,pos,af,g⟩).run P w=.ok (.value (ρ' x)) w:=fun _ _=>rfl
  refine ⟨ρ x,fun ρ' h' w=>by rw [e,h' x (by simp [Op.operands])],?_⟩
  rcases h with ⟨v,w',h1,h2⟩ | ⟨w',h1,_⟩ | ⟨f,args,w',h1,_⟩
  ·rw [e] at h1;cases h1;exact h2
  ·rw [e] at h1;cases h1
  ·rw [e] at h1;cases h1
 | extract x i =>
  have e:∀ ρ' (w:World),(execOp ρ' ⟨d,.extract x i,ty,pos,af,g⟩).run P w=((Instr.extract (ρ' x) i).run P w).andThen fun v w=>.ok (.value v) w:=by
   intro ρ' w
   simp only [execOp,Sem.run_bind,Sem.run_pure]
  cases hx:ρ x with
  | tuple vs =>
   cases hv:vs[i]? with
   | some v =>
    have e2:∀ ρ' (w:World),ρ' x=.tuple vs->(execOp ρ' ⟨d,.extract x i,ty,pos,af,g⟩).run P w=.ok (.value v) w:=by
     intro ρ' w hh
     simp [execOp,hh,Instr.extract,hv]
    refine ⟨v,fun ρ' h' w=>e2 ρ' w (by rw [h' x (by simp [Op.operands]),hx]),?_⟩
    rcases h with ⟨v',w',h1,h2⟩ | ⟨w',h1,_⟩ | ⟨f,args,w',h1,_⟩
    ·rw [e2 ρ w hx] at h1;cases h1;exact h2
    ·rw [e2 ρ w hx] at h1;cases h1
    ·rw [e2 ρ w hx] at h1;cases h1
   | none =>
    exfalso
    rcases h with ⟨v',w',h1,h2⟩ | ⟨w',h1,_⟩ | ⟨f,args,w',h1,_⟩<;>simp [execOp,hx,Instr.extract,hv] at h1
  | _ =>
   exfalso
   rcases h with ⟨v',w',h1,h2⟩ | ⟨w',h1,_⟩ | ⟨f,args,w',h1,_⟩<;>simp [execOp,hx,Instr.extract] at h1
 | _=>cases hp
section
variable {P:Program} {ro:Option Nat} {N:Nat} {ds:List Deferred} {ops:List Oper} {K:Env->World->Prop} {σ0:Env} {w0:World} {h:Nat} {sp:List Sp} {deps:List (List (Tmp×Nat))} {a0:Act}
theorem InvA.next {listed:Array Bool} {a:Act} {w w':World} {i:Nat} {o:Oper} {s:Sp} {t0:Tmp} {v:Value} (hI:InvA N ds ops w0 h sp a0 listed a w) (hsz:listed.size=ops.length) (hnd:(dsts ops).Nodup) (hih:i<h) (hin:i<ops.length) (ho:ops[i]?=some o)
  (hs:sp[i]?=some s) (ht0:o.dst=some t0) (htN:t0<N) (hed':∀ j,edgeTo o j=true->isL listed j) (he:Ext w w') (hv:Sp.ok s v w'):InvA N ds ops w0 h sp a0 (listed.setIfInBounds i true) (a.put o.dst v) w':=by
 refine ⟨by simpa [ht0,Act.put] using hI.size,by simpa [ht0,Act.put] using hI.defs,hI.ext.trans he,?_,?_,?_,?_⟩
 ·intro j oj sj t hj hoj hsj hlj hdj
  rw [G4 (by omega)] at hlj
  by_cases e:i=j
  ·subst e
   rw [ho] at hoj;cases hoj
   rw [hs] at hsj;cases hsj
   rw [ht0] at hdj;cases hdj
   have:(a.put o.dst v).tmps.getD t0 undef=v:=by simp [ht0,Act.put,hI.size,htN]
   rw [this];exact hv
  ·have hlj':=hlj.resolve_left e
   have hne:t0≠t:=by
    intro e2
    subst e2
    exact e (L0 hnd ho hoj ht0 hdj)
   have:(a.put o.dst v).tmps.getD t undef=a.tmps.getD t undef:=by simp [ht0,Act.put,Array.getElem?_setIfInBounds_ne hne]
   rw [this]
   exact Sp.ok_ext (hI.vals j oj sj t hj hoj hsj hlj' hdj) he
 ·intro t hno
  have hne:t0≠t:=fun e=>hno i o hih ho ((G4 (by omega)).2 (.inl O)) (e▸ht0)
  have:(a.put o.dst v).tmps.getD t undef=a.tmps.getD t undef:=by simp [ht0,Act.put,Array.getElem?_setIfInBounds_ne hne]
  rw [this]
  exact hI.old t fun j oj hj hoj hlj=>hno j oj hj hoj ((G4 (by omega)).2 (.inr hlj))
 ·intro j oj hoj hlj k hk
  rw [G4 (by omega)] at hlj ⊢
  by_cases e:i=j
  ·subst e
   rw [ho] at hoj;cases hoj
   exact .inr (hed' k hk)
  ·exact .inr (hI.shut j oj hoj (hlj.resolve_left e) k hk)
 ·intro j hj
  rw [G4 (by omega)]
  rintro (e | e)
  ·omega
  ·exact hI.head j hj e
theorem InvA.opnd {listed:Array Bool} {a:Act} {w:World} {i:Nat} {o:Oper} (hI:InvA N ds ops w0 h sp a0 listed a w) (ha0:Agr N σ0 ds a0) (hle:h<=ops.length) (hob:Obs P w0 σ0 (ops.take h) sp (ops.take h) sp deps) (hih:i<h) (ho:ops[i]?=some o)
  (hok:okOp (ops.take h) N i o (deps.getD i [])=true) (hunl:¬ isL listed i) (hed':∀ j,edgeTo o j=true->isL listed j) (hg:o.guard=none) :
  ∃ s t0 σ',sp[i]?=some s/\o.dst=some t0/\t0<N/\(Gv P o σ' w fun v w'=>Ext w w'/\Sp.ok s v w')/\∀ x v,x∈o.op.operands->ev σ' x=some v->a.eval x=v:=by
 have htake:∀ i,i<h->(ops.take h)[i]?=ops[i]?:=fun i hi=>by rw [List.getElem?_take,if_pos hi]
 have hlen:=Obs.len hob
 have hlt:(ops.take h).length=h:=by simp;omega
 simp only [okOp,Bool.and_eq_true,List.all_eq_true] at hok
 obtain ⟨⟨⟨⟨⟨hdk,hds⟩,hgd⟩,hndf⟩,hdep⟩,hrd⟩:=hok
 obtain ⟨s,d,hs,hd,hq⟩:=Obs.at_ hob i o (by rw [htake i hih];exact ho)
 have hdd:deps.getD i []=d:=by simp [hd]
 rw [hdd] at hdep hrd hgd
 obtain ⟨t0,ht0⟩:=Option.isSome_iff_exists.1 hds
 obtain ⟨σ',hG,hσ'⟩:=AY6 (val:=fun t=>a.tmps.getD t undef) d σ0 (hq w hI.ext) (fun p hp=>by
  have h1:=hdep p hp
  obtain ⟨h2,h3⟩:=h1
  split at h3
  ·rename_i oj hoj
   have hlj:=hed' _ h2
   have hjh:p.2<h:=Nat.lt_of_not_le fun hh=>hI.head _ hh hlj
   obtain ⟨s',hs'⟩:∃ s',sp[p.2]?=some s':=⟨_,List.getElem?_eq_getElem (by omega)⟩
   exact ⟨s',hs',hI.vals p.2 oj s' p.1 hjh (by rw [<-htake _ hjh];exact hoj) hs' hlj (by simpa using h3)⟩
  ·cases h3)
 refine ⟨s,t0,σ',hs,ht0,by simpa [ht0,dOk,Nat.blt_eq] using hdk,by simpa only [gOk,hg] using hG,?_⟩
 intro x v hx hv
 cases x with
 | const u=>simpa [Kx.ev,Act.eval] using hv
 | global g=>simpa [Kx.ev,Act.eval] using hv
 | func f=>simpa [Kx.ev,Act.eval] using hv
 | tmp t =>
  rcases hσ' t v hv with e | ⟨hv0,hnd'⟩
  ·exact e.symm
  ·have hmem:t∈tmpsOf o:=by
    unfold tmpsOf
    rw [List.mem_filterMap]
    exact ⟨.tmp t,by simpa using hx,rfl⟩
   have hc:=hrd t hmem
   simp only [Bool.or_eq_true] at hc
   rcases hc with hc | hc
   ·obtain ⟨p,hp,hpt⟩:=List.any_eq_true.1 hc
    exact absurd (by simpa using hpt) (hnd' p hp)
   ·show a.tmps.getD t undef=v
    rw [hI.old t (fun i' o' hi' ho' hl' hdst=>?_),ha0.slot t v hv0]
    have:=List.all_eq_true.1 hc (o',i') (by rw [List.mem_zipIdx_iff_getElem?,htake i' hi'];exact ho')
    simp only [Bool.or_eq_true] at this
    rcases this with (h1 | h1) | h1
    ·simp [hdst] at h1
    ·have:i'=i:=by simpa using h1
     subst this;exact hunl hl'
    ·exact hunl (hI.shut i' o' ho' hl' i h1)
theorem AK2 {o:Oper} {t:Tmp} (h:Operand.tmp t∈o.op.operands):t∈tmpsOf o:=by
 unfold tmpsOf
 rw [List.mem_filterMap]
 exact ⟨.tmp t,by simpa using h,rfl⟩
theorem AY1 {a:Act} {d:Option Tmp} {v:Value} {x:Operand} (h:∀ t,x=.tmp t->d≠some t):(a.put d v).eval x=a.eval x:=by
 cases x with
 | tmp t =>
  have hne:=h t rfl
  cases d with
  | none=>rfl
  | some u =>
   have:u≠t:=fun e=>hne (by rw [e])
   show (a.put (some u) v).tmps.getD t undef=a.tmps.getD t undef
   simp [Act.put,Array.getElem?_setIfInBounds_ne this]
 | _=>cases d<;>rfl
theorem PureAt.congr {P:Program} {o:Oper} {ρ ρ':Operand->Value} {v:Value} (h:PureAt P o ρ v) (e:∀ x∈o.op.operands,ρ' x=ρ x):PureAt P o ρ' v:=fun ρ'' h' w=>h ρ'' (fun x hx=>by rw [h' x hx,e x hx]) w
structure InvB (P:Program) (ro:Option Nat) (N:Nat) (ops:List Oper) (h:Nat) (lt:List Nat) (Q:Exit->Act->World->Prop) (listed:Array Bool) (a a':Act) (p:Nat) (w:World):Prop where
 hp:h<=p
 pl:p<=ops.length
 low:∀ j,j<p->isLate lt j=false->isL listed j
 high:∀ j,p<=j->¬ isL listed j
 wp:wpListIn (wf ro) 0 P ops.toArray Q (ops.drop p) a' w
 sz:a.tmps.size=N
 sz':a'.tmps.size=N
 df:a.defers=a'.defers
 same:∀ t,(∀ (l:Nat) (ol:Oper),isLate lt l=true->ops[l]?=some ol->¬ isL listed l->ol.dst≠some t)->a.tmps.getD t undef=a'.tmps.getD t undef
 late:∀ (l:Nat) (ol:Oper) (t:Tmp),isLate lt l=true->ops[l]?=some ol->¬ isL listed l->ol.dst=some t->PureAt P ol a'.eval (a'.tmps.getD t undef)
 shut:∀ (i:Nat) (o:Oper),ops[i]?=some o->isL listed i->∀ j,edgeTo o j=true->isL listed j
set_option maxHeartbeats 1600000 in
theorem BI0 {Q:Exit->Act->World->Prop} {lt:List Nat} (hchk:okParL ops N h deps lt=true) (ha0:Agr N σ0 ds a0) (hob:Obs P w0 σ0 (ops.take h) sp (ops.take h) sp deps)
  (hfin:∀ w,Ext w0 w->finQ (fun σ w=>∀ a,Agr N σ ds a->wpListIn (wf ro) 0 P ops.toArray Q (ops.drop h) a w) w (ops.take h) sp σ0)
  (hQ:∀ e a w,Q e a w->e=.normal) (hQc:∀ a a' w,Q .normal a' w->a.tmps.size=a'.tmps.size->a.defers=a'.defers->(∀ t,a.tmps.getD t undef=a'.tmps.getD t undef)->Q .normal a w) :
  ∀ (fuel:Nat) (listed:Array Bool) (a:Act) (w:World),listed.size=ops.length->cnt listed ops.length<=fuel ->
   (InvA N ds ops w0 h sp a0 listed a w\/∃ a' p,InvB P ro N ops h lt Q listed a a' p w) ->
   wpAnyIn (wf ro) 0 P .any ops.toArray Q fuel listed a w:=by
 simp only [okParL,Bool.and_eq_true,List.all_eq_true,Nat.ble_eq] at hchk
 obtain ⟨⟨⟨⟨⟨hback,hnd0⟩,hplain⟩,hall⟩,hle⟩,hlate⟩:=hchk
 have hnd:=I2 hnd0
 have hgn:∀ (i:Nat) (o:Oper),ops[i]?=some o->o.guard=none/\dOk N o.dst=true:=by
  intro i o ho
  obtain ⟨h1,h2⟩:=hplain o (List.mem_iff_getElem?.2 ⟨i,ho⟩)
  refine ⟨?_,h2⟩
  unfold nog at h1
  cases hg:o.guard with
  | none=>rfl
  | some g=>rw [hg] at h1;cases h1
 have hback':∀ (i:Nat) (o:Oper),ops[i]?=some o->∀ j,edgeTo o j=true->j<i:=by
  intro i o hi j hj
  have:=hback (o,i) (by rw [List.mem_zipIdx_iff_getElem?];exact hi)
  obtain ⟨e,he,hb,rfl⟩:=F9.1 hj
  simp only [okBack,Array.all_eq_true',Bool.or_eq_true,Bool.not_eq_true',Nat.blt_eq] at this
  rcases this e he with h | h
  ·rw [hb] at h;cases h
  ·exact h
 have hop:∀ (i:Nat) (o:Oper),i<h->ops[i]?=some o->okOp (ops.take h) N i o (deps.getD i [])=true:=by
  intro i o hi ho
  have:=hall (o,i) (by rw [List.mem_zipIdx_iff_getElem?];exact ho)
  simpa [Nat.blt_eq,hi] using this
 have hlt':∀ l,isLate lt l=true->l<h:=by
  intro l hl
  have:=hlate l (AH7.1 hl)
  simp only [okLate,Bool.and_eq_true,Nat.blt_eq] at this
  exact this.1
 have hlop:∀ (l:Nat) (ol:Oper),isLate lt l=true->ops[l]?=some ol->pureOp ol=true/\∀ t∈tmpsOf ol,(∃ p∈deps.getD l [],p.1=t/\p.2<l)\/∀ q∈ops,q.dst≠some t:=by
  intro l ol hl hol
  have:=hlate l (AH7.1 hl)
  simp only [okLate,Bool.and_eq_true,hol,List.all_eq_true,Bool.or_eq_true] at this
  refine ⟨this.2.1,fun t ht=>?_⟩
  rcases this.2.2 t ht with h1 | h1
  ·obtain ⟨p,hp,hpt⟩:=List.any_eq_true.1 h1
   simp only [Bool.and_eq_true,Nat.beq_eq,Nat.blt_eq] at hpt
   exact .inl ⟨p,hp,hpt.1,hpt.2⟩
  ·exact .inr fun q hq=>by simpa using h1 q hq
 have hdepd:∀ (i:Nat) (o:Oper) (p:Tmp×Nat),i<h->ops[i]?=some o->p∈deps.getD i []->edgeTo o p.2=true/\∃ oj,ops[p.2]?=some oj/\oj.dst=some p.1:=by
  intro i o p hi ho hp
  have hok:=hop i o hi ho
  simp only [okOp,Bool.and_eq_true,List.all_eq_true] at hok
  obtain ⟨h2,h3⟩:=hok.1.2 p hp
  refine ⟨h2,?_⟩
  split at h3
  ·rename_i oj hoj
   have hj:p.2<h:=Nat.lt_trans (hback' i o ho _ h2) hi
   exact ⟨oj,by rw [List.getElem?_take,if_pos hj] at hoj;exact hoj,by simpa using h3⟩
  ·cases h3
 have hclose:∀ (listed:Array Bool),(∀ (i:Nat) (o:Oper),ops[i]?=some o->isL listed i->∀ j,edgeTo o j=true->isL listed j)->∀ (i:Nat) (o:Oper),ops[i]?=some o->(∀ j,edgeTo o j=true->isL listed j)->∀ j,(closeB ops i (edgesOf o)).any (Nat.beq j)=true->isL listed j:=by
  intro listed shut i o ho hed j hj
  obtain ⟨x,hx,hxe⟩:=List.any_eq_true.1 hj
  have hxj:j=x:=Nat.eq_of_beq_eq_true hxe
  subst hxj
  refine P0 shut _ _ (fun k hk=>?_) j hx
  simp only [edgesOf,List.mem_filterMap] at hk
  obtain ⟨e,he,hb⟩:=hk
  have hbb:Region.binds .any e=true:=by
   cases h':Region.binds .any e with
   | true=>rfl
   | false=>rw [h'] at hb;simp at hb
  rw [hbb] at hb
  simp at hb
  exact hed k (F9.2 ⟨e,by simpa using he,hbb,hb⟩)
 have htl:∀ (i:Nat) (o:Oper),h<=i->ops[i]?=some o->okTailL ops lt i o=true:=by
  intro i o hi ho
  have:=hall (o,i) (by rw [List.mem_zipIdx_iff_getElem?];exact ho)
  have hn:Nat.blt i h=false:=by
   cases hh:Nat.blt i h with
   | false=>rfl
   | true=>rw [Nat.blt_eq] at hh;omega
  simpa [hn] using this
 have htail:∀ (listed:Array Bool),(∀ (i:Nat) (o:Oper),ops[i]?=some o->isL listed i->∀ j,edgeTo o j=true->isL listed j)->∀ (i:Nat) (o:Oper),h<=i->ops[i]?=some o->(∀ j,edgeTo o j=true->isL listed j)->∀ j,j<i->isLate lt j=false->isL listed j:=by
  intro listed shut i o hi ho hed j hj hnl
  have:=htl i o hi ho
  simp only [okTailL,Bool.and_eq_true,List.all_eq_true,List.mem_range,Bool.or_eq_true] at this
  rcases this.1.1 j hj with h1 | h1
  ·rw [hnl] at h1;cases h1
  ·exact hclose listed shut i o ho hed j h1
 have htake:∀ i,i<h->(ops.take h)[i]?=ops[i]?:=fun i hi=>by rw [List.getElem?_take,if_pos hi]
 have hlen:=Obs.len hob
 have hltn:(ops.take h).length=h:=by simp;omega
 have hndh:(dsts (ops.take h)).Nodup:=by
  have:(dsts ops)=dsts (ops.take h)++dsts (ops.drop h):=by unfold dsts;rw [<-List.filterMap_append,List.take_append_drop]
  rw [this] at hnd
  exact (List.nodup_append.1 hnd).1
 have toB:∀ listed a w,InvA N ds ops w0 h sp a0 listed a w->(∀ i,i<h->isL listed i)->wpListIn (wf ro) 0 P ops.toArray Q (ops.drop h) a w:=by
  intro listed a w hI hl
  have hmem:∀ o∈ops.take h,∃ i,i<h/\ops[i]?=some o:=by
   intro o ho
   obtain ⟨i,hi⟩:=List.mem_iff_getElem?.1 ho
   have hi':i<h:=by
    rcases Nat.lt_or_ge i h with hh | hh
    ·exact hh
    ·rw [List.getElem?_eq_none (by omega)] at hi;cases hi
   exact ⟨i,hi',by rw [<-htake i hi'];exact hi⟩
  have hsome:∀ o∈ops.take h,dOk N o.dst=true/\o.dst.isSome=true:=by
   intro o ho
   obtain ⟨i,hi,ho⟩:=hmem o ho
   have:=hop i o hi ho
   simp only [okOp,Bool.and_eq_true] at this
   exact ⟨this.1.1.1.1.1,this.1.1.1.1.2⟩
  obtain ⟨σ',hag,hk⟩:=An5 (N:=N) (ds:=ds) (ops.take h) sp σ0 a hlen (hfin w hI.ext) (fun o ho=>(hsome o ho).1)
   (fun i o s t h1 h2 h3=>by
    have hi':i<h:=by
     rcases Nat.lt_or_ge i h with hh | hh
     ·exact hh
     ·rw [List.getElem?_eq_none (by omega)] at h1;cases h1
    exact hI.vals i o s t hi' (by rw [<-htake i hi'];exact h1) h2 (hl i hi') h3)
   (fun t v hv hno=>by
    rw [hI.old t (fun i o hi ho _=>hno o (List.mem_iff_getElem?.2 ⟨i,by rw [htake i hi];exact ho⟩))]
    exact ha0.slot t v hv)
   hndh hI.size hI.defs
   (fun i o s h1 h2 h3=>by
    have:=(hsome o (List.mem_iff_getElem?.2 ⟨i,h1⟩)).2
    rw [h3] at this;cases this)
  exact hk a hag
 have ghost:∀ listed a w,listed.size=ops.length->InvA N ds ops w0 h sp a0 listed a w->(∀ j,j<h->isLate lt j=false->isL listed j)->∃ a' p,InvB P ro N ops h lt Q listed a a' p w/\p=h:=by
  intro listed a w hsz hI hl
  have key:∀ k,k<=h->∃ (listed':Array Bool) (a':Act),listed'.size=ops.length/\InvA N ds ops w0 h sp a0 listed' a' w/\(∀ j,j<k->isL listed' j)/\(∀ j,isL listed j->isL listed' j)/\(∀ j,isL listed' j->isL listed j\/j<k) /\
    (∀ t,(∀ (l:Nat) (ol:Oper),isLate lt l=true->ops[l]?=some ol->¬ isL listed l->ol.dst≠some t)->a.tmps.getD t undef=a'.tmps.getD t undef) /\
    (∀ (l:Nat) (ol:Oper) (t:Tmp),l<k->isLate lt l=true->ops[l]?=some ol->¬ isL listed l->ol.dst=some t->PureAt P ol a'.eval (a'.tmps.getD t undef)):=by
   intro k
   induction k with
   | zero=>intro _;exact ⟨listed,a,hsz,hI,fun j hj=>by omega,fun _ h=>h,fun _ h=>.inl h,fun _ _=>rfl,fun l _ _ hl=>by omega⟩
   | succ k ihk =>
    intro hk
    obtain ⟨L,a',hszL,hIL,hlow,hsub,hsup,hsame,hpure⟩:=ihk (by omega)
    by_cases hkl:isL L k
    ·by_cases hkl':isL listed k
     ·refine ⟨L,a',hszL,hIL,fun j hj=>?_,hsub,fun j hj=>(hsup j hj).imp id (by omega),hsame,fun l ol t hlk h1 h2 h3 h4=>?_⟩
      ·by_cases e:j=k
       ·rw [e];exact hkl
       ·exact hlow j (by omega)
      ·by_cases e:l=k
       ·rw [e] at h3;exact absurd hkl' h3
       ·exact hpure l ol t (by omega) h1 h2 h3 h4
     ·rcases hsup k hkl with h1 | h1
      ·exact absurd h1 hkl'
      ·omega
    ·have hkn:¬ isL listed k:=fun h1=>hkl (hsub k h1)
     have hkt:isLate lt k=true:=by
      cases hh:isLate lt k with
      | true=>rfl
      | false=>exact absurd (hl k (by omega) hh) hkn
     have hkin:k<ops.length:=by omega
     obtain ⟨o,ho⟩:∃ o,ops[k]?=some o:=⟨_,List.getElem?_eq_getElem hkin⟩
     have hed:∀ j,edgeTo o j=true->isL L j:=fun j hj=>hlow j (hback' k o ho j hj)
     obtain ⟨s,t0,σ',hs,ht0,htN,hG,hopnd⟩:=hIL.opnd ha0 hle hob (by omega:k<h) ho (hop k o (by omega) ho) hkl hed (hgn k o ho).1
     obtain ⟨hpu,htm⟩:=hlop k o hkt ho
     obtain ⟨v,hv1,hv2⟩:=pure_of hpu (hG.2 a'.eval hopnd)
     have hfree:∀ (l:Nat) (ol:Oper),l<=k->isLate lt l=true->ops[l]?=some ol->∀ x∈ol.op.operands,∀ t,x=.tmp t->o.dst≠some t:=by
      intro l ol hlk hll hol x hx t ht
      subst ht
      obtain ⟨_,htm'⟩:=hlop l ol hll hol
      rcases htm' t (AK2 hx) with ⟨p,hp,hpt,hpl⟩ | h1
      ·intro e
       obtain ⟨_,oj,hoj,hdj⟩:=hdepd l ol p (by omega) hol hp
       rw [hpt] at hdj
       have:=L0 hnd ho hoj e hdj
       omega
      ·exact h1 o (List.mem_iff_getElem?.2 ⟨k,ho⟩)
     refine ⟨L.setIfInBounds k true,a'.put o.dst v,by simpa using hszL,hIL.next hszL hnd (by omega) hkin ho hs ht0 htN hed hv2.1 hv2.2,fun j hj=>?_,fun j hj=>?_,fun j hj=>?_,fun t hno=>?_,fun l ol t hlk h1 h2 h3 h4=>?_⟩
     ·rw [G4 (by omega)]
      by_cases e:k=j
      ·exact .inl e
      ·exact .inr (hlow j (by omega))
     ·rw [G4 (by omega)];exact .inr (hsub j hj)
     ·rw [G4 (by omega)] at hj
      rcases hj with e | e
      ·exact .inr (by omega)
      ·exact (hsup j e).imp id (by omega)
     ·have hne:t0≠t:=fun e=>hno k o hkt ho hkn (by rw [ht0,e])
      have:(a'.put o.dst v).tmps.getD t undef=a'.tmps.getD t undef:=by simp [ht0,Act.put,Array.getElem?_setIfInBounds_ne hne]
      rw [this]
      exact hsame t hno
     ·by_cases e:l=k
      ·subst e
       rw [ho] at h2;cases h2
       rw [ht0] at h4;cases h4
       have hval:(a'.put o.dst v).tmps.getD t0 undef=v:=by simp [ht0,Act.put,hIL.size,htN]
       rw [hval]
       exact hv1.congr fun x hx=>AY1 (hfree l o (Nat.le_refl _) hkt ho x hx)
      ·have hne:t0≠t:=fun e2=>e (L0 hnd h2 ho h4 (by rw [ht0,e2]))
       have:(a'.put o.dst v).tmps.getD t undef=a'.tmps.getD t undef:=by simp [ht0,Act.put,Array.getElem?_setIfInBounds_ne hne]
       rw [this]
       exact (hpure l ol t (by omega) h1 h2 h3 h4).congr fun x hx=>AY1 (hfree l ol (by omega) h1 h2 x hx)
  obtain ⟨L,a',hszL,hIL,hlow,hsub,hsup,hsame,hpure⟩:=key h (Nat.le_refl _)
  exact ⟨a',h,⟨Nat.le_refl _,hle,hl,hI.head,toB L a' w hIL hlow,hI.size,hIL.size,hI.defs.trans hIL.defs.symm,hsame,fun l ol t h1=>hpure l ol t (hlt' l h1) h1,hI.shut⟩,rfl⟩
 have allL:∀ listed:Array Bool,listed.size=ops.length->Region.ready .any ops.toArray listed=[]->∀ i,i<ops.length->isL listed i:=by
  intro listed hsz hr i
  induction i using Nat.strongRecOn with
  | _ i ih =>
   intro hi
   by_cases hh:isL listed i
   ·exact hh
   ·have:i∈Region.ready .any ops.toArray listed:=by
     refine G6.2 ⟨by simpa using hi,(C4 (by omega)).2 hh,fun o ho j hj=>?_⟩
     have:=hback' i o (by simpa using ho) j hj
     exact ih j this (by omega)
    rw [hr] at this;cases this
 have done:∀ listed a w,listed.size=ops.length->(∀ i,i<ops.length->isL listed i)->(InvA N ds ops w0 h sp a0 listed a w\/∃ a' p,InvB P ro N ops h lt Q listed a a' p w)->Q .normal a w:=by
  intro listed a w hsz hl hJ
  have hB:∃ a' p,InvB P ro N ops h lt Q listed a a' p w:=by
   rcases hJ with hI | hB
   ·obtain ⟨a',p,hB,_⟩:=ghost listed a w hsz hI (fun j hj _=>hl j (by omega))
    exact ⟨a',p,hB⟩
   ·exact hB
  obtain ⟨a',p,hB⟩:=hB
  have hn:ops.length<=p:=Nat.le_of_not_lt fun hh=>hB.high p (Nat.le_refl _) (hl p hh)
  have hwp:=hB.wp
  rw [List.drop_of_length_le hn] at hwp
  exact hQc a a' w hwp (hB.sz.trans hB.sz'.symm) hB.df fun t=>hB.same t fun l ol _ hol hnl=>absurd (hl l (by
   rcases Nat.lt_or_ge l ops.length with h' | h'
   ·exact h'
   ·rw [List.getElem?_eq_none h'] at hol;cases hol)) hnl
 intro fuel
 induction fuel with
 | zero =>
  intro listed a w hsz hc hJ
  have hl:∀ i,i<ops.length->isL listed i:=by
   intro i hi
   have:=AD4 listed ops.length (by omega) i hi
   by_cases hh:isL listed i
   ·exact hh
   ·have:=(C4 (by omega:i<listed.size)).2 hh
    simp_all
  refine ⟨?_,done listed a w hsz hl hJ⟩
  refine List.eq_nil_iff_forall_not_mem.2 fun i hi=>?_
  obtain ⟨h1,h2,_⟩:=G6.1 hi
  have h1':i<ops.length:=by simpa using h1
  exact (C4 (by omega)).1 h2 (hl i h1')
 | succ fuel ih =>
  intro listed a w hsz hc hJ
  refine ⟨fun hr=>done listed a w hsz (allL listed hsz hr) hJ,fun i hi=>?_⟩
  obtain ⟨hin,hun,hed⟩:=G6.1 hi
  have hin':i<ops.length:=by simpa using hin
  have hunl:¬ isL listed i:=(C4 (by omega)).1 hun
  obtain ⟨o,ho⟩:∃ o,ops[i]?=some o:=⟨_,List.getElem?_eq_getElem hin'⟩
  have hed':∀ j,edgeTo o j=true->isL listed j:=hed o (by simpa using ho)
  have hsz':(listed.setIfInBounds i true).size=ops.length:=by simpa using hsz
  have hcnt:cnt (listed.setIfInBounds i true) ops.length<=fuel:=by
   have:=S1 listed i hun ops.length hin'
   omega
  have hset:∀ j,isL (listed.setIfInBounds i true) j<->(i=j\/isL listed j):=fun j=>G4 (by omega)
  obtain ⟨hgo,hdo⟩:=hgn i o ho
  have hw:Region.wanted o (yielded ops.toArray a.tmps)=true:=by simp [Region.wanted,hgo]
  unfold wpOpIn
  simp only [List.getElem?_toArray,ho]
  rw [if_pos hw]
  have part2:∀ a' p,InvB P ro N ops h lt Q listed a a' p w->o.wpIn (wf ro) 0 P a w (wpAnyIn (wf ro) 0 P .any ops.toArray Q fuel (listed.setIfInBounds i true)) Q:=by
   intro a' p hB
   have hshut':∀ (j:Nat) (oj:Oper),ops[j]?=some oj->isL (listed.setIfInBounds i true) j->∀ k,edgeTo oj k=true->isL (listed.setIfInBounds i true) k:=by
    intro j oj hoj hlj k hk
    rw [hset] at hlj ⊢
    by_cases e:i=j
    ·subst e
     rw [ho] at hoj;cases hoj
     exact .inr (hed' k hk)
    ·exact .inr (hB.shut j oj hoj (hlj.resolve_left e) k hk)
   cases hlat:isLate lt i with
   | true =>
    have hih:=hlt' i hlat
    obtain ⟨hpu,htm⟩:=hlop i o hlat ho
    have hok:=hop i o hih ho
    simp only [okOp,Bool.and_eq_true] at hok
    obtain ⟨t0,ht0⟩:=Option.isSome_iff_exists.1 hok.1.1.1.1.2
    have htN:t0<N:=by have:=hok.1.1.1.1.1;simpa [ht0,dOk,Nat.blt_eq] using this
    have hp:=hB.late i o t0 hlat ho hunl ht0
    have hopn:∀ x∈o.op.operands,a.eval x=a'.eval x:=by
     intro x hx
     cases x with
     | tmp t =>
      refine hB.same t fun l ol hll hol hnl hdl=>?_
      rcases htm t (AK2 hx) with ⟨p',hp',hpt,hpl⟩ | h1
      ·obtain ⟨h2,oj,hoj,hdj⟩:=hdepd i o p' hih ho hp'
       rw [hpt] at hdj
       have:=L0 hnd hol hoj hdl hdj
       rw [this] at hnl
       exact hnl (hed' _ h2)
      ·exact h1 ol (List.mem_iff_getElem?.2 ⟨l,hol⟩) hdl
     | _=>rfl
    have hrun:=hp a.eval hopn w
    have hnd':∀ c,o.op≠.defer c:=fun c e=>by unfold pureOp at hpu;rw [e] at hpu;cases hpu
    refine ⟨fun _ _=>trivial,?_⟩
    show o.uponIn (wf ro) 0 P a _ Q ((o.semAt ro a.eval).run P w)
    rw [AJ7 hnd',hrun]
    refine ih _ _ _ hsz' hcnt (.inr ⟨a',p,hB.hp,hB.pl,fun j hj hnl=>(hset j).2 (.inr (hB.low j hj hnl)),fun j hj=>?_,hB.wp,by simpa [ht0,Act.put] using hB.sz,hB.sz',by simpa [ht0,Act.put] using hB.df,fun t hno=>?_,fun l ol t h1 h2 h3 h4=>?_,hshut'⟩)
    ·rw [hset]
     rintro (e | e)
     ·have:=hB.hp;omega
     ·exact hB.high j hj e
    ·by_cases e:t0=t
     ·subst e
      simp [ht0,Act.put,hB.sz,htN]
     ·have:(a.put o.dst (a'.tmps.getD t0 undef)).tmps.getD t undef=a.tmps.getD t undef:=by simp [ht0,Act.put,Array.getElem?_setIfInBounds_ne e]
      rw [this]
      refine hB.same t fun l ol h1 h2 h3 h4=>?_
      by_cases el:l=i
      ·subst el;rw [ho] at h2;cases h2;rw [ht0] at h4;cases h4;exact e rfl
      ·exact hno l ol h1 h2 (fun hh=>by rw [hset] at hh;rcases hh with hh | hh;exact el hh.symm;exact h3 hh) h4
    ·exact hB.late l ol t h1 h2 (fun hh=>h3 ((hset l).2 (.inr hh))) h4
   | false =>
    have hip:p<=i:=Nat.le_of_not_lt fun hh=>hunl (hB.low i hh hlat)
    have hpi:p=i:=by
     rcases Nat.lt_or_ge p i with hh | hh
     ·have hpl:isLate lt p=false:=by
       cases hx:isLate lt p with
       | false=>rfl
       | true=>have:=hlt' p hx;have:=hB.hp;omega
      exact absurd (htail listed hB.shut i o (by have:=hB.hp;omega) ho hed' p hh hpl) (hB.high p (Nat.le_refl _))
     ·omega
    subst hpi
    have hd:ops.drop p=o::ops.drop (p+1):=by
     rw [List.drop_eq_getElem_cons hin']
     congr 1
     have:=List.getElem?_eq_getElem hin'
     rw [ho] at this;exact (Option.some.inj this).symm
    have hwp:=hB.wp
    rw [hd] at hwp
    have hw':Region.wanted o (yielded ops.toArray a'.tmps)=true:=by simp [Region.wanted,hgo]
    simp only [wpListIn,hw',if_true] at hwp
    have hk:=htl p o hB.hp ho
    simp only [okTailL,Bool.and_eq_true,List.all_eq_true] at hk
    obtain ⟨⟨_,hkind⟩,hlts⟩:=hk
    have hopn:∀ x∈o.op.operands,a.eval x=a'.eval x:=by
     intro x hx
     cases x with
     | tmp t =>
      refine hB.same t fun l ol hll hol hnl hdl=>?_
      have:=hlts l (AH7.1 hll)
      simp only [hol,Bool.or_eq_true,List.all_eq_true] at this
      rcases this with h1 | h1
      ·have:=h1 t (AK2 hx)
       rw [hdl] at this
       simp at this
      ·exact hnl (hclose listed hB.shut p o ho hed' l h1)
     | _=>rfl
    refine U5 (a':=a') (next':=wpListIn (wf ro) 0 P ops.toArray Q (ops.drop (p+1))) (fun c e=>by rw [e] at hkind;cases hkind) (fun cs b e=>by rw [e] at hkind;cases hkind) hopn hQ (fun dd v w' hn=>?_) hwp
    have hput:∀ (b:Act) (t:Tmp),o.dst≠some t->(b.put o.dst v).tmps.getD t undef=b.tmps.getD t undef:=by
     intro b t hne
     cases hdst:o.dst with
     | none=>rfl
     | some u =>
      have:u≠t:=fun e=>hne (by rw [hdst,e])
      simp [Act.put,Array.getElem?_setIfInBounds_ne this]
    have hputs:∀ (b:Act) (t:Tmp),b.tmps.size=N->o.dst=some t->(b.put o.dst v).tmps.getD t undef=v:=by
     intro b t hb hdst
     have:t<N:=by rw [hdst] at hdo;simpa [dOk,Nat.blt_eq] using hdo
     simp [hdst,Act.put,hb,this]
    have hsz2:∀ b:Act,(b.put o.dst v).tmps.size=b.tmps.size:=fun b=>by cases o.dst<;>simp [Act.put]
    have hdf2:∀ b:Act,(b.put o.dst v).defers=b.defers:=fun b=>by cases o.dst<;>simp [Act.put]
    refine ih _ _ _ hsz' hcnt (.inr ⟨_,p+1,by have:=hB.hp;omega,by omega,fun j hj hnl=>?_,fun j hj=>?_,hn,?_,?_,?_,fun t hno=>?_,fun l ol t h1 h2 h3 h4=>?_,hshut'⟩)
    ·rw [hset]
     by_cases e:p=j
     ·exact .inl e
     ·exact .inr (hB.low j (by omega) hnl)
    ·rw [hset]
     rintro (e | e)
     ·omega
     ·exact hB.high j (by omega) e
    ·rw [hsz2];exact hB.sz
    ·rw [hsz2];exact hB.sz'
    ·rw [hdf2,hdf2]
     show dd++a.defers=dd++a'.defers
     rw [hB.df]
    ·by_cases e:o.dst=some t
     ·exact (hputs { a with defers:=dd++a.defers } t hB.sz e).trans (hputs { a' with defers:=dd++a'.defers } t hB.sz' e).symm
     ·refine (hput { a with defers:=dd++a.defers } t e).trans (Eq.trans ?_ (hput { a' with defers:=dd++a'.defers } t e).symm)
      show a.tmps.getD t undef=a'.tmps.getD t undef
      refine hB.same t fun l ol h1 h2 h3 h4=>?_
      refine hno l ol h1 h2 (fun hh=>?_) h4
      rw [hset] at hh
      rcases hh with hh | hh
      ·rw [<-hh,hlat] at h1;cases h1
      ·exact h3 hh
    ·have hne:o.dst≠some t:=fun e=>by
      have:=L0 hnd h2 ho h4 e
      rw [this,hlat] at h1;cases h1
     have hpp:(({ a' with defers:=dd++a'.defers }:Act).put o.dst v).tmps.getD t undef=a'.tmps.getD t undef:=hput { a' with defers:=dd++a'.defers } t hne
     rw [hpp]
     have h3':¬ isL listed l:=fun hh=>h3 ((hset l).2 (.inr hh))
     refine (hB.late l ol t h1 h2 h3' h4).congr fun x hx=>?_
     rw [AY1 (a:=({ a' with defers:=dd++a'.defers }:Act)) fun u hu hdst=>?_]
     ·cases x<;>rfl
     ·subst hu
      obtain ⟨_,htm⟩:=hlop l ol h1 h2
      rcases htm u (AK2 hx) with ⟨p',hp',hpt,hpl⟩ | h5
      ·obtain ⟨_,oj,hoj,hdj⟩:=hdepd l ol p' (hlt' l h1) h2 hp'
       rw [hpt] at hdj
       have:=L0 hnd ho hoj hdst hdj
       have:=hlt' l h1
       have:=hB.hp
       omega
      ·exact h5 o (List.mem_iff_getElem?.2 ⟨p,ho⟩) hdst
  rcases hJ with hI | ⟨a',p,hB⟩
  ·rcases Nat.lt_or_ge i h with hih | hih
   ·obtain ⟨s,t0,σ',hs,ht0,htN,hG,hopnd⟩:=hI.opnd ha0 hle hob hih ho (hop i o hih ho) hunl hed' hgo
    exact hG.wp hopnd fun v w' hv=>ih _ _ _ hsz' hcnt (.inl (hI.next hsz hnd hih hin' ho hs ht0 htN hed' hv.1 hv.2))
   ·obtain ⟨a',p,hB,_⟩:=ghost listed a w hsz hI (fun j hj hnl=>htail listed hI.shut i o hih ho hed' j (by omega) hnl)
    exact part2 a' p hB
  ·exact part2 a' p hB
theorem WC.parL {Q:Pst} {id:Nat} (hm:P.follows .mixedOrders=true) (h:Nat) (lt:List Nat) (sp:List Sp) (deps:List (List (Tmp×Nat))) (hchk:okParL ops N h deps lt=true)
  (hob:Obs P w0 σ0 (ops.take h) sp (ops.take h) sp deps)
  (hfin:∀ w,Ext w0 w->finQ (fun σ w=>WL P ro N ds ops.toArray (fun σ w=>Q .normal σ ds w) (ops.drop h) σ w) w (ops.take h) sp σ0):WC P ro N Q (.region id ops.toArray true) σ0 ds w0:=by
 refine ⟨fun a ha=>?_⟩
 have main:(Code.region id ops.toArray true).wpIn (wf ro) 0 P (fun e a w=>e=.normal/\∃ σ',Agr N σ' ds a/\Q .normal σ' ds w) a w0:=by
  refine wpIn_region_draw fun t=>?_
  simp only [Region.schedule,hm,Bool.true_or,if_true]
  refine wpAnyIn_sound ops.toArray.size t _ a _ ?_
  have hfalse:∀ i,¬ isL (Array.replicate ops.toArray.size false) i:=by
   intro i
   unfold isL
   by_cases hi:i<ops.length<;>simp [hi]
  refine BI0 hchk ha hob (fun w he=>?_) (fun e a w hq=>hq.1) (fun a a' w hq h1 h2 h3=>⟨rfl,?_⟩) _ _ _ _ (by simp) (by simpa using cnt_le _ _) (.inl ⟨ha.size,ha.defs,(Below.refl _ w0).drew,fun i o s t _ _ _ hl=>absurd hl (hfalse i),fun t _=>rfl,fun i o _ hl=>absurd hl (hfalse i),fun i _=>hfalse i⟩)
  ·have key:∀ (os:List Oper) (ss:List Sp) (σ:Env),finQ (fun σ w=>WL P ro N ds ops.toArray (fun σ w=>Q .normal σ ds w) (ops.drop h) σ w) w os ss σ ->
     finQ (fun σ w=>∀ a,Agr N σ ds a->wpListIn (wf ro) 0 P ops.toArray (fun e a w=>e=.normal/\∃ σ',Agr N σ' ds a/\Q .normal σ' ds w) (ops.drop h) a w) w os ss σ:=by
    intro os
    induction os with
    | nil=>intro ss σ hq;exact WL.out hq
    | cons o os ih =>
     intro ss σ hq
     cases ss with
     | nil=>exact WL.out hq
     | cons s ss =>
      cases s with
      | inl v=>exact ih ss _ hq
      | inr p=>exact fun v hv=>ih ss _ (hq v hv)
   exact key _ _ _ (hfin w he)
  ·obtain ⟨_,σ',hag,hk⟩:=hq
   exact ⟨σ',⟨h1.trans hag.size,h2.trans hag.defs,fun t v hv=>(h3 t).trans (hag.slot t v hv)⟩,hk⟩
 refine wpIn_mono main ?_
 rintro e a' w' ⟨rfl,σ',hag,hk⟩
 exact ⟨σ',ds,hag,hk⟩
end
open Go Go.RowKit
abbrev but (S Z:Nat->Prop):Nat->Prop:=fun k=>S k/\¬ Z k
abbrev tak (g:Nat) (v:Value):Nat->Prop:=fun k=>k=g\/v.ownBlock=some k
section
variable {α:Type} {E:ER α} {t:TypeId} {S:Nat->Prop} {w w':World} {g:Nat} {l:List α}
theorem FB.grow {v v':Value} (h:FB E t (fun k=>S k/\v.ownBlock≠some k) w g l) (hg:w.grownBy w' v.ownBlock) (hw:v'.ownBlock=v.ownBlock\/v'.ownBlock=some w.heap.size) (hne:v.ownBlock≠some g):FB E t (fun k=>S k/\v'.ownBlock≠some k) w' g l:=by
 have h1:FB E t (fun k=>(S k/\v.ownBlock≠some k)/\k<w.heap.size) w g l:=h.mono fun k hk hs=>⟨hs,hk⟩
 have h2:=h1.chg (Chg.grown hg) hne fun k hk=>hk.1.2
 refine h2.mono fun k _ hk=>⟨hk.1.1,?_⟩
 rcases hw with e | e
 ·rw [e];exact hk.1.2
 ·rw [e];intro e';cases e';exact Nat.lt_irrefl _ hk.2
end
end Go.Kx
namespace Go.Proofs.YtpgkacdihhjknaaGreat
open Go Go.Kx Go.RowKit
theorem un_I:Tryz.prog.underlying 25=some (.slice 3):=by kernel_rfl
theorem Z7:infoOf Tryz.prog 3=some (.int .i64 0,1,8):=by kernel_rfl
theorem A7:tyOf Tryz.prog 3=some (false,1):=by kernel_rfl
theorem AI2 {x:Int}:bslOf Tryz.prog 25 1 [(0,.int .i64 x)]=some (3,#[.int .i64 x]):=by kernel_rfl
theorem fld_EV0:fldOf Tryz.prog 228 0=some 0:=by kernel_rfl
theorem fld_EV1:fldOf Tryz.prog 228 1=some 1:=by kernel_rfl
theorem ty_E0:tyOf Tryz.prog 1=some (false,1):=by kernel_rfl
theorem ty_E1:tyOf Tryz.prog 226=some (false,1):=by kernel_rfl
structure Evs (P:Program) (xe xs:FuncId) (cape caps:Array Value) (M:Nat) (S0 X:Nat->Prop) (D:(Nat->Prop)->Nat->Rat->World->Prop):Prop where
 entE:Ent P xe
 entS:Ent P xs
 mono:∀ {Z Z':Nat->Prop} {j:Nat} {d:Rat} {W:World},D Z j d W->(∀ k,k<W.heap.size->Z' k->Z k)->D Z' j d W
 chg:∀ {Z:Nat->Prop} {j:Nat} {d:Rat} {W W':World},D Z j d W->Chg Z W W'->D Z j d W'
 exch:∀ {Z:Nat->Prop} {j:Nat} {d:Rat} {W:World},D Z j d W->(∀ k,Z k->k<W.heap.size/\¬ X k)->Calls P xe (([]:List Value).toArray++cape) W fun e W'=>∃ v,e=.returned v/\Chg X W W'/\D Z j (-d) W'
 scal:∀ {Z:Nat->Prop} {j:Nat} {d:Rat} {W:World} {v:Value} {q:QV},D Z j d W->(∀ k,Z k->k<W.heap.size/\¬ X k)->eQ.R (fun k=>S0 k/\¬ Z k/\¬ X k) W v q->qk M q->j<=1000->Calls P xs ([v].toArray++caps) W fun e W'=>∃ v',e=.returned v'/\Chg X W W'/\D Z (j+1) (d*qval q) W'
abbrev pInts (p:List Nat):List Int:=p.map fun (k:Nat)=>(k:Int)
theorem AM6:Ent Tryz.prog 231:=A0 Tryz.func231 (by kernel_rfl) rfl
theorem AJ2 {S X:Nat->Prop} {w:World} {gb n cap C cols L M:Nat} {f:RM} {xe xs:FuncId} {cape caps:Array Value} {D:(Nat->Prop)->Nat->Rat->World->Prop}
  (up:Up S w) (hF:FB eV 26 S w gb (tabM n C f)) (hcap:n<=cap) (hcols:cols<=C) (hn:n<=1000) (hC:C<=1000) (hL:1<=L) (hsz:∀ i k,i<n->k<C->Rsz (f i k) L) (hM:bd L (min n cols)<=M) (hM2:M<=40000000)
  (hSg:S gb) (hX:∀ k,X k->k<w.heap.size/\k≠gb/\¬ S k) (ev:Evs Tryz.prog xe xs cape caps M S X D) (hD:D (fun k=>k=gb) 0 1 w) :
  Calls Tryz.prog 231 #[.slice (some ⟨gb,0,none⟩) n cap,.int .i64 cols,.agg #[.func (.func xe) #[] cape,.func (.func xs) #[] caps]] w fun e W=>∃ v,e=.returned v/\Chg (fun k=>k=gb\/X k) w W /\
   eI.R (fun k=>w.heap.size<=k) W v (pInts (elim n f cols).2)/\FB eV 26 S W gb (tabM n C (elim n f cols).1)/\D (fun k=>k=gb) (elim n f cols).2.length (elimD n f cols) W:=by
 have hgb:=hF.lt
 refine enterG Tryz.func231 O Tryz.ntmps231 O ?_
 refine .sr (.box O O fun w1 b5 n1=>.an O O (.sr (.an O O ?_)))
 obtain ⟨e1,k5,hb5,hs1⟩:=n1
 replace k5:Blk w1 b5 228 #[.func (.func xe) #[] cape,.func (.func xs) #[] caps]:=k5
 generalize hfe:Value.func (.func xe) #[] cape=fe at k5
 generalize hfs:Value.func (.func xs) #[] caps=fs at k5
 generalize hY:(fun k=>k=gb\/X k)=Y
 have hYi:∀ k,(k=gb\/X k)->Y k:=fun k h=>by rw [<-hY];exact h
 have hYo:∀ k,Y k->(k=gb\/X k):=fun k h=>by rw [<-hY] at h;exact h
 have hYw:∀ k,Y k->k<w.heap.size:=fun k hk=>by
  rcases hYo k hk with rfl | hk
  ·exact hgb
  ·exact (hX k hk).1
 have hb5X:¬ Y b5:=fun h=>by have:=hYw _ h;omega
 have hXg:¬ X gb:=fun h=>(hX _ h).2.1 rfl
 have hSX:∀ k,S k->¬ X k:=fun k hk hx=>(hX k hx).2.2 hk
 refine .mid (α:=Value) (fun vp=>[(7,vp)]) (fun vp W=>Chg Y w W/\OwnL (eInt .i64) 3 w.heap.size S W vp (pInts (elim n f cols).2)/\FB eV 26 (fun k=>S k/\vp.ownBlock≠some k) W gb (tabM n C (elim n f cols).1)/\D (tak gb vp) (elim n f cols).2.length (elimD n f cols) W) ?_ ?_
 rotate_left
 ·rintro vp W ⟨hc,ho,hf,hd⟩
  refine .sr (.mv O O (.an O O (.ret ?_)))
  refine .plain [_] Tryz.results231 ⟨rfl,trivial⟩ ⟨hc,?_,hf.mono (fun k _ h=>h.1),ev.mono hd fun k _ h=>.inl h⟩
  obtain ⟨es,h1,h2⟩:=ho
  exact RL.ofOwn h1 O ⟨h2.1,fun i e x he hx=>h2.2 i e x he hx⟩ (fun k hk=>hk)
 refine .sr (.mv O O (.mv O O (.nil ?_)))
 refine .block (.loop (α:=Nat×Value) (fun y=>[(0,.slice (some ⟨gb,0,none⟩) n cap),(5,.pointer (some ⟨b5,0,none⟩)),(7,y.2),(16,.int .i64 (cols:Nat)),(17,.int .i64 (y.1:Nat))])
  (fun y W=>Chg Y w W/\y.1<=cols/\Blk W b5 228 #[fe,fs]/\OwnL (eInt .i64) 3 w.heap.size S W y.2 (pInts (elim n f y.1).2)/\FB eV 26 (fun k=>S k/\y.2.ownBlock≠some k) W gb (tabM n C (elim n f y.1).1)/\D (tak gb y.2) (elim n f y.1).2.length (elimD n f y.1) W)
  (fun y=>cols-y.1) (0,.slice none 0 0) ?_ ?_ ?_)
 ·exact lkA rfl
 ·refine ⟨Chg.ext e1,Nat.zero_le _,k5,OwnL.nil,(hF.ext e1).mono fun k _ h=>⟨h,by simp [Value.ownBlock]⟩,ev.chg (ev.mono hD fun k _ h=>?_) (Chg.ext e1)⟩
  rcases h with h | h
  ·exact h
  ·simp [Value.ownBlock] at h
 rintro ⟨c,vp⟩ W ⟨hc,hcc,k5,ho,hf,hd⟩
 replace hcc:c<=cols:=hcc
 replace ho:OwnL (eInt .i64) 3 w.heap.size S W vp (pInts (elim n f c).2):=ho
 replace hf:FB eV 26 (fun k=>S k/\vp.ownBlock≠some k) W gb (tabM n C (elim n f c).1):=hf
 replace hd:D (tak gb vp) (elim n f c).2.length (elimD n f c) W:=hd
 refine .weak [(0,.slice (some ⟨gb,0,none⟩) n cap),(5,.pointer (some ⟨b5,0,none⟩)),(7,vp),(16,.int .i64 (cols:Nat)),(17,.int .i64 (c:Nat))] (fun t v h=>h) ?_
 have hszW:=hc.size
 have hech:=R8 n f c
 have hql:=hech.len
 have hcC:c<=C:=by omega
 have hsg:=AL9 hL hsz c hcC
 have hnext:elim n f (c+1)=estep n c (elim n f c):=rfl
 have hnextD:elimD n f (c+1)=estepD n c (elim n f c) (elimD n f c):=rfl
 have hBM:bd L (elim n f c).2.length<=M:=Nat.le_trans (AA7 L (by have:=hech.len_c;omega)) hM
 have hBp:=BN1 hL (elim n f c).2.length
 obtain ⟨ao,co,hvo⟩:=ho.slice
 have hplen:(pInts (elim n f c).2).length=(elim n f c).2.length:=by simp
 rw [hplen] at hvo
 have hown:∀ k,vp.ownBlock=some k->w.heap.size<=k/\k<W.heap.size:=by
  obtain ⟨es,h1,_⟩:=ho
  exact fun k hk=>h1.lt k hk
 rcases Nat.lt_or_ge c cols with hlt | hge
 rotate_left
 ·refine .sr (.lssF O O O (by omega) (.nil (.seq (.condF O (.exit ?_)))))
  have:c=cols:=by omega
  subst this
  exact ⟨rfl,vp,lkA rfl,hc,ho,hf,hd⟩
 have hcC:c<C:=by omega
 refine .sr (.lssT O O O (by omega) (.nil (.seq (.condT O (.skip (.seq (.block (.sr (.mv O O (.an O O ?_))))))))))
 generalize hq:(elim n f c).2.length=q at *
 generalize hg:(elim n f c).1=g at *
 have hoR:eI.R (fun _=>True) W vp (pInts (elim n f c).2):=by
  obtain ⟨es,h1,h2⟩:=ho
  exact RL.ofOwn h1 O ⟨h2.1,fun i e x he hx=>h2.2 i e x he hx⟩ (fun k hk=>trivial)
 refine .sr (.mv O O (.lenR un_I O O hoR ?_))
 rw [hplen]
 refine .an O O (.seq (.sr (.mv O O (.mv O O (.len un_M O O ?_)))))
 by_cases hqn:q=n
 ·refine .eqlT O O O (by omega) (.nil (.condT O (.exit ?_)))
  obtain ⟨h1,h2⟩:=Ad4 (n:=n) (f:=f) (c:=c) (by omega) (cols-c)
  rw [show c+(cols-c)=cols by omega] at h1 h2
  rw [h1,h2,hq,hg]
  exact ⟨rfl,_,lkA rfl,hc,ho,hf,hd⟩
 refine .eqlF O O O (by omega) (.nil (.condF O (.skip (.sr (.mv O O (.mv O O (.mv O O ?_)))))))
 have hM0:eM.R S w (.slice (some ⟨gb,0,none⟩) n cap) (tabM n C g)->True:=fun _=>trivial
 have hMW:eM.R S W (.slice (some ⟨gb,0,none⟩) n cap) (tabM n C g):=by
  have:=(hf.mono (S':=S) fun k _ h=>h.1).toR (c:=cap) (hsz:=by decide) hSg (by rw [B3];exact hcap) (by rw [B3];omega)
  rwa [B3] at this
 refine .call _ O AQ6 O (AO6 hMW hql hcC (by omega)) fun v2 W2 e2 h2=>?_
 subst h2
 have hc2:=hc.trans (Chg.ext e2)
 have k5:=k5.ext e2
 have ho:=ho.ext e2
 have hf:=hf.ext e2
 have hd:=ev.chg hd (Chg.ext e2)
 have hszW2:=e2.size
 have hstep:elim n f (c+1)=match pivRow g c (n-q) q with
  | none=>elim n f c
  | some r=>(clr (swp g r q) q c,(elim n f c).2++[c]):=by rw [hnext];unfold estep;rw [hq,hg]<;>rfl
 have hstepD:elimD n f (c+1)=match pivRow g c (n-q) q with
  | none=>elimD n f c
  | some r=>(if r=q then elimD n f c else -elimD n f c)*g r c:=by rw [hnextD];unfold estepD;rw [hq,hg]<;>rfl
 cases hp:pivRow g c (n-q) q with
 | none =>
  rw [hp] at hstep hstepD
  refine .mv O O (.ext O O O (.ext O O O (.asg O O (.an O O (.seq (.sr (.mv O O (.not_ O O (.nil (.condT O (.exit ?_)))))))))))
  refine .region (.add O O O (.mv O O (.nil ?_)))
  rw [wI (by omega)]
  refine ⟨rfl,(c+1,vp),lkA rfl,⟨hc2,hlt,k5,?_,?_,?_⟩,by show cols-(c+1)<cols-c;omega⟩
  ·rw [hstep];exact ho
  ·rw [hstep,hg];exact hf
  ·rw [hstep,hstepD,hq];exact hd
 | some r =>
 rw [hp] at hstep hstepD
 obtain ⟨hr1,hr2,hr3,_⟩:=J3 hp
 have hrn:r<n:=by omega
 have hqlt:q<n:=by omega
 refine .mv O O (.ext O O O (.ext O O O (.asg O O (.an O O (.seq (.sr (.mv O O (.not_ O O (.nil (.condF O (.skip ?_)))))))))))
 have upT:∀ {W':World},W2.heap.size<=W'.heap.size->Up (fun k=>(S k/\vp.ownBlock≠some k)/\k≠gb) W':=fun hs k hk=>⟨⟨up k (by omega),fun h=>by have:=(hown k h).2;omega⟩,by omega⟩
 have hTZ:∀ k,((S k/\vp.ownBlock≠some k)/\k≠gb)->S k/\¬ tak gb vp k/\¬ X k:=fun k hk=>⟨hk.1.1,fun h=>by rcases h with h | h;exact hk.2 h;exact hk.1.2 h,hSX k hk.1.1⟩
 have hZ:∀ {W':World},W2.heap.size<=W'.heap.size->∀ k,tak gb vp k->k<W'.heap.size/\¬ X k:=fun hs k hk=>by
  rcases hk with rfl | hk
  ·exact ⟨by omega,hXg⟩
  ·exact ⟨by have:=(hown k hk).2;omega,fun h=>by have:=(hX k h).1;have:=(hown k hk).1;omega⟩
 have hfX:∀ k,(S k/\vp.ownBlock≠some k)->¬ X k:=fun k hk=>hSX k hk.1
 have hXY:∀ {A B:World},Chg X A B->Chg Y A B:=fun h=>h.mono fun k _ hk=>hYi k (.inr hk)
 have hUY:∀ {A B:World},Upd A B gb->Chg Y A B:=fun h=>Chg.upd h (hYi _ (.inl O))
 have hUZ:∀ {A B:World},Upd A B gb->Chg (tak gb vp) A B:=fun h=>Chg.upd h (.inl O)
 refine .mid (α:=Unit) (fun _=>[(0,.slice (some ⟨gb,0,none⟩) n cap),(5,.pointer (some ⟨b5,0,none⟩)),(7,vp),(8,.int .i64 (c:Nat)),(9,.int .i64 (q:Nat)),(16,.int .i64 (cols:Nat)),(17,.int .i64 (c:Nat))])
  (fun _ W3=>Chg Y W2 W3/\FB eV 26 (fun k=>S k/\vp.ownBlock≠some k) W3 gb (tabM n C (swp g r q))/\D (tak gb vp) q (if r=q then elimD n f c else -elimD n f c) W3) ?_ ?_
 ·refine .sr (.mv O O (.mv O O ?_))
  by_cases hrq:r=q
  ·refine .neqF O O O (by omega) (.nil (.condF O (.skip ?_)))
   refine ⟨rfl,(),lkA rfl,Chg.refl _,?_,?_⟩
   ·have:tabM n C (swp g r q)=tabM n C g:=C0 fun i k _ _=>by
     unfold swp
     by_cases ei:i=q
     ·simp [hrq,ei]
     ·simp [hrq,ei]
    rw [this];exact hf
   ·rw [if_pos hrq];exact hd
  ·refine .neqT O O O (by omega) (.nil (.condT O (.seq ?_)))
   refine .heldT follows true (fun _=>True) [some _,some (.int .i64 (r:Nat)),some _,some (.int .i64 (q:Nat)),some _,some (.int .i64 (q:Nat)),some (.pointer (some ⟨gb,0+q*1,none⟩)),none,some _,some (.int .i64 (r:Nat)),some (.pointer (some ⟨gb,0+r*1,none⟩)),none,some (.pointer (some ⟨gb,0+r*1,none⟩)),none,some (.pointer (some ⟨gb,0+q*1,none⟩)),none]
    (.two 7 (.one 11 (.one 13 (.one 15 .done))) 11 (.one 7 (.one 13 (.one 15 .done)))) (by kernel_rfl) (by kernel_rfl)
    ⟨fun _ _=>v_mv rfl,fun _ _=>v_mv rfl,fun _ _=>v_mv rfl,fun _ _=>v_mv rfl,fun _ _=>v_mv rfl,fun _ _=>v_mv rfl,fun _ _=>I1 (i:=q) un_M ty_V O O hqlt,fun _ _=>v_mv rfl,fun _ _=>v_mv rfl,fun _ _=>I1 (i:=r) un_M ty_V O O hrn,fun _ _=>I1 (i:=r) un_M ty_V O O hrn,fun _ _=>I1 (i:=q) un_M ty_V O O hqlt,trivial⟩ ?_
   intro W3 e3 _
   obtain ⟨x7,h7,p7⟩:=(hf.ext e3).at_ (by decide) (G3 hqlt)
   obtain ⟨x11,h11,p11⟩:=(hf.ext e3).at_ (by decide) (G3 hrn)
   have q7:PtrX W3 ⟨gb,0+q*1,none⟩ x7:=by rw [Nat.zero_add];exact p7
   have q11:PtrX W3 ⟨gb,0+r*1,none⟩ x11:=by rw [Nat.zero_add];exact p11
   refine .gv2 (.gv O trivial O (AB2 (E:=eV) ty_V O q7 h7).gv ?_) (.gv O trivial O (AB2 (E:=eV) ty_V O q11 h11).gv ?_)
   all_goals
    rintro _ _ ⟨rfl,rfl⟩
    refine .gv O trivial O (by first | exact (AB2 (E:=eV) ty_V O q11 h11).gv | exact (AB2 (E:=eV) ty_V O q7 h7).gv) ?_
    rintro _ _ ⟨rfl,rfl⟩
    refine .gv O trivial O (AD1 (E:=eV) (i:=r) (by decide) ty_V O O (hf.ext e3) O (by rw [B3];exact hrn) (Nat.zero_add _) h7) ?_
    rintro _ W4 ⟨f4,u4⟩
    refine .gv O trivial O (AD1 (E:=eV) (i:=q) (by decide) ty_V O O f4 O (by rw [List.length_set,B3];exact hqlt) (Nat.zero_add _) (ER.upd eV h11 u4 (fun h=>h.2 O))) ?_
    rintro _ W5 ⟨f5,u5⟩
    refine .nil (.inl O) ?_
    rw [X9 hrn,X9 hqlt] at f5
    have e5:tabM n C (fun j k=>if j=q then g r k else if j=r then g q k else g j k)=tabM n C (swp g r q):=C0 fun i k _ _=>by
     unfold swp
     by_cases e1:i=q
     ·subst e1;rw [if_pos rfl,if_neg (fun h=>hrq h.symm),if_pos rfl]
     ·by_cases e2:i=r
      ·rw [if_neg e1,if_pos e2,if_pos e2]
      ·rw [if_neg e1,if_neg e2,if_neg e2,if_neg e1]
    rw [e5] at f5
    have c25:Chg Y W2 W5:=((Chg.ext e3).trans (hUY u4)).trans (hUY u5)
    have d5:=ev.chg hd (((Chg.ext e3).trans (hUZ u4)).trans (hUZ u5))
    have k55:=c25.blk k5 hb5X
    refine .region (.fa fld_EV0 O O (.ld ty_E0 O O k55 O ?_))
    refine .callvG [] O (show some fe=some (Value.func (.func xe) #[] cape) by rw [hfe]) ev.entE O (ev.exch d5 (hZ c25.size)) ?_
    rintro v6 W6 ⟨c6,d6⟩
    refine .nil ⟨rfl,(),lkA rfl,c25.trans (hXY c6),f5.chg c6 hXg hfX,?_⟩
    rw [if_neg hrq];exact d6
 rintro _ W3 ⟨c3,f3,d3⟩
 have k5:=c3.blk k5 hb5X
 have hs3:=c3.size
 generalize hdd:(if r=q then elimD n f c else -elimD n f c)=dd at *
 have hsq:swp g r q q c=g r c:=by
  unfold swp
  by_cases e:q=r
  ·simp [e]
  ·simp [e]
 have hss:=Av7 (a:=r) (b:=q) hrn hqlt hsg
 generalize hs:swp g r q=s at *
 have hs0:s q c≠0:=by rw [hsq];exact hr3
 have hqk:qk (bd L q) (qc (s q c)):=R0 (hss q c hqlt hcC)
 refine .seq ?_
 refine .par follows 9 [.inl _,.inl fs,.inl _,.inl (.int .i64 (q:Nat)),.inl _,.inr (eV.at (fun k=>(S k/\vp.ownBlock≠some k)/\k≠gb) (tab C (s q))),.inl (.int .i64 (c:Nat)),.inr (Ptr eQ (fun k=>(S k/\vp.ownBlock≠some k)/\k≠gb) (qc (s q c))),.inr (eQ.at (fun k=>(S k/\vp.ownBlock≠some k)/\k≠gb) (qc (s q c)))]
  [[],[(55,0)],[],[],[(57,2),(58,3)],[(59,4)],[],[(60,5),(61,6)],[(62,7)]] (by kernel_rfl) ⟨
  fun w e=>(v_fa fld_EV1 O).ob,fun w e=>(v_ld ty_E1 O (k5.ext e) O).ob,fun w e=>(v_mv O).ob,fun w e=>(v_mv O).ob,
  fun w e=>(I1 (i:=q) un_M ty_V O O hqlt).ob,
  fun w e=>AH6 (E:=eV) (i:=q) (by decide) ty_V O (Nat.zero_add _) (f3.ext e) (G3 hqlt),
  fun w e=>(v_mv O).ob,
  fun w e x hx=>D5 (i:=c) un_V ty_Q O hx O (J7 hcC),
  fun w e p hp=>U9 ty_Q O hp,trivial⟩ ?_
 intro W4 e4 x5 _ x7 _ x8 h8
 refine .callvG [x8] O (show some fs=some (Value.func (.func xs) #[] caps) by rw [hfs]) ev.entS O (ev.scal (ev.chg d3 (Chg.ext e4)) (hZ (by have:=e4.size;omega)) (eQ.mono (fun k _ hk=>hTZ k hk) h8) (hqk.mono hBM) (by omega)) ?_
 rintro v5 W5 ⟨c5,d5⟩
 refine .nil ?_
 rw [B9] at d5
 have c35:Chg Y W3 W5:=(Chg.ext e4).trans (hXY c5)
 have k5:=c35.blk k5 hb5X
 have f5:=(f3.ext e4).chg c5 hXg hfX
 have hs5:=c35.size
 have up5:=upT (show W2.heap.size<=W5.heap.size by omega)
 refine .seq ?_
 refine .parL follows 13 [11] [.inr (eQ.at (fun k=>(S k/\vp.ownBlock≠some k)/\k≠gb) (qc ((1:Int):Rat))),.inl _,.inl (.int .i64 (q:Nat)),.inl _,.inr (eV.at (fun k=>(S k/\vp.ownBlock≠some k)/\k≠gb) (tab C (s q))),.inl (.int .i64 (c:Nat)),.inr (Ptr eQ (fun k=>(S k/\vp.ownBlock≠some k)/\k≠gb) (qc (s q c))),.inr (eQ.at (fun k=>(S k/\vp.ownBlock≠some k)/\k≠gb) (qc (s q c))),
   .inr (Two (eQ.at (fun k=>(S k/\vp.ownBlock≠some k)/\k≠gb) (qc (s q c)⁻¹)) (Is (.int .i64 0))),.inr (Two (eQ.at (fun k=>(S k/\vp.ownBlock≠some k)/\k≠gb) (qc (s q c)⁻¹)) (Is (.int .i64 0))),.inr (eQ.at (fun k=>(S k/\vp.ownBlock≠some k)/\k≠gb) (qc (s q c)⁻¹)),.inl (.int .i64 0),.inr (NewP W5.heap.size 39 zq.cells)]
  [[],[],[],[(67,1),(68,2)],[(69,3)],[],[(70,4),(71,5)],[(72,6)],[(66,0),(73,7)],[(74,8)],[(65,9)],[(65,9)],[]] (by kernel_rfl) ⟨
  fun w e=>(A5 _ G1 O (G0 (up5.ext e.size) (by decide) (by decide))).ob (A9 _ _ _),
  fun w e=>(v_mv O).ob,fun w e=>(v_mv O).ob,
  fun w e=>(I1 (i:=q) un_M ty_V O O hqlt).ob,
  fun w e=>AH6 (E:=eV) (i:=q) (by decide) ty_V O (Nat.zero_add _) (f5.ext e) (G3 hqlt),
  fun w e=>(v_mv O).ob,
  fun w e x hx=>D5 (i:=c) un_V ty_Q O hx O (J7 hcC),
  fun w e p hp=>U9 ty_Q O hp,
  fun w e x hx y hy=>by
   have h1:qok (bd L q) (qc ((1:Int):Rat)):=(Rsz.int 1 (Nat.lt_of_lt_of_le (by decide) (Nat.pow_le_pow_right (by decide) hBp)) hBp).toOk
   have:=As6 (up5.ext e.size) hx hy h1 hqk.1 hBp (by omega) (by rw [B9];exact hs0)
   rw [B9,B9,show ((1:Int):Rat) / s q c=(s q c)⁻¹ by rw [Rat.div_def];simp] at this
   exact (A5 _ AZ9 O this).ob (Z4 (A9 _ _ _) (AR1 _)),
  fun w e x hx=>ob_mv O hx (Z4 (A9 _ _ _) (AR1 _)),
  fun w e x hx=>by
   obtain ⟨a,b,rfl,h1,rfl⟩:=hx
   exact L7 (v_ex O O) h1 (A9 _ _ _),
  fun w e x hx=>by
   obtain ⟨a,b,rfl,h1,rfl⟩:=hx
   exact (v_ex O O).ob,
  fun w e=>R4 D3 e.size,trivial⟩ ?_
 intro W6 e6 x0 _ x4 _ x6 _ x7' _ x8' _ x9 _ x10 h10 x12 hx12
 obtain ⟨b12,rfl,hb12,k12⟩:=hx12
 have h10s:=Ag9 h10 k12 AE0
 refine .storeA (E:=eQ) ty_Q O O k12 O O h10s (fun h=>h.2 O) fun W7 k12 u7 h7=>.an O O ?_
 have x57:Ext W5 W7:=u7.below e6 hb12
 have h7:eQ.R (fun k=>(S k/\vp.ownBlock≠some k)/\k≠gb) W7 x10 (qc (s q c)⁻¹):=eQ.mono (fun k _ h=>h.1) h7
 have hx10:=shpA O h7
 have k5:=k5.ext x57
 have f7:=f5.ext x57
 have d7:=ev.chg d5 (Chg.ext x57)
 have up7:=up5.ext x57.size
 have c37:Chg Y W3 W7:=c35.trans (Chg.ext x57)
 have hki:qk (bd L q) (qc (s q c)⁻¹):=R0 ((hss q c hqlt hcC).inv hBp)
 have hkr:∀ i,i<n->vk (bd L q) (tab C (s i)):=fun i hi=>U7 fun k hk=>hss i k hi hk
 refine .seq ?_
 refine .par follows 8 [.inl _,.inl (.int .i64 (q:Nat)),.inl x10,.inl _,.inl (.int .i64 (q:Nat)),.inl _,.inr (eV.at (fun k=>(S k/\vp.ownBlock≠some k)/\k≠gb) (tab C (s q))),.inr (eV.at (fun k=>(S k/\vp.ownBlock≠some k)/\k≠gb) (tab C fun k=>(s q c)⁻¹*s q k))]
  [[],[],[],[],[],[(80,3),(81,4)],[(82,5)],[(79,2),(83,6)]] (by kernel_rfl) ⟨
  fun w e=>(v_mv O).ob,fun w e=>(v_mv O).ob,fun w e=>((C7 ty_Q O (k12.ext e) (eQ.csz h7)).eq hx10.symm).ob,fun w e=>(v_mv O).ob,fun w e=>(v_mv O).ob,
  fun w e=>(I1 (i:=q) un_M ty_V O O hqlt).ob,
  fun w e=>AH6 (E:=eV) (i:=q) (by decide) ty_V O (Nat.zero_add _) (f7.ext e) (G3 hqlt),
  fun w e x hx=>by
   have:=Aj9 (up7.ext e.size) (ER.ext eQ h7 e) hx hki (hkr q hqlt) hBp (by omega) (by rw [A2];omega)
   rw [A2,B9,F5 (g:=fun k=>(s q c)⁻¹*s q k) (fun k hk=>by rw [O5,if_pos hk])] at this
   exact (A5 _ Ap2 O this).ob (A9 _ _ _),trivial⟩ ?_
 intro W8 e8 x6b _ x7b h7b
 refine .ixB (i:=q) un_M ty_V O O O hqlt ?_
 refine .storeF (E:=eV) (i:=q) (by decide) ty_V O O (f7.ext e8) O (by rw [B3];exact hqlt) (Nat.zero_add _) h7b fun W9 f9 u9=>.nil ?_
 rw [X9 hqlt] at f9
 have f9':FB eV 26 (fun k=>S k/\vp.ownBlock≠some k) W9 gb (tabM n C (clrTo s q c 0)):=by rw [At4];exact f9
 clear f9
 have c39:Chg Y W3 W9:=(c37.trans (Chg.ext e8)).trans (hUY u9)
 have k9:=(Chg.trans (Chg.ext e8) (hUY u9)).blk k5 hb5X
 have d9:=ev.chg d7 (Chg.trans (Chg.ext e8) (hUZ u9))
 have hs39:=c39.size
 have hur:vk (bd L q+bd L q) (tab C fun k=>(s q c)⁻¹*s q k):=U7 fun k hk=>((hss q c hqlt hcC).inv hBp).mul (hss q k hqlt hk)
 refine .mid (α:=Unit) (fun _=>[(0,.slice (some ⟨gb,0,none⟩) n cap),(5,.pointer (some ⟨b5,0,none⟩)),(7,vp),(8,.int .i64 (c:Nat)),(16,.int .i64 (cols:Nat)),(17,.int .i64 (c:Nat))])
  (fun _ Wx=>Chg Y W3 Wx/\Blk Wx b5 228 #[fe,fs]/\FB eV 26 (fun k=>S k/\vp.ownBlock≠some k) Wx gb (tabM n C (clr s q c))/\D (tak gb vp) (q+1) (dd*s q c) Wx) ?_ ?_
 ·refine .sr (.mv O O (.len un_M O O (.mv O O (.nil ?_))))
  refine .block (.loop (α:=Nat) (fun i=>[(0,.slice (some ⟨gb,0,none⟩) n cap),(5,.pointer (some ⟨b5,0,none⟩)),(7,vp),(8,.int .i64 (c:Nat)),(9,.int .i64 (q:Nat)),(16,.int .i64 (cols:Nat)),(17,.int .i64 (c:Nat)),(86,.slice (some ⟨gb,0,none⟩) n cap),(87,.int .i64 (n:Nat)),(88,.int .i64 (i:Nat))])
   (fun i Wx=>Chg Y W3 Wx/\i<=n/\Blk Wx b5 228 #[fe,fs]/\FB eV 26 (fun k=>S k/\vp.ownBlock≠some k) Wx gb (tabM n C (clrTo s q c i))/\D (tak gb vp) (q+1) (dd*s q c) Wx) (fun i=>n-i) 0 ?_ ?_ ?_)
  ·exact lkA rfl
  ·exact ⟨c39,Nat.zero_le _,k9,f9',d9⟩
  ·rintro i Wa ⟨ca,hi,ka,fa,da⟩
   have hsa:=ca.size
   have upa:=upT (show W2.heap.size<=Wa.heap.size by omega)
   rcases Nat.lt_or_ge i n with hin | hin
   rotate_left
   ·refine .sr (.lssF O O O (by omega) (.nil (.seq (.condF O (.exit ?_)))))
    have:i=n:=by omega
    subst this
    rw [BD7] at fa
    exact ⟨rfl,(),lkA rfl,ca,ka,fa,da⟩
   refine .sr (.lssT O O O (by omega) (.nil (.seq (.condT O (.skip (.seq (.block (.sr (.mv O O ?_)))))))))
   refine .ixB (i:=i) un_M ty_V O O O hin (.ldF (E:=eV) (i:=i) (by decide) ty_V O O (Nat.zero_add _) fa (G3 hin) fun er her=>.asg O O (.an O O ?_))
   have hback:∀ {Wb:World} {σ:Env},Chg Y W3 Wb->Blk Wb b5 228 #[fe,fs]->FB eV 26 (fun k=>S k/\vp.ownBlock≠some k) Wb gb (tabM n C (clrTo s q c (i+1)))->D (tak gb vp) (q+1) (dd*s q c) Wb ->
     Chg Y W3 Wb/\i+1<=n/\Blk Wb b5 228 #[fe,fs]/\FB eV 26 (fun k=>S k/\vp.ownBlock≠some k) Wb gb (tabM n C (clrTo s q c (i+1)))/\D (tak gb vp) (q+1) (dd*s q c) Wb:=fun h1 h2 h3 h4=>⟨h1,hin,h2,h3,h4⟩
   by_cases hiq:i=q
   ·refine .sr (.mv O O (.mv O O (.neqF O O O (by omega) (.mv O O (.gs O O O O O (.gs O O O O O (.gs O O O O O (.gs O O O O O (.gs O O O O O (.gs O O O O O (.pick O O O (.nil (.condF O (.skip ?_))))))))))))))
    refine .region (.add O O O (.mv O O (.nil ?_)))
    rw [wI (by omega)]
    refine ⟨rfl,i+1,lkA rfl,⟨ca,hin,ka,?_,da⟩,by show n-(i+1)<n-i;omega⟩
    have:tabM n C (clrTo s q c (i+1))=tabM n C (clrTo s q c i):=C0 fun j k _ _=>by
     rw [AI1]
     by_cases ej:j=i
     ·simp only [ej,hiq,if_true];unfold clrTo;simp
     ·simp only [ej,if_false]
    rw [this];exact fa
   ·have hrow:∀ k,clrTo s q c i i k=s i k:=fun k=>by unfold clrTo;rw [if_neg hiq,if_neg (by omega)]
    have hrowt:tab C (clrTo s q c i i)=tab C (s i):=F5 fun k _=>hrow k
    rw [hrowt] at her
    refine .sr (.mv O O (.mv O O (.neqT O O O (by omega) (.mv O O (.gr O O O O (.mv O O (.gr O O O O (.mv O O (.gr O O O O ?_)))))))))
    refine .ixN (i:=c) un_V ty_Q O O her O (J7 hcC) fun p hp=>.gr O O O O (.ldE ty_Q O O hp fun ex hex=>.gr O O O O ?_)
    refine .call _ O M1 O (L9 hex) fun vs Wb eb hvs=>.gr O O O O ?_
    subst hvs
    rw [B9]
    have kb:=ka.ext eb
    have fb:=fa.ext eb
    have db:=ev.chg da (Chg.ext eb)
    have cb:=ca.trans (Chg.ext eb)
    have upb:=upa.ext eb.size
    have herb:=ER.ext eV her eb
    by_cases hz:s i c=0
    ·refine .neqF O O O (AE4.2 hz) (.pick O O O (.nil (.condF O (.skip ?_))))
     refine .region (.add O O O (.mv O O (.nil ?_)))
     rw [wI (by omega)]
     refine ⟨rfl,i+1,lkA rfl,⟨cb,hin,kb,?_,db⟩,by show n-(i+1)<n-i;omega⟩
     have:tabM n C (clrTo s q c (i+1))=tabM n C (clrTo s q c i):=C0 fun j k _ _=>by
      rw [AI1]
      by_cases ej:j=i
      ·simp only [ej,hiq,if_true,if_false];rw [hrow,hz];grind
      ·simp only [ej,if_false]
     rw [this];exact fb
    ·refine .neqT O O O (fun h=>hz (AE4.1 h)) (.pick O O O (.nil (.condT O ?_)))
     have hrq:tab C (clrTo s q c i q)=tab C fun k=>(s q c)⁻¹*s q k:=F5 fun k _=>by unfold clrTo;rw [if_pos rfl]
     refine .par follows 13 [.inl _,.inl (.int .i64 (i:Nat)),.inl er,.inl (.int .i64 (c:Nat)),.inr (Ptr eQ (fun k=>(S k/\vp.ownBlock≠some k)/\k≠gb) (qc (s i c))),.inr (eQ.at (fun k=>(S k/\vp.ownBlock≠some k)/\k≠gb) (qc (s i c))),.inr (eQ.at (fun k=>(S k/\vp.ownBlock≠some k)/\k≠gb) (qc (-(s i c)))),
       .inl _,.inl (.int .i64 (q:Nat)),.inl _,.inr (eV.at (fun k=>(S k/\vp.ownBlock≠some k)/\k≠gb) (tab C fun k=>(s q c)⁻¹*s q k)),.inl er,.inr (eV.at (fun k=>(S k/\vp.ownBlock≠some k)/\k≠gb) (tab C fun k => -(s i c)*((s q c)⁻¹*s q k)+s i k))]
      [[],[],[],[],[(106,2),(107,3)],[(108,4)],[(109,5)],[],[],[(111,7),(112,8)],[(113,9)],[],[(110,6),(114,10),(115,11)]] (by kernel_rfl) ⟨
      fun w e=>(v_mv O).ob,fun w e=>(v_mv O).ob,fun w e=>(v_mv O).ob,fun w e=>(v_mv O).ob,
      fun w e=>D5 (i:=c) un_V ty_Q O (ER.ext eV herb e) O (J7 hcC),
      fun w e p hp=>U9 ty_Q O hp,
      fun w e x hx=>by
       have:=AI0 (L:=bd L q) (upb.ext e.size) hx (R0 (hss i c hin hcC)) hBp (by omega)
       rw [B9] at this
       exact (A5 _ AI5 O this).ob (A9 _ _ _),
      fun w e=>(v_mv O).ob,fun w e=>(v_mv O).ob,
      fun w e=>(I1 (i:=q) un_M ty_V O O hqlt).ob,
      fun w e=>hrq▸AH6 (E:=eV) (i:=q) (by decide) ty_V O (Nat.zero_add _) (fb.ext e) (G3 hqlt),
      fun w e=>(v_mv O).ob,
      fun w e x hx y hy=>by
       have:=AT2 (L:=bd L q+bd L q) (upb.ext e.size) hx hy (ER.ext eV herb e) (by rw [A2];omega) (by rw [A2];omega) (R0 ((hss i c hin hcC).neg.mono (by omega))) hur ((hkr i hin).mono (by omega)) (by omega) (by omega)
       rw [A2,A2,Nat.max_self,B9,F5 (g:=fun k => -(s i c)*((s q c)⁻¹*s q k)+s i k) (fun k hk=>by rw [O5,O5,if_pos hk,if_pos hk])] at this
       exact (A5 _ AT9 O this).ob (A9 _ _ _),trivial⟩ ?_
     intro Wd ed y4 _ y5 _ y6 _ y10 _ y12 hy12
     refine .ixB (i:=i) un_M ty_V O O O hin ?_
     refine .storeF (E:=eV) (i:=i) (by decide) ty_V O O (fb.ext ed) O (by rw [B3];exact hin) (Nat.zero_add _) hy12 fun We fe' ue=>.nil ?_
     rw [X9 hin] at fe'
     refine .region (.add O O O (.mv O O (.nil ?_)))
     rw [wI (by omega)]
     refine ⟨rfl,i+1,lkA rfl,⟨(cb.trans (Chg.ext ed)).trans (hUY ue),hin,(Chg.trans (Chg.ext ed) (hUY ue)).blk kb hb5X,?_,ev.chg db (Chg.trans (Chg.ext ed) (hUZ ue))⟩,by show n-(i+1)<n-i;omega⟩
     rw [AI1]
     simp only [hiq,if_false]
     exact fe'
 rintro _ Wx ⟨cx,kx,fx,dx⟩
 have hsx:=cx.size
 have hox:OwnL (eInt .i64) 3 w.heap.size S Wx vp (pInts (elim n f c).2):=ho.chgI (c3.trans cx) hYw
 have c2x:Chg Y w Wx:=hc2.trans (c3.trans cx)
 refine .region (.mv O O (.mv O O (.bsl [(0,.int .i64 (c:Nat))] O O AI2 fun Wy by_ ny=>?_)))
 obtain ⟨ey,ky,hby,hsy⟩:=ny
 have hlen:(pInts (elim n f c).2).length<=1000000000:=by rw [hplen];omega
 have hint:(eInt .i64).R (fun k=>S k/\vp.ownBlock≠some k) Wy (.int .i64 (c:Nat)) (c:Int):=⟨rfl,Int.le_trans (by decide:IntKind.min .i64<=0) (by omega),Int.le_trans (by omega:(c:Int)<=1000) (by decide)⟩
 refine .gv O O (AK9 (E:=eInt .i64) (base:=w.heap.size) (n:=(c:Int)) (e:=.int .i64 (c:Nat)) (by decide) un_I Z7 O O O (hox.ext ey) ky hint hlen (by decide) (by have:=ey.size;omega)) ?_
 rintro vq Wz ⟨hoz,hgz,hwz⟩
 refine .an O O (.region (.add O O O (.mv O O (.nil ?_))))
 rw [wI (by omega)]
 have hpg:vp.ownBlock≠some gb:=fun h=>by have:=(hown gb h).1;omega
 have hcz:Chg Y w Wz:=(c2x.trans (Chg.ext ey)).step (Chg.grown hgz) fun k hk h=>by have:=(hown k h).1;omega
 refine ⟨rfl,(c+1,vq),lkA rfl,⟨hcz,hlt,?_,?_,?_,?_⟩,by show cols-(c+1)<cols-c;omega⟩
 ·exact (hox.ext ey).gblk hgz (kx.ext ey) (by decide)
 ·rw [hstep]
  show OwnL (eInt .i64) 3 w.heap.size S Wz vq (pInts ((elim n f c).2++[c]))
  rw [show pInts ((elim n f c).2++[c])=pInts (elim n f c).2++[(c:Int)] by simp]
  exact hoz
 ·rw [hstep]
  show FB eV 26 (fun k=>S k/\vq.ownBlock≠some k) Wz gb (tabM n C (clr (swp g r q) q c))
  rw [hs]
  exact (fx.ext ey).grow hgz hwz hpg
 ·have hz:D (fun k=>tak gb vp k\/tak gb vq k) (q+1) (dd*s q c) Wy:=ev.mono (ev.chg dx (Chg.ext ey)) fun k hk h=>by
   rcases h with h | h | h
   ·exact h
   ·exact .inl h
   ·rcases hwz with e | e
    ·rw [e] at h;exact .inr h
    ·rw [e] at h;cases h;omega
  have hz2:=ev.chg hz ((Chg.grown hgz).mono fun k _ h=>.inl (.inr h))
  have hz3:=ev.mono (Z':=tak gb vq) hz2 fun k _ h=>.inr h
  rw [hstep,hstepD]
  show D (tak gb vq) ((elim n f c).2++[c]).length _ Wz
  have e9:(if r=q then elimD n f c else -elimD n f c)*g r c=dd*s q c:=by rw [hdd,hsq]
  show D (tak gb vq) ((elim n f c).2++[c]).length ((if r=q then elimD n f c else -elimD n f c)*g r c) Wz
  rw [List.length_append,hq,e9]
  exact hz3
end Go.Proofs.YtpgkacdihhjknaaGreat
namespace Go.Kx
open Go Go.RowKit
def eF:ER FuncId where
 sz:=1
 isA:=true
 R:=fun _ _ v f=>v=.agg #[.func (.func f) #[] #[]]
 csz:=by rintro S w e x rfl;rfl
 one:=by rintro S w e x rfl u hu;simp [Value.cells] at hu;subst hu;rfl
 shp:=by rintro S w e x rfl;rfl
 keep:=fun _ h=>h
 mono:=fun _ h=>h
abbrev eFs:ER (List FuncId):=RL eF
def ck (i:Nat) (b:Int) (l:LnV):Bool:=match i with
 | 0=>decide (0<=l.f) && decide (l.f<b)
 | 1=>decide (0<=l.t) && decide (l.t<b)
 | 2 => !(l.f == l.t)
 | 3=>decide (1<=l.x) && decide (l.x<=1000)
 | _=>decide (0<=l.c) && decide (l.c<=1000000)
def ckAll (b:Int) (l:LnV):Prop:=∀ i,i<5->ck i b l=true
def chkOk (n:NtV):Prop:=∀ i,i<n.ls.length->∀ l,n.ls[i]?=some l->ckAll n.b l
def outsOk (n:NtV) (o:List Int):Prop:=∀ i,i<o.length->0<=o.getD i 0/\o.getD i 0<n.ls.length/\(0<i->o.getD (i-1) 0<o.getD i 0)
open Classical in
noncomputable def chkE (n:NtV):Int:=if n.b<1\/6<n.b then 1 else if 10<n.ls.length then 5 else if chkOk n then 0 else 1
open Classical in
noncomputable def outE (n:NtV) (o:List Int):Int:=if chkE n≠0 then chkE n else if outsOk n o then 0 else 1
end Go.Kx
namespace Go.Proofs.YtpgkacdihhjknaaGreat
open Go Go.Kx Go.RowKit
theorem ty_N:tyOf Tryz.prog 24=some (true,2):=by kernel_rfl
theorem Q8:tyOf Tryz.prog 53=some (true,4):=by kernel_rfl
theorem P2:tyOf Tryz.prog 22=some (false,1):=by kernel_rfl
theorem M4:Tryz.prog.underlying 22=some (.slice 53):=by kernel_rfl
theorem zero_Ln:zeroOf Tryz.prog 53=some (.agg #[.int .i64 0,.int .i64 0,.int .i64 0,.int .i64 0]):=by kernel_rfl
theorem J0:fldOf Tryz.prog 24 0=some 0:=by kernel_rfl
theorem J5:fldOf Tryz.prog 24 1=some 1:=by kernel_rfl
theorem AL6:fldOf Tryz.prog 53 0=some 0:=by kernel_rfl
theorem AL5:fldOf Tryz.prog 53 1=some 1:=by kernel_rfl
theorem AV0:fldOf Tryz.prog 53 2=some 2:=by kernel_rfl
theorem Z9:fldOf Tryz.prog 53 3=some 3:=by kernel_rfl
theorem un_Cs:Tryz.prog.underlying 154=some (.slice 158):=by kernel_rfl
theorem BF9:tyOf Tryz.prog 158=some (true,1):=by kernel_rfl
theorem zero_Ck:zeroOf Tryz.prog 158=some (.agg #[.nilFunc]):=by kernel_rfl
theorem fld_Ck0:fldOf Tryz.prog 158 0=some 0:=by kernel_rfl
theorem ty_FCk:tyOf Tryz.prog 156=some (false,1):=by kernel_rfl
theorem AZ1 {f:FuncId}:bldOf Tryz.prog 158 [(0,.func (.func f) #[] #[])]=some #[.func (.func f) #[] #[]]:=by kernel_rfl
theorem bsl_Ck5 {a b c d e:Value}:bslOf Tryz.prog 154 5 [(0,.agg #[a]),(1,.agg #[b]),(2,.agg #[c]),(3,.agg #[d]),(4,.agg #[e])]=some (158,#[a,b,c,d,e]):=by kernel_rfl
theorem AS7:Ent Tryz.prog 165:=A0 Tryz.func165 (by kernel_rfl) rfl
theorem AR9 {S:Nat->Prop} {w:World} {vn:Value} {n:NtV} {b:Int} (hn:eN.R S w vn n):CR Tryz.prog 165 #[vn,.int .i64 b] w (Is (.bool (decide (0<=b) && decide (b<n.b)))):=by
 obtain ⟨s,rfl,hs,_⟩:=hn
 refine enter Tryz.func165 O Tryz.ntmps165 O (.sr (.box O O fun w1 b2 n1=>.an O O ?_))
 obtain ⟨e1,k2,_,_⟩:=n1
 refine .sr (.mv O O ?_)
 by_cases h0:0<=b
 ·refine .leqT O O O h0 (.mv O O (.gr O O O O (.mv O O (.gr O O O O (.fa J0 O O (.gr O O O O (.ld A8 O O k2 O (.gr O O O O ?_))))))))
  rw [decide_eq_true h0]
  by_cases h1:b<n.b
  ·refine .lssT O O O h1 (.pick O O O (.an O O (.ret ?_)))
   exact .plain [_] Tryz.results165 ⟨rfl,trivial⟩ ⟨e1,by rw [decide_eq_true h1]<;>rfl⟩
  ·refine .lssF O O O (by omega) (.pick O O O (.an O O (.ret ?_)))
   exact .plain [_] Tryz.results165 ⟨rfl,trivial⟩ ⟨e1,by rw [decide_eq_false h1]<;>rfl⟩
 ·refine .leqF O O O (by omega) (.mv O O (.gs O O O O O (.gs O O O O O (.gs O O O O O (.gs O O O O O (.pick O O O (.an O O (.ret ?_))))))))
  exact .plain [_] Tryz.results165 ⟨rfl,trivial⟩ ⟨e1,by rw [decide_eq_false h0]<;>rfl⟩
section
variable {S:Nat->Prop} {w:World} {vn vl:Value} {n:NtV} {l:LnV}
theorem E_ck1:Ent Tryz.prog 164:=A0 Tryz.func164 (by kernel_rfl) rfl
theorem ck1_c (hn:eN.R S w vn n) (hl:eL.R S w vl l):CR Tryz.prog 164 #[vn,vl] w (Is (.bool (ck 0 n.b l))):=by
 have hvn:=shpA O hn
 obtain ⟨rfl,_⟩:=hl
 refine enter Tryz.func164 O Tryz.ntmps164 O (.sr (.box O O fun w1 b2 n1=>.box O O fun w2 b3 n2=>.an O O ?_))
 obtain ⟨e1,k2,_,_⟩:=n1
 obtain ⟨e2,k3,_,_⟩:=n2
 refine .sr (.ldA ty_N O O (k2.ext e2) (eN.csz hn) (.fa AL6 O O (.ld A8 O O k3 O ?_)))
 rw [<-hvn]
 refine .call _ O AS7 O (AR9 (hn.ext (e1.trans e2))) fun v3 w3 e3 h3=>.an O O (.ret ?_)
 exact .plain [_] Tryz.results164 ⟨rfl,trivial⟩ ⟨(e1.trans e2).trans e3,h3⟩
theorem E_ck2:Ent Tryz.prog 166:=A0 Tryz.func166 (by kernel_rfl) rfl
theorem ck2_c (hn:eN.R S w vn n) (hl:eL.R S w vl l):CR Tryz.prog 166 #[vn,vl] w (Is (.bool (ck 1 n.b l))):=by
 have hvn:=shpA O hn
 obtain ⟨rfl,_⟩:=hl
 refine enter Tryz.func166 O Tryz.ntmps166 O (.sr (.box O O fun w1 b2 n1=>.box O O fun w2 b3 n2=>.an O O ?_))
 obtain ⟨e1,k2,_,_⟩:=n1
 obtain ⟨e2,k3,_,_⟩:=n2
 refine .sr (.ldA ty_N O O (k2.ext e2) (eN.csz hn) (.fa AL5 O O (.ld A8 O O k3 O ?_)))
 rw [<-hvn]
 refine .call _ O AS7 O (AR9 (hn.ext (e1.trans e2))) fun v3 w3 e3 h3=>.an O O (.ret ?_)
 exact .plain [_] Tryz.results166 ⟨rfl,trivial⟩ ⟨(e1.trans e2).trans e3,h3⟩
theorem E_ck3:Ent Tryz.prog 167:=A0 Tryz.func167 (by kernel_rfl) rfl
theorem ck3_c (hl:eL.R S w vl l):CR Tryz.prog 167 #[vn,vl] w (Is (.bool (ck 2 n.b l))):=by
 obtain ⟨rfl,_⟩:=hl
 refine enter Tryz.func167 O Tryz.ntmps167 O (.sr (.box O O fun w1 b2 n1=>.box O O fun w2 b3 n2=>.an O O ?_))
 obtain ⟨e1,k2,_,_⟩:=n1
 obtain ⟨e2,k3,_,_⟩:=n2
 refine .sr (.fa AL6 O O (.ld A8 O O k3 O (.fa AL5 O O (.ld A8 O O k3 O (.neq O O O (.an O O (.ret ?_)))))))
 exact .plain [_] Tryz.results167 ⟨rfl,trivial⟩ ⟨e1.trans e2,rfl⟩
theorem E_ck4:Ent Tryz.prog 168:=A0 Tryz.func168 (by kernel_rfl) rfl
theorem ck4_c (hl:eL.R S w vl l):CR Tryz.prog 168 #[vn,vl] w (Is (.bool (ck 3 n.b l))):=by
 obtain ⟨rfl,_⟩:=hl
 refine enter Tryz.func168 O Tryz.ntmps168 O (.sr (.box O O fun w1 b2 n1=>.box O O fun w2 b3 n2=>.an O O ?_))
 obtain ⟨e1,k2,_,_⟩:=n1
 obtain ⟨e2,k3,_,_⟩:=n2
 refine .sr (.fa AV0 O O (.ld O3 O O k3 O ?_))
 by_cases h0:1<=l.x
 ·refine .leqT O O O h0 (.mv O O (.gr O O O O (.fa AV0 O O (.gr O O O O (.ld O3 O O k3 O (.gr O O O O ?_))))))
  by_cases h1:l.x<=1000
  ·refine .leqT O O O h1 (.pick O O O (.an O O (.ret ?_)))
   exact .plain [_] Tryz.results168 ⟨rfl,trivial⟩ ⟨e1.trans e2,by unfold ck;rw [decide_eq_true h0,decide_eq_true h1]<;>rfl⟩
  ·refine .leqF O O O (by omega) (.pick O O O (.an O O (.ret ?_)))
   exact .plain [_] Tryz.results168 ⟨rfl,trivial⟩ ⟨e1.trans e2,by unfold ck;rw [decide_eq_true h0,decide_eq_false h1]<;>rfl⟩
 ·refine .leqF O O O (by omega) (.mv O O (.gs O O O O O (.gs O O O O O (.gs O O O O O (.pick O O O (.an O O (.ret ?_)))))))
  exact .plain [_] Tryz.results168 ⟨rfl,trivial⟩ ⟨e1.trans e2,by unfold ck;rw [decide_eq_false h0]<;>rfl⟩
theorem E_ck5:Ent Tryz.prog 169:=A0 Tryz.func169 (by kernel_rfl) rfl
theorem ck5_c (hl:eL.R S w vl l):CR Tryz.prog 169 #[vn,vl] w (Is (.bool (ck 4 n.b l))):=by
 obtain ⟨rfl,_⟩:=hl
 refine enter Tryz.func169 O Tryz.ntmps169 O (.sr (.box O O fun w1 b2 n1=>.box O O fun w2 b3 n2=>.an O O ?_))
 obtain ⟨e1,k2,_,_⟩:=n1
 obtain ⟨e2,k3,_,_⟩:=n2
 refine .sr (.fa Z9 O O (.ld O3 O O k3 O ?_))
 by_cases h0:0<=l.c
 ·refine .leqT O O O h0 (.mv O O (.gr O O O O (.fa Z9 O O (.gr O O O O (.ld O3 O O k3 O (.gr O O O O ?_))))))
  by_cases h1:l.c<=1000000
  ·refine .leqT O O O h1 (.pick O O O (.an O O (.ret ?_)))
   exact .plain [_] Tryz.results169 ⟨rfl,trivial⟩ ⟨e1.trans e2,by unfold ck;rw [decide_eq_true h0,decide_eq_true h1]<;>rfl⟩
  ·refine .leqF O O O (by omega) (.pick O O O (.an O O (.ret ?_)))
   exact .plain [_] Tryz.results169 ⟨rfl,trivial⟩ ⟨e1.trans e2,by unfold ck;rw [decide_eq_true h0,decide_eq_false h1]<;>rfl⟩
 ·refine .leqF O O O (by omega) (.mv O O (.gs O O O O O (.gs O O O O O (.gs O O O O O (.pick O O O (.an O O (.ret ?_)))))))
  exact .plain [_] Tryz.results169 ⟨rfl,trivial⟩ ⟨e1.trans e2,by unfold ck;rw [decide_eq_false h0]<;>rfl⟩
end
def ckFs:List FuncId:=[164,166,167,168,169]
theorem ckFs_c {S:Nat->Prop} {w:World} {vn vl:Value} {n:NtV} {l:LnV} (hn:eN.R S w vn n) (hl:eL.R S w vl l) {i:Nat} {f:FuncId} (hf:ckFs[i]?=some f):Ent Tryz.prog f/\CR Tryz.prog f #[vn,vl] w (Is (.bool (ck i n.b l))):=by
 match i with
 | 0=>cases hf;exact ⟨E_ck1,ck1_c hn hl⟩
 | 1=>cases hf;exact ⟨E_ck2,ck2_c hn hl⟩
 | 2=>cases hf;exact ⟨E_ck3,ck3_c hl⟩
 | 3=>cases hf;exact ⟨E_ck4,ck4_c hl⟩
 | 4=>cases hf;exact ⟨E_ck5,ck5_c hl⟩
 | i+5=>simp [ckFs] at hf
theorem Ai1:Ent Tryz.prog 113:=A0 Tryz.func113 (by kernel_rfl) rfl
theorem Af1 {w:World}:CR Tryz.prog 113 #[] w (eFs.at (fun _=>True) ckFs):=by
 refine enter Tryz.func113 O Tryz.ntmps113 O (.sr (.an O O (.sr (.bld _ O O AZ1 (.bld _ O O AZ1 (.bld _ O O AZ1 (.bld _ O O AZ1 (.bld _ O O AZ1 (.bsl _ O O bsl_Ck5 fun w1 b1 n1=>.an O O (.ret (.plain [_] Tryz.results113 ⟨rfl,trivial⟩ ⟨n1.1,?_⟩)))))))))))
 exact Ah0 (E:=eF) [.agg #[.func (.func 164) #[] #[]],.agg #[.func (.func 166) #[] #[]],.agg #[.func (.func 167) #[] #[]],.agg #[.func (.func 168) #[] #[]],.agg #[.func (.func 169) #[] #[]]] ckFs n1 (fun _ _=>trivial) O O (by decide) (Els.snoc (Els.snoc (Els.snoc (Els.snoc (Els.snoc Els.nil O) O) O) O) O)
theorem Ap4:Ent Tryz.prog 66:=A0 Tryz.func66 (by kernel_rfl) rfl
theorem Al8 {S:Nat->Prop} {w:World} {vn:Value} {n:NtV} (hn:eN.R S w vn n):CR Tryz.prog 66 #[vn] w (Is (.int .i64 (chkE n))):=by
 obtain ⟨s,rfl,hs,hb⟩:=hn
 have hn:eN.R S w (.agg #[.int .i64 n.b,s]) n:=⟨s,rfl,hs,hb⟩
 obtain ⟨_,_,_,_,hll⟩:=RL.len hs
 refine enter Tryz.func66 O Tryz.ntmps66 O (.sr (.box O O fun w1 b1 n1=>.an O O ?_))
 obtain ⟨e1,k1,hb1,hs1⟩:=n1
 have hB:n.b<1\/6<n.b->chkE n=1:=fun h=>by unfold chkE;rw [if_pos h]
 refine .scope (.seq (.sr (.fa J0 O O (.ld A8 O O k1 O ?_))))
 by_cases h1:n.b<1
 ·refine .lssT O O O h1 (.mv O O (.gs O O O O O (.gs O O O O O (.gs O O O O O (.pick O O O (.nil (.condT O (.sr (.an O O (.ret ?_))))))))))
  exact .plain [_] Tryz.results66 ⟨rfl,trivial⟩ ⟨e1,by rw [hB (.inl h1)];rfl⟩
 refine .lssF O O O (by omega) (.mv O O (.gr O O O O (.fa J0 O O (.gr O O O O (.ld A8 O O k1 O (.gr O O O O ?_))))))
 by_cases h6:6<n.b
 ·refine .gtrT O O O h6 (.pick O O O (.nil (.condT O (.sr (.an O O (.ret ?_))))))
  exact .plain [_] Tryz.results66 ⟨rfl,trivial⟩ ⟨e1,by rw [hB (.inr h6)];rfl⟩
 refine .gtrF O O O (by omega) (.pick O O O (.nil (.condF O (.skip (.seq (.sr (.fa J5 O O (.ld P2 O O k1 O (.lenR M4 O O (hs.ext e1) ?_)))))))))
 by_cases h10:10<n.ls.length
 ·refine .gtrT O O O (by omega) (.nil (.condT O (.sr (.an O O (.ret ?_)))))
  exact .plain [_] Tryz.results66 ⟨rfl,trivial⟩ ⟨e1,by unfold chkE;rw [if_neg (by omega),if_pos h10]<;>rfl⟩
 have hE:chkOk n->chkE n=0:=fun h=>by unfold chkE;rw [if_neg (by omega),if_neg h10,if_pos h]
 have hE1:¬ chkOk n->chkE n=1:=fun h=>by unfold chkE;rw [if_neg (by omega),if_neg h10,if_neg h]
 refine .gtrF O O O (by omega) (.nil (.condF O (.skip (.sr (.an O O (.sr (.call _ O Ai1 O Af1 fun va w2 e2 hF=>.an O O (.seq (.label ?_)))))))))
 have x2:=e1.trans e2
 have k1:=k1.ext e2
 refine .seq (.sr (.fa J5 O O (.ld P2 O O k1 O (.lenR M4 O O (hs.ext x2) (.mv O O (.nil ?_))))))
 have hret:∀ {W:World} {σ:Env} {e:Int},Ext w W->chkE n=e->Leave Tryz.prog Tryz.f66 44 (fun v w'=>Ext w w'/\Is (.int .i64 (chkE n)) v w') ((2,.int .i64 e)::σ) [] W:=fun hW he=>.plain [_] Tryz.results66 ⟨rfl,trivial⟩ ⟨hW,by rw [he];rfl⟩
 refine .block (.loop (α:=Nat) (fun i=>[(1,.pointer (some ⟨b1,0,none⟩)),(3,.int .i64 0),(4,va),(23,s),(24,.int .i64 (n.ls.length:Nat)),(25,.int .i64 (i:Nat))]) (fun i W=>Ext w2 W/\i<=n.ls.length/\∀ j,j<i->∀ l,n.ls[j]?=some l->ckAll n.b l) (fun i=>n.ls.length-i) 0 ?_ ?_ ?_)
 ·exact lkA rfl
 ·exact ⟨Ext.refl _,Nat.zero_le _,fun j hj=>absurd hj (Nat.not_lt_zero _)⟩
 rintro i W ⟨hW,hi,hall⟩
 refine .sr ?_
 rcases Nat.lt_or_ge i n.ls.length with hlt | hge
 rotate_left
 ·refine .lssF O O O (by omega) (.nil (.seq (.condF O (.exit (.sr (.mv O O (.an O O ?_)))))))
  exact .ret (hret (x2.trans hW) (hE fun j hj l hl=>hall j (by omega) l hl))
 refine .lssT O O O (by omega) (.nil (.seq (.condT O (.skip (.seq (.block (.sr ?_)))))))
 have hy:n.ls[i]?=some n.ls[i]:=List.getElem?_eq_getElem hlt
 refine .ixN (i:=i) M4 Q8 O O (hs.ext (x2.trans hW)) O hy fun p hp=>.ldE (E:=eL) Q8 O O hp fun vl hl=>(.alloc O zero_Ln fun W1 b6 n1=>?_)
 obtain ⟨f1,k6,hb6,hs1'⟩:=n1
 refine .storeA (E:=eL) (S:=fun k=>k≠b6) (z:=n.ls[i]) Q8 O O k6 O O hl (fun h=>h O) fun W2 k6 u6 hl6=>.nil ?_
 have f2:Ext W W2:=u6.below f1 (by omega)
 have hW2:=hW.trans f2
 have hvl:=shpA (E:=eL) O hl6
 refine .sr (.mv O O (.lenR un_Cs O O (ER.ext eFs hF hW2) (.mv O O (.nil (.block (.loop (α:=Nat) (fun j=>[(1,.pointer (some ⟨b1,0,none⟩)),(3,.int .i64 0),(4,va),(23,s),(24,.int .i64 (n.ls.length:Nat)),(25,.int .i64 (i:Nat)),(6,.pointer (some ⟨b6,0,none⟩)),(29,va),(30,.int .i64 5),(31,.int .i64 (j:Nat))]) (fun j W'=>Ext W2 W'/\j<=5/\∀ c,c<j->ck c n.b n.ls[i]=true) (fun j=>5-j) 0 ?_ ?_ ?_))))))
 ·exact lkA rfl
 ·exact ⟨Ext.refl _,Nat.zero_le _,fun j hj=>absurd hj (Nat.not_lt_zero _)⟩
 rintro j W3 ⟨hW3,hj,hck⟩
 refine .sr ?_
 rcases Nat.lt_or_ge j 5 with hjl | hge
 rotate_left
 ·refine .lssF O O O (by omega) (.nil (.seq (.condF O (.exit ?_))))
  have:j=5:=by omega
  subst this
  have hc:ckAll n.b n.ls[i]:=hck
  refine .region (.add O O O (.mv O O (.nil ?_)))
  rw [wI (by omega)]
  refine ⟨rfl,i+1,lkA rfl,⟨hW2.trans hW3,hlt,fun j' hj' l' hl'=>?_⟩,by show n.ls.length-(i+1)<n.ls.length-i;omega⟩
  by_cases e:j'=i
  ·rw [e,hy] at hl';cases hl';exact hc
  ·exact hall j' (by omega) l' hl'
 refine .lssT O O O (by omega) (.nil (.seq (.condT O (.skip (.seq (.block (.sr ?_)))))))
 obtain ⟨f,hf⟩:∃ f,ckFs[j]?=some f:=⟨_,List.getElem?_eq_getElem (by exact hjl)⟩
 refine .ixN (i:=j) un_Cs BF9 O O (ER.ext eFs hF (hW2.trans hW3)) O hf fun p hp=>.ldE (E:=eF) BF9 O O hp fun vf hvf=>?_
 subst hvf
 refine .alloc O zero_Ck fun W4 b8 n4=>?_
 obtain ⟨f4,k8,hb8,hs4⟩:=n4
 refine .store BF9 O O k8 O (by simp [Value.cells]) (by simp [one1,Value.cells]) fun W5 k8 u5=>.nil ?_
 have f5:Ext W3 W5:=u5.below f4 (by omega)
 have hW5:=hW3.trans f5
 have xW5:=x2.trans (hW2.trans hW5)
 obtain ⟨hEf,hcf⟩:=ckFs_c (hn.ext xW5) (ER.ext eL (S:=fun k=>k≠b6) hl6 hW5) hf
 refine .sr (.fa fld_Ck0 O O (.ld ty_FCk O O k8 O (.ldA ty_N O O (k1.ext (hW2.trans hW5)) O (.ldA Q8 O O (k6.ext hW5) (eL.csz hl6) ?_))))
 rw [<-hvl]
 refine .callv [_,_] O O hEf O hcf fun v6 W6 e6 h6=>?_
 subst h6
 by_cases hc:ck j n.b n.ls[i]=true
 ·rw [hc]
  refine .not_ O O (.nil (.condF O (.skip (.region (.add O O O (.mv O O (.nil ?_)))))))
  rw [wI (by omega)]
  refine ⟨rfl,j+1,lkA rfl,⟨hW5.trans e6,hjl,fun c hc'=>?_⟩,by show 5-(j+1)<5-j;omega⟩
  by_cases e:c=j
  ·subst e;exact hc
  ·exact hck c (by omega)
 ·rw [Bool.not_eq_true] at hc
  rw [hc]
  refine .not_ O O (.nil (.condT O (.sr (.an O O (.exit (.sr (.mv O O (.an O O (.ret (hret (xW5.trans e6) (hE1 fun h=>?_)))))))))))
  have:=h i hlt _ hy j hjl
  rw [hc] at this
  cases this
end Go.Proofs.YtpgkacdihhjknaaGreat
namespace Go.Kx
open Go Go.RowKit
section
variable {P:Program} {ro:Option Nat} {N:Nat} {Q:Pst} {σ:Env} {ds:List Deferred} {w:World}
theorem WC.loopD {α:Type} {c:Code} (E:α->Env) (DS:α->List Deferred) (F:α->World->Prop) (m:α->Nat) (x:α) (hE:∀ t v,look (E x) t=some v->look σ t=some v) (hds:ds=DS x) (hF:F x w)
  (h:∀ x w,F x w->WC P ro N (thn (fun σ' ds' w'=>∃ x',ds'=DS x'/\(∀ t v,look (E x') t=some v->look σ' t=some v)/\F x' w'/\m x'<m x) Q) c (E x) (DS x) w):WC P ro N Q (.loop c) σ ds w:=by
 subst hds
 refine ⟨fun a ha=>?_⟩
 refine wpIn_loop (fun a w=>∃ x,Agr N (E x) (DS x) a/\F x w) (fun a w=>Classical.epsilon fun n=>(∃ x,Agr N (E x) (DS x) a/\F x w/\m x=n)/\∀ n',(∃ x,Agr N (E x) (DS x) a/\F x w/\m x=n')->n<=n') ⟨x,ha.weak hE,hF⟩ ?_
 intro a₁ w₁ ⟨x₁,ha₁,hx₁⟩
 have hleast:∀ (a:Act) (w:World),(∃ x,Agr N (E x) (DS x) a/\F x w)->(∃ x,Agr N (E x) (DS x) a/\F x w/\m x=Classical.epsilon fun n=>(∃ x,Agr N (E x) (DS x) a/\F x w/\m x=n)/\∀ n',(∃ x,Agr N (E x) (DS x) a/\F x w/\m x=n')->n<=n') /\
   ∀ x,Agr N (E x) (DS x) a->F x w->(Classical.epsilon fun n=>(∃ x,Agr N (E x) (DS x) a/\F x w/\m x=n)/\∀ n',(∃ x,Agr N (E x) (DS x) a/\F x w/\m x=n')->n<=n')<=m x:=by
  intro a w ⟨x,h1,h2⟩
  have hex:∃ n,(∃ x,Agr N (E x) (DS x) a/\F x w/\m x=n)/\∀ n',(∃ x,Agr N (E x) (DS x) a/\F x w/\m x=n')->n<=n':=by
   have hp:∀ b,∀ x,m x<=b->Agr N (E x) (DS x) a->F x w->∃ n,(∃ x,Agr N (E x) (DS x) a/\F x w/\m x=n)/\∀ n',(∃ x,Agr N (E x) (DS x) a/\F x w/\m x=n')->n<=n':=by
    intro b
    induction b with
    | zero=>exact fun x hb h1 h2=>⟨m x,⟨x,h1,h2,rfl⟩,fun n' _=>by omega⟩
    | succ b ih =>
     intro x hb h1 h2
     by_cases hh:∃ y,Agr N (E y) (DS y) a/\F y w/\m y<m x
     ·obtain ⟨y,h3,h4,h5⟩:=hh
      exact ih y (by omega) h3 h4
     ·exact ⟨m x,⟨x,h1,h2,rfl⟩,fun n' ⟨y,h3,h4,h5⟩=>Nat.le_of_not_lt fun hlt=>hh ⟨y,h3,h4,by omega⟩⟩
   exact hp (m x) x (Nat.le_refl _) h1 h2
  have hs:=Classical.epsilon_spec hex
  exact ⟨hs.1,fun x h1 h2=>hs.2 _ ⟨x,h1,h2,rfl⟩⟩
 obtain ⟨⟨x₂,ha₂,hx₂,hm₂⟩,_⟩:=hleast a₁ w₁ ⟨x₁,ha₁,hx₁⟩
 refine wpIn_mono ((h x₂ w₁ hx₂).out a₁ ha₂) ?_
 rintro e a' w' ⟨σ',ds',hag,hq⟩
 cases e with
 | normal =>
  obtain ⟨x',rfl,hE',hF',hm'⟩:=hq
  refine ⟨⟨x',hag.weak hE',hF'⟩,?_⟩
  have:=(hleast a' w' ⟨x',hag.weak hE',hF'⟩).2 x' (hag.weak hE') hF'
  omega
 | _=>exact ⟨σ',ds',hag,hq⟩
theorem WC.midD {α:Type} {x y:Code} (E:α->Env) (DS:α->List Deferred) (F:α->World->Prop) (h1:WC P ro N (thn (fun σ' ds' w'=>∃ a,ds'=DS a/\(∀ t v,look (E a) t=some v->look σ' t=some v)/\F a w') Q) x σ ds w)
  (h2:∀ a w',F a w'->WC P ro N Q y (E a) (DS a) w'):WC P ro N Q (x.seq y) σ ds w :=
 WC.seq (h1.mono fun e σ' ds' w' h=>by
  cases e with
  | normal=>obtain ⟨a,rfl,he,hf⟩:=h;exact (h2 a w' hf).weak _ he
  | _=>exact h)
end
def mkD (D:Nat):Deferred:={ target:=.collected D,args:=#[] }
def putAll:List Nat->World->World
 | [],w=>w
 | D::r,w=>putAll r (w.putObj D (.deferred none))
theorem Leave.marks {P:Program} {fn:Func} {N:Nat} {R:Value->World->Prop} {σ:Env} {rs:List ResultVar} (vs:List Value) (hr:fn.results=rs.toArray):∀ (ns:List Nat) (w:World),ns.Nodup->(∀ D∈ns,w.heap[D]?=some (.deferred (some []))) ->
  Res P σ (putAll ns w) rs vs->R (tup vs) (putAll ns w)->Leave P fn N R σ (ns.map mkD) w
 | [],w,_,_,h,hR=>Leave.plain vs hr h hR
 | D::ns,w,hn,hD,h,hR=>by
  have ih:=Leave.marks (P:=P) (fn:=fn) (N:=N) (R:=R) (σ:=σ) (rs:=rs) vs hr ns (w.putObj D (.deferred none)) (List.nodup_cons.1 hn).2 (fun D' hD'=>by
   rw [World.putObj_heap_other (by intro e;subst e;exact (List.nodup_cons.1 hn).1 hD')]
   exact hD D' (by simp [hD'])) h hR
  exact fun a ha=>⟨by simp,.inl ⟨_,_,rfl,run_takeDeferred (hD D (by simp)),ih { a with defers:=ns.map mkD } ⟨ha.size,rfl,ha.slot⟩⟩⟩
theorem Ac7 {S:Nat->Prop}:∀ (ns:List Nat) (w:World),ns.Nodup->(∀ D∈ns,w.heap[D]?=some (.deferred (some [])))->Kp S w (putAll ns w)
 | [],w,_,_=>fun _ _ _ _ _ h=>h
 | D::ns,w,hn,hD=>by
  have h1:Kp S w (w.putObj D (.deferred none)):=Kp.put (hD D (by simp)) rfl
  have h2:=Ac7 (S:=S) ns (w.putObj D (.deferred none)) (List.nodup_cons.1 hn).2 (fun D' hD'=>by
   rw [World.putObj_heap_other (by intro e;subst e;exact (List.nodup_cons.1 hn).1 hD')]
   exact hD D' (by simp [hD']))
  exact fun k c t f hk hc=>h2 k c t f hk (h1 k c t f hk hc)
theorem AM4 {B:Nat} {w0:World}:∀ (ns:List Nat) (w:World),(∀ D∈ns,B<=D)->Below B w0 w->Below B w0 (putAll ns w)
 | [],_,_,h=>h
 | D::ns,w,hB,h=>AM4 ns _ (fun D' hD'=>hB D' (by simp [hD'])) (K0 h (hB D (by simp)))
section
variable {P:Program} {ro:Option Nat} {N:Nat} {ds:List Deferred} {ops:Array Oper} {K:Env->World->Prop} {rest:List Oper} {σ:Env} {w:World} {d:Tmp} {ty:TypeId} {pos:String} {af:Array Edge}
theorem v_cut3 {dd:Option Tmp} {gd:Option (Nat×Bool)} {t e:TypeId} {x y z:Operand} {b:Bool} {sz n c H:Nat} {a:Option Addr} {k k':IntKind} (ht:P.underlying t=some (.slice e)) (he:tyOf P e=some (b,sz)) (hx:ev σ x=some (.slice a n c))
  (hy:ev σ y=some (.int k (H:Int))) (hz:ev σ z=some (.int k' (H:Int))) (h2:H<=c) :
  Vl P ⟨dd,.slice t x none (some y) (some z),ty,pos,af,gd⟩ σ w (.slice a H H):=by
 refine ⟨(by intro _ h;cases h),fun ρ hρ=>?_⟩
 have e1:=hρ x _ (by simp [Op.operands]) hx
 have e2:=hρ y _ (by simp [Op.operands]) hy
 have e3:=hρ z _ (by simp [Op.operands]) hz
 have hb1:(Instr.sliceBounds true n c none (some (ρ y)) (some (ρ z))).run P w=.ok (0,H,H) w:=by
  simp [Instr.sliceBounds,Instr.sliceBound,e2,e3,asIntOf,Int.ofNat_le,h2]
 by_cases h0:H=0
 ·simp [execOp,e1,Instr.sliceAt,run_underlying ht,Instr.slice,hb1,(G9 he w).2,h0]
 ·simp [execOp,e1,Instr.sliceAt,run_underlying ht,Instr.slice,hb1,(G9 he w).2,h0]
  cases a<;>rfl
theorem RL.first {α:Type} {E:ER α} {hsz:0<E.sz} {S:Nat->Prop} {a:Option Addr} {n c H c':Nat} {l:List α} (h:(RL E hsz).R S w (.slice a n c) l) (hH:H<=l.length) (hc:H<=c'):(RL E hsz).R S w (.slice a H c') (l.take H):=by
 have h1:=RL.sub h O 0 H (Nat.zero_le _) hH
 obtain ⟨es,he,a',c'',hv,h3,h4,h5,h6⟩:=h1
 rw [List.drop_zero] at *
 refine ⟨es,he,a,c',by rw [show (l.take H).length=H by simp;omega],by rw [show (l.take H).length=H by simp;omega];exact hc,h4,h5,fun hn=>?_⟩
 obtain ⟨ad,ha,hS,hcl⟩:=h6 hn
 refine ⟨ad,?_,hS,hcl⟩
 simp only [Nat.sub_zero,Nat.zero_mul] at hv
 injection hv with e1 e2 e3
 rw [<-ha,<-e1]
 obtain ⟨_,_,_,hv2,hcc,_⟩:=h
 split
 ·rfl
 ·cases a with
  | none=>rfl
  | some x=>rfl
end
def FBx (t:TypeId) (S:Nat->Prop) (w:World) (gb h i:Nat) (hv:Value) (l:List (List QV)):Prop :=
 ∃ es,Blk w gb t (cellsOf es).toArray/\es.length=l.length/\(∀ e∈es,e.cells.size=1)/\es[i]?=some hv/\∀ (j:Nat) (e:Value) (x:List QV),j≠i->es[j]?=some e->l[j]?=some x->eV.R (fun k=>(S k/\k≠gb)/\k≠h) w e x
section
variable {t:TypeId} {S:Nat->Prop} {w w':World} {gb h i:Nat} {hv:Value} {l:List (List QV)}
theorem FBx.keep (hF:FBx t S w gb h i hv l) (hk:Kp (fun k=>k≠h) w w') (hg:gb≠h):FBx t S w' gb h i hv l:=by
 obtain ⟨es,h1,h2,h3,h4,h5⟩:=hF
 exact ⟨es,hk.blk hg h1,h2,h3,h4,fun j e x hj he hx=>eV.keep (fun k c t f hh hc=>hk k c t f hh.2 hc) (h5 j e x hj he hx)⟩
theorem FBx.ptr (hF:FBx t S w gb h i hv l) (h1:hv.cells=#[hv]):w.cell? ⟨gb,0+i*1,none⟩=some hv:=by
 obtain ⟨es,hb,h2,h3,h4,h5⟩:=hF
 have:=C8 es i 0 hv h3 h4 (by decide)
 rw [hb.cell,List.getElem?_toArray,show 0+i*1=i*1+0 by omega,this,h1];rfl
theorem FBx.done {r:List QV} (hF:FBx t S w gb h i hv l) (hr:eV.R (fun k=>S k/\k≠gb) w hv r):FB eV t S w gb (l.set i r):=by
 obtain ⟨es,h1,h2,h3,h4,h5⟩:=hF
 refine ⟨es,h1,by simp [h2],fun j e x he hx=>?_⟩
 by_cases hj:j=i
 ·subst hj
  rw [h4] at he;cases he
  rw [List.getElem?_set_self (by rw [<-h2];exact (List.getElem?_eq_some_iff.1 h4).1)] at hx
  cases hx;exact hr
 ·rw [List.getElem?_set_ne (fun e=>hj e.symm)] at hx
  exact eV.mono (fun k _ hk=>hk.1) (h5 j e x hj he hx)
theorem FBx.start {P:Program} {σ:Env} {ty:TypeId} {pos:String} {af:Array Edge} {dd:Option Tmp} {gd:Option (Nat×Bool)} {tt:TypeId} {x y:Operand} {w1:World} {tq:TypeId} {cs:Array Value} {n c:Nat} (ht:tyOf P tt=some (false,1)) (hF:FB eV t S w gb l) (hn:New w w1 h tq cs) (hi:i<l.length)
  (hx:ev σ x=some (.pointer (some ⟨gb,0+i*1,none⟩))) (hy:ev σ y=some (.slice (some ⟨h,0,none⟩) n c)) :
  Gv P ⟨dd,.store tt x y,ty,pos,af,gd⟩ σ w1 fun _ w'=>FBx t S w' gb h i (.slice (some ⟨h,0,none⟩) n c) l/\Upd w1 w' gb/\Blk w' h tq cs/\gb≠h:=by
 obtain ⟨e1,k1,hh,hs⟩:=hn
 have hlt:=hF.lt
 obtain ⟨es,hb,hels⟩:=hF
 have hesz:=hels.sz
 have hle:i*1+1<=(cellsOf es).toArray.size:=by
  rw [List.size_toArray,B0 es hesz,hels.1];show i*1+1<=l.length*1;omega
 refine (H2 (n:=1) ht (by rw [hx,Nat.zero_add]) hy (hb.ext e1) O hle (by simp [one1,Value.cells])).mono ?_
 rintro _ w2 ⟨hB',u⟩
 have hset:=U1 (sz:=1) (by decide) es i (.slice (some ⟨h,0,none⟩) n c) hesz O (by rw [hels.1];exact hi)
 have hne:gb≠h:=by omega
 rw [hset] at hB'
 refine ⟨⟨es.set i (.slice (some ⟨h,0,none⟩) n c),hB',by simp [hels.1],fun e he=>?_,?_,fun j e x hj he hx'=>?_⟩,u,k1.upd u (fun e=>hne e.symm),hne⟩
 ·rcases List.mem_or_eq_of_mem_set he with h' | h'
  ·exact hesz e h'
  ·rw [h'];rfl
 ·rw [List.getElem?_set_self (by rw [hels.1];exact hi)]
 ·rw [List.getElem?_set_ne (fun e=>hj e.symm)] at he
  have h1:=ER.lt eV (hels.2 j e x he hx')
  have h2:=(ER.ext eV h1 e1).upd u (fun hh=>hh.1.2 O)
  exact eV.mono (fun k _ hk=>⟨hk.1,by have:=hk.2;omega⟩) h2
end
def redF (m:List (List QV)):RM:=(elim m.length (rm m) (colsOf m)).1
def redP (m:List (List QV)):List Nat:=(elim m.length (rm m) (colsOf m)).2
def redM (m:List (List QV)):List (List QV):=tabM (redP m).length (colsOf m) (redF m)
theorem BA3 {n c q:Nat} {f:RM} (h:q<=n):(tabM n c f).take q=tabM q c f:=by
 unfold tabM
 rw [<-List.map_take,List.take_range,Nat.min_eq_left h]
theorem T1 (m:List (List QV)):Ech m.length (colsOf m) (redF m) (redP m):=R8 _ _ _
end Go.Kx
namespace Go.Proofs.YtpgkacdihhjknaaGreat
open Go Go.Kx Go.RowKit
theorem E_ign1:Ent Tryz.prog 256:=A0 Tryz.func256 (by kernel_rfl) rfl
theorem E_ign2:Ent Tryz.prog 257:=A0 Tryz.func257 (by kernel_rfl) rfl
theorem evs_ign {M:Nat} {S0:Nat->Prop}:Evs Tryz.prog 256 257 #[] #[] M S0 (fun _=>False) (fun _ _ _ _=>True) where
 entE:=E_ign1
 entS:=E_ign2
 mono:=fun _ _=>trivial
 chg:=fun _ _=>trivial
 exch:=fun {Z j d W} _ _=>by
  refine enterG Tryz.func256 O Tryz.ntmps256 O ?_
  exact .skip (.plain [] Tryz.results256 trivial ⟨Chg.refl _,trivial⟩)
 scal:=fun {Z j d W v q} _ _ _ _ _=>by
  refine enterG Tryz.func257 O Tryz.ntmps257 O (.region (.box O O fun w1 b1 n1=>.nil ?_))
  exact .plain [] Tryz.results257 trivial ⟨Chg.ext n1.1,trivial⟩
theorem BM1 (m:List (List QV)) (i k:Nat) (h:k<colsOf m):catM m [] i k=rm m i k:=by unfold catM;rw [if_pos h]
structure eOk (L n C:Nat) (m:List (List QV)):Prop where
 k:mk_ L m
 l1:1<=L
 bd:bd L n<=40000000
 mn:min m.length (colsOf m)<=n
 rows:m.length<=100
 cols:colsOf m<=C
 c1:C<=100
theorem eOk.le {L n C:Nat} {m:List (List QV)} (h:eOk L n C m):L<=40000000:=Nat.le_trans (AA7 L (Nat.zero_le n)) h.bd
theorem AD6:Ent Tryz.prog 209:=A0 Tryz.func209 (by kernel_rfl) rfl
theorem AC5 {S:Nat->Prop} {w:World} {vm:Value} {m:List (List QV)} {L n C:Nat} (up:Up S w) (hm:eM.R S w vm m) (ok:eOk L n C m) :
  CR Tryz.prog 209 #[vm] w (Two (eM.at S (redM m)) (eI.at S (pInts (redP m)))):=by
 have hn:=ok.rows
 have hc:=ok.cols
 have hc1:=ok.c1
 have hL:=ok.le
 refine enter Tryz.func209 O Tryz.ntmps209 O ?_
 refine .sr (.asg O O (.an O O (.sr (.mv O O ?_))))
 refine .call _ rfl AN1 O (AG1 (b:=[]) (L:=L) up hm RL.nil ok.k (fun r hr=>by cases hr) ok.l1 (by omega) (by omega) (by simp) (by omega) (by simp [AA3])) fun v1 w1 e1 h1=>.an O O ?_
 obtain ⟨gb,rfl,hgb,hF⟩:=h1
 rw [List.length_nil,Nat.max_eq_left (Nat.zero_le _),AA3,Nat.add_zero,C0 (g:=rm m) (fun i k _ hk=>BM1 m i k hk)] at hF
 have hgl:=hF.lt
 rw [List.length_nil,Nat.max_eq_left (Nat.zero_le _)]
 have up1:=up.ext e1.size
 refine .sr (.mv O O (.mv O O ?_))
 refine .call _ O S2 O (R6 (hm.ext e1)) fun v2 w2 e2 h2=>?_
 subst h2
 refine .call _ O AU0 O AT4 fun v3 w3 e3 h3=>?_
 subst h3
 have e13:=e2.trans e3
 have hs13:=e13.size
 have hs1:=e1.size
 have hcall:=AJ2 (X:=fun _=>False) (cols:=colsOf m) (cap:=m.length) (L:=L) (M:=40000000) (up1.ext e13.size) (hF.ext e13) (Nat.le_refl _) (Nat.le_refl _) (by omega) (by omega) ok.l1 (fun i k _ _=>ok.k.rsz ok.l1 i k) (Nat.le_trans (AA7 L ok.mn) ok.bd) (Nat.le_refl _) (up gb (by omega)) (fun _ h=>h.elim) evs_ign trivial
 refine .callG _ O AM6 O hcall ?_
 rintro v4 w4 ⟨c4,h4,f4,-⟩
 have x4:Ext w w4:=c4.below (e1.trans e13) (by omega) (fun k hk=>by rcases hk with rfl | hk;exact hgb;exact hk.elim)
 have hql:=(T1 m).len
 refine .an O O (.sr (.mv O O (.mv O O (.lenR un_I O O h4 (.mv O O (.lenR un_I O O h4 ?_))))))
 rw [show (pInts (elim m.length (rm m) (colsOf m)).2).length=(redP m).length by simp [redP]]
 refine .gv O O (v_cut3 (H:=(redP m).length) un_M ty_V O O O hql).gv ?_
 rintro _ _ ⟨rfl,rfl⟩
 refine .mv O O (.asg O O (.an O O (.ret ?_)))
 refine .plain [_,_] Tryz.results209 ⟨rfl,rfl,trivial⟩ ⟨x4,_,_,rfl,?_,?_⟩
 ·have:=f4.toR (c:=m.length) (hsz:=by decide) (up gb (by omega)) (by rw [B3];exact Nat.le_refl _) (by rw [B3];omega)
  rw [B3] at this
  have h5:=RL.first (H:=(redP m).length) (c':=(redP m).length) this (by rw [B3];exact hql) (Nat.le_refl _)
  rw [BA3 hql] at h5
  exact h5
 ·exact eI.mono (fun k _ hk=>up k (by have:=e1.size;omega)) h4
theorem X1:Ent Tryz.prog 211:=A0 Tryz.func211 (by kernel_rfl) rfl
theorem U8 {w:World} {va vb:Value} {n n' c c':Nat} {a a':Option Addr} (ha:va=.slice a n c) (hb:vb=.slice a' n' c'):CR Tryz.prog 211 #[va,vb] w (fun v w'=>∃ b1 b2,v=.func (.func 240) #[] #[.pointer (some ⟨b2,0,none⟩),.pointer (some ⟨b1,0,none⟩)] /\
  Blk w' b1 70 #[va]/\Blk w' b2 25 #[vb]/\w.heap.size<=b1/\w.heap.size<=b2):=by
 subst ha;subst hb
 refine enter Tryz.func211 O Tryz.ntmps211 O (.sr (.box O O fun w1 b1 n1=>?_))
 obtain ⟨e1,k1,hb1,hs1⟩:=n1
 refine .box O O fun w2 b2 n2=>.an O O ?_
 obtain ⟨e2,k2,hb2,hs2⟩:=n2
 refine .sr (.mkf [] [_,_] O O O O (.an O O (.ret ?_)))
 exact .plain [_] Tryz.results211 ⟨rfl,trivial⟩ ⟨e1.trans e2,b1,b2,rfl,k1.ext e2,k2,by omega,by have:=e1.size;omega⟩
theorem ty_I:tyOf Tryz.prog 25=some (false,1):=by kernel_rfl
theorem AZ3:Ent Tryz.prog 240:=A0 Tryz.func240 (by kernel_rfl) rfl
theorem AW0 {S:Nat->Prop} {m:List (List QV)} {p:List Nat} {es:List Value} {va vb:Value} {b1 b2:Nat} (hl:p.length<=m.length) (hlm:m.length<=1000000):Iter Tryz.prog 240 #[.pointer (some ⟨b2,0,none⟩),.pointer (some ⟨b1,0,none⟩)] p.length
  (fun k=>[.int .i64 (p.getD k 0:Nat),es.getD k nilV]) (fun W=>Blk W b1 70 #[va]/\Blk W b2 25 #[vb]/\EsR eV S W va es m/\eI.R S W vb (pInts p)):=by
 intro l J X stJ stX hF hy W hJ
 have hF0:=hF 0 W hJ
 refine enterG Tryz.func240 O Tryz.ntmps240 O (.sr (.ld ty_I O O hF0.2.1 O (.lenR un_I O O hF0.2.2.2 (.mv O O (.nil ?_)))))
 rw [show (pInts p).length=p.length by simp]
 refine .block (.loop (α:=Nat) (fun k=>[(8,.int .i64 (k:Nat)),(7,.int .i64 (p.length:Nat)),(6,vb),(0,.func (.yield l) #[] #[]),(1,.pointer (some ⟨b2,0,none⟩)),(2,.pointer (some ⟨b1,0,none⟩))]) (fun k W=>J k W/\k<=p.length) (fun k=>p.length-k) 0 ?_ ?_ ?_)
 ·exact lkA rfl
 ·exact ⟨hJ,Nat.zero_le _⟩
 ·rintro k W ⟨hJ,hk⟩
  obtain ⟨hB1,hB2,hA,hB⟩:=hF k W hJ
  by_cases hlt:k<p.length
  ·refine .sr (.lssT O O O (by omega) (.nil (.seq (.condT O (.skip ?_)))))
   have hpk:(pInts p)[k]?=some ((p.getD k 0:Nat):Int):=by
    rw [List.getElem?_map,A4 (z:=0) hlt];rfl
   refine .seq (.block (.sr (.mv O O (.ixN (i:=k) un_I A7 O O hB O hpk fun q hq=>.ldE A7 O O hq fun e he=>.asg O O (.an O O ?_)))))
   obtain ⟨rfl,_⟩:=he
   refine .sr (.mv O O (.mv O O (.ld ty_M O O hB1 O (.mv O O (.ixX un_M ty_V O O hA O (A4 (z:=nilV) (by rw [hA.1.1];omega)) fun q hq=>.ldX (E:=eV) ty_V O O hq (hA.get Ar7 k) (.yld (l:=l) [.int .i64 (p.getD k 0:Nat),es.getD k nilV] (R:=fun v w'=>(v=.bool true/\J (k+1) w')\/(v=.bool false/\X w')) O O O ?_ ?_))))))
   ·refine YieldAt.mono (hy k _ hlt hJ) ?_
    rintro e W' (⟨rfl,h⟩ | ⟨rfl,h⟩)
    ·exact ⟨_,rfl,.inl ⟨rfl,h⟩⟩
    ·exact ⟨_,rfl,.inr ⟨rfl,h⟩⟩
   ·rintro v w' (⟨rfl,h⟩ | ⟨rfl,h⟩)
    ·refine .not_ O O (.nil (.condF O (.skip (.region (.add O O O (.mv O O (.nil ?_)))))))
     rw [wI (by omega)]
     exact ⟨rfl,k+1,lkA rfl,⟨h,by omega⟩,by omega⟩
    ·refine .not_ O O (.nil (.condT O (.ret ?_)))
     exact .plain [] Tryz.results240 trivial (.inr h)
  ·refine .sr (.lssF O O O (by omega) (.nil (.seq (.condF O (.exit (.plain [] Tryz.results240 trivial ?_))))))
   have:k=p.length:=by omega
   subst this;exact .inl hJ
end Go.Proofs.YtpgkacdihhjknaaGreat
namespace Go.Kx
open Go Go.RowKit
def augF (m:List (List QV)) (b:List QV):RM:=fun i k=>if k<colsOf m then rm m i k else rv b i
def augM (m:List (List QV)) (b:List QV):List (List QV):=tabM (max m.length b.length) (colsOf m+1) (augF m b)
end Go.Kx
namespace Go.Proofs.YtpgkacdihhjknaaGreat
open Go Go.Kx Go.RowKit
theorem AM7:Ent Tryz.prog 210:=A0 Tryz.func210 (by kernel_rfl) rfl
theorem AJ3 {S:Nat->Prop} {w:World} {vm vb:Value} {m:List (List QV)} {b:List QV} {L:Nat} (up:Up S w) (hm:eM.R S w vm m) (hb:eV.R S w vb b) (hkm:mk_ L m) (hkb:vk L b) (hL:1<=L) (hL2:L<=40000000) (hr:m.length<=100) (hc:colsOf m<=100) (hl:b.length<=100) :
  CR Tryz.prog 210 #[vm,vb] w (eM.at S (augM m b)):=by
 have hb0:=ER.lt eV hb
 have hBv:∀ {W:World},Below w.heap.size w W->eV.R (fun k=>S k/\k<w.heap.size) W vb b:=fun hB=>eV.keep (fun k c t f hk h=>(hB.block k hk.2).trans h) hb0
 generalize hN:max m.length b.length=N
 generalize hG:(fun i=>[b.getD i q0])=G
 refine enter Tryz.func210 O Tryz.ntmps210 O (.sr (.an O O (.sr (.mv O O (.lenR un_M O O hm (.mv O O (.lenR un_V O O hb (.max_ O O O ?_))))))))
 rw [show (max (m.length:Int) (b.length:Int))=(N:Int) by omega]
 refine .make_ _ _ un_M Ag2 O (by decide) O O O (Nat.le_refl _) (by omega) (by omega) fun w1 gb n1=>.an O O ?_
 have f1:FB eV 26 S w1 gb (List.replicate N []):=FB.made n1 RL.nil
 obtain ⟨e1,k1,hgb,hs1⟩:=n1
 refine .mid (α:=Unit) (fun _=>[(0,vm),(5,.slice (some ⟨gb,0,none⟩) N N)]) (fun _ W=>Below w.heap.size w W/\FB eV 26 S W gb ((List.range N).map G)) ?_ ?_
 ·refine .sr (.mv O O (.len un_M O O (.mv O O (.nil ?_))))
  refine .block (.loop (α:=Nat) (fun i=>[(0,vm),(1,vb),(5,.slice (some ⟨gb,0,none⟩) N N),(14,.int .i64 (N:Nat)),(15,.int .i64 (i:Nat))])
   (fun i W=>Below w.heap.size w W/\i<=N/\FB eV 26 S W gb (fil N i G [])) (fun i=>N-i) 0 ?_ ?_ ?_)
  ·exact lkA rfl
  ·exact ⟨e1,Nat.zero_le _,by rw [P4];exact f1⟩
  ·rintro i W ⟨hB,hi,hF⟩
   have hsz:=hB.size
   rcases Nat.lt_or_ge i N with hlt | hge
   rotate_left
   ·refine .sr (.lssF O O O (by omega) (.nil (.seq (.condF O (.exit ?_)))))
    have:i=N:=by omega
    subst this
    rw [AL8] at hF
    exact ⟨rfl,(),lkA rfl,hB,hF⟩
   refine .sr (.lssT O O O (by omega) (.nil (.seq (.condT O (.skip (.seq (.block (.sr (.mv O O (.an O O (.sr (.mv O O (.mv O O (.make_ 1 1 un_V P8 O (by decide) O O O (Nat.le_refl _) (by omega) (by omega) fun W1 h n2=>?_))))))))))))))
   have hn2:=n2
   obtain ⟨e2,k2,hh,hs2⟩:=n2
   refine .ixB (i:=i) un_M ty_V O O O hlt (.gv O O (FBx.start (i:=i) ty_V hF hn2 (by rw [L3];exact hlt) O O) ?_)
   rintro _ W2 ⟨hx2,u2,kh2,hne⟩
   refine .nil ?_
   have hB2:Below w.heap.size w W2:=u2.below (hB.trans (e2.mono hsz)) (by omega)
   have hSh:S h/\h≠gb:=⟨up h (by omega),by omega⟩
   refine .sr (.mv O O (.mv O O (.lenR un_V O O (hBv hB2) ?_)))
   by_cases hib:i<b.length
   ·refine .lssT O O O (by omega) (.nil (.condT O ?_))
    refine .par follows 8 [.inl _,.inl (.int .i64 (i:Nat)),.inl _,.inl (.slice (some ⟨h,0,none⟩) 1 1),.inl vb,.inl (.int .i64 (i:Nat)),.inr (Ptr eQ (fun k=>S k/\k<w.heap.size) (b.getD i q0)),.inr (eQ.at (fun k=>S k/\k<w.heap.size) (b.getD i q0))]
     [[],[],[(26,0),(27,1)],[(28,2)],[],[],[(30,4),(31,5)],[(32,6)]] (by kernel_rfl) ⟨
     fun w e=>(v_mv O).ob,fun w e=>(v_mv O).ob,fun w e=>(I1 (i:=i) un_M ty_V O O hlt).ob,
     fun w e=>(v_ldP ty_V O ((hx2.keep (Kp.ext e) hne).ptr O)).ob,
     fun w e=>(v_mv O).ob,fun w e=>(v_mv O).ob,
     fun w e=>D5 (i:=i) un_V ty_Q O (ER.ext eV (hBv hB2) e) O (A4 (z:=q0) hib),
     fun w e p hp=>U9 ty_Q O hp,trivial⟩ ?_
    intro W3 e3 x6 _ x7 h7
    refine .ixB (i:=0) un_V ty_Q O O O (by omega) (.storeA (E:=eQ) ty_Q O O (kh2.ext e3) O O h7 (fun hh'=>by have:=hh'.2;omega) fun W4 k4 u4 h4=>.nil (.region (.add O O O (.mv O O (.nil ?_)))))
    rw [wI (by omega)]
    have hx4:=(hx2.keep (Kp.ext e3) hne).keep (Kp.upd u4 (fun hc=>hc O)) hne
    have hrow:eV.R (fun k=>S k/\k≠gb) W4 (.slice (some ⟨h,0,none⟩) 1 1) [b.getD i q0]:=by
     refine RL.ofBlk (es:=[x7]) k4 hSh (Els.snoc Els.nil (eQ.mono (fun k _ hk=>⟨hk.1,by have:=hk.2;omega⟩) h4)) (fun j u hu=>?_) (Nat.le_refl _) (by simp)
     simpa [cellsOf] using hu
    have hF4:=hx4.done hrow
    have hgi:[b.getD i q0]=G i:=by rw [<-hG]
    rw [hgi,T8] at hF4
    exact ⟨rfl,i+1,lkA rfl,⟨u4.below (hB2.trans (e3.mono hB2.size)) (by omega),hlt,hF4⟩,by show N-(i+1)<N-i;omega⟩
   ·refine .lssF O O O (by omega) (.nil (.condF O (.skip (.region (.add O O O (.mv O O (.nil ?_)))))))
    rw [wI (by omega)]
    have hrow:eV.R (fun k=>S k/\k≠gb) W2 (.slice (some ⟨h,0,none⟩) 1 1) [q0]:=by
     refine RL.ofBlk (es:=[zq]) kh2 hSh (Els.snoc Els.nil zq_R) (fun j u hu=>?_) (Nat.le_refl _) (by simp)
     simpa [cellsOf,Value.cells] using hu
    have hF4:=hx2.done hrow
    have hgi:[q0]=G i:=by rw [<-hG];show [q0]=[b.getD i q0];rw [AD0 (by omega)]
    rw [hgi,T8] at hF4
    exact ⟨rfl,i+1,lkA rfl,⟨hB2,hlt,hF4⟩,by show N-(i+1)<N-i;omega⟩
 ·rintro _ W ⟨hB,hF⟩
  have hsz:=hB.size
  have hlen:((List.range N).map G).length=N:=by simp
  have hR:=hF.toR (c:=N) (hsz:=by decide) (up gb (by omega)) (by rw [hlen];exact Nat.le_refl _) (by rw [hlen];omega)
  rw [hlen] at hR
  have hcol:colsOf ((List.range N).map G)=if N=0 then 0 else 1:=by
   by_cases h0:N=0
   ·subst h0;rfl
   ·rw [if_neg h0]
    refine Nat.le_antisymm (Ad7 fun r hr=>?_) ?_
    ·obtain ⟨i,_,rfl⟩:=List.mem_map.1 hr
     rw [<-hG];simp
    ·have:=AY7 (m:=(List.range N).map G) (r:=G 0) (List.mem_map.2 ⟨0,List.mem_range.2 (by omega),rfl⟩)
     rw [<-hG] at this ⊢;simpa using this
  have hmW:eM.R S W vm m:=eM.mono (fun k _ hk=>hk.1) (eM.keep (fun k c t f (hk:S k/\k<w.heap.size) h=>(hB.block k hk.2).trans h) (ER.lt eM hm))
  have hkG:mk_ L ((List.range N).map G):=fun r hr=>by
   obtain ⟨i,_,rfl⟩:=List.mem_map.1 hr
   rw [<-hG]
   intro q hq
   simp only [List.mem_singleton] at hq
   rw [hq];exact hkb.get hL i
  refine .sr (.mv O O (.mv O O (.call _ O AN1 O (Af5 (L:=L) (up.ext hsz) hmW hR hkm hkG hL (by omega) (by omega) (by rw [hlen];omega) (by omega) (by rw [hcol];split<;>omega)) fun v5 W5 e5 h5=>.an O O (.ret (.plain [_] Tryz.results210 ⟨rfl,trivial⟩ ⟨hB.trans (e5.mono hsz),?_⟩)))))
  rw [hlen,hcol,show max m.length N=N by omega] at h5
  show eM.R S W5 v5 (augM m b)
  unfold augM
  rw [hN]
  by_cases h0:N=0
  ·rw [h0] at h5 ⊢;exact h5
  ·rw [if_neg h0,C0 (g:=augF m b) (fun i k hi hk=>?_)] at h5
   ·exact h5
   ·unfold catM augF
    by_cases hkc:k<colsOf m
    ·rw [if_pos hkc,if_pos hkc]
    ·rw [if_neg hkc,if_neg hkc,show k-colsOf m=0 by omega]
     unfold rm
     have:((List.range N).map G).getD i []=[b.getD i q0]:=by
      rw [List.getD_eq_getElem?_getD,List.getElem?_map,List.getElem?_range hi,<-hG];rfl
     rw [this];rfl
end Go.Proofs.YtpgkacdihhjknaaGreat
namespace Go.Kx
open Go Go.RowKit
theorem Ad6 (n c:Nat) (f:RM):colsOf (tabM n c f)=if n=0 then 0 else c:=by
 by_cases h0:n=0
 ·subst h0;rfl
 ·rw [if_neg h0]
  refine Nat.le_antisymm (Ad7 fun r hr=>?_) ?_
  ·obtain ⟨i,_,rfl⟩:=List.mem_map.1 hr
   rw [A2];exact Nat.le_refl _
  ·have:=AY7 (m:=tabM n c f) (r:=tab c (f 0)) (List.mem_map.2 ⟨0,List.mem_range.2 (by omega),rfl⟩)
   rwa [A2] at this
def partTo (g:RM) (p:List Nat) (C i:Nat):Nat->Rat:=fun c=>sumN i fun j=>if p.getD j 0=c then g j C else 0
def partF (g:RM) (p:List Nat) (C:Nat):Nat->Rat:=partTo g p C p.length
theorem Al5 {n c:Nat} {g:RM} {p:List Nat} (h:Ech n c g p) {C i:Nat} (hi:i<p.length):partTo g p C (i+1)=fun k=>if k=p.getD i 0 then g i C else partTo g p C i k:=by
 funext k
 unfold partTo
 rw [sumN]
 by_cases e:k=p.getD i 0
 ·rw [if_pos e.symm,if_pos e,E1 fun j hj=>by rw [if_neg (fun e2=>by have:=h.inj (by omega) hi (e2.trans e);omega)]]
  grind
 ·rw [if_neg (fun e2=>e e2.symm),if_neg e];grind
theorem aug_rsz {m:List (List QV)} {b:List QV} {L:Nat} (hm:mk_ L m) (hb:vk L b) (hL:1<=L) (i k:Nat):Rsz (augF m b i k) L:=by
 unfold augF
 split
 ·exact hm.rsz hL i k
 ·exact hb.rsz hL i
theorem aug_ok {m:List (List QV)} {b:List QV} {L:Nat} (hm:mk_ L m) (hb:vk L b) (hL:1<=L):mk_ L (augM m b):=Af2 fun i k _ _=>aug_rsz hm hb hL i k
theorem AF6 (m:List (List QV)) (b:List QV):(augM m b).length=max m.length b.length:=B3 ..
theorem AZ2 (m:List (List QV)) (b:List QV):colsOf (augM m b)=if max m.length b.length=0 then 0 else colsOf m+1:=Ad6 ..
theorem AS5 (m:List (List QV)) (b:List QV):colsOf (augM m b)<=colsOf m+1:=by rw [AZ2];split<;>omega
end Go.Kx
namespace Go.Proofs.YtpgkacdihhjknaaGreat
open Go Go.Kx Go.RowKit
structure ParJ (w0:World) (T:Nat->Prop) (b4 b5 b6 p1 p2 g C:Nat) (vr vp:Value) (es:List Value) (A:List (List QV)) (k:Nat) (W:World):Prop where
 low:Below w0.heap.size w0 W
 k4:Blk W b4 26 #[.slice (some ⟨g,0,none⟩) C C]
 k5:Blk W b5 4 #[.bool false]
 k6:Blk W b6 3 #[.int .i64 (C:Nat)]
 kp1:Blk W p1 70 #[vr]
 kp2:Blk W p2 25 #[vp]
 x:FB eQ 39 T W g (tab C (partTo (redF A) (redP A) C k))
 r:EsR eV T W vr es (redM A)
 p:eI.R T W vp (pInts (redP A))
 no:∀ j,j<k->(redP A).getD j 0≠C
theorem ParJ.sft {w0:World} {T:Nat->Prop} {b4 b5 b6 p1 p2 g C:Nat} {vr vp:Value} {es:List Value} {A:List (List QV)} {k D:Nat} {W W':World} (h:ParJ w0 T b4 b5 b6 p1 p2 g C vr vp es A k W) (hs:Sft D W W') (hD:w0.heap.size<=D):ParJ w0 T b4 b5 b6 p1 p2 g C vr vp es A k W' :=
 ⟨h.low.trans (hs.below.mono hD),hs.cells.blk trivial h.k4,hs.cells.blk trivial h.k5,hs.cells.blk trivial h.k6,hs.cells.blk trivial h.kp1,hs.cells.blk trivial h.kp2,h.x.kp hs.cells,h.r.keep (fun k c t f _ hc=>hs.cells k c t f trivial hc),eI.keep (fun k c t f _ hc=>hs.cells k c t f trivial hc) h.p,h.no⟩
structure ParX (w0:World) (b4 b5 C:Nat) (A:List (List QV)) (W:World):Prop where
 low:Below w0.heap.size w0 W
 k4:Blk W b4 26 #[.slice none 0 0]
 k5:Blk W b5 4 #[.bool false]
 yes:C∈redP A
theorem I6 {p:List Nat} {j:Nat} (h:j<p.length):p.getD j 0∈p:=List.mem_iff_getElem?.2 ⟨j,A4 h⟩
theorem AS0 {p:List Nat} {c:Nat} (h:c∈p):∃ j,j<p.length/\p.getD j 0=c:=by
 obtain ⟨j,hj⟩:=List.mem_iff_getElem?.1 h
 have hl:j<p.length:=(List.getElem?_eq_some_iff.1 hj).1
 refine ⟨j,hl,?_⟩
 have:=A4 (z:=0) hl
 rw [hj] at this;exact (Option.some.inj this).symm
def solX (m:List (List QV)) (b:List QV):List QV:=tab (colsOf m) (partF (redF (augM m b)) (redP (augM m b)) (colsOf m))
abbrev solvable (m:List (List QV)) (b:List QV):Prop:=colsOf m∉redP (augM m b)
theorem AI3:Ent Tryz.prog 151:=A0 Tryz.func151 (by kernel_rfl) rfl
theorem AH4 {S:Nat->Prop} {w:World} {vm vb:Value} {m:List (List QV)} {b:List QV} {L n:Nat} (up:Up S w) (hm:eM.R S w vm m) (hb:eV.R S w vb b) (hkm:mk_ L m) (hkb:vk L b) (hL:1<=L) (hr:m.length<=100) (hl:b.length<=100) (hc:colsOf m<=90) (hmn:min (max m.length b.length) (colsOf m+1)<=n) (hbd:bd L n<=40000000) :
  CR Tryz.prog 151 #[vm,vb] w (Two (eV.at S (if solvable m b then solX m b else [])) (Is (.bool (decide (solvable m b))))):=by
 have hL2:L<=40000000:=Nat.le_trans (AA7 L (Nat.zero_le n)) hbd
 have okA:eOk L n 100 (augM m b):=⟨aug_ok hkm hkb hL,hL,hbd,by rw [AF6];have:=AS5 m b;omega,by rw [AF6];omega,Nat.le_trans (AS5 m b) (by omega),Nat.le_refl _⟩
 obtain ⟨A,hA⟩:∃ A,augM m b=A:=⟨_,rfl⟩
 rw [hA] at okA
 have hech:=T1 A
 have hAl:A.length=max m.length b.length:=by rw [<-hA];exact AF6 m b
 have hAc:0<A.length->colsOf A=colsOf m+1:=fun h=>by rw [<-hA,AZ2,if_neg (by omega)]
 refine enter Tryz.func151 O Tryz.ntmps151 O ?_
 refine .sr (.alloc O Ap9 fun w1 b4 n1=>.alloc O BA1 fun w2 b5 n2=>.nil (.sr (.mv O O ?_)))
 obtain ⟨e1,k4,hb4,hs1⟩:=n1
 obtain ⟨e2,k5,hb5,hs2⟩:=n2
 refine .call _ O S2 O (R6 ((hm.ext e1).ext e2)) fun v3 w3 e3 h3=>?_
 subst h3
 refine .alloc O AV6 fun w4 b6 n4=>?_
 obtain ⟨e4,k6,hb6,hs4⟩:=n4
 refine .store A8 O O k6 O (by simp [Value.cells]) (by simp [one1,Value.cells]) fun w5 k6 u5=>.nil ?_
 replace k6:Blk w5 b6 3 #[.int .i64 (colsOf m:Nat)]:=k6
 have x4:=((e1.trans e2).trans e3).trans e4
 have x5:Ext w w5:=u5.below x4 (by have:=(e1.trans e2).size;have:=e3.size;omega)
 have hs3:=e3.size
 have hs5:=u5.size
 replace k4:Blk w5 b4 26 #[.slice none 0 0]:=((k4.ext ((e2.trans e3).trans e4))).upd u5 (show b4≠b6 by omega)
 replace k5:Blk w5 b5 4 #[.bool false]:=((k5.ext (e3.trans e4))).upd u5 (show b5≠b6 by omega)
 have up5:Up (Sx S w.heap.size w5.heap.size) w5:=Sx.up up (Nat.le_refl _) x5.size
 have hm5:=(ER.par eM hm w5.heap.size).ext x5
 have hbv5:=(ER.par eV hb w5.heap.size).ext x5
 have hTo:∀ k,Sx S w.heap.size w5.heap.size k->S k:=fun k h=>h.1
 have hT4:¬ Sx S w.heap.size w5.heap.size b4:=Sx.no (by omega) (by omega)
 have hT5:¬ Sx S w.heap.size w5.heap.size b5:=Sx.no (by omega) (by omega)
 have hT6:¬ Sx S w.heap.size w5.heap.size b6:=Sx.no (by omega) (by omega)
 generalize hTT:Sx S w.heap.size w5.heap.size=T at *
 refine .sr (.mv O O (.mv O O ?_))
 refine .call _ O AM7 O (AJ3 up5 hm5 hbv5 hkm hkb hL hL2 (by omega) (by omega) (by omega)) fun v6 w6 e6 h6=>?_
 rw [hA] at h6
 refine .call _ O AD6 O (AC5 (up5.ext e6.size) h6 okA) fun v7 w7 e7 h7=>?_
 obtain ⟨vr,vp,rfl,hr7,hp7⟩:=h7
 refine .mv O O (.ext O O O (.ext O O O (.asg O O (.an O O ?_))))
 have x57:=e6.trans e7
 have hr7l:=ER.lt eM hr7
 have hp7l:=ER.lt eI hp7
 have hs57:=x57.size
 refine .sr (.ld A8 O O (k6.ext x57) O ?_)
 refine .make_ _ _ un_V P8 O (by decide) O O O (Nat.le_refl _) (by omega) (by omega) fun w8 g n8=>?_
 have f8:FB eQ 39 (fun k=>T k/\k<w7.heap.size) w8 g (List.replicate (colsOf m) q0):=FB.made n8 zq_R
 obtain ⟨e8,_,hg8,hs8⟩:=n8
 have x58:=x57.trans e8
 refine .store ty_V O O (k4.ext x58) O (by simp) (by simp [one1,Value.cells]) fun w9 k4 u9=>.nil ?_
 replace k4:Blk w9 b4 26 #[.slice (some ⟨g,0,none⟩) (colsOf m) (colsOf m)]:=k4
 have hb4n:¬ (T b4/\b4<w7.heap.size):=fun h=>hT4 h.1
 have hr9:eM.R (fun k=>T k/\k<w7.heap.size) w9 vr (redM A):=(ER.ext eM hr7l e8).upd u9 hb4n
 have hp9:eI.R (fun k=>T k/\k<w7.heap.size) w9 vp (pInts (redP A)):=(ER.ext eI hp7l e8).upd u9 hb4n
 have f9:=f8.upd u9 (show g≠b4 by omega) hb4n
 have x9:Ext w w9:=u9.below (x5.trans x58) (by omega)
 have k5:=(k5.ext x58).upd u9 (show b5≠b4 by omega)
 have k6:=(k6.ext x58).upd u9 (show b6≠b4 by omega)
 obtain ⟨ar,cr,hvr,_⟩:=RL.len hr9
 obtain ⟨ap,cp,hvp,_⟩:=RL.len hp9
 obtain ⟨es,hE⟩:=RL.toEs hr9
 refine .seq (.sr (.mv O O (.mv O O ?_)))
 refine .call _ O X1 O (U8 hvr hvp) fun v10 w10 e10 h10=>.nil ?_
 obtain ⟨p1,p2,rfl,kp1,kp2,hp1,hp2⟩:=h10
 have hs9:=u9.size
 have hs10:=e10.size
 have x10:=x9.trans e10
 have hml:(redM A).length=(redP A).length:=B3 ..
 have hql:=hech.len
 refine .block (.range (AW0 (S:=fun k=>T k/\k<w7.heap.size) (m:=redM A) (p:=redP A) (es:=es) (va:=vr) (vb:=vp) (Nat.le_of_eq hml.symm) (by rw [hml];omega)) O AZ3 (fun k=>rfl) (by decide)
  (ParJ w (fun k=>T k/\k<w7.heap.size) b4 b5 b6 p1 p2 g (colsOf m) vr vp es A) (fun c W=>c=.ret/\ParX w b4 b5 (colsOf m) A W) (fun k W W' h hs=>h.sft hs x10.size)
  (fun c W W' h hs=>⟨h.1,h.2.low.trans (hs.below.mono x10.size),hs.cells.blk trivial h.2.k4,hs.cells.blk trivial h.2.k5,h.2.yes⟩) (fun k W h=>⟨h.kp1,h.kp2,h.r,h.p⟩) ?_ ?_ ?_ ?_)
 ·refine ⟨x10,k4.ext e10,k5.ext e10,k6.ext e10,kp1,kp2,?_,hE.ext e10,ER.ext eI hp9 e10,fun j hj=>by omega⟩
  have:tab (colsOf m) (partTo (redF A) (redP A) (colsOf m) 0)=List.replicate (colsOf m) q0:=by
   rw [<-P4 (colsOf m) (fun _=>q0)]
   unfold tab fil partTo
   apply List.map_congr_left
   intro k _
   simp [sumN,T4]
  rw [this];exact f9.ext e10
 ·intro l k W hk hJ
  refine .sr (.an O O (.region (.an O O ⟨rfl,rfl,fun W hJ hsz=>?_⟩)))
  obtain ⟨hlow,k4,k5,k6,kp1,kp2,hx,hrE,hpE,hno⟩:=hJ
  have hlws:=hlow.size
  refine .block (.seq (.sr (.mv O O (.ld A8 O O k6 O ?_))))
  by_cases hpc:(redP A).getD k 0=colsOf m
  ·refine .eqlT O O O (by rw [hpc]) (.nil (.condT O (.sr ?_)))
   refine .store ty_V O O k4 O (by simp) (by simp [one1,Value.cells]) fun W1 k41 u1=>?_
   refine .store B8 O O (k5.upd u1 (show b5≠b4 by omega)) O (by simp) (by simp [one1,Value.cells]) fun W2 k52 u2=>.nil (.ret ?_)
   refine ⟨(Oth.upd u1 k4).trans (Oth.upd u2 (k5.upd u1 (show b5≠b4 by omega))),rfl,u2.below (u1.below hlow (by omega)) (by omega),?_,?_,?_⟩
   ·have:Blk W1 b4 26 #[.slice none 0 0]:=k41
    exact this.upd u2 (show b4≠b5 by omega)
   ·exact k52
   ·rw [<-hpc];exact I6 hk
  ·refine .eqlF rfl rfl rfl (by intro e;exact hpc (by omega)) (.nil (.condF rfl (.skip ?_)))
   have hAp:0<A.length:=by omega
   have hcA:=hAc hAp
   have hpl:(redP A).getD k 0<colsOf m:=by have:=hech.lt k hk;omega
   have hrow:(redM A)[k]?=some (tab (colsOf A) (redF A k)):=G3 hk
   have hek:es[k]?=some (es.getD k nilV):=A4 (by rw [hrE.1.1,hml];exact hk)
   have hrw:=hrE.1.2 k _ _ hek hrow
   refine .par follows 6 [.inl (.slice (some ⟨g,0,none⟩) (colsOf m) (colsOf m)),.inl (.int .i64 ((redP A).getD k 0:Nat)),.inl (es.getD k nilV),.inl (.int .i64 (colsOf m:Nat)),.inr (Ptr eQ (fun k=>T k/\k<w7.heap.size) (qc (redF A k (colsOf m)))),.inr (eQ.at (fun k=>T k/\k<w7.heap.size) (qc (redF A k (colsOf m))))]
    [[],[],[],[],[(32,2),(33,3)],[(34,4)]] (by kernel_rfl) ⟨
    fun w e=>(v_ld ty_V O (k4.ext e) O).ob,fun w e=>(v_mv O).ob,fun w e=>(v_mv O).ob,fun w e=>(v_ld A8 O (k6.ext e) O).ob,
    fun w e=>D5 (i:=colsOf m) un_V ty_Q O (ER.ext eV hrw e) O (J7 (by omega)),
    fun w e p hp=>U9 ty_Q O hp,trivial⟩ ?_
   intro W1 e1 x4 _ x5 h5
   refine .ixB (i:=(redP A).getD k 0) un_V ty_Q O O O hpl ?_
   refine .storeF (E:=eQ) (i:=(redP A).getD k 0) (by decide) ty_Q O O (hx.ext e1) O (by rw [A2];exact hpl) (Nat.zero_add _) (eQ.mono (fun k _ hk=>⟨hk,by have:=hk.2;omega⟩) h5) fun W2 f2 u2=>.nil ?_
   rw [S8,<-Al5 hech hk] at f2
   have hgb:∀ {k},(T k/\k<w7.heap.size)->k≠g:=fun h=>by have:=h.2;omega
   have hgn:¬ (T g/\g<w7.heap.size):=fun h=>by have:=h.2;omega
   refine ⟨(Oth.ext e1).trans (by obtain ⟨es',hb',_⟩:=hx.ext e1;exact Oth.upd u2 hb'),u2.below (hlow.trans (e1.mono hlws)) (by omega),(k4.ext e1).upd u2 (by omega),(k5.ext e1).upd u2 (by omega),(k6.ext e1).upd u2 (by omega),(kp1.ext e1).upd u2 (by omega),(kp2.ext e1).upd u2 (by omega),f2,(hrE.ext e1).keep (Kp.upd u2 hgn),(ER.ext eI hpE e1).upd u2 hgn,fun j hj=>?_⟩
   by_cases ej:j=k
   ·rw [ej];exact hpc
   ·exact hno j (by omega)
 ·intro W hJ hD
  obtain ⟨hlow,k4,k5,k6,kp1,kp2,hx,hrE,hpE,hno⟩:=hJ
  have hlws:=hlow.size
  have hsolv:colsOf m∉redP A:=fun h=>by
   obtain ⟨j,hj,he⟩:=AS0 h
   exact hno j hj he
  refine .sr (.ld ty_V O O k4 O ?_)
  refine .store ty_V O O k4 O (by simp) (by simp [one1,Value.cells]) fun W1 k41 u1=>?_
  refine .store B8 O O (k5.upd u1 (show b5≠b4 by omega)) O (by simp) (by simp [one1,Value.cells]) fun W2 k52 u2=>.nil (.ret ?_)
  have k51:=k5.upd u1 (show b5≠b4 by omega)
  have hD2:=(Oth.upd u2 k51) _ _ ((Oth.upd u1 k4) _ _ hD O) rfl
  replace k41:Blk W2 b4 26 #[.slice (some ⟨g,0,none⟩) (colsOf m) (colsOf m)]:=by
   have:Blk W1 b4 26 #[.slice (some ⟨g,0,none⟩) (colsOf m) (colsOf m)]:=k41
   exact this.upd u2 (show b4≠b5 by omega)
  replace k52:Blk W2 b5 4 #[.bool true]:=k52
  have hb5n:¬ (T b5/\b5<w7.heap.size):=fun h=>hT5 h.1
  have hx2:=(hx.upd u1 (show g≠b4 by omega) hb4n).upd u2 (show g≠b5 by omega) hb5n
  have kp:=Kp.put (S:=fun _=>True) (o':=.deferred none) hD2 rfl
  have c4:=(kp.blk trivial k41).cell 0
  have c5:=(kp.blk trivial k52).cell 0
  refine .mark [_,_] Tryz.results151 hD2 ⟨⟨_,rfl,H0 ty_V c4⟩,⟨_,rfl,H0 B8 c5⟩,trivial⟩ ⟨K0 (u2.below (u1.below hlow (by omega)) (by omega)) x10.size,_,_,rfl,?_,?_⟩
  ·rw [if_pos (show colsOf m∉redP (augM m b) by rw [hA];exact hsolv)]
   have:=((hx2.kp kp).mono (S':=S) fun k _ h=>hTo k h.1).toR (c:=colsOf m) (hsz:=by decide) (up g (by omega)) (by rw [A2];exact Nat.le_refl _) (by rw [A2];omega)
   rw [A2] at this
   unfold solX
   rw [hA];exact this
  ·show Value.bool true=_
   rw [decide_eq_true (show colsOf m∉redP (augM m b) by rw [hA];exact hsolv)]
 ·rintro c W ⟨rfl,hlow,k4,k5,hyes⟩ hD
  refine .ret ?_
  have kp:=Kp.put (S:=fun _=>True) (o':=.deferred none) hD rfl
  have c4:=(kp.blk trivial k4).cell 0
  have c5:=(kp.blk trivial k5).cell 0
  refine .mark [_,_] Tryz.results151 hD ⟨⟨_,rfl,H0 ty_V c4⟩,⟨_,rfl,H0 B8 c5⟩,trivial⟩ ⟨K0 hlow x10.size,_,_,rfl,?_,?_⟩
  ·rw [if_neg (show ¬ colsOf m∉redP (augM m b) by rw [hA];exact fun h=>h hyes)]
   exact RL.nil
  ·show Value.bool false=_
   rw [decide_eq_false (show ¬ colsOf m∉redP (augM m b) by rw [hA];exact fun h=>h hyes)]
end Go.Proofs.YtpgkacdihhjknaaGreat
namespace Go.Kx
open Go Go.RowKit
def freeTo (p:List Nat) (i:Nat):List Nat:=(List.range i).filter fun k => !(decide (k∈p))
def freeC (m:List (List QV)):List Nat:=freeTo (redP m) (colsOf m)
def nullM (m:List (List QV)):List (List QV):=(freeC m).map fun k=>tab (colsOf m) (nv (redF m) (redP m) k)
def nvTo (g:RM) (p:List Nat) (k j:Nat):Nat->Rat:=fun c=>(if c=k then 1 else 0)-sumN j fun i=>if p.getD i 0=c then g i k else 0
theorem BB1 {n C:Nat} {g:RM} {p:List Nat} (h:Ech n C g p) {k j:Nat} (hj:j<p.length) (hk:k∉p) (hm:p.getD j 0∈p):nvTo g p k (j+1)=fun c=>if c=p.getD j 0 then-g j k else nvTo g p k j c:=by
 funext c
 unfold nvTo
 rw [sumN]
 by_cases e:c=p.getD j 0
 ·rw [if_pos e.symm,if_pos e,if_neg (fun e2=>hk (by rw [<-e2,e];exact hm)),E1 fun i hi=>by rw [if_neg (fun e2=>by have:=h.inj (by omega) hj (e2.trans e);omega)]]
  grind
 ·have h1:¬ p.getD j 0=c:=fun e2=>e e2.symm
  simp only [h1,e,if_false];grind
def bTo (p:List Nat) (j c:Nat):Bool:=(List.range j).any fun i=>Nat.beq (p.getD i 0) c
theorem bTo_set (p:List Nat) (C j:Nat):((List.range C).map (bTo p j)).set (p.getD j 0) true=(List.range C).map (bTo p (j+1)):=by
 have hs:∀ c,bTo p (j+1) c=(bTo p j c || Nat.beq (p.getD j 0) c):=fun c=>by unfold bTo;rw [List.range_succ];simp
 generalize p.getD j 0=q at *
 apply List.ext_getElem?
 intro c
 rw [List.getElem?_set]
 by_cases e:q=c
 ·subst e
  by_cases h:q<C
  ·simp [h,hs]
  ·simp [h]
 ·rw [if_neg e]
  by_cases h:c<C
  ·have hb:Nat.beq q c=false:=AA6 e
   simp only [List.getElem?_map,List.getElem?_range h,Option.map_some,hs,hb,Bool.or_false]
  ·simp [h]
theorem bTo_all {p:List Nat} {c:Nat}:bTo p p.length c=decide (c∈p):=by
 unfold bTo
 by_cases h:c∈p
 ·rw [decide_eq_true h,List.any_eq_true]
  obtain ⟨j,hj⟩:=List.mem_iff_getElem?.1 h
  have hl:j<p.length:=(List.getElem?_eq_some_iff.1 hj).1
  refine ⟨j,List.mem_range.2 hl,?_⟩
  rw [List.getD_eq_getElem?_getD,hj];simp
 ·rw [decide_eq_false h,List.any_eq_false]
  intro j hj hb
  have hl:=List.mem_range.1 hj
  apply h
  rw [<-Nat.eq_of_beq_eq_true hb,List.getD_eq_getElem?_getD,List.getElem?_eq_getElem hl]
  exact List.getElem_mem hl
end Go.Kx
namespace Go.Proofs.YtpgkacdihhjknaaGreat
open Go Go.Kx Go.RowKit
theorem un_B:Tryz.prog.underlying 165=some (.slice 4):=by kernel_rfl
theorem BG0:tyOf Tryz.prog 165=some (false,1):=by kernel_rfl
theorem zero_Bs:zeroOf Tryz.prog 165=some (.slice none 0 0):=by kernel_rfl
theorem info_B:infoOf Tryz.prog 4=some (.bool false,1,1):=by kernel_rfl
structure NulJ (w0:World) (T:Nat->Prop) (b6 p1 p2 gB C:Nat) (vr vp:Value) (es:List Value) (rM:List (List QV)) (p:List Nat) (k:Nat) (W:World):Prop where
 low:Below w0.heap.size w0 W
 k6:Blk W b6 165 #[.slice (some ⟨gB,0,none⟩) C C]
 kp1:Blk W p1 70 #[vr]
 kp2:Blk W p2 25 #[vp]
 x:FB eBool 4 (fun _=>True) W gB ((List.range C).map (bTo p k))
 r:EsR eV T W vr es rM
 p:eI.R T W vp (pInts p)
structure NulK (W0:World) (S:Nat->Prop) (b9 b10 p1 p2 h C k:Nat) (vr vp vb:Value) (g:RM) (p:List Nat) (j:Nat) (W:World):Prop where
 low:Below W0.heap.size W0 W
 k9:Blk W b9 3 #[.int .i64 (k:Nat)]
 k10:Blk W b10 26 #[.slice (some ⟨h,0,none⟩) C C]
 kp1:Blk W p1 70 #[vr]
 kp2:Blk W p2 25 #[vp]
 x:FB eQ 39 (fun k=>S k/\vb.ownBlock≠some k) W h (tab C (nvTo g p k j))
theorem AM8:Ent Tryz.prog 152:=A0 Tryz.func152 (by kernel_rfl) rfl
theorem AJ4 {S:Nat->Prop} {w:World} {vm:Value} {m:List (List QV)} {L n C:Nat} (up:Up S w) (hm:eM.R S w vm m) (ok:eOk L n C m) :
  CR Tryz.prog 152 #[vm] w (eM.at S (nullM m)):=by
 have hn:=ok.rows
 have hc:=ok.cols
 have hc1:=ok.c1
 have hech:=T1 m
 have hql:=hech.len
 have hrsz:∀ i k,i<m.length->k<colsOf m->Rsz (redF m i k) 40000000:=fun i k hi hk=>(AL9 ok.l1 (fun i k _ _=>ok.k.rsz ok.l1 i k) (colsOf m) (Nat.le_refl _) i k hi hk).mono (Nat.le_trans (AA7 L (Nat.le_trans (by have:=hech.len_c;omega:(redP m).length<=min m.length (colsOf m)) ok.mn)) ok.bd)
 refine enter Tryz.func152 O Tryz.ntmps152 O ?_
 refine .sr (.an O O (.sr (.mv O O ?_)))
 refine .call _ O AD6 O (AC5 up hm ok) fun v1 w1 e1 h1=>?_
 obtain ⟨vr,vp,rfl,hr1,hp1⟩:=h1
 refine .mv O O (.ext O O O (.ext O O O (.asg O O (.an O O (.sr (.mv O O ?_))))))
 refine .call _ O S2 O (R6 (hm.ext e1)) fun v2 w2 e2 h2=>.an O O ?_
 subst h2
 refine .sr (.mv O O ?_)
 refine .make_ _ _ un_B info_B O (by decide) O O O (Nat.le_refl _) (by omega) (by omega) fun w3 gB n3=>?_
 have f3:FB eBool 4 (fun _=>True) w3 gB (List.replicate (colsOf m) false):=FB.made n3 rfl
 obtain ⟨e3,_,hgB,hs3⟩:=n3
 refine .alloc O zero_Bs fun w4 b6 n4=>?_
 obtain ⟨e4,k6,hb6,hs4⟩:=n4
 refine .store BG0 O O k6 O (by simp [Value.cells]) (by simp [one1,Value.cells]) fun w5 k6 u5=>.nil ?_
 replace k6:Blk w5 b6 165 #[.slice (some ⟨gB,0,none⟩) (colsOf m) (colsOf m)]:=k6
 have hs1:=e1.size
 have hs2:=e2.size
 have hs5:=u5.size
 have x24:=(e2.trans e3).trans e4
 have hr5:eM.R (fun k=>S k/\k<w1.heap.size) w5 vr (redM m):=(ER.ext eM (ER.lt eM hr1) x24).upd u5 (fun h=>by have:=h.2;omega)
 have hp5:eI.R (fun k=>S k/\k<w1.heap.size) w5 vp (pInts (redP m)):=(ER.ext eI (ER.lt eI hp1) x24).upd u5 (fun h=>by have:=h.2;omega)
 have f5:FB eBool 4 (fun _=>True) w5 gB (List.replicate (colsOf m) false):=by
  obtain ⟨es,hb,he⟩:=f3.ext e4
  exact ⟨es,hb.upd u5 (by omega),he.1,fun i e x h1 h2=>he.2 i e x h1 h2⟩
 have x5:Ext w w5:=u5.below (e1.trans x24) (by omega)
 obtain ⟨ar,cr,hvr,_⟩:=RL.len hr5
 obtain ⟨ap,cp,hvp,_⟩:=RL.len hp5
 obtain ⟨es,hE5⟩:=RL.toEs hr5
 have hml:(redM m).length=(redP m).length:=B3 ..
 refine .midD (α:=Nat) (fun _=>[(3,vr),(4,vp),(5,.int .i64 (colsOf m:Nat)),(6,.pointer (some ⟨b6,0,none⟩))]) (fun D1=>[mkD D1])
  (fun D1 W=>Below w.heap.size w W/\Blk W b6 165 #[.slice (some ⟨gB,0,none⟩) (colsOf m) (colsOf m)]/\FB eBool 4 (fun _=>True) W gB ((List.range (colsOf m)).map (bTo (redP m) (redP m).length))/\EsR eV (fun k=>S k/\k<w1.heap.size) W vr es (redM m)/\eI.R (fun k=>S k/\k<w1.heap.size) W vp (pInts (redP m))/\W.heap[D1]?=some (.deferred (some []))/\w.heap.size<=D1) ?_ ?_
 ·refine .sr (.mv O O (.mv O O ?_))
  refine .call _ O X1 O (U8 hvr hvp) fun v6 w6 e6 h6=>.nil ?_
  obtain ⟨p1,p2,rfl,kp1,kp2,hp1',hp2'⟩:=h6
  have x6:=x5.trans e6
  refine .block (.range (AW0 (S:=fun k=>S k/\k<w1.heap.size) (m:=redM m) (p:=redP m) (es:=es) (va:=vr) (vb:=vp) (Nat.le_of_eq hml.symm) (by rw [hml];omega)) O AZ3 (fun k=>rfl) (by decide)
   (NulJ w (fun k=>S k/\k<w1.heap.size) b6 p1 p2 gB (colsOf m) vr vp es (redM m) (redP m)) (fun _ _=>False)
   (fun k W W' h hs=>⟨h.low.trans (hs.below.mono x6.size),hs.cells.blk trivial h.k6,hs.cells.blk trivial h.kp1,hs.cells.blk trivial h.kp2,h.x.kp hs.cells,h.r.keep (fun k c t f _ hc=>hs.cells k c t f trivial hc),eI.keep (fun k c t f _ hc=>hs.cells k c t f trivial hc) h.p⟩)
   (fun _ _ _ h _=>h.elim) (fun k W h=>⟨h.kp1,h.kp2,h.r,h.p⟩) ?_ ?_ ?_ (fun _ _ h=>h.elim))
  ·refine ⟨x6,k6.ext e6,kp1,kp2,?_,hE5.ext e6,ER.ext eI hp5 e6⟩
   have:(List.range (colsOf m)).map (bTo (redP m) 0)=List.replicate (colsOf m) false:=by
    rw [<-P4 (colsOf m) (fun _=>false)]
    unfold fil
    apply List.map_congr_left
    intro k _
    simp [bTo]
   rw [this];exact f5.ext e6
  ·intro l k W hk hJ
   refine .region (.an O O ⟨rfl,rfl,fun W hJ hsz=>?_⟩)
   obtain ⟨hlow,k6,kp1,kp2,hx,hrE,hpE⟩:=hJ
   have hlws:=hlow.size
   have hpl:=hech.lt k hk
   refine .block (.region (.ld BG0 O O k6 O (.mv O O (.ixB (i:=(redP m).getD k 0) un_B B8 O O O hpl ?_))))
   refine .storeF (E:=eBool) (i:=(redP m).getD k 0) (z:=true) (by decide) B8 O O hx O (by simp;exact hpl) (Nat.zero_add _) O fun W2 f2 u2=>.nil ?_
   rw [bTo_set] at f2
   have hgn:¬ (S gB/\gB<w1.heap.size):=fun h=>by have:=h.2;omega
   exact ⟨by obtain ⟨es',hb',_⟩:=hx;exact Oth.upd u2 hb',u2.below hlow (by omega),k6.upd u2 (by omega),kp1.upd u2 (by omega),kp2.upd u2 (by omega),f2,hrE.keep (Kp.upd u2 hgn),ER.upd eI hpE u2 hgn⟩
  ·intro W hJ hD
   exact ⟨w6.heap.size,rfl,lkA rfl,hJ.low,hJ.k6,hJ.x,hJ.r,hJ.p,hD,x6.size⟩
 rintro D1 w6 ⟨hlow6,k6,fB,hE6,hp6,hD1,hD1w⟩
 have hs6:=hlow6.size
 have hk6l:=k6.lt
 have hfBl:=fB.lt
 have hw16:w1.heap.size<=w6.heap.size:=by omega
 have hD1l:D1<w6.heap.size:=(Array.getElem?_eq_some_iff.1 hD1).1
 refine .sr (.an O O ?_)
 refine .midD (α:=Value×List Nat) (fun y=>[(8,y.1)]) (fun y=>y.2.map mkD)
  (fun y W=>Below w6.heap.size w6 W/\OwnL eV 26 w6.heap.size S W y.1 (nullM m)/\y.2.Nodup/\∀ D∈y.2,W.heap[D]?=some (.deferred (some []))/\w.heap.size<=D) ?_ ?_
 rotate_left
 ·rintro ⟨vb,ns⟩ W ⟨hB,ho,hnd,hns⟩
  refine .sr (.mv O O (.an O O (.ret ?_)))
  have hD:∀ D∈ns,W.heap[D]?=some (.deferred (some [])):=fun D h=>(hns D h).1
  refine Leave.marks [_] Tryz.results152 ns W hnd hD ⟨rfl,trivial⟩ ⟨AM4 ns W (fun D h=>(hns D h).2) (hlow6.trans (hB.mono hs6)),?_⟩
  exact (ho.kp (Ac7 ns W hnd hD)).toR (fun k hk=>up k (by omega)) (fun _ h=>h)
 refine .sr (.mv O O (.mv O O (.nil ?_)))
 refine .block (.loopD (α:=Nat×Value×List Nat) (fun y=>[(3,vr),(4,vp),(5,.int .i64 (colsOf m:Nat)),(6,.pointer (some ⟨b6,0,none⟩)),(8,y.2.1),(30,.int .i64 (colsOf m:Nat)),(31,.int .i64 (y.1:Nat))]) (fun y=>y.2.2.map mkD)
  (fun y W=>Below w6.heap.size w6 W/\y.1<=colsOf m/\OwnL eV 26 w6.heap.size S W y.2.1 ((freeTo (redP m) y.1).map fun k=>tab (colsOf m) (nv (redF m) (redP m) k))/\y.2.2.Nodup/\∀ D∈y.2.2,W.heap[D]?=some (.deferred (some []))/\w.heap.size<=D)
  (fun y=>colsOf m-y.1) (0,.slice none 0 0,[D1]) ?_ O ?_ ?_)
 ·exact lkA rfl
 ·exact ⟨Below.refl _ _,Nat.zero_le _,OwnL.nil,by simp,fun D hD=>by simp at hD;subst hD;exact ⟨hD1,hD1w⟩⟩
 rintro ⟨i,vb,ns⟩ W ⟨hB,hi,ho,hnd,hns⟩
 replace hi:i<=colsOf m:=hi
 replace ho:OwnL eV 26 w6.heap.size S W vb ((freeTo (redP m) i).map fun k=>tab (colsOf m) (nv (redF m) (redP m) k)):=ho
 replace hnd:ns.Nodup:=hnd
 replace hns:∀ D∈ns,W.heap[D]?=some (.deferred (some []))/\w.heap.size<=D:=hns
 refine .weak [(3,vr),(4,vp),(5,.int .i64 (colsOf m:Nat)),(6,.pointer (some ⟨b6,0,none⟩)),(8,vb),(30,.int .i64 (colsOf m:Nat)),(31,.int .i64 (i:Nat))] (fun t v h=>h) ?_
 show WC Tryz.prog none _ _ _ _ (ns.map mkD) W
 have hsW:=hB.size
 have kB:∀ {W':World},Below w6.heap.size w6 W'->Blk W' b6 165 #[.slice (some ⟨gB,0,none⟩) (colsOf m) (colsOf m)]:=fun h=>(h.block b6 hk6l).trans k6
 have fBW:∀ {W':World},Below w6.heap.size w6 W'->FB eBool 4 (fun _=>True) W' gB ((List.range (colsOf m)).map (bTo (redP m) (redP m).length)):=fun {W'} h=>by
  obtain ⟨es',hb',he'⟩:=fB
  exact ⟨es',(h.block gB hfBl).trans hb',he'.1,fun i e x h1 h2=>he'.2 i e x h1 h2⟩
 have hEW:∀ {W':World},Below w6.heap.size w6 W'->EsR eV (fun k=>S k/\k<w1.heap.size) W' vr es (redM m):=fun h=>hE6.keep (fun k c t f hk hc=>(h.block k (by have:=hk.2;omega)).trans hc)
 have hpW:∀ {W':World},Below w6.heap.size w6 W'->eI.R (fun k=>S k/\k<w1.heap.size) W' vp (pInts (redP m)):=fun h=>eI.keep (fun k c t f hk hc=>(h.block k (by have:=hk.2;omega)).trans hc) hp6
 rcases Nat.lt_or_ge i (colsOf m) with hlt | hge
 rotate_left
 ·refine .sr (.lssF O O O (by omega) (.nil (.seq (.condF O (.exit ?_)))))
  have:i=colsOf m:=by omega
  subst this
  exact ⟨(vb,ns),rfl,lkA rfl,hB,ho,hnd,hns⟩
 refine .sr (.lssT O O O (by omega) (.nil (.seq (.condT O (.skip (.seq (.block (.sr (.mv O O (.alloc O AV6 fun Wa b9 n9=>?_))))))))))
 obtain ⟨e9,k9,hb9,hs9⟩:=n9
 refine .store A8 O O k9 O (by simp [Value.cells]) (by simp [one1,Value.cells]) fun Wb k9 u9=>.nil ?_
 replace k9:Blk Wb b9 3 #[.int .i64 (i:Nat)]:=k9
 have xb:Ext W Wb:=u9.below e9 (by omega)
 have hsb:=u9.size
 have hBb:Below w6.heap.size w6 Wb:=hB.trans (xb.mono hsW)
 refine .seq (.sr (.ld BG0 O O (kB hBb) O (.ld A8 O O k9 O (.ixB (i:=i) un_B B8 O O O hlt ?_))))
 have hbi:((List.range (colsOf m)).map (bTo (redP m) (redP m).length))[i]?=some (decide (i∈redP m)):=by
  rw [List.getElem?_map,List.getElem?_range hlt,Option.map_some,bTo_all]
 refine .ldF (E:=eBool) (i:=i) (by decide) B8 O O (Nat.zero_add _) (fBW hBb) hbi fun eb heb=>.nil ?_
 replace heb:eb=.bool (decide (i∈redP m)):=heb
 subst heb
 have hfs:freeTo (redP m) (i+1)=freeTo (redP m) i++if i∈redP m then [] else [i]:=by
  unfold freeTo
  rw [List.range_succ,List.filter_append]
  congr 1
  by_cases h:i∈redP m<;>simp [h]
 have hnsb:∀ {W':World},Ext W W'->∀ D∈ns,W'.heap[D]?=some (.deferred (some []))/\w.heap.size<=D:=fun e D hD=>⟨(e.block D (Array.getElem?_eq_some_iff.1 (hns D hD).1).1).trans (hns D hD).1,(hns D hD).2⟩
 by_cases hip:i∈redP m
 ·rw [decide_eq_true hip]
  refine .condT O (.exit (.region (.add O O O (.mv O O (.nil ?_)))))
  rw [wI (by omega)]
  refine ⟨(i+1,vb,ns),rfl,lkA rfl,⟨hBb,hlt,?_,hnd,hnsb xb⟩,by show colsOf m-(i+1)<colsOf m-i;omega⟩
  show OwnL eV 26 w6.heap.size S Wb vb _
  rw [hfs,if_pos hip,List.append_nil];exact ho.ext xb
 rw [decide_eq_false hip]
 refine .condF O (.skip (.sr (.mv O O ?_)))
 refine .make_ _ _ un_V P8 O (by decide) O O O (Nat.le_refl _) (by omega) (by omega) fun Wc h nc=>?_
 have fc:FB eQ 39 (fun k=>S k/\vb.ownBlock≠some k) Wc h (List.replicate (colsOf m) q0):=FB.made nc zq_R
 obtain ⟨ec,_,hh,hsc⟩:=nc
 refine .alloc O Ap9 fun Wd b10 nd=>?_
 obtain ⟨ed,k10,hb10,hsd⟩:=nd
 refine .store ty_V O O k10 O (by simp [Value.cells]) (by simp [one1,Value.cells]) fun We k10 ue=>.nil ?_
 replace k10:Blk We b10 26 #[.slice (some ⟨h,0,none⟩) (colsOf m) (colsOf m)]:=k10
 have xbe:Ext Wb We:=ue.below (ec.trans ed) (by omega)
 have xe:Ext W We:=xb.trans xbe
 have hse:=ue.size
 have k9:=k9.ext xbe
 have fe:FB eQ 39 (fun k=>S k/\vb.ownBlock≠some k) We h (List.replicate (colsOf m) q0):=by
  obtain ⟨es',hb',he'⟩:=fc.ext ed
  refine ⟨es',hb'.upd ue (by omega),he'.1,fun i e x h1 h2=>?_⟩
  have hz:x=q0:=by
   have:=List.mem_iff_getElem?.2 ⟨i,h2⟩
   exact (List.mem_replicate.1 this).2
  have hlt':=ER.lt eQ (he'.2 i e x h1 h2)
  subst hz
  obtain ⟨s,t,hv,hs',ht'⟩:=hlt'
  refine ⟨s,t,hv,?_,?_⟩
  ·obtain ⟨es2,g1,a2,c2,g2,g3,g4,g5,g6⟩:=hs'
   exact ⟨es2,⟨g1.1,fun i e x h1 h2=>g1.2 i e x h1 h2⟩,a2,c2,g2,g3,g4,g5,fun h=>absurd h (by simp [q0])⟩
  ·obtain ⟨es2,g1,a2,c2,g2,g3,g4,g5,g6⟩:=ht'
   exact ⟨es2,⟨g1.1,fun i e x h1 h2=>g1.2 i e x h1 h2⟩,a2,c2,g2,g3,g4,g5,fun h=>absurd h (by simp [q0])⟩
 have hown:∀ k,vb.ownBlock=some k->w6.heap.size<=k/\k<W.heap.size:=by
  obtain ⟨es',h1,_⟩:=ho
  exact fun k hk=>h1.lt k hk
 have upQ:∀ {W':World},We.heap.size<=W'.heap.size->Up (fun k=>(S k/\vb.ownBlock≠some k)/\k≠h) W':=fun hs k hk=>⟨⟨up k (by omega),fun hh'=>by have:=(hown k hh').2;omega⟩,by omega⟩
 refine .seq ?_
 refine .par follows 3 [.inl (.slice (some ⟨h,0,none⟩) (colsOf m) (colsOf m)),.inl (.int .i64 (i:Nat)),.inr (eQ.at (fun k=>(S k/\vb.ownBlock≠some k)/\k≠h) (qc ((1:Int):Rat)))] [[],[],[]] (by kernel_rfl) ⟨
  fun w e=>(v_ld ty_V O (k10.ext e) O).ob,fun w e=>(v_ld A8 O (k9.ext e) O).ob,
  fun w e=>(A5 _ G1 O (G0 (upQ e.size) (by decide) (by decide))).ob (A9 _ _ _),trivial⟩ ?_
 intro Wf ef x2 hx2
 refine .ixB (i:=i) un_V ty_Q O O O hlt ?_
 refine .storeF (E:=eQ) (i:=i) (by decide) ty_Q O O (fe.ext ef) O (by simp;exact hlt) (Nat.zero_add _) hx2 fun Wg fg ug=>.nil ?_
 have hunit:(List.replicate (colsOf m) q0).set i (qc ((1:Int):Rat))=tab (colsOf m) (nvTo (redF m) (redP m) i 0):=by
  have h0:List.replicate (colsOf m) q0=tab (colsOf m) fun _=>0:=by
   unfold tab;simp only [T4];rw [List.map_const',List.length_range]
  rw [h0,S8]
  refine F5 fun k _=>?_
  unfold nvTo
  rw [sumN]
  by_cases e:k=i
  ·rw [if_pos e,if_pos e];grind
  ·rw [if_neg e,if_neg e];grind
 rw [hunit] at fg
 have xg:Ext W Wg:=ug.below (xe.trans ef) (by omega)
 have hsf:=ef.size
 have hsg:=ug.size
 have k9:=(k9.ext ef).upd ug (show b9≠h by omega)
 have k10:=(k10.ext ef).upd ug (show b10≠h by omega)
 refine .midD (α:=Nat) (fun _=>[(3,vr),(4,vp),(5,.int .i64 (colsOf m:Nat)),(6,.pointer (some ⟨b6,0,none⟩)),(8,vb),(30,.int .i64 (colsOf m:Nat)),(31,.int .i64 (i:Nat)),(10,.pointer (some ⟨b10,0,none⟩))]) (fun D=>(D::ns).map mkD)
  (fun D Wz=>Ext W Wz/\Blk Wz b10 26 #[.slice (some ⟨h,0,none⟩) (colsOf m) (colsOf m)]/\FB eQ 39 (fun k=>S k/\vb.ownBlock≠some k) Wz h (tab (colsOf m) (nv (redF m) (redP m) i))/\Wz.heap[D]?=some (.deferred (some []))/\W.heap.size<=D) ?_ ?_
 ·refine .sr (.mv O O (.mv O O ?_))
  refine .call _ O X1 O (U8 hvr hvp) fun v7 Wh eh h7=>.nil ?_
  obtain ⟨p1,p2,rfl,kp1,kp2,hp1',hp2'⟩:=h7
  have xh:=xg.trans eh
  have hBl:∀ {W':World},Below W.heap.size W W'->Below w6.heap.size w6 W':=fun hh'=>hB.trans (hh'.mono hsW)
  refine .block (.range (AW0 (S:=fun k=>S k/\k<w1.heap.size) (m:=redM m) (p:=redP m) (es:=es) (va:=vr) (vb:=vp) (Nat.le_of_eq hml.symm) (by rw [hml];omega)) O AZ3 (fun k=>rfl) (by decide)
   (NulK W S b9 b10 p1 p2 h (colsOf m) i vr vp vb (redF m) (redP m)) (fun _ _=>False)
   (fun k W' W'' hh' hs=>⟨hh'.low.trans (hs.below.mono xh.size),hs.cells.blk trivial hh'.k9,hs.cells.blk trivial hh'.k10,hs.cells.blk trivial hh'.kp1,hs.cells.blk trivial hh'.kp2,hh'.x.kp hs.cells⟩)
   (fun _ _ _ hh' _=>hh'.elim) (fun k W' hh'=>⟨hh'.kp1,hh'.kp2,hEW (hBl hh'.low),hpW (hBl hh'.low)⟩) ?_ ?_ ?_ (fun _ _ hh'=>hh'.elim))
  ·exact ⟨xh,k9.ext eh,k10.ext eh,kp1,kp2,fg.ext eh⟩
  ·intro l j W' hj hJ
   refine .sr (.an O O (.region (.an O O ⟨rfl,rfl,fun W' hJ hsz=>?_⟩)))
   obtain ⟨hlow,k9,k10,kp1,kp2,hx⟩:=hJ
   have hlws:=hlow.size
   have hpl:=hech.lt j hj
   have hrow:(redM m)[j]?=some (tab (colsOf m) (redF m j)):=G3 hj
   have hrE:=hEW (hBl hlow)
   have hek:es[j]?=some (es.getD j nilV):=A4 (by rw [hrE.1.1,hml];exact hj)
   have hrw:=hrE.1.2 j _ _ hek hrow
   have hTq:∀ k,(S k/\k<w1.heap.size)->((S k/\vb.ownBlock≠some k)/\k≠h):=fun k hk=>⟨⟨hk.1,fun hh'=>by have:=(hown k hh').1;have:=hk.2;omega⟩,by have:=hk.2;omega⟩
   have hrw':=eV.mono (fun k _ hk=>hTq k hk) hrw
   have hsWh:We.heap.size<=W'.heap.size:=by have:=eh.size;omega
   refine .block (.par follows 7 [.inl (.slice (some ⟨h,0,none⟩) (colsOf m) (colsOf m)),.inl (.int .i64 ((redP m).getD j 0:Nat)),.inl (es.getD j nilV),.inl (.int .i64 (i:Nat)),.inr (Ptr eQ (fun k=>(S k/\vb.ownBlock≠some k)/\k≠h) (qc (redF m j i))),.inr (eQ.at (fun k=>(S k/\vb.ownBlock≠some k)/\k≠h) (qc (redF m j i))),.inr (eQ.at (fun k=>(S k/\vb.ownBlock≠some k)/\k≠h) (qc (-(redF m j i))))]
    [[],[],[],[],[(51,2),(52,3)],[(53,4)],[(54,5)]] (by kernel_rfl) ⟨
    fun w e=>(v_ld ty_V O (k10.ext e) O).ob,fun w e=>(v_mv O).ob,fun w e=>(v_mv O).ob,fun w e=>(v_ld A8 O (k9.ext e) O).ob,
    fun w e=>D5 (i:=i) un_V ty_Q O (ER.ext eV hrw' e) O (J7 hlt),
    fun w e p hp=>U9 ty_Q O hp,
    fun w e x hx=>by
     have:=AI0 (L:=40000000) (upQ (Nat.le_trans hsWh e.size)) hx (R0 (hrsz j i (by omega) hlt)) (by decide) (by decide)
     rw [B9] at this
     exact (A5 _ AI5 O this).ob (A9 _ _ _),trivial⟩ ?_)
   intro W1 e1' x4 _ x5 _ x6 h6
   refine .ixB (i:=(redP m).getD j 0) un_V ty_Q O O O hpl ?_
   refine .storeF (E:=eQ) (i:=(redP m).getD j 0) (by decide) ty_Q O O (hx.ext e1') O (by rw [A2];exact hpl) (Nat.zero_add _) h6 fun W2 f2 u2=>.nil ?_
   rw [S8,<-BB1 hech hj hip (I6 hj)] at f2
   exact ⟨(Oth.ext e1').trans (by obtain ⟨es',hb',_⟩:=hx.ext e1';exact Oth.upd u2 hb'),u2.below (hlow.trans (e1'.mono hlws)) (by omega),(k9.ext e1').upd u2 (by omega),(k10.ext e1').upd u2 (by omega),(kp1.ext e1').upd u2 (by omega),(kp2.ext e1').upd u2 (by omega),f2⟩
  ·intro W' hJ hD
   exact ⟨Wh.heap.size,rfl,lkA rfl,hJ.low,hJ.k10,hJ.x,hD,xh.size⟩
 rintro D Wz ⟨xz,k10,fz,hDz,hDW⟩
 have hsz:=xz.size
 have hBz:Below w6.heap.size w6 Wz:=hB.trans (xz.mono hsW)
 have hoz:=ho.ext xz
 have hrow:eV.R (fun k=>S k/\vb.ownBlock≠some k) Wz (.slice (some ⟨h,0,none⟩) (colsOf m) (colsOf m)) (tab (colsOf m) (nv (redF m) (redP m) i)):=by
  have:=fz.toR (c:=colsOf m) (hsz:=by decide) ⟨up h (by omega),fun hh'=>by have:=(hown h hh').2;omega⟩ (by rw [A2];exact Nat.le_refl _) (by rw [A2];omega)
  rwa [A2] at this
 refine .region (.mv O O (.ld ty_V O O k10 O (.bsl _ O O BM6 fun Wy by_ ny=>?_)))
 obtain ⟨ey,ky,hby,hsy⟩:=ny
 have hfl:(freeTo (redP m) i).length<=i:=by
  unfold freeTo
  have:=List.length_filter_le (fun k => !(decide (k∈redP m))) (List.range i)
  simpa using this
 refine .gv O O (AH8 (E:=eV) (base:=w6.heap.size) (n:=tab (colsOf m) (nv (redF m) (redP m) i)) (e:=.slice (some ⟨h,0,none⟩) (colsOf m) (colsOf m)) (by decide) un_M Ag2 O O O (hoz.ext ey) ky (hrow.ext ey) (by simp;omega) (by decide) (by have:=ey.size;omega)) ?_
 rintro v8 W8 ⟨ho8,hg8⟩
 refine .an O O (.region (.add O O O (.mv O O (.nil ?_))))
 rw [wI (by omega)]
 have hoth:Oth Wz W8:=(Oth.ext ey).trans ((hoz.ext ey).oth hg8)
 have hnsz:=hnsb xz
 refine ⟨(i+1,v8,D::ns),rfl,lkA rfl,⟨(hoz.ext ey).below hg8 (hBz.trans (ey.mono hBz.size)) (by have:=ey.size;omega),hlt,?_,?_,?_⟩,by show colsOf m-(i+1)<colsOf m-i;omega⟩
 ·show OwnL eV 26 w6.heap.size S W8 v8 _
  rw [hfs,if_neg hip,List.map_append];exact ho8
 ·refine List.nodup_cons.2 ⟨fun hmem=>?_,hnd⟩
  have:=(Array.getElem?_eq_some_iff.1 (hns D hmem).1).1
  omega
 ·intro D' hD'
  rcases List.mem_cons.1 hD' with rfl | hD'
  ·exact ⟨hoth _ _ hDz rfl,by omega⟩
  ·exact ⟨hoth _ _ (hnsz D' hD').1 rfl,(hnsz D' hD').2⟩
theorem Ab2:Ent Tryz.prog 101:=A0 Tryz.func101 (by kernel_rfl) rfl
theorem Aa3 {S:Nat->Prop} {w:World} {vm vb:Value} {m:List (List QV)} {b:List QV} {L n:Nat} (up:Up S w) (hm:eM.R S w vm m) (hb:eV.R S w vb b) (hkm:mk_ L m) (hkb:vk L b) (hL:1<=L) (hr:m.length<=100) (hl:b.length<=100) (hc:colsOf m<=90) (hmn:min (max m.length b.length) (colsOf m+1)<=n) (hbd:bd L n<=40000000) :
  CR Tryz.prog 101 #[vm,vb] w (Three (eV.at S (if solvable m b then solX m b else [])) (eM.at S (if solvable m b then nullM m else [])) (Is (.int .i64 (if solvable m b then 0 else 8)))):=by
 refine enter Tryz.func101 O Tryz.ntmps101 O (.sr (.asg O O (.asg O O (.an O O (.sr (.mv O O (.mv O O (.call _ O AI3 O (AH4 up hm hb hkm hkb hL hr hl hc hmn hbd) fun v1 w1 e1 h1=>?_))))))))
 obtain ⟨vx,vi,rfl,hx,hi⟩:=h1
 subst hi
 refine .mv O O (.ext O O O (.ext O O O (.asg O O (.an O O (.seq (.sr (.mv O O (.not_ O O (.nil ?_)))))))))
 by_cases hs:solvable m b
 ·rw [decide_eq_true hs]
  refine .condF O (.skip (.sr (.mv O O (.mv O O (.call _ O AM8 O (AJ4 (L:=L) (n:=n) (C:=100) (up.ext e1.size) (hm.ext e1) ⟨hkm,hL,hbd,by omega,hr,by omega,Nat.le_refl _⟩) fun v2 w2 e2 h2=>.asg O O (.asg O O (.an O O (.ret (.plain [_,_,_] Tryz.results101 ⟨rfl,rfl,rfl,trivial⟩ ⟨e1.trans e2,_,_,_,rfl,?_,?_,?_⟩)))))))))
  ·exact ER.ext eV hx e2
  ·rw [if_pos hs];exact h2
  ·show _=_
   rw [if_pos hs]
 ·rw [decide_eq_false hs]
  refine .condT O (.sr (.asg O O (.asg O O (.an O O (.ret (.plain [_,_,_] Tryz.results101 ⟨rfl,rfl,rfl,trivial⟩ ⟨e1,_,_,_,rfl,?_,?_,?_⟩))))))
  ·rw [if_neg hs];exact RL.nil
  ·rw [if_neg hs];exact RL.nil
  ·show _=_
   rw [if_neg hs]
end Go.Proofs.YtpgkacdihhjknaaGreat
namespace Go.Kx
open Go Go.RowKit
def invF (m:List (List QV)):RM:=fun i k=>if k<m.length then rm m i k else idR i (k-m.length)
def invE (m:List (List QV)):RM×List Nat:=elim m.length (invF m) m.length
def invM (m:List (List QV)):List (List QV):=tabM m.length m.length fun i k=>(invE m).1 i (m.length+k)
abbrev invertible (m:List (List QV)):Prop:=¬ (invE m).2.length<m.length
end Go.Kx
namespace Go.Proofs.YtpgkacdihhjknaaGreat
open Go Go.Kx Go.RowKit
end Go.Proofs.YtpgkacdihhjknaaGreat
namespace Go.Kx
section
variable {n N C CA:Nat} {g A:RM} {p:List Nat}
theorem BH9 (h:Ech n CA g p) {D:Nat} (hp:∀ j,j<p.length->p.getD j 0<C) (a:Nat->Rat):sumN C (fun k=>a k*partF g p D k)=sumN p.length fun j=>a (p.getD j 0)*g j D:=by
 have e1:∀ k,a k*partF g p D k=sumN p.length fun j=>if p.getD j 0=k then a (p.getD j 0)*g j D else 0:=by
  intro k
  unfold partF partTo
  rw [<-M5]
  refine A1 fun j _=>?_
  by_cases e:p.getD j 0=k
  ·rw [if_pos e,if_pos e,e]
  ·rw [if_neg e,if_neg e,Rat.mul_zero]
 rw [A1 fun k _=>e1 k,L5]
 refine A1 fun j hj=>?_
 rw [E2 (i:=p.getD j 0) (fun k _ hk=>by rw [if_neg (fun e=>hk e.symm)]),if_pos (hp j hj),if_pos rfl]
theorem sol_of (he:Ech N (C+1) g p) (hq:Req N (C+1) A g) (hp:∀ j,j<p.length->p.getD j 0≠C):∀ i,i<N->sumN C (fun k=>A i k*partF g p C k)=A i C:=by
 have hp':∀ j,j<p.length->p.getD j 0<C:=fun j hj=>by have:=he.lt j hj;have:=hp j hj;omega
 have key:∀ i,i<N->sumN (C+1) (fun k=>g i k*(if k=C then -1 else partF g p C k))=0:=by
  intro i hi
  rw [sumN,if_pos rfl,A1 (g:=fun k=>g i k*partF g p C k) fun k hk=>by rw [if_neg (by omega)],BH9 he hp']
  rw [E2 (i:=i) (fun j hj hne=>by rw [he.one i j hi hj,if_neg (fun e=>hne e.symm),Rat.zero_mul])]
  split
  ·rename_i hj;rw [he.one i i hi hj,if_pos rfl];grind
  ·rename_i hj;rw [he.nil i C (by omega) hi (by omega)];grind
 intro i hi
 have:=Spn.dot0 (hq.2 i hi) key
 rw [sumN,if_pos rfl,A1 (g:=fun k=>A i k*partF g p C k) fun k hk=>by rw [if_neg (by omega)]] at this
 grind
theorem no_sol (he:Ech N (C+1) g p) (hq:Req N (C+1) A g) {j:Nat} (hj:j<p.length) (hC:p.getD j 0=C):∃ t:Nat->Rat,(∀ k,k<C->sumN N (fun i=>t i*A i k)=0)/\sumN N (fun i=>t i*A i C)=1:=by
 have hN:=he.len
 obtain ⟨t,ht⟩:=hq.1 j (by omega)
 refine ⟨t,fun k hk=>?_,?_⟩
 ·rw [<-ht k (by omega)];exact he.low j k hj (by omega)
 ·rw [<-ht C (by omega)]
  have:=he.one j j (by omega) hj
  rw [hC,if_pos rfl] at this;exact this
theorem sol_no {x t:Nat->Rat} (hx:∀ i,i<N->sumN C (fun k=>A i k*x k)=A i C) (ht:∀ k,k<C->sumN N (fun i=>t i*A i k)=0):sumN N (fun i=>t i*A i C)=0:=by
 have e1:sumN N (fun i=>t i*A i C)=sumN N fun i=>sumN C fun k=>(t i*A i k)*x k:=A1 fun i hi=>by
  rw [<-hx i hi,<-M5]
  exact A1 fun k _=>by grind
 rw [e1,L5]
 exact E1 fun k hk=>by rw [O4,ht k hk,Rat.zero_mul]
end
theorem BL5 {n:Nat} {f:RM}:∀ c,elimD n f c≠0
 | 0=>by show (1:Rat)≠0;decide
 | c+1=>by
  have ih:=BL5 (n:=n) (f:=f) c
  have e2:elimD n f (c+1)=estepD n c (elim n f c) (elimD n f c):=rfl
  rw [e2]
  unfold estepD
  split
  ·exact ih
  ·rename_i r hr
   obtain ⟨_,_,h3,_⟩:=J3 hr
   refine fun h=>?_
   rcases Rat.mul_eq_zero.1 h with h | h
   ·split at h
    ·exact ih h
    ·exact ih (by grind)
   ·exact h3 h
theorem Ech.nodup {n c:Nat} {g:RM} {p:List Nat} (h:Ech n c g p):p.Nodup:=by
 rw [List.nodup_iff_pairwise_ne,List.pairwise_iff_getElem]
 intro i j hi hj hij
 have:=h.mono hij hj
 rw [List.getD_eq_getElem?_getD,List.getD_eq_getElem?_getD,List.getElem?_eq_getElem hi,List.getElem?_eq_getElem hj] at this
 simp at this
 omega
theorem AX4 {p:List Nat} (hn:p.Nodup):∀ i,(freeTo p i).length+p.countP (fun k=>decide (k<i))=i
 | 0=>by unfold freeTo;simp
 | i+1=>by
  have ih:=AX4 hn i
  have h1:(freeTo p (i+1)).length=(freeTo p i).length+if i∈p then 0 else 1:=by
   unfold freeTo
   rw [List.range_succ,List.filter_append,List.length_append]
   by_cases h:i∈p<;>simp [h]
  have h2:p.countP (fun k=>decide (k<i+1))=p.countP (fun k=>decide (k<i))+if i∈p then 1 else 0:=by
   clear ih h1
   induction p with
   | nil=>simp
   | cons x p ihp =>
    have hx:=List.nodup_cons.1 hn
    rw [List.countP_cons,List.countP_cons,ihp hx.2]
    by_cases e:x=i
    ·subst e
     simp [hx.1]
    ·have h3:(i∈x::p)<->i∈p:=by simp [show ¬ i=x from fun h=>e h.symm]
     simp only [h3]
     by_cases h4:x<i
     ·simp [h4,show x<i+1 by omega];omega
     ·simp [h4,show ¬ x<i+1 by omega]
  rw [h1,h2]
  by_cases h:i∈p
  ·simp only [h,if_true];omega
  ·simp only [h,if_false];omega
theorem Ech.free_len {n C:Nat} {g:RM} {p:List Nat} (h:Ech n C g p):(freeTo p C).length+p.length=C:=by
 have:=AX4 h.nodup C
 have h1:p.countP (fun k=>decide (k<C))=p.length:=by
  rw [List.countP_eq_length]
  intro k hk
  obtain ⟨j,hj⟩:=List.mem_iff_getElem?.1 hk
  have hl:j<p.length:=(List.getElem?_eq_some_iff.1 hj).1
  have:=h.lt j hl
  rw [List.getD_eq_getElem?_getD,hj] at this
  simpa using this
 omega
open Go Go.RowKit
theorem BF1 {l:List Int} (h:∀ n∈l,-9223372036854775808<=n/\n<=9223372036854775807):vk 2 (intsV l) :=
 U7 fun k _=>Rsz.int _ (by
  have:=R5 (P:=fun n:Int => -9223372036854775808<=n/\n<=9223372036854775807) (z:=0) h (by omega) k
  show (l.getD k 0).natAbs<18446744073709551616
  omega) (by omega)
abbrev iv (n:Int):Value:=.int .i64 n
end Go.Kx
namespace Go.Proofs.YtpgkacdihhjknaaGreat
open Go Go.Kx Go.RowKit
theorem At6 {x y z:Int}:bslOf Tryz.prog 117 3 [(0,.int .i64 x),(1,.int .i64 y),(2,.int .i64 z)]=some (2,#[.int .i64 x,.int .i64 y,.int .i64 z]):=by kernel_rfl
theorem At1 {S:Nat->Prop} {w w':World} {b:Nat} {t:TypeId} {cs:Array Value} (l:List Int) (n:Nat) (hn:New w w' b t cs) (up:Up S w) (hcs:cs=(l.map iv).toArray) (hl:l.length=n) (hd:∀ x∈l,-9223372036854775808<=x/\x<=9223372036854775807) (hm:n<=1000) :
  eI.R S w' (.slice (some ⟨b,0,none⟩) n n) l:=by
 subst hl
 refine RL.ofBlk (es:=l.map iv) hn.2.1 (up b (by have:=hn.2.2.1;omega)) ⟨by simp,fun i e x he hx=>?_⟩ (fun j u hu=>?_) (Nat.le_refl _) (by omega)
 ·rw [List.getElem?_map,hx] at he
  simp at he
  have:=hd x (List.mem_iff_getElem?.2 ⟨i,hx⟩)
  exact ⟨he.symm,this.1,this.2⟩
 ·rw [H3 iv (fun _=>rfl)] at hu
  rw [hcs];simpa using hu
end Go.Proofs.YtpgkacdihhjknaaGreat
namespace Go.Kx
open Go Go.RowKit
section
variable {P:Program} {σ:Env} {w:World} {d:Option Tmp} {ty:TypeId} {pos:String} {af:Array Edge} {g:Option (Nat×Bool)}
theorem Av4 {s:TypeId} {x:Operand} {i off:Nat} {p:Addr} (hf:fldOf P s i=some off) (hx:ev σ x=some (.pointer (some p))):Vl P ⟨d,.fieldAddr s x i,ty,pos,af,g⟩ σ w (.pointer (some (p.add off))):=by
 refine ⟨(by intro _ h;cases h),fun ρ hρ=>?_⟩
 have h1:=hρ x _ (by simp [Op.operands]) hx
 unfold fldOf at hf
 split at hf
 ·rename_i fs hfs
  split at hf
  ·rename_i f hff
   split at hf
   ·rename_i j hj
    cases hz:Nat.beq j.size 0 with
    | true=>rw [hz] at hf;cases hf
    | false =>
     rw [hz] at hf
     simp only [cond_false,Option.some.injEq] at hf
     have hz':j.size≠0:=fun e=>by rw [e] at hz;cases hz
     simp [execOp,h1,Instr.fieldAt,run_underlying hfs,hff,Instr.sureAddr,fieldPlace,sizeOf,typeInfo,hj,hz',hf]
   ·cases hf
  ·cases hf
 ·cases hf
end
theorem PtrTo.zw {S:Nat->Prop} {w:World} {p:Addr} {z:ZV} (h:PtrTo eZ S w p z):PtrTo eW S w (p.add 1) z.w:=by
 obtain ⟨e,⟨s,rfl,hs⟩,h2,h3⟩:=h
 obtain ⟨a,c,hv,_⟩:=RL.len hs
 refine ⟨s,hs,by rw [F6];exact h2,fun j u hu=>?_⟩
 rw [hv] at hu
 have hj:j=0:=by
  cases j with
  | zero=>rfl
  | succ j=>simp [Value.cells] at hu
 subst hj
 rw [Q4]
 refine h3 1 u ?_
 rw [hv];simpa [Value.cells] using hu
theorem PtrTo.qn {S:Nat->Prop} {w:World} {p:Addr} {q:QV} (h:PtrTo eQ S w p q):PtrTo eZ S w (p.add 0) q.num:=by
 obtain ⟨e,⟨s,t,rfl,hs,ht⟩,h2,h3⟩:=h
 refine ⟨.agg #[.bool q.num.neg,s],⟨s,rfl,hs⟩,by rw [F6];exact h2,fun j u hu=>?_⟩
 rw [Q4]
 refine h3 _ u ?_
 match j with
 | 0=>simpa [Value.cells] using hu
 | 1=>simpa [Value.cells] using hu
 | j+2=>simp [Value.cells] at hu
theorem PtrTo.qd {S:Nat->Prop} {w:World} {p:Addr} {q:QV} (h:PtrTo eQ S w p q):PtrTo eZ S w (p.add 2) q.den:=by
 obtain ⟨e,⟨s,t,rfl,hs,ht⟩,h2,h3⟩:=h
 refine ⟨.agg #[.bool q.den.neg,t],⟨t,rfl,ht⟩,by rw [F6];exact h2,fun j u hu=>?_⟩
 rw [Q4]
 refine h3 _ u ?_
 match j with
 | 0=>simpa [Value.cells] using hu
 | 1=>simpa [Value.cells] using hu
 | j+2=>simp [Value.cells] at hu
section
variable {P:Program} {ro:Option Nat} {N:Nat} {ds:List Deferred} {ops:Array Oper} {K:Env->World->Prop} {rest:List Oper} {σ:Env} {w:World} {d:Tmp} {ty:TypeId} {pos:String} {af:Array Edge}
theorem WL.faP {s:TypeId} {x:Operand} {i off:Nat} {p:Addr} (hf:fldOf P s i=some off) (hd:Nat.blt d N=true) (hx:ev σ x=some (.pointer (some p))) (k:WL P ro N ds ops K rest ((d,.pointer (some (p.add off)))::σ) w) :
  WL P ro N ds ops K (⟨some d,.fieldAddr s x i,ty,pos,af,none⟩::rest) σ w:=WL.vl O hd (Av4 hf hx) k
end
section
variable {P:Program} {σ:Env} {w:World} {d:Option Tmp} {ty:TypeId} {pos:String} {af:Array Edge} {g:Option (Nat×Bool)} {S:Nat->Prop}
end
@[reducible] def Lng (Q:Prop):Value->World->Prop:=fun v _=>∃ b,v=.bool b/\(b=false->Q)
end Go.Kx
namespace Go.Proofs.YtpgkacdihhjknaaGreat
open Go Go.Kx Go.RowKit
theorem Af4 {α:Type} {l:List α} {j:Nat} {x:α} (h:l[j]?=some x):j<l.length:=by
 rcases Nat.lt_or_ge j l.length with h' | h'
 ·exact h'
 ·rw [List.getElem?_eq_none h'] at h;cases h
theorem eV_vk {S:Nat->Prop} {w:World} {v:Value} {a:List QV} {L:Nat} (h:eV.R S w v a) (hk:∀ q∈a,qok L q) (hL:1<=L):vk L a:=by
 intro q hq
 obtain ⟨i,hi⟩:=List.mem_iff_getElem?.1 hq
 obtain ⟨es,he,_⟩:=h
 have hlt:=Af4 hi
 obtain ⟨s,t,_,hn,hd⟩:=he.2 i _ q (List.getElem?_eq_getElem (by rw [he.1];exact hlt)) hi
 exact ⟨hk q hq,BH1 (F1 hn) (F1 hd) (hk q hq) hL⟩
def okV (r:List QV):Prop:=r.length<=20/\∀ q∈r,qok 6 q
end Go.Proofs.YtpgkacdihhjknaaGreat
namespace Go.Kx
def hds (n:Nat):List Nat:=if h:n=0 then [] else n % 65536::hds (n / 65536)
 decreasing_by omega
open Go Go.RowKit
section
variable {t:TypeId} {base:Nat} {w w':World} {v:Value} {r:List Nat}
end
section
variable {P:Program} {σ:Env} {w:World} {d:Option Tmp} {ty:TypeId} {pos:String} {af:Array Edge} {g:Option (Nat×Bool)}
end
end Go.Kx
namespace Go.Proofs.YtpgkacdihhjknaaGreat
open Go Go.Kx Go.RowKit
end Go.Proofs.YtpgkacdihhjknaaGreat
namespace Go.Kx
end Go.Kx
namespace Go.Proofs.YtpgkacdihhjknaaGreat
open Go Go.Kx Go.RowKit
end Go.Proofs.YtpgkacdihhjknaaGreat
namespace Go.Kx
end Go.Kx
namespace Go.Proofs.YtpgkacdihhjknaaGreat
open Go Go.Kx Go.RowKit
end Go.Proofs.YtpgkacdihhjknaaGreat
namespace Go.Kx
end Go.Kx
namespace Go.Proofs.YtpgkacdihhjknaaGreat
open Go Go.Kx Go.RowKit
end Go.Proofs.YtpgkacdihhjknaaGreat
namespace Go.Kx
end Go.Kx
namespace Go.Proofs.YtpgkacdihhjknaaGreat
open Go Go.Kx Go.RowKit
end Go.Proofs.YtpgkacdihhjknaaGreat
namespace Go.Kx
end Go.Kx
namespace Go.Proofs.YtpgkacdihhjknaaGreat
open Go Go.Kx Go.RowKit
end Go.Proofs.YtpgkacdihhjknaaGreat
namespace Go.Kx
open Go Go.RowKit
section
variable {P:Program} {ro:Option Nat} {N:Nat} {ds:List Deferred} {ops:List Oper} {K:Env->World->Prop} {σ0:Env} {w0:World} {h:Nat} {sp:List Sp} {deps:List (List (Tmp×Nat))} {a0:Act}
section
variable {Q:Exit->Act->World->Prop}
end
end
end Go.Kx
namespace Go.Proofs.YtpgkacdihhjknaaGreat
open Go Go.Kx Go.RowKit
end Go.Proofs.YtpgkacdihhjknaaGreat
namespace Go.Kx
end Go.Kx
namespace Go.Proofs.YtpgkacdihhjknaaGreat
open Go Go.Kx Go.RowKit
end Go.Proofs.YtpgkacdihhjknaaGreat
namespace Go.Kx
open Go Go.RowKit
end Go.Kx
namespace Go.Proofs.YtpgkacdihhjknaaGreat
open Go Go.Kx Go.RowKit
end Go.Proofs.YtpgkacdihhjknaaGreat
namespace Go.Kx
end Go.Kx
namespace Go.Proofs.YtpgkacdihhjknaaGreat
open Go Go.Kx Go.RowKit
theorem BI2 {w:World} {v:Value} {t:TypeId} {sz n B B':Nat} {xs:List Value} (h:w.ownsRow B t sz v n xs) (hB:B'<=B):w.ownsRow B' t sz v n xs:=by
 refine ⟨h.1,?_⟩
 rcases h.2 with h | ⟨g,cap,cur,h1,h2,h3⟩
 ·exact .inl h
 ·exact .inr ⟨g,cap,cur,h1,Nat.le_trans hB h2,h3⟩
theorem OwnL.base {α:Type} {E:ER α} {t:TypeId} {B B':Nat} {X:Nat->Prop} {w:World} {v:Value} {l:List α} (h:OwnL E t B X w v l) (hB:B'<=B):OwnL E t B' X w v l:=by
 obtain ⟨es,h1,h2⟩:=h
 exact ⟨es,BI2 h1 hB,h2⟩
end Go.Proofs.YtpgkacdihhjknaaGreat
namespace Go.Kx
open Go Go.RowKit
section
variable {P:Program} {σ:Env} {w:World} {d:Option Tmp} {ty:TypeId} {pos:String} {af:Array Edge} {g:Option (Nat×Bool)}
end
end Go.Kx
namespace Go.Proofs.YtpgkacdihhjknaaGreat
open Go Go.Kx Go.RowKit
end Go.Proofs.YtpgkacdihhjknaaGreat
namespace Go.Kx
end Go.Kx
namespace Go.Proofs.YtpgkacdihhjknaaGreat
open Go Go.Kx Go.RowKit
end Go.Proofs.YtpgkacdihhjknaaGreat
namespace Go.Kx
open Go Go.RowKit
end Go.Kx
namespace Go.Proofs.YtpgkacdihhjknaaGreat
open Go Go.Kx Go.RowKit
structure VR (W:World) (v:Value) (n L:Nat) (a:List QV):Prop where
 r:eV.R (fun _=>True) W v a
 hn:a.length<=n
 hk:vk L a
section
variable {W W':World} {v va vb:Value} {n c n' c' L L':Nat} {a b m:List (List QV)} {x y:List QV}
theorem upT {W:World}:Up (fun _=>True) W:=fun _ _=>trivial
end
theorem okV.vr {W:World} {v:Value} {a:List QV} (h:okV a) (hr:eV.R (fun _=>True) W v a):VR W v 20 6 a:=⟨hr,h.1,eV_vk hr h.2 (by decide)⟩
theorem BL7 {α:Type} {E:ER α} {hsz:0<E.sz} {S:Nat->Prop} {w w':World} {b:Nat} {t:TypeId} {cs:Array Value} {n:Nat} (vs:List Value) (ls:List (List α)) (hn:New w w' b t cs) (up:Up S w) (hcs:cs=vs.toArray) (hl:ls.length=n) (hm:n<=1000) (h:Els (RL E hsz) S w vs ls) :
  (RL (RL E hsz) (show 0<1 by decide)).R S w' (.slice (some ⟨b,0,none⟩) n n) ls:=by
 subst hl
 refine RL.ofBlk (es:=vs) hn.2.1 (up b (by have:=hn.2.2.1;omega)) (h.ext hn.1) (fun j u hu=>?_) (Nat.le_refl _) (by omega)
 rw [hcs]
 have hv:∀ v∈vs,v.cells=#[v]:=by
  intro v hv
  obtain ⟨i,hi⟩:=List.mem_iff_getElem?.1 hv
  have hlt:=Af4 hi
  obtain ⟨a,c,rfl,_⟩:=RL.len (h.2 i v _ hi (List.getElem?_eq_getElem (by rw [<-h.1];exact hlt)))
  rfl
 have:cellsOf vs=vs:=by
  clear h hcs hu
  induction vs with
  | nil=>rfl
  | cons v vs ih=>rw [cellsOf,List.flatMap_cons,hv v (by simp),<-cellsOf,ih fun u hu=>hv u (by simp [hu])];rfl
 rw [this] at hu
 simpa using hu
section
variable {m:List (List QV)} {b:List QV}
theorem rm_aug (i k:Nat):rm (augM m b) i k=if i<max m.length b.length/\k<colsOf m+1 then augF m b i k else 0:=Ae8 ..
theorem Ad9 (h:0<max m.length b.length):colsOf (augM m b)=colsOf m+1:=by rw [AZ2,if_neg (by omega)]
theorem Az4 (h:0<max m.length b.length):Ech (max m.length b.length) (colsOf m+1) (redF (augM m b)) (redP (augM m b)):=by
 have:=T1 (augM m b)
 rwa [AF6,Ad9 h] at this
theorem Aw5 (m:List (List QV)):Req m.length (colsOf m) (rm m) (redF m):=AM0 _ _ _ _
theorem Az3 (h:0<max m.length b.length):Req (max m.length b.length) (colsOf m+1) (augF m b) (redF (augM m b)):=by
 have:=Aw5 (augM m b)
 rw [AF6,Ad9 h] at this
 have e:∀ i k,i<max m.length b.length->k<colsOf m+1->augF m b i k=rm (augM m b) i k:=fun i k hi hk=>by rw [rm_aug,if_pos ⟨hi,hk⟩]
 exact ⟨fun i hi=>(this.1 i hi).of_eq e,fun i hi=>(this.2 i hi).congr fun k hk=>e i k hi hk⟩
theorem aug_nil (h:max m.length b.length=0):redP (augM m b)=[]:=by
 have:=(T1 (augM m b)).len
 rw [AF6] at this
 exact List.length_eq_zero_iff.1 (by omega)
theorem Ao3 {i k:Nat} (h:k<colsOf m):augF m b i k=rm m i k:=by unfold augF;rw [if_pos h]
theorem Ae0 {i:Nat}:augF m b i (colsOf m)=rv b i:=by unfold augF;rw [if_neg (Nat.lt_irrefl _)]
theorem rv_solX (k:Nat):rv (solX m b) k=if k<colsOf m then partF (redF (augM m b)) (redP (augM m b)) (colsOf m) k else 0:=O5 ..
theorem rv_big {i:Nat} (h:max m.length b.length<=i):rv b i=0:=AO8 (by omega)
theorem rm_big {i k:Nat} (h:max m.length b.length<=i):rm m i k=0:=Ar0 (by omega)
theorem sol_eq (hs:solvable m b) (i:Nat):sumN (colsOf m) (fun k=>rm m i k*rv (solX m b) k)=rv b i:=by
 rcases Nat.lt_or_ge i (max m.length b.length) with hi | hi
 ·have h0:0<max m.length b.length:=by omega
  have:=sol_of (Az4 h0) (Az3 h0) (fun j hj e=>hs (e▸I6 hj)) i hi
  rw [Ae0] at this
  rw [<-this]
  exact A1 fun k hk=>by rw [rv_solX,if_pos hk,Ao3 hk]
 ·rw [rv_big hi,E1 fun k _=>by rw [rm_big hi,Rat.zero_mul]]
theorem solv_of {y:Nat->Rat} (hy:∀ i,sumN (colsOf m) (fun k=>rm m i k*y k)=rv b i):solvable m b:=by
 intro hC
 by_cases h0:max m.length b.length=0
 ·rw [aug_nil h0] at hC;cases hC
 ·have h0:0<max m.length b.length:=by omega
  obtain ⟨j,hj,hjC⟩:=AS0 hC
  obtain ⟨t,ht1,ht2⟩:=no_sol (Az4 h0) (Az3 h0) hj hjC
  have:=sol_no (A:=augF m b) (x:=y) (fun i _=>by
   rw [Ae0,<-hy i]
   exact A1 fun k hk=>by rw [Ao3 hk]) ht1
  rw [this] at ht2
  exact absurd ht2 (by decide)
theorem AR8:(nullM m).length=(freeC m).length:=by unfold nullM;simp
theorem BC2 (m:List (List QV)):(nullM m).length+(redP m).length=colsOf m:=by rw [AR8];exact (T1 m).free_len
theorem BC5 {k:Nat}:k∈freeC m<->k<colsOf m/\k∉redP m:=by
 unfold freeC freeTo
 rw [List.mem_filter,List.mem_range]
 simp
theorem BC6 {i:Nat} (hi:i<(freeC m).length):(freeC m).getD i 0<colsOf m/\(freeC m).getD i 0∉redP m:=BC5.1 (I6 hi)
theorem not_piv {p:List Nat} {k:Nat} (h:k∉p):∀ j,j<p.length->p.getD j 0≠k:=fun _ hj e=>h (e▸I6 hj)
theorem BB2 {k:Nat} (hk:k<colsOf m) (i:Nat):sumN (colsOf m) (fun c=>rm m i c*nv (redF m) (redP m) k c)=0:=by
 rcases Nat.lt_or_ge i m.length with hi | hi
 ·exact Spn.dot0 ((Aw5 m).2 i hi) fun j hj=>nv_null (T1 m) hk hj
 ·exact E1 fun c _=>by rw [Ar0 hi,Rat.zero_mul]
end
theorem rsz1 {L:Nat} (hL:1<=L):Rsz 1 L:=by
 have:=Rsz.int 1 (L:=L) (Nat.lt_of_lt_of_le (by decide) (Nat.pow_le_pow_right (by decide) hL)) hL
 simpa using this
section
variable {m:List (List QV)} {b:List QV}
theorem inv_p (hc:colsOf m=m.length):(invE m).2=redP m:=by
 unfold invE redP
 rw [hc]
 exact (An6 (C:=m.length) (fun i k _ hk=>by unfold invF;rw [if_pos hk]) _ (Nat.le_refl _)).2
theorem BJ8 (hc:colsOf m=m.length):invertible m<->(redP m).length=m.length:=by
 unfold invertible
 rw [inv_p hc]
 have:=(T1 m).len
 omega
theorem Ax4 (h:invertible m) {i k:Nat} (hi:i<m.length) (hk:k<m.length):(invE m).1 i k=idR i k:=by
 have he:Ech m.length m.length (invE m).1 (invE m).2:=R8 ..
 have hl:(invE m).2.length=m.length:=by have:=he.len;unfold invertible at h;omega
 have:=he.one i k hi (by omega)
 rw [he.full hl k hk] at this
 exact this
theorem BH3 {i k:Nat} (hi:i<m.length) (hk:k<m.length):rm (invM m) i k=(invE m).1 i (m.length+k):=by
 unfold invM
 rw [Ae8,if_pos ⟨hi,hk⟩]
theorem Ax6 {i k:Nat}:invF m i (m.length+k)=idR i k:=by
 unfold invF
 rw [if_neg (by omega),Nat.add_sub_cancel_left]
theorem Ax5 {i k:Nat} (h:k<m.length):invF m i k=rm m i k:=by unfold invF;rw [if_pos h]
theorem BG5 {n:Nat} (t:Nat->Rat) {k:Nat} (hk:k<n):sumN n (fun j=>t j*idR j k)=t k:=by
 rw [E2 (i:=k) (fun j hj hne=>by unfold idR;rw [if_neg hne,Rat.mul_zero]),if_pos hk]
 unfold idR
 rw [if_pos rfl,Rat.mul_one]
theorem Ac8 (h:invertible m) {i k:Nat} (hi:i<m.length) (hk:k<m.length):sumN m.length (fun j=>rm m i j*rm (invM m) j k)=idR i k:=by
 obtain ⟨t,ht⟩:=(AM0 m.length (m.length+m.length) (invF m) m.length).2 i hi
 have h1:∀ j,j<m.length->rm m i j=t j:=fun j hj=>by
  have:=ht j (by omega)
  rw [Ax5 hj] at this
  rw [this,<-BG5 t hj]
  exact A1 fun l hl=>by rw [<-Ax4 h hl hj];rfl
 have h2:=ht (m.length+k) (by omega)
 rw [Ax6] at h2
 rw [h2]
 exact A1 fun j hj=>by rw [h1 j hj,BH3 hj hk];rfl
theorem BJ9 (h:invertible m) {i k:Nat} (hi:i<m.length) (hk:k<m.length):sumN m.length (fun j=>rm (invM m) i j*rm m j k)=idR i k:=by
 obtain ⟨t,ht⟩:=(AM0 m.length (m.length+m.length) (invF m) m.length).1 i hi
 have h1:∀ j,j<m.length->rm (invM m) i j=t j:=fun j hj=>by
  have:=ht (m.length+j) (by omega)
  rw [BH3 hi hj]
  refine Eq.trans this ?_
  rw [<-BG5 t hj]
  exact A1 fun l hl=>by rw [Ax6]
 have h2:=ht k (by omega)
 rw [<-Ax4 h hi hk]
 refine Eq.trans ?_ h2.symm
 exact A1 fun j hj=>by rw [h1 j hj,Ax5 hk]
theorem inv_rsz {L n:Nat} (hk:mk_ L m) (hL:1<=L) (hn:m.length<=n):mk_ (bd L n) (invM m):=by
 refine Af2 fun i k hi hk'=>?_
 have h1:=AL9 (C:=m.length+m.length) (f:=invF m) hL (fun i k _ _=>by
  unfold invF
  split
  ·exact hk.rsz hL i k
  ·unfold idR
   split
   ·exact rsz1 hL
   ·exact Rsz.zero hL) m.length (by omega) i (m.length+k) hi (by omega)
 exact h1.mono (AA7 L (Nat.le_trans (R8 m.length (invF m) m.length).len hn))
theorem BJ7 (hc:colsOf m=m.length) (h:invertible m) (hb:∀ i,m.length<=i->rv b i=0):solvable m b:=by
 refine solv_of (y:=fun k=>sumN m.length fun j=>rm (invM m) k j*rv b j) fun i=>?_
 rw [hc]
 rcases Nat.lt_or_ge i m.length with hi | hi
 ·have h1:sumN m.length (fun k=>rm m i k*sumN m.length fun j=>rm (invM m) k j*rv b j)=sumN m.length fun j=>idR i j*rv b j:=by
   rw [A1 (g:=fun k=>sumN m.length fun j=>rm m i k*rm (invM m) k j*rv b j) fun k _=>by rw [<-M5];exact A1 fun j _=>by rw [Rat.mul_assoc]]
   rw [L5]
   exact A1 fun j hj=>by rw [O4,Ac8 h hi hj]
  rw [h1,E2 (i:=i) (fun j hj hne=>by unfold idR;rw [if_neg (fun e=>hne e.symm),Rat.zero_mul]),if_pos hi]
  unfold idR
  rw [if_pos rfl,Rat.one_mul]
 ·rw [hb i hi]
  exact E1 fun k _=>by rw [Ar0 hi,Rat.zero_mul]
theorem inv_sol (hc:colsOf m=m.length) (h:invertible m) (hs:solvable m b) {i:Nat} (hi:i<m.length):sumN m.length (fun j=>rm (invM m) i j*rv b j)=rv (solX m b) i:=by
 rw [A1 (g:=fun j=>sumN m.length fun k=>rm (invM m) i j*rm m j k*rv (solX m b) k) fun j _=>by rw [<-sol_eq hs j,hc,<-M5];exact A1 fun k _=>by rw [Rat.mul_assoc]]
 rw [L5,A1 (g:=fun k=>idR i k*rv (solX m b) k) fun k hk=>by rw [O4,BJ9 h hi hk]]
 rw [E2 (i:=i) (fun j hj hne=>by unfold idR;rw [if_neg (fun e=>hne e.symm),Rat.zero_mul]),if_pos hi]
 unfold idR
 rw [if_pos rfl,Rat.one_mul]
end
theorem L8 (p:List Nat) (i:Nat):freeTo p (i+1)=freeTo p i++if i∈p then [] else [i]:=by
 unfold freeTo
 rw [List.range_succ,List.filter_append]
 by_cases h:i∈p<;>simp [h]
theorem AX5 (p:List Nat) (i:Nat):∀ d,∃ t,freeTo p (i+d)=freeTo p i++t
 | 0=>⟨[],(List.append_nil _).symm⟩
 | d+1=>by
  obtain ⟨t,ht⟩:=AX5 p i d
  exact ⟨t++if i+d∈p then [] else [i+d],by rw [<-Nat.add_assoc,L8,ht,List.append_assoc]⟩
theorem BC4 {p:List Nat} {i C:Nat} (hi:i<C) (hp:i∉p):(freeTo p C).getD (freeTo p i).length 0=i/\(freeTo p i).length<(freeTo p C).length:=by
 obtain ⟨t,ht⟩:=AX5 p (i+1) (C-(i+1))
 rw [show i+1+(C-(i+1))=C by omega,L8,if_neg hp] at ht
 rw [ht]
 constructor
 ·simp [List.getD_eq_getElem?_getD]
 ·simp
section
variable {m:List (List QV)} {b z:List QV}
end
end Go.Proofs.YtpgkacdihhjknaaGreat
namespace Go.Kx
open Go Go.RowKit
def oN (o:List Int):List Nat:=o.map Int.toNat
def inL (n:NtV) (o:List Int):List Nat:=freeTo (oN o) n.ls.length
theorem Y3 {n:NtV} {o:List Int} (h:outsOk n o):∀ d i,i+d<o.length->o.getD i 0+d<=o.getD (i+d) 0
 | 0,i,_=>by simp
 | d+1,i,hd=>by
  have h1:=Y3 h d i (by omega)
  have h2:=(h (i+(d+1)) hd).2.2 (by omega)
  rw [show i+(d+1)-1=i+d by omega] at h2
  omega
theorem Af3 {n:NtV} {o:List Int} (h:outsOk n o) {k:Nat}:k∈oN o<->∃ i,i<o.length/\o.getD i 0=k:=by
 unfold oN
 rw [List.mem_map]
 constructor
 ·rintro ⟨x,hx,rfl⟩
  obtain ⟨i,hi⟩:=List.mem_iff_getElem?.1 hx
  have hlt:=(List.getElem?_eq_some_iff.1 hi).1
  have e:o.getD i 0=x:=by rw [List.getD_eq_getElem?_getD,hi];rfl
  have:=h i hlt
  exact ⟨i,hlt,by omega⟩
 ·rintro ⟨i,hi,e⟩
  exact ⟨o.getD i 0,by rw [List.getD_eq_getElem?_getD,List.getElem?_eq_getElem hi];exact List.getElem_mem hi,by omega⟩
end Go.Kx
namespace Go.Proofs.YtpgkacdihhjknaaGreat
open Go Go.Kx Go.RowKit
theorem BI5 {n:NtV} {o:List Int} (h:chkE n≠0):outE n o=chkE n:=by unfold outE;rw [if_pos h]
theorem O9 {n:NtV} {o:List Int} (h:outE n o=0):chkE n=0/\outsOk n o:=by
 unfold outE at h
 split at h
 ·exact absurd h (by assumption)
 ·split at h
  ·exact ⟨Classical.not_not.1 (by assumption),by assumption⟩
  ·cases h
theorem AV2 {n:NtV} (h:chkE n=0):1<=n.b/\n.b<=6/\n.ls.length<=10/\chkOk n:=by
 unfold chkE at h
 split at h
 ·cases h
 ·split at h
  ·cases h
  ·split at h
   ·exact ⟨by omega,by omega,by omega,by assumption⟩
   ·cases h
theorem AZ7:Ent Tryz.prog 25:=A0 Tryz.func25 (by kernel_rfl) rfl
theorem AX1 {S:Nat->Prop} {w:World} {vn vo:Value} {n:NtV} {o:List Int} (hn:eN.R S w vn n) (ho:eI.R S w vo o):CR Tryz.prog 25 #[vn,vo] w (Is (.int .i64 (outE n o))):=by
 obtain ⟨s,rfl,hs,hb⟩:=hn
 have hn:eN.R S w (.agg #[.int .i64 n.b,s]) n:=⟨s,rfl,hs,hb⟩
 obtain ⟨_,_,_,_,hll⟩:=RL.len ho
 obtain ⟨_,_,_,_,hls⟩:=RL.len hs
 refine enter Tryz.func25 O Tryz.ntmps25 O (.sr (.box O O fun w1 b2 n1=>.an O O ?_))
 obtain ⟨e1,k2,hb2,hs1⟩:=n1
 refine .seq (.sr (.ldA ty_N O O k2 O (.call _ O Ap4 O (Al8 (hn.ext e1)) fun v2 w2 e2 h2=>.an O O ?_)))
 subst h2
 have x2:=e1.trans e2
 refine .sr (.mv O O ?_)
 by_cases hc:chkE n=0
 rotate_left
 ·refine .neqT O O O hc (.nil (.condT O (.sr (.mv O O (.an O O (.ret ?_))))))
  exact .plain [_] Tryz.results25 ⟨rfl,trivial⟩ ⟨x2,by rw [BI5 hc];rfl⟩
 have hE:outsOk n o->outE n o=0:=fun h=>by unfold outE;rw [if_neg (by simpa using hc),if_pos h]
 have hE1:¬ outsOk n o->outE n o=1:=fun h=>by unfold outE;rw [if_neg (by simpa using hc),if_neg h]
 refine .neqF O O O hc (.nil (.condF O (.skip ?_)))
 have k2:=k2.ext e2
 have hs:=hs.ext x2
 have ho:=ho.ext x2
 refine .seq (.sr (.mv O O (.lenR un_I O O ho (.mv O O (.nil (.block (.loop (α:=Nat) (fun i=>[(1,vo),(2,.pointer (some ⟨b2,0,none⟩)),(13,vo),(14,.int .i64 (o.length:Nat)),(15,.int .i64 (i:Nat))]) (fun i W=>W=w2/\i<=o.length/\∀ j,j<i->0<=o.getD j 0/\o.getD j 0<n.ls.length/\(0<j->o.getD (j-1) 0<o.getD j 0)) (fun i=>o.length-i) 0 ?_ ?_ ?_)))))))
 ·exact lkA rfl
 ·exact ⟨rfl,Nat.zero_le _,fun j hj=>absurd hj (Nat.not_lt_zero _)⟩
 rintro i W ⟨rfl,hi,hall⟩
 refine .sr ?_
 rcases Nat.lt_or_ge i o.length with hlt | hge
 rotate_left
 ·refine .lssF O O O (by omega) (.nil (.seq (.condF O (.exit (.sr (.an O O (.ret ?_)))))))
  exact .plain [_] Tryz.results25 ⟨rfl,trivial⟩ ⟨x2,by rw [hE fun j hj=>hall j (by omega)];rfl⟩
 have hg:o[i]?=some (o.getD i 0):=A4 hlt
 refine .lssT O O O (by omega) (.nil (.seq (.condT O (.skip (.seq (.block (.sr (.mv O O (.ixN (i:=i) un_I A7 O O ho O hg fun q hq=>.ldE (E:=eInt .i64) A7 O O hq fun e he=>.asg O O (.an O O (.sr (.mv O O ?_))))))))))))
 obtain ⟨rfl,_⟩:=he
 have hbad:∀ {σ:Env},¬ (0<=o.getD i 0/\o.getD i 0<n.ls.length/\(0<i->o.getD (i-1) 0<o.getD i 0))->Leave Tryz.prog Tryz.f25 43 (fun v w'=>Ext w w'/\Is (.int .i64 (outE n o)) v w') ((4,.int .i64 1)::σ) [] W:=fun h=>.plain [_] Tryz.results25 ⟨rfl,trivial⟩ ⟨x2,by rw [hE1 fun h'=>h (h' i hlt)];rfl⟩
 by_cases h0:o.getD i 0<0
 ·refine .lssT O O O h0 (.mv O O (.gs O O O O O (.gs O O O O O (.gs O O O O O (.gs O O O O O (.gs O O O O O (.pick O O O (.mv O O (.gs O O O O O (.gs O O O O O (.gs O O O O O (.gu O O O O (.gu O O O O (.gu O O O O (.gu O O O O (.gu O O O O (.gu O O O O (.gu O O O O (.gs O O O O O (.pick O O O (.nil (.condT O (.sr (.an O O (.ret ?_)))))))))))))))))))))))))
  exact hbad (by omega)
 refine .lssF O O O (by omega) (.mv O O (.gr O O O O (.mv O O (.gr O O O O (.fa J5 O O (.gr O O O O (.ld P2 O O k2 O (.gr O O O O (.lenR M4 O O hs (.gr O O O O ?_))))))))))
 by_cases h1:(n.ls.length:Int)<=o.getD i 0
 ·refine .geqT O O O h1 (.pick O O O (.mv O O (.gs O O O O O (.gs O O O O O (.gs O O O O O (.gu O O O O (.gu O O O O (.gu O O O O (.gu O O O O (.gu O O O O (.gu O O O O (.gu O O O O (.gs O O O O O (.pick O O O (.nil (.condT O (.sr (.an O O (.ret ?_)))))))))))))))))))
  exact hbad (by omega)
 refine .geqF O O O (by omega) (.pick O O O (.mv O O (.gr O O O O (.mv O O (.gr O O O O ?_)))))
 have hnext:∀ {σ:Env},(0<i->o.getD (i-1) 0<o.getD i 0)->Kx.look σ 1=some vo->Kx.look σ 2=some (.pointer (some ⟨b2,0,none⟩))->Kx.look σ 13=some vo->Kx.look σ 14=some (.int .i64 (o.length:Nat))->∃ i':Nat,(∀ t v,Kx.look [(1,vo),(2,.pointer (some ⟨b2,0,none⟩)),(13,vo),(14,.int .i64 (o.length:Nat)),(15,.int .i64 (i':Nat))] t=some v->Kx.look ((15,.int .i64 ((i:Int)+1))::σ) t=some v)/\(W=W/\i'<=o.length/\∀ j,j<i'->0<=o.getD j 0/\o.getD j 0<n.ls.length/\(0<j->o.getD (j-1) 0<o.getD j 0))/\o.length-i'<o.length-i:=by
  intro σ hlast a1 a2 a3 a4
  refine ⟨i+1,A6 a1 (A6 a2 (A6 a3 (A6 a4 (lkA O)))),⟨rfl,hlt,fun j hj=>?_⟩,by omega⟩
  by_cases e:j=i
  ·subst e;exact ⟨by omega,by omega,hlast⟩
  ·exact hall j (by omega)
 by_cases hi0:0<i
 ·have hg':o[i-1]?=some (o.getD (i-1) 0):=A4 (by omega)
  refine .gtrT O O O (by omega) (.gr O O O O (.mv O O (.gr O O O O (.mv O O (.gr O O O O (.mv O O (.gr O O O O (.mv O O (.gr O O O O (.sub O O O ?_))))))))))
  rw [wI (by omega),show (i:Int)-1=((i-1:Nat):Int) by omega]
  refine .gr O O O O (.ixN (i:=i-1) un_I A7 O O ho O hg' fun q hq=>.gr O O O O (.ldE (E:=eInt .i64) A7 O O hq fun e he=>?_))
  obtain ⟨rfl,_⟩:=he
  by_cases hle:o.getD i 0<=o.getD (i-1) 0
  ·refine .gr O O O O (.leqT O O O hle (.gr O O O O (.pick O O O (.pick O O O (.nil (.condT O (.sr (.an O O (.ret ?_)))))))))
   exact hbad (fun h=>by have:=h.2.2 hi0;omega)
  ·refine .gr O O O O (.leqF O O O (by omega) (.gr O O O O (.pick O O O (.pick O O O (.nil (.condF O (.skip (.region (.add O O O (.mv O O (.nil ?_)))))))))))
   rw [wI (by omega)]
   exact ⟨rfl,hnext (fun _=>by omega) O O O rfl⟩
 ·refine .gtrF O O O (by omega) (.gr O O O O (.mv O O (.gs O O O O O (.gs O O O O O (.gs O O O O O (.gs O O O O O (.gs O O O O O (.gs O O O O O (.gs O O O O O (.gr O O O O (.pick O O O (.pick O O O (.nil (.condF O (.skip (.region (.add O O O (.mv O O (.nil ?_)))))))))))))))))))
  rw [wI (by omega)]
  exact ⟨rfl,hnext (fun h=>absurd h hi0) O O O rfl⟩
theorem AU1:Ent Tryz.prog 53:=A0 Tryz.func53 (by kernel_rfl) rfl
theorem AT5 {w:World} {vn vo:Value} {x y:Value} (hn:vn=.agg #[x,y]) {a:Option Addr} {m c:Nat} (ho:vo=.slice a m c):CR Tryz.prog 53 #[vn,vo] w (fun v w'=>∃ b1 b2,v=.func (.func 95) #[] #[.pointer (some ⟨b1,0,none⟩),.pointer (some ⟨b2,0,none⟩)] /\
  Blk w' b1 24 #[x,y]/\Blk w' b2 25 #[vo]/\w.heap.size<=b1/\w.heap.size<=b2):=by
 subst hn;subst ho
 refine enter Tryz.func53 O Tryz.ntmps53 O (.sr (.box O O fun w1 b1 n1=>.box O O fun w2 b2 n2=>.an O O ?_))
 obtain ⟨e1,k1,hb1,hs1⟩:=n1
 obtain ⟨e2,k2,hb2,hs2⟩:=n2
 refine .sr (.mkf [] [_,_] O O O O (.an O O (.ret ?_)))
 exact .plain [_] Tryz.results53 ⟨rfl,trivial⟩ ⟨e1.trans e2,b1,b2,rfl,k1.ext e2,k2,by omega,by have:=e1.size;omega⟩
theorem BN7:Ent Tryz.prog 95:=A0 Tryz.func95 (by kernel_rfl) rfl
theorem BK2 {S:Nat->Prop} {n:NtV} {o:List Int} {s vo x:Value} {b1 b2:Nat} (hok:outsOk n o) (hl:n.ls.length<=10):Iter Tryz.prog 95 #[.pointer (some ⟨b1,0,none⟩),.pointer (some ⟨b2,0,none⟩)] (inL n o).length
  (fun k=>[.int .i64 ((inL n o).getD k 0:Nat)]) (fun W=>Blk W b1 24 #[x,s]/\Blk W b2 25 #[vo]/\eLs.R S W s n.ls/\eI.R S W vo o):=by
 intro l J X stJ stX hF hy W hJ
 have hF0:=hF 0 W hJ
 refine enterG Tryz.func95 O Tryz.ntmps95 O (.sr (.an O O (.sr (.fa J5 O O (.ld P2 O O hF0.1 O (.lenR M4 O O hF0.2.2.1 (.mv O O (.nil ?_))))))))
 refine .block (.loop (α:=Nat×Nat) (fun y=>[(9,.int .i64 (y.1:Nat)),(8,.int .i64 (n.ls.length:Nat)),(4,.int .i64 (y.2:Nat)),(0,.func (.yield l) #[] #[]),(1,.pointer (some ⟨b1,0,none⟩)),(2,.pointer (some ⟨b2,0,none⟩))])
  (fun y W=>J (freeTo (oN o) y.1).length W/\y.1<=n.ls.length/\y.2<=o.length/\(∀ i,i<y.2->o.getD i 0<y.1)/\(y.2<o.length->(y.1:Int)<=o.getD y.2 0)) (fun y=>n.ls.length-y.1) (0,0) ?_ ?_ ?_)
 ·exact lkA rfl
 ·exact ⟨hJ,Nat.zero_le _,Nat.zero_le _,fun i hi=>absurd hi (Nat.not_lt_zero _),fun h=>(hok 0 h).1⟩
 rintro ⟨k,nx⟩ W ⟨hJ,hk,hnx,hlo,hhi⟩
 replace hJ:J (freeTo (oN o) k).length W:=hJ
 replace hk:k<=n.ls.length:=hk
 replace hnx:nx<=o.length:=hnx
 replace hlo:∀ i,i<nx->o.getD i 0<k:=hlo
 replace hhi:nx<o.length->(k:Int)<=o.getD nx 0:=hhi
 obtain ⟨hB1,hB2,hA,hB⟩:=hF _ W hJ
 obtain ⟨_,_,_,_,hll⟩:=RL.len hB
 refine .sr ?_
 rcases Nat.lt_or_ge k n.ls.length with hlt | hge
 rotate_left
 ·refine .lssF O O O (by omega) (.nil (.seq (.condF O (.exit (.plain [] Tryz.results95 trivial ?_)))))
  have:k=n.ls.length:=by omega
  subst this;exact .inl hJ
 refine .lssT O O O (by omega) (.nil (.seq (.condT O (.skip (.seq (.block (.sr (.mv O O (.an O O (.mid (α:=Unit) (fun _=>[(9,.int .i64 (k:Nat)),(8,.int .i64 (n.ls.length:Nat)),(4,.int .i64 (nx:Nat)),(5,.int .i64 (k:Nat)),(0,.func (.yield l) #[] #[]),(1,.pointer (some ⟨b1,0,none⟩)),(2,.pointer (some ⟨b2,0,none⟩))]) (fun _ W'=>W'=W/\k∉oN o) ?_ ?_))))))))))
 ·refine .sr (.mv O O (.ld ty_I O O hB2 O (.lenR un_I O O hB ?_)))
  rcases Nat.lt_or_ge nx o.length with hn1 | hn1
  ·have hg:o[nx]?=some (o.getD nx 0):=A4 hn1
   refine .lssT O O O (by omega) (.mv O O (.gr O O O O (.ld ty_I O O hB2 O (.gr O O O O (.mv O O (.gr O O O O (.ixN (i:=nx) un_I A7 O O hB O hg fun q hq=>.gr O O O O (.ldE (E:=eInt .i64) A7 O O hq fun e he=>.gr O O O O (.mv O O (.gr O O O O ?_))))))))))
   obtain ⟨rfl,_⟩:=he
   have:=hhi hn1
   by_cases he:o.getD nx 0=k
   ·refine .eqlT O O O he (.pick O O O (.nil (.condT O (.sr (.mv O O (.add O O O (.an O O (.exit (.region (.add O O O (.mv O O (.nil ?_))))))))))))
    rw [wI (by omega),wI (by omega)]
    refine ⟨rfl,(k+1,nx+1),lkA rfl,⟨?_,hlt,hn1,fun i hi=>?_,fun h=>?_⟩,by show n.ls.length-(k+1)<n.ls.length-k;omega⟩
    ·show J (freeTo (oN o) (k+1)).length W
     rw [L8,if_pos ((Af3 hok).2 ⟨nx,hn1,he⟩),List.append_nil]
     exact hJ
    ·show o.getD i 0<((k+1:Nat):Int)
     by_cases e:i=nx
     ·subst e;omega
     ·have:=hlo i (by have:i<nx+1:=hi;omega);omega
    ·show ((k+1:Nat):Int)<=o.getD (nx+1) 0
     have:=Y3 hok 1 nx h
     omega
   ·refine .eqlF O O O he (.pick O O O (.nil (.condF O (.skip (⟨rfl,(),lkA rfl,rfl,fun hm=>?_⟩)))))
    obtain ⟨i,hi,e⟩:=(Af3 hok).1 hm
    rcases Nat.lt_or_ge i nx with h | h
    ·have:=hlo i h;omega
    ·have:=Y3 hok (i-nx) nx (by omega)
     rw [show nx+(i-nx)=i by omega] at this
     omega
  ·refine .lssF O O O (by omega) (.mv O O (.gs O O O O O (.gs O O O O O (.gs O O O O O (.gs O O O O O (.gs O O O O O (.gs O O O O O (.pick O O O (.nil (.condF O (.skip (⟨rfl,(),lkA rfl,rfl,fun hm=>?_⟩))))))))))))
   obtain ⟨i,hi,e⟩:=(Af3 hok).1 hm
   have:=hlo i (by omega)
   omega
 rintro _ _ ⟨rfl,hno⟩
 obtain ⟨hat,hatl⟩:=BC4 (C:=n.ls.length) hlt hno
 have hy':=hy (freeTo (oN o) k).length _ hatl hJ
 dsimp only at hy'
 rw [show (inL n o).getD (freeTo (oN o) k).length 0=k from hat] at hy'
 refine .sr (.mv O O (.mv O O (.yld (l:=l) [.int .i64 (k:Nat)] (R:=fun v w'=>(v=.bool true/\J ((freeTo (oN o) k).length+1) w')\/(v=.bool false/\X w')) O O O ?_ ?_)))
 ·refine YieldAt.mono hy' ?_
  rintro e W' (⟨rfl,h⟩ | ⟨rfl,h⟩)
  ·exact ⟨_,rfl,.inl ⟨rfl,h⟩⟩
  ·exact ⟨_,rfl,.inr ⟨rfl,h⟩⟩
 rintro v w' (⟨rfl,h⟩ | ⟨rfl,h⟩)
 ·refine .not_ O O (.nil (.condF O (.skip (.region (.add O O O (.mv O O (.nil ?_)))))))
  rw [wI (by omega)]
  refine ⟨rfl,(k+1,nx),lkA rfl,⟨?_,hlt,hnx,fun i hi=>?_,fun hn1=>?_⟩,by show n.ls.length-(k+1)<n.ls.length-k;omega⟩
  ·show J (freeTo (oN o) (k+1)).length w'
   rw [L8,if_neg hno,List.length_append]
   exact h
  ·show o.getD i 0<((k+1:Nat):Int)
   have:=hlo i hi;omega
  ·show ((k+1:Nat):Int)<=o.getD nx 0
   have h1:=hhi hn1
   have h2:o.getD nx 0≠k:=fun e=>hno ((Af3 hok).2 ⟨nx,hn1,e⟩)
   omega
 ·refine .not_ O O (.nil (.condT O (.ret ?_)))
  exact .plain [] Tryz.results95 trivial (.inr h)
theorem Ad3 (p:List Nat) (i:Nat):(freeTo p i).length<=i:=by
 unfold freeTo
 have:=List.length_filter_le (fun k => !(decide (k∈p))) (List.range i)
 simpa using this
theorem T5 (n:NtV) (o:List Int):(inL n o).length<=n.ls.length:=Ad3 _ _
structure InJ (w:World) (S:Nat->Prop) (b7 b1 b2:Nat) (x s vo:Value) (n:NtV) (o:List Int) (k:Nat) (W:World):Prop where
 low:Below w.heap.size w W
 k1:Blk W b1 24 #[x,s]
 k2:Blk W b2 25 #[vo]
 acc:∃ v,Blk W b7 25 #[v]/\OwnL (eInt .i64) 3 w.heap.size (fun k=>S k/\k≠b7) W v (pInts ((inL n o).take k))
theorem InJ.sft {w0:World} {S:Nat->Prop} {b7 b1 b2:Nat} {x s vo:Value} {n:NtV} {o:List Int} {k D:Nat} {W W':World} (h:InJ w0 S b7 b1 b2 x s vo n o k W) (hs:Sft D W W') (hD:w0.heap.size<=D):InJ w0 S b7 b1 b2 x s vo n o k W':=by
 obtain ⟨v,h1,h2⟩:=h.acc
 exact ⟨h.low.trans (hs.below.mono hD),hs.cells.blk trivial h.k1,hs.cells.blk trivial h.k2,v,hs.cells.blk trivial h1,h2.kp hs.cells⟩
theorem BE9:zeroOf Tryz.prog 25=some (.slice none 0 0):=by kernel_rfl
theorem Y8:Ent Tryz.prog 17:=A0 Tryz.func17 (by kernel_rfl) rfl
theorem Y4 {S:Nat->Prop} {w:World} {vn vo:Value} {n:NtV} {o:List Int} (up:Up S w) (hn:eN.R S w vn n) (ho:eI.R S w vo o):CR Tryz.prog 17 #[vn,vo] w (Two (eI.at S (if outE n o=0 then pInts (inL n o) else [])) (Is (.int .i64 (outE n o)))):=by
 obtain ⟨s,rfl,hs,hb⟩:=hn
 have hn:eN.R S w (.agg #[.int .i64 n.b,s]) n:=⟨s,rfl,hs,hb⟩
 obtain ⟨ao,co,hvo,_⟩:=RL.len ho
 refine enter Tryz.func17 O Tryz.ntmps17 O (.sr (.box O O fun w1 b2 n1=>.asg O O (.an O O ?_)))
 obtain ⟨e1,k2,hb2,hs1⟩:=n1
 refine .seq (.sr (.ldA ty_N O O k2 O (.mv O O (.call _ O AZ7 O (AX1 (hn.ext e1) (ho.ext e1)) fun v2 w2 e2 h2=>.an O O ?_))))
 subst h2
 have x2:=e1.trans e2
 refine .sr (.mv O O ?_)
 by_cases hE:outE n o=0
 rotate_left
 ·refine .neqT O O O hE (.nil (.condT O (.sr (.mv O O (.asg O O (.an O O (.ret (.plain [_,_] Tryz.results17 ⟨rfl,rfl,trivial⟩ ⟨x2,_,_,rfl,?_,rfl⟩))))))))
  rw [if_neg hE];exact RL.nil
 rw [if_pos hE]
 obtain ⟨hc,hok⟩:=O9 hE
 obtain ⟨_,_,hl10,_⟩:=AV2 hc
 refine .neqF O O O hE (.nil (.condF O (.skip (.sr (.alloc O BE9 fun w3 b7 n3=>.nil ?_)))))
 obtain ⟨e3,k7,hb7,hs3⟩:=n3
 have x3:=x2.trans e3
 refine .seq (.sr (.ldA ty_N O O ((k2.ext e2).ext e3) O (.mv O O (.call _ O AU1 O (AT5 O hvo) fun v4 w4 e4 h4=>.nil ?_))))
 obtain ⟨p1,p2,rfl,kp1,kp2,hp1,hp2⟩:=h4
 have x4:=x3.trans e4
 have hs4:=e4.size
 have hs2:=e2.size
 have hsL:∀ {W:World},Below w.heap.size w W->eLs.R (fun k=>S k/\k<w.heap.size) W s n.ls:=fun hB=>eLs.keep (fun k c t f hk h=>(hB.block k hk.2).trans h) (ER.lt eLs hs)
 have hoL:∀ {W:World},Below w.heap.size w W->eI.R (fun k=>S k/\k<w.heap.size) W vo o:=fun hB=>eI.keep (fun k c t f hk h=>(hB.block k hk.2).trans h) (ER.lt eI ho)
 refine .block (.range (BK2 (S:=fun k=>S k/\k<w.heap.size) (n:=n) (o:=o) (s:=s) (vo:=vo) (x:=.int .i64 n.b) hok hl10) O BN7 (fun k=>rfl) (by decide)
  (InJ w S b7 p1 p2 (.int .i64 n.b) s vo n o) (fun _ _=>False) (fun k W W' h hs=>h.sft hs x4.size) (fun _ _ _ h _=>h.elim) (fun k W h=>⟨h.k1,h.k2,hsL h.low,hoL h.low⟩) ?_ ?_ ?_ (fun _ _ h=>h.elim))
 ·refine ⟨x4,kp1,kp2,_,k7.ext e4,?_⟩
  rw [List.take_zero];exact OwnL.nil
 ·intro l k W hk hJ
  refine .region (.an O O ⟨rfl,rfl,fun W hJ hsz=>?_⟩)
  obtain ⟨hlow,kp1,kp2,v,k7,hown⟩:=hJ
  have hlw:=hlow.size
  refine .block (.region (.ld ty_I O O k7 O (.mv O O (.bsl _ O O AI2 fun W1 by_ ny=>?_))))
  obtain ⟨ey,ky,hby,hsy⟩:=ny
  have hlow1:=hlow.trans (ey.mono hlw)
  have hkl:=T5 n o
  refine .gv O O (AH8 (E:=eInt .i64) (base:=w.heap.size) (n:=(((inL n o).getD k 0:Nat):Int)) (e:=.int .i64 (((inL n o).getD k 0:Nat):Int)) (by decide) un_I Z7 O O O (hown.ext ey) ky ⟨rfl,by
    have:(inL n o).getD k 0<n.ls.length:=by
     have hm:(inL n o).getD k 0∈inL n o:=I6 hk
     unfold inL freeTo at hm
     exact List.mem_range.1 (List.mem_filter.1 hm).1
    exact E0.2 (by omega)⟩ (by simp;omega) (by decide) hlow1.size) ?_
  rintro v8 W8 ⟨ho8,hg8⟩
  have hown1:=hown.ext ey
  have k78:=hown1.gblk hg8 (k7.ext ey) (by decide)
  have kp18:=hown1.gblk hg8 (kp1.ext ey) (by decide)
  have kp28:=hown1.gblk hg8 (kp2.ext ey) (by decide)
  have hlow8:=hown1.below hg8 hlow1 hlow1.size
  obtain ⟨a8,c8,hv8⟩:=ho8.slice
  refine .store ty_I O O k78 (by rw [hv8];rfl) (by simp) (by rw [hv8];simp [one1,Value.cells]) fun W9 k9 u9=>.nil ?_
  refine ⟨((Oth.ext ey).trans (hown1.oth hg8)).trans (Oth.upd u9 k78),u9.below hlow8 (by omega),kp18.upd u9 (by omega),kp28.upd u9 (by omega),v8,by rw [hv8] at k9 ⊢;exact k9,?_⟩
  have:=ho8.upd u9 k78 (by decide) (fun h=>h.2 O)
  have htk:pInts ((inL n o).take (k+1))=pInts ((inL n o).take k)++[(((inL n o).getD k 0:Nat):Int)]:=by
   unfold pInts
   rw [List.take_add_one,A4 (z:=0) hk,List.map_append]
   rfl
  rw [htk]
  exact this
 ·intro W hJ hD
  obtain ⟨hlow,kp1,kp2,v,k7,hown⟩:=hJ
  refine .sr (.ld ty_I O O k7 O (.asg O O (.an O O (.ret (.mark [_,_] Tryz.results17 hD ⟨rfl,rfl,trivial⟩ ⟨K0 hlow x4.size,_,_,rfl,?_,by rw [hE]⟩)))))
  rw [List.take_of_length_le (Nat.le_refl _)] at hown
  exact (hown.kp (Kp.put hD O)).toR up (fun _ h=>h.1)
end Go.Proofs.YtpgkacdihhjknaaGreat
namespace Go.Kx
def dl (a b:Nat):Rat:=if a=b then 1 else 0
theorem AF4 (a:Nat):dl a a=1:=if_pos rfl
theorem AB3 {a b:Nat} (h:a≠b):dl a b=0:=if_neg h
theorem AC3 {n a:Nat} (f:Nat->Rat) (h:a<n):sumN n (fun b=>f b*dl a b)=f a:=by
 rw [E2 (i:=a) (fun k _ hne=>by rw [AB3 (Ne.symm hne),Rat.mul_zero]),if_pos h,AF4,Rat.mul_one]
theorem rat_sq (x:Rat):0<=x*x:=by
 rcases Rat.le_total (a:=0) (b:=x) with h | h
 ·exact Rat.mul_nonneg h h
 ·have h2:0 <= -x:=by grind
  have:=Rat.mul_nonneg h2 h2
  grind
theorem rat_sq0 {x:Rat} (h:x*x=0):x=0:=by
 rcases Rat.mul_eq_zero.1 h with h | h<;>exact h
theorem Al1 {n:Nat} {f:Nat->Rat} (h:∀ k,k<n->0<=f k):0<=sumN n f:=by
 induction n with
 | zero=>exact Rat.le_refl
 | succ n ih =>
  unfold sumN
  grind
theorem sumN_le {n:Nat} {f g:Nat->Rat} (h:∀ k,k<n->f k<=g k):sumN n f<=sumN n g:=by
 have:=Al1 (n:=n) (f:=fun k=>g k-f k) fun k hk=>by have:=h k hk;grind
 rw [Y1] at this
 grind
theorem BA4 {n:Nat} {f:Nat->Rat} (h:∀ k,k<n->0<=f k) {j:Nat} (hj:j<n):f j<=sumN n f:=by
 have h1:sumN n (fun k=>if k=j then f j else 0)=f j:=by
  rw [E2 (i:=j) (fun k _ hne=>if_neg hne),if_pos hj,if_pos rfl]
 rw [<-h1]
 refine sumN_le fun k hk=>?_
 have:=h k hk
 by_cases e:k=j
 ·subst e;rw [if_pos rfl];exact Rat.le_refl
 ·rw [if_neg e];exact this
theorem BA5 {n:Nat} {f:Nat->Rat} (h:∀ k,k<n->0<=f k) (h0:sumN n f=0) {j:Nat} (hj:j<n):f j=0:=by
 have h1:=BA4 h hj
 have h2:=h j hj
 rw [h0] at h1
 exact Rat.le_antisymm h1 h2
structure Nw where
 B:Nat
 M:Nat
 F:Nat->Nat
 T:Nat->Nat
 g:Nat->Rat
structure Nw.Ok (n:Nw):Prop where
 f:∀ k,k<n.M->n.F k<n.B
 t:∀ k,k<n.M->n.T k<n.B
 p:∀ k,k<n.M->0<=n.g k
namespace Nw
section
variable (n:Nw)
def inc (k b:Nat):Rat:=dl (n.F k) b-dl (n.T k) b
def fl (θ:Nat->Rat) (k:Nat):Rat:=n.g k*(θ (n.F k)-θ (n.T k))
def off (f:Nat->Rat) (b:Nat):Rat:=sumN n.M fun k=>n.inc k b*f k
def lap (θ:Nat->Rat) (b:Nat):Rat:=n.off (n.fl θ) b
def Lm (b c:Nat):Rat:=sumN n.M fun k=>n.g k*(n.inc k b*n.inc k c)
def clo (D:Nat->Prop):Prop:=∀ k,k<n.M->n.g k≠0->(D (n.F k)<->D (n.T k))
def rootTo:Nat->Nat->Nat
 | 0,b=>b
 | j+1,b=>if n.g j=0 then rootTo j b else if rootTo j b=max (rootTo j (n.F j)) (rootTo j (n.T j)) then min (rootTo j (n.F j)) (rootTo j (n.T j)) else rootTo j b
def root (b:Nat):Nat:=n.rootTo n.M b
def gm (b c:Nat):Rat:=if n.root b=b then dl b c else n.Lm b c
end
section
variable {n:Nw} {θ φ f:Nat->Rat}
theorem Av8 (ok:n.Ok) {k:Nat} (hk:k<n.M) (φ:Nat->Rat):sumN n.B (fun b=>φ b*n.inc k b)=φ (n.F k)-φ (n.T k):=by
 have e:sumN n.B (fun b=>φ b*n.inc k b)=sumN n.B (fun b=>φ b*dl (n.F k) b-φ b*dl (n.T k) b):=A1 fun b _=>by unfold inc;grind
 rw [e,Y1,AC3 φ (ok.f k hk),AC3 φ (ok.t k hk)]
theorem green (ok:n.Ok) (φ f:Nat->Rat):sumN n.B (fun b=>φ b*n.off f b)=sumN n.M fun k=>(φ (n.F k)-φ (n.T k))*f k:=by
 have e:sumN n.B (fun b=>φ b*n.off f b)=sumN n.B (fun b=>sumN n.M fun k=>φ b*n.inc k b*f k):=A1 fun b _=>by
  unfold off
  rw [<-M5]
  exact A1 fun k _=>by grind
 rw [e,L5]
 refine A1 fun k hk=>?_
 rw [O4,Av8 ok hk]
theorem lap_sum (ok:n.Ok) (θ:Nat->Rat) (b:Nat):sumN n.B (fun c=>n.Lm b c*θ c)=n.lap θ b:=by
 have e:sumN n.B (fun c=>n.Lm b c*θ c)=sumN n.B (fun c=>sumN n.M fun k=>n.g k*n.inc k b*(θ c*n.inc k c)):=A1 fun c _=>by
  unfold Lm
  rw [<-O4]
  exact A1 fun k _=>by grind
 rw [e,L5]
 unfold lap off
 refine A1 fun k hk=>?_
 rw [M5,Av8 ok hk]
 unfold fl
 grind
theorem rigid (ok:n.Ok) {D:Nat->Prop} (hD:n.clo D) (h:∀ b,b<n.B->D b->θ b*n.lap θ b=0):∀ k,k<n.M->n.g k≠0->D (n.F k)->θ (n.F k)=θ (n.T k):=by
 classical
 have e:=green ok (fun b=>if D b then θ b else 0) (n.fl θ)
 have e0:sumN n.B (fun b=>(if D b then θ b else 0)*n.off (n.fl θ) b)=0:=E1 fun b hb=>by
  by_cases hd:D b
  ·rw [if_pos hd];exact h b hb hd
  ·rw [if_neg hd,Rat.zero_mul]
 rw [e0] at e
 have hterm:∀ k,k<n.M->((if D (n.F k) then θ (n.F k) else 0)-(if D (n.T k) then θ (n.T k) else 0))*n.fl θ k=if D (n.F k) then n.g k*((θ (n.F k)-θ (n.T k))*(θ (n.F k)-θ (n.T k))) else 0:=by
  intro k hk
  by_cases hg:n.g k=0
  ·unfold fl
   rw [hg]
   split<;>grind
  ·have:=hD k hk hg
   by_cases hd:D (n.F k)
   ·rw [if_pos hd,if_pos (this.1 hd),if_pos hd]
    unfold fl
    grind
   ·rw [if_neg hd,if_neg (fun x=>hd (this.2 x)),if_neg hd]
    grind
 intro k hk hg hd
 have hn:∀ k,k<n.M->0<=((if D (n.F k) then θ (n.F k) else 0)-(if D (n.T k) then θ (n.T k) else 0))*n.fl θ k:=fun k hk=>by
  rw [hterm k hk]
  split
  ·exact Rat.mul_nonneg (ok.p k hk) (rat_sq _)
  ·exact Rat.le_refl
 have h0:=BA5 hn e.symm hk
 rw [hterm k hk,if_pos hd] at h0
 rcases Rat.mul_eq_zero.1 h0 with h0 | h0
 ·exact absurd h0 hg
 ·have:=rat_sq0 h0
  grind
theorem Aw2 {θ:Nat->Rat}:∀ j,(∀ k,k<j->n.g k≠0->θ (n.F k)=θ (n.T k))->∀ b,θ (n.rootTo j b)=θ b
 | 0,_,b=>rfl
 | j+1,h,b=>by
  have ih:=Aw2 j fun k hk=>h k (by omega)
  unfold rootTo
  split
  ·exact ih b
  ·rename_i hg
   split
   ·rename_i e
    have h1:=h j (by omega) hg
    have hF:=ih (n.F j)
    have hT:=ih (n.T j)
    have hb:=ih b
    have h2:θ (max (n.rootTo j (n.F j)) (n.rootTo j (n.T j)))=θ (n.F j):=by
     rcases Nat.le_total (n.rootTo j (n.F j)) (n.rootTo j (n.T j)) with h | h
     ·rw [Nat.max_eq_right h,hT,h1]
     ·rw [Nat.max_eq_left h,hF]
    have h3:θ (min (n.rootTo j (n.F j)) (n.rootTo j (n.T j)))=θ (n.F j):=by
     rcases Nat.le_total (n.rootTo j (n.F j)) (n.rootTo j (n.T j)) with h | h
     ·rw [Nat.min_eq_left h,hF]
     ·rw [Nat.min_eq_right h,hT,h1]
    rw [h3,<-h2,<-e,hb]
   ·exact ih b
theorem Ac2:∀ j b,n.rootTo j b<=b
 | 0,b=>Nat.le_refl b
 | j+1,b=>by
  have ih:=Ac2 j
  have:=ih b
  unfold rootTo
  split
  ·exact this
  ·split
   ·rename_i e;omega
   ·exact this
theorem AR4:∀ j b,n.rootTo j (n.rootTo j b)=n.rootTo j b
 | 0,b=>rfl
 | j+1,b=>by
  have ih:=AR4 j
  have ib:=ih b
  have iF:=ih (n.F j)
  have iT:=ih (n.T j)
  by_cases hg:n.g j=0
  ·have e:∀ b,n.rootTo (j+1) b=n.rootTo j b:=fun b=>by rw [rootTo,if_pos hg]
   rw [e,e];exact ib
  ·have e:∀ b,n.rootTo (j+1) b=if n.rootTo j b=max (n.rootTo j (n.F j)) (n.rootTo j (n.T j)) then min (n.rootTo j (n.F j)) (n.rootTo j (n.T j)) else n.rootTo j b:=fun b=>by rw [rootTo,if_neg hg]
   rw [e b]
   split
   ·rw [e]
    rcases Nat.le_total (n.rootTo j (n.F j)) (n.rootTo j (n.T j)) with h | h
    ·rw [Nat.min_eq_left h,Nat.max_eq_right h,iF]
     split
     ·rfl
     ·rfl
    ·rw [Nat.min_eq_right h,Nat.max_eq_left h,iT]
     split
     ·rfl
     ·rfl
   ·rename_i hne
    rw [e,ib,if_neg hne]
theorem AR5:∀ j k,k<j->n.g k≠0->n.rootTo j (n.F k)=n.rootTo j (n.T k)
 | 0,k,h,_=>absurd h (Nat.not_lt_zero _)
 | j+1,k,h,hg=>by
  by_cases e:k=j
  ·subst e
   rw [rootTo,rootTo,if_neg hg,if_neg hg]
   rcases Nat.le_total (n.rootTo k (n.F k)) (n.rootTo k (n.T k)) with h | h
   ·rw [Nat.max_eq_right h,Nat.min_eq_left h]
    rw [if_pos rfl]
    split
    ·rfl
    ·rfl
   ·rw [Nat.max_eq_left h,Nat.min_eq_right h]
    rw [if_pos rfl]
    split
    ·rfl
    ·rfl
  ·have ih:=AR5 j k (by omega) hg
   rw [rootTo,rootTo,ih]
theorem root_le (b:Nat):n.root b<=b:=Ac2 _ b
theorem root_root (b:Nat):n.root (n.root b)=n.root b:=AR4 _ b
theorem root_line {k:Nat} (hk:k<n.M) (hg:n.g k≠0):n.root (n.F k)=n.root (n.T k):=AR5 _ k hk hg
theorem root_const (h:∀ k,k<n.M->n.g k≠0->θ (n.F k)=θ (n.T k)) (b:Nat):θ (n.root b)=θ b:=Aw2 _ h b
theorem clo_root (r:Nat):n.clo fun b=>n.root b=r:=fun k hk hg=>by
 show n.root (n.F k)=r<->n.root (n.T k)=r
 rw [root_line hk hg]
theorem off_clo (ok:n.Ok) {D:Nat->Prop} [DecidablePred D] (hD:n.clo D) (hf:∀ k,k<n.M->n.g k=0->f k=0):sumN n.B (fun b=>if D b then n.off f b else 0)=0:=by
 have e:=green ok (fun b=>if D b then 1 else 0) f
 have e1:sumN n.B (fun b=>if D b then n.off f b else 0)=sumN n.B (fun b=>(if D b then 1 else 0)*n.off f b):=A1 fun b _=>by split<;>grind
 rw [e1,e]
 refine E1 fun k hk=>?_
 by_cases hg:n.g k=0
 ·rw [hf k hk hg,Rat.mul_zero]
 ·have:=hD k hk hg
  by_cases hd:D (n.F k)
  ·rw [if_pos hd,if_pos (this.1 hd)];grind
  ·rw [if_neg hd,if_neg fun x=>hd (this.2 x)];grind
theorem fl_out {k:Nat} (h:n.g k=0):n.fl θ k=0:=by unfold fl;rw [h,Rat.zero_mul]
theorem ker0 (ok:n.Ok) (h:∀ b,b<n.B->if n.root b=b then θ b=0 else n.lap θ b=0):∀ b,b<n.B->θ b=0:=by
 have hr:=rigid (θ:=θ) ok (D:=fun _=>True) (fun _ _ _=>Iff.rfl) fun b hb _=>by
  have:=h b hb
  split at this
  ·rw [this,Rat.zero_mul]
  ·rw [this,Rat.mul_zero]
 intro b hb
 rw [<-root_const (fun k hk hg=>hr k hk hg trivial) b]
 have hle:=root_le (n:=n) b
 have:=h (n.root b) (by omega)
 rw [if_pos (root_root b)] at this
 exact this
theorem gm_sum (ok:n.Ok) (θ:Nat->Rat) {b:Nat} (hb:b<n.B):sumN n.B (fun c=>n.gm b c*θ c)=if n.root b=b then θ b else n.lap θ b:=by
 unfold gm
 split
 ·rw [<-AC3 θ hb]
  exact A1 fun c _=>by grind
 ·exact lap_sum ok θ b
theorem lap_sub (b:Nat):n.lap (fun c=>θ c-φ c) b=n.lap θ b-n.lap φ b:=by
 unfold lap off
 rw [<-Y1]
 exact A1 fun k _=>by unfold fl;grind
theorem uniq (ok:n.Ok) (h:∀ b,b<n.B->if n.root b=b then θ b=φ b else n.lap θ b=n.lap φ b):∀ b,b<n.B->θ b=φ b:=by
 intro b hb
 have:=ker0 (θ:=fun c=>θ c-φ c) ok (fun b hb=>by
  have:=h b hb
  split at this
  ·rw [if_pos (by assumption),this];grind
  ·rw [if_neg (by assumption),lap_sub,this];grind) b hb
 grind
end
end Nw
end Go.Kx
