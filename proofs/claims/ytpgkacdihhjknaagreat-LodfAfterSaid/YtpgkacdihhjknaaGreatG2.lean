/-
  What the claim leans on.
-/
import Derived.Test.YtpgkacdihhjknaaGreatG1
import Derived.ProofKit
import Derived.OpenShut
import Derived.Deep.Slices
import Derived.Test.YtpgkacdihhjknaaGreatProg
set_option linter.unusedVariables false
namespace Go.Proofs.YtpgkacdihhjknaaGreat
open Go Go.RowKit Go.ChangeShapes Go.WideShapes Tryz
variable {b n N x i L M m s:Nat}{t:TypeId}{cs:Array Value}{P:Program}{Q:Pst}{σ:Env}{ds:List Deferred}{α:Type}{S:Nat->Prop}{y u:Value}{q:QV}
def Oth (w w':World):Prop:=∀ (k:Nat) (o:Obj),w.heap[k]?=some o->o.isCells=false->w'.heap[k]?=some o
theorem Oth.trans{a b c:World}(h:Oth a b)(h':Oth b c):Oth a c:=λk o ho hc=>h' k o (h k o ho hc) hc
theorem Oth.ext{w w':World}(e:Ext w w'):Oth w w':=λk _ h _=>(e.block k (Array.getElem?_eq_some_iff.1 h).1).trans h
theorem Oth.upd{w w':World}(u:Upd w w' b)(hb:Blk w b t cs):Oth w w':=λk o h hc=>(u.block k (λe=>by
 subst e
 have h':w.heap[k]?=some (.cells cs t (0,0)):=hb
 rw[h'] at h;cases h;cases hc)).trans h
theorem Oth.grown{w w':World}{base:Nat}{sz:Nat}{v:Value}{xs:List Value}(hg:w.grownBy w' v.ownBlock)(ho:w.ownsRow base t sz v n xs):Oth w w':=by
 intro k o h hc;refine (hg.block k (Array.getElem?_eq_some_iff.1 h).1 (λe=>?_)).trans h;rcases ho.2 with ⟨rfl,_⟩ | ⟨g,cap,cur,rfl,_,hh,_⟩
 ·simp[Value.ownBlock] at e
 ·have:k=g:=by simpa[Value.ownBlock] using e
  subst this;rw[hh] at h;cases h;cases hc
structure Sft (D:Nat) (w w':World):Prop where
 below:Below D w w'
 cells:Kp (λ_=>True) w w'
theorem Sft.ext{D:Nat}{w w':World}(e:Ext w w')(h:D<=w.heap.size):Sft D w w':=⟨e.mono h,Kp.ext e⟩
theorem Sft.put{D l:Nat}{w:World}{o o':Obj}(h:D<=l)(hl:w.heap[l]?=some o)(hc:o.isCells=false):Sft D w (w.putObj l o'):=by refine⟨⟨rfl,rfl,rfl,by simp,λk hk=>World.putObj_heap_other (by omega)⟩,λk c t f _ hk=>?_⟩;rw[World.putObj_heap_other (λe=>?_)];exact hk;subst e;rw[hl] at hk;cases hk;cases hc
def penv:List Tmp->List Value->Env->Env
 | p::ps,v::vs,σ=>penv ps vs ((p,v)::σ)
 | _,_,σ=>σ
theorem Ap4 {N:Nat} {ds ds':List Deferred}:∀ (ps:List Tmp) (vs:List Value) (σ:Env) (t:Array Value),(∀ p∈ps,p<N)->Agr N σ ds { tmps:=t,defers:=ds' } ->
  Agr N (penv ps vs σ) ds { tmps:=(ps.zip vs).foldl (λt p=>t.setIfInBounds p.1 p.2) t,defers:=ds' }
 | [],_,σ,t,_,h=>by simpa[penv] using h
 | p::ps,[],σ,t,_,h=>by simpa[penv] using h
 | p::ps,v::vs,σ,t,hp,h=>by
  have h1:=h.put (d:=some p) (by simpa[dOk,aZ] using hp p (by simp)) v
  exact Ap4 ps vs ((p,v)::σ) (t.setIfInBounds p v) (λq hq=>hp q (by simp[hq])) h1
@[reducible] def rnd (J:World->Prop) (Jx:Code->World->Prop) (W:World):Pst
 | .normal,_,_,W'=>Oth W W'/\J W'
 | .ret,_,_,W'=>Oth W W'/\Jx .ret W'
 | .exit id,_,_,W'=>Oth W W'/\Jx (.exit id) W'
 | _,_,_,_=>False
def Iter (P:Program) (gf:FuncId) (lb:Array Value) (n:Nat) (xs:Nat->List Value) (F:World->Prop):Prop :=
 ∀ (l:Nat) (J:Nat->World->Prop) (X:World->Prop),(∀ k W W',J k W->Ext W W'->J k W')->(∀ W W',X W->Ext W W'->X W')->(∀ k W,J k W->F W) ->
  (∀ k W,k<n->J k W->YieldAt (wf none) 0 P l (xs k).toArray W λe W'=>(e=.returned (.bool true)/\J (k+1) W')\/(e=.returned (.bool false)/\X W')) ->
  ∀ W,J 0 W->Calls P gf (#[.func (.yield l) #[] #[]]++lb) W λe W'=>∃ v,e=.returned v/\(J n W'\/X W')
theorem WC.rangeA{w:World}{g:Operand}{ps:List Tmp}{assign body:Code}{gf:FuncId}{lb:Array Value}{xs:Nat->List Value}{F:World->Prop}(hit:Iter P gf lb n xs F)(hg:ev σ g=some (.func (.func gf) #[] lb))(hE:Ent P gf)(hps:∀ k,(xs k).length=ps.length)(hpN:∀ p∈ps,p<N)(J:Nat->World->Prop)(Jx:Code->World->Prop)(stJ:∀ k W W',J k W->Sft w.heap.size W W'->J k W')(stX:∀ c W W',Jx c W->Sft w.heap.size W W'->Jx c W')(hF:∀ k W,J k W->F W)(h0:J 0 w)(hbody:∀ l k W,k<n->J k W->w.heap.size<=W.heap.size->WC P (some l) N (thn (λσ1 ds1 W1=>ds1=[]/\Ext W W1/\∀ W2,Sft w.heap.size W1 W2->W2.heap.size=W1.heap.size->WC P (some l) N (rnd (J (k+1)) Jx W2) body σ1 [] W2) (λ_ _ _ _=>False)) assign (penv ps (xs k) σ) [] W)(hdone:∀ W,J n W->W.heap[w.heap.size]?=some (.deferred (some []))->Q .normal σ ({ target:=.collected w.heap.size,args:=#[] }::ds) W)(hjump:∀ c W,Jx c W->W.heap[w.heap.size]?=some (.deferred (some []))->WC P none N Q c σ ({ target:=.collected w.heap.size,args:=#[] }::ds) W) :
  WC P none N Q (.rangeFunc g ps.toArray assign body) σ ds w:=by
 refine⟨λa ha=>wpIn_rangeFunc λfn _=>?_⟩;have hev:=ha.ev hg;let rec0:Loop:={ state:=.ready,pending:=none,fn:=fn,tmps:=a.tmps,params:=ps.toArray,assign:=assign,body:=body,defers:=w.heap.size };refine⟨w.heap.size+1,[{ target:=.collected w.heap.size,args:=#[] }],(w.alloc (.deferred (some []))).alloc (.loop rec0),{ target:=.fn (.func gf) lb,args:=#[.func (.yield (w.heap.size+1)) #[] #[]] },(w.alloc (.deferred (some []))).alloc (.loop rec0),gf,#[.func (.yield (w.heap.size+1)) #[] #[]]++lb,(w.alloc (.deferred (some []))).alloc (.loop rec0),
  run_enterLoop_outer fn a.tmps ps.toArray assign body,?_,λ_ _=>trivial,?_,(λh=>(by cases h)),?_⟩
 ·simp only[resolve];rw[hev];simp[Deferred.ofValue,rec0];rfl
 ·simp[invoke,hE _ _]
 let l:=w.heap.size+1
 let D:=w.heap.size
 have hne:D≠l:=by show w.heap.size≠w.heap.size+1;omega
 let Jt:Nat->World->Prop:=λk W=>J k W/\W.heap[l]?=some (.loop rec0)/\W.heap[D]?=some (.deferred (some []))
 let Xt:World->Prop:=λW=>∃ c,Jx c W/\W.heap[l]?=some (.loop { rec0 with state:=.done,pending:=some c })/\W.heap[D]?=some (.deferred (some []))
 have hlt:∀ {W:World} {o:Obj},W.heap[l]?=some o->l<W.heap.size:=λh=>(Array.getElem?_eq_some_iff.1 h).1;have hlt':∀ {W:World} {o:Obj},W.heap[D]?=some o->D<W.heap.size:=λh=>(Array.getElem?_eq_some_iff.1 h).1;have hstart:Jt 0 ((w.alloc (.deferred (some []))).alloc (.loop rec0)):=by
  have e1:=AR0 w (.deferred (some []));have e2:=AR0 (w.alloc (.deferred (some []))) (.loop rec0);refine⟨stJ 0 _ _ h0 (Sft.ext (e1.trans e2) (aA _)),?_,?_⟩
  ·have:=World.alloc_heap_new (w.alloc (.deferred (some []))) (.loop rec0);rwa [World.size_alloc] at this
  ·exact (e2.block D (by rw[World.size_alloc];show w.heap.size<w.heap.size+1;omega)).trans (World.alloc_heap_new w _)
 have hcall:=hit l Jt Xt
  (λk W W' ⟨h1,h2,h3⟩ e=>⟨stJ k W W' h1 (Sft.ext e (dT (hlt' h3))),(e.block l (hlt h2)).trans h2,(e.block D (hlt' h3)).trans h3⟩)
  (λW W' ⟨c,h1,h2,h3⟩ e=>⟨c,stX c W W' h1 (Sft.ext e (dT (hlt' h3))),(e.block l (hlt h2)).trans h2,(e.block D (hlt' h3)).trans h3⟩)
  (λk W h=>hF k W h.1)
  (λk W hk ⟨hJ,hl,hD⟩=>by
   refine⟨fn,(ps.zip (xs k)).foldl (λt p=>t.setIfInBounds p.1 p.2) a.tmps,assign,body,?_,?_⟩
   ·have:=run_yield (P:=P) (w:=W) (l:=l) (r:=rec0) (args:=(xs k).toArray) hl (by simp[rec0,hps]);rw[this];simp[rec0]
   ·refine roundIn_of_wpIn trivial ?_;have hag:Agr N (penv ps (xs k) σ) [] { tmps:=(ps.zip (xs k)).foldl (λt p=>t.setIfInBounds p.1 p.2) a.tmps,defers:=[] } :=
     Ap4 ps (xs k) σ a.tmps hpN ⟨ha.size,rfl,ha.slot⟩
    refine wpIn_mono ((hbody l k W hk hJ (dT (hlt' hD))).out _ hag) ?_;rintro e a₁ w₁ ⟨σ1,ds1,hag1,hq⟩
    cases e with
    | normal =>
     obtain⟨rfl,hx1,hb⟩:=hq;have hl:=(Oth.ext hx1) l _ hl rfl;have hD:=(Oth.ext hx1) D _ hD rfl;have hput:(w₁.putObj l (.loop { rec0 with state:=.busy })).heap[l]?=some (.loop { rec0 with state:=.busy }):=World.putObj_heap_same (hlt hl);have hputD:(w₁.putObj l (.loop { rec0 with state:=.busy })).heap[D]?=some (.deferred (some [])):=by rw[World.putObj_heap_other hne];exact hD
     refine⟨_,run_beginRound hl rfl,wpIn_mono ((hb _ (Sft.put (show D<=l by show w.heap.size<=w.heap.size+1;omega) hl O) (World.putObj_size ..)).out a₁ hag1) ?_⟩;have hend:∀ (W':World) (j:Option Code),Oth (w₁.putObj l (.loop { rec0 with state:=.busy })) W' ->
       (Instr.endRound l j).run P W'=.ok (.bool j.isNone) (W'.putObj l (.loop { rec0 with state:=if j.isNone then .ready else .done,pending:=j })) /\
       Sft D W' (W'.putObj l (.loop { rec0 with state:=if j.isNone then .ready else .done,pending:=j })) /\
       (W'.putObj l (.loop { rec0 with state:=if j.isNone then .ready else .done,pending:=j })).heap[l]?=some (.loop { rec0 with state:=if j.isNone then .ready else .done,pending:=j }) /\
       (W'.putObj l (.loop { rec0 with state:=if j.isNone then .ready else .done,pending:=j })).heap[D]?=some (.deferred (some [])):=by
      intro W' j ho;have h1:=ho l _ hput rfl;have h2:=ho D _ hputD rfl;refine⟨run_endRound (r:={ rec0 with state:=.busy }) j h1,Sft.put (show D<=l by show w.heap.size<=w.heap.size+1;omega) h1 rfl,World.putObj_heap_same (hlt h1),?_⟩;rw[World.putObj_heap_other hne];exact h2
     rintro e2 a₂ w₂ ⟨σ2,ds2,hag2,hq2⟩
     cases e2 with
     | normal =>
      obtain⟨ho,hj⟩:=hq2;obtain⟨h1,h2,h3,h4⟩:=hend w₂ none ho;exact⟨_,_,h1,.inl ⟨rfl,stJ _ _ _ hj h2,h3,h4⟩⟩
     | ret =>
      obtain⟨ho,hj⟩:=hq2;obtain⟨h1,h2,h3,h4⟩:=hend w₂ (some .ret) ho;exact⟨_,_,h1,.inr ⟨rfl,.ret,stX _ _ _ hj h2,h3,h4⟩⟩
     | exit id =>
      obtain⟨ho,hj⟩:=hq2;obtain⟨h1,h2,h3,h4⟩:=hend w₂ (some (.exit id)) ho;exact⟨_,_,h1,.inr ⟨rfl,.exit id,stX _ _ _ hj h2,h3,h4⟩⟩
     | _=>exact hq2.elim
    | _=>exact hq.elim)
  _ hstart
 refine Ap0.2 (hcall.mono ?_);have hag':Agr N σ ({ target:=.collected w.heap.size,args:=#[] }::ds) { tmps:=a.tmps,defers:=[{ target:=.collected w.heap.size,args:=#[] }]++a.defers }:=⟨ha.size,by rw[ha.defs];rfl,ha.slot⟩;rintro e W ⟨v,rfl,hres⟩;rcases hres with ⟨hJ,hl,hD⟩ | ⟨c,hX,hl,hD⟩
 ·refine⟨none,_,run_endLoop hl (by simp[rec0]),?_⟩;refine⟨σ,_,hag',hdone _ (stJ _ _ _ hJ (Sft.put (show D<=l by show w.heap.size<=w.heap.size+1;omega) hl O)) ?_⟩;rw[World.putObj_heap_other hne];exact hD
 ·refine⟨some c,_,run_endLoop hl (by simp),?_⟩;refine (hjump c _ (stX _ _ _ hX (Sft.put (show D<=l by show w.heap.size<=w.heap.size+1;omega) hl O)) ?_).out _ hag';rw[World.putObj_heap_other hne];exact hD
theorem WC.range{w:World}{g:Operand}{ps:List Tmp}{assign body:Code}{gf:FuncId}{lb:Array Value}{xs:Nat->List Value}{F:World->Prop}(hit:Iter P gf lb n xs F)(hg:ev σ g=some (.func (.func gf) #[] lb))(hE:Ent P gf)(hps:∀ k,(xs k).length=ps.length)(hpN:∀ p∈ps,p<N)(J:Nat->World->Prop)(Jx:Code->World->Prop)(stJ:∀ k W W',J k W->Sft w.heap.size W W'->J k W')(stX:∀ c W W',Jx c W->Sft w.heap.size W W'->Jx c W')(hF:∀ k W,J k W->F W)(h0:J 0 w)(hbody:∀ l k W,k<n->J k W->WC P (some l) N (thn (λσ1 ds1 W1=>ds1=[]/\W1=W/\∀ W2,J k W2->w.heap.size<=W2.heap.size->WC P (some l) N (rnd (J (k+1)) Jx W2) body σ1 [] W2) (λ_ _ _ _=>False)) assign (penv ps (xs k) σ) [] W)(hdone:∀ W,J n W->W.heap[w.heap.size]?=some (.deferred (some []))->Q .normal σ ({ target:=.collected w.heap.size,args:=#[] }::ds) W)(hjump:∀ c W,Jx c W->W.heap[w.heap.size]?=some (.deferred (some []))->WC P none N Q c σ ({ target:=.collected w.heap.size,args:=#[] }::ds) W) :
  WC P none N Q (.rangeFunc g ps.toArray assign body) σ ds w :=
 .rangeA hit hg hE hps hpN J Jx stJ stX hF h0 (λl k W hk hJ hs=>(hbody l k W hk hJ).mono λe σ1 ds1 W1 h=>by
  cases e with
  | normal=>exact⟨h.1,h.2.1▸Ext.refl _,λW2 h2 hz=>h.2.2 W2 (stJ k _ _ (h.2.1▸hJ) h2) (by rw[hz,h.2.1];exact hs)⟩
  | _=>exact h) hdone hjump
section
variable {P:Program} {ro:Option Nat} {N:Nat} {ds:List Deferred} {ops:Array Oper} {K:Env->World->Prop} {rest:List Oper} {σ:Env} {w:World} {d:Tmp} {ty:TypeId} {pos:String} {af:Array Edge}
theorem WL.yld {l:Nat} {fx:Operand} {xs:List Operand} {ts:Array TypeId} (vs:List Value) {R:Value->World->Prop} (hd:Nat.blt d N=true) (hfx:ev σ fx=some (.func (.yield l) #[] #[])) (hx:xs.map (ev σ)=vs.map some)
  (hy:YieldAt (wf none) 0 P l vs.toArray w λe w'=>∃ v,e=.returned v/\R v w') (k:∀ v w',R v w'->WL P ro N ds ops K rest ((d,v)::σ) w') :
  WL P ro N ds ops K (⟨some d,.call { callee:=.value fx,args:=xs.toArray,argTypes:=ts },ty,pos,af,none⟩::rest) σ w:=by
 refine⟨λa ha=>wpListIn_plain O λK' hK=>?_⟩;obtain⟨fn,tmps,assign,body,hrun,hR⟩:=hy;refine⟨λ_ _=>trivial,?_⟩;show Oper.uponIn (wf ro) 0 P _ a K' _ ((Oper.semAt ro a.eval _).run P w);rw[AX1 (by intro c h;cases h)];have h1:=ha.ev hfx;have h2:xs.map a.eval=vs:=AJ4 (σ:=σ) (λx v _ hx'=>ha.ev hx') hx;have hex:(execOp a.eval { dst:=some d,op:=.call { callee:=.value fx,args:=xs.toArray,argTypes:=ts },type:=ty,pos:=pos,after:=af,guard:=none }).run P w=.ok (.round l fn tmps assign body) w:=by simp[execOp,resolve,h1,h2,Deferred.ofValue,invoke,hrun]
 rw[hex];refine⟨λh=>(by cases h),?_⟩;have hR':RoundIn (wf ro) (0-1) P l fn tmps assign body w λe w'=>∃ v,e=.returned v/\R v w':=hR;refine hR'.mono ?_;rintro e w' ⟨v,rfl,hv⟩;exact hK _ _ ((k v w' hv).out _ (ha.put (d:=some d) hd v))
end
def sg (neg:Bool) (n:Nat):Int:=if neg then -(n:Int) else n
def zval (z:ZV):Int:=sg z.neg (val z.w)
def zc (n:Int):ZV:=⟨decide (n<0),wds n.natAbs⟩
theorem AS5(neg:Bool):zc (sg neg 0)=⟨false,[]⟩:=by cases neg<;>simp[zc,sg,I8]
theorem BP9(neg:Bool)(h:n≠0):zc (sg neg n)=⟨neg,wds n⟩:=by
 cases neg
 ·simp[zc,sg]
 ·have:0<n:=by omega
  simp[zc,sg,this]
theorem B3(n:Int):zval (zc n)=n:=by unfold zval zc sg;simp only[B9,decide_eq_true_eq];split<;>omega
theorem L6(n:Nat):IntKind.u32.wrap (n:Int)=((n % 4294967296:Nat):Int):=by rw[IntKind.wrap_u32];omega
theorem T1(n:Nat):IntKind.u64.wrap (n:Int)=((n % 18446744073709551616:Nat):Int):=by rw[IntKind.wrap_u64];omega
theorem AN7(n k:Nat):((n:Int).fdiv ((2:Int) ^ k))=((n / 2 ^ k:Nat):Int):=by rw[Int.fdiv_eq_ediv_of_nonneg _ (by exact Int.le_of_lt (Int.pow_pos (by omega)))];rw[Int.natCast_ediv,Int.natCast_pow];rfl
theorem fdiv32(n:Nat):((n:Int).fdiv ((2:Int) ^ (min (32:Int).toNat IntKind.u64.bits)))=((n / 4294967296:Nat):Int):=AN7 n 32
theorem shl32(n:Nat)(h:n<4294967296):IntKind.u64.wrap ((n:Int)*2 ^ (min (32:Int).toNat IntKind.u64.bits))=((n*4294967296:Nat):Int):=by
 have:((n:Int)*2 ^ (min (32:Int).toNat IntKind.u64.bits))=((n*4294967296:Nat):Int):=by show ((n:Int)*2 ^ 32)=_;omega
 rw[this,T1];congr 1;omega
theorem BM6(x y:Nat)(hx:x<18446744073709551616)(hy:y<18446744073709551616) :
  IntKind.u64.wrap (BitVec.ofInt IntKind.u64.bits (x:Int) ||| BitVec.ofInt IntKind.u64.bits (y:Int)).toNat=((x ||| y:Nat):Int):=by
 show IntKind.u64.wrap (BitVec.ofInt 64 (x:Int) ||| BitVec.ofInt 64 (y:Int)).toNat=_;rw[BitVec.toNat_or,BitVec.toNat_ofInt,BitVec.toNat_ofInt];have e1:((x:Int) % ((2 ^ 64:Nat):Int)).toNat=x:=by omega
 have e2:((y:Int) % ((2 ^ 64:Nat):Int)).toNat=y:=by omega
 rw[e1,e2,T1];congr 1;exact bJ (Nat.or_lt_two_pow (n:=64) hx hy)
theorem or32(x y:Nat)(hx:x<4294967296):(x ||| (y*4294967296))=x+4294967296*y:=by have:=Nat.shiftLeft_add_eq_or_of_lt (i:=32) (b:=x) hx y;rw[Nat.shiftLeft_eq,show (2:Nat) ^ 32=4294967296 from rfl,Nat.or_comm] at this;rw[<-this];omega
theorem dig_nil:dig []:=by simp[dig]
theorem Bi4{l:List Nat}:dig (x::l)<->x<4294967296/\dig l:=by simp[dig]
theorem G5(f:α->Value)(hf:∀ x,(f x).cells=#[f x])(l:List α):cellsOf (l.map f)=l.map f:=by
 induction l with
 | nil=>rfl
 | cons x l ih =>
  simp only[cellsOf] at ih;simp only[cellsOf,dR,fH,ih,hf];rfl
theorem An9{w:World}{l:List Nat}{c:Nat}(hb:Blk w b t (l.map λ(x:Nat)=>Value.int .u32 x).toArray)(hS:S b)(hd:dig l)(hl:l.length<=c)(hm:l.length<=9223372036854775807) :
  eW.R S w (.slice (some ⟨b,0,none⟩) l.length c) l:=by
 refine RL.ofBlk (es:=l.map λ(x:Nat)=>Value.int .u32 x) hb hS ⟨by simp,λi e x he hx=>?_⟩ (λj u hu=>?_) hl hm
 ·rw[aI,hx] at he;simp at he;exact⟨he.symm,hd x (List.mem_iff_getElem?.2 ⟨i,hx⟩)⟩
 ·have:=G5 (λ(x:Nat)=>Value.int .u32 x) (λ_=>rfl) l;rw[this] at hu;simpa using hu
section
variable {P:Program} {ro:Option Nat} {N:Nat} {Q:Pst} {σ:Env} {ds:List Deferred} {w:World}
theorem WC.mid {α:Type} {x y:Code} (E:α->Env) (F:α->World->Prop) (h1:WC P ro N (thn (λσ' ds' w'=>ds'=ds/\∃ a,(∀ t v,look (E a) t=some v->look σ' t=some v)/\F a w') Q) x σ ds w)
  (h2:∀ a w',F a w'->WC P ro N Q y (E a) ds w'):WC P ro N Q (x.seq y) σ ds w :=
 WC.seq (h1.mono λe σ' ds' w' h=>by
  cases e with
  | normal=>obtain⟨rfl,a,he,hf⟩:=h;exact (h2 a w' hf).weak _ he
  | _=>exact h)
end
section
variable {P:Program} {ro:Option Nat} {N:Nat} {ds:List Deferred} {ops:Array Oper} {K:Env->World->Prop} {rest:List Oper} {σ:Env} {w:World} {d:Tmp} {ty:TypeId} {pos:String} {af:Array Edge}
theorem WL.callG {f:FuncId} {xs:List Operand} {ts:Array TypeId} (vs:List Value) {R:Value->World->Prop} (hd:Nat.blt d N=true) (hf:Ent P f) (hx:xs.map (ev σ)=vs.map some) (hc:Calls P f vs.toArray w λe w'=>∃ v,e=.returned v/\R v w')
  (k:∀ v w',R v w'->WL P ro N ds ops K rest ((d,v)::σ) w') :
  WL P ro N ds ops K (⟨some d,.call { callee:=.value (.func f),args:=xs.toArray,argTypes:=ts },ty,pos,af,none⟩::rest) σ w :=
 WL.gv O hd (g_callG vs hf hx hc) k
theorem WL.callvG {f:FuncId} {fx:Operand} {xs:List Operand} {ts:Array TypeId} {cap:Array Value} (vs:List Value) {R:Value->World->Prop} (hd:Nat.blt d N=true) (hfx:ev σ fx=some (.func (.func f) #[] cap)) (hf:Ent P f)
  (hx:xs.map (ev σ)=vs.map some) (hc:Calls P f (vs.toArray++cap) w λe w'=>∃ v,e=.returned v/\R v w') (k:∀ v w',R v w'->WL P ro N ds ops K rest ((d,v)::σ) w') :
  WL P ro N ds ops K (⟨some d,.call { callee:=.value fx,args:=xs.toArray,argTypes:=ts },ty,pos,af,none⟩::rest) σ w :=
 WL.gv O hd (AN6 vs hfx hf hx hc) k
end
section
variable {P:Program} {σ:Env} {w:World} {d:Option Tmp} {ty:TypeId} {pos:String} {af:Array Edge} {g:Option (Nat×Bool)}
theorem E2 {t e:TypeId} {x ix:Operand} {k:IntKind} {i:Nat} {b:Bool} {sz blk off n c:Nat} (ht:P.underlying t=some (.slice e)) (he:tyOf P e=some (b,sz)) (hx:ev σ x=some (.slice (some ⟨blk,off,none⟩) n c))
  (hi:ev σ ix=some (.int k (i:Int))) (hlt:i<n):Vl P ⟨d,.indexAddr t x ix,ty,pos,af,g⟩ σ w (.pointer (some ⟨blk,off+i*sz,none⟩)):=by
 refine⟨(by intro _ h;cases h),λρ hρ=>?_⟩;have h1:=hρ x _ (by simp[Op.operands]) hx;have h2:=hρ ix _ (by simp[Op.operands]) hi;simp[execOp,h1,h2,Instr.indexAt,asIntOf,run_underlying ht,(H4 he w).2,M9];intro hh;omega
theorem BL4 {t e:TypeId} {x:Operand} {b:Bool} {sz blk off n c:Nat} (lo hi:Option Operand) (L H:Nat) (ht:P.underlying t=some (.slice e)) (he:tyOf P e=some (b,sz)) (hx:ev σ x=some (.slice (some ⟨blk,off,none⟩) n c))
  (hlo:match lo with | none=>L=0 | some y=>∃ k,ev σ y=some (.int k (L:Int))) (hhi:match hi with | none=>H=n | some y=>∃ k,ev σ y=some (.int k (H:Int))) (h1:L<=H) (h2:H<=c) (h3:L<c) :
  Vl P ⟨d,.slice t x lo hi none,ty,pos,af,g⟩ σ w (.slice (some ⟨blk,off+L*sz,none⟩) (H-L) (c-L)):=by
 refine⟨(by intro _ h;cases h),λρ hρ=>?_⟩;have e1:=hρ x _ (by simp[Op.operands]) hx;have hb1:(Instr.sliceBounds true n c (lo.map ρ) (hi.map ρ) none).run P w=.ok (L,H,c) w:=by
  cases lo with
  | none =>
   cases hi with
   | none=>simp at hlo hhi;subst hlo;subst hhi;simp[Instr.sliceBounds]
   | some y =>
    simp at hlo;obtain⟨k,hk⟩:=hhi;have:=hρ y _ (by simp[Op.operands]) hk;subst hlo;simp[Instr.sliceBounds,Instr.sliceBound,this,asIntOf,Int.ofNat_le,h2]
  | some z =>
   obtain⟨k',hk'⟩:=hlo;have e2:=hρ z _ (by simp[Op.operands]) hk'
   cases hi with
   | none =>
    simp at hhi;subst hhi;simp[Instr.sliceBounds,Instr.sliceBound,e2,asIntOf,h1]
   | some y =>
    obtain⟨k,hk⟩:=hhi;have:=hρ y _ (by simp[Op.operands]) hk;simp[Instr.sliceBounds,Instr.sliceBound,this,e2,asIntOf,h2,h1]
 have hne:¬ c=L:=by omega
 simp[execOp,e1,Instr.sliceAt,run_underlying ht,Instr.slice,hb1,(H4 he w).2,hne,M9]
end
section
variable {P:Program} {ro:Option Nat} {N:Nat} {ds:List Deferred} {ops:Array Oper} {K:Env->World->Prop} {rest:List Oper} {σ:Env} {w:World} {d:Tmp} {ty:TypeId} {pos:String} {af:Array Edge}
theorem WL.ixB {t e:TypeId} {x ix:Operand} {k:IntKind} {i:Nat} {b:Bool} {sz blk off n c:Nat} (ht:P.underlying t=some (.slice e)) (he:tyOf P e=some (b,sz)) (hd:Nat.blt d N=true) (hx:ev σ x=some (.slice (some ⟨blk,off,none⟩) n c))
  (hi:ev σ ix=some (.int k (i:Int))) (hlt:i<n) (kk:WL P ro N ds ops K rest ((d,.pointer (some ⟨blk,off+i*sz,none⟩))::σ) w):WL P ro N ds ops K (⟨some d,.indexAddr t x ix,ty,pos,af,none⟩::rest) σ w :=
 WL.vl O hd (E2 ht he hx hi hlt) kk
theorem WL.cutB {t e:TypeId} {x:Operand} {b:Bool} {sz blk off n c:Nat} {lo hi:Option Operand} (L H:Nat) (ht:P.underlying t=some (.slice e)) (he:tyOf P e=some (b,sz)) (hd:Nat.blt d N=true) (hx:ev σ x=some (.slice (some ⟨blk,off,none⟩) n c))
  (hlo:match lo with | none=>L=0 | some y=>∃ k,ev σ y=some (.int k (L:Int))) (hhi:match hi with | none=>H=n | some y=>∃ k,ev σ y=some (.int k (H:Int))) (h1:L<=H) (h2:H<=c) (h3:L<c)
  (kk:WL P ro N ds ops K rest ((d,.slice (some ⟨blk,off+L*sz,none⟩) (H-L) (c-L))::σ) w):WL P ro N ds ops K (⟨some d,.slice t x lo hi none,ty,pos,af,none⟩::rest) σ w :=
 WL.vl O hd (BL4 lo hi L H ht he hx hlo hhi h1 h2 h3) kk
end
theorem Vl.eq{o:Oper}{w:World}{v v':Value}(h:Vl P o σ w v)(e:v=v'):Vl P o σ w v':=e▸h
abbrev wv (x:Nat):Value:=.int .u32 x
def OwnW (t:TypeId) (base:Nat) (w:World) (v:Value) (r:List Nat):Prop:=w.ownsRow base t 1 v r.length (r.map wv)/\dig r
theorem OwnW.keep{base:Nat}{w w':World}{v:Value}{r:List Nat}(h:OwnW t base w v r)(hk:∀ k cs,base<=k->Blk w k t cs->Blk w' k t cs):OwnW t base w' v r:=by
 refine⟨⟨h.1.1,?_⟩,h.2⟩;rcases h.1.2 with hn | ⟨g,cap,cur,hv,hb,hg,rest⟩
 ·exact .inl hn
 ·exact .inr ⟨g,cap,cur,hv,hb,hk g cur hb hg,rest⟩
theorem OwnW.kp{base:Nat}{w w':World}{v:Value}{r:List Nat}(h:OwnW t base w v r)(hk:Kp (λ_=>True) w w'):OwnW t base w' v r:=h.keep λk cs _ hb=>hk.blk trivial hb
theorem OwnW.ext{base:Nat}{w w':World}{v:Value}{r:List Nat}(h:OwnW t base w v r)(e:Ext w w'):OwnW t base w' v r:=h.kp (Kp.ext e)
theorem OwnW.upd{t':TypeId}{base:Nat}{w w':World}{v:Value}{r:List Nat}(h:OwnW t base w v r)(hu:Upd w w' b)(hb:Blk w b t' cs)(ht:t≠t'):OwnW t base w' v r :=
 h.keep λk c _ hk=>hk.upd hu λe=>by
  subst e
  have h1:w.heap[k]?=some (.cells c t (0,0)):=hk
  have h2:w.heap[k]?=some (.cells cs t' (0,0)):=hb
  rw[h1] at h2;cases h2;exact ht rfl
theorem OwnW.gblk{t':TypeId}{base:Nat}{w w':World}{v:Value}{r:List Nat}(h:OwnW t base w v r)(hg:w.grownBy w' v.ownBlock)(hb:Blk w b t' cs)(ht:t≠t'):Blk w' b t' cs:=by
 refine (hg.block b hb.lt λe=>?_).trans hb;rcases h.1.2 with ⟨rfl,_⟩ | ⟨g,cap,cur,rfl,_,hgg,_⟩
 ·simp[Value.ownBlock] at e
 ·have:b=g:=by simpa[Value.ownBlock] using e
  subst this;have h2:w.heap[b]?=some (.cells cs t' (0,0)):=hb;rw[hgg] at h2;cases h2;exact ht rfl
theorem OwnW.below{base:Nat}{w0 w w':World}{v:Value}{r:List Nat}(h:OwnW t base w v r)(hg:w.grownBy w' v.ownBlock)(hb:Below base w0 w)(hB:base<=w.heap.size):Below base w0 w' :=
 hb.grown hg hB λk hk=>(h.1.lt k hk).1
theorem OwnW.oth{base:Nat}{w w':World}{v:Value}{r:List Nat}(h:OwnW t base w v r)(hg:w.grownBy w' v.ownBlock):Oth w w':=Oth.grown hg h.1
theorem OwnW.made{base c:Nat}{w w':World}(hn:New w w' b t (cellsOf (List.replicate c (.int .u32 0))).toArray)(hb:base<=w.heap.size)(hc:c<=9223372036854775807):OwnW t base w' (.slice (some ⟨b,0,none⟩) 0 c) []:=by obtain⟨_,hk,hb',_⟩:=hn;refine⟨⟨rfl,.inr ⟨b,c,_,rfl,by omega,hk,aC _,by simpa[maxLen] using hc,?_,by simp⟩⟩,by simp[dig]⟩;rw[dG,B7 (sz:=1) _ (λe he=>by rw[(List.mem_replicate.1 he).2];rfl)];simp
theorem OwnW.toR{base:Nat}{w:World}{v:Value}{r:List Nat}(h:OwnW t base w v r)(hS:∀ k,base<=k->S k):eW.R S w v r:=by
 refine RL.ofOwn (E:=eU32) (es:=r.map wv) (base:=base) (t:=t) (n:=r.length) ?_ O ⟨by simp,λi e x he hx=>?_⟩ hS
 ·rw[G5 wv (λ_=>rfl)];exact h.1
 ·rw[aI,hx] at he;simp at he;exact⟨he.symm,h.2 x (List.mem_iff_getElem?.2 ⟨i,hx⟩)⟩
section
variable {P:Program} {σ:Env} {w:World} {d:Option Tmp} {ty:TypeId} {pos:String} {af:Array Edge} {g:Option (Nat×Bool)}
theorem Ab8 {t e:TypeId} {x y:Operand} {base b:Nat} {v:Value} {r:List Nat} {n:Nat} (ht:P.underlying t=some (.slice e)) (hi:infoOf P e=some (.int .u32 0,1,4)) (hx:ev σ x=some v) (hy:ev σ y=some (.slice (some ⟨b,0,none⟩) 1 1))
  (hown:OwnW e base w v r) (hb:Blk w b e #[wv n]) (hn:n<4294967296) (hl:r.length<=1099511627776) (hbase:base<=w.heap.size) :
  Gv P ⟨d,.call { callee:=.builtin .append,args:=#[x,y],argTypes:=#[t,t] },ty,pos,af,g⟩ σ w λv' w'=>OwnW e base w' v' (r++[n])/\w.grownBy w' v.ownBlock:=by
 refine (Af2 [wv n] ht hi O (by decide) hx hy hown.1 O (λj u hu=>?_) (λu hu=>?_) (by omega) (by omega) hbase).mono ?_
 ·cases j with
  | zero=>simp at hu;subst hu;rw[M9,hb.cell];rfl
  | succ j=>simp at hu
 ·simp at hu;subst hu;rfl
 ·rintro v' w' ⟨h1,h2⟩;refine⟨⟨by simpa using h1,?_⟩,h2⟩;intro y hy;rcases List.mem_append.1 hy with h | h
  ·exact hown.2 y h
  ·simp at h;subst h;exact hn
end
@[reducible] def Wv (S:Nat->Prop) (n L:Nat):Value->World->Prop:=λv w=>∃ r,eW.R S w v r/\val r=n/\r.length<=L
theorem st_wv(S:Nat->Prop)(n L:Nat):St (Wv S n L):=λ_ _ _ e ⟨r,h1,h2⟩=>⟨r,h1.ext e,h2⟩
theorem AG5(l:List Nat)(x:Nat):val (l++[x])=val l+4294967296 ^ l.length*x:=by rw[AI3];simp[val]
theorem C3(l:List Nat)(k:Nat):val (l.take (k+1))=val (l.take k)+4294967296 ^ k*l.getD k 0:=by
 rcases aB k l.length with h | h
 ·rw[fL h,AG5,cC,cI (by omega)];simp[aF,aE h]
 ·rw[aK (by omega),aK h];simp[aF,aH h]
theorem G4{l:List Nat}(h:dig l)(k:Nat):l.getD k 0<4294967296:=by
 rw[aF]
 cases hk:l[k]? with
 | none=>simp
 | some x=>exact h x (List.mem_iff_getElem?.2 ⟨k,hk⟩)
theorem Q5{B D:Nat}{w0 w:World}{o:Obj}(h:Below B w0 w)(hD:B<=D):Below B w0 (w.putObj D o) :=
 h.trans ⟨rfl,rfl,rfl,by simp,λk hk=>World.putObj_heap_other (by omega)⟩
theorem Kp.put{D:Nat}{w:World}{o o':Obj}(hl:w.heap[D]?=some o)(hc:o.isCells=false):Kp S w (w.putObj D o'):=by intro k c t f _ hk;rw[World.putObj_heap_other (λe=>?_)];exact hk;subst e;rw[hl] at hk;cases hk;cases hc
def OB (t:TypeId) (w:World) (g:Nat) (U:List Nat):Prop:=dig U/\∃ cs,Blk w g t cs/\∀ (i x:Nat),U[i]?=some x->cs[i]?=some (wv x)
section
variable {t:TypeId} {w w':World} {g:Nat} {U:List Nat}
theorem OB.lt (h:OB t w g U):g<w.heap.size:=by obtain⟨_,cs,hb,_⟩:=h;exact hb.lt
theorem OB.ext (h:OB t w g U) (e:Ext w w'):OB t w' g U:=by obtain⟨hd,cs,hb,hc⟩:=h;exact⟨hd,cs,hb.ext e,hc⟩
theorem OB.upd {b:Nat} (h:OB t w g U) (u:Upd w w' b) (hne:g≠b):OB t w' g U:=by obtain⟨hd,cs,hb,hc⟩:=h;exact⟨hd,cs,hb.upd u hne,hc⟩
theorem OB.toR {S:Nat->Prop} (h:OB t w g U) (hS:S g) (k m c:Nat) (hkm:k+m<=U.length) (hmc:m<=c) (hb:m<=9223372036854775807):eW.R S w (.slice (some ⟨g,k,none⟩) m c) ((U.drop k).take m):=by
 obtain⟨hd,cs,hB,hc⟩:=h;have hl:((U.drop k).take m).length=m:=by simp;omega
 refine⟨((U.drop k).take m).map wv,⟨by simp,λi e x he hx=>?_⟩,some ⟨g,k,none⟩,c,by rw[hl],by omega,by omega,?_,λ_=>⟨_,rfl,hS,λj u hu=>?_⟩⟩
 ·rw[aI,hx] at he;simp at he;refine⟨he.symm,hd x ?_⟩;exact gT (eO (List.mem_iff_getElem?.2 ⟨i,hx⟩))
 ·rw[G5 wv (λ_=>rfl),dA,hl];exact (cT m).symm
 ·rw[G5 wv (λ_=>rfl),aI] at hu;rw[M9];refine⟨?_,hB.frozen _⟩;rw[hB.cell]
  cases hx:((U.drop k).take m)[j]? with
  | none=>rw[hx] at hu;cases hu
  | some x =>
   rw[hx] at hu;simp at hu;subst hu;refine hc _ _ ?_;rw[cP] at hx;split at hx
   ·rw[eR] at hx;exact hx
   ·cases hx
theorem OB.toR0 {S:Nat->Prop} {c:Nat} (h:OB t w g U) (hS:S g) (hmc:U.length<=c) (hb:U.length<=9223372036854775807):eW.R S w (.slice (some ⟨g,0,none⟩) U.length c) U:=by have:=h.toR hS 0 U.length c (by omega) hmc hb;simpa using this
theorem OwnW.ob {base:Nat} {v:Value} (h:OwnW t base w v U) (hne:U≠[]):∃ g cap,v=.slice (some ⟨g,0,none⟩) U.length cap/\U.length<=cap/\cap<=9223372036854775807/\base<=g/\OB t w g U:=by
 rcases h.1.2 with ⟨_,h0⟩ | ⟨g,cap,cur,hv,hb,hg,h1,h2,h3,h4⟩
 ·exact absurd (List.length_eq_zero_iff.1 h0) hne
 ·refine⟨g,cap,hv,h1,by simpa[maxLen] using h2,hb,h.2,cur,hg,λi x hx=>?_⟩;have:(cur.toList.take (U.length*1))[i]?=some (wv x):=by rw[h4,aI,hx];rfl
  rw[cP] at this;split at this
  ·simpa using this
  ·cases this
theorem OB.made {b c:Nat} (hn:New w w' b t (cellsOf (List.replicate c (.int .u32 0))).toArray):OB t w' b (List.replicate c 0):=by
 obtain⟨_,hk,_,_⟩:=hn;refine⟨λx hx=>by rw[(List.mem_replicate.1 hx).2];omega,_,hk,λi x hx=>?_⟩;have:cellsOf (List.replicate c (Value.int .u32 0))=(List.replicate c 0).map wv:=by have h:=G5 wv (λ_=>rfl) (List.replicate c 0);rw[<-h,List.map_replicate];rfl
 rw[this];simp only[bM,aI,hx,cW]
end
section
variable {P:Program} {ro:Option Nat} {N:Nat} {ds:List Deferred} {ops:Array Oper} {K:Env->World->Prop} {rest:List Oper} {σ:Env} {w:World} {d:Tmp} {ty:TypeId} {pos:String} {af:Array Edge}
theorem BD9 {dd:Option Tmp} {gd:Option (Nat×Bool)} {t e:TypeId} {x ix:Operand} {k:IntKind} {i:Nat} {b:Bool} {blk off n c:Nat} (ht:P.underlying t=some (.slice e)) (he:tyOf P e=some (b,1)) (hx:ev σ x=some (.slice (some ⟨blk,off,none⟩) n c))
  (hi:ev σ ix=some (.int k (i:Int))) (hlt:i<n):Vl P ⟨dd,.indexAddr t x ix,ty,pos,af,gd⟩ σ w (.pointer (some ⟨blk,off+i,none⟩)):=by
 have:=E2 (d:=dd) (g:=gd) (ty:=ty) (pos:=pos) (af:=af) (w:=w) ht he hx hi hlt;rwa [cT] at this
theorem WL.ixW {t e:TypeId} {x ix:Operand} {k:IntKind} {i:Nat} {b:Bool} {blk off n c:Nat} (ht:P.underlying t=some (.slice e)) (he:tyOf P e=some (b,1)) (hd:Nat.blt d N=true) (hx:ev σ x=some (.slice (some ⟨blk,off,none⟩) n c))
  (hi:ev σ ix=some (.int k (i:Int))) (hlt:i<n) (kk:WL P ro N ds ops K rest ((d,.pointer (some ⟨blk,off+i,none⟩))::σ) w):WL P ro N ds ops K (⟨some d,.indexAddr t x ix,ty,pos,af,none⟩::rest) σ w :=
 WL.vl O hd (BD9 ht he hx hi hlt) kk
theorem BQ1 {dd:Option Tmp} {gd:Option (Nat×Bool)} {t t':TypeId} {x:Operand} {g i y:Nat} {U:List Nat} (ht:tyOf P t=some (false,1)) (hx:ev σ x=some (.pointer (some ⟨g,i,none⟩))) (h:OB t' w g U) (hi:U[i]?=some y) :
  Vl P ⟨dd,.load t x,ty,pos,af,gd⟩ σ w (wv y):=by
 obtain⟨_,cs,hb,hc⟩:=h;exact v_ld ht hx hb (hc i y hi)
theorem WL.ldO {t t':TypeId} {x:Operand} {g i y:Nat} {U:List Nat} (ht:tyOf P t=some (false,1)) (hd:Nat.blt d N=true) (hx:ev σ x=some (.pointer (some ⟨g,i,none⟩))) (h:OB t' w g U) (hi:U[i]?=some y)
  (k:WL P ro N ds ops K rest ((d,wv y)::σ) w):WL P ro N ds ops K (⟨some d,.load t x,ty,pos,af,none⟩::rest) σ w:=WL.vl O hd (BQ1 ht hx h hi) k
theorem g_stO {dd:Option Tmp} {gd:Option (Nat×Bool)} {t t':TypeId} {x y:Operand} {g i n:Nat} {U:List Nat} (ht:tyOf P t=some (false,1)) (hx:ev σ x=some (.pointer (some ⟨g,i,none⟩))) (hy:ev σ y=some (wv n)) (h:OB t' w g U) (hi:i<U.length) (hn:n<4294967296) :
  Gv P ⟨dd,.store t x y,ty,pos,af,gd⟩ σ w λ_ w'=>OB t' w' g (U.set i n)/\Upd w w' g:=by
 obtain⟨hd,cs,hb,hc⟩:=h;have hsz:i<cs.size:=by
  have:=hc i _ (aE hi);rcases aB i cs.size with h | h
  ·exact h
  ·rw[cV h] at this;cases this
 refine (N1 ht hx hy hb O (by omega) (by simp[one1,Value.cells])).mono ?_;rintro _ w' ⟨h1,h2⟩;refine⟨⟨λx hx=>?_,_,h1,λj x hx=>?_⟩,h2⟩
 ·rcases eT hx with h | h
  ·exact hd x h
  ·omega
 ·have hcl:(wv n).cells.toList=[wv n]:=rfl;rw[hcl,AP2 _ _ _ _ (by simp;omega),List.length_singleton];rw[cZ] at hx;by_cases e:i=j
  ·subst e;rw[if_pos rfl,if_pos hi] at hx
   cases hx;rw[if_pos (by omega)];simp
  ·rw[if_neg e] at hx;rw[if_neg (by omega)];exact hc j x hx
theorem WL.stO {t t':TypeId} {x y:Operand} {dd:Option Tmp} {g i n:Nat} {U:List Nat} (ht:tyOf P t=some (false,1)) (hd:dd=none) (hx:ev σ x=some (.pointer (some ⟨g,i,none⟩))) (hy:ev σ y=some (wv n)) (h:OB t' w g U) (hi:i<U.length) (hn:n<4294967296)
  (k:∀ w',OB t' w' g (U.set i n)->Upd w w' g->WL P ro N ds ops K rest σ w'):WL P ro N ds ops K (⟨dd,.store t x y,ty,pos,af,none⟩::rest) σ w:=by
 subst hd;exact WL.gv O O (g_stO ht hx hy h hi hn) λ_ w' ⟨h1,h2⟩=>k w' h1 h2
end
section
variable {P:Program} {σ:Env} {w:World} {d:Option Tmp} {ty:TypeId} {pos:String} {af:Array Edge} {g:Option (Nat×Bool)}
theorem BS2 {x:Operand} {u:Value} {R:Value->World->Prop} (hx:ev σ x=some u) (h:R u w) (hs:St R):Gv P ⟨d,.assign x,ty,pos,af,g⟩ σ w λv' w'=>Ext w w'/\Sp.ok (.inr R) v' w' :=
 (v_as hx).gv.mono λv' w' ⟨e1,e2⟩=>by subst e1;subst e2;exact⟨Ext.refl _,λ_ e=>hs _ _ _ e h⟩
theorem ob_mv {x:Operand} {u:Value} {R:Value->World->Prop} (hx:ev σ x=some u) (h:R u w) (hs:St R):Gv P ⟨d,.move x,ty,pos,af,g⟩ σ w λv' w'=>Ext w w'/\Sp.ok (.inr R) v' w' :=
 (v_mv hx).gv.mono λv' w' ⟨e1,e2⟩=>by subst e1;subst e2;exact⟨Ext.refl _,λ_ e=>hs _ _ _ e h⟩
theorem H6 {o:Oper} {u:Value} {R:Value->World->Prop} (hv:Vl P o σ w u) (h:R u w) (hs:St R):Gv P o σ w λv' w'=>Ext w w'/\Sp.ok (.inr R) v' w' :=
 hv.gv.mono λv' w' ⟨e1,e2⟩=>by subst e1;subst e2;exact⟨Ext.refl _,λ_ e=>hs _ _ _ e h⟩
end
theorem AI2{l:List Nat}{y:Nat}(x:Nat)(h:l[i]?=some y):val (l.set i x)+4294967296 ^ i*y=val l+4294967296 ^ i*x:=by
 have hlt:i<l.length:=by
  rcases aB i l.length with h' | h'
  ·exact h'
  ·rw[aH h'] at h;cases h
 rw[AP4 h,AP4 (l:=l.set i x) (i:=i) (x:=x) (by rw[cZ,if_pos rfl,if_pos hlt])];rw[List.take_set_of_le (aA _),List.drop_set_of_lt (by omega)];generalize val (l.drop (i+1))=D;rw[aJ,aJ];omega
theorem shl_nat(x s:Nat)(hs:s<=31)(hx:x<4294967296):IntKind.u64.wrap ((x:Int)*2 ^ (min (s:Int).toNat IntKind.u64.bits))=((x*2 ^ s:Nat):Int):=by
 have h1:min (s:Int).toNat IntKind.u64.bits=s:=by show min (s:Int).toNat 64=s;omega
 rw[h1,show ((x:Int)*2 ^ s)=((x*2 ^ s:Nat):Int) by simp,T1,bJ];have:2 ^ s<=2 ^ 31:=aP (by omega) hs;have:=dB (show x<=4294967296 by omega) this;omega
theorem shr_nat(x s:Nat)(hs:s<=63):((x:Int).fdiv ((2:Int) ^ (min (s:Int).toNat IntKind.u64.bits)))=((x / 2 ^ s:Nat):Int):=by
 have h1:min (s:Int).toNat IntKind.u64.bits=s:=by show min (s:Int).toNat 64=s;omega
 rw[h1];exact AN7 x s
theorem Be5(q x:Nat)(hx:x<4294967296)(hq:q<4294967296):IntKind.u64.wrap (BitVec.ofInt IntKind.u64.bits ((q*4294967296:Nat):Int) ||| BitVec.ofInt IntKind.u64.bits (x:Int)).toNat=((x+4294967296*q:Nat):Int):=by rw[BM6 _ _ (by omega) (by omega),Nat.or_comm,or32 x q hx]
theorem R6(a b:Nat):(a:Int).tdiv (b:Int)=((a / b:Nat):Int):=rfl
theorem R5(a b:Nat):(a:Int).tmod (b:Int)=((a % b:Nat):Int):=rfl
theorem BB7(w:World)(base:Nat)(t ty e:TypeId)(i:TypeInfo)(z:Value)(ht:P.underlying t=some (.slice e))(hi:P.info? e=some i)(hz:i.zero=some z)(hzs:z.cells.size=i.size)(hsz:0<i.size)(v:Value)(n:Nat)(xs:List Value)(hown:w.ownsRow base e i.size v n xs)(a:Addr)(m c:Nat)(news:List Value)(hl:news.length=m*i.size)(hnews:∀ j u,news[j]?=some u->w.cell? (a.add j)=some u)(h1:∀ u∈news,u.oneCell'=true)(h63:n+m<=maxLen)(hbytes:(n+m)*i.bytes<=140737488355328)(hm:m≠0)(v':Value)(w':World)(hr':(Builtin.append_ #[t,t] ty #[v,.slice (some a) m c]).run P w=.ok v' w') :
  v'.ownBlock=v.ownBlock\/v'.ownBlock=some w.heap.size:=by
 have hsmall:n+m<=9223372036854775807:=by simp only[maxLen] at h63;omega
 rcases hown.2 with ⟨rfl,rfl⟩ | ⟨g,cap,cur,rfl,hbg,hg,hnc,hcm,hcs,htake⟩
 ·have hr:=run_append_nil (P:=P) w t ty e i z ht hi hz a m c news hl hnews (by omega) (by omega) (by have hb:=hbytes;simp only[aD] at hb;omega);rw[hr] at hr'
  cases hr';exact .inr (by simp[Value.ownBlock])
 ·by_cases hroom:n+m<=cap
  ·have hfit:n*i.size+news.length<=cur.size:=by rw[hl,hcs,<-cG];exact bN _ hroom
   have hr:=run_append_room (P:=P) w t ty e i ht hi g n cap cur hg a m c news hl hnews h1 hroom hfit;rw[hr] at hr'
   cases hr';exact .inl (by simp[Value.ownBlock])
  ·have holds:∀ j u,xs[j]?=some u->w.cell? ((⟨g,0,none⟩:Addr).add j)=some u:=hown.cells (g:=g) rfl;have hr:=run_append_grow (P:=P) w t ty e i z ht hi hz ⟨g,0,none⟩ n cap xs hown.1 holds a m c news hl hnews (by omega) (by omega) (growslice_fits (by omega) hbytes);rw[hr] at hr'
   cases hr';exact .inr (by simp[Value.ownBlock])
def OwnL {α:Type} (E:ER α) (t:TypeId) (base:Nat) (X:Nat->Prop) (w:World) (v:Value) (l:List α):Prop :=
 ∃ es,w.ownsRow base t E.sz v l.length (cellsOf es)/\Els E (λk=>X k/\v.ownBlock≠some k) w es l
section
variable {α:Type} {E:ER α} {t:TypeId} {base:Nat} {X:Nat->Prop} {w w':World} {v:Value} {l:List α}
theorem AG9 {n:Nat} {xs:List Value} {sz:Nat} (h:w.ownsRow base t sz v n xs) (hk:∀ k cs,base<=k->Blk w k t cs->Blk w' k t cs):w'.ownsRow base t sz v n xs:=by
 refine⟨h.1,?_⟩;rcases h.2 with hn | ⟨g,cap,cur,hv,hb,hg,rest⟩
 ·exact .inl hn
 ·exact .inr ⟨g,cap,cur,hv,hb,hk g cur hb hg,rest⟩
theorem OwnL.kp (h:OwnL E t base X w v l) (hk:Kp (λ_=>True) w w'):OwnL E t base X w' v l:=by obtain⟨es,h1,h2⟩:=h;exact⟨es,AG9 h1 λk cs _ hb=>hk.blk trivial hb,h2.keep λk c t f _ hc=>hk k c t f trivial hc⟩
theorem OwnL.ext (h:OwnL E t base X w v l) (e:Ext w w'):OwnL E t base X w' v l:=h.kp (Kp.ext e)
theorem OwnL.upd {t':TypeId} {b:Nat} {cs:Array Value} (h:OwnL E t base X w v l) (hu:Upd w w' b) (hb:Blk w b t' cs) (ht:t≠t') (hX:¬ X b):OwnL E t base X w' v l:=by obtain⟨es,h1,h2⟩:=h;refine⟨es,AG9 h1 λk c _ hk=>hk.upd hu λe=>?_,h2.keep (Kp.upd hu λh=>hX h.1)⟩;subst e;have e1:w.heap[k]?=some (.cells c t (0,0)):=hk;have e2:w.heap[k]?=some (.cells cs t' (0,0)):=hb;rw[e1] at e2;cases e2;exact ht rfl
theorem Be1 {n sz:Nat} {xs:List Value} {t':TypeId} {b:Nat} {cs:Array Value} (h:w.ownsRow base t sz v n xs) (hg:w.grownBy w' v.ownBlock) (hb:Blk w b t' cs) (ht:t≠t'):Blk w' b t' cs:=by
 refine (hg.block b hb.lt λe=>?_).trans hb;rcases h.2 with ⟨rfl,_⟩ | ⟨g,cap,cur,rfl,_,hgg,_⟩
 ·simp[Value.ownBlock] at e
 ·have:b=g:=by simpa[Value.ownBlock] using e
  subst this;have h2:w.heap[b]?=some (.cells cs t' (0,0)):=hb;rw[hgg] at h2;cases h2;exact ht rfl
theorem OwnL.gblk {t':TypeId} {b:Nat} {cs:Array Value} (h:OwnL E t base X w v l) (hg:w.grownBy w' v.ownBlock) (hb:Blk w b t' cs) (ht:t≠t'):Blk w' b t' cs:=by obtain⟨es,h1,_⟩:=h;exact Be1 h1 hg hb ht
theorem OwnL.below {w0:World} (h:OwnL E t base X w v l) (hg:w.grownBy w' v.ownBlock) (hb:Below base w0 w) (hB:base<=w.heap.size):Below base w0 w':=by obtain⟨es,h1,_⟩:=h;exact hb.grown hg hB λk hk=>(h1.lt k hk).1
theorem OwnL.oth (h:OwnL E t base X w v l) (hg:w.grownBy w' v.ownBlock):Oth w w':=by obtain⟨es,h1,_⟩:=h;exact Oth.grown hg h1
theorem OwnL.nil:OwnL E t base X w (.slice none 0 0) ([]:List α):=⟨[],⟨by simp,.inl ⟨rfl,rfl⟩⟩,Els.nil⟩
theorem OwnL.made {b c:Nat} {z:Value} (hz:z.cells.size=E.sz) (hn:New w w' b t (cellsOf (List.replicate c z)).toArray) (hb:base<=w.heap.size) (hc:c<=9223372036854775807):OwnL E t base X w' (.slice (some ⟨b,0,none⟩) 0 c) ([]:List α):=by obtain⟨_,hk,hb',_⟩:=hn;refine⟨[],⟨by simp[cellsOf],.inr ⟨b,c,_,rfl,by omega,hk,aC _,by simpa[maxLen] using hc,?_,by simp⟩⟩,Els.nil⟩;rw[dG,B7 (sz:=E.sz) _ (λe he=>by rw[(List.mem_replicate.1 he).2];exact hz)];simp
theorem OwnL.toR {S:Nat->Prop} {hsz:0<E.sz} (h:OwnL E t base X w v l) (hS:∀ k,base<=k->S k) (hX:∀ k,X k->S k):(RL E hsz).R S w v l:=by obtain⟨es,h1,h2⟩:=h;exact RL.ofOwn h1 O ⟨h2.1,λi e x he hx=>E.mono (λk _ hk=>hX k hk.1) (h2.2 i e x he hx)⟩ hS
theorem OwnL.slice (h:OwnL E t base X w v l):∃ a c,v=.slice a l.length c:=by
 obtain⟨es,h1,_⟩:=h;rcases h1.2 with ⟨rfl,h0⟩ | ⟨g,cap,cur,rfl,_⟩
 ·exact⟨none,0,by rw[h0]⟩
 ·exact⟨_,_,rfl⟩
end
section
variable {P:Program} {σ:Env} {w:World} {d:Option Tmp} {ty:TypeId} {pos:String} {af:Array Edge} {g:Option (Nat×Bool)} {α:Type} {E:ER α}
theorem O5 {tt t:TypeId} {x y:Operand} {z:Value} {by_ base b:Nat} {X:Nat->Prop} {v e:Value} {l:List α} {n:α} (hsz:0<E.sz) (ht:P.underlying tt=some (.slice t)) (hi:infoOf P t=some (z,E.sz,by_)) (hzs:z.cells.size=E.sz) (hx:ev σ x=some v) (hy:ev σ y=some (.slice (some ⟨b,0,none⟩) 1 1))
  (hown:OwnL E t base X w v l) {t':TypeId} (hb:Blk w b t' e.cells) (he:E.R (λk=>X k/\v.ownBlock≠some k) w e n) (hl:l.length<=1000000000) (hby:by_<=200) (hbase:base<=w.heap.size) :
  Gv P ⟨d,.call { callee:=.builtin .append,args:=#[x,y],argTypes:=#[tt,tt] },ty,pos,af,g⟩ σ w λv' w'=>OwnL E t base X w' v' (l++[n])/\w.grownBy w' v.ownBlock/\(v'.ownBlock=v.ownBlock\/v'.ownBlock=some w.heap.size):=by
 obtain⟨es,ho,hels⟩:=hown;obtain⟨i,hi0,hi1,hi2,hi3⟩:=S4 hi;refine⟨(by intro _ h;cases h),λρ hρ=>.inl ?_⟩;have e1:=hρ x _ (by simp[Op.operands,Call.operands]) hx;have e2:=hρ y _ (by simp[Op.operands,Call.operands]) hy;have hcs:=E.csz he;have hl':e.cells.toList.length=1*E.sz:=by simpa using hcs
 have hnews:∀ j u,e.cells.toList[j]?=some u->w.cell? ((⟨b,0,none⟩:Addr).add j)=some u:=by intro j u hu;rw[M9,aD,hb.cell];simpa using hu
 have hone:∀ u∈e.cells.toList,u.oneCell'=true:=λu hu=>Ae8 (E.one he u hu);have hbytes:(l.length+1)*by_<=140737488355328:=by have:(l.length+1)*by_<=1000000001*200:=dB (by omega) hby;omega
 obtain⟨v',w',hr,h2,h3,_⟩:=run_append_own (P:=P) w base tt ty t i z E.sz by_ ht hi0 hi1 hi2 hi3 hzs hsz v l.length (cellsOf es) ho ⟨b,0,none⟩ 1 1 e.cells.toList hl' hnews hone (by simp only[maxLen];omega) hbytes hbase;have hw:=BB7 (P:=P) w base tt ty t i z ht hi0 hi1 (by rw[hi2];exact hzs) (by rw[hi2];exact hsz) v l.length (cellsOf es) (by rw[hi2];exact ho) ⟨b,0,none⟩ 1 1 e.cells.toList (by rw[hi2];exact hl') hnews hone (by simp only[maxLen];omega) (by rw[hi3];exact hbytes) (by omega) v' w' hr;refine⟨v',w',by simp[execOp,resolve,invoke,builtin,e1,e2,hr],⟨es++[e],?_,?_⟩,h3,hw⟩
 ·have:cellsOf (es++[e])=cellsOf es++e.cells.toList:=by simp[cellsOf]
  rw[this,aL];exact h2
 ·have hkeep:Kp (λk=>X k/\v.ownBlock≠some k) w w':=λk c t f hk hc=>(h3.block k (Array.getElem?_eq_some_iff.1 hc).1 (λe=>hk.2 e.symm)).trans hc;have hmono:∀ {y:α} {u:Value},E.R (λk=>X k/\v.ownBlock≠some k) w u y->E.R (λk=>X k/\v'.ownBlock≠some k) w' u y:=by
   intro y u hu;have h1:=E.lt hu;have h2:E.R (λk=>(X k/\v.ownBlock≠some k)/\k<w.heap.size) w' u y:=E.keep (λk c t f hk hc=>hkeep k c t f hk.1 hc) h1;refine E.mono (λk _ hk=>⟨hk.1.1,?_⟩) h2;rcases hw with h | h
   ·rw[h];exact hk.1.2
   ·rw[h];intro e;cases e;exact dZ _ hk.2
  exact Els.snoc ⟨hels.1,λi e x he hx=>hmono (hels.2 i e x he hx)⟩ (hmono he)
theorem J2 {tt t:TypeId} {x y:Operand} {z:Value} {by_ base b:Nat} {X:Nat->Prop} {v e:Value} {l:List α} {n:α} (hsz:0<E.sz) (ht:P.underlying tt=some (.slice t)) (hi:infoOf P t=some (z,E.sz,by_)) (hzs:z.cells.size=E.sz) (hx:ev σ x=some v) (hy:ev σ y=some (.slice (some ⟨b,0,none⟩) 1 1))
  (hown:OwnL E t base X w v l) {t':TypeId} (hb:Blk w b t' e.cells) (he:E.R (λk=>X k/\v.ownBlock≠some k) w e n) (hl:l.length<=1000000000) (hby:by_<=200) (hbase:base<=w.heap.size) :
  Gv P ⟨d,.call { callee:=.builtin .append,args:=#[x,y],argTypes:=#[tt,tt] },ty,pos,af,g⟩ σ w λv' w'=>OwnL E t base X w' v' (l++[n])/\w.grownBy w' v.ownBlock :=
 (O5 hsz ht hi hzs hx hy hown hb he hl hby hbase).mono λ_ _ h=>⟨h.1,h.2.1⟩
end
def pn (q:QV):Int:=if zval q.den<0 then -zval q.num else zval q.num
def pd (q:QV):Int:=if zval q.den=0 then 1 else if zval q.den<0 then -zval q.den else zval q.den
theorem L9(q:QV):0<pd q:=by unfold pd;split<;>(try split)<;>omega
def qval (q:QV):Rat:=Rat.divInt (pn q) (pd q)
def qc (r:Rat):QV:=⟨zc r.num,if r.den=1 then ⟨false,[]⟩ else zc r.den⟩
def q0:QV:=⟨⟨false,[]⟩,⟨false,[]⟩⟩
theorem Aj9:zval ⟨false,[]⟩=0:=by simp[zval,sg,val]
theorem zc_zero:zc 0=⟨false,[]⟩:=by simp[zc,I8]
theorem pn_qc(r:Rat):pn (qc r)=r.num:=by
 unfold pn qc;by_cases h:r.den=1
 ·simp[h,Aj9,B3]
 ·have:¬ ((r.den:Int)<0):=by omega
  simp[h,B3,this]
theorem pd_qc(r:Rat):pd (qc r)=r.den:=by
 have hd:=r.den_pos;unfold pd qc;by_cases h:r.den=1
 ·simp[h,Aj9]
 ·have h1:¬ ((r.den:Int)<0):=by omega
  have h2:¬ ((r.den:Int)=0):=by omega
  simp only[h,if_false,B3,h1,h2]
theorem B0(r:Rat):qval (qc r)=r:=by unfold qval;rw[pn_qc,pd_qc,Rat.num_divInt_den]
theorem Az2:qval q0=0:=by unfold qval pn pd q0;simp[Aj9]
theorem L8:qc 0=q0:=by unfold qc q0;simp[zc_zero]
theorem Bd5(n:Int):qc (n:Rat)=⟨zc n,⟨false,[]⟩⟩:=by unfold qc;simp
def qok (L:Nat) (q:QV):Prop:=q.num.w.length<=L/\q.den.w.length<=L
def Rsz (r:Rat) (L:Nat):Prop:=r.num.natAbs<4294967296 ^ L/\r.den<4294967296 ^ L
theorem Rsz.mono{r:Rat}(h:Rsz r L)(hl:L<=M):Rsz r M:=by have:=aP (show 0<4294967296 by omega) hl;exact⟨bC h.1 this,bC h.2 this⟩
theorem qok.mono(h:qok L q)(hl:L<=M):qok M q:=⟨aG h.1 hl,aG h.2 hl⟩
theorem Q7{n:Int}(h:n.natAbs<4294967296 ^ L):(zc n).w.length<=L:=AS7 h
theorem Rsz.toOk{r:Rat}(h:Rsz r L):qok L (qc r):=by
 refine⟨Q7 h.1,?_⟩;unfold qc;by_cases h1:r.den=1
 ·simp[h1]
 ·simp only[h1,if_false];exact Q7 (by simpa using h.2)
theorem L3(z:ZV):(zval z).natAbs=val z.w:=by unfold zval sg;split<;>omega
theorem U7{z:ZV}(hd:dig z.w)(h:z.w.length<=L):(zval z).natAbs<4294967296 ^ L:=by rw[L3];exact bC (AS9 hd) (aP (by omega) h)
theorem AX7(hn:dig q.num.w)(h:qok L q):(pn q).natAbs<4294967296 ^ L:=by have:=U7 hn h.1;unfold pn;split<;>omega
theorem Ae6(hn:dig q.den.w)(h:qok L q)(hL:1<=L):(pd q).natAbs<4294967296 ^ L:=by have:=U7 hn h.2;have h1:4294967296 ^ 1<=4294967296 ^ L:=aP (by omega) hL;unfold pd;split<;>(try split)<;>omega
theorem AF1(a b:Int):(Rat.divInt a b).num.natAbs<=a.natAbs:=by
 rw[gD];have h1:(b.sign*a / ((b.gcd a:Nat):Int)).natAbs<=(b.sign*a).natAbs:=by rw[Int.natAbs_ediv_of_dvd (Int.dvd_trans (Int.gcd_dvd_right ..) (Int.dvd_mul_left ..))];exact dU _ _
 refine aG h1 ?_;rw[dC];rcases fM b 0 with h | h | h
 ·rw[cD h];simp
 ·rw[h];simp
 ·rw[cA h];simp
theorem AF5(a b:Int)(hb:b≠0):(Rat.divInt a b).den<=b.natAbs:=by rw[Rat.den_divInt,if_neg hb];exact dU _ _
theorem BF2(hn:dig q.num.w)(hd:dig q.den.w)(h:qok L q)(hL:1<=L):Rsz (qval q) L :=
 ⟨bI (AF1 _ _) (AX7 hn h),bI (AF5 _ _ (by have:=L9 q;omega)) (Ae6 hd h hL)⟩
theorem Rsz.add{a b:Rat}(ha:Rsz a L)(hb:Rsz b M):Rsz (a+b) (L+M+1):=by
 have e:a+b=Rat.divInt (a.num*b.den+b.num*a.den) (a.den*b.den):=by rw[Rat.add_def',<-Rat.divInt_ofNat];simp
 have hda:=a.den_pos;have hdb:=b.den_pos;have hne:((a.den:Int)*(b.den:Int))≠0:=by have:=dH (show (0:Int)<a.den by omega) (show (0:Int)<b.den by omega);omega
 have h1:a.num.natAbs*b.den<4294967296 ^ (L+M):=by rw[bG];exact dD ha.1 hb.2
 have h2:b.num.natAbs*a.den<4294967296 ^ (L+M):=by rw[Nat.add_comm,bG];exact dD hb.1 ha.2
 have h3:a.den*b.den<4294967296 ^ (L+M):=by rw[bG];exact dD ha.2 hb.2
 rw[e];refine⟨bI (AF1 _ _) ?_,bI (AF5 _ _ hne) ?_⟩
 ·have:=gW (a.num*b.den) (b.num*a.den);rw[dC,dC] at this;simp only[gE] at this;rw[aM];omega
 ·rw[dC];simp only[gE];rw[aM];omega
theorem Rsz.mul{a b:Rat}(ha:Rsz a L)(hb:Rsz b M):Rsz (a*b) (L+M):=by
 have e:a*b=Rat.divInt (a.num*b.num) (a.den*b.den):=by rw[Rat.mul_def',<-Rat.divInt_ofNat];simp
 have hda:=a.den_pos;have hdb:=b.den_pos;have hne:((a.den:Int)*(b.den:Int))≠0:=by have:=dH (show (0:Int)<a.den by omega) (show (0:Int)<b.den by omega);omega
 rw[e];refine⟨bI (AF1 _ _) ?_,bI (AF5 _ _ hne) ?_⟩
 ·rw[dC,bG];exact dD ha.1 hb.1
 ·rw[dC,bG];exact dD ha.2 hb.2
theorem Rsz.neg{a:Rat}(ha:Rsz a L):Rsz (-a) L:=by refine⟨?_,ha.2⟩;rw[Rat.neg_num,Int.natAbs_neg];exact ha.1
theorem Rsz.int(n:Int)(h:n.natAbs<4294967296 ^ L)(hL:1<=L):Rsz (n:Rat) L:=by refine⟨by simpa using h,?_⟩;have h1:4294967296 ^ 1<=4294967296 ^ L:=aP (by omega) hL;simp;omega
theorem Rsz.zero(hL:1<=L):Rsz 0 L:=by have:=Rsz.int 0 (L:=L) (bR (by omega)) hL;simpa using this
theorem Ab3{n d:Int}(hd:0<d):qc (Rat.divInt n d)=⟨zc (n / (Nat.gcd n.natAbs d.natAbs:Nat)),if d / (Nat.gcd n.natAbs d.natAbs:Nat)=1 then ⟨false,[]⟩ else zc (d / (Nat.gcd n.natAbs d.natAbs:Nat))⟩:=by
 have hg:d.gcd n=Nat.gcd n.natAbs d.natAbs:=by rw[Int.gcd,dI]
 have h1:(Rat.divInt n d).num=n / (Nat.gcd n.natAbs d.natAbs:Nat):=by rw[gD,cA hd,Int.one_mul,hg]
 have h2:((Rat.divInt n d).den:Int)=d / (Nat.gcd n.natAbs d.natAbs:Nat):=by rw[Rat.den_divInt,if_neg (by omega),hg,Int.natCast_ediv,Int.natAbs_of_nonneg (by omega)]
 unfold qc;rw[h1,<-h2];congr 1;by_cases h:(Rat.divInt n d).den=1
 ·rw[if_pos h,if_pos (by rw[h];rfl)]
 ·rw[if_neg h,if_neg (by omega)]
def EsR {α:Type} (E:ER α) (S:Nat->Prop) (w:World) (v:Value) (es:List Value) (l:List α):Prop:=Els E S w es l/\Row S w E.sz v l.length (cellsOf es)
def PtrX (w:World) (p:Addr) (e:Value):Prop:=∀ (j:Nat) (u:Value),e.cells[j]?=some u->w.cell? (p.add j)=some u
section
variable {α:Type} {E:ER α} {S:Nat->Prop} {w w':World} {v:Value} {es:List Value} {l:List α}
theorem RL.toEs {hsz:0<E.sz} (h:(RL E hsz).R S w v l):∃ es,EsR E S w v es l:=h
theorem EsR.toR {hsz:0<E.sz} (h:EsR E S w v es l):(RL E hsz).R S w v l:=⟨es,h⟩
theorem EsR.keep (h:EsR E S w v es l) (hk:Kp S w w'):EsR E S w' v es l:=⟨h.1.keep hk,h.2.keep hk⟩
theorem EsR.ext (h:EsR E S w v es l) (e:Ext w w'):EsR E S w' v es l:=h.keep (Kp.ext e)
theorem EsR.mono {S':Nat->Prop} (hsz:0<E.sz) (h:EsR E S w v es l) (hk:∀ k,k<w.heap.size->S k->S' k):EsR E S' w v es l:=⟨⟨h.1.1,λi e x he hx=>E.mono hk (h.1.2 i e x he hx)⟩,h.2.mono hsz hk⟩
theorem EsR.get {z:Value} {x:α} (h:EsR E S w v es l) (hz:E.R S w z x) (k:Nat):E.R S w (es.getD k z) (l.getD k x):=by
 rw[aF,aF];rcases aB k l.length with hk | hk
 ·have hk':k<es.length:=by rw[h.1.1];exact hk
  rw[aE hk,aE hk'];exact h.1.2 k _ _ (aE hk') (aE hk)
 ·rw[aH hk,aH (by rw[h.1.1];exact hk)];exact hz
theorem EsR.at_ (h:EsR E S w v es l) {i:Nat} {e:Value} (hi:es[i]?=some e):∃ ad c,v=.slice (some ad) l.length c/\PtrX w (ad.add (i*E.sz)) e:=by
 obtain⟨h1,a,c,hv,h2,_,h3,h4⟩:=h;have hlt:i<l.length:=by
  rcases aB i es.length with h | h
  ·rw[<-h1.1];exact h
  ·rw[aH h] at hi;cases hi
 obtain⟨ad,ha,hS,hc⟩:=h4 (by omega);subst ha;refine⟨ad,c,hv,λj u hu=>?_⟩;rw[S8];refine (hc _ u ?_).1;have hj:j<E.sz:=by
  have hs:=h1.sz e (List.mem_iff_getElem?.2 ⟨i,hi⟩);rcases aB j e.cells.size with h | h
  ·omega
  ·rw[cV h] at hu;cases hu
 rw[C2 es i j e h1.sz hi hj];exact hu
end
section
variable {P:Program} {ro:Option Nat} {N:Nat} {ds:List Deferred} {ops:Array Oper} {K:Env->World->Prop} {rest:List Oper} {σ:Env} {w:World} {d:Tmp} {ty:TypeId} {pos:String} {af:Array Edge} {α:Type} {E:ER α} {S:Nat->Prop} {v:Value} {es:List Value} {l:List α}
theorem g_ixX {dd:Option Tmp} {gd:Option (Nat×Bool)} {t e:TypeId} {x ix:Operand} {k:IntKind} {i:Nat} {b:Bool} {y:Value} (ht:P.underlying t=some (.slice e)) (he:tyOf P e=some (b,E.sz)) (hx:ev σ x=some v) (h:EsR E S w v es l)
  (hi:ev σ ix=some (.int k (i:Int))) (hy:es[i]?=some y) :
  Gv P ⟨dd,.indexAddr t x ix,ty,pos,af,gd⟩ σ w λv' w'=>w'=w/\∃ p,v'=.pointer (some p)/\PtrX w p y:=by
 refine⟨(by intro _ h;cases h),λρ hρ=>.inl ?_⟩;obtain⟨ad,c,hv,hp⟩:=h.at_ hy;have h1:=hρ x _ (by simp[Op.operands]) hx;have h2:=hρ ix _ (by simp[Op.operands]) hi;have hlt:i<l.length:=by
  rcases aB i es.length with h' | h'
  ·rw[<-h.1.1];exact h'
  ·rw[aH h'] at hy;cases hy
 refine⟨_,w,?_,rfl,_,rfl,hp⟩;simp[execOp,h1,h2,hv,Instr.indexAt,asIntOf,run_underlying ht,(H4 he w).2];intro hh;omega
theorem WL.ixX {t e:TypeId} {x ix:Operand} {k:IntKind} {i:Nat} {b:Bool} {y:Value} (ht:P.underlying t=some (.slice e)) (he:tyOf P e=some (b,E.sz)) (hd:Nat.blt d N=true) (hx:ev σ x=some v) (h:EsR E S w v es l)
  (hi:ev σ ix=some (.int k (i:Int))) (hy:es[i]?=some y) (kk:∀ p,PtrX w p y->WL P ro N ds ops K rest ((d,.pointer (some p))::σ) w) :
  WL P ro N ds ops K (⟨some d,.indexAddr t x ix,ty,pos,af,none⟩::rest) σ w :=
 WL.gv O hd (g_ixX ht he hx h hi hy) λv' w' ⟨e1,p,e2,hp⟩=>by subst e1;subst e2;exact kk p hp
theorem Z4 {dd:Option Tmp} {gd:Option (Nat×Bool)} {t:TypeId} {x:Operand} {p:Addr} {y:Value} {n:α} (ht:tyOf P t=some (E.isA,E.sz)) (hx:ev σ x=some (.pointer (some p))) (hp:PtrX w p y) (hy:E.R S w y n) :
  Vl P ⟨dd,.load t x,ty,pos,af,gd⟩ σ w y:=by
 have hs:=E.shp hy;have hcs:=E.csz hy
 cases hA:E.isA with
 | true =>
  rw[hA] at hs ht;simp only[cond_true] at hs;have:=v_ldPN (P:=P) (d:=dd) (ty:=ty) (pos:=pos) (af:=af) (g:=gd) (cs:=y.cells.toList) (by rw[ht];simp[hcs]) hx (λj u hu=>hp j u (by simpa using hu));rw[hs];simpa[Value.cells] using this
 | false =>
  rw[hA] at hs ht;simp only[cond_false] at hs;have hc1:y.cells=#[y]:=by
   cases y<;>first | rfl | (simp[one1] at hs)
  have h0:y.cells[0]?=some y:=by rw[hc1];rfl
  have:=hp 0 y h0;rw[show p.add 0=p from rfl] at this;exact AB3 ht hx this
theorem WL.ldX {t:TypeId} {x:Operand} {p:Addr} {y:Value} {n:α} (ht:tyOf P t=some (E.isA,E.sz)) (hd:Nat.blt d N=true) (hx:ev σ x=some (.pointer (some p))) (hp:PtrX w p y) (hy:E.R S w y n) (k:WL P ro N ds ops K rest ((d,y)::σ) w) :
  WL P ro N ds ops K (⟨some d,.load t x,ty,pos,af,none⟩::rest) σ w:=WL.vl O hd (Z4 ht hx hp hy) k
end
abbrev zq:Value:=.agg #[.bool false,.slice none 0 0,.bool false,.slice none 0 0]
theorem zq_R{w:World}:eQ.R S w zq q0:=⟨_,_,rfl,RL.nil,RL.nil⟩
abbrev nilV:Value:=.slice none 0 0
theorem BM7{w:World}:eV.R S w nilV []:=RL.nil
def FB {α:Type} (E:ER α) (t:TypeId) (S:Nat->Prop) (w:World) (g:Nat) (l:List α):Prop :=
 ∃ es,Blk w g t (cellsOf es).toArray/\Els E (λk=>S k/\k≠g) w es l
theorem AE0{sz:Nat}(hsz:0<sz)(es:List Value)(i:Nat)(v:Value)(hs:∀ e∈es,e.cells.size=sz)(hv:v.cells.size=sz)(hi:i<es.length) :
  wrt (cellsOf es).toArray (i*sz) v.cells.toList=(cellsOf (es.set i v)).toArray:=by
 have hs':∀ e∈es.set i v,e.cells.size=sz:=λe he=>by
  rcases eT he with h | h
  ·exact hs e h
  ·rw[h];exact hv
 have hl:=B7 es hs;have hl':=B7 (es.set i v) hs';rw[bV] at hl';have hle:i*sz+sz<=es.length*sz:=by rw[<-cY];exact bN _ hi
 apply fV;intro j;rw[AP2 _ _ _ _ (by simp only[cO,hv,dG,hl];exact hle)];simp only[cO,hv,bM,gS];rcases aB j (es.length*sz) with hj | hj
 ·have hq:j / sz<es.length:=(bD hsz).2 hj;have hr:j % sz<sz:=aX _ hsz;have hjd:(j / sz)*sz+j % sz=j:=by rw[aT];exact bE j sz
  by_cases he:j / sz=i
  ·have h1:i*sz<=j/\j<i*sz+sz:=by rw[he] at hjd;omega
   rw[if_pos h1];have h2:(es.set i v)[i]?=some v:=by rw[dJ hi]
   have:=C2 (es.set i v) i (j % sz) v hs' h2 hr;rw[he] at hjd;rw[hjd] at this;rw[this];congr 1;omega
  ·have h1:¬ (i*sz<=j/\j<i*sz+sz):=by intro ⟨ha,hb⟩;apply he;have h3:i<=j / sz:=(Nat.le_div_iff_mul_le hsz).2 ha;have h4:j / sz<i+1:=(bD hsz).2 (by rw[cY];exact hb);omega
   rw[if_neg h1];obtain⟨e,hee⟩:∃ e,es[j / sz]?=some e:=⟨_,aE hq⟩;have g1:=C2 es (j / sz) (j % sz) e hs hee hr;have g2:=C2 (es.set i v) (j / sz) (j % sz) e hs' (by rw[bW (λh=>he h.symm)];exact hee) hr;rw[hjd] at g1 g2;rw[g1,g2]
 ·rw[if_neg (by omega),aH (by omega),aH (by omega)]
section
variable {α:Type} {E:ER α} {t:TypeId} {S:Nat->Prop} {w w':World} {g:Nat} {l:List α}
theorem FB.lt (h:FB E t S w g l):g<w.heap.size:=by obtain⟨es,hb,_⟩:=h;exact hb.lt
theorem FB.kp (h:FB E t S w g l) (hk:Kp (λ_=>True) w w'):FB E t S w' g l:=by obtain⟨es,hb,he⟩:=h;exact⟨es,hk.blk trivial hb,he.keep λk c t f _ hc=>hk k c t f trivial hc⟩
theorem FB.ext (h:FB E t S w g l) (e:Ext w w'):FB E t S w' g l:=h.kp (Kp.ext e)
theorem FB.upd {b:Nat} (h:FB E t S w g l) (u:Upd w w' b) (hne:g≠b) (hS:¬ S b):FB E t S w' g l:=by obtain⟨es,hb,he⟩:=h;exact⟨es,hb.upd u hne,he.keep (Kp.upd u λh=>hS h.1)⟩
theorem FB.mono {S':Nat->Prop} (h:FB E t S w g l) (hk:∀ k,k<w.heap.size->S k->S' k):FB E t S' w g l:=by obtain⟨es,hb,he⟩:=h;exact⟨es,hb,he.1,λi e x h1 h2=>E.mono (λk hl hh=>⟨hk k hl hh.1,hh.2⟩) (he.2 i e x h1 h2)⟩
theorem FB.made {c:Nat} {z:Value} {z0:α} (hn:New w w' g t (cellsOf (List.replicate c z)).toArray) (hz:E.R (λk=>S k/\k≠g) w' z z0):FB E t S w' g (List.replicate c z0):=by
 refine⟨List.replicate c z,hn.2.1,by simp,λi e x he hx=>?_⟩;have h1:e=z:=by have:=List.mem_iff_getElem?.2 ⟨i,he⟩;exact (List.mem_replicate.1 this).2
 have h2:x=z0:=by have:=List.mem_iff_getElem?.2 ⟨i,hx⟩;exact (List.mem_replicate.1 this).2
 subst h1;subst h2;exact hz
theorem FB.toR {hsz:0<E.sz} {c:Nat} (h:FB E t S w g l) (hS:S g) (hc:l.length<=c) (hm:l.length<=9223372036854775807):(RL E hsz).R S w (.slice (some ⟨g,0,none⟩) l.length c) l:=by obtain⟨es,hb,he⟩:=h;exact RL.ofBlk hb hS ⟨he.1,λi e x h1 h2=>E.mono (λk _ hh=>hh.1) (he.2 i e x h1 h2)⟩ (λj u hu=>by rw[bM];exact hu) hc hm
end
section
variable {P:Program} {ro:Option Nat} {N:Nat} {ds:List Deferred} {ops:Array Oper} {K:Env->World->Prop} {rest:List Oper} {σ:Env} {w:World} {d:Tmp} {ty:TypeId} {pos:String} {af:Array Edge} {α:Type} {E:ER α} {S:Nat->Prop}
theorem AH2 {dd:Option Tmp} {gd:Option (Nat×Bool)} {t t':TypeId} {x y:Operand} {g i o n:Nat} {a:Bool} {l:List α} {v:Value} {z:α} (hsz:0<E.sz) (ht:tyOf P t=some (a,n)) (hx:ev σ x=some (.pointer (some ⟨g,o,none⟩))) (hy:ev σ y=some v) (hb:FB E t' S w g l)
  (hn:E.sz=n) (hi:i<l.length) (ho:o=i*E.sz) (hz:E.R (λk=>S k/\k≠g) w v z) :
  Gv P ⟨dd,.store t x y,ty,pos,af,gd⟩ σ w λ_ w'=>FB E t' S w' g (l.set i z)/\Upd w w' g:=by
 obtain⟨es,hB,he⟩:=hb;have hcs:=E.csz hz;subst ho;have hl:=B7 es he.sz;have hie:i<es.length:=by rw[he.1];exact hi
 have hle:i*E.sz+n<=(cellsOf es).toArray.size:=by rw[dG,hl,<-hn,<-cY];exact bN _ hie
 refine (N1 ht hx hy hB (by omega) hle (E.one hz)).mono ?_;rintro _ w' ⟨hB',u⟩;rw[AE0 hsz es i v he.sz hcs hie] at hB';refine⟨⟨es.set i v,hB',?_⟩,u⟩;have:=Els.set he i hz;exact this.keep (Kp.upd u λh=>h.2 O)
theorem WL.storeF {t t':TypeId} {x y:Operand} {g i o n:Nat} {a:Bool} {l:List α} {v:Value} {z:α} (hsz:0<E.sz) (ht:tyOf P t=some (a,n)) (hx:ev σ x=some (.pointer (some ⟨g,o,none⟩))) (hy:ev σ y=some v) (hb:FB E t' S w g l)
  (hn:E.sz=n) (hi:i<l.length) (ho:o=i*E.sz) (hz:E.R (λk=>S k/\k≠g) w v z) (k:∀ w',FB E t' S w' g (l.set i z)->Upd w w' g->WL P ro N ds ops K rest σ w') :
  WL P ro N ds ops K (⟨none,.store t x y,ty,pos,af,none⟩::rest) σ w :=
 WL.gv O O (AH2 hsz ht hx hy hb hn hi ho hz) λ_ w' ⟨h1,h2⟩=>k w' h1 h2
end
def fil {α:Type} (n i:Nat) (f:Nat->α) (z:α):List α:=(List.range n).map λj=>if j<i then f j else z
theorem M3(n:Nat)(f:Nat->α)(z:α):fil n 0 f z=List.replicate n z:=by unfold fil;simp[gF]
theorem AA4(n:Nat)(f:Nat->α)(z:α):fil n n f z=(List.range n).map f:=by unfold fil;apply cJ;intro j hj;rw[if_pos (List.mem_range.1 hj)]
theorem H9(n i:Nat)(f:Nat->α)(z:α):(fil n i f z).length=n:=by simp[fil]
theorem O8(n i:Nat)(f:Nat->α)(z:α):(fil n i f z).set i (f i)=fil n (i+1) f z:=by
 apply cK;intro j;unfold fil;rw[cZ];by_cases hj:i=j
 ·subst hj;by_cases h:i<n
  ·simp[h]
  ·simp[h]
 ·rw[if_neg hj,aI,aI];by_cases h:j<n
  ·simp only[bA h,cW];by_cases h1:j<i
   ·simp[h1,show j<i+1 by omega]
   ·simp[h1,show ¬ j<i+1 by omega]
  ·rw[aH (by simpa using h)];rfl
section
variable {F:Fence} {n:Nat} {P:Program} {Q:Exit->Act->World->Prop} {a:Act} {w:World}
theorem Q4 {b:Frame} {k:List Item} {cs:List Frame} {c:Code}:step P (lone (b.atR a (.code (.scope c)::k)) cs w)=.next (lone (b.atR a (.code c::.inScope c::k)) cs w) :=
 step_lone_go (by simp[stepG,stepG.exec,Frame.atR])
theorem Ar1 {b:Frame} {k:List Item} {cs:List Frame} {c:Code}:step P (lone (b.atR a (.inScope c::k)) cs w)=.next (lone (b.atR a k) cs w) :=
 step_lone_go (by simp[stepG,stepG.exec,Frame.atR])
def noGo (Q:Exit->Act->World->Prop):Exit->Act->World->Prop
 | .goto _,_,_=>False
 | e,a,w=>Q e a w
theorem BL0 {c:Code} (h:c.wpIn F n P (noGo Q) a w):(Code.scope c).wpIn F n P Q a w:=by
 intro b k cs hro hb hr;have h0:(lone (b.atR a (.code (.scope c)::k)) cs w).fenced P F:=fenced_calm hb hr rfl;obtain⟨e,a₁,w₁,hq,harr⟩:=h b (.inScope c::k) cs hro hb hr
 cases e with
 | normal=>exact⟨.normal,a₁,w₁,hq,.head h0 Q4 (StepsIn.trans harr (.one (fenced_calm hb hr O) Ar1))⟩
 | exit id =>
  have hx:exitTo id (.inScope c::k)=exitTo id k:=by simp[exitTo]
  exact⟨.exit id,a₁,w₁,hq,λk' hk=>.head h0 Q4 (harr.1 k' (by rw[hx];exact hk)),
   λhr' hk=>let ⟨k₁,h1,h2⟩:=harr.2 hr' (by rw[hx];exact hk);⟨k₁,h1,.head h0 Q4 h2⟩⟩
 | goto l=>exact hq.elim
 | ret=>exact⟨_,a₁,w₁,hq,.of_steps (.one h0 Q4) harr⟩
 | panic ch=>exact⟨_,a₁,w₁,hq,.of_steps (.one h0 Q4) harr⟩
 | outgrown=>exact⟨_,a₁,w₁,hq,.of_steps (.one h0 Q4) harr⟩
end
@[reducible] def ngo (Q:Pst):Pst
 | .goto _,_,_,_=>False
 | e,σ,ds,w=>Q e σ ds w
theorem WC.scope{ro:Option Nat}{w:World}{c:Code}(h:WC P ro N (ngo Q) c σ ds w):WC P ro N Q (.scope c) σ ds w:=by
 refine⟨λa ha=>BL0 (wpIn_mono (h.out a ha) ?_)⟩;rintro e a' w' ⟨σ',ds',hag,hq⟩
 cases e with
 | goto l=>exact hq.elim
 | _=>exact⟨σ',ds',hag,hq⟩
structure Chg (X:Nat->Prop) (w w':World):Prop where
 os:w'.os=w.os
 tape:w'.tape=w.tape
 output:w'.output=w.output
 size:w.heap.size<=w'.heap.size
 block:∀ k,k<w.heap.size->¬ X k->w'.heap[k]?=w.heap[k]?
section
variable {X Y:Nat->Prop} {w w' w'':World}
theorem Chg.refl (w:World):Chg X w w:=⟨rfl,rfl,rfl,aA _,λ_ _ _=>rfl⟩
theorem Chg.ext (e:Ext w w'):Chg X w w':=⟨e.os,e.tape,e.output,e.size,λk hk _=>e.block k hk⟩
theorem Chg.upd {b:Nat} (u:Upd w w' b) (hb:X b):Chg X w w':=⟨u.os,u.tape,u.output,gG u.size.symm,λk _ hX=>u.block k λe=>hX (e▸hb)⟩
theorem Chg.trans (h:Chg X w w') (h':Chg X w' w''):Chg X w w'' :=
 ⟨h'.os.trans h.os,h'.tape.trans h.tape,h'.output.trans h.output,aG h.size h'.size,λk hk hX=>(h'.block k (bC hk h.size) hX).trans (h.block k hk hX)⟩
theorem Chg.mono (h:Chg X w w') (hX:∀ k,k<w.heap.size->X k->Y k):Chg Y w w':=⟨h.os,h.tape,h.output,h.size,λk hk hY=>h.block k hk λhx=>hY (hX k hk hx)⟩
theorem Chg.step {w0:World} (h:Chg X w0 w) (h':Chg Y w w') (hY:∀ k,k<w0.heap.size->Y k->X k):Chg X w0 w' :=
 ⟨h'.os.trans h.os,h'.tape.trans h.tape,h'.output.trans h.output,aG h.size h'.size,λk hk hX=>(h'.block k (bC hk h.size) λhy=>hX (hY k hk hy)).trans (h.block k hk hX)⟩
theorem Chg.below {B:Nat} {w0:World} (h:Chg X w w') (hb:Below B w0 w) (hw:B<=w.heap.size) (hB:∀ k,X k->B<=k):Below B w0 w' :=
 hb.trans ⟨h.os,h.tape,h.output,h.size,λk hk=>h.block k (by omega) λhx=>by have:=hB k hx;omega⟩
theorem Chg.kp {S:Nat->Prop} (h:Chg X w w') (hS:∀ k,S k->¬ X k):Kp S w w':=λk _ _ _ hk hc=>(h.block k (Array.getElem?_eq_some_iff.1 hc).1 (hS k hk)).trans hc
theorem Chg.blk {b:Nat} {t:TypeId} {cs:Array Value} (h:Chg X w w') (hb:Blk w b t cs) (hX:¬ X b):Blk w' b t cs:=(h.block b hb.lt hX).trans hb
end
theorem BO0{w:World}{v:Value}{l:List Nat}(h:eW.R S w v l)(hb:Blk w b t cs)(hc:∀ (i:Nat) (n:Int),cs[i]?≠some (Value.int .u32 n)):eW.R (λk=>S k/\k≠b) w v l:=by
 obtain⟨es,he,a,c,hv,h1,h2,h3,h4⟩:=h;refine⟨es,⟨he.1,λi e x hx hy=>he.2 i e x hx hy⟩,a,c,hv,h1,h2,h3,λhn=>?_⟩;obtain⟨ad,ha,hS,hcl⟩:=h4 hn;refine⟨ad,ha,⟨hS,λe=>?_⟩,hcl⟩;obtain⟨e0,he0⟩:∃ e,es[0]?=some e:=⟨_,aE (by rw[he.1];exact hn)⟩;obtain⟨rfl,_⟩:=he.2 0 e0 _ he0 (aE hn);have hg:=C2 (sz:=1) es 0 0 _ he.sz he0 (by omega);have hcell:=(hcl 0 (.int .u32 l[0]) hg).1;obtain⟨b0,o0,g0⟩:=ad;have e:b0=b:=e;subst e;have h':w.heap[b0]?=some (.cells cs t (0,0)):=hb;simp only[World.cell?,Addr.add,if_pos,h'] at hcell;split at hcell
 ·cases hcell
 ·exact hc _ _ hcell
theorem BA9{w:World}{v:Value}{z:ZV}(h:eZ.R S w v z)(hb:Blk w b t cs)(hc:∀ (i:Nat) (n:Int),cs[i]?≠some (Value.int .u32 n)):eZ.R (λk=>S k/\k≠b) w v z:=by obtain⟨s,hv,hs⟩:=h;exact⟨s,hv,BO0 hs hb hc⟩
theorem AV5:∀ (i:Nat) (n:Int),(#[.bool false,.slice none 0 0]:Array Value)[i]?≠some (Value.int .u32 n):=by
 intro i n;match i with
 | 0=>simp
 | 1=>simp
 | i+2=>simp
theorem Ai9{x a b:Value}:∀ (j:Nat) (u:Value),[a,b][j]?=some u->(#[x,y,a,b]:Array Value)[2+j]?=some u:=by
 intro j u hu;match j with
 | 0=>exact hu
 | 1=>exact hu
 | j+2=>simp at hu
theorem BL5{x a b:Value}:∀ (j:Nat) (u:Value),[x,y][j]?=some u->(#[x,y,a,b]:Array Value)[0+j]?=some u:=by
 intro j u hu;match j with
 | 0=>exact hu
 | 1=>exact hu
 | j+2=>simp at hu
section
variable {α:Type} {E:ER α} {t:TypeId} {S X:Nat->Prop} {w w':World} {g:Nat} {l:List α}
theorem FB.chg (h:FB E t S w g l) (c:Chg X w w') (hg:¬ X g) (hS:∀ k,S k->¬ X k):FB E t S w' g l:=by obtain⟨es,hb,he⟩:=h;exact⟨es,c.blk hb hg,he.keep (c.kp λk hk=>hS k hk.1)⟩
theorem FB.at_ {i:Nat} {x:α} (hsz:0<E.sz) (h:FB E t S w g l) (hx:l[i]?=some x):∃ e,E.R (λk=>S k/\k≠g) w e x/\PtrX w ⟨g,i*E.sz,none⟩ e:=by
 obtain⟨es,hb,he⟩:=h;have hlt:i<l.length:=(List.getElem?_eq_some_iff.1 hx).1;obtain⟨e,hee⟩:∃ e,es[i]?=some e:=⟨_,aE (by rw[he.1];exact hlt)⟩;refine⟨e,he.2 i e x hee hx,λj u hu=>?_⟩;rw[M9,hb.cell,bM];have hj:j<E.sz:=by
  have hs:=he.sz e (List.mem_iff_getElem?.2 ⟨i,hee⟩);rcases aB j e.cells.size with h | h
  ·omega
  ·rw[cV h] at hu;cases hu
 rw[C2 es i j e he.sz hee hj];exact hu
theorem OwnL.chgI {k:IntKind} {base:Nat} {Z:Nat->Prop} {v:Value} {l:List Int} (h:OwnL (eInt k) t base Z w v l) (c:Chg X w w') (hX:∀ k,X k->k<base):OwnL (eInt k) t base Z w' v l:=by obtain⟨es,h1,h2⟩:=h;exact⟨es,AG9 h1 λk cs hk hb=>c.blk hb λhx=>by have:=hX k hx;omega,h2.1,λi e x he hx=>h2.2 i e x he hx⟩
end
section
variable {P:Program} {ro:Option Nat} {N:Nat} {ds:List Deferred} {ops:Array Oper} {K:Env->World->Prop} {rest:List Oper} {σ:Env} {w:World} {d:Tmp} {ty:TypeId} {pos:String} {af:Array Edge} {α:Type} {E:ER α} {S:Nat->Prop}
theorem AB5 {dd:Option Tmp} {gd:Option (Nat×Bool)} {t t':TypeId} {x:Operand} {g i o:Nat} {l:List α} {z:α} (hsz:0<E.sz) (ht:tyOf P t=some (E.isA,E.sz)) (hx:ev σ x=some (.pointer (some ⟨g,o,none⟩))) (ho:o=i*E.sz) (hF:FB E t' S w g l) (hz:l[i]?=some z) :
  Gv P ⟨dd,.load t x,ty,pos,af,gd⟩ σ w λv' w'=>Ext w w'/\Sp.ok (.inr (E.at (λk=>S k/\k≠g) z)) v' w':=by
 subst ho;obtain⟨e,h1,h2⟩:=hF.at_ hsz hz;exact H6 (Z4 ht hx h2 h1) h1 (E9 _ _ _)
theorem WL.ldF {t t':TypeId} {x:Operand} {g i o:Nat} {l:List α} {z:α} (hsz:0<E.sz) (ht:tyOf P t=some (E.isA,E.sz)) (hd:Nat.blt d N=true) (hx:ev σ x=some (.pointer (some ⟨g,o,none⟩))) (ho:o=i*E.sz) (hF:FB E t' S w g l) (hz:l[i]?=some z)
  (k:∀ e,E.R (λk=>S k/\k≠g) w e z->WL P ro N ds ops K rest ((d,e)::σ) w):WL P ro N ds ops K (⟨some d,.load t x,ty,pos,af,none⟩::rest) σ w:=by
 subst ho;obtain⟨e,h1,h2⟩:=hF.at_ hsz hz;exact .ldX ht hd hx h2 h1 (k e h1)
end
@[reducible] def FBat (t:TypeId) (S:Nat->Prop) (B n:Nat) (l:List (List QV)):Value->World->Prop:=λv W=>∃ gb,v=.slice (some ⟨gb,0,none⟩) n n/\B<=gb/\FB eV t S W gb l
theorem FBat.toR{B:Nat}{l:List (List QV)}{v:Value}{W:World}(h:FBat t S B n l v W)(hS:∀ k,B<=k->S k)(hl:l.length=n)(hn:n<=9223372036854775807):eM.R S W v l:=by obtain⟨gb,rfl,hb,hF⟩:=h;have:=hF.toR (c:=n) (hsz:=by decide) (hS gb hb) (by omega) (by omega);rwa [hl] at this
theorem AU4{w:World}{v:Value}(h:eQ.R S w v q)(hb:Blk w b t cs)(hc:∀ (i:Nat) (n:Int),cs[i]?≠some (Value.int .u32 n)):eQ.R (λk=>S k/\k≠b) w v q:=by obtain⟨s,u,hv,h1,h2⟩:=h;exact⟨s,u,hv,BO0 h1 hb hc,BO0 h2 hb hc⟩
theorem AA9:∀ (i:Nat) (n:Int),(#[.bool false,.slice none 0 0,.bool false,.slice none 0 0]:Array Value)[i]?≠some (Value.int .u32 n):=by
 intro i n;match i with
 | 0=>simp
 | 1=>simp
 | 2=>simp
 | 3=>simp
 | i+4=>simp
theorem Chg.grown{w w':World}{o:Option Nat}(h:w.grownBy w' o):Chg (λk=>o=some k) w w':=⟨h.os,h.tape,h.output,h.size,λk hk hne=>h.block k hk (λe=>hne e.symm)⟩
def FP {α:Type} (E:ER α) (t:TypeId) (S:Nat->Prop) (w:World) (g:Nat) (l:List α):Prop :=
 ∃ es rest,Blk w g t (cellsOf es++rest).toArray/\Els E (λk=>S k/\k≠g) w es l
theorem BB1{sz:Nat}(hsz:0<sz)(es rest:List Value)(i:Nat)(v:Value)(hs:∀ e∈es,e.cells.size=sz)(hv:v.cells.size=sz)(hi:i<es.length) :
  wrt (cellsOf es++rest).toArray (i*sz) v.cells.toList=(cellsOf (es.set i v)++rest).toArray:=by
 have h0:=AE0 hsz es i v hs hv hi;have hs':∀ e∈es.set i v,e.cells.size=sz:=λe he=>by
  rcases eT he with h | h
  ·exact hs e h
  ·rw[h];exact hv
 have hl:=B7 es hs;have hl':=B7 (es.set i v) hs';rw[bV] at hl';have hle:i*sz+sz<=es.length*sz:=by rw[<-cY];exact bN _ hi
 apply fV;intro j;rw[AP2 _ _ _ _ (by simp only[cO,hv,dG,aL,hl];omega)];have h1:(wrt (cellsOf es).toArray (i*sz) v.cells.toList)[j]?=(cellsOf (es.set i v)).toArray[j]?:=by rw[h0]
 rw[AP2 _ _ _ _ (by simp only[cO,hv,dG,hl];exact hle)] at h1;simp only[cO,hv,bM,gS] at h1 ⊢;rcases aB j (es.length*sz) with hj | hj
 ·rw[bQ (by omega),bQ (by omega)];exact h1
 ·rw[if_neg (by omega),bT (by omega),bT (by omega),hl,hl']
section
variable {α:Type} {E:ER α} {t:TypeId} {S X:Nat->Prop} {w w':World} {g:Nat} {l:List α}
theorem FP.lt (h:FP E t S w g l):g<w.heap.size:=by obtain⟨es,_,hb,_⟩:=h;exact hb.lt
theorem FP.kp (h:FP E t S w g l) (hk:Kp (λ_=>True) w w'):FP E t S w' g l:=by obtain⟨es,r,hb,he⟩:=h;exact⟨es,r,hk.blk trivial hb,he.keep λk c t f _ hc=>hk k c t f trivial hc⟩
theorem FP.ext (h:FP E t S w g l) (e:Ext w w'):FP E t S w' g l:=h.kp (Kp.ext e)
theorem FP.upd {b:Nat} (h:FP E t S w g l) (u:Upd w w' b) (hne:g≠b) (hS:¬ S b):FP E t S w' g l:=by obtain⟨es,r,hb,he⟩:=h;exact⟨es,r,hb.upd u hne,he.keep (Kp.upd u λh=>hS h.1)⟩
theorem FP.mono {S':Nat->Prop} (h:FP E t S w g l) (hk:∀ k,k<w.heap.size->S k->S' k):FP E t S' w g l:=by obtain⟨es,r,hb,he⟩:=h;exact⟨es,r,hb,he.1,λi e x h1 h2=>E.mono (λk hl hh=>⟨hk k hl hh.1,hh.2⟩) (he.2 i e x h1 h2)⟩
theorem FP.toR {hsz:0<E.sz} {c:Nat} (h:FP E t S w g l) (hS:S g) (hc:l.length<=c) (hm:l.length<=9223372036854775807):(RL E hsz).R S w (.slice (some ⟨g,0,none⟩) l.length c) l:=by
 obtain⟨es,r,hb,he⟩:=h;exact RL.ofBlk hb hS ⟨he.1,λi e x h1 h2=>E.mono (λk _ hh=>hh.1) (he.2 i e x h1 h2)⟩ (λj u hu=>by rw[bM,bQ (List.getElem?_eq_some_iff.1 hu).1];exact hu) hc hm
theorem FP.chg (h:FP E t S w g l) (c:Chg X w w') (hg:¬ X g) (hS:∀ k,S k->¬ X k):FP E t S w' g l:=by obtain⟨es,r,hb,he⟩:=h;exact⟨es,r,c.blk hb hg,he.keep (c.kp λk hk=>hS k hk.1)⟩
theorem FP.at_ {i:Nat} {x:α} (h:FP E t S w g l) (hx:l[i]?=some x):∃ e,E.R (λk=>S k/\k≠g) w e x/\PtrX w ⟨g,i*E.sz,none⟩ e:=by
 obtain⟨es,r,hb,he⟩:=h;have hlt:i<l.length:=(List.getElem?_eq_some_iff.1 hx).1;obtain⟨e,hee⟩:∃ e,es[i]?=some e:=⟨_,aE (by rw[he.1];exact hlt)⟩;refine⟨e,he.2 i e x hee hx,λj u hu=>?_⟩;have hj:j<E.sz:=by
  have hs:=he.sz e (List.mem_iff_getElem?.2 ⟨i,hee⟩);rcases aB j e.cells.size with h | h
  ·omega
  ·rw[cV h] at hu;cases hu
 have hg:=C2 es i j e he.sz hee hj;rw[hu] at hg;rw[M9,hb.cell,bM,bQ (List.getElem?_eq_some_iff.1 hg).1];exact hg
theorem OwnL.fp {base:Nat} {v:Value} (h:OwnL E t base X w v l) (hne:0<l.length):∃ g cap,v=.slice (some ⟨g,0,none⟩) l.length cap/\l.length<=cap/\cap<=9223372036854775807/\base<=g/\FP E t X w g l:=by
 obtain⟨es,ho,he⟩:=h;rcases ho.2 with ⟨_,h0⟩ | ⟨g,cap,cur,hv,hb,hg,h1,h2,h3,h4⟩
 ·omega
 ·subst hv;refine⟨g,cap,rfl,h1,by simpa[maxLen] using h2,hb,es,cur.toList.drop (l.length*E.sz),?_,he.1,λi e x hi hx=>E.mono (λk _ hk=>⟨hk.1,λe=>hk.2 (by rw[e];rfl)⟩) (he.2 i e x hi hx)⟩;rw[<-h4,eC];exact hg
end
section
variable {P:Program} {ro:Option Nat} {N:Nat} {ds:List Deferred} {ops:Array Oper} {K:Env->World->Prop} {rest:List Oper} {σ:Env} {w:World} {d:Tmp} {ty:TypeId} {pos:String} {af:Array Edge} {α:Type} {E:ER α} {S:Nat->Prop}
theorem AN5 {dd:Option Tmp} {gd:Option (Nat×Bool)} {t t':TypeId} {x y:Operand} {g i o n:Nat} {a:Bool} {l:List α} {v:Value} {z:α} (hsz:0<E.sz) (ht:tyOf P t=some (a,n)) (hx:ev σ x=some (.pointer (some ⟨g,o,none⟩))) (hy:ev σ y=some v) (hb:FP E t' S w g l)
  (hn:E.sz=n) (hi:i<l.length) (ho:o=i*E.sz) (hz:E.R (λk=>S k/\k≠g) w v z) :
  Gv P ⟨dd,.store t x y,ty,pos,af,gd⟩ σ w λ_ w'=>FP E t' S w' g (l.set i z)/\Upd w w' g:=by
 obtain⟨es,r,hB,he⟩:=hb;have hcs:=E.csz hz;subst ho;have hl:=B7 es he.sz;have hie:i<es.length:=by rw[he.1];exact hi
 have hle:i*E.sz+n<=(cellsOf es++r).toArray.size:=by
  have:i*E.sz+n<=es.length*E.sz:=by rw[<-hn,<-cY];exact bN _ hie
  rw[dG,aL,hl];omega
 refine (N1 ht hx hy hB (by omega) hle (E.one hz)).mono ?_;rintro _ w' ⟨hB',u⟩;rw[BB1 hsz es r i v he.sz hcs hie] at hB';refine⟨⟨es.set i v,r,hB',?_⟩,u⟩;have:=Els.set he i hz;exact this.keep (Kp.upd u λh=>h.2 O)
theorem WL.storeP {t t':TypeId} {x y:Operand} {g i o n:Nat} {a:Bool} {l:List α} {v:Value} {z:α} (hsz:0<E.sz) (ht:tyOf P t=some (a,n)) (hx:ev σ x=some (.pointer (some ⟨g,o,none⟩))) (hy:ev σ y=some v) (hb:FP E t' S w g l)
  (hn:E.sz=n) (hi:i<l.length) (ho:o=i*E.sz) (hz:E.R (λk=>S k/\k≠g) w v z) (k:∀ w',FP E t' S w' g (l.set i z)->Upd w w' g->WL P ro N ds ops K rest σ w') :
  WL P ro N ds ops K (⟨none,.store t x y,ty,pos,af,none⟩::rest) σ w :=
 WL.gv O O (AN5 hsz ht hx hy hb hn hi ho hz) λ_ w' ⟨h1,h2⟩=>k w' h1 h2
theorem Ab5 {dd:Option Tmp} {gd:Option (Nat×Bool)} {t t':TypeId} {x:Operand} {g i o:Nat} {l:List α} {z:α} (ht:tyOf P t=some (E.isA,E.sz)) (hx:ev σ x=some (.pointer (some ⟨g,o,none⟩))) (ho:o=i*E.sz) (hF:FP E t' S w g l) (hz:l[i]?=some z) :
  Gv P ⟨dd,.load t x,ty,pos,af,gd⟩ σ w λv' w'=>Ext w w'/\Sp.ok (.inr (E.at (λk=>S k/\k≠g) z)) v' w':=by
 subst ho;obtain⟨e,h1,h2⟩:=hF.at_ hz;exact H6 (Z4 ht hx h2 h1) h1 (E9 _ _ _)
theorem WL.ldP {t t':TypeId} {x:Operand} {g i o:Nat} {l:List α} {z:α} (ht:tyOf P t=some (E.isA,E.sz)) (hd:Nat.blt d N=true) (hx:ev σ x=some (.pointer (some ⟨g,o,none⟩))) (ho:o=i*E.sz) (hF:FP E t' S w g l) (hz:l[i]?=some z)
  (k:∀ e,E.R (λk=>S k/\k≠g) w e z->WL P ro N ds ops K rest ((d,e)::σ) w):WL P ro N ds ops K (⟨some d,.load t x,ty,pos,af,none⟩::rest) σ w:=by
 subst ho;obtain⟨e,h1,h2⟩:=hF.at_ hz;exact .ldX ht hd hx h2 h1 (k e h1)
end
inductive Fr where
 | co (c:Code)
 | bl (id:Nat)
 | th (F:Env->List Deferred->World->Prop)
def kq (P:Program) (ro:Option Nat) (N:Nat):List Fr->Pst->Pst
 | [],Q=>Q
 | .co c::K,Q=>thn (λσ ds w=>WC P ro N (kq P ro N K Q) c σ ds w) (kq P ro N K Q)
 | .bl id::K,Q=>inb id (kq P ro N K Q)
 | .th F::K,Q=>thn F (kq P ro N K Q)
inductive Mx where
 | o (a:Array Oper) (l:List Oper) (K:List Fr) (σ:Env)
 | c (c:Code) (K:List Fr) (σ:Env)
 | e (e:Exit) (K:List Fr) (σ:Env)
def lget:List Value->Nat->Option Value
 | [],_=>none
 | v::_,0=>some v
 | _::r,i+1=>lget r i
theorem BS4:∀ (l:List Value) (i:Nat),lget l i=l[i]?
 | [],i=>by simp[lget]
 | v::l,0=>by simp[lget]
 | v::l,i+1=>by simp[lget,BS4 l i]
def pv (σ:Env):Op->Option Value
 | .move x=>ev σ x
 | .assign x=>ev σ x
 | .pick c x y=>match ev σ c with
  | some (.bool true)=>ev σ x
  | some (.bool false)=>ev σ y
  | _=>none
 | .unOp .not _ x=>match ev σ x with
  | some (.bool true)=>some (.bool false)
  | some (.bool false)=>some (.bool true)
  | _=>none
 | .extract x i=>match ev σ x with
  | some (.tuple ⟨l⟩)=>lget l i
  | _=>none
 | _=>none
def gdv (a:Array Oper) (N:Nat) (σ:Env):Option (Nat×Bool)->Option Bool
 | none=>some true
 | some (j,b)=>match gslot a j with
  | none=>none
  | some t=>bif Nat.blt t N then (match look σ t with
   | none=>none
   | some (.bool true)=>some b
   | some (.bool false)=>some (!b)
   | some (.tuple _)=>some false
   | some _=>none) else none
def stp (N:Nat):Mx->Option Mx
 | .o a [] K σ=>some (.e .normal K σ)
 | .o a (⟨d,op,ty,pos,af,g⟩::r) K σ=>match gdv a N σ g with
  | none=>none
  | some false=>(match d with
   | none=>some (.o a r K σ)
   | some t=>bif Nat.blt t N then some (.o a r K ((t,undef)::σ)) else none)
  | some true=>match pv σ op with
   | some v=>(match d with
    | none=>some (.o a r K σ)
    | some t=>bif Nat.blt t N then some (.o a r K ((t,v)::σ)) else none)
   | none=>match g with
    | none=>none
    | some _=>some (.o a (⟨d,op,ty,pos,af,none⟩::r) K σ)
 | .c .skip K σ=>some (.e .normal K σ)
 | .c (.seq x y) K σ=>some (.c x (.co y::K) σ)
 | .c (.block id c) K σ=>some (.c c (.bl id::K) σ)
 | .c (.region _ ⟨l⟩ false) K σ=>some (.o l.toArray l K σ)
 | .c (.cond x a b) K σ=>match ev σ x with
  | some (.bool true)=>some (.c a K σ)
  | some (.bool false)=>some (.c b K σ)
  | _=>none
 | .c .ret K σ=>some (.e .ret K σ)
 | .c (.exit id) K σ=>some (.e (.exit id) K σ)
 | .c (.label _) K σ=>some (.e .normal K σ)
 | .e .normal (.co c::K) σ=>some (.c c K σ)
 | .e .normal (.bl _::K) σ=>some (.e .normal K σ)
 | .e (.exit j) (.bl id::K) σ=>bif Nat.beq j id then some (.e .normal K σ) else some (.e (.exit j) K σ)
 | .e (.exit j) (.co _::K) σ=>some (.e (.exit j) K σ)
 | .e (.exit j) (.th _::K) σ=>some (.e (.exit j) K σ)
 | .e .ret (.bl _::K) σ=>some (.e .ret K σ)
 | .e .ret (.co _::K) σ=>some (.e .ret K σ)
 | .e .ret (.th _::K) σ=>some (.e .ret K σ)
 | _=>none
def rnx (N:Nat):Nat->Mx->Mx
 | 0,s=>s
 | n+1,s=>match stp N s with
  | none=>s
  | some s'=>rnx N n s'
def atZ (z:Nat):Mx->Bool
 | .c (.region id _ _) _ _=>Nat.beq id z
 | _=>false
def rnz (z N:Nat):Nat->Mx->Mx
 | 0,s=>s
 | n+1,s=>bif atZ z s then s else match stp N s with
  | none=>s
  | some s'=>rnz z N n s'
section
variable {P:Program} {ro:Option Nat} {N:Nat} {Q:Pst} {ds:List Deferred} {w:World}
def Hx (P:Program) (ro:Option Nat) (N:Nat) (Q:Pst) (ds:List Deferred) (w:World):Mx->Prop
 | .o a l K σ=>WL P ro N ds a (λσ w=>kq P ro N K Q .normal σ ds w) l σ w
 | .c c K σ=>WC P ro N (kq P ro N K Q) c σ ds w
 | .e e K σ=>kq P ro N K Q e σ ds w
theorem pv_vl {o:Oper} {σ:Env} {v:Value} (h:pv σ o.op=some v):Vl P o σ w v:=by
 obtain⟨d,op,ty,pos,af,g⟩:=o;unfold pv at h;dsimp only at h;split at h
 ·exact v_mv h
 ·exact v_as h
 ·split at h
  ·rename_i hc;exact Ay0 hc h
  ·rename_i hc;exact AP6 hc h
  ·cases h
 ·split at h
  ·rename_i hc;cases h;exact Au9 hc
  ·rename_i hc;cases h;exact Au9 hc
  ·cases h
 ·split at h
  ·rename_i hc;rw[BS4] at h;exact v_ex hc (by simpa using h)
  ·cases h
 ·cases h
theorem Hx.put {a:Array Oper} {o:Oper} {r:List Oper} {K:List Fr} {σ:Env} {v:Value} {s:Mx} (hg:o.guard=none) (hv:pv σ o.op=some v)
  (hs:(match o.dst with | none=>some (Mx.o a r K σ) | some t=>bif Nat.blt t N then some (Mx.o a r K ((t,v)::σ)) else none)=some s) (h:Hx P ro N Q ds w s):Hx P ro N Q ds w (.o a (o::r) K σ):=by
 obtain⟨d,op,ty,pos,af,g⟩:=o;dsimp only at hs hg hv;subst hg
 cases d with
 | none =>
  cases hs;exact WL.vl O O (pv_vl hv) h
 | some t =>
  dsimp only at hs
  cases ht:Nat.blt t N with
  | false=>rw[ht] at hs;cases hs
  | true =>
   rw[ht] at hs
   cases hs;exact WL.vl O ht (pv_vl hv) h
theorem Hx.step {s s':Mx} (hs:stp N s=some s') (h:Hx P ro N Q ds w s'):Hx P ro N Q ds w s:=by
 unfold stp at hs;split at hs
 ·cases hs;exact WL.nil h
 ·rename_i a d op ty pos af g r K σ
  cases hg:gdv a N σ g with
  | none=>rw[hg] at hs;cases hs
  | some b =>
   rw[hg] at hs
   cases b with
   | false =>
    dsimp only at hs
    cases g with
    | none=>cases hg
    | some jb =>
     obtain⟨j,b⟩:=jb;unfold gdv at hg;dsimp only at hg
     cases hj:gslot a j with
     | none=>rw[hj] at hg;cases hg
     | some t =>
      rw[hj] at hg;dsimp only at hg
      cases ht:Nat.blt t N with
      | false=>rw[ht] at hg;cases hg
      | true =>
       rw[ht] at hg;simp only[cond_true] at hg;have key:∃ v,look σ t=some v/\(match v with | .bool c=>some c | _=>none)≠some b:=by
        split at hg
        ·cases hg
        ·rename_i hl;exact⟨_,hl,by injection hg with hg;subst hg;simp⟩
        ·rename_i hl;exact⟨_,hl,by injection hg with hg;cases b<;>simp at hg ⊢⟩
        ·rename_i hl;exact⟨_,hl,by simp⟩
        ·cases hg
       obtain⟨v,hv,hne⟩:=key
       cases d with
       | none=>cases hs;exact WL.gskip rfl rfl hj ht hv (by cases v<;>exact hne) h
       | some u =>
        dsimp only at hs
        cases hu:Nat.blt u N with
        | false=>rw[hu] at hs;cases hs
        | true=>rw[hu] at hs;cases hs;exact WL.gskip rfl hu hj ht hv (by cases v<;>exact hne) h
   | true =>
    dsimp only at hs;have key:Hx P ro N Q ds w (.o a (⟨d,op,ty,pos,af,none⟩::r) K σ)->Hx P ro N Q ds w (.o a (⟨d,op,ty,pos,af,g⟩::r) K σ):=by
     intro hh
     cases g with
     | none=>exact hh
     | some jb =>
      obtain⟨j,b⟩:=jb;unfold gdv at hg;dsimp only at hg
      cases hj:gslot a j with
      | none=>rw[hj] at hg;cases hg
      | some t =>
       rw[hj] at hg;dsimp only at hg
       cases ht:Nat.blt t N with
       | false=>rw[ht] at hg;cases hg
       | true =>
        rw[ht] at hg;simp only[cond_true] at hg;have:look σ t=some (.bool b):=by
         split at hg
         ·cases hg
         ·rename_i hl;injection hg with hg;subst hg;exact hl
         ·rename_i hl;injection hg with hg;cases b<;>simp at hg;exact hl
         ·cases hg
         ·cases hg
        exact WL.grun hj ht this hh
    refine key ?_
    cases hp:pv σ op with
    | some v=>rw[hp] at hs;exact Hx.put O hp hs h
    | none =>
     rw[hp] at hs
     cases g with
     | none=>cases hs
     | some _=>cases hs;exact h
 ·cases hs;exact WC.skip h
 ·cases hs;exact WC.seq h
 ·cases hs;exact WC.block h
 ·cases hs;exact WC.region h
 ·split at hs
  ·rename_i hc;cases hs;exact WC.condT hc h
  ·rename_i hc;cases hs;exact WC.condF hc h
  ·cases hs
 ·cases hs;exact WC.ret h
 ·cases hs;exact WC.exit h
 ·cases hs;exact WC.label h
 ·cases hs;exact h
 ·cases hs;exact h
 ·rename_i j id K σ;unfold Hx kq;dsimp only[inb]
  cases hb:Nat.beq j id with
  | true=>rw[hb] at hs;cases hs;exact h
  | false=>rw[hb] at hs;cases hs;exact h
 ·cases hs;exact h
 ·cases hs;exact h
 ·cases hs;exact h
 ·cases hs;exact h
 ·cases hs;exact h
 ·cases hs
theorem Hx.run:∀ (n:Nat) {s:Mx},Hx P ro N Q ds w (rnx N n s)->Hx P ro N Q ds w s
 | 0,_,h=>h
 | n+1,s,h=>by
  unfold rnx at h
  cases hs:stp N s with
  | none=>rw[hs] at h;exact h
  | some s'=>rw[hs] at h;exact Hx.step hs (Hx.run n h)
theorem Hx.runz (z:Nat):∀ (n:Nat) {s:Mx},Hx P ro N Q ds w (rnz z N n s)->Hx P ro N Q ds w s
 | 0,_,h=>h
 | n+1,s,h=>by
  unfold rnz at h
  cases hz:atZ z s with
  | true=>rw[hz] at h;exact h
  | false =>
   rw[hz] at h
   simp only[cond_false] at h
   cases hs:stp N s with
   | none=>rw[hs] at h;exact h
   | some s'=>rw[hs] at h;exact Hx.step hs (Hx.runz z n h)
theorem Hx.ofz {z:Nat} {s s':Mx} (h:rnz z N 500 s=s') (k:Hx P ro N Q ds w s'):Hx P ro N Q ds w s:=Hx.runz z 500 (h▸k)
theorem Hx.of {s s':Mx} (h:rnx N 500 s=s') (k:Hx P ro N Q ds w s'):Hx P ro N Q ds w s:=Hx.run 500 (h▸k)
variable {K K':List Fr} {σ σ':Env} {a a':Array Oper} {l l':List Oper} {o:Oper} {c c':Code} {e e':Exit} {F:Env->List Deferred->World->Prop}
theorem WL.go (h:rnx N 500 (.o a l K σ)=.o a' (o::l') K' σ') (k:WL P ro N ds a' (λσ w=>kq P ro N K' Q .normal σ ds w) (o::l') σ' w):WL P ro N ds a (λσ w=>kq P ro N K Q .normal σ ds w) l σ w:=Hx.of (s:=.o a l K σ) h k
theorem WL.goC (h:rnx N 500 (.o a l K σ)=.c c' K' σ') (k:WC P ro N (kq P ro N K' Q) c' σ' ds w):WL P ro N ds a (λσ w=>kq P ro N K Q .normal σ ds w) l σ w:=Hx.of (s:=.o a l K σ) h k
theorem WL.goE (h:rnx N 500 (.o a l K σ)=.e e' [] σ') (k:Q e' σ' ds w):WL P ro N ds a (λσ w=>kq P ro N K Q .normal σ ds w) l σ w:=Hx.of (s:=.o a l K σ) h k
theorem WL.goN (h:rnx N 500 (.o a l K σ)=.e .normal (.th F::K') σ') (k:F σ' ds w):WL P ro N ds a (λσ w=>kq P ro N K Q .normal σ ds w) l σ w:=Hx.of (s:=.o a l K σ) h k
theorem WC.go (h:rnx N 500 (.c c K σ)=.o a' (o::l') K' σ') (k:WL P ro N ds a' (λσ w=>kq P ro N K' Q .normal σ ds w) (o::l') σ' w):WC P ro N (kq P ro N K Q) c σ ds w:=Hx.of (s:=.c c K σ) h k
theorem WC.goC (h:rnx N 500 (.c c K σ)=.c c' K' σ') (k:WC P ro N (kq P ro N K' Q) c' σ' ds w):WC P ro N (kq P ro N K Q) c σ ds w:=Hx.of (s:=.c c K σ) h k
theorem WL.goZ (z:Nat) (h:rnz z N 500 (.o a l K σ)=.c c' K' σ') (k:WC P ro N (kq P ro N K' Q) c' σ' ds w):WL P ro N ds a (λσ w=>kq P ro N K Q .normal σ ds w) l σ w:=Hx.ofz (s:=.o a l K σ) h k
theorem WC.beg (h:WC P ro N (kq P ro N [] Q) c σ ds w):WC P ro N Q c σ ds w:=h
theorem kq.go (h:rnx N 500 (.e e K σ)=.o a' (o::l') K' σ') (k:WL P ro N ds a' (λσ w=>kq P ro N K' Q .normal σ ds w) (o::l') σ' w):kq P ro N K Q e σ ds w:=Hx.of (s:=.e e K σ) h k
end
inductive Bx where
 | mk (σ:Env)
def pickX (σ:Env):List Nat->Env->Bx
 | [],acc=>.mk acc
 | t::ks,acc=>match look σ t with
  | some v=>pickX σ ks ((t,v)::acc)
  | none=>pickX σ ks acc
theorem Ab4 {σ σ1:Env}:∀ (ks:List Nat) (acc:Env),pickX σ ks acc=.mk σ1->(∀ p∈acc,look σ p.1=some p.2)->∀ p∈σ1,look σ p.1=some p.2
 | [],acc,h,ha=>by cases h;exact ha
 | t::ks,acc,h,ha=>by
  unfold pickX at h
  cases hl:look σ t with
  | none=>rw[hl] at h;exact Ab4 ks acc h ha
  | some v =>
   rw[hl] at h
   refine Ab4 ks _ h λp hp=>?_
   rcases List.mem_cons.1 hp with rfl | hp
   ·exact hl
   ·exact ha p hp
theorem Bg0{t:Nat}{v:Value}:look σ t=some v->(t,v)∈σ:=by
 induction σ with
 | nil=>intro h;simp[look] at h
 | cons p σ ih =>
  obtain⟨k,u⟩:=p;intro h;simp only[look] at h
  cases hb:Nat.beq k t with
  | true=>rw[hb] at h;cases h;rw[bH hb];exact cR ..
  | false=>rw[hb] at h;exact cH _ (ih h)
theorem Bg1{τ:Env}{t:Nat}{v:Value}(h:look (τ++σ) t=some v):look τ t=some v\/look σ t=some v:=by
 induction τ with
 | nil=>exact .inr h
 | cons p τ ih =>
  obtain⟨k,u⟩:=p;simp only[fZ,look] at h ⊢
  cases hb:Nat.beq k t with
  | true=>rw[hb] at h;exact .inl h
  | false=>rw[hb] at h;exact ih h
theorem Aw7{ks:List Nat}{ch σ1 σ':Env}(hd:pickX σ' ks []=.mk σ1)(hc:∀ t v,look ch t=some v->look σ' t=some v):∀ t v,look (ch++σ1) t=some v->look σ' t=some v:=λt v h=>by
 rcases Bg1 h with h | h
 ·exact hc t v h
 ·exact Ab4 ks [] hd (λp hp=>by cases hp) _ (Bg0 h)
section
variable {P:Program} {ro:Option Nat} {N:Nat} {Q:Pst} {σ σ1:Env} {ds:List Deferred} {w:World} {K:List Fr}
def Rnd {α:Type} (ks:List Nat) (σ1:Env) (ds:List Deferred) (ch:α->Env) (F:α->World->Prop) (σ':Env) (ds':List Deferred) (w':World):Prop :=
 ds'=ds/\∃ x',(∀ t v,look (ch x'++σ1) t=some v->look σ' t=some v)/\F x' w'
theorem Rnd.mk {α:Type} {ks:List Nat} {σ1 σ':Env} {ds:List Deferred} {ch:α->Env} {F:α->World->Prop} {w':World} (x:α) (hd:pickX σ' ks []=.mk σ1) (hc:∀ t v,look (ch x) t=some v->look σ' t=some v) (hF:F x w'):Rnd ks σ1 ds ch F σ' ds w' :=
 ⟨rfl,x,Aw7 hd hc,hF⟩
theorem WC.lp {α:Type} {c:Code} (ks:List Nat) (hk:pickX σ ks []=.mk σ1) (ch:α->Env) (F:α->World->Prop) (m:α->Nat) (x:α) (hE:∀ t v,look (ch x) t=some v->look σ t=some v) (hF:F x w)
  (h:∀ x w,F x w->WC P ro N (kq P ro N (.th (Rnd ks σ1 ds ch λx' w'=>F x' w'/\m x'<m x)::K) Q) c (ch x++σ1) ds w):WC P ro N (kq P ro N K Q) (.loop c) σ ds w:=by
 refine WC.loop (λx=>ch x++σ1) F m x (Aw7 hk hE) hF ?_;intro x w hx;refine (h x w hx).mono ?_;intro e σ' ds' w' hh
 cases e with
 | normal=>obtain⟨h1,x',h2,h3,h4⟩:=hh;exact⟨h1,x',h2,h3,h4⟩
 | _=>exact hh
def cutK:Nat->List Fr->Option (List Fr×Code×List Fr)
 | 0,.co c::K=>some ([],c,K)
 | i+1,f::K=>match cutK i K with
  | some (A,c,B)=>some (f::A,c,B)
  | none=>none
 | _,_=>none
theorem BT9:∀ {i:Nat} {K A B:List Fr} {c:Code},cutK i K=some (A,c,B)->K=A++.co c::B
 | 0,[],A,B,c,h=>by simp[cutK] at h
 | 0,.co c'::K,A,B,c,h=>by simp[cutK] at h;obtain⟨rfl,rfl,rfl⟩:=h;rfl
 | 0,.bl _::K,A,B,c,h=>by simp[cutK] at h
 | 0,.th _::K,A,B,c,h=>by simp[cutK] at h
 | i+1,[],A,B,c,h=>by simp[cutK] at h
 | i+1,f::K,A,B,c,h=>by
  simp only[cutK] at h
  cases hh:cutK i K with
  | none=>rw[hh] at h;cases h
  | some p =>
   obtain⟨A',c',B'⟩:=p
   rw[hh] at h
   cases h
   rw[BT9 hh];rfl
theorem Aj4 {Q1 Q2:Pst} (hq:∀ e σ ds w,Q1 e σ ds w->Q2 e σ ds w):∀ (A:List Fr) {B1 B2:List Fr},(∀ e σ ds w,kq P ro N B1 Q1 e σ ds w->kq P ro N B2 Q2 e σ ds w)->∀ e σ ds w,kq P ro N (A++B1) Q1 e σ ds w->kq P ro N (A++B2) Q2 e σ ds w
 | [],_,_,h,e,σ,ds,w,hh=>h e σ ds w hh
 | .co c::A,B1,B2,h,e,σ,ds,w,hh=>by
  have ih:=Aj4 hq A h
  cases e with
  | normal=>exact WC.mono (Q:=kq P ro N (A++B1) Q1) hh ih
  | _=>exact ih _ _ _ _ hh
 | .bl id::A,B1,B2,h,e,σ,ds,w,hh=>by
  have ih:=Aj4 hq A h
  cases e with
  | exit j =>
   show bif Nat.beq j id then _ else _
   have hh:bif Nat.beq j id then kq P ro N (A++B1) Q1 .normal σ ds w else kq P ro N (A++B1) Q1 (.exit j) σ ds w:=hh
   cases hb:Nat.beq j id with
   | true=>rw[hb] at hh;exact ih _ _ _ _ hh
   | false=>rw[hb] at hh;exact ih _ _ _ _ hh
  | _=>exact ih _ _ _ _ hh
 | .th F::A,B1,B2,h,e,σ,ds,w,hh=>by
  have ih:=Aj4 hq A h
  cases e with
  | normal=>exact hh
  | _=>exact ih _ _ _ _ hh
theorem kq_cut {α:Type} {i:Nat} {A B:List Fr} {c:Code} (ch:α->Env) (F:α->World->Prop) (hK:cutK i K=some (A,c,B)) (ks:List Nat) (h2:∀ x w',F x w'->WC P ro N (kq P ro N B Q) c (ch x++σ1) ds w') :
  ∀ e σ' ds' w',kq P ro N (A++.th (Rnd ks σ1 ds ch F)::B) Q e σ' ds' w'->kq P ro N K Q e σ' ds' w':=by
 rw[BT9 hK];refine Aj4 (λ_ _ _ _ h=>h) A λe σ' ds' w' h=>?_
 cases e with
 | normal=>obtain⟨rfl,x,he,hf⟩:=h;exact (h2 x w' hf).weak _ he
 | _=>exact h
theorem WC.cut {α:Type} {A B:List Fr} {c c':Code} (i:Nat) (ks:List Nat) (hk:pickX σ ks []=.mk σ1) (ch:α->Env) (F:α->World->Prop) (hK:cutK i K=some (A,c',B)) (h2:∀ x w',F x w'->WC P ro N (kq P ro N B Q) c' (ch x++σ1) ds w')
  (h1:WC P ro N (kq P ro N (A++.th (Rnd ks σ1 ds ch F)::B) Q) c σ ds w):WC P ro N (kq P ro N K Q) c σ ds w:=h1.mono (kq_cut ch F hK ks h2)
end
section
variable {P:Program} {ro:Option Nat} {N:Nat} {ds:List Deferred} {ops:Array Oper} {K:Env->World->Prop} {rest:List Oper} {σ:Env} {w:World} {d:Tmp} {ty:TypeId} {pos:String} {af:Array Edge} {xt yt:TypeId} {x y:Operand}
theorem WL.inc {i:Nat} (hd:Nat.blt d N=true) (hx:ev σ x=some (iW (i:Nat))) (hy:ev σ y=some (iW 1)) (h:i<9223372036854775807) (k:WL P ro N ds ops K rest ((d,iW ((i+1:Nat):Int))::σ) w):WL P ro N ds ops K (⟨some d,.binOp .add xt x y yt,ty,pos,af,none⟩::rest) σ w:=by refine WL.add hd hx hy ?_;rw[wI (by omega)];exact k
end
section
variable {P:Program} {ro:Option Nat} {N:Nat} {ds:List Deferred} {ops:Array Oper} {K:Env->World->Prop} {rest:List Oper} {σ:Env} {w:World} {d:Tmp} {ty:TypeId} {pos:String} {af:Array Edge}
end
theorem lc1{k:Nat}(h1:look σ k=some u):∀ t v,look [(k,u)] t=some v->look σ t=some v:=A7 h1 AN1
theorem lc2{k k2:Nat}{u2:Value}(h1:look σ k=some u)(h2:look σ k2=some u2):∀ t v,look [(k,u),(k2,u2)] t=some v->look σ t=some v:=A7 h1 (lc1 h2)
theorem lc3{k k2 k3:Nat}{u2 u3:Value}(h1:look σ k=some u)(h2:look σ k2=some u2)(h3:look σ k3=some u3):∀ t v,look [(k,u),(k2,u2),(k3,u3)] t=some v->look σ t=some v:=A7 h1 (lc2 h2 h3)
def sgnR (r:Rat):Int:=r.num.sign
theorem Av7(q:QV):sgnR (qval q)=(pn q).sign:=by
 unfold sgnR qval;have hp:=L9 q;generalize pn q=n at *;generalize pd q=d at *;rw[gD,cA hp,Int.one_mul];have hg:(0:Int)<((d.gcd n:Nat):Int):=by
  have:0<d.gcd n:=by rw[Int.gcd];exact Nat.gcd_pos_of_pos_left _ (by omega)
  omega
 have hd:((d.gcd n:Nat):Int)∣n:=Int.gcd_dvd_right ..;obtain⟨k,hk⟩:=hd;generalize hgg:((d.gcd n:Nat):Int)=g at *;rw[hk,Int.mul_ediv_cancel_left _ (by omega),Int.sign_mul,cA hg,Int.one_mul]
theorem AB1{r:Rat}:sgnR r=0<->r=0:=by unfold sgnR;rw[Int.sign_eq_zero_iff_zero,Rat.num_eq_zero]
theorem BS3 {β:Type} {p:Nat->β->Prop}:∀ n,(∀ i,i<n->∃ y,p i y)->∃ ys:List β,ys.length=n/\∀ i y,ys[i]?=some y->p i y
 | 0,_=>⟨[],rfl,λi y h=>by simp at h⟩
 | n+1,h=>by
  obtain⟨ys,hl,hy⟩:=BS3 n λi hi=>h i (by omega)
  obtain⟨y,hp⟩:=h n (by omega)
  refine⟨ys++[y],by simp[hl],λi z hz=>?_⟩
  rcases aB i ys.length with hi | hi
  ·rw[bQ hi] at hz;exact hy i z hz
  ·rw[bT hi] at hz
   cases hk:i-ys.length with
   | zero=>rw[hk] at hz;simp at hz;subst hz;rw[show i=n by omega];exact hp
   | succ k=>rw[hk] at hz;simp at hz
theorem _root_.Go.World.noneFrozen.left{W:World}{p q:List MemPlace}(h:W.noneFrozen (p++q)):W.noneFrozen p:=λb o hm=>h b o (gX _ hm)
theorem _root_.Go.World.noneFrozen.right{W:World}{p q:List MemPlace}(h:W.noneFrozen (p++q)):W.noneFrozen q:=λb o hm=>h b o (List.mem_append_right _ hm)
section
variable {H:Type} {enc:TypeId×Value->H} {P:Program} {W:World}
def Opn (enc:TypeId×Value->H) (P:Program) (W:World) {α:Type} (E:ER α) (t:TypeId) (Z:DataW H->α->Prop):Prop :=
 ∀ (fuel:Nat) (cs:List Value) (x:DataW H×List MemPlace),DataW.trod enc P W 0 (λ_=>true) true fuel t cs=some x->W.noneFrozen x.2->∃ e a,e.cells.toList=cs/\E.R (λ_=>True) W e a/\Z x.1 a
def ZL {α:Type} (Z:DataW H->α->Prop) (d:DataW H) (l:List α):Prop :=
 (d=.nil/\l=[])\/∃ elems spare,d=.slice elems spare/\elems.length=l.length/\∀ (i:Nat) d' x,elems[i]?=some d'->l[i]?=some x->Z d' x
theorem Opn.slice {α:Type} {E:ER α} {t e:TypeId} {Z:DataW H->α->Prop} (hsz:0<E.sz) (ht:P.underlying t=some (.slice e)) (hc:P.cellsOf e=E.sz) (h:Opn enc P W E e Z):Opn enc P W (RL E hsz) t (ZL Z):=by
 intro fuel cs x hx hfz;rcases Deep.open_slice ht hx with ⟨rfl,rfl⟩ | ⟨a,len,cap,m,n,D,Pl,rfl,_,hl,hcap,hm,rfl,hel⟩
 ·exact⟨.slice none 0 0,[],rfl,RL.nil,.inl ⟨rfl,rfl⟩⟩
 ·have hlm:len<=m:=by rw[hm];simp;exact hl
  have hfr:∀ j,j<len*E.sz->W.frozen? (a.add j)=false:=λj hj=>by
   have hk:j<m*P.cellsOf e:=by rw[hc];exact bC hj (bN _ hlm)
   have:=hfz a.block (a.off+j) (gX _ (List.mem_map.2 ⟨j,List.mem_range.2 hk,rfl⟩));have hb:(a.add j).block=a.block:=G8 a j;have ho:(a.add j).off=a.off+j\/(j=0/\(a.add j).off=a.off):=by
    unfold Addr.add;split
    ·rename_i h;exact .inr ⟨by simpa using h,rfl⟩
    ·exact .inl rfl
   unfold World.frozen? at this ⊢;rw[hb];rcases ho with ho | ⟨h0,ho⟩
   ·rw[ho];exact this
   ·rw[ho];subst h0;exact this
  have hfe:∀ i,i<m->W.noneFrozen (Pl i):=λi hi b off h=>hfz b off (List.mem_append_right _ (List.mem_flatMap.2 ⟨i,List.mem_range.2 hi,h⟩));obtain⟨ys,hyl,hys⟩:=BS3 (p:=λi (y:Value×α)=>E.R (λ_=>True) W y.1 y.2/\(∀ j u,y.1.cells[j]?=some u->W.cell? ((a.add (i*E.sz)).add j)=some u)/\Z (D i) y.2) len λi hi=>by
   obtain⟨cs',h1,h2⟩:=hel i (by omega);rw[hc] at h1;obtain⟨_,hlen,hcell⟩:=World.cells?_some h1;obtain⟨e,x,he,hR,hZ⟩:=h n cs' _ h2 (hfe i (by omega));refine⟨(e,x),hR,λj u hu=>?_,hZ⟩;have hj:j<E.sz:=by
    rcases aB j e.cells.size with h | h
    ·rw[<-hlen,<-he];simpa using h
    ·rw[cV h] at hu;cases hu
   rw[hcell j hj,<-he];simpa using hu
  have hels:Els E (λ_=>True) W (ys.map (·.1)) (ys.map (·.2)):=by
   refine⟨by simp,λi e x he hx=>?_⟩;rw[aI] at he hx
   cases hy:ys[i]? with
   | none=>rw[hy] at he;cases he
   | some y=>rw[hy] at he hx;cases he;cases hx;exact (hys i y hy).1
  refine⟨.slice (some a) len cap,ys.map (·.2),rfl,⟨ys.map (·.1),hels,some a,cap,by simp[hyl],by simp[hyl];exact hl,by simp[hyl];simp only[maxLen] at hcap;omega,by rw[B7 _ hels.sz];simp,λ_=>⟨a,rfl,trivial,λj u hu=>?_⟩⟩,.inr ⟨_,_,rfl,by simp[hyl],λi d' x hd hx=>?_⟩⟩
  ·have hjl:j<len*E.sz:=by
    rcases aB j (len*E.sz) with h | h
    ·exact h
    ·rw[aH (by rw[B7 _ hels.sz];simpa[hyl] using h)] at hu;cases hu
   have hq:j / E.sz<len:=(bD hsz).2 hjl;have hr:j % E.sz<E.sz:=aX _ hsz;have hjd:(j / E.sz)*E.sz+j % E.sz=j:=by rw[aT];exact bE j E.sz
   obtain⟨y,hy⟩:∃ y,ys[j / E.sz]?=some y:=⟨_,aE (by rw[hyl];exact hq)⟩;have hg:=C2 (ys.map (·.1)) (j / E.sz) (j % E.sz) y.1 hels.sz (by rw[aI,hy];rfl) hr;rw[hjd,hu] at hg;have:=(hys _ y hy).2.1 (j % E.sz) u hg.symm;rw[S8,hjd] at this;exact⟨this,hfr j hjl⟩
  ·rw[aI] at hx
   cases hy:ys[i]? with
   | none=>rw[hy] at hx;cases hx
   | some y =>
    rw[hy] at hx;cases hx;have hi:i<len:=by
     rcases aB i ys.length with h | h
     ·omega
     ·rw[aH h] at hy;cases hy
    rw[aI,bA hi] at hd
    cases hd;exact (hys i y hy).2.2
theorem Opn.mono {α:Type} {E:ER α} {t:TypeId} {Z Z':DataW H->α->Prop} (h:Opn enc P W E t Z) (hz:∀ d a,Z d a->Z' d a):Opn enc P W E t Z':=λfuel cs x hx hfz=>by
 obtain⟨e,a,h1,h2,h3⟩:=h fuel cs x hx hfz
 exact⟨e,a,h1,h2,hz _ _ h3⟩
theorem Ad3 {k:IntKind} {n:Int} (h:(Lit.int k n).wf=true):k.min<=n/\n<=k.max:=by simpa[Lit.wf] using h
theorem opn_int {t:TypeId} {k:IntKind} (ht:P.underlying t=some (.int k)):Opn enc P W (eInt k) t (λ_ _=>True):=by intro fuel cs x hx hfz;obtain⟨n,rfl,rfl,hw⟩:=DataW.trod_int ht hx;exact⟨.int k n,n,rfl,⟨rfl,Ad3 hw⟩,trivial⟩
theorem opn_u32 {t:TypeId} (ht:P.underlying t=some (.int .u32)):Opn enc P W eU32 t (λ_ _=>True):=by intro fuel cs x hx hfz;obtain⟨n,rfl,rfl,hw⟩:=DataW.trod_int ht hx;have:=Ad3 hw;simp[IntKind.min,IntKind.max,IntKind.signed,IntKind.bits] at this;exact⟨.int .u32 n,n.toNat,rfl,⟨by rw[Int.toNat_of_nonneg this.1],by omega⟩,trivial⟩
def sh2 (P:Program) (t:TypeId):Option ((TypeId×Nat)×(TypeId×Nat)) :=
 match P.underlying t with
 | some (.struct fs)=>match fs.toList with
  | [f0,f1]=>some ((f0.type,f0.offset),(f1.type,f1.offset))
  | _=>none
 | _=>none
theorem Al2 {t t0 t1:TypeId} {o0 o1 fuel:Nat} {cs:List Value} {x:DataW H×List MemPlace} (hs:sh2 P t=some ((t0,o0),(t1,o1))) (hx:DataW.trod enc P W 0 (λ_=>true) true fuel t cs=some x) :
  ∃ y0 y1 n,x=(.agg [y0.1,y1.1],y0.2++y1.2)/\cs.length=P.cellsOf t/\DataW.trod enc P W 0 (λ_=>true) true n t0 ((cs.drop o0).take (P.cellsOf t0))=some y0/\DataW.trod enc P W 0 (λ_=>true) true n t1 ((cs.drop o1).take (P.cellsOf t1))=some y1:=by
 unfold sh2 at hs;split at hs
 ·rename_i fs hu;split at hs
  ·rename_i f0 f1 hl;simp only[Option.some.injEq,Prod.mk.injEq] at hs;obtain⟨⟨rfl,rfl⟩,rfl,rfl⟩:=hs;have:fs=#[f0,f1]:=by apply Array.toList_inj.1;simpa using hl
   subst this;exact trod_struct2 hu hx
  ·cases hs
 ·cases hs
theorem opn_Z {t tb tw te:TypeId} (hs:sh2 P t=some ((tb,0),(tw,1))) (hb:P.underlying tb=some .bool) (hcb:P.cellsOf tb=1) (hcw:P.cellsOf tw=1) (hct:P.cellsOf t=2) (hw:P.underlying tw=some (.slice te)) (hce:P.cellsOf te=1) (he:P.underlying te=some (.int .u32)):Opn enc P W eZ t (λ_ _=>True):=by
 intro fuel cs x hx hfz;obtain⟨y0,y1,n,rfl,hl,h0,h1⟩:=Al2 hs hx;rw[hcb] at h0;rw[hcw] at h1;rw[hct] at hl;obtain⟨c0,c1,rfl⟩:∃ c0 c1,cs=[c0,c1]:=by
  match cs,hl with
  | [c0,c1],_=>exact⟨c0,c1,rfl⟩
 obtain⟨b,hb',_⟩:=DataW.trod_bool hb h0;simp at hb';subst hb';obtain⟨e,l,he',hR,_⟩:=(Opn.slice (Z:=λ_ _=>True) (E:=eU32) (by decide) hw hce (opn_u32 he)) n _ _ h1 (hfz.right);obtain⟨a,c,rfl,_⟩:=RL.len hR;simp[Value.cells] at he';subst he';exact⟨.agg #[.bool b,.slice a l.length c],⟨b,l⟩,rfl,⟨_,rfl,hR⟩,trivial⟩
theorem opn_Q {t tz:TypeId} (hs:sh2 P t=some ((tz,0),(tz,2))) (hcz:P.cellsOf tz=2) (hct:P.cellsOf t=4) (hz:Opn enc P W eZ tz (λ_ _=>True)):Opn enc P W eQ t (λ_ _=>True):=by
 intro fuel cs x hx hfz;obtain⟨y0,y1,n,rfl,hl,h0,h1⟩:=Al2 hs hx;rw[hcz] at h0 h1;rw[hct] at hl;obtain⟨c0,c1,c2,c3,rfl⟩:∃ c0 c1 c2 c3,cs=[c0,c1,c2,c3]:=by
  match cs,hl with
  | [c0,c1,c2,c3],_=>exact⟨c0,c1,c2,c3,rfl⟩
 obtain⟨e,z,he,⟨s,rfl,hs⟩,_⟩:=hz n _ _ h0 hfz.left;obtain⟨e',z',he',⟨s',rfl,hs'⟩,_⟩:=hz n _ _ h1 hfz.right;simp[Value.cells] at he he';obtain⟨rfl,rfl⟩:=he;obtain⟨rfl,rfl⟩:=he';exact⟨_,⟨z,z'⟩,rfl,⟨s,s',rfl,hs,hs'⟩,trivial⟩
theorem Opn.arg {α:Type} {E:ER α} {hsz:0<E.sz} {t e:TypeId} {Z:DataW H->List α->Prop} {r:Reach} {b0:Nat} {v:Value} {d:DataW H} {ps:List MemPlace} (ht:P.underlying t=some (.slice e)) (h:Opn enc P W (RL E hsz) t Z)
  (hval:Value.okWide P W r b0 t v) (hd:DataW.Trod enc P W 0 (λ_=>true) true t v d ps) (hfz:W.noneFrozen ps):∃ l,(RL E hsz).R (λ_=>True) W v l/\Z d l:=by
 obtain⟨a,n,c,rfl⟩:=okWide_slice ht hval;obtain⟨fuel,hf⟩:=hd;obtain⟨e',l,h1,h2,h3⟩:=h fuel _ _ hf hfz;obtain⟨a',c',rfl,_⟩:=RL.len h2;simp[Value.cells] at h1;obtain⟨rfl,rfl,rfl⟩:=h1;exact⟨l,h2,h3⟩
end
theorem follows:prog.follows .mixedOrders=true:=by kernel_rfl
theorem B4:tyOf prog 4=some (false,1):=by kernel_rfl
theorem Z7:prog.underlying 4=some .bool:=by kernel_rfl
theorem AB4:prog.underlying 3=some (.int .i64):=by kernel_rfl
theorem Al0:prog.underlying 2=some (.int .i64):=by kernel_rfl
theorem D9:prog.underlying 149=some (.int .u64):=by kernel_rfl
theorem D7:prog.underlying 108=some (.int .u32):=by kernel_rfl
theorem BQ5:prog.underlying 131=some (.int .u64):=by kernel_rfl
theorem A2:tyOf prog 3=some (false,1):=by kernel_rfl
theorem Q0:tyOf prog 2=some (false,1):=by kernel_rfl
theorem Bb8:tyOf prog 149=some (false,1):=by kernel_rfl
theorem A8:tyOf prog 108=some (false,1):=by kernel_rfl
theorem I1:infoOf prog 108=some (.int .u32 0,1,4):=by kernel_rfl
theorem un_W:prog.underlying 35=some (.slice 108):=by kernel_rfl
theorem ty_W:tyOf prog 35=some (false,1):=by kernel_rfl
theorem Ba7:zeroOf prog 35=some (.slice none 0 0):=by kernel_rfl
theorem ty_Z:tyOf prog 37=some (true,2):=by kernel_rfl
theorem C6:zeroOf prog 37=some (.agg #[.bool false,.slice none 0 0]):=by kernel_rfl
theorem F5:fldOf prog 37 0=some 0:=by kernel_rfl
theorem E0:fldOf prog 37 1=some 1:=by kernel_rfl
theorem ty_Q:tyOf prog 39=some (true,4):=by kernel_rfl
theorem C1:zeroOf prog 39=some (.agg #[.bool false,.slice none 0 0,.bool false,.slice none 0 0]):=by kernel_rfl
theorem G2:infoOf prog 39=some (.agg #[.bool false,.slice none 0 0,.bool false,.slice none 0 0],4,64):=by kernel_rfl
theorem P5:fldOf prog 39 0=some 0:=by kernel_rfl
theorem P4:fldOf prog 39 1=some 2:=by kernel_rfl
theorem un_V:prog.underlying 26=some (.slice 39):=by kernel_rfl
theorem ty_V:tyOf prog 26=some (false,1):=by kernel_rfl
theorem Ax6:zeroOf prog 26=some (.slice none 0 0):=by kernel_rfl
theorem AB8:infoOf prog 26=some (.slice none 0 0,1,24):=by kernel_rfl
theorem un_M:prog.underlying 70=some (.slice 26):=by kernel_rfl
theorem ty_M:tyOf prog 70=some (false,1):=by kernel_rfl
theorem Ba9:zeroOf prog 70=some (.slice none 0 0):=by kernel_rfl
theorem BO7:bldOf prog 37 []=some #[.bool false,.slice none 0 0]:=by kernel_rfl
theorem AU9{b:Bool}{a:Option Addr}{c:Nat}:bldOf prog 37 [(0,.bool b),(1,.slice a n c)]=some #[.bool b,.slice a n c]:=by kernel_rfl
theorem S7:bldOf prog 39 []=some #[.bool false,.slice none 0 0,.bool false,.slice none 0 0]:=by kernel_rfl
theorem BB4{x:Value}:bldOf prog 39 [(0,.agg #[x,y])]=some #[x,y,.bool false,.slice none 0 0]:=by kernel_rfl
theorem Ac2{x x' y':Value}:bldOf prog 39 [(0,.agg #[x,y]),(1,.agg #[x',y'])]=some #[x,y,x',y']:=by kernel_rfl
theorem Bj0:bslOf prog 35 0 []=some (108,#[]):=by kernel_rfl
theorem AJ8{x:Int}:bslOf prog 35 1 [(0,.int .u32 x)]=some (108,#[.int .u32 x]):=by kernel_rfl
theorem Bi9{x y:Int}:bslOf prog 35 2 [(0,.int .u32 x),(1,.int .u32 y)]=some (108,#[.int .u32 x,.int .u32 y]):=by kernel_rfl
theorem D6:Ent prog 94:=en func94
theorem D0{w:World}{v:Value}{l:List Nat}(h:eW.R S w v l):CR prog 94 #[v] w (eW.at S (trimL l)):=by
 refine enter func94 O ntmps94 O ?_;refine .seq ?_;refine .region ?_;refine .an O O (.seq ?_);refine .block ?_;refine .loop (α:=Value×List Nat) (λx=>[(0,x.1)]) (λx w'=>w'=w/\eW.R S w x.1 x.2/\trimL x.2=trimL l) (λx=>x.2.length) (v,l) ?_ ?_ ?_
 ·exact lkA rfl
 ·exact⟨rfl,h,rfl⟩
 ·rintro⟨u,r⟩ w' ⟨rfl,hu,hr⟩;replace hu:eW.R S w' u r:=hu;replace hr:trimL r=trimL l:=hr;have hlen:=AS8 hu;refine .seq ?_;refine .seq ?_;refine .region ?_;rcases List.eq_nil_or_concat r with rfl | ⟨r',x,rfl⟩
  ·refine .mv O O (.lenR un_W O O hu (.gtrF O O O (by simp) (.mv O O (.gs O O O O O (.gs O O O O O (.gs O O O O O (.gs O O O O O (.gs O O O O O (.gs O O O O O (.gs O O O O O (.pick O O O (.nil (.condF O (.exit (.sr (.mv O O (.an O O (.ret ?_))))))))))))))))));exact .p1 u results94 O ⟨.refl _,hr▸hu⟩
  ·have hl:(r'++[x]).length=r'.length+1:=by simp
   rw[List.concat_eq_append] at *;rw[hl] at hlen;have h1:IntKind.i64.wrap (((r'++[x]).length:Nat)-1:Int)=(r'.length:Int):=by rw[wI (by omega)];omega
   refine .mv O O (.lenR un_W O O hu (.gtrT O O O (by omega) (.mv O O ?_)));refine .gr O O O O (.mv O O (.gr O O O O (.mv O O (.gr O O O O (.lenR un_W O O hu (.gr O O O O (.sub O O O (.gr O O O O ?_))))))));refine .ix un_W A8 O O hu O (by omega) (y:=x) (by rw[h1];simp) λp hp=>?_;refine .gr O O O O ?_;refine .ldE A8 O O hp λe he=>?_;obtain⟨rfl,hx⟩:=he;refine .gr O O O O ?_;by_cases h0:x=0
   ·refine .eqlT O O O (by omega) (.pick O O O (.nil ?_));refine .condT O (.skip (.block (.region ?_)));refine .mv O O (.mv O O (.lenR un_W O O hu (.sub O O O ?_)));refine .cut 0 r'.length un_W A8 O O hu O ⟨_,by rw[<-h1];rfl⟩ (by omega) (by omega) λv2 hv2=>?_;refine .an O O ?_;refine⟨rfl,(v2,r'),lkA rfl,⟨rfl,by simpa using hv2,?_⟩,by simp⟩;rw[<-hr,h0,AL8]
   ·refine .eqlF O O O (by omega) (.pick O O O (.nil (.condF O (.exit (.sr (.mv O O (.an O O (.ret ?_))))))));exact .plain [u] results94 ⟨rfl,trivial⟩ ⟨.refl _,by rw[<-hr,AT1 _ _ h0];exact hu⟩
theorem I6:Ent prog 107:=en func107
theorem I3{w:World}{v:Value}{l:List Nat}{neg:Bool}(up:Up S w)(h:eW.R S w v l):CR prog 107 #[.bool neg,v] w (eZ.at S (zc (sg neg (val l)))):=by
 have hd:dig l:=G3 h;refine enter func107 O ntmps107 O ?_;refine .sr ?_;refine .alloc O C6 λw1 b1 n1=>.nil ?_;obtain⟨e1,k1,hb1,hs1⟩:=n1;have h1:=(h.par w1.heap.size).ext e1;refine .sr ?_;refine .mv O O ?_;refine .call _ O D6 O (D0 h1) λv2 w2 e2 h2=>.an O O ?_;have k2:=k1.ext e2;have hx:Ext w w2:=e1.trans e2;have hS:¬ Sx S w.heap.size w1.heap.size b1:=Sx.no (by omega) (by omega);refine .seq (.sr ?_);by_cases h0:trimL l=[]
 ·rw[h0] at h2;refine .mv O O (.lenR un_W O O h2 (.eqlT O O O O (.nil (.condT O (.sr ?_)))));have hz:eZ.R (Sx S w.heap.size w1.heap.size) w2 (.agg #[.bool false,.slice none 0 0]) ⟨false,[]⟩:=⟨_,rfl,RL.nil⟩;refine .bld _ O O BO7 ?_;refine .storeA ty_Z O O k2 O O hz hS λw3 k3 u3 h3=>.nil (.ret ?_);refine .cell results107 O ty_Z O O k3 h3 ⟨u3.below hx (by omega),?_⟩;rw[(AC8 hd).1 h0,AS5];exact h3.out
 ·refine .mv O O (.lenR un_W O O h2 (.eqlF O O O (by simpa using h0) (.nil (.condF O (.skip (.sr ?_))))));have hz:eZ.R (Sx S w.heap.size w1.heap.size) w2 (.agg #[.bool neg,v2]) ⟨neg,trimL l⟩:=⟨_,rfl,h2⟩;obtain⟨a,c,rfl,_⟩:=RL.len h2;refine .mv O O (.mv O O (.bld _ O O AU9 ?_));refine .storeA ty_Z O O k2 O O hz hS λw3 k3 u3 h3=>.nil (.ret ?_);refine .cell results107 O ty_Z O O k3 h3 ⟨u3.below hx (by omega),?_⟩;rw[BP9 neg (λh=>h0 ((AC8 hd).2 h)),<-H5 hd];exact h3.out
theorem M6:Ent prog 109:=en func109
theorem M4{w:World}{neg:Bool}(up:Up S w)(hn:n<18446744073709551616):CR prog 109 #[.bool neg,.int .u64 n] w (eZ.at S (zc (sg neg n))):=by
 refine enter func109 O ntmps109 O ?_;refine .sr ?_;refine .alloc O C6 λw1 b1 n1=>.nil ?_;obtain⟨e1,k1,hb1,hs1⟩:=n1;have hS:¬ Sx S w.heap.size w1.heap.size b1:=Sx.no (by omega) (by omega);refine .seq (.block (.sr ?_));by_cases h0:n=0
 ·subst h0;refine .mv O O (.eqlT O O O O (.an O O (.condT O (.sr ?_))));have hz:eZ.R (Sx S w.heap.size w1.heap.size) w1 (.agg #[.bool false,.slice none 0 0]) ⟨false,[]⟩:=⟨_,rfl,RL.nil⟩;refine .bld _ O O BO7 ?_;refine .storeA ty_Z O O k1 O O hz hS λw3 k3 u3 h3=>.nil (.ret ?_);refine .cell results109 O ty_Z O O k3 h3 ⟨u3.below e1 (by omega),?_⟩;rw[AS5];exact h3.out
 ·refine .mv O O (.eqlF O O O (by omega) (.an O O (.condF O (.sr ?_))));by_cases h1:n<4294967296
  ·refine .mv O O (.shr O O O (by decide) (.eqlT O O O (by rw[fdiv32];omega) (.an O O (.condT O (.sr ?_)))));refine .mv O O (.mv O O (.cvt D9 D7 O O ?_));refine .bsl _ O O AJ8 λw2 b2 n2=>?_;obtain⟨e2,k2,hb2,hs2⟩:=n2;have hw:eW.R (Sx S w.heap.size w1.heap.size) w2 (.slice (some ⟨b2,0,none⟩) 1 1) [n] :=
    An9 (l:=[n]) (t:=108) (by rw[L6,bJ h1] at k2;exact k2) ⟨up _ (by omega),.inr (by omega)⟩ (by simp[dig,h1]) (aA 1) (by simp)
   have hz:eZ.R (Sx S w.heap.size w1.heap.size) w2 (.agg #[.bool neg,.slice (some ⟨b2,0,none⟩) 1 1]) ⟨neg,[n]⟩:=⟨_,rfl,hw⟩;refine .bld _ O O AU9 ?_;refine .storeA ty_Z O O (k1.ext e2) O O hz hS λw3 k3 u3 h3=>.nil (.ret ?_);refine .cell results109 O ty_Z O O k3 h3 ⟨u3.below (e1.trans e2) (by omega),?_⟩;rw[BP9 neg h0,Aa9 h1 h0];exact h3.out
  ·refine .mv O O (.shr O O O (by decide) (.eqlF O O O (by rw[fdiv32];omega) (.an O O (.condF O (.skip (.sr ?_))))));refine .mv O O (.mv O O (.cvt D9 D7 O O (.mv O O (.shr O O O (by decide) (.cvt D9 D7 O O ?_)))));refine .bsl _ O O Bi9 λw2 b2 n2=>?_;obtain⟨e2,k2,hb2,hs2⟩:=n2;have hw:eW.R (Sx S w.heap.size w1.heap.size) w2 (.slice (some ⟨b2,0,none⟩) 2 2) [n % 4294967296,n / 4294967296] :=
    An9 (l:=[n % 4294967296,n / 4294967296]) (t:=108) (by rw[fdiv32,L6,L6,bJ (show n / 4294967296<4294967296 by omega)] at k2;exact k2) ⟨up _ (by omega),.inr (by omega)⟩
     (by simp[dig];omega) (aA 2) (by simp)
   have hz:eZ.R (Sx S w.heap.size w1.heap.size) w2 (.agg #[.bool neg,.slice (some ⟨b2,0,none⟩) 2 2]) ⟨neg,[n % 4294967296,n / 4294967296]⟩:=⟨_,rfl,hw⟩;refine .bld _ O O AU9 ?_;refine .storeA ty_Z O O (k1.ext e2) O O hz hS λw3 k3 u3 h3=>.nil (.ret ?_);refine .cell results109 O ty_Z O O k3 h3 ⟨u3.below (e1.trans e2) (by omega),?_⟩;rw[BP9 neg h0,wds_two hn (by omega)];exact h3.out
theorem E4:Ent prog 64:=en func64
theorem E3{w:World}{n:Int}(up:Up S w)(h1 : -9223372036854775808<=n)(h2:n<=9223372036854775807):CR prog 64 #[iW n] w (eZ.at S (zc n)):=by
 refine enter func64 O ntmps64 O ?_;refine .sr ?_;refine .alloc O C6 λw1 b1 n1=>.nil ?_;obtain⟨e1,k1,hb1,hs1⟩:=n1;have hS:¬ Sx S w.heap.size w1.heap.size b1:=Sx.no (by omega) (by omega);have up1:Up (Sx S w.heap.size w1.heap.size) w1:=Sx.up up (aA _) e1.size;refine .sr ?_;refine .mv O O (.cvt Al0 D9 O O (.an O O ?_));refine .seq (.sr ?_);by_cases h0:n<0
 ·refine .mv O O (.lssT O O O h0 (.nil (.condT O (.region ?_))));have hneg:IntKind.u64.wrap (0-IntKind.u64.wrap n)=((n.natAbs:Nat):Int):=by rw[IntKind.wrap_u64,IntKind.wrap_u64];omega
  refine .mv O O (.neg O O (.an O O (.sr ?_)));rw[hneg];refine .mv O O (.lssT O O O h0 (.mv O O ?_));refine .call _ O M6 O (M4 up1 (by omega)) λv2 w2 e2 h2=>?_;refine .storeA ty_Z O O (k1.ext e2) O O h2 hS λw3 k3 u3 h3=>.nil (.ret ?_);refine .cell results64 O ty_Z O O k3 h3 ⟨u3.below (e1.trans e2) (by omega),?_⟩;rw[show n=sg true n.natAbs by simp[sg];omega];exact h3.out
 ·refine .mv O O (.lssF O O O h0 (.nil (.condF O (.skip (.sr ?_)))));have hneg:IntKind.u64.wrap n=((n.natAbs:Nat):Int):=by rw[IntKind.wrap_u64];omega
  rw[hneg];refine .mv O O (.lssF O O O h0 (.mv O O ?_));refine .call _ O M6 O (M4 up1 (by omega)) λv2 w2 e2 h2=>?_;refine .storeA ty_Z O O (k1.ext e2) O O h2 hS λw3 k3 u3 h3=>.nil (.ret ?_);refine .cell results64 O ty_Z O O k3 h3 ⟨u3.below (e1.trans e2) (by omega),?_⟩;rw[show n=sg false n.natAbs by simp[sg];omega];exact h3.out
theorem O1:Ent prog 153:=en func153
theorem N2{w:World}{v:Value}{l:List Nat}(h:eW.R S w v l)(hl:l.length<=2):CR prog 153 #[v] w (Is (.int .u64 (val l))):=by
 have hd:dig l:=G3 h;refine enter func153 O ntmps153 O ?_;refine .sr (.an O O ?_);refine .seq (.sr (.mv O O (.lenR un_W O O h (.nil ?_))));refine .block (.sr ?_);match l,h,hl,hd with
 | [],h,_,_ =>
  refine .eqlT O O O O (.an O O (.condT O (.sr (.an O O (.ret ?_)))));exact .p1 _ results153 O ⟨.refl _,rfl⟩
 | [x],h,_,hd =>
  have hx:x<4294967296:=hd x (by simp);refine .eqlF O O O (by simp) (.an O O (.condF O (.sr ?_)));refine .eqlT O O O O (.an O O (.condT O (.sr (.mv O O ?_))));refine .ix un_W A8 O O h O (by decide) (y:=x) O λp hp=>?_;refine .ldE A8 O O hp λe he=>?_;obtain⟨rfl,_⟩:=he;refine .cvt D7 D9 O O (.an O O (.ret ?_));refine .plain [_] results153 ⟨rfl,trivial⟩ ⟨.refl _,?_⟩;show Value.int .u64 _=_;rw[wU (by omega)];simp[val]
 | [x,y],h,_,hd =>
  have hx:x<4294967296:=hd x (by simp);have hy:y<4294967296:=hd y (by simp);refine .eqlF O O O (by simp) (.an O O (.condF O (.sr ?_)));refine .eqlF O O O (by simp) (.an O O (.condF O (.skip (.seq ?_))));refine .par follows 10 [.inl _,.inr (Ptr eU32 S x),.inl (.int .u32 x),.inl _,.inl _,.inr (Ptr eU32 S y),.inl (.int .u32 y),.inl _,.inl _,.inl _] [[],[(13,0)],[(14,1)],[(15,2)],[],[(17,4)],[(18,5)],[(19,6)],[(20,7)],[(16,3),(21,8)]] (by kernel_rfl) ⟨mvo O,λw e=>Aw2 un_W A8 O (h.ext e) O (by decide) rfl,λw e x1 hx1=>S2 A8 O hx1,λw e=>(AD0 D7 D9 O).ob,mvo O,λw e=>Aw2 un_W A8 O (h.ext e) O (by decide) rfl,λw e x1 hx1=>S2 A8 O hx1,λw e=>(AD0 D7 D9 O).ob,λw e=>(BQ0 O O (by decide)).ob,λw e=>(v_or O O).ob,trivial⟩ ?_;intro w1 e1 x1 hx1 x5 hx5;refine .an O O (.ret ?_);refine .plain [_] results153 ⟨rfl,trivial⟩ ⟨e1,?_⟩;show Value.int .u64 _=_;rw[wU (n:=(x:Int)) (by omega),wU (n:=(y:Int)) (by omega),shl32 y hy,BM6 x _ (by omega) (by omega),or32 x y hx];simp[val]
theorem Y6:Ent prog 162:=en func162
theorem V7{w:World}{va vb:Value}(ha:eW.R S w va (wds m))(hb:eW.R S w vb (wds n)):CR prog 162 #[va,vb] w (Is (iW (cmpN m n))):=by
 have hla:=AS8 ha;refine enter func162 O ntmps162 O (.sr (.an O O (.seq (.sr (.mv O O (.lenR un_W O O ha (.mv O O (.lenR un_W O O hb ?_))))))));by_cases hne:(wds m).length=(wds n).length
 ·refine .neqF O O O (by omega) (.nil (.condF O (.skip (.seq (.sr (.mv O O (.lenR un_W O O ha (.sub O O O (.an O O ?_)))))))));rw[wI (by omega)];refine .block (.loop (α:=Nat) (λk=>[(0,va),(1,vb),(5,iW ((k:Int)-1))]) (λk w'=>Ext w w'/\k<=(wds m).length/\(wds m).drop k=(wds n).drop k) (λk=>k) (wds m).length ?_ ?_ ?_)
  ·exact lkA rfl
  ·exact⟨.refl _,aA _,by rw[dS (aA _),dS (by omega)]⟩
  ·rintro k w' ⟨x,hk,hd⟩
   cases k with
   | zero =>
    refine .seq (.sr (.mv O O (.geqF O O O (by omega) (.nil (.condF O (.exit (.sr (.an O O (.ret (.plain [_] results162 ⟨rfl,trivial⟩ ⟨x,?_⟩))))))))));have e:m=n:=wds_inj (by simpa using hd);exact isI (by simp[cmpN,e])
   | succ j =>
    have hj:(((j+1:Nat):Int)-1)=(j:Int):=by omega
    refine .weak [(0,va),(1,vb),(5,iW (j:Int))] (A7 O (A7 O (A7 (by rw[<-hj];rfl) AN1))) ?_;obtain⟨p,hp⟩:∃ p,(wds m)[j]?=some p:=⟨_,aE (by omega)⟩;obtain⟨q,hq⟩:∃ q,(wds n)[j]?=some q:=⟨_,aE (by omega)⟩;refine .seq (.sr (.mv O O (.geqT O O O (by omega) (.nil (.condT O (.skip (.seq (.block (.seq ?_)))))))));refine .par follows 9 [.inl _,.inl _,.inr (Ptr eU32 S p),.inl (.int .u32 p),.inl _,.inl _,.inr (Ptr eU32 S q),.inl (.int .u32 q),.inl _] [[],[],[(23,0),(24,1)],[(25,2)],[],[],[(27,4),(28,5)],[(29,6)],[(26,3),(30,7)]] (by kernel_rfl) ⟨mvo O,mvo O,λw e=>A9 un_W A8 O (ha.ext (x.trans e)) O hp,λw e x1 hx1=>S2 A8 O hx1,mvo O,mvo O,λw e=>A9 un_W A8 O (hb.ext (x.trans e)) O hq,λw e x1 hx1=>S2 A8 O hx1,λw e=>(Bb4 O O).ob,trivial⟩ ?_;intro w1 e1 x1 hx1 x5 hx5;refine .nil ?_;have x1:=x.trans e1;by_cases hpq:p=q
    ·subst hpq;refine .cond O (λhc=>absurd hc (by simp)) (λhc=>.skip ?_);refine .region (.mv O O (.sub O O O (.an O O ?_)));rw[wI (by omega)];refine⟨rfl,j,lkA rfl,⟨x1,by omega,?_⟩,by omega⟩;have h1:j<(wds m).length:=by omega
     have h2:j<(wds n).length:=by omega
     rw[bY h1,bY h2,hd];rw[aE h1] at hp;rw[aE h2] at hq;rw[Option.some.inj hp,Option.some.inj hq]
    ·refine .cond O (λhc=>?_) (λhc=>absurd hc (by simp;omega));refine .seq (.seq ?_);refine .par follows 9 [.inl _,.inl _,.inr (Ptr eU32 S p),.inl (.int .u32 p),.inl _,.inl _,.inr (Ptr eU32 S q),.inl (.int .u32 q),.inl _] [[],[],[(32,0),(33,1)],[(34,2)],[],[],[(36,4),(37,5)],[(38,6)],[(35,3),(39,7)]] (by kernel_rfl) ⟨mvo O,mvo O,λw e=>A9 un_W A8 O (ha.ext (x1.trans e)) O hp,λw e x1 hx1=>S2 A8 O hx1,mvo O,mvo O,λw e=>A9 un_W A8 O (hb.ext (x1.trans e)) O hq,λw e x1 hx1=>S2 A8 O hx1,λw e=>(Ad4 O O).ob,trivial⟩ ?_;intro w2 e2 x1' hx1' x5' hx5';refine .nil ?_;have hxx:=x1.trans e2;by_cases hlt:p<q
     ·refine .cond O (λhc=>?_) (λhc=>absurd hc (by simp;omega));refine .sr (.an O O (.ret (.plain [_] results162 ⟨rfl,trivial⟩ ⟨hxx,?_⟩)));have:=Au8 (Aj6 m) hd hp hq hlt;rw[B9,B9] at this;exact isI (by simp[cmpN,this])
     ·refine .cond O (λhc=>absurd hc (by simp;omega)) (λhc=>.skip (.sr (.an O O (.ret (.plain [_] results162 ⟨rfl,trivial⟩ ⟨hxx,?_⟩)))));have:=Au8 (Aj6 n) hd.symm hq hp (by omega);rw[B9,B9] at this;have h':¬ m<n:=by omega
      exact isI (by simp[cmpN,this,h'])
 ·refine .neqT O O O (by omega) (.nil (.condT O (.seq (.sr (.mv O O (.lenR un_W O O ha (.mv O O (.lenR un_W O O hb ?_))))))));by_cases hlt:(wds m).length<(wds n).length
  ·refine .lssT O O O (by omega) (.nil (.condT O (.sr (.an O O (.ret (.plain [_] results162 ⟨rfl,trivial⟩ ⟨.refl _,?_⟩))))));exact isI (by simp[cmpN,Ak3 hlt])
  ·refine .lssF O O O (by omega) (.nil (.condF O (.skip (.sr (.an O O (.ret (.plain [_] results162 ⟨rfl,trivial⟩ ⟨.refl _,?_⟩)))))));have:=Ak3 (m:=n) (n:=m) (by omega);have h':¬ m<n:=by omega
   exact isI (by simp[cmpN,this,h'])
theorem Aj8:Ent prog 108:=en func108
theorem BD2{w:World}{v:Value}{l:List Nat}(up:Up S w)(h:eW.R S w v l)(hl:l.length<=1099511627776):CR prog 108 #[v] w (eW.at S l):=by
 refine enter func108 O ntmps108 O (.sr (.an O O ?_));obtain⟨es,he,a,c,rfl,hc,hm,hlen,hcell⟩:=h;refine .seq (.sr (.mv O O (.eqNil un_W O O O (.nil ?_))))
 cases a with
 | none =>
  refine .condT O (.sr (.an O O (.ret ?_)));have:l=[]:=by
   cases l with
   | nil=>rfl
   | cons x l=>obtain⟨ad,h,_⟩:=hcell (by simp);cases h
  subst this;exact .p1 _ results108 O ⟨.refl _,RL.nil⟩
 | some ad =>
  refine .condF O (.skip (.sr (.bsl _ O O Bj0 λw1 b1 n1=>?_)));obtain⟨e1,k1,hb1,hs1⟩:=n1;have hcell1:∀ j u,(cellsOf es)[j]?=some u->w1.cell? (ad.add j)=some u:=by
   intro j u hu;rcases aU l.length with h0 | h0
   ·rw[h0,eK] at hlen;have:cellsOf es=[]:=List.length_eq_zero_iff.1 hlen;rw[this] at hu;simp at hu
   ·obtain⟨ad',h1,_,h2⟩:=hcell h0
    cases h1;have:=(h2 j u hu).1;have hlt:=AZ2 this;exact (AQ8 (p:=ad.add j) (e1.block _ hlt)).trans this
  have hown:w1.ownsRow w.heap.size 108 1 (.slice (some ⟨b1,0,none⟩) 0 0) 0 []:=⟨rfl,.inr ⟨b1,0,#[],rfl,by omega,k1,aA _,aC _,rfl,rfl⟩⟩;have hon:∀ u∈cellsOf es,one1 u=true:=by
   intro u hu;obtain⟨e',he',hu'⟩:=List.mem_flatMap.1 hu;obtain⟨i,hi⟩:=List.mem_iff_getElem?.1 he';have hi':i<es.length:=by
    rcases aB i es.length with h | h
    ·exact h
    ·rw[aH h] at hi;cases hi
   exact eU32.one (he.2 i e' _ hi (aE (by rw[<-he.1];exact hi'))) u hu'
  refine .mv O O (.gv O O (Af2 (cellsOf es) un_W I1 O (by decide) O O hown hlen hcell1 hon (by omega) (by omega) (by omega)) ?_);rintro v2 w2 ⟨ho,hg⟩;refine .an O O (.ret ?_);have hx:Ext w w2:=Below.grown e1 hg e1.size (λk hk=>by simp[Value.ownBlock] at hk;omega);simp only[gH,aD] at ho;exact .p1 _ results108 O ⟨hx,RL.ofOwn (E:=eU32) (es:=es) ho O ⟨he.1,he.2⟩ up⟩
theorem S9:Ent prog 52:=en func52
theorem Q8{w:World}{v:Value}{z:ZV}(h:eZ.R S w v z):CR prog 52 #[v] w (Is (iW (zval z).sign)):=by
 obtain⟨s,rfl,hs⟩:=h;have hd:dig z.w:=G3 hs;refine enter func52 O ntmps52 O (.sr (.box O O λw1 b1 n1=>.an O O ?_));obtain⟨e1,k1,hb1,hs1⟩:=n1;refine .seq (.block (.sr (.fa E0 O O (.ld ty_W O O k1 O (.call _ O D6 O (D0 (hs.ext e1)) λv2 w2 e2 h2=>?_)))));have k2:=k1.ext e2;have hx:=e1.trans e2;by_cases h0:val z.w=0
 ·rw[(AC8 hd).2 h0] at h2;refine .lenR un_W O O h2 (.eqlT O O O O (.an O O (.condT O (.sr (.an O O (.ret ?_))))));exact .plain [_] results52 ⟨rfl,trivial⟩ ⟨hx,isI (by unfold zval sg;rw[h0];simp)⟩
 ·have hne:trimL z.w≠[]:=λh=>h0 ((AC8 hd).1 h);refine .lenR un_W O O h2 (.eqlF O O O (by simpa using hne) (.an O O (.condF O (.sr (.fa F5 O O (.ld B4 O O k2 O (.an O O ?_)))))))
  cases hn:z.neg with
  | true =>
   refine .condT O (.sr (.an O O (.ret ?_)));exact .plain [_] results52 ⟨rfl,trivial⟩ ⟨hx,isI (by unfold zval sg;rw[hn];simp only[if_true];rw[cD (by omega)])⟩
  | false =>
   refine .condF O (.skip (.sr (.an O O (.ret ?_))));exact .plain [_] results52 ⟨rfl,trivial⟩ ⟨hx,isI (by unfold zval sg;rw[hn];simp only[fW,if_false];rw[cA (by omega)])⟩
def i64ok (n:Int):Bool:=decide (-9223372036854775808<=n/\n<=9223372036854775807)
def i64v (n:Int):Int:=if i64ok n then n else 0
theorem K7:Ent prog 103:=en func103
theorem K3{w:World}{v:Value}{z:ZV}(h:eZ.R S w v z):CR prog 103 #[v] w (Is (.tuple #[iW (i64v (zval z)),.bool (i64ok (zval z))])):=by
 obtain⟨s,rfl,hs⟩:=h;have hd:dig z.w:=G3 hs;have htr:=H5 hd;refine enter func103 O ntmps103 O (.sr (.box O O λw1 b1 n1=>.asg O O (.an O O ?_)));obtain⟨e1,k1,hb1,hs1⟩:=n1;refine .sr (.fa E0 O O (.ld ty_W O O k1 O (.call _ O D6 O (D0 (hs.ext e1)) λv2 w2 e2 h2=>.an O O ?_)));have k2:=k1.ext e2;have hx:=e1.trans e2;rw[htr] at h2;have hN:∀ (a:Int) (b:Bool) (w':World),i64v (zval z)=a->i64ok (zval z)=b->Is (.tuple #[iW (i64v (zval z)),.bool (i64ok (zval z))]) (tup [iW a,.bool b]) w':=by rintro a b w' rfl rfl;rfl
 refine .seq (.sr (.mv O O (.lenR un_W O O h2 ?_)));by_cases hl:(wds (val z.w)).length<=2
 ·have hlt:val z.w<18446744073709551616:=by have h1:=AL5 (val z.w);have h2:4294967296 ^ (wds (val z.w)).length<=4294967296 ^ 2:=aP (by omega) hl;omega
  refine .gtrF O O O (by omega) (.nil (.condF O (.skip (.sr (.mv O O (.call _ O O1 O (N2 h2 hl) λv3 w3 e3 h3=>?_))))));obtain rfl:=h3;rw[B9];have k3:=k2.ext e3;have hx3:=hx.trans e3;refine .an O O (.seq (.sr (.fa F5 O O (.ld B4 O O k3 O (.nil ?_)))))
  cases hn:z.neg with
  | true =>
   have hz:zval z = -(val z.w:Int):=by unfold zval sg;rw[hn];rfl
   refine .condT O (.seq (.sr (.mv O O ?_)));by_cases hb:val z.w<=9223372036854775808
   ·refine .gtrF O O O (by omega) (.nil (.condF O (.skip (.sr (.mv O O (.neg O O (.cvt D9 Al0 O O (.asg O O (.an O O (.ret ?_)))))))))) ;refine .plain [_,_] results103 ⟨rfl,rfl,trivial⟩ ⟨hx3,hN _ _ _ ?_ ?_⟩
    ·have:i64ok (zval z)=true:=by rw[hz];simp[i64ok];omega
     rw[i64v,this,if_pos rfl,hz,IntKind.wrap_u64,IntKind.wrap_i64];omega
    ·rw[hz];simp[i64ok];omega
   ·refine .gtrT O O O (by omega) (.nil (.condT O (.sr (.asg O O (.an O O (.ret ?_))))));have:i64ok (zval z)=false:=by rw[hz];simp[i64ok];omega
    exact .p2 results103 O O ⟨hx3,hN _ _ _ (by simp[i64v,this]) this⟩
  | false =>
   have hz:zval z=(val z.w:Int):=by unfold zval sg;rw[hn];rfl
   refine .condF O (.skip (.seq (.sr (.mv O O ?_))));by_cases hb:val z.w<9223372036854775808
   ·refine .geqF O O O (by omega) (.nil (.condF O (.skip (.sr (.mv O O (.cvt D9 Al0 O O (.asg O O (.an O O (.ret (.plain [_,_] results103 ⟨rfl,rfl,trivial⟩ ⟨hx3,hN _ _ _ ?_ ?_⟩))))))))))
    ·have:i64ok (zval z)=true:=by rw[hz];simp[i64ok];omega
     rw[i64v,this,if_pos rfl,hz,wI (by omega)]
    ·rw[hz];simp[i64ok];omega
   ·refine .geqT O O O (by omega) (.nil (.condT O (.sr (.asg O O (.an O O (.ret ?_))))));have:i64ok (zval z)=false:=by rw[hz];simp[i64ok];omega
    exact .p2 results103 O O ⟨hx3,hN _ _ _ (by simp[i64v,this]) this⟩
 ·have hge:18446744073709551616<=val z.w:=by
   rcases aB (val z.w) 18446744073709551616 with h | h
   ·exact absurd (AS7 (L:=2) h) hl
   ·exact h
  refine .gtrT O O O (by omega) (.nil (.condT O (.sr (.asg O O (.an O O (.ret ?_))))));have:i64ok (zval z)=false:=by unfold zval sg;split<;>(simp[i64ok];omega)
  exact .p2 results103 O O ⟨hx,hN _ _ _ (by simp[i64v,this]) this⟩
theorem Y7:Ent prog 69:=en func69
theorem V8{w:World}{v:Value}{z:ZV}(up:Up S w)(h:eZ.R S w v z)(hl:z.w.length<=1099511627776):CR prog 69 #[v] w (eZ.at S (zc (- zval z))):=by
 obtain⟨s,rfl,hs⟩:=h;refine enter func69 O ntmps69 O (.sr (.box O O λw1 b1 n1=>?_));obtain⟨e1,k1,hb1,hs1⟩:=n1;refine .alloc O C6 λw2 b2 n2=>.nil ?_;obtain⟨e2,k2,hb2,hs2⟩:=n2;have k1:=k1.ext e2;have hx:=e1.trans e2;have hp:=(hs.par w2.heap.size).ext hx;have upx:Up (Sx S w.heap.size w2.heap.size) w2:=Sx.up up (aA _) hx.size;refine .seq ?_;refine .par follows 8 [.inl _,.inl _,.inl _,.inl _,.inl _,.inr (eW.at (Sx S w.heap.size w2.heap.size) (trimL z.w)),.inr (eW.at (Sx S w.heap.size w2.heap.size) (trimL z.w)),.inr (eZ.at (Sx S w.heap.size w2.heap.size) (zc (sg (!z.neg) (val (trimL z.w)))))]
  [[],[(3,0)],[(4,1)],[],[(6,3)],[(7,4)],[(8,5)],[(5,2),(9,6)]] (by kernel_rfl) ⟨fao F5 O,λw e=>(v_ld B4 O (k1.ext e) O).ob,λw e=>(Au9 O).ob,fao E0 O,λw e=>(v_ld ty_W O (k1.ext e) O).ob,λw e=>(A1 _ D6 O (D0 (hp.ext e))).oa,λw e x5 hx5=>(A1 _ Aj8 O (BD2 (upx.ext e.size) hx5 (aG (AA1 _) hl))).oa,λw e x6 hx6=>(A1 _ I6 O (I3 (upx.ext e.size) hx6)).oa,trivial⟩ ?_
 intro w3 e3 x5 hx5 x6 hx6 x7 hx7;refine .storeA ty_Z O O (k2.ext e3) O O hx7 (Sx.no (by omega) (by omega)) λw4 k4 u4 h4=>.nil (.ret (.cell results69 O ty_Z O O k4 h4 ⟨u4.below (hx.trans e3) (by omega),?_⟩));have:zc (- zval z)=zc (sg (!z.neg) (val (trimL z.w))):=by rw[Au7];unfold zval sg;cases z.neg<;>simp
 rw[this];exact h4.out
theorem ty_F:tyOf prog 221=some (false,1):=by kernel_rfl
theorem Bb0:zeroOf prog 221=some .nilFunc:=by kernel_rfl
abbrev carV (b:Nat):Value:=.func (.func 244) #[] #[pW b]
abbrev cBlk (w:World) (b c:Nat):Prop:=Blk w b 149 #[.int .u64 c]
theorem J6:Ent prog 216:=en func216
theorem J5{w:World}{c:Nat}:CR prog 216 #[.int .u64 c] w (λv w'=>∃ b,v=carV b/\cBlk w' b c/\w.heap.size<=b):=by refine enter func216 O ntmps216 O (.sr (.box O O λw1 b1 n1=>.an O O ?_));obtain⟨e1,k1,hb1,hs1⟩:=n1;refine .sr (.mkf [] [_] O O O O (.an O O (.ret ?_)));exact .p1 _ results216 O ⟨e1,b1,rfl,k1,by omega⟩
theorem L0:Ent prog 244:=en func244
theorem K6{w:World}{c:Nat}(hb:cBlk w b c)(h:x+c<18446744073709551616) :
  Calls prog 244 (#[.int .u64 x]++#[pW b]) w λe w'=>∃ v,e=.returned v/\(v=wv ((x+c) % 4294967296)/\Upd w w' b/\cBlk w' b ((x+c) / 4294967296)):=by
 refine enterG func244 O ntmps244 O (.sr (.an O O (.sr (.mv O O (.ld Bb8 O O hb O (.add O O O (.an O O ?_)))))));rw[wU (by omega),<-dK];refine .sr (.mv O O (.shr O O O (by omega) ?_));rw[fdiv32];refine .store Bb8 O O hb O (by simp) (by simp[one1,Value.cells]) λw1 k1 u1=>.nil (.sr (.mv O O (.cvt D9 D7 O O (.an O O (.ret ?_)))));rw[L6];exact .p1 _ results244 O ⟨rfl,u1,k1⟩
theorem AS2:Ent prog 243:=en func243
theorem AR2{w:World}{va vb:Value}{n' c c':Nat}{a a':Option Addr}(ha:va=.slice a n c)(hb:vb=.slice a' n' c'):CR prog 243 #[va,vb] w (λv w'=>∃ b1 b2,v=.func (.func 265) #[] #[pW b1,pW b2] /\
  Blk w' b1 35 #[va]/\Blk w' b2 35 #[vb]/\w.heap.size<=b1/\w.heap.size<=b2):=by
 subst ha;subst hb;refine enter func243 O ntmps243 O (.sr (.box O O λw1 b1 n1=>?_));obtain⟨e1,k1,hb1,hs1⟩:=n1;refine .box O O λw2 b2 n2=>.an O O ?_;obtain⟨e2,k2,hb2,hs2⟩:=n2;refine .sr (.mkf [] [_,_] O O O O (.an O O (.ret ?_)));exact .p1 _ results243 O ⟨e1.trans e2,b1,b2,rfl,k1.ext e2,k2,by omega,by have:=e1.size;omega⟩
theorem BK2:Ent prog 265:=en func265
theorem BG1{a b:List Nat}{va vb:Value}{b1 b2:Nat}(hla:a.length<=9223372036854775806)(hlb:b.length<=9223372036854775806):Iter prog 265 #[pW b1,pW b2] (max a.length b.length)
  (λk=>[.int .u64 (a.getD k 0),.int .u64 (b.getD k 0)]) (λW=>Blk W b1 35 #[va]/\Blk W b2 35 #[vb]/\eW.R S W va a/\eW.R S W vb b):=by
 intro l J X stJ stX hF hy W hJ;have hF0:=hF 0 W hJ;refine enterG func265 O ntmps265 O (.sr (.ld ty_W O O hF0.1 O (.lenR un_W O O hF0.2.2.1 (.ld ty_W O O hF0.2.1 O (.lenR un_W O O hF0.2.2.2 (.max_ O O O (.mv O O (.nil (.block (.loop (α:=Nat) (λk=>[(12,iW (k:Nat)),(11,iW ((max a.length b.length:Nat):Int)),(0,.func (.yield l) #[] #[]),(1,pW b1),(2,pW b2)]) (λk W=>J k W/\k<=max a.length b.length) (λk=>max a.length b.length-k) 0 ?_ ?_ ?_))))))))))
 ·refine A7 O (A7 ?_ (lkA O));show some (Value.int .i64 (max (a.length:Int) (b.length:Int)))=_;rw[show (max (a.length:Int) (b.length:Int))=((max a.length b.length:Nat):Int) by omega]
 ·exact⟨hJ,aC _⟩
 ·rintro k W ⟨hJ,hk⟩;have hF:=hF k W hJ;by_cases hlt:k<max a.length b.length
  ·refine .sr (.lssT O O O (by omega) (.nil (.seq (.condT O (.skip (.seq (.block (.sr (.mv O O (.an O O (.sr (.asg O O (.an O O (.mid (α:=Unit) (λ_=>[(5,.int .u64 (a.getD k 0)),(6,.int .u64 0),(4,iW (k:Nat)),(12,iW (k:Nat)),(11,iW ((max a.length b.length:Nat):Int)),(0,.func (.yield l) #[] #[]),(1,pW b1),(2,pW b2)]) (λ_ W'=>W'=W) ?_ ?_))))))))))))))
   ·refine .sr (.mv O O (.ld ty_W O O hF.1 O (.lenR un_W O O hF.2.2.1 ?_)));by_cases hlt:k<a.length
    ·refine .lssT O O O (by omega) (.nil (.condT O (.region (.ld ty_W O O hF.1 O (.mv O O (.ixN un_W A8 O O hF.2.2.1 O (aE hlt) λp hp=>.ldE A8 O O hp λe he=>?_))))));obtain⟨rfl,hx⟩:=he;refine .cvt D7 D9 O O (.an O O ⟨rfl,(),?_,rfl⟩);rw[wU (by omega)];refine A7 ?_ (lkA O);rw[aF (l:=a),aE hlt];rfl
    ·refine .lssF O O O (by omega) (.nil (.condF O (.skip ⟨rfl,(),?_,rfl⟩)));refine A7 ?_ (lkA O);rw[aF (l:=a),aH (by omega:a.length<=k)];rfl
   ·rintro _ W' rfl;refine .mid (α:=Unit) (λ_=>[(5,.int .u64 (a.getD k 0)),(6,.int .u64 (b.getD k 0)),(12,iW (k:Nat)),(11,iW ((max a.length b.length:Nat):Int)),(0,.func (.yield l) #[] #[]),(1,pW b1),(2,pW b2)]) (λ_ W''=>W''=W') ?_ ?_
    ·refine .sr (.mv O O (.ld ty_W O O hF.2.1 O (.lenR un_W O O hF.2.2.2 ?_)));by_cases hlt:k<b.length
     ·refine .lssT O O O (by omega) (.nil (.condT O (.region (.ld ty_W O O hF.2.1 O (.mv O O (.ixN un_W A8 O O hF.2.2.2 O (aE hlt) λp hp=>.ldE A8 O O hp λe he=>?_))))));obtain⟨rfl,hx⟩:=he;refine .cvt D7 D9 O O (.an O O ⟨rfl,(),?_,rfl⟩);rw[wU (by omega)];refine A7 O (A7 ?_ (lkA O));rw[aF (l:=b),aE hlt];rfl
     ·refine .lssF O O O (by omega) (.nil (.condF O (.skip ⟨rfl,(),?_,rfl⟩)));refine A7 O (A7 ?_ (lkA O));rw[aF (l:=b),aH (by omega:b.length<=k)];rfl
    ·rintro _ W'' rfl;refine .sr (.mv O O (.mv O O (.mv O O (.yld (l:=l) [.int .u64 (a.getD k 0),.int .u64 (b.getD k 0)] (R:=λv w'=>(v=.bool true/\J (k+1) w')\/(v=.bool false/\X w')) O O O ?_ ?_))))
     ·refine YieldAt.mono (hy k _ hlt hJ) ?_;rintro e W' (⟨rfl,h⟩ | ⟨rfl,h⟩)
      ·exact⟨_,rfl,.inl ⟨rfl,h⟩⟩
      ·exact⟨_,rfl,.inr ⟨rfl,h⟩⟩
     ·rintro v w' (⟨rfl,h⟩ | ⟨rfl,h⟩)
      ·refine .not_ O O (.nil (.condF O (.skip (.region (.add O O O (.mv O O (.nil ?_)))))));rw[wI (by omega)];exact⟨rfl,k+1,lkA rfl,⟨h,by omega⟩,by omega⟩
      ·refine .not_ O O (.nil (.condT O (.ret ?_)));exact .plain [] results265 trivial (.inr h)
  ·refine .sr (.lssF O O O (by omega) (.nil (.seq (.condF O (.exit (.plain [] results265 trivial ?_))))));have:k=max a.length b.length:=by omega
   subst this;exact .inl hJ
structure AddJ (w0:World) (b5 b6 bx p1 p2:Nat) (va vb:Value) (Rel:Nat->List Nat->Nat->Prop) (k:Nat) (W:World):Prop where
 low:Below w0.heap.size w0 W
 f:Blk W b6 221 #[carV bx]
 k1:Blk W p1 35 #[va]
 k2:Blk W p2 35 #[vb]
 acc:∃ v r c,Blk W b5 35 #[v]/\OwnW 108 w0.heap.size W v r/\cBlk W bx c/\Rel k r c
theorem AddJ.sft{w0:World}{b5 b6 bx p1 p2:Nat}{va vb:Value}{Rel:Nat->List Nat->Nat->Prop}{k D:Nat}{W W':World}(h:AddJ w0 b5 b6 bx p1 p2 va vb Rel k W)(hs:Sft D W W')(hD:w0.heap.size<=D):AddJ w0 b5 b6 bx p1 p2 va vb Rel k W':=by obtain⟨v,r,c,h1,h2,h3,h4⟩:=h.acc;exact⟨h.low.trans (hs.below.mono hD),hs.cells.blk trivial h.f,hs.cells.blk trivial h.k1,hs.cells.blk trivial h.k2,v,r,c,hs.cells.blk trivial h1,h2.kp hs.cells,hs.cells.blk trivial h3,h4⟩
theorem AH8:Ent prog 213:=en func213
theorem AG3{w:World}{va vb:Value}{a b:List Nat}(up:Up S w)(ha:eW.R S w va a)(hb:eW.R S w vb b)(hla:a.length<=1099511627776)(hlb:b.length<=1099511627776) :
  CR prog 213 #[va,vb] w (Wv S (val a+val b) (max a.length b.length+1)):=by
 have hda:dig a:=G3 ha;have hdb:dig b:=G3 hb;obtain⟨aa,ca,hva,_⟩:=RL.len ha;obtain⟨ab,cb,hvb,_⟩:=RL.len hb;refine enter func213 O ntmps213 O ?_;refine .sr (.an O O ?_);refine .sr (.mv O O (.lenR un_W O O ha (.mv O O (.lenR un_W O O hb (.max_ O O O (.add O O O ?_))))));rw[show IntKind.i64.wrap (max (a.length:Int) (b.length:Int)+1)=((max a.length b.length+1:Nat):Int) by rw[wI (by omega)];omega];refine .make_ 0 _ un_W I1 O (by decide) O O O (aC _) (by omega) (by omega) λw1 b1 n1=>?_;have o1:OwnW 108 w.heap.size w1 _ []:=OwnW.made n1 (aA _) (by omega);obtain⟨e1,k1,hb1,hs1⟩:=n1;refine .alloc O Ba7 λw2 b5 n2=>?_;obtain⟨e2,k2,hb5,hs2⟩:=n2;have o2:=o1.ext e2;refine .store ty_W O O k2 O (by simp[Value.cells]) (by simp[one1,Value.cells]) λw3 k3 u3=>.nil ?_;have o3:=o2.upd u3 k2 (by decide);have x3:Ext w w3:=u3.below (e1.trans e2) (by omega);refine .sr ?_;refine .call [.int .u64 (0:Nat)] O J6 O J5 λv4 w4 e4 h4=>?_;obtain⟨bx,rfl,kx,hbx⟩:=h4;refine .alloc O Bb0 λw5 b6 n5=>?_;obtain⟨e5,k5,hb6,hs5⟩:=n5;have kx5:=kx.ext e5;refine .store ty_F O O k5 O (by simp[Value.cells]) (by simp[one1,Value.cells]) λw6 k6 u6=>.nil ?_;have hbx6:bx≠b6:=by have:=kx.lt;omega
 have s2:b5<w3.heap.size:=k3.lt;have s4:w3.heap.size<=w4.heap.size:=e4.size;have hb56:b5≠b6:=by omega
 have kx6:=kx5.upd u6 hbx6;have k56:=((k3.ext e4).ext e5).upd u6 hb56;have o6:=((o3.ext e4).ext e5).upd u6 k5 (by decide);have x6:Ext w w6:=u6.below ((x3.trans e4).trans e5) (by have:=x3.size;omega);refine .seq (.sr (.mv O O (.mv O O ?_)));refine .call _ O AS2 O (AR2 hva hvb) λv7 w7 e7 h7=>.nil ?_;obtain⟨p1,p2,rfl,kp1,kp2,hp1,hp2⟩:=h7;have x7:=x6.trans e7;have hlt5:b5<w6.heap.size:=k56.lt;have hlt6:b6<w6.heap.size:=k6.lt;have hlta:=(ER.lt _ ha);have hltb:=(ER.lt _ hb);have hS:∀ {W:World},Below w.heap.size w W->eW.R (λk=>S k/\k<w.heap.size) W va a/\eW.R (λk=>S k/\k<w.heap.size) W vb b:=λhB=>⟨eW.keep (λk c t f hk h=>(hB.block k hk.2).trans h) hlta,eW.keep (λk c t f hk h=>(hB.block k hk.2).trans h) hltb⟩;refine .block (.range (BG1 (S:=λk=>S k/\k<w.heap.size) (a:=a) (b:=b) (va:=va) (vb:=vb) (by omega) (by omega)) O BK2 (λk=>rfl) (by decide)
  (AddJ w b5 b6 bx p1 p2 va vb λk r c=>r.length=k/\c<=1/\val r+4294967296 ^ k*c=val (a.take k)+val (b.take k)) (λ_ _=>False) (λk W W' h hs=>h.sft hs x7.size) (λ_ _ _ h _=>h.elim) (λk W h=>⟨h.k1,h.k2,hS h.low⟩) ?_ ?_ ?_ (λ_ _ h=>h.elim))
 ·exact⟨x7,k6.ext e7,kp1,kp2,_,[],0,k56.ext e7,o6.ext e7,kx6.ext e7,rfl,by omega,by simp[val]⟩
 ·intro l k W hk hJ;refine .sr (.an O O (.region (.an O O ⟨rfl,rfl,λW hJ hsz=>?_⟩)));obtain⟨hlow,hf,hp1,hp2,v,r,c,h5,ho,hx,hr1,hr2,hr3⟩:=hJ;have hxa:=G4 hda k;have hxb:=G4 hdb k;refine .block (.held follows true (λW'=>Blk W' b5 35 #[v]/\Blk W' b6 221 #[carV bx])
   [some _,some _,some _,some _,some _,none,none,none,none] (by kernel_rfl) ⟨λ_ h=>v_ld ty_W O h.1 rfl,λ_ h=>v_ld ty_F O h.2 rfl,λ_ _=>v_mv rfl,λ_ _=>v_mv rfl,λ_ _=>BQ3 O rfl,trivial⟩ ?_)
  intro W1 e1 hh1;have h5:=h5.ext e1;have hf:=hf.ext e1;have ho:=ho.ext e1;have hx:=hx.ext e1;have hp1:=hp1.ext e1;have hp2:=hp2.ext e1;have hlow1:Below w.heap.size w W1:=hlow.trans (e1.mono hlow.size);rw[wU (by omega),<-dK];have hbxf:b6≠bx:=λh=>hbx6 h.symm;refine .gv ⟨h5,hf⟩ rfl (AN6 [_] O L0 O (K6 hx (by omega))) ?_;rintro _ W2 ⟨rfl,u2,hx2⟩;have hb5x:b5≠bx:=by omega
  have h5:=h5.upd u2 hb5x;have hf:=hf.upd u2 hbxf;have ho:=ho.upd u2 hx (by decide);have oth:Oth W W2:=(Oth.ext e1).trans (Oth.upd u2 hx);have hxp1:p1≠bx:=by have:=kx6.lt;omega
  have hxp2:p2≠bx:=by have:=kx6.lt;omega
  have hp1:=hp1.upd u2 hxp1;have hp2:=hp2.upd u2 hxp2;have hlow2:Below w.heap.size w W2:=u2.below hlow1 (by have:=x3.size;omega);refine .gv ⟨h5,hf⟩ rfl (AR9 _ O AJ8) ?_;rintro _ W3 ⟨b3,rfl,n3⟩;obtain⟨e3,k3,hb3,hs3⟩:=n3;have hlow3:Below w.heap.size w W3:=hlow2.trans (e3.mono hlow2.size);refine .gv ⟨h5.ext e3,hf.ext e3⟩ rfl (Ab8 (base:=w.heap.size) un_W I1 O O (ho.ext e3) k3 (by omega) (by omega) hlow3.size) ?_;rintro v4 W4 ⟨ho4,hg4⟩;have h54:=(ho.ext e3).gblk hg4 (h5.ext e3) (by decide);have hf4:=(ho.ext e3).gblk hg4 (hf.ext e3) (by decide);have hp14:=(ho.ext e3).gblk hg4 (hp1.ext e3) (by decide);have hp24:=(ho.ext e3).gblk hg4 (hp2.ext e3) (by decide);have hx4:=(ho.ext e3).gblk hg4 (hx2.ext e3) (by decide);have hlow4:=(ho.ext e3).below hg4 hlow3 hlow3.size;have oth4:=(oth.trans (Oth.ext e3)).trans ((ho.ext e3).oth hg4);have hv4:∃ a n c,v4=.slice a n c:=by rcases ho4.1.2 with ⟨rfl,_⟩ | ⟨g,cap,cur,rfl,_⟩<;>exact⟨_,_,_,rfl⟩
  obtain⟨a4,n4,c4,rfl⟩:=hv4;refine .gv ⟨h54,hf4⟩ rfl (N1 ty_W O O h54 O (by simp) (by simp[one1,Value.cells])) ?_;rintro _ W5 ⟨k5,u5⟩;refine .nil (.inl O) ?_;refine⟨oth4.trans (Oth.upd u5 h54),u5.below hlow4 (by have:=x3.size;omega),hf4.upd u5 (Ne.symm hb56),hp14.upd u5 (by omega),hp24.upd u5 (by omega),_,_,_,k5,ho4.upd u5 h54 (by decide),hx4.upd u5 (Ne.symm hb5x),by simp[hr1],by omega,?_⟩;rw[AG5,C3,C3,hr1];have hdm:=bE (a.getD k 0+b.getD k 0+c) 4294967296;generalize (a.getD k 0+b.getD k 0+c) / 4294967296=q at *;generalize (a.getD k 0+b.getD k 0+c) % 4294967296=m at *;have:4294967296 ^ k*m+4294967296 ^ (k+1)*q=4294967296 ^ k*(a.getD k 0+b.getD k 0+c):=by rw[<-hdm,aM];grind
  rw[aJ,aJ] at this;omega
 ·intro W hJ hD;obtain⟨hlow,hf,hp1,hp2,v,r,c,h5,ho,hx,hr1,hr2,hr3⟩:=hJ;rw[aK (by omega),aK (by omega)] at hr3;refine .seq (.held follows true (λW'=>Blk W' b5 35 #[v]/\Blk W' b6 221 #[carV bx])
   [some _,some _,none,none,none,none] (by kernel_rfl) ⟨λ_ h=>v_ld ty_W O h.1 rfl,λ_ h=>v_ld ty_F O h.2 rfl,trivial⟩ ?_)
  intro W1 e1 hh1;have h5:=h5.ext e1;have hf:=hf.ext e1;have ho:=ho.ext e1;have hx:=hx.ext e1;have hlow1:Below w.heap.size w W1:=hlow.trans (e1.mono hlow.size);have hD1:=(Oth.ext e1) _ _ hD rfl;refine .gv ⟨h5,hf⟩ rfl (AN6 [.int .u64 (0:Nat)] O L0 O (K6 hx (by omega))) ?_;rintro _ W2 ⟨rfl,u2,hx2⟩;have hb5x:b5≠bx:=by omega
  have h5:=h5.upd u2 hb5x;have hf:=hf.upd u2 (Ne.symm hbx6);have hD2:=(Oth.upd u2 hx) _ _ hD1 rfl;have ho:=ho.upd u2 hx (by decide);have hlow2:Below w.heap.size w W2:=u2.below hlow1 (by have:=x3.size;omega);refine .gv ⟨h5,hf⟩ rfl (AR9 _ O AJ8) ?_;rintro _ W3 ⟨b3,rfl,n3⟩;obtain⟨e3,k3,hb3,hs3⟩:=n3;have hlow3:Below w.heap.size w W3:=hlow2.trans (e3.mono hlow2.size);refine .gv ⟨h5.ext e3,hf.ext e3⟩ rfl (Ab8 (base:=w.heap.size) un_W I1 O O (ho.ext e3) k3 (by omega) (by omega) hlow3.size) ?_;rintro v4 W4 ⟨ho4,hg4⟩;have h54:=(ho.ext e3).gblk hg4 (h5.ext e3) (by decide);have hf4:=(ho.ext e3).gblk hg4 (hf.ext e3) (by decide);have hlow4:=(ho.ext e3).below hg4 hlow3 hlow3.size;have hD4:=((Oth.ext e3).trans ((ho.ext e3).oth hg4)) _ _ hD2 rfl;refine .gv ⟨h54,hf4⟩ rfl (v_as O).gv ?_;rintro _ _ ⟨rfl,rfl⟩;refine .nil (.inl O) (.ret ?_);refine .mark [_] results213 hD4 ⟨rfl,trivial⟩ ⟨Q5 hlow4 x7.size,_,(ho4.kp (Kp.put hD4 O)).toR up,?_,by simp;omega⟩;rw[AG5,hr1,<-hr3,aD,bJ (by omega)]
theorem U3:Ent prog 214:=en func214
theorem T4{w:World}{va vb:Value}{a b:List Nat}(up:Up S w)(ha:eW.R S w va a)(hb:eW.R S w vb b)(hla:a.length<=1099511627776)(hlb:b.length<=1099511627776)(hab:val b<=val a) :
  CR prog 214 #[va,vb] w (Wv S (val a-val b) (max a.length b.length)):=by
 have hda:dig a:=G3 ha;have hdb:dig b:=G3 hb;obtain⟨aa,ca,hva,_⟩:=RL.len ha;obtain⟨ab,cb,hvb,_⟩:=RL.len hb;refine enter func214 O ntmps214 O ?_;refine .sr (.an O O ?_);refine .sr (.mv O O (.lenR un_W O O ha ?_));refine .make_ 0 _ un_W I1 O (by decide) O O O (aC _) (by omega) (by omega) λw1 b1 n1=>?_;have o1:OwnW 108 w.heap.size w1 _ []:=OwnW.made n1 (aA _) (by omega);obtain⟨e1,k1,hb1,hs1⟩:=n1;refine .alloc O Ba7 λw2 b5 n2=>?_;obtain⟨e2,k2,hb5,hs2⟩:=n2;have o2:=o1.ext e2;refine .store ty_W O O k2 O (by simp[Value.cells]) (by simp[one1,Value.cells]) λw3 k3 u3=>.nil ?_;have o3:=o2.upd u3 k2 (by decide);have x3:Ext w w3:=u3.below (e1.trans e2) (by omega);refine .sr ?_;refine .call [.int .u64 (1:Nat)] O J6 O J5 λv4 w4 e4 h4=>?_;obtain⟨bx,rfl,kx,hbx⟩:=h4;refine .alloc O Bb0 λw5 b6 n5=>?_;obtain⟨e5,k5,hb6,hs5⟩:=n5;have kx5:=kx.ext e5;refine .store ty_F O O k5 O (by simp[Value.cells]) (by simp[one1,Value.cells]) λw6 k6 u6=>.nil ?_;have hbx6:bx≠b6:=by have:=kx.lt;omega
 have s2:b5<w3.heap.size:=k3.lt;have s4:w3.heap.size<=w4.heap.size:=e4.size;have hb56:b5≠b6:=by omega
 have kx6:=kx5.upd u6 hbx6;have k56:=((k3.ext e4).ext e5).upd u6 hb56;have o6:=((o3.ext e4).ext e5).upd u6 k5 (by decide);have x6:Ext w w6:=u6.below ((x3.trans e4).trans e5) (by have:=x3.size;omega);refine .seq (.sr (.mv O O (.mv O O ?_)));refine .call _ O AS2 O (AR2 hva hvb) λv7 w7 e7 h7=>.nil ?_;obtain⟨p1,p2,rfl,kp1,kp2,hp1,hp2⟩:=h7;have x7:=x6.trans e7;have hlt5:b5<w6.heap.size:=k56.lt;have hlt6:b6<w6.heap.size:=k6.lt;have hlta:=(ER.lt _ ha);have hltb:=(ER.lt _ hb);have hS:∀ {W:World},Below w.heap.size w W->eW.R (λk=>S k/\k<w.heap.size) W va a/\eW.R (λk=>S k/\k<w.heap.size) W vb b:=λhB=>⟨eW.keep (λk c t f hk h=>(hB.block k hk.2).trans h) hlta,eW.keep (λk c t f hk h=>(hB.block k hk.2).trans h) hltb⟩;refine .block (.range (BG1 (S:=λk=>S k/\k<w.heap.size) (a:=a) (b:=b) (va:=va) (vb:=vb) (by omega) (by omega)) O BK2 (λk=>rfl) (by decide)
  (AddJ w b5 b6 bx p1 p2 va vb λk r c=>r.length=k/\c<=1/\val r+4294967296 ^ k*c+val (b.take k)=val (a.take k)+4294967296 ^ k) (λ_ _=>False) (λk W W' h hs=>h.sft hs x7.size) (λ_ _ _ h _=>h.elim) (λk W h=>⟨h.k1,h.k2,hS h.low⟩) ?_ ?_ ?_ (λ_ _ h=>h.elim))
 ·exact⟨x7,k6.ext e7,kp1,kp2,_,[],1,k56.ext e7,o6.ext e7,kx6.ext e7,rfl,by omega,by simp[val]⟩
 ·intro l k W hk hJ;refine .sr (.an O O (.region (.an O O ⟨rfl,rfl,λW hJ hsz=>?_⟩)));obtain⟨hlow,hf,hp1,hp2,v,r,c,h5,ho,hx,hr1,hr2,hr3⟩:=hJ;have hxa:=G4 hda k;have hxb:=G4 hdb k;refine .block (.held follows true (λW'=>Blk W' b5 35 #[v]/\Blk W' b6 221 #[carV bx])
   [some _,some _,some _,some _,some _,some _,none,none,none,none] (by kernel_rfl) ⟨λ_ h=>v_ld ty_W O h.1 rfl,λ_ h=>v_ld ty_F O h.2 rfl,λ_ _=>v_mv rfl,λ_ _=>v_mv rfl,λ_ _=>AC9 O rfl,λ_ _=>BQ3 O rfl,trivial⟩ ?_)
  intro W1 e1 hh1;have h5:=h5.ext e1;have hf:=hf.ext e1;have ho:=ho.ext e1;have hx:=hx.ext e1;have hp1:=hp1.ext e1;have hp2:=hp2.ext e1;have hlow1:Below w.heap.size w W1:=hlow.trans (e1.mono hlow.size);rw[show IntKind.u64.wrap (((a.getD k 0:Nat):Int)+IntKind.u64.wrap (4294967295-((b.getD k 0:Nat):Int)))=((a.getD k 0+(4294967295-b.getD k 0):Nat):Int) by rw[wU (n:=4294967295-_) (by omega),wU (by omega)];omega];have hbxf:b6≠bx:=λh=>hbx6 h.symm;refine .gv ⟨h5,hf⟩ rfl (AN6 [_] O L0 O (K6 hx (by omega))) ?_;rintro _ W2 ⟨rfl,u2,hx2⟩;have hb5x:b5≠bx:=by omega
  have h5:=h5.upd u2 hb5x;have hf:=hf.upd u2 hbxf;have ho:=ho.upd u2 hx (by decide);have oth:Oth W W2:=(Oth.ext e1).trans (Oth.upd u2 hx);have hxp1:p1≠bx:=by have:=kx6.lt;omega
  have hxp2:p2≠bx:=by have:=kx6.lt;omega
  have hp1:=hp1.upd u2 hxp1;have hp2:=hp2.upd u2 hxp2;have hlow2:Below w.heap.size w W2:=u2.below hlow1 (by have:=x3.size;omega);refine .gv ⟨h5,hf⟩ rfl (AR9 _ O AJ8) ?_;rintro _ W3 ⟨b3,rfl,n3⟩;obtain⟨e3,k3,hb3,hs3⟩:=n3;have hlow3:Below w.heap.size w W3:=hlow2.trans (e3.mono hlow2.size);refine .gv ⟨h5.ext e3,hf.ext e3⟩ rfl (Ab8 (base:=w.heap.size) un_W I1 O O (ho.ext e3) k3 (by omega) (by omega) hlow3.size) ?_;rintro v4 W4 ⟨ho4,hg4⟩;have h54:=(ho.ext e3).gblk hg4 (h5.ext e3) (by decide);have hf4:=(ho.ext e3).gblk hg4 (hf.ext e3) (by decide);have hp14:=(ho.ext e3).gblk hg4 (hp1.ext e3) (by decide);have hp24:=(ho.ext e3).gblk hg4 (hp2.ext e3) (by decide);have hx4:=(ho.ext e3).gblk hg4 (hx2.ext e3) (by decide);have hlow4:=(ho.ext e3).below hg4 hlow3 hlow3.size;have oth4:=(oth.trans (Oth.ext e3)).trans ((ho.ext e3).oth hg4);have hv4:∃ a n c,v4=.slice a n c:=by rcases ho4.1.2 with ⟨rfl,_⟩ | ⟨g,cap,cur,rfl,_⟩<;>exact⟨_,_,_,rfl⟩
  obtain⟨a4,n4,c4,rfl⟩:=hv4;refine .gv ⟨h54,hf4⟩ rfl (N1 ty_W O O h54 O (by simp) (by simp[one1,Value.cells])) ?_;rintro _ W5 ⟨k5,u5⟩;refine .nil (.inl O) ?_;refine⟨oth4.trans (Oth.upd u5 h54),u5.below hlow4 (by have:=x3.size;omega),hf4.upd u5 (Ne.symm hb56),hp14.upd u5 (by omega),hp24.upd u5 (by omega),_,_,_,k5,ho4.upd u5 h54 (by decide),hx4.upd u5 (Ne.symm hb5x),by simp[hr1],by omega,?_⟩;rw[AG5,C3,C3,hr1];have hdm:=bE (a.getD k 0+(4294967295-b.getD k 0)+c) 4294967296;generalize hq:(a.getD k 0+(4294967295-b.getD k 0)+c) / 4294967296=q at *;generalize hm:(a.getD k 0+(4294967295-b.getD k 0)+c) % 4294967296=m at *;have h1:4294967296 ^ k*m+4294967296 ^ (k+1)*q=4294967296 ^ k*(a.getD k 0+(4294967295-b.getD k 0)+c):=by rw[<-hdm,aM];grind
  have h2:4294967296 ^ k*(a.getD k 0+(4294967295-b.getD k 0)+c)+4294967296 ^ k*b.getD k 0+4294967296 ^ k=4294967296 ^ k*a.getD k 0+4294967296 ^ k*c+4294967296 ^ (k+1):=by
   have:a.getD k 0+(4294967295-b.getD k 0)+c+b.getD k 0+1=a.getD k 0+c+4294967296:=by omega
   have:=congrArg (4294967296 ^ k*·) this;simp only[aJ,cT] at this;rw[aM,aJ,aJ];omega
  omega
 ·intro W hJ hD;obtain⟨hlow,hf,hp1,hp2,v,r,c,h5,ho,hx,hr1,hr2,hr3⟩:=hJ;rw[aK (by omega),aK (by omega)] at hr3;refine .sr (.ld ty_W O O h5 O (.an O O (.ret ?_)));refine .mark [_] results214 hD ⟨rfl,trivial⟩ ⟨Q5 hlow x7.size,r,(ho.kp (Kp.put hD O)).toR up,?_,by omega⟩;have hlt:=AS9 ho.2;rw[hr1] at hlt;have hc1:c=1:=by
   rcases aB c 1 with h | h
   ·have:c=0:=by omega
    subst this;rw[dV] at hr3;omega
   ·omega
  subst hc1;rw[cT] at hr3;omega
theorem C5{l:List Nat}{k:Nat}(h:k<l.length):l[k]?=some (l.getD k 0):=by rw[aF,aE h];rfl
theorem AE2:Ent prog 262:=en func262
theorem AC7{w:World}{va:Value}{a:List Nat}(ha:eW.R S w va a)(hla:a.length<=1099511627776)(hs:s<=31) :
  CR prog 262 #[va,.int .u64 s] w (λv w'=>∃ r,OwnW 108 w.heap.size w' v r/\val r=val a*2 ^ s/\r.length=a.length+1):=by
 have hda:dig a:=G3 ha;have hp:0<2 ^ s:=bR (by omega);have hp31:2 ^ s<=2 ^ 31:=aP (by omega) hs;refine enter func262 O ntmps262 O (.sr (.an O O (.sr ?_)));refine .call [.int .u64 (0:Nat)] O J6 O J5 λv1 w1 e1 h1=>.an O O ?_;obtain⟨bx,rfl,kx,hbx⟩:=h1;have ha1:=ha.ext e1;refine .sr (.mv O O (.lenR un_W O O ha1 (.add O O O ?_)));rw[show IntKind.i64.wrap ((a.length:Int)+1)=((a.length+1:Nat):Int) by rw[wI (by omega)];omega];refine .make_ 0 _ un_W I1 O (by decide) O O O (aC _) (by omega) (by omega) λw2 b2 n2=>.an O O ?_;have o2:OwnW 108 w.heap.size w2 _ []:=OwnW.made n2 e1.size (by omega);obtain⟨e2,k2,hb2,hs2⟩:=n2;have x2:=e1.trans e2;have hlt:=ER.lt _ ha;have hS:∀ {W:World},Below w.heap.size w W->eW.R (λk=>S k/\k<w.heap.size) W va a:=λhB=>eW.keep (λk c t f hk h=>(hB.block k hk.2).trans h) hlt;refine .mid (α:=Value×List Nat) (λx=>[(6,x.1),(5,carV bx)]) (λx W=>Below w.heap.size w W/\x.2.length=a.length/\OwnW 108 w.heap.size W x.1 x.2/\∃ c,cBlk W bx c/\c<2 ^ s/\val x.2+4294967296 ^ a.length*c=val a*2 ^ s) ?_ ?_
 ·refine .sr (.mv O O (.lenR un_W O O (hS x2) (.mv O O (.nil ?_))));refine .block (.loop (α:=Nat×Value×List Nat×Nat) (λx=>[(6,x.2.1),(5,carV bx),(14,va),(15,iW (a.length:Nat)),(16,iW (x.1:Nat)),(1,.int .u64 s)])
   (λx W=>Below w.heap.size w W/\x.1<=a.length/\x.2.2.1.length=x.1/\OwnW 108 w.heap.size W x.2.1 x.2.2.1/\cBlk W bx x.2.2.2/\x.2.2.2<2 ^ s/\val x.2.2.1+4294967296 ^ x.1*x.2.2.2=val (a.take x.1)*2 ^ s) (λx=>a.length-x.1) (0,.slice (some ⟨b2,0,none⟩) 0 (a.length+1),[],0) ?_ ?_ ?_)
  ·exact lkA rfl
  ·exact⟨x2,aC _,rfl,o2,kx.ext e2,hp,by simp[val]⟩
  ·rintro⟨i,v,r,c⟩ W ⟨hB,hi,hr,ho,hx,hc,hv⟩;replace hB:Below w.heap.size w W:=hB;replace hi:i<=a.length:=hi;replace hr:r.length=i:=hr;replace ho:OwnW 108 w.heap.size W v r:=ho;replace hx:cBlk W bx c:=hx;replace hc:c<2 ^ s:=hc;replace hv:val r+4294967296 ^ i*c=val (a.take i)*2 ^ s:=hv;by_cases hlt:i<a.length
   ·refine .sr (.lssT O O O (by omega) (.nil (.seq (.condT O (.skip (.seq (.block (.sr ?_)))))))) ;refine .ixN (i:=i) un_W A8 O O (hS hB) O (C5 hlt) λp hp=>.ldE A8 O O hp λe he=>?_;obtain⟨rfl,hxx⟩:=he;refine .an O O (.region (.mv O O (.mv O O (.mv O O (.cvt D7 D9 O O (.mv O O (.shl O O O (by omega) ?_)))))));rw[wU (n:=((a.getD i 0:Nat):Int)) (by omega),shl_nat _ _ hs hxx];have hm:=dB (show a.getD i 0<=4294967295 by omega) (aA (2 ^ s));refine .callvG [_] O O L0 O (K6 hx (by omega)) ?_;rintro _ W2 ⟨rfl,u2,hx2⟩;have ho2:=ho.upd u2 hx (by decide);have hB2:Below w.heap.size w W2:=u2.below hB hbx;refine .bsl _ O O AJ8 λW3 b3 n3=>?_;obtain⟨e3,k3,hb3,hs3⟩:=n3;have hB3:Below w.heap.size w W3:=hB2.trans (e3.mono hB2.size);refine .gv O O (Ab8 (base:=w.heap.size) un_W I1 O O (ho2.ext e3) k3 (by omega) (by omega) hB3.size) ?_;rintro v4 W4 ⟨ho4,hg4⟩;refine .an O O (.region (.add O O O (.mv O O (.nil ?_))));rw[wI (by omega)];refine⟨rfl,(i+1,v4,_,_),lkA rfl,⟨(ho2.ext e3).below hg4 hB3 hB3.size,hlt,by simp[hr],ho4,(ho2.ext e3).gblk hg4 (hx2.ext e3) (by decide),?_,?_⟩,by show a.length-(i+1)<a.length-i;omega⟩
    ·show (a.getD i 0*2 ^ s+c) / 4294967296<2 ^ s;rw[bD (by omega)];omega
    ·show val (r++[(a.getD i 0*2 ^ s+c) % 4294967296])+4294967296 ^ (i+1)*((a.getD i 0*2 ^ s+c) / 4294967296)=val (a.take (i+1))*2 ^ s;rw[AG5,C3,hr,cG,<-hv];have hdm:=bE (a.getD i 0*2 ^ s+c) 4294967296;generalize (a.getD i 0*2 ^ s+c) / 4294967296=q at *;generalize (a.getD i 0*2 ^ s+c) % 4294967296=m at *;have:4294967296 ^ i*m+4294967296 ^ (i+1)*q=4294967296 ^ i*(a.getD i 0*2 ^ s+c):=by rw[<-hdm,aM];grind
     rw[aJ,<-bF] at this;omega
   ·refine .sr (.lssF O O O (by omega) (.nil (.seq (.condF O (.exit ?_)))));have:i=a.length:=by omega
    subst this;rw[aK (aA _)] at hv;exact⟨rfl,(v,r),lkA rfl,hB,hr,ho,c,hx,hc,hv⟩
 ·rintro⟨v,r⟩ W ⟨hB,hr,ho,c,hx,hc,hv⟩;replace hr:r.length=a.length:=hr;replace ho:OwnW 108 w.heap.size W v r:=ho;replace hv:val r+4294967296 ^ a.length*c=val a*2 ^ s:=hv;refine .sr (.mv O O (.mv O O ?_));refine .callvG [.int .u64 (0:Nat)] O O L0 O (K6 hx (by omega)) ?_;rintro _ W2 ⟨rfl,u2,hx2⟩;have ho2:=ho.upd u2 hx (by decide);have hB2:Below w.heap.size w W2:=u2.below hB hbx;refine .bsl _ O O AJ8 λW3 b3 n3=>?_;obtain⟨e3,k3,hb3,hs3⟩:=n3;have hB3:Below w.heap.size w W3:=hB2.trans (e3.mono hB2.size);refine .gv O O (Ab8 (base:=w.heap.size) un_W I1 O O (ho2.ext e3) k3 (by omega) (by omega) hB3.size) ?_;rintro v4 W4 ⟨ho4,hg4⟩;refine .an O O (.ret (.plain [_] results262 ⟨rfl,trivial⟩ ⟨(ho2.ext e3).below hg4 hB3 hB3.size,_,ho4,?_,by simp[hr]⟩));rw[AG5,hr,<-hv,aD,bJ (by omega)]
theorem Ac7:Ent prog 163:=en func163
theorem Aa6{w:World}{va vb:Value}{a b:List Nat}(up:Up S w)(ha:eW.R S w va a)(hb:eW.R S w vb b)(hla:a.length<=1099511627776)(hlb:b.length<=1099511627776) :
  CR prog 163 #[va,vb] w (Wv S (val a*val b) (a.length+b.length)):=by
 have hda:dig a:=G3 ha;have hdb:dig b:=G3 hb;have hlta:=ER.lt _ ha;have hltb:=ER.lt _ hb;have hSa:∀ {W:World},Below w.heap.size w W->eW.R (λk=>S k/\k<w.heap.size) W va a:=λhB=>eW.keep (λk c t f hk h=>(hB.block k hk.2).trans h) hlta;have hSb:∀ {W:World},Below w.heap.size w W->eW.R (λk=>S k/\k<w.heap.size) W vb b:=λhB=>eW.keep (λk c t f hk h=>(hB.block k hk.2).trans h) hltb;refine enter func163 O ntmps163 O (.sr (.an O O (.sr (.mv O O (.lenR un_W O O ha (.mv O O (.lenR un_W O O hb (.add O O O ?_))))))));rw[show IntKind.i64.wrap ((a.length:Int)+(b.length:Int))=((a.length+b.length:Nat):Int) by rw[wI (by omega)];omega];refine .make_ _ _ un_W I1 O (by decide) O O O (aA _) (by omega) (by omega) λw1 g n1=>.an O O ?_;have o1:OB 108 w1 g (List.replicate (a.length+b.length) 0):=OB.made n1;obtain⟨e1,k1,hg,hs1⟩:=n1;generalize hL:a.length+b.length=L at *;refine .mid (α:=List Nat) (λp=>[(5,.slice (some ⟨g,0,none⟩) L L)]) (λp W=>Below w.heap.size w W/\p.length=L/\OB 108 W g p/\val p=val a*val b) ?_ ?_
 ·refine .sr (.mv O O (.lenR un_W O O (hSa e1) (.mv O O (.nil ?_))));refine .block (.loop (α:=Nat×List Nat) (λx=>[(5,.slice (some ⟨g,0,none⟩) L L),(17,va),(18,iW (a.length:Nat)),(19,iW (x.1:Nat)),(1,vb)])
   (λx W=>Below w.heap.size w W/\x.1<=a.length/\x.2.length=L/\OB 108 W g x.2/\val x.2=val (a.take x.1)*val b/\∀ j,x.1+b.length<=j->x.2.getD j 0=0) (λx=>a.length-x.1) (0,List.replicate L 0) ?_ ?_ ?_)
  ·exact lkA rfl
  ·refine⟨e1,aC _,by simp,o1,by simp[val,Q9],λj _=>?_⟩;rw[aF,eA];split<;>rfl
  ·rintro⟨i,p⟩ W ⟨hB,hi,hp,ho,hv,hz⟩;replace hi:i<=a.length:=hi;replace hp:p.length=L:=hp;replace ho:OB 108 W g p:=ho;replace hv:val p=val (a.take i)*val b:=hv;replace hz:∀ j,i+b.length<=j->p.getD j 0=0:=hz;by_cases hlt:i<a.length
   ·refine .sr (.lssT O O O (by omega) (.nil (.seq (.condT O (.skip (.seq (.block (.sr (.mv O O ?_))))))))) ;refine .ixN (i:=i) un_W A8 O O (hSa hB) O (C5 hlt) λq hq=>.ldE A8 O O hq λe he=>?_;obtain⟨rfl,hxx⟩:=he;generalize hx:a.getD i 0=x at *;refine .asg O O (.an O O (.sr ?_));refine .call [.int .u64 (0:Nat)] O J6 O J5 λv1 w1 e1 h1=>.an O O ?_;obtain⟨bx,rfl,kx,hbx⟩:=h1;have hB1:Below w.heap.size w w1:=hB.trans (e1.mono hB.size);have hgx:g≠bx:=by have:=ho.lt;omega
    have hwbx:w.heap.size<=bx:=aG hB.size hbx;refine .mid (α:=List Nat×Nat) (λ_=>[(5,.slice (some ⟨g,0,none⟩) L L),(17,va),(18,iW (a.length:Nat)),(19,iW (i:Nat)),(1,vb),(6,iW (i:Nat)),(8,carV bx)])
     (λy W=>Below w.heap.size w W/\y.1.length=L/\OB 108 W g y.1/\cBlk W bx y.2/\y.2<4294967296/\val y.1+4294967296 ^ (i+b.length)*y.2=val p+4294967296 ^ i*(x*val b)/\∀ j,i+b.length<=j->y.1.getD j 0=0) ?_ ?_
    ·refine .sr (.mv O O (.lenR un_W O O (hSb hB1) (.mv O O (.nil ?_))));refine .block (.loop (α:=Nat×List Nat×Nat) (λz=>[(5,.slice (some ⟨g,0,none⟩) L L),(17,va),(18,iW (a.length:Nat)),(19,iW (i:Nat)),(1,vb),(6,iW (i:Nat)),(7,wv x),(8,carV bx),(25,vb),(26,iW (b.length:Nat)),(27,iW (z.1:Nat))])
      (λz W=>Below w.heap.size w W/\z.1<=b.length/\z.2.1.length=L/\OB 108 W g z.2.1/\cBlk W bx z.2.2/\z.2.2<4294967296/\val z.2.1+4294967296 ^ (i+z.1)*z.2.2=val p+4294967296 ^ i*(x*val (b.take z.1))/\∀ j,i+b.length<=j->z.2.1.getD j 0=0) (λz=>b.length-z.1) (0,p,0) ?_ ?_ ?_)
     ·exact lkA rfl
     ·exact⟨hB1,aC _,hp,ho.ext e1,kx,by show 0<4294967296;omega,by simp[val],hz⟩
     ·rintro⟨k,u,c⟩ W ⟨hB,hk,hu,ho,hcx,hc,hv,hz⟩;replace hk:k<=b.length:=hk;replace hu:u.length=L:=hu;replace ho:OB 108 W g u:=ho;replace hcx:cBlk W bx c:=hcx;replace hc:c<4294967296:=hc;replace hv:val u+4294967296 ^ (i+k)*c=val p+4294967296 ^ i*(x*val (b.take k)):=hv;replace hz:∀ j,i+b.length<=j->u.getD j 0=0:=hz;by_cases hltk:k<b.length
      ·refine .sr (.lssT O O O (by omega) (.nil (.seq (.condT O (.skip (.seq (.block (.sr (.mv O O ?_)))))))));refine .ixN (i:=k) un_W A8 O O (hSb hB) O (C5 hltk) λq hq=>.ldE A8 O O hq λe he=>?_;obtain⟨rfl,hyy⟩:=he;generalize hy:b.getD k 0=y at *;refine .asg O O (.an O O (.region ?_));have hik:IntKind.i64.wrap ((i:Int)+(k:Int))=((i+k:Nat):Int):=by rw[wI (by omega)];omega
       have hgu:u[i+k]?=some (u.getD (i+k) 0):=C5 (by omega);have hud:=G4 ho.1 (i+k);refine .mv O O (.mv O O (.mv O O (.add (m:=(i:Int)) (n:=(k:Int)) O O O ?_)));rw[hik];refine .mv O O (.mv O O (.mv O O (.mv O O (.add (m:=(i:Int)) (n:=(k:Int)) O O O ?_))));rw[hik];refine .ixB un_W A8 O O O (by omega) ?_;rw[show 0+(i+k)*1=i+k by omega];refine .ldO A8 O O ho hgu ?_;refine .cvt D7 D9 O O (.mv O O (.cvt D7 D9 O O (.mv O O (.cvt D7 D9 O O (.mul O O O (.add O O O ?_))))));generalize hm:u.getD (i+k) 0=m at *;have hxy:x*y<=4294967295*4294967295:=dB (by omega) (by omega);rw[wU (n:=(m:Int)) (by omega),wU (n:=(x:Int)) (by omega),wU (n:=(y:Int)) (by omega),<-cQ,wU (n:=((x*y:Nat):Int)) (by omega),<-dK,wU (n:=((m+x*y:Nat):Int)) (by omega)];refine .callvG [_] O O L0 O (K6 hcx (by omega)) ?_;rintro _ W2 ⟨rfl,u2,hx2⟩;have hB2:Below w.heap.size w W2:=u2.below hB hwbx;refine .ixB un_W A8 O O O (by omega) ?_;rw[show 0+(i+k)*1=i+k by omega];refine .stO A8 O O O (ho.upd u2 hgx) (by omega) (by omega) λW3 ho3 u3=>.nil ?_;refine .region (.add (m:=(k:Int)) O O O (.mv O O (.nil ?_)));rw[wI (n:=(k:Int)+1) (by omega)];refine⟨rfl,(k+1,_,_),lkA rfl,⟨u3.below hB2 (by have:=e1.size;have:=hg;omega),hltk,by simp[hu],ho3,hx2.upd u3 (Ne.symm hgx),?_,?_,?_⟩,by show b.length-(k+1)<b.length-k;omega⟩
       ·show (m+x*y+c) / 4294967296<4294967296;rw[bD (by omega)];omega
       ·show val (u.set (i+k) ((m+x*y+c) % 4294967296))+4294967296 ^ (i+(k+1))*((m+x*y+c) / 4294967296)=val p+4294967296 ^ i*(x*val (b.take (k+1)));have h1:=AI2 ((m+x*y+c) % 4294967296) hgu;rw[C3,hy];have hdm:=bE (m+x*y+c) 4294967296;generalize (m+x*y+c) / 4294967296=q at *;generalize (m+x*y+c) % 4294967296=r at *;have h2:4294967296 ^ (i+k)*r+4294967296 ^ (i+(k+1))*q=4294967296 ^ (i+k)*(m+x*y+c):=by rw[<-hdm,<-cX,aM];grind
        have h3:4294967296 ^ i*(x*(val (b.take k)+4294967296 ^ k*y))=4294967296 ^ i*(x*val (b.take k))+4294967296 ^ (i+k)*(x*y):=by rw[bG];grind
        rw[h3];rw[aJ,aJ] at h2;omega
       ·intro j hj;show (u.set (i+k) ((m+x*y+c) % 4294967296)).getD j 0=0;rw[aF,bW (by omega),<-aF];exact hz j hj
      ·refine .sr (.lssF O O O (by omega) (.nil (.seq (.condF O (.exit ?_)))));have:k=b.length:=by omega
       subst this;rw[aK (aA _)] at hv;exact⟨rfl,(u,c),lkA rfl,hB,hu,ho,hcx,hc,hv,hz⟩
    ·rintro⟨u,c⟩ W ⟨hB,hu,ho,hcx,hc,hv,hz⟩;replace hu:u.length=L:=hu;replace ho:OB 108 W g u:=ho;replace hcx:cBlk W bx c:=hcx;replace hc:c<4294967296:=hc;replace hv:val u+4294967296 ^ (i+b.length)*c=val p+4294967296 ^ i*(x*val b):=hv;replace hz:∀ j,i+b.length<=j->u.getD j 0=0:=hz;have hib:IntKind.i64.wrap ((i:Int)+(b.length:Int))=((i+b.length:Nat):Int):=by rw[wI (by omega)];omega
     refine .region (.mv O O (.mv O O (.mv O O (.lenR un_W O O (hSb hB) (.add O O O ?_)))));rw[hib];refine .mv O O (.callvG [.int .u64 (0:Nat)] O O L0 O (K6 hcx (by omega)) ?_);rintro _ W2 ⟨rfl,u2,hx2⟩;rw[aD,bJ hc];refine .ixB un_W A8 O O O (by omega) ?_;rw[show 0+(i+b.length)*1=i+b.length by omega];refine .stO A8 O O O (ho.upd u2 hgx) (by omega) hc λW3 ho3 u3=>.nil (.region (.add (m:=(i:Int)) O O O (.mv O O (.nil ?_))));rw[wI (n:=(i:Int)+1) (by omega)];have hB2:Below w.heap.size w W2:=u2.below hB hwbx;refine⟨rfl,(i+1,u.set (i+b.length) c),lkA rfl,⟨u3.below hB2 (by omega),hlt,by simp[hu],ho3,?_,?_⟩,by show a.length-(i+1)<a.length-i;omega⟩
     ·show val (u.set (i+b.length) c)=val (a.take (i+1))*val b;have h1:=AI2 c (C5 (l:=u) (k:=i+b.length) (by omega));rw[hz _ (aA _)] at h1;rw[C3,hx,cG,bF];replace hv0:val p=val (a.take i)*val b:=by assumption
      omega
     ·intro j hj;show (u.set (i+b.length) c).getD j 0=0;rw[aF,bW (by omega),<-aF];exact hz j (by omega)
   ·refine .sr (.lssF O O O (by omega) (.nil (.seq (.condF O (.exit ?_)))));have:i=a.length:=by omega
    subst this;rw[aK (aA _)] at hv;exact⟨rfl,p,lkA rfl,hB,hp,ho,hv⟩
 ·rintro p W ⟨hB,hp,ho,hv⟩;subst hp;refine .sr (.mv O O (.an O O (.ret (.p1 _ results163 O ⟨hB,p,ho.toR0 (up g (by omega)) (aA _) (by omega),hv,by omega⟩))))
theorem v_istr{w:World}{d:Option Tmp}{ty:TypeId}{pos:String}{af:Array Edge}{g:Option (Nat×Bool)}{x ix:Operand}{s:ByteArray}{k:IntKind}{b:UInt8}(ht:P.underlying t=some .string)(hx:ev σ x=some (.string s))(hi:ev σ ix=some (.int k (i:Int)))(hb:s[i]?=some b):Vl P ⟨d,.index t x ix,ty,pos,af,g⟩ σ w (.int .u8 b.toNat):=by refine⟨(by intro _ h;cases h),λρ hρ=>?_⟩;have h1:=hρ x _ (by simp[Op.operands]) hx;have h2:=hρ ix _ (by simp[Op.operands]) hi;simp[execOp,h1,h2,Instr.index,asIntOf,run_underlying ht,hb]
theorem Bb7:prog.underlying 9=some .string:=by kernel_rfl
theorem AW2:prog.underlying 5=some (.int .u8):=by kernel_rfl
@[reducible] def LenP (x:Nat):Value->World->Prop:=λv _=>∃ L:Nat,v=.int .i64 L/\L<=32/\x<2 ^ L/\(0<x->0<L)
theorem E_Len32:Ent prog 147:=en func147
theorem Len32_c{w:World}(hx:x<4294967296):CR prog 147 #[.int .u32 x] w (LenP x):=by
 refine enter func147 O ntmps147 O (.sr (.an O O (.mid (α:=Nat×Nat) (λy=>[(0,.int .u32 (y.1:Nat)),(2,iW (y.2:Nat))]) (λy W=>W=w/\y.1<65536/\y.2<=16/\(∀ L,y.1<2 ^ L->x<2 ^ (y.2+L))/\(0<x->0<y.1+y.2)) ?_ ?_)))
 ·refine .sr (.mv O O ?_);by_cases h:65536<=x
  ·refine .geqT O O O (by omega) (.nil (.condT O (.sr (.mv O O (.shr O O O (by decide) (.an O O (.region (.an O O ?_))))))));have:((x:Int).fdiv ((2:Int) ^ (min (16:Int).toNat IntKind.u32.bits)))=((x / 65536:Nat):Int):=AN7 x 16;rw[this];refine⟨rfl,(x / 65536,16),lkA rfl,rfl,by show x / 65536<65536;omega,aA _,λL hL=>?_,λ_=>by show 0<x / 65536+16;omega⟩;rw[bD (by omega)] at hL;show x<2 ^ (16+L);rw[bG];omega
  ·refine .geqF O O O (by omega) (.nil (.condF O (.skip ?_)));exact⟨rfl,(x,0),lkA rfl,rfl,by show x<65536;omega,aC _,λL hL=>by simpa using hL,λh=>by show 0<x+0;omega⟩
 ·rintro⟨y,n⟩ W ⟨rfl,hy,hn,hL,h0⟩;refine .mid (α:=Nat×Nat) (λy=>[(0,.int .u32 (y.1:Nat)),(2,iW (y.2:Nat))]) (λy W'=>W'=W/\y.1<256/\y.2<=24/\(∀ L,y.1<2 ^ L->x<2 ^ (y.2+L))/\(0<x->0<y.1+y.2)) ?_ ?_
  ·refine .sr (.mv O O ?_);by_cases h:256<=y
   ·refine .geqT O O O (by show (256:Int)<=(y:Int);omega) (.nil (.condT O (.sr (.mv O O (.shr (m:=(y:Int)) O O O (by decide) (.an O O (.region (.mv O O (.add (m:=(n:Int)) O O O (.an O O ?_))))))))));have:((y:Int).fdiv ((2:Int) ^ (min (8:Int).toNat IntKind.u32.bits)))=((y / 256:Nat):Int):=AN7 y 8;rw[this,wI (by omega)];refine⟨rfl,(y / 256,n+8),lkA rfl,rfl,by show y / 256<256;omega,by show n+8<=24;omega,λL hL'=>?_,λ_=>by show 0<y / 256+(n+8);omega⟩;rw[bD (by omega)] at hL';show x<2 ^ (n+8+L);rw[cX];refine hL _ ?_;rw[bG];omega
   ·refine .geqF O O O (by show ¬ (256:Int)<=(y:Int);omega) (.nil (.condF O (.skip ?_)));exact⟨rfl,(y,n),lkA rfl,rfl,by show y<256;omega,by show n<=24;omega,hL,h0⟩
  ·rintro⟨y,n⟩ W ⟨rfl,hy,hn,hL,h0⟩;refine .sr (.mv O O (.mv O O (.cvt (m:=(y:Int)) D7 AW2 O O ?_)));rw[show IntKind.u8.wrap (y:Int)=(y:Int) by rw[IntKind.wrap_u8];omega];have hall:∀ s:ByteArray,((List.range 256).all λi=>match s[i]? with | some b=>Nat.blt i (2 ^ b.toNat) && Nat.ble b.toNat 8 && (Nat.beq i 0 || Nat.blt 0 b.toNat) | none=>false)=true->∃ b,s[y]?=some b/\y<2 ^ b.toNat/\b.toNat<=8/\(0<y->0<b.toNat):=by
    intro s hs;have:=List.all_eq_true.1 hs y (List.mem_range.2 hy)
    cases hb:s[y]? with
    | none=>rw[hb] at this;cases this
    | some b =>
     rw[hb] at this;simp only[aN,aW,aZ,Nat.ble_eq,Nat.beq_eq] at this;exact⟨b,rfl,this.1.1,this.1.2,λh=>this.2.resolve_left (by omega)⟩
   obtain⟨b,hb1,hb2,hb3,hb4⟩:=hall _ (by kernel_rfl);refine .gv O O (v_istr (i:=y) Bb7 O O hb1).gv ?_;rintro _ _ ⟨rfl,rfl⟩;refine .cvt AW2 AB4 O O (.add O O O (.an O O (.ret ?_)));rw[wI (n:=((b.toNat:Nat):Int)) (by omega),wI (by omega),<-dK];refine .plain [_] results147 ⟨rfl,trivial⟩ ⟨.refl _,n+b.toNat,rfl,by omega,hL _ hb2,λh=>?_⟩;have:=h0 h;rcases aU n with h' | h'
   ·have:=hb4 (by omega);omega
   ·omega
theorem Ad2:Ent prog 261:=en func261
theorem Ac5{w:World}(hx:x<4294967296)(h0:0<x):CR prog 261 #[.int .u32 x] w (λv _=>∃ s:Nat,v=.int .i64 s/\s<=31/\x*2 ^ s<4294967296):=by
 refine enter func261 O ntmps261 O (.sr (.an O O (.sr (.mv O O (.call _ O E_Len32 O (Len32_c hx) λv w1 e1 h1=>?_)))));obtain⟨L,rfl,hL,hxL,hL0⟩:=h1;refine .sub O O O (.an O O (.ret ?_));rw[wI (by omega),show ((32:Int)-(L:Int))=((32-L:Nat):Int) by omega];refine .plain [_] results261 ⟨rfl,trivial⟩ ⟨e1,32-L,rfl,by have:=hL0 h0;omega,?_⟩;have:2 ^ L*2 ^ (32-L)=4294967296:=by rw[<-bG,show L+(32-L)=32 by omega]
 rw[<-this];exact gY hxL (bR (by omega))
theorem Ac6:Ent prog 241:=en func241
theorem Aa5{w:World}{g c:Nat}{U:List Nat}{d:Nat}(ho:OB 108 w g U)(hd0:0<d)(hd:d<4294967296)(hl:U.length<=1099511627776) :
  Calls prog 241 #[.slice (some ⟨g,0,none⟩) U.length c,.int .u64 d] w λe w'=>∃ v,e=.returned v/\(v=.int .u64 (val U % d:Nat)/\Upd w w' g/\∃ V,OB 108 w' g V/\V.length=U.length/\val V=val U / d):=by
 refine enterG func241 O ntmps241 O (.sr (.an O O (.sr (.an O O ?_))));refine .mid (α:=List Nat) (λV=>[(5,.int .u64 (val U % d:Nat))]) (λV W=>Upd w W g/\OB 108 W g V/\V.length=U.length/\val V=val U / d) ?_ ?_
 ·refine .sr (.mv O O (.len un_W O O (.sub O O O (.an O O ?_))));rw[wI (by omega)];refine .block (.loop (α:=Nat×List Nat×Nat) (λx=>[(0,.slice (some ⟨g,0,none⟩) U.length c),(1,.int .u64 d),(5,.int .u64 (x.2.2:Nat)),(6,iW ((x.1:Int)-1))])
   (λx W=>Upd w W g/\OB 108 W g x.2.1/\x.2.1.length=U.length/\x.1<=U.length/\x.2.1.take x.1=U.take x.1/\x.2.2<d/\val (x.2.1.drop x.1)*d+x.2.2=val (U.drop x.1)) (λx=>x.1) (U.length,U,0) ?_ ?_ ?_)
  ·exact lkA rfl
  ·refine⟨Upd.refl _ _,ho,rfl,aA _,rfl,hd0,?_⟩;show val (U.drop U.length)*d+0=val (U.drop U.length);rw[dS (aA _)];simp[val]
  ·rintro⟨j,V,r⟩ W ⟨hu,ho,hV,hj,ht,hr,hv⟩;replace ho:OB 108 W g V:=ho;replace hV:V.length=U.length:=hV;replace hj:j<=U.length:=hj;replace ht:V.take j=U.take j:=ht;replace hr:r<d:=hr;replace hv:val (V.drop j)*d+r=val (U.drop j):=hv;rcases aU j with hj0 | hj0
   ·subst hj0;refine .seq (.sr (.mv O O (.geqF O O O (by show ¬ (0:Int)<=((0:Nat):Int)-1;omega) (.nil (.condF O (.exit ?_))))));simp only[cU] at hv;have h1:val U % d=r:=by rw[<-hv,aT,Nat.mul_add_mod,bJ hr]
    have h2:val U / d=val V:=by rw[<-hv,aT,Nat.mul_add_div hd0,eB hr];omega
    rw[h1,h2];exact⟨rfl,V,lkA rfl,hu,ho,hV,rfl⟩
   ·obtain⟨i,rfl⟩:∃ i,j=i+1:=⟨j-1,by omega⟩;have hi:((i+1:Nat):Int)-1=(i:Int):=by omega
    have hgi:V[i]?=some (V.getD i 0):=C5 (by omega);have hdi:=G4 ho.1 i;generalize hx:V.getD i 0=x at *;refine .seq (.sr (.mv (v:=.int .i64 (i:Int)) O (by rw[<-hi];rfl) (.geqT O O O (by omega) (.nil (.condT O (.skip (.seq (.block (.sr ?_))))))))) ;refine .mv O O (.shl (m:=(r:Int)) O O O (by decide) ?_);rw[shl32 r (by omega)];refine .mv O O (.mv (v:=.int .i64 (i:Int)) O (by rw[<-hi];rfl) (.ixB un_W A8 O O O (by omega) ?_));rw[show 0+i*1=i by omega];refine .ldO A8 O O ho hgi (.cvt D7 D9 O O ?_);rw[wU (n:=(x:Int)) (by omega)];refine .or_ O O O ?_;rw[Be5 r x hdi (by omega)];have hlt:x+4294967296*r<4294967296*d:=by have:4294967296*(r+1)<=4294967296*d:=aV _ hr;omega
    have hq:(x+4294967296*r) / d<4294967296:=by rw[bD hd0];exact hlt
    have hq64:x+4294967296*r<18446744073709551616:=by omega
    refine .an O O (.sr (.mv O O (.mv (v:=.int .i64 (i:Int)) O (by rw[<-hi];rfl) (.mv O O (.mv O O (.quo O O O (by omega) ?_))))));rw[R6,T1,bJ (eX hq (by omega))];refine .cvt D9 D7 O O ?_;rw[L6,bJ hq];refine .ixB un_W A8 O O O (by omega) ?_;rw[show 0+i*1=i by omega];refine .stO A8 O O O ho (by omega) hq λW2 ho2 u2=>.nil (.region (.mv O O (.mv O O (.rem O O O (by omega) ?_))));rw[R5];refine .an O O (.region (.mv (v:=.int .i64 (i:Int)) O (by rw[<-hi];rfl) (.sub O O O (.an O O ?_))));rw[wI (n:=(i:Int)-1) (by omega)];refine⟨rfl,(i,V.set i ((x+4294967296*r) / d),(x+4294967296*r) % d),lkA rfl,⟨hu.trans u2,ho2,by simp[hV],by show i<=U.length;omega,?_,aX _ hd0,?_⟩,eY i⟩
    ·show (V.set i _).take i=U.take i;rw[List.take_set_of_le (aA _)];have:=congrArg (List.take i) ht;rw[List.take_take,List.take_take] at this;simpa using this
    ·show val ((V.set i ((x+4294967296*r) / d)).drop i)*d+(x+4294967296*r) % d=val (U.drop i);have hUi:U[i]?=some x:=by have:=congrArg (λl=>l[i]?) ht;simp only[cP] at this;rw[if_pos (by omega),if_pos (by omega)] at this;rw[<-this];exact hgi
     have e1:(V.set i ((x+4294967296*r) / d)).drop i=((x+4294967296*r) / d)::V.drop (i+1):=by rw[bY (by simp;omega),List.getElem_set_self,List.drop_set_of_lt (by omega)]
     have e2:U.drop i=x::U.drop (i+1):=by rw[bY (by omega)];rw[aE (by omega)] at hUi;rw[Option.some.inj hUi]
     rw[e1,e2,val,val,<-hv];have hdm:=bE (x+4294967296*r) d;generalize (x+4294967296*r) / d=q at *;generalize (x+4294967296*r) % d=m at *;rw[cG,aJ,aT q d,bF];omega
 ·rintro V W ⟨hu,ho,hV,hv⟩;refine .sr (.mv O O (.an O O (.ret ?_)));exact .p1 _ results241 O ⟨rfl,hu,V,ho,hV,hv⟩
section
variable {B p U V U0 V0 u0 top v1 v2 g r:Nat}
theorem BY6 (hp:0<p) (hB:0<B) (hU:U=U0+p*(u0+B*top)) (hV:V=V0+p*(v2+B*v1)) (hU0:U0<p) (hu0:u0<B) (h1:0<v1):U / V<=top / v1:=by
 have hVp:0<V:=by have:0<p*(v2+B*v1):=cF hp (by have:=cF hB h1;omega);omega
 have hlt:top+1<=v1*(top / v1+1):=by have:=gI top h1;omega
 have:U<V*(top / v1+1):=by
  have e1:U<p*(B*(top+1)):=by
   rw[hU];have:u0+B*top+1<=B*(top+1):=by rw[aJ];omega
   have:=aV p this;rw[aJ] at this;omega
  have e2:p*(B*(top+1))<=p*(B*(v1*(top / v1+1))):=aV _ (aV _ hlt);have e3:p*(B*(v1*(top / v1+1)))<=V*(top / v1+1):=by
   have:p*(B*(v1*(top / v1+1)))=(p*(B*v1))*(top / v1+1):=by simp only[bF]
   rw[this];refine bN _ ?_;rw[hV,aJ];omega
  omega
 have:=(bD hVp).2 (by rw[aT];exact this);omega
theorem Bi0 (hp:0<p) (hB:0<B) (hU:U=U0+p*(u0+B*top)) (hV:V=V0+p*(v2+B*v1)) (hU0:U0<p) (h1:0<v1) (ht:g*v1+r=top) (h:r*B+u0<g*v2):U / V<g:=by
 have hVp:0<V:=by have:0<p*(v2+B*v1):=cF hp (by have:=cF hB h1;omega);omega
 rw[bD hVp];have e1:u0+B*top+1<=g*(v2+B*v1):=by
  have:g*(v2+B*v1)=g*v2+B*(g*v1):=by grind
  rw[this,<-ht,aJ,aT B r];omega
 have e2:p*(u0+B*top+1)<=g*V:=by
  rw[hV,aJ g];have:=aV p e1;have e:p*(g*(v2+B*v1))=g*(p*(v2+B*v1)):=by grind
  omega
 rw[aJ] at e2;omega
theorem Bh9 (hp:0<p) (hB:0<B) (hU:U=U0+p*(u0+B*top)) (hV:V=V0+p*(v2+B*v1)) (hV0:V0<p) (h1:0<v1) (ht:g*v1+r=top) (hg:g<B) (h:g*v2<=r*B+u0):g<=U / V+1:=by
 have hVp:0<V:=by have:0<p*(v2+B*v1):=cF hp (by have:=cF hB h1;omega);omega
 have e1:g*(v2+B*v1)<=u0+B*top:=by
  have:g*(v2+B*v1)=g*v2+B*(g*v1):=by grind
  rw[this,<-ht,aJ,aT B r];omega
 have e2:g*V<=g*V0+U:=by
  rw[hV,aJ];have:=aV p e1;have e:p*(g*(v2+B*v1))=g*(p*(v2+B*v1)):=by grind
  omega
 have e3:g*V0<V:=by
  have h2:g*V0<B*p:=dD hg hV0;have h3:B*p<=p*(v2+B*v1):=by rw[aT B p];refine aV _ ?_;have:=aV B h1;omega
  omega
 have e4:U<V*(U / V+1):=gI U hVp;have e5:V*g<V*(U / V+2):=by rw[show U / V+2=(U / V+1)+1 from rfl,aJ V (U / V+1),cT,aT V g];omega
 have:=fN e5;omega
theorem BY7 (hp:0<p) (hB:0<B) (hU:U=U0+p*(u0+B*top)) (hV:V=V0+p*(v2+B*v1)) (hV0:V0<p) (hv2:v2<B) (ht:g*v1+r=top) (hUV:U<B*V) (hr:B<=r):g<B:=by
 rcases aB g B with h | h
 ·exact h
 ·exfalso;have h1:p*(B*top)<=U:=by rw[hU,aJ];omega
  have h2:V<p*(v2+B*v1+1):=by rw[hV,aJ p (v2+B*v1)];omega
  have h3:p*(B*top)<p*(B*(v2+B*v1+1)):=by
   have:B*V<B*(p*(v2+B*v1+1)):=Nat.mul_lt_mul_of_pos_left h2 hB;have e:B*(p*(v2+B*v1+1))=p*(B*(v2+B*v1+1)):=by grind
   omega
  have h4:top<v2+B*v1+1:=fN (fN h3);have h5:B*v1<=g*v1:=bN _ h;omega
theorem BY8 (hp:0<p) (hB:0<B) (hU:U=U0+p*(u0+B*top)) (hV:V=V0+p*(v2+B*v1)) (hV0:V0<p) (hv2:v2<B) (h1:0<v1) (ht:g*v1+r=top) (hg:g<B) (hr:B<=r):g<=U / V:=by
 have hVp:0<V:=by have:0<p*(v2+B*v1):=cF hp (by have:=cF hB h1;omega);omega
 rw[Nat.le_div_iff_mul_le hVp];have e0:g*V<=p*(g+g*v2+B*(g*v1)):=by
  have h2:g*V0<=g*p:=aV _ (dT hV0);have e:p*(g+g*v2+B*(g*v1))=g*p+g*(p*(v2+B*v1)):=by grind
  rw[hV,aJ,e];omega
 have e1:g+g*v2<=B*g:=by have:=aV g (show v2+1<=B from hv2);rw[aJ,cT,aT g B] at this;omega
 have e2:g+g*v2+B*(g*v1)<=B*top:=by rw[<-ht,aJ B];have:=aV B (show g<=r by omega);omega
 have e3:=aV p e2;rw[hU,aJ];omega
end
theorem P6(l:List Nat)(k:Nat)(hk:k<=l.length):val l=val (l.take k)+4294967296 ^ k*val (l.drop k):=by
 conv=>lhs;rw[<-eC k l]
 rw[AI3,cC,cI hk]
theorem BH9{l:List Nat}(h:dig l)(k:Nat):dig (l.take k):=λx hx=>h x (eO hx)
theorem N3{l:List Nat}(h:dig l)(k:Nat)(hk:k<=l.length):val (l.take k)<4294967296 ^ k:=by have:=AS9 (BH9 h k);rwa [cC,cI hk] at this
theorem Bb2{l:List Nat}(h:l.length=m+3):val l=val (l.take m)+4294967296 ^ m*(l.getD m 0+4294967296*(l.getD (m+1) 0+4294967296*l.getD (m+2) 0)):=by
 have e:l.take (m+3)=l:=aK (by omega);conv=>lhs;rw[<-e]
 rw[C3,C3,C3,aM,aM];grind
theorem Bb3{l:List Nat}(h:l.length=m+2):val l=val (l.take m)+4294967296 ^ m*(l.getD m 0+4294967296*l.getD (m+1) 0):=by
 have e:l.take (m+2)=l:=aK (by omega);conv=>lhs;rw[<-e]
 rw[C3,C3,aM];grind
theorem AR3{l:List Nat}{k:Nat}(h:val l<4294967296 ^ k):val (l.drop k)=0:=by
 rcases aB k l.length with hk | hk
 ·have:=P6 l k (by omega);rcases aU (val (l.drop k)) with h0 | h0
  ·exact h0
  ·have:=aV (4294967296 ^ k) h0;omega
 ·rw[dS hk];rfl
theorem AL6{l:List Nat}{k:Nat}(hk:k<=l.length)(h:val l<4294967296 ^ k):val (l.take k)=val l:=by have:=P6 l k hk;rw[AR3 h] at this;omega
theorem BL3{l:List Nat}{k:Nat}(hd:dig l)(hk:k+m<=l.length)(h:val l<4294967296 ^ (k+m)):val ((l.drop k).take m)=val l / 4294967296 ^ k:=by
 have e1:=P6 l k (by omega);have e2:=N3 hd k (by omega);have hp:0<4294967296 ^ k:=bR (by omega);have e3:val l / 4294967296 ^ k=val (l.drop k):=by rw[e1,gJ _ _ hp,eB e2];omega
 rw[e3];refine AL6 (by simp;omega) ?_;rw[<-e3,bD hp,aT,<-bG];exact h
theorem AV8{l r:List Nat}{k:Nat}(hlen:l.length=r.length)(hl:dig l)(h:∀ j,k<=j->l.getD j 0=r.getD j 0)(hr:val r<4294967296 ^ k):val l<4294967296 ^ k:=by
 rcases aB k l.length with hk | hk
 ·have e:l.drop k=r.drop k:=by
   apply cK;intro i;rw[eR,eR];rcases aB (k+i) l.length with hi | hi
   ·have:=h (k+i) (by omega);rw[aF,aF,aE hi,aE (by omega)] at this;rw[aE hi,aE (by omega)];exact congrArg some this
   ·rw[aH hi,aH (by omega)]
  have:=P6 l k (by omega);rw[e,AR3 hr] at this;have:=N3 hl k (by omega);omega
 ·have:=AS9 hl;have:=aP (show 0<4294967296 by omega) hk;omega
theorem BV9{l:List Nat}(hd:dig l)(hs:s<=31)(hi:i+1<l.length) :
  (val l / 2 ^ s) % 4294967296 ^ (i+1)=(val l / 2 ^ s) % 4294967296 ^ i+4294967296 ^ i*(((l.getD i 0+4294967296*l.getD (i+1) 0) / 2 ^ s) % 4294967296):=by
 have hp:0<4294967296 ^ i:=bR (by omega);have hps:0<2 ^ s:=bR (by omega);have e0:(val l / 2 ^ s) % 4294967296 ^ (i+1)=(val l / 2 ^ s) % 4294967296 ^ i+4294967296 ^ i*((val l / 2 ^ s / 4294967296 ^ i) % 4294967296):=by rw[aM,Nat.mod_mul]
 rw[e0];congr 2;have e1:val l / 2 ^ s / 4294967296 ^ i=val (l.drop i) / 2 ^ s:=by rw[fO,aT,<-fO];congr 1;rw[P6 l i (by omega),gJ _ _ hp,eB (N3 hd i (by omega))];omega
 have e2:val (l.drop i)=(l.getD i 0+4294967296*l.getD (i+1) 0)+2 ^ s*(2 ^ (32-s)*(4294967296*val (l.drop (i+2)))):=by
  rw[bY (show i<l.length by omega),bY (show i+1<l.length by omega),val,val];have h1:l[i]=l.getD i 0:=by rw[aF,aE (by omega)];rfl
  have h2:l[i+1]=l.getD (i+1) 0:=by rw[aF,aE (by omega)];rfl
  rw[h1,h2,<-bF (2 ^ s),<-bG,show s+(32-s)=32 by omega];show _=_+4294967296*_;rw[aJ,show i+1+1=i+2 from rfl];omega
 rw[e1,e2,gJ _ _ hps,show 2 ^ (32-s)*(4294967296*val (l.drop (i+2)))=4294967296*(2 ^ (32-s)*val (l.drop (i+2))) by grind,Nat.add_mul_mod_self_left]
theorem BE4{b:List Nat}(hdb:dig b)(hlb:b.length=m+2)(hs:s<=31)(htops:b.getD (m+1) 0*2 ^ s<4294967296):val b*2 ^ s<4294967296 ^ (m+2):=by
 have hps:0<2 ^ s:=bR (by omega);have e:b.take (m+2)=b:=aK (by omega);have e7:4294967296 ^ (m+2)=4294967296 ^ (m+1)*4294967296:=aM _ _;rw[<-e,C3,e7];have h1:=N3 hdb (m+1) (by omega);have h2:(val (b.take (m+1))+4294967296 ^ (m+1)*b.getD (m+1) 0)*2 ^ s<4294967296 ^ (m+1)*((b.getD (m+1) 0+1)*2 ^ s):=by rw[<-bF];refine gY ?_ hps;rw[aJ];omega
 have h3:(b.getD (m+1) 0+1)*2 ^ s<=4294967296:=by
  have h4:2 ^ s*2 ^ (32-s)=4294967296:=by rw[<-bG,show s+(32-s)=32 by omega]
  have h5:b.getD (m+1) 0<2 ^ (32-s):=by rw[<-h4,aT] at htops;exact fN htops
  rw[<-h4,aT];exact aV _ h5
 have h6:=aV (4294967296 ^ (m+1)) h3;exact bC h2 h6
theorem top_pos{l:List Nat}(hd:dig l)(hl:l.length=m+2)(h:4294967296 ^ (m+1)<=val l):0<l.getD (m+1) 0:=by
 have e:l.take (m+2)=l:=aK (by omega);rw[<-e,C3] at h;have h1:=N3 hd (m+1) (by omega);rcases aU (l.getD (m+1) 0) with h0 | h0
 ·rw[h0] at h;omega
 ·exact h0
theorem top_ge{b:List Nat}(hlb:b.length=m+2)(htop:0<b.getD (m+1) 0):4294967296 ^ (m+1)<=val b:=by have e:b.take (m+2)=b:=aK (by omega);rw[<-e,C3];have:=aV (4294967296 ^ (m+1)) htop;omega
theorem BI7{P y c z q V V' T T':Nat}(h1:V'+P*x=V+P*z)(hdm:4294967296*q+z=x+y+c)(hv:V+P*c=T)(hT:T'=T+P*y):V'+P*4294967296*q=T':=by have:=congrArg (P*·) hdm;simp only[aJ] at this;rw[bF];omega
theorem div_end{A U q:Nat}(hb:0<b)(h:U+b*2 ^ s*q=A*2 ^ s)(hlt:U<b*2 ^ s):A / b=q/\A % b=U / 2 ^ s:=by
 have hps:0<2 ^ s:=bR (by omega);have e:A*2 ^ s=2 ^ s*A:=aT _ _;have e2:b*2 ^ s*q=2 ^ s*(b*q):=by grind
 rw[e,e2] at h;have hle:b*q<=A:=Nat.le_of_mul_le_mul_left (by omega:2 ^ s*(b*q)<=2 ^ s*A) hps;obtain⟨R,hR⟩:∃ R,A=b*q+R:=⟨A-b*q,by omega⟩;subst hR;rw[aJ] at h;have hU:U=2 ^ s*R:=by omega
 subst hU;have hRb:R<b:=by rw[aT b] at hlt;exact fN hlt
 refine⟨?_,?_⟩
 ·rw[Nat.mul_add_div hb,eB hRb];omega
 ·rw[Nat.mul_add_mod,bJ hRb,Nat.mul_div_cancel_left _ hps]
end Go.Proofs.YtpgkacdihhjknaaGreat
