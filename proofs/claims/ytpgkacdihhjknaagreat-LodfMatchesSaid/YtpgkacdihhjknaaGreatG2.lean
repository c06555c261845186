/-
  What the claim leans on.
-/
import Derived.Test.YtpgkacdihhjknaaGreatG1
import Derived.ProofKit
import Derived.OpenShut
import Derived.Deep.Slices
import Derived.Test.YtpgkacdihhjknaaGreatProg
set_option linter.unusedVariables false
set_option linter.unusedSimpArgs false
set_option linter.unnecessarySimpa false
namespace Go.Proofs.YtpgkacdihhjknaaGreat
open Go Go.RowKit Go.ChangeShapes Go.WideShapes Tryz
variable {b n N x i L M m s:Nat}{t:TypeId}{cs:Array Value}{P:Program}{Q:Pst}{σ:Env}{ds:List Deferred}{α:Type}{S:Nat->Prop}{y u:Value}{q:QV}
def Oth (w w':World):Prop:=∀ (k:Nat) (o:Obj),w.heap[k]?=some o->o.isCells=false->w'.heap[k]?=some o
theorem Oth.trans{a b c:World}(h:Oth a b)(h':Oth b c):Oth a c:=λk o ho hc=>h' k o (h k o ho hc) hc
theorem Oth.ext{w w':World}(e:Ext w w'):Oth w w':=λk _ h _=>(e.block k (Array.getElem?_eq_some_iff.1 h).1).trans h
theorem Oth.upd{w w':World}(u:Upd w w' b)(hb:Blk w b t cs):Oth w w':=λk o h hc=>(u.block k (λe=>by
 subst e
 have h':w.heap[k]?=some (.cells cs t (0,0)):=hb
 rw[h'] at h;cases h;cases hc)).trans h
theorem Oth.grown{w w':World}{base:Nat}{sz:Nat}{v:Value}{xs:List Value}(hg:w.grownBy w' v.ownBlock)(ho:w.ownsRow base t sz v n xs):Oth w w':=by
 intro k o h hc;refine (hg.block k (Array.getElem?_eq_some_iff.1 h).1 (λe=>?_)).trans h;rcases ho.2 with ⟨rfl,_⟩ | ⟨g,cap,cur,rfl,_,hh,_⟩
 ·simp[Value.ownBlock] at e
 ·have:k=g:=by simpa[Value.ownBlock] using e
  subst this;rw[hh] at h;cases h;cases hc
structure Sft (D:Nat) (w w':World):Prop where
 below:Below D w w'
 cells:Kp (λ_=>True) w w'
theorem Sft.ext{D:Nat}{w w':World}(e:Ext w w')(h:D<=w.heap.size):Sft D w w':=⟨e.mono h,Kp.ext e⟩
theorem Sft.put{D l:Nat}{w:World}{o o':Obj}(h:D<=l)(hl:w.heap[l]?=some o)(hc:o.isCells=false):Sft D w (w.putObj l o'):=by refine⟨⟨rfl,rfl,rfl,by simp,λk hk=>World.putObj_heap_other (by omega)⟩,λk c t f _ hk=>?_⟩;rw[World.putObj_heap_other (λe=>?_)];exact hk;subst e;rw[hl] at hk;cases hk;cases hc
def BN8:List Tmp->List Value->Env->Env
 | p::ps,v::vs,σ=>BN8 ps vs ((p,v)::σ)
 | _,_,σ=>σ
theorem Ah3 {N:Nat} {ds ds':List Deferred}:∀ (ps:List Tmp) (vs:List Value) (σ:Env) (t:Array Value),(∀ p∈ps,p<N)->Agr N σ ds { tmps:=t,defers:=ds' } ->
  Agr N (BN8 ps vs σ) ds { tmps:=(ps.zip vs).foldl (λt p=>t.setIfInBounds p.1 p.2) t,defers:=ds' }
 | [],_,σ,t,_,h=>by simpa[BN8] using h
 | p::ps,[],σ,t,_,h=>by simpa[BN8] using h
 | p::ps,v::vs,σ,t,hp,h=>by
  have h1:=h.put (d:=some p) (by simpa[dOk,aZ] using hp p (by simp)) v
  exact Ah3 ps vs ((p,v)::σ) (t.setIfInBounds p v) (λq hq=>hp q (by simp[hq])) h1
@[reducible] def rnd (J:World->Prop) (Jx:Code->World->Prop) (W:World):Pst
 | .normal,_,_,W'=>Oth W W'/\J W'
 | .ret,_,_,W'=>Oth W W'/\Jx .ret W'
 | .exit id,_,_,W'=>Oth W W'/\Jx (.exit id) W'
 | _,_,_,_=>False
def Bp9 (P:Program) (gf:FuncId) (lb:Array Value) (n:Nat) (xs:Nat->List Value) (F:World->Prop):Prop :=
 ∀ (l:Nat) (J:Nat->World->Prop) (X:World->Prop),(∀ k W W',J k W->Ext W W'->J k W')->(∀ W W',X W->Ext W W'->X W')->(∀ k W,J k W->F W) ->
  (∀ k W,k<n->J k W->YieldAt (wf none) 0 P l (xs k).toArray W λe W'=>(e=.returned (.bool true)/\J (k+1) W')\/(e=.returned (.bool false)/\X W')) ->
  ∀ W,J 0 W->Calls P gf (#[.func (.yield l) #[] #[]]++lb) W λe W'=>∃ v,e=.returned v/\(J n W'\/X W')
theorem WC.rangeA{w:World}{g:Operand}{ps:List Tmp}{assign body:Code}{gf:FuncId}{lb:Array Value}{xs:Nat->List Value}{F:World->Prop}(hit:Bp9 P gf lb n xs F)(hg:ev σ g=some (.func (.func gf) #[] lb))(hE:Ent P gf)(hps:∀ k,(xs k).length=ps.length)(hpN:∀ p∈ps,p<N)(J:Nat->World->Prop)(Jx:Code->World->Prop)(stJ:∀ k W W',J k W->Sft w.heap.size W W'->J k W')(stX:∀ c W W',Jx c W->Sft w.heap.size W W'->Jx c W')(hF:∀ k W,J k W->F W)(h0:J 0 w)(hbody:∀ l k W,k<n->J k W->w.heap.size<=W.heap.size->WC P (some l) N (thn (λσ1 ds1 W1=>ds1=[]/\Ext W W1/\∀ W2,Sft w.heap.size W1 W2->W2.heap.size=W1.heap.size->WC P (some l) N (rnd (J (k+1)) Jx W2) body σ1 [] W2) (λ_ _ _ _=>False)) assign (BN8 ps (xs k) σ) [] W)(hdone:∀ W,J n W->W.heap[w.heap.size]?=some (.deferred (some []))->Q .normal σ ({ target:=.collected w.heap.size,args:=#[] }::ds) W)(hjump:∀ c W,Jx c W->W.heap[w.heap.size]?=some (.deferred (some []))->WC P none N Q c σ ({ target:=.collected w.heap.size,args:=#[] }::ds) W) :
  WC P none N Q (.rangeFunc g ps.toArray assign body) σ ds w:=by
 refine⟨λa ha=>wpIn_rangeFunc λfn _=>?_⟩;have hev:=ha.ev hg;let rec0:Loop:={ state:=.ready,pending:=none,fn:=fn,tmps:=a.tmps,params:=ps.toArray,assign:=assign,body:=body,defers:=w.heap.size };refine⟨w.heap.size+1,[{ target:=.collected w.heap.size,args:=#[] }],(w.alloc (.deferred (some []))).alloc (.loop rec0),{ target:=.fn (.func gf) lb,args:=#[.func (.yield (w.heap.size+1)) #[] #[]] },(w.alloc (.deferred (some []))).alloc (.loop rec0),gf,#[.func (.yield (w.heap.size+1)) #[] #[]]++lb,(w.alloc (.deferred (some []))).alloc (.loop rec0),
  run_enterLoop_outer fn a.tmps ps.toArray assign body,?_,λ_ _=>trivial,?_,(λh=>(by cases h)),?_⟩
 ·simp only[resolve];rw[hev];simp[Deferred.ofValue,rec0];rfl
 ·simp[invoke,hE _ _]
 let l:=w.heap.size+1
 let D:=w.heap.size
 have hne:D≠l:=by show w.heap.size≠w.heap.size+1;omega
 let Jt:Nat->World->Prop:=λk W=>J k W/\W.heap[l]?=some (.loop rec0)/\W.heap[D]?=some (.deferred (some []))
 let Xt:World->Prop:=λW=>∃ c,Jx c W/\W.heap[l]?=some (.loop { rec0 with state:=.done,pending:=some c })/\W.heap[D]?=some (.deferred (some []))
 have hlt:∀ {W:World} {o:Obj},W.heap[l]?=some o->l<W.heap.size:=λh=>(Array.getElem?_eq_some_iff.1 h).1;have hlt':∀ {W:World} {o:Obj},W.heap[D]?=some o->D<W.heap.size:=λh=>(Array.getElem?_eq_some_iff.1 h).1;have hstart:Jt 0 ((w.alloc (.deferred (some []))).alloc (.loop rec0)):=by
  have e1:=AJ0 w (.deferred (some []));have e2:=AJ0 (w.alloc (.deferred (some []))) (.loop rec0);refine⟨stJ 0 _ _ h0 (Sft.ext (e1.trans e2) (aA _)),?_,?_⟩
  ·have:=World.alloc_heap_new (w.alloc (.deferred (some []))) (.loop rec0);rwa [World.size_alloc] at this
  ·exact (e2.block D (by rw[World.size_alloc];show w.heap.size<w.heap.size+1;omega)).trans (World.alloc_heap_new w _)
 have hcall:=hit l Jt Xt
  (λk W W' ⟨h1,h2,h3⟩ e=>⟨stJ k W W' h1 (Sft.ext e (cH (hlt' h3))),(e.block l (hlt h2)).trans h2,(e.block D (hlt' h3)).trans h3⟩)
  (λW W' ⟨c,h1,h2,h3⟩ e=>⟨c,stX c W W' h1 (Sft.ext e (cH (hlt' h3))),(e.block l (hlt h2)).trans h2,(e.block D (hlt' h3)).trans h3⟩)
  (λk W h=>hF k W h.1)
  (λk W hk ⟨hJ,hl,hD⟩=>by
   refine⟨fn,(ps.zip (xs k)).foldl (λt p=>t.setIfInBounds p.1 p.2) a.tmps,assign,body,?_,?_⟩
   ·have:=run_yield (P:=P) (w:=W) (l:=l) (r:=rec0) (args:=(xs k).toArray) hl (by simp[rec0,hps]);rw[this];simp[rec0]
   ·refine roundIn_of_wpIn trivial ?_;have hag:Agr N (BN8 ps (xs k) σ) [] { tmps:=(ps.zip (xs k)).foldl (λt p=>t.setIfInBounds p.1 p.2) a.tmps,defers:=[] } :=
     Ah3 ps (xs k) σ a.tmps hpN ⟨ha.size,rfl,ha.slot⟩
    refine wpIn_mono ((hbody l k W hk hJ (cH (hlt' hD))).out _ hag) ?_;rintro e a₁ w₁ ⟨σ1,ds1,hag1,hq⟩
    cases e with
    | normal =>
     obtain⟨rfl,hx1,hb⟩:=hq;have hl:=(Oth.ext hx1) l _ hl rfl;have hD:=(Oth.ext hx1) D _ hD rfl;have hput:(w₁.putObj l (.loop { rec0 with state:=.busy })).heap[l]?=some (.loop { rec0 with state:=.busy }):=World.putObj_heap_same (hlt hl);have hputD:(w₁.putObj l (.loop { rec0 with state:=.busy })).heap[D]?=some (.deferred (some [])):=by rw[World.putObj_heap_other hne];exact hD
     refine⟨_,run_beginRound hl rfl,wpIn_mono ((hb _ (Sft.put (show D<=l by show w.heap.size<=w.heap.size+1;omega) hl O) (World.putObj_size ..)).out a₁ hag1) ?_⟩;have hend:∀ (W':World) (j:Option Code),Oth (w₁.putObj l (.loop { rec0 with state:=.busy })) W' ->
       (Instr.endRound l j).run P W'=.ok (.bool j.isNone) (W'.putObj l (.loop { rec0 with state:=if j.isNone then .ready else .done,pending:=j })) /\
       Sft D W' (W'.putObj l (.loop { rec0 with state:=if j.isNone then .ready else .done,pending:=j })) /\
       (W'.putObj l (.loop { rec0 with state:=if j.isNone then .ready else .done,pending:=j })).heap[l]?=some (.loop { rec0 with state:=if j.isNone then .ready else .done,pending:=j }) /\
       (W'.putObj l (.loop { rec0 with state:=if j.isNone then .ready else .done,pending:=j })).heap[D]?=some (.deferred (some [])):=by
      intro W' j ho;have h1:=ho l _ hput rfl;have h2:=ho D _ hputD rfl;refine⟨run_endRound (r:={ rec0 with state:=.busy }) j h1,Sft.put (show D<=l by show w.heap.size<=w.heap.size+1;omega) h1 rfl,World.putObj_heap_same (hlt h1),?_⟩;rw[World.putObj_heap_other hne];exact h2
     rintro e2 a₂ w₂ ⟨σ2,ds2,hag2,hq2⟩
     cases e2 with
     | normal =>
      obtain⟨ho,hj⟩:=hq2;obtain⟨h1,h2,h3,h4⟩:=hend w₂ none ho;exact⟨_,_,h1,.inl ⟨rfl,stJ _ _ _ hj h2,h3,h4⟩⟩
     | ret =>
      obtain⟨ho,hj⟩:=hq2;obtain⟨h1,h2,h3,h4⟩:=hend w₂ (some .ret) ho;exact⟨_,_,h1,.inr ⟨rfl,.ret,stX _ _ _ hj h2,h3,h4⟩⟩
     | exit id =>
      obtain⟨ho,hj⟩:=hq2;obtain⟨h1,h2,h3,h4⟩:=hend w₂ (some (.exit id)) ho;exact⟨_,_,h1,.inr ⟨rfl,.exit id,stX _ _ _ hj h2,h3,h4⟩⟩
     | _=>exact hq2.elim
    | _=>exact hq.elim)
  _ hstart
 refine Ag9.2 (hcall.mono ?_);have hag':Agr N σ ({ target:=.collected w.heap.size,args:=#[] }::ds) { tmps:=a.tmps,defers:=[{ target:=.collected w.heap.size,args:=#[] }]++a.defers }:=⟨ha.size,by rw[ha.defs];rfl,ha.slot⟩;rintro e W ⟨v,rfl,hres⟩;rcases hres with ⟨hJ,hl,hD⟩ | ⟨c,hX,hl,hD⟩
 ·refine⟨none,_,run_endLoop hl (by simp[rec0]),?_⟩;refine⟨σ,_,hag',hdone _ (stJ _ _ _ hJ (Sft.put (show D<=l by show w.heap.size<=w.heap.size+1;omega) hl O)) ?_⟩;rw[World.putObj_heap_other hne];exact hD
 ·refine⟨some c,_,run_endLoop hl (by simp),?_⟩;refine (hjump c _ (stX _ _ _ hX (Sft.put (show D<=l by show w.heap.size<=w.heap.size+1;omega) hl O)) ?_).out _ hag';rw[World.putObj_heap_other hne];exact hD
theorem WC.range{w:World}{g:Operand}{ps:List Tmp}{assign body:Code}{gf:FuncId}{lb:Array Value}{xs:Nat->List Value}{F:World->Prop}(hit:Bp9 P gf lb n xs F)(hg:ev σ g=some (.func (.func gf) #[] lb))(hE:Ent P gf)(hps:∀ k,(xs k).length=ps.length)(hpN:∀ p∈ps,p<N)(J:Nat->World->Prop)(Jx:Code->World->Prop)(stJ:∀ k W W',J k W->Sft w.heap.size W W'->J k W')(stX:∀ c W W',Jx c W->Sft w.heap.size W W'->Jx c W')(hF:∀ k W,J k W->F W)(h0:J 0 w)(hbody:∀ l k W,k<n->J k W->WC P (some l) N (thn (λσ1 ds1 W1=>ds1=[]/\W1=W/\∀ W2,J k W2->w.heap.size<=W2.heap.size->WC P (some l) N (rnd (J (k+1)) Jx W2) body σ1 [] W2) (λ_ _ _ _=>False)) assign (BN8 ps (xs k) σ) [] W)(hdone:∀ W,J n W->W.heap[w.heap.size]?=some (.deferred (some []))->Q .normal σ ({ target:=.collected w.heap.size,args:=#[] }::ds) W)(hjump:∀ c W,Jx c W->W.heap[w.heap.size]?=some (.deferred (some []))->WC P none N Q c σ ({ target:=.collected w.heap.size,args:=#[] }::ds) W) :
  WC P none N Q (.rangeFunc g ps.toArray assign body) σ ds w :=
 .rangeA hit hg hE hps hpN J Jx stJ stX hF h0 (λl k W hk hJ hs=>(hbody l k W hk hJ).mono λe σ1 ds1 W1 h=>by
  cases e with
  | normal=>exact⟨h.1,h.2.1▸Ext.refl _,λW2 h2 hz=>h.2.2 W2 (stJ k _ _ (h.2.1▸hJ) h2) (by rw[hz,h.2.1];exact hs)⟩
  | _=>exact h) hdone hjump
section
variable {P:Program} {ro:Option Nat} {N:Nat} {ds:List Deferred} {ops:Array Oper} {K:Env->World->Prop} {rest:List Oper} {σ:Env} {w:World} {d:Tmp} {ty:TypeId} {pos:String} {af:Array Edge}
theorem WL.yld {l:Nat} {fx:Operand} {xs:List Operand} {ts:Array TypeId} (vs:List Value) {R:Value->World->Prop} (hd:Nat.blt d N=true) (hfx:ev σ fx=some (.func (.yield l) #[] #[])) (hx:xs.map (ev σ)=vs.map some)
  (hy:YieldAt (wf none) 0 P l vs.toArray w λe w'=>∃ v,e=.returned v/\R v w') (k:∀ v w',R v w'->WL P ro N ds ops K rest ((d,v)::σ) w') :
  WL P ro N ds ops K (⟨some d,.call { callee:=.value fx,args:=xs.toArray,argTypes:=ts },ty,pos,af,none⟩::rest) σ w:=by
 refine⟨λa ha=>wpListIn_plain O λK' hK=>?_⟩;obtain⟨fn,tmps,assign,body,hrun,hR⟩:=hy;refine⟨λ_ _=>trivial,?_⟩;show Oper.uponIn (wf ro) 0 P _ a K' _ ((Oper.semAt ro a.eval _).run P w);rw[Aj5 (by intro c h;cases h)];have h1:=ha.ev hfx;have h2:xs.map a.eval=vs:=AT1 (σ:=σ) (λx v _ hx'=>ha.ev hx') hx;have hex:(execOp a.eval { dst:=some d,op:=.call { callee:=.value fx,args:=xs.toArray,argTypes:=ts },type:=ty,pos:=pos,after:=af,guard:=none }).run P w=.ok (.round l fn tmps assign body) w:=by simp[execOp,resolve,h1,h2,Deferred.ofValue,invoke,hrun]
 rw[hex];refine⟨λh=>(by cases h),?_⟩;have hR':RoundIn (wf ro) (0-1) P l fn tmps assign body w λe w'=>∃ v,e=.returned v/\R v w':=hR;refine hR'.mono ?_;rintro e w' ⟨v,rfl,hv⟩;exact hK _ _ ((k v w' hv).out _ (ha.put (d:=some d) hd v))
end
def sg (neg:Bool) (n:Nat):Int:=if neg then -(n:Int) else n
def A6 (z:ZV):Int:=sg z.neg (val z.w)
def zc (n:Int):ZV:=⟨decide (n<0),wds n.natAbs⟩
theorem Ae7(neg:Bool):zc (sg neg 0)=⟨false,[]⟩:=by cases neg<;>simp[zc,sg,M7]
theorem Bg1(neg:Bool)(h:n≠0):zc (sg neg n)=⟨neg,wds n⟩:=by
 cases neg
 ·simp[zc,sg]
 ·have:0<n:=by omega
  simp[zc,sg,this]
theorem D0(n:Int):A6 (zc n)=n:=by unfold A6 zc sg;simp only[E9,decide_eq_true_eq];split<;>omega
theorem Q5(n:Nat):IntKind.u32.wrap (n:Int)=((n % 4294967296:Nat):Int):=by rw[IntKind.wrap_u32];omega
theorem AC9(n:Nat):IntKind.u64.wrap (n:Int)=((n % 18446744073709551616:Nat):Int):=by rw[IntKind.wrap_u64];omega
theorem AY2(n k:Nat):((n:Int).fdiv ((2:Int) ^ k))=((n / 2 ^ k:Nat):Int):=by rw[Int.fdiv_eq_ediv_of_nonneg _ (by exact Int.le_of_lt (Int.pow_pos (by omega)))];rw[Int.natCast_ediv,Int.natCast_pow];rfl
theorem Ao7(n:Nat):((n:Int).fdiv ((2:Int) ^ (min (32:Int).toNat IntKind.u64.bits)))=((n / 4294967296:Nat):Int):=AY2 n 32
theorem BU4(n:Nat)(h:n<4294967296):IntKind.u64.wrap ((n:Int)*2 ^ (min (32:Int).toNat IntKind.u64.bits))=((n*4294967296:Nat):Int):=by
 have:((n:Int)*2 ^ (min (32:Int).toNat IntKind.u64.bits))=((n*4294967296:Nat):Int):=by show ((n:Int)*2 ^ 32)=_;omega
 rw[this,AC9];congr 1;omega
theorem Bc6(x y:Nat)(hx:x<18446744073709551616)(hy:y<18446744073709551616) :
  IntKind.u64.wrap (BitVec.ofInt IntKind.u64.bits (x:Int) ||| BitVec.ofInt IntKind.u64.bits (y:Int)).toNat=((x ||| y:Nat):Int):=by
 show IntKind.u64.wrap (BitVec.ofInt 64 (x:Int) ||| BitVec.ofInt 64 (y:Int)).toNat=_;rw[BitVec.toNat_or,BitVec.toNat_ofInt,BitVec.toNat_ofInt];have e1:((x:Int) % ((2 ^ 64:Nat):Int)).toNat=x:=by omega
 have e2:((y:Int) % ((2 ^ 64:Nat):Int)).toNat=y:=by omega
 rw[e1,e2,AC9];congr 1;exact bJ (Nat.or_lt_two_pow (n:=64) hx hy)
theorem or32(x y:Nat)(hx:x<4294967296):(x ||| (y*4294967296))=x+4294967296*y:=by have:=Nat.shiftLeft_add_eq_or_of_lt (i:=32) (b:=x) hx y;rw[Nat.shiftLeft_eq,show (2:Nat) ^ 32=4294967296 from rfl,Nat.or_comm] at this;rw[<-this];omega
theorem dig_nil:dig []:=by simp[dig]
theorem Bz6{l:List Nat}:dig (x::l)<->x<4294967296/\dig l:=by simp[dig]
theorem K9(f:α->Value)(hf:∀ x,(f x).cells=#[f x])(l:List α):cellsOf (l.map f)=l.map f:=by
 induction l with
 | nil=>rfl
 | cons x l ih =>
  simp only[cellsOf] at ih;simp only[cellsOf,dT,fJ,ih,hf];rfl
theorem BC0{w:World}{l:List Nat}{c:Nat}(hb:Blk w b t (l.map λ(x:Nat)=>Value.int .u32 x).toArray)(hS:S b)(hd:dig l)(hl:l.length<=c)(hm:l.length<=9223372036854775807) :
  eW.R S w (.slice (some ⟨b,0,none⟩) l.length c) l:=by
 refine RL.ofBlk (es:=l.map λ(x:Nat)=>Value.int .u32 x) hb hS ⟨by simp,λi e x he hx=>?_⟩ (λj u hu=>?_) hl hm
 ·rw[aI,hx] at he;simp at he;exact⟨he.symm,hd x (List.mem_iff_getElem?.2 ⟨i,hx⟩)⟩
 ·have:=K9 (λ(x:Nat)=>Value.int .u32 x) (λ_=>rfl) l;rw[this] at hu;simpa using hu
section
variable {P:Program} {ro:Option Nat} {N:Nat} {Q:Pst} {σ:Env} {ds:List Deferred} {w:World}
theorem WC.mid {α:Type} {x y:Code} (E:α->Env) (F:α->World->Prop) (h1:WC P ro N (thn (λσ' ds' w'=>ds'=ds/\∃ a,(∀ t v,look (E a) t=some v->look σ' t=some v)/\F a w') Q) x σ ds w)
  (h2:∀ a w',F a w'->WC P ro N Q y (E a) ds w'):WC P ro N Q (x.seq y) σ ds w :=
 WC.seq (h1.mono λe σ' ds' w' h=>by
  cases e with
  | normal=>obtain⟨rfl,a,he,hf⟩:=h;exact (h2 a w' hf).weak _ he
  | _=>exact h)
end
section
variable {P:Program} {ro:Option Nat} {N:Nat} {ds:List Deferred} {ops:Array Oper} {K:Env->World->Prop} {rest:List Oper} {σ:Env} {w:World} {d:Tmp} {ty:TypeId} {pos:String} {af:Array Edge}
theorem WL.callG {f:FuncId} {xs:List Operand} {ts:Array TypeId} (vs:List Value) {R:Value->World->Prop} (hd:Nat.blt d N=true) (hf:Ent P f) (hx:xs.map (ev σ)=vs.map some) (hc:Calls P f vs.toArray w λe w'=>∃ v,e=.returned v/\R v w')
  (k:∀ v w',R v w'->WL P ro N ds ops K rest ((d,v)::σ) w') :
  WL P ro N ds ops K (⟨some d,.call { callee:=.value (.func f),args:=xs.toArray,argTypes:=ts },ty,pos,af,none⟩::rest) σ w :=
 WL.gv O hd (g_callG vs hf hx hc) k
theorem WL.callvG {f:FuncId} {fx:Operand} {xs:List Operand} {ts:Array TypeId} {cap:Array Value} (vs:List Value) {R:Value->World->Prop} (hd:Nat.blt d N=true) (hfx:ev σ fx=some (.func (.func f) #[] cap)) (hf:Ent P f)
  (hx:xs.map (ev σ)=vs.map some) (hc:Calls P f (vs.toArray++cap) w λe w'=>∃ v,e=.returned v/\R v w') (k:∀ v w',R v w'->WL P ro N ds ops K rest ((d,v)::σ) w') :
  WL P ro N ds ops K (⟨some d,.call { callee:=.value fx,args:=xs.toArray,argTypes:=ts },ty,pos,af,none⟩::rest) σ w :=
 WL.gv O hd (AY1 vs hfx hf hx hc) k
end
section
variable {P:Program} {σ:Env} {w:World} {d:Option Tmp} {ty:TypeId} {pos:String} {af:Array Edge} {g:Option (Nat×Bool)}
theorem G6 {t e:TypeId} {x ix:Operand} {k:IntKind} {i:Nat} {b:Bool} {sz blk off n c:Nat} (ht:P.underlying t=some (.slice e)) (he:F6 P e=some (b,sz)) (hx:ev σ x=some (.slice (some ⟨blk,off,none⟩) n c))
  (hi:ev σ ix=some (.int k (i:Int))) (hlt:i<n):Vl P ⟨d,.indexAddr t x ix,ty,pos,af,g⟩ σ w (.pointer (some ⟨blk,off+i*sz,none⟩)):=by
 refine⟨(by intro _ h;cases h),λρ hρ=>?_⟩;have h1:=hρ x _ (by simp[Op.operands]) hx;have h2:=hρ ix _ (by simp[Op.operands]) hi;simp[execOp,h1,h2,Instr.indexAt,asIntOf,run_underlying ht,(L0 he w).2,S8];intro hh;omega
theorem Bb2 {t e:TypeId} {x:Operand} {b:Bool} {sz blk off n c:Nat} (lo hi:Option Operand) (L H:Nat) (ht:P.underlying t=some (.slice e)) (he:F6 P e=some (b,sz)) (hx:ev σ x=some (.slice (some ⟨blk,off,none⟩) n c))
  (hlo:match lo with | none=>L=0 | some y=>∃ k,ev σ y=some (.int k (L:Int))) (hhi:match hi with | none=>H=n | some y=>∃ k,ev σ y=some (.int k (H:Int))) (h1:L<=H) (h2:H<=c) (h3:L<c) :
  Vl P ⟨d,.slice t x lo hi none,ty,pos,af,g⟩ σ w (.slice (some ⟨blk,off+L*sz,none⟩) (H-L) (c-L)):=by
 refine⟨(by intro _ h;cases h),λρ hρ=>?_⟩;have e1:=hρ x _ (by simp[Op.operands]) hx;have hb1:(Instr.sliceBounds true n c (lo.map ρ) (hi.map ρ) none).run P w=.ok (L,H,c) w:=by
  cases lo with
  | none =>
   cases hi with
   | none=>simp at hlo hhi;subst hlo;subst hhi;simp[Instr.sliceBounds]
   | some y =>
    simp at hlo;obtain⟨k,hk⟩:=hhi;have:=hρ y _ (by simp[Op.operands]) hk;subst hlo;simp[Instr.sliceBounds,Instr.sliceBound,this,asIntOf,Int.ofNat_le,h2]
  | some z =>
   obtain⟨k',hk'⟩:=hlo;have e2:=hρ z _ (by simp[Op.operands]) hk'
   cases hi with
   | none =>
    simp at hhi;subst hhi;simp[Instr.sliceBounds,Instr.sliceBound,e2,asIntOf,h1]
   | some y =>
    obtain⟨k,hk⟩:=hhi;have:=hρ y _ (by simp[Op.operands]) hk;simp[Instr.sliceBounds,Instr.sliceBound,this,e2,asIntOf,h2,h1]
 have hne:¬ c=L:=by omega
 simp[execOp,e1,Instr.sliceAt,run_underlying ht,Instr.slice,hb1,(L0 he w).2,hne,S8]
end
section
variable {P:Program} {ro:Option Nat} {N:Nat} {ds:List Deferred} {ops:Array Oper} {K:Env->World->Prop} {rest:List Oper} {σ:Env} {w:World} {d:Tmp} {ty:TypeId} {pos:String} {af:Array Edge}
theorem WL.ixB {t e:TypeId} {x ix:Operand} {k:IntKind} {i:Nat} {b:Bool} {sz blk off n c:Nat} (ht:P.underlying t=some (.slice e)) (he:F6 P e=some (b,sz)) (hd:Nat.blt d N=true) (hx:ev σ x=some (.slice (some ⟨blk,off,none⟩) n c))
  (hi:ev σ ix=some (.int k (i:Int))) (hlt:i<n) (kk:WL P ro N ds ops K rest ((d,.pointer (some ⟨blk,off+i*sz,none⟩))::σ) w):WL P ro N ds ops K (⟨some d,.indexAddr t x ix,ty,pos,af,none⟩::rest) σ w :=
 WL.vl O hd (G6 ht he hx hi hlt) kk
theorem WL.cutB {t e:TypeId} {x:Operand} {b:Bool} {sz blk off n c:Nat} {lo hi:Option Operand} (L H:Nat) (ht:P.underlying t=some (.slice e)) (he:F6 P e=some (b,sz)) (hd:Nat.blt d N=true) (hx:ev σ x=some (.slice (some ⟨blk,off,none⟩) n c))
  (hlo:match lo with | none=>L=0 | some y=>∃ k,ev σ y=some (.int k (L:Int))) (hhi:match hi with | none=>H=n | some y=>∃ k,ev σ y=some (.int k (H:Int))) (h1:L<=H) (h2:H<=c) (h3:L<c)
  (kk:WL P ro N ds ops K rest ((d,.slice (some ⟨blk,off+L*sz,none⟩) (H-L) (c-L))::σ) w):WL P ro N ds ops K (⟨some d,.slice t x lo hi none,ty,pos,af,none⟩::rest) σ w :=
 WL.vl O hd (Bb2 lo hi L H ht he hx hlo hhi h1 h2 h3) kk
end
theorem Vl.eq{o:Oper}{w:World}{v v':Value}(h:Vl P o σ w v)(e:v=v'):Vl P o σ w v':=e▸h
abbrev wv (x:Nat):Value:=.int .u32 x
def P0 (t:TypeId) (base:Nat) (w:World) (v:Value) (r:List Nat):Prop:=w.ownsRow base t 1 v r.length (r.map wv)/\dig r
theorem P0.keep{base:Nat}{w w':World}{v:Value}{r:List Nat}(h:P0 t base w v r)(hk:∀ k cs,base<=k->Blk w k t cs->Blk w' k t cs):P0 t base w' v r:=by
 refine⟨⟨h.1.1,?_⟩,h.2⟩;rcases h.1.2 with hn | ⟨g,cap,cur,hv,hb,hg,rest⟩
 ·exact .inl hn
 ·exact .inr ⟨g,cap,cur,hv,hb,hk g cur hb hg,rest⟩
theorem P0.kp{base:Nat}{w w':World}{v:Value}{r:List Nat}(h:P0 t base w v r)(hk:Kp (λ_=>True) w w'):P0 t base w' v r:=h.keep λk cs _ hb=>hk.blk trivial hb
theorem P0.ext{base:Nat}{w w':World}{v:Value}{r:List Nat}(h:P0 t base w v r)(e:Ext w w'):P0 t base w' v r:=h.kp (Kp.ext e)
theorem P0.upd{t':TypeId}{base:Nat}{w w':World}{v:Value}{r:List Nat}(h:P0 t base w v r)(hu:Upd w w' b)(hb:Blk w b t' cs)(ht:t≠t'):P0 t base w' v r :=
 h.keep λk c _ hk=>hk.upd hu λe=>by
  subst e
  have h1:w.heap[k]?=some (.cells c t (0,0)):=hk
  have h2:w.heap[k]?=some (.cells cs t' (0,0)):=hb
  rw[h1] at h2;cases h2;exact ht rfl
theorem P0.gblk{t':TypeId}{base:Nat}{w w':World}{v:Value}{r:List Nat}(h:P0 t base w v r)(hg:w.grownBy w' v.ownBlock)(hb:Blk w b t' cs)(ht:t≠t'):Blk w' b t' cs:=by
 refine (hg.block b hb.lt λe=>?_).trans hb;rcases h.1.2 with ⟨rfl,_⟩ | ⟨g,cap,cur,rfl,_,hgg,_⟩
 ·simp[Value.ownBlock] at e
 ·have:b=g:=by simpa[Value.ownBlock] using e
  subst this;have h2:w.heap[b]?=some (.cells cs t' (0,0)):=hb;rw[hgg] at h2;cases h2;exact ht rfl
theorem P0.below{base:Nat}{w0 w w':World}{v:Value}{r:List Nat}(h:P0 t base w v r)(hg:w.grownBy w' v.ownBlock)(hb:Below base w0 w)(hB:base<=w.heap.size):Below base w0 w' :=
 hb.grown hg hB λk hk=>(h.1.lt k hk).1
theorem P0.oth{base:Nat}{w w':World}{v:Value}{r:List Nat}(h:P0 t base w v r)(hg:w.grownBy w' v.ownBlock):Oth w w':=Oth.grown hg h.1
theorem P0.made{base c:Nat}{w w':World}(hn:New w w' b t (cellsOf (List.replicate c (.int .u32 0))).toArray)(hb:base<=w.heap.size)(hc:c<=9223372036854775807):P0 t base w' (.slice (some ⟨b,0,none⟩) 0 c) []:=by obtain⟨_,hk,hb',_⟩:=hn;refine⟨⟨rfl,.inr ⟨b,c,_,rfl,by omega,hk,aC _,by simpa[maxLen] using hc,?_,by simp⟩⟩,by simp[dig]⟩;rw[dJ,E6 (sz:=1) _ (λe he=>by rw[(List.mem_replicate.1 he).2];rfl)];simp
theorem P0.toR{base:Nat}{w:World}{v:Value}{r:List Nat}(h:P0 t base w v r)(hS:∀ k,base<=k->S k):eW.R S w v r:=by
 refine RL.ofOwn (E:=AQ8) (es:=r.map wv) (base:=base) (t:=t) (n:=r.length) ?_ O ⟨by simp,λi e x he hx=>?_⟩ hS
 ·rw[K9 wv (λ_=>rfl)];exact h.1
 ·rw[aI,hx] at he;simp at he;exact⟨he.symm,h.2 x (List.mem_iff_getElem?.2 ⟨i,hx⟩)⟩
section
variable {P:Program} {σ:Env} {w:World} {d:Option Tmp} {ty:TypeId} {pos:String} {af:Array Edge} {g:Option (Nat×Bool)}
theorem Ao5 {t e:TypeId} {x y:Operand} {base b:Nat} {v:Value} {r:List Nat} {n:Nat} (ht:P.underlying t=some (.slice e)) (hi:O8 P e=some (.int .u32 0,1,4)) (hx:ev σ x=some v) (hy:ev σ y=some (.slice (some ⟨b,0,none⟩) 1 1))
  (hown:P0 e base w v r) (hb:Blk w b e #[wv n]) (hn:n<4294967296) (hl:r.length<=1099511627776) (hbase:base<=w.heap.size) :
  Gv P ⟨d,.call { callee:=.builtin .append,args:=#[x,y],argTypes:=#[t,t] },ty,pos,af,g⟩ σ w λv' w'=>P0 e base w' v' (r++[n])/\w.grownBy w' v.ownBlock:=by
 refine (BB1 [wv n] ht hi O (by decide) hx hy hown.1 O (λj u hu=>?_) (λu hu=>?_) (by omega) (by omega) hbase).mono ?_
 ·cases j with
  | zero=>simp at hu;subst hu;rw[S8,hb.cell];rfl
  | succ j=>simp at hu
 ·simp at hu;subst hu;rfl
 ·rintro v' w' ⟨h1,h2⟩;refine⟨⟨by simpa using h1,?_⟩,h2⟩;intro y hy;rcases List.mem_append.1 hy with h | h
  ·exact hown.2 y h
  ·simp at h;subst h;exact hn
end
@[reducible] def Wv (S:Nat->Prop) (n L:Nat):Value->World->Prop:=λv w=>∃ r,eW.R S w v r/\val r=n/\r.length<=L
theorem st_wv(S:Nat->Prop)(n L:Nat):St (Wv S n L):=λ_ _ _ e ⟨r,h1,h2⟩=>⟨r,h1.ext e,h2⟩
theorem AP7(l:List Nat)(x:Nat):val (l++[x])=val l+4294967296 ^ l.length*x:=by rw[AR7];simp[val]
theorem F1(l:List Nat)(k:Nat):val (l.take (k+1))=val (l.take k)+4294967296 ^ k*l.getD k 0:=by
 rcases aB k l.length with h | h
 ·rw[fN h,AP7,cI,cJ (by omega)];simp[aF,aE h]
 ·rw[aK (by omega),aK h];simp[aF,aH h]
theorem J6{l:List Nat}(h:dig l)(k:Nat):l.getD k 0<4294967296:=by
 rw[aF]
 cases hk:l[k]? with
 | none=>simp
 | some x=>exact h x (List.mem_iff_getElem?.2 ⟨k,hk⟩)
theorem X8{B D:Nat}{w0 w:World}{o:Obj}(h:Below B w0 w)(hD:B<=D):Below B w0 (w.putObj D o) :=
 h.trans ⟨rfl,rfl,rfl,by simp,λk hk=>World.putObj_heap_other (by omega)⟩
theorem Kp.put{D:Nat}{w:World}{o o':Obj}(hl:w.heap[D]?=some o)(hc:o.isCells=false):Kp S w (w.putObj D o'):=by intro k c t f _ hk;rw[World.putObj_heap_other (λe=>?_)];exact hk;subst e;rw[hl] at hk;cases hk;cases hc
def OB (t:TypeId) (w:World) (g:Nat) (U:List Nat):Prop:=dig U/\∃ cs,Blk w g t cs/\∀ (i x:Nat),U[i]?=some x->cs[i]?=some (wv x)
section
variable {t:TypeId} {w w':World} {g:Nat} {U:List Nat}
theorem OB.lt (h:OB t w g U):g<w.heap.size:=by obtain⟨_,cs,hb,_⟩:=h;exact hb.lt
theorem OB.ext (h:OB t w g U) (e:Ext w w'):OB t w' g U:=by obtain⟨hd,cs,hb,hc⟩:=h;exact⟨hd,cs,hb.ext e,hc⟩
theorem OB.upd {b:Nat} (h:OB t w g U) (u:Upd w w' b) (hne:g≠b):OB t w' g U:=by obtain⟨hd,cs,hb,hc⟩:=h;exact⟨hd,cs,hb.upd u hne,hc⟩
theorem OB.toR {S:Nat->Prop} (h:OB t w g U) (hS:S g) (k m c:Nat) (hkm:k+m<=U.length) (hmc:m<=c) (hb:m<=9223372036854775807):eW.R S w (.slice (some ⟨g,k,none⟩) m c) ((U.drop k).take m):=by
 obtain⟨hd,cs,hB,hc⟩:=h;have hl:((U.drop k).take m).length=m:=by simp;omega
 refine⟨((U.drop k).take m).map wv,⟨by simp,λi e x he hx=>?_⟩,some ⟨g,k,none⟩,c,by rw[hl],by omega,by omega,?_,λ_=>⟨_,rfl,hS,λj u hu=>?_⟩⟩
 ·rw[aI,hx] at he;simp at he;refine⟨he.symm,hd x ?_⟩;exact gW (eO (List.mem_iff_getElem?.2 ⟨i,hx⟩))
 ·rw[K9 wv (λ_=>rfl),dC,hl];exact (cT m).symm
 ·rw[K9 wv (λ_=>rfl),aI] at hu;rw[S8];refine⟨?_,hB.frozen _⟩;rw[hB.cell]
  cases hx:((U.drop k).take m)[j]? with
  | none=>rw[hx] at hu;cases hu
  | some x =>
   rw[hx] at hu;simp at hu;subst hu;refine hc _ _ ?_;rw[cP] at hx;split at hx
   ·rw[eR] at hx;exact hx
   ·cases hx
theorem OB.toR0 {S:Nat->Prop} {c:Nat} (h:OB t w g U) (hS:S g) (hmc:U.length<=c) (hb:U.length<=9223372036854775807):eW.R S w (.slice (some ⟨g,0,none⟩) U.length c) U:=by have:=h.toR hS 0 U.length c (by omega) hmc hb;simpa using this
theorem P0.ob {base:Nat} {v:Value} (h:P0 t base w v U) (hne:U≠[]):∃ g cap,v=.slice (some ⟨g,0,none⟩) U.length cap/\U.length<=cap/\cap<=9223372036854775807/\base<=g/\OB t w g U:=by
 rcases h.1.2 with ⟨_,h0⟩ | ⟨g,cap,cur,hv,hb,hg,h1,h2,h3,h4⟩
 ·exact absurd (List.length_eq_zero_iff.1 h0) hne
 ·refine⟨g,cap,hv,h1,by simpa[maxLen] using h2,hb,h.2,cur,hg,λi x hx=>?_⟩;have:(cur.toList.take (U.length*1))[i]?=some (wv x):=by rw[h4,aI,hx];rfl
  rw[cP] at this;split at this
  ·simpa using this
  ·cases this
theorem OB.made {b c:Nat} (hn:New w w' b t (cellsOf (List.replicate c (.int .u32 0))).toArray):OB t w' b (List.replicate c 0):=by
 obtain⟨_,hk,_,_⟩:=hn;refine⟨λx hx=>by rw[(List.mem_replicate.1 hx).2];omega,_,hk,λi x hx=>?_⟩;have:cellsOf (List.replicate c (Value.int .u32 0))=(List.replicate c 0).map wv:=by have h:=K9 wv (λ_=>rfl) (List.replicate c 0);rw[<-h,List.map_replicate];rfl
 rw[this];simp only[bN,aI,hx,cY]
end
section
variable {P:Program} {ro:Option Nat} {N:Nat} {ds:List Deferred} {ops:Array Oper} {K:Env->World->Prop} {rest:List Oper} {σ:Env} {w:World} {d:Tmp} {ty:TypeId} {pos:String} {af:Array Edge}
theorem BT2 {dd:Option Tmp} {gd:Option (Nat×Bool)} {t e:TypeId} {x ix:Operand} {k:IntKind} {i:Nat} {b:Bool} {blk off n c:Nat} (ht:P.underlying t=some (.slice e)) (he:F6 P e=some (b,1)) (hx:ev σ x=some (.slice (some ⟨blk,off,none⟩) n c))
  (hi:ev σ ix=some (.int k (i:Int))) (hlt:i<n):Vl P ⟨dd,.indexAddr t x ix,ty,pos,af,gd⟩ σ w (.pointer (some ⟨blk,off+i,none⟩)):=by
 have:=G6 (d:=dd) (g:=gd) (ty:=ty) (pos:=pos) (af:=af) (w:=w) ht he hx hi hlt;rwa [cT] at this
theorem WL.ixW {t e:TypeId} {x ix:Operand} {k:IntKind} {i:Nat} {b:Bool} {blk off n c:Nat} (ht:P.underlying t=some (.slice e)) (he:F6 P e=some (b,1)) (hd:Nat.blt d N=true) (hx:ev σ x=some (.slice (some ⟨blk,off,none⟩) n c))
  (hi:ev σ ix=some (.int k (i:Int))) (hlt:i<n) (kk:WL P ro N ds ops K rest ((d,.pointer (some ⟨blk,off+i,none⟩))::σ) w):WL P ro N ds ops K (⟨some d,.indexAddr t x ix,ty,pos,af,none⟩::rest) σ w :=
 WL.vl O hd (BT2 ht he hx hi hlt) kk
theorem Bg3 {dd:Option Tmp} {gd:Option (Nat×Bool)} {t t':TypeId} {x:Operand} {g i y:Nat} {U:List Nat} (ht:F6 P t=some (false,1)) (hx:ev σ x=some (.pointer (some ⟨g,i,none⟩))) (h:OB t' w g U) (hi:U[i]?=some y) :
  Vl P ⟨dd,.load t x,ty,pos,af,gd⟩ σ w (wv y):=by
 obtain⟨_,cs,hb,hc⟩:=h;exact E2 ht hx hb (hc i y hi)
theorem WL.ldO {t t':TypeId} {x:Operand} {g i y:Nat} {U:List Nat} (ht:F6 P t=some (false,1)) (hd:Nat.blt d N=true) (hx:ev σ x=some (.pointer (some ⟨g,i,none⟩))) (h:OB t' w g U) (hi:U[i]?=some y)
  (k:WL P ro N ds ops K rest ((d,wv y)::σ) w):WL P ro N ds ops K (⟨some d,.load t x,ty,pos,af,none⟩::rest) σ w:=WL.vl O hd (Bg3 ht hx h hi) k
theorem g_stO {dd:Option Tmp} {gd:Option (Nat×Bool)} {t t':TypeId} {x y:Operand} {g i n:Nat} {U:List Nat} (ht:F6 P t=some (false,1)) (hx:ev σ x=some (.pointer (some ⟨g,i,none⟩))) (hy:ev σ y=some (wv n)) (h:OB t' w g U) (hi:i<U.length) (hn:n<4294967296) :
  Gv P ⟨dd,.store t x y,ty,pos,af,gd⟩ σ w λ_ w'=>OB t' w' g (U.set i n)/\Upd w w' g:=by
 obtain⟨hd,cs,hb,hc⟩:=h;have hsz:i<cs.size:=by
  have:=hc i _ (aE hi);rcases aB i cs.size with h | h
  ·exact h
  ·rw[cX h] at this;cases this
 refine (T5 ht hx hy hb O (by omega) (by simp[H3,Value.cells])).mono ?_;rintro _ w' ⟨h1,h2⟩;refine⟨⟨λx hx=>?_,_,h1,λj x hx=>?_⟩,h2⟩
 ·rcases eT hx with h | h
  ·exact hd x h
  ·omega
 ·have hcl:(wv n).cells.toList=[wv n]:=rfl;rw[hcl,Aa1 _ _ _ _ (by simp;omega),List.length_singleton];rw[dB] at hx;by_cases e:i=j
  ·subst e;rw[if_pos rfl,if_pos hi] at hx
   cases hx;rw[if_pos (by omega)];simp
  ·rw[if_neg e] at hx;rw[if_neg (by omega)];exact hc j x hx
theorem WL.stO {t t':TypeId} {x y:Operand} {dd:Option Tmp} {g i n:Nat} {U:List Nat} (ht:F6 P t=some (false,1)) (hd:dd=none) (hx:ev σ x=some (.pointer (some ⟨g,i,none⟩))) (hy:ev σ y=some (wv n)) (h:OB t' w g U) (hi:i<U.length) (hn:n<4294967296)
  (k:∀ w',OB t' w' g (U.set i n)->Upd w w' g->WL P ro N ds ops K rest σ w'):WL P ro N ds ops K (⟨dd,.store t x y,ty,pos,af,none⟩::rest) σ w:=by
 subst hd;exact WL.gv O O (g_stO ht hx hy h hi hn) λ_ w' ⟨h1,h2⟩=>k w' h1 h2
end
section
variable {P:Program} {σ:Env} {w:World} {d:Option Tmp} {ty:TypeId} {pos:String} {af:Array Edge} {g:Option (Nat×Bool)}
theorem Bi2 {x:Operand} {u:Value} {R:Value->World->Prop} (hx:ev σ x=some u) (h:R u w) (hs:St R):Gv P ⟨d,.assign x,ty,pos,af,g⟩ σ w λv' w'=>Ext w w'/\Sp.ok (.inr R) v' w' :=
 (AR9 hx).gv.mono λv' w' ⟨e1,e2⟩=>by subst e1;subst e2;exact⟨Ext.refl _,λ_ e=>hs _ _ _ e h⟩
theorem ob_mv {x:Operand} {u:Value} {R:Value->World->Prop} (hx:ev σ x=some u) (h:R u w) (hs:St R):Gv P ⟨d,.move x,ty,pos,af,g⟩ σ w λv' w'=>Ext w w'/\Sp.ok (.inr R) v' w' :=
 (v_mv hx).gv.mono λv' w' ⟨e1,e2⟩=>by subst e1;subst e2;exact⟨Ext.refl _,λ_ e=>hs _ _ _ e h⟩
theorem K5 {o:Oper} {u:Value} {R:Value->World->Prop} (hv:Vl P o σ w u) (h:R u w) (hs:St R):Gv P o σ w λv' w'=>Ext w w'/\Sp.ok (.inr R) v' w' :=
 hv.gv.mono λv' w' ⟨e1,e2⟩=>by subst e1;subst e2;exact⟨Ext.refl _,λ_ e=>hs _ _ _ e h⟩
end
theorem AR6{l:List Nat}{y:Nat}(x:Nat)(h:l[i]?=some y):val (l.set i x)+4294967296 ^ i*y=val l+4294967296 ^ i*x:=by
 have hlt:i<l.length:=by
  rcases aB i l.length with h' | h'
  ·exact h'
  ·rw[aH h'] at h;cases h
 rw[Aa3 h,Aa3 (l:=l.set i x) (i:=i) (x:=x) (by rw[dB,if_pos rfl,if_pos hlt])];rw[List.take_set_of_le (aA _),List.drop_set_of_lt (by omega)];generalize val (l.drop (i+1))=D;rw[aJ,aJ];omega
theorem shl_nat(x s:Nat)(hs:s<=31)(hx:x<4294967296):IntKind.u64.wrap ((x:Int)*2 ^ (min (s:Int).toNat IntKind.u64.bits))=((x*2 ^ s:Nat):Int):=by
 have h1:min (s:Int).toNat IntKind.u64.bits=s:=by show min (s:Int).toNat 64=s;omega
 rw[h1,show ((x:Int)*2 ^ s)=((x*2 ^ s:Nat):Int) by simp,AC9,bJ];have:2 ^ s<=2 ^ 31:=aQ (by omega) hs;have:=dD (show x<=4294967296 by omega) this;omega
theorem shr_nat(x s:Nat)(hs:s<=63):((x:Int).fdiv ((2:Int) ^ (min (s:Int).toNat IntKind.u64.bits)))=((x / 2 ^ s:Nat):Int):=by
 have h1:min (s:Int).toNat IntKind.u64.bits=s:=by show min (s:Int).toNat 64=s;omega
 rw[h1];exact AY2 x s
theorem Bv4(q x:Nat)(hx:x<4294967296)(hq:q<4294967296):IntKind.u64.wrap (BitVec.ofInt IntKind.u64.bits ((q*4294967296:Nat):Int) ||| BitVec.ofInt IntKind.u64.bits (x:Int)).toNat=((x+4294967296*q:Nat):Int):=by rw[Bc6 _ _ (by omega) (by omega),Nat.or_comm,or32 x q hx]
theorem AB0(a b:Nat):(a:Int).tdiv (b:Int)=((a / b:Nat):Int):=rfl
theorem AA9(a b:Nat):(a:Int).tmod (b:Int)=((a % b:Nat):Int):=rfl
theorem BQ7(w:World)(base:Nat)(t ty e:TypeId)(i:TypeInfo)(z:Value)(ht:P.underlying t=some (.slice e))(hi:P.info? e=some i)(hz:i.zero=some z)(hzs:z.cells.size=i.size)(hsz:0<i.size)(v:Value)(n:Nat)(xs:List Value)(hown:w.ownsRow base e i.size v n xs)(a:Addr)(m c:Nat)(news:List Value)(hl:news.length=m*i.size)(hnews:∀ j u,news[j]?=some u->w.cell? (a.add j)=some u)(h1:∀ u∈news,u.oneCell'=true)(h63:n+m<=maxLen)(hbytes:(n+m)*i.bytes<=140737488355328)(hm:m≠0)(v':Value)(w':World)(hr':(Builtin.append_ #[t,t] ty #[v,.slice (some a) m c]).run P w=.ok v' w') :
  v'.ownBlock=v.ownBlock\/v'.ownBlock=some w.heap.size:=by
 have hsmall:n+m<=9223372036854775807:=by simp only[maxLen] at h63;omega
 rcases hown.2 with ⟨rfl,rfl⟩ | ⟨g,cap,cur,rfl,hbg,hg,hnc,hcm,hcs,htake⟩
 ·have hr:=run_append_nil (P:=P) w t ty e i z ht hi hz a m c news hl hnews (by omega) (by omega) (by have hb:=hbytes;simp only[aD] at hb;omega);rw[hr] at hr'
  cases hr';exact .inr (by simp[Value.ownBlock])
 ·by_cases hroom:n+m<=cap
  ·have hfit:n*i.size+news.length<=cur.size:=by rw[hl,hcs,<-cF];exact bO _ hroom
   have hr:=run_append_room (P:=P) w t ty e i ht hi g n cap cur hg a m c news hl hnews h1 hroom hfit;rw[hr] at hr'
   cases hr';exact .inl (by simp[Value.ownBlock])
  ·have holds:∀ j u,xs[j]?=some u->w.cell? ((⟨g,0,none⟩:Addr).add j)=some u:=hown.cells (g:=g) rfl;have hr:=run_append_grow (P:=P) w t ty e i z ht hi hz ⟨g,0,none⟩ n cap xs hown.1 holds a m c news hl hnews (by omega) (by omega) (growslice_fits (by omega) hbytes);rw[hr] at hr'
   cases hr';exact .inr (by simp[Value.ownBlock])
def B4 {α:Type} (E:ER α) (t:TypeId) (base:Nat) (X:Nat->Prop) (w:World) (v:Value) (l:List α):Prop :=
 ∃ es,w.ownsRow base t E.sz v l.length (cellsOf es)/\Els E (λk=>X k/\v.ownBlock≠some k) w es l
section
variable {α:Type} {E:ER α} {t:TypeId} {base:Nat} {X:Nat->Prop} {w w':World} {v:Value} {l:List α}
theorem AQ0 {n:Nat} {xs:List Value} {sz:Nat} (h:w.ownsRow base t sz v n xs) (hk:∀ k cs,base<=k->Blk w k t cs->Blk w' k t cs):w'.ownsRow base t sz v n xs:=by
 refine⟨h.1,?_⟩;rcases h.2 with hn | ⟨g,cap,cur,hv,hb,hg,rest⟩
 ·exact .inl hn
 ·exact .inr ⟨g,cap,cur,hv,hb,hk g cur hb hg,rest⟩
theorem B4.kp (h:B4 E t base X w v l) (hk:Kp (λ_=>True) w w'):B4 E t base X w' v l:=by obtain⟨es,h1,h2⟩:=h;exact⟨es,AQ0 h1 λk cs _ hb=>hk.blk trivial hb,h2.keep λk c t f _ hc=>hk k c t f trivial hc⟩
theorem B4.ext (h:B4 E t base X w v l) (e:Ext w w'):B4 E t base X w' v l:=h.kp (Kp.ext e)
theorem B4.upd {t':TypeId} {b:Nat} {cs:Array Value} (h:B4 E t base X w v l) (hu:Upd w w' b) (hb:Blk w b t' cs) (ht:t≠t') (hX:¬ X b):B4 E t base X w' v l:=by obtain⟨es,h1,h2⟩:=h;refine⟨es,AQ0 h1 λk c _ hk=>hk.upd hu λe=>?_,h2.keep (Kp.upd hu λh=>hX h.1)⟩;subst e;have e1:w.heap[k]?=some (.cells c t (0,0)):=hk;have e2:w.heap[k]?=some (.cells cs t' (0,0)):=hb;rw[e1] at e2;cases e2;exact ht rfl
theorem Bu9 {n sz:Nat} {xs:List Value} {t':TypeId} {b:Nat} {cs:Array Value} (h:w.ownsRow base t sz v n xs) (hg:w.grownBy w' v.ownBlock) (hb:Blk w b t' cs) (ht:t≠t'):Blk w' b t' cs:=by
 refine (hg.block b hb.lt λe=>?_).trans hb;rcases h.2 with ⟨rfl,_⟩ | ⟨g,cap,cur,rfl,_,hgg,_⟩
 ·simp[Value.ownBlock] at e
 ·have:b=g:=by simpa[Value.ownBlock] using e
  subst this;have h2:w.heap[b]?=some (.cells cs t' (0,0)):=hb;rw[hgg] at h2;cases h2;exact ht rfl
theorem B4.gblk {t':TypeId} {b:Nat} {cs:Array Value} (h:B4 E t base X w v l) (hg:w.grownBy w' v.ownBlock) (hb:Blk w b t' cs) (ht:t≠t'):Blk w' b t' cs:=by obtain⟨es,h1,_⟩:=h;exact Bu9 h1 hg hb ht
theorem B4.below {w0:World} (h:B4 E t base X w v l) (hg:w.grownBy w' v.ownBlock) (hb:Below base w0 w) (hB:base<=w.heap.size):Below base w0 w':=by obtain⟨es,h1,_⟩:=h;exact hb.grown hg hB λk hk=>(h1.lt k hk).1
theorem B4.oth (h:B4 E t base X w v l) (hg:w.grownBy w' v.ownBlock):Oth w w':=by obtain⟨es,h1,_⟩:=h;exact Oth.grown hg h1
theorem B4.nil:B4 E t base X w (.slice none 0 0) ([]:List α):=⟨[],⟨by simp,.inl ⟨rfl,rfl⟩⟩,Els.nil⟩
theorem B4.made {b c:Nat} {z:Value} (hz:z.cells.size=E.sz) (hn:New w w' b t (cellsOf (List.replicate c z)).toArray) (hb:base<=w.heap.size) (hc:c<=9223372036854775807):B4 E t base X w' (.slice (some ⟨b,0,none⟩) 0 c) ([]:List α):=by obtain⟨_,hk,hb',_⟩:=hn;refine⟨[],⟨by simp[cellsOf],.inr ⟨b,c,_,rfl,by omega,hk,aC _,by simpa[maxLen] using hc,?_,by simp⟩⟩,Els.nil⟩;rw[dJ,E6 (sz:=E.sz) _ (λe he=>by rw[(List.mem_replicate.1 he).2];exact hz)];simp
theorem B4.toR {S:Nat->Prop} {hsz:0<E.sz} (h:B4 E t base X w v l) (hS:∀ k,base<=k->S k) (hX:∀ k,X k->S k):(RL E hsz).R S w v l:=by obtain⟨es,h1,h2⟩:=h;exact RL.ofOwn h1 O ⟨h2.1,λi e x he hx=>E.mono (λk _ hk=>hX k hk.1) (h2.2 i e x he hx)⟩ hS
theorem B4.slice (h:B4 E t base X w v l):∃ a c,v=.slice a l.length c:=by
 obtain⟨es,h1,_⟩:=h;rcases h1.2 with ⟨rfl,h0⟩ | ⟨g,cap,cur,rfl,_⟩
 ·exact⟨none,0,by rw[h0]⟩
 ·exact⟨_,_,rfl⟩
end
section
variable {P:Program} {σ:Env} {w:World} {d:Option Tmp} {ty:TypeId} {pos:String} {af:Array Edge} {g:Option (Nat×Bool)} {α:Type} {E:ER α}
theorem V8 {tt t:TypeId} {x y:Operand} {z:Value} {by_ base b:Nat} {X:Nat->Prop} {v e:Value} {l:List α} {n:α} (hsz:0<E.sz) (ht:P.underlying tt=some (.slice t)) (hi:O8 P t=some (z,E.sz,by_)) (hzs:z.cells.size=E.sz) (hx:ev σ x=some v) (hy:ev σ y=some (.slice (some ⟨b,0,none⟩) 1 1))
  (hown:B4 E t base X w v l) {t':TypeId} (hb:Blk w b t' e.cells) (he:E.R (λk=>X k/\v.ownBlock≠some k) w e n) (hl:l.length<=1000000000) (hby:by_<=200) (hbase:base<=w.heap.size) :
  Gv P ⟨d,.call { callee:=.builtin .append,args:=#[x,y],argTypes:=#[tt,tt] },ty,pos,af,g⟩ σ w λv' w'=>B4 E t base X w' v' (l++[n])/\w.grownBy w' v.ownBlock/\(v'.ownBlock=v.ownBlock\/v'.ownBlock=some w.heap.size):=by
 obtain⟨es,ho,hels⟩:=hown;obtain⟨i,hi0,hi1,hi2,hi3⟩:=AB9 hi;refine⟨(by intro _ h;cases h),λρ hρ=>.inl ?_⟩;have e1:=hρ x _ (by simp[Op.operands,Call.operands]) hx;have e2:=hρ y _ (by simp[Op.operands,Call.operands]) hy;have hcs:=E.csz he;have hl':e.cells.toList.length=1*E.sz:=by simpa using hcs
 have hnews:∀ j u,e.cells.toList[j]?=some u->w.cell? ((⟨b,0,none⟩:Addr).add j)=some u:=by intro j u hu;rw[S8,aD,hb.cell];simpa using hu
 have hone:∀ u∈e.cells.toList,u.oneCell'=true:=λu hu=>Ar7 (E.one he u hu);have hbytes:(l.length+1)*by_<=140737488355328:=by have:(l.length+1)*by_<=1000000001*200:=dD (by omega) hby;omega
 obtain⟨v',w',hr,h2,h3,_⟩:=run_append_own (P:=P) w base tt ty t i z E.sz by_ ht hi0 hi1 hi2 hi3 hzs hsz v l.length (cellsOf es) ho ⟨b,0,none⟩ 1 1 e.cells.toList hl' hnews hone (by simp only[maxLen];omega) hbytes hbase;have hw:=BQ7 (P:=P) w base tt ty t i z ht hi0 hi1 (by rw[hi2];exact hzs) (by rw[hi2];exact hsz) v l.length (cellsOf es) (by rw[hi2];exact ho) ⟨b,0,none⟩ 1 1 e.cells.toList (by rw[hi2];exact hl') hnews hone (by simp only[maxLen];omega) (by rw[hi3];exact hbytes) (by omega) v' w' hr;refine⟨v',w',by simp[execOp,resolve,invoke,builtin,e1,e2,hr],⟨es++[e],?_,?_⟩,h3,hw⟩
 ·have:cellsOf (es++[e])=cellsOf es++e.cells.toList:=by simp[cellsOf]
  rw[this,aL];exact h2
 ·have hkeep:Kp (λk=>X k/\v.ownBlock≠some k) w w':=λk c t f hk hc=>(h3.block k (Array.getElem?_eq_some_iff.1 hc).1 (λe=>hk.2 e.symm)).trans hc;have hmono:∀ {y:α} {u:Value},E.R (λk=>X k/\v.ownBlock≠some k) w u y->E.R (λk=>X k/\v'.ownBlock≠some k) w' u y:=by
   intro y u hu;have h1:=E.lt hu;have h2:E.R (λk=>(X k/\v.ownBlock≠some k)/\k<w.heap.size) w' u y:=E.keep (λk c t f hk hc=>hkeep k c t f hk.1 hc) h1;refine E.mono (λk _ hk=>⟨hk.1.1,?_⟩) h2;rcases hw with h | h
   ·rw[h];exact hk.1.2
   ·rw[h];intro e;cases e;exact dZ _ hk.2
  exact Els.snoc ⟨hels.1,λi e x he hx=>hmono (hels.2 i e x he hx)⟩ (hmono he)
theorem L5 {tt t:TypeId} {x y:Operand} {z:Value} {by_ base b:Nat} {X:Nat->Prop} {v e:Value} {l:List α} {n:α} (hsz:0<E.sz) (ht:P.underlying tt=some (.slice t)) (hi:O8 P t=some (z,E.sz,by_)) (hzs:z.cells.size=E.sz) (hx:ev σ x=some v) (hy:ev σ y=some (.slice (some ⟨b,0,none⟩) 1 1))
  (hown:B4 E t base X w v l) {t':TypeId} (hb:Blk w b t' e.cells) (he:E.R (λk=>X k/\v.ownBlock≠some k) w e n) (hl:l.length<=1000000000) (hby:by_<=200) (hbase:base<=w.heap.size) :
  Gv P ⟨d,.call { callee:=.builtin .append,args:=#[x,y],argTypes:=#[tt,tt] },ty,pos,af,g⟩ σ w λv' w'=>B4 E t base X w' v' (l++[n])/\w.grownBy w' v.ownBlock :=
 (V8 hsz ht hi hzs hx hy hown hb he hl hby hbase).mono λ_ _ h=>⟨h.1,h.2.1⟩
end
def pn (q:QV):Int:=if A6 q.den<0 then -A6 q.num else A6 q.num
def pd (q:QV):Int:=if A6 q.den=0 then 1 else if A6 q.den<0 then -A6 q.den else A6 q.den
theorem Q8(q:QV):0<pd q:=by unfold pd;split<;>(try split)<;>omega
def E3 (q:QV):Rat:=Rat.divInt (pn q) (pd q)
def qc (r:Rat):QV:=⟨zc r.num,if r.den=1 then ⟨false,[]⟩ else zc r.den⟩
def q0:QV:=⟨⟨false,[]⟩,⟨false,[]⟩⟩
theorem Ax0:A6 ⟨false,[]⟩=0:=by simp[A6,sg,val]
theorem zc_zero:zc 0=⟨false,[]⟩:=by simp[zc,M7]
theorem pn_qc(r:Rat):pn (qc r)=r.num:=by
 unfold pn qc;by_cases h:r.den=1
 ·simp[h,Ax0,D0]
 ·have:¬ ((r.den:Int)<0):=by omega
  simp[h,D0,this]
theorem pd_qc(r:Rat):pd (qc r)=r.den:=by
 have hd:=r.den_pos;unfold pd qc;by_cases h:r.den=1
 ·simp[h,Ax0]
 ·have h1:¬ ((r.den:Int)<0):=by omega
  have h2:¬ ((r.den:Int)=0):=by omega
  simp only[h,if_false,D0,h1,h2]
theorem C3(r:Rat):E3 (qc r)=r:=by unfold E3;rw[pn_qc,pd_qc,Rat.num_divInt_den]
theorem BN7:E3 q0=0:=by unfold E3 pn pd q0;simp[Ax0]
theorem Q7:qc 0=q0:=by unfold qc q0;simp[zc_zero]
theorem Bu3(n:Int):qc (n:Rat)=⟨zc n,⟨false,[]⟩⟩:=by unfold qc;simp
def qok (L:Nat) (q:QV):Prop:=q.num.w.length<=L/\q.den.w.length<=L
def Rsz (r:Rat) (L:Nat):Prop:=r.num.natAbs<4294967296 ^ L/\r.den<4294967296 ^ L
theorem Rsz.mono{r:Rat}(h:Rsz r L)(hl:L<=M):Rsz r M:=by have:=aQ (show 0<4294967296 by omega) hl;exact⟨bC h.1 this,bC h.2 this⟩
theorem qok.mono(h:qok L q)(hl:L<=M):qok M q:=⟨aG h.1 hl,aG h.2 hl⟩
theorem AA4{n:Int}(h:n.natAbs<4294967296 ^ L):(zc n).w.length<=L:=Ae9 h
theorem Rsz.toOk{r:Rat}(h:Rsz r L):qok L (qc r):=by
 refine⟨AA4 h.1,?_⟩;unfold qc;by_cases h1:r.den=1
 ·simp[h1]
 ·simp only[h1,if_false];exact AA4 (by simpa using h.2)
theorem P8(z:ZV):(A6 z).natAbs=val z.w:=by unfold A6 sg;split<;>omega
theorem AE3{z:ZV}(hd:dig z.w)(h:z.w.length<=L):(A6 z).natAbs<4294967296 ^ L:=by rw[P8];exact bC (Af1 hd) (aQ (by omega) h)
theorem Ak2(hn:dig q.num.w)(h:qok L q):(pn q).natAbs<4294967296 ^ L:=by have:=AE3 hn h.1;unfold pn;split<;>omega
theorem Ar5(hn:dig q.den.w)(h:qok L q)(hL:1<=L):(pd q).natAbs<4294967296 ^ L:=by have:=AE3 hn h.2;have h1:4294967296 ^ 1<=4294967296 ^ L:=aQ (by omega) hL;unfold pd;split<;>(try split)<;>omega
theorem AO2(a b:Int):(Rat.divInt a b).num.natAbs<=a.natAbs:=by
 rw[gH];have h1:(b.sign*a / ((b.gcd a:Nat):Int)).natAbs<=(b.sign*a).natAbs:=by rw[Int.natAbs_ediv_of_dvd (Int.dvd_trans (Int.gcd_dvd_right ..) (Int.dvd_mul_left ..))];exact dV _ _
 refine aG h1 ?_;rw[dE];rcases fO b 0 with h | h | h
 ·rw[cC h];simp
 ·rw[h];simp
 ·rw[bZ h];simp
theorem AO7(a b:Int)(hb:b≠0):(Rat.divInt a b).den<=b.natAbs:=by rw[Rat.den_divInt,if_neg hb];exact dV _ _
theorem Bt4(hn:dig q.num.w)(hd:dig q.den.w)(h:qok L q)(hL:1<=L):Rsz (E3 q) L :=
 ⟨bI (AO2 _ _) (Ak2 hn h),bI (AO7 _ _ (by have:=Q8 q;omega)) (Ar5 hd h hL)⟩
theorem Rsz.add{a b:Rat}(ha:Rsz a L)(hb:Rsz b M):Rsz (a+b) (L+M+1):=by
 have e:a+b=Rat.divInt (a.num*b.den+b.num*a.den) (a.den*b.den):=by rw[Rat.add_def',<-Rat.divInt_ofNat];simp
 have hda:=a.den_pos;have hdb:=b.den_pos;have hne:((a.den:Int)*(b.den:Int))≠0:=by have:=dK (show (0:Int)<a.den by omega) (show (0:Int)<b.den by omega);omega
 have h1:a.num.natAbs*b.den<4294967296 ^ (L+M):=by rw[bG];exact dF ha.1 hb.2
 have h2:b.num.natAbs*a.den<4294967296 ^ (L+M):=by rw[Nat.add_comm,bG];exact dF hb.1 ha.2
 have h3:a.den*b.den<4294967296 ^ (L+M):=by rw[bG];exact dF ha.2 hb.2
 rw[e];refine⟨bI (AO2 _ _) ?_,bI (AO7 _ _ hne) ?_⟩
 ·have:=gZ (a.num*b.den) (b.num*a.den);rw[dE,dE] at this;simp only[gI] at this;rw[aN];omega
 ·rw[dE];simp only[gI];rw[aN];omega
theorem Rsz.mul{a b:Rat}(ha:Rsz a L)(hb:Rsz b M):Rsz (a*b) (L+M):=by
 have e:a*b=Rat.divInt (a.num*b.num) (a.den*b.den):=by rw[Rat.mul_def',<-Rat.divInt_ofNat];simp
 have hda:=a.den_pos;have hdb:=b.den_pos;have hne:((a.den:Int)*(b.den:Int))≠0:=by have:=dK (show (0:Int)<a.den by omega) (show (0:Int)<b.den by omega);omega
 rw[e];refine⟨bI (AO2 _ _) ?_,bI (AO7 _ _ hne) ?_⟩
 ·rw[dE,bG];exact dF ha.1 hb.1
 ·rw[dE,bG];exact dF ha.2 hb.2
theorem Rsz.neg{a:Rat}(ha:Rsz a L):Rsz (-a) L:=by refine⟨?_,ha.2⟩;rw[Rat.neg_num,Int.natAbs_neg];exact ha.1
theorem Rsz.int(n:Int)(h:n.natAbs<4294967296 ^ L)(hL:1<=L):Rsz (n:Rat) L:=by refine⟨by simpa using h,?_⟩;have h1:4294967296 ^ 1<=4294967296 ^ L:=aQ (by omega) hL;simp;omega
theorem Rsz.zero(hL:1<=L):Rsz 0 L:=by have:=Rsz.int 0 (L:=L) (bR (by omega)) hL;simpa using this
theorem Ao0{n d:Int}(hd:0<d):qc (Rat.divInt n d)=⟨zc (n / (Nat.gcd n.natAbs d.natAbs:Nat)),if d / (Nat.gcd n.natAbs d.natAbs:Nat)=1 then ⟨false,[]⟩ else zc (d / (Nat.gcd n.natAbs d.natAbs:Nat))⟩:=by
 have hg:d.gcd n=Nat.gcd n.natAbs d.natAbs:=by rw[Int.gcd,dL]
 have h1:(Rat.divInt n d).num=n / (Nat.gcd n.natAbs d.natAbs:Nat):=by rw[gH,bZ hd,Int.one_mul,hg]
 have h2:((Rat.divInt n d).den:Int)=d / (Nat.gcd n.natAbs d.natAbs:Nat):=by rw[Rat.den_divInt,if_neg (by omega),hg,Int.natCast_ediv,Int.natAbs_of_nonneg (by omega)]
 unfold qc;rw[h1,<-h2];congr 1;by_cases h:(Rat.divInt n d).den=1
 ·rw[if_pos h,if_pos (by rw[h];rfl)]
 ·rw[if_neg h,if_neg (by omega)]
def EsR {α:Type} (E:ER α) (S:Nat->Prop) (w:World) (v:Value) (es:List Value) (l:List α):Prop:=Els E S w es l/\Row S w E.sz v l.length (cellsOf es)
def Ac3 (w:World) (p:Addr) (e:Value):Prop:=∀ (j:Nat) (u:Value),e.cells[j]?=some u->w.cell? (p.add j)=some u
section
variable {α:Type} {E:ER α} {S:Nat->Prop} {w w':World} {v:Value} {es:List Value} {l:List α}
theorem RL.toEs {hsz:0<E.sz} (h:(RL E hsz).R S w v l):∃ es,EsR E S w v es l:=h
theorem EsR.toR {hsz:0<E.sz} (h:EsR E S w v es l):(RL E hsz).R S w v l:=⟨es,h⟩
theorem EsR.keep (h:EsR E S w v es l) (hk:Kp S w w'):EsR E S w' v es l:=⟨h.1.keep hk,h.2.keep hk⟩
theorem EsR.ext (h:EsR E S w v es l) (e:Ext w w'):EsR E S w' v es l:=h.keep (Kp.ext e)
theorem EsR.mono {S':Nat->Prop} (hsz:0<E.sz) (h:EsR E S w v es l) (hk:∀ k,k<w.heap.size->S k->S' k):EsR E S' w v es l:=⟨⟨h.1.1,λi e x he hx=>E.mono hk (h.1.2 i e x he hx)⟩,h.2.mono hsz hk⟩
theorem EsR.get {z:Value} {x:α} (h:EsR E S w v es l) (hz:E.R S w z x) (k:Nat):E.R S w (es.getD k z) (l.getD k x):=by
 rw[aF,aF];rcases aB k l.length with hk | hk
 ·have hk':k<es.length:=by rw[h.1.1];exact hk
  rw[aE hk,aE hk'];exact h.1.2 k _ _ (aE hk') (aE hk)
 ·rw[aH hk,aH (by rw[h.1.1];exact hk)];exact hz
theorem EsR.at_ (h:EsR E S w v es l) {i:Nat} {e:Value} (hi:es[i]?=some e):∃ ad c,v=.slice (some ad) l.length c/\Ac3 w (ad.add (i*E.sz)) e:=by
 obtain⟨h1,a,c,hv,h2,_,h3,h4⟩:=h;have hlt:i<l.length:=by
  rcases aB i es.length with h | h
  ·rw[<-h1.1];exact h
  ·rw[aH h] at hi;cases hi
 obtain⟨ad,ha,hS,hc⟩:=h4 (by omega);subst ha;refine⟨ad,c,hv,λj u hu=>?_⟩;rw[AC5];refine (hc _ u ?_).1;have hj:j<E.sz:=by
  have hs:=h1.sz e (List.mem_iff_getElem?.2 ⟨i,hi⟩);rcases aB j e.cells.size with h | h
  ·omega
  ·rw[cX h] at hu;cases hu
 rw[F0 es i j e h1.sz hi hj];exact hu
end
section
variable {P:Program} {ro:Option Nat} {N:Nat} {ds:List Deferred} {ops:Array Oper} {K:Env->World->Prop} {rest:List Oper} {σ:Env} {w:World} {d:Tmp} {ty:TypeId} {pos:String} {af:Array Edge} {α:Type} {E:ER α} {S:Nat->Prop} {v:Value} {es:List Value} {l:List α}
theorem g_ixX {dd:Option Tmp} {gd:Option (Nat×Bool)} {t e:TypeId} {x ix:Operand} {k:IntKind} {i:Nat} {b:Bool} {y:Value} (ht:P.underlying t=some (.slice e)) (he:F6 P e=some (b,E.sz)) (hx:ev σ x=some v) (h:EsR E S w v es l)
  (hi:ev σ ix=some (.int k (i:Int))) (hy:es[i]?=some y) :
  Gv P ⟨dd,.indexAddr t x ix,ty,pos,af,gd⟩ σ w λv' w'=>w'=w/\∃ p,v'=.pointer (some p)/\Ac3 w p y:=by
 refine⟨(by intro _ h;cases h),λρ hρ=>.inl ?_⟩;obtain⟨ad,c,hv,hp⟩:=h.at_ hy;have h1:=hρ x _ (by simp[Op.operands]) hx;have h2:=hρ ix _ (by simp[Op.operands]) hi;have hlt:i<l.length:=by
  rcases aB i es.length with h' | h'
  ·rw[<-h.1.1];exact h'
  ·rw[aH h'] at hy;cases hy
 refine⟨_,w,?_,rfl,_,rfl,hp⟩;simp[execOp,h1,h2,hv,Instr.indexAt,asIntOf,run_underlying ht,(L0 he w).2];intro hh;omega
theorem WL.ixX {t e:TypeId} {x ix:Operand} {k:IntKind} {i:Nat} {b:Bool} {y:Value} (ht:P.underlying t=some (.slice e)) (he:F6 P e=some (b,E.sz)) (hd:Nat.blt d N=true) (hx:ev σ x=some v) (h:EsR E S w v es l)
  (hi:ev σ ix=some (.int k (i:Int))) (hy:es[i]?=some y) (kk:∀ p,Ac3 w p y->WL P ro N ds ops K rest ((d,.pointer (some p))::σ) w) :
  WL P ro N ds ops K (⟨some d,.indexAddr t x ix,ty,pos,af,none⟩::rest) σ w :=
 WL.gv O hd (g_ixX ht he hx h hi hy) λv' w' ⟨e1,p,e2,hp⟩=>by subst e1;subst e2;exact kk p hp
theorem AH4 {dd:Option Tmp} {gd:Option (Nat×Bool)} {t:TypeId} {x:Operand} {p:Addr} {y:Value} {n:α} (ht:F6 P t=some (E.isA,E.sz)) (hx:ev σ x=some (.pointer (some p))) (hp:Ac3 w p y) (hy:E.R S w y n) :
  Vl P ⟨dd,.load t x,ty,pos,af,gd⟩ σ w y:=by
 have hs:=E.shp hy;have hcs:=E.csz hy
 cases hA:E.isA with
 | true =>
  rw[hA] at hs ht;simp only[cond_true] at hs;have:=v_ldPN (P:=P) (d:=dd) (ty:=ty) (pos:=pos) (af:=af) (g:=gd) (cs:=y.cells.toList) (by rw[ht];simp[hcs]) hx (λj u hu=>hp j u (by simpa using hu));rw[hs];simpa[Value.cells] using this
 | false =>
  rw[hA] at hs ht;simp only[cond_false] at hs;have hc1:y.cells=#[y]:=by
   cases y<;>first | rfl | (simp[H3] at hs)
  have h0:y.cells[0]?=some y:=by rw[hc1];rfl
  have:=hp 0 y h0;rw[show p.add 0=p from rfl] at this;exact AJ2 ht hx this
theorem WL.ldX {t:TypeId} {x:Operand} {p:Addr} {y:Value} {n:α} (ht:F6 P t=some (E.isA,E.sz)) (hd:Nat.blt d N=true) (hx:ev σ x=some (.pointer (some p))) (hp:Ac3 w p y) (hy:E.R S w y n) (k:WL P ro N ds ops K rest ((d,y)::σ) w) :
  WL P ro N ds ops K (⟨some d,.load t x,ty,pos,af,none⟩::rest) σ w:=WL.vl O hd (AH4 ht hx hp hy) k
end
abbrev zq:Value:=.agg #[.bool false,.slice none 0 0,.bool false,.slice none 0 0]
theorem AF1{w:World}:eQ.R S w zq q0:=⟨_,_,rfl,RL.nil,RL.nil⟩
abbrev Q9:Value:=.slice none 0 0
theorem Bc9{w:World}:eV.R S w Q9 []:=RL.nil
def FB {α:Type} (E:ER α) (t:TypeId) (S:Nat->Prop) (w:World) (g:Nat) (l:List α):Prop :=
 ∃ es,Blk w g t (cellsOf es).toArray/\Els E (λk=>S k/\k≠g) w es l
theorem AM8{sz:Nat}(hsz:0<sz)(es:List Value)(i:Nat)(v:Value)(hs:∀ e∈es,e.cells.size=sz)(hv:v.cells.size=sz)(hi:i<es.length) :
  wrt (cellsOf es).toArray (i*sz) v.cells.toList=(cellsOf (es.set i v)).toArray:=by
 have hs':∀ e∈es.set i v,e.cells.size=sz:=λe he=>by
  rcases eT he with h | h
  ·exact hs e h
  ·rw[h];exact hv
 have hl:=E6 es hs;have hl':=E6 (es.set i v) hs';rw[bV] at hl';have hle:i*sz+sz<=es.length*sz:=by rw[<-dA];exact bO _ hi
 apply gC;intro j;rw[Aa1 _ _ _ _ (by simp only[cO,hv,dJ,hl];exact hle)];simp only[cO,hv,bN,gV];rcases aB j (es.length*sz) with hj | hj
 ·have hq:j / sz<es.length:=(bD hsz).2 hj;have hr:j % sz<sz:=aY _ hsz;have hjd:(j / sz)*sz+j % sz=j:=by rw[aT];exact bE j sz
  by_cases he:j / sz=i
  ·have h1:i*sz<=j/\j<i*sz+sz:=by rw[he] at hjd;omega
   rw[if_pos h1];have h2:(es.set i v)[i]?=some v:=by rw[dM hi]
   have:=F0 (es.set i v) i (j % sz) v hs' h2 hr;rw[he] at hjd;rw[hjd] at this;rw[this];congr 1;omega
  ·have h1:¬ (i*sz<=j/\j<i*sz+sz):=by intro ⟨ha,hb⟩;apply he;have h3:i<=j / sz:=(Nat.le_div_iff_mul_le hsz).2 ha;have h4:j / sz<i+1:=(bD hsz).2 (by rw[dA];exact hb);omega
   rw[if_neg h1];obtain⟨e,hee⟩:∃ e,es[j / sz]?=some e:=⟨_,aE hq⟩;have g1:=F0 es (j / sz) (j % sz) e hs hee hr;have g2:=F0 (es.set i v) (j / sz) (j % sz) e hs' (by rw[bW (λh=>he h.symm)];exact hee) hr;rw[hjd] at g1 g2;rw[g1,g2]
 ·rw[if_neg (by omega),aH (by omega),aH (by omega)]
section
variable {α:Type} {E:ER α} {t:TypeId} {S:Nat->Prop} {w w':World} {g:Nat} {l:List α}
theorem FB.lt (h:FB E t S w g l):g<w.heap.size:=by obtain⟨es,hb,_⟩:=h;exact hb.lt
theorem FB.kp (h:FB E t S w g l) (hk:Kp (λ_=>True) w w'):FB E t S w' g l:=by obtain⟨es,hb,he⟩:=h;exact⟨es,hk.blk trivial hb,he.keep λk c t f _ hc=>hk k c t f trivial hc⟩
theorem FB.ext (h:FB E t S w g l) (e:Ext w w'):FB E t S w' g l:=h.kp (Kp.ext e)
theorem FB.upd {b:Nat} (h:FB E t S w g l) (u:Upd w w' b) (hne:g≠b) (hS:¬ S b):FB E t S w' g l:=by obtain⟨es,hb,he⟩:=h;exact⟨es,hb.upd u hne,he.keep (Kp.upd u λh=>hS h.1)⟩
theorem FB.mono {S':Nat->Prop} (h:FB E t S w g l) (hk:∀ k,k<w.heap.size->S k->S' k):FB E t S' w g l:=by obtain⟨es,hb,he⟩:=h;exact⟨es,hb,he.1,λi e x h1 h2=>E.mono (λk hl hh=>⟨hk k hl hh.1,hh.2⟩) (he.2 i e x h1 h2)⟩
theorem FB.made {c:Nat} {z:Value} {z0:α} (hn:New w w' g t (cellsOf (List.replicate c z)).toArray) (hz:E.R (λk=>S k/\k≠g) w' z z0):FB E t S w' g (List.replicate c z0):=by
 refine⟨List.replicate c z,hn.2.1,by simp,λi e x he hx=>?_⟩;have h1:e=z:=by have:=List.mem_iff_getElem?.2 ⟨i,he⟩;exact (List.mem_replicate.1 this).2
 have h2:x=z0:=by have:=List.mem_iff_getElem?.2 ⟨i,hx⟩;exact (List.mem_replicate.1 this).2
 subst h1;subst h2;exact hz
theorem FB.toR {hsz:0<E.sz} {c:Nat} (h:FB E t S w g l) (hS:S g) (hc:l.length<=c) (hm:l.length<=9223372036854775807):(RL E hsz).R S w (.slice (some ⟨g,0,none⟩) l.length c) l:=by obtain⟨es,hb,he⟩:=h;exact RL.ofBlk hb hS ⟨he.1,λi e x h1 h2=>E.mono (λk _ hh=>hh.1) (he.2 i e x h1 h2)⟩ (λj u hu=>by rw[bN];exact hu) hc hm
end
section
variable {P:Program} {ro:Option Nat} {N:Nat} {ds:List Deferred} {ops:Array Oper} {K:Env->World->Prop} {rest:List Oper} {σ:Env} {w:World} {d:Tmp} {ty:TypeId} {pos:String} {af:Array Edge} {α:Type} {E:ER α} {S:Nat->Prop}
theorem AQ3 {dd:Option Tmp} {gd:Option (Nat×Bool)} {t t':TypeId} {x y:Operand} {g i o n:Nat} {a:Bool} {l:List α} {v:Value} {z:α} (hsz:0<E.sz) (ht:F6 P t=some (a,n)) (hx:ev σ x=some (.pointer (some ⟨g,o,none⟩))) (hy:ev σ y=some v) (hb:FB E t' S w g l)
  (hn:E.sz=n) (hi:i<l.length) (ho:o=i*E.sz) (hz:E.R (λk=>S k/\k≠g) w v z) :
  Gv P ⟨dd,.store t x y,ty,pos,af,gd⟩ σ w λ_ w'=>FB E t' S w' g (l.set i z)/\Upd w w' g:=by
 obtain⟨es,hB,he⟩:=hb;have hcs:=E.csz hz;subst ho;have hl:=E6 es he.sz;have hie:i<es.length:=by rw[he.1];exact hi
 have hle:i*E.sz+n<=(cellsOf es).toArray.size:=by rw[dJ,hl,<-hn,<-dA];exact bO _ hie
 refine (T5 ht hx hy hB (by omega) hle (E.one hz)).mono ?_;rintro _ w' ⟨hB',u⟩;rw[AM8 hsz es i v he.sz hcs hie] at hB';refine⟨⟨es.set i v,hB',?_⟩,u⟩;have:=Els.set he i hz;exact this.keep (Kp.upd u λh=>h.2 O)
theorem WL.storeF {t t':TypeId} {x y:Operand} {g i o n:Nat} {a:Bool} {l:List α} {v:Value} {z:α} (hsz:0<E.sz) (ht:F6 P t=some (a,n)) (hx:ev σ x=some (.pointer (some ⟨g,o,none⟩))) (hy:ev σ y=some v) (hb:FB E t' S w g l)
  (hn:E.sz=n) (hi:i<l.length) (ho:o=i*E.sz) (hz:E.R (λk=>S k/\k≠g) w v z) (k:∀ w',FB E t' S w' g (l.set i z)->Upd w w' g->WL P ro N ds ops K rest σ w') :
  WL P ro N ds ops K (⟨none,.store t x y,ty,pos,af,none⟩::rest) σ w :=
 WL.gv O O (AQ3 hsz ht hx hy hb hn hi ho hz) λ_ w' ⟨h1,h2⟩=>k w' h1 h2
end
def fil {α:Type} (n i:Nat) (f:Nat->α) (z:α):List α:=(List.range n).map λj=>if j<i then f j else z
theorem R8(n:Nat)(f:Nat->α)(z:α):fil n 0 f z=List.replicate n z:=by unfold fil;simp[gJ]
theorem AI3(n:Nat)(f:Nat->α)(z:α):fil n n f z=(List.range n).map f:=by unfold fil;apply cK;intro j hj;rw[if_pos (List.mem_range.1 hj)]
theorem L7(n i:Nat)(f:Nat->α)(z:α):(fil n i f z).length=n:=by simp[fil]
theorem X5(n i:Nat)(f:Nat->α)(z:α):(fil n i f z).set i (f i)=fil n (i+1) f z:=by
 apply cU;intro j;unfold fil;rw[dB];by_cases hj:i=j
 ·subst hj;by_cases h:i<n
  ·simp[h]
  ·simp[h]
 ·rw[if_neg hj,aI,aI];by_cases h:j<n
  ·simp only[bA h,cY];by_cases h1:j<i
   ·simp[h1,show j<i+1 by omega]
   ·simp[h1,show ¬ j<i+1 by omega]
  ·rw[aH (by simpa using h)];rfl
section
variable {F:Fence} {n:Nat} {P:Program} {Q:Exit->Act->World->Prop} {a:Act} {w:World}
theorem Z6 {b:Frame} {k:List Item} {cs:List Frame} {c:Code}:step P (lone (b.atR a (.code (.scope c)::k)) cs w)=.next (lone (b.atR a (.code c::.inScope c::k)) cs w) :=
 step_lone_go (by simp[stepG,stepG.exec,Frame.atR])
theorem BF5 {b:Frame} {k:List Item} {cs:List Frame} {c:Code}:step P (lone (b.atR a (.inScope c::k)) cs w)=.next (lone (b.atR a k) cs w) :=
 step_lone_go (by simp[stepG,stepG.exec,Frame.atR])
def noGo (Q:Exit->Act->World->Prop):Exit->Act->World->Prop
 | .goto _,_,_=>False
 | e,a,w=>Q e a w
theorem Ba8 {c:Code} (h:c.wpIn F n P (noGo Q) a w):(Code.scope c).wpIn F n P Q a w:=by
 intro b k cs hro hb hr;have h0:(lone (b.atR a (.code (.scope c)::k)) cs w).fenced P F:=fenced_calm hb hr rfl;obtain⟨e,a₁,w₁,hq,harr⟩:=h b (.inScope c::k) cs hro hb hr
 cases e with
 | normal=>exact⟨.normal,a₁,w₁,hq,.head h0 Z6 (StepsIn.trans harr (.one (fenced_calm hb hr O) BF5))⟩
 | exit id =>
  have hx:exitTo id (.inScope c::k)=exitTo id k:=by simp[exitTo]
  exact⟨.exit id,a₁,w₁,hq,λk' hk=>.head h0 Z6 (harr.1 k' (by rw[hx];exact hk)),
   λhr' hk=>let ⟨k₁,h1,h2⟩:=harr.2 hr' (by rw[hx];exact hk);⟨k₁,h1,.head h0 Z6 h2⟩⟩
 | goto l=>exact hq.elim
 | ret=>exact⟨_,a₁,w₁,hq,.of_steps (.one h0 Z6) harr⟩
 | panic ch=>exact⟨_,a₁,w₁,hq,.of_steps (.one h0 Z6) harr⟩
 | outgrown=>exact⟨_,a₁,w₁,hq,.of_steps (.one h0 Z6) harr⟩
end
@[reducible] def ngo (Q:Pst):Pst
 | .goto _,_,_,_=>False
 | e,σ,ds,w=>Q e σ ds w
theorem WC.scope{ro:Option Nat}{w:World}{c:Code}(h:WC P ro N (ngo Q) c σ ds w):WC P ro N Q (.scope c) σ ds w:=by
 refine⟨λa ha=>Ba8 (wpIn_mono (h.out a ha) ?_)⟩;rintro e a' w' ⟨σ',ds',hag,hq⟩
 cases e with
 | goto l=>exact hq.elim
 | _=>exact⟨σ',ds',hag,hq⟩
structure Chg (X:Nat->Prop) (w w':World):Prop where
 os:w'.os=w.os
 tape:w'.tape=w.tape
 output:w'.output=w.output
 size:w.heap.size<=w'.heap.size
 block:∀ k,k<w.heap.size->¬ X k->w'.heap[k]?=w.heap[k]?
section
variable {X Y:Nat->Prop} {w w' w'':World}
theorem Chg.refl (w:World):Chg X w w:=⟨rfl,rfl,rfl,aA _,λ_ _ _=>rfl⟩
theorem Chg.ext (e:Ext w w'):Chg X w w':=⟨e.os,e.tape,e.output,e.size,λk hk _=>e.block k hk⟩
theorem Chg.upd {b:Nat} (u:Upd w w' b) (hb:X b):Chg X w w':=⟨u.os,u.tape,u.output,fP u.size.symm,λk _ hX=>u.block k λe=>hX (e▸hb)⟩
theorem Chg.trans (h:Chg X w w') (h':Chg X w' w''):Chg X w w'' :=
 ⟨h'.os.trans h.os,h'.tape.trans h.tape,h'.output.trans h.output,aG h.size h'.size,λk hk hX=>(h'.block k (bC hk h.size) hX).trans (h.block k hk hX)⟩
theorem Chg.mono (h:Chg X w w') (hX:∀ k,k<w.heap.size->X k->Y k):Chg Y w w':=⟨h.os,h.tape,h.output,h.size,λk hk hY=>h.block k hk λhx=>hY (hX k hk hx)⟩
theorem Chg.step {w0:World} (h:Chg X w0 w) (h':Chg Y w w') (hY:∀ k,k<w0.heap.size->Y k->X k):Chg X w0 w' :=
 ⟨h'.os.trans h.os,h'.tape.trans h.tape,h'.output.trans h.output,aG h.size h'.size,λk hk hX=>(h'.block k (bC hk h.size) λhy=>hX (hY k hk hy)).trans (h.block k hk hX)⟩
theorem Chg.below {B:Nat} {w0:World} (h:Chg X w w') (hb:Below B w0 w) (hw:B<=w.heap.size) (hB:∀ k,X k->B<=k):Below B w0 w' :=
 hb.trans ⟨h.os,h.tape,h.output,h.size,λk hk=>h.block k (by omega) λhx=>by have:=hB k hx;omega⟩
theorem Chg.kp {S:Nat->Prop} (h:Chg X w w') (hS:∀ k,S k->¬ X k):Kp S w w':=λk _ _ _ hk hc=>(h.block k (Array.getElem?_eq_some_iff.1 hc).1 (hS k hk)).trans hc
theorem Chg.blk {b:Nat} {t:TypeId} {cs:Array Value} (h:Chg X w w') (hb:Blk w b t cs) (hX:¬ X b):Blk w' b t cs:=(h.block b hb.lt hX).trans hb
end
theorem Be1{w:World}{v:Value}{l:List Nat}(h:eW.R S w v l)(hb:Blk w b t cs)(hc:∀ (i:Nat) (n:Int),cs[i]?≠some (Value.int .u32 n)):eW.R (λk=>S k/\k≠b) w v l:=by
 obtain⟨es,he,a,c,hv,h1,h2,h3,h4⟩:=h;refine⟨es,⟨he.1,λi e x hx hy=>he.2 i e x hx hy⟩,a,c,hv,h1,h2,h3,λhn=>?_⟩;obtain⟨ad,ha,hS,hcl⟩:=h4 hn;refine⟨ad,ha,⟨hS,λe=>?_⟩,hcl⟩;obtain⟨e0,he0⟩:∃ e,es[0]?=some e:=⟨_,aE (by rw[he.1];exact hn)⟩;obtain⟨rfl,_⟩:=he.2 0 e0 _ he0 (aE hn);have hg:=F0 (sz:=1) es 0 0 _ he.sz he0 (by omega);have hcell:=(hcl 0 (.int .u32 l[0]) hg).1;obtain⟨b0,o0,g0⟩:=ad;have e:b0=b:=e;subst e;have h':w.heap[b0]?=some (.cells cs t (0,0)):=hb;simp only[World.cell?,Addr.add,if_pos,h'] at hcell;split at hcell
 ·cases hcell
 ·exact hc _ _ hcell
theorem BP9{w:World}{v:Value}{z:ZV}(h:eZ.R S w v z)(hb:Blk w b t cs)(hc:∀ (i:Nat) (n:Int),cs[i]?≠some (Value.int .u32 n)):eZ.R (λk=>S k/\k≠b) w v z:=by obtain⟨s,hv,hs⟩:=h;exact⟨s,hv,Be1 hs hb hc⟩
theorem Ah9:∀ (i:Nat) (n:Int),(#[.bool false,.slice none 0 0]:Array Value)[i]?≠some (Value.int .u32 n):=by
 intro i n;match i with
 | 0=>simp
 | 1=>simp
 | i+2=>simp
theorem Av8{x a b:Value}:∀ (j:Nat) (u:Value),[a,b][j]?=some u->(#[x,y,a,b]:Array Value)[2+j]?=some u:=by
 intro j u hu;match j with
 | 0=>exact hu
 | 1=>exact hu
 | j+2=>simp at hu
theorem Bb3{x a b:Value}:∀ (j:Nat) (u:Value),[x,y][j]?=some u->(#[x,y,a,b]:Array Value)[0+j]?=some u:=by
 intro j u hu;match j with
 | 0=>exact hu
 | 1=>exact hu
 | j+2=>simp at hu
section
variable {α:Type} {E:ER α} {t:TypeId} {S X:Nat->Prop} {w w':World} {g:Nat} {l:List α}
theorem FB.chg (h:FB E t S w g l) (c:Chg X w w') (hg:¬ X g) (hS:∀ k,S k->¬ X k):FB E t S w' g l:=by obtain⟨es,hb,he⟩:=h;exact⟨es,c.blk hb hg,he.keep (c.kp λk hk=>hS k hk.1)⟩
theorem FB.at_ {i:Nat} {x:α} (hsz:0<E.sz) (h:FB E t S w g l) (hx:l[i]?=some x):∃ e,E.R (λk=>S k/\k≠g) w e x/\Ac3 w ⟨g,i*E.sz,none⟩ e:=by
 obtain⟨es,hb,he⟩:=h;have hlt:i<l.length:=(List.getElem?_eq_some_iff.1 hx).1;obtain⟨e,hee⟩:∃ e,es[i]?=some e:=⟨_,aE (by rw[he.1];exact hlt)⟩;refine⟨e,he.2 i e x hee hx,λj u hu=>?_⟩;rw[S8,hb.cell,bN];have hj:j<E.sz:=by
  have hs:=he.sz e (List.mem_iff_getElem?.2 ⟨i,hee⟩);rcases aB j e.cells.size with h | h
  ·omega
  ·rw[cX h] at hu;cases hu
 rw[F0 es i j e he.sz hee hj];exact hu
theorem B4.chgI {k:IntKind} {base:Nat} {Z:Nat->Prop} {v:Value} {l:List Int} (h:B4 (B8 k) t base Z w v l) (c:Chg X w w') (hX:∀ k,X k->k<base):B4 (B8 k) t base Z w' v l:=by obtain⟨es,h1,h2⟩:=h;exact⟨es,AQ0 h1 λk cs hk hb=>c.blk hb λhx=>by have:=hX k hx;omega,h2.1,λi e x he hx=>h2.2 i e x he hx⟩
end
section
variable {P:Program} {ro:Option Nat} {N:Nat} {ds:List Deferred} {ops:Array Oper} {K:Env->World->Prop} {rest:List Oper} {σ:Env} {w:World} {d:Tmp} {ty:TypeId} {pos:String} {af:Array Edge} {α:Type} {E:ER α} {S:Nat->Prop}
theorem AJ8 {dd:Option Tmp} {gd:Option (Nat×Bool)} {t t':TypeId} {x:Operand} {g i o:Nat} {l:List α} {z:α} (hsz:0<E.sz) (ht:F6 P t=some (E.isA,E.sz)) (hx:ev σ x=some (.pointer (some ⟨g,o,none⟩))) (ho:o=i*E.sz) (hF:FB E t' S w g l) (hz:l[i]?=some z) :
  Gv P ⟨dd,.load t x,ty,pos,af,gd⟩ σ w λv' w'=>Ext w w'/\Sp.ok (.inr (E.at (λk=>S k/\k≠g) z)) v' w':=by
 subst ho;obtain⟨e,h1,h2⟩:=hF.at_ hsz hz;exact K5 (AH4 ht hx h2 h1) h1 (G7 _ _ _)
theorem WL.ldF {t t':TypeId} {x:Operand} {g i o:Nat} {l:List α} {z:α} (hsz:0<E.sz) (ht:F6 P t=some (E.isA,E.sz)) (hd:Nat.blt d N=true) (hx:ev σ x=some (.pointer (some ⟨g,o,none⟩))) (ho:o=i*E.sz) (hF:FB E t' S w g l) (hz:l[i]?=some z)
  (k:∀ e,E.R (λk=>S k/\k≠g) w e z->WL P ro N ds ops K rest ((d,e)::σ) w):WL P ro N ds ops K (⟨some d,.load t x,ty,pos,af,none⟩::rest) σ w:=by
 subst ho;obtain⟨e,h1,h2⟩:=hF.at_ hsz hz;exact .ldX ht hd hx h2 h1 (k e h1)
end
@[reducible] def FBat (t:TypeId) (S:Nat->Prop) (B n:Nat) (l:List (List QV)):Value->World->Prop:=λv W=>∃ gb,v=.slice (some ⟨gb,0,none⟩) n n/\B<=gb/\FB eV t S W gb l
theorem FBat.toR{B:Nat}{l:List (List QV)}{v:Value}{W:World}(h:FBat t S B n l v W)(hS:∀ k,B<=k->S k)(hl:l.length=n)(hn:n<=9223372036854775807):eM.R S W v l:=by obtain⟨gb,rfl,hb,hF⟩:=h;have:=hF.toR (c:=n) (hsz:=by decide) (hS gb hb) (by omega) (by omega);rwa [hl] at this
theorem AY4{w:World}{v:Value}(h:eQ.R S w v q)(hb:Blk w b t cs)(hc:∀ (i:Nat) (n:Int),cs[i]?≠some (Value.int .u32 n)):eQ.R (λk=>S k/\k≠b) w v q:=by obtain⟨s,u,hv,h1,h2⟩:=h;exact⟨s,u,hv,Be1 h1 hb hc,Be1 h2 hb hc⟩
theorem AC8:∀ (i:Nat) (n:Int),(#[.bool false,.slice none 0 0,.bool false,.slice none 0 0]:Array Value)[i]?≠some (Value.int .u32 n):=by
 intro i n;match i with
 | 0=>simp
 | 1=>simp
 | 2=>simp
 | 3=>simp
 | i+4=>simp
theorem Chg.grown{w w':World}{o:Option Nat}(h:w.grownBy w' o):Chg (λk=>o=some k) w w':=⟨h.os,h.tape,h.output,h.size,λk hk hne=>h.block k hk (λe=>hne e.symm)⟩
def FP {α:Type} (E:ER α) (t:TypeId) (S:Nat->Prop) (w:World) (g:Nat) (l:List α):Prop :=
 ∃ es rest,Blk w g t (cellsOf es++rest).toArray/\Els E (λk=>S k/\k≠g) w es l
theorem BQ1{sz:Nat}(hsz:0<sz)(es rest:List Value)(i:Nat)(v:Value)(hs:∀ e∈es,e.cells.size=sz)(hv:v.cells.size=sz)(hi:i<es.length) :
  wrt (cellsOf es++rest).toArray (i*sz) v.cells.toList=(cellsOf (es.set i v)++rest).toArray:=by
 have h0:=AM8 hsz es i v hs hv hi;have hs':∀ e∈es.set i v,e.cells.size=sz:=λe he=>by
  rcases eT he with h | h
  ·exact hs e h
  ·rw[h];exact hv
 have hl:=E6 es hs;have hl':=E6 (es.set i v) hs';rw[bV] at hl';have hle:i*sz+sz<=es.length*sz:=by rw[<-dA];exact bO _ hi
 apply gC;intro j;rw[Aa1 _ _ _ _ (by simp only[cO,hv,dJ,aL,hl];omega)];have h1:(wrt (cellsOf es).toArray (i*sz) v.cells.toList)[j]?=(cellsOf (es.set i v)).toArray[j]?:=by rw[h0]
 rw[Aa1 _ _ _ _ (by simp only[cO,hv,dJ,hl];exact hle)] at h1;simp only[cO,hv,bN,gV] at h1 ⊢;rcases aB j (es.length*sz) with hj | hj
 ·rw[bQ (by omega),bQ (by omega)];exact h1
 ·rw[if_neg (by omega),bT (by omega),bT (by omega),hl,hl']
section
variable {α:Type} {E:ER α} {t:TypeId} {S X:Nat->Prop} {w w':World} {g:Nat} {l:List α}
theorem FP.lt (h:FP E t S w g l):g<w.heap.size:=by obtain⟨es,_,hb,_⟩:=h;exact hb.lt
theorem FP.kp (h:FP E t S w g l) (hk:Kp (λ_=>True) w w'):FP E t S w' g l:=by obtain⟨es,r,hb,he⟩:=h;exact⟨es,r,hk.blk trivial hb,he.keep λk c t f _ hc=>hk k c t f trivial hc⟩
theorem FP.ext (h:FP E t S w g l) (e:Ext w w'):FP E t S w' g l:=h.kp (Kp.ext e)
theorem FP.upd {b:Nat} (h:FP E t S w g l) (u:Upd w w' b) (hne:g≠b) (hS:¬ S b):FP E t S w' g l:=by obtain⟨es,r,hb,he⟩:=h;exact⟨es,r,hb.upd u hne,he.keep (Kp.upd u λh=>hS h.1)⟩
theorem FP.mono {S':Nat->Prop} (h:FP E t S w g l) (hk:∀ k,k<w.heap.size->S k->S' k):FP E t S' w g l:=by obtain⟨es,r,hb,he⟩:=h;exact⟨es,r,hb,he.1,λi e x h1 h2=>E.mono (λk hl hh=>⟨hk k hl hh.1,hh.2⟩) (he.2 i e x h1 h2)⟩
theorem FP.toR {hsz:0<E.sz} {c:Nat} (h:FP E t S w g l) (hS:S g) (hc:l.length<=c) (hm:l.length<=9223372036854775807):(RL E hsz).R S w (.slice (some ⟨g,0,none⟩) l.length c) l:=by
 obtain⟨es,r,hb,he⟩:=h;exact RL.ofBlk hb hS ⟨he.1,λi e x h1 h2=>E.mono (λk _ hh=>hh.1) (he.2 i e x h1 h2)⟩ (λj u hu=>by rw[bN,bQ (List.getElem?_eq_some_iff.1 hu).1];exact hu) hc hm
theorem FP.chg (h:FP E t S w g l) (c:Chg X w w') (hg:¬ X g) (hS:∀ k,S k->¬ X k):FP E t S w' g l:=by obtain⟨es,r,hb,he⟩:=h;exact⟨es,r,c.blk hb hg,he.keep (c.kp λk hk=>hS k hk.1)⟩
theorem FP.at_ {i:Nat} {x:α} (h:FP E t S w g l) (hx:l[i]?=some x):∃ e,E.R (λk=>S k/\k≠g) w e x/\Ac3 w ⟨g,i*E.sz,none⟩ e:=by
 obtain⟨es,r,hb,he⟩:=h;have hlt:i<l.length:=(List.getElem?_eq_some_iff.1 hx).1;obtain⟨e,hee⟩:∃ e,es[i]?=some e:=⟨_,aE (by rw[he.1];exact hlt)⟩;refine⟨e,he.2 i e x hee hx,λj u hu=>?_⟩;have hj:j<E.sz:=by
  have hs:=he.sz e (List.mem_iff_getElem?.2 ⟨i,hee⟩);rcases aB j e.cells.size with h | h
  ·omega
  ·rw[cX h] at hu;cases hu
 have hg:=F0 es i j e he.sz hee hj;rw[hu] at hg;rw[S8,hb.cell,bN,bQ (List.getElem?_eq_some_iff.1 hg).1];exact hg
theorem B4.fp {base:Nat} {v:Value} (h:B4 E t base X w v l) (hne:0<l.length):∃ g cap,v=.slice (some ⟨g,0,none⟩) l.length cap/\l.length<=cap/\cap<=9223372036854775807/\base<=g/\FP E t X w g l:=by
 obtain⟨es,ho,he⟩:=h;rcases ho.2 with ⟨_,h0⟩ | ⟨g,cap,cur,hv,hb,hg,h1,h2,h3,h4⟩
 ·omega
 ·subst hv;refine⟨g,cap,rfl,h1,by simpa[maxLen] using h2,hb,es,cur.toList.drop (l.length*E.sz),?_,he.1,λi e x hi hx=>E.mono (λk _ hk=>⟨hk.1,λe=>hk.2 (by rw[e];rfl)⟩) (he.2 i e x hi hx)⟩;rw[<-h4,eC];exact hg
end
section
variable {P:Program} {ro:Option Nat} {N:Nat} {ds:List Deferred} {ops:Array Oper} {K:Env->World->Prop} {rest:List Oper} {σ:Env} {w:World} {d:Tmp} {ty:TypeId} {pos:String} {af:Array Edge} {α:Type} {E:ER α} {S:Nat->Prop}
theorem AY0 {dd:Option Tmp} {gd:Option (Nat×Bool)} {t t':TypeId} {x y:Operand} {g i o n:Nat} {a:Bool} {l:List α} {v:Value} {z:α} (hsz:0<E.sz) (ht:F6 P t=some (a,n)) (hx:ev σ x=some (.pointer (some ⟨g,o,none⟩))) (hy:ev σ y=some v) (hb:FP E t' S w g l)
  (hn:E.sz=n) (hi:i<l.length) (ho:o=i*E.sz) (hz:E.R (λk=>S k/\k≠g) w v z) :
  Gv P ⟨dd,.store t x y,ty,pos,af,gd⟩ σ w λ_ w'=>FP E t' S w' g (l.set i z)/\Upd w w' g:=by
 obtain⟨es,r,hB,he⟩:=hb;have hcs:=E.csz hz;subst ho;have hl:=E6 es he.sz;have hie:i<es.length:=by rw[he.1];exact hi
 have hle:i*E.sz+n<=(cellsOf es++r).toArray.size:=by
  have:i*E.sz+n<=es.length*E.sz:=by rw[<-hn,<-dA];exact bO _ hie
  rw[dJ,aL,hl];omega
 refine (T5 ht hx hy hB (by omega) hle (E.one hz)).mono ?_;rintro _ w' ⟨hB',u⟩;rw[BQ1 hsz es r i v he.sz hcs hie] at hB';refine⟨⟨es.set i v,r,hB',?_⟩,u⟩;have:=Els.set he i hz;exact this.keep (Kp.upd u λh=>h.2 O)
theorem WL.storeP {t t':TypeId} {x y:Operand} {g i o n:Nat} {a:Bool} {l:List α} {v:Value} {z:α} (hsz:0<E.sz) (ht:F6 P t=some (a,n)) (hx:ev σ x=some (.pointer (some ⟨g,o,none⟩))) (hy:ev σ y=some v) (hb:FP E t' S w g l)
  (hn:E.sz=n) (hi:i<l.length) (ho:o=i*E.sz) (hz:E.R (λk=>S k/\k≠g) w v z) (k:∀ w',FP E t' S w' g (l.set i z)->Upd w w' g->WL P ro N ds ops K rest σ w') :
  WL P ro N ds ops K (⟨none,.store t x y,ty,pos,af,none⟩::rest) σ w :=
 WL.gv O O (AY0 hsz ht hx hy hb hn hi ho hz) λ_ w' ⟨h1,h2⟩=>k w' h1 h2
theorem Ao3 {dd:Option Tmp} {gd:Option (Nat×Bool)} {t t':TypeId} {x:Operand} {g i o:Nat} {l:List α} {z:α} (ht:F6 P t=some (E.isA,E.sz)) (hx:ev σ x=some (.pointer (some ⟨g,o,none⟩))) (ho:o=i*E.sz) (hF:FP E t' S w g l) (hz:l[i]?=some z) :
  Gv P ⟨dd,.load t x,ty,pos,af,gd⟩ σ w λv' w'=>Ext w w'/\Sp.ok (.inr (E.at (λk=>S k/\k≠g) z)) v' w':=by
 subst ho;obtain⟨e,h1,h2⟩:=hF.at_ hz;exact K5 (AH4 ht hx h2 h1) h1 (G7 _ _ _)
theorem WL.ldP {t t':TypeId} {x:Operand} {g i o:Nat} {l:List α} {z:α} (ht:F6 P t=some (E.isA,E.sz)) (hd:Nat.blt d N=true) (hx:ev σ x=some (.pointer (some ⟨g,o,none⟩))) (ho:o=i*E.sz) (hF:FP E t' S w g l) (hz:l[i]?=some z)
  (k:∀ e,E.R (λk=>S k/\k≠g) w e z->WL P ro N ds ops K rest ((d,e)::σ) w):WL P ro N ds ops K (⟨some d,.load t x,ty,pos,af,none⟩::rest) σ w:=by
 subst ho;obtain⟨e,h1,h2⟩:=hF.at_ hz;exact .ldX ht hd hx h2 h1 (k e h1)
end
inductive Fr where
 | co (c:Code)
 | bl (id:Nat)
 | th (F:Env->List Deferred->World->Prop)
def kq (P:Program) (ro:Option Nat) (N:Nat):List Fr->Pst->Pst
 | [],Q=>Q
 | .co c::K,Q=>thn (λσ ds w=>WC P ro N (kq P ro N K Q) c σ ds w) (kq P ro N K Q)
 | .bl id::K,Q=>inb id (kq P ro N K Q)
 | .th F::K,Q=>thn F (kq P ro N K Q)
inductive Mx where
 | o (a:Array Oper) (l:List Oper) (K:List Fr) (σ:Env)
 | c (c:Code) (K:List Fr) (σ:Env)
 | e (e:Exit) (K:List Fr) (σ:Env)
def Bn4:List Value->Nat->Option Value
 | [],_=>none
 | v::_,0=>some v
 | _::r,i+1=>Bn4 r i
theorem Bi4:∀ (l:List Value) (i:Nat),Bn4 l i=l[i]?
 | [],i=>by simp[Bn4]
 | v::l,0=>by simp[Bn4]
 | v::l,i+1=>by simp[Bn4,Bi4 l i]
def pv (σ:Env):Op->Option Value
 | .move x=>ev σ x
 | .assign x=>ev σ x
 | .pick c x y=>match ev σ c with
  | some (.bool true)=>ev σ x
  | some (.bool false)=>ev σ y
  | _=>none
 | .unOp .not _ x=>match ev σ x with
  | some (.bool true)=>some (.bool false)
  | some (.bool false)=>some (.bool true)
  | _=>none
 | .extract x i=>match ev σ x with
  | some (.tuple ⟨l⟩)=>Bn4 l i
  | _=>none
 | _=>none
def gdv (a:Array Oper) (N:Nat) (σ:Env):Option (Nat×Bool)->Option Bool
 | none=>some true
 | some (j,b)=>match Ad6 a j with
  | none=>none
  | some t=>bif Nat.blt t N then (match look σ t with
   | none=>none
   | some (.bool true)=>some b
   | some (.bool false)=>some (!b)
   | some (.tuple _)=>some false
   | some _=>none) else none
def stp (N:Nat):Mx->Option Mx
 | .o a [] K σ=>some (.e .normal K σ)
 | .o a (⟨d,op,ty,pos,af,g⟩::r) K σ=>match gdv a N σ g with
  | none=>none
  | some false=>(match d with
   | none=>some (.o a r K σ)
   | some t=>bif Nat.blt t N then some (.o a r K ((t,undef)::σ)) else none)
  | some true=>match pv σ op with
   | some v=>(match d with
    | none=>some (.o a r K σ)
    | some t=>bif Nat.blt t N then some (.o a r K ((t,v)::σ)) else none)
   | none=>match g with
    | none=>none
    | some _=>some (.o a (⟨d,op,ty,pos,af,none⟩::r) K σ)
 | .c .skip K σ=>some (.e .normal K σ)
 | .c (.seq x y) K σ=>some (.c x (.co y::K) σ)
 | .c (.block id c) K σ=>some (.c c (.bl id::K) σ)
 | .c (.region _ ⟨l⟩ false) K σ=>some (.o l.toArray l K σ)
 | .c (.cond x a b) K σ=>match ev σ x with
  | some (.bool true)=>some (.c a K σ)
  | some (.bool false)=>some (.c b K σ)
  | _=>none
 | .c .ret K σ=>some (.e .ret K σ)
 | .c (.exit id) K σ=>some (.e (.exit id) K σ)
 | .c (.label _) K σ=>some (.e .normal K σ)
 | .e .normal (.co c::K) σ=>some (.c c K σ)
 | .e .normal (.bl _::K) σ=>some (.e .normal K σ)
 | .e (.exit j) (.bl id::K) σ=>bif Nat.beq j id then some (.e .normal K σ) else some (.e (.exit j) K σ)
 | .e (.exit j) (.co _::K) σ=>some (.e (.exit j) K σ)
 | .e (.exit j) (.th _::K) σ=>some (.e (.exit j) K σ)
 | .e .ret (.bl _::K) σ=>some (.e .ret K σ)
 | .e .ret (.co _::K) σ=>some (.e .ret K σ)
 | .e .ret (.th _::K) σ=>some (.e .ret K σ)
 | _=>none
def rnx (N:Nat):Nat->Mx->Mx
 | 0,s=>s
 | n+1,s=>match stp N s with
  | none=>s
  | some s'=>rnx N n s'
def atZ (z:Nat):Mx->Bool
 | .c (.region id _ _) _ _=>Nat.beq id z
 | _=>false
def rnz (z N:Nat):Nat->Mx->Mx
 | 0,s=>s
 | n+1,s=>bif atZ z s then s else match stp N s with
  | none=>s
  | some s'=>rnz z N n s'
section
variable {P:Program} {ro:Option Nat} {N:Nat} {Q:Pst} {ds:List Deferred} {w:World}
def Hx (P:Program) (ro:Option Nat) (N:Nat) (Q:Pst) (ds:List Deferred) (w:World):Mx->Prop
 | .o a l K σ=>WL P ro N ds a (λσ w=>kq P ro N K Q .normal σ ds w) l σ w
 | .c c K σ=>WC P ro N (kq P ro N K Q) c σ ds w
 | .e e K σ=>kq P ro N K Q e σ ds w
theorem pv_vl {o:Oper} {σ:Env} {v:Value} (h:pv σ o.op=some v):Vl P o σ w v:=by
 obtain⟨d,op,ty,pos,af,g⟩:=o;unfold pv at h;dsimp only at h;split at h
 ·exact v_mv h
 ·exact AR9 h
 ·split at h
  ·rename_i hc;exact BM1 hc h
  ·rename_i hc;exact Aa5 hc h
  ·cases h
 ·split at h
  ·rename_i hc;cases h;exact BJ1 hc
  ·rename_i hc;cases h;exact BJ1 hc
  ·cases h
 ·split at h
  ·rename_i hc;rw[Bi4] at h;exact AA1 hc (by simpa using h)
  ·cases h
 ·cases h
theorem Hx.put {a:Array Oper} {o:Oper} {r:List Oper} {K:List Fr} {σ:Env} {v:Value} {s:Mx} (hg:o.guard=none) (hv:pv σ o.op=some v)
  (hs:(match o.dst with | none=>some (Mx.o a r K σ) | some t=>bif Nat.blt t N then some (Mx.o a r K ((t,v)::σ)) else none)=some s) (h:Hx P ro N Q ds w s):Hx P ro N Q ds w (.o a (o::r) K σ):=by
 obtain⟨d,op,ty,pos,af,g⟩:=o;dsimp only at hs hg hv;subst hg
 cases d with
 | none =>
  cases hs;exact WL.vl O O (pv_vl hv) h
 | some t =>
  dsimp only at hs
  cases ht:Nat.blt t N with
  | false=>rw[ht] at hs;cases hs
  | true =>
   rw[ht] at hs
   cases hs;exact WL.vl O ht (pv_vl hv) h
theorem Hx.step {s s':Mx} (hs:stp N s=some s') (h:Hx P ro N Q ds w s'):Hx P ro N Q ds w s:=by
 unfold stp at hs;split at hs
 ·cases hs;exact WL.nil h
 ·rename_i a d op ty pos af g r K σ
  cases hg:gdv a N σ g with
  | none=>rw[hg] at hs;cases hs
  | some b =>
   rw[hg] at hs
   cases b with
   | false =>
    dsimp only at hs
    cases g with
    | none=>cases hg
    | some jb =>
     obtain⟨j,b⟩:=jb;unfold gdv at hg;dsimp only at hg
     cases hj:Ad6 a j with
     | none=>rw[hj] at hg;cases hg
     | some t =>
      rw[hj] at hg;dsimp only at hg
      cases ht:Nat.blt t N with
      | false=>rw[ht] at hg;cases hg
      | true =>
       rw[ht] at hg;simp only[cond_true] at hg;have key:∃ v,look σ t=some v/\(match v with | .bool c=>some c | _=>none)≠some b:=by
        split at hg
        ·cases hg
        ·rename_i hl;exact⟨_,hl,by injection hg with hg;subst hg;simp⟩
        ·rename_i hl;exact⟨_,hl,by injection hg with hg;cases b<;>simp at hg ⊢⟩
        ·rename_i hl;exact⟨_,hl,by simp⟩
        ·cases hg
       obtain⟨v,hv,hne⟩:=key
       cases d with
       | none=>cases hs;exact WL.gskip rfl rfl hj ht hv (by cases v<;>exact hne) h
       | some u =>
        dsimp only at hs
        cases hu:Nat.blt u N with
        | false=>rw[hu] at hs;cases hs
        | true=>rw[hu] at hs;cases hs;exact WL.gskip rfl hu hj ht hv (by cases v<;>exact hne) h
   | true =>
    dsimp only at hs;have key:Hx P ro N Q ds w (.o a (⟨d,op,ty,pos,af,none⟩::r) K σ)->Hx P ro N Q ds w (.o a (⟨d,op,ty,pos,af,g⟩::r) K σ):=by
     intro hh
     cases g with
     | none=>exact hh
     | some jb =>
      obtain⟨j,b⟩:=jb;unfold gdv at hg;dsimp only at hg
      cases hj:Ad6 a j with
      | none=>rw[hj] at hg;cases hg
      | some t =>
       rw[hj] at hg;dsimp only at hg
       cases ht:Nat.blt t N with
       | false=>rw[ht] at hg;cases hg
       | true =>
        rw[ht] at hg;simp only[cond_true] at hg;have:look σ t=some (.bool b):=by
         split at hg
         ·cases hg
         ·rename_i hl;injection hg with hg;subst hg;exact hl
         ·rename_i hl;injection hg with hg;cases b<;>simp at hg;exact hl
         ·cases hg
         ·cases hg
        exact WL.grun hj ht this hh
    refine key ?_
    cases hp:pv σ op with
    | some v=>rw[hp] at hs;exact Hx.put O hp hs h
    | none =>
     rw[hp] at hs
     cases g with
     | none=>cases hs
     | some _=>cases hs;exact h
 ·cases hs;exact WC.skip h
 ·cases hs;exact WC.seq h
 ·cases hs;exact WC.block h
 ·cases hs;exact WC.region h
 ·split at hs
  ·rename_i hc;cases hs;exact WC.condT hc h
  ·rename_i hc;cases hs;exact WC.condF hc h
  ·cases hs
 ·cases hs;exact WC.ret h
 ·cases hs;exact WC.exit h
 ·cases hs;exact WC.label h
 ·cases hs;exact h
 ·cases hs;exact h
 ·rename_i j id K σ;unfold Hx kq;dsimp only[inb]
  cases hb:Nat.beq j id with
  | true=>rw[hb] at hs;cases hs;exact h
  | false=>rw[hb] at hs;cases hs;exact h
 ·cases hs;exact h
 ·cases hs;exact h
 ·cases hs;exact h
 ·cases hs;exact h
 ·cases hs;exact h
 ·cases hs
theorem Hx.run:∀ (n:Nat) {s:Mx},Hx P ro N Q ds w (rnx N n s)->Hx P ro N Q ds w s
 | 0,_,h=>h
 | n+1,s,h=>by
  unfold rnx at h
  cases hs:stp N s with
  | none=>rw[hs] at h;exact h
  | some s'=>rw[hs] at h;exact Hx.step hs (Hx.run n h)
theorem Hx.runz (z:Nat):∀ (n:Nat) {s:Mx},Hx P ro N Q ds w (rnz z N n s)->Hx P ro N Q ds w s
 | 0,_,h=>h
 | n+1,s,h=>by
  unfold rnz at h
  cases hz:atZ z s with
  | true=>rw[hz] at h;exact h
  | false =>
   rw[hz] at h
   simp only[cond_false] at h
   cases hs:stp N s with
   | none=>rw[hs] at h;exact h
   | some s'=>rw[hs] at h;exact Hx.step hs (Hx.runz z n h)
theorem Hx.ofz {z:Nat} {s s':Mx} (h:rnz z N 500 s=s') (k:Hx P ro N Q ds w s'):Hx P ro N Q ds w s:=Hx.runz z 500 (h▸k)
theorem Hx.of {s s':Mx} (h:rnx N 500 s=s') (k:Hx P ro N Q ds w s'):Hx P ro N Q ds w s:=Hx.run 500 (h▸k)
variable {K K':List Fr} {σ σ':Env} {a a':Array Oper} {l l':List Oper} {o:Oper} {c c':Code} {e e':Exit} {F:Env->List Deferred->World->Prop}
theorem WL.go (h:rnx N 500 (.o a l K σ)=.o a' (o::l') K' σ') (k:WL P ro N ds a' (λσ w=>kq P ro N K' Q .normal σ ds w) (o::l') σ' w):WL P ro N ds a (λσ w=>kq P ro N K Q .normal σ ds w) l σ w:=Hx.of (s:=.o a l K σ) h k
theorem WL.goC (h:rnx N 500 (.o a l K σ)=.c c' K' σ') (k:WC P ro N (kq P ro N K' Q) c' σ' ds w):WL P ro N ds a (λσ w=>kq P ro N K Q .normal σ ds w) l σ w:=Hx.of (s:=.o a l K σ) h k
theorem WL.goE (h:rnx N 500 (.o a l K σ)=.e e' [] σ') (k:Q e' σ' ds w):WL P ro N ds a (λσ w=>kq P ro N K Q .normal σ ds w) l σ w:=Hx.of (s:=.o a l K σ) h k
theorem WL.goN (h:rnx N 500 (.o a l K σ)=.e .normal (.th F::K') σ') (k:F σ' ds w):WL P ro N ds a (λσ w=>kq P ro N K Q .normal σ ds w) l σ w:=Hx.of (s:=.o a l K σ) h k
theorem WC.go (h:rnx N 500 (.c c K σ)=.o a' (o::l') K' σ') (k:WL P ro N ds a' (λσ w=>kq P ro N K' Q .normal σ ds w) (o::l') σ' w):WC P ro N (kq P ro N K Q) c σ ds w:=Hx.of (s:=.c c K σ) h k
theorem WC.goC (h:rnx N 500 (.c c K σ)=.c c' K' σ') (k:WC P ro N (kq P ro N K' Q) c' σ' ds w):WC P ro N (kq P ro N K Q) c σ ds w:=Hx.of (s:=.c c K σ) h k
theorem WL.goZ (z:Nat) (h:rnz z N 500 (.o a l K σ)=.c c' K' σ') (k:WC P ro N (kq P ro N K' Q) c' σ' ds w):WL P ro N ds a (λσ w=>kq P ro N K Q .normal σ ds w) l σ w:=Hx.ofz (s:=.o a l K σ) h k
theorem WC.beg (h:WC P ro N (kq P ro N [] Q) c σ ds w):WC P ro N Q c σ ds w:=h
theorem kq.go (h:rnx N 500 (.e e K σ)=.o a' (o::l') K' σ') (k:WL P ro N ds a' (λσ w=>kq P ro N K' Q .normal σ ds w) (o::l') σ' w):kq P ro N K Q e σ ds w:=Hx.of (s:=.e e K σ) h k
end
inductive Bx where
 | mk (σ:Env)
def Ar4 (σ:Env):List Nat->Env->Bx
 | [],acc=>.mk acc
 | t::ks,acc=>match look σ t with
  | some v=>Ar4 σ ks ((t,v)::acc)
  | none=>Ar4 σ ks acc
theorem Ao1 {σ σ1:Env}:∀ (ks:List Nat) (acc:Env),Ar4 σ ks acc=.mk σ1->(∀ p∈acc,look σ p.1=some p.2)->∀ p∈σ1,look σ p.1=some p.2
 | [],acc,h,ha=>by cases h;exact ha
 | t::ks,acc,h,ha=>by
  unfold Ar4 at h
  cases hl:look σ t with
  | none=>rw[hl] at h;exact Ao1 ks acc h ha
  | some v =>
   rw[hl] at h
   refine Ao1 ks _ h λp hp=>?_
   rcases List.mem_cons.1 hp with rfl | hp
   ·exact hl
   ·exact ha p hp
theorem Bx1{t:Nat}{v:Value}:look σ t=some v->(t,v)∈σ:=by
 induction σ with
 | nil=>intro h;simp[look] at h
 | cons p σ ih =>
  obtain⟨k,u⟩:=p;intro h;simp only[look] at h
  cases hb:Nat.beq k t with
  | true=>rw[hb] at h;cases h;rw[bH hb];exact cR ..
  | false=>rw[hb] at h;exact cG _ (ih h)
theorem Bx2{τ:Env}{t:Nat}{v:Value}(h:look (τ++σ) t=some v):look τ t=some v\/look σ t=some v:=by
 induction τ with
 | nil=>exact .inr h
 | cons p τ ih =>
  obtain⟨k,u⟩:=p;simp only[gF,look] at h ⊢
  cases hb:Nat.beq k t with
  | true=>rw[hb] at h;exact .inl h
  | false=>rw[hb] at h;exact ih h
theorem BK8{ks:List Nat}{ch σ1 σ':Env}(hd:Ar4 σ' ks []=.mk σ1)(hc:∀ t v,look ch t=some v->look σ' t=some v):∀ t v,look (ch++σ1) t=some v->look σ' t=some v:=λt v h=>by
 rcases Bx2 h with h | h
 ·exact hc t v h
 ·exact Ao1 ks [] hd (λp hp=>by cases hp) _ (Bx1 h)
section
variable {P:Program} {ro:Option Nat} {N:Nat} {Q:Pst} {σ σ1:Env} {ds:List Deferred} {w:World} {K:List Fr}
def Rnd {α:Type} (ks:List Nat) (σ1:Env) (ds:List Deferred) (ch:α->Env) (F:α->World->Prop) (σ':Env) (ds':List Deferred) (w':World):Prop :=
 ds'=ds/\∃ x',(∀ t v,look (ch x'++σ1) t=some v->look σ' t=some v)/\F x' w'
theorem Rnd.mk {α:Type} {ks:List Nat} {σ1 σ':Env} {ds:List Deferred} {ch:α->Env} {F:α->World->Prop} {w':World} (x:α) (hd:Ar4 σ' ks []=.mk σ1) (hc:∀ t v,look (ch x) t=some v->look σ' t=some v) (hF:F x w'):Rnd ks σ1 ds ch F σ' ds w' :=
 ⟨rfl,x,BK8 hd hc,hF⟩
theorem WC.lp {α:Type} {c:Code} (ks:List Nat) (hk:Ar4 σ ks []=.mk σ1) (ch:α->Env) (F:α->World->Prop) (m:α->Nat) (x:α) (hE:∀ t v,look (ch x) t=some v->look σ t=some v) (hF:F x w)
  (h:∀ x w,F x w->WC P ro N (kq P ro N (.th (Rnd ks σ1 ds ch λx' w'=>F x' w'/\m x'<m x)::K) Q) c (ch x++σ1) ds w):WC P ro N (kq P ro N K Q) (.loop c) σ ds w:=by
 refine WC.loop (λx=>ch x++σ1) F m x (BK8 hk hE) hF ?_;intro x w hx;refine (h x w hx).mono ?_;intro e σ' ds' w' hh
 cases e with
 | normal=>obtain⟨h1,x',h2,h3,h4⟩:=hh;exact⟨h1,x',h2,h3,h4⟩
 | _=>exact hh
def BC8:Nat->List Fr->Option (List Fr×Code×List Fr)
 | 0,.co c::K=>some ([],c,K)
 | i+1,f::K=>match BC8 i K with
  | some (A,c,B)=>some (f::A,c,B)
  | none=>none
 | _,_=>none
theorem Bj8:∀ {i:Nat} {K A B:List Fr} {c:Code},BC8 i K=some (A,c,B)->K=A++.co c::B
 | 0,[],A,B,c,h=>by simp[BC8] at h
 | 0,.co c'::K,A,B,c,h=>by simp[BC8] at h;obtain⟨rfl,rfl,rfl⟩:=h;rfl
 | 0,.bl _::K,A,B,c,h=>by simp[BC8] at h
 | 0,.th _::K,A,B,c,h=>by simp[BC8] at h
 | i+1,[],A,B,c,h=>by simp[BC8] at h
 | i+1,f::K,A,B,c,h=>by
  simp only[BC8] at h
  cases hh:BC8 i K with
  | none=>rw[hh] at h;cases h
  | some p =>
   obtain⟨A',c',B'⟩:=p
   rw[hh] at h
   cases h
   rw[Bj8 hh];rfl
theorem Aw4 {Q1 Q2:Pst} (hq:∀ e σ ds w,Q1 e σ ds w->Q2 e σ ds w):∀ (A:List Fr) {B1 B2:List Fr},(∀ e σ ds w,kq P ro N B1 Q1 e σ ds w->kq P ro N B2 Q2 e σ ds w)->∀ e σ ds w,kq P ro N (A++B1) Q1 e σ ds w->kq P ro N (A++B2) Q2 e σ ds w
 | [],_,_,h,e,σ,ds,w,hh=>h e σ ds w hh
 | .co c::A,B1,B2,h,e,σ,ds,w,hh=>by
  have ih:=Aw4 hq A h
  cases e with
  | normal=>exact WC.mono (Q:=kq P ro N (A++B1) Q1) hh ih
  | _=>exact ih _ _ _ _ hh
 | .bl id::A,B1,B2,h,e,σ,ds,w,hh=>by
  have ih:=Aw4 hq A h
  cases e with
  | exit j =>
   show bif Nat.beq j id then _ else _
   have hh:bif Nat.beq j id then kq P ro N (A++B1) Q1 .normal σ ds w else kq P ro N (A++B1) Q1 (.exit j) σ ds w:=hh
   cases hb:Nat.beq j id with
   | true=>rw[hb] at hh;exact ih _ _ _ _ hh
   | false=>rw[hb] at hh;exact ih _ _ _ _ hh
  | _=>exact ih _ _ _ _ hh
 | .th F::A,B1,B2,h,e,σ,ds,w,hh=>by
  have ih:=Aw4 hq A h
  cases e with
  | normal=>exact hh
  | _=>exact ih _ _ _ _ hh
theorem kq_cut {α:Type} {i:Nat} {A B:List Fr} {c:Code} (ch:α->Env) (F:α->World->Prop) (hK:BC8 i K=some (A,c,B)) (ks:List Nat) (h2:∀ x w',F x w'->WC P ro N (kq P ro N B Q) c (ch x++σ1) ds w') :
  ∀ e σ' ds' w',kq P ro N (A++.th (Rnd ks σ1 ds ch F)::B) Q e σ' ds' w'->kq P ro N K Q e σ' ds' w':=by
 rw[Bj8 hK];refine Aw4 (λ_ _ _ _ h=>h) A λe σ' ds' w' h=>?_
 cases e with
 | normal=>obtain⟨rfl,x,he,hf⟩:=h;exact (h2 x w' hf).weak _ he
 | _=>exact h
theorem WC.cut {α:Type} {A B:List Fr} {c c':Code} (i:Nat) (ks:List Nat) (hk:Ar4 σ ks []=.mk σ1) (ch:α->Env) (F:α->World->Prop) (hK:BC8 i K=some (A,c',B)) (h2:∀ x w',F x w'->WC P ro N (kq P ro N B Q) c' (ch x++σ1) ds w')
  (h1:WC P ro N (kq P ro N (A++.th (Rnd ks σ1 ds ch F)::B) Q) c σ ds w):WC P ro N (kq P ro N K Q) c σ ds w:=h1.mono (kq_cut ch F hK ks h2)
end
section
variable {P:Program} {ro:Option Nat} {N:Nat} {ds:List Deferred} {ops:Array Oper} {K:Env->World->Prop} {rest:List Oper} {σ:Env} {w:World} {d:Tmp} {ty:TypeId} {pos:String} {af:Array Edge} {xt yt:TypeId} {x y:Operand}
theorem WL.inc {i:Nat} (hd:Nat.blt d N=true) (hx:ev σ x=some (iW (i:Nat))) (hy:ev σ y=some (iW 1)) (h:i<9223372036854775807) (k:WL P ro N ds ops K rest ((d,iW ((i+1:Nat):Int))::σ) w):WL P ro N ds ops K (⟨some d,.binOp .add xt x y yt,ty,pos,af,none⟩::rest) σ w:=by refine WL.add hd hx hy ?_;rw[wI (by omega)];exact k
end
section
variable {P:Program} {ro:Option Nat} {N:Nat} {ds:List Deferred} {ops:Array Oper} {K:Env->World->Prop} {rest:List Oper} {σ:Env} {w:World} {d:Tmp} {ty:TypeId} {pos:String} {af:Array Edge}
end
theorem lc1{k:Nat}(h1:look σ k=some u):∀ t v,look [(k,u)] t=some v->look σ t=some v:=B7 h1 AX5
theorem lc2{k k2:Nat}{u2:Value}(h1:look σ k=some u)(h2:look σ k2=some u2):∀ t v,look [(k,u),(k2,u2)] t=some v->look σ t=some v:=B7 h1 (lc1 h2)
theorem lc3{k k2 k3:Nat}{u2 u3:Value}(h1:look σ k=some u)(h2:look σ k2=some u2)(h3:look σ k3=some u3):∀ t v,look [(k,u),(k2,u2),(k3,u3)] t=some v->look σ t=some v:=B7 h1 (lc2 h2 h3)
def BM7 (r:Rat):Int:=r.num.sign
theorem BJ8(q:QV):BM7 (E3 q)=(pn q).sign:=by
 unfold BM7 E3;have hp:=Q8 q;generalize pn q=n at *;generalize pd q=d at *;rw[gH,bZ hp,Int.one_mul];have hg:(0:Int)<((d.gcd n:Nat):Int):=by
  have:0<d.gcd n:=by rw[Int.gcd];exact Nat.gcd_pos_of_pos_left _ (by omega)
  omega
 have hd:((d.gcd n:Nat):Int)∣n:=Int.gcd_dvd_right ..;obtain⟨k,hk⟩:=hd;generalize hgg:((d.gcd n:Nat):Int)=g at *;rw[hk,Int.mul_ediv_cancel_left _ (by omega),Int.sign_mul,bZ hg,Int.one_mul]
theorem AI8{r:Rat}:BM7 r=0<->r=0:=by unfold BM7;rw[Int.sign_eq_zero_iff_zero,Rat.num_eq_zero]
theorem Bi3 {β:Type} {p:Nat->β->Prop}:∀ n,(∀ i,i<n->∃ y,p i y)->∃ ys:List β,ys.length=n/\∀ i y,ys[i]?=some y->p i y
 | 0,_=>⟨[],rfl,λi y h=>by simp at h⟩
 | n+1,h=>by
  obtain⟨ys,hl,hy⟩:=Bi3 n λi hi=>h i (by omega)
  obtain⟨y,hp⟩:=h n (by omega)
  refine⟨ys++[y],by simp[hl],λi z hz=>?_⟩
  rcases aB i ys.length with hi | hi
  ·rw[bQ hi] at hz;exact hy i z hz
  ·rw[bT hi] at hz
   cases hk:i-ys.length with
   | zero=>rw[hk] at hz;simp at hz;subst hz;rw[show i=n by omega];exact hp
   | succ k=>rw[hk] at hz;simp at hz
theorem _root_.Go.World.noneFrozen.left{W:World}{p q:List MemPlace}(h:W.noneFrozen (p++q)):W.noneFrozen p:=λb o hm=>h b o (iA _ hm)
theorem _root_.Go.World.noneFrozen.right{W:World}{p q:List MemPlace}(h:W.noneFrozen (p++q)):W.noneFrozen q:=λb o hm=>h b o (List.mem_append_right _ hm)
section
variable {H:Type} {enc:TypeId×Value->H} {P:Program} {W:World}
def Opn (enc:TypeId×Value->H) (P:Program) (W:World) {α:Type} (E:ER α) (t:TypeId) (Z:DataW H->α->Prop):Prop :=
 ∀ (fuel:Nat) (cs:List Value) (x:DataW H×List MemPlace),DataW.trod enc P W 0 (λ_=>true) true fuel t cs=some x->W.noneFrozen x.2->∃ e a,e.cells.toList=cs/\E.R (λ_=>True) W e a/\Z x.1 a
def ZL {α:Type} (Z:DataW H->α->Prop) (d:DataW H) (l:List α):Prop :=
 (d=.nil/\l=[])\/∃ elems spare,d=.slice elems spare/\elems.length=l.length/\∀ (i:Nat) d' x,elems[i]?=some d'->l[i]?=some x->Z d' x
theorem Opn.slice {α:Type} {E:ER α} {t e:TypeId} {Z:DataW H->α->Prop} (hsz:0<E.sz) (ht:P.underlying t=some (.slice e)) (hc:P.cellsOf e=E.sz) (h:Opn enc P W E e Z):Opn enc P W (RL E hsz) t (ZL Z):=by
 intro fuel cs x hx hfz;rcases Deep.open_slice ht hx with ⟨rfl,rfl⟩ | ⟨a,len,cap,m,n,D,Pl,rfl,_,hl,hcap,hm,rfl,hel⟩
 ·exact⟨.slice none 0 0,[],rfl,RL.nil,.inl ⟨rfl,rfl⟩⟩
 ·have hlm:len<=m:=by rw[hm];simp;exact hl
  have hfr:∀ j,j<len*E.sz->W.frozen? (a.add j)=false:=λj hj=>by
   have hk:j<m*P.cellsOf e:=by rw[hc];exact bC hj (bO _ hlm)
   have:=hfz a.block (a.off+j) (iA _ (List.mem_map.2 ⟨j,List.mem_range.2 hk,rfl⟩));have hb:(a.add j).block=a.block:=J9 a j;have ho:(a.add j).off=a.off+j\/(j=0/\(a.add j).off=a.off):=by
    unfold Addr.add;split
    ·rename_i h;exact .inr ⟨by simpa using h,rfl⟩
    ·exact .inl rfl
   unfold World.frozen? at this ⊢;rw[hb];rcases ho with ho | ⟨h0,ho⟩
   ·rw[ho];exact this
   ·rw[ho];subst h0;exact this
  have hfe:∀ i,i<m->W.noneFrozen (Pl i):=λi hi b off h=>hfz b off (List.mem_append_right _ (List.mem_flatMap.2 ⟨i,List.mem_range.2 hi,h⟩));obtain⟨ys,hyl,hys⟩:=Bi3 (p:=λi (y:Value×α)=>E.R (λ_=>True) W y.1 y.2/\(∀ j u,y.1.cells[j]?=some u->W.cell? ((a.add (i*E.sz)).add j)=some u)/\Z (D i) y.2) len λi hi=>by
   obtain⟨cs',h1,h2⟩:=hel i (by omega);rw[hc] at h1;obtain⟨_,hlen,hcell⟩:=World.cells?_some h1;obtain⟨e,x,he,hR,hZ⟩:=h n cs' _ h2 (hfe i (by omega));refine⟨(e,x),hR,λj u hu=>?_,hZ⟩;have hj:j<E.sz:=by
    rcases aB j e.cells.size with h | h
    ·rw[<-hlen,<-he];simpa using h
    ·rw[cX h] at hu;cases hu
   rw[hcell j hj,<-he];simpa using hu
  have hels:Els E (λ_=>True) W (ys.map (·.1)) (ys.map (·.2)):=by
   refine⟨by simp,λi e x he hx=>?_⟩;rw[aI] at he hx
   cases hy:ys[i]? with
   | none=>rw[hy] at he;cases he
   | some y=>rw[hy] at he hx;cases he;cases hx;exact (hys i y hy).1
  refine⟨.slice (some a) len cap,ys.map (·.2),rfl,⟨ys.map (·.1),hels,some a,cap,by simp[hyl],by simp[hyl];exact hl,by simp[hyl];simp only[maxLen] at hcap;omega,by rw[E6 _ hels.sz];simp,λ_=>⟨a,rfl,trivial,λj u hu=>?_⟩⟩,.inr ⟨_,_,rfl,by simp[hyl],λi d' x hd hx=>?_⟩⟩
  ·have hjl:j<len*E.sz:=by
    rcases aB j (len*E.sz) with h | h
    ·exact h
    ·rw[aH (by rw[E6 _ hels.sz];simpa[hyl] using h)] at hu;cases hu
   have hq:j / E.sz<len:=(bD hsz).2 hjl;have hr:j % E.sz<E.sz:=aY _ hsz;have hjd:(j / E.sz)*E.sz+j % E.sz=j:=by rw[aT];exact bE j E.sz
   obtain⟨y,hy⟩:∃ y,ys[j / E.sz]?=some y:=⟨_,aE (by rw[hyl];exact hq)⟩;have hg:=F0 (ys.map (·.1)) (j / E.sz) (j % E.sz) y.1 hels.sz (by rw[aI,hy];rfl) hr;rw[hjd,hu] at hg;have:=(hys _ y hy).2.1 (j % E.sz) u hg.symm;rw[AC5,hjd] at this;exact⟨this,hfr j hjl⟩
  ·rw[aI] at hx
   cases hy:ys[i]? with
   | none=>rw[hy] at hx;cases hx
   | some y =>
    rw[hy] at hx;cases hx;have hi:i<len:=by
     rcases aB i ys.length with h | h
     ·omega
     ·rw[aH h] at hy;cases hy
    rw[aI,bA hi] at hd
    cases hd;exact (hys i y hy).2.2
theorem Ax3 {k:IntKind} {n:Int} (h:(Lit.int k n).wf=true):k.min<=n/\n<=k.max:=by simpa[Lit.wf] using h
theorem opn_int {t:TypeId} {k:IntKind} (ht:P.underlying t=some (.int k)):Opn enc P W (B8 k) t (λ_ _=>True):=by intro fuel cs x hx hfz;obtain⟨n,rfl,rfl,hw⟩:=DataW.trod_int ht hx;exact⟨.int k n,n,rfl,⟨rfl,Ax3 hw⟩,trivial⟩
def sh2 (P:Program) (t:TypeId):Option ((TypeId×Nat)×(TypeId×Nat)) :=
 match P.underlying t with
 | some (.struct fs)=>match fs.toList with
  | [f0,f1]=>some ((f0.type,f0.offset),(f1.type,f1.offset))
  | _=>none
 | _=>none
theorem Bt0 {t t0 t1:TypeId} {o0 o1 fuel:Nat} {cs:List Value} {x:DataW H×List MemPlace} (hs:sh2 P t=some ((t0,o0),(t1,o1))) (hx:DataW.trod enc P W 0 (λ_=>true) true fuel t cs=some x) :
  ∃ y0 y1 n,x=(.agg [y0.1,y1.1],y0.2++y1.2)/\cs.length=P.cellsOf t/\DataW.trod enc P W 0 (λ_=>true) true n t0 ((cs.drop o0).take (P.cellsOf t0))=some y0/\DataW.trod enc P W 0 (λ_=>true) true n t1 ((cs.drop o1).take (P.cellsOf t1))=some y1:=by
 unfold sh2 at hs;split at hs
 ·rename_i fs hu;split at hs
  ·rename_i f0 f1 hl;simp only[Option.some.injEq,Prod.mk.injEq] at hs;obtain⟨⟨rfl,rfl⟩,rfl,rfl⟩:=hs;have:fs=#[f0,f1]:=by apply Array.toList_inj.1;simpa using hl
   subst this;exact trod_struct2 hu hx
  ·cases hs
 ·cases hs
theorem Opn.arg {α:Type} {E:ER α} {hsz:0<E.sz} {t e:TypeId} {Z:DataW H->List α->Prop} {r:Reach} {b0:Nat} {v:Value} {d:DataW H} {ps:List MemPlace} (ht:P.underlying t=some (.slice e)) (h:Opn enc P W (RL E hsz) t Z)
  (hval:Value.okWide P W r b0 t v) (hd:DataW.Trod enc P W 0 (λ_=>true) true t v d ps) (hfz:W.noneFrozen ps):∃ l,(RL E hsz).R (λ_=>True) W v l/\Z d l:=by
 obtain⟨a,n,c,rfl⟩:=okWide_slice ht hval;obtain⟨fuel,hf⟩:=hd;obtain⟨e',l,h1,h2,h3⟩:=h fuel _ _ hf hfz;obtain⟨a',c',rfl,_⟩:=RL.len h2;simp[Value.cells] at h1;obtain⟨rfl,rfl,rfl⟩:=h1;exact⟨l,h2,h3⟩
end
theorem follows:prog.follows .mixedOrders=true:=by kernel_rfl
theorem D6:F6 prog 4=some (false,1):=by kernel_rfl
theorem AL7:prog.underlying 4=some .bool:=by kernel_rfl
theorem AJ3:prog.underlying 3=some (.int .i64):=by kernel_rfl
theorem Ay3:prog.underlying 2=some (.int .i64):=by kernel_rfl
theorem G3:prog.underlying 149=some (.int .u64):=by kernel_rfl
theorem G4:prog.underlying 108=some (.int .u32):=by kernel_rfl
theorem Bg7:prog.underlying 131=some (.int .u64):=by kernel_rfl
theorem A5:F6 prog 3=some (false,1):=by kernel_rfl
theorem Z4:F6 prog 2=some (false,1):=by kernel_rfl
theorem Bs0:F6 prog 149=some (false,1):=by kernel_rfl
theorem C1:F6 prog 108=some (false,1):=by kernel_rfl
theorem N9:O8 prog 108=some (.int .u32 0,1,4):=by kernel_rfl
theorem E5:prog.underlying 35=some (.slice 108):=by kernel_rfl
theorem L2:F6 prog 35=some (false,1):=by kernel_rfl
theorem Br0:M0 prog 35=some (.slice none 0 0):=by kernel_rfl
theorem B6:F6 prog 37=some (true,2):=by kernel_rfl
theorem F4:M0 prog 37=some (.agg #[.bool false,.slice none 0 0]):=by kernel_rfl
theorem J5:U7 prog 37 0=some 0:=by kernel_rfl
theorem G9:U7 prog 37 1=some 1:=by kernel_rfl
theorem A3:F6 prog 39=some (true,4):=by kernel_rfl
theorem E8:M0 prog 39=some (.agg #[.bool false,.slice none 0 0,.bool false,.slice none 0 0]):=by kernel_rfl
theorem J4:O8 prog 39=some (.agg #[.bool false,.slice none 0 0,.bool false,.slice none 0 0],4,64):=by kernel_rfl
theorem AC2:U7 prog 39 0=some 0:=by kernel_rfl
theorem AC1:U7 prog 39 1=some 2:=by kernel_rfl
theorem C9:prog.underlying 26=some (.slice 39):=by kernel_rfl
theorem C2:F6 prog 26=some (false,1):=by kernel_rfl
theorem BL7:M0 prog 26=some (.slice none 0 0):=by kernel_rfl
theorem AD5:O8 prog 26=some (.slice none 0 0,1,24):=by kernel_rfl
theorem E4:prog.underlying 70=some (.slice 26):=by kernel_rfl
theorem AK7:F6 prog 70=some (false,1):=by kernel_rfl
theorem Br2:M0 prog 70=some (.slice none 0 0):=by kernel_rfl
theorem Be9:AK4 prog 37 []=some #[.bool false,.slice none 0 0]:=by kernel_rfl
theorem Ap2{b:Bool}{a:Option Addr}{c:Nat}:AK4 prog 37 [(0,.bool b),(1,.slice a n c)]=some #[.bool b,.slice a n c]:=by kernel_rfl
theorem AC4:AK4 prog 39 []=some #[.bool false,.slice none 0 0,.bool false,.slice none 0 0]:=by kernel_rfl
theorem BQ4{x:Value}:AK4 prog 39 [(0,.agg #[x,y])]=some #[x,y,.bool false,.slice none 0 0]:=by kernel_rfl
theorem BD4{x x' y':Value}:AK4 prog 39 [(0,.agg #[x,y]),(1,.agg #[x',y'])]=some #[x,y,x',y']:=by kernel_rfl
theorem CA3:Y7 prog 35 0 []=some (108,#[]):=by kernel_rfl
theorem AT5{x:Int}:Y7 prog 35 1 [(0,.int .u32 x)]=some (108,#[.int .u32 x]):=by kernel_rfl
theorem CA2{x y:Int}:Y7 prog 35 2 [(0,.int .u32 x),(1,.int .u32 y)]=some (108,#[.int .u32 x,.int .u32 y]):=by kernel_rfl
theorem G1:Ent prog 94:=en func94
theorem G0{w:World}{v:Value}{l:List Nat}(h:eW.R S w v l):CR prog 94 #[v] w (eW.at S (K2 l)):=by
 refine enter func94 O ntmps94 O ?_;refine .seq ?_;refine .region ?_;refine .an O O (.seq ?_);refine .block ?_;refine .loop (α:=Value×List Nat) (λx=>[(0,x.1)]) (λx w'=>w'=w/\eW.R S w x.1 x.2/\K2 x.2=K2 l) (λx=>x.2.length) (v,l) ?_ ?_ ?_
 ·exact lkA rfl
 ·exact⟨rfl,h,rfl⟩
 ·rintro⟨u,r⟩ w' ⟨rfl,hu,hr⟩;replace hu:eW.R S w' u r:=hu;replace hr:K2 r=K2 l:=hr;have hlen:=Af0 hu;refine .seq ?_;refine .seq ?_;refine .region ?_;rcases List.eq_nil_or_concat r with rfl | ⟨r',x,rfl⟩
  ·refine .mv O O (.lenR E5 O O hu (.gtrF O O O (by simp) (.mv O O (.gs O O O O O (.gs O O O O O (.gs O O O O O (.gs O O O O O (.gs O O O O O (.gs O O O O O (.gs O O O O O (.pick O O O (.nil (.condF O (.exit (.sr (.mv O O (.an O O (.ret ?_))))))))))))))))));exact .p1 u results94 O ⟨.refl _,hr▸hu⟩
  ·have hl:(r'++[x]).length=r'.length+1:=by simp
   rw[List.concat_eq_append] at *;rw[hl] at hlen;have h1:IntKind.i64.wrap (((r'++[x]).length:Nat)-1:Int)=(r'.length:Int):=by rw[wI (by omega)];omega
   refine .mv O O (.lenR E5 O O hu (.gtrT O O O (by omega) (.mv O O ?_)));refine .gr O O O O (.mv O O (.gr O O O O (.mv O O (.gr O O O O (.lenR E5 O O hu (.gr O O O O (.sub O O O (.gr O O O O ?_))))))));refine .ix E5 C1 O O hu O (by omega) (y:=x) (by rw[h1];simp) λp hp=>?_;refine .gr O O O O ?_;refine .ldE C1 O O hp λe he=>?_;obtain⟨rfl,hx⟩:=he;refine .gr O O O O ?_;by_cases h0:x=0
   ·refine .eqlT O O O (by omega) (.pick O O O (.nil ?_));refine .condT O (.skip (.block (.region ?_)));refine .mv O O (.mv O O (.lenR E5 O O hu (.sub O O O ?_)));refine .cut 0 r'.length E5 C1 O O hu O ⟨_,by rw[<-h1];rfl⟩ (by omega) (by omega) λv2 hv2=>?_;refine .an O O ?_;refine⟨rfl,(v2,r'),lkA rfl,⟨rfl,by simpa using hv2,?_⟩,by simp⟩;rw[<-hr,h0,AV9]
   ·refine .eqlF O O O (by omega) (.pick O O O (.nil (.condF O (.exit (.sr (.mv O O (.an O O (.ret ?_))))))));exact .plain [u] results94 ⟨rfl,trivial⟩ ⟨.refl _,by rw[<-hr,Af3 _ _ h0];exact hu⟩
theorem M5:Ent prog 107:=en func107
theorem M2{w:World}{v:Value}{l:List Nat}{neg:Bool}(up:Up S w)(h:eW.R S w v l):CR prog 107 #[.bool neg,v] w (eZ.at S (zc (sg neg (val l)))):=by
 have hd:dig l:=K7 h;refine enter func107 O ntmps107 O ?_;refine .sr ?_;refine .alloc O F4 λw1 b1 n1=>.nil ?_;obtain⟨e1,k1,hb1,hs1⟩:=n1;have h1:=(h.par w1.heap.size).ext e1;refine .sr ?_;refine .mv O O ?_;refine .call _ O G1 O (G0 h1) λv2 w2 e2 h2=>.an O O ?_;have k2:=k1.ext e2;have hx:Ext w w2:=e1.trans e2;have hS:¬ Sx S w.heap.size w1.heap.size b1:=Sx.no (by omega) (by omega);refine .seq (.sr ?_);by_cases h0:K2 l=[]
 ·rw[h0] at h2;refine .mv O O (.lenR E5 O O h2 (.eqlT O O O O (.nil (.condT O (.sr ?_)))));have hz:eZ.R (Sx S w.heap.size w1.heap.size) w2 (.agg #[.bool false,.slice none 0 0]) ⟨false,[]⟩:=⟨_,rfl,RL.nil⟩;refine .bld _ O O Be9 ?_;refine .storeA B6 O O k2 O O hz hS λw3 k3 u3 h3=>.nil (.ret ?_);refine .cell results107 O B6 O O k3 h3 ⟨u3.below hx (by omega),?_⟩;rw[(AL4 hd).1 h0,Ae7];exact h3.out
 ·refine .mv O O (.lenR E5 O O h2 (.eqlF O O O (by simpa using h0) (.nil (.condF O (.skip (.sr ?_))))));have hz:eZ.R (Sx S w.heap.size w1.heap.size) w2 (.agg #[.bool neg,v2]) ⟨neg,K2 l⟩:=⟨_,rfl,h2⟩;obtain⟨a,c,rfl,_⟩:=RL.len h2;refine .mv O O (.mv O O (.bld _ O O Ap2 ?_));refine .storeA B6 O O k2 O O hz hS λw3 k3 u3 h3=>.nil (.ret ?_);refine .cell results107 O B6 O O k3 h3 ⟨u3.below hx (by omega),?_⟩;rw[Bg1 neg (λh=>h0 ((AL4 hd).2 h)),<-L1 hd];exact h3.out
theorem S2:Ent prog 109:=en func109
theorem R9{w:World}{neg:Bool}(up:Up S w)(hn:n<18446744073709551616):CR prog 109 #[.bool neg,.int .u64 n] w (eZ.at S (zc (sg neg n))):=by
 refine enter func109 O ntmps109 O ?_;refine .sr ?_;refine .alloc O F4 λw1 b1 n1=>.nil ?_;obtain⟨e1,k1,hb1,hs1⟩:=n1;have hS:¬ Sx S w.heap.size w1.heap.size b1:=Sx.no (by omega) (by omega);refine .seq (.block (.sr ?_));by_cases h0:n=0
 ·subst h0;refine .mv O O (.eqlT O O O O (.an O O (.condT O (.sr ?_))));have hz:eZ.R (Sx S w.heap.size w1.heap.size) w1 (.agg #[.bool false,.slice none 0 0]) ⟨false,[]⟩:=⟨_,rfl,RL.nil⟩;refine .bld _ O O Be9 ?_;refine .storeA B6 O O k1 O O hz hS λw3 k3 u3 h3=>.nil (.ret ?_);refine .cell results109 O B6 O O k3 h3 ⟨u3.below e1 (by omega),?_⟩;rw[Ae7];exact h3.out
 ·refine .mv O O (.eqlF O O O (by omega) (.an O O (.condF O (.sr ?_))));by_cases h1:n<4294967296
  ·refine .mv O O (.shr O O O (by decide) (.eqlT O O O (by rw[Ao7];omega) (.an O O (.condT O (.sr ?_)))));refine .mv O O (.mv O O (.cvt G3 G4 O O ?_));refine .bsl _ O O AT5 λw2 b2 n2=>?_;obtain⟨e2,k2,hb2,hs2⟩:=n2;have hw:eW.R (Sx S w.heap.size w1.heap.size) w2 (.slice (some ⟨b2,0,none⟩) 1 1) [n] :=
    BC0 (l:=[n]) (t:=108) (by rw[Q5,bJ h1] at k2;exact k2) ⟨up _ (by omega),.inr (by omega)⟩ (by simp[dig,h1]) (aA 1) (by simp)
   have hz:eZ.R (Sx S w.heap.size w1.heap.size) w2 (.agg #[.bool neg,.slice (some ⟨b2,0,none⟩) 1 1]) ⟨neg,[n]⟩:=⟨_,rfl,hw⟩;refine .bld _ O O Ap2 ?_;refine .storeA B6 O O (k1.ext e2) O O hz hS λw3 k3 u3 h3=>.nil (.ret ?_);refine .cell results109 O B6 O O k3 h3 ⟨u3.below (e1.trans e2) (by omega),?_⟩;rw[Bg1 neg h0,An6 h1 h0];exact h3.out
  ·refine .mv O O (.shr O O O (by decide) (.eqlF O O O (by rw[Ao7];omega) (.an O O (.condF O (.skip (.sr ?_))))));refine .mv O O (.mv O O (.cvt G3 G4 O O (.mv O O (.shr O O O (by decide) (.cvt G3 G4 O O ?_)))));refine .bsl _ O O CA2 λw2 b2 n2=>?_;obtain⟨e2,k2,hb2,hs2⟩:=n2;have hw:eW.R (Sx S w.heap.size w1.heap.size) w2 (.slice (some ⟨b2,0,none⟩) 2 2) [n % 4294967296,n / 4294967296] :=
    BC0 (l:=[n % 4294967296,n / 4294967296]) (t:=108) (by rw[Ao7,Q5,Q5,bJ (show n / 4294967296<4294967296 by omega)] at k2;exact k2) ⟨up _ (by omega),.inr (by omega)⟩
     (by simp[dig];omega) (aA 2) (by simp)
   have hz:eZ.R (Sx S w.heap.size w1.heap.size) w2 (.agg #[.bool neg,.slice (some ⟨b2,0,none⟩) 2 2]) ⟨neg,[n % 4294967296,n / 4294967296]⟩:=⟨_,rfl,hw⟩;refine .bld _ O O Ap2 ?_;refine .storeA B6 O O (k1.ext e2) O O hz hS λw3 k3 u3 h3=>.nil (.ret ?_);refine .cell results109 O B6 O O k3 h3 ⟨u3.below (e1.trans e2) (by omega),?_⟩;rw[Bg1 neg h0,wds_two hn (by omega)];exact h3.out
theorem H4:Ent prog 64:=en func64
theorem H1{w:World}{n:Int}(up:Up S w)(h1 : -9223372036854775808<=n)(h2:n<=9223372036854775807):CR prog 64 #[iW n] w (eZ.at S (zc n)):=by
 refine enter func64 O ntmps64 O ?_;refine .sr ?_;refine .alloc O F4 λw1 b1 n1=>.nil ?_;obtain⟨e1,k1,hb1,hs1⟩:=n1;have hS:¬ Sx S w.heap.size w1.heap.size b1:=Sx.no (by omega) (by omega);have up1:Up (Sx S w.heap.size w1.heap.size) w1:=Sx.up up (aA _) e1.size;refine .sr ?_;refine .mv O O (.cvt Ay3 G3 O O (.an O O ?_));refine .seq (.sr ?_);by_cases h0:n<0
 ·refine .mv O O (.lssT O O O h0 (.nil (.condT O (.region ?_))));have hneg:IntKind.u64.wrap (0-IntKind.u64.wrap n)=((n.natAbs:Nat):Int):=by rw[IntKind.wrap_u64,IntKind.wrap_u64];omega
  refine .mv O O (.neg O O (.an O O (.sr ?_)));rw[hneg];refine .mv O O (.lssT O O O h0 (.mv O O ?_));refine .call _ O S2 O (R9 up1 (by omega)) λv2 w2 e2 h2=>?_;refine .storeA B6 O O (k1.ext e2) O O h2 hS λw3 k3 u3 h3=>.nil (.ret ?_);refine .cell results64 O B6 O O k3 h3 ⟨u3.below (e1.trans e2) (by omega),?_⟩;rw[show n=sg true n.natAbs by simp[sg];omega];exact h3.out
 ·refine .mv O O (.lssF O O O h0 (.nil (.condF O (.skip (.sr ?_)))));have hneg:IntKind.u64.wrap n=((n.natAbs:Nat):Int):=by rw[IntKind.wrap_u64];omega
  rw[hneg];refine .mv O O (.lssF O O O h0 (.mv O O ?_));refine .call _ O S2 O (R9 up1 (by omega)) λv2 w2 e2 h2=>?_;refine .storeA B6 O O (k1.ext e2) O O h2 hS λw3 k3 u3 h3=>.nil (.ret ?_);refine .cell results64 O B6 O O k3 h3 ⟨u3.below (e1.trans e2) (by omega),?_⟩;rw[show n=sg false n.natAbs by simp[sg];omega];exact h3.out
theorem V3:Ent prog 153:=en func153
theorem T6{w:World}{v:Value}{l:List Nat}(h:eW.R S w v l)(hl:l.length<=2):CR prog 153 #[v] w (Is (.int .u64 (val l))):=by
 have hd:dig l:=K7 h;refine enter func153 O ntmps153 O ?_;refine .sr (.an O O ?_);refine .seq (.sr (.mv O O (.lenR E5 O O h (.nil ?_))));refine .block (.sr ?_);match l,h,hl,hd with
 | [],h,_,_ =>
  refine .eqlT O O O O (.an O O (.condT O (.sr (.an O O (.ret ?_)))));exact .p1 _ results153 O ⟨.refl _,rfl⟩
 | [x],h,_,hd =>
  have hx:x<4294967296:=hd x (by simp);refine .eqlF O O O (by simp) (.an O O (.condF O (.sr ?_)));refine .eqlT O O O O (.an O O (.condT O (.sr (.mv O O ?_))));refine .ix E5 C1 O O h O (by decide) (y:=x) O λp hp=>?_;refine .ldE C1 O O hp λe he=>?_;obtain⟨rfl,_⟩:=he;refine .cvt G4 G3 O O (.an O O (.ret ?_));refine .plain [_] results153 ⟨rfl,trivial⟩ ⟨.refl _,?_⟩;show Value.int .u64 _=_;rw[wU (by omega)];simp[val]
 | [x,y],h,_,hd =>
  have hx:x<4294967296:=hd x (by simp);have hy:y<4294967296:=hd y (by simp);refine .eqlF O O O (by simp) (.an O O (.condF O (.sr ?_)));refine .eqlF O O O (by simp) (.an O O (.condF O (.skip (.seq ?_))));refine .par follows 10 [.inl _,.inr (Ptr AQ8 S x),.inl (.int .u32 x),.inl _,.inl _,.inr (Ptr AQ8 S y),.inl (.int .u32 y),.inl _,.inl _,.inl _] [[],[(13,0)],[(14,1)],[(15,2)],[],[(17,4)],[(18,5)],[(19,6)],[(20,7)],[(16,3),(21,8)]] (by kernel_rfl) ⟨mvo O,λw e=>BK3 E5 C1 O (h.ext e) O (by decide) rfl,λw e x1 hx1=>AB6 C1 O hx1,λw e=>(AL6 G4 G3 O).ob,mvo O,λw e=>BK3 E5 C1 O (h.ext e) O (by decide) rfl,λw e x1 hx1=>AB6 C1 O hx1,λw e=>(AL6 G4 G3 O).ob,λw e=>(Bg2 O O (by decide)).ob,λw e=>(v_or O O).ob,trivial⟩ ?_;intro w1 e1 x1 hx1 x5 hx5;refine .an O O (.ret ?_);refine .plain [_] results153 ⟨rfl,trivial⟩ ⟨e1,?_⟩;show Value.int .u64 _=_;rw[wU (n:=(x:Int)) (by omega),wU (n:=(y:Int)) (by omega),BU4 y hy,Bc6 x _ (by omega) (by omega),or32 x y hx];simp[val]
theorem AG4:Ent prog 162:=en func162
theorem AF2{w:World}{va vb:Value}(ha:eW.R S w va (wds m))(hb:eW.R S w vb (wds n)):CR prog 162 #[va,vb] w (Is (iW (AL1 m n))):=by
 have hla:=Af0 ha;refine enter func162 O ntmps162 O (.sr (.an O O (.seq (.sr (.mv O O (.lenR E5 O O ha (.mv O O (.lenR E5 O O hb ?_))))))));by_cases hne:(wds m).length=(wds n).length
 ·refine .neqF O O O (by omega) (.nil (.condF O (.skip (.seq (.sr (.mv O O (.lenR E5 O O ha (.sub O O O (.an O O ?_)))))))));rw[wI (by omega)];refine .block (.loop (α:=Nat) (λk=>[(0,va),(1,vb),(5,iW ((k:Int)-1))]) (λk w'=>Ext w w'/\k<=(wds m).length/\(wds m).drop k=(wds n).drop k) (λk=>k) (wds m).length ?_ ?_ ?_)
  ·exact lkA rfl
  ·exact⟨.refl _,aA _,by rw[dU (aA _),dU (by omega)]⟩
  ·rintro k w' ⟨x,hk,hd⟩
   cases k with
   | zero =>
    refine .seq (.sr (.mv O O (.geqF O O O (by omega) (.nil (.condF O (.exit (.sr (.an O O (.ret (.plain [_] results162 ⟨rfl,trivial⟩ ⟨x,?_⟩))))))))));have e:m=n:=wds_inj (by simpa using hd);exact isI (by simp[AL1,e])
   | succ j =>
    have hj:(((j+1:Nat):Int)-1)=(j:Int):=by omega
    refine .weak [(0,va),(1,vb),(5,iW (j:Int))] (B7 O (B7 O (B7 (by rw[<-hj];rfl) AX5))) ?_;obtain⟨p,hp⟩:∃ p,(wds m)[j]?=some p:=⟨_,aE (by omega)⟩;obtain⟨q,hq⟩:∃ q,(wds n)[j]?=some q:=⟨_,aE (by omega)⟩;refine .seq (.sr (.mv O O (.geqT O O O (by omega) (.nil (.condT O (.skip (.seq (.block (.seq ?_)))))))));refine .par follows 9 [.inl _,.inl _,.inr (Ptr AQ8 S p),.inl (.int .u32 p),.inl _,.inl _,.inr (Ptr AQ8 S q),.inl (.int .u32 q),.inl _] [[],[],[(23,0),(24,1)],[(25,2)],[],[],[(27,4),(28,5)],[(29,6)],[(26,3),(30,7)]] (by kernel_rfl) ⟨mvo O,mvo O,λw e=>C4 E5 C1 O (ha.ext (x.trans e)) O hp,λw e x1 hx1=>AB6 C1 O hx1,mvo O,mvo O,λw e=>C4 E5 C1 O (hb.ext (x.trans e)) O hq,λw e x1 hx1=>AB6 C1 O hx1,λw e=>(Br7 O O).ob,trivial⟩ ?_;intro w1 e1 x1 hx1 x5 hx5;refine .nil ?_;have x1:=x.trans e1;by_cases hpq:p=q
    ·subst hpq;refine .cond O (λhc=>absurd hc (by simp)) (λhc=>.skip ?_);refine .region (.mv O O (.sub O O O (.an O O ?_)));rw[wI (by omega)];refine⟨rfl,j,lkA rfl,⟨x1,by omega,?_⟩,by omega⟩;have h1:j<(wds m).length:=by omega
     have h2:j<(wds n).length:=by omega
     rw[bX h1,bX h2,hd];rw[aE h1] at hp;rw[aE h2] at hq;rw[Option.some.inj hp,Option.some.inj hq]
    ·refine .cond O (λhc=>?_) (λhc=>absurd hc (by simp;omega));refine .seq (.seq ?_);refine .par follows 9 [.inl _,.inl _,.inr (Ptr AQ8 S p),.inl (.int .u32 p),.inl _,.inl _,.inr (Ptr AQ8 S q),.inl (.int .u32 q),.inl _] [[],[],[(32,0),(33,1)],[(34,2)],[],[],[(36,4),(37,5)],[(38,6)],[(35,3),(39,7)]] (by kernel_rfl) ⟨mvo O,mvo O,λw e=>C4 E5 C1 O (ha.ext (x1.trans e)) O hp,λw e x1 hx1=>AB6 C1 O hx1,mvo O,mvo O,λw e=>C4 E5 C1 O (hb.ext (x1.trans e)) O hq,λw e x1 hx1=>AB6 C1 O hx1,λw e=>(Aq4 O O).ob,trivial⟩ ?_;intro w2 e2 x1' hx1' x5' hx5';refine .nil ?_;have hxx:=x1.trans e2;by_cases hlt:p<q
     ·refine .cond O (λhc=>?_) (λhc=>absurd hc (by simp;omega));refine .sr (.an O O (.ret (.plain [_] results162 ⟨rfl,trivial⟩ ⟨hxx,?_⟩)));have:=BJ0 (Aw7 m) hd hp hq hlt;rw[E9,E9] at this;exact isI (by simp[AL1,this])
     ·refine .cond O (λhc=>absurd hc (by simp;omega)) (λhc=>.skip (.sr (.an O O (.ret (.plain [_] results162 ⟨rfl,trivial⟩ ⟨hxx,?_⟩)))));have:=BJ0 (Aw7 n) hd.symm hq hp (by omega);rw[E9,E9] at this;have h':¬ m<n:=by omega
      exact isI (by simp[AL1,this,h'])
 ·refine .neqT O O O (by omega) (.nil (.condT O (.seq (.sr (.mv O O (.lenR E5 O O ha (.mv O O (.lenR E5 O O hb ?_))))))));by_cases hlt:(wds m).length<(wds n).length
  ·refine .lssT O O O (by omega) (.nil (.condT O (.sr (.an O O (.ret (.plain [_] results162 ⟨rfl,trivial⟩ ⟨.refl _,?_⟩))))));exact isI (by simp[AL1,Ax5 hlt])
  ·refine .lssF O O O (by omega) (.nil (.condF O (.skip (.sr (.an O O (.ret (.plain [_] results162 ⟨rfl,trivial⟩ ⟨.refl _,?_⟩)))))));have:=Ax5 (m:=n) (n:=m) (by omega);have h':¬ m<n:=by omega
   exact isI (by simp[AL1,this,h'])
theorem Aw9:Ent prog 108:=en func108
theorem BS4{w:World}{v:Value}{l:List Nat}(up:Up S w)(h:eW.R S w v l)(hl:l.length<=1099511627776):CR prog 108 #[v] w (eW.at S l):=by
 refine enter func108 O ntmps108 O (.sr (.an O O ?_));obtain⟨es,he,a,c,rfl,hc,hm,hlen,hcell⟩:=h;refine .seq (.sr (.mv O O (.eqNil E5 O O O (.nil ?_))))
 cases a with
 | none =>
  refine .condT O (.sr (.an O O (.ret ?_)));have:l=[]:=by
   cases l with
   | nil=>rfl
   | cons x l=>obtain⟨ad,h,_⟩:=hcell (by simp);cases h
  subst this;exact .p1 _ results108 O ⟨.refl _,RL.nil⟩
 | some ad =>
  refine .condF O (.skip (.sr (.bsl _ O O CA3 λw1 b1 n1=>?_)));obtain⟨e1,k1,hb1,hs1⟩:=n1;have hcell1:∀ j u,(cellsOf es)[j]?=some u->w1.cell? (ad.add j)=some u:=by
   intro j u hu;rcases aU l.length with h0 | h0
   ·rw[h0,eK] at hlen;have:cellsOf es=[]:=List.length_eq_zero_iff.1 hlen;rw[this] at hu;simp at hu
   ·obtain⟨ad',h1,_,h2⟩:=hcell h0
    cases h1;have:=(h2 j u hu).1;have hlt:=Al8 this;exact (Ab8 (p:=ad.add j) (e1.block _ hlt)).trans this
  have hown:w1.ownsRow w.heap.size 108 1 (.slice (some ⟨b1,0,none⟩) 0 0) 0 []:=⟨rfl,.inr ⟨b1,0,#[],rfl,by omega,k1,aA _,aC _,rfl,rfl⟩⟩;have hon:∀ u∈cellsOf es,H3 u=true:=by
   intro u hu;obtain⟨e',he',hu'⟩:=List.mem_flatMap.1 hu;obtain⟨i,hi⟩:=List.mem_iff_getElem?.1 he';have hi':i<es.length:=by
    rcases aB i es.length with h | h
    ·exact h
    ·rw[aH h] at hi;cases hi
   exact AQ8.one (he.2 i e' _ hi (aE (by rw[<-he.1];exact hi'))) u hu'
  refine .mv O O (.gv O O (BB1 (cellsOf es) E5 N9 O (by decide) O O hown hlen hcell1 hon (by omega) (by omega) (by omega)) ?_);rintro v2 w2 ⟨ho,hg⟩;refine .an O O (.ret ?_);have hx:Ext w w2:=Below.grown e1 hg e1.size (λk hk=>by simp[Value.ownBlock] at hk;omega);simp only[gK,aD] at ho;exact .p1 _ results108 O ⟨hx,RL.ofOwn (E:=AQ8) (es:=es) ho O ⟨he.1,he.2⟩ up⟩
theorem AC7:Ent prog 52:=en func52
theorem AA5{w:World}{v:Value}{z:ZV}(h:eZ.R S w v z):CR prog 52 #[v] w (Is (iW (A6 z).sign)):=by
 obtain⟨s,rfl,hs⟩:=h;have hd:dig z.w:=K7 hs;refine enter func52 O ntmps52 O (.sr (.box O O λw1 b1 n1=>.an O O ?_));obtain⟨e1,k1,hb1,hs1⟩:=n1;refine .seq (.block (.sr (.fa G9 O O (.ld L2 O O k1 O (.call _ O G1 O (G0 (hs.ext e1)) λv2 w2 e2 h2=>?_)))));have k2:=k1.ext e2;have hx:=e1.trans e2;by_cases h0:val z.w=0
 ·rw[(AL4 hd).2 h0] at h2;refine .lenR E5 O O h2 (.eqlT O O O O (.an O O (.condT O (.sr (.an O O (.ret ?_))))));exact .plain [_] results52 ⟨rfl,trivial⟩ ⟨hx,isI (by unfold A6 sg;rw[h0];simp)⟩
 ·have hne:K2 z.w≠[]:=λh=>h0 ((AL4 hd).1 h);refine .lenR E5 O O h2 (.eqlF O O O (by simpa using hne) (.an O O (.condF O (.sr (.fa J5 O O (.ld D6 O O k2 O (.an O O ?_)))))))
  cases hn:z.neg with
  | true =>
   refine .condT O (.sr (.an O O (.ret ?_)));exact .plain [_] results52 ⟨rfl,trivial⟩ ⟨hx,isI (by unfold A6 sg;rw[hn];simp only[if_true];rw[cC (by omega)])⟩
  | false =>
   refine .condF O (.skip (.sr (.an O O (.ret ?_))));exact .plain [_] results52 ⟨rfl,trivial⟩ ⟨hx,isI (by unfold A6 sg;rw[hn];simp only[gD,if_false];rw[bZ (by omega)])⟩
def N0 (n:Int):Bool:=decide (-9223372036854775808<=n/\n<=9223372036854775807)
def AK9 (n:Int):Int:=if N0 n then n else 0
theorem P1:Ent prog 103:=en func103
theorem O4{w:World}{v:Value}{z:ZV}(h:eZ.R S w v z):CR prog 103 #[v] w (Is (.tuple #[iW (AK9 (A6 z)),.bool (N0 (A6 z))])):=by
 obtain⟨s,rfl,hs⟩:=h;have hd:dig z.w:=K7 hs;have htr:=L1 hd;refine enter func103 O ntmps103 O (.sr (.box O O λw1 b1 n1=>.asg O O (.an O O ?_)));obtain⟨e1,k1,hb1,hs1⟩:=n1;refine .sr (.fa G9 O O (.ld L2 O O k1 O (.call _ O G1 O (G0 (hs.ext e1)) λv2 w2 e2 h2=>.an O O ?_)));have k2:=k1.ext e2;have hx:=e1.trans e2;rw[htr] at h2;have hN:∀ (a:Int) (b:Bool) (w':World),AK9 (A6 z)=a->N0 (A6 z)=b->Is (.tuple #[iW (AK9 (A6 z)),.bool (N0 (A6 z))]) (tup [iW a,.bool b]) w':=by rintro a b w' rfl rfl;rfl
 refine .seq (.sr (.mv O O (.lenR E5 O O h2 ?_)));by_cases hl:(wds (val z.w)).length<=2
 ·have hlt:val z.w<18446744073709551616:=by have h1:=AV6 (val z.w);have h2:4294967296 ^ (wds (val z.w)).length<=4294967296 ^ 2:=aQ (by omega) hl;omega
  refine .gtrF O O O (by omega) (.nil (.condF O (.skip (.sr (.mv O O (.call _ O V3 O (T6 h2 hl) λv3 w3 e3 h3=>?_))))));obtain rfl:=h3;rw[E9];have k3:=k2.ext e3;have hx3:=hx.trans e3;refine .an O O (.seq (.sr (.fa J5 O O (.ld D6 O O k3 O (.nil ?_)))))
  cases hn:z.neg with
  | true =>
   have hz:A6 z = -(val z.w:Int):=by unfold A6 sg;rw[hn];rfl
   refine .condT O (.seq (.sr (.mv O O ?_)));by_cases hb:val z.w<=9223372036854775808
   ·refine .gtrF O O O (by omega) (.nil (.condF O (.skip (.sr (.mv O O (.neg O O (.cvt G3 Ay3 O O (.asg O O (.an O O (.ret ?_)))))))))) ;refine .plain [_,_] results103 ⟨rfl,rfl,trivial⟩ ⟨hx3,hN _ _ _ ?_ ?_⟩
    ·have:N0 (A6 z)=true:=by rw[hz];simp[N0];omega
     rw[AK9,this,if_pos rfl,hz,IntKind.wrap_u64,IntKind.wrap_i64];omega
    ·rw[hz];simp[N0];omega
   ·refine .gtrT O O O (by omega) (.nil (.condT O (.sr (.asg O O (.an O O (.ret ?_))))));have:N0 (A6 z)=false:=by rw[hz];simp[N0];omega
    exact .p2 results103 O O ⟨hx3,hN _ _ _ (by simp[AK9,this]) this⟩
  | false =>
   have hz:A6 z=(val z.w:Int):=by unfold A6 sg;rw[hn];rfl
   refine .condF O (.skip (.seq (.sr (.mv O O ?_))));by_cases hb:val z.w<9223372036854775808
   ·refine .geqF O O O (by omega) (.nil (.condF O (.skip (.sr (.mv O O (.cvt G3 Ay3 O O (.asg O O (.an O O (.ret (.plain [_,_] results103 ⟨rfl,rfl,trivial⟩ ⟨hx3,hN _ _ _ ?_ ?_⟩))))))))))
    ·have:N0 (A6 z)=true:=by rw[hz];simp[N0];omega
     rw[AK9,this,if_pos rfl,hz,wI (by omega)]
    ·rw[hz];simp[N0];omega
   ·refine .geqT O O O (by omega) (.nil (.condT O (.sr (.asg O O (.an O O (.ret ?_))))));have:N0 (A6 z)=false:=by rw[hz];simp[N0];omega
    exact .p2 results103 O O ⟨hx3,hN _ _ _ (by simp[AK9,this]) this⟩
 ·have hge:18446744073709551616<=val z.w:=by
   rcases aB (val z.w) 18446744073709551616 with h | h
   ·exact absurd (Ae9 (L:=2) h) hl
   ·exact h
  refine .gtrT O O O (by omega) (.nil (.condT O (.sr (.asg O O (.an O O (.ret ?_))))));have:N0 (A6 z)=false:=by unfold A6 sg;split<;>(simp[N0];omega)
  exact .p2 results103 O O ⟨hx,hN _ _ _ (by simp[AK9,this]) this⟩
theorem AG5:Ent prog 69:=en func69
theorem AF3{w:World}{v:Value}{z:ZV}(up:Up S w)(h:eZ.R S w v z)(hl:z.w.length<=1099511627776):CR prog 69 #[v] w (eZ.at S (zc (- A6 z))):=by
 obtain⟨s,rfl,hs⟩:=h;refine enter func69 O ntmps69 O (.sr (.box O O λw1 b1 n1=>?_));obtain⟨e1,k1,hb1,hs1⟩:=n1;refine .alloc O F4 λw2 b2 n2=>.nil ?_;obtain⟨e2,k2,hb2,hs2⟩:=n2;have k1:=k1.ext e2;have hx:=e1.trans e2;have hp:=(hs.par w2.heap.size).ext hx;have upx:Up (Sx S w.heap.size w2.heap.size) w2:=Sx.up up (aA _) hx.size;refine .seq ?_;refine .par follows 8 [.inl _,.inl _,.inl _,.inl _,.inl _,.inr (eW.at (Sx S w.heap.size w2.heap.size) (K2 z.w)),.inr (eW.at (Sx S w.heap.size w2.heap.size) (K2 z.w)),.inr (eZ.at (Sx S w.heap.size w2.heap.size) (zc (sg (!z.neg) (val (K2 z.w)))))]
  [[],[(3,0)],[(4,1)],[],[(6,3)],[(7,4)],[(8,5)],[(5,2),(9,6)]] (by kernel_rfl) ⟨fao J5 O,λw e=>(E2 D6 O (k1.ext e) O).ob,λw e=>(BJ1 O).ob,fao G9 O,λw e=>(E2 L2 O (k1.ext e) O).ob,λw e=>(A4 _ G1 O (G0 (hp.ext e))).oa,λw e x5 hx5=>(A4 _ Aw9 O (BS4 (upx.ext e.size) hx5 (aG (AI0 _) hl))).oa,λw e x6 hx6=>(A4 _ M5 O (M2 (upx.ext e.size) hx6)).oa,trivial⟩ ?_
 intro w3 e3 x5 hx5 x6 hx6 x7 hx7;refine .storeA B6 O O (k2.ext e3) O O hx7 (Sx.no (by omega) (by omega)) λw4 k4 u4 h4=>.nil (.ret (.cell results69 O B6 O O k4 h4 ⟨u4.below (hx.trans e3) (by omega),?_⟩));have:zc (- A6 z)=zc (sg (!z.neg) (val (K2 z.w))):=by rw[BI9];unfold A6 sg;cases z.neg<;>simp
 rw[this];exact h4.out
theorem ty_F:F6 prog 221=some (false,1):=by kernel_rfl
theorem Br3:M0 prog 221=some .nilFunc:=by kernel_rfl
abbrev Ap1 (b:Nat):Value:=.func (.func 244) #[] #[pW b]
abbrev AY6 (w:World) (b c:Nat):Prop:=Blk w b 149 #[.int .u64 c]
theorem N4:Ent prog 216:=en func216
theorem N3{w:World}{c:Nat}:CR prog 216 #[.int .u64 c] w (λv w'=>∃ b,v=Ap1 b/\AY6 w' b c/\w.heap.size<=b):=by refine enter func216 O ntmps216 O (.sr (.box O O λw1 b1 n1=>.an O O ?_));obtain⟨e1,k1,hb1,hs1⟩:=n1;refine .sr (.mkf [] [_] O O O O (.an O O (.ret ?_)));exact .p1 _ results216 O ⟨e1,b1,rfl,k1,by omega⟩
theorem P4:Ent prog 244:=en func244
theorem O9{w:World}{c:Nat}(hb:AY6 w b c)(h:x+c<18446744073709551616) :
  Calls prog 244 (#[.int .u64 x]++#[pW b]) w λe w'=>∃ v,e=.returned v/\(v=wv ((x+c) % 4294967296)/\Upd w w' b/\AY6 w' b ((x+c) / 4294967296)):=by
 refine U8 func244 O ntmps244 O (.sr (.an O O (.sr (.mv O O (.ld Bs0 O O hb O (.add O O O (.an O O ?_)))))));rw[wU (by omega),<-dN];refine .sr (.mv O O (.shr O O O (by omega) ?_));rw[Ao7];refine .store Bs0 O O hb O (by simp) (by simp[H3,Value.cells]) λw1 k1 u1=>.nil (.sr (.mv O O (.cvt G3 G4 O O (.an O O (.ret ?_)))));rw[Q5];exact .p1 _ results244 O ⟨rfl,u1,k1⟩
theorem Ae2:Ent prog 243:=en func243
theorem Ac5{w:World}{va vb:Value}{n' c c':Nat}{a a':Option Addr}(ha:va=.slice a n c)(hb:vb=.slice a' n' c'):CR prog 243 #[va,vb] w (λv w'=>∃ b1 b2,v=.func (.func 265) #[] #[pW b1,pW b2] /\
  Blk w' b1 35 #[va]/\Blk w' b2 35 #[vb]/\w.heap.size<=b1/\w.heap.size<=b2):=by
 subst ha;subst hb;refine enter func243 O ntmps243 O (.sr (.box O O λw1 b1 n1=>?_));obtain⟨e1,k1,hb1,hs1⟩:=n1;refine .box O O λw2 b2 n2=>.an O O ?_;obtain⟨e2,k2,hb2,hs2⟩:=n2;refine .sr (.mkf [] [_,_] O O O O (.an O O (.ret ?_)));exact .p1 _ results243 O ⟨e1.trans e2,b1,b2,rfl,k1.ext e2,k2,by omega,by have:=e1.size;omega⟩
theorem Ba0:Ent prog 265:=en func265
theorem BV7{a b:List Nat}{va vb:Value}{b1 b2:Nat}(hla:a.length<=9223372036854775806)(hlb:b.length<=9223372036854775806):Bp9 prog 265 #[pW b1,pW b2] (max a.length b.length)
  (λk=>[.int .u64 (a.getD k 0),.int .u64 (b.getD k 0)]) (λW=>Blk W b1 35 #[va]/\Blk W b2 35 #[vb]/\eW.R S W va a/\eW.R S W vb b):=by
 intro l J X stJ stX hF hy W hJ;have hF0:=hF 0 W hJ;refine U8 func265 O ntmps265 O (.sr (.ld L2 O O hF0.1 O (.lenR E5 O O hF0.2.2.1 (.ld L2 O O hF0.2.1 O (.lenR E5 O O hF0.2.2.2 (.max_ O O O (.mv O O (.nil (.block (.loop (α:=Nat) (λk=>[(12,iW (k:Nat)),(11,iW ((max a.length b.length:Nat):Int)),(0,.func (.yield l) #[] #[]),(1,pW b1),(2,pW b2)]) (λk W=>J k W/\k<=max a.length b.length) (λk=>max a.length b.length-k) 0 ?_ ?_ ?_))))))))))
 ·refine B7 O (B7 ?_ (lkA O));show some (Value.int .i64 (max (a.length:Int) (b.length:Int)))=_;rw[show (max (a.length:Int) (b.length:Int))=((max a.length b.length:Nat):Int) by omega]
 ·exact⟨hJ,aC _⟩
 ·rintro k W ⟨hJ,hk⟩;have hF:=hF k W hJ;by_cases hlt:k<max a.length b.length
  ·refine .sr (.lssT O O O (by omega) (.nil (.seq (.condT O (.skip (.seq (.block (.sr (.mv O O (.an O O (.sr (.asg O O (.an O O (.mid (α:=Unit) (λ_=>[(5,.int .u64 (a.getD k 0)),(6,.int .u64 0),(4,iW (k:Nat)),(12,iW (k:Nat)),(11,iW ((max a.length b.length:Nat):Int)),(0,.func (.yield l) #[] #[]),(1,pW b1),(2,pW b2)]) (λ_ W'=>W'=W) ?_ ?_))))))))))))))
   ·refine .sr (.mv O O (.ld L2 O O hF.1 O (.lenR E5 O O hF.2.2.1 ?_)));by_cases hlt:k<a.length
    ·refine .lssT O O O (by omega) (.nil (.condT O (.region (.ld L2 O O hF.1 O (.mv O O (.ixN E5 C1 O O hF.2.2.1 O (aE hlt) λp hp=>.ldE C1 O O hp λe he=>?_))))));obtain⟨rfl,hx⟩:=he;refine .cvt G4 G3 O O (.an O O ⟨rfl,(),?_,rfl⟩);rw[wU (by omega)];refine B7 ?_ (lkA O);rw[aF (l:=a),aE hlt];rfl
    ·refine .lssF O O O (by omega) (.nil (.condF O (.skip ⟨rfl,(),?_,rfl⟩)));refine B7 ?_ (lkA O);rw[aF (l:=a),aH (by omega:a.length<=k)];rfl
   ·rintro _ W' rfl;refine .mid (α:=Unit) (λ_=>[(5,.int .u64 (a.getD k 0)),(6,.int .u64 (b.getD k 0)),(12,iW (k:Nat)),(11,iW ((max a.length b.length:Nat):Int)),(0,.func (.yield l) #[] #[]),(1,pW b1),(2,pW b2)]) (λ_ W''=>W''=W') ?_ ?_
    ·refine .sr (.mv O O (.ld L2 O O hF.2.1 O (.lenR E5 O O hF.2.2.2 ?_)));by_cases hlt:k<b.length
     ·refine .lssT O O O (by omega) (.nil (.condT O (.region (.ld L2 O O hF.2.1 O (.mv O O (.ixN E5 C1 O O hF.2.2.2 O (aE hlt) λp hp=>.ldE C1 O O hp λe he=>?_))))));obtain⟨rfl,hx⟩:=he;refine .cvt G4 G3 O O (.an O O ⟨rfl,(),?_,rfl⟩);rw[wU (by omega)];refine B7 O (B7 ?_ (lkA O));rw[aF (l:=b),aE hlt];rfl
     ·refine .lssF O O O (by omega) (.nil (.condF O (.skip ⟨rfl,(),?_,rfl⟩)));refine B7 O (B7 ?_ (lkA O));rw[aF (l:=b),aH (by omega:b.length<=k)];rfl
    ·rintro _ W'' rfl;refine .sr (.mv O O (.mv O O (.mv O O (.yld (l:=l) [.int .u64 (a.getD k 0),.int .u64 (b.getD k 0)] (R:=λv w'=>(v=.bool true/\J (k+1) w')\/(v=.bool false/\X w')) O O O ?_ ?_))))
     ·refine YieldAt.mono (hy k _ hlt hJ) ?_;rintro e W' (⟨rfl,h⟩ | ⟨rfl,h⟩)
      ·exact⟨_,rfl,.inl ⟨rfl,h⟩⟩
      ·exact⟨_,rfl,.inr ⟨rfl,h⟩⟩
     ·rintro v w' (⟨rfl,h⟩ | ⟨rfl,h⟩)
      ·refine .not_ O O (.nil (.condF O (.skip (.region (.add O O O (.mv O O (.nil ?_)))))));rw[wI (by omega)];exact⟨rfl,k+1,lkA rfl,⟨h,by omega⟩,by omega⟩
      ·refine .not_ O O (.nil (.condT O (.ret ?_)));exact .plain [] results265 trivial (.inr h)
  ·refine .sr (.lssF O O O (by omega) (.nil (.seq (.condF O (.exit (.plain [] results265 trivial ?_))))));have:k=max a.length b.length:=by omega
   subst this;exact .inl hJ
structure AddJ (w0:World) (b5 b6 bx p1 p2:Nat) (va vb:Value) (Rel:Nat->List Nat->Nat->Prop) (k:Nat) (W:World):Prop where
 low:Below w0.heap.size w0 W
 f:Blk W b6 221 #[Ap1 bx]
 k1:Blk W p1 35 #[va]
 k2:Blk W p2 35 #[vb]
 acc:∃ v r c,Blk W b5 35 #[v]/\P0 108 w0.heap.size W v r/\AY6 W bx c/\Rel k r c
theorem AddJ.sft{w0:World}{b5 b6 bx p1 p2:Nat}{va vb:Value}{Rel:Nat->List Nat->Nat->Prop}{k D:Nat}{W W':World}(h:AddJ w0 b5 b6 bx p1 p2 va vb Rel k W)(hs:Sft D W W')(hD:w0.heap.size<=D):AddJ w0 b5 b6 bx p1 p2 va vb Rel k W':=by obtain⟨v,r,c,h1,h2,h3,h4⟩:=h.acc;exact⟨h.low.trans (hs.below.mono hD),hs.cells.blk trivial h.f,hs.cells.blk trivial h.k1,hs.cells.blk trivial h.k2,v,r,c,hs.cells.blk trivial h1,h2.kp hs.cells,hs.cells.blk trivial h3,h4⟩
theorem AR2:Ent prog 213:=en func213
theorem AP5{w:World}{va vb:Value}{a b:List Nat}(up:Up S w)(ha:eW.R S w va a)(hb:eW.R S w vb b)(hla:a.length<=1099511627776)(hlb:b.length<=1099511627776) :
  CR prog 213 #[va,vb] w (Wv S (val a+val b) (max a.length b.length+1)):=by
 have hda:dig a:=K7 ha;have hdb:dig b:=K7 hb;obtain⟨aa,ca,hva,_⟩:=RL.len ha;obtain⟨ab,cb,hvb,_⟩:=RL.len hb;refine enter func213 O ntmps213 O ?_;refine .sr (.an O O ?_);refine .sr (.mv O O (.lenR E5 O O ha (.mv O O (.lenR E5 O O hb (.max_ O O O (.add O O O ?_))))));rw[show IntKind.i64.wrap (max (a.length:Int) (b.length:Int)+1)=((max a.length b.length+1:Nat):Int) by rw[wI (by omega)];omega];refine .make_ 0 _ E5 N9 O (by decide) O O O (aC _) (by omega) (by omega) λw1 b1 n1=>?_;have o1:P0 108 w.heap.size w1 _ []:=P0.made n1 (aA _) (by omega);obtain⟨e1,k1,hb1,hs1⟩:=n1;refine .alloc O Br0 λw2 b5 n2=>?_;obtain⟨e2,k2,hb5,hs2⟩:=n2;have o2:=o1.ext e2;refine .store L2 O O k2 O (by simp[Value.cells]) (by simp[H3,Value.cells]) λw3 k3 u3=>.nil ?_;have o3:=o2.upd u3 k2 (by decide);have x3:Ext w w3:=u3.below (e1.trans e2) (by omega);refine .sr ?_;refine .call [.int .u64 (0:Nat)] O N4 O N3 λv4 w4 e4 h4=>?_;obtain⟨bx,rfl,kx,hbx⟩:=h4;refine .alloc O Br3 λw5 b6 n5=>?_;obtain⟨e5,k5,hb6,hs5⟩:=n5;have kx5:=kx.ext e5;refine .store ty_F O O k5 O (by simp[Value.cells]) (by simp[H3,Value.cells]) λw6 k6 u6=>.nil ?_;have hbx6:bx≠b6:=by have:=kx.lt;omega
 have s2:b5<w3.heap.size:=k3.lt;have s4:w3.heap.size<=w4.heap.size:=e4.size;have hb56:b5≠b6:=by omega
 have kx6:=kx5.upd u6 hbx6;have k56:=((k3.ext e4).ext e5).upd u6 hb56;have o6:=((o3.ext e4).ext e5).upd u6 k5 (by decide);have x6:Ext w w6:=u6.below ((x3.trans e4).trans e5) (by have:=x3.size;omega);refine .seq (.sr (.mv O O (.mv O O ?_)));refine .call _ O Ae2 O (Ac5 hva hvb) λv7 w7 e7 h7=>.nil ?_;obtain⟨p1,p2,rfl,kp1,kp2,hp1,hp2⟩:=h7;have x7:=x6.trans e7;have hlt5:b5<w6.heap.size:=k56.lt;have hlt6:b6<w6.heap.size:=k6.lt;have hlta:=(ER.lt _ ha);have hltb:=(ER.lt _ hb);have hS:∀ {W:World},Below w.heap.size w W->eW.R (λk=>S k/\k<w.heap.size) W va a/\eW.R (λk=>S k/\k<w.heap.size) W vb b:=λhB=>⟨eW.keep (λk c t f hk h=>(hB.block k hk.2).trans h) hlta,eW.keep (λk c t f hk h=>(hB.block k hk.2).trans h) hltb⟩;refine .block (.range (BV7 (S:=λk=>S k/\k<w.heap.size) (a:=a) (b:=b) (va:=va) (vb:=vb) (by omega) (by omega)) O Ba0 (λk=>rfl) (by decide)
  (AddJ w b5 b6 bx p1 p2 va vb λk r c=>r.length=k/\c<=1/\val r+4294967296 ^ k*c=val (a.take k)+val (b.take k)) (λ_ _=>False) (λk W W' h hs=>h.sft hs x7.size) (λ_ _ _ h _=>h.elim) (λk W h=>⟨h.k1,h.k2,hS h.low⟩) ?_ ?_ ?_ (λ_ _ h=>h.elim))
 ·exact⟨x7,k6.ext e7,kp1,kp2,_,[],0,k56.ext e7,o6.ext e7,kx6.ext e7,rfl,by omega,by simp[val]⟩
 ·intro l k W hk hJ;refine .sr (.an O O (.region (.an O O ⟨rfl,rfl,λW hJ hsz=>?_⟩)));obtain⟨hlow,hf,hp1,hp2,v,r,c,h5,ho,hx,hr1,hr2,hr3⟩:=hJ;have hxa:=J6 hda k;have hxb:=J6 hdb k;refine .block (.held follows true (λW'=>Blk W' b5 35 #[v]/\Blk W' b6 221 #[Ap1 bx])
   [some _,some _,some _,some _,some _,none,none,none,none] (by kernel_rfl) ⟨λ_ h=>E2 L2 O h.1 rfl,λ_ h=>E2 ty_F O h.2 rfl,λ_ _=>v_mv rfl,λ_ _=>v_mv rfl,λ_ _=>Bg6 O rfl,trivial⟩ ?_)
  intro W1 e1 hh1;have h5:=h5.ext e1;have hf:=hf.ext e1;have ho:=ho.ext e1;have hx:=hx.ext e1;have hp1:=hp1.ext e1;have hp2:=hp2.ext e1;have hlow1:Below w.heap.size w W1:=hlow.trans (e1.mono hlow.size);rw[wU (by omega),<-dN];have hbxf:b6≠bx:=λh=>hbx6 h.symm;refine .gv ⟨h5,hf⟩ rfl (AY1 [_] O P4 O (O9 hx (by omega))) ?_;rintro _ W2 ⟨rfl,u2,hx2⟩;have hb5x:b5≠bx:=by omega
  have h5:=h5.upd u2 hb5x;have hf:=hf.upd u2 hbxf;have ho:=ho.upd u2 hx (by decide);have oth:Oth W W2:=(Oth.ext e1).trans (Oth.upd u2 hx);have hxp1:p1≠bx:=by have:=kx6.lt;omega
  have hxp2:p2≠bx:=by have:=kx6.lt;omega
  have hp1:=hp1.upd u2 hxp1;have hp2:=hp2.upd u2 hxp2;have hlow2:Below w.heap.size w W2:=u2.below hlow1 (by have:=x3.size;omega);refine .gv ⟨h5,hf⟩ rfl (Ad7 _ O AT5) ?_;rintro _ W3 ⟨b3,rfl,n3⟩;obtain⟨e3,k3,hb3,hs3⟩:=n3;have hlow3:Below w.heap.size w W3:=hlow2.trans (e3.mono hlow2.size);refine .gv ⟨h5.ext e3,hf.ext e3⟩ rfl (Ao5 (base:=w.heap.size) E5 N9 O O (ho.ext e3) k3 (by omega) (by omega) hlow3.size) ?_;rintro v4 W4 ⟨ho4,hg4⟩;have h54:=(ho.ext e3).gblk hg4 (h5.ext e3) (by decide);have hf4:=(ho.ext e3).gblk hg4 (hf.ext e3) (by decide);have hp14:=(ho.ext e3).gblk hg4 (hp1.ext e3) (by decide);have hp24:=(ho.ext e3).gblk hg4 (hp2.ext e3) (by decide);have hx4:=(ho.ext e3).gblk hg4 (hx2.ext e3) (by decide);have hlow4:=(ho.ext e3).below hg4 hlow3 hlow3.size;have oth4:=(oth.trans (Oth.ext e3)).trans ((ho.ext e3).oth hg4);have hv4:∃ a n c,v4=.slice a n c:=by rcases ho4.1.2 with ⟨rfl,_⟩ | ⟨g,cap,cur,rfl,_⟩<;>exact⟨_,_,_,rfl⟩
  obtain⟨a4,n4,c4,rfl⟩:=hv4;refine .gv ⟨h54,hf4⟩ rfl (T5 L2 O O h54 O (by simp) (by simp[H3,Value.cells])) ?_;rintro _ W5 ⟨k5,u5⟩;refine .nil (.inl O) ?_;refine⟨oth4.trans (Oth.upd u5 h54),u5.below hlow4 (by have:=x3.size;omega),hf4.upd u5 (Ne.symm hb56),hp14.upd u5 (by omega),hp24.upd u5 (by omega),_,_,_,k5,ho4.upd u5 h54 (by decide),hx4.upd u5 (Ne.symm hb5x),by simp[hr1],by omega,?_⟩;rw[AP7,F1,F1,hr1];have hdm:=bE (a.getD k 0+b.getD k 0+c) 4294967296;generalize (a.getD k 0+b.getD k 0+c) / 4294967296=q at *;generalize (a.getD k 0+b.getD k 0+c) % 4294967296=m at *;have:4294967296 ^ k*m+4294967296 ^ (k+1)*q=4294967296 ^ k*(a.getD k 0+b.getD k 0+c):=by rw[<-hdm,aN];grind
  rw[aJ,aJ] at this;omega
 ·intro W hJ hD;obtain⟨hlow,hf,hp1,hp2,v,r,c,h5,ho,hx,hr1,hr2,hr3⟩:=hJ;rw[aK (by omega),aK (by omega)] at hr3;refine .seq (.held follows true (λW'=>Blk W' b5 35 #[v]/\Blk W' b6 221 #[Ap1 bx])
   [some _,some _,none,none,none,none] (by kernel_rfl) ⟨λ_ h=>E2 L2 O h.1 rfl,λ_ h=>E2 ty_F O h.2 rfl,trivial⟩ ?_)
  intro W1 e1 hh1;have h5:=h5.ext e1;have hf:=hf.ext e1;have ho:=ho.ext e1;have hx:=hx.ext e1;have hlow1:Below w.heap.size w W1:=hlow.trans (e1.mono hlow.size);have hD1:=(Oth.ext e1) _ _ hD rfl;refine .gv ⟨h5,hf⟩ rfl (AY1 [.int .u64 (0:Nat)] O P4 O (O9 hx (by omega))) ?_;rintro _ W2 ⟨rfl,u2,hx2⟩;have hb5x:b5≠bx:=by omega
  have h5:=h5.upd u2 hb5x;have hf:=hf.upd u2 (Ne.symm hbx6);have hD2:=(Oth.upd u2 hx) _ _ hD1 rfl;have ho:=ho.upd u2 hx (by decide);have hlow2:Below w.heap.size w W2:=u2.below hlow1 (by have:=x3.size;omega);refine .gv ⟨h5,hf⟩ rfl (Ad7 _ O AT5) ?_;rintro _ W3 ⟨b3,rfl,n3⟩;obtain⟨e3,k3,hb3,hs3⟩:=n3;have hlow3:Below w.heap.size w W3:=hlow2.trans (e3.mono hlow2.size);refine .gv ⟨h5.ext e3,hf.ext e3⟩ rfl (Ao5 (base:=w.heap.size) E5 N9 O O (ho.ext e3) k3 (by omega) (by omega) hlow3.size) ?_;rintro v4 W4 ⟨ho4,hg4⟩;have h54:=(ho.ext e3).gblk hg4 (h5.ext e3) (by decide);have hf4:=(ho.ext e3).gblk hg4 (hf.ext e3) (by decide);have hlow4:=(ho.ext e3).below hg4 hlow3 hlow3.size;have hD4:=((Oth.ext e3).trans ((ho.ext e3).oth hg4)) _ _ hD2 rfl;refine .gv ⟨h54,hf4⟩ rfl (AR9 O).gv ?_;rintro _ _ ⟨rfl,rfl⟩;refine .nil (.inl O) (.ret ?_);refine .mark [_] results213 hD4 ⟨rfl,trivial⟩ ⟨X8 hlow4 x7.size,_,(ho4.kp (Kp.put hD4 O)).toR up,?_,by simp;omega⟩;rw[AP7,hr1,<-hr3,aD,bJ (by omega)]
theorem AD9:Ent prog 214:=en func214
theorem AD0{w:World}{va vb:Value}{a b:List Nat}(up:Up S w)(ha:eW.R S w va a)(hb:eW.R S w vb b)(hla:a.length<=1099511627776)(hlb:b.length<=1099511627776)(hab:val b<=val a) :
  CR prog 214 #[va,vb] w (Wv S (val a-val b) (max a.length b.length)):=by
 have hda:dig a:=K7 ha;have hdb:dig b:=K7 hb;obtain⟨aa,ca,hva,_⟩:=RL.len ha;obtain⟨ab,cb,hvb,_⟩:=RL.len hb;refine enter func214 O ntmps214 O ?_;refine .sr (.an O O ?_);refine .sr (.mv O O (.lenR E5 O O ha ?_));refine .make_ 0 _ E5 N9 O (by decide) O O O (aC _) (by omega) (by omega) λw1 b1 n1=>?_;have o1:P0 108 w.heap.size w1 _ []:=P0.made n1 (aA _) (by omega);obtain⟨e1,k1,hb1,hs1⟩:=n1;refine .alloc O Br0 λw2 b5 n2=>?_;obtain⟨e2,k2,hb5,hs2⟩:=n2;have o2:=o1.ext e2;refine .store L2 O O k2 O (by simp[Value.cells]) (by simp[H3,Value.cells]) λw3 k3 u3=>.nil ?_;have o3:=o2.upd u3 k2 (by decide);have x3:Ext w w3:=u3.below (e1.trans e2) (by omega);refine .sr ?_;refine .call [.int .u64 (1:Nat)] O N4 O N3 λv4 w4 e4 h4=>?_;obtain⟨bx,rfl,kx,hbx⟩:=h4;refine .alloc O Br3 λw5 b6 n5=>?_;obtain⟨e5,k5,hb6,hs5⟩:=n5;have kx5:=kx.ext e5;refine .store ty_F O O k5 O (by simp[Value.cells]) (by simp[H3,Value.cells]) λw6 k6 u6=>.nil ?_;have hbx6:bx≠b6:=by have:=kx.lt;omega
 have s2:b5<w3.heap.size:=k3.lt;have s4:w3.heap.size<=w4.heap.size:=e4.size;have hb56:b5≠b6:=by omega
 have kx6:=kx5.upd u6 hbx6;have k56:=((k3.ext e4).ext e5).upd u6 hb56;have o6:=((o3.ext e4).ext e5).upd u6 k5 (by decide);have x6:Ext w w6:=u6.below ((x3.trans e4).trans e5) (by have:=x3.size;omega);refine .seq (.sr (.mv O O (.mv O O ?_)));refine .call _ O Ae2 O (Ac5 hva hvb) λv7 w7 e7 h7=>.nil ?_;obtain⟨p1,p2,rfl,kp1,kp2,hp1,hp2⟩:=h7;have x7:=x6.trans e7;have hlt5:b5<w6.heap.size:=k56.lt;have hlt6:b6<w6.heap.size:=k6.lt;have hlta:=(ER.lt _ ha);have hltb:=(ER.lt _ hb);have hS:∀ {W:World},Below w.heap.size w W->eW.R (λk=>S k/\k<w.heap.size) W va a/\eW.R (λk=>S k/\k<w.heap.size) W vb b:=λhB=>⟨eW.keep (λk c t f hk h=>(hB.block k hk.2).trans h) hlta,eW.keep (λk c t f hk h=>(hB.block k hk.2).trans h) hltb⟩;refine .block (.range (BV7 (S:=λk=>S k/\k<w.heap.size) (a:=a) (b:=b) (va:=va) (vb:=vb) (by omega) (by omega)) O Ba0 (λk=>rfl) (by decide)
  (AddJ w b5 b6 bx p1 p2 va vb λk r c=>r.length=k/\c<=1/\val r+4294967296 ^ k*c+val (b.take k)=val (a.take k)+4294967296 ^ k) (λ_ _=>False) (λk W W' h hs=>h.sft hs x7.size) (λ_ _ _ h _=>h.elim) (λk W h=>⟨h.k1,h.k2,hS h.low⟩) ?_ ?_ ?_ (λ_ _ h=>h.elim))
 ·exact⟨x7,k6.ext e7,kp1,kp2,_,[],1,k56.ext e7,o6.ext e7,kx6.ext e7,rfl,by omega,by simp[val]⟩
 ·intro l k W hk hJ;refine .sr (.an O O (.region (.an O O ⟨rfl,rfl,λW hJ hsz=>?_⟩)));obtain⟨hlow,hf,hp1,hp2,v,r,c,h5,ho,hx,hr1,hr2,hr3⟩:=hJ;have hxa:=J6 hda k;have hxb:=J6 hdb k;refine .block (.held follows true (λW'=>Blk W' b5 35 #[v]/\Blk W' b6 221 #[Ap1 bx])
   [some _,some _,some _,some _,some _,some _,none,none,none,none] (by kernel_rfl) ⟨λ_ h=>E2 L2 O h.1 rfl,λ_ h=>E2 ty_F O h.2 rfl,λ_ _=>v_mv rfl,λ_ _=>v_mv rfl,λ_ _=>AL5 O rfl,λ_ _=>Bg6 O rfl,trivial⟩ ?_)
  intro W1 e1 hh1;have h5:=h5.ext e1;have hf:=hf.ext e1;have ho:=ho.ext e1;have hx:=hx.ext e1;have hp1:=hp1.ext e1;have hp2:=hp2.ext e1;have hlow1:Below w.heap.size w W1:=hlow.trans (e1.mono hlow.size);rw[show IntKind.u64.wrap (((a.getD k 0:Nat):Int)+IntKind.u64.wrap (4294967295-((b.getD k 0:Nat):Int)))=((a.getD k 0+(4294967295-b.getD k 0):Nat):Int) by rw[wU (n:=4294967295-_) (by omega),wU (by omega)];omega];have hbxf:b6≠bx:=λh=>hbx6 h.symm;refine .gv ⟨h5,hf⟩ rfl (AY1 [_] O P4 O (O9 hx (by omega))) ?_;rintro _ W2 ⟨rfl,u2,hx2⟩;have hb5x:b5≠bx:=by omega
  have h5:=h5.upd u2 hb5x;have hf:=hf.upd u2 hbxf;have ho:=ho.upd u2 hx (by decide);have oth:Oth W W2:=(Oth.ext e1).trans (Oth.upd u2 hx);have hxp1:p1≠bx:=by have:=kx6.lt;omega
  have hxp2:p2≠bx:=by have:=kx6.lt;omega
  have hp1:=hp1.upd u2 hxp1;have hp2:=hp2.upd u2 hxp2;have hlow2:Below w.heap.size w W2:=u2.below hlow1 (by have:=x3.size;omega);refine .gv ⟨h5,hf⟩ rfl (Ad7 _ O AT5) ?_;rintro _ W3 ⟨b3,rfl,n3⟩;obtain⟨e3,k3,hb3,hs3⟩:=n3;have hlow3:Below w.heap.size w W3:=hlow2.trans (e3.mono hlow2.size);refine .gv ⟨h5.ext e3,hf.ext e3⟩ rfl (Ao5 (base:=w.heap.size) E5 N9 O O (ho.ext e3) k3 (by omega) (by omega) hlow3.size) ?_;rintro v4 W4 ⟨ho4,hg4⟩;have h54:=(ho.ext e3).gblk hg4 (h5.ext e3) (by decide);have hf4:=(ho.ext e3).gblk hg4 (hf.ext e3) (by decide);have hp14:=(ho.ext e3).gblk hg4 (hp1.ext e3) (by decide);have hp24:=(ho.ext e3).gblk hg4 (hp2.ext e3) (by decide);have hx4:=(ho.ext e3).gblk hg4 (hx2.ext e3) (by decide);have hlow4:=(ho.ext e3).below hg4 hlow3 hlow3.size;have oth4:=(oth.trans (Oth.ext e3)).trans ((ho.ext e3).oth hg4);have hv4:∃ a n c,v4=.slice a n c:=by rcases ho4.1.2 with ⟨rfl,_⟩ | ⟨g,cap,cur,rfl,_⟩<;>exact⟨_,_,_,rfl⟩
  obtain⟨a4,n4,c4,rfl⟩:=hv4;refine .gv ⟨h54,hf4⟩ rfl (T5 L2 O O h54 O (by simp) (by simp[H3,Value.cells])) ?_;rintro _ W5 ⟨k5,u5⟩;refine .nil (.inl O) ?_;refine⟨oth4.trans (Oth.upd u5 h54),u5.below hlow4 (by have:=x3.size;omega),hf4.upd u5 (Ne.symm hb56),hp14.upd u5 (by omega),hp24.upd u5 (by omega),_,_,_,k5,ho4.upd u5 h54 (by decide),hx4.upd u5 (Ne.symm hb5x),by simp[hr1],by omega,?_⟩;rw[AP7,F1,F1,hr1];have hdm:=bE (a.getD k 0+(4294967295-b.getD k 0)+c) 4294967296;generalize hq:(a.getD k 0+(4294967295-b.getD k 0)+c) / 4294967296=q at *;generalize hm:(a.getD k 0+(4294967295-b.getD k 0)+c) % 4294967296=m at *;have h1:4294967296 ^ k*m+4294967296 ^ (k+1)*q=4294967296 ^ k*(a.getD k 0+(4294967295-b.getD k 0)+c):=by rw[<-hdm,aN];grind
  have h2:4294967296 ^ k*(a.getD k 0+(4294967295-b.getD k 0)+c)+4294967296 ^ k*b.getD k 0+4294967296 ^ k=4294967296 ^ k*a.getD k 0+4294967296 ^ k*c+4294967296 ^ (k+1):=by
   have:a.getD k 0+(4294967295-b.getD k 0)+c+b.getD k 0+1=a.getD k 0+c+4294967296:=by omega
   have:=congrArg (4294967296 ^ k*·) this;simp only[aJ,cT] at this;rw[aN,aJ,aJ];omega
  omega
 ·intro W hJ hD;obtain⟨hlow,hf,hp1,hp2,v,r,c,h5,ho,hx,hr1,hr2,hr3⟩:=hJ;rw[aK (by omega),aK (by omega)] at hr3;refine .sr (.ld L2 O O h5 O (.an O O (.ret ?_)));refine .mark [_] results214 hD ⟨rfl,trivial⟩ ⟨X8 hlow x7.size,r,(ho.kp (Kp.put hD O)).toR up,?_,by omega⟩;have hlt:=Af1 ho.2;rw[hr1] at hlt;have hc1:c=1:=by
   rcases aB c 1 with h | h
   ·have:c=0:=by omega
    subst this;rw[dW] at hr3;omega
   ·omega
  subst hc1;rw[cT] at hr3;omega
theorem F3{l:List Nat}{k:Nat}(h:k<l.length):l[k]?=some (l.getD k 0):=by rw[aF,aE h];rfl
theorem AN0:Ent prog 262:=en func262
theorem AL3{w:World}{va:Value}{a:List Nat}(ha:eW.R S w va a)(hla:a.length<=1099511627776)(hs:s<=31) :
  CR prog 262 #[va,.int .u64 s] w (λv w'=>∃ r,P0 108 w.heap.size w' v r/\val r=val a*2 ^ s/\r.length=a.length+1):=by
 have hda:dig a:=K7 ha;have hp:0<2 ^ s:=bR (by omega);have hp31:2 ^ s<=2 ^ 31:=aQ (by omega) hs;refine enter func262 O ntmps262 O (.sr (.an O O (.sr ?_)));refine .call [.int .u64 (0:Nat)] O N4 O N3 λv1 w1 e1 h1=>.an O O ?_;obtain⟨bx,rfl,kx,hbx⟩:=h1;have ha1:=ha.ext e1;refine .sr (.mv O O (.lenR E5 O O ha1 (.add O O O ?_)));rw[show IntKind.i64.wrap ((a.length:Int)+1)=((a.length+1:Nat):Int) by rw[wI (by omega)];omega];refine .make_ 0 _ E5 N9 O (by decide) O O O (aC _) (by omega) (by omega) λw2 b2 n2=>.an O O ?_;have o2:P0 108 w.heap.size w2 _ []:=P0.made n2 e1.size (by omega);obtain⟨e2,k2,hb2,hs2⟩:=n2;have x2:=e1.trans e2;have hlt:=ER.lt _ ha;have hS:∀ {W:World},Below w.heap.size w W->eW.R (λk=>S k/\k<w.heap.size) W va a:=λhB=>eW.keep (λk c t f hk h=>(hB.block k hk.2).trans h) hlt;refine .mid (α:=Value×List Nat) (λx=>[(6,x.1),(5,Ap1 bx)]) (λx W=>Below w.heap.size w W/\x.2.length=a.length/\P0 108 w.heap.size W x.1 x.2/\∃ c,AY6 W bx c/\c<2 ^ s/\val x.2+4294967296 ^ a.length*c=val a*2 ^ s) ?_ ?_
 ·refine .sr (.mv O O (.lenR E5 O O (hS x2) (.mv O O (.nil ?_))));refine .block (.loop (α:=Nat×Value×List Nat×Nat) (λx=>[(6,x.2.1),(5,Ap1 bx),(14,va),(15,iW (a.length:Nat)),(16,iW (x.1:Nat)),(1,.int .u64 s)])
   (λx W=>Below w.heap.size w W/\x.1<=a.length/\x.2.2.1.length=x.1/\P0 108 w.heap.size W x.2.1 x.2.2.1/\AY6 W bx x.2.2.2/\x.2.2.2<2 ^ s/\val x.2.2.1+4294967296 ^ x.1*x.2.2.2=val (a.take x.1)*2 ^ s) (λx=>a.length-x.1) (0,.slice (some ⟨b2,0,none⟩) 0 (a.length+1),[],0) ?_ ?_ ?_)
  ·exact lkA rfl
  ·exact⟨x2,aC _,rfl,o2,kx.ext e2,hp,by simp[val]⟩
  ·rintro⟨i,v,r,c⟩ W ⟨hB,hi,hr,ho,hx,hc,hv⟩;replace hB:Below w.heap.size w W:=hB;replace hi:i<=a.length:=hi;replace hr:r.length=i:=hr;replace ho:P0 108 w.heap.size W v r:=ho;replace hx:AY6 W bx c:=hx;replace hc:c<2 ^ s:=hc;replace hv:val r+4294967296 ^ i*c=val (a.take i)*2 ^ s:=hv;by_cases hlt:i<a.length
   ·refine .sr (.lssT O O O (by omega) (.nil (.seq (.condT O (.skip (.seq (.block (.sr ?_)))))))) ;refine .ixN (i:=i) E5 C1 O O (hS hB) O (F3 hlt) λp hp=>.ldE C1 O O hp λe he=>?_;obtain⟨rfl,hxx⟩:=he;refine .an O O (.region (.mv O O (.mv O O (.mv O O (.cvt G4 G3 O O (.mv O O (.shl O O O (by omega) ?_)))))));rw[wU (n:=((a.getD i 0:Nat):Int)) (by omega),shl_nat _ _ hs hxx];have hm:=dD (show a.getD i 0<=4294967295 by omega) (aA (2 ^ s));refine .callvG [_] O O P4 O (O9 hx (by omega)) ?_;rintro _ W2 ⟨rfl,u2,hx2⟩;have ho2:=ho.upd u2 hx (by decide);have hB2:Below w.heap.size w W2:=u2.below hB hbx;refine .bsl _ O O AT5 λW3 b3 n3=>?_;obtain⟨e3,k3,hb3,hs3⟩:=n3;have hB3:Below w.heap.size w W3:=hB2.trans (e3.mono hB2.size);refine .gv O O (Ao5 (base:=w.heap.size) E5 N9 O O (ho2.ext e3) k3 (by omega) (by omega) hB3.size) ?_;rintro v4 W4 ⟨ho4,hg4⟩;refine .an O O (.region (.add O O O (.mv O O (.nil ?_))));rw[wI (by omega)];refine⟨rfl,(i+1,v4,_,_),lkA rfl,⟨(ho2.ext e3).below hg4 hB3 hB3.size,hlt,by simp[hr],ho4,(ho2.ext e3).gblk hg4 (hx2.ext e3) (by decide),?_,?_⟩,by show a.length-(i+1)<a.length-i;omega⟩
    ·show (a.getD i 0*2 ^ s+c) / 4294967296<2 ^ s;rw[bD (by omega)];omega
    ·show val (r++[(a.getD i 0*2 ^ s+c) % 4294967296])+4294967296 ^ (i+1)*((a.getD i 0*2 ^ s+c) / 4294967296)=val (a.take (i+1))*2 ^ s;rw[AP7,F1,hr,cF,<-hv];have hdm:=bE (a.getD i 0*2 ^ s+c) 4294967296;generalize (a.getD i 0*2 ^ s+c) / 4294967296=q at *;generalize (a.getD i 0*2 ^ s+c) % 4294967296=m at *;have:4294967296 ^ i*m+4294967296 ^ (i+1)*q=4294967296 ^ i*(a.getD i 0*2 ^ s+c):=by rw[<-hdm,aN];grind
     rw[aJ,<-bF] at this;omega
   ·refine .sr (.lssF O O O (by omega) (.nil (.seq (.condF O (.exit ?_)))));have:i=a.length:=by omega
    subst this;rw[aK (aA _)] at hv;exact⟨rfl,(v,r),lkA rfl,hB,hr,ho,c,hx,hc,hv⟩
 ·rintro⟨v,r⟩ W ⟨hB,hr,ho,c,hx,hc,hv⟩;replace hr:r.length=a.length:=hr;replace ho:P0 108 w.heap.size W v r:=ho;replace hv:val r+4294967296 ^ a.length*c=val a*2 ^ s:=hv;refine .sr (.mv O O (.mv O O ?_));refine .callvG [.int .u64 (0:Nat)] O O P4 O (O9 hx (by omega)) ?_;rintro _ W2 ⟨rfl,u2,hx2⟩;have ho2:=ho.upd u2 hx (by decide);have hB2:Below w.heap.size w W2:=u2.below hB hbx;refine .bsl _ O O AT5 λW3 b3 n3=>?_;obtain⟨e3,k3,hb3,hs3⟩:=n3;have hB3:Below w.heap.size w W3:=hB2.trans (e3.mono hB2.size);refine .gv O O (Ao5 (base:=w.heap.size) E5 N9 O O (ho2.ext e3) k3 (by omega) (by omega) hB3.size) ?_;rintro v4 W4 ⟨ho4,hg4⟩;refine .an O O (.ret (.plain [_] results262 ⟨rfl,trivial⟩ ⟨(ho2.ext e3).below hg4 hB3 hB3.size,_,ho4,?_,by simp[hr]⟩));rw[AP7,hr,<-hv,aD,bJ (by omega)]
theorem Ap8:Ent prog 163:=en func163
theorem An3{w:World}{va vb:Value}{a b:List Nat}(up:Up S w)(ha:eW.R S w va a)(hb:eW.R S w vb b)(hla:a.length<=1099511627776)(hlb:b.length<=1099511627776) :
  CR prog 163 #[va,vb] w (Wv S (val a*val b) (a.length+b.length)):=by
 have hda:dig a:=K7 ha;have hdb:dig b:=K7 hb;have hlta:=ER.lt _ ha;have hltb:=ER.lt _ hb;have hSa:∀ {W:World},Below w.heap.size w W->eW.R (λk=>S k/\k<w.heap.size) W va a:=λhB=>eW.keep (λk c t f hk h=>(hB.block k hk.2).trans h) hlta;have hSb:∀ {W:World},Below w.heap.size w W->eW.R (λk=>S k/\k<w.heap.size) W vb b:=λhB=>eW.keep (λk c t f hk h=>(hB.block k hk.2).trans h) hltb;refine enter func163 O ntmps163 O (.sr (.an O O (.sr (.mv O O (.lenR E5 O O ha (.mv O O (.lenR E5 O O hb (.add O O O ?_))))))));rw[show IntKind.i64.wrap ((a.length:Int)+(b.length:Int))=((a.length+b.length:Nat):Int) by rw[wI (by omega)];omega];refine .make_ _ _ E5 N9 O (by decide) O O O (aA _) (by omega) (by omega) λw1 g n1=>.an O O ?_;have o1:OB 108 w1 g (List.replicate (a.length+b.length) 0):=OB.made n1;obtain⟨e1,k1,hg,hs1⟩:=n1;generalize hL:a.length+b.length=L at *;refine .mid (α:=List Nat) (λp=>[(5,.slice (some ⟨g,0,none⟩) L L)]) (λp W=>Below w.heap.size w W/\p.length=L/\OB 108 W g p/\val p=val a*val b) ?_ ?_
 ·refine .sr (.mv O O (.lenR E5 O O (hSa e1) (.mv O O (.nil ?_))));refine .block (.loop (α:=Nat×List Nat) (λx=>[(5,.slice (some ⟨g,0,none⟩) L L),(17,va),(18,iW (a.length:Nat)),(19,iW (x.1:Nat)),(1,vb)])
   (λx W=>Below w.heap.size w W/\x.1<=a.length/\x.2.length=L/\OB 108 W g x.2/\val x.2=val (a.take x.1)*val b/\∀ j,x.1+b.length<=j->x.2.getD j 0=0) (λx=>a.length-x.1) (0,List.replicate L 0) ?_ ?_ ?_)
  ·exact lkA rfl
  ·refine⟨e1,aC _,by simp,o1,by simp[val,AA6],λj _=>?_⟩;rw[aF,eA];split<;>rfl
  ·rintro⟨i,p⟩ W ⟨hB,hi,hp,ho,hv,hz⟩;replace hi:i<=a.length:=hi;replace hp:p.length=L:=hp;replace ho:OB 108 W g p:=ho;replace hv:val p=val (a.take i)*val b:=hv;replace hz:∀ j,i+b.length<=j->p.getD j 0=0:=hz;by_cases hlt:i<a.length
   ·refine .sr (.lssT O O O (by omega) (.nil (.seq (.condT O (.skip (.seq (.block (.sr (.mv O O ?_))))))))) ;refine .ixN (i:=i) E5 C1 O O (hSa hB) O (F3 hlt) λq hq=>.ldE C1 O O hq λe he=>?_;obtain⟨rfl,hxx⟩:=he;generalize hx:a.getD i 0=x at *;refine .asg O O (.an O O (.sr ?_));refine .call [.int .u64 (0:Nat)] O N4 O N3 λv1 w1 e1 h1=>.an O O ?_;obtain⟨bx,rfl,kx,hbx⟩:=h1;have hB1:Below w.heap.size w w1:=hB.trans (e1.mono hB.size);have hgx:g≠bx:=by have:=ho.lt;omega
    have hwbx:w.heap.size<=bx:=aG hB.size hbx;refine .mid (α:=List Nat×Nat) (λ_=>[(5,.slice (some ⟨g,0,none⟩) L L),(17,va),(18,iW (a.length:Nat)),(19,iW (i:Nat)),(1,vb),(6,iW (i:Nat)),(8,Ap1 bx)])
     (λy W=>Below w.heap.size w W/\y.1.length=L/\OB 108 W g y.1/\AY6 W bx y.2/\y.2<4294967296/\val y.1+4294967296 ^ (i+b.length)*y.2=val p+4294967296 ^ i*(x*val b)/\∀ j,i+b.length<=j->y.1.getD j 0=0) ?_ ?_
    ·refine .sr (.mv O O (.lenR E5 O O (hSb hB1) (.mv O O (.nil ?_))));refine .block (.loop (α:=Nat×List Nat×Nat) (λz=>[(5,.slice (some ⟨g,0,none⟩) L L),(17,va),(18,iW (a.length:Nat)),(19,iW (i:Nat)),(1,vb),(6,iW (i:Nat)),(7,wv x),(8,Ap1 bx),(25,vb),(26,iW (b.length:Nat)),(27,iW (z.1:Nat))])
      (λz W=>Below w.heap.size w W/\z.1<=b.length/\z.2.1.length=L/\OB 108 W g z.2.1/\AY6 W bx z.2.2/\z.2.2<4294967296/\val z.2.1+4294967296 ^ (i+z.1)*z.2.2=val p+4294967296 ^ i*(x*val (b.take z.1))/\∀ j,i+b.length<=j->z.2.1.getD j 0=0) (λz=>b.length-z.1) (0,p,0) ?_ ?_ ?_)
     ·exact lkA rfl
     ·exact⟨hB1,aC _,hp,ho.ext e1,kx,by show 0<4294967296;omega,by simp[val],hz⟩
     ·rintro⟨k,u,c⟩ W ⟨hB,hk,hu,ho,hcx,hc,hv,hz⟩;replace hk:k<=b.length:=hk;replace hu:u.length=L:=hu;replace ho:OB 108 W g u:=ho;replace hcx:AY6 W bx c:=hcx;replace hc:c<4294967296:=hc;replace hv:val u+4294967296 ^ (i+k)*c=val p+4294967296 ^ i*(x*val (b.take k)):=hv;replace hz:∀ j,i+b.length<=j->u.getD j 0=0:=hz;by_cases hltk:k<b.length
      ·refine .sr (.lssT O O O (by omega) (.nil (.seq (.condT O (.skip (.seq (.block (.sr (.mv O O ?_)))))))));refine .ixN (i:=k) E5 C1 O O (hSb hB) O (F3 hltk) λq hq=>.ldE C1 O O hq λe he=>?_;obtain⟨rfl,hyy⟩:=he;generalize hy:b.getD k 0=y at *;refine .asg O O (.an O O (.region ?_));have hik:IntKind.i64.wrap ((i:Int)+(k:Int))=((i+k:Nat):Int):=by rw[wI (by omega)];omega
       have hgu:u[i+k]?=some (u.getD (i+k) 0):=F3 (by omega);have hud:=J6 ho.1 (i+k);refine .mv O O (.mv O O (.mv O O (.add (m:=(i:Int)) (n:=(k:Int)) O O O ?_)));rw[hik];refine .mv O O (.mv O O (.mv O O (.mv O O (.add (m:=(i:Int)) (n:=(k:Int)) O O O ?_))));rw[hik];refine .ixB E5 C1 O O O (by omega) ?_;rw[show 0+(i+k)*1=i+k by omega];refine .ldO C1 O O ho hgu ?_;refine .cvt G4 G3 O O (.mv O O (.cvt G4 G3 O O (.mv O O (.cvt G4 G3 O O (.mul O O O (.add O O O ?_))))));generalize hm:u.getD (i+k) 0=m at *;have hxy:x*y<=4294967295*4294967295:=dD (by omega) (by omega);rw[wU (n:=(m:Int)) (by omega),wU (n:=(x:Int)) (by omega),wU (n:=(y:Int)) (by omega),<-cQ,wU (n:=((x*y:Nat):Int)) (by omega),<-dN,wU (n:=((m+x*y:Nat):Int)) (by omega)];refine .callvG [_] O O P4 O (O9 hcx (by omega)) ?_;rintro _ W2 ⟨rfl,u2,hx2⟩;have hB2:Below w.heap.size w W2:=u2.below hB hwbx;refine .ixB E5 C1 O O O (by omega) ?_;rw[show 0+(i+k)*1=i+k by omega];refine .stO C1 O O O (ho.upd u2 hgx) (by omega) (by omega) λW3 ho3 u3=>.nil ?_;refine .region (.add (m:=(k:Int)) O O O (.mv O O (.nil ?_)));rw[wI (n:=(k:Int)+1) (by omega)];refine⟨rfl,(k+1,_,_),lkA rfl,⟨u3.below hB2 (by have:=e1.size;have:=hg;omega),hltk,by simp[hu],ho3,hx2.upd u3 (Ne.symm hgx),?_,?_,?_⟩,by show b.length-(k+1)<b.length-k;omega⟩
       ·show (m+x*y+c) / 4294967296<4294967296;rw[bD (by omega)];omega
       ·show val (u.set (i+k) ((m+x*y+c) % 4294967296))+4294967296 ^ (i+(k+1))*((m+x*y+c) / 4294967296)=val p+4294967296 ^ i*(x*val (b.take (k+1)));have h1:=AR6 ((m+x*y+c) % 4294967296) hgu;rw[F1,hy];have hdm:=bE (m+x*y+c) 4294967296;generalize (m+x*y+c) / 4294967296=q at *;generalize (m+x*y+c) % 4294967296=r at *;have h2:4294967296 ^ (i+k)*r+4294967296 ^ (i+(k+1))*q=4294967296 ^ (i+k)*(m+x*y+c):=by rw[<-hdm,<-cZ,aN];grind
        have h3:4294967296 ^ i*(x*(val (b.take k)+4294967296 ^ k*y))=4294967296 ^ i*(x*val (b.take k))+4294967296 ^ (i+k)*(x*y):=by rw[bG];grind
        rw[h3];rw[aJ,aJ] at h2;omega
       ·intro j hj;show (u.set (i+k) ((m+x*y+c) % 4294967296)).getD j 0=0;rw[aF,bW (by omega),<-aF];exact hz j hj
      ·refine .sr (.lssF O O O (by omega) (.nil (.seq (.condF O (.exit ?_)))));have:k=b.length:=by omega
       subst this;rw[aK (aA _)] at hv;exact⟨rfl,(u,c),lkA rfl,hB,hu,ho,hcx,hc,hv,hz⟩
    ·rintro⟨u,c⟩ W ⟨hB,hu,ho,hcx,hc,hv,hz⟩;replace hu:u.length=L:=hu;replace ho:OB 108 W g u:=ho;replace hcx:AY6 W bx c:=hcx;replace hc:c<4294967296:=hc;replace hv:val u+4294967296 ^ (i+b.length)*c=val p+4294967296 ^ i*(x*val b):=hv;replace hz:∀ j,i+b.length<=j->u.getD j 0=0:=hz;have hib:IntKind.i64.wrap ((i:Int)+(b.length:Int))=((i+b.length:Nat):Int):=by rw[wI (by omega)];omega
     refine .region (.mv O O (.mv O O (.mv O O (.lenR E5 O O (hSb hB) (.add O O O ?_)))));rw[hib];refine .mv O O (.callvG [.int .u64 (0:Nat)] O O P4 O (O9 hcx (by omega)) ?_);rintro _ W2 ⟨rfl,u2,hx2⟩;rw[aD,bJ hc];refine .ixB E5 C1 O O O (by omega) ?_;rw[show 0+(i+b.length)*1=i+b.length by omega];refine .stO C1 O O O (ho.upd u2 hgx) (by omega) hc λW3 ho3 u3=>.nil (.region (.add (m:=(i:Int)) O O O (.mv O O (.nil ?_))));rw[wI (n:=(i:Int)+1) (by omega)];have hB2:Below w.heap.size w W2:=u2.below hB hwbx;refine⟨rfl,(i+1,u.set (i+b.length) c),lkA rfl,⟨u3.below hB2 (by omega),hlt,by simp[hu],ho3,?_,?_⟩,by show a.length-(i+1)<a.length-i;omega⟩
     ·show val (u.set (i+b.length) c)=val (a.take (i+1))*val b;have h1:=AR6 c (F3 (l:=u) (k:=i+b.length) (by omega));rw[hz _ (aA _)] at h1;rw[F1,hx,cF,bF];replace hv0:val p=val (a.take i)*val b:=by assumption
      omega
     ·intro j hj;show (u.set (i+b.length) c).getD j 0=0;rw[aF,bW (by omega),<-aF];exact hz j (by omega)
   ·refine .sr (.lssF O O O (by omega) (.nil (.seq (.condF O (.exit ?_)))));have:i=a.length:=by omega
    subst this;rw[aK (aA _)] at hv;exact⟨rfl,p,lkA rfl,hB,hp,ho,hv⟩
 ·rintro p W ⟨hB,hp,ho,hv⟩;subst hp;refine .sr (.mv O O (.an O O (.ret (.p1 _ results163 O ⟨hB,p,ho.toR0 (up g (by omega)) (aA _) (by omega),hv,by omega⟩))))
theorem v_istr{w:World}{d:Option Tmp}{ty:TypeId}{pos:String}{af:Array Edge}{g:Option (Nat×Bool)}{x ix:Operand}{s:ByteArray}{k:IntKind}{b:UInt8}(ht:P.underlying t=some .string)(hx:ev σ x=some (.string s))(hi:ev σ ix=some (.int k (i:Int)))(hb:s[i]?=some b):Vl P ⟨d,.index t x ix,ty,pos,af,g⟩ σ w (.int .u8 b.toNat):=by refine⟨(by intro _ h;cases h),λρ hρ=>?_⟩;have h1:=hρ x _ (by simp[Op.operands]) hx;have h2:=hρ ix _ (by simp[Op.operands]) hi;simp[execOp,h1,h2,Instr.index,asIntOf,run_underlying ht,hb]
theorem Br9:prog.underlying 9=some .string:=by kernel_rfl
theorem Ai6:prog.underlying 5=some (.int .u8):=by kernel_rfl
@[reducible] def LenP (x:Nat):Value->World->Prop:=λv _=>∃ L:Nat,v=.int .i64 L/\L<=32/\x<2 ^ L/\(0<x->0<L)
theorem E_Len32:Ent prog 147:=en func147
theorem Len32_c{w:World}(hx:x<4294967296):CR prog 147 #[.int .u32 x] w (LenP x):=by
 refine enter func147 O ntmps147 O (.sr (.an O O (.mid (α:=Nat×Nat) (λy=>[(0,.int .u32 (y.1:Nat)),(2,iW (y.2:Nat))]) (λy W=>W=w/\y.1<65536/\y.2<=16/\(∀ L,y.1<2 ^ L->x<2 ^ (y.2+L))/\(0<x->0<y.1+y.2)) ?_ ?_)))
 ·refine .sr (.mv O O ?_);by_cases h:65536<=x
  ·refine .geqT O O O (by omega) (.nil (.condT O (.sr (.mv O O (.shr O O O (by decide) (.an O O (.region (.an O O ?_))))))));have:((x:Int).fdiv ((2:Int) ^ (min (16:Int).toNat IntKind.u32.bits)))=((x / 65536:Nat):Int):=AY2 x 16;rw[this];refine⟨rfl,(x / 65536,16),lkA rfl,rfl,by show x / 65536<65536;omega,aA _,λL hL=>?_,λ_=>by show 0<x / 65536+16;omega⟩;rw[bD (by omega)] at hL;show x<2 ^ (16+L);rw[bG];omega
  ·refine .geqF O O O (by omega) (.nil (.condF O (.skip ?_)));exact⟨rfl,(x,0),lkA rfl,rfl,by show x<65536;omega,aC _,λL hL=>by simpa using hL,λh=>by show 0<x+0;omega⟩
 ·rintro⟨y,n⟩ W ⟨rfl,hy,hn,hL,h0⟩;refine .mid (α:=Nat×Nat) (λy=>[(0,.int .u32 (y.1:Nat)),(2,iW (y.2:Nat))]) (λy W'=>W'=W/\y.1<256/\y.2<=24/\(∀ L,y.1<2 ^ L->x<2 ^ (y.2+L))/\(0<x->0<y.1+y.2)) ?_ ?_
  ·refine .sr (.mv O O ?_);by_cases h:256<=y
   ·refine .geqT O O O (by show (256:Int)<=(y:Int);omega) (.nil (.condT O (.sr (.mv O O (.shr (m:=(y:Int)) O O O (by decide) (.an O O (.region (.mv O O (.add (m:=(n:Int)) O O O (.an O O ?_))))))))));have:((y:Int).fdiv ((2:Int) ^ (min (8:Int).toNat IntKind.u32.bits)))=((y / 256:Nat):Int):=AY2 y 8;rw[this,wI (by omega)];refine⟨rfl,(y / 256,n+8),lkA rfl,rfl,by show y / 256<256;omega,by show n+8<=24;omega,λL hL'=>?_,λ_=>by show 0<y / 256+(n+8);omega⟩;rw[bD (by omega)] at hL';show x<2 ^ (n+8+L);rw[cZ];refine hL _ ?_;rw[bG];omega
   ·refine .geqF O O O (by show ¬ (256:Int)<=(y:Int);omega) (.nil (.condF O (.skip ?_)));exact⟨rfl,(y,n),lkA rfl,rfl,by show y<256;omega,by show n<=24;omega,hL,h0⟩
  ·rintro⟨y,n⟩ W ⟨rfl,hy,hn,hL,h0⟩;refine .sr (.mv O O (.mv O O (.cvt (m:=(y:Int)) G4 Ai6 O O ?_)));rw[show IntKind.u8.wrap (y:Int)=(y:Int) by rw[IntKind.wrap_u8];omega];have hall:∀ s:ByteArray,((List.range 256).all λi=>match s[i]? with | some b=>Nat.blt i (2 ^ b.toNat) && Nat.ble b.toNat 8 && (Nat.beq i 0 || Nat.blt 0 b.toNat) | none=>false)=true->∃ b,s[y]?=some b/\y<2 ^ b.toNat/\b.toNat<=8/\(0<y->0<b.toNat):=by
    intro s hs;have:=List.all_eq_true.1 hs y (List.mem_range.2 hy)
    cases hb:s[y]? with
    | none=>rw[hb] at this;cases this
    | some b =>
     rw[hb] at this;simp only[aO,aX,aZ,Nat.ble_eq,Nat.beq_eq] at this;exact⟨b,rfl,this.1.1,this.1.2,λh=>this.2.resolve_left (by omega)⟩
   obtain⟨b,hb1,hb2,hb3,hb4⟩:=hall _ (by kernel_rfl);refine .gv O O (v_istr (i:=y) Br9 O O hb1).gv ?_;rintro _ _ ⟨rfl,rfl⟩;refine .cvt Ai6 AJ3 O O (.add O O O (.an O O (.ret ?_)));rw[wI (n:=((b.toNat:Nat):Int)) (by omega),wI (by omega),<-dN];refine .plain [_] results147 ⟨rfl,trivial⟩ ⟨.refl _,n+b.toNat,rfl,by omega,hL _ hb2,λh=>?_⟩;have:=h0 h;rcases aU n with h' | h'
   ·have:=hb4 (by omega);omega
   ·omega
theorem Aq3:Ent prog 261:=en func261
theorem Ap6{w:World}(hx:x<4294967296)(h0:0<x):CR prog 261 #[.int .u32 x] w (λv _=>∃ s:Nat,v=.int .i64 s/\s<=31/\x*2 ^ s<4294967296):=by
 refine enter func261 O ntmps261 O (.sr (.an O O (.sr (.mv O O (.call _ O E_Len32 O (Len32_c hx) λv w1 e1 h1=>?_)))));obtain⟨L,rfl,hL,hxL,hL0⟩:=h1;refine .sub O O O (.an O O (.ret ?_));rw[wI (by omega),show ((32:Int)-(L:Int))=((32-L:Nat):Int) by omega];refine .plain [_] results261 ⟨rfl,trivial⟩ ⟨e1,32-L,rfl,by have:=hL0 h0;omega,?_⟩;have:2 ^ L*2 ^ (32-L)=4294967296:=by rw[<-bG,show L+(32-L)=32 by omega]
 rw[<-this];exact iB hxL (bR (by omega))
theorem Ap7:Ent prog 241:=en func241
theorem An2{w:World}{g c:Nat}{U:List Nat}{d:Nat}(ho:OB 108 w g U)(hd0:0<d)(hd:d<4294967296)(hl:U.length<=1099511627776) :
  Calls prog 241 #[.slice (some ⟨g,0,none⟩) U.length c,.int .u64 d] w λe w'=>∃ v,e=.returned v/\(v=.int .u64 (val U % d:Nat)/\Upd w w' g/\∃ V,OB 108 w' g V/\V.length=U.length/\val V=val U / d):=by
 refine U8 func241 O ntmps241 O (.sr (.an O O (.sr (.an O O ?_))));refine .mid (α:=List Nat) (λV=>[(5,.int .u64 (val U % d:Nat))]) (λV W=>Upd w W g/\OB 108 W g V/\V.length=U.length/\val V=val U / d) ?_ ?_
 ·refine .sr (.mv O O (.len E5 O O (.sub O O O (.an O O ?_))));rw[wI (by omega)];refine .block (.loop (α:=Nat×List Nat×Nat) (λx=>[(0,.slice (some ⟨g,0,none⟩) U.length c),(1,.int .u64 d),(5,.int .u64 (x.2.2:Nat)),(6,iW ((x.1:Int)-1))])
   (λx W=>Upd w W g/\OB 108 W g x.2.1/\x.2.1.length=U.length/\x.1<=U.length/\x.2.1.take x.1=U.take x.1/\x.2.2<d/\val (x.2.1.drop x.1)*d+x.2.2=val (U.drop x.1)) (λx=>x.1) (U.length,U,0) ?_ ?_ ?_)
  ·exact lkA rfl
  ·refine⟨Upd.refl _ _,ho,rfl,aA _,rfl,hd0,?_⟩;show val (U.drop U.length)*d+0=val (U.drop U.length);rw[dU (aA _)];simp[val]
  ·rintro⟨j,V,r⟩ W ⟨hu,ho,hV,hj,ht,hr,hv⟩;replace ho:OB 108 W g V:=ho;replace hV:V.length=U.length:=hV;replace hj:j<=U.length:=hj;replace ht:V.take j=U.take j:=ht;replace hr:r<d:=hr;replace hv:val (V.drop j)*d+r=val (U.drop j):=hv;rcases aU j with hj0 | hj0
   ·subst hj0;refine .seq (.sr (.mv O O (.geqF O O O (by show ¬ (0:Int)<=((0:Nat):Int)-1;omega) (.nil (.condF O (.exit ?_))))));simp only[cV] at hv;have h1:val U % d=r:=by rw[<-hv,aT,Nat.mul_add_mod,bJ hr]
    have h2:val U / d=val V:=by rw[<-hv,aT,Nat.mul_add_div hd0,eB hr];omega
    rw[h1,h2];exact⟨rfl,V,lkA rfl,hu,ho,hV,rfl⟩
   ·obtain⟨i,rfl⟩:∃ i,j=i+1:=⟨j-1,by omega⟩;have hi:((i+1:Nat):Int)-1=(i:Int):=by omega
    have hgi:V[i]?=some (V.getD i 0):=F3 (by omega);have hdi:=J6 ho.1 i;generalize hx:V.getD i 0=x at *;refine .seq (.sr (.mv (v:=.int .i64 (i:Int)) O (by rw[<-hi];rfl) (.geqT O O O (by omega) (.nil (.condT O (.skip (.seq (.block (.sr ?_))))))))) ;refine .mv O O (.shl (m:=(r:Int)) O O O (by decide) ?_);rw[BU4 r (by omega)];refine .mv O O (.mv (v:=.int .i64 (i:Int)) O (by rw[<-hi];rfl) (.ixB E5 C1 O O O (by omega) ?_));rw[show 0+i*1=i by omega];refine .ldO C1 O O ho hgi (.cvt G4 G3 O O ?_);rw[wU (n:=(x:Int)) (by omega)];refine .or_ O O O ?_;rw[Bv4 r x hdi (by omega)];have hlt:x+4294967296*r<4294967296*d:=by have:4294967296*(r+1)<=4294967296*d:=aV _ hr;omega
    have hq:(x+4294967296*r) / d<4294967296:=by rw[bD hd0];exact hlt
    have hq64:x+4294967296*r<18446744073709551616:=by omega
    refine .an O O (.sr (.mv O O (.mv (v:=.int .i64 (i:Int)) O (by rw[<-hi];rfl) (.mv O O (.mv O O (.quo O O O (by omega) ?_))))));rw[AB0,AC9,bJ (eX hq (by omega))];refine .cvt G3 G4 O O ?_;rw[Q5,bJ hq];refine .ixB E5 C1 O O O (by omega) ?_;rw[show 0+i*1=i by omega];refine .stO C1 O O O ho (by omega) hq λW2 ho2 u2=>.nil (.region (.mv O O (.mv O O (.rem O O O (by omega) ?_))));rw[AA9];refine .an O O (.region (.mv (v:=.int .i64 (i:Int)) O (by rw[<-hi];rfl) (.sub O O O (.an O O ?_))));rw[wI (n:=(i:Int)-1) (by omega)];refine⟨rfl,(i,V.set i ((x+4294967296*r) / d),(x+4294967296*r) % d),lkA rfl,⟨hu.trans u2,ho2,by simp[hV],by show i<=U.length;omega,?_,aY _ hd0,?_⟩,eY i⟩
    ·show (V.set i _).take i=U.take i;rw[List.take_set_of_le (aA _)];have:=congrArg (List.take i) ht;rw[List.take_take,List.take_take] at this;simpa using this
    ·show val ((V.set i ((x+4294967296*r) / d)).drop i)*d+(x+4294967296*r) % d=val (U.drop i);have hUi:U[i]?=some x:=by have:=congrArg (λl=>l[i]?) ht;simp only[cP] at this;rw[if_pos (by omega),if_pos (by omega)] at this;rw[<-this];exact hgi
     have e1:(V.set i ((x+4294967296*r) / d)).drop i=((x+4294967296*r) / d)::V.drop (i+1):=by rw[bX (by simp;omega),List.getElem_set_self,List.drop_set_of_lt (by omega)]
     have e2:U.drop i=x::U.drop (i+1):=by rw[bX (by omega)];rw[aE (by omega)] at hUi;rw[Option.some.inj hUi]
     rw[e1,e2,val,val,<-hv];have hdm:=bE (x+4294967296*r) d;generalize (x+4294967296*r) / d=q at *;generalize (x+4294967296*r) % d=m at *;rw[cF,aJ,aT q d,bF];omega
 ·rintro V W ⟨hu,ho,hV,hv⟩;refine .sr (.mv O O (.an O O (.ret ?_)));exact .p1 _ results241 O ⟨rfl,hu,V,ho,hV,hv⟩
section
variable {B p U V U0 V0 u0 top v1 v2 g r:Nat}
theorem Bo8 (hp:0<p) (hB:0<B) (hU:U=U0+p*(u0+B*top)) (hV:V=V0+p*(v2+B*v1)) (hU0:U0<p) (hu0:u0<B) (h1:0<v1):U / V<=top / v1:=by
 have hVp:0<V:=by have:0<p*(v2+B*v1):=cE hp (by have:=cE hB h1;omega);omega
 have hlt:top+1<=v1*(top / v1+1):=by have:=gL top h1;omega
 have:U<V*(top / v1+1):=by
  have e1:U<p*(B*(top+1)):=by
   rw[hU];have:u0+B*top+1<=B*(top+1):=by rw[aJ];omega
   have:=aV p this;rw[aJ] at this;omega
  have e2:p*(B*(top+1))<=p*(B*(v1*(top / v1+1))):=aV _ (aV _ hlt);have e3:p*(B*(v1*(top / v1+1)))<=V*(top / v1+1):=by
   have:p*(B*(v1*(top / v1+1)))=(p*(B*v1))*(top / v1+1):=by simp only[bF]
   rw[this];refine bO _ ?_;rw[hV,aJ];omega
  omega
 have:=(bD hVp).2 (by rw[aT];exact this);omega
theorem Bz2 (hp:0<p) (hB:0<B) (hU:U=U0+p*(u0+B*top)) (hV:V=V0+p*(v2+B*v1)) (hU0:U0<p) (h1:0<v1) (ht:g*v1+r=top) (h:r*B+u0<g*v2):U / V<g:=by
 have hVp:0<V:=by have:0<p*(v2+B*v1):=cE hp (by have:=cE hB h1;omega);omega
 rw[bD hVp];have e1:u0+B*top+1<=g*(v2+B*v1):=by
  have:g*(v2+B*v1)=g*v2+B*(g*v1):=by grind
  rw[this,<-ht,aJ,aT B r];omega
 have e2:p*(u0+B*top+1)<=g*V:=by
  rw[hV,aJ g];have:=aV p e1;have e:p*(g*(v2+B*v1))=g*(p*(v2+B*v1)):=by grind
  omega
 rw[aJ] at e2;omega
theorem Bz1 (hp:0<p) (hB:0<B) (hU:U=U0+p*(u0+B*top)) (hV:V=V0+p*(v2+B*v1)) (hV0:V0<p) (h1:0<v1) (ht:g*v1+r=top) (hg:g<B) (h:g*v2<=r*B+u0):g<=U / V+1:=by
 have hVp:0<V:=by have:0<p*(v2+B*v1):=cE hp (by have:=cE hB h1;omega);omega
 have e1:g*(v2+B*v1)<=u0+B*top:=by
  have:g*(v2+B*v1)=g*v2+B*(g*v1):=by grind
  rw[this,<-ht,aJ,aT B r];omega
 have e2:g*V<=g*V0+U:=by
  rw[hV,aJ];have:=aV p e1;have e:p*(g*(v2+B*v1))=g*(p*(v2+B*v1)):=by grind
  omega
 have e3:g*V0<V:=by
  have h2:g*V0<B*p:=dF hg hV0;have h3:B*p<=p*(v2+B*v1):=by rw[aT B p];refine aV _ ?_;have:=aV B h1;omega
  omega
 have e4:U<V*(U / V+1):=gL U hVp;have e5:V*g<V*(U / V+2):=by rw[show U / V+2=(U / V+1)+1 from rfl,aJ V (U / V+1),cT,aT V g];omega
 have:=fQ e5;omega
theorem Bo9 (hp:0<p) (hB:0<B) (hU:U=U0+p*(u0+B*top)) (hV:V=V0+p*(v2+B*v1)) (hV0:V0<p) (hv2:v2<B) (ht:g*v1+r=top) (hUV:U<B*V) (hr:B<=r):g<B:=by
 rcases aB g B with h | h
 ·exact h
 ·exfalso;have h1:p*(B*top)<=U:=by rw[hU,aJ];omega
  have h2:V<p*(v2+B*v1+1):=by rw[hV,aJ p (v2+B*v1)];omega
  have h3:p*(B*top)<p*(B*(v2+B*v1+1)):=by
   have:B*V<B*(p*(v2+B*v1+1)):=Nat.mul_lt_mul_of_pos_left h2 hB;have e:B*(p*(v2+B*v1+1))=p*(B*(v2+B*v1+1)):=by grind
   omega
  have h4:top<v2+B*v1+1:=fQ (fQ h3);have h5:B*v1<=g*v1:=bO _ h;omega
theorem Bp0 (hp:0<p) (hB:0<B) (hU:U=U0+p*(u0+B*top)) (hV:V=V0+p*(v2+B*v1)) (hV0:V0<p) (hv2:v2<B) (h1:0<v1) (ht:g*v1+r=top) (hg:g<B) (hr:B<=r):g<=U / V:=by
 have hVp:0<V:=by have:0<p*(v2+B*v1):=cE hp (by have:=cE hB h1;omega);omega
 rw[Nat.le_div_iff_mul_le hVp];have e0:g*V<=p*(g+g*v2+B*(g*v1)):=by
  have h2:g*V0<=g*p:=aV _ (cH hV0);have e:p*(g+g*v2+B*(g*v1))=g*p+g*(p*(v2+B*v1)):=by grind
  rw[hV,aJ,e];omega
 have e1:g+g*v2<=B*g:=by have:=aV g (show v2+1<=B from hv2);rw[aJ,cT,aT g B] at this;omega
 have e2:g+g*v2+B*(g*v1)<=B*top:=by rw[<-ht,aJ B];have:=aV B (show g<=r by omega);omega
 have e3:=aV p e2;rw[hU,aJ];omega
end
theorem Y9(l:List Nat)(k:Nat)(hk:k<=l.length):val l=val (l.take k)+4294967296 ^ k*val (l.drop k):=by
 conv=>lhs;rw[<-eC k l]
 rw[AR7,cI,cJ hk]
theorem BX5{l:List Nat}(h:dig l)(k:Nat):dig (l.take k):=λx hx=>h x (eO hx)
theorem T8{l:List Nat}(h:dig l)(k:Nat)(hk:k<=l.length):val (l.take k)<4294967296 ^ k:=by have:=Af1 (BX5 h k);rwa [cI,cJ hk] at this
theorem Br5{l:List Nat}(h:l.length=m+3):val l=val (l.take m)+4294967296 ^ m*(l.getD m 0+4294967296*(l.getD (m+1) 0+4294967296*l.getD (m+2) 0)):=by
 have e:l.take (m+3)=l:=aK (by omega);conv=>lhs;rw[<-e]
 rw[F1,F1,F1,aN,aN];grind
theorem Br6{l:List Nat}(h:l.length=m+2):val l=val (l.take m)+4294967296 ^ m*(l.getD m 0+4294967296*l.getD (m+1) 0):=by
 have e:l.take (m+2)=l:=aK (by omega);conv=>lhs;rw[<-e]
 rw[F1,F1,aN];grind
theorem Ac6{l:List Nat}{k:Nat}(h:val l<4294967296 ^ k):val (l.drop k)=0:=by
 rcases aB k l.length with hk | hk
 ·have:=Y9 l k (by omega);rcases aU (val (l.drop k)) with h0 | h0
  ·exact h0
  ·have:=aV (4294967296 ^ k) h0;omega
 ·rw[dU hk];rfl
theorem AV7{l:List Nat}{k:Nat}(hk:k<=l.length)(h:val l<4294967296 ^ k):val (l.take k)=val l:=by have:=Y9 l k hk;rw[Ac6 h] at this;omega
theorem Bb1{l:List Nat}{k:Nat}(hd:dig l)(hk:k+m<=l.length)(h:val l<4294967296 ^ (k+m)):val ((l.drop k).take m)=val l / 4294967296 ^ k:=by
 have e1:=Y9 l k (by omega);have e2:=T8 hd k (by omega);have hp:0<4294967296 ^ k:=bR (by omega);have e3:val l / 4294967296 ^ k=val (l.drop k):=by rw[e1,gM _ _ hp,eB e2];omega
 rw[e3];refine AV7 (by simp;omega) ?_;rw[<-e3,bD hp,aT,<-bG];exact h
theorem Ai2{l r:List Nat}{k:Nat}(hlen:l.length=r.length)(hl:dig l)(h:∀ j,k<=j->l.getD j 0=r.getD j 0)(hr:val r<4294967296 ^ k):val l<4294967296 ^ k:=by
 rcases aB k l.length with hk | hk
 ·have e:l.drop k=r.drop k:=by
   apply cU;intro i;rw[eR,eR];rcases aB (k+i) l.length with hi | hi
   ·have:=h (k+i) (by omega);rw[aF,aF,aE hi,aE (by omega)] at this;rw[aE hi,aE (by omega)];exact congrArg some this
   ·rw[aH hi,aH (by omega)]
  have:=Y9 l k (by omega);rw[e,Ac6 hr] at this;have:=T8 hl k (by omega);omega
 ·have:=Af1 hl;have:=aQ (show 0<4294967296 by omega) hk;omega
theorem Bl9{l:List Nat}(hd:dig l)(hs:s<=31)(hi:i+1<l.length) :
  (val l / 2 ^ s) % 4294967296 ^ (i+1)=(val l / 2 ^ s) % 4294967296 ^ i+4294967296 ^ i*(((l.getD i 0+4294967296*l.getD (i+1) 0) / 2 ^ s) % 4294967296):=by
 have hp:0<4294967296 ^ i:=bR (by omega);have hps:0<2 ^ s:=bR (by omega);have e0:(val l / 2 ^ s) % 4294967296 ^ (i+1)=(val l / 2 ^ s) % 4294967296 ^ i+4294967296 ^ i*((val l / 2 ^ s / 4294967296 ^ i) % 4294967296):=by rw[aN,Nat.mod_mul]
 rw[e0];congr 2;have e1:val l / 2 ^ s / 4294967296 ^ i=val (l.drop i) / 2 ^ s:=by rw[fR,aT,<-fR];congr 1;rw[Y9 l i (by omega),gM _ _ hp,eB (T8 hd i (by omega))];omega
 have e2:val (l.drop i)=(l.getD i 0+4294967296*l.getD (i+1) 0)+2 ^ s*(2 ^ (32-s)*(4294967296*val (l.drop (i+2)))):=by
  rw[bX (show i<l.length by omega),bX (show i+1<l.length by omega),val,val];have h1:l[i]=l.getD i 0:=by rw[aF,aE (by omega)];rfl
  have h2:l[i+1]=l.getD (i+1) 0:=by rw[aF,aE (by omega)];rfl
  rw[h1,h2,<-bF (2 ^ s),<-bG,show s+(32-s)=32 by omega];show _=_+4294967296*_;rw[aJ,show i+1+1=i+2 from rfl];omega
 rw[e1,e2,gM _ _ hps,show 2 ^ (32-s)*(4294967296*val (l.drop (i+2)))=4294967296*(2 ^ (32-s)*val (l.drop (i+2))) by grind,Nat.add_mul_mod_self_left]
theorem BT7{b:List Nat}(hdb:dig b)(hlb:b.length=m+2)(hs:s<=31)(htops:b.getD (m+1) 0*2 ^ s<4294967296):val b*2 ^ s<4294967296 ^ (m+2):=by
 have hps:0<2 ^ s:=bR (by omega);have e:b.take (m+2)=b:=aK (by omega);have e7:4294967296 ^ (m+2)=4294967296 ^ (m+1)*4294967296:=aN _ _;rw[<-e,F1,e7];have h1:=T8 hdb (m+1) (by omega);have h2:(val (b.take (m+1))+4294967296 ^ (m+1)*b.getD (m+1) 0)*2 ^ s<4294967296 ^ (m+1)*((b.getD (m+1) 0+1)*2 ^ s):=by rw[<-bF];refine iB ?_ hps;rw[aJ];omega
 have h3:(b.getD (m+1) 0+1)*2 ^ s<=4294967296:=by
  have h4:2 ^ s*2 ^ (32-s)=4294967296:=by rw[<-bG,show s+(32-s)=32 by omega]
  have h5:b.getD (m+1) 0<2 ^ (32-s):=by rw[<-h4,aT] at htops;exact fQ htops
  rw[<-h4,aT];exact aV _ h5
 have h6:=aV (4294967296 ^ (m+1)) h3;exact bC h2 h6
theorem top_pos{l:List Nat}(hd:dig l)(hl:l.length=m+2)(h:4294967296 ^ (m+1)<=val l):0<l.getD (m+1) 0:=by
 have e:l.take (m+2)=l:=aK (by omega);rw[<-e,F1] at h;have h1:=T8 hd (m+1) (by omega);rcases aU (l.getD (m+1) 0) with h0 | h0
 ·rw[h0] at h;omega
 ·exact h0
theorem top_ge{b:List Nat}(hlb:b.length=m+2)(htop:0<b.getD (m+1) 0):4294967296 ^ (m+1)<=val b:=by have e:b.take (m+2)=b:=aK (by omega);rw[<-e,F1];have:=aV (4294967296 ^ (m+1)) htop;omega
theorem BY4{P y c z q V V' T T':Nat}(h1:V'+P*x=V+P*z)(hdm:4294967296*q+z=x+y+c)(hv:V+P*c=T)(hT:T'=T+P*y):V'+P*4294967296*q=T':=by have:=congrArg (P*·) hdm;simp only[aJ] at this;rw[bF];omega
theorem div_end{A U q:Nat}(hb:0<b)(h:U+b*2 ^ s*q=A*2 ^ s)(hlt:U<b*2 ^ s):A / b=q/\A % b=U / 2 ^ s:=by
 have hps:0<2 ^ s:=bR (by omega);have e:A*2 ^ s=2 ^ s*A:=aT _ _;have e2:b*2 ^ s*q=2 ^ s*(b*q):=by grind
 rw[e,e2] at h;have hle:b*q<=A:=Nat.le_of_mul_le_mul_left (by omega:2 ^ s*(b*q)<=2 ^ s*A) hps;obtain⟨R,hR⟩:∃ R,A=b*q+R:=⟨A-b*q,by omega⟩;subst hR;rw[aJ] at h;have hU:U=2 ^ s*R:=by omega
 subst hU;have hRb:R<b:=by rw[aT b] at hlt;exact fQ hlt
 refine⟨?_,?_⟩
 ·rw[Nat.mul_add_div hb,eB hRb];omega
 ·rw[Nat.mul_add_mod,bJ hRb,Nat.mul_div_cancel_left _ hps]
end Go.Proofs.YtpgkacdihhjknaaGreat
