/-
  vec: pairs A range over a function whose loop variables lie in memory. Elements that the call changes in place. Vectors and matrices of rationals: plain. vec: combine, Add, AddScaled vec: Add, AddScaled vec: Dot, Compare, Equal vec: Compare, Equal vec: Resize, Unit, FromInts mat: Cols, row, At, size Further words of the walk: a scope without jumps; loops that leave marks; changes of known blocks. A matrix whose rows lie in blocks of their own, each changed in place. mat: the filler mat: Resize, Identity, Transpose, Concat mat: Concat, MulVec, VecMul, Mul mat: VecMul, Mul mat: rowPairs, Add, Equal, FromInts The references: Same and Is Digits of sixteen bits: plain. The references: integers The references: of, Least, From, Int, Ints, Cols The references: Least, From, Int, Ints, Cols What is handed in, opened: matrices and vectors of this program. What is handed in, opened: arguments that are structs or integers. Lines and networks: what values stand for them. vec.Scale frac: Div, Neg Elimination of rows: plain. Determinants: plain. Elimination of rows: how large the numbers grow; plain. solve: pivotRow, ignored
-/
import Derived.Test.YtfilidfomgfnhaaGreatG3
set_option linter.unusedVariables false
namespace Go.Proofs.YtfilidfomgfnhaaGreat
open Go Go.Kx Go.RowKit
theorem AC0:Ent Tryz.prog 128:=A0 Tryz.func128 (by kernel_rfl) rfl
theorem Z9 {w:World} {va vb:Value} {n n' c c':Nat} {a a':Option Addr} (ha:va=.slice a n c) (hb:vb=.slice a' n' c'):CR Tryz.prog 128 #[va,vb] w (fun v w'=>∃ b1 b2,v=.func (.func 189) #[] #[.pointer (some ⟨b1,0,none⟩),.pointer (some ⟨b2,0,none⟩)] ∧
  Blk w' b1 32 #[va]∧Blk w' b2 32 #[vb]∧w.heap.size≤b1∧w.heap.size≤b2):=by
 subst ha;subst hb
 refine enter Tryz.func128 rfl Tryz.ntmps128 rfl ?_
 refine .seq (.region ?_)
 refine .box rfl rfl fun w1 b1 n1=>?_
 obtain ⟨e1,k1,hb1,hs1⟩:=n1
 refine .box rfl rfl fun w2 b2 n2=>.asg rfl rfl (.nil ?_)
 obtain ⟨e2,k2,hb2,hs2⟩:=n2
 refine .seq (.region ?_)
 refine .mkf [] [_,_] rfl rfl rfl rfl (.asg rfl rfl (.nil (.ret ?_)))
 exact .plain [_] Tryz.results128 ⟨rfl,trivial⟩ ⟨e1.trans e2,b1,b2,rfl,k1.ext e2,k2,by omega,by have:=e1.size;omega⟩
theorem A9 {α:Type} {l:List α} {k:Nat} {z:α} (h:k<l.length):l[k]?=some (l.getD k z):=by
 rw [List.getD_eq_getElem?_getD,List.getElem?_eq_getElem h];rfl
theorem AQ5 {α:Type} {l:List α} {k:Nat} {z:α} (h:l.length≤k):l.getD k z=z:=by
 rw [List.getD_eq_getElem?_getD,List.getElem?_eq_none h];rfl
theorem AK6:Ent Tryz.prog 189:=A0 Tryz.func189 (by kernel_rfl) rfl
theorem AI9 {S:Nat→Prop} {a b:List QV} {esa esb:List Value} {va vb:Value} {b1 b2:Nat} (hla:a.length≤9223372036854775806) (hlb:b.length≤9223372036854775806):Iter Tryz.prog 189 #[.pointer (some ⟨b1,0,none⟩),.pointer (some ⟨b2,0,none⟩)] (max a.length b.length)
  (fun k=>[esa.getD k zq,esb.getD k zq]) (fun W=>Blk W b1 32 #[va]∧Blk W b2 32 #[vb]∧EsR eQ S W va esa a∧EsR eQ S W vb esb b):=by
 intro l J X stJ stX hF hy W hJ
 have hF0:=hF 0 W hJ
 refine enterG Tryz.func189 rfl Tryz.ntmps189 rfl ?_
 refine .seq (.region (.ld ty_V rfl rfl hF0.1 rfl (.lenR un_V rfl rfl (hF0.2.2.1.toR (hsz:=by decide)) (.ld ty_V rfl rfl hF0.2.1 rfl (.lenR un_V rfl rfl (hF0.2.2.2.toR (hsz:=by decide)) (.max_ rfl rfl rfl (.mv rfl rfl (.nil ?_))))))))
 refine .block (.loop (α:=Nat) (fun k=>[(12,.int .i64 (k:Nat)),(11,.int .i64 ((max a.length b.length:Nat):Int)),(0,.func (.yield l) #[] #[]),(1,.pointer (some ⟨b1,0,none⟩)),(2,.pointer (some ⟨b2,0,none⟩))]) (fun k W=>J k W∧k≤max a.length b.length) (fun k=>max a.length b.length-k) 0 ?_ ?_ ?_)
 ·refine A3 rfl (A3 ?_ (lkA rfl))
  show some (Value.int .i64 (max (a.length:Int) (b.length:Int)))=_
  rw [show (max (a.length:Int) (b.length:Int))=((max a.length b.length:Nat):Int) by omega]
 ·exact ⟨hJ,Nat.zero_le _⟩
 ·rintro k W ⟨hJ,hk⟩
  have hF:=hF k W hJ
  obtain ⟨hB1,hB2,hA,hB⟩:=hF
  by_cases hlt:k<max a.length b.length
  ·refine .seq (.region (.lssT rfl rfl rfl (by omega) (.nil (.seq (.condT rfl (.skip ?_))))))
   refine .seq (.block (.seq (.region (.mv rfl rfl (.asg rfl rfl (.nil (.seq (.region (.alloc rfl B7 fun w1 c5 n1=>.alloc rfl B7 fun w2 c6 n2=>.nil ?_)))))))))
   obtain ⟨e1,k5,hc5,hs1⟩:=n1
   obtain ⟨e2,k6,hc6,hs2⟩:=n2
   have x2:=e1.trans e2
   have k5:=k5.ext e2
   have hxa:=ER.lt eQ (hA.get zq_R k)
   have hxb:=ER.lt eQ (hB.get zq_R k)
   have hva:=shpA rfl hxa
   have hvb:=shpA rfl hxb
   refine .mid (α:=Unit) (fun _=>[(5,.pointer (some ⟨c5,0,none⟩)),(6,.pointer (some ⟨c6,0,none⟩)),(4,.int .i64 (k:Nat)),(12,.int .i64 (k:Nat)),(11,.int .i64 ((max a.length b.length:Nat):Int)),(0,.func (.yield l) #[] #[]),(1,.pointer (some ⟨b1,0,none⟩)),(2,.pointer (some ⟨b2,0,none⟩))])
    (fun _ W'=>Ext W W'∧Blk W' c5 55 (esa.getD k zq).cells∧Blk W' c6 55 zq.cells) ?_ ?_
   ·refine .seq (.region (.mv rfl rfl (.ld ty_V rfl rfl (hB1.ext x2) rfl (.lenR un_V rfl rfl ((hA.ext x2).toR (hsz:=by decide)) ?_))))
    by_cases hlt:k<a.length
    ·refine .lssT rfl rfl rfl (by omega) (.nil (.condT rfl (.region (.ld ty_V rfl rfl (hB1.ext x2) rfl (.mv rfl rfl ?_)))))
     refine .ixX un_V ty_Q rfl rfl (hA.ext x2) rfl (A9 (z:=zq) (by rw [hA.1.1];exact hlt)) fun p hp=>.ldX (E:=eQ) ty_Q rfl rfl hp (hxa.ext x2) ?_
     refine .storeA (E:=eQ) ty_Q rfl rfl k5 rfl rfl (hxa.ext x2) (fun h=>by have:=h.2;omega) fun w3 k3 u3 h3=>.nil ⟨rfl,(),?_,u3.below x2 (by omega),k3,k6.upd u3 (by omega)⟩
     exact lkA rfl
    ·refine .lssF rfl rfl rfl (by omega) (.nil (.condF rfl (.skip ⟨rfl,(),?_,x2,?_,k6⟩)))
     ·exact lkA rfl
     ·rw [AQ5 (by rw [hA.1.1];omega)];exact k5
   ·rintro _ W' ⟨x3,k5,k6⟩
    refine .mid (α:=Unit) (fun _=>[(5,.pointer (some ⟨c5,0,none⟩)),(6,.pointer (some ⟨c6,0,none⟩)),(12,.int .i64 (k:Nat)),(11,.int .i64 ((max a.length b.length:Nat):Int)),(0,.func (.yield l) #[] #[]),(1,.pointer (some ⟨b1,0,none⟩)),(2,.pointer (some ⟨b2,0,none⟩))])
     (fun _ W'=>Ext W W'∧Blk W' c5 55 (esa.getD k zq).cells∧Blk W' c6 55 (esb.getD k zq).cells) ?_ ?_
    ·refine .seq (.region (.mv rfl rfl (.ld ty_V rfl rfl (hB2.ext x3) rfl (.lenR un_V rfl rfl ((hB.ext x3).toR (hsz:=by decide)) ?_))))
     by_cases hlt:k<b.length
     ·refine .lssT rfl rfl rfl (by omega) (.nil (.condT rfl (.region (.ld ty_V rfl rfl (hB2.ext x3) rfl (.mv rfl rfl ?_)))))
      refine .ixX un_V ty_Q rfl rfl (hB.ext x3) rfl (A9 (z:=zq) (by rw [hB.1.1];exact hlt)) fun p hp=>.ldX (E:=eQ) ty_Q rfl rfl hp (hxb.ext x3) ?_
      refine .storeA (E:=eQ) ty_Q rfl rfl k6 rfl rfl (hxb.ext x3) (fun h=>by have:=h.2;omega) fun w3 k3 u3 h3=>.nil ⟨rfl,(),?_,u3.below x3 (by omega),k5.upd u3 (by omega),k3⟩
      exact lkA rfl
     ·refine .lssF rfl rfl rfl (by omega) (.nil (.condF rfl (.skip ⟨rfl,(),?_,x3,k5,?_⟩)))
      ·exact lkA rfl
      ·rw [AQ5 (by rw [hB.1.1];omega)];exact k6
    ·rintro _ W'' ⟨x4,k5,k6⟩
     refine .seq (.region (.mv rfl rfl (.ldA ty_Q rfl rfl k5 (eQ.csz hxa) (.ldA ty_Q rfl rfl k6 (eQ.csz hxb) ?_))))
     rw [←hva,←hvb]
     refine .yld (l:=l) [esa.getD k zq,esb.getD k zq] (R:=fun v w'=>(v=.bool true∧J (k+1) w')∨(v=.bool false∧X w')) rfl rfl rfl ?_ ?_
     ·refine YieldAt.mono (hy k _ hlt (stJ _ _ _ hJ x4)) ?_
      rintro e W' (⟨rfl,h⟩ | ⟨rfl,h⟩)
      ·exact ⟨_,rfl,.inl ⟨rfl,h⟩⟩
      ·exact ⟨_,rfl,.inr ⟨rfl,h⟩⟩
     ·rintro v w' (⟨rfl,h⟩ | ⟨rfl,h⟩)
      ·refine .not_ rfl rfl (.nil (.condF rfl (.skip (.region (.add rfl rfl rfl (.mv rfl rfl (.nil ?_)))))))
       rw [wI (by omega)]
       exact ⟨rfl,k+1,lkA rfl,⟨h,by omega⟩,by omega⟩
      ·refine .not_ rfl rfl (.nil (.condT rfl (.ret ?_)))
       exact .plain [] Tryz.results189 trivial (.inr h)
  ·refine .seq (.region (.lssF rfl rfl rfl (by omega) (.nil (.seq (.condF rfl (.exit ?_))))))
   refine .plain [] Tryz.results189 trivial ?_
   have:k=max a.length b.length:=by omega
   subst this;exact .inl hJ
end Go.Proofs.YtfilidfomgfnhaaGreat

namespace Go.Kx
open Go Go.RowKit
theorem WC.rangeA {P:Program} {N:Nat} {Q:Pst} {σ:Env} {ds:List Deferred} {w:World} {g:Operand} {ps:List Tmp} {assign body:Code} {gf:FuncId} {lb:Array Value} {n:Nat} {xs:Nat→List Value} {F:World→Prop}
  (hit:Iter P gf lb n xs F) (hg:ev σ g=some (.func (.func gf) #[] lb)) (hE:Ent P gf) (hps:∀ k,(xs k).length=ps.length) (hpN:∀ p∈ps,p<N)
  (J:Nat→World→Prop) (Jx:Code→World→Prop) (stJ:∀ k W W',J k W→Sft w.heap.size W W'→J k W') (stX:∀ c W W',Jx c W→Sft w.heap.size W W'→Jx c W') (hF:∀ k W,J k W→F W) (h0:J 0 w)
  (hbody:∀ l k W,k<n→J k W→w.heap.size≤W.heap.size→WC P (some l) N (thn (fun σ1 ds1 W1=>ds1=[]∧Ext W W1∧∀ W2,Sft w.heap.size W1 W2→W2.heap.size=W1.heap.size→WC P (some l) N (rnd (J (k+1)) Jx W2) body σ1 [] W2) (fun _ _ _ _=>False)) assign (penv ps (xs k) σ) [] W)
  (hdone:∀ W,J n W→W.heap[w.heap.size]?=some (.deferred (some []))→Q .normal σ ({ target:=.collected w.heap.size,args:=#[] }::ds) W)
  (hjump:∀ c W,Jx c W→W.heap[w.heap.size]?=some (.deferred (some []))→WC P none N Q c σ ({ target:=.collected w.heap.size,args:=#[] }::ds) W) :
  WC P none N Q (.rangeFunc g ps.toArray assign body) σ ds w:=by
 refine ⟨fun a ha=>wpIn_rangeFunc fun fn _=>?_⟩
 have hev:=ha.ev hg
 let rec0:Loop:={ state:=.ready,pending:=none,fn:=fn,tmps:=a.tmps,params:=ps.toArray,assign:=assign,body:=body,defers:=w.heap.size }
 refine ⟨w.heap.size+1,[{ target:=.collected w.heap.size,args:=#[] }],(w.alloc (.deferred (some []))).alloc (.loop rec0),{ target:=.fn (.func gf) lb,args:=#[.func (.yield (w.heap.size+1)) #[] #[]] },(w.alloc (.deferred (some []))).alloc (.loop rec0),gf,#[.func (.yield (w.heap.size+1)) #[] #[]]++lb,(w.alloc (.deferred (some []))).alloc (.loop rec0),
  run_enterLoop_outer fn a.tmps ps.toArray assign body,?_,fun _ _=>trivial,?_,(fun h=>(by cases h)),?_⟩
 ·simp only [resolve];rw [hev];simp [Deferred.ofValue,rec0];rfl
 ·simp [invoke,hE _ _]
 let l:=w.heap.size+1
 let D:=w.heap.size
 have hne:D≠l:=by show w.heap.size≠w.heap.size+1;omega
 let Jt:Nat→World→Prop:=fun k W=>J k W∧W.heap[l]?=some (.loop rec0)∧W.heap[D]?=some (.deferred (some []))
 let Xt:World→Prop:=fun W=>∃ c,Jx c W∧W.heap[l]?=some (.loop { rec0 with state:=.done,pending:=some c })∧W.heap[D]?=some (.deferred (some []))
 have hlt:∀ {W:World} {o:Obj},W.heap[l]?=some o→l<W.heap.size:=fun h=>(Array.getElem?_eq_some_iff.1 h).1
 have hlt':∀ {W:World} {o:Obj},W.heap[D]?=some o→D<W.heap.size:=fun h=>(Array.getElem?_eq_some_iff.1 h).1
 have hstart:Jt 0 ((w.alloc (.deferred (some []))).alloc (.loop rec0)):=by
  have e1:=P8 w (.deferred (some []))
  have e2:=P8 (w.alloc (.deferred (some []))) (.loop rec0)
  refine ⟨stJ 0 _ _ h0 (Sft.ext (e1.trans e2) (Nat.le_refl _)),?_,?_⟩
  ·have:=World.alloc_heap_new (w.alloc (.deferred (some []))) (.loop rec0)
   rwa [World.size_alloc] at this
  ·exact (e2.block D (by rw [World.size_alloc];show w.heap.size<w.heap.size+1;omega)).trans (World.alloc_heap_new w _)
 have hcall:=hit l Jt Xt
  (fun k W W' ⟨h1,h2,h3⟩ e=>⟨stJ k W W' h1 (Sft.ext e (Nat.le_of_lt (hlt' h3))),(e.block l (hlt h2)).trans h2,(e.block D (hlt' h3)).trans h3⟩)
  (fun W W' ⟨c,h1,h2,h3⟩ e=>⟨c,stX c W W' h1 (Sft.ext e (Nat.le_of_lt (hlt' h3))),(e.block l (hlt h2)).trans h2,(e.block D (hlt' h3)).trans h3⟩)
  (fun k W h=>hF k W h.1)
  (fun k W hk ⟨hJ,hl,hD⟩=>by
   refine ⟨fn,(ps.zip (xs k)).foldl (fun t p=>t.setIfInBounds p.1 p.2) a.tmps,assign,body,?_,?_⟩
   ·have:=run_yield (P:=P) (w:=W) (l:=l) (r:=rec0) (args:=(xs k).toArray) hl (by simp [rec0,hps])
    rw [this]
    simp [rec0]
   ·refine roundIn_of_wpIn trivial ?_
    have hag:Agr N (penv ps (xs k) σ) [] { tmps:=(ps.zip (xs k)).foldl (fun t p=>t.setIfInBounds p.1 p.2) a.tmps,defers:=[] } :=
     AF0 ps (xs k) σ a.tmps hpN ⟨ha.size,rfl,ha.slot⟩
    refine wpIn_mono ((hbody l k W hk hJ (Nat.le_of_lt (hlt' hD))).out _ hag) ?_
    rintro e a₁ w₁ ⟨σ1,ds1,hag1,hq⟩
    cases e with
    | normal =>
     obtain ⟨rfl,hx1,hb⟩:=hq
     have hl:=(Oth.ext hx1) l _ hl rfl
     have hD:=(Oth.ext hx1) D _ hD rfl
     have hput:(w₁.putObj l (.loop { rec0 with state:=.busy })).heap[l]?=some (.loop { rec0 with state:=.busy }):=World.putObj_heap_same (hlt hl)
     have hputD:(w₁.putObj l (.loop { rec0 with state:=.busy })).heap[D]?=some (.deferred (some [])):=by rw [World.putObj_heap_other hne];exact hD
     refine ⟨_,run_beginRound hl rfl,wpIn_mono ((hb _ (Sft.put (show D≤l by show w.heap.size≤w.heap.size+1;omega) hl rfl) (World.putObj_size ..)).out a₁ hag1) ?_⟩
     have hend:∀ (W':World) (j:Option Code),Oth (w₁.putObj l (.loop { rec0 with state:=.busy })) W' →
       (Instr.endRound l j).run P W'=.ok (.bool j.isNone) (W'.putObj l (.loop { rec0 with state:=if j.isNone then .ready else .done,pending:=j })) ∧
       Sft D W' (W'.putObj l (.loop { rec0 with state:=if j.isNone then .ready else .done,pending:=j })) ∧
       (W'.putObj l (.loop { rec0 with state:=if j.isNone then .ready else .done,pending:=j })).heap[l]?=some (.loop { rec0 with state:=if j.isNone then .ready else .done,pending:=j }) ∧
       (W'.putObj l (.loop { rec0 with state:=if j.isNone then .ready else .done,pending:=j })).heap[D]?=some (.deferred (some [])):=by
      intro W' j ho
      have h1:=ho l _ hput rfl
      have h2:=ho D _ hputD rfl
      refine ⟨run_endRound (r:={ rec0 with state:=.busy }) j h1,Sft.put (show D≤l by show w.heap.size≤w.heap.size+1;omega) h1 rfl,World.putObj_heap_same (hlt h1),?_⟩
      rw [World.putObj_heap_other hne];exact h2
     rintro e2 a₂ w₂ ⟨σ2,ds2,hag2,hq2⟩
     cases e2 with
     | normal =>
      obtain ⟨ho,hj⟩:=hq2
      obtain ⟨h1,h2,h3,h4⟩:=hend w₂ none ho
      exact ⟨_,_,h1,.inl ⟨rfl,stJ _ _ _ hj h2,h3,h4⟩⟩
     | ret =>
      obtain ⟨ho,hj⟩:=hq2
      obtain ⟨h1,h2,h3,h4⟩:=hend w₂ (some .ret) ho
      exact ⟨_,_,h1,.inr ⟨rfl,.ret,stX _ _ _ hj h2,h3,h4⟩⟩
     | exit id =>
      obtain ⟨ho,hj⟩:=hq2
      obtain ⟨h1,h2,h3,h4⟩:=hend w₂ (some (.exit id)) ho
      exact ⟨_,_,h1,.inr ⟨rfl,.exit id,stX _ _ _ hj h2,h3,h4⟩⟩
     | _=>exact hq2.elim
    | _=>exact hq.elim)
  _ hstart
 refine AE9.2 (hcall.mono ?_)
 have hag':Agr N σ ({ target:=.collected w.heap.size,args:=#[] }::ds) { tmps:=a.tmps,defers:=[{ target:=.collected w.heap.size,args:=#[] }]++a.defers }:=⟨ha.size,by rw [ha.defs];rfl,ha.slot⟩
 rintro e W ⟨v,rfl,hres⟩
 rcases hres with ⟨hJ,hl,hD⟩ | ⟨c,hX,hl,hD⟩
 ·refine ⟨none,_,run_endLoop hl (by simp [rec0]),?_⟩
  refine ⟨σ,_,hag',hdone _ (stJ _ _ _ hJ (Sft.put (show D≤l by show w.heap.size≤w.heap.size+1;omega) hl rfl)) ?_⟩
  rw [World.putObj_heap_other hne];exact hD
 ·refine ⟨some c,_,run_endLoop hl (by simp),?_⟩
  refine (hjump c _ (stX _ _ _ hX (Sft.put (show D≤l by show w.heap.size≤w.heap.size+1;omega) hl rfl)) ?_).out _ hag'
  rw [World.putObj_heap_other hne];exact hD
end Go.Kx

namespace Go.Kx
open Go Go.RowKit
/-- the block g holds the elements l; their own memory is S's, and not g -/
def FB {α:Type} (E:ER α) (t:TypeId) (S:Nat→Prop) (w:World) (g:Nat) (l:List α):Prop :=
 ∃ es,Blk w g t (cellsOf es).toArray∧Els E (fun k=>S k∧k≠g) w es l
theorem AB6 {sz:Nat} (hsz:0<sz) (es:List Value) (i:Nat) (v:Value) (hs:∀ e∈es,e.cells.size=sz) (hv:v.cells.size=sz) (hi:i<es.length) :
  wrt (cellsOf es).toArray (i*sz) v.cells.toList=(cellsOf (es.set i v)).toArray:=by
 have hs':∀ e∈es.set i v,e.cells.size=sz:=fun e he=>by
  rcases List.mem_or_eq_of_mem_set he with h | h
  ·exact hs e h
  ·rw [h];exact hv
 have hl:=B9 es hs
 have hl':=B9 (es.set i v) hs'
 rw [List.length_set] at hl'
 have hle:i*sz+sz≤es.length*sz:=by rw [←Nat.succ_mul];exact Nat.mul_le_mul_right _ hi
 apply Array.ext_getElem?
 intro j
 rw [AN0 _ _ _ _ (by simp only [Array.length_toList,hv,List.size_toArray,hl];exact hle)]
 simp only [Array.length_toList,hv,List.getElem?_toArray,Array.getElem?_toList]
 rcases Nat.lt_or_ge j (es.length*sz) with hj | hj
 ·have hq:j / sz<es.length:=(Nat.div_lt_iff_lt_mul hsz).2 hj
  have hr:j % sz<sz:=Nat.mod_lt _ hsz
  have hjd:(j / sz)*sz+j % sz=j:=by rw [Nat.mul_comm];exact Nat.div_add_mod j sz
  by_cases he:j / sz=i
  ·have h1:i*sz≤j∧j<i*sz+sz:=by rw [he] at hjd;omega
   rw [if_pos h1]
   have h2:(es.set i v)[i]?=some v:=by rw [List.getElem?_set_self hi]
   have:=C7 (es.set i v) i (j % sz) v hs' h2 hr
   rw [he] at hjd
   rw [hjd] at this
   rw [this]
   congr 1;omega
  ·have h1:¬ (i*sz≤j∧j<i*sz+sz):=by
    intro ⟨ha,hb⟩
    apply he
    have h3:i≤j / sz:=(Nat.le_div_iff_mul_le hsz).2 ha
    have h4:j / sz<i+1:=(Nat.div_lt_iff_lt_mul hsz).2 (by rw [Nat.succ_mul];exact hb)
    omega
   rw [if_neg h1]
   obtain ⟨e,hee⟩:∃ e,es[j / sz]?=some e:=⟨_,List.getElem?_eq_getElem hq⟩
   have g1:=C7 es (j / sz) (j % sz) e hs hee hr
   have g2:=C7 (es.set i v) (j / sz) (j % sz) e hs' (by rw [List.getElem?_set_ne (fun h=>he h.symm)];exact hee) hr
   rw [hjd] at g1 g2
   rw [g1,g2]
 ·rw [if_neg (by omega),List.getElem?_eq_none (by omega),List.getElem?_eq_none (by omega)]
section
variable {α:Type} {E:ER α} {t:TypeId} {S:Nat→Prop} {w w':World} {g:Nat} {l:List α}
theorem FB.lt (h:FB E t S w g l):g<w.heap.size:=by obtain ⟨es,hb,_⟩:=h;exact hb.lt
theorem FB.kp (h:FB E t S w g l) (hk:Kp (fun _=>True) w w'):FB E t S w' g l:=by
 obtain ⟨es,hb,he⟩:=h
 exact ⟨es,hk.blk trivial hb,he.keep fun k c t f _ hc=>hk k c t f trivial hc⟩
theorem FB.ext (h:FB E t S w g l) (e:Ext w w'):FB E t S w' g l:=h.kp (Kp.ext e)
theorem FB.upd {b:Nat} (h:FB E t S w g l) (u:Upd w w' b) (hne:g≠b) (hS:¬ S b):FB E t S w' g l:=by
 obtain ⟨es,hb,he⟩:=h
 exact ⟨es,hb.upd u hne,he.keep (Kp.upd u fun h=>hS h.1)⟩
theorem FB.mono {S':Nat→Prop} (h:FB E t S w g l) (hk:∀ k,k<w.heap.size→S k→S' k):FB E t S' w g l:=by
 obtain ⟨es,hb,he⟩:=h
 exact ⟨es,hb,he.1,fun i e x h1 h2=>E.mono (fun k hl hh=>⟨hk k hl hh.1,hh.2⟩) (he.2 i e x h1 h2)⟩
theorem FB.made {c:Nat} {z:Value} {z0:α} (hn:New w w' g t (cellsOf (List.replicate c z)).toArray) (hz:E.R (fun k=>S k∧k≠g) w' z z0):FB E t S w' g (List.replicate c z0):=by
 refine ⟨List.replicate c z,hn.2.1,by simp,fun i e x he hx=>?_⟩
 have h1:e=z:=by
  have:=List.mem_iff_getElem?.2 ⟨i,he⟩
  exact (List.mem_replicate.1 this).2
 have h2:x=z0:=by
  have:=List.mem_iff_getElem?.2 ⟨i,hx⟩
  exact (List.mem_replicate.1 this).2
 subst h1;subst h2;exact hz
theorem FB.toR {hsz:0<E.sz} {c:Nat} (h:FB E t S w g l) (hS:S g) (hc:l.length≤c) (hm:l.length≤9223372036854775807):(RL E hsz).R S w (.slice (some ⟨g,0,none⟩) l.length c) l:=by
 obtain ⟨es,hb,he⟩:=h
 exact RL.ofBlk hb hS ⟨he.1,fun i e x h1 h2=>E.mono (fun k _ hh=>hh.1) (he.2 i e x h1 h2)⟩ (fun j u hu=>by rw [List.getElem?_toArray];exact hu) hc hm
end
section
variable {P:Program} {ro:Option Nat} {N:Nat} {ds:List Deferred} {ops:Array Oper} {K:Env→World→Prop} {rest:List Oper} {σ:Env} {w:World} {d:Tmp} {ty:TypeId} {pos:String} {af:Array Edge} {α:Type} {E:ER α} {S:Nat→Prop}
theorem AA9 {dd:Option Tmp} {gd:Option (Nat×Bool)} {t t':TypeId} {x y:Operand} {g i o n:Nat} {a:Bool} {l:List α} {v:Value} {z:α} (hsz:0<E.sz) (ht:tyOf P t=some (a,n)) (hx:ev σ x=some (.pointer (some ⟨g,o,none⟩))) (hy:ev σ y=some v) (hb:FB E t' S w g l)
  (hn:E.sz=n) (hi:i<l.length) (ho:o=i*E.sz) (hz:E.R (fun k=>S k∧k≠g) w v z) :
  Gv P ⟨dd,.store t x y,ty,pos,af,gd⟩ σ w fun _ w'=>FB E t' S w' g (l.set i z)∧Upd w w' g:=by
 obtain ⟨es,hB,he⟩:=hb
 have hcs:=E.csz hz
 subst ho
 have hl:=B9 es he.sz
 have hie:i<es.length:=by rw [he.1];exact hi
 have hle:i*E.sz+n≤(cellsOf es).toArray.size:=by
  rw [List.size_toArray,hl,←hn,←Nat.succ_mul];exact Nat.mul_le_mul_right _ hie
 refine (I8 ht hx hy hB (by omega) hle (E.one hz)).mono ?_
 rintro _ w' ⟨hB',u⟩
 rw [AB6 hsz es i v he.sz hcs hie] at hB'
 refine ⟨⟨es.set i v,hB',?_⟩,u⟩
 have:=Els.set he i hz
 exact this.keep (Kp.upd u fun h=>h.2 rfl)
theorem WL.storeF {t t':TypeId} {x y:Operand} {g i o n:Nat} {a:Bool} {l:List α} {v:Value} {z:α} (hsz:0<E.sz) (ht:tyOf P t=some (a,n)) (hx:ev σ x=some (.pointer (some ⟨g,o,none⟩))) (hy:ev σ y=some v) (hb:FB E t' S w g l)
  (hn:E.sz=n) (hi:i<l.length) (ho:o=i*E.sz) (hz:E.R (fun k=>S k∧k≠g) w v z) (k:∀ w',FB E t' S w' g (l.set i z)→Upd w w' g→WL P ro N ds ops K rest σ w') :
  WL P ro N ds ops K (⟨none,.store t x y,ty,pos,af,none⟩::rest) σ w :=
 WL.gv rfl rfl (AA9 hsz ht hx hy hb hn hi ho hz) fun _ w' ⟨h1,h2⟩=>k w' h1 h2
end
/-- filled up to i -/
def fil {α:Type} (n i:Nat) (f:Nat→α) (z:α):List α:=(List.range n).map fun j=>if j<i then f j else z
theorem H7 {α:Type} (n:Nat) (f:Nat→α) (z:α):fil n 0 f z=List.replicate n z:=by
 unfold fil
 simp [List.map_const']
theorem N2 {α:Type} (n:Nat) (f:Nat→α) (z:α):fil n n f z=(List.range n).map f:=by
 unfold fil
 apply List.map_congr_left
 intro j hj
 rw [if_pos (List.mem_range.1 hj)]
theorem D6 {α:Type} (n i:Nat) (f:Nat→α) (z:α):(fil n i f z).length=n:=by simp [fil]
theorem I9 {α:Type} (n i:Nat) (f:Nat→α) (z:α):(fil n i f z).set i (f i)=fil n (i+1) f z:=by
 apply List.ext_getElem?
 intro j
 unfold fil
 rw [List.getElem?_set]
 by_cases hj:i=j
 ·subst hj
  by_cases h:i<n
  ·simp [h]
  ·simp [h]
 ·rw [if_neg hj,List.getElem?_map,List.getElem?_map]
  by_cases h:j<n
  ·simp only [List.getElem?_range h,Option.map_some]
   by_cases h1:j<i
   ·simp [h1,show j<i+1 by omega]
   ·simp [h1,show ¬ j<i+1 by omega]
  ·rw [List.getElem?_eq_none (by simpa using h)];rfl
end Go.Kx

namespace Go.Kx
/-- a rational whose words and value are small -/
def qk (L:Nat) (q:QV):Prop:=qok L q∧Rsz (qval q) L
theorem qk.mono {q:QV} {L M:Nat} (h:qk L q) (hl:L≤M):qk M q:=⟨h.1.mono hl,h.2.mono hl⟩
theorem O6 {r:Rat} {L:Nat} (h:Rsz r L):qk L (qc r):=⟨h.toOk,by rw [A8];exact h⟩
theorem At8 {L:Nat} (hL:1≤L):qk L q0:=by rw [←O2];exact O6 (Rsz.zero hL)
def vk (L:Nat) (a:List QV):Prop:=∀ q∈a,qk L q
def mk_ (L:Nat) (m:List (List QV)):Prop:=∀ r∈m,vk L r
theorem vk.mono {a:List QV} {L M:Nat} (h:vk L a) (hl:L≤M):vk M a:=fun q hq=>(h q hq).mono hl
theorem mk_.mono {a:List (List QV)} {L M:Nat} (h:mk_ L a) (hl:L≤M):mk_ M a:=fun q hq=>(h q hq).mono hl
theorem AA6 {α:Type} {P:α→Prop} {l:List α} {z:α} (h:∀ x∈l,P x) (hz:P z) (k:Nat):P (l.getD k z):=by
 rw [List.getD_eq_getElem?_getD]
 cases hk:l[k]? with
 | none=>exact hz
 | some x=>exact h x (List.mem_iff_getElem?.2 ⟨k,hk⟩)
theorem vk.get {a:List QV} {L:Nat} (h:vk L a) (hL:1≤L) (k:Nat):qk L (a.getD k q0):=AA6 h (At8 hL) k
theorem Ar7 {L:Nat}:vk L []:=fun q hq=>by cases hq
theorem mk_.get {a:List (List QV)} {L:Nat} (h:mk_ L a) (k:Nat):vk L (a.getD k []):=AA6 h Ar7 k
/-- element k -/
def rv (a:List QV) (k:Nat):Rat:=qval (a.getD k q0)
def rm (m:List (List QV)) (i k:Nat):Rat:=rv (m.getD i []) k
theorem AE2 {a:List QV} {k:Nat} (h:a.length≤k):rv a k=0:=by
 unfold rv
 rw [List.getD_eq_getElem?_getD,List.getElem?_eq_none h];exact Am6
theorem AY0 (k:Nat):rv [] k=0:=AE2 (Nat.zero_le _)
theorem rm_out {m:List (List QV)} {i k:Nat} (h:m.length≤i):rm m i k=0:=by
 unfold rm
 rw [List.getD_eq_getElem?_getD,List.getElem?_eq_none h];exact AY0 k
theorem vk.rsz {a:List QV} {L:Nat} (h:vk L a) (hL:1≤L) (k:Nat):Rsz (rv a k) L:=(h.get hL k).2
theorem mk_.rsz {m:List (List QV)} {L:Nat} (h:mk_ L m) (hL:1≤L) (i k:Nat):Rsz (rm m i k) L:=(h.get i).rsz hL k
/-- the vector of n elements f -/
def tab (n:Nat) (f:Nat→Rat):List QV:=(List.range n).map fun k=>qc (f k)
def tabM (n c:Nat) (f:Nat→Nat→Rat):List (List QV):=(List.range n).map fun i=>tab c (f i)
theorem A1 (n:Nat) (f:Nat→Rat):(tab n f).length=n:=by simp [tab]
theorem A5 (n c:Nat) (f:Nat→Nat→Rat):(tabM n c f).length=n:=by simp [tabM]
theorem J3 (n:Nat) (f:Nat→Rat) (k:Nat):rv (tab n f) k=if k<n then f k else 0:=by
 unfold rv tab
 by_cases h:k<n
 ·rw [if_pos h,List.getD_eq_getElem?_getD,List.getElem?_map,List.getElem?_range h]
  exact A8 _
 ·rw [if_neg h,List.getD_eq_getElem?_getD,List.getElem?_eq_none (by simpa using h)]
  exact Am6
theorem Ap1 (n c:Nat) (f:Nat→Nat→Rat) (i:Nat):(tabM n c f).getD i []=if i<n then tab c (f i) else []:=by
 unfold tabM
 by_cases h:i<n
 ·rw [if_pos h,List.getD_eq_getElem?_getD,List.getElem?_map,List.getElem?_range h];rfl
 ·rw [if_neg h,List.getD_eq_getElem?_getD,List.getElem?_eq_none (by simpa using h)];rfl
theorem AG4 (n c:Nat) (f:Nat→Nat→Rat) (i k:Nat):rm (tabM n c f) i k=if i<n∧k<c then f i k else 0:=by
 unfold rm
 rw [Ap1]
 by_cases h:i<n
 ·rw [if_pos h,J3];simp [h]
 ·rw [if_neg h,AY0,if_neg (by omega)]
theorem Q0 {n L:Nat} {f:Nat→Rat} (h:∀ k,k<n→Rsz (f k) L):vk L (tab n f):=by
 intro q hq
 obtain ⟨k,hk,rfl⟩:=List.mem_map.1 hq
 exact O6 (h k (List.mem_range.1 hk))
theorem AN3 {n c L:Nat} {f:Nat→Nat→Rat} (h:∀ i k,i<n→k<c→Rsz (f i k) L):mk_ L (tabM n c f):=by
 intro r hr
 obtain ⟨i,hi,rfl⟩:=List.mem_map.1 hr
 exact Q0 fun k hk=>h i k (List.mem_range.1 hi) hk
/-- a sum of n terms -/
def sumN:Nat→(Nat→Rat)→Rat
 | 0,_=>0
 | n+1,f=>sumN n f+f n
theorem A7 {n:Nat} {f g:Nat→Rat} (h:∀ k,k<n→f k=g k):sumN n f=sumN n g:=by
 induction n with
 | zero=>rfl
 | succ n ih=>rw [sumN,sumN,ih fun k hk=>h k (by omega),h n (by omega)]
theorem AV6 (n:Nat):sumN n (fun _=>0)=0:=by
 induction n with
 | zero=>rfl
 | succ n ih=>rw [sumN,ih];grind
theorem L2 {n:Nat} {f:Nat→Rat} (h:∀ k,k<n→f k=0):sumN n f=0:=by rw [A7 h,AV6]
theorem AP6 (n:Nat) (f g:Nat→Rat):sumN n (fun k=>f k+g k)=sumN n f+sumN n g:=by
 induction n with
 | zero=>simp only [sumN];grind
 | succ n ih=>rw [sumN,sumN,sumN,ih];grind
theorem Q7 (n:Nat) (c:Rat) (f:Nat→Rat):sumN n (fun k=>c*f k)=c*sumN n f:=by
 induction n with
 | zero=>simp [sumN]
 | succ n ih=>rw [sumN,sumN,ih];grind
theorem AJ3 (n:Nat) (c:Rat) (f:Nat→Rat):sumN n (fun k=>f k*c)=sumN n f*c:=by
 induction n with
 | zero=>simp [sumN]
 | succ n ih=>rw [sumN,sumN,ih];grind
theorem V4 (m n:Nat) (f:Nat→Nat→Rat):sumN m (fun i=>sumN n (fun k=>f i k))=sumN n (fun k=>sumN m (fun i=>f i k)):=by
 induction m with
 | zero=>simp [sumN,AV6]
 | succ m ih=>simp only [sumN];rw [ih,←AP6]
/-- terms beyond n that are 0 -/
theorem As9 {n m:Nat} {f:Nat→Rat} (hnm:n≤m) (h:∀ k,n≤k→k<m→f k=0):sumN m f=sumN n f:=by
 induction m with
 | zero=>rw [show n=0 by omega]
 | succ m ih =>
  by_cases e:n=m+1
  ·rw [e]
  ·rw [sumN,ih (by omega) fun k h1 h2=>h k h1 (by omega),h m (by omega) (by omega)]
   grind
theorem J2 {n i:Nat} {f:Nat→Rat} (h:∀ k,k<n→k≠i→f k=0):sumN n f=if i<n then f i else 0:=by
 induction n with
 | zero=>simp [sumN]
 | succ n ih =>
  rw [sumN,ih fun k h1 h2=>h k (by omega) h2]
  by_cases h1:i<n
  ·rw [if_pos h1,if_pos (by omega),h n (by omega) (by omega)];grind
  ·rw [if_neg h1]
   by_cases h2:i=n
   ·subst h2;rw [if_pos (by omega)];grind
   ·rw [if_neg (by omega),h n (by omega) (fun e=>h2 e.symm)];grind
theorem Q6 {n L:Nat} {f:Nat→Rat} (h:∀ k,k<n→Rsz (f k) L):Rsz (sumN n f) (1+n*(L+1)):=by
 induction n with
 | zero=>exact Rsz.zero (by omega)
 | succ n ih =>
  rw [sumN]
  exact ((ih fun k hk=>h k (by omega)).add (h n (by omega))).mono (by rw [Nat.succ_mul];omega)
end Go.Kx

namespace Go.Proofs.YtfilidfomgfnhaaGreat
open Go Go.Kx Go.RowKit
theorem ty_F2:tyOf Tryz.prog 65=some (false,1):=by kernel_rfl
theorem Ax5 {x y z u:Value}:bslOf Tryz.prog 32 1 [(0,.agg #[x,y,z,u])]=some (55,#[x,y,z,u]):=by kernel_rfl
/-- elements on their way into a row -/
structure CmbJ (w0:World) (S:Nat→Prop) (b5 b7 p1 p2:Nat) (fv va vb:Value) (L:Nat→List QV) (k:Nat) (W:World):Prop where
 low:Below w0.heap.size w0 W
 f:Blk W b5 65 #[fv]
 k1:Blk W p1 32 #[va]
 k2:Blk W p2 32 #[vb]
 acc:∃ v,Blk W b7 32 #[v]∧OwnL eQ 55 w0.heap.size (fun k=>S k∧k≠b7) W v (L k)
theorem CmbJ.sft {w0:World} {S:Nat→Prop} {b5 b7 p1 p2:Nat} {fv va vb:Value} {L:Nat→List QV} {k D:Nat} {W W':World} (h:CmbJ w0 S b5 b7 p1 p2 fv va vb L k W) (hs:Sft D W W') (hD:w0.heap.size≤D):CmbJ w0 S b5 b7 p1 p2 fv va vb L k W':=by
 obtain ⟨v,h1,h2⟩:=h.acc
 exact ⟨h.low.trans (hs.below.mono hD),hs.cells.blk trivial h.f,hs.cells.blk trivial h.k1,hs.cells.blk trivial h.k2,v,hs.cells.blk trivial h1,h2.kp hs.cells⟩
theorem AU4:Ent Tryz.prog 253:=A0 Tryz.func253 (by kernel_rfl) rfl
theorem AS8 {S:Nat→Prop} {w:World} {va vb:Value} {a b:List QV} {f:FuncId} {cap:Array Value} {g:Nat→QV} (up:Up S w) (ha:eV.R S w va a) (hb:eV.R S w vb b) (hla:a.length≤1000000000) (hlb:b.length≤1000000000) (hE:Ent Tryz.prog f)
  (hf:∀ (W:World) (T:Nat→Prop) (i:Nat) (x y:Value),Below w.heap.size w W→(∀ k,S k→k<w.heap.size→T k)→Up T W→i<max a.length b.length→eQ.R T W x (a.getD i q0)→eQ.R T W y (b.getD i q0)→CR Tryz.prog f ([x,y].toArray++cap) W (eQ.at T (g i))) :
  CR Tryz.prog 253 #[va,vb,.func (.func f) #[] cap] w (eV.at S ((List.range (max a.length b.length)).map g)):=by
 obtain ⟨aa,ca,hva,_⟩:=RL.len ha
 obtain ⟨ab,cb,hvb,_⟩:=RL.len hb
 obtain ⟨esa,hA⟩:=RL.toEs ha
 obtain ⟨esb,hB⟩:=RL.toEs hb
 have hA0:=hA.mono (S':=fun k=>S k∧k<w.heap.size) (by decide) (fun k hk hs=>⟨hs,hk⟩)
 have hB0:=hB.mono (S':=fun k=>S k∧k<w.heap.size) (by decide) (fun k hk hs=>⟨hs,hk⟩)
 have hAB:∀ {W:World},Below w.heap.size w W→EsR eQ (fun k=>S k∧k<w.heap.size) W va esa a∧EsR eQ (fun k=>S k∧k<w.heap.size) W vb esb b:=fun hL=>⟨hA0.keep (fun k c t f hk h=>(hL.block k hk.2).trans h),hB0.keep (fun k c t f hk h=>(hL.block k hk.2).trans h)⟩
 generalize hfv:Value.func (.func f) #[] cap=fv
 have hfv1:fv.cells=#[fv]:=by rw [←hfv];rfl
 have hfv2:one1 fv=true:=by rw [←hfv];rfl
 refine enter Tryz.func253 rfl Tryz.ntmps253 rfl ?_
 refine .seq (.region (.box rfl rfl fun w1 b5 n1=>.asg rfl rfl (.nil ?_)))
 obtain ⟨e1,k5,hb5,hs1⟩:=n1
 rw [hfv1] at k5
 refine .seq (.region (.mv rfl rfl (.lenR un_V rfl rfl (ha.ext e1) (.mv rfl rfl (.lenR un_V rfl rfl (hb.ext e1) (.max_ rfl rfl rfl ?_))))))
 rw [show (max (a.length:Int) (b.length:Int))=((max a.length b.length:Nat):Int) by omega]
 refine .make_ 0 _ un_V K4 rfl (by decide) rfl rfl rfl (Nat.zero_le _) (by omega) (by omega) fun w2 b2 n2=>?_
 have o2:∀ {X:Nat→Prop},OwnL eQ 55 w.heap.size X w2 (.slice (some ⟨b2,0,none⟩) 0 (max a.length b.length)) []:=fun {X}=>OwnL.made (by rfl) n2 (by omega) (by omega)
 obtain ⟨e2,k2,hb2,hs2⟩:=n2
 refine .alloc rfl zero_V fun w3 b7 n3=>?_
 obtain ⟨e3,k7,hb7,hs3⟩:=n3
 refine .store ty_V rfl rfl k7 rfl (by simp [Value.cells]) (by simp [one1,Value.cells]) fun w4 k7' u4=>.nil ?_
 have x3:=(e1.trans e2).trans e3
 have x4:Ext w w4:=u4.below x3 (by omega)
 have k5:=((k5.ext e2).ext e3).upd u4 (show b5≠b7 by omega)
 have o4:=((o2 (X:=fun k=>S k∧k≠b7)).ext e3).upd u4 k7 (by decide) (fun h=>h.2 rfl)
 refine .seq (.seq (.region (.mv rfl rfl (.mv rfl rfl ?_))))
 refine .call _ rfl AC0 rfl (Z9 hva hvb) fun v5 w5 e5 h5=>.nil ?_
 obtain ⟨p1,p2,rfl,kp1,kp2,hp1,hp2⟩:=h5
 have x5:=x4.trans e5
 have hs4:w4.heap.size=w3.heap.size:=u4.size
 have hs5:=e5.size
 refine .block (.rangeA (AI9 (S:=fun k=>S k∧k<w.heap.size) (a:=a) (b:=b) (esa:=esa) (esb:=esb) (va:=va) (vb:=vb) (by omega) (by omega)) rfl AK6 (fun k=>rfl) (by decide)
  (CmbJ w S b5 b7 p1 p2 fv va vb fun k=>(List.range k).map g) (fun _ _=>False) (fun k W W' h hs=>h.sft hs x5.size) (fun _ _ _ h _=>h.elim) (fun k W h=>⟨h.k1,h.k2,hAB h.low⟩) ?_ ?_ ?_ (fun _ _ h=>h.elim))
 ·exact ⟨x5,k5.ext e5,kp1,kp2,_,k7'.ext e5,o4.ext e5⟩
 ·intro l k W hk hJ hsz
  obtain ⟨hA1,hB1⟩:=hAB hJ.low
  have hxa:=hA1.get zq_R k
  have hxb:=hB1.get zq_R k
  have hva':=shpA rfl hxa
  have hvb':=shpA rfl hxb
  have hlw:=hJ.low.size
  obtain ⟨hlow,hf5,hp15,hp25,v,h7,ho⟩:=hJ
  have hown:∀ k,v.ownBlock=some k→k<W.heap.size:=by
   obtain ⟨es,ho1,ho2⟩:=ho
   exact fun k hk=>(ho1.lt k hk).2
  refine .seq (.region (.alloc rfl B7 fun W1 c8 n8=>?_))
  obtain ⟨e8,k8,hc8,hs8⟩:=n8
  refine .storeA (E:=eQ) ty_Q rfl rfl k8 rfl rfl (hxa.ext e8) (fun h=>by have:=h.2;omega) fun W2 k8 u8 _=>.nil ?_
  have x8:Ext W W2:=u8.below e8 (by omega)
  refine .region (.alloc rfl B7 fun W3 c9 n9=>?_)
  obtain ⟨e9,k9,hc9,hs9⟩:=n9
  have hs8':=u8.size
  refine .storeA (E:=eQ) ty_Q rfl rfl k9 rfl rfl ((hxb.ext x8).ext e9) (fun h=>by have:=h.2;omega) fun W4 k9 u9 _=>.nil ?_
  have x9:Ext W W4:=u9.below (x8.trans e9) (by omega)
  have k8:=(k8.ext e9).upd u9 (show c8≠c9 by omega)
  refine ⟨rfl,x9,fun W5 hsf hsz5=>?_⟩
  have k8:=hsf.cells.blk trivial k8
  have k9:=hsf.cells.blk trivial k9
  clear hxa hxb hA1 hB1
  have hlow:Below w.heap.size w W5:=(hlow.trans (x9.mono hlw)).trans (hsf.below.mono x5.size)
  have hf5:=hsf.cells.blk trivial (hf5.ext x9)
  have hp15:=hsf.cells.blk trivial (hp15.ext x9)
  have hp25:=hsf.cells.blk trivial (hp25.ext x9)
  have h7:=hsf.cells.blk trivial (h7.ext x9)
  have ho:=(ho.ext x9).kp hsf.cells
  obtain ⟨hA1,hB1⟩:=hAB hlow
  have hxa:=hA1.get zq_R k
  have hxb:=hB1.get zq_R k
  have hlw5:=hlow.size
  have hb7lt:=h7.lt
  obtain ⟨ao,co,hvo⟩:=ho.slice
  refine .block (.held follows true (fun W'=>Blk W' b7 32 #[v]∧Blk W' b5 65 #[fv]∧Blk W' c8 55 (esa.getD k zq).cells∧Blk W' c9 55 (esb.getD k zq).cells)
   [some v,some fv,some (esa.getD k zq),some (esb.getD k zq),none,none,none,none] (by kernel_rfl)
   ⟨fun _ h=>v_ld ty_V rfl h.1 rfl,fun _ h=>v_ld ty_F2 rfl h.2.1 rfl,fun _ h=>(B8 ty_Q rfl h.2.2.1 (eQ.csz hxa)).eq hva'.symm,fun _ h=>(B8 ty_Q rfl h.2.2.2 (eQ.csz hxb)).eq hvb'.symm,trivial⟩ ?_)
  intro W6 e6 hh6
  have hlow6:Below w.heap.size w W6:=hlow.trans (e6.mono hlow.size)
  have h7:=h7.ext e6
  have hf5:=hf5.ext e6
  have hp15:=hp15.ext e6
  have hp25:=hp25.ext e6
  have k8:=k8.ext e6
  have k9:=k9.ext e6
  have ho:=ho.ext e6
  have hxa:=hxa.ext e6
  have hxb:=hxb.ext e6
  have hs6:=e6.size
  obtain ⟨es,ho1,ho2⟩:=id ho
  have hT0:∀ k,S k→k<w.heap.size→(S k∧k≠b7)∧v.ownBlock≠some k:=fun k hk hlt=>⟨⟨hk,by omega⟩,fun h=>by have:=(ho1.lt k h).1;omega⟩
  have hcall:=hf W6 (fun k=>(S k∧k≠b7)∧v.ownBlock≠some k) k (esa.getD k zq) (esb.getD k zq) hlow6 hT0 (fun k hk=>⟨⟨up k (by omega),by omega⟩,fun h=>by have:=(ho1.lt k h).2;omega⟩) hk
   (eQ.mono (fun k _ hk=>hT0 k hk.1 hk.2) hxa) (eQ.mono (fun k _ hk=>hT0 k hk.1 hk.2) hxb)
  subst hfv
  refine .gv ⟨h7,hf5,k8,k9⟩ rfl (Y5 [_,_] rfl hE rfl hcall) ?_
  rintro vr W7 ⟨e7,hr⟩
  have hr':=hr
  obtain ⟨s,t,rfl,_,_⟩:=hr'
  refine .gv ⟨h7.ext e7,hf5.ext e7,k8.ext e7,k9.ext e7⟩ rfl (AQ6 _ rfl Ax5) ?_
  rintro _ W8 ⟨b8,rfl,n8⟩
  obtain ⟨e8,kb8,hb8,hs8⟩:=n8
  have e78:=e7.trans e8
  have hlow8:Below w.heap.size w W8:=hlow6.trans (e78.mono hlow6.size)
  have ho8:=ho.ext e78
  refine .gv ⟨h7.ext e78,hf5.ext e78,k8.ext e78,k9.ext e78⟩ rfl (AQ8 (base:=w.heap.size) (by decide) un_V K4 rfl rfl rfl ho8 kb8 (hr.ext e8) (by simp;omega) (by decide) hlow8.size) ?_
  rintro v9 W9 ⟨ho9,hg9⟩
  have h79:=ho8.gblk hg9 (h7.ext e78) (by decide)
  have hf9:=ho8.gblk hg9 (hf5.ext e78) (by decide)
  have hp19:=ho8.gblk hg9 (hp15.ext e78) (by decide)
  have hp29:=ho8.gblk hg9 (hp25.ext e78) (by decide)
  have hlow9:=ho8.below hg9 hlow8 hlow8.size
  have oth9:Oth W5 W9:=((Oth.ext e6).trans (Oth.ext e78)).trans (ho8.oth hg9)
  obtain ⟨a9,c9',hv9⟩:=ho9.slice
  have hg8:Blk W9 c8 55 (esa.getD k zq).cells:=(hg9.block c8 (k8.ext e78).lt (fun e=>by have:=hown _ e.symm;omega)).trans (k8.ext e78)
  have hg9':Blk W9 c9 55 (esb.getD k zq).cells:=(hg9.block c9 (k9.ext e78).lt (fun e=>by have:=hown _ e.symm;omega)).trans (k9.ext e78)
  refine .gv ⟨h79,hf9,hg8,hg9'⟩ rfl (I8 ty_V rfl rfl h79 (by rw [hv9];rfl) (by simp) (by rw [hv9];simp [one1,Value.cells])) ?_
  rintro _ W10 ⟨k10,u10⟩
  refine .nil (.inl rfl) ?_
  have k10:Blk W10 b7 32 #[v9]:=by rw [hv9] at k10 ⊢;exact k10
  refine ⟨oth9.trans (Oth.upd u10 h79),u10.below hlow9 (by omega),hf9.upd u10 (by omega),hp19.upd u10 (by omega),hp29.upd u10 (by omega),v9,k10,?_⟩
  have:=ho9.upd u10 h79 (by decide) (fun h=>h.2 rfl)
  rw [List.range_succ,List.map_append]
  exact this
 ·intro W hJ hD
  obtain ⟨hlow,hf5,hp15,hp25,v,h7,ho⟩:=hJ
  refine .seq (.region (.ld ty_V rfl rfl h7 rfl (.asg rfl rfl (.nil (.ret ?_)))))
  refine .mark [_] Tryz.results253 hD ⟨rfl,trivial⟩ ⟨M1 hlow x5.size,(ho.kp (Kp.put hD rfl)).toR up (fun k hk=>hk.1)⟩
end Go.Proofs.YtfilidfomgfnhaaGreat

namespace Go.Proofs.YtfilidfomgfnhaaGreat
open Go Go.Kx Go.RowKit
theorem Ab8:Ent Tryz.prog 254:=A0 Tryz.func254 (by kernel_rfl) rfl
theorem Ab9 {S:Nat→Prop} {w:World} {vq vx vy:Value} {q x y:QV} {b:Nat} {L:Nat} (up:Up S w) (hb:Blk w b 55 vq.cells) (hq:eQ.R S w vq q) (hx:eQ.R S w vx x) (hy:eQ.R S w vy y) (hkq:qk L q) (hkx:qk L x) (hky:qk L y) (hL:1≤L) (hL2:L≤10000000000) :
  CR Tryz.prog 254 #[vx,vy,.pointer (some ⟨b,0,none⟩)] w (eQ.at S (qc (qval q*qval x+qval y))):=by
 have hvq:=shpA rfl hq
 have hvx:=shpA rfl hx
 have hvy:=shpA rfl hy
 refine enter Tryz.func254 rfl Tryz.ntmps254 rfl ?_
 refine .seq (.region (.box rfl rfl fun w1 b3 n1=>.box rfl rfl fun w2 b4 n2=>.alloc rfl B7 fun w3 b5 n3=>.nil ?_))
 obtain ⟨e1,k3,hb3,hs1⟩:=n1
 obtain ⟨e2,k4,hb4,hs2⟩:=n2
 obtain ⟨e3,k5,hb5,hs3⟩:=n3
 have x3:=(e1.trans e2).trans e3
 have k3:=(k3.ext e2).ext e3
 have k4:=k4.ext e3
 have hb:=hb.ext x3
 have hS5:¬ Sx S w.heap.size w3.heap.size b5:=Sx.no (by omega) (by omega)
 have up3:Up (Sx S w.heap.size w3.heap.size) w3:=Sx.up up (Nat.le_refl _) x3.size
 have hq3:=(hq.par w3.heap.size).ext x3
 have hx3:=(hx.par w3.heap.size).ext x3
 have hy3:=(hy.par w3.heap.size).ext x3
 refine .seq (.held follows true (fun W=>Blk W b 55 vq.cells∧Blk W b3 55 vx.cells∧Blk W b4 55 vy.cells)
  [some vq,some vx,none,some vy,none,none] (by kernel_rfl) ⟨fun _ h=>(B8 ty_Q rfl h.1 (eQ.csz hq)).eq hvq.symm,fun _ h=>(B8 ty_Q rfl h.2.1 (eQ.csz hx)).eq hvx.symm,fun _ h=>(B8 ty_Q rfl h.2.2 (eQ.csz hy)).eq hvy.symm,trivial⟩ ?_)
 intro w4 e4 _
 refine .gv ⟨hb.ext e4,k3.ext e4,k4.ext e4⟩ rfl (A2 _ L7 rfl (N8 (up3.ext e4.size) (hq3.ext e4) (hx3.ext e4) hkq.1 hkx.1 hL (by omega))) ?_
 rintro v5 w5 ⟨e5,h5⟩
 have e45:=e4.trans e5
 have hkm:qk (L+L) (qc (qval q*qval x)):=O6 (hkq.2.mul hkx.2)
 refine .gv ⟨hb.ext e45,k3.ext e45,k4.ext e45⟩ rfl (A2 _ I3 rfl (L4 (up3.ext e45.size) h5 (hy3.ext e45) hkm.1 (hky.1.mono (by omega)) (by omega) (by omega))) ?_
 rintro v6 w6 ⟨e6,h6⟩
 rw [A8] at h6
 have e46:=e45.trans e6
 have hc6:=eQ.csz h6
 refine .gv ⟨hb.ext e46,k3.ext e46,k4.ext e46⟩ rfl (I8 ty_Q rfl rfl (k5.ext e46) hc6 (Nat.le_refl _) (eQ.one h6)) ?_
 rintro _ w7 ⟨k7,u7⟩
 rw [V9 _ _ (by rw [Array.length_toList,hc6];rfl)] at k7
 simp only [Array.toArray_toList] at k7
 refine .nil (.inl rfl) (.ret ?_)
 have h7:=h6.upd u7 hS5
 exact .cell Tryz.results254 rfl ty_Q rfl rfl k7 h7 ⟨u7.below (x3.trans e46) (by omega),h7.out⟩
theorem AM6:Ent Tryz.prog 210:=A0 Tryz.func210 (by kernel_rfl) rfl
theorem AM1 {S:Nat→Prop} {w:World} {vq va vb:Value} {q:QV} {a b:List QV} {L:Nat} (up:Up S w) (hq:eQ.R S w vq q) (ha:eV.R S w va a) (hb:eV.R S w vb b) (hla:a.length≤1000000000) (hlb:b.length≤1000000000) (hkq:qk L q) (hka:vk L a) (hkb:vk L b) (hL:1≤L) (hL2:L≤10000000000) :
  CR Tryz.prog 210 #[vq,va,vb] w (eV.at S (tab (max a.length b.length) fun k=>qval q*rv a k+rv b k)):=by
 have hlq:=ER.lt eQ hq
 refine enter Tryz.func210 rfl Tryz.ntmps210 rfl ?_
 refine .seq (.region (.box rfl rfl fun w1 b3 n1=>.asg rfl rfl (.nil ?_)))
 obtain ⟨e1,k3,hb3,hs1⟩:=n1
 refine .seq (.region (.mv rfl rfl (.mv rfl rfl (.mkf [] [_] rfl rfl rfl rfl ?_))))
 refine .call _ rfl AU4 rfl (AS8 (g:=fun k=>qc (qval q*rv a k+rv b k)) (up.ext e1.size) (ha.ext e1) (hb.ext e1) hla hlb Ab8 fun W T i x y hB hT hup hi hx hy=>?_) fun v1 w2 e2 h1=>.asg rfl rfl (.nil (.ret ?_))
 ·refine Ab9 hup ((hB.block b3 k3.lt).trans k3) ?_ hx hy hkq (hka.get hL i) (hkb.get hL i) hL hL2
  have hq1:eQ.R (fun k=>S k∧k<w.heap.size) W vq q:=eQ.keep (fun k c t f hk h=>((e1.trans (hB.mono (Nat.le_refl _))).block k hk.2).trans h) hlq
  exact eQ.mono (fun k _ hk=>hT k hk.1 (by have:=e1.size;omega)) hq1
 ·exact .plain [_] Tryz.results210 ⟨rfl,trivial⟩ ⟨e1.trans e2,h1⟩
end Go.Proofs.YtfilidfomgfnhaaGreat

namespace Go.Proofs.YtfilidfomgfnhaaGreat
open Go Go.Kx Go.RowKit
theorem ty_FD:tyOf Tryz.prog 131=some (false,1):=by kernel_rfl
theorem zero_FD:zeroOf Tryz.prog 131=some .nilFunc:=by kernel_rfl
theorem Au9 {P:Program} {σ:Env} {w:World} {d:Option Tmp} {ty:TypeId} {pos:String} {af:Array Edge} {gd:Option (Nat×Bool)} {α:Type} {E:ER α} {hsz:0<E.sz} {S:Nat→Prop} {v:Value} {l:List α} {t e:TypeId} {x:Operand} {b:Bool} {lo hi:Option Operand} (L H:Nat) (ht:P.underlying t=some (.slice e)) (he:tyOf P e=some (b,E.sz)) (hx:ev σ x=some v) (h:(RL E hsz).R S w v l)
  (hlo:match lo with | none=>L=0 | some y=>∃ k,ev σ y=some (.int k (L:Int))) (hhi:match hi with | none=>H=l.length | some y=>∃ k,ev σ y=some (.int k (H:Int))) (h1:L≤H) (h2:H≤l.length) :
  Gv P ⟨d,.slice t x lo hi none,ty,pos,af,gd⟩ σ w fun v' w'=>Ext w w'∧Sp.ok (.inr ((RL E hsz).at S ((l.take H).drop L))) v' w' :=
 (Av8 lo hi L H ht he hx h hlo hhi h1 h2).mono fun v' w' ⟨e1,hp⟩=>by subst e1;exact ⟨Ext.refl _,fun w'' e=>ER.ext _ hp e⟩
theorem E_Dot1:Ent Tryz.prog 127:=A0 Tryz.func127 (by kernel_rfl) rfl
theorem Dot1_c {S:Nat→Prop} {w:World} {vs vx vy:Value} {x y:QV} {r:Rat} {b:Nat} {L:Nat} (up:Up S w) (hSb:¬ S b) (hb:Blk w b 55 vs.cells) (hs:eQ.R S w vs (qc r)) (hx:eQ.R (fun _=>True) w vx x) (hy:eQ.R (fun _=>True) w vy y) (hks:qk L (qc r)) (hkx:qk L x) (hky:qk L y) (hL:1≤L) (hL2:L≤10000000000) :
  Calls Tryz.prog 127 #[vx,vy,.pointer (some ⟨b,0,none⟩)] w fun e w'=>∃ v,e=.returned v∧∃ w1 vs',Ext w w1∧Upd w1 w' b∧Blk w' b 55 vs'.cells∧eQ.R S w' vs' (qc (r+qval x*qval y)):=by
 have hvs:=shpA rfl hs
 have hvx:=shpA rfl hx
 have hvy:=shpA rfl hy
 refine enterG Tryz.func127 rfl Tryz.ntmps127 rfl ?_
 refine .seq (.region (.box rfl rfl fun w1 b3 n1=>.box rfl rfl fun w2 b4 n2=>.nil ?_))
 obtain ⟨e1,k3,hb3,hs1⟩:=n1
 obtain ⟨e2,k4,hb4,hs2⟩:=n2
 have x2:=e1.trans e2
 have k3:=k3.ext e2
 have hbl:=hb.lt
 refine .seq (.region (.ldA ty_Q rfl rfl k3 (eQ.csz hx) ?_))
 rw [←hvx]
 refine .call _ rfl P1 rfl (O7 (hx.ext x2)) fun v3 w3 e3 h3=>?_
 subst h3
 have x3:=x2.trans e3
 have skip:∀ {W:World},Ext w W→qval x*qval y=0→∃ w1 vs',Ext w w1∧Upd w1 W b∧Blk W b 55 vs'.cells∧eQ.R S W vs' (qc (r+qval x*qval y)):=by
  intro W hW h0
  refine ⟨W,vs,hW,Upd.refl _ _,hb.ext hW,?_⟩
  rw [h0,Rat.add_zero];exact hs.ext hW
 by_cases h0:qval x=0
 ·refine .neqF rfl rfl rfl (N7.2 h0) (.mv rfl rfl (.gs rfl rfl rfl rfl rfl (.gs rfl rfl rfl rfl rfl (.gs rfl rfl rfl rfl rfl (.pick rfl rfl rfl (.nil (.condF rfl (.skip ?_))))))))
  exact .plain [] Tryz.results127 trivial (skip x3 (by rw [h0,Rat.zero_mul]))
 ·refine .neqT rfl rfl rfl (fun h=>h0 (N7.1 h)) (.mv rfl rfl (.gr rfl rfl rfl rfl (.ldA ty_Q rfl rfl (k4.ext e3) (eQ.csz hy) ?_)))
  rw [←hvy]
  refine .gr rfl rfl rfl rfl (.call _ rfl P1 rfl (O7 (hy.ext x3)) fun v4 w4 e4 h4=>?_)
  subst h4
  have x4:=x3.trans e4
  have e34:=e3.trans e4
  by_cases h1:qval y=0
  ·refine .gr rfl rfl rfl rfl (.neqF rfl rfl rfl (N7.2 h1) (.pick rfl rfl rfl (.nil (.condF rfl (.skip ?_)))))
   exact .plain [] Tryz.results127 trivial (skip x4 (by rw [h1,Rat.mul_zero]))
  ·refine .gr rfl rfl rfl rfl (.neqT rfl rfl rfl (fun h=>h1 (N7.1 h)) (.pick rfl rfl rfl (.nil (.condT rfl ?_))))
   have k3:=k3.ext e34
   have k4:=k4.ext e34
   have hb:=hb.ext x4
   have up4:=up.ext x4.size
   refine .held follows true (fun W=>Blk W b 55 vs.cells∧Blk W b3 55 vx.cells∧Blk W b4 55 vy.cells)
    [some vs,some vx,some vy,none,none,none] (by kernel_rfl) ⟨fun _ h=>(B8 ty_Q rfl h.1 (eQ.csz hs)).eq hvs.symm,fun _ h=>(B8 ty_Q rfl h.2.1 (eQ.csz hx)).eq hvx.symm,fun _ h=>(B8 ty_Q rfl h.2.2 (eQ.csz hy)).eq hvy.symm,trivial⟩ ?_
   intro w5 e5 _
   have x5:=x4.trans e5
   refine .gv ⟨hb.ext e5,k3.ext e5,k4.ext e5⟩ rfl (A2 _ L7 rfl (N8 (fun _ _=>trivial) (hx.ext x5) (hy.ext x5) hkx.1 hky.1 hL (by omega))) ?_
   rintro v6 w6 ⟨e6,h6⟩
   have e56:=e5.trans e6
   have x6:=x5.trans e6
   have hkm:qk (L+L) (qc (qval x*qval y)):=O6 (hkx.2.mul hky.2)
   refine .gv ⟨hb.ext e56,k3.ext e56,k4.ext e56⟩ rfl (A2 _ I3 rfl (AE7 (S:=fun _=>True) (fun _ _=>trivial) (up4.ext e56.size) (eQ.mono (fun _ _ _=>trivial) (hs.ext x6)) h6 (hks.1.mono (by omega)) hkm.1 (by omega) (by omega))) ?_
   rintro v7 w7 ⟨e7,h7⟩
   rw [A8,A8] at h7
   have e57:=e56.trans e7
   have hc7:=eQ.csz h7
   refine .gv ⟨hb.ext e57,k3.ext e57,k4.ext e57⟩ rfl (I8 ty_Q rfl rfl (hb.ext e57) hc7 (by rw [eQ.csz hs];exact Nat.le_refl _) (eQ.one h7)) ?_
   rintro _ w8 ⟨k8,u8⟩
   rw [V9 _ _ (by rw [Array.length_toList,hc7,eQ.csz hs])] at k8
   simp only [Array.toArray_toList] at k8
   refine .nil (.inl rfl) ?_
   exact .plain [] Tryz.results127 trivial ⟨w7,v7,x6.trans e7,u8,k8,h7.upd u8 hSb⟩
/-- a sum on its way -/
structure DotJ (w0:World) (S:Nat→Prop) (b5 b6 p1 p2:Nat) (va vb:Value) (f:Nat→Rat) (k:Nat) (W:World):Prop where
 low:Below w0.heap.size w0 W
 fn:Blk W b6 131 #[.func (.func 127) #[] #[.pointer (some ⟨b5,0,none⟩)]]
 k1:Blk W p1 32 #[va]
 k2:Blk W p2 32 #[vb]
 acc:∃ vs,Blk W b5 55 vs.cells∧eQ.R (fun k=>S k∧k≠b5) W vs (qc (f k))
 out:∃ vz,Blk W (b5-1) 55 vz∧vz.size=4
theorem DotJ.sft {w0:World} {S:Nat→Prop} {b5 b6 p1 p2:Nat} {va vb:Value} {f:Nat→Rat} {k D:Nat} {W W':World} (h:DotJ w0 S b5 b6 p1 p2 va vb f k W) (hs:Sft D W W') (hD:w0.heap.size≤D):DotJ w0 S b5 b6 p1 p2 va vb f k W':=by
 obtain ⟨v,h1,h2⟩:=h.acc
 obtain ⟨vz,h3,h4⟩:=h.out
 exact ⟨h.low.trans (hs.below.mono hD),hs.cells.blk trivial h.fn,hs.cells.blk trivial h.k1,hs.cells.blk trivial h.k2,⟨v,hs.cells.blk trivial h1,eQ.keep (fun k c t f _ hc=>hs.cells k c t f trivial hc) h2⟩,vz,hs.cells.blk trivial h3,h4⟩
theorem Am0 {a:List QV} {n k:Nat} (h:k<n):rv ((a.take n).drop 0) k=rv a k:=by
 unfold rv
 rw [List.drop_zero,List.getD_eq_getElem?_getD,List.getD_eq_getElem?_getD,List.getElem?_take,if_pos h]
theorem AX2:Ent Tryz.prog 62:=A0 Tryz.func62 (by kernel_rfl) rfl
theorem AV0 {S T0:Nat→Prop} {w:World} {va vb:Value} {a b:List QV} {L:Nat} (upo:Up T0 w) (ha:eV.R S w va a) (hb:eV.R S w vb b) (hl:min a.length b.length≤1000) (hka:vk L a) (hkb:vk L b) (hL:1≤L) (hL2:L≤2000000) :
  CR Tryz.prog 62 #[va,vb] w (eQ.at T0 (qc (sumN (min a.length b.length) fun k=>rv a k*rv b k))):=by
 refine enter Tryz.func62 rfl Tryz.ntmps62 rfl ?_
 refine .seq (.region (.alloc rfl B7 fun w1 b4 n1=>.nil (.seq (.region (.alloc rfl B7 fun w2 b5 n2=>.nil (.seq (.region (.mkf [] [_] rfl rfl rfl rfl (.alloc rfl zero_FD fun w3 b6 n3=>?_)))))))))
 obtain ⟨e1,k4,hb4,hs1⟩:=n1
 obtain ⟨e2,k5,hb5,hs2⟩:=n2
 obtain ⟨e3,k6,hb6,hs3⟩:=n3
 refine .store ty_FD rfl rfl k6 rfl (by simp [Value.cells]) (by simp [one1,Value.cells]) fun w4 k6 u4=>.nil ?_
 have x3:=(e1.trans e2).trans e3
 have x4:Ext w w4:=u4.below x3 (by omega)
 have k4:=((k4.ext e2).ext e3).upd u4 (show b4≠b6 by omega)
 have k5:=(k5.ext e3).upd u4 (show b5≠b6 by omega)
 refine .seq (.region (.mv rfl rfl (.lenR un_V rfl rfl (ha.ext x4) (.mv rfl rfl (.lenR un_V rfl rfl (hb.ext x4) (.min_ rfl rfl rfl (.asg rfl rfl (.nil ?_))))))))
 rw [show (min (a.length:Int) (b.length:Int))=((min a.length b.length:Nat):Int) by omega]
 generalize hn:min a.length b.length=n at *
 refine .seq (.seq ?_)
 have ha0:=ER.lt eV ha
 have hb0:=ER.lt eV hb
 generalize hS0:(fun k=>S k∧k<w.heap.size)=S0 at *
 have hS0':∀ k,S0 k→S k∧k<w.heap.size:=fun k h=>by rw [←hS0] at h;exact h
 refine .par follows 6 [.inl _,.inl _,.inr (eV.at S0 ((a.take n).drop 0)),.inl _,.inl _,.inr (eV.at S0 ((b.take n).drop 0))] [[],[],[(16,0),(17,1)],[],[],[(19,3),(20,4)]] (by kernel_rfl) ⟨
  fun w e=>(v_mv rfl).ob,fun w e=>(v_mv rfl).ob,
  fun w e=>Au9 0 n un_V ty_Q rfl ((ER.ext eV ha0 x4).ext e) rfl ⟨_,rfl⟩ (Nat.zero_le _) (by omega),
  fun w e=>(v_mv rfl).ob,fun w e=>(v_mv rfl).ob,
  fun w e=>Au9 0 n un_V ty_Q rfl ((ER.ext eV hb0 x4).ext e) rfl ⟨_,rfl⟩ (Nat.zero_le _) (by omega),trivial⟩ ?_
 intro w5 e5 va' ha' vb' hb'
 have la:((a.take n).drop 0).length=n:=by simp;omega
 have lb:((b.take n).drop 0).length=n:=by simp;omega
 obtain ⟨aa,ca,hva,_⟩:=RL.len ha'
 obtain ⟨ab,cb,hvb,_⟩:=RL.len hb'
 refine .call _ rfl AC0 rfl (Z9 hva hvb) fun v6 w6 e6 h6=>.nil ?_
 obtain ⟨p1,p2,rfl,kp1,kp2,hp1,hp2⟩:=h6
 have x5:=x4.trans e5
 have x6:=x5.trans e6
 have e46:=e5.trans e6
 have hs4:w4.heap.size=w3.heap.size:=u4.size
 have hs5:=e5.size
 have hs6:=e6.size
 obtain ⟨esa,hA⟩:=RL.toEs ha'
 obtain ⟨esb,hB⟩:=RL.toEs hb'
 have hAB:∀ {W:World},Below w.heap.size w W→EsR eQ S0 W va' esa ((a.take n).drop 0)∧EsR eQ S0 W vb' esb ((b.take n).drop 0):=fun hL =>
  ⟨hA.keep (fun k c t f hk h=>((hL.block k (hS0' k hk).2).trans (x5.block k (hS0' k hk).2).symm).trans h),hB.keep (fun k c t f hk h=>((hL.block k (hS0' k hk).2).trans (x5.block k (hS0' k hk).2).symm).trans h)⟩
 have hfk:∀ k,k≤n→Rsz (sumN k fun k=>rv a k*rv b k) (1+k*(L+L+1)):=fun k hk=>Q6 fun j hj=>(hka.rsz hL j).mul (hkb.rsz hL j)
 refine .block (.rangeA (AI9 (S:=S0) (a:=(a.take n).drop 0) (b:=(b.take n).drop 0) (esa:=esa) (esb:=esb) (va:=va') (vb:=vb') (by omega) (by omega)) rfl AK6 (fun k=>rfl) (by decide)
  (DotJ w (fun k=>T0 k∧k≠b4) b5 b6 p1 p2 va' vb' fun k=>sumN k fun k=>rv a k*rv b k) (fun _ _=>False) (fun k W W' h hs=>h.sft hs x6.size) (fun _ _ _ h _=>h.elim) (fun k W h=>⟨h.k1,h.k2,hAB h.low⟩) ?_ ?_ ?_ (fun _ _ h=>h.elim))
 ·refine ⟨x6,k6.ext e46,kp1,kp2,⟨zq,k5.ext e46,?_⟩,zq.cells,?_,rfl⟩
  ·show eQ.R _ _ zq (qc 0)
   rw [O2];exact zq_R
  ·rw [show b5-1=b4 by omega];exact k4.ext e46
 ·intro l k W hk hJ hsz
  rw [la,lb,Nat.max_self] at hk
  obtain ⟨hA1,hB1⟩:=hAB hJ.low
  have hxa:=hA1.get zq_R k
  have hxb:=hB1.get zq_R k
  have hva':=shpA rfl hxa
  have hvb':=shpA rfl hxb
  have hlw:=hJ.low.size
  refine .seq (.region (.alloc rfl B7 fun W1 c8 n8=>?_))
  obtain ⟨e8,k8,hc8,hs8⟩:=n8
  refine .storeA (E:=eQ) ty_Q rfl rfl k8 rfl rfl (hxa.ext e8) (fun h=>by have:=(hS0' _ h).2;omega) fun W2 k8 u8 _=>.nil ?_
  have x8:Ext W W2:=u8.below e8 (by omega)
  refine .region (.alloc rfl B7 fun W3 c9 n9=>?_)
  obtain ⟨e9,k9,hc9,hs9⟩:=n9
  have hs8':=u8.size
  refine .storeA (E:=eQ) ty_Q rfl rfl k9 rfl rfl ((hxb.ext x8).ext e9) (fun h=>by have:=(hS0' _ h).2;omega) fun W4 k9 u9 _=>.nil ?_
  have x9:Ext W W4:=u9.below (x8.trans e9) (by omega)
  have k8:=(k8.ext e9).upd u9 (show c8≠c9 by omega)
  refine ⟨rfl,x9,fun W5 hsf hsz5=>?_⟩
  have hJ5:=(hJ.sft (Sft.ext x9 hsz) x6.size).sft hsf x6.size
  have k8:=hsf.cells.blk trivial k8
  have k9:=hsf.cells.blk trivial k9
  clear hJ hxa hxb hA1 hB1
  obtain ⟨hlow,hfn,hp15,hp25,⟨vs,h5,hs⟩,vz,h4,hvz⟩:=hJ5
  obtain ⟨hA1,hB1⟩:=hAB hlow
  have hxa:=hA1.get zq_R k
  have hxb:=hB1.get zq_R k
  have hlw5:=hlow.size
  have hb5lt:=h5.lt
  refine .block (.region (.ld ty_FD rfl rfl hfn rfl (.ldA ty_Q rfl rfl k8 (eQ.csz hxa) (.ldA ty_Q rfl rfl k9 (eQ.csz hxb) ?_))))
  rw [←hva',←hvb']
  have hr:=hfk k (by omega)
  have hbig:1+k*(L+L+1)≤5000000000:=by
   have:k*(L+L+1)≤1000*4000001:=Nat.mul_le_mul (by omega) (by omega)
   omega
  have hbig1:L≤1+k*(L+L+1)+L:=by omega
  have hcall:=Dot1_c (S:=fun k=>(T0 k∧k≠b4)∧k≠b5) (L:=1+k*(L+L+1)+L) (fun k hk=>⟨⟨upo k (by omega),by omega⟩,by omega⟩) (fun h=>h.2 rfl) h5 hs (eQ.mono (fun _ _ _=>trivial) hxa) (eQ.mono (fun _ _ _=>trivial) hxb) ((O6 hr).mono (by omega))
   (AA6 (P:=qk _) (fun q hq=>(hka q (List.mem_of_mem_take (List.mem_of_mem_drop hq))).mono hbig1) (At8 (by omega)) k) (AA6 (P:=qk _) (fun q hq=>(hkb q (List.mem_of_mem_take (List.mem_of_mem_drop hq))).mono hbig1) (At8 (by omega)) k) (by omega) (by omega)
  refine .callvG [_,_] rfl rfl E_Dot1 rfl hcall ?_
  rintro vr W7 ⟨W6,vs',e7,u7,k7,hr7⟩
  refine .nil ?_
  have hlow6:Below w.heap.size w W6:=hlow.trans (e7.mono hlow.size)
  have hlow7:Below w.heap.size w W7:=u7.below hlow6 (by omega)
  refine ⟨(Oth.ext e7).trans (Oth.upd u7 (h5.ext e7)),hlow7,(hfn.ext e7).upd u7 (by omega),(hp15.ext e7).upd u7 (by omega),(hp25.ext e7).upd u7 (by omega),⟨vs',k7,?_⟩,vz,(h4.ext e7).upd u7 (by omega),hvz⟩
  have e1:qval (((a.take n).drop 0).getD k q0)=rv a k:=Am0 hk
  have e2:qval (((b.take n).drop 0).getD k q0)=rv b k:=Am0 hk
  rw [e1,e2] at hr7
  exact hr7
 ·intro W hJ hD
  rw [la,lb,Nat.max_self] at hJ
  obtain ⟨hlow,hfn,hp15,hp25,⟨vs,h5,hs⟩,vz,h4,hvz⟩:=hJ
  have hb45:b5-1=b4:=by omega
  rw [hb45] at h4
  have hlws:=hlow.size
  have hvs:=shpA rfl hs
  refine .seq (.region (.ldA ty_Q rfl rfl h5 (eQ.csz hs) ?_))
  rw [←hvs]
  refine .storeA (E:=eQ) ty_Q rfl rfl h4 rfl hvz hs (fun h=>h.1.2 rfl) fun W2 k2 u2 h2=>.nil (.ret ?_)
  have hD2:=(Oth.upd u2 h4) _ _ hD rfl
  refine .mark [_] Tryz.results62 hD2 ⟨⟨_,rfl,D1 (E:=eQ) ty_Q rfl rfl ((Kp.put (S:=fun _=>True) hD2 rfl).blk trivial k2) (eQ.keep (Kp.put hD2 rfl) h2)⟩,trivial⟩ ⟨M1 (u2.below hlow (by omega)) x6.size,?_⟩
  exact eQ.mono (fun k _ hk=>hk.1.1) (eQ.keep (Kp.put hD2 rfl) h2)
end Go.Proofs.YtfilidfomgfnhaaGreat

namespace Go.Proofs.YtfilidfomgfnhaaGreat
open Go Go.Kx Go.RowKit
theorem AO4:zeroOf Tryz.prog 3=some (.int .i64 0):=by kernel_rfl
/-- c compares a and b, from the first element on -/
def LexC (a b:List QV) (c:Int):Prop:=(c=0∧∀ k,rv a k=rv b k)∨∃ j,(∀ k,k<j→rv a k=rv b k)∧rv a j≠rv b j∧c=cmpR (rv a j) (rv b j)
@[reducible] def IsLex (a b:List QV):Value→World→Prop:=fun v _=>∃ c,v=.int .i64 c∧LexC a b c
theorem LexC.zero {a b:List QV} {c:Int} (h:LexC a b c):c=0↔∀ k,rv a k=rv b k:=by
 rcases h with ⟨h1,h2⟩ | ⟨j,h1,h2,h3⟩
 ·exact ⟨fun _=>h2,fun _=>h1⟩
 ·constructor
  ·intro h0
   rw [h0] at h3
   exact absurd (N3.1 h3.symm) h2
  ·intro h;exact absurd (h j) h2
structure CmpJ (w0:World) (b4 p1 p2:Nat) (va vb:Value) (a b:List QV) (k:Nat) (W:World):Prop where
 low:Below w0.heap.size w0 W
 k1:Blk W p1 32 #[va]
 k2:Blk W p2 32 #[vb]
 out:Blk W b4 3 #[.int .i64 0]
 eq:∀ j,j<k→rv a j=rv b j
theorem CmpJ.sft {w0:World} {b4 p1 p2:Nat} {va vb:Value} {a b:List QV} {k D:Nat} {W W':World} (h:CmpJ w0 b4 p1 p2 va vb a b k W) (hs:Sft D W W') (hD:w0.heap.size≤D):CmpJ w0 b4 p1 p2 va vb a b k W' :=
 ⟨h.low.trans (hs.below.mono hD),hs.cells.blk trivial h.k1,hs.cells.blk trivial h.k2,hs.cells.blk trivial h.out,h.eq⟩
theorem AU5:Ent Tryz.prog 235:=A0 Tryz.func235 (by kernel_rfl) rfl
theorem AS9 {S:Nat→Prop} {w:World} {va vb:Value} {a b:List QV} {L:Nat} (up:Up S w) (ha:eV.R S w va a) (hb:eV.R S w vb b) (hla:a.length≤1000000000) (hlb:b.length≤1000000000) (hka:vk L a) (hkb:vk L b) (hL:1≤L) (hL2:L≤10000000000) :
  CR Tryz.prog 235 #[va,vb] w (IsLex a b):=by
 obtain ⟨aa,ca,hva,_⟩:=RL.len ha
 obtain ⟨ab,cb,hvb,_⟩:=RL.len hb
 obtain ⟨esa,hA⟩:=RL.toEs ha
 obtain ⟨esb,hB⟩:=RL.toEs hb
 have hA0:=hA.mono (S':=fun k=>S k∧k<w.heap.size) (by decide) (fun k hk hs=>⟨hs,hk⟩)
 have hB0:=hB.mono (S':=fun k=>S k∧k<w.heap.size) (by decide) (fun k hk hs=>⟨hs,hk⟩)
 have hAB:∀ {W:World},Below w.heap.size w W→EsR eQ (fun k=>S k∧k<w.heap.size) W va esa a∧EsR eQ (fun k=>S k∧k<w.heap.size) W vb esb b:=fun hL=>⟨hA0.keep (fun k c t f hk h=>(hL.block k hk.2).trans h),hB0.keep (fun k c t f hk h=>(hL.block k hk.2).trans h)⟩
 refine enter Tryz.func235 rfl Tryz.ntmps235 rfl ?_
 refine .seq (.region (.alloc rfl AO4 fun w1 b4 n1=>.nil ?_))
 obtain ⟨e1,k4,hb4,hs1⟩:=n1
 refine .seq (.seq (.region (.mv rfl rfl (.mv rfl rfl ?_))))
 refine .call _ rfl AC0 rfl (Z9 hva hvb) fun v2 w2 e2 h2=>.nil ?_
 obtain ⟨p1,p2,rfl,kp1,kp2,hp1,hp2⟩:=h2
 have x2:=e1.trans e2
 refine .block (.rangeA (AI9 (S:=fun k=>S k∧k<w.heap.size) (a:=a) (b:=b) (esa:=esa) (esb:=esb) (va:=va) (vb:=vb) (by omega) (by omega)) rfl AK6 (fun k=>rfl) (by decide)
  (CmpJ w b4 p1 p2 va vb a b) (fun c W=>c=.ret∧Below w.heap.size w W∧∃ x,Blk W b4 3 #[.int .i64 x]∧LexC a b x) (fun k W W' h hs=>h.sft hs x2.size)
  (fun c W W' ⟨h1,h2,x,h3,h4⟩ hs=>⟨h1,h2.trans (hs.below.mono x2.size),x,hs.cells.blk trivial h3,h4⟩) (fun k W h=>⟨h.k1,h.k2,hAB h.low⟩) ?_ ?_ ?_ ?_)
 ·exact ⟨x2,kp1,kp2,k4.ext e2,fun j hj=>absurd hj (Nat.not_lt_zero _)⟩
 ·intro l k W hk hJ hsz
  obtain ⟨hA1,hB1⟩:=hAB hJ.low
  have hxa:=hA1.get zq_R k
  have hxb:=hB1.get zq_R k
  have hva':=shpA rfl hxa
  have hvb':=shpA rfl hxb
  have hlw:=hJ.low.size
  refine .seq (.region (.alloc rfl B7 fun W1 c8 n8=>?_))
  obtain ⟨e8,k8,hc8,hs8⟩:=n8
  refine .storeA (E:=eQ) ty_Q rfl rfl k8 rfl rfl (hxa.ext e8) (fun h=>by have:=h.2;omega) fun W2 k8 u8 _=>.nil ?_
  have x8:Ext W W2:=u8.below e8 (by omega)
  refine .region (.alloc rfl B7 fun W3 c9 n9=>?_)
  obtain ⟨e9,k9,hc9,hs9⟩:=n9
  have hs8':=u8.size
  refine .storeA (E:=eQ) ty_Q rfl rfl k9 rfl rfl ((hxb.ext x8).ext e9) (fun h=>by have:=h.2;omega) fun W4 k9 u9 _=>.nil ?_
  have x9:Ext W W4:=u9.below (x8.trans e9) (by omega)
  have k8:=(k8.ext e9).upd u9 (show c8≠c9 by omega)
  refine ⟨rfl,x9,fun W5 hsf hsz5=>?_⟩
  have hJ5:=(hJ.sft (Sft.ext x9 hsz) x2.size).sft hsf x2.size
  have k8:=hsf.cells.blk trivial k8
  have k9:=hsf.cells.blk trivial k9
  clear hJ hxa hxb hA1 hB1
  obtain ⟨hlow,hp15,hp25,h4,heq⟩:=hJ5
  obtain ⟨hA1,hB1⟩:=hAB hlow
  have hxa:=hA1.get zq_R k
  have hxb:=hB1.get zq_R k
  have hlw5:=hlow.size
  refine .block (.seq (.region (.ldA ty_Q rfl rfl k8 (eQ.csz hxa) (.ldA ty_Q rfl rfl k9 (eQ.csz hxb) ?_))))
  rw [←hva',←hvb']
  have hxa':eQ.R S W5 _ _:=eQ.mono (fun k _ hk=>hk.1) hxa
  have hxb':eQ.R S W5 _ _:=eQ.mono (fun k _ hk=>hk.1) hxb
  refine .call _ rfl Z0 rfl (Y6 (up.ext hlw5) hxa' hxb' (hka.get hL k).1 (hkb.get hL k).1 hL (by omega)) fun v6 W6 e6 h6=>.asg rfl rfl (.nil ?_)
  subst h6
  have hlow6:Below w.heap.size w W6:=hlow.trans (e6.mono hlow.size)
  refine .seq (.region (.mv rfl rfl ?_))
  by_cases h0:cmpR (rv a k) (rv b k)=0
  ·refine .neqF rfl rfl rfl h0 (.nil (.condF rfl (.skip ?_)))
   refine ⟨Oth.ext e6,hlow6,hp15.ext e6,hp25.ext e6,h4.ext e6,fun j hj=>?_⟩
   by_cases e:j=k
   ·subst e;exact N3.1 h0
   ·exact heq j (by omega)
  ·refine .neqT rfl rfl rfl h0 (.nil (.condT rfl (.seq (.region (.mv rfl rfl ?_)))))
   refine .store B0 rfl rfl (h4.ext e6) rfl (by simp) (by simp [one1,Value.cells]) fun W7 k7 u7=>.nil (.ret ?_)
   exact ⟨(Oth.ext e6).trans (Oth.upd u7 (h4.ext e6)),rfl,u7.below hlow6 (by omega),_,k7,.inr ⟨k,heq,fun h=>h0 (N3.2 h),rfl⟩⟩
 ·intro W hJ hD
  obtain ⟨hlow,hp15,hp25,h4,heq⟩:=hJ
  refine .seq (.region (.store B0 rfl rfl h4 rfl (by simp) (by simp [one1,Value.cells]) fun W2 k2 u2=>.nil (.ret ?_)))
  have hD2:=(Oth.upd u2 h4) _ _ hD rfl
  have k3:=(Kp.put (S:=fun _=>True) (o':=.deferred none) hD2 rfl).blk trivial k2
  refine .mark [.int .i64 0] Tryz.results235 hD2 ⟨⟨_,rfl,M5 B0 ((k3.cell 0).trans rfl)⟩,trivial⟩ ⟨M1 (u2.below hlow (by omega)) x2.size,0,rfl,.inl ⟨rfl,fun k=>?_⟩⟩
  rcases Nat.lt_or_ge k (max a.length b.length) with h | h
  ·exact heq k h
  ·rw [AE2 (by omega),AE2 (by omega)]
 ·rintro c W ⟨rfl,hlow,x,hx,hlex⟩ hD
  refine .ret ?_
  have k3:=(Kp.put (S:=fun _=>True) (o':=.deferred none) hD rfl).blk trivial hx
  exact .mark [.int .i64 x] Tryz.results235 hD ⟨⟨_,rfl,M5 B0 ((k3.cell 0).trans rfl)⟩,trivial⟩ ⟨M1 hlow x2.size,x,rfl,hlex⟩
def eqV (a b:List QV):Prop:=∀ k,rv a k=rv b k
noncomputable instance (a b:List QV):Decidable (eqV a b):=Classical.propDecidable _
theorem Ag8:Ent Tryz.prog 178:=A0 Tryz.func178 (by kernel_rfl) rfl
theorem Ac9 {S:Nat→Prop} {w:World} {va vb:Value} {a b:List QV} {L:Nat} (up:Up S w) (ha:eV.R S w va a) (hb:eV.R S w vb b) (hla:a.length≤1000000000) (hlb:b.length≤1000000000) (hka:vk L a) (hkb:vk L b) (hL:1≤L) (hL2:L≤10000000000) :
  CR Tryz.prog 178 #[va,vb] w (Is (.bool (decide (eqV a b)))):=by
 refine enter Tryz.func178 rfl Tryz.ntmps178 rfl ?_
 refine .seq (.region (.asg rfl rfl (.nil (.seq (.region (.mv rfl rfl (.mv rfl rfl ?_)))))))
 refine .call _ rfl AU5 rfl (AS9 up ha hb hla hlb hka hkb hL hL2) fun v1 w1 e1 h1=>?_
 obtain ⟨c,rfl,hc⟩:=h1
 refine .eql rfl rfl rfl (.asg rfl rfl (.nil (.ret ?_)))
 refine .plain [_] Tryz.results178 ⟨rfl,trivial⟩ ⟨e1,isB ?_⟩
 by_cases h:eqV a b
 ·rw [hc.zero.2 h];simp [h]
 ·have:c≠0:=fun h'=>h (hc.zero.1 h')
  simp [h,this]
end Go.Proofs.YtfilidfomgfnhaaGreat

namespace Go.Proofs.YtfilidfomgfnhaaGreat
open Go Go.Kx Go.RowKit
theorem un_L:Tryz.prog.underlying 106=some (.slice 2):=by kernel_rfl
abbrev eI:ER (List Int):=RL (eInt .i64)
theorem eInt_bd {S:Nat→Prop} {w:World} {v:Value} {n:Int} (h:(eInt .i64).R S w v n):v=.int .i64 n ∧ -9223372036854775808≤n∧n≤9223372036854775807:=by
 obtain ⟨h1,h2,h3⟩:=h
 exact ⟨h1,h2,h3⟩
theorem R4:Ent Tryz.prog 114:=A0 Tryz.func114 (by kernel_rfl) rfl
theorem Q3 {S:Nat→Prop} {w:World} {vl:Value} {l:List Int} (up:Up S w) (hl:eI.R S w vl l) (hn:l.length≤1000000000) :
  CR Tryz.prog 114 #[vl] w (eV.at S (tab l.length fun k=>((l.getD k 0:Int):Rat))):=by
 have hl0:=ER.lt eI hl
 have hL:∀ {W:World},Below w.heap.size w W→eI.R (fun k=>S k∧k<w.heap.size) W vl l:=fun hB=>eI.keep (fun k c t f hk h=>(hB.block k hk.2).trans h) hl0
 obtain ⟨al,cl,hvl,_⟩:=RL.len hl
 refine enter Tryz.func114 rfl Tryz.ntmps114 rfl ?_
 refine .seq (.region (.asg rfl rfl (.nil (.seq (.region (.mv rfl rfl (.lenR un_L rfl rfl hl ?_)))))))
 refine .make_ _ _ un_V K4 rfl (by decide) rfl rfl rfl (Nat.le_refl _) (by omega) (by omega) fun w1 g n1=>.asg rfl rfl (.nil ?_)
 have f1:FB eQ 55 S w1 g (List.replicate l.length q0):=FB.made n1 zq_R
 obtain ⟨e1,k1,hg,hs1⟩:=n1
 generalize hf:(fun k=>qc ((l.getD k 0:Int):Rat))=f
 refine .mid (α:=Unit) (fun _=>[(3,.slice (some ⟨g,0,none⟩) l.length l.length)]) (fun _ W=>Below w.heap.size w W∧FB eQ 55 S W g ((List.range l.length).map f)) ?_ ?_
 ·refine .seq (.region (.mv rfl rfl (.lenR un_L rfl rfl (hL e1) (.mv rfl rfl (.nil ?_)))))
  refine .block (.loop (α:=Nat) (fun i=>[(3,.slice (some ⟨g,0,none⟩) l.length l.length),(9,vl),(10,.int .i64 (l.length:Nat)),(11,.int .i64 (i:Nat))])
   (fun i W=>Below w.heap.size w W∧i≤l.length∧FB eQ 55 S W g (fil l.length i f q0)) (fun i=>l.length-i) 0 ?_ ?_ ?_)
  ·exact lkA rfl
  ·exact ⟨e1,Nat.zero_le _,by rw [H7];exact f1⟩
  ·rintro i W ⟨hB,hi,hF⟩
   have hsz:=hB.size
   have hgl:=hF.lt
   by_cases hlt:i<l.length
   ·refine .seq (.region (.lssT rfl rfl rfl (by omega) (.nil (.seq (.condT rfl (.skip (.seq (.block (.seq (.region (.mv rfl rfl ?_)))))))))))
    refine .ixN (i:=i) un_L L1 rfl rfl (hL hB) rfl (A9 (z:=0) hlt) fun p hp=>.ldE L1 rfl rfl hp fun e he=>?_
    obtain ⟨rfl,hb1,hb2⟩:=eInt_bd he
    refine .asg rfl rfl (.asg rfl rfl (.nil (.region (.mv rfl rfl (.mv rfl rfl (.mv rfl rfl ?_))))))
    refine .call _ rfl C1 rfl (C0 (S:=fun k=>S k∧k≠g) (fun k hk=>⟨up k (by omega),by omega⟩) hb1 hb2) fun v2 W2 e2 h2=>?_
    refine .ixB (i:=i) un_V ty_Q rfl rfl rfl hlt ?_
    have hF2:=hF.ext e2
    refine .storeF (E:=eQ) (i:=i) (z:=f i) (by decide) ty_Q rfl rfl hF2 rfl (by rw [D6];exact hlt) (Nat.zero_add _) (by rw [←hf];exact h2) fun W3 hF3 u3=>.nil ?_
    rw [I9] at hF3
    refine .region (.add rfl rfl rfl (.mv rfl rfl (.nil ?_)))
    rw [wI (by omega)]
    exact ⟨rfl,i+1,lkA rfl,⟨u3.below (hB.trans (e2.mono hsz)) (by omega),hlt,hF3⟩,by show l.length-(i+1)<l.length-i;omega⟩
   ·refine .seq (.region (.lssF rfl rfl rfl (by omega) (.nil (.seq (.condF rfl (.exit ?_))))))
    have:i=l.length:=by omega
    subst this
    rw [N2] at hF
    exact ⟨rfl,(),lkA rfl,hB,hF⟩
 ·rintro _ W ⟨hB,hF⟩
  refine .seq (.region (.mv rfl rfl (.asg rfl rfl (.nil (.ret ?_)))))
  have hR:=hF.toR (c:=l.length) (hsz:=by decide) (up g (by omega)) (by simp) (by simp;omega)
  have hlen:((List.range l.length).map f).length=l.length:=by simp
  rw [hlen] at hR
  refine .plain [_] Tryz.results114 ⟨rfl,trivial⟩ ⟨hB,?_⟩
  unfold tab
  rw [hf];exact hR
theorem Aa9:Ent Tryz.prog 59:=A0 Tryz.func59 (by kernel_rfl) rfl
@[reducible] def ResP (S:Nat→Prop) (B:Nat) (n:Int) (a:List QV):Value→World→Prop:=fun v w =>
 (n<1∧v=.slice none 0 0)∨(1≤n∧∃ g N:Nat,(N:Int)=min n 65536∧B≤g∧v=.slice (some ⟨g,0,none⟩) N N∧FB eQ 55 S w g (tab N (rv a)))
theorem AX5 {S T0:Nat→Prop} {w:World} {va:Value} {a:List QV} {n:Int} {L:Nat} (up:Up S w) (upo:Up T0 w) (ha:eV.R S w va a) (hka:vk L a) (hL:1≤L) (hL2:L≤10000000000) :
  CR Tryz.prog 59 #[va,.int .i64 n] w (ResP T0 w.heap.size n a):=by
 have ha0:=ER.lt eV ha
 have hA:∀ {W:World},Below w.heap.size w W→eV.R (fun k=>S k∧k<w.heap.size) W va a:=fun hB=>eV.keep (fun k c t f hk h=>(hB.block k hk.2).trans h) ha0
 obtain ⟨al,cl,hvl,_,hla⟩:=RL.len ha
 refine enter Tryz.func59 rfl Tryz.ntmps59 rfl ?_
 refine .seq (.region (.asg rfl rfl (.nil (.seq (.seq (.region (.mv rfl rfl ?_)))))))
 by_cases hn:n<1
 ·refine .lssT rfl rfl rfl hn (.nil (.condT rfl (.seq (.region (.asg rfl rfl (.nil (.ret ?_)))))))
  exact .plain [_] Tryz.results59 ⟨rfl,trivial⟩ ⟨.refl _,.inl ⟨hn,rfl⟩⟩
 refine .lssF rfl rfl rfl hn (.nil (.condF rfl (.skip ?_)))
 refine .seq (.region (.mv rfl rfl (.min_ rfl rfl rfl ?_)))
 obtain ⟨N,hN⟩:∃ N:Nat,(N:Int)=min n 65536:=⟨(min n 65536).toNat,by omega⟩
 rw [←hN]
 have hN1:N≤65536:=by omega
 refine .make_ _ _ un_V K4 rfl (by decide) rfl rfl rfl (Nat.le_refl _) (by omega) (by omega) fun w1 g n1=>.asg rfl rfl (.nil ?_)
 have f1:FB eQ 55 T0 w1 g (List.replicate N q0):=FB.made n1 zq_R
 obtain ⟨e1,k1,hg,hs1⟩:=n1
 generalize hf:(fun k=>qc (rv a k))=f
 refine .mid (α:=Unit) (fun _=>[(5,.slice (some ⟨g,0,none⟩) N N)]) (fun _ W=>Below w.heap.size w W∧FB eQ 55 T0 W g ((List.range N).map f)) ?_ ?_
 ·refine .seq (.region (.mv rfl rfl (.lenR un_V rfl rfl (hA e1) (.mv rfl rfl (.len un_V rfl rfl (.min_ rfl rfl rfl (.mv rfl rfl (.nil ?_))))))))
  rw [show (min (a.length:Int) (N:Int))=((min a.length N:Nat):Int) by omega]
  generalize hM:min a.length N=M
  refine .block (.loop (α:=Nat) (fun i=>[(5,.slice (some ⟨g,0,none⟩) N N),(0,va),(16,.int .i64 (M:Nat)),(17,.int .i64 (i:Nat))])
   (fun i W=>Below w.heap.size w W∧i≤M∧FB eQ 55 T0 W g (fil N i f q0)) (fun i=>M-i) 0 ?_ ?_ ?_)
  ·exact lkA rfl
  ·exact ⟨e1,Nat.zero_le _,by rw [H7];exact f1⟩
  ·rintro i W ⟨hB,hi,hF⟩
   have hsz:=hB.size
   have hgl:=hF.lt
   by_cases hlt:i<M
   ·refine .seq (.region (.lssT rfl rfl rfl (by omega) (.nil (.seq (.condT rfl (.skip (.seq (.block (.seq (.region (.mv rfl rfl ?_)))))))))))
    refine .asg rfl rfl (.nil (.region (.mv rfl rfl (.mv rfl rfl (.mv rfl rfl (.mv rfl rfl ?_))))))
    refine .ixN (i:=i) un_V ty_Q rfl rfl (hA hB) rfl (A9 (z:=q0) (by omega)) fun p hp=>.ldE ty_Q rfl rfl hp fun e he=>?_
    refine .call _ rfl H9 rfl (N9 (S:=fun k=>S k∧k≠g) (T0:=fun k=>T0 k∧k≠g) (fun k hk=>⟨up k (by omega),by omega⟩) (fun k hk=>⟨upo k (by omega),by omega⟩) (eQ.mono (fun k _ hk=>⟨hk.1,by have:=hk.2;omega⟩) he) (hka.get hL i).1 hL (by omega)) fun v2 W2 e2 h2=>?_
    refine .ixB (i:=i) un_V ty_Q rfl rfl rfl (by omega) ?_
    have hF2:=hF.ext e2
    refine .storeF (E:=eQ) (i:=i) (z:=f i) (by decide) ty_Q rfl rfl hF2 rfl (by rw [D6];omega) (Nat.zero_add _) (by rw [←hf];exact h2) fun W3 hF3 u3=>.nil ?_
    rw [I9] at hF3
    refine .region (.add rfl rfl rfl (.mv rfl rfl (.nil ?_)))
    rw [wI (by omega)]
    exact ⟨rfl,i+1,lkA rfl,⟨u3.below (hB.trans (e2.mono hsz)) (by omega),hlt,hF3⟩,by show M-(i+1)<M-i;omega⟩
   ·refine .seq (.region (.lssF rfl rfl rfl (by omega) (.nil (.seq (.condF rfl (.exit ?_))))))
    have:i=M:=by omega
    subst this
    have hfe:fil N i f q0=(List.range N).map f:=by
     unfold fil
     apply List.map_congr_left
     intro j hj
     by_cases h:j<i
     ·rw [if_pos h]
     ·rw [if_neg h,←hf]
      have:=List.mem_range.1 hj
      show q0=qc (rv a j)
      rw [AE2 (by omega),O2]
    rw [hfe] at hF
    exact ⟨rfl,(),lkA rfl,hB,hF⟩
 ·rintro _ W ⟨hB,hF⟩
  refine .seq (.region (.mv rfl rfl (.asg rfl rfl (.nil (.ret ?_)))))
  refine .plain [_] Tryz.results59 ⟨rfl,trivial⟩ ⟨hB,.inr ⟨by omega,g,N,hN,by omega,rfl,?_⟩⟩
  unfold tab
  rw [hf];exact hF
theorem AX6 {S:Nat→Prop} {w:World} {va:Value} {a:List QV} {n:Int} {L:Nat} (up:Up S w) (ha:eV.R S w va a) (hka:vk L a) (hL:1≤L) (hL2:L≤10000000000) :
  CR Tryz.prog 59 #[va,.int .i64 n] w (ResP S w.heap.size n a):=AX5 up up ha hka hL hL2
end Go.Proofs.YtfilidfomgfnhaaGreat

namespace Go.Kx
open Go
def colsOf (m:List (List QV)):Nat:=m.foldl (fun n r=>max n r.length) 0
theorem Ap6 (m:List (List QV)):∀ n,m.foldl (fun n r=>max n r.length) n=max n (colsOf m):=by
 unfold colsOf
 induction m with
 | nil=>intro n;simp
 | cons r m ih=>intro n;simp only [List.foldl_cons];rw [ih,ih (max 0 r.length)];omega
theorem AS0:colsOf []=0:=rfl
theorem O9 (r:List QV) (m:List (List QV)):colsOf (r::m)=max r.length (colsOf m):=by
 show List.foldl _ (max 0 r.length) m=_
 rw [Ap6];omega
theorem AU3 (a b:List (List QV)):colsOf (a++b)=max (colsOf a) (colsOf b):=by
 induction a with
 | nil=>simp [AS0]
 | cons r a ih=>rw [List.cons_append,O9,O9,ih];omega
theorem AK0 (m:List (List QV)) {i:Nat} (h:i<m.length):colsOf (m.take (i+1))=max (colsOf (m.take i)) (m.getD i []).length:=by
 rw [List.take_succ_eq_append_getElem h,AU3,O9,AS0]
 rw [List.getD_eq_getElem?_getD,List.getElem?_eq_getElem h]
 simp
theorem Aj8 {m:List (List QV)} {r:List QV} (h:r∈m):r.length≤colsOf m:=by
 induction m with
 | nil=>cases h
 | cons x m ih =>
  rw [O9]
  rcases List.mem_cons.1 h with rfl | h
  ·omega
  ·have:=ih h;omega
theorem Aq4 {m:List (List QV)} {n:Nat} (h:∀ r∈m,r.length≤n):colsOf m≤n:=by
 induction m with
 | nil=>exact Nat.zero_le _
 | cons x m ih =>
  rw [O9]
  have h1:=h x (by simp)
  have h2:=ih fun r hr=>h r (by simp [hr])
  omega
/-- with integers for indices -/
def rmI (m:List (List QV)) (i k:Int):Rat:=if i<0∨k<0 then 0 else rm m i.toNat k.toNat
theorem AN2 (m:List (List QV)) (i k:Nat):rmI m i k=rm m i k:=by
 unfold rmI;rw [if_neg (by omega)];simp
def rowv (es:List Value) (i:Int):Value:=if i<0 then nilV else es.getD i.toNat nilV
end Go.Kx
namespace Go.Proofs.YtfilidfomgfnhaaGreat
open Go Go.Kx Go.RowKit
theorem AF1:Ent Tryz.prog 152:=A0 Tryz.func152 (by kernel_rfl) rfl
theorem AE4 {S:Nat→Prop} {w:World} {vm:Value} {m:List (List QV)} (hm:eM.R S w vm m):CR Tryz.prog 152 #[vm] w (Is (.int .i64 (colsOf m))):=by
 obtain ⟨am,cm,hvm,_,hlm⟩:=RL.len hm
 refine enter Tryz.func152 rfl Tryz.ntmps152 rfl ?_
 refine .seq (.region (.asg rfl rfl (.nil (.seq (.region (.asg rfl rfl (.nil ?_)))))))
 refine .mid (α:=Unit) (fun _=>[(3,.int .i64 (colsOf m))]) (fun _ W=>W=w) ?_ ?_
 ·refine .seq (.region (.mv rfl rfl (.lenR un_M rfl rfl hm (.mv rfl rfl (.nil ?_)))))
  refine .block (.loop (α:=Nat) (fun i=>[(3,.int .i64 (colsOf (m.take i))),(6,vm),(7,.int .i64 (m.length:Nat)),(8,.int .i64 (i:Nat))]) (fun i W=>W=w∧i≤m.length) (fun i=>m.length-i) 0 ?_ ?_ ?_)
  ·exact lkA rfl
  ·exact ⟨rfl,Nat.zero_le _⟩
  ·rintro i W ⟨rfl,hi⟩
   by_cases hlt:i<m.length
   ·refine .seq (.region (.lssT rfl rfl rfl (by omega) (.nil (.seq (.condT rfl (.skip (.seq (.block (.seq (.region ?_))))))))))
    refine .ixN (i:=i) un_M ty_V rfl rfl hm rfl (A9 (z:=[]) hlt) fun p hp=>.ldE ty_V rfl rfl hp fun e he=>.asg rfl rfl (.nil (.region (.mv rfl rfl (.mv rfl rfl (.lenR un_V rfl rfl he (.max_ rfl rfl rfl (.asg rfl rfl (.nil ?_))))))))
    refine .region (.add rfl rfl rfl (.mv rfl rfl (.nil ?_)))
    rw [wI (by omega)]
    refine ⟨rfl,i+1,A3 ?_ (lkA rfl),⟨rfl,hlt⟩,by show m.length-(i+1)<m.length-i;omega⟩
    show some (Value.int .i64 (max ((colsOf (m.take i):Nat):Int) (((m.getD i []).length:Nat):Int)))=_
    rw [AK0 m hlt,show (max ((colsOf (m.take i):Nat):Int) (((m.getD i []).length:Nat):Int))=((max (colsOf (m.take i)) (m.getD i []).length:Nat):Int) by omega]
   ·refine .seq (.region (.lssF rfl rfl rfl (by omega) (.nil (.seq (.condF rfl (.exit ?_))))))
    have:i=m.length:=by omega
    subst this
    refine ⟨rfl,(),?_,rfl⟩
    rw [List.take_of_length_le (Nat.le_refl _)]
    exact lkA rfl
 ·rintro _ W rfl
  refine .seq (.region (.mv rfl rfl (.asg rfl rfl (.nil (.ret ?_)))))
  exact .plain [_] Tryz.results152 ⟨rfl,trivial⟩ ⟨.refl _,rfl⟩
theorem rowv_R {S:Nat→Prop} {w:World} {vm:Value} {es:List Value} {m:List (List QV)} (h:EsR eV S w vm es m) (i:Int):eV.R S w (rowv es i) (if i<0 then [] else m.getD i.toNat []):=by
 unfold rowv
 split
 ·exact RL.nil
 ·exact h.get Av0 _
theorem Ar0:Ent Tryz.prog 159:=A0 Tryz.func159 (by kernel_rfl) rfl
theorem Ao6 {S:Nat→Prop} {w:World} {vm:Value} {es:List Value} {m:List (List QV)} {i:Int} (hm:EsR eV S w vm es m):CR Tryz.prog 159 #[vm,.int .i64 i] w (Is (rowv es i)):=by
 refine enter Tryz.func159 rfl Tryz.ntmps159 rfl ?_
 refine .seq (.region (.asg rfl rfl (.nil (.seq (.seq (.region (.mv rfl rfl ?_)))))))
 by_cases h0:i<0
 ·refine .lssT rfl rfl rfl h0 (.mv rfl rfl (.gs rfl rfl rfl rfl rfl (.gs rfl rfl rfl rfl rfl (.gs rfl rfl rfl rfl rfl (.gs rfl rfl rfl rfl rfl (.pick rfl rfl rfl (.nil (.condT rfl (.seq (.region (.asg rfl rfl (.nil (.ret ?_)))))))))))))
  refine .plain [_] Tryz.results159 ⟨rfl,trivial⟩ ⟨.refl _,?_⟩
  show _=rowv es i
  unfold rowv;rw [if_pos h0];rfl
 ·refine .lssF rfl rfl rfl h0 (.mv rfl rfl (.gr rfl rfl rfl rfl (.mv rfl rfl (.gr rfl rfl rfl rfl (.mv rfl rfl (.gr rfl rfl rfl rfl (.lenR un_M rfl rfl (hm.toR (hsz:=by decide)) (.gr rfl rfl rfl rfl ?_))))))))
  by_cases h1:(m.length:Int)≤i
  ·refine .geqT rfl rfl rfl h1 (.pick rfl rfl rfl (.nil (.condT rfl (.seq (.region (.asg rfl rfl (.nil (.ret ?_))))))))
   refine .plain [_] Tryz.results159 ⟨rfl,trivial⟩ ⟨.refl _,?_⟩
   show _=rowv es i
   unfold rowv;rw [if_neg h0,AQ5 (by rw [hm.1.1];omega)];rfl
  ·refine .geqF rfl rfl rfl h1 (.pick rfl rfl rfl (.nil (.condF rfl (.skip (.seq (.region (.mv rfl rfl (.mv rfl rfl ?_))))))))
   obtain ⟨k,rfl⟩:∃ k:Nat,i=k:=⟨i.toNat,by omega⟩
   have hk:k<m.length:=by omega
   refine .ixX un_M ty_V rfl rfl hm rfl (A9 (z:=nilV) (by rw [hm.1.1];exact hk)) fun p hp=>.ldX (E:=eV) ty_V rfl rfl hp (hm.get Av0 k) (.asg rfl rfl (.nil (.ret ?_)))
   refine .plain [_] Tryz.results159 ⟨rfl,trivial⟩ ⟨.refl _,?_⟩
   show _=rowv es k
   unfold rowv;rw [if_neg h0];rfl
theorem AC2:Ent Tryz.prog 88:=A0 Tryz.func88 (by kernel_rfl) rfl
theorem AA7 {S:Nat→Prop} {w:World} {vm:Value} {m:List (List QV)} {i k:Int} {L:Nat} (up:Up S w) (hm:eM.R S w vm m) (hk:mk_ L m) (hL:1≤L) (hL2:L≤10000000000):CR Tryz.prog 88 #[vm,.int .i64 i,.int .i64 k] w (eQ.at S (qc (rmI m i k))):=by
 refine enter Tryz.func88 rfl Tryz.ntmps88 rfl ?_
 refine .seq (.region (.alloc rfl B7 fun w1 b6 n1=>.nil (.seq (.region (.mv rfl rfl (.mv rfl rfl ?_))))))
 obtain ⟨e1,k6,hb6,hs1⟩:=n1
 have hS6:¬ Sx S w.heap.size w1.heap.size b6:=Sx.no (by omega) (by omega)
 have up1:Up (Sx S w.heap.size w1.heap.size) w1:=Sx.up up (Nat.le_refl _) e1.size
 have hm1:=(ER.par eM hm w1.heap.size).ext e1
 obtain ⟨es,hE⟩:=RL.toEs hm1
 refine .call _ rfl Ar0 rfl (Ao6 hE) fun v2 w2 e2 h2=>.asg rfl rfl (.nil ?_)
 subst h2
 have hr:=rowv_R (hE.ext e2) i
 generalize hrr:(if i<0 then [] else m.getD i.toNat [])=r at hr
 have hkr:vk L r:=by
  rw [←hrr];split
  ·exact Ar7
  ·exact hk.get _
 have hv:rmI m i k=if k<0 then 0 else rv r k.toNat:=by
  unfold rmI rm
  rw [←hrr]
  by_cases h1:i<0
  ·simp [h1,AY0]
  ·by_cases h2:k<0<;>simp [h1,h2]
 have x2:=e1.trans e2
 have k6:=k6.ext e2
 have hz:(k<0∨(r.length:Int)≤k)→qc (rmI m i k)=q0:=by
  intro h
  rw [hv,←O2]
  congr 1
  by_cases h1:k<0
  ·rw [if_pos h1]
  ·rw [if_neg h1];exact AE2 (by omega)
 have hzend:∀ {σ:Env},(k<0∨(r.length:Int)≤k)→True:=fun _=>trivial
 refine .seq (.seq (.region (.mv rfl rfl ?_)))
 by_cases h0:k<0
 ·refine .lssT rfl rfl rfl h0 (.mv rfl rfl (.gs rfl rfl rfl rfl rfl (.gs rfl rfl rfl rfl rfl (.gs rfl rfl rfl rfl rfl (.gs rfl rfl rfl rfl rfl (.pick rfl rfl rfl (.nil (.condT rfl (.seq (.region (.bld _ rfl rfl L6 ?_)))))))))))
  refine .storeA (E:=eQ) ty_Q rfl rfl k6 rfl rfl (S:=Sx S w.heap.size w1.heap.size) zq_R hS6 fun w3 k3 u3 h3=>.nil (.ret ?_)
  refine .cell Tryz.results88 rfl ty_Q rfl rfl k3 h3 ⟨u3.below x2 (by omega),?_⟩
  show eQ.R _ _ _ _
  rw [hz (.inl h0)];exact h3.out
 ·refine .lssF rfl rfl rfl h0 (.mv rfl rfl (.gr rfl rfl rfl rfl (.mv rfl rfl (.gr rfl rfl rfl rfl (.mv rfl rfl (.gr rfl rfl rfl rfl (.lenR un_V rfl rfl hr (.gr rfl rfl rfl rfl ?_))))))))
  by_cases h1:(r.length:Int)≤k
  ·refine .geqT rfl rfl rfl h1 (.pick rfl rfl rfl (.nil (.condT rfl (.seq (.region (.bld _ rfl rfl L6 ?_))))))
   refine .storeA (E:=eQ) ty_Q rfl rfl k6 rfl rfl (S:=Sx S w.heap.size w1.heap.size) zq_R hS6 fun w3 k3 u3 h3=>.nil (.ret ?_)
   refine .cell Tryz.results88 rfl ty_Q rfl rfl k3 h3 ⟨u3.below x2 (by omega),?_⟩
   show eQ.R _ _ _ _
   rw [hz (.inr h1)];exact h3.out
  ·refine .geqF rfl rfl rfl h1 (.pick rfl rfl rfl (.nil (.condF rfl (.skip (.seq (.region (.mv rfl rfl (.mv rfl rfl ?_))))))))
   obtain ⟨j,rfl⟩:∃ j:Nat,k=j:=⟨k.toNat,by omega⟩
   refine .ixN (i:=j) un_V ty_Q rfl rfl hr rfl (A9 (z:=q0) (by omega)) fun p hp=>.ldE ty_Q rfl rfl hp fun e he=>?_
   refine .call _ rfl H9 rfl (O0 (up1.ext e2.size) he (hkr.get hL j).1 hL (by omega)) fun v3 w3 e3 h3=>?_
   refine .storeA (E:=eQ) ty_Q rfl rfl (k6.ext e3) rfl rfl h3 hS6 fun w4 k4 u4 h4=>.nil (.ret ?_)
   refine .cell Tryz.results88 rfl ty_Q rfl rfl k4 h4 ⟨u4.below (x2.trans e3) (by omega),?_⟩
   have:rmI m i (j:Int)=qval (r.getD j q0):=by rw [hv,if_neg h0];rfl
   show eQ.R _ _ _ _
   rw [this];exact h4.out
theorem Y9:Ent Tryz.prog 214:=A0 Tryz.func214 (by kernel_rfl) rfl
theorem X9 {w:World} {n:Int}:CR Tryz.prog 214 #[.int .i64 n] w (Is (.int .i64 (max 0 (min n 1024)))):=by
 refine enter Tryz.func214 rfl Tryz.ntmps214 rfl ?_
 refine .seq (.region (.asg rfl rfl (.nil (.seq (.region (.mv rfl rfl (.min_ rfl rfl rfl (.max_ rfl rfl rfl (.asg rfl rfl (.nil (.ret ?_)))))))))))
 exact .plain [_] Tryz.results214 ⟨rfl,trivial⟩ ⟨.refl _,rfl⟩
end Go.Proofs.YtfilidfomgfnhaaGreat

namespace Go.Kx
open Go Go.RowKit
/-! a scope that nobody jumps into -/
section
variable {F:Fence} {n:Nat} {P:Program} {Q:Exit→Act→World→Prop} {a:Act} {w:World}
theorem L8 {b:Frame} {k:List Item} {cs:List Frame} {c:Code}:step P (lone (b.atR a (.code (.scope c)::k)) cs w)=.next (lone (b.atR a (.code c::.inScope c::k)) cs w) :=
 step_lone_go (by simp [stepG,stepG.exec,Frame.atR])
theorem AT0 {b:Frame} {k:List Item} {cs:List Frame} {c:Code}:step P (lone (b.atR a (.inScope c::k)) cs w)=.next (lone (b.atR a k) cs w) :=
 step_lone_go (by simp [stepG,stepG.exec,Frame.atR])
def noGo (Q:Exit→Act→World→Prop):Exit→Act→World→Prop
 | .goto _,_,_=>False
 | e,a,w=>Q e a w
theorem Ah6 {c:Code} (h:c.wpIn F n P (noGo Q) a w):(Code.scope c).wpIn F n P Q a w:=by
 intro b k cs hro hb hr
 have h0:(lone (b.atR a (.code (.scope c)::k)) cs w).fenced P F:=fenced_calm hb hr rfl
 obtain ⟨e,a₁,w₁,hq,harr⟩:=h b (.inScope c::k) cs hro hb hr
 cases e with
 | normal=>exact ⟨.normal,a₁,w₁,hq,.head h0 L8 (StepsIn.trans harr (.one (fenced_calm hb hr rfl) AT0))⟩
 | exit id =>
  have hx:exitTo id (.inScope c::k)=exitTo id k:=by simp [exitTo]
  exact ⟨.exit id,a₁,w₁,hq,fun k' hk=>.head h0 L8 (harr.1 k' (by rw [hx];exact hk)),
   fun hr' hk=>let ⟨k₁,h1,h2⟩:=harr.2 hr' (by rw [hx];exact hk);⟨k₁,h1,.head h0 L8 h2⟩⟩
 | goto l=>exact hq.elim
 | ret=>exact ⟨_,a₁,w₁,hq,.of_steps (.one h0 L8) harr⟩
 | panic ch=>exact ⟨_,a₁,w₁,hq,.of_steps (.one h0 L8) harr⟩
 | outgrown=>exact ⟨_,a₁,w₁,hq,.of_steps (.one h0 L8) harr⟩
end
@[reducible] def ngo (Q:Pst):Pst
 | .goto _,_,_,_=>False
 | e,σ,ds,w=>Q e σ ds w
theorem WC.scope {P:Program} {ro:Option Nat} {N:Nat} {Q:Pst} {σ:Env} {ds:List Deferred} {w:World} {c:Code} (h:WC P ro N (ngo Q) c σ ds w):WC P ro N Q (.scope c) σ ds w:=by
 refine ⟨fun a ha=>Ah6 (wpIn_mono (h.out a ha) ?_)⟩
 rintro e a' w' ⟨σ',ds',hag,hq⟩
 cases e with
 | goto l=>exact hq.elim
 | _=>exact ⟨σ',ds',hag,hq⟩
/-! changes of known blocks -/
/-- what lay there stays, but for the blocks of X -/
structure Chg (X:Nat→Prop) (w w':World):Prop where
 os:w'.os=w.os
 tape:w'.tape=w.tape
 output:w'.output=w.output
 size:w.heap.size≤w'.heap.size
 block:∀ k,k<w.heap.size→¬ X k→w'.heap[k]?=w.heap[k]?
section
variable {X Y:Nat→Prop} {w w' w'':World}
theorem Chg.refl (w:World):Chg X w w:=⟨rfl,rfl,rfl,Nat.le_refl _,fun _ _ _=>rfl⟩
theorem Chg.ext (e:Ext w w'):Chg X w w':=⟨e.os,e.tape,e.output,e.size,fun k hk _=>e.block k hk⟩
theorem Chg.upd {b:Nat} (u:Upd w w' b) (hb:X b):Chg X w w':=⟨u.os,u.tape,u.output,Nat.le_of_eq u.size.symm,fun k _ hX=>u.block k fun e=>hX (e▸hb)⟩
theorem Chg.trans (h:Chg X w w') (h':Chg X w' w''):Chg X w w'' :=
 ⟨h'.os.trans h.os,h'.tape.trans h.tape,h'.output.trans h.output,Nat.le_trans h.size h'.size,fun k hk hX=>(h'.block k (Nat.lt_of_lt_of_le hk h.size) hX).trans (h.block k hk hX)⟩
theorem Chg.mono (h:Chg X w w') (hX:∀ k,k<w.heap.size→X k→Y k):Chg Y w w':=⟨h.os,h.tape,h.output,h.size,fun k hk hY=>h.block k hk fun hx=>hY (hX k hk hx)⟩
/-- a step over blocks of X, or above what there was at first -/
theorem Chg.step {w0:World} (h:Chg X w0 w) (h':Chg Y w w') (hY:∀ k,k<w0.heap.size→Y k→X k):Chg X w0 w' :=
 ⟨h'.os.trans h.os,h'.tape.trans h.tape,h'.output.trans h.output,Nat.le_trans h.size h'.size,fun k hk hX=>(h'.block k (Nat.lt_of_lt_of_le hk h.size) fun hy=>hX (hY k hk hy)).trans (h.block k hk hX)⟩
theorem Chg.below {B:Nat} {w0:World} (h:Chg X w w') (hb:Below B w0 w) (hw:B≤w.heap.size) (hB:∀ k,X k→B≤k):Below B w0 w' :=
 hb.trans ⟨h.os,h.tape,h.output,h.size,fun k hk=>h.block k (by omega) fun hx=>by have:=hB k hx;omega⟩
theorem Chg.kp {S:Nat→Prop} (h:Chg X w w') (hS:∀ k,S k→¬ X k):Kp S w w':=fun k _ _ _ hk hc=>(h.block k (Array.getElem?_eq_some_iff.1 hc).1 (hS k hk)).trans hc
theorem Chg.blk {b:Nat} {t:TypeId} {cs:Array Value} (h:Chg X w w') (hb:Blk w b t cs) (hX:¬ X b):Blk w' b t cs:=(h.block b hb.lt hX).trans hb
end
/-- words lie in no block of other things -/
theorem Aw7 {S:Nat→Prop} {w:World} {v:Value} {l:List Nat} {b:Nat} {t:TypeId} {cs:Array Value} (h:eW.R S w v l) (hb:Blk w b t cs) (hc:∀ (i:Nat) (n:Int),cs[i]?≠some (Value.int .u32 n)):eW.R (fun k=>S k∧k≠b) w v l:=by
 obtain ⟨es,he,a,c,hv,h1,h2,h3,h4⟩:=h
 refine ⟨es,⟨he.1,fun i e x hx hy=>he.2 i e x hx hy⟩,a,c,hv,h1,h2,h3,fun hn=>?_⟩
 obtain ⟨ad,ha,hS,hcl⟩:=h4 hn
 refine ⟨ad,ha,⟨hS,fun e=>?_⟩,hcl⟩
 obtain ⟨e0,he0⟩:∃ e,es[0]?=some e:=⟨_,List.getElem?_eq_getElem (by rw [he.1];exact hn)⟩
 obtain ⟨rfl,_⟩:=he.2 0 e0 _ he0 (List.getElem?_eq_getElem hn)
 have hg:=C7 (sz:=1) es 0 0 _ he.sz he0 (by omega)
 have hcell:=(hcl 0 (.int .u32 l[0]) hg).1
 obtain ⟨b0,o0,g0⟩:=ad
 have e:b0=b:=e
 subst e
 have h':w.heap[b0]?=some (.cells cs t (0,0)):=hb
 simp only [World.cell?,Addr.add,if_pos,h'] at hcell
 split at hcell
 ·cases hcell
 ·exact hc _ _ hcell
theorem Al6 {x y a b:Value}:∀ (j:Nat) (u:Value),[a,b][j]?=some u→(#[x,y,a,b]:Array Value)[2+j]?=some u:=by
 intro j u hu
 match j with
 | 0=>exact hu
 | 1=>exact hu
 | j+2=>simp at hu
theorem As5 {x y a b:Value}:∀ (j:Nat) (u:Value),[x,y][j]?=some u→(#[x,y,a,b]:Array Value)[0+j]?=some u:=by
 intro j u hu
 match j with
 | 0=>exact hu
 | 1=>exact hu
 | j+2=>simp at hu
/-! rows changed in place, further -/
section
variable {α:Type} {E:ER α} {t:TypeId} {S X:Nat→Prop} {w w':World} {g:Nat} {l:List α}
theorem FB.chg (h:FB E t S w g l) (c:Chg X w w') (hg:¬ X g) (hS:∀ k,S k→¬ X k):FB E t S w' g l:=by
 obtain ⟨es,hb,he⟩:=h
 exact ⟨es,c.blk hb hg,he.keep (c.kp fun k hk=>hS k hk.1)⟩
theorem FB.at_ {i:Nat} {x:α} (hsz:0<E.sz) (h:FB E t S w g l) (hx:l[i]?=some x):∃ e,E.R (fun k=>S k∧k≠g) w e x∧PtrX w ⟨g,i*E.sz,none⟩ e:=by
 obtain ⟨es,hb,he⟩:=h
 have hlt:i<l.length:=(List.getElem?_eq_some_iff.1 hx).1
 obtain ⟨e,hee⟩:∃ e,es[i]?=some e:=⟨_,List.getElem?_eq_getElem (by rw [he.1];exact hlt)⟩
 refine ⟨e,he.2 i e x hee hx,fun j u hu=>?_⟩
 rw [I6,hb.cell,List.getElem?_toArray]
 have hj:j<E.sz:=by
  have hs:=he.sz e (List.mem_iff_getElem?.2 ⟨i,hee⟩)
  rcases Nat.lt_or_ge j e.cells.size with h | h
  ·omega
  ·rw [Array.getElem?_eq_none h] at hu;cases hu
 rw [C7 es i j e he.sz hee hj];exact hu
theorem OwnL.chgI {k:IntKind} {base:Nat} {Z:Nat→Prop} {v:Value} {l:List Int} (h:OwnL (eInt k) t base Z w v l) (c:Chg X w w') (hX:∀ k,X k→k<base):OwnL (eInt k) t base Z w' v l:=by
 obtain ⟨es,h1,h2⟩:=h
 exact ⟨es,AQ0 h1 fun k cs hk hb=>c.blk hb fun hx=>by have:=hX k hx;omega,h2.1,fun i e x he hx=>h2.2 i e x he hx⟩
end
section
variable {P:Program} {ro:Option Nat} {N:Nat} {ds:List Deferred} {ops:Array Oper} {K:Env→World→Prop} {rest:List Oper} {σ:Env} {w:World} {d:Tmp} {ty:TypeId} {pos:String} {af:Array Edge} {α:Type} {E:ER α} {S:Nat→Prop}
theorem X8 {dd:Option Tmp} {gd:Option (Nat×Bool)} {t t':TypeId} {x:Operand} {g i o:Nat} {l:List α} {z:α} (hsz:0<E.sz) (ht:tyOf P t=some (E.isA,E.sz)) (hx:ev σ x=some (.pointer (some ⟨g,o,none⟩))) (ho:o=i*E.sz) (hF:FB E t' S w g l) (hz:l[i]?=some z) :
  Gv P ⟨dd,.load t x,ty,pos,af,gd⟩ σ w fun v' w'=>Ext w w'∧Sp.ok (.inr (E.at (fun k=>S k∧k≠g) z)) v' w':=by
 subst ho
 obtain ⟨e,h1,h2⟩:=hF.at_ hsz hz
 exact L9 (AP0 ht hx h2 h1) h1 (A6 _ _ _)
theorem WL.ldF {t t':TypeId} {x:Operand} {g i o:Nat} {l:List α} {z:α} (hsz:0<E.sz) (ht:tyOf P t=some (E.isA,E.sz)) (hd:Nat.blt d N=true) (hx:ev σ x=some (.pointer (some ⟨g,o,none⟩))) (ho:o=i*E.sz) (hF:FB E t' S w g l) (hz:l[i]?=some z)
  (k:∀ e,E.R (fun k=>S k∧k≠g) w e z→WL P ro N ds ops K rest ((d,e)::σ) w):WL P ro N ds ops K (⟨some d,.load t x,ty,pos,af,none⟩::rest) σ w:=by
 subst ho
 obtain ⟨e,h1,h2⟩:=hF.at_ hsz hz
 exact .ldX ht hd hx h2 h1 (k e h1)
end
/-- rows in a new block -/
@[reducible] def FBat (t:TypeId) (S:Nat→Prop) (B n:Nat) (l:List (List QV)):Value→World→Prop:=fun v W=>∃ gb,v=.slice (some ⟨gb,0,none⟩) n n∧B≤gb∧FB eV t S W gb l
theorem FBat.toR {t:TypeId} {S:Nat→Prop} {B n:Nat} {l:List (List QV)} {v:Value} {W:World} (h:FBat t S B n l v W) (hS:∀ k,B≤k→S k) (hl:l.length=n) (hn:n≤9223372036854775807):eM.R S W v l:=by
 obtain ⟨gb,rfl,hb,hF⟩:=h
 have:=hF.toR (c:=n) (hsz:=by decide) (hS gb hb) (by omega) (by omega)
 rwa [hl] at this
theorem Aa1 {S:Nat→Prop} {w:World} {v:Value} {q:QV} {b:Nat} {t:TypeId} {cs:Array Value} (h:eQ.R S w v q) (hb:Blk w b t cs) (hc:∀ (i:Nat) (n:Int),cs[i]?≠some (Value.int .u32 n)):eQ.R (fun k=>S k∧k≠b) w v q:=by
 obtain ⟨s,u,hv,h1,h2⟩:=h
 exact ⟨s,u,hv,Aw7 h1 hb hc,Aw7 h2 hb hc⟩
theorem AC4:∀ (i:Nat) (n:Int),(#[.bool false,.slice none 0 0,.bool false,.slice none 0 0]:Array Value)[i]?≠some (Value.int .u32 n):=by
 intro i n
 match i with
 | 0=>simp
 | 1=>simp
 | 2=>simp
 | 3=>simp
 | i+4=>simp
theorem Chg.grown {w w':World} {o:Option Nat} (h:w.grownBy w' o):Chg (fun k=>o=some k) w w':=⟨h.os,h.tape,h.output,h.size,fun k hk hne=>h.block k hk (fun e=>hne e.symm)⟩
end Go.Kx

namespace Go.Kx
open Go Go.RowKit
@[reducible] def slB (c h:Nat):Value:=.slice (some ⟨h,0,none⟩) c c
/-- memory that is neither the outer block nor a row -/
@[reducible] def offM (S:Nat→Prop) (gb:Nat) (hs:List Nat):Nat→Prop:=fun k=>S k∧k≠gb∧k∉hs
structure MB (t tq:TypeId) (S:Nat→Prop) (w:World) (gb c:Nat) (hs:List Nat) (M:List (List QV)):Prop where
 out:Blk w gb t (cellsOf (hs.map (slB c))).toArray
 nd:hs.Nodup
 gn:gb∉hs
 len:hs.length=M.length
 row:∀ (i h:Nat) (r:List QV),hs[i]?=some h→M[i]?=some r→r.length=c∧FB eQ tq (offM S gb hs) w h r
theorem Ak1 (c:Nat) (hs:List Nat):cellsOf (hs.map (slB c))=hs.map (slB c):=by
 induction hs with
 | nil=>rfl
 | cons h l ih=>simp [cellsOf,Value.cells] at ih ⊢;exact ih
section
variable {t tq:TypeId} {S:Nat→Prop} {w w':World} {gb c:Nat} {hs:List Nat} {M:List (List QV)}
theorem MB.cell (h:MB t tq S w gb c hs M) {i hi:Nat} (hh:hs[i]?=some hi):(cellsOf (hs.map (slB c))).toArray[0+i*1]?=some (slB c hi):=by
 rw [Ak1,List.getElem?_toArray,Nat.zero_add,Nat.mul_one,List.getElem?_map,hh];rfl
theorem MB.kp (h:MB t tq S w gb c hs M) (hk:Kp (fun _=>True) w w'):MB t tq S w' gb c hs M :=
 ⟨hk.blk trivial h.out,h.nd,h.gn,h.len,fun i x r h1 h2=>⟨(h.row i x r h1 h2).1,(h.row i x r h1 h2).2.kp hk⟩⟩
theorem MB.ext (h:MB t tq S w gb c hs M) (e:Ext w w'):MB t tq S w' gb c hs M:=h.kp (Kp.ext e)
theorem MB.upd {b:Nat} (h:MB t tq S w gb c hs M) (u:Upd w w' b) (hne:gb≠b) (hb:b∉hs) (hS:¬ S b):MB t tq S w' gb c hs M :=
 ⟨h.out.upd u hne,h.nd,h.gn,h.len,fun i x r h1 h2=>⟨(h.row i x r h1 h2).1,(h.row i x r h1 h2).2.upd u (fun e=>hb (e▸List.mem_iff_getElem?.2 ⟨i,h1⟩)) fun hh=>hS hh.1⟩⟩
/-- a row was changed -/
theorem MB.set (h:MB t tq S w gb c hs M) {i hi:Nat} {r:List QV} (hh:hs[i]?=some hi) (hr:r.length=c) (u:Upd w w' hi) (hf:FB eQ tq (offM S gb hs) w' hi r):MB t tq S w' gb c hs (M.set i r):=by
 have hm:hi∈hs:=List.mem_iff_getElem?.2 ⟨i,hh⟩
 refine ⟨h.out.upd u (fun e=>h.gn (e▸hm)),h.nd,h.gn,by rw [List.length_set];exact h.len,fun j x s h1 h2=>?_⟩
 have hil:=(List.getElem?_eq_some_iff.1 hh).1
 by_cases e:i=j
 ·subst e
  rw [List.getElem?_set_self (by rw [←h.len];exact hil)] at h2
  rw [hh] at h1
  cases h1;cases h2
  exact ⟨hr,hf⟩
 ·rw [List.getElem?_set_ne e] at h2
  refine ⟨(h.row j x s h1 h2).1,(h.row j x s h1 h2).2.upd u (fun e'=>e ?_) fun hh=>hh.2.2 hm⟩
  subst e'
  have h3:=List.getElem?_eq_some_iff.1 h1
  have h4:=List.getElem?_eq_some_iff.1 hh
  obtain ⟨a1,a2⟩:=h3
  obtain ⟨b1,b2⟩:=h4
  exact (List.getElem_inj h.nd).1 (b2.trans a2.symm)
theorem MB.toFB (h:MB t tq S w gb c hs M) (hS:∀ k∈hs,S k) (hc:c≤9223372036854775807):FB eV t S w gb M:=by
 refine ⟨hs.map (slB c),h.out,by rw [List.length_map];exact h.len,fun i e x he hx=>?_⟩
 rw [List.getElem?_map] at he
 cases hh:hs[i]? with
 | none=>rw [hh] at he;cases he
 | some k =>
  rw [hh] at he;cases he
  have hm:k∈hs:=List.mem_iff_getElem?.2 ⟨i,hh⟩
  obtain ⟨h1,h2⟩:=h.row i k x hh hx
  obtain ⟨es,hb,he⟩:=h2
  have h3:FB eQ tq (fun k=>S k∧k≠gb) w k x:=⟨es,hb,he.1,fun i e x h1 h2=>eQ.mono (fun k _ hh=>⟨⟨hh.1.1,hh.1.2.1⟩,hh.2⟩) (he.2 i e x h1 h2)⟩
  have:=h3.toR (c:=c) (hsz:=by decide) ⟨hS k hm,fun e=>h.gn (e▸hm)⟩ (by omega) (by omega)
  rw [h1] at this
  exact this
theorem MB.mono {S':Nat→Prop} (h:MB t tq S w gb c hs M) (hk:∀ k,k<w.heap.size→S k→S' k):MB t tq S' w gb c hs M :=
 ⟨h.out,h.nd,h.gn,h.len,fun i x r h1 h2=>⟨(h.row i x r h1 h2).1,(h.row i x r h1 h2).2.mono fun k hl hh=>⟨hk k hl hh.1,hh.2⟩⟩⟩
theorem MB.lt (h:MB t tq S w gb c hs M) {k:Nat} (hk:k∈hs):k<w.heap.size:=by
 obtain ⟨i,hi⟩:=List.mem_iff_getElem?.1 hk
 have hil:=(List.getElem?_eq_some_iff.1 hi).1
 exact (h.row i k _ hi (List.getElem?_eq_getElem (by rw [←h.len];exact hil))).2.lt
end
theorem FB.kpn {α:Type} {E:ER α} {t:TypeId} {S:Nat→Prop} {w w':World} {g b:Nat} {l:List α} (h:FB E t S w g l) (hk:Kp (fun j=>j≠b) w w') (hg:g≠b) (hS:¬ S b):FB E t S w' g l:=by
 obtain ⟨es,hb,he⟩:=h
 exact ⟨es,hk.blk hg hb,he.keep fun k c t f hs hc=>hk k c t f (fun e=>hS (e▸hs.1)) hc⟩
theorem set_rep {α:Type} (l:List α) (z x:α) (m:Nat):(l++List.replicate (m+1) z).set l.length x=(l++[x])++List.replicate m z:=by
 rw [List.set_append_right _ _ (Nat.le_refl _),Nat.sub_self,List.replicate_succ,List.set_cons_zero,List.append_assoc];rfl
/-- a new matrix, rows and all -/
@[reducible] def MBat (t tq:TypeId) (S:Nat→Prop) (B n c:Nat) (M:List (List QV)):Value→World→Prop:=fun v W=>∃ gb hs,v=.slice (some ⟨gb,0,none⟩) n n∧B≤gb∧(∀ k∈hs,B≤k)∧MB t tq S W gb c hs M
theorem MBat.toF {t tq:TypeId} {S:Nat→Prop} {B n c:Nat} {M:List (List QV)} {v:Value} {W:World} (h:MBat t tq S B n c M v W) (hS:∀ k,B≤k→S k) (hc:c≤9223372036854775807):FBat t S B n M v W:=by
 obtain ⟨gb,hs,h1,h2,h3,h4⟩:=h
 exact ⟨gb,h1,h2,h4.toFB (fun k hk=>hS k (h3 k hk)) hc⟩
end Go.Kx

namespace Go.Proofs.YtfilidfomgfnhaaGreat
open Go Go.Kx Go.RowKit
theorem ty_FE:tyOf Tryz.prog 111=some (false,1):=by kernel_rfl
theorem fld_FL0:fldOf Tryz.prog 209 0=some 0:=by kernel_rfl
theorem Af1 {P:Program} {σ:Env} {w:World} {ty:TypeId} {pos:String} {af:Array Edge} {sz:Nat} {dd:Option Tmp} {gd:Option (Nat×Bool)} {t t':TypeId} {x y:Operand} {g i o:Nat} {a:Bool} {es:List Value} {v:Value} (hsz:0<sz) (ht:tyOf P t=some (a,sz)) (hx:ev σ x=some (.pointer (some ⟨g,o,none⟩))) (hy:ev σ y=some v) (hb:Blk w g t' (cellsOf es).toArray)
  (hes:∀ e∈es,e.cells.size=sz) (hv:v.cells.size=sz) (h1:∀ u∈v.cells.toList,one1 u=true) (hi:i<es.length) (ho:o=i*sz) :
  Gv P ⟨dd,.store t x y,ty,pos,af,gd⟩ σ w fun _ w'=>Blk w' g t' (cellsOf (es.set i v)).toArray∧Upd w w' g:=by
 subst ho
 have hl:=B9 es hes
 have hle:i*sz+sz≤(cellsOf es).toArray.size:=by
  rw [List.size_toArray,hl,←Nat.succ_mul];exact Nat.mul_le_mul_right _ hi
 refine (I8 ht hx hy hb hv hle h1).mono ?_
 rintro _ w' ⟨hB',u⟩
 rw [AB6 hsz es i v hes hv hi] at hB'
 exact ⟨hB',u⟩
theorem AS4:Ent Tryz.prog 207:=A0 Tryz.func207 (by kernel_rfl) rfl
theorem AW3 {S:Nat→Prop} {w:World} {f:FuncId} {cap:Array Value} {rows cols:Nat} {g:Nat→Nat→Rat} (up:Up S w) (hr:rows≤1000000000) (hc:cols≤1000000000) (hE:Ent Tryz.prog f)
  (hf:∀ (W:World) (T:Nat→Prop) (i k:Nat),Below w.heap.size w W→(∀ j,S j→j<w.heap.size→T j)→Up T W→i<rows→k<cols→CR Tryz.prog f ([.int .i64 (i:Nat),.int .i64 (k:Nat)].toArray++cap) W (eQ.at T (qc (g i k)))) :
  CR Tryz.prog 207 #[.agg #[.func (.func f) #[] cap],.int .i64 rows,.int .i64 cols] w (MBat 32 55 S w.heap.size rows cols (tabM rows cols g)):=by
 generalize hfv:Value.func (.func f) #[] cap=fv
 refine enter Tryz.func207 rfl Tryz.ntmps207 rfl ?_
 refine .seq (.region (.box rfl rfl fun w1 b3 n1=>.asg rfl rfl (.nil ?_)))
 obtain ⟨e1,k3,hb3,hs1⟩:=n1
 replace k3:Blk w1 b3 209 #[fv]:=k3
 refine .seq (.region (.mv rfl rfl ?_))
 refine .make_ _ _ un_M AZ5 rfl (by decide) rfl rfl rfl (Nat.le_refl _) (by omega) (by omega) fun w2 gb n2=>.asg rfl rfl (.nil ?_)
 obtain ⟨e2,k2,hgb,hs2⟩:=n2
 have x2:=e1.trans e2
 have k3:=k3.ext e2
 refine .mid (α:=List Nat) (fun _=>[(7,.slice (some ⟨gb,0,none⟩) rows rows)]) (fun hs W=>Below w.heap.size w W∧(∀ k∈hs,w.heap.size≤k)∧MB 32 55 S W gb cols hs (tabM rows cols g)) ?_ ?_
 ·refine .seq (.region (.mv rfl rfl (.len un_M rfl rfl (.mv rfl rfl (.nil ?_)))))
  refine .block (.loop (α:=List Nat) (fun hs=>[(7,.slice (some ⟨gb,0,none⟩) rows rows),(3,.pointer (some ⟨b3,0,none⟩)),(2,.int .i64 (cols:Nat)),(13,.int .i64 (rows:Nat)),(14,.int .i64 (hs.length:Nat))])
   (fun hs W=>Below w.heap.size w W∧hs.length≤rows∧Blk W gb 32 (cellsOf (hs.map (slB cols)++List.replicate (rows-hs.length) nilV)).toArray∧Blk W b3 209 #[fv]∧hs.Nodup∧(∀ k∈hs,w2.heap.size≤k)∧∀ (i h:Nat),hs[i]?=some h→FB eQ 55 (offM S gb hs) W h (tab cols (g i))) (fun hs=>rows-hs.length) [] ?_ ?_ ?_)
  ·exact lkA rfl
  ·exact ⟨x2,Nat.zero_le _,k2,k3,List.nodup_nil,(fun k hk=>by cases hk),(fun i h hh=>by cases hh)⟩
  rintro hs W ⟨hB,hi,hO,k3,hnd,hge,hrow⟩
  have hsz:=hB.size
  have hgl:=hO.lt
  have hb3l:=k3.lt
  refine .seq (.region ?_)
  rcases Nat.lt_or_ge hs.length rows with hlt | hge'
  rotate_left
  ·refine .lssF rfl rfl rfl (by omega) (.nil (.seq (.condF rfl (.exit ?_))))
   have hl:hs.length=rows:=by omega
   rw [hl,Nat.sub_self,List.replicate_zero,List.append_nil] at hO
   refine ⟨rfl,hs,lkA rfl,hB,fun k hk=>by have:=hge k hk;omega,hO,hnd,fun hm=>by have:=hge gb hm;omega,by rw [A5];exact hl,fun i h r h1 h2=>?_⟩
   have hil:i<rows:=by have:=(List.getElem?_eq_some_iff.1 h1).1;omega
   rw [show (tabM rows cols g)[i]?=some (tab cols (g i)) by unfold tabM;rw [List.getElem?_map,List.getElem?_range hil];rfl] at h2
   cases h2
   exact ⟨A1 ..,hrow i h h1⟩
  refine .lssT rfl rfl rfl (by omega) (.nil (.seq (.condT rfl (.skip (.seq (.block (.seq (.region (.mv rfl rfl (.asg rfl rfl (.nil ?_)))))))))))
  refine .seq (.region (.mv rfl rfl (.mv rfl rfl (.mv rfl rfl ?_))))
  refine .make_ _ _ un_V K4 rfl (by decide) rfl rfl rfl (Nat.le_refl _) (by omega) (by omega) fun W1 h n3=>?_
  have f3:FB eQ 55 (offM S gb (hs++[h])) W1 h (List.replicate cols q0):=FB.made n3 zq_R
  obtain ⟨e3,_,hh,hs3⟩:=n3
  have hlW:∀ k∈hs,k<W.heap.size:=fun k hk=>by
   obtain ⟨i,hi⟩:=List.mem_iff_getElem?.1 hk
   exact (hrow i k hi).lt
  have hesz:∀ e∈hs.map (slB cols)++List.replicate (rows-hs.length) nilV,e.cells.size=1:=fun e he=>by
   rcases List.mem_append.1 he with h | h
   ·obtain ⟨_,_,rfl⟩:=List.mem_map.1 h;rfl
   ·rw [(List.mem_replicate.1 h).2];rfl
  have hset:(hs.map (slB cols)++List.replicate (rows-hs.length) nilV).set hs.length (slB cols h)=(hs++[h]).map (slB cols)++List.replicate (rows-(hs.length+1)) nilV:=by
   have:=set_rep (hs.map (slB cols)) nilV (slB cols h) (rows-(hs.length+1))
   rw [List.length_map,show rows-(hs.length+1)+1=rows-hs.length by omega] at this
   rw [this,List.map_append];rfl
  refine .ixB (i:=hs.length) un_M ty_V rfl rfl rfl hlt ?_
  refine .gv rfl rfl (Af1 (i:=hs.length) (by decide) ty_V rfl rfl (hO.ext e3) hesz rfl (by simp [Value.cells,one1]) (by simp;omega) (Nat.zero_add _)) ?_
  rintro _ W2 ⟨hBg2,u2⟩
  refine .nil ?_
  replace hBg2:Blk W2 gb 32 (cellsOf ((hs.map (slB cols)++List.replicate (rows-hs.length) nilV).set hs.length (slB cols h))).toArray:=hBg2
  rw [hset] at hBg2
  have hB2:Below w.heap.size w W2:=u2.below (hB.trans (e3.mono hsz)) (by omega)
  have hsz2:W2.heap.size=W1.heap.size:=u2.size
  have hhn:h∉hs:=fun hm=>by have:=hlW h hm;omega
  have f4:FB eQ 55 (offM S gb (hs++[h])) W2 h (List.replicate cols q0):=f3.upd u2 (by omega) (fun h=>h.2.1 rfl)
  have k3:=(k3.ext e3).upd u2 (show b3≠gb by omega)
  have hrow2:∀ (i x:Nat),hs[i]?=some x→FB eQ 55 (offM S gb (hs++[h])) W2 x (tab cols (g i)):=fun i x hx=>by
   have h1:=(hrow i x hx).mono (S':=offM S gb (hs++[h])) fun k hk hS=>⟨hS.1,hS.2.1,fun hm=>by
    rcases List.mem_append.1 hm with h' | h'
    ·exact hS.2.2 h'
    ·have:=List.mem_singleton.1 h';omega⟩
   have hxm:=hge x (List.mem_iff_getElem?.2 ⟨i,hx⟩)
   exact (h1.ext e3).upd u2 (by omega) fun h=>h.2.1 rfl
  have hesz':∀ e∈(hs++[h]).map (slB cols)++List.replicate (rows-(hs.length+1)) nilV,e.cells.size=1:=fun e he=>by
   rcases List.mem_append.1 he with h | h
   ·obtain ⟨_,_,rfl⟩:=List.mem_map.1 h;rfl
   ·rw [(List.mem_replicate.1 h).2];rfl
  have hcell:(cellsOf ((hs++[h]).map (slB cols)++List.replicate (rows-(hs.length+1)) nilV)).toArray[0+hs.length*1]?=some (slB cols h):=by
   have hg:((hs++[h]).map (slB cols)++List.replicate (rows-(hs.length+1)) nilV)[hs.length]?=some (slB cols h):=by
    rw [List.getElem?_append_left (by simp),List.getElem?_map,List.getElem?_append_right (Nat.le_refl _)];simp
   have:=C7 _ hs.length 0 _ hesz' hg (by decide)
   rw [List.getElem?_toArray,show 0+hs.length*1=hs.length*1+0 by omega,this];rfl
  generalize hes':(hs++[h]).map (slB cols)++List.replicate (rows-(hs.length+1)) nilV=es' at hBg2 hcell hesz'
  refine .seq (.region (.mv rfl rfl (.mv rfl rfl (.ixB (i:=hs.length) un_M ty_V rfl rfl rfl hlt (.ld ty_V rfl rfl hBg2 hcell (.len un_V rfl rfl (.mv rfl rfl (.nil ?_))))))))
  have hge2:∀ k∈hs++[h],w2.heap.size≤k:=fun k hk=>by
   rcases List.mem_append.1 hk with h' | h'
   ·exact hge k h'
   ·have:=List.mem_singleton.1 h';omega
  have hnd2:(hs++[h]).Nodup:=List.nodup_append.2 ⟨hnd,by simp,fun a ha b hb=>by rw [List.mem_singleton.1 hb];exact fun e=>hhn (e▸ha)⟩
  refine .block (.loop (α:=Nat) (fun k=>[(7,.slice (some ⟨gb,0,none⟩) rows rows),(3,.pointer (some ⟨b3,0,none⟩)),(2,.int .i64 (cols:Nat)),(13,.int .i64 (rows:Nat)),(14,.int .i64 (hs.length:Nat)),(8,.int .i64 (hs.length:Nat)),(26,.int .i64 (cols:Nat)),(27,.int .i64 (k:Nat))])
   (fun k W=>Below w.heap.size w W∧k≤cols∧Kp (fun k=>k≠h) W2 W∧W2.heap.size≤W.heap.size∧FB eQ 55 (offM S gb (hs++[h])) W h (fil cols k (fun k=>qc (g hs.length k)) q0)) (fun k=>cols-k) 0 ?_ ?_ ?_)
  ·exact lkA rfl
  ·exact ⟨hB2,Nat.zero_le _,fun k c t f _ h=>h,Nat.le_refl _,by rw [H7];exact f4⟩
  rintro k W3 ⟨hB3,hk,hK,hsz3,hFB3⟩
  refine .seq (.region ?_)
  rcases Nat.lt_or_ge k cols with hlk | hgk
  rotate_left
  ·refine .lssF rfl rfl rfl (by omega) (.nil (.seq (.condF rfl (.exit ?_))))
   have:k=cols:=by omega
   subst this
   rw [N2] at hFB3
   refine .region (.add rfl rfl rfl (.mv rfl rfl (.nil ?_)))
   rw [wI (by omega)]
   refine ⟨rfl,hs++[h],A3 rfl (A3 rfl (A3 rfl (A3 rfl (A3 (by rw [List.length_append];rfl) AG9)))),⟨hB3,by rw [List.length_append];exact hlt,?_,hK.blk (show b3≠h by omega) k3,hnd2,hge2,fun i x hx=>?_⟩,by rw [List.length_append];show rows-(hs.length+1)<rows-hs.length;omega⟩
   ·rw [List.length_append]
    show Blk W3 gb _ (cellsOf ((hs++[h]).map (slB k)++List.replicate (rows-(hs.length+1)) nilV)).toArray
    rw [hes']
    exact hK.blk (show gb≠h by omega) hBg2
   ·rcases Nat.lt_or_ge i hs.length with hil | hil
    ·rw [List.getElem?_append_left hil] at hx
     exact (hrow2 i x hx).kpn hK (fun e=>hhn (e▸List.mem_iff_getElem?.2 ⟨i,hx⟩)) fun hS=>hS.2.2 (by simp)
    ·have hlt':=(List.getElem?_eq_some_iff.1 hx).1
     rw [List.length_append] at hlt'
     have:i=hs.length:=by simp at hlt';omega
     subst this
     rw [List.getElem?_append_right (Nat.le_refl _)] at hx
     simp at hx
     subst hx
     exact hFB3
  refine .lssT rfl rfl rfl (by omega) (.nil (.seq (.condT rfl (.skip (.seq (.block (.seq (.region (.mv rfl rfl (.asg rfl rfl (.nil ?_)))))))))))
  have hg3:=hK.blk (show gb≠h by omega) hBg2
  have k33:=hK.blk (show b3≠h by omega) k3
  refine .held follows true (fun W'=>Blk W' gb 32 (cellsOf es').toArray∧Blk W' b3 209 #[fv])
   [some _,some _,some _,some (.slice (some ⟨h,0,none⟩) cols cols),some _,some _,some fv,some _,some _,none,none,none] (by kernel_rfl)
   ⟨fun _ _=>v_mv rfl,fun _ _=>v_mv rfl,fun _ _=>H0 (i:=hs.length) un_M ty_V rfl rfl hlt,fun _ h=>v_ld ty_V rfl h.1 hcell,fun _ _=>v_mv rfl,fun _ _=>v_fa fld_FL0 rfl,fun _ h=>v_ld ty_FE rfl h.2 rfl,fun _ _=>v_mv rfl,fun _ _=>v_mv rfl,trivial⟩ ?_
  intro W4 e4 _
  have hB4:Below w.heap.size w W4:=hB3.trans (e4.mono hB3.size)
  have hs4:=e4.size
  have hge3:∀ k∈hs++[h],w2.heap.size≤k∧k<W4.heap.size:=fun k hk=>⟨hge2 k hk,by
   rcases List.mem_append.1 hk with h' | h'
   ·have:=hlW k h';omega
   ·have:=List.mem_singleton.1 h';omega⟩
  have hcall:=hf W4 (fun k=>offM S gb (hs++[h]) k∧k≠h) hs.length k hB4 (fun j hj hl=>⟨⟨hj,by omega,fun hm=>by have:=hge3 j hm;omega⟩,by omega⟩) (fun j hj=>⟨⟨up j (by omega),by omega,fun hm=>by have:=hge3 j hm;omega⟩,by omega⟩) hlt hlk
  subst hfv
  refine .gv ⟨hg3.ext e4,k33.ext e4⟩ rfl (Y5 [_,_] rfl hE rfl hcall) ?_
  rintro v5 W5 ⟨e5,h5⟩
  have e45:=e4.trans e5
  refine .gv ⟨hg3.ext e45,k33.ext e45⟩ rfl (H0 (i:=k) un_V ty_Q rfl rfl hlk).gv ?_
  rintro _ _ ⟨rfl,rfl⟩
  refine .gv ⟨hg3.ext e45,k33.ext e45⟩ rfl (AA9 (E:=eQ) (i:=k) (by decide) ty_Q rfl rfl (hFB3.ext e45) rfl (by rw [D6];exact hlk) (Nat.zero_add _) h5) ?_
  rintro _ W6 ⟨hFB6,u6⟩
  rw [I9 (f:=fun k=>qc (g hs.length k))] at hFB6
  refine .nil (.inl rfl) ?_
  refine .region (.add rfl rfl rfl (.mv rfl rfl (.nil ?_)))
  rw [wI (by omega)]
  have hs6:=u6.size
  have hs5:=e5.size
  refine ⟨rfl,k+1,lkA rfl,⟨u6.below (hB3.trans (e45.mono hB3.size)) (by omega),hlk,?_,by omega,hFB6⟩,by show cols-(k+1)<cols-k;omega⟩
  intro j c t f hj hc
  exact (u6.block j hj).trans ((e45.block j (Array.getElem?_eq_some_iff.1 (hK j c t f hj hc)).1).trans (hK j c t f hj hc))
 ·rintro hs W ⟨hB,hge,hM⟩
  refine .seq (.region (.mv rfl rfl (.asg rfl rfl (.nil (.ret ?_)))))
  exact .plain [_] Tryz.results207 ⟨rfl,trivial⟩ ⟨hB,gb,hs,rfl,by omega,hge,hM⟩
theorem AW2 {S:Nat→Prop} {w:World} {f:FuncId} {cap:Array Value} {rows cols:Nat} {g:Nat→Nat→Rat} (up:Up S w) (hr:rows≤1000000000) (hc:cols≤1000000000) (hE:Ent Tryz.prog f)
  (hf:∀ (W:World) (T:Nat→Prop) (i k:Nat),Below w.heap.size w W→(∀ j,S j→j<w.heap.size→T j)→Up T W→i<rows→k<cols→CR Tryz.prog f ([.int .i64 (i:Nat),.int .i64 (k:Nat)].toArray++cap) W (eQ.at T (qc (g i k)))) :
  CR Tryz.prog 207 #[.agg #[.func (.func f) #[] cap],.int .i64 rows,.int .i64 cols] w (FBat 32 S w.heap.size rows (tabM rows cols g)) :=
 (AW3 up hr hc hE hf).mono fun _ _ _ h=>h.toF up (by omega)
theorem Av1 {S:Nat→Prop} {w:World} {f:FuncId} {cap:Array Value} {rows cols:Nat} {g:Nat→Nat→Rat} (up:Up S w) (hr:rows≤1000000000) (hc:cols≤1000000000) (hE:Ent Tryz.prog f)
  (hf:∀ (W:World) (T:Nat→Prop) (i k:Nat),Below w.heap.size w W→(∀ j,S j→j<w.heap.size→T j)→Up T W→i<rows→k<cols→CR Tryz.prog f ([.int .i64 (i:Nat),.int .i64 (k:Nat)].toArray++cap) W (eQ.at T (qc (g i k)))) :
  CR Tryz.prog 207 #[.agg #[.func (.func f) #[] cap],.int .i64 rows,.int .i64 cols] w (eM.at S (tabM rows cols g)) :=
 (AW2 up hr hc hE hf).mono fun _ _ _ h=>h.toR up (A5 _ _ _) (by omega)
end Go.Proofs.YtfilidfomgfnhaaGreat

namespace Go.Proofs.YtfilidfomgfnhaaGreat
open Go Go.Kx Go.RowKit
theorem AV5:tyOf Tryz.prog 209=some (true,1):=by kernel_rfl
theorem AX4:zeroOf Tryz.prog 209=some (.agg #[.nilFunc]):=by kernel_rfl
theorem Ak6 {f:FuncId} {cap:Array Value}:bldOf Tryz.prog 209 [(0,.func (.func f) #[] cap)]=some #[.func (.func f) #[] cap]:=by kernel_rfl
/-- a matrix read beneath a world -/
theorem Aw8 {S T:Nat→Prop} {w W:World} {B:Nat} {vm:Value} {m:List (List QV)} (h:eM.R S w vm m) (hB:Below B w W) (hle:w.heap.size≤B) (hT:∀ k,S k→k<w.heap.size→T k):eM.R T W vm m:=by
 have h1:=ER.lt eM h
 have h2:eM.R (fun k=>S k∧k<w.heap.size) W vm m:=eM.keep (fun k c t f hk hc=>(hB.block k (by have:=hk.2;omega)).trans hc) h1
 exact eM.mono (fun k _ hk=>hT k hk.1 hk.2) h2
theorem Ar1:Ent Tryz.prog 213:=A0 Tryz.func213 (by kernel_rfl) rfl
theorem Aq9 {S:Nat→Prop} {w:World} {vm:Value} {m:List (List QV)} {i k:Int} {b L:Nat} (up:Up S w) (hb:Blk w b 28 #[vm]) (hm:eM.R S w vm m) (hk:mk_ L m) (hL:1≤L) (hL2:L≤10000000000) :
  CR Tryz.prog 213 #[.int .i64 i,.int .i64 k,.pointer (some ⟨b,0,none⟩)] w (eQ.at S (qc (rmI m i k))):=by
 refine enter Tryz.func213 rfl Tryz.ntmps213 rfl ?_
 refine .seq (.region (.alloc rfl B7 fun w1 b5 n1=>.nil ?_))
 obtain ⟨e1,k5,hb5,hs1⟩:=n1
 have hS5:¬ Sx S w.heap.size w1.heap.size b5:=Sx.no (by omega) (by omega)
 have up1:Up (Sx S w.heap.size w1.heap.size) w1:=Sx.up up (Nat.le_refl _) e1.size
 have hm1:=(ER.par eM hm w1.heap.size).ext e1
 refine .seq (.region (.ld ty_M rfl rfl (hb.ext e1) rfl (.mv rfl rfl (.mv rfl rfl ?_))))
 refine .call _ rfl AC2 rfl (AA7 up1 hm1 hk hL hL2) fun v2 w2 e2 h2=>?_
 refine .storeA (E:=eQ) ty_Q rfl rfl (k5.ext e2) rfl rfl h2 hS5 fun w3 k3 u3 h3=>.nil (.ret ?_)
 exact .cell Tryz.results213 rfl ty_Q rfl rfl k3 h3 ⟨u3.below (e1.trans e2) (by omega),h3.out⟩
def cutN (n:Int):Nat:=(max 0 (min n 1024)).toNat
theorem AO1 (n:Int):(max 0 (min n 1024))=((cutN n:Nat):Int):=by unfold cutN;omega
theorem Aa2 (n:Int):cutN n≤1024:=by unfold cutN;omega
theorem Ab2:Ent Tryz.prog 156:=A0 Tryz.func156 (by kernel_rfl) rfl
theorem AT7 {S:Nat→Prop} {w:World} {vm:Value} {m:List (List QV)} {r c:Int} {L:Nat} (up:Up S w) (hm:eM.R S w vm m) (hk:mk_ L m) (hL:1≤L) (hL2:L≤10000000000) :
  CR Tryz.prog 156 #[vm,.int .i64 r,.int .i64 c] w (MBat 32 55 S w.heap.size (cutN r) (cutN c) (tabM (cutN r) (cutN c) (rm m))):=by
 obtain ⟨am,cm,hvm,_⟩:=RL.len hm
 have hcells:vm.cells=#[vm]:=by rw [hvm];rfl
 have hr:=Aa2 r
 have hc:=Aa2 c
 refine enter Tryz.func156 rfl Tryz.ntmps156 rfl ?_
 refine .seq (.region (.box rfl rfl fun w1 b3 n1=>.asg rfl rfl (.nil ?_)))
 obtain ⟨e1,k3,hb3,hs1⟩:=n1
 rw [hcells] at k3
 refine .seq (.region (.mkf [] [_] rfl rfl rfl rfl (.bld _ rfl rfl Ak6 (.alloc rfl AX4 fun w2 b7 n2=>?_))))
 obtain ⟨e2,k7,hb7,hs2⟩:=n2
 refine .store AV5 rfl rfl k7 rfl (by simp [Value.cells]) (by simp [one1,Value.cells]) fun w3 k7 u3=>.nil ?_
 have x3:Ext w w3:=u3.below (e1.trans e2) (by omega)
 have k3:=(k3.ext e2).upd u3 (show b3≠b7 by omega)
 have hs3:w3.heap.size=w2.heap.size:=u3.size
 replace k7:Blk w3 b7 209 #[.func (.func 213) #[] #[.pointer (some ⟨b3,0,none⟩)]]:=k7
 refine .seq ?_
 refine .par follows 5 [.inl (.agg #[.func (.func 213) #[] #[.pointer (some ⟨b3,0,none⟩)]]),.inl _,.inl (.int .i64 (cutN r)),.inl _,.inl (.int .i64 (cutN c))] [[],[],[(11,1)],[],[(13,3)]] (by kernel_rfl) ⟨
  fun w e=>(B8 AV5 rfl (k7.ext e) rfl).ob,fun w e=>(v_mv rfl).ob,fun w e=>(A2 _ Y9 rfl (by rw [←AO1];exact X9)).obIs,
  fun w e=>(v_mv rfl).ob,fun w e=>(A2 _ Y9 rfl (by rw [←AO1];exact X9)).obIs,trivial⟩ ?_
 intro w4 e4
 have x4:=x3.trans e4
 refine .call _ rfl AS4 rfl (AW3 (S:=S) (g:=rm m) (up.ext x4.size) (by omega) (by omega) Ar1 fun W T i k hB hT hup hi hk'=>?_) fun v5 w5 e5 h5=>.asg rfl rfl (.nil (.ret ?_))
 ·have hx4:=x4.size
  have hbl:=(k3.ext e4).lt
  have:=Aq9 (i:=(i:Int)) (k:=(k:Int)) hup ((hB.block b3 hbl).trans (k3.ext e4)) (Aw8 (hm.ext x4) hB (Nat.le_refl _) hT) hk hL hL2
  rw [AN2] at this
  exact this
 ·obtain ⟨gb,hs,hv,hgb,hge,hF⟩:=h5
  exact .plain [_] Tryz.results156 ⟨rfl,trivial⟩ ⟨x4.trans e5,gb,hs,hv,by have:=x4.size;omega,fun k hk=>by have:=hge k hk;have:=x4.size;omega,hF⟩
def idn (i k:Nat):Rat:=if i=k then 1 else 0
theorem Ah3:Ent Tryz.prog 215:=A0 Tryz.func215 (by kernel_rfl) rfl
theorem Ag1 {S:Nat→Prop} {w:World} {i k:Nat} (up:Up S w):CR Tryz.prog 215 #[.int .i64 i,.int .i64 k] w (eQ.at S (qc (idn i k))):=by
 refine enter Tryz.func215 rfl Tryz.ntmps215 rfl ?_
 refine .seq (.region (.alloc rfl B7 fun w1 b4 n1=>.nil ?_))
 obtain ⟨e1,k4,hb4,hs1⟩:=n1
 have hS4:¬ Sx S w.heap.size w1.heap.size b4:=Sx.no (by omega) (by omega)
 have up1:Up (Sx S w.heap.size w1.heap.size) w1:=Sx.up up (Nat.le_refl _) e1.size
 refine .seq (.seq (.region (.mv rfl rfl (.mv rfl rfl ?_))))
 by_cases h:i=k
 ·have hid:idn i k=((1:Int):Rat):=by unfold idn;rw [if_pos h];rfl
  refine .eqlT rfl rfl rfl (by omega) (.nil (.condT rfl (.seq (.region ?_))))
  refine .call _ rfl C1 rfl (C0 (n:=1) up1 (by omega) (by omega)) fun v2 w2 e2 h2=>?_
  refine .storeA (E:=eQ) ty_Q rfl rfl (k4.ext e2) rfl rfl h2 hS4 fun w3 k3 u3 h3=>.nil (.ret ?_)
  exact .cell Tryz.results215 rfl ty_Q rfl rfl k3 h3 ⟨u3.below (e1.trans e2) (by omega),by rw [hid];exact h3.out⟩
 ·have hid:qc (idn i k)=q0:=by unfold idn;rw [if_neg h,O2]
  refine .eqlF rfl rfl rfl (by omega) (.nil (.condF rfl (.skip (.seq (.region (.bld _ rfl rfl L6 ?_))))))
  refine .storeA (E:=eQ) ty_Q rfl rfl k4 rfl rfl (S:=Sx S w.heap.size w1.heap.size) zq_R hS4 fun w3 k3 u3 h3=>.nil (.ret ?_)
  exact .cell Tryz.results215 rfl ty_Q rfl rfl k3 h3 ⟨u3.below e1 (by omega),by rw [hid];exact h3.out⟩
theorem AS5:Ent Tryz.prog 158:=A0 Tryz.func158 (by kernel_rfl) rfl
theorem AQ2 {S:Nat→Prop} {w:World} {n:Int} (up:Up S w):CR Tryz.prog 158 #[.int .i64 n] w (eM.at S (tabM (cutN n) (cutN n) idn)):=by
 have hn:=Aa2 n
 refine enter Tryz.func158 rfl Tryz.ntmps158 rfl ?_
 refine .seq (.region (.asg rfl rfl (.nil (.seq (.region (.bld _ rfl rfl Ak6 (.alloc rfl AX4 fun w2 b7 n2=>?_)))))))
 obtain ⟨e2,k7,hb7,hs2⟩:=n2
 refine .store AV5 rfl rfl k7 rfl (by simp [Value.cells]) (by simp [one1,Value.cells]) fun w3 k7 u3=>.nil ?_
 have x3:Ext w w3:=u3.below e2 (by omega)
 replace k7:Blk w3 b7 209 #[.func (.func 215) #[] #[]]:=k7
 refine .seq ?_
 refine .par follows 5 [.inl (.agg #[.func (.func 215) #[] #[]]),.inl _,.inl (.int .i64 (cutN n)),.inl _,.inl (.int .i64 (cutN n))] [[],[],[(6,1)],[],[(8,3)]] (by kernel_rfl) ⟨
  fun w e=>(B8 AV5 rfl (k7.ext e) rfl).ob,fun w e=>(v_mv rfl).ob,fun w e=>(A2 _ Y9 rfl (by rw [←AO1];exact X9)).obIs,
  fun w e=>(v_mv rfl).ob,fun w e=>(A2 _ Y9 rfl (by rw [←AO1];exact X9)).obIs,trivial⟩ ?_
 intro w4 e4
 have x4:=x3.trans e4
 refine .call _ rfl AS4 rfl (Av1 (S:=S) (g:=idn) (up.ext x4.size) (by omega) (by omega) Ah3 fun W T i k hB hT hup hi hk'=>?_) fun v5 w5 e5 h5=>.asg rfl rfl (.nil (.ret ?_))
 ·have:=Ag1 (S:=T) (w:=W) (i:=i) (k:=k) hup
  exact this
 exact .plain [_] Tryz.results158 ⟨rfl,trivial⟩ ⟨x4.trans e5,h5⟩
end Go.Proofs.YtfilidfomgfnhaaGreat

namespace Go.Kx
open Go Go.RowKit
/-- a new block, among others -/
@[reducible] def NewP (B:Nat) (t:TypeId) (cs:Array Value):Value→World→Prop:=fun v W=>∃ b,v=.pointer (some ⟨b,0,none⟩)∧B≤b∧Blk W b t cs
theorem AA4 {P:Program} {σ:Env} {w:World} {d:Option Tmp} {ty:TypeId} {pos:String} {af:Array Edge} {g:Option (Nat×Bool)} {t:TypeId} {z:Value} {B:Nat} (hz:zeroOf P t=some z) (hB:B≤w.heap.size) :
  Gv P ⟨d,.alloc t,ty,pos,af,g⟩ σ w fun v' w'=>Ext w w'∧Sp.ok (.inr (NewP B t z.cells)) v' w' :=
 (An6 hz).mono fun v' w' ⟨b,hv,hn⟩=>⟨hn.1,fun w'' e=>⟨b,hv,by have:=hn.2.2.1;omega,hn.2.1.ext e⟩⟩
theorem F6 {n:Nat} {f g:Nat→Rat} (h:∀ k,k<n→f k=g k):tab n f=tab n g:=by
 unfold tab
 apply List.map_congr_left
 intro k hk
 rw [h k (List.mem_range.1 hk)]
end Go.Kx
namespace Go.Proofs.YtfilidfomgfnhaaGreat
open Go Go.Kx Go.RowKit
/-- the block matrix -/
def catM (a b:List (List QV)) (i k:Nat):Rat:=if k<colsOf a then rm a i k else rm b i (k-colsOf a)
theorem Ar2:Ent Tryz.prog 206:=A0 Tryz.func206 (by kernel_rfl) rfl
theorem Ar3 {S:Nat→Prop} {w:World} {va vb:Value} {a b:List (List QV)} {i k:Nat} {bl ba bb L:Nat} (up:Up S w) (kl:Blk w bl 3 #[.int .i64 (colsOf a)]) (ka:Blk w ba 28 #[va]) (kb:Blk w bb 28 #[vb]) (ha:eM.R S w va a) (hb:eM.R S w vb b) (hka:mk_ L a) (hkb:mk_ L b) (hL:1≤L) (hL2:L≤10000000000) (hc:colsOf a≤1000000000) (hk:k≤2000000000) :
  CR Tryz.prog 206 #[.int .i64 i,.int .i64 k,.pointer (some ⟨bl,0,none⟩),.pointer (some ⟨ba,0,none⟩),.pointer (some ⟨bb,0,none⟩)] w (eQ.at S (qc (catM a b i k))):=by
 refine enter Tryz.func206 rfl Tryz.ntmps206 rfl ?_
 refine .seq (.region (.alloc rfl B7 fun w1 b5 n1=>.nil ?_))
 obtain ⟨e1,k5,hb5,hs1⟩:=n1
 have hS5:¬ Sx S w.heap.size w1.heap.size b5:=Sx.no (by omega) (by omega)
 have up1:Up (Sx S w.heap.size w1.heap.size) w1:=Sx.up up (Nat.le_refl _) e1.size
 have ha1:=(ER.par eM ha w1.heap.size).ext e1
 have hb1:=(ER.par eM hb w1.heap.size).ext e1
 refine .seq (.seq (.region (.mv rfl rfl (.ld B0 rfl rfl (kl.ext e1) rfl ?_))))
 by_cases h:k<colsOf a
 ·refine .lssT rfl rfl rfl (by omega) (.nil (.condT rfl (.seq (.region (.ld ty_M rfl rfl (ka.ext e1) rfl (.mv rfl rfl (.mv rfl rfl ?_)))))))
  refine .call _ rfl AC2 rfl (AA7 up1 ha1 hka hL hL2) fun v2 w2 e2 h2=>?_
  refine .storeA (E:=eQ) ty_Q rfl rfl (k5.ext e2) rfl rfl h2 hS5 fun w3 k3 u3 h3=>.nil (.ret ?_)
  have hv:catM a b i k=rmI a i k:=by unfold catM;rw [if_pos h,AN2]
  exact .cell Tryz.results206 rfl ty_Q rfl rfl k3 h3 ⟨u3.below (e1.trans e2) (by omega),by rw [hv];exact h3.out⟩
 ·refine .lssF rfl rfl rfl (by omega) (.nil (.condF rfl (.skip (.seq (.region (.ld ty_M rfl rfl (kb.ext e1) rfl (.mv rfl rfl (.mv rfl rfl (.ld B0 rfl rfl (kl.ext e1) rfl (.sub rfl rfl rfl ?_))))))))))
  rw [wI (by omega),show (k:Int)-(colsOf a:Int)=((k-colsOf a:Nat):Int) by omega]
  refine .call _ rfl AC2 rfl (AA7 up1 hb1 hkb hL hL2) fun v2 w2 e2 h2=>?_
  refine .storeA (E:=eQ) ty_Q rfl rfl (k5.ext e2) rfl rfl h2 hS5 fun w3 k3 u3 h3=>.nil (.ret ?_)
  have hv:catM a b i k=rmI b i (k-colsOf a:Nat):=by unfold catM;rw [if_neg h,AN2]
  exact .cell Tryz.results206 rfl ty_Q rfl rfl k3 h3 ⟨u3.below (e1.trans e2) (by omega),by rw [hv];exact h3.out⟩
theorem Ab4:Ent Tryz.prog 153:=A0 Tryz.func153 (by kernel_rfl) rfl
theorem AT8 {S:Nat→Prop} {w:World} {va vb:Value} {a b:List (List QV)} {L:Nat} (up:Up S w) (ha:eM.R S w va a) (hb:eM.R S w vb b) (hka:mk_ L a) (hkb:mk_ L b) (hL:1≤L) (hL2:L≤10000000000) (hra:a.length≤100000000) (hrb:b.length≤100000000) (hca:colsOf a≤100000000) (hcb:colsOf b≤100000000) :
  CR Tryz.prog 153 #[va,vb] w (FBat 32 S w.heap.size (max a.length b.length) (tabM (max a.length b.length) (colsOf a+colsOf b) (catM a b))):=by
 obtain ⟨aa,ca,hva,_⟩:=RL.len ha
 obtain ⟨ab,cb,hvb,_⟩:=RL.len hb
 have hcells:va.cells=#[va]:=by rw [hva];rfl
 have hcells':vb.cells=#[vb]:=by rw [hvb];rfl
 refine enter Tryz.func153 rfl Tryz.ntmps153 rfl ?_
 refine .seq (.region (.box rfl rfl fun w1 b2 n1=>.box rfl rfl fun w2 b3 n2=>.asg rfl rfl (.nil ?_)))
 obtain ⟨e1,k2,hb2,hs1⟩:=n1
 obtain ⟨e2,k3,hb3,hs2⟩:=n2
 rw [hcells] at k2
 rw [hcells'] at k3
 have x2:=e1.trans e2
 have k2:=k2.ext e2
 refine .seq ?_
 refine .par follows 5 [.inl va,.inl (.int .i64 (colsOf a)),.inl vb,.inl (.int .i64 (colsOf b)),.inr (NewP w2.heap.size 3 #[.int .i64 0])] [[],[(8,0)],[],[(10,2)],[]] (by kernel_rfl) ⟨
  fun w e=>(v_ld ty_M rfl (k2.ext e) rfl).ob,
  fun w e=>(A2 _ AF1 rfl (AE4 ((ha.ext x2).ext e))).obIs,
  fun w e=>(v_ld ty_M rfl (k3.ext e) rfl).ob,
  fun w e=>(A2 _ AF1 rfl (AE4 ((hb.ext x2).ext e))).obIs,
  fun w e=>AA4 AO4 e.size,trivial⟩ ?_
 intro w3 e3 x4 hx4
 obtain ⟨b5,rfl,hb5,k5⟩:=hx4
 refine .store B0 rfl rfl k5 rfl (by simp) (by simp [one1,Value.cells]) fun w4 k5 u4=>.asg rfl rfl (.nil ?_)
 have x3:=x2.trans e3
 have x4:Ext w w4:=u4.below x3 (by have:=x2.size;omega)
 have k2:=(k2.ext e3).upd u4 (show b2≠b5 by omega)
 have k3:=(k3.ext e3).upd u4 (show b3≠b5 by omega)
 replace k5:Blk w4 b5 3 #[.int .i64 (colsOf a)]:=k5
 refine .seq (.region (.mkf [] [_,_,_] rfl rfl rfl rfl (.bld _ rfl rfl Ak6 (.alloc rfl AX4 fun w5 b7 n5=>?_))))
 obtain ⟨e5,k7,hb7,hs5⟩:=n5
 refine .store AV5 rfl rfl k7 rfl (by simp [Value.cells]) (by simp [one1,Value.cells]) fun w6 k7 u6=>.nil ?_
 have hl2:=k2.lt
 have hl3:=k3.lt
 have hl5:=k5.lt
 have x6:Ext w w6:=u6.below (x4.trans e5) (by have:=x4.size;omega)
 have k2:=(k2.ext e5).upd u6 (show b2≠b7 by omega)
 have k3:=(k3.ext e5).upd u6 (show b3≠b7 by omega)
 have k5:=(k5.ext e5).upd u6 (show b5≠b7 by omega)
 refine .seq (.region (.ldA AV5 rfl rfl k7 rfl (.ld ty_M rfl rfl k2 rfl (.lenR un_M rfl rfl (ha.ext x6) (.ld ty_M rfl rfl k3 rfl (.lenR un_M rfl rfl (hb.ext x6) (.max_ rfl rfl rfl (.ld B0 rfl rfl k5 rfl (.mv rfl rfl (.add rfl rfl rfl ?_))))))))))
 rw [wI (by omega),show (max (a.length:Int) (b.length:Int))=((max a.length b.length:Nat):Int) by omega,←Int.natCast_add]
 refine .call _ rfl AS4 rfl (AW2 (S:=S) (g:=catM a b) (f:=206) (cap:=#[.pointer (some ⟨b5,0,none⟩),.pointer (some ⟨b2,0,none⟩),.pointer (some ⟨b3,0,none⟩)]) (up.ext x6.size) (by omega) (by omega) Ar2 fun W T i k hB hT hup hi hk'=>?_) fun v8 w8 e8 h8=>.asg rfl rfl (.nil (.ret ?_))
 ·have:=Ar3 (S:=T) (w:=W) (i:=i) (k:=k) hup ((hB.block b5 k5.lt).trans k5) ((hB.block b2 k2.lt).trans k2) ((hB.block b3 k3.lt).trans k3) (Aw8 (ha.ext x6) hB (Nat.le_refl _) hT) (Aw8 (hb.ext x6) hB (Nat.le_refl _) hT) hka hkb hL hL2 (by omega) (by omega)
  exact this
 ·obtain ⟨gb,hv,hgb,hF⟩:=h8
  exact .plain [_] Tryz.results153 ⟨rfl,trivial⟩ ⟨x6.trans e8,gb,hv,by have:=x6.size;omega,hF⟩
theorem dot_eq {a b:List QV}:sumN (min a.length b.length) (fun k=>rv a k*rv b k)=sumN b.length fun k=>rv a k*rv b k:=by
 refine (As9 (Nat.min_le_right _ _) fun k h1 h2=>?_).symm
 rw [AE2 (a:=a) (by omega),Rat.zero_mul]
theorem Ab3:Ent Tryz.prog 95:=A0 Tryz.func95 (by kernel_rfl) rfl
theorem AZ0 {S T0:Nat→Prop} {w:World} {vm vx:Value} {m:List (List QV)} {x:List QV} {L:Nat} (upo:Up T0 w) (hm:eM.R S w vm m) (hx:eV.R S w vx x) (hkm:mk_ L m) (hkx:vk L x) (hL:1≤L) (hL2:L≤1000000) (hr:m.length≤1000000) (hl:x.length≤1000) :
  CR Tryz.prog 95 #[vm,vx] w (eV.at T0 (tab m.length fun i=>sumN x.length fun k=>rm m i k*rv x k)):=by
 have hm0:=ER.lt eM hm
 have hx0:=ER.lt eV hx
 have hM:∀ {W:World},Below w.heap.size w W→eM.R (fun k=>S k∧k<w.heap.size) W vm m:=fun hB=>eM.keep (fun k c t f hk h=>(hB.block k hk.2).trans h) hm0
 have hX:∀ {W:World},Below w.heap.size w W→eV.R (fun k=>S k∧k<w.heap.size) W vx x:=fun hB=>eV.keep (fun k c t f hk h=>(hB.block k hk.2).trans h) hx0
 refine enter Tryz.func95 rfl Tryz.ntmps95 rfl ?_
 refine .seq (.region (.asg rfl rfl (.nil (.seq (.region (.mv rfl rfl (.lenR un_M rfl rfl hm ?_)))))))
 refine .make_ _ _ un_V K4 rfl (by decide) rfl rfl rfl (Nat.le_refl _) (by omega) (by omega) fun w1 g n1=>.asg rfl rfl (.nil ?_)
 have f1:FB eQ 55 T0 w1 g (List.replicate m.length q0):=FB.made n1 zq_R
 obtain ⟨e1,k1,hg,hs1⟩:=n1
 generalize hf:(fun i=>qc (sumN x.length fun k=>rm m i k*rv x k))=f
 refine .mid (α:=Unit) (fun _=>[(5,.slice (some ⟨g,0,none⟩) m.length m.length)]) (fun _ W=>Below w.heap.size w W∧FB eQ 55 T0 W g ((List.range m.length).map f)) ?_ ?_
 ·refine .seq (.region (.mv rfl rfl (.lenR un_M rfl rfl (hM e1) (.mv rfl rfl (.nil ?_)))))
  refine .block (.loop (α:=Nat) (fun i=>[(5,.slice (some ⟨g,0,none⟩) m.length m.length),(1,vx),(11,vm),(12,.int .i64 (m.length:Nat)),(13,.int .i64 (i:Nat))])
   (fun i W=>Below w.heap.size w W∧i≤m.length∧FB eQ 55 T0 W g (fil m.length i f q0)) (fun i=>m.length-i) 0 ?_ ?_ ?_)
  ·exact lkA rfl
  ·exact ⟨e1,Nat.zero_le _,by rw [H7];exact f1⟩
  ·rintro i W ⟨hB,hi,hF⟩
   have hsz:=hB.size
   have hgl:=hF.lt
   by_cases hlt:i<m.length
   ·refine .seq (.region (.lssT rfl rfl rfl (by omega) (.nil (.seq (.condT rfl (.skip (.seq (.block (.seq (.region (.mv rfl rfl ?_)))))))))))
    refine .ixN (i:=i) un_M ty_V rfl rfl (hM hB) rfl (A9 (z:=[]) hlt) fun p hp=>.ldE ty_V rfl rfl hp fun e he=>?_
    refine .asg rfl rfl (.asg rfl rfl (.nil (.region (.mv rfl rfl (.mv rfl rfl (.mv rfl rfl (.mv rfl rfl ?_)))))))
    refine .call _ rfl AX2 rfl (AV0 (T0:=fun k=>T0 k∧k≠g) (fun k hk=>⟨upo k (by omega),by omega⟩) he (hX hB) (by omega) (hkm.get i) hkx hL (by omega)) fun v2 W2 e2 h2=>?_
    rw [dot_eq] at h2
    refine .ixB (i:=i) un_V ty_Q rfl rfl rfl hlt ?_
    refine .storeF (E:=eQ) (i:=i) (z:=f i) (by decide) ty_Q rfl rfl (hF.ext e2) rfl (by rw [D6];exact hlt) (Nat.zero_add _) (by rw [←hf];exact h2) fun W3 hF3 u3=>.nil ?_
    rw [I9] at hF3
    refine .region (.add rfl rfl rfl (.mv rfl rfl (.nil ?_)))
    rw [wI (by omega)]
    exact ⟨rfl,i+1,lkA rfl,⟨u3.below (hB.trans (e2.mono hsz)) (by omega),hlt,hF3⟩,by show m.length-(i+1)<m.length-i;omega⟩
   ·refine .seq (.region (.lssF rfl rfl rfl (by omega) (.nil (.seq (.condF rfl (.exit ?_))))))
    have:i=m.length:=by omega
    subst this
    rw [N2] at hF
    exact ⟨rfl,(),lkA rfl,hB,hF⟩
 ·rintro _ W ⟨hB,hF⟩
  refine .seq (.region (.mv rfl rfl (.asg rfl rfl (.nil (.ret ?_)))))
  have hR:=hF.toR (c:=m.length) (hsz:=by decide) (upo g (by omega)) (by simp) (by simp;omega)
  have hlen:((List.range m.length).map f).length=m.length:=by simp
  rw [hlen] at hR
  refine .plain [_] Tryz.results95 ⟨rfl,trivial⟩ ⟨hB,?_⟩
  unfold tab
  rw [hf];exact hR
end Go.Proofs.YtfilidfomgfnhaaGreat

namespace Go.Proofs.YtfilidfomgfnhaaGreat
open Go Go.Kx Go.RowKit
end Go.Proofs.YtfilidfomgfnhaaGreat

namespace Go.Proofs.YtfilidfomgfnhaaGreat
open Go Go.Kx Go.RowKit
theorem bsl_M1 {a:Option Addr} {n c:Nat}:bslOf Tryz.prog 28 1 [(0,.slice a n c)]=some (32,#[.slice a n c]):=by kernel_rfl
def eqM (a b:List (List QV)):Prop:=∀ i k,rm a i k=rm b i k
noncomputable instance (a b:List (List QV)):Decidable (eqM a b):=Classical.propDecidable _
end Go.Proofs.YtfilidfomgfnhaaGreat

namespace Go.Kx
open Go Go.RowKit
/-- equal or not -/
noncomputable def same {α:Type} (a b:α):Bool:=@decide (a=b) (Classical.propDecidable _)
end Go.Kx
namespace Go.Proofs.YtfilidfomgfnhaaGreat
open Go Go.Kx Go.RowKit
end Go.Proofs.YtfilidfomgfnhaaGreat

namespace Go.Kx
def digH (l:List Nat):Prop:=∀ x∈l,x<65536
def hlv (l:List Nat):List Nat:=l.flatMap fun x=>[x % 65536,x / 65536]
end Go.Kx

namespace Go.Kx
open Go Go.RowKit
abbrev hvv (x:Nat):Value:=.int .i64 x
end Go.Kx
namespace Go.Proofs.YtfilidfomgfnhaaGreat
open Go Go.Kx Go.RowKit
end Go.Proofs.YtfilidfomgfnhaaGreat

namespace Go.Proofs.YtfilidfomgfnhaaGreat
open Go Go.Kx Go.RowKit
end Go.Proofs.YtfilidfomgfnhaaGreat

namespace Go.Kx
open Go
def intsV (l:List Int):List QV:=tab l.length fun k=>((l.getD k 0:Int):Rat)
end Go.Kx
namespace Go.Proofs.YtfilidfomgfnhaaGreat
open Go Go.Kx Go.RowKit
end Go.Proofs.YtfilidfomgfnhaaGreat

namespace Go.Proofs.YtfilidfomgfnhaaGreat
open Go Go.Kx Go.RowKit
section
variable {H:Type} {enc:TypeId×Value→H} {W:World}
end
end Go.Proofs.YtfilidfomgfnhaaGreat

namespace Go.Kx
open Go Go.RowKit Go.ChangeShapes Go.WideShapes
section
variable {H:Type} {enc:TypeId×Value→H} {P:Program} {W:World}
theorem Opn.argS {α:Type} {E:ER α} {t:TypeId} {fs:Array Field} {Z:DataW H→α→Prop} {r:Reach} {b0:Nat} {v:Value} {d:DataW H} {ps:List MemPlace} (hA:E.isA=true) (ht:P.underlying t=some (.struct fs)) (h:Opn enc P W E t Z)
  (hval:Value.okWide P W r b0 t v) (hd:DataW.Trod enc P W 0 (fun _=>true) true t v d ps) (hfz:W.noneFrozen ps):∃ a,E.R (fun _=>True) W v a∧Z d a:=by
 obtain ⟨cs,rfl,_⟩:=okWide_struct ht hval
 obtain ⟨fuel,hf⟩:=hd
 obtain ⟨e',a,h1,h2,h3⟩:=h fuel _ _ hf hfz
 have hs:=shpA hA h2
 have hc:e'.cells=cs:=Array.toList_inj.1 h1
 rw [hc] at hs
 subst hs
 exact ⟨a,h2,h3⟩
end
section
open Go.ChangeShapes
variable {H:Type} {enc:TypeId×Value→H} {P:Program} {w:World} {base:Nat} {spare:Nat→Bool} {held:Bool}
theorem AX7 {t t' t'' t3 t4:TypeId} {args:Array Value} {ds:List (DataW H)} {ps:List MemPlace} (h:DataW.TrodAll enc P w base spare held [t,t',t'',t3,t4] args.toList ds ps) :
  ∃ v v' v'' v3 v4 d d' d'' d3 d4 p p' p'' p3 p4,args=#[v,v',v'',v3,v4]∧ds=[d,d',d'',d3,d4]∧ps=p++p'++p''++p3++p4∧DataW.Trod enc P w base spare held t v d p∧DataW.Trod enc P w base spare held t' v' d' p'∧DataW.Trod enc P w base spare held t'' v'' d'' p''∧DataW.Trod enc P w base spare held t3 v3 d3 p3∧DataW.Trod enc P w base spare held t4 v4 d4 p4:=by
 obtain ⟨v,vs,d,ds1,p,q,hargs,rfl,rfl,hd,hrest⟩:=trodAll_cons h
 obtain ⟨v',vs',d',ds2,p',q',rfl,rfl,rfl,hd',hrest'⟩:=trodAll_cons hrest
 obtain ⟨v'',vs'',d'',ds3,p'',q'',rfl,rfl,rfl,hd'',hrest''⟩:=trodAll_cons hrest'
 obtain ⟨v3,vs3,d3,ds4,p3,q3,rfl,rfl,rfl,hd3,hrest3⟩:=trodAll_cons hrest''
 obtain ⟨v4,vs4,d4,ds5,p4,q4,rfl,rfl,rfl,hd4,hrest4⟩:=trodAll_cons hrest3
 obtain ⟨rfl,rfl,rfl⟩:=trodAll_nil hrest4
 exact ⟨v,v',v'',v3,v4,d,d',d'',d3,d4,p,p',p'',p3,p4,by cases args;simp_all,rfl,by simp,hd,hd',hd'',hd3,hd4⟩
theorem Ad5 {t t' t'' t3 t4:TypeId} {v v' v'' v3 v4:Value} {d d' d'' d3 d4:DataW H} {p p' p'' p3 p4:List MemPlace} (h:DataW.Trod enc P w base spare held t v d p) (h':DataW.Trod enc P w base spare held t' v' d' p')
  (h'':DataW.Trod enc P w base spare held t'' v'' d'' p'') (h3:DataW.Trod enc P w base spare held t3 v3 d3 p3) (h4:DataW.Trod enc P w base spare held t4 v4 d4 p4):DataW.TrodAll enc P w base spare held [t,t',t'',t3,t4] [v,v',v'',v3,v4] [d,d',d'',d3,d4] (p++(p'++(p''++(p3++p4)))):=⟨p,p'++(p''++(p3++p4)),h,trodAll_mk4 h' h'' h3 h4,rfl⟩
end
end Go.Kx

namespace Go.Kx
open Go Go.RowKit
structure LnV where
 f:Int
 t:Int
 x:Int
 c:Int
structure NtV where
 b:Int
 ls:List LnV
def inI (n:Int):Prop:=IntKind.i64.min≤n∧n≤IntKind.i64.max
theorem F0 {n:Int}:inI n ↔ -9223372036854775808≤n∧n≤9223372036854775807:=by
 unfold inI
 simp [IntKind.min,IntKind.max,IntKind.signed,IntKind.bits]
def eL:ER LnV where
 sz:=4
 isA:=true
 R:=fun _ _ v l=>v=.agg #[.int .i64 l.f,.int .i64 l.t,.int .i64 l.x,.int .i64 l.c]∧inI l.f∧inI l.t∧inI l.x∧inI l.c
 csz:=by rintro S w e x ⟨rfl,_⟩;rfl
 one:=by
  rintro S w e x ⟨rfl,_⟩ u hu
  simp [Value.cells] at hu
  rcases hu with rfl | rfl | rfl | rfl<;>rfl
 shp:=by rintro S w e x ⟨rfl,_⟩;rfl
 keep:=fun _ h=>h
 mono:=fun _ h=>h
abbrev eLs:ER (List LnV):=RL eL
def eN:ER NtV where
 sz:=2
 isA:=true
 R:=fun S w v n=>∃ s,v=.agg #[.int .i64 n.b,s]∧eLs.R S w s n.ls∧inI n.b
 csz:=by rintro S w e x ⟨s,rfl,_⟩;rfl
 one:=by
  rintro S w e x ⟨s,rfl,h,_⟩ u hu
  have hs:=eLs.shp h
  simp [Value.cells] at hu
  rcases hu with rfl | rfl
  ·rfl
  ·exact hs
 shp:=by rintro S w e x ⟨s,rfl,_⟩;rfl
 keep:=fun hk ⟨s,h1,h2,h3⟩=>⟨s,h1,eLs.keep hk h2,h3⟩
 mono:=fun hk ⟨s,h1,h2,h3⟩=>⟨s,h1,eLs.mono hk h2,h3⟩
/-- a slice built of values -/
theorem AJ9 {α:Type} {E:ER α} {hsz:0<E.sz} {S:Nat→Prop} {w w':World} {b:Nat} {t:TypeId} {cs:Array Value} {n:Nat} (vs:List Value) (ls:List α) (hn:New w w' b t cs) (up:Up S w) (hcs:cs=(cellsOf vs).toArray) (hl:ls.length=n) (hm:n≤1000) (h:Els E S w vs ls) :
  (RL E hsz).R S w' (.slice (some ⟨b,0,none⟩) n n) ls:=by
 subst hl
 refine RL.ofBlk (es:=vs) hn.2.1 (up b (by have:=hn.2.2.1;omega)) (h.ext hn.1) (fun j u hu=>?_) (Nat.le_refl _) (by omega)
 rw [hcs]
 simpa using hu
end Go.Kx

namespace Go.Proofs.YtfilidfomgfnhaaGreat
open Go Go.Kx Go.RowKit
theorem Ag7:Ent Tryz.prog 209:=A0 Tryz.func209 (by kernel_rfl) rfl
theorem Ac8 {S:Nat→Prop} {w:World} {vk_ va:Value} {k:QV} {a:List QV} {L:Nat} (up:Up S w) (hk:eQ.R S w vk_ k) (ha:eV.R S w va a) (hkk:qk L k) (hka:vk L a) (hL:1≤L) (hL2:L≤100000000) (hla:a.length≤100000000) :
  CR Tryz.prog 209 #[vk_,va] w (eV.at S (tab a.length fun i=>qval k*rv a i)):=by
 obtain ⟨s,t,rfl,hs,ht⟩:=hk
 have hk:eQ.R S w (.agg #[.bool k.num.neg,s,.bool k.den.neg,t]) k:=⟨s,t,rfl,hs,ht⟩
 refine enter Tryz.func209 rfl Tryz.ntmps209 rfl ?_
 refine .seq (.region (.box rfl rfl fun w1 b2 n1=>.asg rfl rfl (.nil ?_)))
 obtain ⟨e1,k2,hb2,hs1⟩:=n1
 have hB1:∀ {W:World},Ext w1 W→Kp (fun k=>S k∧k<w1.heap.size) w1 W:=fun hB k c t f hk h=>(hB.block k hk.2).trans h
 have hK:∀ {W:World},Ext w1 W→eQ.R (fun k=>S k∧k<w1.heap.size) W (.agg #[.bool k.num.neg,s,.bool k.den.neg,t]) k:=fun hB=>eQ.keep (hB1 hB) (ER.lt eQ (ER.ext eQ hk e1))
 have hA:∀ {W:World},Ext w1 W→eV.R (fun k=>S k∧k<w1.heap.size) W va a:=fun hB=>eV.keep (hB1 hB) (ER.lt eV (ER.ext eV ha e1))
 have up1:=up.ext e1.size
 refine .seq (.region (.mv rfl rfl (.lenR un_V rfl rfl (hA (Ext.refl _)) ?_)))
 refine .make_ _ _ un_V K4 rfl (by decide) rfl rfl rfl (Nat.le_refl _) (by omega) (by omega) fun w2 g n2=>.asg rfl rfl (.nil ?_)
 have f2:FB eQ 55 S w2 g (List.replicate a.length q0):=FB.made n2 ⟨_,_,rfl,RL.nil,RL.nil⟩
 obtain ⟨e2,_,hg,hs2⟩:=n2
 generalize hf:(fun i=>qc (qval k*rv a i))=f
 refine .seq (.seq (.region (.mv rfl rfl (.lenR un_V rfl rfl (hA e2) (.mv rfl rfl (.nil ?_))))))
 refine .block (.loop (α:=Nat) (fun i=>[(2,.pointer (some ⟨b2,0,none⟩)),(5,.slice (some ⟨g,0,none⟩) a.length a.length),(11,va),(12,.int .i64 (a.length:Nat)),(13,.int .i64 (i:Nat))])
  (fun i W=>Ext w1 W∧i≤a.length∧FB eQ 55 S W g (fil a.length i f q0)) (fun i=>a.length-i) 0 ?_ ?_ ?_)
 ·exact lkA rfl
 ·exact ⟨e2,Nat.zero_le _,by rw [H7];exact f2⟩
 ·rintro i W ⟨hB,hi,hF⟩
  have hsz:=hB.size
  have hgl:=hF.lt
  refine .seq (.region ?_)
  by_cases hlt:i<a.length
  ·refine .lssT rfl rfl rfl (by omega) (.nil (.seq (.condT rfl (.skip (.seq (.block (.seq (.region (.mv rfl rfl ?_)))))))))
   refine .ixN (i:=i) un_V ty_Q rfl rfl (hA hB) rfl (A9 (z:=q0) hlt) fun p hp=>.ldE ty_Q rfl rfl hp fun e he=>.alloc rfl B7 fun W2 b7 n7=>.asg rfl rfl ?_
   obtain ⟨s2,t2,rfl,hs2',ht2'⟩:=he
   have he:eQ.R (fun k=>S k∧k<w1.heap.size) W (.agg #[.bool (a.getD i q0).num.neg,s2,.bool (a.getD i q0).den.neg,t2]) (a.getD i q0):=⟨s2,t2,rfl,hs2',ht2'⟩
   obtain ⟨e3,k7,hb7,hs7⟩:=n7
   refine .storeA (E:=eQ) ty_Q rfl rfl k7 rfl rfl (ER.ext eQ he e3) (fun h=>by have:=h.2;omega) fun W3 k7 u7 he3=>.nil ?_
   have hW3:Ext W W3:=u7.below e3 (by omega)
   have hB3:Ext w1 W3:=hB.trans hW3
   have hF3:FB eQ 55 S W3 g (fil a.length i f q0):=(((hF.mono (S':=fun k=>S k∧k<W.heap.size) (fun k hk hs=>⟨hs,hk⟩)).ext e3).upd u7 (by omega) (fun h=>by have:=h.2;omega)).mono (fun k _ h=>h.1)
   have hsz3:=hW3.size
   have hTg:∀ k',S k'∧k'<w1.heap.size→S k'∧k'≠g:=fun k' hk'=>⟨hk'.1,by have:=hk'.2;omega⟩
   refine .region (.mv rfl rfl (.mv rfl rfl (.ldA ty_Q rfl rfl (k2.ext hB3) rfl (.ldA ty_Q rfl rfl k7 rfl ?_))))
   refine .call _ rfl L7 rfl (N8 (S:=fun k'=>S k'∧k'≠g) (fun k' hk'=>⟨up1 k' (by omega),by omega⟩) (eQ.mono (fun k' _ h=>hTg k' h) (hK hB3)) (eQ.mono (fun k' _ h=>hTg k' h) he3) hkk.1 (hka.get hL i).1 hL (by omega)) fun v4 W4 e4 h4=>?_
   refine .ixB (i:=i) un_V ty_Q rfl rfl rfl hlt ?_
   refine .gv rfl rfl (AA9 (E:=eQ) (i:=i) (by decide) ty_Q rfl rfl (hF3.ext e4) rfl (by rw [D6];exact hlt) (Nat.zero_add _) h4) ?_
   rintro _ W5 ⟨hF5,u5⟩
   refine .nil (.region (.add rfl rfl rfl (.mv rfl rfl (.nil ?_))))
   rw [wI (by omega)]
   refine ⟨rfl,i+1,lkA rfl,⟨u5.below (hB3.trans e4) (by omega),hlt,?_⟩,by show a.length-(i+1)<a.length-i;omega⟩
   have hfi:qc (qval k*qval (a.getD i q0))=f i:=by rw [←hf];rfl
   rw [hfi,I9] at hF5
   exact hF5
  ·refine .lssF rfl rfl rfl (by omega) (.nil (.seq (.condF rfl (.exit (.seq (.region (.mv rfl rfl (.asg rfl rfl (.nil (.ret ?_))))))))))
   have:i=a.length:=by omega
   subst this
   rw [N2] at hF
   refine .plain [_] Tryz.results209 ⟨rfl,trivial⟩ ⟨e1.trans hB,?_⟩
   have:=hF.toR (c:=a.length) (hsz:=by decide) (up1 g (by omega)) (by simp) (by simp;omega)
   rw [show ((List.range a.length).map f).length=a.length by simp] at this
   unfold tab
   rw [hf]
   exact this
end Go.Proofs.YtfilidfomgfnhaaGreat

namespace Go.Proofs.YtfilidfomgfnhaaGreat
open Go Go.Kx Go.RowKit
theorem E_op4:Ent Tryz.prog 243:=A0 Tryz.func243 (by kernel_rfl) rfl
theorem op4_c {S:Nat→Prop} {w:World} {u1 u2 u3 u4:Value} {m1 m2 m3 m4:Int} {L:Nat} (hL2:L≤100000000000) (up:Up S w) (h1:Zv S m1 L u1 w) (h2:Zv S m2 L u2 w) (h3:Zv S m3 L u3 w) (h4:Zv S m4 L u4 w) :
  CR Tryz.prog 243 #[u1,u2,u3,u4] w (Two (Zv S (m1*m4) (2*L+1)) (Zv S (m2*m3) (2*L+1))):=by
 have l1:=h1.lt
 have l2:=h2.lt
 have l3:=h3.lt
 have l4:=h4.lt
 obtain ⟨z1,h1,rfl,hl1⟩:=h1
 obtain ⟨z2,h2,rfl,hl2⟩:=h2
 obtain ⟨z3,h3,rfl,hl3⟩:=h3
 obtain ⟨z4,h4,rfl,hl4⟩:=h4
 have hv1:=shpA rfl h1
 have hv2:=shpA rfl h2
 have hv3:=shpA rfl h3
 have hv4:=shpA rfl h4
 refine enter Tryz.func243 rfl Tryz.ntmps243 rfl ?_
 refine .seq (.region (.box rfl rfl fun w1 b4 n1=>.box rfl rfl fun w2 b5 n2=>.box rfl rfl fun w3 b6 n3=>.box rfl rfl fun w4 b7 n4=>.alloc rfl D3 fun w5 b8 n5=>.alloc rfl D3 fun w6 b9 n6=>.nil ?_))
 obtain ⟨e1,k4,hb4,hs1⟩:=n1
 obtain ⟨e2,k5,hb5,hs2⟩:=n2
 obtain ⟨e3,k6,hb6,hs3⟩:=n3
 obtain ⟨e4,k7,hb7,hs4⟩:=n4
 obtain ⟨e5,k8,hb8,hs5⟩:=n5
 obtain ⟨e6,k9,hb9,hs6⟩:=n6
 have e56:=e5.trans e6
 have e46:=e4.trans e56
 have e36:=e3.trans e46
 have e26:=e2.trans e36
 have x6:=e1.trans e26
 have k4:=k4.ext e26
 have k5:=k5.ext e36
 have k6:=k6.ext e46
 have k7:=k7.ext e56
 have k8:=k8.ext e6
 have hS8:¬ Sx S w.heap.size w6.heap.size b8:=Sx.no (by omega) (by omega)
 have hS9:¬ Sx S w.heap.size w6.heap.size b9:=Sx.no (by omega) (by omega)
 have up6:Up (Sx S w.heap.size w6.heap.size) w6:=Sx.up up (Nat.le_refl _) x6.size
 have h1:=(h1.par w6.heap.size).ext x6
 have h2:=(h2.par w6.heap.size).ext x6
 have h3:=(h3.par w6.heap.size).ext x6
 have h4:=(h4.par w6.heap.size).ext x6
 have hout:∀ {W:World} {v:Value} {n:Int},(eZn (2*L+1)).R (Sx S w.heap.size w6.heap.size) W v n→Zv S n (2*L+1) v W:=fun h=>Zv.out h
 have hn89:b9≠b8:=by omega
 have hw8:w.heap.size≤b8:=by omega
 have hw9:w.heap.size≤b9:=by omega
 generalize hT:Sx S w.heap.size w6.heap.size=T at *
 refine .seq ?_
 refine .par follows 5 [.inl u1,.inl u4,.inr (eZ.at T (zc (zval z1*zval z4))),.inl u2,.inl u3] [[],[],[(10,0),(11,1)],[],[]] (by kernel_rfl) ⟨
  fun w e=>((B8 ty_Z rfl (k4.ext e) (eZ.csz h1)).eq hv1.symm).ob,
  fun w e=>((B8 ty_Z rfl (k7.ext e) (eZ.csz h4)).eq hv4.symm).ob,
  fun w e=>(A2 _ D9 rfl (D8 (up6.ext e.size) (h1.ext e) (h4.ext e) (by omega) (by omega))).ob (A6 _ _ _),
  fun w e=>((B8 ty_Z rfl (k5.ext e) (eZ.csz h2)).eq hv2.symm).ob,
  fun w e=>((B8 ty_Z rfl (k6.ext e) (eZ.csz h3)).eq hv3.symm).ob,trivial⟩ ?_
 intro w7 e7 x2 hx2
 refine .call _ rfl D9 rfl (D8 (up6.ext e7.size) (h2.ext e7) (h3.ext e7) (by omega) (by omega)) fun v8 w8 e8 h8=>?_
 have e78:=e7.trans e8
 have hA:(eZn (2*L+1)).R T w8 x2 (zval z1*zval z4):=Zv.of (hx2.ext e8) (AV4 (M8 l1 l4) (by omega))
 have hB:(eZn (2*L+1)).R T w8 v8 (zval z2*zval z3):=Zv.of h8 (AV4 (M8 l2 l3) (by omega))
 refine .storeA (E:=eZn (2*L+1)) ty_Z rfl rfl (k8.ext e78) rfl rfl hA hS8 fun w9 k8' u9 h9=>?_
 refine .storeA (E:=eZn (2*L+1)) ty_Z rfl rfl ((k9.ext e78).upd u9 hn89) rfl rfl (hB.upd u9 hS8) hS9 fun w10 k10 u10 h10=>.nil (.ret ?_)
 exact .plain [_,_] Tryz.results243 ⟨⟨_,rfl,D1 (E:=eZn (2*L+1)) ty_Z rfl rfl (k8'.upd u10 (Ne.symm hn89)) (h9.upd u10 hS9)⟩,⟨_,rfl,D1 (E:=eZn (2*L+1)) ty_Z rfl rfl k10 h10⟩,trivial⟩ ⟨u10.below (u9.below (x6.trans e78) hw8) hw9,_,_,rfl,hout (h9.upd u10 hS9),hout h10⟩
theorem AS6:Ent Tryz.prog 89:=A0 Tryz.func89 (by kernel_rfl) rfl
theorem Aj5 {S T0:Nat→Prop} {w:World} {va vb:Value} {a b:QV} {L:Nat} (up:Up S w) (upo:Up T0 w) (ha:eQ.R S w va a) (hb:eQ.R S w vb b) (hla:qok L a) (hlb:qok L b) (hL:1≤L) (hL2:L≤100000000000) (h0:qval b≠0) :
  CR Tryz.prog 89 #[va,vb] w (Two (eQ.at T0 (qc (qval a / qval b))) (Is (.int .i64 0))):=by
 have hva:=shpA rfl ha
 have hvb:=shpA rfl hb
 have hpa:=K3 a
 have hpb:=K3 b
 have hbn:pn b≠0:=by
  intro h
  apply h0
  unfold qval
  rw [h,Rat.zero_divInt]
 have hval:qval a / qval b=Rat.divInt (pn a*pd b) (pd a*pn b):=by
  unfold qval
  rw [Rat.div_def,Rat.inv_divInt,Rat.divInt_mul_divInt]
 rw [hval]
 refine enter Tryz.func89 rfl Tryz.ntmps89 rfl ?_
 refine .seq (.region (.box rfl rfl fun w1 b2 n1=>.box rfl rfl fun w2 b3 n2=>.alloc rfl B7 fun w3 b4 n3=>.asg rfl rfl (.nil ?_)))
 obtain ⟨e1,k2,hb2,hs1⟩:=n1
 obtain ⟨e2,k3,hb3,hs2⟩:=n2
 obtain ⟨e3,k4,hb4,hs3⟩:=n3
 have x3:=(e1.trans e2).trans e3
 have k2:=(k2.ext e2).ext e3
 have k3:=k3.ext e3
 have hU4:¬ Sx T0 w.heap.size w3.heap.size b4:=Sx.no (by omega) (by omega)
 have upo3:Up (Sx T0 w.heap.size w3.heap.size) w3:=Sx.up upo (Nat.le_refl _) x3.size
 have up3:Up (Sx S w.heap.size w3.heap.size) w3:=Sx.up up (Nat.le_refl _) x3.size
 have ha3:=(ha.par w3.heap.size).ext x3
 have hb3':=(hb.par w3.heap.size).ext x3
 have hout:∀ {W:World} {v:Value} {z:QV},eQ.R (Sx T0 w.heap.size w3.heap.size) W v z→eQ.R T0 W v z:=fun h=>h.out
 have hw4:w.heap.size≤b4:=by omega
 generalize hT:Sx S w.heap.size w3.heap.size=T at *
 generalize hU:Sx T0 w.heap.size w3.heap.size=U at *
 refine .seq (.seq (.region (.ldA ty_Q rfl rfl k3 (eQ.csz hb) ?_)))
 rw [←hvb]
 refine .call _ rfl P1 rfl (O7 hb3') fun v0 w0 e0 h00=>?_
 subst h00
 refine .eqlF rfl rfl rfl (fun h=>h0 (N7.1 h)) (.nil (.condF rfl (.skip ?_)))
 refine .seq (.region (.ldA ty_Q rfl rfl (k2.ext e0) (eQ.csz ha) ?_))
 rw [←hva]
 refine .call _ rfl C9 rfl (C8 (ha3.ext e0)) fun v4 w4 e4' h4=>?_
 subst h4
 have e4:=e0.trans e4'
 have k2:=k2.ext e4
 have k3:=k3.ext e4
 have k4:=k4.ext e4
 have ha4:=ha3.ext e4
 have hb4':=hb3'.ext e4
 have up4:=up3.ext e4.size
 have upo4:=upo3.ext e4.size
 have x4:=x3.trans e4
 have slow:∀ {W:World},Ext w4 W→CR Tryz.prog 119 #[.int .u8 47,va,vb] W (eQ.at U (qc (Rat.divInt (pn a*pd b) (pd a*pn b)))):=fun e =>
  J9 (up4.ext e.size) (upo4.ext e.size) (ha4.ext e) (hb4'.ext e) hla hlb hL hL2 E_op4 rfl (fun u h1 h2 h3 h4=>op4_c hL2 u h1 h2 h3 h4) (Int.mul_ne_zero (by omega) hbn)
 unfold shortV
 cases hsa:shortB a with
 | false =>
  refine .mv rfl rfl (.ext rfl rfl rfl (.ext rfl rfl rfl (.ext rfl rfl rfl (.asg rfl rfl (.asg rfl rfl (.asg rfl rfl (.nil ?_)))))))
  refine .seq (.region (.ldA ty_Q rfl rfl k3 (eQ.csz hb) ?_))
  rw [←hvb]
  refine .call _ rfl C9 rfl (C8 hb4') fun v5 w5 e5 h5=>?_
  subst h5
  obtain ⟨y1,y2,y3,hy⟩:∃ y1 y2 y3,shortV b=.tuple #[y1,y2,y3]:=by unfold shortV;split<;>exact ⟨_,_,_,rfl⟩
  rw [hy]
  refine .mv rfl rfl (.ext rfl rfl rfl (.ext rfl rfl rfl (.ext rfl rfl rfl (.asg rfl rfl (.asg rfl rfl (.asg rfl rfl (.nil ?_)))))))
  refine .seq (.seq (.region (.mv rfl rfl (.mv rfl rfl (.gs rfl rfl rfl rfl rfl (.pick rfl rfl rfl (.nil (.condF rfl (.skip ?_)))))))))
  refine .seq (.region (.ldA ty_Q rfl rfl (k2.ext e5) (eQ.csz ha) (.ldA ty_Q rfl rfl (k3.ext e5) (eQ.csz hb) ?_)))
  rw [←hva,←hvb]
  refine .call _ rfl D4 rfl (slow e5) fun v6 w6 e6 h6=>?_
  refine .storeA (E:=eQ) ty_Q rfl rfl ((k4.ext e5).ext e6) rfl rfl h6 hU4 fun w7 k7 u7 h7=>.asg rfl rfl (.nil (.ret ?_))
  exact .plain [_,_] Tryz.results89 ⟨⟨_,rfl,D1 (E:=eQ) ty_Q rfl rfl k7 h7⟩,rfl,trivial⟩ ⟨u7.below ((x4.trans e5).trans e6) hw4,_,_,rfl,hout h7,rfl⟩
 | true =>
  refine .mv rfl rfl (.ext rfl rfl rfl (.ext rfl rfl rfl (.ext rfl rfl rfl (.asg rfl rfl (.asg rfl rfl (.asg rfl rfl (.nil ?_)))))))
  refine .seq (.region (.ldA ty_Q rfl rfl k3 (eQ.csz hb) ?_))
  rw [←hvb]
  refine .call _ rfl C9 rfl (C8 hb4') fun v5 w5 e5 h5=>?_
  subst h5
  unfold shortV
  cases hsb:shortB b with
  | false =>
   refine .mv rfl rfl (.ext rfl rfl rfl (.ext rfl rfl rfl (.ext rfl rfl rfl (.asg rfl rfl (.asg rfl rfl (.asg rfl rfl (.nil ?_)))))))
   refine .seq (.seq (.region (.mv rfl rfl (.mv rfl rfl (.gr rfl rfl rfl rfl (.mv rfl rfl (.pick rfl rfl rfl (.nil (.condF rfl (.skip ?_))))))))))
   refine .seq (.region (.ldA ty_Q rfl rfl (k2.ext e5) (eQ.csz ha) (.ldA ty_Q rfl rfl (k3.ext e5) (eQ.csz hb) ?_)))
   rw [←hva,←hvb]
   refine .call _ rfl D4 rfl (slow e5) fun v6 w6 e6 h6=>?_
   refine .storeA (E:=eQ) ty_Q rfl rfl ((k4.ext e5).ext e6) rfl rfl h6 hU4 fun w7 k7 u7 h7=>.asg rfl rfl (.nil (.ret ?_))
   exact .plain [_,_] Tryz.results89 ⟨⟨_,rfl,D1 (E:=eQ) ty_Q rfl rfl k7 h7⟩,rfl,trivial⟩ ⟨u7.below ((x4.trans e5).trans e6) hw4,_,_,rfl,hout h7,rfl⟩
  | true =>
   have ba:=P4 hsa
   have bb:=P4 hsb
   refine .mv rfl rfl (.ext rfl rfl rfl (.ext rfl rfl rfl (.ext rfl rfl rfl (.asg rfl rfl (.asg rfl rfl (.asg rfl rfl (.nil ?_)))))))
   refine .seq (.seq (.region (.mv rfl rfl (.mv rfl rfl (.gr rfl rfl rfl rfl (.mv rfl rfl (.pick rfl rfl rfl (.nil (.condT rfl (.seq (.seq (.region (.mv rfl rfl ?_)))))))))))))
   generalize pn a=an at *
   generalize pn b=bn at *
   generalize pd a=ad at *
   generalize pd b=bd at *
   have m1:=M7 (x:=an) (y:=bd) (by omega) (by omega) (by omega) (by omega)
   have m2:=M7 (x:=ad) (y:=bn) (by omega) (by omega) (by omega) (by omega)
   by_cases hneg:bn<0
   ·refine .lssT rfl rfl rfl hneg (.nil (.condT rfl (.region (.mv rfl rfl (.neg rfl rfl (.mv rfl rfl (.neg rfl rfl (.asg rfl rfl (.asg rfl rfl (.nil (.seq (.region ?_))))))))))))
    rw [wI (n:=0-an) (by omega),wI (n:=0-bn) (by omega)]
    refine .mv rfl rfl (.mv rfl rfl (.mul rfl rfl rfl (.mv rfl rfl (.mv rfl rfl (.mul rfl rfl rfl ?_)))))
    have en:(0-an)*bd = -(an*bd):=by rw [Int.zero_sub,Int.neg_mul]
    have ed:ad*(0-bn) = -(ad*bn):=by rw [Int.zero_sub,Int.mul_neg]
    have hpos:0<ad*(0-bn):=Int.mul_pos hpa (by omega)
    rw [wI (n:=(0-an)*bd) (by omega),wI (n:=ad*(0-bn)) (by omega)]
    refine .call _ rfl K1 rfl (J8 (upo4.ext e5.size) hpos (by omega) (by omega) (by omega)) fun v6 w6 e6 h6=>?_
    rw [en,ed,Rat.neg_divInt_neg] at h6
    refine .storeA (E:=eQ) ty_Q rfl rfl ((k4.ext e5).ext e6) rfl rfl h6 hU4 fun w7 k7 u7 h7=>.asg rfl rfl (.nil (.ret ?_))
    exact .plain [_,_] Tryz.results89 ⟨⟨_,rfl,D1 (E:=eQ) ty_Q rfl rfl k7 h7⟩,rfl,trivial⟩ ⟨u7.below ((x4.trans e5).trans e6) hw4,_,_,rfl,hout h7,rfl⟩
   ·have hpos:0<ad*bn:=Int.mul_pos hpa (by omega)
    refine .lssF rfl rfl rfl hneg (.nil (.condF rfl (.skip (.seq (.region ?_)))))
    refine .mv rfl rfl (.mv rfl rfl (.mul rfl rfl rfl (.mv rfl rfl (.mv rfl rfl (.mul rfl rfl rfl ?_)))))
    rw [wI (n:=an*bd) (by omega),wI (n:=ad*bn) (by omega)]
    refine .call _ rfl K1 rfl (J8 (upo4.ext e5.size) hpos (by omega) (by omega) (by omega)) fun v6 w6 e6 h6=>?_
    refine .storeA (E:=eQ) ty_Q rfl rfl ((k4.ext e5).ext e6) rfl rfl h6 hU4 fun w7 k7 u7 h7=>.asg rfl rfl (.nil (.ret ?_))
    exact .plain [_,_] Tryz.results89 ⟨⟨_,rfl,D1 (E:=eQ) ty_Q rfl rfl k7 h7⟩,rfl,trivial⟩ ⟨u7.below ((x4.trans e5).trans e6) hw4,_,_,rfl,hout h7,rfl⟩
theorem AR2 {S:Nat→Prop} {w:World} {va vb:Value} {a b:QV} {L:Nat} (up:Up S w) (ha:eQ.R S w va a) (hb:eQ.R S w vb b) (hla:qok L a) (hlb:qok L b) (hL:1≤L) (hL2:L≤100000000000) (h0:qval b≠0) :
  CR Tryz.prog 89 #[va,vb] w (Two (eQ.at S (qc (qval a / qval b))) (Is (.int .i64 0))):=Aj5 up up ha hb hla hlb hL hL2 h0
theorem At9 (r:Rat):qc (-r)=⟨zc (-r.num),(qc r).den⟩:=by unfold qc;simp
theorem AF2:Ent Tryz.prog 52:=A0 Tryz.func52 (by kernel_rfl) rfl
theorem AE6 {S:Nat→Prop} {w:World} {va:Value} {a:QV} {L:Nat} (up:Up S w) (ha:eQ.R S w va a) (hk:qk L a) (hL:1≤L) (hL2:L≤100000000000) :
  CR Tryz.prog 52 #[va] w (eQ.at S (qc (- qval a))):=by
 have hva:=shpA rfl ha
 refine enter Tryz.func52 rfl Tryz.ntmps52 rfl ?_
 refine .seq (.region (.box rfl rfl fun w1 b1 n1=>.alloc rfl B7 fun w2 b2 n2=>.nil ?_))
 obtain ⟨e1,k1,hb1,hs1⟩:=n1
 obtain ⟨e2,k2,hb2,hs2⟩:=n2
 have x2:=e1.trans e2
 have k1:=k1.ext e2
 have hS2:¬ Sx S w.heap.size w2.heap.size b2:=Sx.no (by omega) (by omega)
 have up2:Up (Sx S w.heap.size w2.heap.size) w2:=Sx.up up (Nat.le_refl _) x2.size
 have ha2:=(ha.par w2.heap.size).ext x2
 have hout:∀ {W:World} {v:Value} {z:QV},eQ.R (Sx S w.heap.size w2.heap.size) W v z→eQ.R S W v z:=fun h=>h.out
 generalize hT:Sx S w.heap.size w2.heap.size=T at *
 refine .seq (.region (.ldA ty_Q rfl rfl k1 (eQ.csz ha) ?_))
 rw [←hva]
 refine .call _ rfl H9 rfl (O0 up2 ha2 hk.1 hL (by omega)) fun v3 w3 e3 h3=>.alloc rfl B7 fun w4 b3 n4=>?_
 obtain ⟨e4,k3,hb3,hs4⟩:=n4
 have hkc:qk L (qc (qval a)):=O6 hk.2
 have h3l:=(ER.lt eQ h3).ext e4
 have hno:¬ (T b3∧b3<w3.heap.size):=fun h=>by have:=h.2;omega
 refine .storeA (E:=eQ) ty_Q rfl rfl k3 rfl rfl h3l hno fun w5 k3 u5 h5=>.nil ?_
 have h5:eQ.R T w5 v3 (qc (qval a)):=eQ.mono (fun k _ h=>h.1) h5
 clear h3 h3l
 obtain ⟨s,t,rfl,hn,hd⟩:=AB3 h5
 replace k3:Blk w5 b3 55 #[.bool (qc (qval a)).num.neg,s,.bool (qc (qval a)).den.neg,t]:=k3
 have hs2':=x2.size
 have hs3':=e3.size
 have hs5':=u5.size
 have x4:=(x2.trans e3).trans e4
 have x5:Ext w w5:=u5.below x4 (by omega)
 have k2:=((k2.ext e3).ext e4).upd u5 (show b2≠b3 by omega)
 have up5:=up2.ext (show w2.heap.size≤w5.heap.size by omega)
 have hnum:zval (qc (qval a)).num=(qval a).num:=H1 _
 refine .seq ?_
 refine .par follows 6 [.inl _,.inl (.agg #[.bool (qc (qval a)).num.neg,s]),.inr (eZ.at T (zc (-(qval a).num))),.inl _,.inl (.agg #[.bool (qc (qval a)).den.neg,t]),.inr (eQ.at T (qc (- qval a)))] [[],[(6,0)],[(7,1)],[],[(9,3)],[(8,2),(10,4)]] (by kernel_rfl) ⟨
  fun w e=>(v_fa Y7 rfl).ob,fun w e=>(Z1 [.bool (qc (qval a)).num.neg,s] ty_Z rfl (k3.ext e) As5).ob,
  fun w e=>by
   have:=O4 (up5.ext e.size) (ER.ext eZ hn e) (Nat.le_trans hkc.1.1 (by omega))
   rw [hnum] at this
   exact (A2 _ P0 rfl this).ob (A6 _ _ _),
  fun w e=>(v_fa AB1 rfl).ob,fun w e=>(Z1 [.bool (qc (qval a)).den.neg,t] ty_Z rfl (k3.ext e) Al6).ob,
  fun w e x hx=>by
   obtain ⟨sx,rfl,hsx⟩:=hx
   obtain ⟨st,hst,hsd⟩:=ER.ext eZ hd e
   have est:st=t:=by simpa using hst.symm
   subst est
   refine L9 (AV2 [(0,.agg #[.bool (zc (-(qval a).num)).neg,sx]),(1,.agg #[.bool (qc (qval a)).den.neg,st])] rfl Aa6) ?_ (A6 _ _ _)
   rw [At9]
   exact ⟨sx,st,rfl,hsx,hsd⟩,trivial⟩ ?_
 rintro w6 e6 x-z hz
 refine .storeA (E:=eQ) ty_Q rfl rfl (k2.ext e6) rfl rfl hz hS2 fun w7 k7 u7 h7=>.nil (.ret ?_)
 exact .cell Tryz.results52 rfl ty_Q rfl rfl k7 h7 ⟨u7.below (x5.trans e6) (by omega),hout h7⟩
end Go.Proofs.YtfilidfomgfnhaaGreat

namespace Go.Kx
abbrev RM:=Nat→Nat→Rat
theorem V5 (n:Nat) (f g:Nat→Rat):sumN n (fun k=>f k-g k)=sumN n f-sumN n g:=by
 induction n with
 | zero=>simp only [sumN];grind
 | succ n ih=>rw [sumN,sumN,sumN,ih];grind
/-! combinations of rows -/
/-- v is a combination of the n rows of f, in the columns below C -/
def Spn (n C:Nat) (f:RM) (v:Nat→Rat):Prop:=∃ t:Nat→Rat,∀ k,k<C→v k=sumN n fun i=>t i*f i k
section
variable {n C m:Nat} {f g:RM} {u v:Nat→Rat}
theorem Spn.row {i:Nat} (h:i<n):Spn n C f (f i):=by
 refine ⟨fun t=>if t=i then 1 else 0,fun k _=>?_⟩
 rw [J2 (i:=i) (fun t _ ht=>by simp only [ht,if_false,Rat.zero_mul]),if_pos h]
 simp
theorem Spn.zero:Spn n C f (fun _=>0):=⟨fun _=>0,fun k _=>(L2 fun i _=>Rat.zero_mul _).symm⟩
theorem Spn.congr (h:Spn n C f u) (e:∀ k,k<C→v k=u k):Spn n C f v:=by
 obtain ⟨t,ht⟩:=h
 exact ⟨t,fun k hk=>by rw [e k hk,ht k hk]⟩
theorem Spn.add (h:Spn n C f u) (h':Spn n C f v):Spn n C f (fun k=>u k+v k):=by
 obtain ⟨t,ht⟩:=h
 obtain ⟨s,hs⟩:=h'
 refine ⟨fun i=>t i+s i,fun k hk=>?_⟩
 show u k+v k=_
 rw [ht k hk,hs k hk,←AP6]
 exact A7 fun i _=>by grind
theorem Spn.mul (c:Rat) (h:Spn n C f u):Spn n C f (fun k=>c*u k):=by
 obtain ⟨t,ht⟩:=h
 refine ⟨fun i=>c*t i,fun k hk=>?_⟩
 show c*u k=_
 rw [ht k hk,←Q7]
 exact A7 fun i _=>by grind
theorem Spn.sum (c:Nat→Rat) (h:∀ i,i<m→Spn n C f (g i)):Spn n C f (fun k=>sumN m fun i=>c i*g i k):=by
 induction m with
 | zero=>exact Spn.zero
 | succ m ih=>exact (ih fun i hi=>h i (by omega)).add ((h m (by omega)).mul (c m))
theorem Spn.trans (h:Spn m C g v) (hg:∀ i,i<m→Spn n C f (g i)):Spn n C f v:=by
 obtain ⟨t,ht⟩:=h
 exact (Spn.sum t hg).congr ht
theorem Spn.less {C':Nat} (h:Spn n C f v) (hc:C'≤C):Spn n C' f v:=by
 obtain ⟨t,ht⟩:=h
 exact ⟨t,fun k hk=>ht k (by omega)⟩
/-- what is orthogonal to the rows is so to their combinations -/
theorem Spn.dot (h:Spn n C f v) (x:Nat→Rat) (t:Nat→Rat) (ht:∀ k,k<C→v k=sumN n fun i=>t i*f i k):sumN C (fun k=>v k*x k)=sumN n fun i=>t i*sumN C fun k=>f i k*x k:=by
 have e1:sumN C (fun k=>v k*x k)=sumN C fun k=>sumN n fun i=>t i*(f i k*x k):=by
  refine A7 fun k hk=>?_
  rw [ht k hk,←AJ3]
  exact A7 fun i _=>by grind
 rw [e1,←V4]
 exact A7 fun i _=>Q7 ..
theorem Spn.dot0 (h:Spn n C f v) {x:Nat→Rat} (hx:∀ i,i<n→sumN C (fun k=>f i k*x k)=0):sumN C (fun k=>v k*x k)=0:=by
 obtain ⟨t,ht⟩:=id h
 rw [h.dot x t ht]
 exact L2 fun i hi=>by rw [hx i hi,Rat.mul_zero]
end
/-! the steps -/
/-- the first row from i on, among n, that is not 0 in the column -/
def pivRow (f:RM) (col:Nat):Nat→Nat→Option Nat
 | 0,_=>none
 | n+1,i=>if f i col=0 then pivRow f col n (i+1) else some i
theorem AL2 {f:RM} {col:Nat}:∀ {n i:Nat},pivRow f col n i=none→∀ k,i≤k→k<i+n→f k col=0
 | 0,i,_,k,h1,h2=>by omega
 | n+1,i,h,k,h1,h2=>by
  unfold pivRow at h
  split at h
  ·rename_i h0
   by_cases e:k=i
   ·rw [e];exact h0
   ·exact AL2 h k (by omega) (by omega)
  ·cases h
theorem J4 {f:RM} {col:Nat}:∀ {n i r:Nat},pivRow f col n i=some r→i≤r∧r<i+n∧f r col≠0∧∀ k,i≤k→k<r→f k col=0
 | 0,i,r,h=>by cases h
 | n+1,i,r,h=>by
  unfold pivRow at h
  split at h
  ·rename_i h0
   obtain ⟨h1,h2,h3,h4⟩:=J4 h
   refine ⟨by omega,by omega,h3,fun k hk hr=>?_⟩
   by_cases e:k=i
   ·rw [e];exact h0
   ·exact h4 k (by omega) hr
  ·rename_i h0
   cases h
   exact ⟨Nat.le_refl _,by omega,h0,fun k h1 h2=>by omega⟩
theorem AG6 {f f':RM} {col:Nat}:∀ {n i:Nat},(∀ k,i≤k→k<i+n→f k col=f' k col)→pivRow f col n i=pivRow f' col n i
 | 0,_,_=>rfl
 | n+1,i,h=>by
  unfold pivRow
  rw [h i (Nat.le_refl _) (by omega),AG6 (n:=n) (i:=i+1) fun k h1 h2=>h k (by omega) (by omega)]
def swp (f:RM) (a b:Nat):RM:=fun i=>if i=a then f b else if i=b then f a else f i
def clr (f:RM) (p col:Nat):RM:=fun i k=>if i=p then (f p col)⁻¹*f p k else -(f i col)*((f p col)⁻¹*f p k)+f i k
def estep (n col:Nat) (s:RM×List Nat):RM×List Nat :=
 match pivRow s.1 col (n-s.2.length) s.2.length with
 | none=>s
 | some r=>(clr (swp s.1 r s.2.length) s.2.length col,s.2++[col])
def elim (n:Nat) (f:RM):Nat→RM×List Nat
 | 0=>(f,[])
 | c+1=>estep n c (elim n f c)
section
variable {n C a b:Nat} {f:RM}
theorem swp_sub (ha:a<n) (hb:b<n) {i:Nat} (hi:i<n):Spn n C f (swp f a b i):=by
 unfold swp
 split
 ·exact Spn.row hb
 ·split
  ·exact Spn.row ha
  ·exact Spn.row hi
theorem sub_swp (ha:a<n) (hb:b<n) {i:Nat} (hi:i<n):Spn n C (swp f a b) (f i):=by
 by_cases e1:i=a
 ·subst e1
  have:=Spn.row (C:=C) (f:=swp f i b) hb
  refine this.congr fun k _=>?_
  unfold swp
  by_cases e:b=i
  ·simp [e]
  ·simp [e]
 ·by_cases e2:i=b
  ·subst e2
   have:=Spn.row (C:=C) (f:=swp f a i) ha
   refine this.congr fun k _=>?_
   unfold swp
   simp
  ·have:=Spn.row (C:=C) (f:=swp f a b) hi
   refine this.congr fun k _=>?_
   unfold swp
   simp [e1,e2]
theorem clr_sub {p col:Nat} (hp:p<n) {i:Nat} (hi:i<n):Spn n C f (clr f p col i):=by
 by_cases e:i=p
 ·refine ((Spn.row hp).mul (f p col)⁻¹).congr fun k _=>?_
  unfold clr;simp [e]
 ·refine ((((Spn.row (f:=f) hp).mul (f p col)⁻¹).mul (-(f i col))).add (Spn.row hi)).congr fun k _=>?_
  unfold clr;simp [e]
theorem sub_clr {p col:Nat} (hp:p<n) (h0:f p col≠0) {i:Nat} (hi:i<n):Spn n C (clr f p col) (f i):=by
 have e0:∀ k,clr f p col p k=(f p col)⁻¹*f p k:=fun k=>by unfold clr;simp
 by_cases e:i=p
 ·subst e
  refine ((Spn.row (f:=clr f i col) hp).mul (f i col)).congr fun k _=>?_
  rw [e0,←Rat.mul_assoc,Rat.mul_inv_cancel _ h0,Rat.one_mul]
 ·refine ((Spn.row (f:=clr f p col) hi).add ((Spn.row (f:=clr f p col) hp).mul (f i col))).congr fun k _=>?_
  rw [e0]
  unfold clr
  simp only [e,if_false]
  grind
end
theorem M9 {p:List Nat} {c j:Nat} (h:j<p.length):(p++[c]).getD j 0=p.getD j 0:=by
 simp [List.getD_eq_getElem?_getD,List.getElem?_append_left h]
theorem P6 {p:List Nat} {c:Nat}:(p++[c]).getD p.length 0=c:=by
 simp [List.getD_eq_getElem?_getD]
/-- reduced row echelon form in the columns below c, with the pivots p -/
structure Ech (n c:Nat) (g:RM) (p:List Nat):Prop where
 len:p.length≤n
 lt:∀ j,j<p.length→p.getD j 0<c
 inc:∀ j,j+1<p.length→p.getD j 0<p.getD (j+1) 0
 one:∀ i j,i<n→j<p.length→g i (p.getD j 0)=if i=j then 1 else 0
 low:∀ i k,i<p.length→k<p.getD i 0→g i k=0
 nil:∀ i k,p.length≤i→i<n→k<c→g i k=0
theorem Ech.mono {n c:Nat} {g:RM} {p:List Nat} (h:Ech n c g p):∀ {i j:Nat},i<j→j<p.length→p.getD i 0<p.getD j 0:=by
 intro i j hij hj
 induction j with
 | zero=>omega
 | succ j ih =>
  have h1:=h.inc j hj
  by_cases e:i=j
  ·subst e;exact h1
  ·have:=ih (by omega) (by omega);omega
theorem Ech.inj {n c:Nat} {g:RM} {p:List Nat} (h:Ech n c g p) {i j:Nat} (hi:i<p.length) (hj:j<p.length) (e:p.getD i 0=p.getD j 0):i=j:=by
 rcases Nat.lt_trichotomy i j with h1 | h1 | h1
 ·have:=h.mono h1 hj;omega
 ·exact h1
 ·have:=h.mono h1 hi;omega
theorem Ech.ge {n c:Nat} {g:RM} {p:List Nat} (h:Ech n c g p):∀ {j:Nat},j<p.length→j≤p.getD j 0:=by
 intro j
 induction j with
 | zero=>intro _;omega
 | succ j ih=>intro hj;have:=h.inc j hj;have:=ih (by omega);omega
theorem Ech.len_c {n c:Nat} {g:RM} {p:List Nat} (h:Ech n c g p):p.length≤c:=by
 by_cases h0:p.length=0
 ·omega
 ·have h1:=h.ge (j:=p.length-1) (by omega)
  have h2:=h.lt (p.length-1) (by omega)
  omega
theorem Ech.start (n:Nat) (f:RM):Ech n 0 f [] :=
 ⟨Nat.zero_le _,fun j h=>absurd h (Nat.not_lt_zero _),fun j h=>absurd h (Nat.not_lt_zero _),fun i j _ h=>absurd h (Nat.not_lt_zero _),fun i k h=>absurd h (Nat.not_lt_zero _),fun i k _ _ h=>absurd h (Nat.not_lt_zero _)⟩
theorem Ech.step {n c:Nat} {s:RM×List Nat} (h:Ech n c s.1 s.2):Ech n (c+1) (estep n c s).1 (estep n c s).2:=by
 obtain ⟨g,p⟩:=s
 replace h:Ech n c g p:=h
 unfold estep
 simp only
 split
 ·rename_i hn
  refine ⟨h.len,fun j hj=>Nat.lt_succ_of_lt (h.lt j hj),h.inc,h.one,h.low,fun i k h1 h2 h3=>?_⟩
  by_cases hk:k=c
  ·subst hk
   have:=h.len
   exact AL2 hn i h1 (by omega)
  ·exact h.nil i k h1 h2 (by omega)
 ·rename_i r hr
  obtain ⟨h1,h2,h3,_⟩:=J4 hr
  have hq:=h.len
  have hrn:r<n:=by omega
  have hqn:p.length<n:=by omega
  have sq:∀ k,swp g r p.length p.length k=g r k:=fun k=>by
   unfold swp
   by_cases e:p.length=r
   ·simp [←e]
   ·simp [e]
  have sl:∀ i k,i<p.length→swp g r p.length i k=g i k:=fun i k hi=>by
   unfold swp
   rw [if_neg (by omega),if_neg (by omega)]
  have sh:∀ i,p.length≤i→i<n→∃ t,p.length≤t∧t<n∧∀ k,swp g r p.length i k=g t k:=fun i hi hn=>by
   unfold swp
   by_cases e1:i=r
   ·exact ⟨p.length,Nat.le_refl _,hqn,fun k=>by simp [e1]⟩
   ·by_cases e2:i=p.length
    ·exact ⟨r,h1,hrn,fun k=>by rw [if_neg e1,if_pos e2]⟩
    ·exact ⟨i,hi,hn,fun k=>by simp [e1,e2]⟩
  have zr:∀ k,k<c→g r k=0:=fun k hk=>h.nil r k h1 hrn hk
  have cq:∀ k,clr (swp g r p.length) p.length c p.length k=(g r c)⁻¹*g r k:=fun k=>by
   unfold clr;rw [if_pos rfl,sq,sq]
  have ci:∀ i k,i≠p.length→clr (swp g r p.length) p.length c i k = -(swp g r p.length i c)*((g r c)⁻¹*g r k)+swp g r p.length i k:=fun i k hi=>by
   unfold clr;rw [if_neg hi,sq,sq]
  have one1:(g r c)⁻¹*g r c=1:=Rat.inv_mul_cancel _ h3
  show Ech n (c+1) (clr (swp g r p.length) p.length c) (p++[c])
  refine ⟨by simp;omega,fun j hj=>?_,fun j hj=>?_,fun i j hi hj=>?_,fun i k hi hk=>?_,fun i k hi hn hk=>?_⟩
  ·simp only [List.length_append,List.length_cons,List.length_nil] at hj
   by_cases e:j=p.length
   ·subst e;rw [P6];omega
   ·rw [M9 (by omega)];have:=h.lt j (by omega);omega
  ·simp only [List.length_append,List.length_cons,List.length_nil] at hj
   rw [M9 (by omega)]
   by_cases e:j+1=p.length
   ·rw [e,P6];exact h.lt j (by omega)
   ·rw [M9 (by omega)];exact h.inc j (by omega)
  ·simp only [List.length_append,List.length_cons,List.length_nil] at hj
   by_cases e:j=p.length
   ·subst e
    rw [P6]
    by_cases ei:i=p.length
    ·rw [ei,cq,one1,if_pos rfl]
    ·rw [ci i c ei,one1,if_neg ei];grind
   ·rw [M9 (by omega)]
    have hj':j<p.length:=by omega
    have hz:g r (p.getD j 0)=0:=zr _ (h.lt j hj')
    by_cases ei:i=p.length
    ·rw [ei,cq,hz,Rat.mul_zero,if_neg (by omega)]
    ·rw [ci _ _ ei,hz,Rat.mul_zero,Rat.mul_zero,Rat.zero_add]
     by_cases hi':i<p.length
     ·rw [sl i _ hi',h.one i j hi hj']
     ·obtain ⟨t,ht1,ht2,ht3⟩:=sh i (by omega) hi
      rw [ht3,h.one t j ht2 hj',if_neg (by omega),if_neg (by omega)]
  ·simp only [List.length_append,List.length_cons,List.length_nil] at hi
   by_cases e:i=p.length
   ·subst e
    rw [P6] at hk
    rw [cq,zr k hk,Rat.mul_zero]
   ·have hi':i<p.length:=by omega
    rw [M9 hi'] at hk
    have:=h.lt i hi'
    rw [ci i k e,zr k (by omega),Rat.mul_zero,Rat.mul_zero,Rat.zero_add,sl i k hi',h.low i k hi' hk]
  ·simp only [List.length_append,List.length_cons,List.length_nil] at hi
   rw [ci i k (by omega)]
   obtain ⟨t,ht1,ht2,ht3⟩:=sh i (by omega) hn
   by_cases e:k=c
   ·subst e;rw [one1];grind
   ·rw [zr k (by omega),Rat.mul_zero,Rat.mul_zero,Rat.zero_add,ht3,h.nil t k ht1 ht2 (by omega)]
theorem O8 (n:Nat) (f:RM):∀ c,Ech n c (elim n f c).1 (elim n f c).2
 | 0=>Ech.start n f
 | c+1=>(O8 n f c).step
/-- the rows are combinations of each other -/
def Req (n C:Nat) (f g:RM):Prop:=(∀ i,i<n→Spn n C f (g i))∧(∀ i,i<n→Spn n C g (f i))
theorem Req.refl (n C:Nat) (f:RM):Req n C f f:=⟨fun _ h=>Spn.row h,fun _ h=>Spn.row h⟩
theorem Req.trans {n C:Nat} {f g h:RM} (a:Req n C f g) (b:Req n C g h):Req n C f h :=
 ⟨fun i hi=>(b.1 i hi).trans a.1,fun i hi=>(a.2 i hi).trans b.2⟩
theorem Ap7 {n c C:Nat} {s:RM×List Nat} (h:s.2.length≤n):Req n C s.1 (estep n c s).1:=by
 obtain ⟨g,p⟩:=s
 replace h:p.length≤n:=h
 unfold estep
 simp only
 split
 ·exact Req.refl _ _ _
 ·rename_i r hr
  obtain ⟨h1,h2,h3,_⟩:=J4 hr
  have hr':r<n:=by omega
  have hq:p.length<n:=by omega
  have sq:swp g r p.length p.length c≠0:=by
   unfold swp
   by_cases e:p.length=r
   ·simp only [e,if_true];rwa [←e] at h3 ⊢
   ·simp only [e,if_false,if_true];exact h3
  exact Req.trans ⟨fun i hi=>swp_sub hr' hq hi,fun i hi=>sub_swp hr' hq hi⟩ ⟨fun i hi=>clr_sub hq hi,fun i hi=>sub_clr hq sq hi⟩
theorem AR7 (n C:Nat) (f:RM):∀ c,Req n C f (elim n f c).1
 | 0=>Req.refl _ _ _
 | c+1=>(AR7 n C f c).trans (Ap7 (O8 n f c).len)
/-! the columns to the left do not know those to the right -/
def Agf (n C:Nat) (f g:RM):Prop:=∀ i k,i<n→k<C→f i k=g i k
theorem Ap8 {n c C:Nat} {s s':RM×List Nat} (hc:c<C) (hl:s.2.length≤n) (ha:Agf n C s.1 s'.1) (he:s.2=s'.2):Agf n C (estep n c s).1 (estep n c s').1∧(estep n c s).2=(estep n c s').2:=by
 obtain ⟨g,p⟩:=s
 obtain ⟨g',p'⟩:=s'
 replace he:p=p':=he
 subst he
 replace ha:Agf n C g g':=ha
 replace hl:p.length≤n:=hl
 unfold estep
 simp only
 have e:pivRow g c (n-p.length) p.length=pivRow g' c (n-p.length) p.length:=AG6 fun k h1 h2=>ha k c (by omega) hc
 rw [←e]
 cases hr:pivRow g c (n-p.length) p.length with
 | none=>exact ⟨ha,rfl⟩
 | some r =>
  obtain ⟨h1,h2,h3,_⟩:=J4 hr
  refine ⟨?_,rfl⟩
  have hs:Agf n C (swp g r p.length) (swp g' r p.length):=by
   intro i k hi hk
   unfold swp
   split
   ·exact ha _ _ (by omega) hk
   ·split
    ·exact ha _ _ (by omega) hk
    ·exact ha _ _ hi hk
  intro i k hi hk
  show clr (swp g r p.length) p.length c i k=clr (swp g' r p.length) p.length c i k
  unfold clr
  rw [hs p.length c (by omega) hc,hs p.length k (by omega) hk,hs i c hi hc,hs i k hi hk]
theorem Af3 {n C:Nat} {f g:RM} (h:Agf n C f g):∀ c,c≤C→Agf n C (elim n f c).1 (elim n g c).1∧(elim n f c).2=(elim n g c).2
 | 0,_=>⟨h,rfl⟩
 | c+1,hc=>by
  obtain ⟨h1,h2⟩:=Af3 h c (by omega)
  exact Ap8 (by omega) (O8 n f c).len h1 h2
/-! what the form tells -/
section
variable {n C:Nat} {g f:RM} {p:List Nat} {v:Nat→Rat}
/-- a vector that the rows take to 0; 1 at the column k -/
def nv (g:RM) (p:List Nat) (k:Nat):Nat→Rat:=fun c=>(if c=k then 1 else 0)-sumN p.length fun j=>if p.getD j 0=c then g j k else 0
theorem nv_dot (h:Ech n C g p) {k:Nat} (hk:k<C) (a:Nat→Rat):sumN C (fun c=>a c*nv g p k c)=a k-sumN p.length fun j=>a (p.getD j 0)*g j k:=by
 have e1:∀ c,a c*nv g p k c=(if c=k then a k else 0)-sumN p.length fun j=>if p.getD j 0=c then a (p.getD j 0)*g j k else 0:=by
  intro c
  unfold nv
  have e2:a c*(sumN p.length fun j=>if p.getD j 0=c then g j k else 0)=sumN p.length fun j=>if p.getD j 0=c then a (p.getD j 0)*g j k else 0:=by
   rw [←Q7]
   refine A7 fun j _=>?_
   by_cases e:p.getD j 0=c
   ·rw [if_pos e,if_pos e,e]
   ·rw [if_neg e,if_neg e,Rat.mul_zero]
  by_cases e:c=k
  ·subst e;rw [if_pos rfl,if_pos rfl,←e2];grind
  ·rw [if_neg e,if_neg e,←e2];grind
 rw [A7 fun c _=>e1 c,V5,J2 (i:=k) (fun c _ hc=>by rw [if_neg hc]),if_pos hk,if_pos rfl,V4]
 congr 1
 refine A7 fun j hj=>?_
 rw [J2 (i:=p.getD j 0) (fun c _ hc=>by rw [if_neg (fun e=>hc e.symm)]),if_pos (h.lt j hj),if_pos rfl]
theorem nv_null (h:Ech n C g p) {k i:Nat} (hk:k<C) (hi:i<n):sumN C (fun c=>g i c*nv g p k c)=0:=by
 rw [nv_dot h hk]
 rw [J2 (i:=i) (fun j hj hne=>by rw [h.one i j hi hj,if_neg (fun e=>hne e.symm),Rat.zero_mul])]
 split
 ·rename_i hj
  rw [h.one i i hi hj,if_pos rfl];grind
 ·rename_i hj
  rw [h.nil i k (by omega) hi hk];grind
theorem nv_self {k:Nat} (hk:∀ j,j<p.length→p.getD j 0≠k):nv g p k k=1:=by
 unfold nv
 rw [if_pos rfl,L2 fun j hj=>by rw [if_neg (hk j hj)]];grind
/-- fewer pivots than columns leave a column -/
theorem Ech.free (h:Ech n C g p) (hl:p.length<C):∃ k,k<C∧∀ j,j<p.length→p.getD j 0≠k:=by
 have key:∀ m,m≤p.length→(∀ j,j<m→p.getD j 0=j)∨∃ k,k<C∧∀ j,j<p.length→p.getD j 0≠k:=by
  intro m
  induction m with
  | zero=>exact fun _=>.inl fun j hj=>absurd hj (Nat.not_lt_zero _)
  | succ m ih =>
   intro hm
   rcases ih (by omega) with h1 | h1
   ·by_cases e:p.getD m 0=m
    ·refine .inl fun j hj=>?_
     by_cases ej:j=m
     ·rw [ej];exact e
     ·exact h1 j (by omega)
    ·refine .inr ⟨m,by omega,fun j hj=>?_⟩
     have hge:m≤p.getD m 0:=by
      cases m with
      | zero=>omega
      | succ m=>have:=h.inc m (by omega);have:=h1 m (by omega);omega
     rcases Nat.lt_trichotomy j m with hj' | hj' | hj'
     ·rw [h1 j hj'];omega
     ·rw [hj'];exact e
     ·have:=h.mono hj' hj;omega
   ·exact .inr h1
 rcases key p.length (Nat.le_refl _) with h1 | h1
 ·exact ⟨p.length,hl,fun j hj=>by rw [h1 j hj];omega⟩
 ·exact h1
end
end Go.Kx

namespace Go.Kx
def pos (k b:Nat):Nat:=if b<k then b else b-1
def idR:RM:=fun i k=>if i=k then 1 else 0
def estepD (n col:Nat) (s:RM×List Nat) (d:Rat):Rat :=
 match pivRow s.1 col (n-s.2.length) s.2.length with
 | none=>d
 | some r=>(if r=s.2.length then d else -d)*s.1 r col
def elimD (n:Nat) (f:RM):Nat→Rat
 | 0=>1
 | c+1=>estepD n c (elim n f c) (elimD n f c)
/-- rows below m are cleared -/
def clrTo (f:RM) (p col m:Nat):RM:=fun i k=>if i=p then (f p col)⁻¹*f p k else if i<m then -(f i col)*((f p col)⁻¹*f p k)+f i k else f i k
/-- a full set of pivots -/
theorem Ech.full {n:Nat} {g:RM} {p:List Nat} (h:Ech n n g p) (hl:p.length=n):(∀ j,j<n→p.getD j 0=j):=by
 have low:∀ j,j<n→j≤p.getD j 0:=by
  intro j
  induction j with
  | zero=>intro _;omega
  | succ j ih=>intro hj;have:=h.inc j (by omega);have:=ih (by omega);omega
 have up:∀ d j,j+d+1=n→p.getD j 0≤j:=by
  intro d
  induction d with
  | zero=>intro j hj;have:=h.lt j (by omega);omega
  | succ d ih=>intro j hj;have:=h.inc j (by omega);have:=ih (j+1) (by omega);omega
 intro j hj
 have:=low j hj
 have:=up (n-j-1) j (by omega)
 omega
end Go.Kx

namespace Go.Kx
theorem Rsz.inv {r:Rat} {L:Nat} (h:Rsz r L) (hL:1≤L):Rsz r⁻¹ L:=by
 by_cases h0:r=0
 ·subst h0;rw [Rat.inv_zero];exact Rsz.zero hL
 ·have hn:r.num≠0:=fun e=>h0 (Rat.num_eq_zero.1 e)
  have e:r⁻¹=Rat.divInt r.den r.num:=by
   have:r=Rat.divInt r.num r.den:=(Rat.num_divInt_den r).symm
   rw [this,Rat.inv_divInt,←this]
  have hc:Nat.gcd r.num.natAbs r.den=1:=r.reduced
  rw [e]
  have hg:Int.gcd r.num r.den=1:=hc
  have hg':Int.gcd (r.den:Int) r.num=1:=by rw [Int.gcd_comm];exact hg
  refine ⟨?_,?_⟩
  ·rw [Rat.num_divInt,hg,Int.natCast_one,Int.ediv_one]
   rw [Int.natAbs_mul]
   have:r.num.sign.natAbs=1:=by rw [Int.natAbs_sign];rw [if_neg hn]
   rw [this,Nat.one_mul]
   simpa using h.2
  ·rw [Rat.den_divInt,if_neg hn,hg]
   simpa using h.1
def bd (L:Nat):Nat→Nat
 | 0=>L
 | k+1=>4*bd L k+1
theorem bd_le (L k:Nat):bd L k≤bd L (k+1):=by rw [bd];omega
theorem AH8 (L:Nat) {j k:Nat} (h:j≤k):bd L j≤bd L k:=by
 induction k with
 | zero=>rw [show j=0 by omega];exact Nat.le_refl _
 | succ k ih =>
  by_cases e:j=k+1
  ·rw [e];exact Nat.le_refl _
  ·exact Nat.le_trans (ih (by omega)) (bd_le L k)
theorem Ay0 {L:Nat} (h:1≤L) (k:Nat):1≤bd L k:=Nat.le_trans h (AH8 L (Nat.zero_le k))
theorem Al7 {n C a b L:Nat} {f:RM} (ha:a<n) (hb:b<n) (h:∀ i k,i<n→k<C→Rsz (f i k) L):∀ i k,i<n→k<C→Rsz (swp f a b i k) L:=by
 intro i k hi hk
 unfold swp
 split
 ·exact h _ _ hb hk
 ·split
  ·exact h _ _ ha hk
  ·exact h _ _ hi hk
theorem clr_rsz {n C p col L:Nat} {f:RM} (hp:p<n) (hc:col<C) (hL:1≤L) (h:∀ i k,i<n→k<C→Rsz (f i k) L):∀ i k,i<n→k<C→Rsz (clr f p col i k) (4*L+1):=by
 intro i k hi hk
 have h1:Rsz ((f p col)⁻¹*f p k) (L+L):=((h p col hp hc).inv hL).mul (h p k hp hk)
 unfold clr
 split
 ·exact h1.mono (by omega)
 ·exact (((h i col hi hc).neg.mul h1).add (h i k hi hk)).mono (by omega)
theorem AR6 {n C L:Nat} {f:RM} (hL:1≤L) (h:∀ i k,i<n→k<C→Rsz (f i k) L):∀ c,c≤C→∀ i k,i<n→k<C→Rsz ((elim n f c).1 i k) (bd L (elim n f c).2.length)
 | 0,_=>h
 | c+1,hc=>by
  have ih:=AR6 hL h c (by omega)
  have hl:=(O8 n f c).len
  have e1:elim n f (c+1)=estep n c (elim n f c):=rfl
  rw [e1]
  unfold estep
  split
  ·exact ih
  ·rename_i r hr
   obtain ⟨h1,h2,h3,_⟩:=J4 hr
   have:=clr_rsz (p:=(elim n f c).2.length) (col:=c) (by omega) (by omega) (Ay0 hL _) (Al7 (a:=r) (b:=(elim n f c).2.length) (by omega) (by omega) ih)
   intro i k hi hk
   have h4:=this i k hi hk
   simp only [List.length_append,List.length_cons,List.length_nil]
   exact h4
/-- the vectors as they are laid -/
theorem E7 {n c i:Nat} {f:RM} (h:i<n):(tabM n c f)[i]?=some (tab c (f i)):=by unfold tabM;rw [List.getElem?_map,List.getElem?_range h];rfl
theorem G1 {c k:Nat} {g:Nat→Rat} (h:k<c):(tab c g)[k]?=some (qc (g k)):=by unfold tab;rw [List.getElem?_map,List.getElem?_range h];rfl
theorem V3 {n c i:Nat} {f:RM} {u:Nat→Rat} (h:i<n):(tabM n c f).set i (tab c u)=tabM n c fun j k=>if j=i then u k else f j k:=by
 apply List.ext_getElem?
 intro j
 rw [List.getElem?_set,A5]
 by_cases e:i=j
 ·subst e
  rw [if_pos rfl,if_pos h,E7 h]
  simp
 ·rw [if_neg e]
  by_cases hj:j<n
  ·rw [E7 hj,E7 hj]
   have:(fun k=>if j=i then u k else f j k)=f j:=by funext k;rw [if_neg (fun h=>e h.symm)]
   rw [this]
  ·rw [List.getElem?_eq_none (by rw [A5];omega),List.getElem?_eq_none (by rw [A5];omega)]
end Go.Kx
namespace Go.Kx
theorem AW8 {n:Nat} {f:RM} {c:Nat} (h:(elim n f c).2.length=n):∀ d,elim n f (c+d)=elim n f c∧elimD n f (c+d)=elimD n f c
 | 0=>⟨rfl,rfl⟩
 | d+1=>by
  obtain ⟨h1,h2⟩:=AW8 h d
  have e1:elim n f (c+(d+1))=estep n (c+d) (elim n f (c+d)):=rfl
  have e2:elimD n f (c+(d+1))=estepD n (c+d) (elim n f (c+d)) (elimD n f (c+d)):=rfl
  have e3:pivRow (elim n f c).1 (c+d) (n-(elim n f c).2.length) (elim n f c).2.length=none:=by rw [h,Nat.sub_self];rfl
  rw [e1,e2,h1,h2]
  unfold estep estepD
  rw [e3]
  exact ⟨rfl,rfl⟩
theorem Ak0 {n C p col:Nat} {f:RM}:tabM n C (clrTo f p col 0)=tabM n C fun j k=>if j=p then (f p col)⁻¹*f p k else f j k:=by
 unfold clrTo
 simp
theorem E8 {n c:Nat} {f g:RM} (h:∀ i k,i<n→k<c→f i k=g i k):tabM n c f=tabM n c g:=by
 unfold tabM tab
 apply List.map_congr_left
 intro i hi
 apply List.map_congr_left
 intro k hk
 rw [h i k (List.mem_range.1 hi) (List.mem_range.1 hk)]
theorem Aq7 {n C p col:Nat} {f:RM}:tabM n C (clrTo f p col n)=tabM n C (clr f p col) :=
 E8 fun i k hi _=>by
  unfold clrTo clr
  by_cases e:i=p
  ·simp [e]
  ·simp [e,hi]
theorem AE8 {f:RM} {p col i:Nat}:clrTo f p col (i+1)=fun j k=>if j=i then (if i=p then (f p col)⁻¹*f p k else -(f i col)*((f p col)⁻¹*f p k)+f i k) else clrTo f p col i j k:=by
 funext j k
 unfold clrTo
 by_cases e:j=i
 ·subst e
  by_cases e2:j=p
  ·simp [e2]
  ·simp [e2]
 ·rw [if_neg e]
  by_cases e2:j=p
  ·simp [e2]
  ·rw [if_neg e2,if_neg e2]
   by_cases h:j<i
   ·rw [if_pos h,if_pos (by omega)]
   ·rw [if_neg h,if_neg (by omega)]
theorem AN1 {c i:Nat} {f:Nat→Rat} {y:Rat}:(tab c f).set i (qc y)=tab c fun k=>if k=i then y else f k:=by
 apply List.ext_getElem?
 intro j
 unfold tab
 rw [List.getElem?_set]
 by_cases e:i=j
 ·subst e
  by_cases h:i<c
  ·simp [h]
  ·simp [h]
 ·rw [if_neg e]
  by_cases h:j<c
  ·simp [h,show j≠i from fun x=>e x.symm]
  ·simp [h]
end Go.Kx

namespace Go.Proofs.YtfilidfomgfnhaaGreat
open Go Go.Kx Go.RowKit
theorem sgn_tri (r:Rat):(r=0∧sgnR r=0)∨(r≠0∧sgnR r=1)∨(r≠0∧sgnR r = -1):=by
 unfold sgnR
 by_cases h:r=0
 ·exact .inl ⟨h,by simp [h]⟩
 ·have hn:r.num≠0:=fun e=>h (Rat.num_eq_zero.1 e)
  rcases Int.lt_or_gt_of_ne hn with h1 | h1
  ·exact .inr (.inr ⟨h,Int.sign_eq_neg_one_of_neg h1⟩)
  ·exact .inr (.inl ⟨h,Int.sign_eq_one_of_pos h1⟩)
def pivV:Option Nat→Value
 | none=>.tuple #[.int .i64 0,.bool false]
 | some r=>.tuple #[.int .i64 (r:Nat),.bool true]
theorem AK7:Ent Tryz.prog 208:=A0 Tryz.func208 (by kernel_rfl) rfl
theorem AJ4 {S:Nat→Prop} {w:World} {vr:Value} {n C a col:Nat} {f:RM} (h:eM.R S w vr (tabM n C f)) (ha:a≤n) (hcol:col<C) (hn:n≤1000000) :
  CR Tryz.prog 208 #[vr,.int .i64 a,.int .i64 col] w (Is (pivV (pivRow f col (n-a) a))):=by
 refine enter Tryz.func208 rfl Tryz.ntmps208 rfl ?_
 refine .seq (.region (.asg rfl rfl (.asg rfl rfl (.nil (.scope (.seq (.label (.seq (.seq (.region (.mv rfl rfl (.asg rfl rfl (.nil ?_)))))))))))))
 refine .block (.loop (α:=Nat) (fun i=>[(0,vr),(2,.int .i64 col),(6,.int .i64 0),(7,.bool false),(8,.int .i64 (i:Nat))]) (fun i W=>Ext w W∧i≤n∧pivRow f col (n-a) a=pivRow f col (n-i) i) (fun i=>n-i) a ?_ ?_ ?_)
 ·exact lkA rfl
 ·exact ⟨Ext.refl _,ha,rfl⟩
 ·rintro i W ⟨hB,hi,he⟩
  have hm:=ER.ext eM h hB
  refine .seq (.seq (.region (.mv rfl rfl (.mv rfl rfl (.lenR un_M rfl rfl hm ?_)))))
  rw [A5]
  by_cases hlt:i<n
  ·refine .lssT rfl rfl rfl (by omega) (.nil (.condT rfl (.skip (.seq (.block (.seq (.region (.mv rfl rfl (.mv rfl rfl ?_)))))))))
   refine .ixN (i:=i) un_M ty_V rfl rfl hm rfl (E7 hlt) fun p hp=>.ldE ty_V rfl rfl hp fun e1 h1=>.mv rfl rfl ?_
   refine .ixN (i:=col) un_V ty_Q rfl rfl h1 rfl (G1 hcol) fun p2 hp2=>.ldE ty_Q rfl rfl hp2 fun e2 h2=>?_
   refine .call _ rfl P1 rfl (O7 h2) fun v3 w3 e3 h3=>.nil (.block ?_)
   subst h3
   rw [A8]
   have hst:pivRow f col (n-i) i=if f i col=0 then pivRow f col (n-(i+1)) (i+1) else some i:=by
    rw [show n-i=(n-(i+1))+1 by omega];rfl
   rcases sgn_tri (f i col) with ⟨h0,hs⟩ | ⟨h0,hs⟩ | ⟨h0,hs⟩
   ·rw [hs]
    refine .seq (.seq (.region (.eqlF rfl rfl rfl (by decide) (.asg rfl rfl (.nil (.condF rfl (.region (.eqlF rfl rfl rfl (by decide) (.asg rfl rfl (.nil (.condF rfl (.skip ?_))))))))))))
    refine .region (.mv rfl rfl (.add rfl rfl rfl (.asg rfl rfl (.nil ?_))))
    rw [wI (by omega)]
    rw [if_pos h0] at hst
    exact ⟨rfl,i+1,lkA rfl,⟨hB.trans e3,hlt,he.trans hst⟩,by show n-(i+1)<n-i;omega⟩
   ·rw [hs]
    rw [if_neg h0] at hst
    refine .seq (.seq (.region (.eqlF rfl rfl rfl (by decide) (.asg rfl rfl (.nil (.condF rfl (.region (.eqlT rfl rfl rfl rfl (.asg rfl rfl (.nil (.condT rfl (.seq (.region (.mv rfl rfl (.asg rfl rfl (.asg rfl rfl (.nil (.exit ?_))))))))))))))))))
    refine .seq (.region (.mv rfl rfl (.mv rfl rfl (.asg rfl rfl (.asg rfl rfl (.nil (.ret ?_)))))))
    exact .plain [_,_] Tryz.results208 ⟨rfl,rfl,trivial⟩ ⟨hB.trans e3,by rw [he,hst];rfl⟩
   ·rw [hs]
    rw [if_neg h0] at hst
    refine .seq (.seq (.region (.eqlT rfl rfl rfl rfl (.asg rfl rfl (.nil (.condT rfl (.skip (.condT rfl (.seq (.region (.mv rfl rfl (.asg rfl rfl (.asg rfl rfl (.nil (.exit ?_)))))))))))))))
    refine .seq (.region (.mv rfl rfl (.mv rfl rfl (.asg rfl rfl (.asg rfl rfl (.nil (.ret ?_)))))))
    exact .plain [_,_] Tryz.results208 ⟨rfl,rfl,trivial⟩ ⟨hB.trans e3,by rw [he,hst];rfl⟩
  ·refine .lssF rfl rfl rfl (by omega) (.nil (.condF rfl (.exit ?_)))
   refine .seq (.region (.mv rfl rfl (.mv rfl rfl (.asg rfl rfl (.asg rfl rfl (.nil (.ret ?_)))))))
   exact .plain [_,_] Tryz.results208 ⟨rfl,rfl,trivial⟩ ⟨hB,by rw [he,show n-i=0 by omega];rfl⟩
abbrev ign:Value:=.agg #[.func (.func 211) #[] #[],.func (.func 212) #[] #[]]
theorem zero_EV:zeroOf Tryz.prog 159=some (.agg #[.nilFunc,.nilFunc]):=by kernel_rfl
theorem ty_EV:tyOf Tryz.prog 159=some (true,2):=by kernel_rfl
theorem bld_EV {f g:Value} (hf:one1 f=true) (hg:one1 g=true):bldOf Tryz.prog 159 [(0,f),(1,g)]=some #[f,g]:=by
 cases f<;>first | (cases hf;done) | (cases g<;>first | (cases hg;done) | kernel_rfl)
theorem AM7:Ent Tryz.prog 155:=A0 Tryz.func155 (by kernel_rfl) rfl
theorem AM2 {w:World}:CR Tryz.prog 155 #[] w (Is ign):=by
 refine enter Tryz.func155 rfl Tryz.ntmps155 rfl ?_
 refine .seq (.region (.alloc rfl zero_EV fun w1 b0 n1=>.nil ?_))
 obtain ⟨e1,k1,hb1,hs1⟩:=n1
 refine .seq (.region (.bld _ rfl rfl (bld_EV rfl rfl) ?_))
 refine .store ty_EV rfl rfl k1 rfl (by simp [Value.cells]) (by simp [one1,Value.cells]) fun w2 k2 u2=>.nil (.ret ?_)
 replace k2:Blk w2 b0 159 #[.func (.func 211) #[] #[],.func (.func 212) #[] #[]]:=k2
 have:=E5 (P:=Tryz.prog) (w:=w2) (p:=⟨b0,0,none⟩) (cs:=[.func (.func 211) #[] #[],.func (.func 212) #[] #[]]) (t:=159) ty_EV (fun j u hu=>by
  rw [I6,k2.cell,Nat.zero_add]
  match j with
  | 0=>exact hu
  | 1=>exact hu
  | j+2=>simp at hu)
 exact .plain [_] Tryz.results155 ⟨⟨_,rfl,this⟩,trivial⟩ ⟨u2.below e1 (by omega),rfl⟩
end Go.Proofs.YtfilidfomgfnhaaGreat
