/-
  What the claim leans on.
-/
import Derived.Test.YtpgkacdihhjknaaGreatG6
set_option linter.unusedVariables false
namespace Go.Kx
open Go Go.RowKit
section
variable {P:Program} {σ:Env} {w:World} {ty:TypeId} {pos:String} {af:Array Edge}
end
theorem Az9 {α:Type} {E:ER α} {hsz:0<E.sz} {S:Nat->Prop} {w:World} {v:Value} {l:List α} {i:Nat} {q:α} (h:(RL E hsz).R S w v l) (hq:l[i]?=some q):∃ ad c e,v=.slice (some ad) l.length c/\∀ W',Below w.heap.size w W'->PtrX W' (ad.add (i*E.sz)) e/\E.R (fun k=>S k/\k<w.heap.size) W' e q:=by
 obtain ⟨es,hE⟩:=RL.toEs h
 have hil:=(List.getElem?_eq_some_iff.1 hq).1
 obtain ⟨e,he⟩:∃ e,es[i]?=some e:=⟨_,List.getElem?_eq_getElem (by rw [hE.1.1];exact hil)⟩
 obtain ⟨ad,c,hv,hp⟩:=hE.at_ he
 have hr:=hE.1.2 i e q he hq
 refine ⟨ad,c,e,hv,fun W' hB=>⟨fun j u hu=>?_,E.keep (fun k c t f hk h=>(hB.block k hk.2).trans h) (ER.lt E hr)⟩⟩
 have h1:=hp j u hu
 have hl:=AR1 h1
 rw [AK1 (hB.block _ hl)]
 exact h1
theorem set_mid {α:Type} (l r:List α) (v x:α):(l++v::r).set l.length x=l++x::r:=by
 rw [List.set_append_right _ _ (Nat.le_refl _),Nat.sub_self,List.set_cons_zero]
theorem get_mid {α:Type} (l r:List α) (v:α):(l++v::r)[l.length]?=some v:=by
 rw [List.getElem?_append_right (Nat.le_refl _),Nat.sub_self];rfl
end Go.Kx
namespace Go.Proofs.YtpgkacdihhjknaaGreat
open Go Go.Kx Go.RowKit
theorem As8:Ent Tryz.prog 193:=A0 Tryz.func193 (by kernel_rfl) rfl
theorem Ao1 {S:Nat->Prop} {w:World} {vc:Value} {B M:Nat} {g:RM} (up:Up S w) (hc:eM.R S w vc (tabM B M g)) (hB:B<=1000) (hM:M<=1000) :
  CR Tryz.prog 193 #[vc,.int .i64 (M:Nat)] w (eM.at S (tabM M B fun i c=>g c i)):=by
 have hcW:∀ {W:World},Below w.heap.size w W->eM.R (fun k=>S k/\k<w.heap.size) W vc (tabM B M g):=fun h=>eM.keep (fun k c t f hk hh=>(h.block k hk.2).trans hh) (ER.lt eM hc)
 refine enter Tryz.func193 O Tryz.ntmps193 O ?_
 refine .sr (.an O O (.sr (.mv O O ?_)))
 refine .make_ M M un_M AG9 O (by decide) O O O (Nat.le_refl _) (by omega) (by omega) fun w1 gb n1=>.an O O ?_
 obtain ⟨e1,k1,hgb,hs1⟩:=n1
 generalize hF:(fun i=>tab B fun c=>g c i)=F
 refine .seq (.sr (.mv O O (.len un_M O O (.mv O O (.nil ?_)))))
 refine .block (.loop (α:=List Value) (fun rs=>[(0,vc),(5,.slice (some ⟨gb,0,none⟩) M M),(12,.int .i64 (M:Nat)),(13,.int .i64 (rs.length:Nat))]) (fun rs W=>Below w.heap.size w W/\rs.length<=M/\Blk W gb 26 (cellsOf (rs++List.replicate (M-rs.length) nilV)).toArray/\Els eV (fun k=>S k/\k≠gb) W rs ((List.range rs.length).map F)) (fun rs=>M-rs.length) [] ?_ ?_ ?_)
 ·exact lkA rfl
 ·exact ⟨e1,Nat.zero_le _,k1,Els.nil⟩
 rintro rs W ⟨hW,hi,hO,hels⟩
 have hWs:=hW.size
 have hgl:=hO.lt
 refine .sr ?_
 rcases Nat.lt_or_ge rs.length M with hlt | hge
 rotate_left
 ·refine .lssF O O O (by omega) (.nil (.seq (.condF O (.exit (.sr (.mv O O (.an O O (.ret ?_))))))))
  have hl:rs.length=M:=by omega
  rw [hl,Nat.sub_self,List.replicate_zero,List.append_nil] at hO
  rw [hl] at hels
  refine .plain [_] Tryz.results193 ⟨rfl,trivial⟩ ⟨hW,?_⟩
  have hfb:FB eV 26 S W gb (tabM M B fun i c=>g c i):=⟨rs,hO,by unfold tabM;rw [hF];exact hels⟩
  have:=hfb.toR (hsz:=by decide) (c:=M) (up gb (by omega)) (by rw [A4];exact Nat.le_refl _) (by rw [A4];omega)
  rw [A4] at this
  exact this
 have hrep:rs++List.replicate (M-rs.length) nilV=rs++nilV::List.replicate (M-(rs.length+1)) nilV:=by rw [show M-rs.length=M-(rs.length+1)+1 by omega,List.replicate_succ]
 rw [hrep] at hO
 refine .lssT O O O (by omega) (.nil (.seq (.condT O (.skip (.seq (.block (.sr (.mv O O (.an O O (.sr (.mv O O (.lenR un_M O O (hcW hW) (.mv O O (.nil ?_))))))))))))))
 rw [A4]
 refine .block (.loop (α:=Nat×Value) (fun y=>[(0,vc),(5,.slice (some ⟨gb,0,none⟩) M M),(12,.int .i64 (M:Nat)),(13,.int .i64 (rs.length:Nat)),(6,.int .i64 (rs.length:Nat)),(16,vc),(17,.int .i64 (B:Nat)),(18,.int .i64 (y.1:Nat))])
  (fun y W'=>Below w.heap.size w W'/\W.heap.size<=W'.heap.size/\y.1<=B/\Blk W' gb 26 (cellsOf (rs++y.2::List.replicate (M-(rs.length+1)) nilV)).toArray/\Kp (fun k=>k<W.heap.size/\k≠gb) W W'/\OwnL eQ 39 W.heap.size (fun k=>S k/\k≠gb) W' y.2 (tab y.1 fun c=>g c rs.length)) (fun y=>B-y.1) (0,nilV) ?_ ?_ ?_)
 ·exact lkA rfl
 ·exact ⟨hW,Nat.le_refl _,Nat.zero_le _,hO,fun _ _ _ _ _ h=>h,OwnL.nil⟩
 rintro ⟨j,v⟩ W' ⟨hW',hsz,hj,hO,hK,hown⟩
 replace hW':Below w.heap.size w W':=hW'
 replace hj:j<=B:=hj
 replace hO:Blk W' gb 26 (cellsOf (rs++v::List.replicate (M-(rs.length+1)) nilV)).toArray:=hO
 replace hown:OwnL eQ 39 W.heap.size (fun k=>S k/\k≠gb) W' v (tab j fun c=>g c rs.length):=hown
 refine .sr ?_
 rcases Nat.lt_or_ge j B with hjl | hge
 rotate_left
 ·refine .lssF O O O (by omega) (.nil (.seq (.condF O (.exit (.region (.add O O O (.mv O O (.nil ?_))))))))
  rw [wI (by omega)]
  have:j=B:=by omega
  subst this
  refine ⟨rfl,rs++[v],A5 O (A5 O (A5 O (A5 (by rw [List.length_append];rfl) AG6))),⟨hW',by rw [List.length_append];exact hlt,?_,?_⟩,by rw [List.length_append];show M-(rs.length+1)<M-rs.length;omega⟩
  ·rw [List.length_append,List.append_assoc]
   exact hO
  ·rw [List.length_append]
   show Els eV _ W' (rs++[v]) ((List.range (rs.length+1)).map F)
   rw [List.range_succ,List.map_append]
   have h1:Els eV (fun k=>S k/\k≠gb) W' rs ((List.range rs.length).map F):=⟨hels.1,fun i e x he hx=>by
    have h2:=ER.lt eV (hels.2 i e x he hx)
    have h3:=eV.keep (fun k c t f hk hc=>hK k c t f ⟨hk.2,hk.1.2⟩ hc) h2
    exact eV.mono (fun k _ h=>h.1) h3⟩
   refine h1.snoc ?_
   rw [<-hF]
   exact hown.toR (fun k hk=>⟨up k (by omega),by omega⟩) (fun _ h=>h)
 refine .lssT O O O (by omega) (.nil (.seq (.condT O (.skip (.seq (.block (.sr ?_)))))))
 obtain ⟨adc,cc,ec,hvc,hrc⟩:=Az9 (E:=eV) (i:=j) hc (D9 hjl)
 obtain ⟨hpc,hec⟩:=hrc w (Below.refl _ _)
 obtain ⟨ade,ce,ee,hve,hre⟩:=Az9 (E:=eQ) (i:=rs.length) hec (F5 hlt)
 obtain ⟨esC,hEC⟩:=RL.toEs (hcW hW')
 rw [A1] at hve
 have hgc:∃ p,PtrX W' p ec:=⟨_,(hrc W' hW').1⟩
 rw [A4] at hvc
 subst hvc
 refine .gv O O (Ay7 (i:=j) (sz:=1) un_M ty_V O O hjl).gv ?_
 rintro _ _ ⟨rfl,rfl⟩
 refine .ldX (E:=eV) ty_V O O (hrc _ hW').1 (hrc _ hW').2 (.an O O ?_)
 subst hve
 have hesz:∀ {v:Value},v.cells.size=1->∀ e∈rs++v::List.replicate (M-(rs.length+1)) nilV,e.cells.size=1:=fun hv e he=>by
  rcases List.mem_append.1 he with h | h
  ·exact hels.sz e h
  ·rcases List.mem_cons.1 h with h | h
   ·rw [h];exact hv
   ·rw [(List.mem_replicate.1 h).2];rfl
 obtain ⟨av,cv,hvv⟩:=hown.slice
 have hv1:v.cells.size=1:=by rw [hvv];rfl
 have hcell:(cellsOf (rs++v::List.replicate (M-(rs.length+1)) nilV)).toArray[0+rs.length*1]?=some v:=by
  have:=C8 _ rs.length 0 v (hesz hv1) (get_mid _ _ _) (by decide)
  rw [List.getElem?_toArray,show 0+rs.length*1=rs.length*1+0 by omega,this,hvv];rfl
 have hee:∀ W',Below w.heap.size w W'->PtrX W' (ade.add (rs.length*4)) ee/\eQ.R (fun k=>(S k/\k<w.heap.size)/\k<w.heap.size) W' ee (qc (g j rs.length)):=hre
 refine .held follows true (fun W2=>Blk W2 gb 26 (cellsOf (rs++v::List.replicate (M-(rs.length+1)) nilV)).toArray/\Below w.heap.size w W2)
  [some (.slice (some ⟨gb,0,none⟩) M M),some (.int .i64 (rs.length:Nat)),some (.slice (some ⟨gb,0,none⟩) M M),some (.int .i64 (rs.length:Nat)),some (.pointer (some ⟨gb,0+rs.length*1,none⟩)),some v,some (.slice (some ade) M ce),some (.int .i64 (rs.length:Nat)),some (.pointer (some (ade.add (rs.length*4)))),some ee,none,none,none,none] (by kernel_rfl)
  ⟨fun _ _=>v_mv rfl,fun _ _=>v_mv rfl,fun _ _=>v_mv rfl,fun _ _=>v_mv rfl,fun _ _=>E3 (i:=rs.length) un_M ty_V O O hlt,fun _ h=>v_ld ty_V O h.1 hcell,fun _ _=>v_mv rfl,fun _ _=>v_mv rfl,fun _ _=>Ay7 (i:=rs.length) un_V ty_Q O O hlt,fun _ h=>AF0 (E:=eQ) ty_Q O (hee _ h.2).1 (hee _ h.2).2,trivial⟩ ?_
 intro W2 e2 _
 have hW2:Below w.heap.size w W2:=hW'.trans (e2.mono hW'.size)
 have hO:=hO.ext e2
 have hown:=hown.ext e2
 obtain ⟨_,hr2⟩:=hee W2 hW2
 have hr2':=hr2
 obtain ⟨s2,t2,rfl,_,_⟩:=hr2'
 refine .gv ⟨hO,hW2⟩ rfl (AL4 _ O Ax2) ?_
 rintro _ W3 ⟨b3,rfl,n3⟩
 obtain ⟨e3,k3,hb3,hs3⟩:=n3
 have hW3:Below w.heap.size w W3:=hW2.trans (e3.mono hW2.size)
 have hO:=hO.ext e3
 have hown:=hown.ext e3
 have hs2:=e2.size
 obtain ⟨es,ho1,_⟩:=id hown
 refine .gv ⟨hO,hW3⟩ rfl (AA2 (E:=eQ) (base:=W.heap.size) (by decide) un_V K7 O O O hown k3 (eQ.mono (fun k _ h=>⟨⟨h.1.1,by have:=h.2;omega⟩,fun e=>by have:=(ho1.lt k e).1;have:=h.2;omega⟩) (hr2.ext e3)) (by rw [A1];omega) (by decide) (by omega)) ?_
 rintro v4 W4 ⟨ho4,hg4⟩
 have hO4:=hown.gblk hg4 hO (by decide)
 have hlow4:Below w.heap.size w W4:=by
  have hK4:=hown.below (w0:=W3) hg4 (Below.refl _ _) (by omega)
  exact hW3.trans (hK4.mono (by omega))
 refine .gv ⟨hO4,hlow4⟩ rfl (E3 (i:=rs.length) un_M ty_V O O hlt).gv ?_
 rintro _ _ ⟨rfl,rfl⟩
 obtain ⟨a4,c4,hv4⟩:=ho4.slice
 have hv41:v4.cells.size=1:=by rw [hv4];rfl
 refine .gv ⟨hO4,hlow4⟩ rfl (Ac1 (i:=rs.length) (by decide) ty_V O O hO4 (hesz hv1) hv41 (by rw [hv4];simp [one1,Value.cells]) (by simp) (Nat.zero_add _)) ?_
 rintro _ W5 ⟨hO5,u5⟩
 rw [set_mid] at hO5
 refine .nil (.inl O) ?_
 have hs4:=hg4.size
 have hs5:=u5.size
 refine .region (.add O O O (.mv O O (.nil ?_)))
 rw [wI (by omega)]
 refine ⟨rfl,(j+1,v4),lkA rfl,⟨u5.below hlow4 (by omega),by show W.heap.size<=W5.heap.size;omega,hjl,hO5,?_,?_⟩,by show B-(j+1)<B-j;omega⟩
 ·intro k c t f hk hc
  have h1:=hK k c t f hk hc
  have h2:=(e3.block k (by have:=(Array.getElem?_eq_some_iff.1 h1).1;omega)).trans ((e2.block k (Array.getElem?_eq_some_iff.1 h1).1).trans h1)
  have h3:=(hg4.block k (by have:=(Array.getElem?_eq_some_iff.1 h2).1;omega) (fun e=>by have:=(ho1.lt k e.symm).1;have:=hk.1;omega)).trans h2
  exact (u5.block k hk.2).trans h3
 ·have:=ho4.upd u5 hO4 (by decide) (fun h=>h.2 O)
  have e:tab (j+1) (fun c=>g c rs.length)=tab j (fun c=>g c rs.length)++[qc (g j rs.length)]:=by unfold tab;rw [List.range_succ,List.map_append];rfl
  show OwnL eQ 39 W.heap.size _ W5 v4 (tab (j+1) fun c=>g c rs.length)
  rw [e]
  exact this
theorem AY7:Ent Tryz.prog 133:=A0 Tryz.func133 (by kernel_rfl) rfl
theorem AX8 {S T0:Nat->Prop} {w:World} {vn vo:Value} {n:NtV} {o:List Int} (up:Up S w) (upo:Up T0 w) (hn:eN.R S w vn n) (ho:eI.R S w vo o) :
  CR Tryz.prog 133 #[vn,vo] w (Two (eM.at T0 (if outE n o=0 then tabM n.ls.length (nwOf n o).B (nwOf n o).hf else [])) (Is (.int .i64 (outE n o)))):=by
 obtain ⟨s,rfl,hs,hb⟩:=hn
 have hn:eN.R S w (.agg #[.int .i64 n.b,s]) n:=⟨s,rfl,hs,hb⟩
 refine enter Tryz.func133 O Tryz.ntmps133 O (.sr (.box O O fun w1 b2 n1=>.asg O O (.an O O ?_)))
 obtain ⟨e1,k2,hb2,hs1⟩:=n1
 refine .sr (.ldA ty_N O O k2 O (.mv O O (.call _ O AC4 O (AB7 (up.ext e1.size) (hn.ext e1) (ho.ext e1)) fun v2 w2 e2 h2=>?_)))
 obtain ⟨vl,ve,rfl,hl,he⟩:=h2
 replace he:ve=.int .i64 (outE n o):=he
 subst he
 obtain ⟨al,cl,hvl,_⟩:=RL.len hl
 refine .mv O O (.ext O O O (.ext O O O (.alloc O Au2 fun w3 b6 n3=>?_)))
 obtain ⟨e3,k6,hb6,hs3⟩:=n3
 refine .store ty_I O O k6 (by rw [hvl];rfl) (by simp [Value.cells]) (by rw [hvl];simp [one1,Value.cells]) fun w4 k6 u4=>.an O O (.seq (.sr (.mv O O ?_)))
 replace k6:Blk w4 b6 25 #[vl]:=by rw [hvl] at k6 ⊢;exact k6
 have x2:=e1.trans e2
 have x24:Ext w2 w4:=u4.below e3 (by omega)
 have x4:=x2.trans x24
 by_cases hE:outE n o=0
 rotate_left
 ·refine .neqT O O O hE (.nil (.condT O (.sr (.mv O O (.asg O O (.an O O (.ret (.plain [_,_] Tryz.results133 ⟨rfl,rfl,trivial⟩ ⟨x4,_,_,rfl,?_,rfl⟩))))))))
  rw [if_neg hE];exact RL.nil
 have ok:=I9 hE
 rw [if_pos hE] at hl ⊢
 have hB1:=ok.b1
 have hB6:=ok.b6
 have hM10:n.ls.length<=10:=ok.m
 have hnb:=ok.b
 refine .neqF O O O hE (.nil (.condF O (.skip (.sr (.ldA ty_N O O (k2.ext (e2.trans x24)) O (.mv O O ?_))))))
 have hl4:=ER.ext eI hl x24
 refine .call _ O AA7 O (AA1 (up.ext x4.size) (hn.ext x4) (ho.ext x4)) fun v5 w5 e5 h5=>?_
 obtain ⟨vr,ve,rfl,hr,he⟩:=h5
 replace he:ve=.int .i64 (outE n o):=he
 subst he
 rw [if_pos hE] at hr
 have x5:=x4.trans e5
 refine .mv O O (.ext O O O (.ext O O O (.asg O O (.an O O (.seq (.sr (.mv O O (.neqF O O O hE (.nil (.condF O (.skip (.sr (.ldA ty_N O O ((k2.ext (e2.trans x24)).ext e5) O (.ld ty_I O O (k6.ext e5) O (.mv O O ?_)))))))))))))))
 have hl5:=ER.ext eI hl4 e5
 refine .call _ O AR7 O (AP4 (up.ext x5.size) (hn.ext x5) hl5 hr ok) fun vA w6 e6 hA=>?_
 have x6:=x5.trans e6
 have hcA:colsOf (nwOf n o).gA=(nwOf n o).gA.length:=by rw [AJ6 hB1,I5]
 refine .call _ O AY6 O (AX7 (L:=21) (n:=6) (m:=(nwOf n o).gA) (up.ext x6.size) hA (BB6 ok) (by decide) (by rw [I5];exact hB6) (by rw [hcA,I5];omega) (by decide) (by decide)) fun v7 w7 e7 h7=>?_
 obtain ⟨vi,ve,rfl,hi,he⟩:=h7
 replace he:ve=.int .i64 (if colsOf (nwOf n o).gA=(nwOf n o).gA.length then (if invertible (nwOf n o).gA then 0 else 8) else 13):=he
 have hinv:=Al4 ok.ok hB1
 rw [if_pos hcA,if_pos hinv] at he
 subst he
 replace hi:eM.R S w7 vi (invM (nwOf n o).gA):=by rw [if_pos ⟨hcA,hinv⟩] at hi;exact hi
 obtain ⟨ai,ci,hvi,_⟩:=RL.len hi
 have x7:=x6.trans e7
 refine .mv O O (.ext O O O (.ext O O O (.alloc O BI3 fun w8 b9 n8=>?_)))
 obtain ⟨e8,k9,hb9,hs8⟩:=n8
 refine .store ty_M O O k9 (by rw [hvi];rfl) (by simp [Value.cells]) (by rw [hvi];simp [one1,Value.cells]) fun w9 k9 u9=>.an O O (.seq (.sr (.mv O O (.neqF O O O O (.nil (.condF O (.skip (.sr (.mkf [] [_,_,_] O O O O (.an O O (.sr (.an O O ?_))))))))))))
 replace k9:Blk w9 b9 70 #[vi]:=by rw [hvi] at k9 ⊢;exact k9
 have x79:Ext w7 w9:=u9.below e8 (by omega)
 have x9:=x7.trans x79
 have x49:Ext w4 w9:=((e5.trans e6).trans e7).trans x79
 have k2:=(k2.ext (e2.trans x24)).ext x49
 have k6:=k6.ext x49
 have hs9:=x9.size
 have hsW:∀ {W:World},Ext w9 W->eLs.R (fun k=>S k/\k<w9.heap.size) W s n.ls:=fun e=>ER.ext eLs (ER.lt eLs (hs.ext x9)) e
 have hlW:∀ {W:World},Ext w9 W->eI.R (fun k=>S k/\k<w9.heap.size) W vl (pInts (inL n o)):=fun e=>ER.ext eI (ER.lt eI (ER.ext eI hl4 x49)) e
 have hiW:∀ {W:World},Ext w9 W->eM.R (fun k=>S k/\k<w9.heap.size) W vi (invM (nwOf n o).gA):=fun e=>ER.ext eM (ER.lt eM (ER.ext eM hi x79)) e
 have hik:mk_ 87381 (invM (nwOf n o).gA):=by
  have:=BA6 (n:=6) (BB6 ok) (by decide) (by rw [I5];exact hB6)
  rwa [bd216] at this
 rw [hnb] at k2
 generalize hG:(fun b=>tab n.ls.length ((nwOf n o).fl ((nwOf n o).th b)))=G
 have hGl:∀ b,(G b).length=n.ls.length:=fun b=>by rw [<-hG];exact A1 ..
 refine .mid (α:=Value) (fun v=>[(2,.pointer (some ⟨b2,0,none⟩)),(11,v)]) (fun v W=>Ext w9 W/\OwnL eV 26 w9.heap.size T0 W v ((List.range (nwOf n o).B).map G)) ?_ ?_
 ·refine .sr (.fa I6 O O (.ld A8 O O k2 O (.mv O O (.nil ?_))))
  refine .block (.loop (α:=Nat×Value) (fun y=>[(2,.pointer (some ⟨b2,0,none⟩)),(10,.func (.func 191) #[] #[.pointer (some ⟨b2,0,none⟩),.pointer (some ⟨b6,0,none⟩),.pointer (some ⟨b9,0,none⟩)]),(11,y.2),(44,.int .i64 ((nwOf n o).B:Nat)),(45,.int .i64 (y.1:Nat))]) (fun y W=>Ext w9 W/\y.1<=(nwOf n o).B/\OwnL eV 26 w9.heap.size T0 W y.2 ((List.range y.1).map G)) (fun y=>(nwOf n o).B-y.1) (0,.slice none 0 0) ?_ ?_ ?_)
  ·exact lkA rfl
  ·exact ⟨Ext.refl _,Nat.zero_le _,OwnL.nil⟩
  rintro ⟨b,v⟩ W ⟨hW,hbB,hown⟩
  replace hW:Ext w9 W:=hW
  replace hbB:b<=(nwOf n o).B:=hbB
  replace hown:OwnL eV 26 w9.heap.size T0 W v ((List.range b).map G):=hown
  have hWs:=hW.size
  refine .sr ?_
  rcases Nat.lt_or_ge b (nwOf n o).B with hlt | hge
  rotate_left
  ·refine .lssF O O O (by omega) (.nil (.seq (.condF O (.exit ?_))))
   have:b=(nwOf n o).B:=by omega
   subst this
   exact ⟨rfl,v,lkA rfl,hW,hown⟩
  obtain ⟨es,ho1,_⟩:=id hown
  have hT:∀ k,S k/\k<w9.heap.size->S k/\v.ownBlock≠some k:=fun k h=>⟨h.1,fun e=>by have:=(ho1.lt k e).1;have:=h.2;omega⟩
  have upO:Up (fun k=>T0 k/\v.ownBlock≠some k) W:=fun k hk=>⟨upo k (by omega),fun e=>by have:=(ho1.lt k e).2;omega⟩
  have upT:Up (fun k=>S k/\v.ownBlock≠some k) W:=fun k hk=>⟨up k (by omega),fun e=>by have:=(ho1.lt k e).2;omega⟩
  refine .lssT O O O (by omega) (.nil (.seq (.condT O (.skip (.seq (.block (.sr (.mv O O (.an O O (.region (.mv O O (.mv O O (.mv O O ?_)))))))))))))
  refine .callv [.int .i64 (b:Nat)] O O E_col O (col_t (S:=fun k=>S k/\v.ownBlock≠some k) (T0:=fun k=>T0 k/\v.ownBlock≠some k) (b:=b) upT upO ok (k2.ext hW) (eLs.mono (fun k _ h=>hT k h) (hsW hW)) (k6.ext hW) (eI.mono (fun k _ h=>hT k h) (hlW hW)) (k9.ext hW) (eM.mono (fun k _ h=>hT k h) (hiW hW)) hik (by decide) (by decide)) fun vc W1 f1 hc=>?_
  have hc:eV.R (fun k=>T0 k/\v.ownBlock≠some k) W1 vc (G b):=by rw [<-hG];exact hc
  obtain ⟨ac,cc,hvc,_⟩:=RL.len hc
  rw [hGl] at hvc
  subst hvc
  refine .bsl _ O O BP4 fun W2 by_ ny=>?_
  obtain ⟨ey,ky,hby,hsy⟩:=ny
  have f2:=f1.trans ey
  have hW2:=hW.trans f2
  refine .gv O O (AA2 (E:=eV) (base:=w9.heap.size) (n:=G b) (e:=.slice ac n.ls.length cc) (by decide) un_M AG9 O O O (hown.ext f2) ky (ER.ext eV hc ey) (by simp;omega) (by decide) hW2.size) ?_
  rintro v8 W8 ⟨ho8,hg8⟩
  refine .an O O (.region (.add O O O (.mv O O (.nil ?_))))
  rw [wI (by omega)]
  refine ⟨rfl,(b+1,v8),lkA rfl,⟨(hown.ext f2).below hg8 hW2 hW2.size,hlt,?_⟩,by show (nwOf n o).B-(b+1)<(nwOf n o).B-b;omega⟩
  show OwnL eV 26 w9.heap.size T0 W8 v8 ((List.range (b+1)).map G)
  rw [List.range_succ,List.map_append]
  exact ho8
 rintro v W ⟨hW,hown⟩
 have hcol:eM.R T0 W v (tabM (nwOf n o).B n.ls.length fun b k=>(nwOf n o).hf k b):=by
  have:=hown.toR (S:=T0) (hsz:=by decide) (fun k hk=>upo k (by omega)) (fun _ h=>h)
  rw [<-hG] at this
  exact this
 refine .sr (.mv O O (.fa K9 O O (.ld R7 O O (k2.ext hW) O (.lenR M4 O O (hsW hW) ?_))))
 refine .call _ O As8 O (Ao1 (upo.ext (x9.trans hW).size) hcol (by omega) (by omega)) fun vt W1 f1 ht=>.asg O O (.an O O (.ret ?_))
 exact .plain [_,_] Tryz.results133 ⟨rfl,rfl,trivial⟩ ⟨(x9.trans hW).trans f1,_,_,rfl,ht,by rw [hE]⟩
theorem AX9 {S:Nat->Prop} {w:World} {vn vo:Value} {n:NtV} {o:List Int} (up:Up S w) (hn:eN.R S w vn n) (ho:eI.R S w vo o) :
  CR Tryz.prog 133 #[vn,vo] w (Two (eM.at S (if outE n o=0 then tabM n.ls.length (nwOf n o).B (nwOf n o).hf else [])) (Is (.int .i64 (outE n o)))):=AX8 up up hn ho
open Classical in
noncomputable def btE (n:NtV) (o:List Int) (a b:Int):Int:=if conE n o a b≠0 then conE n o a b else if conB n o a b=true then 0 else 8
def btV (n:NtV) (o:List Int) (a b:Nat):List QV:=tab n.ls.length fun k=>(nwOf n o).hf k a-(nwOf n o).hf k b
theorem AY8:Ent Tryz.prog 79:=A0 Tryz.func79 (by kernel_rfl) rfl
theorem AY0 {S T0:Nat->Prop} {w:World} {vn vo:Value} {n:NtV} {o:List Int} {a b:Int} (up:Up S w) (upo:Up T0 w) (hn:eN.R S w vn n) (ho:eI.R S w vo o) :
  CR Tryz.prog 79 #[vn,vo,.int .i64 a,.int .i64 b] w (Two (eV.at T0 (if btE n o a b=0 then btV n o a.toNat b.toNat else [])) (Is (.int .i64 (btE n o a b)))):=by
 have hvn:=shpA (E:=eN) O hn
 refine enter Tryz.func79 O Tryz.ntmps79 O ?_
 refine .sr (.box O O fun w1 b4 n1=>.asg O O (.an O O ?_))
 obtain ⟨e1,k4,hb4,hs1⟩:=n1
 refine .sr (.ldA ty_N O O k4 (eN.csz hn) (.mv O O (.mv O O (.mv O O ?_))))
 rw [<-hvn]
 refine .call _ O AO3 O (AN4 (up.ext e1.size) (hn.ext e1) (ho.ext e1)) fun v2 w2 e2 h2=>?_
 obtain ⟨vb,ve,rfl,hb,he⟩:=h2
 replace hb:vb=.bool (conB n o a b):=hb
 replace he:ve=.int .i64 (conE n o a b):=he
 subst hb;subst he
 have x2:=e1.trans e2
 refine .mv O O (.ext O O O (.ext O O O (.asg O O (.an O O (.seq (.sr (.mv O O ?_)))))))
 by_cases hE:conE n o a b=0
 rotate_left
 ·have hb:btE n o a b=conE n o a b:=by unfold btE;rw [if_pos hE]
  refine .neqT O O O hE (.nil (.condT O (.sr (.mv O O (.asg O O (.an O O (.ret ?_)))))))
  refine .plain [_,_] Tryz.results79 ⟨rfl,rfl,trivial⟩ ⟨x2,_,_,rfl,?_,by rw [hb];rfl⟩
  rw [if_neg (by rw [hb];exact hE)];exact RL.nil
 refine .neqF O O O hE (.nil (.condF O (.skip (.seq (.sr (.mv O O (.not_ O O (.nil ?_))))))))
 by_cases hC:conB n o a b=true
 rotate_left
 ·have hb:btE n o a b=8:=by unfold btE;rw [if_neg (by simpa using hE),if_neg hC]
  rw [Bool.not_eq_true] at hC
  rw [hC]
  refine .condT O (.sr (.asg O O (.an O O (.ret ?_))))
  refine .plain [_,_] Tryz.results79 ⟨rfl,rfl,trivial⟩ ⟨x2,_,_,rfl,?_,by rw [hb]⟩
  rw [if_neg (by rw [hb];decide)];exact RL.nil
 have hb:btE n o a b=0:=by unfold btE;rw [if_neg (by simpa using hE),if_pos hC]
 rw [hC,if_pos hb]
 obtain ⟨hO,hA,hBb⟩:=conE_ok hE
 have ok:=I9 hO
 have hB6:=ok.b6
 have hM10:n.ls.length<=10:=ok.m
 have hnb:=ok.b
 obtain ⟨a',rfl⟩:∃ a':Nat,a=a':=⟨a.toNat,by have:=hA.1;omega⟩
 obtain ⟨b',rfl⟩:∃ b':Nat,b=b':=⟨b.toNat,by have:=hBb.1;omega⟩
 have haB:a'<(nwOf n o).B:=by have:=hA.2;omega
 have hbB:b'<(nwOf n o).B:=by have:=hBb.2;omega
 refine .condF O (.skip (.sr (.ldA ty_N O O (k4.ext e2) (eN.csz hn) (.mv O O ?_))))
 rw [<-hvn]
 refine .call _ O AY7 O (AX9 (up.ext x2.size) (hn.ext x2) (ho.ext x2)) fun v3 w3 e3 h3=>?_
 obtain ⟨vm,ve,rfl,hm,he⟩:=h3
 replace he:ve=.int .i64 (outE n o):=he
 subst he
 rw [if_pos hO] at hm
 have x3:=x2.trans e3
 refine .mv O O (.ext O O O (.ext O O O (.asg O O (.an O O (.seq (.sr (.mv O O (.neqF O O O hO (.nil (.condF O (.skip (.sr (.mv O O (.lenR un_M O O hm ?_))))))))))))))
 rw [A4]
 refine .make_ _ _ un_V K7 O (by decide) O O O (Nat.le_refl _) (by omega) (by omega) fun w4 h n4=>.an O O ?_
 have f4:FB eQ 39 T0 w4 h (List.replicate n.ls.length q0):=FB.made n4 zq_R
 obtain ⟨e4,_,hh,hs4⟩:=n4
 have hmW:∀ {W:World},Below w3.heap.size w3 W->eM.R (fun k=>S k/\k<w3.heap.size) W vm (tabM n.ls.length (nwOf n o).B (nwOf n o).hf):=fun hB=>eM.keep (fun k c t f hk hh=>(hB.block k hk.2).trans hh) (ER.lt eM hm)
 refine .seq (.sr (.mv O O (.lenR un_M O O (hmW e4) (.mv O O (.nil ?_)))))
 rw [A4]
 generalize hG:(fun k=>qc ((nwOf n o).hf k a'-(nwOf n o).hf k b'))=G
 refine .block (.loop (α:=Nat) (fun i=>[(2,.int .i64 (a':Nat)),(3,.int .i64 (b':Nat)),(13,slB n.ls.length h),(41,vm),(42,.int .i64 (n.ls.length:Nat)),(43,.int .i64 (i:Nat))]) (fun i W=>Below w3.heap.size w3 W/\i<=n.ls.length/\FB eQ 39 T0 W h (fil n.ls.length i G q0)) (fun i=>n.ls.length-i) 0 ?_ ?_ ?_)
 ·exact lkA rfl
 ·exact ⟨e4,Nat.zero_le _,by rw [L0];exact f4⟩
 rintro i W ⟨hW,hi,fb⟩
 have hWs:=hW.size
 have hhl:=fb.lt
 refine .sr ?_
 rcases Nat.lt_or_ge i n.ls.length with hlt | hge
 rotate_left
 ·refine .lssF O O O (by omega) (.nil (.seq (.condF O (.exit (.sr (.mv O O (.asg O O (.an O O (.ret ?_)))))))))
  have:i=n.ls.length:=by omega
  subst this
  rw [Y6] at fb
  refine .plain [_,_] Tryz.results79 ⟨rfl,rfl,trivial⟩ ⟨x3.trans hW,_,_,rfl,?_,by rw [hb]⟩
  have:=fb.toR (hsz:=by decide) (c:=n.ls.length) (upo h (by have:=x3.size;omega)) (by simp) (by simp;omega)
  rw [List.length_map,List.length_range,<-hG] at this
  exact this
 refine .lssT O O O (by omega) (.nil (.seq (.condT O (.skip (.seq (.block (.sr (.mv O O (.ixN (i:=i) un_M ty_V O O (hmW hW) O (D9 hlt) fun q hq=>.ldE (E:=eV) ty_V O O hq fun vr hr=>.asg O O (.an O O ?_))))))))))
 have upO:∀ {W':World},Ext W W'->Up (fun k=>T0 k/\k≠h) W':=fun e k hk=>⟨upo k (by have:=e.size;have:=x3.size;omega),by have:=e.size;omega⟩
 have upT:∀ {W':World},Ext W W'->Up (fun k=>S k/\k≠h) W':=fun e k hk=>⟨up k (by have:=e.size;have:=x3.size;omega),by have:=e.size;omega⟩
 have hT:∀ k,S k/\k<w3.heap.size->S k/\k≠h:=fun k hk=>⟨hk.1,by have:=hk.2;omega⟩
 refine .par follows 11 [.inl (slB n.ls.length h),.inl (.int .i64 (i:Nat)),.inl vr,.inl (.int .i64 (a':Nat)),.inr (Ptr eQ (fun k=>S k/\k<w3.heap.size) (qc ((nwOf n o).hf i a'))),.inr (eQ.at (fun k=>S k/\k<w3.heap.size) (qc ((nwOf n o).hf i a'))),.inl vr,.inl (.int .i64 (b':Nat)),.inr (Ptr eQ (fun k=>S k/\k<w3.heap.size) (qc ((nwOf n o).hf i b'))),.inr (eQ.at (fun k=>S k/\k<w3.heap.size) (qc ((nwOf n o).hf i b'))),.inr (eQ.at (fun k=>T0 k/\k≠h) (G i))]
  [[],[],[],[],[(50,2),(51,3)],[(52,4)],[],[],[(54,6),(55,7)],[(56,8)],[(53,5),(57,9)]] (by kernel_rfl) ⟨
  fun w e=>(v_mv O).ob,fun w e=>(v_mv O).ob,fun w e=>(v_mv O).ob,fun w e=>(v_mv O).ob,
  fun w e=>D2 (i:=a') un_V ty_Q O (ER.ext eV hr e) O (F5 haB),fun w e x hx=>L8 ty_Q O hx,
  fun w e=>(v_mv O).ob,fun w e=>(v_mv O).ob,
  fun w e=>D2 (i:=b') un_V ty_Q O (ER.ext eV hr e) O (F5 hbB),fun w e x hx=>L8 ty_Q O hx,
  fun w e x hx y hy=>by
   have:=Ac5 (L:=174764) (upT e) (upO e) (eQ.mono (fun k _ h=>hT k h) hx) (eQ.mono (fun k _ h=>hT k h) hy) (Al3 ok i a').toOk (Al3 ok i b').toOk (by decide) (by decide)
   rw [B4,B4] at this
   rw [<-hG]
   exact (A2 _ Q4 O this).ob (A6 _ _ _),trivial⟩ ?_
 intro W1 f1 _ _ _ _ _ _ _ _ y hy
 refine .ixB (i:=i) un_V ty_Q O O O hlt (.storeF (E:=eQ) (i:=i) (by decide) ty_Q O O (fb.ext f1) O (by rw [I1];exact hlt) (Nat.zero_add _) hy fun W2 f2 u2=>.nil ?_)
 rw [O7] at f2
 refine .region (.add O O O (.mv O O (.nil ?_)))
 rw [wI (by omega)]
 exact ⟨rfl,i+1,lkA rfl,⟨u2.below (hW.trans (f1.mono hWs)) (by omega),hlt,f2⟩,by show n.ls.length-(i+1)<n.ls.length-i;omega⟩
theorem AY1 {S:Nat->Prop} {w:World} {vn vo:Value} {n:NtV} {o:List Int} {a b:Int} (up:Up S w) (hn:eN.R S w vn n) (ho:eI.R S w vo o) :
  CR Tryz.prog 79 #[vn,vo,.int .i64 a,.int .i64 b] w (Two (eV.at S (if btE n o a b=0 then btV n o a.toNat b.toNat else [])) (Is (.int .i64 (btE n o a b)))):=AY0 up up hn ho
open Classical in
noncomputable def sfE (n:NtV) (o:List Int) (l:Nat):Int:=if outE n o≠0 then outE n o else if (l:Int)<=n.b then 0 else 5
theorem BK3 {n:NtV} {o:List Int} {l:Nat} (h:sfE n o l=0):outE n o=0/\(l:Int)<=n.b:=by
 unfold sfE at h
 split at h
 ·exact absurd h (by assumption)
 ·split at h
  ·exact ⟨Classical.not_not.1 (by assumption),by assumption⟩
  ·cases h
end Go.Proofs.YtpgkacdihhjknaaGreat
namespace Go.Kx
open Go Go.RowKit
def Nw.offM (n:Nw) (f:Nat->Rat) (b:Nat):Rat:=n.off (fun k=>if n.g k=0 then 0 else f k) b
end Go.Kx
namespace Go.Proofs.YtpgkacdihhjknaaGreat
open Go Go.Kx Go.RowKit
end Go.Proofs.YtpgkacdihhjknaaGreat
namespace Go.Kx
open Go Go.RowKit
section
variable {n:Nw}
end
def Nw.cut (n:Nw) (k:Nat):Nw:={ n with g:=fun j=>if j=k then 0 else n.g j }
section
variable {n:Nw} {k:Nat}
theorem Nw.cut_ok (ok:n.Ok):(n.cut k).Ok:=⟨ok.f,ok.t,fun j hj=>by
 show (0:Rat)<=if j=k then 0 else n.g j
 split
 ·exact Rat.le_refl
 ·exact ok.p j hj⟩
theorem Nw.cut_gk:(n.cut k).g k=0:=if_pos rfl
theorem Nw.cut_g {j:Nat} (h:j≠k):(n.cut k).g j=n.g j:=if_neg h
theorem Nw.cut_fl (θ:Nat->Rat) (j:Nat):(n.cut k).fl θ j=if j=k then 0 else n.fl θ j:=by
 show (if j=k then (0:Rat) else n.g j)*_=_
 by_cases h:j=k
 ·rw [if_pos h,if_pos h,Rat.zero_mul]
 ·rw [if_neg h,if_neg h];rfl
theorem Nw.cut_lap (hk:k<n.M) (θ:Nat->Rat) (i:Nat):(n.cut k).lap θ i=n.lap θ i-n.inc k i*n.fl θ k:=by
 show sumN n.M (fun j=>n.inc j i*(n.cut k).fl θ j)=sumN n.M (fun j=>n.inc j i*n.fl θ j)-_
 have h1:sumN n.M (fun j=>n.inc j i*(n.cut k).fl θ j)=sumN n.M (fun j=>n.inc j i*n.fl θ j-(n.inc k i*n.fl θ k)*dl k j):=A3 fun j _=>by
  rw [Nw.cut_fl]
  by_cases h:j=k
  ·subst h;rw [if_pos rfl,AQ9];grind
  ·rw [if_neg h,AH5 (Ne.symm h)];grind
 rw [h1,AB5,AM9 (a:=k) (fun _=>n.inc k i*n.fl θ k) hk]
theorem Nw.lap_fl (ok:n.Ok) {θ φ:Nat->Rat} (h:∀ i,i<n.B->n.lap θ i=n.lap φ i) {l:Nat} (hl:l<n.M):n.fl θ l=n.fl φ l:=by
 have hr:=Nw.rigid (n:=n) (θ:=fun c=>θ c-φ c) ok (D:=fun _=>True) (fun _ _ _=>Iff.rfl) fun b hb _=>by
  rw [Nw.lap_sub,h b hb];grind
 have h1:n.fl (fun c=>θ c-φ c) l=0:=by
  by_cases hg:n.g l=0
  ·exact Nw.fl_out hg
  ·have:=hr l hl hg trivial
   unfold Nw.fl
   dsimp only
   rw [this];grind
 rw [Nw.fl_sub] at h1
 grind
theorem Nw.cut_root_n (ok:n.Ok) (b:Nat):n.root ((n.cut k).root b)=n.root b:=by
 have h:=Nw.root_const (n:=n.cut k) (θ:=fun b=>((n.root b:Nat):Rat)) (fun j hj hg=>by
  have hjk:j≠k:=fun e=>hg (by rw [e];exact Nw.cut_gk)
  rw [Nw.cut_g hjk] at hg
  exact congrArg _ (Nw.root_line (n:=n) hj hg)) b
 exact_mod_cast h
theorem Nw.cut_le (ok:n.Ok) (b:Nat):n.root b<=(n.cut k).root b:=by
 rw [<-Nw.cut_root_n (k:=k) ok b]
 exact Nw.root_le _
theorem Nw.cut_root (ok:n.Ok) (hb:(n.cut k).root (n.F k)=(n.cut k).root (n.T k)) (b:Nat):(n.cut k).root b=n.root b:=by
 have h:=Nw.root_const (n:=n) (θ:=fun b=>(((n.cut k).root b:Nat):Rat)) (fun j hj hg=>by
  by_cases hjk:j=k
  ·subst hjk;exact congrArg _ hb
  ·refine congrArg _ (Nw.root_line (n:=n.cut k) hj ?_)
   rw [Nw.cut_g hjk];exact hg) b
 have h2:(n.cut k).root (n.root b)=(n.cut k).root b:=by exact_mod_cast h
 have h3:=Nw.cut_le (k:=k) ok b
 have h4:=Nw.root_le (n:=n.cut k) (n.root b)
 omega
theorem AL6 {p q:Nat->Bool}:∀ l:List Nat,(∀ x∈l,p x=true->q x=true)->(l.filter p).length<=(l.filter q).length
 | [],_=>Nat.le_refl _
 | x::l,h=>by
  have ih:=AL6 l fun y hy=>h y (List.mem_cons_of_mem _ hy)
  have hx:=h x (List.mem_cons_self ..)
  by_cases hp:p x=true
  ·rw [List.filter_cons_of_pos hp,List.filter_cons_of_pos (hx hp)];simpa using ih
  ·rw [List.filter_cons_of_neg hp]
   by_cases hq:q x=true
   ·rw [List.filter_cons_of_pos hq];simp;omega
   ·rw [List.filter_cons_of_neg hq];exact ih
theorem AL5 {p q:Nat->Bool} {y:Nat}:∀ l:List Nat,(∀ x∈l,p x=true->q x=true)->y∈l->p y=false->q y=true->(l.filter p).length<(l.filter q).length
 | [],_,h,_,_=>by cases h
 | x::l,h,hy,h1,h2=>by
  have hx:=h x (List.mem_cons_self ..)
  have hl:=AL6 l fun z hz=>h z (List.mem_cons_of_mem _ hz)
  by_cases e:x=y
  ·subst e
   rw [List.filter_cons_of_neg (by rw [h1];decide),List.filter_cons_of_pos h2];simp;omega
  ·have hm:y∈l:=by
    rcases List.mem_cons.1 hy with h | h
    ·exact absurd h.symm e
    ·exact h
   have ih:=AL5 l (fun z hz=>h z (List.mem_cons_of_mem _ hz)) hm h1 h2
   by_cases hp:p x=true
   ·rw [List.filter_cons_of_pos hp,List.filter_cons_of_pos (hx hp)];simpa using ih
   ·rw [List.filter_cons_of_neg hp]
    by_cases hq:q x=true
    ·rw [List.filter_cons_of_pos hq];simp;omega
    ·rw [List.filter_cons_of_neg hq];exact ih
def Nw.brg (n:Nw) (k:Nat):Prop:=(n.cut k).root (n.F k)≠(n.cut k).root (n.T k)
theorem Nw.brg_cnt (ok:n.Ok) (hk:k<n.M) (hg:n.g k≠0):n.brg k<->n.refs.length<(n.cut k).refs.length:=by
 constructor
 ·intro h
  have hline:=Nw.root_line (n:=n) hk hg
  have h1:=Nw.cut_root_n (k:=k) ok (n.F k)
  have h2:=Nw.cut_root_n (k:=k) ok (n.T k)
  have hF:=ok.f k hk
  have hT:=ok.t k hk
  have lF:=Nw.root_le (n:=n.cut k) (n.F k)
  have lT:=Nw.root_le (n:=n.cut k) (n.T k)
  have rF:=Nw.root_root (n:=n.cut k) (n.F k)
  have rT:=Nw.root_root (n:=n.cut k) (n.T k)
  have a1:=Nw.root_le (n:=n) ((n.cut k).root (n.F k))
  have a2:=Nw.root_le (n:=n) ((n.cut k).root (n.T k))
  unfold Nw.brg at h
  show ((List.range n.B).filter _).length<((List.range n.B).filter _).length
  generalize (n.cut k).root (n.F k)=x at *
  generalize (n.cut k).root (n.T k)=y at *
  refine AL5 (y:=max x y) _ (fun r hr hp=>?_) (List.mem_range.2 (by omega)) ?_ ?_
  ·have hp:n.root r=r:=of_decide_eq_true hp
   refine decide_eq_true ?_
   have:=Nw.cut_le (k:=k) ok r
   have:=Nw.root_le (n:=n.cut k) r
   omega
  ·refine decide_eq_false fun e=>?_
   rcases Nat.le_total x y with h' | h'
   ·rw [Nat.max_eq_right h'] at e;omega
   ·rw [Nat.max_eq_left h'] at e;omega
  ·refine decide_eq_true ?_
   rcases Nat.le_total x y with h' | h'
   ·rw [Nat.max_eq_right h'];exact rT
   ·rw [Nat.max_eq_left h'];exact rF
 ·intro h hb
  have:(n.cut k).refs=n.refs:=List.filter_congr fun r _=>by rw [Nw.cut_root ok hb]
  rw [this] at h
  exact Nat.lt_irrefl _ h
theorem Nw.cut_bal (ok:n.Ok) (hb:¬ n.brg k) (x:Nat->Rat):(n.cut k).bal x<->n.bal x:=by
 have hb:(n.cut k).root (n.F k)=(n.cut k).root (n.T k):=Classical.not_not.1 hb
 unfold Nw.bal
 simp only [Nw.cut_root ok hb]
 exact Iff.rfl
def Nw.tr (n:Nw) (k c:Nat):Rat:=n.th (n.F k) c-n.th (n.T k) c
def Nw.bt (n:Nw) (k l:Nat):Rat:=n.hf l (n.F k)-n.hf l (n.T k)
theorem Nw.bt_fl (l:Nat):n.bt k l=n.fl (n.tr k) l:=(Nw.fl_sub _ _ l).symm
theorem BB9 (a b:Nat):dl a b=dl b a:=by
 by_cases h:a=b
 ·subst h;rfl
 ·rw [AH5 h,AH5 (Ne.symm h)]
theorem Nw.lap_tr (ok:n.Ok) (hk:k<n.M) (hr:n.root (n.F k)=n.root (n.T k)) {i:Nat} (hi:i<n.B):n.lap (n.tr k) i=n.inc k i:=by
 have h1:=Nw.lap_th ok (ok.f k hk) hi
 have h2:=Nw.lap_th ok (ok.t k hk) hi
 have h3:n.lap (n.tr k) i=n.lap (n.th (n.F k)) i-n.lap (n.th (n.T k)) i:=Nw.lap_sub i
 rw [h3,h1,h2,hr,BB9 i (n.F k),BB9 i (n.T k)]
 unfold Nw.inc;grind
def Nw.rst (n:Nw) (k:Nat):Rat:=1-n.bt k k
theorem Nw.rst_ne (ok:n.Ok) (hk:k<n.M) (hg:n.g k≠0) (hb:¬ n.brg k):n.rst k≠0:=by
 have hb:(n.cut k).root (n.F k)=(n.cut k).root (n.T k):=Classical.not_not.1 hb
 intro h
 have h1:n.fl (n.tr k) k=1:=by
  unfold Nw.rst at h
  rw [Nw.bt_fl] at h
  grind
 have hr:=Nw.rigid (n:=n.cut k) (θ:=n.tr k) (Nw.cut_ok ok) (D:=fun _=>True) (fun _ _ _=>Iff.rfl) fun b hb' _=>by
  rw [Nw.cut_lap hk,Nw.lap_tr ok hk (Nw.root_line hk hg) hb',h1];grind
 have hc:=Nw.root_const (n:=n.cut k) (θ:=n.tr k) fun j hj hgj=>hr j hj hgj trivial
 have h2:n.tr k (n.F k)=n.tr k (n.T k):=by rw [<-hc (n.F k),<-hc (n.T k),hb]
 unfold Nw.fl at h1
 rw [h2] at h1
 have:(0:Rat)=1:=by rw [<-h1];grind
 exact absurd this (by decide)
def Nw.lo (n:Nw) (k l:Nat):Rat:=if l=k then -1 else n.bt k l / n.rst k
theorem Nw.lo_flow (ok:n.Ok) (hk:k<n.M) (hg:n.g k≠0) (hb:¬ n.brg k) {x:Nat->Rat} (hx:n.bal x) {l:Nat} (hl:l<n.M):(n.cut k).fl ((n.cut k).an x) l=n.fl (n.an x) l+n.lo k l*n.fl (n.an x) k:=by
 have hr:=Nw.rst_ne ok hk hg hb
 generalize hcc:n.fl (n.an x) k*(n.rst k)⁻¹=c
 have hc1:c*n.rst k=n.fl (n.an x) k:=by rw [<-hcc,Rat.mul_assoc,Rat.inv_mul_cancel _ hr,Rat.mul_one]
 have h1:(n.cut k).fl ((n.cut k).an x) l=(n.cut k).fl (fun b=>n.an x b+n.tr k b*c) l:=Nw.lap_fl (Nw.cut_ok ok) (fun i hi=>by
  rw [Nw.lap_an (n:=n.cut k) (Nw.cut_ok ok) ((Nw.cut_bal ok hb x).2 hx) hi,Nw.cut_lap hk,Nw.lap_add,Nw.lap_smul,Nw.lap_tr ok hk (Nw.root_line hk hg) hi,Nw.lap_an ok hx hi]
  have e:n.fl (fun b=>n.an x b+n.tr k b*c) k=n.fl (n.an x) k+n.bt k k*c:=by rw [Nw.bt_fl];unfold Nw.fl;grind
  rw [e,<-hc1]
  unfold Nw.rst
  grind) hl
 rw [h1,Nw.cut_fl]
 by_cases hne:l=k
 ·subst hne
  rw [if_pos rfl]
  unfold Nw.lo
  rw [if_pos rfl];grind
 ·rw [if_neg hne]
  unfold Nw.lo
  rw [if_neg hne,Rat.div_def]
  have e:n.fl (fun b=>n.an x b+n.tr k b*c) l=n.fl (n.an x) l+n.bt k l*c:=by rw [Nw.bt_fl];unfold Nw.fl;grind
  rw [e,<-hcc]
  grind
end
section
variable {n m:Nw} {k:Nat}
def Nw.trk (n:Nw) (k:Nat):Prop:=n.g k≠0/\n.rootTo k (n.F k)≠n.rootTo k (n.T k)
instance (n:Nw) (k:Nat):Decidable (n.trk k):=inferInstanceAs (Decidable (_/\_))
def Nw.en (n:Nw) (j:Nat):Nat:=((List.range j).filter fun k=>decide (n.g k≠0)).length
end
end Go.Kx
namespace Go.Proofs.YtpgkacdihhjknaaGreat
open Go Go.Kx Go.RowKit
theorem AJ8:fldOf Tryz.prog 136 0=some 0:=by kernel_rfl
theorem ty_Br:tyOf Tryz.prog 136=some (true,4):=by kernel_rfl
theorem BP6 {a b c d:Value}:bldOf Tryz.prog 136 [(0,.agg #[a,b,c,d])]=some #[a,b,c,d]:=by kernel_rfl
@[reducible] def brV (f t x c:Int):Value:=.agg #[.int .i64 f,.int .i64 t,.int .i64 x,.int .i64 c]
def brE (f t b:Int):Int:=if b=f then 1 else if b=t then -1 else 0
theorem At9:Ent Tryz.prog 207:=A0 Tryz.func207 (by kernel_rfl) rfl
theorem Ar8 {w:World} {f t x c b:Int}:CR Tryz.prog 207 #[brV f t x c,.int .i64 b] w (Is (.int .i64 (brE f t b))):=by
 refine enter Tryz.func207 O Tryz.ntmps207 O (.beg (.go O (.box O O fun w1 b2 n1=>?_)))
 obtain ⟨e1,k2,_,_⟩:=n1
 refine .go O (.fa AJ8 O O (.fa J6 O O (.ld A8 O O k2 O ?_)))
 by_cases h:b=f
 ·refine .eqlT O O O h (.goE O ?_)
  exact .plain [_] Tryz.results207 ⟨rfl,trivial⟩ ⟨e1,by unfold brE;rw [if_pos h];rfl⟩
 refine .eqlF O O O h (.go O (.fa AJ8 O O (.fa J5 O O (.ld A8 O O k2 O ?_))))
 by_cases h':b=t
 ·refine .eqlT O O O h' (.goE O ?_)
  exact .plain [_] Tryz.results207 ⟨rfl,trivial⟩ ⟨e1,by unfold brE;rw [if_neg h,if_pos h'];rfl⟩
 ·refine .eqlF O O O h' (.goE O ?_)
  exact .plain [_] Tryz.results207 ⟨rfl,trivial⟩ ⟨e1,by unfold brE;rw [if_neg h,if_neg h'];rfl⟩
theorem brE_mul (f t a b:Int):brE f t a*brE f t b=0\/brE f t a*brE f t b=1\/brE f t a*brE f t b = -1:=by
 unfold brE
 split<;>split<;>(try split)<;>(try split)<;>simp
theorem Ay1:Ent Tryz.prog 150:=A0 Tryz.func150 (by kernel_rfl) rfl
theorem Ax3 {S:Nat->Prop} {w:World} {f t x c a b:Int} (up:Up S w) (hx:1<=x) (hx2:x<=1000):CR Tryz.prog 150 #[brV f t x c,.int .i64 a,.int .i64 b] w (eQ.at S (qc (Rat.divInt (brE f t a*brE f t b) x))):=by
 have hm:=brE_mul f t a b
 refine enter Tryz.func150 O Tryz.ntmps150 O (.beg (.go O (.box O O fun w1 b3 n1=>.go O (.alloc O C5 fun w2 b6 n2=>.goC O ?_))))
 obtain ⟨e1,k3,hb3,hs1⟩:=n1
 obtain ⟨e2,k6,hb6,hs2⟩:=n2
 have x2:=e1.trans e2
 have hx2s:=x2.size
 have k3:=k3.ext e2
 have upT:∀ {W:World},w2.heap.size<=W.heap.size->Up (fun k=>S k/\k≠b6) W:=fun h k hk=>⟨up k (by omega),by omega⟩
 refine .parL follows 15 [13] [.inl (brV f t x c),.inl _,.inl (.int .i64 (brE f t a)),.inl (brV f t x c),.inl _,.inl (.int .i64 (brE f t b)),.inl (.int .i64 (brE f t a*brE f t b)),.inl (.pointer (some ⟨b3,0,none⟩)),.inl (.pointer (some ⟨b3,2,none⟩)),.inl (.int .i64 x),.inr (Two (eQ.at (fun k=>S k/\k≠b6) (qc (Rat.divInt (brE f t a*brE f t b) x))) (Is (.int .i64 0))),.inr (Two (eQ.at (fun k=>S k/\k≠b6) (qc (Rat.divInt (brE f t a*brE f t b) x))) (Is (.int .i64 0))),.inr (eQ.at (fun k=>S k/\k≠b6) (qc (Rat.divInt (brE f t a*brE f t b) x))),.inl (.int .i64 0),.inr (NewP w2.heap.size 39 zq.cells)] [[],[],[(10,0),(11,1)],[],[],[(13,3),(14,4)],[(12,2),(15,5)],[],[(17,7)],[(18,8)],[(16,6),(19,9)],[(20,10)],[(9,11)],[(9,11)],[]] (by kernel_rfl) ⟨
  fun w e=>(B9 ty_Br O (k3.ext e) O).ob,
  fun w e=>(v_mv O).ob,
  fun w e=>(A2 _ At9 O Ar8).obIs,
  fun w e=>(B9 ty_Br O (k3.ext e) O).ob,
  fun w e=>(v_mv O).ob,
  fun w e=>(A2 _ At9 O Ar8).obIs,
  fun w e=>((BI9 O O).eq (by rw [wI (by omega)])).ob,
  fun w e=>(v_fa AJ8 O).ob,
  fun w e=>(v_fa AJ7 O).ob,
  fun w e=>(v_ld Z6 O (k3.ext e) O).ob,
  fun w e=>(A2 _ Af0 O (Ac6 (upT e.size) (by omega) (by omega) (by omega) (by omega) (by omega))).ob (G9 (A6 _ _ _) (L7 _)),
  fun w e x10 hx10=>G1 (v_mv O) hx10 (G9 (A6 _ _ _) (L7 _)),
  fun w e x11 hx11=>by
   obtain ⟨p,q,rfl,hp,hq⟩:=hx11
   exact G1 (v_ex O O) hp (A6 _ _ _),
  fun w e x11 hx11=>by
   obtain ⟨p,q,rfl,hp,hq⟩:=hx11
   exact ((v_ex O O).eq hq).ob,
  fun w e=>S1 C5 e.size,trivial⟩ ?_
 rintro W3 g3 _ _ _ _ y hy _ ⟨b7,rfl,hb7,k7⟩
 have hy':=AN7 hy k7 T9
 refine .storeA (E:=eQ) ty_Q O O k7 O O hy' (fun h=>h.2 O) fun W4 k7 u4 hy=>?_
 have hs3:=g3.size
 have hs4:=u4.size
 have hy:eQ.R (fun k=>S k/\k≠b6) W4 y _:=eQ.mono (fun _ _ h=>h.1) hy
 have hyv:=shpA (E:=eQ) O hy
 have k6:=(k6.ext g3).upd u4 (by omega)
 have x4:Ext w W4:=u4.below (x2.trans g3) (by omega)
 refine .go O (.ldA ty_Q O O k7 (eQ.csz hy) ?_)
 rw [<-hyv]
 refine .storeA (E:=eQ) ty_Q O O k6 O O hy (fun h=>h.2 O) fun W5 k6 u5 hy=>.goE O ?_
 exact .cell Tryz.results150 O ty_Q O O k6 hy ⟨u5.below x4 (by omega),eQ.mono (fun _ _ h=>h.1) hy⟩
theorem BH4:Ent Tryz.prog 102:=A0 Tryz.func102 (by kernel_rfl) rfl
theorem BG9 {S T0:Nat->Prop} {w:World} {x c:Int} {f t L:Nat} {vθ:Value} {θ:List QV} (up:Up S w) (upo:Up T0 w) (hθ:eV.R S w vθ θ) (hk:vk L θ) (hf:f<θ.length) (ht:t<θ.length) (hx:1<=x) (hx2:x<=1000) (hL:1<=L) (hL2:L<=1000000000) :
  CR Tryz.prog 102 #[brV (f:Nat) (t:Nat) x c,vθ] w (eQ.at T0 (qc ((rv θ f-rv θ t) / ((x:Int):Rat)))):=by
 refine enter Tryz.func102 O Tryz.ntmps102 O (.beg (.go O (.box O O fun w1 b2 n1=>.go O (.alloc O C5 fun w2 b4 n2=>.goC O ?_))))
 obtain ⟨e1,k2,hb2,hs1⟩:=n1
 obtain ⟨e2,k4,hb4,hs2⟩:=n2
 have x2:=e1.trans e2
 have hx2s:=x2.size
 have k2:=k2.ext e2
 have upT:∀ {W:World},w2.heap.size<=W.heap.size->Up (fun k=>S k/\k≠b4) W:=fun h k hk=>⟨up k (by omega),by omega⟩
 have upoT:∀ {W:World},w2.heap.size<=W.heap.size->Up (fun k=>T0 k/\k≠b4) W:=fun h k hk=>⟨upo k (by omega),by omega⟩
 have hθ:eV.R (fun k=>S k/\k≠b4) w2 vθ θ:=eV.mono (fun k _ h=>⟨h.1,by have:=h.2;omega⟩) (ER.ext eV (ER.lt eV hθ) x2)
 have hgf:θ[f]?=some (θ.getD f q0):=A9 hf
 have hgt:θ[t]?=some (θ.getD t q0):=A9 ht
 have hqf:=hk.get hL f
 have hqt:=hk.get hL t
 have hx0:((x:Int):Rat)≠0:=fun e=>by
  have:x=0:=by exact_mod_cast e
  omega
 have hrz:∀ b,Rsz (rv θ b) L:=fun b=>hk.rsz hL b
 have hd:Rsz (rv θ f-rv θ t) (L+L+1):=by
  rw [Rat.sub_eq_add_neg]
  exact (hrz _).add (hrz _).neg
 have hr1:Rsz ((x:Int):Rat) (L+L+1):=Rsz.int _ (Nat.lt_of_lt_of_le (by omega:x.natAbs<4294967296 ^ 1) (Nat.pow_le_pow_right (by decide) (by omega))) (by omega)
 refine .parL follows 22 [20] [.inl _,.inl (.pointer (some ⟨b2,0,none⟩)),.inl (.pointer (some ⟨b2,0,none⟩)),.inl (.int .i64 (f:Nat)),.inr (Ptr eQ (fun k=>S k/\k≠b4) (θ.getD f q0)),.inr (eQ.at (fun k=>S k/\k≠b4) (θ.getD f q0)),.inl _,.inl (.pointer (some ⟨b2,0,none⟩)),.inl (.pointer (some ⟨b2,1,none⟩)),.inl (.int .i64 (t:Nat)),.inr (Ptr eQ (fun k=>S k/\k≠b4) (θ.getD t q0)),.inr (eQ.at (fun k=>S k/\k≠b4) (θ.getD t q0)),.inr (eQ.at (fun k=>S k/\k≠b4) (qc (rv θ f-rv θ t))),.inl (.pointer (some ⟨b2,0,none⟩)),.inl (.pointer (some ⟨b2,2,none⟩)),.inl (.int .i64 x),.inr (eQ.at (fun k=>S k/\k≠b4) (qc ((x:Int):Rat))),.inr (Two (eQ.at (fun k=>T0 k/\k≠b4) (qc ((rv θ f-rv θ t) / ((x:Int):Rat)))) (Is (.int .i64 0))),.inr (Two (eQ.at (fun k=>T0 k/\k≠b4) (qc ((rv θ f-rv θ t) / ((x:Int):Rat)))) (Is (.int .i64 0))),.inr (eQ.at (fun k=>T0 k/\k≠b4) (qc ((rv θ f-rv θ t) / ((x:Int):Rat)))),.inl (.int .i64 0),.inr (NewP w2.heap.size 39 zq.cells)] [[],[],[(9,1)],[(10,2)],[(8,0),(11,3)],[(12,4)],[],[],[(15,7)],[(16,8)],[(14,6),(17,9)],[(18,10)],[(13,5),(19,11)],[],[(21,13)],[(22,14)],[(23,15)],[(20,12),(24,16)],[(25,17)],[(7,18)],[(7,18)],[]] (by kernel_rfl) ⟨
  fun w e=>(v_mv O).ob,
  fun w e=>(v_fa AJ8 O).ob,
  fun w e=>(v_fa J6 O).ob,
  fun w e=>(v_ld A8 O (k2.ext e) O).ob,
  fun w e=>D2 (i:=f) un_V ty_Q O (ER.ext eV hθ e) O hgf,
  fun w e x4 hx4=>L8 ty_Q O hx4,
  fun w e=>(v_mv O).ob,
  fun w e=>(v_fa AJ8 O).ob,
  fun w e=>(v_fa J5 O).ob,
  fun w e=>(v_ld A8 O (k2.ext e) O).ob,
  fun w e=>D2 (i:=t) un_V ty_Q O (ER.ext eV hθ e) O hgt,
  fun w e x10 hx10=>L8 ty_Q O hx10,
  fun w e x5 hx5 x11 hx11=>(A2 _ Q4 O (U5 (L:=L) (upT e.size) hx5 hx11 hqf.1 hqt.1 hL (by omega))).ob (A6 _ _ _),
  fun w e=>(v_fa AJ8 O).ob,
  fun w e=>(v_fa AJ7 O).ob,
  fun w e=>(v_ld Z6 O (k2.ext e) O).ob,
  fun w e=>(A2 _ D7 O (D5 (upT e.size) (by omega) (by omega))).ob (A6 _ _ _),
  fun w e x12 hx12 x16 hx16=>by
   have:=AD4 (L:=L+L+1) (upT e.size) (upoT e.size) hx12 hx16 hd.toOk hr1.toOk (by omega) (by omega) (by rw [B4];exact hx0)
   rw [B4,B4] at this
   exact (A2 _ AE7 O this).ob (G9 (A6 _ _ _) (L7 _)),
  fun w e x17 hx17=>G1 (v_mv O) hx17 (G9 (A6 _ _ _) (L7 _)),
  fun w e x18 hx18=>by
   obtain ⟨p,q,rfl,hp,hq⟩:=hx18
   exact G1 (v_ex O O) hp (A6 _ _ _),
  fun w e x18 hx18=>by
   obtain ⟨p,q,rfl,hp,hq⟩:=hx18
   exact ((v_ex O O).eq hq).ob,
  fun w e=>S1 C5 e.size,trivial⟩ ?_
 rintro W3 g3 _ _ _ _ _ _ _ _ _ _ _ _ _ _ _ _ y hy _ ⟨b5,rfl,hb5,k5⟩
 have hy':=AN7 hy k5 T9
 refine .storeA (E:=eQ) ty_Q O O k5 O O hy' (fun h=>h.2 O) fun W4 k5 u4 hy=>?_
 have hy:eQ.R (fun k=>T0 k/\k≠b4) W4 y _:=eQ.mono (fun _ _ h=>h.1) hy
 have hyv:=shpA (E:=eQ) O hy
 have k4:=(k4.ext g3).upd u4 (by omega)
 have x4:Ext w W4:=u4.below (x2.trans g3) (by omega)
 refine .go O (.ldA ty_Q O O k5 (eQ.csz hy) ?_)
 rw [<-hyv]
 refine .storeA (E:=eQ) ty_Q O O k4 O O hy (fun h=>h.2 O) fun W5 k4 u5 hy=>.goE O ?_
 exact .cell Tryz.results102 O ty_Q O O k4 hy ⟨u5.below x4 (by omega),eQ.mono (fun _ _ h=>h.1) hy⟩
theorem BK8 {S:Nat->Prop} {w W:World} {v:Value} {a:List QV} {B:Nat} (h:ResP S w.heap.size ((B:Nat):Int) a v W) (up:Up S w) (h1:1<=B) (h2:B<=60000):eV.R S W v (tab B (rv a)):=by
 rcases h with ⟨h,_⟩ | ⟨_,g,N,hN,hg,rfl,hf⟩
 ·omega
 ·have hNB:N=B:=by omega
  subst hNB
  have:=hf.toR (hsz:=by decide) (c:=N) (up g hg) (by rw [A1];exact Nat.le_refl _) (by rw [A1];omega)
  rw [A1] at this
  exact this
theorem vk_res {L B:Nat} {a:List QV} (h:vk L a) (hL:1<=L):vk L (tab B (rv a)):=AF5 fun k _=>h.rsz hL k
theorem AS3:Ent Tryz.prog 58:=A0 Tryz.func58 (by kernel_rfl) rfl
theorem AQ6 {S T0:Nat->Prop} {w:World} {vn vo va:Value} {n:NtV} {o:List Int} {a:List QV} {L:Nat} (up:Up S w) (upo:Up T0 w) (hn:eN.R S w vn n) (ho:eI.R S w vo o) (ha:eV.R S w va a) (hka:vk L a) (hL1:1<=L) (hL:L<=1000000000) :
  CR Tryz.prog 58 #[vn,vo,va] w (Two (eV.at T0 (if sfE n o a.length=0 then tab n.ls.length ((nwOf n o).fl (rv a)) else [])) (Is (.int .i64 (sfE n o a.length)))):=by
 obtain ⟨s,rfl,hs,hb⟩:=hn
 have hn:eN.R S w (.agg #[.int .i64 n.b,s]) n:=⟨s,rfl,hs,hb⟩
 refine enter Tryz.func58 O Tryz.ntmps58 O (.beg (.go O (.box O O fun w1 b3 n1=>?_)))
 obtain ⟨e1,k3,hb3,hs1⟩:=n1
 refine .go O (.ldA ty_N O O k3 O (.go O ?_))
 refine .call _ O AC4 O (AB7 (up.ext e1.size) (hn.ext e1) (ho.ext e1)) fun v2 w2 e2 h2=>?_
 obtain ⟨vl,ve,rfl,hl,he⟩:=h2
 replace he:ve=.int .i64 (outE n o):=he
 subst he
 have x2:=e1.trans e2
 refine .go O ?_
 by_cases hE:outE n o=0
 rotate_left
 ·have hb:sfE n o a.length=outE n o:=by unfold sfE;rw [if_pos hE]
  refine .neqT O O O hE (.goE O ?_)
  refine .plain [_,_] Tryz.results58 ⟨rfl,rfl,trivial⟩ ⟨x2,_,_,rfl,?_,by rw [hb]⟩
  rw [if_neg (by rw [hb];exact hE)];exact RL.nil
 have ok:=I9 hE
 rw [if_pos hE] at hl
 have hB6:=ok.b6
 have hB1:=ok.b1
 have hM10:n.ls.length<=10:=ok.m
 have hnb:=ok.b
 have hll:=Y4 n o
 have k3:=k3.ext e2
 rw [hnb] at k3
 obtain ⟨_,_,_,_,hal⟩:=RL.len ha
 refine .neqF O O O hE (.go O (.lenR un_V O O (ha.ext x2) (.go O (.fa I6 O O (.ld A8 O O k3 O ?_)))))
 by_cases hlen:(a.length:Int)<=n.b
 rotate_left
 ·have hb:sfE n o a.length=5:=by unfold sfE;rw [if_neg (by simpa using hE),if_neg hlen]
  refine .gtrT O O O (by omega) (.goE O ?_)
  refine .plain [_,_] Tryz.results58 ⟨rfl,rfl,trivial⟩ ⟨x2,_,_,rfl,?_,by rw [hb]⟩
  rw [if_neg (by rw [hb];decide)];exact RL.nil
 have hno:sfE n o a.length=0:=by unfold sfE;rw [if_neg (by simpa using hE),if_pos hlen]
 rw [if_pos hno]
 refine .gtrF O O O (by omega) (.go O (.fa I6 O O (.ld A8 O O k3 O ?_)))
 refine .call _ O T7 O (AC7 (up.ext x2.size) (ha.ext x2) hka hL1 (by omega)) fun v3 w3 e3 h3=>?_
 have h3:=BK8 (B:=(nwOf n o).B) h3 (up.ext x2.size) (by omega) (by omega)
 have x3:=x2.trans e3
 refine .go O (.fa K9 O O (.ld R7 O O (k3.ext e3) O (.lenR M4 O O (hs.ext x3) ?_)))
 refine .make_ _ _ un_V K7 O (by decide) O O O (Nat.le_refl _) (by omega) (by omega) fun w4 h n4=>?_
 have f4:FB eQ 39 T0 w4 h (List.replicate n.ls.length q0):=FB.made n4 zq_R
 obtain ⟨e4,_,hh,hs4⟩:=n4
 rw [<-AP0] at f4
 have hs3:=x3.size
 have hl:=ER.ext eI hl e3
 have hs:=ER.ext eLs hs x3
 have k3:=k3.ext e3
 have h3:eV.R (fun k=>S k/\k≠h) w3 v3 _:=eV.mono (fun k _ h=>⟨h.1,by have:=h.2;omega⟩) (ER.lt eV h3)
 refine .go O (.lenR un_I O O (ER.ext eI hl e4) ?_)
 rw [show (pInts (inL n o)).length=(inL n o).length by simp]
 refine .goC O (.lp (α:=Nat) [3,10,11,36,37] O (fun i=>[(38,.int .i64 (i:Nat))]) (fun i W=>Ext w3 W/\i<=(inL n o).length/\FB eQ 39 T0 W h (tab n.ls.length fun k=>if k∈(inL n o).take i then (nwOf n o).fl (rv a) k else 0)) (fun i=>(inL n o).length-i) 0 (lc1 O) ⟨e4,Nat.zero_le _,by simpa using f4⟩ ?_)
 rintro i W ⟨hW,hi,fb⟩
 have hWs:=hW.size
 have hhl:=fb.lt
 refine .go O ?_
 rcases Nat.lt_or_ge i (inL n o).length with hlt | hge
 rotate_left
 ·refine .lssF O O O (by omega) (.goE O ?_)
  have:i=(inL n o).length:=by omega
  subst this
  rw [List.take_of_length_le (Nat.le_refl _),BN7 ok] at fb
  refine .plain [_,_] Tryz.results58 ⟨rfl,rfl,trivial⟩ ⟨x3.trans hW,_,_,rfl,?_,by rw [hno]⟩
  have:=fb.toR (hsz:=by decide) (c:=n.ls.length) (upo h (by omega)) (by rw [A1];exact Nat.le_refl _) (by rw [A1];omega)
  rw [A1] at this
  exact this
 obtain ⟨hgk,hkM,hko⟩:=AJ2 hlt
 refine .lssT O O O (by omega) (.go O (.ixN (i:=i) un_I B0 O O (ER.ext eI hl hW) O hgk fun q hq=>.ldE (E:=eInt .i64) B0 O O hq fun e he=>?_))
 obtain ⟨rfl,_⟩:=he
 have hset:=Ao5 (M:=n.ls.length) (f:=(nwOf n o).fl (rv a)) hlt
 have hgl:n.ls[(inL n o).getD i 0]?=some (n.ls.getD ((inL n o).getD i 0) ln0):=A9 hkM
 have hFI:=ok.fI _ hkM
 have hTI:=ok.tI _ hkM
 have hF:=ok.f _ hkM
 have hT:=ok.t _ hkM
 have hx:=ok.x _ hkM
 have hgv:=g_on (n:=n) hko
 generalize hkk:(inL n o).getD i 0=k at hset hgl hFI hTI hx hgv hkM hF hT
 generalize hln:n.ls.getD k ln0=ln at hgl hFI hTI hx hgv
 refine .go O (.fa K9 O O (.ld R7 O O (k3.ext hW) O (.go O (.ixN (i:=k) M4 P0 O O (ER.ext eLs hs hW) O hgl fun q hq=>.ldE (E:=eL) P0 O O hq fun vl' hvl=>?_))))
 obtain ⟨rfl,_⟩:=hvl
 rw [hFI,hTI]
 refine .bld _ O O BP6 (.go O ?_)
 have hv:=BG9 (w:=W) (S:=fun k=>S k/\k≠h) (T0:=fun k=>T0 k/\k≠h) (c:=ln.c) (fun k hk=>⟨up k (by omega),by omega⟩) (fun k hk=>⟨upo k (by omega),by omega⟩) (ER.ext eV h3 hW) (vk_res hka hL1) (by rw [A1];exact hF) (by rw [A1];exact hT) hx.1 hx.2 hL1 hL
 have hflv:(rv (tab (nwOf n o).B (rv a)) ((nwOf n o).F k)-rv (tab (nwOf n o).B (rv a)) ((nwOf n o).T k)) / ((ln.x:Int):Rat)=(nwOf n o).fl (rv a) k:=by
  unfold Nw.fl
  rw [S7,S7,if_pos hF,if_pos hT,hgv,Rat.div_def,Rat.mul_comm]
 rw [hflv] at hv
 refine .call _ O BH4 O hv fun y W1 g1 hy=>?_
 have hs1':=g1.size
 refine .go O (.ixB (i:=k) un_V ty_Q O O O hkM (.storeF (E:=eQ) (i:=k) (by decide) ty_Q O O (fb.ext g1) O (by rw [A1];exact hkM) (Nat.zero_add _) hy fun W6 f6 u6=>?_))
 rw [hset] at f6
 exact .go O (.inc O O O (by omega) (.goN O (.mk (i+1) O (lc1 O) ⟨⟨u6.below (hW.trans g1) (by omega),hlt,f6⟩,by show (inL n o).length-(i+1)<(inL n o).length-i;omega⟩)))
end Go.Proofs.YtpgkacdihhjknaaGreat
namespace Go.Kx
open Go Go.RowKit
section
variable {P:Program} {σ:Env} {w:World} {d:Option Tmp} {ty:TypeId} {pos:String} {af:Array Edge} {g:Option (Nat×Bool)}
theorem BN5 {f:FuncId} {fx:Operand} {xs:List Operand} {ts:Array TypeId} (fs cap vs:List Value) {R:Value->World->Prop} (hfx:ev σ fx=some (.func (.func f) fs.toArray cap.toArray)) (hf:Ent P f) (hx:xs.map (ev σ)=vs.map some)
  (hc:CR P f (fs++(vs++cap)).toArray w R) :
  Gv P ⟨d,.call { callee:=.value fx,args:=xs.toArray,argTypes:=ts },ty,pos,af,g⟩ σ w fun v w'=>Ext w w'/\R v w':=by
 refine ⟨(by intro _ h;cases h),fun ρ hρ=>.inr (.inr ?_)⟩
 have h1:=hρ fx _ (by simp [Op.operands,Call.operands]) hfx
 have h2:xs.map ρ=vs:=AD5 (σ:=σ) (fun x v hx'=>hρ x v (by simp [Op.operands,Call.operands,hx'])) hx
 refine ⟨f,(fs++(vs++cap)).toArray,w,?_,hc⟩
 simp [execOp,resolve,h1,h2,Deferred.ofValue,invoke,hf _ _]
theorem ob_make {t e:TypeId} {x y:Operand} {z:Value} {sz by_ B:Nat} (n c:Nat) {k k':IntKind} (ht:P.underlying t=some (.slice e)) (hi:infoOf P e=some (z,sz,by_)) (hzs:z.cells.size=sz) (hsz:0<sz)
  (hx:ev σ x=some (.int k (n:Int))) (hy:ev σ y=some (.int k' (c:Int))) (hnc:n<=c) (hby:by_*c<=281474976710656) (hc:c<=9223372036854775807) (hB:B<=w.heap.size) :
  Gv P ⟨d,.makeSlice t x y,ty,pos,af,g⟩ σ w fun v' w'=>Ext w w'/\Sp.ok (.inr fun v W=>∃ b,v=.slice (some ⟨b,0,none⟩) n c/\B<=b/\Blk W b e (cellsOf (List.replicate c z)).toArray) v' w' :=
 (Aw3 n c ht hi hzs hsz hx hy hnc hby hc).mono fun v' w' ⟨b,hv,hn⟩=>⟨hn.1,fun w'' e=>⟨b,hv,by have:=hn.2.2.1;omega,hn.2.1.ext e⟩⟩
end
theorem FB.rep {α:Type} {E:ER α} {t:TypeId} {S:Nat->Prop} {w:World} {g c:Nat} {z:Value} {z0:α} (hb:Blk w g t (cellsOf (List.replicate c z)).toArray) (hz:E.R (fun k=>S k/\k≠g) w z z0):FB E t S w g (List.replicate c z0) :=
 ⟨List.replicate c z,hb,by simp,fun i e x he hx=>by
  rw [List.getElem?_replicate] at he hx
  split at he
  ·rename_i h;rw [if_pos h] at hx;cases he;cases hx;exact hz
  ·cases he⟩
def mixF (f q:RM) (r c:Nat):RM:=fun r' c'=>if r'<r\/(r'=r/\c'<c) then f r' c'+q r' c' else f r' c'
theorem BE7 (f q:RM) (r c:Nat):upE (mixF f q r c) r c (f r c+q r c)=mixF f q r (c+1):=by
 funext a b
 unfold upE mixF
 by_cases ha:a=r
 ·subst ha
  rw [if_pos rfl]
  by_cases hb:b=c
  ·subst hb
   rw [if_pos rfl,if_pos (.inr ⟨rfl,by omega⟩)]
  ·rw [if_neg hb]
   by_cases h:b<c
   ·rw [if_pos (.inr ⟨rfl,h⟩),if_pos (.inr ⟨rfl,by omega⟩)]
   ·rw [if_neg (by omega),if_neg (by omega)]
 ·rw [if_neg ha]
  by_cases h:a<r
  ·rw [if_pos (.inl h),if_pos (.inl h)]
  ·rw [if_neg (by omega),if_neg (by omega)]
theorem BL7 (B:Nat) (f q:RM) (r:Nat):tabM B B (mixF f q r B)=tabM B B (mixF f q (r+1) 0):=B5 fun a b _ hb=>by
 unfold mixF
 by_cases h:a<r+1
 ·rw [if_pos (by omega),if_pos (.inl h)]
 ·rw [if_neg (by omega),if_neg (by omega)]
theorem BE6 (B:Nat) (f q:RM):tabM B B (mixF f q 0 0)=tabM B B f:=B5 fun a b _ _=>by unfold mixF;rw [if_neg (by omega)]
theorem BL8 (B:Nat) (f q:RM):tabM B B (mixF f q B 0)=tabM B B fun r c=>f r c+q r c:=B5 fun a b ha _=>by unfold mixF;rw [if_pos (.inl ha)]
theorem mixF_at (f q:RM) (r c:Nat):mixF f q r c r c=f r c:=by unfold mixF;rw [if_neg (by omega)]
end Go.Kx
namespace Go.Proofs.YtpgkacdihhjknaaGreat
open Go Go.Kx Go.RowKit
theorem BC3 {n:Nw} {k b:Nat} (hne:n.F k≠n.T k):((brE (n.F k:Nat) (n.T k:Nat) (b:Nat):Int):Rat)=n.inc k b:=by
 unfold brE Nw.inc dl
 by_cases h1:n.F k=b
 ·rw [if_pos (by omega),if_pos h1,if_neg (by omega)];grind
 ·rw [if_neg (by omega),if_neg h1]
  by_cases h2:n.T k=b
  ·rw [if_pos (by omega),if_pos h2];grind
  ·rw [if_neg (by omega),if_neg h2];grind
theorem Al9 {n:Nw} {k a b:Nat} {x:Int} (hne:n.F k≠n.T k) (hg:n.g k=((x:Int):Rat)⁻¹):Rat.divInt (brE (n.F k:Nat) (n.T k:Nat) (a:Nat)*brE (n.F k:Nat) (n.T k:Nat) (b:Nat)) x=n.g k*(n.inc k a*n.inc k b):=by
 rw [<-BC3 hne,<-BC3 hne,hg,Rat.divInt_eq_div,Rat.div_def,Rat.mul_comm,Rat.intCast_mul]
theorem E_Lap1:Ent Tryz.prog 149:=A0 Tryz.func149 (by kernel_rfl) rfl
set_option maxRecDepth 8000 in
theorem Lap1_c {S:Nat->Prop} {w:World} {b8 gb B:Nat} {hs:List Nat} {f q:RM} {F T x c:Int} (up:Up S w) (hM:MB 26 39 S w gb B hs (tabM B B f)) (k8:Blk w b8 70 #[slB B gb]) (h8:b8∉hs) (h8g:b8≠gb) (hB:B<=6)
  (hf:∀ r c,Rsz (f r c) 30) (hq:∀ a b:Nat,Rat.divInt (brE F T (a:Nat)*brE F T (b:Nat)) x=q a b) (hqs:∀ r c,Rsz (q r c) 30) (hx:1<=x) (hx2:x<=1000) :
  Calls Tryz.prog 149 #[.func (.func 150) #[brV F T x c] #[],.pointer (some ⟨b8,0,none⟩)] w fun e w'=>∃ v,e=.returned v/\(Chg (fun k=>k∈hs) w w'/\MB 26 39 S w' gb B hs (tabM B B fun r c=>f r c+q r c)):=by
 have hlen:hs.length=B:=by rw [hM.len,A4]
 have hhg:∀ i,i<B->hs[i]?=some (hs.getD i 0):=fun i hi=>A9 (by omega)
 have hgn:=hM.gn
 have hgl:=hM.out.lt
 have hlt0:∀ k∈hs,k<w.heap.size:=fun k hk=>hM.lt hk
 refine enterG Tryz.func149 O Tryz.ntmps149 O (.beg (.go O (.ld ty_M O O k8 O (.len un_M O O (.goC O (.lp (α:=Nat) [0,1,6] O (fun r=>[(7,.int .i64 (r:Nat))]) (fun r W=>r<=B/\Chg (fun k=>k∈hs) w W/\MB 26 39 S W gb B hs (tabM B B (mixF f q r 0))) (fun r=>B-r) 0 (lc1 O) ⟨Nat.zero_le _,Chg.refl _,by rw [BE6];exact hM⟩ ?_))))))
 rintro r W ⟨hr,hC,hM⟩
 refine .go O ?_
 rcases Nat.lt_or_ge r B with hrl | hge
 rotate_left
 ·refine .lssF O O O (by omega) (.goE O ?_)
  have:r=B:=by omega
  subst this
  rw [BL8] at hM
  exact .plain [] Tryz.results149 trivial ⟨hC,hM⟩
 refine .lssT O O O (by omega) (.go O (.ld ty_M O O (hC.blk k8 h8) O (.go O (.ixB (i:=r) un_M ty_V O O O hrl (.ld ty_V O O hM.out (hM.cell (hhg r hrl)) (.len un_V O O ?_))))))
 refine .goC O (.lp (α:=Nat) [0,1,3,6,7,14] O (fun c=>[(15,.int .i64 (c:Nat))]) (fun c W=>c<=B/\Chg (fun k=>k∈hs) w W/\MB 26 39 S W gb B hs (tabM B B (mixF f q r c))) (fun c=>B-c) 0 (lc1 O) ⟨Nat.zero_le _,hC,hM⟩ ?_)
 clear hM hC W
 rintro j W ⟨hj,hC,hM⟩
 refine .go O ?_
 rcases Nat.lt_or_ge j B with hjl | hge
 rotate_left
 ·have:j=B:=by omega
  subst this
  rw [BL7] at hM
  exact .lssF O O O (by omega) (.go O (.inc O O O (by omega) (.goN O (.mk (r+1) O (lc1 O) ⟨⟨hrl,hC,hM⟩,by show j-(r+1)<j-r;omega⟩))))
 have k8W:=hC.blk k8 h8
 have hrow:=hM.row r _ _ (hhg r hrl) (D9 hrl)
 have hCs:=hC.size
 have upT:∀ {W':World},W.heap.size<=W'.heap.size->Up (offM S gb hs) W':=fun h k' hk'=>⟨up k' (by omega),by omega,fun hm=>by have:=hlt0 k' hm;omega⟩
 refine .lssT O O O (by omega) (.goC O ?_)
 refine .par follows 17 [.inl (slB B gb),.inl (.int .i64 (r:Nat)),.inl (.pointer (some ⟨gb,0+r*1,none⟩)),.inl (slB B (hs.getD r 0)),.inl (.int .i64 (j:Nat)),.inl (slB B gb),.inl (.int .i64 (r:Nat)),.inl (.pointer (some ⟨gb,0+r*1,none⟩)),.inl (slB B (hs.getD r 0)),.inl (.int .i64 (j:Nat)),.inl (.pointer (some ⟨hs.getD r 0,0+j*4,none⟩)),.inr (eQ.at (offM S gb hs) (qc (f r j))),.inl _,.inl _,.inl _,.inr (eQ.at (offM S gb hs) (qc (q r j))),.inr (eQ.at (offM S gb hs) (qc (f r j+q r j)))] [[],[],[(18,0),(19,1)],[(20,2)],[],[],[],[(23,5),(24,6)],[(25,7)],[],[(26,8),(27,9)],[(28,10)],[],[],[],[(30,12),(31,13),(32,14)],[(29,11),(33,15)]] (by kernel_rfl) ⟨
  fun w e=>(v_ld ty_M O (k8W.ext e) O).ob,
  fun w e=>(v_mv O).ob,
  fun w e=>(E3 (i:=r) un_M ty_V O O hrl).ob,
  fun w e=>(v_ld ty_V O (hM.out.ext e) (hM.cell (hhg r hrl))).ob,
  fun w e=>(v_mv O).ob,
  fun w e=>(v_ld ty_M O (k8W.ext e) O).ob,
  fun w e=>(v_mv O).ob,
  fun w e=>(E3 (i:=r) un_M ty_V O O hrl).ob,
  fun w e=>(v_ld ty_V O (hM.out.ext e) (hM.cell (hhg r hrl))).ob,
  fun w e=>(v_mv O).ob,
  fun w e=>(E3 (i:=j) un_V ty_Q O O hjl).ob,
  fun w e=>(Z9 (E:=eQ) (i:=j) (by decide) ty_Q O (Nat.zero_add _) (hrow.2.ext e) (by rw [F5 hjl,mixF_at])).mono fun v' w' h=>⟨h.1,fun w'' e'=>eQ.mono (fun _ _ h=>h.1) (h.2 w'' e')⟩,
  fun w e=>(v_mv O).ob,
  fun w e=>(v_mv O).ob,
  fun w e=>(v_mv O).ob,
  fun w e=>by
   have:=Ax3 (f:=F) (t:=T) (c:=c) (a:=(r:Nat)) (b:=(j:Nat)) (upT e.size) hx hx2
   rw [hq] at this
   exact (BN5 [brV F T x c] [] [.int .i64 (r:Nat),.int .i64 (j:Nat)] O Ay1 O this).ob (A6 _ _ _),
  fun w e x11 hx11 x15 hx15=>by
   have:=U6 (L:=30) (upT e.size) hx11 hx15 (hf _ _).toOk (hqs _ _).toOk (by decide) (by decide)
   rw [B4,B4] at this
   exact (A2 _ V5 O this).ob (A6 _ _ _),trivial⟩ ?_
 intro X0 g0 _ _ _ _ y0 hy0
 have sx0:=g0.size
 have hm:hs.getD r 0∈hs:=E5 (by omega)
 refine .ixB (i:=j) un_V ty_Q O O O hjl (.storeF (E:=eQ) (i:=j) (by decide) ty_Q O O (hrow.2.ext g0) O (by rw [A1];exact hjl) (Nat.zero_add _) (eQ.mono (fun k' _ h=>⟨h,fun e=>h.2.2 (e▸hm)⟩) hy0) fun Y0 fy0 uy0=>?_)
 have hM:=(hM.ext g0).set (hhg r hrl) (by rw [List.length_set,A1]) uy0 fy0
 rw [AG0 hrl,BE7] at hM
 exact .go O (.inc O O O (by omega) (.goN O (.mk (j+1) O (lc1 O) ⟨⟨hjl,hC.trans ((Chg.ext g0).trans (Chg.upd uy0 hm)),hM⟩,by show B-(j+1)<B-j;omega⟩)))
theorem AU8:Ent Tryz.prog 99:=A0 Tryz.func99 (by kernel_rfl) rfl
set_option maxRecDepth 8000 in
theorem AT6 {S:Nat->Prop} {w:World} {vn vo:Value} {n:NtV} {o:List Int} (up:Up S w) (hn:eN.R S w vn n) (ho:eI.R S w vo o) :
  CR Tryz.prog 99 #[vn,vo] w (Two (fun v W=>if outE n o=0 then MBat 26 39 S w.heap.size (nwOf n o).B (nwOf n o).B (tabM (nwOf n o).B (nwOf n o).B (nwOf n o).Lm) v W else v=.slice none 0 0) (Is (.int .i64 (outE n o)))):=by
 obtain ⟨s,rfl,hs,hb⟩:=hn
 have hn:eN.R S w (.agg #[.int .i64 n.b,s]) n:=⟨s,rfl,hs,hb⟩
 refine enter Tryz.func99 O Tryz.ntmps99 O (.beg (.go O (.box O O fun w1 b2 n1=>?_)))
 obtain ⟨e1,k2,hb2,hs1⟩:=n1
 refine .go O (.ldA ty_N O O k2 O (.go O ?_))
 refine .call _ O AC4 O (AB7 (up.ext e1.size) (hn.ext e1) (ho.ext e1)) fun v2 w2 e2 h2=>?_
 obtain ⟨vl,ve,rfl,hl,he⟩:=h2
 replace he:ve=.int .i64 (outE n o):=he
 subst he
 have x2:=e1.trans e2
 refine .go O ?_
 by_cases hE:outE n o=0
 rotate_left
 ·refine .neqT O O O hE (.goE O ?_)
  refine .plain [_,_] Tryz.results99 ⟨rfl,rfl,trivial⟩ ⟨x2,_,_,rfl,?_,rfl⟩
  show if outE n o=0 then _ else _
  rw [if_neg hE]
 have ok:=I9 hE
 rw [if_pos hE] at hl
 have hB6:=ok.b6
 have hB1:=ok.b1
 have hM10:n.ls.length<=10:=ok.m
 have hnb:=ok.b
 have hll:=Y4 n o
 have k2:=k2.ext e2
 have hsx2:=x2.size
 rw [hnb] at k2
 refine .neqF O O O hE (.go O (.fa I6 O O (.ld A8 O O k2 O ?_)))
 generalize hBB:(nwOf n o).B=B at hB6 hB1 hnb k2
 refine .make_ _ _ un_M AG9 O (by decide) O O O (Nat.le_refl _) (by omega) (by omega) fun w3 gb n3=>.alloc O BI3 fun w4 b8 n4=>?_
 obtain ⟨e3,kg,hgb,hs3⟩:=n3
 obtain ⟨e4,k8,hb8,hs4⟩:=n4
 refine .store ty_M O O k8 O (by simp [Value.cells]) (by simp [one1,Value.cells]) fun w5 k8 u5=>?_
 replace k8:Blk w5 b8 70 #[slB B gb]:=k8
 have hs5:=u5.size
 have y5:Ext w2 w5:=u5.below (e3.trans e4) (by omega)
 have k2V:=k2
 have k2:=k2.ext y5
 have kg:Blk w5 gb 26 (cellsOf (List.replicate B nilV)).toArray:=(kg.ext e4).upd u5 (by omega)
 refine .go O (.ld ty_M O O k8 O (.len un_M O O ?_))
 have hb2l:=(k2).lt
 have hup:∀ k,w.heap.size<=k->S k:=up
 refine .goC O (.cut (α:=List Nat) 1 [2,6,8,26] O (fun hs=>[(27,.int .i64 (hs.length:Nat))]) (fun hs W=>Ext w2 W/\Blk W b8 70 #[slB B gb]/\(∀ k∈hs,w5.heap.size<=k)/\MB 26 39 S W gb B hs (tabM B B fun _ _=>0)) O ?_ ?_)
 rotate_left
 ·refine .lp (α:=List Nat) [2,6,8,26] rfl (fun hs=>[(27,.int .i64 (hs.length:Nat))]) (fun hs W=>Ext w2 W/\Blk W b8 70 #[slB B gb]/\hs.length<=B/\Blk W gb 26 (cellsOf (hs.map (slB B)++List.replicate (B-hs.length) nilV)).toArray/\hs.Nodup/\(∀ k∈hs,w5.heap.size<=k)/\∀ (i h:Nat),hs[i]?=some h->FB eQ 39 (fun _=>False) W h (List.replicate B q0)) (fun hs=>B-hs.length) [] (lc1 rfl) ⟨y5,k8,Nat.zero_le _,kg,List.nodup_nil,(fun k hk=>by cases hk),(fun i h hh=>by cases hh)⟩ ?_
  rintro hs W ⟨hW,k8,hi,hO,hnd,hge,hrow⟩
  have hWs:=hW.size
  have hgl:=hO.lt
  refine .go O ?_
  rcases Nat.lt_or_ge hs.length B with hlt | hge'
  rotate_left
  ·refine .lssF O O O (by omega) (.goN O (.mk hs O (lc1 O) ⟨hW,k8,hge,?_⟩))
   have hl:hs.length=B:=by omega
   rw [hl,Nat.sub_self,List.replicate_zero,List.append_nil] at hO
   refine ⟨hO,hnd,fun hm=>by have:=hge gb hm;omega,by rw [A4];exact hl,fun i h r h1 h2=>?_⟩
   have hil:i<B:=by have:=(List.getElem?_eq_some_iff.1 h1).1;omega
   rw [D9 hil] at h2
   cases h2
   rw [AP0]
   exact ⟨by simp,(hrow i h h1).mono fun _ _ h=>h.elim⟩
  refine .lssT O O O (by omega) (.goC O ?_)
  refine .par follows 5 [.inl (slB B gb),.inl (.int .i64 (hs.length:Nat)),.inl (.pointer (some ⟨b2,0,none⟩)),.inl (.int .i64 (B:Nat)),.inr (fun v W'=>∃ b,v=.slice (some ⟨b,0,none⟩) B B/\W.heap.size<=b/\Blk W' b 39 (cellsOf (List.replicate B zq)).toArray)] [[],[],[],[(32,2)],[(33,3)]] (by kernel_rfl) ⟨
   fun w e=>(v_ld ty_M O (k8.ext e) O).ob,
   fun w e=>(v_mv O).ob,
   fun w e=>(v_fa I6 O).ob,
   fun w e=>(v_ld A8 O ((k2V.ext hW).ext e) O).ob,
   fun w e=>ob_make B B un_V K7 O (by decide) O O (Nat.le_refl _) (by omega) (by omega) e.size,trivial⟩ ?_
  rintro W1 g1 _ ⟨h,rfl,hhW,kh⟩
  have hs1':=g1.size
  have hlW:∀ k∈hs,k<W.heap.size:=fun k hk=>by
   obtain ⟨i,hi⟩:=List.mem_iff_getElem?.1 hk
   exact (hrow i k hi).lt
  have hesz:∀ e∈hs.map (slB B)++List.replicate (B-hs.length) nilV,e.cells.size=1:=fun e he=>by
   rcases List.mem_append.1 he with h | h
   ·obtain ⟨_,_,rfl⟩:=List.mem_map.1 h;rfl
   ·rw [(List.mem_replicate.1 h).2];rfl
  have hset:(hs.map (slB B)++List.replicate (B-hs.length) nilV).set hs.length (slB B h)=(hs++[h]).map (slB B)++List.replicate (B-(hs.length+1)) nilV:=by
   have:=Az3 (hs.map (slB B)) nilV (slB B h) (B-(hs.length+1))
   rw [List.length_map,show B-(hs.length+1)+1=B-hs.length by omega] at this
   rw [this,List.map_append];rfl
  refine .ixB (i:=hs.length) un_M ty_V O O O hlt ?_
  refine .gv O O (Ac1 (i:=hs.length) (by decide) ty_V O O (hO.ext g1) hesz O (by simp [Value.cells,one1]) (by simp;omega) (Nat.zero_add _)) ?_
  rintro _ W2 ⟨hBg2,u2⟩
  replace hBg2:Blk W2 gb 26 (cellsOf ((hs.map (slB B)++List.replicate (B-hs.length) nilV).set hs.length (slB B h))).toArray:=hBg2
  rw [hset] at hBg2
  refine .go O (.inc O O O (by omega) (.goN O (.mk (hs++[h]) O (lc1 (by rw [List.length_append];rfl)) ⟨⟨u2.below (hW.trans g1) (by omega),(k8.ext g1).upd u2 (by omega),by rw [List.length_append];exact hlt,by rw [List.length_append];exact hBg2,?_,?_,?_⟩,by rw [List.length_append];show B-(hs.length+1)<B-hs.length;omega⟩)))
  ·exact List.nodup_append.2 ⟨hnd,by simp,fun a ha b hb=>by rw [List.mem_singleton.1 hb];have:=hlW a ha;omega⟩
  ·intro k hk
   rcases List.mem_append.1 hk with hk | hk
   ·exact hge k hk
   ·rw [List.mem_singleton.1 hk];have:=k8.lt;omega
  ·intro i x hx
   rcases Nat.lt_or_ge i hs.length with hil | hil
   ·rw [List.getElem?_append_left hil] at hx
    have:=hge x (List.mem_iff_getElem?.2 ⟨i,hx⟩)
    exact ((hrow i x hx).ext g1).upd u2 (by omega) fun h=>h
   ·rw [List.getElem?_append_right hil] at hx
    have:x=h:=by
     cases hj:i-hs.length with
     | zero=>rw [hj] at hx;simpa using hx.symm
     | succ j=>rw [hj] at hx;simp at hx
    subst this
    exact (FB.rep (S:=fun _=>False) kh zq_R).upd u2 (by omega) fun h=>h
 rintro hs0 W ⟨hW,k8,hge,hM⟩
 have hWs:=hW.size
 have hgl:=hM.out.lt
 refine .go O (.mkf [] [_] O O O O (.go O (.lenR un_I O O (ER.ext eI hl hW) ?_)))
 rw [show (pInts (inL n o)).length=(inL n o).length by simp]
 refine .goC O (.lp (α:=Nat) [2,8,10,38,39] O (fun i=>[(40,.int .i64 (i:Nat))]) (fun i W=>i<=(inL n o).length/\Ext w2 W/\Blk W b8 70 #[slB B gb]/\MB 26 39 S W gb B hs0 (tabM B B ((nwOf n o).lmL ((inL n o).take i)))) (fun i=>(inL n o).length-i) 0 (lc1 O) ⟨Nat.zero_le _,hW,k8,hM⟩ ?_)
 clear hW hM k8 hgl hWs W
 rintro i W ⟨hi,hW,k8,hM⟩
 have hWs:=hW.size
 refine .go O ?_
 rcases Nat.lt_or_ge i (inL n o).length with hlt | hge'
 rotate_left
 ·refine .lssF O O O (by omega) (.go O (.ld ty_M O O k8 O (.goE O ?_)))
  have:i=(inL n o).length:=by omega
  subst this
  refine .plain [_,_] Tryz.results99 ⟨rfl,rfl,trivial⟩ ⟨x2.trans hW,_,_,rfl,?_,by rw [hE]⟩
  show if outE n o=0 then _ else _
  rw [if_pos hE]
  have hfin:tabM B B ((nwOf n o).lmL ((inL n o).take (inL n o).length))=tabM B B (nwOf n o).Lm:=B5 fun b c _ _=>by
   rw [List.take_of_length_le (Nat.le_refl _)]
   exact Nw.lmL_free (p:=oN o) b c _ fun k hk=>ok.g0 hk
  rw [hfin] at hM
  exact ⟨gb,hs0,rfl,by omega,fun k hk=>by have:=hge k hk;omega,hM⟩
 obtain ⟨hgk,hkM,hko⟩:=AJ2 hlt
 refine .lssT O O O (by omega) (.go O (.ixN (i:=i) un_I B0 O O (ER.ext eI hl hW) O hgk fun q hq=>.ldE (E:=eInt .i64) B0 O O hq fun e he=>?_))
 obtain ⟨rfl,_⟩:=he
 have hgl:n.ls[(inL n o).getD i 0]?=some (n.ls.getD ((inL n o).getD i 0) ln0):=A9 hkM
 have hFI:=ok.fI _ hkM
 have hTI:=ok.tI _ hkM
 have hne:=ok.ne _ hkM
 have hx:=ok.x _ hkM
 have hgv:=g_on (n:=n) hko
 have htk:(inL n o).take (i+1)=(inL n o).take i++[(inL n o).getD i 0]:=by rw [List.take_add_one,A9 (z:=0) hlt];rfl
 generalize hkk:(inL n o).getD i 0=k at hgl hFI hTI hx hgv hkM hne htk
 generalize hln:n.ls.getD k ln0=ln at hgl hFI hTI hx hgv
 refine .go O (.fa K9 O O (.ld R7 O O (k2V.ext hW) O (.go O (.ixN (i:=k) M4 P0 O O (ER.ext eLs hs (x2.trans hW)) O hgl fun q hq=>.ldE (E:=eL) P0 O O hq fun vl' hvl=>?_))))
 obtain ⟨rfl,_⟩:=hvl
 rw [hFI,hTI]
 refine .bld _ O O BP6 (.mkf [_] [] O O O O ?_)
 have hgs:=ok.gsz k
 have hq:∀ a b,Rsz ((nwOf n o).g k*((nwOf n o).inc k a*(nwOf n o).inc k b)) 30:=fun a b=>by
  refine (Az5 hgs (Nat.le_refl _) ?_).mono (by decide)
  rcases (nwOf n o).inc_tri k a with h | h | h<;>rcases (nwOf n o).inc_tri k b with h' | h' | h'<;>rw [h,h']<;>grind
 have hfs:∀ r c,Rsz ((nwOf n o).lmL ((inL n o).take i) r c) 30:=fun r c=>((nwOf n o).lmL_rsz (Nat.le_refl _) (fun k=>ok.gsz k) r c _).mono (by
  rw [List.length_take]
  have:=Nat.mul_le_mul_right 2 (show min i (inL n o).length<=10 by omega)
  omega)
 have hcall:=Lap1_c (S:=S) (c:=ln.c) (up.ext (x2.trans hW).size) hM k8 (fun hm=>by have:=hge b8 hm;omega) (by omega) hB6 hfs (fun a b=>Al9 hne hgv) hq hx.1 hx.2
 refine .callvG [_] O O E_Lap1 O hcall ?_
 rintro v W1 ⟨hC,hM1⟩
 have hnew:tabM B B (fun r c=>(nwOf n o).lmL ((inL n o).take i) r c+(nwOf n o).g k*((nwOf n o).inc k r*(nwOf n o).inc k c))=tabM B B ((nwOf n o).lmL ((inL n o).take (i+1))):=B5 fun b c _ _=>by rw [htk,Nw.lmL_snoc]
 rw [hnew] at hM1
 exact .go O (.inc O O O (by omega) (.goN O (.mk (i+1) O (lc1 O) ⟨⟨hlt,hC.below hW (by omega) (fun k hk=>by have:=hge k hk;omega),hC.blk k8 (fun hm=>by have:=hge b8 hm;omega),hM1⟩,by show (inL n o).length-(i+1)<(inL n o).length-i;omega⟩)))
theorem uni_dl (b c:Nat):uni ((b:Nat):Int) c=dl b c:=by
 unfold uni dl
 by_cases h:b=c
 ·rw [if_pos (by omega),if_pos h]
 ·rw [if_neg (by omega),if_neg h]
theorem bd6 (L:Nat):bd L 6=4096*L+1365:=by
 simp only [bd];omega
theorem rv_sum {x:List QV} {B:Nat} (hx:x.length<=B) (p:Nat->Prop) [DecidablePred p]:sumN x.length (fun b=>if p b then rv x b else 0)=sumN B (fun b=>if p b then rv x b else 0):=by
 obtain ⟨d,rfl⟩:∃ d,B=x.length+d:=⟨B-x.length,by omega⟩
 clear hx
 induction d with
 | zero=>rfl
 | succ d ih =>
  rw [ih]
  show _=sumN (x.length+d) _+(if p (x.length+d) then rv x (x.length+d) else 0)
  rw [AT2 (show x.length<=x.length+d by omega),ite_self,Rat.add_zero]
theorem AZ0:Ent Tryz.prog 98:=A0 Tryz.func98 (by kernel_rfl) rfl
open Classical in
set_option maxRecDepth 8000 in
theorem AY3 {S:Nat->Prop} {w:World} {vn vo vx:Value} {n:NtV} {o:List Int} {x:List QV} {L:Nat} (up:Up S w) (hn:eN.R S w vn n) (ho:eI.R S w vo o) (hx:eV.R S w vx x) (hkx:vk L x) (hL1:1<=L) (hL:L<=1000000) :
  CR Tryz.prog 98 #[vn,vo,vx] w (Two (Is (.bool (decide (sfE n o x.length=0/\(nwOf n o).bal (rv x))))) (Is (.int .i64 (sfE n o x.length)))):=by
 obtain ⟨s,rfl,hs,hb⟩:=hn
 have hn:eN.R S w (.agg #[.int .i64 n.b,s]) n:=⟨s,rfl,hs,hb⟩
 refine enter Tryz.func98 O Tryz.ntmps98 O (.beg (.go O (.box O O fun w1 b3 n1=>?_)))
 obtain ⟨e1,k3,hb3,hs1⟩:=n1
 refine .go O (.ldA ty_N O O k3 O (.go O (.call _ O AI0 O (AG8 (up.ext e1.size) (hn.ext e1) (ho.ext e1)) fun v2 w2 e2 h2=>?_)))
 obtain ⟨vl,ve,rfl,hl,he⟩:=h2
 replace he:ve=.int .i64 (outE n o):=he
 subst he
 have x2:=e1.trans e2
 refine .go O ?_
 by_cases hE:outE n o=0
 rotate_left
 ·have hb:sfE n o x.length=outE n o:=by unfold sfE;rw [if_pos hE]
  refine .neqT O O O hE (.goE O ?_)
  refine .plain [_,_] Tryz.results98 ⟨rfl,rfl,trivial⟩ ⟨x2,_,_,rfl,?_,by rw [hb]⟩
  rw [decide_eq_false fun h=>hE (hb.symm.trans h.1)]
 have ok:=I9 hE
 rw [if_pos hE] at hl
 have hB6:=ok.b6
 have hB1:=ok.b1
 have hnb:=ok.b
 have k3:=k3.ext e2
 rw [hnb] at k3
 obtain ⟨_,_,_,_,hxl⟩:=RL.len hx
 refine .neqF O O O hE (.go O (.lenR un_V O O (hx.ext x2) (.go O (.fa I6 O O (.ld A8 O O k3 O ?_)))))
 by_cases hlen:(x.length:Int)<=n.b
 rotate_left
 ·have hb:sfE n o x.length=5:=by unfold sfE;rw [if_neg (by simpa using hE),if_neg hlen]
  refine .gtrT O O O (by omega) (.goE O ?_)
  refine .plain [_,_] Tryz.results98 ⟨rfl,rfl,trivial⟩ ⟨x2,_,_,rfl,?_,by rw [hb]⟩
  rw [decide_eq_false fun h=>by rw [hb] at h;exact absurd h.1 (by decide)]
 have hno:sfE n o x.length=0:=by unfold sfE;rw [if_neg (by simpa using hE),if_pos hlen]
 have hxB:x.length<=(nwOf n o).B:=by omega
 refine .gtrF O O O (by omega) (.go O (.fa I6 O O (.ld A8 O O k3 O ?_)))
 refine .make_ _ _ un_V K7 O (by decide) O O O (Nat.le_refl _) (by omega) (by omega) fun w3 h n3=>?_
 have f3:FB eQ 39 S w3 h (List.replicate (nwOf n o).B q0):=FB.made n3 zq_R
 obtain ⟨e3,_,hh,hs3⟩:=n3
 rw [<-AP0] at f3
 have hs2:=x2.size
 have hx2:=hx.ext x2
 have hxT:eV.R (fun k=>S k/\k≠h) w2 vx x:=eV.mono (fun k _ h=>⟨h.1,by have:=h.2;omega⟩) (ER.lt eV hx2)
 refine .go O (.lenR un_V O O (ER.ext eV hx2 e3) ?_)
 generalize hu:(fun i j=>sumN i fun b=>if (nwOf n o).lab b=j then rv x b else 0)=u
 refine .goC O (.lp (α:=Nat) [8,10,32,33] O (fun i=>[(34,.int .i64 (i:Nat))]) (fun i W=>Ext w2 W/\i<=x.length/\FB eQ 39 S W h (tab (nwOf n o).B (u i))) (fun i=>x.length-i) 0 (lc1 O) ⟨e3,Nat.zero_le _,by rw [<-hu];exact f3⟩ ?_)
 rintro i W ⟨hW,hi,fb⟩
 have hWs:=hW.size
 have hhl:=fb.lt
 refine .go O ?_
 rcases Nat.lt_or_ge i x.length with hlt | hge
 rotate_left
 ·have:i=x.length:=by omega
  subst this
  have hsum:∀ j,u x.length j=sumN (nwOf n o).B fun b=>if (nwOf n o).lab b=j then rv x b else 0:=fun j=>by rw [<-hu];exact rv_sum hxB _
  have hbal:(nwOf n o).bal (rv x)<->∀ j,j<(nwOf n o).B->u x.length j=0:=by
   rw [Nw.bal_lab]
   simp only [hsum]
  have hR:eV.R S W (slB (nwOf n o).B h) (tab (nwOf n o).B (u x.length)):=by
   have:=fb.toR (hsz:=by decide) (c:=(nwOf n o).B) (up h (by omega)) (by rw [A1];exact Nat.le_refl _) (by rw [A1];omega)
   rw [A1] at this
   exact this
  refine .lssF O O O (by omega) (.go O (.len un_V O O ?_))
  refine .goC O (.lp (α:=Nat) [55,56] O (fun j=>[(57,.int .i64 (j:Nat))]) (fun j W'=>Ext W W'/\j<=(nwOf n o).B/\∀ j',j'<j->u x.length j'=0) (fun j=>(nwOf n o).B-j) 0 (lc1 O) ⟨Ext.refl _,Nat.zero_le _,fun _ h=>absurd h (by omega)⟩ ?_)
  rintro j W' ⟨hW',hj,hz⟩
  refine .go O ?_
  rcases Nat.lt_or_ge j (nwOf n o).B with hjl | hge
  rotate_left
  ·refine .lssF O O O (by omega) (.goE O ?_)
   refine .plain [_,_] Tryz.results98 ⟨rfl,rfl,trivial⟩ ⟨x2.trans (hW.trans hW'),_,_,rfl,?_,by rw [hno]⟩
   rw [decide_eq_true ⟨hno,hbal.2 fun j' hj'=>hz j' (by omega)⟩]
  refine .lssT O O O (by omega) (.go O (.ixN (i:=j) un_V ty_Q O O (ER.ext eV hR hW') O (F5 hjl) fun q hq=>.ldE (E:=eQ) ty_Q O O hq fun y hy=>.alloc O C5 fun W2 b14 n2=>?_))
  obtain ⟨e4,k14,hb14,hs4⟩:=n2
  refine .storeA (E:=eQ) (S:=fun k=>S k/\k<W'.heap.size) ty_Q O O k14 O O (ER.ext eQ (ER.lt eQ hy) e4) (fun h=>by have:=h.2;omega) fun W3 k14 u3 hy=>?_
  have hyv:=shpA (E:=eQ) O hy
  refine .go O (.ldA ty_Q O O k14 (eQ.csz hy) ?_)
  rw [<-hyv]
  refine .call _ O Z3 O (Y5 hy) fun v4 W4 e5 h4=>?_
  subst h4
  rw [B4]
  have x4:Ext W W4:=hW'.trans (Ext.trans (u3.below e4 (by omega)) e5)
  by_cases h0:u x.length j=0
  ·rw [h0]
   refine .neqF O O O (by decide) (.go O (.inc O O O (by omega) (.goN O (.mk (j+1) O (lc1 O) ⟨⟨x4,hjl,fun j' hj'=>?_⟩,by show (nwOf n o).B-(j+1)<(nwOf n o).B-j;omega⟩))))
   by_cases e:j'=j
   ·rw [e];exact h0
   ·exact hz j' (by omega)
  ·refine .neqT O O O (fun h=>h0 (AI7.1 h)) (.goE O ?_)
   refine .plain [_,_] Tryz.results98 ⟨rfl,rfl,trivial⟩ ⟨x2.trans (hW.trans x4),_,_,rfl,?_,by rw [hno]⟩
   rw [decide_eq_false fun h=>h0 (hbal.1 h.2 j hjl)]
 have hib:i<(nwOf n o).B:=by omega
 have hlab:(nwOf n o).lab i<(nwOf n o).B:=Nat.lt_of_le_of_lt ((nwOf n o).lab_le i) hib
 have hxi:x[i]?=some (x.getD i q0):=A9 hlt
 have hqi:=hkx.get hL1 i
 have hus:∀ i,i<=6->∀ j,Rsz (u i j) (1+6*(L+1)):=fun i hi j=>by
  rw [<-hu]
  refine (Ao7 (L:=L) fun b _=>?_).mono (by have:=Nat.mul_le_mul_right (L+1) hi;omega)
  split
  ·exact hkx.rsz hL1 b
  ·exact Rsz.zero hL1
 refine .lssT O O O (by omega) (.go O (.ixN (i:=i) un_V ty_Q O O (ER.ext eV hxT hW) O hxi fun q hq=>.ldE (E:=eQ) ty_Q O O hq fun y hy=>.alloc O C5 fun W1 b12 n1'=>.go O ?_))
 obtain ⟨g1,k12,hb12,hs1'⟩:=n1'
 refine .storeA (E:=eQ) (S:=fun k=>(S k/\k≠h)/\k<W.heap.size) ty_Q O O k12 O O (ER.ext eQ (ER.lt eQ hy) g1) (fun h=>by have:=h.2;omega) fun W2 k12 u2 hy=>?_
 have hs2':=u2.size
 have fb:=fb.new g1 u2 (by omega)
 have hW2:Ext w2 W2:=u2.below (hW.trans g1) (by omega)
 have hyv:=shpA (E:=eQ) O hy
 have hy:eQ.R (fun k=>S k/\k≠h) W2 y _:=eQ.mono (fun _ _ h=>h.1) hy
 have upT:∀ {W':World},W2.heap.size<=W'.heap.size->Up (fun k=>S k/\k≠h) W':=fun hs k' hk'=>⟨up k' (by omega),by omega⟩
 refine .goC O ?_
 refine .par follows 14 [.inl (slB (nwOf n o).B h),.inl vl,.inl (.int .i64 (i:Nat)),.inr (Ptr (eInt .i64) S (((nwOf n o).lab i):Nat)),.inl (.int .i64 (((nwOf n o).lab i):Nat)),.inl (slB (nwOf n o).B h),.inl vl,.inl (.int .i64 (i:Nat)),.inr (Ptr (eInt .i64) S (((nwOf n o).lab i):Nat)),.inl (.int .i64 (((nwOf n o).lab i):Nat)),.inl (.pointer (some ⟨h,0+((nwOf n o).lab i)*4,none⟩)),.inr (eQ.at (fun k=>S k/\k≠h) (qc (u i ((nwOf n o).lab i)))),.inl y,.inr (eQ.at (fun k=>S k/\k≠h) (qc (u i ((nwOf n o).lab i)+rv x i)))] [[],[],[],[(40,1),(41,2)],[(42,3)],[],[],[],[(45,6),(46,7)],[(47,8)],[(44,5),(48,9)],[(49,10)],[],[(50,11),(51,12)]] (by kernel_rfl) ⟨
  fun w e=>(v_mv O).ob,
  fun w e=>(v_mv O).ob,
  fun w e=>(v_mv O).ob,
  fun w e=>D2 (i:=i) un_I B0 O (ER.ext eI (ER.ext eI hl hW2) e) O (AB4 hib),
  fun w e x3 hx3=>Z8 B0 O hx3,
  fun w e=>(v_mv O).ob,
  fun w e=>(v_mv O).ob,
  fun w e=>(v_mv O).ob,
  fun w e=>D2 (i:=i) un_I B0 O (ER.ext eI (ER.ext eI hl hW2) e) O (AB4 hib),
  fun w e x8 hx8=>Z8 B0 O hx8,
  fun w e=>(E3 (i:=((nwOf n o).lab i)) un_V ty_Q O O hlab).ob,
  fun w e=>Z9 (E:=eQ) (i:=((nwOf n o).lab i)) (by decide) ty_Q O (Nat.zero_add _) (fb.ext e) (F5 hlab),
  fun w e=>((B9 ty_Q O (k12.ext e) (eQ.csz hy)).eq hyv.symm).ob,
  fun w e x11 hx11=>by
   have:=U6 (L:=1+6*(L+1)) (upT e.size) hx11 (ER.ext eQ hy e) (hus i (by omega) _).toOk (hqi.1.mono (by omega)) (by omega) (by omega)
   rw [B4] at this
   exact (A2 _ V5 O this).ob (A6 _ _ _),trivial⟩ ?_
 intro X0 g0 _ _ _ _ _ _ y0 hy0
 refine .ixB (i:=(nwOf n o).lab i) un_V ty_Q O O O hlab (.storeF (E:=eQ) (i:=(nwOf n o).lab i) (by decide) ty_Q O O (fb.ext g0) O (by rw [A1];exact hlab) (Nat.zero_add _) hy0 fun Y0 fy0 uy0=>?_)
 have hstep:(tab (nwOf n o).B (u i)).set ((nwOf n o).lab i) (qc (u i ((nwOf n o).lab i)+rv x i))=tab (nwOf n o).B (u (i+1)):=by
  rw [X4]
  refine E0 fun j _=>?_
  rw [<-hu]
  show _=sumN i _+_
  dsimp only
  by_cases e:j=(nwOf n o).lab i
  ·rw [if_pos e,if_pos e.symm,e]
  ·rw [if_neg e,if_neg (Ne.symm e)];grind
 rw [hstep] at fy0
 exact .go O (.inc O O O (by omega) (.goN O (.mk (i+1) O (lc1 O) ⟨⟨uy0.below (hW2.trans g0) (by omega),hlt,fy0⟩,by show x.length-(i+1)<x.length-i;omega⟩)))
open Classical in
noncomputable def anE (n:NtV) (o:List Int) (x:List QV):Int:=if sfE n o x.length≠0 then sfE n o x.length else if (nwOf n o).bal (rv x) then 0 else 10
theorem Ax6 {n:NtV} {o:List Int} {x:List QV} (h:anE n o x=0):sfE n o x.length=0/\(nwOf n o).bal (rv x):=by
 unfold anE at h
 split at h
 ·exact absurd h (by assumption)
 ·split at h
  ·exact ⟨Classical.not_not.1 (by assumption),by assumption⟩
  ·cases h
theorem BP9 {n:NtV} {o:List Int} {x:List QV} (h:outE n o=0) (hx:(x.length:Int)<=n.b) (hb:(nwOf n o).bal (rv x)):anE n o x=0:=by
 have:sfE n o x.length=0:=by unfold sfE;rw [if_neg (by simpa using h),if_pos hx]
 unfold anE
 rw [if_neg (by simpa using this),if_pos hb]
theorem an_sol {n:NtV} {o:List Int} (ok:nwOk n o) {r x:List QV} (hr:r.length=(nwOf n o).B) (hx:∀ b,b<(nwOf n o).B->rv r b=(nwOf n o).inj0 (rv x) b):solvable (nwOf n o).gA r/\tab (nwOf n o).B (rv (solX (nwOf n o).gA r))=tab (nwOf n o).B ((nwOf n o).an (rv x)):=by
 have hs:solvable (nwOf n o).gA r:=BM5 (by rw [AJ6 ok.b1,I5]) (Al4 ok.ok ok.b1) fun i hi=>AT2 (by rw [I5] at hi;omega)
 refine ⟨hs,E0 fun c hc=>?_⟩
 rw [<-inv_sol (by rw [AJ6 ok.b1,I5]) (Al4 ok.ok ok.b1) hs (by rw [I5];exact hc),I5]
 unfold Nw.an
 refine A3 fun b hb=>?_
 rw [hx b hb];rfl
theorem BP8 {n:NtV} {o:List Int} (ok:nwOk n o) {x:Nat->Rat} {L:Nat} (hL:1<=L) (hx:∀ b,Rsz (x b) L) (c:Nat):Rsz ((nwOf n o).an x c) (1+6*(87381+L+1)):=by
 unfold Nw.an
 refine (Ao7 (L:=87381+L) fun b _=>(BJ7 ok b c).mul ?_).mono (by have:=Nat.mul_le_mul_right (87381+L+1) ok.b6;omega)
 unfold Nw.inj0
 split
 ·exact Rsz.zero hL
 ·exact hx b
theorem Ah0:Ent Tryz.prog 57:=A0 Tryz.func57 (by kernel_rfl) rfl
open Classical in
set_option maxRecDepth 8000 in
theorem Ag3 {S T0:Nat->Prop} {w:World} {vn vo vx:Value} {n:NtV} {o:List Int} {x:List QV} {L:Nat} (up:Up S w) (upo:Up T0 w) (hn:eN.R S w vn n) (ho:eI.R S w vo o) (hx:eV.R S w vx x) (hkx:vk L x) (hL1:1<=L) (hL:L<=9000) :
  CR Tryz.prog 57 #[vn,vo,vx] w (Two (eV.at T0 (if anE n o x=0 then tab (nwOf n o).B ((nwOf n o).an (rv x)) else [])) (Is (.int .i64 (anE n o x)))):=by
 obtain ⟨s,rfl,hs,hb⟩:=hn
 have hn:eN.R S w (.agg #[.int .i64 n.b,s]) n:=⟨s,rfl,hs,hb⟩
 refine enter Tryz.func57 O Tryz.ntmps57 O (.beg (.go O (.box O O fun w1 b3 n1=>?_)))
 obtain ⟨e1,k3,hb3,hs1⟩:=n1
 refine .go O (.ldA ty_N O O k3 O (.go O ?_))
 refine .call _ O AZ0 O (AY3 (up.ext e1.size) (hn.ext e1) (ho.ext e1) (ER.ext eV hx e1) hkx hL1 (by omega)) fun v2 w2 e2 h2=>?_
 obtain ⟨vb,ve,rfl,rfl,rfl⟩:=h2
 have x2:=e1.trans e2
 refine .go O ?_
 by_cases hE:sfE n o x.length=0
 rotate_left
 ·have hb:anE n o x=sfE n o x.length:=by unfold anE;rw [if_pos hE]
  refine .neqT O O O hE (.goE O ?_)
  refine .plain [_,_] Tryz.results57 ⟨rfl,rfl,trivial⟩ ⟨x2,_,_,rfl,?_,by rw [hb]⟩
  rw [if_neg (by rw [hb];exact hE)];exact RL.nil
 by_cases hB:(nwOf n o).bal (rv x)
 rotate_left
 ·have hb:anE n o x=10:=by unfold anE;rw [if_neg (by simpa using hE),if_neg hB]
  rw [decide_eq_false fun h=>hB h.2]
  refine .neqF O O O hE (.goE O ?_)
  refine .plain [_,_] Tryz.results57 ⟨rfl,rfl,trivial⟩ ⟨x2,_,_,rfl,?_,by rw [hb]⟩
  rw [if_neg (by rw [hb];decide)];exact RL.nil
 have hno:anE n o x=0:=by unfold anE;rw [if_neg (by simpa using hE),if_pos hB]
 rw [decide_eq_true ⟨hE,hB⟩,if_pos hno]
 obtain ⟨hO,hxb⟩:=BK3 hE
 have ok:=I9 hO
 have hB6:=ok.b6
 have hB1:=ok.b1
 have hnb:=ok.b
 refine .neqF O O O hE (.go O (.ldA ty_N O O (k3.ext e2) O (.go O ?_)))
 refine .call _ O AU8 O (AT6 (up.ext x2.size) (hn.ext x2) (ho.ext x2)) fun v4 w4 e4 h4=>?_
 obtain ⟨vm,ve,rfl,hm,rfl⟩:=h4
 rw [if_pos hO] at hm
 obtain ⟨gb,hs0,rfl,hgb,hge,hM⟩:=hm
 have x4:=x2.trans e4
 have hs2:=x2.size
 have hs4:=e4.size
 have hglt:=hM.out.lt
 have hk3:=k3.lt
 have hF:FB eV 26 S w4 gb (tabM (nwOf n o).B (nwOf n o).B (nwOf n o).Lm):=hM.toFB (fun k hk=>up k (by have:=hge k hk;omega)) (by omega)
 have old:∀ {α:Type} (E:ER α) {v:Value} {y:α},E.R S w v y->E.R (fun k=>S k/\k≠gb) w4 v y:=fun E v y h=>E.mono (fun k _ h=>⟨h.1,by have:=h.2;omega⟩) (ER.ext E (ER.lt E h) x4)
 have k3:=k3.ext (e2.trans e4)
 refine .go O (.neqF O O O hO (.go O (.ldA ty_N O O k3 O (.go O ?_))))
 refine .call _ O AA7 O (AA1 (S:=fun k=>S k/\k≠gb) (fun k hk=>⟨up k (by omega),by omega⟩) (old eN hn) (old eI ho)) fun v5 w5 e5 h5=>?_
 obtain ⟨vr,ve,rfl,hr,he⟩:=h5
 replace he:ve=.int .i64 0:=by rw [he,hO]
 subst he
 rw [if_pos hO] at hr
 have hs5:=e5.size
 have k3:=k3.ext e5
 refine .go O (.neqF O O O O (.go O (.fa I6 O O (.ld A8 O O k3 O ?_))))
 rw [hnb]
 refine .call _ O T7 O (AC7 (S:=fun k=>S k/\k≠gb) (fun k hk=>⟨up k (by omega),by omega⟩) (ER.ext eV (old eV hx) e5) hkx hL1 (by omega)) fun v6 w6 e6 h6=>?_
 obtain ⟨h6,_⟩ | ⟨_,gr,N6,hN6,hgr,rfl,fr⟩:=h6
 ·omega
 have hNB:N6=(nwOf n o).B:=by omega
 subst hNB
 have hs6:=e6.size
 have hgrl:=fr.lt
 have x6:=x4.trans (e5.trans e6)
 have k3:=k3.ext e6
 have hF:FB eV 26 (fun k=>S k/\k≠gr) w6 gb (tabM (nwOf n o).B (nwOf n o).B (nwOf n o).Lm):=(hF.mono (S':=fun k=>S k/\k≠gr) fun k hk h=>⟨h,by omega⟩).ext (e5.trans e6)
 have hr:eI.R (fun k=>(S k/\k≠gb)/\k≠gr) w6 vr (pInts (nwOf n o).refs):=ER.ext eI (eI.mono (fun k _ h=>⟨h.1,by have:=h.2;omega⟩) (ER.lt eI hr)) e6
 have hrW:∀ {W:World},Chg (fun k=>k=gb\/k=gr) w6 W->eI.R (fun k=>(S k/\k≠gb)/\k≠gr) W vr (pInts (nwOf n o).refs):=fun hC=>eI.keep (hC.kp fun k hk h=>h.elim (fun e=>hk.1.2 e) fun e=>hk.2 e) hr
 have hkW:∀ {W:World},Chg (fun k=>k=gb\/k=gr) w6 W->Blk W b3 24 #[.int .i64 n.b,s]:=fun hC=>hC.blk k3 fun h=>by have:=hb3;have:=e2.size;rcases h with h | h<;>omega
 rw [hnb] at hkW
 have hrl:(nwOf n o).refs.length<=(nwOf n o).B:=(nwOf n o).cnt_le (nwOf n o).B
 refine .go O (.lenR un_I O O hr ?_)
 rw [show (pInts (nwOf n o).refs).length=(nwOf n o).refs.length by simp]
 generalize hG:(fun i=>fun b c=>if b∈(nwOf n o).refs.take i then dl b c else (nwOf n o).Lm b c:Nat->RM)=G
 generalize hY:(fun i=>fun b=>if b∈(nwOf n o).refs.take i then 0 else rv x b:Nat->Nat->Rat)=Y
 refine .goC O (.lp (α:=Nat) [3,9,10,12,51,52] O (fun i=>[(53,.int .i64 (i:Nat))]) (fun i W=>i<=(nwOf n o).refs.length/\Chg (fun k=>k=gb\/k=gr) w6 W/\FB eV 26 (fun k=>S k/\k≠gr) W gb (tabM (nwOf n o).B (nwOf n o).B (G i))/\FB eQ 39 (fun k=>S k/\k≠gb) W gr (tab (nwOf n o).B (Y i))) (fun i=>(nwOf n o).refs.length-i) 0 (lc1 O) ⟨Nat.zero_le _,Chg.refl _,by rw [<-hG];simpa using hF,by rw [<-hY];simpa using fr⟩ ?_)
 clear hF fr
 rintro i W ⟨hi,hC,hF,fr⟩
 have hCs:=hC.size
 refine .go O ?_
 rcases Nat.lt_or_ge i (nwOf n o).refs.length with hlt | hge
 rotate_left
 ·have:i=(nwOf n o).refs.length:=by omega
  subst this
  have hmem:∀ b,b<(nwOf n o).B->(b∈(nwOf n o).refs.take (nwOf n o).refs.length<->(nwOf n o).root b=b):=fun b hb=>by
   rw [List.take_of_length_le (Nat.le_refl _),Nw.mem_refs]
   exact ⟨fun h=>h.2,fun h=>⟨hb,h⟩⟩
  have hA:tabM (nwOf n o).B (nwOf n o).B (G (nwOf n o).refs.length)=(nwOf n o).gA:=B5 fun b c hb _=>by
   rw [<-hG]
   unfold Nw.gm
   dsimp only
   by_cases h:(nwOf n o).root b=b
   ·rw [if_pos h,if_pos ((hmem b hb).2 h)]
   ·rw [if_neg h,if_neg fun h'=>h ((hmem b hb).1 h')]
  rw [hA] at hF
  have hRm:eM.R S W (slB (nwOf n o).B gb) (nwOf n o).gA:=by
   have:=(hF.mono (S':=S) fun k _ h=>h.1).toR (hsz:=by decide) (c:=(nwOf n o).B) (up gb (by omega)) (by rw [I5];exact Nat.le_refl _) (by rw [I5];omega)
   rw [I5] at this
   exact this
  have hRr:eV.R S W (slB (nwOf n o).B gr) (tab (nwOf n o).B (Y (nwOf n o).refs.length)):=by
   have:=(fr.mono (S':=S) fun k _ h=>h.1).toR (hsz:=by decide) (c:=(nwOf n o).B) (up gr (by omega)) (by rw [A1];exact Nat.le_refl _) (by rw [A1];omega)
   rw [A1] at this
   exact this
  have hxW:Ext w W:=hC.below x6 (by omega) (fun k hk=>by omega)
  obtain ⟨hsv,hsol⟩:=an_sol ok (r:=tab (nwOf n o).B (Y (nwOf n o).refs.length)) (x:=x) (A1 ..) fun b hb=>by
   rw [S7,if_pos hb,<-hY]
   unfold Nw.inj0
   dsimp only
   by_cases h:(nwOf n o).root b=b
   ·rw [if_pos h,if_pos ((hmem b hb).2 h)]
   ·rw [if_neg h,if_neg fun h'=>h ((hmem b hb).1 h')]
  have hkY:vk (max 21 L) (tab (nwOf n o).B (Y (nwOf n o).refs.length)):=AF5 fun b _=>by
   rw [<-hY]
   dsimp only
   split
   ·exact Rsz.zero (by omega)
   ·exact (hkx.rsz hL1 b).mono (by omega)
  refine .lssF O O O (by omega) (.go O ?_)
  refine .call _ O Ag7 O (Af7 (L:=max 21 L) (n:=6) (up.ext hxW.size) hRm hRr ((BB6 ok).mono (by omega)) hkY (by omega) (by rw [I5];omega) (by rw [A1];omega) (by rw [AJ6 hB1];omega) (by rw [I5,A1];omega) (by rw [bd6];omega)) fun v7 w7 e7 h7=>?_
  obtain ⟨va,vz,ve,rfl,ha,_,rfl⟩:=h7
  rw [if_pos hsv] at ha
  rw [if_pos hsv]
  have k3W:=(hkW hC).ext e7
  have hka:vk 600000 (solX (nwOf n o).gA (tab (nwOf n o).B (Y (nwOf n o).refs.length))):=by
   have h1:solX (nwOf n o).gA (tab (nwOf n o).B (Y (nwOf n o).refs.length))=tab (nwOf n o).B (rv (solX (nwOf n o).gA (tab (nwOf n o).B (Y (nwOf n o).refs.length)))):=by
    unfold solX
    rw [AJ6 hB1]
    exact E0 fun k hk=>by rw [S7,if_pos hk]
   rw [h1,hsol]
   exact AF5 fun c _=>(BP8 ok hL1 (fun b=>hkx.rsz hL1 b) c).mono (by omega)
  refine .go O (.neqF O O O O (.go O (.fa I6 O O (.ld A8 O O k3W O ?_))))
  refine .call _ O T7 O (AO4 (up.ext (hxW.trans e7).size) (upo.ext (hxW.trans e7).size) ha hka (by decide) (by decide)) fun v8 w8 e8 h8=>.goE O ?_
  have h8:=BK8 (B:=(nwOf n o).B) h8 (upo.ext (hxW.trans e7).size) hB1 (by omega)
  rw [hsol] at h8
  exact .plain [_,_] Tryz.results57 ⟨rfl,rfl,trivial⟩ ⟨(hxW.trans e7).trans e8,_,_,rfl,h8,by rw [hno]⟩
 have hgr':(pInts (nwOf n o).refs)[i]?=some (((nwOf n o).refs.getD i 0:Nat):Int):=by rw [List.getElem?_map,A9 (z:=0) hlt];rfl
 have hrB:(nwOf n o).refs.getD i 0<(nwOf n o).B:=(Nw.mem_refs.1 (E5 hlt)).1
 have htk:(nwOf n o).refs.take (i+1)=(nwOf n o).refs.take i++[(nwOf n o).refs.getD i 0]:=by rw [List.take_add_one,A9 (z:=0) hlt];rfl
 refine .lssT O O O (by omega) (.go O (.ixN (i:=i) un_I B0 O O (hrW hC) O hgr' fun q hq=>.ldE (E:=eInt .i64) B0 O O hq fun e he=>?_))
 obtain ⟨rfl,_⟩:=he
 generalize hb0:(nwOf n o).refs.getD i 0=b at hrB htk
 refine .go O (.fa I6 O O (.ld A8 O O (hkW hC) O (.go O ?_)))
 refine .call _ O Ax8 O (Au6 (S:=fun k=>(S k/\k≠gr)/\k≠gb) fun k hk=>⟨⟨up k (by omega),by omega⟩,by omega⟩) fun v7 W1 e7 h7=>?_
 rw [show (min (((nwOf n o).B:Nat):Int) 65536).toNat=(nwOf n o).B by omega] at h7
 have hs7:=e7.size
 refine .go O (.ixB (i:=b) un_M ty_V O O O hrB (.storeF (E:=eV) (i:=b) (by decide) ty_V O O (hF.ext e7) O (by rw [A4];exact hrB) (Nat.zero_add _) h7 fun W2 f2 u2=>?_))
 have hs2':=u2.size
 have fr:=(fr.ext e7).upd u2 (by omega) fun h=>h.2 rfl
 refine .go O (.bld _ O O Ae1 (.ixB (i:=b) un_V ty_Q O O O hrB (.storeF (E:=eQ) (i:=b) (by decide) ty_Q O O fr O (by rw [A1];exact hrB) (Nat.zero_add _) (zq_R (S:=fun k=>(S k/\k≠gb)/\k≠gr)) fun W3 f3 u3=>?_)))
 have f2:=f2.upd u3 (by omega) fun h=>h.2 rfl
 rw [U3 hrB] at f2
 rw [<-Q9,X4] at f3
 have hm:∀ b',b'∈(nwOf n o).refs.take (i+1)<->b'∈(nwOf n o).refs.take i\/b'=b:=fun b'=>by rw [htk,List.mem_append,List.mem_singleton]
 have hs1:tabM (nwOf n o).B (nwOf n o).B (fun j k=>if j=b then uni (b:Nat) k else G i j k)=tabM (nwOf n o).B (nwOf n o).B (G (i+1)):=B5 fun j c _ _=>by
  rw [<-hG]
  dsimp only
  by_cases e:j=b
  ·rw [if_pos e,if_pos ((hm j).2 (.inr e)),e,uni_dl]
  ·rw [if_neg e]
   by_cases h:j∈(nwOf n o).refs.take i
   ·rw [if_pos h,if_pos ((hm j).2 (.inl h))]
   ·rw [if_neg h,if_neg fun h'=>((hm j).1 h').elim h e]
 have hs2:(tab (nwOf n o).B fun j=>if j=b then 0 else Y i j)=tab (nwOf n o).B (Y (i+1)):=E0 fun j _=>by
  rw [<-hY]
  dsimp only
  by_cases e:j=b
  ·rw [if_pos e,if_pos ((hm j).2 (.inr e))]
  ·rw [if_neg e]
   by_cases h:j∈(nwOf n o).refs.take i
   ·rw [if_pos h,if_pos ((hm j).2 (.inl h))]
   ·rw [if_neg h,if_neg fun h'=>((hm j).1 h').elim h e]
 rw [hs1] at f2
 rw [hs2] at f3
 exact .go O (.inc O O O (by omega) (.goN O (.mk (i+1) O (lc1 O) ⟨⟨hlt,((hC.trans (Chg.ext e7)).trans (Chg.upd u2 (.inl O))).trans (Chg.upd u3 (.inr O)),f2,f3⟩,by show (nwOf n o).refs.length-(i+1)<(nwOf n o).refs.length-i;omega⟩)))
theorem Ag4 {S:Nat->Prop} {w:World} {vn vo vx:Value} {n:NtV} {o:List Int} {x:List QV} {L:Nat} (up:Up S w) (hn:eN.R S w vn n) (ho:eI.R S w vo o) (hx:eV.R S w vx x) (hkx:vk L x) (hL1:1<=L) (hL:L<=9000) :
  CR Tryz.prog 57 #[vn,vo,vx] w (Two (eV.at S (if anE n o x=0 then tab (nwOf n o).B ((nwOf n o).an (rv x)) else [])) (Is (.int .i64 (anE n o x)))):=Ag3 up up hn ho hx hkx hL1 hL
theorem Am8:Ent Tryz.prog 19:=A0 Tryz.func19 (by kernel_rfl) rfl
theorem Al5 {S T0:Nat->Prop} {w:World} {vn vo vx:Value} {n:NtV} {o:List Int} {x:List QV} {L:Nat} (up:Up S w) (upo:Up T0 w) (hn:eN.R S w vn n) (ho:eI.R S w vo o) (hx:eV.R S w vx x) (hkx:vk L x) (hL1:1<=L) (hL:L<=9000) :
  CR Tryz.prog 19 #[vn,vo,vx] w (Two (eV.at T0 (if anE n o x=0 then tab n.ls.length ((nwOf n o).fl ((nwOf n o).an (rv x))) else [])) (Is (.int .i64 (anE n o x)))):=by
 obtain ⟨s,rfl,hs,hb⟩:=hn
 have hn:eN.R S w (.agg #[.int .i64 n.b,s]) n:=⟨s,rfl,hs,hb⟩
 refine enter Tryz.func19 O Tryz.ntmps19 O (.beg (.go O (.box O O fun w1 b3 n1=>?_)))
 obtain ⟨e1,k3,hb3,hs1⟩:=n1
 refine .go O (.ldA ty_N O O k3 O (.go O (.call _ O Ah0 O (Ag4 (up.ext e1.size) (hn.ext e1) (ho.ext e1) (ER.ext eV hx e1) hkx hL1 hL) fun v2 w2 e2 h2=>?_)))
 obtain ⟨va,ve,rfl,ha,rfl⟩:=h2
 have x2:=e1.trans e2
 refine .go O ?_
 by_cases hE:anE n o x=0
 rotate_left
 ·refine .neqT O O O hE (.goE O (.plain [_,_] Tryz.results19 ⟨rfl,rfl,trivial⟩ ⟨x2,_,_,rfl,?_,rfl⟩))
  rw [if_neg hE];exact RL.nil
 rw [if_pos hE] at ha ⊢
 obtain ⟨hS,_⟩:=Ax6 hE
 obtain ⟨hO,_⟩:=BK3 hS
 have ok:=I9 hO
 have hB6:=ok.b6
 have hnb:=ok.b
 have hka:vk 600000 (tab (nwOf n o).B ((nwOf n o).an (rv x))):=AF5 fun c _=>(BP8 ok hL1 (fun b=>hkx.rsz hL1 b) c).mono (by omega)
 refine .neqF O O O hE (.go O (.ldA ty_N O O (k3.ext e2) O (.go O (.call _ O AS3 O (AQ6 (up.ext x2.size) (upo.ext x2.size) (hn.ext x2) (ho.ext x2) ha hka (by decide) (by decide)) fun v3 w3 e3 h3=>?_))))
 obtain ⟨vf,ve,rfl,hf,rfl⟩:=h3
 have hsf:sfE n o (tab (nwOf n o).B ((nwOf n o).an (rv x))).length=0:=by unfold sfE;rw [if_neg (by simpa using hO),if_pos (by rw [A1];omega)]
 rw [if_pos hsf] at hf
 rw [hsf]
 have hfl:tab n.ls.length ((nwOf n o).fl (rv (tab (nwOf n o).B ((nwOf n o).an (rv x)))))=tab n.ls.length ((nwOf n o).fl ((nwOf n o).an (rv x))):=E0 fun k hk=>by
  unfold Nw.fl
  rw [S7,S7,if_pos (ok.f k hk),if_pos (ok.t k hk)]
 rw [hfl] at hf
 exact .goE O (.plain [_,_] Tryz.results19 ⟨rfl,rfl,trivial⟩ ⟨x2.trans e3,_,_,rfl,hf,by rw [hE]⟩)
end Go.Proofs.YtpgkacdihhjknaaGreat
namespace Go.Kx
open Go Go.RowKit
instance (n:Nw) (k:Nat):Decidable (n.brg k):=inferInstanceAs (Decidable (_≠_))
end Go.Kx
namespace Go.Proofs.YtpgkacdihhjknaaGreat
open Go Go.Kx Go.RowKit
section
variable {n:NtV} {o u:List Int}
theorem Ak5 (h:outsOk n o):o.Pairwise (·<·)/\∀ x∈o,0<=x/\x<n.ls.length:=by
 refine ⟨List.pairwise_iff_getElem.2 fun i j hi hj hij=>?_,fun x hx=>?_⟩
 ·have:=AB6 h (j-i) i (by omega)
  rw [show i+(j-i)=j by omega,List.getD_eq_getElem?_getD,List.getD_eq_getElem?_getD,List.getElem?_eq_getElem hi,List.getElem?_eq_getElem hj] at this
  simp only [Option.getD_some] at this
  omega
 ·obtain ⟨i,hi,rfl⟩:=List.mem_iff_getElem.1 hx
  have:=h i hi
  rw [List.getD_eq_getElem?_getD,List.getElem?_eq_getElem hi] at this
  exact ⟨this.1,this.2.1⟩
theorem BE3 (hp:u.Pairwise (·<·)) (hx:∀ x∈u,0<=x/\x<n.ls.length):outsOk n u:=fun i hi=>by
 have h1:=hx _ (List.getElem_mem hi)
 rw [List.getD_eq_getElem?_getD,List.getElem?_eq_getElem hi]
 refine ⟨h1.1,h1.2,fun h0=>?_⟩
 rw [List.getD_eq_getElem?_getD,List.getElem?_eq_getElem (by omega:i-1<u.length)]
 exact List.pairwise_iff_getElem.1 hp (i-1) i (by omega) hi (by omega)
theorem outE_pw (hO:outE n o=0) (hp:u.Pairwise (·<·)) (hx:∀ x∈u,0<=x/\x<n.ls.length):outE n u=0:=by
 obtain ⟨hc,_⟩:=X8 hO
 unfold outE
 rw [if_neg (by simpa using hc),if_pos (BE3 hp hx)]
theorem nw_cut {k:Nat} (hm:∀ j,j∈oN u<->j=k\/j∈oN o):nwOf n u=(nwOf n o).cut k:=by
 have:(fun j=>if j∈oN u then (0:Rat) else ((n.ls.getD j ln0).x:Rat)⁻¹)=fun j=>if j=k then 0 else if j∈oN o then (0:Rat) else ((n.ls.getD j ln0).x:Rat)⁻¹:=by
  funext j
  by_cases h:j=k
  ·rw [if_pos ((hm j).2 (.inl h)),if_pos h]
  ·rw [if_neg h]
   by_cases h2:j∈oN o
   ·rw [if_pos ((hm j).2 (.inr h2)),if_pos h2]
   ·rw [if_neg h2,if_neg fun h'=>((hm j).1 h').elim h h2]
 show Nw.mk _ _ _ _ _=Nw.mk _ _ _ _ _
 rw [this]
 rfl
theorem BM8 {k:Nat} (hO:outE n o=0) (hk:k<n.ls.length) (h:Ins o (k:Nat) u):outE n u=0/\nwOf n u=(nwOf n o).cut k:=by
 have hp:=Ak5 (X8 hO).2
 have hx:∀ x∈u,0<=x/\x<n.ls.length:=fun x hx=>by
  rcases (h.mem x).1 hx with rfl | h1
  ·omega
  ·exact hp.2 x h1
 refine ⟨outE_pw hO h.inc hx,nw_cut fun j=>?_⟩
 unfold oN
 rw [List.mem_map,List.mem_map]
 constructor
 ·rintro ⟨x,hxu,rfl⟩
  rcases (h.mem x).1 hxu with rfl | h1
  ·exact .inl (by simp)
  ·exact .inr ⟨x,h1,rfl⟩
 ·rintro (rfl | ⟨x,hxo,rfl⟩)
  ·exact ⟨_,(h.mem _).2 (.inl O),by simp⟩
  ·exact ⟨x,(h.mem x).2 (.inr hxo),rfl⟩
theorem g_in2 (ok:nwOk n o) {k:Nat} (hk:k<n.ls.length) (h:k∉oN o):(nwOf n o).g k≠0:=by
 have hx:=ok.x k hk
 show (if k∈oN o then (0:Rat) else ((n.ls.getD k ln0).x:Rat)⁻¹)≠0
 rw [if_neg h]
 intro h
 have h3:(((n.ls.getD k ln0).x:Int):Rat)≠0:=by
  intro h
  have:=Rat.intCast_inj.1 (h.trans Rat.intCast_zero.symm)
  omega
 have:=Rat.mul_inv_cancel _ h3
 rw [h,Rat.mul_zero] at this
 exact absurd this (by decide)
theorem Ai1 {k:Nat} (h:k∉oN o):((k:Nat):Int)∉o:=fun h'=>h (List.mem_map.2 ⟨_,h',by simp⟩)
theorem Aq0 (hO:outE n o=0):o.length<=n.ls.length:=by
 have h:=(X8 hO).2
 rcases Nat.eq_zero_or_pos o.length with h0 | h0
 ·omega
 ·have h1:=AB6 h (o.length-1) 0 (by omega)
  have h2:=h (o.length-1) (by omega)
  have h3:=h 0 h0
  rw [show 0+(o.length-1)=o.length-1 by omega] at h1
  omega
end
theorem BD2:Ent Tryz.prog 51:=A0 Tryz.func51 (by kernel_rfl) rfl
set_option maxRecDepth 8000 in
theorem BD3 {S:Nat->Prop} {w:World} {vn vo:Value} {n:NtV} {o:List Int} (up:Up S w) (hn:eN.R S w vn n) (ho:eI.R S w vo o) :
  CR Tryz.prog 51 #[vn,vo] w (Two (Is (.int .i64 (if outE n o=0 then ((nwOf n o).refs.length:Nat) else 0))) (Is (.int .i64 (outE n o)))):=by
 obtain ⟨s,rfl,hs,hb⟩:=hn
 have hn:eN.R S w (.agg #[.int .i64 n.b,s]) n:=⟨s,rfl,hs,hb⟩
 refine enter Tryz.func51 O Tryz.ntmps51 O (.beg (.go O (.box O O fun w1 b2 n1=>?_)))
 obtain ⟨e1,k2,hb2,hs1⟩:=n1
 refine .go O (.ldA ty_N O O k2 O (.go O (.call _ O AA7 O (AA1 (up.ext e1.size) (hn.ext e1) (ho.ext e1)) fun v2 w2 e2 h2=>?_)))
 obtain ⟨vr,ve,rfl,hr,he⟩:=h2
 subst he
 have x2:=e1.trans e2
 refine .go O ?_
 by_cases hO:outE n o=0
 rotate_left
 ·exact .neqT O O O hO (.goE O (.plain [_,_] Tryz.results51 ⟨rfl,rfl,trivial⟩ ⟨x2,_,_,rfl,by rw [if_neg hO],rfl⟩))
 rw [if_pos hO] at hr
 refine .neqF O O O hO (.go O (.lenR un_I O O hr ?_))
 rw [show (pInts (nwOf n o).refs).length=(nwOf n o).refs.length by simp]
 exact .goE O (.plain [_,_] Tryz.results51 ⟨rfl,rfl,trivial⟩ ⟨x2,_,_,rfl,by rw [if_pos hO],by rw [hO]⟩)
def brL (n:NtV) (o:List Int):List Nat:=(inL n o).filter fun k=>decide ((nwOf n o).brg k)
theorem BH8:Ent Tryz.prog 14:=A0 Tryz.func14 (by kernel_rfl) rfl
set_option maxRecDepth 8000 in
theorem BI1 {S:Nat->Prop} {w:World} {vn vo:Value} {n:NtV} {o:List Int} (up:Up S w) (hn:eN.R S w vn n) (ho:eI.R S w vo o) :
  CR Tryz.prog 14 #[vn,vo] w (Two (eI.at S (if outE n o=0 then pInts (brL n o) else [])) (Is (.int .i64 (outE n o)))):=by
 obtain ⟨s,rfl,hs,hb⟩:=hn
 have hn:eN.R S w (.agg #[.int .i64 n.b,s]) n:=⟨s,rfl,hs,hb⟩
 refine enter Tryz.func14 O Tryz.ntmps14 O (.beg (.go O (.box O O fun w1 b2 n1=>?_)))
 obtain ⟨e1,k2,hb2,hs1⟩:=n1
 replace k2:Blk w1 b2 24 #[.int .i64 n.b,s]:=k2
 refine .go O (.ldA ty_N O O k2 O (.go O ?_))
 refine .call _ O AC4 O (AB7 (up.ext e1.size) (hn.ext e1) (ho.ext e1)) fun v2 w2 e2 h2=>?_
 obtain ⟨vl,ve,rfl,hl,he⟩:=h2
 replace he:ve=.int .i64 (outE n o):=he
 subst he
 have x2:=e1.trans e2
 have k2:=k2.ext e2
 refine .go O ?_
 by_cases hO:outE n o=0
 rotate_left
 ·refine .neqT O O O hO (.goE O (.plain [_,_] Tryz.results14 ⟨rfl,rfl,trivial⟩ ⟨x2,_,_,rfl,?_,rfl⟩))
  rw [if_neg hO];exact RL.nil
 have ok:=I9 hO
 have hM10:n.ls.length<=10:=ok.m
 have hll:=Y4 n o
 have hpw:=Ak5 (X8 hO).2
 have hol:=Aq0 hO
 rw [if_pos hO] at hl ⊢
 refine .neqF O O O hO (.go O (.ldA ty_N O O k2 O (.go O ?_)))
 refine .call _ O BD2 O (BD3 (up.ext x2.size) (hn.ext x2) (ho.ext x2)) fun v3 w3 e3 h3=>?_
 obtain ⟨vc,ve,rfl,hc,he⟩:=h3
 replace he:ve=.int .i64 (outE n o):=he
 replace hc:vc=.int .i64 (if outE n o=0 then ((nwOf n o).refs.length:Nat) else 0):=hc
 rw [if_pos hO] at hc
 subst he hc
 have x3:=x2.trans e3
 have k2:=k2.ext e3
 have hl:=ER.ext eI hl e3
 have z3:=x3.size
 refine .go O (.neqF O O O hO (.go O (.lenR un_I O O hl (.goC O ?_))))
 rw [show (pInts (inL n o)).length=(inL n o).length by simp]
 generalize hP:(fun k=>decide ((nwOf n o).brg k))=P
 have hbr:brL n o=(inL n o).filter P:=by rw [<-hP];rfl
 rw [hbr]
 refine .lp (α:=Nat×Value) [1,2,8,33,34] O (fun y=>[(9,y.2),(35,.int .i64 (y.1:Nat))]) (fun y W=>Ext w3 W/\y.1<=(inL n o).length/\OwnL (eInt .i64) 3 w3.heap.size S W y.2 (pInts (((inL n o).take y.1).filter P))) (fun y=>(inL n o).length-y.1) (0,.slice none 0 0) (lc2 O O) ⟨Ext.refl _,Nat.zero_le _,OwnL.nil⟩ ?_
 rintro ⟨i,v⟩ W ⟨hW,hi,hown⟩
 replace hW:Ext w3 W:=hW
 replace hi:i<=(inL n o).length:=hi
 replace hown:OwnL (eInt .i64) 3 w3.heap.size S W v (pInts (((inL n o).take i).filter P)):=hown
 have hlW:=ER.ext eI hl hW
 have xW:=x3.trans hW
 have zW:=hW.size
 refine .go O ?_
 rcases Nat.lt_or_ge i (inL n o).length with hlt | hge
 rotate_left
 ·have:i=(inL n o).length:=by omega
  subst this
  rw [List.take_of_length_le (Nat.le_refl _)] at hown
  exact .lssF O O O (by omega) (.goE O (.plain [_,_] Tryz.results14 ⟨rfl,rfl,trivial⟩ ⟨xW,_,_,rfl,hown.toR (fun k hk=>up k (by omega)) (fun _ h=>h),by rw [hO]⟩))
 obtain ⟨hgk,hkM,hko⟩:=AJ2 hlt
 have htk:(inL n o).take (i+1)=(inL n o).take i++[(inL n o).getD i 0]:=by rw [List.take_add_one,A9 (z:=0) hlt];rfl
 have hfl:(((inL n o).take i).filter P).length<=10:=Nat.le_trans (List.length_filter_le ..) (by rw [List.length_take];omega)
 generalize (inL n o).getD i 0=k at hgk hkM hko htk
 have hgk0:=g_in2 ok hkM hko
 refine .lssT O O O (by omega) (.go O (.ixN (i:=i) un_I B0 O O hlW O hgk fun q hq=>.ldE (E:=eInt .i64) B0 O O hq fun e he=>.go O ?_))
 obtain ⟨rfl,_⟩:=he
 refine .bsl _ O O AU0 fun W1 b1 n1=>?_
 have hk1:eI.R S W1 (.slice (some ⟨b1,0,none⟩) 1 1) [((k:Nat):Int)]:=AN8 (E:=eInt .i64) (hsz:=by decide) [.int .i64 (k:Nat)] [((k:Nat):Int)] n1 (up.ext xW.size) O O (by decide) (Els.snoc Els.nil ⟨rfl,E9.2 (by omega)⟩)
 have d1:=n1.1
 have x1:=xW.trans d1
 refine .call _ O BD1 O (BC9 (up.ext x1.size) (ho.ext x1) hk1 hpw.1 (fun x hx=>(hpw.2 x hx).1) (by omega) (Ai1 hko) (by omega)) fun v5 W5 d5 h5=>?_
 obtain ⟨vu,ve,rfl,⟨u,hIns,hu⟩,rfl⟩:=h5
 obtain ⟨hOu,hcut⟩:=BM8 hO hkM hIns
 have x5:=x1.trans d5
 refine .go O (.neqF O O O O (.go O (.ldA ty_N O O (k2.ext ((hW.trans d1).trans d5)) O (.go O ?_))))
 refine .call _ O BD2 O (BD3 (up.ext x5.size) (hn.ext x5) hu) fun v6 W6 d6 h6=>?_
 obtain ⟨vc,ve,rfl,hc,he⟩:=h6
 replace he:ve=.int .i64 (outE n u):=he
 replace hc:vc=.int .i64 (if outE n u=0 then ((nwOf n u).refs.length:Nat) else 0):=hc
 rw [if_pos hOu,hcut] at hc
 rw [hOu] at he
 subst he hc
 have dd:=(d1.trans d5).trans d6
 have hWW:=hW.trans dd
 have hbc:=Nw.brg_cnt ok.ok hkM hgk0
 refine .go O (.neqF O O O O (.go O ?_))
 by_cases hB:(nwOf n o).brg k
 ·have hPk:P k=true:=by rw [<-hP];exact decide_eq_true hB
  have hbc:=hbc.1 hB
  refine .gtrT O O O (by omega) (.go O (.bsl _ O O AU0 fun W7 b7 n7=>?_))
  obtain ⟨d7,k7,hb7,hs7⟩:=n7
  have d17:=dd.trans d7
  have hW7:=hW.trans d17
  refine .gv O O (AA2 (E:=eInt .i64) (base:=w3.heap.size) (n:=((k:Nat):Int)) (e:=.int .i64 (k:Nat)) (by decide) un_I AH0 O O O (hown.ext d17) k7 ⟨rfl,E9.2 (by omega)⟩ (by simp;omega) (by decide) hW7.size) ?_
  rintro v8 W8 ⟨ho8,hg8⟩
  have hW8:Ext w3 W8:=OwnL.below (hown.ext d17) hg8 hW7 hW7.size
  refine .go O (.inc O O O (by omega) (.goN O (.mk (i+1,v8) O (lc2 O O) ⟨⟨hW8,hlt,?_⟩,by show (inL n o).length-(i+1)<(inL n o).length-i;omega⟩)))
  show OwnL (eInt .i64) 3 w3.heap.size S W8 v8 (pInts (((inL n o).take (i+1)).filter P))
  rw [htk,List.filter_append,List.filter_cons_of_pos hPk,List.filter_nil]
  unfold pInts
  rw [List.map_append]
  exact ho8
 ·have hPk:¬ P k=true:=by rw [<-hP];simpa using hB
  have hbc:¬ _:=fun h=>hB (hbc.2 h)
  refine .gtrF O O O (by omega) (.go O (.inc O O O (by omega) (.goN O (.mk (i+1,v) O (lc2 O O) ⟨⟨hWW,hlt,?_⟩,by show (inL n o).length-(i+1)<(inL n o).length-i;omega⟩))))
  show OwnL (eInt .i64) 3 w3.heap.size S W6 v (pInts (((inL n o).take (i+1)).filter P))
  rw [htk,List.filter_append,List.filter_cons_of_neg hPk,List.filter_nil,List.append_nil]
  exact hown.ext dd
noncomputable def lkE (n:NtV) (o:List Int) (line:Int):Int:=if outE n o≠0 then outE n o else if line∈pInts (inL n o) then (if (nwOf n o).brg line.toNat then 11 else 0) else 1
theorem Al1 {n:NtV} {o:List Int} {line:Int} (h:lkE n o line=0):outE n o=0/\∃ k:Nat,line=k/\k<n.ls.length/\(nwOf n o).g k≠0/\k∉oN o/\¬ (nwOf n o).brg k:=by
 unfold lkE at h
 split at h
 ·rename_i h1;exact absurd h h1
 rename_i h1
 have hO:=Classical.not_not.1 h1
 split at h
 ·rename_i h2
  split at h
  ·cases h
  ·rename_i h3
   obtain ⟨k,hk,rfl⟩:=List.mem_map.1 h2
   obtain ⟨a,b⟩:=BA3.1 hk
   exact ⟨hO,k,rfl,a,g_in2 (I9 hO) a b,b,h3⟩
 ·cases h
theorem AS0:Ent Tryz.prog 73:=A0 Tryz.func73 (by kernel_rfl) rfl
set_option maxRecDepth 8000 in
theorem AQ1 {S:Nat->Prop} {w:World} {vn vo:Value} {n:NtV} {o:List Int} {line:Int} (up:Up S w) (hn:eN.R S w vn n) (ho:eI.R S w vo o) :
  CR Tryz.prog 73 #[vn,vo,.int .i64 line] w (Is (.int .i64 (lkE n o line))):=by
 obtain ⟨s,rfl,hs,hb⟩:=hn
 have hn:eN.R S w (.agg #[.int .i64 n.b,s]) n:=⟨s,rfl,hs,hb⟩
 refine enter Tryz.func73 O Tryz.ntmps73 O (.beg (.go O (.box O O fun w1 b3 n1=>?_)))
 obtain ⟨e1,k3,hb3,hs1⟩:=n1
 refine .go O (.ldA ty_N O O k3 O (.go O (.call _ O AC4 O (AB7 (up.ext e1.size) (hn.ext e1) (ho.ext e1)) fun v2 w2 e2 h2=>?_)))
 obtain ⟨vl,ve,rfl,hl,he⟩:=h2
 replace he:ve=.int .i64 (outE n o):=he
 subst he
 have x2:=e1.trans e2
 have k3:=k3.ext e2
 refine .go O ?_
 by_cases hO:outE n o=0
 rotate_left
 ·have hlk:lkE n o line=outE n o:=by unfold lkE;rw [if_pos hO]
  exact .neqT O O O hO (.goE O (.plain [_] Tryz.results73 ⟨rfl,trivial⟩ ⟨x2,by rw [hlk];rfl⟩))
 have ok:=I9 hO
 have hM10:n.ls.length<=10:=ok.m
 have hll:=Y4 n o
 rw [if_pos hO] at hl
 refine .neqF O O O hO (.go O ?_)
 refine .call _ O Af3 O (Af4 hl (by simp;omega)) fun v3 w3 e3 h3=>?_
 subst h3
 have x3:=x2.trans e3
 by_cases hm:line∈pInts (inL n o)
 rotate_left
 ·rw [decide_eq_false hm]
  have hlk:lkE n o line=1:=by unfold lkE;rw [if_neg (by simpa using hO),if_neg hm]
  exact .goE O (.plain [_] Tryz.results73 ⟨rfl,trivial⟩ ⟨x3,by rw [hlk];rfl⟩)
 rw [decide_eq_true hm]
 refine .go O (.ldA ty_N O O (k3.ext e3) O (.go O (.call _ O BH8 O (BI1 (up.ext x3.size) (hn.ext x3) (ho.ext x3)) fun v4 w4 e4 h4=>?_)))
 obtain ⟨vb,ve,rfl,hbr,he⟩:=h4
 replace he:ve=.int .i64 (outE n o):=he
 subst he
 rw [if_pos hO] at hbr
 have x4:=x3.trans e4
 refine .go O (.neqF O O O hO (.go O ?_))
 refine .call _ O Af3 O (Af4 hbr (by simp;unfold brL;exact Nat.le_trans (List.length_filter_le ..) (by omega))) fun v5 w5 e5 h5=>?_
 subst h5
 have x5:=x4.trans e5
 have hiff:line∈pInts (brL n o)<->(nwOf n o).brg line.toNat:=by
  obtain ⟨k,hk,rfl⟩:=List.mem_map.1 hm
  have:(((k:Nat):Int)).toNat=k:=by simp
  rw [this]
  unfold pInts brL
  rw [List.mem_map]
  constructor
  ·rintro ⟨j,hj,e⟩
   have:j=k:=by omega
   subst this
   exact of_decide_eq_true (List.mem_filter.1 hj).2
  ·intro h
   exact ⟨k,List.mem_filter.2 ⟨hk,decide_eq_true h⟩,rfl⟩
 by_cases hB:(nwOf n o).brg line.toNat
 ·rw [decide_eq_true (hiff.2 hB)]
  have hlk:lkE n o line=11:=by unfold lkE;rw [if_neg (by simpa using hO),if_pos hm,if_pos hB]
  exact .goE O (.plain [_] Tryz.results73 ⟨rfl,trivial⟩ ⟨x5,by rw [hlk];rfl⟩)
 ·rw [decide_eq_false fun h=>hB (hiff.1 h)]
  have hlk:lkE n o line=0:=by unfold lkE;rw [if_neg (by simpa using hO),if_pos hm,if_neg hB]
  exact .goE O (.plain [_] Tryz.results73 ⟨rfl,trivial⟩ ⟨x5,by rw [hlk];rfl⟩)
theorem O9:Ent Tryz.prog 33:=A0 Tryz.func33 (by kernel_rfl) rfl
noncomputable def afE (n:NtV) (o:List Int) (line:Int) (x:List QV):Int:=if lkE n o line≠0 then lkE n o line else anE n o x
def afV (n:NtV) (o:List Int) (k:Nat) (x:List QV):List QV:=tab n.ls.length (((nwOf n o).cut k).fl (((nwOf n o).cut k).an (rv x)))
theorem BC7 {n:NtV} {o u:List Int} {x:List QV} {k:Nat} (hO:outE n o=0) (hOu:outE n u=0) (hcut:nwOf n u=(nwOf n o).cut k) (hb:¬ (nwOf n o).brg k):anE n u x=anE n o x:=by
 have hs:sfE n u x.length=sfE n o x.length:=by
  unfold sfE
  rw [hO,hOu]
 have hbal:(nwOf n u).bal (rv x)<->(nwOf n o).bal (rv x):=by rw [hcut];exact Nw.cut_bal (I9 hO).ok hb _
 unfold anE
 rw [hs]
 congr 1
 by_cases h2:(nwOf n o).bal (rv x)
 ·rw [if_pos (hbal.2 h2),if_pos h2]
 ·rw [if_neg (fun h'=>h2 (hbal.1 h')),if_neg h2]
set_option maxRecDepth 8000 in
theorem O3 {S T0:Nat->Prop} {w:World} {vn vo vx:Value} {n:NtV} {o:List Int} {x:List QV} {line:Int} {L:Nat} (up:Up S w) (upo:Up T0 w) (hn:eN.R S w vn n) (ho:eI.R S w vo o) (hx:eV.R S w vx x) (hkx:vk L x) (hL1:1<=L) (hL:L<=9000) :
  CR Tryz.prog 33 #[vn,vo,.int .i64 line,vx] w (Two (eV.at T0 (if afE n o line x=0 then afV n o line.toNat x else [])) (Is (.int .i64 (afE n o line x)))):=by
 obtain ⟨s,rfl,hs,hb⟩:=hn
 have hn:eN.R S w (.agg #[.int .i64 n.b,s]) n:=⟨s,rfl,hs,hb⟩
 refine enter Tryz.func33 O Tryz.ntmps33 O (.beg (.go O (.box O O fun w1 b4 n1=>?_)))
 obtain ⟨e1,k4,hb4,hs1⟩:=n1
 refine .go O (.ldA ty_N O O k4 O (.go O ?_))
 refine .call _ O AS0 O (AQ1 (up.ext e1.size) (hn.ext e1) (ho.ext e1)) fun v2 w2 e2 h2=>?_
 subst h2
 have x2:=e1.trans e2
 have k4:=k4.ext e2
 refine .go O ?_
 by_cases hK:lkE n o line=0
 rotate_left
 ·have haf:afE n o line x=lkE n o line:=by unfold afE;rw [if_pos hK]
  refine .neqT O O O hK (.goE O (.plain [_,_] Tryz.results33 ⟨rfl,rfl,trivial⟩ ⟨x2,_,_,rfl,?_,by rw [haf]⟩))
  rw [if_neg (by rw [haf];exact hK)];exact RL.nil
 have haf:afE n o line x=anE n o x:=by unfold afE;rw [if_neg (by simpa using hK)]
 obtain ⟨hO,k,rfl,hkM,hg,hko,hB⟩:=Al1 hK
 have ok:=I9 hO
 have hM10:n.ls.length<=10:=ok.m
 have hpw:=Ak5 (X8 hO).2
 have hol:=Aq0 hO
 rw [haf]
 refine .neqF O O O hK (.go O (.bsl _ O O AU0 fun W1 b1 n1=>?_))
 have hk1:eI.R S W1 (.slice (some ⟨b1,0,none⟩) 1 1) [((k:Nat):Int)]:=AN8 (E:=eInt .i64) (hsz:=by decide) [.int .i64 (k:Nat)] [((k:Nat):Int)] n1 (up.ext x2.size) O O (by decide) (Els.snoc Els.nil ⟨rfl,E9.2 (by omega)⟩)
 have d1:=n1.1
 have x1:=x2.trans d1
 refine .call _ O BD1 O (BC9 (up.ext x1.size) (ho.ext x1) hk1 hpw.1 (fun x hx=>(hpw.2 x hx).1) (by omega) (Ai1 hko) (by omega)) fun v5 W5 d5 h5=>?_
 obtain ⟨vu,ve,rfl,⟨u,hIns,hu⟩,rfl⟩:=h5
 obtain ⟨hOu,hcut⟩:=BM8 hO hkM hIns
 have x5:=x1.trans d5
 refine .go O (.neqF O O O O (.go O (.ldA ty_N O O (k4.ext (d1.trans d5)) O (.go O (.call _ O Am8 O (Al5 (up.ext x5.size) (upo.ext x5.size) (hn.ext x5) hu (ER.ext eV hx x5) hkx hL1 hL) fun v6 W6 d6 h6=>?_)))))
 obtain ⟨vf,ve,rfl,hf,he⟩:=h6
 subst he
 rw [BC7 hO hOu hcut hB,hcut] at hf
 rw [BC7 hO hOu hcut hB]
 exact .goE O (.plain [_,_] Tryz.results33 ⟨rfl,rfl,trivial⟩ ⟨x5.trans d6,_,_,rfl,hf,rfl⟩)
theorem BA5 {w:World} {va vb:Value} {a b:List QV} (ha:eV.R (fun _=>True) w va a) (hb:eV.R (fun _=>True) w vb b) (h:a=b):CR Tryz.prog 34 #[va,vb] w (Is (.bool true)):=by
 have:=Av3 ha hb
 rwa [P5 h] at this
theorem BP2 {x y z u x' y' z' u':Value}:bslOf Tryz.prog 26 2 [(0,.agg #[x,y,z,u]),(1,.agg #[x',y',z',u'])]=some (39,#[x,y,z,u,x',y',z',u']):=by kernel_rfl
theorem ob_V2 {w:World} {σ:Env} {d:Option Tmp} {ty:TypeId} {pos:String} {af:Array Edge} {g:Option (Nat×Bool)} {x y:Operand} {u v:Value} {a b:QV} (hu:eQ.R (fun _=>True) w u a) (hv:eQ.R (fun _=>True) w v b) (hx:ev σ x=some u:=by rfl) (hy:ev σ y=some v:=by rfl) :
  Gv Tryz.prog ⟨d,.buildSlice 26 2 #[(0,x),(1,y)],ty,pos,af,g⟩ σ w fun v' w'=>Ext w w'/\Sp.ok (.inr (eV.at (fun _=>True) [a,b])) v' w':=by
 have hu':=hu
 have hv':=hv
 obtain ⟨s,t,rfl,_,_⟩:=hu'
 obtain ⟨s',t',rfl,_,_⟩:=hv'
 refine (AL4 (ps:=[(0,x),(1,y)]) [(0,.agg #[.bool a.num.neg,s,.bool a.den.neg,t]),(1,.agg #[.bool b.num.neg,s',.bool b.den.neg,t'])] (by simp [evp,hx,hy]) BP2).mono fun v' w' ⟨b2,hv',n2⟩=>⟨n2.1,fun w'' e=>?_⟩
 have hz:eV.R (fun _=>True) w' (.slice (some ⟨b2,0,none⟩) 2 2) [a,b]:=by
  refine RL.ofBlk (l:=[a,b]) (es:=[.agg #[.bool a.num.neg,s,.bool a.den.neg,t],.agg #[.bool b.num.neg,s',.bool b.den.neg,t']]) n2.2.1 trivial (Els.snoc (Els.snoc Els.nil (ER.ext eQ hu n2.1)) (ER.ext eQ hv n2.1)) (fun j u hu=>?_) (Nat.le_refl _) (by simp)
  simpa [cellsOf,Value.cells] using hu
 rw [hv']
 exact ER.ext eV hz e
end Go.Proofs.YtpgkacdihhjknaaGreat
namespace Go.Kx
open Go Go.RowKit
theorem Nw.th_cand {n:Nw} (ok:n.Ok) (hB:1<=n.B) (cand:Nat->Nat->Rat) (h:∀ b,b<n.B->∀ i,i<n.B->(if n.root i=i then cand b i else n.lap (cand b) i)=dl i b) {b c:Nat} (hb:b<n.B) (hc:c<n.B):n.th b c=cand b c :=
 Nw.uniq ok (fun i hi=>by
  have h1:=Go.Proofs.YtpgkacdihhjknaaGreat.Ao3 ok hB hb hi
  have h2:=h b hb i hi
  split
  ·rw [if_pos (by assumption)] at h1 h2;rw [h1,h2]
  ·rw [if_neg (by assumption)] at h1 h2;rw [h1,h2]) c hc
theorem Nw.hf_cand {n:Nw} (ok:n.Ok) (hB:1<=n.B) (cand:Nat->Nat->Rat) (h:∀ b,b<n.B->∀ i,i<n.B->(if n.root i=i then cand b i else n.lap (cand b) i)=dl i b) {k b:Nat} (hk:k<n.M) (hb:b<n.B):n.hf k b=n.fl (cand b) k:=by
 unfold Nw.hf Nw.fl
 rw [Nw.th_cand ok hB cand h hb (ok.f k hk),Nw.th_cand ok hB cand h hb (ok.t k hk)]
def net3:NtV:=⟨3,[⟨0,1,10,100⟩,⟨1,2,5,50⟩,⟨0,2,10,70⟩]⟩
def cand3 (b c:Nat):Rat:=if b=0 then 1 else if c=0 then 0 else if b=c then 6 else 4
def outsB (m:Nat) (o:List Int):Bool:=(List.range o.length).all fun i=>decide (0<=o.getD i 0) && decide (o.getD i 0<m) && (decide (i=0) || decide (o.getD (i-1) 0<o.getD i 0))
theorem BL5 {n:NtV} {o:List Int} (h:outsB n.ls.length o=true):outsOk n o:=by
 unfold outsB at h
 rw [List.all_eq_true] at h
 intro i hi
 have:=h i (List.mem_range.2 hi)
 simp only [Bool.and_eq_true,Bool.or_eq_true,decide_eq_true_eq] at this
 exact ⟨this.1.1,this.1.2,fun h0=>by rcases this.2 with h | h;omega;exact h⟩
def chkB (n:NtV):Bool:=decide (1<=n.b) && decide (n.b<=6) && decide (n.ls.length<=10) && n.ls.all fun l=>(List.range 5).all fun i=>ck i n.b l
theorem AP9 {n:NtV} {o:List Int} (h:chkB n=true) (ho:outsB n.ls.length o=true):outE n o=0:=by
 unfold chkB at h
 simp only [Bool.and_eq_true,decide_eq_true_eq,List.all_eq_true] at h
 obtain ⟨⟨⟨h1,h2⟩,h3⟩,h4⟩:=h
 have hc:chkE n=0:=by
  unfold chkE
  rw [if_neg (by omega),if_neg (by omega),if_pos]
  exact fun i _ l hl j hj=>h4 l (List.mem_iff_getElem?.2 ⟨i,hl⟩) j (List.mem_range.2 hj)
 unfold outE
 rw [if_neg (by simpa using hc),if_pos (BL5 ho)]
end Go.Kx
namespace Go.Proofs.YtpgkacdihhjknaaGreat
open Go Go.Kx Go.RowKit
theorem AS4:zeroOf Tryz.prog 24=some (.agg #[.int .i64 0,.slice none 0 0]):=by kernel_rfl
theorem AE0 {a b c d:Int}:bldOf Tryz.prog 53 [(0,.int .i64 a),(1,.int .i64 b),(2,.int .i64 c),(3,.int .i64 d)]=some #[.int .i64 a,.int .i64 b,.int .i64 c,.int .i64 d]:=by kernel_rfl
theorem BC2 {a b c d a' b' c' d' a2 b2 c2 d2:Value}:bslOf Tryz.prog 22 3 [(0,.agg #[a,b,c,d]),(1,.agg #[a',b',c',d']),(2,.agg #[a2,b2,c2,d2])]=some (53,#[a,b,c,d,a',b',c',d',a2,b2,c2,d2]):=by kernel_rfl
theorem Ae2 {b:Int} {a:Option Addr} {n c:Nat}:bldOf Tryz.prog 24 [(0,.int .i64 b),(1,.slice a n c)]=some #[.int .i64 b,.slice a n c]:=by kernel_rfl
theorem ln_R {S:Nat->Prop} {w:World} {a b c d:Int} (h:∀ x∈[a,b,c,d],-9223372036854775808<=x/\x<=9223372036854775807):eL.R S w (.agg #[.int .i64 a,.int .i64 b,.int .i64 c,.int .i64 d]) ⟨a,b,c,d⟩:=⟨rfl,E9.2 (h a (by simp)),E9.2 (h b (by simp)),E9.2 (h c (by simp)),E9.2 (h d (by simp))⟩
theorem ok3:outE net3 []=0:=AP9 (by decide) (by decide)
theorem Ar6:∀ b,b<(nwOf net3 []).B->∀ i,i<(nwOf net3 []).B->(if (nwOf net3 []).root i=i then cand3 b i else (nwOf net3 []).lap (cand3 b) i)=dl i b:=by
 have:∀ b,b<3->∀ i,i<3->(if (nwOf net3 []).root i=i then cand3 b i else (nwOf net3 []).lap (cand3 b) i)=dl i b:=by decide +kernel
 exact this
theorem BP3 {a a' a2:Option Addr} {n c n' c' n2 c2:Nat}:bslOf Tryz.prog 70 3 [(0,.slice a n c),(1,.slice a' n' c'),(2,.slice a2 n2 c2)]=some (26,#[.slice a n c,.slice a' n' c',.slice a2 n2 c2]):=by kernel_rfl
theorem BO6 {n:NtV} {o:List Int} {a b:Int} (h:outE n o=0):(busB n a/\busB n b->conE n o a b=0)/\(¬ (busB n a/\busB n b)->conE n o a b=1):=by
 unfold conE
 rw [if_neg (by simpa using h)]
 exact ⟨fun h=>if_pos h,fun h=>if_neg h⟩
theorem btE_val {n:NtV} {o:List Int} {a b:Int} (h:outE n o=0):(busB n a/\busB n b->(nwOf n o).root a.toNat=(nwOf n o).root b.toNat->btE n o a b=0)/\(busB n a/\busB n b->(nwOf n o).root a.toNat≠(nwOf n o).root b.toNat->btE n o a b=8)/\(¬ (busB n a/\busB n b)->btE n o a b=1):=by
 obtain ⟨h1,h2⟩:=BO6 (a:=a) (b:=b) h
 refine ⟨fun hb hr=>?_,fun hb hr=>?_,fun hb=>?_⟩
 ·unfold btE conB
  rw [if_neg (by simpa using h1 hb),if_pos (decide_eq_true ⟨h1 hb,hr⟩)]
 ·unfold btE conB
  rw [if_neg (by simpa using h1 hb),if_neg (by rw [decide_eq_false fun h=>hr h.2];decide)]
 ·unfold btE
  rw [if_pos (by rw [h2 hb];decide),h2 hb]
end Go.Proofs.YtpgkacdihhjknaaGreat
namespace Go.Kx
open Go Go.RowKit
theorem eV_sep {S:Nat->Prop} {w:World} {v:Value} {l:List QV} {b:Nat} {t:TypeId} {cs:Array Value} (h:eV.R S w v l) (hb:Blk w b t cs) (hc:∀ (i:Nat) (n:Int),cs[i]?≠some (Value.int .u32 n)) (hc2:∀ (i:Nat) (x:Bool),cs[i]?≠some (Value.bool x)):eV.R (fun k=>S k/\k≠b) w v l:=by
 obtain ⟨es,he,a,c,hv,h1,h2,h3,h4⟩:=h
 refine ⟨es,⟨he.1,fun i e x hx hy=>AN7 (he.2 i e x hx hy) hb hc⟩,a,c,hv,h1,h2,h3,fun hn=>?_⟩
 obtain ⟨ad,ha,hS,hcl⟩:=h4 hn
 refine ⟨ad,ha,⟨hS,fun e=>?_⟩,hcl⟩
 obtain ⟨e0,he0⟩:∃ e,es[0]?=some e:=⟨_,List.getElem?_eq_getElem (by rw [he.1];exact hn)⟩
 obtain ⟨s1,t1,rfl,_,_⟩:=he.2 0 e0 _ he0 (List.getElem?_eq_getElem hn)
 have hg:=C8 (sz:=4) es 0 0 _ he.sz he0 (by omega)
 have hcell:=(hcl 0 _ hg).1
 obtain ⟨b0,o0,g0⟩:=ad
 have e:b0=b:=e
 subst e
 have h':w.heap[b0]?=some (.cells cs t (0,0)):=hb
 simp only [World.cell?,Addr.add,if_pos,h'] at hcell
 split at hcell
 ·cases hcell
 ·exact hc2 _ _ hcell
theorem Aq1:(∀ (i:Nat) (n:Int),(#[.slice none 0 0]:Array Value)[i]?≠some (Value.int .u32 n))/\∀ (i:Nat) (x:Bool),(#[.slice none 0 0]:Array Value)[i]?≠some (Value.bool x):=by
 constructor
 ·intro i n
  match i with
  | 0=>simp
  | i+1=>simp
 ·intro i n
  match i with
  | 0=>simp
  | i+1=>simp
end Go.Kx
namespace Go.Proofs.YtpgkacdihhjknaaGreat
open Go Go.Kx Go.RowKit
theorem E_lofac:Ent Tryz.prog 80:=A0 Tryz.func80 (by kernel_rfl) rfl
set_option maxRecDepth 8000 in
theorem lofac_t {S T0:Nat->Prop} {w:World} {vb q:Value} {M k l b1 b2 b3 L:Nat} {bt:Nat->Rat} {r:Rat} (up:Up S w) (upo:Up T0 w) (k1:Blk w b1 3 #[.int .i64 (k:Nat)]) (k2:Blk w b2 26 #[vb]) (hb:eV.R S w vb (tab M bt)) (k3:Blk w b3 39 q.cells) (hq:eQ.R S w q (qc r))
  (hr:r≠0) (hbz:∀ i,Rsz (bt i) L) (hrz:Rsz r L) (hL:1<=L) (hL2:L<=1000000000) (hl:l<M) :
  CR Tryz.prog 80 #[.int .i64 (l:Nat),.pointer (some ⟨b1,0,none⟩),.pointer (some ⟨b2,0,none⟩),.pointer (some ⟨b3,0,none⟩)] w (eQ.at T0 (qc (if l=k then -1 else bt l / r))):=by
 have hqv:=shpA (E:=eQ) O hq
 refine enter Tryz.func80 O Tryz.ntmps80 O (.beg (.go O (.alloc O C5 fun W1 b5 n1=>?_)))
 obtain ⟨e1,k5,hb5,hs1⟩:=n1
 refine .go O (.ld A8 O O (k1.ext e1) O ?_)
 by_cases hlk:l=k
 ·rw [if_pos hlk]
  refine .eqlT O O O (by omega) (.go O (.call _ O D7 O (D5 (n := -1) (S:=fun j=>T0 j/\j≠b5) (fun j hj=>⟨upo j (by omega),by omega⟩) (by decide) (by decide)) fun v2 W2 e2 h2=>(.storeA (E:=eQ) ty_Q O O (k5.ext e2) O O h2 (fun h=>h.2 O) fun W3 k5 u3 h3=>?_)))
  exact .goE O (.cell Tryz.results80 O ty_Q O O k5 h3 ⟨u3.below (e1.trans e2) (by omega),eQ.mono (fun _ _ h=>h.1) h3⟩)
 rw [if_neg hlk]
 have hbl:=F5 (g:=bt) hl
 have hbW:∀ {W:World},Ext w W->eV.R S W vb (tab M bt):=fun e=>ER.ext eV hb e
 have hqW:∀ {W:World},Ext w W->eQ.R S W q (qc r):=fun e=>ER.ext eQ hq e
 have upO:∀ {W:World},Ext W1 W->Up (fun j=>T0 j/\j≠b5) W:=fun e j hj=>⟨upo j (by have:=e.size;omega),by have:=e.size;omega⟩
 refine .eqlF O O O (by omega) (.goC O ?_)
 refine .parL follows 10 [8] [.inl vb,.inl _,.inr (Ptr eQ S (qc (bt l))),.inr (eQ.at S (qc (bt l))),.inl q,.inr (Two (eQ.at (fun j=>T0 j/\j≠b5) (qc (bt l / r))) (Is (.int .i64 0))),.inr (Two (eQ.at (fun j=>T0 j/\j≠b5) (qc (bt l / r))) (Is (.int .i64 0))),.inr (eQ.at (fun j=>T0 j/\j≠b5) (qc (bt l / r))),.inl (.int .i64 0),.inr (NewP W1.heap.size 39 zq.cells)] [[],[],[(13,0),(14,1)],[(15,2)],[],[(16,3),(17,4)],[(18,5)],[(12,6)],[(12,6)],[]] (by kernel_rfl) ⟨
  fun w e=>(v_ld ty_V O (k2.ext (e1.trans e)) O).ob,
  fun w e=>(v_mv O).ob,
  fun w e=>D2 (i:=l) un_V ty_Q O (hbW (e1.trans e)) O hbl,
  fun w e x2 hx2=>L8 ty_Q O hx2,
  fun w e=>((B9 ty_Q O (k3.ext (e1.trans e)) (eQ.csz hq)).eq hqv.symm).ob,
  fun w e x3 hx3=>(by have:=AD4 (L:=L) (up.ext (e1.trans e).size) (upO e) hx3 (hqW (e1.trans e)) (hbz l).toOk hrz.toOk hL (by omega) (by rw [B4];exact hr);rw [B4,B4] at this;exact (A2 _ AE7 O this).ob (G9 (A6 _ _ _) (L7 _))),
  fun w e x5 hx5=>G1 (v_mv O) hx5 (G9 (A6 _ _ _) (L7 _)),
  fun w e x6 hx6=>by
   obtain ⟨p1,q1,rfl,hp1,hq1⟩:=hx6
   exact G1 (v_ex O O) hp1 (A6 _ _ _),
  fun w e x6 hx6=>by
   obtain ⟨p1,q1,rfl,hp1,hq1⟩:=hx6
   exact ((v_ex O O).eq hq1).ob,
  fun w e=>S1 C5 e.size,trivial⟩ ?_
 rintro W2 e2 y2 hy2 y3 hy3 y5 hy5 y6 hy6 y7 hy7 _ ⟨b6,rfl,hb6,k6⟩
 have hy:=AN7 hy7 k6 T9
 refine .storeA (E:=eQ) ty_Q O O k6 O O hy (fun h=>h.2 O) fun W3 k6 u3 h3=>?_
 have hyv:=shpA (E:=eQ) O h3
 refine .go O (.ldA ty_Q O O k6 (eQ.csz h3) ?_)
 rw [<-hyv]
 have e3:Ext W1 W3:=u3.below e2 hb6
 have h3:eQ.R (fun j=>T0 j/\j≠b5) W3 y7 _:=eQ.mono (fun _ _ h=>h.1) h3
 refine .storeA (E:=eQ) ty_Q O O (k5.ext e3) O O h3 (fun h=>h.2 O) fun W4 k5 u4 h4=>?_
 exact .goE O (.cell Tryz.results80 O ty_Q O O k5 h4 ⟨u4.below (e1.trans e3) (by omega),eQ.mono (fun _ _ h=>h.1) h4⟩)
theorem F1:Ent Tryz.prog 38:=A0 Tryz.func38 (by kernel_rfl) rfl
def loV (n:NtV) (o:List Int) (k:Nat):List QV:=tab n.ls.length ((nwOf n o).lo k)
theorem Ax1 {n:NtV} {o:List Int} (ok:nwOk n o) (k l:Nat):Rsz ((nwOf n o).bt k l) 349529:=by
 have:=(Al3 ok l ((nwOf n o).F k)).add (Al3 ok l ((nwOf n o).T k)).neg
 rw [<-Rat.sub_eq_add_neg] at this
 exact this
theorem rst_rsz {n:NtV} {o:List Int} (ok:nwOk n o) (k:Nat):Rsz ((nwOf n o).rst k) 400000:=by
 have:=(rsz1 (L:=1) (Nat.le_refl _)).add (Ax1 ok k k).neg
 rw [<-Rat.sub_eq_add_neg] at this
 exact this.mono (by decide)
set_option maxRecDepth 8000 in
theorem E8 {S T0:Nat->Prop} {w:World} {vn vo:Value} {n:NtV} {o:List Int} {line:Int} (up:Up S w) (upo:Up T0 w) (hn:eN.R S w vn n) (ho:eI.R S w vo o) :
  CR Tryz.prog 38 #[vn,vo,.int .i64 line] w (Two (eV.at T0 (if lkE n o line=0 then loV n o line.toNat else [])) (Is (.int .i64 (lkE n o line)))):=by
 obtain ⟨s,rfl,hs,hb⟩:=hn
 have hn:eN.R S w (.agg #[.int .i64 n.b,s]) n:=⟨s,rfl,hs,hb⟩
 refine enter Tryz.func38 O Tryz.ntmps38 O (.beg (.go O (.box O O fun w1 b3 n1=>.box O O fun w1' b5 n1'=>?_)))
 obtain ⟨e1,k3,hb3,hs1⟩:=n1
 obtain ⟨e1',k5,hb5,hs1'⟩:=n1'
 have x1:=e1.trans e1'
 replace k3:Blk w1' b3 24 #[.int .i64 n.b,s]:=k3.ext e1'
 replace k5:Blk w1' b5 3 #[.int .i64 line]:=k5
 refine .go O (.ldA ty_N O O k3 O (.go O (.ld A8 O O k5 O ?_)))
 refine .call _ O AS0 O (AQ1 (up.ext x1.size) (hn.ext x1) (ho.ext x1)) fun v2 w2 e2 h2=>?_
 subst h2
 have x2:=x1.trans e2
 have k3:=k3.ext e2
 have k5:=k5.ext e2
 refine .go O ?_
 by_cases hK:lkE n o line=0
 rotate_left
 ·refine .neqT O O O hK (.goE O (.plain [_,_] Tryz.results38 ⟨rfl,rfl,trivial⟩ ⟨x2,_,_,rfl,?_,rfl⟩))
  rw [if_neg hK];exact RL.nil
 obtain ⟨hO,k,rfl,hkM,hg,hko,hB⟩:=Al1 hK
 have ok:=I9 hO
 have hM10:n.ls.length<=10:=ok.m
 have hnb:=ok.b
 have z2:=x2.size
 have hgl:n.ls[k]?=some (n.ls.getD k ln0):=A9 hkM
 have hFI:=ok.fI k hkM
 have hTI:=ok.tI k hkM
 have hFB:=ok.f k hkM
 have hTB:=ok.t k hkM
 have hF0:lnI (n.ls.getD k ln0) 0=(((nwOf n o).F k:Nat):Int):=hFI
 have hT0:lnI (n.ls.getD k ln0) 1=(((nwOf n o).T k:Nat):Int):=hTI
 have hroot:=Nw.root_line (n:=nwOf n o) hkM hg
 have hrst:=Nw.rst_ne ok.ok hkM hg hB
 have hbt:btE n o ((nwOf n o).F k:Nat) ((nwOf n o).T k:Nat)=0:=by
  refine (btE_val hO).1 ⟨⟨by omega,by omega⟩,⟨by omega,by omega⟩⟩ ?_
  simpa using hroot
 have hbV:btV n o ((nwOf n o).F k) ((nwOf n o).T k)=tab n.ls.length ((nwOf n o).bt k):=rfl
 have hsW:∀ {W:World},Ext w2 W->eLs.R S W s n.ls:=fun e=>ER.ext eLs hs (x2.trans e)
 have hBet:∀ {W:World},Ext w2 W->CR Tryz.prog 79 #[.agg #[.int .i64 n.b,s],vo,.int .i64 ((nwOf n o).F k:Nat),.int .i64 ((nwOf n o).T k:Nat)] W (Two (eV.at S (tab n.ls.length ((nwOf n o).bt k))) (Is (.int .i64 0))):=fun e=>by
  have:=AY1 (a:=((nwOf n o).F k:Nat)) (b:=((nwOf n o).T k:Nat)) (up.ext (x2.trans e).size) (hn.ext (x2.trans e)) (ho.ext (x2.trans e))
  rw [hbt,if_pos rfl] at this
  exact this
 refine .neqF O O O hK (.goC O ?_)
 refine .parL follows 19 [17] [.inl (.agg #[.int .i64 n.b,s]),.inl _,.inl _,.inl s,.inl (.int .i64 (k:Nat)),.inr (Ptr eL S (n.ls.getD k ln0)),.inr (Ptr (eInt .i64) S ((nwOf n o).F k:Nat)),.inl (.int .i64 ((nwOf n o).F k:Nat)),.inl _,.inl s,.inl (.int .i64 (k:Nat)),.inr (Ptr eL S (n.ls.getD k ln0)),.inr (Ptr (eInt .i64) S ((nwOf n o).T k:Nat)),.inl (.int .i64 ((nwOf n o).T k:Nat)),.inr (Two (eV.at S (tab n.ls.length ((nwOf n o).bt k))) (Is (.int .i64 0))),.inr (Two (eV.at S (tab n.ls.length ((nwOf n o).bt k))) (Is (.int .i64 0))),.inr (eV.at S (tab n.ls.length ((nwOf n o).bt k))),.inl (.int .i64 0),.inr (NewP w2.heap.size 26 #[.slice none 0 0])] [[],[],[],[(25,2)],[],[(26,3),(27,4)],[(28,5)],[(29,6)],[],[(31,8)],[],[(32,9),(33,10)],[(34,11)],[(35,12)],[(23,0),(24,1),(30,7),(36,13)],[(37,14)],[(22,15)],[(22,15)],[]] (by kernel_rfl) ⟨
  fun w e=>(B9 ty_N O (k3.ext e) O).ob,
  fun w e=>(v_mv O).ob,
  fun w e=>(v_fa K9 O).ob,
  fun w e=>(v_ld R7 O (k3.ext e) O).ob,
  fun w e=>(v_ld A8 O (k5.ext e) O).ob,
  fun w e=>D2 (i:=k) M4 P0 O (hsW e) O hgl,
  fun w e x5 hx5=>(by rw [<-hF0];exact Ak6 J6 O hx5 (by decide)),
  fun w e x6 hx6=>Z8 A8 O hx6,
  fun w e=>(v_fa K9 O).ob,
  fun w e=>(v_ld R7 O (k3.ext e) O).ob,
  fun w e=>(v_ld A8 O (k5.ext e) O).ob,
  fun w e=>D2 (i:=k) M4 P0 O (hsW e) O hgl,
  fun w e x11 hx11=>(by rw [<-hT0];exact Ak6 J5 O hx11 (by decide)),
  fun w e x12 hx12=>Z8 A8 O hx12,
  fun w e=>(A2 _ AY8 O (hBet e)).ob (G9 (A6 _ _ _) (L7 _)),
  fun w e x14 hx14=>G1 (v_mv O) hx14 (G9 (A6 _ _ _) (L7 _)),
  fun w e x15 hx15=>by
   obtain ⟨p1,q1,rfl,hp1,hq1⟩:=hx15
   exact G1 (v_ex O O) hp1 (A6 _ _ _),
  fun w e x15 hx15=>by
   obtain ⟨p1,q1,rfl,hp1,hq1⟩:=hx15
   exact ((v_ex O O).eq hq1).ob,
  fun w e=>S1 Aj5 e.size,trivial⟩ ?_
 rintro W4 d4 y5 hy5 y6 hy6 y11 hy11 y12 hy12 y14 hy14 y15 hy15 vb hvb _ ⟨b9,rfl,hb9,k9⟩
 have hvb:=eV_sep hvb k9 Aq1.1 Aq1.2
 obtain ⟨ab,cb,hvbs,_⟩:=RL.len hvb
 have hz4:=d4.size
 refine .store ty_V O O k9 (by rw [hvbs];rfl) (by simp [Value.cells]) (by rw [hvbs];simp [one1,Value.cells]) fun W5 k9 u5=>?_
 replace k9:Blk W5 b9 26 #[vb]:=by rw [hvbs] at k9 ⊢;exact k9
 have hvb:=eV.keep (Kp.upd u5 fun h=>h.2 O) hvb
 have d5:Ext w2 W5:=u5.below d4 hb9
 have x5:=x2.trans d5
 have k3:=k3.ext d5
 have k5:=k5.ext d5
 have hvb:eV.R S W5 vb (tab n.ls.length ((nwOf n o).bt k)):=eV.mono (fun _ _ h=>h.1) hvb
 have hbk:=F5 (g:=(nwOf n o).bt k) hkM
 have upT:∀ {W:World},Ext W5 W->Up S W:=fun e=>up.ext (x5.trans e).size
 refine .go O (.neqF O O O O (.goC O ?_))
 refine .par follows 7 [.inr (eQ.at S (qc ((1:Int):Rat))),.inl vb,.inl (.int .i64 (k:Nat)),.inr (Ptr eQ S (qc ((nwOf n o).bt k k))),.inr (eQ.at S (qc ((nwOf n o).bt k k))),.inr (eQ.at S (qc ((nwOf n o).rst k))),.inr (NewP W5.heap.size 39 zq.cells)] [[],[],[],[(44,1),(45,2)],[(46,3)],[(43,0),(47,4)],[]] (by kernel_rfl) ⟨
  fun w e=>(A2 _ D7 O (D5 (upT e) (by decide) (by decide))).ob (A6 _ _ _),
  fun w e=>(v_ld ty_V O (k9.ext e) O).ob,
  fun w e=>(v_ld A8 O (k5.ext e) O).ob,
  fun w e=>D2 (i:=k) un_V ty_Q O (ER.ext eV hvb e) O hbk,
  fun w e x3 hx3=>L8 ty_Q O hx3,
  fun w e x0 hx0 x4 hx4=>(by have:=U5 (L:=349529) (upT e) hx0 hx4 ((rsz1 (L:=1) (Nat.le_refl _)).mono (by decide)).toOk (Ax1 ok k k).toOk (by decide) (by decide);rw [B4,B4,show (((1:Int):Rat)-(nwOf n o).bt k k)=(nwOf n o).rst k from rfl] at this;exact (A2 _ Q4 O this).ob (A6 _ _ _)),
  fun w e=>S1 C5 e.size,trivial⟩ ?_
 rintro W6 d6 y0 hy0 y3 hy3 y4 hy4 y5 hy5 _ ⟨b11,rfl,hb11,k11⟩
 have hy:=AN7 hy5 k11 T9
 refine .storeA (E:=eQ) ty_Q O O k11 O O hy (fun h=>h.2 O) fun W7 k11 u7 h7=>?_
 have h7:eQ.R S W7 y5 (qc ((nwOf n o).rst k)):=eQ.mono (fun _ _ h=>h.1) h7
 have d7:Ext W5 W7:=u7.below d6 hb11
 have x7:=x5.trans d7
 have k3:=k3.ext d7
 have k5:=k5.ext d7
 have k9:=k9.ext d7
 have hvb:=ER.ext eV hvb d7
 have z7:=x7.size
 refine .go O (.mkf [] [_,_,_] O O O O (.go O (.fa K9 O O (.ld R7 O O k3 O (.lenR M4 O O (ER.ext eLs hs x7) ?_)))))
 refine .make_ _ _ un_V K7 O (by decide) O O O (Nat.le_refl _) (by omega) (by omega) fun W8 h n8=>?_
 have f8:FB eQ 39 T0 W8 h (List.replicate n.ls.length q0):=FB.made n8 zq_R
 obtain ⟨d8,_,hh,hs8⟩:=n8
 generalize hG:(fun l=>qc ((nwOf n o).lo k l))=G
 refine .go O (.len un_V O O (.goC O ?_))
 refine .lp (α:=Nat) [12,13,55] O (fun i=>[(56,.int .i64 (i:Nat))]) (fun i W=>Ext W7 W/\i<=n.ls.length/\FB eQ 39 T0 W h (fil n.ls.length i G q0)) (fun i=>n.ls.length-i) 0 (lc1 O) ⟨d8,Nat.zero_le _,by rw [L0];exact f8⟩ ?_
 rintro i W ⟨hW,hi,fb⟩
 have hWs:=hW.size
 have hhl:=fb.lt
 refine .go O ?_
 rcases Nat.lt_or_ge i n.ls.length with hlt | hge
 rotate_left
 ·have:i=n.ls.length:=by omega
  subst this
  rw [Y6] at fb
  refine .lssF O O O (by omega) (.goE O (.plain [_,_] Tryz.results38 ⟨rfl,rfl,trivial⟩ ⟨x7.trans hW,_,_,rfl,?_,by rw [hK]⟩))
  rw [if_pos hK]
  have:=fb.toR (hsz:=by decide) (c:=n.ls.length) (upo h (by omega)) (by simp) (by simp;omega)
  rw [List.length_map,List.length_range,<-hG] at this
  exact this
 have hGi:G i=qc (if i=k then -1 else (nwOf n o).bt k i / (nwOf n o).rst k):=by rw [<-hG];rfl
 refine .lssT O O O (by omega) (.go O ?_)
 refine .callv [.int .i64 (i:Nat)] O O E_lofac O (lofac_t (S:=S) (T0:=fun j=>T0 j/\j≠h) (L:=400000) (up.ext (x7.trans hW).size) (fun j hj=>⟨upo j (by omega),by omega⟩) (k5.ext hW) (k9.ext hW) (ER.ext eV hvb hW) (k11.ext hW) (ER.ext eQ h7 hW) hrst (fun i=>(Ax1 ok k i).mono (by decide)) (rst_rsz ok k) (by decide) (by decide) hlt) fun vq W9 d9 hq=>?_
 have hq:eQ.R (fun j=>T0 j/\j≠h) W9 vq (G i):=by rw [hGi];exact hq
 refine .ixB (i:=i) un_V ty_Q O O O hlt (.storeF (E:=eQ) (i:=i) (by decide) ty_Q O O (fb.ext d9) O (by rw [I1];exact hlt) (Nat.zero_add _) hq fun W10 f10 u10=>?_)
 rw [O7] at f10
 exact .go O (.inc O O O (by omega) (.goN O (.mk (i+1) O (lc1 O) ⟨⟨u10.below (hW.trans d9) (by omega),hlt,f10⟩,by show n.ls.length-(i+1)<n.ls.length-i;omega⟩)))
def balB (n:Nw) (x:Nat->Rat):Bool:=(List.range n.B).all fun r => !decide (n.root r=r) || decide (sumN n.B (fun b=>if n.root b=r then x b else 0)=0)
theorem Ae4 {n:Nw} {x:Nat->Rat}:balB n x=true<->n.bal x:=by
 unfold balB Nw.bal
 rw [List.all_eq_true]
 simp only [List.mem_range,Bool.or_eq_true,Bool.not_eq_true',decide_eq_false_iff_not,decide_eq_true_eq]
 exact ⟨fun h r hr hrr=>(h r hr).resolve_left fun h'=>h' hrr,fun h r hr=>by
  by_cases hrr:n.root r=r
  ·exact .inr (h r hr hrr)
  ·exact .inl hrr⟩
theorem Ax7 {n:Nw} (ok:n.Ok) {x cand:Nat->Rat} (h:∀ i,i<n.B->(if n.root i=i then cand i else n.lap cand i)=n.inj0 x i) {c:Nat} (hc:c<n.B):n.an x c=cand c :=
 Nw.uniq ok (fun i hi=>by
  have h1:=n.an_eq ok x hi
  have h2:=h i hi
  split
  ·rw [if_pos (by assumption)] at h1 h2;rw [h1,h2]
  ·rw [if_neg (by assumption)] at h1 h2;rw [h1,h2]) c hc
def inj3:Nat->Rat:=fun b=>((([6,0,-6]:List Int).getD b 0:Int):Rat)
def an3:Nat->Rat:=fun b=>((([0,-24,-36]:List Int).getD b 0:Int):Rat)
theorem Ak0 {l:List Int} {b:Nat}:rv (intsV l) b=if b<l.length then ((l.getD b 0:Int):Rat) else 0:=S7 ..
theorem BQ0:anE net3 [] (intsV [6,0,-6])=0:=by
 refine BP9 ok3 (by decide) ((Nw.bal_congr (y:=inj3) fun b hb=>?_).2 (Ae4.1 (by decide +kernel)))
 rw [Ak0,if_pos (show b<([6,0,-6]:List Int).length from hb)];rfl
theorem BC8:∀ c,c<3->(nwOf net3 []).an (rv (intsV [6,0,-6])) c=an3 c:=fun c hc=>by
 have ok:=I9 ok3
 refine Ax7 ok.ok (fun i hi=>?_) hc
 have h1:∀ i,i<3->(if (nwOf net3 []).root i=i then an3 i else (nwOf net3 []).lap an3 i)=(nwOf net3 []).inj0 inj3 i:=by decide +kernel
 rw [h1 i hi]
 unfold Nw.inj0
 rw [Ak0,if_pos (show i<([6,0,-6]:List Int).length from hi)];rfl
theorem ob_L3 {w:World} {σ:Env} {d:Option Tmp} {ty:TypeId} {pos:String} {af:Array Edge} {g:Option (Nat×Bool)} {m n k:Int} (h:∀ x∈[m,n,k],-9223372036854775808<=x/\x<=9223372036854775807) :
  Gv Tryz.prog ⟨d,.buildSlice 117 3 #[(0,.const (.int .i64 m)),(1,.const (.int .i64 n)),(2,.const (.int .i64 k))],ty,pos,af,g⟩ σ w fun v' w'=>Ext w w'/\Sp.ok (.inr (eI.at (fun _=>True) [m,n,k])) v' w' :=
 (AL4 (ps:=[(0,.const (.int .i64 m)),(1,.const (.int .i64 n)),(2,.const (.int .i64 k))]) _ O AT9).mono fun v' w' ⟨b2,hv',n2⟩=>⟨n2.1,fun w'' e=>by
  rw [hv']
  exact ER.ext eI (L9 [m,n,k] 3 n2 upT O O h (by omega)) e⟩
theorem AZ1 (l:List Int) (h:∀ n∈l,-9223372036854775808<=n/\n<=9223372036854775807):vk 2 (intsV l):=BI5 h
end Go.Proofs.YtpgkacdihhjknaaGreat
namespace Go.Kx
open Go Go.RowKit
end Go.Kx
namespace Go.Proofs.YtpgkacdihhjknaaGreat
open Go Go.Kx Go.RowKit
def netE:NtV:=⟨0,[]⟩
theorem Ab5:outE net3 [2]=0:=AP9 (by decide) (by decide)
theorem sfE_ok0 {n:NtV} {o:List Int} {l:Nat} (h:outE n o=0) (hl:(l:Int)<=n.b):sfE n o l=0:=by unfold sfE;rw [if_neg (by simpa using h),if_pos hl]
theorem BK4 {n:NtV} {o:List Int} {l:Nat} (h:outE n o=0) (hl:¬ (l:Int)<=n.b):sfE n o l=5:=by unfold sfE;rw [if_neg (by simpa using h),if_neg hl]
theorem anE_sf {n:NtV} {o:List Int} {x:List QV} {e:Int} (h:sfE n o x.length=e) (he:e≠0):anE n o x=e:=by unfold anE;rw [if_pos (by rw [h];exact he),h]
def ij (l:List Int):Nat->Rat:=fun b=>if b<l.length then ((l.getD b 0:Int):Rat) else 0
theorem rv_ij (l:List Int):rv (intsV l)=ij l:=funext fun _=>Ak0
theorem anE_no {n:NtV} {o l:List Int} (h:outE n o=0) (hl:(l.length:Int)<=n.b) (hb:balB (nwOf n o) (ij l)=false):anE n o (intsV l)=10:=by
 have h1:sfE n o (intsV l).length=0:=sfE_ok0 h (by rw [Al2];exact hl)
 unfold anE
 rw [if_neg (by simpa using h1),if_neg]
 rw [rv_ij]
 intro h'
 have:=Ae4.2 h'
 rw [hb] at this
 cases this
theorem outE_E (o:List Int):outE netE o=1:=by
 have hc:chkE netE=1:=by unfold chkE;rw [if_pos (.inl (by decide))]
 rw [Ab4 (by rw [hc];decide),hc]
theorem AA6:Ent Tryz.prog 41:=A0 Tryz.func41 (by kernel_rfl) rfl
theorem AL3 {w:World}:CR Tryz.prog 41 #[] w (eN.at (fun _=>True) net3):=by
 refine enter Tryz.func41 O Tryz.ntmps41 O (.sr (.alloc O AS4 fun w1 b0 n1=>.nil (.sr (.bld _ O O AE0 (.bld _ O O AE0 (.bld _ O O AE0 (.bsl _ O O BC2 fun w2 b4 n2=>.bld _ O O Ae2 ?_)))))))
 obtain ⟨e1,k0,hb0,hs1⟩:=n1
 have hl:eLs.R (fun k=>k≠b0) w2 (.slice (some ⟨b4,0,none⟩) 3 3) net3.ls:=AN8 (E:=eL) [_,_,_] net3.ls n2 (fun k hk=>by omega) O O (by decide) (Els.snoc (Els.snoc (Els.snoc Els.nil (ln_R (by decide))) (ln_R (by decide))) (ln_R (by decide)))
 have hn:eN.R (fun k=>k≠b0) w2 (.agg #[.int .i64 3,.slice (some ⟨b4,0,none⟩) 3 3]) net3:=⟨_,rfl,hl,E9.2 (by decide)⟩
 refine .storeA (E:=eN) ty_N O O (k0.ext n2.1) O O hn (fun h=>h O) fun w3 k3 u3 h3=>.nil (.ret ?_)
 exact .cell (E:=eN) Tryz.results41 O ty_N O O k3 h3 ⟨u3.below (e1.trans n2.1) (by omega),eN.mono (fun _ _ _=>trivial) h3⟩
theorem H9:Ent Tryz.prog 42:=A0 Tryz.func42 (by kernel_rfl) rfl
theorem H7 {w:World} {vl:Value} {l:List Int} (hl:eI.R (fun _=>True) w vl l) (hn:l.length<=1000):CR Tryz.prog 42 #[vl] w (eV.at (fun _=>True) (intsV l)):=by
 refine enter Tryz.func42 O Tryz.ntmps42 O (.beg (.go O (.call _ O Am4 O (Ak2 upT hl (by omega)) fun v1 w1 e1 h1=>.goE O ?_)))
 exact .plain [_] Tryz.results42 ⟨rfl,trivial⟩ ⟨e1,h1⟩
theorem Z2:Ent Tryz.prog 44:=A0 Tryz.func44 (by kernel_rfl) rfl
set_option maxRecDepth 8000 in
theorem X9 {w:World} {vn vo vl:Value} {n:NtV} {o:List Int} {line:Int} {l:List Int} (hn:eN.R (fun _=>True) w vn n) (ho:eI.R (fun _=>True) w vo o) (hl:eI.R (fun _=>True) w vl l) (hll:l.length<=1000) (hK:lkE n o line=0) (hV:loV n o line.toNat=intsV l) :
  CR Tryz.prog 44 #[vn,vo,.int .i64 line,vl] w (Is (.bool true)):=by
 obtain ⟨s,rfl,hs,hb⟩:=hn
 have hn:eN.R (fun _=>True) w (.agg #[.int .i64 n.b,s]) n:=⟨s,rfl,hs,hb⟩
 refine enter Tryz.func44 O Tryz.ntmps44 O (.beg (.go O (.box O O fun w1 b4 n1=>?_)))
 obtain ⟨e1,k4,hb4,hs1⟩:=n1
 refine .go O (.ldA ty_N O O k4 O (.go O (.call _ O F1 O (E8 (T0:=fun _=>True) upT upT (hn.ext e1) (ho.ext e1)) fun v2 w2 e2 h2=>?_)))
 obtain ⟨vf,ve,rfl,hf,he⟩:=h2
 rw [hK] at he
 subst he
 rw [if_pos hK,hV] at hf
 have x2:=e1.trans e2
 refine .go O (.eqlT O O O O (.go O (.call _ O H9 O (H7 (hl.ext x2) hll) fun v3 w3 e3 h3=>.go O (.call _ O AE3 O (BA5 (ER.ext eV hf e3) h3 O) fun v4 w4 e4 h4=>?_))))
 subst h4
 exact .goE O (.plain [_] Tryz.results44 ⟨rfl,trivial⟩ ⟨(x2.trans e3).trans e4,rfl⟩)
theorem Aq3:lkE net3 [] 0=0:=by unfold lkE;rw [if_neg (by simpa using ok3),if_pos (by decide),if_neg (by decide +kernel)]
theorem lk3_20:lkE net3 [2] 0=11:=by unfold lkE;rw [if_neg (by simpa using Ab5),if_pos (by decide),if_pos (by decide +kernel)]
theorem lk3_22:lkE net3 [2] 2=1:=by unfold lkE;rw [if_neg (by simpa using Ab5),if_neg (by decide)]
theorem lo3 {k:Nat} (hk:k<3):(nwOf net3 []).lo 0 k=((([-1,-1,1]:List Int).getD k 0:Int):Rat):=by
 have ok:=I9 ok3
 have hh:∀ k b,k<3->b<3->(nwOf net3 []).hf k b=(nwOf net3 []).fl (cand3 b) k:=fun k b hk hb=>Nw.hf_cand ok.ok ok.b1 cand3 Ar6 hk hb
 have h2:∀ k,k<3->(if k=0 then (-1:Rat) else ((nwOf net3 []).fl (cand3 0) k-(nwOf net3 []).fl (cand3 1) k) / (1-((nwOf net3 []).fl (cand3 0) 0-(nwOf net3 []).fl (cand3 1) 0)))=((([-1,-1,1]:List Int).getD k 0:Int):Rat):=by decide +kernel
 rw [<-h2 k hk]
 unfold Nw.lo Nw.rst Nw.bt
 rw [show (nwOf net3 []).F 0=0 from rfl,show (nwOf net3 []).T 0=1 from rfl,hh k 0 hk (by decide),hh k 1 hk (by decide),hh 0 0 (by decide) (by decide),hh 0 1 (by decide) (by decide)]
theorem loV3:loV net3 [] (0:Int).toNat=intsV [-1,-1,1]:=E0 fun k hk=>lo3 hk
theorem af3_ok:afE net3 [] 0 (intsV [6,0,-6])=0:=by unfold afE;rw [if_neg (by simpa using Aq3)];exact BQ0
theorem afV3:afV net3 [] (0:Int).toNat (intsV [6,0,-6])=intsV [0,0,6]:=E0 fun k hk=>by
 have ok:=I9 ok3
 obtain ⟨_,k0,h0,hkM,hg,_,hB⟩:=Al1 Aq3
 have:k0=0:=by omega
 subst this
 have h1:∀ k,k<3->(nwOf net3 []).fl ((nwOf net3 []).an (rv (intsV [6,0,-6]))) k=(nwOf net3 []).fl an3 k:=fun k hk=>by
  unfold Nw.fl
  rw [BC8 _ (ok.f k hk),BC8 _ (ok.t k hk)]
 have h2:∀ k,k<3->(nwOf net3 []).fl an3 k+((([-1,-1,1]:List Int).getD k 0:Int):Rat)*(nwOf net3 []).fl an3 0=((([0,0,6]:List Int).getD k 0:Int):Rat):=by decide +kernel
 rw [show (0:Int).toNat=0 from rfl,Nw.lo_flow ok.ok hkM hg hB (Ax6 BQ0).2 hk,h1 k hk,h1 0 (by decide),lo3 hk,h2 k hk]
theorem AR2 {a:Int}:bslOf Tryz.prog 25 1 [(0,.int .i64 a)]=some (3,#[.int .i64 a]):=by kernel_rfl
theorem Ag9:Ent Tryz.prog 30:=A0 Tryz.func30 (by kernel_rfl) rfl
set_option maxRecDepth 8000 in
theorem Ag1 {w:World}:CR Tryz.prog 30 #[] w (Is (.bool true)):=by
 have hk6:=AZ1 [6,0,-6] (by decide)
 refine enter Tryz.func30 O Tryz.ntmps30 O (.beg (.go O (.call _ O AA6 O AL3 fun vn w1 e1 h1=>.alloc O AS4 fun w2 b1 n2=>?_)))
 obtain ⟨e2,k1,hb1,hs2⟩:=n2
 refine .storeA (E:=eN) (S:=fun k=>k<w1.heap.size) ty_N O O k1 O O (ER.ext eN (eN.mono (fun k _ h=>h.2) (ER.lt eN h1)) e2) (fun h=>by omega) fun w3 k1 u3 h3=>?_
 have hvn:=shpA (E:=eN) O h3
 have h3:eN.R (fun _=>True) w3 vn net3:=eN.mono (fun _ _ _=>trivial) h3
 have x3:Ext w w3:=(u3.below (e2) (by omega):Ext w1 w3) |> e1.trans
 refine .goC O ?_
 refine .par follows 8 [.inl vn,.inr (eI.at (fun _=>True) [6,0,-6]),.inr (eV.at (fun _=>True) (intsV [6,0,-6])),.inr (Two (eV.at (fun _=>True) (intsV [0,0,6])) (Is (.int .i64 0))),.inr (Two (eV.at (fun _=>True) (intsV [0,0,6])) (Is (.int .i64 0))),.inr (eV.at (fun _=>True) (intsV [0,0,6])),.inl (.int .i64 0),.inr (eV.at (fun _=>True) (intsV [0,0,6]))] [[],[],[(11,1)],[(10,0),(12,2)],[(13,3)],[(9,4)],[(9,4)],[(14,5)]] (by kernel_rfl) ⟨
  fun w e=>((B9 ty_N O (k1.ext e) (eN.csz h3)).eq hvn.symm).ob,
  fun w e=>ob_L3 (by decide),
  fun w e x1 hx1=>(A2 _ H9 O (H7 hx1 (by decide))).ob (A6 _ _ _),
  fun w e x2 hx2=>(by have:=O3 (vo:=.slice none 0 0) (T0:=fun _=>True) (o:=[]) (line:=0) upT upT (ER.ext eN h3 e) RL.nil hx2 hk6 (by decide) (by decide);rw [af3_ok,if_pos rfl,afV3] at this;exact (A2 _ O9 O this).ob (G9 (A6 _ _ _) (L7 _))),
  fun w e x3 hx3=>G1 (v_mv O) hx3 (G9 (A6 _ _ _) (L7 _)),
  fun w e x4 hx4=>by
   obtain ⟨p1,q1,rfl,hp1,hq1⟩:=hx4
   exact G1 (v_ex O O) hp1 (A6 _ _ _),
  fun w e x4 hx4=>by
   obtain ⟨p1,q1,rfl,hp1,hq1⟩:=hx4
   exact ((v_ex O O).eq hq1).ob,
  fun w e x5 hx5=>G1 (v_as O) hx5 (A6 _ _ _),trivial⟩ ?_
 intro w4 e4 y1 hy1 y2 hy2 y3 hy3 y4 hy4 y5 hy5 y7 hy7
 have k1:=k1.ext e4
 have h4:=ER.ext eN h3 e4
 refine .go O (.ldA ty_N O O k1 (eN.csz h3) (.bsl _ O O AR2 fun w5 b5 n5=>?_))
 rw [<-hvn]
 have e5:=n5.1
 have i5:eI.R (fun _=>True) w5 (.slice (some ⟨b5,0,none⟩) 1 1) [2]:=L9 [2] 1 n5 upT O O (by decide) (by decide)
 refine .call _ O F1 O (E8 (T0:=fun _=>True) (line:=0) upT upT (ER.ext eN h4 e5) i5) fun v6 w6 e6 h6=>?_
 obtain ⟨vf,ve,rfl,_,he⟩:=h6
 rw [lk3_20] at he
 subst he
 have e46:=e5.trans e6
 refine .go O (.ldA ty_N O O (k1.ext e46) (eN.csz h3) (.bsl _ O O AR2 fun w7 b7 n7=>?_))
 rw [<-hvn]
 have e7:=n7.1
 have i7:eI.R (fun _=>True) w7 (.slice (some ⟨b7,0,none⟩) 1 1) [2]:=L9 [2] 1 n7 upT O O (by decide) (by decide)
 refine .call _ O F1 O (E8 (T0:=fun _=>True) (line:=2) upT upT (ER.ext eN h4 (e46.trans e7)) i7) fun v8 w8 e8 h8=>?_
 obtain ⟨vf,ve,rfl,_,he⟩:=h8
 rw [lk3_22] at he
 subst he
 have e48:=(e46.trans e7).trans e8
 refine .go O (.ldA ty_N O O (k1.ext e48) (eN.csz h3) (.bsl _ O O AT9 fun w9 b9 n9=>?_))
 rw [<-hvn]
 have e9:=n9.1
 refine .call _ O Z2 O (X9 (o:=[]) (line:=0) (ER.ext eN h4 (e48.trans e9)) RL.nil (L9 [-1,-1,1] 3 n9 upT O O (by decide) (by decide)) (by decide) Aq3 loV3) fun v10 w10 e10 h10=>?_
 subst h10
 refine .go O (.eqlT O O O O (.go O (.bsl _ O O AT9 fun w11 b11 n11=>.go O (.call _ O H9 O (H7 (L9 [0,0,6] 3 n11 upT O O (by decide) (by decide)) (by decide)) fun v12 w12 e12 h12=>.go O ?_))))
 have e412:=(((e48.trans e9).trans e10).trans n11.1).trans e12
 refine .call _ O AE3 O (BA5 (ER.ext eV hy7 e412) h12 O) fun v13 w13 e13 h13=>?_
 subst h13
 refine .go O (.eqlT O O O O (.go O (.eqlT O O O O (.goE O ?_))))
 exact .plain [_] Tryz.results30 ⟨rfl,trivial⟩ ⟨((x3.trans e4).trans e412).trans e13,rfl⟩
end Go.Proofs.YtpgkacdihhjknaaGreat
namespace Go.Kx
open Go Go.RowKit
def lz:LnV:=⟨0,0,0,0⟩
end Go.Kx
namespace Go.Proofs.YtpgkacdihhjknaaGreat
open Go Go.Kx Go.RowKit
def net11:NtV:=⟨2,List.replicate 11 lz⟩
theorem BA0 {o:List Int} (h:¬ outsOk net3 o):outE net3 o=1:=by
 have hc:=(X8 ok3).1
 unfold outE
 rw [if_neg (by simpa using hc),if_neg h]
theorem out3_9:outE net3 [9]=1:=BA0 fun h=>by
 have:=(h 0 (by decide)).2.1
 revert this
 decide
abbrev fifV (l:List Int):List QV:=tab l.length fun k=>Rat.divInt (l.getD k 0) 5
theorem ok3_1:outE net3 [1]=0:=AP9 (by decide) (by decide)
def candE (b:Nat):Nat->Rat:=fun i=>if b=0 then 1 else if b=i then 10 else 0
theorem BO8:∀ b,b<(nwOf net3 [1]).B->∀ i,i<(nwOf net3 [1]).B->(if (nwOf net3 [1]).root i=i then candE b i else (nwOf net3 [1]).lap (candE b) i)=dl i b:=by
 have:∀ b,b<3->∀ i,i<3->(if (nwOf net3 [1]).root i=i then candE b i else (nwOf net3 [1]).lap (candE b) i)=dl i b:=by decide +kernel
 exact this
def want1:List (List Int):=[[0,-5,0],[0,0,0],[0,0,-5]]
theorem hf1:tabM net3.ls.length (nwOf net3 [1]).B (nwOf net3 [1]).hf=want1.map fifV:=by
 have ok:=I9 ok3_1
 have h1:tabM 3 3 (nwOf net3 [1]).hf=tabM 3 3 fun k b=>(nwOf net3 [1]).fl (candE b) k:=B5 fun k b hk hb=>Nw.hf_cand ok.ok ok.b1 candE BO8 hk hb
 have h2:∀ k,k<3->∀ b,b<3->(nwOf net3 [1]).fl (candE b) k=Rat.divInt ((want1.getD k []).getD b 0) 5:=by decide +kernel
 show tabM 3 3 _=_
 rw [h1,show tabM 3 3 (fun k b=>(nwOf net3 [1]).fl (candE b) k)=tabM 3 3 fun k b=>Rat.divInt ((want1.getD k []).getD b 0) 5 from B5 fun k b hk hb=>h2 k hk b hb]
 rfl
def net4:NtV:=⟨3,[⟨0,1,10,100⟩,⟨1,2,5,50⟩,⟨0,2,10,70⟩,⟨0,1,10,1⟩]⟩
def net2:NtV:=⟨2,[⟨0,1,1,0⟩,⟨1,0,3,0⟩]⟩
def cand2 (b c:Nat):Rat:=if b=0 then 1 else if c=0 then 0 else Rat.divInt 3 4
theorem ok4:outE net4 [3]=0:=AP9 (by decide) (by decide)
theorem ok2:outE net2 []=0:=AP9 (by decide) (by decide)
theorem AZ7 {n:NtV} {o:List Int} (ok:nwOk n o) (cand:Nat->Nat->Rat) (h:∀ b,b<(nwOf n o).B->∀ i,i<(nwOf n o).B->(if (nwOf n o).root i=i then cand b i else (nwOf n o).lap (cand b) i)=dl i b) {k l:Nat} (hk:k<n.ls.length) (hl:l<n.ls.length) :
  (nwOf n o).lo k l=if l=k then -1 else ((nwOf n o).fl (cand ((nwOf n o).F k)) l-(nwOf n o).fl (cand ((nwOf n o).T k)) l) / (1-((nwOf n o).fl (cand ((nwOf n o).F k)) k-(nwOf n o).fl (cand ((nwOf n o).T k)) k)):=by
 have hf:=ok.f k hk
 have ht:=ok.t k hk
 have hh:∀ j b,j<n.ls.length->b<(nwOf n o).B->(nwOf n o).hf j b=(nwOf n o).fl (cand b) j:=fun j b hj hb=>Nw.hf_cand ok.ok ok.b1 cand h hj hb
 unfold Nw.lo Nw.rst Nw.bt
 rw [hh l _ hl hf,hh l _ hl ht,hh k _ hk hf,hh k _ hk ht]
theorem Ad8:∀ b,b<(nwOf net2 []).B->∀ i,i<(nwOf net2 []).B->(if (nwOf net2 []).root i=i then cand2 b i else (nwOf net2 []).lap (cand2 b) i)=dl i b:=by
 have:∀ b,b<2->∀ i,i<2->(if (nwOf net2 []).root i=i then cand2 b i else (nwOf net2 []).lap (cand2 b) i)=dl i b:=by decide +kernel
 exact this
theorem BO9:∀ b,b<(nwOf net4 [3]).B->∀ i,i<(nwOf net4 [3]).B->(if (nwOf net4 [3]).root i=i then cand3 b i else (nwOf net4 [3]).lap (cand3 b) i)=dl i b:=by
 have:∀ b,b<3->∀ i,i<3->(if (nwOf net4 [3]).root i=i then cand3 b i else (nwOf net4 [3]).lap (cand3 b) i)=dl i b:=by decide +kernel
 exact this
def wlo3:List (List Int):=[[-1,-1,1],[-1,-1,1],[1,1,-1]]
theorem loV3k {k:Nat} (hk:k<3):loV net3 [] k=intsV (wlo3.getD k []):=by
 have h:∀ k,k<3->∀ l,l<3->(if l=k then (-1:Rat) else ((nwOf net3 []).fl (cand3 ((nwOf net3 []).F k)) l-(nwOf net3 []).fl (cand3 ((nwOf net3 []).T k)) l) / (1-((nwOf net3 []).fl (cand3 ((nwOf net3 []).F k)) k-(nwOf net3 []).fl (cand3 ((nwOf net3 []).T k)) k)))=(((wlo3.getD k []).getD l 0:Int):Rat):=by decide +kernel
 have hl:∀ k,k<3->(wlo3.getD k []).length=3:=by decide
 unfold intsV
 rw [hl k hk]
 exact E0 fun l hl'=>(AZ7 (I9 ok3) cand3 Ar6 hk hl').trans (h k hk l hl')
theorem BM2 {n:NtV} {o:List Int} {line:Int} (h:outE n o=0) (hl:line∉pInts (inL n o)):lkE n o line=1:=by unfold lkE;rw [if_neg (by simpa using h),if_neg hl]
theorem Av9 {n:NtV} {o:List Int} {line:Int} (h:outE n o=0) (hl:line∈pInts (inL n o)) (hb:¬ (nwOf n o).brg line.toNat):lkE n o line=0:=by unfold lkE;rw [if_neg (by simpa using h),if_pos hl,if_neg hb]
theorem BM3 {n:NtV} {o:List Int} {line:Int} (h:outE n o=0) (hl:line∈pInts (inL n o)) (hb:(nwOf n o).brg line.toNat):lkE n o line=11:=by unfold lkE;rw [if_neg (by simpa using h),if_pos hl,if_pos hb]
theorem Aw0 {n:NtV} {o:List Int} {line e:Int} (h:outE n o=e) (he:e≠0):lkE n o line=e:=by unfold lkE;rw [if_pos (by rw [h];exact he),h]
theorem lkX_c:lkE net3 [] 3=1:=BM2 ok3 (by decide)
theorem lkX_d:lkE net3 [] (-1)=1:=BM2 ok3 (by decide)
theorem lk3k {k:Nat} (hk:k<3):lkE net3 [] (k:Nat)=0:=by
 have h1:∀ k,k<3->((k:Nat):Int)∈pInts (inL net3 []):=by decide
 have h2:∀ k,k<3->¬ (nwOf net3 []).brg ((k:Nat):Int).toNat:=by decide +kernel
 exact Av9 ok3 (h1 k hk) (h2 k hk)
theorem lk32k {k:Nat} (hk:k<3):lkE net3 [2] (k:Nat)≠0:=by
 by_cases e:k=2
 ·subst e
  rw [BM2 Ab5 (by decide)];decide
 ·have h1:∀ k,k<2->((k:Nat):Int)∈pInts (inL net3 [2]):=by decide
  have h2:∀ k,k<2->(nwOf net3 [2]).brg ((k:Nat):Int).toNat:=by decide +kernel
  rw [BM3 Ab5 (h1 k (by omega)) (h2 k (by omega))];decide
theorem lk2k {k:Nat} (hk:k<2):lkE net2 [] (k:Nat)=0:=by
 have h1:∀ k,k<2->((k:Nat):Int)∈pInts (inL net2 []):=by decide
 have h2:∀ k,k<2->¬ (nwOf net2 []).brg ((k:Nat):Int).toNat:=by decide +kernel
 exact Av9 ok2 (h1 k hk) (h2 k hk)
theorem lk4:lkE net4 [3] 0=0:=Av9 ok4 (by decide) (by decide +kernel)
theorem loV2k {k:Nat} (hk:k<2):loV net2 [] k=intsV [-1,-1]:=by
 have h:∀ k,k<2->∀ l,l<2->(if l=k then (-1:Rat) else ((nwOf net2 []).fl (cand2 ((nwOf net2 []).F k)) l-(nwOf net2 []).fl (cand2 ((nwOf net2 []).T k)) l) / (1-((nwOf net2 []).fl (cand2 ((nwOf net2 []).F k)) k-(nwOf net2 []).fl (cand2 ((nwOf net2 []).T k)) k)))=((([-1,-1]:List Int).getD l 0:Int):Rat):=by decide +kernel
 exact E0 fun l hl'=>(AZ7 (I9 ok2) cand2 Ad8 hk hl').trans (h k hk l hl')
theorem loV4:loV net4 [3] 0=intsV [-1,-1,1,0]:=by
 have h:∀ l,l<4->(if l=0 then (-1:Rat) else ((nwOf net4 [3]).fl (cand3 ((nwOf net4 [3]).F 0)) l-(nwOf net4 [3]).fl (cand3 ((nwOf net4 [3]).T 0)) l) / (1-((nwOf net4 [3]).fl (cand3 ((nwOf net4 [3]).F 0)) 0-(nwOf net4 [3]).fl (cand3 ((nwOf net4 [3]).T 0)) 0)))=((([-1,-1,1,0]:List Int).getD l 0:Int):Rat):=by decide +kernel
 exact E0 fun l hl'=>(AZ7 (I9 ok4) cand3 BO9 (by decide) hl').trans (h l hl')
theorem lkX_a:lkE netE [] 0=1:=Aw0 (outE_E []) (by decide)
theorem lkX_b:lkE net3 [9] 0=1:=Aw0 out3_9 (by decide)
theorem out3_11:outE net3 [1,1]=1:=BA0 fun h=>by
 have:=(h 1 (by decide)).2.2 (by decide)
 exact absurd this (by decide)
theorem lkX_h:lkE net3 [2] 0=11:=BM3 Ab5 (by decide) (by decide +kernel)
theorem BQ1 {n:NtV} {o:List Int} {line:Int} {x:List QV} (h:lkE n o line=0):afE n o line x=anE n o x:=by unfold afE;rw [if_neg (by simpa using h)]
theorem afX_f:afE net3 [] 0 (intsV [1,0,0,-1])=5:=by
 rw [BQ1 Aq3]
 exact anE_sf (BK4 ok3 (by decide)) (by decide)
theorem afX_g:afE net3 [] 0 (intsV [1])=10:=by
 rw [BQ1 Aq3]
 exact anE_no ok3 (by decide) (by decide +kernel)
theorem afX_h {x:List QV}:afE net3 [2] 0 x=11:=by unfold afE;rw [if_pos (by rw [lkX_h];decide),lkX_h]
theorem lkX_e:lkE net11 [] 0=5:=Aw0 (by
 have hc:chkE net11=5:=by unfold chkE;rw [if_neg (by decide),if_pos (by decide)]
 rw [Ab4 (by rw [hc];decide),hc]) (by decide)
def x43:List QV:=[qc (Rat.divInt 4 3),qc (Rat.divInt (-4) 3)]
theorem rv43 (b:Nat):rv x43 b=if b=0 then Rat.divInt 4 3 else if b=1 then Rat.divInt (-4) 3 else 0:=by
 match b with
 | 0=>exact B4 _
 | 1=>exact B4 _
 | b+2=>exact Ak4
theorem an43:anE net2 [] x43=0:=by
 refine BP9 ok2 (by decide) ?_
 have h:(nwOf net2 []).bal fun b=>if b=0 then Rat.divInt 4 3 else if b=1 then Rat.divInt (-4) 3 else 0:=Ae4.1 (by decide +kernel)
 rwa [show rv x43=_ from funext rv43]
theorem afX_l:afE net2 [] 0 x43=0:=(BQ1 (line:=0) (lk2k (k:=0) (by decide))).trans an43
theorem fl43 {k:Nat} (hk:k<2):(nwOf net2 []).fl ((nwOf net2 []).an (rv x43)) k=sumN 2 fun b=>(nwOf net2 []).fl (cand2 b) k*if b=0 then Rat.divInt 4 3 else if b=1 then Rat.divInt (-4) 3 else 0:=by
 have ok:=I9 ok2
 rw [(nwOf net2 []).fl_an ok.ok (rv x43) hk]
 exact A3 fun b hb=>by rw [rv43,Nw.hf_cand ok.ok ok.b1 cand2 Ad8 hk hb]
theorem afV43:afV net2 [] 0 x43=[qc 0,qc (Rat.divInt (-4) 3)]:=by
 have ok:=I9 ok2
 obtain ⟨_,k0,h0,hkM,hg,_,hB⟩:=Al1 (lk2k (k:=0) (by decide))
 have:k0=0:=by omega
 subst this
 have hlo:∀ l,l<2->(nwOf net2 []).lo 0 l = -1:=fun l hl=>by
  have h:∀ l,l<2->(if l=0 then (-1:Rat) else ((nwOf net2 []).fl (cand2 ((nwOf net2 []).F 0)) l-(nwOf net2 []).fl (cand2 ((nwOf net2 []).T 0)) l) / (1-((nwOf net2 []).fl (cand2 ((nwOf net2 []).F 0)) 0-(nwOf net2 []).fl (cand2 ((nwOf net2 []).T 0)) 0))) = -1:=by decide +kernel
  exact (AZ7 ok cand2 Ad8 hkM hl).trans (h l hl)
 have hv:∀ l,l<2->((nwOf net2 []).cut 0).fl (((nwOf net2 []).cut 0).an (rv x43)) l=(sumN 2 fun b=>(nwOf net2 []).fl (cand2 b) l*if b=0 then Rat.divInt 4 3 else if b=1 then Rat.divInt (-4) 3 else 0) + -1*sumN 2 fun b=>(nwOf net2 []).fl (cand2 b) 0*if b=0 then Rat.divInt 4 3 else if b=1 then Rat.divInt (-4) 3 else 0:=fun l hl=>by
  rw [Nw.lo_flow ok.ok hkM hg hB (Ax6 an43).2 hl,hlo l hl,fl43 hl,fl43 (by decide)]
 have hd:∀ l,l<2->(sumN 2 fun b=>(nwOf net2 []).fl (cand2 b) l*if b=0 then Rat.divInt 4 3 else if b=1 then Rat.divInt (-4) 3 else 0)+(-1*sumN 2 fun b=>(nwOf net2 []).fl (cand2 b) 0*if b=0 then Rat.divInt 4 3 else if b=1 then Rat.divInt (-4) 3 else 0)=if l=0 then 0 else Rat.divInt (-4) 3:=by decide +kernel
 show [qc _,qc _]=_
 rw [hv 0 (by decide),hd 0 (by decide),hv 1 (by decide),hd 1 (by decide)]
 rfl
end Go.Proofs.YtpgkacdihhjknaaGreat
namespace Go.Kx
open Go Go.RowKit
def IterR (P:Program) (gf:FuncId) (lb:Array Value) (n:Nat) (Y:Nat->Nat->List Value->World->Prop) (F:World->Prop):Prop :=
 ∀ (l:Nat) (J:Nat->World->Prop) (X:World->Prop),(∀ k W W',J k W->Ext W W'->J k W')->(∀ W W',X W->Ext W W'->X W')->(∀ k W,J k W->F W) ->
  (∀ k W0 W vs,k<n->J k W0->Ext W0 W->Y k W0.heap.size vs W->YieldAt (wf none) 0 P l vs.toArray W fun e W'=>(e=.returned (.bool true)/\J (k+1) W')\/(e=.returned (.bool false)/\X W')) ->
  ∀ W,J 0 W->Calls P gf (#[.func (.yield l) #[] #[]]++lb) W fun e W'=>∃ v,e=.returned v/\(J n W'\/X W')
theorem WC.rangeR {P:Program} {N:Nat} {Q:Pst} {σ:Env} {ds:List Deferred} {w:World} {g:Operand} {ps:List Tmp} {assign body:Code} {gf:FuncId} {lb:Array Value} {n:Nat} {Y:Nat->Nat->List Value->World->Prop} {F:World->Prop}
  (hit:IterR P gf lb n Y F) (hg:ev σ g=some (.func (.func gf) #[] lb)) (hE:Ent P gf) (hps:∀ k B vs W,Y k B vs W->vs.length=ps.length) (stY:∀ k B vs W W',Y k B vs W->Sft w.heap.size W W'->Y k B vs W') (hpN:∀ p∈ps,p<N)
  (J:Nat->World->Prop) (Jx:Code->World->Prop) (stJ:∀ k W W',J k W->Sft w.heap.size W W'->J k W') (stX:∀ c W W',Jx c W->Sft w.heap.size W W'->Jx c W') (hF:∀ k W,J k W->F W) (h0:J 0 w)
  (hbody:∀ l k W0 W vs,k<n->J k W0->Ext W0 W->Y k W0.heap.size vs W->WC P (some l) N (thn (fun σ1 ds1 W1=>ds1=[]/\W1=W/\∀ W2,J k W2->Sft w.heap.size W W2->Y k W0.heap.size vs W2->w.heap.size<=W2.heap.size->WC P (some l) N (rnd (J (k+1)) Jx W2) body σ1 [] W2) (fun _ _ _ _=>False)) assign (penv ps vs σ) [] W)
  (hdone:∀ W,J n W->W.heap[w.heap.size]?=some (.deferred (some []))->Q .normal σ ({ target:=.collected w.heap.size,args:=#[] }::ds) W)
  (hjump:∀ c W,Jx c W->W.heap[w.heap.size]?=some (.deferred (some []))->WC P none N Q c σ ({ target:=.collected w.heap.size,args:=#[] }::ds) W) :
  WC P none N Q (.rangeFunc g ps.toArray assign body) σ ds w:=by
 refine ⟨fun a ha=>wpIn_rangeFunc fun fn _=>?_⟩
 have hev:=ha.ev hg
 let rec0:Loop:={ state:=.ready,pending:=none,fn:=fn,tmps:=a.tmps,params:=ps.toArray,assign:=assign,body:=body,defers:=w.heap.size }
 refine ⟨w.heap.size+1,[{ target:=.collected w.heap.size,args:=#[] }],(w.alloc (.deferred (some []))).alloc (.loop rec0),{ target:=.fn (.func gf) lb,args:=#[.func (.yield (w.heap.size+1)) #[] #[]] },(w.alloc (.deferred (some []))).alloc (.loop rec0),gf,#[.func (.yield (w.heap.size+1)) #[] #[]]++lb,(w.alloc (.deferred (some []))).alloc (.loop rec0),
  run_enterLoop_outer fn a.tmps ps.toArray assign body,?_,fun _ _=>trivial,?_,(fun h=>(by cases h)),?_⟩
 ·simp only [resolve];rw [hev];simp [Deferred.ofValue,rec0];rfl
 ·simp [invoke,hE _ _]
 let l:=w.heap.size+1
 let D:=w.heap.size
 have hne:D≠l:=by show w.heap.size≠w.heap.size+1;omega
 let Jt:Nat->World->Prop:=fun k W=>J k W/\W.heap[l]?=some (.loop rec0)/\W.heap[D]?=some (.deferred (some []))
 let Xt:World->Prop:=fun W=>∃ c,Jx c W/\W.heap[l]?=some (.loop { rec0 with state:=.done,pending:=some c })/\W.heap[D]?=some (.deferred (some []))
 have hlt:∀ {W:World} {o:Obj},W.heap[l]?=some o->l<W.heap.size:=fun h=>(Array.getElem?_eq_some_iff.1 h).1
 have hlt':∀ {W:World} {o:Obj},W.heap[D]?=some o->D<W.heap.size:=fun h=>(Array.getElem?_eq_some_iff.1 h).1
 have hstart:Jt 0 ((w.alloc (.deferred (some []))).alloc (.loop rec0)):=by
  have e1:=M9 w (.deferred (some []))
  have e2:=M9 (w.alloc (.deferred (some []))) (.loop rec0)
  refine ⟨stJ 0 _ _ h0 (Sft.ext (e1.trans e2) (Nat.le_refl _)),?_,?_⟩
  ·have:=World.alloc_heap_new (w.alloc (.deferred (some []))) (.loop rec0)
   rwa [World.size_alloc] at this
  ·exact (e2.block D (by rw [World.size_alloc];show w.heap.size<w.heap.size+1;omega)).trans (World.alloc_heap_new w _)
 have hcall:=hit l Jt Xt
  (fun k W W' ⟨h1,h2,h3⟩ e=>⟨stJ k W W' h1 (Sft.ext e (Nat.le_of_lt (hlt' h3))),(e.block l (hlt h2)).trans h2,(e.block D (hlt' h3)).trans h3⟩)
  (fun W W' ⟨c,h1,h2,h3⟩ e=>⟨c,stX c W W' h1 (Sft.ext e (Nat.le_of_lt (hlt' h3))),(e.block l (hlt h2)).trans h2,(e.block D (hlt' h3)).trans h3⟩)
  (fun k W h=>hF k W h.1)
  (fun k W0 W vs hk ⟨hJ0,hl0,hD0⟩ e0 hY=>by
   have hJ:=stJ k W0 W hJ0 (Sft.ext e0 (Nat.le_of_lt (hlt' hD0)))
   have hl:=(e0.block l (hlt hl0)).trans hl0
   have hD:=(e0.block D (hlt' hD0)).trans hD0
   refine ⟨fn,(ps.zip vs).foldl (fun t p=>t.setIfInBounds p.1 p.2) a.tmps,assign,body,?_,?_⟩
   ·have:=run_yield (P:=P) (w:=W) (l:=l) (r:=rec0) (args:=vs.toArray) hl (by simp [rec0,hps _ _ _ _ hY])
    rw [this]
    simp [rec0]
   ·refine roundIn_of_wpIn trivial ?_
    have hag:Agr N (penv ps vs σ) [] { tmps:=(ps.zip vs).foldl (fun t p=>t.setIfInBounds p.1 p.2) a.tmps,defers:=[] } :=
     AE2 ps vs σ a.tmps hpN ⟨ha.size,rfl,ha.slot⟩
    refine wpIn_mono ((hbody l k W0 W vs hk hJ0 e0 hY).out _ hag) ?_
    rintro e a₁ w₁ ⟨σ1,ds1,hag1,hq⟩
    cases e with
    | normal =>
     obtain ⟨rfl,rfl,hb⟩:=hq
     have hput:(w₁.putObj l (.loop { rec0 with state:=.busy })).heap[l]?=some (.loop { rec0 with state:=.busy }):=World.putObj_heap_same (hlt hl)
     have hputD:(w₁.putObj l (.loop { rec0 with state:=.busy })).heap[D]?=some (.deferred (some [])):=by rw [World.putObj_heap_other hne];exact hD
     refine ⟨_,run_beginRound hl rfl,wpIn_mono ((hb _ (stJ k _ _ hJ (Sft.put (show D<=l by show w.heap.size<=w.heap.size+1;omega) hl O)) (Sft.put (show D<=l by show w.heap.size<=w.heap.size+1;omega) hl O) (stY _ _ _ _ _ hY (Sft.put (show D<=l by show w.heap.size<=w.heap.size+1;omega) hl O)) (by rw [World.putObj_size];exact Nat.le_of_lt (hlt' hD))).out a₁ hag1) ?_⟩
     have hend:∀ (W':World) (j:Option Code),Oth (w₁.putObj l (.loop { rec0 with state:=.busy })) W' ->
       (Instr.endRound l j).run P W'=.ok (.bool j.isNone) (W'.putObj l (.loop { rec0 with state:=if j.isNone then .ready else .done,pending:=j })) /\
       Sft D W' (W'.putObj l (.loop { rec0 with state:=if j.isNone then .ready else .done,pending:=j })) /\
       (W'.putObj l (.loop { rec0 with state:=if j.isNone then .ready else .done,pending:=j })).heap[l]?=some (.loop { rec0 with state:=if j.isNone then .ready else .done,pending:=j }) /\
       (W'.putObj l (.loop { rec0 with state:=if j.isNone then .ready else .done,pending:=j })).heap[D]?=some (.deferred (some [])):=by
      intro W' j ho
      have h1:=ho l _ hput rfl
      have h2:=ho D _ hputD rfl
      refine ⟨run_endRound (r:={ rec0 with state:=.busy }) j h1,Sft.put (show D<=l by show w.heap.size<=w.heap.size+1;omega) h1 rfl,World.putObj_heap_same (hlt h1),?_⟩
      rw [World.putObj_heap_other hne];exact h2
     rintro e2 a₂ w₂ ⟨σ2,ds2,hag2,hq2⟩
     cases e2 with
     | normal =>
      obtain ⟨ho,hj⟩:=hq2
      obtain ⟨h1,h2,h3,h4⟩:=hend w₂ none ho
      exact ⟨_,_,h1,.inl ⟨rfl,stJ _ _ _ hj h2,h3,h4⟩⟩
     | ret =>
      obtain ⟨ho,hj⟩:=hq2
      obtain ⟨h1,h2,h3,h4⟩:=hend w₂ (some .ret) ho
      exact ⟨_,_,h1,.inr ⟨rfl,.ret,stX _ _ _ hj h2,h3,h4⟩⟩
     | exit id =>
      obtain ⟨ho,hj⟩:=hq2
      obtain ⟨h1,h2,h3,h4⟩:=hend w₂ (some (.exit id)) ho
      exact ⟨_,_,h1,.inr ⟨rfl,.exit id,stX _ _ _ hj h2,h3,h4⟩⟩
     | _=>exact hq2.elim
    | _=>exact hq.elim)
  _ hstart
 refine AD8.2 (hcall.mono ?_)
 have hag':Agr N σ ({ target:=.collected w.heap.size,args:=#[] }::ds) { tmps:=a.tmps,defers:=[{ target:=.collected w.heap.size,args:=#[] }]++a.defers }:=⟨ha.size,by rw [ha.defs];rfl,ha.slot⟩
 rintro e W ⟨v,rfl,hres⟩
 rcases hres with ⟨hJ,hl,hD⟩ | ⟨c,hX,hl,hD⟩
 ·refine ⟨none,_,run_endLoop hl (by simp [rec0]),?_⟩
  refine ⟨σ,_,hag',hdone _ (stJ _ _ _ hJ (Sft.put (show D<=l by show w.heap.size<=w.heap.size+1;omega) hl O)) ?_⟩
  rw [World.putObj_heap_other hne];exact hD
 ·refine ⟨some c,_,run_endLoop hl (by simp),?_⟩
  refine (hjump c _ (stX _ _ _ hX (Sft.put (show D<=l by show w.heap.size<=w.heap.size+1;omega) hl O)) ?_).out _ hag'
  rw [World.putObj_heap_other hne];exact hD
end Go.Kx
namespace Go.Proofs.YtpgkacdihhjknaaGreat
open Go Go.Kx Go.RowKit
end Go.Proofs.YtpgkacdihhjknaaGreat
namespace Go.Kx
open Go Go.RowKit
section
variable {α:Type} {E:ER α} {t:TypeId} {S:Nat->Prop} {w w':World} {g:Nat} {l:List α}
end
theorem OwnL.lt' {β:Type} {F:ER β} {t':TypeId} {base:Nat} {X:Nat->Prop} {w:World} {v:Value} {b:List β} (h:OwnL F t' base X w v b) (k:Nat) (hk:v.ownBlock=some k):k<w.heap.size:=by
 obtain ⟨es,ho,_⟩:=h
 exact (ho.lt k hk).2
end Go.Kx
namespace Go.Proofs.YtpgkacdihhjknaaGreat
open Go Go.Kx Go.RowKit
noncomputable def rowL (n:NtV) (o:List Int) (k:Nat):List QV:=if lkE n o (k:Nat)=0 then loV n o k else []
theorem BK6 (n:NtV) (o:List Int) (k:Nat):(rowL n o k).length<=n.ls.length:=by
 unfold rowL
 split
 ·exact Nat.le_of_eq (A1 ..)
 ·exact Nat.zero_le _
theorem E_rows:Ent Tryz.prog 82:=A0 Tryz.func82 (by kernel_rfl) rfl
theorem rows_c {w:World} {vn vo:Value} {x y:Value} (hn:vn=.agg #[x,y]) {a:Option Addr} {m c:Nat} (ho:vo=.slice a m c):CR Tryz.prog 82 #[vn,vo] w (fun v w'=>∃ b1 b2,v=.func (.func 134) #[] #[.pointer (some ⟨b1,0,none⟩),.pointer (some ⟨b2,0,none⟩)] /\
  Blk w' b1 24 #[x,y]/\Blk w' b2 25 #[vo]/\w.heap.size<=b1/\w.heap.size<=b2):=by
 subst hn;subst ho
 refine enter Tryz.func82 O Tryz.ntmps82 O (.sr (.box O O fun w1 b1 n1=>.box O O fun w2 b2 n2=>.an O O ?_))
 obtain ⟨e1,k1,hb1,hs1⟩:=n1
 obtain ⟨e2,k2,hb2,hs2⟩:=n2
 refine .sr (.mkf [] [_,_] O O O O (.an O O (.ret ?_)))
 exact .plain [_] Tryz.results82 ⟨rfl,trivial⟩ ⟨e1.trans e2,b1,b2,rfl,k1.ext e2,k2,by omega,by have:=e1.size;omega⟩
theorem E_rows1:Ent Tryz.prog 134:=A0 Tryz.func134 (by kernel_rfl) rfl
set_option maxRecDepth 8000 in
theorem rows1_c {n:NtV} {o:List Int} {s vo:Value} {b1 b2:Nat} (hb:inI n.b):IterR Tryz.prog 134 #[.pointer (some ⟨b1,0,none⟩),.pointer (some ⟨b2,0,none⟩)] n.ls.length
  (fun k B vs W=>∃ v,vs=[v]/\eV.R (fun j=>B<=j) W v (rowL n o k)) (fun W=>Blk W b1 24 #[.int .i64 n.b,s]/\Blk W b2 25 #[vo]/\eLs.R (fun _=>True) W s n.ls/\eI.R (fun _=>True) W vo o):=by
 intro l J X stJ stX hF hy W hJ
 have hF0:=hF 0 W hJ
 refine enterG Tryz.func134 O Tryz.ntmps134 O (.beg (.go O (.fa K9 O O (.go O (.ld R7 O O hF0.1 O (.go O (.lenR M4 O O hF0.2.2.1 (.goC O (.lp (α:=Nat) [0,1,2,9] O (fun i=>[(10,.int .i64 (i:Nat))]) (fun i W=>J i W/\i<=n.ls.length) (fun i=>n.ls.length-i) 0 (lc1 O) ⟨hJ,Nat.zero_le _⟩ ?_)))))))))
 rintro i W ⟨hJ,hi⟩
 obtain ⟨f1,f2,f3,f4⟩:=hF i W hJ
 obtain ⟨_,_,_,_,hll⟩:=RL.len f3
 refine .go O ?_
 rcases Nat.lt_or_ge i n.ls.length with hlt | hge
 rotate_left
 ·have:i=n.ls.length:=by omega
  subst this
  exact .lssF O O O (by omega) (.goE O (.plain [] Tryz.results134 trivial (.inl hJ)))
 have hn:eN.R (fun _=>True) W (.agg #[.int .i64 n.b,s]) n:=⟨s,rfl,f3,hb⟩
 refine .lssT O O O (by omega) (.go O (.ldA ty_N O O f1 O (.go O (.ld ty_I O O f2 O (.go O (.call _ O F1 O (E8 (S:=fun _=>True) (T0:=fun j=>W.heap.size<=j) upT (fun k hk=>hk) hn f4) fun v5 w5 e5 h5=>?_))))))
 obtain ⟨vl,ve,rfl,hl,he⟩:=h5
 subst he
 rw [Int.toNat_natCast] at hl
 have nxt:∀ {v:Value},eV.R (fun j=>W.heap.size<=j) w5 v (rowL n o i)->YieldAt (wf none) 0 Tryz.prog l [v].toArray w5 fun e W'=>∃ u,e=.returned u/\((u=.bool true/\J (i+1) W')\/(u=.bool false/\X W')):=fun {v} hv=>by
  refine YieldAt.mono (hy i W w5 [v] hlt hJ e5 ⟨v,rfl,hv⟩) ?_
  rintro e W' (⟨rfl,h⟩ | ⟨rfl,h⟩)
  ·exact ⟨_,rfl,.inl ⟨rfl,h⟩⟩
  ·exact ⟨_,rfl,.inr ⟨rfl,h⟩⟩
 refine .go O ?_
 by_cases hK:lkE n o (i:Nat)=0
 ·rw [if_pos hK] at hl
  refine .neqF O O O hK (.go O (.yld (l:=l) [vl] (R:=fun v w'=>(v=.bool true/\J (i+1) w')\/(v=.bool false/\X w')) O O O (nxt (by unfold rowL;rw [if_pos hK];exact hl)) ?_))
  rintro v w' (⟨rfl,h⟩ | ⟨rfl,h⟩)
  ·exact .go O (.inc O O O (by omega) (.goN O (.mk (i+1) O (lc1 O) ⟨⟨h,hlt⟩,by show n.ls.length-(i+1)<n.ls.length-i;omega⟩)))
  ·exact .goE O (.plain [] Tryz.results134 trivial (.inr h))
 ·refine .neqT O O O hK (.go O (.yld (l:=l) [.slice none 0 0] (R:=fun v w'=>(v=.bool true/\J (i+1) w')\/(v=.bool false/\X w')) O O O (nxt (by unfold rowL;rw [if_neg hK];exact RL.nil)) ?_))
  rintro v w' (⟨rfl,h⟩ | ⟨rfl,h⟩)
  ·exact .go O (.inc O O O (by omega) (.goN O (.mk (i+1) O (lc1 O) ⟨⟨h,hlt⟩,by show n.ls.length-(i+1)<n.ls.length-i;omega⟩)))
  ·exact .goE O (.plain [] Tryz.results134 trivial (.inr h))
structure TbJ (w:World) (b7 b1 b2:Nat) (s vo:Value) (n:NtV) (o:List Int) (k:Nat) (W:World):Prop where
 low:Below w.heap.size w W
 k1:Blk W b1 24 #[.int .i64 n.b,s]
 k2:Blk W b2 25 #[vo]
 acc:∃ v,Blk W b7 70 #[v]/\OwnL eV 26 w.heap.size (fun j=>w.heap.size<=j/\j≠b7) W v ((List.range k).map (rowL n o))
theorem TbJ.sft {w0:World} {b7 b1 b2:Nat} {s vo:Value} {n:NtV} {o:List Int} {k D:Nat} {W W':World} (h:TbJ w0 b7 b1 b2 s vo n o k W) (hs:Sft D W W') (hD:w0.heap.size<=D):TbJ w0 b7 b1 b2 s vo n o k W':=by
 obtain ⟨v,h1,h2⟩:=h.acc
 exact ⟨h.low.trans (hs.below.mono hD),hs.cells.blk trivial h.k1,hs.cells.blk trivial h.k2,v,hs.cells.blk trivial h1,h2.kp hs.cells⟩
theorem zero_Mt:zeroOf Tryz.prog 70=some (.slice none 0 0):=by kernel_rfl
theorem bsl_Mt {a:Option Addr} {n c:Nat}:bslOf Tryz.prog 70 1 [(0,.slice a n c)]=some (26,#[.slice a n c]):=by kernel_rfl
theorem Am9:Ent Tryz.prog 39:=A0 Tryz.func39 (by kernel_rfl) rfl
theorem Table_t {T0:Nat->Prop} {w:World} {vn vo:Value} {n:NtV} {o:List Int} (upo:Up T0 w) (hn:eN.R (fun _=>True) w vn n) (ho:eI.R (fun _=>True) w vo o):CR Tryz.prog 39 #[vn,vo] w (Two (eM.at T0 (if outE n o=0 then (List.range n.ls.length).map (rowL n o) else [])) (Is (.int .i64 (outE n o)))):=by
 obtain ⟨s,rfl,hs,hb⟩:=hn
 have hn:eN.R (fun _=>True) w (.agg #[.int .i64 n.b,s]) n:=⟨s,rfl,hs,hb⟩
 obtain ⟨ao,co,hvo,_⟩:=RL.len ho
 refine enter Tryz.func39 O Tryz.ntmps39 O (.sr (.box O O fun w1 b2 n1=>.asg O O (.an O O ?_)))
 obtain ⟨e1,k2,hb2,hs1⟩:=n1
 refine .seq (.sr (.ldA ty_N O O k2 O (.mv O O (.call _ O Ae7 O (Ab6 (hn.ext e1) (ho.ext e1)) fun v2 w2 e2 h2=>.an O O ?_))))
 subst h2
 have x2:=e1.trans e2
 refine .sr (.mv O O ?_)
 by_cases hE:outE n o=0
 rotate_left
 ·refine .neqT O O O hE (.nil (.condT O (.sr (.mv O O (.asg O O (.an O O (.ret (.plain [_,_] Tryz.results39 ⟨rfl,rfl,trivial⟩ ⟨x2,_,_,rfl,?_,rfl⟩))))))))
  rw [if_neg hE];exact RL.nil
 rw [if_pos hE]
 have hl10:n.ls.length<=10:=(I9 hE).m
 refine .neqF O O O hE (.nil (.condF O (.skip (.sr (.alloc O zero_Mt fun w3 b7 n3=>.nil ?_)))))
 obtain ⟨e3,k7,hb7,hs3⟩:=n3
 have x3:=x2.trans e3
 refine .seq (.sr (.ldA ty_N O O ((k2.ext e2).ext e3) O (.mv O O ?_)))
 refine .call _ O E_rows O (rows_c O hvo) fun v4 w4 e4 h4=>.nil ?_
 obtain ⟨p1,p2,rfl,kp1,kp2,hp1,hp2⟩:=h4
 have x4:=x3.trans e4
 have hs4:=e4.size
 have hs2:=e2.size
 have hsL:∀ {W:World},Below w.heap.size w W->eLs.R (fun _=>True) W s n.ls:=fun hB=>eLs.mono (fun _ _ _=>trivial) (eLs.keep (fun k c t f hk h=>(hB.block k hk.2).trans h) (ER.lt eLs hs))
 have hoL:∀ {W:World},Below w.heap.size w W->eI.R (fun _=>True) W vo o:=fun hB=>eI.mono (fun _ _ _=>trivial) (eI.keep (fun k c t f hk h=>(hB.block k hk.2).trans h) (ER.lt eI ho))
 refine .block (.rangeR (rows1_c (n:=n) (o:=o) (s:=s) (vo:=vo) hb) rfl E_rows1 (fun k B vs W h=>by obtain ⟨v,rfl,_⟩:=h;rfl)
  (fun k B vs W W' h hs=>by obtain ⟨v,h1,h2⟩:=h;exact ⟨v,h1,eV.keep (fun k c t f _ h=>hs.cells k c t f trivial h) h2⟩) (by decide)
  (TbJ w b7 p1 p2 s vo n o) (fun _ _=>False) (fun k W W' h hs=>h.sft hs x4.size) (fun _ _ _ h _=>h.elim) (fun k W h=>⟨h.k1,h.k2,hsL h.low,hoL h.low⟩) ?_ ?_ ?_ (fun _ _ h=>h.elim))
 ·exact ⟨x4,kp1,kp2,_,k7.ext e4,OwnL.nil⟩
 ·intro l k W0 W vs hk hJ0 e0 hY
  obtain ⟨v8,rfl,_⟩:=hY
  refine .region (.an O O ⟨rfl,rfl,fun W2 hJ2 hsf hY2 hsz=>?_⟩)
  obtain ⟨v9,h9,hrow⟩:=hY2
  cases h9
  obtain ⟨hlow,kp1,kp2,_⟩:=hJ2
  have hW0:w.heap.size<=W0.heap.size:=hJ0.low.size
  obtain ⟨_,_,_,v,k7,hown⟩:=hJ0
  have hob:∀ j,v.ownBlock=some j->j<W0.heap.size:=fun j h=>hown.lt' j h
  have hb70:=k7.lt
  have k7:=hsf.cells.blk trivial (k7.ext e0)
  have hown:=(hown.ext e0).kp hsf.cells
  have hlw:=hlow.size
  have hrl:=BK6 n o k
  obtain ⟨a8,c8,hv8,_⟩:=RL.len hrow
  refine .block (.region (.ld ty_M O O k7 O (.mv O O (.bsl _ O O (by rw [hv8];exact bsl_Mt) fun W1 by_ ny=>?_))))
  obtain ⟨ey,ky,hby,hsy⟩:=ny
  have hlow1:=hlow.trans (ey.mono hlw)
  refine .gv O O (AA2 (E:=eV) (base:=w.heap.size) (n:=rowL n o k) (e:=.slice a8 (rowL n o k).length c8) (by decide) un_M AG9 O O O (hown.ext ey) ky (by rw [<-hv8];exact ER.ext eV (eV.mono (fun j _ h=>⟨⟨by have:=e0.size;have:=hW0;omega,by omega⟩,fun e=>by have:=hob j e;omega⟩) hrow) ey) (by simp;omega) (by decide) hlow1.size) ?_
  rintro v10 W8 ⟨ho8,hg8⟩
  have hown1:=hown.ext ey
  have k78:=hown1.gblk hg8 (k7.ext ey) (by decide)
  have kp18:=hown1.gblk hg8 (kp1.ext ey) (by decide)
  have kp28:=hown1.gblk hg8 (kp2.ext ey) (by decide)
  have hlow8:=hown1.below hg8 hlow1 hlow1.size
  obtain ⟨a9,c9,hv9⟩:=ho8.slice
  refine .store ty_M O O k78 (by rw [hv9];rfl) (by simp) (by rw [hv9];simp [one1,Value.cells]) fun W9 k9 u9=>.nil ?_
  refine ⟨((Oth.ext ey).trans (hown1.oth hg8)).trans (Oth.upd u9 k78),u9.below hlow8 (by omega),kp18.upd u9 (by omega),kp28.upd u9 (by omega),v10,by rw [hv9] at k9 ⊢;exact k9,?_⟩
  have:=ho8.upd u9 k78 (by decide) (fun h=>h.2 O)
  rw [List.range_succ,List.map_append]
  exact this
 ·intro W hJ hD
  obtain ⟨hlow,kp1,kp2,v,k7,hown⟩:=hJ
  refine .sr (.ld ty_M O O k7 O (.asg O O (.an O O (.ret (.mark [_,_] Tryz.results39 hD ⟨rfl,rfl,trivial⟩ ⟨L5 hlow x4.size,_,_,rfl,?_,by rw [hE]⟩)))))
  exact (hown.kp (Kp.put hD O)).toR upo (fun k hk=>upo k hk.1)
theorem Am3 {w:World} {vn vo:Value} {n:NtV} {o:List Int} (hn:eN.R (fun _=>True) w vn n) (ho:eI.R (fun _=>True) w vo o):CR Tryz.prog 39 #[vn,vo] w (Two (eM.at (fun _=>True) (if outE n o=0 then (List.range n.ls.length).map (rowL n o) else [])) (Is (.int .i64 (outE n o)))):=Table_t upT hn ho
section
variable {n:NtV} {o:List Int} {c:List Nat}
end
end Go.Proofs.YtpgkacdihhjknaaGreat
namespace Go.Kx
open Go Go.RowKit
section
variable {n:Nw} {k l:Nat}
end
end Go.Kx
namespace Go.Proofs.YtpgkacdihhjknaaGreat
open Go Go.Kx Go.RowKit
section
variable {n:NtV} {o:List Int} {k:Nat}
end
end Go.Proofs.YtpgkacdihhjknaaGreat
namespace Go.Kx
open Go Go.RowKit
section
variable {α:Type} {E:ER α} {t:TypeId} {base:Nat} {X:Nat->Prop} {w w':World} {v:Value} {l:List α}
end
section
variable {P:Program} {σ:Env} {w:World} {d:Option Tmp} {ty:TypeId} {pos:String} {af:Array Edge} {g:Option (Nat×Bool)} {α:Type} {E:ER α}
end
def Nw.mem (n:Nw) (i r:Nat):List Nat:=(List.range i).filter fun b=>decide (n.root b=r)
theorem Nw.mem_succ (n:Nw) (i r:Nat):n.mem (i+1) r=n.mem i r++if n.root i=r then [i] else []:=by
 unfold Nw.mem
 rw [List.range_succ,List.filter_append]
 by_cases h:n.root i=r
 ·simp [h]
 ·simp [h]
end Go.Kx
namespace Go.Proofs.YtpgkacdihhjknaaGreat
open Go Go.Kx Go.RowKit
end Go.Proofs.YtpgkacdihhjknaaGreat
namespace Go.Kx
open Go Go.RowKit
section
variable {n:Nw}
def Nw.mem1 (n:Nw) (i r:Nat):List Nat:=(List.range i).filter fun c=>decide (c≠r/\n.root c=r)
theorem Nw.mem1_succ (n:Nw) (i r:Nat):n.mem1 (i+1) r=n.mem1 i r++if i≠r/\n.root i=r then [i] else []:=by
 unfold Nw.mem1
 rw [List.range_succ,List.filter_append]
 by_cases h:i≠r/\n.root i=r
 ·simp [h]
 ·rw [if_neg h];simp [h]
theorem Nw.mem_first {r:Nat} (h:n.root r=r):∀ d,n.mem (r+1+d) r=r::n.mem1 (r+1+d) r
 | 0=>by
  have e1:n.mem r r=[]:=by
   unfold Nw.mem
   rw [List.filter_eq_nil_iff]
   intro b hb
   have:=Nw.root_le (n:=n) b
   have:=List.mem_range.1 hb
   simp;omega
  have e2:n.mem1 r r=[]:=by
   unfold Nw.mem1
   rw [List.filter_eq_nil_iff]
   intro b hb
   have:=Nw.root_le (n:=n) b
   have:=List.mem_range.1 hb
   simp;omega
  rw [Nat.add_zero,Nw.mem_succ,Nw.mem1_succ,e1,e2,if_pos h,if_neg (by simp)];rfl
 | d+1=>by
  rw [show r+1+(d+1)=(r+1+d)+1 by omega,Nw.mem_succ,Nw.mem1_succ,Nw.mem_first h d]
  by_cases h':n.root (r+1+d)=r
  ·rw [if_pos h',if_pos ⟨by omega,h'⟩];rfl
  ·rw [if_neg h',if_neg fun h''=>h' h''.2];rfl
theorem Nw.mem_cons {B r:Nat} (h:n.root r=r) (hr:r<B):n.mem B r=r::n.mem1 B r:=by
 have:=Nw.mem_first (n:=n) h (B-(r+1))
 rwa [show r+1+(B-(r+1))=B by omega] at this
end
end Go.Kx
namespace Go.Proofs.YtpgkacdihhjknaaGreat
open Go Go.Kx Go.RowKit
end Go.Proofs.YtpgkacdihhjknaaGreat
namespace Go.Kx
open Go Go.RowKit
theorem Leave.tt {P:Program} {fn:Func} {N:Nat} {σ:Env} {w W:World} {r:Nat} (hr:fn.results=#[.tmp r]) (hl:look σ r=some (.bool true)) (h:Ext w W):Leave P fn N (fun v w'=>Ext w w'/\Is (.bool true) v w') σ [] W:=.plain [_] hr ⟨hl,trivial⟩ ⟨h,rfl⟩
end Go.Kx
namespace Go.Proofs.YtpgkacdihhjknaaGreat
open Go Go.Kx Go.RowKit
end Go.Proofs.YtpgkacdihhjknaaGreat
namespace Go.Kx
open Go Go.RowKit
end Go.Kx
namespace Go.Proofs.YtpgkacdihhjknaaGreat
open Go Go.Kx Go.RowKit
end Go.Proofs.YtpgkacdihhjknaaGreat
namespace Go.Kx
open Go Go.RowKit
end Go.Kx
namespace Go.Proofs.YtpgkacdihhjknaaGreat
open Go Go.Kx Go.RowKit
end Go.Proofs.YtpgkacdihhjknaaGreat
namespace Go.Kx
open Go Go.RowKit
end Go.Kx
namespace Go.Proofs.YtpgkacdihhjknaaGreat
open Go Go.Kx Go.RowKit
end Go.Proofs.YtpgkacdihhjknaaGreat
namespace Go.Kx
open Go Go.RowKit
def bl (B:Nat) (s:Nat->Bool):List Bool:=(List.range B).map s
end Go.Kx
namespace Go.Proofs.YtpgkacdihhjknaaGreat
open Go Go.Kx Go.RowKit
end Go.Proofs.YtpgkacdihhjknaaGreat
namespace Go.Kx
open Go Go.RowKit Go.Proofs.YtpgkacdihhjknaaGreat
end Go.Kx
namespace Go.Proofs.YtpgkacdihhjknaaGreat
open Go Go.Kx Go.RowKit
end Go.Proofs.YtpgkacdihhjknaaGreat
namespace Go.Kx
open Go Go.RowKit
section
variable {α:Type} {E:ER α} {t:TypeId} {base:Nat} {X X':Nat->Prop} {w w':World} {v:Value} {l:List α}
end
end Go.Kx
namespace Go.Proofs.YtpgkacdihhjknaaGreat
open Go Go.Kx Go.RowKit
section
variable {S:Nat->Prop} {base g:Nat} {W W':World} {vs:List Value} {ls:List (List QV)}
end
end Go.Proofs.YtpgkacdihhjknaaGreat
namespace Go.Kx
open Go Go.RowKit
end Go.Kx
namespace Go.Proofs.YtpgkacdihhjknaaGreat
open Go Go.Kx Go.RowKit
end Go.Proofs.YtpgkacdihhjknaaGreat
namespace Go.Kx
open Go Go.RowKit Go.Proofs.YtpgkacdihhjknaaGreat
end Go.Kx
namespace Go.Proofs.YtpgkacdihhjknaaGreat
open Go Go.Kx Go.RowKit
section
variable {S:Nat->Prop} {base g:Nat} {W W':World} {vs:List Value} {ls:List (List QV)}
end
end Go.Proofs.YtpgkacdihhjknaaGreat
namespace Go.Kx
open Go Go.RowKit Go.Proofs.YtpgkacdihhjknaaGreat
end Go.Kx
namespace Go.Proofs.YtpgkacdihhjknaaGreat
open Go Go.Kx Go.RowKit
section
variable {m:List (List QV)} {b:List QV}
end
section
variable {S:Nat->Prop} {base g:Nat} {W W':World} {vs:List Value} {ls:List (List QV)}
end
section
variable {n:NtV} {o:List Int} {a b:Nat}
end
end Go.Proofs.YtpgkacdihhjknaaGreat
namespace Go.Kx
open Go Go.RowKit
section
variable {P:Program} {σ:Env} {w:World} {d:Option Tmp} {ty:TypeId} {pos:String} {af:Array Edge} {g:Option (Nat×Bool)} {S:Nat->Prop}
end
end Go.Kx
namespace Go.Proofs.YtpgkacdihhjknaaGreat
open Go Go.Kx Go.RowKit
end Go.Proofs.YtpgkacdihhjknaaGreat
namespace Go.Kx
open Go Go.RowKit
end Go.Kx
namespace Go.Proofs.YtpgkacdihhjknaaGreat
open Go Go.Kx Go.RowKit
section
variable {S:Nat->Prop} {w:World} {σ:Env} {d:Option Tmp} {ty:TypeId} {pos:String} {af:Array Edge} {g:Option (Nat×Bool)}
end
end Go.Proofs.YtpgkacdihhjknaaGreat
namespace Go.Kx
open Go Go.RowKit
theorem heap_setCell {w:World} {b off:Nat} {v:Value} {cs:Array Value} {t:TypeId} {f:Nat×Nat} (h:w.heap[b]?=some (.cells cs t f)):(w.setCell ⟨b,off,none⟩ v).heap[b]?=some (.cells (cs.setIfInBounds off v) t f):=by
 unfold World.setCell
 simp [Array.getElem?_modify,h]
section
variable {P:Program} {σ:Env} {w:World} {d:Option Tmp} {ty:TypeId} {pos:String} {af:Array Edge} {g:Option (Nat×Bool)}
end
section
variable {P:Program} {ro:Option Nat} {N:Nat} {ds:List Deferred} {ops:Array Oper} {K:Env->World->Prop} {rest:List Oper} {σ:Env} {w:World} {d:Tmp} {ty:TypeId} {pos:String} {af:Array Edge} {α:Type} {E:ER α} {hsz:0<E.sz} {S:Nat->Prop} {v:Value} {l:List α}
end
end Go.Kx
namespace Go.Proofs.YtpgkacdihhjknaaGreat
open Go Go.Kx Go.RowKit
section
variable {W W':World} {v va vb:Value} {n c n' c' L L':Nat} {a b m:List (List QV)} {x y:List QV}
end
end Go.Proofs.YtpgkacdihhjknaaGreat
namespace Go.Kx
open Go Go.RowKit
end Go.Kx
namespace Go.Proofs.YtpgkacdihhjknaaGreat
open Go Go.Kx Go.RowKit
theorem AS1:Ent Tryz.prog 40:=A0 Tryz.func40 (by kernel_rfl) rfl
set_option maxRecDepth 8000 in
theorem AQ2 {w:World} {va vb:Value} {m:List (List QV)} (ha:eM.R (fun _=>True) w va m) (hb:eM.R (fun _=>True) w vb m):CR Tryz.prog 40 #[va,vb] w (Is (.bool true)):=by
 obtain ⟨_,_,_,_,hml⟩:=RL.len ha
 refine enter Tryz.func40 O Tryz.ntmps40 O (.beg (.go O (.lenR un_M O O ha (.go O (.lenR un_M O O hb (.go O (.neqF O O O O (.goC O (.lp (α:=Nat) [0,1] O (fun i=>[(5,.int .i64 (i:Nat))]) (fun i W=>Ext w W/\i<=m.length) (fun i=>m.length-i) 0 (lc1 O) ⟨Ext.refl _,Nat.zero_le _⟩ ?_)))))))))
 rintro i W ⟨hW,hi⟩
 have haW:=ER.ext eM ha hW
 have hbW:=ER.ext eM hb hW
 refine .go O (.lenR un_M O O haW ?_)
 rcases Nat.lt_or_ge i m.length with hlt | hge
 rotate_left
 ·exact .lssF O O O (by omega) (.goE O (.plain [_] Tryz.results40 ⟨rfl,trivial⟩ ⟨hW,rfl⟩))
 have hg:m[i]?=some (m.getD i []):=A9 hlt
 generalize m.getD i []=r at hg
 refine .lssT O O O (by omega) (.goC O ?_)
 refine .par follows 8 [.inl _,.inl _,.inr (Ptr eV (fun _=>True) r),.inr (eV.at (fun _=>True) r),.inl _,.inl _,.inr (Ptr eV (fun _=>True) r),.inr (eV.at (fun _=>True) r)] [[],[],[(17,0),(18,1)],[(19,2)],[],[],[(21,4),(22,5)],[(23,6)]] (by kernel_rfl) ⟨
  fun w e=>(v_mv O).ob,
  fun w e=>(v_mv O).ob,
  fun w e=>D2 (i:=i) un_M ty_V O (ER.ext eM haW e) O hg,
  fun w e x2 hx2=>L8 ty_V O hx2,
  fun w e=>(v_mv O).ob,
  fun w e=>(v_mv O).ob,
  fun w e=>D2 (i:=i) un_M ty_V O (ER.ext eM hbW e) O hg,
  fun w e x6 hx6=>L8 ty_V O hx6,trivial⟩ ?_
 intro W3 d3 y2 hy2 y3 hy3 y6 hy6 y7 hy7
 refine .go O (.call _ O AE3 O (BA5 hy3 hy7 O) fun v4 W4 d4 h4=>?_)
 subst h4
 exact .go O (.inc O O O (by omega) (.goN O (.mk (i+1) O (lc1 O) ⟨⟨hW.trans (d3.trans d4),hlt⟩,by show m.length-(i+1)<m.length-i;omega⟩)))
end Go.Proofs.YtpgkacdihhjknaaGreat
namespace Go.Kx
open Go Go.RowKit
section
variable {n m:Nw} {c:Rat}
end
def lnC (y:LnV):List Value:=[.int .i64 y.f,.int .i64 y.t,.int .i64 y.x,.int .i64 y.c]
def flL (l:List LnV):List Value:=l.flatMap lnC
def mkL (y:LnV):Value:=.agg #[.int .i64 y.f,.int .i64 y.t,.int .i64 y.x,.int .i64 y.c]
def okL (y:LnV):Prop:=inI y.f/\inI y.t/\inI y.x/\inI y.c
theorem AJ9:∀ l:List LnV,(flL l).length=l.length*4
 | []=>rfl
 | a::l=>by
  show (lnC a++flL l).length=(l.length+1)*4
  rw [List.length_append,AJ9 l]
  show 4+_=_
  omega
theorem AK0 (l:List LnV):cellsOf (l.map mkL)=flL l:=by
 unfold cellsOf flL
 rw [List.flatMap_map];rfl
section
variable {t:TypeId} {base:Nat} {X:Nat->Prop} {w:World} {v:Value} {l:List LnV}
theorem own_mk {es:List Value} {S:Nat->Prop} (he:Els eL S w es l):es=l.map mkL/\∀ y∈l,okL y:=by
 constructor
 ·apply List.ext_getElem?
  intro i
  rw [List.getElem?_map]
  rcases Nat.lt_or_ge i l.length with h | h
  ·rw [List.getElem?_eq_getElem h]
   have h':i<es.length:=by rw [he.1];exact h
   rw [List.getElem?_eq_getElem h']
   exact congrArg some (he.2 i _ _ (List.getElem?_eq_getElem h') (List.getElem?_eq_getElem h)).1
  ·rw [List.getElem?_eq_none h,List.getElem?_eq_none (by rw [he.1];exact h)];rfl
 ·intro y hy
  obtain ⟨i,hi⟩:=List.mem_iff_getElem?.1 hy
  have h:i<l.length:=(List.getElem?_eq_some_iff.1 hi).1
  have h':i<es.length:=by rw [he.1];exact h
  exact (he.2 i _ _ (List.getElem?_eq_getElem h') hi).2
theorem els_mk {S:Nat->Prop} (h:∀ y∈l,okL y):Els eL S w (l.map mkL) l:=by
 refine ⟨List.length_map ..,fun i e x he hx=>?_⟩
 rw [List.getElem?_map,hx] at he
 cases he
 exact ⟨rfl,h x (List.mem_iff_getElem?.2 ⟨i,hx⟩)⟩
theorem OwnL.lines (h:OwnL eL t base X w v l) (hne:0<l.length):∃ g cap rest,v=.slice (some ⟨g,0,none⟩) l.length cap/\base<=g/\Blk w g t (flL l++rest).toArray /\
  ∀ l' w',l'.length=l.length->(∀ y∈l',okL y)->Blk w' g t (flL l'++rest).toArray->OwnL eL t base X w' v l':=by
 obtain ⟨es,h1,he⟩:=h
 obtain ⟨rfl,hok⟩:=own_mk he
 rcases h1.2 with ⟨hv,hz⟩ | ⟨g,cap,cur,hv,hb,hg,c1,c2,c3,c4⟩
 ·exfalso;omega
 have hB:Blk w g t (flL l++cur.toList.drop (l.length*4)).toArray:=by
  rw [<-AK0,<-c4]
  show Blk w g t (List.take (l.length*4) cur.toList++_).toArray
  rw [List.take_append_drop];exact hg
 refine ⟨g,cap,cur.toList.drop (l.length*4),hv,hb,hB,fun l' w' hl hok' hB'=>?_⟩
 have hcz:cur.toList.length=(flL l++cur.toList.drop (l.length*4)).length:=by
  rw [<-AK0,<-c4]
  show _=(List.take (l.length*4) cur.toList++_).length
  rw [List.take_append_drop]
 rw [List.length_append,AJ9] at hcz
 refine ⟨l'.map mkL,⟨?_,.inr ⟨g,cap,_,by rw [hl];exact hv,hb,hB',by rw [hl];exact c1,c2,?_,?_⟩⟩,els_mk hok'⟩
 ·rw [AK0,AJ9];rfl
 ·rw [<-c3,List.size_toArray,List.length_append,AJ9,hl,<-hcz,Array.length_toList]
 ·rw [AK0]
  show (flL l'++_).take (l'.length*4)=_
  rw [List.take_append_of_le_length (by rw [AJ9];exact Nat.le_refl _),List.take_of_length_le (by rw [AJ9];exact Nat.le_refl _)]
end
section
variable {P:Program} {σ:Env} {w:World} {d:Option Tmp} {ty:TypeId} {pos:String} {af:Array Edge} {g:Option (Nat×Bool)}
end
end Go.Kx
namespace Go.Proofs.YtpgkacdihhjknaaGreat
open Go Go.Kx Go.RowKit
end Go.Proofs.YtpgkacdihhjknaaGreat
namespace Go.Kx
open Go Go.RowKit
section
variable {P:Program} {σ:Env} {w:World} {d:Option Tmp} {ty:TypeId} {pos:String} {af:Array Edge} {g:Option (Nat×Bool)}
end
end Go.Kx
namespace Go.Proofs.YtpgkacdihhjknaaGreat
open Go Go.Kx Go.RowKit
theorem bld_N0:bldOf Tryz.prog 24 []=some #[.int .i64 0,.slice none 0 0]:=by kernel_rfl
theorem BA2 {w:World} {σ:Env} {d:Option Tmp} {ty:TypeId} {pos:String} {af:Array Edge} {g:Option (Nat×Bool)} {t te:TypeId} {n:Nat} {ps:List (Nat×Operand)} (vs:List (Nat×Value)) (l:List Int) (hv:evp σ ps=some vs) (hc:bslOf Tryz.prog t n vs=some (te,(l.map iv).toArray)) (hr:∀ x∈l,-9223372036854775808<=x/\x<=9223372036854775807) (hn:l.length=n) (hm:n<=1000) :
  Gv Tryz.prog ⟨d,.buildSlice t n ps.toArray,ty,pos,af,g⟩ σ w fun v' w'=>Ext w w'/\Sp.ok (.inr (eI.at (fun _=>True) l)) v' w' :=
 (AL4 (ps:=ps) _ hv hc).mono fun v' w' ⟨b2,hv',n2⟩=>⟨n2.1,fun w'' e=>by
  rw [hv']
  exact ER.ext eI (L9 l n n2 upT O hn hr (by omega)) e⟩
theorem BB0:infoOf Tryz.prog 53=some (.agg #[.int .i64 0,.int .i64 0,.int .i64 0,.int .i64 0],4,32):=by kernel_rfl
theorem ob_Lz {w:World} {σ:Env} {d:Option Tmp} {ty:TypeId} {pos:String} {af:Array Edge} {g:Option (Nat×Bool)} :
  Gv Tryz.prog ⟨d,.makeSlice 22 (.const (.int .i64 11)) (.const (.int .i64 11)),ty,pos,af,g⟩ σ w fun v' w'=>Ext w w'/\Sp.ok (.inr (eLs.at (fun _=>True) (List.replicate 11 lz))) v' w' :=
 (Aw3 11 11 M4 BB0 O (by decide) O O (Nat.le_refl _) (by decide) (by decide)).mono fun v' w' ⟨b,hv,n2⟩=>⟨n2.1,fun w'' e=>by
  subst hv
  have f:=FB.made (E:=eL) (S:=fun _=>True) (z0:=lz) n2 ⟨rfl,E9.2 (by decide),E9.2 (by decide),E9.2 (by decide),E9.2 (by decide)⟩
  have r:=f.toR (hsz:=by decide) (c:=11) trivial (by simp) (by simp)
  rw [List.length_replicate] at r
  exact ER.ext eLs r e⟩
end Go.Proofs.YtpgkacdihhjknaaGreat
