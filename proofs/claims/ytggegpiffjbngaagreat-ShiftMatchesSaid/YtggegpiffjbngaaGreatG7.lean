/-
  What the claim leans on.
-/
import Derived.Test.YtggegpiffjbngaaGreatG6
set_option linter.unusedVariables false
namespace Go.Proofs.YtggegpiffjbngaaGreat
open Go Go.Kx Go.RowKit
theorem hf_mk {n:NtV} {o:List Int} (h:nwOk n o) (M B:Nat):mk_ 174764 (tabM M B (nwOf n o).hf):=Ad0 fun k b _ _=>Ag3 h k b
theorem Y7:Ent Tryz.prog 19:=A0 Tryz.func19 (by kernel_rfl) rfl
theorem Ab4 {S T0:Nat->Prop} {w:World} {vn vo:Value} {n:NtV} {o:List Int} (up:Up S w) (upo:Up T0 w) (hn:eN.R S w vn n) (ho:eI.R S w vo o) :
  CR Tryz.prog 19 #[vn,vo] w (Two (eM.at T0 (if outE n o=0 then tabM n.ls.length (nwOf n o).B (nwOf n o).hf else [])) (Is (.int .i64 (outE n o)))):=by
 obtain ⟨s,rfl,hs,hb⟩:=hn
 have hn:eN.R S w (.agg #[.int .i64 n.b,s]) n:=⟨s,rfl,hs,hb⟩
 refine enter Tryz.func19 O Tryz.ntmps19 O ?_
 refine .sr (.box O O fun w1 b2 n1=>.asg O O (.an O O ?_))
 obtain ⟨e1,k2,hb2,hs1⟩:=n1
 refine .sr (.ldA ty_N O O k2 O (.mv O O ?_))
 refine .call _ O BA8 O (Aw7 (up.ext e1.size) (hn.ext e1) (ho.ext e1)) fun v2 w2 e2 h2=>?_
 obtain ⟨vl,ve,rfl,hl,he⟩:=h2
 replace he:ve=.int .i64 (outE n o):=he
 subst he
 obtain ⟨al,cl,hvl,_⟩:=RL.len hl
 refine .mv O O (.ext O O O (.ext O O O (.alloc O BB2 fun w3 b6 n3=>?_)))
 obtain ⟨e3,k6,hb6,hs3⟩:=n3
 refine .store ty_I O O k6 (by rw [hvl];rfl) (by simp [Value.cells]) (by rw [hvl];simp [one1,Value.cells]) fun w4 k6 u4=>.an O O (.seq (.sr (.mv O O ?_)))
 replace k6:Blk w4 b6 25 #[vl]:=by rw [hvl] at k6 ⊢;exact k6
 have x2:=e1.trans e2
 have x24:Ext w2 w4:=u4.below e3 (by omega)
 have x4:=x2.trans x24
 by_cases hE:outE n o=0
 rotate_left
 ·refine .neqT O O O hE (.nil (.condT O (.sr (.mv O O (.asg O O (.an O O (.ret ?_)))))))
  refine .plain [_,_] Tryz.results19 ⟨rfl,rfl,trivial⟩ ⟨x4,_,_,rfl,?_,rfl⟩
  rw [if_neg hE];exact RL.nil
 have ok:=N1 hE
 rw [if_pos hE] at hl ⊢
 have hB1:=ok.b1
 have hB6:=ok.b6
 have hM10:n.ls.length<=10:=ok.m
 have hnb:=ok.b
 refine .neqF O O O hE (.nil (.condF O (.skip (.sr (.ldA ty_N O O (k2.ext (e2.trans x24)) O (.mv O O ?_))))))
 have hl4:=ER.ext eI hl x24
 refine .call _ O Am0 O (Ak9 (up.ext x4.size) (hn.ext x4) (ho.ext x4)) fun v5 w5 e5 h5=>?_
 obtain ⟨vr,ve,rfl,hr,he⟩:=h5
 replace he:ve=.int .i64 (outE n o):=he
 subst he
 rw [if_pos hE] at hr
 have x5:=x4.trans e5
 refine .mv O O (.ext O O O (.ext O O O (.asg O O (.an O O (.seq (.sr (.mv O O (.neqF O O O hE (.nil (.condF O (.skip (.sr (.ldA ty_N O O ((k2.ext (e2.trans x24)).ext e5) O (.ld ty_I O O (k6.ext e5) O (.mv O O ?_)))))))))))))))
 have hl5:=ER.ext eI hl4 e5
 refine .call _ O AU6 O (AS5 (up.ext x5.size) (hn.ext x5) hl5 hr ok) fun vA w6 e6 hA=>?_
 have x6:=x5.trans e6
 have hcA:colsOf (nwOf n o).gA=(nwOf n o).gA.length:=by rw [AN0 hB1,K7]
 refine .call _ O Ac3 O (Ab3 (L:=21) (n:=6) (m:=(nwOf n o).gA) (up.ext x6.size) hA (BJ1 ok) (by decide) (by rw [K7];exact hB6) (by rw [hcA,K7];omega) (by decide) (by decide)) fun v7 w7 e7 h7=>?_
 obtain ⟨vi,ve,rfl,hi,he⟩:=h7
 replace he:ve=.int .i64 (if colsOf (nwOf n o).gA=(nwOf n o).gA.length then (if invertible (nwOf n o).gA then 0 else 8) else 13):=he
 have hinv:=Ar4 ok.ok hB1
 rw [if_pos hcA,if_pos hinv] at he
 subst he
 replace hi:eM.R S w7 vi (invM (nwOf n o).gA):=by rw [if_pos ⟨hcA,hinv⟩] at hi;exact hi
 obtain ⟨ai,ci,hvi,_⟩:=RL.len hi
 have x7:=x6.trans e7
 refine .mv O O (.ext O O O (.ext O O O (.alloc O zero_M fun w8 b9 n8=>?_)))
 obtain ⟨e8,k9,hb9,hs8⟩:=n8
 refine .store ty_M O O k9 (by rw [hvi];rfl) (by simp [Value.cells]) (by rw [hvi];simp [one1,Value.cells]) fun w9 k9 u9=>.an O O (.seq (.sr (.mv O O (.neqF O O O O (.nil (.condF O (.skip (.sr (.mkf [] [_,_,_] O O O O (.an O O (.sr (.an O O ?_))))))))))))
 replace k9:Blk w9 b9 28 #[vi]:=by rw [hvi] at k9 ⊢;exact k9
 have x79:Ext w7 w9:=u9.below e8 (by omega)
 have x9:=x7.trans x79
 have x49:Ext w4 w9:=((e5.trans e6).trans e7).trans x79
 have k2:=(k2.ext (e2.trans x24)).ext x49
 have k6:=k6.ext x49
 have hs9:=x9.size
 have hsW:∀ {W:World},Ext w9 W->eLs.R (fun k=>S k/\k<w9.heap.size) W s n.ls:=fun e=>ER.ext eLs (ER.lt eLs (hs.ext x9)) e
 have hlW:∀ {W:World},Ext w9 W->eI.R (fun k=>S k/\k<w9.heap.size) W vl (pInts (inL n o)):=fun e=>ER.ext eI (ER.lt eI (ER.ext eI hl4 x49)) e
 have hiW:∀ {W:World},Ext w9 W->eM.R (fun k=>S k/\k<w9.heap.size) W vi (invM (nwOf n o).gA):=fun e=>ER.ext eM (ER.lt eM (ER.ext eM hi x79)) e
 have hik:mk_ 87381 (invM (nwOf n o).gA):=by
  have:=BI4 (n:=6) (BJ1 ok) (by decide) (by rw [K7];exact hB6)
  rwa [bd216] at this
 rw [hnb] at k2
 generalize hG:(fun b=>tab n.ls.length ((nwOf n o).fl ((nwOf n o).th b)))=G
 have hGl:∀ b,(G b).length=n.ls.length:=fun b=>by rw [<-hG];exact A1 ..
 refine .mid (α:=Value) (fun v=>[(2,.pointer (some ⟨b2,0,none⟩)),(11,v)]) (fun v W=>Ext w9 W/\OwnL eV 32 w9.heap.size T0 W v ((List.range (nwOf n o).B).map G)) ?_ ?_
 ·refine .sr (.fa E5 O O (.ld A3 O O k2 O (.mv O O (.nil ?_))))
  refine .block (.loop (α:=Nat×Value) (fun y=>[(2,.pointer (some ⟨b2,0,none⟩)),(10,.func (.func 74) #[] #[.pointer (some ⟨b2,0,none⟩),.pointer (some ⟨b6,0,none⟩),.pointer (some ⟨b9,0,none⟩)]),(11,y.2),(44,.int .i64 ((nwOf n o).B:Nat)),(45,.int .i64 (y.1:Nat))]) (fun y W=>Ext w9 W/\y.1<=(nwOf n o).B/\OwnL eV 32 w9.heap.size T0 W y.2 ((List.range y.1).map G)) (fun y=>(nwOf n o).B-y.1) (0,.slice none 0 0) ?_ ?_ ?_)
  ·exact lkA rfl
  ·exact ⟨Ext.refl _,Nat.zero_le _,OwnL.nil⟩
  rintro ⟨b,v⟩ W ⟨hW,hbB,hown⟩
  replace hW:Ext w9 W:=hW
  replace hbB:b<=(nwOf n o).B:=hbB
  replace hown:OwnL eV 32 w9.heap.size T0 W v ((List.range b).map G):=hown
  have hWs:=hW.size
  refine .sr ?_
  rcases Nat.lt_or_ge b (nwOf n o).B with hlt | hge
  rotate_left
  ·refine .lssF O O O (by omega) (.nil (.seq (.condF O (.exit ?_))))
   have:b=(nwOf n o).B:=by omega
   subst this
   exact ⟨rfl,v,lkA rfl,hW,hown⟩
  obtain ⟨es,ho1,_⟩:=id hown
  have hT:∀ k,S k/\k<w9.heap.size->S k/\v.ownBlock≠some k:=fun k h=>⟨h.1,fun e=>by have:=(ho1.lt k e).1;have:=h.2;omega⟩
  have upO:Up (fun k=>T0 k/\v.ownBlock≠some k) W:=fun k hk=>⟨upo k (by omega),fun e=>by have:=(ho1.lt k e).2;omega⟩
  have upT:Up (fun k=>S k/\v.ownBlock≠some k) W:=fun k hk=>⟨up k (by omega),fun e=>by have:=(ho1.lt k e).2;omega⟩
  refine .lssT O O O (by omega) (.nil (.seq (.condT O (.skip (.seq (.block (.sr (.mv O O (.an O O (.region (.mv O O (.mv O O (.mv O O ?_)))))))))))))
  refine .callv [.int .i64 (b:Nat)] O O E_col O (col_t (S:=fun k=>S k/\v.ownBlock≠some k) (T0:=fun k=>T0 k/\v.ownBlock≠some k) (b:=b) upT upO ok (k2.ext hW) (eLs.mono (fun k _ h=>hT k h) (hsW hW)) (k6.ext hW) (eI.mono (fun k _ h=>hT k h) (hlW hW)) (k9.ext hW) (eM.mono (fun k _ h=>hT k h) (hiW hW)) hik (by decide) (by decide)) fun vc W1 f1 hc=>?_
  have hc:eV.R (fun k=>T0 k/\v.ownBlock≠some k) W1 vc (G b):=by rw [<-hG];exact hc
  obtain ⟨ac,cc,hvc,_⟩:=RL.len hc
  rw [hGl] at hvc
  subst hvc
  refine .bsl _ O O As0 fun W2 by_ ny=>?_
  obtain ⟨ey,ky,hby,hsy⟩:=ny
  have f2:=f1.trans ey
  have hW2:=hW.trans f2
  refine .gv O O (J8 (E:=eV) (base:=w9.heap.size) (n:=G b) (e:=.slice ac n.ls.length cc) (by decide) un_M AG9 O O O (hown.ext f2) ky (ER.ext eV hc ey) (by simp;omega) (by decide) hW2.size) ?_
  rintro v8 W8 ⟨ho8,hg8⟩
  refine .an O O (.region (.add O O O (.mv O O (.nil ?_))))
  rw [wI (by omega)]
  refine ⟨rfl,(b+1,v8),lkA rfl,⟨(hown.ext f2).below hg8 hW2 hW2.size,hlt,?_⟩,by show (nwOf n o).B-(b+1)<(nwOf n o).B-b;omega⟩
  show OwnL eV 32 w9.heap.size T0 W8 v8 ((List.range (b+1)).map G)
  rw [List.range_succ,List.map_append]
  exact ho8
 rintro v W ⟨hW,hown⟩
 have hcol:eM.R T0 W v (tabM (nwOf n o).B n.ls.length fun b k=>(nwOf n o).hf k b):=by
  have:=hown.toR (S:=T0) (hsz:=by decide) (fun k hk=>upo k (by omega)) (fun _ h=>h)
  rw [<-hG] at this
  exact this
 have hWs:=hW.size
 refine .sr (.mv O O (.fa G7 O O (.ld K6 O O (k2.ext hW) O (.lenR K4 O O (hsW hW) ?_))))
 refine .call _ O Az8 O (Au6 (upo.ext (x9.trans hW).size) hcol (by omega) (by omega)) fun vt W1 f1 ht=>.asg O O (.an O O (.ret ?_))
 exact .plain [_,_] Tryz.results19 ⟨rfl,rfl,trivial⟩ ⟨(x9.trans hW).trans f1,_,_,rfl,ht,by rw [hE]⟩
theorem Y4 {S:Nat->Prop} {w:World} {vn vo:Value} {n:NtV} {o:List Int} (up:Up S w) (hn:eN.R S w vn n) (ho:eI.R S w vo o) :
  CR Tryz.prog 19 #[vn,vo] w (Two (eM.at S (if outE n o=0 then tabM n.ls.length (nwOf n o).B (nwOf n o).hf else [])) (Is (.int .i64 (outE n o)))):=Ab4 up up hn ho
open Classical in
noncomputable def btE (n:NtV) (o:List Int) (a b:Int):Int:=if conE n o a b≠0 then conE n o a b else if conB n o a b=true then 0 else 8
theorem btE_ok {n:NtV} {o:List Int} {a b:Int} (h:btE n o a b=0):conE n o a b=0/\(nwOf n o).root a.toNat=(nwOf n o).root b.toNat:=by
 unfold btE at h
 split at h
 ·exact absurd h (by assumption)
 ·split at h
  ·rename_i h1 h2
   unfold conB at h2
   exact of_decide_eq_true h2
  ·cases h
def btV (n:NtV) (o:List Int) (a b:Nat):List QV:=tab n.ls.length fun k=>(nwOf n o).hf k a-(nwOf n o).hf k b
theorem Ac4:Ent Tryz.prog 20:=A0 Tryz.func20 (by kernel_rfl) rfl
theorem Ab5 {S T0:Nat->Prop} {w:World} {vn vo:Value} {n:NtV} {o:List Int} {a b:Int} (up:Up S w) (upo:Up T0 w) (hn:eN.R S w vn n) (ho:eI.R S w vo o) :
  CR Tryz.prog 20 #[vn,vo,.int .i64 a,.int .i64 b] w (Two (eV.at T0 (if btE n o a b=0 then btV n o a.toNat b.toNat else [])) (Is (.int .i64 (btE n o a b)))):=by
 have hvn:=shpA (E:=eN) O hn
 refine enter Tryz.func20 O Tryz.ntmps20 O ?_
 refine .sr (.box O O fun w1 b4 n1=>.asg O O (.an O O ?_))
 obtain ⟨e1,k4,hb4,hs1⟩:=n1
 refine .sr (.ldA ty_N O O k4 (eN.csz hn) (.mv O O (.mv O O (.mv O O ?_))))
 rw [<-hvn]
 refine .call _ O AR4 O (AP7 (up.ext e1.size) (hn.ext e1) (ho.ext e1)) fun v2 w2 e2 h2=>?_
 obtain ⟨vb,ve,rfl,hb,he⟩:=h2
 replace hb:vb=.bool (conB n o a b):=hb
 replace he:ve=.int .i64 (conE n o a b):=he
 subst hb;subst he
 have x2:=e1.trans e2
 refine .mv O O (.ext O O O (.ext O O O (.asg O O (.an O O (.seq (.sr (.mv O O ?_)))))))
 by_cases hE:conE n o a b=0
 rotate_left
 ·have hb:btE n o a b=conE n o a b:=by unfold btE;rw [if_pos hE]
  refine .neqT O O O hE (.nil (.condT O (.sr (.mv O O (.asg O O (.an O O (.ret ?_)))))))
  refine .plain [_,_] Tryz.results20 ⟨rfl,rfl,trivial⟩ ⟨x2,_,_,rfl,?_,by rw [hb];rfl⟩
  rw [if_neg (by rw [hb];exact hE)];exact RL.nil
 refine .neqF O O O hE (.nil (.condF O (.skip (.seq (.sr (.mv O O (.not_ O O (.nil ?_))))))))
 by_cases hC:conB n o a b=true
 rotate_left
 ·have hb:btE n o a b=8:=by unfold btE;rw [if_neg (by simpa using hE),if_neg hC]
  rw [Bool.not_eq_true] at hC
  rw [hC]
  refine .condT O (.sr (.asg O O (.an O O (.ret ?_))))
  refine .plain [_,_] Tryz.results20 ⟨rfl,rfl,trivial⟩ ⟨x2,_,_,rfl,?_,by rw [hb]⟩
  rw [if_neg (by rw [hb];decide)];exact RL.nil
 have hb:btE n o a b=0:=by unfold btE;rw [if_neg (by simpa using hE),if_pos hC]
 rw [hC,if_pos hb]
 obtain ⟨hO,hA,hBb⟩:=BJ6 hE
 have ok:=N1 hO
 have hB6:=ok.b6
 have hM10:n.ls.length<=10:=ok.m
 have hnb:=ok.b
 obtain ⟨a',rfl⟩:∃ a':Nat,a=a':=⟨a.toNat,by have:=hA.1;omega⟩
 obtain ⟨b',rfl⟩:∃ b':Nat,b=b':=⟨b.toNat,by have:=hBb.1;omega⟩
 have haB:a'<(nwOf n o).B:=by have:=hA.2;omega
 have hbB:b'<(nwOf n o).B:=by have:=hBb.2;omega
 refine .condF O (.skip (.sr (.ldA ty_N O O (k4.ext e2) (eN.csz hn) (.mv O O ?_))))
 rw [<-hvn]
 refine .call _ O Y7 O (Y4 (up.ext x2.size) (hn.ext x2) (ho.ext x2)) fun v3 w3 e3 h3=>?_
 obtain ⟨vm,ve,rfl,hm,he⟩:=h3
 replace he:ve=.int .i64 (outE n o):=he
 subst he
 rw [if_pos hO] at hm
 have x3:=x2.trans e3
 refine .mv O O (.ext O O O (.ext O O O (.asg O O (.an O O (.seq (.sr (.mv O O (.neqF O O O hO (.nil (.condF O (.skip (.sr (.mv O O (.lenR un_M O O hm ?_))))))))))))))
 rw [A4]
 refine .make_ _ _ un_V H4 O (by decide) O O O (Nat.le_refl _) (by omega) (by omega) fun w4 h n4=>.an O O ?_
 have f4:FB eQ 54 T0 w4 h (List.replicate n.ls.length q0):=FB.made n4 zq_R
 obtain ⟨e4,_,hh,hs4⟩:=n4
 have hmW:∀ {W:World},Below w3.heap.size w3 W->eM.R (fun k=>S k/\k<w3.heap.size) W vm (tabM n.ls.length (nwOf n o).B (nwOf n o).hf):=fun hB=>eM.keep (fun k c t f hk hh=>(hB.block k hk.2).trans hh) (ER.lt eM hm)
 refine .seq (.sr (.mv O O (.lenR un_M O O (hmW e4) (.mv O O (.nil ?_)))))
 rw [A4]
 generalize hG:(fun k=>qc ((nwOf n o).hf k a'-(nwOf n o).hf k b'))=G
 refine .block (.loop (α:=Nat) (fun i=>[(2,.int .i64 (a':Nat)),(3,.int .i64 (b':Nat)),(13,slB n.ls.length h),(41,vm),(42,.int .i64 (n.ls.length:Nat)),(43,.int .i64 (i:Nat))]) (fun i W=>Below w3.heap.size w3 W/\i<=n.ls.length/\FB eQ 54 T0 W h (fil n.ls.length i G q0)) (fun i=>n.ls.length-i) 0 ?_ ?_ ?_)
 ·exact lkA rfl
 ·exact ⟨e4,Nat.zero_le _,by rw [V5];exact f4⟩
 rintro i W ⟨hW,hi,fb⟩
 have hWs:=hW.size
 have hhl:=fb.lt
 refine .sr ?_
 rcases Nat.lt_or_ge i n.ls.length with hlt | hge
 rotate_left
 ·refine .lssF O O O (by omega) (.nil (.seq (.condF O (.exit (.sr (.mv O O (.asg O O (.an O O (.ret ?_)))))))))
  have:i=n.ls.length:=by omega
  subst this
  rw [AC1] at fb
  refine .plain [_,_] Tryz.results20 ⟨rfl,rfl,trivial⟩ ⟨x3.trans hW,_,_,rfl,?_,by rw [hb]⟩
  have:=fb.toR (hsz:=by decide) (c:=n.ls.length) (upo h (by have:=x3.size;omega)) (by simp) (by simp;omega)
  rw [List.length_map,List.length_range,<-hG] at this
  exact this
 refine .lssT O O O (by omega) (.nil (.seq (.condT O (.skip (.seq (.block (.sr (.mv O O (.ixN (i:=i) un_M ty_V O O (hmW hW) O (C8 hlt) fun q hq=>.ldE (E:=eV) ty_V O O hq fun vr hr=>.asg O O (.an O O ?_))))))))))
 have upO:∀ {W':World},Ext W W'->Up (fun k=>T0 k/\k≠h) W':=fun e k hk=>⟨upo k (by have:=e.size;have:=x3.size;omega),by have:=e.size;omega⟩
 have upT:∀ {W':World},Ext W W'->Up (fun k=>S k/\k≠h) W':=fun e k hk=>⟨up k (by have:=e.size;have:=x3.size;omega),by have:=e.size;omega⟩
 have hT:∀ k,S k/\k<w3.heap.size->S k/\k≠h:=fun k hk=>⟨hk.1,by have:=hk.2;omega⟩
 refine .par follows 11 [.inl (slB n.ls.length h),.inl (.int .i64 (i:Nat)),.inl vr,.inl (.int .i64 (a':Nat)),.inr (Ptr eQ (fun k=>S k/\k<w3.heap.size) (qc ((nwOf n o).hf i a'))),.inr (eQ.at (fun k=>S k/\k<w3.heap.size) (qc ((nwOf n o).hf i a'))),.inl vr,.inl (.int .i64 (b':Nat)),.inr (Ptr eQ (fun k=>S k/\k<w3.heap.size) (qc ((nwOf n o).hf i b'))),.inr (eQ.at (fun k=>S k/\k<w3.heap.size) (qc ((nwOf n o).hf i b'))),.inr (eQ.at (fun k=>T0 k/\k≠h) (G i))]
  [[],[],[],[],[(50,2),(51,3)],[(52,4)],[],[],[(54,6),(55,7)],[(56,8)],[(53,5),(57,9)]] (by kernel_rfl) ⟨
  fun w e=>(v_mv O).ob,fun w e=>(v_mv O).ob,fun w e=>(v_mv O).ob,fun w e=>(v_mv O).ob,
  fun w e=>B5 (i:=a') un_V ty_Q O (ER.ext eV hr e) O (G3 haB),fun w e x hx=>I5 ty_Q O hx,
  fun w e=>(v_mv O).ob,fun w e=>(v_mv O).ob,
  fun w e=>B5 (i:=b') un_V ty_Q O (ER.ext eV hr e) O (G3 hbB),fun w e x hx=>I5 ty_Q O hx,
  fun w e x hx y hy=>by
   have:=Ag9 (L:=174764) (upT e) (upO e) (eQ.mono (fun k _ h=>hT k h) hx) (eQ.mono (fun k _ h=>hT k h) hy) (Ag3 ok i a').toOk (Ag3 ok i b').toOk (by decide) (by decide)
   rw [B3,B3] at this
   rw [<-hG]
   exact (A2 _ AI1 O this).ob (A5 _ _ _),trivial⟩ ?_
 intro W1 f1 _ _ _ _ _ _ _ _ y hy
 refine .ixB (i:=i) un_V ty_Q O O O hlt (.storeF (E:=eQ) (i:=i) (by decide) ty_Q O O (fb.ext f1) O (by rw [J9];exact hlt) (Nat.zero_add _) hy fun W2 f2 u2=>.nil ?_)
 rw [U3] at f2
 refine .region (.add O O O (.mv O O (.nil ?_)))
 rw [wI (by omega)]
 exact ⟨rfl,i+1,lkA rfl,⟨u2.below (hW.trans (f1.mono hWs)) (by omega),hlt,f2⟩,by show n.ls.length-(i+1)<n.ls.length-i;omega⟩
theorem Ab6 {S:Nat->Prop} {w:World} {vn vo:Value} {n:NtV} {o:List Int} {a b:Int} (up:Up S w) (hn:eN.R S w vn n) (ho:eI.R S w vo o) :
  CR Tryz.prog 20 #[vn,vo,.int .i64 a,.int .i64 b] w (Two (eV.at S (if btE n o a b=0 then btV n o a.toNat b.toNat else [])) (Is (.int .i64 (btE n o a b)))):=Ab5 up up hn ho
open Classical in
noncomputable def sfE (n:NtV) (o:List Int) (l:Nat):Int:=if outE n o≠0 then outE n o else if (l:Int)<=n.b then 0 else 5
theorem BQ6 {n:NtV} {o:List Int} {l:Nat} (h:sfE n o l=0):outE n o=0/\(l:Int)<=n.b:=by
 unfold sfE at h
 split at h
 ·exact absurd h (by assumption)
 ·split at h
  ·exact ⟨Classical.not_not.1 (by assumption),by assumption⟩
  ·cases h
theorem E_shift_Flows:Ent Tryz.prog 27:=A0 Tryz.func27 (by kernel_rfl) rfl
theorem shift_Flows_t {S T0:Nat->Prop} {w:World} {vn vo vx:Value} {n:NtV} {o:List Int} {x:List QV} {L:Nat} (up:Up S w) (upo:Up T0 w) (hn:eN.R S w vn n) (ho:eI.R S w vo o) (hx:eV.R S w vx x) (hkx:vk L x) (hL1:1<=L) (hL:L<=1000000) :
  CR Tryz.prog 27 #[vn,vo,vx] w (Two (eV.at T0 (if sfE n o x.length=0 then tab n.ls.length fun k=>sumN x.length fun b=>(nwOf n o).hf k b*rv x b else [])) (Is (.int .i64 (sfE n o x.length)))):=by
 obtain ⟨s,rfl,hs,hb⟩:=hn
 have hn:eN.R S w (.agg #[.int .i64 n.b,s]) n:=⟨s,rfl,hs,hb⟩
 refine enter Tryz.func27 O Tryz.ntmps27 O ?_
 refine .sr (.box O O fun w1 b3 n1=>.asg O O (.an O O ?_))
 obtain ⟨e1,k3,hb3,hs1⟩:=n1
 refine .sr (.ldA ty_N O O k3 O (.mv O O ?_))
 refine .call _ O Y7 O (Y4 (up.ext e1.size) (hn.ext e1) (ho.ext e1)) fun v2 w2 e2 h2=>?_
 obtain ⟨vm,ve,rfl,hm,he⟩:=h2
 replace he:ve=.int .i64 (outE n o):=he
 subst he
 have x2:=e1.trans e2
 refine .mv O O (.ext O O O (.ext O O O (.asg O O (.an O O (.seq (.sr (.mv O O ?_)))))))
 by_cases hE:outE n o=0
 rotate_left
 ·have hb:sfE n o x.length=outE n o:=by unfold sfE;rw [if_pos hE]
  refine .neqT O O O hE (.nil (.condT O (.sr (.mv O O (.asg O O (.an O O (.ret ?_)))))))
  refine .plain [_,_] Tryz.results27 ⟨rfl,rfl,trivial⟩ ⟨x2,_,_,rfl,?_,by rw [hb];rfl⟩
  rw [if_neg (by rw [hb];exact hE)];exact RL.nil
 have ok:=N1 hE
 rw [if_pos hE] at hm
 have hB6:=ok.b6
 have hM10:n.ls.length<=10:=ok.m
 have hnb:=ok.b
 refine .neqF O O O hE (.nil (.condF O (.skip (.seq (.sr (.mv O O (.lenR un_V O O (hx.ext x2) (.fa E5 O O (.ld A3 O O (k3.ext e2) O ?_)))))))))
 by_cases hl:(x.length:Int)<=n.b
 rotate_left
 ·have hb:sfE n o x.length=5:=by unfold sfE;rw [if_neg (by simpa using hE),if_neg hl]
  refine .gtrT O O O (by omega) (.nil (.condT O (.sr (.asg O O (.an O O (.ret ?_))))))
  refine .plain [_,_] Tryz.results27 ⟨rfl,rfl,trivial⟩ ⟨x2,_,_,rfl,?_,by rw [hb]⟩
  rw [if_neg (by rw [hb];decide)];exact RL.nil
 have hb:sfE n o x.length=0:=by unfold sfE;rw [if_neg (by simpa using hE),if_pos hl]
 rw [if_pos hb]
 refine .gtrF O O O (by omega) (.nil (.condF O (.skip (.sr (.mv O O (.mv O O ?_))))))
 refine .call _ O At2 O (Ar0 (L:=1000000) (upo.ext x2.size) hm (hx.ext x2) ((hf_mk ok _ _).mono (by decide)) (hkx.mono hL) (by decide) (by decide) (by rw [A4];omega) (by omega)) fun v3 w3 e3 h3=>.asg O O (.an O O (.ret ?_))
 refine .plain [_,_] Tryz.results27 ⟨rfl,rfl,trivial⟩ ⟨x2.trans e3,_,_,rfl,?_,by rw [hb]⟩
 have e:(tab (tabM n.ls.length (nwOf n o).B (nwOf n o).hf).length fun i=>sumN x.length fun k=>rm (tabM n.ls.length (nwOf n o).B (nwOf n o).hf) i k*rv x k)=tab n.ls.length fun k=>sumN x.length fun b=>(nwOf n o).hf k b*rv x b:=by
  rw [A4]
  exact E1 fun k hk=>A6 fun b hb=>by rw [AS9,if_pos ⟨hk,by omega⟩]
 rw [e] at h3
 exact h3
end Go.Proofs.YtggegpiffjbngaaGreat
namespace Go.Kx
open Go Go.RowKit
def Nw.offM (n:Nw) (f:Nat->Rat) (b:Nat):Rat:=n.off (fun k=>if n.g k=0 then 0 else f k) b
end Go.Kx
namespace Go.Proofs.YtggegpiffjbngaaGreat
open Go Go.Kx Go.RowKit
open Classical in
noncomputable def noE (n:NtV) (o:List Int) (l:Nat):Int:=if outE n o≠0 then outE n o else if l<=n.ls.length then 0 else 5
end Go.Proofs.YtggegpiffjbngaaGreat
namespace Go.Kx
open Go Go.RowKit
section
variable {P:Program} {σ:Env} {w:World} {d:Option Tmp} {ty:TypeId} {pos:String} {af:Array Edge} {g:Option (Nat×Bool)}
end
end Go.Kx
namespace Go.Proofs.YtggegpiffjbngaaGreat
open Go Go.Kx Go.RowKit
end Go.Proofs.YtggegpiffjbngaaGreat
namespace Go.Kx
open Go Go.RowKit
section
variable {n:Nw}
theorem Nw.th_root (ok:n.Ok) {b c:Nat} (hb:b<n.B) (hr:n.root b=b) (hc:c<n.B):n.th b c=if n.root c=b then 1 else 0:=by
 refine Nw.uniq (φ:=fun c=>if n.root c=b then 1 else 0) ok (fun i hi=>?_) c hc
 have h:=Go.Proofs.YtggegpiffjbngaaGreat.th_eq ok (by omega) hb hi
 split
 ·rename_i hri
  rw [if_pos hri] at h
  rw [h,hri];rfl
 ·rename_i hri
  rw [if_neg hri] at h
  rw [h,BJ3 (a:=i) (b:=b) (fun e=>hri (by rw [e];exact hr))]
  symm
  unfold Nw.lap Nw.off
  refine E9 fun k hk=>?_
  unfold Nw.fl
  by_cases hg:n.g k=0
  ·rw [hg];grind
  ·dsimp only
   rw [Nw.root_line hk hg];grind
theorem Nw.hf_root (ok:n.Ok) {k b:Nat} (hk:k<n.M) (hb:b<n.B) (hr:n.root b=b):n.hf k b=0:=by
 unfold Nw.hf Nw.fl
 rw [Nw.th_root ok hb hr (ok.f k hk),Nw.th_root ok hb hr (ok.t k hk)]
 by_cases hg:n.g k=0
 ·rw [hg,Rat.zero_mul]
 ·rw [Nw.root_line hk hg];grind
end
section
variable {n:Nw}
theorem sum_two {B a c:Nat} (ha:a<B) (hc:c<B) (D:Nat->Prop) [DecidablePred D]:sumN B (fun i=>if D i then dl i a-dl i c else 0)=(if D a then 1 else 0)-(if D c then 1 else 0):=by
 have e:sumN B (fun i=>if D i then dl i a-dl i c else 0)=sumN B (fun i=>(if D i then 1 else 0)*dl a i-(if D i then 1 else 0)*dl c i):=A6 fun i _=>by
  have h1:dl i a=dl a i:=by unfold dl;split<;>split<;>first | rfl | omega
  have h2:dl i c=dl c i:=by unfold dl;split<;>split<;>first | rfl | omega
  rw [h1,h2]
  split<;>grind
 rw [e,AE6,AP1 (fun i=>if D i then 1 else 0) ha,AP1 (fun i=>if D i then 1 else 0) hc]
end
theorem OwnL.one {α:Type} {E:ER α} {t:TypeId} {base:Nat} {X:Nat->Prop} {w w':World} {b:Nat} {e:Value} {x:α} (hn:New w w' b t e.cells) (hb:base<=w.heap.size) (hs:e.cells.size=E.sz) (hx:E.R (fun k=>X k/\k≠b) w' e x):OwnL E t base X w' (.slice (some ⟨b,0,none⟩) 1 1) [x]:=by
 obtain ⟨_,hk,hb',_⟩:=hn
 have hc:cellsOf [e]=e.cells.toList:=by simp [cellsOf]
 refine ⟨[e],⟨by rw [hc];simp [hs],.inr ⟨b,1,_,rfl,by omega,hk,Nat.le_refl _,by decide,by simp [hs],by rw [hc,List.take_of_length_le (by simp [hs])]⟩⟩,rfl,fun i e' x' he hx'=>?_⟩
 have hi:i=0:=by
  cases i with
  | zero=>rfl
  | succ i=>simp at he
 subst hi
 simp at he hx'
 subst he;subst hx'
 exact E.mono (fun k _ h=>⟨h.1,fun e=>h.2 (by simpa [Value.ownBlock] using e.symm)⟩) hx
section
variable {n:Nw}
theorem Nw.lap_add (θ φ:Nat->Rat) (b:Nat):n.lap (fun c=>θ c+φ c) b=n.lap θ b+n.lap φ b:=by
 unfold Nw.lap Nw.off
 rw [<-Af1]
 refine A6 fun k _=>?_
 unfold Nw.fl;grind
theorem Nw.lap_smul (θ:Nat->Rat) (y:Rat) (b:Nat):n.lap (fun c=>θ c*y) b=n.lap θ b*y:=by
 unfold Nw.lap Nw.off
 rw [<-S9]
 refine A6 fun k _=>?_
 unfold Nw.fl;grind
theorem Nw.lap_zero (b:Nat):n.lap (fun _=>0) b=0:=by
 unfold Nw.lap Nw.off
 refine E9 fun k _=>?_
 unfold Nw.fl;grind
theorem Nw.lap_lin (t:Nat->Nat->Rat) (y:Nat->Rat) (i:Nat):∀ m,n.lap (fun c=>sumN m fun b=>t b c*y b) i=sumN m fun b=>n.lap (t b) i*y b
 | 0=>Nw.lap_zero i
 | m+1=>by
  show n.lap (fun c=>(sumN m fun b=>t b c*y b)+t m c*y m) i=(sumN m fun b=>n.lap (t b) i*y b)+n.lap (t m) i*y m
  rw [Nw.lap_add,Nw.lap_lin t y i m,Nw.lap_smul]
theorem Nw.fl_lin (t:Nat->Nat->Rat) (y:Nat->Rat) (k:Nat):∀ m,n.fl (fun c=>sumN m fun b=>t b c*y b) k=sumN m fun b=>n.fl (t b) k*y b
 | 0=>by unfold Nw.fl;show n.g k*(0-0)=0;grind
 | m+1=>by
  have ih:=Nw.fl_lin t y k m
  show n.fl (fun c=>(sumN m fun b=>t b c*y b)+t m c*y m) k=(sumN m fun b=>n.fl (t b) k*y b)+n.fl (t m) k*y m
  rw [<-ih]
  unfold Nw.fl;grind
def Nw.inj0 (n:Nw) (x:Nat->Rat) (b:Nat):Rat:=if n.root b=b then 0 else x b
def Nw.an (n:Nw) (x:Nat->Rat) (c:Nat):Rat:=sumN n.B fun b=>n.th b c*n.inj0 x b
def Nw.bal (n:Nw) (x:Nat->Rat):Prop:=∀ r,r<n.B->n.root r=r->sumN n.B (fun b=>if n.root b=r then x b else 0)=0
theorem Nw.fl_an (ok:n.Ok) (x:Nat->Rat) {k:Nat} (hk:k<n.M):n.fl (n.an x) k=sumN n.B fun b=>n.hf k b*x b:=by
 unfold Nw.an
 rw [Nw.fl_lin]
 refine A6 fun b hb=>?_
 unfold Nw.inj0
 by_cases hr:n.root b=b
 ·rw [if_pos hr,Nw.hf_root ok hk hb hr];grind
 ·rw [if_neg hr];rfl
theorem Nw.bal_lab (x:Nat->Rat):n.bal x<->∀ j,j<n.B->sumN n.B (fun b=>if n.lab b=j then x b else 0)=0:=by
 have key:∀ r,r<n.B->n.root r=r->sumN n.B (fun b=>if n.lab b=n.lab r then x b else 0)=sumN n.B (fun b=>if n.root b=r then x b else 0):=fun r hr hrr=>A6 fun b hb=>by
  by_cases h:n.root b=r
  ·rw [if_pos h,if_pos ((Nw.lab_eq hb hr).2 (h.trans hrr.symm))]
  ·rw [if_neg h,if_neg fun h'=>h (((Nw.lab_eq hb hr).1 h').trans hrr)]
 constructor
 ·intro h j hj
  by_cases hex:∃ b,b<n.B/\n.lab b=j
  ·obtain ⟨b,hb,rfl⟩:=hex
   have hrb:n.root b<n.B:=Nat.lt_of_le_of_lt (Nw.root_le b) hb
   rw [n.lab_of b,key _ hrb (Nw.root_root b)]
   exact h _ hrb (Nw.root_root b)
  ·exact E9 fun b hb=>by rw [if_neg fun h=>hex ⟨b,hb,h⟩]
 ·intro h r hr hrr
  rw [<-key r hr hrr]
  exact h _ (Nat.lt_of_le_of_lt (n.lab_le r) hr)
def Nw.bl (n:Nw) (x:Nat->Rat) (b:Nat):Rat:=if n.root b=b then-sumN n.B (fun c=>if c≠b/\n.root c=b then x c else 0) else x b
end
end Go.Kx
namespace Go.Proofs.YtggegpiffjbngaaGreat
open Go Go.Kx Go.RowKit
theorem bd6 (L:Nat):bd L 6=4096*L+1365:=by
 simp only [bd];omega
open Classical in
noncomputable def anE (n:NtV) (o:List Int) (x:List QV):Int:=if sfE n o x.length≠0 then sfE n o x.length else if (nwOf n o).bal (rv x) then 0 else 10
theorem anE_ok {n:NtV} {o:List Int} {x:List QV} (h:anE n o x=0):sfE n o x.length=0/\(nwOf n o).bal (rv x):=by
 unfold anE at h
 split at h
 ·exact absurd h (by assumption)
 ·split at h
  ·exact ⟨Classical.not_not.1 (by assumption),by assumption⟩
  ·cases h
theorem anE_of {n:NtV} {o:List Int} {x:List QV} (h:outE n o=0) (hx:(x.length:Int)<=n.b) (hb:(nwOf n o).bal (rv x)):anE n o x=0:=by
 have:sfE n o x.length=0:=by unfold sfE;rw [if_neg (by simpa using h),if_pos hx]
 unfold anE
 rw [if_neg (by simpa using this),if_pos hb]
theorem an_sol {n:NtV} {o:List Int} (ok:nwOk n o) {r x:List QV} (hr:r.length=(nwOf n o).B) (hx:∀ b,b<(nwOf n o).B->rv r b=(nwOf n o).inj0 (rv x) b):solvable (nwOf n o).gA r/\tab (nwOf n o).B (rv (solX (nwOf n o).gA r))=tab (nwOf n o).B ((nwOf n o).an (rv x)):=by
 have hs:solvable (nwOf n o).gA r:=BT1 (by rw [AN0 ok.b1,K7]) (Ar4 ok.ok ok.b1) fun i hi=>AV7 (by rw [K7] at hi;omega)
 refine ⟨hs,E1 fun c hc=>?_⟩
 rw [<-inv_sol (by rw [AN0 ok.b1,K7]) (Ar4 ok.ok ok.b1) hs (by rw [K7];exact hc),K7]
 unfold Nw.an
 refine A6 fun b hb=>?_
 rw [hx b hb];rfl
theorem BV2 {n:NtV} {o:List Int} (ok:nwOk n o) {x:Nat->Rat} {L:Nat} (hL:1<=L) (hx:∀ b,Rsz (x b) L) (c:Nat):Rsz ((nwOf n o).an x c) (1+6*(87381+L+1)):=by
 unfold Nw.an
 refine (AJ5 (L:=87381+L) fun b _=>(BP7 ok b c).mul ?_).mono (by have:=Nat.mul_le_mul_right (87381+L+1) ok.b6;omega)
 unfold Nw.inj0
 split
 ·exact Rsz.zero hL
 ·exact hx b
theorem isM_t {w:World} {va vb:Value} {a b:List (List QV)} (ha:eM.R (fun _=>True) w va a) (hb:eM.R (fun _=>True) w vb b) (h:a=b):CR Tryz.prog 21 #[va,vb] w (Is (.bool true)):=by
 have:=BC5 ha hb
 rwa [L8 h] at this
theorem isV_t {w:World} {va vb:Value} {a b:List QV} (ha:eV.R (fun _=>True) w va a) (hb:eV.R (fun _=>True) w vb b) (h:a=b):CR Tryz.prog 22 #[va,vb] w (Is (.bool true)):=by
 have:=Ag0 ha hb
 rwa [L8 h] at this
end Go.Proofs.YtggegpiffjbngaaGreat
namespace Go.Kx
open Go Go.RowKit
theorem Nw.th_cand {n:Nw} (ok:n.Ok) (hB:1<=n.B) (cand:Nat->Nat->Rat) (h:∀ b,b<n.B->∀ i,i<n.B->(if n.root i=i then cand b i else n.lap (cand b) i)=dl i b) {b c:Nat} (hb:b<n.B) (hc:c<n.B):n.th b c=cand b c :=
 Nw.uniq ok (fun i hi=>by
  have h1:=Go.Proofs.YtggegpiffjbngaaGreat.th_eq ok hB hb hi
  have h2:=h b hb i hi
  split
  ·rw [if_pos (by assumption)] at h1 h2;rw [h1,h2]
  ·rw [if_neg (by assumption)] at h1 h2;rw [h1,h2]) c hc
theorem Nw.hf_cand {n:Nw} (ok:n.Ok) (hB:1<=n.B) (cand:Nat->Nat->Rat) (h:∀ b,b<n.B->∀ i,i<n.B->(if n.root i=i then cand b i else n.lap (cand b) i)=dl i b) {k b:Nat} (hk:k<n.M) (hb:b<n.B):n.hf k b=n.fl (cand b) k:=by
 unfold Nw.hf Nw.fl
 rw [Nw.th_cand ok hB cand h hb (ok.f k hk),Nw.th_cand ok hB cand h hb (ok.t k hk)]
def net3:NtV:=⟨3,[⟨0,1,10,100⟩,⟨1,2,5,50⟩,⟨0,2,10,70⟩]⟩
def cand3 (b c:Nat):Rat:=if b=0 then 1 else if c=0 then 0 else if b=c then 6 else 4
def outsB (m:Nat) (o:List Int):Bool:=(List.range o.length).all fun i=>decide (0<=o.getD i 0) && decide (o.getD i 0<m) && (decide (i=0) || decide (o.getD (i-1) 0<o.getD i 0))
theorem BS1 {n:NtV} {o:List Int} (h:outsB n.ls.length o=true):outsOk n o:=by
 unfold outsB at h
 rw [List.all_eq_true] at h
 intro i hi
 have:=h i (List.mem_range.2 hi)
 simp only [Bool.and_eq_true,Bool.or_eq_true,decide_eq_true_eq] at this
 exact ⟨this.1.1,this.1.2,fun h0=>by rcases this.2 with h | h;omega;exact h⟩
def chkB (n:NtV):Bool:=decide (1<=n.b) && decide (n.b<=6) && decide (n.ls.length<=10) && n.ls.all fun l=>(List.range 5).all fun i=>ck i n.b l
theorem outE_of {n:NtV} {o:List Int} (h:chkB n=true) (ho:outsB n.ls.length o=true):outE n o=0:=by
 unfold chkB at h
 simp only [Bool.and_eq_true,decide_eq_true_eq,List.all_eq_true] at h
 obtain ⟨⟨⟨h1,h2⟩,h3⟩,h4⟩:=h
 have hc:chkE n=0:=by
  unfold chkE
  rw [if_neg (by omega),if_neg (by omega),if_pos]
  exact fun i _ l hl j hj=>h4 l (List.mem_iff_getElem?.2 ⟨i,hl⟩) j (List.mem_range.2 hj)
 unfold outE
 rw [if_neg (by simpa using hc),if_pos (BS1 ho)]
end Go.Kx
namespace Go.Proofs.YtggegpiffjbngaaGreat
open Go Go.Kx Go.RowKit
theorem un_II:Tryz.prog.underlying 47=some (.slice 25):=by kernel_rfl
theorem At4:Ent Tryz.prog 15:=A0 Tryz.func15 (by kernel_rfl) rfl
theorem Ar2 {S:Nat->Prop} {w:World} {vn vl:Value} {n:NtV} {l:List (List Int)} (hn:eN.R S w vn n) (hl:eII.R S w vl l):CR Tryz.prog 15 #[vn,vl] w (fun v _=>∃ b,v=.bool b):=by
 obtain ⟨s,rfl,hs,_⟩:=hn
 obtain ⟨_,_,_,_,hll⟩:=RL.len hl
 refine enter Tryz.func15 O Tryz.ntmps15 O ?_
 refine .sr (.box O O fun w1 b2 n1=>.an O O (.seq (.sr (.an O O ?_))))
 obtain ⟨e1,k2,_,_⟩:=n1
 have hl:=hl.ext e1
 refine .block (.loop (α:=Nat) (fun i=>[(1,vl),(2,.pointer (some ⟨b2,0,none⟩)),(5,.int .i64 (i:Nat))]) (fun i W=>W=w1/\i<=l.length) (fun i=>l.length-i) 0 ?_ ?_ ?_)
 ·exact lkA rfl
 ·exact ⟨rfl,Nat.zero_le _⟩
 rintro i W ⟨rfl,hi⟩
 refine .seq (.sr (.mv O O (.mv O O (.lenR un_II O O hl ?_))))
 rcases Nat.lt_or_ge i l.length with hlt | hge
 rotate_left
 ·refine .lssF O O O (by omega) (.nil (.condF O (.exit (.sr (.fa G7 O O (.ld K6 O O k2 O (.lenR K4 O O (hs.ext e1) (.gtr O O O (.an O O (.ret ?_))))))))))
  exact .plain [_] Tryz.results15 ⟨rfl,trivial⟩ ⟨e1,_,rfl⟩
 refine .lssT O O O (by omega) (.nil (.condT O (.skip (.seq (.block (.sr (.mv O O (.mv O O (.ixN (i:=i) un_II ty_I O O hl O (List.getElem?_eq_getElem hlt) fun q hq=>.ldE (E:=eI) ty_I O O hq fun v hv=>.lenR un_I O O hv ?_)))))))))
 by_cases h:100<l[i].length
 ·refine .gtrT O O O (by omega) (.nil (.condT O (.sr (.an O O (.ret ?_)))))
  exact .plain [_] Tryz.results15 ⟨rfl,trivial⟩ ⟨e1,_,rfl⟩
 ·refine .gtrF O O O (by omega) (.nil (.condF O (.skip (.region (.mv O O (.add O O O (.an O O ?_)))))))
  rw [wI (by omega)]
  exact ⟨rfl,i+1,lkA rfl,⟨rfl,hlt⟩,by show l.length-(i+1)<l.length-i;omega⟩
theorem zero_N:zeroOf Tryz.prog 24=some (.agg #[.int .i64 0,.slice none 0 0]):=by kernel_rfl
theorem As4 {a b c d:Int}:bldOf Tryz.prog 58 [(0,.int .i64 a),(1,.int .i64 b),(2,.int .i64 c),(3,.int .i64 d)]=some #[.int .i64 a,.int .i64 b,.int .i64 c,.int .i64 d]:=by kernel_rfl
theorem bsl_Ls3 {a b c d a' b' c' d' a2 b2 c2 d2:Value}:bslOf Tryz.prog 22 3 [(0,.agg #[a,b,c,d]),(1,.agg #[a',b',c',d']),(2,.agg #[a2,b2,c2,d2])]=some (58,#[a,b,c,d,a',b',c',d',a2,b2,c2,d2]):=by kernel_rfl
theorem bld_N2 {b:Int} {a:Option Addr} {n c:Nat}:bldOf Tryz.prog 24 [(0,.int .i64 b),(1,.slice a n c)]=some #[.int .i64 b,.slice a n c]:=by kernel_rfl
theorem ln_R {S:Nat->Prop} {w:World} {a b c d:Int} (h:∀ x∈[a,b,c,d],-9223372036854775808<=x/\x<=9223372036854775807):eL.R S w (.agg #[.int .i64 a,.int .i64 b,.int .i64 c,.int .i64 d]) ⟨a,b,c,d⟩:=⟨rfl,K5.2 (h a (by simp)),K5.2 (h b (by simp)),K5.2 (h c (by simp)),K5.2 (h d (by simp))⟩
theorem AO3:Ent Tryz.prog 62:=A0 Tryz.func62 (by kernel_rfl) rfl
theorem AO0 {w:World}:CR Tryz.prog 62 #[] w (eN.at (fun _=>True) net3):=by
 refine enter Tryz.func62 O Tryz.ntmps62 O ?_
 refine .sr (.alloc O zero_N fun w1 b0 n1=>.nil (.sr (.bld _ O O As4 (.bld _ O O As4 (.bld _ O O As4 (.bsl _ O O bsl_Ls3 fun w2 b4 n2=>.bld _ O O bld_N2 ?_))))))
 obtain ⟨e1,k0,hb0,hs1⟩:=n1
 have hl:eLs.R (fun k=>k≠b0) w2 (.slice (some ⟨b4,0,none⟩) 3 3) net3.ls:=BU7 (E:=eL) [_,_,_] net3.ls n2 (fun k hk=>by omega) O O (by decide) (Els.snoc (Els.snoc (Els.snoc Els.nil (ln_R (by decide))) (ln_R (by decide))) (ln_R (by decide)))
 have hn:eN.R (fun k=>k≠b0) w2 (.agg #[.int .i64 3,.slice (some ⟨b4,0,none⟩) 3 3]) net3:=⟨_,rfl,hl,K5.2 (by decide)⟩
 refine .storeA (E:=eN) ty_N O O (k0.ext n2.1) O O hn (fun h=>h O) fun w3 k3 u3 h3=>.nil (.ret ?_)
 exact .cell (E:=eN) Tryz.results62 O ty_N O O k3 h3 ⟨u3.below (e1.trans n2.1) (by omega),eN.mono (fun _ _ _=>trivial) h3⟩
theorem S4:Ent Tryz.prog 63:=A0 Tryz.func63 (by kernel_rfl) rfl
theorem R4 {w:World} {vl:Value} {l:List Int} (hl:eI.R (fun _=>True) w vl l) (hn:l.length<=1000) (hr:∀ x∈l,-9223372036854775808<=x/\x<=9223372036854775807):CR Tryz.prog 63 #[vl] w (eV.at (fun _=>True) (tab l.length fun k=>Rat.divInt (l.getD k 0) 5)):=by
 have hlW:∀ {W:World},Below w.heap.size w W->eI.R (fun k=>k<w.heap.size) W vl l:=fun h=>eI.keep (fun k c t f hk hh=>(h.block k hk).trans hh) (eI.mono (fun k _ h=>h.2) (ER.lt eI hl))
 refine enter Tryz.func63 O Tryz.ntmps63 O ?_
 refine .sr (.an O O (.sr (.an O O (.seq (.sr (.an O O ?_))))))
 generalize hG:(fun k=>qc (Rat.divInt (l.getD k 0) 5))=G
 refine .block (.loop (α:=Nat×Value) (fun y=>[(0,vl),(3,y.2),(4,.int .i64 (y.1:Nat))]) (fun y W=>Ext w W/\y.1<=l.length/\OwnL eQ 54 w.heap.size (fun _=>True) W y.2 ((List.range y.1).map G)) (fun y=>l.length-y.1) (0,.slice none 0 0) ?_ ?_ ?_)
 ·exact lkA rfl
 ·exact ⟨Ext.refl _,Nat.zero_le _,OwnL.nil⟩
 rintro ⟨i,v⟩ W ⟨hW,hi,hown⟩
 replace hW:Ext w W:=hW
 replace hi:i<=l.length:=hi
 replace hown:OwnL eQ 54 w.heap.size (fun _=>True) W v ((List.range i).map G):=hown
 refine .seq (.sr (.mv O O (.mv O O (.lenR un_L O O (hlW hW) ?_))))
 rcases Nat.lt_or_ge i l.length with hlt | hge
 rotate_left
 ·refine .lssF O O O (by omega) (.nil (.condF O (.exit (.sr (.mv O O (.an O O (.ret ?_)))))))
  have:i=l.length:=by omega
  subst this
  refine .plain [_] Tryz.results63 ⟨rfl,trivial⟩ ⟨hW,?_⟩
  have:=hown.toR (S:=fun _=>True) (hsz:=by decide) (fun _ _=>trivial) (fun _ h=>h)
  rw [<-hG] at this
  exact this
 have hg:l[i]?=some (l.getD i 0):=A9 hlt
 have hrx:=hr _ (List.mem_iff_getElem?.2 ⟨i,hg⟩)
 obtain ⟨es,ho1,_⟩:=id hown
 have upT':Up (fun k=>True/\v.ownBlock≠some k) W:=fun k hk=>⟨trivial,fun e=>by have:=(ho1.lt k e).2;omega⟩
 refine .lssT O O O (by omega) (.nil (.condT O (.skip (.seq (.block (.region (.mv O O (.mv O O (.mv O O (.ixN (i:=i) un_L S8 O O (hlW hW) O hg fun q hq=>.ldE (E:=eInt .i64) S8 O O hq fun e he=>?_))))))))))
 obtain ⟨rfl,_⟩:=he
 refine .call _ O BF2 O (BC6 upT' hrx (by decide)) fun v2 W2 e2 h2=>?_
 have h2':=h2
 obtain ⟨s2,t2,rfl,_,_⟩:=h2'
 refine .bsl _ O O T5 fun W4 b4 n4=>?_
 obtain ⟨e4,k4,hb4,hs4⟩:=n4
 have e24:=e2.trans e4
 have hW4:=hW.trans e24
 refine .gv O O (J8 (E:=eQ) (base:=w.heap.size) (n:=G i) (by decide) un_V H4 O O O (hown.ext e24) k4 (by rw [<-hG];exact h2.ext e4) (by simp;omega) (by decide) hW4.size) ?_
 rintro v5 W5 ⟨ho5,hg5⟩
 refine .an O O (.region (.mv O O (.add O O O (.an O O ?_))))
 rw [wI (by omega)]
 refine ⟨rfl,(i+1,v5),lkA rfl,⟨(hown.ext e24).below hg5 hW4 hW4.size,hlt,?_⟩,by show l.length-(i+1)<l.length-i;omega⟩
 show OwnL eQ 54 w.heap.size (fun _=>True) W5 v5 ((List.range (i+1)).map G)
 rw [List.range_succ,List.map_append]
 exact ho5
theorem ok3:outE net3 []=0:=outE_of (by decide) (by decide)
theorem Ai3:∀ b,b<(nwOf net3 []).B->∀ i,i<(nwOf net3 []).B->(if (nwOf net3 []).root i=i then cand3 b i else (nwOf net3 []).lap (cand3 b) i)=dl i b:=by
 have:∀ b,b<3->∀ i,i<3->(if (nwOf net3 []).root i=i then cand3 b i else (nwOf net3 []).lap (cand3 b) i)=dl i b:=by decide +kernel
 exact this
def want3:List (List Int):=[[0,-3,-2],[0,2,-2],[0,-2,-3]]
theorem hf3:tabM 3 3 (nwOf net3 []).hf=want3.map fun l=>tab l.length fun k=>Rat.divInt (l.getD k 0) 5:=by
 have ok:=N1 ok3
 have h1:tabM 3 3 (nwOf net3 []).hf=tabM 3 3 fun k b=>(nwOf net3 []).fl (cand3 b) k:=C9 fun k b hk hb=>Nw.hf_cand ok.ok ok.b1 cand3 Ai3 hk hb
 have h2:∀ k,k<3->∀ b,b<3->(nwOf net3 []).fl (cand3 b) k=Rat.divInt ((want3.getD k []).getD b 0) 5:=by decide +kernel
 rw [h1,show tabM 3 3 (fun k b=>(nwOf net3 []).fl (cand3 b) k)=tabM 3 3 fun k b=>Rat.divInt ((want3.getD k []).getD b 0) 5 from C9 fun k b hk hb=>h2 k hk b hb]
 rfl
theorem bt3:btE net3 [] 1 2=0/\btV net3 [] 1 2=tab 3 fun k=>Rat.divInt (([-1,4,1]:List Int).getD k 0) 5:=by
 have ok:=N1 ok3
 have hc:conE net3 [] 1 2=0:=by unfold conE;rw [if_neg (by simpa using ok3),if_pos ⟨⟨by decide,by decide⟩,by decide,by decide⟩]
 have hb:conB net3 [] 1 2=true:=by unfold conB;exact decide_eq_true ⟨hc,by decide +kernel⟩
 refine ⟨by unfold btE;rw [if_neg (by simpa using hc),if_pos hb],?_⟩
 have h2:∀ k,k<3->(nwOf net3 []).fl (cand3 1) k-(nwOf net3 []).fl (cand3 2) k=Rat.divInt (([-1,4,1]:List Int).getD k 0) 5:=by decide +kernel
 unfold btV
 exact E1 fun k hk=>by
  rw [Nw.hf_cand ok.ok ok.b1 cand3 Ai3 hk (by decide),Nw.hf_cand ok.ok ok.b1 cand3 Ai3 hk (by decide)]
  exact h2 k hk
theorem bsl_M3 {a a' a2:Option Addr} {n c n' c' n2 c2:Nat}:bslOf Tryz.prog 28 3 [(0,.slice a n c),(1,.slice a' n' c'),(2,.slice a2 n2 c2)]=some (32,#[.slice a n c,.slice a' n' c',.slice a2 n2 c2]):=by kernel_rfl
theorem E_law18_awake:Ent Tryz.prog 16:=A0 Tryz.func16 (by kernel_rfl) rfl
theorem law18_awake_c {w:World}:CR Tryz.prog 16 #[] w (Is (.bool true)):=by
 refine enter Tryz.func16 O Tryz.ntmps16 O ?_
 refine .sr (.an O O (.sr ?_))
 refine .call _ O AO3 O AO0 fun v1 w1 e1 h1=>?_
 refine .call _ O Y7 O (Y4 (o:=[]) upT h1 RL.nil) fun v2 w2 e2 h2=>?_
 obtain ⟨vm,ve,rfl,hm,he⟩:=h2
 replace he:ve=.int .i64 0:=by rw [he,ok3]
 subst he
 rw [if_pos ok3] at hm
 replace hm:eM.R (fun _=>True) w2 vm (tabM 3 3 (nwOf net3 []).hf):=hm
 rw [hf3] at hm
 refine .mv O O (.ext O O O (.ext O O O (.asg O O (.an O O (.sr ?_)))))
 refine .call _ O AO3 O AO0 fun v3 w3 e3 h3=>?_
 refine .call _ O Ac4 O (Ab6 (o:=[]) (a:=1) (b:=2) upT h3 RL.nil) fun v4 w4 e4 h4=>?_
 obtain ⟨vf,ve,rfl,hf,he⟩:=h4
 replace he:ve=.int .i64 0:=by rw [he,bt3.1]
 subst he
 rw [if_pos bt3.1] at hf
 replace hf:eV.R (fun _=>True) w4 vf (btV net3 [] 1 2):=hf
 rw [bt3.2] at hf
 have y4:=e3.trans e4
 have x4:=(e1.trans e2).trans y4
 refine .mv O O (.ext O O O (.ext O O O (.asg O O (.an O O (.sr (.mv O O (.eqlT O O O O (.mv O O (.gr O O O O (.mv O O (.gr O O O O (.eqlT O O O O (.pick O O O (.mv O O (.gr O O O O (.mv O O (.gr O O O O ?_)))))))))))))))))
 refine .bsl _ O O As1 fun w5 b5 n5=>.gr O O O O ?_
 refine .call _ O S4 O (R4 (Ar7 [0,-3,-2] 3 n5 upT O O (by decide) (by decide)) (by decide) (by decide)) fun v6 w6 e6 h6=>.gr O O O O ?_
 refine .bsl _ O O As1 fun w7 b7 n7=>.gr O O O O ?_
 refine .call _ O S4 O (R4 (Ar7 [0,2,-2] 3 n7 upT O O (by decide) (by decide)) (by decide) (by decide)) fun v8 w8 e8 h8=>.gr O O O O ?_
 refine .bsl _ O O As1 fun w9 b9 n9=>.gr O O O O ?_
 refine .call _ O S4 O (R4 (Ar7 [0,-2,-3] 3 n9 upT O O (by decide) (by decide)) (by decide) (by decide)) fun v10 w10 e10 h10=>.gr O O O O ?_
 have e68:=n7.1.trans e8
 have e810:=n9.1.trans e10
 have h6:=ER.ext eV h6 (e68.trans e810)
 have h8:=ER.ext eV h8 e810
 obtain ⟨a6,c6,hv6,_⟩:=RL.len h6
 obtain ⟨a8,c8,hv8,_⟩:=RL.len h8
 obtain ⟨a10,c10,hv10,_⟩:=RL.len h10
 rw [A1] at hv6 hv8 hv10
 subst hv6 hv8 hv10
 refine .bsl _ O O bsl_M3 fun w11 b11 n11=>.gr O O O O ?_
 have y11:=(((n5.1.trans e6).trans e68).trans e810).trans n11.1
 have hw:eM.R (fun _=>True) w11 (.slice (some ⟨b11,0,none⟩) 3 3) (want3.map fun l=>tab l.length fun k=>Rat.divInt (l.getD k 0) 5):=BU4 [_,_,_] _ n11 upT O O (by decide) (Els.snoc (Els.snoc (Els.snoc Els.nil h6) h8) h10)
 refine .call _ O BF1 O (isM_t (ER.ext eM hm (y4.trans y11)) hw O) fun v12 w12 e12 h12=>?_
 subst h12
 refine .pick O O O (.mv O O (.gr O O O O (.mv O O (.gr O O O O ?_))))
 refine .bsl _ O O As1 fun w13 b13 n13=>.gr O O O O ?_
 refine .call _ O S4 O (R4 (Ar7 [-1,4,1] 3 n13 upT O O (by decide) (by decide)) (by decide) (by decide)) fun v14 w14 e14 h14=>.gr O O O O ?_
 have y14:=(y11.trans e12).trans (n13.1.trans e14)
 refine .call _ O Aj3 O (isV_t (ER.ext eV hf y14) h14 O) fun v15 w15 e15 h15=>?_
 subst h15
 refine .pick O O O (.an O O (.ret ?_))
 exact .plain [_] Tryz.results16 ⟨rfl,trivial⟩ ⟨(x4.trans y14).trans e15,rfl⟩
theorem bsl_IIo {a:Option Addr} {n c:Nat}:bslOf Tryz.prog 47 1 [(0,.slice a n c)]=some (25,#[.slice a n c]):=by kernel_rfl
def okV17 (r:List QV):Prop:=r.length<=20/\∀ q∈r,qok 4 q
theorem okV17.vk {W:World} {v:Value} {a:List QV} (h:okV17 a) (hr:eV.R (fun _=>True) W v a):vk 4 a:=eV_vk hr h.2 (by decide)
theorem E_law17_Long:Ent Tryz.prog 24:=A0 Tryz.func24 (by kernel_rfl) rfl
set_option maxRecDepth 8000 in
theorem law17_Long_c {w:World} {vn vo v:Value} {n:NtV} {o:List Int} {l:List (List QV)} (hn:eN.R (fun _=>True) w vn n) (ho:eI.R (fun _=>True) w vo o) (h:eM.R (fun _=>True) w v l):CR Tryz.prog 24 #[vn,vo,v] w (Lng (∀ r∈l,okV17 r)):=by
 obtain ⟨s,rfl,hs,hb⟩:=hn
 have hn:eN.R (fun _=>True) w (.agg #[.int .i64 n.b,s]) n:=⟨s,rfl,hs,hb⟩
 obtain ⟨ao,co,hvo,_⟩:=RL.len ho
 obtain ⟨_,_,_,_,hl⟩:=RL.len h
 refine enter Tryz.func24 O Tryz.ntmps24 O (.beg (.go O (.box O O fun w1 b3 n1=>?_)))
 obtain ⟨e1,k3,hb3,hs1⟩:=n1
 have h:=ER.ext eM h e1
 have htrue:∀ {σ:Env},Kx.look σ 6=some (.bool true)->Leave Tryz.prog Tryz.f24 58 (fun v w'=>Ext w w'/\Lng (∀ r∈l,okV17 r) v w') σ [] w1:=by
  intro σ hl
  exact .plain [_] Tryz.results24 ⟨hl,trivial⟩ ⟨e1,true,rfl,fun h=>by cases h⟩
 refine .goC O (.lp (α:=Nat) [1,2,3] O (fun i=>[(7,.int .i64 (i:Nat))]) (fun i W=>W=w1/\i<=l.length/\∀ j r,j<i->l[j]?=some r->okV17 r) (fun i=>l.length-i) 0 (lc1 O) ⟨rfl,Nat.zero_le _,fun j r hj=>absurd hj (Nat.not_lt_zero _)⟩ ?_)
 rintro i W ⟨rfl,hi,hall⟩
 refine .go O (.lenR un_M O O h ?_)
 rcases Nat.lt_or_ge i l.length with hlt | hge
 rotate_left
 ·refine .lssF O O O (by omega) (.go O (.ldA ty_N O O k3 O (.go O (.bsl _ O O (by rw [hvo];exact bsl_IIo) fun w2 b5 n2=>?_))))
  have hll:eII.R (fun _=>True) w2 (.slice (some ⟨b5,0,none⟩) 1 1) [o]:=BU4 [vo] [o] n2 upT (by rw [hvo]) O (by decide) (Els.snoc Els.nil (ho.ext e1))
  refine .call _ O At4 O (Ar2 (hn.ext (e1.trans n2.1)) hll) fun v3 w3 e3 h3=>.goE O ?_
  obtain ⟨bl,rfl⟩:=h3
  refine .plain [_] Tryz.results24 ⟨rfl,trivial⟩ ⟨(e1.trans n2.1).trans e3,bl,rfl,fun _ r hr=>?_⟩
  obtain ⟨j,hj⟩:=List.mem_iff_getElem?.1 hr
  exact hall j r (by have:=Aq8 hj;omega) hj
 have hyy:=List.getElem?_eq_getElem hlt
 generalize l[i]=r at hyy
 refine .lssT O O O (by omega) (.go O (.ixN (i:=i) un_M ty_V O O h O hyy fun p hp=>.ldE ty_V O O hp fun e he=>.lenR un_V O O he ?_))
 by_cases hr:r.length<=20
 rotate_left
 ·exact .gtrT O O O (by omega) (.goE O (htrue O))
 refine .gtrF O O O (by omega) (.goC O (.lp (α:=Nat) [1,2,3,7] O (fun k=>[(8,.int .i64 (k:Nat))]) (fun k W'=>W'=W/\k<=r.length/\∀ j q,j<k->r[j]?=some q->qok 4 q) (fun k=>r.length-k) 0 (lc1 O) ⟨rfl,Nat.zero_le _,fun j r hj=>absurd hj (Nat.not_lt_zero _)⟩ ?_))
 rintro k W' ⟨rfl,hk,hallk⟩
 refine .go O (.ixN (i:=i) un_M ty_V O O h O hyy fun p2 hp2=>.ldE ty_V O O hp2 fun e2 he2=>.lenR un_V O O he2 ?_)
 rcases Nat.lt_or_ge k r.length with hkl | hge
 rotate_left
 ·refine .lssF O O O (by omega) (.go O (.inc O O O (by omega) (.goN O (.mk (i+1) O (lc1 O) ⟨⟨rfl,hlt,fun j r' hj hr'=>?_⟩,by show l.length-(i+1)<l.length-i;omega⟩))))
  by_cases e:j=i
  ·subst e
   rw [hyy] at hr'
   cases hr'
   refine ⟨hr,fun q hq=>?_⟩
   obtain ⟨j',hj'⟩:=List.mem_iff_getElem?.1 hq
   exact hallk j' q (by have:=Aq8 hj';omega) hj'
  ·exact hall j r' (by omega) hr'
 have hqq:=List.getElem?_eq_getElem hkl
 generalize r[k]=q at hqq
 refine .lssT O O O (by omega) (.go O (.ixN (i:=i) un_M ty_V O O h O hyy fun p3 hp3=>.ldE ty_V O O hp3 fun e3 he3=>.go O (.ixN (i:=k) un_V ty_Q O O he3 O hqq fun p4 hp4=>.faP O7 O O (.faP D9 O O (.ldE (E:=eW) ty_W O O hp4.qn.zw fun e4 he4=>.lenR un_W O O he4 ?_)))))
 by_cases hn4:q.num.w.length<=4
 rotate_left
 ·exact .gtrT O O O (by omega) (.goE O (htrue O))
 refine .gtrF O O O (by omega) (.go O (.ixN (i:=i) un_M ty_V O O h O hyy fun p5 hp5=>.go O (.ldE ty_V O O hp5 fun e5 he5=>.go O (.ixN (i:=k) un_V ty_Q O O he5 O hqq fun p6 hp6=>.go O (.faP O6 O O (.go O (.faP D9 O O (.go O (.ldE (E:=eW) ty_W O O hp6.qd.zw fun e6 he6=>.go O (.lenR un_W O O he6 (.go O ?_)))))))))))
 by_cases hd4:q.den.w.length<=4
 rotate_left
 ·exact .gtrT O O O (by omega) (.goE O (htrue O))
 refine .gtrF O O O (by omega) (.go O (.inc O O O (by omega) (.goN O (.mk (k+1) O (lc1 O) ⟨⟨rfl,hkl,fun j q' hj hq'=>?_⟩,by show r.length-(k+1)<r.length-k;omega⟩))))
 by_cases e:j=k
 ·subst e;rw [hqq] at hq';cases hq';exact ⟨hn4,hd4⟩
 ·exact hallk j q' (by omega) hq'
end Go.Proofs.YtggegpiffjbngaaGreat
namespace Go.Kx
open Go Go.RowKit
section
variable {n:Nw}
def Nw.mem1 (n:Nw) (i r:Nat):List Nat:=(List.range i).filter fun c=>decide (c≠r/\n.root c=r)
theorem Nw.mem1_succ (n:Nw) (i r:Nat):n.mem1 (i+1) r=n.mem1 i r++if i≠r/\n.root i=r then [i] else []:=by
 unfold Nw.mem1
 rw [List.range_succ,List.filter_append]
 by_cases h:i≠r/\n.root i=r
 ·simp [h]
 ·rw [if_neg h];simp [h]
theorem Nw.mem_first {r:Nat} (h:n.root r=r):∀ d,n.mem (r+1+d) r=r::n.mem1 (r+1+d) r
 | 0=>by
  have e1:n.mem r r=[]:=by
   unfold Nw.mem
   rw [List.filter_eq_nil_iff]
   intro b hb
   have:=Nw.root_le (n:=n) b
   have:=List.mem_range.1 hb
   simp;omega
  have e2:n.mem1 r r=[]:=by
   unfold Nw.mem1
   rw [List.filter_eq_nil_iff]
   intro b hb
   have:=Nw.root_le (n:=n) b
   have:=List.mem_range.1 hb
   simp;omega
  rw [Nat.add_zero,Nw.mem_succ,Nw.mem1_succ,e1,e2,if_pos h,if_neg (by simp)];rfl
 | d+1=>by
  rw [show r+1+(d+1)=(r+1+d)+1 by omega,Nw.mem_succ,Nw.mem1_succ,Nw.mem_first h d]
  by_cases h':n.root (r+1+d)=r
  ·rw [if_pos h',if_pos ⟨by omega,h'⟩];rfl
  ·rw [if_neg h',if_neg fun h''=>h' h''.2];rfl
theorem Nw.mem_cons {B r:Nat} (h:n.root r=r) (hr:r<B):n.mem B r=r::n.mem1 B r:=by
 have:=Nw.mem_first (n:=n) h (B-(r+1))
 rwa [show r+1+(B-(r+1))=B by omega] at this
end
end Go.Kx
namespace Go.Proofs.YtggegpiffjbngaaGreat
open Go Go.Kx Go.RowKit
end Go.Proofs.YtggegpiffjbngaaGreat
namespace Go.Kx
open Go Go.RowKit
theorem Leave.tt {P:Program} {fn:Func} {N:Nat} {σ:Env} {w W:World} {r:Nat} (hr:fn.results=#[.tmp r]) (hl:look σ r=some (.bool true)) (h:Ext w W):Leave P fn N (fun v w'=>Ext w w'/\Is (.bool true) v w') σ [] W:=.plain [_] hr ⟨hl,trivial⟩ ⟨h,rfl⟩
end Go.Kx
namespace Go.Proofs.YtggegpiffjbngaaGreat
open Go Go.Kx Go.RowKit
theorem Al6:Ent Tryz.prog 131:=A0 Tryz.func131 (by kernel_rfl) rfl
set_option maxRecDepth 8000 in
theorem Ak3 {S:Nat->Prop} {w:World} {vn:Value} {n:NtV} (hn:eN.R S w vn n):CR Tryz.prog 131 #[vn] w (Is (.int .i64 (chkE n))):=by
 obtain ⟨s,rfl,hs,hb⟩:=hn
 obtain ⟨_,_,_,_,hls⟩:=RL.len hs
 refine enter Tryz.func131 O Tryz.ntmps131 O (.beg (.go O (.box O O fun w1 b1 n1=>.go O (.fa E5 O O (.ld A3 O O n1.2.1 O ?_)))))
 obtain ⟨e1,k1,hb1,hs1⟩:=n1
 replace k1:Blk w1 b1 24 #[.int .i64 n.b,s]:=k1
 have fin:∀ {W:World} {v:Int},Ext w W->v=chkE n->(Ext w W/\Is (.int .i64 (chkE n)) (.int .i64 v) W):=fun e h=>⟨e,by rw [h]⟩
 by_cases h1:n.b<1
 ·exact .lssT O O O h1 (.goE O (.plain [_] Tryz.results131 ⟨rfl,trivial⟩ (fin e1 (by unfold chkE;rw [if_pos (.inl h1)]))))
 refine .lssF O O O h1 (.go O (.fa E5 O O (.go O (.ld A3 O O k1 O (.go O ?_)))))
 by_cases h6:6<n.b
 ·exact .gtrT O O O h6 (.goE O (.plain [_] Tryz.results131 ⟨rfl,trivial⟩ (fin e1 (by unfold chkE;rw [if_pos (.inr h6)]))))
 refine .gtrF O O O h6 (.go O (.fa G7 O O (.ld K6 O O k1 O (.lenR K4 O O (hs.ext e1) ?_))))
 by_cases h10:10<n.ls.length
 ·exact .gtrT O O O (by omega) (.goE O (.plain [_] Tryz.results131 ⟨rfl,trivial⟩ (fin e1 (by unfold chkE;rw [if_neg (by omega),if_pos h10]))))
 have hce:∀ {p:Prop} [Decidable p],(p<->chkOk n)->(chkE n=if p then 0 else 1):=fun {p} _ h=>by
  unfold chkE
  rw [if_neg (by omega),if_neg h10]
  by_cases hp:p
  ·rw [if_pos hp,if_pos (h.1 hp)]
  ·rw [if_neg hp,if_neg fun h'=>hp (h.2 h')]
 refine .gtrF O O O (by omega) (.goC O ?_)
 refine .lp (α:=Nat) [1] O (fun i=>[(3,.int .i64 (i:Nat))]) (fun i W=>Ext w1 W/\i<=n.ls.length/\∀ j,j<i->∀ l,n.ls[j]?=some l->ckAll n.b l) (fun i=>n.ls.length-i) 0 (lc1 O) ⟨Ext.refl _,Nat.zero_le _,fun j hj=>by omega⟩ ?_
 rintro i W ⟨hW,hi,hall⟩
 have k1:=k1.ext hW
 refine .go O (.fa G7 O O (.ld K6 O O k1 O (.lenR K4 O O (hs.ext (e1.trans hW)) ?_)))
 rcases Nat.lt_or_ge i n.ls.length with hlt | hge
 rotate_left
 ·have:i=n.ls.length:=by omega
  subst this
  exact .lssF O O O (by omega) (.goE O (.plain [_] Tryz.results131 ⟨rfl,trivial⟩ (fin (e1.trans hW) (by rw [hce (p:=True) ⟨fun _=>fun i hi=>hall i hi,fun _=>trivial⟩,if_pos trivial]))))
 have hgl:n.ls[i]?=some (n.ls.getD i ln0):=A9 hlt
 generalize n.ls.getD i ln0=ln at hgl
 have bad:∀ j,j<5->ck j n.b ln=false->1=chkE n:=fun j hj h=>by
  rw [hce (p:=False) ⟨fun h=>h.elim,fun hk=>by have:=hk i hlt ln hgl j hj;rw [h] at this;cases this⟩,if_neg (fun h=>h)]
 refine .lssT O O O (by omega) (.go O (.fa G7 O O (.ld K6 O O k1 O (.go O (.ixN (i:=i) K4 M8 O O (hs.ext (e1.trans hW)) O hgl fun p hp=>.ldE (E:=eL) M8 O O hp fun vl hvl=>.alloc O AL6 fun W1 c n1'=>?_)))))
 obtain ⟨d1,kc,hc,zs1⟩:=n1'
 refine .storeA (E:=eL) (S:=fun k=>k≠c) (z:=ln) M8 O O kc O O hvl (fun h=>h O) fun W2 kc u2 hl2=>?_
 obtain ⟨rfl,_⟩:=hl2
 replace kc:Blk W2 c 58 #[.int .i64 ln.f,.int .i64 ln.t,.int .i64 ln.x,.int .i64 ln.c]:=kc
 have zW:=hW.size
 have l1:=k1.lt
 have hW2:Ext w1 W2:=u2.below (hW.trans d1) (by omega)
 have k1:Blk W2 b1 24 #[.int .i64 n.b,s]:=(k1.ext d1).upd u2 (by omega)
 have x2:=e1.trans hW2
 refine .go O (.fa H2 O O (.go O (.ld A3 O O kc O (.go O (?_)))))
 by_cases g0:ln.f<0
 ·exact .lssT O O O g0 (.goE O (.plain [_] Tryz.results131 ⟨rfl,trivial⟩ (fin x2 (bad 0 (by decide) (by simp [ck];omega)))))
 refine .lssF O O O g0 (.go O (.fa H2 O O (.go O (.ld A3 O O kc O (.go O (.fa E5 O O (.go O (.ld A3 O O k1 O (.go O (?_))))))))))
 by_cases g1:n.b<=ln.f
 ·exact .geqT O O O g1 (.goE O (.plain [_] Tryz.results131 ⟨rfl,trivial⟩ (fin x2 (bad 0 (by decide) (by simp [ck];omega)))))
 refine .geqF O O O g1 (.go O (.fa H1 O O (.go O (.ld A3 O O kc O (.go O (?_))))))
 by_cases g2:ln.t<0
 ·exact .lssT O O O g2 (.goE O (.plain [_] Tryz.results131 ⟨rfl,trivial⟩ (fin x2 (bad 1 (by decide) (by simp [ck];omega)))))
 refine .lssF O O O g2 (.go O (.fa H1 O O (.go O (.ld A3 O O kc O (.go O (.fa E5 O O (.go O (.ld A3 O O k1 O (.go O (?_))))))))))
 by_cases g3:n.b<=ln.t
 ·exact .geqT O O O g3 (.goE O (.plain [_] Tryz.results131 ⟨rfl,trivial⟩ (fin x2 (bad 1 (by decide) (by simp [ck];omega)))))
 refine .geqF O O O g3 (.go O (.fa H2 O O (.go O (.ld A3 O O kc O (.go O (.fa H1 O O (.go O (.ld A3 O O kc O (.go O (?_))))))))))
 by_cases g4:ln.f=ln.t
 ·exact .eqlT O O O g4 (.goE O (.plain [_] Tryz.results131 ⟨rfl,trivial⟩ (fin x2 (bad 2 (by decide) (by simp [ck];omega)))))
 refine .eqlF O O O g4 (.go O (.fa AH1 O O (.go O (.ld S8 O O kc O (.go O (?_))))))
 by_cases g5:ln.x<1
 ·exact .lssT O O O g5 (.goE O (.plain [_] Tryz.results131 ⟨rfl,trivial⟩ (fin x2 (bad 3 (by decide) (by simp [ck];omega)))))
 refine .lssF O O O g5 (.go O (.fa AH1 O O (.go O (.ld S8 O O kc O (.go O (?_))))))
 by_cases g6:1000<ln.x
 ·exact .gtrT O O O g6 (.goE O (.plain [_] Tryz.results131 ⟨rfl,trivial⟩ (fin x2 (bad 3 (by decide) (by simp [ck];omega)))))
 refine .gtrF O O O g6 (.go O (.fa Ad4 O O (.go O (.ld S8 O O kc O (.go O (?_))))))
 by_cases g7:ln.c<0
 ·exact .lssT O O O g7 (.goE O (.plain [_] Tryz.results131 ⟨rfl,trivial⟩ (fin x2 (bad 4 (by decide) (by simp [ck];omega)))))
 refine .lssF O O O g7 (.go O (.fa Ad4 O O (.go O (.ld S8 O O kc O (.go O (?_))))))
 by_cases g8:1000000<ln.c
 ·exact .gtrT O O O g8 (.goE O (.plain [_] Tryz.results131 ⟨rfl,trivial⟩ (fin x2 (bad 4 (by decide) (by simp [ck];omega)))))
 refine .gtrF O O O g8 (.go O (.inc O O O (by omega) (.goN O (.mk (i+1) O (lc1 O) ⟨⟨hW2,hlt,fun j hj l hl=>?_⟩,by show n.ls.length-(i+1)<n.ls.length-i;omega⟩))))
 by_cases e:j=i
 ·subst e
  rw [hgl] at hl
  cases hl
  intro j hj
  match j with
  | 0=>simp [ck];omega
  | 1=>simp [ck];omega
  | 2=>simp [ck];omega
  | 3=>simp [ck];omega
  | 4=>simp [ck];omega
 ·exact hall j (by omega) l hl
theorem AZ8:Ent Tryz.prog 159:=A0 Tryz.func159 (by kernel_rfl) rfl
set_option maxRecDepth 8000 in
theorem AY1 {S:Nat->Prop} {w:World} {v:Value} {l:List Int} {k:Int} (h:eI.R S w v l):CR Tryz.prog 159 #[v,.int .i64 k] w (Is (.bool (decide (k∈l)))):=by
 obtain ⟨_,_,_,_,hll⟩:=RL.len h
 refine enter Tryz.func159 O Tryz.ntmps159 O (.beg (.goC O ?_))
 refine .lp (α:=Nat) [0,1] O (fun i=>[(5,.int .i64 (i:Nat))]) (fun i W=>Ext w W/\i<=l.length/\∀ j,j<i->l[j]?≠some k) (fun i=>l.length-i) 0 (lc1 O) ⟨Ext.refl _,Nat.zero_le _,fun j hj=>by omega⟩ ?_
 rintro i W ⟨hW,hi,hall⟩
 refine .go O (.lenR un_I O O (ER.ext eI h hW) ?_)
 rcases Nat.lt_or_ge i l.length with hlt | hge
 rotate_left
 ·refine .lssF O O O (by omega) (.goE O (.plain [_] Tryz.results159 ⟨rfl,trivial⟩ ⟨hW,?_⟩))
  refine congrArg Value.bool (decide_eq_false fun hm=>?_).symm
  obtain ⟨j,hj⟩:=List.mem_iff_getElem?.1 hm
  exact hall j (by have:=(List.getElem?_eq_some_iff.1 hj).1;omega) hj
 have hg:l[i]?=some (l.getD i 0):=A9 hlt
 refine .lssT O O O (by omega) (.go O (.ixN (i:=i) un_I B6 O O (ER.ext eI h hW) O hg fun q hq=>.ldE (E:=eInt .i64) B6 O O hq fun e he=>.go O ?_))
 obtain ⟨rfl,_⟩:=he
 by_cases e:l.getD i 0=k
 ·refine .eqlT O O O e (.goE O (.plain [_] Tryz.results159 ⟨rfl,trivial⟩ ⟨hW,?_⟩))
  exact congrArg Value.bool (decide_eq_true (List.mem_iff_getElem?.2 ⟨i,by rw [hg,e]⟩)).symm
 ·refine .eqlF O O O e (.go O (.inc O O O (by omega) (.goN O (.mk (i+1) O (lc1 O) ⟨⟨hW,hlt,fun j hj=>?_⟩,by show l.length-(i+1)<l.length-i;omega⟩))))
  by_cases ej:j=i
  ·subst ej;rw [hg];exact fun h=>e (Option.some.inj h)
  ·exact hall j (by omega)
theorem S3:Ent Tryz.prog 68:=A0 Tryz.func68 (by kernel_rfl) rfl
set_option maxRecDepth 8000 in
theorem Q4 {S:Nat->Prop} {w:World} {vn vo:Value} {n:NtV} {o:List Int} (hn:eN.R S w vn n) (ho:eI.R S w vo o):CR Tryz.prog 68 #[vn,vo] w (Is (.int .i64 (outE n o))):=by
 obtain ⟨s,rfl,hs,hb⟩:=hn
 have hn:eN.R S w (.agg #[.int .i64 n.b,s]) n:=⟨s,rfl,hs,hb⟩
 obtain ⟨_,_,_,_,hll⟩:=RL.len ho
 obtain ⟨_,_,_,_,hls⟩:=RL.len hs
 refine enter Tryz.func68 O Tryz.ntmps68 O (.beg (.go O (.box O O fun w1 b2 n1=>.go O ?_)))
 obtain ⟨e1,k2,hb2,hs1⟩:=n1
 refine .ldA ty_N O O k2 O ?_
 refine .call _ O Al6 O (Ak3 (hn.ext e1)) fun v3 w3 e3 h3=>.go O ?_
 subst h3
 have x3:=e1.trans e3
 have k2:=k2.ext e3
 by_cases hc:chkE n=0
 rotate_left
 ·exact .neqT O O O hc (.goE O (.plain [_] Tryz.results68 ⟨rfl,trivial⟩ ⟨x3,by rw [Aw6 hc];rfl⟩))
 have hoe:∀ {p:Prop} [Decidable p],(p<->outsOk n o)->(outE n o=if p then 0 else 1):=fun {p} _ h=>by
  unfold outE
  rw [if_neg (by simpa using hc)]
  by_cases hp:p
  ·rw [if_pos hp,if_pos (h.1 hp)]
  ·rw [if_neg hp,if_neg fun h'=>hp (h.2 h')]
 refine .neqF O O O (by omega) (.goC O ?_)
 refine .lp (α:=Nat) [1,2] O (fun i=>[(6,.int .i64 (i:Nat))]) (fun i W=>Ext w3 W/\i<=o.length/\∀ j,j<i->0<=o.getD j 0/\o.getD j 0<n.ls.length/\(0<j->o.getD (j-1) 0<o.getD j 0)) (fun i=>o.length-i) 0 (lc1 O) ⟨Ext.refl _,Nat.zero_le _,fun j hj=>by omega⟩ ?_
 rintro i W ⟨hW,hi,hall⟩
 refine .go O (.lenR un_I O O (ER.ext eI ho (x3.trans hW)) ?_)
 rcases Nat.lt_or_ge i o.length with hlt | hge
 rotate_left
 ·have:i=o.length:=by omega
  subst this
  exact .lssF O O O (by omega) (.goE O (.plain [_] Tryz.results68 ⟨rfl,trivial⟩ ⟨x3.trans hW,by rw [hoe (p:=True) ⟨fun _=>fun i hi=>hall i hi,fun _=>trivial⟩,if_pos trivial];rfl⟩))
 have hg:o[i]?=some (o.getD i 0):=A9 hlt
 have bad:¬ (0<=o.getD i 0/\o.getD i 0<n.ls.length/\(0<i->o.getD (i-1) 0<o.getD i 0))->(Is (.int .i64 (outE n o))) (.int .i64 1) W:=fun h=>by
  rw [hoe (p:=False) ⟨fun h=>h.elim,fun hk=>h (hk i hlt)⟩,if_neg (fun h=>h)]
 have hoW:=ER.ext eI ho (x3.trans hW)
 have hsW:=hs.ext (x3.trans hW)
 have k2:=k2.ext hW
 refine .lssT O O O (by omega) (.goC O ?_)
 have hgp:0<i->o[i-1]?=some (o.getD (i-1) 0):=fun h=>A9 (by omega)
 generalize o.getD i 0=x at hg bad hall
 by_cases g0:x<0
 ·have hd:=True.intro
  refine .par follows 28 [.inl _,.inl _,.inr (Ptr (eInt .i64) S x),.inl (.int .i64 x),.inl (.bool true),.inl (.bool true),.inl undef,.inl undef,.inl undef,.inl undef,.inl undef,.inl undef,.inl undef,.inl undef,.inl (.bool true),.inl (.bool true),.inl undef,.inl undef,.inl undef,.inl undef,.inl undef,.inl undef,.inl undef,.inl undef,.inl undef,.inl undef,.inl undef,.inl undef] [[],[],[(18,0),(19,1)],[(20,2)],[(21,3)],[(22,4)],[(23,5)],[(23,5)],[(24,6),(25,7),(23,5)],[(26,8),(23,5)],[(23,5)],[(28,10),(23,5)],[(29,11),(23,5)],[(27,9),(30,12),(23,5)],[(23,5),(31,13)],[(32,14)],[(33,15)],[(34,16),(33,15)],[(35,17),(33,15)],[(36,18)],[(36,18)],[(37,19),(38,20),(36,18)],[(39,21),(36,18)],[(36,18)],[(36,18)],[(42,24),(36,18)],[(41,23),(43,25),(36,18)],[(44,26),(36,18)]] (by kernel_rfl) ⟨
   fun w e=>(v_mv O).ob,
   fun w e=>(v_mv O).ob,
   fun w e=>B5 (i:=i) un_I B6 O (ER.ext eI hoW e) O hg,
   fun w e x2 hx2=>G5 A3 O hx2,
   fun w e=>((AX7 O O).eq (by rw [decide_eq_true (by omega)])).ob,
   fun w e=>(v_mv O).ob,
   fun w e=>rfl,
   fun w e=>rfl,
   fun w e=>rfl,
   fun w e=>rfl,
   fun w e=>rfl,
   fun w e=>rfl,
   fun w e=>rfl,
   fun w e=>rfl,
   fun w e=>(Ap4 O O).ob,
   fun w e=>(v_mv O).ob,
   fun w e=>rfl,
   fun w e=>rfl,
   fun w e=>rfl,
   fun w e=>rfl,
   fun w e=>rfl,
   fun w e=>rfl,
   fun w e=>rfl,
   fun w e=>rfl,
   fun w e=>rfl,
   fun w e=>rfl,
   fun w e=>rfl,
   fun w e=>rfl,trivial⟩ ?_
  intro W3 d3 y2 hy2
  exact .goE O (.plain [_] Tryz.results68 ⟨rfl,trivial⟩ ⟨(x3.trans hW).trans d3,bad (by omega)⟩)
 by_cases g1:(n.ls.length:Int)<=x
 ·have hd:=True.intro
  refine .par follows 28 [.inl _,.inl _,.inr (Ptr (eInt .i64) S x),.inl (.int .i64 x),.inl (.bool false),.inl (.bool false),.inl _,.inl _,.inr (Ptr (eInt .i64) S x),.inl (.int .i64 x),.inl _,.inl s,.inl (.int .i64 (n.ls.length:Nat)),.inl (.bool true),.inl (.bool true),.inl (.bool true),.inl undef,.inl undef,.inl undef,.inl undef,.inl undef,.inl undef,.inl undef,.inl undef,.inl undef,.inl undef,.inl undef,.inl undef] [[],[],[(18,0),(19,1)],[(20,2)],[(21,3)],[(22,4)],[(23,5)],[(23,5)],[(24,6),(25,7),(23,5)],[(26,8),(23,5)],[(23,5)],[(28,10),(23,5)],[(29,11),(23,5)],[(27,9),(30,12),(23,5)],[(23,5),(31,13)],[(32,14)],[(33,15)],[(34,16),(33,15)],[(35,17),(33,15)],[(36,18)],[(36,18)],[(37,19),(38,20),(36,18)],[(39,21),(36,18)],[(36,18)],[(36,18)],[(42,24),(36,18)],[(41,23),(43,25),(36,18)],[(44,26),(36,18)]] (by kernel_rfl) ⟨
   fun w e=>(v_mv O).ob,
   fun w e=>(v_mv O).ob,
   fun w e=>B5 (i:=i) un_I B6 O (ER.ext eI hoW e) O hg,
   fun w e x2 hx2=>G5 A3 O hx2,
   fun w e=>((AX7 O O).eq (by rw [decide_eq_false (by omega)])).ob,
   fun w e=>(v_mv O).ob,
   fun w e=>(v_mv O).ob,
   fun w e=>(v_mv O).ob,
   fun w e=>B5 (i:=i) un_I B6 O (ER.ext eI hoW e) O hg,
   fun w e x8 hx8=>G5 A3 O hx8,
   fun w e=>(v_fa G7 O).ob,
   fun w e=>(v_ld K6 O (k2.ext e) O).ob,
   fun w e=>(Ae7 K4 O (hsW.ext e)).ob,
   fun w e=>((Au3 O O).eq (by rw [decide_eq_true (by omega)])).ob,
   fun w e=>(AM0 O O).ob,
   fun w e=>(v_mv O).ob,
   fun w e=>rfl,
   fun w e=>rfl,
   fun w e=>rfl,
   fun w e=>rfl,
   fun w e=>rfl,
   fun w e=>rfl,
   fun w e=>rfl,
   fun w e=>rfl,
   fun w e=>rfl,
   fun w e=>rfl,
   fun w e=>rfl,
   fun w e=>rfl,trivial⟩ ?_
  intro W3 d3 y2 hy2 y8 hy8
  exact .goE O (.plain [_] Tryz.results68 ⟨rfl,trivial⟩ ⟨(x3.trans hW).trans d3,bad (by omega)⟩)
 have nxt:∀ {σ:Env},(0<i->o.getD (i-1) 0<x)->∀ j,j<i+1->0<=o.getD j 0/\o.getD j 0<n.ls.length/\(0<j->o.getD (j-1) 0<o.getD j 0):=fun h j hj=>by
  by_cases e:j=i
  ·subst e
   have:o.getD j 0=x:=by rw [List.getD_eq_getElem?_getD,hg];rfl
   rw [this]
   exact ⟨by omega,by omega,h⟩
  ·exact hall j (by omega)
 rcases Nat.eq_zero_or_pos i with hi0 | hi0
 ·have hd:=True.intro
  refine .par follows 28 [.inl _,.inl _,.inr (Ptr (eInt .i64) S x),.inl (.int .i64 x),.inl (.bool false),.inl (.bool false),.inl _,.inl _,.inr (Ptr (eInt .i64) S x),.inl (.int .i64 x),.inl _,.inl s,.inl (.int .i64 (n.ls.length:Nat)),.inl (.bool false),.inl (.bool false),.inl (.bool false),.inl _,.inl (.bool false),.inl (.bool false),.inl undef,.inl undef,.inl undef,.inl undef,.inl undef,.inl undef,.inl undef,.inl undef,.inl undef] [[],[],[(18,0),(19,1)],[(20,2)],[(21,3)],[(22,4)],[(23,5)],[(23,5)],[(24,6),(25,7),(23,5)],[(26,8),(23,5)],[(23,5)],[(28,10),(23,5)],[(29,11),(23,5)],[(27,9),(30,12),(23,5)],[(23,5),(31,13)],[(32,14)],[(33,15)],[(34,16),(33,15)],[(35,17),(33,15)],[(36,18)],[(36,18)],[(37,19),(38,20),(36,18)],[(39,21),(36,18)],[(36,18)],[(36,18)],[(42,24),(36,18)],[(41,23),(43,25),(36,18)],[(44,26),(36,18)]] (by kernel_rfl) ⟨
   fun w e=>(v_mv O).ob,
   fun w e=>(v_mv O).ob,
   fun w e=>B5 (i:=i) un_I B6 O (ER.ext eI hoW e) O hg,
   fun w e x2 hx2=>G5 A3 O hx2,
   fun w e=>((AX7 O O).eq (by rw [decide_eq_false (by omega)])).ob,
   fun w e=>(v_mv O).ob,
   fun w e=>(v_mv O).ob,
   fun w e=>(v_mv O).ob,
   fun w e=>B5 (i:=i) un_I B6 O (ER.ext eI hoW e) O hg,
   fun w e x8 hx8=>G5 A3 O hx8,
   fun w e=>(v_fa G7 O).ob,
   fun w e=>(v_ld K6 O (k2.ext e) O).ob,
   fun w e=>(Ae7 K4 O (hsW.ext e)).ob,
   fun w e=>((Au3 O O).eq (by rw [decide_eq_false (by omega)])).ob,
   fun w e=>(AM0 O O).ob,
   fun w e=>(v_mv O).ob,
   fun w e=>(v_mv O).ob,
   fun w e=>((BG2 O O).eq (by rw [decide_eq_false (by omega)])).ob,
   fun w e=>(v_mv O).ob,
   fun w e=>rfl,
   fun w e=>rfl,
   fun w e=>rfl,
   fun w e=>rfl,
   fun w e=>rfl,
   fun w e=>rfl,
   fun w e=>rfl,
   fun w e=>rfl,
   fun w e=>rfl,trivial⟩ ?_
  intro W3 d3 y2 hy2 y8 hy8
  exact .go O (.inc O O O (by omega) (.goN O (.mk (i+1) O (lc1 O) ⟨⟨hW.trans d3,hlt,nxt (σ:=[]) (fun h=>by omega)⟩,by show o.length-(i+1)<o.length-i;omega⟩)))
 by_cases g2:x<=o.getD (i-1) 0
 ·have hd:=True.intro
  refine .par follows 28 [.inl _,.inl _,.inr (Ptr (eInt .i64) S x),.inl (.int .i64 x),.inl (.bool false),.inl (.bool false),.inl _,.inl _,.inr (Ptr (eInt .i64) S x),.inl (.int .i64 x),.inl _,.inl s,.inl (.int .i64 (n.ls.length:Nat)),.inl (.bool false),.inl (.bool false),.inl (.bool false),.inl _,.inl (.bool true),.inl (.bool true),.inl _,.inl _,.inr (Ptr (eInt .i64) S x),.inl (.int .i64 x),.inl _,.inl _,.inl (.int .i64 ((i-1:Nat):Int)),.inr (Ptr (eInt .i64) S (o.getD (i-1) 0)),.inl (.int .i64 (o.getD (i-1) 0))] [[],[],[(18,0),(19,1)],[(20,2)],[(21,3)],[(22,4)],[(23,5)],[(23,5)],[(24,6),(25,7),(23,5)],[(26,8),(23,5)],[(23,5)],[(28,10),(23,5)],[(29,11),(23,5)],[(27,9),(30,12),(23,5)],[(23,5),(31,13)],[(32,14)],[(33,15)],[(34,16),(33,15)],[(35,17),(33,15)],[(36,18)],[(36,18)],[(37,19),(38,20),(36,18)],[(39,21),(36,18)],[(36,18)],[(36,18)],[(42,24),(36,18)],[(41,23),(43,25),(36,18)],[(44,26),(36,18)]] (by kernel_rfl) ⟨
   fun w e=>(v_mv O).ob,
   fun w e=>(v_mv O).ob,
   fun w e=>B5 (i:=i) un_I B6 O (ER.ext eI hoW e) O hg,
   fun w e x2 hx2=>G5 A3 O hx2,
   fun w e=>((AX7 O O).eq (by rw [decide_eq_false (by omega)])).ob,
   fun w e=>(v_mv O).ob,
   fun w e=>(v_mv O).ob,
   fun w e=>(v_mv O).ob,
   fun w e=>B5 (i:=i) un_I B6 O (ER.ext eI hoW e) O hg,
   fun w e x8 hx8=>G5 A3 O hx8,
   fun w e=>(v_fa G7 O).ob,
   fun w e=>(v_ld K6 O (k2.ext e) O).ob,
   fun w e=>(Ae7 K4 O (hsW.ext e)).ob,
   fun w e=>((Au3 O O).eq (by rw [decide_eq_false (by omega)])).ob,
   fun w e=>(AM0 O O).ob,
   fun w e=>(v_mv O).ob,
   fun w e=>(v_mv O).ob,
   fun w e=>((BG2 O O).eq (by rw [decide_eq_true (by omega)])).ob,
   fun w e=>(v_mv O).ob,
   fun w e=>(v_mv O).ob,
   fun w e=>(v_mv O).ob,
   fun w e=>B5 (i:=i) un_I B6 O (ER.ext eI hoW e) O hg,
   fun w e x21 hx21=>G5 A3 O hx21,
   fun w e=>(v_mv O).ob,
   fun w e=>(v_mv O).ob,
   fun w e=>((AS0 O O).eq (by rw [wI (by omega)];congr 1;omega)).ob,
   fun w e=>B5 (i:=i-1) un_I B6 O (ER.ext eI hoW e) O (hgp hi0),
   fun w e x26 hx26=>G5 A3 O hx26,trivial⟩ ?_
  intro W3 d3 y2 hy2 y8 hy8 y21 hy21 y26 hy26
  exact .go O (.leqT O O O g2 (.goE O (.plain [_] Tryz.results68 ⟨rfl,trivial⟩ ⟨(x3.trans hW).trans d3,bad (by omega)⟩)))
 have hd:=True.intro
 refine .par follows 28 [.inl _,.inl _,.inr (Ptr (eInt .i64) S x),.inl (.int .i64 x),.inl (.bool false),.inl (.bool false),.inl _,.inl _,.inr (Ptr (eInt .i64) S x),.inl (.int .i64 x),.inl _,.inl s,.inl (.int .i64 (n.ls.length:Nat)),.inl (.bool false),.inl (.bool false),.inl (.bool false),.inl _,.inl (.bool true),.inl (.bool true),.inl _,.inl _,.inr (Ptr (eInt .i64) S x),.inl (.int .i64 x),.inl _,.inl _,.inl (.int .i64 ((i-1:Nat):Int)),.inr (Ptr (eInt .i64) S (o.getD (i-1) 0)),.inl (.int .i64 (o.getD (i-1) 0))] [[],[],[(18,0),(19,1)],[(20,2)],[(21,3)],[(22,4)],[(23,5)],[(23,5)],[(24,6),(25,7),(23,5)],[(26,8),(23,5)],[(23,5)],[(28,10),(23,5)],[(29,11),(23,5)],[(27,9),(30,12),(23,5)],[(23,5),(31,13)],[(32,14)],[(33,15)],[(34,16),(33,15)],[(35,17),(33,15)],[(36,18)],[(36,18)],[(37,19),(38,20),(36,18)],[(39,21),(36,18)],[(36,18)],[(36,18)],[(42,24),(36,18)],[(41,23),(43,25),(36,18)],[(44,26),(36,18)]] (by kernel_rfl) ⟨
  fun w e=>(v_mv O).ob,
  fun w e=>(v_mv O).ob,
  fun w e=>B5 (i:=i) un_I B6 O (ER.ext eI hoW e) O hg,
  fun w e x2 hx2=>G5 A3 O hx2,
  fun w e=>((AX7 O O).eq (by rw [decide_eq_false (by omega)])).ob,
  fun w e=>(v_mv O).ob,
  fun w e=>(v_mv O).ob,
  fun w e=>(v_mv O).ob,
  fun w e=>B5 (i:=i) un_I B6 O (ER.ext eI hoW e) O hg,
  fun w e x8 hx8=>G5 A3 O hx8,
  fun w e=>(v_fa G7 O).ob,
  fun w e=>(v_ld K6 O (k2.ext e) O).ob,
  fun w e=>(Ae7 K4 O (hsW.ext e)).ob,
  fun w e=>((Au3 O O).eq (by rw [decide_eq_false (by omega)])).ob,
  fun w e=>(AM0 O O).ob,
  fun w e=>(v_mv O).ob,
  fun w e=>(v_mv O).ob,
  fun w e=>((BG2 O O).eq (by rw [decide_eq_true (by omega)])).ob,
  fun w e=>(v_mv O).ob,
  fun w e=>(v_mv O).ob,
  fun w e=>(v_mv O).ob,
  fun w e=>B5 (i:=i) un_I B6 O (ER.ext eI hoW e) O hg,
  fun w e x21 hx21=>G5 A3 O hx21,
  fun w e=>(v_mv O).ob,
  fun w e=>(v_mv O).ob,
  fun w e=>((AS0 O O).eq (by rw [wI (by omega)];congr 1;omega)).ob,
  fun w e=>B5 (i:=i-1) un_I B6 O (ER.ext eI hoW e) O (hgp hi0),
  fun w e x26 hx26=>G5 A3 O hx26,trivial⟩ ?_
 intro W3 d3 y2 hy2 y8 hy8 y21 hy21 y26 hy26
 exact .go O (.leqF O O O g2 (.go O (.inc O O O (by omega) (.goN O (.mk (i+1) O (lc1 O) ⟨⟨hW.trans d3,hlt,nxt (σ:=[]) (fun h=>by omega)⟩,by show o.length-(i+1)<o.length-i;omega⟩)))))
theorem AB9 {n:NtV} {o:List Int} (h:outsOk n o) (k:Nat):((k:Int)∈o)<->k∈oN o:=by
 unfold oN
 rw [List.mem_map]
 constructor
 ·exact fun hm=>⟨_,hm,by simp⟩
 ·rintro ⟨x,hm,rfl⟩
  obtain ⟨i,hi⟩:=List.mem_iff_getElem?.1 hm
  have hlt:=(List.getElem?_eq_some_iff.1 hi).1
  have e:o.getD i 0=x:=by rw [List.getD_eq_getElem?_getD,hi];rfl
  have:=(h i hlt).1
  rw [e] at this
  rw [show ((x.toNat:Nat):Int)=x by omega];exact hm
theorem BE9:Ent Tryz.prog 183:=A0 Tryz.func183 (by kernel_rfl) rfl
set_option maxRecDepth 8000 in
theorem BC3 {S:Nat->Prop} {w:World} {vn vo:Value} {n:NtV} {o:List Int} (up:Up S w) (hn:eN.R S w vn n) (ho:eI.R S w vo o) (hok:outsOk n o) (hl:n.ls.length<=1000):CR Tryz.prog 183 #[vn,vo] w (eI.at S (pInts (inL n o))):=by
 obtain ⟨s,rfl,hs,hb⟩:=hn
 have ho0:=ER.lt eI ho
 refine enter Tryz.func183 O Tryz.ntmps183 O (.beg (.go O (.box O O fun w1 b2 n1=>.goC O ?_)))
 obtain ⟨e1,k2,hb2,hs1⟩:=n1
 replace k2:Blk w1 b2 24 #[.int .i64 n.b,s]:=k2
 have hsW:∀ {W:World},Below w1.heap.size w1 W->eLs.R (fun k=>S k/\k<w.heap.size) W s n.ls:=fun e=>ER.ext eLs (ER.lt eLs hs) (e1.trans e)
 have hoW:∀ {W:World},Below w1.heap.size w1 W->eI.R (fun k=>S k/\k<w.heap.size) W vo o:=fun e=>ER.ext eI ho0 (e1.trans e)
 refine .lp (α:=Nat×Value) [1,2] O (fun y=>[(5,y.2),(6,.int .i64 (y.1:Nat))]) (fun y W=>Ext w1 W/\y.1<=n.ls.length/\OwnL (eInt .i64) 3 w1.heap.size (fun _=>False) W y.2 (pInts (freeTo (oN o) y.1))) (fun y=>n.ls.length-y.1) (0,.slice none 0 0) (lc2 O O) ⟨Ext.refl _,Nat.zero_le _,OwnL.nil⟩ ?_
 rintro ⟨i,v⟩ W ⟨hW,hi,hO⟩
 replace hW:Ext w1 W:=hW
 replace hi:i<=n.ls.length:=hi
 replace hO:OwnL (eInt .i64) 3 w1.heap.size (fun _=>False) W v (pInts (freeTo (oN o) i)):=hO
 have k2:=k2.ext hW
 refine .go O (.fa G7 O O (.ld K6 O O k2 O (.lenR K4 O O (hsW hW) ?_)))
 rcases Nat.lt_or_ge i n.ls.length with hlt | hge
 rotate_left
 ·have:i=n.ls.length:=by omega
  subst this
  refine .lssF O O O (by omega) (.goE O (.plain [_] Tryz.results183 ⟨rfl,trivial⟩ ⟨e1.trans hW,?_⟩))
  exact hO.toR (fun k hk=>up k (by have:=e1.size;omega)) (fun _ h=>h.elim)
 refine .lssT O O O (by omega) (.go O ?_)
 refine .call _ O AZ8 O (AY1 (k:=((i:Nat):Int)) (hoW hW)) fun v2 W2 d2 h2=>?_
 subst h2
 have hfs:=J3 (oN o) i
 have hW2:=hW.trans d2
 by_cases hm:i∈oN o
 ·rw [if_pos hm,List.append_nil] at hfs
  rw [decide_eq_true ((AB9 hok i).2 hm)]
  exact .go O (.inc O O O (by omega) (.goN O (.mk (i+1,v) O (lc2 O O) ⟨⟨hW2,hlt,by show OwnL _ _ _ _ W2 v (pInts (freeTo (oN o) (i+1)));rw [hfs];exact hO.ext d2⟩,by show n.ls.length-(i+1)<n.ls.length-i;omega⟩)))
 ·rw [if_neg hm] at hfs
  rw [decide_eq_false fun h=>hm ((AB9 hok i).1 h)]
  have hlf:(freeTo (oN o) i).length<=i:=AW4 _ _
  refine .go O (.bsl _ O O AQ6 fun W3 b3 n3=>?_)
  obtain ⟨d3,k3,hb3,hs3⟩:=n3
  have hW3:=hW2.trans d3
  refine .gv O O (AC0 (E:=eInt .i64) (base:=w1.heap.size) (n:=((i:Nat):Int)) (e:=.int .i64 (i:Nat)) (by decide) un_I AD5 O O O ((hO.ext d2).ext d3) k3 ⟨rfl,K5.2 (by omega)⟩ (by simp [pInts];omega) (by decide) hW3.size) ?_
  rintro v4 W4 ⟨hO4,g4,_⟩
  have hW4:Ext w1 W4:=OwnL.below ((hO.ext d2).ext d3) g4 hW3 hW3.size
  exact .go O (.inc O O O (by omega) (.goN O (.mk (i+1,v4) O (lc2 O O) ⟨⟨hW4,hlt,by show OwnL _ _ _ _ W4 v4 (pInts (freeTo (oN o) (i+1)));rw [hfs];unfold pInts;rw [List.map_append];exact hO4⟩,by show n.ls.length-(i+1)<n.ls.length-i;omega⟩)))
end Go.Proofs.YtggegpiffjbngaaGreat
namespace Go.Kx
open Go Go.RowKit
section
variable {n:Nw}
theorem Nw.offM_fl (ok:n.Ok) (θ f:Nat->Rat) (hf:∀ k,k<n.M->f k=n.fl θ k) (b:Nat):n.offM f b=n.lap θ b:=by
 unfold Nw.offM Nw.lap Nw.off
 refine A6 fun k hk=>?_
 dsimp only
 by_cases hg:n.g k=0
 ·rw [if_pos hg,Nw.fl_out hg]
 ·rw [if_neg hg,hf k hk]
end
def rstep (n:Nw) (s:Nat->Bool) (k:Nat):Nat->Bool:=if s (n.F k) || s (n.T k) then fun b=>Nat.beq b (n.F k) || Nat.beq b (n.T k) || s b else s
def rpass (n:Nw) (l:List Nat) (s:Nat->Bool):Nat->Bool:=l.foldl (rstep n) s
def rit (n:Nw) (l:List Nat) (s:Nat->Bool):Nat->Nat->Bool
 | 0=>s
 | i+1=>rpass n l (rit n l s i)
theorem BC1 (n:Nw) (l:List Nat) (k:Nat) (s:Nat->Bool):rpass n (l++[k]) s=rstep n (rpass n l s) k:=by unfold rpass;rw [List.foldl_append];rfl
theorem Af2 {n:Nw} {s:Nat->Bool} {k b:Nat} (h:s b=true):rstep n s k b=true:=by
 unfold rstep
 split
 ·simp [h]
 ·exact h
theorem AS7 {n:Nw} {b:Nat}:∀ (l:List Nat) {s:Nat->Bool},s b=true->rpass n l s b=true
 | [],_,h=>h
 | k::l,_,h=>AS7 l (Af2 h)
theorem BC0 {n:Nw} {s:Nat->Bool} {k a:Nat} (hk:n.root (n.F k)=n.root (n.T k)) (h:∀ b,s b=true->n.root b=n.root a):∀ b,rstep n s k b=true->n.root b=n.root a:=by
 intro b hb
 unfold rstep at hb
 split at hb
 ·rename_i h1
  simp only [Bool.or_eq_true] at hb h1
  have hF:n.root (n.F k)=n.root a:=by
   rcases h1 with h1 | h1
   ·exact h _ h1
   ·rw [hk];exact h _ h1
  rcases hb with (hb | hb) | hb
  ·rw [Nat.eq_of_beq_eq_true hb];exact hF
  ·rw [Nat.eq_of_beq_eq_true hb,<-hk];exact hF
  ·exact h b hb
 ·exact h b hb
theorem Af4 {n:Nw} {a:Nat}:∀ (l:List Nat) {s:Nat->Bool},(∀ k∈l,n.root (n.F k)=n.root (n.T k))->(∀ b,s b=true->n.root b=n.root a)->∀ b,rpass n l s b=true->n.root b=n.root a
 | [],_,_,h=>h
 | k::l,_,hl,h=>Af4 l (fun k' hk'=>hl k' (List.mem_cons_of_mem _ hk')) (BC0 (hl k (List.mem_cons_self ..)) h)
theorem AS8 {n:Nw} {B:Nat}:∀ (l:List Nat) {s:Nat->Bool},(∀ k∈l,n.F k<B/\n.T k<B)->(∀ b,b<B->rpass n l s b=true->s b=true)->∀ k∈l,s (n.F k)=s (n.T k)
 | [],_,_,_,k,hk=>by cases hk
 | j::l,s,hl,h,k,hk=>by
  have hj:=hl j (List.mem_cons_self ..)
  have h1:∀ b,b<B->rstep n s j b=true->s b=true:=fun b hb hs=>h b hb (AS7 l hs)
  rcases List.mem_cons.1 hk with rfl | hk
  ·by_cases hs:(s (n.F k) || s (n.T k))=true
   ·have hF:=h1 _ hj.1 (by unfold rstep;rw [if_pos hs];simp)
    have hT:=h1 _ hj.2 (by unfold rstep;rw [if_pos hs];simp)
    rw [hF,hT]
   ·simp only [Bool.or_eq_true,not_or,Bool.not_eq_true] at hs
    rw [hs.1,hs.2]
  ·have ih:=AS8 (n:=n) (B:=B) l (s:=rstep n s j) (fun k' hk'=>hl k' (List.mem_cons_of_mem _ hk')) (fun b hb hs=>Af2 (h b hb hs)) k hk
   have hkB:=hl k (List.mem_cons_of_mem _ hk)
   have e:∀ b,b<B->rstep n s j b=s b:=fun b hb=>by
    cases hb':s b with
    | true=>exact Af2 hb'
    | false =>
     cases hr:rstep n s j b with
     | false=>rfl
     | true=>rw [h1 b hb hr] at hb';cases hb'
   rw [e _ hkB.1,e _ hkB.2] at ih
   exact ih
def cntB (s:Nat->Bool):Nat->Nat
 | 0=>0
 | b+1=>cntB s b+(if s b then 1 else 0)
theorem BJ7 (s:Nat->Bool):∀ B,cntB s B<=B
 | 0=>Nat.le_refl _
 | B+1=>by have:=BJ7 s B;simp only [cntB];split<;>omega
theorem Ao9 {s t:Nat->Bool} (h:∀ b,s b=true->t b=true):∀ B,cntB s B<=cntB t B
 | 0=>Nat.le_refl _
 | B+1=>by
  have:=Ao9 h B
  simp only [cntB]
  by_cases hs:s B=true
  ·rw [if_pos hs,if_pos (h B hs)];omega
  ·rw [if_neg hs];split<;>omega
theorem Ar8 {s t:Nat->Bool} (h:∀ b,s b=true->t b=true) {c:Nat} (hs:s c=false) (ht:t c=true):∀ B,c<B->cntB s B+1<=cntB t B
 | 0,hc=>by omega
 | B+1,hc=>by
  simp only [cntB]
  by_cases e:c=B
  ·subst e
   rw [ht,hs]
   have:=Ao9 h c
   simp;omega
  ·have:=Ar8 h hs ht B (by omega)
   by_cases hs':s B=true
   ·rw [if_pos hs',if_pos (h B hs')];omega
   ·rw [if_neg hs'];split<;>omega
theorem BR1 {n:Nw} {l:List Nat} {s:Nat->Bool} {b:Nat} (h:s b=true):∀ i,rit n l s i b=true
 | 0=>h
 | i+1=>AS7 l (BR1 h i)
theorem rit_fix {n:Nw} {l:List Nat} {s:Nat->Bool} {B:Nat} (hl:∀ k∈l,n.F k<B/\n.T k<B) {i:Nat} (h:∀ b,b<B->rit n l s (i+1) b=true->rit n l s i b=true):∀ k∈l,rit n l s i (n.F k)=rit n l s i (n.T k) :=
 AS8 (B:=B) l hl h
theorem Af3 {n:Nw} {s:Nat->Bool} {k:Nat} (h:s (n.F k)=s (n.T k)):rstep n s k=s:=by
 unfold rstep
 split
 ·rename_i h1
  rw [h,Bool.or_self] at h1
  have hF:s (n.F k)=true:=by rw [h];exact h1
  funext b
  by_cases e1:b=n.F k
  ·subst e1;simp [hF]
  ·by_cases e2:b=n.T k
   ·subst e2;simp [h1]
   ·simp [AD8 e1,AD8 e2]
 ·rfl
theorem AP2 {n:Nw}:∀ (l:List Nat) {s:Nat->Bool},(∀ k∈l,s (n.F k)=s (n.T k))->rpass n l s=s
 | [],_,_=>rfl
 | k::l,s,h=>by
  show rpass n l (rstep n s k)=s
  rw [Af3 (h k (List.mem_cons_self ..))]
  exact AP2 l fun k' hk'=>h k' (List.mem_cons_of_mem _ hk')
theorem BC2 {n:Nw} {l:List Nat} {s:Nat->Bool} {B:Nat} (hl:∀ k∈l,n.F k<B/\n.T k<B) {a:Nat} (ha:a<B) (hs:s a=true):∀ k∈l,rit n l s B (n.F k)=rit n l s B (n.T k):=by
 have key:∀ i,(∀ k∈l,rit n l s i (n.F k)=rit n l s i (n.T k))\/i+1<=cntB (rit n l s i) B:=by
  intro i
  induction i with
  | zero =>
   right
   have:=Ar8 (s:=fun _=>false) (t:=rit n l s 0) (fun b h=>by cases h) (c:=a) rfl hs B ha
   omega
  | succ i ih =>
   rcases ih with ih | ih
   ·left
    have e:rit n l s (i+1)=rit n l s i:=AP2 l ih
    rw [e];exact ih
   ·by_cases hst:∀ b,b<B->rit n l s (i+1) b=true->rit n l s i b=true
    ·left
     have h1:=rit_fix hl hst
     have e:rit n l s (i+1)=rit n l s i:=AP2 l h1
     rw [e];exact h1
    ·right
     obtain ⟨b,hb⟩:=Classical.not_forall.1 hst
     obtain ⟨hb1,hb2⟩:=Classical.not_imp.1 hb
     obtain ⟨hb2,hb3⟩:=Classical.not_imp.1 hb2
     have:=Ar8 (s:=rit n l s i) (t:=rit n l s (i+1)) (fun c h=>AS7 l h) (c:=b) (by simpa using hb3) hb2 B hb1
     omega
 rcases key B with h | h
 ·exact h
 ·have:=BJ7 (rit n l s B) B
  omega
theorem rit_iff {n:Nw} (ok:n.Ok) {l:List Nat} (hl:∀ k,k∈l<->k<n.M/\n.g k≠0) {a b:Nat} (ha:a<n.B):rit n l (fun c=>Nat.beq c a) n.B b=true<->n.root b=n.root a:=by
 have hlB:∀ k∈l,n.F k<n.B/\n.T k<n.B:=fun k hk=>⟨ok.f k ((hl k).1 hk).1,ok.t k ((hl k).1 hk).1⟩
 have hs0:(fun c=>Nat.beq c a) a=true:=by simp
 have hs1:∀ b,(fun c=>Nat.beq c a) b=true->n.root b=n.root a:=fun b hb=>by rw [Nat.eq_of_beq_eq_true hb]
 generalize (fun c=>Nat.beq c a)=s0 at *
 constructor
 ·have:∀ i b,rit n l s0 i b=true->n.root b=n.root a:=by
   intro i
   induction i with
   | zero=>exact hs1
   | succ i ih=>exact Af4 l (fun k hk=>n.root_line ((hl k).1 hk).1 ((hl k).1 hk).2) ih
  exact this _ b
 ·intro hr
  have hcl:=BC2 (n:=n) (l:=l) hlB ha hs0
  have hc:=n.root_const (θ:=fun b=>if rit n l s0 n.B b then 1 else 0) (fun k hk hg=>by
   rw [hcl k ((hl k).2 ⟨hk,hg⟩)])
  have h1:=hc a
  have h2:=hc b
  rw [hr,h1,if_pos (BR1 hs0 _)] at h2
  split at h2
  ·assumption
  ·exact absurd h2 (by decide)
end Go.Kx
namespace Go.Proofs.YtggegpiffjbngaaGreat
open Go Go.Kx Go.RowKit
end Go.Proofs.YtggegpiffjbngaaGreat
namespace Go.Kx
open Go Go.RowKit
theorem rsz_z {n:Int} (h:n.natAbs<=1208925819614629174706176):Rsz ((n:Int):Rat) 3:=Rsz.int _ (by
 have:(4294967296:Nat) ^ 3=79228162514264337593543950336:=by decide
 omega) (by decide)
end Go.Kx
namespace Go.Proofs.YtggegpiffjbngaaGreat
open Go Go.Kx Go.RowKit
end Go.Proofs.YtggegpiffjbngaaGreat
namespace Go.Kx
open Go Go.RowKit
end Go.Kx
namespace Go.Proofs.YtggegpiffjbngaaGreat
open Go Go.Kx Go.RowKit
end Go.Proofs.YtggegpiffjbngaaGreat
namespace Go.Kx
open Go Go.RowKit
abbrev eBs:ER (List Bool):=RL eBool
def bl (B:Nat) (s:Nat->Bool):List Bool:=(List.range B).map s
theorem T6 (B:Nat) (s:Nat->Bool):(bl B s).length=B:=by simp [bl]
theorem BE8 {B i:Nat} {s:Nat->Bool} (h:i<B):(bl B s)[i]?=some (s i):=by unfold bl;rw [List.getElem?_map,List.getElem?_range h];rfl
theorem Ai6 {B:Nat} {s t:Nat->Bool} (h:∀ b,b<B->s b=t b):bl B s=bl B t:=List.map_congr_left fun b hb=>h b (List.mem_range.1 hb)
theorem BE7 {B i:Nat} {s:Nat->Bool}:(bl B s).set i true=bl B fun b=>Nat.beq b i || s b:=by
 refine List.ext_getElem (by simp [bl]) fun j h1 h2=>?_
 rw [List.getElem_set]
 by_cases e:i=j
 ·subst e;simp [bl]
 ·have:Nat.beq j i=false:=by
   cases h:Nat.beq j i with
   | false=>rfl
   | true=>exact absurd (Nat.eq_of_beq_eq_true h).symm e
  rw [if_neg e];simp [bl,this]
theorem bl_none (B:Nat):List.replicate B false=bl B fun _=>false:=by
 refine List.ext_getElem (by simp [bl]) fun j h1 h2=>?_
 simp [bl]
theorem BJ9 {B:Nat} {n:Nw} {s:Nat->Bool} {k:Nat} (h:(s (n.F k) || s (n.T k))=true):((bl B s).set (n.F k) true).set (n.T k) true=bl B (rstep n s k):=by
 rw [BE7,BE7]
 unfold rstep
 rw [if_pos h]
 exact Ai6 fun b _=>by
  show (Nat.beq b (n.T k) || (Nat.beq b (n.F k) || s b))=(Nat.beq b (n.F k) || Nat.beq b (n.T k) || s b)
  cases Nat.beq b (n.T k)<;>cases Nat.beq b (n.F k)<;>rfl
end Go.Kx
namespace Go.Proofs.YtggegpiffjbngaaGreat
open Go Go.Kx Go.RowKit
theorem inL_iff {n:NtV} {o:List Int} (ok:nwOk n o) (k:Nat):k∈inL n o<->k<(nwOf n o).M/\(nwOf n o).g k≠0:=by
 unfold inL freeTo
 rw [List.mem_filter,List.mem_range]
 show k<n.ls.length/\_<->k<n.ls.length/\_
 constructor
 ·rintro ⟨h1,h2⟩
  refine ⟨h1,?_⟩
  have hx:=ok.x k h1
  have h2:k∉oN o:=by simpa using h2
  show (if k∈oN o then (0:Rat) else ((n.ls.getD k ln0).x:Rat)⁻¹)≠0
  rw [if_neg h2]
  intro h
  have h3:(((n.ls.getD k ln0).x:Int):Rat)≠0:=by
   intro h
   have:=Rat.intCast_inj.1 (h.trans Rat.intCast_zero.symm)
   omega
  have:=Rat.mul_inv_cancel _ h3
  rw [h,Rat.mul_zero] at this
  exact absurd this (by decide)
 ·rintro ⟨h1,h2⟩
  refine ⟨h1,?_⟩
  have:k∉oN o:=fun hm=>h2 (show (if k∈oN o then (0:Rat) else ((n.ls.getD k ln0).x:Rat)⁻¹)=0 by rw [if_pos hm])
  simpa using this
theorem Al5:Ent Tryz.prog 129:=A0 Tryz.func129 (by kernel_rfl) rfl
set_option maxRecDepth 8000 in
theorem Ak2 {S:Nat->Prop} {w:World} {vn vo:Value} {n:NtV} {o:List Int} {a:Nat} (up:Up S w) (hn:eN.R S w vn n) (ho:eI.R S w vo o) (ok:nwOk n o) (ha:a<(nwOf n o).B):CR Tryz.prog 129 #[vn,vo,.int .i64 (a:Nat)] w (eBs.at S (bl (nwOf n o).B fun b=>decide ((nwOf n o).root b=(nwOf n o).root a))):=by
 obtain ⟨s,rfl,hs,hb⟩:=hn
 have hn:eN.R S w (.agg #[.int .i64 n.b,s]) n:=⟨s,rfl,hs,hb⟩
 have hnb:=ok.b
 have hB6:=ok.b6
 have hM:n.ls.length<=10:=ok.m
 rw [hnb] at hn
 rw [hnb]
 refine enter Tryz.func129 O Tryz.ntmps129 O (.beg (.go O (.box O O fun w1 b3 n1=>.go O ?_)))
 obtain ⟨e1,k3,hb3,hs1⟩:=n1
 replace k3:Blk w1 b3 24 #[.int .i64 ((nwOf n o).B:Nat),s]:=k3
 refine .fa E5 O O (.go O (.ld A3 O O k3 O ?_))
 refine .make_ _ _ un_B info_B O (by decide) O O O (Nat.le_refl _) (by omega) (by omega) fun w2 g n2=>?_
 have f2:FB eBool 4 S w2 g (List.replicate (nwOf n o).B false):=FB.made n2 rfl
 obtain ⟨e2,_,hg,hs2⟩:=n2
 have k3:=k3.ext e2
 have hsg:S g:=up g (by have:=e1.size;omega)
 refine .go O (.ixB (i:=a) un_B B9 O O O ha (.storeF (E:=eBool) (i:=a) (z:=true) (by decide) B9 O O f2 O (by rw [List.length_replicate];exact ha) (Nat.zero_add _) O fun w3 f3 u3=>?_))
 rw [bl_none,BE7] at f3
 have hW3:Ext w1 w3:=u3.below e2 (by omega)
 have x3:=e1.trans hW3
 have k3:=k3.upd u3 (by omega)
 have k3b:∀ {W:World},Ext w1 W->Blk W b3 24 #[.int .i64 ((nwOf n o).B:Nat),s]:=fun e=>(show Blk w1 b3 24 _ from by assumption).ext e
 have hsW:∀ {W:World},Ext w1 W->eLs.R S W s n.ls:=fun e=>ER.ext eLs hs (e1.trans e)
 have hnW:eN.R (fun k=>k≠g) w3 (.agg #[.int .i64 ((nwOf n o).B:Nat),s]) n:=ER.ext eN (eN.mono (fun k _ h=>by have:=h.2;have:=e1.size;omega) (ER.lt eN hn)) x3
 have hoW:eI.R (fun k=>k≠g) w3 vo o:=ER.ext eI (eI.mono (fun k _ h=>by have:=h.2;have:=e1.size;omega) (ER.lt eI ho)) x3
 refine .go O (.ldA ty_N O O k3 O (.go O ?_))
 refine .call _ O BE9 O (BC3 (S:=(fun k=>k≠g)) (fun k hk=>by have:=u3.size;omega) hnW hoW ok.outs (by omega)) fun vl w4 e4 hl=>?_
 have hL10:(inL n o).length<=10:=Nat.le_trans (AT5 n o) hM
 have f4:=f3.ext e4
 have hW4:=hW3.trans e4
 generalize hI:(fun c=>Nat.beq c a)=I0
 have f4:FB eBool 4 S w4 g (bl (nwOf n o).B I0):=by
  rw [<-hI]
  refine cast (congrArg _ (Ai6 fun b _=>?_)) f4
  show (Nat.beq b a || false)=Nat.beq b a
  cases Nat.beq b a<;>rfl
 refine .goC O ?_
 refine .lp (α:=Nat) [3,7,8] O (fun i=>[(9,.int .i64 (i:Nat))]) (fun i W=>Ext w1 W/\i<=(nwOf n o).B/\FB eBool 4 S W g (bl (nwOf n o).B (rit (nwOf n o) (inL n o) I0 i))/\eI.R (fun k=>k≠g) W vl (pInts (inL n o))) (fun i=>(nwOf n o).B-i) 0 (lc1 O) ⟨hW4,Nat.zero_le _,f4,hl⟩ ?_
 clear f2 f3 f4 hl k3
 rintro i W ⟨hW,hi,fb,hl⟩
 have k3:=k3b hW
 have lg:=fb.lt
 refine .go O (.fa E5 O O (.go O (.ld A3 O O k3 O (.go O ?_))))
 rcases Nat.lt_or_ge i (nwOf n o).B with hlt | hge
 rotate_left
 ·have:i=(nwOf n o).B:=by omega
  subst this
  have r:=fb.toR (hsz:=by decide) (c:=(nwOf n o).B) hsg (by rw [T6];exact Nat.le_refl _) (by rw [T6];omega)
  rw [T6,<-hI] at r
  refine .lssF O O O (by omega) (.goE O (.plain [_] Tryz.results129 ⟨rfl,trivial⟩ ⟨e1.trans hW,?_⟩))
  have he:bl (nwOf n o).B (rit (nwOf n o) (inL n o) (fun c=>Nat.beq c a) (nwOf n o).B)=bl (nwOf n o).B fun b=>decide ((nwOf n o).root b=(nwOf n o).root a):=Ai6 fun b _=>Bool.eq_iff_iff.2 ((rit_iff ok.ok (inL_iff ok) ha).trans decide_eq_true_iff.symm)
  rw [he] at r
  exact r
 refine .lssT O O O (by omega) (.goC O ?_)
 refine .lp (α:=Nat) [3,7,8,9] O (fun j=>[(10,.int .i64 (j:Nat))]) (fun j W'=>Ext w1 W'/\j<=(inL n o).length/\FB eBool 4 S W' g (bl (nwOf n o).B (rpass (nwOf n o) ((inL n o).take j) (rit (nwOf n o) (inL n o) I0 i)))/\eI.R (fun k=>k≠g) W' vl (pInts (inL n o))) (fun j=>(inL n o).length-j) 0 (lc1 O) ⟨hW,Nat.zero_le _,fb,hl⟩ ?_
 clear fb hl k3 lg hW
 rintro j W ⟨hW,hj,fb,hl⟩
 have k3:=k3b hW
 have lg:=fb.lt
 have hpl:(pInts (inL n o)).length=(inL n o).length:=by simp [pInts]
 refine .go O (.lenR un_I O O hl ?_)
 rw [hpl]
 rcases Nat.lt_or_ge j (inL n o).length with hjl | hge
 rotate_left
 ·have:j=(inL n o).length:=by omega
  subst this
  rw [List.take_length] at fb
  exact .lssF O O O (by omega) (.go O (.inc O O O (by omega) (.goN O (.mk (i+1) O (lc1 O) ⟨⟨hW,hlt,fb,hl⟩,by show (nwOf n o).B-(i+1)<(nwOf n o).B-i;omega⟩))))
 obtain ⟨hgj,hkl,_⟩:=Ad2 hjl
 have htk:(inL n o).take (j+1)=(inL n o).take j++[(inL n o).getD j 0]:=by
  rw [List.take_add_one,List.getElem?_eq_getElem hjl,List.getD_eq_getElem?_getD,List.getElem?_eq_getElem hjl];rfl
 have hps:rpass (nwOf n o) ((inL n o).take (j+1)) (rit (nwOf n o) (inL n o) I0 i)=rstep (nwOf n o) (rpass (nwOf n o) ((inL n o).take j) (rit (nwOf n o) (inL n o) I0 i)) ((inL n o).getD j 0):=by rw [htk,BC1]
 generalize (inL n o).getD j 0=k at hgj hkl hps
 generalize rpass (nwOf n o) ((inL n o).take j) (rit (nwOf n o) (inL n o) I0 i)=st at fb hps
 have hgl:n.ls[k]?=some (n.ls.getD k ln0):=A9 hkl
 have hF:=ok.f k hkl
 have hT:=ok.t k hkl
 have hFI:=ok.fI k hkl
 have hTI:=ok.tI k hkl
 generalize n.ls.getD k ln0=ln at hgl hFI hTI
 refine .lssT O O O (by omega) (.goC O ?_)
 refine .par follows 9 [.inl _,.inl s,.inl _,.inl _,.inr (Ptr (eInt .i64) (fun k=>k≠g) ((k:Nat):Int)),.inl (.int .i64 (k:Nat)),.inr (Ptr eL S ln),.inr (eL.at S ln),.inr (NewP W.heap.size 58 (Value.agg #[.int .i64 0,.int .i64 0,.int .i64 0,.int .i64 0]).cells)] [[],[(33,0)],[],[],[(35,2),(36,3)],[(37,4)],[(34,1),(38,5)],[(39,6)],[]] (by kernel_rfl) ⟨
  fun w e=>(v_fa G7 O).ob,
  fun w e=>(v_ld K6 O (k3.ext e) O).ob,
  fun w e=>(v_mv O).ob,
  fun w e=>(v_mv O).ob,
  fun w e=>B5 (i:=j) un_I B6 O (ER.ext eI hl e) O hgj,
  fun w e x4 hx4=>G5 A3 O hx4,
  fun w e=>B5 (i:=k) K4 M8 O (hsW (hW.trans e)) O hgl,
  fun w e x6 hx6=>I5 M8 O hx6,
  fun w e=>AE8 AL6 e.size,trivial⟩ ?_
 rintro W1 d1 _ _ _ _ vl7 hl7 _ ⟨c,rfl,hc,kc⟩
 refine .storeA (E:=eL) (S:=fun k=>k≠c) M8 O O kc O O hl7 (fun h=>h O) fun W2 kc u2 hl2=>?_
 obtain ⟨rfl,_⟩:=hl2
 replace kc:Blk W2 c 58 #[.int .i64 ln.f,.int .i64 ln.t,.int .i64 ln.x,.int .i64 ln.c]:=kc
 rw [hFI,hTI] at kc
 have D:Ext W W2:=u2.below d1 hc
 have hcg:c≠g:=by omega
 have hgc:g≠c:=fun h=>hcg h.symm
 have fb:=fb.ext D
 have hl2:=ER.ext eI hl D
 have hW2:=hW.trans D
 have hg1:w1.heap.size<=g:=by omega
 refine .go O (.fa H2 O O (.go O (.ld A3 O O kc O (.go O (.ixB (i:=(nwOf n o).F k) un_B B9 O O O hF (.ldF (E:=eBool) (i:=(nwOf n o).F k) (by decide) B9 O O (Nat.zero_add _) fb (BE8 hF) fun e he=>?_))))))
 replace he:e=.bool (st ((nwOf n o).F k)):=he
 subst he
 cases hs1':st ((nwOf n o).F k) with
 | true =>
  refine .go O (.fa H2 O O (.go O (.ld A3 O O kc O (.go O (.ixB (i:=(nwOf n o).F k) un_B B9 O O O hF (.storeF (E:=eBool) (i:=(nwOf n o).F k) (z:=true) (by decide) B9 O O fb O (by rw [T6];exact hF) (Nat.zero_add _) O fun W3 fb u3=>?_))))))
  have kc:=kc.upd u3 (by omega)
  refine .go O (.fa H1 O O (.go O (.ld A3 O O kc O (.go O (.ixB (i:=(nwOf n o).T k) un_B B9 O O O hT (.storeF (E:=eBool) (i:=(nwOf n o).T k) (z:=true) (by decide) B9 O O fb O (by rw [List.length_set,T6];exact hT) (Nat.zero_add _) O fun W4 fb u4=>?_))))))
  rw [BJ9 (by rw [hs1'];rfl),<-hps] at fb
  exact .go O (.inc O O O (by omega) (.goN O (.mk (j+1) O (lc1 O) ⟨⟨u4.below (u3.below hW2 (by omega)) (by omega),hjl,fb,eI.upd (eI.upd hl2 u3 (fun h=>h O)) u4 (fun h=>h O)⟩,by show (inL n o).length-(j+1)<(inL n o).length-j;omega⟩)))
 | false =>
 refine .go O (.fa H1 O O (.go O (.ld A3 O O kc O (.go O (.ixB (i:=(nwOf n o).T k) un_B B9 O O O hT (.go O (.ldF (E:=eBool) (i:=(nwOf n o).T k) (by decide) B9 O O (Nat.zero_add _) fb (BE8 hT) fun e he=>?_)))))))
 replace he:e=.bool (st ((nwOf n o).T k)):=he
 subst he
 cases hs2':st ((nwOf n o).T k) with
 | true =>
  refine .go O (.fa H2 O O (.go O (.ld A3 O O kc O (.go O (.ixB (i:=(nwOf n o).F k) un_B B9 O O O hF (.storeF (E:=eBool) (i:=(nwOf n o).F k) (z:=true) (by decide) B9 O O fb O (by rw [T6];exact hF) (Nat.zero_add _) O fun W3 fb u3=>?_))))))
  have kc:=kc.upd u3 (by omega)
  refine .go O (.fa H1 O O (.go O (.ld A3 O O kc O (.go O (.ixB (i:=(nwOf n o).T k) un_B B9 O O O hT (.storeF (E:=eBool) (i:=(nwOf n o).T k) (z:=true) (by decide) B9 O O fb O (by rw [List.length_set,T6];exact hT) (Nat.zero_add _) O fun W4 fb u4=>?_))))))
  rw [BJ9 (by rw [hs2'];cases st ((nwOf n o).F k)<;>rfl),<-hps] at fb
  exact .go O (.inc O O O (by omega) (.goN O (.mk (j+1) O (lc1 O) ⟨⟨u4.below (u3.below hW2 (by omega)) (by omega),hjl,fb,eI.upd (eI.upd hl2 u3 (fun h=>h O)) u4 (fun h=>h O)⟩,by show (inL n o).length-(j+1)<(inL n o).length-j;omega⟩)))
 | false =>
 have hsm:rstep (nwOf n o) st k=st:=Af3 (by rw [hs1',hs2'])
 rw [hsm] at hps
 exact .go O (.inc O O O (by omega) (.goN O (.mk (j+1) O (lc1 O) ⟨⟨hW2,hjl,by show FB _ _ _ W2 _ (bl _ (rpass _ ((inL n o).take (j+1)) _));rw [hps];exact fb,hl2⟩,by show (inL n o).length-(j+1)<(inL n o).length-j;omega⟩)))
theorem AH6:Ent Tryz.prog 64:=A0 Tryz.func64 (by kernel_rfl) rfl
set_option maxRecDepth 8000 in
theorem AG3 {S:Nat->Prop} {w:World} {vn vo:Value} {n:NtV} {o:List Int} (up:Up S w) (hn:eN.R S w vn n) (ho:eI.R S w vo o) :
  CR Tryz.prog 64 #[vn,vo] w (Two (eI.at S (if outE n o=0 then tabI (nwOf n o).B (nwOf n o).lab else [])) (Is (.int .i64 (outE n o)))):=by
 obtain ⟨s,rfl,hs,hb⟩:=hn
 have hn:eN.R S w (.agg #[.int .i64 n.b,s]) n:=⟨s,rfl,hs,hb⟩
 refine enter Tryz.func64 O Tryz.ntmps64 O (.beg (.go O (.box O O fun w1 b2 n1=>.go O ?_)))
 obtain ⟨e1,k2,hb2,hs1⟩:=n1
 replace k2:Blk w1 b2 24 #[.int .i64 n.b,s]:=k2
 refine .ldA ty_N O O k2 O (.go O ?_)
 refine .call _ O S3 O (Q4 (hn.ext e1) (ho.ext e1)) fun v3 w3 e3 h3=>?_
 subst h3
 have x3:=e1.trans e3
 refine .go O ?_
 by_cases hO:outE n o=0
 rotate_left
 ·refine .neqT O O O hO (.goE O (.plain [_,_] Tryz.results64 ⟨rfl,rfl,trivial⟩ ⟨x3,_,_,rfl,?_,rfl⟩))
  rw [if_neg hO]
  exact RL.nil
 have ok:=N1 hO
 have hnb:=ok.b
 have hB6:=ok.b6
 rw [if_pos hO,hO]
 have k2:=k2.ext e3
 rw [hnb] at k2 hn
 refine .neqF O O O O (.go O (.fa E5 O O (.go O (.ld A3 O O k2 O ?_))))
 refine .make_ _ _ un_I AD5 O (by decide) O O O (Nat.le_refl _) (by omega) (by omega) fun w4 g n4=>?_
 have f4:FB (eInt .i64) 3 S w4 g (List.replicate (nwOf n o).B (0:Int)):=FB.made n4 ⟨rfl,K5.2 (by decide)⟩
 obtain ⟨e4,_,hg,hs4⟩:=n4
 have hsg:S g:=up g (by have:=x3.size;omega)
 have z3:=x3.size
 have hnW:∀ {W:World},Ext w3 W->eN.R (fun k=>k≠g) W (.agg #[.int .i64 ((nwOf n o).B:Nat),s]) n:=fun e=>ER.ext eN (eN.mono (fun k _ h=>by have:=h.2;omega) (ER.lt eN hn)) (x3.trans e)
 have hoW:∀ {W:World},Ext w3 W->eI.R (fun k=>k≠g) W vo o:=fun e=>ER.ext eI (eI.mono (fun k _ h=>by have:=h.2;omega) (ER.lt eI ho)) (x3.trans e)
 generalize hf:(fun b=>(((nwOf n o).lab b:Nat):Int))=f
 refine .goC O ?_
 refine .lp (α:=Nat) [1,2,7] O (fun b=>[(8,.int .i64 ((nwOf n o).cnt b:Nat)),(9,.int .i64 (b:Nat))]) (fun b W=>Ext w3 W/\b<=(nwOf n o).B/\FB (eInt .i64) 3 S W g (fil (nwOf n o).B b f 0)) (fun b=>(nwOf n o).B-b) 0 (lc2 O O) ⟨e4,Nat.zero_le _,by rw [V5];exact f4⟩ ?_
 rintro b W ⟨hW,hbB,fb⟩
 have k2:=k2.ext hW
 have lg:=fb.lt
 refine .go O (.fa E5 O O (.go O (.ld A3 O O k2 O (.go O ?_))))
 rcases Nat.lt_or_ge b (nwOf n o).B with hlt | hge
 rotate_left
 ·have:b=(nwOf n o).B:=by omega
  subst this
  rw [AC1] at fb
  have r:=fb.toR (hsz:=by decide) (c:=(nwOf n o).B) hsg (by simp) (by simp;omega)
  rw [List.length_map,List.length_range,<-hf] at r
  exact .lssF O O O (by omega) (.goE O (.plain [_,_] Tryz.results64 ⟨rfl,rfl,trivial⟩ ⟨x3.trans hW,_,_,rfl,r,rfl⟩))
 refine .lssT O O O (by omega) (.go O (.ldA ty_N O O k2 O (.go O ?_)))
 refine .call _ O Al5 O (Ak2 (S:=fun k=>k≠g) (a:=b) (fun k hk=>by omega) (hnW hW) (hoW hW) ok hlt) fun vr W1 d1 hr=>?_
 have hW1:=hW.trans d1
 have fb:=fb.ext d1
 have hrb:=(nwOf n o).root_le b
 have hcb:=(nwOf n o).cnt_le b
 refine .goC O ?_
 refine .lp (α:=Nat) [1,2,7,8,9,10] O (fun c=>[(11,.int .i64 (c:Nat))]) (fun c W'=>W'=W1/\c<=(nwOf n o).root b) (fun c=>(nwOf n o).root b-c) 0 (lc1 O) ⟨rfl,Nat.zero_le _⟩ ?_
 rintro c W' ⟨rfl,hc⟩
 refine .go O (.ixN (i:=c) un_B B9 O O hr O (BE8 (by omega)) fun p hp=>.ldE (E:=eBool) B9 O O hp fun e he=>?_)
 replace he:e=.bool (decide ((nwOf n o).root c=(nwOf n o).root b)):=he
 subst he
 by_cases hcr:(nwOf n o).root c=(nwOf n o).root b
 rotate_left
 ·rw [decide_eq_false hcr]
  have hne:c≠(nwOf n o).root b:=fun h=>hcr (by rw [h,Nw.root_root])
  exact .go O (.inc O O O (by omega) (.goN O (.mk (c+1) O (lc1 O) ⟨⟨rfl,by omega⟩,by show (nwOf n o).root b-(c+1)<(nwOf n o).root b-c;omega⟩)))
 rw [decide_eq_true hcr]
 have hce:c=(nwOf n o).root b:=by have:=(nwOf n o).root_le c;omega
 subst hce
 refine .go O ?_
 have hcs:=(nwOf n o).cnt_succ b
 by_cases hrr:(nwOf n o).root b=b
 ·rw [if_pos hrr] at hcs
  have hfb:f b=(((nwOf n o).cnt b:Nat):Int):=by rw [<-hf];show (((nwOf n o).lab b:Nat):Int)=_;rw [Nw.lab_root _ hrr]
  refine .eqlT O O O (by rw [hrr]) (.go O (.ixB (i:=b) un_I B6 O O O hlt (.storeF (E:=eInt .i64) (i:=b) (z:=f b) (by decide) B6 O O fb O (by rw [J9];exact hlt) (Nat.zero_add _) ⟨by rw [hfb],K5.2 (by omega)⟩ fun W2 f2 u2=>?_)))
  rw [U3] at f2
  refine .go O (.inc O O O (by omega) (.go O (.inc O O O (by omega) ?_)))
  exact .goN O (.mk (b+1) O (lc2 (by rw [hcs];rfl) O) ⟨⟨u2.below hW1 (by omega),hlt,f2⟩,by show (nwOf n o).B-(b+1)<(nwOf n o).B-b;omega⟩)
 ·rw [if_neg hrr,Nat.add_zero] at hcs
  have hlb:f ((nwOf n o).root b)=f b:=by rw [<-hf];show (((nwOf n o).lab _:Nat):Int)=(((nwOf n o).lab b:Nat):Int);rw [<-Nw.lab_of]
  refine .eqlF O O O (by omega) (.go O (.ixB (i:=(nwOf n o).root b) un_I B6 O O O (by omega) (.ldF (E:=eInt .i64) (i:=(nwOf n o).root b) (by decide) B6 O O (Nat.zero_add _) fb (BJ2 (by omega) (by omega)) fun e he=>.ixB (i:=b) un_I B6 O O O hlt ?_)))
  rw [hlb] at he
  refine .storeF (E:=eInt .i64) (i:=b) (z:=f b) (by decide) B6 O O fb O (by rw [J9];exact hlt) (Nat.zero_add _) he fun W2 f2 u2=>?_
  rw [U3] at f2
  refine .go O (.inc O O O (by omega) ?_)
  exact .goN O (.mk (b+1) O (lc2 (by rw [hcs];rfl) O) ⟨⟨u2.below hW1 (by omega),hlt,f2⟩,by show (nwOf n o).B-(b+1)<(nwOf n o).B-b;omega⟩)
end Go.Proofs.YtggegpiffjbngaaGreat
namespace Go.Kx
open Go Go.RowKit Go.Proofs.YtggegpiffjbngaaGreat
noncomputable def labB (n:NtV) (o:List Int):Nat:=if outE n o=0 then (nwOf n o).B else 0
theorem BI1 (n:NtV) (o:List Int):labB n o<=6:=by
 unfold labB
 split
 ·exact (N1 (by assumption)).b6
 ·omega
theorem Ax4 (n:NtV) (o:List Int):(if outE n o=0 then tabI (nwOf n o).B (nwOf n o).lab else [])=tabI (labB n o) (nwOf n o).lab:=by
 unfold labB
 split
 ·rfl
 ·rfl
def Nw.withTo (n:Nw) (k b:Nat):List Nat:=(List.range b).filter fun c=>decide (n.lab c=k)
theorem Nw.withTo_succ (n:Nw) (k b:Nat):n.withTo k (b+1)=n.withTo k b++if n.lab b=k then [b] else []:=by
 unfold Nw.withTo
 rw [List.range_succ,List.filter_append]
 by_cases h:n.lab b=k
 ·simp [h]
 ·simp [h]
theorem Nw.withTo_le (n:Nw) (k b:Nat):(n.withTo k b).length<=b:=by
 unfold Nw.withTo
 exact Nat.le_trans (List.length_filter_le ..) (by rw [List.length_range];exact Nat.le_refl _)
noncomputable def rMemb (n:NtV) (o:List Int):List (List Int):=(List.range ((nwOf n o).refsTo (labB n o)).length).map fun k=>pInts ((nwOf n o).withTo k (labB n o))
end Go.Kx
namespace Go.Proofs.YtggegpiffjbngaaGreat
open Go Go.Kx Go.RowKit
theorem bsl_IIq {a:Option Addr} {n c:Nat}:bslOf Tryz.prog 47 1 [(0,.slice a n c)]=some (25,#[.slice a n c]):=by kernel_rfl
theorem AH5:Ent Tryz.prog 65:=A0 Tryz.func65 (by kernel_rfl) rfl
set_option maxRecDepth 8000 in
theorem AG2 {S:Nat->Prop} {w:World} {vn vo:Value} {n:NtV} {o:List Int} (up:Up S w) (hn:eN.R S w vn n) (ho:eI.R S w vo o) :
  CR Tryz.prog 65 #[vn,vo] w (Two (eI.at S (pInts ((nwOf n o).refsTo (labB n o)))) (Is (.int .i64 (outE n o)))):=by
 obtain ⟨s,rfl,hs,hb⟩:=hn
 have hn:eN.R S w (.agg #[.int .i64 n.b,s]) n:=⟨s,rfl,hs,hb⟩
 refine enter Tryz.func65 O Tryz.ntmps65 O (.beg (.go O (.box O O fun w1 b2 n1=>.go O ?_)))
 obtain ⟨e1,k2,hb2,hs1⟩:=n1
 refine .ldA ty_N O O k2 O (.go O ?_)
 refine .call _ O AH6 O (AG3 (up.ext e1.size) (hn.ext e1) (ho.ext e1)) fun v3 w3 e3 h3=>?_
 obtain ⟨vl,ve,rfl,hl,he⟩:=h3
 replace he:ve=.int .i64 (outE n o):=he
 subst he
 rw [Ax4] at hl
 have hB6:=BI1 n o
 have x3:=e1.trans e3
 have z3:=x3.size
 generalize labB n o=B at hl hB6 ⊢
 refine .goC O ?_
 refine .lp (α:=Nat×Value) [6,7] O (fun y=>[(8,y.2),(9,.int .i64 (y.1:Nat))]) (fun y W=>Ext w3 W/\y.1<=B/\OwnL (eInt .i64) 3 w3.heap.size (fun _=>False) W y.2 (pInts ((nwOf n o).refsTo y.1))) (fun y=>B-y.1) (0,.slice none 0 0) (lc2 O O) ⟨Ext.refl _,Nat.zero_le _,OwnL.nil⟩ ?_
 rintro ⟨b,v⟩ W ⟨hW,hbB,hO⟩
 replace hW:Ext w3 W:=hW
 replace hbB:b<=B:=hbB
 replace hO:OwnL (eInt .i64) 3 w3.heap.size (fun _=>False) W v (pInts ((nwOf n o).refsTo b)):=hO
 refine .go O (.lenR un_I O O (ER.ext eI hl hW) ?_)
 rw [N0]
 rcases Nat.lt_or_ge b B with hlt | hge
 rotate_left
 ·have:b=B:=by omega
  subst this
  exact .lssF O O O (by omega) (.goE O (.plain [_,_] Tryz.results65 ⟨rfl,rfl,trivial⟩ ⟨x3.trans hW,_,_,rfl,hO.toR (fun k hk=>up k (by omega)) (fun _ h=>h.elim),rfl⟩))
 have hcl:=(nwOf n o).cnt_le b
 have hlen:(pInts ((nwOf n o).refsTo b)).length=(nwOf n o).cnt b:=by simp [pInts,Nw.refsTo_len]
 have hrs:=(nwOf n o).refsTo_succ b
 refine .lssT O O O (by omega) (.go O (.ixN (i:=b) un_I B6 O O (ER.ext eI hl hW) O (P9 hlt) fun q hq=>.ldE (E:=eInt .i64) B6 O O hq fun e he=>.go O (.lenR un_I O O (hO.toR (hsz:=by decide) (S:=fun _=>True) (fun _ _=>trivial) (fun _ h=>h.elim)) ?_)))
 obtain ⟨rfl,_⟩:=he
 rw [hlen]
 by_cases hr:(nwOf n o).root b=b
 ·rw [if_pos hr] at hrs
  have h1:=((nwOf n o).lab_cnt b).2 hr
  refine .eqlT O O O (by rw [h1]) (.go O (.bsl _ O O AQ6 fun W3 b3 n3=>?_))
  obtain ⟨d3,k3,hb3,hs3⟩:=n3
  have hW3:=hW.trans d3
  refine .gv O O (AC0 (E:=eInt .i64) (base:=w3.heap.size) (n:=((b:Nat):Int)) (e:=.int .i64 (b:Nat)) (by decide) un_I AD5 O O O (hO.ext d3) k3 ⟨rfl,K5.2 (by omega)⟩ (by rw [hlen];omega) (by decide) hW3.size) ?_
  rintro v4 W4 ⟨hO4,g4,_⟩
  have hW4:Ext w3 W4:=OwnL.below (hO.ext d3) g4 hW3 hW3.size
  exact .go O (.inc O O O (by omega) (.goN O (.mk (b+1,v4) O (lc2 O O) ⟨⟨hW4,hlt,by show OwnL _ _ _ _ W4 v4 (pInts ((nwOf n o).refsTo (b+1)));rw [hrs];unfold pInts;rw [List.map_append];exact hO4⟩,by show B-(b+1)<B-b;omega⟩)))
 ·rw [if_neg hr,List.append_nil] at hrs
  have h1:(nwOf n o).lab b≠(nwOf n o).cnt b:=fun h=>hr (((nwOf n o).lab_cnt b).1 h)
  exact .eqlF O O O (by omega) (.go O (.inc O O O (by omega) (.goN O (.mk (b+1,v) O (lc2 O O) ⟨⟨hW,hlt,by show OwnL _ _ _ _ W v (pInts ((nwOf n o).refsTo (b+1)));rw [hrs];exact hO⟩,by show B-(b+1)<B-b;omega⟩))))
theorem Ac6:Ent Tryz.prog 87:=A0 Tryz.func87 (by kernel_rfl) rfl
set_option maxRecDepth 8000 in
theorem Ab8 {S:Nat->Prop} {w:World} {vn vo:Value} {n:NtV} {o:List Int} (up:Up S w) (hn:eN.R S w vn n) (ho:eI.R S w vo o) :
  CR Tryz.prog 87 #[vn,vo] w (Two (eII.at S (rMemb n o)) (Is (.int .i64 (outE n o)))):=by
 obtain ⟨s,rfl,hs,hb⟩:=hn
 have hn:eN.R S w (.agg #[.int .i64 n.b,s]) n:=⟨s,rfl,hs,hb⟩
 refine enter Tryz.func87 O Tryz.ntmps87 O (.beg (.go O (.box O O fun w1 b2 n1=>.go O ?_)))
 obtain ⟨e1,k2,hb2,hs1⟩:=n1
 refine .ldA ty_N O O k2 O (.go O ?_)
 refine .call _ O AH6 O (AG3 (up.ext e1.size) (hn.ext e1) (ho.ext e1)) fun v3 w3 e3 h3=>?_
 obtain ⟨vl,ve,rfl,hl,he⟩:=h3
 replace he:ve=.int .i64 (outE n o):=he
 subst he
 rw [Ax4] at hl
 have x3:=e1.trans e3
 have k2:=k2.ext e3
 refine .go O (.ldA ty_N O O k2 O (.go O ?_))
 refine .call _ O AH5 O (AG2 (up.ext x3.size) (hn.ext x3) (ho.ext x3)) fun v4 w4 e4 h4=>?_
 obtain ⟨vr,ve,rfl,hr,_⟩:=h4
 have hl:=ER.ext eI hl e4
 have hB6:=BI1 n o
 have x4:=x3.trans e4
 have z4:=x4.size
 unfold rMemb
 generalize labB n o=B at hl hr hB6 ⊢
 have hrl:(pInts ((nwOf n o).refsTo B)).length=((nwOf n o).refsTo B).length:=by simp [pInts]
 have hR6:((nwOf n o).refsTo B).length<=6:=Nat.le_trans ((nwOf n o).cnt_le B) hB6
 generalize ((nwOf n o).refsTo B).length=R at hrl hR6 ⊢
 generalize hf:(fun k=>pInts ((nwOf n o).withTo k B))=f
 refine .goC O ?_
 refine .lp (α:=Nat×Value) [6,7,8] O (fun y=>[(10,y.2),(11,.int .i64 (y.1:Nat))]) (fun y W=>Ext w4 W/\y.1<=R/\OwnL eI 25 w4.heap.size S W y.2 ((List.range y.1).map f)) (fun y=>R-y.1) (0,.slice none 0 0) (lc2 O O) ⟨Ext.refl _,Nat.zero_le _,OwnL.nil⟩ ?_
 rintro ⟨k,v⟩ W ⟨hW,hkR,hO⟩
 replace hW:Ext w4 W:=hW
 replace hkR:k<=R:=hkR
 replace hO:OwnL eI 25 w4.heap.size S W v ((List.range k).map f):=hO
 have zW:=hW.size
 refine .go O (.lenR un_I O O (ER.ext eI hr hW) ?_)
 rw [hrl]
 rcases Nat.lt_or_ge k R with hlt | hge
 rotate_left
 ·have:k=R:=by omega
  subst this
  exact .lssF O O O (by omega) (.goE O (.plain [_,_] Tryz.results87 ⟨rfl,rfl,trivial⟩ ⟨x4.trans hW,_,_,rfl,hO.toR (fun k hk=>up k (by omega)) (fun _ h=>h),rfl⟩))
 refine .lssT O O O (by omega) (.goC O ?_)
 refine .lp (α:=Nat×Value) [6,7,8,10,11] O (fun y=>[(12,y.2),(13,.int .i64 (y.1:Nat))]) (fun y W'=>Ext W W'/\y.1<=B/\OwnL (eInt .i64) 3 W.heap.size (fun _=>False) W' y.2 (pInts ((nwOf n o).withTo k y.1))) (fun y=>B-y.1) (0,.slice none 0 0) (lc2 O O) ⟨Ext.refl _,Nat.zero_le _,OwnL.nil⟩ ?_
 rintro ⟨b,u⟩ W' ⟨hW',hbB,hU⟩
 replace hW':Ext W W':=hW'
 replace hbB:b<=B:=hbB
 replace hU:OwnL (eInt .i64) 3 W.heap.size (fun _=>False) W' u (pInts ((nwOf n o).withTo k b)):=hU
 have hl':=ER.ext eI hl (hW.trans hW')
 refine .go O (.lenR un_I O O hl' ?_)
 rw [N0]
 rcases Nat.lt_or_ge b B with hbl | hge
 rotate_left
 ·have:b=B:=by omega
  subst this
  obtain ⟨es,ho1,ho2⟩:=id hO
  have hrow:eI.R (fun k=>S k/\v.ownBlock≠some k) W' u (f k):=by rw [<-hf];exact hU.toR (fun j hj=>⟨up j (by omega),fun h=>by have:=(ho1.lt j h).2;omega⟩) (fun _ h=>h.elim)
  obtain ⟨ar,cr,hvr,_⟩:=RL.len hrow
  refine .lssF O O O (by omega) (.go O (.bsl _ O O (by rw [hvr];exact bsl_IIq) fun W3 b3 n3=>?_))
  obtain ⟨d3,k3,hb3,hs3⟩:=n3
  have dd:=hW'.trans d3
  have hW3:=hW.trans dd
  have hk3:Blk W3 b3 25 u.cells:=by rw [hvr];exact k3
  refine .gv O O (J8 (E:=eI) (base:=w4.heap.size) (n:=f k) (e:=u) (by decide) Ap8 info_IL O O O (hO.ext dd) hk3 (ER.ext eI hrow d3) (by simp;omega) (by decide) hW3.size) ?_
  rintro v4 W4 ⟨hO4,g4⟩
  have hW4:Ext w4 W4:=OwnL.below (hO.ext dd) g4 hW3 hW3.size
  exact .go O (.inc O O O (by omega) (.goN O (.mk (k+1,v4) O (lc2 O O) ⟨⟨hW4,hlt,by show OwnL _ _ _ _ W4 v4 ((List.range (k+1)).map f);rw [List.range_succ,List.map_append];exact hO4⟩,by show R-(k+1)<R-k;omega⟩)))
 have hws:=(nwOf n o).withTo_succ k b
 have hwl:=(nwOf n o).withTo_le k b
 refine .lssT O O O (by omega) (.go O (.ixN (i:=b) un_I B6 O O hl' O (P9 hbl) fun q hq=>.ldE (E:=eInt .i64) B6 O O hq fun e he=>.go O ?_))
 obtain ⟨rfl,_⟩:=he
 by_cases hlk:(nwOf n o).lab b=k
 ·rw [if_pos hlk] at hws
  refine .eqlT O O O (by rw [hlk]) (.go O (.bsl _ O O AQ6 fun W3 b3 n3=>?_))
  obtain ⟨d3,k3,hb3,hs3⟩:=n3
  have hW3:=hW'.trans d3
  refine .gv O O (AC0 (E:=eInt .i64) (base:=W.heap.size) (n:=((b:Nat):Int)) (e:=.int .i64 (b:Nat)) (by decide) un_I AD5 O O O (hU.ext d3) k3 ⟨rfl,K5.2 (by omega)⟩ (by simp [pInts];omega) (by decide) hW3.size) ?_
  rintro v4 W4 ⟨hO4,g4,_⟩
  have hW4:Ext W W4:=OwnL.below (hU.ext d3) g4 hW3 hW3.size
  exact .go O (.inc O O O (by omega) (.goN O (.mk (b+1,v4) O (lc2 O O) ⟨⟨hW4,hbl,by show OwnL _ _ _ _ W4 v4 (pInts ((nwOf n o).withTo k (b+1)));rw [hws];unfold pInts;rw [List.map_append];exact hO4⟩,by show B-(b+1)<B-b;omega⟩)))
 ·rw [if_neg hlk,List.append_nil] at hws
  exact .eqlF O O O (by omega) (.go O (.inc O O O (by omega) (.goN O (.mk (b+1,u) O (lc2 O O) ⟨⟨hW',hbl,by show OwnL _ _ _ _ W' u (pInts ((nwOf n o).withTo k (b+1)));rw [hws];exact hU⟩,by show B-(b+1)<B-b;omega⟩))))
theorem AZ9:Ent Tryz.prog 246:=A0 Tryz.func246 (by kernel_rfl) rfl
theorem AY2 {w:World} {n:Int}:CR Tryz.prog 246 #[.int .i64 n] w (Is (.int .i64 (cutN n))):=by
 refine enter Tryz.func246 O Tryz.ntmps246 O ?_
 refine .sr (.an O O (.sr (.mv O O (.max_ O O O (.min_ O O O (.an O O (.ret ?_)))))))
 refine .plain [_] Tryz.results246 ⟨rfl,trivial⟩ ⟨Ext.refl _,?_⟩
 show Value.int .i64 (min (max n 0) 1024)=_
 rw [show min (max n 0) 1024=((cutN n:Nat):Int) by unfold cutN;omega]
theorem BA0:Ent Tryz.prog 211:=A0 Tryz.func211 (by kernel_rfl) rfl
theorem Av7 {S:Nat->Prop} {w:World} {vm:Value} {m:List (List QV)} {r c:Int} {L:Nat} (up:Up S w) (hm:eM.R S w vm m) (hk:mk_ L m) (hL:1<=L) (hL2:L<=100000000) :
  CR Tryz.prog 211 #[vm,.int .i64 r,.int .i64 c] w (fun v W=>OwnL eV 32 w.heap.size S W v (tabM (cutN r) (cutN c) (rm m))):=by
 have hr:=AU2 r
 have hc:=AU2 c
 refine enter Tryz.func211 O Tryz.ntmps211 O ?_
 refine .sr (.an O O (.sr (.mv O O ?_)))
 refine .call _ O AZ9 O AY2 fun v1 w1 e1 h1=>.mv O O ?_
 subst h1
 refine .call _ O AZ9 O AY2 fun v2 w2 e2 h2=>?_
 subst h2
 have x2:=e1.trans e2
 refine .call _ O X4 O (U8 (S:=S) (up.ext x2.size) (by decide) (by decide)) fun v3 w3 e3 h3=>.mv O O ?_
 have x3:=x2.trans e3
 have hk1:qk L (qc ((1:Int):Rat)):=AA7 (Rsz.int 1 (Nat.lt_of_lt_of_le (by decide) (Nat.pow_le_pow_right (by decide) hL)) hL)
 refine .call _ O As9 O (Ak5 (k:=qc ((1:Int):Rat)) (b:=[]) (f:=rm m) (up.ext x3.size) h3 (ER.ext eM hm x3) RL.nil (by omega) (by omega) fun {T W i j} u hk' ha hb hi hj=>by
  have:=Af9 (i:=i) (j:=j) (vb:=.slice none 0 0) u hk' ha hk1 hk hL hL2
  rw [B3,AM3,show (((1:Int):Rat))*rm m i j=rm m i j by grind] at this
  exact this) fun v4 w4 e4 h4=>.an O O (.ret ?_)
 exact .plain [_] Tryz.results211 ⟨rfl,trivial⟩ ⟨x3.trans e4,OwnL.base h4 x3.size⟩
theorem Aq9 {p:List Nat} {c:Nat} (h:c∈p):∃ j,j<p.length/\p.getD j 0=c:=by
 obtain ⟨j,hj⟩:=List.mem_iff_getElem?.1 h
 exact ⟨j,(List.getElem?_eq_some_iff.1 hj).1,by rw [List.getD_eq_getElem?_getD,hj];rfl⟩
theorem Aj2:Ent Tryz.prog 155:=A0 Tryz.func155 (by kernel_rfl) rfl
theorem Af8 {S:Nat->Prop} {w:World} {v:Value} {p:List Nat} {k:Nat} (h:eI.R S w v (pInts p)):CR Tryz.prog 155 #[v,.int .i64 (k:Nat)] w (Is (.bool (decide (k∈p)))):=by
 obtain ⟨_,_,_,_,hl⟩:=RL.len h
 have hpl:(pInts p).length=p.length:=by simp
 refine enter Tryz.func155 O Tryz.ntmps155 O ?_
 refine .sr (.an O O (.seq (.sr (.an O O ?_))))
 refine .block (.loop (α:=Nat) (fun i=>[(0,v),(1,.int .i64 (k:Nat)),(5,.int .i64 (i:Nat))]) (fun i W=>W=w/\i<=p.length/\∀ j,j<i->p.getD j 0≠k) (fun i=>p.length-i) 0 ?_ ?_ ?_)
 ·exact lkA rfl
 ·exact ⟨rfl,Nat.zero_le _,fun j hj=>absurd hj (Nat.not_lt_zero _)⟩
 rintro i W ⟨rfl,hi,hall⟩
 refine .seq (.sr (.mv O O (.mv O O (.lenR un_I O O h ?_))))
 rw [hpl]
 rcases Nat.lt_or_ge i p.length with hlt | hge
 rotate_left
 ·refine .lssF O O O (by omega) (.nil (.condF O (.exit (.sr (.an O O (.ret ?_))))))
  have hno:k∉p:=fun hk=>by
   obtain ⟨j,hj,e⟩:=Aq9 hk
   exact hall j (by omega) e
  exact .plain [_] Tryz.results155 ⟨rfl,trivial⟩ ⟨Ext.refl _,by rw [decide_eq_false hno]<;>rfl⟩
 have hg:(pInts p)[i]?=some ((p.getD i 0:Nat):Int):=by rw [List.getElem?_map,A9 (z:=0) hlt];rfl
 refine .lssT O O O (by omega) (.nil (.condT O (.skip (.seq (.block (.sr (.mv O O (.mv O O (.ixN (i:=i) un_I B6 O O h O hg fun q hq=>.ldE (E:=eInt .i64) B6 O O hq fun e he=>.mv O O ?_)))))))))
 obtain ⟨rfl,_⟩:=he
 by_cases he:p.getD i 0=k
 ·refine .eqlT O O O (by omega) (.nil (.condT O (.sr (.an O O (.ret ?_)))))
  have hyes:k∈p:=he▸List.mem_iff_getElem?.2 ⟨i,A9 hlt⟩
  exact .plain [_] Tryz.results155 ⟨rfl,trivial⟩ ⟨Ext.refl _,by rw [decide_eq_true hyes]<;>rfl⟩
 ·refine .eqlF O O O (by omega) (.nil (.condF O (.skip (.region (.mv O O (.add O O O (.an O O ?_)))))))
  rw [wI (by omega)]
  refine ⟨rfl,i+1,lkA rfl,⟨rfl,hlt,fun j hj=>?_⟩,by show p.length-(i+1)<p.length-i;omega⟩
  by_cases e:j=i
  ·subst e;exact he
  ·exact hall j (by omega)
theorem inv_q {b:QV} (h:pn b≠0):qval ⟨zc (pd b),zc (pn b)⟩=(qval b)⁻¹:=by
 have hp:=L3 b
 have h1:qval b=Rat.divInt (pn b) (pd b):=rfl
 rw [h1,Rat.inv_divInt]
 generalize pn b=n at h
 generalize pd b=d at hp
 unfold qval pn pd
 simp only [B0]
 rw [if_neg h]
 split
 ·rw [Rat.divInt_neg',Int.neg_neg]
 ·rfl
theorem Aa3:Ent Tryz.prog 96:=A0 Tryz.func96 (by kernel_rfl) rfl
theorem AY6 {S:Nat->Prop} {w:World} {va vb:Value} {a b:QV} {L:Nat} (up:Up S w) (ha:eQ.R S w va a) (hb:eQ.R S w vb b) (hla:qok L a) (hlb:qok L b) (h1:1<=L) (hL:L<=400000000) (h0:qval b≠0) :
  CR Tryz.prog 96 #[va,vb] w (Two (eQ.at S (qc (qval a*(qval b)⁻¹))) (Is (.int .i64 0))):=by
 have hva:=shpA O ha
 have hvb:=shpA O hb
 have hL9:L<=1000000000:=by omega
 have hbn:pn b≠0:=by
  intro h
  apply h0
  unfold qval
  rw [h,Rat.zero_divInt]
 obtain ⟨db1,db2⟩:=AC3 hb
 have lnb:=AT1 db1 hlb
 have ldb:=AZ0 db2 hlb h1
 have hri:Rsz (qval b)⁻¹ L:=(Av5 db1 db2 hlb h1).inv h1
 refine enter Tryz.func96 O Tryz.ntmps96 O ?_
 refine .sr (.box O O fun w1 b2 n1=>.box O O fun w2 b3 n2=>.alloc O C2 fun w3 b4 n3=>.an O O ?_)
 obtain ⟨e1,k2,hb2,hs1⟩:=n1
 obtain ⟨e2,k3,hb3,hs2⟩:=n2
 obtain ⟨e3,k4,hb4,hs3⟩:=n3
 have x3:=(e1.trans e2).trans e3
 have k2:=(k2.ext e2).ext e3
 have k3:=k3.ext e3
 have hS4:¬ Sx S w.heap.size w3.heap.size b4:=Sx.no (by omega) (by omega)
 have up3:Up (Sx S w.heap.size w3.heap.size) w3:=Sx.up up (Nat.le_refl _) x3.size
 have ha3:=(ha.par w3.heap.size).ext x3
 have hb3':=(hb.par w3.heap.size).ext x3
 have hout:∀ {W:World} {v:Value} {z:QV},eQ.R (Sx S w.heap.size w3.heap.size) W v z->eQ.R S W v z:=fun h=>h.out
 have hw4:w.heap.size<=b4:=by omega
 generalize hT:Sx S w.heap.size w3.heap.size=T at *
 refine .seq (.sr (.ldA ty_Q O O k3 (eQ.csz hb) ?_))
 rw [<-hvb]
 refine .call _ O AH7 O (AG5 up3 hb3' hlb hL9) fun v0 w0 e0 h00=>?_
 subst h00
 refine .eqlF O O O (fun h=>hbn (Int.sign_eq_zero_iff_zero.1 h)) (.nil (.condF O (.skip (.seq ?_))))
 have hq:qok L ⟨zc (pd b),zc (pn b)⟩:=⟨O5 ldb,O5 lnb⟩
 have up4:=up3.ext e0.size
 refine .par follows 8 [.inl va,.inl vb,.inr (eZ.at T (zc (pd b))),.inl vb,.inr (eZ.at T (zc (pn b))),.inr (eQ.at T ⟨zc (pd b),zc (pn b)⟩),.inr (eQ.at T (qc (qval b)⁻¹)),.inr (eQ.at T (qc (qval a*(qval b)⁻¹)))] [[],[],[(11,1)],[],[(13,3)],[(12,2),(14,4)],[(15,5)],[(10,0),(16,6)]] (by kernel_rfl) ⟨
  fun w e=>((B8 ty_Q O ((k2.ext e0).ext e) (eQ.csz ha)).eq hva.symm).ob,
  fun w e=>((B8 ty_Q O ((k3.ext e0).ext e) (eQ.csz hb)).eq hvb.symm).ob,
  fun w e=>(A2 _ J4 O (J0 (up4.ext e.size) ((hb3'.ext e0).ext e) hlb hL9)).ob (A5 _ _ _),
  fun w e=>((B8 ty_Q O ((k3.ext e0).ext e) (eQ.csz hb)).eq hvb.symm).ob,
  fun w e=>(A2 _ L1 O (K9 (up4.ext e.size) ((hb3'.ext e0).ext e) hlb hL9)).ob (A5 _ _ _),
  fun w e x hx y hy=>by
   obtain ⟨s,rfl,hs⟩:=hx
   obtain ⟨t,rfl,ht⟩:=hy
   exact L0 (Am9 [(0,.agg #[.bool (zc (pd b)).neg,s]),(1,.agg #[.bool (zc (pn b)).neg,t])] O AQ9) ⟨s,t,rfl,hs,ht⟩ (A5 _ _ _),
  fun w e x hx=>by
   have:=U1 (up4.ext e.size) hx hq h1 hL9
   rw [inv_q hbn] at this
   exact (A2 _ U4 O this).ob (A5 _ _ _),
  fun w e x hx=>by
   have:=AB7 (up4.ext e.size) ((ha3.ext e0).ext e) hx hla hri.toOk h1 hL
   rw [B3] at this
   exact (A2 _ AC7 O this).ob (A5 _ _ _),trivial⟩ ?_
 intro w5 e5 y2 _ y4 _ y5 _ y6 _ y7 h7
 refine .storeA (E:=eQ) ty_Q O O ((k4.ext e0).ext e5) O O h7 hS4 fun w6 k6 u6 h6=>.an O O (.ret ?_)
 exact .plain [_,_] Tryz.results96 ⟨⟨_,rfl,E2 (E:=eQ) ty_Q O O k6 h6⟩,rfl,trivial⟩ ⟨u6.below ((x3.trans e0).trans e5) hw4,_,_,rfl,hout h6,rfl⟩
def uniR (k:Int):Nat->Rat:=fun i=>if (i:Int)=k then 1 else 0
theorem O2:Ent Tryz.prog 90:=A0 Tryz.func90 (by kernel_rfl) rfl
theorem AG4 {S:Nat->Prop} {w:World} {n:Nat} {k:Int} (up:Up S w) (hn:n<=65536):CR Tryz.prog 90 #[.int .i64 (n:Nat),.int .i64 k] w (fun v W=>OwnL eQ 54 w.heap.size S W v (tab n (uniR k))):=by
 refine enter Tryz.func90 O Tryz.ntmps90 O ?_
 refine .sr (.an O O (.sr (.an O O (.seq (.sr (.an O O ?_))))))
 generalize hf:(fun i=>qc (uniR k i))=f
 refine .block (.loop (α:=Nat×Value) (fun x=>[(0,.int .i64 (n:Nat)),(1,.int .i64 k),(5,x.2),(6,.int .i64 (x.1:Nat))]) (fun x W=>Below w.heap.size w W/\x.1<=n/\OwnL eQ 54 w.heap.size S W x.2 ((List.range x.1).map f)) (fun x=>n-x.1) (0,.slice none 0 0) ?_ ?_ ?_)
 ·exact lkA rfl
 ·exact ⟨Below.refl _ _,Nat.zero_le _,OwnL.nil⟩
 rintro ⟨i,u⟩ W ⟨hB,hi,ho⟩
 replace hB:Below w.heap.size w W:=hB
 replace hi:i<=n:=hi
 replace ho:OwnL eQ 54 w.heap.size S W u ((List.range i).map f):=ho
 have hsz:=hB.size
 refine .seq (.sr (.mv O O (.mv O O ?_)))
 by_cases hlt:i<n
 rotate_left
 ·refine .lssF O O O (by omega) (.mv O O (.gs O O O O O (.gs O O O O O (.pick O O O (.nil (.condF O (.exit (.sr (.mv O O (.an O O (.ret ?_)))))))))))
  have:i=n:=by omega
  subst this
  refine .plain [_] Tryz.results90 ⟨rfl,trivial⟩ ⟨hB,?_⟩
  unfold tab
  rw [hf]
  exact ho
 obtain ⟨es,ho1,ho2⟩:=id ho
 refine .lssT O O O (by omega) (.mv O O (.gr O O O O (.mv O O (.gr O O O O (.lssT O O O (by omega) (.pick O O O (.nil (.condT O (.skip (.seq (.block (.sr (.bld [] O O R9 (.alloc O C2 fun W1 b7 n1=>?_))))))))))))))
 obtain ⟨e1,k7,hb7,hs1⟩:=n1
 have hub:u.ownBlock≠some b7:=fun h=>by have:=(ho1.lt b7 h).2;omega
 refine .storeA (E:=eQ) (S:=fun k'=>(S k'/\u.ownBlock≠some k')/\k'≠b7) (z:=q0) ty_Q O O k7 O O ⟨_,_,rfl,RL.nil,RL.nil⟩ (fun h=>h.2 O) fun W2 k7 u2 h7=>.nil ?_
 have x2:Ext W W2:=u2.below e1 (by omega)
 have hs2:=u2.size
 refine .mid (α:=Value) (fun _=>[(0,.int .i64 (n:Nat)),(1,.int .i64 k),(5,u),(6,.int .i64 (i:Nat)),(7,.pointer (some ⟨b7,0,none⟩))]) (fun v W3=>Ext W W3/\Blk W3 b7 54 v.cells/\eQ.R (fun k'=>(S k'/\u.ownBlock≠some k')/\k'≠b7) W3 v (f i)) ?_ ?_
 ·refine .sr (.mv O O (.mv O O ?_))
  by_cases hk:(i:Int)=k
  ·refine .eqlT O O O hk (.nil (.condT O (.region ?_)))
   refine .call _ O X4 O (U8 (S:=fun k'=>(S k'/\u.ownBlock≠some k')/\k'≠b7) (fun k' hk'=>⟨⟨up k' (by omega),fun h=>by have:=(ho1.lt k' h).2;omega⟩,by omega⟩) (by decide) (by decide)) fun v3 W3 e3 h3=>?_
   refine .storeA (E:=eQ) ty_Q O O (k7.ext e3) O O h3 (fun h=>h.2 O) fun W4 k7 u4 h4=>.nil ?_
   refine ⟨rfl,v3,lkA rfl,u4.below (x2.trans e3) (by omega),k7,?_⟩
   rw [<-hf]
   show eQ.R _ _ _ (qc (uniR k i))
   unfold uniR
   rw [if_pos hk]
   exact h4
  ·refine .eqlF O O O hk (.nil (.condF O (.skip ?_)))
   refine ⟨rfl,_,lkA rfl,x2,k7,?_⟩
   rw [<-hf]
   show eQ.R _ _ _ (qc (uniR k i))
   unfold uniR
   rw [if_neg hk,N6]
   exact h7
 rintro v W3 ⟨x3,k7,h7⟩
 have hv:=shpA O h7
 have hr':=h7
 refine .region (.mv O O (.ldA ty_Q O O k7 (eQ.csz h7) ?_))
 rw [<-hv]
 obtain ⟨s,t,rfl,_,_⟩:=hr'
 refine .bsl _ O O T5 fun W4 b4 n4=>?_
 obtain ⟨e4,k4,hb4,hs4⟩:=n4
 have e14:=x3.trans e4
 have hB4:Below w.heap.size w W4:=hB.trans (e14.mono hsz)
 refine .gv O O (J8 (E:=eQ) (base:=w.heap.size) (n:=f i) (by decide) un_V H4 O O O (ho.ext e14) k4 (eQ.mono (fun k' _ h=>h.1) (h7.ext e4)) (by simp;omega) (by decide) hB4.size) ?_
 rintro v5 W5 ⟨ho5,hg5⟩
 refine .an O O (.region (.mv O O (.add O O O (.an O O ?_))))
 rw [wI (by omega)]
 refine ⟨rfl,(i+1,v5),lkA rfl,⟨(ho.ext e14).below hg5 hB4 hB4.size,hlt,?_⟩,by show n-(i+1)<n-i;omega⟩
 show OwnL eQ 54 w.heap.size S W5 v5 ((List.range (i+1)).map f)
 rw [List.range_succ,List.map_append]
 exact ho5
theorem BF0:Ent Tryz.prog 213:=A0 Tryz.func213 (by kernel_rfl) rfl
theorem BC4 {S:Nat->Prop} {w:World} {va vb:Value} {a b:QV} {L:Nat} (up:Up S w) (ha:eQ.R S w va a) (hb:eQ.R S w vb b) (hla:qok L a) (hlb:qok L b) (h1:1<=L) (hL:L<=400000000) (h0:qval b≠0) :
  CR Tryz.prog 213 #[va,vb] w (eQ.at S (qc (qval a*(qval b)⁻¹))):=by
 have hva:=shpA O ha
 have hvb:=shpA O hb
 refine enter Tryz.func213 O Tryz.ntmps213 O ?_
 refine .sr (.box O O fun w1 b2 n1=>.box O O fun w2 b3 n2=>.alloc O C2 fun w3 b4 n3=>.nil ?_)
 obtain ⟨e1,k2,hb2,hs1⟩:=n1
 obtain ⟨e2,k3,hb3,hs2⟩:=n2
 obtain ⟨e3,k4,hb4,hs3⟩:=n3
 have x3:=(e1.trans e2).trans e3
 have k2:=(k2.ext e2).ext e3
 have k3:=k3.ext e3
 have up3:Up (fun k=>S k/\k≠b4) w3:=fun k hk=>⟨up k (by have:=x3.size;omega),by omega⟩
 have ha3:eQ.R (fun k=>S k/\k≠b4) w3 va a:=eQ.mono (fun k _ h=>⟨h.1,by have:=h.2;omega⟩) ((ER.lt eQ ha).ext x3)
 have hb3':eQ.R (fun k=>S k/\k≠b4) w3 vb b:=eQ.mono (fun k _ h=>⟨h.1,by have:=h.2;omega⟩) ((ER.lt eQ hb).ext x3)
 refine .sr (.ldA ty_Q O O k2 (eQ.csz ha) (.ldA ty_Q O O k3 (eQ.csz hb) ?_))
 rw [<-hva,<-hvb]
 refine .call _ O Aa3 O (AY6 up3 ha3 hb3' hla hlb h1 hL h0) fun v4 w4 e4 h4=>?_
 obtain ⟨vq,ve,rfl,hq,rfl⟩:=h4
 refine .mv O O (.ext O O O (.ext O O O (.alloc O C2 fun w5 b5 n5=>?_)))
 obtain ⟨e5,k5,hb5,hs5⟩:=n5
 refine .storeA (E:=eQ) ty_Q O O k5 O O (S:=fun k=>(S k/\k≠b4)/\k<w4.heap.size) ((ER.lt eQ hq).ext e5) (fun h=>by have:=h.2;omega) fun w6 k5 u6 hq=>.an O O ?_
 have x6:Ext w4 w6:=u6.below e5 (by omega)
 have hvq:=shpA O hq
 refine .sr (.ldA ty_Q O O k5 (eQ.csz hq) ?_)
 rw [<-hvq]
 have hb4l:=k4.lt
 have hs4:=e4.size
 refine .storeA (E:=eQ) ty_Q O O ((k4.ext e4).ext x6) O O hq (fun h=>h.1.2 O) fun w7 k7 u7 h7=>.nil (.ret ?_)
 exact .cell Tryz.results213 O ty_Q O O k7 h7 ⟨u7.below ((x3.trans e4).trans x6) (by omega),eQ.mono (fun k _ h=>h.1.1) h7⟩
theorem AR1:Ent Tryz.prog 95:=A0 Tryz.func95 (by kernel_rfl) rfl
theorem AP3 {S:Nat->Prop} {w:World} {vo:Value} {o:List Int} {k:Int} (ho:eI.R S w vo o):CR Tryz.prog 95 #[vo,.int .i64 k] w (Is (.bool (!decide (k∈o)))):=by
 refine enter Tryz.func95 O Tryz.ntmps95 O (.beg (.go O ?_))
 refine .call _ O AZ8 O (AY1 ho) fun v w1 e1 h1=>?_
 subst h1
 cases decide (k∈o)<;>exact .goE rfl (.plain [_] Tryz.results95 ⟨rfl,trivial⟩ ⟨e1,rfl⟩)
theorem Ai9:Ent Tryz.prog 36:=A0 Tryz.func36 (by kernel_rfl) rfl
set_option maxRecDepth 8000 in
theorem Af5 {S:Nat->Prop} {w:World} {vn vo va:Value} {n:NtV} {o:List Int} {a:List QV} {L:Nat} (up:Up S w) (hn:eN.R S w vn n) (ho:eI.R S w vo o) (ha:eV.R S w va a) (hka:vk L a) (hL1:1<=L) (hL:L<=100000000) :
  CR Tryz.prog 36 #[vn,vo,va] w (Two (eV.at S (if sfE n o a.length=0 then tab n.ls.length ((nwOf n o).fl (rv a)) else [])) (Is (.int .i64 (sfE n o a.length)))):=by
 obtain ⟨s,rfl,hs,hb⟩:=hn
 have hn:eN.R S w (.agg #[.int .i64 n.b,s]) n:=⟨s,rfl,hs,hb⟩
 refine enter Tryz.func36 O Tryz.ntmps36 O (.beg (.go O (.box O O fun w1 b3 n1=>.go O ?_)))
 obtain ⟨e1,k3,hb3,hs1⟩:=n1
 replace k3:Blk w1 b3 24 #[.int .i64 n.b,s]:=k3
 refine .ldA ty_N O O k3 O (.go O ?_)
 refine .call _ O S3 O (Q4 (hn.ext e1) (ho.ext e1)) fun v3 w3 e3 h3=>?_
 subst h3
 have x3:=e1.trans e3
 have k3:=k3.ext e3
 refine .go O ?_
 by_cases hO:outE n o=0
 rotate_left
 ·have hsf:sfE n o a.length=outE n o:=by unfold sfE;rw [if_pos hO]
  refine .neqT O O O hO (.goE O (.plain [_,_] Tryz.results36 ⟨rfl,rfl,trivial⟩ ⟨x3,_,_,rfl,?_,by rw [hsf]⟩))
  rw [if_neg (by rw [hsf];exact hO)]
  exact RL.nil
 have ok:=N1 hO
 have hnb:=ok.b
 have hM10:n.ls.length<=10:=ok.m
 refine .neqF O O O hO (.go O (.lenR un_V O O (ER.ext eV ha x3) (.go O (.fa E5 O O (.go O (.ld A3 O O k3 O (.go O ?_)))))))
 by_cases hle:(a.length:Int)<=n.b
 rotate_left
 ·have hsf:sfE n o a.length=5:=by unfold sfE;rw [if_neg (by simpa using hO),if_neg hle]
  refine .gtrT O O O (by omega) (.goE O (.plain [_,_] Tryz.results36 ⟨rfl,rfl,trivial⟩ ⟨x3,_,_,rfl,?_,by rw [hsf]⟩))
  rw [if_neg (by rw [hsf];decide)]
  exact RL.nil
 have hsf:sfE n o a.length=0:=by unfold sfE;rw [if_neg (by simpa using hO),if_pos hle]
 rw [if_pos hsf,hsf]
 have z3:=x3.size
 generalize hG:(fun k=>qc ((nwOf n o).fl (rv a) k))=G
 have htab:tab n.ls.length ((nwOf n o).fl (rv a))=(List.range n.ls.length).map G:=by rw [<-hG];rfl
 rw [htab]
 refine .gtrF O O O (by omega) (.goC O ?_)
 refine .lp (α:=Nat×Value) [1,2,3] O (fun y=>[(9,y.2),(10,.int .i64 (y.1:Nat))]) (fun y W=>Ext w3 W/\y.1<=n.ls.length/\OwnL eQ 54 w3.heap.size S W y.2 ((List.range y.1).map G)) (fun y=>n.ls.length-y.1) (0,.slice none 0 0) (lc2 O O) ⟨Ext.refl _,Nat.zero_le _,OwnL.nil⟩ ?_
 rintro ⟨i,u⟩ W ⟨hW,hi,hU⟩
 replace hW:Ext w3 W:=hW
 replace hi:i<=n.ls.length:=hi
 replace hU:OwnL eQ 54 w3.heap.size S W u ((List.range i).map G):=hU
 have k3:=k3.ext hW
 have zW:=hW.size
 have hsW:∀ {W':World},Ext W W'->eLs.R S W' s n.ls:=fun e=>ER.ext eLs hs (x3.trans (hW.trans e))
 refine .go O (.fa G7 O O (.go O (.ld K6 O O k3 O (.go O (.lenR K4 O O (hsW (Ext.refl _)) ?_)))))
 rcases Nat.lt_or_ge i n.ls.length with hlt | hge
 rotate_left
 ·have:i=n.ls.length:=by omega
  subst this
  exact .lssF O O O (by omega) (.goE O (.plain [_,_] Tryz.results36 ⟨rfl,rfl,trivial⟩ ⟨x3.trans hW,_,_,rfl,hU.toR (fun k hk=>up k (by omega)) (fun _ h=>h),rfl⟩))
 have hgl:n.ls[i]?=some (n.ls.getD i ln0):=A9 hlt
 have hFI:=ok.fI i hlt
 have hTI:=ok.tI i hlt
 have hxx:=ok.x i hlt
 have hGi:G i=qc ((nwOf n o).fl (rv a) i):=by rw [<-hG]
 have hgi:(nwOf n o).g i=if i∈oN o then 0 else ((n.ls.getD i ln0).x:Rat)⁻¹:=rfl
 generalize n.ls.getD i ln0=ln at hgl hFI hTI hxx hgi
 obtain ⟨es,ho1,ho2⟩:=id hU
 have hub:∀ k,u.ownBlock=some k->w3.heap.size<=k/\k<W.heap.size:=fun k h=>ho1.lt k h
 refine .lssT O O O (by omega) (.go O (.fa G7 O O (.go O (.ld K6 O O k3 O (.go O (.ixN (i:=i) K4 M8 O O (hsW (Ext.refl _)) O hgl fun p hp=>.ldE (E:=eL) M8 O O hp fun vl hvl=>.alloc O AL6 fun W1 c n1'=>?_))))))
 obtain ⟨d1,kc,hc,zs1⟩:=n1'
 refine .storeA (E:=eL) (S:=fun k=>k≠c) (z:=ln) M8 O O kc O O hvl (fun h=>h O) fun W2 kc u2 hl2=>?_
 obtain ⟨rfl,_⟩:=hl2
 replace kc:Blk W2 c 58 #[.int .i64 ln.f,.int .i64 ln.t,.int .i64 ln.x,.int .i64 ln.c]:=kc
 have D2:Ext W W2:=u2.below d1 (by omega)
 have z2:=D2.size
 have z12:=u2.size
 refine .go O (.bld _ O O R9 (.alloc O C2 fun W3 b n3=>?_))
 obtain ⟨d3,kb,hb',zs3⟩:=n3
 generalize hT:(fun k=>(S k/\u.ownBlock≠some k)/\k≠b)=T
 have hTb:¬ T b:=by rw [<-hT];exact fun h=>h.2 rfl
 have hTS:∀ k,T k->S k/\u.ownBlock≠some k:=fun k h=>by rw [<-hT] at h;exact h.1
 have zW3:W3.heap.size=b+1:=by omega
 have upT':∀ {W':World},W3.heap.size<=W'.heap.size->Up T W':=fun h k hk=>by rw [<-hT];exact ⟨⟨up k (by omega),fun e=>by have:=(hub k e).2;omega⟩,by omega⟩
 have haT:∀ {W':World},Ext W W'->eV.R T W' va a:=fun e=>ER.ext eV (eV.mono (S':=T) (fun k _ h=>by rw [<-hT];exact ⟨⟨h.1,fun e=>by have:=(hub k e).1;have:=h.2;omega⟩,by have:=h.2;omega⟩) (ER.lt eV ha)) (x3.trans (hW.trans e))
 refine .storeA (E:=eQ) (S:=T) ty_Q O O kb O O zq_R hTb fun W4 kb u4 hq4=>?_
 have D4:Ext W W4:=u4.below (D2.trans d3) (by omega)
 have kc:=(kc.ext d3).upd u4 (by omega)
 have z4:W4.heap.size=W3.heap.size:=u4.size
 refine .go O ?_
 refine .call _ O AR1 O (AP3 (ER.ext eI ho (x3.trans (hW.trans D4)))) fun v5 W5 d5 h5=>?_
 subst h5
 have D5:=D4.trans d5
 have kb:=kb.ext d5
 have kc:=kc.ext d5
 have hq5:=ER.ext eQ hq4 d5
 have z5:=d5.size
 by_cases hm:i∈oN o
 ·rw [decide_eq_true ((AB9 ok.outs i).2 hm)]
  rw [if_pos hm] at hgi
  have hG0:G i=q0:=by rw [hGi];unfold Nw.fl;rw [hgi,Rat.zero_mul,N6]
  rw [<-hG0] at hq5
  have hqv:=shpA (E:=eQ) O hq5
  refine .go O (.ldA ty_Q O O kb (eQ.csz hq5) ?_)
  rw [<-hqv]
  refine .bsl _ O O T5 fun W8 b8 n8=>?_
  obtain ⟨d8,k8,hb8,hs8⟩:=n8
  have D8:=D5.trans d8
  have hW8:=hW.trans D8
  refine .gv O O (J8 (E:=eQ) (base:=w3.heap.size) (n:=G i) (by decide) un_V H4 O O O (hU.ext D8) k8 (eQ.mono (fun k _ h=>hTS k h) (ER.ext eQ hq5 d8)) (by simp;omega) (by decide) hW8.size) ?_
  rintro v9 W9 ⟨hO9,g9⟩
  have hW9:Ext w3 W9:=OwnL.below (hU.ext D8) g9 hW8 hW8.size
  exact .go O (.inc O O O (by omega) (.goN O (.mk (i+1,v9) O (lc2 O O) ⟨⟨hW9,hlt,by show OwnL _ _ _ _ W9 v9 ((List.range (i+1)).map G);rw [List.range_succ,List.map_append];exact hO9⟩,by show n.ls.length-(i+1)<n.ls.length-i;omega⟩)))
 ·rw [decide_eq_false fun h=>hm ((AB9 ok.outs i).1 h)]
  rw [if_neg hm] at hgi
  rw [hFI,hTI] at kc
  generalize hF:(nwOf n o).F i=f at kc
  generalize hTt:(nwOf n o).T i=t at kc
  have hx0:(((ln.x:Int):Rat))≠0:=by
   intro h
   have:=Rat.intCast_inj.1 (h.trans Rat.intCast_zero.symm)
   omega
  have hGv:G i=qc ((rv a f-rv a t)*((ln.x:Int):Rat)⁻¹):=by
   rw [hGi];unfold Nw.fl;rw [hgi,hF,hTt,Rat.mul_comm]
  have hsz:Rsz (rv a f-rv a t) (L+L+1):=by rw [Rat.sub_eq_add_neg];exact (hka.rsz hL1 f).add (Rsz.neg (hka.rsz hL1 t))
  have hxz:Rsz ((ln.x:Int):Rat) (L+L+1):=(rsz_z (by omega)).mono (by omega)
  refine .goC O ?_
  refine .parL follows 16 [15] [.inl _,.inl _,.inl (.int .i64 (f:Nat)),.inr (eQ.at T (a.getD f q0)),.inl _,.inl _,.inl (.int .i64 (t:Nat)),.inr (eQ.at T (a.getD t q0)),.inr (eQ.at T (qc (rv a f-rv a t))),.inl _,.inl (.int .i64 ln.x),.inr (eQ.at T (qc ((ln.x:Int):Rat))),.inr (Two (eQ.at T (G i)) (Is (.int .i64 0))),.inr (Two (eQ.at T (G i)) (Is (.int .i64 0))),.inr (eQ.at T (G i)),.inl (.int .i64 0)] [[],[],[(42,1)],[(41,0),(43,2)],[],[],[(46,5)],[(45,4),(47,6)],[(44,3),(48,7)],[],[(50,9)],[(51,10)],[(49,8),(52,11)],[(53,12)],[(40,13)],[(40,13)]] (by kernel_rfl) ⟨
   fun w e=>(v_mv O).ob,
   fun w e=>(v_fa H2 O).ob,
   fun w e=>(v_ld A3 O (kc.ext e) O).ob,
   fun w e=>(by have:=I3 (i:=((f:Nat):Int)) (haT (D5.trans e));rw [M4] at this;exact (A2 _ I6 O this).ob (A5 _ _ _)),
   fun w e=>(v_mv O).ob,
   fun w e=>(v_fa H1 O).ob,
   fun w e=>(v_ld A3 O (kc.ext e) O).ob,
   fun w e=>(by have:=I3 (i:=((t:Nat):Int)) (haT (D5.trans e));rw [M4] at this;exact (A2 _ I6 O this).ob (A5 _ _ _)),
   fun w e x3 hx3 x7 hx7=>(by have:=AY5 (L:=L) (upT' (by have:=e.size;omega)) hx3 hx7 (hka.get hL1 f).1 (hka.get hL1 t) hL1 (by omega);exact (A2 _ Aa2 O this).ob (A5 _ _ _)),
   fun w e=>(v_fa AH1 O).ob,
   fun w e=>(v_ld S8 O (kc.ext e) O).ob,
   fun w e=>(A2 _ X4 O (U8 (upT' (by have:=e.size;omega)) (by omega) (by omega))).ob (A5 _ _ _),
   fun w e x8 hx8 x11 hx11=>(by have:=AY6 (L:=L+L+1) (upT' (by have:=e.size;omega)) hx8 hx11 hsz.toOk hxz.toOk (by omega) (by omega) (by rw [B3];exact hx0);rw [B3,B3,<-hGv] at this;exact (A2 _ Aa3 O this).ob (AA6 (A5 _ _ _) (AN7 _))),
   fun w e x12 hx12=>L0 (v_mv O) hx12 (AA6 (A5 _ _ _) (AN7 _)),
   fun w e x13 hx13=>by
   obtain ⟨p1,q1,rfl,hp1,hq1⟩:=hx13
   exact L0 (v_ex O O) hp1 (A5 _ _ _),
   fun w e x13 hx13=>by
   obtain ⟨p1,q1,rfl,hp1,hq1⟩:=hx13
   exact ((v_ex O O).eq hq1).ob,trivial⟩ ?_
  intro W6 d6 y3 hy3 y7 hy7 y8 hy8 y11 hy11 y12 hy12 y13 hy13 y14 hy14
  refine .storeA (E:=eQ) ty_Q O O (kb.ext d6) O (eQ.csz hq5) hy14 hTb fun W7 kb u7 hq5=>?_
  have D5:Ext W W7:=u7.below (D5.trans d6) (by omega)
  have hqv:=shpA (E:=eQ) O hq5
  have z5:=D5.size
  refine .go O (.ldA ty_Q O O kb (eQ.csz hq5) ?_)
  rw [<-hqv]
  have hq':=hq5
  obtain ⟨s1,t1,rfl,_,_⟩:=hq'
  refine .bsl _ O O T5 fun W8 b8 n8=>?_
  obtain ⟨d8,k8,hb8,hs8⟩:=n8
  have D8:=D5.trans d8
  have hW8:=hW.trans D8
  refine .gv O O (J8 (E:=eQ) (base:=w3.heap.size) (n:=G i) (by decide) un_V H4 O O O (hU.ext D8) k8 (eQ.mono (fun k _ h=>hTS k h) (ER.ext eQ hq5 d8)) (by simp;omega) (by decide) hW8.size) ?_
  rintro v9 W9 ⟨hO9,g9⟩
  have hW9:Ext w3 W9:=OwnL.below (hU.ext D8) g9 hW8 hW8.size
  exact .go O (.inc O O O (by omega) (.goN O (.mk (i+1,v9) O (lc2 O O) ⟨⟨hW9,hlt,by show OwnL _ _ _ _ W9 v9 ((List.range (i+1)).map G);rw [List.range_succ,List.map_append];exact hO9⟩,by show n.ls.length-(i+1)<n.ls.length-i;omega⟩)))
end Go.Proofs.YtggegpiffjbngaaGreat
namespace Go.Kx
open Go Go.RowKit
def Nw.trm (n:Nw) (f:Nat->Rat) (b k:Nat):Rat:=n.inc k b*(if n.g k=0 then 0 else f k)
theorem Nw.trm_out {n:Nw} {f:Nat->Rat} {b k:Nat} (h:n.g k=0):n.trm f b k=0:=by unfold Nw.trm;rw [if_pos h,Rat.mul_zero]
theorem Nw.trm_F {n:Nw} {f:Nat->Rat} {b k:Nat} (h:n.g k≠0) (hF:n.F k=b) (hT:n.T k≠b):n.trm f b k=f k:=by
 unfold Nw.trm Nw.inc dl
 rw [if_neg h,if_pos hF,if_neg hT]
 grind
theorem Nw.trm_T {n:Nw} {f:Nat->Rat} {b k:Nat} (h:n.g k≠0) (hF:n.F k≠b) (hT:n.T k=b):n.trm f b k = - f k:=by
 unfold Nw.trm Nw.inc dl
 rw [if_neg h,if_neg hF,if_pos hT]
 grind
theorem Nw.trm_no {n:Nw} {f:Nat->Rat} {b k:Nat} (hF:n.F k≠b) (hT:n.T k≠b):n.trm f b k=0:=by
 unfold Nw.trm Nw.inc dl
 rw [if_neg hF,if_neg hT]
 grind
end Go.Kx
namespace Go.Proofs.YtggegpiffjbngaaGreat
open Go Go.Kx Go.RowKit
theorem g_out {n:NtV} {o:List Int} {k:Nat} (h:k∈oN o):(nwOf n o).g k=0:=show (if k∈oN o then (0:Rat) else ((n.ls.getD k ln0).x:Rat)⁻¹)=0 by rw [if_pos h]
theorem g_in {n:NtV} {o:List Int} (ok:nwOk n o) {k:Nat} (hk:k<n.ls.length) (h:k∉oN o):(nwOf n o).g k≠0:=by
 have hx:=ok.x k hk
 show (if k∈oN o then (0:Rat) else ((n.ls.getD k ln0).x:Rat)⁻¹)≠0
 rw [if_neg h]
 intro h
 have h3:(((n.ls.getD k ln0).x:Int):Rat)≠0:=by
  intro h
  have:=Rat.intCast_inj.1 (h.trans Rat.intCast_zero.symm)
  omega
 have:=Rat.mul_inv_cancel _ h3
 rw [h,Rat.mul_zero] at this
 exact absurd this (by decide)
theorem trm_rsz {n:NtV} {o:List Int} (ok:nwOk n o) {f:Nat->Rat} {L:Nat} (hL:1<=L) (hf:∀ k,Rsz (f k) L) (b:Nat) {k:Nat} (hk:k<n.ls.length):Rsz ((nwOf n o).trm f b k) L:=by
 by_cases hg:(nwOf n o).g k=0
 ·rw [Nw.trm_out hg];exact Rsz.zero hL
 by_cases hF:(nwOf n o).F k=b
 ·rw [Nw.trm_F hg hF (by have:=ok.ne k hk;omega)];exact hf k
 by_cases hT:(nwOf n o).T k=b
 ·rw [Nw.trm_T hg hF hT];exact Rsz.neg (hf k)
 ·rw [Nw.trm_no hF hT];exact Rsz.zero hL
theorem Az9:Ent Tryz.prog 37:=A0 Tryz.func37 (by kernel_rfl) rfl
set_option maxRecDepth 8000 in
theorem Av6 {S:Nat->Prop} {w:World} {vn vo vf:Value} {n:NtV} {o:List Int} {f:List QV} {L:Nat} (up:Up S w) (hn:eN.R S w vn n) (ho:eI.R S w vo o) (hf:eV.R S w vf f) (hkf:vk L f) (hL1:1<=L) (hL:L<=10000000) :
  CR Tryz.prog 37 #[vn,vo,vf] w (Two (eV.at S (if noE n o f.length=0 then tab (nwOf n o).B ((nwOf n o).offM (rv f)) else [])) (Is (.int .i64 (noE n o f.length)))):=by
 obtain ⟨s,rfl,hs,hb⟩:=hn
 have hn:eN.R S w (.agg #[.int .i64 n.b,s]) n:=⟨s,rfl,hs,hb⟩
 obtain ⟨_,_,_,_,hfl⟩:=RL.len hf
 refine enter Tryz.func37 O Tryz.ntmps37 O (.beg (.go O (.box O O fun w1 b3 n1=>.go O ?_)))
 obtain ⟨e1,k3,hb3,hs1⟩:=n1
 replace k3:Blk w1 b3 24 #[.int .i64 n.b,s]:=k3
 refine .ldA ty_N O O k3 O (.go O ?_)
 refine .call _ O S3 O (Q4 (hn.ext e1) (ho.ext e1)) fun v3 w3 e3 h3=>?_
 subst h3
 have x3:=e1.trans e3
 have k3:=k3.ext e3
 refine .go O ?_
 by_cases hO:outE n o=0
 rotate_left
 ·have hno:noE n o f.length=outE n o:=by unfold noE;rw [if_pos hO]
  refine .neqT O O O hO (.goE O (.plain [_,_] Tryz.results37 ⟨rfl,rfl,trivial⟩ ⟨x3,_,_,rfl,?_,by rw [hno]⟩))
  rw [if_neg (by rw [hno];exact hO)]
  exact RL.nil
 have ok:=N1 hO
 have hnb:=ok.b
 have hB6:=ok.b6
 have hM10:n.ls.length<=10:=ok.m
 have hs3:eLs.R S w3 s n.ls:=ER.ext eLs hs x3
 refine .neqF O O O hO (.go O (.lenR un_V O O (ER.ext eV hf x3) (.go O (.fa G7 O O (.go O (.ld K6 O O k3 O (.go O (.lenR K4 O O hs3 ?_))))))))
 by_cases hle:f.length<=n.ls.length
 rotate_left
 ·have hno:noE n o f.length=5:=by unfold noE;rw [if_neg (by simpa using hO),if_neg hle]
  refine .gtrT O O O (by omega) (.goE O (.plain [_,_] Tryz.results37 ⟨rfl,rfl,trivial⟩ ⟨x3,_,_,rfl,?_,by rw [hno]⟩))
  rw [if_neg (by rw [hno];decide)]
  exact RL.nil
 have hno:noE n o f.length=0:=by unfold noE;rw [if_neg (by simpa using hO),if_pos hle]
 rw [if_pos hno,hno]
 rw [hnb] at k3
 have z3:=x3.size
 generalize hG:(fun b=>qc ((nwOf n o).offM (rv f) b))=G
 have htab:tab (nwOf n o).B ((nwOf n o).offM (rv f))=(List.range (nwOf n o).B).map G:=by rw [<-hG];rfl
 rw [htab]
 have hsum:∀ b i,i<=n.ls.length->Rsz (sumN i ((nwOf n o).trm (rv f) b)) (1+10*(L+1)):=fun b i hi=>(AJ5 fun k hk=>trm_rsz ok hL1 (fun k=>hkf.rsz hL1 k) b (by omega)).mono (by
  have:=Nat.mul_le_mul_right (L+1) (Nat.le_trans hi hM10)
  omega)
 refine .gtrF O O O (by omega) (.goC O ?_)
 refine .lp (α:=Nat×Value) [1,2,3] O (fun y=>[(9,y.2),(10,.int .i64 (y.1:Nat))]) (fun y W=>Ext w3 W/\y.1<=(nwOf n o).B/\OwnL eQ 54 w3.heap.size S W y.2 ((List.range y.1).map G)) (fun y=>(nwOf n o).B-y.1) (0,.slice none 0 0) (lc2 O O) ⟨Ext.refl _,Nat.zero_le _,OwnL.nil⟩ ?_
 rintro ⟨b,u⟩ W ⟨hW,hi,hU⟩
 replace hW:Ext w3 W:=hW
 replace hi:b<=(nwOf n o).B:=hi
 replace hU:OwnL eQ 54 w3.heap.size S W u ((List.range b).map G):=hU
 have k3:=k3.ext hW
 have zW:=hW.size
 refine .go O (.fa E5 O O (.go O (.ld A3 O O k3 O (.go O ?_))))
 rcases Nat.lt_or_ge b (nwOf n o).B with hlt | hge
 rotate_left
 ·have:b=(nwOf n o).B:=by omega
  subst this
  exact .lssF O O O (by omega) (.goE O (.plain [_,_] Tryz.results37 ⟨rfl,rfl,trivial⟩ ⟨x3.trans hW,_,_,rfl,hU.toR (fun k hk=>up k (by omega)) (fun _ h=>h),rfl⟩))
 obtain ⟨es,ho1,ho2⟩:=id hU
 have hub:∀ k,u.ownBlock=some k->w3.heap.size<=k/\k<W.heap.size:=fun k h=>ho1.lt k h
 refine .lssT O O O (by omega) (.go O (.bld _ O O R9 (.alloc O C2 fun W3 c n3=>?_)))
 obtain ⟨d3,kc,hc,zs3⟩:=n3
 generalize hT:(fun k=>(S k/\u.ownBlock≠some k)/\k≠c)=T
 have hTc:¬ T c:=by rw [<-hT];exact fun h=>h.2 rfl
 have hTS:∀ k,T k->S k/\u.ownBlock≠some k:=fun k h=>by rw [<-hT] at h;exact h.1
 have upT':∀ {W':World},W3.heap.size<=W'.heap.size->Up T W':=fun h k hk=>by rw [<-hT];exact ⟨⟨up k (by omega),fun e=>by have:=(hub k e).2;omega⟩,by omega⟩
 have hfT:∀ {W':World},Ext W W'->eV.R T W' vf f:=fun e=>ER.ext eV (eV.mono (S':=T) (fun k _ h=>by rw [<-hT];exact ⟨⟨h.1,fun e=>by have:=(hub k e).1;have:=h.2;omega⟩,by have:=h.2;omega⟩) (ER.lt eV hf)) (x3.trans (hW.trans e))
 have hsW:∀ {W':World},Ext W W'->eLs.R S W' s n.ls:=fun e=>ER.ext eLs hs (x3.trans (hW.trans e))
 have hoW:∀ {W':World},Ext W W'->eI.R S W' vo o:=fun e=>ER.ext eI ho (x3.trans (hW.trans e))
 have k3W:∀ {W':World},Ext W W'->Blk W' b3 24 #[.int .i64 ((nwOf n o).B:Nat),s]:=fun e=>k3.ext e
 refine .storeA (E:=eQ) (S:=T) ty_Q O O kc O O zq_R hTc fun W4 kc u4 hq4=>.goC O ?_
 have D4:Ext W W4:=u4.below d3 (by omega)
 have z4:W4.heap.size=W3.heap.size:=u4.size
 generalize hv:(fun i=>sumN i ((nwOf n o).trm (rv f) b))=v
 have hv0:v 0=0:=by rw [<-hv];rfl
 have hvs:∀ i,v (i+1)=v i+(nwOf n o).trm (rv f) b i:=fun i=>by rw [<-hv];rfl
 have hvz:∀ i,i<=n.ls.length->Rsz (v i) (1+10*(L+1)):=fun i hi=>by rw [<-hv];exact hsum b i hi
 have hGb:G b=qc (v n.ls.length):=by rw [<-hG,<-hv];rfl
 rw [<-N6,<-hv0] at hq4
 refine .lp (α:=Nat×Value) [1,2,3,9,10,11] O (fun y=>[(12,.int .i64 (y.1:Nat))]) (fun y W'=>Ext W W'/\W3.heap.size<=W'.heap.size/\y.1<=n.ls.length/\Blk W' c 54 y.2.cells/\eQ.R T W' y.2 (qc (v y.1))) (fun y=>n.ls.length-y.1) (0,zq) (lc1 O) ⟨D4,by omega,Nat.zero_le _,kc,hq4⟩ ?_
 clear kc hq4
 rintro ⟨i,y⟩ W5 ⟨hW5,zW5,hi,kc,hq⟩
 replace hW5:Ext W W5:=hW5
 replace zW5:W3.heap.size<=W5.heap.size:=zW5
 replace hi:i<=n.ls.length:=hi
 replace kc:Blk W5 c 54 y.cells:=kc
 replace hq:eQ.R T W5 y (qc (v i)):=hq
 refine .go O (.fa G7 O O (.go O (.ld K6 O O (k3W hW5) O (.go O (.lenR K4 O O (hsW hW5) ?_)))))
 rcases Nat.lt_or_ge i n.ls.length with hil | hge
 rotate_left
 ·have:i=n.ls.length:=by omega
  subst this
  rw [<-hGb] at hq
  have hqv:=shpA (E:=eQ) O hq
  refine .lssF O O O (by omega) (.go O (.ldA ty_Q O O kc (eQ.csz hq) ?_))
  rw [<-hqv]
  have hq':=hq
  obtain ⟨s1,t1,rfl,_,_⟩:=hq'
  refine .bsl _ O O T5 fun W8 b8 n8=>?_
  obtain ⟨d8,k8,hb8,hs8⟩:=n8
  have D8:=hW5.trans d8
  have hW8:=hW.trans D8
  refine .gv O O (J8 (E:=eQ) (base:=w3.heap.size) (n:=G b) (by decide) un_V H4 O O O (hU.ext D8) k8 (eQ.mono (fun k _ h=>hTS k h) (ER.ext eQ hq d8)) (by simp;omega) (by decide) hW8.size) ?_
  rintro v9 W9 ⟨hO9,g9⟩
  have hW9:Ext w3 W9:=OwnL.below (hU.ext D8) g9 hW8 hW8.size
  exact .go O (.inc O O O (by omega) (.goN O (.mk (b+1,v9) O (lc2 O O) ⟨⟨hW9,hlt,by show OwnL _ _ _ _ W9 v9 ((List.range (b+1)).map G);rw [List.range_succ,List.map_append];exact hO9⟩,by show (nwOf n o).B-(b+1)<(nwOf n o).B-b;omega⟩)))
 have hgl:n.ls[i]?=some (n.ls.getD i ln0):=A9 hil
 have hFI:=ok.fI i hil
 have hTI:=ok.tI i hil
 have hne:=ok.ne i hil
 generalize n.ls.getD i ln0=ln at hgl hFI hTI
 have hvi:=hvz i hi
 have hai:=hkf.get hL1 i
 have hmid:Rsz (v i+rv f i) (1+10*(L+1)+L+1):=hvi.add (hkf.rsz hL1 i)
 generalize hmv:v i+(if i∉oN o/\(nwOf n o).F i=b then rv f i else 0)=m
 have hmz:Rsz m (1+10*(L+1)+L+1):=by
  rw [<-hmv]
  split
  ·exact hmid
  ·rw [Rat.add_zero];exact hvi.mono (by omega)
 have hfin:v (i+1)=m-(if i∉oN o/\(nwOf n o).T i=b then rv f i else 0):=by
  rw [hvs,<-hmv]
  by_cases hm:i∈oN o
  ·rw [Nw.trm_out (g_out hm),if_neg (fun h=>h.1 hm),if_neg (fun h=>h.1 hm)];grind
  have hg:=g_in ok hil hm
  by_cases hF:(nwOf n o).F i=b
  ·rw [Nw.trm_F hg hF (by omega),if_pos ⟨hm,hF⟩,if_neg (fun h=>hne (by omega))];grind
  by_cases hTt:(nwOf n o).T i=b
  ·rw [Nw.trm_T hg hF hTt,if_neg (fun h=>hF h.2),if_pos ⟨hm,hTt⟩];grind
  ·rw [Nw.trm_no hF hTt,if_neg (fun h=>hF h.2),if_neg (fun h=>hTt h.2)];grind
 refine .lssT O O O (by omega) (.goZ 14 O (.cut (α:=Value) 1 [1,2,3,9,10,11] O (fun _=>[(12,.int .i64 (i:Nat))]) (fun y W'=>Ext W W'/\W3.heap.size<=W'.heap.size/\Blk W' c 54 y.cells/\eQ.R T W' y (qc m)) O ?_ ?_))
 rotate_left
 ·refine .go O ?_
  refine .call _ O AR1 O (AP3 (hoW hW5)) fun v6 W6 d6 h6=>?_
  subst h6
  have hW6:=hW5.trans d6
  have z6:=d6.size
  have kc:=kc.ext d6
  have hq:=ER.ext eQ hq d6
  by_cases hm:i∈oN o
  ·rw [decide_eq_true ((AB9 ok.outs i).2 hm)]
   rw [if_neg (fun h=>h.1 hm),Rat.add_zero] at hmv
   rw [hmv] at hq
   exact .goN O (.mk y O (lc1 O) ⟨hW6,by omega,kc,hq⟩)
  rw [decide_eq_false fun h=>hm ((AB9 ok.outs i).1 h)]
  refine .go O (.fa G7 O O (.go O (.ld K6 O O (k3W hW6) O (.go O (.ixN (i:=i) K4 M8 O O (hsW hW6) O hgl fun p hp=>.go O (.faP H2 O O (.go O (.ldE (E:=eInt .i64) A3 O O (hp.ln 0 (by decide)) fun e he=>?_))))))))
  obtain ⟨rfl,_⟩:=he
  rw [show lnI ln 0=ln.f from rfl,hFI]
  refine .go O ?_
  by_cases hF:(nwOf n o).F i=b
  rotate_left
  ·rw [if_neg (fun h=>hF h.2),Rat.add_zero] at hmv
   rw [hmv] at hq
   exact .eqlF O O O (by omega) (.goN O (.mk y O (lc1 O) ⟨hW6,by omega,kc,hq⟩))
  rw [if_pos ⟨hm,hF⟩] at hmv
  have hqv:=shpA (E:=eQ) O hq
  refine .eqlT O O O (by omega) (.goC O ?_)
  refine .par follows 4 [.inl y,.inl _,.inl _,.inr (eQ.at T (f.getD i q0))] [[],[],[],[(53,1),(54,2)]] (by kernel_rfl) ⟨
   fun w e=>((B8 ty_Q O (kc.ext e) (eQ.csz hq)).eq hqv.symm).ob,
   fun w e=>(v_mv O).ob,
   fun w e=>(v_mv O).ob,
   fun w e=>(by have:=I3 (i:=((i:Nat):Int)) (hfT (hW6.trans e));rw [M4] at this;exact (A2 _ I6 O this).ob (A5 _ _ _)),trivial⟩ ?_
  intro W7 d7 y3 hy3
  have hop:=(by have:=U9 (L:=1+10*(L+1)) (upT' (by have:=d7.size;omega):Up T W7) (ER.ext eQ hq d7) hy3 hvi.toOk (hai.1.mono (by omega)) (by omega) (by omega);rw [B3,show v i+qval (f.getD i q0)=m from hmv] at this;exact this)
  refine .call _ O X5 O hop fun y8 W8 d8 hq8=>?_
  have d78:=d7.trans d8
  have z78:=d78.size
  refine .storeA (E:=eQ) ty_Q O O (kc.ext d78) O (eQ.csz hq) hq8 hTc fun W9 k9 u9 hq9=>?_
  have z9:=u9.size
  have hW9:Ext W W9:=u9.below (hW6.trans d78) (by omega)
  exact .goN O (.mk y8 O (lc1 O) ⟨hW9,by omega,k9,hq9⟩)
 clear hq kc zW5 hW5
 rintro y W5 ⟨hW5,zW5,kc,hq⟩
 refine .go O ?_
 refine .call _ O AR1 O (AP3 (hoW hW5)) fun v6 W6 d6 h6=>?_
 subst h6
 have hW6:=hW5.trans d6
 have z6:=d6.size
 have kc:=kc.ext d6
 have hq:=ER.ext eQ hq d6
 by_cases hm:i∈oN o
 ·rw [decide_eq_true ((AB9 ok.outs i).2 hm)]
  rw [if_neg (fun h=>h.1 hm),Rat.sub_eq_add_neg,Rat.neg_zero,Rat.add_zero] at hfin
  rw [<-hfin] at hq
  exact .go O (.inc O O O (by omega) (.goN O (.mk (i+1,y) O (lc1 O) ⟨⟨hW6,by omega,hil,kc,hq⟩,by show n.ls.length-(i+1)<n.ls.length-i;omega⟩)))
 ·rw [decide_eq_false fun h=>hm ((AB9 ok.outs i).1 h)]
  refine .go O (.fa G7 O O (.go O (.ld K6 O O (k3W hW6) O (.go O (.ixN (i:=i) K4 M8 O O (hsW hW6) O hgl fun p hp=>.go O (.faP H1 O O (.go O (.ldE (E:=eInt .i64) A3 O O (hp.ln 1 (by decide)) fun e he=>?_))))))))
  obtain ⟨rfl,_⟩:=he
  rw [show lnI ln 1=ln.t from rfl,hTI]
  refine .go O ?_
  by_cases hTt:(nwOf n o).T i=b
  rotate_left
  ·rw [if_neg (fun h=>hTt h.2),Rat.sub_eq_add_neg,Rat.neg_zero,Rat.add_zero] at hfin
   rw [<-hfin] at hq
   exact .eqlF O O O (by omega) (.go O (.inc O O O (by omega) (.goN O (.mk (i+1,y) O (lc1 O) ⟨⟨hW6,by omega,hil,kc,hq⟩,by show n.ls.length-(i+1)<n.ls.length-i;omega⟩))))
  rw [if_pos ⟨hm,hTt⟩] at hfin
  have hqv:=shpA (E:=eQ) O hq
  refine .eqlT O O O (by omega) (.goC O ?_)
  refine .par follows 4 [.inl y,.inl _,.inl _,.inr (eQ.at T (f.getD i q0))] [[],[],[],[(71,1),(72,2)]] (by kernel_rfl) ⟨
   fun w e=>((B8 ty_Q O (kc.ext e) (eQ.csz hq)).eq hqv.symm).ob,
   fun w e=>(v_mv O).ob,
   fun w e=>(v_mv O).ob,
   fun w e=>(by have:=I3 (i:=((i:Nat):Int)) (hfT (hW6.trans e));rw [M4] at this;exact (A2 _ I6 O this).ob (A5 _ _ _)),trivial⟩ ?_
  intro W7 d7 y3 hy3
  have hop:=(by have:=AY5 (L:=1+10*(L+1)+L+1) (upT' (by have:=d7.size;omega):Up T W7) (ER.ext eQ hq d7) hy3 hmz.toOk (qk.mono hai (by omega)) (by omega) (by omega);rw [B3,show m-qval (f.getD i q0)=v (i+1) from hfin.symm] at this;exact this)
  refine .call _ O Aa2 O hop fun y8 W8 d8 hq8=>?_
  have d78:=d7.trans d8
  have z78:=d78.size
  refine .storeA (E:=eQ) ty_Q O O (kc.ext d78) O (eQ.csz hq) hq8 hTc fun W9 k9 u9 hq9=>?_
  have z9:=u9.size
  have hW9:Ext W W9:=u9.below (hW6.trans d78) (by omega)
  exact .go O (.inc O O O (by omega) (.goN O (.mk (i+1,y8) O (lc1 O) ⟨⟨hW9,by omega,hil,k9,hq9⟩,by show n.ls.length-(i+1)<n.ls.length-i;omega⟩)))
end Go.Proofs.YtggegpiffjbngaaGreat
namespace Go.Kx
open Go Go.RowKit Go.Proofs.YtggegpiffjbngaaGreat
theorem Af0 (n:Nw) (k:Nat) (g:Nat->Rat):∀ b,sumN (n.withTo k b).length (fun j=>g ((n.withTo k b).getD j 0))=sumN b fun c=>if n.lab c=k then g c else 0
 | 0=>rfl
 | b+1=>by
  have ih:=Af0 n k g b
  rw [n.withTo_succ k b]
  show _=sumN b (fun c=>if n.lab c=k then g c else 0)+if n.lab b=k then g b else 0
  by_cases h:n.lab b=k
  ·rw [if_pos h,if_pos h,List.length_append]
   show sumN (n.withTo k b).length _+_=_
   rw [<-ih]
   congr 1
   ·refine A6 fun j hj=>?_
    rw [List.getD_eq_getElem?_getD,List.getD_eq_getElem?_getD,List.getElem?_append_left hj]
   ·show g ((n.withTo k b++[b]).getD (n.withTo k b).length 0)=g b
    rw [List.getD_eq_getElem?_getD,List.getElem?_append_right (Nat.le_refl _),Nat.sub_self];rfl
  ·rw [if_neg h,if_neg h,List.append_nil,ih,Rat.add_zero]
theorem BK3 {n:Nw} {k b j:Nat} (h:j<(n.withTo k b).length):(n.withTo k b).getD j 0<b:=by
 have hm:(n.withTo k b).getD j 0∈n.withTo k b:=by
  rw [List.getD_eq_getElem?_getD,List.getElem?_eq_getElem h]
  exact List.getElem_mem h
 unfold Nw.withTo at hm
 exact List.mem_range.1 (List.mem_filter.1 hm).1
theorem Az0 {n:Nw} {x:Nat->Rat}:n.bal x<->∀ k,k<(n.refsTo n.B).length->sumN (n.withTo k n.B).length (fun j=>x ((n.withTo k n.B).getD j 0))=0:=by
 rw [Nw.bal_lab]
 constructor
 ·intro h k hk
  rw [Af0 n k x]
  exact h k (Nat.lt_of_lt_of_le hk (n.cnt_le n.B))
 ·intro h j hj
  rcases Nat.lt_or_ge j (n.refsTo n.B).length with hlt | hge
  ·rw [<-Af0 n j x];exact h j hlt
  ·refine E9 fun c hc=>?_
   rw [if_neg]
   intro e
   have:=(n.refs_lab hc).2
   have:n.lab c<(n.refsTo n.B).length:=this
   omega
end Go.Kx
namespace Go.Proofs.YtggegpiffjbngaaGreat
open Go Go.Kx Go.RowKit
theorem BL1 {n:NtV} {o:List Int} (hO:outE n o=0) {k:Nat} (hk:k<((nwOf n o).refsTo (nwOf n o).B).length):(rMemb n o)[k]?=some (pInts ((nwOf n o).withTo k (nwOf n o).B)):=by
 unfold rMemb labB
 rw [if_pos hO,List.getElem?_map,List.getElem?_range hk];rfl
theorem BL0 {n:NtV} {o:List Int} (hO:outE n o=0):(rMemb n o).length=((nwOf n o).refsTo (nwOf n o).B).length:=by
 unfold rMemb labB
 rw [if_pos hO];simp
theorem BL5 {l:List Nat} {j:Nat} (h:j<l.length):(pInts l)[j]?=some ((l.getD j 0:Nat):Int):=by
 unfold pInts
 rw [List.getElem?_map,List.getElem?_eq_getElem h,List.getD_eq_getElem?_getD,List.getElem?_eq_getElem h];rfl
theorem AX4:Ent Tryz.prog 29:=A0 Tryz.func29 (by kernel_rfl) rfl
open Classical in
set_option maxRecDepth 8000 in
theorem AV9 {S:Nat->Prop} {w:World} {vn vo vx:Value} {n:NtV} {o:List Int} {x:List QV} {L:Nat} (up:Up S w) (hn:eN.R S w vn n) (ho:eI.R S w vo o) (hx:eV.R S w vx x) (hkx:vk L x) (hL1:1<=L) (hL:L<=10000000) :
  CR Tryz.prog 29 #[vn,vo,vx] w (Two (Is (.bool (decide (sfE n o x.length=0/\(nwOf n o).bal (rv x))))) (Is (.int .i64 (sfE n o x.length)))):=by
 obtain ⟨s,rfl,hs,hb⟩:=hn
 have hn:eN.R S w (.agg #[.int .i64 n.b,s]) n:=⟨s,rfl,hs,hb⟩
 refine enter Tryz.func29 O Tryz.ntmps29 O (.beg (.go O (.box O O fun w1 b3 n1=>.go O ?_)))
 obtain ⟨e1,k3,hb3,hs1⟩:=n1
 replace k3:Blk w1 b3 24 #[.int .i64 n.b,s]:=k3
 refine .ldA ty_N O O k3 O (.go O ?_)
 refine .call _ O Ac6 O (Ab8 (up.ext e1.size) (hn.ext e1) (ho.ext e1)) fun v3 w3 e3 h3=>?_
 obtain ⟨vr,ve,rfl,hr,he⟩:=h3
 replace he:ve=.int .i64 (outE n o):=he
 subst he
 have x3:=e1.trans e3
 have k3:=k3.ext e3
 refine .go O ?_
 by_cases hO:outE n o=0
 rotate_left
 ·have hsf:sfE n o x.length=outE n o:=by unfold sfE;rw [if_pos hO]
  refine .neqT O O O hO (.goE O (.plain [_,_] Tryz.results29 ⟨rfl,rfl,trivial⟩ ⟨x3,_,_,rfl,?_,by rw [hsf]⟩))
  exact congrArg Value.bool (decide_eq_false fun h=>hO (hsf▸h.1)).symm
 have ok:=N1 hO
 have hnb:=ok.b
 have hB6:=ok.b6
 refine .neqF O O O hO (.go O (.lenR un_V O O (ER.ext eV hx x3) (.go O (.fa E5 O O (.go O (.ld A3 O O k3 O (.go O ?_)))))))
 by_cases hle:(x.length:Int)<=n.b
 rotate_left
 ·have hsf:sfE n o x.length=5:=by unfold sfE;rw [if_neg (by simpa using hO),if_neg hle]
  refine .gtrT O O O (by omega) (.goE O (.plain [_,_] Tryz.results29 ⟨rfl,rfl,trivial⟩ ⟨x3,_,_,rfl,?_,by rw [hsf]⟩))
  exact congrArg Value.bool (decide_eq_false fun h=>by rw [hsf] at h;exact absurd h.1 (by decide)).symm
 have hsf:sfE n o x.length=0:=by unfold sfE;rw [if_neg (by simpa using hO),if_pos hle]
 rw [hsf]
 have z3:=x3.size
 have hRl:=BL0 hO
 have hR6:((nwOf n o).refsTo (nwOf n o).B).length<=6:=Nat.le_trans ((nwOf n o).cnt_le _) hB6
 refine .gtrF O O O (by omega) (.goC O ?_)
 refine .lp (α:=Nat) [2,8] O (fun k=>[(10,.int .i64 (k:Nat))]) (fun k W=>Ext w3 W/\k<=((nwOf n o).refsTo (nwOf n o).B).length/\∀ i,i<k->sumN ((nwOf n o).withTo i (nwOf n o).B).length (fun j=>rv x (((nwOf n o).withTo i (nwOf n o).B).getD j 0))=0) (fun k=>((nwOf n o).refsTo (nwOf n o).B).length-k) 0 (lc1 O) ⟨Ext.refl _,Nat.zero_le _,fun i hi=>absurd hi (Nat.not_lt_zero _)⟩ ?_
 rintro k W ⟨hW,hk,hall⟩
 have zW:=hW.size
 refine .go O (.lenR Ap8 O O (ER.ext eII hr hW) ?_)
 rw [hRl]
 rcases Nat.lt_or_ge k ((nwOf n o).refsTo (nwOf n o).B).length with hlt | hge
 rotate_left
 ·have:k=((nwOf n o).refsTo (nwOf n o).B).length:=by omega
  subst this
  refine .lssF O O O (by omega) (.goE O (.plain [_,_] Tryz.results29 ⟨rfl,rfl,trivial⟩ ⟨x3.trans hW,_,_,rfl,?_,rfl⟩))
  exact congrArg Value.bool (decide_eq_true ⟨rfl,Az0.2 hall⟩).symm
 have hgk:=BL1 hO hlt
 have hpl:(pInts ((nwOf n o).withTo k (nwOf n o).B)).length=((nwOf n o).withTo k (nwOf n o).B).length:=by simp [pInts]
 have hwl:=(nwOf n o).withTo_le k (nwOf n o).B
 generalize hl:(nwOf n o).withTo k (nwOf n o).B=l at hgk hpl hwl
 refine .lssT O O O (by omega) (.go O (.bld _ O O R9 (.alloc O C2 fun W3 c n3=>?_)))
 obtain ⟨d3,kc,hc,zs3⟩:=n3
 generalize hT:(fun k=>S k/\k≠c)=T
 have hTc:¬ T c:=by rw [<-hT];exact fun h=>h.2 rfl
 have hTS:∀ k,T k->S k:=fun k h=>by rw [<-hT] at h;exact h.1
 have upT':∀ {W':World},W3.heap.size<=W'.heap.size->Up T W':=fun h k hk=>by rw [<-hT];exact ⟨up k (by omega),by omega⟩
 have hxT:∀ {W':World},Ext W W'->eV.R T W' vx x:=fun e=>ER.ext eV (eV.mono (S':=T) (fun k _ h=>by rw [<-hT];exact ⟨h.1,by have:=h.2;omega⟩) (ER.lt eV hx)) (x3.trans (hW.trans e))
 have hrW:∀ {W':World},Ext W W'->eII.R S W' vr (rMemb n o):=fun e=>ER.ext eII hr (hW.trans e)
 refine .storeA (E:=eQ) (S:=T) ty_Q O O kc O O zq_R hTc fun W4 kc u4 hq4=>.goC O ?_
 have D4:Ext W W4:=u4.below d3 (by omega)
 have z4:W4.heap.size=W3.heap.size:=u4.size
 generalize hv:(fun i=>sumN i fun j=>rv x (l.getD j 0))=v
 have hv0:v 0=0:=by rw [<-hv];rfl
 have hvs:∀ i,v (i+1)=v i+rv x (l.getD i 0):=fun i=>by rw [<-hv];rfl
 have hvz:∀ i,i<=l.length->Rsz (v i) (1+6*(L+1)):=fun i hi=>by
  rw [<-hv]
  refine (AJ5 fun k hk=>hkx.rsz hL1 _).mono ?_
  have:=Nat.mul_le_mul_right (L+1) (show i<=6 by omega)
  omega
 have hGb:sumN l.length (fun j=>rv x (l.getD j 0))=v l.length:=by rw [<-hv]
 rw [<-N6,<-hv0] at hq4
 refine .lp (α:=Nat×Value) [2,8,10,11] O (fun y=>[(12,.int .i64 (y.1:Nat))]) (fun y W'=>Ext W W'/\W3.heap.size<=W'.heap.size/\y.1<=l.length/\Blk W' c 54 y.2.cells/\eQ.R T W' y.2 (qc (v y.1))) (fun y=>l.length-y.1) (0,zq) (lc1 O) ⟨D4,by omega,Nat.zero_le _,kc,hq4⟩ ?_
 clear kc hq4
 rintro ⟨i,y⟩ W5 ⟨hW5,zW5,hi,kc,hq⟩
 replace hW5:Ext W W5:=hW5
 replace zW5:W3.heap.size<=W5.heap.size:=zW5
 replace hi:i<=l.length:=hi
 replace kc:Blk W5 c 54 y.cells:=kc
 replace hq:eQ.R T W5 y (qc (v i)):=hq
 have hqv:=shpA (E:=eQ) O hq
 refine .go O (.ixN (i:=k) Ap8 ty_I O O (hrW hW5) O hgk fun p hp=>.go O (.ldE (E:=eI) ty_I O O hp fun e he=>.go O (.lenR un_I O O he ?_)))
 rw [hpl]
 rcases Nat.lt_or_ge i l.length with hil | hge
 rotate_left
 ·have:i=l.length:=by omega
  subst this
  refine .lssF O O O (by omega) (.go O (.ldA ty_Q O O kc (eQ.csz hq) ?_))
  rw [<-hqv]
  refine .call _ O AH7 O (AG5 (upT' (by omega)) hq (hvz _ hi).toOk (by omega)) fun v7 W7 d7 h7=>?_
  subst h7
  have hW7:=hW.trans (hW5.trans d7)
  refine .go O ?_
  rw [pn_qc]
  by_cases hz:v l.length=0
  ·rw [hz]
   exact .neqF O O O O (.go O (.inc O O O (by omega) (.goN O (.mk (k+1) O (lc1 O) ⟨⟨hW7,hlt,fun i' hi'=>by
    rcases Nat.lt_or_ge i' k with h | h
    ·exact hall i' h
    ·have:i'=k:=by omega
     subst this
     rw [hl,hGb,hz]⟩,by show ((nwOf n o).refsTo (nwOf n o).B).length-(k+1)<((nwOf n o).refsTo (nwOf n o).B).length-k;omega⟩))))
  ·refine .neqT O O O (fun h=>hz (Rat.num_eq_zero.1 (Int.sign_eq_zero_iff_zero.1 h))) (.goE O (.plain [_,_] Tryz.results29 ⟨rfl,rfl,trivial⟩ ⟨x3.trans hW7,_,_,rfl,?_,rfl⟩))
   refine congrArg Value.bool (decide_eq_false fun h=>hz ?_).symm
   have:=Az0.1 h.2 k hlt
   rw [hl,hGb] at this
   exact this
 have hvi:=hvz i hi
 have hgi:=BL5 hil
 have hbl:l.getD i 0<(nwOf n o).B:=by rw [<-hl];rw [<-hl] at hil;exact BK3 hil
 have hvn:=hvs i
 generalize l.getD i 0=b at hgi hbl hvn
 have hai:=hkx.get hL1 b
 refine .lssT O O O (by omega) (.goC O ?_)
 refine .par follows 10 [.inl y,.inl _,.inl _,.inl _,.inr (Ptr eI S (pInts l)),.inr (eI.at S (pInts l)),.inl _,.inr (Ptr (eInt .i64) S ((b:Nat):Int)),.inl (.int .i64 (b:Nat)),.inr (eQ.at T (x.getD b q0))] [[],[],[],[],[(45,2),(46,3)],[(47,4)],[],[(48,5),(49,6)],[(50,7)],[(44,1),(51,8)]] (by kernel_rfl) ⟨
  fun w e=>((B8 ty_Q O (kc.ext e) (eQ.csz hq)).eq hqv.symm).ob,
  fun w e=>(v_mv O).ob,
  fun w e=>(v_mv O).ob,
  fun w e=>(v_mv O).ob,
  fun w e=>B5 (i:=k) Ap8 ty_I O (hrW (hW5.trans e)) O hgk,
  fun w e x4 hx4=>I5 ty_I O hx4,
  fun w e=>(v_mv O).ob,
  fun w e x5 hx5=>B5 (i:=i) un_I B6 O hx5 O hgi,
  fun w e x7 hx7=>G5 A3 O hx7,
  fun w e=>(by have:=I3 (i:=((b:Nat):Int)) (hxT (hW5.trans e));rw [M4] at this;exact (A2 _ I6 O this).ob (A5 _ _ _)),trivial⟩ ?_
 intro W7 d7 y4 hy4 y5 hy5 y7 hy7 y9 hy9
 have hop:=U9 (L:=1+6*(L+1)) (upT' (by have:=d7.size;omega):Up T W7) (ER.ext eQ hq d7) hy9 hvi.toOk (hai.1.mono (by omega)) (by omega) (by omega)
 rw [B3,show v i+qval (x.getD b q0)=v (i+1) from hvn.symm] at hop
 refine .call _ O X5 O hop fun y8 W8 d8 hq8=>?_
 have d78:=d7.trans d8
 have z78:=d78.size
 refine .storeA (E:=eQ) ty_Q O O (kc.ext d78) O (eQ.csz hq) hq8 hTc fun W9 k9 u9 hq9=>?_
 have z9:=u9.size
 have hW9:Ext W W9:=u9.below (hW5.trans d78) (by omega)
 exact .go O (.inc O O O (by omega) (.goN O (.mk (i+1,y8) O (lc1 O) ⟨⟨hW9,by omega,hil,k9,hq9⟩,by show l.length-(i+1)<l.length-i;omega⟩)))
section
variable {S:Nat->Prop} {base g:Nat} {W W':World} {vs:List Value} {ls:List (List QV)}
theorem RwI.low (h:RwI S base g W vs ls) (hg:base<=g) {k:Nat} (hk:k<base) (hS:S k):offV S g vs k:=⟨hS,by omega,fun u hu e=>by have:=(h.own_lt hu e).1;omega⟩
theorem RwI.up (h:RwI S base g W vs ls) {V:World} (hw:W.heap.size<=V.heap.size) (hS:Up S V):Up (offV S g vs) V:=fun k hk=>⟨hS k hk,by have:=h.out.lt;omega,fun u hu e=>by have:=(h.own_lt hu e).2;omega⟩
theorem RwI.keep {α:Type} {E:ER α} {e:Value} {x:α} {W'':World} {i:Nat} {u v':Value} (h:RwI S base g W vs ls) (hi:vs[i]?=some u) (he:E.R (offV S g vs) W e x) (hg:W.grownBy W' u.ownBlock) (hob:v'.ownBlock=u.ownBlock\/v'.ownBlock=some W.heap.size) (hu:Upd W' W'' g):E.R (offV S g (vs.set i v')) W'' e x:=by
 have hum:u∈vs:=List.mem_iff_getElem?.2 ⟨i,hi⟩
 have h3:=ER.lt E he
 have h4:=E.keep (w':=W') (fun k c t f hS hk=>(hg.block k hS.2 (fun e'=>hS.1.2.2 u hum e'.symm)).trans hk) h3
 have h5:=E.keep (Kp.upd hu (fun hS=>hS.1.2.1 O)) h4
 refine E.mono (fun k _ hS=>⟨hS.1.1,hS.1.2.1,fun u2 hu2=>?_⟩) h5
 rcases List.mem_or_eq_of_mem_set hu2 with h6 | h6
 ·exact hS.1.2.2 u2 h6
 ·subst h6
  rcases hob with h7 | h7
  ·rw [h7];exact hS.1.2.2 u hum
  ·rw [h7];intro e';cases e';have:=hS.2;omega
end
@[reducible] def OneP (X:Nat->Prop) (q:QV):Value->World->Prop:=fun v W=>∃ b e,v=.slice (some ⟨b,0,none⟩) 1 1/\Blk W b 54 e.cells/\eQ.R X W e q
theorem BD0 {X:Nat->Prop} {w:World} {σ:Env} {d:Option Tmp} {ty:TypeId} {pos:String} {af:Array Edge} {gd:Option (Nat×Bool)} {x:Operand} {u:Value} {q:QV} (hu:eQ.R X w u q) (hx:ev σ x=some u:=by rfl) :
  Gv Tryz.prog ⟨d,.buildSlice 32 1 #[(0,x)],ty,pos,af,gd⟩ σ w fun v' w'=>Ext w w'/\Sp.ok (.inr (OneP X q)) v' w':=by
 have hu':=hu
 obtain ⟨s1,t1,rfl,_,_⟩:=hu'
 refine (AT8 (ps:=[(0,x)]) [(0,.agg #[.bool q.num.neg,s1,.bool q.den.neg,t1])] (by simp [evp,hx]) T5).mono fun v' w' ⟨b2,hv',n2⟩=>⟨n2.1,fun w'' e=>⟨b2,.agg #[.bool q.num.neg,s1,.bool q.den.neg,t1],hv',n2.2.1.ext e,ER.ext eQ hu (n2.1.trans e)⟩⟩
def _root_.Go.Kx.Nw.Lk (n:Nw) (b k:Nat):Rat:=n.offM (rv (tab n.M (n.fl (rv (tab n.B (uniR (k:Nat))))))) b
theorem rv_uni {B k b:Nat}:rv (tab B (uniR (k:Nat))) b=if b<B then (if b=k then 1 else 0) else 0:=by
 rw [M2]
 unfold uniR
 by_cases h:b=k
 ·subst h;simp
 ·have:¬ ((b:Int)=(k:Int)):=by omega
  simp [h,this]
theorem Ae8 (B k:Nat):vk 1 (tab B (uniR (k:Nat))):=X8 fun b _=>by
 unfold uniR
 split
 ·exact ⟨by decide,by decide⟩
 ·exact Rsz.zero (Nat.le_refl _)
def mixL {α:Type} (B b:Nat) (f g:Nat->α):List α:=(List.range B).map fun j=>if j<b then f j else g j
theorem Ax0 {α:Type} (B b:Nat) (f g:Nat->α):(mixL B b f g).length=B:=by simp [mixL]
theorem Ax1 {α:Type} {B b:Nat} {f g:Nat->α} (h:b<B):(mixL B b f g)[b]?=some (g b):=by
 unfold mixL
 rw [List.getElem?_map,List.getElem?_range h,Option.map_some,if_neg (Nat.lt_irrefl b)]
theorem Aw9 {α:Type} {B b:Nat} {f g:Nat->α}:(mixL B b f g).set b (f b)=mixL B (b+1) f g:=by
 refine List.ext_getElem (by simp [mixL]) fun j h1 h2=>?_
 rw [List.getElem_set]
 by_cases e:b=j
 ·subst e;simp [mixL]
 ·rw [if_neg e]
  by_cases h:j<b
  ·simp [mixL,h,show j<b+1 by omega]
  ·simp [mixL,h,show ¬ j<b+1 by omega]
theorem Ao0 {α:Type} (B:Nat) (f g:Nat->α):mixL B 0 f g=(List.range B).map g:=by
 unfold mixL
 exact List.map_congr_left fun j _=>if_neg (Nat.not_lt_zero j)
theorem Ax2 {α:Type} (B:Nat) (f g:Nat->α):mixL B B f g=(List.range B).map f:=by
 unfold mixL
 exact List.map_congr_left fun j hj=>if_pos (List.mem_range.1 hj)
theorem Ac8 {S:Nat->Prop} {w:World} {n:Nat} {k:Int} (up:Up S w) (hn:n<=65536):CR Tryz.prog 90 #[.int .i64 (n:Nat),.int .i64 k] w (eV.at S (tab n (uniR k))) :=
 (AG4 up hn).mono fun _ _ _ hv=>hv.toR (fun j hj=>up j hj) (fun _ h=>h)
theorem Al3:Ent Tryz.prog 35:=A0 Tryz.func35 (by kernel_rfl) rfl
set_option maxRecDepth 8000 in
theorem Ak0 {S:Nat->Prop} {w:World} {vn vo:Value} {n:NtV} {o:List Int} (up:Up S w) (hn:eN.R S w vn n) (ho:eI.R S w vo o) :
  CR Tryz.prog 35 #[vn,vo] w (Two (fun v W=>if outE n o=0 then ∃ g vs base,v=.slice (some ⟨g,0,none⟩) (nwOf n o).B (nwOf n o).B/\w.heap.size<=base/\base<=g/\RwI S base g W vs (tabM (nwOf n o).B (nwOf n o).B (nwOf n o).Lk) else v=.slice none 0 0) (Is (.int .i64 (outE n o)))):=by
 obtain ⟨s,rfl,hs,hb⟩:=hn
 have hn:eN.R S w (.agg #[.int .i64 n.b,s]) n:=⟨s,rfl,hs,hb⟩
 refine enter Tryz.func35 O Tryz.ntmps35 O (.beg (.go O (.box O O fun w1 b2 n1=>.go O ?_)))
 obtain ⟨e1,k2,hb2,hs1⟩:=n1
 replace k2:Blk w1 b2 24 #[.int .i64 n.b,s]:=k2
 refine .ldA ty_N O O k2 O (.go O ?_)
 refine .call _ O S3 O (Q4 (hn.ext e1) (ho.ext e1)) fun v3 w3 e3 h3=>?_
 subst h3
 have x3:=e1.trans e3
 have k2:=k2.ext e3
 refine .go O ?_
 by_cases hO:outE n o=0
 rotate_left
 ·refine .neqT O O O hO (.goE O (.plain [_,_] Tryz.results35 ⟨rfl,rfl,trivial⟩ ⟨x3,_,_,rfl,?_,rfl⟩))
  show if outE n o=0 then _ else _
  rw [if_neg hO]
 have ok:=N1 hO
 have hnb:=ok.b
 have hB6:=ok.b6
 have hM10:n.ls.length<=10:=ok.m
 rw [hnb] at k2 hn
 have z3:=x3.size
 refine .neqF O O O hO (.go O (.fa E5 O O (.go O (.ld A3 O O k2 O ?_))))
 refine .make_ _ _ un_M AG9 O (by decide) O O O (Nat.le_refl _) (by omega) (by omega) fun w4 g n4=>?_
 have f4:FB eRaw 32 (fun _=>True) w4 g (List.replicate (nwOf n o).B (Value.slice none 0 0)):=FB.made n4 ⟨rfl,none,0,0,rfl⟩
 obtain ⟨e4,_,hg,hs4⟩:=n4
 have r4:RwI S w3.heap.size g w4 _ (List.replicate (nwOf n o).B []):=RwI.fresh f4
 have hz:List.replicate (nwOf n o).B ([]:List QV)=tabM (nwOf n o).B 0 (nwOf n o).Lk:=by
  refine List.ext_getElem (by simp [tabM]) fun j h1 h2=>?_
  simp [tabM,tab]
 rw [hz] at r4
 have hgb:w3.heap.size<=g:=by omega
 refine .goC O ?_
 refine .lp (α:=Nat×List Value) [1,2,7] O (fun y=>[(8,.int .i64 (y.1:Nat))]) (fun y W=>Ext w3 W/\y.1<=(nwOf n o).B/\RwI S w3.heap.size g W y.2 (tabM (nwOf n o).B y.1 (nwOf n o).Lk)) (fun y=>(nwOf n o).B-y.1) (0,_) (lc1 O) ⟨e4,Nat.zero_le _,r4⟩ ?_
 rintro ⟨k,vs⟩ W ⟨hW,hi,hR⟩
 replace hW:Ext w3 W:=hW
 replace hi:k<=(nwOf n o).B:=hi
 replace hR:RwI S w3.heap.size g W vs (tabM (nwOf n o).B k (nwOf n o).Lk):=hR
 have k2W:∀ {W':World},Ext w3 W'->Blk W' b2 24 #[.int .i64 ((nwOf n o).B:Nat),s]:=fun e=>k2.ext e
 have zW:=hW.size
 refine .go O (.fa E5 O O (.go O (.ld A3 O O (k2W hW) O (.go O ?_))))
 rcases Nat.lt_or_ge k (nwOf n o).B with hlt | hge
 rotate_left
 ·have:k=(nwOf n o).B:=by omega
  subst this
  refine .lssF O O O (by omega) (.goE O (.plain [_,_] Tryz.results35 ⟨rfl,rfl,trivial⟩ ⟨x3.trans hW,_,_,rfl,?_,by rw [hO]⟩))
  show if outE n o=0 then _ else _
  rw [if_pos hO]
  exact ⟨g,vs,w3.heap.size,rfl,z3,hgb,hR⟩
 generalize hX:offV S g vs=X
 have upX:∀ {W':World},W.heap.size<=W'.heap.size->Up X W':=fun h=>by rw [<-hX];exact hR.up h fun j hj=>up j (by omega)
 have hlow:∀ j,S j->j<w.heap.size->X j:=fun j h1 h2=>by rw [<-hX];exact hR.low hgb (by omega) h1
 have hnX:∀ {W':World},Ext w3 W'->eN.R X W' (.agg #[.int .i64 ((nwOf n o).B:Nat),s]) n:=fun e=>ER.ext eN (eN.mono (fun j _ h=>hlow j h.1 h.2) (ER.lt eN hn)) (x3.trans e)
 have hoX:∀ {W':World},Ext w3 W'->eI.R X W' vo o:=fun e=>ER.ext eI (eI.mono (fun j _ h=>hlow j h.1 h.2) (ER.lt eI ho)) (x3.trans e)
 have hsf:sfE n o (tab (nwOf n o).B (uniR (k:Nat))).length=0:=by
  unfold sfE
  rw [A1,if_neg (by simpa using hO),if_pos (by omega)]
 have hfz:vk 4 (tab n.ls.length ((nwOf n o).fl (rv (tab (nwOf n o).B (uniR (k:Nat)))))):=X8 fun i _=>BU0 ok (fun c=>(Ae8 (nwOf n o).B k).rsz (Nat.le_refl _) c) i
 have hno:noE n o (tab n.ls.length ((nwOf n o).fl (rv (tab (nwOf n o).B (uniR (k:Nat)))))).length=0:=by
  unfold noE
  rw [A1,if_neg (by simpa using hO),if_pos (Nat.le_refl _)]
 generalize hfl:tab n.ls.length ((nwOf n o).fl (rv (tab (nwOf n o).B (uniR (k:Nat)))))=fv at hfz hno
 have hoff:(nwOf n o).offM (rv fv)=fun b=>(nwOf n o).Lk b k:=by funext b;rw [<-hfl];rfl
 refine .lssT O O O (by omega) (.goC O ?_)
 refine .par follows 11 [.inl (.agg #[.int .i64 ((nwOf n o).B:Nat),s]),.inl _,.inl _,.inl (.int .i64 ((nwOf n o).B:Nat)),.inl _,.inr (eV.at X (tab (nwOf n o).B (uniR (k:Nat)))),.inr (Two (eV.at X fv) (Is (.int .i64 0))),.inr (Two (eV.at X fv) (Is (.int .i64 0))),.inr (eV.at X fv),.inl (.int .i64 0),.inr (eV.at X fv)] [[],[],[],[(32,2)],[],[(33,3),(34,4)],[(30,0),(31,1),(35,5)],[(36,6)],[(29,7)],[(29,7)],[(37,8)]] (by kernel_rfl) ⟨
  fun w e=>(B8 ty_N O (k2W (hW.trans e)) O).ob,
  fun w e=>(v_mv O).ob,
  fun w e=>(v_fa E5 O).ob,
  fun w e=>(v_ld A3 O (k2W (hW.trans e)) O).ob,
  fun w e=>(v_mv O).ob,
  fun w e=>(A2 _ O2 O (Ac8 (upX e.size) (by omega))).ob (A5 _ _ _),
  fun w e x5 hx5=>(by have:=Af5 (L:=1) (upX e.size) (hnX (hW.trans e)) (hoX (hW.trans e)) hx5 (Ae8 _ _) (by decide) (by decide);rw [hsf,if_pos rfl,hfl] at this;exact (A2 _ Ai9 O this).ob (AA6 (A5 _ _ _) (AN7 _))),
  fun w e x6 hx6=>L0 (v_mv O) hx6 (AA6 (A5 _ _ _) (AN7 _)),
  fun w e x7 hx7=>by
   obtain ⟨p1,q1,rfl,hp1,hq1⟩:=hx7
   exact L0 (v_ex O O) hp1 (A5 _ _ _),
  fun w e x7 hx7=>by
   obtain ⟨p1,q1,rfl,hp1,hq1⟩:=hx7
   exact ((v_ex O O).eq hq1).ob,
  fun w e x8 hx8=>L0 (v_as O) hx8 (A5 _ _ _),trivial⟩ ?_
 intro W5 d5 y5 hy5 y6 hy6 y7 hy7 y8 hy8 vf hvf
 have hW5:=hW.trans d5
 refine .go O (.ldA ty_N O O (k2W hW5) O (.go O ?_))
 have hoffc:=Av6 (L:=4) (upX d5.size) (hnX hW5) (hoX hW5) hvf hfz (by decide) (by decide)
 rw [hno,if_pos rfl,hoff] at hoffc
 refine .call _ O Az9 O hoffc fun v6 W6 d6 h6=>?_
 obtain ⟨va,ve,rfl,ha,rfl⟩:=h6
 have hW6:=hW5.trans d6
 have hR:=(hR.ext d5).ext d6
 replace ha:eV.R X W6 va (tab (nwOf n o).B fun b=>(nwOf n o).Lk b k):=ha
 rw [<-hX] at ha
 have hmz:tabM (nwOf n o).B k (nwOf n o).Lk=mixL (nwOf n o).B 0 (fun b=>tab (k+1) ((nwOf n o).Lk b)) (fun b=>tab k ((nwOf n o).Lk b)):=by rw [Ao0];rfl
 have hma:mixL (nwOf n o).B (nwOf n o).B (fun b=>tab (k+1) ((nwOf n o).Lk b)) (fun b=>tab k ((nwOf n o).Lk b))=tabM (nwOf n o).B (k+1) (nwOf n o).Lk:=by rw [Ax2];rfl
 rw [hmz] at hR
 refine .goC O ?_
 refine .lp (α:=Nat×List Value) [1,2,7,8,11] O (fun y=>[(13,.int .i64 (y.1:Nat))]) (fun y W'=>Ext w3 W'/\y.1<=(nwOf n o).B/\RwI S w3.heap.size g W' y.2 (mixL (nwOf n o).B y.1 (fun b=>tab (k+1) ((nwOf n o).Lk b)) (fun b=>tab k ((nwOf n o).Lk b)))/\eV.R (offV S g y.2) W' va (tab (nwOf n o).B fun b=>(nwOf n o).Lk b k)) (fun y=>(nwOf n o).B-y.1) (0,vs) (lc1 O) ⟨hW6,Nat.zero_le _,hR,ha⟩ ?_
 clear hR ha
 rintro ⟨b,us⟩ W7 ⟨hW7,hi7,hR,ha⟩
 replace hW7:Ext w3 W7:=hW7
 replace hi7:b<=(nwOf n o).B:=hi7
 replace hR:RwI S w3.heap.size g W7 us (mixL (nwOf n o).B b (fun b=>tab (k+1) ((nwOf n o).Lk b)) (fun b=>tab k ((nwOf n o).Lk b))):=hR
 replace ha:eV.R (offV S g us) W7 va (tab (nwOf n o).B fun b=>(nwOf n o).Lk b k):=ha
 refine .go O (.fa E5 O O (.go O (.ld A3 O O (k2W hW7) O (.go O ?_))))
 rcases Nat.lt_or_ge b (nwOf n o).B with hbl | hge
 rotate_left
 ·have:b=(nwOf n o).B:=by omega
  subst this
  rw [hma] at hR
  exact .lssF O O O (by omega) (.go O (.inc O O O (by omega) (.goN O (.mk (k+1,us) O (lc1 O) ⟨⟨hW7,hlt,hR⟩,by show (nwOf n o).B-(k+1)<(nwOf n o).B-k;omega⟩))))
 have hvl:b<us.length:=by rw [hR.len,Ax0];exact hbl
 have hu:=List.getElem?_eq_getElem hvl
 generalize us[b]=u at hu
 have hum:u∈us:=List.mem_iff_getElem?.2 ⟨b,hu⟩
 have hm:=Ax1 (f:=fun b=>tab (k+1) ((nwOf n o).Lk b)) (g:=fun b=>tab k ((nwOf n o).Lk b)) hbl
 have hga:(tab (nwOf n o).B fun b=>(nwOf n o).Lk b k)[b]?=some (qc ((nwOf n o).Lk b k)):=G3 hbl
 have htk:tab k ((nwOf n o).Lk b)++[qc ((nwOf n o).Lk b k)]=tab (k+1) ((nwOf n o).Lk b):=by
  unfold tab;rw [List.range_succ,List.map_append];rfl
 generalize qc ((nwOf n o).Lk b k)=q at hga htk
 refine .lssT O O O (by omega) (.goC O ?_)
 refine .parL follows 11 [0,1] [.inl _,.inl _,.inl _,.inl _,.inl (.pointer (some ⟨g,0+b*1,none⟩)),.inl u,.inl _,.inl _,.inr (Ptr eQ (offV S g us) q),.inr (eQ.at (offV S g us) q),.inr (OneP (offV S g us) q)] [[],[],[],[],[(54,2),(55,3)],[(56,4)],[],[],[(58,6),(59,7)],[(60,8)],[(61,9)]] (by kernel_rfl) ⟨
  fun w e=>(v_mv O).ob,
  fun w e=>(v_mv O).ob,
  fun w e=>(v_mv O).ob,
  fun w e=>(v_mv O).ob,
  fun w e=>(F4 (i:=b) un_M ty_V O O hbl).ob,
  fun w e=>(AD2 (E:=eRaw) (i:=b) (by decide) ty_V O (Nat.zero_add _) (hR.out.ext e) hu).mono fun v' w' ⟨e1,h⟩=>⟨e1,(h w' (Ext.refl _)).1⟩,
  fun w e=>(v_mv O).ob,
  fun w e=>(v_mv O).ob,
  fun w e=>B5 (i:=b) un_V ty_Q O (ER.ext eV ha e) O hga,
  fun w e x8 hx8=>I5 ty_Q O hx8,
  fun w e x9 hx9=>BD0 hx9,trivial⟩ ?_
 rintro W1 d1 y8 hy8 y9 hy9 _ ⟨bb,e9,rfl,kb9,he9⟩
 have hW1:=hW7.trans d1
 have hR1:=hR.ext d1
 have hrow:=hR1.inn b u _ hu hm
 refine .gv O O (AC0 (E:=eQ) (base:=w3.heap.size) (n:=q) (e:=e9) (by decide) un_V H4 O O O hrow kb9 (eQ.mono (fun j _ h=>⟨h,h.2.2 u hum⟩) he9) (by rw [A1];omega) (by decide) hW1.size) ?_
 rintro v2 W2 ⟨hO2,g2,hob⟩
 have fb2:FB eRaw 32 (fun _=>True) W2 g us:=by
  obtain ⟨es,hb,he⟩:=hR1.out
  exact ⟨es,hrow.gblk g2 hb (by decide),he.1,fun i e x h1 h2=>he.2 i e x h1 h2⟩
 obtain ⟨a2,c2,hv2⟩:=hO2.slice
 refine .ixB (i:=b) un_M ty_V O O O hbl (.storeF (E:=eRaw) (i:=b) (z:=v2) (by decide) ty_V O O fb2 O hvl (Nat.zero_add _) ⟨rfl,_,_,_,hv2⟩ fun W3 fb3 u3=>?_)
 have hR3:=hR1.step hu hm hO2 g2 hob fb3 u3
 rw [htk,Aw9 (f:=fun b=>tab (k+1) ((nwOf n o).Lk b))] at hR3
 have ha3:=hR1.keep hu (ER.ext eV ha d1) g2 hob u3
 have hW3:Ext w3 W3:=u3.below (OwnL.below hrow g2 hW1 hW1.size) hgb
 exact .go O (.inc O O O (by omega) (.goN O (.mk (b+1,us.set b v2) O (lc1 O) ⟨⟨hW3,hbl,hR3,ha3⟩,by show (nwOf n o).B-(b+1)<(nwOf n o).B-b;omega⟩)))
end Go.Proofs.YtggegpiffjbngaaGreat
namespace Go.Kx
open Go Go.RowKit Go.Proofs.YtggegpiffjbngaaGreat
theorem An3 (f:Nat->Rat) (k:Nat):∀ B,k<B->sumN B (fun c=>f c*(if c=k then 1 else 0))=f k
 | B+1,h=>by
  show sumN B _+f B*(if B=k then 1 else 0)=f k
  by_cases e:B=k
  ·subst e
   rw [if_pos rfl,E9 fun c hc=>by rw [if_neg (by omega),Rat.mul_zero]]
   grind
  ·rw [if_neg e,An3 f k B (by omega)]
   grind
theorem Nw.Lk_Lm {n:Nw} (ok:n.Ok) {b k:Nat} (hk:k<n.B):n.Lk b k=n.Lm b k:=by
 unfold Nw.Lk
 rw [Nw.offM_fl ok (rv (tab n.B (uniR (k:Nat)))) _ (fun i hi=>by rw [M2,if_pos hi]) b,<-Nw.lap_sum ok]
 rw [<-An3 (fun c=>n.Lm b c) k n.B hk]
 exact A6 fun c hc=>by rw [rv_uni,if_pos hc]
theorem Nw.tab_Lk {n:Nw} (ok:n.Ok):tabM n.B n.B n.Lk=tabM n.B n.B n.Lm:=C9 fun b k _ hk=>Nw.Lk_Lm ok hk
open Go Go.RowKit
section
variable {α:Type} {E:ER α} {t:TypeId} {S:Nat->Prop} {w w':World} {g:Nat} {l:List α}
theorem FP.blk (h:FP E t S w g l):∃ cs,Blk w g t cs:=by obtain ⟨_,_,h,_⟩:=h;exact ⟨_,h⟩
theorem FP.grow {v v':Value} (h:FP E t (fun k=>S k/\v.ownBlock≠some k) w g l) (hg:w.grownBy w' v.ownBlock) (hw:v'.ownBlock=v.ownBlock\/v'.ownBlock=some w.heap.size) (hne:v.ownBlock≠some g):FP E t (fun k=>S k/\v'.ownBlock≠some k) w' g l:=by
 have h1:FP E t (fun k=>(S k/\v.ownBlock≠some k)/\k<w.heap.size) w g l:=h.mono fun k hk hs=>⟨hs,hk⟩
 have h2:=h1.chg (Chg.grown hg) hne fun k hk=>hk.1.2
 refine h2.mono fun k _ hk=>⟨hk.1.1,?_⟩
 rcases hw with e | e
 ·rw [e];exact hk.1.2
 ·rw [e];intro e';cases e';exact Nat.lt_irrefl _ hk.2
theorem OwnL.ne {β:Type} {F:ER β} {t':TypeId} {base:Nat} {X:Nat->Prop} {v:Value} {b:List β} {cs:Array Value} (h:OwnL F t' base X w v b) (hb:Blk w g t cs) (ht:t'≠t):v.ownBlock≠some g:=by
 obtain ⟨es,ho,_⟩:=h
 rcases ho.2 with ⟨rfl,_⟩ | ⟨g',cap,cur,rfl,_,hg,_⟩
 ·intro e;cases e
 ·intro e
  have:g'=g:=by simpa [Value.ownBlock] using e
  subst this
  have e1:w.heap[g']?=some (.cells cs t (0,0)):=hb
  rw [hg] at e1;cases e1;exact ht rfl
end
theorem OwnL.lt' {β:Type} {F:ER β} {t':TypeId} {base:Nat} {X:Nat->Prop} {w:World} {v:Value} {b:List β} (h:OwnL F t' base X w v b) (k:Nat) (hk:v.ownBlock=some k):k<w.heap.size:=by
 obtain ⟨es,ho,_⟩:=h
 exact (ho.lt k hk).2
theorem BL3 {f:RM} {col n i r:Nat} (h1:i<=r) (h2:r<i+n) (h3:f r col≠0) (h4:∀ k,i<=k->k<r->f k col=0):pivRow f col n i=some r:=by
 cases h:pivRow f col n i with
 | none=>exact absurd (AK3 h r h1 h2) h3
 | some r' =>
  obtain ⟨a1,a2,a3,a4⟩:=J2 h
  rcases Nat.lt_trichotomy r r' with e | e | e
  ·exact absurd (a4 r h1 e) h3
  ·rw [e]
  ·exact absurd (h4 r' a1 e) a3
theorem BL2 {f:RM} {col n i:Nat} (h4:∀ k,i<=k->k<i+n->f k col=0):pivRow f col n i=none:=by
 cases h:pivRow f col n i with
 | none=>rfl
 | some r' =>
  obtain ⟨a1,a2,a3,a4⟩:=J2 h
  exact absurd (h4 r' a1 a2) a3
end Go.Kx
namespace Go.Proofs.YtggegpiffjbngaaGreat
open Go Go.Kx Go.RowKit
theorem AL1:Ent Tryz.prog 153:=A0 Tryz.func153 (by kernel_rfl) rfl
theorem AJ7 {S:Nat->Prop} {w:World} {vm:Value} {m:List (List QV)} {L n C0:Nat} (up:Up S w) (hm:eM.R S w vm m) (ok:eOk L n C0 m) :
  CR Tryz.prog 153 #[vm] w (Two (eM.at S (redM m)) (eI.at S (pInts (redP m)))):=by
 have hnr:=ok.rows
 have hc:=ok.cols
 have hc1:=ok.c1
 have hLl:=ok.le
 refine enter Tryz.func153 O Tryz.ntmps153 O ?_
 refine .sr (.asg O O (.an O O (.sr (.mv O O ?_))))
 refine .call _ O Z9 O (Z3 hm) fun v1 w1 e1 h1=>.an O O ?_
 subst h1
 refine .sr (.mv O O (.mv O O (.lenR un_M O O (hm.ext e1) (.mv O O ?_))))
 refine .call _ O BA0 O (Av7 (up.ext e1.size) (hm.ext e1) ok.k ok.l1 (by omega)) fun vr w2 e2 h2=>.an O O ?_
 have hcr:cutN (m.length:Int)=m.length:=by unfold cutN;omega
 have hcc:cutN (colsOf m:Int)=colsOf m:=by unfold cutN;omega
 rw [hcr,hcc] at h2
 have h2:=OwnL.base h2 e1.size
 have x2:=e1.trans e2
 refine .sr (.an O O (.sr (.an O O ?_)))
 generalize hN:m.length=N at *
 generalize hCc:colsOf m=C at *
 have hf:∀ i k,i<N->k<C->Rsz (rm m i k) L:=fun i k _ _=>ok.k.rsz ok.l1 i k
 rcases Nat.eq_zero_or_pos N with h0 | hpos
 ·have hm0:m=[]:=List.length_eq_zero_iff.1 (by omega)
  have hC0:C=0:=by rw [<-hCc,hm0];rfl
  have hp0:redP m=[]:=by rw [hm0];rfl
  have hr0:redM m=[]:=by rw [hm0];rfl
  subst hC0
  have hl0:tabM N 0 (rm m)=[]:=by rw [h0];rfl
  rw [hl0] at h2
  have hvr:eM.R S w2 vr []:=h2.toR (fun k hk=>up k hk) (fun _ h=>h)
  rw [hp0,hr0]
  refine .seq (.sr (.an O O ?_))
  refine .block (.loop (α:=Unit) (fun _=>[(4,.int .i64 ((0:Nat):Int)),(5,vr),(6,.slice none 0 0),(7,.int .i64 0),(8,.int .i64 0)]) (fun _ W=>W=w2) (fun _=>0) () ?_ ?_ ?_)
  ·exact lkA rfl
  ·rfl
  rintro _ W rfl
  refine .seq (.sr (.mv O O (.mv O O (.lssF O O O (by decide) (.nil (.condF O (.exit (.sr (.mv O O (.mv O O (.cut 0 0 un_M ty_V O O hvr O ⟨_,rfl⟩ (Nat.le_refl _) (Nat.zero_le _) fun v3 h3=>.mv O O (.asg O O (.an O O (.ret ?_))))))))))))))
  exact .plain [_,_] Tryz.results153 ⟨rfl,rfl,trivial⟩ ⟨x2,_,_,rfl,h3,RL.nil⟩
 obtain ⟨g,cap,rfl,hcap,hcap2,hgB,fp⟩:=h2.fp (by rw [A4];exact hpos)
 rw [A4] at hcap ⊢
 refine .mid (α:=Value) (fun u=>[(5,.slice (some ⟨g,0,none⟩) N cap),(6,u),(7,.int .i64 ((redP m).length:Nat))]) (fun u W=>Ext w W/\OwnL (eInt .i64) 3 w.heap.size (fun _=>False) W u (pInts (redP m))/\FP eV 32 S W g (tabM N C (redF m))) ?_ ?_
 ·refine .sr (.an O O ?_)
  refine .block (.loop (α:=Nat×Value) (fun y=>[(4,.int .i64 (C:Nat)),(5,.slice (some ⟨g,0,none⟩) N cap),(6,y.2),(7,.int .i64 ((elim N (rm m) y.1).2.length:Nat)),(8,.int .i64 (y.1:Nat))])
   (fun y W=>Ext w W/\y.1<=C/\OwnL (eInt .i64) 3 w.heap.size (fun _=>False) W y.2 (pInts (elim N (rm m) y.1).2)/\FP eV 32 (fun k=>S k/\y.2.ownBlock≠some k) W g (tabM N C (elim N (rm m) y.1).1)) (fun y=>C-y.1) (0,.slice none 0 0) ?_ ?_ ?_)
  ·exact lkA rfl
  ·exact ⟨x2,Nat.zero_le _,OwnL.nil,fp.mono fun k _ h=>⟨h,fun e=>by cases e⟩⟩
  rintro ⟨c,u⟩ W ⟨hW,hcC,ho,fp⟩
  replace hW:Ext w W:=hW
  replace hcC:c<=C:=hcC
  replace ho:OwnL (eInt .i64) 3 w.heap.size (fun _=>False) W u (pInts (elim N (rm m) c).2):=ho
  replace fp:FP eV 32 (fun k=>S k/\u.ownBlock≠some k) W g (tabM N C (elim N (rm m) c).1):=fp
  have hech:=R7 N (rm m) c
  have hql:=hech.len
  have hqc:=hech.len_c
  have hsg:=AK8 (C:=C) ok.l1 hf c hcC
  have hnext:elim N (rm m) (c+1)=estep N c (elim N (rm m) c):=rfl
  generalize hE:elim N (rm m) c=E at *
  obtain ⟨f,p⟩:=E
  simp only at ho fp hql hqc hsg
  have hsz:=hW.size
  refine .seq (.sr (.mv O O (.mv O O ?_)))
  rcases Nat.lt_or_ge c C with hlt | hge
  rotate_left
  ·refine .lssF O O O (by omega) (.nil (.condF O (.exit ?_)))
   have:c=C:=by omega
   subst this
   have e1':redP m=p:=by unfold redP;rw [hN,hCc,hE]
   have e2':redF m=f:=by unfold redF;rw [hN,hCc,hE]
   rw [e1',e2']
   exact ⟨rfl,u,lkA rfl,hW,ho,fp.mono fun k _ h=>h.1⟩
  refine .lssT O O O (by omega) (.nil (.condT O (.skip (.seq (.block (.sr (.mv O O (.an O O ?_))))))))
  have hugne:∀ {W':World} {l:List (List QV)} {S':Nat->Prop},OwnL (eInt .i64) 3 w.heap.size (fun _=>False) W' u (pInts p)->FP eV 32 S' W' g l->u.ownBlock≠some g:=fun h h'=>by
   obtain ⟨cs,hb⟩:=h'.blk
   exact h.ne hb (by decide)
  have hne:=hugne ho fp
  have hB:1<=bd L p.length:=As5 ok.l1 _
  have hBq:bd L p.length<=40000000:=by
   refine Nat.le_trans (Z8 L ?_) ok.bd
   have:=ok.mn;omega
  refine .mid (α:=Nat) (fun r=>[(4,.int .i64 (C:Nat)),(5,.slice (some ⟨g,0,none⟩) N cap),(6,u),(7,.int .i64 (p.length:Nat)),(8,.int .i64 (c:Nat)),(9,.int .i64 (r:Nat))]) (fun r W'=>Ext W W'/\p.length<=r/\r<=N/\(∀ j,p.length<=j->j<r->f j c=0)/\(r<N->f r c≠0)) ?_ ?_
  ·refine .block (.loop (α:=Nat) (fun r=>[(4,.int .i64 (C:Nat)),(5,.slice (some ⟨g,0,none⟩) N cap),(6,u),(7,.int .i64 (p.length:Nat)),(8,.int .i64 (c:Nat)),(9,.int .i64 (r:Nat))]) (fun r W'=>Ext W W'/\p.length<=r/\r<=N/\(∀ j,p.length<=j->j<r->f j c=0)) (fun r=>N-r) p.length ?_ ?_ ?_)
   ·exact lkA rfl
   ·exact ⟨Ext.refl _,Nat.le_refl _,hql,fun j h1 h2=>by omega⟩
   rintro r W1 ⟨hW1,hr1,hr2,hz⟩
   refine .seq (.sr (.mv O O (.mv O O (.len un_M O O ?_))))
   rcases Nat.lt_or_ge r N with hlr | hgr
   rotate_left
   ·refine .lssF O O O (by omega) (.mv O O (.gs O O O O O (.gs O O O O O (.gs O O O O O (.gs O O O O O (.gs O O O O O (.gs O O O O O (.gs O O O O O (.gs O O O O O (.gs O O O O O (.pick O O O (.nil (.condF O (.exit ?_))))))))))))))
    exact ⟨rfl,r,lkA rfl,hW1,hr1,hr2,hz,fun h=>by omega⟩
   have fp1:=fp.ext hW1
   refine .lssT O O O (by omega) (.mv O O (.gr O O O O (.mv O O (.gr O O O O (.mv O O (.gr O O O O (.ixB (i:=r) un_M ty_V O O O hlr (.gr O O O O (.ldP (E:=eV) (i:=r) ty_V O O (Nat.zero_add _) fp1 (C8 hlr) fun er her=>.gr O O O O (.mv O O (.gr O O O O ?_)))))))))))
   refine .ixN (i:=c) un_V ty_Q O O her O (G3 hlt) fun pp hp=>.gr O O O O (.ldE ty_Q O O hp fun ex hex=>.gr O O O O ?_)
   refine .call _ O AH7 O (AG5 (L:=bd L p.length) (fun k hk=>⟨⟨up k (by have:=hW1.size;omega),fun h=>by have:=(ho.lt' k h);have:=hW1.size;omega⟩,by have:=fp.lt;have:=hW1.size;omega⟩) hex (hsg r c hlr hlt).toOk (by omega)) fun vs W2 e2 hvs=>.gr O O O O ?_
   subst hvs
   rw [<-An4,B3]
   by_cases hzr:f r c=0
   ·refine .eqlT O O O (N4.2 hzr) (.pick O O O (.nil (.condT O (.skip (.block (.region (.mv O O (.add O O O (.an O O ?_)))))))))
    rw [wI (by omega)]
    refine ⟨rfl,r+1,lkA rfl,⟨hW1.trans e2,by omega,hlr,fun j h1 h2=>?_⟩,by show N-(r+1)<N-r;omega⟩
    by_cases e:j=r
    ·rw [e];exact hzr
    ·exact hz j h1 (by omega)
   ·refine .eqlF O O O (fun h=>hzr (N4.1 h)) (.pick O O O (.nil (.condF O (.exit ?_))))
    exact ⟨rfl,r,lkA rfl,hW1.trans e2,hr1,hr2,hz,fun _=>hzr⟩
  rintro r W1 ⟨hW1,hr1,hr2,hz,hnz⟩
  have ho:=ho.ext hW1
  have fp:=fp.ext hW1
  have hW:=hW.trans hW1
  have hsz:=hW.size
  refine .seq (.sr (.mv O O (.mv O O (.len un_M O O ?_))))
  rcases Nat.lt_or_ge r N with hrn | hrn
  rotate_left
  ·refine .eqlT O O O (by omega) (.nil (.condT O (.exit (.region (.mv O O (.add O O O (.an O O ?_)))))))
   rw [wI (by omega)]
   have hst:elim N (rm m) (c+1)=(f,p):=by
    rw [hnext]
    unfold estep
    simp only
    rw [BL2 fun k h1 h2=>hz k h1 (by omega)]
   refine ⟨rfl,(c+1,u),?_,⟨hW,hlt,?_,?_⟩,by show C-(c+1)<C-c;omega⟩
   ·show ∀ t v,Kx.look [(4,Value.int .i64 (C:Nat)),(5,.slice (some ⟨g,0,none⟩) N cap),(6,u),(7,.int .i64 ((elim N (rm m) (c+1)).2.length:Nat)),(8,.int .i64 ((c+1:Nat):Int))] t=some v->_
    rw [hst]
    exact lkA rfl
   ·show OwnL (eInt .i64) 3 w.heap.size (fun _=>False) W1 u (pInts (elim N (rm m) (c+1)).2)
    rw [hst];exact ho
   ·show FP eV 32 (fun k=>S k/\u.ownBlock≠some k) W1 g (tabM N C (elim N (rm m) (c+1)).1)
    rw [hst];exact fp
  refine .eqlF O O O (by omega) (.nil (.condF O (.skip ?_)))
  have hqlt:p.length<N:=by omega
  have hpr:pivRow f c (N-p.length) p.length=some r:=BL3 hr1 (by omega) (hnz hrn) hz
  have hst:elim N (rm m) (c+1)=(clr (swp f r p.length) p.length c,p++[c]):=by
   rw [hnext]
   unfold estep
   simp only
   rw [hpr]
  refine .mid (α:=Unit) (fun _=>[(4,.int .i64 (C:Nat)),(5,.slice (some ⟨g,0,none⟩) N cap),(6,u),(7,.int .i64 (p.length:Nat)),(8,.int .i64 (c:Nat))]) (fun _ W'=>Ext w W'/\OwnL (eInt .i64) 3 w.heap.size (fun _=>False) W' u (pInts p)/\FP eV 32 (fun k=>S k/\u.ownBlock≠some k) W' g (tabM N C (swp f r p.length))) ?_ ?_
  ·refine .heldT follows true (fun _=>True) [some _,some (.int .i64 (p.length:Nat)),some _,some (.int .i64 (r:Nat)),some _,some (.int .i64 (r:Nat)),some (.pointer (some ⟨g,0+r*1,none⟩)),none,some _,some (.int .i64 (p.length:Nat)),some (.pointer (some ⟨g,0+p.length*1,none⟩)),none,some (.pointer (some ⟨g,0+p.length*1,none⟩)),none,some (.pointer (some ⟨g,0+r*1,none⟩)),none]
    (.two 7 (.one 11 (.one 13 (.one 15 .done))) 11 (.one 7 (.one 13 (.one 15 .done)))) (by kernel_rfl) (by kernel_rfl)
    ⟨fun _ _=>v_mv rfl,fun _ _=>v_mv rfl,fun _ _=>v_mv rfl,fun _ _=>v_mv rfl,fun _ _=>v_mv rfl,fun _ _=>v_mv rfl,fun _ _=>F4 (i:=r) un_M ty_V O O hrn,fun _ _=>v_mv rfl,fun _ _=>v_mv rfl,fun _ _=>F4 (i:=p.length) un_M ty_V O O hqlt,fun _ _=>F4 (i:=p.length) un_M ty_V O O hqlt,fun _ _=>F4 (i:=r) un_M ty_V O O hrn,trivial⟩ ?_
   intro W3 e3 _
   obtain ⟨x7,h7,p7⟩:=(fp.ext e3).at_ (C8 hrn)
   obtain ⟨x11,h11,p11⟩:=(fp.ext e3).at_ (C8 hqlt)
   have q7:PtrX W3 ⟨g,0+r*1,none⟩ x7:=by rw [Nat.zero_add];exact p7
   have q11:PtrX W3 ⟨g,0+p.length*1,none⟩ x11:=by rw [Nat.zero_add];exact p11
   refine .gv2 (.gv O trivial O (AI4 (E:=eV) ty_V O q7 h7).gv ?_) (.gv O trivial O (AI4 (E:=eV) ty_V O q11 h11).gv ?_)
   all_goals
    rintro _ _ ⟨rfl,rfl⟩
    refine .gv O trivial O (by first | exact (AI4 (E:=eV) ty_V O q11 h11).gv | exact (AI4 (E:=eV) ty_V O q7 h7).gv) ?_
    rintro _ _ ⟨rfl,rfl⟩
    refine .gv O trivial O (Ag6 (E:=eV) (i:=p.length) (by decide) ty_V O O (fp.ext e3) O (by rw [A4];exact hqlt) (Nat.zero_add _) h7) ?_
    rintro _ W4 ⟨f4,u4⟩
    refine .gv O trivial O (Ag6 (E:=eV) (i:=r) (by decide) ty_V O O f4 O (by rw [List.length_set,A4];exact hrn) (Nat.zero_add _) (ER.upd eV h11 u4 (fun h=>h.2 O))) ?_
    rintro _ W5 ⟨f5,u5⟩
    refine .nil (.inl O) ?_
    rw [M9 hqlt,M9 hrn] at f5
    have e5:tabM N C (fun j k=>if j=r then f p.length k else if j=p.length then f r k else f j k)=tabM N C (swp f r p.length):=C9 fun i k _ _=>by
     unfold swp
     by_cases e1:i=r
     ·rw [if_pos e1,if_pos e1]
     ·by_cases e2:i=p.length
      ·rw [if_neg e1,if_pos e2,if_neg e1,if_pos e2]
      ·rw [if_neg e1,if_neg e2,if_neg e1,if_neg e2]
    rw [e5] at f5
    obtain ⟨cs3,hb3⟩:=(fp.ext e3).blk
    obtain ⟨cs4,hb4⟩:=f4.blk
    exact ⟨rfl,(),lkA rfl,u5.below (u4.below (hW.trans e3) hgB) hgB,((ho.ext e3).upd u4 hb3 (by decide) (fun h=>h)).upd u5 hb4 (by decide) (fun h=>h),f5⟩
  rintro _ W2 ⟨hW2,ho,fp⟩
  have hss:=Aq0 (a:=r) (b:=p.length) hrn hqlt hsg
  have hsq:swp f r p.length p.length c=f r c:=by
   unfold swp
   by_cases e:p.length=r
   ·simp [e]
   ·simp [e]
  have hs0:swp f r p.length p.length c≠0:=by rw [hsq];exact hnz hrn
  generalize hs:swp f r p.length=s at *
  generalize hq:p.length=q at *
  have hgl:=fp.lt
  have upW:∀ {W':World},Ext W2 W'->Up (fun k=>(S k/\u.ownBlock≠some k)/\k≠g) W':=fun e k hk=>⟨⟨up k (by have:=hW2.size;have:=e.size;omega),fun h=>by have:=ho.lt' k h;have:=e.size;omega⟩,by have:=e.size;omega⟩
  have h1k:qk (bd L q) (qc ((1:Int):Rat)):=AA7 (Rsz.int 1 (Nat.lt_of_lt_of_le (by decide) (Nat.pow_le_pow_right (by decide) hB)) hB)
  have hki:qk (bd L q) (qc (s q c)⁻¹):=AA7 ((hss q c hqlt hlt).inv hB)
  have hkr:∀ i,i<N->vk (bd L q) (tab C (s i)):=fun i hi=>X8 fun k hk=>hss i k hi hk
  refine .seq ?_
  refine .par follows 16 [.inl _,.inl (.int .i64 (q:Nat)),.inr (eQ.at (fun k=>(S k/\u.ownBlock≠some k)/\k≠g) (qc ((1:Int):Rat))),.inl _,.inl (.int .i64 (q:Nat)),.inl (.pointer (some ⟨g,0+q*1,none⟩)),.inr (eV.at (fun k=>(S k/\u.ownBlock≠some k)/\k≠g) (tab C (s q))),.inl (.int .i64 (c:Nat)),.inr (Ptr eQ (fun k=>(S k/\u.ownBlock≠some k)/\k≠g) (qc (s q c))),.inr (eQ.at (fun k=>(S k/\u.ownBlock≠some k)/\k≠g) (qc (s q c))),.inr (eQ.at (fun k=>(S k/\u.ownBlock≠some k)/\k≠g) (qc (s q c)⁻¹)),.inl _,.inl (.int .i64 (q:Nat)),.inl (.pointer (some ⟨g,0+q*1,none⟩)),.inr (eV.at (fun k=>(S k/\u.ownBlock≠some k)/\k≠g) (tab C (s q))),.inr (eV.at (fun k=>(S k/\u.ownBlock≠some k)/\k≠g) (tab C fun k=>(s q c)⁻¹*s q k))]
   [[],[],[],[],[],[(62,3),(63,4)],[(64,5)],[],[(65,6),(66,7)],[(67,8)],[(61,2),(68,9)],[],[],[(70,11),(71,12)],[(72,13)],[(69,10),(73,14)]] (by kernel_rfl) ⟨
   fun w e=>(v_mv O).ob,fun w e=>(v_mv O).ob,
   fun w e=>(A2 _ X4 O (U8 (upW e) (by decide) (by decide))).ob (A5 _ _ _),
   fun w e=>(v_mv O).ob,fun w e=>(v_mv O).ob,
   fun w e=>(F4 (i:=q) un_M ty_V O O hqlt).ob,
   fun w e=>Ag1 (E:=eV) (i:=q) ty_V O (Nat.zero_add _) (fp.ext e) (C8 hqlt),
   fun w e=>(v_mv O).ob,
   fun w e x hx=>B5 (i:=c) un_V ty_Q O hx O (G3 hlt),
   fun w e x hx=>I5 ty_Q O hx,
   fun w e x hx y hy=>by
    have:=BC4 (upW e) hx hy h1k.1 (hss q c hqlt hlt).toOk hB (by omega) (by rw [B3];exact hs0)
    rw [B3,B3,show ((1:Int):Rat)*(s q c)⁻¹=(s q c)⁻¹ by simp] at this
    exact (A2 _ BF0 O this).ob (A5 _ _ _),
   fun w e=>(v_mv O).ob,fun w e=>(v_mv O).ob,
   fun w e=>(F4 (i:=q) un_M ty_V O O hqlt).ob,
   fun w e=>Ag1 (E:=eV) (i:=q) ty_V O (Nat.zero_add _) (fp.ext e) (C8 hqlt),
   fun w e x hx y hy=>by
    have:=Ak6 (upW e) hx hy hki (hkr q hqlt) hB (by omega) (by rw [A1];omega)
    rw [A1,B3,E1 (g:=fun k=>(s q c)⁻¹*s q k) (fun k hk=>by rw [M2,if_pos hk])] at this
    exact (A2 _ Al9 O this).ob (A5 _ _ _),trivial⟩ ?_
  intro W3 e3 y2 _ y6 _ y8 _ y9 _ y10 _ y14 _ y15 hy15
  refine .ixB (i:=q) un_M ty_V O O O hqlt (.storeP (E:=eV) (i:=q) (by decide) ty_V O O (fp.ext e3) O (by rw [A4];exact hqlt) (Nat.zero_add _) hy15 fun W4 f4 u4=>.nil ?_)
  obtain ⟨cs3,hb3⟩:=(fp.ext e3).blk
  rw [M9 hqlt,<-Ai2] at f4
  have ho4:=(ho.ext e3).upd u4 hb3 (by decide) (fun h=>h)
  have hW4:Ext w W4:=u4.below (hW2.trans e3) hgB
  have hs4:W2.heap.size<=W4.heap.size:=by have:=u4.size;have:=e3.size;omega
  have hur:vk (bd L q+bd L q) (tab C fun k=>(s q c)⁻¹*s q k):=X8 fun k hk=>((hss q c hqlt hlt).inv hB).mul (hss q k hqlt hk)
  refine .mid (α:=Unit) (fun _=>[(4,.int .i64 (C:Nat)),(5,.slice (some ⟨g,0,none⟩) N cap),(6,u),(7,.int .i64 (q:Nat)),(8,.int .i64 (c:Nat))]) (fun _ W'=>Ext w W'/\OwnL (eInt .i64) 3 w.heap.size (fun _=>False) W' u (pInts p)/\FP eV 32 (fun k=>S k/\u.ownBlock≠some k) W' g (tabM N C (clr s q c))) ?_ ?_
  ·refine .sr (.an O O ?_)
   refine .block (.loop (α:=Nat) (fun i=>[(4,.int .i64 (C:Nat)),(5,.slice (some ⟨g,0,none⟩) N cap),(6,u),(7,.int .i64 (q:Nat)),(8,.int .i64 (c:Nat)),(10,.int .i64 (i:Nat))]) (fun i W'=>Ext w W'/\W2.heap.size<=W'.heap.size/\i<=N/\OwnL (eInt .i64) 3 w.heap.size (fun _=>False) W' u (pInts p)/\FP eV 32 (fun k=>S k/\u.ownBlock≠some k) W' g (tabM N C (clrTo s q c i))) (fun i=>N-i) 0 ?_ ?_ ?_)
   ·exact lkA rfl
   ·exact ⟨hW4,hs4,Nat.zero_le _,ho4,f4⟩
   rintro i Wa ⟨hWa,hsa,hi,hoa,fa⟩
   refine .seq (.sr (.mv O O (.mv O O (.len un_M O O ?_))))
   rcases Nat.lt_or_ge i N with hin | hin
   rotate_left
   ·refine .lssF O O O (by omega) (.nil (.condF O (.exit ?_)))
    have:i=N:=by omega
    subst this
    rw [Ap0] at fa
    exact ⟨rfl,(),lkA rfl,hWa,hoa,fa⟩
   refine .lssT O O O (by omega) (.nil (.condT O (.skip (.seq (.block (.sr (.mv O O (.mv O O ?_))))))))
   by_cases hiq:i=q
   ·refine .neqF O O O (by omega) (.nil (.condF O (.skip (.region (.mv O O (.add O O O (.an O O ?_)))))))
    rw [wI (by omega)]
    refine ⟨rfl,i+1,lkA rfl,⟨hWa,hsa,hin,hoa,?_⟩,by show N-(i+1)<N-i;omega⟩
    have:tabM N C (clrTo s q c (i+1))=tabM N C (clrTo s q c i):=C9 fun j k _ _=>by
     rw [AB0]
     by_cases ej:j=i
     ·simp only [ej,hiq,if_true];unfold clrTo;simp
     ·simp only [ej,if_false]
    rw [this];exact fa
   refine .neqT O O O (by omega) (.nil (.condT O ?_))
   have hrow:tab C (clrTo s q c i i)=tab C (s i):=E1 fun k _=>by unfold clrTo;rw [if_neg hiq,if_neg (by omega)]
   have hrq:tab C (clrTo s q c i q)=tab C fun k=>(s q c)⁻¹*s q k:=E1 fun k _=>by unfold clrTo;rw [if_pos rfl]
   have upa:∀ {W':World},Ext Wa W'->Up (fun k=>(S k/\u.ownBlock≠some k)/\k≠g) W':=fun e k hk=>⟨⟨up k (by have:=hWa.size;have:=e.size;omega),fun h=>by have:=hoa.lt' k h;have:=e.size;omega⟩,by have:=e.size;have:=fa.lt;omega⟩
   refine .par follows 19 [.inl _,.inl (.int .i64 (i:Nat)),.inl _,.inl (.int .i64 (i:Nat)),.inl (.pointer (some ⟨g,0+i*1,none⟩)),.inr (eV.at (fun k=>(S k/\u.ownBlock≠some k)/\k≠g) (tab C (s i))),.inl (.int .i64 (c:Nat)),.inr (Ptr eQ (fun k=>(S k/\u.ownBlock≠some k)/\k≠g) (qc (s i c))),.inr (eQ.at (fun k=>(S k/\u.ownBlock≠some k)/\k≠g) (qc (s i c))),.inr (eQ.at (fun k=>(S k/\u.ownBlock≠some k)/\k≠g) (qc (-(s i c)))),.inl _,.inl (.int .i64 (q:Nat)),.inl (.pointer (some ⟨g,0+q*1,none⟩)),.inr (eV.at (fun k=>(S k/\u.ownBlock≠some k)/\k≠g) (tab C fun k=>(s q c)⁻¹*s q k)),.inl _,.inl (.int .i64 (i:Nat)),.inl (.pointer (some ⟨g,0+i*1,none⟩)),.inr (eV.at (fun k=>(S k/\u.ownBlock≠some k)/\k≠g) (tab C (s i))),.inr (eV.at (fun k=>(S k/\u.ownBlock≠some k)/\k≠g) (tab C fun k => -(s i c)*((s q c)⁻¹*s q k)+s i k))]
    [[],[],[],[],[(87,2),(88,3)],[(89,4)],[],[(90,5),(91,6)],[(92,7)],[(93,8)],[],[],[(95,10),(96,11)],[(97,12)],[],[],[(99,14),(100,15)],[(101,16)],[(94,9),(98,13),(102,17)]] (by kernel_rfl) ⟨
    fun w e=>(v_mv O).ob,fun w e=>(v_mv O).ob,fun w e=>(v_mv O).ob,fun w e=>(v_mv O).ob,
    fun w e=>(F4 (i:=i) un_M ty_V O O hin).ob,
    fun w e=>hrow▸Ag1 (E:=eV) (i:=i) ty_V O (Nat.zero_add _) (fa.ext e) (C8 hin),
    fun w e=>(v_mv O).ob,
    fun w e x hx=>B5 (i:=c) un_V ty_Q O hx O (G3 hlt),
    fun w e x hx=>I5 ty_Q O hx,
    fun w e x hx=>by
     have:=AJ8 (L:=bd L q) (upa e) hx (hss i c hin hlt).toOk hB (by omega)
     rw [B3] at this
     exact (A2 _ AL2 O this).ob (A5 _ _ _),
    fun w e=>(v_mv O).ob,fun w e=>(v_mv O).ob,
    fun w e=>(F4 (i:=q) un_M ty_V O O hqlt).ob,
    fun w e=>hrq▸Ag1 (E:=eV) (i:=q) ty_V O (Nat.zero_add _) (fa.ext e) (C8 hqlt),
    fun w e=>(v_mv O).ob,fun w e=>(v_mv O).ob,
    fun w e=>(F4 (i:=i) un_M ty_V O O hin).ob,
    fun w e=>hrow▸Ag1 (E:=eV) (i:=i) ty_V O (Nat.zero_add _) (fa.ext e) (C8 hin),
    fun w e x hx y hy z hz=>by
     have:=Y5 (L:=bd L q+bd L q) (upa e) hx hy hz (AA7 ((hss i c hin hlt).neg.mono (by omega))) hur ((hkr i hin).mono (by omega)) (by omega) (by omega) (by rw [A1];omega) (by rw [A1];omega)
     rw [A1,A1,Nat.max_self,B3,E1 (g:=fun k => -(s i c)*((s q c)⁻¹*s q k)+s i k) (fun k hk=>by rw [M2,M2,if_pos hk,if_pos hk])] at this
     exact (A2 _ Y8 O this).ob (A5 _ _ _),trivial⟩ ?_
   intro Wb eb z5 _ z7 _ z8 _ z9 _ z13 _ z17 _ z18 hz18
   refine .ixB (i:=i) un_M ty_V O O O hin (.storeP (E:=eV) (i:=i) (by decide) ty_V O O (fa.ext eb) O (by rw [A4];exact hin) (Nat.zero_add _) hz18 fun Wc fc uc=>.nil ?_)
   obtain ⟨csb,hbb⟩:=(fa.ext eb).blk
   rw [M9 hin] at fc
   refine .region (.mv O O (.add O O O (.an O O ?_)))
   rw [wI (by omega)]
   refine ⟨rfl,i+1,lkA rfl,⟨uc.below (hWa.trans eb) hgB,by have:=uc.size;have:=eb.size;omega,hin,(hoa.ext eb).upd uc hbb (by decide) (fun h=>h),?_⟩,by show N-(i+1)<N-i;omega⟩
   rw [AB0]
   simp only [hiq,if_false]
   exact fc
  rintro _ Wx ⟨hWx,hox,fx⟩
  refine .sr (.mv O O (.mv O O (.bsl [(0,.int .i64 (c:Nat))] O O AQ6 fun Wy by_ ny=>?_)))
  obtain ⟨ey,ky,hby,hsy⟩:=ny
  have hlen:(pInts p).length<=1000000000:=by simp;omega
  have hint:(eInt .i64).R (fun k=>False/\u.ownBlock≠some k) Wy (.int .i64 (c:Nat)) (c:Int):=⟨rfl,Int.le_trans (by decide:IntKind.min .i64<=0) (by omega),Int.le_trans (by omega:(c:Int)<=1000) (by decide)⟩
  refine .gv O O (AC0 (E:=eInt .i64) (base:=w.heap.size) (n:=(c:Int)) (e:=.int .i64 (c:Nat)) (by decide) un_I AD5 O O O (hox.ext ey) ky hint hlen (by decide) (by have:=ey.size;have:=hWx.size;omega)) ?_
  rintro vq Wz ⟨hoz,hgz,hwz⟩
  refine .an O O ?_
  refine .region (.mv O O (.add O O O (.an O O ?_)))
  rw [wI (by omega)]
  refine .region (.mv O O (.add O O O (.an O O ?_)))
  rw [wI (by omega)]
  have hlq:(p++[c]).length=q+1:=by simp [hq]
  refine ⟨rfl,(c+1,vq),?_,⟨(hox.ext ey).below hgz (hWx.trans ey) (by have:=ey.size;have:=hWx.size;omega),hlt,?_,?_⟩,by show C-(c+1)<C-c;omega⟩
  ·show ∀ t v,Kx.look [(4,Value.int .i64 (C:Nat)),(5,.slice (some ⟨g,0,none⟩) N cap),(6,vq),(7,.int .i64 ((elim N (rm m) (c+1)).2.length:Nat)),(8,.int .i64 ((c+1:Nat):Int))] t=some v->_
   rw [hst]
   simp only [hlq]
   exact lkA rfl
  ·show OwnL (eInt .i64) 3 w.heap.size (fun _=>False) Wz vq (pInts (elim N (rm m) (c+1)).2)
   rw [hst]
   show OwnL (eInt .i64) 3 w.heap.size (fun _=>False) Wz vq (pInts (p++[c]))
   rw [show pInts (p++[c])=pInts p++[(c:Int)] by simp]
   exact hoz
  ·show FP eV 32 (fun k=>S k/\vq.ownBlock≠some k) Wz g (tabM N C (elim N (rm m) (c+1)).1)
   rw [hst]
   exact (fx.ext ey).grow hgz hwz hne
 rintro u W ⟨hW,ho,fp⟩
 have hpl:(redP m).length<=N:=by have:=(Q5 m).len;rwa [hN] at this
 have hMW:eM.R S W (.slice (some ⟨g,0,none⟩) N cap) (tabM N C (redF m)):=by
  have:=fp.toR (c:=cap) (hsz:=by decide) (up g hgB) (by rw [A4];exact hcap) (by rw [A4];omega)
  rwa [A4] at this
 refine .sr (.mv O O (.mv O O (.cut 0 (redP m).length un_M ty_V O O hMW O ⟨_,rfl⟩ (Nat.zero_le _) (by rw [A4];exact hpl) fun v3 h3=>.mv O O (.asg O O (.an O O (.ret ?_))))))
 rw [List.drop_zero,BK5 hpl] at h3
 refine .plain [_,_] Tryz.results153 ⟨rfl,rfl,trivial⟩ ⟨hW,_,_,rfl,?_,ho.toR (fun k hk=>up k hk) (fun _ h=>h.elim)⟩
 unfold redM
 rw [hCc]
 exact h3
end Go.Proofs.YtggegpiffjbngaaGreat
