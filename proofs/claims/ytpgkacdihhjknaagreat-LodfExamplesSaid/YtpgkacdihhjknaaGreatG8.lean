/-
  What the claim leans on.
-/
import Derived.Test.YtpgkacdihhjknaaGreatG7
set_option linter.unusedVariables false
namespace Go.Kx
open Go Go.RowKit
theorem BL2 {w w':World} {b n base:Nat} {t:TypeId} {vs:List Value} {ls:List LnV} (hn:New w w' b t (cellsOf vs).toArray) (hb:base<=w.heap.size) (hl:ls.length=n) (hm:n<=1000) (h:Els eL (fun _=>False) w vs ls):OwnL eL t base (fun _=>False) w' (.slice (some ⟨b,0,none⟩) n n) ls:=by
 subst hl
 obtain ⟨_,hk,hb',_⟩:=hn
 have hs:∀ e∈vs,e.cells.size=4:=fun e he=>by
  obtain ⟨i,hi⟩:=List.mem_iff_getElem?.1 he
  have hil:=(List.getElem?_eq_some_iff.1 hi).1
  have hg:=List.getElem?_eq_getElem (h.1▸hil:i<ls.length)
  exact eL.csz (h.2 i e _ hi hg)
 have hc:=B6 (sz:=4) vs hs
 refine ⟨vs,⟨by rw [hc,h.1];rfl,.inr ⟨b,ls.length,_,rfl,by omega,hk,Nat.le_refl _,by simp only [maxLen];omega,?_,?_⟩⟩,h.1,fun i e x h1 h2=>?_⟩
 ·rw [List.size_toArray,hc,h.1];rfl
 ·show List.take (ls.length*4) (cellsOf vs).toArray.toList=_
  rw [List.take_of_length_le]
  show (cellsOf vs).length<=_
  rw [hc,h.1];exact Nat.le_refl _
 ·have hx:=h.2 i e x h1 h2
  obtain ⟨rfl,h3⟩:=hx
  exact ⟨rfl,h3⟩
end Go.Kx
namespace Go.Proofs.YtpgkacdihhjknaaGreat
open Go Go.Kx Go.RowKit
theorem prt_N1 {b:Int} {s:Value}:prtOf Tryz.prog 24 #[.int .i64 b,s] 1=some s:=by kernel_rfl
theorem BC4 {a b c:Int}:bldOf Tryz.prog 53 [(0,.int .i64 a),(1,.int .i64 b),(2,.int .i64 c)]=some #[.int .i64 a,.int .i64 b,.int .i64 c,.int .i64 0]:=by kernel_rfl
theorem bsl_Ls1 {a b c d:Value}:bslOf Tryz.prog 22 1 [(0,.agg #[a,b,c,d])]=some (53,#[a,b,c,d]):=by kernel_rfl
theorem bsl_Ls2 {a b c d a' b' c' d':Value}:bslOf Tryz.prog 22 2 [(0,.agg #[a,b,c,d]),(1,.agg #[a',b',c',d'])]=some (53,#[a,b,c,d,a',b',c',d']):=by kernel_rfl
theorem bsl_L4 {x y z u:Int}:bslOf Tryz.prog 117 4 [(0,.int .i64 x),(1,.int .i64 y),(2,.int .i64 z),(3,.int .i64 u)]=some (2,#[.int .i64 x,.int .i64 y,.int .i64 z,.int .i64 u]):=by kernel_rfl
theorem bsl_I2c {x y:Int}:bslOf Tryz.prog 25 2 [(0,.int .i64 x),(1,.int .i64 y)]=some (3,#[.int .i64 x,.int .i64 y]):=by kernel_rfl
theorem tab3:(List.range net3.ls.length).map (rowL net3 [])=[intsV [-1,-1,1],intsV [-1,-1,1],intsV [1,1,-1]]:=by
 show [rowL net3 [] 0,rowL net3 [] 1,rowL net3 [] 2]=_
 have h:∀ k,k<3->rowL net3 [] k=intsV (wlo3.getD k []):=fun k hk=>by
  unfold rowL
  rw [if_pos (lk3k hk)]
  exact loV3k hk
 rw [h 0 (by decide),h 1 (by decide),h 2 (by decide)];rfl
theorem tab32:(List.range net3.ls.length).map (rowL net3 [2])=[[],[],[]]:=by
 show [rowL net3 [2] 0,rowL net3 [2] 1,rowL net3 [2] 2]=_
 have h:∀ k,k<3->rowL net3 [2] k=[]:=fun k hk=>by
  unfold rowL
  rw [if_neg (lk32k hk)]
 rw [h 0 (by decide),h 1 (by decide),h 2 (by decide)]
theorem vk43:vk 4 x43:=fun q hq=>by
 have h:∀ r:Rat,r.num.natAbs<4294967296 ^ 4->r.den<4294967296 ^ 4->qk 4 (qc r):=fun r h1 h2=>AK9 ⟨h1,h2⟩
 unfold x43 at hq
 rcases List.mem_cons.1 hq with rfl | hq
 ·exact h _ (by decide +kernel) (by decide +kernel)
 ·rw [List.mem_singleton.1 hq];exact h _ (by decide +kernel) (by decide +kernel)
theorem Ag0 {w:World}:CR Tryz.prog 41 #[] w (fun v W=>∃ s,v=.agg #[.int .i64 3,s]/\OwnL eL 53 w.heap.size (fun _=>False) W s net3.ls):=by
 refine enter Tryz.func41 O Tryz.ntmps41 O ?_
 refine .sr (.alloc O AS4 fun w1 b0 n1=>.nil (.sr (.bld _ O O AE0 (.bld _ O O AE0 (.bld _ O O AE0 (.bsl _ O O BC2 fun w2 b4 n2=>.bld _ O O Ae2 ?_))))))
 obtain ⟨e1,k0,hb0,hs1⟩:=n1
 have hz:=e1.size
 have hl:eLs.R (fun k=>k≠b0) w2 (.slice (some ⟨b4,0,none⟩) 3 3) net3.ls:=AN8 (E:=eL) [_,_,_] net3.ls n2 (fun k hk=>by omega) O O (by decide) (Els.snoc (Els.snoc (Els.snoc Els.nil (ln_R (by decide))) (ln_R (by decide))) (ln_R (by decide)))
 have ho:OwnL eL 53 w.heap.size (fun _=>False) w2 (.slice (some ⟨b4,0,none⟩) 3 3) net3.ls:=BL2 (vs:=[_,_,_]) n2 hz O (by decide) (Els.snoc (Els.snoc (Els.snoc Els.nil (ln_R (by decide))) (ln_R (by decide))) (ln_R (by decide)))
 have hn:eN.R (fun k=>k≠b0) w2 (.agg #[.int .i64 3,.slice (some ⟨b4,0,none⟩) 3 3]) net3:=⟨_,rfl,hl,E9.2 (by decide)⟩
 have k2:=k0.ext n2.1
 refine .storeA (E:=eN) ty_N O O k2 O O hn (fun h=>h O) fun w3 k3 u3 h3=>.nil (.ret ?_)
 exact .cell (E:=eN) Tryz.results41 O ty_N O O k3 h3 ⟨u3.below (e1.trans n2.1) (by omega),_,rfl,ho.upd u3 k2 (by decide) (fun h=>h)⟩
set_option maxRecDepth 8000 in
theorem AG7 {w:World}:CR Tryz.prog 10 #[] w (Is (.bool true)):=by
 refine enter Tryz.func10 O Tryz.ntmps10 O (.beg (.go O ?_))
 refine .call _ O Ag9 O Ag1 fun v1 w1 e1 h1=>?_
 subst h1
 refine .go O (.call _ O AA6 O AL3 fun vn w2 e2 hn=>.go O (.alloc O AS4 fun w3 b1 n3=>?_))
 obtain ⟨e3,k1,hb1,hs3⟩:=n3
 refine .storeA (E:=eN) (S:=fun k=>k<w2.heap.size) ty_N O O k1 O O (ER.ext eN (eN.mono (fun k _ h=>h.2) (ER.lt eN hn)) e3) (fun h=>by omega) fun w4 k1 u4 hn=>?_
 have hnv:=shpA (E:=eN) O hn
 have hnc:=eN.csz hn
 have hn:eN.R (fun _=>True) w4 vn net3:=eN.mono (fun _ _ _=>trivial) hn
 have x4:Ext w w4:=e1.trans (u4.below (e2.trans e3) (by have:=e2.size;omega))
 refine .go O (.call _ O AA6 O Ag0 fun v5 w5 e5 h5=>?_)
 obtain ⟨s5,rfl,ho5⟩:=h5
 refine .go O (.fd O O prt_N1 (.go O (.bld _ O O AE0 (.go O (.bsl _ O O bsl_Ls1 fun w6 b6 n6=>?_)))))
 obtain ⟨e6,k6,hb6,hs6⟩:=n6
 have ho6:=ho5.ext e6
 refine .go O (.gv O O (AA2 (E:=eL) (base:=w4.heap.size) (e:=.agg #[.int .i64 0,.int .i64 1,.int .i64 10,.int .i64 1]) (n:=⟨0,1,10,1⟩) (by decide) M4 BB0 O O O ho6 k6 (ln_R (by decide)) (by decide) (by decide) (by have:=e5.size;have:=e6.size;omega)) ?_)
 rintro v7 w7 ⟨hO7,g7⟩
 have e47:Ext w4 w7:=OwnL.below ho6 g7 (e5.trans e6) (by have:=e5.size;have:=e6.size;omega)
 obtain ⟨a7,c7,rfl⟩:=hO7.slice
 refine .go O (.bld _ O O Ae2 (.go O (.alloc O AS4 fun w8 b2 n8=>?_)))
 obtain ⟨e8,k2,hb2,hs8⟩:=n8
 have hl8:eLs.R (fun k=>k<w7.heap.size) w8 (.slice a7 4 c7) net4.ls:=ER.ext eLs (eLs.mono (fun k _ h=>h.2) (ER.lt eLs (hO7.toR (S:=fun _=>True) (fun _ _=>trivial) (fun _ h=>h.elim)))) e8
 refine .storeA (E:=eN) (z:=net4) (S:=fun k=>k<w7.heap.size) ty_N O O k2 O O ⟨_,rfl,hl8,E9.2 (by decide)⟩ (fun h=>by omega) fun w9 k2 u9 hf9=>?_
 have hfv:=shpA (E:=eN) O hf9
 have hfc:=eN.csz hf9
 have hf:eN.R (fun _=>True) w9 _ net4:=eN.mono (fun _ _ _=>trivial) hf9
 have e49:Ext w4 w9:=u9.below (e47.trans e8) (by have:=e47.size;omega)
 have k1:=k1.ext e49
 have hn:=hn.ext e49
 have x9:=x4.trans e49
 refine .go O (.bld _ O O BC4 (.go O (.bld _ O O BC4 (.go O (.bsl _ O O bsl_Ls2 fun w10 b10 n10=>?_)))))
 have e10:=n10.1
 have hl10:eLs.R (fun _=>True) w10 (.slice (some ⟨b10,0,none⟩) 2 2) net2.ls:=AN8 (E:=eL) [_,_] net2.ls n10 upT O O (by decide) (Els.snoc (Els.snoc Els.nil (ln_R (by decide))) (ln_R (by decide)))
 refine .go O (.bld _ O O Ae2 (.go O (.alloc O AS4 fun w11 b3 n11=>?_)))
 obtain ⟨e11,k3,hb3,hs11⟩:=n11
 have hl11:=ER.ext eLs (ER.lt eLs hl10) e11
 refine .storeA (E:=eN) (z:=net2) (S:=fun k=>True/\k<w10.heap.size) ty_N O O k3 O O ⟨_,rfl,hl11,E9.2 (by decide)⟩ (fun h=>by omega) fun w12 k3 u12 ht12=>?_
 have ht:eN.R (fun _=>True) w12 (.agg #[.int .i64 2,.slice (some ⟨b10,0,none⟩) 2 2]) net2:=eN.mono (fun _ _ _=>trivial) ht12
 have e9':Ext w9 w12:=u12.below (e10.trans e11) (by have:=e10.size;omega)
 have k1:=k1.ext e9'
 have k2:=k2.ext e9'
 have hn:=hn.ext e9'
 have hf:=hf.ext e9'
 have x:=x9.trans e9'
 refine .go O (.bld _ O O bld_N0 ?_)
 refine .go O (.call _ O F1 O (E8 (o:=[]) (line:=0) (S:=fun _=>True) (T0:=fun _=>True) upT upT (show eN.R (fun _=>True) _ _ netE from ⟨_,rfl,RL.nil,E9.2 (by decide)⟩) RL.nil) fun v w1 e h=>?_)
 obtain ⟨_,ve,rfl,_,he⟩:=h
 replace he:ve=.int .i64 (lkE netE [] 0):=he
 rw [lkX_a] at he
 subst he
 have k1:=k1.ext e
 have k2:=k2.ext e
 have k3:=k3.ext e
 have hn:=hn.ext e
 have hf:=hf.ext e
 have ht:=ht.ext e
 have x:=x.trans e
 refine .go O (.ldA ty_N O O k1 hnc ?_)
 rw [<-hnv]
 refine .go O (.bsl _ O O AR2 fun w1 b1 n1=>?_)
 have ho1:eI.R (fun _=>True) w1 (.slice (some ⟨b1,0,none⟩) 1 1) [9]:=L9 [9] 1 n1 upT O O (by decide) (by decide)
 have k1:=k1.ext n1.1
 have k2:=k2.ext n1.1
 have k3:=k3.ext n1.1
 have hn:=hn.ext n1.1
 have hf:=hf.ext n1.1
 have ht:=ht.ext n1.1
 have x:=x.trans n1.1
 refine .go O (.call _ O F1 O (E8 (o:=[9]) (line:=0) (S:=fun _=>True) (T0:=fun _=>True) upT upT hn ho1) fun v w1 e h=>?_)
 obtain ⟨_,ve,rfl,_,he⟩:=h
 replace he:ve=.int .i64 (lkE net3 [9] 0):=he
 rw [lkX_b] at he
 subst he
 have k1:=k1.ext e
 have k2:=k2.ext e
 have k3:=k3.ext e
 have hn:=hn.ext e
 have hf:=hf.ext e
 have ht:=ht.ext e
 have x:=x.trans e
 refine .go O (.ldA ty_N O O k1 hnc ?_)
 rw [<-hnv]
 refine .go O (.call _ O F1 O (E8 (o:=[]) (line:=3) (S:=fun _=>True) (T0:=fun _=>True) upT upT hn RL.nil) fun v w1 e h=>?_)
 obtain ⟨_,ve,rfl,_,he⟩:=h
 replace he:ve=.int .i64 (lkE net3 [] 3):=he
 rw [lkX_c] at he
 subst he
 have k1:=k1.ext e
 have k2:=k2.ext e
 have k3:=k3.ext e
 have hn:=hn.ext e
 have hf:=hf.ext e
 have ht:=ht.ext e
 have x:=x.trans e
 refine .go O (.ldA ty_N O O k1 hnc ?_)
 rw [<-hnv]
 refine .go O (.call _ O F1 O (E8 (o:=[]) (line:=(-1)) (S:=fun _=>True) (T0:=fun _=>True) upT upT hn RL.nil) fun v w1 e h=>?_)
 obtain ⟨_,ve,rfl,_,he⟩:=h
 replace he:ve=.int .i64 (lkE net3 [] (-1)):=he
 rw [lkX_d] at he
 subst he
 have k1:=k1.ext e
 have k2:=k2.ext e
 have k3:=k3.ext e
 have hn:=hn.ext e
 have hf:=hf.ext e
 have ht:=ht.ext e
 have x:=x.trans e
 refine .go O (.gv O O ob_Lz ?_)
 rintro v10 w10 ⟨d10,g10⟩
 replace g10:eLs.R (fun _=>True) w10 v10 (List.replicate 11 lz):=g10 w10 (Ext.refl _)
 have k1:=k1.ext d10
 have k2:=k2.ext d10
 have k3:=k3.ext d10
 have hn:=hn.ext d10
 have hf:=hf.ext d10
 have ht:=ht.ext d10
 have x:=x.trans d10
 have g10':=g10
 obtain ⟨a10,c10,rfl,_⟩:=RL.len g10'
 refine .go O (.bld _ O O Ae2 ?_)
 refine .go O (.call _ O F1 O (E8 (o:=[]) (line:=0) (S:=fun _=>True) (T0:=fun _=>True) upT upT (show eN.R (fun _=>True) _ _ net11 from ⟨_,rfl,g10,E9.2 (by decide)⟩) RL.nil) fun v w1 e h=>?_)
 obtain ⟨_,ve,rfl,_,he⟩:=h
 replace he:ve=.int .i64 (lkE net11 [] 0):=he
 rw [lkX_e] at he
 subst he
 have k1:=k1.ext e
 have k2:=k2.ext e
 have k3:=k3.ext e
 have hn:=hn.ext e
 have hf:=hf.ext e
 have ht:=ht.ext e
 have x:=x.trans e
 refine .goC O ?_
 refine .par follows 8 [.inl vn,.inr (eI.at (fun _=>True) [1,0,0,-1]),.inr (eV.at (fun _=>True) (intsV [1,0,0,-1])),.inr (Two (eV.at (fun _=>True) []) (Is (.int .i64 5))),.inr (Two (eV.at (fun _=>True) []) (Is (.int .i64 5))),.inr (eV.at (fun _=>True) []),.inl (.int .i64 5),.inr (eV.at (fun _=>True) [])] [[],[],[(74,1)],[(73,0),(75,2)],[(76,3)],[(72,4)],[(72,4)],[(77,5)]] (by kernel_rfl) ⟨
  fun w e=>((B9 ty_N O (k1.ext e) hnc).eq hnv.symm).ob,
  fun w e=>BA2 (te:=2) (ps:=[(0,.const (.int .i64 (1))),(1,.const (.int .i64 (0))),(2,.const (.int .i64 (0))),(3,.const (.int .i64 (-1)))]) [(0,.int .i64 (1)),(1,.int .i64 (0)),(2,.int .i64 (0)),(3,.int .i64 (-1))] [1,0,0,-1] O (by kernel_rfl) (by decide) (by decide) (by decide),
  fun w e x1 hx1=>(A2 _ H9 O (H7 hx1 (by decide))).ob (A6 _ _ _),
  fun w e x2 hx2=>(by have:=O3 (L:=4) (x:=(intsV [1,0,0,-1])) (vo:=.slice none 0 0) (o:=[]) (line:=0) (S:=fun _=>True) (T0:=fun _=>True) upT upT (ER.ext eN hn e) RL.nil hx2 (fun q hq=>(AZ1 [1,0,0,-1] (by decide) q hq).mono (by decide)) (by decide) (by decide);rw [afX_f,if_neg (by decide)] at this;exact (A2 _ O9 O this).ob (G9 (A6 _ _ _) (L7 _))),
  fun w e x3 hx3=>G1 (v_mv O) hx3 (G9 (A6 _ _ _) (L7 _)),
  fun w e x4 hx4=>by
   obtain ⟨p1,q1,rfl,hp1,hq1⟩:=hx4
   exact G1 (v_ex O O) hp1 (A6 _ _ _),
  fun w e x4 hx4=>by
   obtain ⟨p1,q1,rfl,hp1,hq1⟩:=hx4
   exact ((v_ex O O).eq hq1).ob,
  fun w e x5 hx5=>G1 (v_as O) hx5 (A6 _ _ _),trivial⟩ ?_
 intro P11 p11 y11_1 hy11_1 y11_2 hy11_2 y11_3 hy11_3 y11_4 hy11_4 y11_5 hy11_5 y11_7 hy11_7
 have k1:=k1.ext p11
 have k2:=k2.ext p11
 have k3:=k3.ext p11
 have hn:=hn.ext p11
 have hf:=hf.ext p11
 have ht:=ht.ext p11
 have x:=x.trans p11
 refine .goC O ?_
 refine .par follows 8 [.inl vn,.inr (eI.at (fun _=>True) [1]),.inr (eV.at (fun _=>True) (intsV [1])),.inr (Two (eV.at (fun _=>True) []) (Is (.int .i64 10))),.inr (Two (eV.at (fun _=>True) []) (Is (.int .i64 10))),.inr (eV.at (fun _=>True) []),.inl (.int .i64 10),.inr (eV.at (fun _=>True) [])] [[],[],[(81,1)],[(80,0),(82,2)],[(83,3)],[(79,4)],[(79,4)],[(84,5)]] (by kernel_rfl) ⟨
  fun w e=>((B9 ty_N O (k1.ext e) hnc).eq hnv.symm).ob,
  fun w e=>BA2 (te:=2) (ps:=[(0,.const (.int .i64 (1)))]) [(0,.int .i64 (1))] [1] O (by kernel_rfl) (by decide) (by decide) (by decide),
  fun w e x1 hx1=>(A2 _ H9 O (H7 hx1 (by decide))).ob (A6 _ _ _),
  fun w e x2 hx2=>(by have:=O3 (L:=4) (x:=(intsV [1])) (vo:=.slice none 0 0) (o:=[]) (line:=0) (S:=fun _=>True) (T0:=fun _=>True) upT upT (ER.ext eN hn e) RL.nil hx2 (fun q hq=>(AZ1 [1] (by decide) q hq).mono (by decide)) (by decide) (by decide);rw [afX_g,if_neg (by decide)] at this;exact (A2 _ O9 O this).ob (G9 (A6 _ _ _) (L7 _))),
  fun w e x3 hx3=>G1 (v_mv O) hx3 (G9 (A6 _ _ _) (L7 _)),
  fun w e x4 hx4=>by
   obtain ⟨p1,q1,rfl,hp1,hq1⟩:=hx4
   exact G1 (v_ex O O) hp1 (A6 _ _ _),
  fun w e x4 hx4=>by
   obtain ⟨p1,q1,rfl,hp1,hq1⟩:=hx4
   exact ((v_ex O O).eq hq1).ob,
  fun w e x5 hx5=>G1 (v_as O) hx5 (A6 _ _ _),trivial⟩ ?_
 intro P12 p12 y12_1 hy12_1 y12_2 hy12_2 y12_3 hy12_3 y12_4 hy12_4 y12_5 hy12_5 y12_7 hy12_7
 have k1:=k1.ext p12
 have k2:=k2.ext p12
 have k3:=k3.ext p12
 have hn:=hn.ext p12
 have hf:=hf.ext p12
 have ht:=ht.ext p12
 have x:=x.trans p12
 refine .goC O ?_
 refine .par follows 9 [.inl vn,.inr (eI.at (fun _=>True) [2]),.inr (eI.at (fun _=>True) [1,0,0,-1]),.inr (eV.at (fun _=>True) (intsV [1,0,0,-1])),.inr (Two (eV.at (fun _=>True) []) (Is (.int .i64 11))),.inr (Two (eV.at (fun _=>True) []) (Is (.int .i64 11))),.inr (eV.at (fun _=>True) []),.inl (.int .i64 11),.inr (eV.at (fun _=>True) [])] [[],[],[],[(89,2)],[(87,0),(88,1),(90,3)],[(91,4)],[(86,5)],[(86,5)],[(92,6)]] (by kernel_rfl) ⟨
  fun w e=>((B9 ty_N O (k1.ext e) hnc).eq hnv.symm).ob,
  fun w e=>BA2 (te:=3) (ps:=[(0,.const (.int .i64 (2)))]) [(0,.int .i64 (2))] [2] O (by kernel_rfl) (by decide) (by decide) (by decide),
  fun w e=>BA2 (te:=2) (ps:=[(0,.const (.int .i64 (1))),(1,.const (.int .i64 (0))),(2,.const (.int .i64 (0))),(3,.const (.int .i64 (-1)))]) [(0,.int .i64 (1)),(1,.int .i64 (0)),(2,.int .i64 (0)),(3,.int .i64 (-1))] [1,0,0,-1] O (by kernel_rfl) (by decide) (by decide) (by decide),
  fun w e x2 hx2=>(A2 _ H9 O (H7 hx2 (by decide))).ob (A6 _ _ _),
  fun w e x1 hx1 x3 hx3=>(by have:=O3 (L:=4) (x:=(intsV [1,0,0,-1])) (o:=[2]) (line:=0) (S:=fun _=>True) (T0:=fun _=>True) upT upT (ER.ext eN hn e) hx1 hx3 (fun q hq=>(AZ1 [1,0,0,-1] (by decide) q hq).mono (by decide)) (by decide) (by decide);rw [afX_h,if_neg (by decide)] at this;exact (A2 _ O9 O this).ob (G9 (A6 _ _ _) (L7 _))),
  fun w e x4 hx4=>G1 (v_mv O) hx4 (G9 (A6 _ _ _) (L7 _)),
  fun w e x5 hx5=>by
   obtain ⟨p1,q1,rfl,hp1,hq1⟩:=hx5
   exact G1 (v_ex O O) hp1 (A6 _ _ _),
  fun w e x5 hx5=>by
   obtain ⟨p1,q1,rfl,hp1,hq1⟩:=hx5
   exact ((v_ex O O).eq hq1).ob,
  fun w e x6 hx6=>G1 (v_as O) hx6 (A6 _ _ _),trivial⟩ ?_
 intro P13 p13 y13_1 hy13_1 y13_2 hy13_2 y13_3 hy13_3 y13_4 hy13_4 y13_5 hy13_5 y13_6 hy13_6 y13_8 hy13_8
 have k1:=k1.ext p13
 have k2:=k2.ext p13
 have k3:=k3.ext p13
 have hn:=hn.ext p13
 have hf:=hf.ext p13
 have ht:=ht.ext p13
 have x:=x.trans p13
 refine .go O (.ldA ty_N O O k1 hnc ?_)
 rw [<-hnv]
 refine .go O (.bsl _ O O bsl_I2c fun w1 b1 n1=>?_)
 have ho1:eI.R (fun _=>True) w1 (.slice (some ⟨b1,0,none⟩) 2 2) [1,1]:=L9 [1,1] 2 n1 upT O O (by decide) (by decide)
 have k1:=k1.ext n1.1
 have k2:=k2.ext n1.1
 have k3:=k3.ext n1.1
 have hn:=hn.ext n1.1
 have hf:=hf.ext n1.1
 have ht:=ht.ext n1.1
 have x:=x.trans n1.1
 refine .go O (.call _ O Am9 O (Am3 (o:=[1,1]) hn ho1) fun v w1 e h=>?_)
 obtain ⟨vti,ve,rfl,hti,he⟩:=h
 replace he:ve=.int .i64 (outE net3 [1,1]):=he
 rw [out3_11] at he
 subst he
 have k1:=k1.ext e
 have k2:=k2.ext e
 have k3:=k3.ext e
 have hn:=hn.ext e
 have hf:=hf.ext e
 have ht:=ht.ext e
 have x:=x.trans e
 refine .go O (.ldA ty_N O O k1 hnc ?_)
 rw [<-hnv]
 refine .go O (.call _ O Am9 O (Am3 (o:=[]) hn RL.nil) fun v w1 e h=>?_)
 obtain ⟨vtm,ve,rfl,htm,he⟩:=h
 replace he:ve=.int .i64 (outE net3 []):=he
 rw [ok3] at he
 subst he
 replace htm:eM.R (fun _=>True) w1 vtm (if outE net3 []=0 then (List.range net3.ls.length).map (rowL net3 []) else []):=htm
 rw [if_pos ok3,tab3] at htm
 have k1:=k1.ext e
 have k2:=k2.ext e
 have k3:=k3.ext e
 have hn:=hn.ext e
 have hf:=hf.ext e
 have ht:=ht.ext e
 have x:=x.trans e
 refine .go O (.ldA ty_N O O k1 hnc ?_)
 rw [<-hnv]
 refine .go O (.bsl _ O O AR2 fun w1 b1 n1=>?_)
 have ho1:eI.R (fun _=>True) w1 (.slice (some ⟨b1,0,none⟩) 1 1) [2]:=L9 [2] 1 n1 upT O O (by decide) (by decide)
 have k1:=k1.ext n1.1
 have k2:=k2.ext n1.1
 have k3:=k3.ext n1.1
 have hn:=hn.ext n1.1
 have hf:=hf.ext n1.1
 have ht:=ht.ext n1.1
 have x:=x.trans n1.1
 have htm:=ER.ext eM htm n1.1
 refine .go O (.call _ O Am9 O (Am3 (o:=[2]) hn ho1) fun v w1 e h=>?_)
 obtain ⟨vtz,ve,rfl,htz,he⟩:=h
 replace he:ve=.int .i64 (outE net3 [2]):=he
 rw [Ab5] at he
 subst he
 replace htz:eM.R (fun _=>True) w1 vtz (if outE net3 [2]=0 then (List.range net3.ls.length).map (rowL net3 [2]) else []):=htz
 rw [if_pos Ab5,tab32] at htz
 have k1:=k1.ext e
 have k2:=k2.ext e
 have k3:=k3.ext e
 have hn:=hn.ext e
 have hf:=hf.ext e
 have ht:=ht.ext e
 have x:=x.trans e
 have htm:=ER.ext eM htm e
 refine .goC O ?_
 refine .par follows 9 [.inl (.agg #[.int .i64 2,.slice (some ⟨b10,0,none⟩) 2 2]),.inr (eQ.at (fun _=>True) (qc (Rat.divInt (4) 3))),.inr (eQ.at (fun _=>True) (qc (Rat.divInt (-4) 3))),.inr (eV.at (fun _=>True) x43),.inr (Two (eV.at (fun _=>True) [qc 0,qc (Rat.divInt (-4) 3)]) (Is (.int .i64 0))),.inr (Two (eV.at (fun _=>True) [qc 0,qc (Rat.divInt (-4) 3)]) (Is (.int .i64 0))),.inr (eV.at (fun _=>True) [qc 0,qc (Rat.divInt (-4) 3)]),.inl (.int .i64 0),.inr (eV.at (fun _=>True) [qc 0,qc (Rat.divInt (-4) 3)])] [[],[],[],[(113,1),(114,2)],[(112,0),(115,3)],[(116,4)],[(111,5)],[(111,5)],[(117,6)]] (by kernel_rfl) ⟨
  fun w e=>(B9 ty_N O (k3.ext e) O).ob,
  fun w e=>(A2 _ AO2 O (AN2 upT (by decide) (by decide))).ob (A6 _ _ _),
  fun w e=>(A2 _ AO2 O (AN2 upT (by decide) (by decide))).ob (A6 _ _ _),
  fun w e x1 hx1 x2 hx2=>ob_V2 hx1 hx2,
  fun w e x3 hx3=>(by have:=O3 (L:=4) (x:=x43) (vo:=.slice none 0 0) (o:=[]) (line:=0) (S:=fun _=>True) (T0:=fun _=>True) upT upT (ER.ext eN ht e) RL.nil hx3 vk43 (by decide) (by decide);rw [afX_l,if_pos rfl,show (0:Int).toNat=0 from rfl,afV43] at this;exact (A2 _ O9 O this).ob (G9 (A6 _ _ _) (L7 _))),
  fun w e x4 hx4=>G1 (v_mv O) hx4 (G9 (A6 _ _ _) (L7 _)),
  fun w e x5 hx5=>by
   obtain ⟨p1,q1,rfl,hp1,hq1⟩:=hx5
   exact G1 (v_ex O O) hp1 (A6 _ _ _),
  fun w e x5 hx5=>by
   obtain ⟨p1,q1,rfl,hp1,hq1⟩:=hx5
   exact ((v_ex O O).eq hq1).ob,
  fun w e x6 hx6=>G1 (v_as O) hx6 (A6 _ _ _),trivial⟩ ?_
 intro P17 p17 y17_1 hy17_1 y17_2 hy17_2 y17_3 hy17_3 y17_4 hy17_4 y17_5 hy17_5 y17_6 hy17_6 y17_8 hy17_8
 have k1:=k1.ext p17
 have k2:=k2.ext p17
 have k3:=k3.ext p17
 have hn:=hn.ext p17
 have hf:=hf.ext p17
 have ht:=ht.ext p17
 have x:=x.trans p17
 have htm:=ER.ext eM htm p17
 have htz:=ER.ext eM htz p17
 refine .go O (.neqF O O O O ?_)
 refine .go O (.neqF O O O O ?_)
 refine .go O (.neqF O O O O ?_)
 refine .go O (.neqF O O O O ?_)
 refine .go O (.neqF O O O O ?_)
 refine .go O (.neqF O O O O ?_)
 refine .go O (.neqF O O O O ?_)
 refine .go O (.neqF O O O O ?_)
 refine .go O (.neqF O O O O ?_)
 refine .go O (.neqF O O O O ?_)
 refine .go O (.neqF O O O O ?_)
 refine .go O (.neqF O O O O (.go O ?_))
 have hx17:=hy17_8
 refine (.bsl _ O O AT9 fun w1 b1 n1=>?_)
 have hl1:eI.R (fun _=>True) w1 (.slice (some ⟨b1,0,none⟩) 3 3) [-1,-1,1]:=L9 [-1,-1,1] 3 n1 upT O O (by decide) (by decide)
 have k1:=k1.ext n1.1
 have k2:=k2.ext n1.1
 have k3:=k3.ext n1.1
 have hn:=hn.ext n1.1
 have hf:=hf.ext n1.1
 have ht:=ht.ext n1.1
 have x:=x.trans n1.1
 have htm:=ER.ext eM htm n1.1
 have htz:=ER.ext eM htz n1.1
 have hx17:=ER.ext eV hx17 n1.1
 refine .go O (.call _ O H9 O (H7 hl1 (by decide)) fun vra w1 e hra=>?_)
 have k1:=k1.ext e
 have k2:=k2.ext e
 have k3:=k3.ext e
 have hn:=hn.ext e
 have hf:=hf.ext e
 have ht:=ht.ext e
 have x:=x.trans e
 have htm:=ER.ext eM htm e
 have htz:=ER.ext eM htz e
 have hx17:=ER.ext eV hx17 e
 refine .go O (.bsl _ O O AT9 fun w1 b1 n1=>?_)
 have hl1:eI.R (fun _=>True) w1 (.slice (some ⟨b1,0,none⟩) 3 3) [-1,-1,1]:=L9 [-1,-1,1] 3 n1 upT O O (by decide) (by decide)
 have k1:=k1.ext n1.1
 have k2:=k2.ext n1.1
 have k3:=k3.ext n1.1
 have hn:=hn.ext n1.1
 have hf:=hf.ext n1.1
 have ht:=ht.ext n1.1
 have x:=x.trans n1.1
 have htm:=ER.ext eM htm n1.1
 have htz:=ER.ext eM htz n1.1
 have hx17:=ER.ext eV hx17 n1.1
 have hra:=ER.ext eV hra n1.1
 refine .go O (.call _ O H9 O (H7 hl1 (by decide)) fun vrb w1 e hrb=>?_)
 have k1:=k1.ext e
 have k2:=k2.ext e
 have k3:=k3.ext e
 have hn:=hn.ext e
 have hf:=hf.ext e
 have ht:=ht.ext e
 have x:=x.trans e
 have htm:=ER.ext eM htm e
 have htz:=ER.ext eM htz e
 have hx17:=ER.ext eV hx17 e
 have hra:=ER.ext eV hra e
 refine .go O (.bsl _ O O AT9 fun w1 b1 n1=>?_)
 have hl1:eI.R (fun _=>True) w1 (.slice (some ⟨b1,0,none⟩) 3 3) [1,1,-1]:=L9 [1,1,-1] 3 n1 upT O O (by decide) (by decide)
 have k1:=k1.ext n1.1
 have k2:=k2.ext n1.1
 have k3:=k3.ext n1.1
 have hn:=hn.ext n1.1
 have hf:=hf.ext n1.1
 have ht:=ht.ext n1.1
 have x:=x.trans n1.1
 have htm:=ER.ext eM htm n1.1
 have htz:=ER.ext eM htz n1.1
 have hx17:=ER.ext eV hx17 n1.1
 have hra:=ER.ext eV hra n1.1
 have hrb:=ER.ext eV hrb n1.1
 refine .go O (.call _ O H9 O (H7 hl1 (by decide)) fun vrc w1 e hrc=>?_)
 have k1:=k1.ext e
 have k2:=k2.ext e
 have k3:=k3.ext e
 have hn:=hn.ext e
 have hf:=hf.ext e
 have ht:=ht.ext e
 have x:=x.trans e
 have htm:=ER.ext eM htm e
 have htz:=ER.ext eM htz e
 have hx17:=ER.ext eV hx17 e
 have hra:=ER.ext eV hra e
 have hrb:=ER.ext eV hrb e
 have hra':=hra
 have hrb':=hrb
 have hrc':=hrc
 obtain ⟨ca,ia,hva,_⟩:=RL.len hra'
 obtain ⟨cb,ib,hvb,_⟩:=RL.len hrb'
 obtain ⟨cc,ic,hvc,_⟩:=RL.len hrc'
 subst hva hvb hvc
 refine .go O (.bsl _ O O BP3 fun w1 b1 n1=>?_)
 have hw:eM.R (fun _=>True) w1 (.slice (some ⟨b1,0,none⟩) 3 3) [intsV [-1,-1,1],intsV [-1,-1,1],intsV [1,1,-1]]:=BO2 [_,_,_] _ n1 upT O O (by decide) (Els.snoc (Els.snoc (Els.snoc Els.nil hra) hrb) hrc)
 have k1:=k1.ext n1.1
 have k2:=k2.ext n1.1
 have k3:=k3.ext n1.1
 have hn:=hn.ext n1.1
 have hf:=hf.ext n1.1
 have ht:=ht.ext n1.1
 have x:=x.trans n1.1
 have htm:=ER.ext eM htm n1.1
 have htz:=ER.ext eM htz n1.1
 have hx17:=ER.ext eV hx17 n1.1
 refine .go O (.call _ O AS1 O (AQ2 htm hw) fun v w1 e h=>?_)
 subst h
 have k1:=k1.ext e
 have k2:=k2.ext e
 have k3:=k3.ext e
 have hn:=hn.ext e
 have hf:=hf.ext e
 have ht:=ht.ext e
 have x:=x.trans e
 have htm:=ER.ext eM htm e
 have htz:=ER.ext eM htz e
 have hx17:=ER.ext eV hx17 e
 refine .go O (.bsl _ O O BP3 fun w1 b1 n1=>?_)
 have hw:eM.R (fun _=>True) w1 (.slice (some ⟨b1,0,none⟩) 3 3) [[],[],[]]:=BO2 [_,_,_] _ n1 upT O O (by decide) (Els.snoc (Els.snoc (Els.snoc Els.nil RL.nil) RL.nil) RL.nil)
 have k1:=k1.ext n1.1
 have k2:=k2.ext n1.1
 have k3:=k3.ext n1.1
 have hn:=hn.ext n1.1
 have hf:=hf.ext n1.1
 have ht:=ht.ext n1.1
 have x:=x.trans n1.1
 have htm:=ER.ext eM htm n1.1
 have htz:=ER.ext eM htz n1.1
 have hx17:=ER.ext eV hx17 n1.1
 refine .go O (.call _ O AS1 O (AQ2 htz hw) fun v w1 e h=>?_)
 subst h
 have k1:=k1.ext e
 have k2:=k2.ext e
 have k3:=k3.ext e
 have hn:=hn.ext e
 have hf:=hf.ext e
 have ht:=ht.ext e
 have x:=x.trans e
 have htm:=ER.ext eM htm e
 have htz:=ER.ext eM htz e
 have hx17:=ER.ext eV hx17 e
 refine .go O (.ldA ty_N O O k3 O ?_)
 refine .go O (.bsl _ O O BP5 fun w1 b1 n1=>?_)
 have hl1:eI.R (fun _=>True) w1 (.slice (some ⟨b1,0,none⟩) 2 2) [-1,-1]:=L9 [-1,-1] 2 n1 upT O O (by decide) (by decide)
 have k1:=k1.ext n1.1
 have k2:=k2.ext n1.1
 have k3:=k3.ext n1.1
 have hn:=hn.ext n1.1
 have hf:=hf.ext n1.1
 have ht:=ht.ext n1.1
 have x:=x.trans n1.1
 have htm:=ER.ext eM htm n1.1
 have htz:=ER.ext eM htz n1.1
 have hx17:=ER.ext eV hx17 n1.1
 refine .go O (.call _ O Z2 O (X9 (o:=[]) (line:=0) ht RL.nil hl1 (by decide) (lk2k (k:=0) (by decide)) (loV2k (k:=0) (by decide))) fun v w1 e h=>?_)
 subst h
 have k1:=k1.ext e
 have k2:=k2.ext e
 have k3:=k3.ext e
 have hn:=hn.ext e
 have hf:=hf.ext e
 have ht:=ht.ext e
 have x:=x.trans e
 have htm:=ER.ext eM htm e
 have htz:=ER.ext eM htz e
 have hx17:=ER.ext eV hx17 e
 refine .go O (.ldA ty_N O O k3 O ?_)
 refine .go O (.bsl _ O O BP5 fun w1 b1 n1=>?_)
 have hl1:eI.R (fun _=>True) w1 (.slice (some ⟨b1,0,none⟩) 2 2) [-1,-1]:=L9 [-1,-1] 2 n1 upT O O (by decide) (by decide)
 have k1:=k1.ext n1.1
 have k2:=k2.ext n1.1
 have k3:=k3.ext n1.1
 have hn:=hn.ext n1.1
 have hf:=hf.ext n1.1
 have ht:=ht.ext n1.1
 have x:=x.trans n1.1
 have htm:=ER.ext eM htm n1.1
 have htz:=ER.ext eM htz n1.1
 have hx17:=ER.ext eV hx17 n1.1
 refine .go O (.call _ O Z2 O (X9 (o:=[]) (line:=1) ht RL.nil hl1 (by decide) (lk2k (k:=1) (by decide)) (loV2k (k:=1) (by decide))) fun v w1 e h=>?_)
 subst h
 have k1:=k1.ext e
 have k2:=k2.ext e
 have k3:=k3.ext e
 have hn:=hn.ext e
 have hf:=hf.ext e
 have ht:=ht.ext e
 have x:=x.trans e
 have htm:=ER.ext eM htm e
 have htz:=ER.ext eM htz e
 have hx17:=ER.ext eV hx17 e
 refine .go O (.ldA ty_N O O k2 hfc ?_)
 rw [<-hfv]
 refine .go O (.bsl _ O O AR2 fun w1 b1 n1=>?_)
 have ho1:eI.R (fun _=>True) w1 (.slice (some ⟨b1,0,none⟩) 1 1) [3]:=L9 [3] 1 n1 upT O O (by decide) (by decide)
 have k1:=k1.ext n1.1
 have k2:=k2.ext n1.1
 have k3:=k3.ext n1.1
 have hn:=hn.ext n1.1
 have hf:=hf.ext n1.1
 have ht:=ht.ext n1.1
 have x:=x.trans n1.1
 have htm:=ER.ext eM htm n1.1
 have htz:=ER.ext eM htz n1.1
 have hx17:=ER.ext eV hx17 n1.1
 refine .go O (.bsl _ O O bsl_L4 fun w1 b1 n1=>?_)
 have hl1:eI.R (fun _=>True) w1 (.slice (some ⟨b1,0,none⟩) 4 4) [-1,-1,1,0]:=L9 [-1,-1,1,0] 4 n1 upT O O (by decide) (by decide)
 have k1:=k1.ext n1.1
 have k2:=k2.ext n1.1
 have k3:=k3.ext n1.1
 have hn:=hn.ext n1.1
 have hf:=hf.ext n1.1
 have ht:=ht.ext n1.1
 have x:=x.trans n1.1
 have htm:=ER.ext eM htm n1.1
 have htz:=ER.ext eM htz n1.1
 have hx17:=ER.ext eV hx17 n1.1
 have ho1:=ER.ext eI ho1 n1.1
 refine .go O (.call _ O Z2 O (X9 (o:=[3]) (line:=0) hf ho1 hl1 (by decide) lk4 loV4) fun v w1 e h=>?_)
 subst h
 have k1:=k1.ext e
 have k2:=k2.ext e
 have k3:=k3.ext e
 have hn:=hn.ext e
 have hf:=hf.ext e
 have ht:=ht.ext e
 have x:=x.trans e
 have htm:=ER.ext eM htm e
 have htz:=ER.ext eM htz e
 have hx17:=ER.ext eV hx17 e
 refine .go O (.bld _ O O Ae1 (.go O (.call _ O AO2 O (AN2 (n := -4) (d:=3) upT (by decide) (by decide)) fun v w1 e h=>?_)))
 have k1:=k1.ext e
 have k2:=k2.ext e
 have k3:=k3.ext e
 have hn:=hn.ext e
 have hf:=hf.ext e
 have ht:=ht.ext e
 have x:=x.trans e
 have htm:=ER.ext eM htm e
 have htz:=ER.ext eM htz e
 have hx17:=ER.ext eV hx17 e
 have h':=h
 obtain ⟨s1,t1,rfl,_,_⟩:=h'
 refine .go O (.bsl _ O O BP2 fun w1 b1 n1=>?_)
 have hw:eV.R (fun _=>True) w1 (.slice (some ⟨b1,0,none⟩) 2 2) [qc 0,qc (Rat.divInt (-4) 3)]:=AN8 (E:=eQ) [_,_] [qc 0,qc (Rat.divInt (-4) 3)] n1 upT O O (by decide) (Els.snoc (Els.snoc Els.nil (show eQ.R (fun _=>True) _ zq (qc 0) from (show qc 0=q0 from Q9)▸zq_R)) h)
 have k1:=k1.ext n1.1
 have k2:=k2.ext n1.1
 have k3:=k3.ext n1.1
 have hn:=hn.ext n1.1
 have hf:=hf.ext n1.1
 have ht:=ht.ext n1.1
 have x:=x.trans n1.1
 have htm:=ER.ext eM htm n1.1
 have htz:=ER.ext eM htz n1.1
 have hx17:=ER.ext eV hx17 n1.1
 refine .go O (.call _ O AE3 O (BA5 hx17 hw O) fun v w1 e h=>?_)
 subst h
 exact .goE O (.plain [_] Tryz.results10 ⟨rfl,trivial⟩ ⟨x.trans e,rfl⟩)
end Go.Proofs.YtpgkacdihhjknaaGreat
