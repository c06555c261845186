/-
  What the claim leans on.
-/
import Derived.Test.YtggegpiffjbngaaGreatG7
import Derived.Lib.SmallJoins
set_option linter.unusedVariables false
namespace Go.Proofs.YtggegpiffjbngaaGreat
open Go Go.Kx Go.RowKit
theorem afl_rsz {n:NtV} {o:List Int} (ok:nwOk n o) {x:List QV} (hk:vk 4 x) (i:Nat):Rsz ((nwOf n o).fl ((nwOf n o).an (rv x)) i) 1100000 :=
 (fl_rsz ok (fun c=>BI5 ok (by decide) (fun b=>hk.rsz (by decide) b) c) i).mono (by decide)
set_option maxRecDepth 8000 in
theorem law19_LodfSuperposition_c {w:World} {vn vo vx:Value} {n:NtV} {o:List Int} {x:List QV} {line:Int} (hn:eN.R (fun _=>True) w vn n) (ho:eI.R (fun _=>True) w vo o) (hx:eV.R (fun _=>True) w vx x):CR Tryz.prog 13 #[vn,vo,.int .i64 line,vx] w (Is (.bool true)):=by
 obtain ⟨s,rfl,hs,hb⟩:=hn
 have hn:eN.R (fun _=>True) w (.agg #[.int .i64 n.b,s]) n:=⟨s,rfl,hs,hb⟩
 obtain ⟨ax,cx,hvx,_,hxl⟩:=RL.len hx
 refine enter Tryz.func13 O Tryz.ntmps13 O (.beg (.go O (.box O O fun w1 b3 n1=>?_)))
 obtain ⟨e1,k3,hb3,hs1⟩:=n1
 replace k3:Blk w1 b3 24 #[.int .i64 n.b,s]:=k3
 refine .go O (.ldA ty_N O O k3 O (.go O (.bsl _ O O (by rw [hvx];exact BI1) fun w2 b17 n2=>?_)))
 have hl:eM.R (fun _=>True) w2 (.slice (some ⟨b17,0,none⟩) 1 1) [x]:=BH1 [vx] [x] n2 upT (by rw [hvx]) O (by decide) (Els.snoc Els.nil (ER.ext eV hx e1))
 have x2:=e1.trans n2.1
 refine .call _ O E_law17_Long O (law17_Long_c (hn.ext x2) (ho.ext x2) hl) fun v3 w3 e3 h3=>?_
 obtain ⟨bl,rfl,hlong⟩:=h3
 have x3:=x2.trans e3
 have k3:=k3.ext (n2.1.trans e3)
 clear hl
 cases bl with
 | true =>
  refine .go O (.call _ O E_law19_awake O law19_awake_c fun v4 w4 e4 h4=>?_)
  subst h4
  exact .goE O (.plain [_] Tryz.results13 ⟨rfl,trivial⟩ ⟨x3.trans e4,rfl⟩)
 | false =>
 have hk:vk 4 x:=(hlong O x (by simp)).vk hx
 have hx20:x.length<=20:=(hlong O x (by simp)).1
 refine .go O (.call _ O E_law19_awake O law19_awake_c fun v4 w4 e4 h4=>?_)
 subst h4
 have x4:=x3.trans e4
 have k3:=k3.ext e4
 refine .go O (.ldA ty_N O O k3 O (.go O ?_))
 refine .call _ O R8 O (Q9 (T0:=fun _=>True) upT upT (hn.ext x4) (ho.ext x4)) fun v5 w5 e5 h5=>?_
 obtain ⟨vl,ve,rfl,hl,he⟩:=h5
 replace he:ve=.int .i64 (lkE n o line):=he
 subst he
 have x5:=x4.trans e5
 have k3:=k3.ext e5
 refine .go O (.ldA ty_N O O k3 O (.go O ?_))
 refine .call _ O Ag5 O (Ae5 (T0:=fun _=>True) (L:=4) upT upT (hn.ext x5) (ho.ext x5) (ER.ext eV hx x5) hk (by decide) (by decide)) fun v6 w6 e6 h6=>?_
 obtain ⟨va,ve,rfl,ha,he⟩:=h6
 replace he:ve=.int .i64 (afE n o line x):=he
 subst he
 have x6:=x5.trans e6
 have k3:=k3.ext e6
 have hl:=ER.ext eV hl e6
 refine .go O ?_
 by_cases hK:lkE n o line=0
 rotate_left
 ·have haf:afE n o line x=lkE n o line:=by unfold afE;rw [if_pos hK]
  rw [if_neg hK] at hl
  rw [if_neg (by rw [haf];exact hK)] at ha
  rw [haf]
  exact .neqT O O O hK (.go O (.eqlT O O O O (.go O (.lenR un_V O O hl (.go O (.eqlT O O O O (.go O (.lenR un_V O O ha (.go O (.eqlT O O O O (.goE O (.plain [_] Tryz.results13 ⟨rfl,trivial⟩ ⟨x6,rfl⟩))))))))))))
 have haf:afE n o line x=anE n o x:=by unfold afE;rw [if_neg (by simpa using hK)]
 rw [haf] at ha ⊢
 rw [if_pos hK] at hl
 obtain ⟨hO,k,rfl,hkM,hg,hko,hB⟩:=Ao6 hK
 have ok:=M2 hO
 have hM10:n.ls.length<=10:=ok.m
 have hpw:=Ad9 (AA0 hO).2
 have hol:=Aj3 hO
 replace hl:eV.R (fun _=>True) w6 vl (loV n o k):=hl
 refine .neqF O O O hK (.go O (.ldA ty_N O O k3 O (.go O ?_)))
 refine .call _ O Ag6 O (flow_Flows_c (L:=4) upT (hn.ext x6) (ho.ext x6) (ER.ext eV hx x6) hk (by decide) (by decide)) fun v7 w7 e7 h7=>?_
 obtain ⟨vb,ve,rfl,hbf,he⟩:=h7
 replace he:ve=.int .i64 (anE n o x):=he
 subst he
 have x7:=x6.trans e7
 have k3:=k3.ext e7
 refine .go O ?_
 by_cases hA:anE n o x=0
 rotate_left
 ·exact .neqT O O O hA (.go O (.eqlT O O O O (.goE O (.plain [_] Tryz.results13 ⟨rfl,trivial⟩ ⟨x7,rfl⟩))))
 rw [if_pos hA] at ha hbf
 replace ha:eV.R (fun _=>True) w6 va (afV n o k x):=ha
 refine .neqF O O O hA (.go O ?_)
 refine .call _ O E_law19_with O (law19_with_c (S:=fun _=>True) (k:=(k:Nat)) upT (ho.ext x7) (I7.2 (by omega)) (by omega)) fun v8 w8 e8 h8=>?_
 obtain ⟨vu,b,rfl,u,hu,hb1,hb0⟩:=h8
 cases b with
 | false=>exact absurd (hb0 O).1 (Ab4 hko)
 | true =>
 obtain ⟨_,hPut⟩:=hb1 rfl
 obtain ⟨hOu,hcut⟩:=BF7 hO hkM (hPut.ins hpw.1)
 have hAu:=Aw0 (x:=x) hO hOu hcut hB
 have x8:=x7.trans e8
 have k3:=k3.ext e8
 refine .go O (.ldA ty_N O O k3 O (.go O ?_))
 refine .call _ O Ag6 O (flow_Flows_c (L:=4) upT (hn.ext x8) hu (ER.ext eV hx x8) hk (by decide) (by decide)) fun v9 w9 e9 h9=>?_
 obtain ⟨vd,ve,rfl,hd,he⟩:=h9
 replace he:ve=.int .i64 (anE n u x):=he
 rw [hAu,hA] at he
 subst he
 rw [hAu,if_pos hA,hcut] at hd
 replace hd:eV.R (fun _=>True) w9 vd (afV n o k x):=hd
 have x9:=x8.trans e9
 have k3:=k3.ext e9
 have hl:=ER.ext eV hl ((e7.trans e8).trans e9)
 have ha:=ER.ext eV ha ((e7.trans e8).trans e9)
 have hbf:=ER.ext eV hbf (e8.trans e9)
 have ll:(loV n o k).length=n.ls.length:=A1 ..
 have la:(afV n o k x).length=n.ls.length:=A1 ..
 generalize hbb:tab n.ls.length ((nwOf n o).fl ((nwOf n o).an (rv x)))=bf at hbf
 have lb:bf.length=n.ls.length:=by rw [<-hbb];exact A1 ..
 refine .go O (.neqF O O O hA (.go O (.neqF O O O O (.go O (.lenR un_V O O hl (.go O (.fa I6 O O (.go O (.ld N1 O O k3 O (.go O (.lenR L5 O O (hs.ext x9) (.go O ?_))))))))))))
 rw [ll]
 refine .neqF O O O O (.go O (.lenR un_V O O ha (.go O (.lenR un_V O O hl (.go O ?_)))))
 rw [ll,la]
 refine .neqF O O O O (.go O (.lenR un_V O O hbf (.go O (.lenR un_V O O hl (.go O ?_)))))
 rw [ll,lb]
 refine .neqF O O O O (.go O (.lenR un_V O O hd (.go O (.lenR un_V O O hl (.go O ?_)))))
 rw [ll,la]
 refine .neqF O O O O (.goC O ?_)
 have hkk:(afV n o k x)[k]?=some (qc 0):=by
  have:(afV n o k x)[k]?=some (qc (((nwOf n o).cut k).fl (((nwOf n o).cut k).an (rv x)) k)):=F4 hkM
  rw [this,Nw.cut_fl,if_pos rfl]
 have hbk:bf[k]?=some (qc ((nwOf n o).fl ((nwOf n o).an (rv x)) k)):=by rw [<-hbb];exact F4 hkM
 have hzk:=afl_rsz ok hk k
 refine .lp (α:=Nat) [2,9,11,13,17] O (fun i=>[(19,.int .i64 (i:Nat))]) (fun i W=>Ext w9 W/\i<=n.ls.length) (fun i=>n.ls.length-i) 0 (lc1 O) ⟨Ext.refl _,Nat.zero_le _⟩ ?_
 rintro i W ⟨hW,hi⟩
 have hlW:=ER.ext eV hl hW
 have haW:=ER.ext eV ha hW
 have hbW:=ER.ext eV hbf hW
 have hdW:=ER.ext eV hd hW
 refine .go O (.lenR un_V O O hlW ?_)
 rw [ll]
 refine .go O ?_
 rcases Nat.lt_or_ge i n.ls.length with hlt | hge
 rotate_left
 ·refine .lssF O O O (by omega) (.go O (.ixN (i:=k) un_V ty_Q O O haW O hkk fun q hq=>.ldE (E:=eQ) ty_Q O O hq fun vq hvq=>?_))
  have hsg:=T6 hvq
  rw [B7,sgn0] at hsg
  refine .call _ O U6 O hsg fun v4 W4 d4 h4=>?_
  subst h4
  exact .eqlT O O O O (.goE O (.plain [_] Tryz.results13 ⟨rfl,trivial⟩ ⟨(x9.trans hW).trans d4,rfl⟩))
 have hgl:(loV n o k)[i]?=some (qc ((nwOf n o).lo k i)):=F4 hlt
 have hga:(afV n o k x)[i]?=some (qc (((nwOf n o).cut k).fl (((nwOf n o).cut k).an (rv x)) i)):=F4 hlt
 have hgb:bf[i]?=some (qc ((nwOf n o).fl ((nwOf n o).an (rv x)) i)):=by rw [<-hbb];exact F4 hlt
 have hsup:=Nw.lo_flow ok.ok hkM hg hB (BI6 hA).2 hlt
 have hza:Rsz (((nwOf n o).cut k).fl (((nwOf n o).cut k).an (rv x)) i) 1100000:=by
  have:=afl_rsz (M2 hOu) hk i
  rw [hcut] at this
  exact this
 have hzb:=afl_rsz ok hk i
 have hzl:=lo_rsz ok k i
 generalize ((nwOf n o).cut k).fl (((nwOf n o).cut k).an (rv x)) i=fa at hga hsup hza
 generalize (nwOf n o).fl ((nwOf n o).an (rv x)) i=fb at hgb hsup hzb
 generalize (nwOf n o).fl ((nwOf n o).an (rv x)) k=fk at hbk hsup hzk
 generalize (nwOf n o).lo k i=lo at hgl hsup hzl
 have hzm:Rsz (lo*fk) 1900000:=(hzl.mul hzk).mono (by decide)
 have hzs:Rsz (fb+lo*fk) 3100000:=(hzb.add hzm).mono (by decide)
 refine .lssT O O O (by omega) (.goC O ?_)
 refine .par follows 29 [.inl _,.inl _,.inr (Ptr eQ (fun _=>True) (qc fa)),.inr (eQ.at (fun _=>True) (qc fa)),.inl _,.inl _,.inr (Ptr eQ (fun _=>True) (qc fa)),.inr (eQ.at (fun _=>True) (qc fa)),.inl (.bool true),.inl (.bool false),.inl (.bool false),.inl _,.inl _,.inr (Ptr eQ (fun _=>True) (qc fa)),.inr (eQ.at (fun _=>True) (qc fa)),.inl _,.inl _,.inr (Ptr eQ (fun _=>True) (qc fb)),.inr (eQ.at (fun _=>True) (qc fb)),.inl _,.inl _,.inr (Ptr eQ (fun _=>True) (qc lo)),.inr (eQ.at (fun _=>True) (qc lo)),.inl _,.inl _,.inr (Ptr eQ (fun _=>True) (qc fk)),.inr (eQ.at (fun _=>True) (qc fk)),.inr (eQ.at (fun _=>True) (qc (lo*fk))),.inr (eQ.at (fun _=>True) (qc (fb+lo*fk)))] [[],[],[(130,0),(131,1)],[(132,2)],[],[],[(134,4),(135,5)],[(136,6)],[(133,3),(137,7)],[(138,8)],[(139,9)],[(140,10)],[(140,10)],[(141,11),(142,12),(140,10)],[(143,13),(140,10)],[(140,10)],[(140,10)],[(145,15),(146,16),(140,10)],[(147,17),(140,10)],[(140,10)],[(140,10)],[(149,19),(150,20),(140,10)],[(151,21),(140,10)],[(140,10)],[(140,10)],[(153,23),(154,24),(140,10)],[(155,25),(140,10)],[(152,22),(156,26),(140,10)],[(148,18),(157,27),(140,10)]] (by kernel_rfl) ⟨
  fun w e=>(v_mv O).ob,
  fun w e=>(v_mv O).ob,
  fun w e=>D7 (i:=i) un_V ty_Q O (ER.ext eV haW e) O hga,
  fun w e x2 hx2=>M1 ty_Q O hx2,
  fun w e=>(v_mv O).ob,
  fun w e=>(v_mv O).ob,
  fun w e=>D7 (i:=i) un_V ty_Q O (ER.ext eV hdW e) O hga,
  fun w e x6 hx6=>M1 ty_Q O hx6,
  fun w e x3 hx3 x7 hx7=>(by have:=frac_Equal_c (L:=3100000) upT hx3 hx7 (hza.mono (by decide)).toOk (hza.mono (by decide)).toOk (by decide) (by decide);rw [B7,decide_eq_true rfl] at this;exact (A4 _ E_frac_Equal O this).obIs),
  fun w e=>((Ah7 (b:=true) O).eq O).ob,
  fun w e=>(v_mv O).ob,
  fun w e=>(v_mv O).ob,
  fun w e=>(v_mv O).ob,
  fun w e=>D7 (i:=i) un_V ty_Q O (ER.ext eV haW e) O hga,
  fun w e x13 hx13=>M1 ty_Q O hx13,
  fun w e=>(v_mv O).ob,
  fun w e=>(v_mv O).ob,
  fun w e=>D7 (i:=i) un_V ty_Q O (ER.ext eV hbW e) O hgb,
  fun w e x17 hx17=>M1 ty_Q O hx17,
  fun w e=>(v_mv O).ob,
  fun w e=>(v_mv O).ob,
  fun w e=>D7 (i:=i) un_V ty_Q O (ER.ext eV hlW e) O hgl,
  fun w e x21 hx21=>M1 ty_Q O hx21,
  fun w e=>(v_mv O).ob,
  fun w e=>(v_mv O).ob,
  fun w e=>D7 (i:=k) un_V ty_Q O (ER.ext eV hbW e) O hbk,
  fun w e x25 hx25=>M1 ty_Q O hx25,
  fun w e x22 hx22 x26 hx26=>(by have:=AW2 (L:=1100000) upT hx22 hx26 (hzl.mono (by decide)).toOk hzk.toOk (by decide) (by decide);rw [B7,B7] at this;exact (A4 _ AY3 O this).ob (A8 _ _ _)),
  fun w e x18 hx18 x27 hx27=>(by have:=R4 (L:=1900000) upT hx18 hx27 (hzb.mono (by decide)).toOk hzm.toOk (by decide) (by decide);rw [B7,B7] at this;exact (A4 _ R9 O this).ob (A8 _ _ _)),trivial⟩ ?_
 intro W2 d2 y2 hy2 y3 hy3 y6 hy6 y7 hy7 y13 hy13 y14 hy14 y17 hy17 y18 hy18 y21 hy21 y22 hy22 y25 hy25 y26 hy26 y27 hy27 y28 hy28
 have heq:=frac_Equal_c (L:=3100000) upT hy14 hy28 (hza.mono (by decide)).toOk hzs.toOk (by decide) (by decide)
 rw [B7,B7,decide_eq_true hsup] at heq
 refine .go O (.call _ O E_frac_Equal O heq fun v5 W5 d5 h5=>?_)
 subst h5
 exact .go O (.inc O O O (by omega) (.goN O (.mk (i+1) O (lc1 O) ⟨⟨hW.trans (d2.trans d5),hlt⟩,by show n.ls.length-(i+1)<n.ls.length-i;omega⟩)))
end Go.Proofs.YtggegpiffjbngaaGreat
namespace Go.Kx
open Go Go.RowKit Go.ChangeShapes Go.WideShapes
section
variable {H:Type} {enc:TypeId×Value->H} {P:Program} {W:World}
def sh4 (P:Program) (t:TypeId):Option (List (TypeId×Nat)) :=
 match P.underlying t with
 | some (.struct fs)=>if fs.size=4 then some (fs.toList.map fun f=>(f.type,f.offset)) else none
 | _=>none
theorem opn_int4 {t ti tj:TypeId} (hs:sh4 P t=some [(ti,0),(ti,1),(tj,2),(tj,3)]) (hi:P.underlying ti=some (.int .i64)) (hj:P.underlying tj=some (.int .i64)) (hci:P.cellsOf ti=1) (hcj:P.cellsOf tj=1) (hct:P.cellsOf t=4):Opn enc P W eL t (fun _ _=>True):=by
 intro fuel cs x hx hfz
 unfold sh4 at hs
 split at hs
 ·rename_i fs hu
  split at hs
  ·rename_i hsz
   simp only [Option.some.injEq] at hs
   obtain ⟨l⟩:=fs
   match l,hsz with
   | [f0,f1,f2,f3],_ =>
    simp only [List.map_cons,List.map_nil,List.cons.injEq,Prod.mk.injEq,and_true] at hs
    obtain ⟨⟨h0,o0⟩,⟨h1,o1⟩,⟨h2,o2⟩,h3,o3⟩:=hs
    obtain ⟨y0,y1,y2,y3,n,rfl,hl,g0,g1,g2,g3⟩:=Joins.trod_struct4 hu hx
    rw [h0,o0,hci] at g0
    rw [h1,o1,hci] at g1
    rw [h2,o2,hcj] at g2
    rw [h3,o3,hcj] at g3
    rw [hct] at hl
    obtain ⟨c0,c1,c2,c3,rfl⟩:∃ c0 c1 c2 c3,cs=[c0,c1,c2,c3]:=by
     match cs,hl with
     | [c0,c1,c2,c3],_=>exact ⟨c0,c1,c2,c3,rfl⟩
    obtain ⟨n0,e0,_,w0⟩:=DataW.trod_int hi g0
    obtain ⟨n1,e1,_,w1⟩:=DataW.trod_int hi g1
    obtain ⟨n2,e2,_,w2⟩:=DataW.trod_int hj g2
    obtain ⟨n3,e3,_,w3⟩:=DataW.trod_int hj g3
    simp at e0 e1 e2 e3
    subst e0 e1 e2 e3
    exact ⟨.agg #[.int .i64 n0,.int .i64 n1,.int .i64 n2,.int .i64 n3],⟨n0,n1,n2,n3⟩,rfl,⟨rfl,BB6 w0,BB6 w1,BB6 w2,BB6 w3⟩,trivial⟩
  ·cases hs
 ·cases hs
theorem opn_N {t ti tl te:TypeId} (hs:sh2 P t=some ((ti,0),(tl,1))) (hi:P.underlying ti=some (.int .i64)) (hci:P.cellsOf ti=1) (hcl:P.cellsOf tl=1) (hct:P.cellsOf t=2) (hl:P.underlying tl=some (.slice te)) (hce:P.cellsOf te=4) (he:Opn enc P W eL te (fun _ _=>True)):Opn enc P W eN t (fun _ _=>True):=by
 intro fuel cs x hx hfz
 obtain ⟨y0,y1,n,rfl,hlen,h0,h1⟩:=Ai9 hs hx
 rw [hci] at h0
 rw [hcl] at h1
 rw [hct] at hlen
 obtain ⟨c0,c1,rfl⟩:∃ c0 c1,cs=[c0,c1]:=by
  match cs,hlen with
  | [c0,c1],_=>exact ⟨c0,c1,rfl⟩
 obtain ⟨b,hb',_,hw⟩:=DataW.trod_int hi h0
 simp at hb'
 subst hb'
 obtain ⟨e,l,he',hR,_⟩:=(Opn.slice (Z:=fun _ _=>True) (E:=eL) (by decide) hl hce he) n _ _ h1 hfz.right
 obtain ⟨a,c,rfl,_⟩:=RL.len hR
 simp [Value.cells] at he'
 subst he'
 exact ⟨.agg #[.int .i64 b,.slice a l.length c],⟨b,l⟩,rfl,⟨_,rfl,hR,BB6 hw⟩,trivial⟩
end
end Go.Kx
namespace Go.Proofs.YtggegpiffjbngaaGreat
open Go Go.Kx Go.RowKit
section
variable {H:Type} {enc:TypeId×Value->H} {W:World}
theorem opnN:Opn enc Tryz.prog W eN 24 (fun _ _=>True):=opn_N (ti:=3) (tl:=22) (te:=58) (by kernel_rfl) AC5 (by kernel_rfl) (by kernel_rfl) (by kernel_rfl) L5 (by kernel_rfl) (opn_int4 (ti:=3) (tj:=2) (by kernel_rfl) AC5 Ad3 (by kernel_rfl) (by kernel_rfl) (by kernel_rfl))
theorem opnH:Opn enc Tryz.prog W eI 25 (ZL fun _ _=>True):=Opn.slice (by decide) un_I (by kernel_rfl) (opn_int AC5)
end
end Go.Proofs.YtggegpiffjbngaaGreat
