/-
  What the claim leans on.
-/
import Derived.Test.YtggegpiffjbngaaGreatG7
import Derived.Lib.SmallJoins
set_option linter.unusedVariables false
namespace Go.Proofs.YtggegpiffjbngaaGreat
open Go Go.Kx Go.RowKit
set_option maxRecDepth 8000 in
theorem law19_LodfBound_c {w:World} {vn vo:Value} {n:NtV} {o:List Int} {line:Int} (hn:eN.R (fun _=>True) w vn n) (ho:eI.R (fun _=>True) w vo o):CR Tryz.prog 14 #[vn,vo,.int .i64 line] w (Is (.bool true)):=by
 obtain ⟨s,rfl,hs,hb⟩:=hn
 have hn:eN.R (fun _=>True) w (.agg #[.int .i64 n.b,s]) n:=⟨s,rfl,hs,hb⟩
 refine enter Tryz.func14 O Tryz.ntmps14 O (.beg (.go O (.box O O fun w1 b3 n1=>?_)))
 obtain ⟨e1,k3,hb3,hs1⟩:=n1
 replace k3:Blk w1 b3 24 #[.int .i64 n.b,s]:=k3
 refine .go O (.ldA ty_N O O k3 O (.go O (.bsl _ O O BI1 fun w2 b17 n2=>?_)))
 have hl:eM.R (fun _=>True) w2 (.slice (some ⟨b17,0,none⟩) 1 1) [[]]:=BH1 [.slice none 0 0] [[]] n2 upT O O (by decide) (Els.snoc Els.nil RL.nil)
 have x2:=e1.trans n2.1
 refine .call _ O E_law17_Long O (law17_Long_c (hn.ext x2) (ho.ext x2) hl) fun v3 w3 e3 h3=>?_
 obtain ⟨bl,rfl,hlong⟩:=h3
 have x3:=x2.trans e3
 have k3:=k3.ext (n2.1.trans e3)
 clear hl
 cases bl with
 | true =>
  refine .go O (.call _ O E_law19_awake O law19_awake_c fun v4 w4 e4 h4=>?_)
  subst h4
  exact .goE O (.plain [_] Tryz.results14 ⟨rfl,trivial⟩ ⟨x3.trans e4,rfl⟩)
 | false =>
 refine .go O (.call _ O E_law19_awake O law19_awake_c fun v4 w4 e4 h4=>?_)
 subst h4
 have x4:=x3.trans e4
 have k3:=k3.ext e4
 refine .go O (.ldA ty_N O O k3 O (.go O ?_))
 refine .call _ O R8 O (Q9 (T0:=fun _=>True) upT upT (hn.ext x4) (ho.ext x4)) fun v5 w5 e5 h5=>?_
 obtain ⟨vl,ve,rfl,hl,he⟩:=h5
 replace he:ve=.int .i64 (lkE n o line):=he
 subst he
 have x5:=x4.trans e5
 have k3:=k3.ext e5
 refine .go O ?_
 by_cases hK:lkE n o line=0
 rotate_left
 ·rw [if_neg hK] at hl
  exact .neqT O O O hK (.go O (.lenR un_V O O hl (.eqlT O O O O (.goE O (.plain [_] Tryz.results14 ⟨rfl,trivial⟩ ⟨x5,rfl⟩)))))
 rw [if_pos hK] at hl
 obtain ⟨hO,k,rfl,hkM,hg,hko,hB⟩:=Ao6 hK
 have ok:=M2 hO
 have hM10:n.ls.length<=10:=ok.m
 replace hl:eV.R (fun _=>True) w5 vl (loV n o k):=hl
 have hlen:(loV n o k).length=n.ls.length:=A1 ..
 have hgk:(loV n o k)[k]?=some (qc (-1)):=by
  have:(loV n o k)[k]?=some (qc ((nwOf n o).lo k k)):=F4 hkM
  rw [this]
  unfold Nw.lo
  rw [if_pos rfl]
 have hsW:=hs.ext x5
 refine .neqF O O O hK (.goC O ?_)
 refine .par follows 22 [.inl _,.inl (.int .i64 (n.ls.length:Nat)),.inl _,.inl s,.inl (.int .i64 (n.ls.length:Nat)),.inl (.bool false),.inl (.bool false),.inl _,.inl (.bool false),.inl (.bool false),.inl (.bool false),.inl _,.inl _,.inl (.int .i64 (n.ls.length:Nat)),.inl (.bool false),.inl (.bool false),.inl (.bool false),.inl _,.inl _,.inr (Ptr eQ (fun _=>True) (qc (-1))),.inr (eQ.at (fun _=>True) (qc (-1))),.inr (eQ.at (fun _=>True) (qc ((-1:Int):Rat)))] [[],[(32,0)],[],[(34,2)],[(35,3)],[(33,1),(36,4)],[(37,5)],[(38,6)],[(39,7),(38,6)],[(38,6),(40,8)],[(41,9)],[(42,10)],[(42,10)],[(44,12),(42,10)],[(43,11),(45,13),(42,10)],[(42,10),(46,14)],[(47,15)],[(48,16)],[(48,16)],[(49,17),(50,18),(48,16)],[(51,19),(48,16)],[(48,16)]] (by kernel_rfl) ⟨
  fun w e=>(v_mv O).ob,
  fun w e=>((v_lenR un_V O (ER.ext eV hl e)).eq (by rw [hlen])).ob,
  fun w e=>(v_fa I6 O).ob,
  fun w e=>(v_ld N1 O (k3.ext e) O).ob,
  fun w e=>(v_lenR L5 O (hsW.ext e)).ob,
  fun w e=>((v_neq O O).eq (by simp)).ob,
  fun w e=>(v_mv O).ob,
  fun w e=>(v_mv O).ob,
  fun w e=>((v_lss O O).eq (by simp)).ob,
  fun w e=>(Ar6 O O).ob,
  fun w e=>(v_mv O).ob,
  fun w e=>(v_mv O).ob,
  fun w e=>(v_mv O).ob,
  fun w e=>((v_lenR un_V O (ER.ext eV hl e)).eq (by rw [hlen])).ob,
  fun w e=>((v_geq O O).eq (by simp;omega)).ob,
  fun w e=>(Ar6 O O).ob,
  fun w e=>(v_mv O).ob,
  fun w e=>(v_mv O).ob,
  fun w e=>(v_mv O).ob,
  fun w e=>D7 (i:=k) un_V ty_Q O (ER.ext eV hl e) O hgk,
  fun w e x19 hx19=>M1 ty_Q O hx19,
  fun w e=>(A4 _ D4 O (D2 upT (by decide) (by decide))).ob (A8 _ _ _),trivial⟩ ?_
 intro w6' e6' y19 hy19 y20 hy20 y21 hy21
 have heq:=frac_Equal_c (L:=1) upT hy20 hy21 ((rsz1 (L:=1) (Nat.le_refl _)).neg).toOk ((rsz1 (L:=1) (Nat.le_refl _)).neg).toOk (by decide) (by decide)
 rw [B7,B7,decide_eq_true (show (-1:Rat)=((-1:Int):Rat) from rfl)] at heq
 refine .go O (.call _ O E_frac_Equal O heq fun v6 w6 e6 h6=>?_)
 subst h6
 have e6:=e6'.trans e6
 have x6:=x5.trans e6
 have hl:=ER.ext eV hl e6
 refine .goC O ?_
 refine .lp (α:=Nat) [1,7] O (fun i=>[(9,.int .i64 (i:Nat))]) (fun i W=>Ext w6 W/\i<=n.ls.length) (fun i=>n.ls.length-i) 0 (lc1 O) ⟨Ext.refl _,Nat.zero_le _⟩ ?_
 rintro i W ⟨hW,hi⟩
 have hlW:=ER.ext eV hl hW
 refine .go O (.lenR un_V O O hlW ?_)
 rw [hlen]
 refine .go O ?_
 rcases Nat.lt_or_ge i n.ls.length with hlt | hge
 ·have hgl:(loV n o k)[i]?=some (qc ((nwOf n o).lo k i)):=F4 hlt
  have hz:=lo_rsz ok k i
  have hzb:=Nw.lo_bound ok.ok hkM hg hB hlt
  have hle:cmpR (absR ((nwOf n o).lo k i)) ((1:Int):Rat)<=0:=cmp_le (abs_le1 hzb)
  have hza:Rsz (absR ((nwOf n o).lo k i)) 800000:=by
   unfold absR
   split
   ·exact hz.neg
   ·exact hz
  refine .lssT O O O (by omega) (.go O (.ixN (i:=i) un_V ty_Q O O hlW O hgl fun q hq=>.ldE (E:=eQ) ty_Q O O hq fun vq hvq=>?_))
  refine .call _ O E_frac_Abs O (frac_Abs_c (L:=800000) upT hvq (AG7 hz) (by decide) (by decide)) fun va W1 d1 ha=>?_
  refine .call _ O D4 O (D2 (n:=1) (S:=fun _=>True) upT (by decide) (by decide)) fun vb W2 d2 hb1=>?_
  have hc:=Ap1 (L:=800000) upT (ER.ext eQ ha d2) hb1 (by rw [B7];exact hza.toOk) ((rsz1 (L:=1) (Nat.le_refl _)).mono (by decide)).toOk (by decide) (by decide)
  rw [B7,B7,B7] at hc
  refine .call _ O Ar0 O hc fun vc W3 d3 h3=>?_
  subst h3
  have dd:=(d1.trans d2).trans d3
  refine .gtrF O O O (by omega) (.go O (.ixN (i:=i) un_V ty_Q O O (ER.ext eV hlW dd) O hgl fun q hq=>.go O (.ldE (E:=eQ) ty_Q O O hq fun vq hvq=>.go O ?_)))
  refine .call _ O Aq9 O (Ao9 upT hvq hz (by decide)) fun v4 W4 d4 h4=>?_
  subst h4
  exact .go O (.inc O O O (by omega) (.goN O (.mk (i+1) O (lc1 O) ⟨⟨hW.trans (dd.trans d4),hlt⟩,by show n.ls.length-(i+1)<n.ls.length-i;omega⟩)))
 have hpw:=Ad9 (AA0 hO).2
 have hol:=Aj3 hO
 refine .lssF O O O (by omega) (.goC O ?_)
 refine .lp (α:=Nat) [1,7] O (fun i=>[(10,.int .i64 (i:Nat))]) (fun i W'=>Ext W W'/\i<=o.length) (fun i=>o.length-i) 0 (lc1 O) ⟨Ext.refl _,Nat.zero_le _⟩ ?_
 rintro j W1 ⟨hW1,hj⟩
 have hl1:=ER.ext eV hlW hW1
 have ho1:=ER.ext eI ho (x6.trans (hW.trans hW1))
 refine .go O (.lenR un_I O O ho1 (.go O ?_))
 rcases Nat.lt_or_ge j o.length with hjl | hge2
 rotate_left
 ·exact .lssF O O O (by omega) (.goE O (.plain [_] Tryz.results14 ⟨rfl,trivial⟩ ⟨x6.trans (hW.trans hW1),rfl⟩))
 have hgo:=List.getElem?_eq_getElem hjl
 obtain ⟨hp0,hp1⟩:=hpw.2 _ (List.getElem_mem hjl)
 have hmo:o[j].toNat∈oN o:=List.mem_map.2 ⟨_,List.getElem_mem hjl,rfl⟩
 generalize o[j]=y at hgo hp0 hp1 hmo
 obtain ⟨m,rfl⟩:∃ m:Nat,y=m:=⟨y.toNat,by omega⟩
 replace hmo:m∈oN o:=by simpa using hmo
 have hmM:m<n.ls.length:=by omega
 have hmk:m≠k:=fun h=>hko (h▸hmo)
 have hz:(nwOf n o).lo k m=0:=Nw.lo_zero ok.ok hmM hkM ((ok.g0 hmM).2 hmo) hmk
 have hgm:(loV n o k)[m]?=some (qc 0):=by
  have:(loV n o k)[m]?=some (qc ((nwOf n o).lo k m)):=F4 hmM
  rw [this,hz]
 refine .lssT O O O (by omega) (.go O (.ixN (i:=j) un_I B0 O O ho1 O hgo fun q hq=>.ldE (E:=eInt .i64) B0 O O hq fun e he=>?_))
 obtain ⟨rfl,_⟩:=he
 refine .lssF O O O (by omega) (.go O (.ixN (i:=j) un_I B0 O O ho1 O hgo fun q hq=>.go O (.ldE (E:=eInt .i64) B0 O O hq fun e he=>.go O ?_)))
 obtain ⟨rfl,_⟩:=he
 refine .lenR un_V O O hl1 ?_
 rw [hlen]
 refine .go O (.geqF O O O (by omega) (.go O (.ixN (i:=j) un_I B0 O O ho1 O hgo fun q hq=>.go O (.ldE (E:=eInt .i64) B0 O O hq fun e he=>.go O ?_))))
 obtain ⟨rfl,_⟩:=he
 refine .ixN (i:=m) un_V ty_Q O O hl1 O hgm fun q hq=>.go O (.ldE (E:=eQ) ty_Q O O hq fun vq hvq=>.go O ?_)
 have hsg:=T6 hvq
 rw [B7,sgn0] at hsg
 refine .call _ O U6 O hsg fun v4 W4 d4 h4=>?_
 subst h4
 exact .go O (.neqF O O O O (.go O (.inc O O O (by omega) (.goN O (.mk (j+1) O (lc1 O) ⟨⟨hW1.trans d4,hjl⟩,by show o.length-(j+1)<o.length-j;omega⟩)))))
end Go.Proofs.YtggegpiffjbngaaGreat
namespace Go.Kx
open Go Go.RowKit Go.ChangeShapes Go.WideShapes
section
variable {H:Type} {enc:TypeId×Value->H} {P:Program} {W:World}
def sh4 (P:Program) (t:TypeId):Option (List (TypeId×Nat)) :=
 match P.underlying t with
 | some (.struct fs)=>if fs.size=4 then some (fs.toList.map fun f=>(f.type,f.offset)) else none
 | _=>none
theorem opn_int4 {t ti tj:TypeId} (hs:sh4 P t=some [(ti,0),(ti,1),(tj,2),(tj,3)]) (hi:P.underlying ti=some (.int .i64)) (hj:P.underlying tj=some (.int .i64)) (hci:P.cellsOf ti=1) (hcj:P.cellsOf tj=1) (hct:P.cellsOf t=4):Opn enc P W eL t (fun _ _=>True):=by
 intro fuel cs x hx hfz
 unfold sh4 at hs
 split at hs
 ·rename_i fs hu
  split at hs
  ·rename_i hsz
   simp only [Option.some.injEq] at hs
   obtain ⟨l⟩:=fs
   match l,hsz with
   | [f0,f1,f2,f3],_ =>
    simp only [List.map_cons,List.map_nil,List.cons.injEq,Prod.mk.injEq,and_true] at hs
    obtain ⟨⟨h0,o0⟩,⟨h1,o1⟩,⟨h2,o2⟩,h3,o3⟩:=hs
    obtain ⟨y0,y1,y2,y3,n,rfl,hl,g0,g1,g2,g3⟩:=Joins.trod_struct4 hu hx
    rw [h0,o0,hci] at g0
    rw [h1,o1,hci] at g1
    rw [h2,o2,hcj] at g2
    rw [h3,o3,hcj] at g3
    rw [hct] at hl
    obtain ⟨c0,c1,c2,c3,rfl⟩:∃ c0 c1 c2 c3,cs=[c0,c1,c2,c3]:=by
     match cs,hl with
     | [c0,c1,c2,c3],_=>exact ⟨c0,c1,c2,c3,rfl⟩
    obtain ⟨n0,e0,_,w0⟩:=DataW.trod_int hi g0
    obtain ⟨n1,e1,_,w1⟩:=DataW.trod_int hi g1
    obtain ⟨n2,e2,_,w2⟩:=DataW.trod_int hj g2
    obtain ⟨n3,e3,_,w3⟩:=DataW.trod_int hj g3
    simp at e0 e1 e2 e3
    subst e0 e1 e2 e3
    exact ⟨.agg #[.int .i64 n0,.int .i64 n1,.int .i64 n2,.int .i64 n3],⟨n0,n1,n2,n3⟩,rfl,⟨rfl,BB6 w0,BB6 w1,BB6 w2,BB6 w3⟩,trivial⟩
  ·cases hs
 ·cases hs
theorem opn_N {t ti tl te:TypeId} (hs:sh2 P t=some ((ti,0),(tl,1))) (hi:P.underlying ti=some (.int .i64)) (hci:P.cellsOf ti=1) (hcl:P.cellsOf tl=1) (hct:P.cellsOf t=2) (hl:P.underlying tl=some (.slice te)) (hce:P.cellsOf te=4) (he:Opn enc P W eL te (fun _ _=>True)):Opn enc P W eN t (fun _ _=>True):=by
 intro fuel cs x hx hfz
 obtain ⟨y0,y1,n,rfl,hlen,h0,h1⟩:=Ai9 hs hx
 rw [hci] at h0
 rw [hcl] at h1
 rw [hct] at hlen
 obtain ⟨c0,c1,rfl⟩:∃ c0 c1,cs=[c0,c1]:=by
  match cs,hlen with
  | [c0,c1],_=>exact ⟨c0,c1,rfl⟩
 obtain ⟨b,hb',_,hw⟩:=DataW.trod_int hi h0
 simp at hb'
 subst hb'
 obtain ⟨e,l,he',hR,_⟩:=(Opn.slice (Z:=fun _ _=>True) (E:=eL) (by decide) hl hce he) n _ _ h1 hfz.right
 obtain ⟨a,c,rfl,_⟩:=RL.len hR
 simp [Value.cells] at he'
 subst he'
 exact ⟨.agg #[.int .i64 b,.slice a l.length c],⟨b,l⟩,rfl,⟨_,rfl,hR,BB6 hw⟩,trivial⟩
end
end Go.Kx
namespace Go.Proofs.YtggegpiffjbngaaGreat
open Go Go.Kx Go.RowKit
section
variable {H:Type} {enc:TypeId×Value->H} {W:World}
theorem opnN:Opn enc Tryz.prog W eN 24 (fun _ _=>True):=opn_N (ti:=3) (tl:=22) (te:=58) (by kernel_rfl) AC5 (by kernel_rfl) (by kernel_rfl) (by kernel_rfl) L5 (by kernel_rfl) (opn_int4 (ti:=3) (tj:=2) (by kernel_rfl) AC5 Ad3 (by kernel_rfl) (by kernel_rfl) (by kernel_rfl))
theorem opnH:Opn enc Tryz.prog W eI 25 (ZL fun _ _=>True):=Opn.slice (by decide) un_I (by kernel_rfl) (opn_int AC5)
end
end Go.Proofs.YtggegpiffjbngaaGreat
