/-
  What the claim leans on.
-/
import Derived.Test.YtggegpiffjbngaaGreatG7
import Derived.Lib.SmallJoins
set_option linter.unusedVariables false
namespace Go.Proofs.YtggegpiffjbngaaGreat
open Go Go.Kx Go.RowKit
set_option maxRecDepth 8000 in
theorem law19_LodfIslands_c {w:World} {vn vo:Value} {n:NtV} {o:List Int} {line:Int} (hn:eN.R (fun _=>True) w vn n) (ho:eI.R (fun _=>True) w vo o):CR Tryz.prog 9 #[vn,vo,.int .i64 line] w (Is (.bool true)):=by
 obtain ⟨s,rfl,hs,hb⟩:=hn
 have hn:eN.R (fun _=>True) w (.agg #[.int .i64 n.b,s]) n:=⟨s,rfl,hs,hb⟩
 refine enter Tryz.func9 O Tryz.ntmps9 O (.beg (.go O (.box O O fun w1 b3 n1=>?_)))
 obtain ⟨e1,k3,hb3,hs1⟩:=n1
 replace k3:Blk w1 b3 24 #[.int .i64 n.b,s]:=k3
 refine .go O (.ldA ty_N O O k3 O (.go O (.bsl _ O O BI1 fun w2 b17 n2=>?_)))
 have hl:eM.R (fun _=>True) w2 (.slice (some ⟨b17,0,none⟩) 1 1) [[]]:=BH1 [.slice none 0 0] [[]] n2 upT O O (by decide) (Els.snoc Els.nil RL.nil)
 have x2:=e1.trans n2.1
 refine .call _ O E_law17_Long O (law17_Long_c (hn.ext x2) (ho.ext x2) hl) fun v3 w3 e3 h3=>?_
 obtain ⟨bl,rfl,hlong⟩:=h3
 have x3:=x2.trans e3
 have k3:=k3.ext (n2.1.trans e3)
 clear hl
 cases bl with
 | true =>
  refine .go O (.call _ O E_law19_awake O law19_awake_c fun v4 w4 e4 h4=>?_)
  subst h4
  exact .goE O (.plain [_] Tryz.results9 ⟨rfl,trivial⟩ ⟨x3.trans e4,rfl⟩)
 | false =>
 refine .go O (.call _ O E_law19_awake O law19_awake_c fun v4 w4 e4 h4=>?_)
 subst h4
 have x4:=x3.trans e4
 have k3:=k3.ext e4
 refine .go O (.ldA ty_N O O k3 O (.go O ?_))
 refine .call _ O R8 O (Q9 (T0:=fun _=>True) upT upT (hn.ext x4) (ho.ext x4)) fun v5 w5 e5 h5=>?_
 obtain ⟨vl,ve,rfl,hl,he⟩:=h5
 replace he:ve=.int .i64 (lkE n o line):=he
 subst he
 have x5:=x4.trans e5
 have k3:=k3.ext e5
 refine .go O ?_
 by_cases hK:lkE n o line=0
 rotate_left
 ·exact .neqT O O O hK (.goE O (.plain [_] Tryz.results9 ⟨rfl,trivial⟩ ⟨x5,rfl⟩))
 rw [if_pos hK] at hl
 obtain ⟨hO,k,rfl,hkM,hg,hko,hB⟩:=Ao6 hK
 have ok:=M2 hO
 have hM10:n.ls.length<=10:=ok.m
 have hB6:=ok.b6
 have hnb:=ok.b
 replace hl:eV.R (fun _=>True) w5 vl (loV n o k):=hl
 have hlen:(loV n o k).length=n.ls.length:=A1 ..
 refine .neqF O O O hK (.go O (.ldA ty_N O O k3 O (.go O ?_)))
 refine .call _ O AE5 O (AD4 upT (hn.ext x5) (ho.ext x5)) fun v6 w6 e6 h6=>?_
 obtain ⟨vof,ve,rfl,hof,he⟩:=h6
 replace he:ve=.int .i64 (outE n o):=he
 subst he
 rw [if_pos hO] at hof
 have x6:=x5.trans e6
 have k3:=k3.ext e6
 have hl:=ER.ext eV hl e6
 refine .go O (.neqF O O O hO (.go O (.lenR un_I O O hof ?_)))
 rw [O7]
 refine .go O (.fa H7 O O (.go O (.ld A9 O O k3 O (.go O (.neqF O O O (by omega) (.go O (.lenR un_V O O hl ?_)))))))
 rw [hlen]
 refine .go O (.fa I6 O O (.go O (.ld N1 O O k3 O (.go O (.lenR L5 O O (hs.ext x6) (.go O (.neqF O O O O (.go O (.lssF O O O (by omega) (.go O (.lenR un_V O O hl ?_)))))))))))
 rw [hlen]
 refine .go O (.geqF O O O (by omega) (.goC O ?_))
 refine .lp (α:=Nat) [2,3,7,9] O (fun i=>[(11,.int .i64 (i:Nat))]) (fun i W=>Ext w6 W/\i<=n.ls.length) (fun i=>n.ls.length-i) 0 (lc1 O) ⟨Ext.refl _,Nat.zero_le _⟩ ?_
 rintro i W ⟨hW,hi⟩
 have hlW:=ER.ext eV hl hW
 have hofW:=ER.ext eI hof hW
 have hsW:=hs.ext (x6.trans hW)
 have k3:=k3.ext hW
 refine .go O (.lenR un_V O O hlW ?_)
 rw [hlen]
 refine .go O ?_
 rcases Nat.lt_or_ge i n.ls.length with hlt | hge
 rotate_left
 ·exact .lssF O O O (by omega) (.goE O (.plain [_] Tryz.results9 ⟨rfl,trivial⟩ ⟨x6.trans hW,rfl⟩))
 have hgi:n.ls[i]?=some (n.ls.getD i ln0):=A7 hlt
 have hgk:n.ls[k]?=some (n.ls.getD k ln0):=A7 hkM
 have hF0:lnI (n.ls.getD i ln0) 0=(((nwOf n o).F i:Nat):Int):=ok.fI i hlt
 have hF1:lnI (n.ls.getD k ln0) 0=(((nwOf n o).F k:Nat):Int):=ok.fI k hkM
 have hFi:=ok.f i hlt
 have hFk:=ok.f k hkM
 have ho1:(tabI (nwOf n o).B (nwOf n o).lab)[(nwOf n o).F i]?=some (((nwOf n o).lab ((nwOf n o).F i):Nat):Int):=Y8 hFi
 have ho2:(tabI (nwOf n o).B (nwOf n o).lab)[(nwOf n o).F k]?=some (((nwOf n o).lab ((nwOf n o).F k):Nat):Int):=Y8 hFk
 have hgl:(loV n o k)[i]?=some (qc ((nwOf n o).lo k i)):=F4 hlt
 refine .lssT O O O (by omega) (.goC O ?_)
 by_cases hlab:(nwOf n o).lab ((nwOf n o).F i)=(nwOf n o).lab ((nwOf n o).F k)
 ·refine .par follows 22 [.inl _,.inl _,.inl s,.inl _,.inr (Ptr eL (fun _=>True) (n.ls.getD i ln0)),.inr (Ptr (eInt .i64) (fun _=>True) (((nwOf n o).F i:Nat):Int)),.inl (.int .i64 ((nwOf n o).F i:Nat)),.inr (Ptr (eInt .i64) (fun _=>True) (((nwOf n o).lab ((nwOf n o).F i):Nat):Int)),.inl (.int .i64 (((nwOf n o).lab ((nwOf n o).F i):Nat):Int)),.inl _,.inl _,.inl s,.inl _,.inr (Ptr eL (fun _=>True) (n.ls.getD k ln0)),.inr (Ptr (eInt .i64) (fun _=>True) (((nwOf n o).F k:Nat):Int)),.inl (.int .i64 ((nwOf n o).F k:Nat)),.inr (Ptr (eInt .i64) (fun _=>True) (((nwOf n o).lab ((nwOf n o).F k):Nat):Int)),.inl (.int .i64 (((nwOf n o).lab ((nwOf n o).F k):Nat):Int)),.inl (.bool false),.inl (.bool false),.inl undef,.inl undef] [[],[],[(70,1)],[],[(71,2),(72,3)],[(73,4)],[(74,5)],[(69,0),(75,6)],[(76,7)],[],[],[(79,10)],[],[(80,11),(81,12)],[(82,13)],[(83,14)],[(78,9),(84,15)],[(85,16)],[(77,8),(86,17)],[(87,18)],[(88,19)],[(88,19)]] (by kernel_rfl) ⟨
   fun w e=>(v_mv O).ob,
   fun w e=>(v_fa I6 O).ob,
   fun w e=>(v_ld N1 O (k3.ext e) O).ob,
   fun w e=>(v_mv O).ob,
   fun w e=>D7 (i:=i) L5 N2 O (hsW.ext e) O hgi,
   fun w e x4 hx4=>(by rw [<-hF0];exact Ae0 I2 O hx4 (by decide)),
   fun w e x5 hx5=>V4 A9 O hx5,
   fun w e=>D7 (i:=(nwOf n o).F i) un_I B0 O (ER.ext eI hofW e) O ho1,
   fun w e x7 hx7=>V4 B0 O hx7,
   fun w e=>(v_mv O).ob,
   fun w e=>(v_fa I6 O).ob,
   fun w e=>(v_ld N1 O (k3.ext e) O).ob,
   fun w e=>(v_mv O).ob,
   fun w e=>D7 (i:=k) L5 N2 O (hsW.ext e) O hgk,
   fun w e x13 hx13=>(by rw [<-hF1];exact Ae0 I2 O hx13 (by decide)),
   fun w e x14 hx14=>V4 A9 O hx14,
   fun w e=>D7 (i:=(nwOf n o).F k) un_I B0 O (ER.ext eI hofW e) O ho2,
   fun w e x16 hx16=>V4 B0 O hx16,
   fun w e=>((v_neq O O).eq (by simp [hlab])).ob,
   fun w e=>(v_mv O).ob,
   fun w e=>rfl,
   fun w e=>rfl,trivial⟩ ?_
  intro W2 d2 y4 hy4 y5 hy5 y7 hy7 y13 hy13 y14 hy14 y16 hy16
  exact .go O (.inc O O O (by omega) (.goN O (.mk (i+1) O (lc1 O) ⟨⟨hW.trans d2,hlt⟩,by show n.ls.length-(i+1)<n.ls.length-i;omega⟩)))
 have hroot:(nwOf n o).root ((nwOf n o).F i)≠(nwOf n o).root ((nwOf n o).F k):=fun h=>hlab ((Nw.lab_eq hFi hFk).2 h)
 have hz:(nwOf n o).lo k i=0:=Nw.lo_other ok.ok hlt hkM hg hroot
 refine .par follows 22 [.inl _,.inl _,.inl s,.inl _,.inr (Ptr eL (fun _=>True) (n.ls.getD i ln0)),.inr (Ptr (eInt .i64) (fun _=>True) (((nwOf n o).F i:Nat):Int)),.inl (.int .i64 ((nwOf n o).F i:Nat)),.inr (Ptr (eInt .i64) (fun _=>True) (((nwOf n o).lab ((nwOf n o).F i):Nat):Int)),.inl (.int .i64 (((nwOf n o).lab ((nwOf n o).F i):Nat):Int)),.inl _,.inl _,.inl s,.inl _,.inr (Ptr eL (fun _=>True) (n.ls.getD k ln0)),.inr (Ptr (eInt .i64) (fun _=>True) (((nwOf n o).F k:Nat):Int)),.inl (.int .i64 ((nwOf n o).F k:Nat)),.inr (Ptr (eInt .i64) (fun _=>True) (((nwOf n o).lab ((nwOf n o).F k):Nat):Int)),.inl (.int .i64 (((nwOf n o).lab ((nwOf n o).F k):Nat):Int)),.inl (.bool true),.inl (.bool true),.inl _,.inl _] [[],[],[(70,1)],[],[(71,2),(72,3)],[(73,4)],[(74,5)],[(69,0),(75,6)],[(76,7)],[],[],[(79,10)],[],[(80,11),(81,12)],[(82,13)],[(83,14)],[(78,9),(84,15)],[(85,16)],[(77,8),(86,17)],[(87,18)],[(88,19)],[(88,19)]] (by kernel_rfl) ⟨
  fun w e=>(v_mv O).ob,
  fun w e=>(v_fa I6 O).ob,
  fun w e=>(v_ld N1 O (k3.ext e) O).ob,
  fun w e=>(v_mv O).ob,
  fun w e=>D7 (i:=i) L5 N2 O (hsW.ext e) O hgi,
  fun w e x4 hx4=>(by rw [<-hF0];exact Ae0 I2 O hx4 (by decide)),
  fun w e x5 hx5=>V4 A9 O hx5,
  fun w e=>D7 (i:=(nwOf n o).F i) un_I B0 O (ER.ext eI hofW e) O ho1,
  fun w e x7 hx7=>V4 B0 O hx7,
  fun w e=>(v_mv O).ob,
  fun w e=>(v_fa I6 O).ob,
  fun w e=>(v_ld N1 O (k3.ext e) O).ob,
  fun w e=>(v_mv O).ob,
  fun w e=>D7 (i:=k) L5 N2 O (hsW.ext e) O hgk,
  fun w e x13 hx13=>(by rw [<-hF1];exact Ae0 I2 O hx13 (by decide)),
  fun w e x14 hx14=>V4 A9 O hx14,
  fun w e=>D7 (i:=(nwOf n o).F k) un_I B0 O (ER.ext eI hofW e) O ho2,
  fun w e x16 hx16=>V4 B0 O hx16,
  fun w e=>((v_neq O O).eq (by simp;omega)).ob,
  fun w e=>(v_mv O).ob,
  fun w e=>(v_mv O).ob,
  fun w e=>(v_mv O).ob,trivial⟩ ?_
 intro W2 d2 y4 hy4 y5 hy5 y7 hy7 y13 hy13 y14 hy14 y16 hy16
 rw [hz] at hgl
 refine .go O (.ixN (i:=i) un_V ty_Q O O (ER.ext eV hlW d2) O hgl fun q hq=>.go O (.ldE (E:=eQ) ty_Q O O hq fun vq hvq=>.go O ?_))
 have hsg:=T6 hvq
 rw [B7,sgn0] at hsg
 refine .call _ O U6 O hsg fun v4 W4 d4 h4=>?_
 subst h4
 exact .go O (.neqF O O O O (.go O (.inc O O O (by omega) (.goN O (.mk (i+1) O (lc1 O) ⟨⟨hW.trans (d2.trans d4),hlt⟩,by show n.ls.length-(i+1)<n.ls.length-i;omega⟩)))))
end Go.Proofs.YtggegpiffjbngaaGreat
namespace Go.Kx
open Go Go.RowKit Go.ChangeShapes Go.WideShapes
section
variable {H:Type} {enc:TypeId×Value->H} {P:Program} {W:World}
def sh4 (P:Program) (t:TypeId):Option (List (TypeId×Nat)) :=
 match P.underlying t with
 | some (.struct fs)=>if fs.size=4 then some (fs.toList.map fun f=>(f.type,f.offset)) else none
 | _=>none
theorem opn_int4 {t ti tj:TypeId} (hs:sh4 P t=some [(ti,0),(ti,1),(tj,2),(tj,3)]) (hi:P.underlying ti=some (.int .i64)) (hj:P.underlying tj=some (.int .i64)) (hci:P.cellsOf ti=1) (hcj:P.cellsOf tj=1) (hct:P.cellsOf t=4):Opn enc P W eL t (fun _ _=>True):=by
 intro fuel cs x hx hfz
 unfold sh4 at hs
 split at hs
 ·rename_i fs hu
  split at hs
  ·rename_i hsz
   simp only [Option.some.injEq] at hs
   obtain ⟨l⟩:=fs
   match l,hsz with
   | [f0,f1,f2,f3],_ =>
    simp only [List.map_cons,List.map_nil,List.cons.injEq,Prod.mk.injEq,and_true] at hs
    obtain ⟨⟨h0,o0⟩,⟨h1,o1⟩,⟨h2,o2⟩,h3,o3⟩:=hs
    obtain ⟨y0,y1,y2,y3,n,rfl,hl,g0,g1,g2,g3⟩:=Joins.trod_struct4 hu hx
    rw [h0,o0,hci] at g0
    rw [h1,o1,hci] at g1
    rw [h2,o2,hcj] at g2
    rw [h3,o3,hcj] at g3
    rw [hct] at hl
    obtain ⟨c0,c1,c2,c3,rfl⟩:∃ c0 c1 c2 c3,cs=[c0,c1,c2,c3]:=by
     match cs,hl with
     | [c0,c1,c2,c3],_=>exact ⟨c0,c1,c2,c3,rfl⟩
    obtain ⟨n0,e0,_,w0⟩:=DataW.trod_int hi g0
    obtain ⟨n1,e1,_,w1⟩:=DataW.trod_int hi g1
    obtain ⟨n2,e2,_,w2⟩:=DataW.trod_int hj g2
    obtain ⟨n3,e3,_,w3⟩:=DataW.trod_int hj g3
    simp at e0 e1 e2 e3
    subst e0 e1 e2 e3
    exact ⟨.agg #[.int .i64 n0,.int .i64 n1,.int .i64 n2,.int .i64 n3],⟨n0,n1,n2,n3⟩,rfl,⟨rfl,BB6 w0,BB6 w1,BB6 w2,BB6 w3⟩,trivial⟩
  ·cases hs
 ·cases hs
theorem opn_N {t ti tl te:TypeId} (hs:sh2 P t=some ((ti,0),(tl,1))) (hi:P.underlying ti=some (.int .i64)) (hci:P.cellsOf ti=1) (hcl:P.cellsOf tl=1) (hct:P.cellsOf t=2) (hl:P.underlying tl=some (.slice te)) (hce:P.cellsOf te=4) (he:Opn enc P W eL te (fun _ _=>True)):Opn enc P W eN t (fun _ _=>True):=by
 intro fuel cs x hx hfz
 obtain ⟨y0,y1,n,rfl,hlen,h0,h1⟩:=Ai9 hs hx
 rw [hci] at h0
 rw [hcl] at h1
 rw [hct] at hlen
 obtain ⟨c0,c1,rfl⟩:∃ c0 c1,cs=[c0,c1]:=by
  match cs,hlen with
  | [c0,c1],_=>exact ⟨c0,c1,rfl⟩
 obtain ⟨b,hb',_,hw⟩:=DataW.trod_int hi h0
 simp at hb'
 subst hb'
 obtain ⟨e,l,he',hR,_⟩:=(Opn.slice (Z:=fun _ _=>True) (E:=eL) (by decide) hl hce he) n _ _ h1 hfz.right
 obtain ⟨a,c,rfl,_⟩:=RL.len hR
 simp [Value.cells] at he'
 subst he'
 exact ⟨.agg #[.int .i64 b,.slice a l.length c],⟨b,l⟩,rfl,⟨_,rfl,hR,BB6 hw⟩,trivial⟩
end
end Go.Kx
namespace Go.Proofs.YtggegpiffjbngaaGreat
open Go Go.Kx Go.RowKit
section
variable {H:Type} {enc:TypeId×Value->H} {W:World}
theorem opnN:Opn enc Tryz.prog W eN 24 (fun _ _=>True):=opn_N (ti:=3) (tl:=22) (te:=58) (by kernel_rfl) AC5 (by kernel_rfl) (by kernel_rfl) (by kernel_rfl) L5 (by kernel_rfl) (opn_int4 (ti:=3) (tj:=2) (by kernel_rfl) AC5 Ad3 (by kernel_rfl) (by kernel_rfl) (by kernel_rfl))
theorem opnH:Opn enc Tryz.prog W eI 25 (ZL fun _ _=>True):=Opn.slice (by decide) un_I (by kernel_rfl) (opn_int AC5)
end
end Go.Proofs.YtggegpiffjbngaaGreat
