/-
  What the claim leans on.
-/
import Derived.Test.YtggegpiffjbngaaGreatG7
import Derived.Lib.SmallJoins
set_option linter.unusedVariables false
namespace Go.Proofs.YtggegpiffjbngaaGreat
open Go Go.Kx Go.RowKit
theorem put_oN {o u:List Int} {k:Nat} (h:Put o (k:Nat) u) (j:Nat):j∈oN u<->j=k\/j∈oN o:=by
 unfold oN
 rw [List.mem_map,List.mem_map]
 constructor
 ·rintro ⟨x,hx,rfl⟩
  rcases (h.mem x).1 hx with rfl | h1
  ·exact .inl (by simp)
  ·exact .inr ⟨x,h1,rfl⟩
 ·rintro (rfl | ⟨x,hx,rfl⟩)
  ·exact ⟨_,(h.mem _).2 (.inl O),by simp⟩
  ·exact ⟨x,(h.mem x).2 (.inr hx),rfl⟩
open Go Go.Kx Go.RowKit
set_option maxRecDepth 8000 in
theorem law19_LodfOrder_c {w:World} {vn vo vx:Value} {n:NtV} {o:List Int} {x:List QV} {a b:Int} (hn:eN.R (fun _=>True) w vn n) (ho:eI.R (fun _=>True) w vo o) (ha0:IntKind.u8.min<=a) (ha1:a<=IntKind.u8.max) (hb0:IntKind.u8.min<=b) (hb1:b<=IntKind.u8.max) (hx:eV.R (fun _=>True) w vx x):CR Tryz.prog 10 #[vn,vo,.int .u8 a,.int .u8 b,vx] w (Is (.bool true)):=by
 obtain ⟨s,rfl,hs,hb⟩:=hn
 have hn:eN.R (fun _=>True) w (.agg #[.int .i64 n.b,s]) n:=⟨s,rfl,hs,hb⟩
 obtain ⟨ax,cx,hvx,_,hxl⟩:=RL.len hx
 refine enter Tryz.func10 O Tryz.ntmps10 O (.beg (.go O (.box O O fun w1 b3 n1=>?_)))
 obtain ⟨e1,k3,hb3,hs1⟩:=n1
 replace k3:Blk w1 b3 24 #[.int .i64 n.b,s]:=k3
 refine .go O (.ldA ty_N O O k3 O (.go O (.bsl _ O O (by rw [hvx];exact BI1) fun w2 b17 n2=>?_)))
 have hl:eM.R (fun _=>True) w2 (.slice (some ⟨b17,0,none⟩) 1 1) [x]:=BH1 [vx] [x] n2 upT (by rw [hvx]) O (by decide) (Els.snoc Els.nil (ER.ext eV hx e1))
 have x2:=e1.trans n2.1
 refine .call _ O E_law17_Long O (law17_LongO_c (hn.ext x2) (ho.ext x2) hl) fun v3 w3 e3 h3=>?_
 obtain ⟨bl,rfl,hlong⟩:=h3
 have x3:=x2.trans e3
 have k3:=k3.ext (n2.1.trans e3)
 clear hl
 cases bl with
 | true =>
  refine .go O (.call _ O E_law19_awake O law19_awake_c fun v4 w4 e4 h4=>?_)
  subst h4
  exact .goE O (.plain [_] Tryz.results10 ⟨rfl,trivial⟩ ⟨x3.trans e4,rfl⟩)
 | false =>
 have hk:vk 4 x:=((hlong O).2.2 x (by simp)).vk hx
 have hx20:x.length<=20:=((hlong O).2.2 x (by simp)).1
 refine .go O (.fa I6 O O (.go O (.ld N1 O O k3 O (.go O (.lenR L5 O O (hs.ext x3) (.go O ?_))))))
 by_cases hM0:n.ls.length=0
 ·refine .eqlT O O O (by omega) (.go O (.call _ O E_law19_awake O law19_awake_c fun v4 w4 e4 h4=>?_))
  subst h4
  exact .goE O (.plain [_] Tryz.results10 ⟨rfl,trivial⟩ ⟨x3.trans e4,rfl⟩)
 refine .eqlF O O O (by omega) (.go O (.call _ O E_law19_awake O law19_awake_c fun v4 w4 e4 h4=>?_))
 subst h4
 have x4:=x3.trans e4
 have k3:=k3.ext e4
 have hM100:=(hlong O).1
 have ho100:=(hlong O).2.1
 have a0:0<=a:=ha0
 have a1:a<=255:=ha1
 have b0:0<=b:=hb0
 have b1:b<=255:=hb1
 obtain ⟨i,hi⟩:∃ i:Nat,a.tmod (n.ls.length:Nat)=i:=⟨(a.tmod (n.ls.length:Nat)).toNat,by have:=Int.tmod_nonneg (n.ls.length:Int) a0;omega⟩
 obtain ⟨k,hkk⟩:∃ k:Nat,b.tmod (n.ls.length:Nat)=k:=⟨(b.tmod (n.ls.length:Nat)).toNat,by have:=Int.tmod_nonneg (n.ls.length:Int) b0;omega⟩
 have hiM:i<n.ls.length:=by have:=Int.tmod_lt_of_pos a (show (0:Int)<n.ls.length by omega);omega
 have hkM:k<n.ls.length:=by have:=Int.tmod_lt_of_pos b (show (0:Int)<n.ls.length by omega);omega
 have hs4:=hs.ext x4
 refine .goC O ?_
 refine .par follows 13 [.inl _,.inl (.int .i64 a),.inl _,.inl s,.inl (.int .i64 (n.ls.length:Nat)),.inl (.int .i64 (i:Nat)),.inl _,.inl (.int .i64 b),.inl _,.inl s,.inl (.int .i64 (n.ls.length:Nat)),.inl (.int .i64 (k:Nat)),.inl _] [[],[(37,0)],[],[(39,2)],[(40,3)],[(38,1),(41,4)],[],[(43,6)],[],[(45,8)],[(46,9)],[(44,7),(47,10)],[(42,5)]] (by kernel_rfl) ⟨
  fun w e=>(v_mv O).ob,
  fun w e=>((S6 AJ6 AC5 O).eq (by rw [wI (by omega)])).ob,
  fun w e=>(v_fa I6 O).ob,
  fun w e=>(v_ld N1 O (k3.ext e) O).ob,
  fun w e=>(v_lenR L5 O (hs4.ext e)).ob,
  fun w e=>((Aa3 O O (by omega)).eq (by rw [hi])).ob,
  fun w e=>(v_mv O).ob,
  fun w e=>((S6 AJ6 AC5 O).eq (by rw [wI (by omega)])).ob,
  fun w e=>(v_fa I6 O).ob,
  fun w e=>(v_ld N1 O (k3.ext e) O).ob,
  fun w e=>(v_lenR L5 O (hs4.ext e)).ob,
  fun w e=>((Aa3 O O (by omega)).eq (by rw [hkk])).ob,
  fun w e=>(v_as O).ob,trivial⟩ ?_
 intro w5 e5 
 have x5:=x4.trans e5
 have k3:=k3.ext e5
 refine .go O ?_
 refine .call _ O E_law19_with O (law19_with_c (S:=fun _=>True) (k:=(i:Nat)) upT (ho.ext x5) (I7.2 (by omega)) (by omega)) fun v6 w6 e6 h6=>?_
 obtain ⟨v1,p1,rfl,u1,hu1,hp1,_⟩:=h6
 have x6:=x5.trans e6
 have k3:=k3.ext e6
 refine .go O ?_
 refine .call _ O E_law19_with O (law19_with_c (S:=fun _=>True) (k:=(k:Nat)) upT (ho.ext x6) (I7.2 (by omega)) (by omega)) fun v7 w7 e7 h7=>?_
 obtain ⟨v2,p2,rfl,u2,hu2,hp2,_⟩:=h7
 have x7:=x6.trans e7
 have k3:=k3.ext e7
 have hu1:=ER.ext eI hu1 e7
 cases p1 with
 | false=>exact .goE O (.plain [_] Tryz.results10 ⟨rfl,trivial⟩ ⟨x7,rfl⟩)
 | true =>
 cases p2 with
 | false=>exact .goE O (.plain [_] Tryz.results10 ⟨rfl,trivial⟩ ⟨x7,rfl⟩)
 | true =>
 obtain ⟨_,hP1⟩:=hp1 rfl
 obtain ⟨_,hP2⟩:=hp2 rfl
 refine .go O ?_
 by_cases hik:i=k
 ·exact .eqlT O O O (by omega) (.goE O (.plain [_] Tryz.results10 ⟨rfl,trivial⟩ ⟨x7,rfl⟩))
 refine .eqlF O O O (by omega) (.go O (.ldA ty_N O O k3 O (.go O ?_)))
 refine .call _ O Ag5 O (Ae5 (T0:=fun _=>True) (L:=4) (line:=(k:Nat)) upT upT (hn.ext x7) hu1 (ER.ext eV hx x7) hk (by decide) (by decide)) fun v8 w8 e8 h8=>?_
 obtain ⟨va,ve,rfl,ha,he⟩:=h8
 replace he:ve=.int .i64 (afE n u1 (k:Nat) x):=he
 subst he
 have x8:=x7.trans e8
 have k3:=k3.ext e8
 refine .go O (.ldA ty_N O O k3 O (.go O ?_))
 refine .call _ O Ag5 O (Ae5 (T0:=fun _=>True) (L:=4) (line:=(i:Nat)) upT upT (hn.ext x8) (ER.ext eI hu2 e8) (ER.ext eV hx x8) hk (by decide) (by decide)) fun v9 w9 e9 h9=>?_
 obtain ⟨vb,ve,rfl,hbv,he⟩:=h9
 replace he:ve=.int .i64 (afE n u2 (i:Nat) x):=he
 subst he
 have x9:=x8.trans e9
 have ha:=ER.ext eV ha e9
 refine .go O ?_
 by_cases hA:afE n u1 (k:Nat) x=0
 rotate_left
 ·exact .neqT O O O hA (.goE O (.plain [_] Tryz.results10 ⟨rfl,trivial⟩ ⟨x9,rfl⟩))
 refine .neqF O O O hA (.go O ?_)
 by_cases hB:afE n u2 (i:Nat) x=0
 rotate_left
 ·exact .neqT O O O hB (.goE O (.plain [_] Tryz.results10 ⟨rfl,trivial⟩ ⟨x9,rfl⟩))
 rw [if_pos hA] at ha
 rw [if_pos hB] at hbv
 have hcut:(nwOf n u1).cut k=(nwOf n u2).cut i:=by
  have h1:nwOf n u1=(nwOf n o).cut i:=nw_cut (put_oN hP1)
  have h2:nwOf n u2=(nwOf n o).cut k:=nw_cut (put_oN hP2)
  rw [h1,h2]
  have:(fun j=>if j=k then (0:Rat) else if j=i then 0 else (nwOf n o).g j)=fun j=>if j=i then (0:Rat) else if j=k then 0 else (nwOf n o).g j:=by
   funext j
   split
   ·split<;>rfl
   ·rfl
  show Nw.mk _ _ _ _ _=Nw.mk _ _ _ _ _
  exact congrArg _ this
 have hV:afV n u1 ((k:Nat):Int).toNat x=afV n u2 ((i:Nat):Int).toNat x:=by
  show tab n.ls.length (((nwOf n u1).cut k).fl (((nwOf n u1).cut k).an (rv x)))=tab n.ls.length (((nwOf n u2).cut i).fl (((nwOf n u2).cut i).an (rv x)))
  rw [hcut]
 refine .neqF O O O hB (.go O ?_)
 refine .call _ O AX6 O (isV_t ha hbv hV) fun v10 w10 e10 h10=>?_
 subst h10
 exact .goE O (.plain [_] Tryz.results10 ⟨rfl,trivial⟩ ⟨x9.trans e10,rfl⟩)
end Go.Proofs.YtggegpiffjbngaaGreat
namespace Go.Kx
open Go Go.RowKit Go.ChangeShapes Go.WideShapes
section
variable {H:Type} {enc:TypeId×Value->H} {P:Program} {W:World}
def sh4 (P:Program) (t:TypeId):Option (List (TypeId×Nat)) :=
 match P.underlying t with
 | some (.struct fs)=>if fs.size=4 then some (fs.toList.map fun f=>(f.type,f.offset)) else none
 | _=>none
theorem opn_int4 {t ti tj:TypeId} (hs:sh4 P t=some [(ti,0),(ti,1),(tj,2),(tj,3)]) (hi:P.underlying ti=some (.int .i64)) (hj:P.underlying tj=some (.int .i64)) (hci:P.cellsOf ti=1) (hcj:P.cellsOf tj=1) (hct:P.cellsOf t=4):Opn enc P W eL t (fun _ _=>True):=by
 intro fuel cs x hx hfz
 unfold sh4 at hs
 split at hs
 ·rename_i fs hu
  split at hs
  ·rename_i hsz
   simp only [Option.some.injEq] at hs
   obtain ⟨l⟩:=fs
   match l,hsz with
   | [f0,f1,f2,f3],_ =>
    simp only [List.map_cons,List.map_nil,List.cons.injEq,Prod.mk.injEq,and_true] at hs
    obtain ⟨⟨h0,o0⟩,⟨h1,o1⟩,⟨h2,o2⟩,h3,o3⟩:=hs
    obtain ⟨y0,y1,y2,y3,n,rfl,hl,g0,g1,g2,g3⟩:=Joins.trod_struct4 hu hx
    rw [h0,o0,hci] at g0
    rw [h1,o1,hci] at g1
    rw [h2,o2,hcj] at g2
    rw [h3,o3,hcj] at g3
    rw [hct] at hl
    obtain ⟨c0,c1,c2,c3,rfl⟩:∃ c0 c1 c2 c3,cs=[c0,c1,c2,c3]:=by
     match cs,hl with
     | [c0,c1,c2,c3],_=>exact ⟨c0,c1,c2,c3,rfl⟩
    obtain ⟨n0,e0,_,w0⟩:=DataW.trod_int hi g0
    obtain ⟨n1,e1,_,w1⟩:=DataW.trod_int hi g1
    obtain ⟨n2,e2,_,w2⟩:=DataW.trod_int hj g2
    obtain ⟨n3,e3,_,w3⟩:=DataW.trod_int hj g3
    simp at e0 e1 e2 e3
    subst e0 e1 e2 e3
    exact ⟨.agg #[.int .i64 n0,.int .i64 n1,.int .i64 n2,.int .i64 n3],⟨n0,n1,n2,n3⟩,rfl,⟨rfl,BB6 w0,BB6 w1,BB6 w2,BB6 w3⟩,trivial⟩
  ·cases hs
 ·cases hs
theorem opn_N {t ti tl te:TypeId} (hs:sh2 P t=some ((ti,0),(tl,1))) (hi:P.underlying ti=some (.int .i64)) (hci:P.cellsOf ti=1) (hcl:P.cellsOf tl=1) (hct:P.cellsOf t=2) (hl:P.underlying tl=some (.slice te)) (hce:P.cellsOf te=4) (he:Opn enc P W eL te (fun _ _=>True)):Opn enc P W eN t (fun _ _=>True):=by
 intro fuel cs x hx hfz
 obtain ⟨y0,y1,n,rfl,hlen,h0,h1⟩:=Ai9 hs hx
 rw [hci] at h0
 rw [hcl] at h1
 rw [hct] at hlen
 obtain ⟨c0,c1,rfl⟩:∃ c0 c1,cs=[c0,c1]:=by
  match cs,hlen with
  | [c0,c1],_=>exact ⟨c0,c1,rfl⟩
 obtain ⟨b,hb',_,hw⟩:=DataW.trod_int hi h0
 simp at hb'
 subst hb'
 obtain ⟨e,l,he',hR,_⟩:=(Opn.slice (Z:=fun _ _=>True) (E:=eL) (by decide) hl hce he) n _ _ h1 hfz.right
 obtain ⟨a,c,rfl,_⟩:=RL.len hR
 simp [Value.cells] at he'
 subst he'
 exact ⟨.agg #[.int .i64 b,.slice a l.length c],⟨b,l⟩,rfl,⟨_,rfl,hR,BB6 hw⟩,trivial⟩
end
end Go.Kx
namespace Go.Proofs.YtggegpiffjbngaaGreat
open Go Go.Kx Go.RowKit
section
variable {H:Type} {enc:TypeId×Value->H} {W:World}
theorem opnN:Opn enc Tryz.prog W eN 24 (fun _ _=>True):=opn_N (ti:=3) (tl:=22) (te:=58) (by kernel_rfl) AC5 (by kernel_rfl) (by kernel_rfl) (by kernel_rfl) L5 (by kernel_rfl) (opn_int4 (ti:=3) (tj:=2) (by kernel_rfl) AC5 Ad3 (by kernel_rfl) (by kernel_rfl) (by kernel_rfl))
theorem opnH:Opn enc Tryz.prog W eI 25 (ZL fun _ _=>True):=Opn.slice (by decide) un_I (by kernel_rfl) (opn_int AC5)
end
end Go.Proofs.YtggegpiffjbngaaGreat
