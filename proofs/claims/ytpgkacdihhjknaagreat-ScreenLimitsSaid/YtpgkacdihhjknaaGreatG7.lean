/-
  What the claim leans on.
-/
import Derived.Test.YtpgkacdihhjknaaGreatG6
import Derived.Lib.SmallJoins
set_option linter.unusedVariables false
namespace Go.Proofs.YtpgkacdihhjknaaGreat
open Go Go.Kx Go.RowKit
@[reducible] def zFd:Value:=.agg #[.int .i64 0,.int .i64 0,.bool false,.slice none 0 0,.bool false,.slice none 0 0,.bool false,.slice none 0 0,.bool false,.slice none 0 0]
@[reducible] def zSit:Value:=.agg #[.int .i64 0,.bool false,.slice none 0 0,.int .i64 0]
theorem E9:tyOf Tryz.prog 41=some (true,10):=by kernel_rfl
theorem Z3:tyOf Tryz.prog 29=some (false,1):=by kernel_rfl
theorem I9:Tryz.prog.underlying 29=some (.slice 41):=by kernel_rfl
theorem Ax7:infoOf Tryz.prog 41=some (zFd,10,144):=by kernel_rfl
theorem AD9:zeroOf Tryz.prog 41=some zFd:=by kernel_rfl
theorem Aj2:zeroOf Tryz.prog 29=some (.slice none 0 0):=by kernel_rfl
theorem AO5:tyOf Tryz.prog 32=some (false,1):=by kernel_rfl
theorem inI0:inI 0:=E0.2 (by decide)
theorem inIm1:inI (-1):=E0.2 (by decide)
theorem zero_Er:zeroOf Tryz.prog 32=some (.int .i64 0):=by kernel_rfl
theorem AL7:fldOf Tryz.prog 41 0=some 0:=by kernel_rfl
theorem AA0:fldOf Tryz.prog 41 1=some 1:=by kernel_rfl
theorem Ag4:fldOf Tryz.prog 41 2=some 2:=by kernel_rfl
theorem T6:fldOf Tryz.prog 41 3=some 6:=by kernel_rfl
theorem AW3:tyOf Tryz.prog 105=some (true,4):=by kernel_rfl
theorem Aj1:zeroOf Tryz.prog 105=some zSit:=by kernel_rfl
theorem An4:fldOf Tryz.prog 105 0=some 0:=by kernel_rfl
theorem AY0:fldOf Tryz.prog 105 1=some 1:=by kernel_rfl
theorem An3:fldOf Tryz.prog 105 2=some 2:=by kernel_rfl
theorem An2:fldOf Tryz.prog 105 3=some 3:=by kernel_rfl
theorem BM8 {l:Int} {a:Option Addr} {m c:Nat}:bldOf Tryz.prog 105 [(0,.int .i64 l),(2,.slice a m c)]=some #[.int .i64 l,.bool false,.slice a m c,.int .i64 0]:=by kernel_rfl
theorem BM7 {l:Int} {b:Bool}:bldOf Tryz.prog 105 [(0,.int .i64 l),(1,.bool b)]=some #[.int .i64 l,.bool b,.slice none 0 0,.int .i64 0]:=by kernel_rfl
theorem bld_Fd2 {l m:Int}:bldOf Tryz.prog 41 [(0,.int .i64 l),(1,.int .i64 m)]=some #[.int .i64 l,.int .i64 m,.bool false,.slice none 0 0,.bool false,.slice none 0 0,.bool false,.slice none 0 0,.bool false,.slice none 0 0]:=by kernel_rfl
theorem bld_Fd4 {l m:Int} {x y z u x' y' z' u':Value}:bldOf Tryz.prog 41 [(0,.int .i64 l),(1,.int .i64 m),(2,.agg #[x,y,z,u]),(3,.agg #[x',y',z',u'])]=some #[.int .i64 l,.int .i64 m,x,y,z,u,x',y',z',u']:=by kernel_rfl
theorem Az0 {a b x y z u x' y' z' u':Value}:bslOf Tryz.prog 29 1 [(0,.agg #[a,b,x,y,z,u,x',y',z',u'])]=some (41,#[a,b,x,y,z,u,x',y',z',u']):=by kernel_rfl
noncomputable def sitV (n:NtV) (o:List Int) (x:Nat->Rat):Nat->SitV
 | 0=>⟨-1,false,tab n.ls.length (flB n o x),0⟩
 | i+1=>⟨((inL n o).getD i 0:Nat),decide ((nwOf n o).brg ((inL n o).getD i 0)),if (nwOf n o).brg ((inL n o).getD i 0) then [] else tab n.ls.length (flK n o x ((inL n o).getD i 0)),0⟩
theorem Ah8:Ent Tryz.prog 67:=A0 Tryz.func67 (by kernel_rfl) rfl
theorem Ae6 {w:World} {vn vo vx vb x y:Value} (hn:vn=.agg #[x,y]) {a a' a2:Option Addr} {m c m' c' m2 c2:Nat} (ho:vo=.slice a m c) (hx:vx=.slice a' m' c') (hb:vb=.slice a2 m2 c2):CR Tryz.prog 67 #[vn,vo,vx,vb] w (fun v w'=>∃ b1 b2 b3 b4,v=.func (.func 114) #[] #[.pointer (some ⟨b4,0,none⟩),.pointer (some ⟨b1,0,none⟩),.pointer (some ⟨b2,0,none⟩),.pointer (some ⟨b3,0,none⟩)] /\
  (Blk w' b1 24 #[x,y]/\Blk w' b2 25 #[vo]/\Blk w' b3 26 #[vx]/\Blk w' b4 26 #[vb])/\w.heap.size<=b1/\w.heap.size<=b2/\w.heap.size<=b3/\w.heap.size<=b4):=by
 subst hn;subst ho;subst hx;subst hb
 refine enter Tryz.func67 O Tryz.ntmps67 O (.beg (.go O (.box O O fun w1 b1 n1=>.box O O fun w2 b2 n2=>.box O O fun w3 b3 n3=>.box O O fun w4 b4 n4=>?_)))
 obtain ⟨e1,k1,hb1,hs1⟩:=n1
 obtain ⟨e2,k2,hb2,hs2⟩:=n2
 obtain ⟨e3,k3,hb3,hs3⟩:=n3
 obtain ⟨e4,k4,hb4,hs4⟩:=n4
 have e34:=e3.trans e4
 have e24:=e2.trans e34
 refine .go O (.mkf [] [_,_,_,_] O O O O (.goE O ?_))
 exact .plain [_] Tryz.results67 ⟨rfl,trivial⟩ ⟨e1.trans e24,b1,b2,b3,b4,rfl,⟨k1.ext e24,k2.ext e34,k3.ext e4,k4⟩,by omega,by omega,by omega,by omega⟩
structure SitF (TB:Nat->Prop) (b0 b1 b2 b3 b4:Nat) (n:NtV) (o:List Int) (x:List QV) (s vo vx vb:Value) (W:World):Prop where
 k1:Blk W b1 24 #[.int .i64 n.b,s]
 k2:Blk W b2 25 #[vo]
 k3:Blk W b3 26 #[vx]
 k4:Blk W b4 26 #[vb]
 hn:eN.R (fun j=>j<b0) W (.agg #[.int .i64 n.b,s]) n
 ho:eI.R (fun j=>j<b0) W vo o
 hx:eV.R (fun j=>j<b0) W vx x
 hb:eV.R TB W vb (tab n.ls.length (flB n o (rv x)))
theorem Ab3:Ent Tryz.prog 114:=A0 Tryz.func114 (by kernel_rfl) rfl
set_option maxRecDepth 8000 in
theorem Aa4 {n:NtV} {o:List Int} {x:List QV} {s vo vx vb:Value} {TB:Nat->Prop} {b0 b1 b2 b3 b4 L:Nat} (hO:outE n o=0) (hA:anE n o x=0) (hkx:vk L x) (hL1:1<=L) (hL:L<=9000):IterP Tryz.prog 114 #[.pointer (some ⟨b4,0,none⟩),.pointer (some ⟨b1,0,none⟩),.pointer (some ⟨b2,0,none⟩),.pointer (some ⟨b3,0,none⟩)] (1+(inL n o).length)
  (fun k B vs W=>∃ v,vs=[v]/\eSit.R (fun j=>TB j\/B<=j) W v (sitV n o (rv x) k)) (SitF TB b0 b1 b2 b3 b4 n o x s vo vx vb) b0:=by
 intro l J X stJ stX hF hsn hpr hy a V W hJ
 have hll:=T5 n o
 have ok:=I0 hO
 have hM10:n.ls.length<=10:=ok.m
 have hF0:=hF 0 a V W hJ
 obtain ⟨ab,cb,hvb,_⟩:=RL.len hF0.hb
 have nxt:∀ {k:Nat} {a:Nat} {V W W5:World} {v:Value},k<1+(inL n o).length->J k a V W->Ext W W5->eSit.R (fun j=>TB j\/W.heap.size<=j) W5 v (sitV n o (rv x) k)->YieldAt (wf none) 0 Tryz.prog l [v].toArray W5 fun e W'=>∃ u,e=.returned u/\((u=.bool true/\J (k+1) a V W')\/(u=.bool false/\X W')):=fun {k a V W W5 v} hk hJ e hv=>by
  refine YieldAt.mono (hy k a V W W5 [v] hk hJ e ⟨v,rfl,hv⟩) ?_
  rintro e W' (⟨rfl,h⟩ | ⟨rfl,h⟩)
  ·exact ⟨_,rfl,.inl ⟨rfl,h⟩⟩
  ·exact ⟨_,rfl,.inr ⟨rfl,h⟩⟩
 refine enterG Tryz.func114 O Tryz.ntmps114 O (.beg (.go O (.ld ty_V O O hF0.k4 O (.bld _ O O (by rw [hvb];exact BM8) ?_))))
 have hs0:eSit.R (fun j=>TB j\/W.heap.size<=j) W (.agg #[.int .i64 (-1),.bool false,vb,.int .i64 0]) (sitV n o (rv x) 0):=⟨vb,rfl,inIm1,inI0,eV.mono (fun _ _ h=>.inl h) hF0.hb⟩
 rw [<-hvb]
 refine .go O (.yld (l:=l) [.agg #[.int .i64 (-1),.bool false,vb,.int .i64 0]] (R:=fun v w'=>(v=.bool true/\J 1 a V w')\/(v=.bool false/\X w')) O O O (nxt (by omega) hJ (Ext.refl _) hs0) ?_)
 clear hs0 hF0 hJ hvb
 rintro v w1 (⟨rfl,hJ⟩ | ⟨rfl,h⟩)
 rotate_left
 ·exact .goE O (.plain [] Tryz.results114 trivial (.inr h))
 obtain ⟨k1,k2,k3,k4,hn,ho,hx,hb⟩:=hF 1 a V w1 hJ
 have upS:∀ {W:World},w1.heap.size<=W.heap.size->Up (fun j=>j<b0\/w1.heap.size<=j) W:=fun h k hk=>.inr (by omega)
 have hnS:=eN.mono (S':=fun j=>j<b0\/w1.heap.size<=j) (fun _ _ h=>.inl h) hn
 have hoS:=eI.mono (S':=fun j=>j<b0\/w1.heap.size<=j) (fun _ _ h=>.inl h) ho
 refine .go O (.ldA ty_N O O k1 O (.go O (.ld ty_I O O k2 O (.go O ?_))))
 refine .call _ O Y8 O (Y4 (upS (Nat.le_refl _)) hnS hoS) fun v2 w2 e2 h2=>?_
 obtain ⟨vl,ve,rfl,hl,he⟩:=h2
 replace he:ve=.int .i64 (outE n o):=he
 rw [hO] at he
 subst he
 rw [if_pos hO] at hl
 refine .go O (.neqF O O O O (.go O (.ldA ty_N O O (k1.ext e2) O (.go O (.ld ty_I O O (k2.ext e2) O (.go O ?_))))))
 refine .call _ O Ae1 O (Ae2 (upS e2.size) (hnS.ext e2) (ER.ext eI hoS e2)) fun v3 w3 e3 h3=>?_
 obtain ⟨vr,ve,rfl,hr,he⟩:=h3
 replace he:ve=.int .i64 (outE n o):=he
 rw [hO] at he
 subst he
 rw [if_pos hO] at hr
 have e13:=e2.trans e3
 have hl:=ER.ext eI hl e3
 have hJ:=hsn 1 a V w1 w3 hJ e13
 have hpl:(pInts (inL n o)).length=(inL n o).length:=by simp [pInts]
 refine .go O (.neqF O O O O (.go O (.lenR un_I O O hl (.goC O ?_))))
 rw [hpl]
 refine .lp (α:=Nat) [0,2,3,4,8,41,42] O (fun i=>[(43,.int .i64 (i:Nat))]) (fun i W=>J (i+1) w1.heap.size w3 W/\i<=(inL n o).length) (fun i=>(inL n o).length-i) 0 (lc1 O) ⟨hJ,Nat.zero_le _⟩ ?_
 clear hJ k1 k2 k3 k4 hn ho hx hb hnS hoS
 rintro i W ⟨hJ,hi⟩
 replace hJ:J (i+1) w1.heap.size w3 W:=hJ
 replace hi:i<=(inL n o).length:=hi
 have hk:=hpr _ _ _ _ hJ
 have hlW:=eI.keep hk hl
 have hrW:=eI.keep hk hr
 obtain ⟨k1,k2,k3,k4,hn,ho,hx,hb⟩:=hF _ _ _ W hJ
 refine .go O ?_
 rcases Nat.lt_or_ge i (inL n o).length with hlt | hge
 rotate_left
 ·have:i=(inL n o).length:=by omega
  subst this
  rw [Nat.add_comm] at hJ
  exact .lssF O O O (by omega) (.goE O (.plain [] Tryz.results114 trivial (.inl ⟨_,_,hJ⟩)))
 obtain ⟨hgk,hkM,hko⟩:=AF0 hlt
 have hsv:sitV n o (rv x) (i+1)=⟨((inL n o).getD i 0:Nat),decide ((nwOf n o).brg ((inL n o).getD i 0)),if (nwOf n o).brg ((inL n o).getD i 0) then [] else tab n.ls.length (flK n o (rv x) ((inL n o).getD i 0)),0⟩:=rfl
 generalize (inL n o).getD i 0=k at hgk hkM hko hsv
 refine .lssT O O O (by omega) (.go O (.ixN (i:=i) un_I A7 O O hlW O hgk fun q hq=>.ldE (E:=eInt .i64) A7 O O hq fun e he=>.go O ?_))
 obtain ⟨rfl,hki⟩:=he
 refine .call _ O AI6 O (AI7 hrW (by simp;unfold brL;exact Nat.le_trans (List.length_filter_le ..) (by omega))) fun v5 w5 e5 h5=>?_
 subst h5
 have hm:((k:Nat):Int)∈pInts (brL n o)<->(nwOf n o).brg k:=by
  unfold pInts brL
  rw [List.mem_map]
  constructor
  ·rintro ⟨j,hj,e⟩
   have:j=k:=by omega
   subst this
   exact of_decide_eq_true (List.mem_filter.1 hj).2
  ·intro h
   exact ⟨k,List.mem_filter.2 ⟨AU6.2 ⟨hkM,hko⟩,decide_eq_true h⟩,rfl⟩
 have hz0:=e5.size
 refine .go O (.bld _ O O BM7 (.alloc O Aj1 fun w6 c n6=>?_))
 obtain ⟨e6,kc,hc,hs6⟩:=n6
 have e56:=e5.trans e6
 have k1:=k1.ext e56
 have k2:=k2.ext e56
 have k3:=k3.ext e56
 by_cases hB:(nwOf n o).brg k
 ·rw [decide_eq_true (hm.2 hB)]
  have hs1:eSit.R (fun j=>j≠c) w6 (.agg #[.int .i64 (k:Nat),.bool true,.slice none 0 0,.int .i64 0]) (sitV n o (rv x) (i+1)):=by
   rw [hsv,decide_eq_true hB,if_pos hB]
   exact ⟨_,rfl,hki,inI0,RL.nil⟩
  have hs2:eSit.R (fun j=>TB j\/W.heap.size<=j) w6 (.agg #[.int .i64 (k:Nat),.bool true,.slice none 0 0,.int .i64 0]) (sitV n o (rv x) (i+1)):=by
   rw [hsv,decide_eq_true hB,if_pos hB]
   exact ⟨_,rfl,hki,inI0,RL.nil⟩
  refine .storeA (E:=eSit) (S:=fun j=>j≠c) AW3 O O kc O O hs1 (fun h=>h O) fun w7 kc u7 h7=>?_
  have e57:Ext W w7:=u7.below e56 (by omega)
  refine .go O (.fa AY0 O O (.ld B8 O O kc O (.go O (.ldA AW3 O O kc O (.go O ?_)))))
  have hs7:eSit.R (fun j=>TB j\/W.heap.size<=j) w7 (.agg #[.int .i64 (k:Nat),.bool true,.slice none 0 0,.int .i64 0]) (sitV n o (rv x) (i+1)):=by
   rw [hsv,decide_eq_true hB,if_pos hB]
   exact ⟨_,rfl,hki,inI0,RL.nil⟩
  refine .yld (l:=l) [.agg #[.int .i64 (k:Nat),.bool true,.slice none 0 0,.int .i64 0]] (R:=fun v w'=>(v=.bool true/\J (i+1+1) w1.heap.size w3 w')\/(v=.bool false/\X w')) O O O (nxt (by omega) hJ e57 hs7) ?_
  rintro v w8 (⟨rfl,hJ⟩ | ⟨rfl,h⟩)
  ·exact .go O (.inc O O O (by omega) (.goN O (.mk (i+1) O (lc1 O) ⟨⟨hJ,hlt⟩,by show (inL n o).length-(i+1)<(inL n o).length-i;omega⟩)))
  ·exact .goE O (.plain [] Tryz.results114 trivial (.inr h))
 ·rw [decide_eq_false fun h=>hB (hm.1 h)]
  have hs1:eSit.R (fun j=>j≠c) w6 (.agg #[.int .i64 (k:Nat),.bool false,.slice none 0 0,.int .i64 0]) ⟨(k:Nat),false,[],0⟩:=⟨_,rfl,hki,inI0,RL.nil⟩
  refine .storeA (E:=eSit) (S:=fun j=>j≠c) AW3 O O kc O O hs1 (fun h=>h O) fun w7 kc u7 h7=>?_
  have e57:Ext W w7:=u7.below e56 (by omega)
  have e67:Ext w6 w7\/True:=.inr trivial
  have k1:=k1.upd u7 (by have:=k1.lt;have:=hF _ _ _ W hJ;have:=this.k1.lt;omega)
  have k2:=k2.upd u7 (by have:=hF _ _ _ W hJ;have:=this.k2.lt;omega)
  have k3:=k3.upd u7 (by have:=hF _ _ _ W hJ;have:=this.k3.lt;omega)
  have hg:=BK8 ok hkM hko
  have hlk:lkE n o (k:Nat)=0:=by
   unfold lkE
   rw [if_neg (by simpa using hO),if_pos (List.mem_map.2 ⟨k,AU6.2 ⟨hkM,hko⟩,rfl⟩),Int.toNat_natCast,if_neg hB]
  have haf:afE n o (k:Nat) x=0:=by unfold afE;rw [if_neg (by simpa using hlk)];exact hA
  refine .go O (.fa AY0 O O (.ld B8 O O kc O (.go O (.ldA ty_N O O k1 O (.go O (.ld ty_I O O k2 O (.go O (.ld ty_V O O k3 O (.go O ?_)))))))))
  refine .call _ O Ai3 O (Af8 (S:=fun _=>True) (T0:=fun j=>w7.heap.size<=j) upT (fun _ h=>h) (eN.mono (fun _ _ _=>trivial) (hn.ext e57)) (eI.mono (fun _ _ _=>trivial) (ER.ext eI ho e57)) (eV.mono (fun _ _ _=>trivial) (ER.ext eV hx e57)) hkx hL1 hL) fun v8 w8 e8 h8=>?_
  obtain ⟨vf,ve,rfl,hf,he⟩:=h8
  replace he:ve=.int .i64 (afE n o (k:Nat) x):=he
  rw [haf] at he
  subst he
  rw [if_pos haf,Int.toNat_natCast] at hf
  replace hf:eV.R (fun j=>w7.heap.size<=j) w8 vf (tab n.ls.length (flK n o (rv x) k)):=hf
  have e58:=e57.trans e8
  have kc:=kc.ext e8
  have z8:=e8.size
  have hclt:c<w7.heap.size:=by have:=u7.size;omega
  obtain ⟨af,cf,hvf,_⟩:=RL.len hf
  refine .go O (.fa An3 O O (.store ty_V O O kc (by rw [hvf];rfl) (by simp [Value.cells]) (by rw [hvf];simp [one1,Value.cells]) fun w9 kc9 u9=>?_))
  replace kc9:Blk w9 c 105 #[.int .i64 (k:Nat),.bool false,vf,.int .i64 0]:=by rw [hvf] at kc9 ⊢;exact kc9
  refine .go O (.fa An2 O O (.store AO5 O O kc9 O (by simp [Value.cells]) (by simp [one1,Value.cells]) fun w10 kc10 u10=>?_))
  have e9:Ext W w10:=u10.below (u9.below e58 (by omega)) (by omega)
  have hf10:=eV.keep (Kp.upd u10 (by omega)) (eV.keep (Kp.upd u9 (by omega)) hf)
  replace kc10:Blk w10 c 105 #[.int .i64 (k:Nat),.bool false,vf,.int .i64 0]:=by rw [hvf] at kc10 ⊢;exact kc10
  refine .go O (.ldA AW3 O O kc10 O (.go O ?_))
  have hs7:eSit.R (fun j=>TB j\/W.heap.size<=j) w10 (.agg #[.int .i64 (k:Nat),.bool false,vf,.int .i64 0]) (sitV n o (rv x) (i+1)):=by
   rw [hsv,decide_eq_false hB,if_neg hB]
   exact ⟨_,rfl,hki,inI0,eV.mono (fun j _ h=>.inr (by have:=e57.size;omega)) hf10⟩
  refine .yld (l:=l) [.agg #[.int .i64 (k:Nat),.bool false,vf,.int .i64 0]] (R:=fun v w'=>(v=.bool true/\J (i+1+1) w1.heap.size w3 w')\/(v=.bool false/\X w')) O O O (nxt (by omega) hJ e9 hs7) ?_
  rintro v w8 (⟨rfl,hJ⟩ | ⟨rfl,h⟩)
  ·exact .go O (.inc O O O (by omega) (.goN O (.mk (i+1) O (lc1 O) ⟨⟨hJ,hlt⟩,by show (inL n o).length-(i+1)<(inL n o).length-i;omega⟩)))
  ·exact .goE O (.plain [] Tryz.results114 trivial (.inr h))
open Go Go.Kx Go.RowKit
section
variable {n:NtV} {o:List Int} {x:Nat->Rat}
theorem BH0:AR2 n o x (inL n o).length=scr n o x:=by
 unfold AR2 scr
 rw [List.take_of_length_le (Nat.le_refl _)]
end
open Go Go.Kx Go.RowKit
section
variable {n:NtV} {o:List Int} {c:List Nat}
theorem BC3 (p:List Nat) (i:Nat):(freeTo p i).Pairwise (·<·):=List.pairwise_lt_range.filter _
end
end Go.Proofs.YtpgkacdihhjknaaGreat
namespace Go.Kx
open Go Go.RowKit
section
variable {n:Nw} {k l:Nat}
end
end Go.Kx
namespace Go.Proofs.YtpgkacdihhjknaaGreat
open Go Go.Kx Go.RowKit
section
variable {n:NtV} {o:List Int} {k:Nat}
def putS (a:List Int) (k:Int):List Int:=a.filter (fun y=>decide (y<k))++k::a.filter (fun y=>decide (k<y))
theorem Al4 {k:Int}:∀ a:List Int,k∉a->(a.filter fun y=>decide (y<k)).length+(a.filter fun y=>decide (k<y)).length=a.length
 | [],_=>rfl
 | y::a,h=>by
  have ih:=Al4 a fun h'=>h (List.mem_cons_of_mem _ h')
  have e:y≠k:=fun e=>h (by rw [e];exact List.mem_cons_self ..)
  rcases Int.lt_or_gt_of_ne e with h' | h'
  ·rw [List.filter_cons_of_pos (by simpa using h'),List.filter_cons_of_neg (by simp;omega)];simp;omega
  ·rw [List.filter_cons_of_neg (by simp;omega),List.filter_cons_of_pos (by simpa using h')];simp;omega
theorem BH8 {a:List Int} {k:Int} (ha:a.Pairwise (·<·)) (hk:k∉a):Ins a k (putS a k) where
 inc:=by
  unfold putS
  refine List.pairwise_append.2 ⟨ha.filter _,List.pairwise_cons.2 ⟨fun y hy=>of_decide_eq_true (List.mem_filter.1 hy).2,ha.filter _⟩,fun y hy z hz=>?_⟩
  have h1:y<k:=of_decide_eq_true (List.mem_filter.1 hy).2
  rcases List.mem_cons.1 hz with rfl | hz
  ·exact h1
  ·have h2:k<z:=of_decide_eq_true (List.mem_filter.1 hz).2
   omega
 mem:=fun y=>by
  unfold putS
  rw [List.mem_append,List.mem_cons,List.mem_filter,List.mem_filter]
  simp only [decide_eq_true_eq]
  constructor
  ·rintro (h | h | h)
   ·exact .inr h.1
   ·exact .inl h
   ·exact .inr h.1
  ·rintro (h | h)
   ·exact .inr (.inl h)
   ·by_cases e:y=k
    ·exact .inr (.inl e)
    ·rcases Int.lt_or_gt_of_ne e with h' | h'
     ·exact .inl ⟨h,h'⟩
     ·exact .inr (.inr ⟨h,h'⟩)
 len:=by
  have:=Al4 a hk
  unfold putS
  rw [List.length_append,List.length_cons];omega
end
theorem bsl_IIo {a:Option Addr} {n c:Nat}:bslOf Tryz.prog 119 1 [(0,.slice a n c)]=some (25,#[.slice a n c]):=by kernel_rfl
def okV17 (r:List QV):Prop:=r.length<=20/\∀ q∈r,qok 4 q
theorem okV17.vk {W:World} {v:Value} {a:List QV} (h:okV17 a) (hr:eV.R (fun _=>True) W v a):vk 4 a:=eV_vk hr h.2 (by decide)
theorem Ai5:Ent Tryz.prog 11:=A0 Tryz.func11 (by kernel_rfl) rfl
set_option maxRecDepth 8000 in
theorem Ag0 {w:World} {vn vo v:Value} {n:NtV} {o:List Int} {l:List (List QV)} (hn:eN.R (fun _=>True) w vn n) (ho:eI.R (fun _=>True) w vo o) (h:eM.R (fun _=>True) w v l):CR Tryz.prog 11 #[vn,vo,v] w (Lng (∀ r∈l,okV17 r)):=by
 obtain ⟨s,rfl,hs,hb⟩:=hn
 have hn:eN.R (fun _=>True) w (.agg #[.int .i64 n.b,s]) n:=⟨s,rfl,hs,hb⟩
 obtain ⟨ao,co,hvo,_⟩:=RL.len ho
 obtain ⟨_,_,_,_,hl⟩:=RL.len h
 refine enter Tryz.func11 O Tryz.ntmps11 O (.beg (.go O (.box O O fun w1 b3 n1=>?_)))
 obtain ⟨e1,k3,hb3,hs1⟩:=n1
 have h:=ER.ext eM h e1
 have htrue:∀ {σ:Env},Kx.look σ 6=some (.bool true)->Leave Tryz.prog Tryz.f11 58 (fun v w'=>Ext w w'/\Lng (∀ r∈l,okV17 r) v w') σ [] w1:=by
  intro σ hl
  exact .plain [_] Tryz.results11 ⟨hl,trivial⟩ ⟨e1,true,rfl,fun h=>by cases h⟩
 refine .goC O (.lp (α:=Nat) [1,2,3] O (fun i=>[(7,.int .i64 (i:Nat))]) (fun i W=>W=w1/\i<=l.length/\∀ j r,j<i->l[j]?=some r->okV17 r) (fun i=>l.length-i) 0 (lc1 O) ⟨rfl,Nat.zero_le _,fun j r hj=>absurd hj (Nat.not_lt_zero _)⟩ ?_)
 rintro i W ⟨rfl,hi,hall⟩
 refine .go O (.lenR un_M O O h ?_)
 rcases Nat.lt_or_ge i l.length with hlt | hge
 rotate_left
 ·refine .lssF O O O (by omega) (.go O (.ldA ty_N O O k3 O (.go O (.bsl _ O O (by rw [hvo];exact bsl_IIo) fun w2 b5 n2=>?_))))
  have hll:eII.R (fun _=>True) w2 (.slice (some ⟨b5,0,none⟩) 1 1) [o]:=BL7 [vo] [o] n2 upT (by rw [hvo]) O (by decide) (Els.snoc Els.nil (ho.ext e1))
  refine .call _ O Ai6 O (Ag1 (hn.ext (e1.trans n2.1)) hll) fun v3 w3 e3 h3=>.goE O ?_
  obtain ⟨bl,rfl⟩:=h3
  refine .plain [_] Tryz.results11 ⟨rfl,trivial⟩ ⟨(e1.trans n2.1).trans e3,bl,rfl,fun _ r hr=>?_⟩
  obtain ⟨j,hj⟩:=List.mem_iff_getElem?.1 hr
  exact hall j r (by have:=Af4 hj;omega) hj
 have hyy:=List.getElem?_eq_getElem hlt
 generalize l[i]=r at hyy
 refine .lssT O O O (by omega) (.go O (.ixN (i:=i) un_M ty_V O O h O hyy fun p hp=>.ldE ty_V O O hp fun e he=>.lenR un_V O O he ?_))
 by_cases hr:r.length<=20
 rotate_left
 ·exact .gtrT O O O (by omega) (.goE O (htrue O))
 refine .gtrF O O O (by omega) (.goC O (.lp (α:=Nat) [1,2,3,7] O (fun k=>[(8,.int .i64 (k:Nat))]) (fun k W'=>W'=W/\k<=r.length/\∀ j q,j<k->r[j]?=some q->qok 4 q) (fun k=>r.length-k) 0 (lc1 O) ⟨rfl,Nat.zero_le _,fun j r hj=>absurd hj (Nat.not_lt_zero _)⟩ ?_))
 rintro k W' ⟨rfl,hk,hallk⟩
 refine .go O (.ixN (i:=i) un_M ty_V O O h O hyy fun p2 hp2=>.ldE ty_V O O hp2 fun e2 he2=>.lenR un_V O O he2 ?_)
 rcases Nat.lt_or_ge k r.length with hkl | hge
 rotate_left
 ·refine .lssF O O O (by omega) (.go O (.inc O O O (by omega) (.goN O (.mk (i+1) O (lc1 O) ⟨⟨rfl,hlt,fun j r' hj hr'=>?_⟩,by show l.length-(i+1)<l.length-i;omega⟩))))
  by_cases e:j=i
  ·subst e
   rw [hyy] at hr'
   cases hr'
   refine ⟨hr,fun q hq=>?_⟩
   obtain ⟨j',hj'⟩:=List.mem_iff_getElem?.1 hq
   exact hallk j' q (by have:=Af4 hj';omega) hj'
  ·exact hall j r' (by omega) hr'
 have hqq:=List.getElem?_eq_getElem hkl
 generalize r[k]=q at hqq
 refine .lssT O O O (by omega) (.go O (.ixN (i:=i) un_M ty_V O O h O hyy fun p3 hp3=>.ldE ty_V O O hp3 fun e3 he3=>.go O (.ixN (i:=k) un_V ty_Q O O he3 O hqq fun p4 hp4=>.faP R7 O O (.faP F4 O O (.ldE (E:=eW) ty_W O O hp4.qn.zw fun e4 he4=>.lenR un_W O O he4 ?_)))))
 by_cases hn4:q.num.w.length<=4
 rotate_left
 ·exact .gtrT O O O (by omega) (.goE O (htrue O))
 refine .gtrF O O O (by omega) (.go O (.ixN (i:=i) un_M ty_V O O h O hyy fun p5 hp5=>.go O (.ldE ty_V O O hp5 fun e5 he5=>.go O (.ixN (i:=k) un_V ty_Q O O he5 O hqq fun p6 hp6=>.go O (.faP V6 O O (.go O (.faP F4 O O (.go O (.ldE (E:=eW) ty_W O O hp6.qd.zw fun e6 he6=>.go O (.lenR un_W O O he6 (.go O ?_)))))))))))
 by_cases hd4:q.den.w.length<=4
 rotate_left
 ·exact .gtrT O O O (by omega) (.goE O (htrue O))
 refine .gtrF O O O (by omega) (.go O (.inc O O O (by omega) (.goN O (.mk (k+1) O (lc1 O) ⟨⟨rfl,hkl,fun j q' hj hq'=>?_⟩,by show r.length-(k+1)<r.length-k;omega⟩))))
 by_cases e:j=k
 ·subst e;rw [hqq] at hq';cases hq';exact ⟨hn4,hd4⟩
 ·exact hallk j q' (by omega) hq'
def balB (n:Nw) (x:Nat->Rat):Bool:=(List.range n.B).all fun r => !decide (n.root r=r) || decide (sumN n.B (fun b=>if n.root b=r then x b else 0)=0)
theorem BN2 {n:Nw} {x:Nat->Rat}:balB n x=true<->n.bal x:=by
 unfold balB Nw.bal
 rw [List.all_eq_true]
 simp only [List.mem_range,Bool.or_eq_true,Bool.not_eq_true',decide_eq_false_iff_not,decide_eq_true_eq]
 exact ⟨fun h r hr hrr=>(h r hr).resolve_left fun h'=>h' hrr,fun h r hr=>by
  by_cases hrr:n.root r=r
  ·exact .inr (h r hr hrr)
  ·exact .inl hrr⟩
theorem rv_ints {l:List Int} {b:Nat}:rv (intsV l) b=if b<l.length then ((l.getD b 0:Int):Rat) else 0:=O5 ..
theorem vk_ints (l:List Int) (h:∀ n∈l,-9223372036854775808<=n/\n<=9223372036854775807):vk 2 (intsV l):=BF1 h
end Go.Proofs.YtpgkacdihhjknaaGreat
namespace Go.Kx
open Go Go.RowKit
def eRaw:ER Value where
 sz:=1
 isA:=false
 R:=fun _ _ e x=>e=x/\∃ a n c,x=.slice a n c
 csz:=by rintro S w e x ⟨rfl,a,n,c,rfl⟩;rfl
 one:=by rintro S w e x ⟨rfl,a,n,c,rfl⟩ u hu;simp [Value.cells] at hu;subst hu;rfl
 shp:=by rintro S w e x ⟨rfl,a,n,c,rfl⟩;rfl
 keep:=fun _ h=>h
 mono:=fun _ h=>h
section
variable {α:Type} {E:ER α} {t:TypeId} {base:Nat} {X:Nat->Prop} {w w':World} {v:Value} {l:List α}
theorem OwnL.grown {ob:Option Nat} (h:OwnL E t base X w v l) (hg:w.grownBy w' ob) (hne:∀ b,v.ownBlock=some b->ob≠some b) (hE:∀ S w w' e x,E.R S w e x->E.R S w' e x):OwnL E t base X w' v l:=by
 obtain ⟨es,h1,h2⟩:=h
 refine ⟨es,⟨h1.1,?_⟩,⟨h2.1,fun i e x he hx=>hE _ _ _ _ _ (h2.2 i e x he hx)⟩⟩
 rcases h1.2 with hn | ⟨g,cap,cur,hv,hb,hg',rest⟩
 ·exact .inl hn
 ·have hB:Blk w g t cur:=hg'
  exact .inr ⟨g,cap,cur,hv,hb,(hg.block g hB.lt (fun e=>hne g (by rw [hv];rfl) e.symm)).trans hg',rest⟩
theorem OwnL.updN {b:Nat} (h:OwnL E t base X w v l) (hu:Upd w w' b) (hne:v.ownBlock≠some b) (hE:∀ S w w' e x,E.R S w e x->E.R S w' e x):OwnL E t base X w' v l:=by
 obtain ⟨es,h1,h2⟩:=h
 refine ⟨es,⟨h1.1,?_⟩,⟨h2.1,fun i e x he hx=>hE _ _ _ _ _ (h2.2 i e x he hx)⟩⟩
 rcases h1.2 with hn | ⟨g,cap,cur,hv,hb,hg',rest⟩
 ·exact .inl hn
 ·exact .inr ⟨g,cap,cur,hv,hb,(hu.block g (fun e=>hne (by rw [hv,<-e];rfl))).trans hg',rest⟩
theorem OwnL.blk (h:OwnL E t base X w v l) {b:Nat} (hb:v.ownBlock=some b):base<=b/\∃ cs,Blk w b t cs:=by
 obtain ⟨es,h1,h2⟩:=h
 rcases h1.2 with ⟨hn,_⟩ | ⟨g,cap,cur,hv,hb',hg',rest⟩
 ·rw [hn] at hb;cases hb
 ·rw [hv] at hb;cases hb;exact ⟨hb',cur,hg'⟩
end
section
variable {P:Program} {σ:Env} {w:World} {d:Option Tmp} {ty:TypeId} {pos:String} {af:Array Edge} {g:Option (Nat×Bool)} {α:Type} {E:ER α}
theorem BK6 {t t':TypeId} {x y:Operand} {base gg i o n cap:Nat} {a:Bool} {X:Nat->Prop} {u v:Value} {l:List α} {z:α} (hsz:0<E.sz) (ht:tyOf P t=some (a,n)) (hx:ev σ x=some (.pointer (some ⟨gg,o,none⟩))) (hy:ev σ y=some v) (h:OwnL E t' base X w u l) (hu:u=.slice (some ⟨gg,0,none⟩) l.length cap)
  (hn:E.sz=n) (hi:i<l.length) (ho:o=i*E.sz) (hz:E.R (fun k=>X k/\u.ownBlock≠some k) w v z) :
  Gv P ⟨d,.store t x y,ty,pos,af,g⟩ σ w fun _ w'=>OwnL E t' base X w' u (l.set i z)/\Upd w w' gg/\base<=gg:=by
 obtain ⟨es,h1,he⟩:=h
 have hcs:=E.csz hz
 subst ho
 have hl:=B0 es he.sz
 have hie:i<es.length:=by rw [he.1];exact hi
 rcases h1.2 with ⟨hv,_⟩ | ⟨g',cap',cur,hv,hb,hg,c1,c2,c3,c4⟩
 ·rw [hu] at hv;cases hv
 rw [hu] at hv
 cases hv
 have hB:Blk w gg t' (cellsOf es++cur.toList.drop (l.length*E.sz)).toArray:=by
  rw [<-c4,List.take_append_drop];exact hg
 have hle:i*E.sz+n<=(cellsOf es++cur.toList.drop (l.length*E.sz)).toArray.size:=by
  have:i*E.sz+n<=es.length*E.sz:=by rw [<-hn,<-Nat.succ_mul];exact Nat.mul_le_mul_right _ hie
  rw [List.size_toArray,List.length_append,hl];omega
 refine (H2 ht hx hy hB (by omega) hle (E.one hz)).mono ?_
 rintro _ w' ⟨hB',uu⟩
 rw [AM3 hsz es _ i v he.sz hcs hie] at hB'
 have hset:=Els.set he i hz
 have hl':=B0 (es.set i v) hset.sz
 rw [List.length_set] at hl'
 refine ⟨⟨es.set i v,⟨by rw [hl',List.length_set,he.1],.inr ⟨gg,cap,_,by rw [hu,List.length_set],hb,hB',by rw [List.length_set];exact c1,c2,?_,?_⟩⟩,?_⟩,uu,hb⟩
 ·rw [<-c3,List.size_toArray,List.length_append,hl']
  have:(cellsOf es++cur.toList.drop (l.length*E.sz)).length=cur.toList.length:=by rw [<-c4,List.take_append_drop]
  rw [List.length_append,hl] at this
  rw [this,Array.length_toList]
 ·rw [List.length_set]
  show (cellsOf (es.set i v)++_).take _=_
  rw [List.take_append_of_le_length (by rw [hl',he.1];exact Nat.le_refl _),List.take_of_length_le (by rw [hl',he.1];exact Nat.le_refl _)]
 ·exact hset.keep (Kp.upd uu fun h=>h.2 (by rw [hu];rfl))
end
def Nw.mem (n:Nw) (i r:Nat):List Nat:=(List.range i).filter fun b=>decide (n.root b=r)
def Nw.memb (n:Nw) (i:Nat):List (List Nat):=(n.refsTo i).map (n.mem i)
theorem Nw.mem_succ (n:Nw) (i r:Nat):n.mem (i+1) r=n.mem i r++if n.root i=r then [i] else []:=by
 unfold Nw.mem
 rw [List.range_succ,List.filter_append]
 by_cases h:n.root i=r
 ·simp [h]
 ·simp [h]
theorem Nw.refsTo_mem {n:Nw} {i r:Nat}:r∈n.refsTo i<->r<i/\n.root r=r:=by
 unfold Nw.refsTo
 rw [List.mem_filter,List.mem_range]
 simp
theorem Nw.memb_len (n:Nw) (i:Nat):(n.memb i).length=n.cnt i:=by unfold Nw.memb;rw [List.length_map,Nw.refsTo_len]
theorem Nw.memb_get {n:Nw} {i k:Nat} (hk:k<n.cnt i):(n.memb i)[k]?=some (n.mem i ((n.refsTo i).getD k 0)):=by
 unfold Nw.memb
 rw [List.getElem?_map,Go.Proofs.YtpgkacdihhjknaaGreat.A4 (z:=0) (by rw [Nw.refsTo_len];exact hk)];rfl
theorem Nw.refsTo_lab (n:Nw) {b i:Nat} (hb:b<i):(n.refsTo i).getD (n.lab b) 0=n.root b/\n.lab b<n.cnt i:=by
 have hle:=Nw.root_le (n:=n) b
 exact BH2 (P:=fun r=>decide (n.root r=r)) (r:=n.root b) (C:=i) (by omega) (decide_eq_true (Nw.root_root b))
theorem Nw.memb_new {n:Nw} {i:Nat} (h:n.root i=i):n.memb (i+1)=n.memb i++[[i]]:=by
 unfold Nw.memb
 rw [n.refsTo_succ,if_pos h,List.map_append]
 congr 1
 ·refine List.map_congr_left fun r hr=>?_
  have:=(Nw.refsTo_mem.1 hr).1
  rw [Nw.mem_succ,if_neg (by omega),List.append_nil]
 ·show [n.mem (i+1) i]=[[i]]
  rw [Nw.mem_succ,if_pos h]
  have:n.mem i i=[]:=by
   unfold Nw.mem
   rw [List.filter_eq_nil_iff]
   intro b hb
   have:=Nw.root_le (n:=n) b
   have:=List.mem_range.1 hb
   simp;omega
  rw [this];rfl
theorem Nw.refsTo_inj {n:Nw} {i a b:Nat} (ha:a<n.cnt i) (hb:b<n.cnt i) (h:(n.refsTo i).getD a 0=(n.refsTo i).getD b 0):a=b:=by
 have hnd:(n.refsTo i).Nodup:=List.Pairwise.filter _ List.nodup_range
 have ha':a<(n.refsTo i).length:=ha
 have hb':b<(n.refsTo i).length:=hb
 rw [List.getD_eq_getElem?_getD,List.getD_eq_getElem?_getD,List.getElem?_eq_getElem ha',List.getElem?_eq_getElem hb'] at h
 exact (List.getElem_inj hnd).1 h
theorem Nw.memb_old {n:Nw} {i:Nat} (h:n.root i≠i):n.memb (i+1)=(n.memb i).set (n.lab i) (n.mem i (n.root i)++[i]):=by
 have hlt:n.root i<i:=by have:=Nw.root_le (n:=n) i;omega
 have hl:n.lab i=n.lab (n.root i):=n.lab_of i
 obtain ⟨h1,h2⟩:=n.refsTo_lab (b:=n.root i) hlt
 rw [Nw.root_root] at h1
 rw [<-hl] at h1 h2
 have hr:n.refsTo (i+1)=n.refsTo i:=by rw [n.refsTo_succ,if_neg h,List.append_nil]
 apply List.ext_getElem?
 intro k
 have hlen:(n.memb (i+1)).length=n.cnt i:=by unfold Nw.memb;rw [List.length_map,hr,Nw.refsTo_len]
 rcases Nat.lt_or_ge k (n.cnt i) with hk | hk
 ·have hg:(n.memb (i+1))[k]?=some (n.mem (i+1) ((n.refsTo i).getD k 0)):=by
   unfold Nw.memb
   rw [hr,List.getElem?_map,Go.Proofs.YtpgkacdihhjknaaGreat.A4 (z:=0) (by rw [Nw.refsTo_len];exact hk)];rfl
  rw [hg,Nw.mem_succ]
  by_cases e:n.lab i=k
  ·subst e
   rw [h1,if_pos rfl,List.getElem?_set_self (by rw [Nw.memb_len];exact h2)]
  ·rw [if_neg (fun e'=>e (Nw.refsTo_inj h2 hk (h1.trans e'))),List.append_nil,List.getElem?_set_ne e,Nw.memb_get hk]
 ·rw [List.getElem?_eq_none (by omega),List.getElem?_eq_none (by rw [List.length_set,Nw.memb_len];omega)]
end Go.Kx
namespace Go.Proofs.YtpgkacdihhjknaaGreat
open Go Go.Kx Go.RowKit
theorem K3:Tryz.prog.underlying 119=some (.slice 25):=by kernel_rfl
theorem info_IL:infoOf Tryz.prog 25=some (.slice none 0 0,1,24):=by kernel_rfl
theorem bsl_IIn:bslOf Tryz.prog 119 1 [(0,.slice none 0 0)]=some (25,#[.slice none 0 0]):=by kernel_rfl
structure MbI (base:Nat) (W:World) (v:Value) (vs:List Value) (l:List (List Nat)):Prop where
 out:OwnL eRaw 25 base (fun _=>True) W v vs
 len:vs.length=l.length
 inn:∀ (i:Nat) (u:Value) (m:List Nat),vs[i]?=some u->l[i]?=some m->OwnL (eInt .i64) 3 base (fun _=>True) W u (pInts m)
 dis:∀ (i j:Nat) (u u':Value),i≠j->vs[i]?=some u->vs[j]?=some u'->∀ b,u.ownBlock=some b->u'.ownBlock≠some b
theorem BH5:∀ (S:Nat->Prop) (w w':World) (e x:Value),eRaw.R S w e x->eRaw.R S w' e x:=fun _ _ _ _ _ h=>h
theorem AK6:∀ (S:Nat->Prop) (w w':World) (e:Value) (x:Int),(eInt .i64).R S w e x->(eInt .i64).R S w' e x:=fun _ _ _ _ _ h=>h
theorem AE6 {base base':Nat} {X Y:Nat->Prop} {W:World} {v u:Value} {vs:List Value} {l:List Int} (h:OwnL eRaw 25 base X W v vs) (h':OwnL (eInt .i64) 3 base' Y W u l) {b:Nat} (hv:v.ownBlock=some b) (hu:u.ownBlock=some b):False:=by
 obtain ⟨_,c1,k1⟩:=h.blk hv
 obtain ⟨_,c2,k2⟩:=h'.blk hu
 have e1:W.heap[b]?=some (.cells c1 25 (0,0)):=k1
 have e2:W.heap[b]?=some (.cells c2 3 (0,0)):=k2
 rw [e1] at e2
 cases e2
theorem MbI.ext {base:Nat} {W W':World} {v:Value} {vs:List Value} {l:List (List Nat)} (h:MbI base W v vs l) (e:Ext W W'):MbI base W' v vs l :=
 ⟨h.out.ext e,h.len,fun i u m h1 h2=>(h.inn i u m h1 h2).ext e,h.dis⟩
theorem MbI.toR {base:Nat} {W:World} {v:Value} {vs:List Value} {l:List (List Nat)} {S:Nat->Prop} (h:MbI base W v vs l) (hS:∀ k,base<=k->S k):eII.R S W v (l.map pInts):=by
 have hr:(RL eRaw (by decide)).R S W v vs:=by
  obtain ⟨es,h1,h2⟩:=h.out
  have h3:OwnL eRaw 25 base (fun _=>False) W v vs:=⟨es,h1,h2⟩
  exact h3.toR hS (fun _ h=>h.elim)
 obtain ⟨es,he,hrow⟩:=hr
 have hes:es=vs:=List.ext_getElem? fun i=>by
  rcases Nat.lt_or_ge i es.length with hi | hi
  ·have h1:=List.getElem?_eq_getElem hi
   have h2:=List.getElem?_eq_getElem (l:=vs) (i:=i) (by rw [<-he.1];exact hi)
   have:=(he.2 i _ _ h1 h2).1
   rw [h1,h2,this]
  ·rw [List.getElem?_eq_none hi,List.getElem?_eq_none (by rw [<-he.1];exact hi)]
 subst hes
 refine ⟨es,⟨by rw [List.length_map];exact h.len,fun i e x h1 h2=>?_⟩,by rw [List.length_map,<-h.len];exact hrow⟩
 rw [List.getElem?_map] at h2
 cases hm:l[i]? with
 | none=>rw [hm] at h2;cases h2
 | some m =>
  rw [hm] at h2
  cases h2
  obtain ⟨es',h3,h4⟩:=h.inn i e m h1 hm
  have h5:OwnL (eInt .i64) 3 base (fun _=>False) W e (pInts m):=⟨es',h3,h4⟩
  exact h5.toR hS (fun _ h=>h.elim)
theorem AQ7:Ent Tryz.prog 90:=A0 Tryz.func90 (by kernel_rfl) rfl
set_option maxRecDepth 8000 in
theorem AP4 {S:Nat->Prop} {w:World} {vn vo:Value} {n:NtV} {o:List Int} (up:Up S w) (hn:eN.R S w vn n) (ho:eI.R S w vo o) :
  CR Tryz.prog 90 #[vn,vo] w (Two (eII.at S (if outE n o=0 then ((nwOf n o).memb (nwOf n o).B).map pInts else [])) (Is (.int .i64 (outE n o)))):=by
 obtain ⟨s,rfl,hs,hb⟩:=hn
 have hn:eN.R S w (.agg #[.int .i64 n.b,s]) n:=⟨s,rfl,hs,hb⟩
 refine enter Tryz.func90 O Tryz.ntmps90 O (.beg (.go O (.box O O fun w1 b2 n1=>?_)))
 obtain ⟨e1,k2,hb2,hs1⟩:=n1
 refine .go O (.ldA ty_N O O k2 O (.go O ?_))
 refine .call _ O AD8 O (AC9 (up.ext e1.size) (hn.ext e1) (ho.ext e1)) fun v2 w2 e2 h2=>?_
 obtain ⟨vl,ve,rfl,hl,he⟩:=h2
 replace he:ve=.int .i64 (outE n o):=he
 subst he
 have x2:=e1.trans e2
 refine .go O ?_
 by_cases hE:outE n o=0
 rotate_left
 ·refine .neqT O O O hE (.goE O ?_)
  refine .plain [_,_] Tryz.results90 ⟨rfl,rfl,trivial⟩ ⟨x2,_,_,rfl,?_,rfl⟩
  rw [if_neg hE];exact RL.nil
 have ok:=I0 hE
 rw [if_pos hE] at hl ⊢
 have hB6:=ok.b6
 have hs2:=x2.size
 have hlW:∀ {W:World},Below w2.heap.size w2 W->eI.R (fun k=>S k/\k<w2.heap.size) W vl (tabI (nwOf n o).B (nwOf n o).lab):=fun h=>eI.keep (fun k c t f hk hh=>(h.block k hk.2).trans hh) (ER.lt eI hl)
 refine .neqF O O O hE (.go O (.lenR un_I O O hl ?_))
 rw [L4]
 refine .goC O (.lp (α:=Nat×Value×List Value) [20,21] rfl (fun y=>[(22,.int .i64 (y.1:Nat)),(8,y.2.1)]) (fun y W=>Below w2.heap.size w2 W/\y.1<=(nwOf n o).B/\MbI w2.heap.size W y.2.1 y.2.2 ((nwOf n o).memb y.1)) (fun y=>(nwOf n o).B-y.1) (0,.slice none 0 0,[]) (lc2 rfl rfl) ⟨Below.refl _ _,Nat.zero_le _,OwnL.nil,rfl,(fun i u m h=>by cases h),(fun i j u u' _ h=>by cases h)⟩ ?_)
 rintro ⟨i,v,vs⟩ W ⟨hW,hi,hm⟩
 replace hW:Below w2.heap.size w2 W:=hW
 replace hi:i<=(nwOf n o).B:=hi
 replace hm:MbI w2.heap.size W v vs ((nwOf n o).memb i):=hm
 refine .go O ?_
 rcases Nat.lt_or_ge i (nwOf n o).B with hlt | hge
 rotate_left
 ·refine .lssF O O O (by omega) (.goE O ?_)
  have:i=(nwOf n o).B:=by omega
  subst this
  exact .plain [_,_] Tryz.results90 ⟨rfl,rfl,trivial⟩ ⟨x2.trans hW,_,_,rfl,hm.toR fun k hk=>up k (by omega),by rw [hE]⟩
 refine .lssT O O O (by omega) (.go O (.ixN (i:=i) un_I A7 O O (hlW hW) O (AC2 hlt) fun q hq=>.ldE (E:=eInt .i64) A7 O O hq fun e he=>?_))
 obtain ⟨rfl,_⟩:=he
 have hcl:=(nwOf n o).cnt_le i
 have hlb:=(nwOf n o).lab_cnt i
 have hlen:vs.length=(nwOf n o).cnt i:=by rw [hm.len,Nw.memb_len]
 refine .goZ 8 O (.cut (α:=Value×List Value×List (List Nat)) 1 [9,10,20,21,22] O (fun y=>[(8,y.1)]) (fun y W'=>Below w2.heap.size w2 W'/\MbI w2.heap.size W' y.1 y.2.1 y.2.2/\(nwOf n o).lab i<y.2.2.length/\y.2.2.length<=6/\∃ m,y.2.2[(nwOf n o).lab i]?=some m/\m.length<=6/\(nwOf n o).memb (i+1)=y.2.2.set ((nwOf n o).lab i) (m++[i])) O ?_ ?_)
 rotate_left
 ·refine .go O (.lenR K3 O O (hm.out.toR (S:=fun _=>True) (hsz:=by decide) (fun _ _=>trivial) (fun _ _=>trivial)) ?_)
  rw [hlen]
  by_cases hr:(nwOf n o).root i=i
  ·refine .eqlT O O O (by rw [hlb.2 hr]) (.go O (.bsl _ O O bsl_IIn fun W1 by_ ny=>?_))
   obtain ⟨ey,ky,hby,hsy⟩:=ny
   have hW1:=hW.trans (ey.mono hW.size)
   have hm1:=hm.ext ey
   refine .gv O O (AH8 (E:=eRaw) (base:=w2.heap.size) (n:=.slice none 0 0) (e:=.slice none 0 0) (by decide) K3 info_IL O O O hm1.out ky ⟨rfl,none,0,0,rfl⟩ (by rw [hlen];omega) (by decide) hW1.size) ?_
   rintro v8 W8 ⟨ho8,hg8⟩
   refine .goN O (.mk (v8,vs++[.slice none 0 0],(nwOf n o).memb i++[[]]) O (lc1 O) ⟨hm1.out.below hg8 hW1 hW1.size,⟨ho8,by rw [List.length_append,List.length_append,hm.len];rfl,?_,?_⟩,?_,?_,[],?_,by decide,?_⟩)
   ·intro j u m h1 h2
    rcases Nat.lt_or_ge j vs.length with hj | hj
    ·rw [List.getElem?_append_left hj] at h1
     rw [List.getElem?_append_left (by rw [<-hm.len];exact hj)] at h2
     have hin:=hm1.inn j u m h1 h2
     exact hin.grown hg8 (fun b hb hv=>AE6 hm1.out hin hv hb) AK6
    ·rw [List.getElem?_append_right hj] at h1
     rw [List.getElem?_append_right (by rw [<-hm.len];exact hj),<-hm.len] at h2
     cases hk:j-vs.length with
     | zero=>rw [hk] at h1 h2;simp at h1 h2;subst h1;subst h2;exact OwnL.nil
     | succ k=>rw [hk] at h1;simp at h1
   ·intro a b u u' hab h1 h2 c hc
    have key:∀ {k:Nat} {x:Value},(vs++[Value.slice none 0 0])[k]?=some x->x.ownBlock=some c->vs[k]?=some x:=fun {k x} hx hxc=>by
     rcases Nat.lt_or_ge k vs.length with hk | hk
     ·rw [List.getElem?_append_left hk] at hx;exact hx
     ·rw [List.getElem?_append_right hk] at hx
      cases hkk:k-vs.length with
      | zero=>rw [hkk] at hx;simp at hx;subst hx;cases hxc
      | succ k'=>rw [hkk] at hx;simp at hx
    intro hc'
    exact hm.dis a b u u' hab (key h1 hc) (key h2 hc') c hc hc'
   ·show (nwOf n o).lab i<_
    rw [hlb.2 hr,List.length_append,Nw.memb_len];simp
   ·show _<=6
    rw [List.length_append,Nw.memb_len];simp;omega
   ·show (_++_)[(nwOf n o).lab i]?=_
    rw [hlb.2 hr,List.getElem?_append_right (by rw [Nw.memb_len];exact Nat.le_refl _),Nw.memb_len,Nat.sub_self];rfl
   ·show _=List.set _ _ _
    rw [Nw.memb_new hr,hlb.2 hr,List.set_append_right _ _ (by rw [Nw.memb_len];exact Nat.le_refl _),Nw.memb_len,Nat.sub_self];rfl
  ·have hlt':(nwOf n o).root i<i:=by have:=Nw.root_le (n:=nwOf n o) i;omega
   obtain ⟨h1,h2⟩:=(nwOf n o).refsTo_lab (b:=(nwOf n o).root i) hlt'
   rw [Nw.root_root,<-(nwOf n o).lab_of i] at h1
   rw [<-(nwOf n o).lab_of i] at h2
   refine .eqlF O O O (by intro e;exact hr (hlb.1 (by omega))) (.goN O (.mk (v,vs,(nwOf n o).memb i) rfl (lc1 rfl) ⟨hW,hm,?_,?_,(nwOf n o).mem i ((nwOf n o).root i),?_,?_,Nw.memb_old hr⟩))
   ·show _<((nwOf n o).memb i).length
    rw [Nw.memb_len];exact h2
   ·show ((nwOf n o).memb i).length<=6
    rw [Nw.memb_len];omega
   ·show ((nwOf n o).memb i)[_]?=_
    rw [Nw.memb_get h2,h1]
   ·have:=List.length_filter_le (fun b=>decide ((nwOf n o).root b=(nwOf n o).root i)) (List.range i)
    rw [List.length_range] at this
    exact Nat.le_trans this (by omega)
 clear hm hW hlen
 rintro ⟨v,vs,l⟩ W' ⟨hW,hm,hll,hl6,m,hmm,hm6,hst⟩
 replace hW:Below w2.heap.size w2 W':=hW
 replace hm:MbI w2.heap.size W' v vs l:=hm
 replace hll:(nwOf n o).lab i<l.length:=hll
 replace hl6:l.length<=6:=hl6
 replace hmm:l[(nwOf n o).lab i]?=some m:=hmm
 replace hst:(nwOf n o).memb (i+1)=l.set ((nwOf n o).lab i) (m++[i]):=hst
 have hvl:=hm.len
 have hvg:vs[(nwOf n o).lab i]?=some (vs.getD ((nwOf n o).lab i) (.slice none 0 0)):=A4 (by omega)
 generalize vs.getD ((nwOf n o).lab i) (.slice none 0 0)=u at hvg
 generalize hj:(nwOf n o).lab i=j at *
 have hin:=hm.inn j u m hvg hmm
 obtain ⟨g,cap,hv,hcap,_,hgb,hF⟩:=hm.out.fp (by omega)
 rw [hv]
 refine .go O (.ixB (i:=j) K3 ty_I O O O (by omega) (.ldP (E:=eRaw) (i:=j) ty_I O O (Nat.zero_add _) hF hvg fun e he=>.go O (.bsl _ O O AI2 fun W1 by_ ny=>?_)))
 obtain ⟨rfl,a1,n1,c1,hu⟩:=he
 obtain ⟨ey,ky,hby,hsy⟩:=ny
 have hW1:=hW.trans (ey.mono hW.size)
 have hm1:=hm.ext ey
 have hin1:=hin.ext ey
 refine .gv O O (AK9 (E:=eInt .i64) (base:=w2.heap.size) (n:=((i:Nat):Int)) (e:=.int .i64 (i:Nat)) (by decide) un_I Z7 O O O hin1 ky ⟨rfl,E0.2 (by omega)⟩ (by simp;omega) (by decide) hW1.size) ?_
 rintro v8 W8 ⟨ho8,hg8,hwh⟩
 have hout8:=hm1.out.grown hg8 (fun b hb hv=>AE6 hm1.out hin1 hb hv) BH5
 obtain ⟨a8,c8,hv8⟩:=ho8.slice
 refine .go O (.ixB (i:=j) K3 ty_I O O O (by omega) ?_)
 refine .gv O O (BK6 (E:=eRaw) (i:=j) (by decide) ty_I O O hout8 hv O (by omega) (Nat.zero_add _) (z:=v8) ⟨rfl,_,_,_,hv8⟩) ?_
 rintro _ W9 ⟨ho9,u9,hg9⟩
 have hvo:v.ownBlock=some g:=by rw [hv];rfl
 have hs8:W1.heap.size<=W8.heap.size:=hg8.size
 have hB8:Below w2.heap.size w2 W8:=hin1.below hg8 hW1 hW1.size
 refine .go O (.inc O O O (by omega) (.goN O (.mk (i+1,v,vs.set j v8) O (lc2 O (by rw [hv];rfl)) ⟨⟨u9.below hB8 hg9,hlt,?_⟩,by show (nwOf n o).B-(i+1)<(nwOf n o).B-i;omega⟩)))
 show MbI w2.heap.size W9 v (vs.set j v8) ((nwOf n o).memb (i+1))
 rw [hst]
 refine ⟨ho9,by rw [List.length_set,List.length_set];exact hvl,fun k x y h1 h2=>?_,fun a b x x' hab h1 h2 c hc hc'=>?_⟩
 ·by_cases e:j=k
  ·subst e
   rw [List.getElem?_set_self (by omega)] at h1 h2
   cases h1;cases h2
   have:pInts (m++[i])=pInts m++[((i:Nat):Int)]:=by unfold pInts;rw [List.map_append];rfl
   rw [this]
   exact ho8.updN u9 (fun h=>AE6 hout8 ho8 hvo h) AK6
  ·rw [List.getElem?_set_ne e] at h1 h2
   have h3:=hm1.inn k x y h1 h2
   have h4:=h3.grown hg8 (fun b hb hv=>hm.dis k j x _ (Ne.symm e) h1 hvg b hb hv) AK6
   exact h4.updN u9 (fun h=>AE6 hout8 h4 hvo h) AK6
 ·have old:∀ {k:Nat} {y:Value},vs[k]?=some y->y.ownBlock=some c->c<W1.heap.size:=fun {k y} hk hc=>by
   obtain ⟨z,hz⟩:∃ z,l[k]?=some z:=⟨_,List.getElem?_eq_getElem (by rw [<-hvl];exact (List.getElem?_eq_some_iff.1 hk).1)⟩
   obtain ⟨_,cs,hb⟩:=(hm1.inn k y z hk hz).blk hc
   exact hb.lt
  by_cases ea:j=a
  ·subst ea
   rw [List.getElem?_set_self (by omega)] at h1
   cases h1
   rw [List.getElem?_set_ne hab] at h2
   rcases hwh with h | h
   ·exact hm.dis j b _ x' hab hvg h2 c (h▸hc) hc'
   ·rw [h] at hc;cases hc;exact Nat.lt_irrefl _ (old h2 hc')
  ·rw [List.getElem?_set_ne ea] at h1
   by_cases eb:j=b
   ·subst eb
    rw [List.getElem?_set_self (by omega)] at h2
    cases h2
    rcases hwh with h | h
    ·exact hm.dis a j x _ (Ne.symm ea) h1 hvg c hc (h▸hc')
    ·rw [h] at hc';cases hc';exact Nat.lt_irrefl _ (old h1 hc)
   ·rw [List.getElem?_set_ne eb] at h2
    exact hm.dis a b x x' hab h1 h2 c hc hc'
end Go.Proofs.YtpgkacdihhjknaaGreat
namespace Go.Kx
open Go Go.RowKit
section
variable {n:Nw}
def Nw.mem1 (n:Nw) (i r:Nat):List Nat:=(List.range i).filter fun c=>decide (c≠r/\n.root c=r)
theorem Nw.mem1_succ (n:Nw) (i r:Nat):n.mem1 (i+1) r=n.mem1 i r++if i≠r/\n.root i=r then [i] else []:=by
 unfold Nw.mem1
 rw [List.range_succ,List.filter_append]
 by_cases h:i≠r/\n.root i=r
 ·simp [h]
 ·rw [if_neg h];simp [h]
theorem Nw.mem_first {r:Nat} (h:n.root r=r):∀ d,n.mem (r+1+d) r=r::n.mem1 (r+1+d) r
 | 0=>by
  have e1:n.mem r r=[]:=by
   unfold Nw.mem
   rw [List.filter_eq_nil_iff]
   intro b hb
   have:=Nw.root_le (n:=n) b
   have:=List.mem_range.1 hb
   simp;omega
  have e2:n.mem1 r r=[]:=by
   unfold Nw.mem1
   rw [List.filter_eq_nil_iff]
   intro b hb
   have:=Nw.root_le (n:=n) b
   have:=List.mem_range.1 hb
   simp;omega
  rw [Nat.add_zero,Nw.mem_succ,Nw.mem1_succ,e1,e2,if_pos h,if_neg (by simp)];rfl
 | d+1=>by
  rw [show r+1+(d+1)=(r+1+d)+1 by omega,Nw.mem_succ,Nw.mem1_succ,Nw.mem_first h d]
  by_cases h':n.root (r+1+d)=r
  ·rw [if_pos h',if_pos ⟨by omega,h'⟩];rfl
  ·rw [if_neg h',if_neg fun h''=>h' h''.2];rfl
theorem Nw.mem_cons {B r:Nat} (h:n.root r=r) (hr:r<B):n.mem B r=r::n.mem1 B r:=by
 have:=Nw.mem_first (n:=n) h (B-(r+1))
 rwa [show r+1+(B-(r+1))=B by omega] at this
def lsum (x:Nat->Rat) (l:List Nat):Rat:=l.foldl (fun s b=>s+x b) 0
theorem AP3 (x:Nat->Rat) (l:List Nat) (b:Nat):lsum x (l++[b])=lsum x l+x b:=by unfold lsum;rw [List.foldl_append];rfl
theorem AS1 (x:Nat->Rat) (p:Nat->Prop) [DecidablePred p]:∀ B,lsum x ((List.range B).filter fun c=>decide (p c))=sumN B fun c=>if p c then x c else 0
 | 0=>rfl
 | B+1=>by
  rw [List.range_succ,List.filter_append]
  have ih:=AS1 x p B
  show _=sumN B _+_
  by_cases h:p B
  ·rw [show List.filter (fun c=>decide (p c)) [B]=[B] by simp [h],AP3,ih]
   dsimp only
   rw [if_pos h]
  ·rw [show List.filter (fun c=>decide (p c)) [B]=[] by simp [h],List.append_nil,ih]
   dsimp only
   rw [if_neg h,Rat.add_zero]
theorem Nw.bl_root (x:Nat->Rat) {r:Nat} (h:n.root r=r):n.bl x r = - lsum x (n.mem1 n.B r):=by
 unfold Nw.bl Nw.mem1
 rw [if_pos h,AS1]
theorem Am0 {x:Nat->Rat} {L:Nat} (hx:∀ b,Rsz (x b) L):∀ (m:Nat) (l:List Nat),l.length=m->Rsz (lsum x l) (1+m*(L+1))
 | 0,l,hl=>by rw [List.length_eq_zero_iff.1 hl];exact Rsz.zero (by omega)
 | m+1,l,hl=>by
  obtain ⟨l',k,rfl⟩:∃ l' k,l=l'++[k]:=⟨l.dropLast,l.getLast (by intro e;rw [e] at hl;cases hl),(List.dropLast_concat_getLast _).symm⟩
  rw [AP3]
  have h1:=Am0 hx m l' (by simp at hl;exact hl)
  refine (h1.add (hx k)).mono ?_
  rw [Nat.add_mul];omega
end
end Go.Kx
namespace Go.Proofs.YtpgkacdihhjknaaGreat
open Go Go.Kx Go.RowKit
open Classical in
noncomputable def blB (n:NtV) (o:List Int) (l:Nat):Bool:=decide (sfE n o l=0)
theorem AU2:Ent Tryz.prog 50:=A0 Tryz.func50 (by kernel_rfl) rfl
set_option maxRecDepth 8000 in
open Classical in
theorem AT6 {S:Nat->Prop} {w:World} {vn vo vx:Value} {n:NtV} {o:List Int} {x:List QV} {L:Nat} (up:Up S w) (hn:eN.R S w vn n) (ho:eI.R S w vo o) (hx:eV.R S w vx x) (hkx:vk L x) (hL1:1<=L) (hL:L<=1000000) :
  CR Tryz.prog 50 #[vn,vo,vx] w (Two (eV.at S (if sfE n o x.length=0 then tab (nwOf n o).B ((nwOf n o).bl (rv x)) else [])) (Is (.bool (blB n o x.length)))):=by
 obtain ⟨s,rfl,hs,hb⟩:=hn
 have hn:eN.R S w (.agg #[.int .i64 n.b,s]) n:=⟨s,rfl,hs,hb⟩
 refine enter Tryz.func50 O Tryz.ntmps50 O (.beg (.go O (.box O O fun w1 b3 n1=>?_)))
 obtain ⟨e1,k3,hb3,hs1⟩:=n1
 refine .go O (.ldA ty_N O O k3 O (.go O ?_))
 refine .call _ O AQ7 O (AP4 (up.ext e1.size) (hn.ext e1) (ho.ext e1)) fun v2 w2 e2 h2=>?_
 obtain ⟨vr,ve,rfl,hr,he⟩:=h2
 replace he:ve=.int .i64 (outE n o):=he
 subst he
 have x2:=e1.trans e2
 refine .go O ?_
 by_cases hE:outE n o=0
 rotate_left
 ·have hb:sfE n o x.length=outE n o:=by unfold sfE;rw [if_pos hE]
  refine .neqT O O O hE (.goE O ?_)
  refine .plain [_,_] Tryz.results50 ⟨rfl,rfl,trivial⟩ ⟨x2,_,_,rfl,?_,by unfold blB;rw [decide_eq_false fun h=>hE (hb.symm.trans h)]⟩
  rw [if_neg (by rw [hb];exact hE)];exact RL.nil
 have ok:=I0 hE
 rw [if_pos hE] at hr
 have hB6:=ok.b6
 have hB1:=ok.b1
 have hnb:=ok.b
 have k3:=k3.ext e2
 rw [hnb] at k3
 obtain ⟨_,_,_,_,hxl⟩:=RL.len hx
 refine .neqF O O O hE (.go O (.lenR un_V O O (hx.ext x2) (.go O (.fa J0 O O (.go O (.ld A8 O O k3 O (.go O ?_)))))))
 by_cases hlen:(x.length:Int)<=n.b
 rotate_left
 ·have hb:sfE n o x.length=5:=by unfold sfE;rw [if_neg (by simpa using hE),if_neg hlen]
  refine .gtrT O O O (by omega) (.goE O ?_)
  refine .plain [_,_] Tryz.results50 ⟨rfl,rfl,trivial⟩ ⟨x2,_,_,rfl,?_,by unfold blB;rw [decide_eq_false fun h=>by rw [hb] at h;exact absurd h (by decide)]⟩
  rw [if_neg (by rw [hb];decide)];exact RL.nil
 have hno:sfE n o x.length=0:=by unfold sfE;rw [if_neg (by simpa using hE),if_pos hlen]
 rw [if_pos hno]
 refine .gtrF O O O (by omega) (.go O (.fa J0 O O (.ld A8 O O k3 O ?_)))
 refine .call _ O N8 O (P9 (up.ext x2.size) (hx.ext x2) hkx hL1 (by omega)) fun v3 w3 e3 h3=>?_
 obtain ⟨h3,_⟩ | ⟨_,g,N3,hN3,hg,rfl,fb⟩:=h3
 ·have h3:((nwOf n o).B:Int)<1:=h3
  omega
 have hNB:N3=(nwOf n o).B:=by
  have hN3:(N3:Int)=min ((nwOf n o).B:Int) 65536:=hN3
  omega
 subst hNB
 have hs2:=x2.size
 have hs3:=e3.size
 have hgl:=fb.lt
 have hrT:∀ {W:World},Ext w2 W->eII.R S W vr (((nwOf n o).memb (nwOf n o).B).map pInts):=fun e=>ER.ext eII hr e
 generalize hBB:(nwOf n o).B=B at hB6 hB1 hnb k3 fb hrT
 have hcl:(nwOf n o).cnt B<=B:=(nwOf n o).cnt_le B
 have hml:(((nwOf n o).memb B).map pInts).length=(nwOf n o).cnt B:=by rw [List.length_map,Nw.memb_len]
 have hrf:(nwOf n o).refs=(nwOf n o).refsTo B:=by rw [<-hBB];rfl
 generalize hZ:(fun i b=>if b∈((nwOf n o).refsTo B).take i then (nwOf n o).bl (rv x) b else rv x b:Nat->Nat->Rat)=Z
 refine .goC O (.lp (α:=Nat) [3,8,10] O (fun i=>[(11,.int .i64 (i:Nat))]) (fun i W=>Ext w2 W/\i<=(nwOf n o).cnt B/\FB eQ 39 S W g (tab B (Z i))) (fun i=>(nwOf n o).cnt B-i) 0 (lc1 O) ⟨e3,Nat.zero_le _,by rw [<-hZ];simpa using fb⟩ ?_)
 clear fb
 rintro i W ⟨hW,hi,fb⟩
 have hWs:=hW.size
 have hgW:=fb.lt
 refine .go O (.lenR K3 O O (hrT hW) ?_)
 rw [hml]
 rcases Nat.lt_or_ge i ((nwOf n o).cnt B) with hlt | hge
 rotate_left
 ·have:i=(nwOf n o).cnt B:=by omega
  subst this
  have hfin:tab B (Z ((nwOf n o).cnt B))=tab B ((nwOf n o).bl (rv x)):=F5 fun b hb=>by
   rw [<-hZ]
   dsimp only
   rw [List.take_of_length_le (by rw [Nw.refsTo_len];exact Nat.le_refl _)]
   by_cases h:b∈(nwOf n o).refsTo B
   ·rw [if_pos h]
   ·rw [if_neg h]
    unfold Nw.bl
    rw [if_neg fun h'=>h (Nw.refsTo_mem.2 ⟨hb,h'⟩)]
  rw [hfin] at fb
  have hR:eV.R S W (slB B g) (tab B ((nwOf n o).bl (rv x))):=by
   have:=fb.toR (hsz:=by decide) (c:=B) (up g (by omega)) (by rw [A2];exact Nat.le_refl _) (by rw [A2];omega)
   rw [A2] at this
   exact this
  refine .lssF O O O (by omega) (.goC O ?_)
  refine .par follows 7 [.inl (slB B g),.inl (slB B g),.inl (.int .i64 (B:Nat)),.inl (.pointer (some ⟨b3,0,none⟩)),.inl (.int .i64 (B:Nat)),.inl (.bool true),.inl _] [[],[],[(148,1)],[],[(150,3)],[(149,2),(151,4)],[(147,0)]] (by kernel_rfl) ⟨
   fun w e=>(v_mv O).ob,
   fun w e=>(v_mv O).ob,
   fun w e=>(BF6 un_V O).ob,
   fun w e=>(v_fa J0 O).ob,
   fun w e=>(v_ld A8 O ((k3.ext hW).ext e) O).ob,
   fun w e=>((v_eql O O).eq (by simp)).ob,
   fun w e=>(v_as O).ob,trivial⟩ ?_
  intro W9 e9
  exact .goE O (.plain [_,_] Tryz.results50 ⟨rfl,rfl,trivial⟩ ⟨x2.trans (hW.trans e9),_,_,rfl,ER.ext eV hR e9,by unfold blB;rw [decide_eq_true hno]⟩)
 have hrB0:((nwOf n o).refsTo B).getD i 0∈(nwOf n o).refsTo B:=I6 (by rw [Nw.refsTo_len];exact hlt)
 obtain ⟨hrB,hrr⟩:=Nw.refsTo_mem.1 hrB0
 have hrow:(((nwOf n o).memb B).map pInts)[i]?=some (pInts ((nwOf n o).mem B (((nwOf n o).refsTo B).getD i 0))):=by rw [List.getElem?_map,Nw.memb_get hlt];rfl
 have htk:((nwOf n o).refsTo B).take (i+1)=((nwOf n o).refsTo B).take i++[((nwOf n o).refsTo B).getD i 0]:=by rw [List.take_add_one,A4 (z:=0) (by rw [Nw.refsTo_len];exact hlt)];rfl
 generalize hr0:((nwOf n o).refsTo B).getD i 0=r at hrB hrr hrow htk
 have hmc:=Nw.mem_cons (n:=nwOf n o) hrr hrB
 have hmB:∀ b∈(nwOf n o).mem B r,b<B:=fun b hb=>List.mem_range.1 (List.mem_filter.1 hb).1
 have hm6:((nwOf n o).mem B r).length<=6:=by
  have:=List.length_filter_le (fun b=>decide ((nwOf n o).root b=r)) (List.range B)
  rw [List.length_range] at this
  exact Nat.le_trans this hB6
 have hroot:∀ b∈(nwOf n o).mem1 B r,b≠r/\(nwOf n o).root b=r/\b<B:=fun b hb=>by
  obtain ⟨h1,h2⟩:=List.mem_filter.1 hb
  have:=of_decide_eq_true h2
  exact ⟨this.1,this.2,List.mem_range.1 h1⟩
 generalize hm:(nwOf n o).mem B r=m at hrow hmc hmB hm6
 have hml1:m.length=((nwOf n o).mem1 B r).length+1:=by rw [hmc];rfl
 have hm0:(pInts m)[0]?=some ((r:Nat):Int):=by rw [hmc];rfl
 have hpl:(pInts m).length=m.length:=by simp
 have hget:∀ k,k<m.length->(pInts m)[k]?=some ((m.getD k 0:Nat):Int):=fun k hk=>by
  unfold pInts
  rw [List.getElem?_map,A4 (z:=0) hk];rfl
 have hgB:∀ k,k<m.length->m.getD k 0<B:=fun k hk=>hmB _ (I6 hk)
 refine .lssT O O O (by omega) (.goC O (.cut (α:=Nat) 1 [3,8,10,11] O (fun k=>[(12,.int .i64 (k:Nat))]) (fun k W'=>W'=W) O ?_ ?_))
 rotate_left
 ·refine .lp (α:=Nat) [3,8,10,11] O (fun k=>[(12,.int .i64 (k:Nat))]) (fun k W'=>W'=W/\1<=k/\k<=m.length) (fun k=>m.length-k) 1 (lc1 O) ⟨rfl,Nat.le_refl _,by omega⟩ ?_
  rintro k W' ⟨hWe,hk1,hk⟩
  subst hWe
  refine .go O (.ixN (i:=i) K3 ty_I O O (hrT hW) O hrow fun p hp=>.ldE (E:=eI) ty_I O O hp fun e he=>.lenR un_I O O he ?_)
  rw [hpl]
  rcases Nat.lt_or_ge k m.length with hkl | hge
  rotate_left
  ·exact .lssF O O O (by omega) (.goN O (.mk k O (lc1 O) O))
  have hkB:=hgB k hkl
  refine .lssT O O O (by omega) (.go O (.ixN (i:=i) K3 ty_I O O (hrT hW) O hrow fun p1 hp1=>.ldE (E:=eI) ty_I O O hp1 fun f1 hf1=>.go O (.ixN (i:=k) un_I A7 O O hf1 O (hget k hkl) fun q1 hq1=>.ldE (E:=eInt .i64) A7 O O hq1 fun y1 hy1=>?_)))
  obtain ⟨rfl,_⟩:=hy1
  refine .lssF O O O (by omega) (.go O (.ixN (i:=i) K3 ty_I O O (hrT hW) O hrow fun p2 hp2=>.go O (.ldE (E:=eI) ty_I O O hp2 fun f2 hf2=>.go O (.ixN (i:=k) un_I A7 O O hf2 O (hget k hkl) fun q2 hq2=>.go O (.ldE (E:=eInt .i64) A7 O O hq2 fun y2 hy2=>.go O (.len un_V O O (.go O ?_)))))))
  obtain ⟨rfl,_⟩:=hy2
  refine .geqF O O O (by omega) (.go O (.ixN (i:=i) K3 ty_I O O (hrT hW) O hrow fun p3 hp3=>.go O (.ldE (E:=eI) ty_I O O hp3 fun f3 hf3=>.go O (.ixN (i:=0) un_I A7 O O hf3 O hm0 fun q3 hq3=>.go O (.ldE (E:=eInt .i64) A7 O O hq3 fun y3 hy3=>.go O ?_)))))
  obtain ⟨rfl,_⟩:=hy3
  refine .lssF O O O (by omega) (.go O (.ixN (i:=i) K3 ty_I O O (hrT hW) O hrow fun p4 hp4=>.go O (.ldE (E:=eI) ty_I O O hp4 fun f4 hf4=>.go O (.ixN (i:=0) un_I A7 O O hf4 O hm0 fun q4 hq4=>.go O (.ldE (E:=eInt .i64) A7 O O hq4 fun y4 hy4=>.go O (.len un_V O O (.go O ?_)))))))
  obtain ⟨rfl,_⟩:=hy4
  exact .geqF O O O (by omega) (.go O (.inc O O O (by omega) (.goN O (.mk (k+1) O (lc1 O) ⟨⟨rfl,by omega,hkl⟩,by show m.length-(k+1)<m.length-k;omega⟩))))
 rintro k0 W' hWe
 subst hWe
 refine .go O (.ixN (i:=i) K3 ty_I O O (hrT hW) O hrow fun p hp=>.ldE (E:=eI) ty_I O O hp fun e he=>.lenR un_I O O he ?_)
 rw [hpl]
 refine .eqlF O O O (by omega) (.go O (.ixN (i:=i) K3 ty_I O O (hrT hW) O hrow fun p3 hp3=>.go O (.ldE (E:=eI) ty_I O O hp3 fun f3 hf3=>.go O (.ixN (i:=0) un_I A7 O O hf3 O hm0 fun q3 hq3=>.go O (.ldE (E:=eInt .i64) A7 O O hq3 fun y3 hy3=>.go O ?_)))))
 obtain ⟨rfl,_⟩:=hy3
 refine .lssF O O O (by omega) (.go O (.ixN (i:=i) K3 ty_I O O (hrT hW) O hrow fun p4 hp4=>.go O (.ldE (E:=eI) ty_I O O hp4 fun f4 hf4=>.go O (.ixN (i:=0) un_I A7 O O hf4 O hm0 fun q4 hq4=>.go O (.ldE (E:=eInt .i64) A7 O O hq4 fun y4 hy4=>.go O (.len un_V O O (.go O ?_)))))))
 obtain ⟨rfl,_⟩:=hy4
 refine .geqF O O O (by omega) (.go O (.bld _ O O Ah4 (.alloc O D3 fun W1 b13 n13=>?_)))
 obtain ⟨g13,k13,hb13,hs13⟩:=n13
 have fb0:FB eQ 39 (fun k=>S k/\k≠b13) W1 g (tab B (Z i)):=(fb.mono (S':=fun k=>S k/\k≠b13) fun k hk h=>⟨h,by omega⟩).ext g13
 generalize hT:(fun k=>(S k/\k≠b13)/\k≠g)=T at fb0
 have hT':∀ k,T k<->(S k/\k≠b13)/\k≠g:=fun k=>by rw [<-hT]
 refine .storeA (E:=eQ) (S:=T) ty_Q O O k13 O O zq_R (fun h=>((hT' _).1 h).1.2 O) fun W2 k13 u13 hy0=>?_
 have hs2':=u13.size
 have fb2:=fb0.upd u13 (by omega) fun h=>h.2 rfl
 have hW2:Ext w2 W2:=u13.below (hW.trans g13) (by omega)
 have hxs:∀ b,Rsz (rv x b) L:=fun b=>hkx.rsz hL1 b
 generalize hpp:(fun k=>lsum (rv x) (((nwOf n o).mem1 B r).take (k-1)))=ps
 have hps:∀ k,Rsz (ps k) (1+6*(L+1)):=fun k=>by
  rw [<-hpp]
  refine (Am0 hxs _ _ O).mono ?_
  rw [List.length_take]
  have:=Nat.mul_le_mul_right (L+1) (show min (k-1) ((nwOf n o).mem1 B r).length<=6 by omega)
  omega
 have hZr:∀ b,b<B->(nwOf n o).root b=r->b≠r->Z i b=rv x b:=fun b hb h1 h2=>by
  rw [<-hZ]
  dsimp only
  rw [if_neg fun h=>h2 ?_]
  have:=(Nw.refsTo_mem.1 (List.mem_of_mem_take h)).2
  exact this.symm.trans h1
 have hp1:ps 1=0:=by rw [<-hpp];rfl
 refine .goC O (.cut (α:=Value×Nat) 1 [3,8,10,11,13] O (fun y=>[(14,.int .i64 (y.2:Nat))]) (fun y W'=>Ext w2 W'/\Blk W' b13 39 y.1.cells/\eQ.R T W' y.1 (qc (ps m.length))/\FB eQ 39 (fun k=>S k/\k≠b13) W' g (tab B (Z i))) O ?_ ?_)
 rotate_left
 ·refine .lp (α:=Nat×Value) [3,8,10,11,13] O (fun y=>[(14,.int .i64 (y.1:Nat))]) (fun y W'=>Ext w2 W'/\1<=y.1/\y.1<=m.length/\Blk W' b13 39 y.2.cells/\eQ.R T W' y.2 (qc (ps y.1))/\FB eQ 39 (fun k=>S k/\k≠b13) W' g (tab B (Z i))) (fun y=>m.length-y.1) (1,zq) (lc1 O) ⟨hW2,Nat.le_refl _,by show 1<=m.length;omega,k13,by show eQ.R T W2 zq (qc (ps 1));rw [hp1,T4];exact hy0,fb2⟩ ?_
  clear fb0 fb2 hW2 k13 hy0 hs2' u13 hs13 g13
  rintro ⟨k,y⟩ W3 ⟨hW3,hk1,hk,k13,hy,fb3⟩
  replace hW3:Ext w2 W3:=hW3
  replace hk1:1<=k:=hk1
  replace hk:k<=m.length:=hk
  replace k13:Blk W3 b13 39 y.cells:=k13
  replace hy:eQ.R T W3 y (qc (ps k)):=hy
  replace fb3:FB eQ 39 (fun k=>S k/\k≠b13) W3 g (tab B (Z i)):=fb3
  have hyv:=shpA (E:=eQ) O hy
  have h13l:=k13.lt
  have hgl3:=fb3.lt
  refine .go O (.ixN (i:=i) K3 ty_I O O (hrT hW3) O hrow fun p hp=>.ldE (E:=eI) ty_I O O hp fun e he=>.lenR un_I O O he ?_)
  rw [hpl]
  rcases Nat.lt_or_ge k m.length with hkl | hge
  rotate_left
  ·have:k=m.length:=by omega
   subst this
   exact .lssF O O O (by omega) (.goN O (.mk (y,m.length) O (lc1 O) ⟨hW3,k13,hy,fb3⟩))
  have hkB:=hgB k hkl
  have hmk:m.getD k 0=((nwOf n o).mem1 B r).getD (k-1) 0:=by
   rw [hmc]
   obtain ⟨k',rfl⟩:∃ k',k=k'+1:=⟨k-1,by omega⟩
   rfl
  obtain ⟨hk2,hk3,_⟩:=hroot _ (I6 (show k-1<((nwOf n o).mem1 B r).length by omega))
  rw [<-hmk] at hk2 hk3
  have hzk:=hZr _ hkB hk3 hk2
  have hpk:ps (k+1)=ps k+rv x (m.getD k 0):=by
   rw [<-hpp]
   dsimp only
   rw [show k+1-1=(k-1)+1 by omega,List.take_add_one,A4 (z:=0) (show k-1<((nwOf n o).mem1 B r).length by omega),<-hmk]
   exact AP3 _ _ _
  have upT':∀ {W':World},W3.heap.size<=W'.heap.size->Up T W':=fun h j hj=>(hT' j).2 ⟨⟨up j (by have:=hW3.size;omega),by omega⟩,by omega⟩
  refine .lssT O O O (by omega) (.goC O ?_)
  refine .par follows 11 [.inl y,.inl (slB B g),.inl vr,.inl (.int .i64 (i:Nat)),.inr (Ptr eI S (pInts m)),.inr (eI.at S (pInts m)),.inl (.int .i64 (k:Nat)),.inr (Ptr (eInt .i64) S ((m.getD k 0:Nat):Int)),.inl (.int .i64 (m.getD k 0:Nat)),.inl (.pointer (some ⟨g,0+m.getD k 0*4,none⟩)),.inr (eQ.at T (qc (rv x (m.getD k 0))))] [[],[],[],[],[(127,2),(128,3)],[(129,4)],[],[(130,5),(131,6)],[(132,7)],[(126,1),(133,8)],[(134,9)]] (by kernel_rfl) ⟨
   fun w e=>((C7 ty_Q O (k13.ext e) (eQ.csz hy)).eq hyv.symm).ob,
   fun w e=>(v_mv O).ob,
   fun w e=>(v_mv O).ob,
   fun w e=>(v_mv O).ob,
   fun w e=>D5 (i:=i) K3 ty_I O (ER.ext eII (hrT hW3) e) O hrow,
   fun w e x4 hx4=>U9 ty_I O hx4,
   fun w e=>(v_mv O).ob,
   fun w e x5 hx5=>D5 (i:=k) un_I A7 O hx5 O (hget k hkl),
   fun w e x7 hx7=>N0 A7 O hx7,
   fun w e=>(I1 (i:=m.getD k 0) un_V ty_Q O O hkB).ob,
   fun w e=>(AH6 (E:=eQ) (i:=m.getD k 0) (by decide) ty_Q O (Nat.zero_add _) (fb3.ext e) (by rw [J7 hkB,hzk])).mono fun v' w' h=>by rw [<-hT];exact h,trivial⟩ ?_
  intro W4' e4' _ _ _ _ _ _ x10 hx10
  have hadd:=Z8 (L:=1+6*(L+1)) (upT' e4'.size) (ER.ext eQ hy e4') hx10 (hps _).toOk ((hxs _).mono (by omega)).toOk (by omega) (by omega)
  rw [B9,B9,<-hpk] at hadd
  refine .call _ O AB0 O hadd fun y4 W4 e4 hy4=>?_
  have e4:=e4'.trans e4
  have hs4:=e4.size
  refine .storeA (E:=eQ) (S:=T) ty_Q O O (k13.ext e4) O (eQ.csz hy) hy4 (fun h=>((hT' _).1 h).1.2 O) fun W5 k13 u5 hy5=>?_
  exact .go O (.inc O O O (by omega) (.goN O (.mk (k+1,y4) O (lc1 O) ⟨⟨u5.below (hW3.trans e4) (by omega),by show 1<=k+1;omega,hkl,k13,hy5,(fb3.ext e4).upd u5 (by omega) fun h=>h.2 rfl⟩,by show m.length-(k+1)<m.length-k;omega⟩)))
 clear fb0 fb2 hW2 k13 hy0 hs2' u13
 rintro ⟨y,k1⟩ W3 ⟨hW3,k13,hy,fb3⟩
 replace hW3:Ext w2 W3:=hW3
 replace k13:Blk W3 b13 39 y.cells:=k13
 replace hy:eQ.R T W3 y (qc (ps m.length)):=hy
 replace fb3:FB eQ 39 (fun k=>S k/\k≠b13) W3 g (tab B (Z i)):=fb3
 have hyv:=shpA (E:=eQ) O hy
 have h13l:=k13.lt
 have hgl3:=fb3.lt
 have hblr : - ps m.length=(nwOf n o).bl (rv x) r:=by
  rw [Nw.bl_root _ hrr,hBB,<-hpp]
  dsimp only
  rw [List.take_of_length_le (by omega)]
 have upT':∀ {W':World},W3.heap.size<=W'.heap.size->Up T W':=fun h j hj=>(hT' j).2 ⟨⟨up j (by have:=hW3.size;omega),by omega⟩,by omega⟩
 refine .goC O ?_
 refine .par follows 9 [.inl (slB B g),.inl vr,.inl (.int .i64 (i:Nat)),.inr (Ptr eI S (pInts m)),.inr (eI.at S (pInts m)),.inr (Ptr (eInt .i64) S ((r:Nat):Int)),.inl (.int .i64 (r:Nat)),.inl y,.inr (eQ.at T (qc ((nwOf n o).bl (rv x) r)))] [[],[],[],[(138,1),(139,2)],[(140,3)],[(141,4)],[(142,5)],[],[(144,7)]] (by kernel_rfl) ⟨
  fun w e=>(v_mv O).ob,
  fun w e=>(v_mv O).ob,
  fun w e=>(v_mv O).ob,
  fun w e=>D5 (i:=i) K3 ty_I O (ER.ext eII (hrT hW3) e) O hrow,
  fun w e x3 hx3=>U9 ty_I O hx3,
  fun w e x4 hx4=>D5 (i:=0) un_I A7 O hx4 O hm0,
  fun w e x5 hx5=>N0 A7 O hx5,
  fun w e=>((C7 ty_Q O (k13.ext e) (eQ.csz hy)).eq hyv.symm).ob,
  fun w e=>by
   have:=AI0 (L:=1+6*(L+1)) (upT' e.size) (ER.ext eQ hy e) (R0 (hps _)) (by omega) (by omega)
   rw [B9,hblr] at this
   exact (A5 _ AI5 O this).ob (A9 _ _ _),trivial⟩ ?_
 intro W4 e4 _ _ _ _ _ _ y4 hy4
 have hs4:=e4.size
 have fb4:FB eQ 39 S W4 g (tab B (Z i)):=(fb3.ext e4).mono fun k _ h=>h.1
 refine .ixB (i:=r) un_V ty_Q O O O hrB (.storeF (E:=eQ) (i:=r) (by decide) ty_Q O O fb4 O (by rw [A2];exact hrB) (Nat.zero_add _) (eQ.mono (fun k _ h=>⟨((hT' k).1 h).1.1,((hT' k).1 h).2⟩) hy4) fun W5 f5 u5=>?_)
 have hstep:(tab B (Z i)).set r (qc ((nwOf n o).bl (rv x) r))=tab B (Z (i+1)):=by
  rw [S8]
  refine F5 fun b _=>?_
  rw [<-hZ]
  dsimp only
  rw [htk]
  by_cases e:b=r
  ·rw [if_pos e,if_pos (List.mem_append.2 (.inr (List.mem_singleton.2 e))),e]
  ·rw [if_neg e]
   by_cases h:b∈((nwOf n o).refsTo B).take i
   ·rw [if_pos h,if_pos (List.mem_append.2 (.inl h))]
   ·rw [if_neg h,if_neg fun h'=>(List.mem_append.1 h').elim h fun h'=>e (List.mem_singleton.1 h')]
 rw [hstep] at f5
 exact .go O (.inc O O O (by omega) (.goN O (.mk (i+1) O (lc1 O) ⟨⟨u5.below (hW3.trans e4) (by omega),hlt,f5⟩,by show (nwOf n o).cnt B-(i+1)<(nwOf n o).cnt B-i;omega⟩)))
end Go.Proofs.YtpgkacdihhjknaaGreat
namespace Go.Kx
open Go Go.RowKit
theorem Leave.tt {P:Program} {fn:Func} {N:Nat} {σ:Env} {w W:World} {r:Nat} (hr:fn.results=#[.tmp r]) (hl:look σ r=some (.bool true)) (h:Ext w W):Leave P fn N (fun v w'=>Ext w w'/\Is (.bool true) v w') σ [] W:=.plain [_] hr ⟨hl,trivial⟩ ⟨h,rfl⟩
end Go.Kx
namespace Go.Proofs.YtpgkacdihhjknaaGreat
open Go Go.Kx Go.RowKit
theorem bl_vk {n:NtV} {o:List Int} (ok:nwOk n o) {x:List QV} (h:vk 4 x):vk 40 (tab (nwOf n o).B ((nwOf n o).bl (rv x))):=U7 fun b _=>by
 have hx:∀ b,Rsz (rv x b) 4:=fun b=>h.rsz (by decide) b
 unfold Nw.bl
 split
 ·refine ((AW5 (L:=4) fun c _=>?_).mono ?_).neg
  ·split
   ·exact hx c
   ·exact Rsz.zero (by decide)
  ·have:=ok.b6;omega
 ·exact (hx b).mono (by decide)
theorem bl_bal {n:NtV} {o:List Int} {x:Nat->Rat}:(nwOf n o).bal (rv (tab (nwOf n o).B ((nwOf n o).bl x))) :=
 (Nw.bal_congr fun b hb=>by rw [O5,if_pos hb]).2 (Nw.bl_bal x)
theorem bl_an {n:NtV} {o:List Int} {x:List QV} (hO:outE n o=0):anE n o (tab (nwOf n o).B ((nwOf n o).bl (rv x)))=0 :=
 BN3 hO (by have:=(I0 hO).b;rw [A2];omega) bl_bal
theorem fl_vk {n:NtV} {o:List Int} (ok:nwOk n o) {x:List QV} {L:Nat} (h:vk L x) (hL1:1<=L) (hL:L<=9000):vk 1200000 (tab n.ls.length ((nwOf n o).fl ((nwOf n o).an (rv x)))):=U7 fun k _ =>
 (fl_rsz ok (Au0 ok hL1 (fun b=>h.rsz hL1 b)) k).mono (by omega)
end Go.Proofs.YtpgkacdihhjknaaGreat
namespace Go.Kx
open Go Go.RowKit
theorem AW8 {P:Program} {σ:Env} {w:World} {a t t':TypeId} {b n:Nat} {v:Value} {cs:Array Value} (hs:look σ a=some (.pointer (some ⟨b,0,none⟩))) (ht:tyOf P t=some (false,n)) (hb:Blk w b t' cs) (hc:cs[0]?=some v):∃ p,look σ a=some (.pointer (some p))/\(loadVar t p).run P w=.ok v w :=
 ⟨_,hs,H0 ht ((hb.cell 0).trans hc)⟩
theorem Ar1 {P:Program} {σ:Env} {w:World} {a t t':TypeId} {b n:Nat} {α:Type} {E:ER α} {S:Nat->Prop} {v:Value} {z:α} (hs:look σ a=some (.pointer (some ⟨b,0,none⟩))) (ht:tyOf P t=some (true,n)) (hA:E.isA=true) (hn:E.sz=n) (hb:Blk w b t' v.cells) (hz:E.R S w v z):∃ p,look σ a=some (.pointer (some p))/\(loadVar t p).run P w=.ok v w:=by
 refine ⟨_,hs,?_⟩
 have hsz:=E.csz hz
 have:=I4 (P:=P) (w:=w) (p:=⟨b,0,none⟩) (cs:=v.cells.toList) (t:=t) (by rw [ht];simp;omega) (fun j u hu=>by rw [I5,hb.cell];simpa using hu)
 rw [this]
 have hv:=shpA hA hz
 simp only [Array.toArray_toList]
 rw [<-hv]
theorem AJ6 {r:Rat}:0<sgnR r<->0<r:=by
 unfold sgnR
 rw [Int.sign_pos_iff]
 constructor
 ·intro h
  have h1:0<=r:=Rat.num_nonneg.1 (by omega)
  have h2:r≠0:=fun e=>by rw [e] at h;exact absurd h (by decide)
  grind
 ·intro h
  have h1:0<=r.num:=Rat.num_nonneg.2 (by grind)
  have h2:r.num≠0:=fun e=>by
   have:=Rat.num_eq_zero.1 e
   grind
  omega
theorem OwnL.lt9 {β:Type} {E:ER β} {t':TypeId} {base:Nat} {X:Nat->Prop} {w:World} {v:Value} {b:List β} (h:OwnL E t' base X w v b) (k:Nat) (hk:v.ownBlock=some k):base<=k/\k<w.heap.size:=by
 obtain ⟨es,h1,_⟩:=h
 exact h1.lt k hk
end Go.Kx
namespace Go.Proofs.YtpgkacdihhjknaaGreat
open Go Go.Kx Go.RowKit
theorem Ao5 {r:Rat} {L:Nat} (h:Rsz r L):Rsz (absR r) L:=by
 unfold absR
 split
 ·exact h.neg
 ·exact h
section
variable (n:NtV) (o:List Int) (x:Nat->Rat)
def lsT:Nat->List FdV
 | 0=>[]
 | k+1=>AR2 n o x k
def csL:Nat->List FdV
 | 0=>fds (capL n) (-1) (flB n o x) n.ls.length
 | i+1=>scK n o x ((inL n o).getD i 0)
end
section
variable {n:NtV} {o:List Int} {x:Nat->Rat}
theorem Am1 {k:Nat} (hk:k<1+(inL n o).length):lsT n o x (k+1)=lsT n o x k++csL n o x k:=by
 cases k with
 | zero=>show AR2 n o x 0=[]++_;unfold AR2;simp [csL]
 | succ i =>
  show AR2 n o x (i+1)=AR2 n o x i++scK n o x ((inL n o).getD i 0)
  unfold AR2
  rw [List.take_add_one,A4 (z:=0) (show i<(inL n o).length by omega),List.flatMap_append,List.append_assoc]
  simp
theorem scK_len (hM:n.ls.length<=10) (k:Nat):(scK n o x k).length<=10:=by
 unfold scK
 split
 ·exact Nat.le_of_ble_eq_true rfl
 ·exact Nat.le_trans (Ag7 ..) hM
theorem Aw9 (hM:n.ls.length<=10):∀ k,k<=1+(inL n o).length->(lsT n o x k).length<=k*10
 | 0,_=>Nat.le_refl _
 | k+1,h=>by
  rw [Am1 (by omega),List.length_append]
  have h1:=Aw9 hM k (by omega)
  have h2:(csL n o x k).length<=10:=by
   cases k with
   | zero=>exact Nat.le_trans (Ag7 ..) hM
   | succ i=>exact scK_len hM _
  omega
end
theorem Aq8 {n:NtV} {o:List Int} {x:List QV} {L k:Nat} (hO:outE n o=0) (hkx:vk L x) (hL1:1<=L) (hL:L<=9000) (hk:k<1+(inL n o).length) :
  (sitV n o (rv x) k).e=0/\(((sitV n o (rv x) k).split=true/\csL n o (rv x) k=[⟨(sitV n o (rv x) k).lost,-1,q0,q0⟩])\/((sitV n o (rv x) k).split=false/\∃ f:Nat->Rat,(sitV n o (rv x) k).flows=tab n.ls.length f/\(∀ i,i<n.ls.length->Rsz (f i) 1200000)/\csL n o (rv x) k=fds (capL n) (sitV n o (rv x) k).lost f n.ls.length)):=by
 have ok:=I0 hO
 have hsz:∀ {u:List Int} {i:Nat},nwOk n u->i<n.ls.length->Rsz ((nwOf n u).fl ((nwOf n u).an (rv x)) i) 1200000:=fun oku hi=>by
  have:=((fl_vk oku hkx hL1 hL) _ (List.mem_of_getElem? (J7 hi))).2
  rwa [B9] at this
 cases k with
 | zero=>exact ⟨rfl,.inr ⟨rfl,flB n o (rv x),rfl,fun i hi=>hsz ok hi,rfl⟩⟩
 | succ i =>
  refine ⟨rfl,?_⟩
  obtain ⟨_,hkM,hko⟩:=AF0 (show i<(inL n o).length by omega)
  by_cases hB:(nwOf n o).brg ((inL n o).getD i 0)
  ·exact .inl ⟨decide_eq_true hB,by show scK n o (rv x) _=_;unfold scK;exact if_pos hB⟩
  ·refine .inr ⟨decide_eq_false hB,flK n o (rv x) ((inL n o).getD i 0),if_neg hB,fun j hj=>?_,by show scK n o (rv x) _=_;unfold scK;exact if_neg hB⟩
   obtain ⟨hOu,hcut⟩:=As0 hO hkM (BH8 (AU4 (O9 hO).2).1 (AP2 hko))
   have:=hsz (I0 hOu) hj
   rw [hcut] at this
   exact this
structure ScJ (w2:World) (m1 b10 p1 p2 p3 p4:Nat) (s vo vx vb:Value) (n:NtV) (l:List FdV) (a:Nat) (V W:World):Prop where
 low:Below w2.heap.size w2 W
 k1:Blk W p1 24 #[.int .i64 n.b,s]
 k2:Blk W p2 25 #[vo]
 k3:Blk W p3 26 #[vx]
 k4:Blk W p4 26 #[vb]
 pr:Kp (fun j=>j<w2.heap.size\/a<=j) V W
 hb:w2.heap.size<=b10/\b10<a
 sz:V.heap.size<=W.heap.size
 acc:∃ v,Blk W b10 29 #[v]/\OwnL eFd 41 w2.heap.size (fun j=>m1<=j/\j≠b10) W v l/\∀ j,v.ownBlock=some j->j<a\/V.heap.size<=j
section
variable {w2:World} {m1 b10 p1 p2 p3 p4:Nat} {s vo vx vb:Value} {n:NtV} {l:List FdV} {a:Nat} {V W:World}
theorem ScJ.sft {D:Nat} {W':World} (h:ScJ w2 m1 b10 p1 p2 p3 p4 s vo vx vb n l a V W) (hs:Sft D W W') (hD:w2.heap.size<=D):ScJ w2 m1 b10 p1 p2 p3 p4 s vo vx vb n l a V W':=by
 obtain ⟨v,h1,h2,h3⟩:=h.acc
 exact ⟨h.low.trans (hs.below.mono hD),hs.cells.blk trivial h.k1,hs.cells.blk trivial h.k2,hs.cells.blk trivial h.k3,hs.cells.blk trivial h.k4,fun k c t f hk hc=>hs.cells k c t f trivial (h.pr k c t f hk hc),h.hb,Nat.le_trans h.sz hs.below.size,v,hs.cells.blk trivial h1,h2.kp hs.cells,h3⟩
theorem ScJ.snap {W':World} (h:ScJ w2 m1 b10 p1 p2 p3 p4 s vo vx vb n l a V W) (e:Ext W W'):ScJ w2 m1 b10 p1 p2 p3 p4 s vo vx vb n l W.heap.size W' W':=by
 obtain ⟨v,h1,h2,h3⟩:=h.acc
 exact ⟨h.low.trans (e.mono h.low.size),h.k1.ext e,h.k2.ext e,h.k3.ext e,h.k4.ext e,fun k c t f _ hc=>hc,⟨h.hb.1,h1.lt⟩,Nat.le_refl _,v,h1.ext e,h2.ext e,fun j hj=>.inl (h2.lt9 j hj).2⟩
structure ScB (w2:World) (m1 b10 p1 p2 p3 p4:Nat) (s vo vx vb:Value) (n:NtV) (W2:World) (v2:Value) (l:List FdV) (W:World):Prop where
 low:Below w2.heap.size w2 W
 k1:Blk W p1 24 #[.int .i64 n.b,s]
 k2:Blk W p2 25 #[vo]
 k3:Blk W p3 26 #[vx]
 k4:Blk W p4 26 #[vb]
 hb:w2.heap.size<=b10
 oth:Oth W2 W
 sz:W2.heap.size<=W.heap.size
 kp:Kp (fun j=>j≠b10/\v2.ownBlock≠some j) W2 W
 acc:∃ v,Blk W b10 29 #[v]/\OwnL eFd 41 w2.heap.size (fun j=>m1<=j/\j≠b10) W v l/\(v.ownBlock=v2.ownBlock\/∀ j,v.ownBlock=some j->W2.heap.size<=j)
theorem ScB.close {W2:World} {v2:Value} {l2:List FdV} (h:ScB w2 m1 b10 p1 p2 p3 p4 s vo vx vb n W2 v2 l2 W) (h0:ScJ w2 m1 b10 p1 p2 p3 p4 s vo vx vb n l a V W2) (hk2:Blk W2 b10 29 #[v2]):ScJ w2 m1 b10 p1 p2 p3 p4 s vo vx vb n l2 a V W:=by
 obtain ⟨v,g1,g2,g3⟩:=h.acc
 obtain ⟨v0,q1,q2,q3⟩:=h0.acc
 have hv:v0=v2:=by
  have e1:W2.heap[b10]?=some (.cells #[v0] _ (0,0)):=q1
  have e2:W2.heap[b10]?=some (.cells #[v2] _ (0,0)):=hk2
  rw [e1] at e2
  injection e2 with e2
  injection e2 with e2
  simpa using e2
 subst hv
 have hab:=h0.hb
 refine ⟨h.low,h.k1,h.k2,h.k3,h.k4,fun k c t f hk hc=>?_,h0.hb,Nat.le_trans h0.sz h.sz,v,g1,g2,fun j hj=>?_⟩
 ·have hkV:k<V.heap.size:=(Array.getElem?_eq_some_iff.1 hc).1
  refine h.kp k c t f ⟨?_,fun e=>?_⟩ (h0.pr k c t f hk hc)
  ·rcases hk with hk | hk<;>omega
  ·have h1:=q3 k e
   have h2:=(q2.lt9 k e).1
   rcases hk with hk | hk<;>omega
 ·rcases g3 with g3 | g3
  ·rw [g3] at hj;exact q3 j hj
  ·have h1:=g3 j hj
   have h2:=h0.sz
   exact .inr (by omega)
theorem ScB.ext {W2 W':World} {v2:Value} {l:List FdV} (h:ScB w2 m1 b10 p1 p2 p3 p4 s vo vx vb n W2 v2 l W) (e:Ext W W'):ScB w2 m1 b10 p1 p2 p3 p4 s vo vx vb n W2 v2 l W':=by
 obtain ⟨v,h1,h2,h3⟩:=h.acc
 exact ⟨h.low.trans (e.mono h.low.size),h.k1.ext e,h.k2.ext e,h.k3.ext e,h.k4.ext e,h.hb,h.oth.trans (Oth.ext e),Nat.le_trans h.sz e.size,fun k c t f hk hc=>Kp.ext (S:=fun _=>True) e k c t f trivial (h.kp k c t f hk hc),v,h1.ext e,h2.ext e,h3⟩
theorem ScB.push {W2 W1 W4 W5:World} {v2 v v4:Value} {y:FdV} {l:List FdV} (h:ScB w2 m1 b10 p1 p2 p3 p4 s vo vx vb n W2 v2 l W) (hv:v.ownBlock=v2.ownBlock\/∀ j,v.ownBlock=some j->W2.heap.size<=j) (hO:OwnL eFd 41 w2.heap.size (fun j=>m1<=j/\j≠b10) W v l) (d:Ext W W1) (hO4:OwnL eFd 41 w2.heap.size (fun j=>m1<=j/\j≠b10) W4 v4 (l++[y])) (g:W1.grownBy W4 v.ownBlock) (hw:v4.ownBlock=v.ownBlock\/v4.ownBlock=some W1.heap.size) {cs:Array Value} (k10:Blk W4 b10 29 cs) (u:Upd W4 W5 b10) (k5:Blk W5 b10 29 #[v4]):ScB w2 m1 b10 p1 p2 p3 p4 s vo vx vb n W2 v2 (l++[y]) W5:=by
 have hOd:=hO.ext d
 have hl1:=h.low.trans (d.mono h.low.size)
 have ne:∀ {p:Nat} {t:TypeId} {c:Array Value},Blk W4 p t c->t≠29->p≠b10:=fun {p t c} hp ht e=>by
  subst e
  have e1:W4.heap[p]?=some (.cells c t (0,0)):=hp
  have e2:W4.heap[p]?=some (.cells cs 29 (0,0)):=k10
  rw [e1] at e2;cases e2;exact ht rfl
 have q1:=hOd.gblk g (h.k1.ext d) (by decide)
 have q2:=hOd.gblk g (h.k2.ext d) (by decide)
 have q3:=hOd.gblk g (h.k3.ext d) (by decide)
 have q4:=hOd.gblk g (h.k4.ext d) (by decide)
 have z1:=d.size
 have z4:=g.size
 have z5:=u.size
 have z0:=h.sz
 refine ⟨u.below (hOd.below g hl1 hl1.size) h.hb,q1.upd u (ne q1 (by decide)),q2.upd u (ne q2 (by decide)),q3.upd u (ne q3 (by decide)),q4.upd u (ne q4 (by decide)),h.hb,((h.oth.trans (Oth.ext d)).trans (hOd.oth g)).trans (Oth.upd u k10),by omega,fun k c t f hk hc=>?_,v4,k5,hO4.upd u k10 (by decide) (fun h=>h.2 O),?_⟩
 ·have hk2:k<W2.heap.size:=(Array.getElem?_eq_some_iff.1 hc).1
  have c1:=h.kp k c t f hk hc
  have hk1:k<W.heap.size:=(Array.getElem?_eq_some_iff.1 c1).1
  have c2:=(d.block k hk1).trans c1
  have c3:=(g.block k (by omega) (fun e=>by
   rcases hv with hv | hv
   ·exact hk.2 (by rw [<-hv];exact e.symm)
   ·have:=hv k e.symm;omega)).trans c2
  exact (u.block k hk.1).trans c3
 ·rcases hw with hw | hw
  ·rw [hw];exact hv
  ·exact .inr fun j hj=>by rw [hw] at hj;cases hj;omega
end
theorem Az9:Ent Tryz.prog 27:=A0 Tryz.func27 (by kernel_rfl) rfl
set_option maxRecDepth 8000 in
theorem All_t {T0:Nat->Prop} {w:World} {vn vo vx:Value} {n:NtV} {o:List Int} {x:List QV} {L:Nat} (upo:Up T0 w) (hn:eN.R (fun _=>True) w vn n) (ho:eI.R (fun _=>True) w vo o) (hx:eV.R (fun _=>True) w vx x) (hkx:vk L x) (hL1:1<=L) (hL:L<=9000) :
  CR Tryz.prog 27 #[vn,vo,vx] w (Two (eFds.at T0 (if anE n o x=0 then scr n o (rv x) else [])) (Is (.int .i64 (anE n o x)))):=by
 obtain ⟨s,rfl,hs,hb⟩:=hn
 have hn:eN.R (fun _=>True) w (.agg #[.int .i64 n.b,s]) n:=⟨s,rfl,hs,hb⟩
 obtain ⟨ao,co,hvo,_⟩:=RL.len ho
 obtain ⟨ax,cx,hvx,_⟩:=RL.len hx
 refine enter Tryz.func27 O Tryz.ntmps27 O (.beg (.go O (.box O O fun wa b3 na=>.alloc O Aj2 fun wb b6 nb=>.alloc O zero_Er fun w1 b7 nc=>?_)))
 obtain ⟨ea,k3,hb3,hsa⟩:=na
 obtain ⟨eb,k6,hb6,hsb⟩:=nb
 obtain ⟨ec,k7,hb7,hsc⟩:=nc
 have x1:=(ea.trans eb).trans ec
 replace k3:Blk w1 b3 24 #[.int .i64 n.b,s]:=(k3.ext eb).ext ec
 replace k6:Blk w1 b6 29 #[.slice none 0 0]:=k6.ext ec
 replace k7:Blk w1 b7 32 #[.int .i64 0]:=k7
 refine .go O (.ldA ty_N O O k3 O (.go O ?_))
 refine .call _ O AN6 O (AL4 (S:=fun _=>True) (T0:=fun j=>w1.heap.size<=j) upT (fun _ h=>h) (hn.ext x1) (ho.ext x1) (ER.ext eV hx x1) hkx hL1 hL) fun v2 w2 e2 h2=>?_
 obtain ⟨vb,ve,rfl,hbf,he⟩:=h2
 replace he:ve=.int .i64 (anE n o x):=he
 subst he
 have x2:=x1.trans e2
 have k3:=k3.ext e2
 have k6:=k6.ext e2
 have k7:=k7.ext e2
 refine .go O ?_
 by_cases hA:anE n o x=0
 rotate_left
 ·refine .neqT O O O hA (.go O (.store Z3 O O k6 O (by simp [Value.cells]) (by simp [one1,Value.cells]) fun w3 k6 u3=>?_))
  have k7:=k7.upd u3 (by omega)
  refine .go O (.store AO5 O O k7 O (by simp [Value.cells]) (by simp [one1,Value.cells]) fun w4 k7 u4=>.goE O ?_)
  have k6:=k6.upd u4 (by omega)
  refine .plain [_,_] Tryz.results27 ⟨AW8 O Z3 k6 rfl,AW8 O AO5 k7 rfl,trivial⟩ ⟨u4.below (u3.below x2 (by have:=ea.size;omega)) (by have:=ea.size;have:=eb.size;omega),_,_,rfl,?_,rfl⟩
  rw [if_neg hA];exact RL.nil
 rw [if_pos hA]
 rw [if_pos hA] at hbf
 replace hbf:eV.R (fun j=>w1.heap.size<=j) w2 vb (tab n.ls.length (flB n o (rv x))):=hbf
 have hO:outE n o=0:=by
  have:=(Ah7 hA).1
  exact (AO7 this).1
 have ok:=I0 hO
 have hM10:n.ls.length<=10:=ok.m
 have hll:=T5 n o
 obtain ⟨ab,cb,hvb,_⟩:=RL.len hbf
 refine .neqF O O O hA (.go O (.alloc O Aj2 fun w3 b10 n3=>?_))
 obtain ⟨e3,k10,hb10,hs3⟩:=n3
 have z2:=x2.size
 have z12:=e2.size
 refine .go O (.ldA ty_N O O (k3.ext e3) O (.go O ?_))
 refine .call _ O Ah8 O (Ae6 O hvo hvx hvb) fun v4 w4 e4 h4=>?_
 obtain ⟨p1,p2,p3,p4,rfl,⟨kp1,kp2,kp3,kp4⟩,hp1,hp2,hp3,hp4⟩:=h4
 have e34:=e3.trans e4
 have z34:=e34.size
 have z4:=e4.size
 have z3:=e3.size
 have hn0:eN.R (fun j=>j<w2.heap.size) w2 (.agg #[.int .i64 n.b,s]) n:=eN.mono (fun _ _ h=>h.2) (ER.lt eN (hn.ext x2))
 have ho0:eI.R (fun j=>j<w2.heap.size) w2 vo o:=eI.mono (fun _ _ h=>h.2) (ER.lt eI (ho.ext x2))
 have hx0:eV.R (fun j=>j<w2.heap.size) w2 vx x:=eV.mono (fun _ _ h=>h.2) (ER.lt eV (ER.ext eV hx x2))
 have hb0:eV.R (fun j=>w1.heap.size<=j/\j<w2.heap.size) w2 vb (tab n.ls.length (flB n o (rv x))):=ER.lt eV hbf
 have hs0:eLs.R (fun j=>j<w2.heap.size) w2 s n.ls:=eLs.mono (fun _ _ h=>h.2) (ER.lt eLs (ER.ext eLs hs x2))
 refine .goC O (.rangeS (b0:=w2.heap.size) (Aa4 (TB:=fun j=>w1.heap.size<=j/\j<w2.heap.size) (n:=n) (o:=o) (x:=x) (s:=s) (vo:=vo) (vx:=vx) (vb:=vb) (b1:=p1) (b2:=p2) (b3:=p3) (b4:=p4) hO hA hkx hL1 hL) rfl Ab3 (fun k B vs W h=>by obtain ⟨v,rfl,_⟩:=h;rfl) (by decide)
  (fun k a V W=>ScJ w2 w1.heap.size b10 p1 p2 p3 p4 s vo vx vb n (lsT n o (rv x) k) a V W) (fun _ _=>False) (fun k a V W W' h hs=>h.sft hs (by omega)) (fun _ _ _ h _=>h.elim) (fun k a V W h=>⟨h.k1,h.k2,h.k3,h.k4,hn0.ext h.low,ER.ext eI ho0 h.low,ER.ext eV hx0 h.low,ER.ext eV hb0 h.low⟩)
  (fun k a V W W' h e=>h.snap e) (fun k a V W h=>h.pr) ?_ ?_ ?_ (fun _ _ h=>h.elim))
 ·exact ⟨e34,kp1,kp2,kp3,kp4,fun k c t f _ hc=>hc,⟨by omega,by omega⟩,Nat.le_refl _,_,k10.ext e4,OwnL.nil,fun j hj=>by simp [Value.ownBlock] at hj⟩
 ·intro l k a V W0 W vs hk hJ0 e0 hY
  obtain ⟨v30,rfl,hsit⟩:=hY
  obtain ⟨va,ka0,hown0,hoa⟩:=hJ0.acc
  have hb10W:=ka0.lt
  have hoL:=hown0.lt9
  have hlow0:=hJ0.low.size
  obtain ⟨he0,hcs⟩:=Aq8 hO hkx hL1 hL hk
  have hls:=Am1 (n:=n) (o:=o) (x:=rv x) hk
  have hln:=Aw9 (n:=n) (o:=o) (x:=rv x) hM10 k (by omega)
  generalize sitV n o (rv x) k=sit at hsit he0 hcs
  rw [hls]
  generalize lsT n o (rv x) k=l0 at hJ0 hown0 hln
  generalize csL n o (rv x) k=l1 at hcs
  obtain ⟨vf,rfl,hlo,_,hf⟩:=hsit
  obtain ⟨af,cf,hvf,_⟩:=RL.len hf
  have hzW:=e0.size
  refine .region (.alloc O Aj1 fun wc c nc=>?_)
  obtain ⟨ec,kc,hc,hsc⟩:=nc
  have hsc':eSit.R (fun j=>((w1.heap.size<=j/\j<w2.heap.size)\/W0.heap.size<=j)/\j<W.heap.size) wc (.agg #[.int .i64 sit.lost,.bool sit.split,vf,.int .i64 sit.e]) sit:=ER.ext eSit (ER.lt eSit ⟨vf,rfl,hlo,by rw [he0];exact inI0,hf⟩) ec
  refine .storeA (E:=eSit) AW3 O O kc O O hsc' (fun h=>by have:=h.2;omega) fun wd kc ud hsd=>.nil ⟨rfl,ud.below ec (by omega),fun W2 hJ2 hsf hsz hsq=>?_⟩
  have d0d:Ext W wd:=ud.below ec (by omega)
  have kc:=hsf.cells.blk trivial kc
  replace kc:Blk W2 c 105 #[.int .i64 sit.lost,.bool sit.split,vf,.int .i64 sit.e]:=kc
  have ka:=hsf.cells.blk trivial ((ka0.ext e0).ext d0d)
  have hown:=((hown0.ext e0).ext d0d).kp hsf.cells
  have hfd:=ER.ext eV hf d0d
  have hf2:eV.R (fun j=>((w1.heap.size<=j/\j<w2.heap.size)\/W0.heap.size<=j)/\j<W2.heap.size) W2 vf sit.flows:=ER.lt eV (eV.keep (fun j c' t' f' _ h=>hsf.cells j c' t' f' trivial h) hfd)
  clear hf hfd hsc' hsd
  have hB2:ScB w2 w1.heap.size b10 p1 p2 p3 p4 s vo vx vb n W2 va l0 W2:=⟨hJ2.low,hJ2.k1,hJ2.k2,hJ2.k3,hJ2.k4,hJ2.hb.1,Oth.refl _,Nat.le_refl _,fun _ _ _ _ _ h=>h,va,ka,hown,.inl rfl⟩
  have hz2:W.heap.size<W2.heap.size:=by have:=ud.size;omega
  rw [he0] at kc
  refine .beg (.go O (.fa An2 O O (.go O (.ld AO5 O O kc O (.go O (.neqF O O O O (.go O (.fa AY0 O O (.go O (.ld B8 O O kc O ?_))))))))))
  rcases hcs with ⟨hsp,rfl⟩ | ⟨hsp,f,hfl,hfz,rfl⟩
  ·rw [hsp] at kc ⊢
   refine .go O (.ld Z3 O O ka O (.go O (.fa An4 O O (.go O (.ld A8 O O kc O (.go O (.bld _ O O bld_Fd2 (.go O (.bsl _ O O Az0 fun W3 by_ ny=>?_)))))))))
   obtain ⟨d3,ky,hby,hsy⟩:=ny
   have hlw:=hJ2.low.size
   refine .gv O O (AK9 (E:=eFd) (base:=w2.heap.size) (n:=⟨sit.lost,-1,q0,q0⟩) (e:=.agg #[.int .i64 sit.lost,.int .i64 (-1),.bool false,.slice none 0 0,.bool false,.slice none 0 0,.bool false,.slice none 0 0,.bool false,.slice none 0 0]) (by decide) I9 Ax7 O O O (hown.ext d3) ky ⟨_,_,_,_,rfl,hlo,inIm1,RL.nil,RL.nil,RL.nil,RL.nil⟩ (by omega) (by decide) (by have:=d3.size;omega)) ?_
   rintro v4 W4 ⟨hO4,g4,hw4⟩
   have ka4:=(hown.ext d3).gblk g4 (ka.ext d3) (by decide)
   obtain ⟨a9,c9,hv9⟩:=hO4.slice
   refine .go O (.store Z3 O O ka4 (by rw [hv9];rfl) (by simp [Value.cells]) (by rw [hv9];simp [one1,Value.cells]) fun W5 ka5 u5=>.goE O ?_)
   replace ka5:Blk W5 b10 29 #[v4]:=by rw [hv9] at ka5 ⊢;exact ka5
   have hB5:=hB2.push (.inl O) hown d3 hO4 g4 hw4 ka4 u5 ka5
   exact ⟨hB5.oth,hB5.close hJ2 ka⟩
  ·rw [hsp] at kc ⊢
   rw [hfl] at hf2
   refine .go O (.fa An3 O O (.go O (.ld ty_V O O kc O (.go O (.lenR un_V O O hf2 (.goC O ?_))))))
   rw [A2]
   have hoa2:∀ j,va.ownBlock=some j->w2.heap.size<=j/\j<W0.heap.size:=hoL
   have hb102:=hJ2.hb
   refine .lp (α:=Nat) [3,6,7,10,11,45,46] O (fun i=>[(47,.int .i64 (i:Nat))]) (fun i W'=>ScB w2 w1.heap.size b10 p1 p2 p3 p4 s vo vx vb n W2 va (l0++fds (capL n) sit.lost f i) W'/\i<=n.ls.length) (fun i=>n.ls.length-i) 0 (lc1 O) ⟨by rw [show fds (capL n) sit.lost f 0=[] from rfl,List.append_nil];exact hB2,Nat.zero_le _⟩ ?_
   rintro i W' ⟨hB,hi⟩
   replace hB:ScB w2 w1.heap.size b10 p1 p2 p3 p4 s vo vx vb n W2 va (l0++fds (capL n) sit.lost f i) W':=hB
   replace hi:i<=n.ls.length:=hi
   refine .go O ?_
   rcases Nat.lt_or_ge i n.ls.length with hlt | hge
   rotate_left
   ·have:i=n.ls.length:=by omega
    subst this
    exact .lssF O O O (by omega) (.goE O ⟨hB.oth,hB.close hJ2 ka⟩)
   have hdis:∀ j,((w1.heap.size<=j/\j<w2.heap.size)\/W0.heap.size<=j)->j≠b10/\va.ownBlock≠some j:=fun j hj=>by
    have:=hB.hb
    refine ⟨by omega,fun e=>?_⟩
    have:=hoa2 j e
    omega
   have hfW:=eV.keep (fun j c' t' f' hj h=>hB.kp j c' t' f' (hdis j hj.1) h) hf2
   have kcW:=hB.kp.blk (hdis c (.inr (by omega))) kc
   obtain ⟨v,kv,hO,hvw⟩:=hB.acc
   have hOl:=hO.lt9
   have hbl:=kv.lt
   have zW':=hB.low.size
   have z2':=hB.sz
   have hfs:=P5 (capL n) sit.lost f i
   have hfn:=Ag7 (capL n) sit.lost f i
   refine .lssT O O O (by omega) (.go O (.ixN (i:=i) un_V ty_Q O O hfW O (J7 hlt) fun q hq=>.ldE (E:=eQ) ty_Q O O hq fun e he=>.alloc O D3 fun W3 c13 n13=>?_))
   obtain ⟨d3,k13,hc13,hs13⟩:=n13
   have he:=ER.lt eQ he
   obtain ⟨s1,t1,rfl,hq1,hq2⟩:=he
   have he:eQ.R (fun j=>(((w1.heap.size<=j/\j<w2.heap.size)\/W0.heap.size<=j)/\j<W2.heap.size)/\j<W'.heap.size) W3 (.agg #[.bool (qc (f i)).num.neg,s1,.bool (qc (f i)).den.neg,t1]) (qc (f i)):=ER.ext eQ ⟨s1,t1,rfl,hq1,hq2⟩ d3
   refine .go O (.storeA (E:=eQ) ty_Q O O k13 O O he (fun h=>by have:=h.2;omega) fun W4 k13 u4 he4=>.goC O ?_)
   have d4:Ext W' W4:=u4.below d3 (by omega)
   generalize hT:(fun j=>(w1.heap.size<=j/\j≠b10)/\v.ownBlock≠some j)=T
   have hTS:∀ j,T j->(w1.heap.size<=j/\j≠b10)/\v.ownBlock≠some j:=fun j h=>by rw [<-hT] at h;exact h
   have upT':∀ {W9:World},Ext W4 W9->Up T W9:=fun h j hj=>by
    have:=h.size;have:=d4.size;rw [<-hT];exact ⟨⟨by omega,by omega⟩,fun e=>by have:=(hOl j e).2;omega⟩
   have heT:eQ.R T W4 (.agg #[.bool (qc (f i)).num.neg,s1,.bool (qc (f i)).den.neg,t1]) (qc (f i)):=eQ.mono (fun j _ h=>by
    rw [<-hT]
    refine ⟨⟨by have:=h.1.1;omega,(hdis j h.1.1).1⟩,fun e=>?_⟩
    rcases hvw with hvw | hvw
    ·exact (hdis j h.1.1).2 (by rw [<-hvw];exact e)
    ·have h1:=hvw j e
     have h2:=(hOl j e).2
     have h3:=h.1.2
     omega) he4
   clear he he4 hq1 hq2
   have hsW:∀ {W9:World},Ext W4 W9->eLs.R (fun j=>j<w2.heap.size) W9 s n.ls:=fun e=>ER.ext eLs hs0 (hB.low.trans ((d4.trans e).mono zW'))
   have hgl:n.ls[i]?=some (n.ls.getD i ln0):=A4 hlt
   have hC0:lnI (n.ls.getD i ln0) 3=capL n i:=rfl
   have hcap:=ok.c i hlt
   have k3W:=k3.ext (hB.low.trans (d4.mono zW'))
   have hqk:qk 1200000 (qc (f i)):=R0 (hfz i hlt)
   have hcz:Rsz ((capL n i:Int):Rat) 1200000:=(Rsz.int (L:=1) (capL n i) (by show _<4294967296;have:capL n i=(n.ls.getD i ln0).c:=rfl;omega) (Nat.le_refl _)).mono (by decide)
   refine .par follows 11 [.inl (.agg #[.bool (qc (f i)).num.neg,s1,.bool (qc (f i)).den.neg,t1]),.inr (eQ.at T (qc (absR (f i)))),.inl _,.inl s,.inl (.int .i64 (i:Nat)),.inr (Ptr eL (fun j=>j<w2.heap.size) (n.ls.getD i ln0)),.inr (Ptr (eInt .i64) (fun j=>j<w2.heap.size) (capL n i)),.inl (.int .i64 (capL n i)),.inr (eQ.at T (qc ((capL n i:Int):Rat))),.inr (eQ.at T (qc (ovr (capL n) f i))),.inr (NewP W4.heap.size 39 zq.cells)] [[],[(52,0)],[],[(54,2)],[],[(55,3),(56,4)],[(57,5)],[(58,6)],[(59,7)],[(53,1),(60,8)],[]] (by kernel_rfl) ⟨
    fun w e=>(C7 ty_Q O (k13.ext e) O).ob,
    fun w e=>(by have:=As8 (L:=1200000) (upT' e) (heT.ext e) hqk (by decide) (by decide);rw [B9] at this;exact (A5 _ Au5 O this).ob (A9 _ _ _)),
    fun w e=>(v_fa J5 O).ob,
    fun w e=>(v_ld P2 O (k3W.ext e) O).ob,
    fun w e=>(v_mv O).ob,
    fun w e=>D5 (i:=i) M4 Q8 O (hsW e) O hgl,
    fun w e x5 hx5=>(by rw [<-hC0];exact AP1 Z9 O hx5 (by decide)),
    fun w e x6 hx6=>N0 O3 O hx6,
    fun w e=>(A5 _ G1 O (G0 (upT' e) (by have:capL n i=(n.ls.getD i ln0).c:=rfl;omega) (by have:capL n i=(n.ls.getD i ln0).c:=rfl;omega))).ob (A9 _ _ _),
    fun w e x1 hx1 x8 hx8=>(by have:=AH9 (L:=1200000) (upT' e) hx1 hx8 (Ao5 (hfz i hlt)).toOk hcz.toOk (by decide) (by decide);rw [B9,B9] at this;exact (A5 _ AI4 O this).ob (A9 _ _ _)),
    fun w e=>R4 D3 e.size,trivial⟩ ?_
   rintro W5 d5 y1 hy1 y5 hy5 y6 hy6 y8 hy8 y9 hy9 _ ⟨b14,rfl,hb14,k14⟩
   have hy:=Ag9 hy9 k14 AE0
   refine .storeA (E:=eQ) ty_Q O O k14 O O hy (fun h=>h.2 O) fun W6 k14 u6 h6=>?_
   have d6:Ext W4 W6:=u6.below d5 hb14
   have h6:eQ.R T W6 y9 (qc (ovr (capL n) f i)):=eQ.mono (fun _ _ h=>h.1) h6
   have D6:=d4.trans d6
   have k13:=k13.ext d6
   have heT:=heT.ext d6
   obtain ⟨s2,t2,rfl,hr1,hr2⟩:=h6
   have h6:eQ.R T W6 (.agg #[.bool (qc (ovr (capL n) f i)).num.neg,s2,.bool (qc (ovr (capL n) f i)).den.neg,t2]) (qc (ovr (capL n) f i)):=⟨s2,t2,rfl,hr1,hr2⟩
   refine .go O (.ldA ty_Q O O k14 O (.go O ?_))
   refine .call _ O M1 O (L9 h6) fun v7 W7 d7 h7=>?_
   subst h7
   have D7:=D6.trans d7
   rw [B9]
   refine .go O ?_
   by_cases hpos:0<ovr (capL n) f i
   rotate_left
   ·refine .gtrF O O O (fun h=>hpos (AJ6.1 h)) (.go O (.inc O O O (by omega) (.goN O (.mk (i+1) O (lc1 O) ⟨⟨?_,hlt⟩,by show n.ls.length-(i+1)<n.ls.length-i;omega⟩))))
    show ScB w2 w1.heap.size b10 p1 p2 p3 p4 s vo vx vb n W2 va (l0++fds (capL n) sit.lost f (i+1)) W7
    rw [hfs,if_neg hpos,List.append_nil]
    exact hB.ext D7
   refine .gtrT O O O (AJ6.2 hpos) (.go O (.ld Z3 O O (kv.ext D7) O (.go O (.fa An4 O O (.go O (.ld A8 O O (kcW.ext D7) O (.go O (.ldA ty_Q O O (k13.ext d7) O (.go O (.ldA ty_Q O O (k14.ext d7) O (.go O (.bld _ O O bld_Fd4 (.go O (.bsl _ O O Az0 fun W8 b8 n8=>?_))))))))))))))
   obtain ⟨d8,k8,hb8,hs8⟩:=n8
   have D8:=D7.trans d8
   have h78:=d7.trans d8
   have hq8:=heT.ext h78
   have hr8:=h6.ext h78
   obtain ⟨_,_,hz1,hq1,hq2⟩:=hq8
   cases hz1
   obtain ⟨_,_,hz2,hr1,hr2⟩:=hr8
   cases hz2
   have z8:=D8.size
   refine .gv O O (AK9 (E:=eFd) (base:=w2.heap.size) (n:=⟨sit.lost,(i:Nat),qc (f i),qc (ovr (capL n) f i)⟩) (e:=.agg #[.int .i64 sit.lost,.int .i64 (i:Nat),.bool (qc (f i)).num.neg,s1,.bool (qc (f i)).den.neg,t1,.bool (qc (ovr (capL n) f i)).num.neg,s2,.bool (qc (ovr (capL n) f i)).den.neg,t2]) (by decide) I9 Ax7 O O O (hO.ext D8) k8 (eFd.mono (fun j _ h=>hTS j h) ⟨_,_,_,_,rfl,hlo,(show inI ((i:Nat):Int) from E0.2 (by omega)),hq1,hq2,hr1,hr2⟩) (by rw [List.length_append];omega) (by decide) (by omega)) ?_
   rintro v9 W9 ⟨hO9,g9,hw9⟩
   have kv9:=(hO.ext D8).gblk g9 (kv.ext D8) (by decide)
   obtain ⟨a9,c9,hv9⟩:=hO9.slice
   refine .go O (.store Z3 O O kv9 (by rw [hv9];rfl) (by simp [Value.cells]) (by rw [hv9];simp [one1,Value.cells]) fun W10 kv10 u10=>?_)
   replace kv10:Blk W10 b10 29 #[v9]:=by rw [hv9] at kv10 ⊢;exact kv10
   have hB10:=hB.push hvw hO D8 hO9 g9 hw9 kv9 u10 kv10
   refine .go O (.inc O O O (by omega) (.goN O (.mk (i+1) O (lc1 O) ⟨⟨?_,hlt⟩,by show n.ls.length-(i+1)<n.ls.length-i;omega⟩)))
   show ScB w2 w1.heap.size b10 p1 p2 p3 p4 s vo vx vb n W2 va (l0++fds (capL n) sit.lost f (i+1)) W10
   rw [hfs,if_pos hpos,<-List.append_assoc]
   exact hB10
 ·intro a V W hJ hD
  have hJ9:ScJ w2 w1.heap.size b10 p1 p2 p3 p4 s vo vx vb n (scr n o (rv x)) a V W:=by
   have h9:lsT n o (rv x) (1+(inL n o).length)=scr n o (rv x):=by rw [Nat.add_comm];exact BH0
   rw [<-h9];exact hJ
  obtain ⟨v,kv,hO,_⟩:=hJ9.acc
  have hl9:=hJ9.low
  have k6:=k6.ext hl9
  have k7:=k7.ext hl9
  have hk60:=k6
  have hDl:=(Array.getElem?_eq_some_iff.1 hD).1
  obtain ⟨a9,c9,hv9⟩:=hO.slice
  refine kq.go O (.ld Z3 O O kv O (.go O (.store Z3 O O k6 (by rw [hv9];rfl) (by simp [Value.cells]) (by rw [hv9];simp [one1,Value.cells]) fun W5 k6 u5=>?_)))
  have k7:=k7.upd u5 (by omega)
  have hk70:=k7
  refine .go O (.store AO5 O O k7 O (by simp [Value.cells]) (by simp [one1,Value.cells]) fun W6 k7 u6=>.goE O ?_)
  replace k6:Blk W5 b6 29 #[v]:=by rw [hv9] at k6 ⊢;exact k6
  replace k7:Blk W6 b7 32 #[.int .i64 0]:=k7
  have k6:=k6.upd u6 (by omega)
  have hD6:W6.heap[w4.heap.size]?=some (.deferred (some [])):=(u6.block w4.heap.size (by omega)).trans ((u5.block w4.heap.size (by omega)).trans hD)
  have hO5:=hO.upd u5 hk60 (by decide) (fun h=>by have:=h.1;omega)
  have hO6:=hO5.upd u6 hk70 (by decide) (fun h=>by have:=h.1;omega)
  have hlw:Ext w W:=Ext.trans x2 hl9
  refine .mark [v,.int .i64 0] Tryz.results27 hD6 ⟨AW8 O Z3 ((Kp.put (S:=fun _=>True) hD6 O).blk trivial k6) rfl,AW8 O AO5 ((Kp.put (S:=fun _=>True) hD6 O).blk trivial k7) rfl,trivial⟩ ⟨K0 (u6.below (u5.below hlw (by have:=ea.size;omega)) (by have:=ea.size;have:=eb.size;omega)) (by omega),_,_,rfl,?_,by rw [hA]⟩
  exact (hO6.kp (Kp.put hD6 O)).toR (fun k hk=>upo k (by omega)) (fun k hk=>upo k (by have:=hk.1;have:=x1.size;omega))
theorem BO1 {w:World} {vn vo vx:Value} {n:NtV} {o:List Int} {x:List QV} {L:Nat} (hn:eN.R (fun _=>True) w vn n) (ho:eI.R (fun _=>True) w vo o) (hx:eV.R (fun _=>True) w vx x) (hkx:vk L x) (hL1:1<=L) (hL:L<=9000) :
  CR Tryz.prog 27 #[vn,vo,vx] w (Two (eFds.at (fun _=>True) (if anE n o x=0 then scr n o (rv x) else [])) (Is (.int .i64 (anE n o x)))):=All_t upT hn ho hx hkx hL1 hL
def FdK (y:FdV):Prop:=qk 3000000 y.flow/\qk 3000000 y.over
theorem fds_K {n:NtV} {o:List Int} {lost:Int} {f:Nat->Rat} (ok:nwOk n o) (hf:∀ i,i<n.ls.length->Rsz (f i) 1200000) {y:FdV} (hy:y∈fds (capL n) lost f n.ls.length):FdK y:=by
 obtain ⟨l,hl,_,rfl⟩:=AU7.1 hy
 have hcap:=ok.c l hl
 have hcz:Rsz ((capL n l:Int):Rat) 1200000:=(Rsz.int (L:=1) (capL n l) (by show _<4294967296;have:capL n l=(n.ls.getD l ln0).c:=rfl;omega) (Nat.le_refl _)).mono (by decide)
 refine ⟨R0 ((hf l hl).mono (by decide)),R0 ?_⟩
 unfold ovr
 rw [Rat.sub_eq_add_neg]
 exact ((Ao5 (hf l hl)).add hcz.neg).mono (by decide)
theorem BG8 {n:NtV} {o:List Int} {x:List QV} {L:Nat} (hO:outE n o=0) (hkx:vk L x) (hL1:1<=L) (hL:L<=9000) {y:FdV} (hy:y∈scr n o (rv x)):FdK y:=by
 have ok:=I0 hO
 rcases List.mem_append.1 hy with hy | hy
 ·obtain ⟨_,h | ⟨_,f,h1,h2,h3⟩⟩:=Aq8 (k:=0) hO hkx hL1 hL (by omega)
  ·exact absurd h.1 (by show ¬ false=true;decide)
  ·have h4:fds (capL n) (-1) (flB n o (rv x)) n.ls.length=fds (capL n) (-1) f n.ls.length:=h3
   rw [h4] at hy
   exact fds_K ok h2 hy
 ·obtain ⟨k,hk,hy⟩:=List.mem_flatMap.1 hy
  obtain ⟨i,hi⟩:=List.mem_iff_getElem?.1 hk
  have hil:=(List.getElem?_eq_some_iff.1 hi).1
  have hd:(inL n o).getD i 0=k:=by rw [List.getD_eq_getElem?_getD,hi];rfl
  have hc:csL n o (rv x) (i+1)=scK n o (rv x) k:=by rw [<-hd];rfl
  rw [<-hc] at hy
  obtain ⟨_,h | ⟨_,f,h1,h2,h3⟩⟩:=Aq8 (k:=i+1) hO hkx hL1 hL (by omega)
  ·rw [h.2] at hy
   rw [List.mem_singleton.1 hy]
   exact ⟨Al3 (by decide),Al3 (by decide)⟩
  ·rw [h3] at hy
   exact fds_K ok h2 hy
end Go.Proofs.YtpgkacdihhjknaaGreat
namespace Go.Kx
open Go Go.RowKit
end Go.Kx
namespace Go.Proofs.YtpgkacdihhjknaaGreat
open Go Go.Kx Go.RowKit
def ij (l:List Int):Nat->Rat:=fun b=>if b<l.length then ((l.getD b 0:Int):Rat) else 0
theorem rv_ij (l:List Int):rv (intsV l)=ij l:=funext fun _=>rv_ints
end Go.Proofs.YtpgkacdihhjknaaGreat
namespace Go.Kx
open Go Go.RowKit
end Go.Kx
namespace Go.Proofs.YtpgkacdihhjknaaGreat
open Go Go.Kx Go.RowKit
abbrev fifV (l:List Int):List QV:=tab l.length fun k=>Rat.divInt (l.getD k 0) 5
theorem ok3_1:outE net3 [1]=0:=Aw7 (by decide) (by decide)
def candE (b:Nat):Nat->Rat:=fun i=>if b=0 then 1 else if b=i then 10 else 0
theorem BM2:∀ b,b<(nwOf net3 [1]).B->∀ i,i<(nwOf net3 [1]).B->(if (nwOf net3 [1]).root i=i then candE b i else (nwOf net3 [1]).lap (candE b) i)=dl i b:=by
 have:∀ b,b<3->∀ i,i<3->(if (nwOf net3 [1]).root i=i then candE b i else (nwOf net3 [1]).lap (candE b) i)=dl i b:=by decide +kernel
 exact this
def want1:List (List Int):=[[0,-5,0],[0,0,0],[0,0,-5]]
theorem hf1:tabM net3.ls.length (nwOf net3 [1]).B (nwOf net3 [1]).hf=want1.map fifV:=by
 have ok:=I0 ok3_1
 have h1:tabM 3 3 (nwOf net3 [1]).hf=tabM 3 3 fun k b=>(nwOf net3 [1]).fl (candE b) k:=C0 fun k b hk hb=>Nw.hf_cand ok.ok ok.b1 candE BM2 hk hb
 have h2:∀ k,k<3->∀ b,b<3->(nwOf net3 [1]).fl (candE b) k=Rat.divInt ((want1.getD k []).getD b 0) 5:=by decide +kernel
 show tabM 3 3 _=_
 rw [h1,show tabM 3 3 (fun k b=>(nwOf net3 [1]).fl (candE b) k)=tabM 3 3 fun k b=>Rat.divInt ((want1.getD k []).getD b 0) 5 from C0 fun k b hk hb=>h2 k hk b hb]
 rfl
theorem lo_cand {n:NtV} {o:List Int} (ok:nwOk n o) (cand:Nat->Nat->Rat) (h:∀ b,b<(nwOf n o).B->∀ i,i<(nwOf n o).B->(if (nwOf n o).root i=i then cand b i else (nwOf n o).lap (cand b) i)=dl i b) {k l:Nat} (hk:k<n.ls.length) (hl:l<n.ls.length) :
  (nwOf n o).lo k l=if l=k then -1 else ((nwOf n o).fl (cand ((nwOf n o).F k)) l-(nwOf n o).fl (cand ((nwOf n o).T k)) l) / (1-((nwOf n o).fl (cand ((nwOf n o).F k)) k-(nwOf n o).fl (cand ((nwOf n o).T k)) k)):=by
 have hf:=ok.f k hk
 have ht:=ok.t k hk
 have hh:∀ j b,j<n.ls.length->b<(nwOf n o).B->(nwOf n o).hf j b=(nwOf n o).fl (cand b) j:=fun j b hj hb=>Nw.hf_cand ok.ok ok.b1 cand h hj hb
 unfold Nw.lo Nw.rst Nw.bt
 rw [hh l _ hl hf,hh l _ hl ht,hh k _ hk hf,hh k _ hk ht]
def wlo3:List (List Int):=[[-1,-1,1],[-1,-1,1],[1,1,-1]]
theorem lk_yes {n:NtV} {o:List Int} {line:Int} (h:outE n o=0) (hl:line∈pInts (inL n o)) (hb:¬ (nwOf n o).brg line.toNat):lkE n o line=0:=by unfold lkE;rw [if_neg (by simpa using h),if_pos hl,if_neg hb]
theorem lk3k {k:Nat} (hk:k<3):lkE net3 [] (k:Nat)=0:=by
 have h1:∀ k,k<3->((k:Nat):Int)∈pInts (inL net3 []):=by decide
 have h2:∀ k,k<3->¬ (nwOf net3 []).brg ((k:Nat):Int).toNat:=by decide +kernel
 exact lk_yes ok3 (h1 k hk) (h2 k hk)
def wstS:Option FdV->FdV->Option FdV
 | none,g=>if g.line = -1 then none else some g
 | some f,g=>if g.line = -1 then some f else if qval f.over<qval g.over then some g else some f
def wst (l:List FdV):Option FdV:=l.foldl wstS none
def fd0:FdV:=⟨0,0,q0,q0⟩
theorem AA1 {cap:Nat->Int} {lost:Int} {f:Nat->Rat} {M:Nat} (h:¬ 0<ovr cap f M):fds cap lost f (M+1)=fds cap lost f M:=by
 rw [P5,if_neg h,List.append_nil]
theorem Ag5 {cap:Nat->Int} {lost:Int} {f:Nat->Rat} {M:Nat} {r s:Rat} (h:0<ovr cap f M) (hr:f M=r) (hs:ovr cap f M=s):fds cap lost f (M+1)=fds cap lost f M++[⟨lost,(M:Int),qc r,qc s⟩]:=by
 rw [P5,if_pos h,hr,hs]
theorem AP7 {cap:Nat->Int} {lost:Int} {f g:Nat->Rat}:∀ M,(∀ l,l<M->f l=g l)->fds cap lost f M=fds cap lost g M
 | 0,_=>rfl
 | M+1,h=>by
  have ho:ovr cap f M=ovr cap g M:=by unfold ovr;rw [h M (Nat.lt_succ_self _)]
  rw [P5,P5,AP7 M (fun l hl=>h l (by omega)),ho,h M (Nat.lt_succ_self _)]
theorem AM5:anE net3 [] (intsV [90,0,-90])=0:=by
 refine BN3 ok3 (by decide) ?_
 rw [rv_ij]
 exact BN2.1 (by decide +kernel)
def g90 (l:List Int) (k:Nat):Rat:=((l.getD k 0:Int):Rat)
theorem fl90 {k:Nat} (hk:k<3):flB net3 [] (rv (intsV [90,0,-90])) k=g90 [36,36,54] k:=by
 have ok:=I0 ok3
 unfold flB
 rw [(nwOf net3 []).fl_an ok.ok _ hk]
 have h:∀ k,k<3->sumN 3 (fun b=>(nwOf net3 []).fl (cand3 b) k*ij [90,0,-90] b)=g90 [36,36,54] k:=by decide +kernel
 rw [<-h k hk,rv_ij]
 exact A1 fun b hb=>by rw [Nw.hf_cand ok.ok ok.b1 cand3 AY9 hk hb]
def w90:List (List Int):=[[0,0,90],[0,0,90],[90,90,0]]
theorem flK90 {k l:Nat} (hk:k<3) (hl:l<3):flK net3 [] (rv (intsV [90,0,-90])) k l=g90 (w90.getD k []) l:=by
 have ok:=I0 ok3
 obtain ⟨_,k0,h0,hkM,hg,_,hB⟩:=BJ3 (lk3k hk)
 have:k0=k:=by omega
 subst this
 have h:∀ k,k<3->∀ l,l<3->(if l=k then (-1:Rat) else ((nwOf net3 []).fl (cand3 ((nwOf net3 []).F k)) l-(nwOf net3 []).fl (cand3 ((nwOf net3 []).T k)) l) / (1-((nwOf net3 []).fl (cand3 ((nwOf net3 []).F k)) k-(nwOf net3 []).fl (cand3 ((nwOf net3 []).T k)) k)))=g90 (wlo3.getD k []) l:=by decide +kernel
 have h2:∀ k,k<3->∀ l,l<3->g90 [36,36,54] l+g90 (wlo3.getD k []) l*g90 [36,36,54] k=g90 (w90.getD k []) l:=by decide +kernel
 have h3:=fl90 hl
 have h4:=fl90 hk
 unfold flB at h3 h4
 unfold flK
 rw [Nw.lo_flow ok.ok hkM hg hB (Ah7 AM5).2 hl,h3,h4,lo_cand ok cand3 AY9 hk hl,h k0 hk l hl,h2 k0 hk l hl]
def scr3:List FdV:=[⟨0,2,qc ((90:Int):Rat),qc ((20:Int):Rat)⟩,⟨1,2,qc ((90:Int):Rat),qc ((20:Int):Rat)⟩,⟨2,1,qc ((90:Int):Rat),qc ((40:Int):Rat)⟩]
theorem scr90:scr net3 [] (rv (intsV [90,0,-90]))=scr3:=by
 have hb:∀ k,k<3->¬ (nwOf net3 []).brg k:=by decide +kernel
 have hK:∀ k,k<3->scK net3 [] (rv (intsV [90,0,-90])) k=fds (capL net3) (k:Int) (g90 (w90.getD k [])) 3:=fun k hk=>by
  unfold scK
  rw [if_neg (hb k hk)]
  exact AP7 3 fun l hl=>flK90 hk hl
 have h0:fds (capL net3) (-1) (flB net3 [] (rv (intsV [90,0,-90]))) net3.ls.length=[]:=(AP7 3 fun l hl=>fl90 hl).trans ((AA1 (by decide +kernel)).trans ((AA1 (by decide +kernel)).trans (AA1 (by decide +kernel))))
 have h1:fds (capL net3) ((0:Nat):Int) (g90 (w90.getD 0 [])) 3=[⟨0,2,qc ((90:Int):Rat),qc ((20:Int):Rat)⟩]:=by
  rw [Ag5 (M:=2) (r:=((90:Int):Rat)) (s:=((20:Int):Rat)) (by decide +kernel) (by decide +kernel) (by decide +kernel),AA1 (M:=1) (by decide +kernel),AA1 (M:=0) (by decide +kernel)];rfl
 have h2:fds (capL net3) ((1:Nat):Int) (g90 (w90.getD 1 [])) 3=[⟨1,2,qc ((90:Int):Rat),qc ((20:Int):Rat)⟩]:=by
  rw [Ag5 (M:=2) (r:=((90:Int):Rat)) (s:=((20:Int):Rat)) (by decide +kernel) (by decide +kernel) (by decide +kernel),AA1 (M:=1) (by decide +kernel),AA1 (M:=0) (by decide +kernel)];rfl
 have h3:fds (capL net3) ((2:Nat):Int) (g90 (w90.getD 2 [])) 3=[⟨2,1,qc ((90:Int):Rat),qc ((40:Int):Rat)⟩]:=by
  rw [AA1 (M:=2) (by decide +kernel),Ag5 (M:=1) (r:=((90:Int):Rat)) (s:=((40:Int):Rat)) (by decide +kernel) (by decide +kernel) (by decide +kernel),AA1 (M:=0) (by decide +kernel)];rfl
 unfold scr
 rw [h0,show inL net3 []=[0,1,2] by decide,List.flatMap_cons,List.flatMap_cons,List.flatMap_cons,List.flatMap_nil,hK 0 (by decide),hK 1 (by decide),hK 2 (by decide),h1,h2,h3]
 rfl
theorem wst90:wst scr3=some ⟨2,1,qc ((90:Int):Rat),qc ((40:Int):Rat)⟩:=by
 unfold wst scr3
 simp only [List.foldl_cons,List.foldl_nil,wstS]
 rw [if_neg (by decide)]
 simp only [wstS,B9]
 rw [if_neg (by decide),if_neg (by decide +kernel)]
 simp only [wstS,B9]
 rw [if_neg (by decide),if_pos (by decide +kernel)]
end Go.Proofs.YtpgkacdihhjknaaGreat
namespace Go.Kx
open Go Go.RowKit
end Go.Kx
namespace Go.Proofs.YtpgkacdihhjknaaGreat
open Go Go.Kx Go.RowKit
theorem O6 {w:World} {b:Nat} {t:TypeId} {l m x y z u x' y' z' u':Value} (k:Blk w b t #[l,m,x,y,z,u,x',y',z',u']):PtrX w ⟨b,2,none⟩ (.agg #[x,y,z,u])/\PtrX w ⟨b,6,none⟩ (.agg #[x',y',z',u']):=by
 constructor
 all_goals
  intro j v hv
  rw [I5,k.cell]
  match j with
  | 0=>simpa [Value.cells] using hv
  | 1=>simpa [Value.cells] using hv
  | 2=>simpa [Value.cells] using hv
  | 3=>simpa [Value.cells] using hv
  | j+4=>simp [Value.cells] at hv
theorem ty_Fr:tyOf Tryz.prog 122=some (true,10):=by kernel_rfl
theorem zero_Fr:zeroOf Tryz.prog 122=some zFd:=by kernel_rfl
theorem Ay4:fldOf Tryz.prog 122 0=some 0:=by kernel_rfl
theorem Ay3:fldOf Tryz.prog 122 1=some 1:=by kernel_rfl
theorem Ay2:fldOf Tryz.prog 122 2=some 2:=by kernel_rfl
theorem Ay1:fldOf Tryz.prog 122 3=some 6:=by kernel_rfl
theorem Az2 {l m:Int} {x y z u x' y' z' u':Value}:bldOf Tryz.prog 122 [(0,.int .i64 l),(1,.int .i64 m),(2,.agg #[x,y,z,u]),(3,.agg #[x',y',z',u'])]=some #[.int .i64 l,.int .i64 m,x,y,z,u,x',y',z',u']:=by kernel_rfl
theorem bld_Fd0:bldOf Tryz.prog 41 []=some #[.int .i64 0,.int .i64 0,.bool false,.slice none 0 0,.bool false,.slice none 0 0,.bool false,.slice none 0 0,.bool false,.slice none 0 0]:=by kernel_rfl
theorem Ap8:zeroOf Tryz.prog 4=some (.bool false):=by kernel_rfl
theorem fd_mk {S:Nat->Prop} {w:World} {y:FdV} {a b c d:Value} (h1:inI y.lost) (h2:inI y.line) (ha:eW.R S w a y.flow.num.w) (hb:eW.R S w b y.flow.den.w) (hc:eW.R S w c y.over.num.w) (hd:eW.R S w d y.over.den.w):eFd.R S w (.agg #[.int .i64 y.lost,.int .i64 y.line,.bool y.flow.num.neg,a,.bool y.flow.den.neg,b,.bool y.over.num.neg,c,.bool y.over.den.neg,d]) y:=⟨a,b,c,d,rfl,h1,h2,ha,hb,hc,hd⟩
theorem BL1 {S:Nat->Prop} {w:World}:eFd.R S w zFd fd0:=⟨_,_,_,_,rfl,inI0,inI0,RL.nil,RL.nil,RL.nil,RL.nil⟩
theorem X2:Ent Tryz.prog 46:=A0 Tryz.func46 (by kernel_rfl) rfl
theorem V4 {w:World}:CR Tryz.prog 46 #[] w (eN.at (fun _=>True) net3):=by
 refine enter Tryz.func46 O Tryz.ntmps46 O ?_
 refine .sr (.alloc O BE8 fun w1 b0 n1=>.nil (.sr (.bld _ O O Ah5 (.bld _ O O Ah5 (.bld _ O O Ah5 (.bsl _ O O bsl_Ls3 fun w2 b4 n2=>.bld _ O O BM9 ?_))))))
 obtain ⟨e1,k0,hb0,hs1⟩:=n1
 have hl:eLs.R (fun k=>k≠b0) w2 (.slice (some ⟨b4,0,none⟩) 3 3) net3.ls:=Ah0 (E:=eL) [_,_,_] net3.ls n2 (fun k hk=>by omega) O O (by decide) (Els.snoc (Els.snoc (Els.snoc Els.nil (ln_R (by decide))) (ln_R (by decide))) (ln_R (by decide)))
 have hn:eN.R (fun k=>k≠b0) w2 (.agg #[.int .i64 3,.slice (some ⟨b4,0,none⟩) 3 3]) net3:=⟨_,rfl,hl,E0.2 (by decide)⟩
 refine .storeA (E:=eN) ty_N O O (k0.ext n2.1) O O hn (fun h=>h O) fun w3 k3 u3 h3=>.nil (.ret ?_)
 exact .cell (E:=eN) Tryz.results46 O ty_N O O k3 h3 ⟨u3.below (e1.trans n2.1) (by omega),eN.mono (fun _ _ _=>trivial) h3⟩
theorem AA9:Ent Tryz.prog 47:=A0 Tryz.func47 (by kernel_rfl) rfl
set_option maxRecDepth 8000 in
theorem Z6 {w:World} {vl:Value} {l:List Int} (hl:eI.R (fun _=>True) w vl l) (hn:l.length<=1000):CR Tryz.prog 47 #[vl] w (eV.at (fun _=>True) (intsV l)):=by
 have h0:=ER.lt eI hl
 refine enter Tryz.func47 O Tryz.ntmps47 O (.beg (.goC O ?_))
 generalize hG:(fun k=>qc ((l.getD k 0:Int):Rat))=G
 have htab:intsV l=(List.range l.length).map G:=by rw [<-hG];rfl
 rw [htab]
 refine .lp (α:=Nat×Value) [0] O (fun y=>[(3,y.2),(4,.int .i64 (y.1:Nat))]) (fun y W=>Ext w W/\y.1<=l.length/\OwnL eQ 39 w.heap.size (fun _=>True) W y.2 ((List.range y.1).map G)) (fun y=>l.length-y.1) (0,.slice none 0 0) (lc2 O O) ⟨Ext.refl _,Nat.zero_le _,OwnL.nil⟩ ?_
 rintro ⟨i,u⟩ W ⟨hW,hi,hU⟩
 replace hW:Ext w W:=hW
 replace hi:i<=l.length:=hi
 replace hU:OwnL eQ 39 w.heap.size (fun _=>True) W u ((List.range i).map G):=hU
 have zW:=hW.size
 have hlW:=ER.ext eI h0 hW
 refine .go O (.lenR un_L O O hlW ?_)
 rcases Nat.lt_or_ge i l.length with hlt | hge
 rotate_left
 ·have:i=l.length:=by omega
  subst this
  exact .lssF O O O (by omega) (.goE O (.plain [_] Tryz.results47 ⟨rfl,trivial⟩ ⟨hW,hU.toR (fun _ _=>trivial) (fun _ _=>trivial)⟩))
 have hub:=hU.lt9
 have hGi:G i=qc ((l.getD i 0:Int):Rat):=by rw [<-hG]
 have hg:l[i]?=some (l.getD i 0):=A4 hlt
 refine .lssT O O O (by omega) (.go O (.ixN (i:=i) un_L O3 O O hlW O hg fun q hq=>.ldE (E:=eInt .i64) O3 O O hq fun e he=>.go O ?_))
 obtain ⟨rfl,hii⟩:=he
 have hi2:=E0.1 hii
 refine .call _ O AD7 O (AC7 (S:=fun k=>True/\u.ownBlock≠some k) (fun k hk=>⟨trivial,fun e=>by have:=(hub k e).2;omega⟩) (by omega) (by omega)) fun v3 W3 d3 h3=>?_
 rw [<-hGi] at h3
 have h3':=h3
 obtain ⟨s1,t1,rfl,_,_⟩:=h3'
 refine .go O (.bsl _ O O BM5 fun W4 b4 n4=>?_)
 obtain ⟨d4,k4,hb4,hs4⟩:=n4
 have D4:=d3.trans d4
 have hW4:=hW.trans D4
 refine .gv O O (AH8 (E:=eQ) (base:=w.heap.size) (n:=G i) (by decide) un_V P8 O O O (hU.ext D4) k4 (h3.ext d4) (by simp;omega) (by decide) hW4.size) ?_
 rintro v9 W9 ⟨hO9,g9⟩
 have hW9:Ext w W9:=OwnL.below (hU.ext D4) g9 hW4 hW4.size
 exact .go O (.inc O O O (by omega) (.goN O (.mk (i+1,v9) O (lc2 O O) ⟨⟨hW9,hlt,by show OwnL _ _ _ _ W9 v9 ((List.range (i+1)).map G);rw [List.range_succ,List.map_append];exact hO9⟩,by show l.length-(i+1)<l.length-i;omega⟩)))
theorem Au3:Ent Tryz.prog 89:=A0 Tryz.func89 (by kernel_rfl) rfl
set_option maxRecDepth 8000 in
theorem Ar9 {w:World} {v:Value} {y:FdV} (h:eFd.R (fun _=>True) w v y):CR Tryz.prog 89 #[v] w (eFd.at (fun _=>True) y):=by
 have h:eFd.R (fun k=>True/\k<w.heap.size) w v y:=ER.lt eFd h
 have h0:=h
 obtain ⟨a,b,c,d,rfl,h1,h2,ha,hb,hc,hd⟩:=h
 refine enter Tryz.func89 O Tryz.ntmps89 O (.beg (.go O (.box O O fun w1 b1 n1=>.alloc O zero_Fr fun w2 b2 n2=>?_)))
 obtain ⟨e1,k1,hb1,hs1⟩:=n1
 obtain ⟨e2,k2,hb2,hs2⟩:=n2
 have x2:=e1.trans e2
 have k1:=k1.ext e2
 have hz:=e1.size
 have h3:=ER.ext eFd h0 x2
 replace k1:Blk w2 b1 41 (Value.agg #[.int .i64 y.lost,.int .i64 y.line,.bool y.flow.num.neg,a,.bool y.flow.den.neg,b,.bool y.over.num.neg,c,.bool y.over.den.neg,d]).cells:=k1
 have hp:=O6 k1
 have h3':=h3
 obtain ⟨_,_,_,_,hz1,_,_,ga,gb,gc,gd⟩:=h3'
 cases hz1
 refine .go O (.fa AL7 O O (.ld A8 O O k1 O (.fa AA0 O O (.ld A8 O O k1 O (.fa Ag4 O O (.ldX (E:=eQ) ty_Q O O hp.1 ⟨_,_,rfl,ga,gb⟩ (.fa T6 O O (.ldX (E:=eQ) ty_Q O O hp.2 ⟨_,_,rfl,gc,gd⟩ (.bld _ O O Az2 ?_)))))))))
 refine .storeA (E:=eFd) ty_Fr O O k2 O O h3 (fun h=>by have:=h.2;omega) fun w3 k3 u3 h4=>.goE O ?_
 exact .cell (E:=eFd) Tryz.results89 O ty_Fr O O k3 h4 ⟨u3.below x2 (by omega),eFd.mono (fun _ _ _=>trivial) h4⟩
theorem Ah9:Ent Tryz.prog 88:=A0 Tryz.func88 (by kernel_rfl) rfl
set_option maxRecDepth 8000 in
theorem Ae9 {w:World} {va vb:Value} {y:FdV} (ha:eFd.R (fun _=>True) w va y) (hb:eFd.R (fun _=>True) w vb y):CR Tryz.prog 88 #[va,vb] w (Is (.bool true)):=by
 obtain ⟨a,b,c,d,rfl,h1,h2,a1,a2,a3,a4⟩:=ha
 obtain ⟨a',b',c',d',rfl,_,_,b1,b2,b3,b4⟩:=hb
 refine enter Tryz.func88 O Tryz.ntmps88 O (.beg (.go O (.box O O fun w1 p2 n1=>.box O O fun w2 p3 n2=>?_)))
 obtain ⟨e1,k2,hb2,hs1⟩:=n1
 obtain ⟨e2,k3,hb3,hs2⟩:=n2
 have x2:=e1.trans e2
 have k2:=k2.ext e2
 have q2:=O6 k2
 have q3:=O6 k3
 have rA:∀ {W:World} {x z:Value} {q:QV},Ext w W->eW.R (fun _=>True) w x q.num.w->eW.R (fun _=>True) w z q.den.w->eQ.R (fun _=>True) W (.agg #[.bool q.num.neg,x,.bool q.den.neg,z]) q:=fun e h h'=>ER.ext eQ ⟨_,_,rfl,h,h'⟩ e
 refine .go O (.fa Ay4 O O (.ld A8 O O k2 O (.fa Ay4 O O (.ld A8 O O k3 O (.go O (.eqlT O O O O (.go O ?_)))))))
 refine .fa Ay3 O O (.go O (.ld A8 O O k2 O (.go O (.fa Ay3 O O (.go O (.ld A8 O O k3 O (.go O (.eqlT O O O O (.go O ?_)))))))))
 refine .fa Ay2 O O (.go O (.ldX (E:=eQ) ty_Q O O q2.1 (rA x2 a1 a2) (.go O (.fa Ay2 O O (.go O (.ldX (E:=eQ) ty_Q O O q3.1 (rA x2 b1 b2) (.go O ?_)))))))
 refine .call _ O AZ4 O (isQ_t (rA x2 a1 a2) (rA x2 b1 b2) O) fun v4 w4 e4 h4=>?_
 subst h4
 have x4:=x2.trans e4
 have q2':=O6 (k2.ext e4)
 have q3':=O6 (k3.ext e4)
 refine .go O (.fa Ay1 O O (.go O (.ldX (E:=eQ) ty_Q O O q2'.2 (rA x4 a3 a4) (.go O (.fa Ay1 O O (.go O (.ldX (E:=eQ) ty_Q O O q3'.2 (rA x4 b3 b4) (.go O ?_))))))))
 refine .call _ O AZ4 O (isQ_t (rA x4 a3 a4) (rA x4 b3 b4) O) fun v5 w5 e5 h5=>?_
 subst h5
 exact .goE O (.plain [_] Tryz.results88 ⟨rfl,trivial⟩ ⟨x4.trans e5,rfl⟩)
theorem L1:Ent Tryz.prog 49:=A0 Tryz.func49 (by kernel_rfl) rfl
set_option maxRecDepth 8000 in
theorem K9 {w:World} {v:Value} {lost line fl ov:Int} (h:eFd.R (fun _=>True) w v ⟨lost,line,qc (fl:Rat),qc (ov:Rat)⟩) (hf:inI fl) (ho:inI ov):CR Tryz.prog 49 #[v,.int .i64 lost,.int .i64 line,.int .i64 fl,.int .i64 ov] w (Is (.bool true)):=by
 have h0:=h
 obtain ⟨a,b,c,d,rfl,h1,h2,a1,a2,a3,a4⟩:=h
 have hf2:=E0.1 hf
 have ho2:=E0.1 ho
 refine enter Tryz.func49 O Tryz.ntmps49 O (.beg (.go O (.box O O fun w1 p5 n1=>?_)))
 obtain ⟨e1,k5,hb5,hs1⟩:=n1
 refine .go O (.ldA E9 O O k5 O (.go O ?_))
 refine .call _ O Au3 O (Ar9 (ER.ext eFd h0 e1)) fun v2 w2 e2 hv2=>?_
 refine .go O (.call _ O AD7 O (AC7 (S:=fun _=>True) upT (by omega) (by omega)) fun v3 w3 e3 h3=>?_)
 refine .go O (.call _ O AD7 O (AC7 (S:=fun _=>True) upT (by omega) (by omega)) fun v4 w4 e4 h4=>?_)
 have h3:=h3.ext e4
 have hv2:=ER.ext eFd hv2 (e3.trans e4)
 obtain ⟨s1,t1,rfl,g1,g2⟩:=h3
 obtain ⟨s2,t2,rfl,g3,g4⟩:=h4
 refine .go O (.bld _ O O Az2 (.go O ?_))
 refine .call _ O Ah9 O (Ae9 hv2 ⟨_,_,_,_,rfl,h1,h2,g1,g2,g3,g4⟩) fun v5 w5 e5 h5=>?_
 subst h5
 exact .goE O (.plain [_] Tryz.results49 ⟨rfl,trivial⟩ ⟨(((e1.trans e2).trans e3).trans e4).trans e5,rfl⟩)
theorem Aq0 (g:FdV):wstS none g=if g.line = -1 then none else some g:=rfl
theorem Ae3 (f g:FdV):wstS (some f) g=if g.line = -1 then some f else if qval f.over<qval g.over then some g else some f:=rfl
theorem Ay9 {a b:Rat}:0<cmpR a b<->b<a:=by
 unfold cmpR
 by_cases h:a<b
 ·rw [if_pos h]
  exact ⟨fun h'=>absurd h' (by decide),fun h'=>by grind⟩
 ·rw [if_neg h]
  by_cases h2:b<a
  ·rw [if_pos h2];exact ⟨fun _=>h2,fun _=>by decide⟩
  ·rw [if_neg h2];exact ⟨fun h'=>absurd h' (by decide),fun h'=>absurd h' h2⟩
abbrev wX (b6 b7:Nat):Nat->Prop:=fun j=>j≠b6/\j≠b7
theorem BN8:Ent Tryz.prog 87:=A0 Tryz.func87 (by kernel_rfl) rfl
set_option maxRecDepth 8000 in
theorem BN4 {w:World} {vg vf:Value} {b6 b7:Nat} {g:FdV} {acc:Option FdV} (hl6:b6<w.heap.size) (hl7:b7<w.heap.size) (h67:b6≠b7) (hg:eFd.R (wX b6 b7) w vg g) (k6:Blk w b6 41 vf.cells) (hf:eFd.R (wX b6 b7) w vf (acc.getD fd0)) (k7:Blk w b7 4 #[.bool acc.isSome]) (hgk:FdK g) (hfk:FdK (acc.getD fd0)) :
  Calls Tryz.prog 87 #[vg,.pointer (some ⟨b7,0,none⟩),.pointer (some ⟨b6,0,none⟩)] w fun e w'=>∃ u,e=.returned u/\Chg (fun j=>j=b6\/j=b7) w w'/\(∃ vf',Blk w' b6 41 vf'.cells/\eFd.R (wX b6 b7) w' vf' ((wstS acc g).getD fd0))/\Blk w' b7 4 #[.bool (wstS acc g).isSome]:=by
 have hg0:=hg
 obtain ⟨a,b,c,d,rfl,h1,h2,ha,hb,hc,hd⟩:=hg
 refine enterG Tryz.func87 O Tryz.ntmps87 O (.beg (.go O (.box O O fun w1 b3 n1=>?_)))
 obtain ⟨e1,k3,hb3,hs1⟩:=n1
 have k6:=k6.ext e1
 have k7:=k7.ext e1
 have hf:=ER.ext eFd hf e1
 have hg1:=ER.ext eFd hg0 e1
 have q3:=O6 k3
 have gO:eQ.R (wX b6 b7) w1 (.agg #[.bool g.over.num.neg,c,.bool g.over.den.neg,d]) g.over:=ER.ext eQ ⟨_,_,rfl,hc,hd⟩ e1
 have put:∀ {W:World},Ext w1 W->∀ {w4 w5:World},Upd W w4 b6->Blk w4 b6 41 (Value.agg #[.int .i64 g.lost,.int .i64 g.line,.bool g.flow.num.neg,a,.bool g.flow.den.neg,b,.bool g.over.num.neg,c,.bool g.over.den.neg,d]).cells->eFd.R (wX b6 b7) w4 (.agg #[.int .i64 g.lost,.int .i64 g.line,.bool g.flow.num.neg,a,.bool g.flow.den.neg,b,.bool g.over.num.neg,c,.bool g.over.den.neg,d]) g->Upd w4 w5 b7->Blk w5 b7 4 #[.bool true]->wstS acc g=some g->Chg (fun j=>j=b6\/j=b7) w w5/\(∃ vf',Blk w5 b6 41 vf'.cells/\eFd.R (wX b6 b7) w5 vf' ((wstS acc g).getD fd0))/\Blk w5 b7 4 #[.bool (wstS acc g).isSome]:=fun {W} eW {w4 w5} u4 k4 h4 u5 k5 hw=>by
  rw [hw]
  exact ⟨((Chg.ext (e1.trans eW)).trans (Chg.upd u4 (.inl O))).trans (Chg.upd u5 (.inr O)),⟨_,k4.upd u5 h67,eFd.keep (Kp.upd u5 fun h=>h.2 O) h4⟩,k5⟩
 refine .go O (.fa AA0 O O (.ld A8 O O k3 O ?_))
 by_cases hl:g.line = -1
 ·have hw:wstS acc g=acc:=by
   cases acc with
   | none=>rw [Aq0,if_pos hl]
   | some f=>rw [Ae3,if_pos hl]
  exact .neqF O O O hl (.goE O (.plain [] Tryz.results87 trivial (by rw [hw];exact ⟨Chg.ext e1,⟨vf,k6,hf⟩,k7⟩)))
 refine .neqT O O O hl (.go O (.ld B8 O O k7 O ?_))
 cases acc with
 | none =>
  have hw:wstS none g=some g:=by rw [Aq0,if_neg hl]
  refine .go O (.ldA E9 O O k3 O (.storeA (E:=eFd) E9 O O k6 O (eFd.csz hf) hg1 (fun h=>h.1 O) fun w4 k4 u4 h4=>?_))
  refine .go O (.store B8 O O (k7.upd u4 (Ne.symm h67)) O (by simp [Value.cells]) (by simp [one1,Value.cells]) fun w5 k5 u5=>.goE O ?_)
  exact .plain [] Tryz.results87 trivial (put (Ext.refl _) u4 k4 h4 u5 k5 hw)
 | some f =>
  obtain ⟨a',b',c',d',rfl,g1,g2,fa,fb,fc,fd⟩:=hf
  have q6:=O6 k6
  have fO:eQ.R (wX b6 b7) w1 (.agg #[.bool f.over.num.neg,c',.bool f.over.den.neg,d']) f.over:=⟨_,_,rfl,fc,fd⟩
  have upW:Up (wX b6 b7) w1:=fun k hk=>by have:=e1.size;exact ⟨by omega,by omega⟩
  refine .go O (.fa T6 O O (.go O (.ldX (E:=eQ) ty_Q O O q3.2 gO (.go O (.fa T6 O O (.go O (.ldX (E:=eQ) ty_Q O O q6.2 fO (.go O ?_))))))))
  refine .call _ O Aa0 O (AX8 (L:=3000000) upW gO fO hgk.2.1 hfk.2.1 (by decide) (by decide)) fun v2 w2 e2 hv2=>?_
  subst hv2
  have k3:=k3.ext e2
  have k6:=k6.ext e2
  have k7:=k7.ext e2
  by_cases hc:qval f.over<qval g.over
  ·have hw:wstS (some f) g=some g:=by rw [Ae3,if_neg hl,if_pos hc]
   refine .go O (.gtrT O O O (Ay9.2 hc) (.go O (.ldA E9 O O k3 O (.storeA (E:=eFd) E9 O O k6 O O (ER.ext eFd hg1 e2) (fun h=>h.1 O) fun w4 k4 u4 h4=>?_))))
   refine .go O (.store B8 O O (k7.upd u4 (Ne.symm h67)) O (by simp [Value.cells]) (by simp [one1,Value.cells]) fun w5 k5 u5=>.goE O ?_)
   exact .plain [] Tryz.results87 trivial (put e2 u4 k4 h4 u5 k5 hw)
  ·have hw:wstS (some f) g=some f:=by rw [Ae3,if_neg hl,if_neg hc]
   refine .go O (.gtrF O O O (fun h=>hc (Ay9.1 h)) (.goE O (.plain [] Tryz.results87 trivial ?_)))
   rw [hw]
   exact ⟨Chg.ext (e1.trans e2),⟨_,k6,ER.ext eFd ⟨_,_,_,_,rfl,g1,g2,fa,fb,fc,fd⟩ e2⟩,k7⟩
theorem E_Worst:Ent Tryz.prog 48:=A0 Tryz.func48 (by kernel_rfl) rfl
theorem wst_K {l:List FdV} (h:∀ y∈l,FdK y):FdK ((wst l).getD fd0):=by
 have key:∀ (l:List FdV) (acc:Option FdV),(∀ y∈l,FdK y)->FdK (acc.getD fd0)->FdK ((l.foldl wstS acc).getD fd0):=by
  intro l
  induction l with
  | nil=>exact fun acc _ h=>h
  | cons y l ih =>
   intro acc hl ha
   refine ih _ (fun z hz=>hl z (List.mem_cons_of_mem _ hz)) ?_
   have hy:=hl y (List.mem_cons_self ..)
   cases acc with
   | none=>rw [Aq0];split;exact ha;exact hy
   | some f =>
    rw [Ae3]
    split
    ·exact ha
    ·split
     ·exact hy
     ·exact ha
 exact key l none h ⟨Al3 (by decide),Al3 (by decide)⟩
set_option maxRecDepth 8000 in
theorem Worst_c {w:World} {vn vo vx:Value} {n:NtV} {o:List Int} {x:List QV} {L:Nat} (hn:eN.R (fun _=>True) w vn n) (ho:eI.R (fun _=>True) w vo o) (hx:eV.R (fun _=>True) w vx x) (hkx:vk L x) (hL1:1<=L) (hL:L<=9000) (hA:anE n o x=0) :
  CR Tryz.prog 48 #[vn,vo,vx] w (fun v W=>∃ vf,v=tup [vf,.bool (wst (scr n o (rv x))).isSome,.int .i64 0]/\eFd.R (fun _=>True) W vf ((wst (scr n o (rv x))).getD fd0)):=by
 obtain ⟨s,rfl,hs,hb⟩:=hn
 have hn:eN.R (fun _=>True) w (.agg #[.int .i64 n.b,s]) n:=⟨s,rfl,hs,hb⟩
 have hO:outE n o=0:=(AO7 (Ah7 hA).1).1
 refine enter Tryz.func48 O Tryz.ntmps48 O (.beg (.go O (.box O O fun wa b3 na=>.alloc O AD9 fun wb b6 nb=>.alloc O Ap8 fun w1 b7 nc=>?_)))
 obtain ⟨ea,k3,hb3,hsa⟩:=na
 obtain ⟨eb,k6,hb6,hsb⟩:=nb
 obtain ⟨ec,k7,hb7,hsc⟩:=nc
 have x1:=(ea.trans eb).trans ec
 have z1:=ea.size
 replace k3:Blk w1 b3 24 #[.int .i64 n.b,s]:=(k3.ext eb).ext ec
 have k6:Blk w1 b6 41 zFd.cells:=k6.ext ec
 have k7:Blk w1 b7 4 #[.bool false]:=k7
 refine .go O (.ldA ty_N O O k3 O (.go O ?_))
 refine .call _ O Az9 O (All_t (T0:=fun j=>w1.heap.size<=j) (fun _ h=>h) (hn.ext x1) (ho.ext x1) (ER.ext eV hx x1) hkx hL1 hL) fun v2 w2 e2 h2=>?_
 obtain ⟨vl,ve,rfl,hl,he⟩:=h2
 replace he:ve=.int .i64 (anE n o x):=he
 rw [hA] at he
 subst he
 rw [if_pos hA] at hl
 have hK:∀ y∈scr n o (rv x),FdK y:=fun y hy=>BG8 hO hkx hL1 hL hy
 generalize scr n o (rv x)=l at hl hK
 have x2:=x1.trans e2
 have z2:=e2.size
 have k6:=k6.ext e2
 have k7:=k7.ext e2
 have hl:eFds.R (wX b6 b7) w2 vl l:=eFds.mono (fun j _ h=>⟨by omega,by omega⟩) hl
 obtain ⟨_,_,_,_,hll⟩:=RL.len hl
 refine .go O (.neqF O O O O (.go O (.mkf [] [_,_] O O O O (.go O (.lenR I9 O O hl (.goC O ?_))))))
 refine .lp (α:=Nat) [6,7,10,25,26] O (fun i=>[(27,.int .i64 (i:Nat))]) (fun i W=>Ext w W/\w2.heap.size<=W.heap.size/\eFds.R (wX b6 b7) W vl l/\(∃ vf,Blk W b6 41 vf.cells/\eFd.R (wX b6 b7) W vf (((l.take i).foldl wstS none).getD fd0))/\Blk W b7 4 #[.bool ((l.take i).foldl wstS none).isSome]/\i<=l.length) (fun i=>l.length-i) 0 (lc1 O) ⟨x2,Nat.le_refl _,hl,⟨zFd,k6,BL1⟩,k7,Nat.zero_le _⟩ ?_
 clear hl k6 k7
 rintro i W ⟨hW,hz,hl,⟨vf,k6,hf⟩,k7,hi⟩
 refine .go O ?_
 rcases Nat.lt_or_ge i l.length with hlt | hge
 rotate_left
 ·have:i=l.length:=by omega
  subst this
  rw [List.take_of_length_le (Nat.le_refl _)] at hf k7
  have hf':=hf
  refine .lssF O O O (by omega) (.goC O ?_)
  have hvf:=shpA (E:=eFd) O hf
  refine .held follows true (fun W9=>Blk W9 b6 41 vf.cells/\Blk W9 b7 4 #[.bool (l.foldl wstS none).isSome]) [some vf,some (.bool (l.foldl wstS none).isSome),none,none,none] (by kernel_rfl)
   ⟨fun _ h=>(C7 E9 O h.1 (eFd.csz hf')).eq hvf.symm,fun _ h=>v_ld B8 O h.2 rfl,trivial⟩ ?_
  intro W8 e8 _
  have k6:=k6.ext e8
  have k7:=k7.ext e8
  have hf:=ER.ext eFd hf e8
  refine .gv ⟨k6,k7⟩ rfl (H2 E9 O O k6 (eFd.csz hf) (by rw [show vf.cells.size=10 from eFd.csz hf];decide) (eFd.one hf)) ?_
  rintro _ W9 ⟨k9,u9⟩
  rw [Y9 _ _ (by simp)] at k9
  replace k9:Blk W9 b6 41 vf.cells:=by simpa using k9
  have k7:=k7.upd u9 (by omega)
  have hf:=eFd.keep (Kp.upd u9 fun h=>h.1 O) hf
  refine .gv ⟨k9,k7⟩ rfl (H2 B8 O O k7 O (by simp [Value.cells]) (by simp [one1,Value.cells])) ?_
  rintro _ WA ⟨kA,uA⟩
  have k9:=k9.upd uA (by omega)
  have hf:=eFd.keep (Kp.upd uA fun h=>h.2 O) hf
  replace kA:Blk WA b7 4 #[.bool (l.foldl wstS none).isSome]:=kA
  refine .gv ⟨k9,kA⟩ rfl (v_as O).gv ?_
  rintro _ WB ⟨rfl,rfl⟩
  refine .nil (.inl O) (.goE O ?_)
  have hxA:Ext w WB:=uA.below (u9.below (hW.trans e8) (by omega)) (by omega)
  exact .plain [vf,.bool (l.foldl wstS none).isSome,.int .i64 0] Tryz.results48 ⟨Ar1 (E:=eFd) O E9 O O k9 hf,AW8 O B8 kA rfl,rfl,trivial⟩ ⟨hxA,vf,rfl,eFd.mono (fun _ _ _=>trivial) hf⟩
 have hg:l[i]?=some (l.getD i fd0):=A4 hlt
 have htk:l.take (i+1)=l.take i++[l.getD i fd0]:=by rw [List.take_add_one,hg];rfl
 have hgK:=hK _ (List.mem_of_getElem? hg)
 have hfK:FdK (((l.take i).foldl wstS none).getD fd0):=wst_K fun y hy=>hK y (List.mem_of_mem_take hy)
 generalize l.getD i fd0=g at hg htk hgK
 refine .lssT O O O (by omega) (.go O (.ixN (i:=i) I9 E9 O O hl O hg fun q hq=>.ldE (E:=eFd) E9 O O hq fun e he=>.alloc O AD9 fun W3 c n3=>?_))
 obtain ⟨d3,kc,hc,hs3⟩:=n3
 have he:=ER.ext eFd (ER.lt eFd he) d3
 obtain ⟨a,b,c',d,rfl,h1,h2,q1,q2,q3,q4⟩:=he
 refine .go O (.storeA (E:=eFd) E9 O O kc O O ⟨a,b,c',d,rfl,h1,h2,q1,q2,q3,q4⟩ (fun h=>by have:=h.2;omega) fun W4 kc u4 he4=>?_)
 have d4:Ext W W4:=u4.below d3 (by omega)
 have z4:=d4.size
 refine .go O (.ldA E9 O O kc O (.go O ?_))
 refine .callvG [_] O O BN8 O (BN4 (b6:=b6) (b7:=b7) (acc:=(l.take i).foldl wstS none) (by omega) (by omega) (by omega) (eFd.mono (fun _ _ h=>h.1) he4) (k6.ext d4) (ER.ext eFd hf d4) (k7.ext d4) hgK hfK) ?_
 rintro v5 W5 ⟨hC,⟨vf',k6',hf'⟩,k7'⟩
 have hst:(l.take (i+1)).foldl wstS none=wstS ((l.take i).foldl wstS none) g:=by rw [htk,List.foldl_append];rfl
 rw [<-hst] at hf' k7'
 have hW4:Ext w W4:=hW.trans d4
 have hl5:=eFds.keep (hC.kp (S:=wX b6 b7) fun j hj h=>by rcases h with h | h;exact hj.1 h;exact hj.2 h) (ER.ext eFds hl d4)
 have z5:=hC.size
 exact .go O (.inc O O O (by omega) (.goN O (.mk (i+1) O (lc1 O) ⟨⟨hC.below hW4 hW4.size (fun j hj=>by omega),by omega,hl5,⟨vf',k6',hf'⟩,k7',hlt⟩,by show l.length-(i+1)<l.length-i;omega⟩)))
theorem BN9:Ent Tryz.prog 16:=A0 Tryz.func16 (by kernel_rfl) rfl
set_option maxRecDepth 8000 in
theorem BN5 {w:World} {vn vo vx:Value} {n:NtV} {o:List Int} {x:List QV} {L:Nat} (hn:eN.R (fun _=>True) w vn n) (ho:eI.R (fun _=>True) w vo o) (hx:eV.R (fun _=>True) w vx x) (hkx:vk L x) (hL1:1<=L) (hL:L<=9000) (hA:anE n o x=0) :
  CR Tryz.prog 16 #[vn,vo,vx] w (Is (tup [.bool (decide ((scr n o (rv x)).length=0)),.int .i64 0])):=by
 obtain ⟨s,rfl,hs,hb⟩:=hn
 have hn:eN.R (fun _=>True) w (.agg #[.int .i64 n.b,s]) n:=⟨s,rfl,hs,hb⟩
 refine enter Tryz.func16 O Tryz.ntmps16 O (.beg (.go O (.box O O fun w1 b3 n1=>?_)))
 obtain ⟨e1,k3,hb3,hs1⟩:=n1
 refine .go O (.ldA ty_N O O k3 O (.go O ?_))
 refine .call _ O Az9 O (BO1 (hn.ext e1) (ho.ext e1) (ER.ext eV hx e1) hkx hL1 hL) fun v2 w2 e2 h2=>?_
 obtain ⟨vl,ve,rfl,hl,he⟩:=h2
 replace he:ve=.int .i64 (anE n o x):=he
 rw [hA] at he
 subst he
 rw [if_pos hA] at hl
 refine .go O (.neqF O O O O (.go O (.lenR I9 O O hl (.go O ?_))))
 by_cases h0:(scr n o (rv x)).length=0
 ·rw [decide_eq_true h0]
  exact .eqlT O O O (by omega) (.goE O (.plain [_,_] Tryz.results16 ⟨rfl,rfl,trivial⟩ ⟨e1.trans e2,rfl⟩))
 ·rw [decide_eq_false h0]
  exact .eqlF O O O (by omega) (.goE O (.plain [_,_] Tryz.results16 ⟨rfl,rfl,trivial⟩ ⟨e1.trans e2,rfl⟩))
theorem vk90:vk 4 (intsV [90,0,-90]):=fun q hq=>(vk_ints [90,0,-90] (by decide) q hq).mono (by decide)
theorem K8:Ent Tryz.prog 12:=A0 Tryz.func12 (by kernel_rfl) rfl
set_option maxRecDepth 8000 in
theorem K7 {w:World}:CR Tryz.prog 12 #[] w (Is (.bool true)):=by
 refine enter Tryz.func12 O Tryz.ntmps12 O (.beg (.go O ?_))
 refine .call _ O X2 O V4 fun v1 w1 e1 h1=>?_
 refine .go O (.bsl _ O O At6 fun w2 b2 n2=>.go O ?_)
 have e2:=n2.1
 refine .call _ O AA9 O (Z6 (At1 [90,0,-90] 3 n2 upT O O (by decide) (by decide)) (by decide)) fun v3 w3 e3 h3=>.go O ?_
 have e13:=e2.trans e3
 refine .call _ O Az9 O (BO1 (o:=[]) (L:=4) (ER.ext eN h1 e13) RL.nil h3 vk90 (by decide) (by decide)) fun v4 w4 e4 h4=>?_
 obtain ⟨vl,ve,rfl,hl,he⟩:=h4
 replace he:ve=.int .i64 (anE net3 [] (intsV [90,0,-90])):=he
 rw [AM5] at he
 subst he
 rw [if_pos AM5,scr90] at hl
 replace hl:eFds.R (fun _=>True) w4 vl scr3:=hl
 have x4:=(e1.trans e13).trans e4
 refine .go O (.call _ O X2 O V4 fun v5 w5 e5 h5=>?_)
 refine .go O (.bsl _ O O At6 fun w6 b6 n6=>.go O ?_)
 have e6:=n6.1
 refine .call _ O AA9 O (Z6 (At1 [90,0,-90] 3 n6 upT O O (by decide) (by decide)) (by decide)) fun v7 w7 e7 h7=>.go O ?_
 have e57:=e6.trans e7
 refine .call _ O E_Worst O (Worst_c (o:=[]) (L:=4) (ER.ext eN h5 e57) RL.nil h7 vk90 (by decide) (by decide) AM5) fun v8 w8 e8 h8=>?_
 obtain ⟨vf,rfl,hf⟩:=h8
 rw [scr90,wst90] at hf ⊢
 replace hf:eFd.R (fun _=>True) w8 vf ⟨2,1,qc ((90:Int):Rat),qc ((40:Int):Rat)⟩:=hf
 have x8:=((x4.trans e5).trans e57).trans e8
 have e48:=(e5.trans e57).trans e8
 refine .go O (.alloc O AD9 fun w9 b9 n9=>?_)
 obtain ⟨e9,k9,hb9,hs9⟩:=n9
 have hf9:=ER.ext eFd (ER.lt eFd hf) e9
 obtain ⟨fa,fb,fc,fd,rfl,g1,g2,f1,f2,f3,f4⟩:=hf9
 refine .go O (.storeA (E:=eFd) E9 O O k9 O O ⟨fa,fb,fc,fd,rfl,g1,g2,f1,f2,f3,f4⟩ (fun h=>by have:=h.2;omega) fun w10 k10 u10 h10=>?_)
 have e10:Ext w8 w10:=u10.below e9 (by omega)
 have h10:=eFd.mono (S':=fun _=>True) (fun _ _ _=>trivial) h10
 have x10:=x8.trans e10
 refine .go O (.call _ O X2 O V4 fun v11 w11 e11 h11=>?_)
 refine .go O (.bsl _ O O At6 fun w12 b12 n12=>.go O ?_)
 have e12:=n12.1
 refine .call _ O AA9 O (Z6 (At1 [90,0,-90] 3 n12 upT O O (by decide) (by decide)) (by decide)) fun v13 w13 e13' h13=>.go O ?_
 have e1113:=e12.trans e13'
 refine .call _ O BN9 O (BN5 (o:=[]) (L:=4) (ER.ext eN h11 e1113) RL.nil h13 vk90 (by decide) (by decide) AM5) fun v14 w14 e14 h14=>?_
 subst h14
 rw [scr90]
 have d14:=(e11.trans e1113).trans e14
 have x14:=x10.trans d14
 have hl14:=ER.ext eFds hl ((e48.trans e10).trans d14)
 have k14:=k10.ext d14
 have h14:=ER.ext eFd h10 d14
 have i90:inI 90:=E0.2 (by decide)
 have i20:inI 20:=E0.2 (by decide)
 have i40:inI 40:=E0.2 (by decide)
 refine .go O (.eqlT O O O O (.go O (.eqlT O O O O (.go O (.eqlT O O O O (.go O ?_))))))
 refine .lenR I9 O O hl14 (.go O (.eqlT O O O O (.go O (.ixN (i:=0) I9 E9 O O hl14 O O fun q hq=>.go O (.ldE (E:=eFd) E9 O O hq fun e he=>.go O ?_)))))
 refine .call _ O L1 O (K9 he i90 i20) fun v15 w15 e15 h15=>?_
 subst h15
 have hl15:=ER.ext eFds hl14 e15
 refine .go O (.ixN (i:=1) I9 E9 O O hl15 O O fun q hq=>.go O (.ldE (E:=eFd) E9 O O hq fun e he=>.go O ?_))
 refine .call _ O L1 O (K9 he i90 i20) fun v16 w16 e16 h16=>?_
 subst h16
 have hl16:=ER.ext eFds hl15 e16
 refine .go O (.ixN (i:=2) I9 E9 O O hl16 O O fun q hq=>.go O (.ldE (E:=eFd) E9 O O hq fun e he=>.go O ?_))
 refine .call _ O L1 O (K9 he i90 i40) fun v17 w17 e17 h17=>?_
 subst h17
 have d17:=(e15.trans e16).trans e17
 refine .go O (.ldA E9 O O (k14.ext d17) O (.go O ?_))
 refine .call _ O L1 O (K9 (ER.ext eFd h14 d17) i90 i40) fun v18 w18 e18 h18=>?_
 subst h18
 exact .goE O (.plain [_] Tryz.results12 ⟨rfl,trivial⟩ ⟨(x14.trans d17).trans e18,rfl⟩)
def blX (n:NtV) (o:List Int) (x:List QV):List QV:=tab (nwOf n o).B ((nwOf n o).bl (rv x))
theorem AS8:Ent Tryz.prog 13:=A0 Tryz.func13 (by kernel_rfl) rfl
set_option maxRecDepth 8000 in
theorem AS2 {w:World} {vn vo vx:Value} {n:NtV} {o:List Int} {x:List QV} (hn:eN.R (fun _=>True) w vn n) (ho:eI.R (fun _=>True) w vo o) (hx:eV.R (fun _=>True) w vx x) (hkx:vk 4 x) :
  CR Tryz.prog 13 #[vn,vo,vx] w (fun v W=>∃ vl vi,v=tup [vl,vi,.bool (decide (sfE n o x.length=0)),.bool true]/\eFds.R (fun _=>True) W vl (if sfE n o x.length=0 then scr n o (rv (blX n o x)) else [])/\eV.R (fun _=>True) W vi (if sfE n o x.length=0 then blX n o x else [])):=by
 obtain ⟨s,rfl,hs,hb⟩:=hn
 have hn:eN.R (fun _=>True) w (.agg #[.int .i64 n.b,s]) n:=⟨s,rfl,hs,hb⟩
 refine enter Tryz.func13 O Tryz.ntmps13 O (.beg (.go O (.box O O fun w1 b3 n1=>?_)))
 obtain ⟨e1,k3,hb3,hs1⟩:=n1
 refine .go O (.ldA ty_N O O k3 O (.go O ?_))
 refine .call _ O AU2 O (AT6 upT (hn.ext e1) (ho.ext e1) (ER.ext eV hx e1) hkx (by decide) (by decide)) fun v2 w2 e2 h2=>?_
 obtain ⟨vi,vb,rfl,hi,rfl⟩:=h2
 have x2:=e1.trans e2
 by_cases hS:sfE n o x.length=0
 rotate_left
 ·rw [show blB n o x.length=false by unfold blB;exact decide_eq_false hS]
  refine .goE O (.plain [_,_,_,_] Tryz.results13 ⟨rfl,rfl,rfl,rfl,trivial⟩ ⟨x2,_,_,by rw [decide_eq_false hS],?_,?_⟩)
  ·rw [if_neg hS];exact RL.nil
  ·rw [if_neg hS];exact RL.nil
 rw [show blB n o x.length=true by unfold blB;exact decide_eq_true hS]
 rw [if_pos hS] at hi ⊢
 rw [if_pos hS,decide_eq_true hS]
 obtain ⟨hO,hxb⟩:=AO7 hS
 have hki:=bl_vk (I0 hO) hkx
 have han:=bl_an hO (x:=x)
 replace hi:eV.R (fun _=>True) w2 vi (blX n o x):=hi
 refine .go O (.ldA ty_N O O (k3.ext e2) O (.go O ?_))
 refine .call _ O Az9 O (BO1 (x:=blX n o x) (L:=40) (hn.ext x2) (ho.ext x2) hi hki (by decide) (by decide)) fun v3 w3 e3 h3=>?_
 obtain ⟨vl,ve,rfl,hl,he⟩:=h3
 replace he:ve=.int .i64 (anE n o (blX n o x)):=he
 rw [show anE n o (blX n o x)=0 from han] at he
 subst he
 rw [if_pos (show anE n o (blX n o x)=0 from han)] at hl
 refine .go O (.eqlT O O O O (.goE O (.plain [_,_,_,_] Tryz.results13 ⟨rfl,rfl,rfl,rfl,trivial⟩ ⟨x2.trans e3,_,_,rfl,hl,ER.ext eV hi e3⟩)))
theorem Ai4:Ent Tryz.prog 23:=A0 Tryz.func23 (by kernel_rfl) rfl
set_option maxRecDepth 8000 in
theorem Af9 {S:Nat->Prop} {w:World} {vl:Value} {l:List FdV} {lost line:Int} (hl:eFds.R S w vl l):CR Tryz.prog 23 #[vl,.int .i64 lost,.int .i64 line] w (Two (eFd.at S ((fnd l lost line).getD fd0)) (Is (.bool (fnd l lost line).isSome))):=by
 have hl:=ER.lt eFds hl
 obtain ⟨_,_,_,_,hll⟩:=RL.len hl
 refine enter Tryz.func23 O Tryz.ntmps23 O (.beg (.go O (.alloc O AD9 fun w1 b6 n1=>.goC O ?_)))
 obtain ⟨e1,k6,hb6,hs1⟩:=n1
 have hl1:=ER.ext eFds hl e1
 refine .lp (α:=Nat) [0,1,2,6] O (fun i=>[(8,.int .i64 (i:Nat))]) (fun i W=>Ext w1 W/\i<=l.length/\fnd l lost line=fnd (l.drop i) lost line) (fun i=>l.length-i) 0 (lc1 O) ⟨Ext.refl _,Nat.zero_le _,rfl⟩ ?_
 rintro i W ⟨hW,hi,hd⟩
 have k6:=k6.ext hW
 have hlW:=ER.ext eFds hl1 hW
 have hz:=hW.size
 refine .go O (.lenR I9 O O hlW ?_)
 rcases Nat.lt_or_ge i l.length with hlt | hge
 rotate_left
 ·have:i=l.length:=by omega
  subst this
  have hn:fnd l lost line=none:=by rw [hd,List.drop_length];rfl
  refine .lssF O O O (by omega) (.go O (.bld _ O O bld_Fd0 (.storeA (E:=eFd) (S:=fun j=>j≠b6) E9 O O k6 O O BL1 (fun h=>h O) fun w3 k3 u3 h3=>.goE O ?_)))
  exact .plain [zFd,.bool false] Tryz.results23 ⟨Ar1 (E:=eFd) O E9 O O k3 h3,rfl,trivial⟩ ⟨u3.below (e1.trans hW) (by omega),zFd,.bool false,rfl,by rw [hn];exact BL1,by rw [hn];rfl⟩
 have hg:l[i]?=some (l.getD i fd0):=A4 hlt
 have hdr:l.drop i=l.getD i fd0::l.drop (i+1):=by
  rw [List.drop_eq_getElem_cons hlt]
  congr 1
  rw [List.getD_eq_getElem?_getD,List.getElem?_eq_getElem hlt];rfl
 generalize l.getD i fd0=y at hg hdr
 rw [hdr] at hd
 have nxt:¬ (y.lost=lost/\y.line=line)->fnd l lost line=fnd (l.drop (i+1)) lost line:=fun h=>by
  rw [hd]
  unfold fnd
  rw [List.find?_cons_of_neg (by simpa using h)]
 refine .lssT O O O (by omega) (.go O (.ixN (i:=i) I9 E9 O O hlW O hg fun q hq=>?_))
 have hq1:=AF7 hq
 refine .faP AL7 O O (.ldE (E:=eInt .i64) A8 O O hq1.1 fun e he=>?_)
 obtain ⟨rfl,_⟩:=he
 refine .go O ?_
 by_cases h1:y.lost=lost
 rotate_left
 ·exact .eqlF O O O h1 (.go O (.inc O O O (by omega) (.goN O (.mk (i+1) O (lc1 O) ⟨⟨hW,hlt,nxt fun h=>h1 h.1⟩,by show l.length-(i+1)<l.length-i;omega⟩))))
 refine .eqlT O O O h1 (.go O (.ixN (i:=i) I9 E9 O O hlW O hg fun q hq=>?_))
 have hq1:=AF7 hq
 refine .go O (.faP AA0 O O (.go O (.ldE (E:=eInt .i64) A8 O O hq1.2 fun e he=>?_)))
 obtain ⟨rfl,_⟩:=he
 refine .go O ?_
 by_cases h2:y.line=line
 rotate_left
 ·exact .eqlF O O O h2 (.go O (.inc O O O (by omega) (.goN O (.mk (i+1) O (lc1 O) ⟨⟨hW,hlt,nxt fun h=>h2 h.2⟩,by show l.length-(i+1)<l.length-i;omega⟩))))
 have hy:fnd l lost line=some y:=by
  rw [hd]
  unfold fnd
  rw [List.find?_cons_of_pos (by simp [h1,h2])]
 refine .eqlT O O O h2 (.go O (.ixN (i:=i) I9 E9 O O hlW O hg fun q hq=>.ldE (E:=eFd) E9 O O hq fun e he=>?_))
 refine .storeA (E:=eFd) E9 O O k6 O O he (fun h=>by have:=h.2;omega) fun w3 k3 u3 h3=>.goE O ?_
 exact .plain [e,.bool true] Tryz.results23 ⟨Ar1 (E:=eFd) O E9 O O k3 h3,rfl,trivial⟩ ⟨u3.below (e1.trans hW) (by omega),e,.bool true,rfl,by rw [hy];exact eFd.mono (fun _ _ h=>h.1) h3,by rw [hy];rfl⟩
theorem AN2:Ent Tryz.prog 26:=A0 Tryz.func26 (by kernel_rfl) rfl
set_option maxRecDepth 8000 in
theorem AK5 {w:World} {va vb:Value} {y z:FdV} (ha:eFd.R (fun _=>True) w va y) (hb:eFd.R (fun _=>True) w vb z) (hyk:FdK y) (hzk:FdK z) (e1:y.lost=z.lost) (e2:y.line=z.line) (e3:qval y.flow=qval z.flow) (e4:qval y.over=qval z.over):CR Tryz.prog 26 #[va,vb] w (Is (.bool true)):=by
 obtain ⟨a,b,c,d,rfl,h1,h2,a1,a2,a3,a4⟩:=ha
 obtain ⟨a',b',c',d',rfl,_,_,b1,b2,b3,b4⟩:=hb
 refine enter Tryz.func26 O Tryz.ntmps26 O (.beg (.go O (.box O O fun w1 p2 n1=>.box O O fun w2 p3 n2=>?_)))
 obtain ⟨d1,k2,hb2,hs1⟩:=n1
 obtain ⟨d2,k3,hb3,hs2⟩:=n2
 have x2:=d1.trans d2
 have k2:=k2.ext d2
 have q2:=O6 k2
 have q3:=O6 k3
 have rA:∀ {W:World} {x z:Value} {q:QV},Ext w W->eW.R (fun _=>True) w x q.num.w->eW.R (fun _=>True) w z q.den.w->eQ.R (fun _=>True) W (.agg #[.bool q.num.neg,x,.bool q.den.neg,z]) q:=fun e h h'=>ER.ext eQ ⟨_,_,rfl,h,h'⟩ e
 refine .go O (.fa AL7 O O (.ld A8 O O k2 O (.fa AL7 O O (.ld A8 O O k3 O (.go O (.eqlT O O O e1 (.go O ?_)))))))
 refine .fa AA0 O O (.go O (.ld A8 O O k2 O (.go O (.fa AA0 O O (.go O (.ld A8 O O k3 O (.go O (.eqlT O O O e2 (.go O ?_)))))))))
 refine .fa Ag4 O O (.go O (.ldX (E:=eQ) ty_Q O O q2.1 (rA x2 a1 a2) (.go O (.fa Ag4 O O (.go O (.ldX (E:=eQ) ty_Q O O q3.1 (rA x2 b1 b2) (.go O ?_)))))))
 refine .call _ O AN4 O (AL2 (L:=3000000) upT (rA x2 a1 a2) (rA x2 b1 b2) hyk.1.1 hzk.1.1 (by decide) (by decide)) fun v4 w4 d4 h4=>?_
 rw [decide_eq_true e3] at h4
 subst h4
 have x4:=x2.trans d4
 have q2':=O6 (k2.ext d4)
 have q3':=O6 (k3.ext d4)
 refine .go O (.fa T6 O O (.go O (.ldX (E:=eQ) ty_Q O O q2'.2 (rA x4 a3 a4) (.go O (.fa T6 O O (.go O (.ldX (E:=eQ) ty_Q O O q3'.2 (rA x4 b3 b4) (.go O ?_))))))))
 refine .call _ O AN4 O (AL2 (L:=3000000) upT (rA x4 a3 a4) (rA x4 b3 b4) hyk.2.1 hzk.2.1 (by decide) (by decide)) fun v5 w5 d5 h5=>?_
 rw [decide_eq_true e4] at h5
 subst h5
 exact .goE O (.plain [_] Tryz.results26 ⟨rfl,trivial⟩ ⟨x4.trans d5,rfl⟩)
section
variable {P:Program} {σ:Env} {w:World} {d:Option Tmp} {ty:TypeId} {pos:String} {af:Array Edge} {g:Option (Nat×Bool)} {S:Nat->Prop}
theorem ob_fd0 {s:TypeId} {x:Operand} {i:Nat} {u:Value} {y:FdV} (hf:fldOf P s i=some 0) (hx:ev σ x=some u) (hp:Ptr eFd S y u w):Gv P ⟨d,.fieldAddr s x i,ty,pos,af,g⟩ σ w fun v' w'=>Ext w w'/\Sp.ok (.inr (Ptr (eInt .i64) S y.lost)) v' w':=by
 obtain ⟨p,rfl,hp⟩:=hp
 exact L7 (Av4 hf hx) ⟨_,rfl,(AF7 hp).1⟩ (fun _ _ _ e ⟨p,h1,h2⟩=>⟨p,h1,h2.ext e⟩)
theorem ob_fd1 {s:TypeId} {x:Operand} {i:Nat} {u:Value} {y:FdV} (hf:fldOf P s i=some 1) (hx:ev σ x=some u) (hp:Ptr eFd S y u w):Gv P ⟨d,.fieldAddr s x i,ty,pos,af,g⟩ σ w fun v' w'=>Ext w w'/\Sp.ok (.inr (Ptr (eInt .i64) S y.line)) v' w':=by
 obtain ⟨p,rfl,hp⟩:=hp
 exact L7 (Av4 hf hx) ⟨_,rfl,(AF7 hp).2⟩ (fun _ _ _ e ⟨p,h1,h2⟩=>⟨p,h1,h2.ext e⟩)
end
end Go.Proofs.YtpgkacdihhjknaaGreat
namespace Go.Kx
open Go Go.RowKit
section
variable {n m:Nw} {c:Rat}
end
def lnC (y:LnV):List Value:=[.int .i64 y.f,.int .i64 y.t,.int .i64 y.x,.int .i64 y.c]
def flL (l:List LnV):List Value:=l.flatMap lnC
def mkL (y:LnV):Value:=.agg #[.int .i64 y.f,.int .i64 y.t,.int .i64 y.x,.int .i64 y.c]
def okL (y:LnV):Prop:=inI y.f/\inI y.t/\inI y.x/\inI y.c
theorem Ay6 {j:Nat} {v:Value} {y y':LnV} (hj:j<4) (hy:(lnC y).set j v=lnC y'):∀ (l:List LnV) (i:Nat),l[i]?=some y->(flL l).set (i*4+j) v=flL (l.set i y')
 | [],i,h=>by simp at h
 | a::l,0,h=>by
  have:a=y:=by simpa using h
  subst this
  show (lnC a++flL l).set (0*4+j) v=lnC y'++flL l
  rw [List.set_append_left _ _ (by show 0*4+j<4;omega),Nat.zero_mul,Nat.zero_add,hy]
 | a::l,i+1,h=>by
  show (lnC a++flL l).set ((i+1)*4+j) v=lnC a++flL (l.set i y')
  rw [List.set_append_right _ _ (by show 4<=(i+1)*4+j;omega),<-Ay6 hj hy l i (by simpa using h)]
  congr 2
  show (i+1)*4+j-4=i*4+j
  omega
theorem T7:∀ l:List LnV,(flL l).length=l.length*4
 | []=>rfl
 | a::l=>by
  show (lnC a++flL l).length=(l.length+1)*4
  rw [List.length_append,T7 l]
  show 4+_=_
  omega
theorem AF5 (l:List LnV):cellsOf (l.map mkL)=flL l:=by
 unfold cellsOf flL
 rw [List.flatMap_map];rfl
theorem wrt_fl {l:List LnV} {rest:List Value} {i j:Nat} {v:Value} {y y':LnV} (hj:j<4) (hy:(lnC y).set j v=lnC y') (h:l[i]?=some y):wrt (flL l++rest).toArray (i*4+j) [v]=(flL (l.set i y')++rest).toArray:=by
 have hi:i<l.length:=(List.getElem?_eq_some_iff.1 h).1
 show (flL l++rest).toArray.setIfInBounds (i*4+j) v=_
 rw [List.setIfInBounds_toArray,List.set_append_left _ _ (by rw [T7];omega),Ay6 hj hy l i h]
section
variable {t:TypeId} {base:Nat} {X:Nat->Prop} {w:World} {v:Value} {l:List LnV}
theorem Ar5 {es:List Value} {S:Nat->Prop} (he:Els eL S w es l):es=l.map mkL/\∀ y∈l,okL y:=by
 constructor
 ·apply List.ext_getElem?
  intro i
  rw [List.getElem?_map]
  rcases Nat.lt_or_ge i l.length with h | h
  ·rw [List.getElem?_eq_getElem h]
   have h':i<es.length:=by rw [he.1];exact h
   rw [List.getElem?_eq_getElem h']
   exact congrArg some (he.2 i _ _ (List.getElem?_eq_getElem h') (List.getElem?_eq_getElem h)).1
  ·rw [List.getElem?_eq_none h,List.getElem?_eq_none (by rw [he.1];exact h)];rfl
 ·intro y hy
  obtain ⟨i,hi⟩:=List.mem_iff_getElem?.1 hy
  have h:i<l.length:=(List.getElem?_eq_some_iff.1 hi).1
  have h':i<es.length:=by rw [he.1];exact h
  exact (he.2 i _ _ (List.getElem?_eq_getElem h') hi).2
theorem BL4 {S:Nat->Prop} (h:∀ y∈l,okL y):Els eL S w (l.map mkL) l:=by
 refine ⟨List.length_map ..,fun i e x he hx=>?_⟩
 rw [List.getElem?_map,hx] at he
 cases he
 exact ⟨rfl,h x (List.mem_iff_getElem?.2 ⟨i,hx⟩)⟩
theorem OwnL.lines (h:OwnL eL t base X w v l) (hne:0<l.length):∃ g cap rest,v=.slice (some ⟨g,0,none⟩) l.length cap/\base<=g/\Blk w g t (flL l++rest).toArray /\
  ∀ l' w',l'.length=l.length->(∀ y∈l',okL y)->Blk w' g t (flL l'++rest).toArray->OwnL eL t base X w' v l':=by
 obtain ⟨es,h1,he⟩:=h
 obtain ⟨rfl,hok⟩:=Ar5 he
 rcases h1.2 with ⟨hv,hz⟩ | ⟨g,cap,cur,hv,hb,hg,c1,c2,c3,c4⟩
 ·exfalso;omega
 have hB:Blk w g t (flL l++cur.toList.drop (l.length*4)).toArray:=by
  rw [<-AF5,<-c4]
  show Blk w g t (List.take (l.length*4) cur.toList++_).toArray
  rw [List.take_append_drop];exact hg
 refine ⟨g,cap,cur.toList.drop (l.length*4),hv,hb,hB,fun l' w' hl hok' hB'=>?_⟩
 have hcz:cur.toList.length=(flL l++cur.toList.drop (l.length*4)).length:=by
  rw [<-AF5,<-c4]
  show _=(List.take (l.length*4) cur.toList++_).length
  rw [List.take_append_drop]
 rw [List.length_append,T7] at hcz
 refine ⟨l'.map mkL,⟨?_,.inr ⟨g,cap,_,by rw [hl];exact hv,hb,hB',by rw [hl];exact c1,c2,?_,?_⟩⟩,BL4 hok'⟩
 ·rw [AF5,T7];rfl
 ·rw [<-c3,List.size_toArray,List.length_append,T7,hl,<-hcz,Array.length_toList]
 ·rw [AF5]
  show (flL l'++_).take (l'.length*4)=_
  rw [List.take_append_of_le_length (by rw [T7];exact Nat.le_refl _),List.take_of_length_le (by rw [T7];exact Nat.le_refl _)]
theorem OwnL.reX {base':Nat} {X':Nat->Prop} (h:OwnL eL t base X w v l) (hb:base'<=base):OwnL eL t base' X' w v l:=by
 obtain ⟨es,h1,he⟩:=h
 obtain ⟨rfl,hok⟩:=Ar5 he
 refine ⟨_,⟨h1.1,?_⟩,BL4 hok⟩
 rcases h1.2 with hn | ⟨g,cap,cur,hv,hb',rest⟩
 ·exact .inl hn
 ·exact .inr ⟨g,cap,cur,hv,Nat.le_trans hb hb',rest⟩
end
section
variable {P:Program} {σ:Env} {w:World} {d:Option Tmp} {ty:TypeId} {pos:String} {af:Array Edge} {g:Option (Nat×Bool)}
theorem g_copyL {tt t:TypeId} {x y:Operand} {z u:Value} {by_ base:Nat} {s:List LnV} {S:Nat->Prop} (ht:P.underlying tt=some (.slice t)) (hi:infoOf P t=some (z,4,by_)) (hzs:z.cells.size=4) (hx:ev σ x=some (.slice none 0 0)) (hy:ev σ y=some u) (hs:eLs.R S w u s) (hl:s.length<=1000000) (hby:by_<=100) (hbase:base<=w.heap.size) :
  Gv P ⟨d,.call { callee:=.builtin .append,args:=#[x,y],argTypes:=#[tt,tt] },ty,pos,af,g⟩ σ w fun v' w'=>OwnL eL t base (fun _=>False) w' v' s/\Ext w w':=by
 refine (Ag3 (E:=eL) (base:=w.heap.size) (X:=fun k=>k<w.heap.size) ht hi hzs hx hy OwnL.nil (eLs.mono (fun k _ h=>h.2) (ER.lt eLs hs)) (fun k h=>h) (Nat.zero_le _) hl hby (Nat.le_refl _)).mono ?_
 rintro v' w' ⟨h1,h2⟩
 exact ⟨OwnL.reX h1 hbase,h2⟩
theorem BI8 {tt t:TypeId} {x y:Operand} {z u:Value} {by_ base:Nat} {s:List LnV} {S:Nat->Prop} (ht:P.underlying tt=some (.slice t)) (hi:infoOf P t=some (z,4,by_)) (hzs:z.cells.size=4) (hx:ev σ x=some (.slice none 0 0)) (hy:ev σ y=some u) (hs:eLs.R S w u s) (hl:s.length<=1000000) (hby:by_<=100) (hbase:base<=w.heap.size) :
  Gv P ⟨d,.call { callee:=.builtin .append,args:=#[x,y],argTypes:=#[tt,tt] },ty,pos,af,g⟩ σ w fun v' w'=>Ext w w'/\Sp.ok (.inr fun v w=>OwnL eL t base (fun _=>False) w v s) v' w' :=
 (g_copyL ht hi hzs hx hy hs hl hby hbase).mono fun v' w' ⟨h1,h2⟩=>⟨h2,fun w'' e=>h1.ext e⟩
end
theorem BI4 {n m:NtV} {o:List Int} (hl:m.ls.length=n.ls.length) (hn:outE n o=0) (hm:chkE m=0):outE m o=0:=by
 unfold outE at hn ⊢
 rw [if_neg (by simpa using hm)]
 by_cases hc:chkE n=0
 ·rw [if_neg (by simpa using hc)] at hn
  by_cases ho:outsOk n o
  ·rw [if_pos]
   unfold outsOk at ho ⊢
   rw [hl];exact ho
  ·rw [if_neg ho] at hn;cases hn
 ·rw [if_pos hc] at hn;exact absurd hn hc
end Go.Kx
namespace Go.Proofs.YtpgkacdihhjknaaGreat
open Go Go.Kx Go.RowKit
def limL (y:LnV) (c:Int):LnV:=⟨y.f,y.t,y.x,c⟩
def limN (n:NtV) (k:Nat) (c:Int):NtV:=⟨n.b,n.ls.set k (limL (n.ls.getD k ln0) c)⟩
section
variable {n:NtV} {k:Nat} {c:Int} {o:List Int}
theorem Am3 (hk:k<n.ls.length) (j:Nat):(limN n k c).ls.getD j ln0=if j=k then limL (n.ls.getD k ln0) c else n.ls.getD j ln0:=by
 show (n.ls.set k _).getD j ln0=_
 rw [List.getD_eq_getElem?_getD,List.getElem?_set]
 by_cases h:k=j
 ·subst h
  rw [if_pos rfl,if_pos hk,if_pos rfl];rfl
 ·rw [if_neg h,if_neg (Ne.symm h),List.getD_eq_getElem?_getD]
theorem Ax2 (hk:k<n.ls.length):nwOf (limN n k c) o=nwOf n o:=by
 have e:∀ j,((limN n k c).ls.getD j ln0).f=(n.ls.getD j ln0).f/\((limN n k c).ls.getD j ln0).t=(n.ls.getD j ln0).t/\((limN n k c).ls.getD j ln0).x=(n.ls.getD j ln0).x:=fun j=>by
  rw [Am3 hk]
  split
  ·rename_i h;rw [h];exact ⟨rfl,rfl,rfl⟩
  ·exact ⟨rfl,rfl,rfl⟩
 unfold nwOf
 congr 1
 ·exact List.length_set ..
 ·exact funext fun j=>by rw [(e j).1]
 ·exact funext fun j=>by rw [(e j).2.1]
 ·exact funext fun j=>by rw [(e j).2.2]
theorem BJ5 (hk:k<n.ls.length) (h0:0<=c) (h1:c<=1000000) (h:chkE n=0):chkE (limN n k c)=0:=by
 obtain ⟨b1,b6,m,hc⟩:=AV2 h
 unfold chkE
 rw [if_neg (by show ¬(n.b<1\/6<n.b);omega),if_neg (by show ¬ 10<(n.ls.set k _).length;rw [List.length_set];omega),if_pos]
 intro i hi l hl i' hi'
 have hl':(n.ls.set k (limL (n.ls.getD k ln0) c))[i]?=some l:=hl
 rw [List.getElem?_set] at hl'
 by_cases hki:k=i
 ·subst hki
  rw [if_pos rfl,if_pos hk] at hl'
  cases hl'
  have hg:=A4 (z:=ln0) hk
  have:=hc k hk _ hg i' hi'
  match i',hi' with
  | 0,_=>exact this
  | 1,_=>exact this
  | 2,_=>exact this
  | 3,_=>exact this
  | 4,_=>show (decide (0<=c) && decide (c<=1000000))=true;simp [h0,h1]
 ·rw [if_neg hki] at hl'
  exact hc i (List.getElem?_eq_some_iff.1 hl').1 l hl' i' hi'
theorem Am2 (hk:k<n.ls.length) (h0:0<=c) (h1:c<=1000000) (h:outE n o=0):outE (limN n k c) o=0 :=
 BI4 (List.length_set ..) h (BJ5 hk h0 h1 (O9 h).1)
theorem Ax1 (hk:k<n.ls.length) (h0:0<=c) (h1:c<=1000000) (h:outE n o=0) (l:Nat):sfE (limN n k c) o l=sfE n o l:=by
 unfold sfE
 rw [Am2 hk h0 h1 h,h];rfl
theorem limN_bl (hk:k<n.ls.length) (x:List QV):blX (limN n k c) o x=blX n o x:=by
 unfold blX
 rw [Ax2 hk]
theorem BJ4 (hk:k<n.ls.length) {r:Int} (hr:0<=r) (hc:c=(n.ls.getD k ln0).c+r) (x:Nat->Rat):scr (limN n k c) o x=(scr n o x).filterMap (limF (k:Int) r):=by
 refine scr_lim hr (Int.natCast_nonneg k) (fun l _=>?_) (List.length_set ..) (Ax2 hk)
 unfold capL
 rw [Am3 hk]
 by_cases h:l=k
 ·subst h
  rw [if_pos rfl,if_pos rfl]
  exact hc
 ·rw [if_neg h,if_neg (by omega)]
theorem capL_ok (hk:k<n.ls.length) (h:outE n o=0):0<=capL n k/\capL n k<=1000000:=by
 obtain ⟨_,_,_,hc⟩:=AV2 (O9 h).1
 have:=hc k hk _ (A4 (z:=ln0) hk) 4 (by decide)
 have h2:(decide (0<=capL n k) && decide (capL n k<=1000000))=true:=this
 simpa using h2
end
theorem un_u16:Tryz.prog.underlying 57=some (.int .u16):=by kernel_rfl
theorem info_Ln:infoOf Tryz.prog 53=some (.agg #[.int .i64 0,.int .i64 0,.int .i64 0,.int .i64 0],4,32):=by kernel_rfl
set_option maxRecDepth 8000 in
theorem AC8 {w:World} {vn vo vx:Value} {n:NtV} {o:List Int} {x:List QV} {line y:Int} (hn:eN.R (fun _=>True) w vn n) (ho:eI.R (fun _=>True) w vo o) (hx:eV.R (fun _=>True) w vx x) (hy0:IntKind.u16.min<=y) (hy1:y<=IntKind.u16.max):CR Tryz.prog 6 #[vn,vo,vx,.int .i64 line,.int .u16 y] w (Is (.bool true)):=by
 obtain ⟨s,rfl,hs,hb⟩:=hn
 have hn:eN.R (fun _=>True) w (.agg #[.int .i64 n.b,s]) n:=⟨s,rfl,hs,hb⟩
 obtain ⟨ax,cx,hvx,_,hxl⟩:=RL.len hx
 refine enter Tryz.func6 O Tryz.ntmps6 O (.beg (.go O (.box O O fun w1 b3 n1=>?_)))
 obtain ⟨e1,k3,hb3,hs1⟩:=n1
 replace k3:Blk w1 b3 24 #[.int .i64 n.b,s]:=k3
 refine .go O (.ldA ty_N O O k3 O (.go O (.bsl _ O O (by rw [hvx];exact BM6) fun w2 b17 n2=>?_)))
 have hl:eM.R (fun _=>True) w2 (.slice (some ⟨b17,0,none⟩) 1 1) [x]:=BL7 [vx] [x] n2 upT (by rw [hvx]) O (by decide) (Els.snoc Els.nil (ER.ext eV hx e1))
 have x2:=e1.trans n2.1
 refine .call _ O Ai5 O (Ag0 (hn.ext x2) (ho.ext x2) hl) fun v3 w3 e3 h3=>?_
 obtain ⟨bl,rfl,hlong⟩:=h3
 have x3:=x2.trans e3
 have k3:=k3.ext (n2.1.trans e3)
 clear hl
 cases bl with
 | true =>
  refine .go O (.call _ O K8 O K7 fun v4 w4 e4 h4=>?_)
  subst h4
  exact .goE O (.plain [_] Tryz.results6 ⟨rfl,trivial⟩ ⟨x3.trans e4,rfl⟩)
 | false =>
 have hk:vk 4 x:=(hlong O x (by simp)).vk hx
 have hx20:x.length<=20:=(hlong O x (by simp)).1
 refine .go O (.call _ O K8 O K7 fun v4 w4 e4 h4=>?_)
 subst h4
 have x4:=x3.trans e4
 have k3:=k3.ext e4
 have hy0:0<=y:=by simpa [IntKind.min,IntKind.max,IntKind.signed,IntKind.bits] using hy0
 have hy1:y<=65535:=by simpa [IntKind.min,IntKind.max,IntKind.signed,IntKind.bits] using hy1
 refine .go O (.ldA ty_N O O k3 O (.go O ?_))
 refine .call _ O AZ7 O (AX1 (hn.ext x4) (ho.ext x4)) fun v5 w5 e5 h5=>?_
 subst h5
 have x5:=x4.trans e5
 have k3:=k3.ext e5
 refine .go O ?_
 by_cases hO:outE n o=0
 rotate_left
 ·refine .neqT O O O hO (.go O (.call _ O K8 O K7 fun v6 w6 e6 h6=>?_))
  subst h6
  exact .goE O (.plain [_] Tryz.results6 ⟨rfl,trivial⟩ ⟨x5.trans e6,rfl⟩)
 refine .neqF O O O hO (.go O ?_)
 by_cases hl0:line<0
 ·refine .lssT O O O hl0 (.go O (.call _ O K8 O K7 fun v6 w6 e6 h6=>?_))
  subst h6
  exact .goE O (.plain [_] Tryz.results6 ⟨rfl,trivial⟩ ⟨x5.trans e6,rfl⟩)
 refine .lssF O O O hl0 (.go O (.fa J5 O O (.go O (.ld P2 O O k3 O (.go O (.lenR M4 O O (hs.ext x5) (.go O ?_)))))))
 by_cases hge:(n.ls.length:Int)<=line
 ·refine .geqT O O O hge (.go O (.call _ O K8 O K7 fun v6 w6 e6 h6=>?_))
  subst h6
  exact .goE O (.plain [_] Tryz.results6 ⟨rfl,trivial⟩ ⟨x5.trans e6,rfl⟩)
 obtain ⟨k,rfl⟩:∃ k:Nat,line=k:=⟨line.toNat,by omega⟩
 have hkl:k<n.ls.length:=by omega
 have okN:=I0 hO
 have hM10':n.ls.length<=10:=okN.m
 refine .geqF O O O hge (.goC O ?_)
 refine .par follows 7 [.inl (.pointer (some ⟨b3,0,none⟩)),.inl (.int .i64 n.b),.inl (.pointer (some ⟨b3,0+1,none⟩)),.inl s,.inr (fun v w=>OwnL eL 53 w5.heap.size (fun _=>False) w v n.ls),.inr (fun v w=>∃ u,v=.agg #[.int .i64 n.b,u]/\OwnL eL 53 w5.heap.size (fun _=>False) w u n.ls),.inr (NewP w5.heap.size 24 #[.int .i64 0,.slice none 0 0])] [[],[(53,0)],[],[(55,2)],[(56,3)],[(54,1),(57,4)],[]] (by kernel_rfl) ⟨
  fun w e=>(v_fa J0 O).ob,
  fun w e=>(v_ld A8 O (k3.ext e) O).ob,
  fun w e=>(v_fa J5 O).ob,
  fun w e=>(v_ld P2 O (k3.ext e) O).ob,
  fun w e=>BI8 M4 info_Ln O O O (hs.ext (x5.trans e)) (by omega) (by decide) e.size,
  fun w e x4 hx4=>by
  obtain ⟨a4,c4,hv4⟩:=hx4.slice
  exact L7 (Ak3 _ rfl (by rw [hv4];exact BM9)) ⟨x4,by rw [hv4],hx4⟩ (fun _ _ _ e h=>by obtain ⟨u,h1,h2⟩:=h;exact ⟨u,h1,h2.ext e⟩),
  fun w e=>R4 BE8 e.size,trivial⟩ ?_
 rintro w6 e6 y4 hy4 y5 hy5 y6 ⟨b10,rfl,hb10,k10⟩
 obtain ⟨u,rfl,hu⟩:=hy5
 obtain ⟨au,cu,hus⟩:=hu.slice
 have k10o:=k10
 refine .store ty_N rfl rfl k10 O (by decide) (fun z hz=>by rw [hus] at hz;simp [Value.cells] at hz;rcases hz with rfl | rfl<;>rfl) fun w7 k10' u7=>?_
 have k10:Blk w7 b10 24 #[.int .i64 n.b,u]:=k10'
 have hu:OwnL eL 53 w5.heap.size (fun _=>False) w7 u n.ls:=hu.upd u7 k10o (by decide) (fun h=>h)
 have hB7:Ext w5 w7:=u7.below e6 hb10
 have x7:=x5.trans hB7
 have hR:eLs.R (fun _=>True) w7 u n.ls:=hu.toR (fun _ _=>trivial) (fun _ h=>h.elim)
 have hg:n.ls[k]?=some (n.ls.getD k ln0):=A4 hkl
 have hcap:=capL_ok hkl hO
 unfold capL at hcap
 obtain ⟨y',hyd⟩:∃ y',y'=n.ls.getD k ln0:=⟨_,rfl⟩
 have hlim:∀ c,limN n k c=⟨n.b,n.ls.set k (limL y' c)⟩:=fun c=>by rw [hyd];rfl
 have hscr:=fun c r h1 h2 x=>BJ4 (n:=n) (k:=k) (c:=c) (o:=o) hkl (r:=r) h1 h2 x
 rw [<-hyd] at hg hcap hscr
 obtain ⟨c',hc'⟩:∃ c',c'=min (y'.c+y) 1000000:=⟨_,rfl⟩
 have hc0:0<=c':=by omega
 have hc1:c'<=1000000:=by omega
 obtain ⟨g,cap,rest,hug,hbg,hB,put⟩:=hu.lines (by omega)
 refine .goC O ?_
 refine .par follows 13 [.inl (.pointer (some ⟨b10,0+1,none⟩)),.inl u,.inl (.int .i64 (k:Nat)),.inl (.pointer (some ⟨b10,0+1,none⟩)),.inl u,.inl (.int .i64 (k:Nat)),.inr (Ptr eL (fun _=>True) y'),.inr (Ptr (eInt .i64) (fun _=>True) y'.c),.inl (.int .i64 y'.c),.inl (.int .u16 y),.inl (.int .i64 y),(.inl (.int .i64 (y'.c+y))),(.inl (.int .i64 c'))] [[],[(59,0)],[],[],[(62,3)],[],[(63,4),(64,5)],[(65,6)],[(66,7)],[],[(68,9)],[(67,8),(69,10)],[(70,11)]] (by kernel_rfl) ⟨
  fun w e=>(v_fa J5 O).ob,
  fun w e=>(v_ld P2 O (k10.ext e) O).ob,
  fun w e=>(v_mv O).ob,
  fun w e=>(v_fa J5 O).ob,
  fun w e=>(v_ld P2 O (k10.ext e) O).ob,
  fun w e=>(v_mv O).ob,
  fun w e=>D5 (i:=k) M4 Q8 O (hR.ext e) O hg,
  fun w e x6 hx6=>AP1 Z9 O hx6 (by decide),
  fun w e x7 hx7=>N0 O3 O hx7,
  fun w e=>(v_mv O).ob,
  fun w e=>((Q6 un_u16 AO4 O).eq (by rw [wI (by omega)])).ob,
  fun w e=>((Ak4 O O).eq (by rw [wI (by omega)])).ob,
  fun w e=>((v_min O O).eq (by rw [hc'])).ob,trivial⟩ ?_
 intro W2 e2 y6 hy6 y7 hy7
 have hB:=hB.ext e2
 have k10:=k10.ext e2
 refine .ixB (i:=k) M4 Q8 O (by show some u=_;rw [hug]) O hkl (.fa Z9 O O (.store (v:=.int .i64 c') O3 O O hB O ?_ (fun z hz=>by simp [Value.cells] at hz;subst hz;rfl) fun W3 hB3 u3=>?_))
 ·rw [List.size_toArray,List.length_append,T7]
  show 0+k*4+3+1<=_
  omega
 have hB3:Blk W3 g 53 (wrt (flL n.ls++rest).toArray (k*4+3) [.int .i64 c']):=by
  have:0+k*4+3=k*4+3:=by omega
  rw [<-this];exact hB3
 rw [wrt_fl (y':=limL y' c') (by decide) O hg] at hB3
 have hok0:∀ z∈n.ls,okL z:=by
  obtain ⟨es,_,he⟩:=hu
  exact (Ar5 he).2
 have hok:∀ z∈n.ls.set k (limL y' c'),okL z:=by
  intro z hz
  rcases List.mem_or_eq_of_mem_set hz with h | h
  ·exact hok0 z h
  ·have:=hok0 y' (List.mem_of_getElem? hg)
   rw [h]
   exact ⟨this.1,this.2.1,this.2.2.1,E0.2 (by show _<=c'/\c'<=_;omega)⟩
 have hO3:=put _ W3 (by rw [List.length_set]) hok hB3
 have hgb:g≠b10:=fun h=>by
  subst h
  have h1:W2.heap[g]?=some (.cells _ _ (0,0)):=hB
  have h2:W2.heap[g]?=some (.cells _ _ (0,0)):=k10
  have h3:=Option.some.inj (h1.symm.trans h2)
  injection h3 with _ h4
  exact absurd h4 (by decide)
 have kW:=k10.upd u3 hgb.symm
 have hB3':Ext w5 W3:=u3.below (hB7.trans e2) hbg
 have x8:=x5.trans hB3'
 have k3:=k3.ext hB3'
 have hR3:eLs.R (fun _=>True) W3 u (n.ls.set k (limL y' c')):=hO3.toR (fun _ _=>trivial) (fun _ h=>h.elim)
 have hm:eN.R (fun _=>True) W3 (.agg #[.int .i64 n.b,u]) (limN n k c'):=⟨u,rfl,by rw [hlim];exact hR3,hb⟩
 have hg3:(n.ls.set k (limL y' c'))[k]?=some (limL y' c'):=by rw [List.getElem?_set,if_pos rfl,if_pos hkl]
 obtain ⟨r,hr⟩:∃ r,r=c'-y'.c:=⟨_,rfl⟩
 have hr0:0<=r:=by omega
 have hr1:r<=1000000:=by omega
 have hscr:=hscr c' r hr0 (by omega)
 refine .goC O ?_
 refine .par follows 12 [.inl (.pointer (some ⟨b10,0+1,none⟩)),.inl u,.inl (.int .i64 (k:Nat)),.inr (Ptr eL (fun _=>True) (limL y' c')),.inr (Ptr (eInt .i64) (fun _=>True) c'),.inl (.int .i64 c'),.inl (.pointer (some ⟨b3,0+1,none⟩)),.inl s,.inl (.int .i64 (k:Nat)),.inr (Ptr eL (fun _=>True) y'),.inr (Ptr (eInt .i64) (fun _=>True) y'.c),.inl (.int .i64 y'.c)] [[],[(74,0)],[],[(75,1),(76,2)],[(77,3)],[(78,4)],[],[(80,6)],[],[(81,7),(82,8)],[(83,9)],[(84,10)]] (by kernel_rfl) ⟨
  fun w e=>(v_fa J5 O).ob,
  fun w e=>(v_ld P2 O (kW.ext e) O).ob,
  fun w e=>(v_mv O).ob,
  fun w e=>D5 (i:=k) M4 Q8 O (hR3.ext e) O hg3,
  fun w e x3 hx3=>AP1 Z9 O hx3 (by decide),
  fun w e x4 hx4=>N0 O3 O hx4,
  fun w e=>(v_fa J5 O).ob,
  fun w e=>(v_ld P2 O (k3.ext e) O).ob,
  fun w e=>(v_mv O).ob,
  fun w e=>D5 (i:=k) M4 Q8 O ((hs.ext x8).ext e) O hg,
  fun w e x9 hx9=>AP1 Z9 O hx9 (by decide),
  fun w e x10 hx10=>N0 O3 O hx10,trivial⟩ ?_
 intro W4 d4 y3 hy3 y4 hy4 y9 hy9 y10 hy10
 refine .go O (.sub O O O ?_)
 rw [show IntKind.i64.wrap (c'-y'.c)=r by rw [wI (by omega),hr]]
 have x4:=x8.trans d4
 have k3:=k3.ext d4
 have kW:=kW.ext d4
 have hm:=hm.ext d4
 refine .go O (.ldA ty_N O O k3 O (.go O ?_))
 refine .call _ O AS8 O (AS2 (hn.ext x4) (ho.ext x4) (ER.ext eV hx x4) hk) fun v5 w5 e5 h5=>?_
 obtain ⟨vl,vi,rfl,hl,hi⟩:=h5
 have x5:=x4.trans e5
 have k3:=k3.ext e5
 refine .go O (.ldA ty_N O O (kW.ext e5) O (.go O ?_))
 refine .call _ O AS8 O (AS2 (hm.ext e5) (ho.ext x5) (ER.ext eV hx x5) hk) fun v6 w6 e6 h6=>?_
 obtain ⟨vl2,vi2,rfl,hl2,hi2⟩:=h6
 rw [Ax1 hkl hc0 hc1 hO,limN_bl hkl] at hl2
 rw [Ax1 hkl hc0 hc1 hO]
 have x6:=x5.trans e6
 by_cases hS:sfE n o x.length=0
 rotate_left
 ·rw [decide_eq_false hS]
  exact .goE O (.plain [_] Tryz.results6 ⟨rfl,trivial⟩ ⟨x6,rfl⟩)
 rw [decide_eq_true hS]
 rw [if_pos hS] at hl hi
 obtain ⟨hO,hxb⟩:=AO7 hS
 have ok:=I0 hO
 have hM10:n.ls.length<=10:=ok.m
 have hnb:=ok.b
 have hki:vk 40 (blX n o x):=bl_vk ok hk
 have han:anE n o (blX n o x)=0:=bl_an hO (x:=x)
 have hpw:(inL n o).Pairwise (·<·):=BC3 _ _
 have hK:∀ y∈scr n o (rv (blX n o x)),FdK y:=fun y hy=>BG8 hO hki (by decide) (by decide) hy
 have hlt:=scr_lt (x:=rv (blX n o x)) hpw
 rw [if_pos hS,hscr] at hl2
 have hl:=ER.ext eFds hl e6
 have hK2:∀ y∈(scr n o (rv (blX n o x))).filterMap (limF (k:Int) r),FdK y:=fun y hy=>by
  rw [<-hscr] at hy
  exact BG8 (Am2 hkl hc0 hc1 hO) hki (by decide) (by decide) hy
 generalize scr n o (rv (blX n o x))=l at hl hK hlt hl2 hK2
 obtain ⟨l2,hl2d⟩:∃ l2,l2=l.filterMap (limF (k:Int) r):=⟨_,rfl⟩
 have hfl:∀ y∈l,fnd l2 y.lost y.line=limF (k:Int) r y:=fun y hy=>by rw [hl2d];exact fnd_lim hlt hy
 have htk2:((l.take l.length).filterMap (limF (k:Int) r)).length=l2.length:=by rw [List.take_of_length_le (Nat.le_refl _),hl2d]
 rw [<-hl2d] at hl2 hK2
 obtain ⟨_,_,_,_,hll⟩:=RL.len hl
 obtain ⟨_,_,_,_,hll2⟩:=RL.len hl2
 refine .goC O ?_
 refine .lp (α:=Nat×Nat) [3,12,13,17] O (fun y=>[(21,.int .i64 (y.2:Nat)),(22,.int .i64 (y.1:Nat))]) (fun y W=>Ext w6 W/\y.1<=l.length/\y.2=((l.take y.1).filterMap (limF (k:Int) r)).length/\y.2<=y.1) (fun y=>l.length-y.1) (0,0) (lc2 O O) ⟨Ext.refl _,Nat.zero_le _,rfl,Nat.le_refl _⟩ ?_
 rintro ⟨i,q⟩ W ⟨hW,hi,hq,hqi⟩
 replace hW:Ext w6 W:=hW
 replace hi:i<=l.length:=hi
 replace hq:q=((l.take i).filterMap (limF (k:Int) r)).length:=hq
 replace hqi:q<=i:=hqi
 have hlW:=ER.ext eFds hl hW
 have hl2W:=ER.ext eFds hl2 hW
 refine .go O (.lenR I9 O O hlW ?_)
 rcases Nat.lt_or_ge i l.length with hil | hge
 rotate_left
 ·have:i=l.length:=by omega
  subst this
  refine .lssF O O O (by omega) (.go O (.lenR I9 O O hl2W (.go O (.eqlT O O O (by rw [hq,htk2]) (.goE O (.plain [_] Tryz.results6 ⟨rfl,trivial⟩ ⟨x6.trans hW,rfl⟩))))))
 have hg:l[i]?=some (l.getD i fd0):=A4 hil
 have hyl:=List.mem_of_getElem? hg
 have hyK:=hK _ hyl
 have hf:=hfl _ hyl
 have htk:l.take (i+1)=l.take i++[l.getD i fd0]:=by rw [List.take_add_one,hg];rfl
 have hzl:∀ z,limF (k:Int) r (l.getD i fd0)=some z->z∈l2:=fun z hz=>by rw [hl2d];exact List.mem_filterMap.2 ⟨_,hyl,hz⟩
 generalize l.getD i fd0=y at hg hyl hyK hf htk hzl
 have hq':((l.take (i+1)).filterMap (limF (k:Int) r)).length=q+if (limF (k:Int) r y).isSome then 1 else 0:=by
  rw [htk,List.filterMap_append,List.length_append,<-hq]
  congr 1
  cases h:limF (k:Int) r y<;>simp [h]
 obtain ⟨zo,hzo⟩:∃ zo,zo=limF (k:Int) r y:=⟨_,rfl⟩
 rw [<-hzo] at hf hq' hzl
 obtain ⟨cb,hcb⟩:∃ cb,cb=zo.isSome:=⟨_,rfl⟩
 have hl2L:=ER.lt eFds hl2W
 refine .lssT O O O (by omega) (.goC O ?_)
 refine .parL follows 16 [14] [.inl vl2,.inl _,.inl _,.inr (Ptr eFd (fun _=>True) y),.inr (Ptr (eInt .i64) (fun _=>True) y.lost),.inl (.int .i64 y.lost),.inl _,.inl _,.inr (Ptr eFd (fun _=>True) y),.inr (Ptr (eInt .i64) (fun _=>True) y.line),.inl (.int .i64 y.line),.inr (Two (eFd.at (fun k=>True/\k<W.heap.size) (zo.getD fd0)) (Is (.bool cb))),.inr (Two (eFd.at (fun k=>True/\k<W.heap.size) (zo.getD fd0)) (Is (.bool cb))),.inr (eFd.at (fun k=>True/\k<W.heap.size) (zo.getD fd0)),.inl (.bool cb),.inr (NewP W.heap.size 41 zFd.cells)] [[],[],[],[(127,1),(128,2)],[(129,3)],[(130,4)],[],[],[(132,6),(133,7)],[(134,8)],[(135,9)],[(126,0),(131,5),(136,10)],[(137,11)],[(125,12)],[(125,12)],[]] (by kernel_rfl) ⟨
  fun w e=>(v_mv O).ob,
  fun w e=>(v_mv O).ob,
  fun w e=>(v_mv O).ob,
  fun w e=>D5 (i:=i) I9 E9 O (ER.ext eFds hlW e) O hg,
  fun w e x3 hx3=>ob_fd0 AL7 O hx3,
  fun w e x4 hx4=>N0 A8 O hx4,
  fun w e=>(v_mv O).ob,
  fun w e=>(v_mv O).ob,
  fun w e=>D5 (i:=i) I9 E9 O (ER.ext eFds hlW e) O hg,
  fun w e x8 hx8=>ob_fd1 AA0 O hx8,
  fun w e x9 hx9=>N0 A8 O hx9,
  fun w e=>(by have:=Af9 (lost:=y.lost) (line:=y.line) (ER.ext eFds hl2L e);rw [hf,<-hcb] at this;exact (A5 _ Ai4 O this).ob (Z4 (A9 _ _ _) (AR1 _))),
  fun w e x11 hx11=>L7 (v_mv O) hx11 (Z4 (A9 _ _ _) (AR1 _)),
  fun w e x12 hx12=>by
   obtain ⟨p1,q1,rfl,hp1,hq1⟩:=hx12
   exact L7 (v_ex O O) hp1 (A9 _ _ _),
  fun w e x12 hx12=>by
   obtain ⟨p1,q1,rfl,hp1,hq1⟩:=hx12
   exact ((v_ex O O).eq hq1).ob,
  fun w e=>R4 AD9 e.size,trivial⟩ ?_
 intro W3 d3 y3 hy3 y4 hy4 y8 hy8 y9 hy9 y11 hy11 y12 hy12 y13 hy13 y15 hy15
 obtain ⟨b23,rfl,hb23,k23⟩:=hy15
 have hy13':=hy13
 obtain ⟨f1,f2,f3,f4,rfl,g1,g2,f5,f6,f7,f8⟩:=hy13'
 refine .storeA (E:=eFd) E9 O O k23 O O hy13 (fun h=>by have:=h.2;omega) fun W4 k23 u23 hz4=>?_
 have D4:Ext W W4:=u23.below d3 hb23
 have hlW4:=ER.ext eFds (ER.lt eFds hlW) D4
 have z4:=D4.size
 refine .go O (.ixN (i:=i) I9 E9 O O hlW4 O hg fun p hp=>.ldE (E:=eFd) E9 O O hp fun e he=>.alloc O AD9 fun W5 c n5=>?_)
 obtain ⟨d5,kc,hc,hs5⟩:=n5
 have he:=ER.ext eFd he d5
 obtain ⟨a,b,c',d,rfl,h1,h2,q1,q2,q3,q4⟩:=he
 refine .storeA (E:=eFd) (z:=y) E9 O O kc O O ⟨a,b,c',d,rfl,h1,h2,q1,q2,q3,q4⟩ (fun h=>by have:=h.2;omega) fun W6 kc u6 he6=>?_
 have D6:Ext W4 W6:=u6.below d5 (by omega)
 obtain ⟨_,_,_,_,hz6,_,_,r1,r2,r3,r4⟩:=he6
 cases hz6
 have hb23z:=k23.lt
 have hb23c:b23≠c:=by omega
 have k23:=k23.ext D6
 have hcz:c<W6.heap.size:=kc.lt
 have D06:=D4.trans D6
 have hWc:W.heap.size<=c:=by omega
 refine .go O (.fa AA0 O O (.ld A8 O O kc O (.go O ?_)))
 by_cases hyk:y.line=(k:Int)
 rotate_left
 ·have hzy:zo=some y:=by rw [hzo];unfold limF;rw [if_neg hyk]
  subst hzy
  replace hcb:cb=true:=hcb
  subst hcb
  have hzR:=ER.ext eFd (show eFd.R _ W4 _ y from hz4) D6
  refine .eqlF O O O hyk (.go O ?_)
  refine .ldA E9 O O k23 O (.go O (.ldA E9 O O kc O (.go O ?_)))
  refine .call _ O AN2 O (AK5 (eFd.mono (fun _ _ _=>trivial) hzR) (eFd.mono (fun _ _ _=>trivial) (fd_mk h1 h2 r1 r2 r3 r4)) hyK hyK O O O O) fun v9 W9 d9 h9=>?_
  subst h9
  exact .go O (.inc O O O (by omega) (.go O (.inc O O O (by omega) (.goN O (.mk (i+1,q+1) O (lc2 O O) ⟨⟨hW.trans (D06.trans d9),hil,hq'.symm,by show q+1<=i+1;omega⟩,by show l.length-(i+1)<l.length-i;omega⟩)))))
 refine .eqlT O O O hyk (.goC O ?_)
 have hov:eQ.R (fun j=>j≠c) W6 (.agg #[.bool y.over.num.neg,c',.bool y.over.den.neg,d]) y.over:=⟨_,_,rfl,eW.mono (fun j _ h=>by have:=h.2;omega) r3,eW.mono (fun j _ h=>by have:=h.2;omega) r4⟩
 refine .par follows 4 [.inl (.pointer (some ⟨c,6,none⟩)),.inr (eQ.at (fun j=>j≠c) y.over),.inl (.int .i64 r),.inr (eQ.at (fun j=>j≠c) (qc (r:Rat)))] [[],[(148,0)],[],[(150,2)]] (by kernel_rfl) ⟨
  fun w e=>(v_fa T6 O).ob,
  fun w e=>L7 (AB2 (E:=eQ) ty_Q O (O6 (kc.ext e)).2 (ER.ext eQ hov e)) (ER.ext eQ hov e) (A9 _ _ _),
  fun w e=>(v_mv O).ob,
  fun w e=>(A5 _ G1 O (G0 (fun j hj=>by have:=e.size;show j≠c;omega) (by omega) (by omega))).ob (A9 _ _ _),trivial⟩ ?_
 intro W6' d6' y1 hy1 y3 hy3
 refine .call _ O AI4 O (AH9 (S:=fun j=>j≠c) (L:=3000000) (fun j hj=>by have:=d6'.size;show j≠c;omega) hy1 hy3 hyK.2.1 (R0 ((Rsz.int (L:=3) r (by omega) (by decide)).mono (by decide))).1 (by decide) (by decide)) fun v7 W7 d7' hov7=>?_
 have d7:=d6'.trans d7'
 rw [B9] at hov7
 have h4o:=eQ.one hov7
 obtain ⟨s1,t1,rfl,g1',g2'⟩:=hov7
 refine .go O (.fa T6 O O (.go O (.store ty_Q O O (kc.ext d7) O (by simp [Value.cells]) h4o fun W8 kc8 u8=>?_)))
 replace kc8:Blk W8 c 41 #[.int .i64 y.lost,.int .i64 y.line,.bool y.flow.num.neg,a,.bool y.flow.den.neg,b,.bool (qc (qval y.over-(r:Rat))).num.neg,s1,.bool (qc (qval y.over-(r:Rat))).den.neg,t1]:=kc8
 have D8:Ext W4 W8:=u8.below (D6.trans d7) (by omega)
 have k23:=(k23.ext d7).upd u8 hb23c
 have kp:∀ {v:Value} {m:List Nat},eW.R (fun j=>j≠c) W7 v m->eW.R (fun _=>True) W8 v m:=fun h=>eW.mono (fun _ _ _=>trivial) (eW.keep (Kp.upd u8 fun h=>h O) h)
 have kp6:∀ {v:Value} {m:List Nat},eW.R (fun k=>True/\k<W.heap.size) W6 v m->eW.R (fun _=>True) W8 v m:=fun h=>kp (eW.mono (fun j _ h=>by have:=h.2;omega) (ER.ext eW h d7))
 have hw8:eFd.R (fun _=>True) W8 (.agg #[.int .i64 y.lost,.int .i64 y.line,.bool y.flow.num.neg,a,.bool y.flow.den.neg,b,.bool (qc (qval y.over-(r:Rat))).num.neg,s1,.bool (qc (qval y.over-(r:Rat))).den.neg,t1]) ⟨y.lost,y.line,y.flow,qc (qval y.over-(r:Rat))⟩:=fd_mk (y:=⟨y.lost,y.line,y.flow,qc (qval y.over-(r:Rat))⟩) h1 h2 (kp6 r1) (kp6 r2) (kp g1') (kp g2')
 have hD08:=D4.trans D8
 refine .go O (.fa T6 O O (.go O (.ldX (E:=eQ) ty_Q O O (O6 kc8).2 (⟨_,_,rfl,kp g1',kp g2'⟩:eQ.R (fun _=>True) W8 _ (qc (qval y.over-(r:Rat)))) (.go O ?_))))
 refine .call _ O M1 O (L9 ⟨_,_,rfl,kp g1',kp g2'⟩) fun v9 W9 d9 h9=>?_
 replace h9:v9=.int .i64 (sgnR (qval (qc (qval y.over-(r:Rat))))):=h9
 subst h9
 rw [B9]
 have kc9:=kc8.ext d9
 have k23:=k23.ext d9
 refine .go O ?_
 by_cases hp:0<qval y.over-(r:Rat)
 rotate_left
 ·have hzn:zo=none:=by rw [hzo];unfold limF;rw [if_pos hyk,if_neg hp]
  subst hzn
  replace hcb:cb=false:=hcb
  subst hcb
  exact .gtrF O O O (fun h=>hp (AJ6.1 h)) (.go O (.neqB S7 O O O (.go O (.inc O O O (by omega) (.goN O (.mk (i+1,q) O (lc2 O O) ⟨⟨hW.trans (hD08.trans d9),hil,hq'.symm,by show q<=i+1;omega⟩,by show l.length-(i+1)<l.length-i;omega⟩))))))
 have hzs:zo=some ⟨y.lost,y.line,y.flow,qc (qval y.over-(r:Rat))⟩:=by rw [hzo];unfold limF;rw [if_pos hyk,if_pos hp]
 subst hzs
 replace hcb:cb=true:=hcb
 subst hcb
 have hzK:=hK2 _ (hzl _ O)
 have hzR:=eFd.mono (S':=fun _=>True) (fun _ _ _=>trivial) (ER.ext eFd (show eFd.R _ W4 _ (⟨y.lost,y.line,y.flow,qc (qval y.over-(r:Rat))⟩:FdV) from hz4) (D8.trans d9))
 refine .gtrT O O O (AJ6.2 hp) (.go O (.neqB S7 O O O (.go O (.ldA E9 O O k23 O (.go O (.ldA E9 O O kc9 O (.go O ?_)))))))
 refine .call _ O AN2 O (AK5 hzR (ER.ext eFd hw8 d9) hzK hzK O O O O) fun v10 W10 d10 h10=>?_
 subst h10
 exact .go O (.inc O O O (by omega) (.go O (.inc O O O (by omega) (.goN O (.mk (i+1,q+1) O (lc2 O O) ⟨⟨hW.trans ((hD08.trans d9).trans d10),hil,hq'.symm,by show q+1<=i+1;omega⟩,by show l.length-(i+1)<l.length-i;omega⟩)))))
end Go.Proofs.YtpgkacdihhjknaaGreat
namespace Go.Kx
open Go Go.RowKit Go.ChangeShapes Go.WideShapes
section
variable {H:Type} {enc:TypeId×Value->H} {P:Program} {W:World}
def sh4 (P:Program) (t:TypeId):Option (List (TypeId×Nat)) :=
 match P.underlying t with
 | some (.struct fs)=>if fs.size=4 then some (fs.toList.map fun f=>(f.type,f.offset)) else none
 | _=>none
theorem BI7 {t ti tj:TypeId} (hs:sh4 P t=some [(ti,0),(ti,1),(tj,2),(tj,3)]) (hi:P.underlying ti=some (.int .i64)) (hj:P.underlying tj=some (.int .i64)) (hci:P.cellsOf ti=1) (hcj:P.cellsOf tj=1) (hct:P.cellsOf t=4):Opn enc P W eL t (fun _ _=>True):=by
 intro fuel cs x hx hfz
 unfold sh4 at hs
 split at hs
 ·rename_i fs hu
  split at hs
  ·rename_i hsz
   simp only [Option.some.injEq] at hs
   obtain ⟨l⟩:=fs
   match l,hsz with
   | [f0,f1,f2,f3],_ =>
    simp only [List.map_cons,List.map_nil,List.cons.injEq,Prod.mk.injEq,and_true] at hs
    obtain ⟨⟨h0,o0⟩,⟨h1,o1⟩,⟨h2,o2⟩,h3,o3⟩:=hs
    obtain ⟨y0,y1,y2,y3,n,rfl,hl,g0,g1,g2,g3⟩:=Joins.trod_struct4 hu hx
    rw [h0,o0,hci] at g0
    rw [h1,o1,hci] at g1
    rw [h2,o2,hcj] at g2
    rw [h3,o3,hcj] at g3
    rw [hct] at hl
    obtain ⟨c0,c1,c2,c3,rfl⟩:∃ c0 c1 c2 c3,cs=[c0,c1,c2,c3]:=by
     match cs,hl with
     | [c0,c1,c2,c3],_=>exact ⟨c0,c1,c2,c3,rfl⟩
    obtain ⟨n0,e0,_,w0⟩:=DataW.trod_int hi g0
    obtain ⟨n1,e1,_,w1⟩:=DataW.trod_int hi g1
    obtain ⟨n2,e2,_,w2⟩:=DataW.trod_int hj g2
    obtain ⟨n3,e3,_,w3⟩:=DataW.trod_int hj g3
    simp at e0 e1 e2 e3
    subst e0 e1 e2 e3
    exact ⟨.agg #[.int .i64 n0,.int .i64 n1,.int .i64 n2,.int .i64 n3],⟨n0,n1,n2,n3⟩,rfl,⟨rfl,AR0 w0,AR0 w1,AR0 w2,AR0 w3⟩,trivial⟩
  ·cases hs
 ·cases hs
theorem opn_N {t ti tl te:TypeId} (hs:sh2 P t=some ((ti,0),(tl,1))) (hi:P.underlying ti=some (.int .i64)) (hci:P.cellsOf ti=1) (hcl:P.cellsOf tl=1) (hct:P.cellsOf t=2) (hl:P.underlying tl=some (.slice te)) (hce:P.cellsOf te=4) (he:Opn enc P W eL te (fun _ _=>True)):Opn enc P W eN t (fun _ _=>True):=by
 intro fuel cs x hx hfz
 obtain ⟨y0,y1,n,rfl,hlen,h0,h1⟩:=AW6 hs hx
 rw [hci] at h0
 rw [hcl] at h1
 rw [hct] at hlen
 obtain ⟨c0,c1,rfl⟩:∃ c0 c1,cs=[c0,c1]:=by
  match cs,hlen with
  | [c0,c1],_=>exact ⟨c0,c1,rfl⟩
 obtain ⟨b,hb',_,hw⟩:=DataW.trod_int hi h0
 simp at hb'
 subst hb'
 obtain ⟨e,l,he',hR,_⟩:=(Opn.slice (Z:=fun _ _=>True) (E:=eL) (by decide) hl hce he) n _ _ h1 hfz.right
 obtain ⟨a,c,rfl,_⟩:=RL.len hR
 simp [Value.cells] at he'
 subst he'
 exact ⟨.agg #[.int .i64 b,.slice a l.length c],⟨b,l⟩,rfl,⟨_,rfl,hR,AR0 hw⟩,trivial⟩
end
end Go.Kx
namespace Go.Proofs.YtpgkacdihhjknaaGreat
open Go Go.Kx Go.RowKit
section
variable {H:Type} {enc:TypeId×Value->H} {W:World}
theorem opnN:Opn enc Tryz.prog W eN 24 (fun _ _=>True):=opn_N (ti:=3) (tl:=22) (te:=53) (by kernel_rfl) Q7 (by kernel_rfl) (by kernel_rfl) (by kernel_rfl) M4 (by kernel_rfl) (BI7 (ti:=3) (tj:=2) (by kernel_rfl) Q7 AO4 (by kernel_rfl) (by kernel_rfl) (by kernel_rfl))
theorem opnH:Opn enc Tryz.prog W eI 25 (ZL fun _ _=>True):=Opn.slice (by decide) un_I (by kernel_rfl) (opn_int Q7)
end
end Go.Proofs.YtpgkacdihhjknaaGreat
