/-
  What the claim leans on.
-/
import Derived.Test.YtggegpiffjbngaaGreatG1
set_option linter.unusedVariables false
namespace Go.Proofs.YtggegpiffjbngaaGreat
open Go Go.Kx Go.RowKit
theorem C0:Ent Tryz.prog 171:=A0 Tryz.func171 (by kernel_rfl) rfl
theorem B9 {S:Nat->Prop} {w:World} {v:Value} {l:List Nat} (h:eW.R S w v l):CR Tryz.prog 171 #[v] w (eW.at S (trimL l)):=by
 refine enter Tryz.func171 O Tryz.ntmps171 O ?_
 refine .seq ?_
 refine .region ?_  -- region 0
 refine .asg O O ?_
 refine .nil ?_
 refine .seq ?_
 refine .block ?_  -- block 0
 refine .loop (α:=Value×List Nat) (fun x=>[(0,x.1)]) (fun x w'=>w'=w/\eW.R S w x.1 x.2/\trimL x.2=trimL l) (fun x=>x.2.length) (v,l) ?_ ?_ ?_
 ·exact lkA rfl
 ·exact ⟨rfl,h,rfl⟩
 ·rintro ⟨u,r⟩ w' ⟨rfl,hu,hr⟩
  replace hu:eW.R S w' u r:=hu
  replace hr:trimL r=trimL l:=hr
  have hlen:=AJ2 hu
  refine .seq ?_
  refine .seq ?_
  refine .region ?_  -- region 1
  rcases List.eq_nil_or_concat r with rfl | ⟨r',x,rfl⟩
  ·refine .mv O O (.lenR un_W O O hu (.gtrF O O O (by simp) (.mv O O ?_)))
   refine .gs O O O O O (.gs O O O O O (.gs O O O O O (.gs O O O O O (.gs O O O O O (.gs O O O O O (.gs O O O O O ?_))))))
   refine .pick O O O (.nil ?_)
   refine .condF O (.exit ?_)
   refine .sr ?_
   refine .mv O O (.an O O ?_)
   refine .ret ?_
   exact .plain [u] Tryz.results171 ⟨rfl,trivial⟩ ⟨.refl _,hr▸hu⟩
  ·have hl:(r'++[x]).length=r'.length+1:=by simp
   rw [List.concat_eq_append] at *
   rw [hl] at hlen
   have h1:IntKind.i64.wrap (((r'++[x]).length:Nat)-1:Int)=(r'.length:Int):=by rw [wI (by omega)];omega
   refine .mv O O (.lenR un_W O O hu (.gtrT O O O (by omega) (.mv O O ?_)))
   refine .gr O O O O (.mv O O (.gr O O O O (.mv O O (.gr O O O O (.lenR un_W O O hu (.gr O O O O (.sub O O O (.gr O O O O ?_))))))))
   refine .ix un_W A3 O O hu O (by omega) (y:=x) (by rw [h1];simp) fun p hp=>?_
   refine .gr O O O O ?_
   refine .ldE A3 O O hp fun e he=>?_
   obtain ⟨rfl,hx⟩:=he
   refine .gr O O O O ?_
   by_cases h0:x=0
   ·refine .eqlT O O O (by omega) (.pick O O O (.nil ?_))
    refine .condT O (.skip (.block (.region ?_)))
    refine .mv O O (.mv O O (.lenR un_W O O hu (.sub O O O ?_)))
    refine .cut 0 r'.length un_W A3 O O hu O ⟨_,by rw [<-h1];rfl⟩ (by omega) (by omega) fun v2 hv2=>?_
    refine .an O O ?_
    refine ⟨rfl,(v2,r'),lkA rfl,⟨rfl,by simpa using hv2,?_⟩,by simp⟩
    rw [<-hr,h0,AD8]
   ·refine .eqlF O O O (by omega) (.pick O O O (.nil ?_))
    refine .condF O (.exit ?_)
    refine .sr ?_
    refine .mv O O (.an O O ?_)
    refine .ret ?_
    exact .plain [u] Tryz.results171 ⟨rfl,trivial⟩ ⟨.refl _,by rw [<-hr,AJ6 _ _ h0];exact hu⟩
theorem F8:Ent Tryz.prog 176:=A0 Tryz.func176 (by kernel_rfl) rfl
theorem F5 {S:Nat->Prop} {w:World} {v:Value} {l:List Nat} {neg:Bool} (up:Up S w) (h:eW.R S w v l):CR Tryz.prog 176 #[.bool neg,v] w (eZ.at S (zc (sg neg (val l)))):=by
 have hd:dig l:=E1 h
 refine enter Tryz.func176 O Tryz.ntmps176 O ?_
 refine .sr ?_  -- region 0
 refine .alloc O B8 fun w1 b1 n1=>.nil ?_
 obtain ⟨e1,k1,hb1,hs1⟩:=n1
 have h1:=(h.par w1.heap.size).ext e1
 refine .sr ?_  -- region 1
 refine .mv O O ?_
 refine .call _ O C0 O (B9 h1) fun v2 w2 e2 h2=>.an O O ?_
 have k2:=k1.ext e2
 have hx:Ext w w2:=e1.trans e2
 have hS:¬ Sx S w.heap.size w1.heap.size b1:=Sx.no (by omega) (by omega)
 refine .seq (.sr ?_)  -- region 2
 by_cases h0:trimL l=[]
 ·rw [h0] at h2
  refine .mv O O (.lenR un_W O O h2 (.eqlT O O O O (.nil (.condT O (.sr ?_)))))
  have hz:eZ.R (Sx S w.heap.size w1.heap.size) w2 (.agg #[.bool false,.slice none 0 0]) ⟨false,[]⟩:=⟨_,rfl,RL.nil⟩
  refine .bld _ O O As9 ?_
  refine .storeA ty_Z O O k2 O O hz hS fun w3 k3 u3 h3=>.nil (.ret ?_)
  refine .cell Tryz.results176 O ty_Z O O k3 h3 ⟨u3.below hx (by omega),?_⟩
  rw [(V8 hd).1 h0,AI9]
  exact h3.out
 ·refine .mv O O (.lenR un_W O O h2 (.eqlF O O O (by simpa using h0) (.nil (.condF O (.skip (.sr ?_))))))
  have hz:eZ.R (Sx S w.heap.size w1.heap.size) w2 (.agg #[.bool neg,v2]) ⟨neg,trimL l⟩:=⟨_,rfl,h2⟩
  obtain ⟨a,c,rfl,_⟩:=RL.len h2
  refine .mv O O (.mv O O (.bld _ O O AR6 ?_))
  refine .storeA ty_Z O O k2 O O hz hS fun w3 k3 u3 h3=>.nil (.ret ?_)
  refine .cell Tryz.results176 O ty_Z O O k3 h3 ⟨u3.below hx (by omega),?_⟩
  rw [Au2 neg (fun h=>h0 ((V8 hd).2 h)),<-E9 hd]
  exact h3.out
theorem I7:Ent Tryz.prog 170:=A0 Tryz.func170 (by kernel_rfl) rfl
theorem I6 {S:Nat->Prop} {w:World} {n:Nat} {neg:Bool} (up:Up S w) (hn:n<18446744073709551616):CR Tryz.prog 170 #[.bool neg,.int .u64 n] w (eZ.at S (zc (sg neg n))):=by
 refine enter Tryz.func170 O Tryz.ntmps170 O ?_
 refine .sr ?_  -- region 0
 refine .alloc O B8 fun w1 b1 n1=>.nil ?_
 obtain ⟨e1,k1,hb1,hs1⟩:=n1
 have hS:¬ Sx S w.heap.size w1.heap.size b1:=Sx.no (by omega) (by omega)
 refine .seq (.block (.sr ?_))  -- region 1
 by_cases h0:n=0
 ·subst h0
  refine .mv O O (.eqlT O O O O (.an O O (.condT O (.sr ?_))))
  have hz:eZ.R (Sx S w.heap.size w1.heap.size) w1 (.agg #[.bool false,.slice none 0 0]) ⟨false,[]⟩:=⟨_,rfl,RL.nil⟩
  refine .bld _ O O As9 ?_
  refine .storeA ty_Z O O k1 O O hz hS fun w3 k3 u3 h3=>.nil (.ret ?_)
  refine .cell Tryz.results170 O ty_Z O O k3 h3 ⟨u3.below e1 (by omega),?_⟩
  rw [AI9]
  exact h3.out
 ·refine .mv O O (.eqlF O O O (by omega) (.an O O (.condF O (.sr ?_))))
  by_cases h1:n<4294967296
  ·refine .mv O O (.shr O O O (by decide) (.eqlT O O O (by rw [fdiv32];omega) (.an O O (.condT O (.sr ?_)))))
   refine .mv O O (.mv O O (.cvt C2 C1 O O ?_))
   refine .bsl _ O O AC7 fun w2 b2 n2=>?_
   obtain ⟨e2,k2,hb2,hs2⟩:=n2
   have hw:eW.R (Sx S w.heap.size w1.heap.size) w2 (.slice (some ⟨b2,0,none⟩) 1 1) [n] :=
    AZ5 (l:=[n]) (t:=91) (by rw [I0,Nat.mod_eq_of_lt h1] at k2;exact k2) ⟨up _ (by omega),.inr (by omega)⟩ (by simp [dig,h1]) (Nat.le_refl 1) (by simp)
   have hz:eZ.R (Sx S w.heap.size w1.heap.size) w2 (.agg #[.bool neg,.slice (some ⟨b2,0,none⟩) 1 1]) ⟨neg,[n]⟩:=⟨_,rfl,hw⟩
   refine .bld _ O O AR6 ?_
   refine .storeA ty_Z O O (k1.ext e2) O O hz hS fun w3 k3 u3 h3=>.nil (.ret ?_)
   refine .cell Tryz.results170 O ty_Z O O k3 h3 ⟨u3.below (e1.trans e2) (by omega),?_⟩
   rw [Au2 neg h0,AQ0 h1 h0]
   exact h3.out
  ·refine .mv O O (.shr O O O (by decide) (.eqlF O O O (by rw [fdiv32];omega) (.an O O (.condF O (.skip (.sr ?_))))))
   refine .mv O O (.mv O O (.cvt C2 C1 O O (.mv O O (.shr O O O (by decide) (.cvt C2 C1 O O ?_)))))
   refine .bsl _ O O BI5 fun w2 b2 n2=>?_
   obtain ⟨e2,k2,hb2,hs2⟩:=n2
   have hw:eW.R (Sx S w.heap.size w1.heap.size) w2 (.slice (some ⟨b2,0,none⟩) 2 2) [n % 4294967296,n / 4294967296] :=
    AZ5 (l:=[n % 4294967296,n / 4294967296]) (t:=91) (by rw [fdiv32,I0,I0,Nat.mod_eq_of_lt (show n / 4294967296<4294967296 by omega)] at k2;exact k2) ⟨up _ (by omega),.inr (by omega)⟩
     (by simp [dig];omega) (Nat.le_refl 2) (by simp)
   have hz:eZ.R (Sx S w.heap.size w1.heap.size) w2 (.agg #[.bool neg,.slice (some ⟨b2,0,none⟩) 2 2]) ⟨neg,[n % 4294967296,n / 4294967296]⟩:=⟨_,rfl,hw⟩
   refine .bld _ O O AR6 ?_
   refine .storeA ty_Z O O (k1.ext e2) O O hz hS fun w3 k3 u3 h3=>.nil (.ret ?_)
   refine .cell Tryz.results170 O ty_Z O O k3 h3 ⟨u3.below (e1.trans e2) (by omega),?_⟩
   rw [Au2 neg h0,wds_two hn (by omega)]
   exact h3.out
theorem C8:Ent Tryz.prog 108:=A0 Tryz.func108 (by kernel_rfl) rfl
theorem C7 {S:Nat->Prop} {w:World} {n:Int} (up:Up S w) (h1 : -9223372036854775808<=n) (h2:n<=9223372036854775807):CR Tryz.prog 108 #[.int .i64 n] w (eZ.at S (zc n)):=by
 refine enter Tryz.func108 O Tryz.ntmps108 O ?_
 refine .sr ?_  -- region 0
 refine .alloc O B8 fun w1 b1 n1=>.nil ?_
 obtain ⟨e1,k1,hb1,hs1⟩:=n1
 have hS:¬ Sx S w.heap.size w1.heap.size b1:=Sx.no (by omega) (by omega)
 have up1:Up (Sx S w.heap.size w1.heap.size) w1:=Sx.up up (Nat.le_refl _) e1.size
 refine .sr ?_  -- region 1
 refine .mv O O (.cvt AY2 C2 O O (.an O O ?_))
 refine .seq (.sr ?_)  -- region 2
 by_cases h0:n<0
 ·refine .mv O O (.lssT O O O h0 (.nil (.condT O (.region ?_))))
  have hneg:IntKind.u64.wrap (0-IntKind.u64.wrap n)=((n.natAbs:Nat):Int):=by
   rw [IntKind.wrap_u64,IntKind.wrap_u64];omega
  refine .mv O O (.neg O O (.an O O (.sr ?_)))
  rw [hneg]
  refine .mv O O (.lssT O O O h0 (.mv O O ?_))
  refine .call _ O I7 O (I6 up1 (by omega)) fun v2 w2 e2 h2=>?_
  refine .storeA ty_Z O O (k1.ext e2) O O h2 hS fun w3 k3 u3 h3=>.nil (.ret ?_)
  refine .cell Tryz.results108 O ty_Z O O k3 h3 ⟨u3.below (e1.trans e2) (by omega),?_⟩
  rw [show n=sg true n.natAbs by simp [sg];omega]
  exact h3.out
 ·refine .mv O O (.lssF O O O h0 (.nil (.condF O (.skip (.sr ?_)))))
  have hneg:IntKind.u64.wrap n=((n.natAbs:Nat):Int):=by rw [IntKind.wrap_u64];omega
  rw [hneg]
  refine .mv O O (.lssF O O O h0 (.mv O O ?_))
  refine .call _ O I7 O (I6 up1 (by omega)) fun v2 w2 e2 h2=>?_
  refine .storeA ty_Z O O (k1.ext e2) O O h2 hS fun w3 k3 u3 h3=>.nil (.ret ?_)
  refine .cell Tryz.results108 O ty_Z O O k3 h3 ⟨u3.below (e1.trans e2) (by omega),?_⟩
  rw [show n=sg false n.natAbs by simp [sg];omega]
  exact h3.out
open Go Go.Kx Go.RowKit
theorem K1:Ent Tryz.prog 180:=A0 Tryz.func180 (by kernel_rfl) rfl
theorem J5 {S:Nat->Prop} {w:World} {v:Value} {l:List Nat} (h:eW.R S w v l) (hl:l.length<=2):CR Tryz.prog 180 #[v] w (Is (.int .u64 (val l))):=by
 have hd:dig l:=E1 h
 refine enter Tryz.func180 O Tryz.ntmps180 O ?_
 refine .sr (.an O O ?_)
 refine .seq (.sr (.mv O O (.lenR un_W O O h (.nil ?_))))
 refine .block (.sr ?_)  -- region 2
 match l,h,hl,hd with
 | [],h,_,_ =>
  refine .eqlT O O O O (.an O O (.condT O (.sr (.an O O (.ret ?_)))))
  exact .plain [_] Tryz.results180 ⟨rfl,trivial⟩ ⟨.refl _,rfl⟩
 | [x],h,_,hd =>
  have hx:x<4294967296:=hd x (by simp)
  refine .eqlF O O O (by simp) (.an O O (.condF O (.sr ?_)))
  refine .eqlT O O O O (.an O O (.condT O (.sr (.mv O O ?_))))
  refine .ix un_W A3 O O h O (by decide) (y:=x) O fun p hp=>?_
  refine .ldE A3 O O hp fun e he=>?_
  obtain ⟨rfl,_⟩:=he
  refine .cvt C1 C2 O O (.an O O (.ret ?_))
  refine .plain [_] Tryz.results180 ⟨rfl,trivial⟩ ⟨.refl _,?_⟩
  show Value.int .u64 _=_
  rw [wU (by omega)]
  simp [val]
 | [x,y],h,_,hd =>
  have hx:x<4294967296:=hd x (by simp)
  have hy:y<4294967296:=hd y (by simp)
  refine .eqlF O O O (by simp) (.an O O (.condF O (.sr ?_)))
  refine .eqlF O O O (by simp) (.an O O (.condF O (.skip (.seq ?_))))
  refine .par follows 10 [.inl _,.inr (Ptr eU32 S x),.inl (.int .u32 x),.inl _,.inl _,.inr (Ptr eU32 S y),.inl (.int .u32 y),.inl _,.inl _,.inl _] [[],[(13,0)],[(14,1)],[(15,2)],[],[(17,4)],[(18,5)],[(19,6)],[(20,7)],[(16,3),(21,8)]] (by kernel_rfl) ⟨fun w e=>(v_mv O).ob,
   fun w e=>Ad3 un_W A3 O (h.ext e) O (by decide) rfl,
   fun w e x1 hx1=>N7 A3 O hx1,
   fun w e=>(V9 C1 C2 O).ob,
   fun w e=>(v_mv O).ob,
   fun w e=>Ad3 un_W A3 O (h.ext e) O (by decide) rfl,
   fun w e x1 hx1=>N7 A3 O hx1,
   fun w e=>(V9 C1 C2 O).ob,
   fun w e=>(Au4 O O (by decide)).ob,
   fun w e=>(v_or O O).ob,trivial⟩ ?_
  intro w1 e1 x1 hx1 x5 hx5
  refine .an O O (.ret ?_)
  refine .plain [_] Tryz.results180 ⟨rfl,trivial⟩ ⟨e1,?_⟩
  show Value.int .u64 _=_
  rw [wU (n:=(x:Int)) (by omega),wU (n:=(y:Int)) (by omega),shl32 y hy,Aq9 x _ (by omega) (by omega),or32 x y hx]
  simp [val]
theorem R8:Ent Tryz.prog 179:=A0 Tryz.func179 (by kernel_rfl) rfl
theorem Q5 {S:Nat->Prop} {w:World} {va vb:Value} {m n:Nat} (ha:eW.R S w va (wds m)) (hb:eW.R S w vb (wds n)):CR Tryz.prog 179 #[va,vb] w (Is (.int .i64 (cmpN m n))):=by
 have hla:=AJ2 ha
 refine enter Tryz.func179 O Tryz.ntmps179 O ?_
 refine .sr (.an O O ?_)
 refine .seq (.sr (.mv O O (.lenR un_W O O ha (.mv O O (.lenR un_W O O hb ?_)))))
 by_cases hne:(wds m).length=(wds n).length
 ·refine .neqF O O O (by omega) (.nil (.condF O (.skip (.seq (.sr (.mv O O (.lenR un_W O O ha (.sub O O O (.an O O ?_)))))))))
  rw [wI (by omega)]
  refine .block ?_
  refine .loop (α:=Nat) (fun k=>[(0,va),(1,vb),(5,.int .i64 ((k:Int)-1))]) (fun k w'=>Ext w w'/\k<=(wds m).length/\(wds m).drop k=(wds n).drop k) (fun k=>k) (wds m).length ?_ ?_ ?_
  ·exact lkA rfl
  ·exact ⟨.refl _,Nat.le_refl _,by rw [List.drop_of_length_le (Nat.le_refl _),List.drop_of_length_le (by omega)]⟩
  ·rintro k w' ⟨x,hk,hd⟩
   cases k with
   | zero =>
    refine .seq (.sr (.mv O O (.geqF O O O (by omega) (.nil (.condF O (.exit ?_))))))
    refine .sr (.an O O (.ret ?_))
    refine .plain [_] Tryz.results179 ⟨rfl,trivial⟩ ⟨x,?_⟩
    have e:m=n:=wds_inj (by simpa using hd)
    exact isI (by simp [cmpN,e])
   | succ j =>
    have hj:(((j+1:Nat):Int)-1)=(j:Int):=by omega
    refine .weak [(0,va),(1,vb),(5,.int .i64 (j:Int))] (A5 O (A5 O (A5 (by rw [<-hj];rfl) AY6))) ?_
    obtain ⟨p,hp⟩:∃ p,(wds m)[j]?=some p:=⟨_,List.getElem?_eq_getElem (by omega)⟩
    obtain ⟨q,hq⟩:∃ q,(wds n)[j]?=some q:=⟨_,List.getElem?_eq_getElem (by omega)⟩
    refine .seq (.sr (.mv O O (.geqT O O O (by omega) (.nil (.condT O (.skip (.seq (.block (.seq ?_)))))))))
    refine .par follows 9 [.inl _,.inl _,.inr (Ptr eU32 S p),.inl (.int .u32 p),.inl _,.inl _,.inr (Ptr eU32 S q),.inl (.int .u32 q),.inl _] [[],[],[(23,0),(24,1)],[(25,2)],[],[],[(27,4),(28,5)],[(29,6)],[(26,3),(30,7)]] (by kernel_rfl) ⟨fun w e=>(v_mv O).ob,
     fun w e=>(v_mv O).ob,
     fun w e=>C6 un_W A3 O (ha.ext (x.trans e)) O hp,
     fun w e x1 hx1=>N7 A3 O hx1,
     fun w e=>(v_mv O).ob,
     fun w e=>(v_mv O).ob,
     fun w e=>C6 un_W A3 O (hb.ext (x.trans e)) O hq,
     fun w e x1 hx1=>N7 A3 O hx1,
     fun w e=>(BC7 O O).ob,trivial⟩ ?_
    intro w1 e1 x1 hx1 x5 hx5
    refine .nil ?_
    have x1:=x.trans e1
    by_cases hpq:p=q
    ·subst hpq
     refine .cond O (fun hc=>absurd hc (by simp)) (fun hc=>.skip ?_)
     refine .region (.mv O O (.sub O O O (.an O O ?_)))
     rw [wI (by omega)]
     refine ⟨rfl,j,lkA rfl,⟨x1,by omega,?_⟩,by omega⟩
     have h1:j<(wds m).length:=by omega
     have h2:j<(wds n).length:=by omega
     rw [List.drop_eq_getElem_cons h1,List.drop_eq_getElem_cons h2,hd]
     rw [List.getElem?_eq_getElem h1] at hp
     rw [List.getElem?_eq_getElem h2] at hq
     rw [Option.some.inj hp,Option.some.inj hq]
    ·refine .cond O (fun hc=>?_) (fun hc=>absurd hc (by simp;omega))
     refine .seq (.seq ?_)
     refine .par follows 9 [.inl _,.inl _,.inr (Ptr eU32 S p),.inl (.int .u32 p),.inl _,.inl _,.inr (Ptr eU32 S q),.inl (.int .u32 q),.inl _] [[],[],[(32,0),(33,1)],[(34,2)],[],[],[(36,4),(37,5)],[(38,6)],[(35,3),(39,7)]] (by kernel_rfl) ⟨fun w e=>(v_mv O).ob,
      fun w e=>(v_mv O).ob,
      fun w e=>C6 un_W A3 O (ha.ext (x1.trans e)) O hp,
      fun w e x1 hx1=>N7 A3 O hx1,
      fun w e=>(v_mv O).ob,
      fun w e=>(v_mv O).ob,
      fun w e=>C6 un_W A3 O (hb.ext (x1.trans e)) O hq,
      fun w e x1 hx1=>N7 A3 O hx1,
      fun w e=>(BC8 O O).ob,trivial⟩ ?_
     intro w2 e2 x1' hx1' x5' hx5'
     refine .nil ?_
     have hxx:=x1.trans e2
     by_cases hlt:p<q
     ·refine .cond O (fun hc=>?_) (fun hc=>absurd hc (by simp;omega))
      refine .sr (.an O O (.ret ?_))
      refine .plain [_] Tryz.results179 ⟨rfl,trivial⟩ ⟨hxx,?_⟩
      have:=Ac6 (AW4 m) hd hp hq hlt
      rw [B4,B4] at this
      exact isI (by simp [cmpN,this])
     ·refine .cond O (fun hc=>absurd hc (by simp;omega)) (fun hc=>.skip ?_)
      refine .sr (.an O O (.ret ?_))
      refine .plain [_] Tryz.results179 ⟨rfl,trivial⟩ ⟨hxx,?_⟩
      have:=Ac6 (AW4 n) hd.symm hq hp (by omega)
      rw [B4,B4] at this
      have h':¬ m<n:=by omega
      exact isI (by simp [cmpN,this,h'])
 ·refine .neqT O O O (by omega) (.nil (.condT O (.seq (.sr (.mv O O (.lenR un_W O O ha (.mv O O (.lenR un_W O O hb ?_))))))))
  by_cases hlt:(wds m).length<(wds n).length
  ·refine .lssT O O O (by omega) (.nil (.condT O (.sr (.an O O (.ret ?_)))))
   refine .plain [_] Tryz.results179 ⟨rfl,trivial⟩ ⟨.refl _,?_⟩
   exact isI (by simp [cmpN,AX2 hlt])
  ·refine .lssF O O O (by omega) (.nil (.condF O (.skip (.sr (.an O O (.ret ?_))))))
   refine .plain [_] Tryz.results179 ⟨rfl,trivial⟩ ⟨.refl _,?_⟩
   have:=AX2 (m:=n) (n:=m) (by omega)
   have h':¬ m<n:=by omega
   exact isI (by simp [cmpN,this,h'])
open Go Go.Kx Go.RowKit
theorem AW6:Ent Tryz.prog 177:=A0 Tryz.func177 (by kernel_rfl) rfl
theorem Ai5 {S:Nat->Prop} {w:World} {v:Value} {l:List Nat} (up:Up S w) (h:eW.R S w v l) (hl:l.length<=1099511627776):CR Tryz.prog 177 #[v] w (eW.at S l):=by
 refine enter Tryz.func177 O Tryz.ntmps177 O ?_
 refine .sr (.an O O ?_)
 obtain ⟨es,he,a,c,rfl,hc,hm,hlen,hcell⟩:=h
 refine .seq (.sr (.mv O O (.eqNil un_W O O O (.nil ?_))))
 cases a with
 | none =>
  refine .condT O (.sr (.an O O (.ret ?_)))
  have:l=[]:=by
   cases l with
   | nil=>rfl
   | cons x l=>obtain ⟨ad,h,_⟩:=hcell (by simp);cases h
  subst this
  exact .plain [_] Tryz.results177 ⟨rfl,trivial⟩ ⟨.refl _,RL.nil⟩
 | some ad =>
  refine .condF O (.skip (.sr ?_))
  refine .bsl _ O O BI6 fun w1 b1 n1=>?_
  obtain ⟨e1,k1,hb1,hs1⟩:=n1
  have hcell1:∀ j u,(cellsOf es)[j]?=some u->w1.cell? (ad.add j)=some u:=by
   intro j u hu
   rcases Nat.eq_zero_or_pos l.length with h0 | h0
   ·rw [h0,Nat.zero_mul] at hlen
    have:cellsOf es=[]:=List.length_eq_zero_iff.1 hlen
    rw [this] at hu;simp at hu
   ·obtain ⟨ad',h1,_,h2⟩:=hcell h0
    cases h1
    have:=(h2 j u hu).1
    have hlt:=AW5 this
    exact (AR4 (p:=ad.add j) (e1.block _ hlt)).trans this
  have hown:w1.ownsRow w.heap.size 91 1 (.slice (some ⟨b1,0,none⟩) 0 0) 0 []:=⟨rfl,.inr ⟨b1,0,#[],rfl,by omega,k1,Nat.le_refl _,Nat.zero_le _,rfl,rfl⟩⟩
  have hon:∀ u∈cellsOf es,one1 u=true:=by
   intro u hu
   obtain ⟨e',he',hu'⟩:=List.mem_flatMap.1 hu
   obtain ⟨i,hi⟩:=List.mem_iff_getElem?.1 he'
   have hi':i<es.length:=by
    rcases Nat.lt_or_ge i es.length with h | h
    ·exact h
    ·rw [List.getElem?_eq_none h] at hi;cases hi
   exact eU32.one (he.2 i e' _ hi (List.getElem?_eq_getElem (by rw [<-he.1];exact hi'))) u hu'
  refine .mv O O ?_
  refine .gv O O (Ad9 (cellsOf es) un_W H0 O (by decide) O O hown hlen hcell1 hon (by omega) (by omega) (by omega)) ?_
  rintro v2 w2 ⟨ho,hg⟩
  refine .an O O (.ret ?_)
  have hx:Ext w w2:=Below.grown e1 hg e1.size (fun k hk=>by simp [Value.ownBlock] at hk;omega)
  simp only [List.nil_append,Nat.zero_add] at ho
  exact .plain [_] Tryz.results177 ⟨rfl,trivial⟩ ⟨hx,RL.ofOwn (E:=eU32) (es:=es) ho O ⟨he.1,he.2⟩ up⟩
theorem O4:Ent Tryz.prog 109:=A0 Tryz.func109 (by kernel_rfl) rfl
theorem M4 {S:Nat->Prop} {w:World} {v:Value} {z:ZV} (h:eZ.R S w v z):CR Tryz.prog 109 #[v] w (Is (.int .i64 (zval z).sign)):=by
 obtain ⟨s,rfl,hs⟩:=h
 have hd:dig z.w:=E1 hs
 refine enter Tryz.func109 O Tryz.ntmps109 O ?_
 refine .sr ?_
 refine .box O O fun w1 b1 n1=>.an O O ?_
 obtain ⟨e1,k1,hb1,hs1⟩:=n1
 refine .seq (.block (.sr (.fa E0 O O (.ld ty_W O O k1 O ?_))))
 refine .call _ O C0 O (B9 (hs.ext e1)) fun v2 w2 e2 h2=>?_
 have k2:=k1.ext e2
 have hx:=e1.trans e2
 by_cases h0:val z.w=0
 ·rw [(V8 hd).2 h0] at h2
  refine .lenR un_W O O h2 (.eqlT O O O O (.an O O (.condT O (.sr (.an O O (.ret ?_))))))
  exact .plain [_] Tryz.results109 ⟨rfl,trivial⟩ ⟨hx,isI (by unfold zval sg;rw [h0];simp)⟩
 ·have hne:trimL z.w≠[]:=fun h=>h0 ((V8 hd).1 h)
  refine .lenR un_W O O h2 (.eqlF O O O (by simpa using hne) (.an O O (.condF O (.sr ?_))))
  refine .fa G6 O O (.ld B7 O O k2 O (.an O O ?_))
  cases hn:z.neg with
  | true =>
   refine .condT O (.sr (.an O O (.ret ?_)))
   exact .plain [_] Tryz.results109 ⟨rfl,trivial⟩ ⟨hx,isI (by unfold zval sg;rw [hn];simp only [if_true];rw [Int.sign_eq_neg_one_of_neg (by omega)])⟩
  | false =>
   refine .condF O (.skip (.sr (.an O O (.ret ?_))))
   exact .plain [_] Tryz.results109 ⟨rfl,trivial⟩ ⟨hx,isI (by unfold zval sg;rw [hn];simp only [Bool.false_eq_true,if_false];rw [Int.sign_eq_one_of_pos (by omega)])⟩
def i64ok (n:Int):Bool:=decide (-9223372036854775808<=n/\n<=9223372036854775807)
def i64v (n:Int):Int:=if i64ok n then n else 0
theorem H4:Ent Tryz.prog 167:=A0 Tryz.func167 (by kernel_rfl) rfl
theorem H2 {S:Nat->Prop} {w:World} {v:Value} {z:ZV} (h:eZ.R S w v z):CR Tryz.prog 167 #[v] w (Is (.tuple #[.int .i64 (i64v (zval z)),.bool (i64ok (zval z))])):=by
 obtain ⟨s,rfl,hs⟩:=h
 have hd:dig z.w:=E1 hs
 have htr:=E9 hd
 refine enter Tryz.func167 O Tryz.ntmps167 O ?_
 refine .sr ?_
 refine .box O O fun w1 b1 n1=>.asg O O (.an O O ?_)
 obtain ⟨e1,k1,hb1,hs1⟩:=n1
 refine .sr (.fa E0 O O (.ld ty_W O O k1 O ?_))
 refine .call _ O C0 O (B9 (hs.ext e1)) fun v2 w2 e2 h2=>.an O O ?_
 have k2:=k1.ext e2
 have hx:=e1.trans e2
 rw [htr] at h2
 have hN:∀ (a:Int) (b:Bool) (w':World),i64v (zval z)=a->i64ok (zval z)=b->Is (.tuple #[.int .i64 (i64v (zval z)),.bool (i64ok (zval z))]) (tup [.int .i64 a,.bool b]) w':=by
  rintro a b w' rfl rfl;rfl
 refine .seq (.sr (.mv O O (.lenR un_W O O h2 ?_)))
 by_cases hl:(wds (val z.w)).length<=2
 ·have hlt:val z.w<18446744073709551616:=by
   have h1:=AD5 (val z.w)
   have h2:4294967296 ^ (wds (val z.w)).length<=4294967296 ^ 2:=Nat.pow_le_pow_right (by omega) hl
   omega
  refine .gtrF O O O (by omega) (.nil (.condF O (.skip (.sr (.mv O O ?_)))))
  refine .call _ O K1 O (J5 h2 hl) fun v3 w3 e3 h3=>?_
  obtain rfl:=h3
  rw [B4]
  have k3:=k2.ext e3
  have hx3:=hx.trans e3
  refine .an O O (.seq (.sr (.fa G6 O O (.ld B7 O O k3 O (.nil ?_)))))
  cases hn:z.neg with
  | true =>
   have hz:zval z = -(val z.w:Int):=by unfold zval sg;rw [hn];rfl
   refine .condT O (.seq (.sr (.mv O O ?_)))
   by_cases hb:val z.w<=9223372036854775808
   ·refine .gtrF O O O (by omega) (.nil (.condF O (.skip (.sr (.mv O O (.neg O O (.cvt C2 AY2 O O (.asg O O (.an O O (.ret ?_)))))))))) 
    refine .plain [_,_] Tryz.results167 ⟨rfl,rfl,trivial⟩ ⟨hx3,hN _ _ _ ?_ ?_⟩
    ·have:i64ok (zval z)=true:=by rw [hz];simp [i64ok];omega
     rw [i64v,this,if_pos rfl,hz,IntKind.wrap_u64,IntKind.wrap_i64];omega
    ·rw [hz];simp [i64ok];omega
   ·refine .gtrT O O O (by omega) (.nil (.condT O (.sr (.asg O O (.an O O (.ret ?_))))))
    have:i64ok (zval z)=false:=by rw [hz];simp [i64ok];omega
    exact .plain [_,_] Tryz.results167 ⟨rfl,rfl,trivial⟩ ⟨hx3,hN _ _ _ (by simp [i64v,this]) this⟩
  | false =>
   have hz:zval z=(val z.w:Int):=by unfold zval sg;rw [hn];rfl
   refine .condF O (.skip (.seq (.sr (.mv O O ?_))))
   by_cases hb:val z.w<9223372036854775808
   ·refine .geqF O O O (by omega) (.nil (.condF O (.skip (.sr (.mv O O (.cvt C2 AY2 O O (.asg O O (.an O O (.ret ?_)))))))))
    refine .plain [_,_] Tryz.results167 ⟨rfl,rfl,trivial⟩ ⟨hx3,hN _ _ _ ?_ ?_⟩
    ·have:i64ok (zval z)=true:=by rw [hz];simp [i64ok];omega
     rw [i64v,this,if_pos rfl,hz,wI (by omega)]
    ·rw [hz];simp [i64ok];omega
   ·refine .geqT O O O (by omega) (.nil (.condT O (.sr (.asg O O (.an O O (.ret ?_))))))
    have:i64ok (zval z)=false:=by rw [hz];simp [i64ok];omega
    exact .plain [_,_] Tryz.results167 ⟨rfl,rfl,trivial⟩ ⟨hx3,hN _ _ _ (by simp [i64v,this]) this⟩
 ·have hge:18446744073709551616<=val z.w:=by
   rcases Nat.lt_or_ge (val z.w) 18446744073709551616 with h | h
   ·exact absurd (AJ1 (L:=2) h) hl
   ·exact h
  refine .gtrT O O O (by omega) (.nil (.condT O (.sr (.asg O O (.an O O (.ret ?_))))))
  have:i64ok (zval z)=false:=by
   unfold zval sg
   split<;>(simp [i64ok];omega)
  exact .plain [_,_] Tryz.results167 ⟨rfl,rfl,trivial⟩ ⟨hx,hN _ _ _ (by simp [i64v,this]) this⟩
theorem R9:Ent Tryz.prog 121:=A0 Tryz.func121 (by kernel_rfl) rfl
theorem Q6 {S:Nat->Prop} {w:World} {v:Value} {z:ZV} (up:Up S w) (h:eZ.R S w v z) (hl:z.w.length<=1099511627776):CR Tryz.prog 121 #[v] w (eZ.at S (zc (- zval z))):=by
 obtain ⟨s,rfl,hs⟩:=h
 have hd:dig z.w:=E1 hs
 refine enter Tryz.func121 O Tryz.ntmps121 O ?_
 refine .sr ?_
 refine .box O O fun w1 b1 n1=>?_
 obtain ⟨e1,k1,hb1,hs1⟩:=n1
 refine .alloc O B8 fun w2 b2 n2=>.nil ?_
 obtain ⟨e2,k2,hb2,hs2⟩:=n2
 have k1:=k1.ext e2
 have hx:=e1.trans e2
 have hp:=(hs.par w2.heap.size).ext hx
 have upx:Up (Sx S w.heap.size w2.heap.size) w2:=Sx.up up (Nat.le_refl _) hx.size
 refine .seq ?_
 refine .par follows 8 [.inl _,.inl _,.inl _,.inl _,.inl _,.inr (eW.at (Sx S w.heap.size w2.heap.size) (trimL z.w)),.inr (eW.at (Sx S w.heap.size w2.heap.size) (trimL z.w)),.inr (eZ.at (Sx S w.heap.size w2.heap.size) (zc (sg (!z.neg) (val (trimL z.w)))))]
  [[],[(3,0)],[(4,1)],[],[(6,3)],[(7,4)],[(8,5)],[(5,2),(9,6)]] (by kernel_rfl) ⟨
  fun w e=>(v_fa G6 O).ob,
  fun w e=>(v_ld B7 O (k1.ext e) O).ob,
  fun w e=>(Ac7 O).ob,
  fun w e=>(v_fa E0 O).ob,
  fun w e=>(v_ld ty_W O (k1.ext e) O).ob,
  fun w e=>(A4 _ C0 O (B9 (hp.ext e))).ob (A8 _ _ _),
  fun w e x5 hx5=>(A4 _ AW6 O (Ai5 (upx.ext e.size) hx5 (Nat.le_trans (T1 _) hl))).ob (A8 _ _ _),
  fun w e x6 hx6=>(A4 _ F8 O (F5 (upx.ext e.size) hx6)).ob (A8 _ _ _),trivial⟩ ?_
 intro w3 e3 x5 hx5 x6 hx6 x7 hx7
 refine .storeA ty_Z O O (k2.ext e3) O O hx7 (Sx.no (by omega) (by omega)) fun w4 k4 u4 h4=>.nil (.ret ?_)
 refine .cell Tryz.results121 O ty_Z O O k4 h4 ⟨u4.below (hx.trans e3) (by omega),?_⟩
 have:zc (- zval z)=zc (sg (!z.neg) (val (trimL z.w))):=by
  rw [Ac5];unfold zval sg;cases z.neg<;>simp
 rw [this]
 exact h4.out
end Go.Proofs.YtggegpiffjbngaaGreat
namespace Go.Kx
open Go Go.RowKit
def Oth (w w':World):Prop:=∀ (k:Nat) (o:Obj),w.heap[k]?=some o->o.isCells=false->w'.heap[k]?=some o
theorem Oth.trans {a b c:World} (h:Oth a b) (h':Oth b c):Oth a c:=fun k o ho hc=>h' k o (h k o ho hc) hc
theorem Oth.ext {w w':World} (e:Ext w w'):Oth w w':=fun k _ h _=>(e.block k (Array.getElem?_eq_some_iff.1 h).1).trans h
theorem Oth.upd {w w':World} {b:Nat} {t:TypeId} {cs:Array Value} (u:Upd w w' b) (hb:Blk w b t cs):Oth w w':=fun k o h hc=>(u.block k (fun e=>by
 subst e
 have h':w.heap[k]?=some (.cells cs t (0,0)):=hb
 rw [h'] at h;cases h;cases hc)).trans h
theorem Oth.grown {w w':World} {base:Nat} {t:TypeId} {sz n:Nat} {v:Value} {xs:List Value} (hg:w.grownBy w' v.ownBlock) (ho:w.ownsRow base t sz v n xs):Oth w w':=by
 intro k o h hc
 refine (hg.block k (Array.getElem?_eq_some_iff.1 h).1 (fun e=>?_)).trans h
 rcases ho.2 with ⟨rfl,_⟩ | ⟨g,cap,cur,rfl,_,hh,_⟩
 ·simp [Value.ownBlock] at e
 ·have:k=g:=by simpa [Value.ownBlock] using e
  subst this
  rw [hh] at h;cases h;cases hc
structure Sft (D:Nat) (w w':World):Prop where
 below:Below D w w'
 cells:Kp (fun _=>True) w w'
theorem Sft.ext {D:Nat} {w w':World} (e:Ext w w') (h:D<=w.heap.size):Sft D w w':=⟨e.mono h,Kp.ext e⟩
theorem Sft.put {D l:Nat} {w:World} {o o':Obj} (h:D<=l) (hl:w.heap[l]?=some o) (hc:o.isCells=false):Sft D w (w.putObj l o'):=by
 refine ⟨⟨rfl,rfl,rfl,by simp,fun k hk=>World.putObj_heap_other (by omega)⟩,fun k c t f _ hk=>?_⟩
 rw [World.putObj_heap_other (fun e=>?_)];exact hk
 subst e
 rw [hl] at hk;cases hk;cases hc
def penv:List Tmp->List Value->Env->Env
 | p::ps,v::vs,σ=>penv ps vs ((p,v)::σ)
 | _,_,σ=>σ
theorem AL1 {N:Nat} {ds ds':List Deferred}:∀ (ps:List Tmp) (vs:List Value) (σ:Env) (t:Array Value),(∀ p∈ps,p<N)->Agr N σ ds { tmps:=t,defers:=ds' } ->
  Agr N (penv ps vs σ) ds { tmps:=(ps.zip vs).foldl (fun t p=>t.setIfInBounds p.1 p.2) t,defers:=ds' }
 | [],_,σ,t,_,h=>by simpa [penv] using h
 | p::ps,[],σ,t,_,h=>by simpa [penv] using h
 | p::ps,v::vs,σ,t,hp,h=>by
  have h1:=h.put (d:=some p) (by simpa [dOk,Nat.blt_eq] using hp p (by simp)) v
  exact AL1 ps vs ((p,v)::σ) (t.setIfInBounds p v) (fun q hq=>hp q (by simp [hq])) h1
@[reducible] def rnd (J:World->Prop) (Jx:Code->World->Prop) (W:World):Pst
 | .normal,_,_,W'=>Oth W W'/\J W'
 | .ret,_,_,W'=>Oth W W'/\Jx .ret W'
 | .exit id,_,_,W'=>Oth W W'/\Jx (.exit id) W'
 | _,_,_,_=>False
def Iter (P:Program) (gf:FuncId) (lb:Array Value) (n:Nat) (xs:Nat->List Value) (F:World->Prop):Prop :=
 ∀ (l:Nat) (J:Nat->World->Prop) (X:World->Prop),(∀ k W W',J k W->Ext W W'->J k W')->(∀ W W',X W->Ext W W'->X W')->(∀ k W,J k W->F W) ->
  (∀ k W,k<n->J k W->YieldAt (wf none) 0 P l (xs k).toArray W fun e W'=>(e=.returned (.bool true)/\J (k+1) W')\/(e=.returned (.bool false)/\X W')) ->
  ∀ W,J 0 W->Calls P gf (#[.func (.yield l) #[] #[]]++lb) W fun e W'=>∃ v,e=.returned v/\(J n W'\/X W')
theorem WC.range {P:Program} {N:Nat} {Q:Pst} {σ:Env} {ds:List Deferred} {w:World} {g:Operand} {ps:List Tmp} {assign body:Code} {gf:FuncId} {lb:Array Value} {n:Nat} {xs:Nat->List Value} {F:World->Prop}
  (hit:Iter P gf lb n xs F) (hg:ev σ g=some (.func (.func gf) #[] lb)) (hE:Ent P gf) (hps:∀ k,(xs k).length=ps.length) (hpN:∀ p∈ps,p<N)
  (J:Nat->World->Prop) (Jx:Code->World->Prop) (stJ:∀ k W W',J k W->Sft w.heap.size W W'->J k W') (stX:∀ c W W',Jx c W->Sft w.heap.size W W'->Jx c W') (hF:∀ k W,J k W->F W) (h0:J 0 w)
  (hbody:∀ l k W,k<n->J k W->WC P (some l) N (thn (fun σ1 ds1 W1=>ds1=[]/\W1=W/\∀ W2,J k W2->w.heap.size<=W2.heap.size->WC P (some l) N (rnd (J (k+1)) Jx W2) body σ1 [] W2) (fun _ _ _ _=>False)) assign (penv ps (xs k) σ) [] W)
  (hdone:∀ W,J n W->W.heap[w.heap.size]?=some (.deferred (some []))->Q .normal σ ({ target:=.collected w.heap.size,args:=#[] }::ds) W)
  (hjump:∀ c W,Jx c W->W.heap[w.heap.size]?=some (.deferred (some []))->WC P none N Q c σ ({ target:=.collected w.heap.size,args:=#[] }::ds) W) :
  WC P none N Q (.rangeFunc g ps.toArray assign body) σ ds w:=by
 refine ⟨fun a ha=>wpIn_rangeFunc fun fn _=>?_⟩
 have hev:=ha.ev hg
 let rec0:Loop:={ state:=.ready,pending:=none,fn:=fn,tmps:=a.tmps,params:=ps.toArray,assign:=assign,body:=body,defers:=w.heap.size }
 refine ⟨w.heap.size+1,[{ target:=.collected w.heap.size,args:=#[] }],(w.alloc (.deferred (some []))).alloc (.loop rec0),{ target:=.fn (.func gf) lb,args:=#[.func (.yield (w.heap.size+1)) #[] #[]] },(w.alloc (.deferred (some []))).alloc (.loop rec0),gf,#[.func (.yield (w.heap.size+1)) #[] #[]]++lb,(w.alloc (.deferred (some []))).alloc (.loop rec0),
  run_enterLoop_outer fn a.tmps ps.toArray assign body,?_,fun _ _=>trivial,?_,(fun h=>(by cases h)),?_⟩
 ·simp only [resolve];rw [hev];simp [Deferred.ofValue,rec0];rfl
 ·simp [invoke,hE _ _]
 let l:=w.heap.size+1
 let D:=w.heap.size
 have hne:D≠l:=by show w.heap.size≠w.heap.size+1;omega
 let Jt:Nat->World->Prop:=fun k W=>J k W/\W.heap[l]?=some (.loop rec0)/\W.heap[D]?=some (.deferred (some []))
 let Xt:World->Prop:=fun W=>∃ c,Jx c W/\W.heap[l]?=some (.loop { rec0 with state:=.done,pending:=some c })/\W.heap[D]?=some (.deferred (some []))
 have hlt:∀ {W:World} {o:Obj},W.heap[l]?=some o->l<W.heap.size:=fun h=>(Array.getElem?_eq_some_iff.1 h).1
 have hlt':∀ {W:World} {o:Obj},W.heap[D]?=some o->D<W.heap.size:=fun h=>(Array.getElem?_eq_some_iff.1 h).1
 have hstart:Jt 0 ((w.alloc (.deferred (some []))).alloc (.loop rec0)):=by
  have e1:=U4 w (.deferred (some []))
  have e2:=U4 (w.alloc (.deferred (some []))) (.loop rec0)
  refine ⟨stJ 0 _ _ h0 (Sft.ext (e1.trans e2) (Nat.le_refl _)),?_,?_⟩
  ·have:=World.alloc_heap_new (w.alloc (.deferred (some []))) (.loop rec0)
   rwa [World.size_alloc] at this
  ·exact (e2.block D (by rw [World.size_alloc];show w.heap.size<w.heap.size+1;omega)).trans (World.alloc_heap_new w _)
 have hcall:=hit l Jt Xt
  (fun k W W' ⟨h1,h2,h3⟩ e=>⟨stJ k W W' h1 (Sft.ext e (Nat.le_of_lt (hlt' h3))),(e.block l (hlt h2)).trans h2,(e.block D (hlt' h3)).trans h3⟩)
  (fun W W' ⟨c,h1,h2,h3⟩ e=>⟨c,stX c W W' h1 (Sft.ext e (Nat.le_of_lt (hlt' h3))),(e.block l (hlt h2)).trans h2,(e.block D (hlt' h3)).trans h3⟩)
  (fun k W h=>hF k W h.1)
  (fun k W hk ⟨hJ,hl,hD⟩=>by
   refine ⟨fn,(ps.zip (xs k)).foldl (fun t p=>t.setIfInBounds p.1 p.2) a.tmps,assign,body,?_,?_⟩
   ·have:=run_yield (P:=P) (w:=W) (l:=l) (r:=rec0) (args:=(xs k).toArray) hl (by simp [rec0,hps])
    rw [this]
    simp [rec0]
   ·refine roundIn_of_wpIn trivial ?_
    have hag:Agr N (penv ps (xs k) σ) [] { tmps:=(ps.zip (xs k)).foldl (fun t p=>t.setIfInBounds p.1 p.2) a.tmps,defers:=[] } :=
     AL1 ps (xs k) σ a.tmps hpN ⟨ha.size,rfl,ha.slot⟩
    refine wpIn_mono ((hbody l k W hk hJ).out _ hag) ?_
    rintro e a₁ w₁ ⟨σ1,ds1,hag1,hq⟩
    cases e with
    | normal =>
     obtain ⟨rfl,rfl,hb⟩:=hq
     have hput:(w₁.putObj l (.loop { rec0 with state:=.busy })).heap[l]?=some (.loop { rec0 with state:=.busy }):=World.putObj_heap_same (hlt hl)
     have hputD:(w₁.putObj l (.loop { rec0 with state:=.busy })).heap[D]?=some (.deferred (some [])):=by rw [World.putObj_heap_other hne];exact hD
     refine ⟨_,run_beginRound hl rfl,wpIn_mono ((hb _ (stJ k _ _ hJ (Sft.put (show D<=l by show w.heap.size<=w.heap.size+1;omega) hl O)) (by rw [World.putObj_size];exact Nat.le_of_lt (hlt' hD))).out a₁ hag1) ?_⟩
     have hend:∀ (W':World) (j:Option Code),Oth (w₁.putObj l (.loop { rec0 with state:=.busy })) W' ->
       (Instr.endRound l j).run P W'=.ok (.bool j.isNone) (W'.putObj l (.loop { rec0 with state:=if j.isNone then .ready else .done,pending:=j })) /\
       Sft D W' (W'.putObj l (.loop { rec0 with state:=if j.isNone then .ready else .done,pending:=j })) /\
       (W'.putObj l (.loop { rec0 with state:=if j.isNone then .ready else .done,pending:=j })).heap[l]?=some (.loop { rec0 with state:=if j.isNone then .ready else .done,pending:=j }) /\
       (W'.putObj l (.loop { rec0 with state:=if j.isNone then .ready else .done,pending:=j })).heap[D]?=some (.deferred (some [])):=by
      intro W' j ho
      have h1:=ho l _ hput rfl
      have h2:=ho D _ hputD rfl
      refine ⟨run_endRound (r:={ rec0 with state:=.busy }) j h1,Sft.put (show D<=l by show w.heap.size<=w.heap.size+1;omega) h1 rfl,World.putObj_heap_same (hlt h1),?_⟩
      rw [World.putObj_heap_other hne];exact h2
     rintro e2 a₂ w₂ ⟨σ2,ds2,hag2,hq2⟩
     cases e2 with
     | normal =>
      obtain ⟨ho,hj⟩:=hq2
      obtain ⟨h1,h2,h3,h4⟩:=hend w₂ none ho
      exact ⟨_,_,h1,.inl ⟨rfl,stJ _ _ _ hj h2,h3,h4⟩⟩
     | ret =>
      obtain ⟨ho,hj⟩:=hq2
      obtain ⟨h1,h2,h3,h4⟩:=hend w₂ (some .ret) ho
      exact ⟨_,_,h1,.inr ⟨rfl,.ret,stX _ _ _ hj h2,h3,h4⟩⟩
     | exit id =>
      obtain ⟨ho,hj⟩:=hq2
      obtain ⟨h1,h2,h3,h4⟩:=hend w₂ (some (.exit id)) ho
      exact ⟨_,_,h1,.inr ⟨rfl,.exit id,stX _ _ _ hj h2,h3,h4⟩⟩
     | _=>exact hq2.elim
    | _=>exact hq.elim)
  _ hstart
 refine AL0.2 (hcall.mono ?_)
 have hag':Agr N σ ({ target:=.collected w.heap.size,args:=#[] }::ds) { tmps:=a.tmps,defers:=[{ target:=.collected w.heap.size,args:=#[] }]++a.defers }:=⟨ha.size,by rw [ha.defs];rfl,ha.slot⟩
 rintro e W ⟨v,rfl,hres⟩
 rcases hres with ⟨hJ,hl,hD⟩ | ⟨c,hX,hl,hD⟩
 ·refine ⟨none,_,run_endLoop hl (by simp [rec0]),?_⟩
  refine ⟨σ,_,hag',hdone _ (stJ _ _ _ hJ (Sft.put (show D<=l by show w.heap.size<=w.heap.size+1;omega) hl O)) ?_⟩
  rw [World.putObj_heap_other hne];exact hD
 ·refine ⟨some c,_,run_endLoop hl (by simp),?_⟩
  refine (hjump c _ (stX _ _ _ hX (Sft.put (show D<=l by show w.heap.size<=w.heap.size+1;omega) hl O)) ?_).out _ hag'
  rw [World.putObj_heap_other hne];exact hD
section
variable {P:Program} {ro:Option Nat} {N:Nat} {ds:List Deferred} {ops:Array Oper} {K:Env->World->Prop} {rest:List Oper} {σ:Env} {w:World} {d:Tmp} {ty:TypeId} {pos:String} {af:Array Edge}
theorem WL.yld {l:Nat} {fx:Operand} {xs:List Operand} {ts:Array TypeId} (vs:List Value) {R:Value->World->Prop} (hd:Nat.blt d N=true) (hfx:ev σ fx=some (.func (.yield l) #[] #[])) (hx:xs.map (ev σ)=vs.map some)
  (hy:YieldAt (wf none) 0 P l vs.toArray w fun e w'=>∃ v,e=.returned v/\R v w') (k:∀ v w',R v w'->WL P ro N ds ops K rest ((d,v)::σ) w') :
  WL P ro N ds ops K (⟨some d,.call { callee:=.value fx,args:=xs.toArray,argTypes:=ts },ty,pos,af,none⟩::rest) σ w:=by
 refine ⟨fun a ha=>wpListIn_plain O fun K' hK=>?_⟩
 obtain ⟨fn,tmps,assign,body,hrun,hR⟩:=hy
 refine ⟨fun _ _=>trivial,?_⟩
 show Oper.uponIn (wf ro) 0 P _ a K' _ ((Oper.semAt ro a.eval _).run P w)
 rw [AM8 (by intro c h;cases h)]
 have h1:=ha.ev hfx
 have h2:xs.map a.eval=vs:=AC4 (σ:=σ) (fun x v _ hx'=>ha.ev hx') hx
 have hex:(execOp a.eval { dst:=some d,op:=.call { callee:=.value fx,args:=xs.toArray,argTypes:=ts },type:=ty,pos:=pos,after:=af,guard:=none }).run P w=.ok (.round l fn tmps assign body) w:=by
  simp [execOp,resolve,h1,h2,Deferred.ofValue,invoke,hrun]
 rw [hex]
 refine ⟨fun h=>(by cases h),?_⟩
 have hR':RoundIn (wf ro) (0-1) P l fn tmps assign body w fun e w'=>∃ v,e=.returned v/\R v w':=hR
 refine hR'.mono ?_
 rintro e w' ⟨v,rfl,hv⟩
 exact hK _ _ ((k v w' hv).out _ (ha.put (d:=some d) hd v))
end
section
variable {P:Program} {ro:Option Nat} {N:Nat} {Q:Pst} {σ:Env} {ds:List Deferred} {w:World}
theorem WC.mid {α:Type} {x y:Code} (E:α->Env) (F:α->World->Prop) (h1:WC P ro N (thn (fun σ' ds' w'=>ds'=ds/\∃ a,(∀ t v,look (E a) t=some v->look σ' t=some v)/\F a w') Q) x σ ds w)
  (h2:∀ a w',F a w'->WC P ro N Q y (E a) ds w'):WC P ro N Q (x.seq y) σ ds w :=
 WC.seq (h1.mono fun e σ' ds' w' h=>by
  cases e with
  | normal=>obtain ⟨rfl,a,he,hf⟩:=h;exact (h2 a w' hf).weak _ he
  | _=>exact h)
end
section
variable {P:Program} {ro:Option Nat} {N:Nat} {ds:List Deferred} {ops:Array Oper} {K:Env->World->Prop} {rest:List Oper} {σ:Env} {w:World} {d:Tmp} {ty:TypeId} {pos:String} {af:Array Edge}
theorem WL.callG {f:FuncId} {xs:List Operand} {ts:Array TypeId} (vs:List Value) {R:Value->World->Prop} (hd:Nat.blt d N=true) (hf:Ent P f) (hx:xs.map (ev σ)=vs.map some) (hc:Calls P f vs.toArray w fun e w'=>∃ v,e=.returned v/\R v w')
  (k:∀ v w',R v w'->WL P ro N ds ops K rest ((d,v)::σ) w') :
  WL P ro N ds ops K (⟨some d,.call { callee:=.value (.func f),args:=xs.toArray,argTypes:=ts },ty,pos,af,none⟩::rest) σ w :=
 WL.gv O hd (g_callG vs hf hx hc) k
theorem WL.callvG {f:FuncId} {fx:Operand} {xs:List Operand} {ts:Array TypeId} {cap:Array Value} (vs:List Value) {R:Value->World->Prop} (hd:Nat.blt d N=true) (hfx:ev σ fx=some (.func (.func f) #[] cap)) (hf:Ent P f)
  (hx:xs.map (ev σ)=vs.map some) (hc:Calls P f (vs.toArray++cap) w fun e w'=>∃ v,e=.returned v/\R v w') (k:∀ v w',R v w'->WL P ro N ds ops K rest ((d,v)::σ) w') :
  WL P ro N ds ops K (⟨some d,.call { callee:=.value fx,args:=xs.toArray,argTypes:=ts },ty,pos,af,none⟩::rest) σ w :=
 WL.gv O hd (AE7 vs hfx hf hx hc) k
end
section
variable {P:Program} {σ:Env} {w:World} {d:Option Tmp} {ty:TypeId} {pos:String} {af:Array Edge} {g:Option (Nat×Bool)}
theorem M6 {t e:TypeId} {x ix:Operand} {k:IntKind} {i:Nat} {b:Bool} {sz blk off n c:Nat} (ht:P.underlying t=some (.slice e)) (he:tyOf P e=some (b,sz)) (hx:ev σ x=some (.slice (some ⟨blk,off,none⟩) n c))
  (hi:ev σ ix=some (.int k (i:Int))) (hlt:i<n):Vl P ⟨d,.indexAddr t x ix,ty,pos,af,g⟩ σ w (.pointer (some ⟨blk,off+i*sz,none⟩)):=by
 refine ⟨(by intro _ h;cases h),fun ρ hρ=>?_⟩
 have h1:=hρ x _ (by simp [Op.operands]) hx
 have h2:=hρ ix _ (by simp [Op.operands]) hi
 have hlt':(i:Int)<(n:Int):=by omega
 simp [execOp,h1,h2,Instr.indexAt,asIntOf,run_underlying ht,(G1 he w).2,I9]
 intro hh;omega
theorem Aq0 {t e:TypeId} {x:Operand} {b:Bool} {sz blk off n c:Nat} (lo hi:Option Operand) (L H:Nat) (ht:P.underlying t=some (.slice e)) (he:tyOf P e=some (b,sz)) (hx:ev σ x=some (.slice (some ⟨blk,off,none⟩) n c))
  (hlo:match lo with | none=>L=0 | some y=>∃ k,ev σ y=some (.int k (L:Int))) (hhi:match hi with | none=>H=n | some y=>∃ k,ev σ y=some (.int k (H:Int))) (h1:L<=H) (h2:H<=c) (h3:L<c) :
  Vl P ⟨d,.slice t x lo hi none,ty,pos,af,g⟩ σ w (.slice (some ⟨blk,off+L*sz,none⟩) (H-L) (c-L)):=by
 refine ⟨(by intro _ h;cases h),fun ρ hρ=>?_⟩
 have e1:=hρ x _ (by simp [Op.operands]) hx
 have hb1:(Instr.sliceBounds true n c (lo.map ρ) (hi.map ρ) none).run P w=.ok (L,H,c) w:=by
  cases lo with
  | none =>
   cases hi with
   | none=>simp at hlo hhi;subst hlo;subst hhi;simp [Instr.sliceBounds]
   | some y =>
    simp at hlo
    obtain ⟨k,hk⟩:=hhi
    have:=hρ y _ (by simp [Op.operands]) hk
    subst hlo
    simp [Instr.sliceBounds,Instr.sliceBound,this,asIntOf,Int.ofNat_le,h2]
  | some z =>
   obtain ⟨k',hk'⟩:=hlo
   have e2:=hρ z _ (by simp [Op.operands]) hk'
   cases hi with
   | none =>
    simp at hhi;subst hhi
    simp [Instr.sliceBounds,Instr.sliceBound,e2,asIntOf,h1]
   | some y =>
    obtain ⟨k,hk⟩:=hhi
    have:=hρ y _ (by simp [Op.operands]) hk
    simp [Instr.sliceBounds,Instr.sliceBound,this,e2,asIntOf,h2,h1]
 have hne:¬ c=L:=by omega
 simp [execOp,e1,Instr.sliceAt,run_underlying ht,Instr.slice,hb1,(G1 he w).2,hne,I9]
end
section
variable {P:Program} {ro:Option Nat} {N:Nat} {ds:List Deferred} {ops:Array Oper} {K:Env->World->Prop} {rest:List Oper} {σ:Env} {w:World} {d:Tmp} {ty:TypeId} {pos:String} {af:Array Edge}
theorem WL.ixB {t e:TypeId} {x ix:Operand} {k:IntKind} {i:Nat} {b:Bool} {sz blk off n c:Nat} (ht:P.underlying t=some (.slice e)) (he:tyOf P e=some (b,sz)) (hd:Nat.blt d N=true) (hx:ev σ x=some (.slice (some ⟨blk,off,none⟩) n c))
  (hi:ev σ ix=some (.int k (i:Int))) (hlt:i<n) (kk:WL P ro N ds ops K rest ((d,.pointer (some ⟨blk,off+i*sz,none⟩))::σ) w):WL P ro N ds ops K (⟨some d,.indexAddr t x ix,ty,pos,af,none⟩::rest) σ w :=
 WL.vl O hd (M6 ht he hx hi hlt) kk
theorem WL.cutB {t e:TypeId} {x:Operand} {b:Bool} {sz blk off n c:Nat} {lo hi:Option Operand} (L H:Nat) (ht:P.underlying t=some (.slice e)) (he:tyOf P e=some (b,sz)) (hd:Nat.blt d N=true) (hx:ev σ x=some (.slice (some ⟨blk,off,none⟩) n c))
  (hlo:match lo with | none=>L=0 | some y=>∃ k,ev σ y=some (.int k (L:Int))) (hhi:match hi with | none=>H=n | some y=>∃ k,ev σ y=some (.int k (H:Int))) (h1:L<=H) (h2:H<=c) (h3:L<c)
  (kk:WL P ro N ds ops K rest ((d,.slice (some ⟨blk,off+L*sz,none⟩) (H-L) (c-L))::σ) w):WL P ro N ds ops K (⟨some d,.slice t x lo hi none,ty,pos,af,none⟩::rest) σ w :=
 WL.vl O hd (Aq0 lo hi L H ht he hx hlo hhi h1 h2 h3) kk
end
theorem Vl.eq {P:Program} {o:Oper} {σ:Env} {w:World} {v v':Value} (h:Vl P o σ w v) (e:v=v'):Vl P o σ w v':=e▸h
abbrev wv (x:Nat):Value:=.int .u32 x
def OwnW (t:TypeId) (base:Nat) (w:World) (v:Value) (r:List Nat):Prop:=w.ownsRow base t 1 v r.length (r.map wv)/\dig r
theorem OwnW.keep {t:TypeId} {base:Nat} {w w':World} {v:Value} {r:List Nat} (h:OwnW t base w v r) (hk:∀ k cs,base<=k->Blk w k t cs->Blk w' k t cs):OwnW t base w' v r:=by
 refine ⟨⟨h.1.1,?_⟩,h.2⟩
 rcases h.1.2 with hn | ⟨g,cap,cur,hv,hb,hg,rest⟩
 ·exact .inl hn
 ·exact .inr ⟨g,cap,cur,hv,hb,hk g cur hb hg,rest⟩
theorem OwnW.kp {t:TypeId} {base:Nat} {w w':World} {v:Value} {r:List Nat} (h:OwnW t base w v r) (hk:Kp (fun _=>True) w w'):OwnW t base w' v r:=h.keep fun k cs _ hb=>hk.blk trivial hb
theorem OwnW.ext {t:TypeId} {base:Nat} {w w':World} {v:Value} {r:List Nat} (h:OwnW t base w v r) (e:Ext w w'):OwnW t base w' v r:=h.kp (Kp.ext e)
theorem OwnW.upd {t t':TypeId} {base b:Nat} {w w':World} {v:Value} {r:List Nat} {cs:Array Value} (h:OwnW t base w v r) (hu:Upd w w' b) (hb:Blk w b t' cs) (ht:t≠t'):OwnW t base w' v r :=
 h.keep fun k c _ hk=>hk.upd hu fun e=>by
  subst e
  have h1:w.heap[k]?=some (.cells c t (0,0)):=hk
  have h2:w.heap[k]?=some (.cells cs t' (0,0)):=hb
  rw [h1] at h2;cases h2;exact ht rfl
theorem OwnW.gblk {t t':TypeId} {base b:Nat} {w w':World} {v:Value} {r:List Nat} {cs:Array Value} (h:OwnW t base w v r) (hg:w.grownBy w' v.ownBlock) (hb:Blk w b t' cs) (ht:t≠t'):Blk w' b t' cs:=by
 refine (hg.block b hb.lt fun e=>?_).trans hb
 rcases h.1.2 with ⟨rfl,_⟩ | ⟨g,cap,cur,rfl,_,hgg,_⟩
 ·simp [Value.ownBlock] at e
 ·have:b=g:=by simpa [Value.ownBlock] using e
  subst this
  have h2:w.heap[b]?=some (.cells cs t' (0,0)):=hb
  rw [hgg] at h2;cases h2;exact ht rfl
theorem OwnW.below {t:TypeId} {base:Nat} {w0 w w':World} {v:Value} {r:List Nat} (h:OwnW t base w v r) (hg:w.grownBy w' v.ownBlock) (hb:Below base w0 w) (hB:base<=w.heap.size):Below base w0 w' :=
 hb.grown hg hB fun k hk=>(h.1.lt k hk).1
theorem OwnW.oth {t:TypeId} {base:Nat} {w w':World} {v:Value} {r:List Nat} (h:OwnW t base w v r) (hg:w.grownBy w' v.ownBlock):Oth w w':=Oth.grown hg h.1
theorem OwnW.made {t:TypeId} {base b c:Nat} {w w':World} (hn:New w w' b t (cellsOf (List.replicate c (.int .u32 0))).toArray) (hb:base<=w.heap.size) (hc:c<=9223372036854775807):OwnW t base w' (.slice (some ⟨b,0,none⟩) 0 c) []:=by
 obtain ⟨_,hk,hb',_⟩:=hn
 refine ⟨⟨rfl,.inr ⟨b,c,_,rfl,by omega,hk,Nat.zero_le _,by simpa [maxLen] using hc,?_,by simp⟩⟩,by simp [dig]⟩
 rw [List.size_toArray,B0 (sz:=1) _ (fun e he=>by rw [(List.mem_replicate.1 he).2];rfl)]
 simp
theorem OwnW.toR {t:TypeId} {base:Nat} {w:World} {v:Value} {r:List Nat} {S:Nat->Prop} (h:OwnW t base w v r) (hS:∀ k,base<=k->S k):eW.R S w v r:=by
 refine RL.ofOwn (E:=eU32) (es:=r.map wv) (base:=base) (t:=t) (n:=r.length) ?_ O ⟨by simp,fun i e x he hx=>?_⟩ hS
 ·rw [E7 wv (fun _=>rfl)];exact h.1
 ·rw [List.getElem?_map,hx] at he
  simp at he
  exact ⟨he.symm,h.2 x (List.mem_iff_getElem?.2 ⟨i,hx⟩)⟩
section
variable {P:Program} {σ:Env} {w:World} {d:Option Tmp} {ty:TypeId} {pos:String} {af:Array Edge} {g:Option (Nat×Bool)}
theorem AR0 {t e:TypeId} {x y:Operand} {base b:Nat} {v:Value} {r:List Nat} {n:Nat} (ht:P.underlying t=some (.slice e)) (hi:infoOf P e=some (.int .u32 0,1,4)) (hx:ev σ x=some v) (hy:ev σ y=some (.slice (some ⟨b,0,none⟩) 1 1))
  (hown:OwnW e base w v r) (hb:Blk w b e #[wv n]) (hn:n<4294967296) (hl:r.length<=1099511627776) (hbase:base<=w.heap.size) :
  Gv P ⟨d,.call { callee:=.builtin .append,args:=#[x,y],argTypes:=#[t,t] },ty,pos,af,g⟩ σ w fun v' w'=>OwnW e base w' v' (r++[n])/\w.grownBy w' v.ownBlock:=by
 refine (Ad9 [wv n] ht hi O (by decide) hx hy hown.1 O (fun j u hu=>?_) (fun u hu=>?_) (by omega) (by omega) hbase).mono ?_
 ·cases j with
  | zero=>simp at hu;subst hu;rw [I9,hb.cell];rfl
  | succ j=>simp at hu
 ·simp at hu;subst hu;rfl
 ·rintro v' w' ⟨h1,h2⟩
  refine ⟨⟨by simpa using h1,?_⟩,h2⟩
  intro y hy
  rcases List.mem_append.1 hy with h | h
  ·exact hown.2 y h
  ·simp at h;subst h;exact hn
end
@[reducible] def Wv (S:Nat->Prop) (n L:Nat):Value->World->Prop:=fun v w=>∃ r,eW.R S w v r/\val r=n/\r.length<=L
theorem st_wv (S:Nat->Prop) (n L:Nat):St (Wv S n L):=fun _ _ _ e ⟨r,h1,h2⟩=>⟨r,h1.ext e,h2⟩
theorem AA0 (l:List Nat) (x:Nat):val (l++[x])=val l+4294967296 ^ l.length*x:=by
 rw [AB5];simp [val]
theorem B5 (l:List Nat) (k:Nat):val (l.take (k+1))=val (l.take k)+4294967296 ^ k*l.getD k 0:=by
 rcases Nat.lt_or_ge k l.length with h | h
 ·rw [List.take_succ_eq_append_getElem h,AA0,List.length_take,Nat.min_eq_left (by omega)]
  simp [List.getD_eq_getElem?_getD,List.getElem?_eq_getElem h]
 ·rw [List.take_of_length_le (by omega),List.take_of_length_le h]
  simp [List.getD_eq_getElem?_getD,List.getElem?_eq_none h]
theorem E3 {l:List Nat} (h:dig l) (k:Nat):l.getD k 0<4294967296:=by
 rw [List.getD_eq_getElem?_getD]
 cases hk:l[k]? with
 | none=>simp
 | some x=>exact h x (List.mem_iff_getElem?.2 ⟨k,hk⟩)
theorem M2 {B D:Nat} {w0 w:World} {o:Obj} (h:Below B w0 w) (hD:B<=D):Below B w0 (w.putObj D o) :=
 h.trans ⟨rfl,rfl,rfl,by simp,fun k hk=>World.putObj_heap_other (by omega)⟩
theorem Kp.put {S:Nat->Prop} {D:Nat} {w:World} {o o':Obj} (hl:w.heap[D]?=some o) (hc:o.isCells=false):Kp S w (w.putObj D o'):=by
 intro k c t f _ hk
 rw [World.putObj_heap_other (fun e=>?_)];exact hk
 subst e
 rw [hl] at hk;cases hk;cases hc
end Go.Kx
namespace Go.Proofs.YtggegpiffjbngaaGreat
open Go Go.Kx Go.RowKit
theorem ty_F:tyOf Tryz.prog 213=some (false,1):=by kernel_rfl
theorem BC3:zeroOf Tryz.prog 213=some .nilFunc:=by kernel_rfl
abbrev carV (b:Nat):Value:=.func (.func 262) #[] #[.pointer (some ⟨b,0,none⟩)]
abbrev cBlk (w:World) (b c:Nat):Prop:=Blk w b 168 #[.int .u64 c]
theorem G9:Ent Tryz.prog 233:=A0 Tryz.func233 (by kernel_rfl) rfl
theorem G7 {w:World} {c:Nat}:CR Tryz.prog 233 #[.int .u64 c] w (fun v w'=>∃ b,v=carV b/\cBlk w' b c/\w.heap.size<=b):=by
 refine enter Tryz.func233 O Tryz.ntmps233 O ?_
 refine .sr ?_
 refine .box O O fun w1 b1 n1=>.an O O ?_
 obtain ⟨e1,k1,hb1,hs1⟩:=n1
 refine .sr ?_
 refine .mkf [] [_] O O O O (.an O O (.ret ?_))
 exact .plain [_] Tryz.results233 ⟨rfl,trivial⟩ ⟨e1,b1,rfl,k1,by omega⟩
theorem H5:Ent Tryz.prog 262:=A0 Tryz.func262 (by kernel_rfl) rfl
theorem H3 {w:World} {b x c:Nat} (hb:cBlk w b c) (h:x+c<18446744073709551616) :
  Calls Tryz.prog 262 (#[.int .u64 x]++#[.pointer (some ⟨b,0,none⟩)]) w fun e w'=>∃ v,e=.returned v/\(v=wv ((x+c) % 4294967296)/\Upd w w' b/\cBlk w' b ((x+c) / 4294967296)):=by
 refine enterG Tryz.func262 O Tryz.ntmps262 O ?_
 refine .sr (.an O O ?_)
 refine .sr (.mv O O (.ld BD1 O O hb O (.add O O O (.an O O ?_))))
 rw [wU (by omega),<-Int.natCast_add]
 refine .sr (.mv O O (.shr O O O (by omega) ?_))
 rw [fdiv32]
 refine .store BD1 O O hb O (by simp) (by simp [one1,Value.cells]) fun w1 k1 u1=>.nil ?_
 refine .sr (.mv O O (.cvt C2 C1 O O (.an O O (.ret ?_))))
 rw [I0]
 exact .plain [_] Tryz.results262 ⟨rfl,trivial⟩ ⟨rfl,u1,k1⟩
theorem AI4:Ent Tryz.prog 268:=A0 Tryz.func268 (by kernel_rfl) rfl
theorem AH2 {w:World} {va vb:Value} {n n' c c':Nat} {a a':Option Addr} (ha:va=.slice a n c) (hb:vb=.slice a' n' c'):CR Tryz.prog 268 #[va,vb] w (fun v w'=>∃ b1 b2,v=.func (.func 275) #[] #[.pointer (some ⟨b1,0,none⟩),.pointer (some ⟨b2,0,none⟩)] /\
  Blk w' b1 50 #[va]/\Blk w' b2 50 #[vb]/\w.heap.size<=b1/\w.heap.size<=b2):=by
 subst ha;subst hb
 refine enter Tryz.func268 O Tryz.ntmps268 O ?_
 refine .sr ?_
 refine .box O O fun w1 b1 n1=>?_
 obtain ⟨e1,k1,hb1,hs1⟩:=n1
 refine .box O O fun w2 b2 n2=>.an O O ?_
 obtain ⟨e2,k2,hb2,hs2⟩:=n2
 refine .sr ?_
 refine .mkf [] [_,_] O O O O (.an O O (.ret ?_))
 exact .plain [_] Tryz.results268 ⟨rfl,trivial⟩ ⟨e1.trans e2,b1,b2,rfl,k1.ext e2,k2,by omega,by have:=e1.size;omega⟩
theorem Ao7:Ent Tryz.prog 275:=A0 Tryz.func275 (by kernel_rfl) rfl
theorem Ak9 {S:Nat->Prop} {a b:List Nat} {va vb:Value} {b1 b2:Nat} (hla:a.length<=9223372036854775806) (hlb:b.length<=9223372036854775806):Iter Tryz.prog 275 #[.pointer (some ⟨b1,0,none⟩),.pointer (some ⟨b2,0,none⟩)] (max a.length b.length)
  (fun k=>[.int .u64 (a.getD k 0),.int .u64 (b.getD k 0)]) (fun W=>Blk W b1 50 #[va]/\Blk W b2 50 #[vb]/\eW.R S W va a/\eW.R S W vb b):=by
 intro l J X stJ stX hF hy W hJ
 have hF0:=hF 0 W hJ
 refine enterG Tryz.func275 O Tryz.ntmps275 O ?_
 refine .sr (.ld ty_W O O hF0.1 O (.lenR un_W O O hF0.2.2.1 (.ld ty_W O O hF0.2.1 O (.lenR un_W O O hF0.2.2.2 (.max_ O O O (.mv O O (.nil ?_)))))))
 refine .block (.loop (α:=Nat) (fun k=>[(12,.int .i64 (k:Nat)),(11,.int .i64 ((max a.length b.length:Nat):Int)),(0,.func (.yield l) #[] #[]),(1,.pointer (some ⟨b1,0,none⟩)),(2,.pointer (some ⟨b2,0,none⟩))]) (fun k W=>J k W/\k<=max a.length b.length) (fun k=>max a.length b.length-k) 0 ?_ ?_ ?_)
 ·refine A5 O (A5 ?_ (lkA O))
  show some (Value.int .i64 (max (a.length:Int) (b.length:Int)))=_
  rw [show (max (a.length:Int) (b.length:Int))=((max a.length b.length:Nat):Int) by omega]
 ·exact ⟨hJ,Nat.zero_le _⟩
 ·rintro k W ⟨hJ,hk⟩
  have hF:=hF k W hJ
  by_cases hlt:k<max a.length b.length
  ·refine .sr (.lssT O O O (by omega) (.nil (.seq (.condT O (.skip ?_)))))
   refine .seq (.block (.sr (.mv O O (.an O O (.sr (.asg O O (.an O O ?_)))))))
   refine .mid (α:=Unit) (fun _=>[(5,.int .u64 (a.getD k 0)),(6,.int .u64 0),(4,.int .i64 (k:Nat)),(12,.int .i64 (k:Nat)),(11,.int .i64 ((max a.length b.length:Nat):Int)),(0,.func (.yield l) #[] #[]),(1,.pointer (some ⟨b1,0,none⟩)),(2,.pointer (some ⟨b2,0,none⟩))]) (fun _ W'=>W'=W) ?_ ?_
   ·refine .sr (.mv O O (.ld ty_W O O hF.1 O (.lenR un_W O O hF.2.2.1 ?_)))
    by_cases hlt:k<a.length
    ·refine .lssT O O O (by omega) (.nil (.condT O (.region (.ld ty_W O O hF.1 O (.mv O O ?_)))))
     refine .ixN un_W A3 O O hF.2.2.1 O (List.getElem?_eq_getElem hlt) fun p hp=>.ldE A3 O O hp fun e he=>?_
     obtain ⟨rfl,hx⟩:=he
     refine .cvt C1 C2 O O (.an O O ⟨rfl,(),?_,rfl⟩)
     rw [wU (by omega)]
     refine A5 ?_ (lkA O)
     rw [List.getD_eq_getElem?_getD (l:=a),List.getElem?_eq_getElem hlt];rfl
    ·refine .lssF O O O (by omega) (.nil (.condF O (.skip ⟨rfl,(),?_,rfl⟩)))
     refine A5 ?_ (lkA O)
     rw [List.getD_eq_getElem?_getD (l:=a),List.getElem?_eq_none (by omega:a.length<=k)];rfl
   ·rintro _ W' rfl
    refine .mid (α:=Unit) (fun _=>[(5,.int .u64 (a.getD k 0)),(6,.int .u64 (b.getD k 0)),(12,.int .i64 (k:Nat)),(11,.int .i64 ((max a.length b.length:Nat):Int)),(0,.func (.yield l) #[] #[]),(1,.pointer (some ⟨b1,0,none⟩)),(2,.pointer (some ⟨b2,0,none⟩))]) (fun _ W''=>W''=W') ?_ ?_
    ·refine .sr (.mv O O (.ld ty_W O O hF.2.1 O (.lenR un_W O O hF.2.2.2 ?_)))
     by_cases hlt:k<b.length
     ·refine .lssT O O O (by omega) (.nil (.condT O (.region (.ld ty_W O O hF.2.1 O (.mv O O ?_)))))
      refine .ixN un_W A3 O O hF.2.2.2 O (List.getElem?_eq_getElem hlt) fun p hp=>.ldE A3 O O hp fun e he=>?_
      obtain ⟨rfl,hx⟩:=he
      refine .cvt C1 C2 O O (.an O O ⟨rfl,(),?_,rfl⟩)
      rw [wU (by omega)]
      refine A5 O (A5 ?_ (lkA O))
      rw [List.getD_eq_getElem?_getD (l:=b),List.getElem?_eq_getElem hlt];rfl
     ·refine .lssF O O O (by omega) (.nil (.condF O (.skip ⟨rfl,(),?_,rfl⟩)))
      refine A5 O (A5 ?_ (lkA O))
      rw [List.getD_eq_getElem?_getD (l:=b),List.getElem?_eq_none (by omega:b.length<=k)];rfl
    ·rintro _ W'' rfl
     refine .sr (.mv O O (.mv O O (.mv O O ?_)))
     refine .yld (l:=l) [.int .u64 (a.getD k 0),.int .u64 (b.getD k 0)] (R:=fun v w'=>(v=.bool true/\J (k+1) w')\/(v=.bool false/\X w')) O O O ?_ ?_
     ·refine YieldAt.mono (hy k _ hlt hJ) ?_
      rintro e W' (⟨rfl,h⟩ | ⟨rfl,h⟩)
      ·exact ⟨_,rfl,.inl ⟨rfl,h⟩⟩
      ·exact ⟨_,rfl,.inr ⟨rfl,h⟩⟩
     ·rintro v w' (⟨rfl,h⟩ | ⟨rfl,h⟩)
      ·refine .not_ O O (.nil (.condF O (.skip (.region (.add O O O (.mv O O (.nil ?_)))))))
       rw [wI (by omega)]
       exact ⟨rfl,k+1,lkA rfl,⟨h,by omega⟩,by omega⟩
      ·refine .not_ O O (.nil (.condT O (.ret ?_)))
       exact .plain [] Tryz.results275 trivial (.inr h)
  ·refine .sr (.lssF O O O (by omega) (.nil (.seq (.condF O (.exit ?_)))))
   refine .plain [] Tryz.results275 trivial ?_
   have:k=max a.length b.length:=by omega
   subst this;exact .inl hJ
structure AddJ (w0:World) (b5 b6 bx p1 p2:Nat) (va vb:Value) (Rel:Nat->List Nat->Nat->Prop) (k:Nat) (W:World):Prop where
 low:Below w0.heap.size w0 W
 f:Blk W b6 213 #[carV bx]
 k1:Blk W p1 50 #[va]
 k2:Blk W p2 50 #[vb]
 acc:∃ v r c,Blk W b5 50 #[v]/\OwnW 91 w0.heap.size W v r/\cBlk W bx c/\Rel k r c
theorem AddJ.sft {w0:World} {b5 b6 bx p1 p2:Nat} {va vb:Value} {Rel:Nat->List Nat->Nat->Prop} {k D:Nat} {W W':World} (h:AddJ w0 b5 b6 bx p1 p2 va vb Rel k W) (hs:Sft D W W') (hD:w0.heap.size<=D):AddJ w0 b5 b6 bx p1 p2 va vb Rel k W':=by
 obtain ⟨v,r,c,h1,h2,h3,h4⟩:=h.acc
 exact ⟨h.low.trans (hs.below.mono hD),hs.cells.blk trivial h.f,hs.cells.blk trivial h.k1,hs.cells.blk trivial h.k2,v,r,c,hs.cells.blk trivial h1,h2.kp hs.cells,hs.cells.blk trivial h3,h4⟩
theorem AB0:Ent Tryz.prog 248:=A0 Tryz.func248 (by kernel_rfl) rfl
theorem Z8 {S:Nat->Prop} {w:World} {va vb:Value} {a b:List Nat} (up:Up S w) (ha:eW.R S w va a) (hb:eW.R S w vb b) (hla:a.length<=1099511627776) (hlb:b.length<=1099511627776) :
  CR Tryz.prog 248 #[va,vb] w (Wv S (val a+val b) (max a.length b.length+1)):=by
 have hda:dig a:=E1 ha
 have hdb:dig b:=E1 hb
 obtain ⟨aa,ca,hva,_⟩:=RL.len ha
 obtain ⟨ab,cb,hvb,_⟩:=RL.len hb
 refine enter Tryz.func248 O Tryz.ntmps248 O ?_
 refine .sr (.an O O ?_)
 refine .sr (.mv O O (.lenR un_W O O ha (.mv O O (.lenR un_W O O hb (.max_ O O O (.add O O O ?_))))))
 rw [show IntKind.i64.wrap (max (a.length:Int) (b.length:Int)+1)=((max a.length b.length+1:Nat):Int) by rw [wI (by omega)];omega]
 refine .make_ 0 _ un_W H0 O (by decide) O O O (Nat.zero_le _) (by omega) (by omega) fun w1 b1 n1=>?_
 have o1:OwnW 91 w.heap.size w1 _ []:=OwnW.made n1 (Nat.le_refl _) (by omega)
 obtain ⟨e1,k1,hb1,hs1⟩:=n1
 refine .alloc O BC2 fun w2 b5 n2=>?_
 obtain ⟨e2,k2,hb5,hs2⟩:=n2
 have o2:=o1.ext e2
 refine .store ty_W O O k2 O (by simp [Value.cells]) (by simp [one1,Value.cells]) fun w3 k3 u3=>.nil ?_
 have o3:=o2.upd u3 k2 (by decide)
 have x3:Ext w w3:=u3.below (e1.trans e2) (by omega)
 refine .sr ?_
 refine .call [.int .u64 (0:Nat)] O G9 O G7 fun v4 w4 e4 h4=>?_
 obtain ⟨bx,rfl,kx,hbx⟩:=h4
 refine .alloc O BC3 fun w5 b6 n5=>?_
 obtain ⟨e5,k5,hb6,hs5⟩:=n5
 have kx5:=kx.ext e5
 refine .store ty_F O O k5 O (by simp [Value.cells]) (by simp [one1,Value.cells]) fun w6 k6 u6=>.nil ?_
 have hbx6:bx≠b6:=by have:=kx.lt;omega
 have s2:b5<w3.heap.size:=k3.lt
 have s4:w3.heap.size<=w4.heap.size:=e4.size
 have hb56:b5≠b6:=by omega
 have kx6:=kx5.upd u6 hbx6
 have k56:=((k3.ext e4).ext e5).upd u6 hb56
 have o6:=((o3.ext e4).ext e5).upd u6 k5 (by decide)
 have x6:Ext w w6:=u6.below ((x3.trans e4).trans e5) (by have:=x3.size;omega)
 refine .seq (.sr (.mv O O (.mv O O ?_)))
 refine .call _ O AI4 O (AH2 hva hvb) fun v7 w7 e7 h7=>.nil ?_
 obtain ⟨p1,p2,rfl,kp1,kp2,hp1,hp2⟩:=h7
 have x7:=x6.trans e7
 have hlt5:b5<w6.heap.size:=k56.lt
 have hlt6:b6<w6.heap.size:=k6.lt
 have hlta:=(ER.lt _ ha)
 have hltb:=(ER.lt _ hb)
 have hS:∀ {W:World},Below w.heap.size w W->eW.R (fun k=>S k/\k<w.heap.size) W va a/\eW.R (fun k=>S k/\k<w.heap.size) W vb b:=fun hB=>⟨eW.keep (fun k c t f hk h=>(hB.block k hk.2).trans h) hlta,eW.keep (fun k c t f hk h=>(hB.block k hk.2).trans h) hltb⟩
 refine .block (.range (Ak9 (S:=fun k=>S k/\k<w.heap.size) (a:=a) (b:=b) (va:=va) (vb:=vb) (by omega) (by omega)) O Ao7 (fun k=>rfl) (by decide)
  (AddJ w b5 b6 bx p1 p2 va vb fun k r c=>r.length=k/\c<=1/\val r+4294967296 ^ k*c=val (a.take k)+val (b.take k)) (fun _ _=>False) (fun k W W' h hs=>h.sft hs x7.size) (fun _ _ _ h _=>h.elim) (fun k W h=>⟨h.k1,h.k2,hS h.low⟩) ?_ ?_ ?_ (fun _ _ h=>h.elim))
 ·exact ⟨x7,k6.ext e7,kp1,kp2,_,[],0,k56.ext e7,o6.ext e7,kx6.ext e7,rfl,by omega,by simp [val]⟩
 ·intro l k W hk hJ
  refine .sr (.an O O (.region (.an O O ⟨rfl,rfl,fun W hJ hsz=>?_⟩)))
  obtain ⟨hlow,hf,hp1,hp2,v,r,c,h5,ho,hx,hr1,hr2,hr3⟩:=hJ
  have hxa:=E3 hda k
  have hxb:=E3 hdb k
  refine .block (.held follows true (fun W'=>Blk W' b5 50 #[v]/\Blk W' b6 213 #[carV bx])
   [some _,some _,some _,some _,some _,none,none,none,none] (by kernel_rfl) ⟨fun _ h=>v_ld ty_W O h.1 rfl,fun _ h=>v_ld ty_F O h.2 rfl,fun _ _=>v_mv rfl,fun _ _=>v_mv rfl,fun _ _=>Au9 O rfl,trivial⟩ ?_)
  intro W1 e1 hh1
  have h5:=h5.ext e1
  have hf:=hf.ext e1
  have ho:=ho.ext e1
  have hx:=hx.ext e1
  have hp1:=hp1.ext e1
  have hp2:=hp2.ext e1
  have hlow1:Below w.heap.size w W1:=hlow.trans (e1.mono hlow.size)
  rw [wU (by omega),<-Int.natCast_add]
  have hbxf:b6≠bx:=fun h=>hbx6 h.symm
  refine .gv ⟨h5,hf⟩ rfl (AE7 [_] O H5 O (H3 hx (by omega))) ?_
  rintro _ W2 ⟨rfl,u2,hx2⟩
  have hb5x:b5≠bx:=by omega
  have h5:=h5.upd u2 hb5x
  have hf:=hf.upd u2 hbxf
  have ho:=ho.upd u2 hx (by decide)
  have oth:Oth W W2:=(Oth.ext e1).trans (Oth.upd u2 hx)
  have hxp1:p1≠bx:=by have:=kx6.lt;omega
  have hxp2:p2≠bx:=by have:=kx6.lt;omega
  have hp1:=hp1.upd u2 hxp1
  have hp2:=hp2.upd u2 hxp2
  have hlow2:Below w.heap.size w W2:=u2.below hlow1 (by have:=x3.size;omega)
  refine .gv ⟨h5,hf⟩ rfl (AT9 _ O AC7) ?_
  rintro _ W3 ⟨b3,rfl,n3⟩
  obtain ⟨e3,k3,hb3,hs3⟩:=n3
  have hlow3:Below w.heap.size w W3:=hlow2.trans (e3.mono hlow2.size)
  refine .gv ⟨h5.ext e3,hf.ext e3⟩ rfl (AR0 (base:=w.heap.size) un_W H0 O O (ho.ext e3) k3 (by omega) (by omega) hlow3.size) ?_
  rintro v4 W4 ⟨ho4,hg4⟩
  have h54:=(ho.ext e3).gblk hg4 (h5.ext e3) (by decide)
  have hf4:=(ho.ext e3).gblk hg4 (hf.ext e3) (by decide)
  have hp14:=(ho.ext e3).gblk hg4 (hp1.ext e3) (by decide)
  have hp24:=(ho.ext e3).gblk hg4 (hp2.ext e3) (by decide)
  have hx4:=(ho.ext e3).gblk hg4 (hx2.ext e3) (by decide)
  have hlow4:=(ho.ext e3).below hg4 hlow3 hlow3.size
  have oth4:=(oth.trans (Oth.ext e3)).trans ((ho.ext e3).oth hg4)
  have hv4:∃ a n c,v4=.slice a n c:=by
   rcases ho4.1.2 with ⟨rfl,_⟩ | ⟨g,cap,cur,rfl,_⟩<;>exact ⟨_,_,_,rfl⟩
  obtain ⟨a4,n4,c4,rfl⟩:=hv4
  refine .gv ⟨h54,hf4⟩ rfl (J0 ty_W O O h54 O (by simp) (by simp [one1,Value.cells])) ?_
  rintro _ W5 ⟨k5,u5⟩
  refine .nil (.inl O) ?_
  refine ⟨oth4.trans (Oth.upd u5 h54),u5.below hlow4 (by have:=x3.size;omega),hf4.upd u5 (Ne.symm hb56),hp14.upd u5 (by omega),hp24.upd u5 (by omega),_,_,_,k5,ho4.upd u5 h54 (by decide),hx4.upd u5 (Ne.symm hb5x),by simp [hr1],by omega,?_⟩
  rw [AA0,B5,B5,hr1]
  have hdm:=Nat.div_add_mod (a.getD k 0+b.getD k 0+c) 4294967296
  generalize (a.getD k 0+b.getD k 0+c) / 4294967296=q at *
  generalize (a.getD k 0+b.getD k 0+c) % 4294967296=m at *
  have:4294967296 ^ k*m+4294967296 ^ (k+1)*q=4294967296 ^ k*(a.getD k 0+b.getD k 0+c):=by
   rw [<-hdm,Nat.pow_succ];grind
  rw [Nat.mul_add,Nat.mul_add] at this
  omega
 ·intro W hJ hD
  obtain ⟨hlow,hf,hp1,hp2,v,r,c,h5,ho,hx,hr1,hr2,hr3⟩:=hJ
  rw [List.take_of_length_le (by omega),List.take_of_length_le (by omega)] at hr3
  refine .seq (.held follows true (fun W'=>Blk W' b5 50 #[v]/\Blk W' b6 213 #[carV bx])
   [some _,some _,none,none,none,none] (by kernel_rfl) ⟨fun _ h=>v_ld ty_W O h.1 rfl,fun _ h=>v_ld ty_F O h.2 rfl,trivial⟩ ?_)
  intro W1 e1 hh1
  have h5:=h5.ext e1
  have hf:=hf.ext e1
  have ho:=ho.ext e1
  have hx:=hx.ext e1
  have hlow1:Below w.heap.size w W1:=hlow.trans (e1.mono hlow.size)
  have hD1:=(Oth.ext e1) _ _ hD rfl
  refine .gv ⟨h5,hf⟩ rfl (AE7 [.int .u64 (0:Nat)] O H5 O (H3 hx (by omega))) ?_
  rintro _ W2 ⟨rfl,u2,hx2⟩
  have hb5x:b5≠bx:=by omega
  have h5:=h5.upd u2 hb5x
  have hf:=hf.upd u2 (Ne.symm hbx6)
  have hD2:=(Oth.upd u2 hx) _ _ hD1 rfl
  have ho:=ho.upd u2 hx (by decide)
  have hlow2:Below w.heap.size w W2:=u2.below hlow1 (by have:=x3.size;omega)
  refine .gv ⟨h5,hf⟩ rfl (AT9 _ O AC7) ?_
  rintro _ W3 ⟨b3,rfl,n3⟩
  obtain ⟨e3,k3,hb3,hs3⟩:=n3
  have hlow3:Below w.heap.size w W3:=hlow2.trans (e3.mono hlow2.size)
  refine .gv ⟨h5.ext e3,hf.ext e3⟩ rfl (AR0 (base:=w.heap.size) un_W H0 O O (ho.ext e3) k3 (by omega) (by omega) hlow3.size) ?_
  rintro v4 W4 ⟨ho4,hg4⟩
  have h54:=(ho.ext e3).gblk hg4 (h5.ext e3) (by decide)
  have hf4:=(ho.ext e3).gblk hg4 (hf.ext e3) (by decide)
  have hlow4:=(ho.ext e3).below hg4 hlow3 hlow3.size
  have hD4:=((Oth.ext e3).trans ((ho.ext e3).oth hg4)) _ _ hD2 rfl
  refine .gv ⟨h54,hf4⟩ rfl (v_as O).gv ?_
  rintro _ _ ⟨rfl,rfl⟩
  refine .nil (.inl O) (.ret ?_)
  refine .mark [_] Tryz.results248 hD4 ⟨rfl,trivial⟩ ⟨M2 hlow4 x7.size,_,(ho4.kp (Kp.put hD4 O)).toR up,?_,by simp;omega⟩
  rw [AA0,hr1,<-hr3,Nat.zero_add,Nat.mod_eq_of_lt (by omega)]
theorem P5:Ent Tryz.prog 249:=A0 Tryz.func249 (by kernel_rfl) rfl
theorem O8 {S:Nat->Prop} {w:World} {va vb:Value} {a b:List Nat} (up:Up S w) (ha:eW.R S w va a) (hb:eW.R S w vb b) (hla:a.length<=1099511627776) (hlb:b.length<=1099511627776) (hab:val b<=val a) :
  CR Tryz.prog 249 #[va,vb] w (Wv S (val a-val b) (max a.length b.length)):=by
 have hda:dig a:=E1 ha
 have hdb:dig b:=E1 hb
 obtain ⟨aa,ca,hva,_⟩:=RL.len ha
 obtain ⟨ab,cb,hvb,_⟩:=RL.len hb
 refine enter Tryz.func249 O Tryz.ntmps249 O ?_
 refine .sr (.an O O ?_)
 refine .sr (.mv O O (.lenR un_W O O ha ?_))
 refine .make_ 0 _ un_W H0 O (by decide) O O O (Nat.zero_le _) (by omega) (by omega) fun w1 b1 n1=>?_
 have o1:OwnW 91 w.heap.size w1 _ []:=OwnW.made n1 (Nat.le_refl _) (by omega)
 obtain ⟨e1,k1,hb1,hs1⟩:=n1
 refine .alloc O BC2 fun w2 b5 n2=>?_
 obtain ⟨e2,k2,hb5,hs2⟩:=n2
 have o2:=o1.ext e2
 refine .store ty_W O O k2 O (by simp [Value.cells]) (by simp [one1,Value.cells]) fun w3 k3 u3=>.nil ?_
 have o3:=o2.upd u3 k2 (by decide)
 have x3:Ext w w3:=u3.below (e1.trans e2) (by omega)
 refine .sr ?_
 refine .call [.int .u64 (1:Nat)] O G9 O G7 fun v4 w4 e4 h4=>?_
 obtain ⟨bx,rfl,kx,hbx⟩:=h4
 refine .alloc O BC3 fun w5 b6 n5=>?_
 obtain ⟨e5,k5,hb6,hs5⟩:=n5
 have kx5:=kx.ext e5
 refine .store ty_F O O k5 O (by simp [Value.cells]) (by simp [one1,Value.cells]) fun w6 k6 u6=>.nil ?_
 have hbx6:bx≠b6:=by have:=kx.lt;omega
 have s2:b5<w3.heap.size:=k3.lt
 have s4:w3.heap.size<=w4.heap.size:=e4.size
 have hb56:b5≠b6:=by omega
 have kx6:=kx5.upd u6 hbx6
 have k56:=((k3.ext e4).ext e5).upd u6 hb56
 have o6:=((o3.ext e4).ext e5).upd u6 k5 (by decide)
 have x6:Ext w w6:=u6.below ((x3.trans e4).trans e5) (by have:=x3.size;omega)
 refine .seq (.sr (.mv O O (.mv O O ?_)))
 refine .call _ O AI4 O (AH2 hva hvb) fun v7 w7 e7 h7=>.nil ?_
 obtain ⟨p1,p2,rfl,kp1,kp2,hp1,hp2⟩:=h7
 have x7:=x6.trans e7
 have hlt5:b5<w6.heap.size:=k56.lt
 have hlt6:b6<w6.heap.size:=k6.lt
 have hlta:=(ER.lt _ ha)
 have hltb:=(ER.lt _ hb)
 have hS:∀ {W:World},Below w.heap.size w W->eW.R (fun k=>S k/\k<w.heap.size) W va a/\eW.R (fun k=>S k/\k<w.heap.size) W vb b:=fun hB=>⟨eW.keep (fun k c t f hk h=>(hB.block k hk.2).trans h) hlta,eW.keep (fun k c t f hk h=>(hB.block k hk.2).trans h) hltb⟩
 refine .block (.range (Ak9 (S:=fun k=>S k/\k<w.heap.size) (a:=a) (b:=b) (va:=va) (vb:=vb) (by omega) (by omega)) O Ao7 (fun k=>rfl) (by decide)
  (AddJ w b5 b6 bx p1 p2 va vb fun k r c=>r.length=k/\c<=1/\val r+4294967296 ^ k*c+val (b.take k)=val (a.take k)+4294967296 ^ k) (fun _ _=>False) (fun k W W' h hs=>h.sft hs x7.size) (fun _ _ _ h _=>h.elim) (fun k W h=>⟨h.k1,h.k2,hS h.low⟩) ?_ ?_ ?_ (fun _ _ h=>h.elim))
 ·exact ⟨x7,k6.ext e7,kp1,kp2,_,[],1,k56.ext e7,o6.ext e7,kx6.ext e7,rfl,by omega,by simp [val]⟩
 ·intro l k W hk hJ
  refine .sr (.an O O (.region (.an O O ⟨rfl,rfl,fun W hJ hsz=>?_⟩)))
  obtain ⟨hlow,hf,hp1,hp2,v,r,c,h5,ho,hx,hr1,hr2,hr3⟩:=hJ
  have hxa:=E3 hda k
  have hxb:=E3 hdb k
  refine .block (.held follows true (fun W'=>Blk W' b5 50 #[v]/\Blk W' b6 213 #[carV bx])
   [some _,some _,some _,some _,some _,some _,none,none,none,none] (by kernel_rfl) ⟨fun _ h=>v_ld ty_W O h.1 rfl,fun _ h=>v_ld ty_F O h.2 rfl,fun _ _=>v_mv rfl,fun _ _=>v_mv rfl,fun _ _=>AX7 O rfl,fun _ _=>Au9 O rfl,trivial⟩ ?_)
  intro W1 e1 hh1
  have h5:=h5.ext e1
  have hf:=hf.ext e1
  have ho:=ho.ext e1
  have hx:=hx.ext e1
  have hp1:=hp1.ext e1
  have hp2:=hp2.ext e1
  have hlow1:Below w.heap.size w W1:=hlow.trans (e1.mono hlow.size)
  rw [show IntKind.u64.wrap (((a.getD k 0:Nat):Int)+IntKind.u64.wrap (4294967295-((b.getD k 0:Nat):Int)))=((a.getD k 0+(4294967295-b.getD k 0):Nat):Int) by rw [wU (n:=4294967295-_) (by omega),wU (by omega)];omega]
  have hbxf:b6≠bx:=fun h=>hbx6 h.symm
  refine .gv ⟨h5,hf⟩ rfl (AE7 [_] O H5 O (H3 hx (by omega))) ?_
  rintro _ W2 ⟨rfl,u2,hx2⟩
  have hb5x:b5≠bx:=by omega
  have h5:=h5.upd u2 hb5x
  have hf:=hf.upd u2 hbxf
  have ho:=ho.upd u2 hx (by decide)
  have oth:Oth W W2:=(Oth.ext e1).trans (Oth.upd u2 hx)
  have hxp1:p1≠bx:=by have:=kx6.lt;omega
  have hxp2:p2≠bx:=by have:=kx6.lt;omega
  have hp1:=hp1.upd u2 hxp1
  have hp2:=hp2.upd u2 hxp2
  have hlow2:Below w.heap.size w W2:=u2.below hlow1 (by have:=x3.size;omega)
  refine .gv ⟨h5,hf⟩ rfl (AT9 _ O AC7) ?_
  rintro _ W3 ⟨b3,rfl,n3⟩
  obtain ⟨e3,k3,hb3,hs3⟩:=n3
  have hlow3:Below w.heap.size w W3:=hlow2.trans (e3.mono hlow2.size)
  refine .gv ⟨h5.ext e3,hf.ext e3⟩ rfl (AR0 (base:=w.heap.size) un_W H0 O O (ho.ext e3) k3 (by omega) (by omega) hlow3.size) ?_
  rintro v4 W4 ⟨ho4,hg4⟩
  have h54:=(ho.ext e3).gblk hg4 (h5.ext e3) (by decide)
  have hf4:=(ho.ext e3).gblk hg4 (hf.ext e3) (by decide)
  have hp14:=(ho.ext e3).gblk hg4 (hp1.ext e3) (by decide)
  have hp24:=(ho.ext e3).gblk hg4 (hp2.ext e3) (by decide)
  have hx4:=(ho.ext e3).gblk hg4 (hx2.ext e3) (by decide)
  have hlow4:=(ho.ext e3).below hg4 hlow3 hlow3.size
  have oth4:=(oth.trans (Oth.ext e3)).trans ((ho.ext e3).oth hg4)
  have hv4:∃ a n c,v4=.slice a n c:=by
   rcases ho4.1.2 with ⟨rfl,_⟩ | ⟨g,cap,cur,rfl,_⟩<;>exact ⟨_,_,_,rfl⟩
  obtain ⟨a4,n4,c4,rfl⟩:=hv4
  refine .gv ⟨h54,hf4⟩ rfl (J0 ty_W O O h54 O (by simp) (by simp [one1,Value.cells])) ?_
  rintro _ W5 ⟨k5,u5⟩
  refine .nil (.inl O) ?_
  refine ⟨oth4.trans (Oth.upd u5 h54),u5.below hlow4 (by have:=x3.size;omega),hf4.upd u5 (Ne.symm hb56),hp14.upd u5 (by omega),hp24.upd u5 (by omega),_,_,_,k5,ho4.upd u5 h54 (by decide),hx4.upd u5 (Ne.symm hb5x),by simp [hr1],by omega,?_⟩
  rw [AA0,B5,B5,hr1]
  have hdm:=Nat.div_add_mod (a.getD k 0+(4294967295-b.getD k 0)+c) 4294967296
  generalize hq:(a.getD k 0+(4294967295-b.getD k 0)+c) / 4294967296=q at *
  generalize hm:(a.getD k 0+(4294967295-b.getD k 0)+c) % 4294967296=m at *
  have h1:4294967296 ^ k*m+4294967296 ^ (k+1)*q=4294967296 ^ k*(a.getD k 0+(4294967295-b.getD k 0)+c):=by
   rw [<-hdm,Nat.pow_succ];grind
  have h2:4294967296 ^ k*(a.getD k 0+(4294967295-b.getD k 0)+c)+4294967296 ^ k*b.getD k 0+4294967296 ^ k=4294967296 ^ k*a.getD k 0+4294967296 ^ k*c+4294967296 ^ (k+1):=by
   have:a.getD k 0+(4294967295-b.getD k 0)+c+b.getD k 0+1=a.getD k 0+c+4294967296:=by omega
   have:=congrArg (4294967296 ^ k*·) this
   simp only [Nat.mul_add,Nat.mul_one] at this
   rw [Nat.pow_succ,Nat.mul_add,Nat.mul_add]
   omega
  omega
 ·intro W hJ hD
  obtain ⟨hlow,hf,hp1,hp2,v,r,c,h5,ho,hx,hr1,hr2,hr3⟩:=hJ
  rw [List.take_of_length_le (by omega),List.take_of_length_le (by omega)] at hr3
  refine .sr (.ld ty_W O O h5 O (.an O O (.ret ?_)))
  refine .mark [_] Tryz.results249 hD ⟨rfl,trivial⟩ ⟨M2 hlow x7.size,r,(ho.kp (Kp.put hD O)).toR up,?_,by omega⟩
  have hlt:=AJ3 ho.2
  rw [hr1] at hlt
  have hc1:c=1:=by
   rcases Nat.lt_or_ge c 1 with h | h
   ·have:c=0:=by omega
    subst this
    rw [Nat.mul_zero] at hr3
    omega
   ·omega
  subst hc1
  rw [Nat.mul_one] at hr3
  omega
end Go.Proofs.YtggegpiffjbngaaGreat
namespace Go.Kx
open Go Go.RowKit
def OB (t:TypeId) (w:World) (g:Nat) (U:List Nat):Prop:=dig U/\∃ cs,Blk w g t cs/\∀ (i x:Nat),U[i]?=some x->cs[i]?=some (wv x)
section
variable {t:TypeId} {w w':World} {g:Nat} {U:List Nat}
theorem OB.lt (h:OB t w g U):g<w.heap.size:=by obtain ⟨_,cs,hb,_⟩:=h;exact hb.lt
theorem OB.ext (h:OB t w g U) (e:Ext w w'):OB t w' g U:=by obtain ⟨hd,cs,hb,hc⟩:=h;exact ⟨hd,cs,hb.ext e,hc⟩
theorem OB.upd {b:Nat} (h:OB t w g U) (u:Upd w w' b) (hne:g≠b):OB t w' g U:=by obtain ⟨hd,cs,hb,hc⟩:=h;exact ⟨hd,cs,hb.upd u hne,hc⟩
theorem OB.toR {S:Nat->Prop} (h:OB t w g U) (hS:S g) (k m c:Nat) (hkm:k+m<=U.length) (hmc:m<=c) (hb:m<=9223372036854775807):eW.R S w (.slice (some ⟨g,k,none⟩) m c) ((U.drop k).take m):=by
 obtain ⟨hd,cs,hB,hc⟩:=h
 have hl:((U.drop k).take m).length=m:=by simp;omega
 refine ⟨((U.drop k).take m).map wv,⟨by simp,fun i e x he hx=>?_⟩,some ⟨g,k,none⟩,c,by rw [hl],by omega,by omega,?_,fun _=>⟨_,rfl,hS,fun j u hu=>?_⟩⟩
 ·rw [List.getElem?_map,hx] at he
  simp at he
  refine ⟨he.symm,hd x ?_⟩
  exact List.mem_of_mem_drop (List.mem_of_mem_take (List.mem_iff_getElem?.2 ⟨i,hx⟩))
 ·rw [E7 wv (fun _=>rfl),List.length_map,hl];exact (Nat.mul_one m).symm
 ·rw [E7 wv (fun _=>rfl),List.getElem?_map] at hu
  rw [I9]
  refine ⟨?_,hB.frozen _⟩
  rw [hB.cell]
  cases hx:((U.drop k).take m)[j]? with
  | none=>rw [hx] at hu;cases hu
  | some x =>
   rw [hx] at hu
   simp at hu
   subst hu
   refine hc _ _ ?_
   rw [List.getElem?_take] at hx
   split at hx
   ·rw [List.getElem?_drop] at hx;exact hx
   ·cases hx
theorem OB.toR0 {S:Nat->Prop} {c:Nat} (h:OB t w g U) (hS:S g) (hmc:U.length<=c) (hb:U.length<=9223372036854775807):eW.R S w (.slice (some ⟨g,0,none⟩) U.length c) U:=by
 have:=h.toR hS 0 U.length c (by omega) hmc hb
 simpa using this
theorem OwnW.ob {base:Nat} {v:Value} (h:OwnW t base w v U) (hne:U≠[]):∃ g cap,v=.slice (some ⟨g,0,none⟩) U.length cap/\U.length<=cap/\cap<=9223372036854775807/\base<=g/\OB t w g U:=by
 rcases h.1.2 with ⟨_,h0⟩ | ⟨g,cap,cur,hv,hb,hg,h1,h2,h3,h4⟩
 ·exact absurd (List.length_eq_zero_iff.1 h0) hne
 ·refine ⟨g,cap,hv,h1,by simpa [maxLen] using h2,hb,h.2,cur,hg,fun i x hx=>?_⟩
  have:(cur.toList.take (U.length*1))[i]?=some (wv x):=by rw [h4,List.getElem?_map,hx];rfl
  rw [List.getElem?_take] at this
  split at this
  ·simpa using this
  ·cases this
theorem OB.made {b c:Nat} (hn:New w w' b t (cellsOf (List.replicate c (.int .u32 0))).toArray):OB t w' b (List.replicate c 0):=by
 obtain ⟨_,hk,_,_⟩:=hn
 refine ⟨fun x hx=>by rw [(List.mem_replicate.1 hx).2];omega,_,hk,fun i x hx=>?_⟩
 have:cellsOf (List.replicate c (Value.int .u32 0))=(List.replicate c 0).map wv:=by
  have h:=E7 wv (fun _=>rfl) (List.replicate c 0)
  rw [<-h,List.map_replicate];rfl
 rw [this]
 simp only [List.getElem?_toArray,List.getElem?_map,hx,Option.map_some]
end
section
variable {P:Program} {ro:Option Nat} {N:Nat} {ds:List Deferred} {ops:Array Oper} {K:Env->World->Prop} {rest:List Oper} {σ:Env} {w:World} {d:Tmp} {ty:TypeId} {pos:String} {af:Array Edge}
theorem Aj2 {dd:Option Tmp} {gd:Option (Nat×Bool)} {t e:TypeId} {x ix:Operand} {k:IntKind} {i:Nat} {b:Bool} {blk off n c:Nat} (ht:P.underlying t=some (.slice e)) (he:tyOf P e=some (b,1)) (hx:ev σ x=some (.slice (some ⟨blk,off,none⟩) n c))
  (hi:ev σ ix=some (.int k (i:Int))) (hlt:i<n):Vl P ⟨dd,.indexAddr t x ix,ty,pos,af,gd⟩ σ w (.pointer (some ⟨blk,off+i,none⟩)):=by
 have:=M6 (d:=dd) (g:=gd) (ty:=ty) (pos:=pos) (af:=af) (w:=w) ht he hx hi hlt
 rwa [Nat.mul_one] at this
theorem WL.ixW {t e:TypeId} {x ix:Operand} {k:IntKind} {i:Nat} {b:Bool} {blk off n c:Nat} (ht:P.underlying t=some (.slice e)) (he:tyOf P e=some (b,1)) (hd:Nat.blt d N=true) (hx:ev σ x=some (.slice (some ⟨blk,off,none⟩) n c))
  (hi:ev σ ix=some (.int k (i:Int))) (hlt:i<n) (kk:WL P ro N ds ops K rest ((d,.pointer (some ⟨blk,off+i,none⟩))::σ) w):WL P ro N ds ops K (⟨some d,.indexAddr t x ix,ty,pos,af,none⟩::rest) σ w :=
 WL.vl O hd (Aj2 ht he hx hi hlt) kk
theorem Au8 {dd:Option Tmp} {gd:Option (Nat×Bool)} {t t':TypeId} {x:Operand} {g i y:Nat} {U:List Nat} (ht:tyOf P t=some (false,1)) (hx:ev σ x=some (.pointer (some ⟨g,i,none⟩))) (h:OB t' w g U) (hi:U[i]?=some y) :
  Vl P ⟨dd,.load t x,ty,pos,af,gd⟩ σ w (wv y):=by
 obtain ⟨_,cs,hb,hc⟩:=h
 exact v_ld ht hx hb (hc i y hi)
theorem WL.ldO {t t':TypeId} {x:Operand} {g i y:Nat} {U:List Nat} (ht:tyOf P t=some (false,1)) (hd:Nat.blt d N=true) (hx:ev σ x=some (.pointer (some ⟨g,i,none⟩))) (h:OB t' w g U) (hi:U[i]?=some y)
  (k:WL P ro N ds ops K rest ((d,wv y)::σ) w):WL P ro N ds ops K (⟨some d,.load t x,ty,pos,af,none⟩::rest) σ w:=WL.vl O hd (Au8 ht hx h hi) k
theorem g_stO {dd:Option Tmp} {gd:Option (Nat×Bool)} {t t':TypeId} {x y:Operand} {g i n:Nat} {U:List Nat} (ht:tyOf P t=some (false,1)) (hx:ev σ x=some (.pointer (some ⟨g,i,none⟩))) (hy:ev σ y=some (wv n)) (h:OB t' w g U) (hi:i<U.length) (hn:n<4294967296) :
  Gv P ⟨dd,.store t x y,ty,pos,af,gd⟩ σ w fun _ w'=>OB t' w' g (U.set i n)/\Upd w w' g:=by
 obtain ⟨hd,cs,hb,hc⟩:=h
 have hsz:i<cs.size:=by
  have:=hc i _ (List.getElem?_eq_getElem hi)
  rcases Nat.lt_or_ge i cs.size with h | h
  ·exact h
  ·rw [Array.getElem?_eq_none h] at this;cases this
 refine (J0 ht hx hy hb O (by omega) (by simp [one1,Value.cells])).mono ?_
 rintro _ w' ⟨h1,h2⟩
 refine ⟨⟨fun x hx=>?_,_,h1,fun j x hx=>?_⟩,h2⟩
 ·rcases List.mem_or_eq_of_mem_set hx with h | h
  ·exact hd x h
  ·omega
 ·have hcl:(wv n).cells.toList=[wv n]:=rfl
  rw [hcl,AF5 _ _ _ _ (by simp;omega),List.length_singleton]
  rw [List.getElem?_set] at hx
  by_cases e:i=j
  ·subst e
   rw [if_pos rfl,if_pos hi] at hx
   cases hx
   rw [if_pos (by omega)]
   simp
  ·rw [if_neg e] at hx
   rw [if_neg (by omega)]
   exact hc j x hx
theorem WL.stO {t t':TypeId} {x y:Operand} {dd:Option Tmp} {g i n:Nat} {U:List Nat} (ht:tyOf P t=some (false,1)) (hd:dd=none) (hx:ev σ x=some (.pointer (some ⟨g,i,none⟩))) (hy:ev σ y=some (wv n)) (h:OB t' w g U) (hi:i<U.length) (hn:n<4294967296)
  (k:∀ w',OB t' w' g (U.set i n)->Upd w w' g->WL P ro N ds ops K rest σ w'):WL P ro N ds ops K (⟨dd,.store t x y,ty,pos,af,none⟩::rest) σ w:=by
 subst hd
 exact WL.gv O O (g_stO ht hx hy h hi hn) fun _ w' ⟨h1,h2⟩=>k w' h1 h2
end
section
variable {P:Program} {σ:Env} {w:World} {d:Option Tmp} {ty:TypeId} {pos:String} {af:Array Edge} {g:Option (Nat×Bool)}
theorem Aw0 {x:Operand} {u:Value} {R:Value->World->Prop} (hx:ev σ x=some u) (h:R u w) (hs:St R):Gv P ⟨d,.assign x,ty,pos,af,g⟩ σ w fun v' w'=>Ext w w'/\Sp.ok (.inr R) v' w' :=
 (v_as hx).gv.mono fun v' w' ⟨e1,e2⟩=>by subst e1;subst e2;exact ⟨Ext.refl _,fun _ e=>hs _ _ _ e h⟩
theorem ob_mv {x:Operand} {u:Value} {R:Value->World->Prop} (hx:ev σ x=some u) (h:R u w) (hs:St R):Gv P ⟨d,.move x,ty,pos,af,g⟩ σ w fun v' w'=>Ext w w'/\Sp.ok (.inr R) v' w' :=
 (v_mv hx).gv.mono fun v' w' ⟨e1,e2⟩=>by subst e1;subst e2;exact ⟨Ext.refl _,fun _ e=>hs _ _ _ e h⟩
theorem AA3 {o:Oper} {u:Value} {R:Value->World->Prop} (hv:Vl P o σ w u) (h:R u w) (hs:St R):Gv P o σ w fun v' w'=>Ext w w'/\Sp.ok (.inr R) v' w' :=
 hv.gv.mono fun v' w' ⟨e1,e2⟩=>by subst e1;subst e2;exact ⟨Ext.refl _,fun _ e=>hs _ _ _ e h⟩
end
theorem AB4 {l:List Nat} {i y:Nat} (x:Nat) (h:l[i]?=some y):val (l.set i x)+4294967296 ^ i*y=val l+4294967296 ^ i*x:=by
 have hlt:i<l.length:=by
  rcases Nat.lt_or_ge i l.length with h' | h'
  ·exact h'
  ·rw [List.getElem?_eq_none h'] at h;cases h
 rw [AF7 h,AF7 (l:=l.set i x) (i:=i) (x:=x) (by rw [List.getElem?_set,if_pos rfl,if_pos hlt])]
 rw [List.take_set_of_le (Nat.le_refl _),List.drop_set_of_lt (by omega)]
 generalize val (l.drop (i+1))=D
 rw [Nat.mul_add,Nat.mul_add]
 omega
theorem shl_nat (x s:Nat) (hs:s<=31) (hx:x<4294967296):IntKind.u64.wrap ((x:Int)*2 ^ (min (s:Int).toNat IntKind.u64.bits))=((x*2 ^ s:Nat):Int):=by
 have h1:min (s:Int).toNat IntKind.u64.bits=s:=by show min (s:Int).toNat 64=s;omega
 rw [h1,show ((x:Int)*2 ^ s)=((x*2 ^ s:Nat):Int) by simp,O7,Nat.mod_eq_of_lt]
 have:2 ^ s<=2 ^ 31:=Nat.pow_le_pow_right (by omega) hs
 have:=Nat.mul_le_mul (show x<=4294967296 by omega) this
 omega
theorem shr_nat (x s:Nat) (hs:s<=63):((x:Int).fdiv ((2:Int) ^ (min (s:Int).toNat IntKind.u64.bits)))=((x / 2 ^ s:Nat):Int):=by
 have h1:min (s:Int).toNat IntKind.u64.bits=s:=by show min (s:Int).toNat 64=s;omega
 rw [h1];exact AF0 x s
theorem BF9 (q x:Nat) (hx:x<4294967296) (hq:q<4294967296):IntKind.u64.wrap (BitVec.ofInt IntKind.u64.bits ((q*4294967296:Nat):Int) ||| BitVec.ofInt IntKind.u64.bits (x:Int)).toNat=((x+4294967296*q:Nat):Int):=by
 rw [Aq9 _ _ (by omega) (by omega),Nat.or_comm,or32 x q hx]
theorem M9 (a b:Nat):(a:Int).tdiv (b:Int)=((a / b:Nat):Int):=rfl
theorem M8 (a b:Nat):(a:Int).tmod (b:Int)=((a % b:Nat):Int):=rfl
end Go.Kx
namespace Go.Proofs.YtggegpiffjbngaaGreat
open Go Go.Kx Go.RowKit
theorem B6 {l:List Nat} {k:Nat} (h:k<l.length):l[k]?=some (l.getD k 0):=by
 rw [List.getD_eq_getElem?_getD,List.getElem?_eq_getElem h];rfl
theorem Y2:Ent Tryz.prog 264:=A0 Tryz.func264 (by kernel_rfl) rfl
theorem V7 {S:Nat->Prop} {w:World} {va:Value} {a:List Nat} {s:Nat} (ha:eW.R S w va a) (hla:a.length<=1099511627776) (hs:s<=31) :
  CR Tryz.prog 264 #[va,.int .u64 s] w (fun v w'=>∃ r,OwnW 91 w.heap.size w' v r/\val r=val a*2 ^ s/\r.length=a.length+1):=by
 have hda:dig a:=E1 ha
 have hp:0<2 ^ s:=Nat.pow_pos (by omega)
 have hp31:2 ^ s<=2 ^ 31:=Nat.pow_le_pow_right (by omega) hs
 refine enter Tryz.func264 O Tryz.ntmps264 O ?_
 refine .sr (.an O O ?_)
 refine .sr ?_
 refine .call [.int .u64 (0:Nat)] O G9 O G7 fun v1 w1 e1 h1=>.an O O ?_
 obtain ⟨bx,rfl,kx,hbx⟩:=h1
 have ha1:=ha.ext e1
 refine .sr (.mv O O (.lenR un_W O O ha1 (.add O O O ?_)))
 rw [show IntKind.i64.wrap ((a.length:Int)+1)=((a.length+1:Nat):Int) by rw [wI (by omega)];omega]
 refine .make_ 0 _ un_W H0 O (by decide) O O O (Nat.zero_le _) (by omega) (by omega) fun w2 b2 n2=>.an O O ?_
 have o2:OwnW 91 w.heap.size w2 _ []:=OwnW.made n2 e1.size (by omega)
 obtain ⟨e2,k2,hb2,hs2⟩:=n2
 have x2:=e1.trans e2
 have hlt:=ER.lt _ ha
 have hS:∀ {W:World},Below w.heap.size w W->eW.R (fun k=>S k/\k<w.heap.size) W va a:=fun hB=>eW.keep (fun k c t f hk h=>(hB.block k hk.2).trans h) hlt
 refine .mid (α:=Value×List Nat) (fun x=>[(6,x.1),(5,carV bx)]) (fun x W=>Below w.heap.size w W/\x.2.length=a.length/\OwnW 91 w.heap.size W x.1 x.2/\∃ c,cBlk W bx c/\c<2 ^ s/\val x.2+4294967296 ^ a.length*c=val a*2 ^ s) ?_ ?_
 ·refine .sr (.mv O O (.lenR un_W O O (hS x2) (.mv O O (.nil ?_))))
  refine .block (.loop (α:=Nat×Value×List Nat×Nat) (fun x=>[(6,x.2.1),(5,carV bx),(14,va),(15,.int .i64 (a.length:Nat)),(16,.int .i64 (x.1:Nat)),(1,.int .u64 s)])
   (fun x W=>Below w.heap.size w W/\x.1<=a.length/\x.2.2.1.length=x.1/\OwnW 91 w.heap.size W x.2.1 x.2.2.1/\cBlk W bx x.2.2.2/\x.2.2.2<2 ^ s/\val x.2.2.1+4294967296 ^ x.1*x.2.2.2=val (a.take x.1)*2 ^ s) (fun x=>a.length-x.1) (0,.slice (some ⟨b2,0,none⟩) 0 (a.length+1),[],0) ?_ ?_ ?_)
  ·exact lkA rfl
  ·exact ⟨x2,Nat.zero_le _,rfl,o2,kx.ext e2,hp,by simp [val]⟩
  ·rintro ⟨i,v,r,c⟩ W ⟨hB,hi,hr,ho,hx,hc,hv⟩
   replace hB:Below w.heap.size w W:=hB
   replace hi:i<=a.length:=hi
   replace hr:r.length=i:=hr
   replace ho:OwnW 91 w.heap.size W v r:=ho
   replace hx:cBlk W bx c:=hx
   replace hc:c<2 ^ s:=hc
   replace hv:val r+4294967296 ^ i*c=val (a.take i)*2 ^ s:=hv
   by_cases hlt:i<a.length
   ·refine .sr (.lssT O O O (by omega) (.nil (.seq (.condT O (.skip (.seq (.block (.sr ?_)))))))) 
    refine .ixN (i:=i) un_W A3 O O (hS hB) O (B6 hlt) fun p hp=>.ldE A3 O O hp fun e he=>?_
    obtain ⟨rfl,hxx⟩:=he
    refine .an O O (.region (.mv O O (.mv O O (.mv O O (.cvt C1 C2 O O (.mv O O (.shl O O O (by omega) ?_)))))))
    rw [wU (n:=((a.getD i 0:Nat):Int)) (by omega),shl_nat _ _ hs hxx]
    have hm:=Nat.mul_le_mul (show a.getD i 0<=4294967295 by omega) (Nat.le_refl (2 ^ s))
    refine .callvG [_] O O H5 O (H3 hx (by omega)) ?_
    rintro _ W2 ⟨rfl,u2,hx2⟩
    have ho2:=ho.upd u2 hx (by decide)
    have hB2:Below w.heap.size w W2:=u2.below hB hbx
    refine .bsl _ O O AC7 fun W3 b3 n3=>?_
    obtain ⟨e3,k3,hb3,hs3⟩:=n3
    have hB3:Below w.heap.size w W3:=hB2.trans (e3.mono hB2.size)
    refine .gv O O (AR0 (base:=w.heap.size) un_W H0 O O (ho2.ext e3) k3 (by omega) (by omega) hB3.size) ?_
    rintro v4 W4 ⟨ho4,hg4⟩
    refine .an O O (.region (.add O O O (.mv O O (.nil ?_))))
    rw [wI (by omega)]
    refine ⟨rfl,(i+1,v4,_,_),lkA rfl,⟨(ho2.ext e3).below hg4 hB3 hB3.size,hlt,by simp [hr],ho4,(ho2.ext e3).gblk hg4 (hx2.ext e3) (by decide),?_,?_⟩,by show a.length-(i+1)<a.length-i;omega⟩
    ·show (a.getD i 0*2 ^ s+c) / 4294967296<2 ^ s
     rw [Nat.div_lt_iff_lt_mul (by omega)]
     omega
    ·show val (r++[(a.getD i 0*2 ^ s+c) % 4294967296])+4294967296 ^ (i+1)*((a.getD i 0*2 ^ s+c) / 4294967296)=val (a.take (i+1))*2 ^ s
     rw [AA0,B5,hr,Nat.add_mul,<-hv]
     have hdm:=Nat.div_add_mod (a.getD i 0*2 ^ s+c) 4294967296
     generalize (a.getD i 0*2 ^ s+c) / 4294967296=q at *
     generalize (a.getD i 0*2 ^ s+c) % 4294967296=m at *
     have:4294967296 ^ i*m+4294967296 ^ (i+1)*q=4294967296 ^ i*(a.getD i 0*2 ^ s+c):=by
      rw [<-hdm,Nat.pow_succ];grind
     rw [Nat.mul_add,<-Nat.mul_assoc] at this
     omega
   ·refine .sr (.lssF O O O (by omega) (.nil (.seq (.condF O (.exit ?_)))))
    have:i=a.length:=by omega
    subst this
    rw [List.take_of_length_le (Nat.le_refl _)] at hv
    exact ⟨rfl,(v,r),lkA rfl,hB,hr,ho,c,hx,hc,hv⟩
 ·rintro ⟨v,r⟩ W ⟨hB,hr,ho,c,hx,hc,hv⟩
  replace hr:r.length=a.length:=hr
  replace ho:OwnW 91 w.heap.size W v r:=ho
  replace hv:val r+4294967296 ^ a.length*c=val a*2 ^ s:=hv
  refine .sr (.mv O O (.mv O O ?_))
  refine .callvG [.int .u64 (0:Nat)] O O H5 O (H3 hx (by omega)) ?_
  rintro _ W2 ⟨rfl,u2,hx2⟩
  have ho2:=ho.upd u2 hx (by decide)
  have hB2:Below w.heap.size w W2:=u2.below hB hbx
  refine .bsl _ O O AC7 fun W3 b3 n3=>?_
  obtain ⟨e3,k3,hb3,hs3⟩:=n3
  have hB3:Below w.heap.size w W3:=hB2.trans (e3.mono hB2.size)
  refine .gv O O (AR0 (base:=w.heap.size) un_W H0 O O (ho2.ext e3) k3 (by omega) (by omega) hB3.size) ?_
  rintro v4 W4 ⟨ho4,hg4⟩
  refine .an O O (.ret ?_)
  refine .plain [_] Tryz.results264 ⟨rfl,trivial⟩ ⟨(ho2.ext e3).below hg4 hB3 hB3.size,_,ho4,?_,by simp [hr]⟩
  rw [AA0,hr,<-hv,Nat.zero_add,Nat.mod_eq_of_lt (by omega)]
theorem AR9:Ent Tryz.prog 181:=A0 Tryz.func181 (by kernel_rfl) rfl
theorem AP7 {S:Nat->Prop} {w:World} {va vb:Value} {a b:List Nat} (up:Up S w) (ha:eW.R S w va a) (hb:eW.R S w vb b) (hla:a.length<=1099511627776) (hlb:b.length<=1099511627776) :
  CR Tryz.prog 181 #[va,vb] w (Wv S (val a*val b) (a.length+b.length)):=by
 have hda:dig a:=E1 ha
 have hdb:dig b:=E1 hb
 have hlta:=ER.lt _ ha
 have hltb:=ER.lt _ hb
 have hSa:∀ {W:World},Below w.heap.size w W->eW.R (fun k=>S k/\k<w.heap.size) W va a:=fun hB=>eW.keep (fun k c t f hk h=>(hB.block k hk.2).trans h) hlta
 have hSb:∀ {W:World},Below w.heap.size w W->eW.R (fun k=>S k/\k<w.heap.size) W vb b:=fun hB=>eW.keep (fun k c t f hk h=>(hB.block k hk.2).trans h) hltb
 refine enter Tryz.func181 O Tryz.ntmps181 O ?_
 refine .sr (.an O O ?_)
 refine .sr (.mv O O (.lenR un_W O O ha (.mv O O (.lenR un_W O O hb (.add O O O ?_)))))
 rw [show IntKind.i64.wrap ((a.length:Int)+(b.length:Int))=((a.length+b.length:Nat):Int) by rw [wI (by omega)];omega]
 refine .make_ _ _ un_W H0 O (by decide) O O O (Nat.le_refl _) (by omega) (by omega) fun w1 g n1=>.an O O ?_
 have o1:OB 91 w1 g (List.replicate (a.length+b.length) 0):=OB.made n1
 obtain ⟨e1,k1,hg,hs1⟩:=n1
 generalize hL:a.length+b.length=L at *
 refine .mid (α:=List Nat) (fun p=>[(5,.slice (some ⟨g,0,none⟩) L L)]) (fun p W=>Below w.heap.size w W/\p.length=L/\OB 91 W g p/\val p=val a*val b) ?_ ?_
 ·refine .sr (.mv O O (.lenR un_W O O (hSa e1) (.mv O O (.nil ?_))))
  refine .block (.loop (α:=Nat×List Nat) (fun x=>[(5,.slice (some ⟨g,0,none⟩) L L),(17,va),(18,.int .i64 (a.length:Nat)),(19,.int .i64 (x.1:Nat)),(1,vb)])
   (fun x W=>Below w.heap.size w W/\x.1<=a.length/\x.2.length=L/\OB 91 W g x.2/\val x.2=val (a.take x.1)*val b/\∀ j,x.1+b.length<=j->x.2.getD j 0=0) (fun x=>a.length-x.1) (0,List.replicate L 0) ?_ ?_ ?_)
  ·exact lkA rfl
  ·refine ⟨e1,Nat.zero_le _,by simp,o1,by simp [val,M5],fun j _=>?_⟩
   rw [List.getD_eq_getElem?_getD,List.getElem?_replicate];split<;>rfl
  ·rintro ⟨i,p⟩ W ⟨hB,hi,hp,ho,hv,hz⟩
   replace hi:i<=a.length:=hi
   replace hp:p.length=L:=hp
   replace ho:OB 91 W g p:=ho
   replace hv:val p=val (a.take i)*val b:=hv
   replace hz:∀ j,i+b.length<=j->p.getD j 0=0:=hz
   by_cases hlt:i<a.length
   ·refine .sr (.lssT O O O (by omega) (.nil (.seq (.condT O (.skip (.seq (.block (.sr (.mv O O ?_))))))))) 
    refine .ixN (i:=i) un_W A3 O O (hSa hB) O (B6 hlt) fun q hq=>.ldE A3 O O hq fun e he=>?_
    obtain ⟨rfl,hxx⟩:=he
    generalize hx:a.getD i 0=x at *
    refine .asg O O (.an O O (.sr ?_))
    refine .call [.int .u64 (0:Nat)] O G9 O G7 fun v1 w1 e1 h1=>.an O O ?_
    obtain ⟨bx,rfl,kx,hbx⟩:=h1
    have hB1:Below w.heap.size w w1:=hB.trans (e1.mono hB.size)
    have hgx:g≠bx:=by have:=ho.lt;omega
    have hwbx:w.heap.size<=bx:=Nat.le_trans hB.size hbx
    refine .mid (α:=List Nat×Nat) (fun _=>[(5,.slice (some ⟨g,0,none⟩) L L),(17,va),(18,.int .i64 (a.length:Nat)),(19,.int .i64 (i:Nat)),(1,vb),(6,.int .i64 (i:Nat)),(8,carV bx)])
     (fun y W=>Below w.heap.size w W/\y.1.length=L/\OB 91 W g y.1/\cBlk W bx y.2/\y.2<4294967296/\val y.1+4294967296 ^ (i+b.length)*y.2=val p+4294967296 ^ i*(x*val b)/\∀ j,i+b.length<=j->y.1.getD j 0=0) ?_ ?_
    ·refine .sr (.mv O O (.lenR un_W O O (hSb hB1) (.mv O O (.nil ?_))))
     refine .block (.loop (α:=Nat×List Nat×Nat) (fun z=>[(5,.slice (some ⟨g,0,none⟩) L L),(17,va),(18,.int .i64 (a.length:Nat)),(19,.int .i64 (i:Nat)),(1,vb),(6,.int .i64 (i:Nat)),(7,wv x),(8,carV bx),(25,vb),(26,.int .i64 (b.length:Nat)),(27,.int .i64 (z.1:Nat))])
      (fun z W=>Below w.heap.size w W/\z.1<=b.length/\z.2.1.length=L/\OB 91 W g z.2.1/\cBlk W bx z.2.2/\z.2.2<4294967296/\val z.2.1+4294967296 ^ (i+z.1)*z.2.2=val p+4294967296 ^ i*(x*val (b.take z.1))/\∀ j,i+b.length<=j->z.2.1.getD j 0=0) (fun z=>b.length-z.1) (0,p,0) ?_ ?_ ?_)
     ·exact lkA rfl
     ·exact ⟨hB1,Nat.zero_le _,hp,ho.ext e1,kx,by show 0<4294967296;omega,by simp [val],hz⟩
     ·rintro ⟨k,u,c⟩ W ⟨hB,hk,hu,ho,hcx,hc,hv,hz⟩
      replace hk:k<=b.length:=hk
      replace hu:u.length=L:=hu
      replace ho:OB 91 W g u:=ho
      replace hcx:cBlk W bx c:=hcx
      replace hc:c<4294967296:=hc
      replace hv:val u+4294967296 ^ (i+k)*c=val p+4294967296 ^ i*(x*val (b.take k)):=hv
      replace hz:∀ j,i+b.length<=j->u.getD j 0=0:=hz
      by_cases hltk:k<b.length
      ·refine .sr (.lssT O O O (by omega) (.nil (.seq (.condT O (.skip (.seq (.block (.sr (.mv O O ?_)))))))))
       refine .ixN (i:=k) un_W A3 O O (hSb hB) O (B6 hltk) fun q hq=>.ldE A3 O O hq fun e he=>?_
       obtain ⟨rfl,hyy⟩:=he
       generalize hy:b.getD k 0=y at *
       refine .asg O O (.an O O (.region ?_))
       have hik:IntKind.i64.wrap ((i:Int)+(k:Int))=((i+k:Nat):Int):=by rw [wI (by omega)];omega
       have hgu:u[i+k]?=some (u.getD (i+k) 0):=B6 (by omega)
       have hud:=E3 ho.1 (i+k)
       refine .mv O O (.mv O O (.mv O O (.add (m:=(i:Int)) (n:=(k:Int)) O O O ?_)))
       rw [hik]
       refine .mv O O (.mv O O (.mv O O (.mv O O (.add (m:=(i:Int)) (n:=(k:Int)) O O O ?_))))
       rw [hik]
       refine .ixB un_W A3 O O O (by omega) ?_
       rw [show 0+(i+k)*1=i+k by omega]
       refine .ldO A3 O O ho hgu ?_
       refine .cvt C1 C2 O O (.mv O O (.cvt C1 C2 O O (.mv O O (.cvt C1 C2 O O (.mul O O O (.add O O O ?_))))))
       generalize hm:u.getD (i+k) 0=m at *
       have hxy:x*y<=4294967295*4294967295:=Nat.mul_le_mul (by omega) (by omega)
       rw [wU (n:=(m:Int)) (by omega),wU (n:=(x:Int)) (by omega),wU (n:=(y:Int)) (by omega),<-Int.natCast_mul,wU (n:=((x*y:Nat):Int)) (by omega),<-Int.natCast_add,wU (n:=((m+x*y:Nat):Int)) (by omega)]
       refine .callvG [_] O O H5 O (H3 hcx (by omega)) ?_
       rintro _ W2 ⟨rfl,u2,hx2⟩
       have hB2:Below w.heap.size w W2:=u2.below hB hwbx
       refine .ixB un_W A3 O O O (by omega) ?_
       rw [show 0+(i+k)*1=i+k by omega]
       refine .stO A3 O O O (ho.upd u2 hgx) (by omega) (by omega) fun W3 ho3 u3=>.nil ?_
       refine .region (.add (m:=(k:Int)) O O O (.mv O O (.nil ?_)))
       rw [wI (n:=(k:Int)+1) (by omega)]
       refine ⟨rfl,(k+1,_,_),lkA rfl,⟨u3.below hB2 (by have:=e1.size;have:=hg;omega),hltk,by simp [hu],ho3,hx2.upd u3 (Ne.symm hgx),?_,?_,?_⟩,by show b.length-(k+1)<b.length-k;omega⟩
       ·show (m+x*y+c) / 4294967296<4294967296
        rw [Nat.div_lt_iff_lt_mul (by omega)]
        omega
       ·show val (u.set (i+k) ((m+x*y+c) % 4294967296))+4294967296 ^ (i+(k+1))*((m+x*y+c) / 4294967296)=val p+4294967296 ^ i*(x*val (b.take (k+1)))
        have h1:=AB4 ((m+x*y+c) % 4294967296) hgu
        rw [B5,hy]
        have hdm:=Nat.div_add_mod (m+x*y+c) 4294967296
        generalize (m+x*y+c) / 4294967296=q at *
        generalize (m+x*y+c) % 4294967296=r at *
        have h2:4294967296 ^ (i+k)*r+4294967296 ^ (i+(k+1))*q=4294967296 ^ (i+k)*(m+x*y+c):=by
         rw [<-hdm,<-Nat.add_assoc,Nat.pow_succ];grind
        have h3:4294967296 ^ i*(x*(val (b.take k)+4294967296 ^ k*y))=4294967296 ^ i*(x*val (b.take k))+4294967296 ^ (i+k)*(x*y):=by
         rw [Nat.pow_add];grind
        rw [h3]
        rw [Nat.mul_add,Nat.mul_add] at h2
        omega
       ·intro j hj
        show (u.set (i+k) ((m+x*y+c) % 4294967296)).getD j 0=0
        rw [List.getD_eq_getElem?_getD,List.getElem?_set_ne (by omega),<-List.getD_eq_getElem?_getD]
        exact hz j hj
      ·refine .sr (.lssF O O O (by omega) (.nil (.seq (.condF O (.exit ?_)))))
       have:k=b.length:=by omega
       subst this
       rw [List.take_of_length_le (Nat.le_refl _)] at hv
       exact ⟨rfl,(u,c),lkA rfl,hB,hu,ho,hcx,hc,hv,hz⟩
    ·rintro ⟨u,c⟩ W ⟨hB,hu,ho,hcx,hc,hv,hz⟩
     replace hu:u.length=L:=hu
     replace ho:OB 91 W g u:=ho
     replace hcx:cBlk W bx c:=hcx
     replace hc:c<4294967296:=hc
     replace hv:val u+4294967296 ^ (i+b.length)*c=val p+4294967296 ^ i*(x*val b):=hv
     replace hz:∀ j,i+b.length<=j->u.getD j 0=0:=hz
     have hib:IntKind.i64.wrap ((i:Int)+(b.length:Int))=((i+b.length:Nat):Int):=by rw [wI (by omega)];omega
     refine .region (.mv O O (.mv O O (.mv O O (.lenR un_W O O (hSb hB) (.add O O O ?_)))))
     rw [hib]
     refine .mv O O (.callvG [.int .u64 (0:Nat)] O O H5 O (H3 hcx (by omega)) ?_)
     rintro _ W2 ⟨rfl,u2,hx2⟩
     rw [Nat.zero_add,Nat.mod_eq_of_lt hc]
     refine .ixB un_W A3 O O O (by omega) ?_
     rw [show 0+(i+b.length)*1=i+b.length by omega]
     refine .stO A3 O O O (ho.upd u2 hgx) (by omega) hc fun W3 ho3 u3=>.nil (.region (.add (m:=(i:Int)) O O O (.mv O O (.nil ?_))))
     rw [wI (n:=(i:Int)+1) (by omega)]
     have hB2:Below w.heap.size w W2:=u2.below hB hwbx
     refine ⟨rfl,(i+1,u.set (i+b.length) c),lkA rfl,⟨u3.below hB2 (by omega),hlt,by simp [hu],ho3,?_,?_⟩,by show a.length-(i+1)<a.length-i;omega⟩
     ·show val (u.set (i+b.length) c)=val (a.take (i+1))*val b
      have h1:=AB4 c (B6 (l:=u) (k:=i+b.length) (by omega))
      rw [hz _ (Nat.le_refl _)] at h1
      rw [B5,hx,Nat.add_mul,Nat.mul_assoc]
      replace hv0:val p=val (a.take i)*val b:=by assumption
      omega
     ·intro j hj
      have hj:i+1+b.length<=j:=hj
      show (u.set (i+b.length) c).getD j 0=0
      rw [List.getD_eq_getElem?_getD,List.getElem?_set_ne (by omega),<-List.getD_eq_getElem?_getD]
      exact hz j (by omega)
   ·refine .sr (.lssF O O O (by omega) (.nil (.seq (.condF O (.exit ?_)))))
    have:i=a.length:=by omega
    subst this
    rw [List.take_of_length_le (Nat.le_refl _)] at hv
    exact ⟨rfl,p,lkA rfl,hB,hp,ho,hv⟩
 ·rintro p W ⟨hB,hp,ho,hv⟩
  subst hp
  refine .sr (.mv O O (.an O O (.ret ?_)))
  refine .plain [_] Tryz.results181 ⟨rfl,trivial⟩ ⟨hB,p,ho.toR0 (up g (by omega)) (Nat.le_refl _) (by omega),hv,by omega⟩
theorem v_istr {P:Program} {σ:Env} {w:World} {d:Option Tmp} {ty:TypeId} {pos:String} {af:Array Edge} {g:Option (Nat×Bool)} {t:TypeId} {x ix:Operand} {s:ByteArray} {k:IntKind} {i:Nat} {b:UInt8} (ht:P.underlying t=some .string) (hx:ev σ x=some (.string s))
  (hi:ev σ ix=some (.int k (i:Int))) (hb:s[i]?=some b):Vl P ⟨d,.index t x ix,ty,pos,af,g⟩ σ w (.int .u8 b.toNat):=by
 refine ⟨(by intro _ h;cases h),fun ρ hρ=>?_⟩
 have h1:=hρ x _ (by simp [Op.operands]) hx
 have h2:=hρ ix _ (by simp [Op.operands]) hi
 simp [execOp,h1,h2,Instr.index,asIntOf,run_underlying ht,hb]
theorem un_str:Tryz.prog.underlying 9=some .string:=by kernel_rfl
theorem AY1:Tryz.prog.underlying 5=some (.int .u8):=by kernel_rfl
@[reducible] def LenP (x:Nat):Value->World->Prop:=fun v _=>∃ L:Nat,v=.int .i64 L/\L<=32/\x<2 ^ L/\(0<x->0<L)
theorem E_Len32:Ent Tryz.prog 260:=A0 Tryz.func260 (by kernel_rfl) rfl
theorem Len32_c {w:World} {x:Nat} (hx:x<4294967296):CR Tryz.prog 260 #[.int .u32 x] w (LenP x):=by
 refine enter Tryz.func260 O Tryz.ntmps260 O ?_
 refine .sr (.an O O ?_)
 refine .mid (α:=Nat×Nat) (fun y=>[(0,.int .u32 (y.1:Nat)),(2,.int .i64 (y.2:Nat))]) (fun y W=>W=w/\y.1<65536/\y.2<=16/\(∀ L,y.1<2 ^ L->x<2 ^ (y.2+L))/\(0<x->0<y.1+y.2)) ?_ ?_
 ·refine .sr (.mv O O ?_)
  by_cases h:65536<=x
  ·refine .geqT O O O (by omega) (.nil (.condT O (.sr (.mv O O (.shr O O O (by decide) (.an O O (.region (.an O O ?_))))))))
   have:((x:Int).fdiv ((2:Int) ^ (min (16:Int).toNat IntKind.u32.bits)))=((x / 65536:Nat):Int):=AF0 x 16
   rw [this]
   refine ⟨rfl,(x / 65536,16),lkA rfl,rfl,by show x / 65536<65536;omega,Nat.le_refl _,fun L hL=>?_,fun _=>by show 0<x / 65536+16;omega⟩
   replace hL:x / 65536<2 ^ L:=hL
   rw [Nat.div_lt_iff_lt_mul (by omega)] at hL
   show x<2 ^ (16+L)
   rw [Nat.pow_add];omega
  ·refine .geqF O O O (by omega) (.nil (.condF O (.skip ?_)))
   exact ⟨rfl,(x,0),lkA rfl,rfl,by show x<65536;omega,Nat.zero_le _,fun L hL=>by simpa using hL,fun h=>by show 0<x+0;omega⟩
 ·rintro ⟨y,n⟩ W ⟨rfl,hy,hn,hL,h0⟩
  replace hy:y<65536:=hy
  replace hn:n<=16:=hn
  replace hL:∀ L,y<2 ^ L->x<2 ^ (n+L):=hL
  replace h0:0<x->0<y+n:=h0
  refine .mid (α:=Nat×Nat) (fun y=>[(0,.int .u32 (y.1:Nat)),(2,.int .i64 (y.2:Nat))]) (fun y W'=>W'=W/\y.1<256/\y.2<=24/\(∀ L,y.1<2 ^ L->x<2 ^ (y.2+L))/\(0<x->0<y.1+y.2)) ?_ ?_
  ·refine .sr (.mv O O ?_)
   by_cases h:256<=y
   ·refine .geqT O O O (by show (256:Int)<=(y:Int);omega) (.nil (.condT O (.sr (.mv O O (.shr (m:=(y:Int)) O O O (by decide) (.an O O (.region (.mv O O (.add (m:=(n:Int)) O O O (.an O O ?_))))))))))
    have:((y:Int).fdiv ((2:Int) ^ (min (8:Int).toNat IntKind.u32.bits)))=((y / 256:Nat):Int):=AF0 y 8
    rw [this,wI (by omega)]
    refine ⟨rfl,(y / 256,n+8),lkA rfl,rfl,by show y / 256<256;omega,by show n+8<=24;omega,fun L hL'=>?_,fun _=>by show 0<y / 256+(n+8);omega⟩
    replace hL':y / 256<2 ^ L:=hL'
    rw [Nat.div_lt_iff_lt_mul (by omega)] at hL'
    show x<2 ^ (n+8+L)
    rw [Nat.add_assoc]
    refine hL _ ?_
    rw [Nat.pow_add];omega
   ·refine .geqF O O O (by show ¬ (256:Int)<=(y:Int);omega) (.nil (.condF O (.skip ?_)))
    exact ⟨rfl,(y,n),lkA rfl,rfl,by show y<256;omega,by show n<=24;omega,hL,h0⟩
  ·rintro ⟨y,n⟩ W ⟨rfl,hy,hn,hL,h0⟩
   replace hy:y<256:=hy
   replace hn:n<=24:=hn
   replace hL:∀ L,y<2 ^ L->x<2 ^ (n+L):=hL
   replace h0:0<x->0<y+n:=h0
   refine .sr (.mv O O (.mv O O (.cvt (m:=(y:Int)) C1 AY1 O O ?_)))
   rw [show IntKind.u8.wrap (y:Int)=(y:Int) by rw [IntKind.wrap_u8];omega]
   have hall:∀ s:ByteArray,((List.range 256).all fun i=>match s[i]? with | some b=>Nat.blt i (2 ^ b.toNat) && Nat.ble b.toNat 8 && (Nat.beq i 0 || Nat.blt 0 b.toNat) | none=>false)=true->∃ b,s[y]?=some b/\y<2 ^ b.toNat/\b.toNat<=8/\(0<y->0<b.toNat):=by
    intro s hs
    have:=List.all_eq_true.1 hs y (List.mem_range.2 hy)
    cases hb:s[y]? with
    | none=>rw [hb] at this;cases this
    | some b =>
     rw [hb] at this
     simp only [Bool.and_eq_true,Bool.or_eq_true,Nat.blt_eq,Nat.ble_eq,Nat.beq_eq] at this
     exact ⟨b,rfl,this.1.1,this.1.2,fun h=>this.2.resolve_left (by omega)⟩
   obtain ⟨b,hb1,hb2,hb3,hb4⟩:=hall _ (by kernel_rfl)
   refine .gv O O (v_istr (i:=y) un_str O O hb1).gv ?_
   rintro _ _ ⟨rfl,rfl⟩
   refine .cvt AY1 AB7 O O (.add O O O (.an O O (.ret ?_)))
   rw [wI (n:=((b.toNat:Nat):Int)) (by omega),wI (by omega),<-Int.natCast_add]
   refine .plain [_] Tryz.results260 ⟨rfl,trivial⟩ ⟨.refl _,n+b.toNat,rfl,by omega,hL _ hb2,fun h=>?_⟩
   have:=h0 h
   rcases Nat.eq_zero_or_pos n with h' | h'
   ·have:=hb4 (by omega);omega
   ·omega
theorem AS4:Ent Tryz.prog 263:=A0 Tryz.func263 (by kernel_rfl) rfl
theorem AR7 {w:World} {x:Nat} (hx:x<4294967296) (h0:0<x):CR Tryz.prog 263 #[.int .u32 x] w (fun v _=>∃ s:Nat,v=.int .i64 s/\s<=31/\x*2 ^ s<4294967296):=by
 refine enter Tryz.func263 O Tryz.ntmps263 O ?_
 refine .sr (.an O O (.sr (.mv O O ?_)))
 refine .call _ O E_Len32 O (Len32_c hx) fun v w1 e1 h1=>?_
 obtain ⟨L,rfl,hL,hxL,hL0⟩:=h1
 refine .sub O O O (.an O O (.ret ?_))
 rw [wI (by omega),show ((32:Int)-(L:Int))=((32-L:Nat):Int) by omega]
 refine .plain [_] Tryz.results263 ⟨rfl,trivial⟩ ⟨e1,32-L,rfl,by have:=hL0 h0;omega,?_⟩
 have:2 ^ L*2 ^ (32-L)=4294967296:=by rw [<-Nat.pow_add,show L+(32-L)=32 by omega]
 rw [<-this]
 exact Nat.mul_lt_mul_of_pos_right hxL (Nat.pow_pos (by omega))
theorem AR8:Ent Tryz.prog 234:=A0 Tryz.func234 (by kernel_rfl) rfl
theorem AP6 {w:World} {g c:Nat} {U:List Nat} {d:Nat} (ho:OB 91 w g U) (hd0:0<d) (hd:d<4294967296) (hl:U.length<=1099511627776) :
  Calls Tryz.prog 234 #[.slice (some ⟨g,0,none⟩) U.length c,.int .u64 d] w fun e w'=>∃ v,e=.returned v/\(v=.int .u64 (val U % d:Nat)/\Upd w w' g/\∃ V,OB 91 w' g V/\V.length=U.length/\val V=val U / d):=by
 refine enterG Tryz.func234 O Tryz.ntmps234 O ?_
 refine .sr (.an O O (.sr (.an O O ?_)))
 refine .mid (α:=List Nat) (fun V=>[(5,.int .u64 (val U % d:Nat))]) (fun V W=>Upd w W g/\OB 91 W g V/\V.length=U.length/\val V=val U / d) ?_ ?_
 ·refine .sr (.mv O O (.len un_W O O (.sub O O O (.an O O ?_))))
  rw [wI (by omega)]
  refine .block (.loop (α:=Nat×List Nat×Nat) (fun x=>[(0,.slice (some ⟨g,0,none⟩) U.length c),(1,.int .u64 d),(5,.int .u64 (x.2.2:Nat)),(6,.int .i64 ((x.1:Int)-1))])
   (fun x W=>Upd w W g/\OB 91 W g x.2.1/\x.2.1.length=U.length/\x.1<=U.length/\x.2.1.take x.1=U.take x.1/\x.2.2<d/\val (x.2.1.drop x.1)*d+x.2.2=val (U.drop x.1)) (fun x=>x.1) (U.length,U,0) ?_ ?_ ?_)
  ·exact lkA rfl
  ·refine ⟨Upd.refl _ _,ho,rfl,Nat.le_refl _,rfl,hd0,?_⟩
   show val (U.drop U.length)*d+0=val (U.drop U.length)
   rw [List.drop_of_length_le (Nat.le_refl _)];simp [val]
  ·rintro ⟨j,V,r⟩ W ⟨hu,ho,hV,hj,ht,hr,hv⟩
   replace ho:OB 91 W g V:=ho
   replace hV:V.length=U.length:=hV
   replace hj:j<=U.length:=hj
   replace ht:V.take j=U.take j:=ht
   replace hr:r<d:=hr
   replace hv:val (V.drop j)*d+r=val (U.drop j):=hv
   rcases Nat.eq_zero_or_pos j with hj0 | hj0
   ·subst hj0
    refine .seq (.sr (.mv O O (.geqF O O O (by show ¬ (0:Int)<=((0:Nat):Int)-1;omega) (.nil (.condF O (.exit ?_))))))
    simp only [List.drop_zero] at hv
    have h1:val U % d=r:=by rw [<-hv,Nat.mul_comm,Nat.mul_add_mod,Nat.mod_eq_of_lt hr]
    have h2:val U / d=val V:=by rw [<-hv,Nat.mul_comm,Nat.mul_add_div hd0,Nat.div_eq_of_lt hr];omega
    rw [h1,h2]
    exact ⟨rfl,V,lkA rfl,hu,ho,hV,rfl⟩
   ·obtain ⟨i,rfl⟩:∃ i,j=i+1:=⟨j-1,by omega⟩
    have hi:((i+1:Nat):Int)-1=(i:Int):=by omega
    have hgi:V[i]?=some (V.getD i 0):=B6 (by omega)
    have hdi:=E3 ho.1 i
    generalize hx:V.getD i 0=x at *
    refine .seq (.sr (.mv (v:=.int .i64 (i:Int)) O (by rw [<-hi];rfl) (.geqT O O O (by omega) (.nil (.condT O (.skip (.seq (.block (.sr ?_))))))))) 
    refine .mv O O (.shl (m:=(r:Int)) O O O (by decide) ?_)
    rw [shl32 r (by omega)]
    refine .mv O O (.mv (v:=.int .i64 (i:Int)) O (by rw [<-hi];rfl) (.ixB un_W A3 O O O (by omega) ?_))
    rw [show 0+i*1=i by omega]
    refine .ldO A3 O O ho hgi (.cvt C1 C2 O O ?_)
    rw [wU (n:=(x:Int)) (by omega)]
    refine .or_ O O O ?_
    rw [BF9 r x hdi (by omega)]
    have hlt:x+4294967296*r<4294967296*d:=by
     have:4294967296*(r+1)<=4294967296*d:=Nat.mul_le_mul_left _ hr
     omega
    have hq:(x+4294967296*r) / d<4294967296:=by
     rw [Nat.div_lt_iff_lt_mul hd0];exact hlt
    have hq64:x+4294967296*r<18446744073709551616:=by omega
    refine .an O O (.sr (.mv O O (.mv (v:=.int .i64 (i:Int)) O (by rw [<-hi];rfl) (.mv O O (.mv O O (.quo O O O (by omega) ?_))))))
    rw [M9,O7,Nat.mod_eq_of_lt (Nat.lt_trans hq (by omega))]
    refine .cvt C2 C1 O O ?_
    rw [I0,Nat.mod_eq_of_lt hq]
    refine .ixB un_W A3 O O O (by omega) ?_
    rw [show 0+i*1=i by omega]
    refine .stO A3 O O O ho (by omega) hq fun W2 ho2 u2=>.nil (.region (.mv O O (.mv O O (.rem O O O (by omega) ?_))))
    rw [M8]
    refine .an O O (.region (.mv (v:=.int .i64 (i:Int)) O (by rw [<-hi];rfl) (.sub O O O (.an O O ?_))))
    rw [wI (n:=(i:Int)-1) (by omega)]
    refine ⟨rfl,(i,V.set i ((x+4294967296*r) / d),(x+4294967296*r) % d),lkA rfl,⟨hu.trans u2,ho2,by simp [hV],by show i<=U.length;omega,?_,Nat.mod_lt _ hd0,?_⟩,Nat.lt_succ_self i⟩
    ·show (V.set i _).take i=U.take i
     rw [List.take_set_of_le (Nat.le_refl _)]
     have:=congrArg (List.take i) ht
     rw [List.take_take,List.take_take] at this
     simpa using this
    ·show val ((V.set i ((x+4294967296*r) / d)).drop i)*d+(x+4294967296*r) % d=val (U.drop i)
     have hUi:U[i]?=some x:=by
      have:=congrArg (fun l=>l[i]?) ht
      simp only [List.getElem?_take] at this
      rw [if_pos (by omega),if_pos (by omega)] at this
      rw [<-this];exact hgi
     have e1:(V.set i ((x+4294967296*r) / d)).drop i=((x+4294967296*r) / d)::V.drop (i+1):=by
      rw [List.drop_eq_getElem_cons (by simp;omega),List.getElem_set_self,List.drop_set_of_lt (by omega)]
     have e2:U.drop i=x::U.drop (i+1):=by
      rw [List.drop_eq_getElem_cons (by omega)]
      rw [List.getElem?_eq_getElem (by omega)] at hUi
      rw [Option.some.inj hUi]
     rw [e1,e2,val,val,<-hv]
     have hdm:=Nat.div_add_mod (x+4294967296*r) d
     generalize (x+4294967296*r) / d=q at *
     generalize (x+4294967296*r) % d=m at *
     rw [Nat.add_mul,Nat.mul_add,Nat.mul_comm q d,Nat.mul_assoc]
     omega
 ·rintro V W ⟨hu,ho,hV,hv⟩
  refine .sr (.mv O O (.an O O (.ret ?_)))
  exact .plain [_] Tryz.results234 ⟨rfl,trivial⟩ ⟨rfl,hu,V,ho,hV,hv⟩
end Go.Proofs.YtggegpiffjbngaaGreat
namespace Go.Kx
section
variable {B p U V U0 V0 u0 top v1 v2 g r:Nat}
theorem BA5 (hp:0<p) (hB:0<B) (hU:U=U0+p*(u0+B*top)) (hV:V=V0+p*(v2+B*v1)) (hU0:U0<p) (hu0:u0<B) (h1:0<v1):U / V<=top / v1:=by
 have hVp:0<V:=by
  have:0<p*(v2+B*v1):=Nat.mul_pos hp (by have:=Nat.mul_pos hB h1;omega)
  omega
 have hlt:top+1<=v1*(top / v1+1):=by
  have:=Nat.lt_mul_div_succ top h1
  omega
 have:U<V*(top / v1+1):=by
  have e1:U<p*(B*(top+1)):=by
   rw [hU]
   have:u0+B*top+1<=B*(top+1):=by rw [Nat.mul_add];omega
   have:=Nat.mul_le_mul_left p this
   rw [Nat.mul_add] at this
   omega
  have e2:p*(B*(top+1))<=p*(B*(v1*(top / v1+1))):=Nat.mul_le_mul_left _ (Nat.mul_le_mul_left _ hlt)
  have e3:p*(B*(v1*(top / v1+1)))<=V*(top / v1+1):=by
   have:p*(B*(v1*(top / v1+1)))=(p*(B*v1))*(top / v1+1):=by simp only [Nat.mul_assoc]
   rw [this]
   refine Nat.mul_le_mul_right _ ?_
   rw [hV,Nat.mul_add];omega
  omega
 have:=(Nat.div_lt_iff_lt_mul hVp).2 (by rw [Nat.mul_comm];exact this)
 omega
theorem BH6 (hp:0<p) (hB:0<B) (hU:U=U0+p*(u0+B*top)) (hV:V=V0+p*(v2+B*v1)) (hU0:U0<p) (h1:0<v1) (ht:g*v1+r=top) (h:r*B+u0<g*v2):U / V<g:=by
 have hVp:0<V:=by
  have:0<p*(v2+B*v1):=Nat.mul_pos hp (by have:=Nat.mul_pos hB h1;omega)
  omega
 rw [Nat.div_lt_iff_lt_mul hVp]
 have e1:u0+B*top+1<=g*(v2+B*v1):=by
  have:g*(v2+B*v1)=g*v2+B*(g*v1):=by grind
  rw [this,<-ht,Nat.mul_add,Nat.mul_comm B r]
  omega
 have e2:p*(u0+B*top+1)<=g*V:=by
  rw [hV,Nat.mul_add g]
  have:=Nat.mul_le_mul_left p e1
  have e:p*(g*(v2+B*v1))=g*(p*(v2+B*v1)):=by grind
  omega
 rw [Nat.mul_add] at e2
 omega
theorem BH5 (hp:0<p) (hB:0<B) (hU:U=U0+p*(u0+B*top)) (hV:V=V0+p*(v2+B*v1)) (hV0:V0<p) (h1:0<v1) (ht:g*v1+r=top) (hg:g<B) (h:g*v2<=r*B+u0):g<=U / V+1:=by
 have hVp:0<V:=by
  have:0<p*(v2+B*v1):=Nat.mul_pos hp (by have:=Nat.mul_pos hB h1;omega)
  omega
 have e1:g*(v2+B*v1)<=u0+B*top:=by
  have:g*(v2+B*v1)=g*v2+B*(g*v1):=by grind
  rw [this,<-ht,Nat.mul_add,Nat.mul_comm B r]
  omega
 have e2:g*V<=g*V0+U:=by
  rw [hV,Nat.mul_add]
  have:=Nat.mul_le_mul_left p e1
  have e:p*(g*(v2+B*v1))=g*(p*(v2+B*v1)):=by grind
  omega
 have e3:g*V0<V:=by
  have h2:g*V0<B*p:=Nat.mul_lt_mul'' hg hV0
  have h3:B*p<=p*(v2+B*v1):=by
   rw [Nat.mul_comm B p]
   refine Nat.mul_le_mul_left _ ?_
   have:=Nat.mul_le_mul_left B h1
   omega
  omega
 have e4:U<V*(U / V+1):=Nat.lt_mul_div_succ U hVp
 have e5:V*g<V*(U / V+2):=by
  rw [show U / V+2=(U / V+1)+1 from rfl,Nat.mul_add V (U / V+1),Nat.mul_one,Nat.mul_comm V g]
  omega
 have:=Nat.lt_of_mul_lt_mul_left e5
 omega
theorem BA6 (hp:0<p) (hB:0<B) (hU:U=U0+p*(u0+B*top)) (hV:V=V0+p*(v2+B*v1)) (hV0:V0<p) (hv2:v2<B) (ht:g*v1+r=top) (hUV:U<B*V) (hr:B<=r):g<B:=by
 rcases Nat.lt_or_ge g B with h | h
 ·exact h
 ·exfalso
  have h1:p*(B*top)<=U:=by rw [hU,Nat.mul_add];omega
  have h2:V<p*(v2+B*v1+1):=by rw [hV,Nat.mul_add p (v2+B*v1)];omega
  have h3:p*(B*top)<p*(B*(v2+B*v1+1)):=by
   have:B*V<B*(p*(v2+B*v1+1)):=Nat.mul_lt_mul_of_pos_left h2 hB
   have e:B*(p*(v2+B*v1+1))=p*(B*(v2+B*v1+1)):=by grind
   omega
  have h4:top<v2+B*v1+1:=Nat.lt_of_mul_lt_mul_left (Nat.lt_of_mul_lt_mul_left h3)
  have h5:B*v1<=g*v1:=Nat.mul_le_mul_right _ h
  omega
theorem BA7 (hp:0<p) (hB:0<B) (hU:U=U0+p*(u0+B*top)) (hV:V=V0+p*(v2+B*v1)) (hV0:V0<p) (hv2:v2<B) (h1:0<v1) (ht:g*v1+r=top) (hg:g<B) (hr:B<=r):g<=U / V:=by
 have hVp:0<V:=by
  have:0<p*(v2+B*v1):=Nat.mul_pos hp (by have:=Nat.mul_pos hB h1;omega)
  omega
 rw [Nat.le_div_iff_mul_le hVp]
 have e0:g*V<=p*(g+g*v2+B*(g*v1)):=by
  have h2:g*V0<=g*p:=Nat.mul_le_mul_left _ (Nat.le_of_lt hV0)
  have e:p*(g+g*v2+B*(g*v1))=g*p+g*(p*(v2+B*v1)):=by grind
  rw [hV,Nat.mul_add,e];omega
 have e1:g+g*v2<=B*g:=by
  have:=Nat.mul_le_mul_left g (show v2+1<=B from hv2)
  rw [Nat.mul_add,Nat.mul_one,Nat.mul_comm g B] at this
  omega
 have e2:g+g*v2+B*(g*v1)<=B*top:=by
  rw [<-ht,Nat.mul_add B]
  have:=Nat.mul_le_mul_left B (show g<=r by omega)
  omega
 have e3:=Nat.mul_le_mul_left p e2
 rw [hU,Nat.mul_add]
 omega
end
theorem K8 (l:List Nat) (k:Nat) (hk:k<=l.length):val l=val (l.take k)+4294967296 ^ k*val (l.drop k):=by
 conv=>lhs;rw [<-List.take_append_drop k l]
 rw [AB5,List.length_take,Nat.min_eq_left hk]
theorem Am5 {l:List Nat} (h:dig l) (k:Nat):dig (l.take k):=fun x hx=>h x (List.mem_of_mem_take hx)
theorem J6 {l:List Nat} (h:dig l) (k:Nat) (hk:k<=l.length):val (l.take k)<4294967296 ^ k:=by
 have:=AJ3 (Am5 h k)
 rwa [List.length_take,Nat.min_eq_left hk] at this
theorem BC5 {l:List Nat} {m:Nat} (h:l.length=m+3):val l=val (l.take m)+4294967296 ^ m*(l.getD m 0+4294967296*(l.getD (m+1) 0+4294967296*l.getD (m+2) 0)):=by
 have e:l.take (m+3)=l:=List.take_of_length_le (by omega)
 conv=>lhs;rw [<-e]
 rw [B5,B5,B5,Nat.pow_succ,Nat.pow_succ]
 grind
theorem BC6 {l:List Nat} {m:Nat} (h:l.length=m+2):val l=val (l.take m)+4294967296 ^ m*(l.getD m 0+4294967296*l.getD (m+1) 0):=by
 have e:l.take (m+2)=l:=List.take_of_length_le (by omega)
 conv=>lhs;rw [<-e]
 rw [B5,B5,Nat.pow_succ]
 grind
theorem AH3 {l:List Nat} {k:Nat} (h:val l<4294967296 ^ k):val (l.drop k)=0:=by
 rcases Nat.lt_or_ge k l.length with hk | hk
 ·have:=K8 l k (by omega)
  rcases Nat.eq_zero_or_pos (val (l.drop k)) with h0 | h0
  ·exact h0
  ·have:=Nat.mul_le_mul_left (4294967296 ^ k) h0
   omega
 ·rw [List.drop_of_length_le hk];rfl
theorem AD6 {l:List Nat} {k:Nat} (hk:k<=l.length) (h:val l<4294967296 ^ k):val (l.take k)=val l:=by
 have:=K8 l k hk
 rw [AH3 h] at this;omega
theorem Ap8 {l:List Nat} {k m:Nat} (hd:dig l) (hk:k+m<=l.length) (h:val l<4294967296 ^ (k+m)):val ((l.drop k).take m)=val l / 4294967296 ^ k:=by
 have e1:=K8 l k (by omega)
 have e2:=J6 hd k (by omega)
 have hp:0<4294967296 ^ k:=Nat.pow_pos (by omega)
 have e3:val l / 4294967296 ^ k=val (l.drop k):=by
  rw [e1,Nat.add_mul_div_left _ _ hp,Nat.div_eq_of_lt e2];omega
 rw [e3]
 refine AD6 (by simp;omega) ?_
 rw [<-e3,Nat.div_lt_iff_lt_mul hp,Nat.mul_comm,<-Nat.pow_add];exact h
theorem AL7 {l r:List Nat} {k:Nat} (hlen:l.length=r.length) (hl:dig l) (h:∀ j,k<=j->l.getD j 0=r.getD j 0) (hr:val r<4294967296 ^ k):val l<4294967296 ^ k:=by
 rcases Nat.lt_or_ge k l.length with hk | hk
 ·have e:l.drop k=r.drop k:=by
   apply List.ext_getElem?
   intro i
   rw [List.getElem?_drop,List.getElem?_drop]
   rcases Nat.lt_or_ge (k+i) l.length with hi | hi
   ·have:=h (k+i) (by omega)
    rw [List.getD_eq_getElem?_getD,List.getD_eq_getElem?_getD,List.getElem?_eq_getElem hi,List.getElem?_eq_getElem (by omega)] at this
    rw [List.getElem?_eq_getElem hi,List.getElem?_eq_getElem (by omega)]
    exact congrArg some this
   ·rw [List.getElem?_eq_none hi,List.getElem?_eq_none (by omega)]
  have:=K8 l k (by omega)
  rw [e,AH3 hr] at this
  have:=J6 hl k (by omega)
  omega
 ·have:=AJ3 hl
  have:=Nat.pow_le_pow_right (show 0<4294967296 by omega) hk
  omega
theorem Ay2 {l:List Nat} {s i:Nat} (hd:dig l) (hs:s<=31) (hi:i+1<l.length) :
  (val l / 2 ^ s) % 4294967296 ^ (i+1)=(val l / 2 ^ s) % 4294967296 ^ i+4294967296 ^ i*(((l.getD i 0+4294967296*l.getD (i+1) 0) / 2 ^ s) % 4294967296):=by
 have hp:0<4294967296 ^ i:=Nat.pow_pos (by omega)
 have hps:0<2 ^ s:=Nat.pow_pos (by omega)
 have e0:(val l / 2 ^ s) % 4294967296 ^ (i+1)=(val l / 2 ^ s) % 4294967296 ^ i+4294967296 ^ i*((val l / 2 ^ s / 4294967296 ^ i) % 4294967296):=by
  rw [Nat.pow_succ,Nat.mod_mul]
 rw [e0]
 congr 2
 have e1:val l / 2 ^ s / 4294967296 ^ i=val (l.drop i) / 2 ^ s:=by
  rw [Nat.div_div_eq_div_mul,Nat.mul_comm,<-Nat.div_div_eq_div_mul]
  congr 1
  rw [K8 l i (by omega),Nat.add_mul_div_left _ _ hp,Nat.div_eq_of_lt (J6 hd i (by omega))]
  omega
 have e2:val (l.drop i)=(l.getD i 0+4294967296*l.getD (i+1) 0)+2 ^ s*(2 ^ (32-s)*(4294967296*val (l.drop (i+2)))):=by
  rw [List.drop_eq_getElem_cons (show i<l.length by omega),List.drop_eq_getElem_cons (show i+1<l.length by omega),val,val]
  have h1:l[i]=l.getD i 0:=by rw [List.getD_eq_getElem?_getD,List.getElem?_eq_getElem (by omega)];rfl
  have h2:l[i+1]=l.getD (i+1) 0:=by rw [List.getD_eq_getElem?_getD,List.getElem?_eq_getElem (by omega)];rfl
  rw [h1,h2,<-Nat.mul_assoc (2 ^ s),<-Nat.pow_add,show s+(32-s)=32 by omega]
  show _=_+4294967296*_
  rw [Nat.mul_add,show i+1+1=i+2 from rfl]
  omega
 rw [e1,e2,Nat.add_mul_div_left _ _ hps,show 2 ^ (32-s)*(4294967296*val (l.drop (i+2)))=4294967296*(2 ^ (32-s)*val (l.drop (i+2))) by grind,Nat.add_mul_mod_self_left]
theorem Aj5 {b:List Nat} {m s:Nat} (hdb:dig b) (hlb:b.length=m+2) (hs:s<=31) (htops:b.getD (m+1) 0*2 ^ s<4294967296):val b*2 ^ s<4294967296 ^ (m+2):=by
 have hps:0<2 ^ s:=Nat.pow_pos (by omega)
 have e:b.take (m+2)=b:=List.take_of_length_le (by omega)
 have e7:4294967296 ^ (m+2)=4294967296 ^ (m+1)*4294967296:=Nat.pow_succ _ _
 rw [<-e,B5,e7]
 have h1:=J6 hdb (m+1) (by omega)
 have h2:(val (b.take (m+1))+4294967296 ^ (m+1)*b.getD (m+1) 0)*2 ^ s<4294967296 ^ (m+1)*((b.getD (m+1) 0+1)*2 ^ s):=by
  rw [<-Nat.mul_assoc]
  refine Nat.mul_lt_mul_of_pos_right ?_ hps
  rw [Nat.mul_add];omega
 have h3:(b.getD (m+1) 0+1)*2 ^ s<=4294967296:=by
  have h4:2 ^ s*2 ^ (32-s)=4294967296:=by rw [<-Nat.pow_add,show s+(32-s)=32 by omega]
  have h5:b.getD (m+1) 0<2 ^ (32-s):=by
   rw [<-h4,Nat.mul_comm] at htops
   exact Nat.lt_of_mul_lt_mul_left htops
  rw [<-h4,Nat.mul_comm]
  exact Nat.mul_le_mul_left _ h5
 have h6:=Nat.mul_le_mul_left (4294967296 ^ (m+1)) h3
 exact Nat.lt_of_lt_of_le h2 h6
theorem top_pos {l:List Nat} {m:Nat} (hd:dig l) (hl:l.length=m+2) (h:4294967296 ^ (m+1)<=val l):0<l.getD (m+1) 0:=by
 have e:l.take (m+2)=l:=List.take_of_length_le (by omega)
 rw [<-e,B5] at h
 have h1:=J6 hd (m+1) (by omega)
 rcases Nat.eq_zero_or_pos (l.getD (m+1) 0) with h0 | h0
 ·rw [h0] at h;omega
 ·exact h0
theorem top_ge {b:List Nat} {m:Nat} (hlb:b.length=m+2) (htop:0<b.getD (m+1) 0):4294967296 ^ (m+1)<=val b:=by
 have e:b.take (m+2)=b:=List.take_of_length_le (by omega)
 rw [<-e,B5]
 have:=Nat.mul_le_mul_left (4294967296 ^ (m+1)) htop
 omega
theorem An3 {P x y c z q V V' T T':Nat} (h1:V'+P*x=V+P*z) (hdm:4294967296*q+z=x+y+c) (hv:V+P*c=T) (hT:T'=T+P*y):V'+P*4294967296*q=T':=by
 have:=congrArg (P*·) hdm
 simp only [Nat.mul_add] at this
 rw [Nat.mul_assoc]
 omega
theorem div_end {A b s U q:Nat} (hb:0<b) (h:U+b*2 ^ s*q=A*2 ^ s) (hlt:U<b*2 ^ s):A / b=q/\A % b=U / 2 ^ s:=by
 have hps:0<2 ^ s:=Nat.pow_pos (by omega)
 have e:A*2 ^ s=2 ^ s*A:=Nat.mul_comm _ _
 have e2:b*2 ^ s*q=2 ^ s*(b*q):=by grind
 rw [e,e2] at h
 have hle:b*q<=A:=Nat.le_of_mul_le_mul_left (by omega:2 ^ s*(b*q)<=2 ^ s*A) hps
 obtain ⟨R,hR⟩:∃ R,A=b*q+R:=⟨A-b*q,by omega⟩
 subst hR
 rw [Nat.mul_add] at h
 have hU:U=2 ^ s*R:=by omega
 subst hU
 have hRb:R<b:=by
  rw [Nat.mul_comm b] at hlt
  exact Nat.lt_of_mul_lt_mul_left hlt
 refine ⟨?_,?_⟩
 ·rw [Nat.mul_add_div hb,Nat.div_eq_of_lt hRb];omega
 ·rw [Nat.mul_add_mod,Nat.mod_eq_of_lt hRb,Nat.mul_div_cancel_left _ hps]
end Go.Kx
namespace Go.Proofs.YtggegpiffjbngaaGreat
open Go Go.Kx Go.RowKit
theorem AS0:Ent Tryz.prog 265:=A0 Tryz.func265 (by kernel_rfl) rfl
theorem AP8 {S:Nat->Prop} {w:World} {vu vv:Value} {u v:List Nat} {m:Nat} (hu:eW.R S w vu u) (hv:eW.R S w vv v) (hlu:u.length=m+3) (hlv:v.length=m+2) (hm:m<=1099511627776) (h1:0<v.getD (m+1) 0) (hlt:val u<4294967296*val v) :
  CR Tryz.prog 265 #[vu,vv] w (fun x _=>∃ q:Nat,x=.int .u64 q/\q<4294967296/\val u / val v<=q/\q<=val u / val v+1):=by
 have hdu:dig u:=E1 hu
 have hdv:dig v:=E1 hv
 have eU:=BC5 hlu
 have eV:=BC6 hlv
 have hU0:=J6 hdu m (by omega)
 have hV0:=J6 hdv m (by omega)
 have d0:=E3 hdu m
 have d1:=E3 hdu (m+1)
 have d2:=E3 hdu (m+2)
 have c1:=E3 hdv (m+1)
 have c2:=E3 hdv m
 have g0:u[m]?=some (u.getD m 0):=B6 (by omega)
 have g1:u[m+1]?=some (u.getD (m+1) 0):=B6 (by omega)
 have g2:u[m+2]?=some (u.getD (m+2) 0):=B6 (by omega)
 have f1:v[m+1]?=some (v.getD (m+1) 0):=B6 (by omega)
 have f2:v[m]?=some (v.getD m 0):=B6 (by omega)
 generalize val (u.take m)=U0 at *
 generalize val (v.take m)=V0 at *
 generalize u.getD m 0=u0 at *
 generalize u.getD (m+1) 0=u1 at *
 generalize u.getD (m+2) 0=u2 at *
 generalize v.getD (m+1) 0=v1 at *
 generalize v.getD m 0=v2 at *
 have hp:0<4294967296 ^ m:=Nat.pow_pos (by omega)
 generalize htop:u1+4294967296*u2=top at *
 have hwn1:IntKind.i64.wrap ((v.length:Int)-1)=((m+1:Nat):Int):=by rw [wI (by omega)];omega
 have hwn2:IntKind.i64.wrap ((v.length:Int)-2)=((m:Nat):Int):=by rw [wI (by omega)];omega
 refine enter Tryz.func265 O Tryz.ntmps265 O ?_
 refine .sr (.an O O (.sr (.mv O O (.lenR un_W O O hv (.an O O ?_)))))
 refine .seq ?_
 refine .par follows 13 [.inl _,.inl _,.inr (Ptr eU32 S u2),.inl (.int .u32 u2),.inl _,.inl _,.inl _,.inl _,.inl _,.inr (Ptr eU32 S u1),.inl (.int .u32 u1),.inl _,.inl _] [[],[],[(13,0),(14,1)],[(15,2)],[(16,3)],[(17,4)],[],[],[(20,7)],[(19,6),(21,8)],[(22,9)],[(23,10)],[(18,5),(24,11)]] (by kernel_rfl) ⟨
  fun w e=>(v_mv O).ob,
  fun w e=>(v_mv O).ob,
  fun w e=>C6 un_W A3 O (hu.ext e) O (by rw [hlv];exact g2),
  fun w e x hx=>N7 A3 O hx,
  fun w e=>(V9 C1 C2 O).ob,
  fun w e=>(Au4 O O (by decide)).ob,
  fun w e=>(v_mv O).ob,
  fun w e=>(v_mv O).ob,
  fun w e=>(AX7 O O).ob,
  fun w e=>Ad3 un_W A3 O (hu.ext e) O (by rw [hwn1];omega) (by rw [hwn1];exact g1),
  fun w e x hx=>N7 A3 O hx,
  fun w e=>(V9 C1 C2 O).ob,
  fun w e=>(v_or O O).ob,trivial⟩ ?_
 intro w1 e1 _ _ _ _
 refine .an O O ?_
 rw [wU (n:=(u2:Int)) (by omega),wU (n:=(u1:Int)) (by omega),shl32 u2 d2,BF9 u2 u1 d1 d2,htop]
 refine .seq ?_
 refine .par follows 13 [.inl _,.inl _,.inl _,.inr (Ptr eU32 S v1),.inl (.int .u32 v1),.inl _,.inl _,.inl _,.inl _,.inr (Ptr eU32 S v2),.inl (.int .u32 v2),.inl _,.inl _] [[],[],[(27,1)],[(26,0),(28,2)],[(29,3)],[(30,4)],[],[],[(33,7)],[(32,6),(34,8)],[(35,9)],[(36,10)],[(31,5)]] (by kernel_rfl) ⟨
  fun w e=>(v_mv O).ob,
  fun w e=>(v_mv O).ob,
  fun w e=>(AX7 O O).ob,
  fun w e=>Ad3 un_W A3 O (hv.ext (e1.trans e)) O (by rw [hwn1];omega) (by rw [hwn1];exact f1),
  fun w e x hx=>N7 A3 O hx,
  fun w e=>(V9 C1 C2 O).ob,
  fun w e=>(v_mv O).ob,
  fun w e=>(v_mv O).ob,
  fun w e=>(AX7 O O).ob,
  fun w e=>Ad3 un_W A3 O (hv.ext (e1.trans e)) O (by rw [hwn2];omega) (by rw [hwn2];exact f2),
  fun w e x hx=>N7 A3 O hx,
  fun w e=>(V9 C1 C2 O).ob,
  fun w e=>(v_as O).ob,trivial⟩ ?_
 intro w2 e2 _ _ _ _
 refine .an O O ?_
 rw [wU (n:=(v1:Int)) (by omega),wU (n:=(v2:Int)) (by omega)]
 refine .seq ?_
 refine .par follows 7 [.inl _,.inl _,.inl _,.inl _,.inl _,.inl _,.inl _] [[],[],[(38,0),(39,1)],[],[],[(41,3),(42,4)],[(40,2)]] (by kernel_rfl) ⟨
  fun w e=>(v_mv O).ob,
  fun w e=>(v_mv O).ob,
  fun w e=>(AX9 O O (by omega)).ob,
  fun w e=>(v_mv O).ob,
  fun w e=>(v_mv O).ob,
  fun w e=>(AX8 O O (by omega)).ob,
  fun w e=>(v_as O).ob,trivial⟩ ?_
 intro w3 e3
 refine .an O O ?_
 have htop64:top<18446744073709551616:=by omega
 rw [M9,M8,O7,Nat.mod_eq_of_lt (Nat.lt_of_le_of_lt (Nat.div_le_self _ _) htop64)]
 have x3:=(e1.trans e2).trans e3
 have hu3:=hu.ext x3
 refine .mid (α:=Nat) (fun q=>[(9,.int .u64 q)]) (fun q W=>W=w3/\q<4294967296/\val u / val v<=q/\q<=val u / val v+1) ?_ ?_
 ·refine .block (.loop (α:=Nat×Nat) (fun x=>[(9,.int .u64 (x.1:Nat)),(10,.int .u64 (x.2:Nat)),(7,.int .u64 v1),(8,.int .u64 v2),(0,vu),(5,.int .i64 (v.length:Nat))])
   (fun x W=>W=w3/\x.1*v1+x.2=top/\val u / val v<=x.1/\x.2<4294967296) (fun x=>x.1) (top / v1,top % v1) ?_ ?_ ?_)
  ·exact lkA rfl
  ·refine ⟨rfl,?_,BA5 hp (by omega) eU eV hU0 d0 h1,?_⟩
   ·show top / v1*v1+top % v1=top
    rw [Nat.mul_comm];exact Nat.div_add_mod _ _
   ·show top % v1<4294967296
    have:=Nat.mod_lt top h1;omega
  ·rintro ⟨g,r⟩ W ⟨rfl,ht,hq,hr⟩
   replace ht:g*v1+r=top:=ht
   replace hq:val u / val v<=g:=hq
   replace hr:r<4294967296:=hr
   have hg64:g<18446744073709551616:=by
    have:=Nat.le_mul_of_pos_right g h1
    omega
   have hVp:0<val v:=by
    rcases Nat.eq_zero_or_pos (val v) with h | h
    ·rw [h] at hlt;omega
    ·exact h
   refine .mid (α:=Unit) (fun _=>[(9,.int .u64 (g:Nat)),(10,.int .u64 (r:Nat)),(7,.int .u64 v1),(8,.int .u64 v2),(0,vu),(5,.int .i64 (v.length:Nat))]) (fun _ W'=>W'=W/\val u / val v<g) ?_ ?_
   ·refine .sr (.mv O O (.shr (m:=(g:Int)) O O O (by decide) ?_))
    rw [fdiv32 g]
    by_cases hgB:g<4294967296
    ·refine .neqF O O O (by omega) (.mv O O ?_)
     refine .gr O O O O (.mv O O (.gr O O O O (.mv O O (.gr O O O O (.mul (m:=(g:Int)) (n:=(v2:Int)) O O O ?_)))))
     have hgv:g*v2<=4294967295*4294967295:=Nat.mul_le_mul (by omega) (by omega)
     rw [<-Int.natCast_mul,wU (n:=((g*v2:Nat):Int)) (by omega)]
     refine .gr O O O O (.mv O O (.gr O O O O (.shl (m:=(r:Int)) O O O (by decide) ?_)))
     rw [shl32 r hr]
     refine .gr O O O O (.mv O O (.gr O O O O (.mv O O (.gr O O O O (.sub (m:=(v.length:Int)) O O O ?_)))))
     rw [hwn2]
     refine .gr O O O O (.ixN un_W A3 O O hu3 O g0 fun p hp'=>.gr O O O O (.ldE A3 O O hp' fun e he=>?_))
     obtain ⟨rfl,_⟩:=he
     refine .gr O O O O (.cvt C1 C2 O O ?_)
     rw [wU (n:=(u0:Int)) (by omega)]
     refine .gr O O O O (.or_ O O O ?_)
     rw [BF9 r u0 d0 hr]
     by_cases hc:u0+4294967296*r<g*v2
     ·refine .gr O O O O (.gtrT O O O (by omega) (.pick O O O (.nil (.condT O (.skip ?_)))))
      exact ⟨rfl,(),lkA rfl,rfl,BH6 hp (by omega) eU eV hU0 h1 ht (by omega)⟩
     ·refine .gr O O O O (.gtrF O O O (by omega) (.pick O O O (.nil (.condF O (.exit ?_)))))
      exact ⟨rfl,g,lkA rfl,rfl,hgB,hq,BH5 hp (by omega) eU eV hV0 h1 ht hgB (by omega)⟩
    ·refine .neqT O O O (by omega) (.mv O O ?_)
     refine .gs O O O O O (.gs O O O O O (.gs O O O O O (.gs O O O O O (.gs O O O O O (.gs O O O O O (.gs O O O O O ?_))))))
     refine .gs O O O O O (.gs O O O O O (.gs O O O O O (.gs O O O O O (.gs O O O O O (.gs O O O O O ?_)))))
     refine .pick O O O (.nil (.condT O (.skip ?_)))
     refine ⟨rfl,(),lkA rfl,rfl,?_⟩
     have:val u / val v<4294967296:=by rw [Nat.div_lt_iff_lt_mul hVp];exact hlt
     exact Nat.lt_of_lt_of_le this (Nat.le_of_not_lt hgB)
   ·rintro _ W' ⟨rfl,hlt'⟩
    have hg0:0<g:=Nat.lt_of_le_of_lt (Nat.zero_le _) hlt'
    obtain ⟨g,rfl⟩:∃ k,g=k+1:=⟨g-1,(Nat.succ_pred_eq_of_pos hg0).symm⟩
    have hle':val u / val v<=g:=Nat.le_of_lt_succ hlt'
    have ht':g*v1+(r+v1)=top:=by rw [Nat.add_mul] at ht;omega
    refine .block (.sr (.mv O O (.sub (m:=((g+1:Nat):Int)) O O O ?_)))
    rw [show IntKind.u64.wrap (((g+1:Nat):Int)-1)=(g:Int) by rw [wU (by omega)];omega]
    refine .an O O (.sr (.mv O O (.mv O O (.add (m:=(r:Int)) (n:=(v1:Int)) O O O ?_))))
    rw [<-Int.natCast_add,wU (n:=((r+v1:Nat):Int)) (by omega)]
    refine .an O O (.sr (.mv O O (.shr (m:=((r+v1:Nat):Int)) O O O (by decide) ?_)))
    rw [fdiv32]
    by_cases hrB:r+v1<4294967296
    ·refine .neqF O O O (by omega) (.nil (.condF O (.skip ?_)))
     exact ⟨rfl,(g,r+v1),lkA rfl,⟨rfl,ht',hle',hrB⟩,Nat.lt_succ_self g⟩
    ·refine .neqT O O O (by omega) (.nil (.condT O (.exit ?_)))
     have hgB:=BA6 hp (by omega) eU eV hV0 c2 ht' hlt (by omega)
     exact ⟨rfl,g,lkA rfl,rfl,hgB,hle',Nat.le_succ_of_le (BA7 hp (by omega) eU eV hV0 c2 h1 ht' hgB (by omega))⟩
 ·rintro q W ⟨rfl,h2,h3,h4⟩
  refine .sr (.mv O O (.an O O (.ret ?_)))
  exact .plain [_] Tryz.results265 ⟨rfl,trivial⟩ ⟨x3,q,rfl,h2,h3,h4⟩
theorem Ad8 {w w':World} {r:Option Nat} (e:Ext w w'):w.grownBy w' r:=⟨e.os,e.tape,e.output,e.size,fun k hk _=>e.block k hk⟩
theorem Ad7 {w w1 w2:World} {g b:Nat} (h:w.grownBy w1 (some g)) (u:Upd w1 w2 b) (hb:b=g\/w.heap.size<=b):w.grownBy w2 (some g) :=
 ⟨u.os.trans h.os,u.tape.trans h.tape,u.output.trans h.output,by rw [u.size];exact h.size,fun k hk hne=>(u.block k (fun e=>by
  subst e
  rcases hb with rfl | hb
  ·exact hne rfl
  ·omega)).trans (h.block k hk hne)⟩
theorem Am0 {w w1 w2:World} {r:Option Nat} (h:w.grownBy w1 r) (h':w1.grownBy w2 r):w.grownBy w2 r :=
 ⟨h'.os.trans h.os,h'.tape.trans h.tape,h'.output.trans h.output,Nat.le_trans h.size h'.size,fun k hk hne=>(h'.block k (Nat.lt_of_lt_of_le hk h.size) hne).trans (h.block k hk hne)⟩
theorem Al6 {S:Nat->Prop} {w w':World} {g:Nat} (h:w.grownBy w' (some g)) (hS:¬ S g):Kp S w w':=fun k _ _ _ hs hk=>(h.block k (Array.getElem?_eq_some_iff.1 hk).1 (fun e=>hS (by cases e;exact hs))).trans hk
theorem An0 {B:Nat} {w0 w w':World} {g:Nat} (hb:Below B w0 w) (h:w.grownBy w' (some g)) (hg:B<=g) (hB:B<=w.heap.size):Below B w0 w':=hb.grown h hB (fun k hk=>by cases hk;exact hg)
theorem BE2 {x p b:Nat} (hx:x<4294967296) (hp:p<4294967296) (hb:b<=1):∃ D y b':Nat,IntKind.u64.wrap (IntKind.u64.wrap ((x:Int)-(p:Int))-(b:Int))=(D:Int)/\D % 4294967296=y/\D / 2 ^ 63=b'/\y<4294967296/\b'<=1/\y+p+b=x+4294967296*b':=by
 rw [IntKind.wrap_u64,IntKind.wrap_u64]
 by_cases h:p+b<=x
 ·exact ⟨x-p-b,x-p-b,0,by omega,by omega,by omega,by omega,by omega,by omega⟩
 ·exact ⟨18446744073709551616+x-p-b,4294967296+x-p-b,1,by omega,by omega,by omega,by omega,by omega,by omega⟩
theorem Z3:Ent Tryz.prog 266:=A0 Tryz.func266 (by kernel_rfl) rfl
theorem Y5 {S:Nat->Prop} {w:World} {g k c n f:Nat} {U v:List Nat} {vv:Value} (ho:OB 91 w g U) (hv:eW.R S w vv v) (hS:¬ S g) (hn:v.length=n) (hk:k+(n+1)<=U.length) (hl:U.length<=4398046511104) (hf:f<4294967296) :
  Calls Tryz.prog 266 #[.slice (some ⟨g,k,none⟩) (n+1) c,vv,.int .u64 f] w fun e w'=>∃ x,e=.returned x/\∃ (V:List Nat) (bo:Nat),(x=.bool (decide (bo=1))/\bo<=1/\w.grownBy w' (some g)/\OB 91 w' g V/\V.length=U.length /\
   (∀ j,k+(n+1)<=j->V.getD j 0=U.getD j 0)/\val V+4294967296 ^ k*(val v*f)=val U+4294967296 ^ (k+(n+1))*bo):=by
 have hdv:dig v:=E1 hv
 refine enterG Tryz.func266 O Tryz.ntmps266 O ?_
 refine .sr (.an O O (.sr (.an O O (.sr ?_))))
 refine .call [.int .u64 (0:Nat)] O G9 O G7 fun v1 w1 e1 h1=>.an O O ?_
 obtain ⟨bx,rfl,kx,hbx⟩:=h1
 have hgx:g≠bx:=by have:=ho.lt;omega
 refine .mid (α:=List Nat×Nat) (fun x=>[(7,.int .u64 (x.2:Nat))]) (fun x W=>x.2<=1/\w.grownBy W (some g)/\OB 91 W g x.1/\x.1.length=U.length /\
   (∀ j,k+(n+1)<=j->x.1.getD j 0=U.getD j 0)/\val x.1+4294967296 ^ k*(val v*f)=val U+4294967296 ^ (k+(n+1))*x.2) ?_ ?_
 ·refine .sr (.mv O O (.len un_W O O (.mv O O (.nil ?_))))
  refine .block (.loop (α:=Nat×List Nat×Nat×Nat) (fun x=>[(0,.slice (some ⟨g,k,none⟩) (n+1) c),(1,vv),(2,.int .u64 f),(7,.int .u64 (x.2.2.2:Nat)),(8,carV bx),(14,.int .i64 ((n+1:Nat):Int)),(15,.int .i64 (x.1:Nat))])
   (fun x W=>x.1<=n+1/\w.grownBy W (some g)/\OB 91 W g x.2.1/\x.2.1.length=U.length/\cBlk W bx x.2.2.1/\x.2.2.1<4294967296/\(x.1=n+1->x.2.2.1=0)/\x.2.2.2<=1/\(∀ j,k+(n+1)<=j->x.2.1.getD j 0=U.getD j 0) /\
    val x.2.1+4294967296 ^ k*(val (v.take x.1)*f)=val U+4294967296 ^ (k+x.1)*(x.2.2.2+x.2.2.1)) (fun x=>n+1-x.1) (0,U,0,0) ?_ ?_ ?_)
  ·exact lkA rfl
  ·refine ⟨Nat.zero_le _,Ad8 e1,ho.ext e1,rfl,kx,?_,fun h=>rfl,Nat.zero_le _,fun _ _=>rfl,?_⟩
   ·show 0<4294967296;omega
   ·simp [val]
  ·rintro ⟨i,V,cc,bo⟩ W ⟨hi,hG,hO,hV,hcx,hc,hc0,hbo,hhi,hval⟩
   replace hi:i<=n+1:=hi
   replace hG:w.grownBy W (some g):=hG
   replace hO:OB 91 W g V:=hO
   replace hV:V.length=U.length:=hV
   replace hcx:cBlk W bx cc:=hcx
   replace hc:cc<4294967296:=hc
   replace hc0:i=n+1->cc=0:=hc0
   replace hbo:bo<=1:=hbo
   replace hhi:∀ j,k+(n+1)<=j->V.getD j 0=U.getD j 0:=hhi
   replace hval:val V+4294967296 ^ k*(val (v.take i)*f)=val U+4294967296 ^ (k+i)*(bo+cc):=hval
   by_cases hlt:i<n+1
   ·refine .sr (.lssT O O O (by show (i:Int)<((n+1:Nat):Int);omega) (.nil (.seq (.condT O (.skip (.seq (.block (.sr (.mv O O (.an O O (.sr (.an O O ?_)))))))))))) 
    have hvd:=E3 hdv i
    have hvf:v.getD i 0*f<=4294967295*4294967295:=Nat.mul_le_mul (by omega) (by omega)
    have hvW:=eW.keep (Al6 hG hS) hv
    refine .mid (α:=Unit) (fun _=>[(0,.slice (some ⟨g,k,none⟩) (n+1) c),(1,vv),(2,.int .u64 f),(7,.int .u64 (bo:Nat)),(8,carV bx),(9,.int .i64 (i:Nat)),(10,.int .u64 (v.getD i 0*f:Nat)),(14,.int .i64 ((n+1:Nat):Int)),(15,.int .i64 (i:Nat))]) (fun _ W'=>W'=W) ?_ ?_
    ·refine .sr (.mv O O (.mv O O (.lenR un_W O O hvW ?_)))
     by_cases hin:i<n
     ·refine .lssT O O O (by show (i:Int)<(v.length:Int);omega) (.nil (.condT O (.region (.mv O O (.mv O O ?_)))))
      refine .ixN (i:=i) un_W A3 O O hvW O (B6 (by omega)) fun p hp=>.ldE A3 O O hp fun e he=>?_
      obtain ⟨rfl,hx⟩:=he
      refine .cvt C1 C2 O O (.mv O O (.mul O O O ?_))
      rw [wU (n:=((v.getD i 0:Nat):Int)) (by omega),<-Int.natCast_mul,wU (n:=((v.getD i 0*f:Nat):Int)) (by omega)]
      exact .an O O ⟨rfl,(),lkA rfl,rfl⟩
     ·refine .lssF O O O (by show ¬ (i:Int)<(v.length:Int);omega) (.nil (.condF O (.skip ⟨rfl,(),?_,rfl⟩)))
      have:v.getD i 0=0:=by rw [List.getD_eq_getElem?_getD,List.getElem?_eq_none (by omega)];rfl
      rw [this,Nat.zero_mul]
      exact lkA rfl
    ·rintro _ W' rfl
     have hgi:V[k+i]?=some (V.getD (k+i) 0):=B6 (by omega)
     have hxd:=E3 hO.1 (k+i)
     generalize hx:V.getD (k+i) 0=x at *
     generalize hpr:v.getD i 0*f=pr at *
     refine .seq (.held follows true (fun W''=>OB 91 W'' g V) [some _,some _,some _,some (wv x),some _,some _,some _,none,none,none,some _,none,none] (by kernel_rfl) ⟨
      fun _ _=>v_mv rfl,fun _ _=>v_mv rfl,fun _ _=>Aj2 (i:=i) un_W A3 O O (by omega),fun _ h=>Au8 A3 O h hgi,fun _ _=>V9 C1 C2 rfl,fun _ _=>v_mv rfl,fun _ _=>v_mv rfl,fun _ _=>v_mv rfl,trivial⟩ ?_)
     intro W1 e1 _
     rw [wU (n:=(x:Int)) (by omega)]
     have hcx1:=hcx.ext e1
     refine .gv (hO.ext e1) O (AE7 [.int .u64 pr] O H5 O (H3 hcx1 (by omega))) ?_
     rintro _ W2 ⟨rfl,u2,hx2⟩
     have hO2:=(hO.ext e1).upd u2 hgx
     have hG2:=Ad7 (Am0 hG (Ad8 e1)) u2 (.inr hbx)
     refine .gv hO2 O (V9 C1 C2 O).gv ?_
     rintro _ _ ⟨rfl,rfl⟩
     rw [wU (n:=(((pr+cc) % 4294967296:Nat):Int)) (by omega)]
     refine .gv hO2 O (AX7 O O).gv ?_
     rintro _ _ ⟨rfl,rfl⟩
     refine .gv hO2 O (AX7 O O).gv ?_
     rintro _ _ ⟨rfl,rfl⟩
     obtain ⟨D,y,bo',hD,hy,hb',hy1,hb1,hsum⟩:=BE2 (p:=(pr+cc) % 4294967296) hxd (Nat.mod_lt _ (by omega)) hbo
     rw [hD]
     refine .gv hO2 O (v_as O).gv ?_
     rintro _ _ ⟨rfl,rfl⟩
     refine .nil (.inl O) ?_
     refine .sr (.mv O O (.mv O O (.mv O O (.cvt C2 C1 O O ?_))))
     rw [I0,hy]
     refine .ixW (i:=i) un_W A3 O O O (by omega) ?_
     refine .stO A3 O O O hO2 (by omega) hy1 fun W3 ho3 u3=>.nil (.region (.mv O O (.shr O O O (by decide) ?_)))
     rw [show ((D:Int).fdiv ((2:Int) ^ (min (63:Int).toNat IntKind.u64.bits)))=((D / 2 ^ 63:Nat):Int) from AF0 D 63,hb']
     refine .an O O (.region (.add (m:=(i:Int)) O O O (.mv O O (.nil ?_))))
     rw [wI (n:=(i:Int)+1) (by omega)]
     refine ⟨rfl,(i+1,V.set (k+i) y,(pr+cc) / 4294967296,bo'),lkA rfl,⟨hlt,Ad7 hG2 u3 (.inl O),ho3,by simp [hV],hx2.upd u3 (Ne.symm hgx),?_,?_,hb1,?_,?_⟩,by show n+1-(i+1)<n+1-i;omega⟩
     ·show (pr+cc) / 4294967296<4294967296
      rw [Nat.div_lt_iff_lt_mul (by omega)];omega
     ·intro h
      show (pr+cc) / 4294967296=0
      have hin:i=n:=by have:i+1=n+1:=h;omega
      have:v.getD i 0=0:=by rw [List.getD_eq_getElem?_getD,List.getElem?_eq_none (by omega)];rfl
      rw [this,Nat.zero_mul] at hpr
      rw [<-hpr,Nat.zero_add,Nat.div_eq_of_lt hc]
     ·intro j hj
      show (V.set (k+i) y).getD j 0=U.getD j 0
      rw [List.getD_eq_getElem?_getD,List.getElem?_set_ne (by omega),<-List.getD_eq_getElem?_getD]
      exact hhi j hj
     ·show val (V.set (k+i) y)+4294967296 ^ k*(val (v.take (i+1))*f)=val U+4294967296 ^ (k+(i+1))*(bo'+(pr+cc) / 4294967296)
      have h1:=AB4 y hgi
      have hdm:=Nat.div_add_mod (pr+cc) 4294967296
      generalize (pr+cc) / 4294967296=q at *
      generalize (pr+cc) % 4294967296=z at *
      have h2:4294967296 ^ k*(val (v.take (i+1))*f)=4294967296 ^ k*(val (v.take i)*f)+4294967296 ^ (k+i)*pr:=by
       rw [B5,<-hpr,Nat.pow_add];grind
      have h3:4294967296 ^ (k+i)*y+4294967296 ^ (k+i)*z+4294967296 ^ (k+i)*bo=4294967296 ^ (k+i)*x+4294967296 ^ (k+(i+1))*bo':=by
       have:=congrArg (4294967296 ^ (k+i)*·) hsum
       simp only [Nat.mul_add] at this
       rw [<-Nat.add_assoc k i 1,Nat.pow_succ,Nat.mul_assoc]
       exact this
      have h4:4294967296 ^ (k+i)*pr+4294967296 ^ (k+i)*cc=4294967296 ^ (k+(i+1))*q+4294967296 ^ (k+i)*z:=by
       have:=congrArg (4294967296 ^ (k+i)*·) hdm
       simp only [Nat.mul_add] at this
       rw [<-Nat.add_assoc k i 1,Nat.pow_succ,Nat.mul_assoc]
       omega
      rw [h2,Nat.mul_add (4294967296 ^ (k+(i+1)))]
      rw [Nat.mul_add (4294967296 ^ (k+i))] at hval
      omega
   ·refine .sr (.lssF O O O (by show ¬ (i:Int)<((n+1:Nat):Int);omega) (.nil (.seq (.condF O (.exit ?_)))))
    have:i=n+1:=by omega
    subst this
    rw [List.take_of_length_le (by omega),hc0 rfl] at hval
    exact ⟨rfl,(V,bo),lkA rfl,hbo,hG,hO,hV,hhi,hval⟩
 ·rintro ⟨V,bo⟩ W ⟨hbo,hG,hO,hV,hhi,hval⟩
  replace hbo:bo<=1:=hbo
  refine .sr (.mv O O (.neq (m:=(bo:Int)) O O O (.an O O (.ret ?_))))
  refine .plain [_] Tryz.results266 ⟨rfl,trivial⟩ ⟨V,bo,?_,hbo,hG,hO,hV,hhi,hval⟩
  rcases (show bo=0\/bo=1 by omega) with h | h<;>subst h<;>rfl
end Go.Proofs.YtggegpiffjbngaaGreat
namespace Go.Kx
open Go Go.RowKit
inductive Sch where
 | done
 | one (i:Nat) (n:Sch)
 | two (i:Nat) (n:Sch) (j:Nat) (m:Sch)
def wlT (P:Program) (ro:Option Nat) (ops:List Oper) (fl:Bool) (I:World->Prop) (Q:Exit->Act->World->Prop):Sch->Act->World->Prop
 | .done,a,w=>(fl=true\/I w)/\Q .normal a w
 | .one i n,a,w=>I w/\∃ o,ops[i]?=some o/\o.wpIn (wf ro) 0 P a w (wlT P ro ops fl I Q n) Q
 | .two i n j m,a,w=>I w/\(∃ o,ops[i]?=some o/\o.wpIn (wf ro) 0 P a w (wlT P ro ops fl I Q n) Q)/\(∃ o,ops[j]?=some o/\o.wpIn (wf ro) 0 P a w (wlT P ro ops fl I Q m) Q)
structure WLT (P:Program) (ro:Option Nat) (N:Nat) (ds:List Deferred) (ops:List Oper) (fl:Bool) (I:World->Prop) (K:Env->World->Prop) (s:Sch) (σ:Env) (w:World):Prop where
 out:∀ a,Agr N σ ds a->wlT P ro ops fl I (fun e a w=>e=.normal/\∃ σ',Agr N σ' ds a/\K σ' w) s a w
section
variable {P:Program} {ro:Option Nat} {N:Nat} {ds:List Deferred} {ops:List Oper} {fl:Bool} {I:World->Prop} {K:Env->World->Prop} {σ:Env} {w:World} {n m:Sch} {i j:Nat}
theorem WLT.nil (hI:fl=true\/I w) (h:K σ w):WLT P ro N ds ops fl I K .done σ w:=⟨fun a ha=>⟨hI,rfl,σ,ha,h⟩⟩
theorem WLT.gv {o:Oper} {R:Value->World->Prop} (ho:ops[i]?=some o) (hI:I w) (hd:dOk N o.dst=true) (h:Gv P o σ w R) (k:∀ v w',R v w'->WLT P ro N ds ops fl I K n (putE o.dst v σ) w'):WLT P ro N ds ops fl I K (.one i n) σ w :=
 ⟨fun a ha=>⟨hI,o,ho,h.wp (fun x v _ hx=>ha.ev hx) fun v w' hr=>(k v w' hr).out _ (ha.put hd v)⟩⟩
theorem WLT.gv2 (h1:WLT P ro N ds ops fl I K (.one i n) σ w) (h2:WLT P ro N ds ops fl I K (.one j m) σ w):WLT P ro N ds ops fl I K (.two i n j m) σ w :=
 ⟨fun a ha=>⟨(h1.out a ha).1,(h1.out a ha).2,(h2.out a ha).2⟩⟩
end
def waitB (ops:List Oper) (rem:List Nat) (k:Nat):Bool:=rem.any fun j=>reachB ops 3 k j
def schOk (ops:List Oper):List Nat->Sch->Bool
 | rem,.done=>rem.isEmpty
 | rem,.one i n => !rem.isEmpty && rem.all (fun k=>Nat.beq k i || waitB ops rem k) && schOk ops (rem.filter fun k => !(Nat.beq k i)) n
 | rem,.two i n j m => !rem.isEmpty && rem.all (fun k=>Nat.beq k i || Nat.beq k j || waitB ops rem k) && schOk ops (rem.filter fun k => !(Nat.beq k i)) n && schOk ops (rem.filter fun k => !(Nat.beq k j)) m
def tIdx (ops:List Oper) (hv:List (Option Value)):List Nat:=(List.range ops.length).filter fun i => !(isH hv i)
theorem Aj7 {ops:List Oper} {hv:List (Option Value)} {i:Nat}:i∈tIdx ops hv<->i<ops.length/\isH hv i=false:=by
 unfold tIdx
 rw [List.mem_filter,List.mem_range]
 simp
def okHeldT (ops:List Oper) (N:Nat) (fl:Bool) (hv:List (Option Value)):Bool :=
 (!fl || okLast ops hv) && Nat.beq hv.length ops.length && ops.zipIdx.all (fun q=>okBack q.2 q.1) && nodupB (dsts ops) &&
 ops.zipIdx.all fun q =>
  dOk N q.1.dst && (match q.1.guard with | none=>true | _=>false) && (match q.1.op with | .defer _=>false | .select ..=>false | _=>true) &&
  (bif isH hv q.2 then
   q.1.dst.isSome && (tmpsOf q.1).all fun t=>ops.zipIdx.all fun r=>r.1.dst != some t || (bif isH hv r.2 then reachB ops 3 q.2 r.2 else reachB ops 3 r.2 q.2)
  else
   (tmpsOf q.1).all fun t=>ops.zipIdx.all fun r=>r.1.dst != some t || !(isH hv r.2) || reachB ops 3 q.2 r.2)
theorem wlT_I {P:Program} {ro:Option Nat} {ops:List Oper} {fl:Bool} {I:World->Prop} {Q:Exit->Act->World->Prop} {s:Sch} {a:Act} {w:World} (h:wlT P ro ops fl I Q s a w) (hl:fl=true->s≠.done):I w:=by
 cases s with
 | done=>exact h.1.resolve_left fun e=>hl e rfl
 | one _ _=>exact h.1
 | two _ _ _ _=>exact h.1
theorem BE5 {P:Program} {ro:Option Nat} {ops:List Oper} {fl:Bool} {I:World->Prop} {Q:Exit->Act->World->Prop} {s:Sch} {a:Act} {w:World} {rem:List Nat} {i:Nat} {o:Oper} (hok:schOk ops rem s=true) (h:wlT P ro ops fl I Q s a w)
  (hi:i∈rem) (hr:∀ j,j∈rem->reachB ops 3 i j=false) (ho:ops[i]?=some o):∃ s',o.wpIn (wf ro) 0 P a w (wlT P ro ops fl I Q s') Q/\schOk ops (rem.filter fun k => !(Nat.beq k i)) s'=true:=by
 have hnw:waitB ops rem i=false:=by
  cases hw:waitB ops rem i with
  | false=>rfl
  | true =>
   obtain ⟨j,hj,hjr⟩:=List.any_eq_true.1 hw
   rw [hr j hj] at hjr;cases hjr
 cases s with
 | done=>simp only [schOk,List.isEmpty_iff] at hok;rw [hok] at hi;cases hi
 | one k n =>
  simp only [schOk,Bool.and_eq_true,List.all_eq_true,Bool.or_eq_true] at hok
  have:=hok.1.2 i hi
  rw [hnw] at this
  have e:i=k:=Nat.eq_of_beq_eq_true (this.resolve_right (by simp))
  subst e
  obtain ⟨_,o',ho',hw⟩:=h
  rw [ho] at ho';cases ho'
  exact ⟨n,hw,hok.2⟩
 | two k n l m =>
  simp only [schOk,Bool.and_eq_true,List.all_eq_true,Bool.or_eq_true] at hok
  have:=hok.1.1.2 i hi
  rw [hnw] at this
  rcases this.resolve_right (by simp) with e | e
  ·have e:=Nat.eq_of_beq_eq_true e
   subst e
   obtain ⟨_,⟨o',ho',hw⟩,_⟩:=h
   rw [ho] at ho';cases ho'
   exact ⟨n,hw,hok.1.2⟩
  ·have e:=Nat.eq_of_beq_eq_true e
   subst e
   obtain ⟨_,_,o',ho',hw⟩:=h
   rw [ho] at ho';cases ho'
   exact ⟨m,hw,hok.2⟩
structure InvT (P:Program) (ro:Option Nat) (N:Nat) (fl:Bool) (I:World->Prop) (Q:Exit->Act->World->Prop) (ops:List Oper) (hv:List (Option Value)) (a0:Act) (listed:Array Bool) (a a':Act) (q:List Nat×Sch) (w:World):Prop where
 sub:∀ i,i∈q.1->i<ops.length/\isH hv i=false
 ok:schOk ops q.1 q.2=true
 tl:∀ i,i<ops.length->isH hv i=false->(isL listed i<->¬ i∈q.1)
 wp:wlT P ro ops fl I Q q.2 a' w
 sz:a.tmps.size=N
 sz':a'.tmps.size=N
 df:a.defers=a'.defers
 hval:∀ (i:Nat) (o:Oper) (t:Tmp) (v:Value),ops[i]?=some o->hv[i]?=some (some v)->o.dst=some t->a'.tmps.getD t undef=v
 pend:∀ (i:Nat) (o:Oper) (t:Tmp),ops[i]?=some o->isH hv i=true->¬ isL listed i->o.dst=some t->a.tmps.getD t undef=a0.tmps.getD t undef
 same:∀ t,(∀ (i:Nat) (o:Oper),ops[i]?=some o->isH hv i=true->¬ isL listed i->o.dst≠some t)->a.tmps.getD t undef=a'.tmps.getD t undef
 old:∀ t,(∀ (i:Nat) (o:Oper),ops[i]?=some o->o.dst=some t->isH hv i=false/\¬ isL listed i)->a'.tmps.getD t undef=a0.tmps.getD t undef
 shut:∀ (i:Nat) (o:Oper),ops[i]?=some o->isL listed i->∀ j,edgeTo o j=true->isL listed j
section
variable {P:Program} {ro:Option Nat} {N:Nat} {ds:List Deferred} {ops:List Oper} {I:World->Prop} {K:Env->World->Prop} {σ0:Env} {w0:World} {hv:List (Option Value)} {a0:Act} {Q:Exit->Act->World->Prop}
theorem Az6 {fl:Bool} (hchk:okHeldT ops N fl hv=true) (ha0:Agr N σ0 ds a0) (hob:hObs P I (hEnv ops hv σ0) ops hv) (hQ:∀ e a w,Q e a w->e=.normal) :
  ∀ (fuel:Nat) (listed:Array Bool) (a a':Act) (q:List Nat×Sch) (w:World),listed.size=ops.length->cnt listed ops.length<=fuel->InvT P ro N fl I Q ops hv a0 listed a a' q w ->
   wpAnyIn (wf ro) 0 P .any ops.toArray Q fuel listed a w:=by
 simp only [okHeldT,Bool.and_eq_true,List.all_eq_true] at hchk
 obtain ⟨⟨⟨⟨hfl,hlen0⟩,hback⟩,hnd0⟩,hall⟩:=hchk
 have hlen:hv.length=ops.length:=Nat.eq_of_beq_eq_true hlen0
 have hnd:=H9 hnd0
 have hback':∀ (i:Nat) (o:Oper),ops[i]?=some o->∀ j,edgeTo o j=true->j<i:=by
  intro i o hi j hj
  have:=hback (o,i) (by rw [List.mem_zipIdx_iff_getElem?];exact hi)
  obtain ⟨e,he,hb,rfl⟩:=F7.1 hj
  simp only [okBack,Array.all_eq_true',Bool.or_eq_true,Bool.not_eq_true',Nat.blt_eq] at this
  rcases this e he with h | h
  ·rw [hb] at h;cases h
  ·exact h
 have allL:∀ listed:Array Bool,listed.size=ops.length->Region.ready .any ops.toArray listed=[]->∀ i,i<ops.length->isL listed i:=by
  intro listed hsz hr i
  induction i using Nat.strongRecOn with
  | _ i ih =>
   intro hi
   by_cases hh:isL listed i
   ·exact hh
   ·have:i∈Region.ready .any ops.toArray listed:=by
     refine G8.2 ⟨by simpa using hi,(C5 (by omega)).2 hh,fun o ho j hj=>?_⟩
     have:=hback' i o (by simpa using ho) j hj
     exact ih j this (by omega)
    rw [hr] at this;cases this
 have done:∀ listed a a' q w,(∀ i,i<ops.length->isL listed i)->InvT P ro N fl I Q ops hv a0 listed a a' q w->Q .normal a w:=by
  intro listed a a' q w hl hI
  have hq:q.1=[]:=List.eq_nil_iff_forall_not_mem.2 fun i hi=>by
   obtain ⟨h1,h2⟩:=hI.sub i hi
   exact (hI.tl i h1 h2).1 (hl i h1) hi
  have hwp:=hI.wp
  have hok:=hI.ok
  rw [hq] at hok
  have hdn:q.2=.done:=by
   cases hs:q.2 with
   | done=>rfl
   | one _ _=>rw [hs] at hok;simp [schOk] at hok
   | two _ _ _ _=>rw [hs] at hok;simp [schOk] at hok
  rw [hdn] at hwp
  have haa:a=a':=by
   have ht:a.tmps=a'.tmps:=by
    apply Array.ext
    ·rw [hI.sz,hI.sz']
    ·intro i h1 h2
     have:=hI.same i (fun j o ho _ hn=>absurd (hl j (by
      rcases Nat.lt_or_ge j ops.length with h | h
      ·exact h
      ·rw [List.getElem?_eq_none h] at ho;cases ho)) hn)
     simpa [Array.getD_eq_getD_getElem?,h1,h2] using this
   cases a;cases a'
   simp only at ht
   have hd:=hI.df
   simp only at hd
   rw [ht,hd]
  rw [haa];exact hwp.2
 intro fuel
 induction fuel with
 | zero =>
  intro listed a a' q w hsz hc hI
  have hl:∀ i,i<ops.length->isL listed i:=by
   intro i hi
   have:=AF2 listed ops.length (by omega) i hi
   by_cases hh:isL listed i
   ·exact hh
   ·have:=(C5 (by omega:i<listed.size)).2 hh
    simp_all
  refine ⟨?_,done listed a a' q w hl hI⟩
  refine List.eq_nil_iff_forall_not_mem.2 fun i hi=>?_
  obtain ⟨h1,h2,_⟩:=G8.1 hi
  have h1':i<ops.length:=by simpa using h1
  exact (C5 (by omega)).1 h2 (hl i h1')
 | succ fuel ih =>
  intro listed a a' q w hsz hc hI
  refine ⟨fun hr=>done listed a a' q w (allL listed hsz hr) hI,fun i hi=>?_⟩
  obtain ⟨hin,hun,hed⟩:=G8.1 hi
  have hin':i<ops.length:=by simpa using hin
  have hunl:¬ isL listed i:=(C5 (by omega)).1 hun
  obtain ⟨o,ho⟩:∃ o,ops[i]?=some o:=⟨_,List.getElem?_eq_getElem hin'⟩
  have hed':∀ j,edgeTo o j=true->isL listed j:=hed o (by simpa using ho)
  have hsz':(listed.setIfInBounds i true).size=ops.length:=by simpa using hsz
  have hcnt:cnt (listed.setIfInBounds i true) ops.length<=fuel:=by
   have:=V3 listed i hun ops.length hin'
   omega
  have hset:∀ j,isL (listed.setIfInBounds i true) j<->(i=j\/isL listed j):=fun j=>G5 (by omega)
  have hreach:∀ j,reachB ops 3 i j=true->isL listed j:=fun j hj=>N4 hI.shut 3 i j o ho hed' hj
  have hshut':∀ (j:Nat) (oj:Oper),ops[j]?=some oj->isL (listed.setIfInBounds i true) j->∀ k,edgeTo oj k=true->isL (listed.setIfInBounds i true) k:=by
   intro j oj hoj hlj k hk
   rw [hset] at hlj ⊢
   by_cases e:i=j
   ·subst e
    rw [ho] at hoj;cases hoj
    exact .inr (hed' k hk)
   ·exact .inr (hI.shut j oj hoj (hlj.resolve_left e) k hk)
  have hck:=hall (o,i) (by rw [List.mem_zipIdx_iff_getElem?];exact ho)
  simp only at hck
  obtain ⟨⟨⟨hdk,hgd⟩,hop⟩,hcls⟩:=hck
  have hgn:o.guard=none:=by
   cases hg:o.guard with
   | none=>rfl
   | some g=>rw [hg] at hgd;cases hgd
  have hnd':∀ c,o.op≠.defer c:=fun c e=>by rw [e] at hop;cases hop
  have hns:∀ cs b,o.op≠.select cs b:=fun cs b e=>by rw [e] at hop;cases hop
  have hw:Region.wanted o (yielded ops.toArray a.tmps)=true:=by simp [Region.wanted,hgn]
  unfold wpOpIn
  simp only [List.getElem?_toArray,ho]
  rw [if_pos hw]
  cases hH:isH hv i with
  | true =>
   rw [hH] at hcls
   simp only [cond_true,Bool.and_eq_true,List.all_eq_true] at hcls
   obtain ⟨hds,hrd⟩:=hcls
   obtain ⟨t0,ht0⟩:=Option.isSome_iff_exists.1 hds
   obtain ⟨v,hvv⟩:=Al7 hH
   have htN:t0<N:=by simpa [ht0,dOk,Nat.blt_eq] using hdk
   have hV:=AW3 hob i o v ho hvv w (wlT_I hI.wp fun hft hnil=>by
    subst hft
    refine hunl (AH9 (by simpa using hfl) hI.shut (fun j hj hHj=>(hI.tl j hj hHj).2 ?_) i hin')
    have hok:=hI.ok
    rw [hnil] at hok
    simp only [schOk,List.isEmpty_iff] at hok
    rw [hok];simp)
   have hopn:∀ x u,x∈o.op.operands->ev (hEnv ops hv σ0) x=some u->a.eval x=u:=by
    intro x u hx hu
    cases x with
    | const c=>simpa [Kx.ev,Act.eval] using hu
    | global g=>simpa [Kx.ev,Act.eval] using hu
    | func f=>simpa [Kx.ev,Act.eval] using hu
    | tmp t =>
     have hmem:t∈tmpsOf o:=by
      unfold tmpsOf
      rw [List.mem_filterMap]
      exact ⟨.tmp t,by simpa using hx,rfl⟩
     have hc:=hrd t hmem
     show a.tmps.getD t undef=u
     rcases AG4 ops hv σ0 t u hu with ⟨j,oj,hoj,hvj,hdj⟩ | ⟨hl0,hno⟩
     ·have hc1:=hc (oj,j) (by rw [List.mem_zipIdx_iff_getElem?];exact hoj)
      have hHj:isH hv j=true:=by unfold isH;rw [hvj];rfl
      simp only [Bool.or_eq_true,hHj,cond_true] at hc1
      have hlj:isL listed j:=by
       rcases hc1 with h1 | h1
       ·simp [hdj] at h1
       ·exact hreach j h1
      rw [hI.same t (fun k ok hok _ hnl hdk'=>?_),hI.hval j oj t u hoj hvj hdj]
      have:=L1 hnd hoj hok hdj hdk'
      subst this;exact hnl hlj
     ·have h1:a.tmps.getD t undef=a'.tmps.getD t undef:=hI.same t (fun k ok hok hHk _ hdk'=>hno k ok hok hHk hdk')
      rw [h1,hI.old t (fun k ok hok hdk'=>?_),ha0.slot t u hl0]
      have hHk:isH hv k=false:=by
       cases hh:isH hv k with
       | false=>rfl
       | true=>exact absurd hdk' (hno k ok hok hh)
      refine ⟨hHk,fun hlk=>?_⟩
      have hc1:=hc (ok,k) (by rw [List.mem_zipIdx_iff_getElem?];exact hok)
      simp only [Bool.or_eq_true,hHk,cond_false] at hc1
      rcases hc1 with h1 | h1
      ·simp [hdk'] at h1
      ·exact hunl (N4 hI.shut 3 k i ok hok (fun j hj=>hI.shut k ok hok hlk j hj) h1)
   refine hV.gv.wp hopn ?_
   rintro v' w' ⟨rfl,rfl⟩
   have hp:=fun t=>N1 (v:=v') (t:=t) (d:=o.dst) hI.sz
   refine ih _ _ a' q _ hsz' hcnt ⟨hI.sub,hI.ok,fun j hj hHj=>?_,hI.wp,(hp t0).1,hI.sz',(hp t0).2.1.trans hI.df,hI.hval,fun j oj t hoj hHj hnl hdj=>?_,fun t hno=>?_,fun t hno=>?_,hshut'⟩
   ·rw [hset]
    constructor
    ·rintro (e | e)
     ·subst e;rw [hH] at hHj;cases hHj
     ·exact (hI.tl j hj hHj).1 e
    ·exact fun h=>.inr ((hI.tl j hj hHj).2 h)
   ·rw [hset] at hnl
    have hne:o.dst≠some t:=fun e=>hnl (.inl (L1 hnd ho hoj e hdj))
    rw [(hp t).2.2.1 hne]
    exact hI.pend j oj t hoj hHj (fun h=>hnl (.inr h)) hdj
   ·by_cases e:o.dst=some t
    ·rw [ht0] at e;cases e
     rw [(hp t0).2.2.2 ht0 htN,hI.hval i o t0 v' ho hvv ht0]
    ·rw [(hp t).2.2.1 e]
     refine hI.same t fun j oj hoj hHj hnl hdj=>?_
     refine hno j oj hoj hHj (fun h=>?_) hdj
     rw [hset] at h
     rcases h with h | h
     ·subst h;rw [ho] at hoj;cases hoj;exact e hdj
     ·exact hnl h
   ·refine hI.old t fun j oj hoj hdj=>?_
    obtain ⟨h1,h2⟩:=hno j oj hoj hdj
    exact ⟨h1,fun h=>h2 ((hset j).2 (.inr h))⟩
  | false =>
   rw [hH] at hcls
   simp only [cond_false,List.all_eq_true] at hcls
   have hrd:=hcls
   have hirem:i∈q.1:=Classical.byContradiction fun h=>hunl ((hI.tl i hin' hH).2 h)
   have hnor:∀ j,j∈q.1->reachB ops 3 i j=false:=by
    intro j hj
    cases hr:reachB ops 3 i j with
    | false=>rfl
    | true =>
     obtain ⟨h1,h2⟩:=hI.sub j hj
     exact absurd hj ((hI.tl j h1 h2).1 (hreach j hr))
   obtain ⟨sch,hwp,hok2⟩:=BE5 hI.ok hI.wp hirem hnor ho
   refine Y4 hnd' hns (fun x hx=>?_) hQ (fun dd v w' hnx=>?_) hwp
   ·cases x with
    | const c=>rfl
    | global g=>rfl
    | func f=>rfl
    | tmp t =>
     have hmem:t∈tmpsOf o:=by
      unfold tmpsOf
      rw [List.mem_filterMap]
      exact ⟨.tmp t,by simpa using hx,rfl⟩
     refine hI.same t fun j oj hoj hHj hnl hdj=>hnl ?_
     have hc1:=hrd t hmem (oj,j) (by rw [List.mem_zipIdx_iff_getElem?];exact hoj)
     simp only [Bool.or_eq_true,hHj] at hc1
     rcases hc1 with (h1 | h1) | h1
     ·simp [hdj] at h1
     ·simp at h1
     ·exact hreach j h1
   ·have hsa:({ a with defers:=dd++a.defers }:Act).tmps.size=N:=hI.sz
    have hsa':({ a' with defers:=dd++a'.defers }:Act).tmps.size=N:=hI.sz'
    have hp:=fun t=>N1 (v:=v) (t:=t) (d:=o.dst) hsa
    have hp':=fun t=>N1 (v:=v) (t:=t) (d:=o.dst) hsa'
    have hnoH:∀ (j:Nat) (oj:Oper) (t:Tmp),ops[j]?=some oj->isH hv j=true->oj.dst=some t->o.dst≠some t:=by
     intro j oj t hoj hHj hdj e
     have:=L1 hnd ho hoj e hdj
     subst this;rw [hH] at hHj;cases hHj
    refine ih _ _ _ (q.1.filter (fun k => !(Nat.beq k i)),sch) _ hsz' hcnt ⟨fun j hj=>hI.sub j (List.mem_filter.1 hj).1,hok2,fun j hj hHj=>?_,hnx,(hp 0).1,(hp' 0).1,?_,fun j oj t u hoj hvj hdj=>?_,fun j oj t hoj hHj hnl hdj=>?_,fun t hno=>?_,fun t hno=>?_,hshut'⟩
    ·rw [hset]
     constructor
     ·rintro (e | e) hm
      ·subst e
       simpa using (List.mem_filter.1 hm).2
      ·exact (hI.tl j hj hHj).1 e (List.mem_filter.1 hm).1
     ·intro h
      by_cases e:i=j
      ·exact .inl e
      ·refine .inr ((hI.tl j hj hHj).2 fun hm=>h (List.mem_filter.2 ⟨hm,?_⟩))
       simp only [Bool.not_eq_true']
       exact AC8 (fun e'=>e e'.symm)
    ·rw [(hp 0).2.1,(hp' 0).2.1]
     show dd++a.defers=dd++a'.defers
     rw [hI.df]
    ·have hHj:isH hv j=true:=by unfold isH;rw [hvj];rfl
     rw [(hp' t).2.2.1 (hnoH j oj t hoj hHj hdj)]
     exact hI.hval j oj t u hoj hvj hdj
    ·rw [(hp t).2.2.1 (hnoH j oj t hoj hHj hdj)]
     exact hI.pend j oj t hoj hHj (fun h=>hnl ((hset j).2 (.inr h))) hdj
    ·by_cases e:o.dst=some t
     ·have htN:t<N:=by simpa [e,dOk,Nat.blt_eq] using hdk
      rw [(hp t).2.2.2 e htN,(hp' t).2.2.2 e htN]
     ·rw [(hp t).2.2.1 e,(hp' t).2.2.1 e]
      refine hI.same t fun j oj hoj hHj hnl hdj=>hno j oj hoj hHj (fun h=>?_) hdj
      rw [hset] at h
      rcases h with h | h
      ·subst h;rw [hH] at hHj;cases hHj
      ·exact hnl h
    ·have e:o.dst≠some t:=fun e=>(hno i o ho e).2 ((hset i).2 (.inl O))
     rw [(hp' t).2.2.1 e]
     refine hI.old t fun j oj hoj hdj=>?_
     obtain ⟨h1,h2⟩:=hno j oj hoj hdj
     exact ⟨h1,fun h=>h2 ((hset j).2 (.inr h))⟩
theorem WC.heldT {Q:Pst} {id:Nat} (hm:P.follows .mixedOrders=true) (fl:Bool) (I:World->Prop) (hv:List (Option Value)) (sch:Sch) (hchk:okHeldT ops N fl hv=true) (hsc:schOk ops (tIdx ops hv) sch=true) (hob:hObs P I (hEnv ops hv σ0) ops hv)
  (hT:∀ w,Ext w0 w->w.heap=w0.heap->WLT P ro N ds ops fl I (fun σ w=>Q .normal σ ds w) sch (hEnv ops hv σ0) w):WC P ro N Q (.region id ops.toArray true) σ0 ds w0:=by
 refine ⟨fun a ha=>?_⟩
 have main:(Code.region id ops.toArray true).wpIn (wf ro) 0 P (fun e a w=>e=.normal/\∃ σ',Agr N σ' ds a/\Q .normal σ' ds w) a w0:=by
  refine wpIn_region_draw fun t=>?_
  simp only [Region.schedule,hm,Bool.true_or,if_true]
  refine wpAnyIn_sound ops.toArray.size t _ a _ ?_
  have hfalse:∀ i,¬ isL (Array.replicate ops.toArray.size false) i:=by
   intro i
   unfold isL
   by_cases hi:i<ops.length<;>simp [hi]
  have hc:=hchk
  simp only [okHeldT,Bool.and_eq_true,List.all_eq_true] at hc
  obtain ⟨⟨⟨⟨hfl,hlen0⟩,hback⟩,hnd0⟩,hall⟩:=hc
  have hdk:∀ o∈ops,dOk N o.dst=true:=by
   intro o ho
   obtain ⟨i,hi⟩:=List.mem_iff_getElem?.1 ho
   exact (hall (o,i) (by rw [List.mem_zipIdx_iff_getElem?];exact hi)).1.1.1
  have hag:=AN7 (N:=N) (ds:=ds) ops hv σ0 a hdk ha
  have hdrew:Ext w0 { w0 with drawn:=w0.drawn+1 }:=(Below.refl _ w0).drew
  refine Az6 hchk ha hob (fun e a w h=>h.1) _ _ a (hAct ops hv a) (tIdx ops hv,sch) _ (by simp) (by simpa using cnt_le _ _) ⟨fun i hi=>Aj7.1 hi,hsc,fun i h1 h2=>⟨fun h=>absurd h (hfalse i),fun h=>absurd (Aj7.2 ⟨h1,h2⟩) h⟩,(hT _ hdrew O).out _ hag,ha.size,hag.size,by rw [ha.defs,hag.defs],
   fun i o t v ho hvi hd=>AN6 ops hv a ha.size (H9 hnd0) i o t v ho hvi hd ?_,fun i o t _ _ _ _=>?_,fun t hno=>?_,fun t hno=>?_,fun i o _ hl=>absurd hl (hfalse i)⟩
  ·have:=hdk o (List.mem_iff_getElem?.2 ⟨i,ho⟩)
   simpa [hd,dOk,Nat.blt_eq] using this
  ·rfl
  ·exact (L3 ops hv a t ha.size (fun i o ho hi=>hno i o ho hi (hfalse i))).symm
  ·exact L3 ops hv a t ha.size (fun i o ho hi hd=>by have:=(hno i o ho hd).1;rw [hi] at this;cases this)
 refine wpIn_mono main ?_
 rintro e a' w' ⟨rfl,σ',hag,hk⟩
 exact ⟨σ',ds,hag,hk⟩
end
end Go.Kx
namespace Go.Proofs.YtggegpiffjbngaaGreat
open Go Go.Kx Go.RowKit
structure LdF (w:World) (gu gq gv:Nat) (vv:Value) (lu lq:Nat) (vl:List Nat) (A:Nat) (j:Nat) (U Q:List Nat) (W:World):Prop where
 low:Below w.heap.size w W
 u:OB 91 W gu U
 q:OB 91 W gq Q
 v:eW.R (fun i=>i=gv) W vv vl
 lu:U.length=lu
 lq:Q.length=lq
 eq:val U+val vl*val Q=A
 zq:∀ i,i<j->Q.getD i 0=0
 lt:val U<4294967296 ^ j*val vl
theorem BA8 {S:Nat->Prop} {w:World} {g o n c:Nat} {l:List Nat} (h:eW.R S w (.slice (some ⟨g,o,none⟩) n c) l) (hne:0<l.length):g<w.heap.size:=by
 obtain ⟨x,hx⟩:∃ x,l[0]?=some x:=⟨_,List.getElem?_eq_getElem hne⟩
 obtain ⟨ad,c',hv,_,e,he,_,hc⟩:=RL.at_ h hx
 cases hv
 have h0:e.cells[0]?=some e:=by obtain ⟨rfl,_⟩:=he;rfl
 have:=AW5 (hc 0 e h0)
 rw [F2,F2] at this
 exact this
theorem BI1 {p X U V q g bo V1:Nat} (hV:0<V) (hp:0<p) (hq:U / p / V=q) (hg1:q<=g) (hg2:g<=q+1) (hs:V1+p*(V*g)=U+X*bo) (hbo:bo<=1) (hV1:V1<X) (hX:U<X) :
  (bo=0->g=q/\V1+p*(V*q)=U)/\(bo=1->g=q+1/\∀ c V2,V2+X*c=V1+p*V->V2<X->c<=1->V2+p*(V*q)=U):=by
 have hq1:p*(V*q)<=U:=by
  rw [<-hq,Nat.div_div_eq_div_mul,<-Nat.mul_assoc];exact Nat.mul_div_le U (p*V)
 have hq2:U<p*(V*(q+1)):=by
  rw [<-hq,Nat.div_div_eq_div_mul,<-Nat.mul_assoc];exact Nat.lt_mul_div_succ U (Nat.mul_pos hp hV)
 rcases (show g=q\/g=q+1 by omega) with rfl | rfl
 ·constructor
  ·rintro rfl;exact ⟨rfl,by omega⟩
  ·rintro rfl;omega
 ·constructor
  ·rintro rfl;omega
  ·rintro rfl
   refine ⟨rfl,fun c V2 h1 h2 h3=>?_⟩
   have e:p*(V*(q+1))=p*(V*q)+p*V:=by grind
   rw [e] at hs hq2
   rcases (show c=0\/c=1 by omega) with rfl | rfl
   ·omega
   ·omega
theorem AV5:Ent Tryz.prog 235:=A0 Tryz.func235 (by kernel_rfl) rfl
set_option maxHeartbeats 3200000 in
theorem AU8 {S T0:Nat->Prop} {w:World} {va vb:Value} {a b:List Nat} {m:Nat} (up:Up S w) (upo:Up T0 w) (ha:eW.R S w va a) (hb:eW.R S w vb b) (hla:a.length<=1099511627776) (hlb:b.length=m+2) (hab:b.length<=a.length) (htop:0<b.getD (m+1) 0) :
  CR Tryz.prog 235 #[va,vb] w (Two (Wv T0 (val a / val b) (a.length+1)) (Wv S (val a % val b) (a.length+1))):=by
 have hda:dig a:=E1 ha
 have hdb:dig b:=E1 hb
 have htd:=E3 hdb (m+1)
 have gb:b[m+1]?=some (b.getD (m+1) 0):=B6 (by omega)
 have hbtop:4294967296 ^ (m+1)<=val b:=top_ge hlb htop
 have hp0:0<4294967296 ^ (m+1):=Nat.pow_pos (by omega)
 have hwn1:IntKind.i64.wrap ((b.length:Int)-1)=((m+1:Nat):Int):=by rw [wI (by omega)];omega
 refine enter Tryz.func235 O Tryz.ntmps235 O ?_
 refine .sr (.asg O O (.an O O (.sr (.mv O O (.lenR un_W O O hb (.an O O ?_))))))
 refine .sr (.mv O O (.mv O O (.sub O O O ?_)))
 rw [hwn1]
 refine .ixN un_W A3 O O hb O gb fun p hp=>.ldE A3 O O hp fun e he=>?_
 obtain ⟨rfl,_⟩:=he
 refine .call _ O AS4 O (AR7 htd htop) fun v1 w1 e1 h1=>?_
 obtain ⟨s,rfl,hs,htops⟩:=h1
 refine .cvt AB7 un_uint O O ?_
 rw [wU (n:=(s:Int)) (by omega)]
 refine .an O O ?_
 refine .mid (α:=Value×Value) (fun x=>[(0,va),(6,.int .i64 (b.length:Nat)),(7,.int .u64 (s:Nat)),(8,x.1),(9,x.2)]) (fun x W=>Ext w W/\∃ gu cu gv cv U0 V0,x.1=.slice (some ⟨gu,0,none⟩) (a.length+1) cu/\x.2=.slice (some ⟨gv,0,none⟩) b.length cv /\
   OB 91 W gu U0/\OB 91 W gv V0/\gu≠gv/\w.heap.size<=gu/\val U0=val a*2 ^ s/\U0.length=a.length+1/\val V0=val b*2 ^ s/\V0.length=b.length+1/\a.length+1<=cu/\cu<=9223372036854775807/\b.length+1<=cv/\cv<=9223372036854775807) ?_ ?_
 ·refine .heldT follows true (fun _=>True) [some _,some _,none,some _,some _,none,some _,none,none,none] (.one 2 (.one 5 (.two 7 (.one 8 (.one 9 .done)) 8 (.one 7 (.one 9 .done))))) (by kernel_rfl) (by kernel_rfl) ⟨fun _ _=>v_mv rfl,fun _ _=>v_mv rfl,fun _ _=>v_mv rfl,fun _ _=>v_mv rfl,fun _ _=>v_mv rfl,trivial⟩ ?_
  intro w1' e1' _
  have x1:=e1.trans e1'
  refine .gv O trivial O (A4 _ Y2 O (V7 (ha.ext x1) hla hs)) ?_
  rintro vu w2 ⟨e2,U0,hou,hvu,hlu⟩
  refine .gv O trivial O (A4 _ Y2 O (V7 (hb.ext (x1.trans e2)) (by omega) hs)) ?_
  rintro vs w3 ⟨e3,V0,hov,hvv,hlv⟩
  obtain ⟨gu,cu,rfl,hcu1,hcu2,hgu,obu⟩:=hou.ob (by intro h;rw [h] at hlu;simp at hlu)
  obtain ⟨gv,cv,rfl,hcv1,hcv2,hgv,obv⟩:=hov.ob (by intro h;rw [h] at hlv;simp at hlv)
  have hgu2:gu<w2.heap.size:=obu.lt
  have hguv:gu≠gv:=by omega
  have hres:∀ σ:Env,(∀ t v,Kx.look [(0,va),(6,.int .i64 (b.length:Nat)),(7,.int .u64 (s:Nat)),(8,.slice (some ⟨gu,0,none⟩) U0.length cu),(9,.slice (some ⟨gv,0+0*1,none⟩) (b.length-0) (cv-0))] t=some v->Kx.look σ t=some v) ->
    ([]:List Deferred)=[]/\∃ x:Value×Value,(∀ t v,Kx.look [(0,va),(6,.int .i64 (b.length:Nat)),(7,.int .u64 (s:Nat)),(8,x.1),(9,x.2)] t=some v->Kx.look σ t=some v)/\Ext w w3/\∃ gu cu gv cv U0 V0,x.1=.slice (some ⟨gu,0,none⟩) (a.length+1) cu/\x.2=.slice (some ⟨gv,0,none⟩) b.length cv /\
   OB 91 w3 gu U0/\OB 91 w3 gv V0/\gu≠gv/\w.heap.size<=gu/\val U0=val a*2 ^ s/\U0.length=a.length+1/\val V0=val b*2 ^ s/\V0.length=b.length+1/\a.length+1<=cu/\cu<=9223372036854775807/\b.length+1<=cv/\cv<=9223372036854775807 :=
   fun σ h=>⟨rfl,(_,_),h,(x1.trans e2).trans e3,gu,cu,gv,cv,U0,V0,by rw [hlu],rfl,obu.ext e3,obv,hguv,Nat.le_trans x1.size hgu,hvu,hlu,hvv,hlv,by omega,hcu2,by omega,hcv2⟩
  refine .gv2 (.gv O trivial O (Aq0 none (some _) 0 b.length un_W A3 O O ⟨.i64,rfl⟩ (Nat.zero_le _) (by omega) (by omega)).gv ?_) (.gv O trivial O (v_as O).gv ?_)
  ·rintro _ _ ⟨rfl,rfl⟩
   refine .gv O trivial O (v_as O).gv ?_
   rintro _ _ ⟨rfl,rfl⟩
   refine .gv O trivial O (v_as O).gv ?_
   rintro _ _ ⟨rfl,rfl⟩
   exact .nil (.inl O) (hres _ (lkA O))
  ·rintro _ _ ⟨rfl,rfl⟩
   refine .gv O trivial O (Aq0 none (some _) 0 b.length un_W A3 O O ⟨.i64,rfl⟩ (Nat.zero_le _) (by omega) (by omega)).gv ?_
   rintro _ _ ⟨rfl,rfl⟩
   refine .gv O trivial O (v_as O).gv ?_
   rintro _ _ ⟨rfl,rfl⟩
   exact .nil (.inl O) (hres _ (lkA O))
 rintro ⟨vu,vs⟩ w3 ⟨x3,gu,cu,gv,cv,U0,V0,hvus,hvss,obu,obv,hguv,hwgu,hvu,hlu,hvv,hlv,hcu1,hcu2,hcv1,hcv2⟩
 replace hvus:vu=.slice (some ⟨gu,0,none⟩) (a.length+1) cu:=hvus
 replace hvss:vs=.slice (some ⟨gv,0,none⟩) b.length cv:=hvss
 subst hvus
 subst hvss
 have hps:0<2 ^ s:=Nat.pow_pos (by omega)
 have hvlt:val V0<4294967296 ^ b.length:=by
  rw [hvv,hlb];exact Aj5 hdb hlb hs htops
 have hvl:=obv.toR (S:=fun i=>i=gv) O 0 b.length cv (by omega) (by omega) (by omega)
 rw [List.drop_zero] at hvl
 have hvlv:val (V0.take b.length)=val b*2 ^ s:=by rw [AD6 (by omega) hvlt,hvv]
 have hvll:(V0.take b.length).length=m+2:=by rw [List.length_take];omega
 have hVlt:val (V0.take b.length)<4294967296 ^ (m+2):=by rw [hvlv];exact Aj5 hdb hlb hs htops
 have hV1:=top_pos (Am5 obv.1 b.length) hvll (by rw [hvlv];exact Nat.le_trans hbtop (Nat.le_mul_of_pos_right _ hps))
 generalize V0.take b.length=vl at *
 have hVp:0<val vl:=by
  have:=Nat.mul_pos (Nat.lt_of_lt_of_le hp0 hbtop) hps
  omega
 refine .sr (.mv O O (.lenR un_W O O (ha.ext x3) (.mv O O (.sub O O O ?_))))
 rw [wI (n:=(a.length:Int)-(b.length:Int)) (by omega)]
 refine .add O O O ?_
 rw [show IntKind.i64.wrap ((a.length:Int)-(b.length:Int)+1)=((a.length-b.length+1:Nat):Int) by rw [wI (by omega)];omega]
 refine .make_ _ _ un_W H0 O (by decide) O O O (Nat.le_refl _) (by omega) (by omega) fun w4 gq n4=>.an O O ?_
 have obq:OB 91 w4 gq (List.replicate (a.length-b.length+1) 0):=OB.made n4
 obtain ⟨e4,k4,hgq,hs4⟩:=n4
 have x4:=x3.trans e4
 have obu4:=obu.ext e4
 have hvl4:=hvl.ext e4
 have hgvlt:gv<w3.heap.size:=obv.lt
 have hgult:gu<w3.heap.size:=obu.lt
 have hguq:gu≠gq:=by omega
 have hgqv:gq≠gv:=by omega
 have hwgq:w.heap.size<=gq:=by have:=x3.size;omega
 generalize hlu':a.length+1=lu at *
 generalize hlq:a.length-b.length+1=lq at *
 have f4:LdF w gu gq gv (.slice (some ⟨gv,0,none⟩) b.length cv) lu lq vl (val a*2 ^ s) lq U0 (List.replicate lq 0) w4:=by
  refine ⟨x4,obu4,obq,hvl4,hlu,by simp,by rw [M5,hvu];omega,fun i _=>?_,?_⟩
  ·rw [List.getD_eq_getElem?_getD,List.getElem?_replicate];split<;>rfl
  ·rw [hvu,hvlv,<-Nat.mul_assoc]
   refine Nat.mul_lt_mul_of_pos_right ?_ hps
   have h1:=AJ3 hda
   have h2:4294967296 ^ a.length=4294967296 ^ lq*4294967296 ^ (m+1):=by rw [<-Nat.pow_add];congr 1;omega
   have h3:=Nat.mul_le_mul_left (4294967296 ^ lq) hbtop
   omega
 refine .mid (α:=List Nat×List Nat) (fun x=>[(4,.slice (some ⟨gq,0,none⟩) lq lq),(6,.int .i64 (b.length:Nat)),(7,.int .u64 (s:Nat)),(8,.slice (some ⟨gu,0,none⟩) lu cu)]) (fun x W=>LdF w gu gq gv (.slice (some ⟨gv,0,none⟩) b.length cv) lu lq vl (val a*2 ^ s) 0 x.1 x.2 W) ?_ ?_
 ·refine .sr (.mv O O (.lenR un_W O O (ha.ext x4) (.mv O O (.sub O O O ?_))))
  rw [show IntKind.i64.wrap ((a.length:Int)-(b.length:Int))=(lq:Int)-1 by rw [wI (by omega)];omega]
  refine .an O O ?_
  refine .block (.loop (α:=Nat×List Nat×List Nat) (fun x=>[(4,.slice (some ⟨gq,0,none⟩) lq lq),(6,.int .i64 (b.length:Nat)),(7,.int .u64 (s:Nat)),(8,.slice (some ⟨gu,0,none⟩) lu cu),(9,.slice (some ⟨gv,0,none⟩) b.length cv),(10,.int .i64 ((x.1:Int)-1))])
   (fun x W=>x.1<=lq/\LdF w gu gq gv (.slice (some ⟨gv,0,none⟩) b.length cv) lu lq vl (val a*2 ^ s) x.1 x.2.1 x.2.2 W) (fun x=>x.1) (lq,U0,List.replicate lq 0) ?_ ?_ ?_)
  ·exact lkA rfl
  ·exact ⟨Nat.le_refl _,f4⟩
  ·rintro ⟨j,U,Q⟩ W ⟨hj,hF⟩
   replace hj:j<=lq:=hj
   replace hF:LdF w gu gq gv (.slice (some ⟨gv,0,none⟩) b.length cv) lu lq vl (val a*2 ^ s) j U Q W:=hF
   rcases Nat.eq_zero_or_pos j with hj0 | hj0
   ·subst hj0
    refine .seq (.sr (.mv O O (.geqF O O O (by show ¬ (0:Int)<=((0:Nat):Int)-1;omega) (.nil (.condF O (.exit ?_))))))
    exact ⟨rfl,(U,Q),lkA rfl,hF⟩
   ·obtain ⟨k,rfl⟩:∃ i,j=i+1:=⟨j-1,by omega⟩
    have hi:((k+1:Nat):Int)-1=(k:Int):=by omega
    refine .seq (.sr (.mv (v:=.int .i64 (k:Int)) O (by rw [<-hi];rfl) (.geqT O O O (by omega) (.nil (.condT O (.skip (.seq (.block (.sr ?_)))))))))
    have hkn:k+(b.length+1)<=lu:=by omega
    have hkn':k+(m+3)<=U.length:=by rw [hF.lu];omega
    have hX:val U<4294967296 ^ (k+(b.length+1)):=by
     have h1:4294967296 ^ (k+1)*val vl<4294967296 ^ (k+1)*4294967296 ^ (m+2):=Nat.mul_lt_mul_of_pos_left hVlt (Nat.pow_pos (by omega))
     rw [<-Nat.pow_add,show k+1+(m+2)=k+(b.length+1) by omega] at h1
     exact Nat.lt_trans hF.lt h1
    have hpk:0<4294967296 ^ k:=Nat.pow_pos (by omega)
    have hwin:val ((U.drop k).take (b.length+1))=val U / 4294967296 ^ k:=Ap8 hF.u.1 (by rw [hF.lu];exact hkn) hX
    have hwl:((U.drop k).take (b.length+1)).length=m+3:=by rw [List.length_take,List.length_drop];omega
    have hwlt:val ((U.drop k).take (b.length+1))<4294967296*val vl:=by
     rw [hwin,Nat.div_lt_iff_lt_mul hpk]
     have h1:=hF.lt
     rw [Nat.pow_succ] at h1
     have e:4294967296*val vl*4294967296 ^ k=4294967296 ^ k*4294967296*val vl:=by grind
     omega
    have hw1:IntKind.i64.wrap ((k:Int)+(b.length:Int))=((k+b.length:Nat):Int):=by rw [wI (by omega)];omega
    have hw2:IntKind.i64.wrap (((k+b.length:Nat):Int)+1)=((k+b.length+1:Nat):Int):=by rw [wI (by omega)];omega
    refine .mv O O (.mv (v:=.int .i64 (k:Int)) O (by rw [<-hi];rfl) (.mv (v:=.int .i64 (k:Int)) O (by rw [<-hi];rfl) (.mv O O (.add O O O ?_))))
    rw [hw1]
    refine .add O O O ?_
    rw [hw2]
    refine .cutB k (k+b.length+1) un_W A3 O O ⟨.i64,rfl⟩ ⟨.i64,rfl⟩ (by omega) (by omega) (by omega) ?_
    rw [show 0+k*1=k by omega,show k+b.length+1-k=b.length+1 by omega]
    have hwR:=hF.u.toR (S:=fun i=>i=gu\/i=gv) (.inl O) k (b.length+1) (cu-k) (by rw [hF.lu];exact hkn) (by omega) (by omega)
    refine .mv O O (.call _ O AS0 O (AP8 hwR (eW.mono (fun _ _ h=>.inr h) hF.v) hwl hvll (by omega) hV1 hwlt) fun xg w5 e5 h5=>?_)
    obtain ⟨gs,rfl,hgs,hg1,hg2⟩:=h5
    rw [hwin] at hg1 hg2
    refine .an O O ?_
    refine .mid (α:=Nat×List Nat) (fun x=>[(4,.slice (some ⟨gq,0,none⟩) lq lq),(6,.int .i64 (b.length:Nat)),(7,.int .u64 (s:Nat)),(8,.slice (some ⟨gu,0,none⟩) lu cu),(9,.slice (some ⟨gv,0,none⟩) b.length cv),(10,.int .i64 (k:Int)),(11,.int .u64 (x.1:Nat))])
     (fun x W=>Below w.heap.size w W/\OB 91 W gu x.2/\OB 91 W gq Q/\eW.R (fun i=>i=gv) W (.slice (some ⟨gv,0,none⟩) b.length cv) vl/\x.2.length=lu/\x.1<4294967296/\val x.2+4294967296 ^ k*(val vl*x.1)=val U/\val x.2<4294967296 ^ k*val vl) ?_ ?_
    ·refine .sr (.mv O O (.mv (v:=.int .i64 (k:Int)) O (by rw [<-hi];rfl) (.mv (v:=.int .i64 (k:Int)) O (by rw [<-hi];rfl) (.mv O O (.add O O O ?_)))))
     rw [hw1]
     refine .add O O O ?_
     rw [hw2]
     refine .cutB k (k+b.length+1) un_W A3 O O ⟨.i64,rfl⟩ ⟨.i64,rfl⟩ (by omega) (by omega) (by omega) ?_
     rw [show 0+k*1=k by omega,show k+b.length+1-k=b.length+1 by omega]
     refine .mv O O (.mv O O ?_)
     have hB5:Below w.heap.size w w5:=hF.low.trans (e5.mono hF.low.size)
     refine .callG _ O Z3 O (Y5 (hF.u.ext e5) (hF.v.ext e5) (fun h=>hguv h) (by omega) (by rw [hF.lu];exact hkn) (by rw [hF.lu];omega) hgs) ?_
     rintro _ w6 ⟨V1,bo,rfl,hbo,hG6,ob6,hl6,hhi6,hval6⟩
     have hB6:Below w.heap.size w w6:=An0 hB5 hG6 hwgu hB5.size
     have hq6:OB 91 w6 gq Q:=by
      obtain ⟨hd,cs,hb',hc⟩:=hF.q.ext e5
      exact ⟨hd,cs,(hG6.block gq hb'.lt (fun e=>hguq (by cases e;rfl))).trans hb',hc⟩
     have hv6:=eW.keep (Al6 hG6 (S:=fun i=>i=gv) hguv) (hF.v.ext e5)
     have hV1X:val V1<4294967296 ^ (k+(b.length+1)):=AL7 hl6 ob6.1 hhi6 hX
     obtain ⟨dg0,dg1⟩:=BI1 hVp hpk rfl hg1 hg2 hval6 hbo hV1X hX
     have hlast:∀ U2:List Nat,val U2+4294967296 ^ k*(val vl*(val U / 4294967296 ^ k / val vl))=val U->val U2<4294967296 ^ k*val vl:=by
      intro U2 h
      have:val U<4294967296 ^ k*(val vl*(val U / 4294967296 ^ k / val vl+1)):=by
       rw [Nat.div_div_eq_div_mul,<-Nat.mul_assoc];exact Nat.lt_mul_div_succ _ (Nat.mul_pos hpk hVp)
      rw [Nat.mul_add (val vl),Nat.mul_add,Nat.mul_one] at this
      omega
     rcases (show bo=0\/bo=1 by omega) with h0 | h0
     ·subst h0
      obtain ⟨hgq',hvq⟩:=dg0 rfl
      refine .nil (.condF O (.skip ⟨rfl,(gs,V1),?_,hB6,ob6,hq6,hv6,hl6.trans hF.lu,hgs,?_,?_⟩))
      ·exact A5 O (A5 O (A5 O (A5 O (A5 O (A5 (by rw [<-hi];rfl) (lkA O))))))
      ·show val V1+4294967296 ^ k*(val vl*gs)=val U
       rw [hgq'];exact hvq
      ·exact hlast V1 hvq
     ·subst h0
      obtain ⟨hgq',hadd⟩:=dg1 rfl
      refine .nil (.condT O (.sr (.mv O O (.sub O O O ?_))))
      have hgs1:1<=gs:=by rw [hgq'];exact Nat.succ_le_succ (Nat.zero_le _)
      rw [show IntKind.u64.wrap ((gs:Int)-1)=((gs-1:Nat):Int) by rw [wU (by omega)];omega]
      refine .an O O (.sr ?_)
      refine .call [.int .u64 (0:Nat)] O G9 O G7 fun v7 w7 e7 h7=>.an O O ?_
      obtain ⟨bx,rfl,kx,hbx⟩:=h7
      have hB7:Below w.heap.size w w7:=hB6.trans (e7.mono hB6.size)
      have hgux:gu≠bx:=by have:=ob6.lt;omega
      have hgqx:gq≠bx:=by have:=hq6.lt;omega
      have hgvx:gv≠bx:=by have:=hG6.size;have:=e5.size;have:=hF.low.size;have:=x4.size;have:gv<w6.heap.size:=BA8 hv6 (by omega);omega
      have hwbx:w.heap.size<=bx:=Nat.le_trans hB6.size hbx
      refine .mid (α:=List Nat×Nat) (fun x=>[(4,.slice (some ⟨gq,0,none⟩) lq lq),(6,.int .i64 (b.length:Nat)),(7,.int .u64 (s:Nat)),(8,.slice (some ⟨gu,0,none⟩) lu cu),(9,.slice (some ⟨gv,0,none⟩) b.length cv),(10,.int .i64 (k:Int)),(11,.int .u64 ((gs-1:Nat):Int)),(12,carV bx)])
       (fun x W=>Below w.heap.size w W/\OB 91 W gu x.1/\OB 91 W gq Q/\eW.R (fun i=>i=gv) W (.slice (some ⟨gv,0,none⟩) b.length cv) vl/\x.1.length=lu/\cBlk W bx x.2/\x.2<=1/\(∀ j,k+(b.length+1)<=j->x.1.getD j 0=U.getD j 0)/\val x.1+4294967296 ^ (k+b.length)*x.2=val V1+4294967296 ^ k*val vl) ?_ ?_
      ·refine .sr (.mv O O (.lenR un_W O O (hv6.ext e7) (.mv O O (.nil ?_))))
       rw [show vl.length=b.length by omega]
       refine .block (.loop (α:=Nat×List Nat×Nat) (fun x=>[(4,.slice (some ⟨gq,0,none⟩) lq lq),(6,.int .i64 (b.length:Nat)),(7,.int .u64 (s:Nat)),(8,.slice (some ⟨gu,0,none⟩) lu cu),(9,.slice (some ⟨gv,0,none⟩) b.length cv),(10,.int .i64 (k:Int)),(11,.int .u64 ((gs-1:Nat):Int)),(12,carV bx),(69,.slice (some ⟨gv,0,none⟩) b.length cv),(70,.int .i64 (b.length:Nat)),(71,.int .i64 (x.1:Nat))])
        (fun x W=>x.1<=b.length/\Below w.heap.size w W/\OB 91 W gu x.2.1/\OB 91 W gq Q/\eW.R (fun i=>i=gv) W (.slice (some ⟨gv,0,none⟩) b.length cv) vl/\x.2.1.length=lu/\cBlk W bx x.2.2/\x.2.2<=1/\(∀ j,k+(b.length+1)<=j->x.2.1.getD j 0=U.getD j 0)/\val x.2.1+4294967296 ^ (k+x.1)*x.2.2=val V1+4294967296 ^ k*val (vl.take x.1)) (fun x=>b.length-x.1) (0,V1,0) ?_ ?_ ?_)
       ·exact A5 O (A5 O (A5 O (A5 O (A5 O (A5 (by rw [<-hi];rfl) (lkA O))))))
       ·exact ⟨Nat.zero_le _,hB7,ob6.ext e7,hq6.ext e7,hv6.ext e7,hl6.trans hF.lu,kx,Nat.zero_le _,hhi6,by simp [val]⟩
       ·rintro ⟨i,Z,c⟩ W8 ⟨hib,hB8,ob8,hq8,hv8,hl8,hcx,hc,hhi8,hval8⟩
        replace hib:i<=b.length:=hib
        replace ob8:OB 91 W8 gu Z:=ob8
        replace hl8:Z.length=lu:=hl8
        replace hcx:cBlk W8 bx c:=hcx
        replace hc:c<=1:=hc
        replace hhi8:∀ j,k+(b.length+1)<=j->Z.getD j 0=U.getD j 0:=hhi8
        replace hval8:val Z+4294967296 ^ (k+i)*c=val V1+4294967296 ^ k*val (vl.take i):=hval8
        by_cases hlt:i<b.length
        ·refine .sr (.lssT O O O (by show (i:Int)<(b.length:Int);omega) (.nil (.seq (.condT O (.skip (.seq (.block (.sr (.mv O O ?_)))))))))
         refine .ixN (i:=i) un_W A3 O O hv8 O (B6 (by omega)) fun p hp=>.ldE A3 O O hp fun e he=>?_
         obtain ⟨rfl,hyy⟩:=he
         have hgi:Z[k+i]?=some (Z.getD (k+i) 0):=B6 (by omega)
         have hxx:=E3 ob8.1 (k+i)
         generalize hy:vl.getD i 0=y at *
         generalize hx:Z.getD (k+i) 0=x at *
         have hki:IntKind.i64.wrap ((k:Int)+(i:Int))=((k+i:Nat):Int):=by rw [wI (by omega)];omega
         refine .asg O O (.an O O (.region ?_))
         refine .mv O O (.mv O O (.mv O O (.add (m:=(k:Int)) (n:=(i:Int)) O O O ?_)))
         rw [hki]
         refine .mv O O (.mv O O (.mv O O (.mv O O (.add (m:=(k:Int)) (n:=(i:Int)) O O O ?_))))
         rw [hki]
         refine .ixW un_W A3 O O O (by omega) ?_
         rw [Nat.zero_add]
         refine .ldO A3 O O ob8 hgi (.cvt C1 C2 O O (.mv O O (.cvt C1 C2 O O (.add O O O ?_))))
         rw [wU (n:=(x:Int)) (by omega),wU (n:=(y:Int)) (by omega),<-Int.natCast_add,wU (n:=((x+y:Nat):Int)) (by omega)]
         refine .callvG [_] O O H5 O (H3 hcx (by omega)) ?_
         rintro _ W9 ⟨rfl,u9,hcx9⟩
         refine .ixW un_W A3 O O O (by omega) ?_
         rw [Nat.zero_add]
         refine .stO A3 O O O (ob8.upd u9 hgux) (by omega) (by omega) fun W10 ob10 u10=>.nil (.region (.add (m:=(i:Int)) O O O (.mv O O (.nil ?_))))
         rw [wI (n:=(i:Int)+1) (by omega)]
         refine ⟨rfl,(i+1,_,_),lkA rfl,⟨hlt,u10.below (u9.below hB8 hwbx) hwgu,ob10,(hq8.upd u9 hgqx).upd u10 (Ne.symm hguq),(hv8.upd u9 (fun h=>hgvx h.symm)).upd u10 hguv,by simp [hl8],hcx9.upd u10 (Ne.symm hgux),?_,?_,?_⟩,by show b.length-(i+1)<b.length-i;omega⟩
         ·show (x+y+c) / 4294967296<=1
          omega
         ·intro j hj
          show (Z.set (k+i) ((x+y+c) % 4294967296)).getD j 0=U.getD j 0
          rw [List.getD_eq_getElem?_getD,List.getElem?_set_ne (by omega),<-List.getD_eq_getElem?_getD]
          exact hhi8 j hj
         ·show val (Z.set (k+i) ((x+y+c) % 4294967296))+4294967296 ^ (k+(i+1))*((x+y+c) / 4294967296)=val V1+4294967296 ^ k*val (vl.take (i+1))
          rw [<-Nat.add_assoc k i 1,Nat.pow_succ]
          refine An3 (AB4 _ hgi) (Nat.div_add_mod _ _) hval8 ?_
          rw [B5,hy,Nat.pow_add]
          grind
        ·refine .sr (.lssF O O O (by show ¬ (i:Int)<(b.length:Int);omega) (.nil (.seq (.condF O (.exit ?_)))))
         have:i=b.length:=by omega
         subst this
         rw [List.take_of_length_le (by omega)] at hval8
         exact ⟨rfl,(Z,c),lkA rfl,hB8,ob8,hq8,hv8,hl8,hcx,hc,hhi8,hval8⟩
      ·rintro ⟨Z,c⟩ W8 ⟨hB8,ob8,hq8,hv8,hl8,hcx,hc,hhi8,hval8⟩
       replace ob8:OB 91 W8 gu Z:=ob8
       replace hl8:Z.length=lu:=hl8
       replace hcx:cBlk W8 bx c:=hcx
       replace hc:c<=1:=hc
       replace hhi8:∀ j,k+(b.length+1)<=j->Z.getD j 0=U.getD j 0:=hhi8
       replace hval8:val Z+4294967296 ^ (k+b.length)*c=val V1+4294967296 ^ k*val vl:=hval8
       have hgi:Z[k+b.length]?=some (Z.getD (k+b.length) 0):=B6 (by omega)
       have hxx:=E3 ob8.1 (k+b.length)
       generalize hx:Z.getD (k+b.length) 0=x at *
       refine .region (.mv O O (.mv O O (.mv O O (.add (m:=(k:Int)) (n:=(b.length:Int)) O O O ?_))))
       rw [hw1]
       refine .mv O O (.mv O O (.mv O O (.mv O O (.add (m:=(k:Int)) (n:=(b.length:Int)) O O O ?_))))
       rw [hw1]
       refine .ixW un_W A3 O O O (by omega) ?_
       rw [Nat.zero_add]
       refine .ldO A3 O O ob8 hgi (.cvt C1 C2 O O ?_)
       rw [wU (n:=(x:Int)) (by omega)]
       refine .callvG [_] O O H5 O (H3 hcx (by omega)) ?_
       rintro _ W9 ⟨rfl,u9,hcx9⟩
       refine .ixW un_W A3 O O O (by omega) ?_
       rw [Nat.zero_add]
       refine .stO A3 O O O (ob8.upd u9 hgux) (by omega) (by omega) fun W10 ob10 u10=>.nil ?_
       have hsum:val (Z.set (k+b.length) ((x+c) % 4294967296))+4294967296 ^ (k+(b.length+1))*((x+c) / 4294967296)=val V1+4294967296 ^ k*val vl:=by
        rw [<-Nat.add_assoc k b.length 1,Nat.pow_succ]
        exact An3 (y:=0) (AB4 _ hgi) (by rw [Nat.add_zero];exact Nat.div_add_mod _ _) hval8 (by omega)
       have hhi10:∀ j,k+(b.length+1)<=j->(Z.set (k+b.length) ((x+c) % 4294967296)).getD j 0=U.getD j 0:=by
        intro j hj
        rw [List.getD_eq_getElem?_getD,List.getElem?_set_ne (by omega),<-List.getD_eq_getElem?_getD]
        exact hhi8 j hj
       have hres:=hadd _ _ hsum (AL7 (by simp [hl8,hF.lu]) ob10.1 hhi10 hX) (by omega)
       refine ⟨rfl,(gs-1,_),lkA rfl,u10.below (u9.below hB8 hwbx) hwgu,ob10,(hq8.upd u9 hgqx).upd u10 (Ne.symm hguq),(hv8.upd u9 (fun h=>hgvx h.symm)).upd u10 hguv,by simp [hl8],by show gs-1<4294967296;omega,?_,hlast _ hres⟩
       show _+4294967296 ^ k*(val vl*(gs-1))=val U
       rw [hgq',Nat.add_sub_cancel];exact hres
    ·rintro ⟨dg,U2⟩ W6 ⟨hB6,ob6,hq6,hv6,hl6,hdg,hval6,hlt6⟩
     replace hdg:dg<4294967296:=hdg
     replace hval6:val U2+4294967296 ^ k*(val vl*dg)=val U:=hval6
     refine .region (.mv O O (.mv O O (.mv O O (.cvt (m:=(dg:Int)) C2 C1 O O ?_))))
     rw [I0,Nat.mod_eq_of_lt hdg]
     refine .ixW (i:=k) un_W A3 O O O (by omega) ?_
     rw [Nat.zero_add]
     refine .stO A3 O O O hq6 (by rw [hF.lq];omega) hdg fun W7 ob7 u7=>.nil (.region (.mv O O (.sub (m:=(k:Int)) O O O (.an O O ?_))))
     rw [wI (n:=(k:Int)-1) (by omega)]
     refine ⟨rfl,(k,U2,Q.set k dg),lkA rfl,⟨by show k<=lq;omega,u7.below hB6 hwgq,ob6.upd u7 hguq,ob7,hv6.upd u7 hgqv,hl6,by simp [hF.lq],?_,?_,hlt6⟩,Nat.lt_succ_self k⟩
     ·show val U2+val vl*val (Q.set k dg)=val a*2 ^ s
      have h1:=AB4 dg (B6 (l:=Q) (k:=k) (by rw [hF.lq];omega))
      rw [hF.zq k (by omega),Nat.mul_zero,Nat.add_zero] at h1
      rw [h1,<-hF.eq,<-hval6,Nat.mul_add]
      grind
     ·intro i hi'
      have hi':i<k:=hi'
      show (Q.set k dg).getD i 0=0
      rw [List.getD_eq_getElem?_getD,List.getElem?_set_ne (by omega),<-List.getD_eq_getElem?_getD]
      exact hF.zq i (by omega)
 ·rintro ⟨U,Q⟩ W ⟨hB,hu,hq,hv,hlU,hlQ,heq,hzq,hUlt⟩
  replace hu:OB 91 W gu U:=hu
  replace hq:OB 91 W gq Q:=hq
  replace hlU:U.length=lu:=hlU
  replace hlQ:Q.length=lq:=hlQ
  replace heq:val U+val vl*val Q=val a*2 ^ s:=heq
  replace hUlt:val U<val vl:=by have:val U<4294967296 ^ 0*val vl:=hUlt;omega
  refine .sr (.mv O O (.make_ b.length b.length un_W H0 O (by decide) O O O (Nat.le_refl _) (by omega) (by omega) fun w5 gr n5=>.an O O ?_))
  have obr:OB 91 w5 gr (List.replicate b.length 0):=OB.made n5
  obtain ⟨e5,k5,hgr,hs5⟩:=n5
  have hgur:gu≠gr:=by have:=hu.lt;omega
  have hgqr:gq≠gr:=by have:=hq.lt;omega
  have hwgr:w.heap.size<=gr:=by have:=hB.size;omega
  obtain ⟨hdiv,hmod⟩:=div_end (A:=val a) (b:=val b) (s:=s) (U:=val U) (q:=val Q) (by omega) (by rw [<-hvlv];exact heq) (by rw [<-hvlv];exact hUlt)
  refine .mid (α:=List Nat) (fun _=>[(4,.slice (some ⟨gq,0,none⟩) lq lq),(5,.slice (some ⟨gr,0,none⟩) b.length b.length)]) (fun R W'=>Below w.heap.size w W'/\OB 91 W' gq Q/\OB 91 W' gr R/\R.length=b.length/\val R=val U / 2 ^ s) ?_ ?_
  ·refine .sr (.mv O O (.mv O O (.nil ?_)))
   refine .block (.loop (α:=Nat×List Nat) (fun x=>[(4,.slice (some ⟨gq,0,none⟩) lq lq),(5,.slice (some ⟨gr,0,none⟩) b.length b.length),(7,.int .u64 (s:Nat)),(8,.slice (some ⟨gu,0,none⟩) lu cu),(115,.int .i64 (b.length:Nat)),(116,.int .i64 (x.1:Nat))])
    (fun x W'=>x.1<=b.length/\Below w.heap.size w W'/\OB 91 W' gu U/\OB 91 W' gq Q/\OB 91 W' gr x.2/\x.2.length=b.length/\val x.2=(val U / 2 ^ s) % 4294967296 ^ x.1/\∀ j,x.1<=j->x.2.getD j 0=0) (fun x=>b.length-x.1) (0,List.replicate b.length 0) ?_ ?_ ?_)
   ·exact lkA rfl
   ·refine ⟨Nat.zero_le _,hB.trans (e5.mono hB.size),hu.ext e5,hq.ext e5,obr,by simp,?_,fun j _=>?_⟩
    ·show val (List.replicate b.length 0)=_ % 4294967296 ^ 0
     rw [M5,Nat.pow_zero,Nat.mod_one]
    ·show (List.replicate b.length 0).getD j 0=0
     rw [List.getD_eq_getElem?_getD,List.getElem?_replicate];split<;>rfl
   ·rintro ⟨i,R⟩ W6 ⟨hi,hB6,hu6,hq6,hr6,hlR,hvR,hzR⟩
    replace hi:i<=b.length:=hi
    replace hr6:OB 91 W6 gr R:=hr6
    replace hlR:R.length=b.length:=hlR
    replace hvR:val R=(val U / 2 ^ s) % 4294967296 ^ i:=hvR
    replace hzR:∀ j,i<=j->R.getD j 0=0:=hzR
    by_cases hlt:i<b.length
    ·refine .sr (.lssT O O O (by show (i:Int)<(b.length:Int);omega) (.nil (.seq (.condT O (.skip (.seq (.block (.sr (.mv O O (.an O O ?_))))))))))
     have g0:U[i]?=some (U.getD i 0):=B6 (by omega)
     have g1:U[i+1]?=some (U.getD (i+1) 0):=B6 (by omega)
     have d0:=E3 hu.1 i
     have d1:=E3 hu.1 (i+1)
     have hdig:=Ay2 (i:=i) hu.1 hs (by omega)
     generalize U.getD i 0=x0 at *
     generalize U.getD (i+1) 0=x1 at *
     refine .held follows true (fun W'=>OB 91 W' gu U) [some _,some (.int .i64 (i:Nat)),some _,some (.int .i64 (i:Nat)),some (.pointer (some ⟨gu,i,none⟩)),some (wv x0),some (.int .u64 (x0:Nat)),some _,some (.int .i64 (i:Nat)),some (.int .i64 ((i+1:Nat):Int)),some (.pointer (some ⟨gu,i+1,none⟩)),some (wv x1),some (.int .u64 (x1:Nat)),
      some (.int .u64 ((x1*4294967296:Nat):Int)),some (.int .u64 ((x0+4294967296*x1:Nat):Int)),some _,some (.int .u64 (((x0+4294967296*x1) / 2 ^ s:Nat):Int)),some (wv (((x0+4294967296*x1) / 2 ^ s) % 4294967296)),some (.pointer (some ⟨gr,i,none⟩)),none] (by kernel_rfl) ⟨
      fun _ _=>v_mv rfl,fun _ _=>v_mv rfl,fun _ _=>v_mv rfl,fun _ _=>v_mv rfl,fun _ _=>(Aj2 (i:=i) un_W A3 O O (by omega)).eq (by rw [Nat.zero_add]),fun _ h=>Au8 A3 O h g0,fun _ _=>(V9 C1 C2 O).eq (by rw [wU (by omega)]),
      fun _ _=>v_mv rfl,fun _ _=>v_mv rfl,fun _ _=>(Au9 (m:=(i:Int)) O O).eq (by rw [wI (by omega)];rfl),fun _ _=>(Aj2 (i:=i+1) un_W A3 O O (by omega)).eq (by rw [Nat.zero_add]),fun _ h=>Au8 A3 O h g1,fun _ _=>(V9 C1 C2 O).eq (by rw [wU (by omega)]),
      fun _ _=>(Au4 O O (by decide)).eq (by rw [shl32 x1 d1]),fun _ _=>(v_or O O).eq (by rw [Aq9 _ _ (by omega) (by omega),or32 x0 x1 d0]),fun _ _=>v_mv rfl,fun _ _=>(v_shr O O (by omega)).eq (by rw [shr_nat _ _ (by omega)]),fun _ _=>(V9 C2 C1 O).eq (by rw [I0]),fun _ _=>(Aj2 (i:=i) un_W A3 O O (by omega)).eq (by rw [Nat.zero_add]),trivial⟩ ?_
     intro W7 e7 _
     refine .gv (hu6.ext e7) O (g_stO A3 O O (hr6.ext e7) (by omega) (Nat.mod_lt _ (by omega))) ?_
     rintro _ W8 ⟨hr8,u8⟩
     refine .nil (.inl O) (.region (.add (m:=(i:Int)) O O O (.mv O O (.nil ?_))))
     rw [wI (n:=(i:Int)+1) (by omega)]
     refine ⟨rfl,(i+1,_),lkA rfl,⟨hlt,u8.below (hB6.trans (e7.mono hB6.size)) hwgr,(hu6.ext e7).upd u8 hgur,(hq6.ext e7).upd u8 hgqr,hr8,by simp [hlR],?_,?_⟩,by show b.length-(i+1)<b.length-i;omega⟩
     ·show val (R.set i (((x0+4294967296*x1) / 2 ^ s) % 4294967296))=(val U / 2 ^ s) % 4294967296 ^ (i+1)
      have h1:=AB4 (((x0+4294967296*x1) / 2 ^ s) % 4294967296) (B6 (l:=R) (k:=i) (by omega))
      rw [hzR i (Nat.le_refl _),Nat.mul_zero,Nat.add_zero] at h1
      rw [h1,hdig,hvR]
     ·intro j hj
      have hj:i+1<=j:=hj
      show (R.set i (((x0+4294967296*x1) / 2 ^ s) % 4294967296)).getD j 0=0
      rw [List.getD_eq_getElem?_getD,List.getElem?_set_ne (by omega),<-List.getD_eq_getElem?_getD]
      exact hzR j (by omega)
    ·refine .sr (.lssF O O O (by show ¬ (i:Int)<(b.length:Int);omega) (.nil (.seq (.condF O (.exit ?_)))))
     have:i=b.length:=by omega
     subst this
     refine ⟨rfl,R,lkA rfl,hB6,hq6,hr6,hlR,?_⟩
     rw [hvR,Nat.mod_eq_of_lt]
     refine Nat.lt_of_le_of_lt (Nat.div_le_self _ _) ?_
     rw [hlb];omega
  ·rintro R W6 ⟨hB6,hq6,hr6,hlR,hvR⟩
   refine .sr (.mv O O (.mv O O (.asg O O (.an O O (.ret ?_)))))
   refine .plain [_,_] Tryz.results235 ⟨rfl,rfl,trivial⟩ ⟨hB6,_,_,rfl,⟨Q,?_,hdiv.symm,by omega⟩,⟨R,?_,by rw [hvR,hmod],by omega⟩⟩
   ·have:=hq6.toR0 (S:=T0) (c:=lq) (upo gq (by omega)) (by omega) (by omega)
    rw [hlQ] at this;exact this
   ·have:=hr6.toR0 (S:=S) (c:=b.length) (up gr (by omega)) (by omega) (by omega)
    rw [hlR] at this;exact this
end Go.Proofs.YtggegpiffjbngaaGreat
namespace Go.Kx
open Go
theorem AJ0 (b:BitVec 64):IntKind.i64.wrap (b.toNat:Int)=b.toInt:=by
 rw [IntKind.wrap_i64,BitVec.toInt_eq_toNat_cond]
 have:=b.isLt
 split<;>omega
theorem AC1 (b:BitVec 64):BitVec.ofInt 64 (IntKind.i64.wrap (b.toNat:Int))=b:=by
 rw [AJ0,BitVec.ofInt_toInt]
theorem U3 {x:Int} (h1 : -9223372036854775808<=x) (h2:x<=9223372036854775807):(BitVec.ofInt 64 x).msb=decide (x<0):=by
 rw [BitVec.msb_eq_decide,BitVec.toNat_ofInt]
 simp only [decide_eq_decide]
 omega
theorem AM2 {b:BitVec 64}:0<=b.toInt<->b.msb=false:=by
 rw [BitVec.toInt_eq_msb_cond]
 have:=b.isLt
 cases b.msb<;>simp<;>omega
theorem add_ok {x y:Int} (hx1 : -9223372036854775808<=x) (hx2:x<=9223372036854775807) (hy1 : -9223372036854775808<=y) (hy2:y<=9223372036854775807)
  (h:0<=IntKind.i64.wrap (BitVec.ofInt IntKind.i64.bits (IntKind.i64.wrap (BitVec.ofInt IntKind.i64.bits x ^^^ BitVec.ofInt IntKind.i64.bits (IntKind.i64.wrap (x+y))).toNat) &&& BitVec.ofInt IntKind.i64.bits (IntKind.i64.wrap (BitVec.ofInt IntKind.i64.bits y ^^^ BitVec.ofInt IntKind.i64.bits (IntKind.i64.wrap (x+y))).toNat)).toNat) :
  IntKind.i64.wrap (x+y)=x+y:=by
 change 0<=IntKind.i64.wrap (BitVec.ofInt 64 (IntKind.i64.wrap (BitVec.ofInt 64 x ^^^ BitVec.ofInt 64 (IntKind.i64.wrap (x+y))).toNat) &&& BitVec.ofInt 64 (IntKind.i64.wrap (BitVec.ofInt 64 y ^^^ BitVec.ofInt 64 (IntKind.i64.wrap (x+y))).toNat)).toNat at h
 rw [AC1,AC1,AJ0,AM2,BitVec.msb_and,BitVec.msb_xor,BitVec.msb_xor] at h
 have hr : -9223372036854775808<=IntKind.i64.wrap (x+y)/\IntKind.i64.wrap (x+y)<=9223372036854775807:=by rw [IntKind.wrap_i64];omega
 rw [U3 hx1 hx2,U3 hy1 hy2,U3 hr.1 hr.2] at h
 rw [IntKind.wrap_i64] at h ⊢
 simp only [Bool.and_eq_false_iff,bne_eq_false_iff_eq,decide_eq_decide] at h
 omega
theorem sub_ok {x y:Int} (hx1 : -9223372036854775808<=x) (hx2:x<=9223372036854775807) (hy1 : -9223372036854775808<=y) (hy2:y<=9223372036854775807)
  (h:0<=IntKind.i64.wrap (BitVec.ofInt IntKind.i64.bits (IntKind.i64.wrap (BitVec.ofInt IntKind.i64.bits x ^^^ BitVec.ofInt IntKind.i64.bits y).toNat) &&& BitVec.ofInt IntKind.i64.bits (IntKind.i64.wrap (BitVec.ofInt IntKind.i64.bits x ^^^ BitVec.ofInt IntKind.i64.bits (IntKind.i64.wrap (x-y))).toNat)).toNat) :
  IntKind.i64.wrap (x-y)=x-y:=by
 change 0<=IntKind.i64.wrap (BitVec.ofInt 64 (IntKind.i64.wrap (BitVec.ofInt 64 x ^^^ BitVec.ofInt 64 y).toNat) &&& BitVec.ofInt 64 (IntKind.i64.wrap (BitVec.ofInt 64 x ^^^ BitVec.ofInt 64 (IntKind.i64.wrap (x-y))).toNat)).toNat at h
 rw [AC1,AC1,AJ0,AM2,BitVec.msb_and,BitVec.msb_xor,BitVec.msb_xor] at h
 have hr : -9223372036854775808<=IntKind.i64.wrap (x-y)/\IntKind.i64.wrap (x-y)<=9223372036854775807:=by rw [IntKind.wrap_i64];omega
 rw [U3 hx1 hx2,U3 hy1 hy2,U3 hr.1 hr.2] at h
 rw [IntKind.wrap_i64] at h ⊢
 simp only [Bool.and_eq_false_iff,bne_eq_false_iff_eq,decide_eq_decide] at h
 omega
end Go.Kx
