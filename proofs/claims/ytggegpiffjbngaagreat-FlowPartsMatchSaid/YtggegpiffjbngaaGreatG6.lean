/-
  What the claim leans on.
-/
import Derived.Test.YtggegpiffjbngaaGreatG5
set_option linter.unusedVariables false
namespace Go.Kx
theorem BM0 (a b:Nat):Nat.gcd b (a % b)=Nat.gcd a b:=by rw [Nat.gcd_comm b (a % b),<-Nat.gcd_rec,Nat.gcd_comm]
theorem BF9 {a b:ZV} (hs:(zval a).sign=(zval b).sign):cmpI (zval a) (zval b)=if (zval a).sign<0 then 0-cmpN (val a.w) (val b.w) else cmpN (val a.w) (val b.w):=by
 have h1:=J0 a
 have h2:=J0 b
 generalize zval a=x at *
 generalize zval b=y at *
 rw [<-h1,<-h2]
 rcases Int.lt_trichotomy x 0 with h | h | h
 ·have e:=Int.sign_eq_neg_one_of_neg h
  rw [e] at hs ⊢
  have hy:y<0:=Int.sign_eq_neg_one_iff_neg.1 hs.symm
  rw [if_pos (by decide)]
  unfold cmpI cmpN
  split<;>split<;>(try split)<;>(try split)<;>omega
 ·subst h
  rw [Int.sign_zero] at hs ⊢
  have hy:y=0:=Int.sign_eq_zero_iff_zero.1 hs.symm
  subst hy
  decide
 ·have e:=Int.sign_eq_one_of_pos h
  rw [e] at hs ⊢
  have hy:0<y:=Int.sign_eq_one_iff_pos.1 hs.symm
  rw [if_neg (by decide)]
  unfold cmpI cmpN
  split<;>split<;>(try split)<;>(try split)<;>omega
theorem cmpI_ne {x y:Int} (hs:x.sign≠y.sign):cmpI x y=if x.sign<y.sign then -1 else 1:=by
 have hx:=Int.lt_trichotomy x 0
 have hy:=Int.lt_trichotomy y 0
 unfold cmpI
 rcases hx with h | h | h<;>rcases hy with h' | h' | h'<;>first
  | (rw [Int.sign_eq_neg_one_of_neg h,Int.sign_eq_neg_one_of_neg h'] at hs;exact absurd O hs)
  | (rw [Int.sign_eq_one_of_pos h,Int.sign_eq_one_of_pos h'] at hs;exact absurd O hs)
  | (rw [h,h'] at hs;exact absurd O hs)
  | (simp only [h,h',Int.sign_eq_neg_one_of_neg,Int.sign_eq_one_of_pos,Int.sign_zero];(try split)<;>(try split)<;>(try simp_all)<;>omega)
end Go.Kx
namespace Go.Proofs.YtggegpiffjbngaaGreat
open Go Go.Kx Go.RowKit
theorem At2:Ent Tryz.prog 203:=A0 Tryz.func203 (by kernel_rfl) rfl
theorem Ap2 {S:Nat->Prop} {w:World} {va vb:Value} {a b:ZV} (up:Up S w) (ha:eZ.R S w va a) (hb:eZ.R S w vb b) (hla:a.w.length<=1000000000) (hlb:b.w.length<=1000000000):CR Tryz.prog 203 #[va,vb] w (eZ.at S (zc (Nat.gcd (val a.w) (val b.w):Nat))):=by
 obtain ⟨s,rfl,hs⟩:=ha
 obtain ⟨t,rfl,ht⟩:=hb
 refine enter Tryz.func203 O Tryz.ntmps203 O ?_
 refine .sr (.box O O fun w1 b2 n1=>.box O O fun w2 b3 n2=>.alloc O B9 fun w3 b4 n3=>.nil ?_)
 obtain ⟨e1,k2,hb2,hs1⟩:=n1
 obtain ⟨e2,k3,hb3,hs2⟩:=n2
 obtain ⟨e3,k4,hb4,hs3⟩:=n3
 have x3:=(e1.trans e2).trans e3
 have k2:=(k2.ext e2).ext e3
 have k3:=k3.ext e3
 have hS4:¬ Sx S w.heap.size w3.heap.size b4:=Sx.no (by omega) (by omega)
 have up3:Up (Sx S w.heap.size w3.heap.size) w3:=Sx.up up (Nat.le_refl _) x3.size
 have hs':=(ER.par eW hs w3.heap.size).ext x3
 have ht':=(ER.par eW ht w3.heap.size).ext x3
 have l1:=T7 hs hla
 have l2:=T7 ht hlb
 have hout:∀ {W:World} {v:Value} {z:ZV},eZ.R (Sx S w.heap.size w3.heap.size) W v z->eZ.R S W v z:=fun h=>h.out
 generalize hT:Sx S w.heap.size w3.heap.size=T at *
 refine .seq ?_
 refine .par follows 6 [.inl _,.inl s,.inr (eHs.at T (hds (val a.w))),.inl _,.inl t,.inr (eHs.at T (hds (val b.w)))] [[],[(9,0)],[(10,1)],[],[(12,3)],[(13,4)]] (by kernel_rfl) ⟨
  fun w e=>(v_fa D0 O).ob,fun w e=>(v_ld ty_W O (k2.ext e) O).ob,fun w e=>(A1 _ C4 O (F8 (up3.ext e.size) (hs'.ext e) hla)).ob (A3 _ _ _),
  fun w e=>(v_fa D0 O).ob,fun w e=>(v_ld ty_W O (k3.ext e) O).ob,fun w e=>(A1 _ C4 O (F8 (up3.ext e.size) (ht'.ext e) hlb)).ob (A3 _ _ _),trivial⟩ ?_
 intro w4 e4 x hx y hy
 refine .asg O O (.an O O ?_)
 generalize val a.w=A at *
 generalize val b.w=B at *
 refine .mid (α:=Value) (fun p=>[(4,.pointer (some ⟨b4,0,none⟩)),(5,p)]) (fun p W=>Ext w4 W/\eHs.R T W p (hds (Nat.gcd A B))) ?_ ?_
 ·refine .block (.loop (α:=(Nat×Nat)×Value×Value) (fun p=>[(4,.pointer (some ⟨b4,0,none⟩)),(5,p.2.1),(6,p.2.2)])
   (fun p W=>Ext w4 W/\eHs.R T W p.2.1 (hds p.1.1)/\eHs.R T W p.2.2 (hds p.1.2)/\(hds p.1.1).length<=2000000000/\(hds p.1.2).length<=2000000000/\Nat.gcd p.1.1 p.1.2=Nat.gcd A B) (fun p=>p.1.2) ((A,B),x,y) ?_ ?_ ?_)
  ·exact lkA rfl
  ·exact ⟨.refl _,hx,hy,l1,l2,rfl⟩
  ·rintro ⟨⟨m,n⟩,u,v⟩ W ⟨hW,hu,hv,hm,hn,hg⟩
   replace hW:Ext w4 W:=hW
   replace hu:eHs.R T W u (hds m):=hu
   replace hv:eHs.R T W v (hds n):=hv
   replace hm:(hds m).length<=2000000000:=hm
   replace hn:(hds n).length<=2000000000:=hn
   replace hg:Nat.gcd m n=Nat.gcd A B:=hg
   refine .weak [(4,.pointer (some ⟨b4,0,none⟩)),(5,u),(6,v)] (fun t v h=>h) ?_
   refine .seq (.sr (.mv O O (.lenR un_H O O hv ?_)))
   by_cases h0:n=0
   ·subst h0
    rw [L2]
    refine .gtrF O O O (by simp) (.nil (.condF O (.exit ?_)))
    rw [Nat.gcd_zero_right] at hg
    exact ⟨rfl,u,lkA rfl,hW,hg▸hu⟩
   ·have hne:(hds n).length≠0:=fun e=>h0 (Q8.1 (List.length_eq_zero_iff.1 e))
    refine .gtrT O O O (by omega) (.nil (.condT O (.skip (.block (.sr (.mv O O (.mv O O ?_)))))))
    refine .call _ O AX0 O (AV4 ((up3.ext e4.size).ext hW.size) hu hv (by omega) (by omega) h0) fun z W2 f2 h2=>?_
    obtain ⟨vq,vr,rfl,hq,hr⟩:=h2
    refine .mv O O (.ext O O O (.ext O O O (.asg O O (.an O O ?_))))
    refine .region (.mv O O (.mv O O (.asg O O (.an O O ?_))))
    have hlt:m % n<n:=Nat.mod_lt _ (by omega)
    exact ⟨rfl,((n,m % n),v,vr),lkA rfl,⟨hW.trans f2,ER.ext eHs hv f2,hr,hn,Nat.le_trans (J8 (Nat.le_of_lt hlt)) hn,(BM0 m n).trans hg⟩,hlt⟩
 ·rintro u W ⟨hW,hu⟩
  have e5:=e4.trans hW
  have lg:(hds (Nat.gcd A B)).length<=2000000001:=by
   have h1:Nat.gcd A B<=A+B:=by
    rcases Nat.eq_zero_or_pos A with h | h
    ·subst h;rw [Nat.gcd_zero_left];omega
    ·have:=Nat.gcd_le_left B h;omega
   exact Nat.le_trans (J8 h1) (AH0 l1 l2)
  refine .sr (.mv O O ?_)
  refine .call _ O I6 O (I3 (up3.ext e5.size) hu (by omega)) fun v6 w6 e6 h6=>?_
  rw [B3] at h6
  have e56:=e5.trans e6
  refine .storeA (E:=eZ) ty_Z O O (k4.ext e56) O O h6 hS4 fun w7 k7 u7 h7=>.nil (.ret ?_)
  exact .cell Tryz.results203 O ty_Z O O k7 h7 ⟨u7.below (x3.trans e56) (by omega),hout h7⟩
theorem AX2:Ent Tryz.prog 204:=A0 Tryz.func204 (by kernel_rfl) rfl
theorem AV6 {S:Nat->Prop} {w:World} {va vb:Value} {a b:ZV} (up:Up S w) (ha:eZ.R S w va a) (hb:eZ.R S w vb b) (hla:a.w.length<=1000000000) (hlb:b.w.length<=1000000000) (hb0:zval b≠0) :
  CR Tryz.prog 204 #[va,vb] w (Three (eZ.at S (zc (zval a / zval b))) (eZ.at S (zc (zval a % zval b))) (Is (.int .i64 0))):=by
 obtain ⟨s,rfl,hs⟩:=ha
 obtain ⟨t,rfl,ht⟩:=hb
 refine enter Tryz.func204 O Tryz.ntmps204 O ?_
 refine .sr (.box O O fun w1 b2 n1=>.box O O fun w2 b3 n2=>.alloc O B9 fun w3 b4 n3=>.alloc O B9 fun w4 b5 n4=>.an O O ?_)
 obtain ⟨e1,k2,hb2,hs1⟩:=n1
 obtain ⟨e2,k3,hb3,hs2⟩:=n2
 obtain ⟨e3,k4,hb4,hs3⟩:=n3
 obtain ⟨e4,k5,hb5,hs4⟩:=n4
 have x4:=((e1.trans e2).trans e3).trans e4
 have k2:=((k2.ext e2).ext e3).ext e4
 have k3:=(k3.ext e3).ext e4
 have k4:=k4.ext e4
 have hS4:¬ Sx S w.heap.size w4.heap.size b4:=Sx.no (by omega) (by omega)
 have hS5:¬ Sx S w.heap.size w4.heap.size b5:=Sx.no (by omega) (by omega)
 have hne:b5≠b4:=by omega
 have up4:Up (Sx S w.heap.size w4.heap.size) w4:=Sx.up up (Nat.le_refl _) x4.size
 have hs':=(ER.par eW hs w4.heap.size).ext x4
 have ht':=(ER.par eW ht w4.heap.size).ext x4
 have l1:=T7 hs hla
 have l2:=T7 ht hlb
 have hout:∀ {W:World} {v:Value} {z:ZV},eZ.R (Sx S w.heap.size w4.heap.size) W v z->eZ.R S W v z:=fun h=>h.out
 generalize hT:Sx S w.heap.size w4.heap.size=T at *
 refine .seq ?_
 refine .par follows 6 [.inl _,.inl s,.inr (eHs.at T (hds (val a.w))),.inl _,.inl t,.inr (eHs.at T (hds (val b.w)))] [[],[(11,0)],[(12,1)],[],[(14,3)],[(15,4)]] (by kernel_rfl) ⟨
  fun w e=>(v_fa D0 O).ob,fun w e=>(v_ld ty_W O (k2.ext e) O).ob,fun w e=>(A1 _ C4 O (F8 (up4.ext e.size) (hs'.ext e) hla)).ob (A3 _ _ _),
  fun w e=>(v_fa D0 O).ob,fun w e=>(v_ld ty_W O (k3.ext e) O).ob,fun w e=>(A1 _ C4 O (F8 (up4.ext e.size) (ht'.ext e) hlb)).ob (A3 _ _ _),trivial⟩ ?_
 intro w5 e5 x hx y hy
 refine .asg O O (.an O O ?_)
 have hB0:0<val b.w:=by
  rcases Nat.eq_zero_or_pos (val b.w) with h | h
  ·exact absurd (by unfold zval sg;rw [h];simp) hb0
  ·exact h
 have eva:=O1 a
 have evb:=O1 b
 generalize val a.w=A at *
 generalize val b.w=B at *
 have hne0:(hds B).length≠0:=fun e=>by have:=Q8.1 (List.length_eq_zero_iff.1 e);omega
 refine .seq (.sr (.mv O O (.lenR un_H O O hy (.eqlF O O O (by omega) (.nil (.condF O (.skip ?_)))))))
 have up5:=up4.ext e5.size
 refine .sr (.mv O O (.mv O O ?_))
 refine .call _ O AX0 O (AV4 up5 hx hy (by omega) (by omega) (by omega)) fun z w6 e6 h6=>?_
 obtain ⟨vq,vr,rfl,hq,hr⟩:=h6
 refine .mv O O (.ext O O O (.ext O O O (.asg O O (.an O O ?_))))
 have e56:=e5.trans e6
 have x6:=x4.trans e56
 have up6:=up5.ext e6.size
 have k2:=k2.ext e56
 have k3:=k3.ext e56
 have k4:=k4.ext e56
 have k5:=k5.ext e56
 have hy6:=ER.ext eHs hy e6
 have lq:(hds (A / B)).length<=2000000000:=Nat.le_trans (J8 (Nat.div_le_self _ _)) l1
 have lr:(hds (A % B)).length<=2000000000:=Nat.le_trans (J8 (Nat.mod_le _ _)) l1
 refine .mid (α:=(Nat×Nat)×Value×Value) (fun z=>[(2,.pointer (some ⟨b2,0,none⟩)),(3,.pointer (some ⟨b3,0,none⟩)),(4,.pointer (some ⟨b4,0,none⟩)),(5,.pointer (some ⟨b5,0,none⟩)),(9,z.2.1),(10,z.2.2)])
  (fun z W=>Ext w6 W/\eHs.R T W z.2.1 (hds z.1.1)/\eHs.R T W z.2.2 (hds z.1.2)/\(hds z.1.1).length<=2000000002/\(hds z.1.2).length<=2000000002/\zval a / zval b=sg (a.neg != b.neg) z.1.1/\zval a % zval b=sg false z.1.2) ?_ ?_
 ·refine .sr (.fa E5 O O (.ld C0 O O k2 O (.mv O O ?_)))
  cases hn:a.neg with
  | false =>
   refine .gs O O O O O (.gs O O O O O (.gs O O O O O (.pick O O O (.nil (.condF O (.skip ?_))))))
   obtain ⟨d1,d2⟩:=AE1 (p:=false) (q:=b.neg) (A:=A) hB0 (.inl rfl)
   refine ⟨rfl,((A / B,A % B),vq,vr),lkA rfl,.refl _,hq,hr,Nat.le_trans lq (by omega),Nat.le_trans lr (by omega),?_,?_⟩
   ·rw [eva,evb,hn];exact d1
   ·rw [eva,evb,hn];exact d2
  | true =>
   refine .gr O O O O (.mv O O (.gr O O O O (.lenR un_H O O hr (.gr O O O O ?_))))
   by_cases h0:A % B=0
   ·rw [h0,L2]
    refine .gtrF O O O (by simp) (.pick O O O (.nil (.condF O (.skip ?_))))
    obtain ⟨d1,d2⟩:=AE1 (p:=true) (q:=b.neg) (A:=A) hB0 (.inr h0)
    refine ⟨rfl,((A / B,A % B),vq,vr),lkA rfl,.refl _,hq,hr,Nat.le_trans lq (by omega),Nat.le_trans lr (by omega),?_,?_⟩
    ·rw [eva,evb,hn];exact d1
    ·rw [eva,evb,hn];exact d2
   ·have hne:(hds (A % B)).length≠0:=fun e=>h0 (Q8.1 (List.length_eq_zero_iff.1 e))
    refine .gtrT O O O (by omega) (.pick O O O (.nil (.condT O (.sr (.mv O O (.bsl _ O O AN5 fun w7 b7 n7=>?_))))))
    have hd1:digH [1]:=by intro x hx;simp at hx;omega
    have ho:OwnH 3 w6.heap.size w7 (.slice (some ⟨b7,0,none⟩) 1 1) [1]:=OwnH.lit (l:=[1]) n7 (Nat.le_refl _) hd1 (by simp)
    obtain ⟨e7,_,_,_⟩:=n7
    refine .call _ O AH9 O (AG6 (S:=T) (up6.ext e7.size) (ER.ext eHs hq e7) (ho.toR up6) (by omega) (by simp)) fun v8 w8 e8 h8=>.an O O ?_
    rw [B3,show valH [1]=1 by rfl] at h8
    have e78:=e7.trans e8
    refine .region (.mv O O (.mv O O ?_))
    have hm:=Nat.mod_lt A hB0
    refine .call _ O Z4 O (Y5 (S:=T) (up6.ext e78.size) (ER.ext eHs hy6 e78) (ER.ext eHs hr e78) (by omega) (by rw [B3,B3];omega)) fun v9 w9 e9 h9=>.an O O ?_
    rw [B3,B3] at h9
    obtain ⟨d1,d2⟩:=Ad4 (q:=b.neg) (A:=A) hB0 (by omega)
    refine ⟨rfl,((A / B+1,B-A % B),v8,v9),lkA rfl,e78.trans e9,ER.ext eHs h8 e9,h9,?_,?_,?_,?_⟩
    ·exact Nat.le_trans (AH0 lq (B:=1) (Nat.le_trans (J7 (L:=1) (by decide)) (by omega))) (by omega)
    ·exact Nat.le_trans (J8 (Nat.sub_le _ _)) (by omega)
    ·rw [eva,evb,hn];exact d1
    ·rw [eva,evb,hn];exact d2
 ·rintro ⟨⟨q,r⟩,vq,vr⟩ W ⟨hW,hq,hr,lq,lr,d1,d2⟩
  replace hW:Ext w6 W:=hW
  replace hq:eHs.R T W vq (hds q):=hq
  replace hr:eHs.R T W vr (hds r):=hr
  replace lq:(hds q).length<=2000000002:=lq
  replace lr:(hds r).length<=2000000002:=lr
  replace d1:zval a / zval b=sg (a.neg != b.neg) q:=d1
  replace d2:zval a % zval b=sg false r:=d2
  refine .weak [(2,.pointer (some ⟨b2,0,none⟩)),(3,.pointer (some ⟨b3,0,none⟩)),(4,.pointer (some ⟨b4,0,none⟩)),(5,.pointer (some ⟨b5,0,none⟩)),(9,vq),(10,vr)] (fun t v h=>h) ?_
  have k2:=k2.ext hW
  have k3:=k3.ext hW
  have k4:=k4.ext hW
  have k5:=k5.ext hW
  have upW:=up6.ext hW.size
  refine .sr (.fa E5 O O (.ld C0 O O k2 O (.fa E5 O O (.ld C0 O O k3 O (.neqB U1 O O O (.mv O O ?_))))))
  refine .call _ O I6 O (I3 upW hq (by omega)) fun v7 w7 e7 h7=>.mv O O ?_
  rw [B3,<-d1] at h7
  refine .call _ O I6 O (I3 (upW.ext e7.size) (ER.ext eHs hr e7) (by omega)) fun v8 w8 e8 h8=>?_
  rw [B3,<-d2] at h8
  have e78:=e7.trans e8
  refine .storeA (E:=eZ) ty_Z O O (k4.ext e78) O O (ER.ext eZ h7 e8) hS4 fun w9 k9 u9 h9=>?_
  refine .storeA (E:=eZ) ty_Z O O ((k5.ext e78).upd u9 hne) O O (ER.upd eZ h8 u9 hS4) hS5 fun w10 k10 u10 h10=>.an O O (.ret ?_)
  exact .plain [_,_,_] Tryz.results204 ⟨⟨_,rfl,E1 (E:=eZ) ty_Z O O (k9.upd u10 (Ne.symm hne)) (ER.upd eZ h9 u10 hS5)⟩,⟨_,rfl,E1 (E:=eZ) ty_Z O O k10 h10⟩,rfl,trivial⟩
   ⟨u10.below (u9.below ((x6.trans hW).trans e78) (by omega)) (by omega),_,_,_,rfl,hout (ER.upd eZ h9 u10 hS5),hout h10,rfl⟩
theorem At3:Ent Tryz.prog 205:=A0 Tryz.func205 (by kernel_rfl) rfl
theorem Ap3 {S:Nat->Prop} {w:World} {va vb:Value} {a b:ZV} (up:Up S w) (ha:eZ.R S w va a) (hb:eZ.R S w vb b) (hla:a.w.length<=1000000000) (hlb:b.w.length<=1000000000):CR Tryz.prog 205 #[va,vb] w (Is (.int .i64 (cmpI (zval a) (zval b)))):=by
 have ha0:=ha
 have hb0:=hb
 obtain ⟨s,rfl,hs⟩:=ha
 obtain ⟨t,rfl,ht⟩:=hb
 refine enter Tryz.func205 O Tryz.ntmps205 O ?_
 refine .sr (.box O O fun w1 b2 n1=>.box O O fun w2 b3 n2=>.an O O ?_)
 obtain ⟨e1,k2,hb2,hs1⟩:=n1
 obtain ⟨e2,k3,hb3,hs2⟩:=n2
 have x2:=e1.trans e2
 have k2:=k2.ext e2
 have up2:=up.ext x2.size
 have ha2:=ER.ext eZ ha0 x2
 have hb2':=ER.ext eZ hb0 x2
 have eva:=O1 a
 have evb:=O1 b
 refine .seq (.seq ?_)
 refine .par follows 5 [.inl (.agg #[.bool a.neg,s]),.inl (.int .i64 (zval a).sign),.inl (.agg #[.bool b.neg,t]),.inl (.int .i64 (zval b).sign),.inl (.bool ((zval a).sign != (zval b).sign))] [[],[(6,0)],[],[(8,2)],[(7,1),(9,3)]] (by kernel_rfl) ⟨
  fun w e=>(B5 ty_Z O (k2.ext e) O).ob,fun w e=>A1 _ I1 O (H9 (up2.ext e.size) (ER.ext eZ ha2 e) hla),
  fun w e=>(B5 ty_Z O (k3.ext e) O).ob,fun w e=>A1 _ I1 O (H9 (up2.ext e.size) (ER.ext eZ hb2' e) hlb),fun w e=>(BH5 O O).ob,trivial⟩ ?_
 intro w3 e3
 have x3:=x2.trans e3
 have up3:=up2.ext e3.size
 have k2:=k2.ext e3
 have k3:=k3.ext e3
 have ha3:=ER.ext eZ ha2 e3
 have hb3:=ER.ext eZ hb2' e3
 by_cases hsg:(zval a).sign=(zval b).sign
 ·rw [show ((zval a).sign != (zval b).sign)=false by simpa using hsg]
  refine .nil (.condF O (.skip (.seq ?_)))
  have hs':=ER.ext eW hs x3
  have ht':=ER.ext eW ht x3
  have l1:=T7 hs hla
  have l2:=T7 ht hlb
  have hc:=BF9 hsg
  refine .par follows 7 [.inl _,.inl s,.inr (eHs.at S (hds (val a.w))),.inl _,.inl t,.inr (eHs.at S (hds (val b.w))),.inl (.int .i64 (cmpN (valH (hds (val a.w))) (valH (hds (val b.w)))))] [[],[(16,0)],[(17,1)],[],[(19,3)],[(20,4)],[(18,2),(21,5)]] (by kernel_rfl) ⟨
   fun w e=>(v_fa D0 O).ob,fun w e=>(v_ld ty_W O (k2.ext e) O).ob,fun w e=>(A1 _ C4 O (F8 (up3.ext e.size) (hs'.ext e) hla)).ob (A3 _ _ _),
   fun w e=>(v_fa D0 O).ob,fun w e=>(v_ld ty_W O (k3.ext e) O).ob,fun w e=>(A1 _ C4 O (F8 (up3.ext e.size) (ht'.ext e) hlb)).ob (A3 _ _ _),
   fun w e x hx y hy=>A1 _ AH8 O (AG5 hx hy (by omega) (by omega)),trivial⟩ ?_
  intro w4 e4 x hx y hy
  rw [B3,B3]
  refine .an O O (.seq (.sr (.ldA ty_Z O O (k2.ext e4) O ?_)))
  refine .call _ O I1 O (H9 (up3.ext e4.size) (ER.ext eZ ha3 e4) hla) fun v5 w5 e5 h5=>?_
  subst h5
  have x5:=(x3.trans e4).trans e5
  by_cases hn:(zval a).sign<0
  ·rw [if_pos hn] at hc
   refine .lssT O O O hn (.nil (.condT O (.sr (.mv O O (.neg O O (.an O O (.ret ?_)))))))
   exact .plain [_] Tryz.results205 ⟨rfl,trivial⟩ ⟨x5,isI (by rw [hc,wI (by unfold cmpN;split<;>(try split)<;>omega)])⟩
  ·rw [if_neg hn] at hc
   refine .lssF O O O hn (.nil (.condF O (.skip (.sr (.mv O O (.an O O (.ret ?_)))))))
   exact .plain [_] Tryz.results205 ⟨rfl,trivial⟩ ⟨x5,isI (by rw [hc])⟩
 ·rw [show ((zval a).sign != (zval b).sign)=true by simpa using hsg]
  refine .nil (.condT O (.seq (.seq ?_)))
  have hc:=cmpI_ne hsg
  refine .par follows 5 [.inl (.agg #[.bool a.neg,s]),.inl (.int .i64 (zval a).sign),.inl (.agg #[.bool b.neg,t]),.inl (.int .i64 (zval b).sign),.inl (.bool (decide ((zval a).sign<(zval b).sign)))] [[],[(11,0)],[],[(13,2)],[(12,1),(14,3)]] (by kernel_rfl) ⟨
   fun w e=>(B5 ty_Z O (k2.ext e) O).ob,fun w e=>A1 _ I1 O (H9 (up3.ext e.size) (ER.ext eZ ha3 e) hla),
   fun w e=>(B5 ty_Z O (k3.ext e) O).ob,fun w e=>A1 _ I1 O (H9 (up3.ext e.size) (ER.ext eZ hb3 e) hlb),fun w e=>(AU7 O O).ob,trivial⟩ ?_
  intro w4 e4
  by_cases hn:(zval a).sign<(zval b).sign
  ·rw [if_pos hn] at hc
   rw [show decide ((zval a).sign<(zval b).sign)=true by simpa using hn]
   refine .nil (.condT O (.sr (.an O O (.ret ?_))))
   exact .plain [_] Tryz.results205 ⟨rfl,trivial⟩ ⟨x3.trans e4,isI (by rw [hc])⟩
  ·rw [if_neg hn] at hc
   rw [show decide ((zval a).sign<(zval b).sign)=false by simpa using hn]
   refine .nil (.condF O (.skip (.sr (.an O O (.ret ?_)))))
   exact .plain [_] Tryz.results205 ⟨rfl,trivial⟩ ⟨x3.trans e4,isI (by rw [hc])⟩
end Go.Proofs.YtggegpiffjbngaaGreat
namespace Go.Kx
open Go Go.RowKit
def isAl (o:Oper):Bool:=match o.op with | .alloc _=>true | _=>false
def AlOk (P:Program) (w0:World):List Oper->List Sp->Prop
 | o::os,s::ss=>(isAl o=true->∃ t z B,o.op=.alloc t/\o.guard=none/\zeroOf P t=some z/\s=.inr (NewP B t z.cells)/\B<=w0.heap.size)/\AlOk P w0 os ss
 | _,_=>True
theorem AlOk.at_ {P:Program} {w0:World}:∀ {os:List Oper} {ss:List Sp},AlOk P w0 os ss->∀ (i:Nat) (o:Oper) (s:Sp),os[i]?=some o->ss[i]?=some s->isAl o=true->∃ t z B,o.op=.alloc t/\o.guard=none/\zeroOf P t=some z/\s=.inr (NewP B t z.cells)/\B<=w0.heap.size
 | [],ss,_,i,o,s,h1,_,_=>by simp at h1
 | o'::os,[],_,i,o,s,_,h2,_=>by simp at h2
 | o'::os,s'::ss,h,0,o,s,h1,h2,h3=>by simp at h1 h2;subst h1;subst h2;exact h.1 h3
 | o'::os,s'::ss,h,i+1,o,s,h1,h2,h3=>AlOk.at_ h.2 i o s (by simpa using h1) (by simpa using h2) h3
def Apart (ops:List Oper) (σ:Env):Prop:=∀ t t' v v',t≠t'->(∃ o∈ops,isAl o=true/\o.dst=some t)->(∃ o∈ops,isAl o=true/\o.dst=some t')->look σ t=some v->look σ t'=some v'->v≠v'
structure InvF (N:Nat) (ds:List Deferred) (ops:List Oper) (w0:World) (h:Nat) (sp:List Sp) (a0:Act) (listed:Array Bool) (a:Act) (w:World):Prop where
 size:a.tmps.size=N
 defs:a.defers=ds
 ext:Ext w0 w
 vals:∀ (i:Nat) (o:Oper) (s:Sp) (t:Tmp),i<h->ops[i]?=some o->sp[i]?=some s->isL listed i->o.dst=some t->Sp.ok s (a.tmps.getD t undef) w
 old:∀ t,(∀ (i:Nat) (o:Oper),i<h->ops[i]?=some o->isL listed i->o.dst≠some t)->a.tmps.getD t undef=a0.tmps.getD t undef
 shut:∀ (i:Nat) (o:Oper),ops[i]?=some o->isL listed i->∀ j,edgeTo o j=true->isL listed j
 head:∀ i,h<=i->¬ isL listed i
 dis:∀ (i j:Nat) (oi oj:Oper) (t t':Tmp),i<h->j<h->i≠j->ops[i]?=some oi->ops[j]?=some oj->isL listed i->isL listed j->isAl oi=true->isAl oj=true->oi.dst=some t->oj.dst=some t'->a.tmps.getD t undef≠a.tmps.getD t' undef
 low:∀ (i:Nat) (o:Oper) (t:Tmp),i<h->ops[i]?=some o->isL listed i->isAl o=true->o.dst=some t->∃ b,a.tmps.getD t undef=.pointer (some ⟨b,0,none⟩)/\b<w.heap.size
section
variable {P:Program} {ro:Option Nat} {N:Nat} {ds:List Deferred} {ops:List Oper} {K:Env->World->Prop} {σ0:Env} {w0:World} {h:Nat} {sp:List Sp} {deps:List (List (Tmp×Nat))} {a0:Act}
section
variable {Q:Exit->Act->World->Prop}
set_option maxHeartbeats 1600000 in
theorem BJ5 (hchk:okPar ops N h deps=true) (ha0:Agr N σ0 ds a0) (hob:Obs P w0 σ0 (ops.take h) sp (ops.take h) sp deps) (hal:AlOk P w0 (ops.take h) sp)
  (hfin:∀ w,Ext w0 w->finQ (fun σ w=>Apart (ops.take h) σ->∀ a,Agr N σ ds a->wpListIn (wf ro) 0 P ops.toArray Q (ops.drop h) a w) w (ops.take h) sp σ0) :
  ∀ (fuel:Nat) (listed:Array Bool) (a:Act) (w:World),listed.size=ops.length->cnt listed ops.length<=fuel ->
   (InvF N ds ops w0 h sp a0 listed a w\/∃ p,h<=p/\p<=ops.length/\(∀ j,j<p->isL listed j)/\(∀ j,p<=j->¬ isL listed j)/\wpListIn (wf ro) 0 P ops.toArray Q (ops.drop p) a w) ->
   wpAnyIn (wf ro) 0 P .any ops.toArray Q fuel listed a w:=by
 simp only [okPar,Bool.and_eq_true,List.all_eq_true,Nat.ble_eq] at hchk
 obtain ⟨⟨⟨hback,hnd⟩,hall⟩,hle⟩:=hchk
 have hback':∀ (i:Nat) (o:Oper),ops[i]?=some o->∀ j,edgeTo o j=true->j<i:=by
  intro i o hi j hj
  have:=hback (o,i) (by rw [List.mem_zipIdx_iff_getElem?];exact hi)
  obtain ⟨e,he,hb,rfl⟩:=F6.1 hj
  simp only [okBack,Array.all_eq_true',Bool.or_eq_true,Bool.not_eq_true',Nat.blt_eq] at this
  rcases this e he with h | h
  ·rw [hb] at h;cases h
  ·exact h
 have hop:∀ (i:Nat) (o:Oper),i<h->ops[i]?=some o->okOp (ops.take h) N i o (deps.getD i [])=true:=by
  intro i o hi ho
  have:=hall (o,i) (by rw [List.mem_zipIdx_iff_getElem?];exact ho)
  simpa [Nat.blt_eq,hi] using this
 have htail:∀ (listed:Array Bool),(∀ (i:Nat) (o:Oper),ops[i]?=some o->isL listed i->∀ j,edgeTo o j=true->isL listed j)->∀ (i:Nat) (o:Oper),h<=i->ops[i]?=some o->(∀ j,edgeTo o j=true->isL listed j)->∀ j,j<i->isL listed j:=by
  intro listed shut i o hi ho hed j hj
  have:=hall (o,i) (by rw [List.mem_zipIdx_iff_getElem?];exact ho)
  have hn:Nat.blt i h=false:=by
   cases hh:Nat.blt i h with
   | false=>rfl
   | true=>rw [Nat.blt_eq] at hh;omega
  simp only [hn,Bool.false_eq_true,if_false,okTail,List.all_eq_true,List.mem_range] at this
  obtain ⟨x,hx,hxe⟩:=List.any_eq_true.1 (this j hj)
  have hxj:j=x:=Nat.eq_of_beq_eq_true hxe
  subst hxj
  refine N2 shut _ _ (fun k hk=>?_) j hx
  simp only [edgesOf,List.mem_filterMap] at hk
  obtain ⟨e,he,hb⟩:=hk
  have hbb:Region.binds .any e=true:=by
   cases h':Region.binds .any e with
   | true=>rfl
   | false=>rw [h'] at hb;simp at hb
  rw [hbb] at hb
  simp at hb
  exact hed k (F6.2 ⟨e,by simpa using he,hbb,hb⟩)
 have htake:∀ i,i<h->(ops.take h)[i]?=ops[i]?:=fun i hi=>by rw [List.getElem?_take,if_pos hi]
 have hlen:=Obs.len hob
 have hlt:(ops.take h).length=h:=by simp;omega
 have toB:∀ listed a w,InvF N ds ops w0 h sp a0 listed a w->(∀ i,i<h->isL listed i)->wpListIn (wf ro) 0 P ops.toArray Q (ops.drop h) a w:=by
  intro listed a w hI hl
  have hmem:∀ o∈ops.take h,∃ i,i<h/\ops[i]?=some o:=by
   intro o ho
   obtain ⟨i,hi⟩:=List.mem_iff_getElem?.1 ho
   have hi':i<h:=by
    rcases Nat.lt_or_ge i h with hh | hh
    ·exact hh
    ·rw [List.getElem?_eq_none (by omega)] at hi;cases hi
   exact ⟨i,hi',by rw [<-htake i hi'];exact hi⟩
  have hsome:∀ o∈ops.take h,dOk N o.dst=true/\o.dst.isSome=true:=by
   intro o ho
   obtain ⟨i,hi,ho⟩:=hmem o ho
   have:=hop i o hi ho
   simp only [okOp,Bool.and_eq_true] at this
   exact ⟨this.1.1.1.1.1,this.1.1.1.1.2⟩
  obtain ⟨σ',hag,hk⟩:=Ad1 (N:=N) (ds:=ds) (ops.take h) sp σ0 a hlen (hfin w hI.ext) (fun o ho=>(hsome o ho).1)
   (fun i o s t h1 h2 h3=>by
    have hi':i<h:=by
     rcases Nat.lt_or_ge i h with hh | hh
     ·exact hh
     ·rw [List.getElem?_eq_none (by omega)] at h1;cases h1
    exact hI.vals i o s t hi' (by rw [<-htake i hi'];exact h1) h2 (hl i hi') h3)
   (fun t v hv hno=>by
    rw [hI.old t (fun i o hi ho _=>hno o (List.mem_iff_getElem?.2 ⟨i,by rw [htake i hi];exact ho⟩))]
    exact ha0.slot t v hv)
   (G4 hnd) hI.size hI.defs
   (fun i o s h1 h2 h3=>by
    have:=(hsome o (List.mem_iff_getElem?.2 ⟨i,h1⟩)).2
    rw [h3] at this;cases this)
  refine hk (fun t t' v v' htt ⟨o,ho,hoa,hod⟩ ⟨o',ho',hoa',hod'⟩ hv hv'=>?_) a hag
  obtain ⟨i,hi,hio⟩:=hmem o ho
  obtain ⟨j,hj,hjo⟩:=hmem o' ho'
  have hij:i≠j:=by
   intro e;subst e;rw [hio] at hjo;cases hjo;rw [hod] at hod';cases hod';exact htt rfl
  have:=hI.dis i j o o' t t' hi hj hij hio hjo (hl i hi) (hl j hj) hoa hoa' hod hod'
  rw [hag.slot t v hv,hag.slot t' v' hv'] at this
  exact this
 have allL:∀ listed:Array Bool,listed.size=ops.length->Region.ready .any ops.toArray listed=[]->∀ i,i<ops.length->isL listed i:=by
  intro listed hsz hr i
  induction i using Nat.strongRecOn with
  | _ i ih =>
   intro hi
   by_cases hh:isL listed i
   ·exact hh
   ·have:i∈Region.ready .any ops.toArray listed:=by
     refine F9.2 ⟨by simpa using hi,(C1 (by omega)).2 hh,fun o ho j hj=>?_⟩
     have:=hback' i o (by simpa using ho) j hj
     exact ih j this (by omega)
    rw [hr] at this;cases this
 have done:∀ listed a w,(∀ i,i<ops.length->isL listed i)->(InvF N ds ops w0 h sp a0 listed a w\/∃ p,h<=p/\p<=ops.length/\(∀ j,j<p->isL listed j)/\(∀ j,p<=j->¬ isL listed j)/\wpListIn (wf ro) 0 P ops.toArray Q (ops.drop p) a w)->Q .normal a w:=by
  intro listed a w hl hJ
  rcases hJ with hI | ⟨p,hp,hpn,_,hno,hwp⟩
  ·have hn:ops.length<=h:=Nat.le_of_not_lt fun hh=>hI.head h (Nat.le_refl _) (hl h hh)
   have:=toB listed a w hI (fun i hi=>hl i (by omega))
   rw [List.drop_of_length_le hn] at this
   exact this
  ·have hn:ops.length<=p:=Nat.le_of_not_lt fun hh=>hno p (Nat.le_refl _) (hl p hh)
   rw [List.drop_of_length_le hn] at hwp
   exact hwp
 intro fuel
 induction fuel with
 | zero =>
  intro listed a w hsz hc hJ
  have hl:∀ i,i<ops.length->isL listed i:=by
   intro i hi
   have:=AC2 listed ops.length (by omega) i hi
   by_cases hh:isL listed i
   ·exact hh
   ·have:=(C1 (by omega:i<listed.size)).2 hh
    simp_all
  refine ⟨?_,done listed a w hl hJ⟩
  refine List.eq_nil_iff_forall_not_mem.2 fun i hi=>?_
  obtain ⟨h1,h2,_⟩:=F9.1 hi
  have h1':i<ops.length:=by simpa using h1
  exact (C1 (by omega)).1 h2 (hl i h1')
 | succ fuel ih =>
  intro listed a w hsz hc hJ
  refine ⟨fun hr=>done listed a w (allL listed hsz hr) hJ,fun i hi=>?_⟩
  obtain ⟨hin,hun,hed⟩:=F9.1 hi
  have hin':i<ops.length:=by simpa using hin
  have hunl:¬ isL listed i:=(C1 (by omega)).1 hun
  obtain ⟨o,ho⟩:∃ o,ops[i]?=some o:=⟨_,List.getElem?_eq_getElem hin'⟩
  have hed':∀ j,edgeTo o j=true->isL listed j:=hed o (by simpa using ho)
  have hsz':(listed.setIfInBounds i true).size=ops.length:=by simpa using hsz
  have hcnt:cnt (listed.setIfInBounds i true) ops.length<=fuel:=by
   have:=Q9 listed i hun ops.length hin'
   omega
  have tailStep:h<=i->(∀ j,j<i->isL listed j)->(∀ j,i<=j->¬ isL listed j)->wpListIn (wf ro) 0 P ops.toArray Q (ops.drop i) a w ->
    wpOpIn (wf ro) 0 P ops.toArray Q i (wpAnyIn (wf ro) 0 P .any ops.toArray Q fuel (listed.setIfInBounds i true)) a w:=by
   intro hhi hlow hhigh hwp
   have hd:ops.drop i=o::ops.drop (i+1):=by
    rw [List.drop_eq_getElem_cons hin']
    congr 1
    have:=List.getElem?_eq_getElem hin'
    rw [ho] at this;exact (Option.some.inj this).symm
   rw [hd] at hwp
   have hw2:wpOpIn (wf ro) 0 P ops.toArray Q i (wpListIn (wf ro) 0 P ops.toArray Q (ops.drop (i+1))) a w:=by
    unfold wpOpIn
    simp only [List.getElem?_toArray,ho]
    simpa only [wpListIn] using hwp
   refine wpOpIn_mono (fun a' w' hw'=>ih _ a' w' hsz' hcnt (.inr ⟨i+1,by omega,by omega,fun j hj=>?_,fun j hj=>?_,hw'⟩)) hw2
   ·rw [E2 (by omega)]
    by_cases e:i=j
    ·exact .inl e
    ·exact .inr (hlow j (by omega))
   ·rw [E2 (by omega)]
    rintro (e | e)
    ·omega
    ·exact hhigh j (by omega) e
  rcases hJ with hI | ⟨p,hp,hpn,hlow,hhigh,hwp⟩
  ·rcases Nat.lt_or_ge i h with hih | hih
   ·-- an operation of the head
    have hok:=hop i o hih ho
    simp only [okOp,Bool.and_eq_true,List.all_eq_true] at hok
    obtain ⟨⟨⟨⟨⟨hdk,hds⟩,hgd⟩,hndf⟩,hdep⟩,hrd⟩:=hok
    obtain ⟨s,d,hs,hd,hq⟩:=Obs.at_ hob i o (by rw [htake i hih];exact ho)
    have hdd:deps.getD i []=d:=by simp [hd]
    rw [hdd] at hdep hrd hgd
    obtain ⟨t0,ht0⟩:=Option.isSome_iff_exists.1 hds
    obtain ⟨σ',hG,hσ'⟩:=AR1 (val:=fun t=>a.tmps.getD t undef) d σ0 (hq w hI.ext) (fun p hp=>by
     have h1:=hdep p hp
     obtain ⟨h2,h3⟩:=h1
     split at h3
     ·rename_i oj hoj
      have hlj:=hed' _ h2
      have hjh:p.2<h:=Nat.lt_of_not_le fun hh=>hI.head _ hh hlj
      obtain ⟨s',hs'⟩:∃ s',sp[p.2]?=some s':=⟨_,List.getElem?_eq_getElem (by omega)⟩
      exact ⟨s',hs',hI.vals p.2 oj s' p.1 hjh (by rw [<-htake _ hjh];exact hoj) hs' hlj (by simpa using h3)⟩
     ·cases h3)
    have hopnd:∀ x v,x∈o.op.operands->ev σ' x=some v->a.eval x=v:=by
     intro x v hx hv
     cases x with
     | const u=>simpa [Kx.ev,Act.eval] using hv
     | global g=>simpa [Kx.ev,Act.eval] using hv
     | func f=>simpa [Kx.ev,Act.eval] using hv
     | tmp t =>
      rcases hσ' t v hv with e | ⟨hv0,hnd'⟩
      ·exact e.symm
      ·have hmem:t∈tmpsOf o:=by
        unfold tmpsOf
        rw [List.mem_filterMap]
        exact ⟨.tmp t,by simpa using hx,rfl⟩
       have hc:=hrd t hmem
       simp only [Bool.or_eq_true] at hc
       rcases hc with hc | hc
       ·obtain ⟨p,hp,hpt⟩:=List.any_eq_true.1 hc
        exact absurd (by simpa using hpt) (hnd' p hp)
       ·show a.tmps.getD t undef=v
        rw [hI.old t (fun i' o' hi' ho' hl' hdst=>?_),ha0.slot t v hv0]
        have:=List.all_eq_true.1 hc (o',i') (by rw [List.mem_zipIdx_iff_getElem?,htake i' hi'];exact ho')
        simp only [Bool.or_eq_true] at this
        rcases this with (h1 | h1) | h1
        ·simp [hdst] at h1
        ·have:i'=i:=by simpa using h1
         subst this;exact hunl hl'
        ·exact hunl (hI.shut i' o' ho' hl' i h1)
    have next:∀ v w',Ext w w'->Sp.ok s v w'->(isAl o=true->∃ b,v=.pointer (some ⟨b,0,none⟩)/\w.heap.size<=b/\b<w'.heap.size)->wpAnyIn (wf ro) 0 P .any ops.toArray Q fuel (listed.setIfInBounds i true) (a.put o.dst v) w':=by
     intro v w' he hv hfr
     have htN:t0<N:=by simpa [ht0,dOk,Nat.blt_eq] using hdk
     have hself:(a.put o.dst v).tmps.getD t0 undef=v:=by simp [ht0,Act.put,hI.size,htN]
     have hinj:∀ (j:Nat) (oj:Oper) (t:Tmp),i≠j->j<h->ops[j]?=some oj->oj.dst=some t->(a.put o.dst v).tmps.getD t undef=a.tmps.getD t undef:=by
      intro j oj t e hj hoj hdj
      have hne:t0≠t:=by
       intro e2
       subst e2
       exact e (M2 (G4 hnd) (by rw [htake i hih];exact ho) (by rw [htake j hj];exact hoj) ht0 hdj)
      simp [ht0,Act.put,Array.getElem?_setIfInBounds_ne hne]
     refine ih _ _ _ hsz' hcnt (.inl ⟨by simpa [ht0,Act.put] using hI.size,by simpa [ht0,Act.put] using hI.defs,hI.ext.trans he,?_,?_,?_,?_,?_,?_⟩)
     ·intro j oj sj t hj hoj hsj hlj hdj
      rw [E2 (by omega)] at hlj
      have htN:t0<N:=by simpa [ht0,dOk,Nat.blt_eq] using hdk
      by_cases e:i=j
      ·subst e
       rw [ho] at hoj;cases hoj
       rw [hs] at hsj;cases hsj
       rw [ht0] at hdj;cases hdj
       have:(a.put o.dst v).tmps.getD t0 undef=v:=by simp [ht0,Act.put,hI.size,htN]
       rw [this];exact hv
      ·have hlj':=hlj.resolve_left e
       have hne:t0≠t:=by
        intro e2
        subst e2
        have hnd2:=G4 hnd
        have:∀ (l:List Oper) (x y:Nat) (ox oy:Oper),(dsts l).Nodup->l[x]?=some ox->l[y]?=some oy->ox.dst=some t0->oy.dst=some t0->x=y:=by
         intro l
         induction l with
         | nil=>intro x y ox oy _ hx;simp at hx
         | cons c l ihl =>
          intro x y ox oy hn hx hy dx dy
          have hin:∀ (z:Nat) (oz:Oper),l[z]?=some oz->oz.dst=some t0->t0∈dsts l:=fun z oz hz dz=>List.mem_filterMap.2 ⟨oz,List.mem_iff_getElem?.2 ⟨z,hz⟩,dz⟩
          have hcons:∀ oc:Oper,oc=c->oc.dst=some t0->t0∉dsts l/\(dsts l).Nodup:=by
           rintro oc rfl hc
           have:(t0::dsts l).Nodup:=by simpa [dsts,hc] using hn
           exact List.nodup_cons.1 this
          cases x with
          | zero =>
           simp at hx
           cases y with
           | zero=>rfl
           | succ y=>exact absurd (hin y oy (by simpa using hy) dy) (hcons ox hx.symm dx).1
          | succ x =>
           cases y with
           | zero=>simp at hy;exact absurd (hin x ox (by simpa using hx) dx) (hcons oy hy.symm dy).1
           | succ y =>
            have hn':(dsts l).Nodup:=by
             cases hc:c.dst with
             | none=>simpa [dsts,hc] using hn
             | some u =>
              have:(u::dsts l).Nodup:=by simpa [dsts,hc] using hn
              exact (List.nodup_cons.1 this).2
            exact congrArg (·+1) (ihl x y ox oy hn' (by simpa using hx) (by simpa using hy) dx dy)
        exact e (this (ops.take h) i j o oj hnd2 (by rw [htake i hih];exact ho) (by rw [htake j hj];exact hoj) ht0 hdj)
       have:(a.put o.dst v).tmps.getD t undef=a.tmps.getD t undef:=by simp [ht0,Act.put,Array.getElem?_setIfInBounds_ne hne]
       rw [this]
       exact Sp.ok_ext (hI.vals j oj sj t hj hoj hsj hlj' hdj) he
     ·intro t hno
      have hne:t0≠t:=fun e=>hno i o hih ho ((E2 (by omega)).2 (.inl O)) (e▸ht0)
      have:(a.put o.dst v).tmps.getD t undef=a.tmps.getD t undef:=by simp [ht0,Act.put,Array.getElem?_setIfInBounds_ne hne]
      rw [this]
      exact hI.old t fun j oj hj hoj hlj=>hno j oj hj hoj ((E2 (by omega)).2 (.inr hlj))
     ·intro j oj hoj hlj k hk
      rw [E2 (by omega)] at hlj ⊢
      by_cases e:i=j
      ·subst e
       rw [ho] at hoj;cases hoj
       exact .inr (hed' k hk)
      ·exact .inr (hI.shut j oj hoj (hlj.resolve_left e) k hk)
     ·intro j hj
      rw [E2 (by omega)]
      rintro (e | e)
      ·omega
      ·exact hI.head j hj e
     ·intro x y ox oy t t' hx hy hxy hox hoy hlx hly hax hay htx hty
      rw [E2 (by omega)] at hlx hly
      by_cases ex:i=x
      ·subst ex
       rw [ho] at hox;cases hox
       rw [ht0] at htx;cases htx
       obtain ⟨b,hb,hb1,hb2⟩:=hfr hax
       rw [hself,hinj y oy t' hxy hy hoy hty]
       obtain ⟨b',hb',hlt'⟩:=hI.low y oy t' hy hoy (hly.resolve_left hxy) hay hty
       rw [hb,hb']
       intro hh;injection hh with hh;injection hh with hh;injection hh with hh;omega
      ·by_cases ey:i=y
       ·subst ey
        rw [ho] at hoy;cases hoy
        rw [ht0] at hty;cases hty
        obtain ⟨b,hb,hb1,hb2⟩:=hfr hay
        rw [hself,hinj x ox t ex hx hox htx]
        obtain ⟨b',hb',hlt'⟩:=hI.low x ox t hx hox (hlx.resolve_left ex) hax htx
        rw [hb,hb']
        intro hh;injection hh with hh;injection hh with hh;injection hh with hh;omega
       ·rw [hinj x ox t ex hx hox htx,hinj y oy t' ey hy hoy hty]
        exact hI.dis x y ox oy t t' hx hy hxy hox hoy (hlx.resolve_left ex) (hly.resolve_left ey) hax hay htx hty
     ·intro x ox t hx hox hlx hax htx
      rw [E2 (by omega)] at hlx
      by_cases ex:i=x
      ·subst ex
       rw [ho] at hox;cases hox
       rw [ht0] at htx;cases htx
       obtain ⟨b,hb,hb1,hb2⟩:=hfr hax
       exact ⟨b,by rw [hself];exact hb,hb2⟩
      ·obtain ⟨b',hb',hlt'⟩:=hI.low x ox t hx hox (hlx.resolve_left ex) hax htx
       exact ⟨b',by rw [hinj x ox t ex hx hox htx];exact hb',by have:=he.size;omega⟩
    unfold wpOpIn
    simp only [List.getElem?_toArray,ho]
    have hal':=hal.at_ i o s (by rw [htake i hih];exact ho) hs
    by_cases hisa:isAl o=true
    ·obtain ⟨ta,za,Ba,hopa,hga,hza,hsa,hBa⟩:=hal' hisa
     rw [if_pos (by simp [Region.wanted,hga])]
     subst hsa
     have hg:Gv P o σ' w (fun v w'=>∃ b,v=.pointer (some ⟨b,0,none⟩)/\New w w' b ta za.cells):=by
      obtain ⟨d1,op1,ty1,pos1,af1,g1⟩:=o
      have hopa:op1=.alloc ta:=hopa
      subst hopa
      exact Ak9 hza
     refine hg.wp hopnd fun v w' hv=>?_
     obtain ⟨b,hb,hn⟩:=hv
     have h2:=hn.2.2.1
     have h3:=hn.2.2.2
     exact next v w' hn.1 (fun w'' e=>⟨b,hb,by have:=hI.ext.size;omega,hn.2.1.ext e⟩) (fun _=>⟨b,hb,by omega,by omega⟩)
    have run:Gv P o σ' w (fun v w'=>Ext w w'/\Sp.ok s v w')->o.wpIn (wf ro) 0 P a w (wpAnyIn (wf ro) 0 P .any ops.toArray Q fuel (listed.setIfInBounds i true)) Q :=
     fun hg=>hg.wp hopnd fun v w' hv=>next v w' hv.1 hv.2 (fun h=>absurd h hisa)
    cases hgu:o.guard with
    | none =>
     simp only [gOk,hgu] at hG
     rw [if_pos (by simp [Region.wanted,hgu])]
     exact run hG
    | some g =>
     obtain ⟨j,b⟩:=g
     simp only [hgu] at hgd
     obtain ⟨p,hp,hpj⟩:=List.any_eq_true.1 hgd
     have hpj':p.2=j:=by simpa using hpj
     have h1:=hdep p hp
     obtain ⟨h2,h3⟩:=h1
     rw [hpj'] at h2 h3
     split at h3
     ·rename_i oj hoj
      have hdst:oj.dst=some p.1:=by simpa using h3
      have hjh:j<h:=by
       rcases Nat.lt_or_ge j h with hh | hh
       ·exact hh
       ·rw [List.getElem?_eq_none (by omega)] at hoj;cases hoj
      have hoj':ops[j]?=some oj:=by rw [<-htake j hjh];exact hoj
      simp only [gOk,hgu,hoj,Option.bind_some,hdst] at hG
      have hyv:∀ v,look σ' p.1=some v->a.tmps.getD p.1 undef=v:=by
       intro v hv
       rcases hσ' p.1 v hv with e | ⟨_,hn⟩
       ·exact e.symm
       ·exact absurd O (hn p hp)
      have hpN:p.1<a.tmps.size:=by
       have:=hop j oj hjh hoj'
       simp only [okOp,Bool.and_eq_true] at this
       have:=this.1.1.1.1.1
       rw [hdst] at this
       rw [hI.size];simpa [dOk,Nat.blt_eq] using this
      have hyd:∀ v,look σ' p.1=some v->yielded ops.toArray a.tmps j=match v with | .bool b=>some b | _=>none:=by
       intro v hv
       have e1:=hyv v hv
       have e2:a.tmps[p.1]?=some v:=by
        rw [Array.getElem?_eq_getElem hpN]
        simp [Array.getElem?_eq_getElem hpN] at e1
        exact congrArg some e1
       unfold yielded
       simp only [List.getElem?_toArray,hoj',Option.bind_some,hdst,e2]
       cases v<;>rfl
      have skip:(∃ v,look σ' p.1=some v/\(match v with | .bool b=>some b | _=>none)≠some b)->Sp.ok s undef w ->
        (if Region.wanted o (yielded ops.toArray a.tmps)=true then o.wpIn (wf ro) 0 P a w (wpAnyIn (wf ro) 0 P .any ops.toArray Q fuel (listed.setIfInBounds i true)) Q
         else (∀ f,o.about P w a.eval=some f->(wf ro).fn f)/\wpAnyIn (wf ro) 0 P .any ops.toArray Q fuel (listed.setIfInBounds i true) (a.put o.dst undef) w):=by
       rintro ⟨v,hv,hne⟩ hok
       rw [if_neg (by simp only [Region.wanted,hgu,hyd v hv];simpa using hne)]
       exact ⟨fun _ _=>trivial,next undef w (Ext.refl w) hok (fun h=>absurd h hisa)⟩
      split at hG
      ·exact hG.elim
      ·rename_i c hc
       cases hx:Bool.xor c b with
       | true =>
        rw [hx] at hG
        refine skip ⟨.bool c,hc,?_⟩ hG
        intro e
        simp only [Option.some.injEq] at e
        subst e;simp at hx
       | false =>
        rw [hx] at hG
        have hcb:c=b:=by cases c<;>cases b<;>simp_all
        rw [if_pos (by simp only [Region.wanted,hgu,hyd _ hc,hcb];simp)]
        exact run hG
      ·rename_i v hnb hv
       refine skip ⟨v,hv,?_⟩ hG
       intro e
       cases v with
       | bool c=>exact hnb c rfl
       | _=>cases e
     ·cases h3
   ·have hall':∀ j,j<i->isL listed j:=fun j hj=>htail listed hI.shut i o hih ho hed' j hj
    have e:i=h:=by
     rcases Nat.lt_or_ge h i with hh | hh
     ·exact absurd (hall' h hh) (hI.head h (Nat.le_refl _))
     ·omega
    subst e
    exact tailStep (Nat.le_refl _) hall' hI.head (toB listed a w hI hall')
  ·have hpi:p=i:=by
    have h1:p<=i:=Nat.le_of_not_lt fun hh=>hunl (hlow i hh)
    rcases Nat.lt_or_ge p i with hh | hh
    ·exact absurd (htail listed (fun k ok hok hlk j hj=>hlow j (by have:=hback' k ok hok j hj;have:k<p:=Nat.lt_of_not_le (fun h=>hhigh k h hlk);omega)) i o (by omega) ho hed' p hh) (hhigh p (Nat.le_refl _))
    ·omega
   subst hpi
   exact tailStep hp hlow hhigh hwp
end
theorem WC.parF {Q:Pst} {id:Nat} (hm:P.follows .mixedOrders=true) (h:Nat) (sp:List Sp) (deps:List (List (Tmp×Nat))) (hchk:okPar ops N h deps=true)
  (hob:Obs P w0 σ0 (ops.take h) sp (ops.take h) sp deps) (hal:AlOk P w0 (ops.take h) sp)
  (hfin:∀ w,Ext w0 w->finQ (fun σ w=>Apart (ops.take h) σ->WL P ro N ds ops.toArray (fun σ w=>Q .normal σ ds w) (ops.drop h) σ w) w (ops.take h) sp σ0):WC P ro N Q (.region id ops.toArray true) σ0 ds w0:=by
 refine ⟨fun a ha=>?_⟩
 have main:(Code.region id ops.toArray true).wpIn (wf ro) 0 P (fun e a w=>e=.normal/\∃ σ',Agr N σ' ds a/\Q .normal σ' ds w) a w0:=by
  refine wpIn_region_draw fun t=>?_
  simp only [Region.schedule,hm,Bool.true_or,if_true]
  refine wpAnyIn_sound ops.toArray.size t _ a _ ?_
  have hfalse:∀ i,¬ isL (Array.replicate ops.toArray.size false) i:=by
   intro i
   unfold isL
   by_cases hi:i<ops.length<;>simp [hi]
  refine BJ5 hchk ha hob hal (fun w he=>?_) _ _ _ _ (by simp) (by simpa using cnt_le _ _) (.inl ⟨ha.size,ha.defs,(Below.refl _ w0).drew,fun i o s t _ _ _ hl=>absurd hl (hfalse i),fun t _=>rfl,fun i o _ hl=>absurd hl (hfalse i),fun i _=>hfalse i,fun i j oi oj t t' _ _ _ _ _ hl=>absurd hl (hfalse i),fun i o t _ _ hl=>absurd hl (hfalse i)⟩)
  have key:∀ (os:List Oper) (ss:List Sp) (σ:Env),finQ (fun σ w=>Apart (ops.take h) σ->WL P ro N ds ops.toArray (fun σ w=>Q .normal σ ds w) (ops.drop h) σ w) w os ss σ ->
    finQ (fun σ w=>Apart (ops.take h) σ->∀ a,Agr N σ ds a->wpListIn (wf ro) 0 P ops.toArray (fun e a w=>e=.normal/\∃ σ',Agr N σ' ds a/\Q .normal σ' ds w) (ops.drop h) a w) w os ss σ:=by
   intro os
   induction os with
   | nil=>intro ss σ hq;exact fun hA=>WL.out (hq hA)
   | cons o os ih =>
    intro ss σ hq
    cases ss with
    | nil=>exact fun hA=>WL.out (hq hA)
    | cons s ss =>
     cases s with
     | inl v=>exact ih ss _ hq
     | inr p=>exact fun v hv=>ih ss _ (hq v hv)
  exact key _ _ _ (hfin w he)
 refine wpIn_mono main ?_
 rintro e a' w' ⟨rfl,σ',hag,hk⟩
 exact ⟨σ',ds,hag,hk⟩
end
end Go.Kx
namespace Go.Proofs.YtggegpiffjbngaaGreat
open Go Go.Kx Go.RowKit
theorem AW7:Ent Tryz.prog 201:=A0 Tryz.func201 (by kernel_rfl) rfl
theorem AV1 {S:Nat->Prop} {w:World} (up:Up S w):CR Tryz.prog 201 #[] w (eZ.at S (zc 1)):=by
 refine enter Tryz.func201 O Tryz.ntmps201 O ?_
 refine .sr (.alloc O B9 fun w1 b1 n1=>.nil ?_)
 obtain ⟨e1,k1,hb1,hs1⟩:=n1
 have hS:¬ Sx S w.heap.size w1.heap.size b1:=Sx.no (by omega) (by omega)
 have up1:Up (Sx S w.heap.size w1.heap.size) w1:=Sx.up up (Nat.le_refl _) e1.size
 refine .sr (.call _ O V5 O (U6 up1 (by decide) (by decide)) fun v2 w2 e2 h2=>?_)
 refine .storeA (E:=eZ) ty_Z O O (k1.ext e2) O O h2 hS fun w5 k5 u5 h5=>.nil (.ret ?_)
 exact .cell Tryz.results201 O ty_Z O O k5 h5 ⟨u5.below (e1.trans e2) (by omega),h5.out⟩
theorem I0:Ent Tryz.prog 144:=A0 Tryz.func144 (by kernel_rfl) rfl
theorem H8 {S:Nat->Prop} {w:World} {v:Value} {q:QV} {L:Nat} (up:Up S w) (h:eQ.R S w v q) (hl:qok L q) (hL:L<=1000000000):CR Tryz.prog 144 #[v] w (eZ.at S (zc (pd q))):=by
 obtain ⟨s,t,rfl,hn,hd⟩:=S8 h
 refine enter Tryz.func144 O Tryz.ntmps144 O ?_
 refine .sr (.box O O fun w1 b1 n1=>.alloc O B9 fun w2 b2 n2=>.nil ?_)
 obtain ⟨e1,k1,hb1,hs1⟩:=n1
 obtain ⟨e2,k2,hb2,hs2⟩:=n2
 have x2:=e1.trans e2
 have k1:=k1.ext e2
 have hS:¬ Sx S w.heap.size w2.heap.size b2:=Sx.no (by omega) (by omega)
 have up2:Up (Sx S w.heap.size w2.heap.size) w2:=Sx.up up (Nat.le_refl _) x2.size
 have hd2:=(ER.par eZ hd w2.heap.size).ext x2
 refine .seq (.sr (.fa M8 O O (.ldN [.bool q.den.neg,t] ty_Z O O k1 AY8 ?_)))
 refine .call _ O I1 O (H9 up2 hd2 (Nat.le_trans hl.2 hL)) fun v3 w3 e3 h3=>?_
 subst h3
 have hp:zval q.den≠0->pd q=(val q.den.w:Nat):=by
  intro h0
  have:=J0 q.den
  unfold pd;rw [if_neg h0];split<;>omega
 by_cases h0:zval q.den=0
 ·refine .eqlT O O O (by rw [h0];rfl) (.nil (.condT O (.sr ?_)))
  refine .call _ O AW7 O (AV1 (up2.ext e3.size)) fun v4 w4 e4 h4=>?_
  refine .storeA (E:=eZ) ty_Z O O ((k2.ext e3).ext e4) O O h4 hS fun w5 k5 u5 h5=>.nil (.ret ?_)
  exact .cell Tryz.results144 O ty_Z O O k5 h5 ⟨u5.below ((x2.trans e3).trans e4) (by omega),by rw [show pd q=1 by unfold pd;rw [if_pos h0]];exact h5.out⟩
 ·refine .eqlF O O O (fun h=>h0 (Int.sign_eq_zero_iff_zero.1 h)) (.nil (.condF O (.skip (.sr (.fa M8 O O (.ldN [.bool q.den.neg,t] ty_Z O O (k1.ext e3) AY8 ?_))))))
  refine .call _ O At5 O (Ap5 (up2.ext e3.size) (ER.ext eZ hd2 e3) (Nat.le_trans hl.2 hL)) fun v4 w4 e4 h4=>?_
  refine .storeA (E:=eZ) ty_Z O O ((k2.ext e3).ext e4) O O h4 hS fun w5 k5 u5 h5=>.nil (.ret ?_)
  exact .cell Tryz.results144 O ty_Z O O k5 h5 ⟨u5.below ((x2.trans e3).trans e4) (by omega),by rw [hp h0];exact h5.out⟩
theorem J3:Ent Tryz.prog 143:=A0 Tryz.func143 (by kernel_rfl) rfl
theorem J2 {S:Nat->Prop} {w:World} {v:Value} {q:QV} {L:Nat} (up:Up S w) (h:eQ.R S w v q) (hl:qok L q) (hL:L<=1000000000):CR Tryz.prog 143 #[v] w (eZ.at S (zc (pn q))):=by
 obtain ⟨s,t,rfl,hn,hd⟩:=S8 h
 refine enter Tryz.func143 O Tryz.ntmps143 O ?_
 refine .sr (.box O O fun w1 b1 n1=>.alloc O B9 fun w2 b2 n2=>.nil ?_)
 obtain ⟨e1,k1,hb1,hs1⟩:=n1
 obtain ⟨e2,k2,hb2,hs2⟩:=n2
 have x2:=e1.trans e2
 have k1:=k1.ext e2
 have hS:¬ Sx S w.heap.size w2.heap.size b2:=Sx.no (by omega) (by omega)
 have up2:Up (Sx S w.heap.size w2.heap.size) w2:=Sx.up up (Nat.le_refl _) x2.size
 have hd2:=(ER.par eZ hd w2.heap.size).ext x2
 have hn2:=(ER.par eZ hn w2.heap.size).ext x2
 refine .seq (.sr (.fa M8 O O (.ldN [.bool q.den.neg,t] ty_Z O O k1 AY8 ?_)))
 refine .call _ O I1 O (H9 up2 hd2 (Nat.le_trans hl.2 hL)) fun v3 w3 e3 h3=>?_
 subst h3
 by_cases h0:zval q.den<0
 ·refine .lssT O O O (by rw [Int.sign_eq_neg_one_of_neg h0];decide) (.nil (.condT O (.sr (.fa M9 O O (.ldN [.bool q.num.neg,s] ty_Z O O (k1.ext e3) Au9 ?_)))))
  refine .call _ O AX1 O (AV5 (up2.ext e3.size) (ER.ext eZ hn2 e3) (Nat.le_trans hl.1 hL)) fun v4 w4 e4 h4=>?_
  refine .storeA (E:=eZ) ty_Z O O ((k2.ext e3).ext e4) O O h4 hS fun w5 k5 u5 h5=>.nil (.ret ?_)
  exact .cell Tryz.results143 O ty_Z O O k5 h5 ⟨u5.below ((x2.trans e3).trans e4) (by omega),by rw [show pn q = -zval q.num by unfold pn;rw [if_pos h0]];exact h5.out⟩
 ·refine .lssF O O O (fun h=>h0 (Int.sign_neg_iff.1 h)) (.nil (.condF O (.skip (.sr (.fa M9 O O (.ldN [.bool q.num.neg,s] ty_Z O O (k1.ext e3) Au9 ?_))))))
  refine .call _ O AL2 O (AK4 (up2.ext e3.size) (ER.ext eZ hn2 e3) (Nat.le_trans hl.1 (by omega))) fun v4 w4 e4 h4=>?_
  refine .storeA (E:=eZ) ty_Z O O ((k2.ext e3).ext e4) O O h4 hS fun w5 k5 u5 h5=>.nil (.ret ?_)
  exact .cell Tryz.results143 O ty_Z O O k5 h5 ⟨u5.below ((x2.trans e3).trans e4) (by omega),by rw [show pn q=zval q.num by unfold pn;rw [if_neg h0]];exact h5.out⟩
theorem V4:Ent Tryz.prog 145:=A0 Tryz.func145 (by kernel_rfl) rfl
theorem U5 {S:Nat->Prop} {w:World} {va vb:Value} {a b:ZV} {L:Nat} (up:Up S w) (ha:eZ.R S w va a) (hb:eZ.R S w vb b) (hla:a.w.length<=L) (hlb:b.w.length<=L) (hL:L<=1000000000) (hb0:0<zval b):CR Tryz.prog 145 #[va,vb] w (eQ.at S (qc (Rat.divInt (zval a) (zval b)))):=by
 have hda:=AH3 ha
 have hdb:=AH3 hb
 have hqc:=AT2 (n:=zval a) hb0
 have hga:=J0 a
 have hgb:=J0 b
 have hBp:0<val b.w:=by omega
 have hla1:=R6 hda hla
 have hlb1:=R6 hdb hlb
 rw [hga] at hla1
 rw [hgb] at hlb1
 rw [hga,hgb] at hqc
 have hg1:Nat.gcd (val a.w) (val b.w)<=val b.w:=Nat.gcd_le_right _ hBp
 have hg0:0<Nat.gcd (val a.w) (val b.w):=Nat.gcd_pos_of_pos_right _ hBp
 generalize hgg:Nat.gcd (val a.w) (val b.w)=g at *
 obtain ⟨s,rfl,hs⟩:=ha
 obtain ⟨t,rfl,ht⟩:=hb
 have ha:eZ.R S w (.agg #[.bool a.neg,s]) a:=⟨s,rfl,hs⟩
 have hb:eZ.R S w (.agg #[.bool b.neg,t]) b:=⟨t,rfl,ht⟩
 refine enter Tryz.func145 O Tryz.ntmps145 O ?_
 refine .sr (.box O O fun w1 b2 n1=>.box O O fun w2 b3 n2=>.alloc O C7 fun w3 b4 n3=>.nil ?_)
 obtain ⟨e1,k2,hb2,hs1⟩:=n1
 obtain ⟨e2,k3,hb3,hs2⟩:=n2
 obtain ⟨e3,k4,hb4,hs3⟩:=n3
 have x3:=(e1.trans e2).trans e3
 have k2:=(k2.ext e2).ext e3
 have k3:=k3.ext e3
 have hS4:¬ Sx S w.heap.size w3.heap.size b4:=Sx.no (by omega) (by omega)
 have up3:Up (Sx S w.heap.size w3.heap.size) w3:=Sx.up up (Nat.le_refl _) x3.size
 have ha3:=(ER.par eZ ha w3.heap.size).ext x3
 have hb3':=(ER.par eZ hb w3.heap.size).ext x3
 have hout:∀ {W:World} {v:Value} {z:QV},eQ.R (Sx S w.heap.size w3.heap.size) W v z->eQ.R S W v z:=fun h=>h.out
 generalize hT:Sx S w.heap.size w3.heap.size=T at *
 refine .sr (.ldA ty_Z O O k2 O (.ldA ty_Z O O k3 O ?_))
 refine .call _ O At2 O (Ap2 up3 ha3 hb3' (by omega) (by omega)) fun v4 w4 e4 h4=>?_
 rw [hgg] at h4
 obtain ⟨s4,rfl,hs4⟩:=h4
 have h4:eZ.R T w4 (.agg #[.bool (zc (g:Nat)).neg,s4]) (zc (g:Nat)):=⟨s4,rfl,hs4⟩
 refine .alloc O B9 fun w5 b5 n5=>?_
 obtain ⟨e5,k5,hb5,hs5⟩:=n5
 refine .storeA (E:=eZ) ty_Z O O k5 O O (ER.ext eZ (ER.lt eZ h4) e5) (fun h=>by have:=h.2;omega) fun w6 k5 u6 _=>.nil ?_
 have e46:Ext w4 w6:=u6.below e5 (by omega)
 have e36:=e4.trans e46
 have up6:=up3.ext e36.size
 have lg:(zc (g:Nat)).w.length<=1000000000:=Nat.le_trans (M6 (L:=L) (by rw [Int.natAbs_natCast];exact Nat.lt_of_le_of_lt hg1 hlb1)) hL
 have hgz:zval (zc ((g:Nat):Int))=(g:Int):=A9 _
 refine .sr (.ldA ty_Z O O (k2.ext e36) O (.ldA ty_Z O O k5 O ?_))
 refine .call _ O AX2 O (AV6 up6 (ER.ext eZ ha3 e36) (ER.ext eZ h4 e46) (by omega) lg (by rw [hgz];omega)) fun v7 w7 e7 h7=>?_
 obtain ⟨vq,vr,_,rfl,hq,hr,rfl⟩:=h7
 rw [hgz] at hq hr
 obtain ⟨sq,rfl,hsq⟩:=hq
 have hq:eZ.R T w7 (.agg #[.bool (zc (zval a / (g:Nat))).neg,sq]) (zc (zval a / (g:Nat))):=⟨sq,rfl,hsq⟩
 refine .mv O O (.ext O O O (.ext O O O (.ext O O O (.alloc O B9 fun w8 b6 n8=>.alloc O B9 fun w9 b7 n9=>?_))))
 obtain ⟨e8,k6,hb6,hs8⟩:=n8
 obtain ⟨e9,k7,hb7,hs9⟩:=n9
 have e79:=e8.trans e9
 refine .storeA (E:=eZ) ty_Z O O (k6.ext e9) O O (ER.ext eZ (ER.lt eZ hq) e79) (fun h=>by have:=h.2;omega) fun w10 k6 u10 _=>?_
 have e710:Ext w7 w10:=u10.below e79 (by omega)
 refine .storeA (E:=eZ) ty_Z O O (k7.upd u10 (by omega)) O O (ER.ext eZ (ER.lt eZ hr) e710) (fun h=>by have:=h.2;omega) fun w11 k7 u11 _=>.an O O ?_
 have e711:Ext w7 w11:=u11.below e710 (by omega)
 have k6:=k6.upd u11 (by omega)
 have e611:=e7.trans e711
 have up11:=up6.ext e611.size
 have k5:=k5.ext e611
 have e311:=e36.trans e611
 refine .sr (.ldA ty_Z O O (k3.ext e311) O (.ldA ty_Z O O k5 O ?_))
 refine .call _ O AX2 O (AV6 up11 (ER.ext eZ hb3' e311) (ER.ext eZ (ER.ext eZ h4 e46) e611) (by omega) lg (by rw [hgz];omega)) fun v12 w12 e12 h12=>?_
 obtain ⟨vd,ve,_,rfl,hd,he,rfl⟩:=h12
 rw [hgz] at hd he
 obtain ⟨sd,rfl,hsd⟩:=hd
 have hd:eZ.R T w12 (.agg #[.bool (zc (zval b / (g:Nat))).neg,sd]) (zc (zval b / (g:Nat))):=⟨sd,rfl,hsd⟩
 refine .mv O O (.ext O O O (.ext O O O (.ext O O O (.alloc O B9 fun w13 b9 n13=>.alloc O B9 fun w14 b10 n14=>?_))))
 obtain ⟨e13,k9,hb9,hs13⟩:=n13
 obtain ⟨e14,k10,hb10,hs14⟩:=n14
 have e1214:=e13.trans e14
 refine .storeA (E:=eZ) ty_Z O O (k9.ext e14) O O (ER.ext eZ (ER.lt eZ hd) e1214) (fun h=>by have:=h.2;omega) fun w15 k9 u15 _=>?_
 have e1215:Ext w12 w15:=u15.below e1214 (by omega)
 refine .storeA (E:=eZ) ty_Z O O (k10.upd u15 (by omega)) O O (ER.ext eZ (ER.lt eZ he) e1215) (fun h=>by have:=h.2;omega) fun w16 k10 u16 _=>.an O O ?_
 have e1216:Ext w12 w16:=u16.below e1215 (by omega)
 have k9:=k9.upd u16 (by omega)
 have e1116:=e12.trans e1216
 have k6:=k6.ext e1116
 have up16:=up11.ext e1116.size
 have hd:=ER.ext eZ hd e1216
 have hq:=ER.ext eZ hq (e711.trans e1116)
 have hdl:(zc (zval b / (g:Nat))).w.length<=1000000000:=Nat.le_trans (M6 (L:=L) (Nat.lt_of_le_of_lt (Int.natAbs_ediv_le_natAbs _ _) (by rw [hgb];exact hlb1))) hL
 have e316:=e311.trans e1116
 have k4:=k4.ext e316
 refine .seq (.seq ?_)
 refine .par follows 4 [.inl (.agg #[.bool (zc (zval b / (g:Nat))).neg,sd]),.inr (eZ.at T (zc 1)),.inl (.int .i64 (cmpI (zval (zc (zval b / (g:Nat)))) (zval (zc 1)))),.inl (.bool (cmpI (zval (zc (zval b / (g:Nat)))) (zval (zc 1)) == 0))] [[],[],[(29,0),(30,1)],[(31,2)]] (by kernel_rfl) ⟨
  fun w e=>(B5 ty_Z O (k9.ext e) O).ob,fun w e=>(A1 _ AW7 O (AV1 (up16.ext e.size))).ob (A3 _ _ _),
  fun w e x hx=>A1 _ At3 O (Ap3 (up16.ext e.size) (ER.ext eZ hd e) hx hdl (Nat.le_trans (M6 (L:=1) (by decide)) (by omega))),fun w e=>(An7 O O).ob,trivial⟩ ?_
 intro w17 e17 x1 hx1
 rw [A9,A9]
 have k4:=k4.ext e17
 have k6:=k6.ext e17
 have k9:=k9.ext e17
 obtain ⟨sq',he1,hsq'⟩:=ER.ext eZ hq e17
 obtain ⟨sd',he2,hsd'⟩:=ER.ext eZ hd e17
 injection he1 with he1
 injection he2 with he2
 simp at he1 he2
 subst he1
 subst he2
 have hxx:=x3.trans (e316.trans e17)
 by_cases h1:zval b / (g:Nat)=1
 ·rw [show (cmpI (zval b / (g:Nat)) 1 == 0)=true by rw [h1];decide]
  rw [if_pos h1] at hqc
  have hfin:eQ.R T w17 (.agg #[.bool (zc (zval a / (g:Nat))).neg,sq,.bool false,.slice none 0 0]) (qc (Rat.divInt (zval a) (zval b))):=by
   rw [hqc];exact ⟨sq,.slice none 0 0,rfl,hsq',RL.nil⟩
  refine .nil (.condT O (.sr (.ldA ty_Z O O k6 O (.bld [(0,.agg #[.bool (zc (zval a / (g:Nat))).neg,sq])] O O Al6 ?_))))
  refine .storeA (E:=eQ) ty_Q O O k4 O O hfin hS4 fun w18 k18 u18 h18=>.nil (.ret ?_)
  exact .cell Tryz.results145 O ty_Q O O k18 h18 ⟨u18.below hxx (by omega),hout h18⟩
 ·rw [show (cmpI (zval b / (g:Nat)) 1 == 0)=false by unfold cmpI;split<;>(try split)<;>first | rfl | omega]
  rw [if_neg h1] at hqc
  have hfin:eQ.R T w17 (.agg #[.bool (zc (zval a / (g:Nat))).neg,sq,.bool (zc (zval b / (g:Nat))).neg,sd]) (qc (Rat.divInt (zval a) (zval b))):=by
   rw [hqc];exact ⟨sq,sd,rfl,hsq',hsd'⟩
  refine .nil (.condF O (.skip (.sr (.ldA ty_Z O O k6 O (.ldA ty_Z O O k9 O (.bld [(0,.agg #[.bool (zc (zval a / (g:Nat))).neg,sq]),(1,.agg #[.bool (zc (zval b / (g:Nat))).neg,sd])] O O AN7 ?_))))))
  refine .storeA (E:=eQ) ty_Q O O k4 O O hfin hS4 fun w18 k18 u18 h18=>.nil (.ret ?_)
  exact .cell Tryz.results145 O ty_Q O O k18 h18 ⟨u18.below hxx (by omega),hout h18⟩
end Go.Proofs.YtggegpiffjbngaaGreat
namespace Go.Kx
theorem AG7 {L m n:Nat} {x y:Int} (h1:x.natAbs<L ^ m) (h2:y.natAbs<L ^ n):(x*y).natAbs<L ^ (m+n):=by
 rw [Int.natAbs_mul,Nat.pow_add];exact Nat.mul_lt_mul'' h1 h2
theorem BJ2 {m:Nat} {x y:Int} (h1:x.natAbs<4294967296 ^ m) (h2:y.natAbs<4294967296 ^ m):(x+y).natAbs<4294967296 ^ (m+1):=by
 have:=Int.natAbs_add_le x y
 rw [Nat.pow_succ];omega
end Go.Kx
namespace Go.Proofs.YtggegpiffjbngaaGreat
open Go Go.Kx Go.RowKit
theorem zl {n:Int} {L K:Nat} (h:n.natAbs<4294967296 ^ L) (hL:L<=K):(zc n).w.length<=K:=Nat.le_trans (M6 h) hL
theorem Z1 {S:Nat->Prop} {w:World} {v:Value} {q:QV} (h:eQ.R S w v q):dig q.num.w/\dig q.den.w:=by
 obtain ⟨s,t,_,h1,h2⟩:=h
 exact ⟨E6 h1,E6 h2⟩
theorem AL1:Ent Tryz.prog 149:=A0 Tryz.func149 (by kernel_rfl) rfl
theorem AK3 {S:Nat->Prop} {w:World} {v:Value} {q:QV} {L:Nat} (up:Up S w) (h:eQ.R S w v q) (hl:qok L q) (h1:1<=L) (hL:L<=1000000000):CR Tryz.prog 149 #[v] w (eQ.at S (qc (qval q))):=by
 obtain ⟨hd1,hd2⟩:=Z1 h
 have hln:=AP7 hd1 hl
 have hld:=AV8 hd2 hl h1
 have hpp:=J6 q
 obtain ⟨s,t,rfl,hs,ht⟩:=h
 have h:eQ.R S w (.agg #[.bool q.num.neg,s,.bool q.den.neg,t]) q:=⟨s,t,rfl,hs,ht⟩
 refine enter Tryz.func149 O Tryz.ntmps149 O ?_
 refine .sr (.box O O fun w1 b1 n1=>.alloc O C7 fun w2 b2 n2=>.nil ?_)
 obtain ⟨e1,k1,hb1,hs1⟩:=n1
 obtain ⟨e2,k2,hb2,hs2⟩:=n2
 have x2:=e1.trans e2
 have k1:=k1.ext e2
 have hS:¬ Sx S w.heap.size w2.heap.size b2:=Sx.no (by omega) (by omega)
 have up2:Up (Sx S w.heap.size w2.heap.size) w2:=Sx.up up (Nat.le_refl _) x2.size
 have h2:=(ER.par eQ h w2.heap.size).ext x2
 have hout:∀ {W:World} {v:Value} {z:QV},eQ.R (Sx S w.heap.size w2.heap.size) W v z->eQ.R S W v z:=fun h=>h.out
 generalize hT:Sx S w.heap.size w2.heap.size=T at *
 refine .seq ?_
 refine .par follows 5 [.inl _,.inr (eZ.at T (zc (pn q))),.inl _,.inr (eZ.at T (zc (pd q))),.inr (eQ.at T (qc (Rat.divInt (zval (zc (pn q))) (zval (zc (pd q))))))] [[],[(3,0)],[],[(5,2)],[(4,1),(6,3)]] (by kernel_rfl) ⟨
  fun w e=>(B5 ty_Q O (k1.ext e) O).ob,fun w e=>(A1 _ J3 O (J2 (up2.ext e.size) (ER.ext eQ h2 e) hl hL)).ob (A3 _ _ _),
  fun w e=>(B5 ty_Q O (k1.ext e) O).ob,fun w e=>(A1 _ I0 O (H8 (up2.ext e.size) (ER.ext eQ h2 e) hl hL)).ob (A3 _ _ _),
  fun w e x hx y hy=>(A1 _ V4 O (U5 (up2.ext e.size) hx hy (zl hln (Nat.le_refl _)) (zl hld (Nat.le_refl _)) hL (by rw [A9];exact hpp))).ob (A3 _ _ _),trivial⟩ ?_
 intro w3 e3 x hx y hy z hz
 rw [A9,A9] at hz
 refine .storeA (E:=eQ) ty_Q O O (k2.ext e3) O O hz hS fun w4 k4 u4 h4=>.nil (.ret ?_)
 exact .cell Tryz.results149 O ty_Q O O k4 h4 ⟨u4.below (x2.trans e3) (by omega),hout h4⟩
theorem As8:Ent Tryz.prog 160:=A0 Tryz.func160 (by kernel_rfl) rfl
theorem Ao8 {S:Nat->Prop} {w:World} {v:Value} {q:QV} {L:Nat} (up:Up S w) (h:eQ.R S w v q) (hl:qok L q) (h1:1<=L) (hL:L<=1000000000):CR Tryz.prog 160 #[v] w (eQ.at S (qc (-qval q))):=by
 obtain ⟨hd1,hd2⟩:=Z1 h
 have hln:=AP7 hd1 hl
 have hld:=AV8 hd2 hl h1
 have hpp:=J6 q
 obtain ⟨s,t,rfl,hs,ht⟩:=h
 have h:eQ.R S w (.agg #[.bool q.num.neg,s,.bool q.den.neg,t]) q:=⟨s,t,rfl,hs,ht⟩
 refine enter Tryz.func160 O Tryz.ntmps160 O ?_
 refine .sr (.box O O fun w1 b1 n1=>.alloc O C7 fun w2 b2 n2=>.nil ?_)
 obtain ⟨e1,k1,hb1,hs1⟩:=n1
 obtain ⟨e2,k2,hb2,hs2⟩:=n2
 have x2:=e1.trans e2
 have k1:=k1.ext e2
 have hS:¬ Sx S w.heap.size w2.heap.size b2:=Sx.no (by omega) (by omega)
 have up2:Up (Sx S w.heap.size w2.heap.size) w2:=Sx.up up (Nat.le_refl _) x2.size
 have h2:=(ER.par eQ h w2.heap.size).ext x2
 have hout:∀ {W:World} {v:Value} {z:QV},eQ.R (Sx S w.heap.size w2.heap.size) W v z->eQ.R S W v z:=fun h=>h.out
 generalize hT:Sx S w.heap.size w2.heap.size=T at *
 refine .seq ?_
 refine .par follows 6 [.inl _,.inr (eZ.at T (zc (pn q))),.inr (eZ.at T (zc (-zval (zc (pn q))))),.inl _,.inr (eZ.at T (zc (pd q))),.inr (eQ.at T (qc (Rat.divInt (zval (zc (-zval (zc (pn q))))) (zval (zc (pd q))))))] [[],[(3,0)],[(4,1)],[],[(6,3)],[(5,2),(7,4)]] (by kernel_rfl) ⟨
  fun w e=>(B5 ty_Q O (k1.ext e) O).ob,fun w e=>(A1 _ J3 O (J2 (up2.ext e.size) (ER.ext eQ h2 e) hl hL)).ob (A3 _ _ _),
  fun w e x hx=>(A1 _ AX1 O (AV5 (up2.ext e.size) hx (zl hln hL))).ob (A3 _ _ _),
  fun w e=>(B5 ty_Q O (k1.ext e) O).ob,fun w e=>(A1 _ I0 O (H8 (up2.ext e.size) (ER.ext eQ h2 e) hl hL)).ob (A3 _ _ _),
  fun w e x hx y hy=>(A1 _ V4 O (U5 (up2.ext e.size) hx hy (zl (by rw [A9,Int.natAbs_neg];exact hln) (Nat.le_refl _)) (zl hld (Nat.le_refl _)) hL (by rw [A9];exact hpp))).ob (A3 _ _ _),trivial⟩ ?_
 intro w3 e3 x hx y hy z hz u hu
 rw [A9,A9,A9,<-Rat.neg_divInt] at hu
 refine .storeA (E:=eQ) ty_Q O O (k2.ext e3) O O hu hS fun w4 k4 u4 h4=>.nil (.ret ?_)
 exact .cell Tryz.results160 O ty_Q O O k4 h4 ⟨u4.below (x2.trans e3) (by omega),hout h4⟩
theorem Am3:Ent Tryz.prog 88:=A0 Tryz.func88 (by kernel_rfl) rfl
theorem Aj9 {S:Nat->Prop} {w:World} {v:Value} {q:QV} {L:Nat} (up:Up S w) (h:eQ.R S w v q) (hl:qok L q) (hL:L<=1000000000):CR Tryz.prog 88 #[v] w (Is (.int .i64 (pn q).sign)):=by
 obtain ⟨hd1,hd2⟩:=Z1 h
 have hln:=AP7 hd1 hl
 obtain ⟨s,t,rfl,hs,ht⟩:=h
 have h:eQ.R S w (.agg #[.bool q.num.neg,s,.bool q.den.neg,t]) q:=⟨s,t,rfl,hs,ht⟩
 refine enter Tryz.func88 O Tryz.ntmps88 O ?_
 refine .sr (.box O O fun w1 b1 n1=>.an O O ?_)
 obtain ⟨e1,k1,hb1,hs1⟩:=n1
 refine .sr (.ldA ty_Q O O k1 O ?_)
 refine .call _ O J3 O (J2 (up.ext e1.size) (ER.ext eQ h e1) hl hL) fun v2 w2 e2 h2=>?_
 refine .call _ O I1 O (H9 ((up.ext e1.size).ext e2.size) h2 (zl hln hL)) fun v3 w3 e3 h3=>?_
 subst h3
 refine .an O O (.ret ?_)
 exact .plain [_] Tryz.results88 ⟨rfl,trivial⟩ ⟨(e1.trans e2).trans e3,isI (by rw [A9])⟩
theorem As9:Ent Tryz.prog 82:=A0 Tryz.func82 (by kernel_rfl) rfl
theorem Ao9 {S:Nat->Prop} {w:World} {va vb:Value} {a b:QV} {L:Nat} (up:Up S w) (ha:eQ.R S w va a) (hb:eQ.R S w vb b) (hla:qok L a) (hlb:qok L b) (h1:1<=L) (hL:L<=400000000):CR Tryz.prog 82 #[va,vb] w (eQ.at S (qc (qval a*qval b))):=by
 obtain ⟨da1,da2⟩:=Z1 ha
 obtain ⟨db1,db2⟩:=Z1 hb
 have lna:=AP7 da1 hla
 have lda:=AV8 da2 hla h1
 have lnb:=AP7 db1 hlb
 have ldb:=AV8 db2 hlb h1
 have ppa:=J6 a
 have ppb:=J6 b
 have hpp:=Int.mul_pos ppa ppb
 have hL9:L<=1000000000:=by omega
 obtain ⟨s,t,rfl,hs,ht⟩:=ha
 have ha:eQ.R S w (.agg #[.bool a.num.neg,s,.bool a.den.neg,t]) a:=⟨s,t,rfl,hs,ht⟩
 obtain ⟨s',t',rfl,hs',ht'⟩:=hb
 have hb:eQ.R S w (.agg #[.bool b.num.neg,s',.bool b.den.neg,t']) b:=⟨s',t',rfl,hs',ht'⟩
 refine enter Tryz.func82 O Tryz.ntmps82 O ?_
 refine .sr (.box O O fun w1 b2 n1=>.box O O fun w2 b3 n2=>.alloc O C7 fun w3 b4 n3=>.nil ?_)
 obtain ⟨e1,k2,hb2,hs1⟩:=n1
 obtain ⟨e2,k3,hb3,hs2⟩:=n2
 obtain ⟨e3,k4,hb4,hs3⟩:=n3
 have x3:=(e1.trans e2).trans e3
 have k2:=(k2.ext e2).ext e3
 have k3:=k3.ext e3
 have hS4:¬ Sx S w.heap.size w3.heap.size b4:=Sx.no (by omega) (by omega)
 have up3:Up (Sx S w.heap.size w3.heap.size) w3:=Sx.up up (Nat.le_refl _) x3.size
 have ha3:=(ER.par eQ ha w3.heap.size).ext x3
 have hb3':=(ER.par eQ hb w3.heap.size).ext x3
 have hout:∀ {W:World} {v:Value} {z:QV},eQ.R (Sx S w.heap.size w3.heap.size) W v z->eQ.R S W v z:=fun h=>h.out
 generalize hT:Sx S w.heap.size w3.heap.size=T at *
 refine .seq ?_
 refine .par follows 11 [.inl _,.inr (eZ.at T (zc (pn a))),.inl _,.inr (eZ.at T (zc (pn b))),.inr (eZ.at T (zc (zval (zc (pn a))*zval (zc (pn b))))),.inl _,.inr (eZ.at T (zc (pd a))),.inl _,.inr (eZ.at T (zc (pd b))),.inr (eZ.at T (zc (zval (zc (pd a))*zval (zc (pd b))))),
   .inr (eQ.at T (qc (Rat.divInt (zval (zc (zval (zc (pn a))*zval (zc (pn b))))) (zval (zc (zval (zc (pd a))*zval (zc (pd b))))))))]
   [[],[(5,0)],[],[(7,2)],[(6,1),(8,3)],[],[(10,5)],[],[(12,7)],[(11,6),(13,8)],[(9,4),(14,9)]] (by kernel_rfl) ⟨
  fun w e=>(B5 ty_Q O (k2.ext e) O).ob,fun w e=>(A1 _ J3 O (J2 (up3.ext e.size) (ER.ext eQ ha3 e) hla hL9)).ob (A3 _ _ _),
  fun w e=>(B5 ty_Q O (k3.ext e) O).ob,fun w e=>(A1 _ J3 O (J2 (up3.ext e.size) (ER.ext eQ hb3' e) hlb hL9)).ob (A3 _ _ _),
  fun w e x hx y hy=>(A1 _ T5 O (S4 (up3.ext e.size) hx hy (zl lna hL9) (zl lnb hL9))).ob (A3 _ _ _),
  fun w e=>(B5 ty_Q O (k2.ext e) O).ob,fun w e=>(A1 _ I0 O (H8 (up3.ext e.size) (ER.ext eQ ha3 e) hla hL9)).ob (A3 _ _ _),
  fun w e=>(B5 ty_Q O (k3.ext e) O).ob,fun w e=>(A1 _ I0 O (H8 (up3.ext e.size) (ER.ext eQ hb3' e) hlb hL9)).ob (A3 _ _ _),
  fun w e x hx y hy=>(A1 _ T5 O (S4 (up3.ext e.size) hx hy (zl lda hL9) (zl ldb hL9))).ob (A3 _ _ _),
  fun w e x hx y hy=>(A1 _ V4 O (U5 (up3.ext e.size) hx hy (zl (by rw [A9,A9];exact AG7 lna lnb) (Nat.le_refl _)) (zl (by rw [A9,A9];exact AG7 lda ldb) (Nat.le_refl _)) (by omega) (by rw [A9,A9,A9];exact hpp))).ob (A3 _ _ _),trivial⟩ ?_
 intro w4 e4 x1 _ x2 _ x3' _ x4 _ x5 _ x6 _ z hz
 rw [A9,A9,A9,A9,A9,A9,<-Rat.divInt_mul_divInt] at hz
 refine .storeA (E:=eQ) ty_Q O O (k4.ext e4) O O hz hS4 fun w5 k5 u5 h5=>.nil (.ret ?_)
 exact .cell Tryz.results82 O ty_Q O O k5 h5 ⟨u5.below (x3.trans e4) (by omega),hout h5⟩
theorem AW9:Ent Tryz.prog 81:=A0 Tryz.func81 (by kernel_rfl) rfl
theorem AV3 {S:Nat->Prop} {w:World} {va vb:Value} {a b:QV} {L:Nat} (up:Up S w) (ha:eQ.R S w va a) (hb:eQ.R S w vb b) (hla:qok L a) (hlb:qok L b) (h1:1<=L) (hL:L<=400000000):CR Tryz.prog 81 #[va,vb] w (eQ.at S (qc (qval a+qval b))):=by
 obtain ⟨da1,da2⟩:=Z1 ha
 obtain ⟨db1,db2⟩:=Z1 hb
 have lna:=AP7 da1 hla
 have lda:=AV8 da2 hla h1
 have lnb:=AP7 db1 hlb
 have ldb:=AV8 db2 hlb h1
 have ppa:=J6 a
 have ppb:=J6 b
 have hpp:=Int.mul_pos ppa ppb
 have hL9:L<=1000000000:=by omega
 obtain ⟨s,t,rfl,hs,ht⟩:=ha
 have ha:eQ.R S w (.agg #[.bool a.num.neg,s,.bool a.den.neg,t]) a:=⟨s,t,rfl,hs,ht⟩
 obtain ⟨s',t',rfl,hs',ht'⟩:=hb
 have hb:eQ.R S w (.agg #[.bool b.num.neg,s',.bool b.den.neg,t']) b:=⟨s',t',rfl,hs',ht'⟩
 refine enter Tryz.func81 O Tryz.ntmps81 O ?_
 refine .sr (.box O O fun w1 b2 n1=>.box O O fun w2 b3 n2=>.alloc O C7 fun w3 b4 n3=>.nil ?_)
 obtain ⟨e1,k2,hb2,hs1⟩:=n1
 obtain ⟨e2,k3,hb3,hs2⟩:=n2
 obtain ⟨e3,k4,hb4,hs3⟩:=n3
 have x3:=(e1.trans e2).trans e3
 have k2:=(k2.ext e2).ext e3
 have k3:=k3.ext e3
 have hS4:¬ Sx S w.heap.size w3.heap.size b4:=Sx.no (by omega) (by omega)
 have up3:Up (Sx S w.heap.size w3.heap.size) w3:=Sx.up up (Nat.le_refl _) x3.size
 have ha3:=(ER.par eQ ha w3.heap.size).ext x3
 have hb3':=(ER.par eQ hb w3.heap.size).ext x3
 have hout:∀ {W:World} {v:Value} {z:QV},eQ.R (Sx S w.heap.size w3.heap.size) W v z->eQ.R S W v z:=fun h=>h.out
 generalize hT:Sx S w.heap.size w3.heap.size=T at *
 refine .seq ?_
 refine .parF follows 12 [.inl _,.inr (eZ.at T (zc (pn a))),.inl _,.inr (eZ.at T (zc (pd b))),.inr (eZ.at T (zc (zval (zc (pn a))*zval (zc (pd b))))),.inl _,.inr (eZ.at T (zc (pn b))),.inl _,.inr (eZ.at T (zc (pd a))),.inr (eZ.at T (zc (zval (zc (pn b))*zval (zc (pd a))))),
   .inr (NewP w3.heap.size 52 #[.bool false,.slice none 0 0]),.inr (NewP w3.heap.size 52 #[.bool false,.slice none 0 0])]
   [[],[(7,0)],[],[(9,2)],[(8,1),(10,3)],[],[(12,5)],[],[(14,7)],[(13,6),(15,8)],[],[]] (by kernel_rfl) ⟨
  fun w e=>(B5 ty_Q O (k2.ext e) O).ob,fun w e=>(A1 _ J3 O (J2 (up3.ext e.size) (ER.ext eQ ha3 e) hla hL9)).ob (A3 _ _ _),
  fun w e=>(B5 ty_Q O (k3.ext e) O).ob,fun w e=>(A1 _ I0 O (H8 (up3.ext e.size) (ER.ext eQ hb3' e) hlb hL9)).ob (A3 _ _ _),
  fun w e x hx y hy=>(A1 _ T5 O (S4 (up3.ext e.size) hx hy (zl lna hL9) (zl ldb hL9))).ob (A3 _ _ _),
  fun w e=>(B5 ty_Q O (k3.ext e) O).ob,fun w e=>(A1 _ J3 O (J2 (up3.ext e.size) (ER.ext eQ hb3' e) hlb hL9)).ob (A3 _ _ _),
  fun w e=>(B5 ty_Q O (k2.ext e) O).ob,fun w e=>(A1 _ I0 O (H8 (up3.ext e.size) (ER.ext eQ ha3 e) hla hL9)).ob (A3 _ _ _),
  fun w e x hx y hy=>(A1 _ T5 O (S4 (up3.ext e.size) hx hy (zl lnb hL9) (zl lda hL9))).ob (A3 _ _ _),
  fun w e=>AB8 B9 e.size,fun w e=>AB8 B9 e.size,trivial⟩
  ⟨fun h=>(by cases h),fun h=>(by cases h),fun h=>(by cases h),fun h=>(by cases h),fun h=>(by cases h),fun h=>(by cases h),fun h=>(by cases h),fun h=>(by cases h),fun h=>(by cases h),fun h=>(by cases h),
   fun _=>⟨_,_,_,rfl,rfl,B9,rfl,Nat.le_refl _⟩,fun _=>⟨_,_,_,rfl,rfl,B9,rfl,Nat.le_refl _⟩,trivial⟩ ?_
 rintro w4 e4 x1-x2-v11 h11 x4-x5-v16 h16 _ ⟨b5,rfl,hb5,k5⟩ _ ⟨b6,rfl,hb6,k6⟩ hA
 have hne:b6≠b5:=by
  intro e
  subst e
  exact hA 5 6 _ _ (by decide) ⟨_,List.mem_of_getElem? (i:=10) rfl,rfl,rfl⟩ ⟨_,List.mem_of_getElem? (i:=11) rfl,rfl,rfl⟩ rfl O rfl
 rw [A9,A9] at h11 h16
 have h16':=Al2 (Al2 h16 k5 AO1) k6 AO1
 have h11':=Al2 (Al2 h11 k5 AO1) k6 AO1
 refine .storeA (E:=eZ) ty_Z O O k5 O O h11' (fun h=>h.1.2 O) fun w5 k5 u5 h11=>?_
 refine .storeA (E:=eZ) ty_Z O O (k6.upd u5 hne) O O (ER.upd eZ h16' u5 (fun h=>h.1.2 O)) (fun h=>h.2 O) fun w6 k6 u6 h16=>.nil ?_
 have h11:=ER.upd eZ h11 u6 (fun h=>h.2 O)
 have k5:=k5.upd u6 (Ne.symm hne)
 have e36:Ext w3 w6:=u6.below (u5.below e4 hb5) hb6
 have x6:=x3.trans e36
 have k2:=k2.ext e36
 have k3:=k3.ext e36
 have k4:=k4.ext e36
 have up6:=up3.ext e36.size
 have ha6:=ER.ext eQ ha3 e36
 have hb6':=ER.ext eQ hb3' e36
 have h11:eZ.R T w6 v11 (zc (pn a*pd b)):=ER.mono eZ (fun _ _ h=>h.1.1) h11
 have h16:eZ.R T w6 v16 (zc (pn b*pd a)):=ER.mono eZ (fun _ _ h=>h.1.1) h16
 obtain ⟨s11,rfl,hs11⟩:=h11
 have h11:eZ.R T w6 (.agg #[.bool (zc (pn a*pd b)).neg,s11]) (zc (pn a*pd b)):=⟨s11,rfl,hs11⟩
 obtain ⟨s16,rfl,hs16⟩:=h16
 have h16:eZ.R T w6 (.agg #[.bool (zc (pn b*pd a)).neg,s16]) (zc (pn b*pd a)):=⟨s16,rfl,hs16⟩
 refine .seq ?_
 have m1:=AG7 lna ldb
 have m2:=AG7 lnb lda
 have m3:=AG7 lda ldb
 have m4:=BJ2 m1 m2
 have m5:4294967296 ^ (L+L)<=4294967296 ^ (L+L+1):=Nat.pow_le_pow_right (by decide) (by omega)
 refine .par follows 9 [.inl (.agg #[.bool (zc (pn a*pd b)).neg,s11]),.inl (.agg #[.bool (zc (pn b*pd a)).neg,s16]),.inr (eZ.at T (zc (zval (zc (pn a*pd b))+zval (zc (pn b*pd a))))),.inl _,.inr (eZ.at T (zc (pd a))),.inl _,.inr (eZ.at T (zc (pd b))),.inr (eZ.at T (zc (zval (zc (pd a))*zval (zc (pd b))))),
   .inr (eQ.at T (qc (Rat.divInt (zval (zc (zval (zc (pn a*pd b))+zval (zc (pn b*pd a))))) (zval (zc (zval (zc (pd a))*zval (zc (pd b))))))))]
   [[],[],[(17,0),(18,1)],[],[(20,3)],[],[(22,5)],[(21,4),(23,6)],[(19,2),(24,7)]] (by kernel_rfl) ⟨
  fun w e=>(B5 ty_Z O (k5.ext e) O).ob,fun w e=>(B5 ty_Z O (k6.ext e) O).ob,
  fun w e=>(A1 _ At4 O (Ap4 (up6.ext e.size) (ER.ext eZ h11 e) (ER.ext eZ h16 e) (zl m1 (by omega)) (zl m2 (by omega)))).ob (A3 _ _ _),
  fun w e=>(B5 ty_Q O (k2.ext e) O).ob,fun w e=>(A1 _ I0 O (H8 (up6.ext e.size) (ER.ext eQ ha6 e) hla hL9)).ob (A3 _ _ _),
  fun w e=>(B5 ty_Q O (k3.ext e) O).ob,fun w e=>(A1 _ I0 O (H8 (up6.ext e.size) (ER.ext eQ hb6' e) hlb hL9)).ob (A3 _ _ _),
  fun w e x hx y hy=>(A1 _ T5 O (S4 (up6.ext e.size) hx hy (zl lda hL9) (zl ldb hL9))).ob (A3 _ _ _),
  fun w e x hx y hy=>(A1 _ V4 O (U5 (L:=L+L+1) (up6.ext e.size) hx hy (zl (by rw [A9,A9];exact m4) (Nat.le_refl _)) (zl (by rw [A9,A9];exact m3) (by omega)) (by omega) (by rw [A9,A9,A9];exact hpp))).ob (A3 _ _ _),trivial⟩ ?_
 intro w7 e7 x1 _ x2 _ x3' _ x4 _ z hz
 rw [A9,A9,A9,A9,A9,A9,<-Rat.divInt_add_divInt _ _ (by omega) (by omega)] at hz
 refine .storeA (E:=eQ) ty_Q O O (k4.ext e7) O O hz hS4 fun w8 k8 u8 h8=>.nil (.ret ?_)
 exact .cell Tryz.results81 O ty_Q O O k8 h8 ⟨u8.below (x6.trans e7) (by omega),hout h8⟩
end Go.Proofs.YtggegpiffjbngaaGreat
namespace Go.Kx
open Go Go.RowKit
def atI (a:List QV) (i:Int):QV:=if i<0 then q0 else a.getD i.toNat q0
theorem AR5 (a:List QV) (i:Nat):atI a i=a.getD i q0:=by
 unfold atI;rw [if_neg (by omega)];simp
end Go.Kx
namespace Go.Proofs.YtggegpiffjbngaaGreat
open Go Go.Kx Go.RowKit
theorem AW8:Ent Tryz.prog 97:=A0 Tryz.func97 (by kernel_rfl) rfl
theorem AV2 {S:Nat->Prop} {w:World} {va vb:Value} {a b:QV} {L:Nat} (up:Up S w) (ha:eQ.R S w va a) (hb:eQ.R S w vb b) (hla:qok L a) (hlb:qk L b) (h1:1<=L) (hL:L<=400000000):CR Tryz.prog 97 #[va,vb] w (eQ.at S (qc (qval a-qval b))):=by
 obtain ⟨s,t,rfl,hs,ht⟩:=ha
 have ha:eQ.R S w (.agg #[.bool a.num.neg,s,.bool a.den.neg,t]) a:=⟨s,t,rfl,hs,ht⟩
 obtain ⟨s',t',rfl,hs',ht'⟩:=hb
 have hb:eQ.R S w (.agg #[.bool b.num.neg,s',.bool b.den.neg,t']) b:=⟨s',t',rfl,hs',ht'⟩
 refine enter Tryz.func97 O Tryz.ntmps97 O ?_
 refine .sr (.box O O fun w1 b2 n1=>.box O O fun w2 b3 n2=>.alloc O C7 fun w3 b4 n3=>.nil ?_)
 obtain ⟨e1,k2,hb2,hs1⟩:=n1
 obtain ⟨e2,k3,hb3,hs2⟩:=n2
 obtain ⟨e3,k4,hb4,hs3⟩:=n3
 have x3:=(e1.trans e2).trans e3
 have k2:=(k2.ext e2).ext e3
 have k3:=k3.ext e3
 have hS4:¬ Sx S w.heap.size w3.heap.size b4:=Sx.no (by omega) (by omega)
 have up3:Up (Sx S w.heap.size w3.heap.size) w3:=Sx.up up (Nat.le_refl _) x3.size
 have ha3:=(ER.par eQ ha w3.heap.size).ext x3
 have hb3':=(ER.par eQ hb w3.heap.size).ext x3
 have hout:∀ {W:World} {v:Value} {z:QV},eQ.R (Sx S w.heap.size w3.heap.size) W v z->eQ.R S W v z:=fun h=>h.out
 generalize hT:Sx S w.heap.size w3.heap.size=T at *
 refine .seq ?_
 refine .par follows 4 [.inl (.agg #[.bool a.num.neg,s,.bool a.den.neg,t]),.inl (.agg #[.bool b.num.neg,s',.bool b.den.neg,t']),.inr (eQ.at T (qc (-qval b))),.inr (eQ.at T (qc (qval a+qval (qc (-qval b)))))] [[],[],[(6,1)],[(5,0),(7,2)]] (by kernel_rfl) ⟨
  fun w e=>(B5 ty_Q O (k2.ext e) O).ob,fun w e=>(B5 ty_Q O (k3.ext e) O).ob,
  fun w e=>(A1 _ As8 O (Ao8 (up3.ext e.size) (ER.ext eQ hb3' e) hlb.1 h1 (by omega))).ob (A3 _ _ _),
  fun w e x hx=>(A1 _ AW9 O (AV3 (up3.ext e.size) (ER.ext eQ ha3 e) hx hla (Rsz.toOk hlb.2.neg) h1 hL)).ob (A3 _ _ _),trivial⟩ ?_
 intro w4 e4 x _ z hz
 rw [D9,<-Rat.sub_eq_add_neg] at hz
 refine .storeA (E:=eQ) ty_Q O O (k4.ext e4) O O hz hS4 fun w5 k5 u5 h5=>.nil (.ret ?_)
 exact .cell Tryz.results97 O ty_Q O O k5 h5 ⟨u5.below (x3.trans e4) (by omega),hout h5⟩
theorem AE8:Ent Tryz.prog 67:=A0 Tryz.func67 (by kernel_rfl) rfl
theorem AD3 {S:Nat->Prop} {w:World} {v:Value} {a:List QV} {i:Int} (h:eV.R S w v a):CR Tryz.prog 67 #[v,.int .i64 i] w (eQ.at S (atI a i)):=by
 refine enter Tryz.func67 O Tryz.ntmps67 O ?_
 refine .sr (.alloc O C7 fun w1 b4 n1=>.nil ?_)
 obtain ⟨e1,k4,hb4,hs1⟩:=n1
 have hS4:¬ Sx S w.heap.size w1.heap.size b4:=Sx.no (by omega) (by omega)
 have h1:=(ER.par eV h w1.heap.size).ext e1
 refine .seq (.sr (.mv O O ?_))
 by_cases h0:0<=i
 ·refine .geqT O O O h0 (.mv O O (.gr O O O O (.mv O O (.gr O O O O (.mv O O (.gr O O O O (.lenR un_V O O h1 (.gr O O O O ?_))))))))
  by_cases hl:i<a.length
  ·refine .lssT O O O hl (.pick O O O (.nil (.condT O (.sr (.mv O O (.mv O O ?_))))))
   obtain ⟨j,rfl⟩:∃ j:Nat,i=j:=⟨i.toNat,by omega⟩
   refine .ixN (i:=j) un_V ty_Q O O h1 O (A7 (z:=q0) (by omega)) fun p hp=>.ldE ty_Q O O hp fun e he=>?_
   refine .storeA (E:=eQ) ty_Q O O k4 O O he hS4 fun w5 k5 u5 h5=>.nil (.ret ?_)
   exact .cell Tryz.results67 O ty_Q O O k5 h5 ⟨u5.below e1 (by omega),by rw [AR5];exact h5.out⟩
  ·refine .lssF O O O hl (.pick O O O (.nil (.condF O (.skip (.sr (.bld [] O O AE4 ?_))))))
   have hq:eQ.R (Sx S w.heap.size w1.heap.size) w1 (.agg #[.bool false,.slice none 0 0,.bool false,.slice none 0 0]) q0:=⟨_,_,rfl,RL.nil,RL.nil⟩
   refine .storeA (E:=eQ) ty_Q O O k4 O O hq hS4 fun w5 k5 u5 h5=>.nil (.ret ?_)
   refine .cell Tryz.results67 O ty_Q O O k5 h5 ⟨u5.below e1 (by omega),?_⟩
   rw [show atI a i=q0 by unfold atI;rw [if_neg (by omega),List.getD_eq_getElem?_getD,List.getElem?_eq_none (by omega)];rfl]
   exact h5.out
 ·refine .geqF O O O h0 (.mv O O (.gs O O O O O (.gs O O O O O (.gs O O O O O (.gs O O O O O (.pick O O O (.nil (.condF O (.skip (.sr (.bld [] O O AE4 ?_)))))))))))
  have hq:eQ.R (Sx S w.heap.size w1.heap.size) w1 (.agg #[.bool false,.slice none 0 0,.bool false,.slice none 0 0]) q0:=⟨_,_,rfl,RL.nil,RL.nil⟩
  refine .storeA (E:=eQ) ty_Q O O k4 O O hq hS4 fun w5 k5 u5 h5=>.nil (.ret ?_)
  refine .cell Tryz.results67 O ty_Q O O k5 h5 ⟨u5.below e1 (by omega),?_⟩
  rw [show atI a i=q0 by unfold atI;rw [if_pos (by omega)]]
  exact h5.out
end Go.Proofs.YtggegpiffjbngaaGreat
namespace Go.Kx
end Go.Kx
namespace Go.Proofs.YtggegpiffjbngaaGreat
open Go Go.Kx Go.RowKit
theorem BJ7 {w:World} {v:Value} {t:TypeId} {sz n B B':Nat} {xs:List Value} (h:w.ownsRow B t sz v n xs) (hB:B'<=B):w.ownsRow B' t sz v n xs:=by
 refine ⟨h.1,?_⟩
 rcases h.2 with h | ⟨g,cap,cur,h1,h2,h3⟩
 ·exact .inl h
 ·exact .inr ⟨g,cap,cur,h1,Nat.le_trans hB h2,h3⟩
theorem OwnL.base {α:Type} {E:ER α} {t:TypeId} {B B':Nat} {X:Nat->Prop} {w:World} {v:Value} {l:List α} (h:OwnL E t B X w v l) (hB:B'<=B):OwnL E t B' X w v l:=by
 obtain ⟨es,h1,h2⟩:=h
 exact ⟨es,BJ7 h1 hB,h2⟩
end Go.Proofs.YtggegpiffjbngaaGreat
namespace Go.Kx
open Go Go.RowKit
section
variable {P:Program} {σ:Env} {w:World} {d:Option Tmp} {ty:TypeId} {pos:String} {af:Array Edge} {g:Option (Nat×Bool)}
theorem BB7 {S:Nat->Prop} {t e:TypeId} {x y:Operand} {u:Value} {s:List Nat} (ht:P.underlying t=some (.slice e)) (hi:infoOf P e=some (.int .u32 0,1,4)) (hx:ev σ x=some (.slice none 0 0)) (hy:ev σ y=some u)
  (hs:eW.R S w u s) (hl2:s.length<=1000000000000) :
  Gv P ⟨d,.call { callee:=.builtin .append,args:=#[x,y],argTypes:=#[t,t] },ty,pos,af,g⟩ σ w fun v' w'=>OwnW e w.heap.size w' v' s/\Ext w w':=by
 have hds:dig s:=E6 hs
 have hown:OwnW e w.heap.size w (.slice none 0 0) []:=⟨⟨rfl,.inl ⟨rfl,rfl⟩⟩,fun x hx=>by cases hx⟩
 obtain ⟨es,he,a,c,rfl,hc,_,hcl,hcells⟩:=hs
 have hes:es=s.map wv:=by
  apply List.ext_getElem?
  intro i
  rw [List.getElem?_map]
  cases hi:s[i]? with
  | none=>rw [List.getElem?_eq_none (by rw [he.1];exact List.getElem?_eq_none_iff.1 hi)];rfl
  | some z =>
   have hlt:i<s.length:=(List.getElem?_eq_some_iff.1 hi).1
   have hee:=List.getElem?_eq_getElem (show i<es.length by rw [he.1];exact hlt)
   obtain ⟨h1,_⟩:=he.2 i _ z hee hi
   rw [hee,h1];rfl
 subst hes
 rw [F1 wv (fun _=>rfl)] at hcells hcl
 have hone:∀ u∈s.map wv,one1 u=true:=by
  intro u hu
  obtain ⟨z,_,rfl⟩:=List.mem_map.1 hu
  rfl
 cases a with
 | some ad =>
  have hcell:∀ j u,(s.map wv)[j]?=some u->w.cell? (ad.add j)=some u:=by
   intro j u hu
   have hpos:0<s.length:=by
    cases s with
    | nil=>simp at hu
    | cons z s=>simp
   obtain ⟨ad',h1,_,h2⟩:=hcells hpos
   cases h1
   exact (h2 j u hu).1
  exact (Ac3 (s.map wv) ht hi O (by decide) hx hy hown.1 (by simp) hcell hone (by simp;omega) (by simp;omega) (Nat.le_refl _)).mono fun v' w' ⟨h1,h2⟩=>⟨⟨by simpa using h1,hds⟩,hown.below h2 (Below.refl _ _) (Nat.le_refl _)⟩
 | none =>
  have h0:s=[]:=by
   cases s with
   | nil=>rfl
   | cons z s=>obtain ⟨ad,h1,_⟩:=hcells (by simp);cases h1
  subst h0
  refine (BM4 ht hi hx hy hown.1).gv.mono fun v' w' ⟨h1,h2⟩=>?_
  subst h1;subst h2
  exact ⟨hown,Below.refl _ _⟩
end
end Go.Kx
namespace Go.Proofs.YtggegpiffjbngaaGreat
open Go Go.Kx Go.RowKit
end Go.Proofs.YtggegpiffjbngaaGreat
namespace Go.Kx
end Go.Kx
namespace Go.Proofs.YtggegpiffjbngaaGreat
open Go Go.Kx Go.RowKit
end Go.Proofs.YtggegpiffjbngaaGreat
namespace Go.Kx
open Go Go.RowKit
end Go.Kx
namespace Go.Proofs.YtggegpiffjbngaaGreat
open Go Go.Kx Go.RowKit
section
variable {W W':World} {v va vb:Value} {n c n' c' L L':Nat} {a b m:List (List QV)} {x y:List QV}
theorem upT {W:World}:Up (fun _=>True) W:=fun _ _=>trivial
end
theorem bsl_M2 {a a':Option Addr} {n c n' c':Nat}:bslOf Tryz.prog 28 2 [(0,.slice a n c),(1,.slice a' n' c')]=some (32,#[.slice a n c,.slice a' n' c']):=by kernel_rfl
theorem Ax0 {α:Type} {E:ER α} {hsz:0<E.sz} {S:Nat->Prop} {w w':World} {b:Nat} {t:TypeId} {cs:Array Value} {n:Nat} (vs:List Value) (ls:List (List α)) (hn:New w w' b t cs) (up:Up S w) (hcs:cs=vs.toArray) (hl:ls.length=n) (hm:n<=1000) (h:Els (RL E hsz) S w vs ls) :
  (RL (RL E hsz) (show 0<1 by decide)).R S w' (.slice (some ⟨b,0,none⟩) n n) ls:=by
 subst hl
 refine RL.ofBlk (es:=vs) hn.2.1 (up b (by have:=hn.2.2.1;omega)) (h.ext hn.1) (fun j u hu=>?_) (Nat.le_refl _) (by omega)
 rw [hcs]
 have hv:∀ v∈vs,v.cells=#[v]:=by
  intro v hv
  obtain ⟨i,hi⟩:=List.mem_iff_getElem?.1 hv
  have hlt:=Ak3 hi
  obtain ⟨a,c,rfl,_⟩:=RL.len (h.2 i v _ hi (List.getElem?_eq_getElem (by rw [<-h.1];exact hlt)))
  rfl
 have:cellsOf vs=vs:=by
  clear h hcs hu
  induction vs with
  | nil=>rfl
  | cons v vs ih=>rw [cellsOf,List.flatMap_cons,hv v (by simp),<-cellsOf,ih fun u hu=>hv u (by simp [hu])];rfl
 rw [this] at hu
 simpa using hu
theorem Ae5:Ent Tryz.prog 86:=A0 Tryz.func86 (by kernel_rfl) rfl
theorem Ab7 {S:Nat->Prop} {w:World} {n d:Int} (up:Up S w) (hn : -9223372036854775808<=n/\n<=9223372036854775807) (hd:0<d/\d<=9223372036854775807):CR Tryz.prog 86 #[.int .i64 n,.int .i64 d] w (eQ.at S (qc (Rat.divInt n d))):=by
 refine enter Tryz.func86 O Tryz.ntmps86 O ?_
 refine .sr (.alloc O C7 fun w1 b4 n1=>.nil (.sr (.mv O O ?_)))
 obtain ⟨e1,k4,hb4,hs1⟩:=n1
 have hS4:¬ Sx S w.heap.size w1.heap.size b4:=Sx.no (by omega) (by omega)
 have up1:Up (Sx S w.heap.size w1.heap.size) w1:=Sx.up up (Nat.le_refl _) e1.size
 refine .call _ O V5 O (U6 up1 hn.1 hn.2) fun v2 w2 e2 h2=>.mv O O ?_
 refine .call _ O V5 O (U6 (up1.ext e2.size) (by omega) hd.2) fun v3 w3 e3 h3=>?_
 obtain ⟨s,rfl,hs⟩:=ER.ext eZ h2 e3
 obtain ⟨t,rfl,ht⟩:=h3
 refine .bld _ O O AN7 ?_
 have hq:eQ.R (Sx S w.heap.size w1.heap.size) w3 (.agg #[.bool (zc n).neg,s,.bool (zc d).neg,t]) ⟨zc n,zc d⟩:=⟨s,t,rfl,hs,ht⟩
 have hok:qok 2 ⟨zc n,zc d⟩:=⟨M6 (by omega),M6 (by omega)⟩
 have hv:qval ⟨zc n,zc d⟩=Rat.divInt n d:=by
  unfold qval pn pd
  simp only [A9]
  rw [if_neg (by omega),if_neg (by omega),if_neg (by omega)]
 refine .call _ O AL1 O (AK3 (up1.ext (e2.trans e3).size) hq hok (by decide) (by decide)) fun v4 w4 e4 h4=>?_
 rw [hv] at h4
 refine .storeA (E:=eQ) ty_Q O O (((k4.ext e2).ext e3).ext e4) O O h4 hS4 fun w5 k5 u5 h5=>.nil (.ret ?_)
 exact .cell Tryz.results86 O ty_Q O O k5 h5 ⟨u5.below (((e1.trans e2).trans e3).trans e4) (by omega),h5.out⟩
section
variable {m:List (List QV)} {b:List QV}
theorem rm_aug (i k:Nat):rm (augM m b) i k=if i<max m.length b.length/\k<colsOf m+1 then augF m b i k else 0:=Aj6 ..
theorem Ai8 (h:0<max m.length b.length):colsOf (augM m b)=colsOf m+1:=by rw [Ae2,if_neg (by omega)]
theorem BC3 (h:0<max m.length b.length):Ech (max m.length b.length) (colsOf m+1) (redF (augM m b)) (redP (augM m b)):=by
 have:=Y6 (augM m b)
 rwa [AJ8,Ai8 h] at this
theorem Az9 (m:List (List QV)):Req m.length (colsOf m) (rm m) (redF m):=AR0 _ _ _ _
theorem BC2 (h:0<max m.length b.length):Req (max m.length b.length) (colsOf m+1) (augF m b) (redF (augM m b)):=by
 have:=Az9 (augM m b)
 rw [AJ8,Ai8 h] at this
 have e:∀ i k,i<max m.length b.length->k<colsOf m+1->augF m b i k=rm (augM m b) i k:=fun i k hi hk=>by rw [rm_aug,if_pos ⟨hi,hk⟩]
 exact ⟨fun i hi=>(this.1 i hi).of_eq e,fun i hi=>(this.2 i hi).congr fun k hk=>e i k hi hk⟩
theorem aug_nil (h:max m.length b.length=0):redP (augM m b)=[]:=by
 have:=(Y6 (augM m b)).len
 rw [AJ8] at this
 exact List.length_eq_zero_iff.1 (by omega)
theorem As0 {i k:Nat} (h:k<colsOf m):augF m b i k=rm m i k:=by unfold augF;rw [if_pos h]
theorem Ai9 {i:Nat}:augF m b i (colsOf m)=rv b i:=by unfold augF;rw [if_neg (Nat.lt_irrefl _)]
theorem rv_solX (k:Nat):rv (solX m b) k=if k<colsOf m then partF (redF (augM m b)) (redP (augM m b)) (colsOf m) k else 0:=O9 ..
theorem rv_big {i:Nat} (h:max m.length b.length<=i):rv b i=0:=AM4 (by omega)
theorem rm_big {i k:Nat} (h:max m.length b.length<=i):rm m i k=0:=Av2 (by omega)
theorem sol_eq (hs:solvable m b) (i:Nat):sumN (colsOf m) (fun k=>rm m i k*rv (solX m b) k)=rv b i:=by
 rcases Nat.lt_or_ge i (max m.length b.length) with hi | hi
 ·have h0:0<max m.length b.length:=by omega
  have:=sol_of (BC3 h0) (BC2 h0) (fun j hj e=>hs (e▸P7 hj)) i hi
  rw [Ai9] at this
  rw [<-this]
  exact A4 fun k hk=>by rw [rv_solX,if_pos hk,As0 hk]
 ·rw [rv_big hi,F7 fun k _=>by rw [rm_big hi,Rat.zero_mul]]
theorem solv_of {y:Nat->Rat} (hy:∀ i,sumN (colsOf m) (fun k=>rm m i k*y k)=rv b i):solvable m b:=by
 intro hC
 by_cases h0:max m.length b.length=0
 ·rw [aug_nil h0] at hC;cases hC
 ·have h0:0<max m.length b.length:=by omega
  obtain ⟨j,hj,hjC⟩:=AW2 hC
  obtain ⟨t,ht1,ht2⟩:=no_sol (BC3 h0) (BC2 h0) hj hjC
  have:=sol_no (A:=augF m b) (x:=y) (fun i _=>by
   rw [Ai9,<-hy i]
   exact A4 fun k hk=>by rw [As0 hk]) ht1
  rw [this] at ht2
  exact absurd ht2 (by decide)
theorem AW0:(nullM m).length=(freeC m).length:=by unfold nullM;simp
theorem BE5 (m:List (List QV)):(nullM m).length+(redP m).length=colsOf m:=by rw [AW0];exact (Y6 m).free_len
theorem BE7 {k:Nat}:k∈freeC m<->k<colsOf m/\k∉redP m:=by
 unfold freeC freeTo
 rw [List.mem_filter,List.mem_range]
 simp
theorem BE8 {i:Nat} (hi:i<(freeC m).length):(freeC m).getD i 0<colsOf m/\(freeC m).getD i 0∉redP m:=BE7.1 (P7 hi)
theorem not_piv {p:List Nat} {k:Nat} (h:k∉p):∀ j,j<p.length->p.getD j 0≠k:=fun _ hj e=>h (e▸P7 hj)
theorem BD5 {k:Nat} (hk:k<colsOf m) (i:Nat):sumN (colsOf m) (fun c=>rm m i c*nv (redF m) (redP m) k c)=0:=by
 rcases Nat.lt_or_ge i m.length with hi | hi
 ·exact Spn.dot0 ((Az9 m).2 i hi) fun j hj=>nv_null (Y6 m) hk hj
 ·exact F7 fun c _=>by rw [Av2 hi,Rat.zero_mul]
end
theorem rsz1 {L:Nat} (hL:1<=L):Rsz 1 L:=by
 have:=Rsz.int 1 (L:=L) (Nat.lt_of_lt_of_le (by decide) (Nat.pow_le_pow_right (by decide) hL)) hL
 simpa using this
section
variable {m:List (List QV)} {b:List QV}
theorem inv_p (hc:colsOf m=m.length):(invE m).2=redP m:=by
 unfold invE redP
 rw [hc]
 exact (Ar1 (C:=m.length) (fun i k _ hk=>by unfold invF;rw [if_pos hk]) _ (Nat.le_refl _)).2
theorem BL4 (hc:colsOf m=m.length):invertible m<->(redP m).length=m.length:=by
 unfold invertible
 rw [inv_p hc]
 have:=(Y6 m).len
 omega
theorem BB3 (h:invertible m) {i k:Nat} (hi:i<m.length) (hk:k<m.length):(invE m).1 i k=idR i k:=by
 have he:Ech m.length m.length (invE m).1 (invE m).2:=S7 ..
 have hl:(invE m).2.length=m.length:=by have:=he.len;unfold invertible at h;omega
 have:=he.one i k hi (by omega)
 rw [he.full hl k hk] at this
 exact this
theorem BI9 {i k:Nat} (hi:i<m.length) (hk:k<m.length):rm (invM m) i k=(invE m).1 i (m.length+k):=by
 unfold invM
 rw [Aj6,if_pos ⟨hi,hk⟩]
theorem BB5 {i k:Nat}:invF m i (m.length+k)=idR i k:=by
 unfold invF
 rw [if_neg (by omega),Nat.add_sub_cancel_left]
theorem BB4 {i k:Nat} (h:k<m.length):invF m i k=rm m i k:=by unfold invF;rw [if_pos h]
theorem BI4 {n:Nat} (t:Nat->Rat) {k:Nat} (hk:k<n):sumN n (fun j=>t j*idR j k)=t k:=by
 rw [G3 (i:=k) (fun j hj hne=>by unfold idR;rw [if_neg hne,Rat.mul_zero]),if_pos hk]
 unfold idR
 rw [if_pos rfl,Rat.mul_one]
theorem Ai1 (h:invertible m) {i k:Nat} (hi:i<m.length) (hk:k<m.length):sumN m.length (fun j=>rm m i j*rm (invM m) j k)=idR i k:=by
 obtain ⟨t,ht⟩:=(AR0 m.length (m.length+m.length) (invF m) m.length).2 i hi
 have h1:∀ j,j<m.length->rm m i j=t j:=fun j hj=>by
  have:=ht j (by omega)
  rw [BB4 hj] at this
  rw [this,<-BI4 t hj]
  exact A4 fun l hl=>by rw [<-BB3 h hl hj];rfl
 have h2:=ht (m.length+k) (by omega)
 rw [BB5] at h2
 rw [h2]
 exact A4 fun j hj=>by rw [h1 j hj,BI9 hj hk];rfl
theorem BL5 (h:invertible m) {i k:Nat} (hi:i<m.length) (hk:k<m.length):sumN m.length (fun j=>rm (invM m) i j*rm m j k)=idR i k:=by
 obtain ⟨t,ht⟩:=(AR0 m.length (m.length+m.length) (invF m) m.length).1 i hi
 have h1:∀ j,j<m.length->rm (invM m) i j=t j:=fun j hj=>by
  have:=ht (m.length+j) (by omega)
  rw [BI9 hi hj]
  refine Eq.trans this ?_
  rw [<-BI4 t hj]
  exact A4 fun l hl=>by rw [BB5]
 have h2:=ht k (by omega)
 rw [<-BB3 h hi hk]
 refine Eq.trans ?_ h2.symm
 exact A4 fun j hj=>by rw [h1 j hj,BB4 hk]
theorem inv_rsz {L n:Nat} (hk:mk_ L m) (hL:1<=L) (hn:m.length<=n):mk_ (bd L n) (invM m):=by
 refine Ak1 fun i k hi hk'=>?_
 have h1:=AQ9 (C:=m.length+m.length) (f:=invF m) hL (fun i k _ _=>by
  unfold invF
  split
  ·exact hk.rsz hL i k
  ·unfold idR
   split
   ·exact rsz1 hL
   ·exact Rsz.zero hL) m.length (by omega) i (m.length+k) hi (by omega)
 exact h1.mono (AE6 L (Nat.le_trans (S7 m.length (invF m) m.length).len hn))
theorem BL3 (hc:colsOf m=m.length) (h:invertible m) (hb:∀ i,m.length<=i->rv b i=0):solvable m b:=by
 refine solv_of (y:=fun k=>sumN m.length fun j=>rm (invM m) k j*rv b j) fun i=>?_
 rw [hc]
 rcases Nat.lt_or_ge i m.length with hi | hi
 ·have h1:sumN m.length (fun k=>rm m i k*sumN m.length fun j=>rm (invM m) k j*rv b j)=sumN m.length fun j=>idR i j*rv b j:=by
   rw [A4 (g:=fun k=>sumN m.length fun j=>rm m i k*rm (invM m) k j*rv b j) fun k _=>by rw [<-O7];exact A4 fun j _=>by rw [Rat.mul_assoc]]
   rw [N8]
   exact A4 fun j hj=>by rw [Q7,Ai1 h hi hj]
  rw [h1,G3 (i:=i) (fun j hj hne=>by unfold idR;rw [if_neg (fun e=>hne e.symm),Rat.zero_mul]),if_pos hi]
  unfold idR
  rw [if_pos rfl,Rat.one_mul]
 ·rw [hb i hi]
  exact F7 fun k _=>by rw [Av2 hi,Rat.zero_mul]
theorem inv_sol (hc:colsOf m=m.length) (h:invertible m) (hs:solvable m b) {i:Nat} (hi:i<m.length):sumN m.length (fun j=>rm (invM m) i j*rv b j)=rv (solX m b) i:=by
 rw [A4 (g:=fun j=>sumN m.length fun k=>rm (invM m) i j*rm m j k*rv (solX m b) k) fun j _=>by rw [<-sol_eq hs j,hc,<-O7];exact A4 fun k _=>by rw [Rat.mul_assoc]]
 rw [N8,A4 (g:=fun k=>idR i k*rv (solX m b) k) fun k hk=>by rw [Q7,BL5 h hi hk]]
 rw [G3 (i:=i) (fun j hj hne=>by unfold idR;rw [if_neg (fun e=>hne e.symm),Rat.zero_mul]),if_pos hi]
 unfold idR
 rw [if_pos rfl,Rat.one_mul]
end
theorem L3 (p:List Nat) (i:Nat):freeTo p (i+1)=freeTo p i++if i∈p then [] else [i]:=by
 unfold freeTo
 rw [List.range_succ,List.filter_append]
 by_cases h:i∈p<;>simp [h]
theorem Ac5 (p:List Nat) (i:Nat):∀ d,∃ t,freeTo p (i+d)=freeTo p i++t
 | 0=>⟨[],(List.append_nil _).symm⟩
 | d+1=>by
  obtain ⟨t,ht⟩:=Ac5 p i d
  exact ⟨t++if i+d∈p then [] else [i+d],by rw [<-Nat.add_assoc,L3,ht,List.append_assoc]⟩
theorem BE6 {p:List Nat} {i C:Nat} (hi:i<C) (hp:i∉p):(freeTo p C).getD (freeTo p i).length 0=i/\(freeTo p i).length<(freeTo p C).length:=by
 obtain ⟨t,ht⟩:=Ac5 p (i+1) (C-(i+1))
 rw [show i+1+(C-(i+1))=C by omega,L3,if_neg hp] at ht
 rw [ht]
 constructor
 ·simp [List.getD_eq_getElem?_getD]
 ·simp
section
variable {m:List (List QV)} {b z:List QV}
end
end Go.Proofs.YtggegpiffjbngaaGreat
namespace Go.Kx
open Go Go.RowKit
def oN (o:List Int):List Nat:=o.map Int.toNat
def inL (n:NtV) (o:List Int):List Nat:=freeTo (oN o) n.ls.length
theorem AT4 {n:NtV} {o:List Int} (h:outsOk n o):∀ d i,i+d<o.length->o.getD i 0+d<=o.getD (i+d) 0
 | 0,i,_=>by simp
 | d+1,i,hd=>by
  have h1:=AT4 h d i (by omega)
  have h2:=(h (i+(d+1)) hd).2.2 (by omega)
  rw [show i+(d+1)-1=i+d by omega] at h2
  omega
theorem Ak2 {n:NtV} {o:List Int} (h:outsOk n o) {k:Nat}:k∈oN o<->∃ i,i<o.length/\o.getD i 0=k:=by
 unfold oN
 rw [List.mem_map]
 constructor
 ·rintro ⟨x,hx,rfl⟩
  obtain ⟨i,hi⟩:=List.mem_iff_getElem?.1 hx
  have hlt:=(List.getElem?_eq_some_iff.1 hi).1
  have e:o.getD i 0=x:=by rw [List.getD_eq_getElem?_getD,hi];rfl
  have:=h i hlt
  exact ⟨i,hlt,by omega⟩
 ·rintro ⟨i,hi,e⟩
  exact ⟨o.getD i 0,by rw [List.getD_eq_getElem?_getD,List.getElem?_eq_getElem hi];exact List.getElem_mem hi,by omega⟩
end Go.Kx
namespace Go.Proofs.YtggegpiffjbngaaGreat
open Go Go.Kx Go.RowKit
theorem Ap8 {n:NtV} {o:List Int} (h:chkE n≠0):outE n o=chkE n:=by unfold outE;rw [if_pos h]
theorem BA1 {n:NtV} {o:List Int} (h:outE n o=0):chkE n=0/\outsOk n o:=by
 unfold outE at h
 split at h
 ·exact absurd h (by assumption)
 ·split at h
  ·exact ⟨Classical.not_not.1 (by assumption),by assumption⟩
  ·cases h
theorem BC0 {n:NtV} (h:chkE n=0):1<=n.b/\n.b<=6/\n.ls.length<=10/\chkOk n:=by
 unfold chkE at h
 split at h
 ·cases h
 ·split at h
  ·cases h
  ·split at h
   ·exact ⟨by omega,by omega,by omega,by assumption⟩
   ·cases h
theorem Ay3:Ent Tryz.prog 47:=A0 Tryz.func47 (by kernel_rfl) rfl
theorem Av8 {S:Nat->Prop} {w:World} {vn vo:Value} {n:NtV} {o:List Int} (hn:eN.R S w vn n) (ho:eI.R S w vo o):CR Tryz.prog 47 #[vn,vo] w (Is (.int .i64 (outE n o))):=by
 obtain ⟨s,rfl,hs,hb⟩:=hn
 have hn:eN.R S w (.agg #[.int .i64 n.b,s]) n:=⟨s,rfl,hs,hb⟩
 obtain ⟨_,_,_,_,hll⟩:=RL.len ho
 obtain ⟨_,_,_,_,hls⟩:=RL.len hs
 refine enter Tryz.func47 O Tryz.ntmps47 O ?_
 refine .sr (.box O O fun w1 b2 n1=>.an O O ?_)
 obtain ⟨e1,k2,hb2,hs1⟩:=n1
 refine .seq (.sr (.ldA ty_N O O k2 O ?_))
 refine .call _ O At7 O (Ap9 (hn.ext e1)) fun v2 w2 e2 h2=>.an O O ?_
 subst h2
 have x2:=e1.trans e2
 refine .sr (.mv O O ?_)
 by_cases hc:chkE n=0
 rotate_left
 ·refine .neqT O O O hc (.nil (.condT O (.sr (.mv O O (.an O O (.ret ?_))))))
  exact .plain [_] Tryz.results47 ⟨rfl,trivial⟩ ⟨x2,by rw [Ap8 hc];rfl⟩
 have hE:outsOk n o->outE n o=0:=fun h=>by unfold outE;rw [if_neg (by simpa using hc),if_pos h]
 have hE1:¬ outsOk n o->outE n o=1:=fun h=>by unfold outE;rw [if_neg (by simpa using hc),if_neg h]
 refine .neqF O O O hc (.nil (.condF O (.skip ?_)))
 have k2:=k2.ext e2
 have hs:=hs.ext x2
 have ho:=ho.ext x2
 refine .seq (.sr (.mv O O (.lenR un_I O O ho (.mv O O (.nil ?_)))))
 refine .block (.loop (α:=Nat) (fun i=>[(1,vo),(2,.pointer (some ⟨b2,0,none⟩)),(13,vo),(14,.int .i64 (o.length:Nat)),(15,.int .i64 (i:Nat))]) (fun i W=>W=w2/\i<=o.length/\∀ j,j<i->0<=o.getD j 0/\o.getD j 0<n.ls.length/\(0<j->o.getD (j-1) 0<o.getD j 0)) (fun i=>o.length-i) 0 ?_ ?_ ?_)
 ·exact lkA rfl
 ·exact ⟨rfl,Nat.zero_le _,fun j hj=>absurd hj (Nat.not_lt_zero _)⟩
 rintro i W ⟨rfl,hi,hall⟩
 refine .sr ?_
 rcases Nat.lt_or_ge i o.length with hlt | hge
 rotate_left
 ·refine .lssF O O O (by omega) (.nil (.seq (.condF O (.exit (.sr (.an O O (.ret ?_)))))))
  exact .plain [_] Tryz.results47 ⟨rfl,trivial⟩ ⟨x2,by rw [hE fun j hj=>hall j (by omega)];rfl⟩
 have hg:o[i]?=some (o.getD i 0):=A7 hlt
 refine .lssT O O O (by omega) (.nil (.seq (.condT O (.skip (.seq (.block (.sr (.mv O O (.ixN (i:=i) un_I C9 O O ho O hg fun q hq=>.ldE (E:=eInt .i64) C9 O O hq fun e he=>.asg O O (.an O O (.sr (.mv O O ?_))))))))))))
 obtain ⟨rfl,_⟩:=he
 have hbad:∀ {σ:Env},¬ (0<=o.getD i 0/\o.getD i 0<n.ls.length/\(0<i->o.getD (i-1) 0<o.getD i 0))->Leave Tryz.prog Tryz.f47 43 (fun v w'=>Ext w w'/\Is (.int .i64 (outE n o)) v w') ((4,.int .i64 1)::σ) [] W:=fun h=>.plain [_] Tryz.results47 ⟨rfl,trivial⟩ ⟨x2,by rw [hE1 fun h'=>h (h' i hlt)];rfl⟩
 by_cases h0:o.getD i 0<0
 ·refine .lssT O O O h0 (.mv O O (.gs O O O O O (.gs O O O O O (.gs O O O O O (.gs O O O O O (.gs O O O O O (.pick O O O (.mv O O (.gs O O O O O (.gs O O O O O (.gs O O O O O ?_)))))))))))
  refine .gu O O O O (.gu O O O O (.gu O O O O (.gu O O O O (.gu O O O O (.gu O O O O (.gu O O O O (.gs O O O O O (.pick O O O (.nil (.condT O (.sr (.an O O (.ret ?_)))))))))))))
  exact hbad (by omega)
 refine .lssF O O O (by omega) (.mv O O (.gr O O O O (.mv O O (.gr O O O O (.fa G5 O O (.gr O O O O (.ld J1 O O k2 O (.gr O O O O (.lenR I8 O O hs (.gr O O O O ?_))))))))))
 by_cases h1:(n.ls.length:Int)<=o.getD i 0
 ·refine .geqT O O O h1 (.pick O O O (.mv O O (.gs O O O O O (.gs O O O O O (.gs O O O O O ?_)))))
  refine .gu O O O O (.gu O O O O (.gu O O O O (.gu O O O O (.gu O O O O (.gu O O O O (.gu O O O O (.gs O O O O O (.pick O O O (.nil (.condT O (.sr (.an O O (.ret ?_)))))))))))))
  exact hbad (by omega)
 refine .geqF O O O (by omega) (.pick O O O (.mv O O (.gr O O O O (.mv O O (.gr O O O O ?_)))))
 have hnext:∀ {σ:Env},(0<i->o.getD (i-1) 0<o.getD i 0)->Kx.look σ 1=some vo->Kx.look σ 2=some (.pointer (some ⟨b2,0,none⟩))->Kx.look σ 13=some vo->Kx.look σ 14=some (.int .i64 (o.length:Nat))->∃ i':Nat,(∀ t v,Kx.look [(1,vo),(2,.pointer (some ⟨b2,0,none⟩)),(13,vo),(14,.int .i64 (o.length:Nat)),(15,.int .i64 (i':Nat))] t=some v->Kx.look ((15,.int .i64 ((i:Int)+1))::σ) t=some v)/\(W=W/\i'<=o.length/\∀ j,j<i'->0<=o.getD j 0/\o.getD j 0<n.ls.length/\(0<j->o.getD (j-1) 0<o.getD j 0))/\o.length-i'<o.length-i:=by
  intro σ hlast a1 a2 a3 a4
  refine ⟨i+1,A8 a1 (A8 a2 (A8 a3 (A8 a4 (lkA O)))),⟨rfl,hlt,fun j hj=>?_⟩,by omega⟩
  by_cases e:j=i
  ·subst e;exact ⟨by omega,by omega,hlast⟩
  ·exact hall j (by omega)
 by_cases hi0:0<i
 ·have hg':o[i-1]?=some (o.getD (i-1) 0):=A7 (by omega)
  refine .gtrT O O O (by omega) (.gr O O O O (.mv O O (.gr O O O O (.mv O O (.gr O O O O (.mv O O (.gr O O O O (.mv O O (.gr O O O O (.sub O O O ?_))))))))))
  rw [wI (by omega),show (i:Int)-1=((i-1:Nat):Int) by omega]
  refine .gr O O O O (.ixN (i:=i-1) un_I C9 O O ho O hg' fun q hq=>.gr O O O O (.ldE (E:=eInt .i64) C9 O O hq fun e he=>?_))
  obtain ⟨rfl,_⟩:=he
  by_cases hle:o.getD i 0<=o.getD (i-1) 0
  ·refine .gr O O O O (.leqT O O O hle (.gr O O O O (.pick O O O (.pick O O O (.nil (.condT O (.sr (.an O O (.ret ?_)))))))))
   exact hbad (fun h=>by have:=h.2.2 hi0;omega)
  ·refine .gr O O O O (.leqF O O O (by omega) (.gr O O O O (.pick O O O (.pick O O O (.nil (.condF O (.skip (.region (.add O O O (.mv O O (.nil ?_)))))))))))
   rw [wI (by omega)]
   exact ⟨rfl,hnext (fun _=>by omega) O O O rfl⟩
 ·refine .gtrF O O O (by omega) (.gr O O O O (.mv O O (.gs O O O O O (.gs O O O O O (.gs O O O O O (.gs O O O O O (.gs O O O O O (.gs O O O O O (.gs O O O O O (.gr O O O O (.pick O O O (.pick O O O (.nil (.condF O (.skip (.region (.add O O O (.mv O O (.nil ?_)))))))))))))))))))
  rw [wI (by omega)]
  exact ⟨rfl,hnext (fun h=>absurd h hi0) O O O rfl⟩
theorem AY4:Ent Tryz.prog 132:=A0 Tryz.func132 (by kernel_rfl) rfl
theorem AX9 {w:World} {vn vo:Value} {x y:Value} (hn:vn=.agg #[x,y]) {a:Option Addr} {m c:Nat} (ho:vo=.slice a m c):CR Tryz.prog 132 #[vn,vo] w (fun v w'=>∃ b1 b2,v=.func (.func 185) #[] #[.pointer (some ⟨b1,0,none⟩),.pointer (some ⟨b2,0,none⟩)] /\
  Blk w' b1 24 #[x,y]/\Blk w' b2 25 #[vo]/\w.heap.size<=b1/\w.heap.size<=b2):=by
 subst hn;subst ho
 refine enter Tryz.func132 O Tryz.ntmps132 O ?_
 refine .sr (.box O O fun w1 b1 n1=>.box O O fun w2 b2 n2=>.an O O ?_)
 obtain ⟨e1,k1,hb1,hs1⟩:=n1
 obtain ⟨e2,k2,hb2,hs2⟩:=n2
 refine .sr (.mkf [] [_,_] O O O O (.an O O (.ret ?_)))
 exact .plain [_] Tryz.results132 ⟨rfl,trivial⟩ ⟨e1.trans e2,b1,b2,rfl,k1.ext e2,k2,by omega,by have:=e1.size;omega⟩
theorem BN9:Ent Tryz.prog 185:=A0 Tryz.func185 (by kernel_rfl) rfl
theorem BL6 {S:Nat->Prop} {n:NtV} {o:List Int} {s vo x:Value} {b1 b2:Nat} (hok:outsOk n o) (hl:n.ls.length<=10):Iter Tryz.prog 185 #[.pointer (some ⟨b1,0,none⟩),.pointer (some ⟨b2,0,none⟩)] (inL n o).length
  (fun k=>[.int .i64 ((inL n o).getD k 0:Nat)]) (fun W=>Blk W b1 24 #[x,s]/\Blk W b2 25 #[vo]/\eLs.R S W s n.ls/\eI.R S W vo o):=by
 intro l J X stJ stX hF hy W hJ
 have hF0:=hF 0 W hJ
 refine enterG Tryz.func185 O Tryz.ntmps185 O ?_
 refine .sr (.an O O (.sr (.fa G5 O O (.ld J1 O O hF0.1 O (.lenR I8 O O hF0.2.2.1 (.mv O O (.nil ?_)))))))
 refine .block (.loop (α:=Nat×Nat) (fun y=>[(9,.int .i64 (y.1:Nat)),(8,.int .i64 (n.ls.length:Nat)),(4,.int .i64 (y.2:Nat)),(0,.func (.yield l) #[] #[]),(1,.pointer (some ⟨b1,0,none⟩)),(2,.pointer (some ⟨b2,0,none⟩))])
  (fun y W=>J (freeTo (oN o) y.1).length W/\y.1<=n.ls.length/\y.2<=o.length/\(∀ i,i<y.2->o.getD i 0<y.1)/\(y.2<o.length->(y.1:Int)<=o.getD y.2 0)) (fun y=>n.ls.length-y.1) (0,0) ?_ ?_ ?_)
 ·exact lkA rfl
 ·exact ⟨hJ,Nat.zero_le _,Nat.zero_le _,fun i hi=>absurd hi (Nat.not_lt_zero _),fun h=>(hok 0 h).1⟩
 rintro ⟨k,nx⟩ W ⟨hJ,hk,hnx,hlo,hhi⟩
 replace hJ:J (freeTo (oN o) k).length W:=hJ
 replace hk:k<=n.ls.length:=hk
 replace hnx:nx<=o.length:=hnx
 replace hlo:∀ i,i<nx->o.getD i 0<k:=hlo
 replace hhi:nx<o.length->(k:Int)<=o.getD nx 0:=hhi
 obtain ⟨hB1,hB2,hA,hB⟩:=hF _ W hJ
 obtain ⟨_,_,_,_,hll⟩:=RL.len hB
 refine .sr ?_
 rcases Nat.lt_or_ge k n.ls.length with hlt | hge
 rotate_left
 ·refine .lssF O O O (by omega) (.nil (.seq (.condF O (.exit ?_))))
  refine .plain [] Tryz.results185 trivial ?_
  have:k=n.ls.length:=by omega
  subst this;exact .inl hJ
 refine .lssT O O O (by omega) (.nil (.seq (.condT O (.skip (.seq (.block (.sr (.mv O O (.an O O ?_)))))))))
 refine .mid (α:=Unit) (fun _=>[(9,.int .i64 (k:Nat)),(8,.int .i64 (n.ls.length:Nat)),(4,.int .i64 (nx:Nat)),(5,.int .i64 (k:Nat)),(0,.func (.yield l) #[] #[]),(1,.pointer (some ⟨b1,0,none⟩)),(2,.pointer (some ⟨b2,0,none⟩))]) (fun _ W'=>W'=W/\k∉oN o) ?_ ?_
 ·refine .sr (.mv O O (.ld ty_I O O hB2 O (.lenR un_I O O hB ?_)))
  rcases Nat.lt_or_ge nx o.length with hn1 | hn1
  ·have hg:o[nx]?=some (o.getD nx 0):=A7 hn1
   refine .lssT O O O (by omega) (.mv O O (.gr O O O O (.ld ty_I O O hB2 O (.gr O O O O (.mv O O (.gr O O O O (.ixN (i:=nx) un_I C9 O O hB O hg fun q hq=>.gr O O O O (.ldE (E:=eInt .i64) C9 O O hq fun e he=>.gr O O O O (.mv O O (.gr O O O O ?_))))))))))
   obtain ⟨rfl,_⟩:=he
   have:=hhi hn1
   by_cases he:o.getD nx 0=k
   ·refine .eqlT O O O he (.pick O O O (.nil (.condT O (.sr (.mv O O (.add O O O (.an O O (.exit (.region (.add O O O (.mv O O (.nil ?_))))))))))))
    rw [wI (by omega),wI (by omega)]
    refine ⟨rfl,(k+1,nx+1),lkA rfl,⟨?_,hlt,hn1,fun i hi=>?_,fun h=>?_⟩,by show n.ls.length-(k+1)<n.ls.length-k;omega⟩
    ·show J (freeTo (oN o) (k+1)).length W
     rw [L3,if_pos ((Ak2 hok).2 ⟨nx,hn1,he⟩),List.append_nil]
     exact hJ
    ·show o.getD i 0<((k+1:Nat):Int)
     by_cases e:i=nx
     ·subst e;omega
     ·have:=hlo i (by have:i<nx+1:=hi;omega);omega
    ·show ((k+1:Nat):Int)<=o.getD (nx+1) 0
     have:=AT4 hok 1 nx h
     omega
   ·refine .eqlF O O O he (.pick O O O (.nil (.condF O (.skip ?_))))
    refine ⟨rfl,(),lkA rfl,rfl,fun hm=>?_⟩
    obtain ⟨i,hi,e⟩:=(Ak2 hok).1 hm
    rcases Nat.lt_or_ge i nx with h | h
    ·have:=hlo i h;omega
    ·have:=AT4 hok (i-nx) nx (by omega)
     rw [show nx+(i-nx)=i by omega] at this
     omega
  ·refine .lssF O O O (by omega) (.mv O O (.gs O O O O O (.gs O O O O O (.gs O O O O O (.gs O O O O O (.gs O O O O O (.gs O O O O O (.pick O O O (.nil (.condF O (.skip ?_)))))))))))
   refine ⟨rfl,(),lkA rfl,rfl,fun hm=>?_⟩
   obtain ⟨i,hi,e⟩:=(Ak2 hok).1 hm
   have:=hlo i (by omega)
   omega
 rintro _ _ ⟨rfl,hno⟩
 obtain ⟨hat,hatl⟩:=BE6 (C:=n.ls.length) hlt hno
 have hy':=hy (freeTo (oN o) k).length _ hatl hJ
 dsimp only at hy'
 rw [show (inL n o).getD (freeTo (oN o) k).length 0=k from hat] at hy'
 refine .sr (.mv O O (.mv O O ?_))
 refine .yld (l:=l) [.int .i64 (k:Nat)] (R:=fun v w'=>(v=.bool true/\J ((freeTo (oN o) k).length+1) w')\/(v=.bool false/\X w')) O O O ?_ ?_
 ·refine YieldAt.mono hy' ?_
  rintro e W' (⟨rfl,h⟩ | ⟨rfl,h⟩)
  ·exact ⟨_,rfl,.inl ⟨rfl,h⟩⟩
  ·exact ⟨_,rfl,.inr ⟨rfl,h⟩⟩
 rintro v w' (⟨rfl,h⟩ | ⟨rfl,h⟩)
 ·refine .not_ O O (.nil (.condF O (.skip (.region (.add O O O (.mv O O (.nil ?_)))))))
  rw [wI (by omega)]
  refine ⟨rfl,(k+1,nx),lkA rfl,⟨?_,hlt,hnx,fun i hi=>?_,fun hn1=>?_⟩,by show n.ls.length-(k+1)<n.ls.length-k;omega⟩
  ·show J (freeTo (oN o) (k+1)).length w'
   rw [L3,if_neg hno,List.length_append]
   exact h
  ·show o.getD i 0<((k+1:Nat):Int)
   have:=hlo i hi;omega
  ·show ((k+1:Nat):Int)<=o.getD nx 0
   have h1:=hhi hn1
   have h2:o.getD nx 0≠k:=fun e=>hno ((Ak2 hok).2 ⟨nx,hn1,e⟩)
   omega
 ·refine .not_ O O (.nil (.condT O (.ret ?_)))
  exact .plain [] Tryz.results185 trivial (.inr h)
theorem Ai4 (p:List Nat) (i:Nat):(freeTo p i).length<=i:=by
 unfold freeTo
 have:=List.length_filter_le (fun k => !(decide (k∈p))) (List.range i)
 simpa using this
theorem AJ2 (n:NtV) (o:List Int):(inL n o).length<=n.ls.length:=Ai4 _ _
structure InJ (w:World) (S:Nat->Prop) (b7 b1 b2:Nat) (x s vo:Value) (n:NtV) (o:List Int) (k:Nat) (W:World):Prop where
 low:Below w.heap.size w W
 k1:Blk W b1 24 #[x,s]
 k2:Blk W b2 25 #[vo]
 acc:∃ v,Blk W b7 25 #[v]/\OwnL (eInt .i64) 3 w.heap.size (fun k=>S k/\k≠b7) W v (pInts ((inL n o).take k))
theorem InJ.sft {w0:World} {S:Nat->Prop} {b7 b1 b2:Nat} {x s vo:Value} {n:NtV} {o:List Int} {k D:Nat} {W W':World} (h:InJ w0 S b7 b1 b2 x s vo n o k W) (hs:Sft D W W') (hD:w0.heap.size<=D):InJ w0 S b7 b1 b2 x s vo n o k W':=by
 obtain ⟨v,h1,h2⟩:=h.acc
 exact ⟨h.low.trans (hs.below.mono hD),hs.cells.blk trivial h.k1,hs.cells.blk trivial h.k2,v,hs.cells.blk trivial h1,h2.kp hs.cells⟩
theorem BH0:zeroOf Tryz.prog 25=some (.slice none 0 0):=by kernel_rfl
theorem AI0:Ent Tryz.prog 70:=A0 Tryz.func70 (by kernel_rfl) rfl
theorem AG9 {S:Nat->Prop} {w:World} {vn vo:Value} {n:NtV} {o:List Int} (up:Up S w) (hn:eN.R S w vn n) (ho:eI.R S w vo o):CR Tryz.prog 70 #[vn,vo] w (Two (eI.at S (if outE n o=0 then pInts (inL n o) else [])) (Is (.int .i64 (outE n o)))):=by
 obtain ⟨s,rfl,hs,hb⟩:=hn
 have hn:eN.R S w (.agg #[.int .i64 n.b,s]) n:=⟨s,rfl,hs,hb⟩
 obtain ⟨ao,co,hvo,_⟩:=RL.len ho
 refine enter Tryz.func70 O Tryz.ntmps70 O ?_
 refine .sr (.box O O fun w1 b2 n1=>.asg O O (.an O O ?_))
 obtain ⟨e1,k2,hb2,hs1⟩:=n1
 refine .seq (.sr (.ldA ty_N O O k2 O (.mv O O ?_)))
 refine .call _ O Ay3 O (Av8 (hn.ext e1) (ho.ext e1)) fun v2 w2 e2 h2=>.an O O ?_
 subst h2
 have x2:=e1.trans e2
 refine .sr (.mv O O ?_)
 by_cases hE:outE n o=0
 rotate_left
 ·refine .neqT O O O hE (.nil (.condT O (.sr (.mv O O (.asg O O (.an O O (.ret ?_)))))))
  refine .plain [_,_] Tryz.results70 ⟨rfl,rfl,trivial⟩ ⟨x2,_,_,rfl,?_,rfl⟩
  rw [if_neg hE];exact RL.nil
 rw [if_pos hE]
 obtain ⟨hc,hok⟩:=BA1 hE
 obtain ⟨_,_,hl10,_⟩:=BC0 hc
 refine .neqF O O O hE (.nil (.condF O (.skip ?_)))
 refine .sr (.alloc O BH0 fun w3 b7 n3=>.nil ?_)
 obtain ⟨e3,k7,hb7,hs3⟩:=n3
 have x3:=x2.trans e3
 refine .seq (.sr (.ldA ty_N O O ((k2.ext e2).ext e3) O (.mv O O ?_)))
 refine .call _ O AY4 O (AX9 O hvo) fun v4 w4 e4 h4=>.nil ?_
 obtain ⟨p1,p2,rfl,kp1,kp2,hp1,hp2⟩:=h4
 have x4:=x3.trans e4
 have hs4:=e4.size
 have hs2:=e2.size
 have hsL:∀ {W:World},Below w.heap.size w W->eLs.R (fun k=>S k/\k<w.heap.size) W s n.ls:=fun hB=>eLs.keep (fun k c t f hk h=>(hB.block k hk.2).trans h) (ER.lt eLs hs)
 have hoL:∀ {W:World},Below w.heap.size w W->eI.R (fun k=>S k/\k<w.heap.size) W vo o:=fun hB=>eI.keep (fun k c t f hk h=>(hB.block k hk.2).trans h) (ER.lt eI ho)
 refine .block (.range (BL6 (S:=fun k=>S k/\k<w.heap.size) (n:=n) (o:=o) (s:=s) (vo:=vo) (x:=.int .i64 n.b) hok hl10) O BN9 (fun k=>rfl) (by decide)
  (InJ w S b7 p1 p2 (.int .i64 n.b) s vo n o) (fun _ _=>False) (fun k W W' h hs=>h.sft hs x4.size) (fun _ _ _ h _=>h.elim) (fun k W h=>⟨h.k1,h.k2,hsL h.low,hoL h.low⟩) ?_ ?_ ?_ (fun _ _ h=>h.elim))
 ·refine ⟨x4,kp1,kp2,_,k7.ext e4,?_⟩
  rw [List.take_zero];exact OwnL.nil
 ·intro l k W hk hJ
  refine .region (.an O O ⟨rfl,rfl,fun W hJ hsz=>?_⟩)
  obtain ⟨hlow,kp1,kp2,v,k7,hown⟩:=hJ
  have hlw:=hlow.size
  refine .block (.region (.ld ty_I O O k7 O (.mv O O (.bsl _ O O Ax5 fun W1 by_ ny=>?_))))
  obtain ⟨ey,ky,hby,hsy⟩:=ny
  have hlow1:=hlow.trans (ey.mono hlw)
  have hkl:=AJ2 n o
  refine .gv O O (AA5 (E:=eInt .i64) (base:=w.heap.size) (n:=(((inL n o).getD k 0:Nat):Int)) (e:=.int .i64 (((inL n o).getD k 0:Nat):Int)) (by decide) un_I Ab9 O O O (hown.ext ey) ky ⟨rfl,by
    have:(inL n o).getD k 0<n.ls.length:=by
     have hm:(inL n o).getD k 0∈inL n o:=P7 hk
     unfold inL freeTo at hm
     exact List.mem_range.1 (List.mem_filter.1 hm).1
    exact P5.2 (by omega)⟩ (by simp;omega) (by decide) hlow1.size) ?_
  rintro v8 W8 ⟨ho8,hg8⟩
  have hown1:=hown.ext ey
  have k78:=hown1.gblk hg8 (k7.ext ey) (by decide)
  have kp18:=hown1.gblk hg8 (kp1.ext ey) (by decide)
  have kp28:=hown1.gblk hg8 (kp2.ext ey) (by decide)
  have hlow8:=hown1.below hg8 hlow1 hlow1.size
  obtain ⟨a8,c8,hv8⟩:=ho8.slice
  refine .store ty_I O O k78 (by rw [hv8];rfl) (by simp) (by rw [hv8];simp [one1,Value.cells]) fun W9 k9 u9=>.nil ?_
  refine ⟨((Oth.ext ey).trans (hown1.oth hg8)).trans (Oth.upd u9 k78),u9.below hlow8 (by omega),kp18.upd u9 (by omega),kp28.upd u9 (by omega),v8,by rw [hv8] at k9 ⊢;exact k9,?_⟩
  have:=ho8.upd u9 k78 (by decide) (fun h=>h.2 O)
  have htk:pInts ((inL n o).take (k+1))=pInts ((inL n o).take k)++[(((inL n o).getD k 0:Nat):Int)]:=by
   unfold pInts
   rw [List.take_add_one,A7 (z:=0) hk,List.map_append]
   rfl
  rw [htk]
  exact this
 ·intro W hJ hD
  obtain ⟨hlow,kp1,kp2,v,k7,hown⟩:=hJ
  refine .sr (.ld ty_I O O k7 O (.asg O O (.an O O (.ret ?_))))
  refine .mark [_,_] Tryz.results70 hD ⟨rfl,rfl,trivial⟩ ⟨O0 hlow x4.size,_,_,rfl,?_,by rw [hE]⟩
  rw [List.take_of_length_le (Nat.le_refl _)] at hown
  exact (hown.kp (Kp.put hD O)).toR up (fun _ h=>h.1)
end Go.Proofs.YtggegpiffjbngaaGreat
namespace Go.Kx
def dl (a b:Nat):Rat:=if a=b then 1 else 0
theorem dl_self (a:Nat):dl a a=1:=if_pos rfl
theorem dl_ne {a b:Nat} (h:a≠b):dl a b=0:=if_neg h
theorem Ab1 {n a:Nat} (f:Nat->Rat) (h:a<n):sumN n (fun b=>f b*dl a b)=f a:=by
 rw [G3 (i:=a) (fun k _ hne=>by rw [dl_ne (Ne.symm hne),Rat.mul_zero]),if_pos h,dl_self,Rat.mul_one]
theorem rat_sq (x:Rat):0<=x*x:=by
 rcases Rat.le_total (a:=0) (b:=x) with h | h
 ·exact Rat.mul_nonneg h h
 ·have h2:0 <= -x:=by grind
  have:=Rat.mul_nonneg h2 h2
  grind
theorem rat_sq0 {x:Rat} (h:x*x=0):x=0:=by
 rcases Rat.mul_eq_zero.1 h with h | h<;>exact h
theorem Ao3 {n:Nat} {f:Nat->Rat} (h:∀ k,k<n->0<=f k):0<=sumN n f:=by
 induction n with
 | zero=>exact Rat.le_refl
 | succ n ih =>
  have h1:=ih fun k hk=>h k (by omega)
  have h2:=h n (by omega)
  unfold sumN
  grind
theorem sumN_le {n:Nat} {f g:Nat->Rat} (h:∀ k,k<n->f k<=g k):sumN n f<=sumN n g:=by
 have:=Ao3 (n:=n) (f:=fun k=>g k-f k) fun k hk=>by have:=h k hk;grind
 rw [AP0] at this
 grind
theorem BC8 {n:Nat} {f:Nat->Rat} (h:∀ k,k<n->0<=f k) {j:Nat} (hj:j<n):f j<=sumN n f:=by
 have h1:sumN n (fun k=>if k=j then f j else 0)=f j:=by
  rw [G3 (i:=j) (fun k _ hne=>if_neg hne),if_pos hj,if_pos rfl]
 rw [<-h1]
 refine sumN_le fun k hk=>?_
 have:=h k hk
 by_cases e:k=j
 ·subst e;rw [if_pos rfl];exact Rat.le_refl
 ·rw [if_neg e];exact this
theorem BC9 {n:Nat} {f:Nat->Rat} (h:∀ k,k<n->0<=f k) (h0:sumN n f=0) {j:Nat} (hj:j<n):f j=0:=by
 have h1:=BC8 h hj
 have h2:=h j hj
 rw [h0] at h1
 exact Rat.le_antisymm h1 h2
structure Nw where
 B:Nat
 M:Nat
 F:Nat->Nat
 T:Nat->Nat
 g:Nat->Rat
structure Nw.Ok (n:Nw):Prop where
 f:∀ k,k<n.M->n.F k<n.B
 t:∀ k,k<n.M->n.T k<n.B
 p:∀ k,k<n.M->0<=n.g k
namespace Nw
section
variable (n:Nw)
def inc (k b:Nat):Rat:=dl (n.F k) b-dl (n.T k) b
def fl (θ:Nat->Rat) (k:Nat):Rat:=n.g k*(θ (n.F k)-θ (n.T k))
def off (f:Nat->Rat) (b:Nat):Rat:=sumN n.M fun k=>n.inc k b*f k
def lap (θ:Nat->Rat) (b:Nat):Rat:=n.off (n.fl θ) b
def Lm (b c:Nat):Rat:=sumN n.M fun k=>n.g k*(n.inc k b*n.inc k c)
def clo (D:Nat->Prop):Prop:=∀ k,k<n.M->n.g k≠0->(D (n.F k)<->D (n.T k))
def rootTo:Nat->Nat->Nat
 | 0,b=>b
 | j+1,b=>if n.g j=0 then rootTo j b else if rootTo j b=max (rootTo j (n.F j)) (rootTo j (n.T j)) then min (rootTo j (n.F j)) (rootTo j (n.T j)) else rootTo j b
def root (b:Nat):Nat:=n.rootTo n.M b
def gm (b c:Nat):Rat:=if n.root b=b then dl b c else n.Lm b c
end
section
variable {n:Nw} {θ φ f:Nat->Rat}
theorem Az4 (ok:n.Ok) {k:Nat} (hk:k<n.M) (φ:Nat->Rat):sumN n.B (fun b=>φ b*n.inc k b)=φ (n.F k)-φ (n.T k):=by
 have e:sumN n.B (fun b=>φ b*n.inc k b)=sumN n.B (fun b=>φ b*dl (n.F k) b-φ b*dl (n.T k) b):=A4 fun b _=>by unfold inc;grind
 rw [e,AP0,Ab1 φ (ok.f k hk),Ab1 φ (ok.t k hk)]
theorem green (ok:n.Ok) (φ f:Nat->Rat):sumN n.B (fun b=>φ b*n.off f b)=sumN n.M fun k=>(φ (n.F k)-φ (n.T k))*f k:=by
 have e:sumN n.B (fun b=>φ b*n.off f b)=sumN n.B (fun b=>sumN n.M fun k=>φ b*n.inc k b*f k):=A4 fun b _=>by
  unfold off
  rw [<-O7]
  exact A4 fun k _=>by grind
 rw [e,N8]
 refine A4 fun k hk=>?_
 rw [Q7,Az4 ok hk]
theorem lap_sum (ok:n.Ok) (θ:Nat->Rat) (b:Nat):sumN n.B (fun c=>n.Lm b c*θ c)=n.lap θ b:=by
 have e:sumN n.B (fun c=>n.Lm b c*θ c)=sumN n.B (fun c=>sumN n.M fun k=>n.g k*n.inc k b*(θ c*n.inc k c)):=A4 fun c _=>by
  unfold Lm
  rw [<-Q7]
  exact A4 fun k _=>by grind
 rw [e,N8]
 unfold lap off
 refine A4 fun k hk=>?_
 rw [O7,Az4 ok hk]
 unfold fl
 grind
theorem rigid (ok:n.Ok) {D:Nat->Prop} (hD:n.clo D) (h:∀ b,b<n.B->D b->θ b*n.lap θ b=0):∀ k,k<n.M->n.g k≠0->D (n.F k)->θ (n.F k)=θ (n.T k):=by
 classical
 have e:=green ok (fun b=>if D b then θ b else 0) (n.fl θ)
 have e0:sumN n.B (fun b=>(if D b then θ b else 0)*n.off (n.fl θ) b)=0:=F7 fun b hb=>by
  by_cases hd:D b
  ·rw [if_pos hd];exact h b hb hd
  ·rw [if_neg hd,Rat.zero_mul]
 rw [e0] at e
 have hterm:∀ k,k<n.M->((if D (n.F k) then θ (n.F k) else 0)-(if D (n.T k) then θ (n.T k) else 0))*n.fl θ k=if D (n.F k) then n.g k*((θ (n.F k)-θ (n.T k))*(θ (n.F k)-θ (n.T k))) else 0:=by
  intro k hk
  by_cases hg:n.g k=0
  ·unfold fl
   rw [hg]
   split<;>grind
  ·have:=hD k hk hg
   by_cases hd:D (n.F k)
   ·rw [if_pos hd,if_pos (this.1 hd),if_pos hd]
    unfold fl
    grind
   ·rw [if_neg hd,if_neg (fun x=>hd (this.2 x)),if_neg hd]
    grind
 intro k hk hg hd
 have hn:∀ k,k<n.M->0<=((if D (n.F k) then θ (n.F k) else 0)-(if D (n.T k) then θ (n.T k) else 0))*n.fl θ k:=fun k hk=>by
  rw [hterm k hk]
  split
  ·exact Rat.mul_nonneg (ok.p k hk) (rat_sq _)
  ·exact Rat.le_refl
 have h0:=BC9 hn e.symm hk
 rw [hterm k hk,if_pos hd] at h0
 rcases Rat.mul_eq_zero.1 h0 with h0 | h0
 ·exact absurd h0 hg
 ·have:=rat_sq0 h0
  grind
theorem Az6 {θ:Nat->Rat}:∀ j,(∀ k,k<j->n.g k≠0->θ (n.F k)=θ (n.T k))->∀ b,θ (n.rootTo j b)=θ b
 | 0,_,b=>rfl
 | j+1,h,b=>by
  have ih:=Az6 j fun k hk=>h k (by omega)
  unfold rootTo
  split
  ·exact ih b
  ·rename_i hg
   split
   ·rename_i e
    have h1:=h j (by omega) hg
    have hF:=ih (n.F j)
    have hT:=ih (n.T j)
    have hb:=ih b
    have h2:θ (max (n.rootTo j (n.F j)) (n.rootTo j (n.T j)))=θ (n.F j):=by
     rcases Nat.le_total (n.rootTo j (n.F j)) (n.rootTo j (n.T j)) with h | h
     ·rw [Nat.max_eq_right h,hT,h1]
     ·rw [Nat.max_eq_left h,hF]
    have h3:θ (min (n.rootTo j (n.F j)) (n.rootTo j (n.T j)))=θ (n.F j):=by
     rcases Nat.le_total (n.rootTo j (n.F j)) (n.rootTo j (n.T j)) with h | h
     ·rw [Nat.min_eq_left h,hF]
     ·rw [Nat.min_eq_right h,hT,h1]
    rw [h3,<-h2,<-e,hb]
   ·exact ih b
theorem Ah5:∀ j b,n.rootTo j b<=b
 | 0,b=>Nat.le_refl b
 | j+1,b=>by
  have ih:=Ah5 j
  have:=ih b
  unfold rootTo
  split
  ·exact this
  ·split
   ·rename_i e;omega
   ·exact this
theorem AU9:∀ j b,n.rootTo j (n.rootTo j b)=n.rootTo j b
 | 0,b=>rfl
 | j+1,b=>by
  have ih:=AU9 j
  have ib:=ih b
  have iF:=ih (n.F j)
  have iT:=ih (n.T j)
  by_cases hg:n.g j=0
  ·have e:∀ b,n.rootTo (j+1) b=n.rootTo j b:=fun b=>by rw [rootTo,if_pos hg]
   rw [e,e];exact ib
  ·have e:∀ b,n.rootTo (j+1) b=if n.rootTo j b=max (n.rootTo j (n.F j)) (n.rootTo j (n.T j)) then min (n.rootTo j (n.F j)) (n.rootTo j (n.T j)) else n.rootTo j b:=fun b=>by rw [rootTo,if_neg hg]
   rw [e b]
   split
   ·rw [e]
    rcases Nat.le_total (n.rootTo j (n.F j)) (n.rootTo j (n.T j)) with h | h
    ·rw [Nat.min_eq_left h,Nat.max_eq_right h,iF]
     split
     ·rfl
     ·rfl
    ·rw [Nat.min_eq_right h,Nat.max_eq_left h,iT]
     split
     ·rfl
     ·rfl
   ·rename_i hne
    rw [e,ib,if_neg hne]
theorem root_le (b:Nat):n.root b<=b:=Ah5 _ b
theorem root_root (b:Nat):n.root (n.root b)=n.root b:=AU9 _ b
theorem Av1 (h:∀ k,k<n.M->n.g k≠0->θ (n.F k)=θ (n.T k)) (b:Nat):θ (n.root b)=θ b:=Az6 _ h b
theorem fl_out {k:Nat} (h:n.g k=0):n.fl θ k=0:=by unfold fl;rw [h,Rat.zero_mul]
theorem ker0 (ok:n.Ok) (h:∀ b,b<n.B->if n.root b=b then θ b=0 else n.lap θ b=0):∀ b,b<n.B->θ b=0:=by
 have hr:=rigid (θ:=θ) ok (D:=fun _=>True) (fun _ _ _=>Iff.rfl) fun b hb _=>by
  have:=h b hb
  split at this
  ·rw [this,Rat.zero_mul]
  ·rw [this,Rat.mul_zero]
 intro b hb
 rw [<-Av1 (fun k hk hg=>hr k hk hg trivial) b]
 have hle:=root_le (n:=n) b
 have:=h (n.root b) (by omega)
 rw [if_pos (root_root b)] at this
 exact this
theorem gm_sum (ok:n.Ok) (θ:Nat->Rat) {b:Nat} (hb:b<n.B):sumN n.B (fun c=>n.gm b c*θ c)=if n.root b=b then θ b else n.lap θ b:=by
 unfold gm
 split
 ·rw [<-Ab1 θ hb]
  exact A4 fun c _=>by grind
 ·exact lap_sum ok θ b
theorem lap_sub (b:Nat):n.lap (fun c=>θ c-φ c) b=n.lap θ b-n.lap φ b:=by
 unfold lap off
 rw [<-AP0]
 exact A4 fun k _=>by unfold fl;grind
theorem uniq (ok:n.Ok) (h:∀ b,b<n.B->if n.root b=b then θ b=φ b else n.lap θ b=n.lap φ b):∀ b,b<n.B->θ b=φ b:=by
 intro b hb
 have:=ker0 (θ:=fun c=>θ c-φ c) ok (fun b hb=>by
  have:=h b hb
  split at this
  ·rw [if_pos (by assumption),this];grind
  ·rw [if_neg (by assumption),lap_sub,this];grind) b hb
 grind
end
end Nw
open Go Go.RowKit
def ln0:LnV:=⟨0,0,1,0⟩
def nwOf (n:NtV) (o:List Int):Nw where
 B:=n.b.toNat
 M:=n.ls.length
 F:=fun k=>(n.ls.getD k ln0).f.toNat
 T:=fun k=>(n.ls.getD k ln0).t.toNat
 g:=fun k=>if k∈oN o then 0 else ((n.ls.getD k ln0).x:Rat)⁻¹
def tabI (n:Nat) (p:Nat->Nat):List Int:=(List.range n).map fun b=>((p b:Nat):Int)
theorem S3 (n:Nat) (p:Nat->Nat):(tabI n p).length=n:=by simp [tabI]
theorem AO9 {n i:Nat} {p:Nat->Nat} (h:i<n):(tabI n p)[i]?=some ((p i:Nat):Int):=by unfold tabI;rw [List.getElem?_map,List.getElem?_range h];rfl
theorem BI3 {n i v:Nat} {p:Nat->Nat}:(tabI n p).set i ((v:Nat):Int)=tabI n fun b=>if b=i then v else p b:=by
 apply List.ext_getElem?
 intro j
 rw [List.getElem?_set]
 unfold tabI
 rw [List.length_map,List.length_range,List.getElem?_map,List.getElem?_map]
 by_cases hj:i=j
 ·subst hj
  rw [if_pos rfl]
  by_cases h:i<n
  ·rw [if_pos h,List.getElem?_range h];simp
  ·rw [if_neg h,List.getElem?_eq_none (by simpa using h)];rfl
 ·rw [if_neg hj]
  by_cases h:j<n
  ·rw [List.getElem?_range h];simp [Ne.symm hj]
  ·rw [List.getElem?_eq_none (by simpa using h)];rfl
def Clm (B:Nat) (p R:Nat->Nat):Prop:=∀ b,b<B->p b<=b/\(p b=b->R b=b)/\(p b≠b->R b=R (p b))
def Nw.stepR (n:Nw) (R:Nat->Nat) (k:Nat):Nat->Nat:=fun b=>if R b=max (R (n.F k)) (R (n.T k)) then min (R (n.F k)) (R (n.T k)) else R b
def Nw.rootF (n:Nw) (l:List Nat):Nat->Nat:=l.foldl n.stepR id
theorem Nw.rootF_snoc (n:Nw) (l:List Nat) (k:Nat):n.rootF (l++[k])=n.stepR (n.rootF l) k:=by unfold Nw.rootF;rw [List.foldl_append];rfl
theorem Nw.rootF_free {n:Nw} {p:List Nat}:∀ j,(∀ k,k<j->(n.g k=0<->k∈p))->n.rootTo j=n.rootF (freeTo p j)
 | 0,_=>rfl
 | j+1,h=>by
  have ih:=Nw.rootF_free j fun k hk=>h k (by omega)
  have hj:=h j (by omega)
  rw [Go.Proofs.YtggegpiffjbngaaGreat.L3]
  funext b
  rw [Nw.rootTo]
  by_cases hg:n.g j=0
  ·rw [if_pos hg,if_pos (hj.1 hg),List.append_nil,ih]
  ·rw [if_neg hg,if_neg (fun h=>hg (hj.2 h)),Nw.rootF_snoc,<-ih];rfl
structure Idm (R:Nat->Nat):Prop where
 rr:∀ b,R (R b)=R b
 le:∀ b,R b<=b
theorem Idm.step {n:Nw} {R:Nat->Nat} (h:Idm R) (k:Nat):Idm (n.stepR R k):=by
 have hF:=h.rr (n.F k)
 have hT:=h.rr (n.T k)
 unfold Nw.stepR
 generalize R (n.F k)=a at *
 generalize R (n.T k)=c at *
 have hm:R (min a c)=min a c:=by
  rcases Nat.le_total a c with h | h
  ·rw [Nat.min_eq_left h,hF]
  ·rw [Nat.min_eq_right h,hT]
 refine ⟨fun b=>?_,fun b=>?_⟩
 ·by_cases hb:R b=max a c
  ·rw [if_pos hb,hm]
   split
   ·rfl
   ·rfl
  ·rw [if_neg hb,h.rr,if_neg hb]
 ·have:=h.le b
  split
  ·omega
  ·exact this
theorem Nw.rootF_idm (n:Nw) (l:List Nat):Idm (n.rootF l):=by
 unfold Nw.rootF
 have:∀ (l:List Nat) (R:Nat->Nat),Idm R->Idm (l.foldl n.stepR R):=by
  intro l
  induction l with
  | nil=>exact fun R h=>h
  | cons k l ih=>exact fun R h=>ih _ (h.step k)
 exact this l id ⟨fun _=>rfl,fun b=>Nat.le_refl b⟩
theorem Clm.step {n:Nw} {B k:Nat} {p R:Nat->Nat} (h:Clm B p R) (hi:Idm R):Clm B (fun b=>if b=max (R (n.F k)) (R (n.T k)) then min (R (n.F k)) (R (n.T k)) else p b) (n.stepR R k):=by
 have iF:=hi.rr (n.F k)
 have iT:=hi.rr (n.T k)
 unfold Nw.stepR
 generalize R (n.F k)=a at *
 generalize R (n.T k)=c at *
 have hM:R (max a c)=max a c:=by
  rcases Nat.le_total a c with h | h
  ·rw [Nat.max_eq_right h,iT]
  ·rw [Nat.max_eq_left h,iF]
 have hm:R (min a c)=min a c:=by
  rcases Nat.le_total a c with h | h
  ·rw [Nat.min_eq_left h,iF]
  ·rw [Nat.min_eq_right h,iT]
 intro b hb
 obtain ⟨h1,h2,h3⟩:=h b hb
 dsimp only
 by_cases hbM:b=max a c
 ·subst hbM
  rw [if_pos rfl]
  refine ⟨by omega,fun h=>?_,fun h=>?_⟩
  ·rw [hM,if_pos rfl];exact h
  ·rw [hM,hm,if_pos rfl,if_neg h]
 ·rw [if_neg hbM]
  refine ⟨h1,fun h=>?_,fun h=>?_⟩
  ·rw [h2 h,if_neg hbM]
  ·rw [h3 h]
def Nw.lab (n:Nw) (b:Nat):Nat:=((List.range (n.root b)).filter fun r=>decide (n.root r=r)).length
def Nw.refs (n:Nw):List Nat:=(List.range n.B).filter fun r=>decide (n.root r=r)
def Nw.cnt (n:Nw) (b:Nat):Nat:=((List.range b).filter fun r=>decide (n.root r=r)).length
theorem Nw.cnt_succ (n:Nw) (b:Nat):n.cnt (b+1)=n.cnt b+if n.root b=b then 1 else 0:=by
 unfold Nw.cnt
 rw [List.range_succ,List.filter_append,List.length_append]
 by_cases h:n.root b=b
 ·simp [h]
 ·simp [h]
theorem Nw.cnt_le (n:Nw) (b:Nat):n.cnt b<=b:=by
 unfold Nw.cnt
 have:=List.length_filter_le (fun r=>decide (n.root r=r)) (List.range b)
 simpa using this
theorem Nw.lab_root (n:Nw) {b:Nat} (h:n.root b=b):n.lab b=n.cnt b:=by unfold Nw.lab Nw.cnt;rw [h]
theorem Nw.lab_of (n:Nw) (b:Nat):n.lab b=n.lab (n.root b):=by unfold Nw.lab;rw [Nw.root_root]
theorem Nw.lab_le (n:Nw) (b:Nat):n.lab b<=b:=Nat.le_trans (n.cnt_le _) (Nw.root_le b)
def lnI (l:LnV):Nat->Int
 | 0=>l.f
 | 1=>l.t
 | 2=>l.x
 | _=>l.c
theorem PtrTo.ln {S:Nat->Prop} {w:World} {p:Addr} {l:LnV} (h:PtrTo eL S w p l) (i:Nat) (hi:i<4):PtrTo (eInt .i64) S w (p.add i) (lnI l i):=by
 obtain ⟨e,⟨rfl,h1,h2,h3,h4⟩,hS,hc⟩:=h
 refine ⟨.int .i64 (lnI l i),⟨rfl,?_⟩,by rw [F5];exact hS,fun j u hu=>?_⟩
 ·match i with
  | 0=>exact h1
  | 1=>exact h2
  | 2=>exact h3
  | 3=>exact h4
 ·have hj:j=0:=by
   cases j with
   | zero=>rfl
   | succ j=>simp [Value.cells] at hu
  subst hj
  rw [P9]
  refine hc _ u ?_
  match i with
  | 0=>simpa [Value.cells,lnI] using hu
  | 1=>simpa [Value.cells,lnI] using hu
  | 2=>simpa [Value.cells,lnI] using hu
  | 3=>simpa [Value.cells,lnI] using hu
section
variable {P:Program} {σ:Env} {w:World} {d:Option Tmp} {ty:TypeId} {pos:String} {af:Array Edge} {g:Option (Nat×Bool)} {S:Nat->Prop}
theorem BK2 {s:TypeId} {x:Operand} {i off:Nat} {u:Value} {l:LnV} (hf:fldOf P s i=some off) (hx:ev σ x=some u) (hp:Ptr eL S l u w) (ho:off<4):Gv P ⟨d,.fieldAddr s x i,ty,pos,af,g⟩ σ w fun v' w'=>Ext w w'/\Sp.ok (.inr (Ptr (eInt .i64) S (lnI l off))) v' w':=by
 obtain ⟨p,rfl,hp⟩:=hp
 exact K4 (Ag9 hf hx) ⟨_,rfl,hp.ln off ho⟩ (fun _ _ _ e ⟨p,h1,h2⟩=>⟨p,h1,h2.ext e⟩)
end
section
variable {P:Program} {ro:Option Nat} {N:Nat} {ds:List Deferred} {ops:Array Oper} {K:Env->World->Prop} {rest:List Oper} {σ:Env} {w:World} {d:Tmp} {ty:TypeId} {pos:String} {af:Array Edge} {S:Nat->Prop}
end
end Go.Kx
namespace Go.Proofs.YtggegpiffjbngaaGreat
open Go Go.Kx Go.RowKit
structure nwOk (n:NtV) (o:List Int):Prop where
 b:n.b=((nwOf n o).B:Nat)
 b1:1<=(nwOf n o).B
 b6:(nwOf n o).B<=6
 m:(nwOf n o).M<=10
 fI:∀ k,k<(nwOf n o).M->(n.ls.getD k ln0).f=((nwOf n o).F k:Nat)
 tI:∀ k,k<(nwOf n o).M->(n.ls.getD k ln0).t=((nwOf n o).T k:Nat)
 f:∀ k,k<(nwOf n o).M->(nwOf n o).F k<(nwOf n o).B
 t:∀ k,k<(nwOf n o).M->(nwOf n o).T k<(nwOf n o).B
 ne:∀ k,k<(nwOf n o).M->(nwOf n o).F k≠(nwOf n o).T k
 x:∀ k,k<(nwOf n o).M->1<=(n.ls.getD k ln0).x/\(n.ls.getD k ln0).x<=1000
 c:∀ k,k<(nwOf n o).M->0<=(n.ls.getD k ln0).c/\(n.ls.getD k ln0).c<=1000000
 outs:outsOk n o
theorem T8 {n:NtV} {o:List Int} (h:outE n o=0):nwOk n o:=by
 obtain ⟨hc,ho⟩:=BA1 h
 obtain ⟨h1,h6,h10,hck⟩:=BC0 hc
 have hB:n.b=((n.b.toNat:Nat):Int):=by omega
 have hl:∀ k,k<n.ls.length->∀ i,i<5->ck i n.b (n.ls.getD k ln0)=true:=fun k hk=>hck k hk _ (A7 hk)
 refine ⟨hB,by show 1<=n.b.toNat;omega,by show n.b.toNat<=6;omega,h10,fun k hk=>?_,fun k hk=>?_,fun k hk=>?_,fun k hk=>?_,fun k hk=>?_,fun k hk=>?_,fun k hk=>?_,ho⟩
 all_goals
  have c0:=hl k hk 0 (by decide)
  have c1:=hl k hk 1 (by decide)
  have c2:=hl k hk 2 (by decide)
  have c3:=hl k hk 3 (by decide)
  have c4:=hl k hk 4 (by decide)
  simp [ck] at c0 c1 c2 c3 c4
 ·show (n.ls.getD k ln0).f=(((n.ls.getD k ln0).f.toNat:Nat):Int)
  simp;omega
 ·show (n.ls.getD k ln0).t=(((n.ls.getD k ln0).t.toNat:Nat):Int)
  simp;omega
 ·show (n.ls.getD k ln0).f.toNat<n.b.toNat
  simp;omega
 ·show (n.ls.getD k ln0).t.toNat<n.b.toNat
  simp;omega
 ·show (n.ls.getD k ln0).f.toNat≠(n.ls.getD k ln0).t.toNat
  simp;omega
 ·simpa using c3
 ·simpa using c4
theorem nwOk.g0 {n:NtV} {o:List Int} (h:nwOk n o) {k:Nat} (hk:k<(nwOf n o).M):(nwOf n o).g k=0<->k∈oN o:=by
 show (if k∈oN o then (0:Rat) else ((n.ls.getD k ln0).x:Rat)⁻¹)=0<->_
 constructor
 ·intro h0
  by_cases hm:k∈oN o
  ·exact hm
  ·rw [if_neg hm] at h0
   have hx:=(h.x k hk).1
   have hne:((n.ls.getD k ln0).x:Rat)≠0:=fun e=>by
    have:(n.ls.getD k ln0).x=0:=by exact_mod_cast e
    omega
   have h2:=Rat.mul_inv_cancel _ hne
   rw [h0,Rat.mul_zero] at h2
   exact absurd h2 (by decide)
 ·intro hm;rw [if_pos hm]
theorem nwOk.ok {n:NtV} {o:List Int} (h:nwOk n o):(nwOf n o).Ok:=by
 refine ⟨h.f,h.t,fun k hk=>?_⟩
 show (0:Rat)<=if k∈oN o then (0:Rat) else ((n.ls.getD k ln0).x:Rat)⁻¹
 split
 ·exact Rat.le_refl
 ·have hx:=(h.x k hk).1
  exact Rat.le_of_lt (Rat.inv_pos.2 (by exact_mod_cast (by omega:0<(n.ls.getD k ln0).x)))
theorem Ay5:Ent Tryz.prog 120:=A0 Tryz.func120 (by kernel_rfl) rfl
theorem Aw7 {w:World} {b8 g B b:Nat} {p R:Nat->Nat} (k8:Blk w b8 25 #[.slice (some ⟨g,0,none⟩) B B]) (hf:FB (eInt .i64) 3 (fun _=>True) w g (tabI B p)) (hp:Clm B p R) (hb:b<B) :
  CR Tryz.prog 120 #[.int .i64 (b:Nat),.pointer (some ⟨b8,0,none⟩)] w (Is (.int .i64 (R b:Nat))):=by
 refine enter Tryz.func120 O Tryz.ntmps120 O ?_
 refine .sr (.an O O (.scope (.seq (.label (.seq ?_)))))
 refine .block (.loop (α:=Nat) (fun x=>[(0,.int .i64 (x:Nat)),(1,.pointer (some ⟨b8,0,none⟩))]) (fun x W=>W=w/\x<B/\R x=R b) (fun x=>x) b ?_ ?_ ?_)
 ·exact lkA rfl
 ·exact ⟨rfl,hb,rfl⟩
 rintro x W ⟨rfl,hx,hR⟩
 obtain ⟨h1,h2,h3⟩:=hp x hx
 refine .block (.sr (.ld ty_I O O k8 O (.mv O O (.ixB (i:=x) un_I C9 O O O hx (.ldF (E:=eInt .i64) (i:=x) (by decide) C9 O O (Nat.zero_add _) hf (AO9 hx) fun e he=>.an O O (.sr (.mv O O (.nil ?_))))))))
 obtain ⟨rfl,_⟩:=he
 refine .block (.sr (.mv O O ?_))
 by_cases hpx:p x=x
 ·refine .eqlT O O O (by omega) (.an O O (.condT O (.exit (.sr (.mv O O (.an O O (.ret ?_)))))))
  exact .plain [_] Tryz.results120 ⟨rfl,trivial⟩ ⟨Ext.refl _,by rw [<-hR,h2 hpx];rfl⟩
 ·refine .eqlF O O O (by omega) (.an O O (.condF O (.region (.mv O O (.an O O ?_)))))
  exact ⟨rfl,p x,lkA rfl,⟨rfl,by omega,by rw [<-h3 hpx];exact hR⟩,by omega⟩
theorem AQ0 {n:NtV} {o:List Int} {i:Nat} (hi:i<(inL n o).length):(pInts (inL n o))[i]?=some (((inL n o).getD i 0:Nat):Int)/\(inL n o).getD i 0<n.ls.length/\(inL n o).getD i 0∉oN o:=by
 have key:∀ k,k∈inL n o->k<n.ls.length/\k∉oN o:=fun k hk=>by
  unfold inL freeTo at hk
  rw [List.mem_filter] at hk
  exact ⟨List.mem_range.1 hk.1,by simpa using hk.2⟩
 obtain ⟨h1,h2⟩:=key _ (P7 hi)
 exact ⟨by rw [List.getElem?_map,A7 (z:=0) hi];rfl,h1,h2⟩
theorem fil_get {B i j:Nat} {f:Nat->Int} (hj:j<B) (hi:j<i):(fil B i f 0)[j]?=some (f j):=by
 unfold fil
 rw [List.getElem?_map,List.getElem?_range hj]
 simp [hi]
theorem AX4:Ent Tryz.prog 55:=A0 Tryz.func55 (by kernel_rfl) rfl
theorem AW3 {S:Nat->Prop} {w:World} {vn vo:Value} {n:NtV} {o:List Int} (up:Up S w) (hn:eN.R S w vn n) (ho:eI.R S w vo o) :
  CR Tryz.prog 55 #[vn,vo] w (Two (eI.at S (if outE n o=0 then tabI (nwOf n o).B (nwOf n o).lab else [])) (Is (.int .i64 (outE n o)))):=by
 obtain ⟨s,rfl,hs,hb⟩:=hn
 have hn:eN.R S w (.agg #[.int .i64 n.b,s]) n:=⟨s,rfl,hs,hb⟩
 refine enter Tryz.func55 O Tryz.ntmps55 O ?_
 refine .sr (.box O O fun w1 b2 n1=>.asg O O (.an O O ?_))
 obtain ⟨e1,k2,hb2,hs1⟩:=n1
 refine .sr (.ldA ty_N O O k2 O (.mv O O ?_))
 refine .call _ O AI0 O (AG9 (up.ext e1.size) (hn.ext e1) (ho.ext e1)) fun v2 w2 e2 h2=>?_
 obtain ⟨vl,ve,rfl,hl,he⟩:=h2
 replace he:ve=.int .i64 (outE n o):=he
 subst he
 have x2:=e1.trans e2
 refine .mv O O (.ext O O O (.ext O O O (.asg O O (.an O O (.seq (.sr (.mv O O ?_)))))))
 by_cases hE:outE n o=0
 rotate_left
 ·refine .neqT O O O hE (.nil (.condT O (.sr (.mv O O (.asg O O (.an O O (.ret ?_)))))))
  refine .plain [_,_] Tryz.results55 ⟨rfl,rfl,trivial⟩ ⟨x2,_,_,rfl,?_,rfl⟩
  rw [if_neg hE];exact RL.nil
 have ok:=T8 hE
 rw [if_pos hE] at hl ⊢
 have hB6:=ok.b6
 have hM10:n.ls.length<=10:=ok.m
 have hll:=AJ2 n o
 generalize hB:(nwOf n o).B=B at *
 refine .neqF O O O hE (.nil (.condF O (.skip ?_)))
 have k2:=k2.ext e2
 have hnb:=ok.b
 rw [hB] at hnb
 rw [hnb] at k2
 refine .sr (.fa G0 O O (.ld A5 O O k2 O ?_))
 refine .make_ B B un_I Ab9 O (by decide) O O O (Nat.le_refl _) (by omega) (by omega) fun w3 g n3=>?_
 have f3:FB (eInt .i64) 3 (fun _=>True) w3 g (List.replicate B 0):=FB.made n3 ⟨rfl,by decide⟩
 obtain ⟨e3,_,hg3,hs3⟩:=n3
 refine .alloc O BH0 fun w4 b8 n4=>?_
 obtain ⟨e4,k8,hb8,hs4⟩:=n4
 refine .store ty_I O O k8 O (by simp [Value.cells]) (by simp [one1,Value.cells]) fun w5 k8 u5=>.nil ?_
 replace k8:Blk w5 b8 25 #[.slice (some ⟨g,0,none⟩) B B]:=k8
 have hs2:=e2.size
 have hs5:=u5.size
 have x4:=x2.trans (e3.trans e4)
 have x5:Ext w w5:=u5.below x4 (by omega)
 have x25:Ext w2 w5:=u5.below (e3.trans e4) (by omega)
 have k2:=k2.ext x25
 have hl:=ER.ext eI (ER.lt eI hl) x25
 have hsL:=ER.ext eLs (ER.lt eLs hs) x5
 have hupd:∀ {W W':World} {l:List Int} {b:Nat},FB (eInt .i64) 3 (fun _=>True) W g l->Upd W W' b->g≠b->FB (eInt .i64) 3 (fun _=>True) W' g l:=fun hf u hne=>by
  obtain ⟨es,hb,he⟩:=hf
  exact ⟨es,hb.upd u hne,he.1,fun i e x h1 h2=>he.2 i e x h1 h2⟩
 have f5:=hupd (f3.ext e4) u5 (by omega)
 have hgw:w2.heap.size<=g:=by omega
 have hg8:g≠b8:=by omega
 have hg2:b2≠g:=by omega
 have hw25:w2.heap.size<=w5.heap.size:=by omega
 refine .mid (α:=Unit) (fun _=>[(2,.pointer (some ⟨b2,0,none⟩)),(6,vl),(8,.pointer (some ⟨b8,0,none⟩))]) (fun _ W=>Below w2.heap.size w5 W/\Blk W b8 25 #[.slice (some ⟨g,0,none⟩) B B]/\FB (eInt .i64) 3 (fun _=>True) W g (tabI B id)) ?_ ?_
 ·refine .sr (.ld ty_I O O k8 O (.len un_I O O (.mv O O (.nil ?_))))
  refine .block (.loop (α:=Nat) (fun i=>[(2,.pointer (some ⟨b2,0,none⟩)),(6,vl),(8,.pointer (some ⟨b8,0,none⟩)),(32,.int .i64 (B:Nat)),(33,.int .i64 (i:Nat))]) (fun i W=>Below w2.heap.size w5 W/\Blk W b8 25 #[.slice (some ⟨g,0,none⟩) B B]/\i<=B/\FB (eInt .i64) 3 (fun _=>True) W g (fil B i (fun b=>((b:Nat):Int)) 0)) (fun i=>B-i) 0 ?_ ?_ ?_)
  ·exact lkA rfl
  ·refine ⟨Below.refl _ _,k8,Nat.zero_le _,?_⟩
   rw [S6];exact f5
  rintro i W ⟨hW,k8,hi,fb⟩
  refine .sr ?_
  rcases Nat.lt_or_ge i B with hlt | hge
  rotate_left
  ·refine .lssF O O O (by omega) (.nil (.seq (.condF O (.exit ?_))))
   have:i=B:=by omega
   subst this
   refine ⟨rfl,(),lkA rfl,hW,k8,?_⟩
   rw [AQ8] at fb
   exact fb
  refine .lssT O O O (by omega) (.nil (.seq (.condT O (.skip (.seq (.block (.sr (.mv O O (.an O O (.region (.ld ty_I O O k8 O (.mv O O (.mv O O (.ixB (i:=i) un_I C9 O O O hlt ?_))))))))))))))
  refine .storeF (E:=eInt .i64) (i:=i) (z:=((i:Nat):Int)) (by decide) C9 O O fb O (by rw [N7];exact hlt) (Nat.zero_add _) ⟨rfl,P5.2 (by omega)⟩ fun W1 f1 u1=>.nil ?_
  refine .region (.add O O O (.mv O O (.nil ?_)))
  rw [wI (by omega)]
  rw [Y9] at f1
  exact ⟨rfl,i+1,lkA rfl,⟨u1.below hW hgw,k8.upd u1 hg8.symm,hlt,f1⟩,by show B-(i+1)<B-i;omega⟩
 rintro _ W0 ⟨hW0,k8,fb0⟩
 have hk2:∀ {W:World},Below w2.heap.size w5 W->Blk W b2 24 #[.int .i64 (B:Nat),s]:=fun h=>(h.block b2 (by omega)).trans k2
 have hlW:∀ {W:World},Below w2.heap.size w5 W->eI.R (fun k=>S k/\k<w2.heap.size) W vl (pInts (inL n o)):=fun h=>eI.keep (fun k c t f hk hh=>(h.block k hk.2).trans hh) hl
 have hsW:∀ {W:World},Below w2.heap.size w5 W->eLs.R (fun k=>S k/\k<w.heap.size) W s n.ls:=fun h=>eLs.keep (fun k c t f hk hh=>(h.block k (by have:=hk.2;have:=x2.size;omega)).trans hh) hsL
 refine .sr (.mkf [] [_] O O O O (.an O O ?_))
 refine .mid (α:=Nat->Nat) (fun _=>[(2,.pointer (some ⟨b2,0,none⟩)),(8,.pointer (some ⟨b8,0,none⟩)),(10,.func (.func 120) #[] #[.pointer (some ⟨b8,0,none⟩)])]) (fun p W=>Below w2.heap.size w5 W/\Blk W b8 25 #[.slice (some ⟨g,0,none⟩) B B]/\FB (eInt .i64) 3 (fun _=>True) W g (tabI B p)/\Clm B p ((nwOf n o).rootF (inL n o))) ?_ ?_
 ·refine .sr (.mv O O (.lenR un_I O O (hlW hW0) (.mv O O (.nil ?_))))
  rw [show (pInts (inL n o)).length=(inL n o).length by simp]
  refine .block (.loop (α:=Nat×(Nat->Nat)) (fun y=>[(2,.pointer (some ⟨b2,0,none⟩)),(8,.pointer (some ⟨b8,0,none⟩)),(10,.func (.func 120) #[] #[.pointer (some ⟨b8,0,none⟩)]),(42,vl),(43,.int .i64 ((inL n o).length:Nat)),(44,.int .i64 (y.1:Nat))])
   (fun y W=>Below w2.heap.size w5 W/\Blk W b8 25 #[.slice (some ⟨g,0,none⟩) B B]/\y.1<=(inL n o).length/\FB (eInt .i64) 3 (fun _=>True) W g (tabI B y.2)/\Clm B y.2 ((nwOf n o).rootF ((inL n o).take y.1))) (fun y=>(inL n o).length-y.1) (0,id) ?_ ?_ ?_)
  ·exact lkA rfl
  ·exact ⟨hW0,k8,Nat.zero_le _,fb0,fun b _=>⟨Nat.le_refl _,fun _=>rfl,fun h=>absurd O h⟩⟩
  rintro ⟨i,p⟩ W ⟨hW,k8,hi,fb,hc⟩
  replace hW:Below w2.heap.size w5 W:=hW
  replace hi:i<=(inL n o).length:=hi
  replace fb:FB (eInt .i64) 3 (fun _=>True) W g (tabI B p):=fb
  replace hc:Clm B p ((nwOf n o).rootF ((inL n o).take i)):=hc
  refine .sr ?_
  rcases Nat.lt_or_ge i (inL n o).length with hlt | hge
  rotate_left
  ·refine .lssF O O O (by omega) (.nil (.seq (.condF O (.exit ?_))))
   have:i=(inL n o).length:=by omega
   subst this
   rw [List.take_of_length_le (Nat.le_refl _)] at hc
   exact ⟨rfl,p,lkA rfl,hW,k8,fb,hc⟩
  obtain ⟨hgk,hkM,hko⟩:=AQ0 hlt
  refine .lssT O O O (by omega) (.nil (.seq (.condT O (.skip (.seq (.block (.sr (.ixN (i:=i) un_I C9 O O (hlW hW) O hgk fun q hq=>.ldE (E:=eInt .i64) C9 O O hq fun e he=>.an O O ?_))))))))
  obtain ⟨rfl,_⟩:=he
  have htk:(inL n o).take (i+1)=(inL n o).take i++[(inL n o).getD i 0]:=by rw [List.take_add_one,A7 (z:=0) hlt];rfl
  have hFB:=ok.f _ hkM
  have hTB:=ok.t _ hkM
  have hFI:=ok.fI _ hkM
  have hTI:=ok.tI _ hkM
  have hgl:n.ls[(inL n o).getD i 0]?=some (n.ls.getD ((inL n o).getD i 0) ln0):=A7 hkM
  have hidm:=(nwOf n o).rootF_idm ((inL n o).take i)
  generalize hR:(nwOf n o).rootF ((inL n o).take i)=R at hc hidm
  generalize hk:(inL n o).getD i 0=k at hgl hFB hTB hFI hTI hkM hko htk
  rw [hB] at hFB hTB
  have hlF:=hidm.le ((nwOf n o).F k)
  have hlT:=hidm.le ((nwOf n o).T k)
  refine .seq ?_
  refine .par follows 16 [.inl (.func (.func 120) #[] #[.pointer (some ⟨b8,0,none⟩)]),.inl (.pointer (some ⟨b2,1,none⟩)),.inl s,.inl (.int .i64 (k:Nat)),.inr (Ptr eL (fun k=>S k/\k<w.heap.size) (n.ls.getD k ln0)),.inr (Ptr (eInt .i64) (fun k=>S k/\k<w.heap.size) (n.ls.getD k ln0).f),.inl (.int .i64 ((nwOf n o).F k:Nat)),.inl (.int .i64 (R ((nwOf n o).F k):Nat)),
   .inl (.func (.func 120) #[] #[.pointer (some ⟨b8,0,none⟩)]),.inl (.pointer (some ⟨b2,1,none⟩)),.inl s,.inl (.int .i64 (k:Nat)),.inr (Ptr eL (fun k=>S k/\k<w.heap.size) (n.ls.getD k ln0)),.inr (Ptr (eInt .i64) (fun k=>S k/\k<w.heap.size) (n.ls.getD k ln0).t),.inl (.int .i64 ((nwOf n o).T k:Nat)),.inl (.int .i64 (R ((nwOf n o).T k):Nat))]
   [[],[],[(49,1)],[],[(50,2),(51,3)],[(52,4)],[(53,5)],[(48,0),(54,6)],[],[],[(57,9)],[],[(58,10),(59,11)],[(60,12)],[(61,13)],[(56,8),(62,14)]] (by kernel_rfl) ⟨
   fun w e=>(v_mv O).ob,fun w e=>(v_fa G5 O).ob,fun w e=>(v_ld J1 O ((hk2 hW).ext e) O).ob,fun w e=>(v_mv O).ob,
   fun w e=>C2 (i:=k) I8 K8 O (ER.ext eLs (hsW hW) e) O hgl,fun w e x hx=>BK2 N4 O hx (by decide),fun w e x hx=>by rw [<-hFI];exact L0 C9 O hx,
   fun w e=>Gv.obIs (AJ5 [.int .i64 ((nwOf n o).F k:Nat)] O Ay5 O (Aw7 (k8.ext e) (fb.ext e) hc hFB)),
   fun w e=>(v_mv O).ob,fun w e=>(v_fa G5 O).ob,fun w e=>(v_ld J1 O ((hk2 hW).ext e) O).ob,fun w e=>(v_mv O).ob,
   fun w e=>C2 (i:=k) I8 K8 O (ER.ext eLs (hsW hW) e) O hgl,fun w e x hx=>BK2 N3 O hx (by decide),fun w e x hx=>by rw [<-hTI];exact L0 C9 O hx,
   fun w e=>Gv.obIs (AJ5 [.int .i64 ((nwOf n o).T k:Nat)] O Ay5 O (Aw7 (k8.ext e) (fb.ext e) hc hTB)),trivial⟩ ?_
  intro W1 f1 _ _ _ _ _ _ _ _
  refine .asg O O (.an O O (.region (.ld ty_I O O (k8.ext f1) O (.mv O O (.mv O O (.max_ O O O (.mv O O (.mv O O (.min_ O O O ?_)))))))))
  rw [show max ((R ((nwOf n o).F k):Nat):Int) (R ((nwOf n o).T k):Nat)=((max (R ((nwOf n o).F k)) (R ((nwOf n o).T k)):Nat):Int) by omega,show min ((R ((nwOf n o).F k):Nat):Int) (R ((nwOf n o).T k):Nat)=((min (R ((nwOf n o).F k)) (R ((nwOf n o).T k)):Nat):Int) by omega]
  refine .ixB (i:=max (R ((nwOf n o).F k)) (R ((nwOf n o).T k))) un_I C9 O O O (by omega) ?_
  refine .storeF (E:=eInt .i64) (i:=max (R ((nwOf n o).F k)) (R ((nwOf n o).T k))) (z:=((min (R ((nwOf n o).F k)) (R ((nwOf n o).T k)):Nat):Int)) (by decide) C9 O O (fb.ext f1) O (by rw [S3];omega) (Nat.zero_add _) ⟨rfl,P5.2 (by omega)⟩ fun W2 f2 u2=>.nil ?_
  rw [BI3] at f2
  have hW1:=hW.trans (f1.mono (by have:=hW.size;omega))
  refine .region (.add O O O (.mv O O (.nil ?_)))
  rw [wI (by omega)]
  refine ⟨rfl,(i+1,_),lkA rfl,⟨u2.below hW1 hgw,(k8.ext f1).upd u2 hg8.symm,hlt,f2,?_⟩,by show (inL n o).length-(i+1)<(inL n o).length-i;omega⟩
  show Clm B _ ((nwOf n o).rootF ((inL n o).take (i+1)))
  rw [htk,Nw.rootF_snoc,hR]
  exact hc.step hidm
 rintro p W1 ⟨hW1,k8,fb,hc⟩
 rw [show (nwOf n o).rootF (inL n o)=(nwOf n o).root by
  funext b
  unfold Nw.root
  rw [Nw.rootF_free (p:=oN o) _ fun k hk=>ok.g0 hk];rfl] at hc
 have hW1s:=hW1.size
 refine .sr (.fa G0 O O (.ld A5 O O (hk2 hW1) O ?_))
 refine .make_ B B un_I Ab9 O (by decide) O O O (Nat.le_refl _) (by omega) (by omega) fun W2 h n2=>?_
 have f2:FB (eInt .i64) 3 (fun _=>True) W2 h (List.replicate B 0):=FB.made n2 ⟨rfl,by decide⟩
 obtain ⟨e2',_,hh2,hs2'⟩:=n2
 refine .an O O (.sr (.an O O ?_))
 have hgh:g≠h:=by have:=fb.lt;omega
 have k8:=k8.ext e2'
 have h8h:b8≠h:=by have:=hW1s;omega
 have fb:=fb.ext e2'
 have hW2:=hW1.trans (e2'.mono (by omega))
 have hhw:w2.heap.size<=h:=by omega
 have hupd':∀ {W W':World} {l:List Int},FB (eInt .i64) 3 (fun _=>True) W g l->Upd W W' h->FB (eInt .i64) 3 (fun _=>True) W' g l:=fun hf u=>hupd hf u hgh
 refine .seq (.sr (.mv O O (.len un_I O O (.mv O O (.nil ?_)))))
 refine .block (.loop (α:=Nat) (fun i=>[(8,.pointer (some ⟨b8,0,none⟩)),(10,.func (.func 120) #[] #[.pointer (some ⟨b8,0,none⟩)]),(15,.slice (some ⟨h,0,none⟩) B B),(16,.int .i64 ((nwOf n o).cnt i:Nat)),(77,.int .i64 (B:Nat)),(78,.int .i64 (i:Nat))])
  (fun i W=>Below w2.heap.size w5 W/\Blk W b8 25 #[.slice (some ⟨g,0,none⟩) B B]/\i<=B/\FB (eInt .i64) 3 (fun _=>True) W g (tabI B p)/\FB (eInt .i64) 3 (fun _=>True) W h (fil B i (fun b=>(((nwOf n o).lab b:Nat):Int)) 0)) (fun i=>B-i) 0 ?_ ?_ ?_)
 ·exact lkA rfl
 ·refine ⟨hW2,k8,Nat.zero_le _,fb,?_⟩
  rw [S6];exact f2
 rintro i W ⟨hW,k8,hi,fb,fl⟩
 refine .sr ?_
 rcases Nat.lt_or_ge i B with hlt | hge
 rotate_left
 ·refine .lssF O O O (by omega) (.nil (.seq (.condF O (.exit (.sr (.mv O O (.asg O O (.an O O (.ret ?_)))))))))
  have:i=B:=by omega
  subst this
  refine .plain [_,_] Tryz.results55 ⟨rfl,rfl,trivial⟩ ⟨Below.trans x5 (hW.mono (by omega)),_,_,rfl,?_,by rw [hE]⟩
  rw [AQ8] at fl
  have fl':FB (eInt .i64) 3 S W h (tabI i (nwOf n o).lab):=by
   obtain ⟨es,hb,he⟩:=fl
   exact ⟨es,hb,he.1,fun i e x h1 h2=>he.2 i e x h1 h2⟩
  have:=fl'.toR (hsz:=by decide) (c:=i) (up h (by omega)) (by rw [S3];omega) (by rw [S3];omega)
  rw [S3] at this
  exact this
 refine .lssT O O O (by omega) (.nil (.seq (.condT O (.skip (.seq (.block (.sr (.mv O O (.an O O (.seq (.sr (.mv O O (.mv O O ?_)))))))))))))
 refine .callv [.int .i64 (i:Nat)] O O Ay5 O (Aw7 k8 fb hc hlt) fun v3 W3 e3 h3=>.an O O (.sr (.mv O O (.mv O O ?_)))
 subst h3
 have hrl:=Nw.root_le (n:=nwOf n o) i
 have hlb:=Nw.lab_le (nwOf n o) i
 have hcl:=Nw.cnt_le (nwOf n o) i
 have hcs:=Nw.cnt_succ (nwOf n o) i
 have hW3:=hW.trans (e3.mono (by have:=hW.size;omega))
 have k8:=k8.ext e3
 have fb:=fb.ext e3
 have fl:=fl.ext e3
 by_cases hr:(nwOf n o).root i=i
 ·refine .neqF O O O (by omega) (.nil (.condF O (.skip (.sr (.mv O O (.mv O O (.mv O O (.ixB (i:=i) un_I C9 O O O hlt ?_))))))))
  refine .storeF (E:=eInt .i64) (i:=i) (z:=(((nwOf n o).lab i:Nat):Int)) (by decide) C9 O O fl O (by rw [N7];exact hlt) (Nat.zero_add _) ⟨by rw [Nw.lab_root _ hr],P5.2 (by omega)⟩ fun W4 f4 u4=>.nil ?_
  rw [Y9 (f:=fun b=>(((nwOf n o).lab b:Nat):Int))] at f4
  refine .region (.mv O O (.add O O O (.an O O (.region (.add O O O (.mv O O (.nil ?_)))))))
  rw [wI (by omega),wI (by omega)]
  rw [if_pos hr] at hcs
  exact ⟨rfl,i+1,A8 O (A8 O (A8 O (A8 (by rw [hcs];rfl) (lkA O)))),⟨u4.below hW3 hhw,k8.upd u4 h8h,hlt,hupd' fb u4,f4⟩,by show B-(i+1)<B-i;omega⟩
 ·refine .neqT O O O (by omega) (.nil (.condT O (.sr (.mv O O (.mv O O (.mv O O (.mv O O (.ixB (i:=(nwOf n o).root i) un_I C9 O O O (by omega) ?_))))))))
  refine .ldF (E:=eInt .i64) (i:=(nwOf n o).root i) (by decide) C9 O O (Nat.zero_add _) fl (fil_get (by omega) (by omega)) fun e he=>?_
  obtain ⟨rfl,_⟩:=he
  refine .ixB (i:=i) un_I C9 O O O hlt ?_
  refine .storeF (E:=eInt .i64) (i:=i) (z:=(((nwOf n o).lab i:Nat):Int)) (by decide) C9 O O fl O (by rw [N7];exact hlt) (Nat.zero_add _) ⟨by rw [Nw.lab_of _ i],P5.2 (by omega)⟩ fun W4 f4 u4=>.nil ?_
  rw [Y9 (f:=fun b=>(((nwOf n o).lab b:Nat):Int))] at f4
  refine .exit (.region (.add O O O (.mv O O (.nil ?_))))
  rw [wI (by omega)]
  rw [if_neg hr,Nat.add_zero] at hcs
  exact ⟨rfl,i+1,A8 O (A8 O (A8 O (A8 (by rw [hcs];rfl) (lkA O)))),⟨u4.below hW3 hhw,k8.upd u4 h8h,hlt,hupd' fb u4,f4⟩,by show B-(i+1)<B-i;omega⟩
end Go.Proofs.YtggegpiffjbngaaGreat
namespace Go.Kx
open Go Go.RowKit
theorem Az7 (P:Nat->Bool) (i:Nat):∀ d,∃ t,(List.range (i+d)).filter P=(List.range i).filter P++t
 | 0=>⟨[],by simp⟩
 | d+1=>by
  obtain ⟨t,ht⟩:=Az7 P i d
  rw [show i+(d+1)=(i+d)+1 by omega,List.range_succ,List.filter_append,ht,List.append_assoc]
  exact ⟨_,rfl⟩
theorem rng_at {P:Nat->Bool} {r C:Nat} (hr:r<C) (hP:P r=true):((List.range C).filter P).getD ((List.range r).filter P).length 0=r/\((List.range r).filter P).length<((List.range C).filter P).length:=by
 obtain ⟨t,ht⟩:=Az7 P (r+1) (C-(r+1))
 rw [show r+1+(C-(r+1))=C by omega,List.range_succ,List.filter_append] at ht
 have e:List.filter P [r]=[r]:=by simp [hP]
 rw [e] at ht
 rw [ht]
 constructor
 ·rw [List.getD_eq_getElem?_getD,List.append_assoc,List.getElem?_append_right (Nat.le_refl _)];simp
 ·simp
def Nw.refsTo (n:Nw) (b:Nat):List Nat:=(List.range b).filter fun r=>decide (n.root r=r)
theorem Nw.refsTo_len (n:Nw) (b:Nat):(n.refsTo b).length=n.cnt b:=rfl
theorem Nw.refsTo_succ (n:Nw) (b:Nat):n.refsTo (b+1)=n.refsTo b++if n.root b=b then [b] else []:=by
 unfold Nw.refsTo
 rw [List.range_succ,List.filter_append]
 by_cases h:n.root b=b
 ·simp [h]
 ·simp [h]
theorem Nw.cnt_mono (n:Nw) (a:Nat):∀ d,n.cnt a<=n.cnt (a+d)
 | 0=>Nat.le_refl _
 | d+1=>by have:=Nw.cnt_mono n a d;have:=n.cnt_succ (a+d);rw [show a+(d+1)=a+d+1 by omega];omega
theorem Nw.lab_cnt (n:Nw) (b:Nat):n.lab b=n.cnt b<->n.root b=b:=by
 refine ⟨fun h=>?_,fun h=>n.lab_root h⟩
 have hle:=Nw.root_le (n:=n) b
 rcases Nat.lt_or_ge (n.root b) b with hlt | hge
 ·exfalso
  have h1:n.lab b=n.cnt (n.root b):=rfl
  have h2:=n.cnt_succ (n.root b)
  rw [if_pos (Nw.root_root b)] at h2
  have h3:=n.cnt_mono (n.root b+1) (b-(n.root b+1))
  rw [show n.root b+1+(b-(n.root b+1))=b by omega] at h3
  omega
 ·omega
theorem Nw.refs_lab (n:Nw) {b:Nat} (hb:b<n.B):n.refs.getD (n.lab b) 0=n.root b/\n.lab b<n.refs.length:=by
 have hle:=Nw.root_le (n:=n) b
 exact rng_at (P:=fun r=>decide (n.root r=r)) (r:=n.root b) (C:=n.B) (by omega) (decide_eq_true (Nw.root_root b))
theorem Nw.mem_refs {n:Nw} {r:Nat}:r∈n.refs<->r<n.B/\n.root r=r:=by
 unfold Nw.refs
 rw [List.mem_filter,List.mem_range]
 simp
theorem Nw.lab_eq {n:Nw} {a b:Nat} (ha:a<n.B) (hb:b<n.B):n.lab a=n.lab b<->n.root a=n.root b:=by
 constructor
 ·intro h
  rw [<-(n.refs_lab ha).1,<-(n.refs_lab hb).1,h]
 ·intro h;unfold Nw.lab;rw [h]
end Go.Kx
namespace Go.Proofs.YtggegpiffjbngaaGreat
open Go Go.Kx Go.RowKit
theorem Ag4:Ent Tryz.prog 71:=A0 Tryz.func71 (by kernel_rfl) rfl
theorem Af6 {S:Nat->Prop} {w:World} {vn vo:Value} {n:NtV} {o:List Int} (up:Up S w) (hn:eN.R S w vn n) (ho:eI.R S w vo o) :
  CR Tryz.prog 71 #[vn,vo] w (Two (eI.at S (if outE n o=0 then pInts (nwOf n o).refs else [])) (Is (.int .i64 (outE n o)))):=by
 have hvn:=shpA (E:=eN) O hn
 refine enter Tryz.func71 O Tryz.ntmps71 O ?_
 refine .sr (.box O O fun w1 b2 n1=>.asg O O (.an O O ?_))
 obtain ⟨e1,k2,hb2,hs1⟩:=n1
 refine .sr (.ldA ty_N O O k2 (eN.csz hn) (.mv O O ?_))
 rw [<-hvn]
 refine .call _ O AX4 O (AW3 (up.ext e1.size) (hn.ext e1) (ho.ext e1)) fun v2 w2 e2 h2=>?_
 obtain ⟨vl,ve,rfl,hl,he⟩:=h2
 replace he:ve=.int .i64 (outE n o):=he
 subst he
 have x2:=e1.trans e2
 refine .mv O O (.ext O O O (.ext O O O (.asg O O (.an O O (.seq (.sr (.mv O O ?_)))))))
 by_cases hE:outE n o=0
 rotate_left
 ·refine .neqT O O O hE (.nil (.condT O (.sr (.mv O O (.asg O O (.an O O (.ret ?_)))))))
  refine .plain [_,_] Tryz.results71 ⟨rfl,rfl,trivial⟩ ⟨x2,_,_,rfl,?_,rfl⟩
  rw [if_neg hE];exact RL.nil
 have ok:=T8 hE
 rw [if_pos hE] at hl ⊢
 have hB6:=ok.b6
 refine .neqF O O O hE (.nil (.condF O (.skip (.sr (.an O O ?_)))))
 have hlW:∀ {W:World},Below w2.heap.size w2 W->eI.R (fun k=>S k/\k<w2.heap.size) W vl (tabI (nwOf n o).B (nwOf n o).lab):=fun h=>eI.keep (fun k c t f hk hh=>(h.block k hk.2).trans hh) (ER.lt eI hl)
 refine .seq (.sr (.mv O O (.lenR un_I O O hl (.mv O O (.nil ?_)))))
 rw [S3]
 refine .block (.loop (α:=Nat×Value) (fun y=>[(8,y.2),(20,vl),(21,.int .i64 ((nwOf n o).B:Nat)),(22,.int .i64 (y.1:Nat))]) (fun y W=>Below w2.heap.size w2 W/\y.1<=(nwOf n o).B/\OwnL (eInt .i64) 3 w2.heap.size S W y.2 (pInts ((nwOf n o).refsTo y.1))) (fun y=>(nwOf n o).B-y.1) (0,.slice none 0 0) ?_ ?_ ?_)
 ·exact lkA rfl
 ·exact ⟨Below.refl _ _,Nat.zero_le _,OwnL.nil⟩
 rintro ⟨i,v⟩ W ⟨hW,hi,hown⟩
 replace hW:Below w2.heap.size w2 W:=hW
 replace hi:i<=(nwOf n o).B:=hi
 replace hown:OwnL (eInt .i64) 3 w2.heap.size S W v (pInts ((nwOf n o).refsTo i)):=hown
 refine .sr ?_
 rcases Nat.lt_or_ge i (nwOf n o).B with hlt | hge
 rotate_left
 ·refine .lssF O O O (by omega) (.nil (.seq (.condF O (.exit (.sr (.mv O O (.asg O O (.an O O (.ret ?_)))))))))
  have:i=(nwOf n o).B:=by omega
  subst this
  refine .plain [_,_] Tryz.results71 ⟨rfl,rfl,trivial⟩ ⟨x2.trans hW,_,_,rfl,?_,by rw [hE]⟩
  exact hown.toR (fun k hk=>up k (by have:=x2.size;omega)) (fun _ h=>h)
 refine .lssT O O O (by omega) (.nil (.seq (.condT O (.skip (.seq (.block (.sr (.mv O O (.ixN (i:=i) un_I C9 O O (hlW hW) O (AO9 hlt) fun q hq=>.ldE (E:=eInt .i64) C9 O O hq fun e he=>.asg O O (.an O O ?_))))))))))
 obtain ⟨rfl,_⟩:=he
 have hvl:eI.R (fun k=>S k\/w2.heap.size<=k) W v (pInts ((nwOf n o).refsTo i)):=hown.toR (fun k hk=>.inr hk) (fun _ h=>.inl h)
 have hcl:=(nwOf n o).cnt_le i
 have hlb:=(nwOf n o).lab_cnt i
 have hrs:=(nwOf n o).refsTo_succ i
 have hlen:(pInts ((nwOf n o).refsTo i)).length=(nwOf n o).cnt i:=by simp [Nw.refsTo_len]
 refine .sr (.mv O O (.mv O O (.lenR un_I O O hvl ?_)))
 rw [hlen]
 by_cases hr:(nwOf n o).root i=i
 ·rw [if_pos hr] at hrs
  refine .eqlT O O O (by rw [hlb.2 hr]) (.nil (.condT O (.region (.mv O O (.mv O O (.bsl _ O O Ax5 fun W1 by_ ny=>?_))))))
  obtain ⟨ey,ky,hby,hsy⟩:=ny
  have hW1:=hW.trans (ey.mono hW.size)
  refine .gv O O (AA5 (E:=eInt .i64) (base:=w2.heap.size) (n:=((i:Nat):Int)) (e:=.int .i64 (i:Nat)) (by decide) un_I Ab9 O O O (hown.ext ey) ky ⟨rfl,P5.2 (by omega)⟩ (by rw [hlen];omega) (by decide) hW1.size) ?_
  rintro v8 W8 ⟨ho8,hg8⟩
  refine .an O O (.region (.add O O O (.mv O O (.nil ?_))))
  rw [wI (by omega)]
  refine ⟨rfl,(i+1,v8),lkA rfl,⟨(hown.ext ey).below hg8 hW1 hW1.size,hlt,?_⟩,by show (nwOf n o).B-(i+1)<(nwOf n o).B-i;omega⟩
  show OwnL (eInt .i64) 3 w2.heap.size S W8 v8 (pInts ((nwOf n o).refsTo (i+1)))
  rw [hrs]
  unfold pInts
  rw [List.map_append]
  exact ho8
 ·rw [if_neg hr,List.append_nil] at hrs
  refine .eqlF O O O (by intro e;exact hr (hlb.1 (by omega))) (.nil (.condF O (.skip (.region (.add O O O (.mv O O (.nil ?_)))))))
  rw [wI (by omega)]
  refine ⟨rfl,(i+1,v),lkA rfl,⟨hW,hlt,?_⟩,by show (nwOf n o).B-(i+1)<(nwOf n o).B-i;omega⟩
  show OwnL (eInt .i64) 3 w2.heap.size S W v (pInts ((nwOf n o).refsTo (i+1)))
  rw [hrs];exact hown
end Go.Proofs.YtggegpiffjbngaaGreat
namespace Go.Kx
open Go Go.RowKit
def eRaw:ER Value where
 sz:=1
 isA:=false
 R:=fun _ _ e x=>e=x/\∃ a n c,x=.slice a n c
 csz:=by rintro S w e x ⟨rfl,a,n,c,rfl⟩;rfl
 one:=by rintro S w e x ⟨rfl,a,n,c,rfl⟩ u hu;simp [Value.cells] at hu;subst hu;rfl
 shp:=by rintro S w e x ⟨rfl,a,n,c,rfl⟩;rfl
 keep:=fun _ h=>h
 mono:=fun _ h=>h
section
variable {α:Type} {E:ER α} {t:TypeId} {base:Nat} {X:Nat->Prop} {w w':World} {v:Value} {l:List α}
theorem OwnL.blk (h:OwnL E t base X w v l) {b:Nat} (hb:v.ownBlock=some b):base<=b/\∃ cs,Blk w b t cs:=by
 obtain ⟨es,h1,h2⟩:=h
 rcases h1.2 with ⟨hn,_⟩ | ⟨g,cap,cur,hv,hb',hg',rest⟩
 ·rw [hn] at hb;cases hb
 ·rw [hv] at hb;cases hb;exact ⟨hb',cur,hg'⟩
end
section
variable {P:Program} {σ:Env} {w:World} {d:Option Tmp} {ty:TypeId} {pos:String} {af:Array Edge} {g:Option (Nat×Bool)} {α:Type} {E:ER α}
end
def Nw.mem (n:Nw) (i r:Nat):List Nat:=(List.range i).filter fun b=>decide (n.root b=r)
theorem Nw.mem_succ (n:Nw) (i r:Nat):n.mem (i+1) r=n.mem i r++if n.root i=r then [i] else []:=by
 unfold Nw.mem
 rw [List.range_succ,List.filter_append]
 by_cases h:n.root i=r
 ·simp [h]
 ·simp [h]
end Go.Kx
namespace Go.Proofs.YtggegpiffjbngaaGreat
open Go Go.Kx Go.RowKit
end Go.Proofs.YtggegpiffjbngaaGreat
namespace Go.Kx
open Go Go.RowKit
section
variable {α:Type} {E:ER α} {t:TypeId} {base:Nat} {X X':Nat->Prop} {w w':World} {v:Value} {l:List α}
theorem OwnL.grownX {ob:Option Nat} (h:OwnL E t base X w v l) (hg:w.grownBy w' ob) (hne:∀ b,v.ownBlock=some b->ob≠some b) (hX:∀ k,X k->k<w.heap.size->ob≠some k/\X' k):OwnL E t base X' w' v l:=by
 obtain ⟨es,h1,h2⟩:=h
 refine ⟨es,⟨h1.1,?_⟩,⟨h2.1,fun i e x he hx=>?_⟩⟩
 ·rcases h1.2 with hn | ⟨g,cap,cur,hv,hb,hg',rest⟩
  ·exact .inl hn
  ·have hB:Blk w g t cur:=hg'
   exact .inr ⟨g,cap,cur,hv,hb,(hg.block g hB.lt (fun e=>hne g (by rw [hv];rfl) e.symm)).trans hg',rest⟩
 ·have h3:=ER.lt E (h2.2 i e x he hx)
  have h4:=E.keep (w':=w') (fun k c t f hS hk=>(hg.block k hS.2 (fun e=>(hX k hS.1.1 hS.2).1 e.symm)).trans hk) h3
  exact E.mono (fun k _ hS=>⟨(hX k hS.1.1 hS.2).2,hS.1.2⟩) h4
theorem OwnL.updX {b:Nat} (h:OwnL E t base X w v l) (hu:Upd w w' b) (hne:v.ownBlock≠some b) (hX:∀ k,X k->v.ownBlock≠some k->k≠b/\X' k):OwnL E t base X' w' v l:=by
 obtain ⟨es,h1,h2⟩:=h
 refine ⟨es,⟨h1.1,?_⟩,⟨h2.1,fun i e x he hx=>?_⟩⟩
 ·rcases h1.2 with hn | ⟨g,cap,cur,hv,hb,hg',rest⟩
  ·exact .inl hn
  ·exact .inr ⟨g,cap,cur,hv,hb,(hu.block g (fun e=>hne (by rw [hv,<-e];rfl))).trans hg',rest⟩
 ·have h4:=E.keep (Kp.upd hu (fun hS=>(hX b hS.1 hS.2).1 O)) (h2.2 i e x he hx)
  exact E.mono (fun k _ hS=>⟨(hX k hS.1 hS.2).2,hS.2⟩) h4
theorem OwnL.own_lt (h:OwnL E t base X w v l) {b:Nat} (hb:v.ownBlock=some b):base<=b/\b<w.heap.size:=by
 obtain ⟨es,h1,_⟩:=h
 exact h1.lt b hb
end
end Go.Kx
namespace Go.Proofs.YtggegpiffjbngaaGreat
open Go Go.Kx Go.RowKit
def offV (S:Nat->Prop) (g:Nat) (vs:List Value):Nat->Prop:=fun k=>S k/\k≠g/\∀ u∈vs,u.ownBlock≠some k
structure RwI (S:Nat->Prop) (base g:Nat) (W:World) (vs:List Value) (ls:List (List QV)):Prop where
 out:FB eRaw 32 (fun _=>True) W g vs
 len:vs.length=ls.length
 inn:∀ (i:Nat) (u:Value) (m:List QV),vs[i]?=some u->ls[i]?=some m->OwnL eQ 54 base (offV S g vs) W u m
 dis:∀ (i j:Nat) (u u':Value),i≠j->vs[i]?=some u->vs[j]?=some u'->∀ b,u.ownBlock=some b->u'.ownBlock≠some b
section
variable {S:Nat->Prop} {base g:Nat} {W W':World} {vs:List Value} {ls:List (List QV)}
theorem RwI.ext (h:RwI S base g W vs ls) (e:Ext W W'):RwI S base g W' vs ls:=⟨h.out.ext e,h.len,fun i u m h1 h2=>(h.inn i u m h1 h2).ext e,h.dis⟩
theorem RwI.ls_get (h:RwI S base g W vs ls) {i:Nat} {u:Value} (hi:vs[i]?=some u):∃ m,ls[i]?=some m:=by
 have h1:=(List.getElem?_eq_some_iff.1 hi).1
 rw [h.len] at h1
 exact ⟨_,List.getElem?_eq_getElem h1⟩
theorem RwI.own_lt (h:RwI S base g W vs ls) {u:Value} (hu:u∈vs) {b:Nat} (hb:u.ownBlock=some b):base<=b/\b<W.heap.size:=by
 obtain ⟨i,hi⟩:=List.mem_iff_getElem?.1 hu
 obtain ⟨m,hm⟩:=h.ls_get hi
 exact (h.inn i u m hi hm).own_lt hb
theorem RwI.ne_g (h:RwI S base g W vs ls) {u:Value} (hu:u∈vs):u.ownBlock≠some g:=fun hb=>by
 obtain ⟨i,hi⟩:=List.mem_iff_getElem?.1 hu
 obtain ⟨m,hm⟩:=h.ls_get hi
 obtain ⟨_,c1,k1⟩:=(h.inn i u m hi hm).blk hb
 obtain ⟨es,k2,_⟩:=h.out
 have e1:W.heap[g]?=some (.cells c1 54 (0,0)):=k1
 have e2:W.heap[g]?=some (.cells (cellsOf es).toArray 32 (0,0)):=k2
 rw [e1] at e2
 cases e2
theorem RwI.fresh {n:Nat} (f:FB eRaw 32 (fun _=>True) W g (List.replicate n (.slice none 0 0))):RwI S base g W (List.replicate n (.slice none 0 0)) (List.replicate n []):=by
 refine ⟨f,by simp,fun i u m h1 h2=>?_,fun i j u u' _ h1 _ b hb=>?_⟩
 ·rw [List.getElem?_replicate] at h1 h2
  split at h1
  ·rw [if_pos (by assumption)] at h2
   cases h1;cases h2
   exact OwnL.nil
  ·cases h1
 ·rw [List.getElem?_replicate] at h1
  split at h1
  ·cases h1;cases hb
  ·cases h1
theorem RwI.step {W'':World} {i:Nat} {u v':Value} {m:List QV} {x:QV} (h:RwI S base g W vs ls) (hi:vs[i]?=some u) (hm:ls[i]?=some m) (hv:OwnL eQ 54 base (offV S g vs) W' v' (m++[x])) (hg:W.grownBy W' u.ownBlock) (hob:v'.ownBlock=u.ownBlock\/v'.ownBlock=some W.heap.size)
  (fb:FB eRaw 32 (fun _=>True) W'' g (vs.set i v')) (hu:Upd W' W'' g):RwI S base g W'' (vs.set i v') (ls.set i (m++[x])):=by
 have hgl:=h.out.lt
 have hum:u∈vs:=List.mem_iff_getElem?.2 ⟨i,hi⟩
 have hil:=(List.getElem?_eq_some_iff.1 hi).1
 have hvg:v'.ownBlock≠some g:=fun e=>by
  rcases hob with h1 | h1
  ·rw [h1] at e;exact h.ne_g hum e
  ·rw [h1] at e;cases e;omega
 have mem:∀ u',u'∈vs.set i v'->u'=v'\/u'∈vs:=fun u' hu'=>by
  rcases List.mem_or_eq_of_mem_set hu' with h1 | h1
  ·exact .inr h1
  ·exact .inl h1
 have old:∀ (j:Nat) (u':Value) (b:Nat),j≠i->vs[j]?=some u'->v'.ownBlock=some b->u'.ownBlock≠some b:=fun j u' b hj h1 hb hb'=>by
  rcases hob with h2 | h2
  ·rw [h2] at hb;exact h.dis i j u u' (fun e=>hj e.symm) hi h1 b hb hb'
  ·rw [h2] at hb;cases hb
   have:=(h.own_lt (List.mem_iff_getElem?.2 ⟨j,h1⟩) hb').2
   omega
 refine ⟨fb,by rw [List.length_set,List.length_set,h.len],fun j u' m' h1 h2=>?_,fun j k u1 u2 hjk h1 h2 b hb=>?_⟩
 ·by_cases e:j=i
  ·subst e
   rw [List.getElem?_set_self hil] at h1
   rw [List.getElem?_set_self (by rw [<-h.len];exact hil)] at h2
   cases h1;cases h2
   refine hv.updX hu hvg fun k hk hne=>⟨hk.2.1,hk.1,hk.2.1,fun u' hu'=>?_⟩
   rcases mem u' hu' with rfl | h3
   ·exact hne
   ·exact hk.2.2 u' h3
  ·rw [List.getElem?_set_ne (fun h=>e h.symm)] at h1 h2
   have hum':u'∈vs:=List.mem_iff_getElem?.2 ⟨j,h1⟩
   have hj:=h.inn j u' m' h1 h2
   have hj':OwnL eQ 54 base (offV S g (vs.set i v')) W' u' m':=hj.grownX hg (fun b hb hb'=>h.dis i j u u' (fun e'=>e e'.symm) hi h1 b hb' hb) fun k hk hkl=>⟨hk.2.2 u hum,hk.1,hk.2.1,fun u2 hu2=>by
    rcases mem u2 hu2 with rfl | h3
    ·rcases hob with h4 | h4
     ·rw [h4];exact hk.2.2 u hum
     ·rw [h4];intro e';cases e';omega
    ·exact hk.2.2 u2 h3⟩
   exact hj'.updX hu (h.ne_g hum') fun k hk _=>⟨hk.2.1,hk⟩
 ·by_cases ej:j=i
  ·subst ej
   rw [List.getElem?_set_self hil] at h1
   cases h1
   rw [List.getElem?_set_ne hjk] at h2
   exact old k u2 b (fun e=>hjk e.symm) h2 hb
  ·rw [List.getElem?_set_ne (fun h=>ej h.symm)] at h1
   by_cases ek:k=i
   ·subst ek
    rw [List.getElem?_set_self hil] at h2
    cases h2
    intro hb'
    exact old j u1 b ej h1 hb' hb
   ·rw [List.getElem?_set_ne (fun h=>ek h.symm)] at h2
    exact h.dis j k u1 u2 hjk h1 h2 b hb
theorem RwI.toR {T:Nat->Prop} (h:RwI S base g W vs ls) (hg:T g) (hT:∀ k,base<=k->T k) (hS:∀ k,S k->T k) (hl:ls.length<=1000):eM.R T W (.slice (some ⟨g,0,none⟩) ls.length ls.length) ls:=by
 have ho:FB eRaw 32 T W g vs:=by
  obtain ⟨es,hb,he⟩:=h.out
  exact ⟨es,hb,he.1,fun i e x h1 h2=>he.2 i e x h1 h2⟩
 have hr:=ho.toR (hsz:=by decide) (c:=ls.length) hg (by rw [h.len];exact Nat.le_refl _) (by rw [h.len];omega)
 rw [h.len] at hr
 obtain ⟨es,he,hrow⟩:=hr
 have hes:es=vs:=List.ext_getElem? fun i=>by
  rcases Nat.lt_or_ge i es.length with hi | hi
  ·have h1:=List.getElem?_eq_getElem hi
   have h2:=List.getElem?_eq_getElem (l:=vs) (i:=i) (by rw [<-he.1];exact hi)
   have:=(he.2 i _ _ h1 h2).1
   rw [h1,h2,this]
  ·rw [List.getElem?_eq_none hi,List.getElem?_eq_none (by rw [<-he.1];exact hi)]
 subst hes
 refine ⟨es,⟨h.len,fun i e x h1 h2=>?_⟩,by rw [h.len] at hrow;exact hrow⟩
 exact (h.inn i e x h1 h2).toR hT fun k hk=>hS k hk.1
end
end Go.Proofs.YtggegpiffjbngaaGreat
namespace Go.Kx
open Go Go.RowKit
def Nw.lmL (n:Nw) (l:List Nat):RM:=fun b c=>l.foldl (fun s k=>s+n.g k*(n.inc k b*n.inc k c)) 0
theorem Nw.lmL_snoc (n:Nw) (l:List Nat) (k b c:Nat):n.lmL (l++[k]) b c=n.lmL l b c+n.g k*(n.inc k b*n.inc k c):=by unfold Nw.lmL;rw [List.foldl_append];rfl
theorem Nw.lmL_free {n:Nw} {p:List Nat} (b c:Nat):∀ j,(∀ k,k<j->(n.g k=0<->k∈p))->n.lmL (freeTo p j) b c=sumN j fun k=>n.g k*(n.inc k b*n.inc k c)
 | 0,_=>rfl
 | j+1,h=>by
  have ih:=Nw.lmL_free (n:=n) (p:=p) b c j fun k hk=>h k (by omega)
  have hj:=h j (by omega)
  rw [Go.Proofs.YtggegpiffjbngaaGreat.L3]
  show _=sumN j _+_
  by_cases hg:n.g j=0
  ·rw [if_pos (hj.1 hg),List.append_nil,ih]
   dsimp only
   rw [hg,Rat.zero_mul,Rat.add_zero]
  ·rw [if_neg (fun h=>hg (hj.2 h)),Nw.lmL_snoc,ih]
def upE (f:RM) (i j:Nat) (y:Rat):RM:=fun b c=>if b=i then (if c=j then y else f i c) else f b c
theorem AY9 {g:Rat} {s:Rat} {L:Nat} (h:Rsz g L) (hL:1<=L) (hs:s=0\/s=1\/s = -1):Rsz (g*s) L:=by
 rcases hs with rfl | rfl | rfl
 ·rw [Rat.mul_zero];exact Rsz.zero hL
 ·rw [Rat.mul_one];exact h
 ·rw [show g*(-1) = -g by grind];exact h.neg
theorem Nw.inc_tri (n:Nw) (k b:Nat):n.inc k b=0\/n.inc k b=1\/n.inc k b = -1:=by
 unfold Nw.inc dl
 split<;>split<;>grind
theorem Nw.lmL_rsz (n:Nw) {L:Nat} (hL:1<=L) (hg:∀ k,Rsz (n.g k) L) (b c:Nat) (l:List Nat):Rsz (n.lmL l b c) (1+l.length*(L+1)):=by
 have key:∀ (m:Nat) (l:List Nat),l.length=m->Rsz (n.lmL l b c) (1+m*(L+1)):=by
  intro m
  induction m with
  | zero=>intro l hl;rw [List.length_eq_zero_iff.1 hl];exact Rsz.zero (by omega)
  | succ m ih =>
   intro l hl
   obtain ⟨l',k,rfl⟩:∃ l' k,l=l'++[k]:=⟨l.dropLast,l.getLast (by intro e;rw [e] at hl;cases hl),(List.dropLast_concat_getLast _).symm⟩
   rw [Nw.lmL_snoc]
   have h1:=ih l' (by simp at hl;exact hl)
   have h2:Rsz (n.g k*(n.inc k b*n.inc k c)) L:=AY9 (hg k) hL (by
    rcases n.inc_tri k b with h | h | h<;>rcases n.inc_tri k c with h' | h' | h'<;>rw [h,h']<;>grind)
   refine (h1.add h2).mono ?_
   rw [Nat.add_mul];omega
 exact key _ l rfl
end Go.Kx
namespace Go.Proofs.YtggegpiffjbngaaGreat
open Go Go.Kx Go.RowKit
theorem nwOk.gsz {n:NtV} {o:List Int} (h:nwOk n o) (k:Nat):Rsz ((nwOf n o).g k) 1:=by
 show Rsz (if k∈oN o then (0:Rat) else ((n.ls.getD k ln0).x:Rat)⁻¹) 1
 have hx:1<=(n.ls.getD k ln0).x/\(n.ls.getD k ln0).x<=1000:=by
  rcases Nat.lt_or_ge k n.ls.length with hk | hk
  ·exact h.x k hk
  ·rw [List.getD_eq_getElem?_getD,List.getElem?_eq_none hk];decide
 split
 ·exact Rsz.zero (Nat.le_refl _)
 ·exact (Rsz.int _ (by omega) (Nat.le_refl _)).inv (Nat.le_refl _)
theorem Ay4:Ent Tryz.prog 138:=A0 Tryz.func138 (by kernel_rfl) rfl
theorem Aw4 {S:Nat->Prop} {w:World} {n d:Int} (up:Up S w) (hn1 : -9223372036854775808<=n) (hn2:n<=9223372036854775807) (hd1 : -9223372036854775808<=d) (hd2:d<=9223372036854775807) (hd:d≠0) :
  CR Tryz.prog 138 #[.int .i64 n,.int .i64 d] w (Two (eQ.at S (qc (Rat.divInt n d))) (Is (.int .i64 0))):=by
 refine enter Tryz.func138 O Tryz.ntmps138 O ?_
 refine .sr (.alloc O C7 fun w1 b4 n1=>.an O O ?_)
 obtain ⟨e1,k4,hb4,hs1⟩:=n1
 have hS4:¬ Sx S w.heap.size w1.heap.size b4:=Sx.no (by omega) (by omega)
 have up1:Up (Sx S w.heap.size w1.heap.size) w1:=Sx.up up (Nat.le_refl _) e1.size
 refine .seq (.sr (.mv O O (.eqlF O O O hd (.nil (.condF O (.skip (.sr (.mv O O ?_))))))))
 refine .call _ O E0 O (D7 up1 hn1 hn2) fun v2 w2 e2 h2=>.mv O O ?_
 refine .call _ O E0 O (D7 (up1.ext e2.size) hd1 hd2) fun v3 w3 e3 h3=>?_
 refine .call _ O AB2 O (Af7 (L:=2) (up1.ext (e2.trans e3).size) (Zv.of (ER.ext eZ h2 e3) (by omega)) (Zv.of h3 (by omega)) hd (by decide)) fun v5 w5 e5 h5=>?_
 have x5:=((e1.trans e2).trans e3).trans e5
 refine .storeA (E:=eQ) ty_Q O O (((k4.ext e2).ext e3).ext e5) O O h5 hS4 fun w6 k6 u6 h6=>.an O O (.ret ?_)
 exact .plain [_,_] Tryz.results138 ⟨⟨_,rfl,E1 (E:=eQ) ty_Q O O k6 h6⟩,rfl,trivial⟩ ⟨u6.below x5 (by omega),_,_,rfl,h6.out,rfl⟩
end Go.Proofs.YtggegpiffjbngaaGreat
namespace Go.Kx
open Go Go.RowKit
theorem BI2 {B i j:Nat} {f:RM} {y:Rat} (hi:i<B):(tabM B B f).set i ((tab B (f i)).set j (qc y))=tabM B B (upE f i j y):=by
 rw [U3,AB7 hi]
 rfl
end Go.Kx
namespace Go.Proofs.YtggegpiffjbngaaGreat
open Go Go.Kx Go.RowKit
end Go.Proofs.YtggegpiffjbngaaGreat
namespace Go.Kx
open Go Go.RowKit
theorem FB.new {α:Type} {E:ER α} {t:TypeId} {S:Nat->Prop} {w w1 w2:World} {g b:Nat} {l:List α} (h:FB E t S w g l) (e:Ext w w1) (u:Upd w1 w2 b) (hb:w.heap.size<=b):FB E t S w2 g l:=by
 have h1:=h.mono (S':=fun k=>S k/\k<w.heap.size) fun k hk hS=>⟨hS,hk⟩
 have hg:=h.lt
 have h2:=(h1.ext e).upd u (by omega) fun hS=>by have:=hS.2;omega
 exact h2.mono fun k _ hS=>hS.1
theorem AG0 (n:Nat):tab n (fun _=>0)=List.replicate n q0:=by
 unfold tab
 simp [R8,List.map_const']
end Go.Kx
namespace Go.Proofs.YtggegpiffjbngaaGreat
open Go Go.Kx Go.RowKit
theorem g_on {n:NtV} {o:List Int} {k:Nat} (hko:k∉oN o):(nwOf n o).g k=((n.ls.getD k ln0).x:Rat)⁻¹:=by
 show (if k∈oN o then (0:Rat) else ((n.ls.getD k ln0).x:Rat)⁻¹)=_
 rw [if_neg hko]
theorem mem_inL {n:NtV} {o:List Int} {k:Nat}:k∈inL n o<->k<n.ls.length/\k∉oN o:=by
 unfold inL freeTo
 rw [List.mem_filter,List.mem_range]
 simp
theorem fl_tab {n:NtV} {o:List Int} (ok:nwOk n o) (θ:Nat->Rat):tab n.ls.length (fun k=>if k∈inL n o then (nwOf n o).fl θ k else 0)=tab n.ls.length ((nwOf n o).fl θ):=F3 fun k hk=>by
 by_cases h:k∈inL n o
 ·rw [if_pos h]
 ·rw [if_neg h,Nw.fl_out ((ok.g0 hk).2 (Classical.byContradiction fun h'=>h (mem_inL.2 ⟨hk,h'⟩)))]
theorem BI1 {l:List Nat} {M i:Nat} {f:Nat->Rat} (hi:i<l.length):(tab M fun k=>if k∈l.take i then f k else 0).set (l.getD i 0) (qc (f (l.getD i 0)))=tab M fun k=>if k∈l.take (i+1) then f k else 0:=by
 rw [U3]
 refine F3 fun k _=>?_
 rw [show l.take (i+1)=l.take i++[l.getD i 0] by rw [List.take_add_one,A7 (z:=0) hi];rfl]
 by_cases e:k=l.getD i 0
 ·rw [if_pos e,if_pos (by rw [e];simp),e]
 ·rw [if_neg e]
  by_cases h:k∈l.take i
  ·rw [if_pos h,if_pos (List.mem_append.2 (.inl h))]
  ·rw [if_neg h,if_neg fun h'=>by
    rcases List.mem_append.1 h' with h' | h'
    ·exact h h'
    ·exact e (List.mem_singleton.1 h')]
end Go.Proofs.YtggegpiffjbngaaGreat
namespace Go.Kx
open Go Go.RowKit
section
variable {P:Program} {σ:Env} {w:World} {ty:TypeId} {pos:String} {af:Array Edge}
end
end Go.Kx
namespace Go.Proofs.YtggegpiffjbngaaGreat
open Go Go.Kx Go.RowKit
end Go.Proofs.YtggegpiffjbngaaGreat
namespace Go.Kx
open Go Go.RowKit
def Nw.gA (n:Nw):List (List QV):=tabM n.B n.B n.gm
def Nw.th (n:Nw) (b c:Nat):Rat:=rm (invM n.gA) c b
def Nw.hf (n:Nw) (k b:Nat):Rat:=n.fl (n.th b) k
end Go.Kx
namespace Go.Proofs.YtggegpiffjbngaaGreat
open Go Go.Kx Go.RowKit
section
variable {n:Nw}
theorem M7:n.gA.length=n.B:=B0 ..
theorem AQ4 (hB:1<=n.B):colsOf n.gA=n.B:=by unfold Nw.gA;rw [Ai6,if_neg (by omega)]
theorem rm_gA {i k:Nat} (hi:i<n.B) (hk:k<n.B):rm n.gA i k=n.gm i k:=by unfold Nw.gA;rw [Aj6,if_pos ⟨hi,hk⟩]
theorem Aw2 (ok:n.Ok) (hB:1<=n.B):invertible n.gA:=by
 have hc:=AQ4 hB
 rw [BL4 (by rw [hc,M7]),M7]
 have h1:=BE5 n.gA
 rw [hc] at h1
 rcases Nat.eq_zero_or_pos (nullM n.gA).length with h0 | hp
 ·omega
 exfalso
 rw [AW0] at hp
 obtain ⟨hk,hkp⟩:=BE8 hp
 rw [hc] at hk
 have hz:=Nw.ker0 (θ:=nv (redF n.gA) (redP n.gA) ((freeC n.gA).getD 0 0)) ok (fun b hb=>by
  have h2:=BD5 (m:=n.gA) (k:=(freeC n.gA).getD 0 0) (by rw [hc];exact hk) b
  rw [hc] at h2
  have h3:=Nw.gm_sum ok (nv (redF n.gA) (redP n.gA) ((freeC n.gA).getD 0 0)) hb
  have h4:sumN n.B (fun c=>rm n.gA b c*nv (redF n.gA) (redP n.gA) ((freeC n.gA).getD 0 0) c)=sumN n.B (fun c=>n.gm b c*nv (redF n.gA) (redP n.gA) ((freeC n.gA).getD 0 0) c):=A4 fun c hc'=>by rw [rm_gA hb hc']
  rw [<-h4,h2] at h3
  split
  ·rw [if_pos (by assumption)] at h3;exact h3.symm
  ·rw [if_neg (by assumption)] at h3;exact h3.symm) _ hk
 rw [nv_self (not_piv hkp)] at hz
 exact absurd hz (by decide)
theorem th_eq (ok:n.Ok) (hB:1<=n.B) {b i:Nat} (hb:b<n.B) (hi:i<n.B):(if n.root i=i then n.th b i else n.lap (n.th b) i)=dl i b:=by
 have h:=Ai1 (Aw2 ok hB) (i:=i) (k:=b) (by rw [M7];exact hi) (by rw [M7];exact hb)
 rw [M7] at h
 rw [<-Nw.gm_sum ok (n.th b) hi]
 have e:sumN n.B (fun c=>n.gm i c*n.th b c)=sumN n.B (fun j=>rm n.gA i j*rm (invM n.gA) j b):=A4 fun c hc=>by rw [rm_gA hi hc];rfl
 rw [e,h];rfl
end
theorem gA_mk {n:NtV} {o:List Int} (h:nwOk n o):mk_ 21 (nwOf n o).gA:=Ak1 fun b c hb hc=>by
 unfold Nw.gm
 split
 ·unfold dl
  split
  ·exact rsz1 (by decide)
  ·exact Rsz.zero (by decide)
 ·unfold Nw.Lm
  rw [<-Nw.lmL_free (p:=oN o) b c _ fun k hk=>h.g0 hk]
  refine ((nwOf n o).lmL_rsz (Nat.le_refl _) h.gsz b c _).mono ?_
  have:=Ai4 (oN o) (nwOf n o).M
  have:=h.m
  omega
theorem bd216:bd 21 6=87381:=by decide
theorem th_rsz {n:NtV} {o:List Int} (h:nwOk n o) (b c:Nat):Rsz ((nwOf n o).th b c) 87381:=by
 have:=inv_rsz (n:=6) (gA_mk h) (by decide) (by rw [M7];exact h.b6)
 rw [bd216] at this
 exact this.rsz (by decide) c b
theorem fl_rsz {n:NtV} {o:List Int} (h:nwOk n o) {θ:Nat->Rat} {L:Nat} (hθ:∀ c,Rsz (θ c) L) (k:Nat):Rsz ((nwOf n o).fl θ k) (2*L+2):=by
 unfold Nw.fl
 have h1:=(hθ ((nwOf n o).F k)).add (hθ ((nwOf n o).T k)).neg
 rw [<-Rat.sub_eq_add_neg] at h1
 exact ((h.gsz k).mul h1).mono (by omega)
open Classical in
noncomputable def sfE (n:NtV) (o:List Int) (l:Nat):Int:=if outE n o≠0 then outE n o else if (l:Int)<=n.b then 0 else 5
theorem BI7 {n:NtV} {o:List Int} {l:Nat} (h:sfE n o l=0):outE n o=0/\(l:Int)<=n.b:=by
 unfold sfE at h
 split at h
 ·exact absurd h (by assumption)
 ·split at h
  ·exact ⟨Classical.not_not.1 (by assumption),by assumption⟩
  ·cases h
end Go.Proofs.YtggegpiffjbngaaGreat
namespace Go.Kx
open Go Go.RowKit
def Nw.offL (n:Nw) (f:Nat->Rat) (l:List Nat) (b:Nat):Rat:=l.foldl (fun s k=>s+n.inc k b*f k) 0
theorem Nw.offL_snoc (n:Nw) (f:Nat->Rat) (l:List Nat) (k b:Nat):n.offL f (l++[k]) b=n.offL f l b+n.inc k b*f k:=by unfold Nw.offL;rw [List.foldl_append];rfl
theorem Nw.offL_zero {n:Nw} {f:Nat->Rat} {l:List Nat} {b:Nat}:∀ r:List Nat,(∀ k∈r,f k=0)->n.offL f (l++r) b=n.offL f l b:=by
 intro r
 induction r generalizing l with
 | nil=>intro _;rw [List.append_nil]
 | cons k r ih =>
  intro h
  rw [show l++k::r=(l++[k])++r by simp,ih fun k' hk'=>h k' (List.mem_cons_of_mem _ hk'),Nw.offL_snoc,h k (List.mem_cons_self ..),Rat.mul_zero,Rat.add_zero]
def Nw.offM (n:Nw) (f:Nat->Rat) (b:Nat):Rat:=n.off (fun k=>if n.g k=0 then 0 else f k) b
theorem Nw.offL_free {n:Nw} {f:Nat->Rat} {p:List Nat} (b:Nat):∀ j,(∀ k,k<j->(n.g k=0<->k∈p))->n.offL f (freeTo p j) b=sumN j fun k=>n.inc k b*(if n.g k=0 then 0 else f k)
 | 0,_=>rfl
 | j+1,h=>by
  have ih:=Nw.offL_free (n:=n) (f:=f) (p:=p) b j fun k hk=>h k (by omega)
  have hj:=h j (by omega)
  rw [Go.Proofs.YtggegpiffjbngaaGreat.L3]
  show _=sumN j _+_
  by_cases hg:n.g j=0
  ·rw [if_pos (hj.1 hg),List.append_nil,ih]
   dsimp only
   rw [if_pos hg,Rat.mul_zero,Rat.add_zero]
  ·rw [if_neg (fun h=>hg (hj.2 h)),Nw.offL_snoc,ih]
   dsimp only
   rw [if_neg hg]
theorem Nw.offL_rsz (n:Nw) {f:Nat->Rat} {L:Nat} (hL:1<=L) (hf:∀ k,Rsz (f k) L) (b:Nat) (l:List Nat):Rsz (n.offL f l b) (1+l.length*(L+1)):=by
 have key:∀ (m:Nat) (l:List Nat),l.length=m->Rsz (n.offL f l b) (1+m*(L+1)):=by
  intro m
  induction m with
  | zero=>intro l hl;rw [List.length_eq_zero_iff.1 hl];exact Rsz.zero (by omega)
  | succ m ih =>
   intro l hl
   obtain ⟨l',k,rfl⟩:∃ l' k,l=l'++[k]:=⟨l.dropLast,l.getLast (by intro e;rw [e] at hl;cases hl),(List.dropLast_concat_getLast _).symm⟩
   rw [Nw.offL_snoc]
   have h1:=ih l' (by simp at hl;exact hl)
   have h2:Rsz (n.inc k b*f k) L:=by rw [Rat.mul_comm];exact AY9 (hf k) hL (n.inc_tri k b)
   refine (h1.add h2).mono ?_
   rw [Nat.add_mul];omega
 exact key _ l rfl
theorem BL7 {n:NtV} {o:List Int} {i j:Nat} (h:i<j) (hj:j<(inL n o).length):(inL n o).getD i 0<(inL n o).getD j 0:=by
 have hp:(inL n o).Pairwise (·<·):=List.Pairwise.filter _ List.pairwise_lt_range
 have:=List.pairwise_iff_getElem.1 hp i j (by omega) hj h
 rw [List.getD_eq_getElem?_getD,List.getD_eq_getElem?_getD,List.getElem?_eq_getElem (by omega:i<_),List.getElem?_eq_getElem hj]
 exact this
end Go.Kx
namespace Go.Proofs.YtggegpiffjbngaaGreat
open Go Go.Kx Go.RowKit
open Classical in
noncomputable def noE (n:NtV) (o:List Int) (l:Nat):Int:=if outE n o≠0 then outE n o else if l<=n.ls.length then 0 else 5
theorem AS2:Ent Tryz.prog 40:=A0 Tryz.func40 (by kernel_rfl) rfl
theorem AQ6 {S T0:Nat->Prop} {w:World} {vn vo vf:Value} {n:NtV} {o:List Int} {f:List QV} {L:Nat} (up:Up S w) (upo:Up T0 w) (hn:eN.R S w vn n) (ho:eI.R S w vo o) (hf:eV.R S w vf f) (hkf:vk L f) (hL1:1<=L) (hL:L<=100000000) :
  CR Tryz.prog 40 #[vn,vo,vf] w (Two (eV.at T0 (if noE n o f.length=0 then tab (nwOf n o).B ((nwOf n o).offM (rv f)) else [])) (Is (.int .i64 (noE n o f.length)))):=by
 obtain ⟨s,rfl,hs,hb⟩:=hn
 have hn:eN.R S w (.agg #[.int .i64 n.b,s]) n:=⟨s,rfl,hs,hb⟩
 refine enter Tryz.func40 O Tryz.ntmps40 O ?_
 refine .sr (.box O O fun w1 b3 n1=>.asg O O (.an O O ?_))
 obtain ⟨e1,k3,hb3,hs1⟩:=n1
 refine .sr (.ldA ty_N O O k3 O (.mv O O ?_))
 refine .call _ O AI0 O (AG9 (up.ext e1.size) (hn.ext e1) (ho.ext e1)) fun v2 w2 e2 h2=>?_
 obtain ⟨vl,ve,rfl,hl,he⟩:=h2
 replace he:ve=.int .i64 (outE n o):=he
 subst he
 have x2:=e1.trans e2
 refine .mv O O (.ext O O O (.ext O O O (.asg O O (.an O O (.seq (.sr (.mv O O ?_)))))))
 by_cases hE:outE n o=0
 rotate_left
 ·have hb:noE n o f.length=outE n o:=by unfold noE;rw [if_pos hE]
  refine .neqT O O O hE (.nil (.condT O (.sr (.mv O O (.asg O O (.an O O (.ret ?_)))))))
  refine .plain [_,_] Tryz.results40 ⟨rfl,rfl,trivial⟩ ⟨x2,_,_,rfl,?_,by rw [hb];rfl⟩
  rw [if_neg (by rw [hb];exact hE)];exact RL.nil
 have ok:=T8 hE
 rw [if_pos hE] at hl
 have hB6:=ok.b6
 have hM10:n.ls.length<=10:=ok.m
 have hnb:=ok.b
 have hll:=AJ2 n o
 have k3:=k3.ext e2
 rw [hnb] at k3
 obtain ⟨_,_,_,_,hfl⟩:=RL.len hf
 refine .neqF O O O hE (.nil (.condF O (.skip (.seq (.sr (.mv O O (.lenR un_V O O (hf.ext x2) (.fa G5 O O (.ld J1 O O k3 O (.lenR I8 O O (hs.ext x2) ?_))))))))))
 by_cases hlen:f.length<=n.ls.length
 rotate_left
 ·have hb:noE n o f.length=5:=by unfold noE;rw [if_neg (by simpa using hE),if_neg hlen]
  refine .gtrT O O O (by omega) (.nil (.condT O (.sr (.asg O O (.an O O (.ret ?_))))))
  refine .plain [_,_] Tryz.results40 ⟨rfl,rfl,trivial⟩ ⟨x2,_,_,rfl,?_,by rw [hb]⟩
  rw [if_neg (by rw [hb];decide)];exact RL.nil
 have hno:noE n o f.length=0:=by unfold noE;rw [if_neg (by simpa using hE),if_pos hlen]
 rw [if_pos hno]
 refine .gtrF O O O (by omega) (.nil (.condF O (.skip (.sr (.fa G0 O O (.ld A5 O O k3 O ?_))))))
 refine .make_ _ _ un_V I9 O (by decide) O O O (Nat.le_refl _) (by omega) (by omega) fun w3 h n3=>.an O O ?_
 have f3:FB eQ 54 T0 w3 h (List.replicate (nwOf n o).B q0):=FB.made n3 zq_R
 obtain ⟨e3,_,hh,hs3⟩:=n3
 rw [<-AG0] at f3
 have hs2:=x2.size
 have hlW:∀ {W:World},Below w2.heap.size w2 W->eI.R (fun k=>S k/\k<w2.heap.size) W vl (pInts (inL n o)):=fun hB=>eI.keep (fun k c t f hk hh=>(hB.block k hk.2).trans hh) (ER.lt eI hl)
 have hsW:∀ {W:World},Below w2.heap.size w2 W->eLs.R (fun k=>S k/\k<w2.heap.size) W s n.ls:=fun hB=>eLs.keep (fun k c t f hk hh=>(hB.block k hk.2).trans hh) (ER.lt eLs (hs.ext x2))
 have hfW:∀ {W:World},Below w2.heap.size w2 W->eV.R (fun k=>S k/\k<w2.heap.size) W vf f:=fun hB=>eV.keep (fun k c t f hk hh=>(hB.block k hk.2).trans hh) (ER.lt eV (hf.ext x2))
 have hkW:∀ {W:World},Below w2.heap.size w2 W->Blk W b3 24 #[.int .i64 ((nwOf n o).B:Nat),s]:=fun hB=>(hB.block b3 k3.lt).trans k3
 have hfs:∀ k,Rsz (rv f k) L:=fun k=>hkf.rsz hL1 k
 have hall:∀ i,(∀ k∈(inL n o).drop i,rv f k=0)->tab (nwOf n o).B ((nwOf n o).offL (rv f) ((inL n o).take i))=tab (nwOf n o).B ((nwOf n o).offM (rv f)):=fun i h0=>F3 fun b _=>by
  have h1:=Nw.offL_zero (n:=nwOf n o) (f:=rv f) (l:=(inL n o).take i) (b:=b) _ h0
  rw [List.take_append_drop] at h1
  rw [<-h1]
  exact Nw.offL_free (p:=oN o) b _ fun k hk=>ok.g0 hk
 refine .mid (α:=Unit) (fun _=>[(10,slB (nwOf n o).B h)]) (fun _ W=>Below w2.heap.size w2 W/\FB eQ 54 T0 W h (tab (nwOf n o).B ((nwOf n o).offM (rv f)))) ?_ ?_
 rotate_left
 ·rintro _ W ⟨hW,fb⟩
  refine .sr (.mv O O (.asg O O (.an O O (.ret ?_))))
  refine .plain [_,_] Tryz.results40 ⟨rfl,rfl,trivial⟩ ⟨x2.trans hW,_,_,rfl,?_,by rw [hno]⟩
  have:=fb.toR (hsz:=by decide) (c:=(nwOf n o).B) (upo h (by omega)) (by rw [A2];exact Nat.le_refl _) (by rw [A2];omega)
  rw [A2] at this
  exact this
 refine .sr (.mv O O (.lenR un_I O O (hlW e3) (.mv O O (.nil ?_))))
 rw [show (pInts (inL n o)).length=(inL n o).length by simp]
 refine .block (.loop (α:=Nat) (fun i=>[(2,vf),(3,.pointer (some ⟨b3,0,none⟩)),(10,slB (nwOf n o).B h),(32,vl),(33,.int .i64 ((inL n o).length:Nat)),(34,.int .i64 (i:Nat))]) (fun i W=>Below w2.heap.size w2 W/\i<=(inL n o).length/\FB eQ 54 T0 W h (tab (nwOf n o).B ((nwOf n o).offL (rv f) ((inL n o).take i)))) (fun i=>(inL n o).length-i) 0 ?_ ?_ ?_)
 ·exact lkA rfl
 ·exact ⟨e3,Nat.zero_le _,f3⟩
 rintro i W ⟨hW,hi,fb⟩
 have hWs:=hW.size
 have hhl:=fb.lt
 refine .sr ?_
 rcases Nat.lt_or_ge i (inL n o).length with hlt | hge
 rotate_left
 ·refine .lssF O O O (by omega) (.nil (.seq (.condF O (.exit ?_))))
  rw [hall i (by rw [List.drop_eq_nil_of_le hge];intro k hk;cases hk)] at fb
  exact ⟨rfl,(),lkA rfl,hW,fb⟩
 obtain ⟨hgk,hkM,hko⟩:=AQ0 hlt
 refine .lssT O O O (by omega) (.nil (.seq (.condT O (.skip (.seq (.block (.sr (.ixN (i:=i) un_I C9 O O (hlW hW) O hgk fun q hq=>.ldE (E:=eInt .i64) C9 O O hq fun e he=>.an O O ?_))))))))
 obtain ⟨rfl,_⟩:=he
 refine .seq (.sr (.mv O O (.mv O O (.lenR un_V O O (hfW hW) ?_))))
 by_cases hkl:f.length<=(inL n o).getD i 0
 ·refine .geqT O O O (by omega) (.nil (.condT O (.exit ?_)))
  rw [hall i fun k hk=>by
   obtain ⟨j,hj⟩:=List.mem_iff_getElem?.1 hk
   rw [List.getElem?_drop] at hj
   have hjl:=(List.getElem?_eq_some_iff.1 hj).1
   have hjv:(inL n o).getD (i+j) 0=k:=by rw [List.getD_eq_getElem?_getD,hj];rfl
   refine AM4 ?_
   rcases Nat.eq_zero_or_pos j with h0 | h0
   ·subst h0;rw [<-hjv];exact hkl
   ·have:=BL7 (n:=n) (o:=o) (show i<i+j by omega) hjl
    omega] at fb
  exact ⟨rfl,(),lkA rfl,hW,fb⟩
 have htk:(inL n o).take (i+1)=(inL n o).take i++[(inL n o).getD i 0]:=by rw [List.take_add_one,A7 (z:=0) hlt];rfl
 have hgl:n.ls[(inL n o).getD i 0]?=some (n.ls.getD ((inL n o).getD i 0) ln0):=A7 hkM
 have hFI:=ok.fI _ hkM
 have hTI:=ok.tI _ hkM
 have hFB:=ok.f _ hkM
 have hTB:=ok.t _ hkM
 have hne:=ok.ne _ hkM
 have hbnd:1+10*(L+1)<=10000000000:=by omega
 have hus:∀ b,Rsz ((nwOf n o).offL (rv f) ((inL n o).take i) b) (1+10*(L+1)):=fun b=>((nwOf n o).offL_rsz hL1 hfs b _).mono (by
  rw [List.length_take]
  have:=Nat.mul_le_mul_right (L+1) (show min i (inL n o).length<=10 by omega)
  omega)
 have hfk:=hkf.get hL1 ((inL n o).getD i 0)
 have hfg:f[(inL n o).getD i 0]?=some (f.getD ((inL n o).getD i 0) q0):=A7 (by omega)
 generalize hk:(inL n o).getD i 0=k at htk hgl hFI hTI hFB hTB hne hkl hfk hfg hkM
 generalize hu:(nwOf n o).offL (rv f) ((inL n o).take i)=u at fb hus
 generalize hln:n.ls.getD k ln0=ln at hgl hFI hTI
 refine .geqF O O O (by omega) (.nil (.condF O (.skip (.sr (.fa G5 O O (.ld J1 O O (hkW hW) O (.mv O O (.ixN (i:=k) I8 K8 O O (hsW hW) O hgl fun q hq=>.ldE (E:=eL) K8 O O hq fun vl' hvl=>.alloc O AY6 fun W1 c n1'=>?_))))))))
 obtain ⟨g1,kc,hc,hs1'⟩:=n1'
 refine .storeA (E:=eL) (S:=fun k=>k≠c) (z:=ln) K8 O O kc O O hvl (fun h=>h O) fun W2 kc u2 hl2=>.nil ?_
 obtain ⟨rfl,_⟩:=hl2
 rw [hFI,hTI] at kc
 replace kc:Blk W2 c 58 #[.int .i64 ((nwOf n o).F k:Nat),.int .i64 ((nwOf n o).T k:Nat),.int .i64 ln.x,.int .i64 ln.c]:=kc
 have hs2':=u2.size
 have fb:=fb.new g1 u2 (by omega)
 have hW2:Below w2.heap.size w2 W2:=u2.below (hW.trans (g1.mono (by omega))) (by omega)
 have upT:∀ {W':World},W2.heap.size<=W'.heap.size->Up (fun k=>T0 k/\k≠h) W':=fun hs k' hk'=>⟨upo k' (by omega),by omega⟩
 have hqa:∀ b,qok (1+10*(L+1)) (qc (u b)):=fun b=>(hus b).toOk
 have hqf:qok (1+10*(L+1)) (f.getD k q0):=hfk.1.mono (by omega)
 refine .seq ?_
 refine .par follows 13 [.inl (slB (nwOf n o).B h),.inl (.pointer (some ⟨c,0,none⟩)),.inl (.int .i64 ((nwOf n o).F k:Nat)),.inl (slB (nwOf n o).B h),.inl (.pointer (some ⟨c,0,none⟩)),.inl (.int .i64 ((nwOf n o).F k:Nat)),.inl (.pointer (some ⟨h,0+((nwOf n o).F k)*4,none⟩)),.inr (eQ.at (fun k=>T0 k/\k≠h) (qc (u ((nwOf n o).F k)))),.inl _,.inl (.int .i64 (k:Nat)),.inr (Ptr eQ (fun k=>S k/\k<w2.heap.size) (f.getD k q0)),.inr (eQ.at (fun k=>S k/\k<w2.heap.size) (f.getD k q0)),.inr (eQ.at (fun k=>T0 k/\k≠h) (qc (u ((nwOf n o).F k)+rv f k)))] [[],[],[(48,1)],[],[],[(51,4)],[(50,3),(52,5)],[(53,6)],[],[],[(55,8),(56,9)],[(57,10)],[(54,7),(58,11)]] (by kernel_rfl) ⟨
  fun w e=>(v_mv O).ob,
  fun w e=>(v_fa N4 O).ob,
  fun w e=>(v_ld A5 O (kc.ext e) O).ob,
  fun w e=>(v_mv O).ob,
  fun w e=>(v_fa N4 O).ob,
  fun w e=>(v_ld A5 O (kc.ext e) O).ob,
  fun w e=>(N1 (i:=(nwOf n o).F k) un_V ty_Q O O hFB).ob,
  fun w e=>AD6 (E:=eQ) (i:=(nwOf n o).F k) (by decide) ty_Q O (Nat.zero_add _) (fb.ext e) (by rw [L6 hFB]),
  fun w e=>(v_mv O).ob,
  fun w e=>(v_mv O).ob,
  fun w e=>C2 (i:=k) un_V ty_Q O (ER.ext eV (hfW hW2) e) O hfg,
  fun w e x10 hx10=>L1 ty_Q O hx10,
  fun w e x7 hx7 x11 hx11=>by
   have:=Ad0 (S:=fun _=>True) (L:=1+10*(L+1)) (fun _ _=>trivial) (upT (by have:=e.size;omega)) (eQ.mono (fun _ _ _=>trivial) hx7) (eQ.mono (fun _ _ _=>trivial) hx11) (hqa _) hqf (by omega) (by omega)
   rw [D9] at this
   exact (A1 _ AF1 O this).ob (A3 _ _ _),trivial⟩ ?_
 intro X0 g0_ x7 hx7 x10 hx10 x11 hx11 x12 hx12
 refine .ixB (i:=(nwOf n o).F k) un_V ty_Q O O O hFB (.storeF (E:=eQ) (i:=(nwOf n o).F k) (by decide) ty_Q O O (fb.ext g0_) O (by rw [A2];exact hFB) (Nat.zero_add _) hx12 fun Y0 fy0 uy0=>.nil ?_)
 rw [U3] at fy0
 have sx0:=g0_.size
 have sy0:=uy0.size
 have hW2:Below w2.heap.size w2 Y0:=uy0.below (hW2.trans (g0_.mono (by omega))) (by omega)
 have kc:=(kc.ext g0_).upd uy0 (by omega)
 have fb:=fy0
 refine .par follows 13 [.inl (slB (nwOf n o).B h),.inl (.pointer (some ⟨c,1,none⟩)),.inl (.int .i64 ((nwOf n o).T k:Nat)),.inl (slB (nwOf n o).B h),.inl (.pointer (some ⟨c,1,none⟩)),.inl (.int .i64 ((nwOf n o).T k:Nat)),.inl (.pointer (some ⟨h,0+((nwOf n o).T k)*4,none⟩)),.inr (eQ.at (fun k=>T0 k/\k≠h) (qc (u ((nwOf n o).T k)))),.inl _,.inl (.int .i64 (k:Nat)),.inr (Ptr eQ (fun k=>S k/\k<w2.heap.size) (f.getD k q0)),.inr (eQ.at (fun k=>S k/\k<w2.heap.size) (f.getD k q0)),.inr (eQ.at (fun k=>T0 k/\k≠h) (qc (u ((nwOf n o).T k)-rv f k)))] [[],[],[(62,1)],[],[],[(65,4)],[(64,3),(66,5)],[(67,6)],[],[],[(69,8),(70,9)],[(71,10)],[(68,7),(72,11)]] (by kernel_rfl) ⟨
  fun w e=>(v_mv O).ob,
  fun w e=>(v_fa N3 O).ob,
  fun w e=>(v_ld A5 O (kc.ext e) O).ob,
  fun w e=>(v_mv O).ob,
  fun w e=>(v_fa N3 O).ob,
  fun w e=>(v_ld A5 O (kc.ext e) O).ob,
  fun w e=>(N1 (i:=(nwOf n o).T k) un_V ty_Q O O hTB).ob,
  fun w e=>AD6 (E:=eQ) (i:=(nwOf n o).T k) (by decide) ty_Q O (Nat.zero_add _) (fb.ext e) (by rw [L6 hTB,if_neg (Ne.symm hne)]),
  fun w e=>(v_mv O).ob,
  fun w e=>(v_mv O).ob,
  fun w e=>C2 (i:=k) un_V ty_Q O (ER.ext eV (hfW hW2) e) O hfg,
  fun w e x10 hx10=>L1 ty_Q O hx10,
  fun w e x7 hx7 x11 hx11=>by
   have:=Ac6 (S:=fun _=>True) (L:=1+10*(L+1)) (fun _ _=>trivial) (upT (by have:=e.size;omega)) (eQ.mono (fun _ _ _=>trivial) hx7) (eQ.mono (fun _ _ _=>trivial) hx11) (hqa _) hqf (by omega) (by omega)
   rw [D9] at this
   exact (A1 _ Ae6 O this).ob (A3 _ _ _),trivial⟩ ?_
 intro X1 g1_ x7 hx7 x10 hx10 x11 hx11 x12 hx12
 refine .ixB (i:=(nwOf n o).T k) un_V ty_Q O O O hTB (.storeF (E:=eQ) (i:=(nwOf n o).T k) (by decide) ty_Q O O (fb.ext g1_) O (by rw [A2];exact hTB) (Nat.zero_add _) hx12 fun Y1 fy1 uy1=>.nil ?_)
 rw [U3] at fy1
 have sx1:=g1_.size
 have sy1:=uy1.size
 have hW2:Below w2.heap.size w2 Y1:=uy1.below (hW2.trans (g1_.mono (by omega))) (by omega)
 have kc:=(kc.ext g1_).upd uy1 (by omega)
 have fb:=fy1
 have hstep:(tab (nwOf n o).B fun b=>if b=(nwOf n o).T k then u ((nwOf n o).T k)-rv f k else if b=(nwOf n o).F k then u ((nwOf n o).F k)+rv f k else u b)=tab (nwOf n o).B ((nwOf n o).offL (rv f) ((inL n o).take (i+1))):=F3 fun b _=>by
  rw [htk,Nw.offL_snoc,hu]
  unfold Nw.inc dl
  generalize (nwOf n o).F k=F at *
  generalize (nwOf n o).T k=T at *
  by_cases h1:b=T
  ·subst h1
   rw [if_pos rfl,if_neg hne,if_pos rfl];grind
  ·rw [if_neg h1]
   by_cases h2:b=F
   ·subst h2
    rw [if_pos rfl,if_pos rfl,if_neg (Ne.symm hne)];grind
   ·rw [if_neg h2,if_neg (Ne.symm h2),if_neg (Ne.symm h1)];grind
 rw [hstep] at fb
 refine .region (.add O O O (.mv O O (.nil ?_)))
 rw [wI (by omega)]
 exact ⟨rfl,i+1,lkA rfl,⟨hW2,hlt,fb⟩,by show (inL n o).length-(i+1)<(inL n o).length-i;omega⟩
theorem AJ6:fldOf Tryz.prog 102 0=some 0:=by kernel_rfl
theorem ty_Br:tyOf Tryz.prog 102=some (true,4):=by kernel_rfl
theorem Ax8 {a b c d:Value}:bldOf Tryz.prog 102 [(0,.agg #[a,b,c,d])]=some #[a,b,c,d]:=by kernel_rfl
@[reducible] def brV (f t x c:Int):Value:=.agg #[.int .i64 f,.int .i64 t,.int .i64 x,.int .i64 c]
def brE (f t b:Int):Int:=if b=f then 1 else if b=t then -1 else 0
theorem Au0:Ent Tryz.prog 161:=A0 Tryz.func161 (by kernel_rfl) rfl
theorem Ar7 {w:World} {f t x c b:Int}:CR Tryz.prog 161 #[brV f t x c,.int .i64 b] w (Is (.int .i64 (brE f t b))):=by
 refine enter Tryz.func161 O Tryz.ntmps161 O (.beg (.go O (.box O O fun w1 b2 n1=>?_)))
 obtain ⟨e1,k2,_,_⟩:=n1
 refine .go O (.fa AJ6 O O (.fa N4 O O (.ld A5 O O k2 O ?_)))
 by_cases h:b=f
 ·refine .eqlT O O O h (.goE O ?_)
  exact .plain [_] Tryz.results161 ⟨rfl,trivial⟩ ⟨e1,by unfold brE;rw [if_pos h];rfl⟩
 refine .eqlF O O O h (.go O (.fa AJ6 O O (.fa N3 O O (.ld A5 O O k2 O ?_))))
 by_cases h':b=t
 ·refine .eqlT O O O h' (.goE O ?_)
  exact .plain [_] Tryz.results161 ⟨rfl,trivial⟩ ⟨e1,by unfold brE;rw [if_neg h,if_pos h'];rfl⟩
 ·refine .eqlF O O O h' (.goE O ?_)
  exact .plain [_] Tryz.results161 ⟨rfl,trivial⟩ ⟨e1,by unfold brE;rw [if_neg h,if_neg h'];rfl⟩
theorem brE_mul (f t a b:Int):brE f t a*brE f t b=0\/brE f t a*brE f t b=1\/brE f t a*brE f t b = -1:=by
 unfold brE
 split<;>split<;>(try split)<;>(try split)<;>simp
theorem Ay6:Ent Tryz.prog 100:=A0 Tryz.func100 (by kernel_rfl) rfl
theorem Ax6 {S:Nat->Prop} {w:World} {f t x c a b:Int} (up:Up S w) (hx:1<=x) (hx2:x<=1000):CR Tryz.prog 100 #[brV f t x c,.int .i64 a,.int .i64 b] w (eQ.at S (qc (Rat.divInt (brE f t a*brE f t b) x))):=by
 have hm:=brE_mul f t a b
 refine enter Tryz.func100 O Tryz.ntmps100 O (.beg (.go O (.box O O fun w1 b3 n1=>.go O (.alloc O C7 fun w2 b6 n2=>.goC O ?_))))
 obtain ⟨e1,k3,hb3,hs1⟩:=n1
 obtain ⟨e2,k6,hb6,hs2⟩:=n2
 have x2:=e1.trans e2
 have hx2s:=x2.size
 have k3:=k3.ext e2
 have upT:∀ {W:World},w2.heap.size<=W.heap.size->Up (fun k=>S k/\k≠b6) W:=fun h k hk=>⟨up k (by omega),by omega⟩
 refine .parL follows 15 [13] [.inl (brV f t x c),.inl _,.inl (.int .i64 (brE f t a)),.inl (brV f t x c),.inl _,.inl (.int .i64 (brE f t b)),.inl (.int .i64 (brE f t a*brE f t b)),.inl (.pointer (some ⟨b3,0,none⟩)),.inl (.pointer (some ⟨b3,2,none⟩)),.inl (.int .i64 x),.inr (Two (eQ.at (fun k=>S k/\k≠b6) (qc (Rat.divInt (brE f t a*brE f t b) x))) (Is (.int .i64 0))),.inr (Two (eQ.at (fun k=>S k/\k≠b6) (qc (Rat.divInt (brE f t a*brE f t b) x))) (Is (.int .i64 0))),.inr (eQ.at (fun k=>S k/\k≠b6) (qc (Rat.divInt (brE f t a*brE f t b) x))),.inl (.int .i64 0),.inr (NewP w2.heap.size 54 zq.cells)] [[],[],[(10,0),(11,1)],[],[],[(13,3),(14,4)],[(12,2),(15,5)],[],[(17,7)],[(18,8)],[(16,6),(19,9)],[(20,10)],[(9,11)],[(9,11)],[]] (by kernel_rfl) ⟨
  fun w e=>(B5 ty_Br O (k3.ext e) O).ob,
  fun w e=>(v_mv O).ob,
  fun w e=>(A1 _ Au0 O Ar7).obIs,
  fun w e=>(B5 ty_Br O (k3.ext e) O).ob,
  fun w e=>(v_mv O).ob,
  fun w e=>(A1 _ Au0 O Ar7).obIs,
  fun w e=>((BH6 O O).eq (by rw [wI (by omega)])).ob,
  fun w e=>(v_fa AJ6 O).ob,
  fun w e=>(v_fa AD9 O).ob,
  fun w e=>(v_ld Q6 O (k3.ext e) O).ob,
  fun w e=>(A1 _ Ay4 O (Aw4 (upT e.size) (by omega) (by omega) (by omega) (by omega) (by omega))).ob (X2 (A3 _ _ _) (AK2 _)),
  fun w e x10 hx10=>K4 (v_mv O) hx10 (X2 (A3 _ _ _) (AK2 _)),
  fun w e x11 hx11=>by
   obtain ⟨p,q,rfl,hp,hq⟩:=hx11
   exact K4 (v_ex O O) hp (A3 _ _ _),
  fun w e x11 hx11=>by
   obtain ⟨p,q,rfl,hp,hq⟩:=hx11
   exact ((v_ex O O).eq hq).ob,
  fun w e=>AB8 C7 e.size,trivial⟩ ?_
 rintro W3 g3 _ _ _ _ y hy _ ⟨b7,rfl,hb7,k7⟩
 have hy':=Ax1 hy k7 AS4
 refine .storeA (E:=eQ) ty_Q O O k7 O O hy' (fun h=>h.2 O) fun W4 k7 u4 hy=>?_
 have hs3:=g3.size
 have hs4:=u4.size
 have hy:eQ.R (fun k=>S k/\k≠b6) W4 y _:=eQ.mono (fun _ _ h=>h.1) hy
 have hyv:=shpA (E:=eQ) O hy
 have k6:=(k6.ext g3).upd u4 (by omega)
 have x4:Ext w W4:=u4.below (x2.trans g3) (by omega)
 refine .go O (.ldA ty_Q O O k7 (eQ.csz hy) ?_)
 rw [<-hyv]
 refine .storeA (E:=eQ) ty_Q O O k6 O O hy (fun h=>h.2 O) fun W5 k6 u5 hy=>.goE O ?_
 exact .cell Tryz.results100 O ty_Q O O k6 hy ⟨u5.below x4 (by omega),eQ.mono (fun _ _ h=>h.1) hy⟩
theorem BG5:Ent Tryz.prog 101:=A0 Tryz.func101 (by kernel_rfl) rfl
theorem BG1 {S T0:Nat->Prop} {w:World} {x c:Int} {f t L:Nat} {vθ:Value} {θ:List QV} (up:Up S w) (upo:Up T0 w) (hθ:eV.R S w vθ θ) (hk:vk L θ) (hf:f<θ.length) (ht:t<θ.length) (hx:1<=x) (hx2:x<=1000) (hL:1<=L) (hL2:L<=1000000000) :
  CR Tryz.prog 101 #[brV (f:Nat) (t:Nat) x c,vθ] w (eQ.at T0 (qc ((rv θ f-rv θ t) / ((x:Int):Rat)))):=by
 refine enter Tryz.func101 O Tryz.ntmps101 O (.beg (.go O (.box O O fun w1 b2 n1=>.go O (.alloc O C7 fun w2 b4 n2=>.goC O ?_))))
 obtain ⟨e1,k2,hb2,hs1⟩:=n1
 obtain ⟨e2,k4,hb4,hs2⟩:=n2
 have x2:=e1.trans e2
 have hx2s:=x2.size
 have k2:=k2.ext e2
 have upT:∀ {W:World},w2.heap.size<=W.heap.size->Up (fun k=>S k/\k≠b4) W:=fun h k hk=>⟨up k (by omega),by omega⟩
 have upoT:∀ {W:World},w2.heap.size<=W.heap.size->Up (fun k=>T0 k/\k≠b4) W:=fun h k hk=>⟨upo k (by omega),by omega⟩
 have hθ:eV.R (fun k=>S k/\k≠b4) w2 vθ θ:=eV.mono (fun k _ h=>⟨h.1,by have:=h.2;omega⟩) (ER.ext eV (ER.lt eV hθ) x2)
 have hgf:θ[f]?=some (θ.getD f q0):=A7 hf
 have hgt:θ[t]?=some (θ.getD t q0):=A7 ht
 have hqf:=hk.get hL f
 have hqt:=hk.get hL t
 have hx0:((x:Int):Rat)≠0:=fun e=>by
  have:x=0:=by exact_mod_cast e
  omega
 have hrz:∀ b,Rsz (rv θ b) L:=fun b=>hk.rsz hL b
 have hd:Rsz (rv θ f-rv θ t) (L+L+1):=by
  rw [Rat.sub_eq_add_neg]
  exact (hrz _).add (hrz _).neg
 have hr1:Rsz ((x:Int):Rat) (L+L+1):=Rsz.int _ (Nat.lt_of_lt_of_le (by omega:x.natAbs<4294967296 ^ 1) (Nat.pow_le_pow_right (by decide) (by omega))) (by omega)
 refine .parL follows 22 [20] [.inl _,.inl (.pointer (some ⟨b2,0,none⟩)),.inl (.pointer (some ⟨b2,0,none⟩)),.inl (.int .i64 (f:Nat)),.inr (Ptr eQ (fun k=>S k/\k≠b4) (θ.getD f q0)),.inr (eQ.at (fun k=>S k/\k≠b4) (θ.getD f q0)),.inl _,.inl (.pointer (some ⟨b2,0,none⟩)),.inl (.pointer (some ⟨b2,1,none⟩)),.inl (.int .i64 (t:Nat)),.inr (Ptr eQ (fun k=>S k/\k≠b4) (θ.getD t q0)),.inr (eQ.at (fun k=>S k/\k≠b4) (θ.getD t q0)),.inr (eQ.at (fun k=>S k/\k≠b4) (qc (rv θ f-rv θ t))),.inl (.pointer (some ⟨b2,0,none⟩)),.inl (.pointer (some ⟨b2,2,none⟩)),.inl (.int .i64 x),.inr (eQ.at (fun k=>S k/\k≠b4) (qc ((x:Int):Rat))),.inr (Two (eQ.at (fun k=>T0 k/\k≠b4) (qc ((rv θ f-rv θ t) / ((x:Int):Rat)))) (Is (.int .i64 0))),.inr (Two (eQ.at (fun k=>T0 k/\k≠b4) (qc ((rv θ f-rv θ t) / ((x:Int):Rat)))) (Is (.int .i64 0))),.inr (eQ.at (fun k=>T0 k/\k≠b4) (qc ((rv θ f-rv θ t) / ((x:Int):Rat)))),.inl (.int .i64 0),.inr (NewP w2.heap.size 54 zq.cells)] [[],[],[(9,1)],[(10,2)],[(8,0),(11,3)],[(12,4)],[],[],[(15,7)],[(16,8)],[(14,6),(17,9)],[(18,10)],[(13,5),(19,11)],[],[(21,13)],[(22,14)],[(23,15)],[(20,12),(24,16)],[(25,17)],[(7,18)],[(7,18)],[]] (by kernel_rfl) ⟨
  fun w e=>(v_mv O).ob,
  fun w e=>(v_fa AJ6 O).ob,
  fun w e=>(v_fa N4 O).ob,
  fun w e=>(v_ld A5 O (k2.ext e) O).ob,
  fun w e=>C2 (i:=f) un_V ty_Q O (ER.ext eV hθ e) O hgf,
  fun w e x4 hx4=>L1 ty_Q O hx4,
  fun w e=>(v_mv O).ob,
  fun w e=>(v_fa AJ6 O).ob,
  fun w e=>(v_fa N3 O).ob,
  fun w e=>(v_ld A5 O (k2.ext e) O).ob,
  fun w e=>C2 (i:=t) un_V ty_Q O (ER.ext eV hθ e) O hgt,
  fun w e x10 hx10=>L1 ty_Q O hx10,
  fun w e x5 hx5 x11 hx11=>(A1 _ Ae6 O (Aw3 (L:=L) (upT e.size) hx5 hx11 hqf.1 hqt.1 hL (by omega))).ob (A3 _ _ _),
  fun w e=>(v_fa AJ6 O).ob,
  fun w e=>(v_fa AD9 O).ob,
  fun w e=>(v_ld Q6 O (k2.ext e) O).ob,
  fun w e=>(A1 _ M5 O (M1 (upT e.size) (by omega) (by omega))).ob (A3 _ _ _),
  fun w e x12 hx12 x16 hx16=>by
   have:=Ac9 (L:=L+L+1) (upT e.size) (upoT e.size) hx12 hx16 hd.toOk hr1.toOk (by omega) (by omega) (by rw [D9];exact hx0)
   rw [D9,D9] at this
   exact (A1 _ Ae9 O this).ob (X2 (A3 _ _ _) (AK2 _)),
  fun w e x17 hx17=>K4 (v_mv O) hx17 (X2 (A3 _ _ _) (AK2 _)),
  fun w e x18 hx18=>by
   obtain ⟨p,q,rfl,hp,hq⟩:=hx18
   exact K4 (v_ex O O) hp (A3 _ _ _),
  fun w e x18 hx18=>by
   obtain ⟨p,q,rfl,hp,hq⟩:=hx18
   exact ((v_ex O O).eq hq).ob,
  fun w e=>AB8 C7 e.size,trivial⟩ ?_
 rintro W3 g3 _ _ _ _ _ _ _ _ _ _ _ _ _ _ _ _ y hy _ ⟨b5,rfl,hb5,k5⟩
 have hy':=Ax1 hy k5 AS4
 refine .storeA (E:=eQ) ty_Q O O k5 O O hy' (fun h=>h.2 O) fun W4 k5 u4 hy=>?_
 have hs3:=g3.size
 have hs4:=u4.size
 have hy:eQ.R (fun k=>T0 k/\k≠b4) W4 y _:=eQ.mono (fun _ _ h=>h.1) hy
 have hyv:=shpA (E:=eQ) O hy
 have k4:=(k4.ext g3).upd u4 (by omega)
 have x4:Ext w W4:=u4.below (x2.trans g3) (by omega)
 refine .go O (.ldA ty_Q O O k5 (eQ.csz hy) ?_)
 rw [<-hyv]
 refine .storeA (E:=eQ) ty_Q O O k4 O O hy (fun h=>h.2 O) fun W5 k4 u5 hy=>.goE O ?_
 exact .cell Tryz.results101 O ty_Q O O k4 hy ⟨u5.below x4 (by omega),eQ.mono (fun _ _ h=>h.1) hy⟩
theorem BJ0 {S:Nat->Prop} {w W:World} {v:Value} {a:List QV} {B:Nat} (h:ResP S w.heap.size ((B:Nat):Int) a v W) (up:Up S w) (h1:1<=B) (h2:B<=60000):eV.R S W v (tab B (rv a)):=by
 rcases h with ⟨h,_⟩ | ⟨_,g,N,hN,hg,rfl,hf⟩
 ·omega
 ·have hNB:N=B:=by omega
  subst hNB
  have:=hf.toR (hsz:=by decide) (c:=N) (up g hg) (by rw [A2];exact Nat.le_refl _) (by rw [A2];omega)
  rw [A2] at this
  exact this
theorem vk_res {L B:Nat} {a:List QV} (h:vk L a) (hL:1<=L):vk L (tab B (rv a)):=Z9 fun k _=>h.rsz hL k
theorem Z6:Ent Tryz.prog 39:=A0 Tryz.func39 (by kernel_rfl) rfl
theorem Y8 {S T0:Nat->Prop} {w:World} {vn vo va:Value} {n:NtV} {o:List Int} {a:List QV} {L:Nat} (up:Up S w) (upo:Up T0 w) (hn:eN.R S w vn n) (ho:eI.R S w vo o) (ha:eV.R S w va a) (hka:vk L a) (hL1:1<=L) (hL:L<=1000000000) :
  CR Tryz.prog 39 #[vn,vo,va] w (Two (eV.at T0 (if sfE n o a.length=0 then tab n.ls.length ((nwOf n o).fl (rv a)) else [])) (Is (.int .i64 (sfE n o a.length)))):=by
 obtain ⟨s,rfl,hs,hb⟩:=hn
 have hn:eN.R S w (.agg #[.int .i64 n.b,s]) n:=⟨s,rfl,hs,hb⟩
 refine enter Tryz.func39 O Tryz.ntmps39 O (.beg (.go O (.box O O fun w1 b3 n1=>?_)))
 obtain ⟨e1,k3,hb3,hs1⟩:=n1
 refine .go O (.ldA ty_N O O k3 O (.go O ?_))
 refine .call _ O AI0 O (AG9 (up.ext e1.size) (hn.ext e1) (ho.ext e1)) fun v2 w2 e2 h2=>?_
 obtain ⟨vl,ve,rfl,hl,he⟩:=h2
 replace he:ve=.int .i64 (outE n o):=he
 subst he
 have x2:=e1.trans e2
 refine .go O ?_
 by_cases hE:outE n o=0
 rotate_left
 ·have hb:sfE n o a.length=outE n o:=by unfold sfE;rw [if_pos hE]
  refine .neqT O O O hE (.goE O ?_)
  refine .plain [_,_] Tryz.results39 ⟨rfl,rfl,trivial⟩ ⟨x2,_,_,rfl,?_,by rw [hb]⟩
  rw [if_neg (by rw [hb];exact hE)];exact RL.nil
 have ok:=T8 hE
 rw [if_pos hE] at hl
 have hB6:=ok.b6
 have hB1:=ok.b1
 have hM10:n.ls.length<=10:=ok.m
 have hnb:=ok.b
 have hll:=AJ2 n o
 have k3:=k3.ext e2
 rw [hnb] at k3
 obtain ⟨_,_,_,_,hal⟩:=RL.len ha
 refine .neqF O O O hE (.go O (.lenR un_V O O (ha.ext x2) (.go O (.fa G0 O O (.ld A5 O O k3 O ?_)))))
 by_cases hlen:(a.length:Int)<=n.b
 rotate_left
 ·have hb:sfE n o a.length=5:=by unfold sfE;rw [if_neg (by simpa using hE),if_neg hlen]
  refine .gtrT O O O (by omega) (.goE O ?_)
  refine .plain [_,_] Tryz.results39 ⟨rfl,rfl,trivial⟩ ⟨x2,_,_,rfl,?_,by rw [hb]⟩
  rw [if_neg (by rw [hb];decide)];exact RL.nil
 have hno:sfE n o a.length=0:=by unfold sfE;rw [if_neg (by simpa using hE),if_pos hlen]
 rw [if_pos hno]
 refine .gtrF O O O (by omega) (.go O (.fa G0 O O (.ld A5 O O k3 O ?_)))
 refine .call _ O V3 O (AC7 (up.ext x2.size) (ha.ext x2) hka hL1 (by omega)) fun v3 w3 e3 h3=>?_
 have h3:=BJ0 (B:=(nwOf n o).B) h3 (up.ext x2.size) (by omega) (by omega)
 have x3:=x2.trans e3
 refine .go O (.fa G5 O O (.ld J1 O O (k3.ext e3) O (.lenR I8 O O (hs.ext x3) ?_)))
 refine .make_ _ _ un_V I9 O (by decide) O O O (Nat.le_refl _) (by omega) (by omega) fun w4 h n4=>?_
 have f4:FB eQ 54 T0 w4 h (List.replicate n.ls.length q0):=FB.made n4 zq_R
 obtain ⟨e4,_,hh,hs4⟩:=n4
 rw [<-AG0] at f4
 have hs3:=x3.size
 have hl:=ER.ext eI hl e3
 have hs:=ER.ext eLs hs x3
 have k3:=k3.ext e3
 have h3:eV.R (fun k=>S k/\k≠h) w3 v3 _:=eV.mono (fun k _ h=>⟨h.1,by have:=h.2;omega⟩) (ER.lt eV h3)
 refine .go O (.lenR un_I O O (ER.ext eI hl e4) ?_)
 rw [show (pInts (inL n o)).length=(inL n o).length by simp]
 refine .goC O (.lp (α:=Nat) [3,10,11,36,37] O (fun i=>[(38,.int .i64 (i:Nat))]) (fun i W=>Ext w3 W/\i<=(inL n o).length/\FB eQ 54 T0 W h (tab n.ls.length fun k=>if k∈(inL n o).take i then (nwOf n o).fl (rv a) k else 0)) (fun i=>(inL n o).length-i) 0 (lc1 O) ⟨e4,Nat.zero_le _,by simpa using f4⟩ ?_)
 rintro i W ⟨hW,hi,fb⟩
 have hWs:=hW.size
 have hhl:=fb.lt
 refine .go O ?_
 rcases Nat.lt_or_ge i (inL n o).length with hlt | hge
 rotate_left
 ·refine .lssF O O O (by omega) (.goE O ?_)
  have:i=(inL n o).length:=by omega
  subst this
  rw [List.take_of_length_le (Nat.le_refl _),fl_tab ok] at fb
  refine .plain [_,_] Tryz.results39 ⟨rfl,rfl,trivial⟩ ⟨x3.trans hW,_,_,rfl,?_,by rw [hno]⟩
  have:=fb.toR (hsz:=by decide) (c:=n.ls.length) (upo h (by omega)) (by rw [A2];exact Nat.le_refl _) (by rw [A2];omega)
  rw [A2] at this
  exact this
 obtain ⟨hgk,hkM,hko⟩:=AQ0 hlt
 refine .lssT O O O (by omega) (.go O (.ixN (i:=i) un_I C9 O O (ER.ext eI hl hW) O hgk fun q hq=>.ldE (E:=eInt .i64) C9 O O hq fun e he=>?_))
 obtain ⟨rfl,_⟩:=he
 have hset:=BI1 (M:=n.ls.length) (f:=(nwOf n o).fl (rv a)) hlt
 have hgl:n.ls[(inL n o).getD i 0]?=some (n.ls.getD ((inL n o).getD i 0) ln0):=A7 hkM
 have hFI:=ok.fI _ hkM
 have hTI:=ok.tI _ hkM
 have hF:=ok.f _ hkM
 have hT:=ok.t _ hkM
 have hx:=ok.x _ hkM
 have hgv:=g_on (n:=n) hko
 generalize hkk:(inL n o).getD i 0=k at hset hgl hFI hTI hx hgv hkM hF hT
 generalize hln:n.ls.getD k ln0=ln at hgl hFI hTI hx hgv
 refine .go O (.fa G5 O O (.ld J1 O O (k3.ext hW) O (.go O (.ixN (i:=k) I8 K8 O O (ER.ext eLs hs hW) O hgl fun q hq=>.ldE (E:=eL) K8 O O hq fun vl' hvl=>?_))))
 obtain ⟨rfl,_⟩:=hvl
 rw [hFI,hTI]
 refine .bld _ O O Ax8 (.go O ?_)
 have hv:=BG1 (w:=W) (S:=fun k=>S k/\k≠h) (T0:=fun k=>T0 k/\k≠h) (c:=ln.c) (fun k hk=>⟨up k (by omega),by omega⟩) (fun k hk=>⟨upo k (by omega),by omega⟩) (ER.ext eV h3 hW) (vk_res hka hL1) (by rw [A2];exact hF) (by rw [A2];exact hT) hx.1 hx.2 hL1 hL
 have hflv:(rv (tab (nwOf n o).B (rv a)) ((nwOf n o).F k)-rv (tab (nwOf n o).B (rv a)) ((nwOf n o).T k)) / ((ln.x:Int):Rat)=(nwOf n o).fl (rv a) k:=by
  unfold Nw.fl
  rw [O9,O9,if_pos hF,if_pos hT,hgv,Rat.div_def,Rat.mul_comm]
 rw [hflv] at hv
 refine .call _ O BG5 O hv fun y W1 g1 hy=>?_
 have hs1':=g1.size
 refine .go O (.ixB (i:=k) un_V ty_Q O O O hkM (.storeF (E:=eQ) (i:=k) (by decide) ty_Q O O (fb.ext g1) O (by rw [A2];exact hkM) (Nat.zero_add _) hy fun W6 f6 u6=>?_))
 rw [hset] at f6
 exact .go O (.inc O O O (by omega) (.goN O (.mk (i+1) O (lc1 O) ⟨⟨u6.below (hW.trans g1) (by omega),hlt,f6⟩,by show (inL n o).length-(i+1)<(inL n o).length-i;omega⟩)))
end Go.Proofs.YtggegpiffjbngaaGreat
