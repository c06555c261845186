/-
  What the claim leans on.
-/
import Derived.Test.YtpgkacdihhjknaaGreatG5
set_option linter.unusedVariables false
namespace Go.Kx
theorem BN4 (a b:Nat):Nat.gcd b (a % b)=Nat.gcd a b:=by rw [Nat.gcd_comm b (a % b),<-Nat.gcd_rec,Nat.gcd_comm]
theorem BG7 {a b:ZV} (hs:(zval a).sign=(zval b).sign):cmpI (zval a) (zval b)=if (zval a).sign<0 then 0-cmpN (val a.w) (val b.w) else cmpN (val a.w) (val b.w):=by
 have h1:=I8 a
 have h2:=I8 b
 generalize zval a=x at *
 generalize zval b=y at *
 rw [<-h1,<-h2]
 rcases Int.lt_trichotomy x 0 with h | h | h
 ·have e:=Int.sign_eq_neg_one_of_neg h
  rw [e] at hs ⊢
  have hy:y<0:=Int.sign_eq_neg_one_iff_neg.1 hs.symm
  rw [if_pos (by decide)]
  unfold cmpI cmpN
  split<;>split<;>(try split)<;>(try split)<;>omega
 ·subst h
  rw [Int.sign_zero] at hs ⊢
  have hy:y=0:=Int.sign_eq_zero_iff_zero.1 hs.symm
  subst hy
  decide
 ·have e:=Int.sign_eq_one_of_pos h
  rw [e] at hs ⊢
  have hy:0<y:=Int.sign_eq_one_iff_pos.1 hs.symm
  rw [if_neg (by decide)]
  unfold cmpI cmpN
  split<;>split<;>(try split)<;>(try split)<;>omega
theorem cmpI_ne {x y:Int} (hs:x.sign≠y.sign):cmpI x y=if x.sign<y.sign then -1 else 1:=by
 have hx:=Int.lt_trichotomy x 0
 have hy:=Int.lt_trichotomy y 0
 unfold cmpI
 rcases hx with h | h | h<;>rcases hy with h' | h' | h'<;>first
  | (rw [Int.sign_eq_neg_one_of_neg h,Int.sign_eq_neg_one_of_neg h'] at hs;exact absurd O hs)
  | (rw [Int.sign_eq_one_of_pos h,Int.sign_eq_one_of_pos h'] at hs;exact absurd O hs)
  | (rw [h,h'] at hs;exact absurd O hs)
  | (simp only [h,h',Int.sign_eq_neg_one_of_neg,Int.sign_eq_one_of_pos,Int.sign_zero];(try split)<;>(try split)<;>(try simp_all)<;>omega)
end Go.Kx
namespace Go.Proofs.YtpgkacdihhjknaaGreat
open Go Go.Kx Go.RowKit
theorem At4:Ent Tryz.prog 194:=A0 Tryz.func194 (by kernel_rfl) rfl
theorem Ap5 {S:Nat->Prop} {w:World} {va vb:Value} {a b:ZV} (up:Up S w) (ha:eZ.R S w va a) (hb:eZ.R S w vb b) (hla:a.w.length<=1000000000) (hlb:b.w.length<=1000000000):CR Tryz.prog 194 #[va,vb] w (eZ.at S (zc (Nat.gcd (val a.w) (val b.w):Nat))):=by
 obtain ⟨s,rfl,hs⟩:=ha
 obtain ⟨t,rfl,ht⟩:=hb
 refine enter Tryz.func194 O Tryz.ntmps194 O (.sr (.box O O fun w1 b2 n1=>.box O O fun w2 b3 n2=>.alloc O C0 fun w3 b4 n3=>.nil ?_))
 obtain ⟨e1,k2,hb2,hs1⟩:=n1
 obtain ⟨e2,k3,hb3,hs2⟩:=n2
 obtain ⟨e3,k4,hb4,hs3⟩:=n3
 have x3:=(e1.trans e2).trans e3
 have k2:=(k2.ext e2).ext e3
 have k3:=k3.ext e3
 have hS4:¬ Sx S w.heap.size w3.heap.size b4:=Sx.no (by omega) (by omega)
 have up3:Up (Sx S w.heap.size w3.heap.size) w3:=Sx.up up (Nat.le_refl _) x3.size
 have hs':=(ER.par eW hs w3.heap.size).ext x3
 have ht':=(ER.par eW ht w3.heap.size).ext x3
 have l1:=AH1 hs hla
 have l2:=AH1 ht hlb
 have hout:∀ {W:World} {v:Value} {z:ZV},eZ.R (Sx S w.heap.size w3.heap.size) W v z->eZ.R S W v z:=fun h=>h.out
 generalize hT:Sx S w.heap.size w3.heap.size=T at *
 refine .seq ?_
 refine .par follows 6 [.inl _,.inl s,.inr (eHs.at T (hds (val a.w))),.inl _,.inl t,.inr (eHs.at T (hds (val b.w)))] [[],[(9,0)],[(10,1)],[],[(12,3)],[(13,4)]] (by kernel_rfl) ⟨
  fun w e=>(v_fa F3 O).ob,fun w e=>(v_ld ty_W O (k2.ext e) O).ob,fun w e=>(A2 _ E1 O (J3 (up3.ext e.size) (hs'.ext e) hla)).ob (A6 _ _ _),
  fun w e=>(v_fa F3 O).ob,fun w e=>(v_ld ty_W O (k3.ext e) O).ob,fun w e=>(A2 _ E1 O (J3 (up3.ext e.size) (ht'.ext e) hlb)).ob (A6 _ _ _),trivial⟩ ?_
 intro w4 e4 x hx y hy
 refine .asg O O (.an O O ?_)
 generalize val a.w=A at *
 generalize val b.w=B at *
 refine .mid (α:=Value) (fun p=>[(4,.pointer (some ⟨b4,0,none⟩)),(5,p)]) (fun p W=>Ext w4 W/\eHs.R T W p (hds (Nat.gcd A B))) ?_ ?_
 ·refine .block (.loop (α:=(Nat×Nat)×Value×Value) (fun p=>[(4,.pointer (some ⟨b4,0,none⟩)),(5,p.2.1),(6,p.2.2)])
   (fun p W=>Ext w4 W/\eHs.R T W p.2.1 (hds p.1.1)/\eHs.R T W p.2.2 (hds p.1.2)/\(hds p.1.1).length<=2000000000/\(hds p.1.2).length<=2000000000/\Nat.gcd p.1.1 p.1.2=Nat.gcd A B) (fun p=>p.1.2) ((A,B),x,y) ?_ ?_ ?_)
  ·exact lkA rfl
  ·exact ⟨.refl _,hx,hy,l1,l2,rfl⟩
  ·rintro ⟨⟨m,n⟩,u,v⟩ W ⟨hW,hu,hv,hm,hn,hg⟩
   replace hW:Ext w4 W:=hW
   replace hu:eHs.R T W u (hds m):=hu
   replace hv:eHs.R T W v (hds n):=hv
   replace hm:(hds m).length<=2000000000:=hm
   replace hn:(hds n).length<=2000000000:=hn
   replace hg:Nat.gcd m n=Nat.gcd A B:=hg
   refine .weak [(4,.pointer (some ⟨b4,0,none⟩)),(5,u),(6,v)] (fun t v h=>h) (.seq (.sr (.mv O O (.lenR un_H O O hv ?_))))
   by_cases h0:n=0
   ·subst h0
    rw [K8]
    refine .gtrF O O O (by simp) (.nil (.condF O (.exit ?_)))
    rw [Nat.gcd_zero_right] at hg
    exact ⟨rfl,u,lkA rfl,hW,hg▸hu⟩
   ·have hne:(hds n).length≠0:=fun e=>h0 (P8.1 (List.length_eq_zero_iff.1 e))
    refine .gtrT O O O (by omega) (.nil (.condT O (.skip (.block (.sr (.mv O O (.mv O O ?_)))))))
    refine .call _ O AW9 O (AV5 ((up3.ext e4.size).ext hW.size) hu hv (by omega) (by omega) h0) fun z W2 f2 h2=>?_
    obtain ⟨vq,vr,rfl,hq,hr⟩:=h2
    refine .mv O O (.ext O O O (.ext O O O (.asg O O (.an O O (.region (.mv O O (.mv O O (.asg O O (.an O O ?_)))))))))
    have hlt:m % n<n:=Nat.mod_lt _ (by omega)
    exact ⟨rfl,((n,m % n),v,vr),lkA rfl,⟨hW.trans f2,ER.ext eHs hv f2,hr,hn,Nat.le_trans (O5 (Nat.le_of_lt hlt)) hn,(BN4 m n).trans hg⟩,hlt⟩
 ·rintro u W ⟨hW,hu⟩
  have e5:=e4.trans hW
  have lg:(hds (Nat.gcd A B)).length<=2000000001:=by
   have h1:Nat.gcd A B<=A+B:=by
    rcases Nat.eq_zero_or_pos A with h | h
    ·subst h;rw [Nat.gcd_zero_left];omega
    ·have:=Nat.gcd_le_left B h;omega
   exact Nat.le_trans (O5 h1) (AW3 l1 l2)
  refine .sr (.mv O O (.call _ O Q0 O (P6 (up3.ext e5.size) hu (by omega)) fun v6 w6 e6 h6=>?_))
  rw [D8] at h6
  have e56:=e5.trans e6
  refine .storeA (E:=eZ) ty_Z O O (k4.ext e56) O O h6 hS4 fun w7 k7 u7 h7=>.nil (.ret ?_)
  exact .cell Tryz.results194 O ty_Z O O k7 h7 ⟨u7.below (x3.trans e56) (by omega),hout h7⟩
theorem AX1:Ent Tryz.prog 195:=A0 Tryz.func195 (by kernel_rfl) rfl
theorem AV7 {S:Nat->Prop} {w:World} {va vb:Value} {a b:ZV} (up:Up S w) (ha:eZ.R S w va a) (hb:eZ.R S w vb b) (hla:a.w.length<=1000000000) (hlb:b.w.length<=1000000000) (hb0:zval b≠0) :
  CR Tryz.prog 195 #[va,vb] w (Three (eZ.at S (zc (zval a / zval b))) (eZ.at S (zc (zval a % zval b))) (Is (.int .i64 0))):=by
 obtain ⟨s,rfl,hs⟩:=ha
 obtain ⟨t,rfl,ht⟩:=hb
 refine enter Tryz.func195 O Tryz.ntmps195 O ?_
 refine .sr (.box O O fun w1 b2 n1=>.box O O fun w2 b3 n2=>.alloc O C0 fun w3 b4 n3=>.alloc O C0 fun w4 b5 n4=>.an O O ?_)
 obtain ⟨e1,k2,hb2,hs1⟩:=n1
 obtain ⟨e2,k3,hb3,hs2⟩:=n2
 obtain ⟨e3,k4,hb4,hs3⟩:=n3
 obtain ⟨e4,k5,hb5,hs4⟩:=n4
 have x4:=((e1.trans e2).trans e3).trans e4
 have k2:=((k2.ext e2).ext e3).ext e4
 have k3:=(k3.ext e3).ext e4
 have k4:=k4.ext e4
 have hS4:¬ Sx S w.heap.size w4.heap.size b4:=Sx.no (by omega) (by omega)
 have hS5:¬ Sx S w.heap.size w4.heap.size b5:=Sx.no (by omega) (by omega)
 have hne:b5≠b4:=by omega
 have up4:Up (Sx S w.heap.size w4.heap.size) w4:=Sx.up up (Nat.le_refl _) x4.size
 have hs':=(ER.par eW hs w4.heap.size).ext x4
 have ht':=(ER.par eW ht w4.heap.size).ext x4
 have l1:=AH1 hs hla
 have l2:=AH1 ht hlb
 have hout:∀ {W:World} {v:Value} {z:ZV},eZ.R (Sx S w.heap.size w4.heap.size) W v z->eZ.R S W v z:=fun h=>h.out
 generalize hT:Sx S w.heap.size w4.heap.size=T at *
 refine .seq ?_
 refine .par follows 6 [.inl _,.inl s,.inr (eHs.at T (hds (val a.w))),.inl _,.inl t,.inr (eHs.at T (hds (val b.w)))] [[],[(11,0)],[(12,1)],[],[(14,3)],[(15,4)]] (by kernel_rfl) ⟨
  fun w e=>(v_fa F3 O).ob,fun w e=>(v_ld ty_W O (k2.ext e) O).ob,fun w e=>(A2 _ E1 O (J3 (up4.ext e.size) (hs'.ext e) hla)).ob (A6 _ _ _),
  fun w e=>(v_fa F3 O).ob,fun w e=>(v_ld ty_W O (k3.ext e) O).ob,fun w e=>(A2 _ E1 O (J3 (up4.ext e.size) (ht'.ext e) hlb)).ob (A6 _ _ _),trivial⟩ ?_
 intro w5 e5 x hx y hy
 refine .asg O O (.an O O ?_)
 have hB0:0<val b.w:=by
  rcases Nat.eq_zero_or_pos (val b.w) with h | h
  ·exact absurd (by unfold zval sg;rw [h];simp) hb0
  ·exact h
 have eva:=AC5 a
 have evb:=AC5 b
 generalize val a.w=A at *
 generalize val b.w=B at *
 have hne0:(hds B).length≠0:=fun e=>by have:=P8.1 (List.length_eq_zero_iff.1 e);omega
 refine .seq (.sr (.mv O O (.lenR un_H O O hy (.eqlF O O O (by omega) (.nil (.condF O (.skip ?_)))))))
 have up5:=up4.ext e5.size
 refine .sr (.mv O O (.mv O O ?_))
 refine .call _ O AW9 O (AV5 up5 hx hy (by omega) (by omega) (by omega)) fun z w6 e6 h6=>?_
 obtain ⟨vq,vr,rfl,hq,hr⟩:=h6
 refine .mv O O (.ext O O O (.ext O O O (.asg O O (.an O O ?_))))
 have e56:=e5.trans e6
 have x6:=x4.trans e56
 have up6:=up5.ext e6.size
 have k2:=k2.ext e56
 have k3:=k3.ext e56
 have k4:=k4.ext e56
 have k5:=k5.ext e56
 have hy6:=ER.ext eHs hy e6
 have lq:(hds (A / B)).length<=2000000000:=Nat.le_trans (O5 (Nat.div_le_self _ _)) l1
 have lr:(hds (A % B)).length<=2000000000:=Nat.le_trans (O5 (Nat.mod_le _ _)) l1
 refine .mid (α:=(Nat×Nat)×Value×Value) (fun z=>[(2,.pointer (some ⟨b2,0,none⟩)),(3,.pointer (some ⟨b3,0,none⟩)),(4,.pointer (some ⟨b4,0,none⟩)),(5,.pointer (some ⟨b5,0,none⟩)),(9,z.2.1),(10,z.2.2)])
  (fun z W=>Ext w6 W/\eHs.R T W z.2.1 (hds z.1.1)/\eHs.R T W z.2.2 (hds z.1.2)/\(hds z.1.1).length<=2000000002/\(hds z.1.2).length<=2000000002/\zval a / zval b=sg (a.neg != b.neg) z.1.1/\zval a % zval b=sg false z.1.2) ?_ ?_
 ·refine .sr (.fa H3 O O (.ld C6 O O k2 O (.mv O O ?_)))
  cases hn:a.neg with
  | false =>
   refine .gs O O O O O (.gs O O O O O (.gs O O O O O (.pick O O O (.nil (.condF O (.skip ?_))))))
   obtain ⟨d1,d2⟩:=AD6 (p:=false) (q:=b.neg) (A:=A) hB0 (.inl rfl)
   refine ⟨rfl,((A / B,A % B),vq,vr),lkA rfl,.refl _,hq,hr,Nat.le_trans lq (by omega),Nat.le_trans lr (by omega),?_,?_⟩
   ·rw [eva,evb,hn];exact d1
   ·rw [eva,evb,hn];exact d2
  | true =>
   refine .gr O O O O (.mv O O (.gr O O O O (.lenR un_H O O hr (.gr O O O O ?_))))
   by_cases h0:A % B=0
   ·rw [h0,K8]
    refine .gtrF O O O (by simp) (.pick O O O (.nil (.condF O (.skip ?_))))
    obtain ⟨d1,d2⟩:=AD6 (p:=true) (q:=b.neg) (A:=A) hB0 (.inr h0)
    refine ⟨rfl,((A / B,A % B),vq,vr),lkA rfl,.refl _,hq,hr,Nat.le_trans lq (by omega),Nat.le_trans lr (by omega),?_,?_⟩
    ·rw [eva,evb,hn];exact d1
    ·rw [eva,evb,hn];exact d2
   ·have hne:(hds (A % B)).length≠0:=fun e=>h0 (P8.1 (List.length_eq_zero_iff.1 e))
    refine .gtrT O O O (by omega) (.pick O O O (.nil (.condT O (.sr (.mv O O (.bsl _ O O AU1 fun w7 b7 n7=>?_))))))
    have hd1:digH [1]:=by intro x hx;simp at hx;omega
    have ho:OwnH 3 w6.heap.size w7 (.slice (some ⟨b7,0,none⟩) 1 1) [1]:=OwnH.lit (l:=[1]) n7 (Nat.le_refl _) hd1 (by simp)
    obtain ⟨e7,_,_,_⟩:=n7
    refine .call _ O At2 O (Ap3 (S:=T) (up6.ext e7.size) (ER.ext eHs hq e7) (ho.toR up6) (by omega) (by simp)) fun v8 w8 e8 h8=>.an O O ?_
    rw [D8,show valH [1]=1 by rfl] at h8
    have e78:=e7.trans e8
    refine .region (.mv O O (.mv O O ?_))
    have hm:=Nat.mod_lt A hB0
    refine .call _ O AW8 O (AV4 (S:=T) (up6.ext e78.size) (ER.ext eHs hy6 e78) (ER.ext eHs hr e78) (by omega) (by rw [D8,D8];omega)) fun v9 w9 e9 h9=>.an O O ?_
    rw [D8,D8] at h9
    obtain ⟨d1,d2⟩:=Ad1 (q:=b.neg) (A:=A) hB0 (by omega)
    refine ⟨rfl,((A / B+1,B-A % B),v8,v9),lkA rfl,e78.trans e9,ER.ext eHs h8 e9,h9,?_,?_,?_,?_⟩
    ·exact Nat.le_trans (AW3 lq (B:=1) (Nat.le_trans (M2 (L:=1) (by decide)) (by omega))) (by omega)
    ·exact Nat.le_trans (O5 (Nat.sub_le _ _)) (by omega)
    ·rw [eva,evb,hn];exact d1
    ·rw [eva,evb,hn];exact d2
 ·rintro ⟨⟨q,r⟩,vq,vr⟩ W ⟨hW,hq,hr,lq,lr,d1,d2⟩
  replace hW:Ext w6 W:=hW
  replace hq:eHs.R T W vq (hds q):=hq
  replace hr:eHs.R T W vr (hds r):=hr
  replace lq:(hds q).length<=2000000002:=lq
  replace lr:(hds r).length<=2000000002:=lr
  replace d1:zval a / zval b=sg (a.neg != b.neg) q:=d1
  replace d2:zval a % zval b=sg false r:=d2
  refine .weak [(2,.pointer (some ⟨b2,0,none⟩)),(3,.pointer (some ⟨b3,0,none⟩)),(4,.pointer (some ⟨b4,0,none⟩)),(5,.pointer (some ⟨b5,0,none⟩)),(9,vq),(10,vr)] (fun t v h=>h) ?_
  have k2:=k2.ext hW
  have k3:=k3.ext hW
  have k4:=k4.ext hW
  have k5:=k5.ext hW
  have upW:=up6.ext hW.size
  refine .sr (.fa H3 O O (.ld C6 O O k2 O (.fa H3 O O (.ld C6 O O k3 O (.neqB AI5 O O O (.mv O O ?_))))))
  refine .call _ O Q0 O (P6 upW hq (by omega)) fun v7 w7 e7 h7=>.mv O O ?_
  rw [D8,<-d1] at h7
  refine .call _ O Q0 O (P6 (upW.ext e7.size) (ER.ext eHs hr e7) (by omega)) fun v8 w8 e8 h8=>?_
  rw [D8,<-d2] at h8
  have e78:=e7.trans e8
  refine .storeA (E:=eZ) ty_Z O O (k4.ext e78) O O (ER.ext eZ h7 e8) hS4 fun w9 k9 u9 h9=>?_
  refine .storeA (E:=eZ) ty_Z O O ((k5.ext e78).upd u9 hne) O O (ER.upd eZ h8 u9 hS4) hS5 fun w10 k10 u10 h10=>.an O O (.ret ?_)
  exact .plain [_,_,_] Tryz.results195 ⟨⟨_,rfl,D3 (E:=eZ) ty_Z O O (k9.upd u10 (Ne.symm hne)) (ER.upd eZ h9 u10 hS5)⟩,⟨_,rfl,D3 (E:=eZ) ty_Z O O k10 h10⟩,rfl,trivial⟩
   ⟨u10.below (u9.below ((x6.trans hW).trans e78) (by omega)) (by omega),_,_,_,rfl,hout (ER.upd eZ h9 u10 hS5),hout h10,rfl⟩
theorem At5:Ent Tryz.prog 196:=A0 Tryz.func196 (by kernel_rfl) rfl
theorem Ap6 {S:Nat->Prop} {w:World} {va vb:Value} {a b:ZV} (up:Up S w) (ha:eZ.R S w va a) (hb:eZ.R S w vb b) (hla:a.w.length<=1000000000) (hlb:b.w.length<=1000000000):CR Tryz.prog 196 #[va,vb] w (Is (.int .i64 (cmpI (zval a) (zval b)))):=by
 have ha0:=ha
 have hb0:=hb
 obtain ⟨s,rfl,hs⟩:=ha
 obtain ⟨t,rfl,ht⟩:=hb
 refine enter Tryz.func196 O Tryz.ntmps196 O ?_
 refine .sr (.box O O fun w1 b2 n1=>.box O O fun w2 b3 n2=>.an O O ?_)
 obtain ⟨e1,k2,hb2,hs1⟩:=n1
 obtain ⟨e2,k3,hb3,hs2⟩:=n2
 have x2:=e1.trans e2
 have k2:=k2.ext e2
 have up2:=up.ext x2.size
 have ha2:=ER.ext eZ ha0 x2
 have hb2':=ER.ext eZ hb0 x2
 have eva:=AC5 a
 have evb:=AC5 b
 refine .seq (.seq ?_)
 refine .par follows 5 [.inl (.agg #[.bool a.neg,s]),.inl (.int .i64 (zval a).sign),.inl (.agg #[.bool b.neg,t]),.inl (.int .i64 (zval b).sign),.inl (.bool ((zval a).sign != (zval b).sign))] [[],[(6,0)],[],[(8,2)],[(7,1),(9,3)]] (by kernel_rfl) ⟨
  fun w e=>(B9 ty_Z O (k2.ext e) O).ob,fun w e=>A2 _ J7 O (J4 (up2.ext e.size) (ER.ext eZ ha2 e) hla),
  fun w e=>(B9 ty_Z O (k3.ext e) O).ob,fun w e=>A2 _ J7 O (J4 (up2.ext e.size) (ER.ext eZ hb2' e) hlb),fun w e=>(BI8 O O).ob,trivial⟩ ?_
 intro w3 e3
 have x3:=x2.trans e3
 have up3:=up2.ext e3.size
 have k2:=k2.ext e3
 have k3:=k3.ext e3
 have ha3:=ER.ext eZ ha2 e3
 have hb3:=ER.ext eZ hb2' e3
 by_cases hsg:(zval a).sign=(zval b).sign
 ·rw [show ((zval a).sign != (zval b).sign)=false by simpa using hsg]
  refine .nil (.condF O (.skip (.seq ?_)))
  have hs':=ER.ext eW hs x3
  have ht':=ER.ext eW ht x3
  have l1:=AH1 hs hla
  have l2:=AH1 ht hlb
  have hc:=BG7 hsg
  refine .par follows 7 [.inl _,.inl s,.inr (eHs.at S (hds (val a.w))),.inl _,.inl t,.inr (eHs.at S (hds (val b.w))),.inl (.int .i64 (cmpN (valH (hds (val a.w))) (valH (hds (val b.w)))))] [[],[(16,0)],[(17,1)],[],[(19,3)],[(20,4)],[(18,2),(21,5)]] (by kernel_rfl) ⟨
   fun w e=>(v_fa F3 O).ob,fun w e=>(v_ld ty_W O (k2.ext e) O).ob,fun w e=>(A2 _ E1 O (J3 (up3.ext e.size) (hs'.ext e) hla)).ob (A6 _ _ _),
   fun w e=>(v_fa F3 O).ob,fun w e=>(v_ld ty_W O (k3.ext e) O).ob,fun w e=>(A2 _ E1 O (J3 (up3.ext e.size) (ht'.ext e) hlb)).ob (A6 _ _ _),
   fun w e x hx y hy=>A2 _ AX0 O (AV6 hx hy (by omega) (by omega)),trivial⟩ ?_
  intro w4 e4 x hx y hy
  rw [D8,D8]
  refine .an O O (.seq (.sr (.ldA ty_Z O O (k2.ext e4) O (.call _ O J7 O (J4 (up3.ext e4.size) (ER.ext eZ ha3 e4) hla) fun v5 w5 e5 h5=>?_))))
  subst h5
  have x5:=(x3.trans e4).trans e5
  by_cases hn:(zval a).sign<0
  ·rw [if_pos hn] at hc
   refine .lssT O O O hn (.nil (.condT O (.sr (.mv O O (.neg O O (.an O O (.ret ?_)))))))
   exact .plain [_] Tryz.results196 ⟨rfl,trivial⟩ ⟨x5,isI (by rw [hc,wI (by unfold cmpN;split<;>(try split)<;>omega)])⟩
  ·rw [if_neg hn] at hc
   refine .lssF O O O hn (.nil (.condF O (.skip (.sr (.mv O O (.an O O (.ret ?_)))))))
   exact .plain [_] Tryz.results196 ⟨rfl,trivial⟩ ⟨x5,isI (by rw [hc])⟩
 ·rw [show ((zval a).sign != (zval b).sign)=true by simpa using hsg]
  refine .nil (.condT O (.seq (.seq ?_)))
  have hc:=cmpI_ne hsg
  refine .par follows 5 [.inl (.agg #[.bool a.neg,s]),.inl (.int .i64 (zval a).sign),.inl (.agg #[.bool b.neg,t]),.inl (.int .i64 (zval b).sign),.inl (.bool (decide ((zval a).sign<(zval b).sign)))] [[],[(11,0)],[],[(13,2)],[(12,1),(14,3)]] (by kernel_rfl) ⟨
   fun w e=>(B9 ty_Z O (k2.ext e) O).ob,fun w e=>A2 _ J7 O (J4 (up3.ext e.size) (ER.ext eZ ha3 e) hla),
   fun w e=>(B9 ty_Z O (k3.ext e) O).ob,fun w e=>A2 _ J7 O (J4 (up3.ext e.size) (ER.ext eZ hb3 e) hlb),fun w e=>(BJ0 O O).ob,trivial⟩ ?_
  intro w4 e4
  by_cases hn:(zval a).sign<(zval b).sign
  ·rw [if_pos hn] at hc
   rw [show decide ((zval a).sign<(zval b).sign)=true by simpa using hn]
   refine .nil (.condT O (.sr (.an O O (.ret ?_))))
   exact .plain [_] Tryz.results196 ⟨rfl,trivial⟩ ⟨x3.trans e4,isI (by rw [hc])⟩
  ·rw [if_neg hn] at hc
   rw [show decide ((zval a).sign<(zval b).sign)=false by simpa using hn]
   refine .nil (.condF O (.skip (.sr (.an O O (.ret ?_)))))
   exact .plain [_] Tryz.results196 ⟨rfl,trivial⟩ ⟨x3.trans e4,isI (by rw [hc])⟩
end Go.Proofs.YtpgkacdihhjknaaGreat
namespace Go.Kx
open Go Go.RowKit
section
variable {P:Program} {ro:Option Nat} {N:Nat} {ds:List Deferred} {ops:List Oper} {K:Env->World->Prop} {σ0:Env} {w0:World} {h:Nat} {sp:List Sp} {deps:List (List (Tmp×Nat))} {a0:Act}
section
variable {Q:Exit->Act->World->Prop}
end
end
end Go.Kx
namespace Go.Proofs.YtpgkacdihhjknaaGreat
open Go Go.Kx Go.RowKit
theorem AW7:Ent Tryz.prog 185:=A0 Tryz.func185 (by kernel_rfl) rfl
theorem AV3 {S:Nat->Prop} {w:World} (up:Up S w):CR Tryz.prog 185 #[] w (eZ.at S (zc 1)):=by
 refine enter Tryz.func185 O Tryz.ntmps185 O (.sr (.alloc O C0 fun w1 b1 n1=>.nil ?_))
 obtain ⟨e1,k1,hb1,hs1⟩:=n1
 have hS:¬ Sx S w.heap.size w1.heap.size b1:=Sx.no (by omega) (by omega)
 have up1:Up (Sx S w.heap.size w1.heap.size) w1:=Sx.up up (Nat.le_refl _) e1.size
 refine .sr (.call _ O T8 O (T1 up1 (by decide) (by decide)) fun v2 w2 e2 h2=>(.storeA (E:=eZ) ty_Z O O (k1.ext e2) O O h2 hS fun w5 k5 u5 h5=>.nil (.ret ?_)))
 exact .cell Tryz.results185 O ty_Z O O k5 h5 ⟨u5.below (e1.trans e2) (by omega),h5.out⟩
theorem At0:Ent Tryz.prog 127:=A0 Tryz.func127 (by kernel_rfl) rfl
theorem Ap1 {S:Nat->Prop} {w:World} {v:Value} {q:QV} {L:Nat} (up:Up S w) (h:eQ.R S w v q) (hl:qok L q) (hL:L<=1000000000):CR Tryz.prog 127 #[v] w (eZ.at S (zc (pd q))):=by
 obtain ⟨s,t,rfl,hn,hd⟩:=S3 h
 refine enter Tryz.func127 O Tryz.ntmps127 O (.sr (.box O O fun w1 b1 n1=>.alloc O C0 fun w2 b2 n2=>.nil ?_))
 obtain ⟨e1,k1,hb1,hs1⟩:=n1
 obtain ⟨e2,k2,hb2,hs2⟩:=n2
 have x2:=e1.trans e2
 have k1:=k1.ext e2
 have hS:¬ Sx S w.heap.size w2.heap.size b2:=Sx.no (by omega) (by omega)
 have up2:Up (Sx S w.heap.size w2.heap.size) w2:=Sx.up up (Nat.le_refl _) x2.size
 have hd2:=(ER.par eZ hd w2.heap.size).ext x2
 refine .seq (.sr (.fa U7 O O (.ldN [.bool q.den.neg,t] ty_Z O O k1 AZ2 (.call _ O J7 O (J4 up2 hd2 (Nat.le_trans hl.2 hL)) fun v3 w3 e3 h3=>?_))))
 subst h3
 have hp:zval q.den≠0->pd q=(val q.den.w:Nat):=by
  intro h0
  have:=I8 q.den
  unfold pd;rw [if_neg h0];split<;>omega
 by_cases h0:zval q.den=0
 ·refine .eqlT O O O (by rw [h0];rfl) (.nil (.condT O (.sr (.call _ O AW7 O (AV3 (up2.ext e3.size)) fun v4 w4 e4 h4=>(.storeA (E:=eZ) ty_Z O O ((k2.ext e3).ext e4) O O h4 hS fun w5 k5 u5 h5=>.nil (.ret ?_))))))
  exact .cell Tryz.results127 O ty_Z O O k5 h5 ⟨u5.below ((x2.trans e3).trans e4) (by omega),by rw [show pd q=1 by unfold pd;rw [if_pos h0]];exact h5.out⟩
 ·refine .eqlF O O O (fun h=>h0 (Int.sign_eq_zero_iff_zero.1 h)) (.nil (.condF O (.skip (.sr (.fa U7 O O (.ldN [.bool q.den.neg,t] ty_Z O O (k1.ext e3) AZ2 (.call _ O At6 O (Ap7 (up2.ext e3.size) (ER.ext eZ hd2 e3) (Nat.le_trans hl.2 hL)) fun v4 w4 e4 h4=>(.storeA (E:=eZ) ty_Z O O ((k2.ext e3).ext e4) O O h4 hS fun w5 k5 u5 h5=>.nil (.ret ?_)))))))))
  exact .cell Tryz.results127 O ty_Z O O k5 h5 ⟨u5.below ((x2.trans e3).trans e4) (by omega),by rw [hp h0];exact h5.out⟩
theorem As9:Ent Tryz.prog 128:=A0 Tryz.func128 (by kernel_rfl) rfl
theorem Ap0 {S:Nat->Prop} {w:World} {v:Value} {q:QV} {L:Nat} (up:Up S w) (h:eQ.R S w v q) (hl:qok L q) (hL:L<=1000000000):CR Tryz.prog 128 #[v] w (eZ.at S (zc (pn q))):=by
 obtain ⟨s,t,rfl,hn,hd⟩:=S3 h
 refine enter Tryz.func128 O Tryz.ntmps128 O (.sr (.box O O fun w1 b1 n1=>.alloc O C0 fun w2 b2 n2=>.nil ?_))
 obtain ⟨e1,k1,hb1,hs1⟩:=n1
 obtain ⟨e2,k2,hb2,hs2⟩:=n2
 have x2:=e1.trans e2
 have k1:=k1.ext e2
 have hS:¬ Sx S w.heap.size w2.heap.size b2:=Sx.no (by omega) (by omega)
 have up2:Up (Sx S w.heap.size w2.heap.size) w2:=Sx.up up (Nat.le_refl _) x2.size
 have hd2:=(ER.par eZ hd w2.heap.size).ext x2
 have hn2:=(ER.par eZ hn w2.heap.size).ext x2
 refine .seq (.sr (.fa U7 O O (.ldN [.bool q.den.neg,t] ty_Z O O k1 AZ2 (.call _ O J7 O (J4 up2 hd2 (Nat.le_trans hl.2 hL)) fun v3 w3 e3 h3=>?_))))
 subst h3
 by_cases h0:zval q.den<0
 ·refine .lssT O O O (by rw [Int.sign_eq_neg_one_of_neg h0];decide) (.nil (.condT O (.sr (.fa U8 O O (.ldN [.bool q.num.neg,s] ty_Z O O (k1.ext e3) Av0 (.call _ O At3 O (Ap4 (up2.ext e3.size) (ER.ext eZ hn2 e3) (Nat.le_trans hl.1 hL)) fun v4 w4 e4 h4=>(.storeA (E:=eZ) ty_Z O O ((k2.ext e3).ext e4) O O h4 hS fun w5 k5 u5 h5=>.nil (.ret ?_))))))))
  exact .cell Tryz.results128 O ty_Z O O k5 h5 ⟨u5.below ((x2.trans e3).trans e4) (by omega),by rw [show pn q = -zval q.num by unfold pn;rw [if_pos h0]];exact h5.out⟩
 ·refine .lssF O O O (fun h=>h0 (Int.sign_neg_iff.1 h)) (.nil (.condF O (.skip (.sr (.fa U8 O O (.ldN [.bool q.num.neg,s] ty_Z O O (k1.ext e3) Av0 (.call _ O AM0 O (AK8 (up2.ext e3.size) (ER.ext eZ hn2 e3) (Nat.le_trans hl.1 (by omega))) fun v4 w4 e4 h4=>(.storeA (E:=eZ) ty_Z O O ((k2.ext e3).ext e4) O O h4 hS fun w5 k5 u5 h5=>.nil (.ret ?_)))))))))
  exact .cell Tryz.results128 O ty_Z O O k5 h5 ⟨u5.below ((x2.trans e3).trans e4) (by omega),by rw [show pn q=zval q.num by unfold pn;rw [if_neg h0]];exact h5.out⟩
theorem Am5:Ent Tryz.prog 135:=A0 Tryz.func135 (by kernel_rfl) rfl
theorem Ak3 {S:Nat->Prop} {w:World} {va vb:Value} {a b:ZV} {L:Nat} (up:Up S w) (ha:eZ.R S w va a) (hb:eZ.R S w vb b) (hla:a.w.length<=L) (hlb:b.w.length<=L) (hL:L<=1000000000) (hb0:0<zval b):CR Tryz.prog 135 #[va,vb] w (eQ.at S (qc (Rat.divInt (zval a) (zval b)))):=by
 have hda:=AH4 ha
 have hdb:=AH4 hb
 have hqc:=AT3 (n:=zval a) hb0
 have hga:=I8 a
 have hgb:=I8 b
 have hBp:0<val b.w:=by omega
 have hla1:=Q6 hda hla
 have hlb1:=Q6 hdb hlb
 rw [hga] at hla1
 rw [hgb] at hlb1
 rw [hga,hgb] at hqc
 have hg1:Nat.gcd (val a.w) (val b.w)<=val b.w:=Nat.gcd_le_right _ hBp
 have hg0:0<Nat.gcd (val a.w) (val b.w):=Nat.gcd_pos_of_pos_right _ hBp
 generalize hgg:Nat.gcd (val a.w) (val b.w)=g at *
 obtain ⟨s,rfl,hs⟩:=ha
 obtain ⟨t,rfl,ht⟩:=hb
 have ha:eZ.R S w (.agg #[.bool a.neg,s]) a:=⟨s,rfl,hs⟩
 have hb:eZ.R S w (.agg #[.bool b.neg,t]) b:=⟨t,rfl,ht⟩
 refine enter Tryz.func135 O Tryz.ntmps135 O (.sr (.box O O fun w1 b2 n1=>.box O O fun w2 b3 n2=>.alloc O C5 fun w3 b4 n3=>.nil ?_))
 obtain ⟨e1,k2,hb2,hs1⟩:=n1
 obtain ⟨e2,k3,hb3,hs2⟩:=n2
 obtain ⟨e3,k4,hb4,hs3⟩:=n3
 have x3:=(e1.trans e2).trans e3
 have k2:=(k2.ext e2).ext e3
 have k3:=k3.ext e3
 have hS4:¬ Sx S w.heap.size w3.heap.size b4:=Sx.no (by omega) (by omega)
 have up3:Up (Sx S w.heap.size w3.heap.size) w3:=Sx.up up (Nat.le_refl _) x3.size
 have ha3:=(ER.par eZ ha w3.heap.size).ext x3
 have hb3':=(ER.par eZ hb w3.heap.size).ext x3
 have hout:∀ {W:World} {v:Value} {z:QV},eQ.R (Sx S w.heap.size w3.heap.size) W v z->eQ.R S W v z:=fun h=>h.out
 generalize hT:Sx S w.heap.size w3.heap.size=T at *
 refine .sr (.ldA ty_Z O O k2 O (.ldA ty_Z O O k3 O ?_))
 refine .call _ O At4 O (Ap5 up3 ha3 hb3' (by omega) (by omega)) fun v4 w4 e4 h4=>?_
 rw [hgg] at h4
 obtain ⟨s4,rfl,hs4⟩:=h4
 have h4:eZ.R T w4 (.agg #[.bool (zc (g:Nat)).neg,s4]) (zc (g:Nat)):=⟨s4,rfl,hs4⟩
 refine .alloc O C0 fun w5 b5 n5=>?_
 obtain ⟨e5,k5,hb5,hs5⟩:=n5
 refine .storeA (E:=eZ) ty_Z O O k5 O O (ER.ext eZ (ER.lt eZ h4) e5) (fun h=>by have:=h.2;omega) fun w6 k5 u6 _=>.nil ?_
 have e46:Ext w4 w6:=u6.below e5 (by omega)
 have e36:=e4.trans e46
 have up6:=up3.ext e36.size
 have lg:(zc (g:Nat)).w.length<=1000000000:=Nat.le_trans (N0 (L:=L) (by rw [Int.natAbs_natCast];exact Nat.lt_of_le_of_lt hg1 hlb1)) hL
 have hgz:zval (zc ((g:Nat):Int))=(g:Int):=G0 _
 refine .sr (.ldA ty_Z O O (k2.ext e36) O (.ldA ty_Z O O k5 O ?_))
 refine .call _ O AX1 O (AV7 up6 (ER.ext eZ ha3 e36) (ER.ext eZ h4 e46) (by omega) lg (by rw [hgz];omega)) fun v7 w7 e7 h7=>?_
 obtain ⟨vq,vr,_,rfl,hq,hr,rfl⟩:=h7
 rw [hgz] at hq hr
 obtain ⟨sq,rfl,hsq⟩:=hq
 have hq:eZ.R T w7 (.agg #[.bool (zc (zval a / (g:Nat))).neg,sq]) (zc (zval a / (g:Nat))):=⟨sq,rfl,hsq⟩
 refine .mv O O (.ext O O O (.ext O O O (.ext O O O (.alloc O C0 fun w8 b6 n8=>.alloc O C0 fun w9 b7 n9=>?_))))
 obtain ⟨e8,k6,hb6,hs8⟩:=n8
 obtain ⟨e9,k7,hb7,hs9⟩:=n9
 have e79:=e8.trans e9
 refine .storeA (E:=eZ) ty_Z O O (k6.ext e9) O O (ER.ext eZ (ER.lt eZ hq) e79) (fun h=>by have:=h.2;omega) fun w10 k6 u10 _=>?_
 have e710:Ext w7 w10:=u10.below e79 (by omega)
 refine .storeA (E:=eZ) ty_Z O O (k7.upd u10 (by omega)) O O (ER.ext eZ (ER.lt eZ hr) e710) (fun h=>by have:=h.2;omega) fun w11 k7 u11 _=>.an O O ?_
 have e711:Ext w7 w11:=u11.below e710 (by omega)
 have k6:=k6.upd u11 (by omega)
 have e611:=e7.trans e711
 have up11:=up6.ext e611.size
 have k5:=k5.ext e611
 have e311:=e36.trans e611
 refine .sr (.ldA ty_Z O O (k3.ext e311) O (.ldA ty_Z O O k5 O ?_))
 refine .call _ O AX1 O (AV7 up11 (ER.ext eZ hb3' e311) (ER.ext eZ (ER.ext eZ h4 e46) e611) (by omega) lg (by rw [hgz];omega)) fun v12 w12 e12 h12=>?_
 obtain ⟨vd,ve,_,rfl,hd,he,rfl⟩:=h12
 rw [hgz] at hd he
 obtain ⟨sd,rfl,hsd⟩:=hd
 have hd:eZ.R T w12 (.agg #[.bool (zc (zval b / (g:Nat))).neg,sd]) (zc (zval b / (g:Nat))):=⟨sd,rfl,hsd⟩
 refine .mv O O (.ext O O O (.ext O O O (.ext O O O (.alloc O C0 fun w13 b9 n13=>.alloc O C0 fun w14 b10 n14=>?_))))
 obtain ⟨e13,k9,hb9,hs13⟩:=n13
 obtain ⟨e14,k10,hb10,hs14⟩:=n14
 have e1214:=e13.trans e14
 refine .storeA (E:=eZ) ty_Z O O (k9.ext e14) O O (ER.ext eZ (ER.lt eZ hd) e1214) (fun h=>by have:=h.2;omega) fun w15 k9 u15 _=>?_
 have e1215:Ext w12 w15:=u15.below e1214 (by omega)
 refine .storeA (E:=eZ) ty_Z O O (k10.upd u15 (by omega)) O O (ER.ext eZ (ER.lt eZ he) e1215) (fun h=>by have:=h.2;omega) fun w16 k10 u16 _=>.an O O ?_
 have e1216:Ext w12 w16:=u16.below e1215 (by omega)
 have k9:=k9.upd u16 (by omega)
 have e1116:=e12.trans e1216
 have k6:=k6.ext e1116
 have up16:=up11.ext e1116.size
 have hd:=ER.ext eZ hd e1216
 have hq:=ER.ext eZ hq (e711.trans e1116)
 have hdl:(zc (zval b / (g:Nat))).w.length<=1000000000:=Nat.le_trans (N0 (L:=L) (Nat.lt_of_le_of_lt (Int.natAbs_ediv_le_natAbs _ _) (by rw [hgb];exact hlb1))) hL
 have e316:=e311.trans e1116
 have k4:=k4.ext e316
 refine .seq (.seq ?_)
 refine .par follows 4 [.inl (.agg #[.bool (zc (zval b / (g:Nat))).neg,sd]),.inr (eZ.at T (zc 1)),.inl (.int .i64 (cmpI (zval (zc (zval b / (g:Nat)))) (zval (zc 1)))),.inl (.bool (cmpI (zval (zc (zval b / (g:Nat)))) (zval (zc 1)) == 0))] [[],[],[(29,0),(30,1)],[(31,2)]] (by kernel_rfl) ⟨
  fun w e=>(B9 ty_Z O (k9.ext e) O).ob,fun w e=>(A2 _ AW7 O (AV3 (up16.ext e.size))).ob (A6 _ _ _),
  fun w e x hx=>A2 _ At5 O (Ap6 (up16.ext e.size) (ER.ext eZ hd e) hx hdl (Nat.le_trans (N0 (L:=1) (by decide)) (by omega))),fun w e=>(BJ1 O O).ob,trivial⟩ ?_
 intro w17 e17 x1 hx1
 rw [G0,G0]
 have k4:=k4.ext e17
 have k6:=k6.ext e17
 have k9:=k9.ext e17
 obtain ⟨sq',he1,hsq'⟩:=ER.ext eZ hq e17
 obtain ⟨sd',he2,hsd'⟩:=ER.ext eZ hd e17
 injection he1 with he1
 injection he2 with he2
 simp at he1 he2
 subst he1
 subst he2
 have hxx:=x3.trans (e316.trans e17)
 by_cases h1:zval b / (g:Nat)=1
 ·rw [show (cmpI (zval b / (g:Nat)) 1 == 0)=true by rw [h1];decide]
  rw [if_pos h1] at hqc
  have hfin:eQ.R T w17 (.agg #[.bool (zc (zval a / (g:Nat))).neg,sq,.bool false,.slice none 0 0]) (qc (Rat.divInt (zval a) (zval b))):=by
   rw [hqc];exact ⟨sq,.slice none 0 0,rfl,hsq',RL.nil⟩
  refine .nil (.condT O (.sr (.ldA ty_Z O O k6 O (.bld [(0,.agg #[.bool (zc (zval a / (g:Nat))).neg,sq])] O O Am1 (.storeA (E:=eQ) ty_Q O O k4 O O hfin hS4 fun w18 k18 u18 h18=>.nil (.ret ?_))))))
  exact .cell Tryz.results135 O ty_Q O O k18 h18 ⟨u18.below hxx (by omega),hout h18⟩
 ·rw [show (cmpI (zval b / (g:Nat)) 1 == 0)=false by unfold cmpI;split<;>(try split)<;>first | rfl | omega]
  rw [if_neg h1] at hqc
  have hfin:eQ.R T w17 (.agg #[.bool (zc (zval a / (g:Nat))).neg,sq,.bool (zc (zval b / (g:Nat))).neg,sd]) (qc (Rat.divInt (zval a) (zval b))):=by
   rw [hqc];exact ⟨sq,sd,rfl,hsq',hsd'⟩
  refine .nil (.condF O (.skip (.sr (.ldA ty_Z O O k6 O (.ldA ty_Z O O k9 O (.bld [(0,.agg #[.bool (zc (zval a / (g:Nat))).neg,sq]),(1,.agg #[.bool (zc (zval b / (g:Nat))).neg,sd])] O O Ae0 (.storeA (E:=eQ) ty_Q O O k4 O O hfin hS4 fun w18 k18 u18 h18=>.nil (.ret ?_))))))))
  exact .cell Tryz.results135 O ty_Q O O k18 h18 ⟨u18.below hxx (by omega),hout h18⟩
end Go.Proofs.YtpgkacdihhjknaaGreat
namespace Go.Kx
end Go.Kx
namespace Go.Proofs.YtpgkacdihhjknaaGreat
open Go Go.Kx Go.RowKit
theorem zl {n:Int} {L K:Nat} (h:n.natAbs<4294967296 ^ L) (hL:L<=K):(zc n).w.length<=K:=Nat.le_trans (N0 h) hL
theorem eQ_digs {S:Nat->Prop} {w:World} {v:Value} {q:QV} (h:eQ.R S w v q):dig q.num.w/\dig q.den.w:=by
 obtain ⟨s,t,_,h1,h2⟩:=h
 exact ⟨F4 h1,F4 h2⟩
theorem Ag8:Ent Tryz.prog 84:=A0 Tryz.func84 (by kernel_rfl) rfl
theorem Af8 {S:Nat->Prop} {w:World} {v:Value} {q:QV} {L:Nat} (up:Up S w) (h:eQ.R S w v q) (hl:qok L q) (h1:1<=L) (hL:L<=1000000000):CR Tryz.prog 84 #[v] w (eQ.at S (qc (qval q))):=by
 obtain ⟨hd1,hd2⟩:=eQ_digs h
 have hln:=pn_lt hd1 hl
 have hld:=pd_lt hd2 hl h1
 have hpp:=S8 q
 obtain ⟨s,t,rfl,hs,ht⟩:=h
 have h:eQ.R S w (.agg #[.bool q.num.neg,s,.bool q.den.neg,t]) q:=⟨s,t,rfl,hs,ht⟩
 refine enter Tryz.func84 O Tryz.ntmps84 O (.sr (.box O O fun w1 b1 n1=>.alloc O C5 fun w2 b2 n2=>.nil ?_))
 obtain ⟨e1,k1,hb1,hs1⟩:=n1
 obtain ⟨e2,k2,hb2,hs2⟩:=n2
 have x2:=e1.trans e2
 have k1:=k1.ext e2
 have hS:¬ Sx S w.heap.size w2.heap.size b2:=Sx.no (by omega) (by omega)
 have up2:Up (Sx S w.heap.size w2.heap.size) w2:=Sx.up up (Nat.le_refl _) x2.size
 have h2:=(ER.par eQ h w2.heap.size).ext x2
 have hout:∀ {W:World} {v:Value} {z:QV},eQ.R (Sx S w.heap.size w2.heap.size) W v z->eQ.R S W v z:=fun h=>h.out
 generalize hT:Sx S w.heap.size w2.heap.size=T at *
 refine .seq ?_
 refine .par follows 5 [.inl _,.inr (eZ.at T (zc (pn q))),.inl _,.inr (eZ.at T (zc (pd q))),.inr (eQ.at T (qc (Rat.divInt (zval (zc (pn q))) (zval (zc (pd q))))))] [[],[(3,0)],[],[(5,2)],[(4,1),(6,3)]] (by kernel_rfl) ⟨
  fun w e=>(B9 ty_Q O (k1.ext e) O).ob,fun w e=>(A2 _ As9 O (Ap0 (up2.ext e.size) (ER.ext eQ h2 e) hl hL)).ob (A6 _ _ _),
  fun w e=>(B9 ty_Q O (k1.ext e) O).ob,fun w e=>(A2 _ At0 O (Ap1 (up2.ext e.size) (ER.ext eQ h2 e) hl hL)).ob (A6 _ _ _),
  fun w e x hx y hy=>(A2 _ Am5 O (Ak3 (up2.ext e.size) hx hy (zl hln (Nat.le_refl _)) (zl hld (Nat.le_refl _)) hL (by rw [G0];exact hpp))).ob (A6 _ _ _),trivial⟩ ?_
 intro w3 e3 x hx y hy z hz
 rw [G0,G0] at hz
 refine .storeA (E:=eQ) ty_Q O O (k2.ext e3) O O hz hS fun w4 k4 u4 h4=>.nil (.ret ?_)
 exact .cell Tryz.results84 O ty_Q O O k4 h4 ⟨u4.below (x2.trans e3) (by omega),hout h4⟩
end Go.Proofs.YtpgkacdihhjknaaGreat
namespace Go.Kx
open Go Go.RowKit
end Go.Kx
namespace Go.Proofs.YtpgkacdihhjknaaGreat
open Go Go.Kx Go.RowKit
end Go.Proofs.YtpgkacdihhjknaaGreat
namespace Go.Kx
end Go.Kx
namespace Go.Proofs.YtpgkacdihhjknaaGreat
open Go Go.Kx Go.RowKit
theorem BL4 {w:World} {v:Value} {t:TypeId} {sz n B B':Nat} {xs:List Value} (h:w.ownsRow B t sz v n xs) (hB:B'<=B):w.ownsRow B' t sz v n xs:=by
 refine ⟨h.1,?_⟩
 rcases h.2 with h | ⟨g,cap,cur,h1,h2,h3⟩
 ·exact .inl h
 ·exact .inr ⟨g,cap,cur,h1,Nat.le_trans hB h2,h3⟩
theorem OwnL.base {α:Type} {E:ER α} {t:TypeId} {B B':Nat} {X:Nat->Prop} {w:World} {v:Value} {l:List α} (h:OwnL E t B X w v l) (hB:B'<=B):OwnL E t B' X w v l:=by
 obtain ⟨es,h1,h2⟩:=h
 exact ⟨es,BL4 h1 hB,h2⟩
end Go.Proofs.YtpgkacdihhjknaaGreat
namespace Go.Kx
open Go Go.RowKit
section
variable {P:Program} {σ:Env} {w:World} {d:Option Tmp} {ty:TypeId} {pos:String} {af:Array Edge} {g:Option (Nat×Bool)}
end
end Go.Kx
namespace Go.Proofs.YtpgkacdihhjknaaGreat
open Go Go.Kx Go.RowKit
end Go.Proofs.YtpgkacdihhjknaaGreat
namespace Go.Kx
end Go.Kx
namespace Go.Proofs.YtpgkacdihhjknaaGreat
open Go Go.Kx Go.RowKit
end Go.Proofs.YtpgkacdihhjknaaGreat
namespace Go.Kx
open Go Go.RowKit
end Go.Kx
namespace Go.Proofs.YtpgkacdihhjknaaGreat
open Go Go.Kx Go.RowKit
section
variable {W W':World} {v va vb:Value} {n c n' c' L L':Nat} {a b m:List (List QV)} {x y:List QV}
theorem upT {W:World}:Up (fun _=>True) W:=fun _ _=>trivial
end
theorem BO2 {α:Type} {E:ER α} {hsz:0<E.sz} {S:Nat->Prop} {w w':World} {b:Nat} {t:TypeId} {cs:Array Value} {n:Nat} (vs:List Value) (ls:List (List α)) (hn:New w w' b t cs) (up:Up S w) (hcs:cs=vs.toArray) (hl:ls.length=n) (hm:n<=1000) (h:Els (RL E hsz) S w vs ls) :
  (RL (RL E hsz) (show 0<1 by decide)).R S w' (.slice (some ⟨b,0,none⟩) n n) ls:=by
 subst hl
 refine RL.ofBlk (es:=vs) hn.2.1 (up b (by have:=hn.2.2.1;omega)) (h.ext hn.1) (fun j u hu=>?_) (Nat.le_refl _) (by omega)
 rw [hcs]
 have hv:∀ v∈vs,v.cells=#[v]:=by
  intro v hv
  obtain ⟨i,hi⟩:=List.mem_iff_getElem?.1 hv
  have hlt:=mem_lt hi
  obtain ⟨a,c,rfl,_⟩:=RL.len (h.2 i v _ hi (List.getElem?_eq_getElem (by rw [<-h.1];exact hlt)))
  rfl
 have:cellsOf vs=vs:=by
  clear h hcs hu
  induction vs with
  | nil=>rfl
  | cons v vs ih=>rw [cellsOf,List.flatMap_cons,hv v (by simp),<-cellsOf,ih fun u hu=>hv u (by simp [hu])];rfl
 rw [this] at hu
 simpa using hu
theorem AO2:Ent Tryz.prog 43:=A0 Tryz.func43 (by kernel_rfl) rfl
theorem AN2 {S:Nat->Prop} {w:World} {n d:Int} (up:Up S w) (hn : -9223372036854775808<=n/\n<=9223372036854775807) (hd:0<d/\d<=9223372036854775807):CR Tryz.prog 43 #[.int .i64 n,.int .i64 d] w (eQ.at S (qc (Rat.divInt n d))):=by
 refine enter Tryz.func43 O Tryz.ntmps43 O (.sr (.alloc O C5 fun w1 b4 n1=>.nil (.sr (.mv O O ?_))))
 obtain ⟨e1,k4,hb4,hs1⟩:=n1
 have hS4:¬ Sx S w.heap.size w1.heap.size b4:=Sx.no (by omega) (by omega)
 have up1:Up (Sx S w.heap.size w1.heap.size) w1:=Sx.up up (Nat.le_refl _) e1.size
 refine .call _ O T8 O (T1 up1 hn.1 hn.2) fun v2 w2 e2 h2=>.mv O O (.call _ O T8 O (T1 (up1.ext e2.size) (by omega) hd.2) fun v3 w3 e3 h3=>?_)
 obtain ⟨s,rfl,hs⟩:=ER.ext eZ h2 e3
 obtain ⟨t,rfl,ht⟩:=h3
 refine .bld _ O O Ae0 ?_
 have hq:eQ.R (Sx S w.heap.size w1.heap.size) w3 (.agg #[.bool (zc n).neg,s,.bool (zc d).neg,t]) ⟨zc n,zc d⟩:=⟨s,t,rfl,hs,ht⟩
 have hok:qok 2 ⟨zc n,zc d⟩:=⟨N0 (by omega),N0 (by omega)⟩
 have hv:qval ⟨zc n,zc d⟩=Rat.divInt n d:=by
  unfold qval pn pd
  simp only [G0]
  rw [if_neg (by omega),if_neg (by omega),if_neg (by omega)]
 refine .call _ O Ag8 O (Af8 (up1.ext (e2.trans e3).size) hq hok (by decide) (by decide)) fun v4 w4 e4 h4=>?_
 rw [hv] at h4
 refine .storeA (E:=eQ) ty_Q O O (((k4.ext e2).ext e3).ext e4) O O h4 hS4 fun w5 k5 u5 h5=>.nil (.ret ?_)
 exact .cell Tryz.results43 O ty_Q O O k5 h5 ⟨u5.below (((e1.trans e2).trans e3).trans e4) (by omega),h5.out⟩
section
variable {m:List (List QV)} {b:List QV}
theorem rm_aug (i k:Nat):rm (augM m b) i k=if i<max m.length b.length/\k<colsOf m+1 then augF m b i k else 0:=AZ3 ..
theorem Aj3 (h:0<max m.length b.length):colsOf (augM m b)=colsOf m+1:=by rw [Ae5,if_neg (by omega)]
theorem BC6 (h:0<max m.length b.length):Ech (max m.length b.length) (colsOf m+1) (redF (augM m b)) (redP (augM m b)):=by
 have:=X7 (augM m b)
 rwa [AK3,Aj3 h] at this
theorem Az8 (m:List (List QV)):Req m.length (colsOf m) (rm m) (redF m):=AQ8 _ _ _ _
theorem BC5 (h:0<max m.length b.length):Req (max m.length b.length) (colsOf m+1) (augF m b) (redF (augM m b)):=by
 have:=Az8 (augM m b)
 rw [AK3,Aj3 h] at this
 have e:∀ i k,i<max m.length b.length->k<colsOf m+1->augF m b i k=rm (augM m b) i k:=fun i k hi hk=>by rw [rm_aug,if_pos ⟨hi,hk⟩]
 exact ⟨fun i hi=>(this.1 i hi).of_eq e,fun i hi=>(this.2 i hi).congr fun k hk=>e i k hi hk⟩
theorem aug_nil (h:max m.length b.length=0):redP (augM m b)=[]:=by
 have:=(X7 (augM m b)).len
 rw [AK3] at this
 exact List.length_eq_zero_iff.1 (by omega)
theorem As0 {i k:Nat} (h:k<colsOf m):augF m b i k=rm m i k:=by unfold augF;rw [if_pos h]
theorem Aj4 {i:Nat}:augF m b i (colsOf m)=rv b i:=by unfold augF;rw [if_neg (Nat.lt_irrefl _)]
theorem rv_solX (k:Nat):rv (solX m b) k=if k<colsOf m then partF (redF (augM m b)) (redP (augM m b)) (colsOf m) k else 0:=S7 ..
theorem rv_big {i:Nat} (h:max m.length b.length<=i):rv b i=0:=AT2 (by omega)
theorem rm_big {i k:Nat} (h:max m.length b.length<=i):rm m i k=0:=Av2 (by omega)
theorem sol_eq (hs:solvable m b) (i:Nat):sumN (colsOf m) (fun k=>rm m i k*rv (solX m b) k)=rv b i:=by
 rcases Nat.lt_or_ge i (max m.length b.length) with hi | hi
 ·have h0:0<max m.length b.length:=by omega
  have:=sol_of (BC6 h0) (BC5 h0) (fun j hj e=>hs (e▸E5 hj)) i hi
  rw [Aj4] at this
  rw [<-this]
  exact A3 fun k hk=>by rw [rv_solX,if_pos hk,As0 hk]
 ·rw [rv_big hi,E2 fun k _=>by rw [rm_big hi,Rat.zero_mul]]
theorem solv_of {y:Nat->Rat} (hy:∀ i,sumN (colsOf m) (fun k=>rm m i k*y k)=rv b i):solvable m b:=by
 intro hC
 by_cases h0:max m.length b.length=0
 ·rw [aug_nil h0] at hC;cases hC
 ·have h0:0<max m.length b.length:=by omega
  obtain ⟨j,hj,hjC⟩:=AW2 hC
  obtain ⟨t,ht1,ht2⟩:=no_sol (BC6 h0) (BC5 h0) hj hjC
  have:=sol_no (A:=augF m b) (x:=y) (fun i _=>by
   rw [Aj4,<-hy i]
   exact A3 fun k hk=>by rw [As0 hk]) ht1
  rw [this] at ht2
  exact absurd ht2 (by decide)
theorem AW0:(nullM m).length=(freeC m).length:=by unfold nullM;simp
theorem BF3 (m:List (List QV)):(nullM m).length+(redP m).length=colsOf m:=by rw [AW0];exact (X7 m).free_len
theorem BF5 {k:Nat}:k∈freeC m<->k<colsOf m/\k∉redP m:=by
 unfold freeC freeTo
 rw [List.mem_filter,List.mem_range]
 simp
theorem BF6 {i:Nat} (hi:i<(freeC m).length):(freeC m).getD i 0<colsOf m/\(freeC m).getD i 0∉redP m:=BF5.1 (E5 hi)
theorem not_piv {p:List Nat} {k:Nat} (h:k∉p):∀ j,j<p.length->p.getD j 0≠k:=fun _ hj e=>h (e▸E5 hj)
theorem BE5 {k:Nat} (hk:k<colsOf m) (i:Nat):sumN (colsOf m) (fun c=>rm m i c*nv (redF m) (redP m) k c)=0:=by
 rcases Nat.lt_or_ge i m.length with hi | hi
 ·exact Spn.dot0 ((Az8 m).2 i hi) fun j hj=>nv_null (X7 m) hk hj
 ·exact E2 fun c _=>by rw [Av2 hi,Rat.zero_mul]
end
theorem rsz1 {L:Nat} (hL:1<=L):Rsz 1 L:=by
 have:=Rsz.int 1 (L:=L) (Nat.lt_of_lt_of_le (by decide) (Nat.pow_le_pow_right (by decide) hL)) hL
 simpa using this
section
variable {m:List (List QV)} {b:List QV}
theorem inv_p (hc:colsOf m=m.length):(invE m).2=redP m:=by
 unfold invE redP
 rw [hc]
 exact (Ar1 (C:=m.length) (fun i k _ hk=>by unfold invF;rw [if_pos hk]) _ (Nat.le_refl _)).2
theorem BM6 (hc:colsOf m=m.length):invertible m<->(redP m).length=m.length:=by
 unfold invertible
 rw [inv_p hc]
 have:=(X7 m).len
 omega
theorem BA7 (h:invertible m) {i k:Nat} (hi:i<m.length) (hk:k<m.length):(invE m).1 i k=idR i k:=by
 have he:Ech m.length m.length (invE m).1 (invE m).2:=U9 ..
 have hl:(invE m).2.length=m.length:=by have:=he.len;unfold invertible at h;omega
 have:=he.one i k hi (by omega)
 rw [he.full hl k hk] at this
 exact this
theorem BK7 {i k:Nat} (hi:i<m.length) (hk:k<m.length):rm (invM m) i k=(invE m).1 i (m.length+k):=by
 unfold invM
 rw [AZ3,if_pos ⟨hi,hk⟩]
theorem BA9 {i k:Nat}:invF m i (m.length+k)=idR i k:=by
 unfold invF
 rw [if_neg (by omega),Nat.add_sub_cancel_left]
theorem BA8 {i k:Nat} (h:k<m.length):invF m i k=rm m i k:=by unfold invF;rw [if_pos h]
theorem BK0 {n:Nat} (t:Nat->Rat) {k:Nat} (hk:k<n):sumN n (fun j=>t j*idR j k)=t k:=by
 rw [E4 (i:=k) (fun j hj hne=>by unfold idR;rw [if_neg hne,Rat.mul_zero]),if_pos hk]
 unfold idR
 rw [if_pos rfl,Rat.mul_one]
theorem Ai6 (h:invertible m) {i k:Nat} (hi:i<m.length) (hk:k<m.length):sumN m.length (fun j=>rm m i j*rm (invM m) j k)=idR i k:=by
 obtain ⟨t,ht⟩:=(AQ8 m.length (m.length+m.length) (invF m) m.length).2 i hi
 have h1:∀ j,j<m.length->rm m i j=t j:=fun j hj=>by
  have:=ht j (by omega)
  rw [BA8 hj] at this
  rw [this,<-BK0 t hj]
  exact A3 fun l hl=>by rw [<-BA7 h hl hj];rfl
 have h2:=ht (m.length+k) (by omega)
 rw [BA9] at h2
 rw [h2]
 exact A3 fun j hj=>by rw [h1 j hj,BK7 hj hk];rfl
theorem BM7 (h:invertible m) {i k:Nat} (hi:i<m.length) (hk:k<m.length):sumN m.length (fun j=>rm (invM m) i j*rm m j k)=idR i k:=by
 obtain ⟨t,ht⟩:=(AQ8 m.length (m.length+m.length) (invF m) m.length).1 i hi
 have h1:∀ j,j<m.length->rm (invM m) i j=t j:=fun j hj=>by
  have:=ht (m.length+j) (by omega)
  rw [BK7 hi hj]
  refine Eq.trans this ?_
  rw [<-BK0 t hj]
  exact A3 fun l hl=>by rw [BA9]
 have h2:=ht k (by omega)
 rw [<-BA7 h hi hk]
 refine Eq.trans ?_ h2.symm
 exact A3 fun j hj=>by rw [h1 j hj,BA8 hk]
theorem BA6 {L n:Nat} (hk:mk_ L m) (hL:1<=L) (hn:m.length<=n):mk_ (bd L n) (invM m):=by
 refine AZ6 fun i k hi hk'=>?_
 have h1:=AQ7 (C:=m.length+m.length) (f:=invF m) hL (fun i k _ _=>by
  unfold invF
  split
  ·exact hk.rsz hL i k
  ·unfold idR
   split
   ·exact rsz1 hL
   ·exact Rsz.zero hL) m.length (by omega) i (m.length+k) hi (by omega)
 exact h1.mono (T6 L (Nat.le_trans (U9 m.length (invF m) m.length).len hn))
theorem BM5 (hc:colsOf m=m.length) (h:invertible m) (hb:∀ i,m.length<=i->rv b i=0):solvable m b:=by
 refine solv_of (y:=fun k=>sumN m.length fun j=>rm (invM m) k j*rv b j) fun i=>?_
 rw [hc]
 rcases Nat.lt_or_ge i m.length with hi | hi
 ·have h1:sumN m.length (fun k=>rm m i k*sumN m.length fun j=>rm (invM m) k j*rv b j)=sumN m.length fun j=>idR i j*rv b j:=by
   rw [A3 (g:=fun k=>sumN m.length fun j=>rm m i k*rm (invM m) k j*rv b j) fun k _=>by rw [<-N7];exact A3 fun j _=>by rw [Rat.mul_assoc]]
   rw [M5]
   exact A3 fun j hj=>by rw [P4,Ai6 h hi hj]
  rw [h1,E4 (i:=i) (fun j hj hne=>by unfold idR;rw [if_neg (fun e=>hne e.symm),Rat.zero_mul]),if_pos hi]
  unfold idR
  rw [if_pos rfl,Rat.one_mul]
 ·rw [hb i hi]
  exact E2 fun k _=>by rw [Av2 hi,Rat.zero_mul]
theorem inv_sol (hc:colsOf m=m.length) (h:invertible m) (hs:solvable m b) {i:Nat} (hi:i<m.length):sumN m.length (fun j=>rm (invM m) i j*rv b j)=rv (solX m b) i:=by
 rw [A3 (g:=fun j=>sumN m.length fun k=>rm (invM m) i j*rm m j k*rv (solX m b) k) fun j _=>by rw [<-sol_eq hs j,hc,<-N7];exact A3 fun k _=>by rw [Rat.mul_assoc]]
 rw [M5,A3 (g:=fun k=>idR i k*rv (solX m b) k) fun k hk=>by rw [P4,BM7 h hi hk]]
 rw [E4 (i:=i) (fun j hj hne=>by unfold idR;rw [if_neg (fun e=>hne e.symm),Rat.zero_mul]),if_pos hi]
 unfold idR
 rw [if_pos rfl,Rat.one_mul]
end
theorem M7 (p:List Nat) (i:Nat):freeTo p (i+1)=freeTo p i++if i∈p then [] else [i]:=by
 unfold freeTo
 rw [List.range_succ,List.filter_append]
 by_cases h:i∈p<;>simp [h]
theorem Ac4 (p:List Nat) (i:Nat):∀ d,∃ t,freeTo p (i+d)=freeTo p i++t
 | 0=>⟨[],(List.append_nil _).symm⟩
 | d+1=>by
  obtain ⟨t,ht⟩:=Ac4 p i d
  exact ⟨t++if i+d∈p then [] else [i+d],by rw [<-Nat.add_assoc,M7,ht,List.append_assoc]⟩
theorem BF4 {p:List Nat} {i C:Nat} (hi:i<C) (hp:i∉p):(freeTo p C).getD (freeTo p i).length 0=i/\(freeTo p i).length<(freeTo p C).length:=by
 obtain ⟨t,ht⟩:=Ac4 p (i+1) (C-(i+1))
 rw [show i+1+(C-(i+1))=C by omega,M7,if_neg hp] at ht
 rw [ht]
 constructor
 ·simp [List.getD_eq_getElem?_getD]
 ·simp
section
variable {m:List (List QV)} {b z:List QV}
end
end Go.Proofs.YtpgkacdihhjknaaGreat
namespace Go.Kx
open Go Go.RowKit
def oN (o:List Int):List Nat:=o.map Int.toNat
def inL (n:NtV) (o:List Int):List Nat:=freeTo (oN o) n.ls.length
theorem AB6 {n:NtV} {o:List Int} (h:outsOk n o):∀ d i,i+d<o.length->o.getD i 0+d<=o.getD (i+d) 0
 | 0,i,_=>by simp
 | d+1,i,hd=>by
  have h1:=AB6 h d i (by omega)
  have h2:=(h (i+(d+1)) hd).2.2 (by omega)
  rw [show i+(d+1)-1=i+d by omega] at h2
  omega
theorem Ak8 {n:NtV} {o:List Int} (h:outsOk n o) {k:Nat}:k∈oN o<->∃ i,i<o.length/\o.getD i 0=k:=by
 unfold oN
 rw [List.mem_map]
 constructor
 ·rintro ⟨x,hx,rfl⟩
  obtain ⟨i,hi⟩:=List.mem_iff_getElem?.1 hx
  have hlt:=(List.getElem?_eq_some_iff.1 hi).1
  have e:o.getD i 0=x:=by rw [List.getD_eq_getElem?_getD,hi];rfl
  have:=h i hlt
  exact ⟨i,hlt,by omega⟩
 ·rintro ⟨i,hi,e⟩
  exact ⟨o.getD i 0,by rw [List.getD_eq_getElem?_getD,List.getElem?_eq_getElem hi];exact List.getElem_mem hi,by omega⟩
end Go.Kx
namespace Go.Proofs.YtpgkacdihhjknaaGreat
open Go Go.Kx Go.RowKit
theorem Ab4 {n:NtV} {o:List Int} (h:chkE n≠0):outE n o=chkE n:=by unfold outE;rw [if_pos h]
theorem X8 {n:NtV} {o:List Int} (h:outE n o=0):chkE n=0/\outsOk n o:=by
 unfold outE at h
 split at h
 ·exact absurd h (by assumption)
 ·split at h
  ·exact ⟨Classical.not_not.1 (by assumption),by assumption⟩
  ·cases h
theorem BC1 {n:NtV} (h:chkE n=0):1<=n.b/\n.b<=6/\n.ls.length<=10/\chkOk n:=by
 unfold chkE at h
 split at h
 ·cases h
 ·split at h
  ·cases h
  ·split at h
   ·exact ⟨by omega,by omega,by omega,by assumption⟩
   ·cases h
theorem Ae7:Ent Tryz.prog 25:=A0 Tryz.func25 (by kernel_rfl) rfl
theorem Ab6 {S:Nat->Prop} {w:World} {vn vo:Value} {n:NtV} {o:List Int} (hn:eN.R S w vn n) (ho:eI.R S w vo o):CR Tryz.prog 25 #[vn,vo] w (Is (.int .i64 (outE n o))):=by
 obtain ⟨s,rfl,hs,hb⟩:=hn
 have hn:eN.R S w (.agg #[.int .i64 n.b,s]) n:=⟨s,rfl,hs,hb⟩
 obtain ⟨_,_,_,_,hll⟩:=RL.len ho
 obtain ⟨_,_,_,_,hls⟩:=RL.len hs
 refine enter Tryz.func25 O Tryz.ntmps25 O (.sr (.box O O fun w1 b2 n1=>.an O O ?_))
 obtain ⟨e1,k2,hb2,hs1⟩:=n1
 refine .seq (.sr (.ldA ty_N O O k2 O (.call _ O At8 O (Aq2 (hn.ext e1)) fun v2 w2 e2 h2=>.an O O ?_)))
 subst h2
 have x2:=e1.trans e2
 refine .sr (.mv O O ?_)
 by_cases hc:chkE n=0
 rotate_left
 ·refine .neqT O O O hc (.nil (.condT O (.sr (.mv O O (.an O O (.ret ?_))))))
  exact .plain [_] Tryz.results25 ⟨rfl,trivial⟩ ⟨x2,by rw [Ab4 hc];rfl⟩
 have hE:outsOk n o->outE n o=0:=fun h=>by unfold outE;rw [if_neg (by simpa using hc),if_pos h]
 have hE1:¬ outsOk n o->outE n o=1:=fun h=>by unfold outE;rw [if_neg (by simpa using hc),if_neg h]
 refine .neqF O O O hc (.nil (.condF O (.skip ?_)))
 have k2:=k2.ext e2
 have hs:=hs.ext x2
 have ho:=ho.ext x2
 refine .seq (.sr (.mv O O (.lenR un_I O O ho (.mv O O (.nil (.block (.loop (α:=Nat) (fun i=>[(1,vo),(2,.pointer (some ⟨b2,0,none⟩)),(13,vo),(14,.int .i64 (o.length:Nat)),(15,.int .i64 (i:Nat))]) (fun i W=>W=w2/\i<=o.length/\∀ j,j<i->0<=o.getD j 0/\o.getD j 0<n.ls.length/\(0<j->o.getD (j-1) 0<o.getD j 0)) (fun i=>o.length-i) 0 ?_ ?_ ?_)))))))
 ·exact lkA rfl
 ·exact ⟨rfl,Nat.zero_le _,fun j hj=>absurd hj (Nat.not_lt_zero _)⟩
 rintro i W ⟨rfl,hi,hall⟩
 refine .sr ?_
 rcases Nat.lt_or_ge i o.length with hlt | hge
 rotate_left
 ·refine .lssF O O O (by omega) (.nil (.seq (.condF O (.exit (.sr (.an O O (.ret ?_)))))))
  exact .plain [_] Tryz.results25 ⟨rfl,trivial⟩ ⟨x2,by rw [hE fun j hj=>hall j (by omega)];rfl⟩
 have hg:o[i]?=some (o.getD i 0):=A9 hlt
 refine .lssT O O O (by omega) (.nil (.seq (.condT O (.skip (.seq (.block (.sr (.mv O O (.ixN (i:=i) un_I B0 O O ho O hg fun q hq=>.ldE (E:=eInt .i64) B0 O O hq fun e he=>.asg O O (.an O O (.sr (.mv O O ?_))))))))))))
 obtain ⟨rfl,_⟩:=he
 have hbad:∀ {σ:Env},¬ (0<=o.getD i 0/\o.getD i 0<n.ls.length/\(0<i->o.getD (i-1) 0<o.getD i 0))->Leave Tryz.prog Tryz.f25 43 (fun v w'=>Ext w w'/\Is (.int .i64 (outE n o)) v w') ((4,.int .i64 1)::σ) [] W:=fun h=>.plain [_] Tryz.results25 ⟨rfl,trivial⟩ ⟨x2,by rw [hE1 fun h'=>h (h' i hlt)];rfl⟩
 by_cases h0:o.getD i 0<0
 ·refine .lssT O O O h0 (.mv O O (.gs O O O O O (.gs O O O O O (.gs O O O O O (.gs O O O O O (.gs O O O O O (.pick O O O (.mv O O (.gs O O O O O (.gs O O O O O (.gs O O O O O (.gu O O O O (.gu O O O O (.gu O O O O (.gu O O O O (.gu O O O O (.gu O O O O (.gu O O O O (.gs O O O O O (.pick O O O (.nil (.condT O (.sr (.an O O (.ret ?_)))))))))))))))))))))))))
  exact hbad (by omega)
 refine .lssF O O O (by omega) (.mv O O (.gr O O O O (.mv O O (.gr O O O O (.fa K9 O O (.gr O O O O (.ld R7 O O k2 O (.gr O O O O (.lenR M4 O O hs (.gr O O O O ?_))))))))))
 by_cases h1:(n.ls.length:Int)<=o.getD i 0
 ·refine .geqT O O O h1 (.pick O O O (.mv O O (.gs O O O O O (.gs O O O O O (.gs O O O O O (.gu O O O O (.gu O O O O (.gu O O O O (.gu O O O O (.gu O O O O (.gu O O O O (.gu O O O O (.gs O O O O O (.pick O O O (.nil (.condT O (.sr (.an O O (.ret ?_)))))))))))))))))))
  exact hbad (by omega)
 refine .geqF O O O (by omega) (.pick O O O (.mv O O (.gr O O O O (.mv O O (.gr O O O O ?_)))))
 have hnext:∀ {σ:Env},(0<i->o.getD (i-1) 0<o.getD i 0)->Kx.look σ 1=some vo->Kx.look σ 2=some (.pointer (some ⟨b2,0,none⟩))->Kx.look σ 13=some vo->Kx.look σ 14=some (.int .i64 (o.length:Nat))->∃ i':Nat,(∀ t v,Kx.look [(1,vo),(2,.pointer (some ⟨b2,0,none⟩)),(13,vo),(14,.int .i64 (o.length:Nat)),(15,.int .i64 (i':Nat))] t=some v->Kx.look ((15,.int .i64 ((i:Int)+1))::σ) t=some v)/\(W=W/\i'<=o.length/\∀ j,j<i'->0<=o.getD j 0/\o.getD j 0<n.ls.length/\(0<j->o.getD (j-1) 0<o.getD j 0))/\o.length-i'<o.length-i:=by
  intro σ hlast a1 a2 a3 a4
  refine ⟨i+1,A5 a1 (A5 a2 (A5 a3 (A5 a4 (lkA O)))),⟨rfl,hlt,fun j hj=>?_⟩,by omega⟩
  by_cases e:j=i
  ·subst e;exact ⟨by omega,by omega,hlast⟩
  ·exact hall j (by omega)
 by_cases hi0:0<i
 ·have hg':o[i-1]?=some (o.getD (i-1) 0):=A9 (by omega)
  refine .gtrT O O O (by omega) (.gr O O O O (.mv O O (.gr O O O O (.mv O O (.gr O O O O (.mv O O (.gr O O O O (.mv O O (.gr O O O O (.sub O O O ?_))))))))))
  rw [wI (by omega),show (i:Int)-1=((i-1:Nat):Int) by omega]
  refine .gr O O O O (.ixN (i:=i-1) un_I B0 O O ho O hg' fun q hq=>.gr O O O O (.ldE (E:=eInt .i64) B0 O O hq fun e he=>?_))
  obtain ⟨rfl,_⟩:=he
  by_cases hle:o.getD i 0<=o.getD (i-1) 0
  ·refine .gr O O O O (.leqT O O O hle (.gr O O O O (.pick O O O (.pick O O O (.nil (.condT O (.sr (.an O O (.ret ?_)))))))))
   exact hbad (fun h=>by have:=h.2.2 hi0;omega)
  ·refine .gr O O O O (.leqF O O O (by omega) (.gr O O O O (.pick O O O (.pick O O O (.nil (.condF O (.skip (.region (.add O O O (.mv O O (.nil ?_)))))))))))
   rw [wI (by omega)]
   exact ⟨rfl,hnext (fun _=>by omega) O O O rfl⟩
 ·refine .gtrF O O O (by omega) (.gr O O O O (.mv O O (.gs O O O O O (.gs O O O O O (.gs O O O O O (.gs O O O O O (.gs O O O O O (.gs O O O O O (.gs O O O O O (.gr O O O O (.pick O O O (.pick O O O (.nil (.condF O (.skip (.region (.add O O O (.mv O O (.nil ?_)))))))))))))))))))
  rw [wI (by omega)]
  exact ⟨rfl,hnext (fun h=>absurd h hi0) O O O rfl⟩
theorem AY9:Ent Tryz.prog 53:=A0 Tryz.func53 (by kernel_rfl) rfl
theorem AY2 {w:World} {vn vo:Value} {x y:Value} (hn:vn=.agg #[x,y]) {a:Option Addr} {m c:Nat} (ho:vo=.slice a m c):CR Tryz.prog 53 #[vn,vo] w (fun v w'=>∃ b1 b2,v=.func (.func 95) #[] #[.pointer (some ⟨b1,0,none⟩),.pointer (some ⟨b2,0,none⟩)] /\
  Blk w' b1 24 #[x,y]/\Blk w' b2 25 #[vo]/\w.heap.size<=b1/\w.heap.size<=b2):=by
 subst hn;subst ho
 refine enter Tryz.func53 O Tryz.ntmps53 O (.sr (.box O O fun w1 b1 n1=>.box O O fun w2 b2 n2=>.an O O ?_))
 obtain ⟨e1,k1,hb1,hs1⟩:=n1
 obtain ⟨e2,k2,hb2,hs2⟩:=n2
 refine .sr (.mkf [] [_,_] O O O O (.an O O (.ret ?_)))
 exact .plain [_] Tryz.results53 ⟨rfl,trivial⟩ ⟨e1.trans e2,b1,b2,rfl,k1.ext e2,k2,by omega,by have:=e1.size;omega⟩
theorem BQ2:Ent Tryz.prog 95:=A0 Tryz.func95 (by kernel_rfl) rfl
theorem BN0 {S:Nat->Prop} {n:NtV} {o:List Int} {s vo x:Value} {b1 b2:Nat} (hok:outsOk n o) (hl:n.ls.length<=10):Iter Tryz.prog 95 #[.pointer (some ⟨b1,0,none⟩),.pointer (some ⟨b2,0,none⟩)] (inL n o).length
  (fun k=>[.int .i64 ((inL n o).getD k 0:Nat)]) (fun W=>Blk W b1 24 #[x,s]/\Blk W b2 25 #[vo]/\eLs.R S W s n.ls/\eI.R S W vo o):=by
 intro l J X stJ stX hF hy W hJ
 have hF0:=hF 0 W hJ
 refine enterG Tryz.func95 O Tryz.ntmps95 O (.sr (.an O O (.sr (.fa K9 O O (.ld R7 O O hF0.1 O (.lenR M4 O O hF0.2.2.1 (.mv O O (.nil ?_))))))))
 refine .block (.loop (α:=Nat×Nat) (fun y=>[(9,.int .i64 (y.1:Nat)),(8,.int .i64 (n.ls.length:Nat)),(4,.int .i64 (y.2:Nat)),(0,.func (.yield l) #[] #[]),(1,.pointer (some ⟨b1,0,none⟩)),(2,.pointer (some ⟨b2,0,none⟩))])
  (fun y W=>J (freeTo (oN o) y.1).length W/\y.1<=n.ls.length/\y.2<=o.length/\(∀ i,i<y.2->o.getD i 0<y.1)/\(y.2<o.length->(y.1:Int)<=o.getD y.2 0)) (fun y=>n.ls.length-y.1) (0,0) ?_ ?_ ?_)
 ·exact lkA rfl
 ·exact ⟨hJ,Nat.zero_le _,Nat.zero_le _,fun i hi=>absurd hi (Nat.not_lt_zero _),fun h=>(hok 0 h).1⟩
 rintro ⟨k,nx⟩ W ⟨hJ,hk,hnx,hlo,hhi⟩
 replace hJ:J (freeTo (oN o) k).length W:=hJ
 replace hk:k<=n.ls.length:=hk
 replace hnx:nx<=o.length:=hnx
 replace hlo:∀ i,i<nx->o.getD i 0<k:=hlo
 replace hhi:nx<o.length->(k:Int)<=o.getD nx 0:=hhi
 obtain ⟨hB1,hB2,hA,hB⟩:=hF _ W hJ
 obtain ⟨_,_,_,_,hll⟩:=RL.len hB
 refine .sr ?_
 rcases Nat.lt_or_ge k n.ls.length with hlt | hge
 rotate_left
 ·refine .lssF O O O (by omega) (.nil (.seq (.condF O (.exit (.plain [] Tryz.results95 trivial ?_)))))
  have:k=n.ls.length:=by omega
  subst this;exact .inl hJ
 refine .lssT O O O (by omega) (.nil (.seq (.condT O (.skip (.seq (.block (.sr (.mv O O (.an O O (.mid (α:=Unit) (fun _=>[(9,.int .i64 (k:Nat)),(8,.int .i64 (n.ls.length:Nat)),(4,.int .i64 (nx:Nat)),(5,.int .i64 (k:Nat)),(0,.func (.yield l) #[] #[]),(1,.pointer (some ⟨b1,0,none⟩)),(2,.pointer (some ⟨b2,0,none⟩))]) (fun _ W'=>W'=W/\k∉oN o) ?_ ?_))))))))))
 ·refine .sr (.mv O O (.ld ty_I O O hB2 O (.lenR un_I O O hB ?_)))
  rcases Nat.lt_or_ge nx o.length with hn1 | hn1
  ·have hg:o[nx]?=some (o.getD nx 0):=A9 hn1
   refine .lssT O O O (by omega) (.mv O O (.gr O O O O (.ld ty_I O O hB2 O (.gr O O O O (.mv O O (.gr O O O O (.ixN (i:=nx) un_I B0 O O hB O hg fun q hq=>.gr O O O O (.ldE (E:=eInt .i64) B0 O O hq fun e he=>.gr O O O O (.mv O O (.gr O O O O ?_))))))))))
   obtain ⟨rfl,_⟩:=he
   have:=hhi hn1
   by_cases he:o.getD nx 0=k
   ·refine .eqlT O O O he (.pick O O O (.nil (.condT O (.sr (.mv O O (.add O O O (.an O O (.exit (.region (.add O O O (.mv O O (.nil ?_))))))))))))
    rw [wI (by omega),wI (by omega)]
    refine ⟨rfl,(k+1,nx+1),lkA rfl,⟨?_,hlt,hn1,fun i hi=>?_,fun h=>?_⟩,by show n.ls.length-(k+1)<n.ls.length-k;omega⟩
    ·show J (freeTo (oN o) (k+1)).length W
     rw [M7,if_pos ((Ak8 hok).2 ⟨nx,hn1,he⟩),List.append_nil]
     exact hJ
    ·show o.getD i 0<((k+1:Nat):Int)
     by_cases e:i=nx
     ·subst e;omega
     ·have:=hlo i (by have:i<nx+1:=hi;omega);omega
    ·show ((k+1:Nat):Int)<=o.getD (nx+1) 0
     have:=AB6 hok 1 nx h
     omega
   ·refine .eqlF O O O he (.pick O O O (.nil (.condF O (.skip (⟨rfl,(),lkA rfl,rfl,fun hm=>?_⟩)))))
    obtain ⟨i,hi,e⟩:=(Ak8 hok).1 hm
    rcases Nat.lt_or_ge i nx with h | h
    ·have:=hlo i h;omega
    ·have:=AB6 hok (i-nx) nx (by omega)
     rw [show nx+(i-nx)=i by omega] at this
     omega
  ·refine .lssF O O O (by omega) (.mv O O (.gs O O O O O (.gs O O O O O (.gs O O O O O (.gs O O O O O (.gs O O O O O (.gs O O O O O (.pick O O O (.nil (.condF O (.skip (⟨rfl,(),lkA rfl,rfl,fun hm=>?_⟩))))))))))))
   obtain ⟨i,hi,e⟩:=(Ak8 hok).1 hm
   have:=hlo i (by omega)
   omega
 rintro _ _ ⟨rfl,hno⟩
 obtain ⟨hat,hatl⟩:=BF4 (C:=n.ls.length) hlt hno
 have hy':=hy (freeTo (oN o) k).length _ hatl hJ
 dsimp only at hy'
 rw [show (inL n o).getD (freeTo (oN o) k).length 0=k from hat] at hy'
 refine .sr (.mv O O (.mv O O (.yld (l:=l) [.int .i64 (k:Nat)] (R:=fun v w'=>(v=.bool true/\J ((freeTo (oN o) k).length+1) w')\/(v=.bool false/\X w')) O O O ?_ ?_)))
 ·refine YieldAt.mono hy' ?_
  rintro e W' (⟨rfl,h⟩ | ⟨rfl,h⟩)
  ·exact ⟨_,rfl,.inl ⟨rfl,h⟩⟩
  ·exact ⟨_,rfl,.inr ⟨rfl,h⟩⟩
 rintro v w' (⟨rfl,h⟩ | ⟨rfl,h⟩)
 ·refine .not_ O O (.nil (.condF O (.skip (.region (.add O O O (.mv O O (.nil ?_)))))))
  rw [wI (by omega)]
  refine ⟨rfl,(k+1,nx),lkA rfl,⟨?_,hlt,hnx,fun i hi=>?_,fun hn1=>?_⟩,by show n.ls.length-(k+1)<n.ls.length-k;omega⟩
  ·show J (freeTo (oN o) (k+1)).length w'
   rw [M7,if_neg hno,List.length_append]
   exact h
  ·show o.getD i 0<((k+1:Nat):Int)
   have:=hlo i hi;omega
  ·show ((k+1:Nat):Int)<=o.getD nx 0
   have h1:=hhi hn1
   have h2:o.getD nx 0≠k:=fun e=>hno ((Ak8 hok).2 ⟨nx,hn1,e⟩)
   omega
 ·refine .not_ O O (.nil (.condT O (.ret ?_)))
  exact .plain [] Tryz.results95 trivial (.inr h)
theorem Aj0 (p:List Nat) (i:Nat):(freeTo p i).length<=i:=by
 unfold freeTo
 have:=List.length_filter_le (fun k => !(decide (k∈p))) (List.range i)
 simpa using this
theorem Y4 (n:NtV) (o:List Int):(inL n o).length<=n.ls.length:=Aj0 _ _
structure InJ (w:World) (S:Nat->Prop) (b7 b1 b2:Nat) (x s vo:Value) (n:NtV) (o:List Int) (k:Nat) (W:World):Prop where
 low:Below w.heap.size w W
 k1:Blk W b1 24 #[x,s]
 k2:Blk W b2 25 #[vo]
 acc:∃ v,Blk W b7 25 #[v]/\OwnL (eInt .i64) 3 w.heap.size (fun k=>S k/\k≠b7) W v (pInts ((inL n o).take k))
theorem InJ.sft {w0:World} {S:Nat->Prop} {b7 b1 b2:Nat} {x s vo:Value} {n:NtV} {o:List Int} {k D:Nat} {W W':World} (h:InJ w0 S b7 b1 b2 x s vo n o k W) (hs:Sft D W W') (hD:w0.heap.size<=D):InJ w0 S b7 b1 b2 x s vo n o k W':=by
 obtain ⟨v,h1,h2⟩:=h.acc
 exact ⟨h.low.trans (hs.below.mono hD),hs.cells.blk trivial h.k1,hs.cells.blk trivial h.k2,v,hs.cells.blk trivial h1,h2.kp hs.cells⟩
theorem Au2:zeroOf Tryz.prog 25=some (.slice none 0 0):=by kernel_rfl
theorem AC4:Ent Tryz.prog 17:=A0 Tryz.func17 (by kernel_rfl) rfl
theorem AB7 {S:Nat->Prop} {w:World} {vn vo:Value} {n:NtV} {o:List Int} (up:Up S w) (hn:eN.R S w vn n) (ho:eI.R S w vo o):CR Tryz.prog 17 #[vn,vo] w (Two (eI.at S (if outE n o=0 then pInts (inL n o) else [])) (Is (.int .i64 (outE n o)))):=by
 obtain ⟨s,rfl,hs,hb⟩:=hn
 have hn:eN.R S w (.agg #[.int .i64 n.b,s]) n:=⟨s,rfl,hs,hb⟩
 obtain ⟨ao,co,hvo,_⟩:=RL.len ho
 refine enter Tryz.func17 O Tryz.ntmps17 O (.sr (.box O O fun w1 b2 n1=>.asg O O (.an O O ?_)))
 obtain ⟨e1,k2,hb2,hs1⟩:=n1
 refine .seq (.sr (.ldA ty_N O O k2 O (.mv O O (.call _ O Ae7 O (Ab6 (hn.ext e1) (ho.ext e1)) fun v2 w2 e2 h2=>.an O O ?_))))
 subst h2
 have x2:=e1.trans e2
 refine .sr (.mv O O ?_)
 by_cases hE:outE n o=0
 rotate_left
 ·refine .neqT O O O hE (.nil (.condT O (.sr (.mv O O (.asg O O (.an O O (.ret (.plain [_,_] Tryz.results17 ⟨rfl,rfl,trivial⟩ ⟨x2,_,_,rfl,?_,rfl⟩))))))))
  rw [if_neg hE];exact RL.nil
 rw [if_pos hE]
 obtain ⟨hc,hok⟩:=X8 hE
 obtain ⟨_,_,hl10,_⟩:=BC1 hc
 refine .neqF O O O hE (.nil (.condF O (.skip (.sr (.alloc O Au2 fun w3 b7 n3=>.nil ?_)))))
 obtain ⟨e3,k7,hb7,hs3⟩:=n3
 have x3:=x2.trans e3
 refine .seq (.sr (.ldA ty_N O O ((k2.ext e2).ext e3) O (.mv O O (.call _ O AY9 O (AY2 O hvo) fun v4 w4 e4 h4=>.nil ?_))))
 obtain ⟨p1,p2,rfl,kp1,kp2,hp1,hp2⟩:=h4
 have x4:=x3.trans e4
 have hs4:=e4.size
 have hs2:=e2.size
 have hsL:∀ {W:World},Below w.heap.size w W->eLs.R (fun k=>S k/\k<w.heap.size) W s n.ls:=fun hB=>eLs.keep (fun k c t f hk h=>(hB.block k hk.2).trans h) (ER.lt eLs hs)
 have hoL:∀ {W:World},Below w.heap.size w W->eI.R (fun k=>S k/\k<w.heap.size) W vo o:=fun hB=>eI.keep (fun k c t f hk h=>(hB.block k hk.2).trans h) (ER.lt eI ho)
 refine .block (.range (BN0 (S:=fun k=>S k/\k<w.heap.size) (n:=n) (o:=o) (s:=s) (vo:=vo) (x:=.int .i64 n.b) hok hl10) O BQ2 (fun k=>rfl) (by decide)
  (InJ w S b7 p1 p2 (.int .i64 n.b) s vo n o) (fun _ _=>False) (fun k W W' h hs=>h.sft hs x4.size) (fun _ _ _ h _=>h.elim) (fun k W h=>⟨h.k1,h.k2,hsL h.low,hoL h.low⟩) ?_ ?_ ?_ (fun _ _ h=>h.elim))
 ·refine ⟨x4,kp1,kp2,_,k7.ext e4,?_⟩
  rw [List.take_zero];exact OwnL.nil
 ·intro l k W hk hJ
  refine .region (.an O O ⟨rfl,rfl,fun W hJ hsz=>?_⟩)
  obtain ⟨hlow,kp1,kp2,v,k7,hown⟩:=hJ
  have hlw:=hlow.size
  refine .block (.region (.ld ty_I O O k7 O (.mv O O (.bsl _ O O AU0 fun W1 by_ ny=>?_))))
  obtain ⟨ey,ky,hby,hsy⟩:=ny
  have hlow1:=hlow.trans (ey.mono hlw)
  have hkl:=Y4 n o
  refine .gv O O (AA2 (E:=eInt .i64) (base:=w.heap.size) (n:=(((inL n o).getD k 0:Nat):Int)) (e:=.int .i64 (((inL n o).getD k 0:Nat):Int)) (by decide) un_I AH0 O O O (hown.ext ey) ky ⟨rfl,by
    have:(inL n o).getD k 0<n.ls.length:=by
     have hm:(inL n o).getD k 0∈inL n o:=E5 hk
     unfold inL freeTo at hm
     exact List.mem_range.1 (List.mem_filter.1 hm).1
    exact E9.2 (by omega)⟩ (by simp;omega) (by decide) hlow1.size) ?_
  rintro v8 W8 ⟨ho8,hg8⟩
  have hown1:=hown.ext ey
  have k78:=hown1.gblk hg8 (k7.ext ey) (by decide)
  have kp18:=hown1.gblk hg8 (kp1.ext ey) (by decide)
  have kp28:=hown1.gblk hg8 (kp2.ext ey) (by decide)
  have hlow8:=hown1.below hg8 hlow1 hlow1.size
  obtain ⟨a8,c8,hv8⟩:=ho8.slice
  refine .store ty_I O O k78 (by rw [hv8];rfl) (by simp) (by rw [hv8];simp [one1,Value.cells]) fun W9 k9 u9=>.nil ?_
  refine ⟨((Oth.ext ey).trans (hown1.oth hg8)).trans (Oth.upd u9 k78),u9.below hlow8 (by omega),kp18.upd u9 (by omega),kp28.upd u9 (by omega),v8,by rw [hv8] at k9 ⊢;exact k9,?_⟩
  have:=ho8.upd u9 k78 (by decide) (fun h=>h.2 O)
  have htk:pInts ((inL n o).take (k+1))=pInts ((inL n o).take k)++[(((inL n o).getD k 0:Nat):Int)]:=by
   unfold pInts
   rw [List.take_add_one,A9 (z:=0) hk,List.map_append]
   rfl
  rw [htk]
  exact this
 ·intro W hJ hD
  obtain ⟨hlow,kp1,kp2,v,k7,hown⟩:=hJ
  refine .sr (.ld ty_I O O k7 O (.asg O O (.an O O (.ret (.mark [_,_] Tryz.results17 hD ⟨rfl,rfl,trivial⟩ ⟨L5 hlow x4.size,_,_,rfl,?_,by rw [hE]⟩)))))
  rw [List.take_of_length_le (Nat.le_refl _)] at hown
  exact (hown.kp (Kp.put hD O)).toR up (fun _ h=>h.1)
end Go.Proofs.YtpgkacdihhjknaaGreat
namespace Go.Kx
def dl (a b:Nat):Rat:=if a=b then 1 else 0
theorem AQ9 (a:Nat):dl a a=1:=if_pos rfl
theorem AH5 {a b:Nat} (h:a≠b):dl a b=0:=if_neg h
theorem AM9 {n a:Nat} (f:Nat->Rat) (h:a<n):sumN n (fun b=>f b*dl a b)=f a:=by
 rw [E4 (i:=a) (fun k _ hne=>by rw [AH5 (Ne.symm hne),Rat.mul_zero]),if_pos h,AQ9,Rat.mul_one]
theorem rat_sq (x:Rat):0<=x*x:=by
 rcases Rat.le_total (a:=0) (b:=x) with h | h
 ·exact Rat.mul_nonneg h h
 ·have h2:0 <= -x:=by grind
  have:=Rat.mul_nonneg h2 h2
  grind
theorem rat_sq0 {x:Rat} (h:x*x=0):x=0:=by
 rcases Rat.mul_eq_zero.1 h with h | h<;>exact h
theorem Ao8 {n:Nat} {f:Nat->Rat} (h:∀ k,k<n->0<=f k):0<=sumN n f:=by
 induction n with
 | zero=>exact Rat.le_refl
 | succ n ih =>
  unfold sumN
  grind
theorem sumN_le {n:Nat} {f g:Nat->Rat} (h:∀ k,k<n->f k<=g k):sumN n f<=sumN n g:=by
 have:=Ao8 (n:=n) (f:=fun k=>g k-f k) fun k hk=>by have:=h k hk;grind
 rw [AB5] at this
 grind
theorem BD7 {n:Nat} {f:Nat->Rat} (h:∀ k,k<n->0<=f k) {j:Nat} (hj:j<n):f j<=sumN n f:=by
 have h1:sumN n (fun k=>if k=j then f j else 0)=f j:=by
  rw [E4 (i:=j) (fun k _ hne=>if_neg hne),if_pos hj,if_pos rfl]
 rw [<-h1]
 refine sumN_le fun k hk=>?_
 have:=h k hk
 by_cases e:k=j
 ·subst e;rw [if_pos rfl];exact Rat.le_refl
 ·rw [if_neg e];exact this
theorem BD8 {n:Nat} {f:Nat->Rat} (h:∀ k,k<n->0<=f k) (h0:sumN n f=0) {j:Nat} (hj:j<n):f j=0:=by
 have h1:=BD7 h hj
 have h2:=h j hj
 rw [h0] at h1
 exact Rat.le_antisymm h1 h2
structure Nw where
 B:Nat
 M:Nat
 F:Nat->Nat
 T:Nat->Nat
 g:Nat->Rat
structure Nw.Ok (n:Nw):Prop where
 f:∀ k,k<n.M->n.F k<n.B
 t:∀ k,k<n.M->n.T k<n.B
 p:∀ k,k<n.M->0<=n.g k
namespace Nw
section
variable (n:Nw)
def inc (k b:Nat):Rat:=dl (n.F k) b-dl (n.T k) b
def fl (θ:Nat->Rat) (k:Nat):Rat:=n.g k*(θ (n.F k)-θ (n.T k))
def off (f:Nat->Rat) (b:Nat):Rat:=sumN n.M fun k=>n.inc k b*f k
def lap (θ:Nat->Rat) (b:Nat):Rat:=n.off (n.fl θ) b
def Lm (b c:Nat):Rat:=sumN n.M fun k=>n.g k*(n.inc k b*n.inc k c)
def clo (D:Nat->Prop):Prop:=∀ k,k<n.M->n.g k≠0->(D (n.F k)<->D (n.T k))
def rootTo:Nat->Nat->Nat
 | 0,b=>b
 | j+1,b=>if n.g j=0 then rootTo j b else if rootTo j b=max (rootTo j (n.F j)) (rootTo j (n.T j)) then min (rootTo j (n.F j)) (rootTo j (n.T j)) else rootTo j b
def root (b:Nat):Nat:=n.rootTo n.M b
def gm (b c:Nat):Rat:=if n.root b=b then dl b c else n.Lm b c
end
section
variable {n:Nw} {θ φ f:Nat->Rat}
theorem Az2 (ok:n.Ok) {k:Nat} (hk:k<n.M) (φ:Nat->Rat):sumN n.B (fun b=>φ b*n.inc k b)=φ (n.F k)-φ (n.T k):=by
 have e:sumN n.B (fun b=>φ b*n.inc k b)=sumN n.B (fun b=>φ b*dl (n.F k) b-φ b*dl (n.T k) b):=A3 fun b _=>by unfold inc;grind
 rw [e,AB5,AM9 φ (ok.f k hk),AM9 φ (ok.t k hk)]
theorem green (ok:n.Ok) (φ f:Nat->Rat):sumN n.B (fun b=>φ b*n.off f b)=sumN n.M fun k=>(φ (n.F k)-φ (n.T k))*f k:=by
 have e:sumN n.B (fun b=>φ b*n.off f b)=sumN n.B (fun b=>sumN n.M fun k=>φ b*n.inc k b*f k):=A3 fun b _=>by
  unfold off
  rw [<-N7]
  exact A3 fun k _=>by grind
 rw [e,M5]
 refine A3 fun k hk=>?_
 rw [P4,Az2 ok hk]
theorem lap_sum (ok:n.Ok) (θ:Nat->Rat) (b:Nat):sumN n.B (fun c=>n.Lm b c*θ c)=n.lap θ b:=by
 have e:sumN n.B (fun c=>n.Lm b c*θ c)=sumN n.B (fun c=>sumN n.M fun k=>n.g k*n.inc k b*(θ c*n.inc k c)):=A3 fun c _=>by
  unfold Lm
  rw [<-P4]
  exact A3 fun k _=>by grind
 rw [e,M5]
 unfold lap off
 refine A3 fun k hk=>?_
 rw [N7,Az2 ok hk]
 unfold fl
 grind
theorem rigid (ok:n.Ok) {D:Nat->Prop} (hD:n.clo D) (h:∀ b,b<n.B->D b->θ b*n.lap θ b=0):∀ k,k<n.M->n.g k≠0->D (n.F k)->θ (n.F k)=θ (n.T k):=by
 classical
 have e:=green ok (fun b=>if D b then θ b else 0) (n.fl θ)
 have e0:sumN n.B (fun b=>(if D b then θ b else 0)*n.off (n.fl θ) b)=0:=E2 fun b hb=>by
  by_cases hd:D b
  ·rw [if_pos hd];exact h b hb hd
  ·rw [if_neg hd,Rat.zero_mul]
 rw [e0] at e
 have hterm:∀ k,k<n.M->((if D (n.F k) then θ (n.F k) else 0)-(if D (n.T k) then θ (n.T k) else 0))*n.fl θ k=if D (n.F k) then n.g k*((θ (n.F k)-θ (n.T k))*(θ (n.F k)-θ (n.T k))) else 0:=by
  intro k hk
  by_cases hg:n.g k=0
  ·unfold fl
   rw [hg]
   split<;>grind
  ·have:=hD k hk hg
   by_cases hd:D (n.F k)
   ·rw [if_pos hd,if_pos (this.1 hd),if_pos hd]
    unfold fl
    grind
   ·rw [if_neg hd,if_neg (fun x=>hd (this.2 x)),if_neg hd]
    grind
 intro k hk hg hd
 have hn:∀ k,k<n.M->0<=((if D (n.F k) then θ (n.F k) else 0)-(if D (n.T k) then θ (n.T k) else 0))*n.fl θ k:=fun k hk=>by
  rw [hterm k hk]
  split
  ·exact Rat.mul_nonneg (ok.p k hk) (rat_sq _)
  ·exact Rat.le_refl
 have h0:=BD8 hn e.symm hk
 rw [hterm k hk,if_pos hd] at h0
 rcases Rat.mul_eq_zero.1 h0 with h0 | h0
 ·exact absurd h0 hg
 ·have:=rat_sq0 h0
  grind
theorem Az6 {θ:Nat->Rat}:∀ j,(∀ k,k<j->n.g k≠0->θ (n.F k)=θ (n.T k))->∀ b,θ (n.rootTo j b)=θ b
 | 0,_,b=>rfl
 | j+1,h,b=>by
  have ih:=Az6 j fun k hk=>h k (by omega)
  unfold rootTo
  split
  ·exact ih b
  ·rename_i hg
   split
   ·rename_i e
    have h1:=h j (by omega) hg
    have hF:=ih (n.F j)
    have hT:=ih (n.T j)
    have hb:=ih b
    have h2:θ (max (n.rootTo j (n.F j)) (n.rootTo j (n.T j)))=θ (n.F j):=by
     rcases Nat.le_total (n.rootTo j (n.F j)) (n.rootTo j (n.T j)) with h | h
     ·rw [Nat.max_eq_right h,hT,h1]
     ·rw [Nat.max_eq_left h,hF]
    have h3:θ (min (n.rootTo j (n.F j)) (n.rootTo j (n.T j)))=θ (n.F j):=by
     rcases Nat.le_total (n.rootTo j (n.F j)) (n.rootTo j (n.T j)) with h | h
     ·rw [Nat.min_eq_left h,hF]
     ·rw [Nat.min_eq_right h,hT,h1]
    rw [h3,<-h2,<-e,hb]
   ·exact ih b
theorem Ah8:∀ j b,n.rootTo j b<=b
 | 0,b=>Nat.le_refl b
 | j+1,b=>by
  have ih:=Ah8 j
  have:=ih b
  unfold rootTo
  split
  ·exact this
  ·split
   ·rename_i e;omega
   ·exact this
theorem AV1:∀ j b,n.rootTo j (n.rootTo j b)=n.rootTo j b
 | 0,b=>rfl
 | j+1,b=>by
  have ih:=AV1 j
  have ib:=ih b
  have iF:=ih (n.F j)
  have iT:=ih (n.T j)
  by_cases hg:n.g j=0
  ·have e:∀ b,n.rootTo (j+1) b=n.rootTo j b:=fun b=>by rw [rootTo,if_pos hg]
   rw [e,e];exact ib
  ·have e:∀ b,n.rootTo (j+1) b=if n.rootTo j b=max (n.rootTo j (n.F j)) (n.rootTo j (n.T j)) then min (n.rootTo j (n.F j)) (n.rootTo j (n.T j)) else n.rootTo j b:=fun b=>by rw [rootTo,if_neg hg]
   rw [e b]
   split
   ·rw [e]
    rcases Nat.le_total (n.rootTo j (n.F j)) (n.rootTo j (n.T j)) with h | h
    ·rw [Nat.min_eq_left h,Nat.max_eq_right h,iF]
     split
     ·rfl
     ·rfl
    ·rw [Nat.min_eq_right h,Nat.max_eq_left h,iT]
     split
     ·rfl
     ·rfl
   ·rename_i hne
    rw [e,ib,if_neg hne]
theorem AV2:∀ j k,k<j->n.g k≠0->n.rootTo j (n.F k)=n.rootTo j (n.T k)
 | 0,k,h,_=>absurd h (Nat.not_lt_zero _)
 | j+1,k,h,hg=>by
  by_cases e:k=j
  ·subst e
   rw [rootTo,rootTo,if_neg hg,if_neg hg]
   rcases Nat.le_total (n.rootTo k (n.F k)) (n.rootTo k (n.T k)) with h | h
   ·rw [Nat.max_eq_right h,Nat.min_eq_left h]
    rw [if_pos rfl]
    split
    ·rfl
    ·rfl
   ·rw [Nat.max_eq_left h,Nat.min_eq_right h]
    rw [if_pos rfl]
    split
    ·rfl
    ·rfl
  ·have ih:=AV2 j k (by omega) hg
   rw [rootTo,rootTo,ih]
theorem root_le (b:Nat):n.root b<=b:=Ah8 _ b
theorem root_root (b:Nat):n.root (n.root b)=n.root b:=AV1 _ b
theorem root_line {k:Nat} (hk:k<n.M) (hg:n.g k≠0):n.root (n.F k)=n.root (n.T k):=AV2 _ k hk hg
theorem root_const (h:∀ k,k<n.M->n.g k≠0->θ (n.F k)=θ (n.T k)) (b:Nat):θ (n.root b)=θ b:=Az6 _ h b
theorem clo_root (r:Nat):n.clo fun b=>n.root b=r:=fun k hk hg=>by
 show n.root (n.F k)=r<->n.root (n.T k)=r
 rw [root_line hk hg]
theorem off_clo (ok:n.Ok) {D:Nat->Prop} [DecidablePred D] (hD:n.clo D) (hf:∀ k,k<n.M->n.g k=0->f k=0):sumN n.B (fun b=>if D b then n.off f b else 0)=0:=by
 have e:=green ok (fun b=>if D b then 1 else 0) f
 have e1:sumN n.B (fun b=>if D b then n.off f b else 0)=sumN n.B (fun b=>(if D b then 1 else 0)*n.off f b):=A3 fun b _=>by split<;>grind
 rw [e1,e]
 refine E2 fun k hk=>?_
 by_cases hg:n.g k=0
 ·rw [hf k hk hg,Rat.mul_zero]
 ·have:=hD k hk hg
  by_cases hd:D (n.F k)
  ·rw [if_pos hd,if_pos (this.1 hd)];grind
  ·rw [if_neg hd,if_neg fun x=>hd (this.2 x)];grind
theorem fl_out {k:Nat} (h:n.g k=0):n.fl θ k=0:=by unfold fl;rw [h,Rat.zero_mul]
theorem ker0 (ok:n.Ok) (h:∀ b,b<n.B->if n.root b=b then θ b=0 else n.lap θ b=0):∀ b,b<n.B->θ b=0:=by
 have hr:=rigid (θ:=θ) ok (D:=fun _=>True) (fun _ _ _=>Iff.rfl) fun b hb _=>by
  have:=h b hb
  split at this
  ·rw [this,Rat.zero_mul]
  ·rw [this,Rat.mul_zero]
 intro b hb
 rw [<-root_const (fun k hk hg=>hr k hk hg trivial) b]
 have hle:=root_le (n:=n) b
 have:=h (n.root b) (by omega)
 rw [if_pos (root_root b)] at this
 exact this
theorem gm_sum (ok:n.Ok) (θ:Nat->Rat) {b:Nat} (hb:b<n.B):sumN n.B (fun c=>n.gm b c*θ c)=if n.root b=b then θ b else n.lap θ b:=by
 unfold gm
 split
 ·rw [<-AM9 θ hb]
  exact A3 fun c _=>by grind
 ·exact lap_sum ok θ b
theorem lap_sub (b:Nat):n.lap (fun c=>θ c-φ c) b=n.lap θ b-n.lap φ b:=by
 unfold lap off
 rw [<-AB5]
 exact A3 fun k _=>by unfold fl;grind
theorem uniq (ok:n.Ok) (h:∀ b,b<n.B->if n.root b=b then θ b=φ b else n.lap θ b=n.lap φ b):∀ b,b<n.B->θ b=φ b:=by
 intro b hb
 have:=ker0 (θ:=fun c=>θ c-φ c) ok (fun b hb=>by
  have:=h b hb
  split at this
  ·rw [if_pos (by assumption),this];grind
  ·rw [if_neg (by assumption),lap_sub,this];grind) b hb
 grind
end
end Nw
open Go Go.RowKit
def ln0:LnV:=⟨0,0,1,0⟩
def nwOf (n:NtV) (o:List Int):Nw where
 B:=n.b.toNat
 M:=n.ls.length
 F:=fun k=>(n.ls.getD k ln0).f.toNat
 T:=fun k=>(n.ls.getD k ln0).t.toNat
 g:=fun k=>if k∈oN o then 0 else ((n.ls.getD k ln0).x:Rat)⁻¹
def tabI (n:Nat) (p:Nat->Nat):List Int:=(List.range n).map fun b=>((p b:Nat):Int)
theorem R9 (n:Nat) (p:Nat->Nat):(tabI n p).length=n:=by simp [tabI]
theorem AB4 {n i:Nat} {p:Nat->Nat} (h:i<n):(tabI n p)[i]?=some ((p i:Nat):Int):=by unfold tabI;rw [List.getElem?_map,List.getElem?_range h];rfl
theorem BJ9 {n i v:Nat} {p:Nat->Nat}:(tabI n p).set i ((v:Nat):Int)=tabI n fun b=>if b=i then v else p b:=by
 apply List.ext_getElem?
 intro j
 rw [List.getElem?_set]
 unfold tabI
 rw [List.length_map,List.length_range,List.getElem?_map,List.getElem?_map]
 by_cases hj:i=j
 ·subst hj
  rw [if_pos rfl]
  by_cases h:i<n
  ·rw [if_pos h,List.getElem?_range h];simp
  ·rw [if_neg h,List.getElem?_eq_none (by simpa using h)];rfl
 ·rw [if_neg hj]
  by_cases h:j<n
  ·rw [List.getElem?_range h];simp [Ne.symm hj]
  ·rw [List.getElem?_eq_none (by simpa using h)];rfl
def Clm (B:Nat) (p R:Nat->Nat):Prop:=∀ b,b<B->p b<=b/\(p b=b->R b=b)/\(p b≠b->R b=R (p b))
def Nw.stepR (n:Nw) (R:Nat->Nat) (k:Nat):Nat->Nat:=fun b=>if R b=max (R (n.F k)) (R (n.T k)) then min (R (n.F k)) (R (n.T k)) else R b
def Nw.rootF (n:Nw) (l:List Nat):Nat->Nat:=l.foldl n.stepR id
theorem Nw.rootF_snoc (n:Nw) (l:List Nat) (k:Nat):n.rootF (l++[k])=n.stepR (n.rootF l) k:=by unfold Nw.rootF;rw [List.foldl_append];rfl
theorem Nw.rootF_free {n:Nw} {p:List Nat}:∀ j,(∀ k,k<j->(n.g k=0<->k∈p))->n.rootTo j=n.rootF (freeTo p j)
 | 0,_=>rfl
 | j+1,h=>by
  have ih:=Nw.rootF_free j fun k hk=>h k (by omega)
  have hj:=h j (by omega)
  rw [Go.Proofs.YtpgkacdihhjknaaGreat.M7]
  funext b
  rw [Nw.rootTo]
  by_cases hg:n.g j=0
  ·rw [if_pos hg,if_pos (hj.1 hg),List.append_nil,ih]
  ·rw [if_neg hg,if_neg (fun h=>hg (hj.2 h)),Nw.rootF_snoc,<-ih];rfl
structure Idm (R:Nat->Nat):Prop where
 rr:∀ b,R (R b)=R b
 le:∀ b,R b<=b
theorem Idm.step {n:Nw} {R:Nat->Nat} (h:Idm R) (k:Nat):Idm (n.stepR R k):=by
 have hF:=h.rr (n.F k)
 have hT:=h.rr (n.T k)
 unfold Nw.stepR
 generalize R (n.F k)=a at *
 generalize R (n.T k)=c at *
 have hm:R (min a c)=min a c:=by
  rcases Nat.le_total a c with h | h
  ·rw [Nat.min_eq_left h,hF]
  ·rw [Nat.min_eq_right h,hT]
 refine ⟨fun b=>?_,fun b=>?_⟩
 ·by_cases hb:R b=max a c
  ·rw [if_pos hb,hm]
   split
   ·rfl
   ·rfl
  ·rw [if_neg hb,h.rr,if_neg hb]
 ·have:=h.le b
  split
  ·omega
  ·exact this
theorem Nw.rootF_idm (n:Nw) (l:List Nat):Idm (n.rootF l):=by
 unfold Nw.rootF
 have:∀ (l:List Nat) (R:Nat->Nat),Idm R->Idm (l.foldl n.stepR R):=by
  intro l
  induction l with
  | nil=>exact fun R h=>h
  | cons k l ih=>exact fun R h=>ih _ (h.step k)
 exact this l id ⟨fun _=>rfl,fun b=>Nat.le_refl b⟩
theorem Clm.step {n:Nw} {B k:Nat} {p R:Nat->Nat} (h:Clm B p R) (hi:Idm R):Clm B (fun b=>if b=max (R (n.F k)) (R (n.T k)) then min (R (n.F k)) (R (n.T k)) else p b) (n.stepR R k):=by
 have iF:=hi.rr (n.F k)
 have iT:=hi.rr (n.T k)
 unfold Nw.stepR
 generalize R (n.F k)=a at *
 generalize R (n.T k)=c at *
 have hM:R (max a c)=max a c:=by
  rcases Nat.le_total a c with h | h
  ·rw [Nat.max_eq_right h,iT]
  ·rw [Nat.max_eq_left h,iF]
 have hm:R (min a c)=min a c:=by
  rcases Nat.le_total a c with h | h
  ·rw [Nat.min_eq_left h,iF]
  ·rw [Nat.min_eq_right h,iT]
 intro b hb
 obtain ⟨h1,h2,h3⟩:=h b hb
 dsimp only
 by_cases hbM:b=max a c
 ·subst hbM
  rw [if_pos rfl]
  refine ⟨by omega,fun h=>?_,fun h=>?_⟩
  ·rw [hM,if_pos rfl];exact h
  ·rw [hM,hm,if_pos rfl,if_neg h]
 ·rw [if_neg hbM]
  refine ⟨h1,fun h=>?_,fun h=>?_⟩
  ·rw [h2 h,if_neg hbM]
  ·rw [h3 h]
def Nw.lab (n:Nw) (b:Nat):Nat:=((List.range (n.root b)).filter fun r=>decide (n.root r=r)).length
def Nw.refs (n:Nw):List Nat:=(List.range n.B).filter fun r=>decide (n.root r=r)
def Nw.cnt (n:Nw) (b:Nat):Nat:=((List.range b).filter fun r=>decide (n.root r=r)).length
theorem Nw.cnt_succ (n:Nw) (b:Nat):n.cnt (b+1)=n.cnt b+if n.root b=b then 1 else 0:=by
 unfold Nw.cnt
 rw [List.range_succ,List.filter_append,List.length_append]
 by_cases h:n.root b=b
 ·simp [h]
 ·simp [h]
theorem Nw.cnt_le (n:Nw) (b:Nat):n.cnt b<=b:=by
 unfold Nw.cnt
 have:=List.length_filter_le (fun r=>decide (n.root r=r)) (List.range b)
 simpa using this
theorem Nw.lab_root (n:Nw) {b:Nat} (h:n.root b=b):n.lab b=n.cnt b:=by unfold Nw.lab Nw.cnt;rw [h]
theorem Nw.lab_of (n:Nw) (b:Nat):n.lab b=n.lab (n.root b):=by unfold Nw.lab;rw [Nw.root_root]
theorem Nw.lab_le (n:Nw) (b:Nat):n.lab b<=b:=Nat.le_trans (n.cnt_le _) (Nw.root_le b)
def lnI (l:LnV):Nat->Int
 | 0=>l.f
 | 1=>l.t
 | 2=>l.x
 | _=>l.c
theorem PtrTo.ln {S:Nat->Prop} {w:World} {p:Addr} {l:LnV} (h:PtrTo eL S w p l) (i:Nat) (hi:i<4):PtrTo (eInt .i64) S w (p.add i) (lnI l i):=by
 obtain ⟨e,⟨rfl,h1,h2,h3,h4⟩,hS,hc⟩:=h
 refine ⟨.int .i64 (lnI l i),⟨rfl,?_⟩,by rw [I7];exact hS,fun j u hu=>?_⟩
 ·match i with
  | 0=>exact h1
  | 1=>exact h2
  | 2=>exact h3
  | 3=>exact h4
 ·have hj:j=0:=by
   cases j with
   | zero=>rfl
   | succ j=>simp [Value.cells] at hu
  subst hj
  rw [AR4]
  refine hc _ u ?_
  match i with
  | 0=>simpa [Value.cells,lnI] using hu
  | 1=>simpa [Value.cells,lnI] using hu
  | 2=>simpa [Value.cells,lnI] using hu
  | 3=>simpa [Value.cells,lnI] using hu
section
variable {P:Program} {σ:Env} {w:World} {d:Option Tmp} {ty:TypeId} {pos:String} {af:Array Edge} {g:Option (Nat×Bool)} {S:Nat->Prop}
theorem Ak6 {s:TypeId} {x:Operand} {i off:Nat} {u:Value} {l:LnV} (hf:fldOf P s i=some off) (hx:ev σ x=some u) (hp:Ptr eL S l u w) (ho:off<4):Gv P ⟨d,.fieldAddr s x i,ty,pos,af,g⟩ σ w fun v' w'=>Ext w w'/\Sp.ok (.inr (Ptr (eInt .i64) S (lnI l off))) v' w':=by
 obtain ⟨p,rfl,hp⟩:=hp
 exact G1 (v_faP hf hx) ⟨_,rfl,hp.ln off ho⟩ (fun _ _ _ e ⟨p,h1,h2⟩=>⟨p,h1,h2.ext e⟩)
end
section
variable {P:Program} {ro:Option Nat} {N:Nat} {ds:List Deferred} {ops:Array Oper} {K:Env->World->Prop} {rest:List Oper} {σ:Env} {w:World} {d:Tmp} {ty:TypeId} {pos:String} {af:Array Edge} {S:Nat->Prop}
end
end Go.Kx
namespace Go.Proofs.YtpgkacdihhjknaaGreat
open Go Go.Kx Go.RowKit
structure nwOk (n:NtV) (o:List Int):Prop where
 b:n.b=((nwOf n o).B:Nat)
 b1:1<=(nwOf n o).B
 b6:(nwOf n o).B<=6
 m:(nwOf n o).M<=10
 fI:∀ k,k<(nwOf n o).M->(n.ls.getD k ln0).f=((nwOf n o).F k:Nat)
 tI:∀ k,k<(nwOf n o).M->(n.ls.getD k ln0).t=((nwOf n o).T k:Nat)
 f:∀ k,k<(nwOf n o).M->(nwOf n o).F k<(nwOf n o).B
 t:∀ k,k<(nwOf n o).M->(nwOf n o).T k<(nwOf n o).B
 ne:∀ k,k<(nwOf n o).M->(nwOf n o).F k≠(nwOf n o).T k
 x:∀ k,k<(nwOf n o).M->1<=(n.ls.getD k ln0).x/\(n.ls.getD k ln0).x<=1000
 c:∀ k,k<(nwOf n o).M->0<=(n.ls.getD k ln0).c/\(n.ls.getD k ln0).c<=1000000
 outs:outsOk n o
theorem I9 {n:NtV} {o:List Int} (h:outE n o=0):nwOk n o:=by
 obtain ⟨hc,ho⟩:=X8 h
 obtain ⟨h1,h6,h10,hck⟩:=BC1 hc
 have hB:n.b=((n.b.toNat:Nat):Int):=by omega
 have hl:∀ k,k<n.ls.length->∀ i,i<5->ck i n.b (n.ls.getD k ln0)=true:=fun k hk=>hck k hk _ (A9 hk)
 refine ⟨hB,by show 1<=n.b.toNat;omega,by show n.b.toNat<=6;omega,h10,fun k hk=>?_,fun k hk=>?_,fun k hk=>?_,fun k hk=>?_,fun k hk=>?_,fun k hk=>?_,fun k hk=>?_,ho⟩
 all_goals
  have c0:=hl k hk 0 (by decide)
  have c1:=hl k hk 1 (by decide)
  have c2:=hl k hk 2 (by decide)
  have c3:=hl k hk 3 (by decide)
  have c4:=hl k hk 4 (by decide)
  simp [ck] at c0 c1 c2 c3 c4
 ·show (n.ls.getD k ln0).f=(((n.ls.getD k ln0).f.toNat:Nat):Int)
  simp;omega
 ·show (n.ls.getD k ln0).t=(((n.ls.getD k ln0).t.toNat:Nat):Int)
  simp;omega
 ·show (n.ls.getD k ln0).f.toNat<n.b.toNat
  simp;omega
 ·show (n.ls.getD k ln0).t.toNat<n.b.toNat
  simp;omega
 ·show (n.ls.getD k ln0).f.toNat≠(n.ls.getD k ln0).t.toNat
  simp;omega
 ·simpa using c3
 ·simpa using c4
theorem nwOk.g0 {n:NtV} {o:List Int} (h:nwOk n o) {k:Nat} (hk:k<(nwOf n o).M):(nwOf n o).g k=0<->k∈oN o:=by
 show (if k∈oN o then (0:Rat) else ((n.ls.getD k ln0).x:Rat)⁻¹)=0<->_
 constructor
 ·intro h0
  by_cases hm:k∈oN o
  ·exact hm
  ·rw [if_neg hm] at h0
   have hx:=(h.x k hk).1
   have hne:((n.ls.getD k ln0).x:Rat)≠0:=fun e=>by
    have:(n.ls.getD k ln0).x=0:=by exact_mod_cast e
    omega
   have h2:=Rat.mul_inv_cancel _ hne
   rw [h0,Rat.mul_zero] at h2
   exact absurd h2 (by decide)
 ·intro hm;rw [if_pos hm]
theorem nwOk.ok {n:NtV} {o:List Int} (h:nwOk n o):(nwOf n o).Ok:=by
 refine ⟨h.f,h.t,fun k hk=>?_⟩
 show (0:Rat)<=if k∈oN o then (0:Rat) else ((n.ls.getD k ln0).x:Rat)⁻¹
 split
 ·exact Rat.le_refl
 ·have hx:=(h.x k hk).1
  exact Rat.le_of_lt (Rat.inv_pos.2 (by exact_mod_cast (by omega:0<(n.ls.getD k ln0).x)))
theorem Ay0:Ent Tryz.prog 199:=A0 Tryz.func199 (by kernel_rfl) rfl
theorem Aw8 {w:World} {b8 g B b:Nat} {p R:Nat->Nat} (k8:Blk w b8 25 #[.slice (some ⟨g,0,none⟩) B B]) (hf:FB (eInt .i64) 3 (fun _=>True) w g (tabI B p)) (hp:Clm B p R) (hb:b<B) :
  CR Tryz.prog 199 #[.int .i64 (b:Nat),.pointer (some ⟨b8,0,none⟩)] w (Is (.int .i64 (R b:Nat))):=by
 refine enter Tryz.func199 O Tryz.ntmps199 O (.sr (.an O O (.scope (.seq (.label (.seq (.block (.loop (α:=Nat) (fun x=>[(0,.int .i64 (x:Nat)),(1,.pointer (some ⟨b8,0,none⟩))]) (fun x W=>W=w/\x<B/\R x=R b) (fun x=>x) b ?_ ?_ ?_))))))))
 ·exact lkA rfl
 ·exact ⟨rfl,hb,rfl⟩
 rintro x W ⟨rfl,hx,hR⟩
 obtain ⟨h1,h2,h3⟩:=hp x hx
 refine .block (.sr (.ld ty_I O O k8 O (.mv O O (.ixB (i:=x) un_I B0 O O O hx (.ldF (E:=eInt .i64) (i:=x) (by decide) B0 O O (Nat.zero_add _) hf (AB4 hx) fun e he=>.an O O (.sr (.mv O O (.nil ?_))))))))
 obtain ⟨rfl,_⟩:=he
 refine .block (.sr (.mv O O ?_))
 by_cases hpx:p x=x
 ·refine .eqlT O O O (by omega) (.an O O (.condT O (.exit (.sr (.mv O O (.an O O (.ret ?_)))))))
  exact .plain [_] Tryz.results199 ⟨rfl,trivial⟩ ⟨Ext.refl _,by rw [<-hR,h2 hpx];rfl⟩
 ·refine .eqlF O O O (by omega) (.an O O (.condF O (.region (.mv O O (.an O O ?_)))))
  exact ⟨rfl,p x,lkA rfl,⟨rfl,by omega,by rw [<-h3 hpx];exact hR⟩,by omega⟩
theorem AJ2 {n:NtV} {o:List Int} {i:Nat} (hi:i<(inL n o).length):(pInts (inL n o))[i]?=some (((inL n o).getD i 0:Nat):Int)/\(inL n o).getD i 0<n.ls.length/\(inL n o).getD i 0∉oN o:=by
 have key:∀ k,k∈inL n o->k<n.ls.length/\k∉oN o:=fun k hk=>by
  unfold inL freeTo at hk
  rw [List.mem_filter] at hk
  exact ⟨List.mem_range.1 hk.1,by simpa using hk.2⟩
 obtain ⟨h1,h2⟩:=key _ (E5 hi)
 exact ⟨by rw [List.getElem?_map,A9 (z:=0) hi];rfl,h1,h2⟩
theorem fil_get {B i j:Nat} {f:Nat->Int} (hj:j<B) (hi:j<i):(fil B i f 0)[j]?=some (f j):=by
 unfold fil
 rw [List.getElem?_map,List.getElem?_range hj]
 simp [hi]
theorem AI0:Ent Tryz.prog 137:=A0 Tryz.func137 (by kernel_rfl) rfl
theorem AG8 {S:Nat->Prop} {w:World} {vn vo:Value} {n:NtV} {o:List Int} (up:Up S w) (hn:eN.R S w vn n) (ho:eI.R S w vo o) :
  CR Tryz.prog 137 #[vn,vo] w (Two (eI.at S (if outE n o=0 then tabI (nwOf n o).B (nwOf n o).lab else [])) (Is (.int .i64 (outE n o)))):=by
 obtain ⟨s,rfl,hs,hb⟩:=hn
 have hn:eN.R S w (.agg #[.int .i64 n.b,s]) n:=⟨s,rfl,hs,hb⟩
 refine enter Tryz.func137 O Tryz.ntmps137 O ?_
 refine .sr (.box O O fun w1 b2 n1=>.asg O O (.an O O ?_))
 obtain ⟨e1,k2,hb2,hs1⟩:=n1
 refine .sr (.ldA ty_N O O k2 O (.mv O O ?_))
 refine .call _ O AC4 O (AB7 (up.ext e1.size) (hn.ext e1) (ho.ext e1)) fun v2 w2 e2 h2=>?_
 obtain ⟨vl,ve,rfl,hl,he⟩:=h2
 replace he:ve=.int .i64 (outE n o):=he
 subst he
 have x2:=e1.trans e2
 refine .mv O O (.ext O O O (.ext O O O (.asg O O (.an O O (.seq (.sr (.mv O O ?_)))))))
 by_cases hE:outE n o=0
 rotate_left
 ·refine .neqT O O O hE (.nil (.condT O (.sr (.mv O O (.asg O O (.an O O (.ret ?_)))))))
  refine .plain [_,_] Tryz.results137 ⟨rfl,rfl,trivial⟩ ⟨x2,_,_,rfl,?_,rfl⟩
  rw [if_neg hE];exact RL.nil
 have ok:=I9 hE
 rw [if_pos hE] at hl ⊢
 have hB6:=ok.b6
 have hM10:n.ls.length<=10:=ok.m
 have hll:=Y4 n o
 generalize hB:(nwOf n o).B=B at *
 refine .neqF O O O hE (.nil (.condF O (.skip ?_)))
 have k2:=k2.ext e2
 have hnb:=ok.b
 rw [hB] at hnb
 rw [hnb] at k2
 refine .sr (.fa I6 O O (.ld A8 O O k2 O ?_))
 refine .make_ B B un_I AH0 O (by decide) O O O (Nat.le_refl _) (by omega) (by omega) fun w3 g n3=>?_
 have f3:FB (eInt .i64) 3 (fun _=>True) w3 g (List.replicate B 0):=FB.made n3 ⟨rfl,by decide⟩
 obtain ⟨e3,_,hg3,hs3⟩:=n3
 refine .alloc O Au2 fun w4 b8 n4=>?_
 obtain ⟨e4,k8,hb8,hs4⟩:=n4
 refine .store ty_I O O k8 O (by simp [Value.cells]) (by simp [one1,Value.cells]) fun w5 k8 u5=>.nil ?_
 replace k8:Blk w5 b8 25 #[.slice (some ⟨g,0,none⟩) B B]:=k8
 have hs2:=e2.size
 have hs5:=u5.size
 have x4:=x2.trans (e3.trans e4)
 have x5:Ext w w5:=u5.below x4 (by omega)
 have x25:Ext w2 w5:=u5.below (e3.trans e4) (by omega)
 have k2:=k2.ext x25
 have hl:=ER.ext eI (ER.lt eI hl) x25
 have hsL:=ER.ext eLs (ER.lt eLs hs) x5
 have hupd:∀ {W W':World} {l:List Int} {b:Nat},FB (eInt .i64) 3 (fun _=>True) W g l->Upd W W' b->g≠b->FB (eInt .i64) 3 (fun _=>True) W' g l:=fun hf u hne=>by
  obtain ⟨es,hb,he⟩:=hf
  exact ⟨es,hb.upd u hne,he.1,fun i e x h1 h2=>he.2 i e x h1 h2⟩
 have f5:=hupd (f3.ext e4) u5 (by omega)
 have hgw:w2.heap.size<=g:=by omega
 have hg8:g≠b8:=by omega
 have hg2:b2≠g:=by omega
 have hw25:w2.heap.size<=w5.heap.size:=by omega
 refine .mid (α:=Unit) (fun _=>[(2,.pointer (some ⟨b2,0,none⟩)),(6,vl),(8,.pointer (some ⟨b8,0,none⟩))]) (fun _ W=>Below w2.heap.size w5 W/\Blk W b8 25 #[.slice (some ⟨g,0,none⟩) B B]/\FB (eInt .i64) 3 (fun _=>True) W g (tabI B id)) ?_ ?_
 ·refine .sr (.ld ty_I O O k8 O (.len un_I O O (.mv O O (.nil ?_))))
  refine .block (.loop (α:=Nat) (fun i=>[(2,.pointer (some ⟨b2,0,none⟩)),(6,vl),(8,.pointer (some ⟨b8,0,none⟩)),(32,.int .i64 (B:Nat)),(33,.int .i64 (i:Nat))]) (fun i W=>Below w2.heap.size w5 W/\Blk W b8 25 #[.slice (some ⟨g,0,none⟩) B B]/\i<=B/\FB (eInt .i64) 3 (fun _=>True) W g (fil B i (fun b=>((b:Nat):Int)) 0)) (fun i=>B-i) 0 ?_ ?_ ?_)
  ·exact lkA rfl
  ·refine ⟨Below.refl _ _,k8,Nat.zero_le _,?_⟩
   rw [L0];exact f5
  rintro i W ⟨hW,k8,hi,fb⟩
  refine .sr ?_
  rcases Nat.lt_or_ge i B with hlt | hge
  rotate_left
  ·refine .lssF O O O (by omega) (.nil (.seq (.condF O (.exit ?_))))
   have:i=B:=by omega
   subst this
   refine ⟨rfl,(),lkA rfl,hW,k8,?_⟩
   rw [Y6] at fb
   exact fb
  refine .lssT O O O (by omega) (.nil (.seq (.condT O (.skip (.seq (.block (.sr (.mv O O (.an O O (.region (.ld ty_I O O k8 O (.mv O O (.mv O O (.ixB (i:=i) un_I B0 O O O hlt ?_))))))))))))))
  refine .storeF (E:=eInt .i64) (i:=i) (z:=((i:Nat):Int)) (by decide) B0 O O fb O (by rw [I1];exact hlt) (Nat.zero_add _) ⟨rfl,E9.2 (by omega)⟩ fun W1 f1 u1=>.nil ?_
  refine .region (.add O O O (.mv O O (.nil ?_)))
  rw [wI (by omega)]
  rw [O7] at f1
  exact ⟨rfl,i+1,lkA rfl,⟨u1.below hW hgw,k8.upd u1 hg8.symm,hlt,f1⟩,by show B-(i+1)<B-i;omega⟩
 rintro _ W0 ⟨hW0,k8,fb0⟩
 have hk2:∀ {W:World},Below w2.heap.size w5 W->Blk W b2 24 #[.int .i64 (B:Nat),s]:=fun h=>(h.block b2 (by omega)).trans k2
 have hlW:∀ {W:World},Below w2.heap.size w5 W->eI.R (fun k=>S k/\k<w2.heap.size) W vl (pInts (inL n o)):=fun h=>eI.keep (fun k c t f hk hh=>(h.block k hk.2).trans hh) hl
 have hsW:∀ {W:World},Below w2.heap.size w5 W->eLs.R (fun k=>S k/\k<w.heap.size) W s n.ls:=fun h=>eLs.keep (fun k c t f hk hh=>(h.block k (by have:=hk.2;have:=x2.size;omega)).trans hh) hsL
 refine .sr (.mkf [] [_] O O O O (.an O O ?_))
 refine .mid (α:=Nat->Nat) (fun _=>[(2,.pointer (some ⟨b2,0,none⟩)),(8,.pointer (some ⟨b8,0,none⟩)),(10,.func (.func 199) #[] #[.pointer (some ⟨b8,0,none⟩)])]) (fun p W=>Below w2.heap.size w5 W/\Blk W b8 25 #[.slice (some ⟨g,0,none⟩) B B]/\FB (eInt .i64) 3 (fun _=>True) W g (tabI B p)/\Clm B p ((nwOf n o).rootF (inL n o))) ?_ ?_
 ·refine .sr (.mv O O (.lenR un_I O O (hlW hW0) (.mv O O (.nil ?_))))
  rw [show (pInts (inL n o)).length=(inL n o).length by simp]
  refine .block (.loop (α:=Nat×(Nat->Nat)) (fun y=>[(2,.pointer (some ⟨b2,0,none⟩)),(8,.pointer (some ⟨b8,0,none⟩)),(10,.func (.func 199) #[] #[.pointer (some ⟨b8,0,none⟩)]),(42,vl),(43,.int .i64 ((inL n o).length:Nat)),(44,.int .i64 (y.1:Nat))])
   (fun y W=>Below w2.heap.size w5 W/\Blk W b8 25 #[.slice (some ⟨g,0,none⟩) B B]/\y.1<=(inL n o).length/\FB (eInt .i64) 3 (fun _=>True) W g (tabI B y.2)/\Clm B y.2 ((nwOf n o).rootF ((inL n o).take y.1))) (fun y=>(inL n o).length-y.1) (0,id) ?_ ?_ ?_)
  ·exact lkA rfl
  ·exact ⟨hW0,k8,Nat.zero_le _,fb0,fun b _=>⟨Nat.le_refl _,fun _=>rfl,fun h=>absurd O h⟩⟩
  rintro ⟨i,p⟩ W ⟨hW,k8,hi,fb,hc⟩
  replace hW:Below w2.heap.size w5 W:=hW
  replace hi:i<=(inL n o).length:=hi
  replace fb:FB (eInt .i64) 3 (fun _=>True) W g (tabI B p):=fb
  replace hc:Clm B p ((nwOf n o).rootF ((inL n o).take i)):=hc
  refine .sr ?_
  rcases Nat.lt_or_ge i (inL n o).length with hlt | hge
  rotate_left
  ·refine .lssF O O O (by omega) (.nil (.seq (.condF O (.exit ?_))))
   have:i=(inL n o).length:=by omega
   subst this
   rw [List.take_of_length_le (Nat.le_refl _)] at hc
   exact ⟨rfl,p,lkA rfl,hW,k8,fb,hc⟩
  obtain ⟨hgk,hkM,hko⟩:=AJ2 hlt
  refine .lssT O O O (by omega) (.nil (.seq (.condT O (.skip (.seq (.block (.sr (.ixN (i:=i) un_I B0 O O (hlW hW) O hgk fun q hq=>.ldE (E:=eInt .i64) B0 O O hq fun e he=>.an O O ?_))))))))
  obtain ⟨rfl,_⟩:=he
  have htk:(inL n o).take (i+1)=(inL n o).take i++[(inL n o).getD i 0]:=by rw [List.take_add_one,A9 (z:=0) hlt];rfl
  have hFB:=ok.f _ hkM
  have hTB:=ok.t _ hkM
  have hFI:=ok.fI _ hkM
  have hTI:=ok.tI _ hkM
  have hgl:n.ls[(inL n o).getD i 0]?=some (n.ls.getD ((inL n o).getD i 0) ln0):=A9 hkM
  have hidm:=(nwOf n o).rootF_idm ((inL n o).take i)
  generalize hR:(nwOf n o).rootF ((inL n o).take i)=R at hc hidm
  generalize hk:(inL n o).getD i 0=k at hgl hFB hTB hFI hTI hkM hko htk
  rw [hB] at hFB hTB
  have hlF:=hidm.le ((nwOf n o).F k)
  have hlT:=hidm.le ((nwOf n o).T k)
  refine .seq ?_
  refine .par follows 16 [.inl (.func (.func 199) #[] #[.pointer (some ⟨b8,0,none⟩)]),.inl (.pointer (some ⟨b2,1,none⟩)),.inl s,.inl (.int .i64 (k:Nat)),.inr (Ptr eL (fun k=>S k/\k<w.heap.size) (n.ls.getD k ln0)),.inr (Ptr (eInt .i64) (fun k=>S k/\k<w.heap.size) (n.ls.getD k ln0).f),.inl (.int .i64 ((nwOf n o).F k:Nat)),.inl (.int .i64 (R ((nwOf n o).F k):Nat)),
   .inl (.func (.func 199) #[] #[.pointer (some ⟨b8,0,none⟩)]),.inl (.pointer (some ⟨b2,1,none⟩)),.inl s,.inl (.int .i64 (k:Nat)),.inr (Ptr eL (fun k=>S k/\k<w.heap.size) (n.ls.getD k ln0)),.inr (Ptr (eInt .i64) (fun k=>S k/\k<w.heap.size) (n.ls.getD k ln0).t),.inl (.int .i64 ((nwOf n o).T k:Nat)),.inl (.int .i64 (R ((nwOf n o).T k):Nat))]
   [[],[],[(49,1)],[],[(50,2),(51,3)],[(52,4)],[(53,5)],[(48,0),(54,6)],[],[],[(57,9)],[],[(58,10),(59,11)],[(60,12)],[(61,13)],[(56,8),(62,14)]] (by kernel_rfl) ⟨
   fun w e=>(v_mv O).ob,fun w e=>(v_fa K9 O).ob,fun w e=>(v_ld R7 O ((hk2 hW).ext e) O).ob,fun w e=>(v_mv O).ob,
   fun w e=>D2 (i:=k) M4 P0 O (ER.ext eLs (hsW hW) e) O hgl,fun w e x hx=>Ak6 J6 O hx (by decide),fun w e x hx=>by rw [<-hFI];exact Z8 B0 O hx,
   fun w e=>Gv.obIs (AJ5 [.int .i64 ((nwOf n o).F k:Nat)] O Ay0 O (Aw8 (k8.ext e) (fb.ext e) hc hFB)),
   fun w e=>(v_mv O).ob,fun w e=>(v_fa K9 O).ob,fun w e=>(v_ld R7 O ((hk2 hW).ext e) O).ob,fun w e=>(v_mv O).ob,
   fun w e=>D2 (i:=k) M4 P0 O (ER.ext eLs (hsW hW) e) O hgl,fun w e x hx=>Ak6 J5 O hx (by decide),fun w e x hx=>by rw [<-hTI];exact Z8 B0 O hx,
   fun w e=>Gv.obIs (AJ5 [.int .i64 ((nwOf n o).T k:Nat)] O Ay0 O (Aw8 (k8.ext e) (fb.ext e) hc hTB)),trivial⟩ ?_
  intro W1 f1 _ _ _ _ _ _ _ _
  refine .asg O O (.an O O (.region (.ld ty_I O O (k8.ext f1) O (.mv O O (.mv O O (.max_ O O O (.mv O O (.mv O O (.min_ O O O ?_)))))))))
  rw [show max ((R ((nwOf n o).F k):Nat):Int) (R ((nwOf n o).T k):Nat)=((max (R ((nwOf n o).F k)) (R ((nwOf n o).T k)):Nat):Int) by omega,show min ((R ((nwOf n o).F k):Nat):Int) (R ((nwOf n o).T k):Nat)=((min (R ((nwOf n o).F k)) (R ((nwOf n o).T k)):Nat):Int) by omega]
  refine .ixB (i:=max (R ((nwOf n o).F k)) (R ((nwOf n o).T k))) un_I B0 O O O (by omega) ?_
  refine .storeF (E:=eInt .i64) (i:=max (R ((nwOf n o).F k)) (R ((nwOf n o).T k))) (z:=((min (R ((nwOf n o).F k)) (R ((nwOf n o).T k)):Nat):Int)) (by decide) B0 O O (fb.ext f1) O (by rw [R9];omega) (Nat.zero_add _) ⟨rfl,E9.2 (by omega)⟩ fun W2 f2 u2=>.nil ?_
  rw [BJ9] at f2
  have hW1:=hW.trans (f1.mono (by have:=hW.size;omega))
  refine .region (.add O O O (.mv O O (.nil ?_)))
  rw [wI (by omega)]
  refine ⟨rfl,(i+1,_),lkA rfl,⟨u2.below hW1 hgw,(k8.ext f1).upd u2 hg8.symm,hlt,f2,?_⟩,by show (inL n o).length-(i+1)<(inL n o).length-i;omega⟩
  show Clm B _ ((nwOf n o).rootF ((inL n o).take (i+1)))
  rw [htk,Nw.rootF_snoc,hR]
  exact hc.step hidm
 rintro p W1 ⟨hW1,k8,fb,hc⟩
 rw [show (nwOf n o).rootF (inL n o)=(nwOf n o).root by
  funext b
  unfold Nw.root
  rw [Nw.rootF_free (p:=oN o) _ fun k hk=>ok.g0 hk];rfl] at hc
 have hW1s:=hW1.size
 refine .sr (.fa I6 O O (.ld A8 O O (hk2 hW1) O ?_))
 refine .make_ B B un_I AH0 O (by decide) O O O (Nat.le_refl _) (by omega) (by omega) fun W2 h n2=>?_
 have f2:FB (eInt .i64) 3 (fun _=>True) W2 h (List.replicate B 0):=FB.made n2 ⟨rfl,by decide⟩
 obtain ⟨e2',_,hh2,hs2'⟩:=n2
 refine .an O O (.sr (.an O O ?_))
 have hgh:g≠h:=by have:=fb.lt;omega
 have k8:=k8.ext e2'
 have h8h:b8≠h:=by have:=hW1s;omega
 have fb:=fb.ext e2'
 have hW2:=hW1.trans (e2'.mono (by omega))
 have hhw:w2.heap.size<=h:=by omega
 have hupd':∀ {W W':World} {l:List Int},FB (eInt .i64) 3 (fun _=>True) W g l->Upd W W' h->FB (eInt .i64) 3 (fun _=>True) W' g l:=fun hf u=>hupd hf u hgh
 refine .seq (.sr (.mv O O (.len un_I O O (.mv O O (.nil ?_)))))
 refine .block (.loop (α:=Nat) (fun i=>[(8,.pointer (some ⟨b8,0,none⟩)),(10,.func (.func 199) #[] #[.pointer (some ⟨b8,0,none⟩)]),(15,.slice (some ⟨h,0,none⟩) B B),(16,.int .i64 ((nwOf n o).cnt i:Nat)),(77,.int .i64 (B:Nat)),(78,.int .i64 (i:Nat))])
  (fun i W=>Below w2.heap.size w5 W/\Blk W b8 25 #[.slice (some ⟨g,0,none⟩) B B]/\i<=B/\FB (eInt .i64) 3 (fun _=>True) W g (tabI B p)/\FB (eInt .i64) 3 (fun _=>True) W h (fil B i (fun b=>(((nwOf n o).lab b:Nat):Int)) 0)) (fun i=>B-i) 0 ?_ ?_ ?_)
 ·exact lkA rfl
 ·refine ⟨hW2,k8,Nat.zero_le _,fb,?_⟩
  rw [L0];exact f2
 rintro i W ⟨hW,k8,hi,fb,fl⟩
 refine .sr ?_
 rcases Nat.lt_or_ge i B with hlt | hge
 rotate_left
 ·refine .lssF O O O (by omega) (.nil (.seq (.condF O (.exit (.sr (.mv O O (.asg O O (.an O O (.ret ?_)))))))))
  have:i=B:=by omega
  subst this
  refine .plain [_,_] Tryz.results137 ⟨rfl,rfl,trivial⟩ ⟨Below.trans x5 (hW.mono (by omega)),_,_,rfl,?_,by rw [hE]⟩
  rw [Y6] at fl
  have fl':FB (eInt .i64) 3 S W h (tabI i (nwOf n o).lab):=by
   obtain ⟨es,hb,he⟩:=fl
   exact ⟨es,hb,he.1,fun i e x h1 h2=>he.2 i e x h1 h2⟩
  have:=fl'.toR (hsz:=by decide) (c:=i) (up h (by omega)) (by rw [R9];omega) (by rw [R9];omega)
  rw [R9] at this
  exact this
 refine .lssT O O O (by omega) (.nil (.seq (.condT O (.skip (.seq (.block (.sr (.mv O O (.an O O (.seq (.sr (.mv O O (.mv O O ?_)))))))))))))
 refine .callv [.int .i64 (i:Nat)] O O Ay0 O (Aw8 k8 fb hc hlt) fun v3 W3 e3 h3=>.an O O (.sr (.mv O O (.mv O O ?_)))
 subst h3
 have hrl:=Nw.root_le (n:=nwOf n o) i
 have hlb:=Nw.lab_le (nwOf n o) i
 have hcl:=Nw.cnt_le (nwOf n o) i
 have hcs:=Nw.cnt_succ (nwOf n o) i
 have hW3:=hW.trans (e3.mono (by have:=hW.size;omega))
 have k8:=k8.ext e3
 have fb:=fb.ext e3
 have fl:=fl.ext e3
 by_cases hr:(nwOf n o).root i=i
 ·refine .neqF O O O (by omega) (.nil (.condF O (.skip (.sr (.mv O O (.mv O O (.mv O O (.ixB (i:=i) un_I B0 O O O hlt ?_))))))))
  refine .storeF (E:=eInt .i64) (i:=i) (z:=(((nwOf n o).lab i:Nat):Int)) (by decide) B0 O O fl O (by rw [I1];exact hlt) (Nat.zero_add _) ⟨by rw [Nw.lab_root _ hr],E9.2 (by omega)⟩ fun W4 f4 u4=>.nil ?_
  rw [O7 (f:=fun b=>(((nwOf n o).lab b:Nat):Int))] at f4
  refine .region (.mv O O (.add O O O (.an O O (.region (.add O O O (.mv O O (.nil ?_)))))))
  rw [wI (by omega),wI (by omega)]
  rw [if_pos hr] at hcs
  exact ⟨rfl,i+1,A5 O (A5 O (A5 O (A5 (by rw [hcs];rfl) (lkA O)))),⟨u4.below hW3 hhw,k8.upd u4 h8h,hlt,hupd' fb u4,f4⟩,by show B-(i+1)<B-i;omega⟩
 ·refine .neqT O O O (by omega) (.nil (.condT O (.sr (.mv O O (.mv O O (.mv O O (.mv O O (.ixB (i:=(nwOf n o).root i) un_I B0 O O O (by omega) ?_))))))))
  refine .ldF (E:=eInt .i64) (i:=(nwOf n o).root i) (by decide) B0 O O (Nat.zero_add _) fl (fil_get (by omega) (by omega)) fun e he=>?_
  obtain ⟨rfl,_⟩:=he
  refine .ixB (i:=i) un_I B0 O O O hlt ?_
  refine .storeF (E:=eInt .i64) (i:=i) (z:=(((nwOf n o).lab i:Nat):Int)) (by decide) B0 O O fl O (by rw [I1];exact hlt) (Nat.zero_add _) ⟨by rw [Nw.lab_of _ i],E9.2 (by omega)⟩ fun W4 f4 u4=>.nil ?_
  rw [O7 (f:=fun b=>(((nwOf n o).lab b:Nat):Int))] at f4
  refine .exit (.region (.add O O O (.mv O O (.nil ?_))))
  rw [wI (by omega)]
  rw [if_neg hr,Nat.add_zero] at hcs
  exact ⟨rfl,i+1,A5 O (A5 O (A5 O (A5 (by rw [hcs];rfl) (lkA O)))),⟨u4.below hW3 hhw,k8.upd u4 h8h,hlt,hupd' fb u4,f4⟩,by show B-(i+1)<B-i;omega⟩
end Go.Proofs.YtpgkacdihhjknaaGreat
namespace Go.Kx
open Go Go.RowKit
theorem Els.append {α:Type} {E:ER α} {S:Nat->Prop} {w:World} {es fs:List Value} {l s:List α} (h:Els E S w es l) (h':Els E S w fs s):Els E S w (es++fs) (l++s):=by
 refine ⟨by rw [List.length_append,List.length_append,h.1,h'.1],fun i e x he hx=>?_⟩
 rw [List.getElem?_append] at he hx
 rw [h.1] at he
 split at he
 ·rename_i hi
  rw [if_pos hi] at hx
  exact h.2 i e x he hx
 ·rename_i hi
  rw [if_neg hi] at hx
  exact h'.2 _ e x he hx
section
variable {P:Program} {σ:Env} {w:World} {d:Option Tmp} {ty:TypeId} {pos:String} {af:Array Edge} {g:Option (Nat×Bool)} {α:Type} {E:ER α}
theorem BB4 {tt t:TypeId} {x y:Operand} {z:Value} {by_ base:Nat} {X:Nat->Prop} {v u:Value} {l s:List α} {hsz:0<E.sz} (ht:P.underlying tt=some (.slice t)) (hi:infoOf P t=some (z,E.sz,by_)) (hzs:z.cells.size=E.sz) (hx:ev σ x=some v) (hy:ev σ y=some u)
  (hown:OwnL E t base X w v l) (hs:(RL E hsz).R X w u s) (hX:∀ k,X k->k<base) (hl:l.length<=1000000) (hl2:s.length<=1000000) (hby:by_<=100) (hbase:base<=w.heap.size) :
  Gv P ⟨d,.call { callee:=.builtin .append,args:=#[x,y],argTypes:=#[tt,tt] },ty,pos,af,g⟩ σ w fun v' w'=>OwnL E t base X w' v' (l++s)/\Below base w w':=by
 have hown0:=hown
 obtain ⟨es0,ho,hels⟩:=hown
 obtain ⟨es,he,a,c,rfl,hc,_,hcl,hcells⟩:=hs
 have hone:∀ u∈cellsOf es,one1 u=true:=by
  intro u hu
  obtain ⟨e,he',hu'⟩:=List.mem_flatMap.1 hu
  obtain ⟨i,hi'⟩:=List.mem_iff_getElem?.1 he'
  have hlt:i<s.length:=by rw [<-he.1];exact (List.getElem?_eq_some_iff.1 hi').1
  exact E.one (he.2 i e _ hi' (List.getElem?_eq_getElem hlt)) u hu'
 have fin:∀ v' w',w'.ownsRow base t E.sz v' (l.length+s.length) (cellsOf es0++cellsOf es)->w.grownBy w' v.ownBlock->OwnL E t base X w' v' (l++s)/\Below base w w':=by
  intro v' w' h1 h2
  have hb:Below base w w':=hown0.below h2 (Below.refl _ _) hbase
  have hk:Kp X w w':=fun k c t f hk h=>(hb.block k (hX k hk)).trans h
  have hno:∀ k,X k->v'.ownBlock≠some k:=fun k hk e=>by have:=(h1.lt k e).1;have:=hX k hk;omega
  refine ⟨⟨es0++es,?_,?_⟩,hb⟩
  ·rw [show cellsOf (es0++es)=cellsOf es0++cellsOf es by simp [cellsOf],List.length_append];exact h1
  ·refine Els.append ⟨hels.1,fun i e x he hx=>?_⟩ ⟨he.1,fun i e x he' hx=>?_⟩
   ·exact E.mono (fun k _ hk=>⟨hk,hno k hk⟩) (E.keep hk (E.mono (fun k _ hk=>hk.1) (hels.2 i e x he hx)))
   ·exact E.mono (fun k _ hk=>⟨hk,hno k hk⟩) (E.keep hk (he.2 i e x he' hx))
 have hbytes:(l.length+s.length)*by_<=140737488355328:=by
  have:(l.length+s.length)*by_<=2000000*100:=Nat.mul_le_mul (by omega) hby
  omega
 cases a with
 | some ad =>
  have hcell:∀ j u,(cellsOf es)[j]?=some u->w.cell? (ad.add j)=some u:=by
   intro j u hu
   have hpos:0<s.length:=by
    rcases Nat.eq_zero_or_pos s.length with h0 | h0
    ·have:es=[]:=List.length_eq_zero_iff.1 (by rw [he.1];exact h0)
     subst this
     simp [cellsOf] at hu
    ·exact h0
   obtain ⟨ad',h1,_,h2⟩:=hcells hpos
   cases h1
   exact (h2 j u hu).1
  exact (Ac2 (cellsOf es) ht hi hzs hsz hx hy ho hcl hcell hone (by omega) hbytes hbase).mono fun v' w' ⟨h1,h2⟩=>fin v' w' h1 h2
 | none =>
  have h0:s=[]:=by
   cases s with
   | nil=>rfl
   | cons z s=>obtain ⟨ad,h1,_⟩:=hcells (by simp);cases h1
  subst h0
  refine (BN6 ht hi hx hy ho).gv.mono fun v' w' ⟨h1,h2⟩=>?_
  subst h1;subst h2
  exact ⟨by simpa using hown0,Below.refl _ _⟩
end
section
variable {P:Program} {σ:Env} {w:World} {d:Option Tmp} {ty:TypeId} {pos:String} {af:Array Edge} {g:Option (Nat×Bool)}
theorem v_sidx {xt:TypeId} {x ix:Operand} {k:IntKind} {i:Int} {s:ByteArray} {b:UInt8} (ht:P.underlying xt=some .string) (hx:ev σ x=some (.string s)) (hi:ev σ ix=some (.int k i)) (h0:0<=i) (hb:s[i.toNat]?=some b) :
  Vl P ⟨d,.index xt x ix,ty,pos,af,g⟩ σ w (.int .u8 b.toNat):=by
 refine ⟨(by intro _ h;cases h),fun ρ hρ=>?_⟩
 have h1:=hρ x _ (by simp [Op.operands]) hx
 have h2:=hρ ix _ (by simp [Op.operands]) hi
 simp [execOp,Instr.index,h1,h2,asIntOf,Sem.run_bind,run_underlying ht,Result.andThen_ok,h0,hb]
theorem g_sidx {xt:TypeId} {x ix:Operand} {k:IntKind} {n:Nat} {s:ByteArray} (ht:P.underlying xt=some .string) (hx:ev σ x=some (.string s)) (hi:ev σ ix=some (.int k (n:Nat))) (hn:n<=12) (hs:((List.range 13).all fun j=>(s[j]?).isSome)=true) :
  Gv P ⟨d,.index xt x ix,ty,pos,af,g⟩ σ w fun v w'=>w'=w/\∃ b:UInt8,v=.int .u8 b.toNat:=by
 have h1:=List.all_eq_true.1 hs n (List.mem_range.2 (by omega))
 obtain ⟨b,hb⟩:=Option.isSome_iff_exists.1 h1
 exact (v_sidx ht hx hi (by omega) (b:=b) (by simpa using hb)).gv.mono fun v w' ⟨h1,h2⟩=>⟨h2,b,h1⟩
theorem AZ5 {k:IntKind} {t t':TypeId} {x:Operand} {g' i o:Nat} {S:Nat->Prop} {l:List Int} {z:Int} (ht:tyOf P t=some (false,1)) (hx:ev σ x=some (.pointer (some ⟨g',o,none⟩))) (ho:o=i*1) (hF:FP (eInt k) t' S w g' l) (hz:l[i]?=some z) :
  Gv P ⟨d,.load t x,ty,pos,af,g⟩ σ w fun v' w'=>Ext w w'/\Sp.ok (.inl (.int k z)) v' w' :=
 (ob_ldP (E:=eInt k) ht hx ho hF hz).mono fun v' w' ⟨e1,h⟩=>⟨e1,(h w' (Ext.refl _)).1⟩
end
def insAt (q:List Int) (j:Nat) (x:Int) (r:List Int):List Int:=q.take j++x::(q.drop j++r)
section
variable {q r:List Int} {x:Int} {j:Nat}
theorem AJ1 (hj:j<=q.length):(insAt q j x r).length=q.length+1+r.length:=by unfold insAt;simp;omega
theorem BM9 (hj:j<=q.length):(insAt q j x r)[j]?=some x:=by
 unfold insAt
 rw [List.getElem?_append_right (by simp;omega)]
 simp [Nat.min_eq_left hj]
theorem BF0 {y:Int} (h:q[j]?=some y):(insAt q (j+1) x r)[j]?=some y:=by
 have hl:=(List.getElem?_eq_some_iff.1 h).1
 unfold insAt
 rw [List.getElem?_append_left (by simp;omega),List.getElem?_take,if_pos (Nat.lt_succ_self j)]
 exact h
theorem Aw1 {y:Int} (h:q[j]?=some y):((insAt q (j+1) x r).set (j+1) y).set j x=insAt q j x r:=by
 obtain ⟨hl,hy⟩:=List.getElem?_eq_some_iff.1 h
 unfold insAt
 have h1:q.take (j+1)=q.take j++[y]:=by rw [List.take_add_one,h];rfl
 have h2:q.drop j=y::q.drop (j+1):=by rw [<-hy];exact List.drop_eq_getElem_cons hl
 have h3:(q.take j).length=j:=by simp;omega
 rw [h1,h2]
 generalize q.take j=L at h3
 subst h3
 rw [List.append_assoc,List.set_append_right _ _ (by omega),List.set_append_right _ _ (by omega)]
 simp
theorem Ai7:insAt q q.length x r=q++x::r:=by unfold insAt;simp
end
end Go.Kx
namespace Go.Proofs.YtpgkacdihhjknaaGreat
open Go Go.Kx Go.RowKit
theorem E_isNaN:Ent Tryz.prog 205:=A0 Tryz.func205 (by kernel_rfl) rfl
theorem isNaN_c {w:World} {a:Int}:CR Tryz.prog 205 #[.int .i64 a] w (Is (.bool false)):=by
 refine enter Tryz.func205 O Tryz.ntmps205 O (.beg (.go O (.neqF O O O O (.goE O ?_))))
 exact .plain [_] Tryz.results205 ⟨rfl,trivial⟩ ⟨Ext.refl _,rfl⟩
theorem BQ3:Ent Tryz.prog 144:=A0 Tryz.func144 (by kernel_rfl) rfl
theorem BM4 {w:World} {a b:Int}:CR Tryz.prog 144 #[.int .i64 a,.int .i64 b] w (Is (.bool (decide (a<b)))):=by
 refine enter Tryz.func144 O Tryz.ntmps144 O (.beg (.go O (.call _ O E_isNaN O isNaN_c fun v1 w1 e1 h1=>?_)))
 subst h1
 refine .go O (.lss O O O (.goE O ?_))
 exact .plain [_] Tryz.results144 ⟨rfl,trivial⟩ ⟨e1,rfl⟩
theorem E_isort:Ent Tryz.prog 138:=A0 Tryz.func138 (by kernel_rfl) rfl
set_option maxRecDepth 8000 in
theorem isort_c {w:World} {g cap:Nat} {p:List Int} {k:Int} (hF:FP (eInt .i64) 3 (fun _=>True) w g (p++[k])) (hp:p.Pairwise (·<·)) (hl:p.length<=1000) :
  Calls Tryz.prog 138 #[.slice (some ⟨g,0,none⟩) (p.length+1) cap,.int .i64 0,.int .i64 ((p.length+1:Nat):Int)] w fun e w'=>∃ v,e=.returned v/\∃ j,j<=p.length/\(∀ y∈p.drop j,k<y)/\(∀ y∈p.take j,y<=k)/\Chg (fun b=>b=g) w w'/\FP (eInt .i64) 3 (fun _=>True) w' g (insAt p j k []):=by
 refine enterG Tryz.func138 O Tryz.ntmps138 O (.beg (.go O (.inc (i:=0) O O O (by omega) (.goC O (.lp (α:=Nat×List Int) [0,1,2] O (fun y=>[(6,.int .i64 (y.1:Nat))]) (fun y W=>Chg (fun b=>b=g) w W/\FP (eInt .i64) 3 (fun _=>True) W g y.2/\((y.1<=p.length/\1<=y.1/\y.2=p++[k])\/(y.1=p.length+1/\∃ j,j<=p.length/\(∀ z∈p.drop j,k<z)/\(∀ z∈p.take j,z<=k)/\y.2=insAt p j k []))) (fun y=>p.length+1-y.1) (1,p++[k]) (lc1 O) ⟨Chg.refl _,hF,?_⟩ ?_)))))
 ·cases p with
  | nil=>exact .inr ⟨rfl,0,Nat.le_refl _,by simp,by simp,rfl⟩
  | cons a p=>exact .inl ⟨by simp,Nat.le_refl _,rfl⟩
 rintro ⟨i,l⟩ W ⟨hC,hF,hI⟩
 refine .go O ?_
 rcases hI with ⟨hi,hi1,rfl⟩ | ⟨rfl,j,hj,h1,h2,rfl⟩
 rotate_left
 ·exact .lssF O O O (by omega) (.goE O (.plain [] Tryz.results138 trivial ⟨j,hj,h1,h2,hC,hF⟩))
 obtain ⟨q,x,r,hq,hpk,hqs,hqp⟩:∃ q x r,q.length=i/\p++[k]=insAt q i x r/\q.Pairwise (·<·)/\((i<p.length/\∀ y∈q,y<x)\/(i=p.length/\q=p/\x=k/\r=[])):=by
  rcases Nat.lt_or_ge i p.length with hlt | hge
  ·refine ⟨p.take i,p[i],p.drop (i+1)++[k],by simp;omega,?_,hp.sublist (List.take_sublist _ _),.inl ⟨hlt,fun y hy=>?_⟩⟩
   ·have h3:(p.take i).length=i:=by simp;omega
    have h4:insAt (p.take i) i p[i] (p.drop (i+1)++[k])=p.take i++p[i]::(p.drop (i+1)++[k]):=by
     have:=Ai7 (q:=p.take i) (x:=p[i]) (r:=p.drop (i+1)++[k])
     rw [h3] at this
     exact this
    rw [h4]
    have h5:p=p.take i++p[i]::p.drop (i+1):=by rw [<-List.drop_eq_getElem_cons hlt,List.take_append_drop]
    exact (congrArg (·++[k]) h5).trans (by rw [List.append_assoc];rfl)
   ·obtain ⟨a,ha,rfl⟩:=List.mem_take_iff_getElem.1 hy
    have ha':a<i:=by omega
    exact List.pairwise_iff_getElem.1 hp a i (by omega) hlt ha'
  ·have:i=p.length:=by omega
   subst this
   exact ⟨p,k,[],rfl,Ai7.symm,hp,.inr ⟨rfl,rfl,rfl,rfl⟩⟩
 have hfin:∀ {j:Nat} {W':World},j<=i->(∀ y∈q.drop j,x<y)->(j=0\/∀ y,q[j-1]?=some y->y<=x)->FP (eInt .i64) 3 (fun _=>True) W' g (insAt q j x r)->∃ l',FP (eInt .i64) 3 (fun _=>True) W' g l'/\((i+1<=p.length/\1<=i+1/\l'=p++[k])\/(i+1=p.length+1/\∃ j,j<=p.length/\(∀ z∈p.drop j,k<z)/\(∀ z∈p.take j,z<=k)/\l'=insAt p j k [])):=by
  intro j W' hj h1 h2 hF'
  rcases hqp with ⟨hlt,hqx⟩ | ⟨rfl,rfl,rfl,rfl⟩
  ·have hji:j=i:=by
    rcases Nat.lt_or_ge j i with h | h
    ·exfalso
     have h3:q[j]'(by omega)∈q.drop j:=by rw [List.drop_eq_getElem_cons (by omega)];exact List.mem_cons_self ..
     have:=h1 _ h3
     have:=hqx _ (List.getElem_mem (l:=q) (n:=j) (by omega))
     omega
    ·omega
   subst hji
   rw [<-hpk] at hF'
   exact ⟨_,hF',.inl ⟨by omega,by omega,rfl⟩⟩
  ·refine ⟨_,hF',.inr ⟨rfl,j,hj,h1,fun y hy=>?_,rfl⟩⟩
   obtain ⟨a,ha,rfl⟩:=List.mem_take_iff_getElem.1 hy
   rcases h2 with h2 | h2
   ·omega
   ·have hj1:j-1<q.length:=by omega
    have h3:=h2 _ (List.getElem?_eq_getElem hj1)
    rcases Nat.lt_or_ge a (j-1) with h | h
    ·have:=List.pairwise_iff_getElem.1 hp a (j-1) (by omega) hj1 h
     omega
    ·have:a=j-1:=by omega
     subst this
     exact h3
 rw [hpk] at hF
 have hr:q.length+1+r.length=p.length+1:=by
  have:=congrArg List.length hpk
  rw [AJ1 (by omega)] at this
  simp at this
  omega
 refine .lssT O O O (by omega) (.goC O (.lp (α:=Nat) [0,1,2,6] rfl (fun j=>[(7,.int .i64 (j:Nat))]) (fun j W'=>Chg (fun b=>b=g) w W'/\FP (eInt .i64) 3 (fun _=>True) W' g (insAt q j x r)/\j<=i/\∀ y∈q.drop j,x<y) (fun j=>j) i (lc1 rfl) ⟨hC,hF,Nat.le_refl _,by rw [List.drop_of_length_le (by omega)];intro y hy;cases hy⟩ ?_))
 rintro j W' ⟨hC,hF,hj,hd⟩
 have hout:∀ {W2:World},Ext W' W2->(j=0\/∀ y,q[j-1]?=some y->y<=x)->∃ l',FP (eInt .i64) 3 (fun _=>True) W2 g l'/\((i+1<=p.length/\1<=i+1/\l'=p++[k])\/(i+1=p.length+1/\∃ j,j<=p.length/\(∀ z∈p.drop j,k<z)/\(∀ z∈p.take j,z<=k)/\l'=insAt p j k [])):=fun e h=>hfin hj hd h (hF.ext e)
 cases j with
 | zero =>
  refine .goC O ?_
  refine .par follows 13 [.inl _,.inl _,.inl (.bool false),.inl (.bool false),.inl undef,.inl undef,.inl undef,.inl undef,.inl undef,.inl undef,.inl undef,.inl undef,.inl undef] [[],[],[(16,0),(17,1)],[(18,2)],[(19,3)],[(19,3)],[(20,4),(21,5),(19,3)],[(22,6),(19,3)],[(19,3)],[(19,3)],[(25,9),(19,3)],[(24,8),(26,10),(19,3)],[(27,11),(19,3)]] (by kernel_rfl) ⟨
   fun w e=>(v_mv O).ob,
   fun w e=>(v_mv O).ob,
   fun w e=>((Ay8 O O).eq (by simp)).ob,
   fun w e=>(v_mv O).ob,
   fun w e=>rfl,
   fun w e=>rfl,
   fun w e=>rfl,
   fun w e=>rfl,
   fun w e=>rfl,
   fun w e=>rfl,
   fun w e=>rfl,
   fun w e=>rfl,
   fun w e=>rfl,trivial⟩ ?_
  intro W2 d2
  obtain ⟨l',hl',hI'⟩:=hout d2 (.inl rfl)
  exact .go O (.inc O O O (by omega) (.goN O (.mk (i+1,l') O (lc1 O) ⟨⟨hC.trans (Chg.ext d2),hl',hI'⟩,by show p.length+1-(i+1)<p.length+1-i;omega⟩)))
 | succ m =>
 have hmq:m<q.length:=by omega
 have hm:=List.getElem?_eq_getElem hmq
 generalize q[m]=y at hm
 have hg1:=BM9 (q:=q) (x:=x) (r:=r) (j:=m+1) (by omega)
 have hg2:=BF0 (x:=x) (r:=r) hm
 by_cases hxy:x<y
 rotate_left
 ·refine .goC O ?_
  refine .par follows 13 [.inl _,.inl _,.inl (.bool true),.inl (.bool true),.inl _,.inl _,.inl (.pointer (some ⟨g,0+(m+1)*1,none⟩)),.inl (.int .i64 x),.inl _,.inl _,.inl (.int .i64 (m:Nat)),.inl (.pointer (some ⟨g,0+m*1,none⟩)),.inl (.int .i64 y)] [[],[],[(16,0),(17,1)],[(18,2)],[(19,3)],[(19,3)],[(20,4),(21,5),(19,3)],[(22,6),(19,3)],[(19,3)],[(19,3)],[(25,9),(19,3)],[(24,8),(26,10),(19,3)],[(27,11),(19,3)]] (by kernel_rfl) ⟨
   fun w e=>(v_mv O).ob,
   fun w e=>(v_mv O).ob,
   fun w e=>((Ay8 O O).eq (by simp)).ob,
   fun w e=>(v_mv O).ob,
   fun w e=>(v_mv O).ob,
   fun w e=>(v_mv O).ob,
   fun w e=>(E3 (i:=m+1) un_I B0 O O (by omega)).ob,
   fun w e=>AZ5 (i:=m+1) B0 O (Nat.zero_add _) (hF.ext e) hg1,
   fun w e=>(v_mv O).ob,
   fun w e=>(v_mv O).ob,
   fun w e=>((AE9 O O).eq (by rw [wI (by omega)];congr 1;omega)).ob,
   fun w e=>(E3 (i:=m) un_I B0 O O (by omega)).ob,
   fun w e=>AZ5 (i:=m) B0 O (Nat.zero_add _) (hF.ext e) hg2,trivial⟩ ?_
  intro W2 d2'
  refine .go O (.call _ O BQ3 O BM4 fun v3 W3 e3 h3=>?_)
  subst h3
  rw [decide_eq_false hxy]
  have d2:=d2'.trans e3
  obtain ⟨l',hl',hI'⟩:=hout d2 (.inr fun z hz=>by rw [Nat.add_sub_cancel,hm] at hz;cases hz;omega)
  exact .go O (.inc O O O (by omega) (.goN O (.mk (i+1,l') O (lc1 O) ⟨⟨hC.trans (Chg.ext d2),hl',hI'⟩,by show p.length+1-(i+1)<p.length+1-i;omega⟩)))
 refine .goC O ?_
 refine .par follows 13 [.inl _,.inl _,.inl (.bool true),.inl (.bool true),.inl _,.inl _,.inl (.pointer (some ⟨g,0+(m+1)*1,none⟩)),.inl (.int .i64 x),.inl _,.inl _,.inl (.int .i64 (m:Nat)),.inl (.pointer (some ⟨g,0+m*1,none⟩)),.inl (.int .i64 y)] [[],[],[(16,0),(17,1)],[(18,2)],[(19,3)],[(19,3)],[(20,4),(21,5),(19,3)],[(22,6),(19,3)],[(19,3)],[(19,3)],[(25,9),(19,3)],[(24,8),(26,10),(19,3)],[(27,11),(19,3)]] (by kernel_rfl) ⟨
  fun w e=>(v_mv O).ob,
  fun w e=>(v_mv O).ob,
  fun w e=>((Ay8 O O).eq (by simp)).ob,
  fun w e=>(v_mv O).ob,
  fun w e=>(v_mv O).ob,
  fun w e=>(v_mv O).ob,
  fun w e=>(E3 (i:=m+1) un_I B0 O O (by omega)).ob,
  fun w e=>AZ5 (i:=m+1) B0 O (Nat.zero_add _) (hF.ext e) hg1,
  fun w e=>(v_mv O).ob,
  fun w e=>(v_mv O).ob,
  fun w e=>((AE9 O O).eq (by rw [wI (by omega)];congr 1;omega)).ob,
  fun w e=>(E3 (i:=m) un_I B0 O O (by omega)).ob,
  fun w e=>AZ5 (i:=m) B0 O (Nat.zero_add _) (hF.ext e) hg2,trivial⟩ ?_
 intro W2 d2'
 refine .go O (.call _ O BQ3 O BM4 fun v3 W3 e3 h3=>?_)
 subst h3
 rw [decide_eq_true hxy]
 have d2:=d2'.trans e3
 refine .goC O ?_
 have hF2:=hF.ext d2
 refine .heldT follows true (fun _=>True) [some _,some (.int .i64 ((m+1:Nat):Int)),some _,some (.int .i64 ((m+1:Nat):Int)),some (.int .i64 (m:Nat)),some _,some (.int .i64 ((m+1:Nat):Int)),some (.int .i64 (m:Nat)),some (.pointer (some ⟨g,0+m*1,none⟩)),none,some _,some (.int .i64 ((m+1:Nat):Int)),some (.pointer (some ⟨g,0+(m+1)*1,none⟩)),none,some (.pointer (some ⟨g,0+(m+1)*1,none⟩)),none,some (.pointer (some ⟨g,0+m*1,none⟩)),none]
   (.two 9 (.one 13 (.one 15 (.one 17 .done))) 13 (.one 9 (.one 15 (.one 17 .done)))) (by kernel_rfl) (by kernel_rfl)
   ⟨fun _ _=>v_mv rfl,fun _ _=>v_mv rfl,fun _ _=>v_mv rfl,fun _ _=>v_mv rfl,fun _ _=>(AE9 O O).eq (by rw [wI (by omega)];congr 1;omega),fun _ _=>v_mv rfl,fun _ _=>v_mv rfl,fun _ _=>(AE9 O O).eq (by rw [wI (by omega)];congr 1;omega),fun _ _=>E3 (i:=m) un_I B0 O O (by omega),fun _ _=>v_mv rfl,fun _ _=>v_mv rfl,fun _ _=>E3 (i:=m+1) un_I B0 O O (by omega),fun _ _=>E3 (i:=m+1) un_I B0 O O (by omega),fun _ _=>E3 (i:=m) un_I B0 O O (by omega),trivial⟩ ?_
 intro W3 e3 _
 obtain ⟨x9,h9,p9⟩:=(hF2.ext e3).at_ hg2
 obtain ⟨x13,h13,p13⟩:=(hF2.ext e3).at_ hg1
 have q9:PtrX W3 ⟨g,0+m*1,none⟩ x9:=by rw [Nat.zero_add];exact p9
 have q13:PtrX W3 ⟨g,0+(m+1)*1,none⟩ x13:=by rw [Nat.zero_add];exact p13
 refine .gv2 (.gv O trivial O (AF0 (E:=eInt .i64) B0 O q9 h9).gv ?_) (.gv O trivial O (AF0 (E:=eInt .i64) B0 O q13 h13).gv ?_)
 all_goals
  rintro _ _ ⟨rfl,rfl⟩
  refine .gv O trivial O (by first | exact (AF0 (E:=eInt .i64) B0 O q13 h13).gv | exact (AF0 (E:=eInt .i64) B0 O q9 h9).gv) ?_
  rintro _ _ ⟨rfl,rfl⟩
  refine .gv O trivial O (Aq9 (E:=eInt .i64) (i:=m+1) (by decide) B0 O O (hF2.ext e3) O (by rw [AJ1 (by omega)];omega) (Nat.zero_add _) h9) ?_
  rintro _ W4 ⟨f4,u4⟩
  refine .gv O trivial O (Aq9 (E:=eInt .i64) (i:=m) (by decide) B0 O O f4 O (by rw [List.length_set,AJ1 (by omega)];omega) (Nat.zero_add _) h13) ?_
  rintro _ W5 ⟨f5,u5⟩
  refine .nil (.inl O) ?_
  rw [Aw1 hm] at f5
  have hC5:Chg (fun b=>b=g) w W5:=(((hC.trans (Chg.ext d2)).trans (Chg.ext e3)).trans (Chg.upd u4 O)).trans (Chg.upd u5 O)
  refine kq.go O (.sub O O O ?_)
  rw [wI (by omega),show (((m+1:Nat):Int)-1)=((m:Nat):Int) by omega]
  refine .goN O (.mk m O (lc1 O) ⟨⟨hC5,f5,by omega,fun z hz=>?_⟩,Nat.lt_succ_self m⟩)
  have hdr:q.drop m=y::q.drop (m+1):=by
   obtain ⟨_,hy⟩:=List.getElem?_eq_some_iff.1 hm
   rw [<-hy];exact List.drop_eq_getElem_cons hmq
  rw [hdr] at hz
  rcases List.mem_cons.1 hz with rfl | hz
  ·exact hxy
  ·exact hd z hz
theorem E_pdq:Ent Tryz.prog 96:=A0 Tryz.func96 (by kernel_rfl) rfl
set_option maxRecDepth 8000 in
theorem pdq_c {w:World} {g cap:Nat} {p:List Int} {k r:Int} (hF:FP (eInt .i64) 3 (fun _=>True) w g (p++[k])) (hp:p.Pairwise (·<·)) (hl:p.length<=11) :
  Calls Tryz.prog 96 #[.slice (some ⟨g,0,none⟩) (p.length+1) cap,.int .i64 0,.int .i64 ((p.length+1:Nat):Int),.int .i64 r] w fun e w'=>∃ v,e=.returned v/\∃ j,j<=p.length/\(∀ y∈p.drop j,k<y)/\(∀ y∈p.take j,y<=k)/\Chg (fun b=>b=g) w w'/\FP (eInt .i64) 3 (fun _=>True) w' g (insAt p j k []):=by
 refine enterG Tryz.func96 O Tryz.ntmps96 O (.beg (.goC O (.lp (α:=Unit) [0,1,2,3] O (fun _=>[]) (fun _ W=>W=w) (fun _=>0) () AG6 O ?_)))
 rintro ⟨⟩ W rfl
 refine .go O (.sub O O O ?_)
 rw [wI (by omega)]
 refine .go O (.leqT O O O (by omega) (.go O (.callG _ O E_isort O (isort_c hF hp (by omega)) fun v W' h=>?_)))
 exact .goE O (.plain [] Tryz.results96 trivial h)
theorem E_Len64:Ent Tryz.prog 148:=A0 Tryz.func148 (by kernel_rfl) rfl
set_option maxRecDepth 8000 in
theorem Len64_c {w:World} {x:Nat} (hx:x<=12):CR Tryz.prog 148 #[.int .u64 (x:Nat)] w (fun v _=>∃ r,v=.int .i64 r):=by
 refine enter Tryz.func148 O Tryz.ntmps148 O (.beg (.go O (.geqF O O O (by omega) (.go O (.geqF O O O (by omega) (.go O (.geqF O O O (by omega) (.go O (.cvt C3 AO8 O O ?_)))))))))
 have h8:IntKind.u8.wrap ((x:Nat):Int)=((x:Nat):Int):=by
  rcases x with _ | _ | _ | _ | _ | _ | _ | _ | _ | _ | _ | _ | _ | x
  all_goals first | rfl | omega
 rw [h8]
 refine .gv O O (g_sidx BJ3 O O hx (by kernel_rfl)) ?_
 rintro v w' ⟨rfl,b,rfl⟩
 refine .cvt AO8 AF8 O O (.add O O O (.goE O ?_))
 exact .plain [_] Tryz.results148 ⟨rfl,trivial⟩ ⟨Ext.refl _,_,rfl⟩
theorem E_Len:Ent Tryz.prog 97:=A0 Tryz.func97 (by kernel_rfl) rfl
theorem Len_c {w:World} {x:Nat} (hx:x<=12):CR Tryz.prog 97 #[.int .u64 (x:Nat)] w (fun v _=>∃ r,v=.int .i64 r):=by
 refine enter Tryz.func97 O Tryz.ntmps97 O (.beg (.go O (.call _ O E_Len64 O (Len64_c hx) fun v1 w1 e1 ⟨r,h1⟩=>.goE O ?_)))
 exact .plain [_] Tryz.results97 ⟨rfl,trivial⟩ ⟨e1,r,h1⟩
theorem E_Sort:Ent Tryz.prog 55:=A0 Tryz.func55 (by kernel_rfl) rfl
set_option maxRecDepth 8000 in
theorem Sort_c {w:World} {g cap:Nat} {p:List Int} {k:Int} (hF:FP (eInt .i64) 3 (fun _=>True) w g (p++[k])) (hp:p.Pairwise (·<·)) (hl:p.length<=11) :
  Calls Tryz.prog 55 #[.slice (some ⟨g,0,none⟩) (p.length+1) cap] w fun e w'=>∃ v,e=.returned v/\∃ j,j<=p.length/\(∀ y∈p.drop j,k<y)/\(∀ y∈p.take j,y<=k)/\Chg (fun b=>b=g) w w'/\FP (eInt .i64) 3 (fun _=>True) w' g (insAt p j k []):=by
 refine enterG Tryz.func55 O Tryz.ntmps55 O (.beg (.go O (.len un_I O O (.go O (.cvt AF8 Az0 O O ?_)))))
 have h8:IntKind.u64.wrap ((p.length+1:Nat):Int)=((p.length+1:Nat):Int):=by
  have:p.length+1<=12:=by omega
  generalize p.length+1=x at this
  rcases x with _ | _ | _ | _ | _ | _ | _ | _ | _ | _ | _ | _ | _ | x
  all_goals first | rfl | omega
 rw [h8]
 refine .call _ O E_Len O (Len_c (by omega)) fun v1 w1 e1 h1=>?_
 obtain ⟨r,rfl⟩:=h1
 refine .callG _ O E_pdq O (pdq_c (hF.ext e1) hp hl) fun v W' h=>.goE O ?_
 obtain ⟨j,hj,h1,h2,hC,hF'⟩:=h
 exact .plain [] Tryz.results55 trivial ⟨j,hj,h1,h2,(Chg.ext e1).trans hC,hF'⟩
end Go.Proofs.YtpgkacdihhjknaaGreat
namespace Go.Kx
open Go Go.RowKit
theorem FP.int {kk:IntKind} {t:TypeId} {S S':Nat->Prop} {w:World} {g:Nat} {l:List Int} (h:FP (eInt kk) t S w g l):FP (eInt kk) t S' w g l:=by
 obtain ⟨es,r,hb,he⟩:=h
 exact ⟨es,r,hb,he.1,fun i e x h1 h2=>he.2 i e x h1 h2⟩
end Go.Kx
namespace Go.Proofs.YtpgkacdihhjknaaGreat
open Go Go.Kx Go.RowKit
theorem BN3 {l:List Int} (hp:l.Pairwise (·<·)) {i:Nat} {x y:Int} (h1:l[i]?=some x) (h2:l[i+1]?=some y):x<y:=by
 obtain ⟨a1,rfl⟩:=List.getElem?_eq_some_iff.1 h1
 obtain ⟨a2,rfl⟩:=List.getElem?_eq_some_iff.1 h2
 exact List.pairwise_iff_getElem.1 hp i (i+1) a1 a2 (Nat.lt_succ_self i)
theorem BH7:Ent Tryz.prog 56:=A0 Tryz.func56 (by kernel_rfl) rfl
set_option maxRecDepth 8000 in
theorem BI0 {S:Nat->Prop} {w:World} {v:Value} {l:List Int} (h:eI.R S w v l) (hp:l.Pairwise (·<·)) (hl:l.length<=1000):CR Tryz.prog 56 #[v] w (Is v):=by
 obtain ⟨a,c,hv,_⟩:=RL.len h
 refine enter Tryz.func56 O Tryz.ntmps56 O (.beg (.go O (.lenR un_I O O h ?_)))
 by_cases h2:l.length<2
 ·exact .lssT O O O (by omega) (.goE O (.plain [_] Tryz.results56 ⟨rfl,trivial⟩ ⟨Ext.refl _,rfl⟩))
 refine .lssF O O O (by omega) (.goC O (.lp (α:=Nat) [0] O (fun k=>[(3,.int .i64 (k:Nat))]) (fun k W=>Ext w W/\1<=k/\k<=l.length) (fun k=>l.length-k) 1 (lc1 O) ⟨Ext.refl _,Nat.le_refl _,by omega⟩ ?_))
 rintro k W ⟨hW,h1,hk⟩
 have hr:=ER.ext eI h hW
 refine .go O (.lenR un_I O O hr (.go O ?_))
 rcases Nat.lt_or_ge k l.length with hlt | hge
 rotate_left
 ·exact .lssF O O O (by omega) (.goE O (.plain [_] Tryz.results56 ⟨rfl,trivial⟩ ⟨hW,rfl⟩))
 obtain ⟨m,rfl⟩:∃ m,k=m+1:=⟨k-1,by omega⟩
 have hg1:=List.getElem?_eq_getElem hlt
 have hg2:=List.getElem?_eq_getElem (l:=l) (i:=m) (by omega)
 have hxy:=BN3 hp hg2 hg1
 generalize l[m+1]=x at hg1 hxy
 generalize l[m]=y at hg2 hxy
 refine .lssT O O O (by omega) (.goC O ?_)
 refine .par follows 9 [.inl _,.inl _,.inr (Ptr (eInt .i64) S x),.inl (.int .i64 x),.inl _,.inl _,.inl (.int .i64 (m:Nat)),.inr (Ptr (eInt .i64) S y),.inl (.int .i64 y)] [[],[],[(16,0),(17,1)],[(18,2)],[],[],[(21,5)],[(20,4),(22,6)],[(23,7)]] (by kernel_rfl) ⟨
  fun w e=>(v_mv O).ob,
  fun w e=>(v_mv O).ob,
  fun w e=>D2 (i:=m+1) un_I B0 O (ER.ext eI hr e) O hg1,
  fun w e x2 hx2=>Z8 B0 O hx2,
  fun w e=>(v_mv O).ob,
  fun w e=>(v_mv O).ob,
  fun w e=>((AE9 O O).eq (by rw [wI (by omega)];congr 1;omega)).ob,
  fun w e=>D2 (i:=m) un_I B0 O (ER.ext eI hr e) O hg2,
  fun w e x7 hx7=>Z8 B0 O hx7,trivial⟩ ?_
 intro W2 d2 y2 hy2 y7 hy7
 refine .eqlF O O O (by omega) (.go O (.inc O O O (by omega) (.goN O (.mk (m+2) O (lc1 O) ⟨⟨hW.trans d2,by omega,hlt⟩,by show l.length-(m+2)<l.length-(m+1);omega⟩))))
theorem E_Index:Ent Tryz.prog 170:=A0 Tryz.func170 (by kernel_rfl) rfl
set_option maxRecDepth 8000 in
theorem Index_c {S:Nat->Prop} {w:World} {v:Value} {l:List Int} {x:Int} (h:eI.R S w v l) (hl:l.length<=1000):CR Tryz.prog 170 #[v,.int .i64 x] w (fun v _=>∃ r:Int,v=.int .i64 r/\(0<=r<->x∈l)):=by
 refine enter Tryz.func170 O Tryz.ntmps170 O (.beg (.go O (.lenR un_I O O h (.goC O (.lp (α:=Nat) [0,1,7] O (fun k=>[(8,.int .i64 (k:Nat))]) (fun k W=>Ext w W/\k<=l.length/\x∉l.take k) (fun k=>l.length-k) 0 (lc1 O) ⟨Ext.refl _,Nat.zero_le _,by simp⟩ ?_)))))
 rintro k W ⟨hW,hk,hn⟩
 have hr:=ER.ext eI h hW
 refine .go O ?_
 rcases Nat.lt_or_ge k l.length with hlt | hge
 rotate_left
 ·refine .lssF O O O (by omega) (.goE O (.plain [_] Tryz.results170 ⟨rfl,trivial⟩ ⟨hW,-1,rfl,?_⟩))
  rw [List.take_of_length_le hge] at hn
  exact ⟨fun h=>absurd h (by decide),fun h=>absurd h hn⟩
 have hg:=List.getElem?_eq_getElem hlt
 have htk:l.take (k+1)=l.take k++[l[k]]:=by rw [List.take_add_one,hg];rfl
 have hmem:=List.getElem_mem hlt
 generalize l[k]=y at hg htk hmem
 refine .lssT O O O (by omega) (.go O (.ixN (i:=k) un_I B0 O O hr O hg fun q hq=>.ldE (E:=eInt .i64) B0 O O hq fun e he=>?_))
 obtain ⟨rfl,_⟩:=he
 by_cases hxy:x=y
 ·subst hxy
  exact .eqlT O O O O (.goE O (.plain [_] Tryz.results170 ⟨rfl,trivial⟩ ⟨hW,k,rfl,fun _=>hmem,fun _=>by omega⟩))
 ·exact .eqlF O O O hxy (.go O (.inc O O O (by omega) (.goN O (.mk (k+1) O (lc1 O) ⟨⟨hW,hlt,by rw [htk];simp [hn,hxy]⟩,by show l.length-(k+1)<l.length-k;omega⟩))))
theorem Af3:Ent Tryz.prog 115:=A0 Tryz.func115 (by kernel_rfl) rfl
theorem Af4 {S:Nat->Prop} {w:World} {v:Value} {l:List Int} {x:Int} (h:eI.R S w v l) (hl:l.length<=1000):CR Tryz.prog 115 #[v,.int .i64 x] w (Is (.bool (decide (x∈l)))):=by
 refine enter Tryz.func115 O Tryz.ntmps115 O (.beg (.go O (.call _ O E_Index O (Index_c h hl) fun v1 w1 e1 h1=>.go O ?_)))
 obtain ⟨r,rfl,hr⟩:=h1
 by_cases h0:0<=r
 ·exact .geqT O O O h0 (.goE O (.plain [_] Tryz.results115 ⟨rfl,trivial⟩ ⟨e1,by rw [decide_eq_true (hr.1 h0)];rfl⟩))
 ·exact .geqF O O O h0 (.goE O (.plain [_] Tryz.results115 ⟨rfl,trivial⟩ ⟨e1,by rw [decide_eq_false fun h=>h0 (hr.2 h)];rfl⟩))
theorem AX3:Ent Tryz.prog 54:=A0 Tryz.func54 (by kernel_rfl) rfl
set_option maxRecDepth 8000 in
theorem AW6 {S:Nat->Prop} {w:World} {v:Value} {l:List Int} (h:eI.R S w v l) (hp:l.Pairwise (·<·)) (h0:∀ x∈l,0<=x) (hl:l.length<=1000):CR Tryz.prog 54 #[v] w (Is (.bool true)):=by
 refine enter Tryz.func54 O Tryz.ntmps54 O (.beg (.go O (.lenR un_I O O h (.goC O (.lp (α:=Nat) [0,5,6] O (fun k=>[(7,.int .i64 (k:Nat))]) (fun k W=>Ext w W/\k<=l.length) (fun k=>l.length-k) 0 (lc1 O) ⟨Ext.refl _,Nat.zero_le _⟩ ?_)))))
 rintro k W ⟨hW,hk⟩
 have hr:=ER.ext eI h hW
 refine .go O ?_
 rcases Nat.lt_or_ge k l.length with hlt | hge
 rotate_left
 ·exact .lssF O O O (by omega) (.goE O (.plain [_] Tryz.results54 ⟨rfl,trivial⟩ ⟨hW,rfl⟩))
 have hg:=List.getElem?_eq_getElem hlt
 have hx:=h0 _ (List.getElem_mem hlt)
 generalize l[k]=x at hg hx
 refine .lssT O O O (by omega) (.go O (.ixN (i:=k) un_I B0 O O hr O hg fun q hq=>.ldE (E:=eInt .i64) B0 O O hq fun e he=>.go O ?_))
 obtain ⟨rfl,_⟩:=he
 refine .lssF O O O (by omega) (.go O ?_)
 have hend:(fun k=>l.length-k) (k+1)<(fun k=>l.length-k) k:=by show l.length-(k+1)<l.length-k;omega
 cases k with
 | zero =>
  exact .gtrF O O O (by omega) (.go O (.inc O O O (by omega) (.goN O (.mk 1 O (lc1 O) ⟨⟨hW,hlt⟩,hend⟩))))
 | succ m =>
  have hg2:=List.getElem?_eq_getElem (l:=l) (i:=m) (by omega)
  have hxy:=BN3 hp hg2 hg
  generalize l[m]=y at hg2 hxy
  refine .gtrT O O O (by omega) (.go O (.sub O O O ?_))
  rw [wI (by omega),show (((m+1:Nat):Int)-1)=((m:Nat):Int) by omega]
  refine .go O (.ixN (i:=m) un_I B0 O O hr O hg2 fun q hq=>.go O (.ldE (E:=eInt .i64) B0 O O hq fun e he=>.go O ?_))
  obtain ⟨rfl,_⟩:=he
  exact .leqF O O O (by omega) (.go O (.inc O O O (by omega) (.goN O (.mk (m+2) O (lc1 O) ⟨⟨hW,hlt⟩,hend⟩))))
structure Ins (o:List Int) (k:Int) (u:List Int):Prop where
 inc:u.Pairwise (·<·)
 mem:∀ x,x∈u<->x=k\/x∈o
 len:u.length=o.length+1
theorem BD1:Ent Tryz.prog 18:=A0 Tryz.func18 (by kernel_rfl) rfl
set_option maxRecDepth 8000 in
theorem BC9 {S:Nat->Prop} {w:World} {va vb:Value} {o:List Int} {k:Int} (up:Up S w) (ha:eI.R S w va o) (hb:eI.R S w vb [k]) (hp:o.Pairwise (·<·)) (h0:∀ x∈o,0<=x) (hk:0<=k) (hko:k∉o) (hl:o.length<=11) :
  CR Tryz.prog 18 #[va,vb] w (Two (fun v W=>∃ u,Ins o k u/\eI.R S W v u) (Is (.int .i64 0))):=by
 refine enter Tryz.func18 O Tryz.ntmps18 O (.beg (.go O ?_))
 refine .call _ O AX3 O (AW6 ha hp h0 (by omega)) fun v1 w1 e1 h1=>?_
 subst h1
 refine .go O (.call _ O AX3 O (AW6 (ER.ext eI hb e1) (List.pairwise_singleton ..) (fun x hx=>by rw [List.mem_singleton.1 hx];exact hk) (by simp)) fun v2 w2 e2 h2=>?_)
 subst h2
 have x2:=e1.trans e2
 have z2:=x2.size
 have hX:∀ {W:World} {v:Value} {l:List Int},Ext w W->eI.R S w v l->eI.R (fun b=>S b/\b<w.heap.size) W v l:=fun e h=>ER.ext eI (ER.lt eI h) e
 refine .go O (.gv O O (BB4 (E:=eInt .i64) (hsz:=by decide) (base:=w.heap.size) (X:=fun b=>S b/\b<w.heap.size) un_I AH0 O O O OwnL.nil (hX x2 ha) (fun b h=>h.2) (by simp) (by omega) (by decide) z2) ?_)
 rintro v3 w3 ⟨hO3,b3⟩
 rw [List.nil_append] at hO3
 have x3:Ext w w3:=Below.trans x2 b3
 refine .go O (.gv O O (BB4 (E:=eInt .i64) (hsz:=by decide) (base:=w.heap.size) (X:=fun b=>S b/\b<w.heap.size) un_I AH0 O O O hO3 (hX x3 hb) (fun b h=>h.2) (by omega) (by simp) (by decide) x3.size) ?_)
 rintro v4 w4 ⟨hO4,b4⟩
 have x4:Ext w w4:=Below.trans x3 b4
 obtain ⟨g,cap,rfl,c1,c2,hg,hF⟩:=hO4.fp (by simp)
 have hlen:(o++[k]).length=o.length+1:=by simp
 rw [hlen] at c1 ⊢
 refine .go O (.callG _ O E_Sort O (Sort_c (hF.mono fun _ _ _=>trivial) hp hl) fun v5 w5 h5=>?_)
 obtain ⟨j,hj,hd,ht,hC,hF5⟩:=h5
 have hIns:Ins o k (insAt o j k []):=by
  refine ⟨?_,fun x=>?_,by rw [AJ1 hj];rfl⟩
  ·unfold insAt
   rw [List.append_nil]
   refine List.pairwise_append.2 ⟨hp.sublist (List.take_sublist _ _),List.pairwise_cons.2 ⟨hd,hp.sublist (List.drop_sublist _ _)⟩,fun a ha b hb=>?_⟩
   have h1:=ht a ha
   have h2:a≠k:=fun e=>hko (e▸List.mem_of_mem_take ha)
   rcases List.mem_cons.1 hb with rfl | hb
   ·omega
   ·have:=hd b hb;omega
  ·unfold insAt
   rw [List.append_nil,List.mem_append,List.mem_cons]
   conv=>rhs;rw [<-List.take_append_drop j o,List.mem_append]
   constructor
   ·rintro (h | h | h)
    ·exact .inr (.inl h)
    ·exact .inl h
    ·exact .inr (.inr h)
   ·rintro (h | h | h)
    ·exact .inr (.inl h)
    ·exact .inl h
    ·exact .inr (.inr h)
 have x5:Ext w w5:=hC.below x4 x4.size fun b hb=>by rw [hb];exact hg
 have hR:=(hF5.int (S':=S)).toR (hsz:=by decide) (c:=cap) (up g hg) (by rw [hIns.len];exact c1) (by rw [hIns.len];omega)
 rw [hIns.len] at hR
 refine .go O (.call _ O BH7 O (BI0 hR hIns.inc (by rw [hIns.len];omega)) fun v6 w6 e6 h6=>?_)
 subst h6
 exact .goE O (.plain [_,_] Tryz.results18 ⟨rfl,rfl,trivial⟩ ⟨x5.trans e6,_,_,rfl,⟨_,hIns,ER.ext eI hR e6⟩,rfl⟩)
end Go.Proofs.YtpgkacdihhjknaaGreat
namespace Go.Kx
open Go Go.RowKit
theorem Az7 (P:Nat->Bool) (i:Nat):∀ d,∃ t,(List.range (i+d)).filter P=(List.range i).filter P++t
 | 0=>⟨[],by simp⟩
 | d+1=>by
  obtain ⟨t,ht⟩:=Az7 P i d
  rw [show i+(d+1)=(i+d)+1 by omega,List.range_succ,List.filter_append,ht,List.append_assoc]
  exact ⟨_,rfl⟩
theorem rng_at {P:Nat->Bool} {r C:Nat} (hr:r<C) (hP:P r=true):((List.range C).filter P).getD ((List.range r).filter P).length 0=r/\((List.range r).filter P).length<((List.range C).filter P).length:=by
 obtain ⟨t,ht⟩:=Az7 P (r+1) (C-(r+1))
 rw [show r+1+(C-(r+1))=C by omega,List.range_succ,List.filter_append] at ht
 have e:List.filter P [r]=[r]:=by simp [hP]
 rw [e] at ht
 rw [ht]
 constructor
 ·rw [List.getD_eq_getElem?_getD,List.append_assoc,List.getElem?_append_right (Nat.le_refl _)];simp
 ·simp
def Nw.refsTo (n:Nw) (b:Nat):List Nat:=(List.range b).filter fun r=>decide (n.root r=r)
theorem Nw.refsTo_len (n:Nw) (b:Nat):(n.refsTo b).length=n.cnt b:=rfl
theorem Nw.refsTo_succ (n:Nw) (b:Nat):n.refsTo (b+1)=n.refsTo b++if n.root b=b then [b] else []:=by
 unfold Nw.refsTo
 rw [List.range_succ,List.filter_append]
 by_cases h:n.root b=b
 ·simp [h]
 ·simp [h]
theorem Nw.cnt_mono (n:Nw) (a:Nat):∀ d,n.cnt a<=n.cnt (a+d)
 | 0=>Nat.le_refl _
 | d+1=>by have:=Nw.cnt_mono n a d;have:=n.cnt_succ (a+d);rw [show a+(d+1)=a+d+1 by omega];omega
theorem Nw.lab_cnt (n:Nw) (b:Nat):n.lab b=n.cnt b<->n.root b=b:=by
 refine ⟨fun h=>?_,fun h=>n.lab_root h⟩
 have hle:=Nw.root_le (n:=n) b
 rcases Nat.lt_or_ge (n.root b) b with hlt | hge
 ·exfalso
  have h1:n.lab b=n.cnt (n.root b):=rfl
  have h2:=n.cnt_succ (n.root b)
  rw [if_pos (Nw.root_root b)] at h2
  have h3:=n.cnt_mono (n.root b+1) (b-(n.root b+1))
  rw [show n.root b+1+(b-(n.root b+1))=b by omega] at h3
  omega
 ·omega
theorem Nw.refs_lab (n:Nw) {b:Nat} (hb:b<n.B):n.refs.getD (n.lab b) 0=n.root b/\n.lab b<n.refs.length:=by
 have hle:=Nw.root_le (n:=n) b
 exact rng_at (P:=fun r=>decide (n.root r=r)) (r:=n.root b) (C:=n.B) (by omega) (decide_eq_true (Nw.root_root b))
theorem Nw.mem_refs {n:Nw} {r:Nat}:r∈n.refs<->r<n.B/\n.root r=r:=by
 unfold Nw.refs
 rw [List.mem_filter,List.mem_range]
 simp
theorem Nw.lab_eq {n:Nw} {a b:Nat} (ha:a<n.B) (hb:b<n.B):n.lab a=n.lab b<->n.root a=n.root b:=by
 constructor
 ·intro h
  rw [<-(n.refs_lab ha).1,<-(n.refs_lab hb).1,h]
 ·intro h;unfold Nw.lab;rw [h]
end Go.Kx
namespace Go.Proofs.YtpgkacdihhjknaaGreat
open Go Go.Kx Go.RowKit
theorem AA7:Ent Tryz.prog 93:=A0 Tryz.func93 (by kernel_rfl) rfl
theorem AA1 {S:Nat->Prop} {w:World} {vn vo:Value} {n:NtV} {o:List Int} (up:Up S w) (hn:eN.R S w vn n) (ho:eI.R S w vo o) :
  CR Tryz.prog 93 #[vn,vo] w (Two (eI.at S (if outE n o=0 then pInts (nwOf n o).refs else [])) (Is (.int .i64 (outE n o)))):=by
 have hvn:=shpA (E:=eN) O hn
 refine enter Tryz.func93 O Tryz.ntmps93 O ?_
 refine .sr (.box O O fun w1 b2 n1=>.asg O O (.an O O ?_))
 obtain ⟨e1,k2,hb2,hs1⟩:=n1
 refine .sr (.ldA ty_N O O k2 (eN.csz hn) (.mv O O ?_))
 rw [<-hvn]
 refine .call _ O AI0 O (AG8 (up.ext e1.size) (hn.ext e1) (ho.ext e1)) fun v2 w2 e2 h2=>?_
 obtain ⟨vl,ve,rfl,hl,he⟩:=h2
 replace he:ve=.int .i64 (outE n o):=he
 subst he
 have x2:=e1.trans e2
 refine .mv O O (.ext O O O (.ext O O O (.asg O O (.an O O (.seq (.sr (.mv O O ?_)))))))
 by_cases hE:outE n o=0
 rotate_left
 ·refine .neqT O O O hE (.nil (.condT O (.sr (.mv O O (.asg O O (.an O O (.ret ?_)))))))
  refine .plain [_,_] Tryz.results93 ⟨rfl,rfl,trivial⟩ ⟨x2,_,_,rfl,?_,rfl⟩
  rw [if_neg hE];exact RL.nil
 have ok:=I9 hE
 rw [if_pos hE] at hl ⊢
 have hB6:=ok.b6
 refine .neqF O O O hE (.nil (.condF O (.skip (.sr (.an O O ?_)))))
 have hlW:∀ {W:World},Below w2.heap.size w2 W->eI.R (fun k=>S k/\k<w2.heap.size) W vl (tabI (nwOf n o).B (nwOf n o).lab):=fun h=>eI.keep (fun k c t f hk hh=>(h.block k hk.2).trans hh) (ER.lt eI hl)
 refine .seq (.sr (.mv O O (.lenR un_I O O hl (.mv O O (.nil ?_)))))
 rw [R9]
 refine .block (.loop (α:=Nat×Value) (fun y=>[(8,y.2),(20,vl),(21,.int .i64 ((nwOf n o).B:Nat)),(22,.int .i64 (y.1:Nat))]) (fun y W=>Below w2.heap.size w2 W/\y.1<=(nwOf n o).B/\OwnL (eInt .i64) 3 w2.heap.size S W y.2 (pInts ((nwOf n o).refsTo y.1))) (fun y=>(nwOf n o).B-y.1) (0,.slice none 0 0) ?_ ?_ ?_)
 ·exact lkA rfl
 ·exact ⟨Below.refl _ _,Nat.zero_le _,OwnL.nil⟩
 rintro ⟨i,v⟩ W ⟨hW,hi,hown⟩
 replace hW:Below w2.heap.size w2 W:=hW
 replace hi:i<=(nwOf n o).B:=hi
 replace hown:OwnL (eInt .i64) 3 w2.heap.size S W v (pInts ((nwOf n o).refsTo i)):=hown
 refine .sr ?_
 rcases Nat.lt_or_ge i (nwOf n o).B with hlt | hge
 rotate_left
 ·refine .lssF O O O (by omega) (.nil (.seq (.condF O (.exit (.sr (.mv O O (.asg O O (.an O O (.ret ?_)))))))))
  have:i=(nwOf n o).B:=by omega
  subst this
  refine .plain [_,_] Tryz.results93 ⟨rfl,rfl,trivial⟩ ⟨x2.trans hW,_,_,rfl,?_,by rw [hE]⟩
  exact hown.toR (fun k hk=>up k (by have:=x2.size;omega)) (fun _ h=>h)
 refine .lssT O O O (by omega) (.nil (.seq (.condT O (.skip (.seq (.block (.sr (.mv O O (.ixN (i:=i) un_I B0 O O (hlW hW) O (AB4 hlt) fun q hq=>.ldE (E:=eInt .i64) B0 O O hq fun e he=>.asg O O (.an O O ?_))))))))))
 obtain ⟨rfl,_⟩:=he
 have hvl:eI.R (fun k=>S k\/w2.heap.size<=k) W v (pInts ((nwOf n o).refsTo i)):=hown.toR (fun k hk=>.inr hk) (fun _ h=>.inl h)
 have hcl:=(nwOf n o).cnt_le i
 have hlb:=(nwOf n o).lab_cnt i
 have hrs:=(nwOf n o).refsTo_succ i
 have hlen:(pInts ((nwOf n o).refsTo i)).length=(nwOf n o).cnt i:=by simp [Nw.refsTo_len]
 refine .sr (.mv O O (.mv O O (.lenR un_I O O hvl ?_)))
 rw [hlen]
 by_cases hr:(nwOf n o).root i=i
 ·rw [if_pos hr] at hrs
  refine .eqlT O O O (by rw [hlb.2 hr]) (.nil (.condT O (.region (.mv O O (.mv O O (.bsl _ O O AU0 fun W1 by_ ny=>?_))))))
  obtain ⟨ey,ky,hby,hsy⟩:=ny
  have hW1:=hW.trans (ey.mono hW.size)
  refine .gv O O (AA2 (E:=eInt .i64) (base:=w2.heap.size) (n:=((i:Nat):Int)) (e:=.int .i64 (i:Nat)) (by decide) un_I AH0 O O O (hown.ext ey) ky ⟨rfl,E9.2 (by omega)⟩ (by rw [hlen];omega) (by decide) hW1.size) ?_
  rintro v8 W8 ⟨ho8,hg8⟩
  refine .an O O (.region (.add O O O (.mv O O (.nil ?_))))
  rw [wI (by omega)]
  refine ⟨rfl,(i+1,v8),lkA rfl,⟨(hown.ext ey).below hg8 hW1 hW1.size,hlt,?_⟩,by show (nwOf n o).B-(i+1)<(nwOf n o).B-i;omega⟩
  show OwnL (eInt .i64) 3 w2.heap.size S W8 v8 (pInts ((nwOf n o).refsTo (i+1)))
  rw [hrs]
  unfold pInts
  rw [List.map_append]
  exact ho8
 ·rw [if_neg hr,List.append_nil] at hrs
  refine .eqlF O O O (by intro e;exact hr (hlb.1 (by omega))) (.nil (.condF O (.skip (.region (.add O O O (.mv O O (.nil ?_)))))))
  rw [wI (by omega)]
  refine ⟨rfl,(i+1,v),lkA rfl,⟨hW,hlt,?_⟩,by show (nwOf n o).B-(i+1)<(nwOf n o).B-i;omega⟩
  show OwnL (eInt .i64) 3 w2.heap.size S W v (pInts ((nwOf n o).refsTo (i+1)))
  rw [hrs];exact hown
def busB (n:NtV) (a:Int):Prop:=0<=a/\a<n.b
open Classical in
noncomputable def conE (n:NtV) (o:List Int) (a b:Int):Int:=if outE n o≠0 then outE n o else if busB n a/\busB n b then 0 else 1
theorem conE_ok {n:NtV} {o:List Int} {a b:Int} (h:conE n o a b=0):outE n o=0/\busB n a/\busB n b:=by
 unfold conE at h
 split at h
 ·exact absurd h (by assumption)
 ·split at h
  ·exact ⟨Classical.not_not.1 (by assumption),by assumption⟩
  ·cases h
open Classical in
noncomputable def conB (n:NtV) (o:List Int) (a b:Int):Bool:=decide (conE n o a b=0/\(nwOf n o).root a.toNat=(nwOf n o).root b.toNat)
theorem AO3:Ent Tryz.prog 132:=A0 Tryz.func132 (by kernel_rfl) rfl
theorem AN4 {S:Nat->Prop} {w:World} {vn vo:Value} {n:NtV} {o:List Int} {a b:Int} (up:Up S w) (hn:eN.R S w vn n) (ho:eI.R S w vo o) :
  CR Tryz.prog 132 #[vn,vo,.int .i64 a,.int .i64 b] w (Two (Is (.bool (conB n o a b))) (Is (.int .i64 (conE n o a b)))):=by
 obtain ⟨s,rfl,hs,hb⟩:=hn
 have hn:eN.R S w (.agg #[.int .i64 n.b,s]) n:=⟨s,rfl,hs,hb⟩
 refine enter Tryz.func132 O Tryz.ntmps132 O (.sr (.box O O fun w1 b2 n1=>.asg O O (.an O O ?_)))
 obtain ⟨e1,k2,hb2,hs1⟩:=n1
 refine .sr (.ldA ty_N O O k2 O (.mv O O ?_))
 refine .call _ O AI0 O (AG8 (up.ext e1.size) (hn.ext e1) (ho.ext e1)) fun v2 w2 e2 h2=>?_
 obtain ⟨vl,ve,rfl,hl,he⟩:=h2
 replace he:ve=.int .i64 (outE n o):=he
 subst he
 have x2:=e1.trans e2
 have k2:=k2.ext e2
 refine .mv O O (.ext O O O (.ext O O O (.asg O O (.an O O (.seq (.sr (.mv O O ?_)))))))
 have hno:conE n o a b≠0->conB n o a b=false:=fun h=>by unfold conB;exact decide_eq_false fun h'=>h h'.1
 by_cases hE:outE n o=0
 rotate_left
 ·have hc:conE n o a b=outE n o:=by unfold conE;rw [if_pos hE]
  refine .neqT O O O hE (.nil (.condT O (.sr (.mv O O (.asg O O (.an O O (.ret ?_)))))))
  exact .plain [_,_] Tryz.results132 ⟨rfl,rfl,trivial⟩ ⟨x2,_,_,rfl,by rw [hno (by rw [hc];exact hE)],by rw [hc];rfl⟩
 have ok:=I9 hE
 rw [if_pos hE] at hl
 have hbad:¬ (busB n a/\busB n b)->∀ {σ:Env},Leave Tryz.prog Tryz.f132 48 (fun v w'=>Ext w w'/\Two (Is (.bool (conB n o a b))) (Is (.int .i64 (conE n o a b))) v w') ((9,.int .i64 1)::(8,.bool false)::σ) [] w2:=fun h σ=>by
  have hc:conE n o a b=1:=by unfold conE;rw [if_neg (by simpa using hE),if_neg h]
  exact .plain [_,_] Tryz.results132 ⟨rfl,rfl,trivial⟩ ⟨x2,_,_,rfl,by rw [hno (by rw [hc];decide)],by rw [hc]⟩
 refine .neqF O O O hE (.nil (.condF O (.skip (.seq (.sr (.mv O O ?_))))))
 by_cases ha0:a<0
 ·refine .lssT O O O ha0 (.mv O O (.gs O O O O O (.gs O O O O O (.gs O O O O O (.gs O O O O O (.pick O O O (.mv O O (.gs O O O O O (.gs O O O O O (.pick O O O (.mv O O (.gs O O O O O (.gs O O O O O (.gs O O O O O (.gs O O O O O (.pick O O O (.nil (.condT O (.sr (.asg O O (.an O O (.ret ?_))))))))))))))))))))))
  exact hbad fun h=>by have:=h.1.1;omega
 refine .lssF O O O (by omega) (.mv O O (.gr O O O O (.mv O O (.gr O O O O (.fa I6 O O (.gr O O O O (.ld A8 O O k2 O (.gr O O O O ?_))))))))
 by_cases ha1:n.b<=a
 ·refine .geqT O O O ha1 (.pick O O O (.mv O O (.gs O O O O O (.gs O O O O O (.pick O O O (.mv O O (.gs O O O O O (.gs O O O O O (.gs O O O O O (.gs O O O O O (.pick O O O (.nil (.condT O (.sr (.asg O O (.an O O (.ret ?_)))))))))))))))))
  exact hbad fun h=>by have:=h.1.2;omega
 refine .geqF O O O (by omega) (.pick O O O (.mv O O (.gr O O O O (.mv O O (.gr O O O O ?_)))))
 by_cases hb0:b<0
 ·refine .lssT O O O hb0 (.pick O O O (.mv O O (.gs O O O O O (.gs O O O O O (.gs O O O O O (.gs O O O O O (.pick O O O (.nil (.condT O (.sr (.asg O O (.an O O (.ret ?_)))))))))))))
  exact hbad fun h=>by have:=h.2.1;omega
 refine .lssF O O O (by omega) (.pick O O O (.mv O O (.gr O O O O (.mv O O (.gr O O O O (.fa I6 O O (.gr O O O O (.ld A8 O O k2 O (.gr O O O O ?_)))))))))
 by_cases hb1:n.b<=b
 ·refine .geqT O O O hb1 (.pick O O O (.nil (.condT O (.sr (.asg O O (.an O O (.ret ?_)))))))
  exact hbad fun h=>by have:=h.2.2;omega
 refine .geqF O O O (by omega) (.pick O O O (.nil (.condF O (.skip (.seq ?_)))))
 have hc:conE n o a b=0:=by unfold conE;rw [if_neg (by simpa using hE),if_pos ⟨⟨by omega,by omega⟩,by omega,by omega⟩]
 obtain ⟨a',rfl⟩:∃ a':Nat,a=a':=⟨a.toNat,by omega⟩
 obtain ⟨b',rfl⟩:∃ b':Nat,b=b':=⟨b.toNat,by omega⟩
 have hnb:=ok.b
 have haB:a'<(nwOf n o).B:=by omega
 have hbB:b'<(nwOf n o).B:=by omega
 refine .par follows 9 [.inl vl,.inl (.int .i64 (a':Nat)),.inr (Ptr (eInt .i64) S ((nwOf n o).lab a':Nat)),.inl (.int .i64 ((nwOf n o).lab a':Nat)),.inl vl,.inl (.int .i64 (b':Nat)),.inr (Ptr (eInt .i64) S ((nwOf n o).lab b':Nat)),.inl (.int .i64 ((nwOf n o).lab b':Nat)),.inl (.bool (conB n o a' b'))]
  [[],[],[(39,0),(40,1)],[(41,2)],[],[],[(43,4),(44,5)],[(45,6)],[(42,3),(46,7)]] (by kernel_rfl) ⟨
  fun w e=>(v_mv O).ob,fun w e=>(v_mv O).ob,fun w e=>D2 (i:=a') un_I B0 O (ER.ext eI hl e) O (AB4 haB),fun w e x hx=>Z8 B0 O hx,
  fun w e=>(v_mv O).ob,fun w e=>(v_mv O).ob,fun w e=>D2 (i:=b') un_I B0 O (ER.ext eI hl e) O (AB4 hbB),fun w e x hx=>Z8 B0 O hx,
  fun w e=>((BJ1 O O).eq (by
   have:=Nw.lab_eq haB hbB
   unfold conB
   by_cases h:(nwOf n o).root a'=(nwOf n o).root b'
   ·rw [decide_eq_true ⟨hc,h⟩,this.2 h];simp
   ·rw [decide_eq_false fun h'=>h h'.2]
    simp;omega)).ob,trivial⟩ ?_
 intro w3 e3 _ _ _ _
 refine .asg O O (.an O O (.ret ?_))
 exact .plain [_,_] Tryz.results132 ⟨rfl,rfl,trivial⟩ ⟨x2.trans e3,_,_,rfl,rfl,by rw [hc]⟩
end Go.Proofs.YtpgkacdihhjknaaGreat
namespace Go.Kx
open Go Go.RowKit
def Nw.lmL (n:Nw) (l:List Nat):RM:=fun b c=>l.foldl (fun s k=>s+n.g k*(n.inc k b*n.inc k c)) 0
theorem Nw.lmL_snoc (n:Nw) (l:List Nat) (k b c:Nat):n.lmL (l++[k]) b c=n.lmL l b c+n.g k*(n.inc k b*n.inc k c):=by unfold Nw.lmL;rw [List.foldl_append];rfl
theorem Nw.lmL_free {n:Nw} {p:List Nat} (b c:Nat):∀ j,(∀ k,k<j->(n.g k=0<->k∈p))->n.lmL (freeTo p j) b c=sumN j fun k=>n.g k*(n.inc k b*n.inc k c)
 | 0,_=>rfl
 | j+1,h=>by
  have ih:=Nw.lmL_free (n:=n) (p:=p) b c j fun k hk=>h k (by omega)
  have hj:=h j (by omega)
  rw [Go.Proofs.YtpgkacdihhjknaaGreat.M7]
  show _=sumN j _+_
  by_cases hg:n.g j=0
  ·rw [if_pos (hj.1 hg),List.append_nil,ih]
   dsimp only
   rw [hg,Rat.zero_mul,Rat.add_zero]
  ·rw [if_neg (fun h=>hg (hj.2 h)),Nw.lmL_snoc,ih]
def upE (f:RM) (i j:Nat) (y:Rat):RM:=fun b c=>if b=i then (if c=j then y else f i c) else f b c
theorem AT0 {f:RM} {i j b c:Nat} {y:Rat} (h:b≠i\/c≠j):upE f i j y b c=f b c:=by
 unfold upE
 by_cases hb:b=i
 ·subst hb
  rw [if_pos rfl,if_neg (by rcases h with h | h;exact absurd rfl h;exact h)]
 ·rw [if_neg hb]
theorem Nw.four (n:Nw) {k:Nat} (hne:n.F k≠n.T k) (f:RM) (b c:Nat) :
  upE (upE (upE (upE f (n.F k) (n.F k) (f (n.F k) (n.F k)+n.g k)) (n.F k) (n.T k) (f (n.F k) (n.T k)-n.g k)) (n.T k) (n.T k) (f (n.T k) (n.T k)+n.g k)) (n.T k) (n.F k) (f (n.T k) (n.F k)-n.g k) b c=f b c+n.g k*(n.inc k b*n.inc k c):=by
 unfold upE Nw.inc dl
 generalize n.F k=F at *
 generalize n.T k=T at *
 by_cases h1:b=F
 ·subst h1
  by_cases h2:c=b
  ·subst h2;simp [hne,Ne.symm hne];grind
  ·by_cases h3:c=T
   ·subst h3;simp [hne,Ne.symm hne];grind
   ·simp [hne,Ne.symm hne,h2,h3,Ne.symm h2,Ne.symm h3];grind
 ·by_cases h1':b=T
  ·subst h1'
   by_cases h2:c=b
   ·subst h2;simp [hne,Ne.symm hne];grind
   ·by_cases h3:c=F
    ·subst h3;simp [hne,Ne.symm hne];grind
    ·simp [hne,Ne.symm hne,h2,h3,Ne.symm h2,Ne.symm h3];grind
  ·simp [h1,h1',Ne.symm h1,Ne.symm h1'];grind
theorem Az5 {g:Rat} {s:Rat} {L:Nat} (h:Rsz g L) (hL:1<=L) (hs:s=0\/s=1\/s = -1):Rsz (g*s) L:=by
 rcases hs with rfl | rfl | rfl
 ·rw [Rat.mul_zero];exact Rsz.zero hL
 ·rw [Rat.mul_one];exact h
 ·rw [show g*(-1) = -g by grind];exact h.neg
theorem Nw.inc_tri (n:Nw) (k b:Nat):n.inc k b=0\/n.inc k b=1\/n.inc k b = -1:=by
 unfold Nw.inc dl
 split<;>split<;>grind
theorem Nw.lmL_rsz (n:Nw) {L:Nat} (hL:1<=L) (hg:∀ k,Rsz (n.g k) L) (b c:Nat) (l:List Nat):Rsz (n.lmL l b c) (1+l.length*(L+1)):=by
 have key:∀ (m:Nat) (l:List Nat),l.length=m->Rsz (n.lmL l b c) (1+m*(L+1)):=by
  intro m
  induction m with
  | zero=>intro l hl;rw [List.length_eq_zero_iff.1 hl];exact Rsz.zero (by omega)
  | succ m ih =>
   intro l hl
   obtain ⟨l',k,rfl⟩:∃ l' k,l=l'++[k]:=⟨l.dropLast,l.getLast (by intro e;rw [e] at hl;cases hl),(List.dropLast_concat_getLast _).symm⟩
   rw [Nw.lmL_snoc]
   have h1:=ih l' (by simp at hl;exact hl)
   have h2:Rsz (n.g k*(n.inc k b*n.inc k c)) L:=Az5 (hg k) hL (by
    rcases n.inc_tri k b with h | h | h<;>rcases n.inc_tri k c with h' | h' | h'<;>rw [h,h']<;>grind)
   refine (h1.add h2).mono ?_
   rw [Nat.add_mul];omega
 exact key _ l rfl
end Go.Kx
namespace Go.Proofs.YtpgkacdihhjknaaGreat
open Go Go.Kx Go.RowKit
theorem nwOk.gsz {n:NtV} {o:List Int} (h:nwOk n o) (k:Nat):Rsz ((nwOf n o).g k) 1:=by
 show Rsz (if k∈oN o then (0:Rat) else ((n.ls.getD k ln0).x:Rat)⁻¹) 1
 have hx:1<=(n.ls.getD k ln0).x/\(n.ls.getD k ln0).x<=1000:=by
  rcases Nat.lt_or_ge k n.ls.length with hk | hk
  ·exact h.x k hk
  ·rw [List.getD_eq_getElem?_getD,List.getElem?_eq_none hk];decide
 split
 ·exact Rsz.zero (Nat.le_refl _)
 ·exact (Rsz.int _ (by omega) (Nat.le_refl _)).inv (Nat.le_refl _)
end Go.Proofs.YtpgkacdihhjknaaGreat
namespace Go.Kx
open Go Go.RowKit
def Nw.gA (n:Nw):List (List QV):=tabM n.B n.B n.gm
def Nw.th (n:Nw) (b c:Nat):Rat:=rm (invM n.gA) c b
def Nw.hf (n:Nw) (k b:Nat):Rat:=n.fl (n.th b) k
end Go.Kx
namespace Go.Proofs.YtpgkacdihhjknaaGreat
open Go Go.Kx Go.RowKit
section
variable {n:Nw}
theorem I5:n.gA.length=n.B:=A4 ..
theorem AJ6 (hB:1<=n.B):colsOf n.gA=n.B:=by unfold Nw.gA;rw [AT7,if_neg (by omega)]
theorem rm_gA {i k:Nat} (hi:i<n.B) (hk:k<n.B):rm n.gA i k=n.gm i k:=by unfold Nw.gA;rw [AZ3,if_pos ⟨hi,hk⟩]
theorem Al4 (ok:n.Ok) (hB:1<=n.B):invertible n.gA:=by
 have hc:=AJ6 hB
 rw [BM6 (by rw [hc,I5]),I5]
 have h1:=BF3 n.gA
 rw [hc] at h1
 rcases Nat.eq_zero_or_pos (nullM n.gA).length with h0 | hp
 ·omega
 exfalso
 rw [AW0] at hp
 obtain ⟨hk,hkp⟩:=BF6 hp
 rw [hc] at hk
 have hz:=Nw.ker0 (θ:=nv (redF n.gA) (redP n.gA) ((freeC n.gA).getD 0 0)) ok (fun b hb=>by
  have h2:=BE5 (m:=n.gA) (k:=(freeC n.gA).getD 0 0) (by rw [hc];exact hk) b
  rw [hc] at h2
  have h3:=Nw.gm_sum ok (nv (redF n.gA) (redP n.gA) ((freeC n.gA).getD 0 0)) hb
  have h4:sumN n.B (fun c=>rm n.gA b c*nv (redF n.gA) (redP n.gA) ((freeC n.gA).getD 0 0) c)=sumN n.B (fun c=>n.gm b c*nv (redF n.gA) (redP n.gA) ((freeC n.gA).getD 0 0) c):=A3 fun c hc'=>by rw [rm_gA hb hc']
  rw [<-h4,h2] at h3
  split
  ·rw [if_pos (by assumption)] at h3;exact h3.symm
  ·rw [if_neg (by assumption)] at h3;exact h3.symm) _ hk
 rw [nv_self (not_piv hkp)] at hz
 exact absurd hz (by decide)
theorem Ao3 (ok:n.Ok) (hB:1<=n.B) {b i:Nat} (hb:b<n.B) (hi:i<n.B):(if n.root i=i then n.th b i else n.lap (n.th b) i)=dl i b:=by
 have h:=Ai6 (Al4 ok hB) (i:=i) (k:=b) (by rw [I5];exact hi) (by rw [I5];exact hb)
 rw [I5] at h
 rw [<-Nw.gm_sum ok (n.th b) hi]
 have e:sumN n.B (fun c=>n.gm i c*n.th b c)=sumN n.B (fun j=>rm n.gA i j*rm (invM n.gA) j b):=A3 fun c hc=>by rw [rm_gA hi hc];rfl
 rw [e,h];rfl
end
theorem BB6 {n:NtV} {o:List Int} (h:nwOk n o):mk_ 21 (nwOf n o).gA:=AZ6 fun b c hb hc=>by
 unfold Nw.gm
 split
 ·unfold dl
  split
  ·exact rsz1 (by decide)
  ·exact Rsz.zero (by decide)
 ·unfold Nw.Lm
  rw [<-Nw.lmL_free (p:=oN o) b c _ fun k hk=>h.g0 hk]
  refine ((nwOf n o).lmL_rsz (Nat.le_refl _) h.gsz b c _).mono ?_
  have:=Aj0 (oN o) (nwOf n o).M
  have:=h.m
  omega
theorem bd216:bd 21 6=87381:=by decide
theorem BJ7 {n:NtV} {o:List Int} (h:nwOk n o) (b c:Nat):Rsz ((nwOf n o).th b c) 87381:=by
 have:=BA6 (n:=6) (BB6 h) (by decide) (by rw [I5];exact h.b6)
 rw [bd216] at this
 exact this.rsz (by decide) c b
theorem fl_rsz {n:NtV} {o:List Int} (h:nwOk n o) {θ:Nat->Rat} {L:Nat} (hθ:∀ c,Rsz (θ c) L) (k:Nat):Rsz ((nwOf n o).fl θ k) (2*L+2):=by
 unfold Nw.fl
 have h1:=(hθ ((nwOf n o).F k)).add (hθ ((nwOf n o).T k)).neg
 rw [<-Rat.sub_eq_add_neg] at h1
 exact ((h.gsz k).mul h1).mono (by omega)
theorem Al3 {n:NtV} {o:List Int} (h:nwOk n o) (k b:Nat):Rsz ((nwOf n o).hf k b) 174764:=fl_rsz h (BJ7 h b) k
end Go.Proofs.YtpgkacdihhjknaaGreat
namespace Go.Kx
open Go Go.RowKit
section
variable {n:Nw}
theorem Nw.th_root (ok:n.Ok) {b c:Nat} (hb:b<n.B) (hr:n.root b=b) (hc:c<n.B):n.th b c=if n.root c=b then 1 else 0:=by
 refine Nw.uniq (φ:=fun c=>if n.root c=b then 1 else 0) ok (fun i hi=>?_) c hc
 have h:=Go.Proofs.YtpgkacdihhjknaaGreat.Ao3 ok (by omega) hb hi
 split
 ·rename_i hri
  rw [if_pos hri] at h
  rw [h,hri];rfl
 ·rename_i hri
  rw [if_neg hri] at h
  rw [h,AH5 (a:=i) (b:=b) (fun e=>hri (by rw [e];exact hr))]
  symm
  unfold Nw.lap Nw.off
  refine E2 fun k hk=>?_
  unfold Nw.fl
  by_cases hg:n.g k=0
  ·rw [hg];grind
  ·dsimp only
   rw [Nw.root_line hk hg];grind
theorem Nw.hf_root (ok:n.Ok) {k b:Nat} (hk:k<n.M) (hb:b<n.B) (hr:n.root b=b):n.hf k b=0:=by
 unfold Nw.hf Nw.fl
 rw [Nw.th_root ok hb hr (ok.f k hk),Nw.th_root ok hb hr (ok.t k hk)]
 by_cases hg:n.g k=0
 ·rw [hg,Rat.zero_mul]
 ·rw [Nw.root_line hk hg];grind
theorem Nw.lap_th (ok:n.Ok) {b i:Nat} (hb:b<n.B) (hi:i<n.B):n.lap (n.th b) i=dl i b-dl i (n.root b):=by
 have hB:1<=n.B:=by omega
 have hsum:=Nw.off_clo (f:=n.fl (n.th b)) ok (Nw.clo_root (n:=n) (n.root i)) fun k _ hg=>Nw.fl_out hg
 by_cases hr:n.root b=b
 ·rw [hr]
  have:n.lap (n.th b) i=0:=by
   unfold Nw.lap Nw.off
   refine E2 fun k hk=>?_
   rw [show n.fl (n.th b) k=n.hf k b from rfl,Nw.hf_root ok hk hb hr,Rat.mul_zero]
  rw [this];grind
 by_cases hri:n.root i=i
 ·rw [hri] at hsum
  have e:sumN n.B (fun c=>if n.root c=i then n.off (n.fl (n.th b)) c else 0)=sumN n.B (fun c=>(if c=i then n.lap (n.th b) i else 0)+(if n.root c=i then dl c b else 0)):=A3 fun c hc=>by
   have h:=Go.Proofs.YtpgkacdihhjknaaGreat.Ao3 ok hB hb hc
   by_cases hci:c=i
   ·subst hci
    rw [if_pos hri,if_pos rfl,if_pos hri,AH5 (a:=c) (b:=b) (fun e=>hr (by rw [<-e];exact hri))]
    show n.lap (n.th b) c=_
    grind
   ·rw [if_neg hci]
    by_cases hrc:n.root c=i
    ·have hcn:n.root c≠c:=fun e=>hci (by rw [<-hrc];exact e.symm)
     rw [if_neg hcn] at h
     rw [if_pos hrc,if_pos hrc]
     show n.lap (n.th b) c=_
     rw [h];grind
    ·rw [if_neg hrc,if_neg hrc];grind
  rw [e,AP1,E4 (i:=i) (fun c _ hne=>if_neg hne),if_pos hi,if_pos rfl,E4 (i:=b) (fun c _ hne=>by rw [AH5 hne];split<;>rfl),if_pos hb,AQ9] at hsum
  have hib:i≠b:=fun e=>hr (e▸hri)
  rw [AH5 hib]
  by_cases hrb:n.root b=i
  ·rw [if_pos hrb] at hsum
   rw [hrb,AQ9];grind
  ·rw [if_neg hrb] at hsum
   rw [AH5 (Ne.symm hrb)];grind
 ·have h:=Go.Proofs.YtpgkacdihhjknaaGreat.Ao3 ok hB hb hi
  rw [if_neg hri] at h
  rw [h,AH5 (a:=i) (b:=n.root b) (fun e=>hri (by rw [e];exact Nw.root_root b))]
  grind
end
end Go.Kx
namespace Go.Proofs.YtpgkacdihhjknaaGreat
open Go Go.Kx Go.RowKit
theorem Af0:Ent Tryz.prog 206:=A0 Tryz.func206 (by kernel_rfl) rfl
theorem Ac6 {S:Nat->Prop} {w:World} {n d:Int} (up:Up S w) (hn1 : -9223372036854775808<=n) (hn2:n<=9223372036854775807) (hd1 : -9223372036854775808<=d) (hd2:d<=9223372036854775807) (hd:d≠0) :
  CR Tryz.prog 206 #[.int .i64 n,.int .i64 d] w (Two (eQ.at S (qc (Rat.divInt n d))) (Is (.int .i64 0))):=by
 refine enter Tryz.func206 O Tryz.ntmps206 O (.sr (.alloc O C5 fun w1 b4 n1=>.an O O ?_))
 obtain ⟨e1,k4,hb4,hs1⟩:=n1
 have hS4:¬ Sx S w.heap.size w1.heap.size b4:=Sx.no (by omega) (by omega)
 have up1:Up (Sx S w.heap.size w1.heap.size) w1:=Sx.up up (Nat.le_refl _) e1.size
 refine .seq (.sr (.mv O O (.eqlF O O O hd (.nil (.condF O (.skip (.sr (.mv O O (.call _ O D0 O (C9 up1 hn1 hn2) fun v2 w2 e2 h2=>.mv O O (.call _ O D0 O (C9 (up1.ext e2.size) hd1 hd2) fun v3 w3 e3 h3=>(.call _ O AA8 O (Ag2 (L:=2) (up1.ext (e2.trans e3).size) (Zv.of (ER.ext eZ h2 e3) (by omega)) (Zv.of h3 (by omega)) hd (by decide)) fun v5 w5 e5 h5=>?_)))))))))))
 have x5:=((e1.trans e2).trans e3).trans e5
 refine .storeA (E:=eQ) ty_Q O O (((k4.ext e2).ext e3).ext e5) O O h5 hS4 fun w6 k6 u6 h6=>.an O O (.ret ?_)
 exact .plain [_,_] Tryz.results206 ⟨⟨_,rfl,D3 (E:=eQ) ty_Q O O k6 h6⟩,rfl,trivial⟩ ⟨u6.below x5 (by omega),_,_,rfl,h6.out,rfl⟩
end Go.Proofs.YtpgkacdihhjknaaGreat
namespace Go.Kx
open Go Go.RowKit
section
variable {n:Nw}
theorem Nw.fl_sub (θ φ:Nat->Rat) (k:Nat):n.fl (fun c=>θ c-φ c) k=n.fl θ k-n.fl φ k:=by unfold Nw.fl;grind
end
theorem OwnL.one {α:Type} {E:ER α} {t:TypeId} {base:Nat} {X:Nat->Prop} {w w':World} {b:Nat} {e:Value} {x:α} (hn:New w w' b t e.cells) (hb:base<=w.heap.size) (hs:e.cells.size=E.sz) (hx:E.R (fun k=>X k/\k≠b) w' e x):OwnL E t base X w' (.slice (some ⟨b,0,none⟩) 1 1) [x]:=by
 obtain ⟨_,hk,hb',_⟩:=hn
 have hc:cellsOf [e]=e.cells.toList:=by simp [cellsOf]
 refine ⟨[e],⟨by rw [hc];simp [hs],.inr ⟨b,1,_,rfl,by omega,hk,Nat.le_refl _,by decide,by simp [hs],by rw [hc,List.take_of_length_le (by simp [hs])]⟩⟩,rfl,fun i e' x' he hx'=>?_⟩
 have hi:i=0:=by
  cases i with
  | zero=>rfl
  | succ i=>simp at he
 subst hi
 simp at he hx'
 subst he;subst hx'
 exact E.mono (fun k _ h=>⟨h.1,fun e=>h.2 (by simpa [Value.ownBlock] using e.symm)⟩) hx
section
variable {n:Nw}
theorem Nw.lap_add (θ φ:Nat->Rat) (b:Nat):n.lap (fun c=>θ c+φ c) b=n.lap θ b+n.lap φ b:=by
 unfold Nw.lap Nw.off
 rw [<-AP1]
 refine A3 fun k _=>?_
 unfold Nw.fl;grind
theorem Nw.lap_smul (θ:Nat->Rat) (y:Rat) (b:Nat):n.lap (fun c=>θ c*y) b=n.lap θ b*y:=by
 unfold Nw.lap Nw.off
 rw [<-P4]
 refine A3 fun k _=>?_
 unfold Nw.fl;grind
theorem Nw.lap_zero (b:Nat):n.lap (fun _=>0) b=0:=by
 unfold Nw.lap Nw.off
 refine E2 fun k _=>?_
 unfold Nw.fl;grind
theorem Nw.lap_lin (t:Nat->Nat->Rat) (y:Nat->Rat) (i:Nat):∀ m,n.lap (fun c=>sumN m fun b=>t b c*y b) i=sumN m fun b=>n.lap (t b) i*y b
 | 0=>Nw.lap_zero i
 | m+1=>by
  show n.lap (fun c=>(sumN m fun b=>t b c*y b)+t m c*y m) i=(sumN m fun b=>n.lap (t b) i*y b)+n.lap (t m) i*y m
  rw [Nw.lap_add,Nw.lap_lin t y i m,Nw.lap_smul]
theorem Nw.fl_lin (t:Nat->Nat->Rat) (y:Nat->Rat) (k:Nat):∀ m,n.fl (fun c=>sumN m fun b=>t b c*y b) k=sumN m fun b=>n.fl (t b) k*y b
 | 0=>by unfold Nw.fl;show n.g k*(0-0)=0;grind
 | m+1=>by
  have ih:=Nw.fl_lin t y k m
  show n.fl (fun c=>(sumN m fun b=>t b c*y b)+t m c*y m) k=(sumN m fun b=>n.fl (t b) k*y b)+n.fl (t m) k*y m
  rw [<-ih]
  unfold Nw.fl;grind
def Nw.inj0 (n:Nw) (x:Nat->Rat) (b:Nat):Rat:=if n.root b=b then 0 else x b
def Nw.an (n:Nw) (x:Nat->Rat) (c:Nat):Rat:=sumN n.B fun b=>n.th b c*n.inj0 x b
theorem Nw.an_eq (ok:n.Ok) (x:Nat->Rat) {i:Nat} (hi:i<n.B):(if n.root i=i then n.an x i else n.lap (n.an x) i)=n.inj0 x i:=by
 have hB:1<=n.B:=by omega
 have key:∀ b,b<n.B->(if n.root i=i then n.th b i else n.lap (n.th b) i)=dl i b:=fun b hb=>Go.Proofs.YtpgkacdihhjknaaGreat.Ao3 ok hB hb hi
 by_cases hr:n.root i=i
 ·rw [if_pos hr]
  unfold Nw.an
  rw [<-AM9 (n.inj0 x) hi]
  refine A3 fun b hb=>?_
  have:=key b hb
  rw [if_pos hr] at this
  rw [this,Rat.mul_comm]
 ·rw [if_neg hr]
  unfold Nw.an
  rw [Nw.lap_lin,<-AM9 (n.inj0 x) hi]
  refine A3 fun b hb=>?_
  have:=key b hb
  rw [if_neg hr] at this
  rw [this,Rat.mul_comm]
def Nw.bal (n:Nw) (x:Nat->Rat):Prop:=∀ r,r<n.B->n.root r=r->sumN n.B (fun b=>if n.root b=r then x b else 0)=0
theorem Nw.lap_an (ok:n.Ok) {x:Nat->Rat} (hb:n.bal x) {i:Nat} (hi:i<n.B):n.lap (n.an x) i=x i:=by
 have h0:∀ i,i<n.B->n.root i≠i->n.lap (n.an x) i=x i:=fun i hi hr=>by
  have:=n.an_eq ok x hi
  rw [if_neg hr] at this
  rw [this]
  unfold Nw.inj0
  rw [if_neg hr]
 by_cases hr:n.root i=i
 rotate_left
 ·exact h0 i hi hr
 have h1:=Nw.off_clo (n:=n) (f:=n.fl (n.an x)) (D:=fun b=>n.root b=i) ok (Nw.clo_root i) fun k _ hg=>Nw.fl_out hg
 have h2:=hb i hi hr
 have h3:sumN n.B (fun b=>(if n.root b=i then n.off (n.fl (n.an x)) b else 0)-(if n.root b=i then x b else 0))=0:=by
  rw [AB5,h1,h2];grind
 have h4:sumN n.B (fun b=>(if n.root b=i then n.off (n.fl (n.an x)) b else 0)-(if n.root b=i then x b else 0))=sumN n.B fun b=>(n.lap (n.an x) i-x i)*dl i b:=A3 fun b hb=>by
  by_cases e:i=b
  ·subst e
   rw [if_pos hr,if_pos hr,AQ9]
   unfold Nw.lap;grind
  ·rw [AH5 e]
   by_cases h:n.root b=i
   ·rw [if_pos h,if_pos h]
    have:=h0 b hb (fun h'=>e (h.symm.trans h'))
    unfold Nw.lap at this
    rw [this];grind
   ·rw [if_neg h,if_neg h];grind
 have h5:=AM9 (n:=n.B) (a:=i) (fun _=>n.lap (n.an x) i-x i) hi
 have h6:=h4.symm.trans h3
 grind
theorem Nw.fl_an (ok:n.Ok) (x:Nat->Rat) {k:Nat} (hk:k<n.M):n.fl (n.an x) k=sumN n.B fun b=>n.hf k b*x b:=by
 unfold Nw.an
 rw [Nw.fl_lin]
 refine A3 fun b hb=>?_
 unfold Nw.inj0
 by_cases hr:n.root b=b
 ·rw [if_pos hr,Nw.hf_root ok hk hb hr];grind
 ·rw [if_neg hr];rfl
theorem Nw.bal_lab (x:Nat->Rat):n.bal x<->∀ j,j<n.B->sumN n.B (fun b=>if n.lab b=j then x b else 0)=0:=by
 have key:∀ r,r<n.B->n.root r=r->sumN n.B (fun b=>if n.lab b=n.lab r then x b else 0)=sumN n.B (fun b=>if n.root b=r then x b else 0):=fun r hr hrr=>A3 fun b hb=>by
  by_cases h:n.root b=r
  ·rw [if_pos h,if_pos ((Nw.lab_eq hb hr).2 (h.trans hrr.symm))]
  ·rw [if_neg h,if_neg fun h'=>h (((Nw.lab_eq hb hr).1 h').trans hrr)]
 constructor
 ·intro h j hj
  by_cases hex:∃ b,b<n.B/\n.lab b=j
  ·obtain ⟨b,hb,rfl⟩:=hex
   have hrb:n.root b<n.B:=Nat.lt_of_le_of_lt (Nw.root_le b) hb
   rw [n.lab_of b,key _ hrb (Nw.root_root b)]
   exact h _ hrb (Nw.root_root b)
  ·exact E2 fun b hb=>by rw [if_neg fun h=>hex ⟨b,hb,h⟩]
 ·intro h r hr hrr
  rw [<-key r hr hrr]
  exact h _ (Nat.lt_of_le_of_lt (n.lab_le r) hr)
theorem Nw.bal_congr {x y:Nat->Rat} (h:∀ b,b<n.B->x b=y b):n.bal x<->n.bal y:=by
 unfold Nw.bal
 have:∀ r,sumN n.B (fun b=>if n.root b=r then x b else 0)=sumN n.B (fun b=>if n.root b=r then y b else 0):=fun r=>A3 fun b hb=>by rw [h b hb]
 simp only [this]
def Nw.bl (n:Nw) (x:Nat->Rat) (b:Nat):Rat:=if n.root b=b then-sumN n.B (fun c=>if c≠b/\n.root c=b then x c else 0) else x b
end
theorem MB.new {t tq:TypeId} {S:Nat->Prop} {w w1 w2:World} {gb c b:Nat} {hs:List Nat} {M:List (List QV)} (h:MB t tq S w gb c hs M) (e:Ext w w1) (u:Upd w1 w2 b) (hb:w.heap.size<=b):MB t tq S w2 gb c hs M:=by
 have h1:=h.mono (S':=fun k=>S k/\k<w.heap.size) fun k hk hS=>⟨hS,hk⟩
 have hg:=h.out.lt
 have h2:=(h1.ext e).upd u (by omega) (fun hm=>by have:=h.lt hm;omega) fun hS=>by have:=hS.2;omega
 exact h2.mono fun k _ hS=>hS.1
theorem AG0 {B i j:Nat} {f:RM} {y:Rat} (hi:i<B):(tabM B B f).set i ((tab B (f i)).set j (qc y))=tabM B B (upE f i j y):=by
 rw [X4,U3 hi]
 rfl
end Go.Kx
namespace Go.Proofs.YtpgkacdihhjknaaGreat
open Go Go.Kx Go.RowKit
theorem AR7:Ent Tryz.prog 190:=A0 Tryz.func190 (by kernel_rfl) rfl
theorem AP4 {S:Nat->Prop} {w:World} {vn vl vr:Value} {n:NtV} {o:List Int} (up:Up S w) (hn:eN.R S w vn n) (hl:eI.R S w vl (pInts (inL n o))) (hr:eI.R S w vr (pInts (nwOf n o).refs)) (ok:nwOk n o) :
  CR Tryz.prog 190 #[vn,vl,vr] w (eM.at S (tabM (nwOf n o).B (nwOf n o).B (nwOf n o).gm)):=by
 obtain ⟨s,rfl,hs,_⟩:=hn
 have hB6:=ok.b6
 have hM10:n.ls.length<=10:=ok.m
 have hll:=Y4 n o
 have hnb:=ok.b
 refine enter Tryz.func190 O Tryz.ntmps190 O ?_
 refine .sr (.box O O fun w1 b3 n1=>.an O O ?_)
 obtain ⟨e1,k3,hb3,hs1⟩:=n1
 rw [hnb] at k3
 generalize hnw:nwOf n o=nw at *
 generalize hB:nw.B=B at *
 refine .sr (.fa I6 O O (.ld A8 O O k3 O (.fa I6 O O (.ld A8 O O k3 O ?_))))
 refine .call _ rfl Am7 O (Af9 (m:=[]) (L:=1) (up.ext e1.size) RL.nil (fun r hr=>by cases hr) (by decide) (by decide)) fun v2 w2 e2 h2=>.an O O ?_
 obtain ⟨gb,hs2,rfl,hgb,hge,hM⟩:=h2
 have hcB:cutN (B:Int)=B:=by unfold cutN;omega
 rw [hcB] at hM ⊢
 have hz:tabM B B (rm [])=tabM B B (nw.lmL []):=B5 fun i k _ _=>by unfold rm;rw [List.getD_nil,AN1];rfl
 rw [hz] at hM
 have x2:=e1.trans e2
 have hw1:=e1.size
 have hsW:∀ {W:World},Below w1.heap.size w2 W->eLs.R (fun k=>S k/\k<w.heap.size) W s n.ls:=fun h=>eLs.keep (fun k c t f hk hh=>(h.block k (by have:=hk.2;omega)).trans hh) (ER.ext eLs (ER.lt eLs hs) x2)
 have hlW:∀ {W:World},Below w1.heap.size w2 W->eI.R (fun k=>S k/\k<w.heap.size) W vl (pInts (inL n o)):=fun h=>eI.keep (fun k c t f hk hh=>(h.block k (by have:=hk.2;omega)).trans hh) (ER.ext eI (ER.lt eI hl) x2)
 have hrW:∀ {W:World},Below w1.heap.size w2 W->eI.R (fun k=>S k/\k<w.heap.size) W vr (pInts nw.refs):=fun h=>eI.keep (fun k c t f hk hh=>(h.block k (by have:=hk.2;omega)).trans hh) (ER.ext eI (ER.lt eI hr) x2)
 have k3:=k3.ext e2
 have hk3:∀ {W:World},Below w1.heap.size w2 W->Blk W b3 24 #[.int .i64 (B:Nat),s]:=fun h=>(h.block b3 (by omega)).trans k3
 have hhl:hs2.length=B:=by rw [hM.len,A4]
 have hhg:∀ i,i<B->hs2[i]?=some (hs2.getD i 0):=fun i hi=>A9 (by omega)
 have hhm:∀ i,i<B->w1.heap.size<=hs2.getD i 0:=fun i hi=>hge _ (E5 (by omega))
 have hw2:=e2.size
 refine .mid (α:=Unit) (fun _=>[(2,vr),(3,.pointer (some ⟨b3,0,none⟩)),(7,.slice (some ⟨gb,0,none⟩) B B)]) (fun _ W=>Below w1.heap.size w2 W/\MB 26 39 S W gb B hs2 (tabM B B (nw.lmL (inL n o)))) ?_ ?_
 ·refine .sr (.mv O O (.lenR un_I O O (hlW (Below.refl _ _)) (.mv O O (.nil ?_))))
  rw [show (pInts (inL n o)).length=(inL n o).length by simp]
  refine .block (.loop (α:=Nat) (fun i=>[(2,vr),(3,.pointer (some ⟨b3,0,none⟩)),(7,.slice (some ⟨gb,0,none⟩) B B),(21,vl),(22,.int .i64 ((inL n o).length:Nat)),(23,.int .i64 (i:Nat))]) (fun i W=>Below w1.heap.size w2 W/\i<=(inL n o).length/\MB 26 39 S W gb B hs2 (tabM B B (nw.lmL ((inL n o).take i)))) (fun i=>(inL n o).length-i) 0 ?_ ?_ ?_)
  ·exact lkA rfl
  ·exact ⟨Below.refl _ _,Nat.zero_le _,hM⟩
  rintro i W ⟨hW,hi,hM⟩
  have hhk:∀ j,j<B->hs2.getD j 0<W.heap.size:=fun j hj=>hM.lt (E5 (by omega))
  refine .sr ?_
  rcases Nat.lt_or_ge i (inL n o).length with hlt | hge'
  rotate_left
  ·refine .lssF O O O (by omega) (.nil (.seq (.condF O (.exit ?_))))
   have:i=(inL n o).length:=by omega
   subst this
   rw [List.take_of_length_le (Nat.le_refl _)] at hM
   exact ⟨rfl,(),lkA rfl,hW,hM⟩
  obtain ⟨hgk,hkM,hko⟩:=AJ2 hlt
  refine .lssT O O O (by omega) (.nil (.seq (.condT O (.skip (.seq (.block (.sr (.ixN (i:=i) un_I B0 O O (hlW hW) O hgk fun q hq=>.ldE (E:=eInt .i64) B0 O O hq fun e he=>.an O O ?_))))))))
  obtain ⟨rfl,_⟩:=he
  have htk:(inL n o).take (i+1)=(inL n o).take i++[(inL n o).getD i 0]:=by rw [List.take_add_one,A9 (z:=0) hlt];rfl
  have hgl:n.ls[(inL n o).getD i 0]?=some (n.ls.getD ((inL n o).getD i 0) ln0):=A9 hkM
  have hkM':(inL n o).getD i 0<(nwOf n o).M:=hkM
  have hFI:=ok.fI _ hkM'
  have hTI:=ok.tI _ hkM'
  have hFB:=ok.f _ hkM'
  have hTB:=ok.t _ hkM'
  have hne:=ok.ne _ hkM'
  have hx:=ok.x _ hkM'
  have hgs:=ok.gsz ((inL n o).getD i 0)
  have hgv:(nwOf n o).g ((inL n o).getD i 0)=Rat.divInt 1 (n.ls.getD ((inL n o).getD i 0) ln0).x:=by
   show (if (inL n o).getD i 0∈oN o then (0:Rat) else ((n.ls.getD ((inL n o).getD i 0) ln0).x:Rat)⁻¹)=_
   rw [if_neg hko,Rat.divInt_eq_div,Rat.div_def,show ((1:Int):Rat)=1 from rfl,Rat.one_mul]
  rw [hnw] at hFI hTI hFB hTB hne hgs hgv
  rw [hB] at hFB hTB
  have hfs:∀ b c,Rsz (nw.lmL ((inL n o).take i) b c) 30:=fun b c=>(nw.lmL_rsz (Nat.le_refl _) (fun k=>by rw [<-hnw];exact ok.gsz k) b c _).mono (by rw [List.length_take];omega)
  generalize hk:(inL n o).getD i 0=k at *
  generalize hf:nw.lmL ((inL n o).take i)=f at *
  generalize hln:n.ls.getD k ln0=ln at *
  refine .sr (.fa K9 O O (.ld R7 O O (hk3 hW) O (.mv O O (.ixN (i:=k) M4 P0 O O (hsW hW) O hgl fun q hq=>.ldE (E:=eL) P0 O O hq fun vl' hvl=>.alloc O Aj6 fun W1 b10 n1'=>?_))))
  obtain ⟨f1,k10,hb10,hs1'⟩:=n1'
  refine .storeA (E:=eL) (S:=fun k=>k≠b10) (z:=ln) P0 O O k10 O O hvl (fun h=>h O) fun W2 k10 u2 hl2=>.nil ?_
  obtain ⟨rfl,_⟩:=hl2
  rw [hFI,hTI] at k10
  replace k10:Blk W2 b10 53 #[.int .i64 (nw.F k:Nat),.int .i64 (nw.T k:Nat),.int .i64 ln.x,.int .i64 ln.c]:=k10
  have hWs:=hW.size
  have hM:=hM.new f1 u2 (by omega)
  have hs2':=u2.size
  have hW2:Below w1.heap.size w2 W2:=u2.below (hW.trans (f1.mono (by omega))) (by omega)
  have upT:∀ {W':World},W2.heap.size<=W'.heap.size->Up (offM S gb hs2) W':=fun h k' hk'=>⟨up k' (by omega),by have:=hM.out.lt;omega,fun hm=>by have:=hM.lt hm;omega⟩
  refine .sr (.fa AJ7 O O (.ld Z6 O O k10 O ?_))
  refine .call _ O Af0 O (Ac6 (upT (Nat.le_refl _)) (by decide) (by decide) (by omega) (by omega) (by omega)) fun v3 W3 e3 h3=>?_
  obtain ⟨vp,ve,rfl,hp,rfl⟩:=h3
  rw [<-hgv] at hp
  refine .mv O O (.ext O O O (.ext O O O (.alloc O C5 fun W4 b11 n4=>?_)))
  obtain ⟨e4,k11,hb11,hs4⟩:=n4
  have hs3:=e3.size
  refine .storeA (E:=eQ) (S:=fun k=>offM S gb hs2 k/\k<W3.heap.size) ty_Q O O k11 O O (ER.ext eQ (ER.lt eQ hp) e4) (fun h=>by have:=h.2;omega) fun W5 k11 u5 hp5=>.an O O ?_
  have hp5:eQ.R (offM S gb hs2) W5 vp (qc (nw.g k)):=eQ.mono (fun _ _ h=>h.1) hp5
  have hvp:=shpA (E:=eQ) O hp5
  have hM:=hM.new (e3.trans e4) u5 (by omega)
  have hs5:=u5.size
  have hW5:Below w1.heap.size w2 W5:=u5.below (hW2.trans ((e3.trans e4).mono (by omega))) (by omega)
  have k10:=(k10.ext (e3.trans e4)).upd u5 (show b10≠b11 by omega)
  have hrow0:=hM.row (nw.F k) _ _ (hhg _ hFB) (D9 hFB)
  refine .seq ?_
  refine .par follows 18 [.inl (.slice (some ⟨gb,0,none⟩) B B),.inl (.pointer (some ⟨b10,0,none⟩)),.inl (.int .i64 (nw.F k:Nat)),.inl (.pointer (some ⟨gb,0+(nw.F k)*1,none⟩)),.inl (slB B (hs2.getD (nw.F k) 0)),.inl (.pointer (some ⟨b10,0,none⟩)),.inl (.int .i64 (nw.F k:Nat)),.inl (.slice (some ⟨gb,0,none⟩) B B),.inl (.pointer (some ⟨b10,0,none⟩)),.inl (.int .i64 (nw.F k:Nat)),.inl (.pointer (some ⟨gb,0+(nw.F k)*1,none⟩)),.inl (slB B (hs2.getD (nw.F k) 0)),.inl (.pointer (some ⟨b10,0,none⟩)),.inl (.int .i64 (nw.F k:Nat)),.inl (.pointer (some ⟨hs2.getD (nw.F k) 0,0+(nw.F k)*4,none⟩)),.inr (eQ.at (offM S gb hs2) (qc (f (nw.F k) (nw.F k)))),.inl vp,.inr (eQ.at (offM S gb hs2) (qc (f (nw.F k) (nw.F k)+nw.g k)))]
   [[],[],[(39,1)],[(38,0),(40,2)],[(41,3)],[],[(43,5)],[],[],[(46,8)],[(45,7),(47,9)],[(48,10)],[],[(50,12)],[(49,11),(51,13)],[(52,14)],[],[(53,15),(54,16)]] (by kernel_rfl) ⟨
   fun w e=>(v_mv O).ob,fun w e=>(v_fa J6 O).ob,fun w e=>(v_ld A8 O (k10.ext e) O).ob,fun w e=>(E3 (i:=nw.F k) un_M ty_V O O hFB).ob,fun w e=>(v_ld ty_V O (hM.out.ext e) (hM.cell (hhg _ hFB))).ob,fun w e=>(v_fa J6 O).ob,fun w e=>(v_ld A8 O (k10.ext e) O).ob,
   fun w e=>(v_mv O).ob,fun w e=>(v_fa J6 O).ob,fun w e=>(v_ld A8 O (k10.ext e) O).ob,fun w e=>(E3 (i:=nw.F k) un_M ty_V O O hFB).ob,fun w e=>(v_ld ty_V O (hM.out.ext e) (hM.cell (hhg _ hFB))).ob,fun w e=>(v_fa J6 O).ob,fun w e=>(v_ld A8 O (k10.ext e) O).ob,
   fun w e=>(E3 (i:=nw.F k) un_V ty_Q O O hFB).ob,
   fun w e=>(Z9 (E:=eQ) (i:=nw.F k) (by decide) ty_Q O (Nat.zero_add _) (hrow0.2.ext e) (by rw [F5 hFB])).mono fun v' w' h=>⟨h.1,fun w'' e'=>eQ.mono (fun _ _ h=>h.1) (h.2 w'' e')⟩,
   fun w e=>((B9 ty_Q O (k11.ext e) (eQ.csz hp5)).eq hvp.symm).ob,
   fun w e x hx=>by
    have:=U6 (L:=30) (upT (by have:=e.size;omega)) hx (ER.ext eQ hp5 e) (hfs _ _).toOk (hgs.mono (by decide)).toOk (by decide) (by decide)
    rw [B4,B4] at this
    exact (A2 _ V5 O this).ob (A6 _ _ _),trivial⟩ ?_
  intro X0 g0 _ _ y0 hy0
  refine .ixB (i:=nw.F k) un_V ty_Q O O O hFB (.storeF (E:=eQ) (i:=nw.F k) (by decide) ty_Q O O (hrow0.2.ext g0) O (by rw [A1];exact hFB) (Nat.zero_add _) (eQ.mono (fun k' _ h=>⟨h,fun e=>h.2.2 (e▸E5 (by omega))⟩) hy0) fun Y0 fy0 uy0=>.nil ?_)
  have hM:=(hM.ext g0).set (hhg _ hFB) (by rw [List.length_set,A1]) uy0 fy0
  rw [AG0 hFB] at hM
  have sx0:=g0.size
  have sy0:=uy0.size
  have lw0:=hhm _ hFB
  have lk0:=hhk _ hFB
  have hW5:Below w1.heap.size w2 Y0:=uy0.below (hW5.trans (g0.mono (by omega))) lw0
  have k10:=(k10.ext g0).upd uy0 (by omega)
  have k11:=(k11.ext g0).upd uy0 (by omega)
  have hp5:=(ER.ext eQ hp5 g0).upd uy0 (fun h=>h.2.2 (E5 (by omega)))
  have hrow1:=hM.row (nw.F k) _ _ (hhg _ hFB) (D9 hFB)
  refine .seq ?_
  refine .par follows 18 [.inl (.slice (some ⟨gb,0,none⟩) B B),.inl (.pointer (some ⟨b10,0,none⟩)),.inl (.int .i64 (nw.F k:Nat)),.inl (.pointer (some ⟨gb,0+(nw.F k)*1,none⟩)),.inl (slB B (hs2.getD (nw.F k) 0)),.inl (.pointer (some ⟨b10,1,none⟩)),.inl (.int .i64 (nw.T k:Nat)),.inl (.slice (some ⟨gb,0,none⟩) B B),.inl (.pointer (some ⟨b10,0,none⟩)),.inl (.int .i64 (nw.F k:Nat)),.inl (.pointer (some ⟨gb,0+(nw.F k)*1,none⟩)),.inl (slB B (hs2.getD (nw.F k) 0)),.inl (.pointer (some ⟨b10,1,none⟩)),.inl (.int .i64 (nw.T k:Nat)),.inl (.pointer (some ⟨hs2.getD (nw.F k) 0,0+(nw.T k)*4,none⟩)),.inr (eQ.at (offM S gb hs2) (qc (f (nw.F k) (nw.T k)))),.inl vp,.inr (eQ.at (offM S gb hs2) (qc (f (nw.F k) (nw.T k)-nw.g k)))]
   [[],[],[(58,1)],[(57,0),(59,2)],[(60,3)],[],[(62,5)],[],[],[(65,8)],[(64,7),(66,9)],[(67,10)],[],[(69,12)],[(68,11),(70,13)],[(71,14)],[],[(72,15),(73,16)]] (by kernel_rfl) ⟨
   fun w e=>(v_mv O).ob,fun w e=>(v_fa J6 O).ob,fun w e=>(v_ld A8 O (k10.ext e) O).ob,fun w e=>(E3 (i:=nw.F k) un_M ty_V O O hFB).ob,fun w e=>(v_ld ty_V O (hM.out.ext e) (hM.cell (hhg _ hFB))).ob,fun w e=>(v_fa J5 O).ob,fun w e=>(v_ld A8 O (k10.ext e) O).ob,
   fun w e=>(v_mv O).ob,fun w e=>(v_fa J6 O).ob,fun w e=>(v_ld A8 O (k10.ext e) O).ob,fun w e=>(E3 (i:=nw.F k) un_M ty_V O O hFB).ob,fun w e=>(v_ld ty_V O (hM.out.ext e) (hM.cell (hhg _ hFB))).ob,fun w e=>(v_fa J5 O).ob,fun w e=>(v_ld A8 O (k10.ext e) O).ob,
   fun w e=>(E3 (i:=nw.T k) un_V ty_Q O O hTB).ob,
   fun w e=>(Z9 (E:=eQ) (i:=nw.T k) (by decide) ty_Q O (Nat.zero_add _) (hrow1.2.ext e) (by rw [F5 hTB,AT0 (.inr (Ne.symm hne))])).mono fun v' w' h=>⟨h.1,fun w'' e'=>eQ.mono (fun _ _ h=>h.1) (h.2 w'' e')⟩,
   fun w e=>((B9 ty_Q O (k11.ext e) (eQ.csz hp5)).eq hvp.symm).ob,
   fun w e x hx=>by
    have:=U5 (L:=30) (upT (by have:=e.size;omega)) hx (ER.ext eQ hp5 e) (hfs _ _).toOk (hgs.mono (by decide)).toOk (by decide) (by decide)
    rw [B4,B4] at this
    exact (A2 _ Q4 O this).ob (A6 _ _ _),trivial⟩ ?_
  intro X1 g1 _ _ y1 hy1
  refine .ixB (i:=nw.T k) un_V ty_Q O O O hTB (.storeF (E:=eQ) (i:=nw.T k) (by decide) ty_Q O O (hrow1.2.ext g1) O (by rw [A1];exact hTB) (Nat.zero_add _) (eQ.mono (fun k' _ h=>⟨h,fun e=>h.2.2 (e▸E5 (by omega))⟩) hy1) fun Y1 fy1 uy1=>.nil ?_)
  have hM:=(hM.ext g1).set (hhg _ hFB) (by rw [List.length_set,A1]) uy1 fy1
  rw [AG0 hFB] at hM
  have sx1:=g1.size
  have sy1:=uy1.size
  have lw1:=hhm _ hFB
  have lk1:=hhk _ hFB
  have hW5:Below w1.heap.size w2 Y1:=uy1.below (hW5.trans (g1.mono (by omega))) lw1
  have k10:=(k10.ext g1).upd uy1 (by omega)
  have k11:=(k11.ext g1).upd uy1 (by omega)
  have hp5:=(ER.ext eQ hp5 g1).upd uy1 (fun h=>h.2.2 (E5 (by omega)))
  have hrow2:=hM.row (nw.T k) _ _ (hhg _ hTB) (D9 hTB)
  refine .seq ?_
  refine .par follows 18 [.inl (.slice (some ⟨gb,0,none⟩) B B),.inl (.pointer (some ⟨b10,1,none⟩)),.inl (.int .i64 (nw.T k:Nat)),.inl (.pointer (some ⟨gb,0+(nw.T k)*1,none⟩)),.inl (slB B (hs2.getD (nw.T k) 0)),.inl (.pointer (some ⟨b10,1,none⟩)),.inl (.int .i64 (nw.T k:Nat)),.inl (.slice (some ⟨gb,0,none⟩) B B),.inl (.pointer (some ⟨b10,1,none⟩)),.inl (.int .i64 (nw.T k:Nat)),.inl (.pointer (some ⟨gb,0+(nw.T k)*1,none⟩)),.inl (slB B (hs2.getD (nw.T k) 0)),.inl (.pointer (some ⟨b10,1,none⟩)),.inl (.int .i64 (nw.T k:Nat)),.inl (.pointer (some ⟨hs2.getD (nw.T k) 0,0+(nw.T k)*4,none⟩)),.inr (eQ.at (offM S gb hs2) (qc (f (nw.T k) (nw.T k)))),.inl vp,.inr (eQ.at (offM S gb hs2) (qc (f (nw.T k) (nw.T k)+nw.g k)))]
   [[],[],[(77,1)],[(76,0),(78,2)],[(79,3)],[],[(81,5)],[],[],[(84,8)],[(83,7),(85,9)],[(86,10)],[],[(88,12)],[(87,11),(89,13)],[(90,14)],[],[(91,15),(92,16)]] (by kernel_rfl) ⟨
   fun w e=>(v_mv O).ob,fun w e=>(v_fa J5 O).ob,fun w e=>(v_ld A8 O (k10.ext e) O).ob,fun w e=>(E3 (i:=nw.T k) un_M ty_V O O hTB).ob,fun w e=>(v_ld ty_V O (hM.out.ext e) (hM.cell (hhg _ hTB))).ob,fun w e=>(v_fa J5 O).ob,fun w e=>(v_ld A8 O (k10.ext e) O).ob,
   fun w e=>(v_mv O).ob,fun w e=>(v_fa J5 O).ob,fun w e=>(v_ld A8 O (k10.ext e) O).ob,fun w e=>(E3 (i:=nw.T k) un_M ty_V O O hTB).ob,fun w e=>(v_ld ty_V O (hM.out.ext e) (hM.cell (hhg _ hTB))).ob,fun w e=>(v_fa J5 O).ob,fun w e=>(v_ld A8 O (k10.ext e) O).ob,
   fun w e=>(E3 (i:=nw.T k) un_V ty_Q O O hTB).ob,
   fun w e=>(Z9 (E:=eQ) (i:=nw.T k) (by decide) ty_Q O (Nat.zero_add _) (hrow2.2.ext e) (by rw [F5 hTB,AT0 (.inl (Ne.symm hne)),AT0 (.inl (Ne.symm hne))])).mono fun v' w' h=>⟨h.1,fun w'' e'=>eQ.mono (fun _ _ h=>h.1) (h.2 w'' e')⟩,
   fun w e=>((B9 ty_Q O (k11.ext e) (eQ.csz hp5)).eq hvp.symm).ob,
   fun w e x hx=>by
    have:=U6 (L:=30) (upT (by have:=e.size;omega)) hx (ER.ext eQ hp5 e) (hfs _ _).toOk (hgs.mono (by decide)).toOk (by decide) (by decide)
    rw [B4,B4] at this
    exact (A2 _ V5 O this).ob (A6 _ _ _),trivial⟩ ?_
  intro X2 g2 _ _ y2 hy2
  refine .ixB (i:=nw.T k) un_V ty_Q O O O hTB (.storeF (E:=eQ) (i:=nw.T k) (by decide) ty_Q O O (hrow2.2.ext g2) O (by rw [A1];exact hTB) (Nat.zero_add _) (eQ.mono (fun k' _ h=>⟨h,fun e=>h.2.2 (e▸E5 (by omega))⟩) hy2) fun Y2 fy2 uy2=>.nil ?_)
  have hM:=(hM.ext g2).set (hhg _ hTB) (by rw [List.length_set,A1]) uy2 fy2
  rw [AG0 hTB] at hM
  have sx2:=g2.size
  have sy2:=uy2.size
  have lw2:=hhm _ hTB
  have lk2:=hhk _ hTB
  have hW5:Below w1.heap.size w2 Y2:=uy2.below (hW5.trans (g2.mono (by omega))) lw2
  have k10:=(k10.ext g2).upd uy2 (by omega)
  have k11:=(k11.ext g2).upd uy2 (by omega)
  have hp5:=(ER.ext eQ hp5 g2).upd uy2 (fun h=>h.2.2 (E5 (by omega)))
  have hrow3:=hM.row (nw.T k) _ _ (hhg _ hTB) (D9 hTB)
  refine .par follows 18 [.inl (.slice (some ⟨gb,0,none⟩) B B),.inl (.pointer (some ⟨b10,1,none⟩)),.inl (.int .i64 (nw.T k:Nat)),.inl (.pointer (some ⟨gb,0+(nw.T k)*1,none⟩)),.inl (slB B (hs2.getD (nw.T k) 0)),.inl (.pointer (some ⟨b10,0,none⟩)),.inl (.int .i64 (nw.F k:Nat)),.inl (.slice (some ⟨gb,0,none⟩) B B),.inl (.pointer (some ⟨b10,1,none⟩)),.inl (.int .i64 (nw.T k:Nat)),.inl (.pointer (some ⟨gb,0+(nw.T k)*1,none⟩)),.inl (slB B (hs2.getD (nw.T k) 0)),.inl (.pointer (some ⟨b10,0,none⟩)),.inl (.int .i64 (nw.F k:Nat)),.inl (.pointer (some ⟨hs2.getD (nw.T k) 0,0+(nw.F k)*4,none⟩)),.inr (eQ.at (offM S gb hs2) (qc (f (nw.T k) (nw.F k)))),.inl vp,.inr (eQ.at (offM S gb hs2) (qc (f (nw.T k) (nw.F k)-nw.g k)))]
   [[],[],[(96,1)],[(95,0),(97,2)],[(98,3)],[],[(100,5)],[],[],[(103,8)],[(102,7),(104,9)],[(105,10)],[],[(107,12)],[(106,11),(108,13)],[(109,14)],[],[(110,15),(111,16)]] (by kernel_rfl) ⟨
   fun w e=>(v_mv O).ob,fun w e=>(v_fa J5 O).ob,fun w e=>(v_ld A8 O (k10.ext e) O).ob,fun w e=>(E3 (i:=nw.T k) un_M ty_V O O hTB).ob,fun w e=>(v_ld ty_V O (hM.out.ext e) (hM.cell (hhg _ hTB))).ob,fun w e=>(v_fa J6 O).ob,fun w e=>(v_ld A8 O (k10.ext e) O).ob,
   fun w e=>(v_mv O).ob,fun w e=>(v_fa J5 O).ob,fun w e=>(v_ld A8 O (k10.ext e) O).ob,fun w e=>(E3 (i:=nw.T k) un_M ty_V O O hTB).ob,fun w e=>(v_ld ty_V O (hM.out.ext e) (hM.cell (hhg _ hTB))).ob,fun w e=>(v_fa J6 O).ob,fun w e=>(v_ld A8 O (k10.ext e) O).ob,
   fun w e=>(E3 (i:=nw.F k) un_V ty_Q O O hFB).ob,
   fun w e=>(Z9 (E:=eQ) (i:=nw.F k) (by decide) ty_Q O (Nat.zero_add _) (hrow3.2.ext e) (by rw [F5 hFB,AT0 (.inr hne),AT0 (.inl (Ne.symm hne)),AT0 (.inl (Ne.symm hne))])).mono fun v' w' h=>⟨h.1,fun w'' e'=>eQ.mono (fun _ _ h=>h.1) (h.2 w'' e')⟩,
   fun w e=>((B9 ty_Q O (k11.ext e) (eQ.csz hp5)).eq hvp.symm).ob,
   fun w e x hx=>by
    have:=U5 (L:=30) (upT (by have:=e.size;omega)) hx (ER.ext eQ hp5 e) (hfs _ _).toOk (hgs.mono (by decide)).toOk (by decide) (by decide)
    rw [B4,B4] at this
    exact (A2 _ Q4 O this).ob (A6 _ _ _),trivial⟩ ?_
  intro X3 g3 _ _ y3 hy3
  refine .ixB (i:=nw.F k) un_V ty_Q O O O hFB (.storeF (E:=eQ) (i:=nw.F k) (by decide) ty_Q O O (hrow3.2.ext g3) O (by rw [A1];exact hFB) (Nat.zero_add _) (eQ.mono (fun k' _ h=>⟨h,fun e=>h.2.2 (e▸E5 (by omega))⟩) hy3) fun Y3 fy3 uy3=>.nil ?_)
  have hM:=(hM.ext g3).set (hhg _ hTB) (by rw [List.length_set,A1]) uy3 fy3
  rw [AG0 hTB] at hM
  have sx3:=g3.size
  have sy3:=uy3.size
  have lw3:=hhm _ hTB
  have lk3:=hhk _ hTB
  have hW5:Below w1.heap.size w2 Y3:=uy3.below (hW5.trans (g3.mono (by omega))) lw3
  have k10:=(k10.ext g3).upd uy3 (by omega)
  have k11:=(k11.ext g3).upd uy3 (by omega)
  have hp5:=(ER.ext eQ hp5 g3).upd uy3 (fun h=>h.2.2 (E5 (by omega)))
  have hfin:tabM B B (upE (upE (upE (upE f (nw.F k) (nw.F k) (f (nw.F k) (nw.F k)+nw.g k)) (nw.F k) (nw.T k) (f (nw.F k) (nw.T k)-nw.g k)) (nw.T k) (nw.T k) (f (nw.T k) (nw.T k)+nw.g k)) (nw.T k) (nw.F k) (f (nw.T k) (nw.F k)-nw.g k))=tabM B B (nw.lmL ((inL n o).take (i+1))):=B5 fun b c _ _=>by
   rw [htk,Nw.lmL_snoc,hf]
   exact nw.four hne f b c
  rw [hfin] at hM
  refine .region (.add O O O (.mv O O (.nil ?_)))
  rw [wI (by omega)]
  exact ⟨rfl,i+1,lkA rfl,⟨hW5,hlt,hM⟩,by show (inL n o).length-(i+1)<(inL n o).length-i;omega⟩
 rintro _ W ⟨hW,hM⟩
 have hMs:FB eV 26 S W gb _:=hM.toFB (fun k hk=>up k (by have:=hge k hk;omega)) (by omega)
 have hWs:=hW.size
 have hgl:=hMs.lt
 refine .sr (.fa I6 O O (.ld A8 O O (hk3 hW) O ?_))
 refine .call _ O Ae9 O (Ab7 (S:=fun k=>S k/\k≠gb) fun k hk=>⟨up k (by omega),by omega⟩) fun vu W1 f1 hu=>.an O O ?_
 rw [hcB] at hu
 have hW1:=hW.trans (f1.mono (by omega))
 have hf1:=f1.size
 generalize hF:(fun i=>fun b c=>if b∈nw.refs.take i then dl b c else nw.lmL (inL n o) b c:Nat->RM)=F
 have hF0:tabM B B (nw.lmL (inL n o))=tabM B B (F 0):=B5 fun b c _ _=>by rw [<-hF];simp
 rw [hF0] at hMs
 refine .seq (.sr (.mv O O (.lenR un_I O O (hrW hW1) (.mv O O (.nil ?_)))))
 rw [show (pInts nw.refs).length=nw.refs.length by simp]
 have hrl:nw.refs.length<=B:=by rw [<-hB];exact nw.cnt_le nw.B
 refine .block (.loop (α:=Nat) (fun i=>[(7,.slice (some ⟨gb,0,none⟩) B B),(13,vu),(118,vr),(119,.int .i64 (nw.refs.length:Nat)),(120,.int .i64 (i:Nat))]) (fun i W=>Below w1.heap.size w2 W/\i<=nw.refs.length/\eM.R (fun k=>S k/\k≠gb) W vu (tabM B B idn)/\FB eV 26 S W gb (tabM B B (F i))) (fun i=>nw.refs.length-i) 0 ?_ ?_ ?_)
 ·exact lkA rfl
 ·exact ⟨hW1,Nat.zero_le _,hu,hMs.ext f1⟩
 rintro i W ⟨hW,hi,hu,hMs⟩
 refine .sr ?_
 rcases Nat.lt_or_ge i nw.refs.length with hlt | hge'
 rotate_left
 ·refine .lssF O O O (by omega) (.nil (.seq (.condF O (.exit (.sr (.mv O O (.an O O (.ret ?_))))))))
  have:i=nw.refs.length:=by omega
  subst this
  refine .plain [_] Tryz.results190 ⟨rfl,trivial⟩ ⟨Below.trans x2 (hW.mono (by omega)),?_⟩
  have hfin:tabM B B (F nw.refs.length)=tabM B B nw.gm:=B5 fun b c hb _=>by
   rw [<-hF]
   dsimp only
   rw [List.take_of_length_le (Nat.le_refl _)]
   unfold Nw.gm
   by_cases hr:nw.root b=b
   ·rw [if_pos hr,if_pos (Nw.mem_refs.2 ⟨by omega,hr⟩)]
   ·rw [if_neg hr,if_neg fun h=>hr (Nw.mem_refs.1 h).2]
    unfold Nw.Lm
    rw [<-hnw]
    exact Nw.lmL_free (p:=oN o) b c _ fun k hk=>ok.g0 hk
  rw [hfin] at hMs
  have:=hMs.toR (hsz:=by decide) (c:=B) (up gb (by omega)) (by rw [A4];exact Nat.le_refl _) (by rw [A4];omega)
  rw [A4] at this
  exact this
 have hgr:(pInts nw.refs)[i]?=some ((nw.refs.getD i 0:Nat):Int):=by rw [List.getElem?_map,A9 (z:=0) hlt];rfl
 have hrB:nw.refs.getD i 0<B:=by rw [<-hB];exact (Nw.mem_refs.1 (E5 hlt)).1
 refine .lssT O O O (by omega) (.nil (.seq (.condT O (.skip (.seq (.block (.sr (.ixN (i:=i) un_I B0 O O (hrW hW) O hgr fun q hq=>.ldE (E:=eInt .i64) B0 O O hq fun e he=>.an O O ?_))))))))
 obtain ⟨rfl,_⟩:=he
 refine .region (.mv O O (.mv O O (.mv O O (.mv O O (.ixN (i:=nw.refs.getD i 0) un_M ty_V O O hu O (D9 hrB) fun q hq=>.ldE (E:=eV) ty_V O O hq fun vw hvw=>.ixB (i:=nw.refs.getD i 0) un_M ty_V O O O hrB ?_)))))
 refine .storeF (E:=eV) (i:=nw.refs.getD i 0) (by decide) ty_V O O hMs O (by rw [A4];exact hrB) (Nat.zero_add _) hvw fun W2 f2 u2=>.nil ?_
 rw [U3 hrB] at f2
 have hstep:tabM B B (fun j k=>if j=nw.refs.getD i 0 then idn (nw.refs.getD i 0) k else F i j k)=tabM B B (F (i+1)):=B5 fun b c _ _=>by
  rw [<-hF]
  dsimp only
  rw [show nw.refs.take (i+1)=nw.refs.take i++[nw.refs.getD i 0] by rw [List.take_add_one,A9 (z:=0) hlt];rfl]
  by_cases e:b=nw.refs.getD i 0
  ·rw [if_pos e,if_pos (by rw [e];simp),e];rfl
  ·rw [if_neg e]
   by_cases h:b∈nw.refs.take i
   ·rw [if_pos h,if_pos (List.mem_append.2 (.inl h))]
   ·rw [if_neg h,if_neg fun h'=>by
     rcases List.mem_append.1 h' with h' | h'
     ·exact h h'
     ·exact e (List.mem_singleton.1 h')]
 rw [hstep] at f2
 refine .region (.add O O O (.mv O O (.nil ?_)))
 rw [wI (by omega)]
 exact ⟨rfl,i+1,lkA rfl,⟨u2.below hW hgb,hlt,ER.upd eM hu u2 (fun h=>h.2 O),f2⟩,by show nw.refs.length-(i+1)<nw.refs.length-i;omega⟩
end Go.Proofs.YtpgkacdihhjknaaGreat
namespace Go.Kx
open Go Go.RowKit
theorem FB.new {α:Type} {E:ER α} {t:TypeId} {S:Nat->Prop} {w w1 w2:World} {g b:Nat} {l:List α} (h:FB E t S w g l) (e:Ext w w1) (u:Upd w1 w2 b) (hb:w.heap.size<=b):FB E t S w2 g l:=by
 have h1:=h.mono (S':=fun k=>S k/\k<w.heap.size) fun k hk hS=>⟨hS,hk⟩
 have hg:=h.lt
 have h2:=(h1.ext e).upd u (by omega) fun hS=>by have:=hS.2;omega
 exact h2.mono fun k _ hS=>hS.1
theorem AP0 (n:Nat):tab n (fun _=>0)=List.replicate n q0:=by
 unfold tab
 simp [Q9,List.map_const']
end Go.Kx
namespace Go.Proofs.YtpgkacdihhjknaaGreat
open Go Go.Kx Go.RowKit
theorem g_on {n:NtV} {o:List Int} {k:Nat} (hko:k∉oN o):(nwOf n o).g k=((n.ls.getD k ln0).x:Rat)⁻¹:=by
 show (if k∈oN o then (0:Rat) else ((n.ls.getD k ln0).x:Rat)⁻¹)=_
 rw [if_neg hko]
theorem BA3 {n:NtV} {o:List Int} {k:Nat}:k∈inL n o<->k<n.ls.length/\k∉oN o:=by
 unfold inL freeTo
 rw [List.mem_filter,List.mem_range]
 simp
theorem BN7 {n:NtV} {o:List Int} (ok:nwOk n o) (θ:Nat->Rat):tab n.ls.length (fun k=>if k∈inL n o then (nwOf n o).fl θ k else 0)=tab n.ls.length ((nwOf n o).fl θ):=E0 fun k hk=>by
 by_cases h:k∈inL n o
 ·rw [if_pos h]
 ·rw [if_neg h,Nw.fl_out ((ok.g0 hk).2 (Classical.byContradiction fun h'=>h (BA3.2 ⟨hk,h'⟩)))]
theorem Ao5 {l:List Nat} {M i:Nat} {f:Nat->Rat} (hi:i<l.length):(tab M fun k=>if k∈l.take i then f k else 0).set (l.getD i 0) (qc (f (l.getD i 0)))=tab M fun k=>if k∈l.take (i+1) then f k else 0:=by
 rw [X4]
 refine E0 fun k _=>?_
 rw [show l.take (i+1)=l.take i++[l.getD i 0] by rw [List.take_add_one,A9 (z:=0) hi];rfl]
 by_cases e:k=l.getD i 0
 ·rw [if_pos e,if_pos (by rw [e];simp),e]
 ·rw [if_neg e]
  by_cases h:k∈l.take i
  ·rw [if_pos h,if_pos (List.mem_append.2 (.inl h))]
  ·rw [if_neg h,if_neg fun h'=>by
    rcases List.mem_append.1 h' with h' | h'
    ·exact h h'
    ·exact e (List.mem_singleton.1 h')]
theorem E_col:Ent Tryz.prog 191:=A0 Tryz.func191 (by kernel_rfl) rfl
theorem col_t {S T0:Nat->Prop} {w:World} {s vl vi x:Value} {n:NtV} {o:List Int} {m:List (List QV)} {L b b2 b6 b9:Nat} (up:Up S w) (upo:Up T0 w) (ok:nwOk n o) (k2:Blk w b2 24 #[x,s]) (hs:eLs.R S w s n.ls) (k6:Blk w b6 25 #[vl]) (hl:eI.R S w vl (pInts (inL n o)))
  (k9:Blk w b9 70 #[vi]) (hi:eM.R S w vi m) (hk:mk_ L m) (hL:1<=L) (hL2:L<=1000000000) :
  CR Tryz.prog 191 #[.int .i64 (b:Nat),.pointer (some ⟨b2,0,none⟩),.pointer (some ⟨b6,0,none⟩),.pointer (some ⟨b9,0,none⟩)] w (eV.at T0 (tab n.ls.length ((nwOf n o).fl fun c=>rm m c b))):=by
 have hM10:n.ls.length<=10:=ok.m
 have hll:=Y4 n o
 generalize hθ:(fun c=>rm m c b)=θ
 refine enter Tryz.func191 O Tryz.ntmps191 O ?_
 refine .sr (.an O O (.sr (.fa K9 O O (.ld R7 O O k2 O (.lenR M4 O O hs ?_)))))
 refine .make_ _ _ un_V K7 O (by decide) O O O (Nat.le_refl _) (by omega) (by omega) fun w1 h n1=>.an O O ?_
 have f1:FB eQ 39 T0 w1 h (List.replicate n.ls.length q0):=FB.made n1 zq_R
 obtain ⟨e1,_,hh,hs1⟩:=n1
 rw [<-AP0] at f1
 have hlW:∀ {W:World},Ext w W->eI.R S W vl (pInts (inL n o)):=fun e=>ER.ext eI hl e
 refine .seq (.sr (.ld ty_I O O (k6.ext e1) O (.lenR un_I O O (hlW e1) (.mv O O (.nil ?_)))))
 rw [show (pInts (inL n o)).length=(inL n o).length by simp]
 refine .block (.loop (α:=Nat) (fun i=>[(0,.int .i64 (b:Nat)),(1,.pointer (some ⟨b2,0,none⟩)),(2,.pointer (some ⟨b6,0,none⟩)),(3,.pointer (some ⟨b9,0,none⟩)),(6,slB n.ls.length h),(15,vl),(16,.int .i64 ((inL n o).length:Nat)),(17,.int .i64 (i:Nat))]) (fun i W=>Ext w W/\i<=(inL n o).length/\FB eQ 39 T0 W h (tab n.ls.length fun k=>if k∈(inL n o).take i then (nwOf n o).fl θ k else 0)) (fun i=>(inL n o).length-i) 0 ?_ ?_ ?_)
 ·exact lkA rfl
 ·exact ⟨e1,Nat.zero_le _,by simpa using f1⟩
 rintro i W ⟨hW,hi',fb⟩
 have hWs:=hW.size
 have hhl:=fb.lt
 refine .sr ?_
 rcases Nat.lt_or_ge i (inL n o).length with hlt | hge
 rotate_left
 ·refine .lssF O O O (by omega) (.nil (.seq (.condF O (.exit (.sr (.mv O O (.an O O (.ret ?_))))))))
  have:i=(inL n o).length:=by omega
  subst this
  rw [List.take_of_length_le (Nat.le_refl _),BN7 ok] at fb
  refine .plain [_] Tryz.results191 ⟨rfl,trivial⟩ ⟨hW,?_⟩
  have:=fb.toR (hsz:=by decide) (c:=n.ls.length) (upo h (by omega)) (by rw [A1];exact Nat.le_refl _) (by rw [A1];omega)
  rw [A1] at this
  exact this
 obtain ⟨hgk,hkM,hko⟩:=AJ2 hlt
 refine .lssT O O O (by omega) (.nil (.seq (.condT O (.skip (.seq (.block (.sr (.ixN (i:=i) un_I B0 O O (hlW hW) O hgk fun q hq=>.ldE (E:=eInt .i64) B0 O O hq fun e he=>.an O O ?_))))))))
 obtain ⟨rfl,_⟩:=he
 have hset:=Ao5 (M:=n.ls.length) (f:=(nwOf n o).fl θ) hlt
 have hgl:n.ls[(inL n o).getD i 0]?=some (n.ls.getD ((inL n o).getD i 0) ln0):=A9 hkM
 have hFI:=ok.fI _ hkM
 have hTI:=ok.tI _ hkM
 have hx:=ok.x _ hkM
 have hgv:=g_on (n:=n) hko
 generalize hkk:(inL n o).getD i 0=k at hset hgl hFI hTI hx hgv hkM
 generalize hln:n.ls.getD k ln0=ln at hgl hFI hTI hx hgv
 refine .sr (.fa K9 O O (.ld R7 O O (k2.ext hW) O (.mv O O (.ixN (i:=k) M4 P0 O O (hs.ext hW) O hgl fun q hq=>.ldE (E:=eL) P0 O O hq fun vl' hvl=>.alloc O Aj6 fun W1 c9 n1'=>?_))))
 obtain ⟨g1,k9',hc9,hs1'⟩:=n1'
 refine .storeA (E:=eL) (S:=fun k=>k≠c9) (z:=ln) P0 O O k9' O O hvl (fun h=>h O) fun W2 k9' u2 hl2=>.nil ?_
 obtain ⟨rfl,_⟩:=hl2
 rw [hFI,hTI] at k9'
 replace k9':Blk W2 c9 53 #[.int .i64 ((nwOf n o).F k:Nat),.int .i64 ((nwOf n o).T k:Nat),.int .i64 ln.x,.int .i64 ln.c]:=k9'
 have x2:Ext W W2:=u2.below g1 (by omega)
 have hs2:=u2.size
 have fb:=fb.new g1 u2 (by omega)
 have hW2:=hW.trans x2
 have upO:∀ {W':World},W2.heap.size<=W'.heap.size->Up (fun k=>T0 k/\k≠h) W':=fun hs k' hk'=>⟨upo k' (by omega),by omega⟩
 have upT:∀ {W':World},W2.heap.size<=W'.heap.size->Up (fun k=>S k/\k≠h) W':=fun hs k' hk'=>⟨up k' (by omega),by omega⟩
 have hmi:∀ {W':World},Ext W2 W'->eM.R (fun k=>S k/\k≠h) W' vi m:=fun e=>ER.ext eM (eM.mono (fun k' _ hk'=>⟨hk'.1,by have:=hk'.2;omega⟩) (ER.ext eM (ER.lt eM hi) hW2)) e
 have hat:∀ c:Nat,rmI m c b=θ c:=fun c=>by rw [AZ4,<-hθ]
 have hrz:∀ c,Rsz (θ c) L:=fun c=>by rw [<-hθ];exact hk.rsz hL c b
 refine .seq ?_
 refine .par follows 12 [.inl vi,.inl (.pointer (some ⟨c9,0,none⟩)),.inl (.int .i64 ((nwOf n o).F k:Nat)),.inl (.int .i64 (b:Nat)),.inr (eQ.at (fun k=>S k/\k≠h) (qc (θ ((nwOf n o).F k)))),.inl vi,.inl (.pointer (some ⟨c9,1,none⟩)),.inl (.int .i64 ((nwOf n o).T k:Nat)),.inl (.int .i64 (b:Nat)),.inr (eQ.at (fun k=>S k/\k≠h) (qc (θ ((nwOf n o).T k)))),.inr (eQ.at (fun k=>S k/\k≠h) (qc (θ ((nwOf n o).F k)-θ ((nwOf n o).T k)))),.inr (NewP W2.heap.size 39 zq.cells)]
  [[],[],[(27,1)],[],[(26,0),(28,2),(29,3)],[],[],[(32,6)],[],[(31,5),(33,7),(34,8)],[(30,4),(35,9)],[]] (by kernel_rfl) ⟨
  fun w e=>(v_ld ty_M O ((k9.ext hW2).ext e) O).ob,fun w e=>(v_fa J6 O).ob,fun w e=>(v_ld A8 O (k9'.ext e) O).ob,fun w e=>(v_mv O).ob,
  fun w e=>by
   have:=AG5 (i:=((nwOf n o).F k:Nat)) (k:=(b:Nat)) (upT e.size) (hmi e) hk hL (by omega)
   rw [hat] at this
   exact (A2 _ AH9 O this).ob (A6 _ _ _),
  fun w e=>(v_ld ty_M O ((k9.ext hW2).ext e) O).ob,fun w e=>(v_fa J5 O).ob,fun w e=>(v_ld A8 O (k9'.ext e) O).ob,fun w e=>(v_mv O).ob,
  fun w e=>by
   have:=AG5 (i:=((nwOf n o).T k:Nat)) (k:=(b:Nat)) (upT e.size) (hmi e) hk hL (by omega)
   rw [hat] at this
   exact (A2 _ AH9 O this).ob (A6 _ _ _),
  fun w e x hx y hy=>by
   have:=U5 (L:=L) (upT e.size) hx hy (hrz _).toOk (hrz _).toOk hL (by omega)
   rw [B4,B4] at this
   exact (A2 _ Q4 O this).ob (A6 _ _ _),
  fun w e=>S1 C5 e.size,trivial⟩ ?_
 rintro W3 g3 _ _ _ _ y10 hy10 _ ⟨c10,rfl,hc10,k10⟩
 have hy10':=AN7 hy10 k10 T9
 refine .storeA (E:=eQ) ty_Q O O k10 O O hy10' (fun h=>h.2 O) fun W4 k10 u4 hy=>.nil ?_
 have hs3:=g3.size
 have hs4:=u4.size
 have x4:Ext W2 W4:=u4.below g3 hc10
 have hy:eQ.R (fun k=>S k/\k≠h) W4 y10 _:=eQ.mono (fun _ _ h=>h.1) hy
 have hyv:=shpA (E:=eQ) O hy
 have fb:=fb.new g3 u4 hc10
 have hd:Rsz (θ ((nwOf n o).F k)-θ ((nwOf n o).T k)) (L+L+1):=by
  rw [Rat.sub_eq_add_neg]
  exact (hrz _).add (hrz _).neg
 have hx0:((ln.x:Int):Rat)≠0:=fun e=>by
  have:ln.x=0:=by exact_mod_cast e
  omega
 have hflv:(θ ((nwOf n o).F k)-θ ((nwOf n o).T k)) / ((ln.x:Int):Rat)=(nwOf n o).fl θ k:=by
  unfold Nw.fl
  rw [hgv,Rat.div_def,Rat.mul_comm]
 have hr1:Rsz ((ln.x:Int):Rat) (L+L+1):=Rsz.int _ (Nat.lt_of_lt_of_le (by omega:ln.x.natAbs<4294967296 ^ 1) (Nat.pow_le_pow_right (by decide) (by omega))) (by omega)
 refine .parL follows 10 [9] [.inl (slB n.ls.length h),.inl (.int .i64 (k:Nat)),.inl y10,.inl (.pointer (some ⟨c9,2,none⟩)),.inl (.int .i64 ln.x),.inr (eQ.at (fun k=>S k/\k≠h) (qc ((ln.x:Int):Rat))),.inr (Two (eQ.at (fun k=>T0 k/\k≠h) (qc ((nwOf n o).fl θ k))) (Is (.int .i64 0))),.inr (Two (eQ.at (fun k=>T0 k/\k≠h) (qc ((nwOf n o).fl θ k))) (Is (.int .i64 0))),.inr (eQ.at (fun k=>T0 k/\k≠h) (qc ((nwOf n o).fl θ k))),.inl (.int .i64 0)]
  [[],[],[],[],[(41,3)],[(42,4)],[(40,2),(43,5)],[(44,6)],[(37,7)],[(37,7)]] (by kernel_rfl) ⟨
  fun w e=>(v_mv O).ob,fun w e=>(v_mv O).ob,fun w e=>((B9 ty_Q O (k10.ext e) (eQ.csz hy)).eq hyv.symm).ob,fun w e=>(v_fa AJ7 O).ob,fun w e=>(v_ld Z6 O ((k9'.ext x4).ext e) O).ob,
  fun w e=>(A2 _ D7 O (D5 (upT (by have:=e.size;omega)) (by omega) (by omega))).ob (A6 _ _ _),
  fun w e x hx=>by
   have:=AD4 (L:=L+L+1) (upT (by have:=e.size;omega)) (upO (by have:=e.size;omega)) (ER.ext eQ hy e) hx hd.toOk hr1.toOk (by omega) (by omega) (by rw [B4];exact hx0)
   rw [B4,B4,hflv] at this
   exact (A2 _ AE7 O this).ob (G9 (A6 _ _ _) (L7 _)),
  fun w e x hx=>G1 (v_mv O) hx (G9 (A6 _ _ _) (L7 _)),
  fun w e x hx=>by
   obtain ⟨a,b,rfl,ha,hb⟩:=hx
   exact G1 (v_ex O O) ha (A6 _ _ _),
  fun w e x hx=>by
   obtain ⟨a,b,rfl,ha,hb⟩:=hx
   exact ((v_ex O O).eq hb).ob,trivial⟩ ?_
 intro W5 g5 _ _ _ _ _ _ y8 hy8
 refine .ixB (i:=k) un_V ty_Q O O O hkM (.storeF (E:=eQ) (i:=k) (by decide) ty_Q O O (fb.ext g5) O (by rw [A1];exact hkM) (Nat.zero_add _) hy8 fun W6 f6 u6=>.nil ?_)
 rw [hset] at f6
 refine .region (.add O O O (.mv O O (.nil ?_)))
 rw [wI (by omega)]
 exact ⟨rfl,i+1,lkA rfl,⟨u6.below ((hW2.trans x4).trans g5) (by omega),hlt,f6⟩,by show (inL n o).length-(i+1)<(inL n o).length-i;omega⟩
end Go.Proofs.YtpgkacdihhjknaaGreat
