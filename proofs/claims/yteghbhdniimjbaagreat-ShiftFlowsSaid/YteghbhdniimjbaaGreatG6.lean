/-
  The references: Gcd, Div, Cmp of integers Regions that draw their order, with cells of their own that are known apart (printed by mkkv.py) The references: rational numbers: one, den, num, over, Least, Add, Mul, Neg, Sub, Sign, Cmp The references: rational numbers: Least, Add, Mul, Neg, Sub, Sign, Cmp The references: ref02 Sub, Cmp; vectors: At, Combine, Add, Scale, Dot The references: vectors: Combine, Add, Scale, Dot The references: matrices: At, row, place, made The references: matrices: place of a product, made, Mul, Turn, Beside The references: matrices: Mul, Turn, Beside, Times, Add The references: matrices: Add, Scale, Left The references: matrices: Left mat.Scale The laws' own copies: Own The laws' own copies: vectors and matrices Matrices with their bounds; the algebra of matrices: plain. law 04: MatRing law 05: long, tall; the references Of, Ints; vec.Sign law 05: what the answers of package solve satisfy; plain. law 05: what inverses and determinants satisfy; plain. law 05: every solution; plain. Package net: Outs, In Potentials on a network: plain. Package island: Of Package island: Of Package island: Refs, Connected The Laplacian, line by line: plain. Packages whole, frac, vec: Abs, New, Sub Package shift: equations Package shift: a column of factors Package shift: transpose The equations of a network have one solution: plain. Package shift: Factors, Between, Flows Package flow: NetOutflow
-/
import Derived.Test.YteghbhdniimjbaaGreatG5
set_option linter.unusedVariables false
namespace Go.Kx
theorem BJ4 (a b:Nat):Nat.gcd b (a % b)=Nat.gcd a b:=by rw [Nat.gcd_comm b (a % b),←Nat.gcd_rec,Nat.gcd_comm]
theorem BD2 {a b:ZV} (hs:(zval a).sign=(zval b).sign):cmpI (zval a) (zval b)=if (zval a).sign<0 then 0-cmpN (val a.w) (val b.w) else cmpN (val a.w) (val b.w):=by
 have h1:=I8 a
 have h2:=I8 b
 generalize zval a=x at *
 generalize zval b=y at *
 rw [←h1,←h2]
 rcases Int.lt_trichotomy x 0 with h | h | h
 ·have e:=Int.sign_eq_neg_one_of_neg h
  rw [e] at hs ⊢
  have hy:y<0:=Int.sign_eq_neg_one_iff_neg.1 hs.symm
  rw [if_pos (by decide)]
  unfold cmpI cmpN
  split<;>split<;>(try split)<;>(try split)<;>omega
 ·subst h
  rw [Int.sign_zero] at hs ⊢
  have hy:y=0:=Int.sign_eq_zero_iff_zero.1 hs.symm
  subst hy
  decide
 ·have e:=Int.sign_eq_one_of_pos h
  rw [e] at hs ⊢
  have hy:0<y:=Int.sign_eq_one_iff_pos.1 hs.symm
  rw [if_neg (by decide)]
  unfold cmpI cmpN
  split<;>split<;>(try split)<;>(try split)<;>omega
theorem cmpI_ne {x y:Int} (hs:x.sign≠y.sign):cmpI x y=if x.sign<y.sign then -1 else 1:=by
 have hx:=Int.lt_trichotomy x 0
 have hy:=Int.lt_trichotomy y 0
 unfold cmpI
 rcases hx with h | h | h<;>rcases hy with h' | h' | h'<;>first
  | (rw [Int.sign_eq_neg_one_of_neg h,Int.sign_eq_neg_one_of_neg h'] at hs;exact absurd rfl hs)
  | (rw [Int.sign_eq_one_of_pos h,Int.sign_eq_one_of_pos h'] at hs;exact absurd rfl hs)
  | (rw [h,h'] at hs;exact absurd rfl hs)
  | (simp only [h,h',Int.sign_eq_neg_one_of_neg,Int.sign_eq_one_of_pos,Int.sign_zero];(try split)<;>(try split)<;>(try simp_all)<;>omega)
end Go.Kx
namespace Go.Proofs.YteghbhdniimjbaaGreat
open Go Go.Kx Go.RowKit
theorem Aq9:Ent Tryz.prog 195:=A0 Tryz.func195 (by kernel_rfl) rfl
theorem An4 {S:Nat→Prop} {w:World} {va vb:Value} {a b:ZV} (up:Up S w) (ha:eZ.R S w va a) (hb:eZ.R S w vb b) (hla:a.w.length≤1000000000) (hlb:b.w.length≤1000000000):CR Tryz.prog 195 #[va,vb] w (eZ.at S (zc (Nat.gcd (val a.w) (val b.w):Nat))):=by
 obtain ⟨s,rfl,hs⟩:=ha
 obtain ⟨t,rfl,ht⟩:=hb
 refine enter Tryz.func195 rfl Tryz.ntmps195 rfl ?_
 refine .seq (.region (.box rfl rfl fun w1 b2 n1=>.box rfl rfl fun w2 b3 n2=>.alloc rfl C2 fun w3 b4 n3=>.nil ?_))
 obtain ⟨e1,k2,hb2,hs1⟩:=n1
 obtain ⟨e2,k3,hb3,hs2⟩:=n2
 obtain ⟨e3,k4,hb4,hs3⟩:=n3
 have x3:=(e1.trans e2).trans e3
 have k2:=(k2.ext e2).ext e3
 have k3:=k3.ext e3
 have hS4:¬ Sx S w.heap.size w3.heap.size b4:=Sx.no (by omega) (by omega)
 have up3:Up (Sx S w.heap.size w3.heap.size) w3:=Sx.up up (Nat.le_refl _) x3.size
 have hs':=(ER.par eW hs w3.heap.size).ext x3
 have ht':=(ER.par eW ht w3.heap.size).ext x3
 have l1:=AF4 hs hla
 have l2:=AF4 ht hlb
 have hout:∀ {W:World} {v:Value} {z:ZV},eZ.R (Sx S w.heap.size w3.heap.size) W v z→eZ.R S W v z:=fun h=>h.out
 generalize hT:Sx S w.heap.size w3.heap.size=T at *
 refine .seq ?_
 refine .par follows 6 [.inl _,.inl s,.inr (eHs.at T (hds (val a.w))),.inl _,.inl t,.inr (eHs.at T (hds (val b.w)))] [[],[(9,0)],[(10,1)],[],[(12,3)],[(13,4)]] (by kernel_rfl) ⟨
  fun w e=>(v_fa D8 rfl).ob,fun w e=>(v_ld ty_W rfl (k2.ext e) rfl).ob,fun w e=>(A3 _ E2 rfl (J1 (up3.ext e.size) (hs'.ext e) hla)).ob (A9 _ _ _),
  fun w e=>(v_fa D8 rfl).ob,fun w e=>(v_ld ty_W rfl (k3.ext e) rfl).ob,fun w e=>(A3 _ E2 rfl (J1 (up3.ext e.size) (ht'.ext e) hlb)).ob (A9 _ _ _),trivial⟩ ?_
 intro w4 e4 x hx y hy
 refine .asg rfl rfl (.asg rfl rfl (.nil ?_))
 generalize val a.w=A at *
 generalize val b.w=B at *
 refine .mid (α:=Value) (fun p=>[(4,.pointer (some ⟨b4,0,none⟩)),(5,p)]) (fun p W=>Ext w4 W∧eHs.R T W p (hds (Nat.gcd A B))) ?_ ?_
 ·refine .block (.loop (α:=(Nat×Nat)×Value×Value) (fun p=>[(4,.pointer (some ⟨b4,0,none⟩)),(5,p.2.1),(6,p.2.2)])
   (fun p W=>Ext w4 W∧eHs.R T W p.2.1 (hds p.1.1)∧eHs.R T W p.2.2 (hds p.1.2)∧(hds p.1.1).length≤2000000000∧(hds p.1.2).length≤2000000000∧Nat.gcd p.1.1 p.1.2=Nat.gcd A B) (fun p=>p.1.2) ((A,B),x,y) ?_ ?_ ?_)
  ·exact lkA rfl
  ·exact ⟨.refl _,hx,hy,l1,l2,rfl⟩
  ·rintro ⟨⟨m,n⟩,u,v⟩ W ⟨hW,hu,hv,hm,hn,hg⟩
   replace hW:Ext w4 W:=hW
   replace hu:eHs.R T W u (hds m):=hu
   replace hv:eHs.R T W v (hds n):=hv
   replace hm:(hds m).length≤2000000000:=hm
   replace hn:(hds n).length≤2000000000:=hn
   replace hg:Nat.gcd m n=Nat.gcd A B:=hg
   refine .weak [(4,.pointer (some ⟨b4,0,none⟩)),(5,u),(6,v)] (fun t v h=>h) ?_
   refine .seq (.seq (.region (.mv rfl rfl (.lenR un_H rfl rfl hv ?_))))
   by_cases h0:n=0
   ·subst h0
    rw [K7]
    refine .gtrF rfl rfl rfl (by simp) (.nil (.condF rfl (.exit ?_)))
    rw [Nat.gcd_zero_right] at hg
    exact ⟨rfl,u,lkA rfl,hW,hg▸hu⟩
   ·have hne:(hds n).length≠0:=fun e=>h0 (Q8.1 (List.length_eq_zero_iff.1 e))
    refine .gtrT rfl rfl rfl (by omega) (.nil (.condT rfl (.skip (.block (.seq (.region (.mv rfl rfl (.mv rfl rfl ?_))))))))
    refine .call _ rfl AW1 rfl (AU5 ((up3.ext e4.size).ext hW.size) hu hv (by omega) (by omega) h0) fun z W2 f2 h2=>?_
    obtain ⟨vq,vr,rfl,hq,hr⟩:=h2
    refine .mv rfl rfl (.ext rfl rfl rfl (.ext rfl rfl rfl (.asg rfl rfl (.asg rfl rfl (.nil ?_)))))
    refine .region (.mv rfl rfl (.mv rfl rfl (.asg rfl rfl (.asg rfl rfl (.nil ?_)))))
    have hlt:m % n<n:=Nat.mod_lt _ (by omega)
    exact ⟨rfl,((n,m % n),v,vr),lkA rfl,⟨hW.trans f2,ER.ext eHs hv f2,hr,hn,Nat.le_trans (P1 (Nat.le_of_lt hlt)) hn,(BJ4 m n).trans hg⟩,hlt⟩
 ·rintro u W ⟨hW,hu⟩
  have e5:=e4.trans hW
  have lg:(hds (Nat.gcd A B)).length≤2000000001:=by
   have h1:Nat.gcd A B≤A+B:=by
    rcases Nat.eq_zero_or_pos A with h | h
    ·subst h;rw [Nat.gcd_zero_left];omega
    ·have:=Nat.gcd_le_left B h;omega
   exact Nat.le_trans (P1 h1) (AV4 l1 l2)
  refine .seq (.region (.mv rfl rfl ?_))
  refine .call _ rfl R4 rfl (Q6 (up3.ext e5.size) hu (by omega)) fun v6 w6 e6 h6=>?_
  rw [E0] at h6
  have e56:=e5.trans e6
  refine .storeA (E:=eZ) ty_Z rfl rfl (k4.ext e56) rfl rfl h6 hS4 fun w7 k7 u7 h7=>.nil (.ret ?_)
  exact .cell Tryz.results195 rfl ty_Z rfl rfl k7 h7 ⟨u7.below (x3.trans e56) (by omega),hout h7⟩
theorem AW3:Ent Tryz.prog 196:=A0 Tryz.func196 (by kernel_rfl) rfl
theorem AU7 {S:Nat→Prop} {w:World} {va vb:Value} {a b:ZV} (up:Up S w) (ha:eZ.R S w va a) (hb:eZ.R S w vb b) (hla:a.w.length≤1000000000) (hlb:b.w.length≤1000000000) (hb0:zval b≠0) :
  CR Tryz.prog 196 #[va,vb] w (Three (eZ.at S (zc (zval a / zval b))) (eZ.at S (zc (zval a % zval b))) (Is (.int .i64 0))):=by
 obtain ⟨s,rfl,hs⟩:=ha
 obtain ⟨t,rfl,ht⟩:=hb
 refine enter Tryz.func196 rfl Tryz.ntmps196 rfl ?_
 refine .seq (.region (.box rfl rfl fun w1 b2 n1=>.box rfl rfl fun w2 b3 n2=>.alloc rfl C2 fun w3 b4 n3=>.alloc rfl C2 fun w4 b5 n4=>.asg rfl rfl (.nil ?_)))
 obtain ⟨e1,k2,hb2,hs1⟩:=n1
 obtain ⟨e2,k3,hb3,hs2⟩:=n2
 obtain ⟨e3,k4,hb4,hs3⟩:=n3
 obtain ⟨e4,k5,hb5,hs4⟩:=n4
 have x4:=((e1.trans e2).trans e3).trans e4
 have k2:=((k2.ext e2).ext e3).ext e4
 have k3:=(k3.ext e3).ext e4
 have k4:=k4.ext e4
 have hS4:¬ Sx S w.heap.size w4.heap.size b4:=Sx.no (by omega) (by omega)
 have hS5:¬ Sx S w.heap.size w4.heap.size b5:=Sx.no (by omega) (by omega)
 have hne:b5≠b4:=by omega
 have up4:Up (Sx S w.heap.size w4.heap.size) w4:=Sx.up up (Nat.le_refl _) x4.size
 have hs':=(ER.par eW hs w4.heap.size).ext x4
 have ht':=(ER.par eW ht w4.heap.size).ext x4
 have l1:=AF4 hs hla
 have l2:=AF4 ht hlb
 have hout:∀ {W:World} {v:Value} {z:ZV},eZ.R (Sx S w.heap.size w4.heap.size) W v z→eZ.R S W v z:=fun h=>h.out
 generalize hT:Sx S w.heap.size w4.heap.size=T at *
 refine .seq ?_
 refine .par follows 6 [.inl _,.inl s,.inr (eHs.at T (hds (val a.w))),.inl _,.inl t,.inr (eHs.at T (hds (val b.w)))] [[],[(11,0)],[(12,1)],[],[(14,3)],[(15,4)]] (by kernel_rfl) ⟨
  fun w e=>(v_fa D8 rfl).ob,fun w e=>(v_ld ty_W rfl (k2.ext e) rfl).ob,fun w e=>(A3 _ E2 rfl (J1 (up4.ext e.size) (hs'.ext e) hla)).ob (A9 _ _ _),
  fun w e=>(v_fa D8 rfl).ob,fun w e=>(v_ld ty_W rfl (k3.ext e) rfl).ob,fun w e=>(A3 _ E2 rfl (J1 (up4.ext e.size) (ht'.ext e) hlb)).ob (A9 _ _ _),trivial⟩ ?_
 intro w5 e5 x hx y hy
 refine .asg rfl rfl (.asg rfl rfl (.nil ?_))
 have hB0:0<val b.w:=by
  rcases Nat.eq_zero_or_pos (val b.w) with h | h
  ·exact absurd (by unfold zval sg;rw [h];simp) hb0
  ·exact h
 have eva:=AB3 a
 have evb:=AB3 b
 generalize val a.w=A at *
 generalize val b.w=B at *
 have hne0:(hds B).length≠0:=fun e=>by have:=Q8.1 (List.length_eq_zero_iff.1 e);omega
 refine .seq (.seq (.region (.mv rfl rfl (.lenR un_H rfl rfl hy (.eqlF rfl rfl rfl (by omega) (.nil (.condF rfl (.skip ?_))))))))
 have up5:=up4.ext e5.size
 refine .seq (.region (.mv rfl rfl (.mv rfl rfl ?_)))
 refine .call _ rfl AW1 rfl (AU5 up5 hx hy (by omega) (by omega) (by omega)) fun z w6 e6 h6=>?_
 obtain ⟨vq,vr,rfl,hq,hr⟩:=h6
 refine .mv rfl rfl (.ext rfl rfl rfl (.ext rfl rfl rfl (.asg rfl rfl (.asg rfl rfl (.nil ?_)))))
 have e56:=e5.trans e6
 have x6:=x4.trans e56
 have up6:=up5.ext e6.size
 have k2:=k2.ext e56
 have k3:=k3.ext e56
 have k4:=k4.ext e56
 have k5:=k5.ext e56
 have hy6:=ER.ext eHs hy e6
 have lq:(hds (A / B)).length≤2000000000:=Nat.le_trans (P1 (Nat.div_le_self _ _)) l1
 have lr:(hds (A % B)).length≤2000000000:=Nat.le_trans (P1 (Nat.mod_le _ _)) l1
 refine .mid (α:=(Nat×Nat)×Value×Value) (fun z=>[(2,.pointer (some ⟨b2,0,none⟩)),(3,.pointer (some ⟨b3,0,none⟩)),(4,.pointer (some ⟨b4,0,none⟩)),(5,.pointer (some ⟨b5,0,none⟩)),(9,z.2.1),(10,z.2.2)])
  (fun z W=>Ext w6 W∧eHs.R T W z.2.1 (hds z.1.1)∧eHs.R T W z.2.2 (hds z.1.2)∧(hds z.1.1).length≤2000000002∧(hds z.1.2).length≤2000000002∧zval a / zval b=sg (a.neg != b.neg) z.1.1∧zval a % zval b=sg false z.1.2) ?_ ?_
 ·refine .seq (.region (.fa H4 rfl rfl (.ld C6 rfl rfl k2 rfl (.mv rfl rfl ?_))))
  cases hn:a.neg with
  | false =>
   refine .gs rfl rfl rfl rfl rfl (.gs rfl rfl rfl rfl rfl (.gs rfl rfl rfl rfl rfl (.pick rfl rfl rfl (.nil (.condF rfl (.skip ?_))))))
   obtain ⟨d1,d2⟩:=AC8 (p:=false) (q:=b.neg) (A:=A) hB0 (.inl rfl)
   refine ⟨rfl,((A / B,A % B),vq,vr),lkA rfl,.refl _,hq,hr,Nat.le_trans lq (by omega),Nat.le_trans lr (by omega),?_,?_⟩
   ·rw [eva,evb,hn];exact d1
   ·rw [eva,evb,hn];exact d2
  | true =>
   refine .gr rfl rfl rfl rfl (.mv rfl rfl (.gr rfl rfl rfl rfl (.lenR un_H rfl rfl hr (.gr rfl rfl rfl rfl ?_))))
   by_cases h0:A % B=0
   ·rw [h0,K7]
    refine .gtrF rfl rfl rfl (by simp) (.pick rfl rfl rfl (.nil (.condF rfl (.skip ?_))))
    obtain ⟨d1,d2⟩:=AC8 (p:=true) (q:=b.neg) (A:=A) hB0 (.inr h0)
    refine ⟨rfl,((A / B,A % B),vq,vr),lkA rfl,.refl _,hq,hr,Nat.le_trans lq (by omega),Nat.le_trans lr (by omega),?_,?_⟩
    ·rw [eva,evb,hn];exact d1
    ·rw [eva,evb,hn];exact d2
   ·have hne:(hds (A % B)).length≠0:=fun e=>h0 (Q8.1 (List.length_eq_zero_iff.1 e))
    refine .gtrT rfl rfl rfl (by omega) (.pick rfl rfl rfl (.nil (.condT rfl (.seq (.region (.mv rfl rfl (.bsl _ rfl rfl AS7 fun w7 b7 n7=>?_)))))))
    have hd1:digH [1]:=by intro x hx;simp at hx;omega
    have ho:OwnH 3 w6.heap.size w7 (.slice (some ⟨b7,0,none⟩) 1 1) [1]:=OwnH.lit (l:=[1]) n7 (Nat.le_refl _) hd1 (by simp)
    obtain ⟨e7,_,_,_⟩:=n7
    refine .call _ rfl Aq7 rfl (An2 (S:=T) (up6.ext e7.size) (ER.ext eHs hq e7) (ho.toR up6) (by omega) (by simp)) fun v8 w8 e8 h8=>.asg rfl rfl (.nil ?_)
    rw [E0,show valH [1]=1 by rfl] at h8
    have e78:=e7.trans e8
    refine .region (.mv rfl rfl (.mv rfl rfl ?_))
    have hm:=Nat.mod_lt A hB0
    refine .call _ rfl AW0 rfl (AU4 (S:=T) (up6.ext e78.size) (ER.ext eHs hy6 e78) (ER.ext eHs hr e78) (by omega) (by rw [E0,E0];omega)) fun v9 w9 e9 h9=>.asg rfl rfl (.nil ?_)
    rw [E0,E0] at h9
    obtain ⟨d1,d2⟩:=Ab7 (q:=b.neg) (A:=A) hB0 (by omega)
    refine ⟨rfl,((A / B+1,B-A % B),v8,v9),lkA rfl,e78.trans e9,ER.ext eHs h8 e9,h9,?_,?_,?_,?_⟩
    ·exact Nat.le_trans (AV4 lq (B:=1) (Nat.le_trans (M2 (L:=1) (by decide)) (by omega))) (by omega)
    ·exact Nat.le_trans (P1 (Nat.sub_le _ _)) (by omega)
    ·rw [eva,evb,hn];exact d1
    ·rw [eva,evb,hn];exact d2
 ·rintro ⟨⟨q,r⟩,vq,vr⟩ W ⟨hW,hq,hr,lq,lr,d1,d2⟩
  replace hW:Ext w6 W:=hW
  replace hq:eHs.R T W vq (hds q):=hq
  replace hr:eHs.R T W vr (hds r):=hr
  replace lq:(hds q).length≤2000000002:=lq
  replace lr:(hds r).length≤2000000002:=lr
  replace d1:zval a / zval b=sg (a.neg != b.neg) q:=d1
  replace d2:zval a % zval b=sg false r:=d2
  refine .weak [(2,.pointer (some ⟨b2,0,none⟩)),(3,.pointer (some ⟨b3,0,none⟩)),(4,.pointer (some ⟨b4,0,none⟩)),(5,.pointer (some ⟨b5,0,none⟩)),(9,vq),(10,vr)] (fun t v h=>h) ?_
  have k2:=k2.ext hW
  have k3:=k3.ext hW
  have k4:=k4.ext hW
  have k5:=k5.ext hW
  have upW:=up6.ext hW.size
  refine .seq (.region (.fa H4 rfl rfl (.ld C6 rfl rfl k2 rfl (.fa H4 rfl rfl (.ld C6 rfl rfl k3 rfl (.neqB AC1 rfl rfl rfl (.mv rfl rfl ?_)))))))
  refine .call _ rfl R4 rfl (Q6 upW hq (by omega)) fun v7 w7 e7 h7=>.mv rfl rfl ?_
  rw [E0,←d1] at h7
  refine .call _ rfl R4 rfl (Q6 (upW.ext e7.size) (ER.ext eHs hr e7) (by omega)) fun v8 w8 e8 h8=>?_
  rw [E0,←d2] at h8
  have e78:=e7.trans e8
  refine .storeA (E:=eZ) ty_Z rfl rfl (k4.ext e78) rfl rfl (ER.ext eZ h7 e8) hS4 fun w9 k9 u9 h9=>?_
  refine .storeA (E:=eZ) ty_Z rfl rfl ((k5.ext e78).upd u9 hne) rfl rfl (ER.upd eZ h8 u9 hS4) hS5 fun w10 k10 u10 h10=>.asg rfl rfl (.nil (.ret ?_))
  exact .plain [_,_,_] Tryz.results196 ⟨⟨_,rfl,D2 (E:=eZ) ty_Z rfl rfl (k9.upd u10 (Ne.symm hne)) (ER.upd eZ h9 u10 hS5)⟩,⟨_,rfl,D2 (E:=eZ) ty_Z rfl rfl k10 h10⟩,rfl,trivial⟩
   ⟨u10.below (u9.below ((x6.trans hW).trans e78) (by omega)) (by omega),_,_,_,rfl,hout (ER.upd eZ h9 u10 hS5),hout h10,rfl⟩
theorem Ar0:Ent Tryz.prog 197:=A0 Tryz.func197 (by kernel_rfl) rfl
theorem An5 {S:Nat→Prop} {w:World} {va vb:Value} {a b:ZV} (up:Up S w) (ha:eZ.R S w va a) (hb:eZ.R S w vb b) (hla:a.w.length≤1000000000) (hlb:b.w.length≤1000000000):CR Tryz.prog 197 #[va,vb] w (Is (.int .i64 (cmpI (zval a) (zval b)))):=by
 have ha0:=ha
 have hb0:=hb
 obtain ⟨s,rfl,hs⟩:=ha
 obtain ⟨t,rfl,ht⟩:=hb
 refine enter Tryz.func197 rfl Tryz.ntmps197 rfl ?_
 refine .seq (.region (.box rfl rfl fun w1 b2 n1=>.box rfl rfl fun w2 b3 n2=>.asg rfl rfl (.nil ?_)))
 obtain ⟨e1,k2,hb2,hs1⟩:=n1
 obtain ⟨e2,k3,hb3,hs2⟩:=n2
 have x2:=e1.trans e2
 have k2:=k2.ext e2
 have up2:=up.ext x2.size
 have ha2:=ER.ext eZ ha0 x2
 have hb2':=ER.ext eZ hb0 x2
 have eva:=AB3 a
 have evb:=AB3 b
 refine .seq (.seq ?_)
 refine .par follows 5 [.inl (.agg #[.bool a.neg,s]),.inl (.int .i64 (zval a).sign),.inl (.agg #[.bool b.neg,t]),.inl (.int .i64 (zval b).sign),.inl (.bool ((zval a).sign != (zval b).sign))] [[],[(6,0)],[],[(8,2)],[(7,1),(9,3)]] (by kernel_rfl) ⟨
  fun w e=>(C0 ty_Z rfl (k2.ext e) rfl).ob,fun w e=>A3 _ J4 rfl (J2 (up2.ext e.size) (ER.ext eZ ha2 e) hla),
  fun w e=>(C0 ty_Z rfl (k3.ext e) rfl).ob,fun w e=>A3 _ J4 rfl (J2 (up2.ext e.size) (ER.ext eZ hb2' e) hlb),fun w e=>(BF0 rfl rfl).ob,trivial⟩ ?_
 intro w3 e3
 have x3:=x2.trans e3
 have up3:=up2.ext e3.size
 have k2:=k2.ext e3
 have k3:=k3.ext e3
 have ha3:=ER.ext eZ ha2 e3
 have hb3:=ER.ext eZ hb2' e3
 by_cases hsg:(zval a).sign=(zval b).sign
 ·rw [show ((zval a).sign != (zval b).sign)=false by simpa using hsg]
  refine .nil (.condF rfl (.skip (.seq ?_)))
  have hs':=ER.ext eW hs x3
  have ht':=ER.ext eW ht x3
  have l1:=AF4 hs hla
  have l2:=AF4 ht hlb
  have hc:=BD2 hsg
  refine .par follows 7 [.inl _,.inl s,.inr (eHs.at S (hds (val a.w))),.inl _,.inl t,.inr (eHs.at S (hds (val b.w))),.inl (.int .i64 (cmpN (valH (hds (val a.w))) (valH (hds (val b.w)))))] [[],[(16,0)],[(17,1)],[],[(19,3)],[(20,4)],[(18,2),(21,5)]] (by kernel_rfl) ⟨
   fun w e=>(v_fa D8 rfl).ob,fun w e=>(v_ld ty_W rfl (k2.ext e) rfl).ob,fun w e=>(A3 _ E2 rfl (J1 (up3.ext e.size) (hs'.ext e) hla)).ob (A9 _ _ _),
   fun w e=>(v_fa D8 rfl).ob,fun w e=>(v_ld ty_W rfl (k3.ext e) rfl).ob,fun w e=>(A3 _ E2 rfl (J1 (up3.ext e.size) (ht'.ext e) hlb)).ob (A9 _ _ _),
   fun w e x hx y hy=>A3 _ AW2 rfl (AU6 hx hy (by omega) (by omega)),trivial⟩ ?_
  intro w4 e4 x hx y hy
  rw [E0,E0]
  refine .asg rfl rfl (.nil (.seq (.seq (.region (.ldA ty_Z rfl rfl (k2.ext e4) rfl ?_)))))
  refine .call _ rfl J4 rfl (J2 (up3.ext e4.size) (ER.ext eZ ha3 e4) hla) fun v5 w5 e5 h5=>?_
  subst h5
  have x5:=(x3.trans e4).trans e5
  by_cases hn:(zval a).sign<0
  ·rw [if_pos hn] at hc
   refine .lssT rfl rfl rfl hn (.nil (.condT rfl (.seq (.region (.mv rfl rfl (.neg rfl rfl (.asg rfl rfl (.nil (.ret ?_)))))))))
   exact .plain [_] Tryz.results197 ⟨rfl,trivial⟩ ⟨x5,isI (by rw [hc,wI (by unfold cmpN;split<;>(try split)<;>omega)])⟩
  ·rw [if_neg hn] at hc
   refine .lssF rfl rfl rfl hn (.nil (.condF rfl (.skip (.seq (.region (.mv rfl rfl (.asg rfl rfl (.nil (.ret ?_)))))))))
   exact .plain [_] Tryz.results197 ⟨rfl,trivial⟩ ⟨x5,isI (by rw [hc])⟩
 ·rw [show ((zval a).sign != (zval b).sign)=true by simpa using hsg]
  refine .nil (.condT rfl (.seq (.seq ?_)))
  have hc:=cmpI_ne hsg
  refine .par follows 5 [.inl (.agg #[.bool a.neg,s]),.inl (.int .i64 (zval a).sign),.inl (.agg #[.bool b.neg,t]),.inl (.int .i64 (zval b).sign),.inl (.bool (decide ((zval a).sign<(zval b).sign)))] [[],[(11,0)],[],[(13,2)],[(12,1),(14,3)]] (by kernel_rfl) ⟨
   fun w e=>(C0 ty_Z rfl (k2.ext e) rfl).ob,fun w e=>A3 _ J4 rfl (J2 (up3.ext e.size) (ER.ext eZ ha3 e) hla),
   fun w e=>(C0 ty_Z rfl (k3.ext e) rfl).ob,fun w e=>A3 _ J4 rfl (J2 (up3.ext e.size) (ER.ext eZ hb3 e) hlb),fun w e=>(BF2 rfl rfl).ob,trivial⟩ ?_
  intro w4 e4
  by_cases hn:(zval a).sign<(zval b).sign
  ·rw [if_pos hn] at hc
   rw [show decide ((zval a).sign<(zval b).sign)=true by simpa using hn]
   refine .nil (.condT rfl (.seq (.region (.asg rfl rfl (.nil (.ret ?_))))))
   exact .plain [_] Tryz.results197 ⟨rfl,trivial⟩ ⟨x3.trans e4,isI (by rw [hc])⟩
  ·rw [if_neg hn] at hc
   rw [show decide ((zval a).sign<(zval b).sign)=false by simpa using hn]
   refine .nil (.condF rfl (.skip (.seq (.region (.asg rfl rfl (.nil (.ret ?_)))))))
   exact .plain [_] Tryz.results197 ⟨rfl,trivial⟩ ⟨x3.trans e4,isI (by rw [hc])⟩
end Go.Proofs.YteghbhdniimjbaaGreat

namespace Go.Kx
open Go Go.RowKit
section
variable {P:Program} {ro:Option Nat} {N:Nat} {ds:List Deferred} {ops:List Oper} {K:Env→World→Prop} {σ0:Env} {w0:World} {h:Nat} {sp:List Sp} {deps:List (List (Tmp×Nat))} {a0:Act}
section
variable {Q:Exit→Act→World→Prop}
end
end
end Go.Kx

namespace Go.Proofs.YteghbhdniimjbaaGreat
open Go Go.Kx Go.RowKit
theorem AV9:Ent Tryz.prog 198:=A0 Tryz.func198 (by kernel_rfl) rfl
theorem AU3 {S:Nat→Prop} {w:World} (up:Up S w):CR Tryz.prog 198 #[] w (eZ.at S (zc 1)):=by
 refine enter Tryz.func198 rfl Tryz.ntmps198 rfl ?_
 refine .seq (.region (.alloc rfl C2 fun w1 b1 n1=>.nil ?_))
 obtain ⟨e1,k1,hb1,hs1⟩:=n1
 have hS:¬ Sx S w.heap.size w1.heap.size b1:=Sx.no (by omega) (by omega)
 have up1:Up (Sx S w.heap.size w1.heap.size) w1:=Sx.up up (Nat.le_refl _) e1.size
 refine .seq (.region (.call _ rfl AD3 rfl (AC4 up1 (by decide) (by decide)) fun v2 w2 e2 h2=>?_))
 refine .storeA (E:=eZ) ty_Z rfl rfl (k1.ext e2) rfl rfl h2 hS fun w5 k5 u5 h5=>.nil (.ret ?_)
 exact .cell Tryz.results198 rfl ty_Z rfl rfl k5 h5 ⟨u5.below (e1.trans e2) (by omega),h5.out⟩
theorem Aq6:Ent Tryz.prog 157:=A0 Tryz.func157 (by kernel_rfl) rfl
theorem An1 {S:Nat→Prop} {w:World} {v:Value} {q:QV} {L:Nat} (up:Up S w) (h:eQ.R S w v q) (hl:qok L q) (hL:L≤1000000000):CR Tryz.prog 157 #[v] w (eZ.at S (zc (pd q))):=by
 obtain ⟨s,t,rfl,hn,hd⟩:=S8 h
 refine enter Tryz.func157 rfl Tryz.ntmps157 rfl ?_
 refine .seq (.region (.box rfl rfl fun w1 b1 n1=>.alloc rfl C2 fun w2 b2 n2=>.nil ?_))
 obtain ⟨e1,k1,hb1,hs1⟩:=n1
 obtain ⟨e2,k2,hb2,hs2⟩:=n2
 have x2:=e1.trans e2
 have k1:=k1.ext e2
 have hS:¬ Sx S w.heap.size w2.heap.size b2:=Sx.no (by omega) (by omega)
 have up2:Up (Sx S w.heap.size w2.heap.size) w2:=Sx.up up (Nat.le_refl _) x2.size
 have hd2:=(ER.par eZ hd w2.heap.size).ext x2
 refine .seq (.seq (.region (.fa T4 rfl rfl (.ldN [.bool q.den.neg,t] ty_Z rfl rfl k1 AY1 ?_))))
 refine .call _ rfl J4 rfl (J2 up2 hd2 (Nat.le_trans hl.2 hL)) fun v3 w3 e3 h3=>?_
 subst h3
 have hp:zval q.den≠0→pd q=(val q.den.w:Nat):=by
  intro h0
  have:=I8 q.den
  unfold pd;rw [if_neg h0];split<;>omega
 by_cases h0:zval q.den=0
 ·refine .eqlT rfl rfl rfl (by rw [h0];rfl) (.nil (.condT rfl (.seq (.region ?_))))
  refine .call _ rfl AV9 rfl (AU3 (up2.ext e3.size)) fun v4 w4 e4 h4=>?_
  refine .storeA (E:=eZ) ty_Z rfl rfl ((k2.ext e3).ext e4) rfl rfl h4 hS fun w5 k5 u5 h5=>.nil (.ret ?_)
  exact .cell Tryz.results157 rfl ty_Z rfl rfl k5 h5 ⟨u5.below ((x2.trans e3).trans e4) (by omega),by rw [show pd q=1 by unfold pd;rw [if_pos h0]];exact h5.out⟩
 ·refine .eqlF rfl rfl rfl (fun h=>h0 (Int.sign_eq_zero_iff_zero.1 h)) (.nil (.condF rfl (.skip (.seq (.region (.fa T4 rfl rfl (.ldN [.bool q.den.neg,t] ty_Z rfl rfl (k1.ext e3) AY1 ?_)))))))
  refine .call _ rfl Ar1 rfl (An6 (up2.ext e3.size) (ER.ext eZ hd2 e3) (Nat.le_trans hl.2 hL)) fun v4 w4 e4 h4=>?_
  refine .storeA (E:=eZ) ty_Z rfl rfl ((k2.ext e3).ext e4) rfl rfl h4 hS fun w5 k5 u5 h5=>.nil (.ret ?_)
  exact .cell Tryz.results157 rfl ty_Z rfl rfl k5 h5 ⟨u5.below ((x2.trans e3).trans e4) (by omega),by rw [hp h0];exact h5.out⟩
theorem Aq5:Ent Tryz.prog 156:=A0 Tryz.func156 (by kernel_rfl) rfl
theorem An0 {S:Nat→Prop} {w:World} {v:Value} {q:QV} {L:Nat} (up:Up S w) (h:eQ.R S w v q) (hl:qok L q) (hL:L≤1000000000):CR Tryz.prog 156 #[v] w (eZ.at S (zc (pn q))):=by
 obtain ⟨s,t,rfl,hn,hd⟩:=S8 h
 refine enter Tryz.func156 rfl Tryz.ntmps156 rfl ?_
 refine .seq (.region (.box rfl rfl fun w1 b1 n1=>.alloc rfl C2 fun w2 b2 n2=>.nil ?_))
 obtain ⟨e1,k1,hb1,hs1⟩:=n1
 obtain ⟨e2,k2,hb2,hs2⟩:=n2
 have x2:=e1.trans e2
 have k1:=k1.ext e2
 have hS:¬ Sx S w.heap.size w2.heap.size b2:=Sx.no (by omega) (by omega)
 have up2:Up (Sx S w.heap.size w2.heap.size) w2:=Sx.up up (Nat.le_refl _) x2.size
 have hd2:=(ER.par eZ hd w2.heap.size).ext x2
 have hn2:=(ER.par eZ hn w2.heap.size).ext x2
 refine .seq (.seq (.region (.fa T4 rfl rfl (.ldN [.bool q.den.neg,t] ty_Z rfl rfl k1 AY1 ?_))))
 refine .call _ rfl J4 rfl (J2 up2 hd2 (Nat.le_trans hl.2 hL)) fun v3 w3 e3 h3=>?_
 subst h3
 by_cases h0:zval q.den<0
 ·refine .lssT rfl rfl rfl (by rw [Int.sign_eq_neg_one_of_neg h0];decide) (.nil (.condT rfl (.seq (.region (.fa T5 rfl rfl (.ldN [.bool q.num.neg,s] ty_Z rfl rfl (k1.ext e3) As6 ?_))))))
  refine .call _ rfl Aq8 rfl (An3 (up2.ext e3.size) (ER.ext eZ hn2 e3) (Nat.le_trans hl.1 hL)) fun v4 w4 e4 h4=>?_
  refine .storeA (E:=eZ) ty_Z rfl rfl ((k2.ext e3).ext e4) rfl rfl h4 hS fun w5 k5 u5 h5=>.nil (.ret ?_)
  exact .cell Tryz.results156 rfl ty_Z rfl rfl k5 h5 ⟨u5.below ((x2.trans e3).trans e4) (by omega),by rw [show pn q = -zval q.num by unfold pn;rw [if_pos h0]];exact h5.out⟩
 ·refine .lssF rfl rfl rfl (fun h=>h0 (Int.sign_neg_iff.1 h)) (.nil (.condF rfl (.skip (.seq (.region (.fa T5 rfl rfl (.ldN [.bool q.num.neg,s] ty_Z rfl rfl (k1.ext e3) As6 ?_)))))))
  refine .call _ rfl AJ6 rfl (AI8 (up2.ext e3.size) (ER.ext eZ hn2 e3) (Nat.le_trans hl.1 (by omega))) fun v4 w4 e4 h4=>?_
  refine .storeA (E:=eZ) ty_Z rfl rfl ((k2.ext e3).ext e4) rfl rfl h4 hS fun w5 k5 u5 h5=>.nil (.ret ?_)
  exact .cell Tryz.results156 rfl ty_Z rfl rfl k5 h5 ⟨u5.below ((x2.trans e3).trans e4) (by omega),by rw [show pn q=zval q.num by unfold pn;rw [if_neg h0]];exact h5.out⟩
theorem Ak3:Ent Tryz.prog 155:=A0 Tryz.func155 (by kernel_rfl) rfl
theorem Ai0 {S:Nat→Prop} {w:World} {va vb:Value} {a b:ZV} {L:Nat} (up:Up S w) (ha:eZ.R S w va a) (hb:eZ.R S w vb b) (hla:a.w.length≤L) (hlb:b.w.length≤L) (hL:L≤1000000000) (hb0:0<zval b):CR Tryz.prog 155 #[va,vb] w (eQ.at S (qc (Rat.divInt (zval a) (zval b)))):=by
 have hda:=AF8 ha
 have hdb:=AF8 hb
 have hqc:=AR7 (n:=zval a) hb0
 have hga:=I8 a
 have hgb:=I8 b
 have hBp:0<val b.w:=by omega
 have hla1:=R7 hda hla
 have hlb1:=R7 hdb hlb
 rw [hga] at hla1
 rw [hgb] at hlb1
 rw [hga,hgb] at hqc
 have hg1:Nat.gcd (val a.w) (val b.w)≤val b.w:=Nat.gcd_le_right _ hBp
 have hg0:0<Nat.gcd (val a.w) (val b.w):=Nat.gcd_pos_of_pos_right _ hBp
 generalize hgg:Nat.gcd (val a.w) (val b.w)=g at *
 obtain ⟨s,rfl,hs⟩:=ha
 obtain ⟨t,rfl,ht⟩:=hb
 have ha:eZ.R S w (.agg #[.bool a.neg,s]) a:=⟨s,rfl,hs⟩
 have hb:eZ.R S w (.agg #[.bool b.neg,t]) b:=⟨t,rfl,ht⟩
 refine enter Tryz.func155 rfl Tryz.ntmps155 rfl ?_
 refine .seq (.region (.box rfl rfl fun w1 b2 n1=>.box rfl rfl fun w2 b3 n2=>.alloc rfl C3 fun w3 b4 n3=>.nil ?_))
 obtain ⟨e1,k2,hb2,hs1⟩:=n1
 obtain ⟨e2,k3,hb3,hs2⟩:=n2
 obtain ⟨e3,k4,hb4,hs3⟩:=n3
 have x3:=(e1.trans e2).trans e3
 have k2:=(k2.ext e2).ext e3
 have k3:=k3.ext e3
 have hS4:¬ Sx S w.heap.size w3.heap.size b4:=Sx.no (by omega) (by omega)
 have up3:Up (Sx S w.heap.size w3.heap.size) w3:=Sx.up up (Nat.le_refl _) x3.size
 have ha3:=(ER.par eZ ha w3.heap.size).ext x3
 have hb3':=(ER.par eZ hb w3.heap.size).ext x3
 have hout:∀ {W:World} {v:Value} {z:QV},eQ.R (Sx S w.heap.size w3.heap.size) W v z→eQ.R S W v z:=fun h=>h.out
 generalize hT:Sx S w.heap.size w3.heap.size=T at *
 refine .seq (.region (.ldA ty_Z rfl rfl k2 rfl (.ldA ty_Z rfl rfl k3 rfl ?_)))
 refine .call _ rfl Aq9 rfl (An4 up3 ha3 hb3' (by omega) (by omega)) fun v4 w4 e4 h4=>?_
 rw [hgg] at h4
 obtain ⟨s4,rfl,hs4⟩:=h4
 have h4:eZ.R T w4 (.agg #[.bool (zc (g:Nat)).neg,s4]) (zc (g:Nat)):=⟨s4,rfl,hs4⟩
 refine .alloc rfl C2 fun w5 b5 n5=>?_
 obtain ⟨e5,k5,hb5,hs5⟩:=n5
 refine .storeA (E:=eZ) ty_Z rfl rfl k5 rfl rfl (ER.ext eZ (ER.lt eZ h4) e5) (fun h=>by have:=h.2;omega) fun w6 k5 u6 _=>.nil ?_
 have e46:Ext w4 w6:=u6.below e5 (by omega)
 have e36:=e4.trans e46
 have up6:=up3.ext e36.size
 have lg:(zc (g:Nat)).w.length≤1000000000:=Nat.le_trans (N5 (L:=L) (by rw [Int.natAbs_natCast];exact Nat.lt_of_le_of_lt hg1 hlb1)) hL
 have hgz:zval (zc ((g:Nat):Int))=(g:Int):=F0 _
 refine .seq (.region (.ldA ty_Z rfl rfl (k2.ext e36) rfl (.ldA ty_Z rfl rfl k5 rfl ?_)))
 refine .call _ rfl AW3 rfl (AU7 up6 (ER.ext eZ ha3 e36) (ER.ext eZ h4 e46) (by omega) lg (by rw [hgz];omega)) fun v7 w7 e7 h7=>?_
 obtain ⟨vq,vr,_,rfl,hq,hr,rfl⟩:=h7
 rw [hgz] at hq hr
 obtain ⟨sq,rfl,hsq⟩:=hq
 have hq:eZ.R T w7 (.agg #[.bool (zc (zval a / (g:Nat))).neg,sq]) (zc (zval a / (g:Nat))):=⟨sq,rfl,hsq⟩
 refine .mv rfl rfl (.ext rfl rfl rfl (.ext rfl rfl rfl (.ext rfl rfl rfl (.alloc rfl C2 fun w8 b6 n8=>.alloc rfl C2 fun w9 b7 n9=>?_))))
 obtain ⟨e8,k6,hb6,hs8⟩:=n8
 obtain ⟨e9,k7,hb7,hs9⟩:=n9
 have e79:=e8.trans e9
 refine .storeA (E:=eZ) ty_Z rfl rfl (k6.ext e9) rfl rfl (ER.ext eZ (ER.lt eZ hq) e79) (fun h=>by have:=h.2;omega) fun w10 k6 u10 _=>?_
 have e710:Ext w7 w10:=u10.below e79 (by omega)
 refine .storeA (E:=eZ) ty_Z rfl rfl (k7.upd u10 (by omega)) rfl rfl (ER.ext eZ (ER.lt eZ hr) e710) (fun h=>by have:=h.2;omega) fun w11 k7 u11 _=>.asg rfl rfl (.nil ?_)
 have e711:Ext w7 w11:=u11.below e710 (by omega)
 have k6:=k6.upd u11 (by omega)
 have e611:=e7.trans e711
 have up11:=up6.ext e611.size
 have k5:=k5.ext e611
 have e311:=e36.trans e611
 refine .seq (.region (.ldA ty_Z rfl rfl (k3.ext e311) rfl (.ldA ty_Z rfl rfl k5 rfl ?_)))
 refine .call _ rfl AW3 rfl (AU7 up11 (ER.ext eZ hb3' e311) (ER.ext eZ (ER.ext eZ h4 e46) e611) (by omega) lg (by rw [hgz];omega)) fun v12 w12 e12 h12=>?_
 obtain ⟨vd,ve,_,rfl,hd,he,rfl⟩:=h12
 rw [hgz] at hd he
 obtain ⟨sd,rfl,hsd⟩:=hd
 have hd:eZ.R T w12 (.agg #[.bool (zc (zval b / (g:Nat))).neg,sd]) (zc (zval b / (g:Nat))):=⟨sd,rfl,hsd⟩
 refine .mv rfl rfl (.ext rfl rfl rfl (.ext rfl rfl rfl (.ext rfl rfl rfl (.alloc rfl C2 fun w13 b9 n13=>.alloc rfl C2 fun w14 b10 n14=>?_))))
 obtain ⟨e13,k9,hb9,hs13⟩:=n13
 obtain ⟨e14,k10,hb10,hs14⟩:=n14
 have e1214:=e13.trans e14
 refine .storeA (E:=eZ) ty_Z rfl rfl (k9.ext e14) rfl rfl (ER.ext eZ (ER.lt eZ hd) e1214) (fun h=>by have:=h.2;omega) fun w15 k9 u15 _=>?_
 have e1215:Ext w12 w15:=u15.below e1214 (by omega)
 refine .storeA (E:=eZ) ty_Z rfl rfl (k10.upd u15 (by omega)) rfl rfl (ER.ext eZ (ER.lt eZ he) e1215) (fun h=>by have:=h.2;omega) fun w16 k10 u16 _=>.asg rfl rfl (.nil ?_)
 have e1216:Ext w12 w16:=u16.below e1215 (by omega)
 have k9:=k9.upd u16 (by omega)
 have e1116:=e12.trans e1216
 have k6:=k6.ext e1116
 have up16:=up11.ext e1116.size
 have hd:=ER.ext eZ hd e1216
 have hq:=ER.ext eZ hq (e711.trans e1116)
 have hdl:(zc (zval b / (g:Nat))).w.length≤1000000000:=Nat.le_trans (N5 (L:=L) (Nat.lt_of_le_of_lt (Int.natAbs_ediv_le_natAbs _ _) (by rw [hgb];exact hlb1))) hL
 have e316:=e311.trans e1116
 have k4:=k4.ext e316
 refine .seq (.seq ?_)
 refine .par follows 4 [.inl (.agg #[.bool (zc (zval b / (g:Nat))).neg,sd]),.inr (eZ.at T (zc 1)),.inl (.int .i64 (cmpI (zval (zc (zval b / (g:Nat)))) (zval (zc 1)))),.inl (.bool (cmpI (zval (zc (zval b / (g:Nat)))) (zval (zc 1)) == 0))] [[],[],[(29,0),(30,1)],[(31,2)]] (by kernel_rfl) ⟨
  fun w e=>(C0 ty_Z rfl (k9.ext e) rfl).ob,fun w e=>(A3 _ AV9 rfl (AU3 (up16.ext e.size))).ob (A9 _ _ _),
  fun w e x hx=>A3 _ Ar0 rfl (An5 (up16.ext e.size) (ER.ext eZ hd e) hx hdl (Nat.le_trans (N5 (L:=1) (by decide)) (by omega))),fun w e=>(Aw7 rfl rfl).ob,trivial⟩ ?_
 intro w17 e17 x1 hx1
 rw [F0,F0]
 have k4:=k4.ext e17
 have k6:=k6.ext e17
 have k9:=k9.ext e17
 obtain ⟨sq',he1,hsq'⟩:=ER.ext eZ hq e17
 obtain ⟨sd',he2,hsd'⟩:=ER.ext eZ hd e17
 injection he1 with he1
 injection he2 with he2
 simp at he1 he2
 subst he1
 subst he2
 have hxx:=x3.trans (e316.trans e17)
 by_cases h1:zval b / (g:Nat)=1
 ·rw [show (cmpI (zval b / (g:Nat)) 1 == 0)=true by rw [h1];decide]
  rw [if_pos h1] at hqc
  have hfin:eQ.R T w17 (.agg #[.bool (zc (zval a / (g:Nat))).neg,sq,.bool false,.slice none 0 0]) (qc (Rat.divInt (zval a) (zval b))):=by
   rw [hqc];exact ⟨sq,.slice none 0 0,rfl,hsq',RL.nil⟩
  refine .nil (.condT rfl (.seq (.region (.ldA ty_Z rfl rfl k6 rfl (.bld [(0,.agg #[.bool (zc (zval a / (g:Nat))).neg,sq])] rfl rfl Av1 ?_)))))
  refine .storeA (E:=eQ) ty_Q rfl rfl k4 rfl rfl hfin hS4 fun w18 k18 u18 h18=>.nil (.ret ?_)
  exact .cell Tryz.results155 rfl ty_Q rfl rfl k18 h18 ⟨u18.below hxx (by omega),hout h18⟩
 ·rw [show (cmpI (zval b / (g:Nat)) 1 == 0)=false by unfold cmpI;split<;>(try split)<;>first | rfl | omega]
  rw [if_neg h1] at hqc
  have hfin:eQ.R T w17 (.agg #[.bool (zc (zval a / (g:Nat))).neg,sq,.bool (zc (zval b / (g:Nat))).neg,sd]) (qc (Rat.divInt (zval a) (zval b))):=by
   rw [hqc];exact ⟨sq,sd,rfl,hsq',hsd'⟩
  refine .nil (.condF rfl (.skip (.seq (.region (.ldA ty_Z rfl rfl k6 rfl (.ldA ty_Z rfl rfl k9 rfl (.bld [(0,.agg #[.bool (zc (zval a / (g:Nat))).neg,sq]),(1,.agg #[.bool (zc (zval b / (g:Nat))).neg,sd])] rfl rfl Ac6 ?_)))))))
  refine .storeA (E:=eQ) ty_Q rfl rfl k4 rfl rfl hfin hS4 fun w18 k18 u18 h18=>.nil (.ret ?_)
  exact .cell Tryz.results155 rfl ty_Q rfl rfl k18 h18 ⟨u18.below hxx (by omega),hout h18⟩
end Go.Proofs.YteghbhdniimjbaaGreat

namespace Go.Kx
end Go.Kx
namespace Go.Proofs.YteghbhdniimjbaaGreat
open Go Go.Kx Go.RowKit
theorem zl {n:Int} {L K:Nat} (h:n.natAbs<4294967296 ^ L) (hL:L≤K):(zc n).w.length≤K:=Nat.le_trans (N5 h) hL
theorem eQ_digs {S:Nat→Prop} {w:World} {v:Value} {q:QV} (h:eQ.R S w v q):dig q.num.w∧dig q.den.w:=by
 obtain ⟨s,t,_,h1,h2⟩:=h
 exact ⟨E3 h1,E3 h2⟩
theorem Ae9:Ent Tryz.prog 91:=A0 Tryz.func91 (by kernel_rfl) rfl
theorem Ae1 {S:Nat→Prop} {w:World} {v:Value} {q:QV} {L:Nat} (up:Up S w) (h:eQ.R S w v q) (hl:qok L q) (h1:1≤L) (hL:L≤1000000000):CR Tryz.prog 91 #[v] w (eQ.at S (qc (qval q))):=by
 obtain ⟨hd1,hd2⟩:=eQ_digs h
 have hln:=pn_lt hd1 hl
 have hld:=pd_lt hd2 hl h1
 have hpp:=K4 q
 obtain ⟨s,t,rfl,hs,ht⟩:=h
 have h:eQ.R S w (.agg #[.bool q.num.neg,s,.bool q.den.neg,t]) q:=⟨s,t,rfl,hs,ht⟩
 refine enter Tryz.func91 rfl Tryz.ntmps91 rfl ?_
 refine .seq (.region (.box rfl rfl fun w1 b1 n1=>.alloc rfl C3 fun w2 b2 n2=>.nil ?_))
 obtain ⟨e1,k1,hb1,hs1⟩:=n1
 obtain ⟨e2,k2,hb2,hs2⟩:=n2
 have x2:=e1.trans e2
 have k1:=k1.ext e2
 have hS:¬ Sx S w.heap.size w2.heap.size b2:=Sx.no (by omega) (by omega)
 have up2:Up (Sx S w.heap.size w2.heap.size) w2:=Sx.up up (Nat.le_refl _) x2.size
 have h2:=(ER.par eQ h w2.heap.size).ext x2
 have hout:∀ {W:World} {v:Value} {z:QV},eQ.R (Sx S w.heap.size w2.heap.size) W v z→eQ.R S W v z:=fun h=>h.out
 generalize hT:Sx S w.heap.size w2.heap.size=T at *
 refine .seq ?_
 refine .par follows 5 [.inl _,.inr (eZ.at T (zc (pn q))),.inl _,.inr (eZ.at T (zc (pd q))),.inr (eQ.at T (qc (Rat.divInt (zval (zc (pn q))) (zval (zc (pd q))))))] [[],[(3,0)],[],[(5,2)],[(4,1),(6,3)]] (by kernel_rfl) ⟨
  fun w e=>(C0 ty_Q rfl (k1.ext e) rfl).ob,fun w e=>(A3 _ Aq5 rfl (An0 (up2.ext e.size) (ER.ext eQ h2 e) hl hL)).ob (A9 _ _ _),
  fun w e=>(C0 ty_Q rfl (k1.ext e) rfl).ob,fun w e=>(A3 _ Aq6 rfl (An1 (up2.ext e.size) (ER.ext eQ h2 e) hl hL)).ob (A9 _ _ _),
  fun w e x hx y hy=>(A3 _ Ak3 rfl (Ai0 (up2.ext e.size) hx hy (zl hln (Nat.le_refl _)) (zl hld (Nat.le_refl _)) hL (by rw [F0];exact hpp))).ob (A9 _ _ _),trivial⟩ ?_
 intro w3 e3 x hx y hy z hz
 rw [F0,F0] at hz
 refine .storeA (E:=eQ) ty_Q rfl rfl (k2.ext e3) rfl rfl hz hS fun w4 k4 u4 h4=>.nil (.ret ?_)
 exact .cell Tryz.results91 rfl ty_Q rfl rfl k4 h4 ⟨u4.below (x2.trans e3) (by omega),hout h4⟩
end Go.Proofs.YteghbhdniimjbaaGreat

namespace Go.Kx
open Go Go.RowKit
end Go.Kx
namespace Go.Proofs.YteghbhdniimjbaaGreat
open Go Go.Kx Go.RowKit
end Go.Proofs.YteghbhdniimjbaaGreat

namespace Go.Proofs.YteghbhdniimjbaaGreat
open Go Go.Kx Go.RowKit
end Go.Proofs.YteghbhdniimjbaaGreat

namespace Go.Kx
end Go.Kx
namespace Go.Proofs.YteghbhdniimjbaaGreat
open Go Go.Kx Go.RowKit
end Go.Proofs.YteghbhdniimjbaaGreat

namespace Go.Proofs.YteghbhdniimjbaaGreat
open Go Go.Kx Go.RowKit
theorem BH6 {w:World} {v:Value} {t:TypeId} {sz n B B':Nat} {xs:List Value} (h:w.ownsRow B t sz v n xs) (hB:B'≤B):w.ownsRow B' t sz v n xs:=by
 refine ⟨h.1,?_⟩
 rcases h.2 with h | ⟨g,cap,cur,h1,h2,h3⟩
 ·exact .inl h
 ·exact .inr ⟨g,cap,cur,h1,Nat.le_trans hB h2,h3⟩
theorem OwnL.base {α:Type} {E:ER α} {t:TypeId} {B B':Nat} {X:Nat→Prop} {w:World} {v:Value} {l:List α} (h:OwnL E t B X w v l) (hB:B'≤B):OwnL E t B' X w v l:=by
 obtain ⟨es,h1,h2⟩:=h
 exact ⟨es,BH6 h1 hB,h2⟩
end Go.Proofs.YteghbhdniimjbaaGreat

namespace Go.Proofs.YteghbhdniimjbaaGreat
open Go Go.Kx Go.RowKit
end Go.Proofs.YteghbhdniimjbaaGreat

namespace Go.Proofs.YteghbhdniimjbaaGreat
open Go Go.Kx Go.RowKit
end Go.Proofs.YteghbhdniimjbaaGreat

namespace Go.Proofs.YteghbhdniimjbaaGreat
open Go Go.Kx Go.RowKit
end Go.Proofs.YteghbhdniimjbaaGreat

namespace Go.Proofs.YteghbhdniimjbaaGreat
open Go Go.Kx Go.RowKit
end Go.Proofs.YteghbhdniimjbaaGreat

namespace Go.Kx
open Go Go.RowKit
section
variable {P:Program} {σ:Env} {w:World} {d:Option Tmp} {ty:TypeId} {pos:String} {af:Array Edge} {g:Option (Nat×Bool)}
end
end Go.Kx
namespace Go.Proofs.YteghbhdniimjbaaGreat
open Go Go.Kx Go.RowKit
end Go.Proofs.YteghbhdniimjbaaGreat

namespace Go.Kx
end Go.Kx
namespace Go.Proofs.YteghbhdniimjbaaGreat
open Go Go.Kx Go.RowKit
end Go.Proofs.YteghbhdniimjbaaGreat

namespace Go.Kx
open Go Go.RowKit
end Go.Kx
namespace Go.Proofs.YteghbhdniimjbaaGreat
open Go Go.Kx Go.RowKit
structure VR (W:World) (v:Value) (n L:Nat) (a:List QV):Prop where
 r:eV.R (fun _=>True) W v a
 hn:a.length≤n
 hk:vk L a
section
variable {W W':World} {v va vb:Value} {n c n' c' L L':Nat} {a b m:List (List QV)} {x y:List QV}
theorem upT {W:World}:Up (fun _=>True) W:=fun _ _=>trivial
end
theorem okV.vr {W:World} {v:Value} {a:List QV} (h:okV a) (hr:eV.R (fun _=>True) W v a):VR W v 20 6 a:=⟨hr,h.1,eV_vk hr h.2 (by decide)⟩
end Go.Proofs.YteghbhdniimjbaaGreat

namespace Go.Proofs.YteghbhdniimjbaaGreat
open Go Go.Kx Go.RowKit
/-- slices just laid in a row -/
theorem Au3 {α:Type} {E:ER α} {hsz:0<E.sz} {S:Nat→Prop} {w w':World} {b:Nat} {t:TypeId} {cs:Array Value} {n:Nat} (vs:List Value) (ls:List (List α)) (hn:New w w' b t cs) (up:Up S w) (hcs:cs=vs.toArray) (hl:ls.length=n) (hm:n≤1000) (h:Els (RL E hsz) S w vs ls) :
  (RL (RL E hsz) (show 0<1 by decide)).R S w' (.slice (some ⟨b,0,none⟩) n n) ls:=by
 subst hl
 refine RL.ofBlk (es:=vs) hn.2.1 (up b (by have:=hn.2.2.1;omega)) (h.ext hn.1) (fun j u hu=>?_) (Nat.le_refl _) (by omega)
 rw [hcs]
 have hv:∀ v∈vs,v.cells=#[v]:=by
  intro v hv
  obtain ⟨i,hi⟩:=List.mem_iff_getElem?.1 hv
  have hlt:=Ai3 hi
  obtain ⟨a,c,rfl,_⟩:=RL.len (h.2 i v _ hi (List.getElem?_eq_getElem (by rw [←h.1];exact hlt)))
  rfl
 have:cellsOf vs=vs:=by
  clear h hcs hu
  induction vs with
  | nil=>rfl
  | cons v vs ih=>rw [cellsOf,List.flatMap_cons,hv v (by simp),←cellsOf,ih fun u hu=>hv u (by simp [hu])];rfl
 rw [this] at hu
 simpa using hu
end Go.Proofs.YteghbhdniimjbaaGreat

namespace Go.Proofs.YteghbhdniimjbaaGreat
open Go Go.Kx Go.RowKit
theorem Av6:Ent Tryz.prog 108:=A0 Tryz.func108 (by kernel_rfl) rfl
theorem At2 {S:Nat→Prop} {w:World} {n d:Int} (up:Up S w) (hn : -9223372036854775808≤n∧n≤9223372036854775807) (hd:0<d∧d≤9223372036854775807):CR Tryz.prog 108 #[.int .i64 n,.int .i64 d] w (eQ.at S (qc (Rat.divInt n d))):=by
 refine enter Tryz.func108 rfl Tryz.ntmps108 rfl ?_
 refine .seq (.region (.alloc rfl C3 fun w1 b4 n1=>.nil (.seq (.region (.mv rfl rfl ?_)))))
 obtain ⟨e1,k4,hb4,hs1⟩:=n1
 have hS4:¬ Sx S w.heap.size w1.heap.size b4:=Sx.no (by omega) (by omega)
 have up1:Up (Sx S w.heap.size w1.heap.size) w1:=Sx.up up (Nat.le_refl _) e1.size
 refine .call _ rfl AD3 rfl (AC4 up1 hn.1 hn.2) fun v2 w2 e2 h2=>.mv rfl rfl ?_
 refine .call _ rfl AD3 rfl (AC4 (up1.ext e2.size) (by omega) hd.2) fun v3 w3 e3 h3=>?_
 obtain ⟨s,rfl,hs⟩:=ER.ext eZ h2 e3
 obtain ⟨t,rfl,ht⟩:=h3
 refine .bld _ rfl rfl Ac6 ?_
 have hq:eQ.R (Sx S w.heap.size w1.heap.size) w3 (.agg #[.bool (zc n).neg,s,.bool (zc d).neg,t]) ⟨zc n,zc d⟩:=⟨s,t,rfl,hs,ht⟩
 have hok:qok 2 ⟨zc n,zc d⟩:=⟨N5 (by omega),N5 (by omega)⟩
 have hv:qval ⟨zc n,zc d⟩=Rat.divInt n d:=by
  unfold qval pn pd
  simp only [F0]
  rw [if_neg (by omega),if_neg (by omega),if_neg (by omega)]
 refine .call _ rfl Ae9 rfl (Ae1 (up1.ext (e2.trans e3).size) hq hok (by decide) (by decide)) fun v4 w4 e4 h4=>?_
 rw [hv] at h4
 refine .storeA (E:=eQ) ty_Q rfl rfl (((k4.ext e2).ext e3).ext e4) rfl rfl h4 hS4 fun w5 k5 u5 h5=>.nil (.ret ?_)
 exact .cell Tryz.results108 rfl ty_Q rfl rfl k5 h5 ⟨u5.below (((e1.trans e2).trans e3).trans e4) (by omega),h5.out⟩
end Go.Proofs.YteghbhdniimjbaaGreat

namespace Go.Proofs.YteghbhdniimjbaaGreat
open Go Go.Kx Go.RowKit
section
variable {m:List (List QV)} {b:List QV}
theorem rm_aug (i k:Nat):rm (augM m b) i k=if i<max m.length b.length∧k<colsOf m+1 then augF m b i k else 0:=AG9 ..
theorem Ah3 (h:0<max m.length b.length):colsOf (augM m b)=colsOf m+1:=by rw [Ac9,if_neg (by omega)]
theorem Az9 (h:0<max m.length b.length):Ech (max m.length b.length) (colsOf m+1) (redF (augM m b)) (redP (augM m b)):=by
 have:=X7 (augM m b)
 rwa [AI3,Ah3 h] at this
theorem Ax7 (m:List (List QV)):Req m.length (colsOf m) (rm m) (redF m):=AP7 _ _ _ _
theorem Az8 (h:0<max m.length b.length):Req (max m.length b.length) (colsOf m+1) (augF m b) (redF (augM m b)):=by
 have:=Ax7 (augM m b)
 rw [AI3,Ah3 h] at this
 have e:∀ i k,i<max m.length b.length→k<colsOf m+1→augF m b i k=rm (augM m b) i k:=fun i k hi hk=>by rw [rm_aug,if_pos ⟨hi,hk⟩]
 exact ⟨fun i hi=>(this.1 i hi).of_eq e,fun i hi=>(this.2 i hi).congr fun k hk=>e i k hi hk⟩
theorem aug_nil (h:max m.length b.length=0):redP (augM m b)=[]:=by
 have:=(X7 (augM m b)).len
 rw [AI3] at this
 exact List.length_eq_zero_iff.1 (by omega)
theorem Ap6 {i k:Nat} (h:k<colsOf m):augF m b i k=rm m i k:=by unfold augF;rw [if_pos h]
theorem Ah4 {i:Nat}:augF m b i (colsOf m)=rv b i:=by unfold augF;rw [if_neg (Nat.lt_irrefl _)]
theorem rv_solX (k:Nat):rv (solX m b) k=if k<colsOf m then partF (redF (augM m b)) (redP (augM m b)) (colsOf m) k else 0:=T1 ..
theorem rv_big {i:Nat} (h:max m.length b.length≤i):rv b i=0:=AC3 (by omega)
theorem rm_big {i k:Nat} (h:max m.length b.length≤i):rm m i k=0:=At0 (by omega)
/-- what Solve returns is a solution -/
theorem sol_eq (hs:solvable m b) (i:Nat):sumN (colsOf m) (fun k=>rm m i k*rv (solX m b) k)=rv b i:=by
 rcases Nat.lt_or_ge i (max m.length b.length) with hi | hi
 ·have h0:0<max m.length b.length:=by omega
  have:=sol_of (Az9 h0) (Az8 h0) (fun j hj e=>hs (e▸D4 hj)) i hi
  rw [Ah4] at this
  rw [←this]
  exact A4 fun k hk=>by rw [rv_solX,if_pos hk,Ap6 hk]
 ·rw [rv_big hi,F1 fun k _=>by rw [rm_big hi,Rat.zero_mul]]
theorem solv_of {y:Nat→Rat} (hy:∀ i,sumN (colsOf m) (fun k=>rm m i k*y k)=rv b i):solvable m b:=by
 intro hC
 by_cases h0:max m.length b.length=0
 ·rw [aug_nil h0] at hC;cases hC
 ·have h0:0<max m.length b.length:=by omega
  obtain ⟨j,hj,hjC⟩:=AV2 hC
  obtain ⟨t,ht1,ht2⟩:=no_sol (Az9 h0) (Az8 h0) hj hjC
  have:=sol_no (A:=augF m b) (x:=y) (fun i _=>by
   rw [Ah4,←hy i]
   exact A4 fun k hk=>by rw [Ap6 hk]) ht1
  rw [this] at ht2
  exact absurd ht2 (by decide)
theorem AV0:(nullM m).length=(freeC m).length:=by unfold nullM;simp
theorem BB8 (m:List (List QV)):(nullM m).length+(redP m).length=colsOf m:=by rw [AV0];exact (X7 m).free_len
theorem BC0 {k:Nat}:k∈freeC m↔k<colsOf m∧k∉redP m:=by
 unfold freeC freeTo
 rw [List.mem_filter,List.mem_range]
 simp
theorem BC1 {i:Nat} (hi:i<(freeC m).length):(freeC m).getD i 0<colsOf m∧(freeC m).getD i 0∉redP m:=BC0.1 (D4 hi)
theorem not_piv {p:List Nat} {k:Nat} (h:k∉p):∀ j,j<p.length→p.getD j 0≠k:=fun _ hj e=>h (e▸D4 hj)
theorem BB1 {k:Nat} (hk:k<colsOf m) (i:Nat):sumN (colsOf m) (fun c=>rm m i c*nv (redF m) (redP m) k c)=0:=by
 rcases Nat.lt_or_ge i m.length with hi | hi
 ·exact Spn.dot0 ((Ax7 m).2 i hi) fun j hj=>nv_null (X7 m) hk hj
 ·exact F1 fun c _=>by rw [At0 hi,Rat.zero_mul]
end
end Go.Proofs.YteghbhdniimjbaaGreat

namespace Go.Proofs.YteghbhdniimjbaaGreat
open Go Go.Kx Go.RowKit
theorem rsz1 {L:Nat} (hL:1≤L):Rsz 1 L:=by
 have:=Rsz.int 1 (L:=L) (Nat.lt_of_lt_of_le (by decide) (Nat.pow_le_pow_right (by decide) hL)) hL
 simpa using this
section
variable {m:List (List QV)} {b:List QV}
theorem inv_p (hc:colsOf m=m.length):(invE m).2=redP m:=by
 unfold invE redP
 rw [hc]
 exact (Ao7 (C:=m.length) (fun i k _ hk=>by unfold invF;rw [if_pos hk]) _ (Nat.le_refl _)).2
theorem BI9 (hc:colsOf m=m.length):invertible m↔(redP m).length=m.length:=by
 unfold invertible
 rw [inv_p hc]
 have:=(X7 m).len
 omega
theorem Ay5 (h:invertible m) {i k:Nat} (hi:i<m.length) (hk:k<m.length):(invE m).1 i k=idR i k:=by
 have he:Ech m.length m.length (invE m).1 (invE m).2:=S7 ..
 have hl:(invE m).2.length=m.length:=by have:=he.len;unfold invertible at h;omega
 have:=he.one i k hi (by omega)
 rw [he.full hl k hk] at this
 exact this
theorem BG9 {i k:Nat} (hi:i<m.length) (hk:k<m.length):rm (invM m) i k=(invE m).1 i (m.length+k):=by
 unfold invM
 rw [AG9,if_pos ⟨hi,hk⟩]
theorem Ay7 {i k:Nat}:invF m i (m.length+k)=idR i k:=by
 unfold invF
 rw [if_neg (by omega),Nat.add_sub_cancel_left]
theorem Ay6 {i k:Nat} (h:k<m.length):invF m i k=rm m i k:=by unfold invF;rw [if_pos h]
theorem BG2 {n:Nat} (t:Nat→Rat) {k:Nat} (hk:k<n):sumN n (fun j=>t j*idR j k)=t k:=by
 rw [F7 (i:=k) (fun j hj hne=>by unfold idR;rw [if_neg hne,Rat.mul_zero]),if_pos hk]
 unfold idR
 rw [if_pos rfl,Rat.mul_one]
/-- the matrix by its inverse -/
theorem Ag5 (h:invertible m) {i k:Nat} (hi:i<m.length) (hk:k<m.length):sumN m.length (fun j=>rm m i j*rm (invM m) j k)=idR i k:=by
 obtain ⟨t,ht⟩:=(AP7 m.length (m.length+m.length) (invF m) m.length).2 i hi
 have h1:∀ j,j<m.length→rm m i j=t j:=fun j hj=>by
  have:=ht j (by omega)
  rw [Ay6 hj] at this
  rw [this,←BG2 t hj]
  exact A4 fun l hl=>by rw [←Ay5 h hl hj];rfl
 have h2:=ht (m.length+k) (by omega)
 rw [Ay7] at h2
 rw [h2]
 exact A4 fun j hj=>by rw [h1 j hj,BG9 hj hk];rfl
/-- the inverse by the matrix -/
theorem BJ0 (h:invertible m) {i k:Nat} (hi:i<m.length) (hk:k<m.length):sumN m.length (fun j=>rm (invM m) i j*rm m j k)=idR i k:=by
 obtain ⟨t,ht⟩:=(AP7 m.length (m.length+m.length) (invF m) m.length).1 i hi
 have h1:∀ j,j<m.length→rm (invM m) i j=t j:=fun j hj=>by
  have:=ht (m.length+j) (by omega)
  rw [BG9 hi hj]
  refine Eq.trans this ?_
  rw [←BG2 t hj]
  exact A4 fun l hl=>by rw [Ay7]
 have h2:=ht k (by omega)
 rw [←Ay5 h hi hk]
 refine Eq.trans ?_ h2.symm
 exact A4 fun j hj=>by rw [h1 j hj,Ay6 hk]
theorem Ay4 {L n:Nat} (hk:mk_ L m) (hL:1≤L) (hn:m.length≤n):mk_ (bd L n) (invM m):=by
 refine AO6 fun i k hi hk'=>?_
 have h1:=AP6 (C:=m.length+m.length) (f:=invF m) hL (fun i k _ _=>by
  unfold invF
  split
  ·exact hk.rsz hL i k
  ·unfold idR
   split
   ·exact rsz1 hL
   ·exact Rsz.zero hL) m.length (by omega) i (m.length+k) hi (by omega)
 exact h1.mono (U4 L (Nat.le_trans (S7 m.length (invF m) m.length).len hn))
/-- the inverse solves -/
theorem BI8 (hc:colsOf m=m.length) (h:invertible m) (hb:∀ i,m.length≤i→rv b i=0):solvable m b:=by
 refine solv_of (y:=fun k=>sumN m.length fun j=>rm (invM m) k j*rv b j) fun i=>?_
 rw [hc]
 rcases Nat.lt_or_ge i m.length with hi | hi
 ·have h1:sumN m.length (fun k=>rm m i k*sumN m.length fun j=>rm (invM m) k j*rv b j)=sumN m.length fun j=>idR i j*rv b j:=by
   rw [A4 (g:=fun k=>sumN m.length fun j=>rm m i k*rm (invM m) k j*rv b j) fun k _=>by rw [←O2];exact A4 fun j _=>by rw [Rat.mul_assoc]]
   rw [M7]
   exact A4 fun j hj=>by rw [Q5,Ag5 h hi hj]
  rw [h1,F7 (i:=i) (fun j hj hne=>by unfold idR;rw [if_neg (fun e=>hne e.symm),Rat.zero_mul]),if_pos hi]
  unfold idR
  rw [if_pos rfl,Rat.one_mul]
 ·rw [hb i hi]
  exact F1 fun k _=>by rw [At0 hi,Rat.zero_mul]
theorem inv_sol (hc:colsOf m=m.length) (h:invertible m) (hs:solvable m b) {i:Nat} (hi:i<m.length):sumN m.length (fun j=>rm (invM m) i j*rv b j)=rv (solX m b) i:=by
 rw [A4 (g:=fun j=>sumN m.length fun k=>rm (invM m) i j*rm m j k*rv (solX m b) k) fun j _=>by rw [←sol_eq hs j,hc,←O2];exact A4 fun k _=>by rw [Rat.mul_assoc]]
 rw [M7,A4 (g:=fun k=>idR i k*rv (solX m b) k) fun k hk=>by rw [Q5,BJ0 h hi hk]]
 rw [F7 (i:=i) (fun j hj hne=>by unfold idR;rw [if_neg (fun e=>hne e.symm),Rat.zero_mul]),if_pos hi]
 unfold idR
 rw [if_pos rfl,Rat.one_mul]
end
end Go.Proofs.YteghbhdniimjbaaGreat

namespace Go.Proofs.YteghbhdniimjbaaGreat
open Go Go.Kx Go.RowKit
theorem N0 (p:List Nat) (i:Nat):freeTo p (i+1)=freeTo p i++if i∈p then [] else [i]:=by
 unfold freeTo
 rw [List.range_succ,List.filter_append]
 by_cases h:i∈p<;>simp [h]
theorem Ab3 (p:List Nat) (i:Nat):∀ d,∃ t,freeTo p (i+d)=freeTo p i++t
 | 0=>⟨[],(List.append_nil _).symm⟩
 | d+1=>by
  obtain ⟨t,ht⟩:=Ab3 p i d
  exact ⟨t++if i+d∈p then [] else [i+d],by rw [←Nat.add_assoc,N0,ht,List.append_assoc]⟩
theorem BB9 {p:List Nat} {i C:Nat} (hi:i<C) (hp:i∉p):(freeTo p C).getD (freeTo p i).length 0=i∧(freeTo p i).length<(freeTo p C).length:=by
 obtain ⟨t,ht⟩:=Ab3 p (i+1) (C-(i+1))
 rw [show i+1+(C-(i+1))=C by omega,N0,if_neg hp] at ht
 rw [ht]
 constructor
 ·simp [List.getD_eq_getElem?_getD]
 ·simp
section
variable {m:List (List QV)} {b z:List QV}
end
end Go.Proofs.YteghbhdniimjbaaGreat

namespace Go.Kx
open Go Go.RowKit
def oN (o:List Int):List Nat:=o.map Int.toNat
def inL (n:NtV) (o:List Int):List Nat:=freeTo (oN o) n.ls.length
theorem AR9 {n:NtV} {o:List Int} (h:outsOk n o):∀ d i,i+d<o.length→o.getD i 0+d≤o.getD (i+d) 0
 | 0,i,_=>by simp
 | d+1,i,hd=>by
  have h1:=AR9 h d i (by omega)
  have h2:=(h (i+(d+1)) hd).2.2 (by omega)
  rw [show i+(d+1)-1=i+d by omega] at h2
  omega
theorem Ai2 {n:NtV} {o:List Int} (h:outsOk n o) {k:Nat}:k∈oN o↔∃ i,i<o.length∧o.getD i 0=k:=by
 unfold oN
 rw [List.mem_map]
 constructor
 ·rintro ⟨x,hx,rfl⟩
  obtain ⟨i,hi⟩:=List.mem_iff_getElem?.1 hx
  have hlt:=(List.getElem?_eq_some_iff.1 hi).1
  have e:o.getD i 0=x:=by rw [List.getD_eq_getElem?_getD,hi];rfl
  have:=h i hlt
  exact ⟨i,hlt,by omega⟩
 ·rintro ⟨i,hi,e⟩
  exact ⟨o.getD i 0,by rw [List.getD_eq_getElem?_getD,List.getElem?_eq_getElem hi];exact List.getElem_mem hi,by omega⟩
end Go.Kx
namespace Go.Proofs.YteghbhdniimjbaaGreat
open Go Go.Kx Go.RowKit
theorem BH8 {n:NtV} {o:List Int} (h:chkE n≠0):outE n o=chkE n:=by unfold outE;rw [if_pos h]
theorem Ay0 {n:NtV} {o:List Int} (h:outE n o=0):chkE n=0∧outsOk n o:=by
 unfold outE at h
 split at h
 ·exact absurd h (by assumption)
 ·split at h
  ·exact ⟨Classical.not_not.1 (by assumption),by assumption⟩
  ·cases h
theorem Az6 {n:NtV} (h:chkE n=0):1≤n.b∧n.b≤6∧n.ls.length≤10∧chkOk n:=by
 unfold chkE at h
 split at h
 ·cases h
 ·split at h
  ·cases h
  ·split at h
   ·exact ⟨by omega,by omega,by omega,by assumption⟩
   ·cases h
theorem Ad2:Ent Tryz.prog 66:=A0 Tryz.func66 (by kernel_rfl) rfl
theorem Aa5 {S:Nat→Prop} {w:World} {vn vo:Value} {n:NtV} {o:List Int} (hn:eN.R S w vn n) (ho:eI.R S w vo o):CR Tryz.prog 66 #[vn,vo] w (Is (.int .i64 (outE n o))):=by
 obtain ⟨s,rfl,hs,hb⟩:=hn
 have hn:eN.R S w (.agg #[.int .i64 n.b,s]) n:=⟨s,rfl,hs,hb⟩
 obtain ⟨_,_,_,_,hll⟩:=RL.len ho
 obtain ⟨_,_,_,_,hls⟩:=RL.len hs
 refine enter Tryz.func66 rfl Tryz.ntmps66 rfl ?_
 refine .seq (.region (.box rfl rfl fun w1 b2 n1=>.asg rfl rfl (.nil ?_)))
 obtain ⟨e1,k2,hb2,hs1⟩:=n1
 refine .seq (.seq (.region (.ldA ty_N rfl rfl k2 rfl ?_)))
 refine .call _ rfl Ar3 rfl (An9 (hn.ext e1)) fun v2 w2 e2 h2=>.asg rfl rfl (.nil ?_)
 subst h2
 have x2:=e1.trans e2
 refine .seq (.region (.mv rfl rfl ?_))
 by_cases hc:chkE n=0
 rotate_left
 ·refine .neqT rfl rfl rfl hc (.nil (.condT rfl (.seq (.region (.mv rfl rfl (.asg rfl rfl (.nil (.ret ?_))))))))
  exact .plain [_] Tryz.results66 ⟨rfl,trivial⟩ ⟨x2,by rw [BH8 hc];rfl⟩
 have hE:outsOk n o→outE n o=0:=fun h=>by unfold outE;rw [if_neg (by simpa using hc),if_pos h]
 have hE1:¬ outsOk n o→outE n o=1:=fun h=>by unfold outE;rw [if_neg (by simpa using hc),if_neg h]
 refine .neqF rfl rfl rfl hc (.nil (.condF rfl (.skip ?_)))
 have k2:=k2.ext e2
 have hs:=hs.ext x2
 have ho:=ho.ext x2
 refine .seq (.seq (.region (.mv rfl rfl (.lenR un_I rfl rfl ho (.mv rfl rfl (.nil ?_))))))
 refine .block (.loop (α:=Nat) (fun i=>[(1,vo),(2,.pointer (some ⟨b2,0,none⟩)),(13,vo),(14,.int .i64 (o.length:Nat)),(15,.int .i64 (i:Nat))]) (fun i W=>W=w2∧i≤o.length∧∀ j,j<i→0≤o.getD j 0∧o.getD j 0<n.ls.length∧(0<j→o.getD (j-1) 0<o.getD j 0)) (fun i=>o.length-i) 0 ?_ ?_ ?_)
 ·exact lkA rfl
 ·exact ⟨rfl,Nat.zero_le _,fun j hj=>absurd hj (Nat.not_lt_zero _)⟩
 rintro i W ⟨rfl,hi,hall⟩
 refine .seq (.region ?_)
 rcases Nat.lt_or_ge i o.length with hlt | hge
 rotate_left
 ·refine .lssF rfl rfl rfl (by omega) (.nil (.seq (.condF rfl (.exit (.seq (.region (.asg rfl rfl (.nil (.ret ?_)))))))))
  exact .plain [_] Tryz.results66 ⟨rfl,trivial⟩ ⟨x2,by rw [hE fun j hj=>hall j (by omega)];rfl⟩
 have hg:o[i]?=some (o.getD i 0):=A6 hlt
 refine .lssT rfl rfl rfl (by omega) (.nil (.seq (.condT rfl (.skip (.seq (.block (.seq (.region (.mv rfl rfl (.ixN (i:=i) un_I B9 rfl rfl ho rfl hg fun q hq=>.ldE (E:=eInt .i64) B9 rfl rfl hq fun e he=>.asg rfl rfl (.asg rfl rfl (.nil (.seq (.region (.mv rfl rfl ?_)))))))))))))))
 obtain ⟨rfl,_⟩:=he
 have hbad:∀ {σ:Env},¬ (0≤o.getD i 0∧o.getD i 0<n.ls.length∧(0<i→o.getD (i-1) 0<o.getD i 0))→Leave Tryz.prog Tryz.f66 43 (fun v w'=>Ext w w'∧Is (.int .i64 (outE n o)) v w') ((4,.int .i64 1)::σ) [] W:=fun h=>.plain [_] Tryz.results66 ⟨rfl,trivial⟩ ⟨x2,by rw [hE1 fun h'=>h (h' i hlt)];rfl⟩
 by_cases h0:o.getD i 0<0
 ·refine .lssT rfl rfl rfl h0 (.mv rfl rfl (.gs rfl rfl rfl rfl rfl (.gs rfl rfl rfl rfl rfl (.gs rfl rfl rfl rfl rfl (.gs rfl rfl rfl rfl rfl (.gs rfl rfl rfl rfl rfl (.pick rfl rfl rfl (.mv rfl rfl (.gs rfl rfl rfl rfl rfl (.gs rfl rfl rfl rfl rfl (.gs rfl rfl rfl rfl rfl ?_)))))))))))
  refine .gu rfl rfl rfl rfl (.gu rfl rfl rfl rfl (.gu rfl rfl rfl rfl (.gu rfl rfl rfl rfl (.gu rfl rfl rfl rfl (.gu rfl rfl rfl rfl (.gu rfl rfl rfl rfl (.gs rfl rfl rfl rfl rfl (.pick rfl rfl rfl (.nil (.condT rfl (.seq (.region (.asg rfl rfl (.nil (.ret ?_)))))))))))))))
  exact hbad (by omega)
 refine .lssF rfl rfl rfl (by omega) (.mv rfl rfl (.gr rfl rfl rfl rfl (.mv rfl rfl (.gr rfl rfl rfl rfl (.fa L6 rfl rfl (.gr rfl rfl rfl rfl (.ld T6 rfl rfl k2 rfl (.gr rfl rfl rfl rfl (.lenR P8 rfl rfl hs (.gr rfl rfl rfl rfl ?_))))))))))
 by_cases h1:(n.ls.length:Int)≤o.getD i 0
 ·refine .geqT rfl rfl rfl h1 (.pick rfl rfl rfl (.mv rfl rfl (.gs rfl rfl rfl rfl rfl (.gs rfl rfl rfl rfl rfl (.gs rfl rfl rfl rfl rfl ?_)))))
  refine .gu rfl rfl rfl rfl (.gu rfl rfl rfl rfl (.gu rfl rfl rfl rfl (.gu rfl rfl rfl rfl (.gu rfl rfl rfl rfl (.gu rfl rfl rfl rfl (.gu rfl rfl rfl rfl (.gs rfl rfl rfl rfl rfl (.pick rfl rfl rfl (.nil (.condT rfl (.seq (.region (.asg rfl rfl (.nil (.ret ?_)))))))))))))))
  exact hbad (by omega)
 refine .geqF rfl rfl rfl (by omega) (.pick rfl rfl rfl (.mv rfl rfl (.gr rfl rfl rfl rfl (.mv rfl rfl (.gr rfl rfl rfl rfl ?_)))))
 have hnext:∀ {σ:Env},(0<i→o.getD (i-1) 0<o.getD i 0)→Kx.look σ 1=some vo→Kx.look σ 2=some (.pointer (some ⟨b2,0,none⟩))→Kx.look σ 13=some vo→Kx.look σ 14=some (.int .i64 (o.length:Nat))→∃ i':Nat,(∀ t v,Kx.look [(1,vo),(2,.pointer (some ⟨b2,0,none⟩)),(13,vo),(14,.int .i64 (o.length:Nat)),(15,.int .i64 (i':Nat))] t=some v→Kx.look ((15,.int .i64 ((i:Int)+1))::σ) t=some v)∧(W=W∧i'≤o.length∧∀ j,j<i'→0≤o.getD j 0∧o.getD j 0<n.ls.length∧(0<j→o.getD (j-1) 0<o.getD j 0))∧o.length-i'<o.length-i:=by
  intro σ hlast a1 a2 a3 a4
  refine ⟨i+1,A5 a1 (A5 a2 (A5 a3 (A5 a4 (lkA rfl)))),⟨rfl,hlt,fun j hj=>?_⟩,by omega⟩
  by_cases e:j=i
  ·subst e;exact ⟨by omega,by omega,hlast⟩
  ·exact hall j (by omega)
 by_cases hi0:0<i
 ·have hg':o[i-1]?=some (o.getD (i-1) 0):=A6 (by omega)
  refine .gtrT rfl rfl rfl (by omega) (.gr rfl rfl rfl rfl (.mv rfl rfl (.gr rfl rfl rfl rfl (.mv rfl rfl (.gr rfl rfl rfl rfl (.mv rfl rfl (.gr rfl rfl rfl rfl (.mv rfl rfl (.gr rfl rfl rfl rfl (.sub rfl rfl rfl ?_))))))))))
  rw [wI (by omega),show (i:Int)-1=((i-1:Nat):Int) by omega]
  refine .gr rfl rfl rfl rfl (.ixN (i:=i-1) un_I B9 rfl rfl ho rfl hg' fun q hq=>.gr rfl rfl rfl rfl (.ldE (E:=eInt .i64) B9 rfl rfl hq fun e he=>?_))
  obtain ⟨rfl,_⟩:=he
  by_cases hle:o.getD i 0≤o.getD (i-1) 0
  ·refine .gr rfl rfl rfl rfl (.leqT rfl rfl rfl hle (.gr rfl rfl rfl rfl (.pick rfl rfl rfl (.pick rfl rfl rfl (.nil (.condT rfl (.seq (.region (.asg rfl rfl (.nil (.ret ?_)))))))))))
   exact hbad (fun h=>by have:=h.2.2 hi0;omega)
  ·refine .gr rfl rfl rfl rfl (.leqF rfl rfl rfl (by omega) (.gr rfl rfl rfl rfl (.pick rfl rfl rfl (.pick rfl rfl rfl (.nil (.condF rfl (.skip (.region (.add rfl rfl rfl (.mv rfl rfl (.nil ?_)))))))))))
   rw [wI (by omega)]
   exact ⟨rfl,hnext (fun _=>by omega) rfl rfl rfl rfl⟩
 ·refine .gtrF rfl rfl rfl (by omega) (.gr rfl rfl rfl rfl (.mv rfl rfl (.gs rfl rfl rfl rfl rfl (.gs rfl rfl rfl rfl rfl (.gs rfl rfl rfl rfl rfl (.gs rfl rfl rfl rfl rfl (.gs rfl rfl rfl rfl rfl (.gs rfl rfl rfl rfl rfl (.gs rfl rfl rfl rfl rfl (.gr rfl rfl rfl rfl (.pick rfl rfl rfl (.pick rfl rfl rfl (.nil (.condF rfl (.skip (.region (.add rfl rfl rfl (.mv rfl rfl (.nil ?_)))))))))))))))))))
  rw [wI (by omega)]
  exact ⟨rfl,hnext (fun h=>absurd h hi0) rfl rfl rfl rfl⟩
theorem AX8:Ent Tryz.prog 162:=A0 Tryz.func162 (by kernel_rfl) rfl
theorem AX1 {w:World} {vn vo:Value} {x y:Value} (hn:vn=.agg #[x,y]) {a:Option Addr} {m c:Nat} (ho:vo=.slice a m c):CR Tryz.prog 162 #[vn,vo] w (fun v w'=>∃ b1 b2,v=.func (.func 207) #[] #[.pointer (some ⟨b1,0,none⟩),.pointer (some ⟨b2,0,none⟩)] ∧
  Blk w' b1 40 #[x,y]∧Blk w' b2 41 #[vo]∧w.heap.size≤b1∧w.heap.size≤b2):=by
 subst hn;subst ho
 refine enter Tryz.func162 rfl Tryz.ntmps162 rfl ?_
 refine .seq (.region (.box rfl rfl fun w1 b1 n1=>.box rfl rfl fun w2 b2 n2=>.asg rfl rfl (.nil ?_)))
 obtain ⟨e1,k1,hb1,hs1⟩:=n1
 obtain ⟨e2,k2,hb2,hs2⟩:=n2
 refine .seq (.region (.mkf [] [_,_] rfl rfl rfl rfl (.asg rfl rfl (.nil (.ret ?_)))))
 exact .plain [_] Tryz.results162 ⟨rfl,trivial⟩ ⟨e1.trans e2,b1,b2,rfl,k1.ext e2,k2,by omega,by have:=e1.size;omega⟩
theorem BL5:Ent Tryz.prog 207:=A0 Tryz.func207 (by kernel_rfl) rfl
theorem BJ1 {S:Nat→Prop} {n:NtV} {o:List Int} {s vo x:Value} {b1 b2:Nat} (hok:outsOk n o) (hl:n.ls.length≤10):Iter Tryz.prog 207 #[.pointer (some ⟨b1,0,none⟩),.pointer (some ⟨b2,0,none⟩)] (inL n o).length
  (fun k=>[.int .i64 ((inL n o).getD k 0:Nat)]) (fun W=>Blk W b1 40 #[x,s]∧Blk W b2 41 #[vo]∧eLs.R S W s n.ls∧eI.R S W vo o):=by
 intro l J X stJ stX hF hy W hJ
 have hF0:=hF 0 W hJ
 refine enterG Tryz.func207 rfl Tryz.ntmps207 rfl ?_
 refine .seq (.region (.asg rfl rfl (.nil (.seq (.region (.fa L6 rfl rfl (.ld T6 rfl rfl hF0.1 rfl (.lenR P8 rfl rfl hF0.2.2.1 (.mv rfl rfl (.nil ?_))))))))))
 refine .block (.loop (α:=Nat×Nat) (fun y=>[(9,.int .i64 (y.1:Nat)),(8,.int .i64 (n.ls.length:Nat)),(4,.int .i64 (y.2:Nat)),(0,.func (.yield l) #[] #[]),(1,.pointer (some ⟨b1,0,none⟩)),(2,.pointer (some ⟨b2,0,none⟩))])
  (fun y W=>J (freeTo (oN o) y.1).length W∧y.1≤n.ls.length∧y.2≤o.length∧(∀ i,i<y.2→o.getD i 0<y.1)∧(y.2<o.length→(y.1:Int)≤o.getD y.2 0)) (fun y=>n.ls.length-y.1) (0,0) ?_ ?_ ?_)
 ·exact lkA rfl
 ·exact ⟨hJ,Nat.zero_le _,Nat.zero_le _,fun i hi=>absurd hi (Nat.not_lt_zero _),fun h=>(hok 0 h).1⟩
 rintro ⟨k,nx⟩ W ⟨hJ,hk,hnx,hlo,hhi⟩
 replace hJ:J (freeTo (oN o) k).length W:=hJ
 replace hk:k≤n.ls.length:=hk
 replace hnx:nx≤o.length:=hnx
 replace hlo:∀ i,i<nx→o.getD i 0<k:=hlo
 replace hhi:nx<o.length→(k:Int)≤o.getD nx 0:=hhi
 obtain ⟨hB1,hB2,hA,hB⟩:=hF _ W hJ
 obtain ⟨_,_,_,_,hll⟩:=RL.len hB
 refine .seq (.region ?_)
 rcases Nat.lt_or_ge k n.ls.length with hlt | hge
 rotate_left
 ·refine .lssF rfl rfl rfl (by omega) (.nil (.seq (.condF rfl (.exit ?_))))
  refine .plain [] Tryz.results207 trivial ?_
  have:k=n.ls.length:=by omega
  subst this;exact .inl hJ
 refine .lssT rfl rfl rfl (by omega) (.nil (.seq (.condT rfl (.skip (.seq (.block (.seq (.region (.mv rfl rfl (.asg rfl rfl (.nil ?_)))))))))))
 refine .mid (α:=Unit) (fun _=>[(9,.int .i64 (k:Nat)),(8,.int .i64 (n.ls.length:Nat)),(4,.int .i64 (nx:Nat)),(5,.int .i64 (k:Nat)),(0,.func (.yield l) #[] #[]),(1,.pointer (some ⟨b1,0,none⟩)),(2,.pointer (some ⟨b2,0,none⟩))]) (fun _ W'=>W'=W∧k∉oN o) ?_ ?_
 ·refine .seq (.region (.mv rfl rfl (.ld ty_I rfl rfl hB2 rfl (.lenR un_I rfl rfl hB ?_))))
  rcases Nat.lt_or_ge nx o.length with hn1 | hn1
  ·have hg:o[nx]?=some (o.getD nx 0):=A6 hn1
   refine .lssT rfl rfl rfl (by omega) (.mv rfl rfl (.gr rfl rfl rfl rfl (.ld ty_I rfl rfl hB2 rfl (.gr rfl rfl rfl rfl (.mv rfl rfl (.gr rfl rfl rfl rfl (.ixN (i:=nx) un_I B9 rfl rfl hB rfl hg fun q hq=>.gr rfl rfl rfl rfl (.ldE (E:=eInt .i64) B9 rfl rfl hq fun e he=>.gr rfl rfl rfl rfl (.mv rfl rfl (.gr rfl rfl rfl rfl ?_))))))))))
   obtain ⟨rfl,_⟩:=he
   have:=hhi hn1
   by_cases he:o.getD nx 0=k
   ·refine .eqlT rfl rfl rfl he (.pick rfl rfl rfl (.nil (.condT rfl (.seq (.region (.mv rfl rfl (.add rfl rfl rfl (.asg rfl rfl (.nil (.exit (.region (.add rfl rfl rfl (.mv rfl rfl (.nil ?_))))))))))))))
    rw [wI (by omega),wI (by omega)]
    refine ⟨rfl,(k+1,nx+1),lkA rfl,⟨?_,hlt,hn1,fun i hi=>?_,fun h=>?_⟩,by show n.ls.length-(k+1)<n.ls.length-k;omega⟩
    ·show J (freeTo (oN o) (k+1)).length W
     rw [N0,if_pos ((Ai2 hok).2 ⟨nx,hn1,he⟩),List.append_nil]
     exact hJ
    ·show o.getD i 0<((k+1:Nat):Int)
     by_cases e:i=nx
     ·subst e;omega
     ·have:=hlo i (by have:i<nx+1:=hi;omega);omega
    ·show ((k+1:Nat):Int)≤o.getD (nx+1) 0
     have:=AR9 hok 1 nx h
     omega
   ·refine .eqlF rfl rfl rfl he (.pick rfl rfl rfl (.nil (.condF rfl (.skip ?_))))
    refine ⟨rfl,(),lkA rfl,rfl,fun hm=>?_⟩
    obtain ⟨i,hi,e⟩:=(Ai2 hok).1 hm
    rcases Nat.lt_or_ge i nx with h | h
    ·have:=hlo i h;omega
    ·have:=AR9 hok (i-nx) nx (by omega)
     rw [show nx+(i-nx)=i by omega] at this
     omega
  ·refine .lssF rfl rfl rfl (by omega) (.mv rfl rfl (.gs rfl rfl rfl rfl rfl (.gs rfl rfl rfl rfl rfl (.gs rfl rfl rfl rfl rfl (.gs rfl rfl rfl rfl rfl (.gs rfl rfl rfl rfl rfl (.gs rfl rfl rfl rfl rfl (.pick rfl rfl rfl (.nil (.condF rfl (.skip ?_)))))))))))
   refine ⟨rfl,(),lkA rfl,rfl,fun hm=>?_⟩
   obtain ⟨i,hi,e⟩:=(Ai2 hok).1 hm
   have:=hlo i (by omega)
   omega
 rintro _ _ ⟨rfl,hno⟩
 obtain ⟨hat,hatl⟩:=BB9 (C:=n.ls.length) hlt hno
 have hy':=hy (freeTo (oN o) k).length _ hatl hJ
 dsimp only at hy'
 rw [show (inL n o).getD (freeTo (oN o) k).length 0=k from hat] at hy'
 refine .seq (.region (.mv rfl rfl (.mv rfl rfl ?_)))
 refine .yld (l:=l) [.int .i64 (k:Nat)] (R:=fun v w'=>(v=.bool true∧J ((freeTo (oN o) k).length+1) w')∨(v=.bool false∧X w')) rfl rfl rfl ?_ ?_
 ·refine YieldAt.mono hy' ?_
  rintro e W' (⟨rfl,h⟩ | ⟨rfl,h⟩)
  ·exact ⟨_,rfl,.inl ⟨rfl,h⟩⟩
  ·exact ⟨_,rfl,.inr ⟨rfl,h⟩⟩
 rintro v w' (⟨rfl,h⟩ | ⟨rfl,h⟩)
 ·refine .not_ rfl rfl (.nil (.condF rfl (.skip (.region (.add rfl rfl rfl (.mv rfl rfl (.nil ?_)))))))
  rw [wI (by omega)]
  refine ⟨rfl,(k+1,nx),lkA rfl,⟨?_,hlt,hnx,fun i hi=>?_,fun hn1=>?_⟩,by show n.ls.length-(k+1)<n.ls.length-k;omega⟩
  ·show J (freeTo (oN o) (k+1)).length w'
   rw [N0,if_neg hno,List.length_append]
   exact h
  ·show o.getD i 0<((k+1:Nat):Int)
   have:=hlo i hi;omega
  ·show ((k+1:Nat):Int)≤o.getD nx 0
   have h1:=hhi hn1
   have h2:o.getD nx 0≠k:=fun e=>hno ((Ai2 hok).2 ⟨nx,hn1,e⟩)
   omega
 ·refine .not_ rfl rfl (.nil (.condT rfl (.ret ?_)))
  exact .plain [] Tryz.results207 trivial (.inr h)
theorem Ag9 (p:List Nat) (i:Nat):(freeTo p i).length≤i:=by
 unfold freeTo
 have:=List.length_filter_le (fun k => !(decide (k∈p))) (List.range i)
 simpa using this
theorem AH4 (n:NtV) (o:List Int):(inL n o).length≤n.ls.length:=Ag9 _ _
structure InJ (w:World) (S:Nat→Prop) (b7 b1 b2:Nat) (x s vo:Value) (n:NtV) (o:List Int) (k:Nat) (W:World):Prop where
 low:Below w.heap.size w W
 k1:Blk W b1 40 #[x,s]
 k2:Blk W b2 41 #[vo]
 acc:∃ v,Blk W b7 41 #[v]∧OwnL (eInt .i64) 3 w.heap.size (fun k=>S k∧k≠b7) W v (pInts ((inL n o).take k))
theorem InJ.sft {w0:World} {S:Nat→Prop} {b7 b1 b2:Nat} {x s vo:Value} {n:NtV} {o:List Int} {k D:Nat} {W W':World} (h:InJ w0 S b7 b1 b2 x s vo n o k W) (hs:Sft D W W') (hD:w0.heap.size≤D):InJ w0 S b7 b1 b2 x s vo n o k W':=by
 obtain ⟨v,h1,h2⟩:=h.acc
 exact ⟨h.low.trans (hs.below.mono hD),hs.cells.blk trivial h.k1,hs.cells.blk trivial h.k2,v,hs.cells.blk trivial h1,h2.kp hs.cells⟩
theorem Ar8:zeroOf Tryz.prog 41=some (.slice none 0 0):=by kernel_rfl
theorem AQ6:Ent Tryz.prog 109:=A0 Tryz.func109 (by kernel_rfl) rfl
theorem AO5 {S:Nat→Prop} {w:World} {vn vo:Value} {n:NtV} {o:List Int} (up:Up S w) (hn:eN.R S w vn n) (ho:eI.R S w vo o):CR Tryz.prog 109 #[vn,vo] w (Two (eI.at S (if outE n o=0 then pInts (inL n o) else [])) (Is (.int .i64 (outE n o)))):=by
 obtain ⟨s,rfl,hs,hb⟩:=hn
 have hn:eN.R S w (.agg #[.int .i64 n.b,s]) n:=⟨s,rfl,hs,hb⟩
 obtain ⟨ao,co,hvo,_⟩:=RL.len ho
 refine enter Tryz.func109 rfl Tryz.ntmps109 rfl ?_
 refine .seq (.region (.box rfl rfl fun w1 b2 n1=>.asg rfl rfl (.asg rfl rfl (.nil ?_))))
 obtain ⟨e1,k2,hb2,hs1⟩:=n1
 refine .seq (.seq (.region (.ldA ty_N rfl rfl k2 rfl (.mv rfl rfl ?_))))
 refine .call _ rfl Ad2 rfl (Aa5 (hn.ext e1) (ho.ext e1)) fun v2 w2 e2 h2=>.asg rfl rfl (.nil ?_)
 subst h2
 have x2:=e1.trans e2
 refine .seq (.region (.mv rfl rfl ?_))
 by_cases hE:outE n o=0
 rotate_left
 ·refine .neqT rfl rfl rfl hE (.nil (.condT rfl (.seq (.region (.mv rfl rfl (.asg rfl rfl (.asg rfl rfl (.nil (.ret ?_)))))))))
  refine .plain [_,_] Tryz.results109 ⟨rfl,rfl,trivial⟩ ⟨x2,_,_,rfl,?_,rfl⟩
  rw [if_neg hE];exact RL.nil
 rw [if_pos hE]
 obtain ⟨hc,hok⟩:=Ay0 hE
 obtain ⟨_,_,hl10,_⟩:=Az6 hc
 refine .neqF rfl rfl rfl hE (.nil (.condF rfl (.skip ?_)))
 refine .seq (.region (.alloc rfl Ar8 fun w3 b7 n3=>.nil ?_))
 obtain ⟨e3,k7,hb7,hs3⟩:=n3
 have x3:=x2.trans e3
 refine .seq (.seq (.region (.ldA ty_N rfl rfl ((k2.ext e2).ext e3) rfl (.mv rfl rfl ?_))))
 refine .call _ rfl AX8 rfl (AX1 rfl hvo) fun v4 w4 e4 h4=>.nil ?_
 obtain ⟨p1,p2,rfl,kp1,kp2,hp1,hp2⟩:=h4
 have x4:=x3.trans e4
 have hs4:=e4.size
 have hs2:=e2.size
 have hsL:∀ {W:World},Below w.heap.size w W→eLs.R (fun k=>S k∧k<w.heap.size) W s n.ls:=fun hB=>eLs.keep (fun k c t f hk h=>(hB.block k hk.2).trans h) (ER.lt eLs hs)
 have hoL:∀ {W:World},Below w.heap.size w W→eI.R (fun k=>S k∧k<w.heap.size) W vo o:=fun hB=>eI.keep (fun k c t f hk h=>(hB.block k hk.2).trans h) (ER.lt eI ho)
 refine .block (.range (BJ1 (S:=fun k=>S k∧k<w.heap.size) (n:=n) (o:=o) (s:=s) (vo:=vo) (x:=.int .i64 n.b) hok hl10) rfl BL5 (fun k=>rfl) (by decide)
  (InJ w S b7 p1 p2 (.int .i64 n.b) s vo n o) (fun _ _=>False) (fun k W W' h hs=>h.sft hs x4.size) (fun _ _ _ h _=>h.elim) (fun k W h=>⟨h.k1,h.k2,hsL h.low,hoL h.low⟩) ?_ ?_ ?_ (fun _ _ h=>h.elim))
 ·refine ⟨x4,kp1,kp2,_,k7.ext e4,?_⟩
  rw [List.take_zero];exact OwnL.nil
 ·intro l k W hk hJ
  refine .region (.asg rfl rfl (.nil ⟨rfl,rfl,fun W hJ hsz=>?_⟩))
  obtain ⟨hlow,kp1,kp2,v,k7,hown⟩:=hJ
  have hlw:=hlow.size
  refine .block (.region (.ld ty_I rfl rfl k7 rfl (.mv rfl rfl (.bsl _ rfl rfl Aj8 fun W1 by_ ny=>?_))))
  obtain ⟨ey,ky,hby,hsy⟩:=ny
  have hlow1:=hlow.trans (ey.mono hlw)
  have hkl:=AH4 n o
  refine .gv rfl rfl (AF6 (E:=eInt .i64) (base:=w.heap.size) (n:=(((inL n o).getD k 0:Nat):Int)) (e:=.int .i64 (((inL n o).getD k 0:Nat):Int)) (by decide) un_I AS2 rfl rfl rfl (hown.ext ey) ky ⟨rfl,by
    have:(inL n o).getD k 0<n.ls.length:=by
     have hm:(inL n o).getD k 0∈inL n o:=D4 hk
     unfold inL freeTo at hm
     exact List.mem_range.1 (List.mem_filter.1 hm).1
    exact L9.2 (by omega)⟩ (by simp;omega) (by decide) hlow1.size) ?_
  rintro v8 W8 ⟨ho8,hg8⟩
  have hown1:=hown.ext ey
  have k78:=hown1.gblk hg8 (k7.ext ey) (by decide)
  have kp18:=hown1.gblk hg8 (kp1.ext ey) (by decide)
  have kp28:=hown1.gblk hg8 (kp2.ext ey) (by decide)
  have hlow8:=hown1.below hg8 hlow1 hlow1.size
  obtain ⟨a8,c8,hv8⟩:=ho8.slice
  refine .store ty_I rfl rfl k78 (by rw [hv8];rfl) (by simp) (by rw [hv8];simp [one1,Value.cells]) fun W9 k9 u9=>.nil ?_
  refine ⟨((Oth.ext ey).trans (hown1.oth hg8)).trans (Oth.upd u9 k78),u9.below hlow8 (by omega),kp18.upd u9 (by omega),kp28.upd u9 (by omega),v8,by rw [hv8] at k9 ⊢;exact k9,?_⟩
  have:=ho8.upd u9 k78 (by decide) (fun h=>h.2 rfl)
  have htk:pInts ((inL n o).take (k+1))=pInts ((inL n o).take k)++[(((inL n o).getD k 0:Nat):Int)]:=by
   unfold pInts
   rw [List.take_add_one,A6 (z:=0) hk,List.map_append]
   rfl
  rw [htk]
  exact this
 ·intro W hJ hD
  obtain ⟨hlow,kp1,kp2,v,k7,hown⟩:=hJ
  refine .seq (.region (.ld ty_I rfl rfl k7 rfl (.asg rfl rfl (.asg rfl rfl (.nil (.ret ?_))))))
  refine .mark [_,_] Tryz.results109 hD ⟨rfl,rfl,trivial⟩ ⟨I7 hlow x4.size,_,_,rfl,?_,by rw [hE]⟩
  rw [List.take_of_length_le (Nat.le_refl _)] at hown
  exact (hown.kp (Kp.put hD rfl)).toR up (fun _ h=>h.1)
end Go.Proofs.YteghbhdniimjbaaGreat

namespace Go.Kx
def dl (a b:Nat):Rat:=if a=b then 1 else 0
theorem Az4 (a:Nat):dl a a=1:=if_pos rfl
theorem BK7 {a b:Nat} (h:a≠b):dl a b=0:=if_neg h
theorem Ah8 {n a:Nat} (f:Nat→Rat) (h:a<n):sumN n (fun b=>f b*dl a b)=f a:=by
 rw [F7 (i:=a) (fun k _ hne=>by rw [BK7 (Ne.symm hne),Rat.mul_zero]),if_pos h,Az4,Rat.mul_one]
theorem rat_sq (x:Rat):0≤x*x:=by
 rcases Rat.le_total (a:=0) (b:=x) with h | h
 ·exact Rat.mul_nonneg h h
 ·have h2:0 ≤ -x:=by grind
  have:=Rat.mul_nonneg h2 h2
  grind
theorem rat_sq0 {x:Rat} (h:x*x=0):x=0:=by
 rcases Rat.mul_eq_zero.1 h with h | h<;>exact h
theorem Am8 {n:Nat} {f:Nat→Rat} (h:∀ k,k<n→0≤f k):0≤sumN n f:=by
 induction n with
 | zero=>exact Rat.le_refl
 | succ n ih =>
  have h1:=ih fun k hk=>h k (by omega)
  have h2:=h n (by omega)
  unfold sumN
  grind
theorem sumN_le {n:Nat} {f g:Nat→Rat} (h:∀ k,k<n→f k≤g k):sumN n f≤sumN n g:=by
 have:=Am8 (n:=n) (f:=fun k=>g k-f k) fun k hk=>by have:=h k hk;grind
 rw [AN4] at this
 grind
theorem BA4 {n:Nat} {f:Nat→Rat} (h:∀ k,k<n→0≤f k) {j:Nat} (hj:j<n):f j≤sumN n f:=by
 have h1:sumN n (fun k=>if k=j then f j else 0)=f j:=by
  rw [F7 (i:=j) (fun k _ hne=>if_neg hne),if_pos hj,if_pos rfl]
 rw [←h1]
 refine sumN_le fun k hk=>?_
 have:=h k hk
 by_cases e:k=j
 ·subst e;rw [if_pos rfl];exact Rat.le_refl
 ·rw [if_neg e];exact this
theorem BA5 {n:Nat} {f:Nat→Rat} (h:∀ k,k<n→0≤f k) (h0:sumN n f=0) {j:Nat} (hj:j<n):f j=0:=by
 have h1:=BA4 h hj
 have h2:=h j hj
 rw [h0] at h1
 exact Rat.le_antisymm h1 h2
structure Nw where
 B:Nat
 M:Nat
 F:Nat→Nat
 T:Nat→Nat
 g:Nat→Rat
structure Nw.Ok (n:Nw):Prop where
 f:∀ k,k<n.M→n.F k<n.B
 t:∀ k,k<n.M→n.T k<n.B
 p:∀ k,k<n.M→0≤n.g k
namespace Nw
section
variable (n:Nw)
def inc (k b:Nat):Rat:=dl (n.F k) b-dl (n.T k) b
def fl (θ:Nat→Rat) (k:Nat):Rat:=n.g k*(θ (n.F k)-θ (n.T k))
def off (f:Nat→Rat) (b:Nat):Rat:=sumN n.M fun k=>n.inc k b*f k
def lap (θ:Nat→Rat) (b:Nat):Rat:=n.off (n.fl θ) b
def Lm (b c:Nat):Rat:=sumN n.M fun k=>n.g k*(n.inc k b*n.inc k c)
def clo (D:Nat→Prop):Prop:=∀ k,k<n.M→n.g k≠0→(D (n.F k)↔D (n.T k))
/-- the least bus of the island, with the first lines -/
def rootTo:Nat→Nat→Nat
 | 0,b=>b
 | j+1,b=>if n.g j=0 then rootTo j b else if rootTo j b=max (rootTo j (n.F j)) (rootTo j (n.T j)) then min (rootTo j (n.F j)) (rootTo j (n.T j)) else rootTo j b
def root (b:Nat):Nat:=n.rootTo n.M b
def gm (b c:Nat):Rat:=if n.root b=b then dl b c else n.Lm b c
end
section
variable {n:Nw} {θ φ f:Nat→Rat}
theorem Ax0 (ok:n.Ok) {k:Nat} (hk:k<n.M) (φ:Nat→Rat):sumN n.B (fun b=>φ b*n.inc k b)=φ (n.F k)-φ (n.T k):=by
 have e:sumN n.B (fun b=>φ b*n.inc k b)=sumN n.B (fun b=>φ b*dl (n.F k) b-φ b*dl (n.T k) b):=A4 fun b _=>by unfold inc;grind
 rw [e,AN4,Ah8 φ (ok.f k hk),Ah8 φ (ok.t k hk)]
theorem green (ok:n.Ok) (φ f:Nat→Rat):sumN n.B (fun b=>φ b*n.off f b)=sumN n.M fun k=>(φ (n.F k)-φ (n.T k))*f k:=by
 have e:sumN n.B (fun b=>φ b*n.off f b)=sumN n.B (fun b=>sumN n.M fun k=>φ b*n.inc k b*f k):=A4 fun b _=>by
  unfold off
  rw [←O2]
  exact A4 fun k _=>by grind
 rw [e,M7]
 refine A4 fun k hk=>?_
 rw [Q5,Ax0 ok hk]
theorem lap_sum (ok:n.Ok) (θ:Nat→Rat) (b:Nat):sumN n.B (fun c=>n.Lm b c*θ c)=n.lap θ b:=by
 have e:sumN n.B (fun c=>n.Lm b c*θ c)=sumN n.B (fun c=>sumN n.M fun k=>n.g k*n.inc k b*(θ c*n.inc k c)):=A4 fun c _=>by
  unfold Lm
  rw [←Q5]
  exact A4 fun k _=>by grind
 rw [e,M7]
 unfold lap off
 refine A4 fun k hk=>?_
 rw [O2,Ax0 ok hk]
 unfold fl
 grind
/-- no power, no differences -/
theorem rigid (ok:n.Ok) {D:Nat→Prop} (hD:n.clo D) (h:∀ b,b<n.B→D b→θ b*n.lap θ b=0):∀ k,k<n.M→n.g k≠0→D (n.F k)→θ (n.F k)=θ (n.T k):=by
 classical
 have e:=green ok (fun b=>if D b then θ b else 0) (n.fl θ)
 have e0:sumN n.B (fun b=>(if D b then θ b else 0)*n.off (n.fl θ) b)=0:=F1 fun b hb=>by
  by_cases hd:D b
  ·rw [if_pos hd];exact h b hb hd
  ·rw [if_neg hd,Rat.zero_mul]
 rw [e0] at e
 have hterm:∀ k,k<n.M→((if D (n.F k) then θ (n.F k) else 0)-(if D (n.T k) then θ (n.T k) else 0))*n.fl θ k=if D (n.F k) then n.g k*((θ (n.F k)-θ (n.T k))*(θ (n.F k)-θ (n.T k))) else 0:=by
  intro k hk
  by_cases hg:n.g k=0
  ·unfold fl
   rw [hg]
   split<;>grind
  ·have:=hD k hk hg
   by_cases hd:D (n.F k)
   ·rw [if_pos hd,if_pos (this.1 hd),if_pos hd]
    unfold fl
    grind
   ·rw [if_neg hd,if_neg (fun x=>hd (this.2 x)),if_neg hd]
    grind
 intro k hk hg hd
 have hn:∀ k,k<n.M→0≤((if D (n.F k) then θ (n.F k) else 0)-(if D (n.T k) then θ (n.T k) else 0))*n.fl θ k:=fun k hk=>by
  rw [hterm k hk]
  split
  ·exact Rat.mul_nonneg (ok.p k hk) (rat_sq _)
  ·exact Rat.le_refl
 have h0:=BA5 hn e.symm hk
 rw [hterm k hk,if_pos hd] at h0
 rcases Rat.mul_eq_zero.1 h0 with h0 | h0
 ·exact absurd h0 hg
 ·have:=rat_sq0 h0
  grind
/-- what no line sees is the same all over an island -/
theorem Ax5 {θ:Nat→Rat}:∀ j,(∀ k,k<j→n.g k≠0→θ (n.F k)=θ (n.T k))→∀ b,θ (n.rootTo j b)=θ b
 | 0,_,b=>rfl
 | j+1,h,b=>by
  have ih:=Ax5 j fun k hk=>h k (by omega)
  unfold rootTo
  split
  ·exact ih b
  ·rename_i hg
   split
   ·rename_i e
    have h1:=h j (by omega) hg
    have hF:=ih (n.F j)
    have hT:=ih (n.T j)
    have hb:=ih b
    have h2:θ (max (n.rootTo j (n.F j)) (n.rootTo j (n.T j)))=θ (n.F j):=by
     rcases Nat.le_total (n.rootTo j (n.F j)) (n.rootTo j (n.T j)) with h | h
     ·rw [Nat.max_eq_right h,hT,h1]
     ·rw [Nat.max_eq_left h,hF]
    have h3:θ (min (n.rootTo j (n.F j)) (n.rootTo j (n.T j)))=θ (n.F j):=by
     rcases Nat.le_total (n.rootTo j (n.F j)) (n.rootTo j (n.T j)) with h | h
     ·rw [Nat.min_eq_left h,hF]
     ·rw [Nat.min_eq_right h,hT,h1]
    rw [h3,←h2,←e,hb]
   ·exact ih b
theorem Af8:∀ j b,n.rootTo j b≤b
 | 0,b=>Nat.le_refl b
 | j+1,b=>by
  have ih:=Af8 j
  have:=ih b
  unfold rootTo
  split
  ·exact this
  ·split
   ·rename_i e;omega
   ·exact this
theorem AU1:∀ j b,n.rootTo j (n.rootTo j b)=n.rootTo j b
 | 0,b=>rfl
 | j+1,b=>by
  have ih:=AU1 j
  have ib:=ih b
  have iF:=ih (n.F j)
  have iT:=ih (n.T j)
  by_cases hg:n.g j=0
  ·have e:∀ b,n.rootTo (j+1) b=n.rootTo j b:=fun b=>by rw [rootTo,if_pos hg]
   rw [e,e];exact ib
  ·have e:∀ b,n.rootTo (j+1) b=if n.rootTo j b=max (n.rootTo j (n.F j)) (n.rootTo j (n.T j)) then min (n.rootTo j (n.F j)) (n.rootTo j (n.T j)) else n.rootTo j b:=fun b=>by rw [rootTo,if_neg hg]
   rw [e b]
   split
   ·rw [e]
    rcases Nat.le_total (n.rootTo j (n.F j)) (n.rootTo j (n.T j)) with h | h
    ·rw [Nat.min_eq_left h,Nat.max_eq_right h,iF]
     split
     ·rfl
     ·rfl
    ·rw [Nat.min_eq_right h,Nat.max_eq_left h,iT]
     split
     ·rfl
     ·rfl
   ·rename_i hne
    rw [e,ib,if_neg hne]
theorem AU2:∀ j k,k<j→n.g k≠0→n.rootTo j (n.F k)=n.rootTo j (n.T k)
 | 0,k,h,_=>absurd h (Nat.not_lt_zero _)
 | j+1,k,h,hg=>by
  by_cases e:k=j
  ·subst e
   rw [rootTo,rootTo,if_neg hg,if_neg hg]
   rcases Nat.le_total (n.rootTo k (n.F k)) (n.rootTo k (n.T k)) with h | h
   ·rw [Nat.max_eq_right h,Nat.min_eq_left h]
    rw [if_pos rfl]
    split
    ·rfl
    ·rfl
   ·rw [Nat.max_eq_left h,Nat.min_eq_right h]
    rw [if_pos rfl]
    split
    ·rfl
    ·rfl
  ·have ih:=AU2 j k (by omega) hg
   rw [rootTo,rootTo,ih]
theorem root_le (b:Nat):n.root b≤b:=Af8 _ b
theorem root_root (b:Nat):n.root (n.root b)=n.root b:=AU1 _ b
theorem root_line {k:Nat} (hk:k<n.M) (hg:n.g k≠0):n.root (n.F k)=n.root (n.T k):=AU2 _ k hk hg
theorem As9 (h:∀ k,k<n.M→n.g k≠0→θ (n.F k)=θ (n.T k)) (b:Nat):θ (n.root b)=θ b:=Ax5 _ h b
theorem fl_out {k:Nat} (h:n.g k=0):n.fl θ k=0:=by unfold fl;rw [h,Rat.zero_mul]
/-- the equations with the reference buses have no other solution than nothing -/
theorem ker0 (ok:n.Ok) (h:∀ b,b<n.B→if n.root b=b then θ b=0 else n.lap θ b=0):∀ b,b<n.B→θ b=0:=by
 have hr:=rigid (θ:=θ) ok (D:=fun _=>True) (fun _ _ _=>Iff.rfl) fun b hb _=>by
  have:=h b hb
  split at this
  ·rw [this,Rat.zero_mul]
  ·rw [this,Rat.mul_zero]
 intro b hb
 rw [←As9 (fun k hk hg=>hr k hk hg trivial) b]
 have hle:=root_le (n:=n) b
 have:=h (n.root b) (by omega)
 rw [if_pos (root_root b)] at this
 exact this
theorem gm_sum (ok:n.Ok) (θ:Nat→Rat) {b:Nat} (hb:b<n.B):sumN n.B (fun c=>n.gm b c*θ c)=if n.root b=b then θ b else n.lap θ b:=by
 unfold gm
 split
 ·rw [←Ah8 θ hb]
  exact A4 fun c _=>by grind
 ·exact lap_sum ok θ b
theorem lap_sub (b:Nat):n.lap (fun c=>θ c-φ c) b=n.lap θ b-n.lap φ b:=by
 unfold lap off
 rw [←AN4]
 exact A4 fun k _=>by unfold fl;grind
/-- angles are known by their outflow and by the reference buses -/
theorem uniq (ok:n.Ok) (h:∀ b,b<n.B→if n.root b=b then θ b=φ b else n.lap θ b=n.lap φ b):∀ b,b<n.B→θ b=φ b:=by
 intro b hb
 have:=ker0 (θ:=fun c=>θ c-φ c) ok (fun b hb=>by
  have:=h b hb
  split at this
  ·rw [if_pos (by assumption),this];grind
  ·rw [if_neg (by assumption),lap_sub,this];grind) b hb
 grind
end
end Nw
end Go.Kx

namespace Go.Kx
open Go Go.RowKit
def ln0:LnV:=⟨0,0,1,0⟩
/-- the network as numbers -/
def nwOf (n:NtV) (o:List Int):Nw where
 B:=n.b.toNat
 M:=n.ls.length
 F:=fun k=>(n.ls.getD k ln0).f.toNat
 T:=fun k=>(n.ls.getD k ln0).t.toNat
 g:=fun k=>if k∈oN o then 0 else ((n.ls.getD k ln0).x:Rat)⁻¹
def tabI (n:Nat) (p:Nat→Nat):List Int:=(List.range n).map fun b=>((p b:Nat):Int)
theorem M6 (n:Nat) (p:Nat→Nat):(tabI n p).length=n:=by simp [tabI]
theorem U8 {n i:Nat} {p:Nat→Nat} (h:i<n):(tabI n p)[i]?=some ((p i:Nat):Int):=by unfold tabI;rw [List.getElem?_map,List.getElem?_range h];rfl
theorem BG1 {n i v:Nat} {p:Nat→Nat}:(tabI n p).set i ((v:Nat):Int)=tabI n fun b=>if b=i then v else p b:=by
 apply List.ext_getElem?
 intro j
 rw [List.getElem?_set]
 unfold tabI
 rw [List.length_map,List.length_range,List.getElem?_map,List.getElem?_map]
 by_cases hj:i=j
 ·subst hj
  rw [if_pos rfl]
  by_cases h:i<n
  ·rw [if_pos h,List.getElem?_range h];simp
  ·rw [if_neg h,List.getElem?_eq_none (by simpa using h)];rfl
 ·rw [if_neg hj]
  by_cases h:j<n
  ·rw [List.getElem?_range h];simp [Ne.symm hj]
  ·rw [List.getElem?_eq_none (by simpa using h)];rfl
/-- climbing p leads to R -/
def Clm (B:Nat) (p R:Nat→Nat):Prop:=∀ b,b<B→p b≤b∧(p b=b→R b=b)∧(p b≠b→R b=R (p b))
def Nw.stepR (n:Nw) (R:Nat→Nat) (k:Nat):Nat→Nat:=fun b=>if R b=max (R (n.F k)) (R (n.T k)) then min (R (n.F k)) (R (n.T k)) else R b
def Nw.rootF (n:Nw) (l:List Nat):Nat→Nat:=l.foldl n.stepR id
theorem Nw.rootF_snoc (n:Nw) (l:List Nat) (k:Nat):n.rootF (l++[k])=n.stepR (n.rootF l) k:=by unfold Nw.rootF;rw [List.foldl_append];rfl
theorem Nw.rootF_free {n:Nw} {p:List Nat}:∀ j,(∀ k,k<j→(n.g k=0↔k∈p))→n.rootTo j=n.rootF (freeTo p j)
 | 0,_=>rfl
 | j+1,h=>by
  have ih:=Nw.rootF_free j fun k hk=>h k (by omega)
  have hj:=h j (by omega)
  rw [Go.Proofs.YteghbhdniimjbaaGreat.N0]
  funext b
  rw [Nw.rootTo]
  by_cases hg:n.g j=0
  ·rw [if_pos hg,if_pos (hj.1 hg),List.append_nil,ih]
  ·rw [if_neg hg,if_neg (fun h=>hg (hj.2 h)),Nw.rootF_snoc,←ih];rfl
structure Idm (R:Nat→Nat):Prop where
 rr:∀ b,R (R b)=R b
 le:∀ b,R b≤b
theorem Idm.step {n:Nw} {R:Nat→Nat} (h:Idm R) (k:Nat):Idm (n.stepR R k):=by
 have hF:=h.rr (n.F k)
 have hT:=h.rr (n.T k)
 unfold Nw.stepR
 generalize R (n.F k)=a at *
 generalize R (n.T k)=c at *
 have hm:R (min a c)=min a c:=by
  rcases Nat.le_total a c with h | h
  ·rw [Nat.min_eq_left h,hF]
  ·rw [Nat.min_eq_right h,hT]
 refine ⟨fun b=>?_,fun b=>?_⟩
 ·by_cases hb:R b=max a c
  ·rw [if_pos hb,hm]
   split
   ·rfl
   ·rfl
  ·rw [if_neg hb,h.rr,if_neg hb]
 ·have:=h.le b
  split
  ·omega
  ·exact this
theorem Nw.rootF_idm (n:Nw) (l:List Nat):Idm (n.rootF l):=by
 unfold Nw.rootF
 have:∀ (l:List Nat) (R:Nat→Nat),Idm R→Idm (l.foldl n.stepR R):=by
  intro l
  induction l with
  | nil=>exact fun R h=>h
  | cons k l ih=>exact fun R h=>ih _ (h.step k)
 exact this l id ⟨fun _=>rfl,fun b=>Nat.le_refl b⟩
theorem Clm.step {n:Nw} {B k:Nat} {p R:Nat→Nat} (h:Clm B p R) (hi:Idm R):Clm B (fun b=>if b=max (R (n.F k)) (R (n.T k)) then min (R (n.F k)) (R (n.T k)) else p b) (n.stepR R k):=by
 have iF:=hi.rr (n.F k)
 have iT:=hi.rr (n.T k)
 unfold Nw.stepR
 generalize R (n.F k)=a at *
 generalize R (n.T k)=c at *
 have hM:R (max a c)=max a c:=by
  rcases Nat.le_total a c with h | h
  ·rw [Nat.max_eq_right h,iT]
  ·rw [Nat.max_eq_left h,iF]
 have hm:R (min a c)=min a c:=by
  rcases Nat.le_total a c with h | h
  ·rw [Nat.min_eq_left h,iF]
  ·rw [Nat.min_eq_right h,iT]
 intro b hb
 obtain ⟨h1,h2,h3⟩:=h b hb
 dsimp only
 by_cases hbM:b=max a c
 ·subst hbM
  rw [if_pos rfl]
  refine ⟨by omega,fun h=>?_,fun h=>?_⟩
  ·rw [hM,if_pos rfl];exact h
  ·rw [hM,hm,if_pos rfl,if_neg h]
 ·rw [if_neg hbM]
  refine ⟨h1,fun h=>?_,fun h=>?_⟩
  ·rw [h2 h,if_neg hbM]
  ·rw [h3 h]
/-- the number of an island -/
def Nw.lab (n:Nw) (b:Nat):Nat:=((List.range (n.root b)).filter fun r=>decide (n.root r=r)).length
def Nw.refs (n:Nw):List Nat:=(List.range n.B).filter fun r=>decide (n.root r=r)
def Nw.cnt (n:Nw) (b:Nat):Nat:=((List.range b).filter fun r=>decide (n.root r=r)).length
theorem Nw.cnt_succ (n:Nw) (b:Nat):n.cnt (b+1)=n.cnt b+if n.root b=b then 1 else 0:=by
 unfold Nw.cnt
 rw [List.range_succ,List.filter_append,List.length_append]
 by_cases h:n.root b=b
 ·simp [h]
 ·simp [h]
theorem Nw.cnt_le (n:Nw) (b:Nat):n.cnt b≤b:=by
 unfold Nw.cnt
 have:=List.length_filter_le (fun r=>decide (n.root r=r)) (List.range b)
 simpa using this
theorem Nw.lab_root (n:Nw) {b:Nat} (h:n.root b=b):n.lab b=n.cnt b:=by unfold Nw.lab Nw.cnt;rw [h]
theorem Nw.lab_of (n:Nw) (b:Nat):n.lab b=n.lab (n.root b):=by unfold Nw.lab;rw [Nw.root_root]
theorem Nw.lab_le (n:Nw) (b:Nat):n.lab b≤b:=Nat.le_trans (n.cnt_le _) (Nw.root_le b)
def lnI (l:LnV):Nat→Int
 | 0=>l.f
 | 1=>l.t
 | 2=>l.x
 | _=>l.c
theorem PtrTo.ln {S:Nat→Prop} {w:World} {p:Addr} {l:LnV} (h:PtrTo eL S w p l) (i:Nat) (hi:i<4):PtrTo (eInt .i64) S w (p.add i) (lnI l i):=by
 obtain ⟨e,⟨rfl,h1,h2,h3,h4⟩,hS,hc⟩:=h
 refine ⟨.int .i64 (lnI l i),⟨rfl,?_⟩,by rw [G7];exact hS,fun j u hu=>?_⟩
 ·match i with
  | 0=>exact h1
  | 1=>exact h2
  | 2=>exact h3
  | 3=>exact h4
 ·have hj:j=0:=by
   cases j with
   | zero=>rfl
   | succ j=>simp [Value.cells] at hu
  subst hj
  rw [Y7]
  refine hc _ u ?_
  match i with
  | 0=>simpa [Value.cells,lnI] using hu
  | 1=>simpa [Value.cells,lnI] using hu
  | 2=>simpa [Value.cells,lnI] using hu
  | 3=>simpa [Value.cells,lnI] using hu
section
variable {P:Program} {σ:Env} {w:World} {d:Option Tmp} {ty:TypeId} {pos:String} {af:Array Edge} {g:Option (Nat×Bool)} {S:Nat→Prop}
theorem BI1 {s:TypeId} {x:Operand} {i off:Nat} {u:Value} {l:LnV} (hf:fldOf P s i=some off) (hx:ev σ x=some u) (hp:Ptr eL S l u w) (ho:off<4):Gv P ⟨d,.fieldAddr s x i,ty,pos,af,g⟩ σ w fun v' w'=>Ext w w'∧Sp.ok (.inr (Ptr (eInt .i64) S (lnI l off))) v' w':=by
 obtain ⟨p,rfl,hp⟩:=hp
 exact X8 (v_faP hf hx) ⟨_,rfl,hp.ln off ho⟩ (fun _ _ _ e ⟨p,h1,h2⟩=>⟨p,h1,h2.ext e⟩)
end
section
variable {P:Program} {ro:Option Nat} {N:Nat} {ds:List Deferred} {ops:Array Oper} {K:Env→World→Prop} {rest:List Oper} {σ:Env} {w:World} {d:Tmp} {ty:TypeId} {pos:String} {af:Array Edge} {S:Nat→Prop}
end
end Go.Kx
namespace Go.Proofs.YteghbhdniimjbaaGreat
open Go Go.Kx Go.RowKit
/-- what a net that was found good is like -/
structure nwOk (n:NtV) (o:List Int):Prop where
 b:n.b=((nwOf n o).B:Nat)
 b1:1≤(nwOf n o).B
 b6:(nwOf n o).B≤6
 m:(nwOf n o).M≤10
 fI:∀ k,k<(nwOf n o).M→(n.ls.getD k ln0).f=((nwOf n o).F k:Nat)
 tI:∀ k,k<(nwOf n o).M→(n.ls.getD k ln0).t=((nwOf n o).T k:Nat)
 f:∀ k,k<(nwOf n o).M→(nwOf n o).F k<(nwOf n o).B
 t:∀ k,k<(nwOf n o).M→(nwOf n o).T k<(nwOf n o).B
 ne:∀ k,k<(nwOf n o).M→(nwOf n o).F k≠(nwOf n o).T k
 x:∀ k,k<(nwOf n o).M→1≤(n.ls.getD k ln0).x∧(n.ls.getD k ln0).x≤1000
 c:∀ k,k<(nwOf n o).M→0≤(n.ls.getD k ln0).c∧(n.ls.getD k ln0).c≤1000000
 outs:outsOk n o
theorem P9 {n:NtV} {o:List Int} (h:outE n o=0):nwOk n o:=by
 obtain ⟨hc,ho⟩:=Ay0 h
 obtain ⟨h1,h6,h10,hck⟩:=Az6 hc
 have hB:n.b=((n.b.toNat:Nat):Int):=by omega
 have hl:∀ k,k<n.ls.length→∀ i,i<5→ck i n.b (n.ls.getD k ln0)=true:=fun k hk=>hck k hk _ (A6 hk)
 refine ⟨hB,by show 1≤n.b.toNat;omega,by show n.b.toNat≤6;omega,h10,fun k hk=>?_,fun k hk=>?_,fun k hk=>?_,fun k hk=>?_,fun k hk=>?_,fun k hk=>?_,fun k hk=>?_,ho⟩
 all_goals
  have c0:=hl k hk 0 (by decide)
  have c1:=hl k hk 1 (by decide)
  have c2:=hl k hk 2 (by decide)
  have c3:=hl k hk 3 (by decide)
  have c4:=hl k hk 4 (by decide)
  simp [ck] at c0 c1 c2 c3 c4
 ·show (n.ls.getD k ln0).f=(((n.ls.getD k ln0).f.toNat:Nat):Int)
  simp;omega
 ·show (n.ls.getD k ln0).t=(((n.ls.getD k ln0).t.toNat:Nat):Int)
  simp;omega
 ·show (n.ls.getD k ln0).f.toNat<n.b.toNat
  simp;omega
 ·show (n.ls.getD k ln0).t.toNat<n.b.toNat
  simp;omega
 ·show (n.ls.getD k ln0).f.toNat≠(n.ls.getD k ln0).t.toNat
  simp;omega
 ·simpa using c3
 ·simpa using c4
theorem nwOk.g0 {n:NtV} {o:List Int} (h:nwOk n o) {k:Nat} (hk:k<(nwOf n o).M):(nwOf n o).g k=0↔k∈oN o:=by
 show (if k∈oN o then (0:Rat) else ((n.ls.getD k ln0).x:Rat)⁻¹)=0↔_
 constructor
 ·intro h0
  by_cases hm:k∈oN o
  ·exact hm
  ·rw [if_neg hm] at h0
   have hx:=(h.x k hk).1
   have hne:((n.ls.getD k ln0).x:Rat)≠0:=fun e=>by
    have:(n.ls.getD k ln0).x=0:=by exact_mod_cast e
    omega
   have h2:=Rat.mul_inv_cancel _ hne
   rw [h0,Rat.mul_zero] at h2
   exact absurd h2 (by decide)
 ·intro hm;rw [if_pos hm]
theorem nwOk.ok {n:NtV} {o:List Int} (h:nwOk n o):(nwOf n o).Ok:=by
 refine ⟨h.f,h.t,fun k hk=>?_⟩
 show (0:Rat)≤if k∈oN o then (0:Rat) else ((n.ls.getD k ln0).x:Rat)⁻¹
 split
 ·exact Rat.le_refl
 ·have hx:=(h.x k hk).1
  exact Rat.le_of_lt (Rat.inv_pos.2 (by exact_mod_cast (by omega:0<(n.ls.getD k ln0).x)))
theorem Av9:Ent Tryz.prog 114:=A0 Tryz.func114 (by kernel_rfl) rfl
theorem Au2 {w:World} {b8 g B b:Nat} {p R:Nat→Nat} (k8:Blk w b8 41 #[.slice (some ⟨g,0,none⟩) B B]) (hf:FB (eInt .i64) 3 (fun _=>True) w g (tabI B p)) (hp:Clm B p R) (hb:b<B) :
  CR Tryz.prog 114 #[.int .i64 (b:Nat),.pointer (some ⟨b8,0,none⟩)] w (Is (.int .i64 (R b:Nat))):=by
 refine enter Tryz.func114 rfl Tryz.ntmps114 rfl ?_
 refine .seq (.region (.asg rfl rfl (.nil (.scope (.seq (.label (.seq ?_)))))))
 refine .block (.loop (α:=Nat) (fun x=>[(0,.int .i64 (x:Nat)),(1,.pointer (some ⟨b8,0,none⟩))]) (fun x W=>W=w∧x<B∧R x=R b) (fun x=>x) b ?_ ?_ ?_)
 ·exact lkA rfl
 ·exact ⟨rfl,hb,rfl⟩
 rintro x W ⟨rfl,hx,hR⟩
 obtain ⟨h1,h2,h3⟩:=hp x hx
 refine .block (.seq (.region (.ld ty_I rfl rfl k8 rfl (.mv rfl rfl (.ixB (i:=x) un_I B9 rfl rfl rfl hx (.ldF (E:=eInt .i64) (i:=x) (by decide) B9 rfl rfl (Nat.zero_add _) hf (U8 hx) fun e he=>.asg rfl rfl (.nil (.seq (.region (.mv rfl rfl (.nil ?_)))))))))))
 obtain ⟨rfl,_⟩:=he
 refine .block (.seq (.region (.mv rfl rfl ?_)))
 by_cases hpx:p x=x
 ·refine .eqlT rfl rfl rfl (by omega) (.asg rfl rfl (.nil (.condT rfl (.exit (.seq (.region (.mv rfl rfl (.asg rfl rfl (.nil (.ret ?_))))))))))
  exact .plain [_] Tryz.results114 ⟨rfl,trivial⟩ ⟨Ext.refl _,by rw [←hR,h2 hpx];rfl⟩
 ·refine .eqlF rfl rfl rfl (by omega) (.asg rfl rfl (.nil (.condF rfl (.region (.mv rfl rfl (.asg rfl rfl (.nil ?_)))))))
  exact ⟨rfl,p x,lkA rfl,⟨rfl,by omega,by rw [←h3 hpx];exact hR⟩,by omega⟩
end Go.Proofs.YteghbhdniimjbaaGreat

namespace Go.Proofs.YteghbhdniimjbaaGreat
open Go Go.Kx Go.RowKit
theorem AP1 {n:NtV} {o:List Int} {i:Nat} (hi:i<(inL n o).length):(pInts (inL n o))[i]?=some (((inL n o).getD i 0:Nat):Int)∧(inL n o).getD i 0<n.ls.length∧(inL n o).getD i 0∉oN o:=by
 have key:∀ k,k∈inL n o→k<n.ls.length∧k∉oN o:=fun k hk=>by
  unfold inL freeTo at hk
  rw [List.mem_filter] at hk
  exact ⟨List.mem_range.1 hk.1,by simpa using hk.2⟩
 obtain ⟨h1,h2⟩:=key _ (D4 hi)
 exact ⟨by rw [List.getElem?_map,A6 (z:=0) hi];rfl,h1,h2⟩
theorem fil_get {B i j:Nat} {f:Nat→Int} (hj:j<B) (hi:j<i):(fil B i f 0)[j]?=some (f j):=by
 unfold fil
 rw [List.getElem?_map,List.getElem?_range hj]
 simp [hi]
theorem Z1:Ent Tryz.prog 38:=A0 Tryz.func38 (by kernel_rfl) rfl
theorem X9 {S:Nat→Prop} {w:World} {vn vo:Value} {n:NtV} {o:List Int} (up:Up S w) (hn:eN.R S w vn n) (ho:eI.R S w vo o) :
  CR Tryz.prog 38 #[vn,vo] w (Two (eI.at S (if outE n o=0 then tabI (nwOf n o).B (nwOf n o).lab else [])) (Is (.int .i64 (outE n o)))):=by
 obtain ⟨s,rfl,hs,hb⟩:=hn
 have hn:eN.R S w (.agg #[.int .i64 n.b,s]) n:=⟨s,rfl,hs,hb⟩
 refine enter Tryz.func38 rfl Tryz.ntmps38 rfl ?_
 refine .seq (.region (.box rfl rfl fun w1 b2 n1=>.asg rfl rfl (.asg rfl rfl (.nil ?_))))
 obtain ⟨e1,k2,hb2,hs1⟩:=n1
 refine .seq (.region (.ldA ty_N rfl rfl k2 rfl (.mv rfl rfl ?_)))
 refine .call _ rfl AQ6 rfl (AO5 (up.ext e1.size) (hn.ext e1) (ho.ext e1)) fun v2 w2 e2 h2=>?_
 obtain ⟨vl,ve,rfl,hl,he⟩:=h2
 replace he:ve=.int .i64 (outE n o):=he
 subst he
 have x2:=e1.trans e2
 refine .mv rfl rfl (.ext rfl rfl rfl (.ext rfl rfl rfl (.asg rfl rfl (.asg rfl rfl (.nil (.seq (.seq (.region (.mv rfl rfl ?_)))))))))
 by_cases hE:outE n o=0
 rotate_left
 ·refine .neqT rfl rfl rfl hE (.nil (.condT rfl (.seq (.region (.mv rfl rfl (.asg rfl rfl (.asg rfl rfl (.nil (.ret ?_)))))))))
  refine .plain [_,_] Tryz.results38 ⟨rfl,rfl,trivial⟩ ⟨x2,_,_,rfl,?_,rfl⟩
  rw [if_neg hE];exact RL.nil
 have ok:=P9 hE
 rw [if_pos hE] at hl ⊢
 have hB6:=ok.b6
 have hM10:n.ls.length≤10:=ok.m
 have hll:=AH4 n o
 generalize hB:(nwOf n o).B=B at *
 refine .neqF rfl rfl rfl hE (.nil (.condF rfl (.skip ?_)))
 have k2:=k2.ext e2
 have hnb:=ok.b
 rw [hB] at hnb
 rw [hnb] at k2
 refine .seq (.region (.fa F8 rfl rfl (.ld A7 rfl rfl k2 rfl ?_)))
 refine .make_ B B un_I AS2 rfl (by decide) rfl rfl rfl (Nat.le_refl _) (by omega) (by omega) fun w3 g n3=>?_
 have f3:FB (eInt .i64) 3 (fun _=>True) w3 g (List.replicate B 0):=FB.made n3 ⟨rfl,by decide⟩
 obtain ⟨e3,_,hg3,hs3⟩:=n3
 refine .alloc rfl Ar8 fun w4 b8 n4=>?_
 obtain ⟨e4,k8,hb8,hs4⟩:=n4
 refine .store ty_I rfl rfl k8 rfl (by simp [Value.cells]) (by simp [one1,Value.cells]) fun w5 k8 u5=>.nil ?_
 replace k8:Blk w5 b8 41 #[.slice (some ⟨g,0,none⟩) B B]:=k8
 have hs2:=e2.size
 have hs5:=u5.size
 have x4:=x2.trans (e3.trans e4)
 have x5:Ext w w5:=u5.below x4 (by omega)
 have x25:Ext w2 w5:=u5.below (e3.trans e4) (by omega)
 have k2:=k2.ext x25
 have hl:=ER.ext eI (ER.lt eI hl) x25
 have hsL:=ER.ext eLs (ER.lt eLs hs) x5
 have hupd:∀ {W W':World} {l:List Int} {b:Nat},FB (eInt .i64) 3 (fun _=>True) W g l→Upd W W' b→g≠b→FB (eInt .i64) 3 (fun _=>True) W' g l:=fun hf u hne=>by
  obtain ⟨es,hb,he⟩:=hf
  exact ⟨es,hb.upd u hne,he.1,fun i e x h1 h2=>he.2 i e x h1 h2⟩
 have f5:=hupd (f3.ext e4) u5 (by omega)
 have hgw:w2.heap.size≤g:=by omega
 have hg8:g≠b8:=by omega
 have hg2:b2≠g:=by omega
 have hw25:w2.heap.size≤w5.heap.size:=by omega
 refine .mid (α:=Unit) (fun _=>[(2,.pointer (some ⟨b2,0,none⟩)),(6,vl),(8,.pointer (some ⟨b8,0,none⟩))]) (fun _ W=>Below w2.heap.size w5 W∧Blk W b8 41 #[.slice (some ⟨g,0,none⟩) B B]∧FB (eInt .i64) 3 (fun _=>True) W g (tabI B id)) ?_ ?_
 ·refine .seq (.region (.ld ty_I rfl rfl k8 rfl (.len un_I rfl rfl (.mv rfl rfl (.nil ?_)))))
  refine .block (.loop (α:=Nat) (fun i=>[(2,.pointer (some ⟨b2,0,none⟩)),(6,vl),(8,.pointer (some ⟨b8,0,none⟩)),(32,.int .i64 (B:Nat)),(33,.int .i64 (i:Nat))]) (fun i W=>Below w2.heap.size w5 W∧Blk W b8 41 #[.slice (some ⟨g,0,none⟩) B B]∧i≤B∧FB (eInt .i64) 3 (fun _=>True) W g (fil B i (fun b=>((b:Nat):Int)) 0)) (fun i=>B-i) 0 ?_ ?_ ?_)
  ·exact lkA rfl
  ·refine ⟨Below.refl _ _,k8,Nat.zero_le _,?_⟩
   rw [K8];exact f5
  rintro i W ⟨hW,k8,hi,fb⟩
  refine .seq (.region ?_)
  rcases Nat.lt_or_ge i B with hlt | hge
  rotate_left
  ·refine .lssF rfl rfl rfl (by omega) (.nil (.seq (.condF rfl (.exit ?_))))
   have:i=B:=by omega
   subst this
   refine ⟨rfl,(),lkA rfl,hW,k8,?_⟩
   rw [Y4] at fb
   exact fb
  refine .lssT rfl rfl rfl (by omega) (.nil (.seq (.condT rfl (.skip (.seq (.block (.seq (.region (.mv rfl rfl (.asg rfl rfl (.nil (.region (.ld ty_I rfl rfl k8 rfl (.mv rfl rfl (.mv rfl rfl (.ixB (i:=i) un_I B9 rfl rfl rfl hlt ?_))))))))))))))))
  refine .storeF (E:=eInt .i64) (i:=i) (z:=((i:Nat):Int)) (by decide) B9 rfl rfl fb rfl (by rw [I2];exact hlt) (Nat.zero_add _) ⟨rfl,L9.2 (by omega)⟩ fun W1 f1 u1=>.nil ?_
  refine .region (.add rfl rfl rfl (.mv rfl rfl (.nil ?_)))
  rw [wI (by omega)]
  rw [P4] at f1
  exact ⟨rfl,i+1,lkA rfl,⟨u1.below hW hgw,k8.upd u1 hg8.symm,hlt,f1⟩,by show B-(i+1)<B-i;omega⟩
 rintro _ W0 ⟨hW0,k8,fb0⟩
 have hk2:∀ {W:World},Below w2.heap.size w5 W→Blk W b2 40 #[.int .i64 (B:Nat),s]:=fun h=>(h.block b2 (by omega)).trans k2
 have hlW:∀ {W:World},Below w2.heap.size w5 W→eI.R (fun k=>S k∧k<w2.heap.size) W vl (pInts (inL n o)):=fun h=>eI.keep (fun k c t f hk hh=>(h.block k hk.2).trans hh) hl
 have hsW:∀ {W:World},Below w2.heap.size w5 W→eLs.R (fun k=>S k∧k<w.heap.size) W s n.ls:=fun h=>eLs.keep (fun k c t f hk hh=>(h.block k (by have:=hk.2;have:=x2.size;omega)).trans hh) hsL
 refine .seq (.region (.mkf [] [_] rfl rfl rfl rfl (.asg rfl rfl (.nil ?_))))
 refine .mid (α:=Nat→Nat) (fun _=>[(2,.pointer (some ⟨b2,0,none⟩)),(8,.pointer (some ⟨b8,0,none⟩)),(10,.func (.func 114) #[] #[.pointer (some ⟨b8,0,none⟩)])]) (fun p W=>Below w2.heap.size w5 W∧Blk W b8 41 #[.slice (some ⟨g,0,none⟩) B B]∧FB (eInt .i64) 3 (fun _=>True) W g (tabI B p)∧Clm B p ((nwOf n o).rootF (inL n o))) ?_ ?_
 ·refine .seq (.region (.mv rfl rfl (.lenR un_I rfl rfl (hlW hW0) (.mv rfl rfl (.nil ?_)))))
  rw [show (pInts (inL n o)).length=(inL n o).length by simp]
  refine .block (.loop (α:=Nat×(Nat→Nat)) (fun y=>[(2,.pointer (some ⟨b2,0,none⟩)),(8,.pointer (some ⟨b8,0,none⟩)),(10,.func (.func 114) #[] #[.pointer (some ⟨b8,0,none⟩)]),(42,vl),(43,.int .i64 ((inL n o).length:Nat)),(44,.int .i64 (y.1:Nat))])
   (fun y W=>Below w2.heap.size w5 W∧Blk W b8 41 #[.slice (some ⟨g,0,none⟩) B B]∧y.1≤(inL n o).length∧FB (eInt .i64) 3 (fun _=>True) W g (tabI B y.2)∧Clm B y.2 ((nwOf n o).rootF ((inL n o).take y.1))) (fun y=>(inL n o).length-y.1) (0,id) ?_ ?_ ?_)
  ·exact lkA rfl
  ·exact ⟨hW0,k8,Nat.zero_le _,fb0,fun b _=>⟨Nat.le_refl _,fun _=>rfl,fun h=>absurd rfl h⟩⟩
  rintro ⟨i,p⟩ W ⟨hW,k8,hi,fb,hc⟩
  replace hW:Below w2.heap.size w5 W:=hW
  replace hi:i≤(inL n o).length:=hi
  replace fb:FB (eInt .i64) 3 (fun _=>True) W g (tabI B p):=fb
  replace hc:Clm B p ((nwOf n o).rootF ((inL n o).take i)):=hc
  refine .seq (.region ?_)
  rcases Nat.lt_or_ge i (inL n o).length with hlt | hge
  rotate_left
  ·refine .lssF rfl rfl rfl (by omega) (.nil (.seq (.condF rfl (.exit ?_))))
   have:i=(inL n o).length:=by omega
   subst this
   rw [List.take_of_length_le (Nat.le_refl _)] at hc
   exact ⟨rfl,p,lkA rfl,hW,k8,fb,hc⟩
  obtain ⟨hgk,hkM,hko⟩:=AP1 hlt
  refine .lssT rfl rfl rfl (by omega) (.nil (.seq (.condT rfl (.skip (.seq (.block (.seq (.region (.ixN (i:=i) un_I B9 rfl rfl (hlW hW) rfl hgk fun q hq=>.ldE (E:=eInt .i64) B9 rfl rfl hq fun e he=>.asg rfl rfl (.nil ?_))))))))))
  obtain ⟨rfl,_⟩:=he
  have htk:(inL n o).take (i+1)=(inL n o).take i++[(inL n o).getD i 0]:=by rw [List.take_add_one,A6 (z:=0) hlt];rfl
  have hFB:=ok.f _ hkM
  have hTB:=ok.t _ hkM
  have hFI:=ok.fI _ hkM
  have hTI:=ok.tI _ hkM
  have hgl:n.ls[(inL n o).getD i 0]?=some (n.ls.getD ((inL n o).getD i 0) ln0):=A6 hkM
  have hidm:=(nwOf n o).rootF_idm ((inL n o).take i)
  generalize hR:(nwOf n o).rootF ((inL n o).take i)=R at hc hidm
  generalize hk:(inL n o).getD i 0=k at hgl hFB hTB hFI hTI hkM hko htk
  rw [hB] at hFB hTB
  have hlF:=hidm.le ((nwOf n o).F k)
  have hlT:=hidm.le ((nwOf n o).T k)
  refine .seq ?_
  refine .par follows 16 [.inl (.func (.func 114) #[] #[.pointer (some ⟨b8,0,none⟩)]),.inl (.pointer (some ⟨b2,1,none⟩)),.inl s,.inl (.int .i64 (k:Nat)),.inr (Ptr eL (fun k=>S k∧k<w.heap.size) (n.ls.getD k ln0)),.inr (Ptr (eInt .i64) (fun k=>S k∧k<w.heap.size) (n.ls.getD k ln0).f),.inl (.int .i64 ((nwOf n o).F k:Nat)),.inl (.int .i64 (R ((nwOf n o).F k):Nat)),
   .inl (.func (.func 114) #[] #[.pointer (some ⟨b8,0,none⟩)]),.inl (.pointer (some ⟨b2,1,none⟩)),.inl s,.inl (.int .i64 (k:Nat)),.inr (Ptr eL (fun k=>S k∧k<w.heap.size) (n.ls.getD k ln0)),.inr (Ptr (eInt .i64) (fun k=>S k∧k<w.heap.size) (n.ls.getD k ln0).t),.inl (.int .i64 ((nwOf n o).T k:Nat)),.inl (.int .i64 (R ((nwOf n o).T k):Nat))]
   [[],[],[(49,1)],[],[(50,2),(51,3)],[(52,4)],[(53,5)],[(48,0),(54,6)],[],[],[(57,9)],[],[(58,10),(59,11)],[(60,12)],[(61,13)],[(56,8),(62,14)]] (by kernel_rfl) ⟨
   fun w e=>(v_mv rfl).ob,fun w e=>(v_fa L6 rfl).ob,fun w e=>(v_ld T6 rfl ((hk2 hW).ext e) rfl).ob,fun w e=>(v_mv rfl).ob,
   fun w e=>D6 (i:=k) P8 T7 rfl (ER.ext eLs (hsW hW) e) rfl hgl,fun w e x hx=>BI1 J9 rfl hx (by decide),fun w e x hx=>by rw [←hFI];exact AF1 B9 rfl hx,
   fun w e=>Gv.obIs (AH7 [.int .i64 ((nwOf n o).F k:Nat)] rfl Av9 rfl (Au2 (k8.ext e) (fb.ext e) hc hFB)),
   fun w e=>(v_mv rfl).ob,fun w e=>(v_fa L6 rfl).ob,fun w e=>(v_ld T6 rfl ((hk2 hW).ext e) rfl).ob,fun w e=>(v_mv rfl).ob,
   fun w e=>D6 (i:=k) P8 T7 rfl (ER.ext eLs (hsW hW) e) rfl hgl,fun w e x hx=>BI1 J8 rfl hx (by decide),fun w e x hx=>by rw [←hTI];exact AF1 B9 rfl hx,
   fun w e=>Gv.obIs (AH7 [.int .i64 ((nwOf n o).T k:Nat)] rfl Av9 rfl (Au2 (k8.ext e) (fb.ext e) hc hTB)),trivial⟩ ?_
  intro W1 f1 _ _ _ _ _ _ _ _
  refine .asg rfl rfl (.asg rfl rfl (.nil (.region (.ld ty_I rfl rfl (k8.ext f1) rfl (.mv rfl rfl (.mv rfl rfl (.max_ rfl rfl rfl (.mv rfl rfl (.mv rfl rfl (.min_ rfl rfl rfl ?_))))))))))
  rw [show max ((R ((nwOf n o).F k):Nat):Int) (R ((nwOf n o).T k):Nat)=((max (R ((nwOf n o).F k)) (R ((nwOf n o).T k)):Nat):Int) by omega,show min ((R ((nwOf n o).F k):Nat):Int) (R ((nwOf n o).T k):Nat)=((min (R ((nwOf n o).F k)) (R ((nwOf n o).T k)):Nat):Int) by omega]
  refine .ixB (i:=max (R ((nwOf n o).F k)) (R ((nwOf n o).T k))) un_I B9 rfl rfl rfl (by omega) ?_
  refine .storeF (E:=eInt .i64) (i:=max (R ((nwOf n o).F k)) (R ((nwOf n o).T k))) (z:=((min (R ((nwOf n o).F k)) (R ((nwOf n o).T k)):Nat):Int)) (by decide) B9 rfl rfl (fb.ext f1) rfl (by rw [M6];omega) (Nat.zero_add _) ⟨rfl,L9.2 (by omega)⟩ fun W2 f2 u2=>.nil ?_
  rw [BG1] at f2
  have hW1:=hW.trans (f1.mono (by have:=hW.size;omega))
  refine .region (.add rfl rfl rfl (.mv rfl rfl (.nil ?_)))
  rw [wI (by omega)]
  refine ⟨rfl,(i+1,_),lkA rfl,⟨u2.below hW1 hgw,(k8.ext f1).upd u2 hg8.symm,hlt,f2,?_⟩,by show (inL n o).length-(i+1)<(inL n o).length-i;omega⟩
  show Clm B _ ((nwOf n o).rootF ((inL n o).take (i+1)))
  rw [htk,Nw.rootF_snoc,hR]
  exact hc.step hidm
 rintro p W1 ⟨hW1,k8,fb,hc⟩
 rw [show (nwOf n o).rootF (inL n o)=(nwOf n o).root by
  funext b
  unfold Nw.root
  rw [Nw.rootF_free (p:=oN o) _ fun k hk=>ok.g0 hk];rfl] at hc
 have hW1s:=hW1.size
 refine .seq (.region (.fa F8 rfl rfl (.ld A7 rfl rfl (hk2 hW1) rfl ?_)))
 refine .make_ B B un_I AS2 rfl (by decide) rfl rfl rfl (Nat.le_refl _) (by omega) (by omega) fun W2 h n2=>?_
 have f2:FB (eInt .i64) 3 (fun _=>True) W2 h (List.replicate B 0):=FB.made n2 ⟨rfl,by decide⟩
 obtain ⟨e2',_,hh2,hs2'⟩:=n2
 refine .asg rfl rfl (.nil (.seq (.region (.asg rfl rfl (.nil ?_)))))
 have hgh:g≠h:=by have:=fb.lt;omega
 have k8:=k8.ext e2'
 have h8h:b8≠h:=by have:=hW1s;omega
 have fb:=fb.ext e2'
 have hW2:=hW1.trans (e2'.mono (by omega))
 have hhw:w2.heap.size≤h:=by omega
 have hupd':∀ {W W':World} {l:List Int},FB (eInt .i64) 3 (fun _=>True) W g l→Upd W W' h→FB (eInt .i64) 3 (fun _=>True) W' g l:=fun hf u=>hupd hf u hgh
 refine .seq (.seq (.region (.mv rfl rfl (.len un_I rfl rfl (.mv rfl rfl (.nil ?_))))))
 refine .block (.loop (α:=Nat) (fun i=>[(8,.pointer (some ⟨b8,0,none⟩)),(10,.func (.func 114) #[] #[.pointer (some ⟨b8,0,none⟩)]),(15,.slice (some ⟨h,0,none⟩) B B),(16,.int .i64 ((nwOf n o).cnt i:Nat)),(77,.int .i64 (B:Nat)),(78,.int .i64 (i:Nat))])
  (fun i W=>Below w2.heap.size w5 W∧Blk W b8 41 #[.slice (some ⟨g,0,none⟩) B B]∧i≤B∧FB (eInt .i64) 3 (fun _=>True) W g (tabI B p)∧FB (eInt .i64) 3 (fun _=>True) W h (fil B i (fun b=>(((nwOf n o).lab b:Nat):Int)) 0)) (fun i=>B-i) 0 ?_ ?_ ?_)
 ·exact lkA rfl
 ·refine ⟨hW2,k8,Nat.zero_le _,fb,?_⟩
  rw [K8];exact f2
 rintro i W ⟨hW,k8,hi,fb,fl⟩
 refine .seq (.region ?_)
 rcases Nat.lt_or_ge i B with hlt | hge
 rotate_left
 ·refine .lssF rfl rfl rfl (by omega) (.nil (.seq (.condF rfl (.exit (.seq (.region (.mv rfl rfl (.asg rfl rfl (.asg rfl rfl (.nil (.ret ?_)))))))))))
  have:i=B:=by omega
  subst this
  refine .plain [_,_] Tryz.results38 ⟨rfl,rfl,trivial⟩ ⟨Below.trans x5 (hW.mono (by omega)),_,_,rfl,?_,by rw [hE]⟩
  rw [Y4] at fl
  have fl':FB (eInt .i64) 3 S W h (tabI i (nwOf n o).lab):=by
   obtain ⟨es,hb,he⟩:=fl
   exact ⟨es,hb,he.1,fun i e x h1 h2=>he.2 i e x h1 h2⟩
  have:=fl'.toR (hsz:=by decide) (c:=i) (up h (by omega)) (by rw [M6];omega) (by rw [M6];omega)
  rw [M6] at this
  exact this
 refine .lssT rfl rfl rfl (by omega) (.nil (.seq (.condT rfl (.skip (.seq (.block (.seq (.region (.mv rfl rfl (.asg rfl rfl (.nil (.seq (.seq (.region (.mv rfl rfl (.mv rfl rfl ?_))))))))))))))))
 refine .callv [.int .i64 (i:Nat)] rfl rfl Av9 rfl (Au2 k8 fb hc hlt) fun v3 W3 e3 h3=>.asg rfl rfl (.nil (.seq (.region (.mv rfl rfl (.mv rfl rfl ?_)))))
 subst h3
 have hrl:=Nw.root_le (n:=nwOf n o) i
 have hlb:=Nw.lab_le (nwOf n o) i
 have hcl:=Nw.cnt_le (nwOf n o) i
 have hcs:=Nw.cnt_succ (nwOf n o) i
 have hW3:=hW.trans (e3.mono (by have:=hW.size;omega))
 have k8:=k8.ext e3
 have fb:=fb.ext e3
 have fl:=fl.ext e3
 by_cases hr:(nwOf n o).root i=i
 ·refine .neqF rfl rfl rfl (by omega) (.nil (.condF rfl (.skip (.seq (.region (.mv rfl rfl (.mv rfl rfl (.mv rfl rfl (.ixB (i:=i) un_I B9 rfl rfl rfl hlt ?_)))))))))
  refine .storeF (E:=eInt .i64) (i:=i) (z:=(((nwOf n o).lab i:Nat):Int)) (by decide) B9 rfl rfl fl rfl (by rw [I2];exact hlt) (Nat.zero_add _) ⟨by rw [Nw.lab_root _ hr],L9.2 (by omega)⟩ fun W4 f4 u4=>.nil ?_
  rw [P4 (f:=fun b=>(((nwOf n o).lab b:Nat):Int))] at f4
  refine .region (.mv rfl rfl (.add rfl rfl rfl (.asg rfl rfl (.nil (.region (.add rfl rfl rfl (.mv rfl rfl (.nil ?_))))))))
  rw [wI (by omega),wI (by omega)]
  rw [if_pos hr] at hcs
  exact ⟨rfl,i+1,A5 rfl (A5 rfl (A5 rfl (A5 (by rw [hcs];rfl) (lkA rfl)))),⟨u4.below hW3 hhw,k8.upd u4 h8h,hlt,hupd' fb u4,f4⟩,by show B-(i+1)<B-i;omega⟩
 ·refine .neqT rfl rfl rfl (by omega) (.nil (.condT rfl (.seq (.region (.mv rfl rfl (.mv rfl rfl (.mv rfl rfl (.mv rfl rfl (.ixB (i:=(nwOf n o).root i) un_I B9 rfl rfl rfl (by omega) ?_)))))))))
  refine .ldF (E:=eInt .i64) (i:=(nwOf n o).root i) (by decide) B9 rfl rfl (Nat.zero_add _) fl (fil_get (by omega) (by omega)) fun e he=>?_
  obtain ⟨rfl,_⟩:=he
  refine .ixB (i:=i) un_I B9 rfl rfl rfl hlt ?_
  refine .storeF (E:=eInt .i64) (i:=i) (z:=(((nwOf n o).lab i:Nat):Int)) (by decide) B9 rfl rfl fl rfl (by rw [I2];exact hlt) (Nat.zero_add _) ⟨by rw [Nw.lab_of _ i],L9.2 (by omega)⟩ fun W4 f4 u4=>.nil ?_
  rw [P4 (f:=fun b=>(((nwOf n o).lab b:Nat):Int))] at f4
  refine .exit (.region (.add rfl rfl rfl (.mv rfl rfl (.nil ?_))))
  rw [wI (by omega)]
  rw [if_neg hr,Nat.add_zero] at hcs
  exact ⟨rfl,i+1,A5 rfl (A5 rfl (A5 rfl (A5 (by rw [hcs];rfl) (lkA rfl)))),⟨u4.below hW3 hhw,k8.upd u4 h8h,hlt,hupd' fb u4,f4⟩,by show B-(i+1)<B-i;omega⟩
end Go.Proofs.YteghbhdniimjbaaGreat

namespace Go.Kx
open Go Go.RowKit
theorem Ax6 (P:Nat→Bool) (i:Nat):∀ d,∃ t,(List.range (i+d)).filter P=(List.range i).filter P++t
 | 0=>⟨[],by simp⟩
 | d+1=>by
  obtain ⟨t,ht⟩:=Ax6 P i d
  rw [show i+(d+1)=(i+d)+1 by omega,List.range_succ,List.filter_append,ht,List.append_assoc]
  exact ⟨_,rfl⟩
theorem BG8 {P:Nat→Bool} {r C:Nat} (hr:r<C) (hP:P r=true):((List.range C).filter P).getD ((List.range r).filter P).length 0=r∧((List.range r).filter P).length<((List.range C).filter P).length:=by
 obtain ⟨t,ht⟩:=Ax6 P (r+1) (C-(r+1))
 rw [show r+1+(C-(r+1))=C by omega,List.range_succ,List.filter_append] at ht
 have e:List.filter P [r]=[r]:=by simp [hP]
 rw [e] at ht
 rw [ht]
 constructor
 ·rw [List.getD_eq_getElem?_getD,List.append_assoc,List.getElem?_append_right (Nat.le_refl _)];simp
 ·simp
def Nw.refsTo (n:Nw) (b:Nat):List Nat:=(List.range b).filter fun r=>decide (n.root r=r)
theorem Nw.refsTo_len (n:Nw) (b:Nat):(n.refsTo b).length=n.cnt b:=rfl
theorem Nw.refsTo_succ (n:Nw) (b:Nat):n.refsTo (b+1)=n.refsTo b++if n.root b=b then [b] else []:=by
 unfold Nw.refsTo
 rw [List.range_succ,List.filter_append]
 by_cases h:n.root b=b
 ·simp [h]
 ·simp [h]
theorem Nw.cnt_mono (n:Nw) (a:Nat):∀ d,n.cnt a≤n.cnt (a+d)
 | 0=>Nat.le_refl _
 | d+1=>by have:=Nw.cnt_mono n a d;have:=n.cnt_succ (a+d);rw [show a+(d+1)=a+d+1 by omega];omega
theorem Nw.lab_cnt (n:Nw) (b:Nat):n.lab b=n.cnt b↔n.root b=b:=by
 refine ⟨fun h=>?_,fun h=>n.lab_root h⟩
 have hle:=Nw.root_le (n:=n) b
 rcases Nat.lt_or_ge (n.root b) b with hlt | hge
 ·exfalso
  have h1:n.lab b=n.cnt (n.root b):=rfl
  have h2:=n.cnt_succ (n.root b)
  rw [if_pos (Nw.root_root b)] at h2
  have h3:=n.cnt_mono (n.root b+1) (b-(n.root b+1))
  rw [show n.root b+1+(b-(n.root b+1))=b by omega] at h3
  omega
 ·omega
theorem Nw.refs_lab (n:Nw) {b:Nat} (hb:b<n.B):n.refs.getD (n.lab b) 0=n.root b∧n.lab b<n.refs.length:=by
 have hle:=Nw.root_le (n:=n) b
 exact BG8 (P:=fun r=>decide (n.root r=r)) (r:=n.root b) (C:=n.B) (by omega) (decide_eq_true (Nw.root_root b))
theorem Nw.mem_refs {n:Nw} {r:Nat}:r∈n.refs↔r<n.B∧n.root r=r:=by
 unfold Nw.refs
 rw [List.mem_filter,List.mem_range]
 simp
theorem Nw.lab_eq {n:Nw} {a b:Nat} (ha:a<n.B) (hb:b<n.B):n.lab a=n.lab b↔n.root a=n.root b:=by
 constructor
 ·intro h
  rw [←(n.refs_lab ha).1,←(n.refs_lab hb).1,h]
 ·intro h;unfold Nw.lab;rw [h]
end Go.Kx
namespace Go.Proofs.YteghbhdniimjbaaGreat
open Go Go.Kx Go.RowKit
theorem AJ9:Ent Tryz.prog 39:=A0 Tryz.func39 (by kernel_rfl) rfl
theorem AJ2 {S:Nat→Prop} {w:World} {vn vo:Value} {n:NtV} {o:List Int} (up:Up S w) (hn:eN.R S w vn n) (ho:eI.R S w vo o) :
  CR Tryz.prog 39 #[vn,vo] w (Two (eI.at S (if outE n o=0 then pInts (nwOf n o).refs else [])) (Is (.int .i64 (outE n o)))):=by
 have hvn:=shpA (E:=eN) rfl hn
 refine enter Tryz.func39 rfl Tryz.ntmps39 rfl ?_
 refine .seq (.region (.box rfl rfl fun w1 b2 n1=>.asg rfl rfl (.asg rfl rfl (.nil ?_))))
 obtain ⟨e1,k2,hb2,hs1⟩:=n1
 refine .seq (.region (.ldA ty_N rfl rfl k2 (eN.csz hn) (.mv rfl rfl ?_)))
 rw [←hvn]
 refine .call _ rfl Z1 rfl (X9 (up.ext e1.size) (hn.ext e1) (ho.ext e1)) fun v2 w2 e2 h2=>?_
 obtain ⟨vl,ve,rfl,hl,he⟩:=h2
 replace he:ve=.int .i64 (outE n o):=he
 subst he
 have x2:=e1.trans e2
 refine .mv rfl rfl (.ext rfl rfl rfl (.ext rfl rfl rfl (.asg rfl rfl (.asg rfl rfl (.nil (.seq (.seq (.region (.mv rfl rfl ?_)))))))))
 by_cases hE:outE n o=0
 rotate_left
 ·refine .neqT rfl rfl rfl hE (.nil (.condT rfl (.seq (.region (.mv rfl rfl (.asg rfl rfl (.asg rfl rfl (.nil (.ret ?_)))))))))
  refine .plain [_,_] Tryz.results39 ⟨rfl,rfl,trivial⟩ ⟨x2,_,_,rfl,?_,rfl⟩
  rw [if_neg hE];exact RL.nil
 have ok:=P9 hE
 rw [if_pos hE] at hl ⊢
 have hB6:=ok.b6
 refine .neqF rfl rfl rfl hE (.nil (.condF rfl (.skip (.seq (.region (.asg rfl rfl (.nil ?_)))))))
 have hlW:∀ {W:World},Below w2.heap.size w2 W→eI.R (fun k=>S k∧k<w2.heap.size) W vl (tabI (nwOf n o).B (nwOf n o).lab):=fun h=>eI.keep (fun k c t f hk hh=>(h.block k hk.2).trans hh) (ER.lt eI hl)
 refine .seq (.seq (.region (.mv rfl rfl (.lenR un_I rfl rfl hl (.mv rfl rfl (.nil ?_))))))
 rw [M6]
 refine .block (.loop (α:=Nat×Value) (fun y=>[(8,y.2),(20,vl),(21,.int .i64 ((nwOf n o).B:Nat)),(22,.int .i64 (y.1:Nat))]) (fun y W=>Below w2.heap.size w2 W∧y.1≤(nwOf n o).B∧OwnL (eInt .i64) 3 w2.heap.size S W y.2 (pInts ((nwOf n o).refsTo y.1))) (fun y=>(nwOf n o).B-y.1) (0,.slice none 0 0) ?_ ?_ ?_)
 ·exact lkA rfl
 ·exact ⟨Below.refl _ _,Nat.zero_le _,OwnL.nil⟩
 rintro ⟨i,v⟩ W ⟨hW,hi,hown⟩
 replace hW:Below w2.heap.size w2 W:=hW
 replace hi:i≤(nwOf n o).B:=hi
 replace hown:OwnL (eInt .i64) 3 w2.heap.size S W v (pInts ((nwOf n o).refsTo i)):=hown
 refine .seq (.region ?_)
 rcases Nat.lt_or_ge i (nwOf n o).B with hlt | hge
 rotate_left
 ·refine .lssF rfl rfl rfl (by omega) (.nil (.seq (.condF rfl (.exit (.seq (.region (.mv rfl rfl (.asg rfl rfl (.asg rfl rfl (.nil (.ret ?_)))))))))))
  have:i=(nwOf n o).B:=by omega
  subst this
  refine .plain [_,_] Tryz.results39 ⟨rfl,rfl,trivial⟩ ⟨x2.trans hW,_,_,rfl,?_,by rw [hE]⟩
  exact hown.toR (fun k hk=>up k (by have:=x2.size;omega)) (fun _ h=>h)
 refine .lssT rfl rfl rfl (by omega) (.nil (.seq (.condT rfl (.skip (.seq (.block (.seq (.region (.mv rfl rfl (.ixN (i:=i) un_I B9 rfl rfl (hlW hW) rfl (U8 hlt) fun q hq=>.ldE (E:=eInt .i64) B9 rfl rfl hq fun e he=>.asg rfl rfl (.asg rfl rfl (.nil ?_))))))))))))
 obtain ⟨rfl,_⟩:=he
 have hvl:eI.R (fun k=>S k∨w2.heap.size≤k) W v (pInts ((nwOf n o).refsTo i)):=hown.toR (fun k hk=>.inr hk) (fun _ h=>.inl h)
 have hcl:=(nwOf n o).cnt_le i
 have hlb:=(nwOf n o).lab_cnt i
 have hrs:=(nwOf n o).refsTo_succ i
 have hlen:(pInts ((nwOf n o).refsTo i)).length=(nwOf n o).cnt i:=by simp [Nw.refsTo_len]
 refine .seq (.region (.mv rfl rfl (.mv rfl rfl (.lenR un_I rfl rfl hvl ?_))))
 rw [hlen]
 by_cases hr:(nwOf n o).root i=i
 ·rw [if_pos hr] at hrs
  refine .eqlT rfl rfl rfl (by rw [hlb.2 hr]) (.nil (.condT rfl (.region (.mv rfl rfl (.mv rfl rfl (.bsl _ rfl rfl Aj8 fun W1 by_ ny=>?_))))))
  obtain ⟨ey,ky,hby,hsy⟩:=ny
  have hW1:=hW.trans (ey.mono hW.size)
  refine .gv rfl rfl (AF6 (E:=eInt .i64) (base:=w2.heap.size) (n:=((i:Nat):Int)) (e:=.int .i64 (i:Nat)) (by decide) un_I AS2 rfl rfl rfl (hown.ext ey) ky ⟨rfl,L9.2 (by omega)⟩ (by rw [hlen];omega) (by decide) hW1.size) ?_
  rintro v8 W8 ⟨ho8,hg8⟩
  refine .asg rfl rfl (.nil (.region (.add rfl rfl rfl (.mv rfl rfl (.nil ?_)))))
  rw [wI (by omega)]
  refine ⟨rfl,(i+1,v8),lkA rfl,⟨(hown.ext ey).below hg8 hW1 hW1.size,hlt,?_⟩,by show (nwOf n o).B-(i+1)<(nwOf n o).B-i;omega⟩
  show OwnL (eInt .i64) 3 w2.heap.size S W8 v8 (pInts ((nwOf n o).refsTo (i+1)))
  rw [hrs]
  unfold pInts
  rw [List.map_append]
  exact ho8
 ·rw [if_neg hr,List.append_nil] at hrs
  refine .eqlF rfl rfl rfl (by intro e;exact hr (hlb.1 (by omega))) (.nil (.condF rfl (.skip (.region (.add rfl rfl rfl (.mv rfl rfl (.nil ?_)))))))
  rw [wI (by omega)]
  refine ⟨rfl,(i+1,v),lkA rfl,⟨hW,hlt,?_⟩,by show (nwOf n o).B-(i+1)<(nwOf n o).B-i;omega⟩
  show OwnL (eInt .i64) 3 w2.heap.size S W v (pInts ((nwOf n o).refsTo (i+1)))
  rw [hrs];exact hown
/-- a and b are buses -/
def busB (n:NtV) (a:Int):Prop:=0≤a∧a<n.b
open Classical in
noncomputable def conE (n:NtV) (o:List Int) (a b:Int):Int:=if outE n o≠0 then outE n o else if busB n a∧busB n b then 0 else 1
theorem conE_ok {n:NtV} {o:List Int} {a b:Int} (h:conE n o a b=0):outE n o=0∧busB n a∧busB n b:=by
 unfold conE at h
 split at h
 ·exact absurd h (by assumption)
 ·split at h
  ·exact ⟨Classical.not_not.1 (by assumption),by assumption⟩
  ·cases h
open Classical in
noncomputable def conB (n:NtV) (o:List Int) (a b:Int):Bool:=decide (conE n o a b=0∧(nwOf n o).root a.toNat=(nwOf n o).root b.toNat)
theorem AM4:Ent Tryz.prog 191:=A0 Tryz.func191 (by kernel_rfl) rfl
theorem AL2 {S:Nat→Prop} {w:World} {vn vo:Value} {n:NtV} {o:List Int} {a b:Int} (up:Up S w) (hn:eN.R S w vn n) (ho:eI.R S w vo o) :
  CR Tryz.prog 191 #[vn,vo,.int .i64 a,.int .i64 b] w (Two (Is (.bool (conB n o a b))) (Is (.int .i64 (conE n o a b)))):=by
 obtain ⟨s,rfl,hs,hb⟩:=hn
 have hn:eN.R S w (.agg #[.int .i64 n.b,s]) n:=⟨s,rfl,hs,hb⟩
 refine enter Tryz.func191 rfl Tryz.ntmps191 rfl ?_
 refine .seq (.region (.box rfl rfl fun w1 b2 n1=>.asg rfl rfl (.asg rfl rfl (.nil ?_))))
 obtain ⟨e1,k2,hb2,hs1⟩:=n1
 refine .seq (.region (.ldA ty_N rfl rfl k2 rfl (.mv rfl rfl ?_)))
 refine .call _ rfl Z1 rfl (X9 (up.ext e1.size) (hn.ext e1) (ho.ext e1)) fun v2 w2 e2 h2=>?_
 obtain ⟨vl,ve,rfl,hl,he⟩:=h2
 replace he:ve=.int .i64 (outE n o):=he
 subst he
 have x2:=e1.trans e2
 have k2:=k2.ext e2
 refine .mv rfl rfl (.ext rfl rfl rfl (.ext rfl rfl rfl (.asg rfl rfl (.asg rfl rfl (.nil (.seq (.seq (.region (.mv rfl rfl ?_)))))))))
 have hno:conE n o a b≠0→conB n o a b=false:=fun h=>by unfold conB;exact decide_eq_false fun h'=>h h'.1
 by_cases hE:outE n o=0
 rotate_left
 ·have hc:conE n o a b=outE n o:=by unfold conE;rw [if_pos hE]
  refine .neqT rfl rfl rfl hE (.nil (.condT rfl (.seq (.region (.mv rfl rfl (.asg rfl rfl (.asg rfl rfl (.nil (.ret ?_)))))))))
  exact .plain [_,_] Tryz.results191 ⟨rfl,rfl,trivial⟩ ⟨x2,_,_,rfl,by rw [hno (by rw [hc];exact hE)],by rw [hc];rfl⟩
 have ok:=P9 hE
 rw [if_pos hE] at hl
 have hbad:¬ (busB n a∧busB n b)→∀ {σ:Env},Leave Tryz.prog Tryz.f191 48 (fun v w'=>Ext w w'∧Two (Is (.bool (conB n o a b))) (Is (.int .i64 (conE n o a b))) v w') ((9,.int .i64 1)::(8,.bool false)::σ) [] w2:=fun h σ=>by
  have hc:conE n o a b=1:=by unfold conE;rw [if_neg (by simpa using hE),if_neg h]
  exact .plain [_,_] Tryz.results191 ⟨rfl,rfl,trivial⟩ ⟨x2,_,_,rfl,by rw [hno (by rw [hc];decide)],by rw [hc]⟩
 refine .neqF rfl rfl rfl hE (.nil (.condF rfl (.skip (.seq (.seq (.region (.mv rfl rfl ?_)))))))
 by_cases ha0:a<0
 ·refine .lssT rfl rfl rfl ha0 (.mv rfl rfl (.gs rfl rfl rfl rfl rfl (.gs rfl rfl rfl rfl rfl (.gs rfl rfl rfl rfl rfl (.gs rfl rfl rfl rfl rfl (.pick rfl rfl rfl (.mv rfl rfl (.gs rfl rfl rfl rfl rfl (.gs rfl rfl rfl rfl rfl (.pick rfl rfl rfl (.mv rfl rfl (.gs rfl rfl rfl rfl rfl (.gs rfl rfl rfl rfl rfl (.gs rfl rfl rfl rfl rfl (.gs rfl rfl rfl rfl rfl (.pick rfl rfl rfl (.nil (.condT rfl (.seq (.region (.asg rfl rfl (.asg rfl rfl (.nil (.ret ?_))))))))))))))))))))))))
  exact hbad fun h=>by have:=h.1.1;omega
 refine .lssF rfl rfl rfl (by omega) (.mv rfl rfl (.gr rfl rfl rfl rfl (.mv rfl rfl (.gr rfl rfl rfl rfl (.fa F8 rfl rfl (.gr rfl rfl rfl rfl (.ld A7 rfl rfl k2 rfl (.gr rfl rfl rfl rfl ?_))))))))
 by_cases ha1:n.b≤a
 ·refine .geqT rfl rfl rfl ha1 (.pick rfl rfl rfl (.mv rfl rfl (.gs rfl rfl rfl rfl rfl (.gs rfl rfl rfl rfl rfl (.pick rfl rfl rfl (.mv rfl rfl (.gs rfl rfl rfl rfl rfl (.gs rfl rfl rfl rfl rfl (.gs rfl rfl rfl rfl rfl (.gs rfl rfl rfl rfl rfl (.pick rfl rfl rfl (.nil (.condT rfl (.seq (.region (.asg rfl rfl (.asg rfl rfl (.nil (.ret ?_)))))))))))))))))))
  exact hbad fun h=>by have:=h.1.2;omega
 refine .geqF rfl rfl rfl (by omega) (.pick rfl rfl rfl (.mv rfl rfl (.gr rfl rfl rfl rfl (.mv rfl rfl (.gr rfl rfl rfl rfl ?_)))))
 by_cases hb0:b<0
 ·refine .lssT rfl rfl rfl hb0 (.pick rfl rfl rfl (.mv rfl rfl (.gs rfl rfl rfl rfl rfl (.gs rfl rfl rfl rfl rfl (.gs rfl rfl rfl rfl rfl (.gs rfl rfl rfl rfl rfl (.pick rfl rfl rfl (.nil (.condT rfl (.seq (.region (.asg rfl rfl (.asg rfl rfl (.nil (.ret ?_)))))))))))))))
  exact hbad fun h=>by have:=h.2.1;omega
 refine .lssF rfl rfl rfl (by omega) (.pick rfl rfl rfl (.mv rfl rfl (.gr rfl rfl rfl rfl (.mv rfl rfl (.gr rfl rfl rfl rfl (.fa F8 rfl rfl (.gr rfl rfl rfl rfl (.ld A7 rfl rfl k2 rfl (.gr rfl rfl rfl rfl ?_)))))))))
 by_cases hb1:n.b≤b
 ·refine .geqT rfl rfl rfl hb1 (.pick rfl rfl rfl (.nil (.condT rfl (.seq (.region (.asg rfl rfl (.asg rfl rfl (.nil (.ret ?_)))))))))
  exact hbad fun h=>by have:=h.2.2;omega
 refine .geqF rfl rfl rfl (by omega) (.pick rfl rfl rfl (.nil (.condF rfl (.skip (.seq ?_)))))
 have hc:conE n o a b=0:=by unfold conE;rw [if_neg (by simpa using hE),if_pos ⟨⟨by omega,by omega⟩,by omega,by omega⟩]
 obtain ⟨a',rfl⟩:∃ a':Nat,a=a':=⟨a.toNat,by omega⟩
 obtain ⟨b',rfl⟩:∃ b':Nat,b=b':=⟨b.toNat,by omega⟩
 have hnb:=ok.b
 have haB:a'<(nwOf n o).B:=by omega
 have hbB:b'<(nwOf n o).B:=by omega
 refine .par follows 9 [.inl vl,.inl (.int .i64 (a':Nat)),.inr (Ptr (eInt .i64) S ((nwOf n o).lab a':Nat)),.inl (.int .i64 ((nwOf n o).lab a':Nat)),.inl vl,.inl (.int .i64 (b':Nat)),.inr (Ptr (eInt .i64) S ((nwOf n o).lab b':Nat)),.inl (.int .i64 ((nwOf n o).lab b':Nat)),.inl (.bool (conB n o a' b'))]
  [[],[],[(39,0),(40,1)],[(41,2)],[],[],[(43,4),(44,5)],[(45,6)],[(42,3),(46,7)]] (by kernel_rfl) ⟨
  fun w e=>(v_mv rfl).ob,fun w e=>(v_mv rfl).ob,fun w e=>D6 (i:=a') un_I B9 rfl (ER.ext eI hl e) rfl (U8 haB),fun w e x hx=>AF1 B9 rfl hx,
  fun w e=>(v_mv rfl).ob,fun w e=>(v_mv rfl).ob,fun w e=>D6 (i:=b') un_I B9 rfl (ER.ext eI hl e) rfl (U8 hbB),fun w e x hx=>AF1 B9 rfl hx,
  fun w e=>((Aw7 rfl rfl).eq (by
   have:=Nw.lab_eq haB hbB
   unfold conB
   by_cases h:(nwOf n o).root a'=(nwOf n o).root b'
   ·rw [decide_eq_true ⟨hc,h⟩,this.2 h];simp
   ·rw [decide_eq_false fun h'=>h h'.2]
    have h2:(nwOf n o).lab a'≠(nwOf n o).lab b':=fun e=>h (this.1 e)
    simp;omega)).ob,trivial⟩ ?_
 intro w3 e3 _ _ _ _
 refine .asg rfl rfl (.asg rfl rfl (.nil (.ret ?_)))
 exact .plain [_,_] Tryz.results191 ⟨rfl,rfl,trivial⟩ ⟨x2.trans e3,_,_,rfl,rfl,by rw [hc]⟩
end Go.Proofs.YteghbhdniimjbaaGreat

namespace Go.Kx
open Go Go.RowKit
def Nw.lmL (n:Nw) (l:List Nat):RM:=fun b c=>l.foldl (fun s k=>s+n.g k*(n.inc k b*n.inc k c)) 0
theorem Nw.lmL_snoc (n:Nw) (l:List Nat) (k b c:Nat):n.lmL (l++[k]) b c=n.lmL l b c+n.g k*(n.inc k b*n.inc k c):=by unfold Nw.lmL;rw [List.foldl_append];rfl
theorem Nw.lmL_free {n:Nw} {p:List Nat} (b c:Nat):∀ j,(∀ k,k<j→(n.g k=0↔k∈p))→n.lmL (freeTo p j) b c=sumN j fun k=>n.g k*(n.inc k b*n.inc k c)
 | 0,_=>rfl
 | j+1,h=>by
  have ih:=Nw.lmL_free (n:=n) (p:=p) b c j fun k hk=>h k (by omega)
  have hj:=h j (by omega)
  rw [Go.Proofs.YteghbhdniimjbaaGreat.N0]
  show _=sumN j _+_
  by_cases hg:n.g j=0
  ·rw [if_pos (hj.1 hg),List.append_nil,ih]
   dsimp only
   rw [hg,Rat.zero_mul,Rat.add_zero]
  ·rw [if_neg (fun h=>hg (hj.2 h)),Nw.lmL_snoc,ih]
/-- one entry set -/
def upE (f:RM) (i j:Nat) (y:Rat):RM:=fun b c=>if b=i then (if c=j then y else f i c) else f b c
theorem AR5 {f:RM} {i j b c:Nat} {y:Rat} (h:b≠i∨c≠j):upE f i j y b c=f b c:=by
 unfold upE
 by_cases hb:b=i
 ·subst hb
  rw [if_pos rfl,if_neg (by rcases h with h | h;exact absurd rfl h;exact h)]
 ·rw [if_neg hb]
theorem Nw.four (n:Nw) {k:Nat} (hne:n.F k≠n.T k) (f:RM) (b c:Nat) :
  upE (upE (upE (upE f (n.F k) (n.F k) (f (n.F k) (n.F k)+n.g k)) (n.F k) (n.T k) (f (n.F k) (n.T k)-n.g k)) (n.T k) (n.T k) (f (n.T k) (n.T k)+n.g k)) (n.T k) (n.F k) (f (n.T k) (n.F k)-n.g k) b c=f b c+n.g k*(n.inc k b*n.inc k c):=by
 unfold upE Nw.inc dl
 generalize n.F k=F at *
 generalize n.T k=T at *
 by_cases h1:b=F
 ·subst h1
  by_cases h2:c=b
  ·subst h2;simp [hne,Ne.symm hne];grind
  ·by_cases h3:c=T
   ·subst h3;simp [hne,Ne.symm hne];grind
   ·simp [hne,Ne.symm hne,h2,h3,Ne.symm h2,Ne.symm h3];grind
 ·by_cases h1':b=T
  ·subst h1'
   by_cases h2:c=b
   ·subst h2;simp [hne,Ne.symm hne];grind
   ·by_cases h3:c=F
    ·subst h3;simp [hne,Ne.symm hne];grind
    ·simp [hne,Ne.symm hne,h2,h3,Ne.symm h2,Ne.symm h3];grind
  ·simp [h1,h1',Ne.symm h1,Ne.symm h1'];grind
theorem Ax4 {g:Rat} {s:Rat} {L:Nat} (h:Rsz g L) (hL:1≤L) (hs:s=0∨s=1∨s = -1):Rsz (g*s) L:=by
 rcases hs with rfl | rfl | rfl
 ·rw [Rat.mul_zero];exact Rsz.zero hL
 ·rw [Rat.mul_one];exact h
 ·rw [show g*(-1) = -g by grind];exact h.neg
theorem Nw.inc_tri (n:Nw) (k b:Nat):n.inc k b=0∨n.inc k b=1∨n.inc k b = -1:=by
 unfold Nw.inc dl
 split<;>split<;>grind
theorem Nw.lmL_rsz (n:Nw) {L:Nat} (hL:1≤L) (hg:∀ k,Rsz (n.g k) L) (b c:Nat) (l:List Nat):Rsz (n.lmL l b c) (1+l.length*(L+1)):=by
 have key:∀ (m:Nat) (l:List Nat),l.length=m→Rsz (n.lmL l b c) (1+m*(L+1)):=by
  intro m
  induction m with
  | zero=>intro l hl;rw [List.length_eq_zero_iff.1 hl];exact Rsz.zero (by omega)
  | succ m ih =>
   intro l hl
   obtain ⟨l',k,rfl⟩:∃ l' k,l=l'++[k]:=⟨l.dropLast,l.getLast (by intro e;rw [e] at hl;cases hl),(List.dropLast_concat_getLast _).symm⟩
   rw [Nw.lmL_snoc]
   have h1:=ih l' (by simp at hl;exact hl)
   have h2:Rsz (n.g k*(n.inc k b*n.inc k c)) L:=Ax4 (hg k) hL (by
    rcases n.inc_tri k b with h | h | h<;>rcases n.inc_tri k c with h' | h' | h'<;>rw [h,h']<;>grind)
   refine (h1.add h2).mono ?_
   rw [Nat.add_mul];omega
 exact key _ l rfl
end Go.Kx
namespace Go.Proofs.YteghbhdniimjbaaGreat
open Go Go.Kx Go.RowKit
theorem nwOk.gsz {n:NtV} {o:List Int} (h:nwOk n o) (k:Nat):Rsz ((nwOf n o).g k) 1:=by
 show Rsz (if k∈oN o then (0:Rat) else ((n.ls.getD k ln0).x:Rat)⁻¹) 1
 have hx:1≤(n.ls.getD k ln0).x∧(n.ls.getD k ln0).x≤1000:=by
  rcases Nat.lt_or_ge k n.ls.length with hk | hk
  ·exact h.x k hk
  ·rw [List.getD_eq_getElem?_getD,List.getElem?_eq_none hk];decide
 split
 ·exact Rsz.zero (Nat.le_refl _)
 ·exact (Rsz.int _ (by omega) (Nat.le_refl _)).inv (Nat.le_refl _)
end Go.Proofs.YteghbhdniimjbaaGreat

namespace Go.Proofs.YteghbhdniimjbaaGreat
open Go Go.Kx Go.RowKit
theorem Ad5:Ent Tryz.prog 186:=A0 Tryz.func186 (by kernel_rfl) rfl
theorem Ab4 {S:Nat→Prop} {w:World} {n d:Int} (up:Up S w) (hn1 : -9223372036854775808≤n) (hn2:n≤9223372036854775807) (hd1 : -9223372036854775808≤d) (hd2:d≤9223372036854775807) (hd:d≠0) :
  CR Tryz.prog 186 #[.int .i64 n,.int .i64 d] w (Two (eQ.at S (qc (Rat.divInt n d))) (Is (.int .i64 0))):=by
 refine enter Tryz.func186 rfl Tryz.ntmps186 rfl ?_
 refine .seq (.region (.alloc rfl C3 fun w1 b4 n1=>.asg rfl rfl (.nil ?_)))
 obtain ⟨e1,k4,hb4,hs1⟩:=n1
 have hS4:¬ Sx S w.heap.size w1.heap.size b4:=Sx.no (by omega) (by omega)
 have up1:Up (Sx S w.heap.size w1.heap.size) w1:=Sx.up up (Nat.le_refl _) e1.size
 refine .seq (.seq (.region (.mv rfl rfl (.eqlF rfl rfl rfl hd (.nil (.condF rfl (.skip (.seq (.region (.mv rfl rfl ?_))))))))))
 refine .call _ rfl D0 rfl (C9 up1 hn1 hn2) fun v2 w2 e2 h2=>.mv rfl rfl ?_
 refine .call _ rfl D0 rfl (C9 (up1.ext e2.size) hd1 hd2) fun v3 w3 e3 h3=>?_
 refine .call _ rfl AA3 rfl (Z9 (L:=2) (up1.ext (e2.trans e3).size) (Zv.of (ER.ext eZ h2 e3) (by omega)) (Zv.of h3 (by omega)) hd (by decide)) fun v5 w5 e5 h5=>?_
 have x5:=((e1.trans e2).trans e3).trans e5
 refine .storeA (E:=eQ) ty_Q rfl rfl (((k4.ext e2).ext e3).ext e5) rfl rfl h5 hS4 fun w6 k6 u6 h6=>.asg rfl rfl (.nil (.ret ?_))
 exact .plain [_,_] Tryz.results186 ⟨⟨_,rfl,D2 (E:=eQ) ty_Q rfl rfl k6 h6⟩,rfl,trivial⟩ ⟨u6.below x5 (by omega),_,_,rfl,h6.out,rfl⟩
end Go.Proofs.YteghbhdniimjbaaGreat

namespace Go.Kx
open Go Go.RowKit
theorem MB.new {t tq:TypeId} {S:Nat→Prop} {w w1 w2:World} {gb c b:Nat} {hs:List Nat} {M:List (List QV)} (h:MB t tq S w gb c hs M) (e:Ext w w1) (u:Upd w1 w2 b) (hb:w.heap.size≤b):MB t tq S w2 gb c hs M:=by
 have h1:=h.mono (S':=fun k=>S k∧k<w.heap.size) fun k hk hS=>⟨hS,hk⟩
 have hg:=h.out.lt
 have h2:=(h1.ext e).upd u (by omega) (fun hm=>by have:=h.lt hm;omega) fun hS=>by have:=hS.2;omega
 exact h2.mono fun k _ hS=>hS.1
theorem AE6 {B i j:Nat} {f:RM} {y:Rat} (hi:i<B):(tabM B B f).set i ((tab B (f i)).set j (qc y))=tabM B B (upE f i j y):=by
 rw [T8,U7 hi]
 rfl
end Go.Kx
namespace Go.Proofs.YteghbhdniimjbaaGreat
open Go Go.Kx Go.RowKit
theorem AQ3:Ent Tryz.prog 141:=A0 Tryz.func141 (by kernel_rfl) rfl
theorem AO0 {S:Nat→Prop} {w:World} {vn vl vr:Value} {n:NtV} {o:List Int} (up:Up S w) (hn:eN.R S w vn n) (hl:eI.R S w vl (pInts (inL n o))) (hr:eI.R S w vr (pInts (nwOf n o).refs)) (ok:nwOk n o) :
  CR Tryz.prog 141 #[vn,vl,vr] w (eM.at S (tabM (nwOf n o).B (nwOf n o).B (nwOf n o).gm)):=by
 obtain ⟨s,rfl,hs,_⟩:=hn
 have hB6:=ok.b6
 have hM10:n.ls.length≤10:=ok.m
 have hll:=AH4 n o
 have hnb:=ok.b
 refine enter Tryz.func141 rfl Tryz.ntmps141 rfl ?_
 refine .seq (.region (.box rfl rfl fun w1 b3 n1=>.asg rfl rfl (.nil ?_)))
 obtain ⟨e1,k3,hb3,hs1⟩:=n1
 rw [hnb] at k3
 generalize hnw:nwOf n o=nw at *
 generalize hB:nw.B=B at *
 refine .seq (.region (.fa F8 rfl rfl (.ld A7 rfl rfl k3 rfl (.fa F8 rfl rfl (.ld A7 rfl rfl k3 rfl ?_)))))
 refine .call _ rfl Ak5 rfl (Ae2 (m:=[]) (L:=1) (up.ext e1.size) RL.nil (fun r hr=>by cases hr) (by decide) (by decide)) fun v2 w2 e2 h2=>.asg rfl rfl (.nil ?_)
 obtain ⟨gb,hs2,rfl,hgb,hge,hM⟩:=h2
 have hcB:cutN (B:Int)=B:=by unfold cutN;omega
 rw [hcB] at hM ⊢
 have hz:tabM B B (rm [])=tabM B B (nw.lmL []):=B6 fun i k _ _=>by unfold rm;rw [List.getD_nil,AK9];rfl
 rw [hz] at hM
 have x2:=e1.trans e2
 have hw1:=e1.size
 have hsW:∀ {W:World},Below w1.heap.size w2 W→eLs.R (fun k=>S k∧k<w.heap.size) W s n.ls:=fun h=>eLs.keep (fun k c t f hk hh=>(h.block k (by have:=hk.2;omega)).trans hh) (ER.ext eLs (ER.lt eLs hs) x2)
 have hlW:∀ {W:World},Below w1.heap.size w2 W→eI.R (fun k=>S k∧k<w.heap.size) W vl (pInts (inL n o)):=fun h=>eI.keep (fun k c t f hk hh=>(h.block k (by have:=hk.2;omega)).trans hh) (ER.ext eI (ER.lt eI hl) x2)
 have hrW:∀ {W:World},Below w1.heap.size w2 W→eI.R (fun k=>S k∧k<w.heap.size) W vr (pInts nw.refs):=fun h=>eI.keep (fun k c t f hk hh=>(h.block k (by have:=hk.2;omega)).trans hh) (ER.ext eI (ER.lt eI hr) x2)
 have k3:=k3.ext e2
 have hk3:∀ {W:World},Below w1.heap.size w2 W→Blk W b3 40 #[.int .i64 (B:Nat),s]:=fun h=>(h.block b3 (by omega)).trans k3
 have hhl:hs2.length=B:=by rw [hM.len,A2]
 have hhg:∀ i,i<B→hs2[i]?=some (hs2.getD i 0):=fun i hi=>A6 (by omega)
 have hhm:∀ i,i<B→w1.heap.size≤hs2.getD i 0:=fun i hi=>hge _ (D4 (by omega))
 have hw2:=e2.size
 refine .mid (α:=Unit) (fun _=>[(2,vr),(3,.pointer (some ⟨b3,0,none⟩)),(7,.slice (some ⟨gb,0,none⟩) B B)]) (fun _ W=>Below w1.heap.size w2 W∧MB 42 32 S W gb B hs2 (tabM B B (nw.lmL (inL n o)))) ?_ ?_
 ·refine .seq (.region (.mv rfl rfl (.lenR un_I rfl rfl (hlW (Below.refl _ _)) (.mv rfl rfl (.nil ?_)))))
  rw [show (pInts (inL n o)).length=(inL n o).length by simp]
  refine .block (.loop (α:=Nat) (fun i=>[(2,vr),(3,.pointer (some ⟨b3,0,none⟩)),(7,.slice (some ⟨gb,0,none⟩) B B),(21,vl),(22,.int .i64 ((inL n o).length:Nat)),(23,.int .i64 (i:Nat))]) (fun i W=>Below w1.heap.size w2 W∧i≤(inL n o).length∧MB 42 32 S W gb B hs2 (tabM B B (nw.lmL ((inL n o).take i)))) (fun i=>(inL n o).length-i) 0 ?_ ?_ ?_)
  ·exact lkA rfl
  ·exact ⟨Below.refl _ _,Nat.zero_le _,hM⟩
  rintro i W ⟨hW,hi,hM⟩
  have hhk:∀ j,j<B→hs2.getD j 0<W.heap.size:=fun j hj=>hM.lt (D4 (by omega))
  refine .seq (.region ?_)
  rcases Nat.lt_or_ge i (inL n o).length with hlt | hge'
  rotate_left
  ·refine .lssF rfl rfl rfl (by omega) (.nil (.seq (.condF rfl (.exit ?_))))
   have:i=(inL n o).length:=by omega
   subst this
   rw [List.take_of_length_le (Nat.le_refl _)] at hM
   exact ⟨rfl,(),lkA rfl,hW,hM⟩
  obtain ⟨hgk,hkM,hko⟩:=AP1 hlt
  refine .lssT rfl rfl rfl (by omega) (.nil (.seq (.condT rfl (.skip (.seq (.block (.seq (.region (.ixN (i:=i) un_I B9 rfl rfl (hlW hW) rfl hgk fun q hq=>.ldE (E:=eInt .i64) B9 rfl rfl hq fun e he=>.asg rfl rfl (.nil ?_))))))))))
  obtain ⟨rfl,_⟩:=he
  have htk:(inL n o).take (i+1)=(inL n o).take i++[(inL n o).getD i 0]:=by rw [List.take_add_one,A6 (z:=0) hlt];rfl
  have hgl:n.ls[(inL n o).getD i 0]?=some (n.ls.getD ((inL n o).getD i 0) ln0):=A6 hkM
  have hkM':(inL n o).getD i 0<(nwOf n o).M:=hkM
  have hFI:=ok.fI _ hkM'
  have hTI:=ok.tI _ hkM'
  have hFB:=ok.f _ hkM'
  have hTB:=ok.t _ hkM'
  have hne:=ok.ne _ hkM'
  have hx:=ok.x _ hkM'
  have hgs:=ok.gsz ((inL n o).getD i 0)
  have hgv:(nwOf n o).g ((inL n o).getD i 0)=Rat.divInt 1 (n.ls.getD ((inL n o).getD i 0) ln0).x:=by
   show (if (inL n o).getD i 0∈oN o then (0:Rat) else ((n.ls.getD ((inL n o).getD i 0) ln0).x:Rat)⁻¹)=_
   rw [if_neg hko,Rat.divInt_eq_div,Rat.div_def,show ((1:Int):Rat)=1 from rfl,Rat.one_mul]
  rw [hnw] at hFI hTI hFB hTB hne hgs hgv
  rw [hB] at hFB hTB
  have hfs:∀ b c,Rsz (nw.lmL ((inL n o).take i) b c) 30:=fun b c=>(nw.lmL_rsz (Nat.le_refl _) (fun k=>by rw [←hnw];exact ok.gsz k) b c _).mono (by rw [List.length_take];omega)
  generalize hk:(inL n o).getD i 0=k at *
  generalize hf:nw.lmL ((inL n o).take i)=f at *
  generalize hln:n.ls.getD k ln0=ln at *
  refine .seq (.region (.fa L6 rfl rfl (.ld T6 rfl rfl (hk3 hW) rfl (.mv rfl rfl (.ixN (i:=k) P8 T7 rfl rfl (hsW hW) rfl hgl fun q hq=>.ldE (E:=eL) T7 rfl rfl hq fun vl' hvl=>.alloc rfl Ah5 fun W1 b10 n1'=>?_)))))
  obtain ⟨f1,k10,hb10,hs1'⟩:=n1'
  refine .storeA (E:=eL) (S:=fun k=>k≠b10) (z:=ln) T7 rfl rfl k10 rfl rfl hvl (fun h=>h rfl) fun W2 k10 u2 hl2=>.nil ?_
  obtain ⟨rfl,_⟩:=hl2
  rw [hFI,hTI] at k10
  replace k10:Blk W2 b10 60 #[.int .i64 (nw.F k:Nat),.int .i64 (nw.T k:Nat),.int .i64 ln.x,.int .i64 ln.c]:=k10
  have hWs:=hW.size
  have hM:=hM.new f1 u2 (by omega)
  have hs2':=u2.size
  have hW2:Below w1.heap.size w2 W2:=u2.below (hW.trans (f1.mono (by omega))) (by omega)
  have upT:∀ {W':World},W2.heap.size≤W'.heap.size→Up (offM S gb hs2) W':=fun h k' hk'=>⟨up k' (by omega),by have:=hM.out.lt;omega,fun hm=>by have:=hM.lt hm;omega⟩
  refine .seq (.region (.fa AH9 rfl rfl (.ld Z4 rfl rfl k10 rfl ?_)))
  refine .call _ rfl Ad5 rfl (Ab4 (upT (Nat.le_refl _)) (by decide) (by decide) (by omega) (by omega) (by omega)) fun v3 W3 e3 h3=>?_
  obtain ⟨vp,ve,rfl,hp,rfl⟩:=h3
  rw [←hgv] at hp
  refine .mv rfl rfl (.ext rfl rfl rfl (.ext rfl rfl rfl (.alloc rfl C3 fun W4 b11 n4=>?_)))
  obtain ⟨e4,k11,hb11,hs4⟩:=n4
  have hs3:=e3.size
  refine .storeA (E:=eQ) (S:=fun k=>offM S gb hs2 k∧k<W3.heap.size) ty_Q rfl rfl k11 rfl rfl (ER.ext eQ (ER.lt eQ hp) e4) (fun h=>by have:=h.2;omega) fun W5 k11 u5 hp5=>.asg rfl rfl (.nil ?_)
  have hp5:eQ.R (offM S gb hs2) W5 vp (qc (nw.g k)):=eQ.mono (fun _ _ h=>h.1) hp5
  have hvp:=shpA (E:=eQ) rfl hp5
  have hM:=hM.new (e3.trans e4) u5 (by omega)
  have hs5:=u5.size
  have hW5:Below w1.heap.size w2 W5:=u5.below (hW2.trans ((e3.trans e4).mono (by omega))) (by omega)
  have k10:=(k10.ext (e3.trans e4)).upd u5 (show b10≠b11 by omega)
  have hrow0:=hM.row (nw.F k) _ _ (hhg _ hFB) (D3 hFB)
  refine .seq ?_
  refine .par follows 18 [.inl (.slice (some ⟨gb,0,none⟩) B B),.inl (.pointer (some ⟨b10,0,none⟩)),.inl (.int .i64 (nw.F k:Nat)),.inl (.pointer (some ⟨gb,0+(nw.F k)*1,none⟩)),.inl (slB B (hs2.getD (nw.F k) 0)),.inl (.pointer (some ⟨b10,0,none⟩)),.inl (.int .i64 (nw.F k:Nat)),.inl (.slice (some ⟨gb,0,none⟩) B B),.inl (.pointer (some ⟨b10,0,none⟩)),.inl (.int .i64 (nw.F k:Nat)),.inl (.pointer (some ⟨gb,0+(nw.F k)*1,none⟩)),.inl (slB B (hs2.getD (nw.F k) 0)),.inl (.pointer (some ⟨b10,0,none⟩)),.inl (.int .i64 (nw.F k:Nat)),.inl (.pointer (some ⟨hs2.getD (nw.F k) 0,0+(nw.F k)*4,none⟩)),.inr (eQ.at (offM S gb hs2) (qc (f (nw.F k) (nw.F k)))),.inl vp,.inr (eQ.at (offM S gb hs2) (qc (f (nw.F k) (nw.F k)+nw.g k)))]
   [[],[],[(39,1)],[(38,0),(40,2)],[(41,3)],[],[(43,5)],[],[],[(46,8)],[(45,7),(47,9)],[(48,10)],[],[(50,12)],[(49,11),(51,13)],[(52,14)],[],[(53,15),(54,16)]] (by kernel_rfl) ⟨
   fun w e=>(v_mv rfl).ob,fun w e=>(v_fa J9 rfl).ob,fun w e=>(v_ld A7 rfl (k10.ext e) rfl).ob,fun w e=>(F9 (i:=nw.F k) un_M ty_V rfl rfl hFB).ob,fun w e=>(v_ld ty_V rfl (hM.out.ext e) (hM.cell (hhg _ hFB))).ob,fun w e=>(v_fa J9 rfl).ob,fun w e=>(v_ld A7 rfl (k10.ext e) rfl).ob,
   fun w e=>(v_mv rfl).ob,fun w e=>(v_fa J9 rfl).ob,fun w e=>(v_ld A7 rfl (k10.ext e) rfl).ob,fun w e=>(F9 (i:=nw.F k) un_M ty_V rfl rfl hFB).ob,fun w e=>(v_ld ty_V rfl (hM.out.ext e) (hM.cell (hhg _ hFB))).ob,fun w e=>(v_fa J9 rfl).ob,fun w e=>(v_ld A7 rfl (k10.ext e) rfl).ob,
   fun w e=>(F9 (i:=nw.F k) un_V ty_Q rfl rfl hFB).ob,
   fun w e=>(U9 (E:=eQ) (i:=nw.F k) (by decide) ty_Q rfl (Nat.zero_add _) (hrow0.2.ext e) (by rw [G0 hFB])).mono fun v' w' h=>⟨h.1,fun w'' e'=>eQ.mono (fun _ _ h=>h.1) (h.2 w'' e')⟩,
   fun w e=>((C0 ty_Q rfl (k11.ext e) (eQ.csz hp5)).eq hvp.symm).ob,
   fun w e x hx=>by
    have:=M4 (L:=30) (upT (by have:=e.size;omega)) hx (ER.ext eQ hp5 e) (hfs _ _).toOk (hgs.mono (by decide)).toOk (by decide) (by decide)
    rw [B7,B7] at this
    exact (A3 _ M5 rfl this).ob (A9 _ _ _),trivial⟩ ?_
  intro X0 g0 _ _ y0 hy0
  refine .ixB (i:=nw.F k) un_V ty_Q rfl rfl rfl hFB (.storeF (E:=eQ) (i:=nw.F k) (by decide) ty_Q rfl rfl (hrow0.2.ext g0) rfl (by rw [A1];exact hFB) (Nat.zero_add _) (eQ.mono (fun k' _ h=>⟨h,fun e=>h.2.2 (e▸D4 (by omega))⟩) hy0) fun Y0 fy0 uy0=>.nil ?_)
  have hM:=(hM.ext g0).set (hhg _ hFB) (by rw [List.length_set,A1]) uy0 fy0
  rw [AE6 hFB] at hM
  have sx0:=g0.size
  have sy0:=uy0.size
  have lw0:=hhm _ hFB
  have lk0:=hhk _ hFB
  have hW5:Below w1.heap.size w2 Y0:=uy0.below (hW5.trans (g0.mono (by omega))) lw0
  have k10:=(k10.ext g0).upd uy0 (by omega)
  have k11:=(k11.ext g0).upd uy0 (by omega)
  have hp5:=(ER.ext eQ hp5 g0).upd uy0 (fun h=>h.2.2 (D4 (by omega)))
  have hrow1:=hM.row (nw.F k) _ _ (hhg _ hFB) (D3 hFB)
  refine .seq ?_
  refine .par follows 18 [.inl (.slice (some ⟨gb,0,none⟩) B B),.inl (.pointer (some ⟨b10,0,none⟩)),.inl (.int .i64 (nw.F k:Nat)),.inl (.pointer (some ⟨gb,0+(nw.F k)*1,none⟩)),.inl (slB B (hs2.getD (nw.F k) 0)),.inl (.pointer (some ⟨b10,1,none⟩)),.inl (.int .i64 (nw.T k:Nat)),.inl (.slice (some ⟨gb,0,none⟩) B B),.inl (.pointer (some ⟨b10,0,none⟩)),.inl (.int .i64 (nw.F k:Nat)),.inl (.pointer (some ⟨gb,0+(nw.F k)*1,none⟩)),.inl (slB B (hs2.getD (nw.F k) 0)),.inl (.pointer (some ⟨b10,1,none⟩)),.inl (.int .i64 (nw.T k:Nat)),.inl (.pointer (some ⟨hs2.getD (nw.F k) 0,0+(nw.T k)*4,none⟩)),.inr (eQ.at (offM S gb hs2) (qc (f (nw.F k) (nw.T k)))),.inl vp,.inr (eQ.at (offM S gb hs2) (qc (f (nw.F k) (nw.T k)-nw.g k)))]
   [[],[],[(58,1)],[(57,0),(59,2)],[(60,3)],[],[(62,5)],[],[],[(65,8)],[(64,7),(66,9)],[(67,10)],[],[(69,12)],[(68,11),(70,13)],[(71,14)],[],[(72,15),(73,16)]] (by kernel_rfl) ⟨
   fun w e=>(v_mv rfl).ob,fun w e=>(v_fa J9 rfl).ob,fun w e=>(v_ld A7 rfl (k10.ext e) rfl).ob,fun w e=>(F9 (i:=nw.F k) un_M ty_V rfl rfl hFB).ob,fun w e=>(v_ld ty_V rfl (hM.out.ext e) (hM.cell (hhg _ hFB))).ob,fun w e=>(v_fa J8 rfl).ob,fun w e=>(v_ld A7 rfl (k10.ext e) rfl).ob,
   fun w e=>(v_mv rfl).ob,fun w e=>(v_fa J9 rfl).ob,fun w e=>(v_ld A7 rfl (k10.ext e) rfl).ob,fun w e=>(F9 (i:=nw.F k) un_M ty_V rfl rfl hFB).ob,fun w e=>(v_ld ty_V rfl (hM.out.ext e) (hM.cell (hhg _ hFB))).ob,fun w e=>(v_fa J8 rfl).ob,fun w e=>(v_ld A7 rfl (k10.ext e) rfl).ob,
   fun w e=>(F9 (i:=nw.T k) un_V ty_Q rfl rfl hTB).ob,
   fun w e=>(U9 (E:=eQ) (i:=nw.T k) (by decide) ty_Q rfl (Nat.zero_add _) (hrow1.2.ext e) (by rw [G0 hTB,AR5 (.inr (Ne.symm hne))])).mono fun v' w' h=>⟨h.1,fun w'' e'=>eQ.mono (fun _ _ h=>h.1) (h.2 w'' e')⟩,
   fun w e=>((C0 ty_Q rfl (k11.ext e) (eQ.csz hp5)).eq hvp.symm).ob,
   fun w e x hx=>by
    have:=V3 (L:=30) (upT (by have:=e.size;omega)) hx (ER.ext eQ hp5 e) (hfs _ _).toOk (hgs.mono (by decide)).toOk (by decide) (by decide)
    rw [B7,B7] at this
    exact (A3 _ V6 rfl this).ob (A9 _ _ _),trivial⟩ ?_
  intro X1 g1 _ _ y1 hy1
  refine .ixB (i:=nw.T k) un_V ty_Q rfl rfl rfl hTB (.storeF (E:=eQ) (i:=nw.T k) (by decide) ty_Q rfl rfl (hrow1.2.ext g1) rfl (by rw [A1];exact hTB) (Nat.zero_add _) (eQ.mono (fun k' _ h=>⟨h,fun e=>h.2.2 (e▸D4 (by omega))⟩) hy1) fun Y1 fy1 uy1=>.nil ?_)
  have hM:=(hM.ext g1).set (hhg _ hFB) (by rw [List.length_set,A1]) uy1 fy1
  rw [AE6 hFB] at hM
  have sx1:=g1.size
  have sy1:=uy1.size
  have lw1:=hhm _ hFB
  have lk1:=hhk _ hFB
  have hW5:Below w1.heap.size w2 Y1:=uy1.below (hW5.trans (g1.mono (by omega))) lw1
  have k10:=(k10.ext g1).upd uy1 (by omega)
  have k11:=(k11.ext g1).upd uy1 (by omega)
  have hp5:=(ER.ext eQ hp5 g1).upd uy1 (fun h=>h.2.2 (D4 (by omega)))
  have hrow2:=hM.row (nw.T k) _ _ (hhg _ hTB) (D3 hTB)
  refine .seq ?_
  refine .par follows 18 [.inl (.slice (some ⟨gb,0,none⟩) B B),.inl (.pointer (some ⟨b10,1,none⟩)),.inl (.int .i64 (nw.T k:Nat)),.inl (.pointer (some ⟨gb,0+(nw.T k)*1,none⟩)),.inl (slB B (hs2.getD (nw.T k) 0)),.inl (.pointer (some ⟨b10,1,none⟩)),.inl (.int .i64 (nw.T k:Nat)),.inl (.slice (some ⟨gb,0,none⟩) B B),.inl (.pointer (some ⟨b10,1,none⟩)),.inl (.int .i64 (nw.T k:Nat)),.inl (.pointer (some ⟨gb,0+(nw.T k)*1,none⟩)),.inl (slB B (hs2.getD (nw.T k) 0)),.inl (.pointer (some ⟨b10,1,none⟩)),.inl (.int .i64 (nw.T k:Nat)),.inl (.pointer (some ⟨hs2.getD (nw.T k) 0,0+(nw.T k)*4,none⟩)),.inr (eQ.at (offM S gb hs2) (qc (f (nw.T k) (nw.T k)))),.inl vp,.inr (eQ.at (offM S gb hs2) (qc (f (nw.T k) (nw.T k)+nw.g k)))]
   [[],[],[(77,1)],[(76,0),(78,2)],[(79,3)],[],[(81,5)],[],[],[(84,8)],[(83,7),(85,9)],[(86,10)],[],[(88,12)],[(87,11),(89,13)],[(90,14)],[],[(91,15),(92,16)]] (by kernel_rfl) ⟨
   fun w e=>(v_mv rfl).ob,fun w e=>(v_fa J8 rfl).ob,fun w e=>(v_ld A7 rfl (k10.ext e) rfl).ob,fun w e=>(F9 (i:=nw.T k) un_M ty_V rfl rfl hTB).ob,fun w e=>(v_ld ty_V rfl (hM.out.ext e) (hM.cell (hhg _ hTB))).ob,fun w e=>(v_fa J8 rfl).ob,fun w e=>(v_ld A7 rfl (k10.ext e) rfl).ob,
   fun w e=>(v_mv rfl).ob,fun w e=>(v_fa J8 rfl).ob,fun w e=>(v_ld A7 rfl (k10.ext e) rfl).ob,fun w e=>(F9 (i:=nw.T k) un_M ty_V rfl rfl hTB).ob,fun w e=>(v_ld ty_V rfl (hM.out.ext e) (hM.cell (hhg _ hTB))).ob,fun w e=>(v_fa J8 rfl).ob,fun w e=>(v_ld A7 rfl (k10.ext e) rfl).ob,
   fun w e=>(F9 (i:=nw.T k) un_V ty_Q rfl rfl hTB).ob,
   fun w e=>(U9 (E:=eQ) (i:=nw.T k) (by decide) ty_Q rfl (Nat.zero_add _) (hrow2.2.ext e) (by rw [G0 hTB,AR5 (.inl (Ne.symm hne)),AR5 (.inl (Ne.symm hne))])).mono fun v' w' h=>⟨h.1,fun w'' e'=>eQ.mono (fun _ _ h=>h.1) (h.2 w'' e')⟩,
   fun w e=>((C0 ty_Q rfl (k11.ext e) (eQ.csz hp5)).eq hvp.symm).ob,
   fun w e x hx=>by
    have:=M4 (L:=30) (upT (by have:=e.size;omega)) hx (ER.ext eQ hp5 e) (hfs _ _).toOk (hgs.mono (by decide)).toOk (by decide) (by decide)
    rw [B7,B7] at this
    exact (A3 _ M5 rfl this).ob (A9 _ _ _),trivial⟩ ?_
  intro X2 g2 _ _ y2 hy2
  refine .ixB (i:=nw.T k) un_V ty_Q rfl rfl rfl hTB (.storeF (E:=eQ) (i:=nw.T k) (by decide) ty_Q rfl rfl (hrow2.2.ext g2) rfl (by rw [A1];exact hTB) (Nat.zero_add _) (eQ.mono (fun k' _ h=>⟨h,fun e=>h.2.2 (e▸D4 (by omega))⟩) hy2) fun Y2 fy2 uy2=>.nil ?_)
  have hM:=(hM.ext g2).set (hhg _ hTB) (by rw [List.length_set,A1]) uy2 fy2
  rw [AE6 hTB] at hM
  have sx2:=g2.size
  have sy2:=uy2.size
  have lw2:=hhm _ hTB
  have lk2:=hhk _ hTB
  have hW5:Below w1.heap.size w2 Y2:=uy2.below (hW5.trans (g2.mono (by omega))) lw2
  have k10:=(k10.ext g2).upd uy2 (by omega)
  have k11:=(k11.ext g2).upd uy2 (by omega)
  have hp5:=(ER.ext eQ hp5 g2).upd uy2 (fun h=>h.2.2 (D4 (by omega)))
  have hrow3:=hM.row (nw.T k) _ _ (hhg _ hTB) (D3 hTB)
  refine .par follows 18 [.inl (.slice (some ⟨gb,0,none⟩) B B),.inl (.pointer (some ⟨b10,1,none⟩)),.inl (.int .i64 (nw.T k:Nat)),.inl (.pointer (some ⟨gb,0+(nw.T k)*1,none⟩)),.inl (slB B (hs2.getD (nw.T k) 0)),.inl (.pointer (some ⟨b10,0,none⟩)),.inl (.int .i64 (nw.F k:Nat)),.inl (.slice (some ⟨gb,0,none⟩) B B),.inl (.pointer (some ⟨b10,1,none⟩)),.inl (.int .i64 (nw.T k:Nat)),.inl (.pointer (some ⟨gb,0+(nw.T k)*1,none⟩)),.inl (slB B (hs2.getD (nw.T k) 0)),.inl (.pointer (some ⟨b10,0,none⟩)),.inl (.int .i64 (nw.F k:Nat)),.inl (.pointer (some ⟨hs2.getD (nw.T k) 0,0+(nw.F k)*4,none⟩)),.inr (eQ.at (offM S gb hs2) (qc (f (nw.T k) (nw.F k)))),.inl vp,.inr (eQ.at (offM S gb hs2) (qc (f (nw.T k) (nw.F k)-nw.g k)))]
   [[],[],[(96,1)],[(95,0),(97,2)],[(98,3)],[],[(100,5)],[],[],[(103,8)],[(102,7),(104,9)],[(105,10)],[],[(107,12)],[(106,11),(108,13)],[(109,14)],[],[(110,15),(111,16)]] (by kernel_rfl) ⟨
   fun w e=>(v_mv rfl).ob,fun w e=>(v_fa J8 rfl).ob,fun w e=>(v_ld A7 rfl (k10.ext e) rfl).ob,fun w e=>(F9 (i:=nw.T k) un_M ty_V rfl rfl hTB).ob,fun w e=>(v_ld ty_V rfl (hM.out.ext e) (hM.cell (hhg _ hTB))).ob,fun w e=>(v_fa J9 rfl).ob,fun w e=>(v_ld A7 rfl (k10.ext e) rfl).ob,
   fun w e=>(v_mv rfl).ob,fun w e=>(v_fa J8 rfl).ob,fun w e=>(v_ld A7 rfl (k10.ext e) rfl).ob,fun w e=>(F9 (i:=nw.T k) un_M ty_V rfl rfl hTB).ob,fun w e=>(v_ld ty_V rfl (hM.out.ext e) (hM.cell (hhg _ hTB))).ob,fun w e=>(v_fa J9 rfl).ob,fun w e=>(v_ld A7 rfl (k10.ext e) rfl).ob,
   fun w e=>(F9 (i:=nw.F k) un_V ty_Q rfl rfl hFB).ob,
   fun w e=>(U9 (E:=eQ) (i:=nw.F k) (by decide) ty_Q rfl (Nat.zero_add _) (hrow3.2.ext e) (by rw [G0 hFB,AR5 (.inr hne),AR5 (.inl (Ne.symm hne)),AR5 (.inl (Ne.symm hne))])).mono fun v' w' h=>⟨h.1,fun w'' e'=>eQ.mono (fun _ _ h=>h.1) (h.2 w'' e')⟩,
   fun w e=>((C0 ty_Q rfl (k11.ext e) (eQ.csz hp5)).eq hvp.symm).ob,
   fun w e x hx=>by
    have:=V3 (L:=30) (upT (by have:=e.size;omega)) hx (ER.ext eQ hp5 e) (hfs _ _).toOk (hgs.mono (by decide)).toOk (by decide) (by decide)
    rw [B7,B7] at this
    exact (A3 _ V6 rfl this).ob (A9 _ _ _),trivial⟩ ?_
  intro X3 g3 _ _ y3 hy3
  refine .ixB (i:=nw.F k) un_V ty_Q rfl rfl rfl hFB (.storeF (E:=eQ) (i:=nw.F k) (by decide) ty_Q rfl rfl (hrow3.2.ext g3) rfl (by rw [A1];exact hFB) (Nat.zero_add _) (eQ.mono (fun k' _ h=>⟨h,fun e=>h.2.2 (e▸D4 (by omega))⟩) hy3) fun Y3 fy3 uy3=>.nil ?_)
  have hM:=(hM.ext g3).set (hhg _ hTB) (by rw [List.length_set,A1]) uy3 fy3
  rw [AE6 hTB] at hM
  have sx3:=g3.size
  have sy3:=uy3.size
  have lw3:=hhm _ hTB
  have lk3:=hhk _ hTB
  have hW5:Below w1.heap.size w2 Y3:=uy3.below (hW5.trans (g3.mono (by omega))) lw3
  have k10:=(k10.ext g3).upd uy3 (by omega)
  have k11:=(k11.ext g3).upd uy3 (by omega)
  have hp5:=(ER.ext eQ hp5 g3).upd uy3 (fun h=>h.2.2 (D4 (by omega)))
  have hfin:tabM B B (upE (upE (upE (upE f (nw.F k) (nw.F k) (f (nw.F k) (nw.F k)+nw.g k)) (nw.F k) (nw.T k) (f (nw.F k) (nw.T k)-nw.g k)) (nw.T k) (nw.T k) (f (nw.T k) (nw.T k)+nw.g k)) (nw.T k) (nw.F k) (f (nw.T k) (nw.F k)-nw.g k))=tabM B B (nw.lmL ((inL n o).take (i+1))):=B6 fun b c _ _=>by
   rw [htk,Nw.lmL_snoc,hf]
   exact nw.four hne f b c
  rw [hfin] at hM
  refine .region (.add rfl rfl rfl (.mv rfl rfl (.nil ?_)))
  rw [wI (by omega)]
  exact ⟨rfl,i+1,lkA rfl,⟨hW5,hlt,hM⟩,by show (inL n o).length-(i+1)<(inL n o).length-i;omega⟩
 rintro _ W ⟨hW,hM⟩
 have hMs:FB eV 42 S W gb _:=hM.toFB (fun k hk=>up k (by have:=hge k hk;omega)) (by omega)
 have hWs:=hW.size
 have hgl:=hMs.lt
 refine .seq (.region (.fa F8 rfl rfl (.ld A7 rfl rfl (hk3 hW) rfl ?_)))
 refine .call _ rfl Ad4 rfl (Aa6 (S:=fun k=>S k∧k≠gb) fun k hk=>⟨up k (by omega),by omega⟩) fun vu W1 f1 hu=>.asg rfl rfl (.nil ?_)
 rw [hcB] at hu
 have hW1:=hW.trans (f1.mono (by omega))
 have hf1:=f1.size
 generalize hF:(fun i=>fun b c=>if b∈nw.refs.take i then dl b c else nw.lmL (inL n o) b c:Nat→RM)=F
 have hF0:tabM B B (nw.lmL (inL n o))=tabM B B (F 0):=B6 fun b c _ _=>by rw [←hF];simp
 rw [hF0] at hMs
 refine .seq (.seq (.region (.mv rfl rfl (.lenR un_I rfl rfl (hrW hW1) (.mv rfl rfl (.nil ?_))))))
 rw [show (pInts nw.refs).length=nw.refs.length by simp]
 have hrl:nw.refs.length≤B:=by rw [←hB];exact nw.cnt_le nw.B
 refine .block (.loop (α:=Nat) (fun i=>[(7,.slice (some ⟨gb,0,none⟩) B B),(13,vu),(118,vr),(119,.int .i64 (nw.refs.length:Nat)),(120,.int .i64 (i:Nat))]) (fun i W=>Below w1.heap.size w2 W∧i≤nw.refs.length∧eM.R (fun k=>S k∧k≠gb) W vu (tabM B B idn)∧FB eV 42 S W gb (tabM B B (F i))) (fun i=>nw.refs.length-i) 0 ?_ ?_ ?_)
 ·exact lkA rfl
 ·exact ⟨hW1,Nat.zero_le _,hu,hMs.ext f1⟩
 rintro i W ⟨hW,hi,hu,hMs⟩
 refine .seq (.region ?_)
 rcases Nat.lt_or_ge i nw.refs.length with hlt | hge'
 rotate_left
 ·refine .lssF rfl rfl rfl (by omega) (.nil (.seq (.condF rfl (.exit (.seq (.region (.mv rfl rfl (.asg rfl rfl (.nil (.ret ?_))))))))))
  have:i=nw.refs.length:=by omega
  subst this
  refine .plain [_] Tryz.results141 ⟨rfl,trivial⟩ ⟨Below.trans x2 (hW.mono (by omega)),?_⟩
  have hfin:tabM B B (F nw.refs.length)=tabM B B nw.gm:=B6 fun b c hb _=>by
   rw [←hF]
   dsimp only
   rw [List.take_of_length_le (Nat.le_refl _)]
   unfold Nw.gm
   by_cases hr:nw.root b=b
   ·rw [if_pos hr,if_pos (Nw.mem_refs.2 ⟨by omega,hr⟩)]
   ·rw [if_neg hr,if_neg fun h=>hr (Nw.mem_refs.1 h).2]
    unfold Nw.Lm
    rw [←hnw]
    exact Nw.lmL_free (p:=oN o) b c _ fun k hk=>ok.g0 hk
  rw [hfin] at hMs
  have:=hMs.toR (hsz:=by decide) (c:=B) (up gb (by omega)) (by rw [A2];exact Nat.le_refl _) (by rw [A2];omega)
  rw [A2] at this
  exact this
 have hgr:(pInts nw.refs)[i]?=some ((nw.refs.getD i 0:Nat):Int):=by rw [List.getElem?_map,A6 (z:=0) hlt];rfl
 have hrB:nw.refs.getD i 0<B:=by rw [←hB];exact (Nw.mem_refs.1 (D4 hlt)).1
 refine .lssT rfl rfl rfl (by omega) (.nil (.seq (.condT rfl (.skip (.seq (.block (.seq (.region (.ixN (i:=i) un_I B9 rfl rfl (hrW hW) rfl hgr fun q hq=>.ldE (E:=eInt .i64) B9 rfl rfl hq fun e he=>.asg rfl rfl (.nil ?_))))))))))
 obtain ⟨rfl,_⟩:=he
 refine .region (.mv rfl rfl (.mv rfl rfl (.mv rfl rfl (.mv rfl rfl (.ixN (i:=nw.refs.getD i 0) un_M ty_V rfl rfl hu rfl (D3 hrB) fun q hq=>.ldE (E:=eV) ty_V rfl rfl hq fun vw hvw=>.ixB (i:=nw.refs.getD i 0) un_M ty_V rfl rfl rfl hrB ?_)))))
 refine .storeF (E:=eV) (i:=nw.refs.getD i 0) (by decide) ty_V rfl rfl hMs rfl (by rw [A2];exact hrB) (Nat.zero_add _) hvw fun W2 f2 u2=>.nil ?_
 rw [U7 hrB] at f2
 have hstep:tabM B B (fun j k=>if j=nw.refs.getD i 0 then idn (nw.refs.getD i 0) k else F i j k)=tabM B B (F (i+1)):=B6 fun b c _ _=>by
  rw [←hF]
  dsimp only
  rw [show nw.refs.take (i+1)=nw.refs.take i++[nw.refs.getD i 0] by rw [List.take_add_one,A6 (z:=0) hlt];rfl]
  by_cases e:b=nw.refs.getD i 0
  ·rw [if_pos e,if_pos (by rw [e];simp),e];rfl
  ·rw [if_neg e]
   by_cases h:b∈nw.refs.take i
   ·rw [if_pos h,if_pos (List.mem_append.2 (.inl h))]
   ·rw [if_neg h,if_neg fun h'=>by
     rcases List.mem_append.1 h' with h' | h'
     ·exact h h'
     ·exact e (List.mem_singleton.1 h')]
 rw [hstep] at f2
 refine .region (.add rfl rfl rfl (.mv rfl rfl (.nil ?_)))
 rw [wI (by omega)]
 exact ⟨rfl,i+1,lkA rfl,⟨u2.below hW hgb,hlt,ER.upd eM hu u2 (fun h=>h.2 rfl),f2⟩,by show nw.refs.length-(i+1)<nw.refs.length-i;omega⟩
end Go.Proofs.YteghbhdniimjbaaGreat

namespace Go.Kx
open Go Go.RowKit
theorem FB.new {α:Type} {E:ER α} {t:TypeId} {S:Nat→Prop} {w w1 w2:World} {g b:Nat} {l:List α} (h:FB E t S w g l) (e:Ext w w1) (u:Upd w1 w2 b) (hb:w.heap.size≤b):FB E t S w2 g l:=by
 have h1:=h.mono (S':=fun k=>S k∧k<w.heap.size) fun k hk hS=>⟨hS,hk⟩
 have hg:=h.lt
 have h2:=(h1.ext e).upd u (by omega) fun hS=>by have:=hS.2;omega
 exact h2.mono fun k _ hS=>hS.1
theorem AN3 (n:Nat):tab n (fun _=>0)=List.replicate n q0:=by
 unfold tab
 simp [O5,List.map_const']
end Go.Kx
namespace Go.Proofs.YteghbhdniimjbaaGreat
open Go Go.Kx Go.RowKit
theorem g_on {n:NtV} {o:List Int} {k:Nat} (hko:k∉oN o):(nwOf n o).g k=((n.ls.getD k ln0).x:Rat)⁻¹:=by
 show (if k∈oN o then (0:Rat) else ((n.ls.getD k ln0).x:Rat)⁻¹)=_
 rw [if_neg hko]
theorem mem_inL {n:NtV} {o:List Int} {k:Nat}:k∈inL n o↔k<n.ls.length∧k∉oN o:=by
 unfold inL freeTo
 rw [List.mem_filter,List.mem_range]
 simp
theorem BJ9 {n:NtV} {o:List Int} (ok:nwOk n o) (θ:Nat→Rat):tab n.ls.length (fun k=>if k∈inL n o then (nwOf n o).fl θ k else 0)=tab n.ls.length ((nwOf n o).fl θ):=D5 fun k hk=>by
 by_cases h:k∈inL n o
 ·rw [if_pos h]
 ·rw [if_neg h,Nw.fl_out ((ok.g0 hk).2 (Classical.byContradiction fun h'=>h (mem_inL.2 ⟨hk,h'⟩)))]
theorem Am6 {l:List Nat} {M i:Nat} {f:Nat→Rat} (hi:i<l.length):(tab M fun k=>if k∈l.take i then f k else 0).set (l.getD i 0) (qc (f (l.getD i 0)))=tab M fun k=>if k∈l.take (i+1) then f k else 0:=by
 rw [T8]
 refine D5 fun k _=>?_
 rw [show l.take (i+1)=l.take i++[l.getD i 0] by rw [List.take_add_one,A6 (z:=0) hi];rfl]
 by_cases e:k=l.getD i 0
 ·rw [if_pos e,if_pos (by rw [e];simp),e]
 ·rw [if_neg e]
  by_cases h:k∈l.take i
  ·rw [if_pos h,if_pos (List.mem_append.2 (.inl h))]
  ·rw [if_neg h,if_neg fun h'=>by
    rcases List.mem_append.1 h' with h' | h'
    ·exact h h'
    ·exact e (List.mem_singleton.1 h')]
theorem E_col:Ent Tryz.prog 142:=A0 Tryz.func142 (by kernel_rfl) rfl
theorem col_c {S:Nat→Prop} {w:World} {s vl vi x:Value} {n:NtV} {o:List Int} {m:List (List QV)} {L b b2 b6 b9:Nat} (up:Up S w) (ok:nwOk n o) (k2:Blk w b2 40 #[x,s]) (hs:eLs.R S w s n.ls) (k6:Blk w b6 41 #[vl]) (hl:eI.R S w vl (pInts (inL n o)))
  (k9:Blk w b9 22 #[vi]) (hi:eM.R S w vi m) (hk:mk_ L m) (hL:1≤L) (hL2:L≤1000000000) :
  CR Tryz.prog 142 #[.int .i64 (b:Nat),.pointer (some ⟨b2,0,none⟩),.pointer (some ⟨b6,0,none⟩),.pointer (some ⟨b9,0,none⟩)] w (eV.at S (tab n.ls.length ((nwOf n o).fl fun c=>rm m c b))):=by
 have hM10:n.ls.length≤10:=ok.m
 have hll:=AH4 n o
 generalize hθ:(fun c=>rm m c b)=θ
 refine enter Tryz.func142 rfl Tryz.ntmps142 rfl ?_
 refine .seq (.region (.asg rfl rfl (.nil (.seq (.region (.fa L6 rfl rfl (.ld T6 rfl rfl k2 rfl (.lenR P8 rfl rfl hs ?_))))))))
 refine .make_ _ _ un_V K6 rfl (by decide) rfl rfl rfl (Nat.le_refl _) (by omega) (by omega) fun w1 h n1=>.asg rfl rfl (.nil ?_)
 have f1:FB eQ 32 S w1 h (List.replicate n.ls.length q0):=FB.made n1 zq_R
 obtain ⟨e1,_,hh,hs1⟩:=n1
 rw [←AN3] at f1
 have hlW:∀ {W:World},Ext w W→eI.R S W vl (pInts (inL n o)):=fun e=>ER.ext eI hl e
 refine .seq (.seq (.region (.ld ty_I rfl rfl (k6.ext e1) rfl (.lenR un_I rfl rfl (hlW e1) (.mv rfl rfl (.nil ?_))))))
 rw [show (pInts (inL n o)).length=(inL n o).length by simp]
 refine .block (.loop (α:=Nat) (fun i=>[(0,.int .i64 (b:Nat)),(1,.pointer (some ⟨b2,0,none⟩)),(2,.pointer (some ⟨b6,0,none⟩)),(3,.pointer (some ⟨b9,0,none⟩)),(6,slB n.ls.length h),(15,vl),(16,.int .i64 ((inL n o).length:Nat)),(17,.int .i64 (i:Nat))]) (fun i W=>Ext w W∧i≤(inL n o).length∧FB eQ 32 S W h (tab n.ls.length fun k=>if k∈(inL n o).take i then (nwOf n o).fl θ k else 0)) (fun i=>(inL n o).length-i) 0 ?_ ?_ ?_)
 ·exact lkA rfl
 ·exact ⟨e1,Nat.zero_le _,by simpa using f1⟩
 rintro i W ⟨hW,hi',fb⟩
 have hWs:=hW.size
 have hhl:=fb.lt
 refine .seq (.region ?_)
 rcases Nat.lt_or_ge i (inL n o).length with hlt | hge
 rotate_left
 ·refine .lssF rfl rfl rfl (by omega) (.nil (.seq (.condF rfl (.exit (.seq (.region (.mv rfl rfl (.asg rfl rfl (.nil (.ret ?_))))))))))
  have:i=(inL n o).length:=by omega
  subst this
  rw [List.take_of_length_le (Nat.le_refl _),BJ9 ok] at fb
  refine .plain [_] Tryz.results142 ⟨rfl,trivial⟩ ⟨hW,?_⟩
  have:=fb.toR (hsz:=by decide) (c:=n.ls.length) (up h (by omega)) (by rw [A1];exact Nat.le_refl _) (by rw [A1];omega)
  rw [A1] at this
  exact this
 obtain ⟨hgk,hkM,hko⟩:=AP1 hlt
 refine .lssT rfl rfl rfl (by omega) (.nil (.seq (.condT rfl (.skip (.seq (.block (.seq (.region (.ixN (i:=i) un_I B9 rfl rfl (hlW hW) rfl hgk fun q hq=>.ldE (E:=eInt .i64) B9 rfl rfl hq fun e he=>.asg rfl rfl (.nil ?_))))))))))
 obtain ⟨rfl,_⟩:=he
 have hset:=Am6 (M:=n.ls.length) (f:=(nwOf n o).fl θ) hlt
 have hgl:n.ls[(inL n o).getD i 0]?=some (n.ls.getD ((inL n o).getD i 0) ln0):=A6 hkM
 have hFI:=ok.fI _ hkM
 have hTI:=ok.tI _ hkM
 have hx:=ok.x _ hkM
 have hgv:=g_on (n:=n) hko
 generalize hkk:(inL n o).getD i 0=k at hset hgl hFI hTI hx hgv hkM
 generalize hln:n.ls.getD k ln0=ln at hgl hFI hTI hx hgv
 refine .seq (.region (.fa L6 rfl rfl (.ld T6 rfl rfl (k2.ext hW) rfl (.mv rfl rfl (.ixN (i:=k) P8 T7 rfl rfl (hs.ext hW) rfl hgl fun q hq=>.ldE (E:=eL) T7 rfl rfl hq fun vl' hvl=>.alloc rfl Ah5 fun W1 c9 n1'=>?_)))))
 obtain ⟨g1,k9',hc9,hs1'⟩:=n1'
 refine .storeA (E:=eL) (S:=fun k=>k≠c9) (z:=ln) T7 rfl rfl k9' rfl rfl hvl (fun h=>h rfl) fun W2 k9' u2 hl2=>.nil ?_
 obtain ⟨rfl,_⟩:=hl2
 rw [hFI,hTI] at k9'
 replace k9':Blk W2 c9 60 #[.int .i64 ((nwOf n o).F k:Nat),.int .i64 ((nwOf n o).T k:Nat),.int .i64 ln.x,.int .i64 ln.c]:=k9'
 have x2:Ext W W2:=u2.below g1 (by omega)
 have hs2:=u2.size
 have fb:=fb.new g1 u2 (by omega)
 have hW2:=hW.trans x2
 have upT:∀ {W':World},W2.heap.size≤W'.heap.size→Up (fun k=>S k∧k≠h) W':=fun hs k' hk'=>⟨up k' (by omega),by omega⟩
 have hmi:∀ {W':World},Ext W2 W'→eM.R (fun k=>S k∧k≠h) W' vi m:=fun e=>ER.ext eM (eM.mono (fun k' _ hk'=>⟨hk'.1,by have:=hk'.2;omega⟩) (ER.ext eM (ER.lt eM hi) hW2)) e
 have hat:∀ c:Nat,rmI m c b=θ c:=fun c=>by rw [AY2,←hθ]
 have hrz:∀ c,Rsz (θ c) L:=fun c=>by rw [←hθ];exact hk.rsz hL c b
 refine .seq ?_
 refine .par follows 12 [.inl vi,.inl (.pointer (some ⟨c9,0,none⟩)),.inl (.int .i64 ((nwOf n o).F k:Nat)),.inl (.int .i64 (b:Nat)),.inr (eQ.at (fun k=>S k∧k≠h) (qc (θ ((nwOf n o).F k)))),.inl vi,.inl (.pointer (some ⟨c9,1,none⟩)),.inl (.int .i64 ((nwOf n o).T k:Nat)),.inl (.int .i64 (b:Nat)),.inr (eQ.at (fun k=>S k∧k≠h) (qc (θ ((nwOf n o).T k)))),.inr (eQ.at (fun k=>S k∧k≠h) (qc (θ ((nwOf n o).F k)-θ ((nwOf n o).T k)))),.inr (NewP W2.heap.size 32 zq.cells)]
  [[],[],[(27,1)],[],[(26,0),(28,2),(29,3)],[],[],[(32,6)],[],[(31,5),(33,7),(34,8)],[(30,4),(35,9)],[]] (by kernel_rfl) ⟨
  fun w e=>(v_ld ty_M rfl ((k9.ext hW2).ext e) rfl).ob,fun w e=>(v_fa J9 rfl).ob,fun w e=>(v_ld A7 rfl (k9'.ext e) rfl).ob,fun w e=>(v_mv rfl).ob,
  fun w e=>by
   have:=AF3 (i:=((nwOf n o).F k:Nat)) (k:=(b:Nat)) (upT e.size) (hmi e) hk hL (by omega)
   rw [hat] at this
   exact (A3 _ AG3 rfl this).ob (A9 _ _ _),
  fun w e=>(v_ld ty_M rfl ((k9.ext hW2).ext e) rfl).ob,fun w e=>(v_fa J8 rfl).ob,fun w e=>(v_ld A7 rfl (k9'.ext e) rfl).ob,fun w e=>(v_mv rfl).ob,
  fun w e=>by
   have:=AF3 (i:=((nwOf n o).T k:Nat)) (k:=(b:Nat)) (upT e.size) (hmi e) hk hL (by omega)
   rw [hat] at this
   exact (A3 _ AG3 rfl this).ob (A9 _ _ _),
  fun w e x hx y hy=>by
   have:=V3 (L:=L) (upT e.size) hx hy (hrz _).toOk (hrz _).toOk hL (by omega)
   rw [B7,B7] at this
   exact (A3 _ V6 rfl this).ob (A9 _ _ _),
  fun w e=>AF2 C3 e.size,trivial⟩ ?_
 rintro W3 g3 _ _ _ _ y10 hy10 _ ⟨c10,rfl,hc10,k10⟩
 have hy10':=Aj3 hy10 k10 AG4
 refine .storeA (E:=eQ) ty_Q rfl rfl k10 rfl rfl hy10' (fun h=>h.2 rfl) fun W4 k10 u4 hy=>.nil ?_
 have hs3:=g3.size
 have hs4:=u4.size
 have x4:Ext W2 W4:=u4.below g3 hc10
 have hy:eQ.R (fun k=>S k∧k≠h) W4 y10 _:=eQ.mono (fun _ _ h=>h.1) hy
 have hyv:=shpA (E:=eQ) rfl hy
 have fb:=fb.new g3 u4 hc10
 have hd:Rsz (θ ((nwOf n o).F k)-θ ((nwOf n o).T k)) (L+L+1):=by
  rw [Rat.sub_eq_add_neg]
  exact (hrz _).add (hrz _).neg
 have hx0:((ln.x:Int):Rat)≠0:=fun e=>by
  have:ln.x=0:=by exact_mod_cast e
  omega
 have hflv:(θ ((nwOf n o).F k)-θ ((nwOf n o).T k)) / ((ln.x:Int):Rat)=(nwOf n o).fl θ k:=by
  unfold Nw.fl
  rw [hgv,Rat.div_def,Rat.mul_comm]
 have hr1:Rsz ((ln.x:Int):Rat) (L+L+1):=Rsz.int _ (Nat.lt_of_lt_of_le (by omega:ln.x.natAbs<4294967296 ^ 1) (Nat.pow_le_pow_right (by decide) (by omega))) (by omega)
 refine .parL follows 10 [9] [.inl (slB n.ls.length h),.inl (.int .i64 (k:Nat)),.inl y10,.inl (.pointer (some ⟨c9,2,none⟩)),.inl (.int .i64 ln.x),.inr (eQ.at (fun k=>S k∧k≠h) (qc ((ln.x:Int):Rat))),.inr (Two (eQ.at (fun k=>S k∧k≠h) (qc ((nwOf n o).fl θ k))) (Is (.int .i64 0))),.inr (Two (eQ.at (fun k=>S k∧k≠h) (qc ((nwOf n o).fl θ k))) (Is (.int .i64 0))),.inr (eQ.at (fun k=>S k∧k≠h) (qc ((nwOf n o).fl θ k))),.inl (.int .i64 0)]
  [[],[],[],[],[(41,3)],[(42,4)],[(40,2),(43,5)],[(44,6)],[(37,7)],[(37,7)]] (by kernel_rfl) ⟨
  fun w e=>(v_mv rfl).ob,fun w e=>(v_mv rfl).ob,fun w e=>((C0 ty_Q rfl (k10.ext e) (eQ.csz hy)).eq hyv.symm).ob,fun w e=>(v_fa AH9 rfl).ob,fun w e=>(v_ld Z4 rfl ((k9'.ext x4).ext e) rfl).ob,
  fun w e=>(A3 _ F3 rfl (F2 (upT (by have:=e.size;omega)) (by omega) (by omega))).ob (A9 _ _ _),
  fun w e x hx=>by
   have:=AL8 (L:=L+L+1) (upT (by have:=e.size;omega)) (ER.ext eQ hy e) hx hd.toOk hr1.toOk (by omega) (by omega) (by rw [B7];exact hx0)
   rw [B7,B7,hflv] at this
   exact (A3 _ AM7 rfl this).ob (AC2 (A9 _ _ _) (AT9 _)),
  fun w e x hx=>X8 (v_mv rfl) hx (AC2 (A9 _ _ _) (AT9 _)),
  fun w e x hx=>by
   obtain ⟨a,b,rfl,ha,hb⟩:=hx
   exact X8 (v_ex rfl rfl) ha (A9 _ _ _),
  fun w e x hx=>by
   obtain ⟨a,b,rfl,ha,hb⟩:=hx
   exact ((v_ex rfl rfl).eq hb).ob,trivial⟩ ?_
 intro W5 g5 _ _ _ _ _ _ y8 hy8
 refine .ixB (i:=k) un_V ty_Q rfl rfl rfl hkM (.storeF (E:=eQ) (i:=k) (by decide) ty_Q rfl rfl (fb.ext g5) rfl (by rw [A1];exact hkM) (Nat.zero_add _) hy8 fun W6 f6 u6=>.nil ?_)
 rw [hset] at f6
 refine .region (.add rfl rfl rfl (.mv rfl rfl (.nil ?_)))
 rw [wI (by omega)]
 exact ⟨rfl,i+1,lkA rfl,⟨u6.below ((hW2.trans x4).trans g5) (by omega),hlt,f6⟩,by show (inL n o).length-(i+1)<(inL n o).length-i;omega⟩
end Go.Proofs.YteghbhdniimjbaaGreat

namespace Go.Kx
open Go Go.RowKit
section
variable {P:Program} {σ:Env} {w:World} {ty:TypeId} {pos:String} {af:Array Edge}
end
/-- an element of a row, wherever the world goes on -/
theorem Ax8 {α:Type} {E:ER α} {hsz:0<E.sz} {S:Nat→Prop} {w:World} {v:Value} {l:List α} {i:Nat} {q:α} (h:(RL E hsz).R S w v l) (hq:l[i]?=some q):∃ ad c e,v=.slice (some ad) l.length c∧∀ W',Below w.heap.size w W'→PtrX W' (ad.add (i*E.sz)) e∧E.R (fun k=>S k∧k<w.heap.size) W' e q:=by
 obtain ⟨es,hE⟩:=RL.toEs h
 have hil:=(List.getElem?_eq_some_iff.1 hq).1
 obtain ⟨e,he⟩:∃ e,es[i]?=some e:=⟨_,List.getElem?_eq_getElem (by rw [hE.1.1];exact hil)⟩
 obtain ⟨ad,c,hv,hp⟩:=hE.at_ he
 have hr:=hE.1.2 i e q he hq
 refine ⟨ad,c,e,hv,fun W' hB=>⟨fun j u hu=>?_,E.keep (fun k c t f hk h=>(hB.block k hk.2).trans h) (ER.lt E hr)⟩⟩
 have h1:=hp j u hu
 have hl:=AP9 h1
 rw [AI1 (hB.block _ hl)]
 exact h1
theorem set_mid {α:Type} (l r:List α) (v x:α):(l++v::r).set l.length x=l++x::r:=by
 rw [List.set_append_right _ _ (Nat.le_refl _),Nat.sub_self,List.set_cons_zero]
theorem get_mid {α:Type} (l r:List α) (v:α):(l++v::r)[l.length]?=some v:=by
 rw [List.getElem?_append_right (Nat.le_refl _),Nat.sub_self];rfl
end Go.Kx
namespace Go.Proofs.YteghbhdniimjbaaGreat
open Go Go.Kx Go.RowKit
theorem Aq4:Ent Tryz.prog 144:=A0 Tryz.func144 (by kernel_rfl) rfl
theorem Am3 {S:Nat→Prop} {w:World} {vc:Value} {B M:Nat} {g:RM} (up:Up S w) (hc:eM.R S w vc (tabM B M g)) (hB:B≤1000) (hM:M≤1000) :
  CR Tryz.prog 144 #[vc,.int .i64 (M:Nat)] w (eM.at S (tabM M B fun i c=>g c i)):=by
 have hcW:∀ {W:World},Below w.heap.size w W→eM.R (fun k=>S k∧k<w.heap.size) W vc (tabM B M g):=fun h=>eM.keep (fun k c t f hk hh=>(h.block k hk.2).trans hh) (ER.lt eM hc)
 refine enter Tryz.func144 rfl Tryz.ntmps144 rfl ?_
 refine .seq (.region (.asg rfl rfl (.nil (.seq (.region (.mv rfl rfl ?_))))))
 refine .make_ M M un_M AL4 rfl (by decide) rfl rfl rfl (Nat.le_refl _) (by omega) (by omega) fun w1 gb n1=>.asg rfl rfl (.nil ?_)
 obtain ⟨e1,k1,hgb,hs1⟩:=n1
 generalize hF:(fun i=>tab B fun c=>g c i)=F
 refine .seq (.seq (.region (.mv rfl rfl (.len un_M rfl rfl (.mv rfl rfl (.nil ?_))))))
 refine .block (.loop (α:=List Value) (fun rs=>[(0,vc),(5,.slice (some ⟨gb,0,none⟩) M M),(12,.int .i64 (M:Nat)),(13,.int .i64 (rs.length:Nat))]) (fun rs W=>Below w.heap.size w W∧rs.length≤M∧Blk W gb 42 (cellsOf (rs++List.replicate (M-rs.length) nilV)).toArray∧Els eV (fun k=>S k∧k≠gb) W rs ((List.range rs.length).map F)) (fun rs=>M-rs.length) [] ?_ ?_ ?_)
 ·exact lkA rfl
 ·exact ⟨e1,Nat.zero_le _,k1,Els.nil⟩
 rintro rs W ⟨hW,hi,hO,hels⟩
 have hWs:=hW.size
 have hgl:=hO.lt
 refine .seq (.region ?_)
 rcases Nat.lt_or_ge rs.length M with hlt | hge
 rotate_left
 ·refine .lssF rfl rfl rfl (by omega) (.nil (.seq (.condF rfl (.exit (.seq (.region (.mv rfl rfl (.asg rfl rfl (.nil (.ret ?_))))))))))
  have hl:rs.length=M:=by omega
  rw [hl,Nat.sub_self,List.replicate_zero,List.append_nil] at hO
  rw [hl] at hels
  refine .plain [_] Tryz.results144 ⟨rfl,trivial⟩ ⟨hW,?_⟩
  have hfb:FB eV 42 S W gb (tabM M B fun i c=>g c i):=⟨rs,hO,by unfold tabM;rw [hF];exact hels⟩
  have:=hfb.toR (hsz:=by decide) (c:=M) (up gb (by omega)) (by rw [A2];exact Nat.le_refl _) (by rw [A2];omega)
  rw [A2] at this
  exact this
 have hrep:rs++List.replicate (M-rs.length) nilV=rs++nilV::List.replicate (M-(rs.length+1)) nilV:=by rw [show M-rs.length=M-(rs.length+1)+1 by omega,List.replicate_succ]
 rw [hrep] at hO
 refine .lssT rfl rfl rfl (by omega) (.nil (.seq (.condT rfl (.skip (.seq (.block (.seq (.region (.mv rfl rfl (.asg rfl rfl (.nil (.seq (.region (.mv rfl rfl (.lenR un_M rfl rfl (hcW hW) (.mv rfl rfl (.nil ?_)))))))))))))))))
 rw [A2]
 refine .block (.loop (α:=Nat×Value) (fun y=>[(0,vc),(5,.slice (some ⟨gb,0,none⟩) M M),(12,.int .i64 (M:Nat)),(13,.int .i64 (rs.length:Nat)),(6,.int .i64 (rs.length:Nat)),(16,vc),(17,.int .i64 (B:Nat)),(18,.int .i64 (y.1:Nat))])
  (fun y W'=>Below w.heap.size w W'∧W.heap.size≤W'.heap.size∧y.1≤B∧Blk W' gb 42 (cellsOf (rs++y.2::List.replicate (M-(rs.length+1)) nilV)).toArray∧Kp (fun k=>k<W.heap.size∧k≠gb) W W'∧OwnL eQ 32 W.heap.size (fun k=>S k∧k≠gb) W' y.2 (tab y.1 fun c=>g c rs.length)) (fun y=>B-y.1) (0,nilV) ?_ ?_ ?_)
 ·exact lkA rfl
 ·exact ⟨hW,Nat.le_refl _,Nat.zero_le _,hO,fun _ _ _ _ _ h=>h,OwnL.nil⟩
 rintro ⟨j,v⟩ W' ⟨hW',hsz,hj,hO,hK,hown⟩
 replace hW':Below w.heap.size w W':=hW'
 replace hj:j≤B:=hj
 replace hO:Blk W' gb 42 (cellsOf (rs++v::List.replicate (M-(rs.length+1)) nilV)).toArray:=hO
 replace hown:OwnL eQ 32 W.heap.size (fun k=>S k∧k≠gb) W' v (tab j fun c=>g c rs.length):=hown
 refine .seq (.region ?_)
 rcases Nat.lt_or_ge j B with hjl | hge
 rotate_left
 ·refine .lssF rfl rfl rfl (by omega) (.nil (.seq (.condF rfl (.exit (.region (.add rfl rfl rfl (.mv rfl rfl (.nil ?_))))))))
  rw [wI (by omega)]
  have:j=B:=by omega
  subst this
  refine ⟨rfl,rs++[v],A5 rfl (A5 rfl (A5 rfl (A5 (by rw [List.length_append];rfl) AO9))),⟨hW',by rw [List.length_append];exact hlt,?_,?_⟩,by rw [List.length_append];show M-(rs.length+1)<M-rs.length;omega⟩
  ·rw [List.length_append,List.append_assoc]
   exact hO
  ·rw [List.length_append]
   show Els eV _ W' (rs++[v]) ((List.range (rs.length+1)).map F)
   rw [List.range_succ,List.map_append]
   have h1:Els eV (fun k=>S k∧k≠gb) W' rs ((List.range rs.length).map F):=⟨hels.1,fun i e x he hx=>by
    have h2:=ER.lt eV (hels.2 i e x he hx)
    have h3:=eV.keep (fun k c t f hk hc=>hK k c t f ⟨hk.2,hk.1.2⟩ hc) h2
    exact eV.mono (fun k _ h=>h.1) h3⟩
   refine h1.snoc ?_
   rw [←hF]
   exact hown.toR (fun k hk=>⟨up k (by omega),by omega⟩) (fun _ h=>h)
 refine .lssT rfl rfl rfl (by omega) (.nil (.seq (.condT rfl (.skip (.seq (.block (.seq (.region ?_))))))))
 obtain ⟨adc,cc,ec,hvc,hrc⟩:=Ax8 (E:=eV) (i:=j) hc (D3 hjl)
 obtain ⟨hpc,hec⟩:=hrc w (Below.refl _ _)
 obtain ⟨ade,ce,ee,hve,hre⟩:=Ax8 (E:=eQ) (i:=rs.length) hec (G0 hlt)
 obtain ⟨esC,hEC⟩:=RL.toEs (hcW hW')
 rw [A1] at hve
 have hgc:∃ p,PtrX W' p ec:=⟨_,(hrc W' hW').1⟩
 rw [A2] at hvc
 subst hvc
 refine .gv rfl rfl (Aw6 (i:=j) (sz:=1) un_M ty_V rfl rfl hjl).gv ?_
 rintro _ _ ⟨rfl,rfl⟩
 refine .ldX (E:=eV) ty_V rfl rfl (hrc _ hW').1 (hrc _ hW').2 (.asg rfl rfl (.nil ?_))
 subst hve
 have hesz:∀ {v:Value},v.cells.size=1→∀ e∈rs++v::List.replicate (M-(rs.length+1)) nilV,e.cells.size=1:=fun hv e he=>by
  rcases List.mem_append.1 he with h | h
  ·exact hels.sz e h
  ·rcases List.mem_cons.1 h with h | h
   ·rw [h];exact hv
   ·rw [(List.mem_replicate.1 h).2];rfl
 obtain ⟨av,cv,hvv⟩:=hown.slice
 have hv1:v.cells.size=1:=by rw [hvv];rfl
 have hcell:(cellsOf (rs++v::List.replicate (M-(rs.length+1)) nilV)).toArray[0+rs.length*1]?=some v:=by
  have:=C8 _ rs.length 0 v (hesz hv1) (get_mid _ _ _) (by decide)
  rw [List.getElem?_toArray,show 0+rs.length*1=rs.length*1+0 by omega,this,hvv];rfl
 have hee:∀ W',Below w.heap.size w W'→PtrX W' (ade.add (rs.length*4)) ee∧eQ.R (fun k=>(S k∧k<w.heap.size)∧k<w.heap.size) W' ee (qc (g j rs.length)):=hre
 refine .held follows true (fun W2=>Blk W2 gb 42 (cellsOf (rs++v::List.replicate (M-(rs.length+1)) nilV)).toArray∧Below w.heap.size w W2)
  [some (.slice (some ⟨gb,0,none⟩) M M),some (.int .i64 (rs.length:Nat)),some (.slice (some ⟨gb,0,none⟩) M M),some (.int .i64 (rs.length:Nat)),some (.pointer (some ⟨gb,0+rs.length*1,none⟩)),some v,some (.slice (some ade) M ce),some (.int .i64 (rs.length:Nat)),some (.pointer (some (ade.add (rs.length*4)))),some ee,none,none,none,none] (by kernel_rfl)
  ⟨fun _ _=>v_mv rfl,fun _ _=>v_mv rfl,fun _ _=>v_mv rfl,fun _ _=>v_mv rfl,fun _ _=>F9 (i:=rs.length) un_M ty_V rfl rfl hlt,fun _ h=>v_ld ty_V rfl h.1 hcell,fun _ _=>v_mv rfl,fun _ _=>v_mv rfl,fun _ _=>Aw6 (i:=rs.length) un_V ty_Q rfl rfl hlt,fun _ h=>Aa0 (E:=eQ) ty_Q rfl (hee _ h.2).1 (hee _ h.2).2,trivial⟩ ?_
 intro W2 e2 _
 have hW2:Below w.heap.size w W2:=hW'.trans (e2.mono hW'.size)
 have hO:=hO.ext e2
 have hown:=hown.ext e2
 obtain ⟨_,hr2⟩:=hee W2 hW2
 have hr2':=hr2
 obtain ⟨s2,t2,rfl,_,_⟩:=hr2'
 refine .gv ⟨hO,hW2⟩ rfl (Ab1 _ rfl Au7) ?_
 rintro _ W3 ⟨b3,rfl,n3⟩
 obtain ⟨e3,k3,hb3,hs3⟩:=n3
 have hW3:Below w.heap.size w W3:=hW2.trans (e3.mono hW2.size)
 have hO:=hO.ext e3
 have hown:=hown.ext e3
 have hs2:=e2.size
 obtain ⟨es,ho1,_⟩:=id hown
 refine .gv ⟨hO,hW3⟩ rfl (AF6 (E:=eQ) (base:=W.heap.size) (by decide) un_V K6 rfl rfl rfl hown k3 (eQ.mono (fun k _ h=>⟨⟨h.1.1,by have:=h.2;omega⟩,fun e=>by have:=(ho1.lt k e).1;have:=h.2;omega⟩) (hr2.ext e3)) (by rw [A1];omega) (by decide) (by omega)) ?_
 rintro v4 W4 ⟨ho4,hg4⟩
 have hO4:=hown.gblk hg4 hO (by decide)
 have hlow4:Below w.heap.size w W4:=by
  have hK4:=hown.below (w0:=W3) hg4 (Below.refl _ _) (by omega)
  exact hW3.trans (hK4.mono (by omega))
 refine .gv ⟨hO4,hlow4⟩ rfl (F9 (i:=rs.length) un_M ty_V rfl rfl hlt).gv ?_
 rintro _ _ ⟨rfl,rfl⟩
 obtain ⟨a4,c4,hv4⟩:=ho4.slice
 have hv41:v4.cells.size=1:=by rw [hv4];rfl
 refine .gv ⟨hO4,hlow4⟩ rfl (Ab0 (i:=rs.length) (by decide) ty_V rfl rfl hO4 (hesz hv1) hv41 (by rw [hv4];simp [one1,Value.cells]) (by simp) (Nat.zero_add _)) ?_
 rintro _ W5 ⟨hO5,u5⟩
 rw [set_mid] at hO5
 refine .nil (.inl rfl) ?_
 have hs4:=hg4.size
 have hs5:=u5.size
 refine .region (.add rfl rfl rfl (.mv rfl rfl (.nil ?_)))
 rw [wI (by omega)]
 refine ⟨rfl,(j+1,v4),lkA rfl,⟨u5.below hlow4 (by omega),by show W.heap.size≤W5.heap.size;omega,hjl,hO5,?_,?_⟩,by show B-(j+1)<B-j;omega⟩
 ·intro k c t f hk hc
  have h1:=hK k c t f hk hc
  have h2:=(e3.block k (by have:=(Array.getElem?_eq_some_iff.1 h1).1;omega)).trans ((e2.block k (Array.getElem?_eq_some_iff.1 h1).1).trans h1)
  have h3:=(hg4.block k (by have:=(Array.getElem?_eq_some_iff.1 h2).1;omega) (fun e=>by have:=(ho1.lt k e.symm).1;have:=hk.1;omega)).trans h2
  exact (u5.block k hk.2).trans h3
 ·have:=ho4.upd u5 hO4 (by decide) (fun h=>h.2 rfl)
  have e:tab (j+1) (fun c=>g c rs.length)=tab j (fun c=>g c rs.length)++[qc (g j rs.length)]:=by unfold tab;rw [List.range_succ,List.map_append];rfl
  show OwnL eQ 32 W.heap.size _ W5 v4 (tab (j+1) fun c=>g c rs.length)
  rw [e]
  exact this
end Go.Proofs.YteghbhdniimjbaaGreat

namespace Go.Kx
open Go Go.RowKit
def Nw.gA (n:Nw):List (List QV):=tabM n.B n.B n.gm
/-- the angles if 1 is put in at bus b -/
def Nw.th (n:Nw) (b c:Nat):Rat:=rm (invM n.gA) c b
/-- the factors -/
def Nw.hf (n:Nw) (k b:Nat):Rat:=n.fl (n.th b) k
end Go.Kx
namespace Go.Proofs.YteghbhdniimjbaaGreat
open Go Go.Kx Go.RowKit
section
variable {n:Nw}
theorem I6:n.gA.length=n.B:=A2 ..
theorem AH8 (hB:1≤n.B):colsOf n.gA=n.B:=by unfold Nw.gA;rw [AS5,if_neg (by omega)]
theorem rm_gA {i k:Nat} (hi:i<n.B) (hk:k<n.B):rm n.gA i k=n.gm i k:=by unfold Nw.gA;rw [AG9,if_pos ⟨hi,hk⟩]
theorem Aj0 (ok:n.Ok) (hB:1≤n.B):invertible n.gA:=by
 have hc:=AH8 hB
 rw [BI9 (by rw [hc,I6]),I6]
 have h1:=BB8 n.gA
 rw [hc] at h1
 rcases Nat.eq_zero_or_pos (nullM n.gA).length with h0 | hp
 ·omega
 exfalso
 rw [AV0] at hp
 obtain ⟨hk,hkp⟩:=BC1 hp
 rw [hc] at hk
 have hz:=Nw.ker0 (θ:=nv (redF n.gA) (redP n.gA) ((freeC n.gA).getD 0 0)) ok (fun b hb=>by
  have h2:=BB1 (m:=n.gA) (k:=(freeC n.gA).getD 0 0) (by rw [hc];exact hk) b
  rw [hc] at h2
  have h3:=Nw.gm_sum ok (nv (redF n.gA) (redP n.gA) ((freeC n.gA).getD 0 0)) hb
  have h4:sumN n.B (fun c=>rm n.gA b c*nv (redF n.gA) (redP n.gA) ((freeC n.gA).getD 0 0) c)=sumN n.B (fun c=>n.gm b c*nv (redF n.gA) (redP n.gA) ((freeC n.gA).getD 0 0) c):=A4 fun c hc'=>by rw [rm_gA hb hc']
  rw [←h4,h2] at h3
  split
  ·rw [if_pos (by assumption)] at h3;exact h3.symm
  ·rw [if_neg (by assumption)] at h3;exact h3.symm) _ hk
 rw [nv_self (not_piv hkp)] at hz
 exact absurd hz (by decide)
/-- what the angles satisfy -/
theorem th_eq (ok:n.Ok) (hB:1≤n.B) {b i:Nat} (hb:b<n.B) (hi:i<n.B):(if n.root i=i then n.th b i else n.lap (n.th b) i)=dl i b:=by
 have h:=Ag5 (Aj0 ok hB) (i:=i) (k:=b) (by rw [I6];exact hi) (by rw [I6];exact hb)
 rw [I6] at h
 rw [←Nw.gm_sum ok (n.th b) hi]
 have e:sumN n.B (fun c=>n.gm i c*n.th b c)=sumN n.B (fun j=>rm n.gA i j*rm (invM n.gA) j b):=A4 fun c hc=>by rw [rm_gA hi hc];rfl
 rw [e,h];rfl
end
theorem Az1 {n:NtV} {o:List Int} (h:nwOk n o):mk_ 21 (nwOf n o).gA:=AO6 fun b c hb hc=>by
 unfold Nw.gm
 split
 ·unfold dl
  split
  ·exact rsz1 (by decide)
  ·exact Rsz.zero (by decide)
 ·unfold Nw.Lm
  rw [←Nw.lmL_free (p:=oN o) b c _ fun k hk=>h.g0 hk]
  refine ((nwOf n o).lmL_rsz (Nat.le_refl _) h.gsz b c _).mono ?_
  have:=Ag9 (oN o) (nwOf n o).M
  have:=h.m
  omega
theorem bd216:bd 21 6=87381:=by decide
theorem BF9 {n:NtV} {o:List Int} (h:nwOk n o) (b c:Nat):Rsz ((nwOf n o).th b c) 87381:=by
 have:=Ay4 (n:=6) (Az1 h) (by decide) (by rw [I6];exact h.b6)
 rw [bd216] at this
 exact this.rsz (by decide) c b
theorem BK0 {n:NtV} {o:List Int} (h:nwOk n o) {θ:Nat→Rat} {L:Nat} (hθ:∀ c,Rsz (θ c) L) (k:Nat):Rsz ((nwOf n o).fl θ k) (2*L+2):=by
 unfold Nw.fl
 have h1:=(hθ ((nwOf n o).F k)).add (hθ ((nwOf n o).T k)).neg
 rw [←Rat.sub_eq_add_neg] at h1
 exact ((h.gsz k).mul h1).mono (by omega)
theorem At9 {n:NtV} {o:List Int} (h:nwOk n o) (k b:Nat):Rsz ((nwOf n o).hf k b) 174764:=BK0 h (BF9 h b) k
end Go.Proofs.YteghbhdniimjbaaGreat

namespace Go.Proofs.YteghbhdniimjbaaGreat
open Go Go.Kx Go.RowKit
theorem hf_mk {n:NtV} {o:List Int} (h:nwOk n o) (M B:Nat):mk_ 174764 (tabM M B (nwOf n o).hf):=AO6 fun k b _ _=>At9 h k b
theorem M1:Ent Tryz.prog 71:=A0 Tryz.func71 (by kernel_rfl) rfl
theorem L8 {S:Nat→Prop} {w:World} {vn vo:Value} {n:NtV} {o:List Int} (up:Up S w) (hn:eN.R S w vn n) (ho:eI.R S w vo o) :
  CR Tryz.prog 71 #[vn,vo] w (Two (eM.at S (if outE n o=0 then tabM n.ls.length (nwOf n o).B (nwOf n o).hf else [])) (Is (.int .i64 (outE n o)))):=by
 obtain ⟨s,rfl,hs,hb⟩:=hn
 have hn:eN.R S w (.agg #[.int .i64 n.b,s]) n:=⟨s,rfl,hs,hb⟩
 refine enter Tryz.func71 rfl Tryz.ntmps71 rfl ?_
 refine .seq (.region (.box rfl rfl fun w1 b2 n1=>.asg rfl rfl (.asg rfl rfl (.nil ?_))))
 obtain ⟨e1,k2,hb2,hs1⟩:=n1
 refine .seq (.region (.ldA ty_N rfl rfl k2 rfl (.mv rfl rfl ?_)))
 refine .call _ rfl AQ6 rfl (AO5 (up.ext e1.size) (hn.ext e1) (ho.ext e1)) fun v2 w2 e2 h2=>?_
 obtain ⟨vl,ve,rfl,hl,he⟩:=h2
 replace he:ve=.int .i64 (outE n o):=he
 subst he
 obtain ⟨al,cl,hvl,_⟩:=RL.len hl
 refine .mv rfl rfl (.ext rfl rfl rfl (.ext rfl rfl rfl (.alloc rfl Ar8 fun w3 b6 n3=>?_)))
 obtain ⟨e3,k6,hb6,hs3⟩:=n3
 refine .store ty_I rfl rfl k6 (by rw [hvl];rfl) (by simp [Value.cells]) (by rw [hvl];simp [one1,Value.cells]) fun w4 k6 u4=>.asg rfl rfl (.nil (.seq (.seq (.region (.mv rfl rfl ?_)))))
 replace k6:Blk w4 b6 41 #[vl]:=by rw [hvl] at k6 ⊢;exact k6
 have x2:=e1.trans e2
 have x24:Ext w2 w4:=u4.below e3 (by omega)
 have x4:=x2.trans x24
 by_cases hE:outE n o=0
 rotate_left
 ·refine .neqT rfl rfl rfl hE (.nil (.condT rfl (.seq (.region (.mv rfl rfl (.asg rfl rfl (.asg rfl rfl (.nil (.ret ?_)))))))))
  refine .plain [_,_] Tryz.results71 ⟨rfl,rfl,trivial⟩ ⟨x4,_,_,rfl,?_,rfl⟩
  rw [if_neg hE];exact RL.nil
 have ok:=P9 hE
 rw [if_pos hE] at hl ⊢
 have hB1:=ok.b1
 have hB6:=ok.b6
 have hM10:n.ls.length≤10:=ok.m
 have hnb:=ok.b
 refine .neqF rfl rfl rfl hE (.nil (.condF rfl (.skip (.seq (.region (.ldA ty_N rfl rfl (k2.ext (e2.trans x24)) rfl (.mv rfl rfl ?_)))))))
 have hl4:=ER.ext eI hl x24
 refine .call _ rfl AJ9 rfl (AJ2 (up.ext x4.size) (hn.ext x4) (ho.ext x4)) fun v5 w5 e5 h5=>?_
 obtain ⟨vr,ve,rfl,hr,he⟩:=h5
 replace he:ve=.int .i64 (outE n o):=he
 subst he
 rw [if_pos hE] at hr
 have x5:=x4.trans e5
 refine .mv rfl rfl (.ext rfl rfl rfl (.ext rfl rfl rfl (.asg rfl rfl (.asg rfl rfl (.nil (.seq (.seq (.region (.mv rfl rfl (.neqF rfl rfl rfl hE (.nil (.condF rfl (.skip (.seq (.region (.ldA ty_N rfl rfl ((k2.ext (e2.trans x24)).ext e5) rfl (.ld ty_I rfl rfl (k6.ext e5) rfl (.mv rfl rfl ?_))))))))))))))))))
 have hl5:=ER.ext eI hl4 e5
 refine .call _ rfl AQ3 rfl (AO0 (up.ext x5.size) (hn.ext x5) hl5 hr ok) fun vA w6 e6 hA=>?_
 have x6:=x5.trans e6
 have hcA:colsOf (nwOf n o).gA=(nwOf n o).gA.length:=by rw [AH8 hB1,I6]
 refine .call _ rfl AX6 rfl (AW9 (L:=21) (n:=6) (m:=(nwOf n o).gA) (up.ext x6.size) hA (Az1 ok) (by decide) (by rw [I6];exact hB6) (by rw [hcA,I6];omega) (by decide) (by decide)) fun v7 w7 e7 h7=>?_
 obtain ⟨vi,ve,rfl,hi,he⟩:=h7
 replace he:ve=.int .i64 (if colsOf (nwOf n o).gA=(nwOf n o).gA.length then (if invertible (nwOf n o).gA then 0 else 8) else 13):=he
 have hinv:=Aj0 ok.ok hB1
 rw [if_pos hcA,if_pos hinv] at he
 subst he
 replace hi:eM.R S w7 vi (invM (nwOf n o).gA):=by rw [if_pos ⟨hcA,hinv⟩] at hi;exact hi
 obtain ⟨ai,ci,hvi,_⟩:=RL.len hi
 have x7:=x6.trans e7
 refine .mv rfl rfl (.ext rfl rfl rfl (.ext rfl rfl rfl (.alloc rfl BE6 fun w8 b9 n8=>?_)))
 obtain ⟨e8,k9,hb9,hs8⟩:=n8
 refine .store ty_M rfl rfl k9 (by rw [hvi];rfl) (by simp [Value.cells]) (by rw [hvi];simp [one1,Value.cells]) fun w9 k9 u9=>.asg rfl rfl (.nil (.seq (.seq (.region (.mv rfl rfl (.neqF rfl rfl rfl rfl (.nil (.condF rfl (.skip (.seq (.region (.mkf [] [_,_,_] rfl rfl rfl rfl (.asg rfl rfl (.nil (.seq (.region (.asg rfl rfl (.nil ?_))))))))))))))))))
 replace k9:Blk w9 b9 22 #[vi]:=by rw [hvi] at k9 ⊢;exact k9
 have x79:Ext w7 w9:=u9.below e8 (by omega)
 have x9:=x7.trans x79
 have x49:Ext w4 w9:=((e5.trans e6).trans e7).trans x79
 have k2:=(k2.ext (e2.trans x24)).ext x49
 have k6:=k6.ext x49
 have hs9:=x9.size
 have hsW:∀ {W:World},Ext w9 W→eLs.R (fun k=>S k∧k<w9.heap.size) W s n.ls:=fun e=>ER.ext eLs (ER.lt eLs (hs.ext x9)) e
 have hlW:∀ {W:World},Ext w9 W→eI.R (fun k=>S k∧k<w9.heap.size) W vl (pInts (inL n o)):=fun e=>ER.ext eI (ER.lt eI (ER.ext eI hl4 x49)) e
 have hiW:∀ {W:World},Ext w9 W→eM.R (fun k=>S k∧k<w9.heap.size) W vi (invM (nwOf n o).gA):=fun e=>ER.ext eM (ER.lt eM (ER.ext eM hi x79)) e
 have hik:mk_ 87381 (invM (nwOf n o).gA):=by
  have:=Ay4 (n:=6) (Az1 ok) (by decide) (by rw [I6];exact hB6)
  rwa [bd216] at this
 rw [hnb] at k2
 generalize hG:(fun b=>tab n.ls.length ((nwOf n o).fl ((nwOf n o).th b)))=G
 have hGl:∀ b,(G b).length=n.ls.length:=fun b=>by rw [←hG];exact A1 ..
 refine .mid (α:=Value) (fun v=>[(2,.pointer (some ⟨b2,0,none⟩)),(11,v)]) (fun v W=>Ext w9 W∧OwnL eV 42 w9.heap.size S W v ((List.range (nwOf n o).B).map G)) ?_ ?_
 ·refine .seq (.region (.fa F8 rfl rfl (.ld A7 rfl rfl k2 rfl (.mv rfl rfl (.nil ?_)))))
  refine .block (.loop (α:=Nat×Value) (fun y=>[(2,.pointer (some ⟨b2,0,none⟩)),(10,.func (.func 142) #[] #[.pointer (some ⟨b2,0,none⟩),.pointer (some ⟨b6,0,none⟩),.pointer (some ⟨b9,0,none⟩)]),(11,y.2),(44,.int .i64 ((nwOf n o).B:Nat)),(45,.int .i64 (y.1:Nat))]) (fun y W=>Ext w9 W∧y.1≤(nwOf n o).B∧OwnL eV 42 w9.heap.size S W y.2 ((List.range y.1).map G)) (fun y=>(nwOf n o).B-y.1) (0,.slice none 0 0) ?_ ?_ ?_)
  ·exact lkA rfl
  ·exact ⟨Ext.refl _,Nat.zero_le _,OwnL.nil⟩
  rintro ⟨b,v⟩ W ⟨hW,hbB,hown⟩
  replace hW:Ext w9 W:=hW
  replace hbB:b≤(nwOf n o).B:=hbB
  replace hown:OwnL eV 42 w9.heap.size S W v ((List.range b).map G):=hown
  have hWs:=hW.size
  refine .seq (.region ?_)
  rcases Nat.lt_or_ge b (nwOf n o).B with hlt | hge
  rotate_left
  ·refine .lssF rfl rfl rfl (by omega) (.nil (.seq (.condF rfl (.exit ?_))))
   have:b=(nwOf n o).B:=by omega
   subst this
   exact ⟨rfl,v,lkA rfl,hW,hown⟩
  obtain ⟨es,ho1,_⟩:=id hown
  have hT:∀ k,S k∧k<w9.heap.size→S k∧v.ownBlock≠some k:=fun k h=>⟨h.1,fun e=>by have:=(ho1.lt k e).1;have:=h.2;omega⟩
  have upT:Up (fun k=>S k∧v.ownBlock≠some k) W:=fun k hk=>⟨up k (by omega),fun e=>by have:=(ho1.lt k e).2;omega⟩
  refine .lssT rfl rfl rfl (by omega) (.nil (.seq (.condT rfl (.skip (.seq (.block (.seq (.region (.mv rfl rfl (.asg rfl rfl (.nil (.region (.mv rfl rfl (.mv rfl rfl (.mv rfl rfl ?_)))))))))))))))
  refine .callv [.int .i64 (b:Nat)] rfl rfl E_col rfl (col_c (S:=fun k=>S k∧v.ownBlock≠some k) (b:=b) upT ok (k2.ext hW) (eLs.mono (fun k _ h=>hT k h) (hsW hW)) (k6.ext hW) (eI.mono (fun k _ h=>hT k h) (hlW hW)) (k9.ext hW) (eM.mono (fun k _ h=>hT k h) (hiW hW)) hik (by decide) (by decide)) fun vc W1 f1 hc=>?_
  have hc:eV.R (fun k=>S k∧v.ownBlock≠some k) W1 vc (G b):=by rw [←hG];exact hc
  obtain ⟨ac,cc,hvc,_⟩:=RL.len hc
  rw [hGl] at hvc
  subst hvc
  refine .bsl _ rfl rfl Au8 fun W2 by_ ny=>?_
  obtain ⟨ey,ky,hby,hsy⟩:=ny
  have f2:=f1.trans ey
  have hW2:=hW.trans f2
  refine .gv rfl rfl (AF6 (E:=eV) (base:=w9.heap.size) (n:=G b) (e:=.slice ac n.ls.length cc) (by decide) un_M AL4 rfl rfl rfl (hown.ext f2) ky (ER.ext eV hc ey) (by simp;omega) (by decide) hW2.size) ?_
  rintro v8 W8 ⟨ho8,hg8⟩
  refine .asg rfl rfl (.nil (.region (.add rfl rfl rfl (.mv rfl rfl (.nil ?_)))))
  rw [wI (by omega)]
  refine ⟨rfl,(b+1,v8),lkA rfl,⟨(hown.ext f2).below hg8 hW2 hW2.size,hlt,?_⟩,by show (nwOf n o).B-(b+1)<(nwOf n o).B-b;omega⟩
  show OwnL eV 42 w9.heap.size S W8 v8 ((List.range (b+1)).map G)
  rw [List.range_succ,List.map_append]
  exact ho8
 rintro v W ⟨hW,hown⟩
 have hcol:eM.R S W v (tabM (nwOf n o).B n.ls.length fun b k=>(nwOf n o).hf k b):=by
  have:=hown.toR (S:=S) (hsz:=by decide) (fun k hk=>up k (by omega)) (fun _ h=>h)
  rw [←hG] at this
  exact this
 have hWs:=hW.size
 refine .seq (.region (.mv rfl rfl (.fa L6 rfl rfl (.ld T6 rfl rfl (k2.ext hW) rfl (.lenR P8 rfl rfl (hsW hW) ?_)))))
 refine .call _ rfl Aq4 rfl (Am3 (up.ext (x9.trans hW).size) hcol (by omega) (by omega)) fun vt W1 f1 ht=>.asg rfl rfl (.asg rfl rfl (.nil (.ret ?_)))
 exact .plain [_,_] Tryz.results71 ⟨rfl,rfl,trivial⟩ ⟨(x9.trans hW).trans f1,_,_,rfl,ht,by rw [hE]⟩
open Classical in
noncomputable def btE (n:NtV) (o:List Int) (a b:Int):Int:=if conE n o a b≠0 then conE n o a b else if conB n o a b=true then 0 else 8
def btV (n:NtV) (o:List Int) (a b:Nat):List QV:=tab n.ls.length fun k=>(nwOf n o).hf k a-(nwOf n o).hf k b
theorem AX7:Ent Tryz.prog 149:=A0 Tryz.func149 (by kernel_rfl) rfl
theorem AX0 {S:Nat→Prop} {w:World} {vn vo:Value} {n:NtV} {o:List Int} {a b:Int} (up:Up S w) (hn:eN.R S w vn n) (ho:eI.R S w vo o) :
  CR Tryz.prog 149 #[vn,vo,.int .i64 a,.int .i64 b] w (Two (eV.at S (if btE n o a b=0 then btV n o a.toNat b.toNat else [])) (Is (.int .i64 (btE n o a b)))):=by
 have hvn:=shpA (E:=eN) rfl hn
 refine enter Tryz.func149 rfl Tryz.ntmps149 rfl ?_
 refine .seq (.region (.box rfl rfl fun w1 b4 n1=>.asg rfl rfl (.asg rfl rfl (.nil ?_))))
 obtain ⟨e1,k4,hb4,hs1⟩:=n1
 refine .seq (.region (.ldA ty_N rfl rfl k4 (eN.csz hn) (.mv rfl rfl (.mv rfl rfl (.mv rfl rfl ?_)))))
 rw [←hvn]
 refine .call _ rfl AM4 rfl (AL2 (up.ext e1.size) (hn.ext e1) (ho.ext e1)) fun v2 w2 e2 h2=>?_
 obtain ⟨vb,ve,rfl,hb,he⟩:=h2
 replace hb:vb=.bool (conB n o a b):=hb
 replace he:ve=.int .i64 (conE n o a b):=he
 subst hb;subst he
 have x2:=e1.trans e2
 refine .mv rfl rfl (.ext rfl rfl rfl (.ext rfl rfl rfl (.asg rfl rfl (.asg rfl rfl (.nil (.seq (.seq (.region (.mv rfl rfl ?_)))))))))
 by_cases hE:conE n o a b=0
 rotate_left
 ·have hb:btE n o a b=conE n o a b:=by unfold btE;rw [if_pos hE]
  refine .neqT rfl rfl rfl hE (.nil (.condT rfl (.seq (.region (.mv rfl rfl (.asg rfl rfl (.asg rfl rfl (.nil (.ret ?_)))))))))
  refine .plain [_,_] Tryz.results149 ⟨rfl,rfl,trivial⟩ ⟨x2,_,_,rfl,?_,by rw [hb];rfl⟩
  rw [if_neg (by rw [hb];exact hE)];exact RL.nil
 refine .neqF rfl rfl rfl hE (.nil (.condF rfl (.skip (.seq (.seq (.region (.mv rfl rfl (.not_ rfl rfl (.nil ?_)))))))))
 by_cases hC:conB n o a b=true
 rotate_left
 ·have hb:btE n o a b=8:=by unfold btE;rw [if_neg (by simpa using hE),if_neg hC]
  rw [Bool.not_eq_true] at hC
  rw [hC]
  refine .condT rfl (.seq (.region (.asg rfl rfl (.asg rfl rfl (.nil (.ret ?_))))))
  refine .plain [_,_] Tryz.results149 ⟨rfl,rfl,trivial⟩ ⟨x2,_,_,rfl,?_,by rw [hb]⟩
  rw [if_neg (by rw [hb];decide)];exact RL.nil
 have hb:btE n o a b=0:=by unfold btE;rw [if_neg (by simpa using hE),if_pos hC]
 rw [hC,if_pos hb]
 obtain ⟨hO,hA,hBb⟩:=conE_ok hE
 have ok:=P9 hO
 have hB6:=ok.b6
 have hM10:n.ls.length≤10:=ok.m
 have hnb:=ok.b
 obtain ⟨a',rfl⟩:∃ a':Nat,a=a':=⟨a.toNat,by have:=hA.1;omega⟩
 obtain ⟨b',rfl⟩:∃ b':Nat,b=b':=⟨b.toNat,by have:=hBb.1;omega⟩
 have haB:a'<(nwOf n o).B:=by have:=hA.2;omega
 have hbB:b'<(nwOf n o).B:=by have:=hBb.2;omega
 refine .condF rfl (.skip (.seq (.region (.ldA ty_N rfl rfl (k4.ext e2) (eN.csz hn) (.mv rfl rfl ?_)))))
 rw [←hvn]
 refine .call _ rfl M1 rfl (L8 (up.ext x2.size) (hn.ext x2) (ho.ext x2)) fun v3 w3 e3 h3=>?_
 obtain ⟨vm,ve,rfl,hm,he⟩:=h3
 replace he:ve=.int .i64 (outE n o):=he
 subst he
 rw [if_pos hO] at hm
 have x3:=x2.trans e3
 refine .mv rfl rfl (.ext rfl rfl rfl (.ext rfl rfl rfl (.asg rfl rfl (.asg rfl rfl (.nil (.seq (.seq (.region (.mv rfl rfl (.neqF rfl rfl rfl hO (.nil (.condF rfl (.skip (.seq (.region (.mv rfl rfl (.lenR un_M rfl rfl hm ?_)))))))))))))))))
 rw [A2]
 refine .make_ _ _ un_V K6 rfl (by decide) rfl rfl rfl (Nat.le_refl _) (by omega) (by omega) fun w4 h n4=>.asg rfl rfl (.nil ?_)
 have f4:FB eQ 32 S w4 h (List.replicate n.ls.length q0):=FB.made n4 zq_R
 obtain ⟨e4,_,hh,hs4⟩:=n4
 have hmW:∀ {W:World},Below w3.heap.size w3 W→eM.R (fun k=>S k∧k<w3.heap.size) W vm (tabM n.ls.length (nwOf n o).B (nwOf n o).hf):=fun hB=>eM.keep (fun k c t f hk hh=>(hB.block k hk.2).trans hh) (ER.lt eM hm)
 refine .seq (.seq (.region (.mv rfl rfl (.lenR un_M rfl rfl (hmW e4) (.mv rfl rfl (.nil ?_))))))
 rw [A2]
 generalize hG:(fun k=>qc ((nwOf n o).hf k a'-(nwOf n o).hf k b'))=G
 refine .block (.loop (α:=Nat) (fun i=>[(2,.int .i64 (a':Nat)),(3,.int .i64 (b':Nat)),(13,slB n.ls.length h),(41,vm),(42,.int .i64 (n.ls.length:Nat)),(43,.int .i64 (i:Nat))]) (fun i W=>Below w3.heap.size w3 W∧i≤n.ls.length∧FB eQ 32 S W h (fil n.ls.length i G q0)) (fun i=>n.ls.length-i) 0 ?_ ?_ ?_)
 ·exact lkA rfl
 ·exact ⟨e4,Nat.zero_le _,by rw [K8];exact f4⟩
 rintro i W ⟨hW,hi,fb⟩
 have hWs:=hW.size
 have hhl:=fb.lt
 refine .seq (.region ?_)
 rcases Nat.lt_or_ge i n.ls.length with hlt | hge
 rotate_left
 ·refine .lssF rfl rfl rfl (by omega) (.nil (.seq (.condF rfl (.exit (.seq (.region (.mv rfl rfl (.asg rfl rfl (.asg rfl rfl (.nil (.ret ?_)))))))))))
  have:i=n.ls.length:=by omega
  subst this
  rw [Y4] at fb
  refine .plain [_,_] Tryz.results149 ⟨rfl,rfl,trivial⟩ ⟨x3.trans hW,_,_,rfl,?_,by rw [hb]⟩
  have:=fb.toR (hsz:=by decide) (c:=n.ls.length) (up h (by have:=x3.size;omega)) (by simp) (by simp;omega)
  rw [List.length_map,List.length_range,←hG] at this
  exact this
 refine .lssT rfl rfl rfl (by omega) (.nil (.seq (.condT rfl (.skip (.seq (.block (.seq (.region (.mv rfl rfl (.ixN (i:=i) un_M ty_V rfl rfl (hmW hW) rfl (D3 hlt) fun q hq=>.ldE (E:=eV) ty_V rfl rfl hq fun vr hr=>.asg rfl rfl (.asg rfl rfl (.nil ?_))))))))))))
 have upT:∀ {W':World},Ext W W'→Up (fun k=>S k∧k≠h) W':=fun e k hk=>⟨up k (by have:=e.size;have:=x3.size;omega),by have:=e.size;omega⟩
 have hT:∀ k,S k∧k<w3.heap.size→S k∧k≠h:=fun k hk=>⟨hk.1,by have:=hk.2;omega⟩
 refine .par follows 11 [.inl (slB n.ls.length h),.inl (.int .i64 (i:Nat)),.inl vr,.inl (.int .i64 (a':Nat)),.inr (Ptr eQ (fun k=>S k∧k<w3.heap.size) (qc ((nwOf n o).hf i a'))),.inr (eQ.at (fun k=>S k∧k<w3.heap.size) (qc ((nwOf n o).hf i a'))),.inl vr,.inl (.int .i64 (b':Nat)),.inr (Ptr eQ (fun k=>S k∧k<w3.heap.size) (qc ((nwOf n o).hf i b'))),.inr (eQ.at (fun k=>S k∧k<w3.heap.size) (qc ((nwOf n o).hf i b'))),.inr (eQ.at (fun k=>S k∧k≠h) (G i))]
  [[],[],[],[],[(50,2),(51,3)],[(52,4)],[],[],[(54,6),(55,7)],[(56,8)],[(53,5),(57,9)]] (by kernel_rfl) ⟨
  fun w e=>(v_mv rfl).ob,fun w e=>(v_mv rfl).ob,fun w e=>(v_mv rfl).ob,fun w e=>(v_mv rfl).ob,
  fun w e=>D6 (i:=a') un_V ty_Q rfl (ER.ext eV hr e) rfl (G0 haB),fun w e x hx=>K5 ty_Q rfl hx,
  fun w e=>(v_mv rfl).ob,fun w e=>(v_mv rfl).ob,
  fun w e=>D6 (i:=b') un_V ty_Q rfl (ER.ext eV hr e) rfl (G0 hbB),fun w e x hx=>K5 ty_Q rfl hx,
  fun w e x hx y hy=>by
   have:=V3 (L:=174764) (upT e) (eQ.mono (fun k _ h=>hT k h) hx) (eQ.mono (fun k _ h=>hT k h) hy) (At9 ok i a').toOk (At9 ok i b').toOk (by decide) (by decide)
   rw [B7,B7] at this
   rw [←hG]
   exact (A3 _ V6 rfl this).ob (A9 _ _ _),trivial⟩ ?_
 intro W1 f1 _ _ _ _ _ _ _ _ y hy
 refine .ixB (i:=i) un_V ty_Q rfl rfl rfl hlt (.storeF (E:=eQ) (i:=i) (by decide) ty_Q rfl rfl (fb.ext f1) rfl (by rw [I2];exact hlt) (Nat.zero_add _) hy fun W2 f2 u2=>.nil ?_)
 rw [P4] at f2
 refine .region (.add rfl rfl rfl (.mv rfl rfl (.nil ?_)))
 rw [wI (by omega)]
 exact ⟨rfl,i+1,lkA rfl,⟨u2.below (hW.trans (f1.mono hWs)) (by omega),hlt,f2⟩,by show n.ls.length-(i+1)<n.ls.length-i;omega⟩
open Classical in
noncomputable def sfE (n:NtV) (o:List Int) (l:Nat):Int:=if outE n o≠0 then outE n o else if (l:Int)≤n.b then 0 else 5
theorem As7 {n:NtV} {o:List Int} {l:Nat} (h:sfE n o l=0):outE n o=0∧(l:Int)≤n.b:=by
 unfold sfE at h
 split at h
 ·exact absurd h (by assumption)
 ·split at h
  ·exact ⟨Classical.not_not.1 (by assumption),by assumption⟩
  ·cases h
theorem Ae8:Ent Tryz.prog 77:=A0 Tryz.func77 (by kernel_rfl) rfl
theorem Ae0 {S:Nat→Prop} {w:World} {vn vo vx:Value} {n:NtV} {o:List Int} {x:List QV} {L:Nat} (up:Up S w) (hn:eN.R S w vn n) (ho:eI.R S w vo o) (hx:eV.R S w vx x) (hkx:vk L x) (hL1:1≤L) (hL:L≤1000000) :
  CR Tryz.prog 77 #[vn,vo,vx] w (Two (eV.at S (if sfE n o x.length=0 then tab n.ls.length fun k=>sumN x.length fun b=>(nwOf n o).hf k b*rv x b else [])) (Is (.int .i64 (sfE n o x.length)))):=by
 obtain ⟨s,rfl,hs,hb⟩:=hn
 have hn:eN.R S w (.agg #[.int .i64 n.b,s]) n:=⟨s,rfl,hs,hb⟩
 refine enter Tryz.func77 rfl Tryz.ntmps77 rfl ?_
 refine .seq (.region (.box rfl rfl fun w1 b3 n1=>.asg rfl rfl (.asg rfl rfl (.nil ?_))))
 obtain ⟨e1,k3,hb3,hs1⟩:=n1
 refine .seq (.region (.ldA ty_N rfl rfl k3 rfl (.mv rfl rfl ?_)))
 refine .call _ rfl M1 rfl (L8 (up.ext e1.size) (hn.ext e1) (ho.ext e1)) fun v2 w2 e2 h2=>?_
 obtain ⟨vm,ve,rfl,hm,he⟩:=h2
 replace he:ve=.int .i64 (outE n o):=he
 subst he
 have x2:=e1.trans e2
 refine .mv rfl rfl (.ext rfl rfl rfl (.ext rfl rfl rfl (.asg rfl rfl (.asg rfl rfl (.nil (.seq (.seq (.region (.mv rfl rfl ?_)))))))))
 by_cases hE:outE n o=0
 rotate_left
 ·have hb:sfE n o x.length=outE n o:=by unfold sfE;rw [if_pos hE]
  refine .neqT rfl rfl rfl hE (.nil (.condT rfl (.seq (.region (.mv rfl rfl (.asg rfl rfl (.asg rfl rfl (.nil (.ret ?_)))))))))
  refine .plain [_,_] Tryz.results77 ⟨rfl,rfl,trivial⟩ ⟨x2,_,_,rfl,?_,by rw [hb];rfl⟩
  rw [if_neg (by rw [hb];exact hE)];exact RL.nil
 have ok:=P9 hE
 rw [if_pos hE] at hm
 have hB6:=ok.b6
 have hM10:n.ls.length≤10:=ok.m
 have hnb:=ok.b
 refine .neqF rfl rfl rfl hE (.nil (.condF rfl (.skip (.seq (.seq (.region (.mv rfl rfl (.lenR un_V rfl rfl (hx.ext x2) (.fa F8 rfl rfl (.ld A7 rfl rfl (k3.ext e2) rfl ?_))))))))))
 by_cases hl:(x.length:Int)≤n.b
 rotate_left
 ·have hb:sfE n o x.length=5:=by unfold sfE;rw [if_neg (by simpa using hE),if_neg hl]
  refine .gtrT rfl rfl rfl (by omega) (.nil (.condT rfl (.seq (.region (.asg rfl rfl (.asg rfl rfl (.nil (.ret ?_))))))))
  refine .plain [_,_] Tryz.results77 ⟨rfl,rfl,trivial⟩ ⟨x2,_,_,rfl,?_,by rw [hb]⟩
  rw [if_neg (by rw [hb];decide)];exact RL.nil
 have hb:sfE n o x.length=0:=by unfold sfE;rw [if_neg (by simpa using hE),if_pos hl]
 rw [if_pos hb]
 refine .gtrF rfl rfl rfl (by omega) (.nil (.condF rfl (.skip (.seq (.region (.mv rfl rfl (.mv rfl rfl ?_)))))))
 refine .call _ rfl AQ7 rfl (AO8 (L:=1000000) (up.ext x2.size) hm (hx.ext x2) ((hf_mk ok _ _).mono (by decide)) (hkx.mono hL) (by decide) (by decide) (by rw [A2];omega) (by omega)) fun v3 w3 e3 h3=>.asg rfl rfl (.asg rfl rfl (.nil (.ret ?_)))
 refine .plain [_,_] Tryz.results77 ⟨rfl,rfl,trivial⟩ ⟨x2.trans e3,_,_,rfl,?_,by rw [hb]⟩
 have e:(tab (tabM n.ls.length (nwOf n o).B (nwOf n o).hf).length fun i=>sumN x.length fun k=>rm (tabM n.ls.length (nwOf n o).B (nwOf n o).hf) i k*rv x k)=tab n.ls.length fun k=>sumN x.length fun b=>(nwOf n o).hf k b*rv x b:=by
  rw [A2]
  exact D5 fun k hk=>A4 fun b hb=>by rw [AG9,if_pos ⟨hk,by omega⟩]
 rw [e] at h3
 exact h3
end Go.Proofs.YteghbhdniimjbaaGreat

namespace Go.Kx
open Go Go.RowKit
/-- what flows out, by lines in service -/
def Nw.offM (n:Nw) (f:Nat→Rat) (b:Nat):Rat:=n.off (fun k=>if n.g k=0 then 0 else f k) b
end Go.Kx
namespace Go.Proofs.YteghbhdniimjbaaGreat
open Go Go.Kx Go.RowKit
end Go.Proofs.YteghbhdniimjbaaGreat
