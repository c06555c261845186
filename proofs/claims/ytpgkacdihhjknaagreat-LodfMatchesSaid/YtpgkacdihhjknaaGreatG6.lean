/-
  What the claim leans on.
-/
import Derived.Test.YtpgkacdihhjknaaGreatG5
set_option linter.unusedVariables false
set_option linter.unusedSimpArgs false
set_option linter.unnecessarySimpa false
namespace Go.Proofs.YtpgkacdihhjknaaGreat
open Go Go.RowKit Tryz
set_option maxRecDepth 8000
variable {l:List Int}{L i j r cap:Nat}{va vb vk_ vn:Value}{y a:Int}{q:QV}{α:Type}
theorem sg_neg(n:Bool)(v:Nat):sg (!n) v = -(sg n v):=by cases n<;>simp[sg]
theorem sg_mulX(m n:Bool)(u v:Nat):sg (m != n) (u*v)=sg m u*sg n v:=by cases m<;>cases n<;>simp[sg,fA,fC]
theorem AX9{A B K:Nat}(h1:(hds A).length<=K)(h2:(hds B).length<=K):(hds (A+B)).length<=K+1:=by have a1:=Ag5 A;have a2:=Ag5 B;have b1:65536 ^ (hds A).length<=65536 ^ K:=aQ (by omega) h1;have b2:65536 ^ (hds B).length<=65536 ^ K:=aQ (by omega) h2;exact R0 (by rw[aN];omega)
theorem BW8(A B:Nat):(hds (A*B)).length<=(hds A).length+(hds B).length:=R0 (by rw[bG];exact dF (Ag5 A) (Ag5 B))
theorem sign_sg{n:Bool}{v:Nat}(h:v≠0):(sg n v).sign=if n then -1 else 1:=by
 cases n
 ·simp only[sg,gD,if_false];rw[bZ (by omega)]
 ·simp only[sg,if_true];rw[cC (by omega)]
theorem AA3(z:ZV):A6 z=sg z.neg (val z.w):=rfl
theorem Bd4{l:List Nat}(h:l.length<=L):(hds (val l)).length<=2*L\/¬ dig l:=by
 by_cases hd:dig l
 ·left;have h1:=AH6 (BC5 hd);rw[Ax8,Ag4] at h1;have:=R0 h1;omega
 ·exact .inr hd
theorem K3{S:Nat->Prop}{w:World}{v:Value}{l:List Nat}(up:Up S w)(h:eW.R S w v l)(hl:l.length<=1000000000):CR prog 198 #[v] w (eHs.at S (hds (val l))):=by have:=AW8 up h (by omega);rwa [Ac9 (BC5 (K7 h)),Ax8] at this
theorem AH1{S:Nat->Prop}{w:World}{v:Value}{l:List Nat}(h:eW.R S w v l)(hl:l.length<=1000000000):(hds (val l)).length<=2000000000:=by
 rcases Bd4 hl with h' | h'
 ·exact h'
 ·exact absurd (K7 h) h'
theorem O3:Ent prog 183:=en func183
theorem N7{S:Nat->Prop}{w:World}{v:Value}{a:ZV}(up:Up S w)(h:eZ.R S w v a)(hl:a.w.length<=1000000000):CR prog 183 #[v] w (Is (iW (A6 a).sign)):=by
 obtain⟨s,rfl,hs⟩:=h;refine enter func183 O ntmps183 O (.sr (.box O O λw1 b1 n1=>.an O O ?_));obtain⟨e1,k1,hb1,hs1⟩:=n1;refine .seq (.sr (.fa G9 O O (.ld L2 O O k1 O (.call _ O F8 O (K3 (up.ext e1.size) (hs.ext e1) hl) λv2 w2 e2 h2=>.lenR N1 O O h2 ?_))));have x2:=e1.trans e2;by_cases h0:val a.w=0
 ·rw[h0,U6];refine .eqlT O O O O (.nil (.condT O (.sr (.an O O (.ret (.plain [_] results183 ⟨rfl,trivial⟩ ⟨x2,isI ?_⟩))))));rw[AA3,h0];cases a.neg<;>rfl
 ·have hne:(hds (val a.w)).length≠0:=λe=>h0 (AD6.1 (List.length_eq_zero_iff.1 e));refine .eqlF O O O (by omega) (.nil (.condF O (.skip (.seq (.sr (.fa J5 O O (.ld D6 O O (k1.ext e2) O (.nil ?_))))))));have hz:(A6 a).sign=if a.neg then -1 else 1:=by rw[AA3];exact sign_sg h0
  cases hn:a.neg with
  | true =>
   rw[hn] at hz;refine .condT O (.sr (.an O O (.ret ?_)));exact .plain [_] results183 ⟨rfl,trivial⟩ ⟨x2,isI (by rw[hz];rfl)⟩
  | false =>
   rw[hn] at hz;refine .condF O (.skip (.sr (.an O O (.ret ?_))));exact .plain [_] results183 ⟨rfl,trivial⟩ ⟨x2,isI (by rw[hz];rfl)⟩
theorem As7:Ent prog 187:=en func187
theorem Ar2{S:Nat->Prop}{w:World}{v:Value}{a:ZV}(up:Up S w)(h:eZ.R S w v a)(hl:a.w.length<=1000000000):CR prog 187 #[v] w (eZ.at S (zc (-A6 a))):=by obtain⟨s,rfl,hs⟩:=h;refine enter func187 O ntmps187 O (.sr (.box O O λw1 b1 n1=>.alloc O F4 λw2 b2 n2=>.nil ?_));obtain⟨e1,k1,hb1,hs1⟩:=n1;obtain⟨e2,k2,hb2,hs2⟩:=n2;have x2:=e1.trans e2;have k1:=k1.ext e2;have hS2:¬ Sx S w.heap.size w2.heap.size b2:=Sx.no (by omega) (by omega);have up2:Up (Sx S w.heap.size w2.heap.size) w2:=Sx.up up (aA _) x2.size;have hs2':=(ER.par eW hs w2.heap.size).ext x2;refine .seq ?_;refine .par follows 6 [.inl _,.inl (.bool a.neg),.inl _,.inl _,.inl s,.inr (eHs.at (Sx S w.heap.size w2.heap.size) (hds (val a.w)))] [[],[(3,0)],[(4,1)],[],[(6,3)],[(7,4)]] (by kernel_rfl) ⟨fao J5 O,λw e=>(E2 D6 O (k1.ext e) O).ob,λw e=>(BJ1 O).ob,fao G9 O,λw e=>(E2 L2 O (k1.ext e) O).ob,λw e=>(A4 _ F8 O (K3 (up2.ext e.size) (hs2'.ext e) hl)).oa,trivial⟩ ?_;intro w3 e3 x5 hx5;have hlen:=AH1 hs hl;refine .call _ O P3 O (O7 (up2.ext e3.size) hx5 (by omega)) λv4 w4 e4 h4=>?_;rw[E0,sg_neg,<-AA3] at h4;refine .storeA (E:=eZ) B6 O O ((k2.ext e3).ext e4) O O h4 hS2 λw5 k5 u5 h5=>.nil (.ret ?_);exact .cell results187 O B6 O O k5 h5 ⟨u5.below ((x2.trans e3).trans e4) (by omega),h5.out⟩
theorem BZ9:Ent prog 186:=en func186
theorem BV4{S:Nat->Prop}{w:World}{v:Value}{a:ZV}(up:Up S w)(h:eZ.R S w v a)(hl:a.w.length<=1000000000):CR prog 186 #[v] w (eZ.at S (zc (val a.w))):=by obtain⟨s,rfl,hs⟩:=h;refine enter func186 O ntmps186 O (.sr (.box O O λw1 b1 n1=>.alloc O F4 λw2 b2 n2=>.nil ?_));obtain⟨e1,k1,hb1,hs1⟩:=n1;obtain⟨e2,k2,hb2,hs2⟩:=n2;have x2:=e1.trans e2;have k1:=k1.ext e2;have hS2:¬ Sx S w.heap.size w2.heap.size b2:=Sx.no (by omega) (by omega);have up2:Up (Sx S w.heap.size w2.heap.size) w2:=Sx.up up (aA _) x2.size;have hs2':=(ER.par eW hs w2.heap.size).ext x2;refine .sr (.fa G9 O O (.ld L2 O O k1 O (.call _ O F8 O (K3 up2 hs2' hl) λv3 w3 e3 h3=>?_)));have hlen:=AH1 hs hl;refine .call _ O P3 O (O7 (up2.ext e3.size) h3 (by omega)) λv4 w4 e4 h4=>?_;rw[E0] at h4;refine .storeA (E:=eZ) B6 O O ((k2.ext e3).ext e4) O O h4 hS2 λw5 k5 u5 h5=>.nil (.ret ?_);exact .cell results186 O B6 O O k5 h5 ⟨u5.below ((x2.trans e3).trans e4) (by omega),h5.out⟩
theorem AG7:Ent prog 184:=en func184
theorem AF7{S:Nat->Prop}{w:World}{a b:ZV}(up:Up S w)(ha:eZ.R S w va a)(hb:eZ.R S w vb b)(hla:a.w.length<=1000000000)(hlb:b.w.length<=1000000000):CR prog 184 #[va,vb] w (eZ.at S (zc (A6 a*A6 b))):=by obtain⟨s,rfl,hs⟩:=ha;obtain⟨t,rfl,ht⟩:=hb;refine enter func184 O ntmps184 O ?_;refine .sr (.box O O λw1 b2 n1=>.box O O λw2 b3 n2=>.alloc O F4 λw3 b4 n3=>.nil ?_);obtain⟨e1,k2,hb2,hs1⟩:=n1;obtain⟨e2,k3,hb3,hs2⟩:=n2;obtain⟨e3,k4,hb4,hs3⟩:=n3;have x3:=(e1.trans e2).trans e3;have k2:=(k2.ext e2).ext e3;have k3:=k3.ext e3;have hS4:¬ Sx S w.heap.size w3.heap.size b4:=Sx.no (by omega) (by omega);have up3:Up (Sx S w.heap.size w3.heap.size) w3:=Sx.up up (aA _) x3.size;have hs':=(ER.par eW hs w3.heap.size).ext x3;have ht':=(ER.par eW ht w3.heap.size).ext x3;have l1:=AH1 hs hla;have l2:=AH1 ht hlb;refine .seq ?_;refine .par follows 12 [.inl _,.inl (.bool a.neg),.inl _,.inl (.bool b.neg),.inl (.bool (a.neg != b.neg)),.inl _,.inl s,.inr (eHs.at (Sx S w.heap.size w3.heap.size) (hds (val a.w))),.inl _,.inl t,.inr (eHs.at (Sx S w.heap.size w3.heap.size) (hds (val b.w))),.inr (eHs.at (Sx S w.heap.size w3.heap.size) (hds (B3 (hds (val a.w))*B3 (hds (val b.w)))))] [[],[(5,0)],[],[(7,2)],[(6,1),(8,3)],[],[(10,5)],[(11,6)],[],[(13,8)],[(14,9)],[(12,7),(15,10)]] (by kernel_rfl) ⟨fao J5 O,λw e=>(E2 D6 O (k2.ext e) O).ob,fao J5 O,λw e=>(E2 D6 O (k3.ext e) O).ob,λw e=>(BM2 AL7 O O).ob,fao G9 O,λw e=>(E2 L2 O (k2.ext e) O).ob,λw e=>(A4 _ F8 O (K3 (up3.ext e.size) (hs'.ext e) hla)).oa,fao G9 O,λw e=>(E2 L2 O (k3.ext e) O).ob,λw e=>(A4 _ F8 O (K3 (up3.ext e.size) (ht'.ext e) hlb)).oa,λw e x hx y hy=>(A4 _ BZ5 O (BV0 (up3.ext e.size) hx hy (by omega) (by omega))).oa,trivial⟩ ?_;intro w4 e4 x7 hx7 x10 hx10 v5 h5;rw[E0,E0] at h5;have l3:=BW8 (val a.w) (val b.w);have e45:=e4;refine .call _ O P3 O (O7 (up3.ext e45.size) h5 (by omega)) λv6 w6 e6 h6=>?_;rw[E0,sg_mulX,<-AA3,<-AA3] at h6;have e46:=e45.trans e6;refine .storeA (E:=eZ) B6 O O (k4.ext e46) O O h6 hS4 λw7 k7 u7 h7=>.nil (.ret ?_);exact .cell results184 O B6 O O k7 h7 ⟨u7.below (x3.trans e46) (by omega),h7.out⟩
theorem BZ8:Ent prog 188:=en func188
theorem BV3{S:Nat->Prop}{w:World}{a b:ZV}(up:Up S w)(ha:eZ.R S w va a)(hb:eZ.R S w vb b)(hla:a.w.length<=1000000000)(hlb:b.w.length<=1000000000):CR prog 188 #[va,vb] w (eZ.at S (zc (A6 a+A6 b))):=by
 obtain⟨s,rfl,hs⟩:=ha;obtain⟨t,rfl,ht⟩:=hb;refine enter func188 O ntmps188 O (.sr (.box O O λw1 b2 n1=>.box O O λw2 b3 n2=>.alloc O F4 λw3 b4 n3=>.nil ?_));obtain⟨e1,k2,hb2,hs1⟩:=n1;obtain⟨e2,k3,hb3,hs2⟩:=n2;obtain⟨e3,k4,hb4,hs3⟩:=n3;have x3:=(e1.trans e2).trans e3;have k2:=(k2.ext e2).ext e3;have k3:=k3.ext e3;have hS4:¬ Sx S w.heap.size w3.heap.size b4:=Sx.no (by omega) (by omega);have up3:Up (Sx S w.heap.size w3.heap.size) w3:=Sx.up up (aA _) x3.size;have hs':=(ER.par eW hs w3.heap.size).ext x3;have ht':=(ER.par eW ht w3.heap.size).ext x3;have l1:=AH1 hs hla;have l2:=AH1 ht hlb;have hout:∀ {W:World} {v:Value} {z:ZV},eZ.R (Sx S w.heap.size w3.heap.size) W v z->eZ.R S W v z:=λh=>h.out;generalize hT:Sx S w.heap.size w3.heap.size=T at *;refine .seq ?_;refine .par follows 6 [.inl _,.inl s,.inr (eHs.at T (hds (val a.w))),.inl _,.inl t,.inr (eHs.at T (hds (val b.w)))] [[],[(7,0)],[(8,1)],[],[(10,3)],[(11,4)]] (by kernel_rfl) ⟨fao G9 O,λw e=>(E2 L2 O (k2.ext e) O).ob,λw e=>(A4 _ F8 O (K3 (up3.ext e.size) (hs'.ext e) hla)).oa,fao G9 O,λw e=>(E2 L2 O (k3.ext e) O).ob,λw e=>(A4 _ F8 O (K3 (up3.ext e.size) (ht'.ext e) hlb)).oa,trivial⟩ ?_;intro w4 e4 x hx y hy;refine .asg O O (.an O O ?_);have up4:=up3.ext e4.size;have k2:=k2.ext e4;have k3:=k3.ext e4;have k4:=k4.ext e4;have x4:=x3.trans e4;have eva:=AA3 a;have evb:=AA3 b;generalize val a.w=A at *;generalize val b.w=B at *;refine .seq (.sr (.fa J5 O O (.ld D6 O O k2 O (.fa J5 O O (.ld D6 O O k3 O (.eqlB AL7 O O O (.nil ?_)))))));by_cases hn:a.neg=b.neg
 ·rw[show (a.neg == b.neg)=true by simp[hn]];refine .condT O (.seq ?_);refine .par follows 5 [.inl _,.inl (.bool a.neg),.inl _,.inl _,.inr (eHs.at T (hds (B3 (hds A)+B3 (hds B))))] [[],[(18,0)],[],[],[(20,2),(21,3)]] (by kernel_rfl) ⟨fao J5 O,λw e=>(E2 D6 O (k2.ext e) O).ob,mvo O,mvo O,λw e=>(A4 _ AZ6 O (AX0 (up4.ext e.size) (ER.ext eHs hx e) (ER.ext eHs hy e) (by omega) (by omega))).oa,trivial⟩ ?_;intro w5 e5 z hz;rw[E0,E0] at hz;have l3:=AX9 l1 l2;refine .call _ O P3 O (O7 (up4.ext e5.size) hz (by omega)) λv6 w6 e6 h6=>?_;rw[E0] at h6;have hval:sg a.neg (A+B)=A6 a+A6 b:=by rw[eva,evb,<-hn];cases a.neg<;>simp[sg]<;>omega
  rw[hval] at h6;have e56:=e5.trans e6;refine .storeA (E:=eZ) B6 O O (k4.ext e56) O O h6 hS4 λw7 k7 u7 h7=>.nil (.ret ?_);exact .cell results188 O B6 O O k7 h7 ⟨u7.below (x4.trans e56) (by omega),hout h7⟩
 ·rw[show (a.neg == b.neg)=false by simpa using hn];refine .condF O (.skip (.seq (.sr (.mv O O (.mv O O (.call _ O AZ5 O (AW9 hx hy (by omega) (by omega)) λv5 w5 e5 h5=>?_))))));subst h5;rw[E0,E0];have up5:=up4.ext e5.size;have k2:=k2.ext e5;have k3:=k3.ext e5;have k4:=k4.ext e5;have x5:=x4.trans e5;have hx5:=ER.ext eHs hx e5;have hy5:=ER.ext eHs hy e5;by_cases hge:B<=A
  ·refine .geqT O O O (by unfold AL1;split<;>(try split)<;>omega) (.nil (.condT O (.seq ?_)))
   refine .par follows 5 [.inl _,.inl (.bool a.neg),.inl _,.inl _,.inr (eHs.at T (hds (B3 (hds A)-B3 (hds B))))] [[],[(28,0)],[],[],[(30,2),(31,3)]] (by kernel_rfl) ⟨fao J5 O,λw e=>(E2 D6 O (k2.ext e) O).ob,mvo O,mvo O,λw e=>(A4 _ AN3 O (AM2 (up5.ext e.size) (ER.ext eHs hx5 e) (ER.ext eHs hy5 e) (by omega) (by rw[E0,E0];exact hge))).oa,trivial⟩ ?_;intro w6 e6 z hz;rw[E0,E0] at hz;have l3:(hds (A-B)).length<=2000000000:=aG (R4 (by omega)) l1;refine .call _ O P3 O (O7 (up5.ext e6.size) hz (by omega)) λv7 w7 e7 h7=>?_;rw[E0] at h7;have hval:sg a.neg (A-B)=A6 a+A6 b:=by
    rw[eva,evb]
    cases h1:a.neg<;>cases h2:b.neg<;>rw[h1,h2] at hn<;>first | exact absurd rfl hn | (simp[sg];omega)
   rw[hval] at h7;have e67:=e6.trans e7;refine .storeA (E:=eZ) B6 O O (k4.ext e67) O O h7 hS4 λw8 k8 u8 h8=>.nil (.ret ?_);exact .cell results188 O B6 O O k8 h8 ⟨u8.below (x5.trans e67) (by omega),hout h8⟩
  ·refine .geqF O O O (by unfold AL1;rw[if_pos (by omega)];decide) (.nil (.condF O (.skip (.seq ?_))));refine .par follows 5 [.inl _,.inl (.bool b.neg),.inl _,.inl _,.inr (eHs.at T (hds (B3 (hds B)-B3 (hds A))))] [[],[(34,0)],[],[],[(36,2),(37,3)]] (by kernel_rfl) ⟨fao J5 O,λw e=>(E2 D6 O (k3.ext e) O).ob,mvo O,mvo O,λw e=>(A4 _ AN3 O (AM2 (up5.ext e.size) (ER.ext eHs hy5 e) (ER.ext eHs hx5 e) (by omega) (by rw[E0,E0];omega))).oa,trivial⟩ ?_;intro w6 e6 z hz;rw[E0,E0] at hz;have l3:(hds (B-A)).length<=2000000000:=aG (R4 (by omega)) l2;refine .call _ O P3 O (O7 (up5.ext e6.size) hz (by omega)) λv7 w7 e7 h7=>?_;rw[E0] at h7;have hval:sg b.neg (B-A)=A6 a+A6 b:=by
    rw[eva,evb]
    cases h1:a.neg<;>cases h2:b.neg<;>rw[h1,h2] at hn<;>first | exact absurd rfl hn | (simp[sg];omega)
   rw[hval] at h7;have e67:=e6.trans e7;refine .storeA (E:=eZ) B6 O O (k4.ext e67) O O h7 hS4 λw8 k8 u8 h8=>.nil (.ret ?_);exact .cell results188 O B6 O O k8 h8 ⟨u8.below (x5.trans e67) (by omega),hout h8⟩
theorem By4(a b:Nat):Nat.gcd b (a % b)=Nat.gcd a b:=by rw[dL b (a % b),<-Nat.gcd_rec,dL]
theorem Bp5{a b:ZV}(hs:(A6 a).sign=(A6 b).sign):BD0 (A6 a) (A6 b)=if (A6 a).sign<0 then 0-AL1 (val a.w) (val b.w) else AL1 (val a.w) (val b.w):=by
 have h1:=P8 a;have h2:=P8 b;generalize A6 a=x at *;generalize A6 b=y at *;rw[<-h1,<-h2];rcases fO x 0 with h | h | h
 ·have e:=cC h;rw[e] at hs ⊢;have hy:y<0:=Int.sign_eq_neg_one_iff_neg.1 hs.symm;rw[if_pos (by decide)];unfold BD0 AL1;split<;>split<;>(try split)<;>(try split)<;>omega
 ·subst h;rw[Int.sign_zero] at hs ⊢;have hy:y=0:=Int.sign_eq_zero_iff_zero.1 hs.symm;subst hy;decide
 ·have e:=bZ h;rw[e] at hs ⊢;have hy:0<y:=Int.sign_eq_one_iff_pos.1 hs.symm;rw[if_neg (by decide)];unfold BD0 AL1;split<;>split<;>(try split)<;>(try split)<;>omega
theorem cmpI_ne{x:Int}(hs:x.sign≠y.sign):BD0 x y=if x.sign<y.sign then -1 else 1:=by
 have hx:=fO x 0;have hy:=fO y 0;unfold BD0;rcases hx with h | h | h<;>rcases hy with h' | h' | h'<;>first
  | (rw[cC h,cC h'] at hs;exact absurd O hs)
  | (rw[bZ h,bZ h'] at hs;exact absurd O hs)
  | (rw[h,h'] at hs;exact absurd O hs)
  | (simp only[h,h',cC,bZ,Int.sign_zero];(try split)<;>(try split)<;>(try simp_all)<;>omega)
theorem BZ6:Ent prog 194:=en func194
theorem BV1{S:Nat->Prop}{w:World}{a b:ZV}(up:Up S w)(ha:eZ.R S w va a)(hb:eZ.R S w vb b)(hla:a.w.length<=1000000000)(hlb:b.w.length<=1000000000):CR prog 194 #[va,vb] w (eZ.at S (zc (Nat.gcd (val a.w) (val b.w):Nat))):=by
 obtain⟨s,rfl,hs⟩:=ha;obtain⟨t,rfl,ht⟩:=hb;refine enter func194 O ntmps194 O (.sr (.box O O λw1 b2 n1=>.box O O λw2 b3 n2=>.alloc O F4 λw3 b4 n3=>.nil ?_));obtain⟨e1,k2,hb2,hs1⟩:=n1;obtain⟨e2,k3,hb3,hs2⟩:=n2;obtain⟨e3,k4,hb4,hs3⟩:=n3;have x3:=(e1.trans e2).trans e3;have k2:=(k2.ext e2).ext e3;have k3:=k3.ext e3;have hS4:¬ Sx S w.heap.size w3.heap.size b4:=Sx.no (by omega) (by omega);have up3:Up (Sx S w.heap.size w3.heap.size) w3:=Sx.up up (aA _) x3.size;have hs':=(ER.par eW hs w3.heap.size).ext x3;have ht':=(ER.par eW ht w3.heap.size).ext x3;have l1:=AH1 hs hla;have l2:=AH1 ht hlb;have hout:∀ {W:World} {v:Value} {z:ZV},eZ.R (Sx S w.heap.size w3.heap.size) W v z->eZ.R S W v z:=λh=>h.out;generalize hT:Sx S w.heap.size w3.heap.size=T at *;refine .seq ?_;refine .par follows 6 [.inl _,.inl s,.inr (eHs.at T (hds (val a.w))),.inl _,.inl t,.inr (eHs.at T (hds (val b.w)))] [[],[(9,0)],[(10,1)],[],[(12,3)],[(13,4)]] (by kernel_rfl) ⟨fao G9 O,λw e=>(E2 L2 O (k2.ext e) O).ob,λw e=>(A4 _ F8 O (K3 (up3.ext e.size) (hs'.ext e) hla)).oa,fao G9 O,λw e=>(E2 L2 O (k3.ext e) O).ob,λw e=>(A4 _ F8 O (K3 (up3.ext e.size) (ht'.ext e) hlb)).oa,trivial⟩ ?_;intro w4 e4 x hx y hy;refine .asg O O (.an O O ?_);generalize val a.w=A at *;generalize val b.w=B at *;refine .mid (α:=Value) (λp=>[(4,pW b4),(5,p)]) (λp W=>Ext w4 W/\eHs.R T W p (hds (Nat.gcd A B))) ?_ ?_
 ·refine .block (.loop (α:=(Nat×Nat)×Value×Value) (λp=>[(4,pW b4),(5,p.2.1),(6,p.2.2)])
   (λp W=>Ext w4 W/\eHs.R T W p.2.1 (hds p.1.1)/\eHs.R T W p.2.2 (hds p.1.2)/\(hds p.1.1).length<=2000000000/\(hds p.1.2).length<=2000000000/\Nat.gcd p.1.1 p.1.2=Nat.gcd A B) (λp=>p.1.2) ((A,B),x,y) ?_ ?_ ?_)
  ·exact lkA rfl
  ·exact⟨.refl _,hx,hy,l1,l2,rfl⟩
  ·rintro⟨⟨m,n⟩,u,v⟩ W ⟨hW,hu,hv,hm,hn,hg⟩;replace hW:Ext w4 W:=hW;replace hu:eHs.R T W u (hds m):=hu;replace hv:eHs.R T W v (hds n):=hv;replace hm:(hds m).length<=2000000000:=hm;replace hn:(hds n).length<=2000000000:=hn;replace hg:Nat.gcd m n=Nat.gcd A B:=hg;refine .weak [(4,pW b4),(5,u),(6,v)] (λt v h=>h) (.seq (.sr (.mv O O (.lenR N1 O O hv ?_))));by_cases h0:n=0
   ·subst h0;rw[U6];refine .gtrF O O O (by simp) (.nil (.condF O (.exit ?_)));rw[iD] at hg;exact⟨rfl,u,lkA rfl,hW,hg▸hu⟩
   ·have hne:(hds n).length≠0:=λe=>h0 (AD6.1 (List.length_eq_zero_iff.1 e));refine .gtrT O O O (by omega) (.nil (.condT O (.skip (.block (.sr (.mv O O (.mv O O ?_)))))));refine .call _ O As6 O (Ar1 ((up3.ext e4.size).ext hW.size) hu hv (by omega) (by omega) h0) λz W2 f2 h2=>?_;obtain⟨vq,vr,rfl,hq,hr⟩:=h2;refine .mv O O (.ext O O O (.ext O O O (.asg O O (.an O O (.region (.mv O O (.mv O O (.asg O O (.an O O ?_)))))))));have hlt:m % n<n:=aY _ (by omega);exact⟨rfl,((n,m % n),v,vr),lkA rfl,⟨hW.trans f2,ER.ext eHs hv f2,hr,hn,aG (R4 (cH hlt)) hn,(By4 m n).trans hg⟩,hlt⟩
 ·rintro u W ⟨hW,hu⟩;have e5:=e4.trans hW;have lg:(hds (Nat.gcd A B)).length<=2000000001:=by
   have h1:Nat.gcd A B<=A+B:=by
    rcases aU A with h | h
    ·subst h;rw[Nat.gcd_zero_left];omega
    ·have:=Nat.gcd_le_left B h;omega
   exact aG (R4 h1) (AX9 l1 l2)
  refine .sr (.mv O O (.call _ O P3 O (O7 (up3.ext e5.size) hu (by omega)) λv6 w6 e6 h6=>?_));rw[E0] at h6;have e56:=e5.trans e6;refine .storeA (E:=eZ) B6 O O (k4.ext e56) O O h6 hS4 λw7 k7 u7 h7=>.nil (.ret ?_);exact .cell results194 O B6 O O k7 h7 ⟨u7.below (x3.trans e56) (by omega),hout h7⟩
theorem As8:Ent prog 195:=en func195
theorem Ar3{S:Nat->Prop}{w:World}{a b:ZV}(up:Up S w)(ha:eZ.R S w va a)(hb:eZ.R S w vb b)(hla:a.w.length<=1000000000)(hlb:b.w.length<=1000000000)(hb0:A6 b≠0) :
  CR prog 195 #[va,vb] w (Bl0 (eZ.at S (zc (A6 a / A6 b))) (eZ.at S (zc (A6 a % A6 b))) (Is (iW 0))):=by
 obtain⟨s,rfl,hs⟩:=ha;obtain⟨t,rfl,ht⟩:=hb;refine enter func195 O ntmps195 O ?_;refine .sr (.box O O λw1 b2 n1=>.box O O λw2 b3 n2=>.alloc O F4 λw3 b4 n3=>.alloc O F4 λw4 b5 n4=>.an O O ?_);obtain⟨e1,k2,hb2,hs1⟩:=n1;obtain⟨e2,k3,hb3,hs2⟩:=n2;obtain⟨e3,k4,hb4,hs3⟩:=n3;obtain⟨e4,k5,hb5,hs4⟩:=n4;have x4:=((e1.trans e2).trans e3).trans e4;have k2:=((k2.ext e2).ext e3).ext e4;have k3:=(k3.ext e3).ext e4;have k4:=k4.ext e4;have hS4:¬ Sx S w.heap.size w4.heap.size b4:=Sx.no (by omega) (by omega);have hS5:¬ Sx S w.heap.size w4.heap.size b5:=Sx.no (by omega) (by omega);have hne:b5≠b4:=by omega
 have up4:Up (Sx S w.heap.size w4.heap.size) w4:=Sx.up up (aA _) x4.size;have hs':=(ER.par eW hs w4.heap.size).ext x4;have ht':=(ER.par eW ht w4.heap.size).ext x4;have l1:=AH1 hs hla;have l2:=AH1 ht hlb;have hout:∀ {W:World} {v:Value} {z:ZV},eZ.R (Sx S w.heap.size w4.heap.size) W v z->eZ.R S W v z:=λh=>h.out;generalize hT:Sx S w.heap.size w4.heap.size=T at *;refine .seq ?_;refine .par follows 6 [.inl _,.inl s,.inr (eHs.at T (hds (val a.w))),.inl _,.inl t,.inr (eHs.at T (hds (val b.w)))] [[],[(11,0)],[(12,1)],[],[(14,3)],[(15,4)]] (by kernel_rfl) ⟨fao G9 O,λw e=>(E2 L2 O (k2.ext e) O).ob,λw e=>(A4 _ F8 O (K3 (up4.ext e.size) (hs'.ext e) hla)).oa,fao G9 O,λw e=>(E2 L2 O (k3.ext e) O).ob,λw e=>(A4 _ F8 O (K3 (up4.ext e.size) (ht'.ext e) hlb)).oa,trivial⟩ ?_;intro w5 e5 x hx y hy;refine .asg O O (.an O O ?_);have hB0:0<val b.w:=by
  rcases aU (val b.w) with h | h
  ·exact absurd (by unfold A6 sg;rw[h];simp) hb0
  ·exact h
 have eva:=AA3 a;have evb:=AA3 b;generalize val a.w=A at *;generalize val b.w=B at *;have hne0:(hds B).length≠0:=λe=>by have:=AD6.1 (List.length_eq_zero_iff.1 e);omega
 refine .seq (.sr (.mv O O (.lenR N1 O O hy (.eqlF O O O (by omega) (.nil (.condF O (.skip ?_)))))));have up5:=up4.ext e5.size;refine .sr (.mv O O (.mv O O ?_));refine .call _ O As6 O (Ar1 up5 hx hy (by omega) (by omega) (by omega)) λz w6 e6 h6=>?_;obtain⟨vq,vr,rfl,hq,hr⟩:=h6;refine .mv O O (.ext O O O (.ext O O O (.asg O O (.an O O ?_))));have e56:=e5.trans e6;have x6:=x4.trans e56;have up6:=up5.ext e6.size;have k2:=k2.ext e56;have k3:=k3.ext e56;have k4:=k4.ext e56;have k5:=k5.ext e56;have hy6:=ER.ext eHs hy e6;have lq:(hds (A / B)).length<=2000000000:=aG (R4 (dV _ _)) l1;have lr:(hds (A % B)).length<=2000000000:=aG (R4 (Nat.mod_le _ _)) l1;refine .mid (α:=(Nat×Nat)×Value×Value) (λz=>[(2,pW b2),(3,pW b3),(4,pW b4),(5,pW b5),(9,z.2.1),(10,z.2.2)])
  (λz W=>Ext w6 W/\eHs.R T W z.2.1 (hds z.1.1)/\eHs.R T W z.2.2 (hds z.1.2)/\(hds z.1.1).length<=2000000002/\(hds z.1.2).length<=2000000002/\A6 a / A6 b=sg (a.neg != b.neg) z.1.1/\A6 a % A6 b=sg false z.1.2) ?_ ?_
 ·refine .sr (.fa J5 O O (.ld D6 O O k2 O (.mv O O ?_)))
  cases hn:a.neg with
  | false =>
   refine .gs O O O O O (.gs O O O O O (.gs O O O O O (.pick O O O (.nil (.condF O (.skip ?_))))));obtain⟨d1,d2⟩:=AT2 (p:=false) (q:=b.neg) (A:=A) hB0 (.inl rfl);refine⟨rfl,((A / B,A % B),vq,vr),lkA rfl,.refl _,hq,hr,aG lq (by omega),aG lr (by omega),?_,?_⟩
   ·rw[eva,evb,hn];exact d1
   ·rw[eva,evb,hn];exact d2
  | true =>
   refine .gr O O O O (.mv O O (.gr O O O O (.lenR N1 O O hr (.gr O O O O ?_))));by_cases h0:A % B=0
   ·rw[h0,U6];refine .gtrF O O O (by simp) (.pick O O O (.nil (.condF O (.skip ?_))));obtain⟨d1,d2⟩:=AT2 (p:=true) (q:=b.neg) (A:=A) hB0 (.inr h0);refine⟨rfl,((A / B,A % B),vq,vr),lkA rfl,.refl _,hq,hr,aG lq (by omega),aG lr (by omega),?_,?_⟩
    ·rw[eva,evb,hn];exact d1
    ·rw[eva,evb,hn];exact d2
   ·have hne:(hds (A % B)).length≠0:=λe=>h0 (AD6.1 (List.length_eq_zero_iff.1 e));refine .gtrT O O O (by omega) (.pick O O O (.nil (.condT O (.sr (.mv O O (.bsl _ O O Ah2 λw7 b7 n7=>?_))))));have hd1:AG2 [1]:=by intro x hx;simp at hx;omega
    have ho:U9 3 w6.heap.size w7 (.slice (some ⟨b7,0,none⟩) 1 1) [1]:=U9.lit (l:=[1]) n7 (aA _) hd1 (by simp);obtain⟨e7,_,_,_⟩:=n7;refine .call _ O AZ6 O (AX0 (S:=T) (up6.ext e7.size) (ER.ext eHs hq e7) (ho.toR up6) (by omega) (by simp)) λv8 w8 e8 h8=>.an O O ?_;rw[E0,show B3 [1]=1 by rfl] at h8;have e78:=e7.trans e8;refine .region (.mv O O (.mv O O ?_));have hm:=aY A hB0;refine .call _ O AN3 O (AM2 (S:=T) (up6.ext e78.size) (ER.ext eHs hy6 e78) (ER.ext eHs hr e78) (by omega) (by rw[E0,E0];omega)) λv9 w9 e9 h9=>.an O O ?_;rw[E0,E0] at h9;obtain⟨d1,d2⟩:=BC3 (q:=b.neg) (A:=A) hB0 (by omega);refine⟨rfl,((A / B+1,B-A % B),v8,v9),lkA rfl,e78.trans e9,ER.ext eHs h8 e9,h9,?_,?_,?_,?_⟩
    ·exact aG (AX9 lq (B:=1) (aG (R0 (L:=1) (by decide)) (by omega))) (by omega)
    ·exact aG (R4 (Nat.sub_le _ _)) (by omega)
    ·rw[eva,evb,hn];exact d1
    ·rw[eva,evb,hn];exact d2
 ·rintro⟨⟨q,r⟩,vq,vr⟩ W ⟨hW,hq,hr,lq,lr,d1,d2⟩;replace hW:Ext w6 W:=hW;replace hq:eHs.R T W vq (hds q):=hq;replace hr:eHs.R T W vr (hds r):=hr;replace lq:(hds q).length<=2000000002:=lq;replace lr:(hds r).length<=2000000002:=lr;replace d1:A6 a / A6 b=sg (a.neg != b.neg) q:=d1;replace d2:A6 a % A6 b=sg false r:=d2;refine .weak [(2,pW b2),(3,pW b3),(4,pW b4),(5,pW b5),(9,vq),(10,vr)] (λt v h=>h) ?_;have k2:=k2.ext hW;have k3:=k3.ext hW;have k4:=k4.ext hW;have k5:=k5.ext hW;have upW:=up6.ext hW.size;refine .sr (.fa J5 O O (.ld D6 O O k2 O (.fa J5 O O (.ld D6 O O k3 O (.neqB AL7 O O O (.mv O O ?_))))));refine .call _ O P3 O (O7 upW hq (by omega)) λv7 w7 e7 h7=>.mv O O ?_;rw[E0,<-d1] at h7;refine .call _ O P3 O (O7 (upW.ext e7.size) (ER.ext eHs hr e7) (by omega)) λv8 w8 e8 h8=>?_;rw[E0,<-d2] at h8;have e78:=e7.trans e8;refine .storeA (E:=eZ) B6 O O (k4.ext e78) O O (ER.ext eZ h7 e8) hS4 λw9 k9 u9 h9=>?_;refine .storeA (E:=eZ) B6 O O ((k5.ext e78).upd u9 hne) O O (ER.upd eZ h8 u9 hS4) hS5 λw10 k10 u10 h10=>.an O O (.ret ?_);exact .plain [_,_,_] results195 ⟨⟨_,rfl,H5 (E:=eZ) B6 O O (k9.upd u10 (Ne.symm hne)) (ER.upd eZ h9 u10 hS5)⟩,⟨_,rfl,H5 (E:=eZ) B6 O O k10 h10⟩,rfl,trivial⟩
   ⟨u10.below (u9.below ((x6.trans hW).trans e78) (by omega)) (by omega),_,_,_,rfl,hout (ER.upd eZ h9 u10 hS5),hout h10,rfl⟩
theorem BZ7:Ent prog 196:=en func196
theorem BV2{S:Nat->Prop}{w:World}{a b:ZV}(up:Up S w)(ha:eZ.R S w va a)(hb:eZ.R S w vb b)(hla:a.w.length<=1000000000)(hlb:b.w.length<=1000000000):CR prog 196 #[va,vb] w (Is (iW (BD0 (A6 a) (A6 b)))):=by
 have ha0:=ha;have hb0:=hb;obtain⟨s,rfl,hs⟩:=ha;obtain⟨t,rfl,ht⟩:=hb;refine enter func196 O ntmps196 O ?_;refine .sr (.box O O λw1 b2 n1=>.box O O λw2 b3 n2=>.an O O ?_);obtain⟨e1,k2,hb2,hs1⟩:=n1;obtain⟨e2,k3,hb3,hs2⟩:=n2;have x2:=e1.trans e2;have k2:=k2.ext e2;have up2:=up.ext x2.size;have ha2:=ER.ext eZ ha0 x2;have hb2':=ER.ext eZ hb0 x2;have eva:=AA3 a;have evb:=AA3 b;refine .seq (.seq ?_);refine .par follows 5 [.inl (.agg #[.bool a.neg,s]),.inl (iW (A6 a).sign),.inl (.agg #[.bool b.neg,t]),.inl (iW (A6 b).sign),.inl (.bool ((A6 a).sign != (A6 b).sign))] [[],[(6,0)],[],[(8,2)],[(7,1),(9,3)]] (by kernel_rfl) ⟨λw e=>(E1 B6 O (k2.ext e) O).ob,λw e=>A4 _ O3 O (N7 (up2.ext e.size) (ER.ext eZ ha2 e) hla),λw e=>(E1 B6 O (k3.ext e) O).ob,λw e=>A4 _ O3 O (N7 (up2.ext e.size) (ER.ext eZ hb2' e) hlb),λw e=>(Br7 O O).ob,trivial⟩ ?_;intro w3 e3;have x3:=x2.trans e3;have up3:=up2.ext e3.size;have k2:=k2.ext e3;have k3:=k3.ext e3;have ha3:=ER.ext eZ ha2 e3;have hb3:=ER.ext eZ hb2' e3;by_cases hsg:(A6 a).sign=(A6 b).sign
 ·rw[show ((A6 a).sign != (A6 b).sign)=false by simpa using hsg];refine .nil (.condF O (.skip (.seq ?_)));have hs':=ER.ext eW hs x3;have ht':=ER.ext eW ht x3;have l1:=AH1 hs hla;have l2:=AH1 ht hlb;have hc:=Bp5 hsg;refine .par follows 7 [.inl _,.inl s,.inr (eHs.at S (hds (val a.w))),.inl _,.inl t,.inr (eHs.at S (hds (val b.w))),.inl (iW (AL1 (B3 (hds (val a.w))) (B3 (hds (val b.w)))))] [[],[(16,0)],[(17,1)],[],[(19,3)],[(20,4)],[(18,2),(21,5)]] (by kernel_rfl) ⟨fao G9 O,λw e=>(E2 L2 O (k2.ext e) O).ob,λw e=>(A4 _ F8 O (K3 (up3.ext e.size) (hs'.ext e) hla)).oa,fao G9 O,λw e=>(E2 L2 O (k3.ext e) O).ob,λw e=>(A4 _ F8 O (K3 (up3.ext e.size) (ht'.ext e) hlb)).oa,λw e x hx y hy=>A4 _ AZ5 O (AW9 hx hy (by omega) (by omega)),trivial⟩ ?_;intro w4 e4 x hx y hy;rw[E0,E0];refine .an O O (.seq (.sr (.ldA B6 O O (k2.ext e4) O (.call _ O O3 O (N7 (up3.ext e4.size) (ER.ext eZ ha3 e4) hla) λv5 w5 e5 h5=>?_))));subst h5;have x5:=(x3.trans e4).trans e5;by_cases hn:(A6 a).sign<0
  ·rw[if_pos hn] at hc;refine .lssT O O O hn (.nil (.condT O (.sr (.mv O O (.neg O O (.an O O (.ret ?_)))))));exact .plain [_] results196 ⟨rfl,trivial⟩ ⟨x5,isI (by rw[hc,wI (by unfold AL1;split<;>(try split)<;>omega)])⟩
  ·rw[if_neg hn] at hc;refine .lssF O O O hn (.nil (.condF O (.skip (.sr (.mv O O (.an O O (.ret ?_)))))));exact .plain [_] results196 ⟨rfl,trivial⟩ ⟨x5,isI (by rw[hc])⟩
 ·rw[show ((A6 a).sign != (A6 b).sign)=true by simpa using hsg];refine .nil (.condT O (.seq (.seq ?_)));have hc:=cmpI_ne hsg;refine .par follows 5 [.inl (.agg #[.bool a.neg,s]),.inl (iW (A6 a).sign),.inl (.agg #[.bool b.neg,t]),.inl (iW (A6 b).sign),.inl (.bool (decide ((A6 a).sign<(A6 b).sign)))] [[],[(11,0)],[],[(13,2)],[(12,1),(14,3)]] (by kernel_rfl) ⟨λw e=>(E1 B6 O (k2.ext e) O).ob,λw e=>A4 _ O3 O (N7 (up3.ext e.size) (ER.ext eZ ha3 e) hla),λw e=>(E1 B6 O (k3.ext e) O).ob,λw e=>A4 _ O3 O (N7 (up3.ext e.size) (ER.ext eZ hb3 e) hlb),λw e=>(Aq4 O O).ob,trivial⟩ ?_;intro w4 e4;by_cases hn:(A6 a).sign<(A6 b).sign
  ·rw[if_pos hn] at hc;rw[show decide ((A6 a).sign<(A6 b).sign)=true by simpa using hn];refine .nil (.condT O (.sr (.an O O (.ret ?_))));exact .plain [_] results196 ⟨rfl,trivial⟩ ⟨x3.trans e4,isI (by rw[hc])⟩
  ·rw[if_neg hn] at hc;rw[show decide ((A6 a).sign<(A6 b).sign)=false by simpa using hn];refine .nil (.condF O (.skip (.sr (.an O O (.ret ?_)))));exact .plain [_] results196 ⟨rfl,trivial⟩ ⟨x3.trans e4,isI (by rw[hc])⟩
theorem As5:Ent prog 185:=en func185
theorem Ar0{S:Nat->Prop}{w:World}(up:Up S w):CR prog 185 #[] w (eZ.at S (zc 1)):=by refine enter func185 O ntmps185 O (.sr (.alloc O F4 λw1 b1 n1=>.nil ?_));obtain⟨e1,k1,hb1,hs1⟩:=n1;have hS:¬ Sx S w.heap.size w1.heap.size b1:=Sx.no (by omega) (by omega);have up1:Up (Sx S w.heap.size w1.heap.size) w1:=Sx.up up (aA _) e1.size;refine .sr (.call _ O Am8 O (Ak1 up1 (by decide) (by decide)) λv2 w2 e2 h2=>(.storeA (E:=eZ) B6 O O (k1.ext e2) O O h2 hS λw5 k5 u5 h5=>.nil (.ret ?_)));exact .cell results185 O B6 O O k5 h5 ⟨u5.below (e1.trans e2) (by omega),h5.out⟩
theorem O2:Ent prog 127:=en func127
theorem N5{S:Nat->Prop}{w:World}{v:Value}(up:Up S w)(h:eQ.R S w v q)(hl:qok L q)(hL:L<=1000000000):CR prog 127 #[v] w (eZ.at S (zc (pd q))):=by
 obtain⟨s,t,rfl,hn,hd⟩:=AG1 h;refine enter func127 O ntmps127 O (.sr (.box O O λw1 b1 n1=>.alloc O F4 λw2 b2 n2=>.nil ?_));obtain⟨e1,k1,hb1,hs1⟩:=n1;obtain⟨e2,k2,hb2,hs2⟩:=n2;have x2:=e1.trans e2;have k1:=k1.ext e2;have hS:¬ Sx S w.heap.size w2.heap.size b2:=Sx.no (by omega) (by omega);have up2:Up (Sx S w.heap.size w2.heap.size) w2:=Sx.up up (aA _) x2.size;have hd2:=(ER.par eZ hd w2.heap.size).ext x2;refine .seq (.sr (.fa AC1 O O (.ldN [.bool q.den.neg,t] B6 O O k1 Av8 (.call _ O O3 O (N7 up2 hd2 (aG hl.2 hL)) λv3 w3 e3 h3=>?_))));subst h3;have hp:A6 q.den≠0->pd q=(val q.den.w:Nat):=by intro h0;have:=P8 q.den;unfold pd;rw[if_neg h0];split<;>omega
 by_cases h0:A6 q.den=0
 ·refine .eqlT O O O (by rw[h0];rfl) (.nil (.condT O (.sr (.call _ O As5 O (Ar0 (up2.ext e3.size)) λv4 w4 e4 h4=>(.storeA (E:=eZ) B6 O O ((k2.ext e3).ext e4) O O h4 hS λw5 k5 u5 h5=>.nil (.ret ?_))))));exact .cell results127 O B6 O O k5 h5 ⟨u5.below ((x2.trans e3).trans e4) (by omega),by rw[show pd q=1 by unfold pd;rw[if_pos h0]];exact h5.out⟩
 ·refine .eqlF O O O (λh=>h0 (Int.sign_eq_zero_iff_zero.1 h)) (.nil (.condF O (.skip (.sr (.fa AC1 O O (.ldN [.bool q.den.neg,t] B6 O O (k1.ext e3) Av8 (.call _ O BZ9 O (BV4 (up2.ext e3.size) (ER.ext eZ hd2 e3) (aG hl.2 hL)) λv4 w4 e4 h4=>(.storeA (E:=eZ) B6 O O ((k2.ext e3).ext e4) O O h4 hS λw5 k5 u5 h5=>.nil (.ret ?_)))))))));exact .cell results127 O B6 O O k5 h5 ⟨u5.below ((x2.trans e3).trans e4) (by omega),by rw[hp h0];exact h5.out⟩
theorem Q4:Ent prog 128:=en func128
theorem P9{S:Nat->Prop}{w:World}{v:Value}(up:Up S w)(h:eQ.R S w v q)(hl:qok L q)(hL:L<=1000000000):CR prog 128 #[v] w (eZ.at S (zc (pn q))):=by
 obtain⟨s,t,rfl,hn,hd⟩:=AG1 h;refine enter func128 O ntmps128 O (.sr (.box O O λw1 b1 n1=>.alloc O F4 λw2 b2 n2=>.nil ?_));obtain⟨e1,k1,hb1,hs1⟩:=n1;obtain⟨e2,k2,hb2,hs2⟩:=n2;have x2:=e1.trans e2;have k1:=k1.ext e2;have hS:¬ Sx S w.heap.size w2.heap.size b2:=Sx.no (by omega) (by omega);have up2:Up (Sx S w.heap.size w2.heap.size) w2:=Sx.up up (aA _) x2.size;have hd2:=(ER.par eZ hd w2.heap.size).ext x2;have hn2:=(ER.par eZ hn w2.heap.size).ext x2;refine .seq (.sr (.fa AC1 O O (.ldN [.bool q.den.neg,t] B6 O O k1 Av8 (.call _ O O3 O (N7 up2 hd2 (aG hl.2 hL)) λv3 w3 e3 h3=>?_))));subst h3;by_cases h0:A6 q.den<0
 ·refine .lssT O O O (by rw[cC h0];decide) (.nil (.condT O (.sr (.fa AC2 O O (.ldN [.bool q.num.neg,s] B6 O O (k1.ext e3) Bb3 (.call _ O As7 O (Ar2 (up2.ext e3.size) (ER.ext eZ hn2 e3) (aG hl.1 hL)) λv4 w4 e4 h4=>(.storeA (E:=eZ) B6 O O ((k2.ext e3).ext e4) O O h4 hS λw5 k5 u5 h5=>.nil (.ret ?_))))))));exact .cell results128 O B6 O O k5 h5 ⟨u5.below ((x2.trans e3).trans e4) (by omega),by rw[show pn q = -A6 q.num by unfold pn;rw[if_pos h0]];exact h5.out⟩
 ·refine .lssF O O O (λh=>h0 (Int.sign_neg_iff.1 h)) (.nil (.condF O (.skip (.sr (.fa AC2 O O (.ldN [.bool q.num.neg,s] B6 O O (k1.ext e3) Bb3 (.call _ O Ae4 O (Ad1 (up2.ext e3.size) (ER.ext eZ hn2 e3) (aG hl.1 (by omega))) λv4 w4 e4 h4=>(.storeA (E:=eZ) B6 O O ((k2.ext e3).ext e4) O O h4 hS λw5 k5 u5 h5=>.nil (.ret ?_)))))))));exact .cell results128 O B6 O O k5 h5 ⟨u5.below ((x2.trans e3).trans e4) (by omega),by rw[show pn q=A6 q.num by unfold pn;rw[if_neg h0]];exact h5.out⟩
theorem AI6:Ent prog 135:=en func135
theorem AH9{S:Nat->Prop}{w:World}{a b:ZV}(up:Up S w)(ha:eZ.R S w va a)(hb:eZ.R S w vb b)(hla:a.w.length<=L)(hlb:b.w.length<=L)(hL:L<=1000000000)(hb0:0<A6 b):CR prog 135 #[va,vb] w (eQ.at S (qc (Rat.divInt (A6 a) (A6 b)))):=by
 have hda:=AY3 ha;have hdb:=AY3 hb;have hqc:=Ao0 (n:=A6 a) hb0;have hga:=P8 a;have hgb:=P8 b;have hBp:0<val b.w:=by omega
 have hla1:=AE3 hda hla;have hlb1:=AE3 hdb hlb;rw[hga] at hla1;rw[hgb] at hlb1;rw[hga,hgb] at hqc;have hg1:Nat.gcd (val a.w) (val b.w)<=val b.w:=iG _ hBp;have hg0:0<Nat.gcd (val a.w) (val b.w):=iE _ hBp;generalize hgg:Nat.gcd (val a.w) (val b.w)=g at *;obtain⟨s,rfl,hs⟩:=ha;obtain⟨t,rfl,ht⟩:=hb;have ha:eZ.R S w (.agg #[.bool a.neg,s]) a:=⟨s,rfl,hs⟩;have hb:eZ.R S w (.agg #[.bool b.neg,t]) b:=⟨t,rfl,ht⟩;refine enter func135 O ntmps135 O (.sr (.box O O λw1 b2 n1=>.box O O λw2 b3 n2=>.alloc O E8 λw3 b4 n3=>.nil ?_));obtain⟨e1,k2,hb2,hs1⟩:=n1;obtain⟨e2,k3,hb3,hs2⟩:=n2;obtain⟨e3,k4,hb4,hs3⟩:=n3;have x3:=(e1.trans e2).trans e3;have k2:=(k2.ext e2).ext e3;have k3:=k3.ext e3;have hS4:¬ Sx S w.heap.size w3.heap.size b4:=Sx.no (by omega) (by omega);have up3:Up (Sx S w.heap.size w3.heap.size) w3:=Sx.up up (aA _) x3.size;have ha3:=(ER.par eZ ha w3.heap.size).ext x3;have hb3':=(ER.par eZ hb w3.heap.size).ext x3;have hout:∀ {W:World} {v:Value} {z:QV},eQ.R (Sx S w.heap.size w3.heap.size) W v z->eQ.R S W v z:=λh=>h.out;generalize hT:Sx S w.heap.size w3.heap.size=T at *;refine .sr (.ldA B6 O O k2 O (.ldA B6 O O k3 O ?_));refine .call _ O BZ6 O (BV1 up3 ha3 hb3' (by omega) (by omega)) λv4 w4 e4 h4=>?_;rw[hgg] at h4;obtain⟨s4,rfl,hs4⟩:=h4;have h4:eZ.R T w4 (.agg #[.bool (zc (g:Nat)).neg,s4]) (zc (g:Nat)):=⟨s4,rfl,hs4⟩;refine .alloc O F4 λw5 b5 n5=>?_;obtain⟨e5,k5,hb5,hs5⟩:=n5;refine .storeA (E:=eZ) B6 O O k5 O O (ER.ext eZ (ER.lt eZ h4) e5) (λh=>by have:=h.2;omega) λw6 k5 u6 _=>.nil ?_;have e46:Ext w4 w6:=u6.below e5 (by omega);have e36:=e4.trans e46;have up6:=up3.ext e36.size;have lg:(zc (g:Nat)).w.length<=1000000000:=aG (AA4 (L:=L) (by rw[gI];exact bI hg1 hlb1)) hL;have hgz:A6 (zc ((g:Nat):Int))=(g:Int):=D0 _;refine .sr (.ldA B6 O O (k2.ext e36) O (.ldA B6 O O k5 O ?_));refine .call _ O As8 O (Ar3 up6 (ER.ext eZ ha3 e36) (ER.ext eZ h4 e46) (by omega) lg (by rw[hgz];omega)) λv7 w7 e7 h7=>?_;obtain⟨vq,vr,_,rfl,hq,hr,rfl⟩:=h7;rw[hgz] at hq hr;obtain⟨sq,rfl,hsq⟩:=hq;have hq:eZ.R T w7 (.agg #[.bool (zc (A6 a / (g:Nat))).neg,sq]) (zc (A6 a / (g:Nat))):=⟨sq,rfl,hsq⟩;refine .mv O O (.ext O O O (.ext O O O (.ext O O O (.alloc O F4 λw8 b6 n8=>.alloc O F4 λw9 b7 n9=>?_))));obtain⟨e8,k6,hb6,hs8⟩:=n8;obtain⟨e9,k7,hb7,hs9⟩:=n9;have e79:=e8.trans e9;refine .storeA (E:=eZ) B6 O O (k6.ext e9) O O (ER.ext eZ (ER.lt eZ hq) e79) (λh=>by have:=h.2;omega) λw10 k6 u10 _=>?_;have e710:Ext w7 w10:=u10.below e79 (by omega);refine .storeA (E:=eZ) B6 O O (k7.upd u10 (by omega)) O O (ER.ext eZ (ER.lt eZ hr) e710) (λh=>by have:=h.2;omega) λw11 k7 u11 _=>.an O O ?_;have e711:Ext w7 w11:=u11.below e710 (by omega);have k6:=k6.upd u11 (by omega);have e611:=e7.trans e711;have up11:=up6.ext e611.size;have k5:=k5.ext e611;have e311:=e36.trans e611;refine .sr (.ldA B6 O O (k3.ext e311) O (.ldA B6 O O k5 O ?_));refine .call _ O As8 O (Ar3 up11 (ER.ext eZ hb3' e311) (ER.ext eZ (ER.ext eZ h4 e46) e611) (by omega) lg (by rw[hgz];omega)) λv12 w12 e12 h12=>?_;obtain⟨vd,ve,_,rfl,hd,he,rfl⟩:=h12;rw[hgz] at hd he;obtain⟨sd,rfl,hsd⟩:=hd;have hd:eZ.R T w12 (.agg #[.bool (zc (A6 b / (g:Nat))).neg,sd]) (zc (A6 b / (g:Nat))):=⟨sd,rfl,hsd⟩;refine .mv O O (.ext O O O (.ext O O O (.ext O O O (.alloc O F4 λw13 b9 n13=>.alloc O F4 λw14 b10 n14=>?_))));obtain⟨e13,k9,hb9,hs13⟩:=n13;obtain⟨e14,k10,hb10,hs14⟩:=n14;have e1214:=e13.trans e14;refine .storeA (E:=eZ) B6 O O (k9.ext e14) O O (ER.ext eZ (ER.lt eZ hd) e1214) (λh=>by have:=h.2;omega) λw15 k9 u15 _=>?_;have e1215:Ext w12 w15:=u15.below e1214 (by omega);refine .storeA (E:=eZ) B6 O O (k10.upd u15 (by omega)) O O (ER.ext eZ (ER.lt eZ he) e1215) (λh=>by have:=h.2;omega) λw16 k10 u16 _=>.an O O ?_;have e1216:Ext w12 w16:=u16.below e1215 (by omega);have k9:=k9.upd u16 (by omega);have e1116:=e12.trans e1216;have k6:=k6.ext e1116;have up16:=up11.ext e1116.size;have hd:=ER.ext eZ hd e1216;have hq:=ER.ext eZ hq (e711.trans e1116);have hdl:(zc (A6 b / (g:Nat))).w.length<=1000000000:=aG (AA4 (L:=L) (bI (Int.natAbs_ediv_le_natAbs _ _) (by rw[hgb];exact hlb1))) hL;have e316:=e311.trans e1116;have k4:=k4.ext e316;refine .seq (.seq ?_);refine .par follows 4 [.inl (.agg #[.bool (zc (A6 b / (g:Nat))).neg,sd]),.inr (eZ.at T (zc 1)),.inl (iW (BD0 (A6 (zc (A6 b / (g:Nat)))) (A6 (zc 1)))),.inl (.bool (BD0 (A6 (zc (A6 b / (g:Nat)))) (A6 (zc 1)) == 0))] [[],[],[(29,0),(30,1)],[(31,2)]] (by kernel_rfl) ⟨λw e=>(E1 B6 O (k9.ext e) O).ob,λw e=>(A4 _ As5 O (Ar0 (up16.ext e.size))).oa,λw e x hx=>A4 _ BZ7 O (BV2 (up16.ext e.size) (ER.ext eZ hd e) hx hdl (aG (AA4 (L:=1) (by decide)) (by omega))),λw e=>(Ai5 O O).ob,trivial⟩ ?_;intro w17 e17 x1 hx1;rw[D0,D0];have k4:=k4.ext e17;have k6:=k6.ext e17;have k9:=k9.ext e17;obtain⟨sq',he1,hsq'⟩:=ER.ext eZ hq e17;obtain⟨sd',he2,hsd'⟩:=ER.ext eZ hd e17;injection he1 with he1;injection he2 with he2;simp at he1 he2;subst he1;subst he2;have hxx:=x3.trans (e316.trans e17);by_cases h1:A6 b / (g:Nat)=1
 ·rw[show (BD0 (A6 b / (g:Nat)) 1 == 0)=true by rw[h1];decide];rw[if_pos h1] at hqc;have hfin:eQ.R T w17 (.agg #[.bool (zc (A6 a / (g:Nat))).neg,sq,.bool false,.slice none 0 0]) (qc (Rat.divInt (A6 a) (A6 b))):=by rw[hqc];exact⟨sq,.slice none 0 0,rfl,hsq',RL.nil⟩
  refine .nil (.condT O (.sr (.ldA B6 O O k6 O (.bld [(0,.agg #[.bool (zc (A6 a / (g:Nat))).neg,sq])] O O BQ4 (.storeA (E:=eQ) A3 O O k4 O O hfin hS4 λw18 k18 u18 h18=>.nil (.ret ?_))))));exact .cell results135 O A3 O O k18 h18 ⟨u18.below hxx (by omega),hout h18⟩
 ·rw[show (BD0 (A6 b / (g:Nat)) 1 == 0)=false by unfold BD0;split<;>(try split)<;>first | rfl | omega]
  rw[if_neg h1] at hqc;have hfin:eQ.R T w17 (.agg #[.bool (zc (A6 a / (g:Nat))).neg,sq,.bool (zc (A6 b / (g:Nat))).neg,sd]) (qc (Rat.divInt (A6 a) (A6 b))):=by rw[hqc];exact⟨sq,sd,rfl,hsq',hsd'⟩
  refine .nil (.condF O (.skip (.sr (.ldA B6 O O k6 O (.ldA B6 O O k9 O (.bld [(0,.agg #[.bool (zc (A6 a / (g:Nat))).neg,sq]),(1,.agg #[.bool (zc (A6 b / (g:Nat))).neg,sd])] O O BD4 (.storeA (E:=eQ) A3 O O k4 O O hfin hS4 λw18 k18 u18 h18=>.nil (.ret ?_))))))));exact .cell results135 O A3 O O k18 h18 ⟨u18.below hxx (by omega),hout h18⟩
theorem AX1{m n:Nat}{x:Int}(h1:x.natAbs<L ^ m)(h2:y.natAbs<L ^ n):(x*y).natAbs<L ^ (m+n):=by rw[dE,bG];exact dF h1 h2
theorem Bu4{m:Nat}{x:Int}(h1:x.natAbs<4294967296 ^ m)(h2:y.natAbs<4294967296 ^ m):(x+y).natAbs<4294967296 ^ (m+1):=by have:=gZ x y;rw[aN];omega
theorem zl{n:Int}{K:Nat}(h:n.natAbs<4294967296 ^ L)(hL:L<=K):(zc n).w.length<=K:=aG (AA4 h) hL
theorem AM7{S:Nat->Prop}{w:World}{v:Value}(h:eQ.R S w v q):dig q.num.w/\dig q.den.w:=by obtain⟨s,t,_,h1,h2⟩:=h;exact⟨K7 h1,K7 h2⟩
theorem AP0:Ent prog 84:=en func84
theorem AO0{S:Nat->Prop}{w:World}{v:Value}(up:Up S w)(h:eQ.R S w v q)(hl:qok L q)(h1:1<=L)(hL:L<=1000000000):CR prog 84 #[v] w (eQ.at S (qc (E3 q))):=by obtain⟨hd1,hd2⟩:=AM7 h;have hln:=Ak2 hd1 hl;have hld:=Ar5 hd2 hl h1;have hpp:=Q8 q;obtain⟨s,t,rfl,hs,ht⟩:=h;have h:eQ.R S w (.agg #[.bool q.num.neg,s,.bool q.den.neg,t]) q:=⟨s,t,rfl,hs,ht⟩;refine enter func84 O ntmps84 O (.sr (.box O O λw1 b1 n1=>.alloc O E8 λw2 b2 n2=>.nil ?_));obtain⟨e1,k1,hb1,hs1⟩:=n1;obtain⟨e2,k2,hb2,hs2⟩:=n2;have x2:=e1.trans e2;have k1:=k1.ext e2;have hS:¬ Sx S w.heap.size w2.heap.size b2:=Sx.no (by omega) (by omega);have up2:Up (Sx S w.heap.size w2.heap.size) w2:=Sx.up up (aA _) x2.size;have h2:=(ER.par eQ h w2.heap.size).ext x2;have hout:∀ {W:World} {v:Value} {z:QV},eQ.R (Sx S w.heap.size w2.heap.size) W v z->eQ.R S W v z:=λh=>h.out;generalize hT:Sx S w.heap.size w2.heap.size=T at *;refine .seq ?_;refine .par follows 5 [.inl _,.inr (eZ.at T (zc (pn q))),.inl _,.inr (eZ.at T (zc (pd q))),.inr (eQ.at T (qc (Rat.divInt (A6 (zc (pn q))) (A6 (zc (pd q))))))] [[],[(3,0)],[],[(5,2)],[(4,1),(6,3)]] (by kernel_rfl) ⟨λw e=>(E1 A3 O (k1.ext e) O).ob,λw e=>(A4 _ Q4 O (P9 (up2.ext e.size) (ER.ext eQ h2 e) hl hL)).oa,λw e=>(E1 A3 O (k1.ext e) O).ob,λw e=>(A4 _ O2 O (N5 (up2.ext e.size) (ER.ext eQ h2 e) hl hL)).oa,λw e x hx y hy=>(A4 _ AI6 O (AH9 (up2.ext e.size) hx hy (zl hln (aA _)) (zl hld (aA _)) hL (by rw[D0];exact hpp))).oa,trivial⟩ ?_;intro w3 e3 x hx y hy z hz;rw[D0,D0] at hz;refine .storeA (E:=eQ) A3 O O (k2.ext e3) O O hz hS λw4 k4 u4 h4=>.nil (.ret ?_);exact .cell results84 O A3 O O k4 h4 ⟨u4.below (x2.trans e3) (by omega),hout h4⟩
theorem AZ2:Ent prog 130:=en func130
theorem AW5{S:Nat->Prop}{w:World}{v:Value}(up:Up S w)(h:eQ.R S w v q)(hl:qok L q)(h1:1<=L)(hL:L<=1000000000):CR prog 130 #[v] w (eQ.at S (qc (-E3 q))):=by obtain⟨hd1,hd2⟩:=AM7 h;have hln:=Ak2 hd1 hl;have hld:=Ar5 hd2 hl h1;have hpp:=Q8 q;obtain⟨s,t,rfl,hs,ht⟩:=h;have h:eQ.R S w (.agg #[.bool q.num.neg,s,.bool q.den.neg,t]) q:=⟨s,t,rfl,hs,ht⟩;refine enter func130 O ntmps130 O (.sr (.box O O λw1 b1 n1=>.alloc O E8 λw2 b2 n2=>.nil ?_));obtain⟨e1,k1,hb1,hs1⟩:=n1;obtain⟨e2,k2,hb2,hs2⟩:=n2;have x2:=e1.trans e2;have k1:=k1.ext e2;have hS:¬ Sx S w.heap.size w2.heap.size b2:=Sx.no (by omega) (by omega);have up2:Up (Sx S w.heap.size w2.heap.size) w2:=Sx.up up (aA _) x2.size;have h2:=(ER.par eQ h w2.heap.size).ext x2;have hout:∀ {W:World} {v:Value} {z:QV},eQ.R (Sx S w.heap.size w2.heap.size) W v z->eQ.R S W v z:=λh=>h.out;generalize hT:Sx S w.heap.size w2.heap.size=T at *;refine .seq ?_;refine .par follows 6 [.inl _,.inr (eZ.at T (zc (pn q))),.inr (eZ.at T (zc (-A6 (zc (pn q))))),.inl _,.inr (eZ.at T (zc (pd q))),.inr (eQ.at T (qc (Rat.divInt (A6 (zc (-A6 (zc (pn q))))) (A6 (zc (pd q))))))] [[],[(3,0)],[(4,1)],[],[(6,3)],[(5,2),(7,4)]] (by kernel_rfl) ⟨λw e=>(E1 A3 O (k1.ext e) O).ob,λw e=>(A4 _ Q4 O (P9 (up2.ext e.size) (ER.ext eQ h2 e) hl hL)).oa,λw e x hx=>(A4 _ As7 O (Ar2 (up2.ext e.size) hx (zl hln hL))).oa,λw e=>(E1 A3 O (k1.ext e) O).ob,λw e=>(A4 _ O2 O (N5 (up2.ext e.size) (ER.ext eQ h2 e) hl hL)).oa,λw e x hx y hy=>(A4 _ AI6 O (AH9 (up2.ext e.size) hx hy (zl (by rw[D0,Int.natAbs_neg];exact hln) (aA _)) (zl hld (aA _)) hL (by rw[D0];exact hpp))).oa,trivial⟩ ?_;intro w3 e3 x hx y hy z hz u hu;rw[D0,D0,D0,<-Rat.neg_divInt] at hu;refine .storeA (E:=eQ) A3 O O (k2.ext e3) O O hu hS λw4 k4 u4 h4=>.nil (.ret ?_);exact .cell results130 O A3 O O k4 h4 ⟨u4.below (x2.trans e3) (by omega),hout h4⟩
theorem AT8:Ent prog 125:=en func125
theorem AS3{S:Nat->Prop}{w:World}{v:Value}(up:Up S w)(h:eQ.R S w v q)(hl:qok L q)(hL:L<=1000000000):CR prog 125 #[v] w (Is (iW (pn q).sign)):=by obtain⟨hd1,hd2⟩:=AM7 h;have hln:=Ak2 hd1 hl;obtain⟨s,t,rfl,hs,ht⟩:=h;have h:eQ.R S w (.agg #[.bool q.num.neg,s,.bool q.den.neg,t]) q:=⟨s,t,rfl,hs,ht⟩;refine enter func125 O ntmps125 O (.sr (.box O O λw1 b1 n1=>.an O O ?_));obtain⟨e1,k1,hb1,hs1⟩:=n1;refine .sr (.ldA A3 O O k1 O (.call _ O Q4 O (P9 (up.ext e1.size) (ER.ext eQ h e1) hl hL) λv2 w2 e2 h2=>(.call _ O O3 O (N7 ((up.ext e1.size).ext e2.size) h2 (zl hln hL)) λv3 w3 e3 h3=>?_)));subst h3;refine .an O O (.ret ?_);exact .plain [_] results125 ⟨rfl,trivial⟩ ⟨(e1.trans e2).trans e3,isI (by rw[D0])⟩
theorem AZ3:Ent prog 126:=en func126
theorem AW6{S:Nat->Prop}{w:World}{a b:QV}(up:Up S w)(ha:eQ.R S w va a)(hb:eQ.R S w vb b)(hla:qok L a)(hlb:qok L b)(h1:1<=L)(hL:L<=400000000):CR prog 126 #[va,vb] w (eQ.at S (qc (E3 a*E3 b))):=by
 obtain⟨da1,da2⟩:=AM7 ha;obtain⟨db1,db2⟩:=AM7 hb;have lna:=Ak2 da1 hla;have lda:=Ar5 da2 hla h1;have lnb:=Ak2 db1 hlb;have ldb:=Ar5 db2 hlb h1;have ppa:=Q8 a;have ppb:=Q8 b;have hpp:=dK ppa ppb;have hL9:L<=1000000000:=by omega
 obtain⟨s,t,rfl,hs,ht⟩:=ha;have ha:eQ.R S w (.agg #[.bool a.num.neg,s,.bool a.den.neg,t]) a:=⟨s,t,rfl,hs,ht⟩;obtain⟨s',t',rfl,hs',ht'⟩:=hb;have hb:eQ.R S w (.agg #[.bool b.num.neg,s',.bool b.den.neg,t']) b:=⟨s',t',rfl,hs',ht'⟩;refine enter func126 O ntmps126 O (.sr (.box O O λw1 b2 n1=>.box O O λw2 b3 n2=>.alloc O E8 λw3 b4 n3=>.nil ?_));obtain⟨e1,k2,hb2,hs1⟩:=n1;obtain⟨e2,k3,hb3,hs2⟩:=n2;obtain⟨e3,k4,hb4,hs3⟩:=n3;have x3:=(e1.trans e2).trans e3;have k2:=(k2.ext e2).ext e3;have k3:=k3.ext e3;have hS4:¬ Sx S w.heap.size w3.heap.size b4:=Sx.no (by omega) (by omega);have up3:Up (Sx S w.heap.size w3.heap.size) w3:=Sx.up up (aA _) x3.size;have ha3:=(ER.par eQ ha w3.heap.size).ext x3;have hb3':=(ER.par eQ hb w3.heap.size).ext x3;have hout:∀ {W:World} {v:Value} {z:QV},eQ.R (Sx S w.heap.size w3.heap.size) W v z->eQ.R S W v z:=λh=>h.out;generalize hT:Sx S w.heap.size w3.heap.size=T at *;refine .seq ?_;refine .par follows 11 [.inl _,.inr (eZ.at T (zc (pn a))),.inl _,.inr (eZ.at T (zc (pn b))),.inr (eZ.at T (zc (A6 (zc (pn a))*A6 (zc (pn b))))),.inl _,.inr (eZ.at T (zc (pd a))),.inl _,.inr (eZ.at T (zc (pd b))),.inr (eZ.at T (zc (A6 (zc (pd a))*A6 (zc (pd b))))),
   .inr (eQ.at T (qc (Rat.divInt (A6 (zc (A6 (zc (pn a))*A6 (zc (pn b))))) (A6 (zc (A6 (zc (pd a))*A6 (zc (pd b))))))))]
   [[],[(5,0)],[],[(7,2)],[(6,1),(8,3)],[],[(10,5)],[],[(12,7)],[(11,6),(13,8)],[(9,4),(14,9)]] (by kernel_rfl) ⟨λw e=>(E1 A3 O (k2.ext e) O).ob,λw e=>(A4 _ Q4 O (P9 (up3.ext e.size) (ER.ext eQ ha3 e) hla hL9)).oa,λw e=>(E1 A3 O (k3.ext e) O).ob,λw e=>(A4 _ Q4 O (P9 (up3.ext e.size) (ER.ext eQ hb3' e) hlb hL9)).oa,λw e x hx y hy=>(A4 _ AG7 O (AF7 (up3.ext e.size) hx hy (zl lna hL9) (zl lnb hL9))).oa,λw e=>(E1 A3 O (k2.ext e) O).ob,λw e=>(A4 _ O2 O (N5 (up3.ext e.size) (ER.ext eQ ha3 e) hla hL9)).oa,λw e=>(E1 A3 O (k3.ext e) O).ob,λw e=>(A4 _ O2 O (N5 (up3.ext e.size) (ER.ext eQ hb3' e) hlb hL9)).oa,λw e x hx y hy=>(A4 _ AG7 O (AF7 (up3.ext e.size) hx hy (zl lda hL9) (zl ldb hL9))).oa,λw e x hx y hy=>(A4 _ AI6 O (AH9 (up3.ext e.size) hx hy (zl (by rw[D0,D0];exact AX1 lna lnb) (aA _)) (zl (by rw[D0,D0];exact AX1 lda ldb) (aA _)) (by omega) (by rw[D0,D0,D0];exact hpp))).oa,trivial⟩ ?_
 intro w4 e4 x1 _ x2 _ x3' _ x4 _ x5 _ x6 _ z hz;rw[D0,D0,D0,D0,D0,D0,<-iH] at hz;refine .storeA (E:=eQ) A3 O O (k4.ext e4) O O hz hS4 λw5 k5 u5 h5=>.nil (.ret ?_);exact .cell results126 O A3 O O k5 h5 ⟨u5.below (x3.trans e4) (by omega),hout h5⟩
theorem AN2:Ent prog 129:=en func129
theorem AM1{S:Nat->Prop}{w:World}{a b:QV}(up:Up S w)(ha:eQ.R S w va a)(hb:eQ.R S w vb b)(hla:qok L a)(hlb:qok L b)(h1:1<=L)(hL:L<=400000000):CR prog 129 #[va,vb] w (eQ.at S (qc (E3 a+E3 b))):=by
 obtain⟨da1,da2⟩:=AM7 ha;obtain⟨db1,db2⟩:=AM7 hb;have lna:=Ak2 da1 hla;have lda:=Ar5 da2 hla h1;have lnb:=Ak2 db1 hlb;have ldb:=Ar5 db2 hlb h1;have ppa:=Q8 a;have ppb:=Q8 b;have hpp:=dK ppa ppb;have hL9:L<=1000000000:=by omega
 obtain⟨s,t,rfl,hs,ht⟩:=ha;have ha:eQ.R S w (.agg #[.bool a.num.neg,s,.bool a.den.neg,t]) a:=⟨s,t,rfl,hs,ht⟩;obtain⟨s',t',rfl,hs',ht'⟩:=hb;have hb:eQ.R S w (.agg #[.bool b.num.neg,s',.bool b.den.neg,t']) b:=⟨s',t',rfl,hs',ht'⟩;refine enter func129 O ntmps129 O (.sr (.box O O λw1 b2 n1=>.box O O λw2 b3 n2=>.alloc O E8 λw3 b4 n3=>.nil ?_));obtain⟨e1,k2,hb2,hs1⟩:=n1;obtain⟨e2,k3,hb3,hs2⟩:=n2;obtain⟨e3,k4,hb4,hs3⟩:=n3;have x3:=(e1.trans e2).trans e3;have k2:=(k2.ext e2).ext e3;have k3:=k3.ext e3;have hS4:¬ Sx S w.heap.size w3.heap.size b4:=Sx.no (by omega) (by omega);have up3:Up (Sx S w.heap.size w3.heap.size) w3:=Sx.up up (aA _) x3.size;have ha3:=(ER.par eQ ha w3.heap.size).ext x3;have hb3':=(ER.par eQ hb w3.heap.size).ext x3;have hout:∀ {W:World} {v:Value} {z:QV},eQ.R (Sx S w.heap.size w3.heap.size) W v z->eQ.R S W v z:=λh=>h.out;generalize hT:Sx S w.heap.size w3.heap.size=T at *;refine .seq ?_;refine .parF follows 12 [.inl _,.inr (eZ.at T (zc (pn a))),.inl _,.inr (eZ.at T (zc (pd b))),.inr (eZ.at T (zc (A6 (zc (pn a))*A6 (zc (pd b))))),.inl _,.inr (eZ.at T (zc (pn b))),.inl _,.inr (eZ.at T (zc (pd a))),.inr (eZ.at T (zc (A6 (zc (pn b))*A6 (zc (pd a))))),
   .inr (Ah4 w3.heap.size 37 #[.bool false,.slice none 0 0]),.inr (Ah4 w3.heap.size 37 #[.bool false,.slice none 0 0])]
   [[],[(7,0)],[],[(9,2)],[(8,1),(10,3)],[],[(12,5)],[],[(14,7)],[(13,6),(15,8)],[],[]] (by kernel_rfl) ⟨λw e=>(E1 A3 O (k2.ext e) O).ob,λw e=>(A4 _ Q4 O (P9 (up3.ext e.size) (ER.ext eQ ha3 e) hla hL9)).oa,λw e=>(E1 A3 O (k3.ext e) O).ob,λw e=>(A4 _ O2 O (N5 (up3.ext e.size) (ER.ext eQ hb3' e) hlb hL9)).oa,λw e x hx y hy=>(A4 _ AG7 O (AF7 (up3.ext e.size) hx hy (zl lna hL9) (zl ldb hL9))).oa,λw e=>(E1 A3 O (k3.ext e) O).ob,λw e=>(A4 _ Q4 O (P9 (up3.ext e.size) (ER.ext eQ hb3' e) hlb hL9)).oa,λw e=>(E1 A3 O (k2.ext e) O).ob,λw e=>(A4 _ O2 O (N5 (up3.ext e.size) (ER.ext eQ ha3 e) hla hL9)).oa,λw e x hx y hy=>(A4 _ AG7 O (AF7 (up3.ext e.size) hx hy (zl lnb hL9) (zl lda hL9))).oa,λw e=>R6 F4 e.size,λw e=>R6 F4 e.size,trivial⟩
  ⟨λh=>(by cases h),λh=>(by cases h),λh=>(by cases h),λh=>(by cases h),λh=>(by cases h),λh=>(by cases h),λh=>(by cases h),λh=>(by cases h),λh=>(by cases h),λh=>(by cases h),
   λ_=>⟨_,_,_,rfl,rfl,F4,rfl,aA _⟩,λ_=>⟨_,_,_,rfl,rfl,F4,rfl,aA _⟩,trivial⟩ ?_
 rintro w4 e4 x1-x2-v11 h11 x4-x5-v16 h16 _ ⟨b5,rfl,hb5,k5⟩ _ ⟨b6,rfl,hb6,k6⟩ hA;have hne:b6≠b5:=by intro e;subst e;exact hA 5 6 _ _ (by decide) ⟨_,List.mem_of_getElem? (i:=10) rfl,rfl,rfl⟩ ⟨_,List.mem_of_getElem? (i:=11) rfl,rfl,rfl⟩ rfl O rfl
 rw[D0,D0] at h11 h16;have h16':=BP9 (BP9 h16 k5 Ah9) k6 Ah9;have h11':=BP9 (BP9 h11 k5 Ah9) k6 Ah9;refine .storeA (E:=eZ) B6 O O k5 O O h11' (λh=>h.1.2 O) λw5 k5 u5 h11=>(.storeA (E:=eZ) B6 O O (k6.upd u5 hne) O O (ER.upd eZ h16' u5 (λh=>h.1.2 O)) (λh=>h.2 O) λw6 k6 u6 h16=>.nil ?_);have h11:=ER.upd eZ h11 u6 (λh=>h.2 O);have k5:=k5.upd u6 (Ne.symm hne);have e36:Ext w3 w6:=u6.below (u5.below e4 hb5) hb6;have x6:=x3.trans e36;have k2:=k2.ext e36;have k3:=k3.ext e36;have k4:=k4.ext e36;have up6:=up3.ext e36.size;have ha6:=ER.ext eQ ha3 e36;have hb6':=ER.ext eQ hb3' e36;have h11:eZ.R T w6 v11 (zc (pn a*pd b)):=ER.mono eZ (λ_ _ h=>h.1.1) h11;have h16:eZ.R T w6 v16 (zc (pn b*pd a)):=ER.mono eZ (λ_ _ h=>h.1.1) h16;obtain⟨s11,rfl,hs11⟩:=h11;have h11:eZ.R T w6 (.agg #[.bool (zc (pn a*pd b)).neg,s11]) (zc (pn a*pd b)):=⟨s11,rfl,hs11⟩;obtain⟨s16,rfl,hs16⟩:=h16;have h16:eZ.R T w6 (.agg #[.bool (zc (pn b*pd a)).neg,s16]) (zc (pn b*pd a)):=⟨s16,rfl,hs16⟩;refine .seq ?_;have m1:=AX1 lna ldb;have m2:=AX1 lnb lda;have m3:=AX1 lda ldb;have m4:=Bu4 m1 m2;refine .par follows 9 [.inl (.agg #[.bool (zc (pn a*pd b)).neg,s11]),.inl (.agg #[.bool (zc (pn b*pd a)).neg,s16]),.inr (eZ.at T (zc (A6 (zc (pn a*pd b))+A6 (zc (pn b*pd a))))),.inl _,.inr (eZ.at T (zc (pd a))),.inl _,.inr (eZ.at T (zc (pd b))),.inr (eZ.at T (zc (A6 (zc (pd a))*A6 (zc (pd b))))),
   .inr (eQ.at T (qc (Rat.divInt (A6 (zc (A6 (zc (pn a*pd b))+A6 (zc (pn b*pd a))))) (A6 (zc (A6 (zc (pd a))*A6 (zc (pd b))))))))]
   [[],[],[(17,0),(18,1)],[],[(20,3)],[],[(22,5)],[(21,4),(23,6)],[(19,2),(24,7)]] (by kernel_rfl) ⟨λw e=>(E1 B6 O (k5.ext e) O).ob,λw e=>(E1 B6 O (k6.ext e) O).ob,λw e=>(A4 _ BZ8 O (BV3 (up6.ext e.size) (ER.ext eZ h11 e) (ER.ext eZ h16 e) (zl m1 (by omega)) (zl m2 (by omega)))).oa,λw e=>(E1 A3 O (k2.ext e) O).ob,λw e=>(A4 _ O2 O (N5 (up6.ext e.size) (ER.ext eQ ha6 e) hla hL9)).oa,λw e=>(E1 A3 O (k3.ext e) O).ob,λw e=>(A4 _ O2 O (N5 (up6.ext e.size) (ER.ext eQ hb6' e) hlb hL9)).oa,λw e x hx y hy=>(A4 _ AG7 O (AF7 (up6.ext e.size) hx hy (zl lda hL9) (zl ldb hL9))).oa,λw e x hx y hy=>(A4 _ AI6 O (AH9 (L:=L+L+1) (up6.ext e.size) hx hy (zl (by rw[D0,D0];exact m4) (aA _)) (zl (by rw[D0,D0];exact m3) (by omega)) (by omega) (by rw[D0,D0,D0];exact hpp))).oa,trivial⟩ ?_
 intro w7 e7 x1 _ x2 _ x3' _ x4 _ z hz;rw[D0,D0,D0,D0,D0,D0,<-Rat.divInt_add_divInt _ _ (by omega) (by omega)] at hz;refine .storeA (E:=eQ) A3 O O (k4.ext e7) O O hz hS4 λw8 k8 u8 h8=>.nil (.ret ?_);exact .cell results129 O A3 O O k8 h8 ⟨u8.below (x6.trans e7) (by omega),hout h8⟩
@[reducible] def NewE {α:Type} (E:ER α) (T:Nat->Prop) (B:Nat) (t:TypeId) (n:α):Value->World->Prop:=λv W=>∃ b e,v=.slice (some ⟨b,0,none⟩) 1 1/\B<=b/\Blk W b t e.cells/\E.R T W e n
theorem ob_bslE{P:Program}{σ:Env}{w:World}{d:Option Tmp}{ty:TypeId}{pos:String}{af:Array Edge}{g:Option (Nat×Bool)}{E:ER α}{T:Nat->Prop}{n:α}{t te:TypeId}{B:Nat}{ps:List (Nat×Operand)}{x:Value}(hv:evp σ ps=some [(0,x)])(hc:Y7 P t 1 [(0,x)]=some (te,x.cells))(hx:E.R T w x n)(hB:B<=w.heap.size) :
  Gv P ⟨d,.buildSlice t 1 ps.toArray,ty,pos,af,g⟩ σ w λv' w'=>Ext w w'/\Sp.ok (.inr (NewE E T B te n)) v' w' :=
 (Ad7 _ hv hc).mono λv' w' ⟨b,hv,hn⟩=>⟨hn.1,λw'' e=>⟨b,x,hv,by have:=hn.2.2.1;omega,hn.2.1.ext e,E.ext (E.ext hx hn.1) e⟩⟩
def atI (a:List QV) (i:Int):QV:=if i<0 then q0 else a.getD i.toNat q0
theorem X9(a:List QV)(i:Nat):atI a i=a.getD i q0:=by unfold atI;rw[if_neg (by omega)];simp
theorem AZ1:Ent prog 77:=en func77
theorem AW4{S:Nat->Prop}{w:World}{a b:QV}(up:Up S w)(ha:eQ.R S w va a)(hb:eQ.R S w vb b)(hla:qok L a)(hlb:qk L b)(h1:1<=L)(hL:L<=400000000):CR prog 77 #[va,vb] w (eQ.at S (qc (E3 a-E3 b))):=by obtain⟨s,t,rfl,hs,ht⟩:=ha;have ha:eQ.R S w (.agg #[.bool a.num.neg,s,.bool a.den.neg,t]) a:=⟨s,t,rfl,hs,ht⟩;obtain⟨s',t',rfl,hs',ht'⟩:=hb;have hb:eQ.R S w (.agg #[.bool b.num.neg,s',.bool b.den.neg,t']) b:=⟨s',t',rfl,hs',ht'⟩;refine enter func77 O ntmps77 O (.sr (.box O O λw1 b2 n1=>.box O O λw2 b3 n2=>.alloc O E8 λw3 b4 n3=>.nil ?_));obtain⟨e1,k2,hb2,hs1⟩:=n1;obtain⟨e2,k3,hb3,hs2⟩:=n2;obtain⟨e3,k4,hb4,hs3⟩:=n3;have x3:=(e1.trans e2).trans e3;have k2:=(k2.ext e2).ext e3;have k3:=k3.ext e3;have hS4:¬ Sx S w.heap.size w3.heap.size b4:=Sx.no (by omega) (by omega);have up3:Up (Sx S w.heap.size w3.heap.size) w3:=Sx.up up (aA _) x3.size;have ha3:=(ER.par eQ ha w3.heap.size).ext x3;have hb3':=(ER.par eQ hb w3.heap.size).ext x3;have hout:∀ {W:World} {v:Value} {z:QV},eQ.R (Sx S w.heap.size w3.heap.size) W v z->eQ.R S W v z:=λh=>h.out;generalize hT:Sx S w.heap.size w3.heap.size=T at *;refine .seq ?_;refine .par follows 4 [.inl (.agg #[.bool a.num.neg,s,.bool a.den.neg,t]),.inl (.agg #[.bool b.num.neg,s',.bool b.den.neg,t']),.inr (eQ.at T (qc (-E3 b))),.inr (eQ.at T (qc (E3 a+E3 (qc (-E3 b)))))] [[],[],[(6,1)],[(5,0),(7,2)]] (by kernel_rfl) ⟨λw e=>(E1 A3 O (k2.ext e) O).ob,λw e=>(E1 A3 O (k3.ext e) O).ob,λw e=>(A4 _ AZ2 O (AW5 (up3.ext e.size) (ER.ext eQ hb3' e) hlb.1 h1 (by omega))).oa,λw e x hx=>(A4 _ AN2 O (AM1 (up3.ext e.size) (ER.ext eQ ha3 e) hx hla (Rsz.toOk hlb.2.neg) h1 hL)).oa,trivial⟩ ?_;intro w4 e4 x _ z hz;rw[C3,<-cW] at hz;refine .storeA (E:=eQ) A3 O O (k4.ext e4) O O hz hS4 λw5 k5 u5 h5=>.nil (.ret ?_);exact .cell results77 O A3 O O k5 h5 ⟨u5.below (x3.trans e4) (by omega),hout h5⟩
theorem P2:Ent prog 181:=en func181
theorem O6{S:Nat->Prop}{w:World}{v:Value}{a:List QV}{i:Int}(h:eV.R S w v a):CR prog 181 #[v,iW i] w (eQ.at S (atI a i)):=by
 refine enter func181 O ntmps181 O (.sr (.alloc O E8 λw1 b4 n1=>.nil ?_));obtain⟨e1,k4,hb4,hs1⟩:=n1;have hS4:¬ Sx S w.heap.size w1.heap.size b4:=Sx.no (by omega) (by omega);have h1:=(ER.par eV h w1.heap.size).ext e1;refine .seq (.sr (.mv O O ?_));by_cases h0:0<=i
 ·refine .geqT O O O h0 (.mv O O (.gr O O O O (.mv O O (.gr O O O O (.mv O O (.gr O O O O (.lenR C9 O O h1 (.gr O O O O ?_))))))));by_cases hl:i<a.length
  ·refine .lssT O O O hl (.pick O O O (.nil (.condT O (.sr (.mv O O (.mv O O ?_))))));obtain⟨j,rfl⟩:∃ j:Nat,i=j:=⟨i.toNat,by omega⟩;refine .ixN (i:=j) C9 A3 O O h1 O (B0 (z:=q0) (by omega)) λp hp=>.ldE A3 O O hp λe he=>(.storeA (E:=eQ) A3 O O k4 O O he hS4 λw5 k5 u5 h5=>.nil (.ret ?_));exact .cell results181 O A3 O O k5 h5 ⟨u5.below e1 (by omega),by rw[X9];exact h5.out⟩
  ·refine .lssF O O O hl (.pick O O O (.nil (.condF O (.skip (.sr (.bld [] O O AC4 ?_))))));have hq:eQ.R (Sx S w.heap.size w1.heap.size) w1 (.agg #[.bool false,.slice none 0 0,.bool false,.slice none 0 0]) q0:=⟨_,_,rfl,RL.nil,RL.nil⟩;refine .storeA (E:=eQ) A3 O O k4 O O hq hS4 λw5 k5 u5 h5=>.nil (.ret (.cell results181 O A3 O O k5 h5 ⟨u5.below e1 (by omega),?_⟩));rw[show atI a i=q0 by unfold atI;rw[if_neg (by omega),aF,aH (by omega)];rfl];exact h5.out
 ·refine .geqF O O O h0 (.mv O O (.gs O O O O O (.gs O O O O O (.gs O O O O O (.gs O O O O O (.pick O O O (.nil (.condF O (.skip (.sr (.bld [] O O AC4 ?_)))))))))));have hq:eQ.R (Sx S w.heap.size w1.heap.size) w1 (.agg #[.bool false,.slice none 0 0,.bool false,.slice none 0 0]) q0:=⟨_,_,rfl,RL.nil,RL.nil⟩;refine .storeA (E:=eQ) A3 O O k4 O O hq hS4 λw5 k5 u5 h5=>.nil (.ret (.cell results181 O A3 O O k5 h5 ⟨u5.below e1 (by omega),?_⟩));rw[show atI a i=q0 by unfold atI;rw[if_pos (by omega)]];exact h5.out
theorem bslE_V{x y z u:Value}:Y7 prog 26 1 [(0,.agg #[x,y,z,u])]=some (39,(Value.agg #[x,y,z,u]).cells):=by kernel_rfl
theorem AH3:Ent prog 182:=en func182
theorem AG9{S:Nat->Prop}{w:World}{k:QV}{a b:List QV}(up:Up S w)(hk:eQ.R S w vk_ k)(ha:eV.R S w va a)(hb:eV.R S w vb b)(hkk:qk L k)(hka:vk L a)(hkb:vk L b)(hL:1<=L)(hL2:L<=100000000)(hla:a.length<=100000000)(hlb:b.length<=100000000) :
  CR prog 182 #[vk_,va,vb] w (eV.at S (tab (max a.length b.length) λi=>E3 k*rv a i+rv b i)):=by
 obtain⟨s,t,rfl,hs,ht⟩:=hk;have hk:eQ.R S w (.agg #[.bool k.num.neg,s,.bool k.den.neg,t]) k:=⟨s,t,rfl,hs,ht⟩;refine enter func182 O ntmps182 O (.sr (.box O O λw1 b3 n1=>.an O O (.sr (.an O O (.seq (.sr (.an O O ?_)))))));obtain⟨e1,k3,hb3,hs1⟩:=n1;have hB1:∀ {W:World},Ext w1 W->Kp (λk=>S k/\k<w1.heap.size) w1 W:=λhB k c t f hk h=>(hB.block k hk.2).trans h;have hK:∀ {W:World},Ext w1 W->eQ.R (λk=>S k/\k<w1.heap.size) W (.agg #[.bool k.num.neg,s,.bool k.den.neg,t]) k:=λhB=>eQ.keep (hB1 hB) (ER.lt eQ (ER.ext eQ hk e1));have hA:∀ {W:World},Ext w1 W->eV.R (λk=>S k/\k<w1.heap.size) W va a:=λhB=>eV.keep (hB1 hB) (ER.lt eV (ER.ext eV ha e1));have hBb:∀ {W:World},Ext w1 W->eV.R (λk=>S k/\k<w1.heap.size) W vb b:=λhB=>eV.keep (hB1 hB) (ER.lt eV (ER.ext eV hb e1));have up1:=up.ext e1.size;generalize hf:(λi=>qc (E3 k*rv a i+rv b i))=f;generalize hM:max a.length b.length=M;refine .block (.loop (α:=Nat×Value) (λx=>[(1,va),(2,vb),(3,pW b3),(7,x.2),(8,iW (x.1:Nat))]) (λx W=>Ext w1 W/\x.1<=M/\B4 eQ 39 w1.heap.size S W x.2 ((List.range x.1).map f)) (λx=>M-x.1) (0,.slice none 0 0) ?_ ?_ ?_)
 ·exact lkA rfl
 ·exact⟨Ext.refl _,aC _,B4.nil⟩
 ·rintro⟨i,u⟩ W ⟨hB,hi,ho⟩;replace hB:Ext w1 W:=hB;replace hi:i<=M:=hi;replace ho:B4 eQ 39 w1.heap.size S W u ((List.range i).map f):=ho;refine .weak [(1,va),(2,vb),(3,pW b3),(7,u),(8,iW (i:Nat))] (λt v h=>h) ?_;have hsz:=hB.size;have fin:i=M->Ext w W/\eV.at S (tab M λi=>E3 k*rv a i+rv b i) u W:=by intro h;subst h;refine⟨e1.trans hB,?_⟩;unfold tab;rw[hf];exact ho.toR (λk hk=>up1 k hk) (λ_ h=>h)
  refine .mid (α:=Unit) (λ_=>[(1,va),(2,vb),(3,pW b3),(7,u),(8,iW (i:Nat))]) (λ_ W'=>W'=W/\i<M) ?_ ?_
  ·refine .sr (.mv O O (.mv O O (.lenR C9 O O (hA hB) ?_)));by_cases h1:i<a.length
   ·refine .lssT O O O (by omega) (.mv O O (.gs O O O O O (.gs O O O O O (.gs O O O O O (.gs O O O O O (.pick O O O (.nil (.condT O (.skip ?_)))))))));exact⟨rfl,(),lkA rfl,rfl,by omega⟩
   ·refine .lssF O O O (by omega) (.mv O O (.gr O O O O (.mv O O (.gr O O O O (.mv O O (.gr O O O O (.lenR C9 O O (hBb hB) (.gr O O O O ?_))))))));by_cases h2:i<b.length
    ·refine .lssT O O O (by omega) (.pick O O O (.nil (.condT O (.skip ?_))));exact⟨rfl,(),lkA rfl,rfl,by omega⟩
    ·refine .lssF O O O (by omega) (.pick O O O (.nil (.condF O (.exit (.sr (.mv O O (.an O O (.ret ?_))))))));exact .p1 _ results182 O (fin (by omega))
  ·rintro _ W' ⟨hWW,hlt⟩;have hWW:=hWW.symm;subst hWW;obtain⟨es,ho1,ho2⟩:=id ho;have hTu:∀ k',S k'/\k'<w1.heap.size->S k'/\u.ownBlock≠some k':=λk' hk'=>⟨hk'.1,λh=>by have:=(ho1.lt k' h).1;have:=hk'.2;omega⟩;have hKT:=eQ.mono (λk' _ h=>hTu k' h) (hK hB);have hAT:=eV.mono (λk' _ h=>hTu k' h) (hA hB);have hBT:=eV.mono (λk' _ h=>hTu k' h) (hBb hB);have upT:Up (λk'=>S k'/\u.ownBlock≠some k') W:=λk' hk'=>⟨up1 k' (by omega),λh=>by have:=(ho1.lt k' h).2;omega⟩;generalize hT:(λk'=>S k'/\u.ownBlock≠some k')=T at *;have k3W:=k3.ext hB;have hai:=(hka.get hL i).1;have hbi:=(hkb.get hL i).1;have hm2:Rsz (E3 k*E3 (atI a i)) (L+L):=by rw[X9];exact hkk.2.mul (hka.get hL i).2
   refine .seq (.block ?_);refine .par follows 11 [.inl u,.inl (.agg #[.bool k.num.neg,s,.bool k.den.neg,t]),.inl va,.inl (iW (i:Nat)),.inr (eQ.at T (atI a i)),.inr (eQ.at T (qc (E3 k*E3 (atI a i)))),.inl vb,.inl (iW (i:Nat)),.inr (eQ.at T (atI b i)),.inr (eQ.at T (qc (E3 (qc (E3 k*E3 (atI a i)))+E3 (atI b i)))),.inr (NewE eQ T W.heap.size 39 (qc (E3 (qc (E3 k*E3 (atI a i)))+E3 (atI b i))))]
     [[],[],[],[],[(23,2),(24,3)],[(22,1),(25,4)],[],[],[(27,6),(28,7)],[(26,5),(29,8)],[(30,9)]] (by kernel_rfl) ⟨mvo O,λw e=>(E1 A3 O (k3W.ext e) O).ob,mvo O,mvo O,λw e=>(A4 _ P2 O (O6 (ER.ext eV hAT e))).oa,λw e x hx=>(A4 _ AZ3 O (AW6 (L:=L) (upT.ext e.size) (ER.ext eQ hKT e) hx hkk.1 (by rw[X9];exact hai) hL (by omega))).oa,mvo O,mvo O,λw e=>(A4 _ P2 O (O6 (ER.ext eV hBT e))).oa,λw e x hx y hy=>(A4 _ AN2 O (AM1 (L:=L+L) (upT.ext e.size) hx hy hm2.toOk (by rw[X9];exact hbi.mono (by omega)) (by omega) (by omega))).oa,λw e x hx=>by
     obtain⟨p1,p2,rfl,hp1,hp2⟩:=hx;exact ob_bslE (E:=eQ) (T:=T) O bslE_V ⟨p1,p2,rfl,hp1,hp2⟩ e.size,trivial⟩ ?_
   rintro W2 e2 x1-x2-x3-x4-_ ⟨b5,e5,rfl,hb5,k5,h5⟩;rw[C3,X9,X9] at h5;have hB2:=hB.trans e2;subst hT;refine .gv O O (L5 (E:=eQ) (base:=w1.heap.size) (by decide) C9 J4 O O O (ho.ext e2) k5 h5 (by simp;omega) (by decide) hB2.size) ?_;rintro v4 W4 ⟨ho4,hg4⟩;refine .an O O (.region (.mv O O (.add O O O (.an O O ?_))));rw[wI (by omega)];refine⟨rfl,(i+1,v4),lkA rfl,⟨(ho.ext e2).below hg4 hB2 hB2.size,hlt,?_⟩,by show M-(i+1)<M-i;omega⟩;show B4 eQ 39 w1.heap.size S W4 v4 ((List.range (i+1)).map f);rw[aP,aM,<-hf];rw[<-hf] at ho4;exact ho4
theorem BI4:Ent prog 246:=en func246
theorem BG5{S:Nat->Prop}{w:World}{k:QV}{a:List QV}(up:Up S w)(hk:eQ.R S w vk_ k)(ha:eV.R S w va a)(hkk:qk L k)(hka:vk L a)(hL:1<=L)(hL2:L<=100000000)(hla:a.length<=100000000) :
  CR prog 246 #[vk_,va] w (eV.at S (tab a.length λi=>E3 k*rv a i)):=by
 obtain⟨s,t,rfl,hs,ht⟩:=hk;have hk:eQ.R S w (.agg #[.bool k.num.neg,s,.bool k.den.neg,t]) k:=⟨s,t,rfl,hs,ht⟩;refine enter func246 O ntmps246 O (.sr (.box O O λw1 b2 n1=>.an O O ?_));obtain⟨e1,k2,hb2,hs1⟩:=n1;refine .sr (.ldA A3 O O k2 O (.mv O O (.call _ O AH3 O (AG9 (b:=[]) (up.ext e1.size) (ER.ext eQ hk e1) (ER.ext eV ha e1) RL.nil hkk hka BL9 hL hL2 hla (by simp)) λv2 w2 e2 h2=>.an O O (.ret (.plain [_] results246 ⟨rfl,trivial⟩ ⟨e1.trans e2,?_⟩)))));have:(λi=>E3 k*rv a i+rv [] i)=λi=>E3 k*rv a i:=by funext i;rw[AS0,dP]
 rw[this,show max a.length ([]:List QV).length=a.length by simp] at h2;exact h2
theorem rmI_atI(m:List (List QV))(i:Nat)(k:Int):E3 (atI (m.getD i []) k)=rmI m i k:=by
 unfold rmI atI;by_cases h:k<0
 ·rw[if_pos h,if_pos (.inr h)];exact BN7
 ·rw[if_neg h,if_neg (by omega)];simp[rm,rv]
theorem Ah7:Ent prog 248:=en func248
theorem Af8{S:Nat->Prop}{w:World}{vm:Value}{m:List (List QV)}{i k:Int}(up:Up S w)(hm:eM.R S w vm m)(hk:mk_ L m)(hL:1<=L)(hL2:L<=1000000000):CR prog 248 #[vm,iW i,iW k] w (eQ.at S (qc (rmI m i k))):=by
 refine enter func248 O ntmps248 O (.sr (.alloc O E8 λw1 b6 n1=>.nil ?_));obtain⟨e1,k6,hb6,hs1⟩:=n1;have hS:¬ Sx S w.heap.size w1.heap.size b6:=Sx.no (by omega) (by omega);have up1:Up (Sx S w.heap.size w1.heap.size) w1:=Sx.up up (aA _) e1.size;have h1:=(ER.par eM hm w1.heap.size).ext e1;have hout:∀ {W:World} {v:Value} {z:QV},eQ.R (Sx S w.heap.size w1.heap.size) W v z->eQ.R S W v z:=λh=>h.out;generalize hT:Sx S w.heap.size w1.heap.size=T at *;have hq:eQ.R T w1 (.agg #[.bool false,.slice none 0 0,.bool false,.slice none 0 0]) (qc 0):=by rw[Q7];exact⟨_,_,rfl,RL.nil,RL.nil⟩
 refine .seq (.sr (.mv O O ?_));by_cases h0:i<0
 ·refine .lssT O O O h0 (.mv O O (.gs O O O O O (.gs O O O O O (.gs O O O O O (.gs O O O O O (.pick O O O (.nil (.condT O (.sr (.bld [] O O AC4 (.storeA (E:=eQ) A3 O O k6 O O hq hS λw5 k5 u5 h5=>.nil (.ret (.cell results248 O A3 O O k5 h5 ⟨u5.below e1 (by omega),?_⟩)))))))))))));rw[show rmI m i k=0 by unfold rmI;rw[if_pos (.inl h0)]];exact hout h5
 ·refine .lssF O O O h0 (.mv O O (.gr O O O O (.mv O O (.gr O O O O (.mv O O (.gr O O O O (.lenR E4 O O h1 (.gr O O O O ?_))))))));by_cases hl:(m.length:Int)<=i
  ·refine .geqT O O O hl (.pick O O O (.nil (.condT O (.sr (.bld [] O O AC4 (.storeA (E:=eQ) A3 O O k6 O O hq hS λw5 k5 u5 h5=>.nil (.ret (.cell results248 O A3 O O k5 h5 ⟨u5.below e1 (by omega),?_⟩))))))));rw[show rmI m i k=0 by unfold rmI;split;rfl;exact BN1 (by omega)];exact hout h5
  ·refine .geqF O O O hl (.pick O O O (.nil (.condF O (.skip (.sr (.mv O O (.mv O O ?_)))))));obtain⟨j,rfl⟩:∃ j:Nat,i=j:=⟨i.toNat,by omega⟩;refine .ixN (i:=j) E4 C2 O O h1 O (B0 (z:=[]) (by omega)) λp hp=>.ldE C2 O O hp λe he=>.mv O O (.call _ O P2 O (O6 he) λv2 w2 e2 h2=>?_);have hqa:qok L (atI (m.getD j []) k):=by
    unfold atI;split
    ·exact (qk_q0 hL).1
    ·exact ((hk.get j).get hL _).1
   refine .call _ O AP0 O (AO0 (up1.ext e2.size) h2 hqa hL hL2) λv3 w3 e3 h3=>?_;rw[rmI_atI] at h3;refine .storeA (E:=eQ) A3 O O ((k6.ext e2).ext e3) O O h3 hS λw5 k5 u5 h5=>.nil (.ret ?_);exact .cell results248 O A3 O O k5 h5 ⟨u5.below ((e1.trans e2).trans e3) (by omega),hout h5⟩
theorem BI3:Ent prog 270:=en func270
theorem Bu0{S:Nat->Prop}{w:World}{k:QV}{a:List (List QV)}{i j:Int}(up:Up S w)(hk:eQ.R S w vk_ k)(ha:eM.R S w va a)(hka:mk_ L a)(hL:1<=L)(hL2:L<=1000000000) :
  CR prog 270 #[.int .u8 1,vk_,va,vb,iW i,iW j] w (eQ.at S (qc (rmI a j i))):=by
 obtain⟨s,t,rfl,hs,ht⟩:=hk;refine enter func270 O ntmps270 O (.sr (.box O O λw1 b7 n1=>.alloc O E8 λw2 b12 n2=>.nil ?_));obtain⟨e1,k7,hb7,hs1⟩:=n1;obtain⟨e2,k12,hb12,hs2⟩:=n2;have x2:=e1.trans e2;have hS:¬ Sx S w.heap.size w2.heap.size b12:=Sx.no (by omega) (by omega);have up2:Up (Sx S w.heap.size w2.heap.size) w2:=Sx.up up (aA _) x2.size;have ha2:=(ER.par eM ha w2.heap.size).ext x2;refine .seq (.sr (.mv O O (.nil (.block (.sr (.eqlT O O O O (.an O O (.condT O (.sr (.mv O O (.mv O O (.mv O O (.call _ O Ah7 O (Af8 up2 ha2 hka hL hL2) λv3 w3 e3 h3=>(.storeA (E:=eQ) A3 O O (k12.ext e3) O O h3 hS λw5 k5 u5 h5=>.nil (.ret ?_)))))))))))))));exact .cell results270 O A3 O O k5 h5 ⟨u5.below (x2.trans e3) (by omega),h5.out⟩
theorem Az6{S:Nat->Prop}{w:World}{k:QV}{a:List (List QV)}{i j:Int}(up:Up S w)(hk:eQ.R S w vk_ k)(ha:eM.R S w va a)(hkk:qk L k)(hka:mk_ L a)(hL:1<=L)(hL2:L<=100000000) :
  CR prog 270 #[.int .u8 0,vk_,va,vb,iW i,iW j] w (eQ.at S (qc (E3 k*rmI a i j))):=by
 obtain⟨s,t,rfl,hs,ht⟩:=hk;have hk:eQ.R S w (.agg #[.bool k.num.neg,s,.bool k.den.neg,t]) k:=⟨s,t,rfl,hs,ht⟩;refine enter func270 O ntmps270 O (.sr (.box O O λw1 b7 n1=>.alloc O E8 λw2 b12 n2=>.nil ?_));obtain⟨e1,k7,hb7,hs1⟩:=n1;obtain⟨e2,k12,hb12,hs2⟩:=n2;have x2:=e1.trans e2;have k7:=k7.ext e2;have hS:¬ Sx S w.heap.size w2.heap.size b12:=Sx.no (by omega) (by omega);have up2:Up (Sx S w.heap.size w2.heap.size) w2:=Sx.up up (aA _) x2.size;have ha2:=(ER.par eM ha w2.heap.size).ext x2;have hk2:=(ER.par eQ hk w2.heap.size).ext x2;have hout:∀ {W:World} {v:Value} {z:QV},eQ.R (Sx S w.heap.size w2.heap.size) W v z->eQ.R S W v z:=λh=>h.out;generalize hT:Sx S w.heap.size w2.heap.size=T at *;have hr:qok L (qc (rmI a i j)):=by
  unfold rmI;split
  ·exact (Rsz.zero hL).toOk
  ·exact (hka.rsz hL _ _).toOk
 refine .seq (.sr (.mv O O (.nil (.block (.sr (.eqlF O O O (by decide) (.an O O (.condF O (.sr (.eqlF O O O (by decide) (.an O O (.condF O (.sr (.eqlF O O O (by decide) (.an O O (.condF O (.skip (.seq ?_))))))))))))))))));refine .par follows 6 [.inl (.agg #[.bool k.num.neg,s,.bool k.den.neg,t]),.inl va,.inl (iW i),.inl (iW j),.inr (eQ.at T (qc (rmI a i j))),.inr (eQ.at T (qc (E3 k*E3 (qc (rmI a i j)))))] [[],[],[],[],[(61,1),(62,2),(63,3)],[(60,0),(64,4)]] (by kernel_rfl) ⟨λw e=>(E1 A3 O (k7.ext e) O).ob,mvo O,mvo O,mvo O,λw e=>(A4 _ Ah7 O (Af8 (up2.ext e.size) (ER.ext eM ha2 e) hka hL (by omega))).oa,λw e x hx=>(A4 _ AZ3 O (AW6 (up2.ext e.size) (ER.ext eQ hk2 e) hx hkk.1 hr hL (by omega))).oa,trivial⟩ ?_;rintro w3 e3 x-z hz;rw[C3] at hz;refine .storeA (E:=eQ) A3 O O (k12.ext e3) O O hz hS λw5 k5 u5 h5=>.nil (.ret ?_);exact .cell results270 O A3 O O k5 h5 ⟨u5.below (x2.trans e3) (by omega),hout h5⟩
theorem Bv0{w:World}{v:Value}{t:TypeId}{sz n B B':Nat}{xs:List Value}(h:w.ownsRow B t sz v n xs)(hB:B'<=B):w.ownsRow B' t sz v n xs:=by
 refine⟨h.1,?_⟩;rcases h.2 with h | ⟨g,cap,cur,h1,h2,h3⟩
 ·exact .inl h
 ·exact .inr ⟨g,cap,cur,h1,aG hB h2,h3⟩
theorem B4.base{E:ER α}{t:TypeId}{B B':Nat}{X:Nat->Prop}{w:World}{v:Value}{l:List α}(h:B4 E t B X w v l)(hB:B'<=B):B4 E t B' X w v l:=by obtain⟨es,h1,h2⟩:=h;exact⟨es,Bv0 h1 hB,h2⟩
theorem BR4:Ent prog 266:=en func266
theorem BG4{S:Nat->Prop}{w:World}{c:Nat}{kind:Int}{k:QV}{a b:List (List QV)}{f:Nat->Nat->Rat}(up:Up S w)(hk:eQ.R S w vk_ k)(ha:eM.R S w va a)(hb:eM.R S w vb b)(hr:r<=100000000)(hc:c<=100000000)(hf:∀ {T:Nat->Prop} {W:World} {i j:Nat},Up T W->eQ.R T W vk_ k->eM.R T W va a->eM.R T W vb b->i<r->j<c->CR prog 270 #[.int .u8 kind,vk_,va,vb,iW i,iW j] W (eQ.at T (qc (f i j)))) :
  CR prog 266 #[iW r,iW c,.int .u8 kind,vk_,va,vb] w (λv W=>B4 eV 26 w.heap.size S W v (C6 r c f)):=by
 obtain⟨s,t,rfl,hs,ht⟩:=hk;have hk:eQ.R S w (.agg #[.bool k.num.neg,s,.bool k.den.neg,t]) k:=⟨s,t,rfl,hs,ht⟩;refine enter func266 O ntmps266 O ?_;refine .sr (.box O O λw1 b9 n1=>.an O O (.sr (.an O O (.seq (.sr (.an O O ?_))))));obtain⟨e1,k9,hb9,hs1⟩:=n1;have hB1:∀ {W:World},Ext w1 W->Kp (λk=>S k/\k<w1.heap.size) w1 W:=λhB k c t f hk h=>(hB.block k hk.2).trans h;have hK:∀ {W:World},Ext w1 W->eQ.R (λk=>S k/\k<w1.heap.size) W (.agg #[.bool k.num.neg,s,.bool k.den.neg,t]) k:=λhB=>eQ.keep (hB1 hB) (ER.lt eQ (ER.ext eQ hk e1));have hA:∀ {W:World},Ext w1 W->eM.R (λk=>S k/\k<w1.heap.size) W va a:=λhB=>eM.keep (hB1 hB) (ER.lt eM (ER.ext eM ha e1));have hBb:∀ {W:World},Ext w1 W->eM.R (λk=>S k/\k<w1.heap.size) W vb b:=λhB=>eM.keep (hB1 hB) (ER.lt eM (ER.ext eM hb e1));have up1:=up.ext e1.size;generalize hG:(λi=>tab c (f i))=G;refine .block (.loop (α:=Nat×Value) (λx=>[(0,iW (r:Nat)),(1,iW (c:Nat)),(2,.int .u8 kind),(4,va),(5,vb),(9,pW b9),(13,x.2),(14,iW (x.1:Nat))]) (λx W=>Ext w1 W/\x.1<=r/\B4 eV 26 w1.heap.size S W x.2 ((List.range x.1).map G)) (λx=>r-x.1) (0,.slice none 0 0) ?_ ?_ ?_)
 ·exact lkA rfl
 ·exact⟨Ext.refl _,aC _,B4.nil⟩
 ·rintro⟨i,u⟩ W ⟨hB,hi,ho⟩;replace hB:Ext w1 W:=hB;replace hi:i<=r:=hi;replace ho:B4 eV 26 w1.heap.size S W u ((List.range i).map G):=ho;refine .weak [(0,iW (r:Nat)),(1,iW (c:Nat)),(2,.int .u8 kind),(4,va),(5,vb),(9,pW b9),(13,u),(14,iW (i:Nat))] (λt v h=>h) ?_;have hsz:=hB.size;refine .seq (.sr (.mv O O (.mv O O ?_)));by_cases hlt:i<r
  ·refine .lssT O O O (by omega) (.nil (.condT O (.skip (.seq (.block (.sr (.an O O ?_)))))));obtain⟨es,ho1,ho2⟩:=id ho;have hTu:∀ k',S k'/\k'<w1.heap.size->S k'/\u.ownBlock≠some k':=λk' hk'=>⟨hk'.1,λh=>by have:=(ho1.lt k' h).1;have:=hk'.2;omega⟩;have upT:Up (λk'=>S k'/\u.ownBlock≠some k') W:=λk' hk'=>⟨up1 k' (by omega),λh=>by have:=(ho1.lt k' h).2;omega⟩;refine .mid (α:=Value) (λx=>[(0,iW (r:Nat)),(1,iW (c:Nat)),(2,.int .u8 kind),(4,va),(5,vb),(9,pW b9),(13,u),(14,iW (i:Nat)),(15,x)]) (λx W'=>Ext W W'/\eV.R (λk'=>S k'/\u.ownBlock≠some k') W' x (tab c (f i))) ?_ ?_
   ·refine .sr (.an O O ?_);generalize hg:(λj=>qc (f i j))=g;refine .block (.loop (α:=Nat×Value) (λx=>[(0,iW (r:Nat)),(1,iW (c:Nat)),(2,.int .u8 kind),(4,va),(5,vb),(9,pW b9),(13,u),(14,iW (i:Nat)),(15,x.2),(16,iW (x.1:Nat))]) (λx W'=>Ext W W'/\x.1<=c/\B4 eQ 39 W.heap.size (λk'=>S k'/\u.ownBlock≠some k') W' x.2 ((List.range x.1).map g)) (λx=>c-x.1) (0,.slice none 0 0) ?_ ?_ ?_)
    ·exact lkA rfl
    ·exact⟨Ext.refl _,aC _,B4.nil⟩
    ·rintro⟨j,x⟩ W' ⟨hW,hj,hx⟩;replace hW:Ext W W':=hW;replace hj:j<=c:=hj;replace hx:B4 eQ 39 W.heap.size (λk'=>S k'/\u.ownBlock≠some k') W' x ((List.range j).map g):=hx;refine .weak [(0,iW (r:Nat)),(1,iW (c:Nat)),(2,.int .u8 kind),(4,va),(5,vb),(9,pW b9),(13,u),(14,iW (i:Nat)),(15,x),(16,iW (j:Nat))] (λt v h=>h) ?_;have hsz':=hW.size;have hBW:=hB.trans hW;refine .seq (.sr (.mv O O (.mv O O ?_)));by_cases hjl:j<c
     ·refine .lssT O O O (by omega) (.nil (.condT O (.skip (.seq (.block (.region (.mv O O (.mv O O (.ldA A3 O O (k9.ext hBW) O (.mv O O (.mv O O (.mv O O (.mv O O ?_)))))))))))));obtain⟨es',hx1,hx2⟩:=id hx;have hTx:∀ k',S k'/\k'<w1.heap.size->(S k'/\u.ownBlock≠some k')/\x.ownBlock≠some k':=λk' hk'=>⟨hTu k' hk',λh=>by have:=(hx1.lt k' h).1;have:=hk'.2;omega⟩;have upX:Up (λk'=>(S k'/\u.ownBlock≠some k')/\x.ownBlock≠some k') W':=λk' hk'=>⟨upT k' (by omega),λh=>by have:=(hx1.lt k' h).2;omega⟩;refine .call _ O BI3 O (hf upX (eQ.mono (λk' _ h=>hTx k' h) (hK hBW)) (eM.mono (λk' _ h=>hTx k' h) (hA hBW)) (eM.mono (λk' _ h=>hTx k' h) (hBb hBW)) hlt hjl) λv2 W2 e2 h2=>?_;have hr':=h2;obtain⟨s2,t2,rfl,_,_⟩:=hr';refine .bsl _ O O AD7 λW3 b3 n3=>?_;obtain⟨e3,k3,hb3,hs3⟩:=n3;have e23:=e2.trans e3;have hW3:=hW.trans e23;refine .gv O O (L5 (E:=eQ) (base:=W.heap.size) (by decide) C9 J4 O O O (hx.ext e23) k3 (h2.ext e3) (by simp;omega) (by decide) hW3.size) ?_;rintro v4 W4 ⟨ho4,hg4⟩;refine .an O O (.region (.mv O O (.add O O O (.an O O ?_))));rw[wI (by omega)];refine⟨rfl,(j+1,v4),lkA rfl,⟨(hx.ext e23).below hg4 hW3 hW3.size,hjl,?_⟩,by show c-(j+1)<c-j;omega⟩;show B4 eQ 39 W.heap.size (λk'=>S k'/\u.ownBlock≠some k') W4 v4 ((List.range (j+1)).map g);rw[aP,aM,<-hg];rw[<-hg] at ho4;exact ho4
     ·refine .lssF O O O (by omega) (.nil (.condF O (.exit ?_)));have:j=c:=by omega
      subst this;refine⟨rfl,x,lkA rfl,hW,?_⟩;unfold tab;rw[hg];exact hx.toR (λk hk=>upT k hk) (λ_ h=>h)
   ·rintro x W' ⟨hW,hx⟩;obtain⟨ar,cr,hvr,_⟩:=RL.len hx;rw[A2] at hvr;subst hvr;refine .region (.mv O O (.mv O O (.bsl _ O O Ah1 λW3 b3 n3=>?_)));obtain⟨e3,k3,hb3,hs3⟩:=n3;have e23:=hW.trans e3;have hB3:=hB.trans e23;refine .gv O O (L5 (E:=eV) (base:=w1.heap.size) (n:=tab c (f i)) (e:=.slice ar c cr) (by decide) E4 AD5 O O O (ho.ext e23) k3 (ER.ext eV hx e3) (by simp;omega) (by decide) hB3.size) ?_;rintro v4 W4 ⟨ho4,hg4⟩;refine .an O O (.region (.mv O O (.add O O O (.an O O ?_))));rw[wI (by omega)];refine⟨rfl,(i+1,v4),lkA rfl,⟨(ho.ext e23).below hg4 hB3 hB3.size,hlt,?_⟩,by show r-(i+1)<r-i;omega⟩;show B4 eV 26 w1.heap.size S W4 v4 ((List.range (i+1)).map G);rw[aP,aM,<-hG];rw[<-hG] at ho4;exact ho4
  ·refine .lssF O O O (by omega) (.nil (.condF O (.exit (.sr (.mv O O (.an O O (.ret ?_)))))));have:i=r:=by omega
   subst this;refine .plain [_] results266 ⟨rfl,trivial⟩ ⟨e1.trans hB,?_⟩;unfold C6;rw[hG];exact B4.base ho e1.size
section
variable {P:Program} {σ:Env} {w:World} {d:Option Tmp} {ty:TypeId} {pos:String} {af:Array Edge} {g:Option (Nat×Bool)}
end
section
variable {W W':World} {v va vb:Value} {n c n' c' L L':Nat} {a b m:List (List QV)} {x y:List QV}
theorem upT {W:World}:Up (λ_=>True) W:=λ_ _=>trivial
end
theorem Be2{E:ER α}{hsz:0<E.sz}{S:Nat->Prop}{w w':World}{b:Nat}{t:TypeId}{cs:Array Value}{n:Nat}(vs:List Value)(ls:List (List α))(hn:New w w' b t cs)(up:Up S w)(hcs:cs=vs.toArray)(hl:ls.length=n)(hm:n<=1000)(h:Els (RL E hsz) S w vs ls) :
  (RL (RL E hsz) (show 0<1 by decide)).R S w' (.slice (some ⟨b,0,none⟩) n n) ls:=by
 subst hl;refine RL.ofBlk (es:=vs) hn.2.1 (up b (by have:=hn.2.2.1;omega)) (h.ext hn.1) (λj u hu=>?_) (aA _) (by omega);rw[hcs];have hv:∀ v∈vs,v.cells=#[v]:=by intro v hv;obtain⟨i,hi⟩:=List.mem_iff_getElem?.1 hv;have hlt:=Bd0 hi;obtain⟨a,c,rfl,_⟩:=RL.len (h.2 i v _ hi (aE (by rw[<-h.1];exact hlt)));rfl
 have:cellsOf vs=vs:=by
  clear h hcs hu;induction vs with
  | nil=>rfl
  | cons v vs ih=>rw[cellsOf,fJ,hv v (by simp),<-cellsOf,ih λu hu=>hv u (by simp[hu])];rfl
 rw[this] at hu;simpa using hu
section
variable {m:List (List QV)} {b:List QV}
theorem Bt7 (i k:Nat):rm (H7 m b) i k=if i<max m.length b.length/\k<A1 m+1 then Am1 m b i k else 0:=Av9 ..
theorem Ap3 (h:0<max m.length b.length):A1 (H7 m b)=A1 m+1:=by rw[Am0,if_neg (by omega)]
theorem Bk7 (h:0<max m.length b.length):Ech (max m.length b.length) (A1 m+1) (I7 (H7 m b)) (C7 (H7 m b)):=by have:=T1 (H7 m b);rwa [AF0,Ap3 h] at this
theorem Bh5 (m:List (List QV)):Req m.length (A1 m) (rm m) (I7 m):=Al4 _ _ _ _
theorem Bk6 (h:0<max m.length b.length):Req (max m.length b.length) (A1 m+1) (Am1 m b) (I7 (H7 m b)):=by
 have:=Bh5 (H7 m b);rw[AF0,Ap3 h] at this;have e:∀ i k,i<max m.length b.length->k<A1 m+1->Am1 m b i k=rm (H7 m b) i k:=λi k hi hk=>by rw[Bt7,if_pos ⟨hi,hk⟩]
 exact⟨λi hi=>(this.1 i hi).of_eq e,λi hi=>(this.2 i hi).congr λk hk=>e i k hi hk⟩
theorem aug_nil (h:max m.length b.length=0):C7 (H7 m b)=[]:=by have:=(T1 (H7 m b)).len;rw[AF0] at this;exact List.length_eq_zero_iff.1 (by omega)
theorem BD7 {i k:Nat} (h:k<A1 m):Am1 m b i k=rm m i k:=by unfold Am1;rw[if_pos h]
theorem Ap4 {i:Nat}:Am1 m b i (A1 m)=rv b i:=by unfold Am1;rw[if_neg (dZ _)]
theorem rv_solX (k:Nat):rv (AN9 m b) k=if k<A1 m then Ak4 (I7 (H7 m b)) (C7 (H7 m b)) (A1 m) k else 0:=L4 ..
theorem BU3:(AN9 m b).length=A1 m:=A2 ..
theorem rv_big {i:Nat} (h:max m.length b.length<=i):rv b i=0:=Af5 (by omega)
theorem rm_big {i k:Nat} (h:max m.length b.length<=i):rm m i k=0:=BN1 (by omega)
theorem sol_eq (hs:L9 m b) (i:Nat):B9 (A1 m) (λk=>rm m i k*rv (AN9 m b) k)=rv b i:=by
 rcases aB i (max m.length b.length) with hi | hi
 ·have h0:0<max m.length b.length:=by omega
  have:=sol_of (Bk7 h0) (Bk6 h0) (λj hj e=>hs (e▸H6 hj)) i hi;rw[Ap4] at this;rw[<-this];exact A9 λk hk=>by rw[rv_solX,if_pos hk,BD7 hk]
 ·rw[rv_big hi,H0 λk _=>by rw[rm_big hi,bL]]
theorem solv_of {y:Nat->Rat} (hy:∀ i,B9 (A1 m) (λk=>rm m i k*y k)=rv b i):L9 m b:=by
 intro hC;by_cases h0:max m.length b.length=0
 ·rw[aug_nil h0] at hC;cases hC
 ·have h0:0<max m.length b.length:=by omega
  obtain⟨j,hj,hjC⟩:=As0 hC;obtain⟨t,ht1,ht2⟩:=no_sol (Bk7 h0) (Bk6 h0) hj hjC;have:=sol_no (A:=Am1 m b) (x:=y) (λi _=>by rw[Ap4,<-hy i];exact A9 λk hk=>by rw[BD7 hk]) ht1
  rw[this] at ht2;exact absurd ht2 (by decide)
theorem Ar8:(Ad2 m).length=(AQ4 m).length:=by unfold Ad2;simp
theorem Bn9 (m:List (List QV)):(Ad2 m).length+(C7 m).length=A1 m:=by rw[Ar8];exact (T1 m).free_len
theorem Bo2 {k:Nat}:k∈AQ4 m<->k<A1 m/\k∉C7 m:=by unfold AQ4 D7;rw[cL,cM];simp
theorem Bo3 {i:Nat} (hi:i<(AQ4 m).length):(AQ4 m).getD i 0<A1 m/\(AQ4 m).getD i 0∉C7 m:=Bo2.1 (H6 hi)
theorem not_piv {p:List Nat} {k:Nat} (h:k∉p):∀ j,j<p.length->p.getD j 0≠k:=λ_ hj e=>h (e▸H6 hj)
theorem Bm8 {k:Nat} (hk:k<A1 m) (i:Nat):B9 (A1 m) (λc=>rm m i c*nv (I7 m) (C7 m) k c)=0:=by
 rcases aB i m.length with hi | hi
 ·exact Spn.dot0 ((Bh5 m).2 i hi) λj hj=>nv_null (T1 m) hk hj
 ·exact H0 λc _=>by rw[BN1 hi,bL]
theorem red_rsz {L n:Nat} (hk:mk_ L m) (hL:1<=L) (hn:min m.length (A1 m)<=n) (i k:Nat) (hi:i<m.length) (hc:k<A1 m):Rsz (I7 m i k) (bd L n) :=
 (AQ7 hL (λi k _ _=>hk.rsz hL i k) (A1 m) (aA _) i k hi hc).mono (Z3 L (aG (by have h1:=(T1 m).len_c;have h2:=(T1 m).len;unfold C7 at h1 h2;omega) hn))
end
theorem rsz1(hL:1<=L):Rsz 1 L:=by have:=Rsz.int 1 (L:=L) (bC (by decide) (aQ (by decide) hL)) hL;simpa using this
section
variable {m:List (List QV)} {b:List QV}
theorem inv_p (hc:A1 m=m.length):(AO5 m).2=C7 m:=by unfold AO5 C7;rw[hc];exact (BX3 (C:=m.length) (λi k _ hk=>by unfold AX8;rw[if_pos hk]) _ (aA _)).2
theorem Bx7 (hc:A1 m=m.length):J3 m<->(C7 m).length=m.length:=by unfold J3;rw[inv_p hc];have:=(T1 m).len;omega
theorem Bj0 (h:J3 m) {i k:Nat} (hi:i<m.length) (hk:k<m.length):(AO5 m).1 i k=idR i k:=by
 have he:Ech m.length m.length (AO5 m).1 (AO5 m).2:=AG0 ..;have hl:(AO5 m).2.length=m.length:=by have:=he.len;unfold J3 at h;omega
 have:=he.one i k hi (by omega);rw[he.full hl k hk] at this;exact this
theorem Bt6 {i k:Nat} (hi:i<m.length) (hk:k<m.length):rm (AK8 m) i k=(AO5 m).1 i (m.length+k):=by unfold AK8;rw[Av9,if_pos ⟨hi,hk⟩]
theorem Bj2 {i k:Nat}:AX8 m i (m.length+k)=idR i k:=by unfold AX8;rw[if_neg (by omega),Nat.add_sub_cancel_left]
theorem Bj1 {i k:Nat} (h:k<m.length):AX8 m i k=rm m i k:=by unfold AX8;rw[if_pos h]
theorem Bs8 {n:Nat} (t:Nat->Rat) {k:Nat} (hk:k<n):B9 n (λj=>t j*idR j k)=t k:=by rw[I8 (i:=k) (λj hj hne=>by unfold idR;rw[if_neg hne,aW]),if_pos hk];unfold idR;rw[if_pos rfl,fW]
theorem BL0 (h:J3 m) {i k:Nat} (hi:i<m.length) (hk:k<m.length):B9 m.length (λj=>rm m i j*rm (AK8 m) j k)=idR i k:=by
 obtain⟨t,ht⟩:=(Al4 m.length (m.length+m.length) (AX8 m) m.length).2 i hi;have h1:∀ j,j<m.length->rm m i j=t j:=λj hj=>by have:=ht j (by omega);rw[Bj1 hj] at this;rw[this,<-Bs8 t hj];exact A9 λl hl=>by rw[<-Bj0 h hl hj];rfl
 have h2:=ht (m.length+k) (by omega);rw[Bj2] at h2;rw[h2];exact A9 λj hj=>by rw[h1 j hj,Bt6 hj hk];rfl
theorem Bx8 (h:J3 m) {i k:Nat} (hi:i<m.length) (hk:k<m.length):B9 m.length (λj=>rm (AK8 m) i j*rm m j k)=idR i k:=by
 obtain⟨t,ht⟩:=(Al4 m.length (m.length+m.length) (AX8 m) m.length).1 i hi;have h1:∀ j,j<m.length->rm (AK8 m) i j=t j:=λj hj=>by have:=ht (m.length+j) (by omega);rw[Bt6 hi hj];refine Eq.trans this ?_;rw[<-Bs8 t hj];exact A9 λl hl=>by rw[Bj2]
 have h2:=ht k (by omega);rw[<-Bj0 h hi hk];refine Eq.trans ?_ h2.symm;exact A9 λj hj=>by rw[h1 j hj,Bj1 hk]
theorem Bi9 {L n:Nat} (hk:mk_ L m) (hL:1<=L) (hn:m.length<=n):mk_ (bd L n) (AK8 m):=by
 refine Aw2 λi k hi hk'=>?_;have h1:=AQ7 (C:=m.length+m.length) (f:=AX8 m) hL (λi k _ _=>by
  unfold AX8;split
  ·exact hk.rsz hL i k
  ·unfold idR;split
   ·exact rsz1 hL
   ·exact Rsz.zero hL) m.length (by omega) i (m.length+k) hi (by omega)
 exact h1.mono (Z3 L (aG (AG0 m.length (AX8 m) m.length).len hn))
theorem Bx6 (hc:A1 m=m.length) (h:J3 m) (hb:∀ i,m.length<=i->rv b i=0):L9 m b:=by
 refine solv_of (y:=λk=>B9 m.length λj=>rm (AK8 m) k j*rv b j) λi=>?_;rw[hc];rcases aB i m.length with hi | hi
 ·have h1:B9 m.length (λk=>rm m i k*B9 m.length λj=>rm (AK8 m) k j*rv b j)=B9 m.length λj=>idR i j*rv b j:=by rw[A9 (g:=λk=>B9 m.length λj=>rm m i k*rm (AK8 m) k j*rv b j) λk _=>by rw[<-AB2];exact A9 λj _=>by rw[fU]];rw[Z5];exact A9 λj hj=>by rw[AD2,BL0 h hi hj]
  rw[h1,I8 (i:=i) (λj hj hne=>by unfold idR;rw[if_neg (λe=>hne e.symm),bL]),if_pos hi];unfold idR;rw[if_pos rfl,Rat.one_mul]
 ·rw[hb i hi];exact H0 λk _=>by rw[BN1 hi,bL]
theorem inv_sol (hc:A1 m=m.length) (h:J3 m) (hs:L9 m b) {i:Nat} (hi:i<m.length):B9 m.length (λj=>rm (AK8 m) i j*rv b j)=rv (AN9 m b) i:=by rw[A9 (g:=λj=>B9 m.length λk=>rm (AK8 m) i j*rm m j k*rv (AN9 m b) k) λj _=>by rw[<-sol_eq hs j,hc,<-AB2];exact A9 λk _=>by rw[fU]];rw[Z5,A9 (g:=λk=>idR i k*rv (AN9 m b) k) λk hk=>by rw[AD2,Bx8 h hi hk]];rw[I8 (i:=i) (λj hj hne=>by unfold idR;rw[if_neg (λe=>hne e.symm),bL]),if_pos hi];unfold idR;rw[if_pos rfl,Rat.one_mul]
end
theorem M4(p:List Nat)(i:Nat):D7 p (i+1)=D7 p i++if i∈p then [] else [i]:=by unfold D7;rw[aP,bS];by_cases h:i∈p<;>simp[h]
theorem BB3 (p:List Nat) (i:Nat):∀ d,∃ t,D7 p (i+d)=D7 p i++t
 | 0=>⟨[],(bB _).symm⟩
 | d+1=>by
  obtain⟨t,ht⟩:=BB3 p i d
  exact⟨t++if i+d∈p then [] else [i+d],by rw[<-cZ,M4,ht,cS]⟩
theorem Bo1{p:List Nat}{C:Nat}(hi:i<C)(hp:i∉p):(D7 p C).getD (D7 p i).length 0=i/\(D7 p i).length<(D7 p C).length:=by
 obtain⟨t,ht⟩:=BB3 p (i+1) (C-(i+1));rw[show i+1+(C-(i+1))=C by omega,M4,if_neg hp] at ht;rw[ht];constructor
 ·simp[aF]
 ·simp
section
variable {m:List (List QV)} {b z:List QV}
end
def oN (o:List Int):List Nat:=o.map Int.toNat
def inL (n:NtV) (o:List Int):List Nat:=D7 (oN o) n.ls.length
theorem AQ1 {n:NtV} {o:List Int} (h:AB5 n o):∀ d i,i+d<o.length->o.getD i 0+d<=o.getD (i+d) 0
 | 0,i,_=>by simp
 | d+1,i,hd=>by
  have h1:=AQ1 h d i (by omega)
  have h2:=(h (i+(d+1)) hd).2.2 (by omega)
  rw[show i+(d+1)-1=i+d by omega] at h2
  omega
theorem BO1{n:NtV}{o:List Int}(h:AB5 n o){k:Nat}:k∈oN o<->∃ i,i<o.length/\o.getD i 0=k:=by
 unfold oN;rw[eG];constructor
 ·rintro⟨x,hx,rfl⟩;obtain⟨i,hi⟩:=List.mem_iff_getElem?.1 hx;have hlt:=(List.getElem?_eq_some_iff.1 hi).1;have e:o.getD i 0=x:=by rw[aF,hi];rfl
  have:=h i hlt;exact⟨i,hlt,by omega⟩
 ·rintro⟨i,hi,e⟩;exact⟨o.getD i 0,by rw[aF,aE hi];exact eD hi,by omega⟩
theorem BV8{n:NtV}{o:List Int}(h:AA2 n≠0):C8 n o=AA2 n:=by unfold C8;rw[if_pos h]
theorem Z2{n:NtV}{o:List Int}(h:C8 n o=0):AA2 n=0/\AB5 n o:=by
 unfold C8 at h;split at h
 ·exact absurd h (by assumption)
 ·split at h
  ·exact⟨Classical.not_not.1 (by assumption),by assumption⟩
  ·cases h
theorem Bk1{n:NtV}(h:AA2 n=0):1<=n.b/\n.b<=6/\n.ls.length<=10/\BX7 n:=by
 unfold AA2 at h;split at h
 ·cases h
 ·split at h
  ·cases h
  ·split at h
   ·exact⟨by omega,by omega,by omega,by assumption⟩
   ·cases h
theorem BE6:Ent prog 25:=en func25
theorem BA4{S:Nat->Prop}{w:World}{vo:Value}{n:NtV}{o:List Int}(hn:eN.R S w vn n)(ho:eI.R S w vo o):CR prog 25 #[vn,vo] w (Is (iW (C8 n o))):=by
 obtain⟨s,rfl,hs,hb⟩:=hn;have hn:eN.R S w (.agg #[iW n.b,s]) n:=⟨s,rfl,hs,hb⟩;obtain⟨_,_,_,_,hll⟩:=RL.len ho;obtain⟨_,_,_,_,hls⟩:=RL.len hs;refine enter func25 O ntmps25 O (.sr (.box O O λw1 b2 n1=>.an O O ?_));obtain⟨e1,k2,hb2,hs1⟩:=n1;refine .seq (.sr (.ldA G2 O O k2 O (.call _ O Ba1 O (BW2 (hn.ext e1)) λv2 w2 e2 h2=>.an O O ?_)));subst h2;have x2:=e1.trans e2;refine .sr (.mv O O ?_);by_cases hc:AA2 n=0;rotate_left
 ·refine .neqT O O O hc (.nil (.condT O (.sr (.mv O O (.an O O (.ret ?_))))));exact .plain [_] results25 ⟨rfl,trivial⟩ ⟨x2,by rw[BV8 hc];rfl⟩
 have hE:AB5 n o->C8 n o=0:=λh=>by unfold C8;rw[if_neg (by simpa using hc),if_pos h]
 have hE1:¬ AB5 n o->C8 n o=1:=λh=>by unfold C8;rw[if_neg (by simpa using hc),if_neg h]
 refine .neqF O O O hc (.nil (.condF O (.skip ?_)));have k2:=k2.ext e2;have hs:=hs.ext x2;have ho:=ho.ext x2;refine .seq (.sr (.mv O O (.lenR C5 O O ho (.mv O O (.nil (.block (.loop (α:=Nat) (λi=>[(1,vo),(2,pW b2),(13,vo),(14,iW (o.length:Nat)),(15,iW (i:Nat))]) (λi W=>W=w2/\i<=o.length/\∀ j,j<i->0<=o.getD j 0/\o.getD j 0<n.ls.length/\(0<j->o.getD (j-1) 0<o.getD j 0)) (λi=>o.length-i) 0 ?_ ?_ ?_)))))))
 ·exact lkA rfl
 ·exact⟨rfl,aC _,λj hj=>absurd hj (bK _)⟩
 rintro i W ⟨rfl,hi,hall⟩;refine .sr ?_;rcases aB i o.length with hlt | hge;rotate_left
 ·refine .lssF O O O (by omega) (.nil (.seq (.condF O (.exit (.sr (.an O O (.ret ?_)))))));exact .plain [_] results25 ⟨rfl,trivial⟩ ⟨x2,by rw[hE λj hj=>hall j (by omega)];rfl⟩
 have hg:o[i]?=some (o.getD i 0):=B0 hlt;refine .lssT O O O (by omega) (.nil (.seq (.condT O (.skip (.seq (.block (.sr (.mv O O (.ixN (i:=i) C5 B5 O O ho O hg λq hq=>.ldE (E:=B8 .i64) B5 O O hq λe he=>.asg O O (.an O O (.sr (.mv O O ?_))))))))))));obtain⟨rfl,_⟩:=he;have hbad:∀ {σ:Env},¬ (0<=o.getD i 0/\o.getD i 0<n.ls.length/\(0<i->o.getD (i-1) 0<o.getD i 0))->Q3 prog Tryz.f25 43 (λv w'=>Ext w w'/\Is (iW (C8 n o)) v w') ((4,iW 1)::σ) [] W:=λh=>.plain [_] results25 ⟨rfl,trivial⟩ ⟨x2,by rw[hE1 λh'=>h (h' i hlt)];rfl⟩;by_cases h0:o.getD i 0<0
 ·refine .lssT O O O h0 (.mv O O (.gs O O O O O (.gs O O O O O (.gs O O O O O (.gs O O O O O (.gs O O O O O (.pick O O O (.mv O O (.gs O O O O O (.gs O O O O O (.gs O O O O O (.gu O O O O (.gu O O O O (.gu O O O O (.gu O O O O (.gu O O O O (.gu O O O O (.gu O O O O (.gs O O O O O (.pick O O O (.nil (.condT O (.sr (.an O O (.ret ?_)))))))))))))))))))))))));exact hbad (by omega)
 refine .lssF O O O (by omega) (.mv O O (.gr O O O O (.mv O O (.gr O O O O (.fa G5 O O (.gr O O O O (.ld J0 O O k2 O (.gr O O O O (.lenR I6 O O hs (.gr O O O O ?_))))))))));by_cases h1:(n.ls.length:Int)<=o.getD i 0
 ·refine .geqT O O O h1 (.pick O O O (.mv O O (.gs O O O O O (.gs O O O O O (.gs O O O O O (.gu O O O O (.gu O O O O (.gu O O O O (.gu O O O O (.gu O O O O (.gu O O O O (.gu O O O O (.gs O O O O O (.pick O O O (.nil (.condT O (.sr (.an O O (.ret ?_)))))))))))))))))));exact hbad (by omega)
 refine .geqF O O O (by omega) (.pick O O O (.mv O O (.gr O O O O (.mv O O (.gr O O O O ?_)))));have hnext:∀ {σ:Env},(0<i->o.getD (i-1) 0<o.getD i 0)->YtpgkacdihhjknaaGreat.look σ 1=some vo->YtpgkacdihhjknaaGreat.look σ 2=some (pW b2)->YtpgkacdihhjknaaGreat.look σ 13=some vo->YtpgkacdihhjknaaGreat.look σ 14=some (iW (o.length:Nat))->∃ i':Nat,(∀ t v,YtpgkacdihhjknaaGreat.look [(1,vo),(2,pW b2),(13,vo),(14,iW (o.length:Nat)),(15,iW (i':Nat))] t=some v->YtpgkacdihhjknaaGreat.look ((15,iW ((i:Int)+1))::σ) t=some v)/\(W=W/\i'<=o.length/\∀ j,j<i'->0<=o.getD j 0/\o.getD j 0<n.ls.length/\(0<j->o.getD (j-1) 0<o.getD j 0))/\o.length-i'<o.length-i:=by
  intro σ hlast a1 a2 a3 a4;refine⟨i+1,B7 a1 (B7 a2 (B7 a3 (B7 a4 (lkA O)))),⟨rfl,hlt,λj hj=>?_⟩,by omega⟩;by_cases e:j=i
  ·subst e;exact⟨by omega,by omega,hlast⟩
  ·exact hall j (by omega)
 by_cases hi0:0<i
 ·have hg':o[i-1]?=some (o.getD (i-1) 0):=B0 (by omega);refine .gtrT O O O (by omega) (.gr O O O O (.mv O O (.gr O O O O (.mv O O (.gr O O O O (.mv O O (.gr O O O O (.mv O O (.gr O O O O (.sub O O O ?_))))))))));rw[wI (by omega),show (i:Int)-1=((i-1:Nat):Int) by omega];refine .gr O O O O (.ixN (i:=i-1) C5 B5 O O ho O hg' λq hq=>.gr O O O O (.ldE (E:=B8 .i64) B5 O O hq λe he=>?_));obtain⟨rfl,_⟩:=he;by_cases hle:o.getD i 0<=o.getD (i-1) 0
  ·refine .gr O O O O (.leqT O O O hle (.gr O O O O (.pick O O O (.pick O O O (.nil (.condT O (.sr (.an O O (.ret ?_)))))))));exact hbad (λh=>by have:=h.2.2 hi0;omega)
  ·refine .gr O O O O (.leqF O O O (by omega) (.gr O O O O (.pick O O O (.pick O O O (.nil (.condF O (.skip (.region (.add O O O (.mv O O (.nil ?_)))))))))));rw[wI (by omega)];exact⟨rfl,hnext (λ_=>by omega) O O O rfl⟩
 ·refine .gtrF O O O (by omega) (.gr O O O O (.mv O O (.gs O O O O O (.gs O O O O O (.gs O O O O O (.gs O O O O O (.gs O O O O O (.gs O O O O O (.gs O O O O O (.gr O O O O (.pick O O O (.pick O O O (.nil (.condF O (.skip (.region (.add O O O (.mv O O (.nil ?_)))))))))))))))))));rw[wI (by omega)];exact⟨rfl,hnext (λh=>absurd h hi0) O O O rfl⟩
theorem Av5:Ent prog 53:=en func53
theorem Au5{w:World}{vo:Value}{x y:Value}(hn:vn=.agg #[x,y]){a:Option Addr}{m c:Nat}(ho:vo=.slice a m c):CR prog 53 #[vn,vo] w (λv w'=>∃ b1 b2,v=.func (.func 95) #[] #[pW b1,pW b2] /\
  Blk w' b1 24 #[x,y]/\Blk w' b2 25 #[vo]/\w.heap.size<=b1/\w.heap.size<=b2):=by
 subst hn;subst ho;refine enter func53 O ntmps53 O (.sr (.box O O λw1 b1 n1=>.box O O λw2 b2 n2=>.an O O ?_));obtain⟨e1,k1,hb1,hs1⟩:=n1;obtain⟨e2,k2,hb2,hs2⟩:=n2;refine .sr (.mkf [] [_,_] O O O O (.an O O (.ret ?_)));exact .p1 _ results53 O ⟨e1.trans e2,b1,b2,rfl,k1.ext e2,k2,by omega,by have:=e1.size;omega⟩
theorem CB4:Ent prog 95:=en func95
theorem By1{S:Nat->Prop}{n:NtV}{o:List Int}{s vo x:Value}{b1 b2:Nat}(hok:AB5 n o)(hl:n.ls.length<=10):Bp9 prog 95 #[pW b1,pW b2] (inL n o).length
  (λk=>[iW ((inL n o).getD k 0:Nat)]) (λW=>Blk W b1 24 #[x,s]/\Blk W b2 25 #[vo]/\eLs.R S W s n.ls/\eI.R S W vo o):=by
 intro l J X stJ stX hF hy W hJ;have hF0:=hF 0 W hJ;refine U8 func95 O ntmps95 O (.sr (.an O O (.sr (.fa G5 O O (.ld J0 O O hF0.1 O (.lenR I6 O O hF0.2.2.1 (.mv O O (.nil ?_))))))));refine .block (.loop (α:=Nat×Nat) (λy=>[(9,iW (y.1:Nat)),(8,iW (n.ls.length:Nat)),(4,iW (y.2:Nat)),(0,.func (.yield l) #[] #[]),(1,pW b1),(2,pW b2)])
  (λy W=>J (D7 (oN o) y.1).length W/\y.1<=n.ls.length/\y.2<=o.length/\(∀ i,i<y.2->o.getD i 0<y.1)/\(y.2<o.length->(y.1:Int)<=o.getD y.2 0)) (λy=>n.ls.length-y.1) (0,0) ?_ ?_ ?_)
 ·exact lkA rfl
 ·exact⟨hJ,aC _,aC _,λi hi=>absurd hi (bK _),λh=>(hok 0 h).1⟩
 rintro⟨k,nx⟩ W ⟨hJ,hk,hnx,hlo,hhi⟩;replace hJ:J (D7 (oN o) k).length W:=hJ;replace hk:k<=n.ls.length:=hk;replace hnx:nx<=o.length:=hnx;replace hlo:∀ i,i<nx->o.getD i 0<k:=hlo;replace hhi:nx<o.length->(k:Int)<=o.getD nx 0:=hhi;obtain⟨hB1,hB2,hA,hB⟩:=hF _ W hJ;obtain⟨_,_,_,_,hll⟩:=RL.len hB;refine .sr ?_;rcases aB k n.ls.length with hlt | hge;rotate_left
 ·refine .lssF O O O (by omega) (.nil (.seq (.condF O (.exit (.plain [] results95 trivial ?_)))));have:k=n.ls.length:=by omega
  subst this;exact .inl hJ
 refine .lssT O O O (by omega) (.nil (.seq (.condT O (.skip (.seq (.block (.sr (.mv O O (.an O O (.mid (α:=Unit) (λ_=>[(9,iW (k:Nat)),(8,iW (n.ls.length:Nat)),(4,iW (nx:Nat)),(5,iW (k:Nat)),(0,.func (.yield l) #[] #[]),(1,pW b1),(2,pW b2)]) (λ_ W'=>W'=W/\k∉oN o) ?_ ?_))))))))))
 ·refine .sr (.mv O O (.ld AN6 O O hB2 O (.lenR C5 O O hB ?_)));rcases aB nx o.length with hn1 | hn1
  ·have hg:o[nx]?=some (o.getD nx 0):=B0 hn1;refine .lssT O O O (by omega) (.mv O O (.gr O O O O (.ld AN6 O O hB2 O (.gr O O O O (.mv O O (.gr O O O O (.ixN (i:=nx) C5 B5 O O hB O hg λq hq=>.gr O O O O (.ldE (E:=B8 .i64) B5 O O hq λe he=>.gr O O O O (.mv O O (.gr O O O O ?_))))))))));obtain⟨rfl,_⟩:=he;have:=hhi hn1;by_cases he:o.getD nx 0=k
   ·refine .eqlT O O O he (.pick O O O (.nil (.condT O (.sr (.mv O O (.add O O O (.an O O (.exit (.region (.add O O O (.mv O O (.nil ?_))))))))))));rw[wI (by omega),wI (by omega)];refine⟨rfl,(k+1,nx+1),lkA rfl,⟨?_,hlt,hn1,λi hi=>?_,λh=>?_⟩,by show n.ls.length-(k+1)<n.ls.length-k;omega⟩
    ·show J (D7 (oN o) (k+1)).length W;rw[M4,if_pos ((BO1 hok).2 ⟨nx,hn1,he⟩),bB];exact hJ
    ·show o.getD i 0<((k+1:Nat):Int);by_cases e:i=nx
     ·subst e;omega
     ·have:=hlo i (by have:i<nx+1:=hi;omega);omega
    ·show ((k+1:Nat):Int)<=o.getD (nx+1) 0;have:=AQ1 hok 1 nx h;omega
   ·refine .eqlF O O O he (.pick O O O (.nil (.condF O (.skip (⟨rfl,(),lkA rfl,rfl,λhm=>?_⟩)))));obtain⟨i,hi,e⟩:=(BO1 hok).1 hm;rcases aB i nx with h | h
    ·have:=hlo i h;omega
    ·have:=AQ1 hok (i-nx) nx (by omega);rw[show nx+(i-nx)=i by omega] at this;omega
  ·refine .lssF O O O (by omega) (.mv O O (.gs O O O O O (.gs O O O O O (.gs O O O O O (.gs O O O O O (.gs O O O O O (.gs O O O O O (.pick O O O (.nil (.condF O (.skip (⟨rfl,(),lkA rfl,rfl,λhm=>?_⟩))))))))))));obtain⟨i,hi,e⟩:=(BO1 hok).1 hm;have:=hlo i (by omega);omega
 rintro _ _ ⟨rfl,hno⟩;obtain⟨hat,hatl⟩:=Bo1 (C:=n.ls.length) hlt hno;have hy':=hy (D7 (oN o) k).length _ hatl hJ;dsimp only at hy';rw[show (inL n o).getD (D7 (oN o) k).length 0=k from hat] at hy';refine .sr (.mv O O (.mv O O (.yld (l:=l) [iW (k:Nat)] (R:=λv w'=>(v=.bool true/\J ((D7 (oN o) k).length+1) w')\/(v=.bool false/\X w')) O O O ?_ ?_)))
 ·refine YieldAt.mono hy' ?_;rintro e W' (⟨rfl,h⟩ | ⟨rfl,h⟩)
  ·exact⟨_,rfl,.inl ⟨rfl,h⟩⟩
  ·exact⟨_,rfl,.inr ⟨rfl,h⟩⟩
 rintro v w' (⟨rfl,h⟩ | ⟨rfl,h⟩)
 ·refine .not_ O O (.nil (.condF O (.skip (.region (.add O O O (.mv O O (.nil ?_)))))));rw[wI (by omega)];refine⟨rfl,(k+1,nx),lkA rfl,⟨?_,hlt,hnx,λi hi=>?_,λhn1=>?_⟩,by show n.ls.length-(k+1)<n.ls.length-k;omega⟩
  ·show J (D7 (oN o) (k+1)).length w';rw[M4,if_neg hno,aL];exact h
  ·show o.getD i 0<((k+1:Nat):Int);have:=hlo i hi;omega
  ·show ((k+1:Nat):Int)<=o.getD nx 0;have h1:=hhi hn1;have h2:o.getD nx 0≠k:=λe=>hno ((BO1 hok).2 ⟨nx,hn1,e⟩);omega
 ·refine .not_ O O (.nil (.condT O (.ret ?_)));exact .plain [] results95 trivial (.inr h)
theorem Ab5(p:List Nat)(i:Nat):(D7 p i).length<=i:=by unfold D7;have:=dO (λk => !(decide (k∈p))) (List.range i);simpa using this
theorem AE6(n:NtV)(o:List Int):(inL n o).length<=n.ls.length:=Ab5 _ _
structure InJ (w:World) (S:Nat->Prop) (b7 b1 b2:Nat) (x s vo:Value) (n:NtV) (o:List Int) (k:Nat) (W:World):Prop where
 low:Below w.heap.size w W
 k1:Blk W b1 24 #[x,s]
 k2:Blk W b2 25 #[vo]
 acc:∃ v,Blk W b7 25 #[v]/\B4 (B8 .i64) 3 w.heap.size (λk=>S k/\k≠b7) W v (A7 ((inL n o).take k))
theorem InJ.sft{w0:World}{S:Nat->Prop}{b7 b1 b2:Nat}{x s vo:Value}{n:NtV}{o:List Int}{k D:Nat}{W W':World}(h:InJ w0 S b7 b1 b2 x s vo n o k W)(hs:Sft D W W')(hD:w0.heap.size<=D):InJ w0 S b7 b1 b2 x s vo n o k W':=by obtain⟨v,h1,h2⟩:=h.acc;exact⟨h.low.trans (hs.below.mono hD),hs.cells.blk trivial h.k1,hs.cells.blk trivial h.k2,v,hs.cells.blk trivial h1,h2.kp hs.cells⟩
theorem Ba7:M0 prog 25=some (.slice none 0 0):=by kernel_rfl
theorem AR3:Ent prog 17:=en func17
theorem AQ2{S:Nat->Prop}{w:World}{vo:Value}{n:NtV}{o:List Int}(up:Up S w)(hn:eN.R S w vn n)(ho:eI.R S w vo o):CR prog 17 #[vn,vo] w (Two (eI.at S (if C8 n o=0 then A7 (inL n o) else [])) (Is (iW (C8 n o)))):=by
 obtain⟨s,rfl,hs,hb⟩:=hn;have hn:eN.R S w (.agg #[iW n.b,s]) n:=⟨s,rfl,hs,hb⟩;obtain⟨ao,co,hvo,_⟩:=RL.len ho;refine enter func17 O ntmps17 O (.sr (.box O O λw1 b2 n1=>.asg O O (.an O O ?_)));obtain⟨e1,k2,hb2,hs1⟩:=n1;refine .seq (.sr (.ldA G2 O O k2 O (.mv O O (.call _ O BE6 O (BA4 (hn.ext e1) (ho.ext e1)) λv2 w2 e2 h2=>.an O O ?_))));subst h2;have x2:=e1.trans e2;refine .sr (.mv O O ?_);by_cases hE:C8 n o=0;rotate_left
 ·refine .neqT O O O hE (.nil (.condT O (.sr (.mv O O (.asg O O (.an O O (.ret (.plain [_,_] results17 ⟨rfl,rfl,trivial⟩ ⟨x2,_,_,rfl,?_,rfl⟩))))))));rw[if_neg hE];exact RL.nil
 rw[if_pos hE];obtain⟨hc,hok⟩:=Z2 hE;obtain⟨_,_,hl10,_⟩:=Bk1 hc;refine .neqF O O O hE (.nil (.condF O (.skip (.sr (.alloc O Ba7 λw3 b7 n3=>.nil ?_)))));obtain⟨e3,k7,hb7,hs3⟩:=n3;have x3:=x2.trans e3;refine .seq (.sr (.ldA G2 O O ((k2.ext e2).ext e3) O (.mv O O (.call _ O Av5 O (Au5 O hvo) λv4 w4 e4 h4=>.nil ?_))));obtain⟨p1,p2,rfl,kp1,kp2,hp1,hp2⟩:=h4;have x4:=x3.trans e4;have hs4:=e4.size;have hs2:=e2.size;have hsL:∀ {W:World},Below w.heap.size w W->eLs.R (λk=>S k/\k<w.heap.size) W s n.ls:=λhB=>eLs.keep (λk c t f hk h=>(hB.block k hk.2).trans h) (ER.lt eLs hs);have hoL:∀ {W:World},Below w.heap.size w W->eI.R (λk=>S k/\k<w.heap.size) W vo o:=λhB=>eI.keep (λk c t f hk h=>(hB.block k hk.2).trans h) (ER.lt eI ho);refine .block (.range (By1 (S:=λk=>S k/\k<w.heap.size) (n:=n) (o:=o) (s:=s) (vo:=vo) (x:=.int .i64 n.b) hok hl10) O CB4 (λk=>rfl) (by decide)
  (InJ w S b7 p1 p2 (iW n.b) s vo n o) (λ_ _=>False) (λk W W' h hs=>h.sft hs x4.size) (λ_ _ _ h _=>h.elim) (λk W h=>⟨h.k1,h.k2,hsL h.low,hoL h.low⟩) ?_ ?_ ?_ (λ_ _ h=>h.elim))
 ·refine⟨x4,kp1,kp2,_,k7.ext e4,?_⟩;rw[List.take_zero];exact B4.nil
 ·intro l k W hk hJ;refine .region (.an O O ⟨rfl,rfl,λW hJ hsz=>?_⟩);obtain⟨hlow,kp1,kp2,v,k7,hown⟩:=hJ;have hlw:=hlow.size;refine .block (.region (.ld AN6 O O k7 O (.mv O O (.bsl _ O O S7 λW1 by_ ny=>?_))));obtain⟨ey,ky,hby,hsy⟩:=ny;have hlow1:=hlow.trans (ey.mono hlw);have hkl:=AE6 n o;refine .gv O O (L5 (E:=B8 .i64) (base:=w.heap.size) (n:=(((inL n o).getD k 0:Nat):Int)) (e:=.int .i64 (((inL n o).getD k 0:Nat):Int)) (by decide) C5 P6 O O O (hown.ext ey) ky ⟨rfl,by
    have:(inL n o).getD k 0<n.ls.length:=by have hm:(inL n o).getD k 0∈inL n o:=H6 hk;unfold inL D7 at hm;exact List.mem_range.1 (List.mem_filter.1 hm).1
    exact K8.2 (by omega)⟩ (by simp;omega) (by decide) hlow1.size) ?_
  rintro v8 W8 ⟨ho8,hg8⟩;have hown1:=hown.ext ey;have k78:=hown1.gblk hg8 (k7.ext ey) (by decide);have kp18:=hown1.gblk hg8 (kp1.ext ey) (by decide);have kp28:=hown1.gblk hg8 (kp2.ext ey) (by decide);have hlow8:=hown1.below hg8 hlow1 hlow1.size;obtain⟨a8,c8,hv8⟩:=ho8.slice;refine .store AN6 O O k78 (by rw[hv8];rfl) (by simp) (by rw[hv8];simp[H3,Value.cells]) λW9 k9 u9=>.nil ?_;refine⟨((Oth.ext ey).trans (hown1.oth hg8)).trans (Oth.upd u9 k78),u9.below hlow8 (by omega),kp18.upd u9 (by omega),kp28.upd u9 (by omega),v8,by rw[hv8] at k9 ⊢;exact k9,?_⟩;have:=ho8.upd u9 k78 (by decide) (λh=>h.2 O);have htk:A7 ((inL n o).take (k+1))=A7 ((inL n o).take k)++[(((inL n o).getD k 0:Nat):Int)]:=by unfold A7;rw[cA,B0 (z:=0) hk,aM];rfl
  rw[htk];exact this
 ·intro W hJ hD;obtain⟨hlow,kp1,kp2,v,k7,hown⟩:=hJ;refine .sr (.ld AN6 O O k7 O (.asg O O (.an O O (.ret (.mark [_,_] results17 hD ⟨rfl,rfl,trivial⟩ ⟨X8 hlow x4.size,_,_,rfl,?_,by rw[hE]⟩)))));rw[aK (aA _)] at hown;exact (hown.kp (Kp.put hD O)).toR up (λ_ h=>h.1)
def dl (a b:Nat):Rat:=if a=b then 1 else 0
theorem Ab7(a:Nat):dl a a=1:=if_pos rfl
theorem AV0{a b:Nat}(h:a≠b):dl a b=0:=if_neg h
theorem AJ4{n a:Nat}(f:Nat->Rat)(h:a<n):B9 n (λb=>f b*dl a b)=f a:=by rw[I8 (i:=a) (λk _ hne=>by rw[AV0 (Ne.symm hne),aW]),if_pos h,Ab7,fW]
theorem Bu2(x:Rat):0<=x*x:=by
 rcases Rat.le_total (a:=0) (b:=x) with h | h
 ·exact gS h h
 ·have h2:0 <= -x:=by grind
  have:=gS h2 h2;grind
theorem Bh7{x:Rat}(h:x*x=0):x=0:=by rcases Rat.mul_eq_zero.1 h with h | h<;>exact h
theorem BU1{n:Nat}{f:Nat->Rat}(h:∀ k,k<n->0<=f k):0<=B9 n f:=by
 induction n with
 | zero=>exact fX
 | succ n ih =>
  unfold B9;grind
theorem sumN_le{n:Nat}{f g:Nat->Rat}(h:∀ k,k<n->f k<=g k):B9 n f<=B9 n g:=by
 have:=BU1 (n:=n) (f:=λk=>g k-f k) λk hk=>by have:=h k hk;grind
 rw[AF5] at this;grind
theorem Bl8{n:Nat}{f:Nat->Rat}(h:∀ k,k<n->0<=f k)(hj:j<n):f j<=B9 n f:=by
 have h1:B9 n (λk=>if k=j then f j else 0)=f j:=by rw[I8 (i:=j) (λk _ hne=>if_neg hne),if_pos hj,if_pos rfl]
 rw[<-h1];refine sumN_le λk hk=>?_;have:=h k hk;by_cases e:k=j
 ·subst e;rw[if_pos rfl];exact fX
 ·rw[if_neg e];exact this
theorem BJ7{n:Nat}{f:Nat->Rat}(h:∀ k,k<n->0<=f k)(h0:B9 n f=0)(hj:j<n):f j=0:=by have h1:=Bl8 h hj;have h2:=h j hj;rw[h0] at h1;exact Rat.le_antisymm h1 h2
structure Nw where
 B:Nat
 M:Nat
 F:Nat->Nat
 T:Nat->Nat
 g:Nat->Rat
structure Nw.Ok (n:Nw):Prop where
 f:∀ k,k<n.M->n.F k<n.B
 t:∀ k,k<n.M->n.T k<n.B
 p:∀ k,k<n.M->0<=n.g k
namespace Nw
section
variable (n:Nw)
def inc (k b:Nat):Rat:=dl (n.F k) b-dl (n.T k) b
def fl (θ:Nat->Rat) (k:Nat):Rat:=n.g k*(θ (n.F k)-θ (n.T k))
def off (f:Nat->Rat) (b:Nat):Rat:=B9 n.M λk=>n.inc k b*f k
def lap (θ:Nat->Rat) (b:Nat):Rat:=n.off (n.fl θ) b
def Lm (b c:Nat):Rat:=B9 n.M λk=>n.g k*(n.inc k b*n.inc k c)
def clo (D:Nat->Prop):Prop:=∀ k,k<n.M->n.g k≠0->(D (n.F k)<->D (n.T k))
def rootTo:Nat->Nat->Nat
 | 0,b=>b
 | j+1,b=>if n.g j=0 then rootTo j b else if rootTo j b=max (rootTo j (n.F j)) (rootTo j (n.T j)) then min (rootTo j (n.F j)) (rootTo j (n.T j)) else rootTo j b
def root (b:Nat):Nat:=n.rootTo n.M b
def gm (b c:Nat):Rat:=if n.root b=b then dl b c else n.Lm b c
end
section
variable {n:Nw} {θ φ f:Nat->Rat}
theorem sum_inc (ok:n.Ok) {k:Nat} (hk:k<n.M) (φ:Nat->Rat):B9 n.B (λb=>φ b*n.inc k b)=φ (n.F k)-φ (n.T k):=by
 have e:B9 n.B (λb=>φ b*n.inc k b)=B9 n.B (λb=>φ b*dl (n.F k) b-φ b*dl (n.T k) b):=A9 λb _=>by unfold inc;grind
 rw[e,AF5,AJ4 φ (ok.f k hk),AJ4 φ (ok.t k hk)]
theorem green (ok:n.Ok) (φ f:Nat->Rat):B9 n.B (λb=>φ b*n.off f b)=B9 n.M λk=>(φ (n.F k)-φ (n.T k))*f k:=by
 have e:B9 n.B (λb=>φ b*n.off f b)=B9 n.B (λb=>B9 n.M λk=>φ b*n.inc k b*f k):=A9 λb _=>by unfold off;rw[<-AB2];exact A9 λk _=>by grind
 rw[e,Z5];refine A9 λk hk=>?_;rw[AD2,sum_inc ok hk]
theorem lap_sum (ok:n.Ok) (θ:Nat->Rat) (b:Nat):B9 n.B (λc=>n.Lm b c*θ c)=n.lap θ b:=by
 have e:B9 n.B (λc=>n.Lm b c*θ c)=B9 n.B (λc=>B9 n.M λk=>n.g k*n.inc k b*(θ c*n.inc k c)):=A9 λc _=>by unfold Lm;rw[<-AD2];exact A9 λk _=>by grind
 rw[e,Z5];unfold lap off;refine A9 λk hk=>?_;rw[AB2,sum_inc ok hk];unfold fl;grind
theorem rigid (ok:n.Ok) {D:Nat->Prop} (hD:n.clo D) (h:∀ b,b<n.B->D b->θ b*n.lap θ b=0):∀ k,k<n.M->n.g k≠0->D (n.F k)->θ (n.F k)=θ (n.T k):=by
 classical
 have e:=green ok (λb=>if D b then θ b else 0) (n.fl θ);have e0:B9 n.B (λb=>(if D b then θ b else 0)*n.off (n.fl θ) b)=0:=H0 λb hb=>by
  by_cases hd:D b
  ·rw[if_pos hd];exact h b hb hd
  ·rw[if_neg hd,bL]
 rw[e0] at e;have hterm:∀ k,k<n.M->((if D (n.F k) then θ (n.F k) else 0)-(if D (n.T k) then θ (n.T k) else 0))*n.fl θ k=if D (n.F k) then n.g k*((θ (n.F k)-θ (n.T k))*(θ (n.F k)-θ (n.T k))) else 0:=by
  intro k hk;by_cases hg:n.g k=0
  ·unfold fl;rw[hg];split<;>grind
  ·have:=hD k hk hg;by_cases hd:D (n.F k)
   ·rw[if_pos hd,if_pos (this.1 hd),if_pos hd];unfold fl;grind
   ·rw[if_neg hd,if_neg (λx=>hd (this.2 x)),if_neg hd];grind
 intro k hk hg hd;have hn:∀ k,k<n.M->0<=((if D (n.F k) then θ (n.F k) else 0)-(if D (n.T k) then θ (n.T k) else 0))*n.fl θ k:=λk hk=>by
  rw[hterm k hk];split
  ·exact gS (ok.p k hk) (Bu2 _)
  ·exact fX
 have h0:=BJ7 hn e.symm hk;rw[hterm k hk,if_pos hd] at h0;rcases Rat.mul_eq_zero.1 h0 with h0 | h0
 ·exact absurd h0 hg
 ·have:=Bh7 h0;grind
theorem Bh3 {θ:Nat->Rat}:∀ j,(∀ k,k<j->n.g k≠0->θ (n.F k)=θ (n.T k))->∀ b,θ (n.rootTo j b)=θ b
 | 0,_,b=>rfl
 | j+1,h,b=>by
  have ih:=Bh3 j λk hk=>h k (by omega)
  unfold rootTo
  split
  ·exact ih b
  ·rename_i hg
   split
   ·rename_i e
    have h1:=h j (by omega) hg
    have hF:=ih (n.F j)
    have hT:=ih (n.T j)
    have hb:=ih b
    have h2:θ (max (n.rootTo j (n.F j)) (n.rootTo j (n.T j)))=θ (n.F j):=by
     rcases dQ (n.rootTo j (n.F j)) (n.rootTo j (n.T j)) with h | h
     ·rw[fF h,hT,h1]
     ·rw[dY h,hF]
    have h3:θ (min (n.rootTo j (n.F j)) (n.rootTo j (n.T j)))=θ (n.F j):=by
     rcases dQ (n.rootTo j (n.F j)) (n.rootTo j (n.T j)) with h | h
     ·rw[cJ h,hF]
     ·rw[fE h,hT,h1]
    rw[h3,<-h2,<-e,hb]
   ·exact ih b
theorem BK0:∀ j b,n.rootTo j b<=b
 | 0,b=>aA b
 | j+1,b=>by
  have ih:=BK0 j
  have:=ih b
  unfold rootTo
  split
  ·exact this
  ·split
   ·rename_i e;omega
   ·exact this
theorem Aq6:∀ j b,n.rootTo j (n.rootTo j b)=n.rootTo j b
 | 0,b=>rfl
 | j+1,b=>by
  have ih:=Aq6 j
  have ib:=ih b
  have iF:=ih (n.F j)
  have iT:=ih (n.T j)
  by_cases hg:n.g j=0
  ·have e:∀ b,n.rootTo (j+1) b=n.rootTo j b:=λb=>by rw[rootTo,if_pos hg]
   rw[e,e];exact ib
  ·have e:∀ b,n.rootTo (j+1) b=if n.rootTo j b=max (n.rootTo j (n.F j)) (n.rootTo j (n.T j)) then min (n.rootTo j (n.F j)) (n.rootTo j (n.T j)) else n.rootTo j b:=λb=>by rw[rootTo,if_neg hg]
   rw[e b]
   split
   ·rw[e]
    rcases dQ (n.rootTo j (n.F j)) (n.rootTo j (n.T j)) with h | h
    ·rw[cJ h,fF h,iF]
     split
     ·rfl
     ·rfl
    ·rw[fE h,dY h,iT]
     split
     ·rfl
     ·rfl
   ·rename_i hne
    rw[e,ib,if_neg hne]
theorem Aq7:∀ j k,k<j->n.g k≠0->n.rootTo j (n.F k)=n.rootTo j (n.T k)
 | 0,k,h,_=>absurd h (bK _)
 | j+1,k,h,hg=>by
  by_cases e:k=j
  ·subst e
   rw[rootTo,rootTo,if_neg hg,if_neg hg]
   rcases dQ (n.rootTo k (n.F k)) (n.rootTo k (n.T k)) with h | h
   ·rw[fF h,cJ h]
    rw[if_pos rfl]
    split
    ·rfl
    ·rfl
   ·rw[dY h,fE h]
    rw[if_pos rfl]
    split
    ·rfl
    ·rfl
  ·have ih:=Aq7 j k (by omega) hg
   rw[rootTo,rootTo,ih]
theorem root_le (b:Nat):n.root b<=b:=BK0 _ b
theorem root_root (b:Nat):n.root (n.root b)=n.root b:=Aq6 _ b
theorem root_line {k:Nat} (hk:k<n.M) (hg:n.g k≠0):n.root (n.F k)=n.root (n.T k):=Aq7 _ k hk hg
theorem root_const (h:∀ k,k<n.M->n.g k≠0->θ (n.F k)=θ (n.T k)) (b:Nat):θ (n.root b)=θ b:=Bh3 _ h b
theorem clo_root (r:Nat):n.clo λb=>n.root b=r:=λk hk hg=>by
 show n.root (n.F k)=r<->n.root (n.T k)=r
 rw[root_line hk hg]
theorem off_clo (ok:n.Ok) {D:Nat->Prop} [DecidablePred D] (hD:n.clo D) (hf:∀ k,k<n.M->n.g k=0->f k=0):B9 n.B (λb=>if D b then n.off f b else 0)=0:=by
 have e:=green ok (λb=>if D b then 1 else 0) f;have e1:B9 n.B (λb=>if D b then n.off f b else 0)=B9 n.B (λb=>(if D b then 1 else 0)*n.off f b):=A9 λb _=>by split<;>grind
 rw[e1,e];refine H0 λk hk=>?_;by_cases hg:n.g k=0
 ·rw[hf k hk hg,aW]
 ·have:=hD k hk hg;by_cases hd:D (n.F k)
  ·rw[if_pos hd,if_pos (this.1 hd)];grind
  ·rw[if_neg hd,if_neg λx=>hd (this.2 x)];grind
theorem fl_out {k:Nat} (h:n.g k=0):n.fl θ k=0:=by unfold fl;rw[h,bL]
theorem ker0 (ok:n.Ok) (h:∀ b,b<n.B->if n.root b=b then θ b=0 else n.lap θ b=0):∀ b,b<n.B->θ b=0:=by
 have hr:=rigid (θ:=θ) ok (D:=λ_=>True) (λ_ _ _=>Iff.rfl) λb hb _=>by
  have:=h b hb;split at this
  ·rw[this,bL]
  ·rw[this,aW]
 intro b hb;rw[<-root_const (λk hk hg=>hr k hk hg trivial) b];have hle:=root_le (n:=n) b;have:=h (n.root b) (by omega);rw[if_pos (root_root b)] at this;exact this
theorem gm_sum (ok:n.Ok) (θ:Nat->Rat) {b:Nat} (hb:b<n.B):B9 n.B (λc=>n.gm b c*θ c)=if n.root b=b then θ b else n.lap θ b:=by
 unfold gm;split
 ·rw[<-AJ4 θ hb];exact A9 λc _=>by grind
 ·exact lap_sum ok θ b
theorem lap_sub (b:Nat):n.lap (λc=>θ c-φ c) b=n.lap θ b-n.lap φ b:=by unfold lap off;rw[<-AF5];exact A9 λk _=>by unfold fl;grind
theorem uniq (ok:n.Ok) (h:∀ b,b<n.B->if n.root b=b then θ b=φ b else n.lap θ b=n.lap φ b):∀ b,b<n.B->θ b=φ b:=by
 intro b hb;have:=ker0 (θ:=λc=>θ c-φ c) ok (λb hb=>by
  have:=h b hb;split at this
  ·rw[if_pos (by assumption),this];grind
  ·rw[if_neg (by assumption),lap_sub,this];grind) b hb
 grind
end
end Nw
def ln0:LnV:=⟨0,0,1,0⟩
def A0 (n:NtV) (o:List Int):Nw where
 B:=n.b.toNat
 M:=n.ls.length
 F:=λk=>(n.ls.getD k ln0).f.toNat
 T:=λk=>(n.ls.getD k ln0).t.toNat
 g:=λk=>if k∈oN o then 0 else ((n.ls.getD k ln0).x:Rat)⁻¹
def AN7 (n:Nat) (p:Nat->Nat):List Int:=(List.range n).map λb=>((p b:Nat):Int)
theorem U1(n:Nat)(p:Nat->Nat):(AN7 n p).length=n:=by simp[AN7]
theorem Z1{n:Nat}{p:Nat->Nat}(h:i<n):(AN7 n p)[i]?=some ((p i:Nat):Int):=by unfold AN7;rw[aI,bA h];rfl
theorem Bs6{n v:Nat}{p:Nat->Nat}:(AN7 n p).set i ((v:Nat):Int)=AN7 n λb=>if b=i then v else p b:=by
 apply cU;intro j;rw[dB];unfold AN7;rw[dC,eE,aI,aI];by_cases hj:i=j
 ·subst hj;rw[if_pos rfl];by_cases h:i<n
  ·rw[if_pos h,bA h];simp
  ·rw[if_neg h,aH (by simpa using h)];rfl
 ·rw[if_neg hj];by_cases h:j<n
  ·rw[bA h];simp[Ne.symm hj]
  ·rw[aH (by simpa using h)];rfl
def Clm (B:Nat) (p R:Nat->Nat):Prop:=∀ b,b<B->p b<=b/\(p b=b->R b=b)/\(p b≠b->R b=R (p b))
def Nw.stepR (n:Nw) (R:Nat->Nat) (k:Nat):Nat->Nat:=λb=>if R b=max (R (n.F k)) (R (n.T k)) then min (R (n.F k)) (R (n.T k)) else R b
def Nw.rootF (n:Nw) (l:List Nat):Nat->Nat:=l.foldl n.stepR id
theorem Nw.rootF_snoc(n:Nw)(l:List Nat)(k:Nat):n.rootF (l++[k])=n.stepR (n.rootF l) k:=by unfold Nw.rootF;rw[iL];rfl
theorem Nw.rootF_free {n:Nw} {p:List Nat}:∀ j,(∀ k,k<j->(n.g k=0<->k∈p))->n.rootTo j=n.rootF (D7 p j)
 | 0,_=>rfl
 | j+1,h=>by
  have ih:=Nw.rootF_free j λk hk=>h k (by omega)
  have hj:=h j (by omega)
  rw[M4]
  funext b
  rw[Nw.rootTo]
  by_cases hg:n.g j=0
  ·rw[if_pos hg,if_pos (hj.1 hg),bB,ih]
  ·rw[if_neg hg,if_neg (λh=>hg (hj.2 h)),Nw.rootF_snoc,<-ih];rfl
structure Idm (R:Nat->Nat):Prop where
 rr:∀ b,R (R b)=R b
 le:∀ b,R b<=b
theorem Idm.step{n:Nw}{R:Nat->Nat}(h:Idm R)(k:Nat):Idm (n.stepR R k):=by
 have hF:=h.rr (n.F k);have hT:=h.rr (n.T k);unfold Nw.stepR;generalize R (n.F k)=a at *;generalize R (n.T k)=c at *;have hm:R (min a c)=min a c:=by
  rcases dQ a c with h | h
  ·rw[cJ h,hF]
  ·rw[fE h,hT]
 refine⟨λb=>?_,λb=>?_⟩
 ·by_cases hb:R b=max a c
  ·rw[if_pos hb,hm];split
   ·rfl
   ·rfl
  ·rw[if_neg hb,h.rr,if_neg hb]
 ·have:=h.le b;split
  ·omega
  ·exact this
theorem Nw.rootF_idm(n:Nw)(l:List Nat):Idm (n.rootF l):=by
 unfold Nw.rootF;have:∀ (l:List Nat) (R:Nat->Nat),Idm R->Idm (l.foldl n.stepR R):=by
  intro l;induction l with
  | nil=>exact λR h=>h
  | cons k l ih=>exact λR h=>ih _ (h.step k)
 exact this l id ⟨λ_=>rfl,λb=>aA b⟩
theorem Clm.step{n:Nw}{B k:Nat}{p R:Nat->Nat}(h:Clm B p R)(hi:Idm R):Clm B (λb=>if b=max (R (n.F k)) (R (n.T k)) then min (R (n.F k)) (R (n.T k)) else p b) (n.stepR R k):=by
 have iF:=hi.rr (n.F k);have iT:=hi.rr (n.T k);unfold Nw.stepR;generalize R (n.F k)=a at *;generalize R (n.T k)=c at *;have hM:R (max a c)=max a c:=by
  rcases dQ a c with h | h
  ·rw[fF h,iT]
  ·rw[dY h,iF]
 have hm:R (min a c)=min a c:=by
  rcases dQ a c with h | h
  ·rw[cJ h,iF]
  ·rw[fE h,iT]
 intro b hb;obtain⟨h1,h2,h3⟩:=h b hb;dsimp only;by_cases hbM:b=max a c
 ·subst hbM;rw[if_pos rfl];refine⟨by omega,λh=>?_,λh=>?_⟩
  ·rw[hM,if_pos rfl];exact h
  ·rw[hM,hm,if_pos rfl,if_neg h]
 ·rw[if_neg hbM];refine⟨h1,λh=>?_,λh=>?_⟩
  ·rw[h2 h,if_neg hbM]
  ·rw[h3 h]
def Nw.lab (n:Nw) (b:Nat):Nat:=((List.range (n.root b)).filter λr=>decide (n.root r=r)).length
def Nw.refs (n:Nw):List Nat:=(List.range n.B).filter λr=>decide (n.root r=r)
def Nw.cnt (n:Nw) (b:Nat):Nat:=((List.range b).filter λr=>decide (n.root r=r)).length
theorem Nw.cnt_succ(n:Nw)(b:Nat):n.cnt (b+1)=n.cnt b+if n.root b=b then 1 else 0:=by
 unfold Nw.cnt;rw[aP,bS,aL];by_cases h:n.root b=b
 ·simp[h]
 ·simp[h]
theorem Nw.cnt_le(n:Nw)(b:Nat):n.cnt b<=b:=by unfold Nw.cnt;have:=dO (λr=>decide (n.root r=r)) (List.range b);simpa using this
theorem Nw.lab_root(n:Nw){b:Nat}(h:n.root b=b):n.lab b=n.cnt b:=by unfold Nw.lab Nw.cnt;rw[h]
theorem Nw.lab_of(n:Nw)(b:Nat):n.lab b=n.lab (n.root b):=by unfold Nw.lab;rw[Nw.root_root]
theorem Nw.lab_le(n:Nw)(b:Nat):n.lab b<=b:=aG (n.cnt_le _) (Nw.root_le b)
def lnI (l:LnV):Nat->Int
 | 0=>l.f
 | 1=>l.t
 | 2=>l.x
 | _=>l.c
theorem P5.ln{S:Nat->Prop}{w:World}{p:Addr}{l:LnV}(h:P5 eL S w p l)(i:Nat)(hi:i<4):P5 (B8 .i64) S w (p.add i) (lnI l i):=by
 obtain⟨e,⟨rfl,h1,h2,h3,h4⟩,hS,hc⟩:=h;refine⟨.int .i64 (lnI l i),⟨rfl,?_⟩,by rw[J9];exact hS,λj u hu=>?_⟩
 ·match i with
  | 0=>exact h1
  | 1=>exact h2
  | 2=>exact h3
  | 3=>exact h4
 ·have hj:j=0:=by
   cases j with
   | zero=>rfl
   | succ j=>simp[Value.cells] at hu
  subst hj;rw[AC5];refine hc _ u ?_;match i with
  | 0=>simpa[Value.cells,lnI] using hu
  | 1=>simpa[Value.cells,lnI] using hu
  | 2=>simpa[Value.cells,lnI] using hu
  | 3=>simpa[Value.cells,lnI] using hu
section
variable {P:Program} {σ:Env} {w:World} {d:Option Tmp} {ty:TypeId} {pos:String} {af:Array Edge} {g:Option (Nat×Bool)} {S:Nat->Prop}
theorem AX3 {s:TypeId} {x:Operand} {i off:Nat} {u:Value} {l:LnV} (hf:U7 P s i=some off) (hx:ev σ x=some u) (hp:Ptr eL S l u w) (ho:off<4):Gv P ⟨d,.fieldAddr s x i,ty,pos,af,g⟩ σ w λv' w'=>Ext w w'/\Sp.ok (.inr (Ptr (B8 .i64) S (lnI l off))) v' w':=by obtain⟨p,rfl,hp⟩:=hp;exact K5 (v_faP hf hx) ⟨_,rfl,hp.ln off ho⟩ (λ_ _ _ e ⟨p,h1,h2⟩=>⟨p,h1,h2.ext e⟩)
end
section
variable {P:Program} {ro:Option Nat} {N:Nat} {ds:List Deferred} {ops:Array Oper} {K:Env->World->Prop} {rest:List Oper} {σ:Env} {w:World} {d:Tmp} {ty:TypeId} {pos:String} {af:Array Edge} {S:Nat->Prop}
end
structure nwOk (n:NtV) (o:List Int):Prop where
 b:n.b=((A0 n o).B:Nat)
 b1:1<=(A0 n o).B
 b6:(A0 n o).B<=6
 m:(A0 n o).M<=10
 fI:∀ k,k<(A0 n o).M->(n.ls.getD k ln0).f=((A0 n o).F k:Nat)
 tI:∀ k,k<(A0 n o).M->(n.ls.getD k ln0).t=((A0 n o).T k:Nat)
 f:∀ k,k<(A0 n o).M->(A0 n o).F k<(A0 n o).B
 t:∀ k,k<(A0 n o).M->(A0 n o).T k<(A0 n o).B
 ne:∀ k,k<(A0 n o).M->(A0 n o).F k≠(A0 n o).T k
 x:∀ k,k<(A0 n o).M->1<=(n.ls.getD k ln0).x/\(n.ls.getD k ln0).x<=1000
 c:∀ k,k<(A0 n o).M->0<=(n.ls.getD k ln0).c/\(n.ls.getD k ln0).c<=1000000
 outs:AB5 n o
theorem K6{n:NtV}{o:List Int}(h:C8 n o=0):nwOk n o:=by
 obtain⟨hc,ho⟩:=Z2 h;obtain⟨h1,h6,h10,hck⟩:=Bk1 hc;have hB:n.b=((n.b.toNat:Nat):Int):=by omega
 have hl:∀ k,k<n.ls.length->∀ i,i<5->ck i n.b (n.ls.getD k ln0)=true:=λk hk=>hck k hk _ (B0 hk);refine⟨hB,by show 1<=n.b.toNat;omega,by show n.b.toNat<=6;omega,h10,λk hk=>?_,λk hk=>?_,λk hk=>?_,λk hk=>?_,λk hk=>?_,λk hk=>?_,λk hk=>?_,ho⟩;all_goals
  have c0:=hl k hk 0 (by decide);have c1:=hl k hk 1 (by decide);have c2:=hl k hk 2 (by decide);have c3:=hl k hk 3 (by decide);have c4:=hl k hk 4 (by decide);simp[ck] at c0 c1 c2 c3 c4
 ·show (n.ls.getD k ln0).f=(((n.ls.getD k ln0).f.toNat:Nat):Int);simp;omega
 ·show (n.ls.getD k ln0).t=(((n.ls.getD k ln0).t.toNat:Nat):Int);simp;omega
 ·show (n.ls.getD k ln0).f.toNat<n.b.toNat;simp;omega
 ·show (n.ls.getD k ln0).t.toNat<n.b.toNat;simp;omega
 ·show (n.ls.getD k ln0).f.toNat≠(n.ls.getD k ln0).t.toNat;simp;omega
 ·simpa using c3
 ·simpa using c4
theorem nwOk.g0{n:NtV}{o:List Int}(h:nwOk n o){k:Nat}(hk:k<(A0 n o).M):(A0 n o).g k=0<->k∈oN o:=by
 show (if k∈oN o then (0:Rat) else ((n.ls.getD k ln0).x:Rat)⁻¹)=0<->_;constructor
 ·intro h0;by_cases hm:k∈oN o
  ·exact hm
  ·rw[if_neg hm] at h0;have hx:=(h.x k hk).1;have hne:((n.ls.getD k ln0).x:Rat)≠0:=λe=>by
    have:(n.ls.getD k ln0).x=0:=by exact_mod_cast e
    omega
   have h2:=fD _ hne;rw[h0,aW] at h2;exact absurd h2 (by decide)
 ·intro hm;rw[if_pos hm]
theorem nwOk.ok{n:NtV}{o:List Int}(h:nwOk n o):(A0 n o).Ok:=by
 refine⟨h.f,h.t,λk hk=>?_⟩;show (0:Rat)<=if k∈oN o then (0:Rat) else ((n.ls.getD k ln0).x:Rat)⁻¹;split
 ·exact fX
 ·have hx:=(h.x k hk).1;exact Rat.le_of_lt (Rat.inv_pos.2 (by exact_mod_cast (by omega:0<(n.ls.getD k ln0).x)))
theorem Bf8:Ent prog 199:=en func199
theorem Bd9{w:World}{b8 g B b:Nat}{p R:Nat->Nat}(k8:Blk w b8 25 #[.slice (some ⟨g,0,none⟩) B B])(hf:FB (B8 .i64) 3 (λ_=>True) w g (AN7 B p))(hp:Clm B p R)(hb:b<B) :
  CR prog 199 #[iW (b:Nat),pW b8] w (Is (iW (R b:Nat))):=by
 refine enter func199 O ntmps199 O (.sr (.an O O (.scope (.seq (.label (.seq (.block (.loop (α:=Nat) (λx=>[(0,iW (x:Nat)),(1,pW b8)]) (λx W=>W=w/\x<B/\R x=R b) (λx=>x) b ?_ ?_ ?_))))))))
 ·exact lkA rfl
 ·exact⟨rfl,hb,rfl⟩
 rintro x W ⟨rfl,hx,hR⟩;obtain⟨h1,h2,h3⟩:=hp x hx;refine .block (.sr (.ld AN6 O O k8 O (.mv O O (.ixB (i:=x) C5 B5 O O O hx (.ldF (E:=B8 .i64) (i:=x) (by decide) B5 O O (aD _) hf (Z1 hx) λe he=>.an O O (.sr (.mv O O (.nil ?_))))))));obtain⟨rfl,_⟩:=he;refine .block (.sr (.mv O O ?_));by_cases hpx:p x=x
 ·refine .eqlT O O O (by omega) (.an O O (.condT O (.exit (.sr (.mv O O (.an O O (.ret ?_)))))));exact .plain [_] results199 ⟨rfl,trivial⟩ ⟨Ext.refl _,by rw[<-hR,h2 hpx];rfl⟩
 ·refine .eqlF O O O (by omega) (.an O O (.condF O (.region (.mv O O (.an O O ?_)))));exact⟨rfl,p x,lkA rfl,⟨rfl,by omega,by rw[<-h3 hpx];exact hR⟩,by omega⟩
theorem AM3{n:NtV}{o:List Int}(hi:i<(inL n o).length):(A7 (inL n o))[i]?=some (((inL n o).getD i 0:Nat):Int)/\(inL n o).getD i 0<n.ls.length/\(inL n o).getD i 0∉oN o:=by
 have key:∀ k,k∈inL n o->k<n.ls.length/\k∉oN o:=λk hk=>by unfold inL D7 at hk;rw[cL] at hk;exact⟨List.mem_range.1 hk.1,by simpa using hk.2⟩
 obtain⟨h1,h2⟩:=key _ (H6 hi);exact⟨by rw[aI,B0 (z:=0) hi];rfl,h1,h2⟩
theorem Bj6{B:Nat}{f:Nat->Int}(hj:j<B)(hi:j<i):(fil B i f 0)[j]?=some (f j):=by unfold fil;rw[aI,bA hj];simp[hi]
theorem AZ9:Ent prog 137:=en func137
theorem AX7{S:Nat->Prop}{w:World}{vo:Value}{n:NtV}{o:List Int}(up:Up S w)(hn:eN.R S w vn n)(ho:eI.R S w vo o) :
  CR prog 137 #[vn,vo] w (Two (eI.at S (if C8 n o=0 then AN7 (A0 n o).B (A0 n o).lab else [])) (Is (iW (C8 n o)))):=by
 obtain⟨s,rfl,hs,hb⟩:=hn;have hn:eN.R S w (.agg #[iW n.b,s]) n:=⟨s,rfl,hs,hb⟩;refine enter func137 O ntmps137 O ?_;refine .sr (.box O O λw1 b2 n1=>.asg O O (.an O O ?_));obtain⟨e1,k2,hb2,hs1⟩:=n1;refine .sr (.ldA G2 O O k2 O (.mv O O ?_));refine .call _ O AR3 O (AQ2 (up.ext e1.size) (hn.ext e1) (ho.ext e1)) λv2 w2 e2 h2=>?_;obtain⟨vl,ve,rfl,hl,he⟩:=h2;replace he:ve=.int .i64 (C8 n o):=he;subst he;have x2:=e1.trans e2;refine .mv O O (.ext O O O (.ext O O O (.asg O O (.an O O (.seq (.sr (.mv O O ?_)))))));by_cases hE:C8 n o=0;rotate_left
 ·refine .neqT O O O hE (.nil (.condT O (.sr (.mv O O (.asg O O (.an O O (.ret ?_)))))));refine .plain [_,_] results137 ⟨rfl,rfl,trivial⟩ ⟨x2,_,_,rfl,?_,rfl⟩;rw[if_neg hE];exact RL.nil
 have ok:=K6 hE;rw[if_pos hE] at hl ⊢;have hB6:=ok.b6;have hM10:n.ls.length<=10:=ok.m;have hll:=AE6 n o;generalize hB:(A0 n o).B=B at *;refine .neqF O O O hE (.nil (.condF O (.skip ?_)));have k2:=k2.ext e2;have hnb:=ok.b;rw[hB] at hnb;rw[hnb] at k2;refine .sr (.fa F9 O O (.ld A5 O O k2 O ?_));refine .make_ B B C5 P6 O (by decide) O O O (aA _) (by omega) (by omega) λw3 g n3=>?_;have f3:FB (B8 .i64) 3 (λ_=>True) w3 g (List.replicate B 0):=FB.made n3 ⟨rfl,by decide⟩;obtain⟨e3,_,hg3,hs3⟩:=n3;refine .alloc O Ba7 λw4 b8 n4=>?_;obtain⟨e4,k8,hb8,hs4⟩:=n4;refine .store AN6 O O k8 O (by simp[Value.cells]) (by simp[H3,Value.cells]) λw5 k8 u5=>.nil ?_;replace k8:Blk w5 b8 25 #[.slice (some ⟨g,0,none⟩) B B]:=k8;have hs2:=e2.size;have hs5:=u5.size;have x4:=x2.trans (e3.trans e4);have x5:Ext w w5:=u5.below x4 (by omega);have x25:Ext w2 w5:=u5.below (e3.trans e4) (by omega);have k2:=k2.ext x25;have hl:=ER.ext eI (ER.lt eI hl) x25;have hsL:=ER.ext eLs (ER.lt eLs hs) x5;have hupd:∀ {W W':World} {l:List Int} {b:Nat},FB (B8 .i64) 3 (λ_=>True) W g l->Upd W W' b->g≠b->FB (B8 .i64) 3 (λ_=>True) W' g l:=λhf u hne=>by obtain⟨es,hb,he⟩:=hf;exact⟨es,hb.upd u hne,he.1,λi e x h1 h2=>he.2 i e x h1 h2⟩
 have f5:=hupd (f3.ext e4) u5 (by omega);have hgw:w2.heap.size<=g:=by omega
 have hg8:g≠b8:=by omega
 have hg2:b2≠g:=by omega
 have hw25:w2.heap.size<=w5.heap.size:=by omega
 refine .mid (α:=Unit) (λ_=>[(2,pW b2),(6,vl),(8,pW b8)]) (λ_ W=>Below w2.heap.size w5 W/\Blk W b8 25 #[.slice (some ⟨g,0,none⟩) B B]/\FB (B8 .i64) 3 (λ_=>True) W g (AN7 B id)) ?_ ?_
 ·refine .sr (.ld AN6 O O k8 O (.len C5 O O (.mv O O (.nil ?_))));refine .block (.loop (α:=Nat) (λi=>[(2,pW b2),(6,vl),(8,pW b8),(32,iW (B:Nat)),(33,iW (i:Nat))]) (λi W=>Below w2.heap.size w5 W/\Blk W b8 25 #[.slice (some ⟨g,0,none⟩) B B]/\i<=B/\FB (B8 .i64) 3 (λ_=>True) W g (fil B i (λb=>((b:Nat):Int)) 0)) (λi=>B-i) 0 ?_ ?_ ?_)
  ·exact lkA rfl
  ·refine⟨Below.refl _ _,k8,aC _,?_⟩;rw[R8];exact f5
  rintro i W ⟨hW,k8,hi,fb⟩;refine .sr ?_;rcases aB i B with hlt | hge;rotate_left
  ·refine .lssF O O O (by omega) (.nil (.seq (.condF O (.exit ?_))));have:i=B:=by omega
   subst this;refine⟨rfl,(),lkA rfl,hW,k8,?_⟩;rw[AI3] at fb;exact fb
  refine .lssT O O O (by omega) (.nil (.seq (.condT O (.skip (.seq (.block (.sr (.mv O O (.an O O (.region (.ld AN6 O O k8 O (.mv O O (.mv O O (.ixB (i:=i) C5 B5 O O O hlt ?_))))))))))))));refine .storeF (E:=B8 .i64) (i:=i) (z:=((i:Nat):Int)) (by decide) B5 O O fb O (by rw[L7];exact hlt) (aD _) ⟨rfl,K8.2 (by omega)⟩ λW1 f1 u1=>.nil ?_;refine .region (.add O O O (.mv O O (.nil ?_)));rw[wI (by omega)];rw[X5] at f1;exact⟨rfl,i+1,lkA rfl,⟨u1.below hW hgw,k8.upd u1 hg8.symm,hlt,f1⟩,by show B-(i+1)<B-i;omega⟩
 rintro _ W0 ⟨hW0,k8,fb0⟩;have hk2:∀ {W:World},Below w2.heap.size w5 W->Blk W b2 24 #[iW (B:Nat),s]:=λh=>(h.block b2 (by omega)).trans k2;have hlW:∀ {W:World},Below w2.heap.size w5 W->eI.R (λk=>S k/\k<w2.heap.size) W vl (A7 (inL n o)):=λh=>eI.keep (λk c t f hk hh=>(h.block k hk.2).trans hh) hl;have hsW:∀ {W:World},Below w2.heap.size w5 W->eLs.R (λk=>S k/\k<w.heap.size) W s n.ls:=λh=>eLs.keep (λk c t f hk hh=>(h.block k (by have:=hk.2;have:=x2.size;omega)).trans hh) hsL;refine .sr (.mkf [] [_] O O O O (.an O O ?_));refine .mid (α:=Nat->Nat) (λ_=>[(2,pW b2),(8,pW b8),(10,.func (.func 199) #[] #[pW b8])]) (λp W=>Below w2.heap.size w5 W/\Blk W b8 25 #[.slice (some ⟨g,0,none⟩) B B]/\FB (B8 .i64) 3 (λ_=>True) W g (AN7 B p)/\Clm B p ((A0 n o).rootF (inL n o))) ?_ ?_
 ·refine .sr (.mv O O (.lenR C5 O O (hlW hW0) (.mv O O (.nil ?_))));rw[show (A7 (inL n o)).length=(inL n o).length by simp];refine .block (.loop (α:=Nat×(Nat->Nat)) (λy=>[(2,pW b2),(8,pW b8),(10,.func (.func 199) #[] #[pW b8]),(42,vl),(43,iW ((inL n o).length:Nat)),(44,iW (y.1:Nat))])
   (λy W=>Below w2.heap.size w5 W/\Blk W b8 25 #[.slice (some ⟨g,0,none⟩) B B]/\y.1<=(inL n o).length/\FB (B8 .i64) 3 (λ_=>True) W g (AN7 B y.2)/\Clm B y.2 ((A0 n o).rootF ((inL n o).take y.1))) (λy=>(inL n o).length-y.1) (0,id) ?_ ?_ ?_)
  ·exact lkA rfl
  ·exact⟨hW0,k8,aC _,fb0,λb _=>⟨aA _,λ_=>rfl,λh=>absurd O h⟩⟩
  rintro⟨i,p⟩ W ⟨hW,k8,hi,fb,hc⟩;replace hW:Below w2.heap.size w5 W:=hW;replace hi:i<=(inL n o).length:=hi;replace fb:FB (B8 .i64) 3 (λ_=>True) W g (AN7 B p):=fb;replace hc:Clm B p ((A0 n o).rootF ((inL n o).take i)):=hc;refine .sr ?_;rcases aB i (inL n o).length with hlt | hge;rotate_left
  ·refine .lssF O O O (by omega) (.nil (.seq (.condF O (.exit ?_))));have:i=(inL n o).length:=by omega
   subst this;rw[aK (aA _)] at hc;exact⟨rfl,p,lkA rfl,hW,k8,fb,hc⟩
  obtain⟨hgk,hkM,hko⟩:=AM3 hlt;refine .lssT O O O (by omega) (.nil (.seq (.condT O (.skip (.seq (.block (.sr (.ixN (i:=i) C5 B5 O O (hlW hW) O hgk λq hq=>.ldE (E:=B8 .i64) B5 O O hq λe he=>.an O O ?_))))))));obtain⟨rfl,_⟩:=he;have htk:(inL n o).take (i+1)=(inL n o).take i++[(inL n o).getD i 0]:=by rw[cA,B0 (z:=0) hlt];rfl
  have hFB:=ok.f _ hkM;have hTB:=ok.t _ hkM;have hFI:=ok.fI _ hkM;have hTI:=ok.tI _ hkM;have hgl:n.ls[(inL n o).getD i 0]?=some (n.ls.getD ((inL n o).getD i 0) ln0):=B0 hkM;have hidm:=(A0 n o).rootF_idm ((inL n o).take i);generalize hR:(A0 n o).rootF ((inL n o).take i)=R at hc hidm;generalize hk:(inL n o).getD i 0=k at hgl hFB hTB hFI hTI hkM hko htk;rw[hB] at hFB hTB;have hlF:=hidm.le ((A0 n o).F k);have hlT:=hidm.le ((A0 n o).T k);refine .seq ?_;refine .par follows 16 [.inl (.func (.func 199) #[] #[pW b8]),.inl (.pointer (some ⟨b2,1,none⟩)),.inl s,.inl (iW (k:Nat)),.inr (Ptr eL (λk=>S k/\k<w.heap.size) (n.ls.getD k ln0)),.inr (Ptr (B8 .i64) (λk=>S k/\k<w.heap.size) (n.ls.getD k ln0).f),.inl (iW ((A0 n o).F k:Nat)),.inl (iW (R ((A0 n o).F k):Nat)),
   .inl (.func (.func 199) #[] #[pW b8]),.inl (.pointer (some ⟨b2,1,none⟩)),.inl s,.inl (iW (k:Nat)),.inr (Ptr eL (λk=>S k/\k<w.heap.size) (n.ls.getD k ln0)),.inr (Ptr (B8 .i64) (λk=>S k/\k<w.heap.size) (n.ls.getD k ln0).t),.inl (iW ((A0 n o).T k:Nat)),.inl (iW (R ((A0 n o).T k):Nat))]
   [[],[],[(49,1)],[],[(50,2),(51,3)],[(52,4)],[(53,5)],[(48,0),(54,6)],[],[],[(57,9)],[],[(58,10),(59,11)],[(60,12)],[(61,13)],[(56,8),(62,14)]] (by kernel_rfl) ⟨mvo O,fao G5 O,λw e=>(E2 J0 O ((hk2 hW).ext e) O).ob,mvo O,λw e=>C4 (i:=k) I6 L8 O (ER.ext eLs (hsW hW) e) O hgl,λw e x hx=>AX3 I5 O hx (by decide),λw e x hx=>by rw[<-hFI];exact F7 B5 O hx,λw e=>Gv.obIs (Ab4 [iW ((A0 n o).F k:Nat)] O Bf8 O (Bd9 (k8.ext e) (fb.ext e) hc hFB)),mvo O,fao G5 O,λw e=>(E2 J0 O ((hk2 hW).ext e) O).ob,mvo O,λw e=>C4 (i:=k) I6 L8 O (ER.ext eLs (hsW hW) e) O hgl,λw e x hx=>AX3 I4 O hx (by decide),λw e x hx=>by rw[<-hTI];exact F7 B5 O hx,λw e=>Gv.obIs (Ab4 [iW ((A0 n o).T k:Nat)] O Bf8 O (Bd9 (k8.ext e) (fb.ext e) hc hTB)),trivial⟩ ?_
  intro W1 f1 _ _ _ _ _ _ _ _;refine .asg O O (.an O O (.region (.ld AN6 O O (k8.ext f1) O (.mv O O (.mv O O (.max_ O O O (.mv O O (.mv O O (.min_ O O O ?_)))))))));rw[show max ((R ((A0 n o).F k):Nat):Int) (R ((A0 n o).T k):Nat)=((max (R ((A0 n o).F k)) (R ((A0 n o).T k)):Nat):Int) by omega,show min ((R ((A0 n o).F k):Nat):Int) (R ((A0 n o).T k):Nat)=((min (R ((A0 n o).F k)) (R ((A0 n o).T k)):Nat):Int) by omega];refine .ixB (i:=max (R ((A0 n o).F k)) (R ((A0 n o).T k))) C5 B5 O O O (by omega) ?_;refine .storeF (E:=B8 .i64) (i:=max (R ((A0 n o).F k)) (R ((A0 n o).T k))) (z:=((min (R ((A0 n o).F k)) (R ((A0 n o).T k)):Nat):Int)) (by decide) B5 O O (fb.ext f1) O (by rw[U1];omega) (aD _) ⟨rfl,K8.2 (by omega)⟩ λW2 f2 u2=>.nil ?_;rw[Bs6] at f2;have hW1:=hW.trans (f1.mono (by have:=hW.size;omega));refine .region (.add O O O (.mv O O (.nil ?_)));rw[wI (by omega)];refine⟨rfl,(i+1,_),lkA rfl,⟨u2.below hW1 hgw,(k8.ext f1).upd u2 hg8.symm,hlt,f2,?_⟩,by show (inL n o).length-(i+1)<(inL n o).length-i;omega⟩;show Clm B _ ((A0 n o).rootF ((inL n o).take (i+1)));rw[htk,Nw.rootF_snoc,hR];exact hc.step hidm
 rintro p W1 ⟨hW1,k8,fb,hc⟩;rw[show (A0 n o).rootF (inL n o)=(A0 n o).root by funext b;unfold Nw.root;rw[Nw.rootF_free (p:=oN o) _ λk hk=>ok.g0 hk];rfl] at hc
 have hW1s:=hW1.size;refine .sr (.fa F9 O O (.ld A5 O O (hk2 hW1) O ?_));refine .make_ B B C5 P6 O (by decide) O O O (aA _) (by omega) (by omega) λW2 h n2=>?_;have f2:FB (B8 .i64) 3 (λ_=>True) W2 h (List.replicate B 0):=FB.made n2 ⟨rfl,by decide⟩;obtain⟨e2',_,hh2,hs2'⟩:=n2;refine .an O O (.sr (.an O O ?_));have hgh:g≠h:=by have:=fb.lt;omega
 have k8:=k8.ext e2';have h8h:b8≠h:=by have:=hW1s;omega
 have fb:=fb.ext e2';have hW2:=hW1.trans (e2'.mono (by omega));have hhw:w2.heap.size<=h:=by omega
 have hupd':∀ {W W':World} {l:List Int},FB (B8 .i64) 3 (λ_=>True) W g l->Upd W W' h->FB (B8 .i64) 3 (λ_=>True) W' g l:=λhf u=>hupd hf u hgh;refine .seq (.sr (.mv O O (.len C5 O O (.mv O O (.nil ?_)))));refine .block (.loop (α:=Nat) (λi=>[(8,pW b8),(10,.func (.func 199) #[] #[pW b8]),(15,.slice (some ⟨h,0,none⟩) B B),(16,iW ((A0 n o).cnt i:Nat)),(77,iW (B:Nat)),(78,iW (i:Nat))])
  (λi W=>Below w2.heap.size w5 W/\Blk W b8 25 #[.slice (some ⟨g,0,none⟩) B B]/\i<=B/\FB (B8 .i64) 3 (λ_=>True) W g (AN7 B p)/\FB (B8 .i64) 3 (λ_=>True) W h (fil B i (λb=>(((A0 n o).lab b:Nat):Int)) 0)) (λi=>B-i) 0 ?_ ?_ ?_)
 ·exact lkA rfl
 ·refine⟨hW2,k8,aC _,fb,?_⟩;rw[R8];exact f2
 rintro i W ⟨hW,k8,hi,fb,fl⟩;refine .sr ?_;rcases aB i B with hlt | hge;rotate_left
 ·refine .lssF O O O (by omega) (.nil (.seq (.condF O (.exit (.sr (.mv O O (.asg O O (.an O O (.ret ?_)))))))));have:i=B:=by omega
  subst this;refine .plain [_,_] results137 ⟨rfl,rfl,trivial⟩ ⟨Below.trans x5 (hW.mono (by omega)),_,_,rfl,?_,by rw[hE]⟩;rw[AI3] at fl;have fl':FB (B8 .i64) 3 S W h (AN7 i (A0 n o).lab):=by obtain⟨es,hb,he⟩:=fl;exact⟨es,hb,he.1,λi e x h1 h2=>he.2 i e x h1 h2⟩
  have:=fl'.toR (hsz:=by decide) (c:=i) (up h (by omega)) (by rw[U1];omega) (by rw[U1];omega);rw[U1] at this;exact this
 refine .lssT O O O (by omega) (.nil (.seq (.condT O (.skip (.seq (.block (.sr (.mv O O (.an O O (.seq (.sr (.mv O O (.mv O O ?_)))))))))))));refine .callv [iW (i:Nat)] O O Bf8 O (Bd9 k8 fb hc hlt) λv3 W3 e3 h3=>.an O O (.sr (.mv O O (.mv O O ?_)));subst h3;have hrl:=Nw.root_le (n:=A0 n o) i;have hlb:=Nw.lab_le (A0 n o) i;have hcl:=Nw.cnt_le (A0 n o) i;have hcs:=Nw.cnt_succ (A0 n o) i;have hW3:=hW.trans (e3.mono (by have:=hW.size;omega));have k8:=k8.ext e3;have fb:=fb.ext e3;have fl:=fl.ext e3;by_cases hr:(A0 n o).root i=i
 ·refine .neqF O O O (by omega) (.nil (.condF O (.skip (.sr (.mv O O (.mv O O (.mv O O (.ixB (i:=i) C5 B5 O O O hlt ?_))))))));refine .storeF (E:=B8 .i64) (i:=i) (z:=(((A0 n o).lab i:Nat):Int)) (by decide) B5 O O fl O (by rw[L7];exact hlt) (aD _) ⟨by rw[Nw.lab_root _ hr],K8.2 (by omega)⟩ λW4 f4 u4=>.nil ?_;rw[X5 (f:=λb=>(((A0 n o).lab b:Nat):Int))] at f4;refine .region (.mv O O (.add O O O (.an O O (.region (.add O O O (.mv O O (.nil ?_)))))));rw[wI (by omega),wI (by omega)];rw[if_pos hr] at hcs;exact⟨rfl,i+1,B7 O (B7 O (B7 O (B7 (by rw[hcs];rfl) (lkA O)))),⟨u4.below hW3 hhw,k8.upd u4 h8h,hlt,hupd' fb u4,f4⟩,by show B-(i+1)<B-i;omega⟩
 ·refine .neqT O O O (by omega) (.nil (.condT O (.sr (.mv O O (.mv O O (.mv O O (.mv O O (.ixB (i:=(A0 n o).root i) C5 B5 O O O (by omega) ?_))))))));refine .ldF (E:=B8 .i64) (i:=(A0 n o).root i) (by decide) B5 O O (aD _) fl (Bj6 (by omega) (by omega)) λe he=>?_;obtain⟨rfl,_⟩:=he;refine .ixB (i:=i) C5 B5 O O O hlt ?_;refine .storeF (E:=B8 .i64) (i:=i) (z:=(((A0 n o).lab i:Nat):Int)) (by decide) B5 O O fl O (by rw[L7];exact hlt) (aD _) ⟨by rw[Nw.lab_of _ i],K8.2 (by omega)⟩ λW4 f4 u4=>.nil ?_;rw[X5 (f:=λb=>(((A0 n o).lab b:Nat):Int))] at f4;refine .exit (.region (.add O O O (.mv O O (.nil ?_))));rw[wI (by omega)];rw[if_neg hr,bP] at hcs;exact⟨rfl,i+1,B7 O (B7 O (B7 O (B7 (by rw[hcs];rfl) (lkA O)))),⟨u4.below hW3 hhw,k8.upd u4 h8h,hlt,hupd' fb u4,f4⟩,by show B-(i+1)<B-i;omega⟩
theorem Els.append{E:ER α}{S:Nat->Prop}{w:World}{es fs:List Value}{l s:List α}(h:Els E S w es l)(h':Els E S w fs s):Els E S w (es++fs) (l++s):=by
 refine⟨by rw[aL,aL,h.1,h'.1],λi e x he hx=>?_⟩;rw[List.getElem?_append] at he hx;rw[h.1] at he;split at he
 ·rename_i hi;rw[if_pos hi] at hx;exact h.2 i e x he hx
 ·rename_i hi;rw[if_neg hi] at hx;exact h'.2 _ e x he hx
section
variable {P:Program} {σ:Env} {w:World} {d:Option Tmp} {ty:TypeId} {pos:String} {af:Array Edge} {g:Option (Nat×Bool)} {α:Type} {E:ER α}
theorem BP4 {tt t:TypeId} {x y:Operand} {z:Value} {by_ base:Nat} {X:Nat->Prop} {v u:Value} {l s:List α} {hsz:0<E.sz} (ht:P.underlying tt=some (.slice t)) (hi:O8 P t=some (z,E.sz,by_)) (hzs:z.cells.size=E.sz) (hx:ev σ x=some v) (hy:ev σ y=some u)
  (hown:B4 E t base X w v l) (hs:(RL E hsz).R X w u s) (hX:∀ k,X k->k<base) (hl:l.length<=1000000) (hl2:s.length<=1000000) (hby:by_<=100) (hbase:base<=w.heap.size) :
  Gv P ⟨d,.call { callee:=.builtin .append,args:=#[x,y],argTypes:=#[tt,tt] },ty,pos,af,g⟩ σ w λv' w'=>B4 E t base X w' v' (l++s)/\Below base w w':=by
 have hown0:=hown;obtain⟨es0,ho,hels⟩:=hown;obtain⟨es,he,a,c,rfl,hc,_,hcl,hcells⟩:=hs;have hone:∀ u∈cellsOf es,H3 u=true:=by
  intro u hu;obtain⟨e,he',hu'⟩:=List.mem_flatMap.1 hu;obtain⟨i,hi'⟩:=List.mem_iff_getElem?.1 he';have hlt:i<s.length:=by rw[<-he.1];exact (List.getElem?_eq_some_iff.1 hi').1
  exact E.one (he.2 i e _ hi' (aE hlt)) u hu'
 have fin:∀ v' w',w'.ownsRow base t E.sz v' (l.length+s.length) (cellsOf es0++cellsOf es)->w.grownBy w' v.ownBlock->B4 E t base X w' v' (l++s)/\Below base w w':=by
  intro v' w' h1 h2;have hb:Below base w w':=hown0.below h2 (Below.refl _ _) hbase;have hk:Kp X w w':=λk c t f hk h=>(hb.block k (hX k hk)).trans h;have hno:∀ k,X k->v'.ownBlock≠some k:=λk hk e=>by have:=(h1.lt k e).1;have:=hX k hk;omega
  refine⟨⟨es0++es,?_,?_⟩,hb⟩
  ·rw[show cellsOf (es0++es)=cellsOf es0++cellsOf es by simp[cellsOf],aL];exact h1
  ·refine Els.append ⟨hels.1,λi e x he hx=>?_⟩ ⟨he.1,λi e x he' hx=>?_⟩
   ·exact E.mono (λk _ hk=>⟨hk,hno k hk⟩) (E.keep hk (E.mono (λk _ hk=>hk.1) (hels.2 i e x he hx)))
   ·exact E.mono (λk _ hk=>⟨hk,hno k hk⟩) (E.keep hk (he.2 i e x he' hx))
 have hbytes:(l.length+s.length)*by_<=140737488355328:=by have:(l.length+s.length)*by_<=2000000*100:=dD (by omega) hby;omega
 cases a with
 | some ad =>
  have hcell:∀ j u,(cellsOf es)[j]?=some u->w.cell? (ad.add j)=some u:=by
   intro j u hu;have hpos:0<s.length:=by
    rcases aU s.length with h0 | h0
    ·have:es=[]:=List.length_eq_zero_iff.1 (by rw[he.1];exact h0);subst this;simp[cellsOf] at hu
    ·exact h0
   obtain⟨ad',h1,_,h2⟩:=hcells hpos
   cases h1;exact (h2 j u hu).1
  exact (BB1 (cellsOf es) ht hi hzs hsz hx hy ho hcl hcell hone (by omega) hbytes hbase).mono λv' w' ⟨h1,h2⟩=>fin v' w' h1 h2
 | none =>
  have h0:s=[]:=by
   cases s with
   | nil=>rfl
   | cons z s=>obtain⟨ad,h1,_⟩:=hcells (by simp);cases h1
  subst h0;refine (By8 ht hi hx hy ho).gv.mono λv' w' ⟨h1,h2⟩=>?_;subst h1;subst h2;exact⟨by simpa using hown0,Below.refl _ _⟩
end
section
variable {P:Program} {σ:Env} {w:World} {d:Option Tmp} {ty:TypeId} {pos:String} {af:Array Edge} {g:Option (Nat×Bool)}
theorem v_sidx {xt:TypeId} {x ix:Operand} {k:IntKind} {i:Int} {s:ByteArray} {b:UInt8} (ht:P.underlying xt=some .string) (hx:ev σ x=some (.string s)) (hi:ev σ ix=some (.int k i)) (h0:0<=i) (hb:s[i.toNat]?=some b) :
  Vl P ⟨d,.index xt x ix,ty,pos,af,g⟩ σ w (.int .u8 b.toNat):=by
 refine⟨(by intro _ h;cases h),λρ hρ=>?_⟩;have h1:=hρ x _ (by simp[Op.operands]) hx;have h2:=hρ ix _ (by simp[Op.operands]) hi;simp[execOp,Instr.index,h1,h2,asIntOf,Sem.run_bind,run_underlying ht,Result.andThen_ok,h0,hb]
theorem g_sidx {xt:TypeId} {x ix:Operand} {k:IntKind} {n:Nat} {s:ByteArray} (ht:P.underlying xt=some .string) (hx:ev σ x=some (.string s)) (hi:ev σ ix=some (.int k (n:Nat))) (hn:n<=12) (hs:((List.range 13).all λj=>(s[j]?).isSome)=true) :
  Gv P ⟨d,.index xt x ix,ty,pos,af,g⟩ σ w λv w'=>w'=w/\∃ b:UInt8,v=.int .u8 b.toNat:=by
 have h1:=List.all_eq_true.1 hs n (List.mem_range.2 (by omega));obtain⟨b,hb⟩:=Option.isSome_iff_exists.1 h1;exact (v_sidx ht hx hi (by omega) (b:=b) (by simpa using hb)).gv.mono λv w' ⟨h1,h2⟩=>⟨h2,b,h1⟩
theorem Aw1 {k:IntKind} {t t':TypeId} {x:Operand} {g' i o:Nat} {S:Nat->Prop} {l:List Int} {z:Int} (ht:F6 P t=some (false,1)) (hx:ev σ x=some (.pointer (some ⟨g',o,none⟩))) (ho:o=i*1) (hF:FP (B8 k) t' S w g' l) (hz:l[i]?=some z) :
  Gv P ⟨d,.load t x,ty,pos,af,g⟩ σ w λv' w'=>Ext w w'/\Sp.ok (.inl (.int k z)) v' w' :=
 (Ao3 (E:=B8 k) ht hx ho hF hz).mono λv' w' ⟨e1,h⟩=>⟨e1,(h w' (Ext.refl _)).1⟩
end
def T4 (q:List Int) (j:Nat) (x:Int) (r:List Int):List Int:=q.take j++x::(q.drop j++r)
section
variable {q r:List Int} {x:Int} {j:Nat}
theorem Ab1 (hj:j<=q.length):(T4 q j x r).length=q.length+1+r.length:=by unfold T4;simp;omega
theorem Bx9 (hj:j<=q.length):(T4 q j x r)[j]?=some x:=by unfold T4;rw[bT (by simp;omega)];simp[cJ hj]
theorem Bn5 {y:Int} (h:q[j]?=some y):(T4 q (j+1) x r)[j]?=some y:=by have hl:=(List.getElem?_eq_some_iff.1 h).1;unfold T4;rw[bQ (by simp;omega),cP,if_pos (eY j)];exact h
theorem Bd3 {y:Int} (h:q[j]?=some y):((T4 q (j+1) x r).set (j+1) y).set j x=T4 q j x r:=by
 obtain⟨hl,hy⟩:=List.getElem?_eq_some_iff.1 h;unfold T4;have h1:q.take (j+1)=q.take j++[y]:=by rw[cA,h];rfl
 have h2:q.drop j=y::q.drop (j+1):=by rw[<-hy];exact bX hl
 have h3:(q.take j).length=j:=by simp;omega
 rw[h1,h2];generalize q.take j=L at h3;subst h3;rw[cS,gP _ _ (by omega),gP _ _ (by omega)];simp
theorem BL1:T4 q q.length x r=q++x::r:=by unfold T4;simp
end
theorem E_isNaN:Ent prog 205:=en func205
theorem isNaN_c{w:World}:CR prog 205 #[iW a] w (Is (.bool false)):=by refine enter func205 O ntmps205 O (.beg (.go O (.neqF O O O O (.goE O ?_))));exact .p1 _ results205 O ⟨Ext.refl _,rfl⟩
theorem CB5:Ent prog 144:=en func144
theorem Bx4{w:World}{b:Int}:CR prog 144 #[iW a,iW b] w (Is (.bool (decide (a<b)))):=by refine enter func144 O ntmps144 O (.beg (.go O (.call _ O E_isNaN O isNaN_c λv1 w1 e1 h1=>?_)));subst h1;refine .go O (.lss O O O (.goE O ?_));exact .p1 _ results144 O ⟨e1,rfl⟩
theorem E_isort:Ent prog 138:=en func138
theorem isort_c{w:World}{g:Nat}{p:List Int}{k:Int}(hF:FP (B8 .i64) 3 (λ_=>True) w g (p++[k]))(hp:p.Pairwise (·<·))(hl:p.length<=1000) :
  Calls prog 138 #[.slice (some ⟨g,0,none⟩) (p.length+1) cap,iW 0,iW ((p.length+1:Nat):Int)] w λe w'=>∃ v,e=.returned v/\∃ j,j<=p.length/\(∀ y∈p.drop j,k<y)/\(∀ y∈p.take j,y<=k)/\Chg (λb=>b=g) w w'/\FP (B8 .i64) 3 (λ_=>True) w' g (T4 p j k []):=by
 refine U8 func138 O ntmps138 O (.beg (.go O (.inc (i:=0) O O O (by omega) (.goC O (.lp (α:=Nat×List Int) [0,1,2] O (λy=>[(6,iW (y.1:Nat))]) (λy W=>Chg (λb=>b=g) w W/\FP (B8 .i64) 3 (λ_=>True) W g y.2/\((y.1<=p.length/\1<=y.1/\y.2=p++[k])\/(y.1=p.length+1/\∃ j,j<=p.length/\(∀ z∈p.drop j,k<z)/\(∀ z∈p.take j,z<=k)/\y.2=T4 p j k []))) (λy=>p.length+1-y.1) (1,p++[k]) (lc1 O) ⟨Chg.refl _,hF,?_⟩ ?_)))))
 ·cases p with
  | nil=>exact .inr ⟨rfl,0,aA _,by simp,by simp,rfl⟩
  | cons a p=>exact .inl ⟨by simp,aA _,rfl⟩
 rintro⟨i,l⟩ W ⟨hC,hF,hI⟩;refine .go O ?_;rcases hI with ⟨hi,hi1,rfl⟩ | ⟨rfl,j,hj,h1,h2,rfl⟩;rotate_left
 ·exact .lssF O O O (by omega) (.goE O (.plain [] results138 trivial ⟨j,hj,h1,h2,hC,hF⟩))
 obtain⟨q,x,r,hq,hpk,hqs,hqp⟩:∃ q x r,q.length=i/\p++[k]=T4 q i x r/\q.Pairwise (·<·)/\((i<p.length/\∀ y∈q,y<x)\/(i=p.length/\q=p/\x=k/\r=[])):=by
  rcases aB i p.length with hlt | hge
  ·refine⟨p.take i,p[i],p.drop (i+1)++[k],by simp;omega,?_,hp.sublist (List.take_sublist _ _),.inl ⟨hlt,λy hy=>?_⟩⟩
   ·have h3:(p.take i).length=i:=by simp;omega
    have h4:T4 (p.take i) i p[i] (p.drop (i+1)++[k])=p.take i++p[i]::(p.drop (i+1)++[k]):=by have:=BL1 (q:=p.take i) (x:=p[i]) (r:=p.drop (i+1)++[k]);rw[h3] at this;exact this
    rw[h4];have h5:p=p.take i++p[i]::p.drop (i+1):=by rw[<-bX hlt,eC]
    exact (congrArg (·++[k]) h5).trans (by rw[cS];rfl)
   ·obtain⟨a,ha,rfl⟩:=List.mem_take_iff_getElem.1 hy;have ha':a<i:=by omega
    exact List.pairwise_iff_getElem.1 hp a i (by omega) hlt ha'
  ·have:i=p.length:=by omega
   subst this;exact⟨p,k,[],rfl,BL1.symm,hp,.inr ⟨rfl,rfl,rfl,rfl⟩⟩
 have hfin:∀ {j:Nat} {W':World},j<=i->(∀ y∈q.drop j,x<y)->(j=0\/∀ y,q[j-1]?=some y->y<=x)->FP (B8 .i64) 3 (λ_=>True) W' g (T4 q j x r)->∃ l',FP (B8 .i64) 3 (λ_=>True) W' g l'/\((i+1<=p.length/\1<=i+1/\l'=p++[k])\/(i+1=p.length+1/\∃ j,j<=p.length/\(∀ z∈p.drop j,k<z)/\(∀ z∈p.take j,z<=k)/\l'=T4 p j k [])):=by
  intro j W' hj h1 h2 hF';rcases hqp with ⟨hlt,hqx⟩ | ⟨rfl,rfl,rfl,rfl⟩
  ·have hji:j=i:=by
    rcases aB j i with h | h
    ·exfalso;have h3:q[j]'(by omega)∈q.drop j:=by rw[bX (by omega)];exact cR ..
     have:=h1 _ h3;have:=hqx _ (eD (l:=q) (n:=j) (by omega));omega
    ·omega
   subst hji;rw[<-hpk] at hF';exact⟨_,hF',.inl ⟨by omega,by omega,rfl⟩⟩
  ·refine⟨_,hF',.inr ⟨rfl,j,hj,h1,λy hy=>?_,rfl⟩⟩;obtain⟨a,ha,rfl⟩:=List.mem_take_iff_getElem.1 hy;rcases h2 with h2 | h2
   ·omega
   ·have hj1:j-1<q.length:=by omega
    have h3:=h2 _ (aE hj1);rcases aB a (j-1) with h | h
    ·have:=List.pairwise_iff_getElem.1 hp a (j-1) (by omega) hj1 h;omega
    ·have:a=j-1:=by omega
     subst this;exact h3
 rw[hpk] at hF;have hr:q.length+1+r.length=p.length+1:=by have:=congrArg List.length hpk;rw[Ab1 (by omega)] at this;simp at this;omega
 refine .lssT O O O (by omega) (.goC O (.lp (α:=Nat) [0,1,2,6] rfl (λj=>[(7,iW (j:Nat))]) (λj W'=>Chg (λb=>b=g) w W'/\FP (B8 .i64) 3 (λ_=>True) W' g (T4 q j x r)/\j<=i/\∀ y∈q.drop j,x<y) (λj=>j) i (lc1 rfl) ⟨hC,hF,aA _,by rw[dU (by omega)];intro y hy;cases hy⟩ ?_));rintro j W' ⟨hC,hF,hj,hd⟩;have hout:∀ {W2:World},Ext W' W2->(j=0\/∀ y,q[j-1]?=some y->y<=x)->∃ l',FP (B8 .i64) 3 (λ_=>True) W2 g l'/\((i+1<=p.length/\1<=i+1/\l'=p++[k])\/(i+1=p.length+1/\∃ j,j<=p.length/\(∀ z∈p.drop j,k<z)/\(∀ z∈p.take j,z<=k)/\l'=T4 p j k [])):=λe h=>hfin hj hd h (hF.ext e)
 cases j with
 | zero =>
  refine .goC O ?_;refine .par follows 13 [.inl _,.inl _,.inl (.bool false),.inl (.bool false),.inl undef,.inl undef,.inl undef,.inl undef,.inl undef,.inl undef,.inl undef,.inl undef,.inl undef] [[],[],[(16,0),(17,1)],[(18,2)],[(19,3)],[(19,3)],[(20,4),(21,5),(19,3)],[(22,6),(19,3)],[(19,3)],[(19,3)],[(25,9),(19,3)],[(24,8),(26,10),(19,3)],[(27,11),(19,3)]] (by kernel_rfl) ⟨mvo O,mvo O,λw e=>((Ac8 O O).eq (by simp)).ob,mvo O,λw e=>rfl,λw e=>rfl,λw e=>rfl,λw e=>rfl,λw e=>rfl,λw e=>rfl,λw e=>rfl,λw e=>rfl,λw e=>rfl,trivial⟩ ?_;intro W2 d2;obtain⟨l',hl',hI'⟩:=hout d2 (.inl rfl);exact .go O (.inc O O O (by omega) (.goN O (.mk (i+1,l') O (lc1 O) ⟨⟨hC.trans (Chg.ext d2),hl',hI'⟩,by show p.length+1-(i+1)<p.length+1-i;omega⟩)))
 | succ m =>
 have hmq:m<q.length:=by omega
 have hm:=aE hmq;generalize q[m]=y at hm;have hg1:=Bx9 (q:=q) (x:=x) (r:=r) (j:=m+1) (by omega);have hg2:=Bn5 (x:=x) (r:=r) hm;by_cases hxy:x<y;rotate_left
 ·refine .goC O ?_;refine .par follows 13 [.inl _,.inl _,.inl (.bool true),.inl (.bool true),.inl _,.inl _,.inl (.pointer (some ⟨g,0+(m+1)*1,none⟩)),.inl (iW x),.inl _,.inl _,.inl (iW (m:Nat)),.inl (.pointer (some ⟨g,0+m*1,none⟩)),.inl (iW y)] [[],[],[(16,0),(17,1)],[(18,2)],[(19,3)],[(19,3)],[(20,4),(21,5),(19,3)],[(22,6),(19,3)],[(19,3)],[(19,3)],[(25,9),(19,3)],[(24,8),(26,10),(19,3)],[(27,11),(19,3)]] (by kernel_rfl) ⟨mvo O,mvo O,λw e=>((Ac8 O O).eq (by simp)).ob,mvo O,mvo O,mvo O,λw e=>(G6 (i:=m+1) C5 B5 O O (by omega)).ob,λw e=>Aw1 (i:=m+1) B5 O (aD _) (hF.ext e) hg1,mvo O,mvo O,λw e=>((AL5 O O).eq (by rw[wI (by omega)];congr 1;omega)).ob,λw e=>(G6 (i:=m) C5 B5 O O (by omega)).ob,λw e=>Aw1 (i:=m) B5 O (aD _) (hF.ext e) hg2,trivial⟩ ?_;intro W2 d2';refine .go O (.call _ O CB5 O Bx4 λv3 W3 e3 h3=>?_);subst h3;rw[decide_eq_false hxy];have d2:=d2'.trans e3;obtain⟨l',hl',hI'⟩:=hout d2 (.inr λz hz=>by rw[gN,hm] at hz;cases hz;omega);exact .go O (.inc O O O (by omega) (.goN O (.mk (i+1,l') O (lc1 O) ⟨⟨hC.trans (Chg.ext d2),hl',hI'⟩,by show p.length+1-(i+1)<p.length+1-i;omega⟩)))
 refine .goC O ?_;refine .par follows 13 [.inl _,.inl _,.inl (.bool true),.inl (.bool true),.inl _,.inl _,.inl (.pointer (some ⟨g,0+(m+1)*1,none⟩)),.inl (iW x),.inl _,.inl _,.inl (iW (m:Nat)),.inl (.pointer (some ⟨g,0+m*1,none⟩)),.inl (iW y)] [[],[],[(16,0),(17,1)],[(18,2)],[(19,3)],[(19,3)],[(20,4),(21,5),(19,3)],[(22,6),(19,3)],[(19,3)],[(19,3)],[(25,9),(19,3)],[(24,8),(26,10),(19,3)],[(27,11),(19,3)]] (by kernel_rfl) ⟨mvo O,mvo O,λw e=>((Ac8 O O).eq (by simp)).ob,mvo O,mvo O,mvo O,λw e=>(G6 (i:=m+1) C5 B5 O O (by omega)).ob,λw e=>Aw1 (i:=m+1) B5 O (aD _) (hF.ext e) hg1,mvo O,mvo O,λw e=>((AL5 O O).eq (by rw[wI (by omega)];congr 1;omega)).ob,λw e=>(G6 (i:=m) C5 B5 O O (by omega)).ob,λw e=>Aw1 (i:=m) B5 O (aD _) (hF.ext e) hg2,trivial⟩ ?_;intro W2 d2';refine .go O (.call _ O CB5 O Bx4 λv3 W3 e3 h3=>?_);subst h3;rw[decide_eq_true hxy];have d2:=d2'.trans e3;refine .goC O ?_;have hF2:=hF.ext d2;refine .heldT follows true (λ_=>True) [some _,some (iW ((m+1:Nat):Int)),some _,some (iW ((m+1:Nat):Int)),some (iW (m:Nat)),some _,some (iW ((m+1:Nat):Int)),some (iW (m:Nat)),some (.pointer (some ⟨g,0+m*1,none⟩)),none,some _,some (iW ((m+1:Nat):Int)),some (.pointer (some ⟨g,0+(m+1)*1,none⟩)),none,some (.pointer (some ⟨g,0+(m+1)*1,none⟩)),none,some (.pointer (some ⟨g,0+m*1,none⟩)),none]
   (.two 9 (.one 13 (.one 15 (.one 17 .done))) 13 (.one 9 (.one 15 (.one 17 .done)))) (by kernel_rfl) (by kernel_rfl)
   ⟨λ_ _=>v_mv rfl,λ_ _=>v_mv rfl,λ_ _=>v_mv rfl,λ_ _=>v_mv rfl,λ_ _=>(AL5 O O).eq (by rw[wI (by omega)];congr 1;omega),λ_ _=>v_mv rfl,λ_ _=>v_mv rfl,λ_ _=>(AL5 O O).eq (by rw[wI (by omega)];congr 1;omega),λ_ _=>G6 (i:=m) C5 B5 O O (by omega),λ_ _=>v_mv rfl,λ_ _=>v_mv rfl,λ_ _=>G6 (i:=m+1) C5 B5 O O (by omega),λ_ _=>G6 (i:=m+1) C5 B5 O O (by omega),λ_ _=>G6 (i:=m) C5 B5 O O (by omega),trivial⟩ ?_
 intro W3 e3 _;obtain⟨x9,h9,p9⟩:=(hF2.ext e3).at_ hg2;obtain⟨x13,h13,p13⟩:=(hF2.ext e3).at_ hg1;have q9:Ac3 W3 ⟨g,0+m*1,none⟩ x9:=by rw[aD];exact p9
 have q13:Ac3 W3 ⟨g,0+(m+1)*1,none⟩ x13:=by rw[aD];exact p13
 refine .gv2 (.gv O trivial O (AH4 (E:=B8 .i64) B5 O q9 h9).gv ?_) (.gv O trivial O (AH4 (E:=B8 .i64) B5 O q13 h13).gv ?_);all_goals
  rintro _ _ ⟨rfl,rfl⟩;refine .gv O trivial O (by first | exact (AH4 (E:=B8 .i64) B5 O q13 h13).gv | exact (AH4 (E:=B8 .i64) B5 O q9 h9).gv) ?_
  rintro _ _ ⟨rfl,rfl⟩;refine .gv O trivial O (AY0 (E:=B8 .i64) (i:=m+1) (by decide) B5 O O (hF2.ext e3) O (by rw[Ab1 (by omega)];omega) (aD _) h9) ?_;rintro _ W4 ⟨f4,u4⟩;refine .gv O trivial O (AY0 (E:=B8 .i64) (i:=m) (by decide) B5 O O f4 O (by rw[bV,Ab1 (by omega)];omega) (aD _) h13) ?_;rintro _ W5 ⟨f5,u5⟩;refine .nil (.inl O) ?_;rw[Bd3 hm] at f5;have hC5:Chg (λb=>b=g) w W5:=(((hC.trans (Chg.ext d2)).trans (Chg.ext e3)).trans (Chg.upd u4 O)).trans (Chg.upd u5 O);refine kq.go O (.sub O O O ?_);rw[wI (by omega),show (((m+1:Nat):Int)-1)=((m:Nat):Int) by omega];refine .goN O (.mk m O (lc1 O) ⟨⟨hC5,f5,by omega,λz hz=>?_⟩,eY m⟩);have hdr:q.drop m=y::q.drop (m+1):=by obtain⟨_,hy⟩:=List.getElem?_eq_some_iff.1 hm;rw[<-hy];exact bX hmq
  rw[hdr] at hz;rcases List.mem_cons.1 hz with rfl | hz
  ·exact hxy
  ·exact hd z hz
theorem E_pdq:Ent prog 96:=en func96
theorem pdq_c{w:World}{g:Nat}{p:List Int}{k r:Int}(hF:FP (B8 .i64) 3 (λ_=>True) w g (p++[k]))(hp:p.Pairwise (·<·))(hl:p.length<=11) :
  Calls prog 96 #[.slice (some ⟨g,0,none⟩) (p.length+1) cap,iW 0,iW ((p.length+1:Nat):Int),iW r] w λe w'=>∃ v,e=.returned v/\∃ j,j<=p.length/\(∀ y∈p.drop j,k<y)/\(∀ y∈p.take j,y<=k)/\Chg (λb=>b=g) w w'/\FP (B8 .i64) 3 (λ_=>True) w' g (T4 p j k []):=by
 refine U8 func96 O ntmps96 O (.beg (.goC O (.lp (α:=Unit) [0,1,2,3] O (λ_=>[]) (λ_ W=>W=w) (λ_=>0) () AX5 O ?_)));rintro⟨⟩ W rfl;refine .go O (.sub O O O ?_);rw[wI (by omega)];refine .go O (.leqT O O O (by omega) (.go O (.callG _ O E_isort O (isort_c hF hp (by omega)) λv W' h=>?_)));exact .goE O (.plain [] results96 trivial h)
theorem E_Len64:Ent prog 148:=en func148
theorem Len64_c{w:World}{x:Nat}(hx:x<=12):CR prog 148 #[.int .u64 (x:Nat)] w (λv _=>∃ r,v=.int .i64 r):=by
 refine enter func148 O ntmps148 O (.beg (.go O (.geqF O O O (by omega) (.go O (.geqF O O O (by omega) (.go O (.geqF O O O (by omega) (.go O (.cvt G3 Ai6 O O ?_)))))))));have h8:IntKind.u8.wrap ((x:Nat):Int)=((x:Nat):Int):=by rcases x with _ | _ | _ | _ | _ | _ | _ | _ | _ | _ | _ | _ | _ | x;all_goals first | rfl | omega
 rw[h8];refine .gv O O (g_sidx Br9 O O hx (by kernel_rfl)) ?_;rintro v w' ⟨rfl,b,rfl⟩;refine .cvt Ai6 AJ3 O O (.add O O O (.goE O ?_));exact .p1 _ results148 O ⟨Ext.refl _,_,rfl⟩
theorem E_Len:Ent prog 97:=en func97
theorem Len_c{w:World}{x:Nat}(hx:x<=12):CR prog 97 #[.int .u64 (x:Nat)] w (λv _=>∃ r,v=.int .i64 r):=by refine enter func97 O ntmps97 O (.beg (.go O (.call _ O E_Len64 O (Len64_c hx) λv1 w1 e1 ⟨r,h1⟩=>.goE O ?_)));exact .p1 _ results97 O ⟨e1,r,h1⟩
theorem E_Sort:Ent prog 55:=en func55
theorem Sort_c{w:World}{g:Nat}{p:List Int}{k:Int}(hF:FP (B8 .i64) 3 (λ_=>True) w g (p++[k]))(hp:p.Pairwise (·<·))(hl:p.length<=11) :
  Calls prog 55 #[.slice (some ⟨g,0,none⟩) (p.length+1) cap] w λe w'=>∃ v,e=.returned v/\∃ j,j<=p.length/\(∀ y∈p.drop j,k<y)/\(∀ y∈p.take j,y<=k)/\Chg (λb=>b=g) w w'/\FP (B8 .i64) 3 (λ_=>True) w' g (T4 p j k []):=by
 refine U8 func55 O ntmps55 O (.beg (.go O (.len C5 O O (.go O (.cvt AJ3 Bg7 O O ?_)))));have h8:IntKind.u64.wrap ((p.length+1:Nat):Int)=((p.length+1:Nat):Int):=by
  have:p.length+1<=12:=by omega
  generalize p.length+1=x at this;rcases x with _ | _ | _ | _ | _ | _ | _ | _ | _ | _ | _ | _ | _ | x;all_goals first | rfl | omega
 rw[h8];refine .call _ O E_Len O (Len_c (by omega)) λv1 w1 e1 h1=>?_;obtain⟨r,rfl⟩:=h1;refine .callG _ O E_pdq O (pdq_c (hF.ext e1) hp hl) λv W' h=>.goE O ?_;obtain⟨j,hj,h1,h2,hC,hF'⟩:=h;exact .plain [] results55 trivial ⟨j,hj,h1,h2,(Chg.ext e1).trans hC,hF'⟩
theorem FP.int{kk:IntKind}{t:TypeId}{S S':Nat->Prop}{w:World}{g:Nat}(h:FP (B8 kk) t S w g l):FP (B8 kk) t S' w g l:=by obtain⟨es,r,hb,he⟩:=h;exact⟨es,r,hb,he.1,λi e x h1 h2=>he.2 i e x h1 h2⟩
theorem By3(hp:l.Pairwise (·<·)){x:Int}(h1:l[i]?=some x)(h2:l[i+1]?=some y):x<y:=by obtain⟨a1,rfl⟩:=List.getElem?_eq_some_iff.1 h1;obtain⟨a2,rfl⟩:=List.getElem?_eq_some_iff.1 h2;exact List.pairwise_iff_getElem.1 hp i (i+1) a1 a2 (eY i)
theorem Bq5:Ent prog 56:=en func56
theorem Bq8{S:Nat->Prop}{w:World}{v:Value}(h:eI.R S w v l)(hp:l.Pairwise (·<·))(hl:l.length<=1000):CR prog 56 #[v] w (Is v):=by
 obtain⟨a,c,hv,_⟩:=RL.len h;refine enter func56 O ntmps56 O (.beg (.go O (.lenR C5 O O h ?_)));by_cases h2:l.length<2
 ·exact .lssT O O O (by omega) (.goE O (.p1 _ results56 O ⟨Ext.refl _,rfl⟩))
 refine .lssF O O O (by omega) (.goC O (.lp (α:=Nat) [0] O (λk=>[(3,iW (k:Nat))]) (λk W=>Ext w W/\1<=k/\k<=l.length) (λk=>l.length-k) 1 (lc1 O) ⟨Ext.refl _,aA _,by omega⟩ ?_));rintro k W ⟨hW,h1,hk⟩;have hr:=ER.ext eI h hW;refine .go O (.lenR C5 O O hr (.go O ?_));rcases aB k l.length with hlt | hge;rotate_left
 ·exact .lssF O O O (by omega) (.goE O (.p1 _ results56 O ⟨hW,rfl⟩))
 obtain⟨m,rfl⟩:∃ m,k=m+1:=⟨k-1,by omega⟩;have hg1:=aE hlt;have hg2:=aE (l:=l) (i:=m) (by omega);have hxy:=By3 hp hg2 hg1;generalize l[m+1]=x at hg1 hxy;generalize l[m]=y at hg2 hxy;refine .lssT O O O (by omega) (.goC O ?_);refine .par follows 9 [.inl _,.inl _,.inr (Ptr (B8 .i64) S x),.inl (iW x),.inl _,.inl _,.inl (iW (m:Nat)),.inr (Ptr (B8 .i64) S y),.inl (iW y)] [[],[],[(16,0),(17,1)],[(18,2)],[],[],[(21,5)],[(20,4),(22,6)],[(23,7)]] (by kernel_rfl) ⟨mvo O,mvo O,λw e=>C4 (i:=m+1) C5 B5 O (ER.ext eI hr e) O hg1,λw e x2 hx2=>F7 B5 O hx2,mvo O,mvo O,λw e=>((AL5 O O).eq (by rw[wI (by omega)];congr 1;omega)).ob,λw e=>C4 (i:=m) C5 B5 O (ER.ext eI hr e) O hg2,λw e x7 hx7=>F7 B5 O hx7,trivial⟩ ?_;intro W2 d2 y2 hy2 y7 hy7;refine .eqlF O O O (by omega) (.go O (.inc O O O (by omega) (.goN O (.mk (m+2) O (lc1 O) ⟨⟨hW.trans d2,by omega,hlt⟩,by show l.length-(m+2)<l.length-(m+1);omega⟩))))
theorem E_Index:Ent prog 170:=en func170
theorem Index_c{S:Nat->Prop}{w:World}{v:Value}{x:Int}(h:eI.R S w v l)(hl:l.length<=1000):CR prog 170 #[v,iW x] w (λv _=>∃ r:Int,v=.int .i64 r/\(0<=r<->x∈l)):=by
 refine enter func170 O ntmps170 O (.beg (.go O (.lenR C5 O O h (.goC O (.lp (α:=Nat) [0,1,7] O (λk=>[(8,iW (k:Nat))]) (λk W=>Ext w W/\k<=l.length/\x∉l.take k) (λk=>l.length-k) 0 (lc1 O) ⟨Ext.refl _,aC _,by simp⟩ ?_)))));rintro k W ⟨hW,hk,hn⟩;have hr:=ER.ext eI h hW;refine .go O ?_;rcases aB k l.length with hlt | hge;rotate_left
 ·refine .lssF O O O (by omega) (.goE O (.plain [_] results170 ⟨rfl,trivial⟩ ⟨hW,-1,rfl,?_⟩));rw[aK hge] at hn;exact⟨λh=>absurd h (by decide),λh=>absurd h hn⟩
 have hg:=aE hlt;have htk:l.take (k+1)=l.take k++[l[k]]:=by rw[cA,hg];rfl
 have hmem:=eD hlt;generalize l[k]=y at hg htk hmem;refine .lssT O O O (by omega) (.go O (.ixN (i:=k) C5 B5 O O hr O hg λq hq=>.ldE (E:=B8 .i64) B5 O O hq λe he=>?_));obtain⟨rfl,_⟩:=he;by_cases hxy:x=y
 ·subst hxy;exact .eqlT O O O O (.goE O (.p1 _ results170 O ⟨hW,k,rfl,λ_=>hmem,λ_=>by omega⟩))
 ·exact .eqlF O O O hxy (.go O (.inc O O O (by omega) (.goN O (.mk (k+1) O (lc1 O) ⟨⟨hW,hlt,by rw[htk];simp[hn,hxy]⟩,by show l.length-(k+1)<l.length-k;omega⟩))))
theorem BF2:Ent prog 115:=en func115
theorem BF3{S:Nat->Prop}{w:World}{v:Value}{x:Int}(h:eI.R S w v l)(hl:l.length<=1000):CR prog 115 #[v,iW x] w (Is (.bool (decide (x∈l)))):=by
 refine enter func115 O ntmps115 O (.beg (.go O (.call _ O E_Index O (Index_c h hl) λv1 w1 e1 h1=>.go O ?_)));obtain⟨r,rfl,hr⟩:=h1;by_cases h0:0<=r
 ·exact .geqT O O O h0 (.goE O (.plain [_] results115 ⟨rfl,trivial⟩ ⟨e1,by rw[decide_eq_true (hr.1 h0)];rfl⟩))
 ·exact .geqF O O O h0 (.goE O (.plain [_] results115 ⟨rfl,trivial⟩ ⟨e1,by rw[decide_eq_false λh=>h0 (hr.2 h)];rfl⟩))
theorem At0:Ent prog 54:=en func54
theorem As2{S:Nat->Prop}{w:World}{v:Value}(h:eI.R S w v l)(hp:l.Pairwise (·<·))(h0:∀ x∈l,0<=x)(hl:l.length<=1000):CR prog 54 #[v] w (Is (.bool true)):=by
 refine enter func54 O ntmps54 O (.beg (.go O (.lenR C5 O O h (.goC O (.lp (α:=Nat) [0,5,6] O (λk=>[(7,iW (k:Nat))]) (λk W=>Ext w W/\k<=l.length) (λk=>l.length-k) 0 (lc1 O) ⟨Ext.refl _,aC _⟩ ?_)))));rintro k W ⟨hW,hk⟩;have hr:=ER.ext eI h hW;refine .go O ?_;rcases aB k l.length with hlt | hge;rotate_left
 ·exact .lssF O O O (by omega) (.goE O (.p1 _ results54 O ⟨hW,rfl⟩))
 have hg:=aE hlt;have hx:=h0 _ (eD hlt);generalize l[k]=x at hg hx;refine .lssT O O O (by omega) (.go O (.ixN (i:=k) C5 B5 O O hr O hg λq hq=>.ldE (E:=B8 .i64) B5 O O hq λe he=>.go O ?_));obtain⟨rfl,_⟩:=he;refine .lssF O O O (by omega) (.go O ?_);have hend:(λk=>l.length-k) (k+1)<(λk=>l.length-k) k:=by show l.length-(k+1)<l.length-k;omega
 cases k with
 | zero =>
  exact .gtrF O O O (by omega) (.go O (.inc O O O (by omega) (.goN O (.mk 1 O (lc1 O) ⟨⟨hW,hlt⟩,hend⟩))))
 | succ m =>
  have hg2:=aE (l:=l) (i:=m) (by omega);have hxy:=By3 hp hg2 hg;generalize l[m]=y at hg2 hxy;refine .gtrT O O O (by omega) (.go O (.sub O O O ?_));rw[wI (by omega),show (((m+1:Nat):Int)-1)=((m:Nat):Int) by omega];refine .go O (.ixN (i:=m) C5 B5 O O hr O hg2 λq hq=>.go O (.ldE (E:=B8 .i64) B5 O O hq λe he=>.go O ?_));obtain⟨rfl,_⟩:=he;exact .leqF O O O (by omega) (.go O (.inc O O O (by omega) (.goN O (.mk (m+2) O (lc1 O) ⟨⟨hW,hlt⟩,hend⟩))))
structure Ins (o:List Int) (k:Int) (u:List Int):Prop where
 inc:u.Pairwise (·<·)
 mem:∀ x,x∈u<->x=k\/x∈o
 len:u.length=o.length+1
theorem Bl2:Ent prog 18:=en func18
theorem Bk9{S:Nat->Prop}{w:World}{o:List Int}{k:Int}(up:Up S w)(ha:eI.R S w va o)(hb:eI.R S w vb [k])(hp:o.Pairwise (·<·))(h0:∀ x∈o,0<=x)(hk:0<=k)(hko:k∉o)(hl:o.length<=11) :
  CR prog 18 #[va,vb] w (Two (λv W=>∃ u,Ins o k u/\eI.R S W v u) (Is (iW 0))):=by
 refine enter func18 O ntmps18 O (.beg (.go O ?_));refine .call _ O At0 O (As2 ha hp h0 (by omega)) λv1 w1 e1 h1=>?_;subst h1;refine .go O (.call _ O At0 O (As2 (ER.ext eI hb e1) (List.pairwise_singleton ..) (λx hx=>by rw[List.mem_singleton.1 hx];exact hk) (by simp)) λv2 w2 e2 h2=>?_);subst h2;have x2:=e1.trans e2;have z2:=x2.size;have hX:∀ {W:World} {v:Value} {l:List Int},Ext w W->eI.R S w v l->eI.R (λb=>S b/\b<w.heap.size) W v l:=λe h=>ER.ext eI (ER.lt eI h) e;refine .go O (.gv O O (BP4 (E:=B8 .i64) (hsz:=by decide) (base:=w.heap.size) (X:=λb=>S b/\b<w.heap.size) C5 P6 O O O B4.nil (hX x2 ha) (λb h=>h.2) (by simp) (by omega) (by decide) z2) ?_);rintro v3 w3 ⟨hO3,b3⟩;rw[gK] at hO3;have x3:Ext w w3:=Below.trans x2 b3;refine .go O (.gv O O (BP4 (E:=B8 .i64) (hsz:=by decide) (base:=w.heap.size) (X:=λb=>S b/\b<w.heap.size) C5 P6 O O O hO3 (hX x3 hb) (λb h=>h.2) (by omega) (by simp) (by decide) x3.size) ?_);rintro v4 w4 ⟨hO4,b4⟩;have x4:Ext w w4:=Below.trans x3 b4;obtain⟨g,cap,rfl,c1,c2,hg,hF⟩:=hO4.fp (by simp);have hlen:(o++[k]).length=o.length+1:=by simp
 rw[hlen] at c1 ⊢;refine .go O (.callG _ O E_Sort O (Sort_c (hF.mono λ_ _ _=>trivial) hp hl) λv5 w5 h5=>?_);obtain⟨j,hj,hd,ht,hC,hF5⟩:=h5;have hIns:Ins o k (T4 o j k []):=by
  refine⟨?_,λx=>?_,by rw[Ab1 hj];rfl⟩
  ·unfold T4;rw[bB];refine List.pairwise_append.2 ⟨hp.sublist (List.take_sublist _ _),List.pairwise_cons.2 ⟨hd,hp.sublist (List.drop_sublist _ _)⟩,λa ha b hb=>?_⟩;have h1:=ht a ha;have h2:a≠k:=λe=>hko (e▸eO ha);rcases List.mem_cons.1 hb with rfl | hb
   ·omega
   ·have:=hd b hb;omega
  ·unfold T4;rw[bB,eJ,gE];conv=>rhs;rw[<-eC j o,eJ]
   constructor
   ·rintro (h | h | h)
    ·exact .inr (.inl h)
    ·exact .inl h
    ·exact .inr (.inr h)
   ·rintro (h | h | h)
    ·exact .inr (.inl h)
    ·exact .inl h
    ·exact .inr (.inr h)
 have x5:Ext w w5:=hC.below x4 x4.size λb hb=>by rw[hb];exact hg
 have hR:=(hF5.int (S':=S)).toR (hsz:=by decide) (c:=cap) (up g hg) (by rw[hIns.len];exact c1) (by rw[hIns.len];omega);rw[hIns.len] at hR;refine .go O (.call _ O Bq5 O (Bq8 hR hIns.inc (by rw[hIns.len];omega)) λv6 w6 e6 h6=>?_);subst h6;exact .goE O (.p2 results18 O O ⟨x5.trans e6,_,_,rfl,⟨_,hIns,ER.ext eI hR e6⟩,rfl⟩)
theorem Bh4 (P:Nat->Bool) (i:Nat):∀ d,∃ t,(List.range (i+d)).filter P=(List.range i).filter P++t
 | 0=>⟨[],by simp⟩
 | d+1=>by
  obtain⟨t,ht⟩:=Bh4 P i d
  rw[show i+(d+1)=(i+d)+1 by omega,aP,bS,ht,cS]
  exact⟨_,rfl⟩
theorem rng_at{P:Nat->Bool}{C:Nat}(hr:r<C)(hP:P r=true):((List.range C).filter P).getD ((List.range r).filter P).length 0=r/\((List.range r).filter P).length<((List.range C).filter P).length:=by
 obtain⟨t,ht⟩:=Bh4 P (r+1) (C-(r+1));rw[show r+1+(C-(r+1))=C by omega,aP,bS] at ht;have e:List.filter P [r]=[r]:=by simp[hP]
 rw[e] at ht;rw[ht];constructor
 ·rw[aF,cS,bT (aA _)];simp
 ·simp
def Nw.refsTo (n:Nw) (b:Nat):List Nat:=(List.range b).filter λr=>decide (n.root r=r)
theorem Nw.refsTo_len(n:Nw)(b:Nat):(n.refsTo b).length=n.cnt b:=rfl
theorem Nw.refsTo_succ(n:Nw)(b:Nat):n.refsTo (b+1)=n.refsTo b++if n.root b=b then [b] else []:=by
 unfold Nw.refsTo;rw[aP,bS];by_cases h:n.root b=b
 ·simp[h]
 ·simp[h]
theorem Nw.cnt_mono (n:Nw) (a:Nat):∀ d,n.cnt a<=n.cnt (a+d)
 | 0=>aA _
 | d+1=>by have:=Nw.cnt_mono n a d;have:=n.cnt_succ (a+d);rw[show a+(d+1)=a+d+1 by omega];omega
theorem Nw.lab_cnt(n:Nw)(b:Nat):n.lab b=n.cnt b<->n.root b=b:=by
 refine⟨λh=>?_,λh=>n.lab_root h⟩;have hle:=Nw.root_le (n:=n) b;rcases aB (n.root b) b with hlt | hge
 ·exfalso;have h1:n.lab b=n.cnt (n.root b):=rfl;have h2:=n.cnt_succ (n.root b);rw[if_pos (Nw.root_root b)] at h2;have h3:=n.cnt_mono (n.root b+1) (b-(n.root b+1));rw[show n.root b+1+(b-(n.root b+1))=b by omega] at h3;omega
 ·omega
theorem Nw.refs_lab(n:Nw){b:Nat}(hb:b<n.B):n.refs.getD (n.lab b) 0=n.root b/\n.lab b<n.refs.length:=by have hle:=Nw.root_le (n:=n) b;exact rng_at (P:=λr=>decide (n.root r=r)) (r:=n.root b) (C:=n.B) (by omega) (decide_eq_true (Nw.root_root b))
theorem Nw.mem_refs{n:Nw}:r∈n.refs<->r<n.B/\n.root r=r:=by unfold Nw.refs;rw[cL,cM];simp
theorem Nw.lab_eq{n:Nw}{a b:Nat}(ha:a<n.B)(hb:b<n.B):n.lab a=n.lab b<->n.root a=n.root b:=by
 constructor
 ·intro h;rw[<-(n.refs_lab ha).1,<-(n.refs_lab hb).1,h]
 ·intro h;unfold Nw.lab;rw[h]
theorem AP2:Ent prog 93:=en func93
theorem AO4{S:Nat->Prop}{w:World}{vo:Value}{n:NtV}{o:List Int}(up:Up S w)(hn:eN.R S w vn n)(ho:eI.R S w vo o) :
  CR prog 93 #[vn,vo] w (Two (eI.at S (if C8 n o=0 then A7 (A0 n o).refs else [])) (Is (iW (C8 n o)))):=by
 have hvn:=G8 (E:=eN) O hn;refine enter func93 O ntmps93 O ?_;refine .sr (.box O O λw1 b2 n1=>.asg O O (.an O O ?_));obtain⟨e1,k2,hb2,hs1⟩:=n1;refine .sr (.ldA G2 O O k2 (eN.csz hn) (.mv O O ?_));rw[<-hvn];refine .call _ O AZ9 O (AX7 (up.ext e1.size) (hn.ext e1) (ho.ext e1)) λv2 w2 e2 h2=>?_;obtain⟨vl,ve,rfl,hl,he⟩:=h2;replace he:ve=.int .i64 (C8 n o):=he;subst he;have x2:=e1.trans e2;refine .mv O O (.ext O O O (.ext O O O (.asg O O (.an O O (.seq (.sr (.mv O O ?_)))))));by_cases hE:C8 n o=0;rotate_left
 ·refine .neqT O O O hE (.nil (.condT O (.sr (.mv O O (.asg O O (.an O O (.ret ?_)))))));refine .plain [_,_] results93 ⟨rfl,rfl,trivial⟩ ⟨x2,_,_,rfl,?_,rfl⟩;rw[if_neg hE];exact RL.nil
 have ok:=K6 hE;rw[if_pos hE] at hl ⊢;have hB6:=ok.b6;refine .neqF O O O hE (.nil (.condF O (.skip (.sr (.an O O ?_)))));have hlW:∀ {W:World},Below w2.heap.size w2 W->eI.R (λk=>S k/\k<w2.heap.size) W vl (AN7 (A0 n o).B (A0 n o).lab):=λh=>eI.keep (λk c t f hk hh=>(h.block k hk.2).trans hh) (ER.lt eI hl);refine .seq (.sr (.mv O O (.lenR C5 O O hl (.mv O O (.nil ?_)))));rw[U1];refine .block (.loop (α:=Nat×Value) (λy=>[(8,y.2),(20,vl),(21,iW ((A0 n o).B:Nat)),(22,iW (y.1:Nat))]) (λy W=>Below w2.heap.size w2 W/\y.1<=(A0 n o).B/\B4 (B8 .i64) 3 w2.heap.size S W y.2 (A7 ((A0 n o).refsTo y.1))) (λy=>(A0 n o).B-y.1) (0,.slice none 0 0) ?_ ?_ ?_)
 ·exact lkA rfl
 ·exact⟨Below.refl _ _,aC _,B4.nil⟩
 rintro⟨i,v⟩ W ⟨hW,hi,hown⟩;replace hW:Below w2.heap.size w2 W:=hW;replace hi:i<=(A0 n o).B:=hi;replace hown:B4 (B8 .i64) 3 w2.heap.size S W v (A7 ((A0 n o).refsTo i)):=hown;refine .sr ?_;rcases aB i (A0 n o).B with hlt | hge;rotate_left
 ·refine .lssF O O O (by omega) (.nil (.seq (.condF O (.exit (.sr (.mv O O (.asg O O (.an O O (.ret ?_)))))))));have:i=(A0 n o).B:=by omega
  subst this;refine .plain [_,_] results93 ⟨rfl,rfl,trivial⟩ ⟨x2.trans hW,_,_,rfl,?_,by rw[hE]⟩;exact hown.toR (λk hk=>up k (by have:=x2.size;omega)) (λ_ h=>h)
 refine .lssT O O O (by omega) (.nil (.seq (.condT O (.skip (.seq (.block (.sr (.mv O O (.ixN (i:=i) C5 B5 O O (hlW hW) O (Z1 hlt) λq hq=>.ldE (E:=B8 .i64) B5 O O hq λe he=>.asg O O (.an O O ?_))))))))));obtain⟨rfl,_⟩:=he;have hvl:eI.R (λk=>S k\/w2.heap.size<=k) W v (A7 ((A0 n o).refsTo i)):=hown.toR (λk hk=>.inr hk) (λ_ h=>.inl h);have hcl:=(A0 n o).cnt_le i;have hlb:=(A0 n o).lab_cnt i;have hrs:=(A0 n o).refsTo_succ i;have hlen:(A7 ((A0 n o).refsTo i)).length=(A0 n o).cnt i:=by simp[Nw.refsTo_len]
 refine .sr (.mv O O (.mv O O (.lenR C5 O O hvl ?_)));rw[hlen];by_cases hr:(A0 n o).root i=i
 ·rw[if_pos hr] at hrs;refine .eqlT O O O (by rw[hlb.2 hr]) (.nil (.condT O (.region (.mv O O (.mv O O (.bsl _ O O S7 λW1 by_ ny=>?_))))));obtain⟨ey,ky,hby,hsy⟩:=ny;have hW1:=hW.trans (ey.mono hW.size);refine .gv O O (L5 (E:=B8 .i64) (base:=w2.heap.size) (n:=((i:Nat):Int)) (e:=.int .i64 (i:Nat)) (by decide) C5 P6 O O O (hown.ext ey) ky ⟨rfl,K8.2 (by omega)⟩ (by rw[hlen];omega) (by decide) hW1.size) ?_;rintro v8 W8 ⟨ho8,hg8⟩;refine .an O O (.region (.add O O O (.mv O O (.nil ?_))));rw[wI (by omega)];refine⟨rfl,(i+1,v8),lkA rfl,⟨(hown.ext ey).below hg8 hW1 hW1.size,hlt,?_⟩,by show (A0 n o).B-(i+1)<(A0 n o).B-i;omega⟩;show B4 (B8 .i64) 3 w2.heap.size S W8 v8 (A7 ((A0 n o).refsTo (i+1)));rw[hrs];unfold A7;rw[aM];exact ho8
 ·rw[if_neg hr,bB] at hrs;refine .eqlF O O O (by intro e;exact hr (hlb.1 (by omega))) (.nil (.condF O (.skip (.region (.add O O O (.mv O O (.nil ?_)))))));rw[wI (by omega)];refine⟨rfl,(i+1,v),lkA rfl,⟨hW,hlt,?_⟩,by show (A0 n o).B-(i+1)<(A0 n o).B-i;omega⟩;show B4 (B8 .i64) 3 w2.heap.size S W v (A7 ((A0 n o).refsTo (i+1)));rw[hrs];exact hown
def AR0 (n:NtV) (a:Int):Prop:=0<=a/\a<n.b
open Classical in
noncomputable def X7 (n:NtV) (o:List Int) (a b:Int):Int:=if C8 n o≠0 then C8 n o else if AR0 n a/\AR0 n b then 0 else 1
theorem conE_ok{n:NtV}{o:List Int}{b:Int}(h:X7 n o a b=0):C8 n o=0/\AR0 n a/\AR0 n b:=by
 unfold X7 at h;split at h
 ·exact absurd h (by assumption)
 ·split at h
  ·exact⟨Classical.not_not.1 (by assumption),by assumption⟩
  ·cases h
open Classical in
noncomputable def AL0 (n:NtV) (o:List Int) (a b:Int):Bool:=decide (X7 n o a b=0/\(A0 n o).root a.toNat=(A0 n o).root b.toNat)
theorem Ah8:Ent prog 132:=en func132
theorem Ag2{S:Nat->Prop}{w:World}{vo:Value}{n:NtV}{o:List Int}{b:Int}(up:Up S w)(hn:eN.R S w vn n)(ho:eI.R S w vo o) :
  CR prog 132 #[vn,vo,iW a,iW b] w (Two (Is (.bool (AL0 n o a b))) (Is (iW (X7 n o a b)))):=by
 obtain⟨s,rfl,hs,hb⟩:=hn;have hn:eN.R S w (.agg #[iW n.b,s]) n:=⟨s,rfl,hs,hb⟩;refine enter func132 O ntmps132 O (.sr (.box O O λw1 b2 n1=>.asg O O (.an O O ?_)));obtain⟨e1,k2,hb2,hs1⟩:=n1;refine .sr (.ldA G2 O O k2 O (.mv O O ?_));refine .call _ O AZ9 O (AX7 (up.ext e1.size) (hn.ext e1) (ho.ext e1)) λv2 w2 e2 h2=>?_;obtain⟨vl,ve,rfl,hl,he⟩:=h2;replace he:ve=.int .i64 (C8 n o):=he;subst he;have x2:=e1.trans e2;have k2:=k2.ext e2;refine .mv O O (.ext O O O (.ext O O O (.asg O O (.an O O (.seq (.sr (.mv O O ?_)))))));have hno:X7 n o a b≠0->AL0 n o a b=false:=λh=>by unfold AL0;exact decide_eq_false λh'=>h h'.1
 by_cases hE:C8 n o=0;rotate_left
 ·have hc:X7 n o a b=C8 n o:=by unfold X7;rw[if_pos hE]
  refine .neqT O O O hE (.nil (.condT O (.sr (.mv O O (.asg O O (.an O O (.ret ?_)))))));exact .plain [_,_] results132 ⟨rfl,rfl,trivial⟩ ⟨x2,_,_,rfl,by rw[hno (by rw[hc];exact hE)],by rw[hc];rfl⟩
 have ok:=K6 hE;rw[if_pos hE] at hl;have hbad:¬ (AR0 n a/\AR0 n b)->∀ {σ:Env},Q3 prog Tryz.f132 48 (λv w'=>Ext w w'/\Two (Is (.bool (AL0 n o a b))) (Is (iW (X7 n o a b))) v w') ((9,iW 1)::(8,.bool false)::σ) [] w2:=λh σ=>by
  have hc:X7 n o a b=1:=by unfold X7;rw[if_neg (by simpa using hE),if_neg h]
  exact .plain [_,_] results132 ⟨rfl,rfl,trivial⟩ ⟨x2,_,_,rfl,by rw[hno (by rw[hc];decide)],by rw[hc]⟩
 refine .neqF O O O hE (.nil (.condF O (.skip (.seq (.sr (.mv O O ?_))))));by_cases ha0:a<0
 ·refine .lssT O O O ha0 (.mv O O (.gs O O O O O (.gs O O O O O (.gs O O O O O (.gs O O O O O (.pick O O O (.mv O O (.gs O O O O O (.gs O O O O O (.pick O O O (.mv O O (.gs O O O O O (.gs O O O O O (.gs O O O O O (.gs O O O O O (.pick O O O (.nil (.condT O (.sr (.asg O O (.an O O (.ret ?_))))))))))))))))))))));exact hbad λh=>by have:=h.1.1;omega
 refine .lssF O O O (by omega) (.mv O O (.gr O O O O (.mv O O (.gr O O O O (.fa F9 O O (.gr O O O O (.ld A5 O O k2 O (.gr O O O O ?_))))))));by_cases ha1:n.b<=a
 ·refine .geqT O O O ha1 (.pick O O O (.mv O O (.gs O O O O O (.gs O O O O O (.pick O O O (.mv O O (.gs O O O O O (.gs O O O O O (.gs O O O O O (.gs O O O O O (.pick O O O (.nil (.condT O (.sr (.asg O O (.an O O (.ret ?_)))))))))))))))));exact hbad λh=>by have:=h.1.2;omega
 refine .geqF O O O (by omega) (.pick O O O (.mv O O (.gr O O O O (.mv O O (.gr O O O O ?_)))));by_cases hb0:b<0
 ·refine .lssT O O O hb0 (.pick O O O (.mv O O (.gs O O O O O (.gs O O O O O (.gs O O O O O (.gs O O O O O (.pick O O O (.nil (.condT O (.sr (.asg O O (.an O O (.ret ?_)))))))))))));exact hbad λh=>by have:=h.2.1;omega
 refine .lssF O O O (by omega) (.pick O O O (.mv O O (.gr O O O O (.mv O O (.gr O O O O (.fa F9 O O (.gr O O O O (.ld A5 O O k2 O (.gr O O O O ?_)))))))));by_cases hb1:n.b<=b
 ·refine .geqT O O O hb1 (.pick O O O (.nil (.condT O (.sr (.asg O O (.an O O (.ret ?_)))))));exact hbad λh=>by have:=h.2.2;omega
 refine .geqF O O O (by omega) (.pick O O O (.nil (.condF O (.skip (.seq ?_)))));have hc:X7 n o a b=0:=by unfold X7;rw[if_neg (by simpa using hE),if_pos ⟨⟨by omega,by omega⟩,by omega,by omega⟩]
 obtain⟨a',rfl⟩:∃ a':Nat,a=a':=⟨a.toNat,by omega⟩;obtain⟨b',rfl⟩:∃ b':Nat,b=b':=⟨b.toNat,by omega⟩;have hnb:=ok.b;have haB:a'<(A0 n o).B:=by omega
 have hbB:b'<(A0 n o).B:=by omega
 refine .par follows 9 [.inl vl,.inl (iW (a':Nat)),.inr (Ptr (B8 .i64) S ((A0 n o).lab a':Nat)),.inl (iW ((A0 n o).lab a':Nat)),.inl vl,.inl (iW (b':Nat)),.inr (Ptr (B8 .i64) S ((A0 n o).lab b':Nat)),.inl (iW ((A0 n o).lab b':Nat)),.inl (.bool (AL0 n o a' b'))]
  [[],[],[(39,0),(40,1)],[(41,2)],[],[],[(43,4),(44,5)],[(45,6)],[(42,3),(46,7)]] (by kernel_rfl) ⟨mvo O,mvo O,λw e=>C4 (i:=a') C5 B5 O (ER.ext eI hl e) O (Z1 haB),λw e x hx=>F7 B5 O hx,mvo O,mvo O,λw e=>C4 (i:=b') C5 B5 O (ER.ext eI hl e) O (Z1 hbB),λw e x hx=>F7 B5 O hx,λw e=>((Ai5 O O).eq (by
   have:=Nw.lab_eq haB hbB;unfold AL0;by_cases h:(A0 n o).root a'=(A0 n o).root b'
   ·rw[decide_eq_true ⟨hc,h⟩,this.2 h];simp
   ·rw[decide_eq_false λh'=>h h'.2];simp;omega)).ob,trivial⟩ ?_
 intro w3 e3 _ _ _ _;refine .asg O O (.an O O (.ret ?_));exact .plain [_,_] results132 ⟨rfl,rfl,trivial⟩ ⟨x2.trans e3,_,_,rfl,rfl,by rw[hc]⟩
def Nw.lmL (n:Nw) (l:List Nat):RM:=λb c=>l.foldl (λs k=>s+n.g k*(n.inc k b*n.inc k c)) 0
theorem Nw.lmL_snoc(n:Nw)(l:List Nat)(k b c:Nat):n.lmL (l++[k]) b c=n.lmL l b c+n.g k*(n.inc k b*n.inc k c):=by unfold Nw.lmL;rw[iL];rfl
theorem Nw.lmL_free {n:Nw} {p:List Nat} (b c:Nat):∀ j,(∀ k,k<j->(n.g k=0<->k∈p))->n.lmL (D7 p j) b c=B9 j λk=>n.g k*(n.inc k b*n.inc k c)
 | 0,_=>rfl
 | j+1,h=>by
  have ih:=Nw.lmL_free (n:=n) (p:=p) b c j λk hk=>h k (by omega)
  have hj:=h j (by omega)
  rw[M4]
  show _=B9 j _+_
  by_cases hg:n.g j=0
  ·rw[if_pos (hj.1 hg),bB,ih]
   dsimp only
   rw[hg,bL,dP]
  ·rw[if_neg (λh=>hg (hj.2 h)),Nw.lmL_snoc,ih]
def upE (f:RM) (i j:Nat) (y:Rat):RM:=λb c=>if b=i then (if c=j then y else f i c) else f b c
theorem An7{f:RM}{b c:Nat}{y:Rat}(h:b≠i\/c≠j):upE f i j y b c=f b c:=by
 unfold upE;by_cases hb:b=i
 ·subst hb;rw[if_pos rfl,if_neg (by rcases h with h | h;exact absurd rfl h;exact h)]
 ·rw[if_neg hb]
theorem Nw.four(n:Nw){k:Nat}(hne:n.F k≠n.T k)(f:RM)(b c:Nat) :
  upE (upE (upE (upE f (n.F k) (n.F k) (f (n.F k) (n.F k)+n.g k)) (n.F k) (n.T k) (f (n.F k) (n.T k)-n.g k)) (n.T k) (n.T k) (f (n.T k) (n.T k)+n.g k)) (n.T k) (n.F k) (f (n.T k) (n.F k)-n.g k) b c=f b c+n.g k*(n.inc k b*n.inc k c):=by
 unfold upE Nw.inc dl;generalize n.F k=F at *;generalize n.T k=T at *;by_cases h1:b=F
 ·subst h1;by_cases h2:c=b
  ·subst h2;simp[hne,Ne.symm hne];grind
  ·by_cases h3:c=T
   ·subst h3;simp[hne,Ne.symm hne];grind
   ·simp[hne,Ne.symm hne,h2,h3,Ne.symm h2,Ne.symm h3];grind
 ·by_cases h1':b=T
  ·subst h1';by_cases h2:c=b
   ·subst h2;simp[hne,Ne.symm hne];grind
   ·by_cases h3:c=F
    ·subst h3;simp[hne,Ne.symm hne];grind
    ·simp[hne,Ne.symm hne,h2,h3,Ne.symm h2,Ne.symm h3];grind
  ·simp[h1,h1',Ne.symm h1,Ne.symm h1'];grind
theorem Bh1{g:Rat}{s:Rat}(h:Rsz g L)(hL:1<=L)(hs:s=0\/s=1\/s = -1):Rsz (g*s) L:=by
 rcases hs with rfl | rfl | rfl
 ·rw[aW];exact Rsz.zero hL
 ·rw[fW];exact h
 ·rw[show g*(-1) = -g by grind];exact h.neg
theorem Nw.inc_tri(n:Nw)(k b:Nat):n.inc k b=0\/n.inc k b=1\/n.inc k b = -1:=by unfold Nw.inc dl;split<;>split<;>grind
theorem Nw.lmL_rsz(n:Nw)(hL:1<=L)(hg:∀ k,Rsz (n.g k) L)(b c:Nat)(l:List Nat):Rsz (n.lmL l b c) (1+l.length*(L+1)):=by
 have key:∀ (m:Nat) (l:List Nat),l.length=m->Rsz (n.lmL l b c) (1+m*(L+1)):=by
  intro m;induction m with
  | zero=>intro l hl;rw[List.length_eq_zero_iff.1 hl];exact Rsz.zero (by omega)
  | succ m ih =>
   intro l hl;obtain⟨l',k,rfl⟩:∃ l' k,l=l'++[k]:=⟨l.dropLast,l.getLast (by intro e;rw[e] at hl;cases hl),(List.dropLast_concat_getLast _).symm⟩;rw[Nw.lmL_snoc];have h1:=ih l' (by simp at hl;exact hl);have h2:Rsz (n.g k*(n.inc k b*n.inc k c)) L:=Bh1 (hg k) hL (by rcases n.inc_tri k b with h | h | h<;>rcases n.inc_tri k c with h' | h' | h'<;>rw[h,h']<;>grind)
   refine (h1.add h2).mono ?_;rw[cF];omega
 exact key _ l rfl
theorem nwOk.gsz{n:NtV}{o:List Int}(h:nwOk n o)(k:Nat):Rsz ((A0 n o).g k) 1:=by
 show Rsz (if k∈oN o then (0:Rat) else ((n.ls.getD k ln0).x:Rat)⁻¹) 1;have hx:1<=(n.ls.getD k ln0).x/\(n.ls.getD k ln0).x<=1000:=by
  rcases aB k n.ls.length with hk | hk
  ·exact h.x k hk
  ·rw[aF,aH hk];decide
 split
 ·exact Rsz.zero (aA _)
 ·exact (Rsz.int _ (by omega) (aA _)).inv (aA _)
end Go.Proofs.YtpgkacdihhjknaaGreat
