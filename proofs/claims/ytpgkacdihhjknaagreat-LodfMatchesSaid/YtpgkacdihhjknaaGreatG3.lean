/-
  What the claim leans on.
-/
import Derived.Test.YtpgkacdihhjknaaGreatG2
set_option linter.unusedVariables false
set_option linter.unusedSimpArgs false
set_option linter.unnecessarySimpa false
namespace Go.Proofs.YtpgkacdihhjknaaGreat
open Go Go.RowKit Tryz
set_option maxHeartbeats 3200000
variable {S T0:Nat->Prop}{m g B k c n L M:Nat}{w':World}{b a:QV}{x y m1 m2 m3 m4:Int}{f:Nat->Rat}{l:List Nat}{va vb u1 u2 u3 u4:Value}{α:Type}
theorem Ap9:Ent prog 263:=en func263
theorem An4{w:World}{vu vv:Value}{u v:List Nat}(hu:eW.R S w vu u)(hv:eW.R S w vv v)(hlu:u.length=m+3)(hlv:v.length=m+2)(hm:m<=1099511627776)(h1:0<v.getD (m+1) 0)(hlt:val u<4294967296*val v) :
  CR prog 263 #[vu,vv] w (λx _=>∃ q:Nat,x=.int .u64 q/\q<4294967296/\val u / val v<=q/\q<=val u / val v+1):=by
 have hdu:dig u:=K7 hu;have hdv:dig v:=K7 hv;have eU:=Br5 hlu;have eV:=Br6 hlv;have hU0:=T8 hdu m (by omega);have hV0:=T8 hdv m (by omega);have d0:=J6 hdu m;have d1:=J6 hdu (m+1);have d2:=J6 hdu (m+2);have c1:=J6 hdv (m+1);have c2:=J6 hdv m;have g0:u[m]?=some (u.getD m 0):=F3 (by omega);have g1:u[m+1]?=some (u.getD (m+1) 0):=F3 (by omega);have g2:u[m+2]?=some (u.getD (m+2) 0):=F3 (by omega);have f1:v[m+1]?=some (v.getD (m+1) 0):=F3 (by omega);have f2:v[m]?=some (v.getD m 0):=F3 (by omega);generalize val (u.take m)=U0 at *;generalize val (v.take m)=V0 at *;generalize u.getD m 0=u0 at *;generalize u.getD (m+1) 0=u1 at *;generalize u.getD (m+2) 0=u2 at *;generalize v.getD (m+1) 0=v1 at *;generalize v.getD m 0=v2 at *;have hp:0<4294967296 ^ m:=bR (by omega);generalize htop:u1+4294967296*u2=top at *;have hwn1:IntKind.i64.wrap ((v.length:Int)-1)=((m+1:Nat):Int):=by rw[wI (by omega)];omega
 have hwn2:IntKind.i64.wrap ((v.length:Int)-2)=((m:Nat):Int):=by rw[wI (by omega)];omega
 refine enter func263 O ntmps263 O (.sr (.an O O (.sr (.mv O O (.lenR E5 O O hv (.an O O ?_))))));refine .seq ?_;refine .par follows 13 [.inl _,.inl _,.inr (Ptr AQ8 S u2),.inl (.int .u32 u2),.inl _,.inl _,.inl _,.inl _,.inl _,.inr (Ptr AQ8 S u1),.inl (.int .u32 u1),.inl _,.inl _] [[],[],[(13,0),(14,1)],[(15,2)],[(16,3)],[(17,4)],[],[],[(20,7)],[(19,6),(21,8)],[(22,9)],[(23,10)],[(18,5),(24,11)]] (by kernel_rfl) ⟨mvo O,mvo O,λw e=>C4 E5 C1 O (hu.ext e) O (by rw[hlv];exact g2),λw e x hx=>AB6 C1 O hx,λw e=>(AL6 G4 G3 O).ob,λw e=>(Bg2 O O (by decide)).ob,mvo O,mvo O,λw e=>(AL5 O O).ob,λw e=>BK3 E5 C1 O (hu.ext e) O (by rw[hwn1];omega) (by rw[hwn1];exact g1),λw e x hx=>AB6 C1 O hx,λw e=>(AL6 G4 G3 O).ob,λw e=>(v_or O O).ob,trivial⟩ ?_;intro w1 e1 _ _ _ _;refine .an O O ?_;rw[wU (n:=(u2:Int)) (by omega),wU (n:=(u1:Int)) (by omega),BU4 u2 d2,Bv4 u2 u1 d1 d2,htop];refine .seq ?_;refine .par follows 13 [.inl _,.inl _,.inl _,.inr (Ptr AQ8 S v1),.inl (.int .u32 v1),.inl _,.inl _,.inl _,.inl _,.inr (Ptr AQ8 S v2),.inl (.int .u32 v2),.inl _,.inl _] [[],[],[(27,1)],[(26,0),(28,2)],[(29,3)],[(30,4)],[],[],[(33,7)],[(32,6),(34,8)],[(35,9)],[(36,10)],[(31,5)]] (by kernel_rfl) ⟨mvo O,mvo O,λw e=>(AL5 O O).ob,λw e=>BK3 E5 C1 O (hv.ext (e1.trans e)) O (by rw[hwn1];omega) (by rw[hwn1];exact f1),λw e x hx=>AB6 C1 O hx,λw e=>(AL6 G4 G3 O).ob,mvo O,mvo O,λw e=>(AL5 O O).ob,λw e=>BK3 E5 C1 O (hv.ext (e1.trans e)) O (by rw[hwn2];omega) (by rw[hwn2];exact f2),λw e x hx=>AB6 C1 O hx,λw e=>(AL6 G4 G3 O).ob,λw e=>(AR9 O).ob,trivial⟩ ?_;intro w2 e2 _ _ _ _;refine .an O O ?_;rw[wU (n:=(v1:Int)) (by omega),wU (n:=(v2:Int)) (by omega)];refine .seq ?_;refine .par follows 7 [.inl _,.inl _,.inl _,.inl _,.inl _,.inl _,.inl _] [[],[],[(38,0),(39,1)],[],[],[(41,3),(42,4)],[(40,2)]] (by kernel_rfl) ⟨mvo O,mvo O,λw e=>(Ay1 O O (by omega)).ob,mvo O,mvo O,λw e=>(Ay0 O O (by omega)).ob,λw e=>(AR9 O).ob,trivial⟩ ?_;intro w3 e3;refine .an O O ?_;have htop64:top<18446744073709551616:=by omega
 rw[AB0,AA9,AC9,bJ (bI (dV _ _) htop64)];have x3:=(e1.trans e2).trans e3;have hu3:=hu.ext x3;refine .mid (α:=Nat) (λq=>[(9,.int .u64 q)]) (λq W=>W=w3/\q<4294967296/\val u / val v<=q/\q<=val u / val v+1) ?_ ?_
 ·refine .block (.loop (α:=Nat×Nat) (λx=>[(9,.int .u64 (x.1:Nat)),(10,.int .u64 (x.2:Nat)),(7,.int .u64 v1),(8,.int .u64 v2),(0,vu),(5,iW (v.length:Nat))])
   (λx W=>W=w3/\x.1*v1+x.2=top/\val u / val v<=x.1/\x.2<4294967296) (λx=>x.1) (top / v1,top % v1) ?_ ?_ ?_)
  ·exact lkA rfl
  ·refine⟨rfl,?_,Bo8 hp (by omega) eU eV hU0 d0 h1,?_⟩
   ·show top / v1*v1+top % v1=top;rw[aT];exact bE _ _
   ·show top % v1<4294967296;have:=aY top h1;omega
  ·rintro⟨g,r⟩ W ⟨rfl,ht,hq,hr⟩;replace ht:g*v1+r=top:=ht;replace hq:val u / val v<=g:=hq;replace hr:r<4294967296:=hr;have hg64:g<18446744073709551616:=by have:=Nat.le_mul_of_pos_right g h1;omega
   have hVp:0<val v:=by
    rcases aU (val v) with h | h
    ·rw[h] at hlt;omega
    ·exact h
   refine .mid (α:=Unit) (λ_=>[(9,.int .u64 (g:Nat)),(10,.int .u64 (r:Nat)),(7,.int .u64 v1),(8,.int .u64 v2),(0,vu),(5,iW (v.length:Nat))]) (λ_ W'=>W'=W/\val u / val v<g) ?_ ?_
   ·refine .sr (.mv O O (.shr (m:=(g:Int)) O O O (by decide) ?_));rw[Ao7 g];by_cases hgB:g<4294967296
    ·refine .neqF O O O (by omega) (.mv O O (.gr O O O O (.mv O O (.gr O O O O (.mv O O (.gr O O O O (.mul (m:=(g:Int)) (n:=(v2:Int)) O O O ?_)))))));have hgv:g*v2<=4294967295*4294967295:=dD (by omega) (by omega);rw[<-cQ,wU (n:=((g*v2:Nat):Int)) (by omega)];refine .gr O O O O (.mv O O (.gr O O O O (.shl (m:=(r:Int)) O O O (by decide) ?_)));rw[BU4 r hr];refine .gr O O O O (.mv O O (.gr O O O O (.mv O O (.gr O O O O (.sub (m:=(v.length:Int)) O O O ?_)))));rw[hwn2];refine .gr O O O O (.ixN E5 C1 O O hu3 O g0 λp hp'=>.gr O O O O (.ldE C1 O O hp' λe he=>?_));obtain⟨rfl,_⟩:=he;refine .gr O O O O (.cvt G4 G3 O O ?_);rw[wU (n:=(u0:Int)) (by omega)];refine .gr O O O O (.or_ O O O ?_);rw[Bv4 r u0 d0 hr];by_cases hc:u0+4294967296*r<g*v2
     ·refine .gr O O O O (.gtrT O O O (by omega) (.pick O O O (.nil (.condT O (.skip ?_)))));exact⟨rfl,(),lkA rfl,rfl,Bz2 hp (by omega) eU eV hU0 h1 ht (by omega)⟩
     ·refine .gr O O O O (.gtrF O O O (by omega) (.pick O O O (.nil (.condF O (.exit ?_)))));exact⟨rfl,g,lkA rfl,rfl,hgB,hq,Bz1 hp (by omega) eU eV hV0 h1 ht hgB (by omega)⟩
    ·refine .neqT O O O (by omega) (.mv O O (.gs O O O O O (.gs O O O O O (.gs O O O O O (.gs O O O O O (.gs O O O O O (.gs O O O O O (.gs O O O O O (.gs O O O O O (.gs O O O O O (.gs O O O O O (.gs O O O O O (.gs O O O O O (.gs O O O O O (.pick O O O (.nil (.condT O (.skip (⟨rfl,(),lkA rfl,rfl,?_⟩)))))))))))))))))));have:val u / val v<4294967296:=by rw[bD hVp];exact hlt
     exact bC this (dS hgB)
   ·rintro _ W' ⟨rfl,hlt'⟩;have hg0:0<g:=bI (aC _) hlt';obtain⟨g,rfl⟩:∃ k,g=k+1:=⟨g-1,(Nat.succ_pred_eq_of_pos hg0).symm⟩;have hle':val u / val v<=g:=Nat.le_of_lt_succ hlt';have ht':g*v1+(r+v1)=top:=by rw[cF] at ht;omega
    refine .block (.sr (.mv O O (.sub (m:=((g+1:Nat):Int)) O O O ?_)));rw[show IntKind.u64.wrap (((g+1:Nat):Int)-1)=(g:Int) by rw[wU (by omega)];omega];refine .an O O (.sr (.mv O O (.mv O O (.add (m:=(r:Int)) (n:=(v1:Int)) O O O ?_))));rw[<-dN,wU (n:=((r+v1:Nat):Int)) (by omega)];refine .an O O (.sr (.mv O O (.shr (m:=((r+v1:Nat):Int)) O O O (by decide) ?_)));rw[Ao7];by_cases hrB:r+v1<4294967296
    ·refine .neqF O O O (by omega) (.nil (.condF O (.skip ?_)));exact⟨rfl,(g,r+v1),lkA rfl,⟨rfl,ht',hle',hrB⟩,eY g⟩
    ·refine .neqT O O O (by omega) (.nil (.condT O (.exit ?_)));have hgB:=Bo9 hp (by omega) eU eV hV0 c2 ht' hlt (by omega);exact⟨rfl,g,lkA rfl,rfl,hgB,hle',iC (Bp0 hp (by omega) eU eV hV0 c2 h1 ht' hgB (by omega))⟩
 ·rintro q W ⟨rfl,h2,h3,h4⟩;refine .sr (.mv O O (.an O O (.ret ?_)));exact .p1 _ results263 O ⟨x3,q,rfl,h2,h3,h4⟩
theorem BL3{w:World}{r:Option Nat}(e:Ext w w'):w.grownBy w' r:=⟨e.os,e.tape,e.output,e.size,λk hk _=>e.block k hk⟩
theorem BL2{w w1 w2:World}{b:Nat}(h:w.grownBy w1 (some g))(u:Upd w1 w2 b)(hb:b=g\/w.heap.size<=b):w.grownBy w2 (some g) :=
 ⟨u.os.trans h.os,u.tape.trans h.tape,u.output.trans h.output,by rw[u.size];exact h.size,λk hk hne=>(u.block k (λe=>by
  subst e
  rcases hb with rfl | hb
  ·exact hne rfl
  ·omega)).trans (h.block k hk hne)⟩
theorem BX0{w w1 w2:World}{r:Option Nat}(h:w.grownBy w1 r)(h':w1.grownBy w2 r):w.grownBy w2 r :=
 ⟨h'.os.trans h.os,h'.tape.trans h.tape,h'.output.trans h.output,aG h.size h'.size,λk hk hne=>(h'.block k (bC hk h.size) hne).trans (h.block k hk hne)⟩
theorem BW5{w:World}(h:w.grownBy w' (some g))(hS:¬ S g):Kp S w w':=λk _ _ _ hs hk=>(h.block k (Array.getElem?_eq_some_iff.1 hk).1 (λe=>hS (by cases e;exact hs))).trans hk
theorem BY2{w0 w:World}(hb:Below B w0 w)(h:w.grownBy w' (some g))(hg:B<=g)(hB:B<=w.heap.size):Below B w0 w':=hb.grown h hB (λk hk=>by cases hk;exact hg)
theorem Bs9{x p b:Nat}(hx:x<4294967296)(hp:p<4294967296)(hb:b<=1):∃ D y b':Nat,IntKind.u64.wrap (IntKind.u64.wrap ((x:Int)-(p:Int))-(b:Int))=(D:Int)/\D % 4294967296=y/\D / 2 ^ 63=b'/\y<4294967296/\b'<=1/\y+p+b=x+4294967296*b':=by
 rw[IntKind.wrap_u64,IntKind.wrap_u64];by_cases h:p+b<=x
 ·exact⟨x-p-b,x-p-b,0,by omega,by omega,by omega,by omega,by omega,by omega⟩
 ·exact⟨18446744073709551616+x-p-b,4294967296+x-p-b,1,by omega,by omega,by omega,by omega,by omega,by omega⟩
theorem AO8:Ent prog 264:=en func264
theorem AN5{w:World}{f:Nat}{U v:List Nat}{vv:Value}(ho:OB 108 w g U)(hv:eW.R S w vv v)(hS:¬ S g)(hn:v.length=n)(hk:k+(n+1)<=U.length)(hl:U.length<=4398046511104)(hf:f<4294967296) :
  Calls prog 264 #[.slice (some ⟨g,k,none⟩) (n+1) c,vv,.int .u64 f] w λe w'=>∃ x,e=.returned x/\∃ (V:List Nat) (bo:Nat),(x=.bool (decide (bo=1))/\bo<=1/\w.grownBy w' (some g)/\OB 108 w' g V/\V.length=U.length /\
   (∀ j,k+(n+1)<=j->V.getD j 0=U.getD j 0)/\val V+4294967296 ^ k*(val v*f)=val U+4294967296 ^ (k+(n+1))*bo):=by
 have hdv:dig v:=K7 hv;refine U8 func264 O ntmps264 O (.sr (.an O O (.sr (.an O O (.sr ?_)))));refine .call [.int .u64 (0:Nat)] O N4 O N3 λv1 w1 e1 h1=>.an O O ?_;obtain⟨bx,rfl,kx,hbx⟩:=h1;have hgx:g≠bx:=by have:=ho.lt;omega
 refine .mid (α:=List Nat×Nat) (λx=>[(7,.int .u64 (x.2:Nat))]) (λx W=>x.2<=1/\w.grownBy W (some g)/\OB 108 W g x.1/\x.1.length=U.length /\
   (∀ j,k+(n+1)<=j->x.1.getD j 0=U.getD j 0)/\val x.1+4294967296 ^ k*(val v*f)=val U+4294967296 ^ (k+(n+1))*x.2) ?_ ?_
 ·refine .sr (.mv O O (.len E5 O O (.mv O O (.nil ?_))));refine .block (.loop (α:=Nat×List Nat×Nat×Nat) (λx=>[(0,.slice (some ⟨g,k,none⟩) (n+1) c),(1,vv),(2,.int .u64 f),(7,.int .u64 (x.2.2.2:Nat)),(8,Ap1 bx),(14,iW ((n+1:Nat):Int)),(15,iW (x.1:Nat))])
   (λx W=>x.1<=n+1/\w.grownBy W (some g)/\OB 108 W g x.2.1/\x.2.1.length=U.length/\AY6 W bx x.2.2.1/\x.2.2.1<4294967296/\(x.1=n+1->x.2.2.1=0)/\x.2.2.2<=1/\(∀ j,k+(n+1)<=j->x.2.1.getD j 0=U.getD j 0) /\
    val x.2.1+4294967296 ^ k*(val (v.take x.1)*f)=val U+4294967296 ^ (k+x.1)*(x.2.2.2+x.2.2.1)) (λx=>n+1-x.1) (0,U,0,0) ?_ ?_ ?_)
  ·exact lkA rfl
  ·refine⟨aC _,BL3 e1,ho.ext e1,rfl,kx,?_,λh=>rfl,aC _,λ_ _=>rfl,?_⟩
   ·show 0<4294967296;omega
   ·simp[val]
  ·rintro⟨i,V,cc,bo⟩ W ⟨hi,hG,hO,hV,hcx,hc,hc0,hbo,hhi,hval⟩;replace hi:i<=n+1:=hi;replace hG:w.grownBy W (some g):=hG;replace hO:OB 108 W g V:=hO;replace hV:V.length=U.length:=hV;replace hcx:AY6 W bx cc:=hcx;replace hc:cc<4294967296:=hc;replace hc0:i=n+1->cc=0:=hc0;replace hbo:bo<=1:=hbo;replace hhi:∀ j,k+(n+1)<=j->V.getD j 0=U.getD j 0:=hhi;replace hval:val V+4294967296 ^ k*(val (v.take i)*f)=val U+4294967296 ^ (k+i)*(bo+cc):=hval;by_cases hlt:i<n+1
   ·refine .sr (.lssT O O O (by show (i:Int)<((n+1:Nat):Int);omega) (.nil (.seq (.condT O (.skip (.seq (.block (.sr (.mv O O (.an O O (.sr (.an O O ?_)))))))))))) ;have hvd:=J6 hdv i;have hvf:v.getD i 0*f<=4294967295*4294967295:=dD (by omega) (by omega);have hvW:=eW.keep (BW5 hG hS) hv;refine .mid (α:=Unit) (λ_=>[(0,.slice (some ⟨g,k,none⟩) (n+1) c),(1,vv),(2,.int .u64 f),(7,.int .u64 (bo:Nat)),(8,Ap1 bx),(9,iW (i:Nat)),(10,.int .u64 (v.getD i 0*f:Nat)),(14,iW ((n+1:Nat):Int)),(15,iW (i:Nat))]) (λ_ W'=>W'=W) ?_ ?_
    ·refine .sr (.mv O O (.mv O O (.lenR E5 O O hvW ?_)));by_cases hin:i<n
     ·refine .lssT O O O (by show (i:Int)<(v.length:Int);omega) (.nil (.condT O (.region (.mv O O (.mv O O ?_)))));refine .ixN (i:=i) E5 C1 O O hvW O (F3 (by omega)) λp hp=>.ldE C1 O O hp λe he=>?_;obtain⟨rfl,hx⟩:=he;refine .cvt G4 G3 O O (.mv O O (.mul O O O ?_));rw[wU (n:=((v.getD i 0:Nat):Int)) (by omega),<-cQ,wU (n:=((v.getD i 0*f:Nat):Int)) (by omega)];exact .an O O ⟨rfl,(),lkA rfl,rfl⟩
     ·refine .lssF O O O (by show ¬ (i:Int)<(v.length:Int);omega) (.nil (.condF O (.skip ⟨rfl,(),?_,rfl⟩)));have:v.getD i 0=0:=by rw[aF,aH (by omega)];rfl
      rw[this,eK];exact lkA rfl
    ·rintro _ W' rfl;have hgi:V[k+i]?=some (V.getD (k+i) 0):=F3 (by omega);have hxd:=J6 hO.1 (k+i);generalize hx:V.getD (k+i) 0=x at *;generalize hpr:v.getD i 0*f=pr at *;refine .seq (.held follows true (λW''=>OB 108 W'' g V) [some _,some _,some _,some (wv x),some _,some _,some _,none,none,none,some _,none,none] (by kernel_rfl) ⟨
      λ_ _=>v_mv rfl,λ_ _=>v_mv rfl,λ_ _=>BT2 (i:=i) E5 C1 O O (by omega),λ_ h=>Bg3 C1 O h hgi,λ_ _=>AL6 G4 G3 rfl,λ_ _=>v_mv rfl,λ_ _=>v_mv rfl,λ_ _=>v_mv rfl,trivial⟩ ?_)
     intro W1 e1 _;rw[wU (n:=(x:Int)) (by omega)];have hcx1:=hcx.ext e1;refine .gv (hO.ext e1) O (AY1 [.int .u64 pr] O P4 O (O9 hcx1 (by omega))) ?_;rintro _ W2 ⟨rfl,u2,hx2⟩;have hO2:=(hO.ext e1).upd u2 hgx;have hG2:=BL2 (BX0 hG (BL3 e1)) u2 (.inr hbx);refine .gv hO2 O (AL6 G4 G3 O).gv ?_;rintro _ _ ⟨rfl,rfl⟩;rw[wU (n:=(((pr+cc) % 4294967296:Nat):Int)) (by omega)];refine .gv hO2 O (AL5 O O).gv ?_;rintro _ _ ⟨rfl,rfl⟩;refine .gv hO2 O (AL5 O O).gv ?_;rintro _ _ ⟨rfl,rfl⟩;obtain⟨D,y,bo',hD,hy,hb',hy1,hb1,hsum⟩:=Bs9 (p:=(pr+cc) % 4294967296) hxd (aY _ (by omega)) hbo;rw[hD];refine .gv hO2 O (AR9 O).gv ?_;rintro _ _ ⟨rfl,rfl⟩;refine .nil (.inl O) (.sr (.mv O O (.mv O O (.mv O O (.cvt G3 G4 O O ?_)))));rw[Q5,hy];refine .ixW (i:=i) E5 C1 O O O (by omega) ?_;refine .stO C1 O O O hO2 (by omega) hy1 λW3 ho3 u3=>.nil (.region (.mv O O (.shr O O O (by decide) ?_)));rw[show ((D:Int).fdiv ((2:Int) ^ (min (63:Int).toNat IntKind.u64.bits)))=((D / 2 ^ 63:Nat):Int) from AY2 D 63,hb'];refine .an O O (.region (.add (m:=(i:Int)) O O O (.mv O O (.nil ?_))));rw[wI (n:=(i:Int)+1) (by omega)];refine⟨rfl,(i+1,V.set (k+i) y,(pr+cc) / 4294967296,bo'),lkA rfl,⟨hlt,BL2 hG2 u3 (.inl O),ho3,by simp[hV],hx2.upd u3 (Ne.symm hgx),?_,?_,hb1,?_,?_⟩,by show n+1-(i+1)<n+1-i;omega⟩
     ·show (pr+cc) / 4294967296<4294967296;rw[bD (by omega)];omega
     ·intro h;show (pr+cc) / 4294967296=0;have hin:i=n:=by have:i+1=n+1:=h;omega
      have:v.getD i 0=0:=by rw[aF,aH (by omega)];rfl
      rw[this,eK] at hpr;rw[<-hpr,aD,eB hc]
     ·intro j hj;show (V.set (k+i) y).getD j 0=U.getD j 0;rw[aF,bW (by omega),<-aF];exact hhi j hj
     ·show val (V.set (k+i) y)+4294967296 ^ k*(val (v.take (i+1))*f)=val U+4294967296 ^ (k+(i+1))*(bo'+(pr+cc) / 4294967296);have h1:=AR6 y hgi;have hdm:=bE (pr+cc) 4294967296;generalize (pr+cc) / 4294967296=q at *;generalize (pr+cc) % 4294967296=z at *;have h2:4294967296 ^ k*(val (v.take (i+1))*f)=4294967296 ^ k*(val (v.take i)*f)+4294967296 ^ (k+i)*pr:=by rw[F1,<-hpr,bG];grind
      have h3:4294967296 ^ (k+i)*y+4294967296 ^ (k+i)*z+4294967296 ^ (k+i)*bo=4294967296 ^ (k+i)*x+4294967296 ^ (k+(i+1))*bo':=by have:=congrArg (4294967296 ^ (k+i)*·) hsum;simp only[aJ] at this;rw[<-cZ k i 1,aN,bF];exact this
      have h4:4294967296 ^ (k+i)*pr+4294967296 ^ (k+i)*cc=4294967296 ^ (k+(i+1))*q+4294967296 ^ (k+i)*z:=by have:=congrArg (4294967296 ^ (k+i)*·) hdm;simp only[aJ] at this;rw[<-cZ k i 1,aN,bF];omega
      rw[h2,aJ (4294967296 ^ (k+(i+1)))];rw[aJ (4294967296 ^ (k+i))] at hval;omega
   ·refine .sr (.lssF O O O (by show ¬ (i:Int)<((n+1:Nat):Int);omega) (.nil (.seq (.condF O (.exit ?_)))));have:i=n+1:=by omega
    subst this;rw[aK (by omega),hc0 rfl] at hval;exact⟨rfl,(V,bo),lkA rfl,hbo,hG,hO,hV,hhi,hval⟩
 ·rintro⟨V,bo⟩ W ⟨hbo,hG,hO,hV,hhi,hval⟩;refine .sr (.mv O O (.neq (m:=(bo:Int)) O O O (.an O O (.ret (.plain [_] results264 ⟨rfl,trivial⟩ ⟨V,bo,?_,hbo,hG,hO,hV,hhi,hval⟩)))));rcases (show bo=0\/bo=1 by omega) with h | h<;>subst h<;>rfl
structure LdF (w:World) (gu gq gv:Nat) (vv:Value) (lu lq:Nat) (vl:List Nat) (A:Nat) (j:Nat) (U Q:List Nat) (W:World):Prop where
 low:Below w.heap.size w W
 u:OB 108 W gu U
 q:OB 108 W gq Q
 v:eW.R (λi=>i=gv) W vv vl
 lu:U.length=lu
 lq:Q.length=lq
 eq:val U+val vl*val Q=A
 zq:∀ i,i<j->Q.getD i 0=0
 lt:val U<4294967296 ^ j*val vl
theorem Bp1{w:World}{o:Nat}(h:eW.R S w (.slice (some ⟨g,o,none⟩) n c) l)(hne:0<l.length):g<w.heap.size:=by
 obtain⟨x,hx⟩:∃ x,l[0]?=some x:=⟨_,aE hne⟩;obtain⟨ad,c',hv,_,e,he,_,hc⟩:=RL.at_ h hx
 cases hv;have h0:e.cells[0]?=some e:=by obtain⟨rfl,_⟩:=he;rfl
 have:=Al8 (hc 0 e h0);rw[J9,J9] at this;exact this
theorem Bz5{p X U V q bo V1:Nat}(hV:0<V)(hp:0<p)(hq:U / p / V=q)(hg1:q<=g)(hg2:g<=q+1)(hs:V1+p*(V*g)=U+X*bo)(hbo:bo<=1)(hV1:V1<X)(hX:U<X) :
  (bo=0->g=q/\V1+p*(V*q)=U)/\(bo=1->g=q+1/\∀ c V2,V2+X*c=V1+p*V->V2<X->c<=1->V2+p*(V*q)=U):=by
 have hq1:p*(V*q)<=U:=by rw[<-hq,fR,<-bF];exact Nat.mul_div_le U (p*V)
 have hq2:U<p*(V*(q+1)):=by rw[<-hq,fR,<-bF];exact gL U (cE hp hV)
 rcases (show g=q\/g=q+1 by omega) with rfl | rfl
 ·constructor
  ·rintro rfl;exact⟨rfl,by omega⟩
  ·rintro rfl;omega
 ·constructor
  ·rintro rfl;omega
  ·rintro rfl;refine⟨rfl,λc V2 h1 h2 h3=>?_⟩;have e:p*(V*(q+1))=p*(V*q)+p*V:=by grind
   rw[e] at hs hq2;rcases (show c=0\/c=1 by omega) with rfl | rfl
   ·omega
   ·omega
theorem Au7:Ent prog 242:=en func242
theorem At1{w:World}{a b:List Nat}(up:Up S w)(upo:Up T0 w)(ha:eW.R S w va a)(hb:eW.R S w vb b)(hla:a.length<=1099511627776)(hlb:b.length=m+2)(hab:b.length<=a.length)(htop:0<b.getD (m+1) 0) :
  CR prog 242 #[va,vb] w (Two (Wv T0 (val a / val b) (a.length+1)) (Wv S (val a % val b) (a.length+1))):=by
 have hda:dig a:=K7 ha;have hdb:dig b:=K7 hb;have htd:=J6 hdb (m+1);have gb:b[m+1]?=some (b.getD (m+1) 0):=F3 (by omega);have hbtop:4294967296 ^ (m+1)<=val b:=top_ge hlb htop;have hp0:0<4294967296 ^ (m+1):=bR (by omega);have hwn1:IntKind.i64.wrap ((b.length:Int)-1)=((m+1:Nat):Int):=by rw[wI (by omega)];omega
 refine enter func242 O ntmps242 O ?_;refine .sr (.asg O O (.an O O (.sr (.mv O O (.lenR E5 O O hb (.an O O ?_))))));refine .sr (.mv O O (.mv O O (.sub O O O ?_)));rw[hwn1];refine .ixN E5 C1 O O hb O gb λp hp=>.ldE C1 O O hp λe he=>?_;obtain⟨rfl,_⟩:=he;refine .call _ O Aq3 O (Ap6 htd htop) λv1 w1 e1 h1=>?_;obtain⟨s,rfl,hs,htops⟩:=h1;refine .cvt AJ3 Bg7 O O ?_;rw[wU (n:=(s:Int)) (by omega)];refine .an O O ?_;refine .mid (α:=Value×Value) (λx=>[(0,va),(6,iW (b.length:Nat)),(7,.int .u64 (s:Nat)),(8,x.1),(9,x.2)]) (λx W=>Ext w W/\∃ gu cu gv cv U0 V0,x.1=.slice (some ⟨gu,0,none⟩) (a.length+1) cu/\x.2=.slice (some ⟨gv,0,none⟩) b.length cv /\
   OB 108 W gu U0/\OB 108 W gv V0/\gu≠gv/\w.heap.size<=gu/\val U0=val a*2 ^ s/\U0.length=a.length+1/\val V0=val b*2 ^ s/\V0.length=b.length+1/\a.length+1<=cu/\cu<=9223372036854775807/\b.length+1<=cv/\cv<=9223372036854775807) ?_ ?_
 ·refine .heldT follows true (λ_=>True) [some _,some _,none,some _,some _,none,some _,none,none,none] (.one 2 (.one 5 (.two 7 (.one 8 (.one 9 .done)) 8 (.one 7 (.one 9 .done))))) (by kernel_rfl) (by kernel_rfl) ⟨λ_ _=>v_mv rfl,λ_ _=>v_mv rfl,λ_ _=>v_mv rfl,λ_ _=>v_mv rfl,λ_ _=>v_mv rfl,trivial⟩ ?_;intro w1' e1' _;have x1:=e1.trans e1';refine .gv O trivial O (A4 _ AN0 O (AL3 (ha.ext x1) hla hs)) ?_;rintro vu w2 ⟨e2,U0,hou,hvu,hlu⟩;refine .gv O trivial O (A4 _ AN0 O (AL3 (hb.ext (x1.trans e2)) (by omega) hs)) ?_;rintro vs w3 ⟨e3,V0,hov,hvv,hlv⟩;obtain⟨gu,cu,rfl,hcu1,hcu2,hgu,obu⟩:=hou.ob (by intro h;rw[h] at hlu;simp at hlu);obtain⟨gv,cv,rfl,hcv1,hcv2,hgv,obv⟩:=hov.ob (by intro h;rw[h] at hlv;simp at hlv);have hgu2:gu<w2.heap.size:=obu.lt;have hguv:gu≠gv:=by omega
  have hres:∀ σ:Env,(∀ t v,YtpgkacdihhjknaaGreat.look [(0,va),(6,iW (b.length:Nat)),(7,.int .u64 (s:Nat)),(8,.slice (some ⟨gu,0,none⟩) U0.length cu),(9,.slice (some ⟨gv,0+0*1,none⟩) (b.length-0) (cv-0))] t=some v->YtpgkacdihhjknaaGreat.look σ t=some v) ->
    ([]:List Deferred)=[]/\∃ x:Value×Value,(∀ t v,YtpgkacdihhjknaaGreat.look [(0,va),(6,iW (b.length:Nat)),(7,.int .u64 (s:Nat)),(8,x.1),(9,x.2)] t=some v->YtpgkacdihhjknaaGreat.look σ t=some v)/\Ext w w3/\∃ gu cu gv cv U0 V0,x.1=.slice (some ⟨gu,0,none⟩) (a.length+1) cu/\x.2=.slice (some ⟨gv,0,none⟩) b.length cv /\
   OB 108 w3 gu U0/\OB 108 w3 gv V0/\gu≠gv/\w.heap.size<=gu/\val U0=val a*2 ^ s/\U0.length=a.length+1/\val V0=val b*2 ^ s/\V0.length=b.length+1/\a.length+1<=cu/\cu<=9223372036854775807/\b.length+1<=cv/\cv<=9223372036854775807 :=
   λσ h=>⟨rfl,(_,_),h,(x1.trans e2).trans e3,gu,cu,gv,cv,U0,V0,by rw[hlu],rfl,obu.ext e3,obv,hguv,aG x1.size hgu,hvu,hlu,hvv,hlv,by omega,hcu2,by omega,hcv2⟩
  refine .gv2 (.gv O trivial O (Bb2 none (some _) 0 b.length E5 C1 O O ⟨.i64,rfl⟩ (aC _) (by omega) (by omega)).gv ?_) (.gv O trivial O (AR9 O).gv ?_)
  ·rintro _ _ ⟨rfl,rfl⟩;refine .gv O trivial O (AR9 O).gv ?_;rintro _ _ ⟨rfl,rfl⟩;refine .gv O trivial O (AR9 O).gv ?_;rintro _ _ ⟨rfl,rfl⟩;exact .nil (.inl O) (hres _ (lkA O))
  ·rintro _ _ ⟨rfl,rfl⟩;refine .gv O trivial O (Bb2 none (some _) 0 b.length E5 C1 O O ⟨.i64,rfl⟩ (aC _) (by omega) (by omega)).gv ?_;rintro _ _ ⟨rfl,rfl⟩;refine .gv O trivial O (AR9 O).gv ?_;rintro _ _ ⟨rfl,rfl⟩;exact .nil (.inl O) (hres _ (lkA O))
 rintro⟨vu,vs⟩ w3 ⟨x3,gu,cu,gv,cv,U0,V0,hvus,hvss,obu,obv,hguv,hwgu,hvu,hlu,hvv,hlv,hcu1,hcu2,hcv1,hcv2⟩;replace hvus:vu=.slice (some ⟨gu,0,none⟩) (a.length+1) cu:=hvus;replace hvss:vs=.slice (some ⟨gv,0,none⟩) b.length cv:=hvss;subst hvus;subst hvss;have hps:0<2 ^ s:=bR (by omega);have hvlt:val V0<4294967296 ^ b.length:=by rw[hvv,hlb];exact BT7 hdb hlb hs htops
 have hvl:=obv.toR (S:=λi=>i=gv) O 0 b.length cv (by omega) (by omega) (by omega);rw[cV] at hvl;have hvlv:val (V0.take b.length)=val b*2 ^ s:=by rw[AV7 (by omega) hvlt,hvv]
 have hvll:(V0.take b.length).length=m+2:=by rw[cI];omega
 have hVlt:val (V0.take b.length)<4294967296 ^ (m+2):=by rw[hvlv];exact BT7 hdb hlb hs htops
 have hV1:=top_pos (BX5 obv.1 b.length) hvll (by rw[hvlv];exact aG hbtop (Nat.le_mul_of_pos_right _ hps));generalize V0.take b.length=vl at *;have hVp:0<val vl:=by have:=cE (bC hp0 hbtop) hps;omega
 refine .sr (.mv O O (.lenR E5 O O (ha.ext x3) (.mv O O (.sub O O O ?_))));rw[wI (n:=(a.length:Int)-(b.length:Int)) (by omega)];refine .add O O O ?_;rw[show IntKind.i64.wrap ((a.length:Int)-(b.length:Int)+1)=((a.length-b.length+1:Nat):Int) by rw[wI (by omega)];omega];refine .make_ _ _ E5 N9 O (by decide) O O O (aA _) (by omega) (by omega) λw4 gq n4=>.an O O ?_;have obq:OB 108 w4 gq (List.replicate (a.length-b.length+1) 0):=OB.made n4;obtain⟨e4,k4,hgq,hs4⟩:=n4;have x4:=x3.trans e4;have obu4:=obu.ext e4;have hvl4:=hvl.ext e4;have hgvlt:gv<w3.heap.size:=obv.lt;have hgult:gu<w3.heap.size:=obu.lt;have hguq:gu≠gq:=by omega
 have hgqv:gq≠gv:=by omega
 have hwgq:w.heap.size<=gq:=by have:=x3.size;omega
 generalize hlu':a.length+1=lu at *;generalize hlq:a.length-b.length+1=lq at *;have f4:LdF w gu gq gv (.slice (some ⟨gv,0,none⟩) b.length cv) lu lq vl (val a*2 ^ s) lq U0 (List.replicate lq 0) w4:=by
  refine⟨x4,obu4,obq,hvl4,hlu,by simp,by rw[AA6,hvu];omega,λi _=>?_,?_⟩
  ·rw[aF,eA];split<;>rfl
  ·rw[hvu,hvlv,<-bF];refine iB ?_ hps;have h1:=Af1 hda;have h2:4294967296 ^ a.length=4294967296 ^ lq*4294967296 ^ (m+1):=by rw[<-bG];congr 1;omega
   have h3:=aV (4294967296 ^ lq) hbtop;omega
 refine .mid (α:=List Nat×List Nat) (λx=>[(4,.slice (some ⟨gq,0,none⟩) lq lq),(6,iW (b.length:Nat)),(7,.int .u64 (s:Nat)),(8,.slice (some ⟨gu,0,none⟩) lu cu)]) (λx W=>LdF w gu gq gv (.slice (some ⟨gv,0,none⟩) b.length cv) lu lq vl (val a*2 ^ s) 0 x.1 x.2 W) ?_ ?_
 ·refine .sr (.mv O O (.lenR E5 O O (ha.ext x4) (.mv O O (.sub O O O ?_))));rw[show IntKind.i64.wrap ((a.length:Int)-(b.length:Int))=(lq:Int)-1 by rw[wI (by omega)];omega];refine .an O O ?_;refine .block (.loop (α:=Nat×List Nat×List Nat) (λx=>[(4,.slice (some ⟨gq,0,none⟩) lq lq),(6,iW (b.length:Nat)),(7,.int .u64 (s:Nat)),(8,.slice (some ⟨gu,0,none⟩) lu cu),(9,.slice (some ⟨gv,0,none⟩) b.length cv),(10,iW ((x.1:Int)-1))])
   (λx W=>x.1<=lq/\LdF w gu gq gv (.slice (some ⟨gv,0,none⟩) b.length cv) lu lq vl (val a*2 ^ s) x.1 x.2.1 x.2.2 W) (λx=>x.1) (lq,U0,List.replicate lq 0) ?_ ?_ ?_)
  ·exact lkA rfl
  ·exact⟨aA _,f4⟩
  ·rintro⟨j,U,Q⟩ W ⟨hj,hF⟩;replace hj:j<=lq:=hj;replace hF:LdF w gu gq gv (.slice (some ⟨gv,0,none⟩) b.length cv) lu lq vl (val a*2 ^ s) j U Q W:=hF;rcases aU j with hj0 | hj0
   ·subst hj0;refine .seq (.sr (.mv O O (.geqF O O O (by show ¬ (0:Int)<=((0:Nat):Int)-1;omega) (.nil (.condF O (.exit ?_))))));exact⟨rfl,(U,Q),lkA rfl,hF⟩
   ·obtain⟨k,rfl⟩:∃ i,j=i+1:=⟨j-1,by omega⟩;have hi:((k+1:Nat):Int)-1=(k:Int):=by omega
    refine .seq (.sr (.mv (v:=.int .i64 (k:Int)) O (by rw[<-hi];rfl) (.geqT O O O (by omega) (.nil (.condT O (.skip (.seq (.block (.sr ?_)))))))));have hkn:k+(b.length+1)<=lu:=by omega
    have hkn':k+(m+3)<=U.length:=by rw[hF.lu];omega
    have hX:val U<4294967296 ^ (k+(b.length+1)):=by have h1:4294967296 ^ (k+1)*val vl<4294967296 ^ (k+1)*4294967296 ^ (m+2):=Nat.mul_lt_mul_of_pos_left hVlt (bR (by omega));rw[<-bG,show k+1+(m+2)=k+(b.length+1) by omega] at h1;exact eX hF.lt h1
    have hpk:0<4294967296 ^ k:=bR (by omega);have hwin:val ((U.drop k).take (b.length+1))=val U / 4294967296 ^ k:=Bb1 hF.u.1 (by rw[hF.lu];exact hkn) hX;have hwl:((U.drop k).take (b.length+1)).length=m+3:=by rw[cI,List.length_drop];omega
    have hwlt:val ((U.drop k).take (b.length+1))<4294967296*val vl:=by
     rw[hwin,bD hpk];have h1:=hF.lt;rw[aN] at h1;have e:4294967296*val vl*4294967296 ^ k=4294967296 ^ k*4294967296*val vl:=by grind
     omega
    have hw1:IntKind.i64.wrap ((k:Int)+(b.length:Int))=((k+b.length:Nat):Int):=by rw[wI (by omega)];omega
    have hw2:IntKind.i64.wrap (((k+b.length:Nat):Int)+1)=((k+b.length+1:Nat):Int):=by rw[wI (by omega)];omega
    refine .mv O O (.mv (v:=.int .i64 (k:Int)) O (by rw[<-hi];rfl) (.mv (v:=.int .i64 (k:Int)) O (by rw[<-hi];rfl) (.mv O O (.add O O O ?_))));rw[hw1];refine .add O O O ?_;rw[hw2];refine .cutB k (k+b.length+1) E5 C1 O O ⟨.i64,rfl⟩ ⟨.i64,rfl⟩ (by omega) (by omega) (by omega) ?_;rw[show 0+k*1=k by omega,show k+b.length+1-k=b.length+1 by omega];have hwR:=hF.u.toR (S:=λi=>i=gu\/i=gv) (.inl O) k (b.length+1) (cu-k) (by rw[hF.lu];exact hkn) (by omega) (by omega);refine .mv O O (.call _ O Ap9 O (An4 hwR (eW.mono (λ_ _ h=>.inr h) hF.v) hwl hvll (by omega) hV1 hwlt) λxg w5 e5 h5=>?_);obtain⟨gs,rfl,hgs,hg1,hg2⟩:=h5;rw[hwin] at hg1 hg2;refine .an O O ?_;refine .mid (α:=Nat×List Nat) (λx=>[(4,.slice (some ⟨gq,0,none⟩) lq lq),(6,iW (b.length:Nat)),(7,.int .u64 (s:Nat)),(8,.slice (some ⟨gu,0,none⟩) lu cu),(9,.slice (some ⟨gv,0,none⟩) b.length cv),(10,iW (k:Int)),(11,.int .u64 (x.1:Nat))])
     (λx W=>Below w.heap.size w W/\OB 108 W gu x.2/\OB 108 W gq Q/\eW.R (λi=>i=gv) W (.slice (some ⟨gv,0,none⟩) b.length cv) vl/\x.2.length=lu/\x.1<4294967296/\val x.2+4294967296 ^ k*(val vl*x.1)=val U/\val x.2<4294967296 ^ k*val vl) ?_ ?_
    ·refine .sr (.mv O O (.mv (v:=.int .i64 (k:Int)) O (by rw[<-hi];rfl) (.mv (v:=.int .i64 (k:Int)) O (by rw[<-hi];rfl) (.mv O O (.add O O O ?_)))));rw[hw1];refine .add O O O ?_;rw[hw2];refine .cutB k (k+b.length+1) E5 C1 O O ⟨.i64,rfl⟩ ⟨.i64,rfl⟩ (by omega) (by omega) (by omega) ?_;rw[show 0+k*1=k by omega,show k+b.length+1-k=b.length+1 by omega];refine .mv O O (.mv O O ?_);have hB5:Below w.heap.size w w5:=hF.low.trans (e5.mono hF.low.size);refine .callG _ O AO8 O (AN5 (hF.u.ext e5) (hF.v.ext e5) (λh=>hguv h) (by omega) (by rw[hF.lu];exact hkn) (by rw[hF.lu];omega) hgs) ?_;rintro _ w6 ⟨V1,bo,rfl,hbo,hG6,ob6,hl6,hhi6,hval6⟩;have hB6:Below w.heap.size w w6:=BY2 hB5 hG6 hwgu hB5.size;have hq6:OB 108 w6 gq Q:=by obtain⟨hd,cs,hb',hc⟩:=hF.q.ext e5;exact⟨hd,cs,(hG6.block gq hb'.lt (λe=>hguq (by cases e;rfl))).trans hb',hc⟩
     have hv6:=eW.keep (BW5 hG6 (S:=λi=>i=gv) hguv) (hF.v.ext e5);have hV1X:val V1<4294967296 ^ (k+(b.length+1)):=Ai2 hl6 ob6.1 hhi6 hX;obtain⟨dg0,dg1⟩:=Bz5 hVp hpk rfl hg1 hg2 hval6 hbo hV1X hX;have hlast:∀ U2:List Nat,val U2+4294967296 ^ k*(val vl*(val U / 4294967296 ^ k / val vl))=val U->val U2<4294967296 ^ k*val vl:=by
      intro U2 h;have:val U<4294967296 ^ k*(val vl*(val U / 4294967296 ^ k / val vl+1)):=by rw[fR,<-bF];exact gL _ (cE hpk hVp)
      rw[aJ (val vl),aJ,cT] at this;omega
     rcases (show bo=0\/bo=1 by omega) with h0 | h0
     ·subst h0;obtain⟨hgq',hvq⟩:=dg0 rfl;refine .nil (.condF O (.skip ⟨rfl,(gs,V1),?_,hB6,ob6,hq6,hv6,hl6.trans hF.lu,hgs,?_,?_⟩))
      ·exact B7 O (B7 O (B7 O (B7 O (B7 O (B7 (by rw[<-hi];rfl) (lkA O))))))
      ·show val V1+4294967296 ^ k*(val vl*gs)=val U;rw[hgq'];exact hvq
      ·exact hlast V1 hvq
     ·subst h0;obtain⟨hgq',hadd⟩:=dg1 rfl;refine .nil (.condT O (.sr (.mv O O (.sub O O O ?_))));have hgs1:1<=gs:=by rw[hgq'];exact Nat.succ_le_succ (aC _)
      rw[show IntKind.u64.wrap ((gs:Int)-1)=((gs-1:Nat):Int) by rw[wU (by omega)];omega];refine .an O O (.sr ?_);refine .call [.int .u64 (0:Nat)] O N4 O N3 λv7 w7 e7 h7=>.an O O ?_;obtain⟨bx,rfl,kx,hbx⟩:=h7;have hB7:Below w.heap.size w w7:=hB6.trans (e7.mono hB6.size);have hgux:gu≠bx:=by have:=ob6.lt;omega
      have hgqx:gq≠bx:=by have:=hq6.lt;omega
      have hgvx:gv≠bx:=by have:=hG6.size;have:=e5.size;have:=hF.low.size;have:=x4.size;have:gv<w6.heap.size:=Bp1 hv6 (by omega);omega
      have hwbx:w.heap.size<=bx:=aG hB6.size hbx;refine .mid (α:=List Nat×Nat) (λx=>[(4,.slice (some ⟨gq,0,none⟩) lq lq),(6,iW (b.length:Nat)),(7,.int .u64 (s:Nat)),(8,.slice (some ⟨gu,0,none⟩) lu cu),(9,.slice (some ⟨gv,0,none⟩) b.length cv),(10,iW (k:Int)),(11,.int .u64 ((gs-1:Nat):Int)),(12,Ap1 bx)])
       (λx W=>Below w.heap.size w W/\OB 108 W gu x.1/\OB 108 W gq Q/\eW.R (λi=>i=gv) W (.slice (some ⟨gv,0,none⟩) b.length cv) vl/\x.1.length=lu/\AY6 W bx x.2/\x.2<=1/\(∀ j,k+(b.length+1)<=j->x.1.getD j 0=U.getD j 0)/\val x.1+4294967296 ^ (k+b.length)*x.2=val V1+4294967296 ^ k*val vl) ?_ ?_
      ·refine .sr (.mv O O (.lenR E5 O O (hv6.ext e7) (.mv O O (.nil ?_))));rw[show vl.length=b.length by omega];refine .block (.loop (α:=Nat×List Nat×Nat) (λx=>[(4,.slice (some ⟨gq,0,none⟩) lq lq),(6,iW (b.length:Nat)),(7,.int .u64 (s:Nat)),(8,.slice (some ⟨gu,0,none⟩) lu cu),(9,.slice (some ⟨gv,0,none⟩) b.length cv),(10,iW (k:Int)),(11,.int .u64 ((gs-1:Nat):Int)),(12,Ap1 bx),(69,.slice (some ⟨gv,0,none⟩) b.length cv),(70,iW (b.length:Nat)),(71,iW (x.1:Nat))])
        (λx W=>x.1<=b.length/\Below w.heap.size w W/\OB 108 W gu x.2.1/\OB 108 W gq Q/\eW.R (λi=>i=gv) W (.slice (some ⟨gv,0,none⟩) b.length cv) vl/\x.2.1.length=lu/\AY6 W bx x.2.2/\x.2.2<=1/\(∀ j,k+(b.length+1)<=j->x.2.1.getD j 0=U.getD j 0)/\val x.2.1+4294967296 ^ (k+x.1)*x.2.2=val V1+4294967296 ^ k*val (vl.take x.1)) (λx=>b.length-x.1) (0,V1,0) ?_ ?_ ?_)
       ·exact B7 O (B7 O (B7 O (B7 O (B7 O (B7 (by rw[<-hi];rfl) (lkA O))))))
       ·exact⟨aC _,hB7,ob6.ext e7,hq6.ext e7,hv6.ext e7,hl6.trans hF.lu,kx,aC _,hhi6,by simp[val]⟩
       ·rintro⟨i,Z,c⟩ W8 ⟨hib,hB8,ob8,hq8,hv8,hl8,hcx,hc,hhi8,hval8⟩;replace hib:i<=b.length:=hib;replace ob8:OB 108 W8 gu Z:=ob8;replace hl8:Z.length=lu:=hl8;replace hcx:AY6 W8 bx c:=hcx;replace hc:c<=1:=hc;replace hhi8:∀ j,k+(b.length+1)<=j->Z.getD j 0=U.getD j 0:=hhi8;replace hval8:val Z+4294967296 ^ (k+i)*c=val V1+4294967296 ^ k*val (vl.take i):=hval8;by_cases hlt:i<b.length
        ·refine .sr (.lssT O O O (by show (i:Int)<(b.length:Int);omega) (.nil (.seq (.condT O (.skip (.seq (.block (.sr (.mv O O ?_)))))))));refine .ixN (i:=i) E5 C1 O O hv8 O (F3 (by omega)) λp hp=>.ldE C1 O O hp λe he=>?_;obtain⟨rfl,hyy⟩:=he;have hgi:Z[k+i]?=some (Z.getD (k+i) 0):=F3 (by omega);have hxx:=J6 ob8.1 (k+i);generalize hy:vl.getD i 0=y at *;generalize hx:Z.getD (k+i) 0=x at *;have hki:IntKind.i64.wrap ((k:Int)+(i:Int))=((k+i:Nat):Int):=by rw[wI (by omega)];omega
         refine .asg O O (.an O O (.region ?_));refine .mv O O (.mv O O (.mv O O (.add (m:=(k:Int)) (n:=(i:Int)) O O O ?_)));rw[hki];refine .mv O O (.mv O O (.mv O O (.mv O O (.add (m:=(k:Int)) (n:=(i:Int)) O O O ?_))));rw[hki];refine .ixW E5 C1 O O O (by omega) ?_;rw[aD];refine .ldO C1 O O ob8 hgi (.cvt G4 G3 O O (.mv O O (.cvt G4 G3 O O (.add O O O ?_))));rw[wU (n:=(x:Int)) (by omega),wU (n:=(y:Int)) (by omega),<-dN,wU (n:=((x+y:Nat):Int)) (by omega)];refine .callvG [_] O O P4 O (O9 hcx (by omega)) ?_;rintro _ W9 ⟨rfl,u9,hcx9⟩;refine .ixW E5 C1 O O O (by omega) ?_;rw[aD];refine .stO C1 O O O (ob8.upd u9 hgux) (by omega) (by omega) λW10 ob10 u10=>.nil (.region (.add (m:=(i:Int)) O O O (.mv O O (.nil ?_))));rw[wI (n:=(i:Int)+1) (by omega)];refine⟨rfl,(i+1,_,_),lkA rfl,⟨hlt,u10.below (u9.below hB8 hwbx) hwgu,ob10,(hq8.upd u9 hgqx).upd u10 (Ne.symm hguq),(hv8.upd u9 (λh=>hgvx h.symm)).upd u10 hguv,by simp[hl8],hcx9.upd u10 (Ne.symm hgux),?_,?_,?_⟩,by show b.length-(i+1)<b.length-i;omega⟩
         ·show (x+y+c) / 4294967296<=1;omega
         ·intro j hj;show (Z.set (k+i) ((x+y+c) % 4294967296)).getD j 0=U.getD j 0;rw[aF,bW (by omega),<-aF];exact hhi8 j hj
         ·show val (Z.set (k+i) ((x+y+c) % 4294967296))+4294967296 ^ (k+(i+1))*((x+y+c) / 4294967296)=val V1+4294967296 ^ k*val (vl.take (i+1));rw[<-cZ k i 1,aN];refine BY4 (AR6 _ hgi) (bE _ _) hval8 ?_;rw[F1,hy,bG];grind
        ·refine .sr (.lssF O O O (by show ¬ (i:Int)<(b.length:Int);omega) (.nil (.seq (.condF O (.exit ?_)))));have:i=b.length:=by omega
         subst this;rw[aK (by omega)] at hval8;exact⟨rfl,(Z,c),lkA rfl,hB8,ob8,hq8,hv8,hl8,hcx,hc,hhi8,hval8⟩
      ·rintro⟨Z,c⟩ W8 ⟨hB8,ob8,hq8,hv8,hl8,hcx,hc,hhi8,hval8⟩;replace ob8:OB 108 W8 gu Z:=ob8;replace hl8:Z.length=lu:=hl8;replace hcx:AY6 W8 bx c:=hcx;replace hc:c<=1:=hc;replace hhi8:∀ j,k+(b.length+1)<=j->Z.getD j 0=U.getD j 0:=hhi8;replace hval8:val Z+4294967296 ^ (k+b.length)*c=val V1+4294967296 ^ k*val vl:=hval8;have hgi:Z[k+b.length]?=some (Z.getD (k+b.length) 0):=F3 (by omega);have hxx:=J6 ob8.1 (k+b.length);generalize hx:Z.getD (k+b.length) 0=x at *;refine .region (.mv O O (.mv O O (.mv O O (.add (m:=(k:Int)) (n:=(b.length:Int)) O O O ?_))));rw[hw1];refine .mv O O (.mv O O (.mv O O (.mv O O (.add (m:=(k:Int)) (n:=(b.length:Int)) O O O ?_))));rw[hw1];refine .ixW E5 C1 O O O (by omega) ?_;rw[aD];refine .ldO C1 O O ob8 hgi (.cvt G4 G3 O O ?_);rw[wU (n:=(x:Int)) (by omega)];refine .callvG [_] O O P4 O (O9 hcx (by omega)) ?_;rintro _ W9 ⟨rfl,u9,hcx9⟩;refine .ixW E5 C1 O O O (by omega) ?_;rw[aD];refine .stO C1 O O O (ob8.upd u9 hgux) (by omega) (by omega) λW10 ob10 u10=>.nil ?_;have hsum:val (Z.set (k+b.length) ((x+c) % 4294967296))+4294967296 ^ (k+(b.length+1))*((x+c) / 4294967296)=val V1+4294967296 ^ k*val vl:=by rw[<-cZ k b.length 1,aN];exact BY4 (y:=0) (AR6 _ hgi) (by rw[bP];exact bE _ _) hval8 (by omega)
       have hhi10:∀ j,k+(b.length+1)<=j->(Z.set (k+b.length) ((x+c) % 4294967296)).getD j 0=U.getD j 0:=by intro j hj;rw[aF,bW (by omega),<-aF];exact hhi8 j hj
       have hres:=hadd _ _ hsum (Ai2 (by simp[hl8,hF.lu]) ob10.1 hhi10 hX) (by omega);refine⟨rfl,(gs-1,_),lkA rfl,u10.below (u9.below hB8 hwbx) hwgu,ob10,(hq8.upd u9 hgqx).upd u10 (Ne.symm hguq),(hv8.upd u9 (λh=>hgvx h.symm)).upd u10 hguv,by simp[hl8],by show gs-1<4294967296;omega,?_,hlast _ hres⟩;show _+4294967296 ^ k*(val vl*(gs-1))=val U;rw[hgq',gN];exact hres
    ·rintro⟨dg,U2⟩ W6 ⟨hB6,ob6,hq6,hv6,hl6,hdg,hval6,hlt6⟩;replace hdg:dg<4294967296:=hdg;replace hval6:val U2+4294967296 ^ k*(val vl*dg)=val U:=hval6;refine .region (.mv O O (.mv O O (.mv O O (.cvt (m:=(dg:Int)) G3 G4 O O ?_))));rw[Q5,bJ hdg];refine .ixW (i:=k) E5 C1 O O O (by omega) ?_;rw[aD];refine .stO C1 O O O hq6 (by rw[hF.lq];omega) hdg λW7 ob7 u7=>.nil (.region (.mv O O (.sub (m:=(k:Int)) O O O (.an O O ?_))));rw[wI (n:=(k:Int)-1) (by omega)];refine⟨rfl,(k,U2,Q.set k dg),lkA rfl,⟨by show k<=lq;omega,u7.below hB6 hwgq,ob6.upd u7 hguq,ob7,hv6.upd u7 hgqv,hl6,by simp[hF.lq],?_,?_,hlt6⟩,eY k⟩
     ·show val U2+val vl*val (Q.set k dg)=val a*2 ^ s;have h1:=AR6 dg (F3 (l:=Q) (k:=k) (by rw[hF.lq];omega));rw[hF.zq k (by omega),dW,bP] at h1;rw[h1,<-hF.eq,<-hval6,aJ];grind
     ·intro i hi';have hi':i<k:=hi';show (Q.set k dg).getD i 0=0;rw[aF,bW (by omega),<-aF];exact hF.zq i (by omega)
 ·rintro⟨U,Q⟩ W ⟨hB,hu,hq,hv,hlU,hlQ,heq,hzq,hUlt⟩;replace hu:OB 108 W gu U:=hu;replace hq:OB 108 W gq Q:=hq;replace hlU:U.length=lu:=hlU;replace hlQ:Q.length=lq:=hlQ;replace heq:val U+val vl*val Q=val a*2 ^ s:=heq;replace hUlt:val U<val vl:=by have:val U<4294967296 ^ 0*val vl:=hUlt;omega
  refine .sr (.mv O O (.make_ b.length b.length E5 N9 O (by decide) O O O (aA _) (by omega) (by omega) λw5 gr n5=>.an O O ?_));have obr:OB 108 w5 gr (List.replicate b.length 0):=OB.made n5;obtain⟨e5,k5,hgr,hs5⟩:=n5;have hgur:gu≠gr:=by have:=hu.lt;omega
  have hgqr:gq≠gr:=by have:=hq.lt;omega
  have hwgr:w.heap.size<=gr:=by have:=hB.size;omega
  obtain⟨hdiv,hmod⟩:=div_end (A:=val a) (b:=val b) (s:=s) (U:=val U) (q:=val Q) (by omega) (by rw[<-hvlv];exact heq) (by rw[<-hvlv];exact hUlt);refine .mid (α:=List Nat) (λ_=>[(4,.slice (some ⟨gq,0,none⟩) lq lq),(5,.slice (some ⟨gr,0,none⟩) b.length b.length)]) (λR W'=>Below w.heap.size w W'/\OB 108 W' gq Q/\OB 108 W' gr R/\R.length=b.length/\val R=val U / 2 ^ s) ?_ ?_
  ·refine .sr (.mv O O (.mv O O (.nil ?_)));refine .block (.loop (α:=Nat×List Nat) (λx=>[(4,.slice (some ⟨gq,0,none⟩) lq lq),(5,.slice (some ⟨gr,0,none⟩) b.length b.length),(7,.int .u64 (s:Nat)),(8,.slice (some ⟨gu,0,none⟩) lu cu),(115,iW (b.length:Nat)),(116,iW (x.1:Nat))])
    (λx W'=>x.1<=b.length/\Below w.heap.size w W'/\OB 108 W' gu U/\OB 108 W' gq Q/\OB 108 W' gr x.2/\x.2.length=b.length/\val x.2=(val U / 2 ^ s) % 4294967296 ^ x.1/\∀ j,x.1<=j->x.2.getD j 0=0) (λx=>b.length-x.1) (0,List.replicate b.length 0) ?_ ?_ ?_)
   ·exact lkA rfl
   ·refine⟨aC _,hB.trans (e5.mono hB.size),hu.ext e5,hq.ext e5,obr,by simp,?_,λj _=>?_⟩
    ·show val (List.replicate b.length 0)=_ % 4294967296 ^ 0;rw[AA6,Nat.pow_zero,Nat.mod_one]
    ·show (List.replicate b.length 0).getD j 0=0;rw[aF,eA];split<;>rfl
   ·rintro⟨i,R⟩ W6 ⟨hi,hB6,hu6,hq6,hr6,hlR,hvR,hzR⟩;replace hi:i<=b.length:=hi;replace hr6:OB 108 W6 gr R:=hr6;replace hlR:R.length=b.length:=hlR;replace hvR:val R=(val U / 2 ^ s) % 4294967296 ^ i:=hvR;replace hzR:∀ j,i<=j->R.getD j 0=0:=hzR;by_cases hlt:i<b.length
    ·refine .sr (.lssT O O O (by show (i:Int)<(b.length:Int);omega) (.nil (.seq (.condT O (.skip (.seq (.block (.sr (.mv O O (.an O O ?_))))))))));have g0:U[i]?=some (U.getD i 0):=F3 (by omega);have g1:U[i+1]?=some (U.getD (i+1) 0):=F3 (by omega);have d0:=J6 hu.1 i;have d1:=J6 hu.1 (i+1);have hdig:=Bl9 (i:=i) hu.1 hs (by omega);generalize U.getD i 0=x0 at *;generalize U.getD (i+1) 0=x1 at *;refine .held follows true (λW'=>OB 108 W' gu U) [some _,some (iW (i:Nat)),some _,some (iW (i:Nat)),some (.pointer (some ⟨gu,i,none⟩)),some (wv x0),some (.int .u64 (x0:Nat)),some _,some (iW (i:Nat)),some (iW ((i+1:Nat):Int)),some (.pointer (some ⟨gu,i+1,none⟩)),some (wv x1),some (.int .u64 (x1:Nat)),
      some (.int .u64 ((x1*4294967296:Nat):Int)),some (.int .u64 ((x0+4294967296*x1:Nat):Int)),some _,some (.int .u64 (((x0+4294967296*x1) / 2 ^ s:Nat):Int)),some (wv (((x0+4294967296*x1) / 2 ^ s) % 4294967296)),some (.pointer (some ⟨gr,i,none⟩)),none] (by kernel_rfl) ⟨
      λ_ _=>v_mv rfl,λ_ _=>v_mv rfl,λ_ _=>v_mv rfl,λ_ _=>v_mv rfl,λ_ _=>(BT2 (i:=i) E5 C1 O O (by omega)).eq (by rw[aD]),λ_ h=>Bg3 C1 O h g0,λ_ _=>(AL6 G4 G3 O).eq (by rw[wU (by omega)]),
      λ_ _=>v_mv rfl,λ_ _=>v_mv rfl,λ_ _=>(Bg6 (m:=(i:Int)) O O).eq (by rw[wI (by omega)];rfl),λ_ _=>(BT2 (i:=i+1) E5 C1 O O (by omega)).eq (by rw[aD]),λ_ h=>Bg3 C1 O h g1,λ_ _=>(AL6 G4 G3 O).eq (by rw[wU (by omega)]),
      λ_ _=>(Bg2 O O (by decide)).eq (by rw[BU4 x1 d1]),λ_ _=>(v_or O O).eq (by rw[Bc6 _ _ (by omega) (by omega),or32 x0 x1 d0]),λ_ _=>v_mv rfl,λ_ _=>(v_shr O O (by omega)).eq (by rw[shr_nat _ _ (by omega)]),λ_ _=>(AL6 G3 G4 O).eq (by rw[Q5]),λ_ _=>(BT2 (i:=i) E5 C1 O O (by omega)).eq (by rw[aD]),trivial⟩ ?_
     intro W7 e7 _;refine .gv (hu6.ext e7) O (g_stO C1 O O (hr6.ext e7) (by omega) (aY _ (by omega))) ?_;rintro _ W8 ⟨hr8,u8⟩;refine .nil (.inl O) (.region (.add (m:=(i:Int)) O O O (.mv O O (.nil ?_))));rw[wI (n:=(i:Int)+1) (by omega)];refine⟨rfl,(i+1,_),lkA rfl,⟨hlt,u8.below (hB6.trans (e7.mono hB6.size)) hwgr,(hu6.ext e7).upd u8 hgur,(hq6.ext e7).upd u8 hgqr,hr8,by simp[hlR],?_,?_⟩,by show b.length-(i+1)<b.length-i;omega⟩
     ·show val (R.set i (((x0+4294967296*x1) / 2 ^ s) % 4294967296))=(val U / 2 ^ s) % 4294967296 ^ (i+1);have h1:=AR6 (((x0+4294967296*x1) / 2 ^ s) % 4294967296) (F3 (l:=R) (k:=i) (by omega));rw[hzR i (aA _),dW,bP] at h1;rw[h1,hdig,hvR]
     ·intro j hj;have hj:i+1<=j:=hj;show (R.set i (((x0+4294967296*x1) / 2 ^ s) % 4294967296)).getD j 0=0;rw[aF,bW (by omega),<-aF];exact hzR j (by omega)
    ·refine .sr (.lssF O O O (by show ¬ (i:Int)<(b.length:Int);omega) (.nil (.seq (.condF O (.exit ?_)))));have:i=b.length:=by omega
     subst this;refine⟨rfl,R,lkA rfl,hB6,hq6,hr6,hlR,?_⟩;rw[hvR,bJ];refine bI (dV _ _) ?_;rw[hlb];omega
  ·rintro R W6 ⟨hB6,hq6,hr6,hlR,hvR⟩;refine .sr (.mv O O (.mv O O (.asg O O (.an O O (.ret ?_)))));refine .plain [_,_] results242 ⟨rfl,rfl,trivial⟩ ⟨hB6,_,_,rfl,⟨Q,?_,hdiv.symm,by omega⟩,⟨R,?_,by rw[hvR,hmod],by omega⟩⟩
   ·have:=hq6.toR0 (S:=T0) (c:=lq) (upo gq (by omega)) (by omega) (by omega);rw[hlQ] at this;exact this
   ·have:=hr6.toR0 (S:=S) (c:=b.length) (up gr (by omega)) (by omega) (by omega);rw[hlR] at this;exact this
theorem Ae8(b:BitVec 64):IntKind.i64.wrap (b.toNat:Int)=b.toInt:=by rw[IntKind.wrap_i64,BitVec.toInt_eq_toNat_cond];have:=b.isLt;split<;>omega
theorem AS7(b:BitVec 64):BitVec.ofInt 64 (IntKind.i64.wrap (b.toNat:Int))=b:=by rw[Ae8,BitVec.ofInt_toInt]
theorem AI9(h1 : -9223372036854775808<=x)(h2:x<=9223372036854775807):(BitVec.ofInt 64 x).msb=decide (x<0):=by rw[BitVec.msb_eq_decide,BitVec.toNat_ofInt];simp only[decide_eq_decide];omega
theorem Ai7{b:BitVec 64}:0<=b.toInt<->b.msb=false:=by
 rw[BitVec.toInt_eq_msb_cond];have:=b.isLt
 cases b.msb<;>simp<;>omega
theorem add_ok(hx1 : -9223372036854775808<=x)(hx2:x<=9223372036854775807)(hy1 : -9223372036854775808<=y)(hy2:y<=9223372036854775807)(h:0<=IntKind.i64.wrap (BitVec.ofInt IntKind.i64.bits (IntKind.i64.wrap (BitVec.ofInt IntKind.i64.bits x ^^^ BitVec.ofInt IntKind.i64.bits (IntKind.i64.wrap (x+y))).toNat) &&& BitVec.ofInt IntKind.i64.bits (IntKind.i64.wrap (BitVec.ofInt IntKind.i64.bits y ^^^ BitVec.ofInt IntKind.i64.bits (IntKind.i64.wrap (x+y))).toNat)).toNat) :
  IntKind.i64.wrap (x+y)=x+y:=by
 change 0<=IntKind.i64.wrap (BitVec.ofInt 64 (IntKind.i64.wrap (BitVec.ofInt 64 x ^^^ BitVec.ofInt 64 (IntKind.i64.wrap (x+y))).toNat) &&& BitVec.ofInt 64 (IntKind.i64.wrap (BitVec.ofInt 64 y ^^^ BitVec.ofInt 64 (IntKind.i64.wrap (x+y))).toNat)).toNat at h;rw[AS7,AS7,Ae8,Ai7,BitVec.msb_and,BitVec.msb_xor,BitVec.msb_xor] at h;have hr : -9223372036854775808<=IntKind.i64.wrap (x+y)/\IntKind.i64.wrap (x+y)<=9223372036854775807:=by rw[IntKind.wrap_i64];omega
 rw[AI9 hx1 hx2,AI9 hy1 hy2,AI9 hr.1 hr.2] at h;rw[IntKind.wrap_i64] at h ⊢;simp only[Bool.and_eq_false_iff,bne_eq_false_iff_eq,decide_eq_decide] at h;omega
theorem sub_ok(hx1 : -9223372036854775808<=x)(hx2:x<=9223372036854775807)(hy1 : -9223372036854775808<=y)(hy2:y<=9223372036854775807)(h:0<=IntKind.i64.wrap (BitVec.ofInt IntKind.i64.bits (IntKind.i64.wrap (BitVec.ofInt IntKind.i64.bits x ^^^ BitVec.ofInt IntKind.i64.bits y).toNat) &&& BitVec.ofInt IntKind.i64.bits (IntKind.i64.wrap (BitVec.ofInt IntKind.i64.bits x ^^^ BitVec.ofInt IntKind.i64.bits (IntKind.i64.wrap (x-y))).toNat)).toNat) :
  IntKind.i64.wrap (x-y)=x-y:=by
 change 0<=IntKind.i64.wrap (BitVec.ofInt 64 (IntKind.i64.wrap (BitVec.ofInt 64 x ^^^ BitVec.ofInt 64 y).toNat) &&& BitVec.ofInt 64 (IntKind.i64.wrap (BitVec.ofInt 64 x ^^^ BitVec.ofInt 64 (IntKind.i64.wrap (x-y))).toNat)).toNat at h;rw[AS7,AS7,Ae8,Ai7,BitVec.msb_and,BitVec.msb_xor,BitVec.msb_xor] at h;have hr : -9223372036854775808<=IntKind.i64.wrap (x-y)/\IntKind.i64.wrap (x-y)<=9223372036854775807:=by rw[IntKind.wrap_i64];omega
 rw[AI9 hx1 hx2,AI9 hy1 hy2,AI9 hr.1 hr.2] at h;rw[IntKind.wrap_i64] at h ⊢;simp only[Bool.and_eq_false_iff,bne_eq_false_iff_eq,decide_eq_decide] at h;omega
theorem sg_add(b:Bool)(m n:Nat):sg b (m+n)=sg b m+sg b n:=by cases b<;>simp[sg]<;>omega
theorem Bt1(b:Bool)(m n:Nat)(h:n<=m):sg b (m-n)=sg b m+sg (!b) n:=by cases b<;>simp[sg]<;>omega
theorem BJ9(b:Bool)(n:Nat):(sg b n).natAbs=n:=by cases b<;>simp[sg]
theorem Al7:AL1 m n<0<->m<n:=by unfold AL1;split<;>(try split)<;>omega
theorem AM9:Ent prog 215:=en func215
theorem AL2{w:World}{p q:Bool}(up:Up S w)(ha:eW.R S w va (wds m))(hb:eW.R S w vb (wds n))(hla:(wds m).length<=1099511627776)(hlb:(wds n).length<=1099511627776) :
  CR prog 215 #[.bool p,va,.bool q,vb] w (eZ.at S (zc (sg p m+sg q n))):=by
 refine enter func215 O ntmps215 O (.sr (.alloc O F4 λw1 b1 n1=>.nil ?_));obtain⟨e1,k1,hb1,hs1⟩:=n1;have hS:¬ Sx S w.heap.size w1.heap.size b1:=Sx.no (by omega) (by omega);have up1:Up (Sx S w.heap.size w1.heap.size) w1:=Sx.up up (aA _) e1.size;have ha1:=(ha.par w1.heap.size).ext e1;have hb1':=(hb.par w1.heap.size).ext e1;refine .seq (.sr (.mv O O (.mv O O (.eqlB AL7 O O O (.nil ?_)))));by_cases hpq:p=q
 ·subst hpq;refine .condT (by rw[beq_self_eq_true];rfl) (.sr (.mv O O (.mv O O (.mv O O (.call _ O AR2 O (AP5 up1 ha1 hb1' hla hlb) λv2 w2 e2 h2=>?_)))));obtain⟨r,hr,hv,hl⟩:=h2;refine .call _ O M5 O (M2 (up1.ext e2.size) hr) λv3 w3 e3 h3=>(.storeA B6 O O ((k1.ext e2).ext e3) O O h3 hS λw4 k4 u4 h4=>.nil (.ret (.cell results215 O B6 O O k4 h4 ⟨u4.below ((e1.trans e2).trans e3) (by omega),?_⟩)));rw[<-sg_add,show m+n=val r by rw[hv,E9,E9]];exact h4.out
 ·have hq:q = !p:=by cases p<;>cases q<;>simp_all
  subst hq;refine .condF (by cases p<;>rfl) (.skip (.seq (.sr (.mv O O (.mv O O (.call _ rfl AG4 O (AF2 ha1 hb1') λv2 w2 e2 h2=>?_))))))
  subst h2;have ha2:=ha1.ext e2;have hb2:=hb1'.ext e2;have up2:=up1.ext e2.size;by_cases hlt:m<n
  ·refine .lssT O O O (Al7.2 hlt) (.nil (.condT O (.sr (.mv O O (.mv O O (.mv O O (.call _ O AD9 O (AD0 up2 hb2 ha2 hlb hla (by rw[E9,E9];omega)) λv3 w3 e3 h3=>?_)))))));obtain⟨r,hr,hv,hl⟩:=h3;refine .call _ O M5 O (M2 (up2.ext e3.size) hr) λv4 w4 e4 h4=>(.storeA B6 O O (((k1.ext e2).ext e3).ext e4) O O h4 hS λw5 k5 u5 h5=>.nil (.ret (.cell results215 O B6 O O k5 h5 ⟨u5.below (((e1.trans e2).trans e3).trans e4) (by omega),?_⟩)));rw[show sg p m+sg (!p) n=sg (!p) (val r) by rw[hv,E9,E9,Bt1 _ _ _ (by omega),Bool.not_not,Int.add_comm]]
   exact h5.out
  ·refine .lssF O O O (λh=>hlt (Al7.1 h)) (.nil (.condF O (.skip (.sr (.mv O O (.mv O O (.mv O O (.call _ O AD9 O (AD0 up2 ha2 hb2 hla hlb (by rw[E9,E9];omega)) λv3 w3 e3 h3=>?_))))))));obtain⟨r,hr,hv,hl⟩:=h3;refine .call _ O M5 O (M2 (up2.ext e3.size) hr) λv4 w4 e4 h4=>(.storeA B6 O O (((k1.ext e2).ext e3).ext e4) O O h4 hS λw5 k5 u5 h5=>.nil (.ret (.cell results215 O B6 O O k5 h5 ⟨u5.below (((e1.trans e2).trans e3).trans e4) (by omega),?_⟩)));rw[show sg p m+sg (!p) n=sg p (val r) by rw[hv,E9,E9,Bt1 _ _ _ (by omega)]]
   exact h5.out
theorem Ab2{n:Int}:N0 n=true <-> -9223372036854775808<=n/\n<=9223372036854775807:=by simp[N0]
theorem BY8:Ent prog 157:=en func157
theorem BS8{w:World}{x y:ZV}(up:Up S w)(ha:eZ.R S w va x)(hb:eZ.R S w vb y)(hla:x.w.length<=1099511627776)(hlb:y.w.length<=1099511627776) :
  CR prog 157 #[va,vb] w (eZ.at S (zc (A6 x+A6 y))):=by
 obtain⟨sa,rfl,hsa⟩:=ha;obtain⟨sb,rfl,hsb⟩:=hb;have hda:dig x.w:=K7 hsa;have hdb:dig y.w:=K7 hsb;refine enter func157 O ntmps157 O (.sr (.box O O λw1 b1 n1=>.box O O λw2 b2 n2=>.alloc O F4 λw3 b3 n3=>.nil ?_));obtain⟨e1,k1,hb1,hs1⟩:=n1;obtain⟨e2,k2,hb2,hs2⟩:=n2;obtain⟨e3,k3,hb3,hs3⟩:=n3;have x3:=(e1.trans e2).trans e3;have k1:=(k1.ext e2).ext e3;have k2:=k2.ext e3;have hS:¬ Sx S w.heap.size w3.heap.size b3:=Sx.no (by omega) (by omega);have up3:Up (Sx S w.heap.size w3.heap.size) w3:=Sx.up up (aA _) x3.size;have hsa3:=(hsa.par w3.heap.size).ext x3;have hsb3:=(hsb.par w3.heap.size).ext x3;refine .sr (.ldA B6 O O k1 O (.call _ O P1 O (O4 (z:=x) ⟨sa,rfl,hsa3⟩) λv4 w4 e4 h4=>?_));subst h4;refine .mv O O (.ext O O O (.ext O O O (.asg O O (.an O O (.sr (.ldA B6 O O (k2.ext e4) O (.call _ O P1 O (O4 (z:=y) ⟨sb,rfl,hsb3.ext e4⟩) λv5 w5 e5 h5=>?_)))))));subst h5;refine .mv O O (.ext O O O (.ext O O O (.asg O O (.an O O ?_))));have x35:=e4.trans e5;have x5:=x3.trans x35;have up5:=up3.ext x35.size;refine .mid (α:=Unit) (λ_=>[(2,pW b1),(3,pW b2),(4,pW b3)]) (λ_ W=>W=w5) ?_ ?_
 ·refine .sr (.mv O O (.mv O O ?_))
  cases hx:N0 (A6 x) with
  | false =>
   refine .gs O O O O O (.pick O O O (.nil (.condF O (.skip ?_))));exact⟨rfl,(),lkA rfl,rfl⟩
  | true =>
   have hx':=Ab2.1 hx;refine .gr O O O O (.mv O O (.pick O O O (.nil ?_)))
   cases hy:N0 (A6 y) with
   | false =>
    refine .condF O (.skip ?_);exact⟨rfl,(),lkA rfl,rfl⟩
   | true =>
    have hy':=Ab2.1 hy;have ex:AK9 (A6 x)=A6 x:=by rw[AK9,hx];rfl
    have ey:AK9 (A6 y)=A6 y:=by rw[AK9,hy];rfl
    rw[ex,ey];refine .condT O (.sr (.mv O O (.mv O O (.add O O O (.an O O (.sr (.mv O O (.mv O O (.xor_ O O O (.mv O O (.mv O O (.xor_ O O O (.and_ O O O (.geq O O O (.nil (.cond O (λhc=>?_) (λhc=>.skip ⟨rfl,(),lkA rfl,rfl⟩)))))))))))))))));have hsum:=add_ok hx'.1 hx'.2 hy'.1 hy'.2 (of_decide_eq_true hc);refine .sr (.mv O O ?_);have hr : -9223372036854775808<=IntKind.i64.wrap (A6 x+A6 y)/\IntKind.i64.wrap (A6 x+A6 y)<=9223372036854775807:=by rw[IntKind.wrap_i64];omega
    refine .call _ O H4 O (H1 up5 hr.1 hr.2) λv6 w6 e6 h6=>(.storeA B6 O O ((k3.ext x35).ext e6) O O h6 hS λw7 k7 u7 h7=>.nil (.ret (.cell results157 O B6 O O k7 h7 ⟨u7.below (x5.trans e6) (by omega),?_⟩)));rw[hsum] at h7;exact h7.out
 ·rintro _ _ rfl;have hsa5:=hsa3.ext x35;have hsb5:=hsb3.ext x35;have k1:=k1.ext x35;have k2:=k2.ext x35;refine .seq ?_;refine .par follows 11 [.inl _,.inl _,.inl _,.inl _,.inr (eW.at (Sx S w.heap.size w3.heap.size) (wds (val x.w))),.inl _,.inl _,.inl _,.inl _,.inr (eW.at (Sx S w.heap.size w3.heap.size) (wds (val y.w))),.inr (eZ.at (Sx S w.heap.size w3.heap.size) (zc (sg x.neg (val x.w)+sg y.neg (val y.w))))]
   [[],[(37,0)],[],[(39,2)],[(40,3)],[],[(42,5)],[],[(44,7)],[(45,8)],[(38,1),(41,4),(43,6),(46,9)]] (by kernel_rfl) ⟨fao J5 O,λw e=>(E2 D6 O (k1.ext e) O).ob,fao G9 O,λw e=>(E2 L2 O (k1.ext e) O).ob,λw e=>(A4 _ G1 O (by rw[<-L1 hda];exact G0 (hsa5.ext e))).oa,fao J5 O,λw e=>(E2 D6 O (k2.ext e) O).ob,fao G9 O,λw e=>(E2 L2 O (k2.ext e) O).ob,λw e=>(A4 _ G1 O (by rw[<-L1 hdb];exact G0 (hsb5.ext e))).oa,λw e x4 hx4 x9 hx9=>(A4 _ AM9 O (AL2 (up5.ext e.size) hx4 hx9 (aG (J1 hda) hla) (aG (J1 hdb) hlb))).oa,trivial⟩ ?_
  intro w6 e6 x4 hx4 x9 hx9 x10 hx10;refine .storeA B6 O O ((k3.ext x35).ext e6) O O hx10 hS λw7 k7 u7 h7=>.nil (.ret (.cell results157 O B6 O O k7 h7 ⟨u7.below (x5.trans e6) (by omega),h7.out⟩))
theorem BY6:Ent prog 159:=en func159
theorem BS6{w:World}{x y:ZV}(up:Up S w)(ha:eZ.R S w va x)(hb:eZ.R S w vb y)(hla:x.w.length<=1099511627776)(hlb:y.w.length<=1099511627776) :
  CR prog 159 #[va,vb] w (eZ.at S (zc (A6 x-A6 y))):=by
 obtain⟨sa,rfl,hsa⟩:=ha;obtain⟨sb,rfl,hsb⟩:=hb;have hda:dig x.w:=K7 hsa;have hdb:dig y.w:=K7 hsb;refine enter func159 O ntmps159 O (.sr (.box O O λw1 b1 n1=>.box O O λw2 b2 n2=>.alloc O F4 λw3 b3 n3=>.nil ?_));obtain⟨e1,k1,hb1,hs1⟩:=n1;obtain⟨e2,k2,hb2,hs2⟩:=n2;obtain⟨e3,k3,hb3,hs3⟩:=n3;have x3:=(e1.trans e2).trans e3;have k1:=(k1.ext e2).ext e3;have k2:=k2.ext e3;have hS:¬ Sx S w.heap.size w3.heap.size b3:=Sx.no (by omega) (by omega);have up3:Up (Sx S w.heap.size w3.heap.size) w3:=Sx.up up (aA _) x3.size;have hsa3:=(hsa.par w3.heap.size).ext x3;have hsb3:=(hsb.par w3.heap.size).ext x3;refine .sr (.ldA B6 O O k1 O (.call _ O P1 O (O4 (z:=x) ⟨sa,rfl,hsa3⟩) λv4 w4 e4 h4=>?_));subst h4;refine .mv O O (.ext O O O (.ext O O O (.asg O O (.an O O (.sr (.ldA B6 O O (k2.ext e4) O (.call _ O P1 O (O4 (z:=y) ⟨sb,rfl,hsb3.ext e4⟩) λv5 w5 e5 h5=>?_)))))));subst h5;refine .mv O O (.ext O O O (.ext O O O (.asg O O (.an O O ?_))));have x35:=e4.trans e5;have x5:=x3.trans x35;have up5:=up3.ext x35.size;refine .mid (α:=Unit) (λ_=>[(2,pW b1),(3,pW b2),(4,pW b3)]) (λ_ W=>W=w5) ?_ ?_
 ·refine .sr (.mv O O (.mv O O ?_))
  cases hx:N0 (A6 x) with
  | false =>
   refine .gs O O O O O (.pick O O O (.nil (.condF O (.skip ?_))));exact⟨rfl,(),lkA rfl,rfl⟩
  | true =>
   have hx':=Ab2.1 hx;refine .gr O O O O (.mv O O (.pick O O O (.nil ?_)))
   cases hy:N0 (A6 y) with
   | false =>
    refine .condF O (.skip ?_);exact⟨rfl,(),lkA rfl,rfl⟩
   | true =>
    have hy':=Ab2.1 hy;have ex:AK9 (A6 x)=A6 x:=by rw[AK9,hx];rfl
    have ey:AK9 (A6 y)=A6 y:=by rw[AK9,hy];rfl
    rw[ex,ey];refine .condT O (.sr (.mv O O (.mv O O (.sub O O O (.an O O (.sr (.mv O O (.mv O O (.xor_ O O O (.mv O O (.mv O O (.xor_ O O O (.and_ O O O (.geq O O O (.nil (.cond O (λhc=>?_) (λhc=>.skip ⟨rfl,(),lkA rfl,rfl⟩)))))))))))))))));have hsum:=sub_ok hx'.1 hx'.2 hy'.1 hy'.2 (of_decide_eq_true hc);refine .sr (.mv O O ?_);have hr : -9223372036854775808<=IntKind.i64.wrap (A6 x-A6 y)/\IntKind.i64.wrap (A6 x-A6 y)<=9223372036854775807:=by rw[IntKind.wrap_i64];omega
    refine .call _ O H4 O (H1 up5 hr.1 hr.2) λv6 w6 e6 h6=>(.storeA B6 O O ((k3.ext x35).ext e6) O O h6 hS λw7 k7 u7 h7=>.nil (.ret (.cell results159 O B6 O O k7 h7 ⟨u7.below (x5.trans e6) (by omega),?_⟩)));rw[hsum] at h7;exact h7.out
 ·rintro _ _ rfl;have hsa5:=hsa3.ext x35;have hsb5:=hsb3.ext x35;have k1:=k1.ext x35;have k2:=k2.ext x35;refine .seq ?_;refine .par follows 12 [.inl _,.inl _,.inl _,.inl _,.inr (eW.at (Sx S w.heap.size w3.heap.size) (wds (val x.w))),.inl _,.inl _,.inl _,.inl _,.inl _,.inr (eW.at (Sx S w.heap.size w3.heap.size) (wds (val y.w))),.inr (eZ.at (Sx S w.heap.size w3.heap.size) (zc (sg x.neg (val x.w)+sg (!y.neg) (val y.w))))]
   [[],[(37,0)],[],[(39,2)],[(40,3)],[],[(42,5)],[(43,6)],[],[(45,8)],[(46,9)],[(38,1),(41,4),(44,7),(47,10)]] (by kernel_rfl) ⟨fao J5 O,λw e=>(E2 D6 O (k1.ext e) O).ob,fao G9 O,λw e=>(E2 L2 O (k1.ext e) O).ob,λw e=>(A4 _ G1 O (by rw[<-L1 hda];exact G0 (hsa5.ext e))).oa,fao J5 O,λw e=>(E2 D6 O (k2.ext e) O).ob,λw e=>(BJ1 O).ob,fao G9 O,λw e=>(E2 L2 O (k2.ext e) O).ob,λw e=>(A4 _ G1 O (by rw[<-L1 hdb];exact G0 (hsb5.ext e))).oa,λw e x4 hx4 x9 hx9=>(A4 _ AM9 O (AL2 (up5.ext e.size) hx4 hx9 (aG (J1 hda) hla) (aG (J1 hdb) hlb))).oa,trivial⟩ ?_
  intro w6 e6 x4 hx4 x9 hx9 x10 hx10;refine .storeA B6 O O ((k3.ext x35).ext e6) O O hx10 hS λw7 k7 u7 h7=>.nil (.ret (.cell results159 O B6 O O k7 h7 ⟨u7.below (x5.trans e6) (by omega),?_⟩));rw[show A6 x-A6 y=sg x.neg (val x.w)+sg (!y.neg) (val y.w) by unfold A6 sg;cases x.neg<;>cases y.neg<;>simp<;>omega]
  exact h7.out
theorem sg_mul(a b:Bool)(m n:Nat):sg (a != b) (m*n)=sg a m*sg b n:=by
 cases a<;>cases b<;>simp[sg,cQ,fA,fC]
theorem M6:Ent prog 112:=en func112
theorem M3{w:World}{x y:ZV}(up:Up S w)(ha:eZ.R S w va x)(hb:eZ.R S w vb y)(hla:x.w.length<=1099511627776)(hlb:y.w.length<=1099511627776) :
  CR prog 112 #[va,vb] w (eZ.at S (zc (A6 x*A6 y))):=by
 obtain⟨sa,rfl,hsa⟩:=ha;obtain⟨sb,rfl,hsb⟩:=hb;have hda:dig x.w:=K7 hsa;have hdb:dig y.w:=K7 hsb;have hla':=aG (J1 hda) hla;have hlb':=aG (J1 hdb) hlb;refine enter func112 O ntmps112 O ?_;refine .sr (.box O O λw1 b1 n1=>.box O O λw2 b2 n2=>.alloc O F4 λw3 b3 n3=>.nil ?_);obtain⟨e1,k1,hb1,hs1⟩:=n1;obtain⟨e2,k2,hb2,hs2⟩:=n2;obtain⟨e3,k3,hb3,hs3⟩:=n3;have x3:=(e1.trans e2).trans e3;have k1:=(k1.ext e2).ext e3;have k2:=k2.ext e3;have hS:¬ Sx S w.heap.size w3.heap.size b3:=Sx.no (by omega) (by omega);have up3:Up (Sx S w.heap.size w3.heap.size) w3:=Sx.up up (aA _) x3.size;have hsa3:=(hsa.par w3.heap.size).ext x3;have hsb3:=(hsb.par w3.heap.size).ext x3;generalize hT:Sx S w.heap.size w3.heap.size=T at *;have hprod:A6 x*A6 y=sg (x.neg != y.neg) (val x.w*val y.w):=by rw[sg_mul];rfl
 refine .seq ?_;refine .par follows 7 [.inl _,.inl _,.inr (eW.at T (wds (val x.w))),.inl _,.inl _,.inr (eW.at T (wds (val y.w))),.inr (eW.at T (wds (val x.w)))] [[],[(7,0)],[(8,1)],[],[(10,3)],[(11,4)],[(9,2)]] (by kernel_rfl) ⟨fao G9 O,λw e=>(E2 L2 O (k1.ext e) O).ob,λw e=>(A4 _ G1 O (by rw[<-L1 hda];exact G0 (hsa3.ext e))).oa,fao G9 O,λw e=>(E2 L2 O (k2.ext e) O).ob,λw e=>(A4 _ G1 O (by rw[<-L1 hdb];exact G0 (hsb3.ext e))).oa,λw e x2 hx2=>Bi2 O hx2 (G7 _ _ _),trivial⟩ ?_;intro w4 e4 u2 hu2 u5 hu5 u6 hu6;refine .an O O ?_;have x4:=x3.trans e4;have up4:=up3.ext e4.size;have k1:=k1.ext e4;have k2:=k2.ext e4;have k3:=k3.ext e4;have hla1:=Af0 hu6;have hlb1:=Af0 hu5;refine .mid (α:=Unit) (λ_=>[(2,pW b1),(3,pW b2),(4,pW b3),(5,u6),(6,u5)]) (λ_ W=>W=w4) ?_ ?_
 ·refine .sr (.mv O O (.lenR E5 O O hu6 ?_));by_cases h1:(wds (val x.w)).length<=1
  ·refine .leqT O O O (by omega) (.mv O O (.gr O O O O (.mv O O (.gr O O O O (.lenR E5 O O hu5 (.gr O O O O ?_))))));by_cases h2:(wds (val y.w)).length<=1
   ·refine .leqT O O O (by omega) (.pick O O O (.nil (.condT O (.seq ?_))));have hxl:val x.w<4294967296:=by have h3:=AV6 (val x.w);have h4:4294967296 ^ (wds (val x.w)).length<=4294967296 ^ 1:=aQ (by omega) h1;omega
    have hyl:val y.w<4294967296:=by have h3:=AV6 (val y.w);have h4:4294967296 ^ (wds (val y.w)).length<=4294967296 ^ 1:=aQ (by omega) h2;omega
    have hxy:val x.w*val y.w<=4294967295*4294967295:=dD (by omega) (by omega);refine .par follows 11 [.inl _,.inl _,.inl _,.inl _,.inl _,.inl _,.inl (.int .u64 (val x.w:Nat)),.inl _,.inl (.int .u64 (val y.w:Nat)),.inl (.int .u64 ((val x.w*val y.w:Nat):Int)),.inr (eZ.at T (zc (sg (x.neg != y.neg) (val x.w*val y.w))))]
     [[],[(21,0)],[],[(23,2)],[(22,1),(24,3)],[],[(26,5)],[],[(28,7)],[(27,6),(29,8)],[(25,4),(30,9)]] (by kernel_rfl) ⟨fao J5 O,λw e=>(E2 D6 O (k1.ext e) O).ob,fao J5 O,λw e=>(E2 D6 O (k2.ext e) O).ob,λw e=>(BM2 AL7 O O).ob,mvo O,λw e=>(A4 _ V3 O (by have:=T6 (hu6.ext e) (by omega);rw[E9] at this;exact this)).obIs,mvo O,λw e=>(A4 _ V3 O (by have:=T6 (hu5.ext e) (by omega);rw[E9] at this;exact this)).obIs,λw e=>((Br8 O O).eq (by rw[<-cQ,wU (by omega)])).ob,λw e=>(A4 _ S2 O (R9 (up4.ext e.size) (by omega))).oa,trivial⟩ ?_
    intro w5 e5 x10 hx10;refine .storeA B6 O O (k3.ext e5) O O hx10 hS λw6 k6 u6 h6=>.nil (.ret (.cell results112 O B6 O O k6 h6 ⟨u6.below (x4.trans e5) (by omega),?_⟩));subst hT;rw[hprod];exact h6.out
   ·refine .leqF O O O (by omega) (.pick O O O (.nil (.condF O (.skip ?_))));exact⟨rfl,(),lkA rfl,rfl⟩
  ·refine .leqF O O O (by omega) (.mv O O (.gs O O O O O (.gs O O O O O (.gs O O O O O (.pick O O O (.nil (.condF O (.skip ?_))))))));exact⟨rfl,(),lkA rfl,rfl⟩
 ·rintro _ _ rfl;refine .seq ?_;refine .par follows 9 [.inl _,.inl _,.inl _,.inl _,.inl _,.inl _,.inl _,.inr (Wv T (val x.w*val y.w) (1099511627776+1099511627776)),.inr (eZ.at T (zc (sg (x.neg != y.neg) (val x.w*val y.w))))] [[],[(32,0)],[],[(34,2)],[(33,1),(35,3)],[],[],[(37,5),(38,6)],[(36,4),(39,7)]] (by kernel_rfl) ⟨fao J5 O,λw e=>(E2 D6 O (k1.ext e) O).ob,fao J5 O,λw e=>(E2 D6 O (k2.ext e) O).ob,λw e=>(BM2 AL7 O O).ob,mvo O,mvo O,λw e=>(A4 _ Ap8 O ((An3 (up4.ext e.size) (hu6.ext e) (hu5.ext e) hla' hlb').mono λv w' _ ⟨r,h1,h2,h3⟩=>⟨r,h1,by rw[h2,E9,E9],by omega⟩)).ob (st_wv _ _ _),λw e x7 hx7=>(A4 _ M5 rfl (by obtain⟨r,h1,h2,h3⟩:=hx7;have:=M2 (neg:=x.neg != y.neg) (up4.ext e.size) h1;rw[h2] at this;exact this)).oa,trivial⟩ ?_;intro w5 e5 x7 hx7 x8 hx8;refine .storeA B6 O O (k3.ext e5) O O hx8 hS λw6 k6 u6 h6=>.nil (.ret (.cell results112 O B6 O O k6 h6 ⟨u6.below (x4.trans e5) (by omega),?_⟩));subst hT;rw[hprod];exact h6.out
theorem BX9{w:World}{es:List Value}(h:Els AQ8 S w es l):es=l.map wv:=by
 apply cU;intro i;rw[aI];rcases aB i l.length with hi | hi
 ·have hi':i<es.length:=by rw[h.1];exact hi
  have:=h.2 i es[i] l[i] (aE hi') (aE hi);rw[aE hi',aE hi,cY];exact congrArg some this.1
 ·rw[aH hi,aH (by rw[h.1];exact hi)];rfl
theorem Clone_o{w:World}{v:Value}(h:eW.R S w v l)(hl:l.length<=1099511627776):CR prog 108 #[v] w (λv' w'=>P0 108 w.heap.size w' v' l):=by
 have hdl:dig l:=K7 h;refine enter func108 O ntmps108 O (.sr (.an O O ?_));obtain⟨es,he,a,c,rfl,hc,hm,hlen,hcell⟩:=h;have hes:=BX9 he;subst hes;refine .seq (.sr (.mv O O (.eqNil E5 O O O (.nil ?_))))
 cases a with
 | none =>
  refine .condT O (.sr (.an O O (.ret ?_)));have:l=[]:=by
   cases l with
   | nil=>rfl
   | cons x l=>obtain⟨ad,h,_⟩:=hcell (by simp);cases h
  subst this;exact .p1 _ results108 O ⟨.refl _,⟨rfl,.inl ⟨rfl,rfl⟩⟩,by simp[dig]⟩
 | some ad =>
  refine .condF O (.skip (.sr (.bsl _ O O CA3 λw1 b1 n1=>?_)));obtain⟨e1,k1,hb1,hs1⟩:=n1;have hcell1:∀ j u,(cellsOf (l.map wv))[j]?=some u->w1.cell? (ad.add j)=some u:=by
   intro j u hu;rcases aU l.length with h0 | h0
   ·rw[h0,eK] at hlen;have:cellsOf (l.map wv)=[]:=List.length_eq_zero_iff.1 hlen;rw[this] at hu;simp at hu
   ·obtain⟨ad',h1,_,h2⟩:=hcell h0
    cases h1;have:=(h2 j u hu).1;have hlt:=Al8 this;exact (Ab8 (p:=ad.add j) (e1.block _ hlt)).trans this
  have hown:w1.ownsRow w.heap.size 108 1 (.slice (some ⟨b1,0,none⟩) 0 0) 0 []:=⟨rfl,.inr ⟨b1,0,#[],rfl,by omega,k1,aA _,aC _,rfl,rfl⟩⟩;rw[K9 wv (λ_=>rfl)] at hcell1 hlen;have hon:∀ u∈l.map wv,H3 u=true:=by intro u hu;obtain⟨x,_,rfl⟩:=List.mem_map.1 hu;rfl
  refine .mv O O (.gv O O (BB1 (l.map wv) E5 N9 O (by decide) O O hown hlen hcell1 hon (by omega) (by omega) (by omega)) ?_);rintro v2 w2 ⟨ho,hg⟩;refine .an O O (.ret ?_);have hx:Ext w w2:=Below.grown e1 hg e1.size (λk hk=>by simp[Value.ownBlock] at hk;omega);simp only[gK,aD] at ho;exact .p1 _ results108 O ⟨hx,ho,hdl⟩
theorem prt_Z1{x y:Value}(hy:H3 y=true):Bh8 prog 37 #[x,y] 1=some y:=by kernel_rfl
theorem AR1:Ent prog 212:=en func212
theorem AP4{w:World}(up:Up S w)(upo:Up T0 w)(ha:eW.R S w va (wds m))(hb:eW.R S w vb (wds n))(hla:(wds m).length<=1099511627776)(hn:0<n) :
  CR prog 212 #[va,vb] w (Two (Wv T0 (m / n) ((wds m).length+1)) (Wv S (m % n) ((wds m).length+1))):=by
 refine enter func212 O ntmps212 O (.sr (.asg O O (.an O O (.seq (.block (.sr (.mv O O (.mv O O (.call _ O AG4 O (AF2 ha hb) λv1 w1 e1 h1=>?_)))))))));subst h1;have ha1:=ha.ext e1;have hb1:=hb.ext e1;have up1:=up.ext e1.size;have upo1:=upo.ext e1.size;by_cases hlt:m<n
 ·refine .lssT O O O (Al7.2 hlt) (.an O O (.condT O (.sr (.mv O O (.call _ O Aw9 O (BS4 up1 ha1 hla) λv2 w2 e2 h2=>.asg O O (.an O O (.ret (.plain [_,_] results212 ⟨rfl,rfl,trivial⟩ ⟨e1.trans e2,_,_,rfl,⟨[],RL.nil,?_,by simp⟩,⟨_,h2,?_,by omega⟩⟩))))))))
  ·rw[eB hlt];rfl
  ·rw[E9,bJ hlt]
 have hle:(wds n).length<=(wds m).length:=AP6 (by omega);have hn1:1<=(wds n).length:=by have:=AD1 (n:=n) (by omega);have:=List.length_pos_iff.2 this;omega
 refine .lssF O O O (λh=>hlt (Al7.1 h)) (.an O O (.condF O (.sr (.mv O O (.lenR E5 O O ha1 ?_)))));by_cases h2:(wds m).length<=2
 ·refine .leqT O O O (by omega) (.an O O (.condT O (.sr (.mv O O ?_))));have hm64:m<18446744073709551616:=by have h3:=AV6 m;have h4:4294967296 ^ (wds m).length<=4294967296 ^ 2:=aQ (by omega) h2;omega
  refine .call _ O V3 O (T6 ha1 h2) λv2 w2 e2 h2'=>?_;subst h2';refine .mv O O (.call _ O V3 O (T6 (hb1.ext e2) (by omega)) λv3 w3 e3 h3=>?_);subst h3;rw[E9,E9];refine .asg O O (.an O O (.seq ?_));have x3:=(e1.trans e2).trans e3;have up3:=up.ext x3.size;have upo3:=upo.ext x3.size;have hq:m / n<18446744073709551616:=bI (dV _ _) hm64;have hr:m % n<18446744073709551616:=bI (Nat.mod_le _ _) hm64;have hfd:∀ {S:Nat->Prop} {σ:Env} {W:World} {d:Option Tmp} {ty:TypeId} {pos:String} {af:Array Edge} {x:Operand} {u:Value} {k:Nat},ev σ x=some u->eZ.R S W u (zc (sg false k))->Gv prog ⟨d,.field 37 x 1,ty,pos,af,none⟩ σ W λv' w'=>Ext W w'/\Sp.ok (.inr (eW.at S (wds k))) v' w':=by
   intro S σ W d ty pos af x u k hx hz;obtain⟨s,rfl,hs⟩:=hz;have hk:(zc (sg false k)).w=wds k:=by simp[zc,sg]
   rw[hk] at hs;exact K5 (v_fd hx (prt_Z1 (eW.shp hs))) hs (G7 _ _ _)
  refine .par follows 11 [.inl _,.inl _,.inl (.int .u64 ((m / n:Nat):Int)),.inr (eZ.at T0 (zc (sg false (m / n)))),.inr (eW.at T0 (wds (m / n))),.inl _,.inl _,.inl (.int .u64 ((m % n:Nat):Int)),.inr (eZ.at S (zc (sg false (m % n)))),.inr (eW.at S (wds (m % n))),.inr (eW.at T0 (wds (m / n)))] [[],[],[(24,0),(25,1)],[(26,2)],[(27,3)],[],[],[(29,5),(30,6)],[(31,7)],[(32,8)],[(28,4)]] (by kernel_rfl) ⟨mvo O,mvo O,λw e=>((Ay1 O O (by omega)).eq (by rw[AB0,AC9,bJ hq])).ob,λw e=>(A4 _ S2 O (R9 (upo3.ext e.size) hq)).oa,λw e x3 hx3=>hfd O hx3,mvo O,mvo O,λw e=>((Ay0 O O (by omega)).eq (by rw[AA9])).ob,λw e=>(A4 _ S2 O (R9 (up3.ext e.size) hr)).oa,λw e x8 hx8=>hfd O hx8,λw e x4 hx4=>Bi2 O hx4 (G7 _ _ _),trivial⟩ ?_;intro w4 e4 _ _ _ _ _ _ u9 hu9 u10 hu10;refine .an O O (.ret ?_);exact .p2 results212 O O ⟨x3.trans e4,_,_,rfl,⟨_,hu10,E9 _,iC (AP6 (dV _ _))⟩,⟨_,hu9,E9 _,iC (AP6 (Nat.mod_le _ _))⟩⟩
 refine .leqF O O O (by omega) (.an O O (.condF O (.sr (.mv O O (.lenR E5 O O hb1 ?_)))));by_cases h3:(wds n).length=1
 ·refine .eqlT O O O (by omega) (.an O O (.condT O (.sr (.mv O O (.call _ O Aw9 O (Clone_o ha1 hla) λv2 w2 e2 o2=>.an O O ?_)))));obtain⟨g,cap,rfl,hc1,hc2,hg,ob⟩:=o2.ob (by intro h;rw[h] at h2;simp at h2);have hn32:n<4294967296:=by have h4:=AV6 n;rw[h3] at h4;omega
  have hwn:wds n=[n]:=An6 hn32 (by omega);refine .sr (.mv O O (.mv O O ?_));have hb2:=hb1.ext e2;rw[hwn] at hb2;refine .ix E5 C1 O O hb2 O (by decide) (y:=n) O λp hp=>.ldE C1 O O hp λe he=>?_;obtain⟨rfl,_⟩:=he;refine .cvt G4 G3 O O ?_;rw[wU (n:=(n:Int)) (by omega)];refine .callG _ O Ap7 O (An2 ob hn hn32 hla) ?_;rintro _ w3 ⟨rfl,u3,V,obV,hlV,hvV⟩;rw[E9] at hvV ⊢;refine .an O O (.sr (.mv O O (.mv O O (.cvt G3 G4 O O ?_))));have hmn:m % n<4294967296:=eX (aY _ hn) hn32;rw[Q5,bJ hmn];refine .bsl _ O O AT5 λw4 b4 n4=>.asg O O (.an O O (.ret ?_));obtain⟨e4,k4,hb4,hs4⟩:=n4;have hx3:Ext w w3:=u3.below (e1.trans e2) (by have:=e1.size;omega);have hR:=(obV.ext e4).toR0 (S:=T0) (c:=cap) (upo g (by have:=e1.size;omega)) (by omega) (by omega);rw[hlV] at hR;have hR2:eW.R S w4 (.slice (some ⟨b4,0,none⟩) 1 1) [m % n]:=BC0 (l:=[m % n]) (t:=108) k4 (up b4 (by have:=hx3.size;omega)) (by simp[dig,hmn]) (aA 1) (by simp);exact .p2 results212 O O ⟨hx3.trans e4,_,_,rfl,⟨V,hR,hvV,by omega⟩,⟨_,hR2,by simp[val],by simp⟩⟩
 refine .eqlF O O O (by omega) (.an O O (.condF O (.skip (.sr (.mv O O (.mv O O ?_))))));have htop:0<(wds n).getD ((wds n).length-2+1) 0:=by
  have hc:=can_wds n;have h5:(wds n)[(wds n).length-1]?=some ((wds n).getD ((wds n).length-2+1) 0):=by rw[show (wds n).length-2+1=(wds n).length-1 by omega];exact F3 (by omega)
  have:=hc _ (by rw[List.getLast?_eq_getElem?];exact h5);omega
 refine .call _ O Au7 O (At1 (m:=(wds n).length-2) up1 upo1 ha1 hb1 hla (by omega) hle htop) λv2 w2 e2 h2=>?_;obtain⟨q,r,rfl,hq,hr⟩:=h2;rw[E9,E9] at hq hr;refine .ext O O O (.ext O O O (.asg O O (.an O O (.ret ?_))));exact .p2 results212 O O ⟨e1.trans e2,_,_,rfl,hq,hr⟩
theorem An5{w:World}(up:Up S w)(ha:eW.R S w va (wds m))(hb:eW.R S w vb (wds n))(hla:(wds m).length<=1099511627776)(hn:0<n) :
  CR prog 212 #[va,vb] w (Two (Wv S (m / n) ((wds m).length+1)) (Wv S (m % n) ((wds m).length+1))):=AP4 up up ha hb hla hn
theorem H5{P:Program}{w:World}{t t':TypeId}{b:Nat}{E:ER α}{v:Value}{z:α}(ht:F6 P t=some (true,n))(hA:E.isA=true)(hn:E.sz=n)(hb:Blk w b t' v.cells)(hz:E.R S w v z):(loadVar t ⟨b,0,none⟩).run P w=.ok v w:=by have hsz:=E.csz hz;have:=V5 (P:=P) (w:=w) (p:=⟨b,0,none⟩) (cs:=v.cells.toList) (t:=t) (by rw[ht];simp;omega) (λj u hu=>by rw[S8,hb.cell];simpa using hu);rw[this];have hv:=G8 hA hz;simp only[fM];rw[<-hv]
theorem As1{a b q r:Int}(hb:b≠0)(h:a=b*q+r)(h0:0<=r)(h1:r<b.natAbs):a / b=q/\a % b=r:=by
 subst h;have hz:r / b=0:=by
  rcases gO hb with h | h
  ·have:r / b = -(r / -b):=by rw[Int.ediv_neg,Int.neg_neg]
   rw[this,Int.ediv_eq_zero_of_lt h0 (by omega)];rfl
  ·exact Int.ediv_eq_zero_of_lt h0 (by omega)
 have hm:r % b=r:=by have:=Int.emod_def r b;rw[hz] at this;omega
 constructor
 ·rw[Int.add_comm,Int.add_mul_ediv_left _ _ hb,hz];omega
 ·rw[Int.add_comm,Int.add_mul_emod_self_left,hm]
theorem AT2{p q:Bool}{A:Nat}(hB:0<B)(h:p=false\/A % B=0):sg p A / sg q B=sg (p != q) (A / B)/\sg p A % sg q B=sg false (A % B):=by
 have hd:=bE A B;have hm:=aY A hB;generalize A / B=d at *;generalize A % B=m at *;subst hd;refine As1 (by cases q<;>simp[sg]<;>omega) ?_ (eS m) (by rw[BJ9];show (m:Int)<(B:Int);omega)
 cases p with
 | false=>cases q<;>simp[sg,cQ,fA,fC]
 | true =>
  have hm0:m=0:=h.resolve_left (by simp);subst hm0
  cases q<;>simp[sg,cQ,fA,fC]
theorem BC3{q:Bool}{A:Nat}(hB:0<B)(h:0<A % B):sg true A / sg q B=sg (true != q) (A / B+1)/\sg true A % sg q B=sg false (B-A % B):=by
 have hd:=bE A B;have hm:=aY A hB;generalize A / B=d at *;generalize A % B=m at *;subst hd;refine As1 (by cases q<;>simp[sg]<;>omega) ?_ (eS _) (by rw[BJ9];show ((B-m:Nat):Int)<(B:Int);omega)
 have e:((B:Int)*((d:Int)+1))=(B:Int)*d+B:=by rw[Int.mul_add,Int.mul_one]
 have e2:((B-m:Nat):Int)=(B:Int)-m:=by omega
 cases q<;>simp[sg,cQ,fA,fC,e,e2]<;>omega
theorem AY8:Ent prog 155:=en func155
theorem AV5{w:World}{x y:ZV}(up:Up S w)(upo:Up T0 w)(ha:eZ.R S w va x)(hb:eZ.R S w vb y)(hla:x.w.length<=1000000000000)(hlb:y.w.length<=1000000000000)(hy:A6 y≠0) :
  CR prog 155 #[va,vb] w (Bl0 (eZ.at T0 (zc (A6 x / A6 y))) (eZ.at S (zc (A6 x % A6 y))) (Is (iW 0))):=by
 obtain⟨sa,rfl,hsa⟩:=ha;obtain⟨sb,rfl,hsb⟩:=hb;have hda:dig x.w:=K7 hsa;have hdb:dig y.w:=K7 hsb;have hla':=aG (J1 hda) hla;have hlb':=aG (J1 hdb) hlb;have hy0:0<val y.w:=by
  rcases aU (val y.w) with h | h
  ·exact absurd (by unfold A6 sg;rw[h];simp) hy
  ·exact h
 refine enter func155 O ntmps155 O (.sr (.box O O λw1 b1 n1=>.box O O λw2 b2 n2=>.alloc O F4 λw3 b3 n3=>.alloc O F4 λw4 b4 n4=>.an O O ?_));obtain⟨e1,k1,hb1,hs1⟩:=n1;obtain⟨e2,k2,hb2,hs2⟩:=n2;obtain⟨e3,k3,hb3,hs3⟩:=n3;obtain⟨e4,k4,hb4,hs4⟩:=n4;have x4:=((e1.trans e2).trans e3).trans e4;have k1:=((k1.ext e2).ext e3).ext e4;have k2:=(k2.ext e3).ext e4;have k3:=k3.ext e4;have hS3:¬ Sx T0 w.heap.size w4.heap.size b3:=Sx.no (by omega) (by omega);have hU4:¬ Sx T0 w.heap.size w4.heap.size b4:=Sx.no (by omega) (by omega);have upo4:Up (Sx T0 w.heap.size w4.heap.size) w4:=Sx.up upo (aA _) x4.size;have houo:∀ {W:World} {v:Value} {z:ZV},eZ.R (Sx T0 w.heap.size w4.heap.size) W v z->eZ.R T0 W v z:=λh=>h.out;have hST3:¬ Sx S w.heap.size w4.heap.size b3:=Sx.no (by omega) (by omega);have hS4:¬ Sx S w.heap.size w4.heap.size b4:=Sx.no (by omega) (by omega);have up4:Up (Sx S w.heap.size w4.heap.size) w4:=Sx.up up (aA _) x4.size;have hsa4:=(hsa.par w4.heap.size).ext x4;have hsb4:=(hsb.par w4.heap.size).ext x4;have hout:∀ {W:World} {v:Value} {z:ZV},eZ.R (Sx S w.heap.size w4.heap.size) W v z->eZ.R S W v z:=λh=>h.out;generalize hT:Sx S w.heap.size w4.heap.size=T at *;generalize hU:Sx T0 w.heap.size w4.heap.size=U at *;refine .seq ?_;refine .par follows 7 [.inl _,.inl _,.inr (eW.at T (wds (val x.w))),.inl _,.inl _,.inr (eW.at T (wds (val y.w))),.inr (eW.at T (wds (val x.w)))] [[],[(11,0)],[(12,1)],[],[(14,3)],[(15,4)],[(13,2)]] (by kernel_rfl) ⟨fao G9 O,λw e=>(E2 L2 O (k1.ext e) O).ob,λw e=>(A4 _ G1 O (by rw[<-L1 hda];exact G0 (hsa4.ext e))).oa,fao G9 O,λw e=>(E2 L2 O (k2.ext e) O).ob,λw e=>(A4 _ G1 O (by rw[<-L1 hdb];exact G0 (hsb4.ext e))).oa,λw e x2 hx2=>Bi2 O hx2 (G7 _ _ _),trivial⟩ ?_;intro w5 e5 u2 hu2 u5 hu5 u6 hu6;refine .an O O ?_;have x5:=x4.trans e5;have up5:=up4.ext e5.size;have upo5:=upo4.ext e5.size;have hne:(wds (val y.w)).length≠0:=by have:=List.length_pos_iff.2 (AD1 (n:=val y.w) (by omega));omega
 refine .seq (.sr (.mv O O (.lenR E5 O O hu5 (.eqlF O O O (by omega) (.nil (.condF O (.skip ?_)))))));refine .sr (.mv O O (.mv O O ?_));refine .call _ O AR1 O (AP4 up5 upo5 hu6 hu5 (by omega) hy0) λv6 w6 e6 h6=>?_;obtain⟨vq,vr,rfl,⟨q,hq,hqv,hql⟩,⟨r,hr,hrv,hrl⟩⟩:=h6;refine .mv O O (.ext O O O (.ext O O O (.asg O O (.an O O ?_))));have hrd:dig r:=K7 hr;refine .sr (.mv O O ?_);refine .call _ O G1 O (G0 hr) λvt w7 e7 ht=>.an O O ?_;rw[L1 hrd,hrv] at ht;have e67:=e6.trans e7;have x7:=x5.trans e67;have up7:=up5.ext e67.size;have upo7:=upo5.ext e67.size;have hq7:=hq.ext e7;have k1:=(k1.ext e5).ext e67;have k2:=(k2.ext e5).ext e67;have k3:=(k3.ext e5).ext e67;have k4:=(k4.ext e5).ext e67;have hu57:=hu5.ext e67;have hl7:=Af0 ht;have hrl':(wds (val x.w % val y.w)).length<=(wds (val y.w)).length:=AP6 (cH (aY _ hy0));refine .mid (α:=Value×Value) (λz=>[(2,pW b1),(3,pW b2),(4,pW b3),(5,pW b4),(9,z.1),(10,z.2)])
  (λz W=>Ext w7 W/\∃ q r,eW.R U W z.1 q/\eW.R T W z.2 r/\A6 x / A6 y=sg (x.neg != y.neg) (val q)/\A6 x % A6 y=sg false (val r)) ?_ ?_
 ·refine .sr (.fa J5 O O (.ld D6 O O k1 O (.mv O O ?_)))
  cases hn:x.neg with
  | false =>
   refine .gs O O O O O (.gs O O O O O (.gs O O O O O (.pick O O O (.nil (.condF O (.skip ?_))))));obtain⟨d1,d2⟩:=AT2 (p:=false) (q:=y.neg) (A:=val x.w) hy0 (.inl rfl);refine⟨rfl,(vq,vt),lkA rfl,.refl _,q,_,hq7,ht,?_,?_⟩
   ·unfold A6;rw[hn,hqv];exact d1
   ·unfold A6;rw[hn,E9];exact d2
  | true =>
   refine .gr O O O O (.mv O O (.gr O O O O (.lenR E5 O O ht (.gr O O O O ?_))));rcases aU (val x.w % val y.w) with h0 | h0
   ·have h0':(wds (val x.w % val y.w)).length=0:=by rw[h0,M7];rfl
    refine .gtrF O O O (by omega) (.pick O O O (.nil (.condF O (.skip ?_))));obtain⟨d1,d2⟩:=AT2 (p:=true) (q:=y.neg) (A:=val x.w) hy0 (.inr h0);refine⟨rfl,(vq,vt),lkA rfl,.refl _,q,_,hq7,ht,?_,?_⟩
    ·unfold A6;rw[hn,hqv];exact d1
    ·unfold A6;rw[hn,E9];exact d2
   ·have h0':=List.length_pos_iff.2 (AD1 (n:=val x.w % val y.w) (by omega));refine .gtrT O O O (by omega) (.pick O O O (.nil (.condT O (.sr (.mv O O ?_)))));refine .bsl _ O O AT5 λw8 b8 n8=>?_;obtain⟨e8,k8,hb8,hs8⟩:=n8;have h1:eW.R U w8 (.slice (some ⟨b8,0,none⟩) 1 1) [1]:=BC0 (l:=[1]) (t:=108) k8 (upo7 b8 (by omega)) (by simp[dig]) (aA 1) (by simp);refine .call _ O AR2 O (AP5 (upo7.ext e8.size) (hq7.ext e8) h1 (by omega) (by simp)) λv9 w9 e9 h9=>.an O O (.region (.mv O O (.mv O O ?_)));obtain⟨q',hq',hqv',hql'⟩:=h9;have e79:=e8.trans e9;refine .call _ O AD9 O (AD0 (up7.ext e79.size) (hu57.ext e79) (ht.ext e79) (by omega) (by omega) (by rw[E9,E9];exact cH (aY _ hy0))) λv10 w10 e10 h10=>.an O O ?_;obtain⟨r',hr',hrv',hrl''⟩:=h10;obtain⟨d1,d2⟩:=BC3 (q:=y.neg) (A:=val x.w) hy0 h0;refine⟨rfl,(v9,v10),lkA rfl,e79.trans e10,q',r',hq'.ext e10,hr',?_,?_⟩
    ·unfold A6;rw[hn,hqv',hqv];simp only[val];rw[dW,bP];exact d1
    ·unfold A6;rw[hn,hrv',E9,E9];exact d2
 ·rintro⟨vq,vr⟩ W ⟨e8,q,r,hq,hr,hdq,hdr⟩;have k1:=k1.ext e8;have k2:=k2.ext e8;have up8:=up7.ext e8.size;have upo8:=upo7.ext e8.size;refine .sr (.fa J5 O O (.ld D6 O O k1 O (.fa J5 O O (.ld D6 O O k2 O (.neqB AL7 O O O (.mv O O (.call _ O M5 O (M2 upo8 hq) λv9 w9 e9 h9=>.mv O O (.call _ O M5 O (M2 (up8.ext e9.size) (hr.ext e9)) λv10 w10 e10 h10=>?_))))))));have e910:=e9.trans e10;have k3:=(k3.ext e8).ext e910;have k4:=(k4.ext e8).ext e910;refine .storeA B6 O O k3 O O (h9.ext e10) hS3 λw11 k11 u11 h11=>?_;have hne34:b4≠b3:=by omega
  refine .storeA B6 O O (k4.upd u11 hne34) O O (h10.upd u11 hST3) hS4 λw12 k12 u12 h12=>.an O O (.ret ?_);have h11':=h11.upd u12 hU4;have k11':=k11.upd u12 (Ne.symm hne34);rw[hdq,hdr];refine .plain [_,_,_] results155 ⟨⟨_,rfl,H5 (E:=eZ) B6 O O k11' h11'⟩,⟨_,rfl,H5 (E:=eZ) B6 O O k12 h12⟩,rfl,trivial⟩ ⟨?_,_,_,_,rfl,houo h11',hout h12,rfl⟩;exact u12.below (u11.below (((x7.trans e8).trans e910)) (by omega)) (by omega)
theorem BY7:Ent prog 154:=en func154
theorem BS7{w:World}{x y:ZV}(up:Up S w)(ha:eZ.R S w va x)(hb:eZ.R S w vb y)(hla:x.w.length<=1000000000000)(hlb:y.w.length<=1000000000000) :
  CR prog 154 #[va,vb] w (eZ.at S (zc (Nat.gcd (val x.w) (val y.w):Nat))):=by
 obtain⟨sa,rfl,hsa⟩:=ha;obtain⟨sb,rfl,hsb⟩:=hb;have hda:dig x.w:=K7 hsa;have hdb:dig y.w:=K7 hsb;have hla':=aG (J1 hda) hla;have hlb':=aG (J1 hdb) hlb;refine enter func154 O ntmps154 O ?_;refine .sr (.box O O λw1 b1 n1=>.box O O λw2 b2 n2=>.alloc O F4 λw3 b3 n3=>.nil ?_);obtain⟨e1,k1,hb1,hs1⟩:=n1;obtain⟨e2,k2,hb2,hs2⟩:=n2;obtain⟨e3,k3,hb3,hs3⟩:=n3;have x3:=(e1.trans e2).trans e3;have k1:=(k1.ext e2).ext e3;have k2:=k2.ext e3;have hS:¬ Sx S w.heap.size w3.heap.size b3:=Sx.no (by omega) (by omega);have up3:Up (Sx S w.heap.size w3.heap.size) w3:=Sx.up up (aA _) x3.size;have hsa3:=(hsa.par w3.heap.size).ext x3;have hsb3:=(hsb.par w3.heap.size).ext x3;have hout:∀ {W:World} {v:Value} {z:ZV},eZ.R (Sx S w.heap.size w3.heap.size) W v z->eZ.R S W v z:=λh=>h.out;generalize hT:Sx S w.heap.size w3.heap.size=T at *;refine .seq ?_;refine .par follows 7 [.inl _,.inl _,.inr (eW.at T (wds (val x.w))),.inl _,.inl _,.inr (eW.at T (wds (val y.w))),.inr (eW.at T (wds (val x.w)))] [[],[(11,0)],[(12,1)],[],[(14,3)],[(15,4)],[(13,2)]] (by kernel_rfl) ⟨fao G9 O,λw e=>(E2 L2 O (k1.ext e) O).ob,λw e=>(A4 _ G1 O (by rw[<-L1 hda];exact G0 (hsa3.ext e))).oa,fao G9 O,λw e=>(E2 L2 O (k2.ext e) O).ob,λw e=>(A4 _ G1 O (by rw[<-L1 hdb];exact G0 (hsb3.ext e))).oa,λw e x2 hx2=>Bi2 O hx2 (G7 _ _ _),trivial⟩ ?_;intro w4 e4 u2 hu2 u5 hu5 u6 hu6;refine .an O O ?_;have x4:=x3.trans e4;have up4:=up3.ext e4.size;have k4:=k3.ext e4;generalize hG:Nat.gcd (val x.w) (val y.w)=G at *;refine .mid (α:=Value×Value) (λz=>[(4,pW b3),(5,z.1),(6,z.2)]) (λz W=>Ext w4 W/\∃ m n,eW.R T W z.1 (wds m)/\eW.R T W z.2 (wds n)/\Nat.gcd m n=G/\(wds m).length<=1000000000000/\(n=0\/((wds m).length<=2/\(wds n).length<=2))) ?_ ?_
 ·refine .block (.loop (α:=Nat×Nat×Value×Value) (λz=>[(4,pW b3),(5,z.2.2.1),(6,z.2.2.2)]) (λz W=>Ext w4 W/\eW.R T W z.2.2.1 (wds z.1)/\eW.R T W z.2.2.2 (wds z.2.1)/\Nat.gcd z.1 z.2.1=G/\(wds z.1).length<=1000000000000/\(wds z.2.1).length<=1000000000000) (λz=>z.2.1) (val x.w,val y.w,u6,u5) ?_ ?_ ?_)
  ·exact lkA rfl
  ·exact⟨.refl _,hu6,hu5,hG,hla',hlb'⟩
  ·rintro⟨m,n,v5,v6⟩ W ⟨hW,h5,h6,hg,hl5,hl6⟩;replace h5:eW.R T W v5 (wds m):=h5;replace h6:eW.R T W v6 (wds n):=h6;replace hg:Nat.gcd m n=G:=hg;replace hl5:(wds m).length<=1000000000000:=hl5;replace hl6:(wds n).length<=1000000000000:=hl6;refine .mid (α:=Unit) (λ_=>[(4,pW b3),(5,v5),(6,v6)]) (λ_ W'=>W'=W/\0<n) ?_ ?_
   ·refine .sr (.mv O O (.lenR E5 O O h6 ?_));rcases aU n with hn | hn
    ·subst hn;rw[M7];refine .gtrF O O O (by decide) (.mv O O ?_);refine .gs O O O O O (.gs O O O O O (.gs O O O O O (.gs O O O O O ?_)));refine .gu O O O O (.gu O O O O (.gu O O O O (.gs O O O O O (.pick O O O (.nil (.condF O (.exit ?_)))))));exact⟨rfl,(v5,v6),lkA rfl,hW,m,0,h5,h6,hg,hl5,.inl rfl⟩
    ·have hn0:=List.length_pos_iff.2 (AD1 (n:=n) (by omega));refine .gtrT O O O (by omega) (.mv O O (.gr O O O O (.mv O O (.gr O O O O (.lenR E5 O O h5 (.gr O O O O ?_))))));by_cases hm2:2<(wds m).length
     ·refine .gtrT O O O (by omega) (.gr O O O O (.mv O O (.gs O O O O O (.gs O O O O O (.gs O O O O O (.gr O O O O (.pick O O O (.pick O O O (.nil (.condT O (.skip ?_)))))))))));exact⟨rfl,(),lkA rfl,rfl,hn⟩
     ·refine .gtrF O O O (by omega) (.gr O O O O (.mv O O (.gr O O O O (.mv O O (.gr O O O O (.lenR E5 O O h6 (.gr O O O O ?_)))))));by_cases hn2:2<(wds n).length
      ·refine .gtrT O O O (by omega) (.gr O O O O (.pick O O O (.pick O O O (.nil (.condT O (.skip ?_))))));exact⟨rfl,(),lkA rfl,rfl,hn⟩
      ·refine .gtrF O O O (by omega) (.gr O O O O (.pick O O O (.pick O O O (.nil (.condF O (.exit ?_))))));exact⟨rfl,(v5,v6),lkA rfl,hW,m,n,h5,h6,hg,hl5,.inr ⟨by omega,by omega⟩⟩
   ·rintro _ W' ⟨rfl,hn⟩;refine .block (.sr (.mv O O (.mv O O ?_)));refine .call _ O AR1 O (An5 (up4.ext hW.size) h5 h6 (by omega) hn) λv7 w7 e7 h7=>?_;obtain⟨vq,vr,rfl,_,⟨r,hr,hrv,hrl⟩⟩:=h7;refine .mv O O (.ext O O O (.ext O O O (.asg O O (.an O O (.region (.mv O O (.mv O O ?_)))))));have hrd:dig r:=K7 hr;refine .call _ O G1 O (G0 hr) λvt w8 e8 ht=>.asg O O (.an O O ?_);rw[L1 hrd,hrv] at ht;have hlt:=aY m hn;refine⟨rfl,(n,m % n,v6,vt),lkA rfl,⟨(hW.trans e7).trans e8,(h6.ext e7).ext e8,ht,?_,hl6,?_⟩,hlt⟩
    ·show Nat.gcd n (m % n)=G;rw[<-hg,dL m n,Nat.gcd_rec n m,dL]
    ·exact aG (AP6 (cH hlt)) hl6
 ·rintro⟨v5,v6⟩ W ⟨hW,m,n,h5,h6,hg,hl5,hend⟩;replace h5:eW.R T W v5 (wds m):=h5;replace h6:eW.R T W v6 (wds n):=h6;have upW:=up4.ext hW.size;have xW:=x4.trans hW;have kW:=k4.ext hW;refine .seq (.sr (.mv O O (.lenR E5 O O h6 ?_)));rcases aU n with hn | hn
  ·subst hn;rw[M7];refine .eqlT O O O O (.nil (.condT O (.sr (.mv O O ?_))));refine .call _ O Aw9 O (BS4 upW h5 (by omega)) λv7 w7 e7 h7=>?_;refine .call _ O M5 O (M2 (upW.ext e7.size) h7) λv8 w8 e8 h8=>?_;refine .storeA B6 O O ((kW.ext e7).ext e8) O O h8 hS λw9 k9 u9 h9=>.nil (.ret ?_);refine .cell results154 O B6 O O k9 h9 ⟨u9.below ((xW.trans e7).trans e8) (by omega),?_⟩;rw[E9] at h9;rw[<-hg,iD];exact hout h9
  ·have hn0:=List.length_pos_iff.2 (AD1 (n:=n) (by omega));obtain⟨hm2,hn2⟩:=hend.resolve_left (by omega);have hm64:m<18446744073709551616:=by have h3:=AV6 m;have h4:4294967296 ^ (wds m).length<=4294967296 ^ 2:=aQ (by omega) hm2;omega
   have hn64:n<18446744073709551616:=by have h3:=AV6 n;have h4:4294967296 ^ (wds n).length<=4294967296 ^ 2:=aQ (by omega) hn2;omega
   refine .eqlF O O O (by omega) (.nil (.condF O (.skip (.sr (.mv O O ?_)))));refine .call _ O V3 O (T6 h5 hm2) λv7 w7 e7 h7=>?_;subst h7;refine .mv O O (.call _ O V3 O (T6 (h6.ext e7) hn2) λv8 w8 e8 h8=>?_);subst h8;rw[E9,E9];refine .asg O O (.an O O ?_);have x8:=(xW.trans e7).trans e8;have up8:=(upW.ext e7.size).ext e8.size;have k8:=(kW.ext e7).ext e8;refine .mid (α:=Unit) (λ_=>[(4,pW b3),(9,.int .u64 (G:Nat))]) (λ_ W'=>Ext w8 W'/\G<18446744073709551616) ?_ ?_
   ·refine .block (.loop (α:=Nat×Nat) (λz=>[(4,pW b3),(9,.int .u64 (z.1:Nat)),(10,.int .u64 (z.2:Nat))]) (λz W'=>Ext w8 W'/\Nat.gcd z.1 z.2=G/\z.1<18446744073709551616/\z.2<18446744073709551616) (λz=>z.2) (m,n) ?_ ?_ ?_)
    ·exact lkA rfl
    ·exact⟨.refl _,hg,hm64,hn64⟩
    ·rintro⟨m,n⟩ W' ⟨hW',hg,hm,hn⟩;replace hg:Nat.gcd m n=G:=hg;replace hm:m<18446744073709551616:=hm;replace hn:n<18446744073709551616:=hn;rcases aU n with h0 | h0
     ·subst h0;refine .seq (.sr (.mv O O (.gtrF O O O (by show ¬ (0:Int)<((0:Nat):Int);omega) (.nil (.condF O (.exit ?_))))));rw[iD] at hg;subst hg;exact⟨rfl,(),lkA rfl,hW',hm⟩
     ·refine .seq (.sr (.mv O O (.gtrT O O O (by show (0:Int)<(n:Int);omega) (.nil (.condT O (.skip (.block ?_)))))));refine .par follows 5 [.inl (.int .u64 (n:Nat)),.inl (.int .u64 (m:Nat)),.inl (.int .u64 (n:Nat)),.inl (.int .u64 ((m % n:Nat):Int)),.inl (.int .u64 (n:Nat))] [[],[],[],[(52,1),(53,2)],[(51,0)]] (by kernel_rfl) ⟨mvo O,mvo O,mvo O,λw e=>((Ay0 O O (by omega)).eq (by rw[AA9])).ob,λw e=>(AR9 O).ob,trivial⟩ ?_;intro w9 e9;refine .an O O ?_;have hlt:=aY m h0;refine⟨rfl,(n,m % n),lkA rfl,⟨hW'.trans e9,?_,hn,eX hlt hn⟩,hlt⟩;show Nat.gcd n (m % n)=G;rw[<-hg,dL m n,Nat.gcd_rec n m,dL]
   ·rintro _ W' ⟨hW',hG64⟩;refine .sr (.mv O O ?_);refine .call _ O S2 O (R9 (neg:=false) (up8.ext hW'.size) hG64) λv9 w9 e9 h9=>?_;refine .storeA B6 O O ((k8.ext hW').ext e9) O O h9 hS λw10 k10 u10 h10=>.nil (.ret ?_);exact .cell results154 O B6 O O k10 h10 ⟨u10.below ((x8.trans hW').trans e9) (by omega),hout h10⟩
section
variable {P:Program} {σ:Env} {w:World} {d:Option Tmp} {ty:TypeId} {pos:String} {af:Array Edge} {g:Option (Nat×Bool)}
def Ae1 (w:World) (r:Nat) (es:Array MapEntry) (c:Nat):Prop:=w.heap[r]?=some (.map es c)
theorem Ae1.ext {w w':World} {r:Nat} {es:Array MapEntry} {c:Nat} (h:Ae1 w r es c) (e:Ext w w'):Ae1 w' r es c:=(e.block r (Array.getElem?_eq_some_iff.1 h).1).trans h
theorem g_mkmap {t:TypeId}:Gv P ⟨d,.makeMap t none,ty,pos,af,g⟩ σ w λv' w'=>v'=.map (some w.heap.size)/\Ext w w'/\Ae1 w' w.heap.size #[] 0:=by refine⟨(by intro _ h;cases h),λρ hρ=>.inl ⟨_,_,?_,rfl,AJ0 w (.map #[] 0),World.alloc_heap_new w _⟩⟩;simp[execOp,Instr.makeMap]
theorem Bj4 {t kt et:TypeId} {m k x:Operand} {r:Nat} {es:Array MapEntry} {c:Nat} {kk:IntKind} {n:Int} {v:Value} (ht:P.underlying t=some (.map kt et)) (hk:P.underlying kt=some (.int kk)) (hm:ev σ m=some (.map (some r))) (hn:ev σ k=some (.int kk n)) (hx:ev σ x=some v)
  (hr:Ae1 w r es c) (hf:Instr.findNow (.int kk) (.int kk n) es.toList 0=some none) :
  Gv P ⟨d,.insert t m k x,ty,pos,af,g⟩ σ w λ_ w'=>w'=w.putObj r (.map (es.push { key:=.int kk n,val:=v,born:=c }) (c+1)):=by
 refine⟨(by intro _ h;cases h),λρ hρ=>.inr (.inl ⟨_,?_,rfl⟩)⟩;have e1:=hρ m _ (by simp[Op.operands]) hm;have e2:=hρ k _ (by simp[Op.operands]) hn;have e3:=hρ x _ (by simp[Op.operands]) hx;have hr':w.heap[r]?=some (.map es c):=hr;have hck:(Instr.checkKey false 10000 kt (.int kk n)).run P w=.ok () w:=by unfold Instr.checkKey;simp[run_underlying hk]
 have hfk:(Instr.findKey kt (.int kk n) es.toList).run P w=.ok none w:=by unfold Instr.findKey;simp[run_underlying hk,hf]
 have hget:(getObj r).run P w=.ok (.map es c) w:=by simp[getObj,Sem.run,hr']
 have hset:∀ o,(setObj r o).run P w=.ok () (w.putObj r o):=λo=>by simp[setObj,Sem.run,hr',World.putObj]
 simp[execOp,e1,e2,e3,Instr.mapUpdate,run_underlying ht,hget,hck,hfk,hset]
theorem Ae1.put {r:Nat} {es es':Array MapEntry} {c c':Nat} (h:Ae1 w r es c):Ae1 (w.putObj r (.map es' c')) r es' c':=World.putObj_heap_same (Array.getElem?_eq_some_iff.1 h).1
theorem Aa7 {B r:Nat} {w0:World} {o:Obj} (h:Below B w0 w) (hr:B<=r):Below B w0 (w.putObj r o):=X8 h hr
theorem v_lkp {t kt et:TypeId} {m k:Operand} {r:Nat} {es:Array MapEntry} {c:Nat} {kk:IntKind} {n:Int} {i:Nat} {v:Value} (ht:P.underlying t=some (.map kt et)) (hk:P.underlying kt=some (.int kk)) (hm:ev σ m=some (.map (some r))) (hn:ev σ k=some (.int kk n))
  (hr:Ae1 w r es c) (hf:Instr.findNow (.int kk) (.int kk n) es.toList 0=some (some (i,v))):Vl P ⟨d,.lookup t m k false,ty,pos,af,g⟩ σ w v:=by
 refine⟨(by intro _ h;cases h),λρ hρ=>?_⟩;have e1:=hρ m _ (by simp[Op.operands]) hm;have e2:=hρ k _ (by simp[Op.operands]) hn;have hr':w.heap[r]?=some (.map es c):=hr;have hck:∀ b,(Instr.checkKey b 10000 kt (.int kk n)).run P w=.ok () w:=by intro b;unfold Instr.checkKey;simp[run_underlying hk]
 have hfk:(Instr.findKey kt (.int kk n) es.toList).run P w=.ok (some (i,v)) w:=by unfold Instr.findKey;simp[run_underlying hk,hf]
 have hget:(getObj r).run P w=.ok (.map es c) w:=by simp[getObj,Sem.run,hr']
 simp[execOp,e1,e2,Instr.lookup,run_underlying ht,hget,hck,hfk]
end
@[reducible] def Zv (S:Nat->Prop) (n:Int) (L:Nat):Value->World->Prop:=λv w=>∃ z,eZ.R S w v z/\A6 z=n/\z.w.length<=L
theorem BU2(S:Nat->Prop)(n:Int)(L:Nat):St (Zv S n L):=λ_ _ _ e ⟨z,h1,h2⟩=>⟨z,h1.ext e,h2⟩
theorem Zv.of{n:Int}{v:Value}{w:World}(h:eZ.R S w v (zc n))(hl:n.natAbs<4294967296 ^ L):Zv S n L v w:=⟨_,h,D0 n,AA4 hl⟩
theorem Zv.lt{n:Int}{v:Value}{w:World}(h:Zv S n L v w):n.natAbs<4294967296 ^ L:=by obtain⟨z,⟨s,_,hs⟩,rfl,hl⟩:=h;exact AE3 (K7 hs) hl
theorem Zv.out{C:Nat}{n:Int}{v:Value}{w:World}(h:Zv (Sx S B C) n L v w):Zv S n L v w:=by obtain⟨z,h1,h2⟩:=h;exact⟨z,h1.out,h2⟩
theorem Zv.ext{n:Int}{v:Value}{w:World}(h:Zv S n L v w)(e:Ext w w'):Zv S n L v w':=BU2 S n L _ _ _ e h
theorem Zv.agg{n:Int}{v:Value}{w:World}(h:Zv S n L v w):∃ b s,v=.agg #[.bool b,s]:=by obtain⟨z,⟨s,rfl,_⟩,_⟩:=h;exact⟨_,_,rfl⟩
def eZn (L:Nat):ER Int where
 sz:=2
 isA:=true
 R:=λS w v n=>Zv S n L v w
 csz:=by rintro S w e x ⟨z,h,_⟩;exact eZ.csz h
 one:=by rintro S w e x ⟨z,h,_⟩;exact eZ.one h
 shp:=by rintro S w e x ⟨z,h,_⟩;exact eZ.shp h
 keep:=λhk ⟨z,h1,h2⟩=>⟨z,eZ.keep hk h1,h2⟩
 mono:=λhk ⟨z,h1,h2⟩=>⟨z,eZ.mono hk h1,h2⟩
theorem AG1{w:World}{v:Value}{q:QV}(h:eQ.R S w v q):∃ s t,v=.agg #[.bool q.num.neg,s,.bool q.den.neg,t]/\eZ.R S w (.agg #[.bool q.num.neg,s]) q.num/\eZ.R S w (.agg #[.bool q.den.neg,t]) q.den:=by obtain⟨s,t,hv,h1,h2⟩:=h;exact⟨s,t,hv,⟨s,rfl,h1⟩,⟨t,rfl,h2⟩⟩
theorem AY3{w:World}{v:Value}{z:ZV}(h:eZ.R S w v z):dig z.w:=by obtain⟨s,_,hs⟩:=h;exact K7 hs
theorem AU2:Ent prog 104:=en func104
theorem AS9{w:World}{v:Value}{q:QV}(up:Up S w)(h:eQ.R S w v q)(hl:qok L q)(hL:1<=L)(hL2:L<=1000000000000):CR prog 104 #[v] w (Two (Zv S (pn q) L) (Zv S (pd q) L)):=by
 obtain⟨s,t,rfl,hn,hd⟩:=AG1 h;have hdn:=AY3 hn;have hdd:=AY3 hd;refine enter func104 O ntmps104 O (.sr (.box O O λw1 b1 n1=>.alloc O F4 λw2 b2 n2=>.alloc O F4 λw3 b3 n3=>.nil ?_));obtain⟨e1,k1,hb1,hs1⟩:=n1;obtain⟨e2,k2,hb2,hs2⟩:=n2;obtain⟨e3,k3,hb3,hs3⟩:=n3;have x3:=(e1.trans e2).trans e3;have k1:=(k1.ext e2).ext e3;have k2:=k2.ext e3;have hS2:¬ Sx S w.heap.size w3.heap.size b2:=Sx.no (by omega) (by omega);have hS3:¬ Sx S w.heap.size w3.heap.size b3:=Sx.no (by omega) (by omega);have up3:Up (Sx S w.heap.size w3.heap.size) w3:=Sx.up up (aA _) x3.size;have hn3:=(hn.par w3.heap.size).ext x3;have hd3:=(hd.par w3.heap.size).ext x3;have hne23:b3≠b2:=by omega
 have hne21:b1≠b2:=by omega
 have hout:∀ {W:World} {v:Value} {n:Int},(eZn L).R (Sx S w.heap.size w3.heap.size) W v n->Zv S n L v W:=λh=>Zv.out h;generalize hT:Sx S w.heap.size w3.heap.size=T at *;have fin2:∀ {σ:Env} {W:World} {u v:Value} {m n:Int},Ext w W->Blk W b2 37 u.cells->Blk W b3 37 v.cells->(eZn L).R T W u m->(eZn L).R T W v n->m=pn q->n=pd q->YtpgkacdihhjknaaGreat.look σ 2=some (pW b2)->YtpgkacdihhjknaaGreat.look σ 3=some (pW b3) ->
   Q3 prog Tryz.f104 24 (λv w'=>Ext w w'/\Two (Zv S (pn q) L) (Zv S (pd q) L) v w') σ [] W:=by
  intro σ W u v m n hx hb hb' hu hv hm hn h2 h3;subst hm;subst hn;exact .plain [_,_] results104 ⟨⟨_,h2,H5 (E:=eZn L) B6 O O hb hu⟩,⟨_,h3,H5 (E:=eZn L) B6 O O hb' hv⟩,trivial⟩ ⟨hx,u,v,rfl,hout hu,hout hv⟩
 refine .seq (.sr (.fa AC1 O O (.ldN [.bool q.den.neg,t] B6 rfl rfl k1 (by intro j u hu;match j with | 0=>exact hu | 1=>exact hu | j+2=>simp at hu) (.call _ rfl AC7 O (AA5 hd3) λv4 w4 e4 h4=>.nil ?_))))
 subst h4;have hn4:=hn3.ext e4;have hd4:=hd3.ext e4;have k1:=k1.ext e4;have k2:=k2.ext e4;have k3:=k3.ext e4;have x4:=x3.trans e4;have up4:=up3.ext e4.size;refine .block (.sr ?_);by_cases h0:A6 q.den=0
 ·refine .eqlT O O O (by rw[h0];rfl) (.an O O (.condT O (.seq ?_)));refine .par follows 3 [.inl _,.inl (.agg #[.bool q.num.neg,s]),.inr (eZ.at T (zc 1))] [[],[(9,0)],[]] (by kernel_rfl) ⟨fao AC2 O,λw e=>(Ai4 [.bool q.num.neg,s] B6 rfl (k1.ext e) (by intro j u hu;match j with | 0=>exact hu | 1=>exact hu | j+2=>simp at hu)).ob,λw e=>(A4 _ H4 O (H1 (n:=1) (up4.ext e.size) (by omega) (by omega))).oa,trivial⟩ ?_
  intro w5 e5 x2 hx2;have hA:(eZn L).R T w5 (.agg #[.bool q.num.neg,s]) (A6 q.num):=⟨q.num,hn4.ext e5,rfl,hl.1⟩;have h1:(eZn L).R T w5 x2 1:=Zv.of hx2 (by have:4294967296 ^ 1<=4294967296 ^ L:=aQ (by omega) hL;show 1<_;omega);refine .storeA (E:=eZn L) B6 O O (k2.ext e5) O O hA hS2 λw6 k6 u6 h6=>(.storeA (E:=eZn L) B6 O O ((k3.ext e5).upd u6 hne23) O O (h1.upd u6 hS2) hS3 λw7 k7 u7 h7=>.nil (.ret (fin2 (u7.below (u6.below (x4.trans e5) (by omega)) (by omega)) (k6.upd u7 (Ne.symm hne23)) k7 (h6.upd u7 hS3) h7 ?_ ?_ O O)))
  ·unfold pn;rw[h0];simp
  ·unfold pd;rw[h0];simp
 ·have hs0:(A6 q.den).sign≠0:=λh=>h0 (Int.sign_eq_zero_iff_zero.1 h);refine .eqlF O O O hs0 (.an O O (.condF O (.sr ?_)));by_cases h1:A6 q.den<0
  ·refine .eqlT O O O (cC h1) (.an O O (.condT O (.seq ?_)));refine .held follows true (λW=>Blk W b1 39 #[.bool q.num.neg,s,.bool q.den.neg,t]) [some _,some (.agg #[.bool q.num.neg,s]),none,some _,some (.agg #[.bool q.den.neg,t]),none,none,none] (by kernel_rfl) ⟨
    λ_ _=>v_fa AC2 rfl,
    λ_ h=>Ai4 [.bool q.num.neg,s] B6 rfl h (by intro j u hu;match j with | 0=>exact hu | 1=>exact hu | j+2=>simp at hu),
    λ_ _=>v_fa AC1 rfl,
    λ_ h=>Ai4 [.bool q.den.neg,t] B6 rfl h (by intro j u hu;match j with | 0=>exact hu | 1=>exact hu | j+2=>simp at hu),trivial⟩ ?_
   intro w5 e5 _;refine .gv (k1.ext e5) O (A4 _ AG5 O (AF3 (up4.ext e5.size) (hn4.ext e5) (aG hl.1 (by omega)))) ?_;rintro vn w6 ⟨e6,hvn⟩;have e56:=e5.trans e6;refine .gv (k1.ext e56) O (A4 _ AG5 O (AF3 (up4.ext e56.size) (hd4.ext e56) (aG hl.2 (by omega)))) ?_;rintro vd w7 ⟨e7,hvd⟩;have e57:=e56.trans e7;have hA:(eZn L).R T w7 vn (-A6 q.num):=Zv.of (hvn.ext e7) (by have:=AE3 hdn hl.1;omega);have hB:(eZn L).R T w7 vd (-A6 q.den):=Zv.of hvd (by have:=AE3 hdd hl.2;omega);have hca:=(eZn L).csz hA;have hcb:=(eZn L).csz hB;refine .gv (k1.ext e57) O (T5 B6 O O (k2.ext e57) hca (aA _) ((eZn L).one hA)) ?_;rintro _ w8 ⟨k8,u8⟩;rw[Aa2 _ _ (by rw[cO,hca];rfl)] at k8;refine .gv ((k1.ext e57).upd u8 hne21) O (T5 B6 O O ((k3.ext e57).upd u8 hne23) hcb (aA _) ((eZn L).one hB)) ?_;rintro _ w9 ⟨k9,u9⟩;rw[Aa2 _ _ (by rw[cO,hcb];rfl)] at k9;refine .nil (.inl O) (.ret ?_);simp only[fM] at k8 k9;refine fin2 (u9.below (u8.below (x4.trans e57) (by omega)) (by omega)) (k8.upd u9 (Ne.symm hne23)) k9 ((hA.upd u8 hS2).upd u9 hS3) ((hB.upd u8 hS2).upd u9 hS3) ?_ ?_ O rfl
   ·unfold pn;rw[if_pos h1]
   ·unfold pd;rw[if_neg h0,if_pos h1]
  ·have hs1:(A6 q.den).sign ≠ -1:=by rw[bZ (by omega)];decide
   refine .eqlF O O O hs1 (.an O O (.condF O (.skip (.seq ?_))));refine .held follows true (λW=>Blk W b1 39 #[.bool q.num.neg,s,.bool q.den.neg,t]) [some _,some (.agg #[.bool q.num.neg,s]),some _,some (.agg #[.bool q.den.neg,t]),none,none] (by kernel_rfl) ⟨
    λ_ _=>v_fa AC2 rfl,
    λ_ h=>Ai4 [.bool q.num.neg,s] B6 rfl h (by intro j u hu;match j with | 0=>exact hu | 1=>exact hu | j+2=>simp at hu),
    λ_ _=>v_fa AC1 rfl,
    λ_ h=>Ai4 [.bool q.den.neg,t] B6 rfl h (by intro j u hu;match j with | 0=>exact hu | 1=>exact hu | j+2=>simp at hu),trivial⟩ ?_
   intro w7 e57 _;have hA:(eZn L).R T w7 (.agg #[.bool q.num.neg,s]) (A6 q.num):=⟨q.num,hn4.ext e57,rfl,hl.1⟩;have hB:(eZn L).R T w7 (.agg #[.bool q.den.neg,t]) (A6 q.den):=⟨q.den,hd4.ext e57,rfl,hl.2⟩;have hca:=(eZn L).csz hA;have hcb:=(eZn L).csz hB;refine .gv (k1.ext e57) O (T5 B6 O O (k2.ext e57) hca (aA _) ((eZn L).one hA)) ?_;rintro _ w8 ⟨k8,u8⟩;rw[Aa2 _ _ (by rw[cO,hca];rfl)] at k8;refine .gv ((k1.ext e57).upd u8 hne21) O (T5 B6 O O ((k3.ext e57).upd u8 hne23) hcb (aA _) ((eZn L).one hB)) ?_;rintro _ w9 ⟨k9,u9⟩;rw[Aa2 _ _ (by rw[cO,hcb];rfl)] at k9;refine .nil (.inl O) (.ret ?_);simp only[fM] at k8 k9;refine fin2 (u9.below (u8.below (x4.trans e57) (by omega)) (by omega)) (k8.upd u9 (Ne.symm hne23)) k9 ((hA.upd u8 hS2).upd u9 hS3) ((hB.upd u8 hS2).upd u9 hS3) ?_ ?_ O rfl
   ·unfold pn;rw[if_neg h1]
   ·unfold pd;rw[if_neg h0,if_neg h1]
def O5 (q:QV):Bool:=decide (-2147483648<A6 q.num/\A6 q.num<2147483648 /\ -2147483648<A6 q.den/\A6 q.den<2147483648)
def N2 (q:QV):Value:=if O5 q then .tuple #[iW (pn q),iW (pd q),.bool true] else .tuple #[iW 0,iW 0,.bool false]
theorem I1:Ent prog 59:=en func59
theorem H8{w:World}{v:Value}{q:QV}(h:eQ.R S w v q):CR prog 59 #[v] w (Is (N2 q)):=by
 obtain⟨s,t,rfl,hn,hd⟩:=AG1 h;refine enter func59 O ntmps59 O (.sr (.box O O λw1 b1 n1=>.asg O O (.asg O O (.an O O ?_))));obtain⟨e1,k1,hb1,hs1⟩:=n1;refine .sr (.fa AC2 O O (.ldN [.bool q.num.neg,s] B6 rfl rfl k1 (by intro j u hu;match j with | 0=>exact hu | 1=>exact hu | j+2=>simp at hu) (.call _ rfl P1 O (O4 (hn.ext e1)) λv2 w2 e2 h2=>?_)))
 subst h2;refine .mv O O (.ext O O O (.ext O O O (.asg O O (.an O O ?_))));have x2:=e1.trans e2;refine .sr (.fa AC1 O O (.ldN [.bool q.den.neg,t] B6 rfl rfl (k1.ext e2) (by intro j u hu;match j with | 0=>exact hu | 1=>exact hu | j+2=>simp at hu) (.call _ rfl P1 O (O4 (hd.ext x2)) λv3 w3 e3 h3=>?_)))
 subst h3;refine .mv O O (.ext O O O (.ext O O O (.asg O O (.an O O ?_))));have x3:=x2.trans e3;have hF:∀ {W:World},O5 q=false->Is (N2 q) (tup [iW 0,iW 0,.bool false]) W:=by intro W h;unfold N2;rw[h];rfl
 refine .seq (.sr (.mv O O (.not_ O O (.mv O O ?_))));by_cases hno:N0 (A6 q.num)=true
 ·rw[hno];refine .gr O O O O (.mv O O (.gr O O O O (.not_ O O (.pick O O O (.mv O O ?_)))));by_cases hdo:N0 (A6 q.den)=true
  ·rw[hdo];have en:AK9 (A6 q.num)=A6 q.num:=by rw[AK9,hno];rfl
   have ed:AK9 (A6 q.den)=A6 q.den:=by rw[AK9,hdo];rfl
   rw[en,ed];refine .gr O O O O (.mv O O (.gr O O O O ?_));by_cases h1:A6 q.num <= -2147483648
   ·refine .leqT O O O h1 (.pick O O O (.mv O O (.gs O O O O O (.gs O O O O O (.pick O O O (.mv O O (.gs O O O O O (.gs O O O O O (.pick O O O (.mv O O (.gs O O O O O (.gs O O O O O (.pick O O O (.nil (.condT O (.sr (.asg O O (.asg O O (.an O O (.ret ?_))))))))))))))))))));exact .plain [_,_,_] results59 ⟨rfl,rfl,rfl,trivial⟩ ⟨x3,hF (by simp[O5];omega)⟩
   refine .leqF O O O h1 (.pick O O O (.mv O O (.gr O O O O (.mv O O (.gr O O O O ?_)))));by_cases h2:2147483648<=A6 q.num
   ·refine .geqT O O O h2 (.pick O O O (.mv O O (.gs O O O O O (.gs O O O O O (.pick O O O (.mv O O (.gs O O O O O (.gs O O O O O (.pick O O O (.nil (.condT O (.sr (.asg O O (.asg O O (.an O O (.ret ?_))))))))))))))));exact .plain [_,_,_] results59 ⟨rfl,rfl,rfl,trivial⟩ ⟨x3,hF (by simp[O5];omega)⟩
   refine .geqF O O O h2 (.pick O O O (.mv O O (.gr O O O O (.mv O O (.gr O O O O ?_)))));by_cases h3:A6 q.den <= -2147483648
   ·refine .leqT O O O h3 (.pick O O O (.mv O O (.gs O O O O O (.gs O O O O O (.pick O O O (.nil (.condT O (.sr (.asg O O (.asg O O (.an O O (.ret ?_))))))))))));exact .plain [_,_,_] results59 ⟨rfl,rfl,rfl,trivial⟩ ⟨x3,hF (by simp[O5];omega)⟩
   refine .leqF O O O h3 (.pick O O O (.mv O O (.gr O O O O (.mv O O (.gr O O O O ?_)))));by_cases h4:2147483648<=A6 q.den
   ·refine .geqT O O O h4 (.pick O O O (.nil (.condT O (.sr (.asg O O (.asg O O (.an O O (.ret ?_))))))));exact .plain [_,_,_] results59 ⟨rfl,rfl,rfl,trivial⟩ ⟨x3,hF (by simp[O5];omega)⟩
   refine .geqF O O O h4 (.pick O O O (.nil (.condF O (.skip ?_))));have hb:O5 q=true:=by simp[O5];omega
   have hT:∀ {W:World} {m n:Int},m=pn q->n=pd q->Is (N2 q) (tup [iW m,iW n,.bool true]) W:=by intro W m n hm hn;subst hm;subst hn;unfold N2;rw[hb];rfl
   refine .mid (α:=Unit) (λ_=>[(2,iW (pn q)),(3,iW (pd q))]) (λ_ W=>W=w3) ?_ ?_
   ·refine .block (.sr (.mv O O ?_));by_cases h0:A6 q.den=0
    ·refine .eqlT O O O h0 (.an O O (.condT O (.region (.an O O ?_))));have e1:pn q=A6 q.num:=by unfold pn;rw[if_neg (by omega)]
     have e2:pd q=1:=by unfold pd;rw[if_pos h0]
     rw[e1,e2];exact⟨rfl,(),lkA rfl,rfl⟩
    ·refine .eqlF O O O h0 (.an O O (.condF O (.sr (.mv O O ?_))));by_cases h5:A6 q.den<0
     ·refine .lssT O O O h5 (.an O O (.condT O (.region (.mv O O (.neg O O (.mv O O (.neg O O (.asg O O (.an O O ?_))))))))) ;have e1:pn q = -A6 q.num:=by unfold pn;rw[if_pos h5]
      have e2:pd q = -A6 q.den:=by unfold pd;rw[if_neg h0,if_pos h5]
      rw[e1,e2,wI (n:=0-A6 q.num) (by omega),wI (n:=0-A6 q.den) (by omega),fS,fS];exact⟨rfl,(),lkA rfl,rfl⟩
     ·refine .lssF O O O h5 (.an O O (.condF O (.skip ?_)));have e1:pn q=A6 q.num:=by unfold pn;rw[if_neg h5]
      have e2:pd q=A6 q.den:=by unfold pd;rw[if_neg h0,if_neg h5]
      rw[e1,e2];exact⟨rfl,(),lkA rfl,rfl⟩
   ·rintro _ _ rfl;refine .sr (.mv O O (.mv O O (.asg O O (.asg O O (.an O O (.ret ?_))))));exact .plain [_,_,_] results59 ⟨rfl,rfl,rfl,trivial⟩ ⟨x3,hT O rfl⟩
  ·have hdo':N0 (A6 q.den)=false:=by simpa using hdo
   rw[hdo'];refine .gs O O O O O (.gs O O O O O (.pick O O O (.mv O O (.gs O O O O O (.gs O O O O O (.pick O O O (.mv O O (.gs O O O O O (.gs O O O O O (.pick O O O (.mv O O (.gs O O O O O (.gs O O O O O (.pick O O O (.nil (.condT O (.sr (.asg O O (.asg O O (.an O O (.ret ?_)))))))))))))))))))));exact .plain [_,_,_] results59 ⟨rfl,rfl,rfl,trivial⟩ ⟨x3,hF (by simp[N0] at hdo';simp[O5];omega)⟩
 ·have hno':N0 (A6 q.num)=false:=by simpa using hno
  rw[hno'];refine .gs O O O O O (.gs O O O O O (.pick O O O (.mv O O (.gs O O O O O (.gs O O O O O (.pick O O O (.mv O O (.gs O O O O O (.gs O O O O O (.pick O O O (.mv O O (.gs O O O O O (.gs O O O O O (.pick O O O (.mv O O (.gs O O O O O (.gs O O O O O (.pick O O O (.nil (.condT O (.sr (.asg O O (.asg O O (.an O O (.ret ?_)))))))))))))))))))))))));exact .plain [_,_,_] results59 ⟨rfl,rfl,rfl,trivial⟩ ⟨x3,hF (by simp[N0] at hno';simp[O5];omega)⟩
theorem BT9{n g:Int}(h:g∣n):n.tdiv g=n / g:=Int.tdiv_eq_ediv_of_dvd h
theorem AM6(n g:Int):(n / g).natAbs<=n.natAbs:=Int.natAbs_ediv_le_natAbs n g
theorem Y6:Ent prog 60:=en func60
theorem V9{w:World}{n d:Int}(up:Up S w)(hd:0<d)(hd2:d<=9223372036854775807)(hn1 : -9223372036854775807<=n)(hn2:n<=9223372036854775807) :
  CR prog 60 #[iW n,iW d] w (eQ.at S (qc (Rat.divInt n d))):=by
 have hdvd1:((Nat.gcd n.natAbs d.natAbs:Nat):Int)∣n:=Int.ofNat_dvd_left.2 (Nat.gcd_dvd_left _ _);have hdvd2:((Nat.gcd n.natAbs d.natAbs:Nat):Int)∣d:=Int.ofNat_dvd_left.2 (Nat.gcd_dvd_right _ _);have hG0:0<Nat.gcd n.natAbs d.natAbs:=iE _ (by omega);have hGd:Nat.gcd n.natAbs d.natAbs<=d.natAbs:=iG _ (by omega);have hqc:=Ao0 (n:=n) hd;refine enter func60 O ntmps60 O ?_;refine .sr (.alloc O E8 λw1 b1 n1=>.nil ?_);obtain⟨e1,k1,hb1,hs1⟩:=n1;have hS:¬ Sx S w.heap.size w1.heap.size b1:=Sx.no (by omega) (by omega);have up1:Up (Sx S w.heap.size w1.heap.size) w1:=Sx.up up (aA _) e1.size;have hout:∀ {W:World} {v:Value} {z:QV},eQ.R (Sx S w.heap.size w1.heap.size) W v z->eQ.R S W v z:=λh=>h.out;generalize hT:Sx S w.heap.size w1.heap.size=T at *;refine .sr (.mv O O (.mv O O (.asg O O (.an O O ?_))));refine .mid (α:=Int) (λm=>[(0,iW n),(1,iW d),(4,pW b1),(5,iW m)]) (λm W=>Ext w1 W/\m.natAbs=Nat.gcd n.natAbs d.natAbs) ?_ ?_
 ·refine .block (.loop (α:=Int×Int) (λx=>[(0,iW n),(1,iW d),(4,pW b1),(5,iW x.1),(6,iW x.2)]) (λx W=>Ext w1 W/\Nat.gcd x.1.natAbs x.2.natAbs=Nat.gcd n.natAbs d.natAbs) (λx=>x.2.natAbs) (n,d) ?_ ?_ ?_)
  ·exact lkA rfl
  ·exact⟨.refl _,rfl⟩
  ·rintro⟨p,q⟩ W ⟨hW,hg⟩;replace hg:Nat.gcd p.natAbs q.natAbs=Nat.gcd n.natAbs d.natAbs:=hg;by_cases hq:q=0
   ·subst hq;refine .seq (.sr (.mv O O (.neqF O O O O (.nil (.condF O (.exit ?_))))));refine⟨rfl,p,lkA rfl,hW,?_⟩;rw[<-hg];simp
   ·refine .seq (.sr (.mv O O (.neqT O O O hq (.nil (.condT O (.skip (.block ?_)))))));refine .par follows 5 [.inl (iW q),.inl (iW p),.inl (iW q),.inl (iW (p.tmod q)),.inl (iW q)] [[],[],[],[(12,1),(13,2)],[(11,0)]] (by kernel_rfl) ⟨mvo O,mvo O,mvo O,λw e=>(Ay0 O O hq).ob,λw e=>(AR9 O).ob,trivial⟩ ?_;intro w2 e2;refine .an O O ?_;have hmod:(p.tmod q).natAbs=p.natAbs % q.natAbs:=Int.natAbs_tmod p q;refine⟨rfl,(q,p.tmod q),lkA rfl,⟨hW.trans e2,?_⟩,?_⟩
    ·show Nat.gcd q.natAbs (p.tmod q).natAbs=_;rw[hmod,<-hg,dL p.natAbs,Nat.gcd_rec q.natAbs p.natAbs,dL]
    ·show (p.tmod q).natAbs<q.natAbs;rw[hmod];exact aY _ (by omega)
 ·rintro m W ⟨hW,hm⟩;generalize hG:Nat.gcd n.natAbs d.natAbs=G at *;refine .mid (α:=Unit) (λ_=>[(0,iW n),(1,iW d),(4,pW b1),(5,iW (G:Nat))]) (λ_ W'=>W'=W) ?_ ?_
  ·refine .sr (.mv O O ?_);by_cases h0:m<0
   ·refine .lssT O O O h0 (.nil (.condT O (.region (.mv O O (.neg O O ?_)))));rw[wI (n:=0-m) (by omega),show 0-m=(G:Int) by omega];exact .an O O ⟨rfl,(),lkA rfl,rfl⟩
   ·refine .lssF O O O h0 (.nil (.condF O (.skip ?_)));have:m=(G:Int):=by omega
    subst this;exact⟨rfl,(),lkA rfl,rfl⟩
  ·rintro _ _ rfl;have upW:=up1.ext hW.size;have kW:=k1.ext hW;have hr1:IntKind.i64.wrap (n.tdiv (G:Int))=n / (G:Int):=by rw[BT9 hdvd1];have:=AM6 n G;exact wI (by omega)
   have hr2:IntKind.i64.wrap (d.tdiv (G:Int))=d / (G:Int):=by rw[BT9 hdvd2];have:=AM6 d G;exact wI (by omega)
   have hb1:=AM6 n G;have hb2:=AM6 d G;have hdG:G*(d / (G:Int))=d:=Int.mul_ediv_cancel' hdvd2;refine .seq (.sr (.mv O O (.mv O O ?_)));by_cases hGd':(G:Int)=d
   ·refine .eqlT O O O hGd' (.nil (.condT O (.sr (.mv O O (.mv O O (.quo O O O (by omega) ?_))))));rw[hr1];refine .call _ O H4 O (H1 upW (by omega) (by omega)) λv2 w2 e2 h2=>?_;obtain⟨s,rfl,hs⟩:=h2;refine .bld _ O O BQ4 ?_;have hq:eQ.R T w2 (.agg #[.bool (zc (n / (G:Int))).neg,s,.bool false,.slice none 0 0]) (qc (Rat.divInt n d)):=by rw[hqc,if_pos (by rw[hGd'];exact Int.ediv_self (by omega))];exact⟨s,_,rfl,hs,RL.nil⟩
    refine .storeA (E:=eQ) A3 O O (kW.ext e2) O O hq hS λw3 k3 u3 h3=>.nil (.ret ?_);exact .cell results60 O A3 O O k3 h3 ⟨u3.below ((e1.trans hW).trans e2) (by omega),hout h3⟩
   ·refine .eqlF O O O hGd' (.nil (.condF O (.skip (.seq ?_))));have hne1:¬ d / (G:Int)=1:=λh=>hGd' (by rw[h,Int.mul_one] at hdG;exact hdG);refine .par follows 9 [.inl _,.inl _,.inl (iW (n / (G:Int))),.inr (eZ.at T (zc (n / (G:Int)))),.inl _,.inl _,.inl (iW (d / (G:Int))),.inr (eZ.at T (zc (d / (G:Int)))),.inr (eQ.at T (qc (Rat.divInt n d)))] [[],[],[(27,0),(28,1)],[(29,2)],[],[],[(31,4),(32,5)],[(33,6)],[(30,3),(34,7)]] (by kernel_rfl) ⟨mvo O,mvo O,λw e=>((Ay1 O O (by omega)).eq (by rw[hr1])).ob,λw e=>(A4 _ H4 O (H1 (upW.ext e.size) (by omega) (by omega))).oa,mvo O,mvo O,λw e=>((Ay1 O O (by omega)).eq (by rw[hr2])).ob,λw e=>(A4 _ H4 O (H1 (upW.ext e.size) (by omega) (by omega))).oa,λw e x3 hx3 x7 hx7=>by obtain⟨s,rfl,hs⟩:=hx3;obtain⟨t,rfl,ht⟩:=hx7;refine K5 (Bg5 _ O BD4) ?_ (G7 _ _ _);rw[hqc,if_neg hne1];exact⟨s,t,rfl,hs,ht⟩,trivial⟩ ?_
    intro w2 e2 x3 hx3 x7 hx7 x8 hx8;refine .storeA (E:=eQ) A3 O O (kW.ext e2) O O hx8 hS λw3 k3 u3 h3=>.nil (.ret ?_);exact .cell results60 O A3 O O k3 h3 ⟨u3.below ((e1.trans hW).trans e2) (by omega),hout h3⟩
theorem Ba6{m n:Int}(hn:n≠0):A6 (zc ((Nat.gcd m.natAbs n.natAbs:Nat):Int))≠0:=by rw[D0];have:=iE m.natAbs (show 0<n.natAbs by omega);omega
theorem AP3:Ent prog 105:=en func105
theorem AO6{w:World}{vm vn:Value}{m n:Int}(up:Up S w)(upo:Up T0 w)(hm:Zv S m L vm w)(hn:Zv S n L vn w)(hn0:n≠0)(hL:L<=1000000000000) :
  CR prog 105 #[vm,vn] w (eQ.at T0 (qc (Rat.divInt m n))):=by
 replace hm:(eZn L).R S w vm m:=hm;replace hn:(eZn L).R S w vn n:=hn;refine enter func105 O ntmps105 O ?_;refine .sr (.box O O λw1 b2 n1=>.box O O λw2 b3 n2=>.alloc O E8 λw3 b4 n3=>.nil ?_);obtain⟨e1,k2,hb2,hs1⟩:=n1;obtain⟨e2,k3,hb3,hs2⟩:=n2;obtain⟨e3,k4,hb4,hs3⟩:=n3;have x3:=(e1.trans e2).trans e3;have k2:=(k2.ext e2).ext e3;have k3:=k3.ext e3;have hS2:¬ Sx S w.heap.size w3.heap.size b2:=Sx.no (by omega) (by omega);have hS3:¬ Sx S w.heap.size w3.heap.size b3:=Sx.no (by omega) (by omega);have hS4:¬ Sx S w.heap.size w3.heap.size b4:=Sx.no (by omega) (by omega);have up3:Up (Sx S w.heap.size w3.heap.size) w3:=Sx.up up (aA _) x3.size;have hm3:=(hm.par w3.heap.size).ext x3;have hn3:=(hn.par w3.heap.size).ext x3;have hU2:¬ Sx T0 w.heap.size w3.heap.size b2:=Sx.no (by omega) (by omega);have hU3:¬ Sx T0 w.heap.size w3.heap.size b3:=Sx.no (by omega) (by omega);have hU4:¬ Sx T0 w.heap.size w3.heap.size b4:=Sx.no (by omega) (by omega);have upo3:Up (Sx T0 w.heap.size w3.heap.size) w3:=Sx.up upo (aA _) x3.size;have hout:∀ {W:World} {v:Value} {z:QV},eQ.R (Sx T0 w.heap.size w3.heap.size) W v z->eQ.R T0 W v z:=λh=>h.out;have hne32:b3≠b2:=by omega
 have hne42:b4≠b2:=by omega
 have hne43:b4≠b3:=by omega
 have hw2:w.heap.size<=b2:=by omega
 have hw3:w.heap.size<=b3:=by omega
 have hw4:w.heap.size<=b4:=by omega
 have hc2:b2<w3.heap.size:=by omega
 have hc3:b3<w3.heap.size:=by omega
 have hc4:b4<w3.heap.size:=by omega
 clear hb2 hb3 hb4;generalize hT:Sx S w.heap.size w3.heap.size=T at *;generalize hU:Sx T0 w.heap.size w3.heap.size=U at *;refine .mid (α:=(Value×Int)×(Value×Int)) (λ_=>[(2,pW b2),(3,pW b3),(4,pW b4)])
  (λx W=>Below w.heap.size w W/\w3.heap.size<=W.heap.size/\Blk W b2 37 x.1.1.cells/\Blk W b3 37 x.2.1.cells/\Blk W b4 39 #[.bool false,.slice none 0 0,.bool false,.slice none 0 0]/\(eZn L).R T W x.1.1 x.1.2/\(eZn L).R T W x.2.1 x.2.2/\0<x.2.2/\Rat.divInt x.1.2 x.2.2=Rat.divInt m n) ?_ ?_
 ·obtain⟨zn,hzn,hznv,hznl⟩:=hn3;obtain⟨zm,hzm,hzmv,hzml⟩:=hm3;have hvn:=G8 O hzn;have hvm:=G8 O hzm;refine .sr (.ldA B6 O O k3 (eZ.csz hzn) ?_);rw[<-hvn];refine .call _ O AC7 O (AA5 hzn) λv4 w4 e4 h4=>?_;subst h4;rw[hznv];have x4:=x3.trans e4;have k2:=k2.ext e4;have k3:=k3.ext e4;have k4:=k4.ext e4;have up4:=up3.ext e4.size;have hzn4:=hzn.ext e4;have hzm4:=hzm.ext e4;have hdn:=AY3 hzn;have hdm:=AY3 hzm;by_cases h0:n<0
  ·refine .lssT O O O (by rw[cC h0];decide) (.nil (.condT O ?_));refine .par follows 4 [.inl vm,.inr (eZ.at T (zc (-A6 zm))),.inl vn,.inr (eZ.at T (zc (-A6 zn)))] [[],[(11,0)],[],[(13,2)]] (by kernel_rfl) ⟨λw e=>((E1 B6 O (k2.ext e) (eZ.csz hzm)).eq hvm.symm).ob,λw e=>(A4 _ AG5 O (AF3 (up4.ext e.size) (hzm4.ext e) (by omega))).oa,λw e=>((E1 B6 O (k3.ext e) (eZ.csz hzn)).eq hvn.symm).ob,λw e=>(A4 _ AG5 O (AF3 (up4.ext e.size) (hzn4.ext e) (by omega))).oa,trivial⟩ ?_;intro w5 e5 x1 hx1 x3' hx3;have hA:(eZn L).R T w5 x1 (-m):=by rw[<-hzmv];exact Zv.of hx1 (by have:=AE3 hdm hzml;omega)
   have hB:(eZn L).R T w5 x3' (-n):=by rw[<-hznv];exact Zv.of hx3 (by have:=AE3 hdn hznl;omega)
   refine .storeA (E:=eZn L) B6 O O (k2.ext e5) O (eZ.csz hzm) hA hS2 λw6 k6 u6 h6=>?_;refine .storeA (E:=eZn L) B6 O O ((k3.ext e5).upd u6 hne32) O (eZ.csz hzn) (hB.upd u6 hS2) hS3 λw7 k7 u7 h7=>.nil ?_;refine⟨rfl,((x1,-m),(x3',-n)),lkA rfl,u7.below (u6.below (x4.trans e5) hw2) hw3,?_,k6.upd u7 (Ne.symm hne32),k7,((k4.ext e5).upd u6 hne42).upd u7 hne43,h6.upd u7 hS3,h7,by show 0 < -n;omega,Rat.neg_divInt_neg m n⟩;rw[u7.size,u6.size];exact (e4.trans e5).size
  ·refine .lssF O O O (by rw[bZ (by omega)];decide) (.nil (.condF O (.skip ?_)));exact⟨rfl,((vm,m),(vn,n)),lkA rfl,x4,e4.size,k2,k3,k4,⟨zm,hzm4,hzmv,hzml⟩,⟨zn,hzn4,hznv,hznl⟩,by show 0<n;omega,rfl⟩
 ·rintro⟨⟨um,m'⟩,⟨un,n'⟩⟩ W ⟨hB,hsz,k2,k3,k4,hm,hn,hpos,hdiv⟩;replace hm:(eZn L).R T W um m':=hm;replace hn:(eZn L).R T W un n':=hn;replace hpos:0<n':=hpos;replace hdiv:Rat.divInt m' n'=Rat.divInt m n:=hdiv;rw[<-hdiv];replace k2:Blk W b2 37 um.cells:=k2;replace k3:Blk W b3 37 un.cells:=k3;have upW:=up3.ext hsz;have upoW:=upo3.ext hsz;obtain⟨zn,hzn,hznv,hznl⟩:=hn;obtain⟨zm,hzm,hzmv,hzml⟩:=hm;have hvn:=G8 O hzn;have hvm:=G8 O hzm;have hdn:=AY3 hzn;have hdm:=AY3 hzm;refine .sr (.ldA B6 O O k2 (eZ.csz hzm) (.ldA B6 O O k3 (eZ.csz hzn) ?_));rw[<-hvn,<-hvm];refine .call _ O BY7 O (BS7 upW hzm hzn (by omega) (by omega)) λvg w5 e5 h5=>?_;have hgv:Nat.gcd (val zm.w) (val zn.w)=Nat.gcd m'.natAbs n'.natAbs:=by rw[<-P8,<-P8,hzmv,hznv]
  rw[hgv] at h5;have hgl:(zc ((Nat.gcd m'.natAbs n'.natAbs:Nat):Int)).w.length<=L:=by refine AA4 ?_;have h1:=iG m'.natAbs (show 0<n'.natAbs by omega);have h2:=AE3 hdn hznl;rw[hznv] at h2;simp only[gI];omega
  refine .alloc O F4 λw6 b5 n6=>?_;obtain⟨e6,k6,hb5,hs6⟩:=n6;have e56:=e5.trans e6;have hS5':¬ Sx T w5.heap.size w6.heap.size b5:=Sx.no (by omega) (by omega);have h5':=(h5.par w6.heap.size).ext e6;have hzm6:=((hzm.ext e5).par w6.heap.size).ext e6;have hzn6:=((hzn.ext e5).par w6.heap.size).ext e6;have hS2':¬ Sx T w5.heap.size w6.heap.size b2:=λh=>hS2 h.1;have hS3':¬ Sx T w5.heap.size w6.heap.size b3:=λh=>hS3 h.1;have hU2':¬ Sx U w5.heap.size w6.heap.size b2:=λh=>hU2 h.1;have hU3':¬ Sx U w5.heap.size w6.heap.size b3:=λh=>hU3 h.1;have hU4':¬ Sx U w5.heap.size w6.heap.size b4:=λh=>hU4 h.1;have upo6:Up (Sx U w5.heap.size w6.heap.size) w6:=Sx.up (upoW.ext e5.size) (aA _) e6.size;have hout':∀ {W:World} {v:Value} {z:QV},eQ.R (Sx U w5.heap.size w6.heap.size) W v z->eQ.R T0 W v z:=λh=>hout h.out;have up6:Up (Sx T w5.heap.size w6.heap.size) w6:=Sx.up (upW.ext e5.size) (aA _) e6.size;have hB6:Below w.heap.size w w6:=hB.trans (e56.mono hB.size);have hn52:b5≠b2:=by have:=e5.size;omega
  have hn53:b5≠b3:=by have:=e5.size;omega
  have hn54:b5≠b4:=by have:=e5.size;omega
  have hw5:w.heap.size<=b5:=by have:=hB.size;have:=e5.size;omega
  generalize hT2:Sx T w5.heap.size w6.heap.size=T2 at *;generalize hUU:Sx U w5.heap.size w6.heap.size=U2 at *;refine .storeA B6 O O k6 O O h5' hS5' λw7 k7 u7 h7=>.nil ?_;have up7:Up T2 w7:=up6.ext (by rw[u7.size];exact aA _);have upo7:Up U2 w7:=upo6.ext (by rw[u7.size];exact aA _);have hB7:=u7.below hB6 hw5;have hzm7:=hzm6.upd u7 hS5';have hzn7:=hzn6.upd u7 hS5';have k2:=(k2.ext e56).upd u7 (Ne.symm hn52);have k3:=(k3.ext e56).upd u7 (Ne.symm hn53);have k4:=(k4.ext e56).upd u7 (Ne.symm hn54);have hvg:=G8 O h7;have hg0:=Ba6 (m:=m') (n:=n') (by omega);generalize hG:Nat.gcd m'.natAbs n'.natAbs=G at *;refine .sr (.ldA B6 O O k2 (eZ.csz hzm) (.ldA B6 O O k7 (eZ.csz h7) ?_));rw[<-hvm,<-hvg];refine .call _ O AY8 O (AV5 up7 upo7 hzm7 h7 (by omega) (by omega) hg0) λv8 w8 e8 h8=>?_;obtain⟨qm,rm,_,rfl,hqm,_,rfl⟩:=h8;refine .mv O O (.ext O O O (.ext O O O (.ext O O O ?_)));rw[hzmv,D0] at hqm;refine .storeA (E:=eZ) B6 O O (k2.ext e8) O (eZ.csz hzm) hqm hU2' λw9 k9 u9 h9=>.nil ?_;have up9:Up T2 w9:=(up7.ext e8.size).ext (by rw[u9.size];exact aA _);have upo9:Up U2 w9:=(upo7.ext e8.size).ext (by rw[u9.size];exact aA _);have hB9:Below w.heap.size w w9:=u9.below (hB7.trans (e8.mono hB7.size)) hw2;have k3:=(k3.ext e8).upd u9 hne32;have k5:=(k7.ext e8).upd u9 hn52;have k4:=(k4.ext e8).upd u9 hne42;have hg9:=(h7.ext e8).upd u9 hS2';have hzn9:=(hzn7.ext e8).upd u9 hS2';refine .sr (.ldA B6 O O k3 (eZ.csz hzn) (.ldA B6 O O k5 (eZ.csz h7) ?_));rw[<-hvn,<-hvg];refine .call _ O AY8 O (AV5 up9 upo9 hzn9 hg9 (by omega) (by omega) hg0) λv10 w10 e10 h10=>?_;obtain⟨qn,rn,_,rfl,hqn,_,rfl⟩:=h10;refine .mv O O (.ext O O O (.ext O O O (.ext O O O ?_)));rw[hznv,D0] at hqn;refine .storeA (E:=eZ) B6 O O (k3.ext e10) O (eZ.csz hzn) hqn hU3' λw11 k11 u11 h11=>.nil ?_;have hB11:Below w.heap.size w w11:=u11.below (hB9.trans (e10.mono hB9.size)) hw3;have k9:=(k9.ext e10).upd u11 (Ne.symm hne32);have k4:=(k4.ext e10).upd u11 hne43;have h9:=(h9.ext e10).upd u11 hU3';have hqc:=Ao0 (n:=m') hpos;rw[hG] at hqc;have hvqm:=G8 O h9;have hvqn:=G8 O h11;refine .mid (α:=Value) (λ_=>[(2,pW b2),(3,pW b3),(4,pW b4)])
   (λx W=>Below w.heap.size w W/\Blk W b2 37 qm.cells/\Blk W b3 37 x.cells/\Blk W b4 39 #[.bool false,.slice none 0 0,.bool false,.slice none 0 0]/\eZ.R U2 W qm (zc (m' / (G:Int)))/\eZ.R U2 W x (if n' / (G:Int)=1 then ⟨false,[]⟩ else zc (n' / (G:Int)))) ?_ ?_
  ·refine .sr (.ldA B6 O O k11 (eZ.csz h11) ?_);rw[<-hvqn];refine .call _ O P1 O (O4 h11) λv12 w12 e12 h12=>?_;subst h12;refine .mv O O (.ext O O O (.ext O O O (.asg O O (.an O O ?_))));rw[D0];have hB12:Below w.heap.size w w12:=hB11.trans (e12.mono hB11.size);refine .sr (.mv O O (.mv O O ?_));have hno:∀ {σ:Env},(∀ t v,YtpgkacdihhjknaaGreat.look [(2,pW b2),(3,pW b3),(4,pW b4)] t=some v->YtpgkacdihhjknaaGreat.look σ t=some v)->n' / (G:Int)≠1->(([]:List Deferred)=[]/\∃ x:Value,(∀ t v,YtpgkacdihhjknaaGreat.look [(2,pW b2),(3,pW b3),(4,pW b4)] t=some v->YtpgkacdihhjknaaGreat.look σ t=some v) /\
     Below w.heap.size w w12/\Blk w12 b2 37 qm.cells/\Blk w12 b3 37 x.cells/\Blk w12 b4 39 #[.bool false,.slice none 0 0,.bool false,.slice none 0 0]/\eZ.R U2 w12 qm (zc (m' / (G:Int)))/\eZ.R U2 w12 x (if n' / (G:Int)=1 then ⟨false,[]⟩ else zc (n' / (G:Int)))):=by
    intro σ hσ h1;refine⟨rfl,qn,hσ,hB12,k9.ext e12,k11.ext e12,k4.ext e12,h9.ext e12,?_⟩;rw[if_neg h1];exact h11.ext e12
   cases hok:N0 (n' / (G:Int)) with
   | false =>
    refine .gs O O O O O (.gs O O O O O (.pick O O O (.nil (.condF O (.skip (hno (lkA O) ?_))))));intro h;rw[h] at hok;simp[N0] at hok
   | true =>
    have ev':AK9 (n' / (G:Int))=n' / (G:Int):=by rw[AK9,hok];rfl
    rw[ev'];by_cases h1:n' / (G:Int)=1
    ·refine .gr O O O O (.mv O O (.gr O O O O (.eqlT O O O h1 (.pick O O O (.nil (.condT O (.region (.bld _ O O Be9 ?_))))))));have hz:eZ.R U2 w12 (.agg #[.bool false,.slice none 0 0]) ⟨false,[]⟩:=⟨_,rfl,RL.nil⟩;refine .storeA (E:=eZ) B6 O O (k11.ext e12) O (eZ.csz h11) hz hU3' λw13 k13 u13 h13=>.nil ?_;refine⟨rfl,_,lkA rfl,u13.below hB12 hw3,(k9.ext e12).upd u13 (Ne.symm hne32),k13,(k4.ext e12).upd u13 hne43,(h9.ext e12).upd u13 hU3',?_⟩;rw[if_pos h1];exact h13
    ·refine .gr O O O O (.mv O O (.gr O O O O (.eqlF O O O h1 (.pick O O O (.nil (.condF O (.skip (hno (lkA O) h1)))))))) 
  ·rintro x W ⟨hB12,k2,k3,k4,hA,hC⟩;obtain⟨s,rfl,hs⟩:=hA;obtain⟨t,rfl,ht⟩:=hC;refine .sr (.ldA B6 O O k2 O (.ldA B6 O O k3 O (.bld _ O O BD4 ?_)));have hq:eQ.R U2 W (.agg #[.bool (zc (m' / (G:Int))).neg,s,.bool (if n' / (G:Int)=1 then (⟨false,[]⟩:ZV) else zc (n' / (G:Int))).neg,t]) (qc (Rat.divInt m' n')):=by rw[hqc];exact⟨s,t,rfl,hs,ht⟩
   refine .storeA (E:=eQ) A3 O O k4 O O hq hU4' λw13 k13 u13 h13=>.nil (.ret ?_);exact .cell results105 O A3 O O k13 h13 ⟨u13.below hB12 hw4,hout' h13⟩
theorem BH0{w:World}{vm vn:Value}{m n:Int}(up:Up S w)(hm:Zv S m L vm w)(hn:Zv S n L vn w)(hn0:n≠0)(hL:L<=1000000000000) :
  CR prog 105 #[vm,vn] w (eQ.at S (qc (Rat.divInt m n))):=AO6 up up hm hn hn0 hL
theorem BT5:prog.underlying 146=some (.map 5 145):=by kernel_rfl
theorem BQ3{f:FuncId}:AK4 prog 145 [(0,.func (.func f) #[] #[])]=some #[.func (.func f) #[] #[]]:=by kernel_rfl
theorem prt_op{f:FuncId}:Bh8 prog 145 #[.func (.func f) #[] #[]] 0=some (.func (.func f) #[] #[]):=by kernel_rfl
abbrev opE (k:Int) (f c:Nat):MapEntry:={ key:=.int .u8 k,val:=.agg #[.func (.func f) #[] #[]],born:=c }
def Bi1:Array MapEntry:=#[opE 43 156 0,opE 45 158 1,opE 42 160 2,opE 47 161 3]
@[reducible] def CB2:Value->World->Prop:=λv w=>∃ r,v=.map (some r)/\Ae1 w r Bi1 4
theorem st_tab:St CB2:=λ_ _ _ e ⟨r,h1,h2⟩=>⟨r,h1,h2.ext e⟩
theorem An0:Ent prog 106:=en func106
theorem Al1{w:World}:CR prog 106 #[] w CB2:=by refine enter func106 O ntmps106 O (.sr (.an O O (.sr (.gv O O g_mkmap ?_))));rintro _ w1 ⟨rfl,e1,m1⟩;refine .bld _ O O BQ3 (.gv O O (Bj4 BT5 Ai6 O O O m1 O) ?_);rintro _ _ rfl;have m2:=m1.put (es':=#[].push (opE 43 156 0)) (c':=1);have x2:=Aa7 (o:=.map (#[].push (opE 43 156 0)) 1) e1 (aA _);refine .bld _ O O BQ3 (.gv O O (Bj4 BT5 Ai6 O O O m2 O) ?_);rintro _ _ rfl;have m3:=m2.put (es':=(#[].push (opE 43 156 0)).push (opE 45 158 1)) (c':=2);have x3:=Aa7 (o:=.map ((#[].push (opE 43 156 0)).push (opE 45 158 1)) 2) x2 (aA _);refine .bld _ O O BQ3 (.gv O O (Bj4 BT5 Ai6 O O O m3 O) ?_);rintro _ _ rfl;have m4:=m3.put (es':=((#[].push (opE 43 156 0)).push (opE 45 158 1)).push (opE 42 160 2)) (c':=3);have x4:=Aa7 (o:=.map (((#[].push (opE 43 156 0)).push (opE 45 158 1)).push (opE 42 160 2)) 3) x3 (aA _);refine .bld _ O O BQ3 (.gv O O (Bj4 BT5 Ai6 O O O m4 O) ?_);rintro _ _ rfl;have m5:=m4.put (es':=Bi1) (c':=4);have x5:=Aa7 (o:=.map Bi1 4) x4 (aA _);refine .mv O O (.an O O (.ret ?_));exact .p1 _ results106 O ⟨x5,_,rfl,m5⟩
theorem I9:Ent prog 61:=en func61
theorem X4{w:World}{k:Int}{i:Nat}{f:FuncId}{N D:Int}(up:Up S w)(upo:Up T0 w)(ha:eQ.R S w va a)(hb:eQ.R S w vb b)(hla:qok L a)(hlb:qok L b)(hL:1<=L)(hL2:L<=100000000000)(hE:Ent prog f)(hf:Instr.findNow (.int .u8) (.int .u8 k) Bi1.toList 0=some (some (i,.agg #[.func (.func f) #[] #[]])))(hop:∀ {T:Nat->Prop} {W:World} {u1 u2 u3 u4:Value},Up T W->Zv T (pn a) L u1 W->Zv T (pd a) L u2 W->Zv T (pn b) L u3 W->Zv T (pd b) L u4 W->CR prog f #[u1,u2,u3,u4] W (Two (Zv T N (2*L+1)) (Zv T D (2*L+1))))(hD:D≠0) :
  CR prog 61 #[.int .u8 k,va,vb] w (eQ.at T0 (qc (Rat.divInt N D))):=by
 have hva:=G8 O ha;have hvb:=G8 O hb;refine enter func61 O ntmps61 O ?_;refine .sr (.box O O λw1 b4 n1=>.box O O λw2 b5 n2=>.alloc O E8 λw3 b6 n3=>.nil ?_);obtain⟨e1,k4,hb4,hs1⟩:=n1;obtain⟨e2,k5,hb5,hs2⟩:=n2;obtain⟨e3,k6,hb6,hs3⟩:=n3;have x3:=(e1.trans e2).trans e3;have k4:=(k4.ext e2).ext e3;have k5:=k5.ext e3;have hU6:¬ Sx T0 w.heap.size w3.heap.size b6:=Sx.no (by omega) (by omega);have hS5:¬ Sx S w.heap.size w3.heap.size b5:=Sx.no (by omega) (by omega);have up3:Up (Sx S w.heap.size w3.heap.size) w3:=Sx.up up (aA _) x3.size;have ha3:=(ha.par w3.heap.size).ext x3;have hb3:=(hb.par w3.heap.size).ext x3;have upo3:Up (Sx T0 w.heap.size w3.heap.size) w3:=Sx.up upo (aA _) x3.size;have hout:∀ {W:World} {v:Value} {z:QV},eQ.R (Sx T0 w.heap.size w3.heap.size) W v z->eQ.R T0 W v z:=λh=>h.out;have hw6:w.heap.size<=b6:=by omega
 have hc6:b6<w3.heap.size:=by omega
 have hc5:b5<w3.heap.size:=by omega
 generalize hT:Sx S w.heap.size w3.heap.size=T at *;generalize hU:Sx T0 w.heap.size w3.heap.size=U at *;refine .sr (.ldA A3 O O k4 (eQ.csz ha) ?_);rw[<-hva];refine .call _ O AU2 O (AS9 up3 ha3 hla hL (by omega)) λv4 w4 e4 h4=>?_;obtain⟨u1,u2,rfl,h1,h2⟩:=h4;replace h1:(eZn L).R T w4 u1 (pn a):=h1;replace h2:(eZn L).R T w4 u2 (pd a):=h2;refine .mv O O (.ext O O O (.ext O O O (.alloc O F4 λw5 b7 n5=>.alloc O F4 λw6 b8 n6=>?_)));obtain⟨e5,k7,hb7,hs5⟩:=n5;obtain⟨e6,k8,hb8,hs6⟩:=n6;have e56:=e5.trans e6;have k7:=k7.ext e6;have hs4:=e4.size;have hS7:¬ Sx T w4.heap.size w6.heap.size b7:=Sx.no (by omega) (by omega);have hS8:¬ Sx T w4.heap.size w6.heap.size b8:=Sx.no (by omega) (by omega);have h16:=(h1.par w6.heap.size).ext e56;have h26:=(h2.par w6.heap.size).ext e56;have hb6':=((hb3.ext e4).par w6.heap.size).ext e56;have up6:Up (Sx T w4.heap.size w6.heap.size) w6:=Sx.up (up3.ext e4.size) (aA _) e56.size;have hS5:¬ Sx T w4.heap.size w6.heap.size b5:=λh=>hS5 h.1;have hc7:b7<w6.heap.size:=by omega
 have hc8:b8<w6.heap.size:=by omega
 have hn78:b8≠b7:=by omega
 have hw7:w.heap.size<=b7:=by have:=x3.size;omega
 have hw8:w.heap.size<=b8:=by have:=x3.size;omega
 have hn57:b5≠b7:=by omega
 have hn58:b5≠b8:=by omega
 have hn67:b6≠b7:=by omega
 have hn68:b6≠b8:=by omega
 generalize hT2:Sx T w4.heap.size w6.heap.size=T2 at *;refine .storeA (E:=eZn L) B6 O O k7 O O h16 hS7 λw7 k7 u7 h17=>?_;refine .storeA (E:=eZn L) B6 O O (k8.upd u7 hn78) O O (h26.upd u7 hS7) hS8 λw8 k8 u8 h28=>.nil ?_;have h18:=h17.upd u8 hS8;have k7:=k7.upd u8 (Ne.symm hn78);have x6:=(x3.trans e4).trans e56;have x8:Ext w w8:=u8.below (u7.below x6 hw7) hw8;have k5:=(((k5.ext e4).ext e56).upd u7 hn57).upd u8 hn58;have k6:=(((k6.ext e4).ext e56).upd u7 hn67).upd u8 hn68;have hb8':=(hb6'.upd u7 hS7).upd u8 hS8;have up8:Up T2 w8:=up6.ext (by rw[u8.size,u7.size];exact aA _);have upo8:Up U w8:=((upo3.ext e4.size).ext e56.size).ext (by rw[u8.size,u7.size];exact aA _);have hs8:w8.heap.size=w6.heap.size:=by rw[u8.size,u7.size]
 refine .sr (.ldA A3 O O k5 (eQ.csz hb) ?_);rw[<-hvb];refine .call _ O AU2 O (AS9 up8 hb8' hlb hL (by omega)) λv9 w9 e9 h9=>?_;obtain⟨u3,u4,rfl,h3,h4⟩:=h9;replace h3:(eZn L).R T2 w9 u3 (pn b):=h3;replace h4:(eZn L).R T2 w9 u4 (pd b):=h4;refine .mv O O (.ext O O O (.ext O O O (.alloc O F4 λw10 b9 n10=>.alloc O F4 λw11 b10 n11=>?_)));obtain⟨e10,k9,hb9,hs10⟩:=n10;obtain⟨e11,k10,hb10,hs11⟩:=n11;have e1011:=e10.trans e11;have k9:=k9.ext e11;have hs9:=e9.size;have hS9:¬ Sx T2 w9.heap.size w11.heap.size b9:=Sx.no (by omega) (by omega);have hS10:¬ Sx T2 w9.heap.size w11.heap.size b10:=Sx.no (by omega) (by omega);have h1':=((h18.ext e9).par w11.heap.size).ext e1011;have h2':=((h28.ext e9).par w11.heap.size).ext e1011;have h3':=(h3.par w11.heap.size).ext e1011;have h4':=(h4.par w11.heap.size).ext e1011;have up11:Up (Sx T2 w9.heap.size w11.heap.size) w11:=Sx.up (up8.ext e9.size) (aA _) e1011.size;have hn910:b10≠b9:=by omega
 have hw9:w.heap.size<=b9:=by have:=x8.size;omega
 have hw10:w.heap.size<=b10:=by have:=x8.size;omega
 have n79:b7≠b9:=by omega
 have n710:b7≠b10:=by omega
 have n89:b8≠b9:=by omega
 have n810:b8≠b10:=by omega
 have n69:b6≠b9:=by omega
 have n610:b6≠b10:=by omega
 generalize hT3:Sx T2 w9.heap.size w11.heap.size=T3 at *;refine .storeA (E:=eZn L) B6 O O k9 O O h3' hS9 λw12 k9 u12 h312=>?_;refine .storeA (E:=eZn L) B6 O O (k10.upd u12 hn910) O O (h4'.upd u12 hS9) hS10 λw13 k10 u13 h413=>.nil ?_;have h313:=h312.upd u13 hS10;have k9:=k9.upd u13 (Ne.symm hn910);have x11:=(x8.trans e9).trans e1011;have x13:Ext w w13:=u13.below (u12.below x11 hw9) hw10;have h113:=(h1'.upd u12 hS9).upd u13 hS10;have h213:=(h2'.upd u12 hS9).upd u13 hS10;have k7:=(((k7.ext e9).ext e1011).upd u12 n79).upd u13 n710;have k8:=(((k8.ext e9).ext e1011).upd u12 n89).upd u13 n810;have k6:=(((k6.ext e9).ext e1011).upd u12 n69).upd u13 n610;have up13:Up T3 w13:=up11.ext (by rw[u13.size,u12.size];exact aA _);have upo13:Up U w13:=((upo8.ext e9.size).ext e1011.size).ext (by rw[u13.size,u12.size];exact aA _);have hv1:=G8 (E:=eZn L) O h113;have hv2:=G8 (E:=eZn L) O h213;have hv3:=G8 (E:=eZn L) O h313;have hv4:=G8 (E:=eZn L) O h413;refine .seq ?_;refine .par follows 12 [.inr CB2,.inl (.int .u8 k),.inl (.agg #[.func (.func f) #[] #[]]),.inl (.func (.func f) #[] #[]),.inl u1,.inl u2,.inl u3,.inl u4,.inr (Two (Zv T3 N (2*L+1)) (Zv T3 D (2*L+1))),.inr (Zv T3 N (2*L+1)),.inr (Zv T3 D (2*L+1)),.inr (eQ.at U (qc (Rat.divInt N D)))]
  [[],[],[(21,0),(22,1)],[(23,2)],[],[],[],[],[(24,3),(25,4),(26,5),(27,6),(28,7)],[(29,8)],[(29,8)],[(30,9),(31,10)]] (by kernel_rfl) ⟨λw e=>(A4 [] An0 O Al1).ob st_tab,mvo O,λw e x0 hx0=>by
   obtain⟨r,rfl,hr⟩:=hx0;exact (v_lkp BT5 Ai6 O O hr hf).ob,λw e=>(v_fd O prt_op).ob,λw e=>((E1 B6 O (k7.ext e) ((eZn L).csz h113)).eq hv1.symm).ob,λw e=>((E1 B6 O (k8.ext e) ((eZn L).csz h213)).eq hv2.symm).ob,λw e=>((E1 B6 O (k9.ext e) ((eZn L).csz h313)).eq hv3.symm).ob,λw e=>((E1 B6 O (k10.ext e) ((eZn L).csz h413)).eq hv4.symm).ob,λw e=>(Ab4 [u1,u2,u3,u4] O hE O (by simpa using hop (up13.ext e.size) (Zv.ext h113 e) (Zv.ext h213 e) (Zv.ext h313 e) (Zv.ext h413 e))).ob (L3 (BU2 _ _ _) (BU2 _ _ _)),λw e x8 hx8=>by
   obtain⟨p,q,rfl,hp,hq⟩:=hx8;exact K5 (AA1 O O) hp (BU2 _ _ _),λw e x8 hx8=>by
   obtain⟨p,q,rfl,hp,hq⟩:=hx8;exact K5 (AA1 O O) hq (BU2 _ _ _),λw e x9 hx9 x10 hx10=>(A4 _ AP3 O (AO6 (up13.ext e.size) (upo13.ext e.size) hx9 hx10 hD (by omega))).oa,trivial⟩ ?_
 intro w14 e14 x0 hx0 x8 hx8 x9 hx9 x10 hx10 x11 hx11;refine .storeA (E:=eQ) A3 O O (k6.ext e14) O O hx11 hU6 λw15 k15 u15 h15=>.nil (.ret ?_);exact .cell results61 O A3 O O k15 h15 ⟨u15.below (x13.trans e14) hw6,hout h15⟩
theorem AB7{m n:Int}(hm:m.natAbs<4294967296 ^ L)(hn:n.natAbs<4294967296 ^ L):(m*n).natAbs<4294967296 ^ (2*L):=by rw[dE,show 2*L=L+L by omega,bG];exact dF hm hn
theorem sum_lt{m n:Int}(hm:m.natAbs<4294967296 ^ L)(hn:n.natAbs<4294967296 ^ L):(m+n).natAbs<4294967296 ^ (L+1):=by have:=gZ m n;rw[aN];omega
theorem dif_lt{m n:Int}(hm:m.natAbs<4294967296 ^ L)(hn:n.natAbs<4294967296 ^ L):(m-n).natAbs<4294967296 ^ (L+1):=by have:=Int.natAbs_sub_le m n;rw[aN];omega
theorem BJ2{m:Int}(h:m.natAbs<4294967296 ^ L)(hl:L<=M):m.natAbs<4294967296 ^ M:=bC h (aQ (by omega) hl)
theorem E_op1:Ent prog 156:=en func156
theorem op1_c{w:World}(hL2:L<=100000000000)(up:Up S w)(h1:Zv S m1 L u1 w)(h2:Zv S m2 L u2 w)(h3:Zv S m3 L u3 w)(h4:Zv S m4 L u4 w) :
  CR prog 156 #[u1,u2,u3,u4] w (Two (Zv S (m1*m4+m3*m2) (2*L+1)) (Zv S (m2*m4) (2*L+1))):=by
 have l1:=h1.lt;have l2:=h2.lt;have l3:=h3.lt;have l4:=h4.lt;obtain⟨z1,h1,rfl,hl1⟩:=h1;obtain⟨z2,h2,rfl,hl2⟩:=h2;obtain⟨z3,h3,rfl,hl3⟩:=h3;obtain⟨z4,h4,rfl,hl4⟩:=h4;have hv1:=G8 O h1;have hv2:=G8 O h2;have hv3:=G8 O h3;have hv4:=G8 O h4;refine enter func156 O ntmps156 O (.sr (.box O O λw1 b4 n1=>.box O O λw2 b5 n2=>.box O O λw3 b6 n3=>.box O O λw4 b7 n4=>.alloc O F4 λw5 b8 n5=>.alloc O F4 λw6 b9 n6=>.nil ?_));obtain⟨e1,k4,hb4,hs1⟩:=n1;obtain⟨e2,k5,hb5,hs2⟩:=n2;obtain⟨e3,k6,hb6,hs3⟩:=n3;obtain⟨e4,k7,hb7,hs4⟩:=n4;obtain⟨e5,k8,hb8,hs5⟩:=n5;obtain⟨e6,k9,hb9,hs6⟩:=n6;have e56:=e5.trans e6;have e46:=e4.trans e56;have e36:=e3.trans e46;have e26:=e2.trans e36;have x6:=e1.trans e26;have k4:=k4.ext e26;have k5:=k5.ext e36;have k6:=k6.ext e46;have k7:=k7.ext e56;have k8:=k8.ext e6;have hS8:¬ Sx S w.heap.size w6.heap.size b8:=Sx.no (by omega) (by omega);have hS9:¬ Sx S w.heap.size w6.heap.size b9:=Sx.no (by omega) (by omega);have up6:Up (Sx S w.heap.size w6.heap.size) w6:=Sx.up up (aA _) x6.size;have h1:=(h1.par w6.heap.size).ext x6;have h2:=(h2.par w6.heap.size).ext x6;have h3:=(h3.par w6.heap.size).ext x6;have h4:=(h4.par w6.heap.size).ext x6;have hout:∀ {W:World} {v:Value} {n:Int},(eZn (2*L+1)).R (Sx S w.heap.size w6.heap.size) W v n->Zv S n (2*L+1) v W:=λh=>Zv.out h;have hn89:b9≠b8:=by omega
 have hw8:w.heap.size<=b8:=by omega
 have hw9:w.heap.size<=b9:=by omega
 generalize hT:Sx S w.heap.size w6.heap.size=T at *;refine .seq ?_;refine .par follows 9 [.inl u1,.inl u4,.inr (eZ.at T (zc (A6 z1*A6 z4))),.inl u3,.inl u2,.inr (eZ.at T (zc (A6 z3*A6 z2))),.inr (eZ.at T (zc (A6 z1*A6 z4+A6 z3*A6 z2))),.inl u2,.inl u4] [[],[],[(10,0),(11,1)],[],[],[(13,3),(14,4)],[(12,2),(15,5)],[],[]] (by kernel_rfl) ⟨λw e=>((E1 B6 O (k4.ext e) (eZ.csz h1)).eq hv1.symm).ob,λw e=>((E1 B6 O (k7.ext e) (eZ.csz h4)).eq hv4.symm).ob,λw e=>(A4 _ M6 O (M3 (up6.ext e.size) (h1.ext e) (h4.ext e) (by omega) (by omega))).oa,λw e=>((E1 B6 O (k6.ext e) (eZ.csz h3)).eq hv3.symm).ob,λw e=>((E1 B6 O (k5.ext e) (eZ.csz h2)).eq hv2.symm).ob,λw e=>(A4 _ M6 O (M3 (up6.ext e.size) (h3.ext e) (h2.ext e) (by omega) (by omega))).oa,λw e x2 hx2 x5 hx5=>(A4 _ BY8 O (by have:=BS8 (up6.ext e.size) hx2 hx5 (aG (AA4 (AB7 l1 l4)) (by omega)) (aG (AA4 (AB7 l3 l2)) (by omega));rw[D0,D0] at this;exact this)).oa,λw e=>((E1 B6 O (k5.ext e) (eZ.csz h2)).eq hv2.symm).ob,λw e=>((E1 B6 O (k7.ext e) (eZ.csz h4)).eq hv4.symm).ob,trivial⟩ ?_
 intro w7 e7 x2 hx2 x5 hx5 x6' hx6;refine .call _ O M6 O (M3 (up6.ext e7.size) (h2.ext e7) (h4.ext e7) (by omega) (by omega)) λv8 w8 e8 h8=>?_;have e78:=e7.trans e8;have hA:(eZn (2*L+1)).R T w8 x6' (A6 z1*A6 z4+A6 z3*A6 z2):=Zv.of (hx6.ext e8) (sum_lt (AB7 l1 l4) (AB7 l3 l2));have hB:(eZn (2*L+1)).R T w8 v8 (A6 z2*A6 z4):=Zv.of h8 (BJ2 (AB7 l2 l4) (by omega));refine .storeA (E:=eZn (2*L+1)) B6 O O (k8.ext e78) O O hA hS8 λw9 k8' u9 h9=>(.storeA (E:=eZn (2*L+1)) B6 O O ((k9.ext e78).upd u9 hn89) O O (hB.upd u9 hS8) hS9 λw10 k10 u10 h10=>.nil (.ret ?_));exact .plain [_,_] results156 ⟨⟨_,rfl,H5 (E:=eZn (2*L+1)) B6 O O (k8'.upd u10 (Ne.symm hn89)) (h9.upd u10 hS9)⟩,⟨_,rfl,H5 (E:=eZn (2*L+1)) B6 O O k10 h10⟩,trivial⟩ ⟨u10.below (u9.below (x6.trans e78) hw8) hw9,_,_,rfl,hout (h9.upd u10 hS9),hout h10⟩
theorem E_op3:Ent prog 160:=en func160
theorem op3_c{w:World}(hL2:L<=100000000000)(up:Up S w)(h1:Zv S m1 L u1 w)(h2:Zv S m2 L u2 w)(h3:Zv S m3 L u3 w)(h4:Zv S m4 L u4 w) :
  CR prog 160 #[u1,u2,u3,u4] w (Two (Zv S (m1*m3) (2*L+1)) (Zv S (m2*m4) (2*L+1))):=by
 have l1:=h1.lt;have l2:=h2.lt;have l3:=h3.lt;have l4:=h4.lt;obtain⟨z1,h1,rfl,hl1⟩:=h1;obtain⟨z2,h2,rfl,hl2⟩:=h2;obtain⟨z3,h3,rfl,hl3⟩:=h3;obtain⟨z4,h4,rfl,hl4⟩:=h4;have hv1:=G8 O h1;have hv2:=G8 O h2;have hv3:=G8 O h3;have hv4:=G8 O h4;refine enter func160 O ntmps160 O (.sr (.box O O λw1 b4 n1=>.box O O λw2 b5 n2=>.box O O λw3 b6 n3=>.box O O λw4 b7 n4=>.alloc O F4 λw5 b8 n5=>.alloc O F4 λw6 b9 n6=>.nil ?_));obtain⟨e1,k4,hb4,hs1⟩:=n1;obtain⟨e2,k5,hb5,hs2⟩:=n2;obtain⟨e3,k6,hb6,hs3⟩:=n3;obtain⟨e4,k7,hb7,hs4⟩:=n4;obtain⟨e5,k8,hb8,hs5⟩:=n5;obtain⟨e6,k9,hb9,hs6⟩:=n6;have e56:=e5.trans e6;have e46:=e4.trans e56;have e36:=e3.trans e46;have e26:=e2.trans e36;have x6:=e1.trans e26;have k4:=k4.ext e26;have k5:=k5.ext e36;have k6:=k6.ext e46;have k7:=k7.ext e56;have k8:=k8.ext e6;have hS8:¬ Sx S w.heap.size w6.heap.size b8:=Sx.no (by omega) (by omega);have hS9:¬ Sx S w.heap.size w6.heap.size b9:=Sx.no (by omega) (by omega);have up6:Up (Sx S w.heap.size w6.heap.size) w6:=Sx.up up (aA _) x6.size;have h1:=(h1.par w6.heap.size).ext x6;have h2:=(h2.par w6.heap.size).ext x6;have h3:=(h3.par w6.heap.size).ext x6;have h4:=(h4.par w6.heap.size).ext x6;have hout:∀ {W:World} {v:Value} {n:Int},(eZn (2*L+1)).R (Sx S w.heap.size w6.heap.size) W v n->Zv S n (2*L+1) v W:=λh=>Zv.out h;have hn89:b9≠b8:=by omega
 have hw8:w.heap.size<=b8:=by omega
 have hw9:w.heap.size<=b9:=by omega
 generalize hT:Sx S w.heap.size w6.heap.size=T at *;refine .seq ?_;refine .par follows 5 [.inl u1,.inl u3,.inr (eZ.at T (zc (A6 z1*A6 z3))),.inl u2,.inl u4] [[],[],[(10,0),(11,1)],[],[]] (by kernel_rfl) ⟨λw e=>((E1 B6 O (k4.ext e) (eZ.csz h1)).eq hv1.symm).ob,λw e=>((E1 B6 O (k6.ext e) (eZ.csz h3)).eq hv3.symm).ob,λw e=>(A4 _ M6 O (M3 (up6.ext e.size) (h1.ext e) (h3.ext e) (by omega) (by omega))).oa,λw e=>((E1 B6 O (k5.ext e) (eZ.csz h2)).eq hv2.symm).ob,λw e=>((E1 B6 O (k7.ext e) (eZ.csz h4)).eq hv4.symm).ob,trivial⟩ ?_;intro w7 e7 x2 hx2;refine .call _ O M6 O (M3 (up6.ext e7.size) (h2.ext e7) (h4.ext e7) (by omega) (by omega)) λv8 w8 e8 h8=>?_;have e78:=e7.trans e8;have hA:(eZn (2*L+1)).R T w8 x2 (A6 z1*A6 z3):=Zv.of (hx2.ext e8) (BJ2 (AB7 l1 l3) (by omega));have hB:(eZn (2*L+1)).R T w8 v8 (A6 z2*A6 z4):=Zv.of h8 (BJ2 (AB7 l2 l4) (by omega));refine .storeA (E:=eZn (2*L+1)) B6 O O (k8.ext e78) O O hA hS8 λw9 k8' u9 h9=>(.storeA (E:=eZn (2*L+1)) B6 O O ((k9.ext e78).upd u9 hn89) O O (hB.upd u9 hS8) hS9 λw10 k10 u10 h10=>.nil (.ret ?_));exact .plain [_,_] results160 ⟨⟨_,rfl,H5 (E:=eZn (2*L+1)) B6 O O (k8'.upd u10 (Ne.symm hn89)) (h9.upd u10 hS9)⟩,⟨_,rfl,H5 (E:=eZn (2*L+1)) B6 O O k10 h10⟩,trivial⟩ ⟨u10.below (u9.below (x6.trans e78) hw8) hw9,_,_,rfl,hout (h9.upd u10 hS9),hout h10⟩
theorem AH7{q:QV}(h:O5 q=true) : -2147483648<pn q/\pn q<2147483648/\0<pd q/\pd q<2147483648:=by simp only[O5,decide_eq_true_eq] at h;have:=Q8 q;unfold pn pd at *;refine⟨?_,?_,?_,?_⟩<;>split<;>(try split)<;>omega
theorem AB4(h1 : -2147483648<x)(h2:x<2147483648)(h3 : -2147483648<y)(h4:y<2147483648) : -4611686014132420609<=x*y/\x*y<=4611686014132420609:=by
 have h:(x*y).natAbs<=2147483647*2147483647:=by rw[dE];exact dD (by omega) (by omega)
 omega
theorem AK6:Ent prog 92:=en func92
theorem Bd8{w:World}(up:Up S w)(upo:Up T0 w)(ha:eQ.R S w va a)(hb:eQ.R S w vb b)(hla:qok L a)(hlb:qok L b)(hL:1<=L)(hL2:L<=100000000000) :
  CR prog 92 #[va,vb] w (eQ.at T0 (qc (E3 a+E3 b))):=by
 have hva:=G8 O ha;have hvb:=G8 O hb;have hpa:=Q8 a;have hpb:=Q8 b;have hpp:0<pd a*pd b:=dK hpa hpb;have hval:E3 a+E3 b=Rat.divInt (pn a*pd b+pn b*pd a) (pd a*pd b):=by unfold E3;rw[Rat.divInt_add_divInt _ _ (by omega) (by omega)]
 rw[hval];refine enter func92 O ntmps92 O (.sr (.box O O λw1 b2 n1=>.box O O λw2 b3 n2=>.alloc O E8 λw3 b4 n3=>.nil ?_));obtain⟨e1,k2,hb2,hs1⟩:=n1;obtain⟨e2,k3,hb3,hs2⟩:=n2;obtain⟨e3,k4,hb4,hs3⟩:=n3;have x3:=(e1.trans e2).trans e3;have k2:=(k2.ext e2).ext e3;have k3:=k3.ext e3;have hU4:¬ Sx T0 w.heap.size w3.heap.size b4:=Sx.no (by omega) (by omega);have upo3:Up (Sx T0 w.heap.size w3.heap.size) w3:=Sx.up upo (aA _) x3.size;have up3:Up (Sx S w.heap.size w3.heap.size) w3:=Sx.up up (aA _) x3.size;have ha3:=(ha.par w3.heap.size).ext x3;have hb3':=(hb.par w3.heap.size).ext x3;have hout:∀ {W:World} {v:Value} {z:QV},eQ.R (Sx T0 w.heap.size w3.heap.size) W v z->eQ.R T0 W v z:=λh=>h.out;have hw4:w.heap.size<=b4:=by omega
 generalize hT:Sx S w.heap.size w3.heap.size=T at *;generalize hU:Sx T0 w.heap.size w3.heap.size=U at *;refine .sr (.ldA A3 O O k2 (eQ.csz ha) ?_);rw[<-hva];refine .call _ O I1 O (H8 ha3) λv4 w4 e4 h4=>?_;subst h4;have k2:=k2.ext e4;have k3:=k3.ext e4;have k4:=k4.ext e4;have ha4:=ha3.ext e4;have hb4':=hb3'.ext e4;have up4:=up3.ext e4.size;have upo4:=upo3.ext e4.size;have x4:=x3.trans e4;have slow:∀ {W:World},Ext w4 W->CR prog 61 #[.int .u8 43,va,vb] W (eQ.at U (qc (Rat.divInt (pn a*pd b+pn b*pd a) (pd a*pd b)))):=λe =>
  X4 (up4.ext e.size) (upo4.ext e.size) (ha4.ext e) (hb4'.ext e) hla hlb hL hL2 E_op1 O (λu h1 h2 h3 h4=>op1_c hL2 u h1 h2 h3 h4) (by omega)
 unfold N2
 cases hsa:O5 a with
 | false =>
  refine .mv O O (.ext O O O (.ext O O O (.ext O O O (.asg O O (.asg O O (.an O O (.sr (.ldA A3 O O k3 (eQ.csz hb) ?_))))))));rw[<-hvb];refine .call _ O I1 O (H8 hb4') λv5 w5 e5 h5=>?_;subst h5;obtain⟨y1,y2,y3,hy⟩:∃ y1 y2 y3,N2 b=.tuple #[y1,y2,y3]:=by unfold N2;split<;>exact⟨_,_,_,rfl⟩
  rw[hy];refine .mv O O (.ext O O O (.ext O O O (.ext O O O (.asg O O (.asg O O (.an O O (.seq (.sr (.mv O O (.mv O O (.gs O O O O O (.pick O O O (.nil (.condF O (.skip (.sr (.ldA A3 O O (k2.ext e5) (eQ.csz ha) (.ldA A3 O O (k3.ext e5) (eQ.csz hb) ?_))))))))))))))))));rw[<-hva,<-hvb];refine .call _ O I9 O (slow e5) λv6 w6 e6 h6=>(.storeA (E:=eQ) A3 O O ((k4.ext e5).ext e6) O O h6 hU4 λw7 k7 u7 h7=>.nil (.ret ?_));exact .cell results92 O A3 O O k7 h7 ⟨u7.below ((x4.trans e5).trans e6) hw4,hout h7⟩
 | true =>
  refine .mv O O (.ext O O O (.ext O O O (.ext O O O (.asg O O (.asg O O (.an O O ?_))))));refine .sr (.ldA A3 O O k3 (eQ.csz hb) ?_);rw[<-hvb];refine .call _ O I1 O (H8 hb4') λv5 w5 e5 h5=>?_;subst h5;unfold N2
  cases hsb:O5 b with
  | false =>
   refine .mv O O (.ext O O O (.ext O O O (.ext O O O (.asg O O (.asg O O (.an O O ?_))))));refine .seq (.sr (.mv O O (.mv O O (.gr O O O O (.mv O O (.pick O O O (.nil (.condF O (.skip ?_)))))))));refine .sr (.ldA A3 O O (k2.ext e5) (eQ.csz ha) (.ldA A3 O O (k3.ext e5) (eQ.csz hb) ?_));rw[<-hva,<-hvb];refine .call _ O I9 O (slow e5) λv6 w6 e6 h6=>?_;refine .storeA (E:=eQ) A3 O O ((k4.ext e5).ext e6) O O h6 hU4 λw7 k7 u7 h7=>.nil (.ret ?_);exact .cell results92 O A3 O O k7 h7 ⟨u7.below ((x4.trans e5).trans e6) hw4,hout h7⟩
  | true =>
   have ba:=AH7 hsa;have bb:=AH7 hsb;refine .mv O O (.ext O O O (.ext O O O (.ext O O O (.asg O O (.asg O O (.an O O ?_))))));refine .seq (.sr (.mv O O (.mv O O (.gr O O O O (.mv O O (.pick O O O (.nil (.condT O (.sr ?_)))))))));generalize pn a=an at *;generalize pn b=bn at *;generalize pd a=ad at *;generalize pd b=bd at *;have m1:=AB4 (x:=an) (y:=bd) (by omega) (by omega) (by omega) (by omega);have m2:=AB4 (x:=bn) (y:=ad) (by omega) (by omega) (by omega) (by omega);have m3:=AB4 (x:=ad) (y:=bd) (by omega) (by omega) (by omega) (by omega);have m4:=AB4 (x:=an) (y:=bn) (by omega) (by omega) (by omega) (by omega);refine .mv O O (.mv O O (.mul O O O (.mv O O (.mv O O (.mul O O O (.add O O O (.mv O O (.mv O O (.mul O O O ?_)))))))));rw[wI (n:=an*bd) (by omega),wI (n:=bn*ad) (by omega),wI (n:=ad*bd) (by omega),wI (n:=an*bd+bn*ad) (by omega)];refine .call _ O Y6 O (V9 (upo4.ext e5.size) hpp (by omega) (by omega) (by omega)) λv6 w6 e6 h6=>?_;refine .storeA (E:=eQ) A3 O O ((k4.ext e5).ext e6) O O h6 hU4 λw7 k7 u7 h7=>.nil (.ret ?_);exact .cell results92 O A3 O O k7 h7 ⟨u7.below ((x4.trans e5).trans e6) hw4,hout h7⟩
theorem AK2{w:World}(up:Up S w)(ha:eQ.R S w va a)(hb:eQ.R S w vb b)(hla:qok L a)(hlb:qok L b)(hL:1<=L)(hL2:L<=100000000000) :
  CR prog 92 #[va,vb] w (eQ.at S (qc (E3 a+E3 b))):=Bd8 up up ha hb hla hlb hL hL2
theorem BF1:Ent prog 68:=en func68
theorem Bd6{w:World}(up:Up S w)(upo:Up T0 w)(ha:eQ.R S w va a)(hb:eQ.R S w vb b)(hla:qok L a)(hlb:qok L b)(hL:1<=L)(hL2:L<=100000000000) :
  CR prog 68 #[va,vb] w (eQ.at T0 (qc (E3 a*E3 b))):=by
 have hva:=G8 O ha;have hvb:=G8 O hb;have hpa:=Q8 a;have hpb:=Q8 b;have hpp:0<pd a*pd b:=dK hpa hpb;have hval:E3 a*E3 b=Rat.divInt (pn a*pn b) (pd a*pd b):=by unfold E3;rw[iH]
 rw[hval];refine enter func68 O ntmps68 O (.sr (.box O O λw1 b2 n1=>.box O O λw2 b3 n2=>.alloc O E8 λw3 b4 n3=>.nil ?_));obtain⟨e1,k2,hb2,hs1⟩:=n1;obtain⟨e2,k3,hb3,hs2⟩:=n2;obtain⟨e3,k4,hb4,hs3⟩:=n3;have x3:=(e1.trans e2).trans e3;have k2:=(k2.ext e2).ext e3;have k3:=k3.ext e3;have hU4:¬ Sx T0 w.heap.size w3.heap.size b4:=Sx.no (by omega) (by omega);have upo3:Up (Sx T0 w.heap.size w3.heap.size) w3:=Sx.up upo (aA _) x3.size;have up3:Up (Sx S w.heap.size w3.heap.size) w3:=Sx.up up (aA _) x3.size;have ha3:=(ha.par w3.heap.size).ext x3;have hb3':=(hb.par w3.heap.size).ext x3;have hout:∀ {W:World} {v:Value} {z:QV},eQ.R (Sx T0 w.heap.size w3.heap.size) W v z->eQ.R T0 W v z:=λh=>h.out;have hw4:w.heap.size<=b4:=by omega
 generalize hT:Sx S w.heap.size w3.heap.size=T at *;generalize hU:Sx T0 w.heap.size w3.heap.size=U at *;refine .sr (.ldA A3 O O k2 (eQ.csz ha) ?_);rw[<-hva];refine .call _ O I1 O (H8 ha3) λv4 w4 e4 h4=>?_;subst h4;have k2:=k2.ext e4;have k3:=k3.ext e4;have k4:=k4.ext e4;have ha4:=ha3.ext e4;have hb4':=hb3'.ext e4;have up4:=up3.ext e4.size;have upo4:=upo3.ext e4.size;have x4:=x3.trans e4;have slow:∀ {W:World},Ext w4 W->CR prog 61 #[.int .u8 42,va,vb] W (eQ.at U (qc (Rat.divInt (pn a*pn b) (pd a*pd b)))):=λe =>
  X4 (up4.ext e.size) (upo4.ext e.size) (ha4.ext e) (hb4'.ext e) hla hlb hL hL2 E_op3 O (λu h1 h2 h3 h4=>op3_c hL2 u h1 h2 h3 h4) (by omega)
 unfold N2
 cases hsa:O5 a with
 | false =>
  refine .mv O O (.ext O O O (.ext O O O (.ext O O O (.asg O O (.asg O O (.an O O (.sr (.ldA A3 O O k3 (eQ.csz hb) ?_))))))));rw[<-hvb];refine .call _ O I1 O (H8 hb4') λv5 w5 e5 h5=>?_;subst h5;obtain⟨y1,y2,y3,hy⟩:∃ y1 y2 y3,N2 b=.tuple #[y1,y2,y3]:=by unfold N2;split<;>exact⟨_,_,_,rfl⟩
  rw[hy];refine .mv O O (.ext O O O (.ext O O O (.ext O O O (.asg O O (.asg O O (.an O O (.seq (.sr (.mv O O (.mv O O (.gs O O O O O (.pick O O O (.nil (.condF O (.skip (.sr (.ldA A3 O O (k2.ext e5) (eQ.csz ha) (.ldA A3 O O (k3.ext e5) (eQ.csz hb) ?_))))))))))))))))));rw[<-hva,<-hvb];refine .call _ O I9 O (slow e5) λv6 w6 e6 h6=>(.storeA (E:=eQ) A3 O O ((k4.ext e5).ext e6) O O h6 hU4 λw7 k7 u7 h7=>.nil (.ret ?_));exact .cell results68 O A3 O O k7 h7 ⟨u7.below ((x4.trans e5).trans e6) hw4,hout h7⟩
 | true =>
  refine .mv O O (.ext O O O (.ext O O O (.ext O O O (.asg O O (.asg O O (.an O O (.sr (.ldA A3 O O k3 (eQ.csz hb) ?_))))))));rw[<-hvb];refine .call _ O I1 O (H8 hb4') λv5 w5 e5 h5=>?_;subst h5;unfold N2
  cases hsb:O5 b with
  | false =>
   refine .mv O O (.ext O O O (.ext O O O (.ext O O O (.asg O O (.asg O O (.an O O (.seq (.sr (.mv O O (.mv O O (.gr O O O O (.mv O O (.pick O O O (.nil (.condF O (.skip ?_))))))))))))))));refine .sr (.ldA A3 O O (k2.ext e5) (eQ.csz ha) (.ldA A3 O O (k3.ext e5) (eQ.csz hb) ?_));rw[<-hva,<-hvb];refine .call _ O I9 O (slow e5) λv6 w6 e6 h6=>?_;refine .storeA (E:=eQ) A3 O O ((k4.ext e5).ext e6) O O h6 hU4 λw7 k7 u7 h7=>.nil (.ret ?_);exact .cell results68 O A3 O O k7 h7 ⟨u7.below ((x4.trans e5).trans e6) hw4,hout h7⟩
  | true =>
   have ba:=AH7 hsa;have bb:=AH7 hsb;refine .mv O O (.ext O O O (.ext O O O (.ext O O O (.asg O O (.asg O O (.an O O ?_))))));refine .seq (.sr (.mv O O (.mv O O (.gr O O O O (.mv O O (.pick O O O (.nil (.condT O (.sr ?_)))))))));generalize pn a=an at *;generalize pn b=bn at *;generalize pd a=ad at *;generalize pd b=bd at *;have m1:=AB4 (x:=an) (y:=bd) (by omega) (by omega) (by omega) (by omega);have m2:=AB4 (x:=bn) (y:=ad) (by omega) (by omega) (by omega) (by omega);have m3:=AB4 (x:=ad) (y:=bd) (by omega) (by omega) (by omega) (by omega);have m4:=AB4 (x:=an) (y:=bn) (by omega) (by omega) (by omega) (by omega);refine .mv O O (.mv O O (.mul O O O (.mv O O (.mv O O (.mul O O O ?_)))));rw[wI (n:=an*bn) (by omega),wI (n:=ad*bd) (by omega)];refine .call _ O Y6 O (V9 (upo4.ext e5.size) hpp (by omega) (by omega) (by omega)) λv6 w6 e6 h6=>?_;refine .storeA (E:=eQ) A3 O O ((k4.ext e5).ext e6) O O h6 hU4 λw7 k7 u7 h7=>.nil (.ret ?_);exact .cell results68 O A3 O O k7 h7 ⟨u7.below ((x4.trans e5).trans e6) hw4,hout h7⟩
theorem BB7{w:World}(up:Up S w)(ha:eQ.R S w va a)(hb:eQ.R S w vb b)(hla:qok L a)(hlb:qok L b)(hL:1<=L)(hL2:L<=100000000000) :
  CR prog 68 #[va,vb] w (eQ.at S (qc (E3 a*E3 b))):=Bd6 up up ha hb hla hlb hL hL2
theorem E_op2:Ent prog 158:=en func158
theorem op2_c{w:World}(hL2:L<=100000000000)(up:Up S w)(h1:Zv S m1 L u1 w)(h2:Zv S m2 L u2 w)(h3:Zv S m3 L u3 w)(h4:Zv S m4 L u4 w) :
  CR prog 158 #[u1,u2,u3,u4] w (Two (Zv S (m1*m4-m3*m2) (2*L+1)) (Zv S (m2*m4) (2*L+1))):=by
 have l1:=h1.lt;have l2:=h2.lt;have l3:=h3.lt;have l4:=h4.lt;obtain⟨z1,h1,rfl,hl1⟩:=h1;obtain⟨z2,h2,rfl,hl2⟩:=h2;obtain⟨z3,h3,rfl,hl3⟩:=h3;obtain⟨z4,h4,rfl,hl4⟩:=h4;have hv1:=G8 O h1;have hv2:=G8 O h2;have hv3:=G8 O h3;have hv4:=G8 O h4;refine enter func158 O ntmps158 O (.sr (.box O O λw1 b4 n1=>.box O O λw2 b5 n2=>.box O O λw3 b6 n3=>.box O O λw4 b7 n4=>.alloc O F4 λw5 b8 n5=>.alloc O F4 λw6 b9 n6=>.nil ?_));obtain⟨e1,k4,hb4,hs1⟩:=n1;obtain⟨e2,k5,hb5,hs2⟩:=n2;obtain⟨e3,k6,hb6,hs3⟩:=n3;obtain⟨e4,k7,hb7,hs4⟩:=n4;obtain⟨e5,k8,hb8,hs5⟩:=n5;obtain⟨e6,k9,hb9,hs6⟩:=n6;have e56:=e5.trans e6;have e46:=e4.trans e56;have e36:=e3.trans e46;have e26:=e2.trans e36;have x6:=e1.trans e26;have k4:=k4.ext e26;have k5:=k5.ext e36;have k6:=k6.ext e46;have k7:=k7.ext e56;have k8:=k8.ext e6;have hS8:¬ Sx S w.heap.size w6.heap.size b8:=Sx.no (by omega) (by omega);have hS9:¬ Sx S w.heap.size w6.heap.size b9:=Sx.no (by omega) (by omega);have up6:Up (Sx S w.heap.size w6.heap.size) w6:=Sx.up up (aA _) x6.size;have h1:=(h1.par w6.heap.size).ext x6;have h2:=(h2.par w6.heap.size).ext x6;have h3:=(h3.par w6.heap.size).ext x6;have h4:=(h4.par w6.heap.size).ext x6;have hout:∀ {W:World} {v:Value} {n:Int},(eZn (2*L+1)).R (Sx S w.heap.size w6.heap.size) W v n->Zv S n (2*L+1) v W:=λh=>Zv.out h;have hn89:b9≠b8:=by omega
 have hw8:w.heap.size<=b8:=by omega
 have hw9:w.heap.size<=b9:=by omega
 generalize hT:Sx S w.heap.size w6.heap.size=T at *;refine .seq ?_;refine .par follows 9 [.inl u1,.inl u4,.inr (eZ.at T (zc (A6 z1*A6 z4))),.inl u3,.inl u2,.inr (eZ.at T (zc (A6 z3*A6 z2))),.inr (eZ.at T (zc (A6 z1*A6 z4-A6 z3*A6 z2))),.inl u2,.inl u4] [[],[],[(10,0),(11,1)],[],[],[(13,3),(14,4)],[(12,2),(15,5)],[],[]] (by kernel_rfl) ⟨λw e=>((E1 B6 O (k4.ext e) (eZ.csz h1)).eq hv1.symm).ob,λw e=>((E1 B6 O (k7.ext e) (eZ.csz h4)).eq hv4.symm).ob,λw e=>(A4 _ M6 O (M3 (up6.ext e.size) (h1.ext e) (h4.ext e) (by omega) (by omega))).oa,λw e=>((E1 B6 O (k6.ext e) (eZ.csz h3)).eq hv3.symm).ob,λw e=>((E1 B6 O (k5.ext e) (eZ.csz h2)).eq hv2.symm).ob,λw e=>(A4 _ M6 O (M3 (up6.ext e.size) (h3.ext e) (h2.ext e) (by omega) (by omega))).oa,λw e x2 hx2 x5 hx5=>(A4 _ BY6 O (by have:=BS6 (up6.ext e.size) hx2 hx5 (aG (AA4 (AB7 l1 l4)) (by omega)) (aG (AA4 (AB7 l3 l2)) (by omega));rw[D0,D0] at this;exact this)).oa,λw e=>((E1 B6 O (k5.ext e) (eZ.csz h2)).eq hv2.symm).ob,λw e=>((E1 B6 O (k7.ext e) (eZ.csz h4)).eq hv4.symm).ob,trivial⟩ ?_
 intro w7 e7 x2 hx2 x5 hx5 x6' hx6;refine .call _ O M6 O (M3 (up6.ext e7.size) (h2.ext e7) (h4.ext e7) (by omega) (by omega)) λv8 w8 e8 h8=>?_;have e78:=e7.trans e8;have hA:(eZn (2*L+1)).R T w8 x6' (A6 z1*A6 z4-A6 z3*A6 z2):=Zv.of (hx6.ext e8) (dif_lt (AB7 l1 l4) (AB7 l3 l2));have hB:(eZn (2*L+1)).R T w8 v8 (A6 z2*A6 z4):=Zv.of h8 (BJ2 (AB7 l2 l4) (by omega));refine .storeA (E:=eZn (2*L+1)) B6 O O (k8.ext e78) O O hA hS8 λw9 k8' u9 h9=>(.storeA (E:=eZn (2*L+1)) B6 O O ((k9.ext e78).upd u9 hn89) O O (hB.upd u9 hS8) hS9 λw10 k10 u10 h10=>.nil (.ret ?_));exact .plain [_,_] results158 ⟨⟨_,rfl,H5 (E:=eZn (2*L+1)) B6 O O (k8'.upd u10 (Ne.symm hn89)) (h9.upd u10 hS9)⟩,⟨_,rfl,H5 (E:=eZn (2*L+1)) B6 O O k10 h10⟩,trivial⟩ ⟨u10.below (u9.below (x6.trans e78) hw8) hw9,_,_,rfl,hout (h9.upd u10 hS9),hout h10⟩
theorem AE1:Ent prog 20:=en func20
theorem BB4{w:World}(up:Up S w)(upo:Up T0 w)(ha:eQ.R S w va a)(hb:eQ.R S w vb b)(hla:qok L a)(hlb:qok L b)(hL:1<=L)(hL2:L<=100000000000) :
  CR prog 20 #[va,vb] w (eQ.at T0 (qc (E3 a-E3 b))):=by
 have hva:=G8 O ha;have hvb:=G8 O hb;have hpa:=Q8 a;have hpb:=Q8 b;have hpp:0<pd a*pd b:=dK hpa hpb;have hval:E3 a-E3 b=Rat.divInt (pn a*pd b-pn b*pd a) (pd a*pd b):=by unfold E3;rw[Rat.divInt_sub_divInt _ _ (by omega) (by omega)]
 rw[hval];refine enter func20 O ntmps20 O (.sr (.box O O λw1 b2 n1=>.box O O λw2 b3 n2=>.alloc O E8 λw3 b4 n3=>.nil ?_));obtain⟨e1,k2,hb2,hs1⟩:=n1;obtain⟨e2,k3,hb3,hs2⟩:=n2;obtain⟨e3,k4,hb4,hs3⟩:=n3;have x3:=(e1.trans e2).trans e3;have k2:=(k2.ext e2).ext e3;have k3:=k3.ext e3;have hU4:¬ Sx T0 w.heap.size w3.heap.size b4:=Sx.no (by omega) (by omega);have upo3:Up (Sx T0 w.heap.size w3.heap.size) w3:=Sx.up upo (aA _) x3.size;have up3:Up (Sx S w.heap.size w3.heap.size) w3:=Sx.up up (aA _) x3.size;have ha3:=(ha.par w3.heap.size).ext x3;have hb3':=(hb.par w3.heap.size).ext x3;have hout:∀ {W:World} {v:Value} {z:QV},eQ.R (Sx T0 w.heap.size w3.heap.size) W v z->eQ.R T0 W v z:=λh=>h.out;have hw4:w.heap.size<=b4:=by omega
 generalize hT:Sx S w.heap.size w3.heap.size=T at *;generalize hU:Sx T0 w.heap.size w3.heap.size=U at *;refine .sr (.ldA A3 O O k2 (eQ.csz ha) ?_);rw[<-hva];refine .call _ O I1 O (H8 ha3) λv4 w4 e4 h4=>?_;subst h4;have k2:=k2.ext e4;have k3:=k3.ext e4;have k4:=k4.ext e4;have ha4:=ha3.ext e4;have hb4':=hb3'.ext e4;have up4:=up3.ext e4.size;have upo4:=upo3.ext e4.size;have x4:=x3.trans e4;have slow:∀ {W:World},Ext w4 W->CR prog 61 #[.int .u8 45,va,vb] W (eQ.at U (qc (Rat.divInt (pn a*pd b-pn b*pd a) (pd a*pd b)))):=λe =>
  X4 (up4.ext e.size) (upo4.ext e.size) (ha4.ext e) (hb4'.ext e) hla hlb hL hL2 E_op2 O (λu h1 h2 h3 h4=>op2_c hL2 u h1 h2 h3 h4) (by omega)
 unfold N2
 cases hsa:O5 a with
 | false =>
  refine .mv O O (.ext O O O (.ext O O O (.ext O O O (.asg O O (.asg O O (.an O O (.sr (.ldA A3 O O k3 (eQ.csz hb) ?_))))))));rw[<-hvb];refine .call _ O I1 O (H8 hb4') λv5 w5 e5 h5=>?_;subst h5;obtain⟨y1,y2,y3,hy⟩:∃ y1 y2 y3,N2 b=.tuple #[y1,y2,y3]:=by unfold N2;split<;>exact⟨_,_,_,rfl⟩
  rw[hy];refine .mv O O (.ext O O O (.ext O O O (.ext O O O (.asg O O (.asg O O (.an O O (.seq (.sr (.mv O O (.mv O O (.gs O O O O O (.pick O O O (.nil (.condF O (.skip (.sr (.ldA A3 O O (k2.ext e5) (eQ.csz ha) (.ldA A3 O O (k3.ext e5) (eQ.csz hb) ?_))))))))))))))))));rw[<-hva,<-hvb];refine .call _ O I9 O (slow e5) λv6 w6 e6 h6=>(.storeA (E:=eQ) A3 O O ((k4.ext e5).ext e6) O O h6 hU4 λw7 k7 u7 h7=>.nil (.ret ?_));exact .cell results20 O A3 O O k7 h7 ⟨u7.below ((x4.trans e5).trans e6) hw4,hout h7⟩
 | true =>
  refine .mv O O (.ext O O O (.ext O O O (.ext O O O (.asg O O (.asg O O (.an O O ?_))))));refine .sr (.ldA A3 O O k3 (eQ.csz hb) ?_);rw[<-hvb];refine .call _ O I1 O (H8 hb4') λv5 w5 e5 h5=>?_;subst h5;unfold N2
  cases hsb:O5 b with
  | false =>
   refine .mv O O (.ext O O O (.ext O O O (.ext O O O (.asg O O (.asg O O (.an O O ?_))))));refine .seq (.sr (.mv O O (.mv O O (.gr O O O O (.mv O O (.pick O O O (.nil (.condF O (.skip ?_)))))))));refine .sr (.ldA A3 O O (k2.ext e5) (eQ.csz ha) (.ldA A3 O O (k3.ext e5) (eQ.csz hb) ?_));rw[<-hva,<-hvb];refine .call _ O I9 O (slow e5) λv6 w6 e6 h6=>?_;refine .storeA (E:=eQ) A3 O O ((k4.ext e5).ext e6) O O h6 hU4 λw7 k7 u7 h7=>.nil (.ret ?_);exact .cell results20 O A3 O O k7 h7 ⟨u7.below ((x4.trans e5).trans e6) hw4,hout h7⟩
  | true =>
   have ba:=AH7 hsa;have bb:=AH7 hsb;refine .mv O O (.ext O O O (.ext O O O (.ext O O O (.asg O O (.asg O O (.an O O ?_))))));refine .seq (.sr (.mv O O (.mv O O (.gr O O O O (.mv O O (.pick O O O (.nil (.condT O (.sr ?_)))))))));generalize pn a=an at *;generalize pn b=bn at *;generalize pd a=ad at *;generalize pd b=bd at *;have m1:=AB4 (x:=an) (y:=bd) (by omega) (by omega) (by omega) (by omega);have m2:=AB4 (x:=bn) (y:=ad) (by omega) (by omega) (by omega) (by omega);have m3:=AB4 (x:=ad) (y:=bd) (by omega) (by omega) (by omega) (by omega);have m4:=AB4 (x:=an) (y:=bn) (by omega) (by omega) (by omega) (by omega);refine .mv O O (.mv O O (.mul O O O (.mv O O (.mv O O (.mul O O O (.sub O O O (.mv O O (.mv O O (.mul O O O ?_)))))))));rw[wI (n:=an*bd) (by omega),wI (n:=bn*ad) (by omega),wI (n:=ad*bd) (by omega),wI (n:=an*bd-bn*ad) (by omega)];refine .call _ O Y6 O (V9 (upo4.ext e5.size) hpp (by omega) (by omega) (by omega)) λv6 w6 e6 h6=>?_;refine .storeA (E:=eQ) A3 O O ((k4.ext e5).ext e6) O O h6 hU4 λw7 k7 u7 h7=>.nil (.ret ?_);exact .cell results20 O A3 O O k7 h7 ⟨u7.below ((x4.trans e5).trans e6) hw4,hout h7⟩
theorem AK1{w:World}(up:Up S w)(ha:eQ.R S w va a)(hb:eQ.R S w vb b)(hla:qok L a)(hlb:qok L b)(hL:1<=L)(hL2:L<=100000000000) :
  CR prog 20 #[va,vb] w (eQ.at S (qc (E3 a-E3 b))):=BB4 up up ha hb hla hlb hL hL2
theorem I2:Ent prog 22:=en func22
theorem H9{w:World}{n:Int}(up:Up S w)(h1 : -9223372036854775808<=n)(h2:n<=9223372036854775807):CR prog 22 #[iW n] w (eQ.at S (qc (n:Rat))):=by
 refine enter func22 O ntmps22 O (.sr (.alloc O E8 λw1 b1 n1=>.nil ?_));obtain⟨e1,k1,hb1,hs1⟩:=n1;have hS:¬ Sx S w.heap.size w1.heap.size b1:=Sx.no (by omega) (by omega);have up1:Up (Sx S w.heap.size w1.heap.size) w1:=Sx.up up (aA _) e1.size;refine .sr (.mv O O (.call _ O H4 O (H1 up1 h1 h2) λv2 w2 e2 h2=>?_));obtain⟨s,rfl,hs⟩:=h2;refine .bld _ O O BQ4 ?_;have hq:eQ.R (Sx S w.heap.size w1.heap.size) w2 (.agg #[.bool (zc n).neg,s,.bool false,.slice none 0 0]) (qc (n:Rat)):=by rw[Bu3];exact⟨s,_,rfl,hs,RL.nil⟩
 refine .storeA (E:=eQ) A3 O O (k1.ext e2) O O hq hS λw3 k3 u3 h3=>.nil (.ret ?_);exact .cell results22 O A3 O O k3 h3 ⟨u3.below (e1.trans e2) (by omega),h3.out⟩
theorem AE2:Ent prog 62:=en func62
theorem AQ5{w:World}(up:Up S w)(upo:Up T0 w)(ha:eQ.R S w va a)(hla:qok L a)(hL:1<=L)(hL2:L<=1000000000000):CR prog 62 #[va] w (eQ.at T0 (qc (E3 a))):=by
 have hva:=G8 O ha;have hpa:=Q8 a;refine enter func62 O ntmps62 O ?_;refine .sr (.box O O λw1 b1 n1=>.alloc O E8 λw2 b2 n2=>.nil ?_);obtain⟨e1,k1,hb1,hs1⟩:=n1;obtain⟨e2,k2,hb2,hs2⟩:=n2;have x2:=e1.trans e2;have k1:=k1.ext e2;have hS:¬ Sx T0 w.heap.size w2.heap.size b2:=Sx.no (by omega) (by omega);have upo2:Up (Sx T0 w.heap.size w2.heap.size) w2:=Sx.up upo (aA _) x2.size;have up2:Up (Sx S w.heap.size w2.heap.size) w2:=Sx.up up (aA _) x2.size;have ha2:=(ha.par w2.heap.size).ext x2;have hout:∀ {W:World} {v:Value} {z:QV},eQ.R (Sx T0 w.heap.size w2.heap.size) W v z->eQ.R T0 W v z:=λh=>h.out;generalize hT:Sx S w.heap.size w2.heap.size=T at *;generalize hU:Sx T0 w.heap.size w2.heap.size=U at *;refine .seq (.sr (.ldA A3 O O k1 (eQ.csz ha) ?_));rw[<-hva];refine .call _ O I1 O (H8 ha2) λv3 w3 e3 h3=>?_;subst h3;unfold N2
 cases hsa:O5 a with
 | true =>
  have ba:=AH7 hsa;refine .mv O O (.ext O O O (.ext O O O (.ext O O O (.asg O O (.asg O O (.an O O ?_))))));refine .sr (.mv O O (.nil (.condT O (.sr (.mv O O (.mv O O ?_))))));refine .call _ O Y6 O (V9 (upo2.ext e3.size) hpa (by omega) (by omega) (by omega)) λv4 w4 e4 h4=>?_;refine .storeA (E:=eQ) A3 O O ((k2.ext e3).ext e4) O O h4 hS λw5 k5 u5 h5=>.nil (.ret ?_);exact .cell results62 O A3 O O k5 h5 ⟨u5.below ((x2.trans e3).trans e4) (by omega),hout h5⟩
 | false =>
  refine .mv O O (.ext O O O (.ext O O O (.ext O O O (.asg O O (.asg O O (.an O O (.sr (.mv O O (.nil (.condF O (.skip (.sr (.ldA A3 O O (k1.ext e3) (eQ.csz ha) ?_)))))))))))));rw[<-hva];refine .call _ O AU2 O (AS9 (up2.ext e3.size) (ha2.ext e3) hla hL hL2) λv4 w4 e4 h4=>?_;obtain⟨u1,u2,rfl,h1,h2⟩:=h4;refine .ext O O O (.ext O O O (.call _ O AP3 O (AO6 ((up2.ext e3.size).ext e4.size) ((upo2.ext e3.size).ext e4.size) h1 h2 (by omega) hL2) λv5 w5 e5 h5=>(.storeA (E:=eQ) A3 O O (((k2.ext e3).ext e4).ext e5) O O h5 hS λw6 k6 u6 h6=>.nil (.ret ?_))));exact .cell results62 O A3 O O k6 h6 ⟨u6.below (((x2.trans e3).trans e4).trans e5) (by omega),hout h6⟩
theorem AQ6{w:World}(up:Up S w)(ha:eQ.R S w va a)(hla:qok L a)(hL:1<=L)(hL2:L<=1000000000000):CR prog 62 #[va] w (eQ.at S (qc (E3 a))):=AQ5 up up ha hla hL hL2
theorem AN4:Ent prog 15:=en func15
theorem AM5{w:World}(ha:eQ.R S w va a):CR prog 15 #[va] w (Is (iW (BM7 (E3 a)))):=by
 rw[BJ8];obtain⟨s,t,rfl,hn,hd⟩:=AG1 ha;refine enter func15 O ntmps15 O (.sr (.box O O λw1 b1 n1=>.an O O ?_));obtain⟨e1,k1,hb1,hs1⟩:=n1;refine .seq (.sr (.fa AC1 O O (.ldN [.bool a.den.neg,t] B6 rfl rfl k1 (by intro j u hu;match j with | 0=>exact hu | 1=>exact hu | j+2=>simp at hu) (.call _ rfl AC7 O (AA5 (hd.ext e1)) λv2 w2 e2 h2=>?_))))
 subst h2;have x2:=e1.trans e2;by_cases h0:A6 a.den<0
 ·refine .lssT rfl rfl rfl (by rw[cC h0];decide) (.nil (.condT rfl (.sr (.fa AC2 rfl rfl (.ldN [.bool a.num.neg,s] B6 rfl rfl (k1.ext e2) (by intro j u hu;match j with | 0=>exact hu | 1=>exact hu | j+2=>simp at hu) (.call _ rfl AC7 rfl (AA5 (hn.ext x2)) λv3 w3 e3 h3=>?_))))))
  subst h3;refine .neg O O (.an O O (.ret ?_));have hp:pn a = -A6 a.num:=by unfold pn;rw[if_pos h0]
  refine .plain [_] results15 ⟨rfl,trivial⟩ ⟨x2.trans e3,isI ?_⟩;rw[hp,Int.sign_neg];have : -1<=(A6 a.num).sign/\(A6 a.num).sign<=1:=by
   rcases fO (A6 a.num) 0 with h | h | h
   ·rw[cC h];decide
   ·rw[h];decide
   ·rw[bZ h];decide
  rw[wI (by omega),fS]
 ·have hs:¬ (A6 a.den).sign<0:=λh=>h0 (Int.sign_neg_iff.1 h);refine .lssF rfl rfl rfl hs (.nil (.condF O (.skip (.sr (.fa AC2 O O (.ldN [.bool a.num.neg,s] B6 rfl rfl (k1.ext e2) (by intro j u hu;match j with | 0=>exact hu | 1=>exact hu | j+2=>simp at hu) (.call _ rfl AC7 O (AA5 (hn.ext x2)) λv3 w3 e3 h3=>?_)))))))
  subst h3;refine .an O O (.ret ?_);have hp:pn a=A6 a.num:=by unfold pn;rw[if_neg h0]
  exact .plain [_] results15 ⟨rfl,trivial⟩ ⟨x2.trans e3,isI (by rw[hp])⟩
theorem BY9:Ent prog 271:=en func271
theorem BT0{w:World}{n' c':Nat}{a a':Option Addr}(ha:va=.slice a n c)(hb:vb=.slice a' n' c'):CR prog 271 #[va,vb] w (λv w'=>∃ b1 b2,v=.func (.func 272) #[] #[pW b1,pW b2] /\
  Blk w' b1 26 #[va]/\Blk w' b2 26 #[vb]/\w.heap.size<=b1/\w.heap.size<=b2):=by
 subst ha;subst hb;refine enter func271 O ntmps271 O (.sr (.box O O λw1 b1 n1=>?_));obtain⟨e1,k1,hb1,hs1⟩:=n1;refine .box O O λw2 b2 n2=>.an O O ?_;obtain⟨e2,k2,hb2,hs2⟩:=n2;refine .sr (.mkf [] [_,_] O O O O (.an O O (.ret ?_)));exact .p1 _ results271 O ⟨e1.trans e2,b1,b2,rfl,k1.ext e2,k2,by omega,by have:=e1.size;omega⟩
theorem B0{l:List α}{z:α}(h:k<l.length):l[k]?=some (l.getD k z):=by rw[aF,aE h];rfl
theorem AF9{l:List α}{z:α}(h:l.length<=k):l.getD k z=z:=by rw[aF,aH h];rfl
theorem Bq0:Ent prog 272:=en func272
theorem Bl7{a b:List QV}{esa esb:List Value}{b1 b2:Nat}(hla:a.length<=9223372036854775806)(hlb:b.length<=9223372036854775806):Bp9 prog 272 #[pW b1,pW b2] (max a.length b.length)
  (λk=>[esa.getD k zq,esb.getD k zq]) (λW=>Blk W b1 26 #[va]/\Blk W b2 26 #[vb]/\EsR eQ S W va esa a/\EsR eQ S W vb esb b):=by
 intro l J X stJ stX hF hy W hJ;have hF0:=hF 0 W hJ;refine U8 func272 O ntmps272 O (.sr (.ld C2 O O hF0.1 O (.lenR C9 O O (hF0.2.2.1.toR (hsz:=by decide)) (.ld C2 O O hF0.2.1 O (.lenR C9 O O (hF0.2.2.2.toR (hsz:=by decide)) (.max_ O O O (.mv O O (.nil (.block (.loop (α:=Nat) (λk=>[(12,iW (k:Nat)),(11,iW ((max a.length b.length:Nat):Int)),(0,.func (.yield l) #[] #[]),(1,pW b1),(2,pW b2)]) (λk W=>J k W/\k<=max a.length b.length) (λk=>max a.length b.length-k) 0 ?_ ?_ ?_))))))))))
 ·refine B7 O (B7 ?_ (lkA O));show some (Value.int .i64 (max (a.length:Int) (b.length:Int)))=_;rw[show (max (a.length:Int) (b.length:Int))=((max a.length b.length:Nat):Int) by omega]
 ·exact⟨hJ,aC _⟩
 ·rintro k W ⟨hJ,hk⟩;have hF:=hF k W hJ;obtain⟨hB1,hB2,hA,hB⟩:=hF;by_cases hlt:k<max a.length b.length
  ·refine .sr (.lssT O O O (by omega) (.nil (.seq (.condT O (.skip (.seq (.block (.sr (.mv O O (.an O O (.sr (.alloc O E8 λw1 c5 n1=>.alloc O E8 λw2 c6 n2=>.nil ?_))))))))))));obtain⟨e1,k5,hc5,hs1⟩:=n1;obtain⟨e2,k6,hc6,hs2⟩:=n2;have x2:=e1.trans e2;have k5:=k5.ext e2;have hxa:=ER.lt eQ (hA.get AF1 k);have hxb:=ER.lt eQ (hB.get AF1 k);have hva:=G8 O hxa;have hvb:=G8 O hxb;refine .mid (α:=Unit) (λ_=>[(5,pW c5),(6,pW c6),(4,iW (k:Nat)),(12,iW (k:Nat)),(11,iW ((max a.length b.length:Nat):Int)),(0,.func (.yield l) #[] #[]),(1,pW b1),(2,pW b2)])
    (λ_ W'=>Ext W W'/\Blk W' c5 39 (esa.getD k zq).cells/\Blk W' c6 39 zq.cells) ?_ ?_
   ·refine .sr (.mv O O (.ld C2 O O (hB1.ext x2) O (.lenR C9 O O ((hA.ext x2).toR (hsz:=by decide)) ?_)));by_cases hlt:k<a.length
    ·refine .lssT O O O (by omega) (.nil (.condT O (.region (.ld C2 O O (hB1.ext x2) O (.mv O O (.ixX C9 A3 O O (hA.ext x2) O (B0 (z:=zq) (by rw[hA.1.1];exact hlt)) λp hp=>.ldX (E:=eQ) A3 O O hp (hxa.ext x2) (.storeA (E:=eQ) A3 O O k5 O O (hxa.ext x2) (λh=>by have:=h.2;omega) λw3 k3 u3 h3=>.nil ⟨rfl,(),?_,u3.below x2 (by omega),k3,k6.upd u3 (by omega)⟩)))))));exact lkA rfl
    ·refine .lssF O O O (by omega) (.nil (.condF O (.skip ⟨rfl,(),?_,x2,?_,k6⟩)))
     ·exact lkA rfl
     ·rw[AF9 (by rw[hA.1.1];omega)];exact k5
   ·rintro _ W' ⟨x3,k5,k6⟩;refine .mid (α:=Unit) (λ_=>[(5,pW c5),(6,pW c6),(12,iW (k:Nat)),(11,iW ((max a.length b.length:Nat):Int)),(0,.func (.yield l) #[] #[]),(1,pW b1),(2,pW b2)])
     (λ_ W'=>Ext W W'/\Blk W' c5 39 (esa.getD k zq).cells/\Blk W' c6 39 (esb.getD k zq).cells) ?_ ?_
    ·refine .sr (.mv O O (.ld C2 O O (hB2.ext x3) O (.lenR C9 O O ((hB.ext x3).toR (hsz:=by decide)) ?_)));by_cases hlt:k<b.length
     ·refine .lssT O O O (by omega) (.nil (.condT O (.region (.ld C2 O O (hB2.ext x3) O (.mv O O (.ixX C9 A3 O O (hB.ext x3) O (B0 (z:=zq) (by rw[hB.1.1];exact hlt)) λp hp=>.ldX (E:=eQ) A3 O O hp (hxb.ext x3) (.storeA (E:=eQ) A3 O O k6 O O (hxb.ext x3) (λh=>by have:=h.2;omega) λw3 k3 u3 h3=>.nil ⟨rfl,(),?_,u3.below x3 (by omega),k5.upd u3 (by omega),k3⟩)))))));exact lkA rfl
     ·refine .lssF O O O (by omega) (.nil (.condF O (.skip ⟨rfl,(),?_,x3,k5,?_⟩)))
      ·exact lkA rfl
      ·rw[AF9 (by rw[hB.1.1];omega)];exact k6
    ·rintro _ W'' ⟨x4,k5,k6⟩;refine .sr (.mv O O (.ldA A3 O O k5 (eQ.csz hxa) (.ldA A3 O O k6 (eQ.csz hxb) ?_)));rw[<-hva,<-hvb];refine .yld (l:=l) [esa.getD k zq,esb.getD k zq] (R:=λv w'=>(v=.bool true/\J (k+1) w')\/(v=.bool false/\X w')) O O O ?_ ?_
     ·refine YieldAt.mono (hy k _ hlt (stJ _ _ _ hJ x4)) ?_;rintro e W' (⟨rfl,h⟩ | ⟨rfl,h⟩)
      ·exact⟨_,rfl,.inl ⟨rfl,h⟩⟩
      ·exact⟨_,rfl,.inr ⟨rfl,h⟩⟩
     ·rintro v w' (⟨rfl,h⟩ | ⟨rfl,h⟩)
      ·refine .not_ O O (.nil (.condF O (.skip (.region (.add O O O (.mv O O (.nil ?_)))))));rw[wI (by omega)];exact⟨rfl,k+1,lkA rfl,⟨h,by omega⟩,by omega⟩
      ·refine .not_ O O (.nil (.condT O (.ret ?_)));exact .plain [] results272 trivial (.inr h)
  ·refine .sr (.lssF O O O (by omega) (.nil (.seq (.condF O (.exit (.plain [] results272 trivial ?_))))));have:k=max a.length b.length:=by omega
   subst this;exact .inl hJ
def qk (L:Nat) (q:QV):Prop:=qok L q/\Rsz (E3 q) L
theorem qk.mono{q:QV}(h:qk L q)(hl:L<=M):qk M q:=⟨h.1.mono hl,h.2.mono hl⟩
theorem AJ7{r:Rat}(h:Rsz r L):qk L (qc r):=⟨h.toOk,by rw[C3];exact h⟩
theorem qk_q0(hL:1<=L):qk L q0:=by rw[<-Q7];exact AJ7 (Rsz.zero hL)
def vk (L:Nat) (a:List QV):Prop:=∀ q∈a,qk L q
def mk_ (L:Nat) (m:List (List QV)):Prop:=∀ r∈m,vk L r
theorem vk.mono{a:List QV}(h:vk L a)(hl:L<=M):vk M a:=λq hq=>(h q hq).mono hl
theorem mk_.mono{a:List (List QV)}(h:mk_ L a)(hl:L<=M):mk_ M a:=λq hq=>(h q hq).mono hl
theorem AF8{P:α->Prop}{l:List α}{z:α}(h:∀ x∈l,P x)(hz:P z)(k:Nat):P (l.getD k z):=by
 rw[aF]
 cases hk:l[k]? with
 | none=>exact hz
 | some x=>exact h x (List.mem_iff_getElem?.2 ⟨k,hk⟩)
theorem vk.get{a:List QV}(h:vk L a)(hL:1<=L)(k:Nat):qk L (a.getD k q0):=AF8 h (qk_q0 hL) k
theorem BL9:vk L []:=λq hq=>by cases hq
theorem mk_.get{a:List (List QV)}(h:mk_ L a)(k:Nat):vk L (a.getD k []):=AF8 h BL9 k
def rv (a:List QV) (k:Nat):Rat:=E3 (a.getD k q0)
def rm (m:List (List QV)) (i k:Nat):Rat:=rv (m.getD i []) k
theorem Af5{a:List QV}(h:a.length<=k):rv a k=0:=by unfold rv;rw[aF,aH h];exact BN7
theorem AS0(k:Nat):rv [] k=0:=Af5 (aC _)
theorem BN1{m:List (List QV)}{i:Nat}(h:m.length<=i):rm m i k=0:=by unfold rm;rw[aF,aH h];exact AS0 k
theorem vk.rsz{a:List QV}(h:vk L a)(hL:1<=L)(k:Nat):Rsz (rv a k) L:=(h.get hL k).2
theorem mk_.rsz{m:List (List QV)}(h:mk_ L m)(hL:1<=L)(i k:Nat):Rsz (rm m i k) L:=(h.get i).rsz hL k
def tab (n:Nat) (f:Nat->Rat):List QV:=(List.range n).map λk=>qc (f k)
def C6 (n c:Nat) (f:Nat->Nat->Rat):List (List QV):=(List.range n).map λi=>tab c (f i)
theorem A2(n:Nat)(f:Nat->Rat):(tab n f).length=n:=by simp[tab]
theorem A8(n c:Nat)(f:Nat->Nat->Rat):(C6 n c f).length=n:=by simp[C6]
theorem L4(n:Nat)(f:Nat->Rat)(k:Nat):rv (tab n f) k=if k<n then f k else 0:=by
 unfold rv tab;by_cases h:k<n
 ·rw[if_pos h,aF,aI,bA h];exact C3 _
 ·rw[if_neg h,aF,aH (by simpa using h)];exact BN7
theorem Bn8(n c:Nat)(f:Nat->Nat->Rat)(i:Nat):(C6 n c f).getD i []=if i<n then tab c (f i) else []:=by
 unfold C6;by_cases h:i<n
 ·rw[if_pos h,aF,aI,bA h];rfl
 ·rw[if_neg h,aF,aH (by simpa using h)];rfl
theorem Av9(n c:Nat)(f:Nat->Nat->Rat)(i k:Nat):rm (C6 n c f) i k=if i<n/\k<c then f i k else 0:=by
 unfold rm;rw[Bn8];by_cases h:i<n
 ·rw[if_pos h,L4];simp[h]
 ·rw[if_neg h,AS0,if_neg (by omega)]
theorem T7(h:∀ k,k<n->Rsz (f k) L):vk L (tab n f):=by intro q hq;obtain⟨k,hk,rfl⟩:=List.mem_map.1 hq;exact AJ7 (h k (List.mem_range.1 hk))
theorem Aw2{f:Nat->Nat->Rat}(h:∀ i k,i<n->k<c->Rsz (f i k) L):mk_ L (C6 n c f):=by intro r hr;obtain⟨i,hi,rfl⟩:=List.mem_map.1 hr;exact T7 λk hk=>h i k (List.mem_range.1 hi) hk
def B9:Nat->(Nat->Rat)->Rat
 | 0,_=>0
 | n+1,f=>B9 n f+f n
theorem A9{g:Nat->Rat}(h:∀ k,k<n->f k=g k):B9 n f=B9 n g:=by
 induction n with
 | zero=>rfl
 | succ n ih=>rw[B9,B9,ih λk hk=>h k (by omega),h n (by omega)]
theorem BJ5(n:Nat):B9 n (λ_=>0)=0:=by
 induction n with
 | zero=>rfl
 | succ n ih=>rw[B9,ih];grind
theorem H0(h:∀ k,k<n->f k=0):B9 n f=0:=by rw[A9 h,BJ5]
theorem Aj1(n:Nat)(f g:Nat->Rat):B9 n (λk=>f k+g k)=B9 n f+B9 n g:=by
 induction n with
 | zero=>simp only[B9];grind
 | succ n ih=>rw[B9,B9,B9,ih];grind
theorem AB2(n:Nat)(c:Rat)(f:Nat->Rat):B9 n (λk=>c*f k)=c*B9 n f:=by
 induction n with
 | zero=>simp[B9]
 | succ n ih=>rw[B9,B9,ih];grind
theorem AD2(n:Nat)(c:Rat)(f:Nat->Rat):B9 n (λk=>f k*c)=B9 n f*c:=by
 induction n with
 | zero=>simp[B9]
 | succ n ih=>rw[B9,B9,ih];grind
theorem Z5(m n:Nat)(f:Nat->Nat->Rat):B9 m (λi=>B9 n (λk=>f i k))=B9 n (λk=>B9 m (λi=>f i k)):=by
 induction m with
 | zero=>simp[B9,BJ5]
 | succ m ih=>simp only[B9];rw[ih,<-Aj1]
theorem sumN_ext(hnm:n<=m)(h:∀ k,n<=k->k<m->f k=0):B9 m f=B9 n f:=by
 induction m with
 | zero=>rw[show n=0 by omega]
 | succ m ih =>
  by_cases e:n=m+1
  ·rw[e]
  ·rw[B9,ih (by omega) λk h1 h2=>h k h1 (by omega),h m (by omega) (by omega)];grind
theorem I8{i:Nat}(h:∀ k,k<n->k≠i->f k=0):B9 n f=if i<n then f i else 0:=by
 induction n with
 | zero=>simp[B9]
 | succ n ih =>
  rw[B9,ih λk h1 h2=>h k (by omega) h2];by_cases h1:i<n
  ·rw[if_pos h1,if_pos (by omega),h n (by omega) (by omega)];grind
  ·rw[if_neg h1];by_cases h2:i=n
   ·subst h2;rw[if_pos (by omega)];grind
   ·rw[if_neg (by omega),h n (by omega) (λe=>h2 e.symm)];grind
theorem Aj0(h:∀ k,k<n->Rsz (f k) L):Rsz (B9 n f) (1+n*(L+1)):=by
 induction n with
 | zero=>exact Rsz.zero (by omega)
 | succ n ih =>
  rw[B9];exact ((ih λk hk=>h k (by omega)).add (h n (by omega))).mono (by rw[dA];omega)
end Go.Proofs.YtpgkacdihhjknaaGreat
