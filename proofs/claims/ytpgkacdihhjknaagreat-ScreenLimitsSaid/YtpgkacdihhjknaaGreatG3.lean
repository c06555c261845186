/-
  What the claim leans on.
-/
import Derived.Test.YtpgkacdihhjknaaGreatG2
set_option linter.unusedVariables false
namespace Go.Proofs.YtpgkacdihhjknaaGreat
open Go Go.Kx Go.RowKit
theorem AQ5:Ent Tryz.prog 263:=A0 Tryz.func263 (by kernel_rfl) rfl
theorem AO0 {S:Nat->Prop} {w:World} {vu vv:Value} {u v:List Nat} {m:Nat} (hu:eW.R S w vu u) (hv:eW.R S w vv v) (hlu:u.length=m+3) (hlv:v.length=m+2) (hm:m<=1099511627776) (h1:0<v.getD (m+1) 0) (hlt:val u<4294967296*val v) :
  CR Tryz.prog 263 #[vu,vv] w (fun x _=>∃ q:Nat,x=.int .u64 q/\q<4294967296/\val u / val v<=q/\q<=val u / val v+1):=by
 have hdu:dig u:=F1 hu
 have hdv:dig v:=F1 hv
 have eU:=BF2 hlu
 have eV:=BF3 hlv
 have hU0:=J2 hdu m (by omega)
 have hV0:=J2 hdv m (by omega)
 have d0:=E6 hdu m
 have d1:=E6 hdu (m+1)
 have d2:=E6 hdu (m+2)
 have c1:=E6 hdv (m+1)
 have c2:=E6 hdv m
 have g0:u[m]?=some (u.getD m 0):=C2 (by omega)
 have g1:u[m+1]?=some (u.getD (m+1) 0):=C2 (by omega)
 have g2:u[m+2]?=some (u.getD (m+2) 0):=C2 (by omega)
 have f1:v[m+1]?=some (v.getD (m+1) 0):=C2 (by omega)
 have f2:v[m]?=some (v.getD m 0):=C2 (by omega)
 generalize val (u.take m)=U0 at *
 generalize val (v.take m)=V0 at *
 generalize u.getD m 0=u0 at *
 generalize u.getD (m+1) 0=u1 at *
 generalize u.getD (m+2) 0=u2 at *
 generalize v.getD (m+1) 0=v1 at *
 generalize v.getD m 0=v2 at *
 have hp:0<4294967296 ^ m:=Nat.pow_pos (by omega)
 generalize htop:u1+4294967296*u2=top at *
 have hwn1:IntKind.i64.wrap ((v.length:Int)-1)=((m+1:Nat):Int):=by rw [wI (by omega)];omega
 have hwn2:IntKind.i64.wrap ((v.length:Int)-2)=((m:Nat):Int):=by rw [wI (by omega)];omega
 refine enter Tryz.func263 O Tryz.ntmps263 O (.sr (.an O O (.sr (.mv O O (.lenR un_W O O hv (.an O O ?_))))))
 refine .seq ?_
 refine .par follows 13 [.inl _,.inl _,.inr (Ptr eU32 S u2),.inl (.int .u32 u2),.inl _,.inl _,.inl _,.inl _,.inl _,.inr (Ptr eU32 S u1),.inl (.int .u32 u1),.inl _,.inl _] [[],[],[(13,0),(14,1)],[(15,2)],[(16,3)],[(17,4)],[],[],[(20,7)],[(19,6),(21,8)],[(22,9)],[(23,10)],[(18,5),(24,11)]] (by kernel_rfl) ⟨
  fun w e=>(v_mv O).ob,
  fun w e=>(v_mv O).ob,
  fun w e=>D5 un_W A3 O (hu.ext e) O (by rw [hlv];exact g2),
  fun w e x hx=>M9 A3 O hx,
  fun w e=>(Q6 C1 C3 O).ob,
  fun w e=>(Au9 O O (by decide)).ob,
  fun w e=>(v_mv O).ob,
  fun w e=>(v_mv O).ob,
  fun w e=>(AB1 O O).ob,
  fun w e=>Ac5 un_W A3 O (hu.ext e) O (by rw [hwn1];omega) (by rw [hwn1];exact g1),
  fun w e x hx=>M9 A3 O hx,
  fun w e=>(Q6 C1 C3 O).ob,
  fun w e=>(v_or O O).ob,trivial⟩ ?_
 intro w1 e1 _ _ _ _
 refine .an O O ?_
 rw [wU (n:=(u2:Int)) (by omega),wU (n:=(u1:Int)) (by omega),shl32 u2 d2,BI6 u2 u1 d1 d2,htop]
 refine .seq ?_
 refine .par follows 13 [.inl _,.inl _,.inl _,.inr (Ptr eU32 S v1),.inl (.int .u32 v1),.inl _,.inl _,.inl _,.inl _,.inr (Ptr eU32 S v2),.inl (.int .u32 v2),.inl _,.inl _] [[],[],[(27,1)],[(26,0),(28,2)],[(29,3)],[(30,4)],[],[],[(33,7)],[(32,6),(34,8)],[(35,9)],[(36,10)],[(31,5)]] (by kernel_rfl) ⟨
  fun w e=>(v_mv O).ob,
  fun w e=>(v_mv O).ob,
  fun w e=>(AB1 O O).ob,
  fun w e=>Ac5 un_W A3 O (hv.ext (e1.trans e)) O (by rw [hwn1];omega) (by rw [hwn1];exact f1),
  fun w e x hx=>M9 A3 O hx,
  fun w e=>(Q6 C1 C3 O).ob,
  fun w e=>(v_mv O).ob,
  fun w e=>(v_mv O).ob,
  fun w e=>(AB1 O O).ob,
  fun w e=>Ac5 un_W A3 O (hv.ext (e1.trans e)) O (by rw [hwn2];omega) (by rw [hwn2];exact f2),
  fun w e x hx=>M9 A3 O hx,
  fun w e=>(Q6 C1 C3 O).ob,
  fun w e=>(v_as O).ob,trivial⟩ ?_
 intro w2 e2 _ _ _ _
 refine .an O O ?_
 rw [wU (n:=(v1:Int)) (by omega),wU (n:=(v2:Int)) (by omega)]
 refine .seq ?_
 refine .par follows 7 [.inl _,.inl _,.inl _,.inl _,.inl _,.inl _,.inl _] [[],[],[(38,0),(39,1)],[],[],[(41,3),(42,4)],[(40,2)]] (by kernel_rfl) ⟨
  fun w e=>(v_mv O).ob,
  fun w e=>(v_mv O).ob,
  fun w e=>(Ab8 O O (by omega)).ob,
  fun w e=>(v_mv O).ob,
  fun w e=>(v_mv O).ob,
  fun w e=>(Ab7 O O (by omega)).ob,
  fun w e=>(v_as O).ob,trivial⟩ ?_
 intro w3 e3
 refine .an O O ?_
 have htop64:top<18446744073709551616:=by omega
 rw [AC1,X8,O0,Nat.mod_eq_of_lt (Nat.lt_of_le_of_lt (Nat.div_le_self _ _) htop64)]
 have x3:=(e1.trans e2).trans e3
 have hu3:=hu.ext x3
 refine .mid (α:=Nat) (fun q=>[(9,.int .u64 q)]) (fun q W=>W=w3/\q<4294967296/\val u / val v<=q/\q<=val u / val v+1) ?_ ?_
 ·refine .block (.loop (α:=Nat×Nat) (fun x=>[(9,.int .u64 (x.1:Nat)),(10,.int .u64 (x.2:Nat)),(7,.int .u64 v1),(8,.int .u64 v2),(0,vu),(5,.int .i64 (v.length:Nat))])
   (fun x W=>W=w3/\x.1*v1+x.2=top/\val u / val v<=x.1/\x.2<4294967296) (fun x=>x.1) (top / v1,top % v1) ?_ ?_ ?_)
  ·exact lkA rfl
  ·refine ⟨rfl,?_,BD0 hp (by omega) eU eV hU0 d0 h1,?_⟩
   ·show top / v1*v1+top % v1=top
    rw [Nat.mul_comm];exact Nat.div_add_mod _ _
   ·show top % v1<4294967296
    have:=Nat.mod_lt top h1;omega
  ·rintro ⟨g,r⟩ W ⟨rfl,ht,hq,hr⟩
   replace ht:g*v1+r=top:=ht
   replace hq:val u / val v<=g:=hq
   replace hr:r<4294967296:=hr
   have hg64:g<18446744073709551616:=by
    have:=Nat.le_mul_of_pos_right g h1
    omega
   have hVp:0<val v:=by
    rcases Nat.eq_zero_or_pos (val v) with h | h
    ·rw [h] at hlt;omega
    ·exact h
   refine .mid (α:=Unit) (fun _=>[(9,.int .u64 (g:Nat)),(10,.int .u64 (r:Nat)),(7,.int .u64 v1),(8,.int .u64 v2),(0,vu),(5,.int .i64 (v.length:Nat))]) (fun _ W'=>W'=W/\val u / val v<g) ?_ ?_
   ·refine .sr (.mv O O (.shr (m:=(g:Int)) O O O (by decide) ?_))
    rw [fdiv32 g]
    by_cases hgB:g<4294967296
    ·refine .neqF O O O (by omega) (.mv O O (.gr O O O O (.mv O O (.gr O O O O (.mv O O (.gr O O O O (.mul (m:=(g:Int)) (n:=(v2:Int)) O O O ?_)))))))
     have hgv:g*v2<=4294967295*4294967295:=Nat.mul_le_mul (by omega) (by omega)
     rw [<-Int.natCast_mul,wU (n:=((g*v2:Nat):Int)) (by omega)]
     refine .gr O O O O (.mv O O (.gr O O O O (.shl (m:=(r:Int)) O O O (by decide) ?_)))
     rw [shl32 r hr]
     refine .gr O O O O (.mv O O (.gr O O O O (.mv O O (.gr O O O O (.sub (m:=(v.length:Int)) O O O ?_)))))
     rw [hwn2]
     refine .gr O O O O (.ixN un_W A3 O O hu3 O g0 fun p hp'=>.gr O O O O (.ldE A3 O O hp' fun e he=>?_))
     obtain ⟨rfl,_⟩:=he
     refine .gr O O O O (.cvt C1 C3 O O ?_)
     rw [wU (n:=(u0:Int)) (by omega)]
     refine .gr O O O O (.or_ O O O ?_)
     rw [BI6 r u0 d0 hr]
     by_cases hc:u0+4294967296*r<g*v2
     ·refine .gr O O O O (.gtrT O O O (by omega) (.pick O O O (.nil (.condT O (.skip ?_)))))
      exact ⟨rfl,(),lkA rfl,rfl,BL3 hp (by omega) eU eV hU0 h1 ht (by omega)⟩
     ·refine .gr O O O O (.gtrF O O O (by omega) (.pick O O O (.nil (.condF O (.exit ?_)))))
      exact ⟨rfl,g,lkA rfl,rfl,hgB,hq,BL2 hp (by omega) eU eV hV0 h1 ht hgB (by omega)⟩
    ·refine .neqT O O O (by omega) (.mv O O (.gs O O O O O (.gs O O O O O (.gs O O O O O (.gs O O O O O (.gs O O O O O (.gs O O O O O (.gs O O O O O (.gs O O O O O (.gs O O O O O (.gs O O O O O (.gs O O O O O (.gs O O O O O (.gs O O O O O (.pick O O O (.nil (.condT O (.skip (⟨rfl,(),lkA rfl,rfl,?_⟩)))))))))))))))))))
     have:val u / val v<4294967296:=by rw [Nat.div_lt_iff_lt_mul hVp];exact hlt
     exact Nat.lt_of_lt_of_le this (Nat.le_of_not_lt hgB)
   ·rintro _ W' ⟨rfl,hlt'⟩
    have hg0:0<g:=Nat.lt_of_le_of_lt (Nat.zero_le _) hlt'
    obtain ⟨g,rfl⟩:∃ k,g=k+1:=⟨g-1,(Nat.succ_pred_eq_of_pos hg0).symm⟩
    have hle':val u / val v<=g:=Nat.le_of_lt_succ hlt'
    have ht':g*v1+(r+v1)=top:=by rw [Nat.add_mul] at ht;omega
    refine .block (.sr (.mv O O (.sub (m:=((g+1:Nat):Int)) O O O ?_)))
    rw [show IntKind.u64.wrap (((g+1:Nat):Int)-1)=(g:Int) by rw [wU (by omega)];omega]
    refine .an O O (.sr (.mv O O (.mv O O (.add (m:=(r:Int)) (n:=(v1:Int)) O O O ?_))))
    rw [<-Int.natCast_add,wU (n:=((r+v1:Nat):Int)) (by omega)]
    refine .an O O (.sr (.mv O O (.shr (m:=((r+v1:Nat):Int)) O O O (by decide) ?_)))
    rw [fdiv32]
    by_cases hrB:r+v1<4294967296
    ·refine .neqF O O O (by omega) (.nil (.condF O (.skip ?_)))
     exact ⟨rfl,(g,r+v1),lkA rfl,⟨rfl,ht',hle',hrB⟩,Nat.lt_succ_self g⟩
    ·refine .neqT O O O (by omega) (.nil (.condT O (.exit ?_)))
     have hgB:=BD1 hp (by omega) eU eV hV0 c2 ht' hlt (by omega)
     exact ⟨rfl,g,lkA rfl,rfl,hgB,hle',Nat.le_succ_of_le (BD2 hp (by omega) eU eV hV0 c2 h1 ht' hgB (by omega))⟩
 ·rintro q W ⟨rfl,h2,h3,h4⟩
  refine .sr (.mv O O (.an O O (.ret ?_)))
  exact .plain [_] Tryz.results263 ⟨rfl,trivial⟩ ⟨x3,q,rfl,h2,h3,h4⟩
theorem Ad1 {w w':World} {r:Option Nat} (e:Ext w w'):w.grownBy w' r:=⟨e.os,e.tape,e.output,e.size,fun k hk _=>e.block k hk⟩
theorem Ad0 {w w1 w2:World} {g b:Nat} (h:w.grownBy w1 (some g)) (u:Upd w1 w2 b) (hb:b=g\/w.heap.size<=b):w.grownBy w2 (some g) :=
 ⟨u.os.trans h.os,u.tape.trans h.tape,u.output.trans h.output,by rw [u.size];exact h.size,fun k hk hne=>(u.block k (fun e=>by
  subst e
  rcases hb with rfl | hb
  ·exact hne rfl
  ·omega)).trans (h.block k hk hne)⟩
theorem Am8 {w w1 w2:World} {r:Option Nat} (h:w.grownBy w1 r) (h':w1.grownBy w2 r):w.grownBy w2 r :=
 ⟨h'.os.trans h.os,h'.tape.trans h.tape,h'.output.trans h.output,Nat.le_trans h.size h'.size,fun k hk hne=>(h'.block k (Nat.lt_of_lt_of_le hk h.size) hne).trans (h.block k hk hne)⟩
theorem Am4 {S:Nat->Prop} {w w':World} {g:Nat} (h:w.grownBy w' (some g)) (hS:¬ S g):Kp S w w':=fun k _ _ _ hs hk=>(h.block k (Array.getElem?_eq_some_iff.1 hk).1 (fun e=>hS (by cases e;exact hs))).trans hk
theorem Ao2 {B:Nat} {w0 w w':World} {g:Nat} (hb:Below B w0 w) (h:w.grownBy w' (some g)) (hg:B<=g) (hB:B<=w.heap.size):Below B w0 w':=hb.grown h hB (fun k hk=>by cases hk;exact hg)
theorem BG6 {x p b:Nat} (hx:x<4294967296) (hp:p<4294967296) (hb:b<=1):∃ D y b':Nat,IntKind.u64.wrap (IntKind.u64.wrap ((x:Int)-(p:Int))-(b:Int))=(D:Int)/\D % 4294967296=y/\D / 2 ^ 63=b'/\y<4294967296/\b'<=1/\y+p+b=x+4294967296*b':=by
 rw [IntKind.wrap_u64,IntKind.wrap_u64]
 by_cases h:p+b<=x
 ·exact ⟨x-p-b,x-p-b,0,by omega,by omega,by omega,by omega,by omega,by omega⟩
 ·exact ⟨18446744073709551616+x-p-b,4294967296+x-p-b,1,by omega,by omega,by omega,by omega,by omega,by omega⟩
theorem V8:Ent Tryz.prog 264:=A0 Tryz.func264 (by kernel_rfl) rfl
theorem U6 {S:Nat->Prop} {w:World} {g k c n f:Nat} {U v:List Nat} {vv:Value} (ho:OB 108 w g U) (hv:eW.R S w vv v) (hS:¬ S g) (hn:v.length=n) (hk:k+(n+1)<=U.length) (hl:U.length<=4398046511104) (hf:f<4294967296) :
  Calls Tryz.prog 264 #[.slice (some ⟨g,k,none⟩) (n+1) c,vv,.int .u64 f] w fun e w'=>∃ x,e=.returned x/\∃ (V:List Nat) (bo:Nat),(x=.bool (decide (bo=1))/\bo<=1/\w.grownBy w' (some g)/\OB 108 w' g V/\V.length=U.length /\
   (∀ j,k+(n+1)<=j->V.getD j 0=U.getD j 0)/\val V+4294967296 ^ k*(val v*f)=val U+4294967296 ^ (k+(n+1))*bo):=by
 have hdv:dig v:=F1 hv
 refine enterG Tryz.func264 O Tryz.ntmps264 O (.sr (.an O O (.sr (.an O O (.sr ?_)))))
 refine .call [.int .u64 (0:Nat)] O G7 O G5 fun v1 w1 e1 h1=>.an O O ?_
 obtain ⟨bx,rfl,kx,hbx⟩:=h1
 have hgx:g≠bx:=by have:=ho.lt;omega
 refine .mid (α:=List Nat×Nat) (fun x=>[(7,.int .u64 (x.2:Nat))]) (fun x W=>x.2<=1/\w.grownBy W (some g)/\OB 108 W g x.1/\x.1.length=U.length /\
   (∀ j,k+(n+1)<=j->x.1.getD j 0=U.getD j 0)/\val x.1+4294967296 ^ k*(val v*f)=val U+4294967296 ^ (k+(n+1))*x.2) ?_ ?_
 ·refine .sr (.mv O O (.len un_W O O (.mv O O (.nil ?_))))
  refine .block (.loop (α:=Nat×List Nat×Nat×Nat) (fun x=>[(0,.slice (some ⟨g,k,none⟩) (n+1) c),(1,vv),(2,.int .u64 f),(7,.int .u64 (x.2.2.2:Nat)),(8,carV bx),(14,.int .i64 ((n+1:Nat):Int)),(15,.int .i64 (x.1:Nat))])
   (fun x W=>x.1<=n+1/\w.grownBy W (some g)/\OB 108 W g x.2.1/\x.2.1.length=U.length/\cBlk W bx x.2.2.1/\x.2.2.1<4294967296/\(x.1=n+1->x.2.2.1=0)/\x.2.2.2<=1/\(∀ j,k+(n+1)<=j->x.2.1.getD j 0=U.getD j 0) /\
    val x.2.1+4294967296 ^ k*(val (v.take x.1)*f)=val U+4294967296 ^ (k+x.1)*(x.2.2.2+x.2.2.1)) (fun x=>n+1-x.1) (0,U,0,0) ?_ ?_ ?_)
  ·exact lkA rfl
  ·refine ⟨Nat.zero_le _,Ad1 e1,ho.ext e1,rfl,kx,?_,fun h=>rfl,Nat.zero_le _,fun _ _=>rfl,?_⟩
   ·show 0<4294967296;omega
   ·simp [val]
  ·rintro ⟨i,V,cc,bo⟩ W ⟨hi,hG,hO,hV,hcx,hc,hc0,hbo,hhi,hval⟩
   replace hi:i<=n+1:=hi
   replace hG:w.grownBy W (some g):=hG
   replace hO:OB 108 W g V:=hO
   replace hV:V.length=U.length:=hV
   replace hcx:cBlk W bx cc:=hcx
   replace hc:cc<4294967296:=hc
   replace hc0:i=n+1->cc=0:=hc0
   replace hbo:bo<=1:=hbo
   replace hhi:∀ j,k+(n+1)<=j->V.getD j 0=U.getD j 0:=hhi
   replace hval:val V+4294967296 ^ k*(val (v.take i)*f)=val U+4294967296 ^ (k+i)*(bo+cc):=hval
   by_cases hlt:i<n+1
   ·refine .sr (.lssT O O O (by show (i:Int)<((n+1:Nat):Int);omega) (.nil (.seq (.condT O (.skip (.seq (.block (.sr (.mv O O (.an O O (.sr (.an O O ?_)))))))))))) 
    have hvd:=E6 hdv i
    have hvf:v.getD i 0*f<=4294967295*4294967295:=Nat.mul_le_mul (by omega) (by omega)
    have hvW:=eW.keep (Am4 hG hS) hv
    refine .mid (α:=Unit) (fun _=>[(0,.slice (some ⟨g,k,none⟩) (n+1) c),(1,vv),(2,.int .u64 f),(7,.int .u64 (bo:Nat)),(8,carV bx),(9,.int .i64 (i:Nat)),(10,.int .u64 (v.getD i 0*f:Nat)),(14,.int .i64 ((n+1:Nat):Int)),(15,.int .i64 (i:Nat))]) (fun _ W'=>W'=W) ?_ ?_
    ·refine .sr (.mv O O (.mv O O (.lenR un_W O O hvW ?_)))
     by_cases hin:i<n
     ·refine .lssT O O O (by show (i:Int)<(v.length:Int);omega) (.nil (.condT O (.region (.mv O O (.mv O O ?_)))))
      refine .ixN (i:=i) un_W A3 O O hvW O (C2 (by omega)) fun p hp=>.ldE A3 O O hp fun e he=>?_
      obtain ⟨rfl,hx⟩:=he
      refine .cvt C1 C3 O O (.mv O O (.mul O O O ?_))
      rw [wU (n:=((v.getD i 0:Nat):Int)) (by omega),<-Int.natCast_mul,wU (n:=((v.getD i 0*f:Nat):Int)) (by omega)]
      exact .an O O ⟨rfl,(),lkA rfl,rfl⟩
     ·refine .lssF O O O (by show ¬ (i:Int)<(v.length:Int);omega) (.nil (.condF O (.skip ⟨rfl,(),?_,rfl⟩)))
      have:v.getD i 0=0:=by rw [List.getD_eq_getElem?_getD,List.getElem?_eq_none (by omega)];rfl
      rw [this,Nat.zero_mul]
      exact lkA rfl
    ·rintro _ W' rfl
     have hgi:V[k+i]?=some (V.getD (k+i) 0):=C2 (by omega)
     have hxd:=E6 hO.1 (k+i)
     generalize hx:V.getD (k+i) 0=x at *
     generalize hpr:v.getD i 0*f=pr at *
     refine .seq (.held follows true (fun W''=>OB 108 W'' g V) [some _,some _,some _,some (wv x),some _,some _,some _,none,none,none,some _,none,none] (by kernel_rfl) ⟨
      fun _ _=>v_mv rfl,fun _ _=>v_mv rfl,fun _ _=>Ak2 (i:=i) un_W A3 O O (by omega),fun _ h=>Av2 A3 O h hgi,fun _ _=>Q6 C1 C3 rfl,fun _ _=>v_mv rfl,fun _ _=>v_mv rfl,fun _ _=>v_mv rfl,trivial⟩ ?_)
     intro W1 e1 _
     rw [wU (n:=(x:Int)) (by omega)]
     have hcx1:=hcx.ext e1
     refine .gv (hO.ext e1) O (AD2 [.int .u64 pr] O H8 O (H6 hcx1 (by omega))) ?_
     rintro _ W2 ⟨rfl,u2,hx2⟩
     have hO2:=(hO.ext e1).upd u2 hgx
     have hG2:=Ad0 (Am8 hG (Ad1 e1)) u2 (.inr hbx)
     refine .gv hO2 O (Q6 C1 C3 O).gv ?_
     rintro _ _ ⟨rfl,rfl⟩
     rw [wU (n:=(((pr+cc) % 4294967296:Nat):Int)) (by omega)]
     refine .gv hO2 O (AB1 O O).gv ?_
     rintro _ _ ⟨rfl,rfl⟩
     refine .gv hO2 O (AB1 O O).gv ?_
     rintro _ _ ⟨rfl,rfl⟩
     obtain ⟨D,y,bo',hD,hy,hb',hy1,hb1,hsum⟩:=BG6 (p:=(pr+cc) % 4294967296) hxd (Nat.mod_lt _ (by omega)) hbo
     rw [hD]
     refine .gv hO2 O (v_as O).gv ?_
     rintro _ _ ⟨rfl,rfl⟩
     refine .nil (.inl O) (.sr (.mv O O (.mv O O (.mv O O (.cvt C3 C1 O O ?_)))))
     rw [I3,hy]
     refine .ixW (i:=i) un_W A3 O O O (by omega) ?_
     refine .stO A3 O O O hO2 (by omega) hy1 fun W3 ho3 u3=>.nil (.region (.mv O O (.shr O O O (by decide) ?_)))
     rw [show ((D:Int).fdiv ((2:Int) ^ (min (63:Int).toNat IntKind.u64.bits)))=((D / 2 ^ 63:Nat):Int) from AD3 D 63,hb']
     refine .an O O (.region (.add (m:=(i:Int)) O O O (.mv O O (.nil ?_))))
     rw [wI (n:=(i:Int)+1) (by omega)]
     refine ⟨rfl,(i+1,V.set (k+i) y,(pr+cc) / 4294967296,bo'),lkA rfl,⟨hlt,Ad0 hG2 u3 (.inl O),ho3,by simp [hV],hx2.upd u3 (Ne.symm hgx),?_,?_,hb1,?_,?_⟩,by show n+1-(i+1)<n+1-i;omega⟩
     ·show (pr+cc) / 4294967296<4294967296
      rw [Nat.div_lt_iff_lt_mul (by omega)];omega
     ·intro h
      show (pr+cc) / 4294967296=0
      have hin:i=n:=by have:i+1=n+1:=h;omega
      have:v.getD i 0=0:=by rw [List.getD_eq_getElem?_getD,List.getElem?_eq_none (by omega)];rfl
      rw [this,Nat.zero_mul] at hpr
      rw [<-hpr,Nat.zero_add,Nat.div_eq_of_lt hc]
     ·intro j hj
      show (V.set (k+i) y).getD j 0=U.getD j 0
      rw [List.getD_eq_getElem?_getD,List.getElem?_set_ne (by omega),<-List.getD_eq_getElem?_getD]
      exact hhi j hj
     ·show val (V.set (k+i) y)+4294967296 ^ k*(val (v.take (i+1))*f)=val U+4294967296 ^ (k+(i+1))*(bo'+(pr+cc) / 4294967296)
      have h1:=Z1 y hgi
      have hdm:=Nat.div_add_mod (pr+cc) 4294967296
      generalize (pr+cc) / 4294967296=q at *
      generalize (pr+cc) % 4294967296=z at *
      have h2:4294967296 ^ k*(val (v.take (i+1))*f)=4294967296 ^ k*(val (v.take i)*f)+4294967296 ^ (k+i)*pr:=by
       rw [B7,<-hpr,Nat.pow_add];grind
      have h3:4294967296 ^ (k+i)*y+4294967296 ^ (k+i)*z+4294967296 ^ (k+i)*bo=4294967296 ^ (k+i)*x+4294967296 ^ (k+(i+1))*bo':=by
       have:=congrArg (4294967296 ^ (k+i)*·) hsum
       simp only [Nat.mul_add] at this
       rw [<-Nat.add_assoc k i 1,Nat.pow_succ,Nat.mul_assoc]
       exact this
      have h4:4294967296 ^ (k+i)*pr+4294967296 ^ (k+i)*cc=4294967296 ^ (k+(i+1))*q+4294967296 ^ (k+i)*z:=by
       have:=congrArg (4294967296 ^ (k+i)*·) hdm
       simp only [Nat.mul_add] at this
       rw [<-Nat.add_assoc k i 1,Nat.pow_succ,Nat.mul_assoc]
       omega
      rw [h2,Nat.mul_add (4294967296 ^ (k+(i+1)))]
      rw [Nat.mul_add (4294967296 ^ (k+i))] at hval
      omega
   ·refine .sr (.lssF O O O (by show ¬ (i:Int)<((n+1:Nat):Int);omega) (.nil (.seq (.condF O (.exit ?_)))))
    have:i=n+1:=by omega
    subst this
    rw [List.take_of_length_le (by omega),hc0 rfl] at hval
    exact ⟨rfl,(V,bo),lkA rfl,hbo,hG,hO,hV,hhi,hval⟩
 ·rintro ⟨V,bo⟩ W ⟨hbo,hG,hO,hV,hhi,hval⟩
  refine .sr (.mv O O (.neq (m:=(bo:Int)) O O O (.an O O (.ret (.plain [_] Tryz.results264 ⟨rfl,trivial⟩ ⟨V,bo,?_,hbo,hG,hO,hV,hhi,hval⟩)))))
  rcases (show bo=0\/bo=1 by omega) with h | h<;>subst h<;>rfl
end Go.Proofs.YtpgkacdihhjknaaGreat
namespace Go.Kx
open Go Go.RowKit
inductive Sch where
 | done
 | one (i:Nat) (n:Sch)
 | two (i:Nat) (n:Sch) (j:Nat) (m:Sch)
def wlT (P:Program) (ro:Option Nat) (ops:List Oper) (fl:Bool) (I:World->Prop) (Q:Exit->Act->World->Prop):Sch->Act->World->Prop
 | .done,a,w=>(fl=true\/I w)/\Q .normal a w
 | .one i n,a,w=>I w/\∃ o,ops[i]?=some o/\o.wpIn (wf ro) 0 P a w (wlT P ro ops fl I Q n) Q
 | .two i n j m,a,w=>I w/\(∃ o,ops[i]?=some o/\o.wpIn (wf ro) 0 P a w (wlT P ro ops fl I Q n) Q)/\(∃ o,ops[j]?=some o/\o.wpIn (wf ro) 0 P a w (wlT P ro ops fl I Q m) Q)
structure WLT (P:Program) (ro:Option Nat) (N:Nat) (ds:List Deferred) (ops:List Oper) (fl:Bool) (I:World->Prop) (K:Env->World->Prop) (s:Sch) (σ:Env) (w:World):Prop where
 out:∀ a,Agr N σ ds a->wlT P ro ops fl I (fun e a w=>e=.normal/\∃ σ',Agr N σ' ds a/\K σ' w) s a w
section
variable {P:Program} {ro:Option Nat} {N:Nat} {ds:List Deferred} {ops:List Oper} {fl:Bool} {I:World->Prop} {K:Env->World->Prop} {σ:Env} {w:World} {n m:Sch} {i j:Nat}
theorem WLT.nil (hI:fl=true\/I w) (h:K σ w):WLT P ro N ds ops fl I K .done σ w:=⟨fun a ha=>⟨hI,rfl,σ,ha,h⟩⟩
theorem WLT.gv {o:Oper} {R:Value->World->Prop} (ho:ops[i]?=some o) (hI:I w) (hd:dOk N o.dst=true) (h:Gv P o σ w R) (k:∀ v w',R v w'->WLT P ro N ds ops fl I K n (putE o.dst v σ) w'):WLT P ro N ds ops fl I K (.one i n) σ w :=
 ⟨fun a ha=>⟨hI,o,ho,h.wp (fun x v _ hx=>ha.ev hx) fun v w' hr=>(k v w' hr).out _ (ha.put hd v)⟩⟩
theorem WLT.gv2 (h1:WLT P ro N ds ops fl I K (.one i n) σ w) (h2:WLT P ro N ds ops fl I K (.one j m) σ w):WLT P ro N ds ops fl I K (.two i n j m) σ w :=
 ⟨fun a ha=>⟨(h1.out a ha).1,(h1.out a ha).2,(h2.out a ha).2⟩⟩
end
def waitB (ops:List Oper) (rem:List Nat) (k:Nat):Bool:=rem.any fun j=>reachB ops 3 k j
def schOk (ops:List Oper):List Nat->Sch->Bool
 | rem,.done=>rem.isEmpty
 | rem,.one i n => !rem.isEmpty && rem.all (fun k=>Nat.beq k i || waitB ops rem k) && schOk ops (rem.filter fun k => !(Nat.beq k i)) n
 | rem,.two i n j m => !rem.isEmpty && rem.all (fun k=>Nat.beq k i || Nat.beq k j || waitB ops rem k) && schOk ops (rem.filter fun k => !(Nat.beq k i)) n && schOk ops (rem.filter fun k => !(Nat.beq k j)) m
def tIdx (ops:List Oper) (hv:List (Option Value)):List Nat:=(List.range ops.length).filter fun i => !(isH hv i)
theorem Al0 {ops:List Oper} {hv:List (Option Value)} {i:Nat}:i∈tIdx ops hv<->i<ops.length/\isH hv i=false:=by
 unfold tIdx
 rw [List.mem_filter,List.mem_range]
 simp
def okHeldT (ops:List Oper) (N:Nat) (fl:Bool) (hv:List (Option Value)):Bool :=
 (!fl || okLast ops hv) && Nat.beq hv.length ops.length && ops.zipIdx.all (fun q=>okBack q.2 q.1) && nodupB (dsts ops) &&
 ops.zipIdx.all fun q =>
  dOk N q.1.dst && (match q.1.guard with | none=>true | _=>false) && (match q.1.op with | .defer _=>false | .select ..=>false | _=>true) &&
  (bif isH hv q.2 then
   q.1.dst.isSome && (tmpsOf q.1).all fun t=>ops.zipIdx.all fun r=>r.1.dst != some t || (bif isH hv r.2 then reachB ops 3 q.2 r.2 else reachB ops 3 r.2 q.2)
  else
   (tmpsOf q.1).all fun t=>ops.zipIdx.all fun r=>r.1.dst != some t || !(isH hv r.2) || reachB ops 3 q.2 r.2)
theorem wlT_I {P:Program} {ro:Option Nat} {ops:List Oper} {fl:Bool} {I:World->Prop} {Q:Exit->Act->World->Prop} {s:Sch} {a:Act} {w:World} (h:wlT P ro ops fl I Q s a w) (hl:fl=true->s≠.done):I w:=by
 cases s with
 | done=>exact h.1.resolve_left fun e=>hl e rfl
 | one _ _=>exact h.1
 | two _ _ _ _=>exact h.1
theorem BG9 {P:Program} {ro:Option Nat} {ops:List Oper} {fl:Bool} {I:World->Prop} {Q:Exit->Act->World->Prop} {s:Sch} {a:Act} {w:World} {rem:List Nat} {i:Nat} {o:Oper} (hok:schOk ops rem s=true) (h:wlT P ro ops fl I Q s a w)
  (hi:i∈rem) (hr:∀ j,j∈rem->reachB ops 3 i j=false) (ho:ops[i]?=some o):∃ s',o.wpIn (wf ro) 0 P a w (wlT P ro ops fl I Q s') Q/\schOk ops (rem.filter fun k => !(Nat.beq k i)) s'=true:=by
 have hnw:waitB ops rem i=false:=by
  cases hw:waitB ops rem i with
  | false=>rfl
  | true =>
   obtain ⟨j,hj,hjr⟩:=List.any_eq_true.1 hw
   rw [hr j hj] at hjr;cases hjr
 cases s with
 | done=>simp only [schOk,List.isEmpty_iff] at hok;rw [hok] at hi;cases hi
 | one k n =>
  simp only [schOk,Bool.and_eq_true,List.all_eq_true,Bool.or_eq_true] at hok
  have:=hok.1.2 i hi
  rw [hnw] at this
  have e:i=k:=Nat.eq_of_beq_eq_true (this.resolve_right (by simp))
  subst e
  obtain ⟨_,o',ho',hw⟩:=h
  rw [ho] at ho';cases ho'
  exact ⟨n,hw,hok.2⟩
 | two k n l m =>
  simp only [schOk,Bool.and_eq_true,List.all_eq_true,Bool.or_eq_true] at hok
  have:=hok.1.1.2 i hi
  rw [hnw] at this
  rcases this.resolve_right (by simp) with e | e
  ·have e:=Nat.eq_of_beq_eq_true e
   subst e
   obtain ⟨_,⟨o',ho',hw⟩,_⟩:=h
   rw [ho] at ho';cases ho'
   exact ⟨n,hw,hok.1.2⟩
  ·have e:=Nat.eq_of_beq_eq_true e
   subst e
   obtain ⟨_,_,o',ho',hw⟩:=h
   rw [ho] at ho';cases ho'
   exact ⟨m,hw,hok.2⟩
structure InvT (P:Program) (ro:Option Nat) (N:Nat) (fl:Bool) (I:World->Prop) (Q:Exit->Act->World->Prop) (ops:List Oper) (hv:List (Option Value)) (a0:Act) (listed:Array Bool) (a a':Act) (q:List Nat×Sch) (w:World):Prop where
 sub:∀ i,i∈q.1->i<ops.length/\isH hv i=false
 ok:schOk ops q.1 q.2=true
 tl:∀ i,i<ops.length->isH hv i=false->(isL listed i<->¬ i∈q.1)
 wp:wlT P ro ops fl I Q q.2 a' w
 sz:a.tmps.size=N
 sz':a'.tmps.size=N
 df:a.defers=a'.defers
 hval:∀ (i:Nat) (o:Oper) (t:Tmp) (v:Value),ops[i]?=some o->hv[i]?=some (some v)->o.dst=some t->a'.tmps.getD t undef=v
 pend:∀ (i:Nat) (o:Oper) (t:Tmp),ops[i]?=some o->isH hv i=true->¬ isL listed i->o.dst=some t->a.tmps.getD t undef=a0.tmps.getD t undef
 same:∀ t,(∀ (i:Nat) (o:Oper),ops[i]?=some o->isH hv i=true->¬ isL listed i->o.dst≠some t)->a.tmps.getD t undef=a'.tmps.getD t undef
 old:∀ t,(∀ (i:Nat) (o:Oper),ops[i]?=some o->o.dst=some t->isH hv i=false/\¬ isL listed i)->a'.tmps.getD t undef=a0.tmps.getD t undef
 shut:∀ (i:Nat) (o:Oper),ops[i]?=some o->isL listed i->∀ j,edgeTo o j=true->isL listed j
section
variable {P:Program} {ro:Option Nat} {N:Nat} {ds:List Deferred} {ops:List Oper} {I:World->Prop} {K:Env->World->Prop} {σ0:Env} {w0:World} {hv:List (Option Value)} {a0:Act} {Q:Exit->Act->World->Prop}
theorem BC0 {fl:Bool} (hchk:okHeldT ops N fl hv=true) (ha0:Agr N σ0 ds a0) (hob:hObs P I (hEnv ops hv σ0) ops hv) (hQ:∀ e a w,Q e a w->e=.normal) :
  ∀ (fuel:Nat) (listed:Array Bool) (a a':Act) (q:List Nat×Sch) (w:World),listed.size=ops.length->cnt listed ops.length<=fuel->InvT P ro N fl I Q ops hv a0 listed a a' q w ->
   wpAnyIn (wf ro) 0 P .any ops.toArray Q fuel listed a w:=by
 simp only [okHeldT,Bool.and_eq_true,List.all_eq_true] at hchk
 obtain ⟨⟨⟨⟨hfl,hlen0⟩,hback⟩,hnd0⟩,hall⟩:=hchk
 have hlen:hv.length=ops.length:=Nat.eq_of_beq_eq_true hlen0
 have hnd:=I2 hnd0
 have hback':∀ (i:Nat) (o:Oper),ops[i]?=some o->∀ j,edgeTo o j=true->j<i:=by
  intro i o hi j hj
  have:=hback (o,i) (by rw [List.mem_zipIdx_iff_getElem?];exact hi)
  obtain ⟨e,he,hb,rfl⟩:=F9.1 hj
  simp only [okBack,Array.all_eq_true',Bool.or_eq_true,Bool.not_eq_true',Nat.blt_eq] at this
  rcases this e he with h | h
  ·rw [hb] at h;cases h
  ·exact h
 have allL:∀ listed:Array Bool,listed.size=ops.length->Region.ready .any ops.toArray listed=[]->∀ i,i<ops.length->isL listed i:=by
  intro listed hsz hr i
  induction i using Nat.strongRecOn with
  | _ i ih =>
   intro hi
   by_cases hh:isL listed i
   ·exact hh
   ·have:i∈Region.ready .any ops.toArray listed:=by
     refine G6.2 ⟨by simpa using hi,(C4 (by omega)).2 hh,fun o ho j hj=>?_⟩
     have:=hback' i o (by simpa using ho) j hj
     exact ih j this (by omega)
    rw [hr] at this;cases this
 have done:∀ listed a a' q w,(∀ i,i<ops.length->isL listed i)->InvT P ro N fl I Q ops hv a0 listed a a' q w->Q .normal a w:=by
  intro listed a a' q w hl hI
  have hq:q.1=[]:=List.eq_nil_iff_forall_not_mem.2 fun i hi=>by
   obtain ⟨h1,h2⟩:=hI.sub i hi
   exact (hI.tl i h1 h2).1 (hl i h1) hi
  have hwp:=hI.wp
  have hok:=hI.ok
  rw [hq] at hok
  have hdn:q.2=.done:=by
   cases hs:q.2 with
   | done=>rfl
   | one _ _=>rw [hs] at hok;simp [schOk] at hok
   | two _ _ _ _=>rw [hs] at hok;simp [schOk] at hok
  rw [hdn] at hwp
  have haa:a=a':=by
   have ht:a.tmps=a'.tmps:=by
    apply Array.ext
    ·rw [hI.sz,hI.sz']
    ·intro i h1 h2
     have:=hI.same i (fun j o ho _ hn=>absurd (hl j (by
      rcases Nat.lt_or_ge j ops.length with h | h
      ·exact h
      ·rw [List.getElem?_eq_none h] at ho;cases ho)) hn)
     simpa [Array.getD_eq_getD_getElem?,h1,h2] using this
   cases a;cases a'
   simp only at ht
   have hd:=hI.df
   simp only at hd
   rw [ht,hd]
  rw [haa];exact hwp.2
 intro fuel
 induction fuel with
 | zero =>
  intro listed a a' q w hsz hc hI
  have hl:∀ i,i<ops.length->isL listed i:=by
   intro i hi
   have:=AD4 listed ops.length (by omega) i hi
   by_cases hh:isL listed i
   ·exact hh
   ·have:=(C4 (by omega:i<listed.size)).2 hh
    simp_all
  refine ⟨?_,done listed a a' q w hl hI⟩
  refine List.eq_nil_iff_forall_not_mem.2 fun i hi=>?_
  obtain ⟨h1,h2,_⟩:=G6.1 hi
  have h1':i<ops.length:=by simpa using h1
  exact (C4 (by omega)).1 h2 (hl i h1')
 | succ fuel ih =>
  intro listed a a' q w hsz hc hI
  refine ⟨fun hr=>done listed a a' q w (allL listed hsz hr) hI,fun i hi=>?_⟩
  obtain ⟨hin,hun,hed⟩:=G6.1 hi
  have hin':i<ops.length:=by simpa using hin
  have hunl:¬ isL listed i:=(C4 (by omega)).1 hun
  obtain ⟨o,ho⟩:∃ o,ops[i]?=some o:=⟨_,List.getElem?_eq_getElem hin'⟩
  have hed':∀ j,edgeTo o j=true->isL listed j:=hed o (by simpa using ho)
  have hsz':(listed.setIfInBounds i true).size=ops.length:=by simpa using hsz
  have hcnt:cnt (listed.setIfInBounds i true) ops.length<=fuel:=by
   have:=S1 listed i hun ops.length hin'
   omega
  have hset:∀ j,isL (listed.setIfInBounds i true) j<->(i=j\/isL listed j):=fun j=>G4 (by omega)
  have hreach:∀ j,reachB ops 3 i j=true->isL listed j:=fun j hj=>M7 hI.shut 3 i j o ho hed' hj
  have hshut':∀ (j:Nat) (oj:Oper),ops[j]?=some oj->isL (listed.setIfInBounds i true) j->∀ k,edgeTo oj k=true->isL (listed.setIfInBounds i true) k:=by
   intro j oj hoj hlj k hk
   rw [hset] at hlj ⊢
   by_cases e:i=j
   ·subst e
    rw [ho] at hoj;cases hoj
    exact .inr (hed' k hk)
   ·exact .inr (hI.shut j oj hoj (hlj.resolve_left e) k hk)
  have hck:=hall (o,i) (by rw [List.mem_zipIdx_iff_getElem?];exact ho)
  simp only at hck
  obtain ⟨⟨⟨hdk,hgd⟩,hop⟩,hcls⟩:=hck
  have hgn:o.guard=none:=by
   cases hg:o.guard with
   | none=>rfl
   | some g=>rw [hg] at hgd;cases hgd
  have hnd':∀ c,o.op≠.defer c:=fun c e=>by rw [e] at hop;cases hop
  have hns:∀ cs b,o.op≠.select cs b:=fun cs b e=>by rw [e] at hop;cases hop
  have hw:Region.wanted o (yielded ops.toArray a.tmps)=true:=by simp [Region.wanted,hgn]
  unfold wpOpIn
  simp only [List.getElem?_toArray,ho]
  rw [if_pos hw]
  cases hH:isH hv i with
  | true =>
   rw [hH] at hcls
   simp only [cond_true,Bool.and_eq_true,List.all_eq_true] at hcls
   obtain ⟨hds,hrd⟩:=hcls
   obtain ⟨t0,ht0⟩:=Option.isSome_iff_exists.1 hds
   obtain ⟨v,hvv⟩:=Am5 hH
   have htN:t0<N:=by simpa [ht0,dOk,Nat.blt_eq] using hdk
   have hV:=AU9 hob i o v ho hvv w (wlT_I hI.wp fun hft hnil=>by
    subst hft
    refine hunl (AG0 (by simpa using hfl) hI.shut (fun j hj hHj=>(hI.tl j hj hHj).2 ?_) i hin')
    have hok:=hI.ok
    rw [hnil] at hok
    simp only [schOk,List.isEmpty_iff] at hok
    rw [hok];simp)
   have hopn:∀ x u,x∈o.op.operands->ev (hEnv ops hv σ0) x=some u->a.eval x=u:=by
    intro x u hx hu
    cases x with
    | const c=>simpa [Kx.ev,Act.eval] using hu
    | global g=>simpa [Kx.ev,Act.eval] using hu
    | func f=>simpa [Kx.ev,Act.eval] using hu
    | tmp t =>
     have hmem:t∈tmpsOf o:=by
      unfold tmpsOf
      rw [List.mem_filterMap]
      exact ⟨.tmp t,by simpa using hx,rfl⟩
     have hc:=hrd t hmem
     show a.tmps.getD t undef=u
     rcases AE8 ops hv σ0 t u hu with ⟨j,oj,hoj,hvj,hdj⟩ | ⟨hl0,hno⟩
     ·have hc1:=hc (oj,j) (by rw [List.mem_zipIdx_iff_getElem?];exact hoj)
      have hHj:isH hv j=true:=by unfold isH;rw [hvj];rfl
      simp only [Bool.or_eq_true,hHj,cond_true] at hc1
      have hlj:isL listed j:=by
       rcases hc1 with h1 | h1
       ·simp [hdj] at h1
       ·exact hreach j h1
      rw [hI.same t (fun k ok hok _ hnl hdk'=>?_),hI.hval j oj t u hoj hvj hdj]
      have:=L0 hnd hoj hok hdj hdk'
      subst this;exact hnl hlj
     ·have h1:a.tmps.getD t undef=a'.tmps.getD t undef:=hI.same t (fun k ok hok hHk _ hdk'=>hno k ok hok hHk hdk')
      rw [h1,hI.old t (fun k ok hok hdk'=>?_),ha0.slot t u hl0]
      have hHk:isH hv k=false:=by
       cases hh:isH hv k with
       | false=>rfl
       | true=>exact absurd hdk' (hno k ok hok hh)
      refine ⟨hHk,fun hlk=>?_⟩
      have hc1:=hc (ok,k) (by rw [List.mem_zipIdx_iff_getElem?];exact hok)
      simp only [Bool.or_eq_true,hHk,cond_false] at hc1
      rcases hc1 with h1 | h1
      ·simp [hdk'] at h1
      ·exact hunl (M7 hI.shut 3 k i ok hok (fun j hj=>hI.shut k ok hok hlk j hj) h1)
   refine hV.gv.wp hopn ?_
   rintro v' w' ⟨rfl,rfl⟩
   have hp:=fun t=>M6 (v:=v') (t:=t) (d:=o.dst) hI.sz
   refine ih _ _ a' q _ hsz' hcnt ⟨hI.sub,hI.ok,fun j hj hHj=>?_,hI.wp,(hp t0).1,hI.sz',(hp t0).2.1.trans hI.df,hI.hval,fun j oj t hoj hHj hnl hdj=>?_,fun t hno=>?_,fun t hno=>?_,hshut'⟩
   ·rw [hset]
    constructor
    ·rintro (e | e)
     ·subst e;rw [hH] at hHj;cases hHj
     ·exact (hI.tl j hj hHj).1 e
    ·exact fun h=>.inr ((hI.tl j hj hHj).2 h)
   ·rw [hset] at hnl
    have hne:o.dst≠some t:=fun e=>hnl (.inl (L0 hnd ho hoj e hdj))
    rw [(hp t).2.2.1 hne]
    exact hI.pend j oj t hoj hHj (fun h=>hnl (.inr h)) hdj
   ·by_cases e:o.dst=some t
    ·rw [ht0] at e;cases e
     rw [(hp t0).2.2.2 ht0 htN,hI.hval i o t0 v' ho hvv ht0]
    ·rw [(hp t).2.2.1 e]
     refine hI.same t fun j oj hoj hHj hnl hdj=>?_
     refine hno j oj hoj hHj (fun h=>?_) hdj
     rw [hset] at h
     rcases h with h | h
     ·subst h;rw [ho] at hoj;cases hoj;exact e hdj
     ·exact hnl h
   ·refine hI.old t fun j oj hoj hdj=>?_
    obtain ⟨h1,h2⟩:=hno j oj hoj hdj
    exact ⟨h1,fun h=>h2 ((hset j).2 (.inr h))⟩
  | false =>
   rw [hH] at hcls
   simp only [cond_false,List.all_eq_true] at hcls
   have hrd:=hcls
   have hirem:i∈q.1:=Classical.byContradiction fun h=>hunl ((hI.tl i hin' hH).2 h)
   have hnor:∀ j,j∈q.1->reachB ops 3 i j=false:=by
    intro j hj
    cases hr:reachB ops 3 i j with
    | false=>rfl
    | true =>
     obtain ⟨h1,h2⟩:=hI.sub j hj
     exact absurd hj ((hI.tl j h1 h2).1 (hreach j hr))
   obtain ⟨sch,hwp,hok2⟩:=BG9 hI.ok hI.wp hirem hnor ho
   refine U5 hnd' hns (fun x hx=>?_) hQ (fun dd v w' hnx=>?_) hwp
   ·cases x with
    | const c=>rfl
    | global g=>rfl
    | func f=>rfl
    | tmp t =>
     have hmem:t∈tmpsOf o:=by
      unfold tmpsOf
      rw [List.mem_filterMap]
      exact ⟨.tmp t,by simpa using hx,rfl⟩
     refine hI.same t fun j oj hoj hHj hnl hdj=>hnl ?_
     have hc1:=hrd t hmem (oj,j) (by rw [List.mem_zipIdx_iff_getElem?];exact hoj)
     simp only [Bool.or_eq_true,hHj] at hc1
     rcases hc1 with (h1 | h1) | h1
     ·simp [hdj] at h1
     ·simp at h1
     ·exact hreach j h1
   ·have hsa:({ a with defers:=dd++a.defers }:Act).tmps.size=N:=hI.sz
    have hsa':({ a' with defers:=dd++a'.defers }:Act).tmps.size=N:=hI.sz'
    have hp:=fun t=>M6 (v:=v) (t:=t) (d:=o.dst) hsa
    have hp':=fun t=>M6 (v:=v) (t:=t) (d:=o.dst) hsa'
    have hnoH:∀ (j:Nat) (oj:Oper) (t:Tmp),ops[j]?=some oj->isH hv j=true->oj.dst=some t->o.dst≠some t:=by
     intro j oj t hoj hHj hdj e
     have:=L0 hnd ho hoj e hdj
     subst this;rw [hH] at hHj;cases hHj
    refine ih _ _ _ (q.1.filter (fun k => !(Nat.beq k i)),sch) _ hsz' hcnt ⟨fun j hj=>hI.sub j (List.mem_filter.1 hj).1,hok2,fun j hj hHj=>?_,hnx,(hp 0).1,(hp' 0).1,?_,fun j oj t u hoj hvj hdj=>?_,fun j oj t hoj hHj hnl hdj=>?_,fun t hno=>?_,fun t hno=>?_,hshut'⟩
    ·rw [hset]
     constructor
     ·rintro (e | e) hm
      ·subst e
       simpa using (List.mem_filter.1 hm).2
      ·exact (hI.tl j hj hHj).1 e (List.mem_filter.1 hm).1
     ·intro h
      by_cases e:i=j
      ·exact .inl e
      ·refine .inr ((hI.tl j hj hHj).2 fun hm=>h (List.mem_filter.2 ⟨hm,?_⟩))
       simp only [Bool.not_eq_true']
       exact AA6 (fun e'=>e e'.symm)
    ·rw [(hp 0).2.1,(hp' 0).2.1]
     show dd++a.defers=dd++a'.defers
     rw [hI.df]
    ·have hHj:isH hv j=true:=by unfold isH;rw [hvj];rfl
     rw [(hp' t).2.2.1 (hnoH j oj t hoj hHj hdj)]
     exact hI.hval j oj t u hoj hvj hdj
    ·rw [(hp t).2.2.1 (hnoH j oj t hoj hHj hdj)]
     exact hI.pend j oj t hoj hHj (fun h=>hnl ((hset j).2 (.inr h))) hdj
    ·by_cases e:o.dst=some t
     ·have htN:t<N:=by simpa [e,dOk,Nat.blt_eq] using hdk
      rw [(hp t).2.2.2 e htN,(hp' t).2.2.2 e htN]
     ·rw [(hp t).2.2.1 e,(hp' t).2.2.1 e]
      refine hI.same t fun j oj hoj hHj hnl hdj=>hno j oj hoj hHj (fun h=>?_) hdj
      rw [hset] at h
      rcases h with h | h
      ·subst h;rw [hH] at hHj;cases hHj
      ·exact hnl h
    ·have e:o.dst≠some t:=fun e=>(hno i o ho e).2 ((hset i).2 (.inl O))
     rw [(hp' t).2.2.1 e]
     refine hI.old t fun j oj hoj hdj=>?_
     obtain ⟨h1,h2⟩:=hno j oj hoj hdj
     exact ⟨h1,fun h=>h2 ((hset j).2 (.inr h))⟩
theorem WC.heldT {Q:Pst} {id:Nat} (hm:P.follows .mixedOrders=true) (fl:Bool) (I:World->Prop) (hv:List (Option Value)) (sch:Sch) (hchk:okHeldT ops N fl hv=true) (hsc:schOk ops (tIdx ops hv) sch=true) (hob:hObs P I (hEnv ops hv σ0) ops hv)
  (hT:∀ w,Ext w0 w->w.heap=w0.heap->WLT P ro N ds ops fl I (fun σ w=>Q .normal σ ds w) sch (hEnv ops hv σ0) w):WC P ro N Q (.region id ops.toArray true) σ0 ds w0:=by
 refine ⟨fun a ha=>?_⟩
 have main:(Code.region id ops.toArray true).wpIn (wf ro) 0 P (fun e a w=>e=.normal/\∃ σ',Agr N σ' ds a/\Q .normal σ' ds w) a w0:=by
  refine wpIn_region_draw fun t=>?_
  simp only [Region.schedule,hm,Bool.true_or,if_true]
  refine wpAnyIn_sound ops.toArray.size t _ a _ ?_
  have hfalse:∀ i,¬ isL (Array.replicate ops.toArray.size false) i:=by
   intro i
   unfold isL
   by_cases hi:i<ops.length<;>simp [hi]
  have hc:=hchk
  simp only [okHeldT,Bool.and_eq_true,List.all_eq_true] at hc
  obtain ⟨⟨⟨⟨hfl,hlen0⟩,hback⟩,hnd0⟩,hall⟩:=hc
  have hdk:∀ o∈ops,dOk N o.dst=true:=by
   intro o ho
   obtain ⟨i,hi⟩:=List.mem_iff_getElem?.1 ho
   exact (hall (o,i) (by rw [List.mem_zipIdx_iff_getElem?];exact hi)).1.1.1
  have hag:=AK8 (N:=N) (ds:=ds) ops hv σ0 a hdk ha
  have hdrew:Ext w0 { w0 with drawn:=w0.drawn+1 }:=(Below.refl _ w0).drew
  refine BC0 hchk ha hob (fun e a w h=>h.1) _ _ a (hAct ops hv a) (tIdx ops hv,sch) _ (by simp) (by simpa using cnt_le _ _) ⟨fun i hi=>Al0.1 hi,hsc,fun i h1 h2=>⟨fun h=>absurd h (hfalse i),fun h=>absurd (Al0.2 ⟨h1,h2⟩) h⟩,(hT _ hdrew O).out _ hag,ha.size,hag.size,by rw [ha.defs,hag.defs],
   fun i o t v ho hvi hd=>AK7 ops hv a ha.size (I2 hnd0) i o t v ho hvi hd ?_,fun i o t _ _ _ _=>?_,fun t hno=>?_,fun t hno=>?_,fun i o _ hl=>absurd hl (hfalse i)⟩
  ·have:=hdk o (List.mem_iff_getElem?.2 ⟨i,ho⟩)
   simpa [hd,dOk,Nat.blt_eq] using this
  ·rfl
  ·exact (L2 ops hv a t ha.size (fun i o ho hi=>hno i o ho hi (hfalse i))).symm
  ·exact L2 ops hv a t ha.size (fun i o ho hi hd=>by have:=(hno i o ho hd).1;rw [hi] at this;cases this)
 refine wpIn_mono main ?_
 rintro e a' w' ⟨rfl,σ',hag,hk⟩
 exact ⟨σ',ds,hag,hk⟩
end
end Go.Kx
namespace Go.Proofs.YtpgkacdihhjknaaGreat
open Go Go.Kx Go.RowKit
structure LdF (w:World) (gu gq gv:Nat) (vv:Value) (lu lq:Nat) (vl:List Nat) (A:Nat) (j:Nat) (U Q:List Nat) (W:World):Prop where
 low:Below w.heap.size w W
 u:OB 108 W gu U
 q:OB 108 W gq Q
 v:eW.R (fun i=>i=gv) W vv vl
 lu:U.length=lu
 lq:Q.length=lq
 eq:val U+val vl*val Q=A
 zq:∀ i,i<j->Q.getD i 0=0
 lt:val U<4294967296 ^ j*val vl
theorem BD3 {S:Nat->Prop} {w:World} {g o n c:Nat} {l:List Nat} (h:eW.R S w (.slice (some ⟨g,o,none⟩) n c) l) (hne:0<l.length):g<w.heap.size:=by
 obtain ⟨x,hx⟩:∃ x,l[0]?=some x:=⟨_,List.getElem?_eq_getElem hne⟩
 obtain ⟨ad,c',hv,_,e,he,_,hc⟩:=RL.at_ h hx
 cases hv
 have h0:e.cells[0]?=some e:=by obtain ⟨rfl,_⟩:=he;rfl
 have:=AV3 (hc 0 e h0)
 rw [F6,F6] at this
 exact this
theorem BL8 {p X U V q g bo V1:Nat} (hV:0<V) (hp:0<p) (hq:U / p / V=q) (hg1:q<=g) (hg2:g<=q+1) (hs:V1+p*(V*g)=U+X*bo) (hbo:bo<=1) (hV1:V1<X) (hX:U<X) :
  (bo=0->g=q/\V1+p*(V*q)=U)/\(bo=1->g=q+1/\∀ c V2,V2+X*c=V1+p*V->V2<X->c<=1->V2+p*(V*q)=U):=by
 have hq1:p*(V*q)<=U:=by
  rw [<-hq,Nat.div_div_eq_div_mul,<-Nat.mul_assoc];exact Nat.mul_div_le U (p*V)
 have hq2:U<p*(V*(q+1)):=by
  rw [<-hq,Nat.div_div_eq_div_mul,<-Nat.mul_assoc];exact Nat.lt_mul_div_succ U (Nat.mul_pos hp hV)
 rcases (show g=q\/g=q+1 by omega) with rfl | rfl
 ·constructor
  ·rintro rfl;exact ⟨rfl,by omega⟩
  ·rintro rfl;omega
 ·constructor
  ·rintro rfl;omega
  ·rintro rfl
   refine ⟨rfl,fun c V2 h1 h2 h3=>?_⟩
   have e:p*(V*(q+1))=p*(V*q)+p*V:=by grind
   rw [e] at hs hq2
   rcases (show c=0\/c=1 by omega) with rfl | rfl
   ·omega
   ·omega
theorem AT8:Ent Tryz.prog 242:=A0 Tryz.func242 (by kernel_rfl) rfl
set_option maxHeartbeats 3200000 in
theorem AT1 {S T0:Nat->Prop} {w:World} {va vb:Value} {a b:List Nat} {m:Nat} (up:Up S w) (upo:Up T0 w) (ha:eW.R S w va a) (hb:eW.R S w vb b) (hla:a.length<=1099511627776) (hlb:b.length=m+2) (hab:b.length<=a.length) (htop:0<b.getD (m+1) 0) :
  CR Tryz.prog 242 #[va,vb] w (Two (Wv T0 (val a / val b) (a.length+1)) (Wv S (val a % val b) (a.length+1))):=by
 have hda:dig a:=F1 ha
 have hdb:dig b:=F1 hb
 have htd:=E6 hdb (m+1)
 have gb:b[m+1]?=some (b.getD (m+1) 0):=C2 (by omega)
 have hbtop:4294967296 ^ (m+1)<=val b:=top_ge hlb htop
 have hp0:0<4294967296 ^ (m+1):=Nat.pow_pos (by omega)
 have hwn1:IntKind.i64.wrap ((b.length:Int)-1)=((m+1:Nat):Int):=by rw [wI (by omega)];omega
 refine enter Tryz.func242 O Tryz.ntmps242 O ?_
 refine .sr (.asg O O (.an O O (.sr (.mv O O (.lenR un_W O O hb (.an O O ?_))))))
 refine .sr (.mv O O (.mv O O (.sub O O O ?_)))
 rw [hwn1]
 refine .ixN un_W A3 O O hb O gb fun p hp=>.ldE A3 O O hp fun e he=>?_
 obtain ⟨rfl,_⟩:=he
 refine .call _ O AQ9 O (AQ2 htd htop) fun v1 w1 e1 h1=>?_
 obtain ⟨s,rfl,hs,htops⟩:=h1
 refine .cvt Q7 Av5 O O ?_
 rw [wU (n:=(s:Int)) (by omega)]
 refine .an O O ?_
 refine .mid (α:=Value×Value) (fun x=>[(0,va),(6,.int .i64 (b.length:Nat)),(7,.int .u64 (s:Nat)),(8,x.1),(9,x.2)]) (fun x W=>Ext w W/\∃ gu cu gv cv U0 V0,x.1=.slice (some ⟨gu,0,none⟩) (a.length+1) cu/\x.2=.slice (some ⟨gv,0,none⟩) b.length cv /\
   OB 108 W gu U0/\OB 108 W gv V0/\gu≠gv/\w.heap.size<=gu/\val U0=val a*2 ^ s/\U0.length=a.length+1/\val V0=val b*2 ^ s/\V0.length=b.length+1/\a.length+1<=cu/\cu<=9223372036854775807/\b.length+1<=cv/\cv<=9223372036854775807) ?_ ?_
 ·refine .heldT follows true (fun _=>True) [some _,some _,none,some _,some _,none,some _,none,none,none] (.one 2 (.one 5 (.two 7 (.one 8 (.one 9 .done)) 8 (.one 7 (.one 9 .done))))) (by kernel_rfl) (by kernel_rfl) ⟨fun _ _=>v_mv rfl,fun _ _=>v_mv rfl,fun _ _=>v_mv rfl,fun _ _=>v_mv rfl,fun _ _=>v_mv rfl,trivial⟩ ?_
  intro w1' e1' _
  have x1:=e1.trans e1'
  refine .gv O trivial O (A5 _ U4 O (S5 (ha.ext x1) hla hs)) ?_
  rintro vu w2 ⟨e2,U0,hou,hvu,hlu⟩
  refine .gv O trivial O (A5 _ U4 O (S5 (hb.ext (x1.trans e2)) (by omega) hs)) ?_
  rintro vs w3 ⟨e3,V0,hov,hvv,hlv⟩
  obtain ⟨gu,cu,rfl,hcu1,hcu2,hgu,obu⟩:=hou.ob (by intro h;rw [h] at hlu;simp at hlu)
  obtain ⟨gv,cv,rfl,hcv1,hcv2,hgv,obv⟩:=hov.ob (by intro h;rw [h] at hlv;simp at hlv)
  have hgu2:gu<w2.heap.size:=obu.lt
  have hguv:gu≠gv:=by omega
  have hres:∀ σ:Env,(∀ t v,Kx.look [(0,va),(6,.int .i64 (b.length:Nat)),(7,.int .u64 (s:Nat)),(8,.slice (some ⟨gu,0,none⟩) U0.length cu),(9,.slice (some ⟨gv,0+0*1,none⟩) (b.length-0) (cv-0))] t=some v->Kx.look σ t=some v) ->
    ([]:List Deferred)=[]/\∃ x:Value×Value,(∀ t v,Kx.look [(0,va),(6,.int .i64 (b.length:Nat)),(7,.int .u64 (s:Nat)),(8,x.1),(9,x.2)] t=some v->Kx.look σ t=some v)/\Ext w w3/\∃ gu cu gv cv U0 V0,x.1=.slice (some ⟨gu,0,none⟩) (a.length+1) cu/\x.2=.slice (some ⟨gv,0,none⟩) b.length cv /\
   OB 108 w3 gu U0/\OB 108 w3 gv V0/\gu≠gv/\w.heap.size<=gu/\val U0=val a*2 ^ s/\U0.length=a.length+1/\val V0=val b*2 ^ s/\V0.length=b.length+1/\a.length+1<=cu/\cu<=9223372036854775807/\b.length+1<=cv/\cv<=9223372036854775807 :=
   fun σ h=>⟨rfl,(_,_),h,(x1.trans e2).trans e3,gu,cu,gv,cv,U0,V0,by rw [hlu],rfl,obu.ext e3,obv,hguv,Nat.le_trans x1.size hgu,hvu,hlu,hvv,hlv,by omega,hcu2,by omega,hcv2⟩
  refine .gv2 (.gv O trivial O (Aq7 none (some _) 0 b.length un_W A3 O O ⟨.i64,rfl⟩ (Nat.zero_le _) (by omega) (by omega)).gv ?_) (.gv O trivial O (v_as O).gv ?_)
  ·rintro _ _ ⟨rfl,rfl⟩
   refine .gv O trivial O (v_as O).gv ?_
   rintro _ _ ⟨rfl,rfl⟩
   refine .gv O trivial O (v_as O).gv ?_
   rintro _ _ ⟨rfl,rfl⟩
   exact .nil (.inl O) (hres _ (lkA O))
  ·rintro _ _ ⟨rfl,rfl⟩
   refine .gv O trivial O (Aq7 none (some _) 0 b.length un_W A3 O O ⟨.i64,rfl⟩ (Nat.zero_le _) (by omega) (by omega)).gv ?_
   rintro _ _ ⟨rfl,rfl⟩
   refine .gv O trivial O (v_as O).gv ?_
   rintro _ _ ⟨rfl,rfl⟩
   exact .nil (.inl O) (hres _ (lkA O))
 rintro ⟨vu,vs⟩ w3 ⟨x3,gu,cu,gv,cv,U0,V0,hvus,hvss,obu,obv,hguv,hwgu,hvu,hlu,hvv,hlv,hcu1,hcu2,hcv1,hcv2⟩
 replace hvus:vu=.slice (some ⟨gu,0,none⟩) (a.length+1) cu:=hvus
 replace hvss:vs=.slice (some ⟨gv,0,none⟩) b.length cv:=hvss
 subst hvus
 subst hvss
 have hps:0<2 ^ s:=Nat.pow_pos (by omega)
 have hvlt:val V0<4294967296 ^ b.length:=by
  rw [hvv,hlb];exact Ak7 hdb hlb hs htops
 have hvl:=obv.toR (S:=fun i=>i=gv) O 0 b.length cv (by omega) (by omega) (by omega)
 rw [List.drop_zero] at hvl
 have hvlv:val (V0.take b.length)=val b*2 ^ s:=by rw [AB8 (by omega) hvlt,hvv]
 have hvll:(V0.take b.length).length=m+2:=by rw [List.length_take];omega
 have hVlt:val (V0.take b.length)<4294967296 ^ (m+2):=by rw [hvlv];exact Ak7 hdb hlb hs htops
 have hV1:=top_pos (An7 obv.1 b.length) hvll (by rw [hvlv];exact Nat.le_trans hbtop (Nat.le_mul_of_pos_right _ hps))
 generalize V0.take b.length=vl at *
 have hVp:0<val vl:=by
  have:=Nat.mul_pos (Nat.lt_of_lt_of_le hp0 hbtop) hps
  omega
 refine .sr (.mv O O (.lenR un_W O O (ha.ext x3) (.mv O O (.sub O O O ?_))))
 rw [wI (n:=(a.length:Int)-(b.length:Int)) (by omega)]
 refine .add O O O ?_
 rw [show IntKind.i64.wrap ((a.length:Int)-(b.length:Int)+1)=((a.length-b.length+1:Nat):Int) by rw [wI (by omega)];omega]
 refine .make_ _ _ un_W H1 O (by decide) O O O (Nat.le_refl _) (by omega) (by omega) fun w4 gq n4=>.an O O ?_
 have obq:OB 108 w4 gq (List.replicate (a.length-b.length+1) 0):=OB.made n4
 obtain ⟨e4,k4,hgq,hs4⟩:=n4
 have x4:=x3.trans e4
 have obu4:=obu.ext e4
 have hvl4:=hvl.ext e4
 have hgvlt:gv<w3.heap.size:=obv.lt
 have hgult:gu<w3.heap.size:=obu.lt
 have hguq:gu≠gq:=by omega
 have hgqv:gq≠gv:=by omega
 have hwgq:w.heap.size<=gq:=by have:=x3.size;omega
 generalize hlu':a.length+1=lu at *
 generalize hlq:a.length-b.length+1=lq at *
 have f4:LdF w gu gq gv (.slice (some ⟨gv,0,none⟩) b.length cv) lu lq vl (val a*2 ^ s) lq U0 (List.replicate lq 0) w4:=by
  refine ⟨x4,obu4,obq,hvl4,hlu,by simp,by rw [M2,hvu];omega,fun i _=>?_,?_⟩
  ·rw [List.getD_eq_getElem?_getD,List.getElem?_replicate];split<;>rfl
  ·rw [hvu,hvlv,<-Nat.mul_assoc]
   refine Nat.mul_lt_mul_of_pos_right ?_ hps
   have h1:=AH2 hda
   have h2:4294967296 ^ a.length=4294967296 ^ lq*4294967296 ^ (m+1):=by rw [<-Nat.pow_add];congr 1;omega
   have h3:=Nat.mul_le_mul_left (4294967296 ^ lq) hbtop
   omega
 refine .mid (α:=List Nat×List Nat) (fun x=>[(4,.slice (some ⟨gq,0,none⟩) lq lq),(6,.int .i64 (b.length:Nat)),(7,.int .u64 (s:Nat)),(8,.slice (some ⟨gu,0,none⟩) lu cu)]) (fun x W=>LdF w gu gq gv (.slice (some ⟨gv,0,none⟩) b.length cv) lu lq vl (val a*2 ^ s) 0 x.1 x.2 W) ?_ ?_
 ·refine .sr (.mv O O (.lenR un_W O O (ha.ext x4) (.mv O O (.sub O O O ?_))))
  rw [show IntKind.i64.wrap ((a.length:Int)-(b.length:Int))=(lq:Int)-1 by rw [wI (by omega)];omega]
  refine .an O O ?_
  refine .block (.loop (α:=Nat×List Nat×List Nat) (fun x=>[(4,.slice (some ⟨gq,0,none⟩) lq lq),(6,.int .i64 (b.length:Nat)),(7,.int .u64 (s:Nat)),(8,.slice (some ⟨gu,0,none⟩) lu cu),(9,.slice (some ⟨gv,0,none⟩) b.length cv),(10,.int .i64 ((x.1:Int)-1))])
   (fun x W=>x.1<=lq/\LdF w gu gq gv (.slice (some ⟨gv,0,none⟩) b.length cv) lu lq vl (val a*2 ^ s) x.1 x.2.1 x.2.2 W) (fun x=>x.1) (lq,U0,List.replicate lq 0) ?_ ?_ ?_)
  ·exact lkA rfl
  ·exact ⟨Nat.le_refl _,f4⟩
  ·rintro ⟨j,U,Q⟩ W ⟨hj,hF⟩
   replace hj:j<=lq:=hj
   replace hF:LdF w gu gq gv (.slice (some ⟨gv,0,none⟩) b.length cv) lu lq vl (val a*2 ^ s) j U Q W:=hF
   rcases Nat.eq_zero_or_pos j with hj0 | hj0
   ·subst hj0
    refine .seq (.sr (.mv O O (.geqF O O O (by show ¬ (0:Int)<=((0:Nat):Int)-1;omega) (.nil (.condF O (.exit ?_))))))
    exact ⟨rfl,(U,Q),lkA rfl,hF⟩
   ·obtain ⟨k,rfl⟩:∃ i,j=i+1:=⟨j-1,by omega⟩
    have hi:((k+1:Nat):Int)-1=(k:Int):=by omega
    refine .seq (.sr (.mv (v:=.int .i64 (k:Int)) O (by rw [<-hi];rfl) (.geqT O O O (by omega) (.nil (.condT O (.skip (.seq (.block (.sr ?_)))))))))
    have hkn:k+(b.length+1)<=lu:=by omega
    have hkn':k+(m+3)<=U.length:=by rw [hF.lu];omega
    have hX:val U<4294967296 ^ (k+(b.length+1)):=by
     have h1:4294967296 ^ (k+1)*val vl<4294967296 ^ (k+1)*4294967296 ^ (m+2):=Nat.mul_lt_mul_of_pos_left hVlt (Nat.pow_pos (by omega))
     rw [<-Nat.pow_add,show k+1+(m+2)=k+(b.length+1) by omega] at h1
     exact Nat.lt_trans hF.lt h1
    have hpk:0<4294967296 ^ k:=Nat.pow_pos (by omega)
    have hwin:val ((U.drop k).take (b.length+1))=val U / 4294967296 ^ k:=Aq5 hF.u.1 (by rw [hF.lu];exact hkn) hX
    have hwl:((U.drop k).take (b.length+1)).length=m+3:=by rw [List.length_take,List.length_drop];omega
    have hwlt:val ((U.drop k).take (b.length+1))<4294967296*val vl:=by
     rw [hwin,Nat.div_lt_iff_lt_mul hpk]
     have h1:=hF.lt
     rw [Nat.pow_succ] at h1
     have e:4294967296*val vl*4294967296 ^ k=4294967296 ^ k*4294967296*val vl:=by grind
     omega
    have hw1:IntKind.i64.wrap ((k:Int)+(b.length:Int))=((k+b.length:Nat):Int):=by rw [wI (by omega)];omega
    have hw2:IntKind.i64.wrap (((k+b.length:Nat):Int)+1)=((k+b.length+1:Nat):Int):=by rw [wI (by omega)];omega
    refine .mv O O (.mv (v:=.int .i64 (k:Int)) O (by rw [<-hi];rfl) (.mv (v:=.int .i64 (k:Int)) O (by rw [<-hi];rfl) (.mv O O (.add O O O ?_))))
    rw [hw1]
    refine .add O O O ?_
    rw [hw2]
    refine .cutB k (k+b.length+1) un_W A3 O O ⟨.i64,rfl⟩ ⟨.i64,rfl⟩ (by omega) (by omega) (by omega) ?_
    rw [show 0+k*1=k by omega,show k+b.length+1-k=b.length+1 by omega]
    have hwR:=hF.u.toR (S:=fun i=>i=gu\/i=gv) (.inl O) k (b.length+1) (cu-k) (by rw [hF.lu];exact hkn) (by omega) (by omega)
    refine .mv O O (.call _ O AQ5 O (AO0 hwR (eW.mono (fun _ _ h=>.inr h) hF.v) hwl hvll (by omega) hV1 hwlt) fun xg w5 e5 h5=>?_)
    obtain ⟨gs,rfl,hgs,hg1,hg2⟩:=h5
    rw [hwin] at hg1 hg2
    refine .an O O ?_
    refine .mid (α:=Nat×List Nat) (fun x=>[(4,.slice (some ⟨gq,0,none⟩) lq lq),(6,.int .i64 (b.length:Nat)),(7,.int .u64 (s:Nat)),(8,.slice (some ⟨gu,0,none⟩) lu cu),(9,.slice (some ⟨gv,0,none⟩) b.length cv),(10,.int .i64 (k:Int)),(11,.int .u64 (x.1:Nat))])
     (fun x W=>Below w.heap.size w W/\OB 108 W gu x.2/\OB 108 W gq Q/\eW.R (fun i=>i=gv) W (.slice (some ⟨gv,0,none⟩) b.length cv) vl/\x.2.length=lu/\x.1<4294967296/\val x.2+4294967296 ^ k*(val vl*x.1)=val U/\val x.2<4294967296 ^ k*val vl) ?_ ?_
    ·refine .sr (.mv O O (.mv (v:=.int .i64 (k:Int)) O (by rw [<-hi];rfl) (.mv (v:=.int .i64 (k:Int)) O (by rw [<-hi];rfl) (.mv O O (.add O O O ?_)))))
     rw [hw1]
     refine .add O O O ?_
     rw [hw2]
     refine .cutB k (k+b.length+1) un_W A3 O O ⟨.i64,rfl⟩ ⟨.i64,rfl⟩ (by omega) (by omega) (by omega) ?_
     rw [show 0+k*1=k by omega,show k+b.length+1-k=b.length+1 by omega]
     refine .mv O O (.mv O O ?_)
     have hB5:Below w.heap.size w w5:=hF.low.trans (e5.mono hF.low.size)
     refine .callG _ O V8 O (U6 (hF.u.ext e5) (hF.v.ext e5) (fun h=>hguv h) (by omega) (by rw [hF.lu];exact hkn) (by rw [hF.lu];omega) hgs) ?_
     rintro _ w6 ⟨V1,bo,rfl,hbo,hG6,ob6,hl6,hhi6,hval6⟩
     have hB6:Below w.heap.size w w6:=Ao2 hB5 hG6 hwgu hB5.size
     have hq6:OB 108 w6 gq Q:=by
      obtain ⟨hd,cs,hb',hc⟩:=hF.q.ext e5
      exact ⟨hd,cs,(hG6.block gq hb'.lt (fun e=>hguq (by cases e;rfl))).trans hb',hc⟩
     have hv6:=eW.keep (Am4 hG6 (S:=fun i=>i=gv) hguv) (hF.v.ext e5)
     have hV1X:val V1<4294967296 ^ (k+(b.length+1)):=AI9 hl6 ob6.1 hhi6 hX
     obtain ⟨dg0,dg1⟩:=BL8 hVp hpk rfl hg1 hg2 hval6 hbo hV1X hX
     have hlast:∀ U2:List Nat,val U2+4294967296 ^ k*(val vl*(val U / 4294967296 ^ k / val vl))=val U->val U2<4294967296 ^ k*val vl:=by
      intro U2 h
      have:val U<4294967296 ^ k*(val vl*(val U / 4294967296 ^ k / val vl+1)):=by
       rw [Nat.div_div_eq_div_mul,<-Nat.mul_assoc];exact Nat.lt_mul_div_succ _ (Nat.mul_pos hpk hVp)
      rw [Nat.mul_add (val vl),Nat.mul_add,Nat.mul_one] at this
      omega
     rcases (show bo=0\/bo=1 by omega) with h0 | h0
     ·subst h0
      obtain ⟨hgq',hvq⟩:=dg0 rfl
      refine .nil (.condF O (.skip ⟨rfl,(gs,V1),?_,hB6,ob6,hq6,hv6,hl6.trans hF.lu,hgs,?_,?_⟩))
      ·exact A6 O (A6 O (A6 O (A6 O (A6 O (A6 (by rw [<-hi];rfl) (lkA O))))))
      ·show val V1+4294967296 ^ k*(val vl*gs)=val U
       rw [hgq'];exact hvq
      ·exact hlast V1 hvq
     ·subst h0
      obtain ⟨hgq',hadd⟩:=dg1 rfl
      refine .nil (.condT O (.sr (.mv O O (.sub O O O ?_))))
      have hgs1:1<=gs:=by rw [hgq'];exact Nat.succ_le_succ (Nat.zero_le _)
      rw [show IntKind.u64.wrap ((gs:Int)-1)=((gs-1:Nat):Int) by rw [wU (by omega)];omega]
      refine .an O O (.sr ?_)
      refine .call [.int .u64 (0:Nat)] O G7 O G5 fun v7 w7 e7 h7=>.an O O ?_
      obtain ⟨bx,rfl,kx,hbx⟩:=h7
      have hB7:Below w.heap.size w w7:=hB6.trans (e7.mono hB6.size)
      have hgux:gu≠bx:=by have:=ob6.lt;omega
      have hgqx:gq≠bx:=by have:=hq6.lt;omega
      have hgvx:gv≠bx:=by have:=hG6.size;have:=e5.size;have:=hF.low.size;have:=x4.size;have:gv<w6.heap.size:=BD3 hv6 (by omega);omega
      have hwbx:w.heap.size<=bx:=Nat.le_trans hB6.size hbx
      refine .mid (α:=List Nat×Nat) (fun x=>[(4,.slice (some ⟨gq,0,none⟩) lq lq),(6,.int .i64 (b.length:Nat)),(7,.int .u64 (s:Nat)),(8,.slice (some ⟨gu,0,none⟩) lu cu),(9,.slice (some ⟨gv,0,none⟩) b.length cv),(10,.int .i64 (k:Int)),(11,.int .u64 ((gs-1:Nat):Int)),(12,carV bx)])
       (fun x W=>Below w.heap.size w W/\OB 108 W gu x.1/\OB 108 W gq Q/\eW.R (fun i=>i=gv) W (.slice (some ⟨gv,0,none⟩) b.length cv) vl/\x.1.length=lu/\cBlk W bx x.2/\x.2<=1/\(∀ j,k+(b.length+1)<=j->x.1.getD j 0=U.getD j 0)/\val x.1+4294967296 ^ (k+b.length)*x.2=val V1+4294967296 ^ k*val vl) ?_ ?_
      ·refine .sr (.mv O O (.lenR un_W O O (hv6.ext e7) (.mv O O (.nil ?_))))
       rw [show vl.length=b.length by omega]
       refine .block (.loop (α:=Nat×List Nat×Nat) (fun x=>[(4,.slice (some ⟨gq,0,none⟩) lq lq),(6,.int .i64 (b.length:Nat)),(7,.int .u64 (s:Nat)),(8,.slice (some ⟨gu,0,none⟩) lu cu),(9,.slice (some ⟨gv,0,none⟩) b.length cv),(10,.int .i64 (k:Int)),(11,.int .u64 ((gs-1:Nat):Int)),(12,carV bx),(69,.slice (some ⟨gv,0,none⟩) b.length cv),(70,.int .i64 (b.length:Nat)),(71,.int .i64 (x.1:Nat))])
        (fun x W=>x.1<=b.length/\Below w.heap.size w W/\OB 108 W gu x.2.1/\OB 108 W gq Q/\eW.R (fun i=>i=gv) W (.slice (some ⟨gv,0,none⟩) b.length cv) vl/\x.2.1.length=lu/\cBlk W bx x.2.2/\x.2.2<=1/\(∀ j,k+(b.length+1)<=j->x.2.1.getD j 0=U.getD j 0)/\val x.2.1+4294967296 ^ (k+x.1)*x.2.2=val V1+4294967296 ^ k*val (vl.take x.1)) (fun x=>b.length-x.1) (0,V1,0) ?_ ?_ ?_)
       ·exact A6 O (A6 O (A6 O (A6 O (A6 O (A6 (by rw [<-hi];rfl) (lkA O))))))
       ·exact ⟨Nat.zero_le _,hB7,ob6.ext e7,hq6.ext e7,hv6.ext e7,hl6.trans hF.lu,kx,Nat.zero_le _,hhi6,by simp [val]⟩
       ·rintro ⟨i,Z,c⟩ W8 ⟨hib,hB8,ob8,hq8,hv8,hl8,hcx,hc,hhi8,hval8⟩
        replace hib:i<=b.length:=hib
        replace ob8:OB 108 W8 gu Z:=ob8
        replace hl8:Z.length=lu:=hl8
        replace hcx:cBlk W8 bx c:=hcx
        replace hc:c<=1:=hc
        replace hhi8:∀ j,k+(b.length+1)<=j->Z.getD j 0=U.getD j 0:=hhi8
        replace hval8:val Z+4294967296 ^ (k+i)*c=val V1+4294967296 ^ k*val (vl.take i):=hval8
        by_cases hlt:i<b.length
        ·refine .sr (.lssT O O O (by show (i:Int)<(b.length:Int);omega) (.nil (.seq (.condT O (.skip (.seq (.block (.sr (.mv O O ?_)))))))))
         refine .ixN (i:=i) un_W A3 O O hv8 O (C2 (by omega)) fun p hp=>.ldE A3 O O hp fun e he=>?_
         obtain ⟨rfl,hyy⟩:=he
         have hgi:Z[k+i]?=some (Z.getD (k+i) 0):=C2 (by omega)
         have hxx:=E6 ob8.1 (k+i)
         generalize hy:vl.getD i 0=y at *
         generalize hx:Z.getD (k+i) 0=x at *
         have hki:IntKind.i64.wrap ((k:Int)+(i:Int))=((k+i:Nat):Int):=by rw [wI (by omega)];omega
         refine .asg O O (.an O O (.region ?_))
         refine .mv O O (.mv O O (.mv O O (.add (m:=(k:Int)) (n:=(i:Int)) O O O ?_)))
         rw [hki]
         refine .mv O O (.mv O O (.mv O O (.mv O O (.add (m:=(k:Int)) (n:=(i:Int)) O O O ?_))))
         rw [hki]
         refine .ixW un_W A3 O O O (by omega) ?_
         rw [Nat.zero_add]
         refine .ldO A3 O O ob8 hgi (.cvt C1 C3 O O (.mv O O (.cvt C1 C3 O O (.add O O O ?_))))
         rw [wU (n:=(x:Int)) (by omega),wU (n:=(y:Int)) (by omega),<-Int.natCast_add,wU (n:=((x+y:Nat):Int)) (by omega)]
         refine .callvG [_] O O H8 O (H6 hcx (by omega)) ?_
         rintro _ W9 ⟨rfl,u9,hcx9⟩
         refine .ixW un_W A3 O O O (by omega) ?_
         rw [Nat.zero_add]
         refine .stO A3 O O O (ob8.upd u9 hgux) (by omega) (by omega) fun W10 ob10 u10=>.nil (.region (.add (m:=(i:Int)) O O O (.mv O O (.nil ?_))))
         rw [wI (n:=(i:Int)+1) (by omega)]
         refine ⟨rfl,(i+1,_,_),lkA rfl,⟨hlt,u10.below (u9.below hB8 hwbx) hwgu,ob10,(hq8.upd u9 hgqx).upd u10 (Ne.symm hguq),(hv8.upd u9 (fun h=>hgvx h.symm)).upd u10 hguv,by simp [hl8],hcx9.upd u10 (Ne.symm hgux),?_,?_,?_⟩,by show b.length-(i+1)<b.length-i;omega⟩
         ·show (x+y+c) / 4294967296<=1
          omega
         ·intro j hj
          show (Z.set (k+i) ((x+y+c) % 4294967296)).getD j 0=U.getD j 0
          rw [List.getD_eq_getElem?_getD,List.getElem?_set_ne (by omega),<-List.getD_eq_getElem?_getD]
          exact hhi8 j hj
         ·show val (Z.set (k+i) ((x+y+c) % 4294967296))+4294967296 ^ (k+(i+1))*((x+y+c) / 4294967296)=val V1+4294967296 ^ k*val (vl.take (i+1))
          rw [<-Nat.add_assoc k i 1,Nat.pow_succ]
          refine Ao4 (Z1 _ hgi) (Nat.div_add_mod _ _) hval8 ?_
          rw [B7,hy,Nat.pow_add]
          grind
        ·refine .sr (.lssF O O O (by show ¬ (i:Int)<(b.length:Int);omega) (.nil (.seq (.condF O (.exit ?_)))))
         have:i=b.length:=by omega
         subst this
         rw [List.take_of_length_le (by omega)] at hval8
         exact ⟨rfl,(Z,c),lkA rfl,hB8,ob8,hq8,hv8,hl8,hcx,hc,hhi8,hval8⟩
      ·rintro ⟨Z,c⟩ W8 ⟨hB8,ob8,hq8,hv8,hl8,hcx,hc,hhi8,hval8⟩
       replace ob8:OB 108 W8 gu Z:=ob8
       replace hl8:Z.length=lu:=hl8
       replace hcx:cBlk W8 bx c:=hcx
       replace hc:c<=1:=hc
       replace hhi8:∀ j,k+(b.length+1)<=j->Z.getD j 0=U.getD j 0:=hhi8
       replace hval8:val Z+4294967296 ^ (k+b.length)*c=val V1+4294967296 ^ k*val vl:=hval8
       have hgi:Z[k+b.length]?=some (Z.getD (k+b.length) 0):=C2 (by omega)
       have hxx:=E6 ob8.1 (k+b.length)
       generalize hx:Z.getD (k+b.length) 0=x at *
       refine .region (.mv O O (.mv O O (.mv O O (.add (m:=(k:Int)) (n:=(b.length:Int)) O O O ?_))))
       rw [hw1]
       refine .mv O O (.mv O O (.mv O O (.mv O O (.add (m:=(k:Int)) (n:=(b.length:Int)) O O O ?_))))
       rw [hw1]
       refine .ixW un_W A3 O O O (by omega) ?_
       rw [Nat.zero_add]
       refine .ldO A3 O O ob8 hgi (.cvt C1 C3 O O ?_)
       rw [wU (n:=(x:Int)) (by omega)]
       refine .callvG [_] O O H8 O (H6 hcx (by omega)) ?_
       rintro _ W9 ⟨rfl,u9,hcx9⟩
       refine .ixW un_W A3 O O O (by omega) ?_
       rw [Nat.zero_add]
       refine .stO A3 O O O (ob8.upd u9 hgux) (by omega) (by omega) fun W10 ob10 u10=>.nil ?_
       have hsum:val (Z.set (k+b.length) ((x+c) % 4294967296))+4294967296 ^ (k+(b.length+1))*((x+c) / 4294967296)=val V1+4294967296 ^ k*val vl:=by
        rw [<-Nat.add_assoc k b.length 1,Nat.pow_succ]
        exact Ao4 (y:=0) (Z1 _ hgi) (by rw [Nat.add_zero];exact Nat.div_add_mod _ _) hval8 (by omega)
       have hhi10:∀ j,k+(b.length+1)<=j->(Z.set (k+b.length) ((x+c) % 4294967296)).getD j 0=U.getD j 0:=by
        intro j hj
        rw [List.getD_eq_getElem?_getD,List.getElem?_set_ne (by omega),<-List.getD_eq_getElem?_getD]
        exact hhi8 j hj
       have hres:=hadd _ _ hsum (AI9 (by simp [hl8,hF.lu]) ob10.1 hhi10 hX) (by omega)
       refine ⟨rfl,(gs-1,_),lkA rfl,u10.below (u9.below hB8 hwbx) hwgu,ob10,(hq8.upd u9 hgqx).upd u10 (Ne.symm hguq),(hv8.upd u9 (fun h=>hgvx h.symm)).upd u10 hguv,by simp [hl8],by show gs-1<4294967296;omega,?_,hlast _ hres⟩
       show _+4294967296 ^ k*(val vl*(gs-1))=val U
       rw [hgq',Nat.add_sub_cancel];exact hres
    ·rintro ⟨dg,U2⟩ W6 ⟨hB6,ob6,hq6,hv6,hl6,hdg,hval6,hlt6⟩
     replace hdg:dg<4294967296:=hdg
     replace hval6:val U2+4294967296 ^ k*(val vl*dg)=val U:=hval6
     refine .region (.mv O O (.mv O O (.mv O O (.cvt (m:=(dg:Int)) C3 C1 O O ?_))))
     rw [I3,Nat.mod_eq_of_lt hdg]
     refine .ixW (i:=k) un_W A3 O O O (by omega) ?_
     rw [Nat.zero_add]
     refine .stO A3 O O O hq6 (by rw [hF.lq];omega) hdg fun W7 ob7 u7=>.nil (.region (.mv O O (.sub (m:=(k:Int)) O O O (.an O O ?_))))
     rw [wI (n:=(k:Int)-1) (by omega)]
     refine ⟨rfl,(k,U2,Q.set k dg),lkA rfl,⟨by show k<=lq;omega,u7.below hB6 hwgq,ob6.upd u7 hguq,ob7,hv6.upd u7 hgqv,hl6,by simp [hF.lq],?_,?_,hlt6⟩,Nat.lt_succ_self k⟩
     ·show val U2+val vl*val (Q.set k dg)=val a*2 ^ s
      have h1:=Z1 dg (C2 (l:=Q) (k:=k) (by rw [hF.lq];omega))
      rw [hF.zq k (by omega),Nat.mul_zero,Nat.add_zero] at h1
      rw [h1,<-hF.eq,<-hval6,Nat.mul_add]
      grind
     ·intro i hi'
      have hi':i<k:=hi'
      show (Q.set k dg).getD i 0=0
      rw [List.getD_eq_getElem?_getD,List.getElem?_set_ne (by omega),<-List.getD_eq_getElem?_getD]
      exact hF.zq i (by omega)
 ·rintro ⟨U,Q⟩ W ⟨hB,hu,hq,hv,hlU,hlQ,heq,hzq,hUlt⟩
  replace hu:OB 108 W gu U:=hu
  replace hq:OB 108 W gq Q:=hq
  replace hlU:U.length=lu:=hlU
  replace hlQ:Q.length=lq:=hlQ
  replace heq:val U+val vl*val Q=val a*2 ^ s:=heq
  replace hUlt:val U<val vl:=by have:val U<4294967296 ^ 0*val vl:=hUlt;omega
  refine .sr (.mv O O (.make_ b.length b.length un_W H1 O (by decide) O O O (Nat.le_refl _) (by omega) (by omega) fun w5 gr n5=>.an O O ?_))
  have obr:OB 108 w5 gr (List.replicate b.length 0):=OB.made n5
  obtain ⟨e5,k5,hgr,hs5⟩:=n5
  have hgur:gu≠gr:=by have:=hu.lt;omega
  have hgqr:gq≠gr:=by have:=hq.lt;omega
  have hwgr:w.heap.size<=gr:=by have:=hB.size;omega
  obtain ⟨hdiv,hmod⟩:=div_end (A:=val a) (b:=val b) (s:=s) (U:=val U) (q:=val Q) (by omega) (by rw [<-hvlv];exact heq) (by rw [<-hvlv];exact hUlt)
  refine .mid (α:=List Nat) (fun _=>[(4,.slice (some ⟨gq,0,none⟩) lq lq),(5,.slice (some ⟨gr,0,none⟩) b.length b.length)]) (fun R W'=>Below w.heap.size w W'/\OB 108 W' gq Q/\OB 108 W' gr R/\R.length=b.length/\val R=val U / 2 ^ s) ?_ ?_
  ·refine .sr (.mv O O (.mv O O (.nil ?_)))
   refine .block (.loop (α:=Nat×List Nat) (fun x=>[(4,.slice (some ⟨gq,0,none⟩) lq lq),(5,.slice (some ⟨gr,0,none⟩) b.length b.length),(7,.int .u64 (s:Nat)),(8,.slice (some ⟨gu,0,none⟩) lu cu),(115,.int .i64 (b.length:Nat)),(116,.int .i64 (x.1:Nat))])
    (fun x W'=>x.1<=b.length/\Below w.heap.size w W'/\OB 108 W' gu U/\OB 108 W' gq Q/\OB 108 W' gr x.2/\x.2.length=b.length/\val x.2=(val U / 2 ^ s) % 4294967296 ^ x.1/\∀ j,x.1<=j->x.2.getD j 0=0) (fun x=>b.length-x.1) (0,List.replicate b.length 0) ?_ ?_ ?_)
   ·exact lkA rfl
   ·refine ⟨Nat.zero_le _,hB.trans (e5.mono hB.size),hu.ext e5,hq.ext e5,obr,by simp,?_,fun j _=>?_⟩
    ·show val (List.replicate b.length 0)=_ % 4294967296 ^ 0
     rw [M2,Nat.pow_zero,Nat.mod_one]
    ·show (List.replicate b.length 0).getD j 0=0
     rw [List.getD_eq_getElem?_getD,List.getElem?_replicate];split<;>rfl
   ·rintro ⟨i,R⟩ W6 ⟨hi,hB6,hu6,hq6,hr6,hlR,hvR,hzR⟩
    replace hi:i<=b.length:=hi
    replace hr6:OB 108 W6 gr R:=hr6
    replace hlR:R.length=b.length:=hlR
    replace hvR:val R=(val U / 2 ^ s) % 4294967296 ^ i:=hvR
    replace hzR:∀ j,i<=j->R.getD j 0=0:=hzR
    by_cases hlt:i<b.length
    ·refine .sr (.lssT O O O (by show (i:Int)<(b.length:Int);omega) (.nil (.seq (.condT O (.skip (.seq (.block (.sr (.mv O O (.an O O ?_))))))))))
     have g0:U[i]?=some (U.getD i 0):=C2 (by omega)
     have g1:U[i+1]?=some (U.getD (i+1) 0):=C2 (by omega)
     have d0:=E6 hu.1 i
     have d1:=E6 hu.1 (i+1)
     have hdig:=BA6 (i:=i) hu.1 hs (by omega)
     generalize U.getD i 0=x0 at *
     generalize U.getD (i+1) 0=x1 at *
     refine .held follows true (fun W'=>OB 108 W' gu U) [some _,some (.int .i64 (i:Nat)),some _,some (.int .i64 (i:Nat)),some (.pointer (some ⟨gu,i,none⟩)),some (wv x0),some (.int .u64 (x0:Nat)),some _,some (.int .i64 (i:Nat)),some (.int .i64 ((i+1:Nat):Int)),some (.pointer (some ⟨gu,i+1,none⟩)),some (wv x1),some (.int .u64 (x1:Nat)),
      some (.int .u64 ((x1*4294967296:Nat):Int)),some (.int .u64 ((x0+4294967296*x1:Nat):Int)),some _,some (.int .u64 (((x0+4294967296*x1) / 2 ^ s:Nat):Int)),some (wv (((x0+4294967296*x1) / 2 ^ s) % 4294967296)),some (.pointer (some ⟨gr,i,none⟩)),none] (by kernel_rfl) ⟨
      fun _ _=>v_mv rfl,fun _ _=>v_mv rfl,fun _ _=>v_mv rfl,fun _ _=>v_mv rfl,fun _ _=>(Ak2 (i:=i) un_W A3 O O (by omega)).eq (by rw [Nat.zero_add]),fun _ h=>Av2 A3 O h g0,fun _ _=>(Q6 C1 C3 O).eq (by rw [wU (by omega)]),
      fun _ _=>v_mv rfl,fun _ _=>v_mv rfl,fun _ _=>(Ak4 (m:=(i:Int)) O O).eq (by rw [wI (by omega)];rfl),fun _ _=>(Ak2 (i:=i+1) un_W A3 O O (by omega)).eq (by rw [Nat.zero_add]),fun _ h=>Av2 A3 O h g1,fun _ _=>(Q6 C1 C3 O).eq (by rw [wU (by omega)]),
      fun _ _=>(Au9 O O (by decide)).eq (by rw [shl32 x1 d1]),fun _ _=>(v_or O O).eq (by rw [Ar6 _ _ (by omega) (by omega),or32 x0 x1 d0]),fun _ _=>v_mv rfl,fun _ _=>(v_shr O O (by omega)).eq (by rw [shr_nat _ _ (by omega)]),fun _ _=>(Q6 C3 C1 O).eq (by rw [I3]),fun _ _=>(Ak2 (i:=i) un_W A3 O O (by omega)).eq (by rw [Nat.zero_add]),trivial⟩ ?_
     intro W7 e7 _
     refine .gv (hu6.ext e7) O (g_stO A3 O O (hr6.ext e7) (by omega) (Nat.mod_lt _ (by omega))) ?_
     rintro _ W8 ⟨hr8,u8⟩
     refine .nil (.inl O) (.region (.add (m:=(i:Int)) O O O (.mv O O (.nil ?_))))
     rw [wI (n:=(i:Int)+1) (by omega)]
     refine ⟨rfl,(i+1,_),lkA rfl,⟨hlt,u8.below (hB6.trans (e7.mono hB6.size)) hwgr,(hu6.ext e7).upd u8 hgur,(hq6.ext e7).upd u8 hgqr,hr8,by simp [hlR],?_,?_⟩,by show b.length-(i+1)<b.length-i;omega⟩
     ·show val (R.set i (((x0+4294967296*x1) / 2 ^ s) % 4294967296))=(val U / 2 ^ s) % 4294967296 ^ (i+1)
      have h1:=Z1 (((x0+4294967296*x1) / 2 ^ s) % 4294967296) (C2 (l:=R) (k:=i) (by omega))
      rw [hzR i (Nat.le_refl _),Nat.mul_zero,Nat.add_zero] at h1
      rw [h1,hdig,hvR]
     ·intro j hj
      have hj:i+1<=j:=hj
      show (R.set i (((x0+4294967296*x1) / 2 ^ s) % 4294967296)).getD j 0=0
      rw [List.getD_eq_getElem?_getD,List.getElem?_set_ne (by omega),<-List.getD_eq_getElem?_getD]
      exact hzR j (by omega)
    ·refine .sr (.lssF O O O (by show ¬ (i:Int)<(b.length:Int);omega) (.nil (.seq (.condF O (.exit ?_)))))
     have:i=b.length:=by omega
     subst this
     refine ⟨rfl,R,lkA rfl,hB6,hq6,hr6,hlR,?_⟩
     rw [hvR,Nat.mod_eq_of_lt]
     refine Nat.lt_of_le_of_lt (Nat.div_le_self _ _) ?_
     rw [hlb];omega
  ·rintro R W6 ⟨hB6,hq6,hr6,hlR,hvR⟩
   refine .sr (.mv O O (.mv O O (.asg O O (.an O O (.ret ?_)))))
   refine .plain [_,_] Tryz.results242 ⟨rfl,rfl,trivial⟩ ⟨hB6,_,_,rfl,⟨Q,?_,hdiv.symm,by omega⟩,⟨R,?_,by rw [hvR,hmod],by omega⟩⟩
   ·have:=hq6.toR0 (S:=T0) (c:=lq) (upo gq (by omega)) (by omega) (by omega)
    rw [hlQ] at this;exact this
   ·have:=hr6.toR0 (S:=S) (c:=b.length) (up gr (by omega)) (by omega) (by omega)
    rw [hlR] at this;exact this
end Go.Proofs.YtpgkacdihhjknaaGreat
namespace Go.Kx
open Go
theorem AG9 (b:BitVec 64):IntKind.i64.wrap (b.toNat:Int)=b.toInt:=by
 rw [IntKind.wrap_i64,BitVec.toInt_eq_toNat_cond]
 have:=b.isLt
 split<;>omega
theorem Z5 (b:BitVec 64):BitVec.ofInt 64 (IntKind.i64.wrap (b.toNat:Int))=b:=by
 rw [AG9,BitVec.ofInt_toInt]
theorem Q5 {x:Int} (h1 : -9223372036854775808<=x) (h2:x<=9223372036854775807):(BitVec.ofInt 64 x).msb=decide (x<0):=by
 rw [BitVec.msb_eq_decide,BitVec.toNat_ofInt]
 simp only [decide_eq_decide]
 omega
theorem AJ1 {b:BitVec 64}:0<=b.toInt<->b.msb=false:=by
 rw [BitVec.toInt_eq_msb_cond]
 have:=b.isLt
 cases b.msb<;>simp<;>omega
theorem add_ok {x y:Int} (hx1 : -9223372036854775808<=x) (hx2:x<=9223372036854775807) (hy1 : -9223372036854775808<=y) (hy2:y<=9223372036854775807)
  (h:0<=IntKind.i64.wrap (BitVec.ofInt IntKind.i64.bits (IntKind.i64.wrap (BitVec.ofInt IntKind.i64.bits x ^^^ BitVec.ofInt IntKind.i64.bits (IntKind.i64.wrap (x+y))).toNat) &&& BitVec.ofInt IntKind.i64.bits (IntKind.i64.wrap (BitVec.ofInt IntKind.i64.bits y ^^^ BitVec.ofInt IntKind.i64.bits (IntKind.i64.wrap (x+y))).toNat)).toNat) :
  IntKind.i64.wrap (x+y)=x+y:=by
 change 0<=IntKind.i64.wrap (BitVec.ofInt 64 (IntKind.i64.wrap (BitVec.ofInt 64 x ^^^ BitVec.ofInt 64 (IntKind.i64.wrap (x+y))).toNat) &&& BitVec.ofInt 64 (IntKind.i64.wrap (BitVec.ofInt 64 y ^^^ BitVec.ofInt 64 (IntKind.i64.wrap (x+y))).toNat)).toNat at h
 rw [Z5,Z5,AG9,AJ1,BitVec.msb_and,BitVec.msb_xor,BitVec.msb_xor] at h
 have hr : -9223372036854775808<=IntKind.i64.wrap (x+y)/\IntKind.i64.wrap (x+y)<=9223372036854775807:=by rw [IntKind.wrap_i64];omega
 rw [Q5 hx1 hx2,Q5 hy1 hy2,Q5 hr.1 hr.2] at h
 rw [IntKind.wrap_i64] at h ⊢
 simp only [Bool.and_eq_false_iff,bne_eq_false_iff_eq,decide_eq_decide] at h
 omega
theorem sub_ok {x y:Int} (hx1 : -9223372036854775808<=x) (hx2:x<=9223372036854775807) (hy1 : -9223372036854775808<=y) (hy2:y<=9223372036854775807)
  (h:0<=IntKind.i64.wrap (BitVec.ofInt IntKind.i64.bits (IntKind.i64.wrap (BitVec.ofInt IntKind.i64.bits x ^^^ BitVec.ofInt IntKind.i64.bits y).toNat) &&& BitVec.ofInt IntKind.i64.bits (IntKind.i64.wrap (BitVec.ofInt IntKind.i64.bits x ^^^ BitVec.ofInt IntKind.i64.bits (IntKind.i64.wrap (x-y))).toNat)).toNat) :
  IntKind.i64.wrap (x-y)=x-y:=by
 change 0<=IntKind.i64.wrap (BitVec.ofInt 64 (IntKind.i64.wrap (BitVec.ofInt 64 x ^^^ BitVec.ofInt 64 y).toNat) &&& BitVec.ofInt 64 (IntKind.i64.wrap (BitVec.ofInt 64 x ^^^ BitVec.ofInt 64 (IntKind.i64.wrap (x-y))).toNat)).toNat at h
 rw [Z5,Z5,AG9,AJ1,BitVec.msb_and,BitVec.msb_xor,BitVec.msb_xor] at h
 have hr : -9223372036854775808<=IntKind.i64.wrap (x-y)/\IntKind.i64.wrap (x-y)<=9223372036854775807:=by rw [IntKind.wrap_i64];omega
 rw [Q5 hx1 hx2,Q5 hy1 hy2,Q5 hr.1 hr.2] at h
 rw [IntKind.wrap_i64] at h ⊢
 simp only [Bool.and_eq_false_iff,bne_eq_false_iff_eq,decide_eq_decide] at h
 omega
end Go.Kx
namespace Go.Proofs.YtpgkacdihhjknaaGreat
open Go Go.Kx Go.RowKit
theorem sg_add (b:Bool) (m n:Nat):sg b (m+n)=sg b m+sg b n:=by cases b<;>simp [sg]<;>omega
theorem BG7 (b:Bool) (m n:Nat) (h:n<=m):sg b (m-n)=sg b m+sg (!b) n:=by cases b<;>simp [sg]<;>omega
theorem Ac1 (b:Bool) (n:Nat):(sg b n).natAbs=n:=by cases b<;>simp [sg]
theorem AM2 {m n:Nat}:cmpN m n<0<->m<n:=by unfold cmpN;split<;>(try split)<;>omega
theorem U3:Ent Tryz.prog 215:=A0 Tryz.func215 (by kernel_rfl) rfl
theorem S4 {S:Nat->Prop} {w:World} {va vb:Value} {m n:Nat} {p q:Bool} (up:Up S w) (ha:eW.R S w va (wds m)) (hb:eW.R S w vb (wds n)) (hla:(wds m).length<=1099511627776) (hlb:(wds n).length<=1099511627776) :
  CR Tryz.prog 215 #[.bool p,va,.bool q,vb] w (eZ.at S (zc (sg p m+sg q n))):=by
 refine enter Tryz.func215 O Tryz.ntmps215 O (.sr (.alloc O C9 fun w1 b1 n1=>.nil ?_))
 obtain ⟨e1,k1,hb1,hs1⟩:=n1
 have hS:¬ Sx S w.heap.size w1.heap.size b1:=Sx.no (by omega) (by omega)
 have up1:Up (Sx S w.heap.size w1.heap.size) w1:=Sx.up up (Nat.le_refl _) e1.size
 have ha1:=(ha.par w1.heap.size).ext e1
 have hb1':=(hb.par w1.heap.size).ext e1
 refine .seq (.sr (.mv O O (.mv O O (.eqlB S7 O O O (.nil ?_)))))
 by_cases hpq:p=q
 ·subst hpq
  refine .condT (by rw [beq_self_eq_true];rfl) (.sr (.mv O O (.mv O O (.mv O O (.call _ O Y7 O (X5 up1 ha1 hb1' hla hlb) fun v2 w2 e2 h2=>?_)))))
  obtain ⟨r,hr,hv,hl⟩:=h2
  refine .call _ O F3 O (F2 (up1.ext e2.size) hr) fun v3 w3 e3 h3=>(.storeA ty_Z O O ((k1.ext e2).ext e3) O O h3 hS fun w4 k4 u4 h4=>.nil (.ret (.cell Tryz.results215 O ty_Z O O k4 h4 ⟨u4.below ((e1.trans e2).trans e3) (by omega),?_⟩)))
  rw [<-sg_add,show m+n=val r by rw [hv,B6,B6]]
  exact h4.out
 ·have hq:q = !p:=by cases p<;>cases q<;>simp_all
  subst hq
  refine .condF (by cases p<;>rfl) (.skip (.seq (.sr (.mv O O (.mv O O (.call _ rfl H4 O (G8 ha1 hb1') fun v2 w2 e2 h2=>?_))))))
  subst h2
  have ha2:=ha1.ext e2
  have hb2:=hb1'.ext e2
  have up2:=up1.ext e2.size
  by_cases hlt:m<n
  ·refine .lssT O O O (AM2.2 hlt) (.nil (.condT O (.sr (.mv O O (.mv O O (.mv O O (.call _ O O8 O (O1 up2 hb2 ha2 hlb hla (by rw [B6,B6];omega)) fun v3 w3 e3 h3=>?_)))))))
   obtain ⟨r,hr,hv,hl⟩:=h3
   refine .call _ O F3 O (F2 (up2.ext e3.size) hr) fun v4 w4 e4 h4=>(.storeA ty_Z O O (((k1.ext e2).ext e3).ext e4) O O h4 hS fun w5 k5 u5 h5=>.nil (.ret (.cell Tryz.results215 O ty_Z O O k5 h5 ⟨u5.below (((e1.trans e2).trans e3).trans e4) (by omega),?_⟩)))
   rw [show sg p m+sg (!p) n=sg (!p) (val r) by
    rw [hv,B6,B6,BG7 _ _ _ (by omega),Bool.not_not,Int.add_comm]]
   exact h5.out
  ·refine .lssF O O O (fun h=>hlt (AM2.1 h)) (.nil (.condF O (.skip (.sr (.mv O O (.mv O O (.mv O O (.call _ O O8 O (O1 up2 ha2 hb2 hla hlb (by rw [B6,B6];omega)) fun v3 w3 e3 h3=>?_))))))))
   obtain ⟨r,hr,hv,hl⟩:=h3
   refine .call _ O F3 O (F2 (up2.ext e3.size) hr) fun v4 w4 e4 h4=>(.storeA ty_Z O O (((k1.ext e2).ext e3).ext e4) O O h4 hS fun w5 k5 u5 h5=>.nil (.ret (.cell Tryz.results215 O ty_Z O O k5 h5 ⟨u5.below (((e1.trans e2).trans e3).trans e4) (by omega),?_⟩)))
   rw [show sg p m+sg (!p) n=sg p (val r) by
    rw [hv,B6,B6,BG7 _ _ _ (by omega)]]
   exact h5.out
theorem AF1 {n:Int}:i64ok n=true <-> -9223372036854775808<=n/\n<=9223372036854775807:=by simp [i64ok]
theorem Ao9:Ent Tryz.prog 157:=A0 Tryz.func157 (by kernel_rfl) rfl
theorem Aj6 {S:Nat->Prop} {w:World} {va vb:Value} {x y:ZV} (up:Up S w) (ha:eZ.R S w va x) (hb:eZ.R S w vb y) (hla:x.w.length<=1099511627776) (hlb:y.w.length<=1099511627776) :
  CR Tryz.prog 157 #[va,vb] w (eZ.at S (zc (zval x+zval y))):=by
 obtain ⟨sa,rfl,hsa⟩:=ha
 obtain ⟨sb,rfl,hsb⟩:=hb
 have hda:dig x.w:=F1 hsa
 have hdb:dig y.w:=F1 hsb
 refine enter Tryz.func157 O Tryz.ntmps157 O (.sr (.box O O fun w1 b1 n1=>.box O O fun w2 b2 n2=>.alloc O C9 fun w3 b3 n3=>.nil ?_))
 obtain ⟨e1,k1,hb1,hs1⟩:=n1
 obtain ⟨e2,k2,hb2,hs2⟩:=n2
 obtain ⟨e3,k3,hb3,hs3⟩:=n3
 have x3:=(e1.trans e2).trans e3
 have k1:=(k1.ext e2).ext e3
 have k2:=k2.ext e3
 have hS:¬ Sx S w.heap.size w3.heap.size b3:=Sx.no (by omega) (by omega)
 have up3:Up (Sx S w.heap.size w3.heap.size) w3:=Sx.up up (Nat.le_refl _) x3.size
 have hsa3:=(hsa.par w3.heap.size).ext x3
 have hsb3:=(hsb.par w3.heap.size).ext x3
 refine .sr (.ldA ty_Z O O k1 O (.call _ O H7 O (H5 (z:=x) ⟨sa,rfl,hsa3⟩) fun v4 w4 e4 h4=>?_))
 subst h4
 refine .mv O O (.ext O O O (.ext O O O (.asg O O (.an O O (.sr (.ldA ty_Z O O (k2.ext e4) O (.call _ O H7 O (H5 (z:=y) ⟨sb,rfl,hsb3.ext e4⟩) fun v5 w5 e5 h5=>?_)))))))
 subst h5
 refine .mv O O (.ext O O O (.ext O O O (.asg O O (.an O O ?_))))
 have x35:=e4.trans e5
 have x5:=x3.trans x35
 have up5:=up3.ext x35.size
 refine .mid (α:=Unit) (fun _=>[(2,.pointer (some ⟨b1,0,none⟩)),(3,.pointer (some ⟨b2,0,none⟩)),(4,.pointer (some ⟨b3,0,none⟩))]) (fun _ W=>W=w5) ?_ ?_
 ·refine .sr (.mv O O (.mv O O ?_))
  cases hx:i64ok (zval x) with
  | false =>
   refine .gs O O O O O (.pick O O O (.nil (.condF O (.skip ?_))))
   exact ⟨rfl,(),lkA rfl,rfl⟩
  | true =>
   have hx':=AF1.1 hx
   refine .gr O O O O (.mv O O (.pick O O O (.nil ?_)))
   cases hy:i64ok (zval y) with
   | false =>
    refine .condF O (.skip ?_)
    exact ⟨rfl,(),lkA rfl,rfl⟩
   | true =>
    have hy':=AF1.1 hy
    have ex:i64v (zval x)=zval x:=by rw [i64v,hx];rfl
    have ey:i64v (zval y)=zval y:=by rw [i64v,hy];rfl
    rw [ex,ey]
    refine .condT O (.sr (.mv O O (.mv O O (.add O O O (.an O O (.sr (.mv O O (.mv O O (.xor_ O O O (.mv O O (.mv O O (.xor_ O O O (.and_ O O O (.geq O O O (.nil (.cond O (fun hc=>?_) (fun hc=>.skip ⟨rfl,(),lkA rfl,rfl⟩)))))))))))))))))
    have hsum:=add_ok hx'.1 hx'.2 hy'.1 hy'.2 (of_decide_eq_true hc)
    refine .sr (.mv O O ?_)
    have hr : -9223372036854775808<=IntKind.i64.wrap (zval x+zval y)/\IntKind.i64.wrap (zval x+zval y)<=9223372036854775807:=by rw [IntKind.wrap_i64];omega
    refine .call _ O C6 O (C5 up5 hr.1 hr.2) fun v6 w6 e6 h6=>(.storeA ty_Z O O ((k3.ext x35).ext e6) O O h6 hS fun w7 k7 u7 h7=>.nil (.ret (.cell Tryz.results157 O ty_Z O O k7 h7 ⟨u7.below (x5.trans e6) (by omega),?_⟩)))
    rw [hsum] at h7
    exact h7.out
 ·rintro _ _ rfl
  have hsa5:=hsa3.ext x35
  have hsb5:=hsb3.ext x35
  have k1:=k1.ext x35
  have k2:=k2.ext x35
  refine .seq ?_
  refine .par follows 11 [.inl _,.inl _,.inl _,.inl _,.inr (eW.at (Sx S w.heap.size w3.heap.size) (wds (val x.w))),.inl _,.inl _,.inl _,.inl _,.inr (eW.at (Sx S w.heap.size w3.heap.size) (wds (val y.w))),.inr (eZ.at (Sx S w.heap.size w3.heap.size) (zc (sg x.neg (val x.w)+sg y.neg (val y.w))))]
   [[],[(37,0)],[],[(39,2)],[(40,3)],[],[(42,5)],[],[(44,7)],[(45,8)],[(38,1),(41,4),(43,6),(46,9)]] (by kernel_rfl) ⟨
   fun w e=>(v_fa J4 O).ob,
   fun w e=>(v_ld B8 O (k1.ext e) O).ob,
   fun w e=>(v_fa F4 O).ob,
   fun w e=>(v_ld ty_W O (k1.ext e) O).ob,
   fun w e=>(A5 _ B5 O (by rw [<-D9 hda];exact B4 (hsa5.ext e))).ob (A9 _ _ _),
   fun w e=>(v_fa J4 O).ob,
   fun w e=>(v_ld B8 O (k2.ext e) O).ob,
   fun w e=>(v_fa F4 O).ob,
   fun w e=>(v_ld ty_W O (k2.ext e) O).ob,
   fun w e=>(A5 _ B5 O (by rw [<-D9 hdb];exact B4 (hsb5.ext e))).ob (A9 _ _ _),
   fun w e x4 hx4 x9 hx9=>(A5 _ U3 O (S4 (up5.ext e.size) hx4 hx9 (Nat.le_trans (E5 hda) hla) (Nat.le_trans (E5 hdb) hlb))).ob (A9 _ _ _),trivial⟩ ?_
  intro w6 e6 x4 hx4 x9 hx9 x10 hx10
  refine .storeA ty_Z O O ((k3.ext x35).ext e6) O O hx10 hS fun w7 k7 u7 h7=>.nil (.ret (.cell Tryz.results157 O ty_Z O O k7 h7 ⟨u7.below (x5.trans e6) (by omega),h7.out⟩))
theorem Ao6:Ent Tryz.prog 159:=A0 Tryz.func159 (by kernel_rfl) rfl
theorem Aj3 {S:Nat->Prop} {w:World} {va vb:Value} {x y:ZV} (up:Up S w) (ha:eZ.R S w va x) (hb:eZ.R S w vb y) (hla:x.w.length<=1099511627776) (hlb:y.w.length<=1099511627776) :
  CR Tryz.prog 159 #[va,vb] w (eZ.at S (zc (zval x-zval y))):=by
 obtain ⟨sa,rfl,hsa⟩:=ha
 obtain ⟨sb,rfl,hsb⟩:=hb
 have hda:dig x.w:=F1 hsa
 have hdb:dig y.w:=F1 hsb
 refine enter Tryz.func159 O Tryz.ntmps159 O (.sr (.box O O fun w1 b1 n1=>.box O O fun w2 b2 n2=>.alloc O C9 fun w3 b3 n3=>.nil ?_))
 obtain ⟨e1,k1,hb1,hs1⟩:=n1
 obtain ⟨e2,k2,hb2,hs2⟩:=n2
 obtain ⟨e3,k3,hb3,hs3⟩:=n3
 have x3:=(e1.trans e2).trans e3
 have k1:=(k1.ext e2).ext e3
 have k2:=k2.ext e3
 have hS:¬ Sx S w.heap.size w3.heap.size b3:=Sx.no (by omega) (by omega)
 have up3:Up (Sx S w.heap.size w3.heap.size) w3:=Sx.up up (Nat.le_refl _) x3.size
 have hsa3:=(hsa.par w3.heap.size).ext x3
 have hsb3:=(hsb.par w3.heap.size).ext x3
 refine .sr (.ldA ty_Z O O k1 O (.call _ O H7 O (H5 (z:=x) ⟨sa,rfl,hsa3⟩) fun v4 w4 e4 h4=>?_))
 subst h4
 refine .mv O O (.ext O O O (.ext O O O (.asg O O (.an O O (.sr (.ldA ty_Z O O (k2.ext e4) O (.call _ O H7 O (H5 (z:=y) ⟨sb,rfl,hsb3.ext e4⟩) fun v5 w5 e5 h5=>?_)))))))
 subst h5
 refine .mv O O (.ext O O O (.ext O O O (.asg O O (.an O O ?_))))
 have x35:=e4.trans e5
 have x5:=x3.trans x35
 have up5:=up3.ext x35.size
 refine .mid (α:=Unit) (fun _=>[(2,.pointer (some ⟨b1,0,none⟩)),(3,.pointer (some ⟨b2,0,none⟩)),(4,.pointer (some ⟨b3,0,none⟩))]) (fun _ W=>W=w5) ?_ ?_
 ·refine .sr (.mv O O (.mv O O ?_))
  cases hx:i64ok (zval x) with
  | false =>
   refine .gs O O O O O (.pick O O O (.nil (.condF O (.skip ?_))))
   exact ⟨rfl,(),lkA rfl,rfl⟩
  | true =>
   have hx':=AF1.1 hx
   refine .gr O O O O (.mv O O (.pick O O O (.nil ?_)))
   cases hy:i64ok (zval y) with
   | false =>
    refine .condF O (.skip ?_)
    exact ⟨rfl,(),lkA rfl,rfl⟩
   | true =>
    have hy':=AF1.1 hy
    have ex:i64v (zval x)=zval x:=by rw [i64v,hx];rfl
    have ey:i64v (zval y)=zval y:=by rw [i64v,hy];rfl
    rw [ex,ey]
    refine .condT O (.sr (.mv O O (.mv O O (.sub O O O (.an O O (.sr (.mv O O (.mv O O (.xor_ O O O (.mv O O (.mv O O (.xor_ O O O (.and_ O O O (.geq O O O (.nil (.cond O (fun hc=>?_) (fun hc=>.skip ⟨rfl,(),lkA rfl,rfl⟩)))))))))))))))))
    have hsum:=sub_ok hx'.1 hx'.2 hy'.1 hy'.2 (of_decide_eq_true hc)
    refine .sr (.mv O O ?_)
    have hr : -9223372036854775808<=IntKind.i64.wrap (zval x-zval y)/\IntKind.i64.wrap (zval x-zval y)<=9223372036854775807:=by rw [IntKind.wrap_i64];omega
    refine .call _ O C6 O (C5 up5 hr.1 hr.2) fun v6 w6 e6 h6=>(.storeA ty_Z O O ((k3.ext x35).ext e6) O O h6 hS fun w7 k7 u7 h7=>.nil (.ret (.cell Tryz.results159 O ty_Z O O k7 h7 ⟨u7.below (x5.trans e6) (by omega),?_⟩)))
    rw [hsum] at h7
    exact h7.out
 ·rintro _ _ rfl
  have hsa5:=hsa3.ext x35
  have hsb5:=hsb3.ext x35
  have k1:=k1.ext x35
  have k2:=k2.ext x35
  refine .seq ?_
  refine .par follows 12 [.inl _,.inl _,.inl _,.inl _,.inr (eW.at (Sx S w.heap.size w3.heap.size) (wds (val x.w))),.inl _,.inl _,.inl _,.inl _,.inl _,.inr (eW.at (Sx S w.heap.size w3.heap.size) (wds (val y.w))),.inr (eZ.at (Sx S w.heap.size w3.heap.size) (zc (sg x.neg (val x.w)+sg (!y.neg) (val y.w))))]
   [[],[(37,0)],[],[(39,2)],[(40,3)],[],[(42,5)],[(43,6)],[],[(45,8)],[(46,9)],[(38,1),(41,4),(44,7),(47,10)]] (by kernel_rfl) ⟨
   fun w e=>(v_fa J4 O).ob,
   fun w e=>(v_ld B8 O (k1.ext e) O).ob,
   fun w e=>(v_fa F4 O).ob,
   fun w e=>(v_ld ty_W O (k1.ext e) O).ob,
   fun w e=>(A5 _ B5 O (by rw [<-D9 hda];exact B4 (hsa5.ext e))).ob (A9 _ _ _),
   fun w e=>(v_fa J4 O).ob,
   fun w e=>(v_ld B8 O (k2.ext e) O).ob,
   fun w e=>(Ak1 O).ob,
   fun w e=>(v_fa F4 O).ob,
   fun w e=>(v_ld ty_W O (k2.ext e) O).ob,
   fun w e=>(A5 _ B5 O (by rw [<-D9 hdb];exact B4 (hsb5.ext e))).ob (A9 _ _ _),
   fun w e x4 hx4 x9 hx9=>(A5 _ U3 O (S4 (up5.ext e.size) hx4 hx9 (Nat.le_trans (E5 hda) hla) (Nat.le_trans (E5 hdb) hlb))).ob (A9 _ _ _),trivial⟩ ?_
  intro w6 e6 x4 hx4 x9 hx9 x10 hx10
  refine .storeA ty_Z O O ((k3.ext x35).ext e6) O O hx10 hS fun w7 k7 u7 h7=>.nil (.ret (.cell Tryz.results159 O ty_Z O O k7 h7 ⟨u7.below (x5.trans e6) (by omega),?_⟩))
  rw [show zval x-zval y=sg x.neg (val x.w)+sg (!y.neg) (val y.w) by unfold zval sg;cases x.neg<;>cases y.neg<;>simp<;>omega]
  exact h7.out
theorem sg_mul (a b:Bool) (m n:Nat):sg (a != b) (m*n)=sg a m*sg b n:=by
 cases a<;>cases b<;>simp [sg,Int.natCast_mul,Int.neg_mul,Int.mul_neg]
theorem F0:Ent Tryz.prog 112:=A0 Tryz.func112 (by kernel_rfl) rfl
theorem E8 {S:Nat->Prop} {w:World} {va vb:Value} {x y:ZV} (up:Up S w) (ha:eZ.R S w va x) (hb:eZ.R S w vb y) (hla:x.w.length<=1099511627776) (hlb:y.w.length<=1099511627776) :
  CR Tryz.prog 112 #[va,vb] w (eZ.at S (zc (zval x*zval y))):=by
 obtain ⟨sa,rfl,hsa⟩:=ha
 obtain ⟨sb,rfl,hsb⟩:=hb
 have hda:dig x.w:=F1 hsa
 have hdb:dig y.w:=F1 hsb
 have hla':=Nat.le_trans (E5 hda) hla
 have hlb':=Nat.le_trans (E5 hdb) hlb
 refine enter Tryz.func112 O Tryz.ntmps112 O ?_
 refine .sr (.box O O fun w1 b1 n1=>.box O O fun w2 b2 n2=>.alloc O C9 fun w3 b3 n3=>.nil ?_)
 obtain ⟨e1,k1,hb1,hs1⟩:=n1
 obtain ⟨e2,k2,hb2,hs2⟩:=n2
 obtain ⟨e3,k3,hb3,hs3⟩:=n3
 have x3:=(e1.trans e2).trans e3
 have k1:=(k1.ext e2).ext e3
 have k2:=k2.ext e3
 have hS:¬ Sx S w.heap.size w3.heap.size b3:=Sx.no (by omega) (by omega)
 have up3:Up (Sx S w.heap.size w3.heap.size) w3:=Sx.up up (Nat.le_refl _) x3.size
 have hsa3:=(hsa.par w3.heap.size).ext x3
 have hsb3:=(hsb.par w3.heap.size).ext x3
 generalize hT:Sx S w.heap.size w3.heap.size=T at *
 have hprod:zval x*zval y=sg (x.neg != y.neg) (val x.w*val y.w):=by rw [sg_mul];rfl
 refine .seq ?_
 refine .par follows 7 [.inl _,.inl _,.inr (eW.at T (wds (val x.w))),.inl _,.inl _,.inr (eW.at T (wds (val y.w))),.inr (eW.at T (wds (val x.w)))] [[],[(7,0)],[(8,1)],[],[(10,3)],[(11,4)],[(9,2)]] (by kernel_rfl) ⟨
  fun w e=>(v_fa F4 O).ob,
  fun w e=>(v_ld ty_W O (k1.ext e) O).ob,
  fun w e=>(A5 _ B5 O (by rw [<-D9 hda];exact B4 (hsa3.ext e))).ob (A9 _ _ _),
  fun w e=>(v_fa F4 O).ob,
  fun w e=>(v_ld ty_W O (k2.ext e) O).ob,
  fun w e=>(A5 _ B5 O (by rw [<-D9 hdb];exact B4 (hsb3.ext e))).ob (A9 _ _ _),
  fun w e x2 hx2=>Aw8 O hx2 (A9 _ _ _),trivial⟩ ?_
 intro w4 e4 u2 hu2 u5 hu5 u6 hu6
 refine .an O O ?_
 have x4:=x3.trans e4
 have up4:=up3.ext e4.size
 have k1:=k1.ext e4
 have k2:=k2.ext e4
 have k3:=k3.ext e4
 have hla1:=AH1 hu6
 have hlb1:=AH1 hu5
 refine .mid (α:=Unit) (fun _=>[(2,.pointer (some ⟨b1,0,none⟩)),(3,.pointer (some ⟨b2,0,none⟩)),(4,.pointer (some ⟨b3,0,none⟩)),(5,u6),(6,u5)]) (fun _ W=>W=w4) ?_ ?_
 ·refine .sr (.mv O O (.lenR un_W O O hu6 ?_))
  by_cases h1:(wds (val x.w)).length<=1
  ·refine .leqT O O O (by omega) (.mv O O (.gr O O O O (.mv O O (.gr O O O O (.lenR un_W O O hu5 (.gr O O O O ?_))))))
   by_cases h2:(wds (val y.w)).length<=1
   ·refine .leqT O O O (by omega) (.pick O O O (.nil (.condT O (.seq ?_))))
    have hxl:val x.w<4294967296:=by
     have h3:=AB7 (val x.w)
     have h4:4294967296 ^ (wds (val x.w)).length<=4294967296 ^ 1:=Nat.pow_le_pow_right (by omega) h1
     omega
    have hyl:val y.w<4294967296:=by
     have h3:=AB7 (val y.w)
     have h4:4294967296 ^ (wds (val y.w)).length<=4294967296 ^ 1:=Nat.pow_le_pow_right (by omega) h2
     omega
    have hxy:val x.w*val y.w<=4294967295*4294967295:=Nat.mul_le_mul (by omega) (by omega)
    refine .par follows 11 [.inl _,.inl _,.inl _,.inl _,.inl _,.inl _,.inl (.int .u64 (val x.w:Nat)),.inl _,.inl (.int .u64 (val y.w:Nat)),.inl (.int .u64 ((val x.w*val y.w:Nat):Int)),.inr (eZ.at T (zc (sg (x.neg != y.neg) (val x.w*val y.w))))]
     [[],[(21,0)],[],[(23,2)],[(22,1),(24,3)],[],[(26,5)],[],[(28,7)],[(27,6),(29,8)],[(25,4),(30,9)]] (by kernel_rfl) ⟨
     fun w e=>(v_fa J4 O).ob,
     fun w e=>(v_ld B8 O (k1.ext e) O).ob,
     fun w e=>(v_fa J4 O).ob,
     fun w e=>(v_ld B8 O (k2.ext e) O).ob,
     fun w e=>(Aq6 S7 O O).ob,
     fun w e=>(v_mv O).ob,
     fun w e=>(A5 _ J6 O (by have:=J1 (hu6.ext e) (by omega);rw [B6] at this;exact this)).obIs,
     fun w e=>(v_mv O).ob,
     fun w e=>(A5 _ J6 O (by have:=J1 (hu5.ext e) (by omega);rw [B6] at this;exact this)).obIs,
     fun w e=>((BF5 O O).eq (by rw [<-Int.natCast_mul,wU (by omega)])).ob,
     fun w e=>(A5 _ I8 O (I7 (up4.ext e.size) (by omega))).ob (A9 _ _ _),trivial⟩ ?_
    intro w5 e5 x10 hx10
    refine .storeA ty_Z O O (k3.ext e5) O O hx10 hS fun w6 k6 u6 h6=>.nil (.ret (.cell Tryz.results112 O ty_Z O O k6 h6 ⟨u6.below (x4.trans e5) (by omega),?_⟩))
    subst hT
    rw [hprod]
    exact h6.out
   ·refine .leqF O O O (by omega) (.pick O O O (.nil (.condF O (.skip ?_))))
    exact ⟨rfl,(),lkA rfl,rfl⟩
  ·refine .leqF O O O (by omega) (.mv O O (.gs O O O O O (.gs O O O O O (.gs O O O O O (.pick O O O (.nil (.condF O (.skip ?_))))))))
   exact ⟨rfl,(),lkA rfl,rfl⟩
 ·rintro _ _ rfl
  refine .seq ?_
  refine .par follows 9 [.inl _,.inl _,.inl _,.inl _,.inl _,.inl _,.inl _,.inr (Wv T (val x.w*val y.w) (1099511627776+1099511627776)),.inr (eZ.at T (zc (sg (x.neg != y.neg) (val x.w*val y.w))))] [[],[(32,0)],[],[(34,2)],[(33,1),(35,3)],[],[],[(37,5),(38,6)],[(36,4),(39,7)]] (by kernel_rfl) ⟨
   fun w e=>(v_fa J4 O).ob,
   fun w e=>(v_ld B8 O (k1.ext e) O).ob,
   fun w e=>(v_fa J4 O).ob,
   fun w e=>(v_ld B8 O (k2.ext e) O).ob,
   fun w e=>(Aq6 S7 O O).ob,
   fun w e=>(v_mv O).ob,
   fun w e=>(v_mv O).ob,
   fun w e=>(A5 _ AQ4 O ((AN9 (up4.ext e.size) (hu6.ext e) (hu5.ext e) hla' hlb').mono fun v w' _ ⟨r,h1,h2,h3⟩=>⟨r,h1,by rw [h2,B6,B6],by omega⟩)).ob (st_wv _ _ _),
   fun w e x7 hx7=>(A5 _ F3 rfl (by obtain ⟨r,h1,h2,h3⟩:=hx7;have:=F2 (neg:=x.neg != y.neg) (up4.ext e.size) h1;rw [h2] at this;exact this)).ob (A9 _ _ _),trivial⟩ ?_
  intro w5 e5 x7 hx7 x8 hx8
  refine .storeA ty_Z O O (k3.ext e5) O O hx8 hS fun w6 k6 u6 h6=>.nil (.ret (.cell Tryz.results112 O ty_Z O O k6 h6 ⟨u6.below (x4.trans e5) (by omega),?_⟩))
  subst hT
  rw [hprod]
  exact h6.out
theorem Ai9 {x:ZV} (h:0<=zval x):zval x=(val x.w:Int):=by
 unfold zval sg at *;cases hn:x.neg<;>simp [hn] at*;omega
theorem Aj0 {x:ZV} (h:zval x<0):zval x = -(val x.w:Int):=by
 unfold zval sg at *;cases hn:x.neg<;>simp [hn] at*;omega
theorem BD6 {m n:Int} (h:m.sign<n.sign):cmpI m n = -1:=by
 unfold cmpI
 rw [if_pos]
 rcases Int.lt_trichotomy m 0 with h1 | h1 | h1<;>rcases Int.lt_trichotomy n 0 with h2 | h2 | h2<;>simp_all [Int.sign_eq_neg_one_of_neg,Int.sign_eq_one_of_pos]<;>omega
theorem At3 {m n:Int} (h:n.sign<m.sign):cmpI m n=1:=by
 have:n<m:=by
  rcases Int.lt_trichotomy m 0 with h1 | h1 | h1<;>rcases Int.lt_trichotomy n 0 with h2 | h2 | h2<;>simp_all [Int.sign_eq_neg_one_of_neg,Int.sign_eq_one_of_pos]<;>omega
 unfold cmpI
 rw [if_neg (by omega),if_pos this]
theorem Ao8:Ent Tryz.prog 111:=A0 Tryz.func111 (by kernel_rfl) rfl
theorem Aj5 {S:Nat->Prop} {w:World} {va vb:Value} {x y:ZV} (ha:eZ.R S w va x) (hb:eZ.R S w vb y) :
  CR Tryz.prog 111 #[va,vb] w (Is (.int .i64 (cmpI (zval x) (zval y)))):=by
 obtain ⟨sa,rfl,hsa⟩:=ha
 obtain ⟨sb,rfl,hsb⟩:=hb
 have hda:dig x.w:=F1 hsa
 have hdb:dig y.w:=F1 hsb
 refine enter Tryz.func111 O Tryz.ntmps111 O (.sr (.box O O fun w1 b1 n1=>.box O O fun w2 b2 n2=>.an O O ?_))
 obtain ⟨e1,k1,hb1,hs1⟩:=n1
 obtain ⟨e2,k2,hb2,hs2⟩:=n2
 have x2:=e1.trans e2
 have k1:=k1.ext e2
 have hsa2:=hsa.ext x2
 have hsb2:=hsb.ext x2
 refine .seq ?_
 refine .par follows 5 [.inl _,.inl (.int .i64 (zval x).sign),.inl _,.inl (.int .i64 (zval y).sign),.inl _] [[],[(7,0)],[],[(9,2)],[(8,1)]] (by kernel_rfl) ⟨
  fun w e=>(C7 ty_Z O (k1.ext e) O).ob,
  fun w e=>(A5 _ F8 O (F7 (z:=x) ⟨sa,rfl,hsa2.ext e⟩)).obIs,
  fun w e=>(C7 ty_Z O (k2.ext e) O).ob,
  fun w e=>(A5 _ F8 O (F7 (z:=y) ⟨sb,rfl,hsb2.ext e⟩)).obIs,
  fun w e=>(v_as O).ob,trivial⟩ ?_
 intro w3 e3
 refine .an O O ?_
 have x3:=x2.trans e3
 have k1:=k1.ext e3
 have k2:=k2.ext e3
 have hsa3:=hsa2.ext e3
 have hsb3:=hsb2.ext e3
 refine .seq (.block (.sr (.mv O O (.mv O O ?_))))
 by_cases h1:(zval x).sign<(zval y).sign
 ·refine .lssT O O O h1 (.an O O (.condT O (.sr (.an O O (.ret ?_)))))
  exact .plain [_] Tryz.results111 ⟨rfl,trivial⟩ ⟨x3,isI (BD6 h1).symm⟩
 refine .lssF O O O h1 (.an O O (.condF O (.sr (.mv O O (.mv O O ?_)))))
 by_cases h2:(zval y).sign<(zval x).sign
 ·refine .gtrT O O O h2 (.an O O (.condT O (.sr (.an O O (.ret ?_)))))
  exact .plain [_] Tryz.results111 ⟨rfl,trivial⟩ ⟨x3,isI (At3 h2).symm⟩
 refine .gtrF O O O h2 (.an O O (.condF O (.sr (.mv O O ?_))))
 have hs:(zval x).sign=(zval y).sign:=by omega
 by_cases h3:(zval x).sign<0
 ·refine .lssT O O O h3 (.an O O (.condT O (.seq ?_)))
  refine .par follows 7 [.inl _,.inl _,.inr (eW.at S (wds (val y.w))),.inl _,.inl _,.inr (eW.at S (wds (val x.w))),.inl (.int .i64 (cmpN (val y.w) (val x.w)))] [[],[(22,0)],[(23,1)],[],[(25,3)],[(26,4)],[(24,2),(27,5)]] (by kernel_rfl) ⟨
   fun w e=>(v_fa F4 O).ob,
   fun w e=>(v_ld ty_W O (k2.ext e) O).ob,
   fun w e=>(A5 _ B5 O (by rw [<-D9 hdb];exact B4 (hsb3.ext e))).ob (A9 _ _ _),
   fun w e=>(v_fa F4 O).ob,
   fun w e=>(v_ld ty_W O (k1.ext e) O).ob,
   fun w e=>(A5 _ B5 O (by rw [<-D9 hda];exact B4 (hsa3.ext e))).ob (A9 _ _ _),
   fun w e x2 hx2 x5 hx5=>(A5 _ H4 O (G8 hx2 hx5)).obIs,trivial⟩ ?_
  intro w4 e4 _ _ _ _
  refine .an O O (.ret (.plain [_] Tryz.results111 ⟨rfl,trivial⟩ ⟨x3.trans e4,isI ?_⟩))
  have hx:zval x<0:=Int.sign_neg_iff.1 h3
  have hy:zval y<0:=Int.sign_neg_iff.1 (by omega)
  have ex:=Aj0 hx
  have ey:=Aj0 hy
  rw [ex,ey];unfold cmpN cmpI;split<;>(try split)<;>(try split)<;>(try split)<;>omega
 ·refine .lssF O O O h3 (.an O O (.condF O (.skip (.seq ?_))))
  refine .par follows 7 [.inl _,.inl _,.inr (eW.at S (wds (val x.w))),.inl _,.inl _,.inr (eW.at S (wds (val y.w))),.inl (.int .i64 (cmpN (val x.w) (val y.w)))] [[],[(29,0)],[(30,1)],[],[(32,3)],[(33,4)],[(31,2),(34,5)]] (by kernel_rfl) ⟨
   fun w e=>(v_fa F4 O).ob,
   fun w e=>(v_ld ty_W O (k1.ext e) O).ob,
   fun w e=>(A5 _ B5 O (by rw [<-D9 hda];exact B4 (hsa3.ext e))).ob (A9 _ _ _),
   fun w e=>(v_fa F4 O).ob,
   fun w e=>(v_ld ty_W O (k2.ext e) O).ob,
   fun w e=>(A5 _ B5 O (by rw [<-D9 hdb];exact B4 (hsb3.ext e))).ob (A9 _ _ _),
   fun w e x2 hx2 x5 hx5=>(A5 _ H4 O (G8 hx2 hx5)).obIs,trivial⟩ ?_
  intro w4 e4 _ _ _ _
  refine .an O O (.ret (.plain [_] Tryz.results111 ⟨rfl,trivial⟩ ⟨x3.trans e4,isI ?_⟩))
  have hx:0<=zval x:=Int.not_lt.1 fun h=>h3 (Int.sign_neg_iff.2 h)
  have hy:0<=zval y:=Int.not_lt.1 fun h=>h3 (by rw [hs];exact Int.sign_neg_iff.2 h)
  have ex:=Ai9 hx
  have ey:=Ai9 hy
  rw [ex,ey];unfold cmpN cmpI;split<;>(try split)<;>(try split)<;>(try split)<;>omega
theorem An9 {S:Nat->Prop} {w:World} {es:List Value} {l:List Nat} (h:Els eU32 S w es l):es=l.map wv:=by
 apply List.ext_getElem?
 intro i
 rw [List.getElem?_map]
 rcases Nat.lt_or_ge i l.length with hi | hi
 ·have hi':i<es.length:=by rw [h.1];exact hi
  have:=h.2 i es[i] l[i] (List.getElem?_eq_getElem hi') (List.getElem?_eq_getElem hi)
  rw [List.getElem?_eq_getElem hi',List.getElem?_eq_getElem hi,Option.map_some]
  exact congrArg some this.1
 ·rw [List.getElem?_eq_none hi,List.getElem?_eq_none (by rw [h.1];exact hi)];rfl
theorem Clone_o {S:Nat->Prop} {w:World} {v:Value} {l:List Nat} (h:eW.R S w v l) (hl:l.length<=1099511627776):CR Tryz.prog 108 #[v] w (fun v' w'=>OwnW 108 w.heap.size w' v' l):=by
 have hdl:dig l:=F1 h
 refine enter Tryz.func108 O Tryz.ntmps108 O (.sr (.an O O ?_))
 obtain ⟨es,he,a,c,rfl,hc,hm,hlen,hcell⟩:=h
 have hes:=An9 he
 subst hes
 refine .seq (.sr (.mv O O (.eqNil un_W O O O (.nil ?_))))
 cases a with
 | none =>
  refine .condT O (.sr (.an O O (.ret ?_)))
  have:l=[]:=by
   cases l with
   | nil=>rfl
   | cons x l=>obtain ⟨ad,h,_⟩:=hcell (by simp);cases h
  subst this
  exact .plain [_] Tryz.results108 ⟨rfl,trivial⟩ ⟨.refl _,⟨rfl,.inl ⟨rfl,rfl⟩⟩,by simp [dig]⟩
 | some ad =>
  refine .condF O (.skip (.sr (.bsl _ O O BM4 fun w1 b1 n1=>?_)))
  obtain ⟨e1,k1,hb1,hs1⟩:=n1
  have hcell1:∀ j u,(cellsOf (l.map wv))[j]?=some u->w1.cell? (ad.add j)=some u:=by
   intro j u hu
   rcases Nat.eq_zero_or_pos l.length with h0 | h0
   ·rw [h0,Nat.zero_mul] at hlen
    have:cellsOf (l.map wv)=[]:=List.length_eq_zero_iff.1 hlen
    rw [this] at hu;simp at hu
   ·obtain ⟨ad',h1,_,h2⟩:=hcell h0
    cases h1
    have:=(h2 j u hu).1
    have hlt:=AV3 this
    exact (Ad8 (p:=ad.add j) (e1.block _ hlt)).trans this
  have hown:w1.ownsRow w.heap.size 108 1 (.slice (some ⟨b1,0,none⟩) 0 0) 0 []:=⟨rfl,.inr ⟨b1,0,#[],rfl,by omega,k1,Nat.le_refl _,Nat.zero_le _,rfl,rfl⟩⟩
  rw [H3 wv (fun _=>rfl)] at hcell1 hlen
  have hon:∀ u∈l.map wv,one1 u=true:=by
   intro u hu
   obtain ⟨x,_,rfl⟩:=List.mem_map.1 hu
   rfl
  refine .mv O O (.gv O O (An1 (l.map wv) un_W H1 O (by decide) O O hown hlen hcell1 hon (by omega) (by omega) (by omega)) ?_)
  rintro v2 w2 ⟨ho,hg⟩
  refine .an O O (.ret ?_)
  have hx:Ext w w2:=Below.grown e1 hg e1.size (fun k hk=>by simp [Value.ownBlock] at hk;omega)
  simp only [List.nil_append,Nat.zero_add] at ho
  exact .plain [_] Tryz.results108 ⟨rfl,trivial⟩ ⟨hx,ho,hdl⟩
theorem prt_Z1 {x y:Value} (hy:one1 y=true):prtOf Tryz.prog 37 #[x,y] 1=some y:=by kernel_rfl
theorem Y6:Ent Tryz.prog 212:=A0 Tryz.func212 (by kernel_rfl) rfl
theorem X4 {S T0:Nat->Prop} {w:World} {va vb:Value} {m n:Nat} (up:Up S w) (upo:Up T0 w) (ha:eW.R S w va (wds m)) (hb:eW.R S w vb (wds n)) (hla:(wds m).length<=1099511627776) (hn:0<n) :
  CR Tryz.prog 212 #[va,vb] w (Two (Wv T0 (m / n) ((wds m).length+1)) (Wv S (m % n) ((wds m).length+1))):=by
 refine enter Tryz.func212 O Tryz.ntmps212 O (.sr (.asg O O (.an O O (.seq (.block (.sr (.mv O O (.mv O O (.call _ O H4 O (G8 ha hb) fun v1 w1 e1 h1=>?_)))))))))
 subst h1
 have ha1:=ha.ext e1
 have hb1:=hb.ext e1
 have up1:=up.ext e1.size
 have upo1:=upo.ext e1.size
 by_cases hlt:m<n
 ·refine .lssT O O O (AM2.2 hlt) (.an O O (.condT O (.sr (.mv O O (.call _ O AN7 O (AV4 up1 ha1 hla) fun v2 w2 e2 h2=>.asg O O (.an O O (.ret (.plain [_,_] Tryz.results212 ⟨rfl,rfl,trivial⟩ ⟨e1.trans e2,_,_,rfl,⟨[],RL.nil,?_,by simp⟩,⟨_,h2,?_,by omega⟩⟩))))))))
  ·rw [Nat.div_eq_of_lt hlt];rfl
  ·rw [B6,Nat.mod_eq_of_lt hlt]
 have hle:(wds n).length<=(wds m).length:=X6 (by omega)
 have hn1:1<=(wds n).length:=by
  have:=O2 (n:=n) (by omega)
  have:=List.length_pos_iff.2 this
  omega
 refine .lssF O O O (fun h=>hlt (AM2.1 h)) (.an O O (.condF O (.sr (.mv O O (.lenR un_W O O ha1 ?_)))))
 by_cases h2:(wds m).length<=2
 ·refine .leqT O O O (by omega) (.an O O (.condT O (.sr (.mv O O ?_))))
  have hm64:m<18446744073709551616:=by
   have h3:=AB7 m
   have h4:4294967296 ^ (wds m).length<=4294967296 ^ 2:=Nat.pow_le_pow_right (by omega) h2
   omega
  refine .call _ O J6 O (J1 ha1 h2) fun v2 w2 e2 h2'=>?_
  subst h2'
  refine .mv O O (.call _ O J6 O (J1 (hb1.ext e2) (by omega)) fun v3 w3 e3 h3=>?_)
  subst h3
  rw [B6,B6]
  refine .asg O O (.an O O (.seq ?_))
  have x3:=(e1.trans e2).trans e3
  have up3:=up.ext x3.size
  have upo3:=upo.ext x3.size
  have hq:m / n<18446744073709551616:=Nat.lt_of_le_of_lt (Nat.div_le_self _ _) hm64
  have hr:m % n<18446744073709551616:=Nat.lt_of_le_of_lt (Nat.mod_le _ _) hm64
  have hfd:∀ {S:Nat->Prop} {σ:Env} {W:World} {d:Option Tmp} {ty:TypeId} {pos:String} {af:Array Edge} {x:Operand} {u:Value} {k:Nat},ev σ x=some u->eZ.R S W u (zc (sg false k))->Gv Tryz.prog ⟨d,.field 37 x 1,ty,pos,af,none⟩ σ W fun v' w'=>Ext W w'/\Sp.ok (.inr (eW.at S (wds k))) v' w':=by
   intro S σ W d ty pos af x u k hx hz
   obtain ⟨s,rfl,hs⟩:=hz
   have hk:(zc (sg false k)).w=wds k:=by simp [zc,sg]
   rw [hk] at hs
   exact L7 (v_fd hx (prt_Z1 (eW.shp hs))) hs (A9 _ _ _)
  refine .par follows 11 [.inl _,.inl _,.inl (.int .u64 ((m / n:Nat):Int)),.inr (eZ.at T0 (zc (sg false (m / n)))),.inr (eW.at T0 (wds (m / n))),.inl _,.inl _,.inl (.int .u64 ((m % n:Nat):Int)),.inr (eZ.at S (zc (sg false (m % n)))),.inr (eW.at S (wds (m % n))),.inr (eW.at T0 (wds (m / n)))] [[],[],[(24,0),(25,1)],[(26,2)],[(27,3)],[],[],[(29,5),(30,6)],[(31,7)],[(32,8)],[(28,4)]] (by kernel_rfl) ⟨
   fun w e=>(v_mv O).ob,
   fun w e=>(v_mv O).ob,
   fun w e=>((Ab8 O O (by omega)).eq (by rw [AC1,O0,Nat.mod_eq_of_lt hq])).ob,
   fun w e=>(A5 _ I8 O (I7 (upo3.ext e.size) hq)).ob (A9 _ _ _),
   fun w e x3 hx3=>hfd O hx3,
   fun w e=>(v_mv O).ob,
   fun w e=>(v_mv O).ob,
   fun w e=>((Ab7 O O (by omega)).eq (by rw [X8])).ob,
   fun w e=>(A5 _ I8 O (I7 (up3.ext e.size) hr)).ob (A9 _ _ _),
   fun w e x8 hx8=>hfd O hx8,
   fun w e x4 hx4=>Aw8 O hx4 (A9 _ _ _),trivial⟩ ?_
  intro w4 e4 _ _ _ _ _ _ u9 hu9 u10 hu10
  refine .an O O (.ret ?_)
  exact .plain [_,_] Tryz.results212 ⟨rfl,rfl,trivial⟩ ⟨x3.trans e4,_,_,rfl,⟨_,hu10,B6 _,Nat.le_succ_of_le (X6 (Nat.div_le_self _ _))⟩,⟨_,hu9,B6 _,Nat.le_succ_of_le (X6 (Nat.mod_le _ _))⟩⟩
 refine .leqF O O O (by omega) (.an O O (.condF O (.sr (.mv O O (.lenR un_W O O hb1 ?_)))))
 by_cases h3:(wds n).length=1
 ·refine .eqlT O O O (by omega) (.an O O (.condT O (.sr (.mv O O (.call _ O AN7 O (Clone_o ha1 hla) fun v2 w2 e2 o2=>.an O O ?_)))))
  obtain ⟨g,cap,rfl,hc1,hc2,hg,ob⟩:=o2.ob (by intro h;rw [h] at h2;simp at h2)
  have hn32:n<4294967296:=by
   have h4:=AB7 n
   rw [h3] at h4;omega
  have hwn:wds n=[n]:=AO2 hn32 (by omega)
  refine .sr (.mv O O (.mv O O ?_))
  have hb2:=hb1.ext e2
  rw [hwn] at hb2
  refine .ix un_W A3 O O hb2 O (by decide) (y:=n) O fun p hp=>.ldE A3 O O hp fun e he=>?_
  obtain ⟨rfl,_⟩:=he
  refine .cvt C1 C3 O O ?_
  rw [wU (n:=(n:Int)) (by omega)]
  refine .callG _ O AQ3 O (AN8 ob hn hn32 hla) ?_
  rintro _ w3 ⟨rfl,u3,V,obV,hlV,hvV⟩
  rw [B6] at hvV ⊢
  refine .an O O (.sr (.mv O O (.mv O O (.cvt C3 C1 O O ?_))))
  have hmn:m % n<4294967296:=Nat.lt_trans (Nat.mod_lt _ hn) hn32
  rw [I3,Nat.mod_eq_of_lt hmn]
  refine .bsl _ O O AA5 fun w4 b4 n4=>.asg O O (.an O O (.ret ?_))
  obtain ⟨e4,k4,hb4,hs4⟩:=n4
  have hx3:Ext w w3:=u3.below (e1.trans e2) (by have:=e1.size;omega)
  have hR:=(obV.ext e4).toR0 (S:=T0) (c:=cap) (upo g (by have:=e1.size;omega)) (by omega) (by omega)
  rw [hlV] at hR
  have hR2:eW.R S w4 (.slice (some ⟨b4,0,none⟩) 1 1) [m % n]:=AY2 (l:=[m % n]) (t:=108) k4 (up b4 (by have:=hx3.size;omega)) (by simp [dig,hmn]) (Nat.le_refl 1) (by simp)
  exact .plain [_,_] Tryz.results212 ⟨rfl,rfl,trivial⟩ ⟨hx3.trans e4,_,_,rfl,⟨V,hR,hvV,by omega⟩,⟨_,hR2,by simp [val],by simp⟩⟩
 refine .eqlF O O O (by omega) (.an O O (.condF O (.skip (.sr (.mv O O (.mv O O ?_))))))
 have htop:0<(wds n).getD ((wds n).length-2+1) 0:=by
  have hc:=can_wds n
  have h5:(wds n)[(wds n).length-1]?=some ((wds n).getD ((wds n).length-2+1) 0):=by
   rw [show (wds n).length-2+1=(wds n).length-1 by omega]
   exact C2 (by omega)
  have:=hc _ (by rw [List.getLast?_eq_getElem?];exact h5)
  omega
 refine .call _ O AT8 O (AT1 (m:=(wds n).length-2) up1 upo1 ha1 hb1 hla (by omega) hle htop) fun v2 w2 e2 h2=>?_
 obtain ⟨q,r,rfl,hq,hr⟩:=h2
 rw [B6,B6] at hq hr
 refine .ext O O O (.ext O O O (.asg O O (.an O O (.ret ?_))))
 exact .plain [_,_] Tryz.results212 ⟨rfl,rfl,trivial⟩ ⟨e1.trans e2,_,_,rfl,hq,hr⟩
theorem AO1 {S:Nat->Prop} {w:World} {va vb:Value} {m n:Nat} (up:Up S w) (ha:eW.R S w va (wds m)) (hb:eW.R S w vb (wds n)) (hla:(wds m).length<=1099511627776) (hn:0<n) :
  CR Tryz.prog 212 #[va,vb] w (Two (Wv S (m / n) ((wds m).length+1)) (Wv S (m % n) ((wds m).length+1))):=X4 up up ha hb hla hn
theorem E3 {P:Program} {w:World} {t t':TypeId} {b n:Nat} {α:Type} {E:ER α} {S:Nat->Prop} {v:Value} {z:α} (ht:tyOf P t=some (true,n)) (hA:E.isA=true) (hn:E.sz=n) (hb:Blk w b t' v.cells) (hz:E.R S w v z):(loadVar t ⟨b,0,none⟩).run P w=.ok v w:=by
 have hsz:=E.csz hz
 have:=I4 (P:=P) (w:=w) (p:=⟨b,0,none⟩) (cs:=v.cells.toList) (t:=t) (by rw [ht];simp;omega) (fun j u hu=>by rw [I5,hb.cell];simpa using hu)
 rw [this]
 have hv:=shpA hA hz
 simp only [Array.toArray_toList]
 rw [<-hv]
theorem AS4 {a b q r:Int} (hb:b≠0) (h:a=b*q+r) (h0:0<=r) (h1:r<b.natAbs):a / b=q/\a % b=r:=by
 subst h
 have hz:r / b=0:=by
  rcases Int.lt_or_gt_of_ne hb with h | h
  ·have:r / b = -(r / -b):=by rw [Int.ediv_neg,Int.neg_neg]
   rw [this,Int.ediv_eq_zero_of_lt h0 (by omega)];rfl
  ·exact Int.ediv_eq_zero_of_lt h0 (by omega)
 have hm:r % b=r:=by
  have:=Int.emod_def r b
  rw [hz] at this;omega
 constructor
 ·rw [Int.add_comm,Int.add_mul_ediv_left _ _ hb,hz];omega
 ·rw [Int.add_comm,Int.add_mul_emod_self_left,hm]
theorem AY3 {p q:Bool} {A B:Nat} (hB:0<B) (h:p=false\/A % B=0):sg p A / sg q B=sg (p != q) (A / B)/\sg p A % sg q B=sg false (A % B):=by
 have hd:=Nat.div_add_mod A B
 have hm:=Nat.mod_lt A hB
 generalize A / B=d at *
 generalize A % B=m at *
 subst hd
 refine AS4 (by cases q<;>simp [sg]<;>omega) ?_ (Int.natCast_nonneg m) (by rw [Ac1];show (m:Int)<(B:Int);omega)
 cases p with
 | false=>cases q<;>simp [sg,Int.natCast_mul,Int.neg_mul,Int.mul_neg]
 | true =>
  have hm0:m=0:=h.resolve_left (by simp)
  subst hm0
  cases q<;>simp [sg,Int.natCast_mul,Int.neg_mul,Int.mul_neg]
theorem At2 {q:Bool} {A B:Nat} (hB:0<B) (h:0<A % B):sg true A / sg q B=sg (true != q) (A / B+1)/\sg true A % sg q B=sg false (B-A % B):=by
 have hd:=Nat.div_add_mod A B
 have hm:=Nat.mod_lt A hB
 generalize A / B=d at *
 generalize A % B=m at *
 subst hd
 refine AS4 (by cases q<;>simp [sg]<;>omega) ?_ (Int.natCast_nonneg _) (by rw [Ac1];show ((B-m:Nat):Int)<(B:Int);omega)
 have e:((B:Int)*((d:Int)+1))=(B:Int)*d+B:=by rw [Int.mul_add,Int.mul_one]
 have e2:((B-m:Nat):Int)=(B:Int)-m:=by omega
 cases q<;>simp [sg,Int.natCast_mul,Int.neg_mul,Int.mul_neg,e,e2]<;>omega
theorem AD5:Ent Tryz.prog 155:=A0 Tryz.func155 (by kernel_rfl) rfl
theorem AB6 {S T0:Nat->Prop} {w:World} {va vb:Value} {x y:ZV} (up:Up S w) (upo:Up T0 w) (ha:eZ.R S w va x) (hb:eZ.R S w vb y) (hla:x.w.length<=1000000000000) (hlb:y.w.length<=1000000000000) (hy:zval y≠0) :
  CR Tryz.prog 155 #[va,vb] w (Three (eZ.at T0 (zc (zval x / zval y))) (eZ.at S (zc (zval x % zval y))) (Is (.int .i64 0))):=by
 obtain ⟨sa,rfl,hsa⟩:=ha
 obtain ⟨sb,rfl,hsb⟩:=hb
 have hda:dig x.w:=F1 hsa
 have hdb:dig y.w:=F1 hsb
 have hla':=Nat.le_trans (E5 hda) hla
 have hlb':=Nat.le_trans (E5 hdb) hlb
 have hy0:0<val y.w:=by
  rcases Nat.eq_zero_or_pos (val y.w) with h | h
  ·exact absurd (by unfold zval sg;rw [h];simp) hy
  ·exact h
 refine enter Tryz.func155 O Tryz.ntmps155 O (.sr (.box O O fun w1 b1 n1=>.box O O fun w2 b2 n2=>.alloc O C9 fun w3 b3 n3=>.alloc O C9 fun w4 b4 n4=>.an O O ?_))
 obtain ⟨e1,k1,hb1,hs1⟩:=n1
 obtain ⟨e2,k2,hb2,hs2⟩:=n2
 obtain ⟨e3,k3,hb3,hs3⟩:=n3
 obtain ⟨e4,k4,hb4,hs4⟩:=n4
 have x4:=((e1.trans e2).trans e3).trans e4
 have k1:=((k1.ext e2).ext e3).ext e4
 have k2:=(k2.ext e3).ext e4
 have k3:=k3.ext e4
 have hS3:¬ Sx T0 w.heap.size w4.heap.size b3:=Sx.no (by omega) (by omega)
 have hU4:¬ Sx T0 w.heap.size w4.heap.size b4:=Sx.no (by omega) (by omega)
 have upo4:Up (Sx T0 w.heap.size w4.heap.size) w4:=Sx.up upo (Nat.le_refl _) x4.size
 have houo:∀ {W:World} {v:Value} {z:ZV},eZ.R (Sx T0 w.heap.size w4.heap.size) W v z->eZ.R T0 W v z:=fun h=>h.out
 have hST3:¬ Sx S w.heap.size w4.heap.size b3:=Sx.no (by omega) (by omega)
 have hS4:¬ Sx S w.heap.size w4.heap.size b4:=Sx.no (by omega) (by omega)
 have up4:Up (Sx S w.heap.size w4.heap.size) w4:=Sx.up up (Nat.le_refl _) x4.size
 have hsa4:=(hsa.par w4.heap.size).ext x4
 have hsb4:=(hsb.par w4.heap.size).ext x4
 have hout:∀ {W:World} {v:Value} {z:ZV},eZ.R (Sx S w.heap.size w4.heap.size) W v z->eZ.R S W v z:=fun h=>h.out
 generalize hT:Sx S w.heap.size w4.heap.size=T at *
 generalize hU:Sx T0 w.heap.size w4.heap.size=U at *
 refine .seq ?_
 refine .par follows 7 [.inl _,.inl _,.inr (eW.at T (wds (val x.w))),.inl _,.inl _,.inr (eW.at T (wds (val y.w))),.inr (eW.at T (wds (val x.w)))] [[],[(11,0)],[(12,1)],[],[(14,3)],[(15,4)],[(13,2)]] (by kernel_rfl) ⟨
  fun w e=>(v_fa F4 O).ob,
  fun w e=>(v_ld ty_W O (k1.ext e) O).ob,
  fun w e=>(A5 _ B5 O (by rw [<-D9 hda];exact B4 (hsa4.ext e))).ob (A9 _ _ _),
  fun w e=>(v_fa F4 O).ob,
  fun w e=>(v_ld ty_W O (k2.ext e) O).ob,
  fun w e=>(A5 _ B5 O (by rw [<-D9 hdb];exact B4 (hsb4.ext e))).ob (A9 _ _ _),
  fun w e x2 hx2=>Aw8 O hx2 (A9 _ _ _),trivial⟩ ?_
 intro w5 e5 u2 hu2 u5 hu5 u6 hu6
 refine .an O O ?_
 have x5:=x4.trans e5
 have up5:=up4.ext e5.size
 have upo5:=upo4.ext e5.size
 have hne:(wds (val y.w)).length≠0:=by
  have:=List.length_pos_iff.2 (O2 (n:=val y.w) (by omega));omega
 refine .seq (.sr (.mv O O (.lenR un_W O O hu5 (.eqlF O O O (by omega) (.nil (.condF O (.skip ?_)))))))
 refine .sr (.mv O O (.mv O O ?_))
 refine .call _ O Y6 O (X4 up5 upo5 hu6 hu5 (by omega) hy0) fun v6 w6 e6 h6=>?_
 obtain ⟨vq,vr,rfl,⟨q,hq,hqv,hql⟩,⟨r,hr,hrv,hrl⟩⟩:=h6
 refine .mv O O (.ext O O O (.ext O O O (.asg O O (.an O O ?_))))
 have hrd:dig r:=F1 hr
 refine .sr (.mv O O ?_)
 refine .call _ O B5 O (B4 hr) fun vt w7 e7 ht=>.an O O ?_
 rw [D9 hrd,hrv] at ht
 have e67:=e6.trans e7
 have x7:=x5.trans e67
 have up7:=up5.ext e67.size
 have upo7:=upo5.ext e67.size
 have hq7:=hq.ext e7
 have k1:=(k1.ext e5).ext e67
 have k2:=(k2.ext e5).ext e67
 have k3:=(k3.ext e5).ext e67
 have k4:=(k4.ext e5).ext e67
 have hu57:=hu5.ext e67
 have hl7:=AH1 ht
 have hrl':(wds (val x.w % val y.w)).length<=(wds (val y.w)).length:=X6 (Nat.le_of_lt (Nat.mod_lt _ hy0))
 refine .mid (α:=Value×Value) (fun z=>[(2,.pointer (some ⟨b1,0,none⟩)),(3,.pointer (some ⟨b2,0,none⟩)),(4,.pointer (some ⟨b3,0,none⟩)),(5,.pointer (some ⟨b4,0,none⟩)),(9,z.1),(10,z.2)])
  (fun z W=>Ext w7 W/\∃ q r,eW.R U W z.1 q/\eW.R T W z.2 r/\zval x / zval y=sg (x.neg != y.neg) (val q)/\zval x % zval y=sg false (val r)) ?_ ?_
 ·refine .sr (.fa J4 O O (.ld B8 O O k1 O (.mv O O ?_)))
  cases hn:x.neg with
  | false =>
   refine .gs O O O O O (.gs O O O O O (.gs O O O O O (.pick O O O (.nil (.condF O (.skip ?_))))))
   obtain ⟨d1,d2⟩:=AY3 (p:=false) (q:=y.neg) (A:=val x.w) hy0 (.inl rfl)
   refine ⟨rfl,(vq,vt),lkA rfl,.refl _,q,_,hq7,ht,?_,?_⟩
   ·unfold zval;rw [hn,hqv];exact d1
   ·unfold zval;rw [hn,B6];exact d2
  | true =>
   refine .gr O O O O (.mv O O (.gr O O O O (.lenR un_W O O ht (.gr O O O O ?_))))
   rcases Nat.eq_zero_or_pos (val x.w % val y.w) with h0 | h0
   ·have h0':(wds (val x.w % val y.w)).length=0:=by rw [h0,G2];rfl
    refine .gtrF O O O (by omega) (.pick O O O (.nil (.condF O (.skip ?_))))
    obtain ⟨d1,d2⟩:=AY3 (p:=true) (q:=y.neg) (A:=val x.w) hy0 (.inr h0)
    refine ⟨rfl,(vq,vt),lkA rfl,.refl _,q,_,hq7,ht,?_,?_⟩
    ·unfold zval;rw [hn,hqv];exact d1
    ·unfold zval;rw [hn,B6];exact d2
   ·have h0':=List.length_pos_iff.2 (O2 (n:=val x.w % val y.w) (by omega))
    refine .gtrT O O O (by omega) (.pick O O O (.nil (.condT O (.sr (.mv O O ?_)))))
    refine .bsl _ O O AA5 fun w8 b8 n8=>?_
    obtain ⟨e8,k8,hb8,hs8⟩:=n8
    have h1:eW.R U w8 (.slice (some ⟨b8,0,none⟩) 1 1) [1]:=AY2 (l:=[1]) (t:=108) k8 (upo7 b8 (by omega)) (by simp [dig]) (Nat.le_refl 1) (by simp)
    refine .call _ O Y7 O (X5 (upo7.ext e8.size) (hq7.ext e8) h1 (by omega) (by simp)) fun v9 w9 e9 h9=>.an O O (.region (.mv O O (.mv O O ?_)))
    obtain ⟨q',hq',hqv',hql'⟩:=h9
    have e79:=e8.trans e9
    refine .call _ O O8 O (O1 (up7.ext e79.size) (hu57.ext e79) (ht.ext e79) (by omega) (by omega) (by rw [B6,B6];exact Nat.le_of_lt (Nat.mod_lt _ hy0))) fun v10 w10 e10 h10=>.an O O ?_
    obtain ⟨r',hr',hrv',hrl''⟩:=h10
    obtain ⟨d1,d2⟩:=At2 (q:=y.neg) (A:=val x.w) hy0 h0
    refine ⟨rfl,(v9,v10),lkA rfl,e79.trans e10,q',r',hq'.ext e10,hr',?_,?_⟩
    ·unfold zval;rw [hn,hqv',hqv];simp only [val];rw [Nat.mul_zero,Nat.add_zero];exact d1
    ·unfold zval;rw [hn,hrv',B6,B6];exact d2
 ·rintro ⟨vq,vr⟩ W ⟨e8,q,r,hq,hr,hdq,hdr⟩
  have k1:=k1.ext e8
  have k2:=k2.ext e8
  have up8:=up7.ext e8.size
  have upo8:=upo7.ext e8.size
  refine .sr (.fa J4 O O (.ld B8 O O k1 O (.fa J4 O O (.ld B8 O O k2 O (.neqB S7 O O O (.mv O O (.call _ O F3 O (F2 upo8 hq) fun v9 w9 e9 h9=>.mv O O (.call _ O F3 O (F2 (up8.ext e9.size) (hr.ext e9)) fun v10 w10 e10 h10=>?_))))))))
  have e910:=e9.trans e10
  have k3:=(k3.ext e8).ext e910
  have k4:=(k4.ext e8).ext e910
  refine .storeA ty_Z O O k3 O O (h9.ext e10) hS3 fun w11 k11 u11 h11=>?_
  have hne34:b4≠b3:=by omega
  refine .storeA ty_Z O O (k4.upd u11 hne34) O O (h10.upd u11 hST3) hS4 fun w12 k12 u12 h12=>.an O O (.ret ?_)
  have h11':=h11.upd u12 hU4
  have k11':=k11.upd u12 (Ne.symm hne34)
  rw [hdq,hdr]
  refine .plain [_,_,_] Tryz.results155 ⟨⟨_,rfl,E3 (E:=eZ) ty_Z O O k11' h11'⟩,⟨_,rfl,E3 (E:=eZ) ty_Z O O k12 h12⟩,rfl,trivial⟩ ⟨?_,_,_,_,rfl,houo h11',hout h12,rfl⟩
  exact u12.below (u11.below (((x7.trans e8).trans e910)) (by omega)) (by omega)
theorem Ao7:Ent Tryz.prog 154:=A0 Tryz.func154 (by kernel_rfl) rfl
theorem Aj4 {S:Nat->Prop} {w:World} {va vb:Value} {x y:ZV} (up:Up S w) (ha:eZ.R S w va x) (hb:eZ.R S w vb y) (hla:x.w.length<=1000000000000) (hlb:y.w.length<=1000000000000) :
  CR Tryz.prog 154 #[va,vb] w (eZ.at S (zc (Nat.gcd (val x.w) (val y.w):Nat))):=by
 obtain ⟨sa,rfl,hsa⟩:=ha
 obtain ⟨sb,rfl,hsb⟩:=hb
 have hda:dig x.w:=F1 hsa
 have hdb:dig y.w:=F1 hsb
 have hla':=Nat.le_trans (E5 hda) hla
 have hlb':=Nat.le_trans (E5 hdb) hlb
 refine enter Tryz.func154 O Tryz.ntmps154 O ?_
 refine .sr (.box O O fun w1 b1 n1=>.box O O fun w2 b2 n2=>.alloc O C9 fun w3 b3 n3=>.nil ?_)
 obtain ⟨e1,k1,hb1,hs1⟩:=n1
 obtain ⟨e2,k2,hb2,hs2⟩:=n2
 obtain ⟨e3,k3,hb3,hs3⟩:=n3
 have x3:=(e1.trans e2).trans e3
 have k1:=(k1.ext e2).ext e3
 have k2:=k2.ext e3
 have hS:¬ Sx S w.heap.size w3.heap.size b3:=Sx.no (by omega) (by omega)
 have up3:Up (Sx S w.heap.size w3.heap.size) w3:=Sx.up up (Nat.le_refl _) x3.size
 have hsa3:=(hsa.par w3.heap.size).ext x3
 have hsb3:=(hsb.par w3.heap.size).ext x3
 have hout:∀ {W:World} {v:Value} {z:ZV},eZ.R (Sx S w.heap.size w3.heap.size) W v z->eZ.R S W v z:=fun h=>h.out
 generalize hT:Sx S w.heap.size w3.heap.size=T at *
 refine .seq ?_
 refine .par follows 7 [.inl _,.inl _,.inr (eW.at T (wds (val x.w))),.inl _,.inl _,.inr (eW.at T (wds (val y.w))),.inr (eW.at T (wds (val x.w)))] [[],[(11,0)],[(12,1)],[],[(14,3)],[(15,4)],[(13,2)]] (by kernel_rfl) ⟨
  fun w e=>(v_fa F4 O).ob,
  fun w e=>(v_ld ty_W O (k1.ext e) O).ob,
  fun w e=>(A5 _ B5 O (by rw [<-D9 hda];exact B4 (hsa3.ext e))).ob (A9 _ _ _),
  fun w e=>(v_fa F4 O).ob,
  fun w e=>(v_ld ty_W O (k2.ext e) O).ob,
  fun w e=>(A5 _ B5 O (by rw [<-D9 hdb];exact B4 (hsb3.ext e))).ob (A9 _ _ _),
  fun w e x2 hx2=>Aw8 O hx2 (A9 _ _ _),trivial⟩ ?_
 intro w4 e4 u2 hu2 u5 hu5 u6 hu6
 refine .an O O ?_
 have x4:=x3.trans e4
 have up4:=up3.ext e4.size
 have k4:=k3.ext e4
 generalize hG:Nat.gcd (val x.w) (val y.w)=G at *
 refine .mid (α:=Value×Value) (fun z=>[(4,.pointer (some ⟨b3,0,none⟩)),(5,z.1),(6,z.2)]) (fun z W=>Ext w4 W/\∃ m n,eW.R T W z.1 (wds m)/\eW.R T W z.2 (wds n)/\Nat.gcd m n=G/\(wds m).length<=1000000000000/\(n=0\/((wds m).length<=2/\(wds n).length<=2))) ?_ ?_
 ·refine .block (.loop (α:=Nat×Nat×Value×Value) (fun z=>[(4,.pointer (some ⟨b3,0,none⟩)),(5,z.2.2.1),(6,z.2.2.2)]) (fun z W=>Ext w4 W/\eW.R T W z.2.2.1 (wds z.1)/\eW.R T W z.2.2.2 (wds z.2.1)/\Nat.gcd z.1 z.2.1=G/\(wds z.1).length<=1000000000000/\(wds z.2.1).length<=1000000000000) (fun z=>z.2.1) (val x.w,val y.w,u6,u5) ?_ ?_ ?_)
  ·exact lkA rfl
  ·exact ⟨.refl _,hu6,hu5,hG,hla',hlb'⟩
  ·rintro ⟨m,n,v5,v6⟩ W ⟨hW,h5,h6,hg,hl5,hl6⟩
   replace h5:eW.R T W v5 (wds m):=h5
   replace h6:eW.R T W v6 (wds n):=h6
   replace hg:Nat.gcd m n=G:=hg
   replace hl5:(wds m).length<=1000000000000:=hl5
   replace hl6:(wds n).length<=1000000000000:=hl6
   refine .mid (α:=Unit) (fun _=>[(4,.pointer (some ⟨b3,0,none⟩)),(5,v5),(6,v6)]) (fun _ W'=>W'=W/\0<n) ?_ ?_
   ·refine .sr (.mv O O (.lenR un_W O O h6 ?_))
    rcases Nat.eq_zero_or_pos n with hn | hn
    ·subst hn
     rw [G2]
     refine .gtrF O O O (by decide) (.mv O O ?_)
     refine .gs O O O O O (.gs O O O O O (.gs O O O O O (.gs O O O O O ?_)))
     refine .gu O O O O (.gu O O O O (.gu O O O O (.gs O O O O O (.pick O O O (.nil (.condF O (.exit ?_)))))))
     exact ⟨rfl,(v5,v6),lkA rfl,hW,m,0,h5,h6,hg,hl5,.inl rfl⟩
    ·have hn0:=List.length_pos_iff.2 (O2 (n:=n) (by omega))
     refine .gtrT O O O (by omega) (.mv O O (.gr O O O O (.mv O O (.gr O O O O (.lenR un_W O O h5 (.gr O O O O ?_))))))
     by_cases hm2:2<(wds m).length
     ·refine .gtrT O O O (by omega) (.gr O O O O (.mv O O (.gs O O O O O (.gs O O O O O (.gs O O O O O (.gr O O O O (.pick O O O (.pick O O O (.nil (.condT O (.skip ?_)))))))))))
      exact ⟨rfl,(),lkA rfl,rfl,hn⟩
     ·refine .gtrF O O O (by omega) (.gr O O O O (.mv O O (.gr O O O O (.mv O O (.gr O O O O (.lenR un_W O O h6 (.gr O O O O ?_)))))))
      by_cases hn2:2<(wds n).length
      ·refine .gtrT O O O (by omega) (.gr O O O O (.pick O O O (.pick O O O (.nil (.condT O (.skip ?_))))))
       exact ⟨rfl,(),lkA rfl,rfl,hn⟩
      ·refine .gtrF O O O (by omega) (.gr O O O O (.pick O O O (.pick O O O (.nil (.condF O (.exit ?_))))))
       exact ⟨rfl,(v5,v6),lkA rfl,hW,m,n,h5,h6,hg,hl5,.inr ⟨by omega,by omega⟩⟩
   ·rintro _ W' ⟨rfl,hn⟩
    refine .block (.sr (.mv O O (.mv O O ?_)))
    refine .call _ O Y6 O (AO1 (up4.ext hW.size) h5 h6 (by omega) hn) fun v7 w7 e7 h7=>?_
    obtain ⟨vq,vr,rfl,_,⟨r,hr,hrv,hrl⟩⟩:=h7
    refine .mv O O (.ext O O O (.ext O O O (.asg O O (.an O O (.region (.mv O O (.mv O O ?_)))))))
    have hrd:dig r:=F1 hr
    refine .call _ O B5 O (B4 hr) fun vt w8 e8 ht=>.asg O O (.an O O ?_)
    rw [D9 hrd,hrv] at ht
    have hlt:=Nat.mod_lt m hn
    refine ⟨rfl,(n,m % n,v6,vt),lkA rfl,⟨(hW.trans e7).trans e8,(h6.ext e7).ext e8,ht,?_,hl6,?_⟩,hlt⟩
    ·show Nat.gcd n (m % n)=G
     rw [<-hg,Nat.gcd_comm m n,Nat.gcd_rec n m,Nat.gcd_comm]
    ·exact Nat.le_trans (X6 (Nat.le_of_lt hlt)) hl6
 ·rintro ⟨v5,v6⟩ W ⟨hW,m,n,h5,h6,hg,hl5,hend⟩
  replace h5:eW.R T W v5 (wds m):=h5
  replace h6:eW.R T W v6 (wds n):=h6
  have upW:=up4.ext hW.size
  have xW:=x4.trans hW
  have kW:=k4.ext hW
  refine .seq (.sr (.mv O O (.lenR un_W O O h6 ?_)))
  rcases Nat.eq_zero_or_pos n with hn | hn
  ·subst hn
   rw [G2]
   refine .eqlT O O O O (.nil (.condT O (.sr (.mv O O ?_))))
   refine .call _ O AN7 O (AV4 upW h5 (by omega)) fun v7 w7 e7 h7=>?_
   refine .call _ O F3 O (F2 (upW.ext e7.size) h7) fun v8 w8 e8 h8=>?_
   refine .storeA ty_Z O O ((kW.ext e7).ext e8) O O h8 hS fun w9 k9 u9 h9=>.nil (.ret ?_)
   refine .cell Tryz.results154 O ty_Z O O k9 h9 ⟨u9.below ((xW.trans e7).trans e8) (by omega),?_⟩
   rw [B6] at h9
   rw [<-hg,Nat.gcd_zero_right]
   exact hout h9
  ·have hn0:=List.length_pos_iff.2 (O2 (n:=n) (by omega))
   obtain ⟨hm2,hn2⟩:=hend.resolve_left (by omega)
   have hm64:m<18446744073709551616:=by
    have h3:=AB7 m
    have h4:4294967296 ^ (wds m).length<=4294967296 ^ 2:=Nat.pow_le_pow_right (by omega) hm2
    omega
   have hn64:n<18446744073709551616:=by
    have h3:=AB7 n
    have h4:4294967296 ^ (wds n).length<=4294967296 ^ 2:=Nat.pow_le_pow_right (by omega) hn2
    omega
   refine .eqlF O O O (by omega) (.nil (.condF O (.skip (.sr (.mv O O ?_)))))
   refine .call _ O J6 O (J1 h5 hm2) fun v7 w7 e7 h7=>?_
   subst h7
   refine .mv O O (.call _ O J6 O (J1 (h6.ext e7) hn2) fun v8 w8 e8 h8=>?_)
   subst h8
   rw [B6,B6]
   refine .asg O O (.an O O ?_)
   have x8:=(xW.trans e7).trans e8
   have up8:=(upW.ext e7.size).ext e8.size
   have k8:=(kW.ext e7).ext e8
   refine .mid (α:=Unit) (fun _=>[(4,.pointer (some ⟨b3,0,none⟩)),(9,.int .u64 (G:Nat))]) (fun _ W'=>Ext w8 W'/\G<18446744073709551616) ?_ ?_
   ·refine .block (.loop (α:=Nat×Nat) (fun z=>[(4,.pointer (some ⟨b3,0,none⟩)),(9,.int .u64 (z.1:Nat)),(10,.int .u64 (z.2:Nat))]) (fun z W'=>Ext w8 W'/\Nat.gcd z.1 z.2=G/\z.1<18446744073709551616/\z.2<18446744073709551616) (fun z=>z.2) (m,n) ?_ ?_ ?_)
    ·exact lkA rfl
    ·exact ⟨.refl _,hg,hm64,hn64⟩
    ·rintro ⟨m,n⟩ W' ⟨hW',hg,hm,hn⟩
     replace hg:Nat.gcd m n=G:=hg
     replace hm:m<18446744073709551616:=hm
     replace hn:n<18446744073709551616:=hn
     rcases Nat.eq_zero_or_pos n with h0 | h0
     ·subst h0
      refine .seq (.sr (.mv O O (.gtrF O O O (by show ¬ (0:Int)<((0:Nat):Int);omega) (.nil (.condF O (.exit ?_))))))
      rw [Nat.gcd_zero_right] at hg
      subst hg
      exact ⟨rfl,(),lkA rfl,hW',hm⟩
     ·refine .seq (.sr (.mv O O (.gtrT O O O (by show (0:Int)<(n:Int);omega) (.nil (.condT O (.skip (.block ?_)))))))
      refine .par follows 5 [.inl (.int .u64 (n:Nat)),.inl (.int .u64 (m:Nat)),.inl (.int .u64 (n:Nat)),.inl (.int .u64 ((m % n:Nat):Int)),.inl (.int .u64 (n:Nat))] [[],[],[],[(52,1),(53,2)],[(51,0)]] (by kernel_rfl) ⟨
       fun w e=>(v_mv O).ob,
       fun w e=>(v_mv O).ob,
       fun w e=>(v_mv O).ob,
       fun w e=>((Ab7 O O (by omega)).eq (by rw [X8])).ob,
       fun w e=>(v_as O).ob,trivial⟩ ?_
      intro w9 e9
      refine .an O O ?_
      have hlt:=Nat.mod_lt m h0
      refine ⟨rfl,(n,m % n),lkA rfl,⟨hW'.trans e9,?_,hn,Nat.lt_trans hlt hn⟩,hlt⟩
      show Nat.gcd n (m % n)=G
      rw [<-hg,Nat.gcd_comm m n,Nat.gcd_rec n m,Nat.gcd_comm]
   ·rintro _ W' ⟨hW',hG64⟩
    refine .sr (.mv O O ?_)
    refine .call _ O I8 O (I7 (neg:=false) (up8.ext hW'.size) hG64) fun v9 w9 e9 h9=>?_
    refine .storeA ty_Z O O ((k8.ext hW').ext e9) O O h9 hS fun w10 k10 u10 h10=>.nil (.ret ?_)
    exact .cell Tryz.results154 O ty_Z O O k10 h10 ⟨u10.below ((x8.trans hW').trans e9) (by omega),hout h10⟩
end Go.Proofs.YtpgkacdihhjknaaGreat
namespace Go.Kx
open Go Go.RowKit
section
variable {P:Program} {σ:Env} {w:World} {d:Option Tmp} {ty:TypeId} {pos:String} {af:Array Edge} {g:Option (Nat×Bool)}
def MapAt (w:World) (r:Nat) (es:Array MapEntry) (c:Nat):Prop:=w.heap[r]?=some (.map es c)
theorem MapAt.ext {w w':World} {r:Nat} {es:Array MapEntry} {c:Nat} (h:MapAt w r es c) (e:Ext w w'):MapAt w' r es c:=(e.block r (Array.getElem?_eq_some_iff.1 h).1).trans h
theorem g_mkmap {t:TypeId}:Gv P ⟨d,.makeMap t none,ty,pos,af,g⟩ σ w fun v' w'=>v'=.map (some w.heap.size)/\Ext w w'/\MapAt w' w.heap.size #[] 0:=by
 refine ⟨(by intro _ h;cases h),fun ρ hρ=>.inl ⟨_,_,?_,rfl,M0 w (.map #[] 0),World.alloc_heap_new w _⟩⟩
 simp [execOp,Instr.makeMap]
theorem Ax9 {t kt et:TypeId} {m k x:Operand} {r:Nat} {es:Array MapEntry} {c:Nat} {kk:IntKind} {n:Int} {v:Value} (ht:P.underlying t=some (.map kt et)) (hk:P.underlying kt=some (.int kk)) (hm:ev σ m=some (.map (some r))) (hn:ev σ k=some (.int kk n)) (hx:ev σ x=some v)
  (hr:MapAt w r es c) (hf:Instr.findNow (.int kk) (.int kk n) es.toList 0=some none) :
  Gv P ⟨d,.insert t m k x,ty,pos,af,g⟩ σ w fun _ w'=>w'=w.putObj r (.map (es.push { key:=.int kk n,val:=v,born:=c }) (c+1)):=by
 refine ⟨(by intro _ h;cases h),fun ρ hρ=>.inr (.inl ⟨_,?_,rfl⟩)⟩
 have e1:=hρ m _ (by simp [Op.operands]) hm
 have e2:=hρ k _ (by simp [Op.operands]) hn
 have e3:=hρ x _ (by simp [Op.operands]) hx
 have hr':w.heap[r]?=some (.map es c):=hr
 have hck:(Instr.checkKey false 10000 kt (.int kk n)).run P w=.ok () w:=by
  unfold Instr.checkKey
  simp [run_underlying hk]
 have hfk:(Instr.findKey kt (.int kk n) es.toList).run P w=.ok none w:=by
  unfold Instr.findKey
  simp [run_underlying hk,hf]
 have hget:(getObj r).run P w=.ok (.map es c) w:=by simp [getObj,Sem.run,hr']
 have hset:∀ o,(setObj r o).run P w=.ok () (w.putObj r o):=fun o=>by simp [setObj,Sem.run,hr',World.putObj]
 simp [execOp,e1,e2,e3,Instr.mapUpdate,run_underlying ht,hget,hck,hfk,hset]
theorem MapAt.put {r:Nat} {es es':Array MapEntry} {c c':Nat} (h:MapAt w r es c):MapAt (w.putObj r (.map es' c')) r es' c':=World.putObj_heap_same (Array.getElem?_eq_some_iff.1 h).1
theorem AE5 {B r:Nat} {w0:World} {o:Obj} (h:Below B w0 w) (hr:B<=r):Below B w0 (w.putObj r o):=K0 h hr
theorem v_lkp {t kt et:TypeId} {m k:Operand} {r:Nat} {es:Array MapEntry} {c:Nat} {kk:IntKind} {n:Int} {i:Nat} {v:Value} (ht:P.underlying t=some (.map kt et)) (hk:P.underlying kt=some (.int kk)) (hm:ev σ m=some (.map (some r))) (hn:ev σ k=some (.int kk n))
  (hr:MapAt w r es c) (hf:Instr.findNow (.int kk) (.int kk n) es.toList 0=some (some (i,v))):Vl P ⟨d,.lookup t m k false,ty,pos,af,g⟩ σ w v:=by
 refine ⟨(by intro _ h;cases h),fun ρ hρ=>?_⟩
 have e1:=hρ m _ (by simp [Op.operands]) hm
 have e2:=hρ k _ (by simp [Op.operands]) hn
 have hr':w.heap[r]?=some (.map es c):=hr
 have hck:∀ b,(Instr.checkKey b 10000 kt (.int kk n)).run P w=.ok () w:=by
  intro b
  unfold Instr.checkKey
  simp [run_underlying hk]
 have hfk:(Instr.findKey kt (.int kk n) es.toList).run P w=.ok (some (i,v)) w:=by
  unfold Instr.findKey
  simp [run_underlying hk,hf]
 have hget:(getObj r).run P w=.ok (.map es c) w:=by simp [getObj,Sem.run,hr']
 simp [execOp,e1,e2,Instr.lookup,run_underlying ht,hget,hck,hfk]
end
@[reducible] def Zv (S:Nat->Prop) (n:Int) (L:Nat):Value->World->Prop:=fun v w=>∃ z,eZ.R S w v z/\zval z=n/\z.w.length<=L
theorem Al2 (S:Nat->Prop) (n:Int) (L:Nat):St (Zv S n L):=fun _ _ _ e ⟨z,h1,h2⟩=>⟨z,h1.ext e,h2⟩
theorem Zv.of {S:Nat->Prop} {n:Int} {L:Nat} {v:Value} {w:World} (h:eZ.R S w v (zc n)) (hl:n.natAbs<4294967296 ^ L):Zv S n L v w:=⟨_,h,H9 n,AB5 hl⟩
theorem Zv.lt {S:Nat->Prop} {n:Int} {L:Nat} {v:Value} {w:World} (h:Zv S n L v w):n.natAbs<4294967296 ^ L:=by
 obtain ⟨z,⟨s,_,hs⟩,rfl,hl⟩:=h
 exact S3 (F1 hs) hl
theorem Zv.out {S:Nat->Prop} {B C:Nat} {n:Int} {L:Nat} {v:Value} {w:World} (h:Zv (Sx S B C) n L v w):Zv S n L v w:=by
 obtain ⟨z,h1,h2⟩:=h
 exact ⟨z,h1.out,h2⟩
theorem Zv.ext {S:Nat->Prop} {n:Int} {L:Nat} {v:Value} {w w':World} (h:Zv S n L v w) (e:Ext w w'):Zv S n L v w':=Al2 S n L _ _ _ e h
theorem Zv.agg {S:Nat->Prop} {n:Int} {L:Nat} {v:Value} {w:World} (h:Zv S n L v w):∃ b s,v=.agg #[.bool b,s]:=by
 obtain ⟨z,⟨s,rfl,_⟩,_⟩:=h
 exact ⟨_,_,rfl⟩
def eZn (L:Nat):ER Int where
 sz:=2
 isA:=true
 R:=fun S w v n=>Zv S n L v w
 csz:=by rintro S w e x ⟨z,h,_⟩;exact eZ.csz h
 one:=by rintro S w e x ⟨z,h,_⟩;exact eZ.one h
 shp:=by rintro S w e x ⟨z,h,_⟩;exact eZ.shp h
 keep:=fun hk ⟨z,h1,h2⟩=>⟨z,eZ.keep hk h1,h2⟩
 mono:=fun hk ⟨z,h1,h2⟩=>⟨z,eZ.mono hk h1,h2⟩
end Go.Kx
namespace Go.Proofs.YtpgkacdihhjknaaGreat
open Go Go.Kx Go.RowKit
theorem R9 {S:Nat->Prop} {w:World} {v:Value} {q:QV} (h:eQ.R S w v q):∃ s t,v=.agg #[.bool q.num.neg,s,.bool q.den.neg,t]/\eZ.R S w (.agg #[.bool q.num.neg,s]) q.num/\eZ.R S w (.agg #[.bool q.den.neg,t]) q.den:=by
 obtain ⟨s,t,hv,h1,h2⟩:=h
 exact ⟨s,t,hv,⟨s,rfl,h1⟩,⟨t,rfl,h2⟩⟩
theorem AP8 {S:Nat->Prop} {w:World} {v:Value} {z:ZV} (h:eZ.R S w v z):dig z.w:=by
 obtain ⟨s,_,hs⟩:=h
 exact F1 hs
theorem N9:Ent Tryz.prog 104:=A0 Tryz.func104 (by kernel_rfl) rfl
theorem N7 {S:Nat->Prop} {w:World} {v:Value} {q:QV} {L:Nat} (up:Up S w) (h:eQ.R S w v q) (hl:qok L q) (hL:1<=L) (hL2:L<=1000000000000):CR Tryz.prog 104 #[v] w (Two (Zv S (pn q) L) (Zv S (pd q) L)):=by
 obtain ⟨s,t,rfl,hn,hd⟩:=R9 h
 have hdn:=AP8 hn
 have hdd:=AP8 hd
 refine enter Tryz.func104 O Tryz.ntmps104 O (.sr (.box O O fun w1 b1 n1=>.alloc O C9 fun w2 b2 n2=>.alloc O C9 fun w3 b3 n3=>.nil ?_))
 obtain ⟨e1,k1,hb1,hs1⟩:=n1
 obtain ⟨e2,k2,hb2,hs2⟩:=n2
 obtain ⟨e3,k3,hb3,hs3⟩:=n3
 have x3:=(e1.trans e2).trans e3
 have k1:=(k1.ext e2).ext e3
 have k2:=k2.ext e3
 have hS2:¬ Sx S w.heap.size w3.heap.size b2:=Sx.no (by omega) (by omega)
 have hS3:¬ Sx S w.heap.size w3.heap.size b3:=Sx.no (by omega) (by omega)
 have up3:Up (Sx S w.heap.size w3.heap.size) w3:=Sx.up up (Nat.le_refl _) x3.size
 have hn3:=(hn.par w3.heap.size).ext x3
 have hd3:=(hd.par w3.heap.size).ext x3
 have hne23:b3≠b2:=by omega
 have hne21:b1≠b2:=by omega
 have hout:∀ {W:World} {v:Value} {n:Int},(eZn L).R (Sx S w.heap.size w3.heap.size) W v n->Zv S n L v W:=fun h=>Zv.out h
 generalize hT:Sx S w.heap.size w3.heap.size=T at *
 have fin2:∀ {σ:Env} {W:World} {u v:Value} {m n:Int},Ext w W->Blk W b2 37 u.cells->Blk W b3 37 v.cells->(eZn L).R T W u m->(eZn L).R T W v n->m=pn q->n=pd q->Kx.look σ 2=some (.pointer (some ⟨b2,0,none⟩))->Kx.look σ 3=some (.pointer (some ⟨b3,0,none⟩)) ->
   Leave Tryz.prog Tryz.f104 24 (fun v w'=>Ext w w'/\Two (Zv S (pn q) L) (Zv S (pd q) L) v w') σ [] W:=by
  intro σ W u v m n hx hb hb' hu hv hm hn h2 h3
  subst hm;subst hn
  exact .plain [_,_] Tryz.results104 ⟨⟨_,h2,E3 (E:=eZn L) ty_Z O O hb hu⟩,⟨_,h3,E3 (E:=eZn L) ty_Z O O hb' hv⟩,trivial⟩ ⟨hx,u,v,rfl,hout hu,hout hv⟩
 refine .seq (.sr (.fa V6 O O (.ldN [.bool q.den.neg,t] ty_Z rfl rfl k1 (by intro j u hu;match j with | 0=>exact hu | 1=>exact hu | j+2=>simp at hu) (.call _ rfl F8 O (F7 hd3) fun v4 w4 e4 h4=>.nil ?_))))
 subst h4
 have hn4:=hn3.ext e4
 have hd4:=hd3.ext e4
 have k1:=k1.ext e4
 have k2:=k2.ext e4
 have k3:=k3.ext e4
 have x4:=x3.trans e4
 have up4:=up3.ext e4.size
 refine .block (.sr ?_)
 by_cases h0:zval q.den=0
 ·refine .eqlT O O O (by rw [h0];rfl) (.an O O (.condT O (.seq ?_)))
  refine .par follows 3 [.inl _,.inl (.agg #[.bool q.num.neg,s]),.inr (eZ.at T (zc 1))] [[],[(9,0)],[]] (by kernel_rfl) ⟨
   fun w e=>(v_fa R7 O).ob,
   fun w e=>(AB9 [.bool q.num.neg,s] ty_Z rfl (k1.ext e) (by intro j u hu;match j with | 0=>exact hu | 1=>exact hu | j+2=>simp at hu)).ob,
   fun w e=>(A5 _ C6 O (C5 (n:=1) (up4.ext e.size) (by omega) (by omega))).ob (A9 _ _ _),trivial⟩ ?_
  intro w5 e5 x2 hx2
  have hA:(eZn L).R T w5 (.agg #[.bool q.num.neg,s]) (zval q.num):=⟨q.num,hn4.ext e5,rfl,hl.1⟩
  have h1:(eZn L).R T w5 x2 1:=Zv.of hx2 (by have:4294967296 ^ 1<=4294967296 ^ L:=Nat.pow_le_pow_right (by omega) hL;show 1<_;omega)
  refine .storeA (E:=eZn L) ty_Z O O (k2.ext e5) O O hA hS2 fun w6 k6 u6 h6=>(.storeA (E:=eZn L) ty_Z O O ((k3.ext e5).upd u6 hne23) O O (h1.upd u6 hS2) hS3 fun w7 k7 u7 h7=>.nil (.ret (fin2 (u7.below (u6.below (x4.trans e5) (by omega)) (by omega)) (k6.upd u7 (Ne.symm hne23)) k7 (h6.upd u7 hS3) h7 ?_ ?_ O O)))
  ·unfold pn;rw [h0];simp
  ·unfold pd;rw [h0];simp
 ·have hs0:(zval q.den).sign≠0:=fun h=>h0 (Int.sign_eq_zero_iff_zero.1 h)
  refine .eqlF O O O hs0 (.an O O (.condF O (.sr ?_)))
  by_cases h1:zval q.den<0
  ·refine .eqlT O O O (Int.sign_eq_neg_one_of_neg h1) (.an O O (.condT O (.seq ?_)))
   refine .held follows true (fun W=>Blk W b1 39 #[.bool q.num.neg,s,.bool q.den.neg,t]) [some _,some (.agg #[.bool q.num.neg,s]),none,some _,some (.agg #[.bool q.den.neg,t]),none,none,none] (by kernel_rfl) ⟨
    fun _ _=>v_fa R7 rfl,
    fun _ h=>AB9 [.bool q.num.neg,s] ty_Z rfl h (by intro j u hu;match j with | 0=>exact hu | 1=>exact hu | j+2=>simp at hu),
    fun _ _=>v_fa V6 rfl,
    fun _ h=>AB9 [.bool q.den.neg,t] ty_Z rfl h (by intro j u hu;match j with | 0=>exact hu | 1=>exact hu | j+2=>simp at hu),trivial⟩ ?_
   intro w5 e5 _
   refine .gv (k1.ext e5) O (A5 _ P7 O (P1 (up4.ext e5.size) (hn4.ext e5) (Nat.le_trans hl.1 (by omega)))) ?_
   rintro vn w6 ⟨e6,hvn⟩
   have e56:=e5.trans e6
   refine .gv (k1.ext e56) O (A5 _ P7 O (P1 (up4.ext e56.size) (hd4.ext e56) (Nat.le_trans hl.2 (by omega)))) ?_
   rintro vd w7 ⟨e7,hvd⟩
   have e57:=e56.trans e7
   have hA:(eZn L).R T w7 vn (-zval q.num):=Zv.of (hvn.ext e7) (by have:=S3 hdn hl.1;omega)
   have hB:(eZn L).R T w7 vd (-zval q.den):=Zv.of hvd (by have:=S3 hdd hl.2;omega)
   have hca:=(eZn L).csz hA
   have hcb:=(eZn L).csz hB
   refine .gv (k1.ext e57) O (H2 ty_Z O O (k2.ext e57) hca (Nat.le_refl _) ((eZn L).one hA)) ?_
   rintro _ w8 ⟨k8,u8⟩
   rw [Y9 _ _ (by rw [Array.length_toList,hca];rfl)] at k8
   refine .gv ((k1.ext e57).upd u8 hne21) O (H2 ty_Z O O ((k3.ext e57).upd u8 hne23) hcb (Nat.le_refl _) ((eZn L).one hB)) ?_
   rintro _ w9 ⟨k9,u9⟩
   rw [Y9 _ _ (by rw [Array.length_toList,hcb];rfl)] at k9
   refine .nil (.inl O) (.ret ?_)
   simp only [Array.toArray_toList] at k8 k9
   refine fin2 (u9.below (u8.below (x4.trans e57) (by omega)) (by omega)) (k8.upd u9 (Ne.symm hne23)) k9 ((hA.upd u8 hS2).upd u9 hS3) ((hB.upd u8 hS2).upd u9 hS3) ?_ ?_ O rfl
   ·unfold pn;rw [if_pos h1]
   ·unfold pd;rw [if_neg h0,if_pos h1]
  ·have hs1:(zval q.den).sign ≠ -1:=by rw [Int.sign_eq_one_of_pos (by omega)];decide
   refine .eqlF O O O hs1 (.an O O (.condF O (.skip (.seq ?_))))
   refine .held follows true (fun W=>Blk W b1 39 #[.bool q.num.neg,s,.bool q.den.neg,t]) [some _,some (.agg #[.bool q.num.neg,s]),some _,some (.agg #[.bool q.den.neg,t]),none,none] (by kernel_rfl) ⟨
    fun _ _=>v_fa R7 rfl,
    fun _ h=>AB9 [.bool q.num.neg,s] ty_Z rfl h (by intro j u hu;match j with | 0=>exact hu | 1=>exact hu | j+2=>simp at hu),
    fun _ _=>v_fa V6 rfl,
    fun _ h=>AB9 [.bool q.den.neg,t] ty_Z rfl h (by intro j u hu;match j with | 0=>exact hu | 1=>exact hu | j+2=>simp at hu),trivial⟩ ?_
   intro w7 e57 _
   have hA:(eZn L).R T w7 (.agg #[.bool q.num.neg,s]) (zval q.num):=⟨q.num,hn4.ext e57,rfl,hl.1⟩
   have hB:(eZn L).R T w7 (.agg #[.bool q.den.neg,t]) (zval q.den):=⟨q.den,hd4.ext e57,rfl,hl.2⟩
   have hca:=(eZn L).csz hA
   have hcb:=(eZn L).csz hB
   refine .gv (k1.ext e57) O (H2 ty_Z O O (k2.ext e57) hca (Nat.le_refl _) ((eZn L).one hA)) ?_
   rintro _ w8 ⟨k8,u8⟩
   rw [Y9 _ _ (by rw [Array.length_toList,hca];rfl)] at k8
   refine .gv ((k1.ext e57).upd u8 hne21) O (H2 ty_Z O O ((k3.ext e57).upd u8 hne23) hcb (Nat.le_refl _) ((eZn L).one hB)) ?_
   rintro _ w9 ⟨k9,u9⟩
   rw [Y9 _ _ (by rw [Array.length_toList,hcb];rfl)] at k9
   refine .nil (.inl O) (.ret ?_)
   simp only [Array.toArray_toList] at k8 k9
   refine fin2 (u9.below (u8.below (x4.trans e57) (by omega)) (by omega)) (k8.upd u9 (Ne.symm hne23)) k9 ((hA.upd u8 hS2).upd u9 hS3) ((hB.upd u8 hS2).upd u9 hS3) ?_ ?_ O rfl
   ·unfold pn;rw [if_neg h1]
   ·unfold pd;rw [if_neg h0,if_neg h1]
def shortB (q:QV):Bool:=decide (-2147483648<zval q.num/\zval q.num<2147483648 /\ -2147483648<zval q.den/\zval q.den<2147483648)
def shortV (q:QV):Value:=if shortB q then .tuple #[.int .i64 (pn q),.int .i64 (pd q),.bool true] else .tuple #[.int .i64 0,.int .i64 0,.bool false]
theorem D2:Ent Tryz.prog 59:=A0 Tryz.func59 (by kernel_rfl) rfl
theorem D0 {S:Nat->Prop} {w:World} {v:Value} {q:QV} (h:eQ.R S w v q):CR Tryz.prog 59 #[v] w (Is (shortV q)):=by
 obtain ⟨s,t,rfl,hn,hd⟩:=R9 h
 refine enter Tryz.func59 O Tryz.ntmps59 O (.sr (.box O O fun w1 b1 n1=>.asg O O (.asg O O (.an O O ?_))))
 obtain ⟨e1,k1,hb1,hs1⟩:=n1
 refine .sr (.fa R7 O O (.ldN [.bool q.num.neg,s] ty_Z rfl rfl k1 (by intro j u hu;match j with | 0=>exact hu | 1=>exact hu | j+2=>simp at hu) (.call _ rfl H7 O (H5 (hn.ext e1)) fun v2 w2 e2 h2=>?_)))
 subst h2
 refine .mv O O (.ext O O O (.ext O O O (.asg O O (.an O O ?_))))
 have x2:=e1.trans e2
 refine .sr (.fa V6 O O (.ldN [.bool q.den.neg,t] ty_Z rfl rfl (k1.ext e2) (by intro j u hu;match j with | 0=>exact hu | 1=>exact hu | j+2=>simp at hu) (.call _ rfl H7 O (H5 (hd.ext x2)) fun v3 w3 e3 h3=>?_)))
 subst h3
 refine .mv O O (.ext O O O (.ext O O O (.asg O O (.an O O ?_))))
 have x3:=x2.trans e3
 have hF:∀ {W:World},shortB q=false->Is (shortV q) (tup [.int .i64 0,.int .i64 0,.bool false]) W:=by
  intro W h;unfold shortV;rw [h];rfl
 refine .seq (.sr (.mv O O (.not_ O O (.mv O O ?_))))
 by_cases hno:i64ok (zval q.num)=true
 ·rw [hno]
  refine .gr O O O O (.mv O O (.gr O O O O (.not_ O O (.pick O O O (.mv O O ?_)))))
  by_cases hdo:i64ok (zval q.den)=true
  ·rw [hdo]
   have en:i64v (zval q.num)=zval q.num:=by rw [i64v,hno];rfl
   have ed:i64v (zval q.den)=zval q.den:=by rw [i64v,hdo];rfl
   rw [en,ed]
   refine .gr O O O O (.mv O O (.gr O O O O ?_))
   by_cases h1:zval q.num <= -2147483648
   ·refine .leqT O O O h1 (.pick O O O (.mv O O (.gs O O O O O (.gs O O O O O (.pick O O O (.mv O O (.gs O O O O O (.gs O O O O O (.pick O O O (.mv O O (.gs O O O O O (.gs O O O O O (.pick O O O (.nil (.condT O (.sr (.asg O O (.asg O O (.an O O (.ret ?_))))))))))))))))))))
    exact .plain [_,_,_] Tryz.results59 ⟨rfl,rfl,rfl,trivial⟩ ⟨x3,hF (by simp [shortB];omega)⟩
   refine .leqF O O O h1 (.pick O O O (.mv O O (.gr O O O O (.mv O O (.gr O O O O ?_)))))
   by_cases h2:2147483648<=zval q.num
   ·refine .geqT O O O h2 (.pick O O O (.mv O O (.gs O O O O O (.gs O O O O O (.pick O O O (.mv O O (.gs O O O O O (.gs O O O O O (.pick O O O (.nil (.condT O (.sr (.asg O O (.asg O O (.an O O (.ret ?_))))))))))))))))
    exact .plain [_,_,_] Tryz.results59 ⟨rfl,rfl,rfl,trivial⟩ ⟨x3,hF (by simp [shortB];omega)⟩
   refine .geqF O O O h2 (.pick O O O (.mv O O (.gr O O O O (.mv O O (.gr O O O O ?_)))))
   by_cases h3:zval q.den <= -2147483648
   ·refine .leqT O O O h3 (.pick O O O (.mv O O (.gs O O O O O (.gs O O O O O (.pick O O O (.nil (.condT O (.sr (.asg O O (.asg O O (.an O O (.ret ?_))))))))))))
    exact .plain [_,_,_] Tryz.results59 ⟨rfl,rfl,rfl,trivial⟩ ⟨x3,hF (by simp [shortB];omega)⟩
   refine .leqF O O O h3 (.pick O O O (.mv O O (.gr O O O O (.mv O O (.gr O O O O ?_)))))
   by_cases h4:2147483648<=zval q.den
   ·refine .geqT O O O h4 (.pick O O O (.nil (.condT O (.sr (.asg O O (.asg O O (.an O O (.ret ?_))))))))
    exact .plain [_,_,_] Tryz.results59 ⟨rfl,rfl,rfl,trivial⟩ ⟨x3,hF (by simp [shortB];omega)⟩
   refine .geqF O O O h4 (.pick O O O (.nil (.condF O (.skip ?_))))
   have hb:shortB q=true:=by simp [shortB];omega
   have hT:∀ {W:World} {m n:Int},m=pn q->n=pd q->Is (shortV q) (tup [.int .i64 m,.int .i64 n,.bool true]) W:=by
    intro W m n hm hn;subst hm;subst hn;unfold shortV;rw [hb];rfl
   refine .mid (α:=Unit) (fun _=>[(2,.int .i64 (pn q)),(3,.int .i64 (pd q))]) (fun _ W=>W=w3) ?_ ?_
   ·refine .block (.sr (.mv O O ?_))
    by_cases h0:zval q.den=0
    ·refine .eqlT O O O h0 (.an O O (.condT O (.region (.an O O ?_))))
     have e1:pn q=zval q.num:=by unfold pn;rw [if_neg (by omega)]
     have e2:pd q=1:=by unfold pd;rw [if_pos h0]
     rw [e1,e2]
     exact ⟨rfl,(),lkA rfl,rfl⟩
    ·refine .eqlF O O O h0 (.an O O (.condF O (.sr (.mv O O ?_))))
     by_cases h5:zval q.den<0
     ·refine .lssT O O O h5 (.an O O (.condT O (.region (.mv O O (.neg O O (.mv O O (.neg O O (.asg O O (.an O O ?_))))))))) 
      have e1:pn q = -zval q.num:=by unfold pn;rw [if_pos h5]
      have e2:pd q = -zval q.den:=by unfold pd;rw [if_neg h0,if_pos h5]
      rw [e1,e2,wI (n:=0-zval q.num) (by omega),wI (n:=0-zval q.den) (by omega),Int.zero_sub,Int.zero_sub]
      exact ⟨rfl,(),lkA rfl,rfl⟩
     ·refine .lssF O O O h5 (.an O O (.condF O (.skip ?_)))
      have e1:pn q=zval q.num:=by unfold pn;rw [if_neg h5]
      have e2:pd q=zval q.den:=by unfold pd;rw [if_neg h0,if_neg h5]
      rw [e1,e2]
      exact ⟨rfl,(),lkA rfl,rfl⟩
   ·rintro _ _ rfl
    refine .sr (.mv O O (.mv O O (.asg O O (.asg O O (.an O O (.ret ?_))))))
    exact .plain [_,_,_] Tryz.results59 ⟨rfl,rfl,rfl,trivial⟩ ⟨x3,hT O rfl⟩
  ·have hdo':i64ok (zval q.den)=false:=by simpa using hdo
   rw [hdo']
   refine .gs O O O O O (.gs O O O O O (.pick O O O (.mv O O (.gs O O O O O (.gs O O O O O (.pick O O O (.mv O O (.gs O O O O O (.gs O O O O O (.pick O O O (.mv O O (.gs O O O O O (.gs O O O O O (.pick O O O (.nil (.condT O (.sr (.asg O O (.asg O O (.an O O (.ret ?_)))))))))))))))))))))
   exact .plain [_,_,_] Tryz.results59 ⟨rfl,rfl,rfl,trivial⟩ ⟨x3,hF (by simp [i64ok] at hdo';simp [shortB];omega)⟩
 ·have hno':i64ok (zval q.num)=false:=by simpa using hno
  rw [hno']
  refine .gs O O O O O (.gs O O O O O (.pick O O O (.mv O O (.gs O O O O O (.gs O O O O O (.pick O O O (.mv O O (.gs O O O O O (.gs O O O O O (.pick O O O (.mv O O (.gs O O O O O (.gs O O O O O (.pick O O O (.mv O O (.gs O O O O O (.gs O O O O O (.pick O O O (.nil (.condT O (.sr (.asg O O (.asg O O (.an O O (.ret ?_)))))))))))))))))))))))))
  exact .plain [_,_,_] Tryz.results59 ⟨rfl,rfl,rfl,trivial⟩ ⟨x3,hF (by simp [i64ok] at hno';simp [shortB];omega)⟩
theorem Ak9 {n g:Int} (h:g∣n):n.tdiv g=n / g:=Int.tdiv_eq_ediv_of_dvd h
theorem T9 (n g:Int):(n / g).natAbs<=n.natAbs:=Int.natAbs_ediv_le_natAbs n g
theorem K1:Ent Tryz.prog 60:=A0 Tryz.func60 (by kernel_rfl) rfl
theorem J8 {S:Nat->Prop} {w:World} {n d:Int} (up:Up S w) (hd:0<d) (hd2:d<=9223372036854775807) (hn1 : -9223372036854775807<=n) (hn2:n<=9223372036854775807) :
  CR Tryz.prog 60 #[.int .i64 n,.int .i64 d] w (eQ.at S (qc (Rat.divInt n d))):=by
 have hdvd1:((Nat.gcd n.natAbs d.natAbs:Nat):Int)∣n:=Int.ofNat_dvd_left.2 (Nat.gcd_dvd_left _ _)
 have hdvd2:((Nat.gcd n.natAbs d.natAbs:Nat):Int)∣d:=Int.ofNat_dvd_left.2 (Nat.gcd_dvd_right _ _)
 have hG0:0<Nat.gcd n.natAbs d.natAbs:=Nat.gcd_pos_of_pos_right _ (by omega)
 have hGd:Nat.gcd n.natAbs d.natAbs<=d.natAbs:=Nat.gcd_le_right _ (by omega)
 have hqc:=Ac3 (n:=n) hd
 refine enter Tryz.func60 O Tryz.ntmps60 O ?_
 refine .sr (.alloc O D3 fun w1 b1 n1=>.nil ?_)
 obtain ⟨e1,k1,hb1,hs1⟩:=n1
 have hS:¬ Sx S w.heap.size w1.heap.size b1:=Sx.no (by omega) (by omega)
 have up1:Up (Sx S w.heap.size w1.heap.size) w1:=Sx.up up (Nat.le_refl _) e1.size
 have hout:∀ {W:World} {v:Value} {z:QV},eQ.R (Sx S w.heap.size w1.heap.size) W v z->eQ.R S W v z:=fun h=>h.out
 generalize hT:Sx S w.heap.size w1.heap.size=T at *
 refine .sr (.mv O O (.mv O O (.asg O O (.an O O ?_))))
 refine .mid (α:=Int) (fun m=>[(0,.int .i64 n),(1,.int .i64 d),(4,.pointer (some ⟨b1,0,none⟩)),(5,.int .i64 m)]) (fun m W=>Ext w1 W/\m.natAbs=Nat.gcd n.natAbs d.natAbs) ?_ ?_
 ·refine .block (.loop (α:=Int×Int) (fun x=>[(0,.int .i64 n),(1,.int .i64 d),(4,.pointer (some ⟨b1,0,none⟩)),(5,.int .i64 x.1),(6,.int .i64 x.2)]) (fun x W=>Ext w1 W/\Nat.gcd x.1.natAbs x.2.natAbs=Nat.gcd n.natAbs d.natAbs) (fun x=>x.2.natAbs) (n,d) ?_ ?_ ?_)
  ·exact lkA rfl
  ·exact ⟨.refl _,rfl⟩
  ·rintro ⟨p,q⟩ W ⟨hW,hg⟩
   replace hg:Nat.gcd p.natAbs q.natAbs=Nat.gcd n.natAbs d.natAbs:=hg
   by_cases hq:q=0
   ·subst hq
    refine .seq (.sr (.mv O O (.neqF O O O O (.nil (.condF O (.exit ?_))))))
    refine ⟨rfl,p,lkA rfl,hW,?_⟩
    rw [<-hg];simp
   ·refine .seq (.sr (.mv O O (.neqT O O O hq (.nil (.condT O (.skip (.block ?_)))))))
    refine .par follows 5 [.inl (.int .i64 q),.inl (.int .i64 p),.inl (.int .i64 q),.inl (.int .i64 (p.tmod q)),.inl (.int .i64 q)] [[],[],[],[(12,1),(13,2)],[(11,0)]] (by kernel_rfl) ⟨
     fun w e=>(v_mv O).ob,
     fun w e=>(v_mv O).ob,
     fun w e=>(v_mv O).ob,
     fun w e=>(Ab7 O O hq).ob,
     fun w e=>(v_as O).ob,trivial⟩ ?_
    intro w2 e2
    refine .an O O ?_
    have hmod:(p.tmod q).natAbs=p.natAbs % q.natAbs:=Int.natAbs_tmod p q
    refine ⟨rfl,(q,p.tmod q),lkA rfl,⟨hW.trans e2,?_⟩,?_⟩
    ·show Nat.gcd q.natAbs (p.tmod q).natAbs=_
     rw [hmod,<-hg,Nat.gcd_comm p.natAbs,Nat.gcd_rec q.natAbs p.natAbs,Nat.gcd_comm]
    ·show (p.tmod q).natAbs<q.natAbs
     rw [hmod];exact Nat.mod_lt _ (by omega)
 ·rintro m W ⟨hW,hm⟩
  generalize hG:Nat.gcd n.natAbs d.natAbs=G at *
  refine .mid (α:=Unit) (fun _=>[(0,.int .i64 n),(1,.int .i64 d),(4,.pointer (some ⟨b1,0,none⟩)),(5,.int .i64 (G:Nat))]) (fun _ W'=>W'=W) ?_ ?_
  ·refine .sr (.mv O O ?_)
   by_cases h0:m<0
   ·refine .lssT O O O h0 (.nil (.condT O (.region (.mv O O (.neg O O ?_)))))
    rw [wI (n:=0-m) (by omega),show 0-m=(G:Int) by omega]
    exact .an O O ⟨rfl,(),lkA rfl,rfl⟩
   ·refine .lssF O O O h0 (.nil (.condF O (.skip ?_)))
    have:m=(G:Int):=by omega
    subst this
    exact ⟨rfl,(),lkA rfl,rfl⟩
  ·rintro _ _ rfl
   have upW:=up1.ext hW.size
   have kW:=k1.ext hW
   have hr1:IntKind.i64.wrap (n.tdiv (G:Int))=n / (G:Int):=by
    rw [Ak9 hdvd1]
    have:=T9 n G
    exact wI (by omega)
   have hr2:IntKind.i64.wrap (d.tdiv (G:Int))=d / (G:Int):=by
    rw [Ak9 hdvd2]
    have:=T9 d G
    exact wI (by omega)
   have hb1:=T9 n G
   have hb2:=T9 d G
   have hdG:G*(d / (G:Int))=d:=Int.mul_ediv_cancel' hdvd2
   refine .seq (.sr (.mv O O (.mv O O ?_)))
   by_cases hGd':(G:Int)=d
   ·refine .eqlT O O O hGd' (.nil (.condT O (.sr (.mv O O (.mv O O (.quo O O O (by omega) ?_))))))
    rw [hr1]
    refine .call _ O C6 O (C5 upW (by omega) (by omega)) fun v2 w2 e2 h2=>?_
    obtain ⟨s,rfl,hs⟩:=h2
    refine .bld _ O O At9 ?_
    have hq:eQ.R T w2 (.agg #[.bool (zc (n / (G:Int))).neg,s,.bool false,.slice none 0 0]) (qc (Rat.divInt n d)):=by
     rw [hqc,if_pos (by rw [hGd'];exact Int.ediv_self (by omega))]
     exact ⟨s,_,rfl,hs,RL.nil⟩
    refine .storeA (E:=eQ) ty_Q O O (kW.ext e2) O O hq hS fun w3 k3 u3 h3=>.nil (.ret ?_)
    exact .cell Tryz.results60 O ty_Q O O k3 h3 ⟨u3.below ((e1.trans hW).trans e2) (by omega),hout h3⟩
   ·refine .eqlF O O O hGd' (.nil (.condF O (.skip (.seq ?_))))
    have hne1:¬ d / (G:Int)=1:=fun h=>hGd' (by rw [h,Int.mul_one] at hdG;exact hdG)
    refine .par follows 9 [.inl _,.inl _,.inl (.int .i64 (n / (G:Int))),.inr (eZ.at T (zc (n / (G:Int)))),.inl _,.inl _,.inl (.int .i64 (d / (G:Int))),.inr (eZ.at T (zc (d / (G:Int)))),.inr (eQ.at T (qc (Rat.divInt n d)))] [[],[],[(27,0),(28,1)],[(29,2)],[],[],[(31,4),(32,5)],[(33,6)],[(30,3),(34,7)]] (by kernel_rfl) ⟨
     fun w e=>(v_mv O).ob,
     fun w e=>(v_mv O).ob,
     fun w e=>((Ab8 O O (by omega)).eq (by rw [hr1])).ob,
     fun w e=>(A5 _ C6 O (C5 (upW.ext e.size) (by omega) (by omega))).ob (A9 _ _ _),
     fun w e=>(v_mv O).ob,
     fun w e=>(v_mv O).ob,
     fun w e=>((Ab8 O O (by omega)).eq (by rw [hr2])).ob,
     fun w e=>(A5 _ C6 O (C5 (upW.ext e.size) (by omega) (by omega))).ob (A9 _ _ _),
     fun w e x3 hx3 x7 hx7=>by
      obtain ⟨s,rfl,hs⟩:=hx3
      obtain ⟨t,rfl,ht⟩:=hx7
      refine L7 (Ak3 _ O Ah3) ?_ (A9 _ _ _)
      rw [hqc,if_neg hne1]
      exact ⟨s,t,rfl,hs,ht⟩,trivial⟩ ?_
    intro w2 e2 x3 hx3 x7 hx7 x8 hx8
    refine .storeA (E:=eQ) ty_Q O O (kW.ext e2) O O hx8 hS fun w3 k3 u3 h3=>.nil (.ret ?_)
    exact .cell Tryz.results60 O ty_Q O O k3 h3 ⟨u3.below ((e1.trans hW).trans e2) (by omega),hout h3⟩
theorem Ap7 {m n:Int} (hn:n≠0):zval (zc ((Nat.gcd m.natAbs n.natAbs:Nat):Int))≠0:=by
 rw [H9]
 have:=Nat.gcd_pos_of_pos_right m.natAbs (show 0<n.natAbs by omega)
 omega
theorem X3:Ent Tryz.prog 105:=A0 Tryz.func105 (by kernel_rfl) rfl
theorem V5 {S T0:Nat->Prop} {w:World} {vm vn:Value} {m n:Int} {L:Nat} (up:Up S w) (upo:Up T0 w) (hm:Zv S m L vm w) (hn:Zv S n L vn w) (hn0:n≠0) (hL:L<=1000000000000) :
  CR Tryz.prog 105 #[vm,vn] w (eQ.at T0 (qc (Rat.divInt m n))):=by
 replace hm:(eZn L).R S w vm m:=hm
 replace hn:(eZn L).R S w vn n:=hn
 refine enter Tryz.func105 O Tryz.ntmps105 O ?_
 refine .sr (.box O O fun w1 b2 n1=>.box O O fun w2 b3 n2=>.alloc O D3 fun w3 b4 n3=>.nil ?_)
 obtain ⟨e1,k2,hb2,hs1⟩:=n1
 obtain ⟨e2,k3,hb3,hs2⟩:=n2
 obtain ⟨e3,k4,hb4,hs3⟩:=n3
 have x3:=(e1.trans e2).trans e3
 have k2:=(k2.ext e2).ext e3
 have k3:=k3.ext e3
 have hS2:¬ Sx S w.heap.size w3.heap.size b2:=Sx.no (by omega) (by omega)
 have hS3:¬ Sx S w.heap.size w3.heap.size b3:=Sx.no (by omega) (by omega)
 have hS4:¬ Sx S w.heap.size w3.heap.size b4:=Sx.no (by omega) (by omega)
 have up3:Up (Sx S w.heap.size w3.heap.size) w3:=Sx.up up (Nat.le_refl _) x3.size
 have hm3:=(hm.par w3.heap.size).ext x3
 have hn3:=(hn.par w3.heap.size).ext x3
 have hU2:¬ Sx T0 w.heap.size w3.heap.size b2:=Sx.no (by omega) (by omega)
 have hU3:¬ Sx T0 w.heap.size w3.heap.size b3:=Sx.no (by omega) (by omega)
 have hU4:¬ Sx T0 w.heap.size w3.heap.size b4:=Sx.no (by omega) (by omega)
 have upo3:Up (Sx T0 w.heap.size w3.heap.size) w3:=Sx.up upo (Nat.le_refl _) x3.size
 have hout:∀ {W:World} {v:Value} {z:QV},eQ.R (Sx T0 w.heap.size w3.heap.size) W v z->eQ.R T0 W v z:=fun h=>h.out
 have hne32:b3≠b2:=by omega
 have hne42:b4≠b2:=by omega
 have hne43:b4≠b3:=by omega
 have hw2:w.heap.size<=b2:=by omega
 have hw3:w.heap.size<=b3:=by omega
 have hw4:w.heap.size<=b4:=by omega
 have hc2:b2<w3.heap.size:=by omega
 have hc3:b3<w3.heap.size:=by omega
 have hc4:b4<w3.heap.size:=by omega
 clear hb2 hb3 hb4
 generalize hT:Sx S w.heap.size w3.heap.size=T at *
 generalize hU:Sx T0 w.heap.size w3.heap.size=U at *
 refine .mid (α:=(Value×Int)×(Value×Int)) (fun _=>[(2,.pointer (some ⟨b2,0,none⟩)),(3,.pointer (some ⟨b3,0,none⟩)),(4,.pointer (some ⟨b4,0,none⟩))])
  (fun x W=>Below w.heap.size w W/\w3.heap.size<=W.heap.size/\Blk W b2 37 x.1.1.cells/\Blk W b3 37 x.2.1.cells/\Blk W b4 39 #[.bool false,.slice none 0 0,.bool false,.slice none 0 0]/\(eZn L).R T W x.1.1 x.1.2/\(eZn L).R T W x.2.1 x.2.2/\0<x.2.2/\Rat.divInt x.1.2 x.2.2=Rat.divInt m n) ?_ ?_
 ·obtain ⟨zn,hzn,hznv,hznl⟩:=hn3
  obtain ⟨zm,hzm,hzmv,hzml⟩:=hm3
  have hvn:=shpA O hzn
  have hvm:=shpA O hzm
  refine .sr (.ldA ty_Z O O k3 (eZ.csz hzn) ?_)
  rw [<-hvn]
  refine .call _ O F8 O (F7 hzn) fun v4 w4 e4 h4=>?_
  subst h4
  rw [hznv]
  have x4:=x3.trans e4
  have k2:=k2.ext e4
  have k3:=k3.ext e4
  have k4:=k4.ext e4
  have up4:=up3.ext e4.size
  have hzn4:=hzn.ext e4
  have hzm4:=hzm.ext e4
  have hdn:=AP8 hzn
  have hdm:=AP8 hzm
  by_cases h0:n<0
  ·refine .lssT O O O (by rw [Int.sign_eq_neg_one_of_neg h0];decide) (.nil (.condT O ?_))
   refine .par follows 4 [.inl vm,.inr (eZ.at T (zc (-zval zm))),.inl vn,.inr (eZ.at T (zc (-zval zn)))] [[],[(11,0)],[],[(13,2)]] (by kernel_rfl) ⟨
    fun w e=>((C7 ty_Z O (k2.ext e) (eZ.csz hzm)).eq hvm.symm).ob,
    fun w e=>(A5 _ P7 O (P1 (up4.ext e.size) (hzm4.ext e) (by omega))).ob (A9 _ _ _),
    fun w e=>((C7 ty_Z O (k3.ext e) (eZ.csz hzn)).eq hvn.symm).ob,
    fun w e=>(A5 _ P7 O (P1 (up4.ext e.size) (hzn4.ext e) (by omega))).ob (A9 _ _ _),trivial⟩ ?_
   intro w5 e5 x1 hx1 x3' hx3
   have hA:(eZn L).R T w5 x1 (-m):=by rw [<-hzmv];exact Zv.of hx1 (by have:=S3 hdm hzml;omega)
   have hB:(eZn L).R T w5 x3' (-n):=by rw [<-hznv];exact Zv.of hx3 (by have:=S3 hdn hznl;omega)
   refine .storeA (E:=eZn L) ty_Z O O (k2.ext e5) O (eZ.csz hzm) hA hS2 fun w6 k6 u6 h6=>?_
   refine .storeA (E:=eZn L) ty_Z O O ((k3.ext e5).upd u6 hne32) O (eZ.csz hzn) (hB.upd u6 hS2) hS3 fun w7 k7 u7 h7=>.nil ?_
   refine ⟨rfl,((x1,-m),(x3',-n)),lkA rfl,u7.below (u6.below (x4.trans e5) hw2) hw3,?_,k6.upd u7 (Ne.symm hne32),k7,((k4.ext e5).upd u6 hne42).upd u7 hne43,h6.upd u7 hS3,h7,by show 0 < -n;omega,Rat.neg_divInt_neg m n⟩
   rw [u7.size,u6.size];exact (e4.trans e5).size
  ·refine .lssF O O O (by rw [Int.sign_eq_one_of_pos (by omega)];decide) (.nil (.condF O (.skip ?_)))
   exact ⟨rfl,((vm,m),(vn,n)),lkA rfl,x4,e4.size,k2,k3,k4,⟨zm,hzm4,hzmv,hzml⟩,⟨zn,hzn4,hznv,hznl⟩,by show 0<n;omega,rfl⟩
 ·rintro ⟨⟨um,m'⟩,⟨un,n'⟩⟩ W ⟨hB,hsz,k2,k3,k4,hm,hn,hpos,hdiv⟩
  replace hm:(eZn L).R T W um m':=hm
  replace hn:(eZn L).R T W un n':=hn
  replace hpos:0<n':=hpos
  replace hdiv:Rat.divInt m' n'=Rat.divInt m n:=hdiv
  rw [<-hdiv]
  replace k2:Blk W b2 37 um.cells:=k2
  replace k3:Blk W b3 37 un.cells:=k3
  have upW:=up3.ext hsz
  have upoW:=upo3.ext hsz
  obtain ⟨zn,hzn,hznv,hznl⟩:=hn
  obtain ⟨zm,hzm,hzmv,hzml⟩:=hm
  have hvn:=shpA O hzn
  have hvm:=shpA O hzm
  have hdn:=AP8 hzn
  have hdm:=AP8 hzm
  refine .sr (.ldA ty_Z O O k2 (eZ.csz hzm) (.ldA ty_Z O O k3 (eZ.csz hzn) ?_))
  rw [<-hvn,<-hvm]
  refine .call _ O Ao7 O (Aj4 upW hzm hzn (by omega) (by omega)) fun vg w5 e5 h5=>?_
  have hgv:Nat.gcd (val zm.w) (val zn.w)=Nat.gcd m'.natAbs n'.natAbs:=by rw [<-AB4,<-AB4,hzmv,hznv]
  rw [hgv] at h5
  have hgl:(zc ((Nat.gcd m'.natAbs n'.natAbs:Nat):Int)).w.length<=L:=by
   refine AB5 ?_
   have h1:=Nat.gcd_le_right m'.natAbs (show 0<n'.natAbs by omega)
   have h2:=S3 hdn hznl
   rw [hznv] at h2
   simp only [Int.natAbs_natCast]
   omega
  refine .alloc O C9 fun w6 b5 n6=>?_
  obtain ⟨e6,k6,hb5,hs6⟩:=n6
  have e56:=e5.trans e6
  have hS5':¬ Sx T w5.heap.size w6.heap.size b5:=Sx.no (by omega) (by omega)
  have h5':=(h5.par w6.heap.size).ext e6
  have hzm6:=((hzm.ext e5).par w6.heap.size).ext e6
  have hzn6:=((hzn.ext e5).par w6.heap.size).ext e6
  have hS2':¬ Sx T w5.heap.size w6.heap.size b2:=fun h=>hS2 h.1
  have hS3':¬ Sx T w5.heap.size w6.heap.size b3:=fun h=>hS3 h.1
  have hU2':¬ Sx U w5.heap.size w6.heap.size b2:=fun h=>hU2 h.1
  have hU3':¬ Sx U w5.heap.size w6.heap.size b3:=fun h=>hU3 h.1
  have hU4':¬ Sx U w5.heap.size w6.heap.size b4:=fun h=>hU4 h.1
  have upo6:Up (Sx U w5.heap.size w6.heap.size) w6:=Sx.up (upoW.ext e5.size) (Nat.le_refl _) e6.size
  have hout':∀ {W:World} {v:Value} {z:QV},eQ.R (Sx U w5.heap.size w6.heap.size) W v z->eQ.R T0 W v z:=fun h=>hout h.out
  have up6:Up (Sx T w5.heap.size w6.heap.size) w6:=Sx.up (upW.ext e5.size) (Nat.le_refl _) e6.size
  have hB6:Below w.heap.size w w6:=hB.trans (e56.mono hB.size)
  have hn52:b5≠b2:=by have:=e5.size;omega
  have hn53:b5≠b3:=by have:=e5.size;omega
  have hn54:b5≠b4:=by have:=e5.size;omega
  have hw5:w.heap.size<=b5:=by have:=hB.size;have:=e5.size;omega
  generalize hT2:Sx T w5.heap.size w6.heap.size=T2 at *
  generalize hUU:Sx U w5.heap.size w6.heap.size=U2 at *
  refine .storeA ty_Z O O k6 O O h5' hS5' fun w7 k7 u7 h7=>.nil ?_
  have up7:Up T2 w7:=up6.ext (by rw [u7.size];exact Nat.le_refl _)
  have upo7:Up U2 w7:=upo6.ext (by rw [u7.size];exact Nat.le_refl _)
  have hB7:=u7.below hB6 hw5
  have hzm7:=hzm6.upd u7 hS5'
  have hzn7:=hzn6.upd u7 hS5'
  have k2:=(k2.ext e56).upd u7 (Ne.symm hn52)
  have k3:=(k3.ext e56).upd u7 (Ne.symm hn53)
  have k4:=(k4.ext e56).upd u7 (Ne.symm hn54)
  have hvg:=shpA O h7
  have hg0:=Ap7 (m:=m') (n:=n') (by omega)
  generalize hG:Nat.gcd m'.natAbs n'.natAbs=G at *
  refine .sr (.ldA ty_Z O O k2 (eZ.csz hzm) (.ldA ty_Z O O k7 (eZ.csz h7) ?_))
  rw [<-hvm,<-hvg]
  refine .call _ O AD5 O (AB6 up7 upo7 hzm7 h7 (by omega) (by omega) hg0) fun v8 w8 e8 h8=>?_
  obtain ⟨qm,rm,_,rfl,hqm,_,rfl⟩:=h8
  refine .mv O O (.ext O O O (.ext O O O (.ext O O O ?_)))
  rw [hzmv,H9] at hqm
  refine .storeA (E:=eZ) ty_Z O O (k2.ext e8) O (eZ.csz hzm) hqm hU2' fun w9 k9 u9 h9=>.nil ?_
  have up9:Up T2 w9:=(up7.ext e8.size).ext (by rw [u9.size];exact Nat.le_refl _)
  have upo9:Up U2 w9:=(upo7.ext e8.size).ext (by rw [u9.size];exact Nat.le_refl _)
  have hB9:Below w.heap.size w w9:=u9.below (hB7.trans (e8.mono hB7.size)) hw2
  have k3:=(k3.ext e8).upd u9 hne32
  have k5:=(k7.ext e8).upd u9 hn52
  have k4:=(k4.ext e8).upd u9 hne42
  have hg9:=(h7.ext e8).upd u9 hS2'
  have hzn9:=(hzn7.ext e8).upd u9 hS2'
  refine .sr (.ldA ty_Z O O k3 (eZ.csz hzn) (.ldA ty_Z O O k5 (eZ.csz h7) ?_))
  rw [<-hvn,<-hvg]
  refine .call _ O AD5 O (AB6 up9 upo9 hzn9 hg9 (by omega) (by omega) hg0) fun v10 w10 e10 h10=>?_
  obtain ⟨qn,rn,_,rfl,hqn,_,rfl⟩:=h10
  refine .mv O O (.ext O O O (.ext O O O (.ext O O O ?_)))
  rw [hznv,H9] at hqn
  refine .storeA (E:=eZ) ty_Z O O (k3.ext e10) O (eZ.csz hzn) hqn hU3' fun w11 k11 u11 h11=>.nil ?_
  have hB11:Below w.heap.size w w11:=u11.below (hB9.trans (e10.mono hB9.size)) hw3
  have k9:=(k9.ext e10).upd u11 (Ne.symm hne32)
  have k4:=(k4.ext e10).upd u11 hne43
  have h9:=(h9.ext e10).upd u11 hU3'
  have hqc:=Ac3 (n:=m') hpos
  rw [hG] at hqc
  have hvqm:=shpA O h9
  have hvqn:=shpA O h11
  refine .mid (α:=Value) (fun _=>[(2,.pointer (some ⟨b2,0,none⟩)),(3,.pointer (some ⟨b3,0,none⟩)),(4,.pointer (some ⟨b4,0,none⟩))])
   (fun x W=>Below w.heap.size w W/\Blk W b2 37 qm.cells/\Blk W b3 37 x.cells/\Blk W b4 39 #[.bool false,.slice none 0 0,.bool false,.slice none 0 0]/\eZ.R U2 W qm (zc (m' / (G:Int)))/\eZ.R U2 W x (if n' / (G:Int)=1 then ⟨false,[]⟩ else zc (n' / (G:Int)))) ?_ ?_
  ·refine .sr (.ldA ty_Z O O k11 (eZ.csz h11) ?_)
   rw [<-hvqn]
   refine .call _ O H7 O (H5 h11) fun v12 w12 e12 h12=>?_
   subst h12
   refine .mv O O (.ext O O O (.ext O O O (.asg O O (.an O O ?_))))
   rw [H9]
   have hB12:Below w.heap.size w w12:=hB11.trans (e12.mono hB11.size)
   refine .sr (.mv O O (.mv O O ?_))
   have hno:∀ {σ:Env},(∀ t v,Kx.look [(2,.pointer (some ⟨b2,0,none⟩)),(3,.pointer (some ⟨b3,0,none⟩)),(4,.pointer (some ⟨b4,0,none⟩))] t=some v->Kx.look σ t=some v)->n' / (G:Int)≠1->(([]:List Deferred)=[]/\∃ x:Value,(∀ t v,Kx.look [(2,.pointer (some ⟨b2,0,none⟩)),(3,.pointer (some ⟨b3,0,none⟩)),(4,.pointer (some ⟨b4,0,none⟩))] t=some v->Kx.look σ t=some v) /\
     Below w.heap.size w w12/\Blk w12 b2 37 qm.cells/\Blk w12 b3 37 x.cells/\Blk w12 b4 39 #[.bool false,.slice none 0 0,.bool false,.slice none 0 0]/\eZ.R U2 w12 qm (zc (m' / (G:Int)))/\eZ.R U2 w12 x (if n' / (G:Int)=1 then ⟨false,[]⟩ else zc (n' / (G:Int)))):=by
    intro σ hσ h1
    refine ⟨rfl,qn,hσ,hB12,k9.ext e12,k11.ext e12,k4.ext e12,h9.ext e12,?_⟩
    rw [if_neg h1];exact h11.ext e12
   cases hok:i64ok (n' / (G:Int)) with
   | false =>
    refine .gs O O O O O (.gs O O O O O (.pick O O O (.nil (.condF O (.skip (hno (lkA O) ?_))))))
    intro h;rw [h] at hok;simp [i64ok] at hok
   | true =>
    have ev':i64v (n' / (G:Int))=n' / (G:Int):=by rw [i64v,hok];rfl
    rw [ev']
    by_cases h1:n' / (G:Int)=1
    ·refine .gr O O O O (.mv O O (.gr O O O O (.eqlT O O O h1 (.pick O O O (.nil (.condT O (.region (.bld _ O O At8 ?_))))))))
     have hz:eZ.R U2 w12 (.agg #[.bool false,.slice none 0 0]) ⟨false,[]⟩:=⟨_,rfl,RL.nil⟩
     refine .storeA (E:=eZ) ty_Z O O (k11.ext e12) O (eZ.csz h11) hz hU3' fun w13 k13 u13 h13=>.nil ?_
     refine ⟨rfl,_,lkA rfl,u13.below hB12 hw3,(k9.ext e12).upd u13 (Ne.symm hne32),k13,(k4.ext e12).upd u13 hne43,(h9.ext e12).upd u13 hU3',?_⟩
     rw [if_pos h1];exact h13
    ·refine .gr O O O O (.mv O O (.gr O O O O (.eqlF O O O h1 (.pick O O O (.nil (.condF O (.skip (hno (lkA O) h1)))))))) 
  ·rintro x W ⟨hB12,k2,k3,k4,hA,hC⟩
   obtain ⟨s,rfl,hs⟩:=hA
   obtain ⟨t,rfl,ht⟩:=hC
   refine .sr (.ldA ty_Z O O k2 O (.ldA ty_Z O O k3 O (.bld _ O O Ah3 ?_)))
   have hq:eQ.R U2 W (.agg #[.bool (zc (m' / (G:Int))).neg,s,.bool (if n' / (G:Int)=1 then (⟨false,[]⟩:ZV) else zc (n' / (G:Int))).neg,t]) (qc (Rat.divInt m' n')):=by
    rw [hqc]
    exact ⟨s,t,rfl,hs,ht⟩
   refine .storeA (E:=eQ) ty_Q O O k4 O O hq hU4' fun w13 k13 u13 h13=>.nil (.ret ?_)
   exact .cell Tryz.results105 O ty_Q O O k13 h13 ⟨u13.below hB12 hw4,hout' h13⟩
theorem Aa7 {S:Nat->Prop} {w:World} {vm vn:Value} {m n:Int} {L:Nat} (up:Up S w) (hm:Zv S m L vm w) (hn:Zv S n L vn w) (hn0:n≠0) (hL:L<=1000000000000) :
  CR Tryz.prog 105 #[vm,vn] w (eQ.at S (qc (Rat.divInt m n))):=V5 up up hm hn hn0 hL
theorem Ak5:Tryz.prog.underlying 146=some (.map 5 145):=by kernel_rfl
theorem Ah2 {f:FuncId}:bldOf Tryz.prog 145 [(0,.func (.func f) #[] #[])]=some #[.func (.func f) #[] #[]]:=by kernel_rfl
theorem prt_op {f:FuncId}:prtOf Tryz.prog 145 #[.func (.func f) #[] #[]] 0=some (.func (.func f) #[] #[]):=by kernel_rfl
abbrev opE (k:Int) (f c:Nat):MapEntry:={ key:=.int .u8 k,val:=.agg #[.func (.func f) #[] #[]],born:=c }
def opTab:Array MapEntry:=#[opE 43 156 0,opE 45 158 1,opE 42 160 2,opE 47 161 3]
@[reducible] def IsTab:Value->World->Prop:=fun v w=>∃ r,v=.map (some r)/\MapAt w r opTab 4
theorem st_tab:St IsTab:=fun _ _ _ e ⟨r,h1,h2⟩=>⟨r,h1,h2.ext e⟩
theorem AN3:Ent Tryz.prog 106:=A0 Tryz.func106 (by kernel_rfl) rfl
theorem AL1 {w:World}:CR Tryz.prog 106 #[] w IsTab:=by
 refine enter Tryz.func106 O Tryz.ntmps106 O (.sr (.an O O (.sr (.gv O O g_mkmap ?_))))
 rintro _ w1 ⟨rfl,e1,m1⟩
 refine .bld _ O O Ah2 (.gv O O (Ax9 Ak5 AJ0 O O O m1 O) ?_)
 rintro _ _ rfl
 have m2:=m1.put (es':=#[].push (opE 43 156 0)) (c':=1)
 have x2:=AE5 (o:=.map (#[].push (opE 43 156 0)) 1) e1 (Nat.le_refl _)
 refine .bld _ O O Ah2 (.gv O O (Ax9 Ak5 AJ0 O O O m2 O) ?_)
 rintro _ _ rfl
 have m3:=m2.put (es':=(#[].push (opE 43 156 0)).push (opE 45 158 1)) (c':=2)
 have x3:=AE5 (o:=.map ((#[].push (opE 43 156 0)).push (opE 45 158 1)) 2) x2 (Nat.le_refl _)
 refine .bld _ O O Ah2 (.gv O O (Ax9 Ak5 AJ0 O O O m3 O) ?_)
 rintro _ _ rfl
 have m4:=m3.put (es':=((#[].push (opE 43 156 0)).push (opE 45 158 1)).push (opE 42 160 2)) (c':=3)
 have x4:=AE5 (o:=.map (((#[].push (opE 43 156 0)).push (opE 45 158 1)).push (opE 42 160 2)) 3) x3 (Nat.le_refl _)
 refine .bld _ O O Ah2 (.gv O O (Ax9 Ak5 AJ0 O O O m4 O) ?_)
 rintro _ _ rfl
 have m5:=m4.put (es':=opTab) (c':=4)
 have x5:=AE5 (o:=.map opTab 4) x4 (Nat.le_refl _)
 refine .mv O O (.an O O (.ret ?_))
 exact .plain [_] Tryz.results106 ⟨rfl,trivial⟩ ⟨x5,_,rfl,m5⟩
theorem E4:Ent Tryz.prog 61:=A0 Tryz.func61 (by kernel_rfl) rfl
theorem J9 {S T0:Nat->Prop} {w:World} {va vb:Value} {a b:QV} {L:Nat} {k:Int} {i:Nat} {f:FuncId} {N D:Int} (up:Up S w) (upo:Up T0 w) (ha:eQ.R S w va a) (hb:eQ.R S w vb b) (hla:qok L a) (hlb:qok L b) (hL:1<=L) (hL2:L<=100000000000)
  (hE:Ent Tryz.prog f) (hf:Instr.findNow (.int .u8) (.int .u8 k) opTab.toList 0=some (some (i,.agg #[.func (.func f) #[] #[]])))
  (hop:∀ {T:Nat->Prop} {W:World} {u1 u2 u3 u4:Value},Up T W->Zv T (pn a) L u1 W->Zv T (pd a) L u2 W->Zv T (pn b) L u3 W->Zv T (pd b) L u4 W->CR Tryz.prog f #[u1,u2,u3,u4] W (Two (Zv T N (2*L+1)) (Zv T D (2*L+1)))) (hD:D≠0) :
  CR Tryz.prog 61 #[.int .u8 k,va,vb] w (eQ.at T0 (qc (Rat.divInt N D))):=by
 have hva:=shpA O ha
 have hvb:=shpA O hb
 refine enter Tryz.func61 O Tryz.ntmps61 O ?_
 refine .sr (.box O O fun w1 b4 n1=>.box O O fun w2 b5 n2=>.alloc O D3 fun w3 b6 n3=>.nil ?_)
 obtain ⟨e1,k4,hb4,hs1⟩:=n1
 obtain ⟨e2,k5,hb5,hs2⟩:=n2
 obtain ⟨e3,k6,hb6,hs3⟩:=n3
 have x3:=(e1.trans e2).trans e3
 have k4:=(k4.ext e2).ext e3
 have k5:=k5.ext e3
 have hU6:¬ Sx T0 w.heap.size w3.heap.size b6:=Sx.no (by omega) (by omega)
 have hS5:¬ Sx S w.heap.size w3.heap.size b5:=Sx.no (by omega) (by omega)
 have up3:Up (Sx S w.heap.size w3.heap.size) w3:=Sx.up up (Nat.le_refl _) x3.size
 have ha3:=(ha.par w3.heap.size).ext x3
 have hb3:=(hb.par w3.heap.size).ext x3
 have upo3:Up (Sx T0 w.heap.size w3.heap.size) w3:=Sx.up upo (Nat.le_refl _) x3.size
 have hout:∀ {W:World} {v:Value} {z:QV},eQ.R (Sx T0 w.heap.size w3.heap.size) W v z->eQ.R T0 W v z:=fun h=>h.out
 have hw6:w.heap.size<=b6:=by omega
 have hc6:b6<w3.heap.size:=by omega
 have hc5:b5<w3.heap.size:=by omega
 generalize hT:Sx S w.heap.size w3.heap.size=T at *
 generalize hU:Sx T0 w.heap.size w3.heap.size=U at *
 refine .sr (.ldA ty_Q O O k4 (eQ.csz ha) ?_)
 rw [<-hva]
 refine .call _ O N9 O (N7 up3 ha3 hla hL (by omega)) fun v4 w4 e4 h4=>?_
 obtain ⟨u1,u2,rfl,h1,h2⟩:=h4
 replace h1:(eZn L).R T w4 u1 (pn a):=h1
 replace h2:(eZn L).R T w4 u2 (pd a):=h2
 refine .mv O O (.ext O O O (.ext O O O (.alloc O C9 fun w5 b7 n5=>.alloc O C9 fun w6 b8 n6=>?_)))
 obtain ⟨e5,k7,hb7,hs5⟩:=n5
 obtain ⟨e6,k8,hb8,hs6⟩:=n6
 have e56:=e5.trans e6
 have k7:=k7.ext e6
 have hs4:=e4.size
 have hS7:¬ Sx T w4.heap.size w6.heap.size b7:=Sx.no (by omega) (by omega)
 have hS8:¬ Sx T w4.heap.size w6.heap.size b8:=Sx.no (by omega) (by omega)
 have h16:=(h1.par w6.heap.size).ext e56
 have h26:=(h2.par w6.heap.size).ext e56
 have hb6':=((hb3.ext e4).par w6.heap.size).ext e56
 have up6:Up (Sx T w4.heap.size w6.heap.size) w6:=Sx.up (up3.ext e4.size) (Nat.le_refl _) e56.size
 have hS5:¬ Sx T w4.heap.size w6.heap.size b5:=fun h=>hS5 h.1
 have hc7:b7<w6.heap.size:=by omega
 have hc8:b8<w6.heap.size:=by omega
 have hn78:b8≠b7:=by omega
 have hw7:w.heap.size<=b7:=by have:=x3.size;omega
 have hw8:w.heap.size<=b8:=by have:=x3.size;omega
 have hn57:b5≠b7:=by omega
 have hn58:b5≠b8:=by omega
 have hn67:b6≠b7:=by omega
 have hn68:b6≠b8:=by omega
 generalize hT2:Sx T w4.heap.size w6.heap.size=T2 at *
 refine .storeA (E:=eZn L) ty_Z O O k7 O O h16 hS7 fun w7 k7 u7 h17=>?_
 refine .storeA (E:=eZn L) ty_Z O O (k8.upd u7 hn78) O O (h26.upd u7 hS7) hS8 fun w8 k8 u8 h28=>.nil ?_
 have h18:=h17.upd u8 hS8
 have k7:=k7.upd u8 (Ne.symm hn78)
 have x6:=(x3.trans e4).trans e56
 have x8:Ext w w8:=u8.below (u7.below x6 hw7) hw8
 have k5:=(((k5.ext e4).ext e56).upd u7 hn57).upd u8 hn58
 have k6:=(((k6.ext e4).ext e56).upd u7 hn67).upd u8 hn68
 have hb8':=(hb6'.upd u7 hS7).upd u8 hS8
 have up8:Up T2 w8:=up6.ext (by rw [u8.size,u7.size];exact Nat.le_refl _)
 have upo8:Up U w8:=((upo3.ext e4.size).ext e56.size).ext (by rw [u8.size,u7.size];exact Nat.le_refl _)
 have hs8:w8.heap.size=w6.heap.size:=by rw [u8.size,u7.size]
 refine .sr (.ldA ty_Q O O k5 (eQ.csz hb) ?_)
 rw [<-hvb]
 refine .call _ O N9 O (N7 up8 hb8' hlb hL (by omega)) fun v9 w9 e9 h9=>?_
 obtain ⟨u3,u4,rfl,h3,h4⟩:=h9
 replace h3:(eZn L).R T2 w9 u3 (pn b):=h3
 replace h4:(eZn L).R T2 w9 u4 (pd b):=h4
 refine .mv O O (.ext O O O (.ext O O O (.alloc O C9 fun w10 b9 n10=>.alloc O C9 fun w11 b10 n11=>?_)))
 obtain ⟨e10,k9,hb9,hs10⟩:=n10
 obtain ⟨e11,k10,hb10,hs11⟩:=n11
 have e1011:=e10.trans e11
 have k9:=k9.ext e11
 have hs9:=e9.size
 have hS9:¬ Sx T2 w9.heap.size w11.heap.size b9:=Sx.no (by omega) (by omega)
 have hS10:¬ Sx T2 w9.heap.size w11.heap.size b10:=Sx.no (by omega) (by omega)
 have h1':=((h18.ext e9).par w11.heap.size).ext e1011
 have h2':=((h28.ext e9).par w11.heap.size).ext e1011
 have h3':=(h3.par w11.heap.size).ext e1011
 have h4':=(h4.par w11.heap.size).ext e1011
 have up11:Up (Sx T2 w9.heap.size w11.heap.size) w11:=Sx.up (up8.ext e9.size) (Nat.le_refl _) e1011.size
 have hn910:b10≠b9:=by omega
 have hw9:w.heap.size<=b9:=by have:=x8.size;omega
 have hw10:w.heap.size<=b10:=by have:=x8.size;omega
 have n79:b7≠b9:=by omega
 have n710:b7≠b10:=by omega
 have n89:b8≠b9:=by omega
 have n810:b8≠b10:=by omega
 have n69:b6≠b9:=by omega
 have n610:b6≠b10:=by omega
 generalize hT3:Sx T2 w9.heap.size w11.heap.size=T3 at *
 refine .storeA (E:=eZn L) ty_Z O O k9 O O h3' hS9 fun w12 k9 u12 h312=>?_
 refine .storeA (E:=eZn L) ty_Z O O (k10.upd u12 hn910) O O (h4'.upd u12 hS9) hS10 fun w13 k10 u13 h413=>.nil ?_
 have h313:=h312.upd u13 hS10
 have k9:=k9.upd u13 (Ne.symm hn910)
 have x11:=(x8.trans e9).trans e1011
 have x13:Ext w w13:=u13.below (u12.below x11 hw9) hw10
 have h113:=(h1'.upd u12 hS9).upd u13 hS10
 have h213:=(h2'.upd u12 hS9).upd u13 hS10
 have k7:=(((k7.ext e9).ext e1011).upd u12 n79).upd u13 n710
 have k8:=(((k8.ext e9).ext e1011).upd u12 n89).upd u13 n810
 have k6:=(((k6.ext e9).ext e1011).upd u12 n69).upd u13 n610
 have up13:Up T3 w13:=up11.ext (by rw [u13.size,u12.size];exact Nat.le_refl _)
 have upo13:Up U w13:=((upo8.ext e9.size).ext e1011.size).ext (by rw [u13.size,u12.size];exact Nat.le_refl _)
 have hv1:=shpA (E:=eZn L) O h113
 have hv2:=shpA (E:=eZn L) O h213
 have hv3:=shpA (E:=eZn L) O h313
 have hv4:=shpA (E:=eZn L) O h413
 refine .seq ?_
 refine .par follows 12 [.inr IsTab,.inl (.int .u8 k),.inl (.agg #[.func (.func f) #[] #[]]),.inl (.func (.func f) #[] #[]),.inl u1,.inl u2,.inl u3,.inl u4,.inr (Two (Zv T3 N (2*L+1)) (Zv T3 D (2*L+1))),.inr (Zv T3 N (2*L+1)),.inr (Zv T3 D (2*L+1)),.inr (eQ.at U (qc (Rat.divInt N D)))]
  [[],[],[(21,0),(22,1)],[(23,2)],[],[],[],[],[(24,3),(25,4),(26,5),(27,6),(28,7)],[(29,8)],[(29,8)],[(30,9),(31,10)]] (by kernel_rfl) ⟨
  fun w e=>(A5 [] AN3 O AL1).ob st_tab,
  fun w e=>(v_mv O).ob,
  fun w e x0 hx0=>by
   obtain ⟨r,rfl,hr⟩:=hx0
   exact (v_lkp Ak5 AJ0 O O hr hf).ob,
  fun w e=>(v_fd O prt_op).ob,
  fun w e=>((C7 ty_Z O (k7.ext e) ((eZn L).csz h113)).eq hv1.symm).ob,
  fun w e=>((C7 ty_Z O (k8.ext e) ((eZn L).csz h213)).eq hv2.symm).ob,
  fun w e=>((C7 ty_Z O (k9.ext e) ((eZn L).csz h313)).eq hv3.symm).ob,
  fun w e=>((C7 ty_Z O (k10.ext e) ((eZn L).csz h413)).eq hv4.symm).ob,
  fun w e=>(AF2 [u1,u2,u3,u4] O hE O (by simpa using hop (up13.ext e.size) (Zv.ext h113 e) (Zv.ext h213 e) (Zv.ext h313 e) (Zv.ext h413 e))).ob (Z4 (Al2 _ _ _) (Al2 _ _ _)),
  fun w e x8 hx8=>by
   obtain ⟨p,q,rfl,hp,hq⟩:=hx8
   exact L7 (v_ex O O) hp (Al2 _ _ _),
  fun w e x8 hx8=>by
   obtain ⟨p,q,rfl,hp,hq⟩:=hx8
   exact L7 (v_ex O O) hq (Al2 _ _ _),
  fun w e x9 hx9 x10 hx10=>(A5 _ X3 O (V5 (up13.ext e.size) (upo13.ext e.size) hx9 hx10 hD (by omega))).ob (A9 _ _ _),trivial⟩ ?_
 intro w14 e14 x0 hx0 x8 hx8 x9 hx9 x10 hx10 x11 hx11
 refine .storeA (E:=eQ) ty_Q O O (k6.ext e14) O O hx11 hU6 fun w15 k15 u15 h15=>.nil (.ret ?_)
 exact .cell Tryz.results61 O ty_Q O O k15 h15 ⟨u15.below (x13.trans e14) hw6,hout h15⟩
end Go.Proofs.YtpgkacdihhjknaaGreat
