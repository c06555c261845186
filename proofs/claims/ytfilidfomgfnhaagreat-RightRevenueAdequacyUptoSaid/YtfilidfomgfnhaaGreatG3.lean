/-
  whole: longDiv Machine integers: sums and differences that fit. whole: divWords, signedSum, Add, Sub, Mul, Cmp whole: divWords, DivMod, GCD whole: DivMod, GCD Maps with integer keys: made, filled, read. Values of integers by their number alone. frac: parts, short frac: ratio, reduce frac: operations, calculate frac: the closures of the table, Add, Sub, Mul frac: FromInt64, Canonical, Sign, sign, Cmp, Equal Rows of the call's own with any elements; elements of a slice, exactly. The elements of a slice, exactly: which values lie there.
-/
import Derived.Test.YtfilidfomgfnhaaGreatG2
set_option linter.unusedVariables false
namespace Go.Proofs.YtfilidfomgfnhaaGreat
open Go Go.Kx Go.RowKit
/-- the state of the long division -/
structure LdF (w:World) (gu gq gv:Nat) (vv:Value) (lu lq:Nat) (vl:List Nat) (A:Nat) (j:Nat) (U Q:List Nat) (W:World):Prop where
 low:Below w.heap.size w W
 u:OB 60 W gu U
 q:OB 60 W gq Q
 v:eW.R (fun i=>i=gv) W vv vl
 lu:U.length=lu
 lq:Q.length=lq
 eq:val U+val vl*val Q=A
 zq:∀ i,i<j→Q.getD i 0=0
 lt:val U<4294967296 ^ j*val vl
theorem Aq2 {S:Nat→Prop} {w:World} {g o n c:Nat} {l:List Nat} (h:eW.R S w (.slice (some ⟨g,o,none⟩) n c) l) (hne:0<l.length):g<w.heap.size:=by
 obtain ⟨x,hx⟩:∃ x,l[0]?=some x:=⟨_,List.getElem?_eq_getElem hne⟩
 obtain ⟨ad,c',hv,_,e,he,_,hc⟩:=RL.at_ h hx
 cases hv
 have h0:e.cells[0]?=some e:=by obtain ⟨rfl,_⟩:=he;rfl
 have:=AH7 (hc 0 e h0)
 rw [F8,F8] at this
 exact this
/-- one digit is right: the guess was right, or one too high and set right -/
theorem Aw9 {p X U V q g bo V1:Nat} (hV:0<V) (hp:0<p) (hq:U / p / V=q) (hg1:q≤g) (hg2:g≤q+1) (hs:V1+p*(V*g)=U+X*bo) (hbo:bo≤1) (hV1:V1<X) (hX:U<X) :
  (bo=0→g=q∧V1+p*(V*q)=U)∧(bo=1→g=q+1∧∀ c V2,V2+X*c=V1+p*V→V2<X→c≤1→V2+p*(V*q)=U):=by
 have hq1:p*(V*q)≤U:=by
  rw [←hq,Nat.div_div_eq_div_mul,←Nat.mul_assoc];exact Nat.mul_div_le U (p*V)
 have hq2:U<p*(V*(q+1)):=by
  rw [←hq,Nat.div_div_eq_div_mul,←Nat.mul_assoc];exact Nat.lt_mul_div_succ U (Nat.mul_pos hp hV)
 rcases (show g=q∨g=q+1 by omega) with rfl | rfl
 ·constructor
  ·rintro rfl;exact ⟨rfl,by omega⟩
  ·rintro rfl;omega
 ·constructor
  ·rintro rfl;omega
  ·rintro rfl
   refine ⟨rfl,fun c V2 h1 h2 h3=>?_⟩
   have e:p*(V*(q+1))=p*(V*q)+p*V:=by grind
   rw [e] at hs hq2
   rcases (show c=0∨c=1 by omega) with rfl | rfl
   ·omega
   ·omega
theorem AM5:Ent Tryz.prog 282:=A0 Tryz.func282 (by kernel_rfl) rfl
set_option maxHeartbeats 3200000 in
theorem AM0 {S T0:Nat→Prop} {w:World} {va vb:Value} {a b:List Nat} {m:Nat} (up:Up S w) (upo:Up T0 w) (ha:eW.R S w va a) (hb:eW.R S w vb b) (hla:a.length≤1099511627776) (hlb:b.length=m+2) (hab:b.length≤a.length) (htop:0<b.getD (m+1) 0) :
  CR Tryz.prog 282 #[va,vb] w (Two (Wv T0 (val a / val b) (a.length+1)) (Wv S (val a % val b) (a.length+1))):=by
 have hda:dig a:=E3 ha
 have hdb:dig b:=E3 hb
 have htd:=E1 hdb (m+1)
 have gb:b[m+1]?=some (b.getD (m+1) 0):=D0 (by omega)
 have hbtop:4294967296 ^ (m+1)≤val b:=top_ge hlb htop
 have hp0:0<4294967296 ^ (m+1):=Nat.pow_pos (by omega)
 have hwn1:IntKind.i64.wrap ((b.length:Int)-1)=((m+1:Nat):Int):=by rw [wI (by omega)];omega
 refine enter Tryz.func282 rfl Tryz.ntmps282 rfl ?_
 refine .seq (.region (.asg rfl rfl (.asg rfl rfl (.nil (.seq (.region (.mv rfl rfl (.lenR un_W rfl rfl hb (.asg rfl rfl (.nil ?_))))))))))
 refine .seq (.region (.mv rfl rfl (.mv rfl rfl (.sub rfl rfl rfl ?_))))
 rw [hwn1]
 refine .ixN un_W A4 rfl rfl hb rfl gb fun p hp=>.ldE A4 rfl rfl hp fun e he=>?_
 obtain ⟨rfl,_⟩:=he
 refine .call _ rfl AK8 rfl (AK2 htd htop) fun v1 w1 e1 h1=>?_
 obtain ⟨s,rfl,hs,htops⟩:=h1
 refine .cvt AJ2 un_uint rfl rfl ?_
 rw [wU (n:=(s:Int)) (by omega)]
 refine .asg rfl rfl (.nil ?_)
 refine .mid (α:=Value×Value) (fun x=>[(0,va),(6,.int .i64 (b.length:Nat)),(7,.int .u64 (s:Nat)),(8,x.1),(9,x.2)]) (fun x W=>Ext w W∧∃ gu cu gv cv U0 V0,x.1=.slice (some ⟨gu,0,none⟩) (a.length+1) cu∧x.2=.slice (some ⟨gv,0,none⟩) b.length cv ∧
   OB 60 W gu U0∧OB 60 W gv V0∧gu≠gv∧w.heap.size≤gu∧val U0=val a*2 ^ s∧U0.length=a.length+1∧val V0=val b*2 ^ s∧V0.length=b.length+1∧a.length+1≤cu∧cu≤9223372036854775807∧b.length+1≤cv∧cv≤9223372036854775807) ?_ ?_
 ·refine .heldT follows true (fun _=>True) [some _,some _,none,some _,some _,none,some _,none,none,none] (.one 2 (.one 5 (.two 7 (.one 8 (.one 9 .done)) 8 (.one 7 (.one 9 .done))))) (by kernel_rfl) (by kernel_rfl) ⟨fun _ _=>v_mv rfl,fun _ _=>v_mv rfl,fun _ _=>v_mv rfl,fun _ _=>v_mv rfl,fun _ _=>v_mv rfl,trivial⟩ ?_
  intro w1' e1' _
  have x1:=e1.trans e1'
  refine .gv rfl trivial rfl (A2 _ S8 rfl (R9 (ha.ext x1) hla hs)) ?_
  rintro vu w2 ⟨e2,U0,hou,hvu,hlu⟩
  refine .gv rfl trivial rfl (A2 _ S8 rfl (R9 (hb.ext (x1.trans e2)) (by omega) hs)) ?_
  rintro vs w3 ⟨e3,V0,hov,hvv,hlv⟩
  obtain ⟨gu,cu,rfl,hcu1,hcu2,hgu,obu⟩:=hou.ob (by intro h;rw [h] at hlu;simp at hlu)
  obtain ⟨gv,cv,rfl,hcv1,hcv2,hgv,obv⟩:=hov.ob (by intro h;rw [h] at hlv;simp at hlv)
  have hgu2:gu<w2.heap.size:=obu.lt
  have hguv:gu≠gv:=by omega
  have hres:∀ σ:Env,(∀ t v,Kx.look [(0,va),(6,.int .i64 (b.length:Nat)),(7,.int .u64 (s:Nat)),(8,.slice (some ⟨gu,0,none⟩) U0.length cu),(9,.slice (some ⟨gv,0+0*1,none⟩) (b.length-0) (cv-0))] t=some v→Kx.look σ t=some v) →
    ([]:List Deferred)=[]∧∃ x:Value×Value,(∀ t v,Kx.look [(0,va),(6,.int .i64 (b.length:Nat)),(7,.int .u64 (s:Nat)),(8,x.1),(9,x.2)] t=some v→Kx.look σ t=some v)∧Ext w w3∧∃ gu cu gv cv U0 V0,x.1=.slice (some ⟨gu,0,none⟩) (a.length+1) cu∧x.2=.slice (some ⟨gv,0,none⟩) b.length cv ∧
   OB 60 w3 gu U0∧OB 60 w3 gv V0∧gu≠gv∧w.heap.size≤gu∧val U0=val a*2 ^ s∧U0.length=a.length+1∧val V0=val b*2 ^ s∧V0.length=b.length+1∧a.length+1≤cu∧cu≤9223372036854775807∧b.length+1≤cv∧cv≤9223372036854775807 :=
   fun σ h=>⟨rfl,(_,_),h,(x1.trans e2).trans e3,gu,cu,gv,cv,U0,V0,by rw [hlu],rfl,obu.ext e3,obv,hguv,Nat.le_trans x1.size hgu,hvu,hlu,hvv,hlv,by omega,hcu2,by omega,hcv2⟩
  refine .gv2 (.gv rfl trivial rfl (Ai3 none (some _) 0 b.length un_W A4 rfl rfl ⟨.i64,rfl⟩ (Nat.zero_le _) (by omega) (by omega)).gv ?_) (.gv rfl trivial rfl (v_as rfl).gv ?_)
  ·rintro _ _ ⟨rfl,rfl⟩
   refine .gv rfl trivial rfl (v_as rfl).gv ?_
   rintro _ _ ⟨rfl,rfl⟩
   refine .gv rfl trivial rfl (v_as rfl).gv ?_
   rintro _ _ ⟨rfl,rfl⟩
   exact .nil (.inl rfl) (hres _ (lkA rfl))
  ·rintro _ _ ⟨rfl,rfl⟩
   refine .gv rfl trivial rfl (Ai3 none (some _) 0 b.length un_W A4 rfl rfl ⟨.i64,rfl⟩ (Nat.zero_le _) (by omega) (by omega)).gv ?_
   rintro _ _ ⟨rfl,rfl⟩
   refine .gv rfl trivial rfl (v_as rfl).gv ?_
   rintro _ _ ⟨rfl,rfl⟩
   exact .nil (.inl rfl) (hres _ (lkA rfl))
 rintro ⟨vu,vs⟩ w3 ⟨x3,gu,cu,gv,cv,U0,V0,hvus,hvss,obu,obv,hguv,hwgu,hvu,hlu,hvv,hlv,hcu1,hcu2,hcv1,hcv2⟩
 replace hvus:vu=.slice (some ⟨gu,0,none⟩) (a.length+1) cu:=hvus
 replace hvss:vs=.slice (some ⟨gv,0,none⟩) b.length cv:=hvss
 subst hvus
 subst hvss
 have hps:0<2 ^ s:=Nat.pow_pos (by omega)
 have hvlt:val V0<4294967296 ^ b.length:=by
  rw [hvv,hlb];exact Ad7 hdb hlb hs htops
 have hvl:=obv.toR (S:=fun i=>i=gv) rfl 0 b.length cv (by omega) (by omega) (by omega)
 rw [List.drop_zero] at hvl
 have hvlv:val (V0.take b.length)=val b*2 ^ s:=by rw [AA0 (by omega) hvlt,hvv]
 have hvll:(V0.take b.length).length=m+2:=by rw [List.length_take];omega
 have hVlt:val (V0.take b.length)<4294967296 ^ (m+2):=by rw [hvlv];exact Ad7 hdb hlb hs htops
 have hV1:=top_pos (Af5 obv.1 b.length) hvll (by rw [hvlv];exact Nat.le_trans hbtop (Nat.le_mul_of_pos_right _ hps))
 generalize V0.take b.length=vl at *
 have hVp:0<val vl:=by
  have:=Nat.mul_pos (Nat.lt_of_lt_of_le hp0 hbtop) hps
  omega
 refine .seq (.region (.mv rfl rfl (.lenR un_W rfl rfl (ha.ext x3) (.mv rfl rfl (.sub rfl rfl rfl ?_)))))
 rw [wI (n:=(a.length:Int)-(b.length:Int)) (by omega)]
 refine .add rfl rfl rfl ?_
 rw [show IntKind.i64.wrap ((a.length:Int)-(b.length:Int)+1)=((a.length-b.length+1:Nat):Int) by rw [wI (by omega)];omega]
 refine .make_ _ _ un_W H5 rfl (by decide) rfl rfl rfl (Nat.le_refl _) (by omega) (by omega) fun w4 gq n4=>.asg rfl rfl (.nil ?_)
 have obq:OB 60 w4 gq (List.replicate (a.length-b.length+1) 0):=OB.made n4
 obtain ⟨e4,k4,hgq,hs4⟩:=n4
 have x4:=x3.trans e4
 have obu4:=obu.ext e4
 have hvl4:=hvl.ext e4
 have hgvlt:gv<w3.heap.size:=obv.lt
 have hgult:gu<w3.heap.size:=obu.lt
 have hguq:gu≠gq:=by omega
 have hgqv:gq≠gv:=by omega
 have hwgq:w.heap.size≤gq:=by have:=x3.size;omega
 generalize hlu':a.length+1=lu at *
 generalize hlq:a.length-b.length+1=lq at *
 have f4:LdF w gu gq gv (.slice (some ⟨gv,0,none⟩) b.length cv) lu lq vl (val a*2 ^ s) lq U0 (List.replicate lq 0) w4:=by
  refine ⟨x4,obu4,obq,hvl4,hlu,by simp,by rw [M2,hvu];omega,fun i _=>?_,?_⟩
  ·rw [List.getD_eq_getElem?_getD,List.getElem?_replicate];split<;>rfl
  ·rw [hvu,hvlv,←Nat.mul_assoc]
   refine Nat.mul_lt_mul_of_pos_right ?_ hps
   have h1:=AE1 hda
   have h2:4294967296 ^ a.length=4294967296 ^ lq*4294967296 ^ (m+1):=by rw [←Nat.pow_add];congr 1;omega
   have h3:=Nat.mul_le_mul_left (4294967296 ^ lq) hbtop
   omega
 refine .mid (α:=List Nat×List Nat) (fun x=>[(4,.slice (some ⟨gq,0,none⟩) lq lq),(6,.int .i64 (b.length:Nat)),(7,.int .u64 (s:Nat)),(8,.slice (some ⟨gu,0,none⟩) lu cu)]) (fun x W=>LdF w gu gq gv (.slice (some ⟨gv,0,none⟩) b.length cv) lu lq vl (val a*2 ^ s) 0 x.1 x.2 W) ?_ ?_
 ·refine .seq (.region (.mv rfl rfl (.lenR un_W rfl rfl (ha.ext x4) (.mv rfl rfl (.sub rfl rfl rfl ?_)))))
  rw [show IntKind.i64.wrap ((a.length:Int)-(b.length:Int))=(lq:Int)-1 by rw [wI (by omega)];omega]
  refine .asg rfl rfl (.nil ?_)
  refine .block (.loop (α:=Nat×List Nat×List Nat) (fun x=>[(4,.slice (some ⟨gq,0,none⟩) lq lq),(6,.int .i64 (b.length:Nat)),(7,.int .u64 (s:Nat)),(8,.slice (some ⟨gu,0,none⟩) lu cu),(9,.slice (some ⟨gv,0,none⟩) b.length cv),(10,.int .i64 ((x.1:Int)-1))])
   (fun x W=>x.1≤lq∧LdF w gu gq gv (.slice (some ⟨gv,0,none⟩) b.length cv) lu lq vl (val a*2 ^ s) x.1 x.2.1 x.2.2 W) (fun x=>x.1) (lq,U0,List.replicate lq 0) ?_ ?_ ?_)
  ·exact lkA rfl
  ·exact ⟨Nat.le_refl _,f4⟩
  ·rintro ⟨j,U,Q⟩ W ⟨hj,hF⟩
   replace hj:j≤lq:=hj
   replace hF:LdF w gu gq gv (.slice (some ⟨gv,0,none⟩) b.length cv) lu lq vl (val a*2 ^ s) j U Q W:=hF
   rcases Nat.eq_zero_or_pos j with hj0 | hj0
   ·subst hj0
    refine .seq (.seq (.region (.mv rfl rfl (.geqF rfl rfl rfl (by show ¬ (0:Int)≤((0:Nat):Int)-1;omega) (.nil (.condF rfl (.exit ?_)))))))
    exact ⟨rfl,(U,Q),lkA rfl,hF⟩
   ·obtain ⟨k,rfl⟩:∃ i,j=i+1:=⟨j-1,by omega⟩
    have hi:((k+1:Nat):Int)-1=(k:Int):=by omega
    refine .seq (.seq (.region (.mv (v:=.int .i64 (k:Int)) rfl (by rw [←hi];rfl) (.geqT rfl rfl rfl (by omega) (.nil (.condT rfl (.skip (.seq (.block (.seq (.region ?_)))))))))))
    have hkn:k+(b.length+1)≤lu:=by omega
    have hkn':k+(m+3)≤U.length:=by rw [hF.lu];omega
    have hX:val U<4294967296 ^ (k+(b.length+1)):=by
     have h1:4294967296 ^ (k+1)*val vl<4294967296 ^ (k+1)*4294967296 ^ (m+2):=Nat.mul_lt_mul_of_pos_left hVlt (Nat.pow_pos (by omega))
     rw [←Nat.pow_add,show k+1+(m+2)=k+(b.length+1) by omega] at h1
     exact Nat.lt_trans hF.lt h1
    have hpk:0<4294967296 ^ k:=Nat.pow_pos (by omega)
    have hwin:val ((U.drop k).take (b.length+1))=val U / 4294967296 ^ k:=Ai0 hF.u.1 (by rw [hF.lu];exact hkn) hX
    have hwl:((U.drop k).take (b.length+1)).length=m+3:=by rw [List.length_take,List.length_drop];omega
    have hwlt:val ((U.drop k).take (b.length+1))<4294967296*val vl:=by
     rw [hwin,Nat.div_lt_iff_lt_mul hpk]
     have h1:=hF.lt
     rw [Nat.pow_succ] at h1
     have e:4294967296*val vl*4294967296 ^ k=4294967296 ^ k*4294967296*val vl:=by grind
     omega
    have hw1:IntKind.i64.wrap ((k:Int)+(b.length:Int))=((k+b.length:Nat):Int):=by rw [wI (by omega)];omega
    have hw2:IntKind.i64.wrap (((k+b.length:Nat):Int)+1)=((k+b.length+1:Nat):Int):=by rw [wI (by omega)];omega
    refine .mv rfl rfl (.mv (v:=.int .i64 (k:Int)) rfl (by rw [←hi];rfl) (.mv (v:=.int .i64 (k:Int)) rfl (by rw [←hi];rfl) (.mv rfl rfl (.add rfl rfl rfl ?_))))
    rw [hw1]
    refine .add rfl rfl rfl ?_
    rw [hw2]
    refine .cutB k (k+b.length+1) un_W A4 rfl rfl ⟨.i64,rfl⟩ ⟨.i64,rfl⟩ (by omega) (by omega) (by omega) ?_
    rw [show 0+k*1=k by omega,show k+b.length+1-k=b.length+1 by omega]
    have hwR:=hF.u.toR (S:=fun i=>i=gu∨i=gv) (.inl rfl) k (b.length+1) (cu-k) (by rw [hF.lu];exact hkn) (by omega) (by omega)
    refine .mv rfl rfl (.call _ rfl AK5 rfl (AI6 hwR (eW.mono (fun _ _ h=>.inr h) hF.v) hwl hvll (by omega) hV1 hwlt) fun xg w5 e5 h5=>?_)
    obtain ⟨gs,rfl,hgs,hg1,hg2⟩:=h5
    rw [hwin] at hg1 hg2
    refine .asg rfl rfl (.nil ?_)
    refine .mid (α:=Nat×List Nat) (fun x=>[(4,.slice (some ⟨gq,0,none⟩) lq lq),(6,.int .i64 (b.length:Nat)),(7,.int .u64 (s:Nat)),(8,.slice (some ⟨gu,0,none⟩) lu cu),(9,.slice (some ⟨gv,0,none⟩) b.length cv),(10,.int .i64 (k:Int)),(11,.int .u64 (x.1:Nat))])
     (fun x W=>Below w.heap.size w W∧OB 60 W gu x.2∧OB 60 W gq Q∧eW.R (fun i=>i=gv) W (.slice (some ⟨gv,0,none⟩) b.length cv) vl∧x.2.length=lu∧x.1<4294967296∧val x.2+4294967296 ^ k*(val vl*x.1)=val U∧val x.2<4294967296 ^ k*val vl) ?_ ?_
    ·refine .seq (.region (.mv rfl rfl (.mv (v:=.int .i64 (k:Int)) rfl (by rw [←hi];rfl) (.mv (v:=.int .i64 (k:Int)) rfl (by rw [←hi];rfl) (.mv rfl rfl (.add rfl rfl rfl ?_))))))
     rw [hw1]
     refine .add rfl rfl rfl ?_
     rw [hw2]
     refine .cutB k (k+b.length+1) un_W A4 rfl rfl ⟨.i64,rfl⟩ ⟨.i64,rfl⟩ (by omega) (by omega) (by omega) ?_
     rw [show 0+k*1=k by omega,show k+b.length+1-k=b.length+1 by omega]
     refine .mv rfl rfl (.mv rfl rfl ?_)
     have hB5:Below w.heap.size w w5:=hF.low.trans (e5.mono hF.low.size)
     refine .callG _ rfl U3 rfl (T4 (hF.u.ext e5) (hF.v.ext e5) (fun h=>hguv h) (by omega) (by rw [hF.lu];exact hkn) (by rw [hF.lu];omega) hgs) ?_
     rintro _ w6 ⟨V1,bo,rfl,hbo,hG6,ob6,hl6,hhi6,hval6⟩
     have hB6:Below w.heap.size w w6:=Af9 hB5 hG6 hwgu hB5.size
     have hq6:OB 60 w6 gq Q:=by
      obtain ⟨hd,cs,hb',hc⟩:=hF.q.ext e5
      exact ⟨hd,cs,(hG6.block gq hb'.lt (fun e=>hguq (by cases e;rfl))).trans hb',hc⟩
     have hv6:=eW.keep (Ae7 hG6 (S:=fun i=>i=gv) hguv) (hF.v.ext e5)
     have hV1X:val V1<4294967296 ^ (k+(b.length+1)):=AF4 hl6 ob6.1 hhi6 hX
     obtain ⟨dg0,dg1⟩:=Aw9 hVp hpk rfl hg1 hg2 hval6 hbo hV1X hX
     have hlast:∀ U2:List Nat,val U2+4294967296 ^ k*(val vl*(val U / 4294967296 ^ k / val vl))=val U→val U2<4294967296 ^ k*val vl:=by
      intro U2 h
      have:val U<4294967296 ^ k*(val vl*(val U / 4294967296 ^ k / val vl+1)):=by
       rw [Nat.div_div_eq_div_mul,←Nat.mul_assoc];exact Nat.lt_mul_div_succ _ (Nat.mul_pos hpk hVp)
      rw [Nat.mul_add (val vl),Nat.mul_add,Nat.mul_one] at this
      omega
     rcases (show bo=0∨bo=1 by omega) with h0 | h0
     ·subst h0
      obtain ⟨hgq',hvq⟩:=dg0 rfl
      refine .nil (.condF rfl (.skip ⟨rfl,(gs,V1),?_,hB6,ob6,hq6,hv6,hl6.trans hF.lu,hgs,?_,?_⟩))
      ·exact A3 rfl (A3 rfl (A3 rfl (A3 rfl (A3 rfl (A3 (by rw [←hi];rfl) (lkA rfl))))))
      ·show val V1+4294967296 ^ k*(val vl*gs)=val U
       rw [hgq'];exact hvq
      ·exact hlast V1 hvq
     ·subst h0
      obtain ⟨hgq',hadd⟩:=dg1 rfl
      refine .nil (.condT rfl (.seq (.region (.mv rfl rfl (.sub rfl rfl rfl ?_)))))
      have hgs1:1≤gs:=by rw [hgq'];exact Nat.succ_le_succ (Nat.zero_le _)
      rw [show IntKind.u64.wrap ((gs:Int)-1)=((gs-1:Nat):Int) by rw [wU (by omega)];omega]
      refine .asg rfl rfl (.nil (.seq (.region ?_)))
      refine .call [.int .u64 (0:Nat)] rfl F9 rfl F5 fun v7 w7 e7 h7=>.asg rfl rfl (.nil ?_)
      obtain ⟨bx,rfl,kx,hbx⟩:=h7
      have hB7:Below w.heap.size w w7:=hB6.trans (e7.mono hB6.size)
      have hgux:gu≠bx:=by have:=ob6.lt;omega
      have hgqx:gq≠bx:=by have:=hq6.lt;omega
      have hgvx:gv≠bx:=by have:=hG6.size;have:=e5.size;have:=hF.low.size;have:=x4.size;have:gv<w6.heap.size:=Aq2 hv6 (by omega);omega
      have hwbx:w.heap.size≤bx:=Nat.le_trans hB6.size hbx
      refine .mid (α:=List Nat×Nat) (fun x=>[(4,.slice (some ⟨gq,0,none⟩) lq lq),(6,.int .i64 (b.length:Nat)),(7,.int .u64 (s:Nat)),(8,.slice (some ⟨gu,0,none⟩) lu cu),(9,.slice (some ⟨gv,0,none⟩) b.length cv),(10,.int .i64 (k:Int)),(11,.int .u64 ((gs-1:Nat):Int)),(12,carV bx)])
       (fun x W=>Below w.heap.size w W∧OB 60 W gu x.1∧OB 60 W gq Q∧eW.R (fun i=>i=gv) W (.slice (some ⟨gv,0,none⟩) b.length cv) vl∧x.1.length=lu∧cBlk W bx x.2∧x.2≤1∧(∀ j,k+(b.length+1)≤j→x.1.getD j 0=U.getD j 0)∧val x.1+4294967296 ^ (k+b.length)*x.2=val V1+4294967296 ^ k*val vl) ?_ ?_
      ·refine .seq (.region (.mv rfl rfl (.lenR un_W rfl rfl (hv6.ext e7) (.mv rfl rfl (.nil ?_)))))
       rw [show vl.length=b.length by omega]
       refine .block (.loop (α:=Nat×List Nat×Nat) (fun x=>[(4,.slice (some ⟨gq,0,none⟩) lq lq),(6,.int .i64 (b.length:Nat)),(7,.int .u64 (s:Nat)),(8,.slice (some ⟨gu,0,none⟩) lu cu),(9,.slice (some ⟨gv,0,none⟩) b.length cv),(10,.int .i64 (k:Int)),(11,.int .u64 ((gs-1:Nat):Int)),(12,carV bx),(69,.slice (some ⟨gv,0,none⟩) b.length cv),(70,.int .i64 (b.length:Nat)),(71,.int .i64 (x.1:Nat))])
        (fun x W=>x.1≤b.length∧Below w.heap.size w W∧OB 60 W gu x.2.1∧OB 60 W gq Q∧eW.R (fun i=>i=gv) W (.slice (some ⟨gv,0,none⟩) b.length cv) vl∧x.2.1.length=lu∧cBlk W bx x.2.2∧x.2.2≤1∧(∀ j,k+(b.length+1)≤j→x.2.1.getD j 0=U.getD j 0)∧val x.2.1+4294967296 ^ (k+x.1)*x.2.2=val V1+4294967296 ^ k*val (vl.take x.1)) (fun x=>b.length-x.1) (0,V1,0) ?_ ?_ ?_)
       ·exact A3 rfl (A3 rfl (A3 rfl (A3 rfl (A3 rfl (A3 (by rw [←hi];rfl) (lkA rfl))))))
       ·exact ⟨Nat.zero_le _,hB7,ob6.ext e7,hq6.ext e7,hv6.ext e7,hl6.trans hF.lu,kx,Nat.zero_le _,hhi6,by simp [val]⟩
       ·rintro ⟨i,Z,c⟩ W8 ⟨hib,hB8,ob8,hq8,hv8,hl8,hcx,hc,hhi8,hval8⟩
        replace hib:i≤b.length:=hib
        replace ob8:OB 60 W8 gu Z:=ob8
        replace hl8:Z.length=lu:=hl8
        replace hcx:cBlk W8 bx c:=hcx
        replace hc:c≤1:=hc
        replace hhi8:∀ j,k+(b.length+1)≤j→Z.getD j 0=U.getD j 0:=hhi8
        replace hval8:val Z+4294967296 ^ (k+i)*c=val V1+4294967296 ^ k*val (vl.take i):=hval8
        by_cases hlt:i<b.length
        ·refine .seq (.region (.lssT rfl rfl rfl (by show (i:Int)<(b.length:Int);omega) (.nil (.seq (.condT rfl (.skip (.seq (.block (.seq (.region (.mv rfl rfl ?_)))))))))))
         refine .ixN (i:=i) un_W A4 rfl rfl hv8 rfl (D0 (by omega)) fun p hp=>.ldE A4 rfl rfl hp fun e he=>?_
         obtain ⟨rfl,hyy⟩:=he
         have hgi:Z[k+i]?=some (Z.getD (k+i) 0):=D0 (by omega)
         have hxx:=E1 ob8.1 (k+i)
         generalize hy:vl.getD i 0=y at *
         generalize hx:Z.getD (k+i) 0=x at *
         have hki:IntKind.i64.wrap ((k:Int)+(i:Int))=((k+i:Nat):Int):=by rw [wI (by omega)];omega
         refine .asg rfl rfl (.asg rfl rfl (.nil (.region ?_)))
         refine .mv rfl rfl (.mv rfl rfl (.mv rfl rfl (.add (m:=(k:Int)) (n:=(i:Int)) rfl rfl rfl ?_)))
         rw [hki]
         refine .mv rfl rfl (.mv rfl rfl (.mv rfl rfl (.mv rfl rfl (.add (m:=(k:Int)) (n:=(i:Int)) rfl rfl rfl ?_))))
         rw [hki]
         refine .ixW un_W A4 rfl rfl rfl (by omega) ?_
         rw [Nat.zero_add]
         refine .ldO A4 rfl rfl ob8 hgi (.cvt C6 C5 rfl rfl (.mv rfl rfl (.cvt C6 C5 rfl rfl (.add rfl rfl rfl ?_))))
         rw [wU (n:=(x:Int)) (by omega),wU (n:=(y:Int)) (by omega),←Int.natCast_add,wU (n:=((x+y:Nat):Int)) (by omega)]
         refine .callvG [_] rfl rfl G7 rfl (G5 hcx (by omega)) ?_
         rintro _ W9 ⟨rfl,u9,hcx9⟩
         refine .ixW un_W A4 rfl rfl rfl (by omega) ?_
         rw [Nat.zero_add]
         refine .stO A4 rfl rfl rfl (ob8.upd u9 hgux) (by omega) (by omega) fun W10 ob10 u10=>.nil (.region (.add (m:=(i:Int)) rfl rfl rfl (.mv rfl rfl (.nil ?_))))
         rw [wI (n:=(i:Int)+1) (by omega)]
         refine ⟨rfl,(i+1,_,_),lkA rfl,⟨hlt,u10.below (u9.below hB8 hwbx) hwgu,ob10,(hq8.upd u9 hgqx).upd u10 (Ne.symm hguq),(hv8.upd u9 (fun h=>hgvx h.symm)).upd u10 hguv,by simp [hl8],hcx9.upd u10 (Ne.symm hgux),?_,?_,?_⟩,by show b.length-(i+1)<b.length-i;omega⟩
         ·show (x+y+c) / 4294967296≤1
          omega
         ·intro j hj
          show (Z.set (k+i) ((x+y+c) % 4294967296)).getD j 0=U.getD j 0
          rw [List.getD_eq_getElem?_getD,List.getElem?_set_ne (by omega),←List.getD_eq_getElem?_getD]
          exact hhi8 j hj
         ·show val (Z.set (k+i) ((x+y+c) % 4294967296))+4294967296 ^ (k+(i+1))*((x+y+c) / 4294967296)=val V1+4294967296 ^ k*val (vl.take (i+1))
          rw [←Nat.add_assoc k i 1,Nat.pow_succ]
          refine Ag0 (X5 _ hgi) (Nat.div_add_mod _ _) hval8 ?_
          rw [B6,hy,Nat.pow_add]
          grind
        ·refine .seq (.region (.lssF rfl rfl rfl (by show ¬ (i:Int)<(b.length:Int);omega) (.nil (.seq (.condF rfl (.exit ?_))))))
         have:i=b.length:=by omega
         subst this
         rw [List.take_of_length_le (by omega)] at hval8
         exact ⟨rfl,(Z,c),lkA rfl,hB8,ob8,hq8,hv8,hl8,hcx,hc,hhi8,hval8⟩
      ·rintro ⟨Z,c⟩ W8 ⟨hB8,ob8,hq8,hv8,hl8,hcx,hc,hhi8,hval8⟩
       replace ob8:OB 60 W8 gu Z:=ob8
       replace hl8:Z.length=lu:=hl8
       replace hcx:cBlk W8 bx c:=hcx
       replace hc:c≤1:=hc
       replace hhi8:∀ j,k+(b.length+1)≤j→Z.getD j 0=U.getD j 0:=hhi8
       replace hval8:val Z+4294967296 ^ (k+b.length)*c=val V1+4294967296 ^ k*val vl:=hval8
       have hgi:Z[k+b.length]?=some (Z.getD (k+b.length) 0):=D0 (by omega)
       have hxx:=E1 ob8.1 (k+b.length)
       generalize hx:Z.getD (k+b.length) 0=x at *
       refine .region (.mv rfl rfl (.mv rfl rfl (.mv rfl rfl (.add (m:=(k:Int)) (n:=(b.length:Int)) rfl rfl rfl ?_))))
       rw [hw1]
       refine .mv rfl rfl (.mv rfl rfl (.mv rfl rfl (.mv rfl rfl (.add (m:=(k:Int)) (n:=(b.length:Int)) rfl rfl rfl ?_))))
       rw [hw1]
       refine .ixW un_W A4 rfl rfl rfl (by omega) ?_
       rw [Nat.zero_add]
       refine .ldO A4 rfl rfl ob8 hgi (.cvt C6 C5 rfl rfl ?_)
       rw [wU (n:=(x:Int)) (by omega)]
       refine .callvG [_] rfl rfl G7 rfl (G5 hcx (by omega)) ?_
       rintro _ W9 ⟨rfl,u9,hcx9⟩
       refine .ixW un_W A4 rfl rfl rfl (by omega) ?_
       rw [Nat.zero_add]
       refine .stO A4 rfl rfl rfl (ob8.upd u9 hgux) (by omega) (by omega) fun W10 ob10 u10=>.nil ?_
       have hsum:val (Z.set (k+b.length) ((x+c) % 4294967296))+4294967296 ^ (k+(b.length+1))*((x+c) / 4294967296)=val V1+4294967296 ^ k*val vl:=by
        rw [←Nat.add_assoc k b.length 1,Nat.pow_succ]
        exact Ag0 (y:=0) (X5 _ hgi) (by rw [Nat.add_zero];exact Nat.div_add_mod _ _) hval8 (by omega)
       have hhi10:∀ j,k+(b.length+1)≤j→(Z.set (k+b.length) ((x+c) % 4294967296)).getD j 0=U.getD j 0:=by
        intro j hj
        rw [List.getD_eq_getElem?_getD,List.getElem?_set_ne (by omega),←List.getD_eq_getElem?_getD]
        exact hhi8 j hj
       have hres:=hadd _ _ hsum (AF4 (by simp [hl8,hF.lu]) ob10.1 hhi10 hX) (by omega)
       refine ⟨rfl,(gs-1,_),lkA rfl,u10.below (u9.below hB8 hwbx) hwgu,ob10,(hq8.upd u9 hgqx).upd u10 (Ne.symm hguq),(hv8.upd u9 (fun h=>hgvx h.symm)).upd u10 hguv,by simp [hl8],by show gs-1<4294967296;omega,?_,hlast _ hres⟩
       show _+4294967296 ^ k*(val vl*(gs-1))=val U
       rw [hgq',Nat.add_sub_cancel];exact hres
    ·rintro ⟨dg,U2⟩ W6 ⟨hB6,ob6,hq6,hv6,hl6,hdg,hval6,hlt6⟩
     replace hdg:dg<4294967296:=hdg
     replace hval6:val U2+4294967296 ^ k*(val vl*dg)=val U:=hval6
     refine .region (.mv rfl rfl (.mv rfl rfl (.mv rfl rfl (.cvt (m:=(dg:Int)) C5 C6 rfl rfl ?_))))
     rw [I1,Nat.mod_eq_of_lt hdg]
     refine .ixW (i:=k) un_W A4 rfl rfl rfl (by omega) ?_
     rw [Nat.zero_add]
     refine .stO A4 rfl rfl rfl hq6 (by rw [hF.lq];omega) hdg fun W7 ob7 u7=>.nil (.region (.mv rfl rfl (.sub (m:=(k:Int)) rfl rfl rfl (.asg rfl rfl (.nil ?_)))))
     rw [wI (n:=(k:Int)-1) (by omega)]
     refine ⟨rfl,(k,U2,Q.set k dg),lkA rfl,⟨by show k≤lq;omega,u7.below hB6 hwgq,ob6.upd u7 hguq,ob7,hv6.upd u7 hgqv,hl6,by simp [hF.lq],?_,?_,hlt6⟩,Nat.lt_succ_self k⟩
     ·show val U2+val vl*val (Q.set k dg)=val a*2 ^ s
      have h1:=X5 dg (D0 (l:=Q) (k:=k) (by rw [hF.lq];omega))
      rw [hF.zq k (by omega),Nat.mul_zero,Nat.add_zero] at h1
      rw [h1,←hF.eq,←hval6,Nat.mul_add]
      grind
     ·intro i hi'
      have hi':i<k:=hi'
      show (Q.set k dg).getD i 0=0
      rw [List.getD_eq_getElem?_getD,List.getElem?_set_ne (by omega),←List.getD_eq_getElem?_getD]
      exact hF.zq i (by omega)
 ·rintro ⟨U,Q⟩ W ⟨hB,hu,hq,hv,hlU,hlQ,heq,hzq,hUlt⟩
  replace hu:OB 60 W gu U:=hu
  replace hq:OB 60 W gq Q:=hq
  replace hlU:U.length=lu:=hlU
  replace hlQ:Q.length=lq:=hlQ
  replace heq:val U+val vl*val Q=val a*2 ^ s:=heq
  replace hUlt:val U<val vl:=by have:val U<4294967296 ^ 0*val vl:=hUlt;omega
  refine .seq (.region (.mv rfl rfl (.make_ b.length b.length un_W H5 rfl (by decide) rfl rfl rfl (Nat.le_refl _) (by omega) (by omega) fun w5 gr n5=>.asg rfl rfl (.nil ?_))))
  have obr:OB 60 w5 gr (List.replicate b.length 0):=OB.made n5
  obtain ⟨e5,k5,hgr,hs5⟩:=n5
  have hgur:gu≠gr:=by have:=hu.lt;omega
  have hgqr:gq≠gr:=by have:=hq.lt;omega
  have hwgr:w.heap.size≤gr:=by have:=hB.size;omega
  obtain ⟨hdiv,hmod⟩:=div_end (A:=val a) (b:=val b) (s:=s) (U:=val U) (q:=val Q) (by omega) (by rw [←hvlv];exact heq) (by rw [←hvlv];exact hUlt)
  refine .mid (α:=List Nat) (fun _=>[(4,.slice (some ⟨gq,0,none⟩) lq lq),(5,.slice (some ⟨gr,0,none⟩) b.length b.length)]) (fun R W'=>Below w.heap.size w W'∧OB 60 W' gq Q∧OB 60 W' gr R∧R.length=b.length∧val R=val U / 2 ^ s) ?_ ?_
  ·refine .seq (.region (.mv rfl rfl (.mv rfl rfl (.nil ?_))))
   refine .block (.loop (α:=Nat×List Nat) (fun x=>[(4,.slice (some ⟨gq,0,none⟩) lq lq),(5,.slice (some ⟨gr,0,none⟩) b.length b.length),(7,.int .u64 (s:Nat)),(8,.slice (some ⟨gu,0,none⟩) lu cu),(115,.int .i64 (b.length:Nat)),(116,.int .i64 (x.1:Nat))])
    (fun x W'=>x.1≤b.length∧Below w.heap.size w W'∧OB 60 W' gu U∧OB 60 W' gq Q∧OB 60 W' gr x.2∧x.2.length=b.length∧val x.2=(val U / 2 ^ s) % 4294967296 ^ x.1∧∀ j,x.1≤j→x.2.getD j 0=0) (fun x=>b.length-x.1) (0,List.replicate b.length 0) ?_ ?_ ?_)
   ·exact lkA rfl
   ·refine ⟨Nat.zero_le _,hB.trans (e5.mono hB.size),hu.ext e5,hq.ext e5,obr,by simp,?_,fun j _=>?_⟩
    ·show val (List.replicate b.length 0)=_ % 4294967296 ^ 0
     rw [M2,Nat.pow_zero,Nat.mod_one]
    ·show (List.replicate b.length 0).getD j 0=0
     rw [List.getD_eq_getElem?_getD,List.getElem?_replicate];split<;>rfl
   ·rintro ⟨i,R⟩ W6 ⟨hi,hB6,hu6,hq6,hr6,hlR,hvR,hzR⟩
    replace hi:i≤b.length:=hi
    replace hr6:OB 60 W6 gr R:=hr6
    replace hlR:R.length=b.length:=hlR
    replace hvR:val R=(val U / 2 ^ s) % 4294967296 ^ i:=hvR
    replace hzR:∀ j,i≤j→R.getD j 0=0:=hzR
    by_cases hlt:i<b.length
    ·refine .seq (.region (.lssT rfl rfl rfl (by show (i:Int)<(b.length:Int);omega) (.nil (.seq (.condT rfl (.skip (.seq (.block (.seq (.region (.mv rfl rfl (.asg rfl rfl (.nil ?_)))))))))))))
     have g0:U[i]?=some (U.getD i 0):=D0 (by omega)
     have g1:U[i+1]?=some (U.getD (i+1) 0):=D0 (by omega)
     have d0:=E1 hu.1 i
     have d1:=E1 hu.1 (i+1)
     have hdig:=Ao3 (i:=i) hu.1 hs (by omega)
     generalize U.getD i 0=x0 at *
     generalize U.getD (i+1) 0=x1 at *
     refine .held follows true (fun W'=>OB 60 W' gu U) [some _,some (.int .i64 (i:Nat)),some _,some (.int .i64 (i:Nat)),some (.pointer (some ⟨gu,i,none⟩)),some (wv x0),some (.int .u64 (x0:Nat)),some _,some (.int .i64 (i:Nat)),some (.int .i64 ((i+1:Nat):Int)),some (.pointer (some ⟨gu,i+1,none⟩)),some (wv x1),some (.int .u64 (x1:Nat)),
      some (.int .u64 ((x1*4294967296:Nat):Int)),some (.int .u64 ((x0+4294967296*x1:Nat):Int)),some _,some (.int .u64 (((x0+4294967296*x1) / 2 ^ s:Nat):Int)),some (wv (((x0+4294967296*x1) / 2 ^ s) % 4294967296)),some (.pointer (some ⟨gr,i,none⟩)),none] (by kernel_rfl) ⟨
      fun _ _=>v_mv rfl,fun _ _=>v_mv rfl,fun _ _=>v_mv rfl,fun _ _=>v_mv rfl,fun _ _=>(Ad3 (i:=i) un_W A4 rfl rfl (by omega)).eq (by rw [Nat.zero_add]),fun _ h=>Al4 A4 rfl h g0,fun _ _=>(Z2 C6 C5 rfl).eq (by rw [wU (by omega)]),
      fun _ _=>v_mv rfl,fun _ _=>v_mv rfl,fun _ _=>(AV3 (m:=(i:Int)) rfl rfl).eq (by rw [wI (by omega)];rfl),fun _ _=>(Ad3 (i:=i+1) un_W A4 rfl rfl (by omega)).eq (by rw [Nat.zero_add]),fun _ h=>Al4 A4 rfl h g1,fun _ _=>(Z2 C6 C5 rfl).eq (by rw [wU (by omega)]),
      fun _ _=>(Al1 rfl rfl (by decide)).eq (by rw [shl32 x1 d1]),fun _ _=>(v_or rfl rfl).eq (by rw [Ai7 _ _ (by omega) (by omega),or32 x0 x1 d0]),fun _ _=>v_mv rfl,fun _ _=>(v_shr rfl rfl (by omega)).eq (by rw [shr_nat _ _ (by omega)]),fun _ _=>(Z2 C5 C6 rfl).eq (by rw [I1]),fun _ _=>(Ad3 (i:=i) un_W A4 rfl rfl (by omega)).eq (by rw [Nat.zero_add]),trivial⟩ ?_
     intro W7 e7 _
     refine .gv (hu6.ext e7) rfl (g_stO A4 rfl rfl (hr6.ext e7) (by omega) (Nat.mod_lt _ (by omega))) ?_
     rintro _ W8 ⟨hr8,u8⟩
     refine .nil (.inl rfl) (.region (.add (m:=(i:Int)) rfl rfl rfl (.mv rfl rfl (.nil ?_))))
     rw [wI (n:=(i:Int)+1) (by omega)]
     refine ⟨rfl,(i+1,_),lkA rfl,⟨hlt,u8.below (hB6.trans (e7.mono hB6.size)) hwgr,(hu6.ext e7).upd u8 hgur,(hq6.ext e7).upd u8 hgqr,hr8,by simp [hlR],?_,?_⟩,by show b.length-(i+1)<b.length-i;omega⟩
     ·show val (R.set i (((x0+4294967296*x1) / 2 ^ s) % 4294967296))=(val U / 2 ^ s) % 4294967296 ^ (i+1)
      have h1:=X5 (((x0+4294967296*x1) / 2 ^ s) % 4294967296) (D0 (l:=R) (k:=i) (by omega))
      rw [hzR i (Nat.le_refl _),Nat.mul_zero,Nat.add_zero] at h1
      rw [h1,hdig,hvR]
     ·intro j hj
      have hj:i+1≤j:=hj
      show (R.set i (((x0+4294967296*x1) / 2 ^ s) % 4294967296)).getD j 0=0
      rw [List.getD_eq_getElem?_getD,List.getElem?_set_ne (by omega),←List.getD_eq_getElem?_getD]
      exact hzR j (by omega)
    ·refine .seq (.region (.lssF rfl rfl rfl (by show ¬ (i:Int)<(b.length:Int);omega) (.nil (.seq (.condF rfl (.exit ?_))))))
     have:i=b.length:=by omega
     subst this
     refine ⟨rfl,R,lkA rfl,hB6,hq6,hr6,hlR,?_⟩
     rw [hvR,Nat.mod_eq_of_lt]
     refine Nat.lt_of_le_of_lt (Nat.div_le_self _ _) ?_
     rw [hlb];omega
  ·rintro R W6 ⟨hB6,hq6,hr6,hlR,hvR⟩
   refine .seq (.region (.mv rfl rfl (.mv rfl rfl (.asg rfl rfl (.asg rfl rfl (.nil (.ret ?_)))))))
   refine .plain [_,_] Tryz.results282 ⟨rfl,rfl,trivial⟩ ⟨hB6,_,_,rfl,⟨Q,?_,hdiv.symm,by omega⟩,⟨R,?_,by rw [hvR,hmod],by omega⟩⟩
   ·have:=hq6.toR0 (S:=T0) (c:=lq) (upo gq (by omega)) (by omega) (by omega)
    rw [hlQ] at this;exact this
   ·have:=hr6.toR0 (S:=S) (c:=b.length) (up gr (by omega)) (by omega) (by omega)
    rw [hlR] at this;exact this
end Go.Proofs.YtfilidfomgfnhaaGreat

namespace Go.Kx
open Go
theorem AD9 (b:BitVec 64):IntKind.i64.wrap (b.toNat:Int)=b.toInt:=by
 rw [IntKind.wrap_i64,BitVec.toInt_eq_toNat_cond]
 have:=b.isLt
 split<;>omega
theorem X7 (b:BitVec 64):BitVec.ofInt 64 (IntKind.i64.wrap (b.toNat:Int))=b:=by
 rw [AD9,BitVec.ofInt_toInt]
theorem P7 {x:Int} (h1 : -9223372036854775808≤x) (h2:x≤9223372036854775807):(BitVec.ofInt 64 x).msb=decide (x<0):=by
 rw [BitVec.msb_eq_decide,BitVec.toNat_ofInt]
 simp only [decide_eq_decide]
 omega
theorem AF6 {b:BitVec 64}:0≤b.toInt↔b.msb=false:=by
 rw [BitVec.toInt_eq_msb_cond]
 have:=b.isLt
 cases b.msb<;>simp<;>omega
theorem add_ok {x y:Int} (hx1 : -9223372036854775808≤x) (hx2:x≤9223372036854775807) (hy1 : -9223372036854775808≤y) (hy2:y≤9223372036854775807)
  (h:0≤IntKind.i64.wrap (BitVec.ofInt IntKind.i64.bits (IntKind.i64.wrap (BitVec.ofInt IntKind.i64.bits x ^^^ BitVec.ofInt IntKind.i64.bits (IntKind.i64.wrap (x+y))).toNat) &&& BitVec.ofInt IntKind.i64.bits (IntKind.i64.wrap (BitVec.ofInt IntKind.i64.bits y ^^^ BitVec.ofInt IntKind.i64.bits (IntKind.i64.wrap (x+y))).toNat)).toNat) :
  IntKind.i64.wrap (x+y)=x+y:=by
 change 0≤IntKind.i64.wrap (BitVec.ofInt 64 (IntKind.i64.wrap (BitVec.ofInt 64 x ^^^ BitVec.ofInt 64 (IntKind.i64.wrap (x+y))).toNat) &&& BitVec.ofInt 64 (IntKind.i64.wrap (BitVec.ofInt 64 y ^^^ BitVec.ofInt 64 (IntKind.i64.wrap (x+y))).toNat)).toNat at h
 rw [X7,X7,AD9,AF6,BitVec.msb_and,BitVec.msb_xor,BitVec.msb_xor] at h
 have hr : -9223372036854775808≤IntKind.i64.wrap (x+y)∧IntKind.i64.wrap (x+y)≤9223372036854775807:=by rw [IntKind.wrap_i64];omega
 rw [P7 hx1 hx2,P7 hy1 hy2,P7 hr.1 hr.2] at h
 rw [IntKind.wrap_i64] at h ⊢
 simp only [Bool.and_eq_false_iff,bne_eq_false_iff_eq,decide_eq_decide] at h
 omega
theorem sub_ok {x y:Int} (hx1 : -9223372036854775808≤x) (hx2:x≤9223372036854775807) (hy1 : -9223372036854775808≤y) (hy2:y≤9223372036854775807)
  (h:0≤IntKind.i64.wrap (BitVec.ofInt IntKind.i64.bits (IntKind.i64.wrap (BitVec.ofInt IntKind.i64.bits x ^^^ BitVec.ofInt IntKind.i64.bits y).toNat) &&& BitVec.ofInt IntKind.i64.bits (IntKind.i64.wrap (BitVec.ofInt IntKind.i64.bits x ^^^ BitVec.ofInt IntKind.i64.bits (IntKind.i64.wrap (x-y))).toNat)).toNat) :
  IntKind.i64.wrap (x-y)=x-y:=by
 change 0≤IntKind.i64.wrap (BitVec.ofInt 64 (IntKind.i64.wrap (BitVec.ofInt 64 x ^^^ BitVec.ofInt 64 y).toNat) &&& BitVec.ofInt 64 (IntKind.i64.wrap (BitVec.ofInt 64 x ^^^ BitVec.ofInt 64 (IntKind.i64.wrap (x-y))).toNat)).toNat at h
 rw [X7,X7,AD9,AF6,BitVec.msb_and,BitVec.msb_xor,BitVec.msb_xor] at h
 have hr : -9223372036854775808≤IntKind.i64.wrap (x-y)∧IntKind.i64.wrap (x-y)≤9223372036854775807:=by rw [IntKind.wrap_i64];omega
 rw [P7 hx1 hx2,P7 hy1 hy2,P7 hr.1 hr.2] at h
 rw [IntKind.wrap_i64] at h ⊢
 simp only [Bool.and_eq_false_iff,bne_eq_false_iff_eq,decide_eq_decide] at h
 omega
end Go.Kx

namespace Go.Proofs.YtfilidfomgfnhaaGreat
open Go Go.Kx Go.RowKit
theorem sg_add (b:Bool) (m n:Nat):sg b (m+n)=sg b m+sg b n:=by cases b<;>simp [sg]<;>omega
theorem At1 (b:Bool) (m n:Nat) (h:n≤m):sg b (m-n)=sg b m+sg (!b) n:=by cases b<;>simp [sg]<;>omega
theorem AV7 (b:Bool) (n:Nat):(sg b n).natAbs=n:=by cases b<;>simp [sg]
theorem AH6 {m n:Nat}:cmpN m n<0↔m<n:=by unfold cmpN;split<;>(try split)<;>omega
theorem S7:Ent Tryz.prog 267:=A0 Tryz.func267 (by kernel_rfl) rfl
theorem R8 {S:Nat→Prop} {w:World} {va vb:Value} {m n:Nat} {p q:Bool} (up:Up S w) (ha:eW.R S w va (wds m)) (hb:eW.R S w vb (wds n)) (hla:(wds m).length≤1099511627776) (hlb:(wds n).length≤1099511627776) :
  CR Tryz.prog 267 #[.bool p,va,.bool q,vb] w (eZ.at S (zc (sg p m+sg q n))):=by
 refine enter Tryz.func267 rfl Tryz.ntmps267 rfl ?_
 refine .seq (.region (.alloc rfl D3 fun w1 b1 n1=>.nil ?_))
 obtain ⟨e1,k1,hb1,hs1⟩:=n1
 have hS:¬ Sx S w.heap.size w1.heap.size b1:=Sx.no (by omega) (by omega)
 have up1:Up (Sx S w.heap.size w1.heap.size) w1:=Sx.up up (Nat.le_refl _) e1.size
 have ha1:=(ha.par w1.heap.size).ext e1
 have hb1':=(hb.par w1.heap.size).ext e1
 refine .seq (.seq (.region (.mv rfl rfl (.mv rfl rfl (.eqlB AF5 rfl rfl rfl (.nil ?_))))))
 by_cases hpq:p=q
 ·subst hpq
  refine .condT (by rw [beq_self_eq_true];rfl) (.seq (.region (.mv rfl rfl (.mv rfl rfl (.mv rfl rfl ?_)))))
  refine .call _ rfl V8 rfl (U7 up1 ha1 hb1' hla hlb) fun v2 w2 e2 h2=>?_
  obtain ⟨r,hr,hv,hl⟩:=h2
  refine .call _ rfl E6 rfl (E4 (up1.ext e2.size) hr) fun v3 w3 e3 h3=>?_
  refine .storeA ty_Z rfl rfl ((k1.ext e2).ext e3) rfl rfl h3 hS fun w4 k4 u4 h4=>.nil (.ret ?_)
  refine .cell Tryz.results267 rfl ty_Z rfl rfl k4 h4 ⟨u4.below ((e1.trans e2).trans e3) (by omega),?_⟩
  rw [←sg_add,show m+n=val r by rw [hv,B5,B5]]
  exact h4.out
 ·have hq:q = !p:=by cases p<;>cases q<;>simp_all
  subst hq
  refine .condF (by cases p<;>rfl) (.skip (.seq (.seq (.region (.mv rfl rfl (.mv rfl rfl ?_))))))
  refine .call _ rfl G3 rfl (G0 ha1 hb1') fun v2 w2 e2 h2=>?_
  subst h2
  have ha2:=ha1.ext e2
  have hb2:=hb1'.ext e2
  have up2:=up1.ext e2.size
  by_cases hlt:m<n
  ·refine .lssT rfl rfl rfl (AH6.2 hlt) (.nil (.condT rfl (.seq (.region (.mv rfl rfl (.mv rfl rfl (.mv rfl rfl ?_)))))))
   refine .call _ rfl O1 rfl (N6 up2 hb2 ha2 hlb hla (by rw [B5,B5];omega)) fun v3 w3 e3 h3=>?_
   obtain ⟨r,hr,hv,hl⟩:=h3
   refine .call _ rfl E6 rfl (E4 (up2.ext e3.size) hr) fun v4 w4 e4 h4=>?_
   refine .storeA ty_Z rfl rfl (((k1.ext e2).ext e3).ext e4) rfl rfl h4 hS fun w5 k5 u5 h5=>.nil (.ret ?_)
   refine .cell Tryz.results267 rfl ty_Z rfl rfl k5 h5 ⟨u5.below (((e1.trans e2).trans e3).trans e4) (by omega),?_⟩
   rw [show sg p m+sg (!p) n=sg (!p) (val r) by
    rw [hv,B5,B5,At1 _ _ _ (by omega),Bool.not_not,Int.add_comm]]
   exact h5.out
  ·refine .lssF rfl rfl rfl (fun h=>hlt (AH6.1 h)) (.nil (.condF rfl (.skip (.seq (.region (.mv rfl rfl (.mv rfl rfl (.mv rfl rfl ?_))))))))
   refine .call _ rfl O1 rfl (N6 up2 ha2 hb2 hla hlb (by rw [B5,B5];omega)) fun v3 w3 e3 h3=>?_
   obtain ⟨r,hr,hv,hl⟩:=h3
   refine .call _ rfl E6 rfl (E4 (up2.ext e3.size) hr) fun v4 w4 e4 h4=>?_
   refine .storeA ty_Z rfl rfl (((k1.ext e2).ext e3).ext e4) rfl rfl h4 hS fun w5 k5 u5 h5=>.nil (.ret ?_)
   refine .cell Tryz.results267 rfl ty_Z rfl rfl k5 h5 ⟨u5.below (((e1.trans e2).trans e3).trans e4) (by omega),?_⟩
   rw [show sg p m+sg (!p) n=sg p (val r) by
    rw [hv,B5,B5,At1 _ _ _ (by omega)]]
   exact h5.out
theorem AD0 {n:Int}:i64ok n=true ↔ -9223372036854775808≤n∧n≤9223372036854775807:=by simp [i64ok]
theorem Ag5:Ent Tryz.prog 239:=A0 Tryz.func239 (by kernel_rfl) rfl
theorem Ac5 {S:Nat→Prop} {w:World} {va vb:Value} {x y:ZV} (up:Up S w) (ha:eZ.R S w va x) (hb:eZ.R S w vb y) (hla:x.w.length≤1099511627776) (hlb:y.w.length≤1099511627776) :
  CR Tryz.prog 239 #[va,vb] w (eZ.at S (zc (zval x+zval y))):=by
 obtain ⟨sa,rfl,hsa⟩:=ha
 obtain ⟨sb,rfl,hsb⟩:=hb
 have hda:dig x.w:=E3 hsa
 have hdb:dig y.w:=E3 hsb
 refine enter Tryz.func239 rfl Tryz.ntmps239 rfl ?_
 refine .seq (.region (.box rfl rfl fun w1 b1 n1=>.box rfl rfl fun w2 b2 n2=>.alloc rfl D3 fun w3 b3 n3=>.nil ?_))
 obtain ⟨e1,k1,hb1,hs1⟩:=n1
 obtain ⟨e2,k2,hb2,hs2⟩:=n2
 obtain ⟨e3,k3,hb3,hs3⟩:=n3
 have x3:=(e1.trans e2).trans e3
 have k1:=(k1.ext e2).ext e3
 have k2:=k2.ext e3
 have hS:¬ Sx S w.heap.size w3.heap.size b3:=Sx.no (by omega) (by omega)
 have up3:Up (Sx S w.heap.size w3.heap.size) w3:=Sx.up up (Nat.le_refl _) x3.size
 have hsa3:=(hsa.par w3.heap.size).ext x3
 have hsb3:=(hsb.par w3.heap.size).ext x3
 refine .seq (.region (.ldA ty_Z rfl rfl k1 rfl ?_))
 refine .call _ rfl G6 rfl (G4 (z:=x) ⟨sa,rfl,hsa3⟩) fun v4 w4 e4 h4=>?_
 subst h4
 refine .mv rfl rfl (.ext rfl rfl rfl (.ext rfl rfl rfl (.asg rfl rfl (.asg rfl rfl (.nil ?_)))))
 refine .seq (.region (.ldA ty_Z rfl rfl (k2.ext e4) rfl ?_))
 refine .call _ rfl G6 rfl (G4 (z:=y) ⟨sb,rfl,hsb3.ext e4⟩) fun v5 w5 e5 h5=>?_
 subst h5
 refine .mv rfl rfl (.ext rfl rfl rfl (.ext rfl rfl rfl (.asg rfl rfl (.asg rfl rfl (.nil ?_)))))
 have x35:=e4.trans e5
 have x5:=x3.trans x35
 have up5:=up3.ext x35.size
 refine .mid (α:=Unit) (fun _=>[(2,.pointer (some ⟨b1,0,none⟩)),(3,.pointer (some ⟨b2,0,none⟩)),(4,.pointer (some ⟨b3,0,none⟩))]) (fun _ W=>W=w5) ?_ ?_
 ·refine .seq (.region (.mv rfl rfl (.mv rfl rfl ?_)))
  cases hx:i64ok (zval x) with
  | false =>
   refine .gs rfl rfl rfl rfl rfl (.pick rfl rfl rfl (.nil (.condF rfl (.skip ?_))))
   exact ⟨rfl,(),lkA rfl,rfl⟩
  | true =>
   have hx':=AD0.1 hx
   refine .gr rfl rfl rfl rfl (.mv rfl rfl (.pick rfl rfl rfl (.nil ?_)))
   cases hy:i64ok (zval y) with
   | false =>
    refine .condF rfl (.skip ?_)
    exact ⟨rfl,(),lkA rfl,rfl⟩
   | true =>
    have hy':=AD0.1 hy
    have ex:i64v (zval x)=zval x:=by rw [i64v,hx];rfl
    have ey:i64v (zval y)=zval y:=by rw [i64v,hy];rfl
    rw [ex,ey]
    refine .condT rfl (.seq (.region (.mv rfl rfl (.mv rfl rfl (.add rfl rfl rfl (.asg rfl rfl (.nil ?_)))))))
    refine .seq (.region (.mv rfl rfl (.mv rfl rfl (.xor_ rfl rfl rfl (.mv rfl rfl (.mv rfl rfl (.xor_ rfl rfl rfl (.and_ rfl rfl rfl (.geq rfl rfl rfl (.nil ?_))))))))))
    refine .cond rfl (fun hc=>?_) (fun hc=>.skip ⟨rfl,(),lkA rfl,rfl⟩)
    have hsum:=add_ok hx'.1 hx'.2 hy'.1 hy'.2 (of_decide_eq_true hc)
    refine .seq (.region (.mv rfl rfl ?_))
    have hr : -9223372036854775808≤IntKind.i64.wrap (zval x+zval y)∧IntKind.i64.wrap (zval x+zval y)≤9223372036854775807:=by rw [IntKind.wrap_i64];omega
    refine .call _ rfl C4 rfl (C3 up5 hr.1 hr.2) fun v6 w6 e6 h6=>?_
    refine .storeA ty_Z rfl rfl ((k3.ext x35).ext e6) rfl rfl h6 hS fun w7 k7 u7 h7=>.nil (.ret ?_)
    refine .cell Tryz.results239 rfl ty_Z rfl rfl k7 h7 ⟨u7.below (x5.trans e6) (by omega),?_⟩
    rw [hsum] at h7
    exact h7.out
 ·rintro _ _ rfl
  have hsa5:=hsa3.ext x35
  have hsb5:=hsb3.ext x35
  have k1:=k1.ext x35
  have k2:=k2.ext x35
  refine .seq ?_
  refine .par follows 11 [.inl _,.inl _,.inl _,.inl _,.inr (eW.at (Sx S w.heap.size w3.heap.size) (wds (val x.w))),.inl _,.inl _,.inl _,.inl _,.inr (eW.at (Sx S w.heap.size w3.heap.size) (wds (val y.w))),.inr (eZ.at (Sx S w.heap.size w3.heap.size) (zc (sg x.neg (val x.w)+sg y.neg (val y.w))))]
   [[],[(37,0)],[],[(39,2)],[(40,3)],[],[(42,5)],[],[(44,7)],[(45,8)],[(38,1),(41,4),(43,6),(46,9)]] (by kernel_rfl) ⟨
   fun w e=>(v_fa N1 rfl).ob,
   fun w e=>(v_ld I7 rfl (k1.ext e) rfl).ob,
   fun w e=>(v_fa H6 rfl).ob,
   fun w e=>(v_ld ty_W rfl (k1.ext e) rfl).ob,
   fun w e=>(A2 _ B4 rfl (by rw [←D2 hda];exact B3 (hsa5.ext e))).ob (A6 _ _ _),
   fun w e=>(v_fa N1 rfl).ob,
   fun w e=>(v_ld I7 rfl (k2.ext e) rfl).ob,
   fun w e=>(v_fa H6 rfl).ob,
   fun w e=>(v_ld ty_W rfl (k2.ext e) rfl).ob,
   fun w e=>(A2 _ B4 rfl (by rw [←D2 hdb];exact B3 (hsb5.ext e))).ob (A6 _ _ _),
   fun w e x4 hx4 x9 hx9=>(A2 _ S7 rfl (R8 (up5.ext e.size) hx4 hx9 (Nat.le_trans (D5 hda) hla) (Nat.le_trans (D5 hdb) hlb))).ob (A6 _ _ _),trivial⟩ ?_
  intro w6 e6 x4 hx4 x9 hx9 x10 hx10
  refine .storeA ty_Z rfl rfl ((k3.ext x35).ext e6) rfl rfl hx10 hS fun w7 k7 u7 h7=>.nil (.ret ?_)
  refine .cell Tryz.results239 rfl ty_Z rfl rfl k7 h7 ⟨u7.below (x5.trans e6) (by omega),h7.out⟩
theorem Ag2:Ent Tryz.prog 241:=A0 Tryz.func241 (by kernel_rfl) rfl
theorem Ac2 {S:Nat→Prop} {w:World} {va vb:Value} {x y:ZV} (up:Up S w) (ha:eZ.R S w va x) (hb:eZ.R S w vb y) (hla:x.w.length≤1099511627776) (hlb:y.w.length≤1099511627776) :
  CR Tryz.prog 241 #[va,vb] w (eZ.at S (zc (zval x-zval y))):=by
 obtain ⟨sa,rfl,hsa⟩:=ha
 obtain ⟨sb,rfl,hsb⟩:=hb
 have hda:dig x.w:=E3 hsa
 have hdb:dig y.w:=E3 hsb
 refine enter Tryz.func241 rfl Tryz.ntmps241 rfl ?_
 refine .seq (.region (.box rfl rfl fun w1 b1 n1=>.box rfl rfl fun w2 b2 n2=>.alloc rfl D3 fun w3 b3 n3=>.nil ?_))
 obtain ⟨e1,k1,hb1,hs1⟩:=n1
 obtain ⟨e2,k2,hb2,hs2⟩:=n2
 obtain ⟨e3,k3,hb3,hs3⟩:=n3
 have x3:=(e1.trans e2).trans e3
 have k1:=(k1.ext e2).ext e3
 have k2:=k2.ext e3
 have hS:¬ Sx S w.heap.size w3.heap.size b3:=Sx.no (by omega) (by omega)
 have up3:Up (Sx S w.heap.size w3.heap.size) w3:=Sx.up up (Nat.le_refl _) x3.size
 have hsa3:=(hsa.par w3.heap.size).ext x3
 have hsb3:=(hsb.par w3.heap.size).ext x3
 refine .seq (.region (.ldA ty_Z rfl rfl k1 rfl ?_))
 refine .call _ rfl G6 rfl (G4 (z:=x) ⟨sa,rfl,hsa3⟩) fun v4 w4 e4 h4=>?_
 subst h4
 refine .mv rfl rfl (.ext rfl rfl rfl (.ext rfl rfl rfl (.asg rfl rfl (.asg rfl rfl (.nil ?_)))))
 refine .seq (.region (.ldA ty_Z rfl rfl (k2.ext e4) rfl ?_))
 refine .call _ rfl G6 rfl (G4 (z:=y) ⟨sb,rfl,hsb3.ext e4⟩) fun v5 w5 e5 h5=>?_
 subst h5
 refine .mv rfl rfl (.ext rfl rfl rfl (.ext rfl rfl rfl (.asg rfl rfl (.asg rfl rfl (.nil ?_)))))
 have x35:=e4.trans e5
 have x5:=x3.trans x35
 have up5:=up3.ext x35.size
 refine .mid (α:=Unit) (fun _=>[(2,.pointer (some ⟨b1,0,none⟩)),(3,.pointer (some ⟨b2,0,none⟩)),(4,.pointer (some ⟨b3,0,none⟩))]) (fun _ W=>W=w5) ?_ ?_
 ·refine .seq (.region (.mv rfl rfl (.mv rfl rfl ?_)))
  cases hx:i64ok (zval x) with
  | false =>
   refine .gs rfl rfl rfl rfl rfl (.pick rfl rfl rfl (.nil (.condF rfl (.skip ?_))))
   exact ⟨rfl,(),lkA rfl,rfl⟩
  | true =>
   have hx':=AD0.1 hx
   refine .gr rfl rfl rfl rfl (.mv rfl rfl (.pick rfl rfl rfl (.nil ?_)))
   cases hy:i64ok (zval y) with
   | false =>
    refine .condF rfl (.skip ?_)
    exact ⟨rfl,(),lkA rfl,rfl⟩
   | true =>
    have hy':=AD0.1 hy
    have ex:i64v (zval x)=zval x:=by rw [i64v,hx];rfl
    have ey:i64v (zval y)=zval y:=by rw [i64v,hy];rfl
    rw [ex,ey]
    refine .condT rfl (.seq (.region (.mv rfl rfl (.mv rfl rfl (.sub rfl rfl rfl (.asg rfl rfl (.nil ?_)))))))
    refine .seq (.region (.mv rfl rfl (.mv rfl rfl (.xor_ rfl rfl rfl (.mv rfl rfl (.mv rfl rfl (.xor_ rfl rfl rfl (.and_ rfl rfl rfl (.geq rfl rfl rfl (.nil ?_))))))))))
    refine .cond rfl (fun hc=>?_) (fun hc=>.skip ⟨rfl,(),lkA rfl,rfl⟩)
    have hsum:=sub_ok hx'.1 hx'.2 hy'.1 hy'.2 (of_decide_eq_true hc)
    refine .seq (.region (.mv rfl rfl ?_))
    have hr : -9223372036854775808≤IntKind.i64.wrap (zval x-zval y)∧IntKind.i64.wrap (zval x-zval y)≤9223372036854775807:=by rw [IntKind.wrap_i64];omega
    refine .call _ rfl C4 rfl (C3 up5 hr.1 hr.2) fun v6 w6 e6 h6=>?_
    refine .storeA ty_Z rfl rfl ((k3.ext x35).ext e6) rfl rfl h6 hS fun w7 k7 u7 h7=>.nil (.ret ?_)
    refine .cell Tryz.results241 rfl ty_Z rfl rfl k7 h7 ⟨u7.below (x5.trans e6) (by omega),?_⟩
    rw [hsum] at h7
    exact h7.out
 ·rintro _ _ rfl
  have hsa5:=hsa3.ext x35
  have hsb5:=hsb3.ext x35
  have k1:=k1.ext x35
  have k2:=k2.ext x35
  refine .seq ?_
  refine .par follows 12 [.inl _,.inl _,.inl _,.inl _,.inr (eW.at (Sx S w.heap.size w3.heap.size) (wds (val x.w))),.inl _,.inl _,.inl _,.inl _,.inl _,.inr (eW.at (Sx S w.heap.size w3.heap.size) (wds (val y.w))),.inr (eZ.at (Sx S w.heap.size w3.heap.size) (zc (sg x.neg (val x.w)+sg (!y.neg) (val y.w))))]
   [[],[(37,0)],[],[(39,2)],[(40,3)],[],[(42,5)],[(43,6)],[],[(45,8)],[(46,9)],[(38,1),(41,4),(44,7),(47,10)]] (by kernel_rfl) ⟨
   fun w e=>(v_fa N1 rfl).ob,
   fun w e=>(v_ld I7 rfl (k1.ext e) rfl).ob,
   fun w e=>(v_fa H6 rfl).ob,
   fun w e=>(v_ld ty_W rfl (k1.ext e) rfl).ob,
   fun w e=>(A2 _ B4 rfl (by rw [←D2 hda];exact B3 (hsa5.ext e))).ob (A6 _ _ _),
   fun w e=>(v_fa N1 rfl).ob,
   fun w e=>(v_ld I7 rfl (k2.ext e) rfl).ob,
   fun w e=>(Ad2 rfl).ob,
   fun w e=>(v_fa H6 rfl).ob,
   fun w e=>(v_ld ty_W rfl (k2.ext e) rfl).ob,
   fun w e=>(A2 _ B4 rfl (by rw [←D2 hdb];exact B3 (hsb5.ext e))).ob (A6 _ _ _),
   fun w e x4 hx4 x9 hx9=>(A2 _ S7 rfl (R8 (up5.ext e.size) hx4 hx9 (Nat.le_trans (D5 hda) hla) (Nat.le_trans (D5 hdb) hlb))).ob (A6 _ _ _),trivial⟩ ?_
  intro w6 e6 x4 hx4 x9 hx9 x10 hx10
  refine .storeA ty_Z rfl rfl ((k3.ext x35).ext e6) rfl rfl hx10 hS fun w7 k7 u7 h7=>.nil (.ret ?_)
  refine .cell Tryz.results241 rfl ty_Z rfl rfl k7 h7 ⟨u7.below (x5.trans e6) (by omega),?_⟩
  rw [show zval x-zval y=sg x.neg (val x.w)+sg (!y.neg) (val y.w) by unfold zval sg;cases x.neg<;>cases y.neg<;>simp<;>omega]
  exact h7.out
theorem sg_mul (a b:Bool) (m n:Nat):sg (a != b) (m*n)=sg a m*sg b n:=by
 cases a<;>cases b<;>simp [sg,Int.natCast_mul,Int.neg_mul,Int.mul_neg]
theorem D9:Ent Tryz.prog 135:=A0 Tryz.func135 (by kernel_rfl) rfl
theorem D8 {S:Nat→Prop} {w:World} {va vb:Value} {x y:ZV} (up:Up S w) (ha:eZ.R S w va x) (hb:eZ.R S w vb y) (hla:x.w.length≤1099511627776) (hlb:y.w.length≤1099511627776) :
  CR Tryz.prog 135 #[va,vb] w (eZ.at S (zc (zval x*zval y))):=by
 obtain ⟨sa,rfl,hsa⟩:=ha
 obtain ⟨sb,rfl,hsb⟩:=hb
 have hda:dig x.w:=E3 hsa
 have hdb:dig y.w:=E3 hsb
 have hla':=Nat.le_trans (D5 hda) hla
 have hlb':=Nat.le_trans (D5 hdb) hlb
 refine enter Tryz.func135 rfl Tryz.ntmps135 rfl ?_
 refine .seq (.region (.box rfl rfl fun w1 b1 n1=>.box rfl rfl fun w2 b2 n2=>.alloc rfl D3 fun w3 b3 n3=>.nil ?_))
 obtain ⟨e1,k1,hb1,hs1⟩:=n1
 obtain ⟨e2,k2,hb2,hs2⟩:=n2
 obtain ⟨e3,k3,hb3,hs3⟩:=n3
 have x3:=(e1.trans e2).trans e3
 have k1:=(k1.ext e2).ext e3
 have k2:=k2.ext e3
 have hS:¬ Sx S w.heap.size w3.heap.size b3:=Sx.no (by omega) (by omega)
 have up3:Up (Sx S w.heap.size w3.heap.size) w3:=Sx.up up (Nat.le_refl _) x3.size
 have hsa3:=(hsa.par w3.heap.size).ext x3
 have hsb3:=(hsb.par w3.heap.size).ext x3
 generalize hT:Sx S w.heap.size w3.heap.size=T at *
 have hprod:zval x*zval y=sg (x.neg != y.neg) (val x.w*val y.w):=by rw [sg_mul];rfl
 refine .seq ?_
 refine .par follows 7 [.inl _,.inl _,.inr (eW.at T (wds (val x.w))),.inl _,.inl _,.inr (eW.at T (wds (val y.w))),.inr (eW.at T (wds (val x.w)))] [[],[(7,0)],[(8,1)],[],[(10,3)],[(11,4)],[(9,2)]] (by kernel_rfl) ⟨
  fun w e=>(v_fa H6 rfl).ob,
  fun w e=>(v_ld ty_W rfl (k1.ext e) rfl).ob,
  fun w e=>(A2 _ B4 rfl (by rw [←D2 hda];exact B3 (hsa3.ext e))).ob (A6 _ _ _),
  fun w e=>(v_fa H6 rfl).ob,
  fun w e=>(v_ld ty_W rfl (k2.ext e) rfl).ob,
  fun w e=>(A2 _ B4 rfl (by rw [←D2 hdb];exact B3 (hsb3.ext e))).ob (A6 _ _ _),
  fun w e x2 hx2=>An0 rfl hx2 (A6 _ _ _),trivial⟩ ?_
 intro w4 e4 u2 hu2 u5 hu5 u6 hu6
 refine .asg rfl rfl (.nil ?_)
 have x4:=x3.trans e4
 have up4:=up3.ext e4.size
 have k1:=k1.ext e4
 have k2:=k2.ext e4
 have k3:=k3.ext e4
 have hla1:=AO8 hu6
 have hlb1:=AO8 hu5
 refine .mid (α:=Unit) (fun _=>[(2,.pointer (some ⟨b1,0,none⟩)),(3,.pointer (some ⟨b2,0,none⟩)),(4,.pointer (some ⟨b3,0,none⟩)),(5,u6),(6,u5)]) (fun _ W=>W=w4) ?_ ?_
 ·refine .seq (.region (.mv rfl rfl (.lenR un_W rfl rfl hu6 ?_)))
  by_cases h1:(wds (val x.w)).length≤1
  ·refine .leqT rfl rfl rfl (by omega) (.mv rfl rfl (.gr rfl rfl rfl rfl (.mv rfl rfl (.gr rfl rfl rfl rfl (.lenR un_W rfl rfl hu5 (.gr rfl rfl rfl rfl ?_))))))
   by_cases h2:(wds (val y.w)).length≤1
   ·refine .leqT rfl rfl rfl (by omega) (.pick rfl rfl rfl (.nil (.condT rfl (.seq ?_))))
    have hxl:val x.w<4294967296:=by
     have h3:=Z8 (val x.w)
     have h4:4294967296 ^ (wds (val x.w)).length≤4294967296 ^ 1:=Nat.pow_le_pow_right (by omega) h1
     omega
    have hyl:val y.w<4294967296:=by
     have h3:=Z8 (val y.w)
     have h4:4294967296 ^ (wds (val y.w)).length≤4294967296 ^ 1:=Nat.pow_le_pow_right (by omega) h2
     omega
    have hxy:val x.w*val y.w≤4294967295*4294967295:=Nat.mul_le_mul (by omega) (by omega)
    refine .par follows 11 [.inl _,.inl _,.inl _,.inl _,.inl _,.inl _,.inl (.int .u64 (val x.w:Nat)),.inl _,.inl (.int .u64 (val y.w:Nat)),.inl (.int .u64 ((val x.w*val y.w:Nat):Int)),.inr (eZ.at T (zc (sg (x.neg != y.neg) (val x.w*val y.w))))]
     [[],[(21,0)],[],[(23,2)],[(22,1),(24,3)],[],[(26,5)],[],[(28,7)],[(27,6),(29,8)],[(25,4),(30,9)]] (by kernel_rfl) ⟨
     fun w e=>(v_fa N1 rfl).ob,
     fun w e=>(v_ld I7 rfl (k1.ext e) rfl).ob,
     fun w e=>(v_fa N1 rfl).ob,
     fun w e=>(v_ld I7 rfl (k2.ext e) rfl).ob,
     fun w e=>(Ai1 AF5 rfl rfl).ob,
     fun w e=>(v_mv rfl).ob,
     fun w e=>(A2 _ J6 rfl (by have:=J0 (hu6.ext e) (by omega);rw [B5] at this;exact this)).obIs,
     fun w e=>(v_mv rfl).ob,
     fun w e=>(A2 _ J6 rfl (by have:=J0 (hu5.ext e) (by omega);rw [B5] at this;exact this)).obIs,
     fun w e=>((v_mul rfl rfl).eq (by rw [←Int.natCast_mul,wU (by omega)])).ob,
     fun w e=>(A2 _ I5 rfl (I4 (up4.ext e.size) (by omega))).ob (A6 _ _ _),trivial⟩ ?_
    intro w5 e5 x10 hx10
    refine .storeA ty_Z rfl rfl (k3.ext e5) rfl rfl hx10 hS fun w6 k6 u6 h6=>.nil (.ret ?_)
    refine .cell Tryz.results135 rfl ty_Z rfl rfl k6 h6 ⟨u6.below (x4.trans e5) (by omega),?_⟩
    subst hT
    rw [hprod]
    exact h6.out
   ·refine .leqF rfl rfl rfl (by omega) (.pick rfl rfl rfl (.nil (.condF rfl (.skip ?_))))
    exact ⟨rfl,(),lkA rfl,rfl⟩
  ·refine .leqF rfl rfl rfl (by omega) (.mv rfl rfl (.gs rfl rfl rfl rfl rfl (.gs rfl rfl rfl rfl rfl (.gs rfl rfl rfl rfl rfl (.pick rfl rfl rfl (.nil (.condF rfl (.skip ?_))))))))
   exact ⟨rfl,(),lkA rfl,rfl⟩
 ·rintro _ _ rfl
  refine .seq ?_
  refine .par follows 9 [.inl _,.inl _,.inl _,.inl _,.inl _,.inl _,.inl _,.inr (Wv T (val x.w*val y.w) (1099511627776+1099511627776)),.inr (eZ.at T (zc (sg (x.neg != y.neg) (val x.w*val y.w))))] [[],[(32,0)],[],[(34,2)],[(33,1),(35,3)],[],[],[(37,5),(38,6)],[(36,4),(39,7)]] (by kernel_rfl) ⟨
   fun w e=>(v_fa N1 rfl).ob,
   fun w e=>(v_ld I7 rfl (k1.ext e) rfl).ob,
   fun w e=>(v_fa N1 rfl).ob,
   fun w e=>(v_ld I7 rfl (k2.ext e) rfl).ob,
   fun w e=>(Ai1 AF5 rfl rfl).ob,
   fun w e=>(v_mv rfl).ob,
   fun w e=>(v_mv rfl).ob,
   fun w e=>(A2 _ AK4 rfl ((AI5 (up4.ext e.size) (hu6.ext e) (hu5.ext e) hla' hlb').mono fun v w' _ ⟨r,h1,h2,h3⟩=>⟨r,h1,by rw [h2,B5,B5],by omega⟩)).ob (st_wv _ _ _),
   fun w e x7 hx7=>(A2 _ E6 rfl (by obtain ⟨r,h1,h2,h3⟩:=hx7;have:=E4 (neg:=x.neg != y.neg) (up4.ext e.size) h1;rw [h2] at this;exact this)).ob (A6 _ _ _),trivial⟩ ?_
  intro w5 e5 x7 hx7 x8 hx8
  refine .storeA ty_Z rfl rfl (k3.ext e5) rfl rfl hx8 hS fun w6 k6 u6 h6=>.nil (.ret ?_)
  refine .cell Tryz.results135 rfl ty_Z rfl rfl k6 h6 ⟨u6.below (x4.trans e5) (by omega),?_⟩
  subst hT
  rw [hprod]
  exact h6.out
theorem Ac0 {x:ZV} (h:0≤zval x):zval x=(val x.w:Int):=by
 unfold zval sg at *;cases hn:x.neg<;>simp [hn] at*;omega
theorem Ac1 {x:ZV} (h:zval x<0):zval x = -(val x.w:Int):=by
 unfold zval sg at *;cases hn:x.neg<;>simp [hn] at*;omega
theorem Aq6 {m n:Int} (h:m.sign<n.sign):cmpI m n = -1:=by
 unfold cmpI
 rw [if_pos]
 rcases Int.lt_trichotomy m 0 with h1 | h1 | h1<;>rcases Int.lt_trichotomy n 0 with h2 | h2 | h2<;>simp_all [Int.sign_eq_neg_one_of_neg,Int.sign_eq_one_of_pos]<;>omega
theorem Aj9 {m n:Int} (h:n.sign<m.sign):cmpI m n=1:=by
 have:n<m:=by
  rcases Int.lt_trichotomy m 0 with h1 | h1 | h1<;>rcases Int.lt_trichotomy n 0 with h2 | h2 | h2<;>simp_all [Int.sign_eq_neg_one_of_neg,Int.sign_eq_one_of_pos]<;>omega
 unfold cmpI
 rw [if_neg (by omega),if_pos this]
theorem Ag4:Ent Tryz.prog 134:=A0 Tryz.func134 (by kernel_rfl) rfl
theorem Ac4 {S:Nat→Prop} {w:World} {va vb:Value} {x y:ZV} (ha:eZ.R S w va x) (hb:eZ.R S w vb y) :
  CR Tryz.prog 134 #[va,vb] w (Is (.int .i64 (cmpI (zval x) (zval y)))):=by
 obtain ⟨sa,rfl,hsa⟩:=ha
 obtain ⟨sb,rfl,hsb⟩:=hb
 have hda:dig x.w:=E3 hsa
 have hdb:dig y.w:=E3 hsb
 refine enter Tryz.func134 rfl Tryz.ntmps134 rfl ?_
 refine .seq (.region (.box rfl rfl fun w1 b1 n1=>.box rfl rfl fun w2 b2 n2=>.asg rfl rfl (.nil ?_)))
 obtain ⟨e1,k1,hb1,hs1⟩:=n1
 obtain ⟨e2,k2,hb2,hs2⟩:=n2
 have x2:=e1.trans e2
 have k1:=k1.ext e2
 have hsa2:=hsa.ext x2
 have hsb2:=hsb.ext x2
 refine .seq ?_
 refine .par follows 5 [.inl _,.inl (.int .i64 (zval x).sign),.inl _,.inl (.int .i64 (zval y).sign),.inl _] [[],[(7,0)],[],[(9,2)],[(8,1)]] (by kernel_rfl) ⟨
  fun w e=>(B8 ty_Z rfl (k1.ext e) rfl).ob,
  fun w e=>(A2 _ F1 rfl (E9 (z:=x) ⟨sa,rfl,hsa2.ext e⟩)).obIs,
  fun w e=>(B8 ty_Z rfl (k2.ext e) rfl).ob,
  fun w e=>(A2 _ F1 rfl (E9 (z:=y) ⟨sb,rfl,hsb2.ext e⟩)).obIs,
  fun w e=>(v_as rfl).ob,trivial⟩ ?_
 intro w3 e3
 refine .asg rfl rfl (.nil ?_)
 have x3:=x2.trans e3
 have k1:=k1.ext e3
 have k2:=k2.ext e3
 have hsa3:=hsa2.ext e3
 have hsb3:=hsb2.ext e3
 refine .seq (.block (.seq (.region (.mv rfl rfl (.mv rfl rfl ?_)))))
 by_cases h1:(zval x).sign<(zval y).sign
 ·refine .lssT rfl rfl rfl h1 (.asg rfl rfl (.nil (.condT rfl (.seq (.region (.asg rfl rfl (.nil (.ret ?_))))))))
  exact .plain [_] Tryz.results134 ⟨rfl,trivial⟩ ⟨x3,isI (Aq6 h1).symm⟩
 refine .lssF rfl rfl rfl h1 (.asg rfl rfl (.nil (.condF rfl (.seq (.region (.mv rfl rfl (.mv rfl rfl ?_)))))))
 by_cases h2:(zval y).sign<(zval x).sign
 ·refine .gtrT rfl rfl rfl h2 (.asg rfl rfl (.nil (.condT rfl (.seq (.region (.asg rfl rfl (.nil (.ret ?_))))))))
  exact .plain [_] Tryz.results134 ⟨rfl,trivial⟩ ⟨x3,isI (Aj9 h2).symm⟩
 refine .gtrF rfl rfl rfl h2 (.asg rfl rfl (.nil (.condF rfl (.seq (.region (.mv rfl rfl ?_))))))
 have hs:(zval x).sign=(zval y).sign:=by omega
 by_cases h3:(zval x).sign<0
 ·refine .lssT rfl rfl rfl h3 (.asg rfl rfl (.nil (.condT rfl (.seq ?_))))
  refine .par follows 7 [.inl _,.inl _,.inr (eW.at S (wds (val y.w))),.inl _,.inl _,.inr (eW.at S (wds (val x.w))),.inl (.int .i64 (cmpN (val y.w) (val x.w)))] [[],[(22,0)],[(23,1)],[],[(25,3)],[(26,4)],[(24,2),(27,5)]] (by kernel_rfl) ⟨
   fun w e=>(v_fa H6 rfl).ob,
   fun w e=>(v_ld ty_W rfl (k2.ext e) rfl).ob,
   fun w e=>(A2 _ B4 rfl (by rw [←D2 hdb];exact B3 (hsb3.ext e))).ob (A6 _ _ _),
   fun w e=>(v_fa H6 rfl).ob,
   fun w e=>(v_ld ty_W rfl (k1.ext e) rfl).ob,
   fun w e=>(A2 _ B4 rfl (by rw [←D2 hda];exact B3 (hsa3.ext e))).ob (A6 _ _ _),
   fun w e x2 hx2 x5 hx5=>(A2 _ G3 rfl (G0 hx2 hx5)).obIs,trivial⟩ ?_
  intro w4 e4 _ _ _ _
  refine .asg rfl rfl (.nil (.ret ?_))
  refine .plain [_] Tryz.results134 ⟨rfl,trivial⟩ ⟨x3.trans e4,isI ?_⟩
  have hx:zval x<0:=Int.sign_neg_iff.1 h3
  have hy:zval y<0:=Int.sign_neg_iff.1 (by omega)
  have ex:=Ac1 hx
  have ey:=Ac1 hy
  rw [ex,ey];unfold cmpN cmpI;split<;>(try split)<;>(try split)<;>(try split)<;>omega
 ·refine .lssF rfl rfl rfl h3 (.asg rfl rfl (.nil (.condF rfl (.skip (.seq ?_)))))
  refine .par follows 7 [.inl _,.inl _,.inr (eW.at S (wds (val x.w))),.inl _,.inl _,.inr (eW.at S (wds (val y.w))),.inl (.int .i64 (cmpN (val x.w) (val y.w)))] [[],[(29,0)],[(30,1)],[],[(32,3)],[(33,4)],[(31,2),(34,5)]] (by kernel_rfl) ⟨
   fun w e=>(v_fa H6 rfl).ob,
   fun w e=>(v_ld ty_W rfl (k1.ext e) rfl).ob,
   fun w e=>(A2 _ B4 rfl (by rw [←D2 hda];exact B3 (hsa3.ext e))).ob (A6 _ _ _),
   fun w e=>(v_fa H6 rfl).ob,
   fun w e=>(v_ld ty_W rfl (k2.ext e) rfl).ob,
   fun w e=>(A2 _ B4 rfl (by rw [←D2 hdb];exact B3 (hsb3.ext e))).ob (A6 _ _ _),
   fun w e x2 hx2 x5 hx5=>(A2 _ G3 rfl (G0 hx2 hx5)).obIs,trivial⟩ ?_
  intro w4 e4 _ _ _ _
  refine .asg rfl rfl (.nil (.ret ?_))
  refine .plain [_] Tryz.results134 ⟨rfl,trivial⟩ ⟨x3.trans e4,isI ?_⟩
  have hx:0≤zval x:=Int.not_lt.1 fun h=>h3 (Int.sign_neg_iff.2 h)
  have hy:0≤zval y:=Int.not_lt.1 fun h=>h3 (by rw [hs];exact Int.sign_neg_iff.2 h)
  have ex:=Ac0 hx
  have ey:=Ac0 hy
  rw [ex,ey];unfold cmpN cmpI;split<;>(try split)<;>(try split)<;>(try split)<;>omega
end Go.Proofs.YtfilidfomgfnhaaGreat

namespace Go.Proofs.YtfilidfomgfnhaaGreat
open Go Go.Kx Go.RowKit
theorem Af7 {S:Nat→Prop} {w:World} {es:List Value} {l:List Nat} (h:Els eU32 S w es l):es=l.map wv:=by
 apply List.ext_getElem?
 intro i
 rw [List.getElem?_map]
 rcases Nat.lt_or_ge i l.length with hi | hi
 ·have hi':i<es.length:=by rw [h.1];exact hi
  have:=h.2 i es[i] l[i] (List.getElem?_eq_getElem hi') (List.getElem?_eq_getElem hi)
  rw [List.getElem?_eq_getElem hi',List.getElem?_eq_getElem hi,Option.map_some]
  exact congrArg some this.1
 ·rw [List.getElem?_eq_none hi,List.getElem?_eq_none (by rw [h.1];exact hi)];rfl
theorem Clone_o {S:Nat→Prop} {w:World} {v:Value} {l:List Nat} (h:eW.R S w v l) (hl:l.length≤1099511627776):CR Tryz.prog 183 #[v] w (fun v' w'=>OwnW 60 w.heap.size w' v' l):=by
 have hdl:dig l:=E3 h
 refine enter Tryz.func183 rfl Tryz.ntmps183 rfl ?_
 refine .seq (.region (.asg rfl rfl (.nil ?_)))
 obtain ⟨es,he,a,c,rfl,hc,hm,hlen,hcell⟩:=h
 have hes:=Af7 he
 subst hes
 refine .seq (.seq (.region (.mv rfl rfl (.eqNil un_W rfl rfl rfl (.nil ?_)))))
 cases a with
 | none =>
  refine .condT rfl (.seq (.region (.asg rfl rfl (.nil (.ret ?_)))))
  have:l=[]:=by
   cases l with
   | nil=>rfl
   | cons x l=>obtain ⟨ad,h,_⟩:=hcell (by simp);cases h
  subst this
  exact .plain [_] Tryz.results183 ⟨rfl,trivial⟩ ⟨.refl _,⟨rfl,.inl ⟨rfl,rfl⟩⟩,by simp [dig]⟩
 | some ad =>
  refine .condF rfl (.skip (.seq (.region ?_)))
  refine .bsl _ rfl rfl Ax4 fun w1 b1 n1=>?_
  obtain ⟨e1,k1,hb1,hs1⟩:=n1
  have hcell1:∀ j u,(cellsOf (l.map wv))[j]?=some u→w1.cell? (ad.add j)=some u:=by
   intro j u hu
   rcases Nat.eq_zero_or_pos l.length with h0 | h0
   ·rw [h0,Nat.zero_mul] at hlen
    have:cellsOf (l.map wv)=[]:=List.length_eq_zero_iff.1 hlen
    rw [this] at hu;simp at hu
   ·obtain ⟨ad',h1,_,h2⟩:=hcell h0
    cases h1
    have:=(h2 j u hu).1
    have hlt:=AH7 this
    exact (AK1 (p:=ad.add j) (e1.block _ hlt)).trans this
  have hown:w1.ownsRow w.heap.size 60 1 (.slice (some ⟨b1,0,none⟩) 0 0) 0 []:=⟨rfl,.inr ⟨b1,0,#[],rfl,by omega,k1,Nat.le_refl _,Nat.zero_le _,rfl,rfl⟩⟩
  rw [I2 wv (fun _=>rfl)] at hcell1 hlen
  have hon:∀ u∈l.map wv,one1 u=true:=by
   intro u hu
   obtain ⟨x,_,rfl⟩:=List.mem_map.1 hu
   rfl
  refine .mv rfl rfl ?_
  refine .gv rfl rfl (Av9 (l.map wv) un_W H5 rfl (by decide) rfl rfl hown hlen hcell1 hon (by omega) (by omega) (by omega)) ?_
  rintro v2 w2 ⟨ho,hg⟩
  refine .asg rfl rfl (.nil (.ret ?_))
  have hx:Ext w w2:=Below.grown e1 hg e1.size (fun k hk=>by simp [Value.ownBlock] at hk;omega)
  simp only [List.nil_append,Nat.zero_add] at ho
  exact .plain [_] Tryz.results183 ⟨rfl,trivial⟩ ⟨hx,ho,hdl⟩
theorem prt_Z1 {x y:Value} (hy:one1 y=true):prtOf Tryz.prog 53 #[x,y] 1=some y:=by kernel_rfl
theorem V7:Ent Tryz.prog 264:=A0 Tryz.func264 (by kernel_rfl) rfl
theorem U6 {S T0:Nat→Prop} {w:World} {va vb:Value} {m n:Nat} (up:Up S w) (upo:Up T0 w) (ha:eW.R S w va (wds m)) (hb:eW.R S w vb (wds n)) (hla:(wds m).length≤1099511627776) (hn:0<n) :
  CR Tryz.prog 264 #[va,vb] w (Two (Wv T0 (m / n) ((wds m).length+1)) (Wv S (m % n) ((wds m).length+1))):=by
 refine enter Tryz.func264 rfl Tryz.ntmps264 rfl ?_
 refine .seq (.region (.asg rfl rfl (.asg rfl rfl (.nil ?_))))
 refine .seq (.block (.seq (.region (.mv rfl rfl (.mv rfl rfl ?_)))))
 refine .call _ rfl G3 rfl (G0 ha hb) fun v1 w1 e1 h1=>?_
 subst h1
 have ha1:=ha.ext e1
 have hb1:=hb.ext e1
 have up1:=up.ext e1.size
 have upo1:=upo.ext e1.size
 by_cases hlt:m<n
 ·refine .lssT rfl rfl rfl (AH6.2 hlt) (.asg rfl rfl (.nil (.condT rfl (.seq (.region (.mv rfl rfl ?_))))))
  refine .call _ rfl AI3 rfl (AO2 up1 ha1 hla) fun v2 w2 e2 h2=>.asg rfl rfl (.asg rfl rfl (.nil (.ret ?_)))
  refine .plain [_,_] Tryz.results264 ⟨rfl,rfl,trivial⟩ ⟨e1.trans e2,_,_,rfl,⟨[],RL.nil,?_,by simp⟩,⟨_,h2,?_,by omega⟩⟩
  ·rw [Nat.div_eq_of_lt hlt];rfl
  ·rw [B5,Nat.mod_eq_of_lt hlt]
 have hle:(wds n).length≤(wds m).length:=U8 (by omega)
 have hn1:1≤(wds n).length:=by
  have:=P9 (n:=n) (by omega)
  have:=List.length_pos_iff.2 this
  omega
 refine .lssF rfl rfl rfl (fun h=>hlt (AH6.1 h)) (.asg rfl rfl (.nil (.condF rfl (.seq (.region (.mv rfl rfl (.lenR un_W rfl rfl ha1 ?_)))))))
 by_cases h2:(wds m).length≤2
 ·refine .leqT rfl rfl rfl (by omega) (.asg rfl rfl (.nil (.condT rfl (.seq (.region (.mv rfl rfl ?_))))))
  have hm64:m<18446744073709551616:=by
   have h3:=Z8 m
   have h4:4294967296 ^ (wds m).length≤4294967296 ^ 2:=Nat.pow_le_pow_right (by omega) h2
   omega
  refine .call _ rfl J6 rfl (J0 ha1 h2) fun v2 w2 e2 h2'=>?_
  subst h2'
  refine .mv rfl rfl (.call _ rfl J6 rfl (J0 (hb1.ext e2) (by omega)) fun v3 w3 e3 h3=>?_)
  subst h3
  rw [B5,B5]
  refine .asg rfl rfl (.asg rfl rfl (.nil (.seq ?_)))
  have x3:=(e1.trans e2).trans e3
  have up3:=up.ext x3.size
  have upo3:=upo.ext x3.size
  have hq:m / n<18446744073709551616:=Nat.lt_of_le_of_lt (Nat.div_le_self _ _) hm64
  have hr:m % n<18446744073709551616:=Nat.lt_of_le_of_lt (Nat.mod_le _ _) hm64
  have hfd:∀ {S:Nat→Prop} {σ:Env} {W:World} {d:Option Tmp} {ty:TypeId} {pos:String} {af:Array Edge} {x:Operand} {u:Value} {k:Nat},ev σ x=some u→eZ.R S W u (zc (sg false k))→Gv Tryz.prog ⟨d,.field 53 x 1,ty,pos,af,none⟩ σ W fun v' w'=>Ext W w'∧Sp.ok (.inr (eW.at S (wds k))) v' w':=by
   intro S σ W d ty pos af x u k hx hz
   obtain ⟨s,rfl,hs⟩:=hz
   have hk:(zc (sg false k)).w=wds k:=by simp [zc,sg]
   rw [hk] at hs
   exact L9 (v_fd hx (prt_Z1 (eW.shp hs))) hs (A6 _ _ _)
  refine .par follows 11 [.inl _,.inl _,.inl (.int .u64 ((m / n:Nat):Int)),.inr (eZ.at T0 (zc (sg false (m / n)))),.inr (eW.at T0 (wds (m / n))),.inl _,.inl _,.inl (.int .u64 ((m % n:Nat):Int)),.inr (eZ.at S (zc (sg false (m % n)))),.inr (eW.at S (wds (m % n))),.inr (eW.at T0 (wds (m / n)))] [[],[],[(24,0),(25,1)],[(26,2)],[(27,3)],[],[],[(29,5),(30,6)],[(31,7)],[(32,8)],[(28,4)]] (by kernel_rfl) ⟨
   fun w e=>(v_mv rfl).ob,
   fun w e=>(v_mv rfl).ob,
   fun w e=>((Ad1 rfl rfl (by omega)).eq (by rw [AP4,N5,Nat.mod_eq_of_lt hq])).ob,
   fun w e=>(A2 _ I5 rfl (I4 (upo3.ext e.size) hq)).ob (A6 _ _ _),
   fun w e x3 hx3=>hfd rfl hx3,
   fun w e=>(v_mv rfl).ob,
   fun w e=>(v_mv rfl).ob,
   fun w e=>((Ad0 rfl rfl (by omega)).eq (by rw [AF7])).ob,
   fun w e=>(A2 _ I5 rfl (I4 (up3.ext e.size) hr)).ob (A6 _ _ _),
   fun w e x8 hx8=>hfd rfl hx8,
   fun w e x4 hx4=>An0 rfl hx4 (A6 _ _ _),trivial⟩ ?_
  intro w4 e4 _ _ _ _ _ _ u9 hu9 u10 hu10
  refine .asg rfl rfl (.nil (.ret ?_))
  exact .plain [_,_] Tryz.results264 ⟨rfl,rfl,trivial⟩ ⟨x3.trans e4,_,_,rfl,⟨_,hu10,B5 _,Nat.le_succ_of_le (U8 (Nat.div_le_self _ _))⟩,⟨_,hu9,B5 _,Nat.le_succ_of_le (U8 (Nat.mod_le _ _))⟩⟩
 refine .leqF rfl rfl rfl (by omega) (.asg rfl rfl (.nil (.condF rfl (.seq (.region (.mv rfl rfl (.lenR un_W rfl rfl hb1 ?_)))))))
 by_cases h3:(wds n).length=1
 ·refine .eqlT rfl rfl rfl (by omega) (.asg rfl rfl (.nil (.condT rfl (.seq (.region (.mv rfl rfl ?_))))))
  refine .call _ rfl AI3 rfl (Clone_o ha1 hla) fun v2 w2 e2 o2=>.asg rfl rfl (.nil ?_)
  obtain ⟨g,cap,rfl,hc1,hc2,hg,ob⟩:=o2.ob (by intro h;rw [h] at h2;simp at h2)
  have hn32:n<4294967296:=by
   have h4:=Z8 n
   rw [h3] at h4;omega
  have hwn:wds n=[n]:=AI8 hn32 (by omega)
  refine .seq (.region (.mv rfl rfl (.mv rfl rfl ?_)))
  have hb2:=hb1.ext e2
  rw [hwn] at hb2
  refine .ix un_W A4 rfl rfl hb2 rfl (by decide) (y:=n) rfl fun p hp=>.ldE A4 rfl rfl hp fun e he=>?_
  obtain ⟨rfl,_⟩:=he
  refine .cvt C6 C5 rfl rfl ?_
  rw [wU (n:=(n:Int)) (by omega)]
  refine .callG _ rfl AK3 rfl (AI4 ob hn hn32 hla) ?_
  rintro _ w3 ⟨rfl,u3,V,obV,hlV,hvV⟩
  rw [B5] at hvV ⊢
  refine .asg rfl rfl (.nil (.seq (.region (.mv rfl rfl (.mv rfl rfl (.cvt C5 C6 rfl rfl ?_))))))
  have hmn:m % n<4294967296:=Nat.lt_trans (Nat.mod_lt _ hn) hn32
  rw [I1,Nat.mod_eq_of_lt hmn]
  refine .bsl _ rfl rfl AB7 fun w4 b4 n4=>.asg rfl rfl (.asg rfl rfl (.nil (.ret ?_)))
  obtain ⟨e4,k4,hb4,hs4⟩:=n4
  have hx3:Ext w w3:=u3.below (e1.trans e2) (by have:=e1.size;omega)
  have hR:=(obV.ext e4).toR0 (S:=T0) (c:=cap) (upo g (by have:=e1.size;omega)) (by omega) (by omega)
  rw [hlV] at hR
  have hR2:eW.R S w4 (.slice (some ⟨b4,0,none⟩) 1 1) [m % n]:=Aa0 (l:=[m % n]) (t:=60) k4 (up b4 (by have:=hx3.size;omega)) (by simp [dig,hmn]) (Nat.le_refl 1) (by simp)
  exact .plain [_,_] Tryz.results264 ⟨rfl,rfl,trivial⟩ ⟨hx3.trans e4,_,_,rfl,⟨V,hR,hvV,by omega⟩,⟨_,hR2,by simp [val],by simp⟩⟩
 refine .eqlF rfl rfl rfl (by omega) (.asg rfl rfl (.nil (.condF rfl (.skip (.seq (.region (.mv rfl rfl (.mv rfl rfl ?_))))))))
 have htop:0<(wds n).getD ((wds n).length-2+1) 0:=by
  have hc:=can_wds n
  have h5:(wds n)[(wds n).length-1]?=some ((wds n).getD ((wds n).length-2+1) 0):=by
   rw [show (wds n).length-2+1=(wds n).length-1 by omega]
   exact D0 (by omega)
  have:=hc _ (by rw [List.getLast?_eq_getElem?];exact h5)
  omega
 refine .call _ rfl AM5 rfl (AM0 (m:=(wds n).length-2) up1 upo1 ha1 hb1 hla (by omega) hle htop) fun v2 w2 e2 h2=>?_
 obtain ⟨q,r,rfl,hq,hr⟩:=h2
 rw [B5,B5] at hq hr
 refine .ext rfl rfl rfl (.ext rfl rfl rfl (.asg rfl rfl (.asg rfl rfl (.nil (.ret ?_)))))
 exact .plain [_,_] Tryz.results264 ⟨rfl,rfl,trivial⟩ ⟨e1.trans e2,_,_,rfl,hq,hr⟩
theorem AI7 {S:Nat→Prop} {w:World} {va vb:Value} {m n:Nat} (up:Up S w) (ha:eW.R S w va (wds m)) (hb:eW.R S w vb (wds n)) (hla:(wds m).length≤1099511627776) (hn:0<n) :
  CR Tryz.prog 264 #[va,vb] w (Two (Wv S (m / n) ((wds m).length+1)) (Wv S (m % n) ((wds m).length+1))):=U6 up up ha hb hla hn
end Go.Proofs.YtfilidfomgfnhaaGreat

namespace Go.Proofs.YtfilidfomgfnhaaGreat
open Go Go.Kx Go.RowKit
/-- a result that lies in a cell -/
theorem D1 {P:Program} {w:World} {t t':TypeId} {b n:Nat} {α:Type} {E:ER α} {S:Nat→Prop} {v:Value} {z:α} (ht:tyOf P t=some (true,n)) (hA:E.isA=true) (hn:E.sz=n) (hb:Blk w b t' v.cells) (hz:E.R S w v z):(loadVar t ⟨b,0,none⟩).run P w=.ok v w:=by
 have hsz:=E.csz hz
 have:=E5 (P:=P) (w:=w) (p:=⟨b,0,none⟩) (cs:=v.cells.toList) (t:=t) (by rw [ht];simp;omega) (fun j u hu=>by rw [I6,hb.cell];simpa using hu)
 rw [this]
 have hv:=shpA hA hz
 simp only [Array.toArray_toList]
 rw [←hv]
theorem AL7 {a b q r:Int} (hb:b≠0) (h:a=b*q+r) (h0:0≤r) (h1:r<b.natAbs):a / b=q∧a % b=r:=by
 subst h
 have hz:r / b=0:=by
  rcases Int.lt_or_gt_of_ne hb with h | h
  ·have:r / b = -(r / -b):=by rw [Int.ediv_neg,Int.neg_neg]
   rw [this,Int.ediv_eq_zero_of_lt h0 (by omega)];rfl
  ·exact Int.ediv_eq_zero_of_lt h0 (by omega)
 have hm:r % b=r:=by
  have:=Int.emod_def r b
  rw [hz] at this;omega
 constructor
 ·rw [Int.add_comm,Int.add_mul_ediv_left _ _ hb,hz];omega
 ·rw [Int.add_comm,Int.add_mul_emod_self_left,hm]
/-- the Euclidean quotient and rest by magnitudes -/
theorem AR8 {p q:Bool} {A B:Nat} (hB:0<B) (h:p=false∨A % B=0):sg p A / sg q B=sg (p != q) (A / B)∧sg p A % sg q B=sg false (A % B):=by
 have hd:=Nat.div_add_mod A B
 have hm:=Nat.mod_lt A hB
 generalize A / B=d at *
 generalize A % B=m at *
 subst hd
 refine AL7 (by cases q<;>simp [sg]<;>omega) ?_ (Int.natCast_nonneg m) (by rw [AV7];show (m:Int)<(B:Int);omega)
 cases p with
 | false=>cases q<;>simp [sg,Int.natCast_mul,Int.neg_mul,Int.mul_neg]
 | true =>
  have hm0:m=0:=h.resolve_left (by simp)
  subst hm0
  cases q<;>simp [sg,Int.natCast_mul,Int.neg_mul,Int.mul_neg]
theorem Aj7 {q:Bool} {A B:Nat} (hB:0<B) (h:0<A % B):sg true A / sg q B=sg (true != q) (A / B+1)∧sg true A % sg q B=sg false (B-A % B):=by
 have hd:=Nat.div_add_mod A B
 have hm:=Nat.mod_lt A hB
 generalize A / B=d at *
 generalize A % B=m at *
 subst hd
 refine AL7 (by cases q<;>simp [sg]<;>omega) ?_ (Int.natCast_nonneg _) (by rw [AV7];show ((B-m:Nat):Int)<(B:Int);omega)
 have e:((B:Int)*((d:Int)+1))=(B:Int)*d+B:=by rw [Int.mul_add,Int.mul_one]
 have e2:((B-m:Nat):Int)=(B:Int)-m:=by omega
 cases q<;>simp [sg,Int.natCast_mul,Int.neg_mul,Int.mul_neg,e,e2]<;>omega
theorem AB9:Ent Tryz.prog 237:=A0 Tryz.func237 (by kernel_rfl) rfl
theorem Z7 {S T0:Nat→Prop} {w:World} {va vb:Value} {x y:ZV} (up:Up S w) (upo:Up T0 w) (ha:eZ.R S w va x) (hb:eZ.R S w vb y) (hla:x.w.length≤1000000000000) (hlb:y.w.length≤1000000000000) (hy:zval y≠0) :
  CR Tryz.prog 237 #[va,vb] w (Three (eZ.at T0 (zc (zval x / zval y))) (eZ.at S (zc (zval x % zval y))) (Is (.int .i64 0))):=by
 obtain ⟨sa,rfl,hsa⟩:=ha
 obtain ⟨sb,rfl,hsb⟩:=hb
 have hda:dig x.w:=E3 hsa
 have hdb:dig y.w:=E3 hsb
 have hla':=Nat.le_trans (D5 hda) hla
 have hlb':=Nat.le_trans (D5 hdb) hlb
 have hy0:0<val y.w:=by
  rcases Nat.eq_zero_or_pos (val y.w) with h | h
  ·exact absurd (by unfold zval sg;rw [h];simp) hy
  ·exact h
 refine enter Tryz.func237 rfl Tryz.ntmps237 rfl ?_
 refine .seq (.region (.box rfl rfl fun w1 b1 n1=>.box rfl rfl fun w2 b2 n2=>.alloc rfl D3 fun w3 b3 n3=>.alloc rfl D3 fun w4 b4 n4=>.asg rfl rfl (.nil ?_)))
 obtain ⟨e1,k1,hb1,hs1⟩:=n1
 obtain ⟨e2,k2,hb2,hs2⟩:=n2
 obtain ⟨e3,k3,hb3,hs3⟩:=n3
 obtain ⟨e4,k4,hb4,hs4⟩:=n4
 have x4:=((e1.trans e2).trans e3).trans e4
 have k1:=((k1.ext e2).ext e3).ext e4
 have k2:=(k2.ext e3).ext e4
 have k3:=k3.ext e4
 have hS3:¬ Sx T0 w.heap.size w4.heap.size b3:=Sx.no (by omega) (by omega)
 have hU4:¬ Sx T0 w.heap.size w4.heap.size b4:=Sx.no (by omega) (by omega)
 have upo4:Up (Sx T0 w.heap.size w4.heap.size) w4:=Sx.up upo (Nat.le_refl _) x4.size
 have houo:∀ {W:World} {v:Value} {z:ZV},eZ.R (Sx T0 w.heap.size w4.heap.size) W v z→eZ.R T0 W v z:=fun h=>h.out
 have hST3:¬ Sx S w.heap.size w4.heap.size b3:=Sx.no (by omega) (by omega)
 have hS4:¬ Sx S w.heap.size w4.heap.size b4:=Sx.no (by omega) (by omega)
 have up4:Up (Sx S w.heap.size w4.heap.size) w4:=Sx.up up (Nat.le_refl _) x4.size
 have hsa4:=(hsa.par w4.heap.size).ext x4
 have hsb4:=(hsb.par w4.heap.size).ext x4
 have hout:∀ {W:World} {v:Value} {z:ZV},eZ.R (Sx S w.heap.size w4.heap.size) W v z→eZ.R S W v z:=fun h=>h.out
 generalize hT:Sx S w.heap.size w4.heap.size=T at *
 generalize hU:Sx T0 w.heap.size w4.heap.size=U at *
 refine .seq ?_
 refine .par follows 7 [.inl _,.inl _,.inr (eW.at T (wds (val x.w))),.inl _,.inl _,.inr (eW.at T (wds (val y.w))),.inr (eW.at T (wds (val x.w)))] [[],[(11,0)],[(12,1)],[],[(14,3)],[(15,4)],[(13,2)]] (by kernel_rfl) ⟨
  fun w e=>(v_fa H6 rfl).ob,
  fun w e=>(v_ld ty_W rfl (k1.ext e) rfl).ob,
  fun w e=>(A2 _ B4 rfl (by rw [←D2 hda];exact B3 (hsa4.ext e))).ob (A6 _ _ _),
  fun w e=>(v_fa H6 rfl).ob,
  fun w e=>(v_ld ty_W rfl (k2.ext e) rfl).ob,
  fun w e=>(A2 _ B4 rfl (by rw [←D2 hdb];exact B3 (hsb4.ext e))).ob (A6 _ _ _),
  fun w e x2 hx2=>An0 rfl hx2 (A6 _ _ _),trivial⟩ ?_
 intro w5 e5 u2 hu2 u5 hu5 u6 hu6
 refine .asg rfl rfl (.nil ?_)
 have x5:=x4.trans e5
 have up5:=up4.ext e5.size
 have upo5:=upo4.ext e5.size
 have hne:(wds (val y.w)).length≠0:=by
  have:=List.length_pos_iff.2 (P9 (n:=val y.w) (by omega));omega
 refine .seq (.seq (.region (.mv rfl rfl (.lenR un_W rfl rfl hu5 (.eqlF rfl rfl rfl (by omega) (.nil (.condF rfl (.skip ?_))))))))
 refine .seq (.region (.mv rfl rfl (.mv rfl rfl ?_)))
 refine .call _ rfl V7 rfl (U6 up5 upo5 hu6 hu5 (by omega) hy0) fun v6 w6 e6 h6=>?_
 obtain ⟨vq,vr,rfl,⟨q,hq,hqv,hql⟩,⟨r,hr,hrv,hrl⟩⟩:=h6
 refine .mv rfl rfl (.ext rfl rfl rfl (.ext rfl rfl rfl (.asg rfl rfl (.asg rfl rfl (.nil ?_)))))
 have hrd:dig r:=E3 hr
 refine .seq (.region (.mv rfl rfl ?_))
 refine .call _ rfl B4 rfl (B3 hr) fun vt w7 e7 ht=>.asg rfl rfl (.nil ?_)
 rw [D2 hrd,hrv] at ht
 have e67:=e6.trans e7
 have x7:=x5.trans e67
 have up7:=up5.ext e67.size
 have upo7:=upo5.ext e67.size
 have hq7:=hq.ext e7
 have k1:=(k1.ext e5).ext e67
 have k2:=(k2.ext e5).ext e67
 have k3:=(k3.ext e5).ext e67
 have k4:=(k4.ext e5).ext e67
 have hu57:=hu5.ext e67
 have hl7:=AO8 ht
 have hrl':(wds (val x.w % val y.w)).length≤(wds (val y.w)).length:=U8 (Nat.le_of_lt (Nat.mod_lt _ hy0))
 refine .mid (α:=Value×Value) (fun z=>[(2,.pointer (some ⟨b1,0,none⟩)),(3,.pointer (some ⟨b2,0,none⟩)),(4,.pointer (some ⟨b3,0,none⟩)),(5,.pointer (some ⟨b4,0,none⟩)),(9,z.1),(10,z.2)])
  (fun z W=>Ext w7 W∧∃ q r,eW.R U W z.1 q∧eW.R T W z.2 r∧zval x / zval y=sg (x.neg != y.neg) (val q)∧zval x % zval y=sg false (val r)) ?_ ?_
 ·refine .seq (.region (.fa N1 rfl rfl (.ld I7 rfl rfl k1 rfl (.mv rfl rfl ?_))))
  cases hn:x.neg with
  | false =>
   refine .gs rfl rfl rfl rfl rfl (.gs rfl rfl rfl rfl rfl (.gs rfl rfl rfl rfl rfl (.pick rfl rfl rfl (.nil (.condF rfl (.skip ?_))))))
   obtain ⟨d1,d2⟩:=AR8 (p:=false) (q:=y.neg) (A:=val x.w) hy0 (.inl rfl)
   refine ⟨rfl,(vq,vt),lkA rfl,.refl _,q,_,hq7,ht,?_,?_⟩
   ·unfold zval;rw [hn,hqv];exact d1
   ·unfold zval;rw [hn,B5];exact d2
  | true =>
   refine .gr rfl rfl rfl rfl (.mv rfl rfl (.gr rfl rfl rfl rfl (.lenR un_W rfl rfl ht (.gr rfl rfl rfl rfl ?_))))
   rcases Nat.eq_zero_or_pos (val x.w % val y.w) with h0 | h0
   ·have h0':(wds (val x.w % val y.w)).length=0:=by rw [h0,H2];rfl
    refine .gtrF rfl rfl rfl (by omega) (.pick rfl rfl rfl (.nil (.condF rfl (.skip ?_))))
    obtain ⟨d1,d2⟩:=AR8 (p:=true) (q:=y.neg) (A:=val x.w) hy0 (.inr h0)
    refine ⟨rfl,(vq,vt),lkA rfl,.refl _,q,_,hq7,ht,?_,?_⟩
    ·unfold zval;rw [hn,hqv];exact d1
    ·unfold zval;rw [hn,B5];exact d2
   ·have h0':=List.length_pos_iff.2 (P9 (n:=val x.w % val y.w) (by omega))
    refine .gtrT rfl rfl rfl (by omega) (.pick rfl rfl rfl (.nil (.condT rfl (.seq (.region (.mv rfl rfl ?_))))))
    refine .bsl _ rfl rfl AB7 fun w8 b8 n8=>?_
    obtain ⟨e8,k8,hb8,hs8⟩:=n8
    have h1:eW.R U w8 (.slice (some ⟨b8,0,none⟩) 1 1) [1]:=Aa0 (l:=[1]) (t:=60) k8 (upo7 b8 (by omega)) (by simp [dig]) (Nat.le_refl 1) (by simp)
    refine .call _ rfl V8 rfl (U7 (upo7.ext e8.size) (hq7.ext e8) h1 (by omega) (by simp)) fun v9 w9 e9 h9=>.asg rfl rfl (.nil (.region (.mv rfl rfl (.mv rfl rfl ?_))))
    obtain ⟨q',hq',hqv',hql'⟩:=h9
    have e79:=e8.trans e9
    refine .call _ rfl O1 rfl (N6 (up7.ext e79.size) (hu57.ext e79) (ht.ext e79) (by omega) (by omega) (by rw [B5,B5];exact Nat.le_of_lt (Nat.mod_lt _ hy0))) fun v10 w10 e10 h10=>.asg rfl rfl (.nil ?_)
    obtain ⟨r',hr',hrv',hrl''⟩:=h10
    obtain ⟨d1,d2⟩:=Aj7 (q:=y.neg) (A:=val x.w) hy0 h0
    refine ⟨rfl,(v9,v10),lkA rfl,e79.trans e10,q',r',hq'.ext e10,hr',?_,?_⟩
    ·unfold zval;rw [hn,hqv',hqv];simp only [val];rw [Nat.mul_zero,Nat.add_zero];exact d1
    ·unfold zval;rw [hn,hrv',B5,B5];exact d2
 ·rintro ⟨vq,vr⟩ W ⟨e8,q,r,hq,hr,hdq,hdr⟩
  replace hq:eW.R U W vq q:=hq
  replace hr:eW.R T W vr r:=hr
  have k1:=k1.ext e8
  have k2:=k2.ext e8
  have up8:=up7.ext e8.size
  have upo8:=upo7.ext e8.size
  refine .seq (.region (.fa N1 rfl rfl (.ld I7 rfl rfl k1 rfl (.fa N1 rfl rfl (.ld I7 rfl rfl k2 rfl (.neqB AF5 rfl rfl rfl (.mv rfl rfl ?_)))))))
  refine .call _ rfl E6 rfl (E4 upo8 hq) fun v9 w9 e9 h9=>.mv rfl rfl ?_
  refine .call _ rfl E6 rfl (E4 (up8.ext e9.size) (hr.ext e9)) fun v10 w10 e10 h10=>?_
  have e910:=e9.trans e10
  have k3:=(k3.ext e8).ext e910
  have k4:=(k4.ext e8).ext e910
  refine .storeA ty_Z rfl rfl k3 rfl rfl (h9.ext e10) hS3 fun w11 k11 u11 h11=>?_
  have hne34:b4≠b3:=by omega
  refine .storeA ty_Z rfl rfl (k4.upd u11 hne34) rfl rfl (h10.upd u11 hST3) hS4 fun w12 k12 u12 h12=>.asg rfl rfl (.nil (.ret ?_))
  have h11':=h11.upd u12 hU4
  have k11':=k11.upd u12 (Ne.symm hne34)
  rw [hdq,hdr]
  refine .plain [_,_,_] Tryz.results237 ⟨⟨_,rfl,D1 (E:=eZ) ty_Z rfl rfl k11' h11'⟩,⟨_,rfl,D1 (E:=eZ) ty_Z rfl rfl k12 h12⟩,rfl,trivial⟩ ⟨?_,_,_,_,rfl,houo h11',hout h12,rfl⟩
  exact u12.below (u11.below (((x7.trans e8).trans e910)) (by omega)) (by omega)
theorem Ag3:Ent Tryz.prog 236:=A0 Tryz.func236 (by kernel_rfl) rfl
theorem Ac3 {S:Nat→Prop} {w:World} {va vb:Value} {x y:ZV} (up:Up S w) (ha:eZ.R S w va x) (hb:eZ.R S w vb y) (hla:x.w.length≤1000000000000) (hlb:y.w.length≤1000000000000) :
  CR Tryz.prog 236 #[va,vb] w (eZ.at S (zc (Nat.gcd (val x.w) (val y.w):Nat))):=by
 obtain ⟨sa,rfl,hsa⟩:=ha
 obtain ⟨sb,rfl,hsb⟩:=hb
 have hda:dig x.w:=E3 hsa
 have hdb:dig y.w:=E3 hsb
 have hla':=Nat.le_trans (D5 hda) hla
 have hlb':=Nat.le_trans (D5 hdb) hlb
 refine enter Tryz.func236 rfl Tryz.ntmps236 rfl ?_
 refine .seq (.region (.box rfl rfl fun w1 b1 n1=>.box rfl rfl fun w2 b2 n2=>.alloc rfl D3 fun w3 b3 n3=>.nil ?_))
 obtain ⟨e1,k1,hb1,hs1⟩:=n1
 obtain ⟨e2,k2,hb2,hs2⟩:=n2
 obtain ⟨e3,k3,hb3,hs3⟩:=n3
 have x3:=(e1.trans e2).trans e3
 have k1:=(k1.ext e2).ext e3
 have k2:=k2.ext e3
 have hS:¬ Sx S w.heap.size w3.heap.size b3:=Sx.no (by omega) (by omega)
 have up3:Up (Sx S w.heap.size w3.heap.size) w3:=Sx.up up (Nat.le_refl _) x3.size
 have hsa3:=(hsa.par w3.heap.size).ext x3
 have hsb3:=(hsb.par w3.heap.size).ext x3
 have hout:∀ {W:World} {v:Value} {z:ZV},eZ.R (Sx S w.heap.size w3.heap.size) W v z→eZ.R S W v z:=fun h=>h.out
 generalize hT:Sx S w.heap.size w3.heap.size=T at *
 refine .seq ?_
 refine .par follows 7 [.inl _,.inl _,.inr (eW.at T (wds (val x.w))),.inl _,.inl _,.inr (eW.at T (wds (val y.w))),.inr (eW.at T (wds (val x.w)))] [[],[(11,0)],[(12,1)],[],[(14,3)],[(15,4)],[(13,2)]] (by kernel_rfl) ⟨
  fun w e=>(v_fa H6 rfl).ob,
  fun w e=>(v_ld ty_W rfl (k1.ext e) rfl).ob,
  fun w e=>(A2 _ B4 rfl (by rw [←D2 hda];exact B3 (hsa3.ext e))).ob (A6 _ _ _),
  fun w e=>(v_fa H6 rfl).ob,
  fun w e=>(v_ld ty_W rfl (k2.ext e) rfl).ob,
  fun w e=>(A2 _ B4 rfl (by rw [←D2 hdb];exact B3 (hsb3.ext e))).ob (A6 _ _ _),
  fun w e x2 hx2=>An0 rfl hx2 (A6 _ _ _),trivial⟩ ?_
 intro w4 e4 u2 hu2 u5 hu5 u6 hu6
 refine .asg rfl rfl (.nil ?_)
 have x4:=x3.trans e4
 have up4:=up3.ext e4.size
 have k4:=k3.ext e4
 generalize hG:Nat.gcd (val x.w) (val y.w)=G at *
 refine .mid (α:=Value×Value) (fun z=>[(4,.pointer (some ⟨b3,0,none⟩)),(5,z.1),(6,z.2)]) (fun z W=>Ext w4 W∧∃ m n,eW.R T W z.1 (wds m)∧eW.R T W z.2 (wds n)∧Nat.gcd m n=G∧(wds m).length≤1000000000000∧(n=0∨((wds m).length≤2∧(wds n).length≤2))) ?_ ?_
 ·refine .block (.loop (α:=Nat×Nat×Value×Value) (fun z=>[(4,.pointer (some ⟨b3,0,none⟩)),(5,z.2.2.1),(6,z.2.2.2)]) (fun z W=>Ext w4 W∧eW.R T W z.2.2.1 (wds z.1)∧eW.R T W z.2.2.2 (wds z.2.1)∧Nat.gcd z.1 z.2.1=G∧(wds z.1).length≤1000000000000∧(wds z.2.1).length≤1000000000000) (fun z=>z.2.1) (val x.w,val y.w,u6,u5) ?_ ?_ ?_)
  ·exact lkA rfl
  ·exact ⟨.refl _,hu6,hu5,hG,hla',hlb'⟩
  ·rintro ⟨m,n,v5,v6⟩ W ⟨hW,h5,h6,hg,hl5,hl6⟩
   replace h5:eW.R T W v5 (wds m):=h5
   replace h6:eW.R T W v6 (wds n):=h6
   replace hg:Nat.gcd m n=G:=hg
   replace hl5:(wds m).length≤1000000000000:=hl5
   replace hl6:(wds n).length≤1000000000000:=hl6
   refine .mid (α:=Unit) (fun _=>[(4,.pointer (some ⟨b3,0,none⟩)),(5,v5),(6,v6)]) (fun _ W'=>W'=W∧0<n) ?_ ?_
   ·refine .seq (.region (.mv rfl rfl (.lenR un_W rfl rfl h6 ?_)))
    rcases Nat.eq_zero_or_pos n with hn | hn
    ·subst hn
     rw [H2]
     refine .gtrF rfl rfl rfl (by decide) (.mv rfl rfl ?_)
     refine .gs rfl rfl rfl rfl rfl (.gs rfl rfl rfl rfl rfl (.gs rfl rfl rfl rfl rfl (.gs rfl rfl rfl rfl rfl ?_)))
     refine .gu rfl rfl rfl rfl (.gu rfl rfl rfl rfl (.gu rfl rfl rfl rfl (.gs rfl rfl rfl rfl rfl (.pick rfl rfl rfl (.nil (.condF rfl (.exit ?_)))))))
     exact ⟨rfl,(v5,v6),lkA rfl,hW,m,0,h5,h6,hg,hl5,.inl rfl⟩
    ·have hn0:=List.length_pos_iff.2 (P9 (n:=n) (by omega))
     refine .gtrT rfl rfl rfl (by omega) (.mv rfl rfl (.gr rfl rfl rfl rfl (.mv rfl rfl (.gr rfl rfl rfl rfl (.lenR un_W rfl rfl h5 (.gr rfl rfl rfl rfl ?_))))))
     by_cases hm2:2<(wds m).length
     ·refine .gtrT rfl rfl rfl (by omega) (.gr rfl rfl rfl rfl (.mv rfl rfl (.gs rfl rfl rfl rfl rfl (.gs rfl rfl rfl rfl rfl (.gs rfl rfl rfl rfl rfl (.gr rfl rfl rfl rfl (.pick rfl rfl rfl (.pick rfl rfl rfl (.nil (.condT rfl (.skip ?_)))))))))))
      exact ⟨rfl,(),lkA rfl,rfl,hn⟩
     ·refine .gtrF rfl rfl rfl (by omega) (.gr rfl rfl rfl rfl (.mv rfl rfl (.gr rfl rfl rfl rfl (.mv rfl rfl (.gr rfl rfl rfl rfl (.lenR un_W rfl rfl h6 (.gr rfl rfl rfl rfl ?_)))))))
      by_cases hn2:2<(wds n).length
      ·refine .gtrT rfl rfl rfl (by omega) (.gr rfl rfl rfl rfl (.pick rfl rfl rfl (.pick rfl rfl rfl (.nil (.condT rfl (.skip ?_))))))
       exact ⟨rfl,(),lkA rfl,rfl,hn⟩
      ·refine .gtrF rfl rfl rfl (by omega) (.gr rfl rfl rfl rfl (.pick rfl rfl rfl (.pick rfl rfl rfl (.nil (.condF rfl (.exit ?_))))))
       exact ⟨rfl,(v5,v6),lkA rfl,hW,m,n,h5,h6,hg,hl5,.inr ⟨by omega,by omega⟩⟩
   ·rintro _ W' ⟨rfl,hn⟩
    refine .block (.seq (.region (.mv rfl rfl (.mv rfl rfl ?_))))
    refine .call _ rfl V7 rfl (AI7 (up4.ext hW.size) h5 h6 (by omega) hn) fun v7 w7 e7 h7=>?_
    obtain ⟨vq,vr,rfl,_,⟨r,hr,hrv,hrl⟩⟩:=h7
    refine .mv rfl rfl (.ext rfl rfl rfl (.ext rfl rfl rfl (.asg rfl rfl (.asg rfl rfl (.nil (.region (.mv rfl rfl (.mv rfl rfl ?_))))))))
    have hrd:dig r:=E3 hr
    refine .call _ rfl B4 rfl (B3 hr) fun vt w8 e8 ht=>.asg rfl rfl (.asg rfl rfl (.nil ?_))
    rw [D2 hrd,hrv] at ht
    have hlt:=Nat.mod_lt m hn
    refine ⟨rfl,(n,m % n,v6,vt),lkA rfl,⟨(hW.trans e7).trans e8,(h6.ext e7).ext e8,ht,?_,hl6,?_⟩,hlt⟩
    ·show Nat.gcd n (m % n)=G
     rw [←hg,Nat.gcd_comm m n,Nat.gcd_rec n m,Nat.gcd_comm]
    ·exact Nat.le_trans (U8 (Nat.le_of_lt hlt)) hl6
 ·rintro ⟨v5,v6⟩ W ⟨hW,m,n,h5,h6,hg,hl5,hend⟩
  replace h5:eW.R T W v5 (wds m):=h5
  replace h6:eW.R T W v6 (wds n):=h6
  have upW:=up4.ext hW.size
  have xW:=x4.trans hW
  have kW:=k4.ext hW
  refine .seq (.seq (.region (.mv rfl rfl (.lenR un_W rfl rfl h6 ?_))))
  rcases Nat.eq_zero_or_pos n with hn | hn
  ·subst hn
   rw [H2]
   refine .eqlT rfl rfl rfl rfl (.nil (.condT rfl (.seq (.region (.mv rfl rfl ?_)))))
   refine .call _ rfl AI3 rfl (AO2 upW h5 (by omega)) fun v7 w7 e7 h7=>?_
   refine .call _ rfl E6 rfl (E4 (upW.ext e7.size) h7) fun v8 w8 e8 h8=>?_
   refine .storeA ty_Z rfl rfl ((kW.ext e7).ext e8) rfl rfl h8 hS fun w9 k9 u9 h9=>.nil (.ret ?_)
   refine .cell Tryz.results236 rfl ty_Z rfl rfl k9 h9 ⟨u9.below ((xW.trans e7).trans e8) (by omega),?_⟩
   rw [B5] at h9
   rw [←hg,Nat.gcd_zero_right]
   exact hout h9
  ·have hn0:=List.length_pos_iff.2 (P9 (n:=n) (by omega))
   obtain ⟨hm2,hn2⟩:=hend.resolve_left (by omega)
   have hm64:m<18446744073709551616:=by
    have h3:=Z8 m
    have h4:4294967296 ^ (wds m).length≤4294967296 ^ 2:=Nat.pow_le_pow_right (by omega) hm2
    omega
   have hn64:n<18446744073709551616:=by
    have h3:=Z8 n
    have h4:4294967296 ^ (wds n).length≤4294967296 ^ 2:=Nat.pow_le_pow_right (by omega) hn2
    omega
   refine .eqlF rfl rfl rfl (by omega) (.nil (.condF rfl (.skip (.seq (.region (.mv rfl rfl ?_))))))
   refine .call _ rfl J6 rfl (J0 h5 hm2) fun v7 w7 e7 h7=>?_
   subst h7
   refine .mv rfl rfl (.call _ rfl J6 rfl (J0 (h6.ext e7) hn2) fun v8 w8 e8 h8=>?_)
   subst h8
   rw [B5,B5]
   refine .asg rfl rfl (.asg rfl rfl (.nil ?_))
   have x8:=(xW.trans e7).trans e8
   have up8:=(upW.ext e7.size).ext e8.size
   have k8:=(kW.ext e7).ext e8
   refine .mid (α:=Unit) (fun _=>[(4,.pointer (some ⟨b3,0,none⟩)),(9,.int .u64 (G:Nat))]) (fun _ W'=>Ext w8 W'∧G<18446744073709551616) ?_ ?_
   ·refine .block (.loop (α:=Nat×Nat) (fun z=>[(4,.pointer (some ⟨b3,0,none⟩)),(9,.int .u64 (z.1:Nat)),(10,.int .u64 (z.2:Nat))]) (fun z W'=>Ext w8 W'∧Nat.gcd z.1 z.2=G∧z.1<18446744073709551616∧z.2<18446744073709551616) (fun z=>z.2) (m,n) ?_ ?_ ?_)
    ·exact lkA rfl
    ·exact ⟨.refl _,hg,hm64,hn64⟩
    ·rintro ⟨m,n⟩ W' ⟨hW',hg,hm,hn⟩
     replace hg:Nat.gcd m n=G:=hg
     replace hm:m<18446744073709551616:=hm
     replace hn:n<18446744073709551616:=hn
     rcases Nat.eq_zero_or_pos n with h0 | h0
     ·subst h0
      refine .seq (.seq (.region (.mv rfl rfl (.gtrF rfl rfl rfl (by show ¬ (0:Int)<((0:Nat):Int);omega) (.nil (.condF rfl (.exit ?_)))))))
      rw [Nat.gcd_zero_right] at hg
      subst hg
      exact ⟨rfl,(),lkA rfl,hW',hm⟩
     ·refine .seq (.seq (.region (.mv rfl rfl (.gtrT rfl rfl rfl (by show (0:Int)<(n:Int);omega) (.nil (.condT rfl (.skip (.block ?_))))))))
      refine .par follows 5 [.inl (.int .u64 (n:Nat)),.inl (.int .u64 (m:Nat)),.inl (.int .u64 (n:Nat)),.inl (.int .u64 ((m % n:Nat):Int)),.inl (.int .u64 (n:Nat))] [[],[],[],[(52,1),(53,2)],[(51,0)]] (by kernel_rfl) ⟨
       fun w e=>(v_mv rfl).ob,
       fun w e=>(v_mv rfl).ob,
       fun w e=>(v_mv rfl).ob,
       fun w e=>((Ad0 rfl rfl (by omega)).eq (by rw [AF7])).ob,
       fun w e=>(v_as rfl).ob,trivial⟩ ?_
      intro w9 e9
      refine .asg rfl rfl (.nil ?_)
      have hlt:=Nat.mod_lt m h0
      refine ⟨rfl,(n,m % n),lkA rfl,⟨hW'.trans e9,?_,hn,Nat.lt_trans hlt hn⟩,hlt⟩
      show Nat.gcd n (m % n)=G
      rw [←hg,Nat.gcd_comm m n,Nat.gcd_rec n m,Nat.gcd_comm]
   ·rintro _ W' ⟨hW',hG64⟩
    refine .seq (.region (.mv rfl rfl ?_))
    refine .call _ rfl I5 rfl (I4 (neg:=false) (up8.ext hW'.size) hG64) fun v9 w9 e9 h9=>?_
    refine .storeA ty_Z rfl rfl ((k8.ext hW').ext e9) rfl rfl h9 hS fun w10 k10 u10 h10=>.nil (.ret ?_)
    exact .cell Tryz.results236 rfl ty_Z rfl rfl k10 h10 ⟨u10.below ((x8.trans hW').trans e9) (by omega),hout h10⟩
end Go.Proofs.YtfilidfomgfnhaaGreat

namespace Go.Kx
open Go Go.RowKit
section
variable {P:Program} {σ:Env} {w:World} {d:Option Tmp} {ty:TypeId} {pos:String} {af:Array Edge} {g:Option (Nat×Bool)}
def MapAt (w:World) (r:Nat) (es:Array MapEntry) (c:Nat):Prop:=w.heap[r]?=some (.map es c)
theorem MapAt.ext {w w':World} {r:Nat} {es:Array MapEntry} {c:Nat} (h:MapAt w r es c) (e:Ext w w'):MapAt w' r es c:=(e.block r (Array.getElem?_eq_some_iff.1 h).1).trans h
theorem g_mkmap {t:TypeId}:Gv P ⟨d,.makeMap t none,ty,pos,af,g⟩ σ w fun v' w'=>v'=.map (some w.heap.size)∧Ext w w'∧MapAt w' w.heap.size #[] 0:=by
 refine ⟨(by intro _ h;cases h),fun ρ hρ=>.inl ⟨_,_,?_,rfl,P8 w (.map #[] 0),World.alloc_heap_new w _⟩⟩
 simp [execOp,Instr.makeMap]
theorem An4 {t kt et:TypeId} {m k x:Operand} {r:Nat} {es:Array MapEntry} {c:Nat} {kk:IntKind} {n:Int} {v:Value} (ht:P.underlying t=some (.map kt et)) (hk:P.underlying kt=some (.int kk)) (hm:ev σ m=some (.map (some r))) (hn:ev σ k=some (.int kk n)) (hx:ev σ x=some v)
  (hr:MapAt w r es c) (hf:Instr.findNow (.int kk) (.int kk n) es.toList 0=some none) :
  Gv P ⟨d,.insert t m k x,ty,pos,af,g⟩ σ w fun _ w'=>w'=w.putObj r (.map (es.push { key:=.int kk n,val:=v,born:=c }) (c+1)):=by
 refine ⟨(by intro _ h;cases h),fun ρ hρ=>.inr (.inl ⟨_,?_,rfl⟩)⟩
 have e1:=hρ m _ (by simp [Op.operands]) hm
 have e2:=hρ k _ (by simp [Op.operands]) hn
 have e3:=hρ x _ (by simp [Op.operands]) hx
 have hr':w.heap[r]?=some (.map es c):=hr
 have hck:(Instr.checkKey false 10000 kt (.int kk n)).run P w=.ok () w:=by
  unfold Instr.checkKey
  simp [run_underlying hk]
 have hfk:(Instr.findKey kt (.int kk n) es.toList).run P w=.ok none w:=by
  unfold Instr.findKey
  simp [run_underlying hk,hf]
 have hget:(getObj r).run P w=.ok (.map es c) w:=by simp [getObj,Sem.run,hr']
 have hset:∀ o,(setObj r o).run P w=.ok () (w.putObj r o):=fun o=>by simp [setObj,Sem.run,hr',World.putObj]
 simp [execOp,e1,e2,e3,Instr.mapUpdate,run_underlying ht,hget,hck,hfk,hset]
theorem MapAt.put {r:Nat} {es es':Array MapEntry} {c c':Nat} (h:MapAt w r es c):MapAt (w.putObj r (.map es' c')) r es' c':=World.putObj_heap_same (Array.getElem?_eq_some_iff.1 h).1
theorem AC7 {B r:Nat} {w0:World} {o:Obj} (h:Below B w0 w) (hr:B≤r):Below B w0 (w.putObj r o):=M1 h hr
/-- the entry is there -/
theorem v_lkp {t kt et:TypeId} {m k:Operand} {r:Nat} {es:Array MapEntry} {c:Nat} {kk:IntKind} {n:Int} {i:Nat} {v:Value} (ht:P.underlying t=some (.map kt et)) (hk:P.underlying kt=some (.int kk)) (hm:ev σ m=some (.map (some r))) (hn:ev σ k=some (.int kk n))
  (hr:MapAt w r es c) (hf:Instr.findNow (.int kk) (.int kk n) es.toList 0=some (some (i,v))):Vl P ⟨d,.lookup t m k false,ty,pos,af,g⟩ σ w v:=by
 refine ⟨(by intro _ h;cases h),fun ρ hρ=>?_⟩
 have e1:=hρ m _ (by simp [Op.operands]) hm
 have e2:=hρ k _ (by simp [Op.operands]) hn
 have hr':w.heap[r]?=some (.map es c):=hr
 have hck:∀ b,(Instr.checkKey b 10000 kt (.int kk n)).run P w=.ok () w:=by
  intro b
  unfold Instr.checkKey
  simp [run_underlying hk]
 have hfk:(Instr.findKey kt (.int kk n) es.toList).run P w=.ok (some (i,v)) w:=by
  unfold Instr.findKey
  simp [run_underlying hk,hf]
 have hget:(getObj r).run P w=.ok (.map es c) w:=by simp [getObj,Sem.run,hr']
 simp [execOp,e1,e2,Instr.lookup,run_underlying ht,hget,hck,hfk]
end
/-- an integer of a value -/
@[reducible] def Zv (S:Nat→Prop) (n:Int) (L:Nat):Value→World→Prop:=fun v w=>∃ z,eZ.R S w v z∧zval z=n∧z.w.length≤L
theorem Ae2 (S:Nat→Prop) (n:Int) (L:Nat):St (Zv S n L):=fun _ _ _ e ⟨z,h1,h2⟩=>⟨z,h1.ext e,h2⟩
theorem Zv.of {S:Nat→Prop} {n:Int} {L:Nat} {v:Value} {w:World} (h:eZ.R S w v (zc n)) (hl:n.natAbs<4294967296 ^ L):Zv S n L v w:=⟨_,h,H1 n,Z6 hl⟩
theorem Zv.lt {S:Nat→Prop} {n:Int} {L:Nat} {v:Value} {w:World} (h:Zv S n L v w):n.natAbs<4294967296 ^ L:=by
 obtain ⟨z,⟨s,_,hs⟩,rfl,hl⟩:=h
 exact R7 (E3 hs) hl
theorem Zv.out {S:Nat→Prop} {B C:Nat} {n:Int} {L:Nat} {v:Value} {w:World} (h:Zv (Sx S B C) n L v w):Zv S n L v w:=by
 obtain ⟨z,h1,h2⟩:=h
 exact ⟨z,h1.out,h2⟩
theorem Zv.ext {S:Nat→Prop} {n:Int} {L:Nat} {v:Value} {w w':World} (h:Zv S n L v w) (e:Ext w w'):Zv S n L v w':=Ae2 S n L _ _ _ e h
theorem Zv.agg {S:Nat→Prop} {n:Int} {L:Nat} {v:Value} {w:World} (h:Zv S n L v w):∃ b s,v=.agg #[.bool b,s]:=by
 obtain ⟨z,⟨s,rfl,_⟩,_⟩:=h
 exact ⟨_,_,rfl⟩
/-- integers by their number alone -/
def eZn (L:Nat):ER Int where
 sz:=2
 isA:=true
 R:=fun S w v n=>Zv S n L v w
 csz:=by rintro S w e x ⟨z,h,_⟩;exact eZ.csz h
 one:=by rintro S w e x ⟨z,h,_⟩;exact eZ.one h
 shp:=by rintro S w e x ⟨z,h,_⟩;exact eZ.shp h
 keep:=fun hk ⟨z,h1,h2⟩=>⟨z,eZ.keep hk h1,h2⟩
 mono:=fun hk ⟨z,h1,h2⟩=>⟨z,eZ.mono hk h1,h2⟩
end Go.Kx

namespace Go.Proofs.YtfilidfomgfnhaaGreat
open Go Go.Kx Go.RowKit
/-- the two integers of a rational -/
theorem AB3 {S:Nat→Prop} {w:World} {v:Value} {q:QV} (h:eQ.R S w v q):∃ s t,v=.agg #[.bool q.num.neg,s,.bool q.den.neg,t]∧eZ.R S w (.agg #[.bool q.num.neg,s]) q.num∧eZ.R S w (.agg #[.bool q.den.neg,t]) q.den:=by
 obtain ⟨s,t,hv,h1,h2⟩:=h
 exact ⟨s,t,hv,⟨s,rfl,h1⟩,⟨t,rfl,h2⟩⟩
theorem AJ8 {S:Nat→Prop} {w:World} {v:Value} {z:ZV} (h:eZ.R S w v z):dig z.w:=by
 obtain ⟨s,_,hs⟩:=h
 exact E3 hs
theorem N4:Ent Tryz.prog 131:=A0 Tryz.func131 (by kernel_rfl) rfl
theorem N0 {S:Nat→Prop} {w:World} {v:Value} {q:QV} {L:Nat} (up:Up S w) (h:eQ.R S w v q) (hl:qok L q) (hL:1≤L) (hL2:L≤1000000000000):CR Tryz.prog 131 #[v] w (Two (Zv S (pn q) L) (Zv S (pd q) L)):=by
 obtain ⟨s,t,rfl,hn,hd⟩:=AB3 h
 have hdn:=AJ8 hn
 have hdd:=AJ8 hd
 refine enter Tryz.func131 rfl Tryz.ntmps131 rfl ?_
 refine .seq (.region (.box rfl rfl fun w1 b1 n1=>.alloc rfl D3 fun w2 b2 n2=>.alloc rfl D3 fun w3 b3 n3=>.nil ?_))
 obtain ⟨e1,k1,hb1,hs1⟩:=n1
 obtain ⟨e2,k2,hb2,hs2⟩:=n2
 obtain ⟨e3,k3,hb3,hs3⟩:=n3
 have x3:=(e1.trans e2).trans e3
 have k1:=(k1.ext e2).ext e3
 have k2:=k2.ext e3
 have hS2:¬ Sx S w.heap.size w3.heap.size b2:=Sx.no (by omega) (by omega)
 have hS3:¬ Sx S w.heap.size w3.heap.size b3:=Sx.no (by omega) (by omega)
 have up3:Up (Sx S w.heap.size w3.heap.size) w3:=Sx.up up (Nat.le_refl _) x3.size
 have hn3:=(hn.par w3.heap.size).ext x3
 have hd3:=(hd.par w3.heap.size).ext x3
 have hne23:b3≠b2:=by omega
 have hne21:b1≠b2:=by omega
 have hout:∀ {W:World} {v:Value} {n:Int},(eZn L).R (Sx S w.heap.size w3.heap.size) W v n→Zv S n L v W:=fun h=>Zv.out h
 generalize hT:Sx S w.heap.size w3.heap.size=T at *
 have fin2:∀ {σ:Env} {W:World} {u v:Value} {m n:Int},Ext w W→Blk W b2 53 u.cells→Blk W b3 53 v.cells→(eZn L).R T W u m→(eZn L).R T W v n→m=pn q→n=pd q→Kx.look σ 2=some (.pointer (some ⟨b2,0,none⟩))→Kx.look σ 3=some (.pointer (some ⟨b3,0,none⟩)) →
   Leave Tryz.prog Tryz.f131 24 (fun v w'=>Ext w w'∧Two (Zv S (pn q) L) (Zv S (pd q) L) v w') σ [] W:=by
  intro σ W u v m n hx hb hb' hu hv hm hn h2 h3
  subst hm;subst hn
  exact .plain [_,_] Tryz.results131 ⟨⟨_,h2,D1 (E:=eZn L) ty_Z rfl rfl hb hu⟩,⟨_,h3,D1 (E:=eZn L) ty_Z rfl rfl hb' hv⟩,trivial⟩ ⟨hx,u,v,rfl,hout hu,hout hv⟩
 refine .seq (.seq (.region (.fa AB1 rfl rfl (.ldN [.bool q.den.neg,t] ty_Z rfl rfl k1 (by intro j u hu;match j with | 0=>exact hu | 1=>exact hu | j+2=>simp at hu) ?_))))
 refine .call _ rfl F1 rfl (E9 hd3) fun v4 w4 e4 h4=>.nil ?_
 subst h4
 have hn4:=hn3.ext e4
 have hd4:=hd3.ext e4
 have k1:=k1.ext e4
 have k2:=k2.ext e4
 have k3:=k3.ext e4
 have x4:=x3.trans e4
 have up4:=up3.ext e4.size
 refine .block (.seq (.region ?_))
 by_cases h0:zval q.den=0
 ·refine .eqlT rfl rfl rfl (by rw [h0];rfl) (.asg rfl rfl (.nil (.condT rfl (.seq ?_))))
  refine .par follows 3 [.inl _,.inl (.agg #[.bool q.num.neg,s]),.inr (eZ.at T (zc 1))] [[],[(9,0)],[]] (by kernel_rfl) ⟨
   fun w e=>(v_fa Y7 rfl).ob,
   fun w e=>(Z1 [.bool q.num.neg,s] ty_Z rfl (k1.ext e) (by intro j u hu;match j with | 0=>exact hu | 1=>exact hu | j+2=>simp at hu)).ob,
   fun w e=>(A2 _ C4 rfl (C3 (n:=1) (up4.ext e.size) (by omega) (by omega))).ob (A6 _ _ _),trivial⟩ ?_
  intro w5 e5 x2 hx2
  have hA:(eZn L).R T w5 (.agg #[.bool q.num.neg,s]) (zval q.num):=⟨q.num,hn4.ext e5,rfl,hl.1⟩
  have h1:(eZn L).R T w5 x2 1:=Zv.of hx2 (by have:4294967296 ^ 1≤4294967296 ^ L:=Nat.pow_le_pow_right (by omega) hL;show 1<_;omega)
  refine .storeA (E:=eZn L) ty_Z rfl rfl (k2.ext e5) rfl rfl hA hS2 fun w6 k6 u6 h6=>?_
  refine .storeA (E:=eZn L) ty_Z rfl rfl ((k3.ext e5).upd u6 hne23) rfl rfl (h1.upd u6 hS2) hS3 fun w7 k7 u7 h7=>.nil (.ret ?_)
  refine fin2 (u7.below (u6.below (x4.trans e5) (by omega)) (by omega)) (k6.upd u7 (Ne.symm hne23)) k7 (h6.upd u7 hS3) h7 ?_ ?_ rfl rfl
  ·unfold pn;rw [h0];simp
  ·unfold pd;rw [h0];simp
 ·have hs0:(zval q.den).sign≠0:=fun h=>h0 (Int.sign_eq_zero_iff_zero.1 h)
  refine .eqlF rfl rfl rfl hs0 (.asg rfl rfl (.nil (.condF rfl (.seq (.region ?_)))))
  by_cases h1:zval q.den<0
  ·refine .eqlT rfl rfl rfl (Int.sign_eq_neg_one_of_neg h1) (.asg rfl rfl (.nil (.condT rfl (.seq ?_))))
   refine .held follows true (fun W=>Blk W b1 55 #[.bool q.num.neg,s,.bool q.den.neg,t]) [some _,some (.agg #[.bool q.num.neg,s]),none,some _,some (.agg #[.bool q.den.neg,t]),none,none,none] (by kernel_rfl) ⟨
    fun _ _=>v_fa Y7 rfl,
    fun _ h=>Z1 [.bool q.num.neg,s] ty_Z rfl h (by intro j u hu;match j with | 0=>exact hu | 1=>exact hu | j+2=>simp at hu),
    fun _ _=>v_fa AB1 rfl,
    fun _ h=>Z1 [.bool q.den.neg,t] ty_Z rfl h (by intro j u hu;match j with | 0=>exact hu | 1=>exact hu | j+2=>simp at hu),trivial⟩ ?_
   intro w5 e5 _
   refine .gv (k1.ext e5) rfl (A2 _ P0 rfl (O4 (up4.ext e5.size) (hn4.ext e5) (Nat.le_trans hl.1 (by omega)))) ?_
   rintro vn w6 ⟨e6,hvn⟩
   have e56:=e5.trans e6
   refine .gv (k1.ext e56) rfl (A2 _ P0 rfl (O4 (up4.ext e56.size) (hd4.ext e56) (Nat.le_trans hl.2 (by omega)))) ?_
   rintro vd w7 ⟨e7,hvd⟩
   have e57:=e56.trans e7
   have hA:(eZn L).R T w7 vn (-zval q.num):=Zv.of (hvn.ext e7) (by have:=R7 hdn hl.1;omega)
   have hB:(eZn L).R T w7 vd (-zval q.den):=Zv.of hvd (by have:=R7 hdd hl.2;omega)
   have hca:=(eZn L).csz hA
   have hcb:=(eZn L).csz hB
   refine .gv (k1.ext e57) rfl (I8 ty_Z rfl rfl (k2.ext e57) hca (Nat.le_refl _) ((eZn L).one hA)) ?_
   rintro _ w8 ⟨k8,u8⟩
   rw [V9 _ _ (by rw [Array.length_toList,hca];rfl)] at k8
   refine .gv ((k1.ext e57).upd u8 hne21) rfl (I8 ty_Z rfl rfl ((k3.ext e57).upd u8 hne23) hcb (Nat.le_refl _) ((eZn L).one hB)) ?_
   rintro _ w9 ⟨k9,u9⟩
   rw [V9 _ _ (by rw [Array.length_toList,hcb];rfl)] at k9
   refine .nil (.inl rfl) (.ret ?_)
   simp only [Array.toArray_toList] at k8 k9
   refine fin2 (u9.below (u8.below (x4.trans e57) (by omega)) (by omega)) (k8.upd u9 (Ne.symm hne23)) k9 ((hA.upd u8 hS2).upd u9 hS3) ((hB.upd u8 hS2).upd u9 hS3) ?_ ?_ rfl rfl
   ·unfold pn;rw [if_pos h1]
   ·unfold pd;rw [if_neg h0,if_pos h1]
  ·have hs1:(zval q.den).sign ≠ -1:=by rw [Int.sign_eq_one_of_pos (by omega)];decide
   refine .eqlF rfl rfl rfl hs1 (.asg rfl rfl (.nil (.condF rfl (.skip (.seq ?_)))))
   refine .held follows true (fun W=>Blk W b1 55 #[.bool q.num.neg,s,.bool q.den.neg,t]) [some _,some (.agg #[.bool q.num.neg,s]),some _,some (.agg #[.bool q.den.neg,t]),none,none] (by kernel_rfl) ⟨
    fun _ _=>v_fa Y7 rfl,
    fun _ h=>Z1 [.bool q.num.neg,s] ty_Z rfl h (by intro j u hu;match j with | 0=>exact hu | 1=>exact hu | j+2=>simp at hu),
    fun _ _=>v_fa AB1 rfl,
    fun _ h=>Z1 [.bool q.den.neg,t] ty_Z rfl h (by intro j u hu;match j with | 0=>exact hu | 1=>exact hu | j+2=>simp at hu),trivial⟩ ?_
   intro w7 e57 _
   have hA:(eZn L).R T w7 (.agg #[.bool q.num.neg,s]) (zval q.num):=⟨q.num,hn4.ext e57,rfl,hl.1⟩
   have hB:(eZn L).R T w7 (.agg #[.bool q.den.neg,t]) (zval q.den):=⟨q.den,hd4.ext e57,rfl,hl.2⟩
   have hca:=(eZn L).csz hA
   have hcb:=(eZn L).csz hB
   refine .gv (k1.ext e57) rfl (I8 ty_Z rfl rfl (k2.ext e57) hca (Nat.le_refl _) ((eZn L).one hA)) ?_
   rintro _ w8 ⟨k8,u8⟩
   rw [V9 _ _ (by rw [Array.length_toList,hca];rfl)] at k8
   refine .gv ((k1.ext e57).upd u8 hne21) rfl (I8 ty_Z rfl rfl ((k3.ext e57).upd u8 hne23) hcb (Nat.le_refl _) ((eZn L).one hB)) ?_
   rintro _ w9 ⟨k9,u9⟩
   rw [V9 _ _ (by rw [Array.length_toList,hcb];rfl)] at k9
   refine .nil (.inl rfl) (.ret ?_)
   simp only [Array.toArray_toList] at k8 k9
   refine fin2 (u9.below (u8.below (x4.trans e57) (by omega)) (by omega)) (k8.upd u9 (Ne.symm hne23)) k9 ((hA.upd u8 hS2).upd u9 hS3) ((hB.upd u8 hS2).upd u9 hS3) ?_ ?_ rfl rfl
   ·unfold pn;rw [if_neg h1]
   ·unfold pd;rw [if_neg h0,if_neg h1]
def shortB (q:QV):Bool:=decide (-2147483648<zval q.num∧zval q.num<2147483648 ∧ -2147483648<zval q.den∧zval q.den<2147483648)
def shortV (q:QV):Value:=if shortB q then .tuple #[.int .i64 (pn q),.int .i64 (pd q),.bool true] else .tuple #[.int .i64 0,.int .i64 0,.bool false]
theorem C9:Ent Tryz.prog 117:=A0 Tryz.func117 (by kernel_rfl) rfl
theorem C8 {S:Nat→Prop} {w:World} {v:Value} {q:QV} (h:eQ.R S w v q):CR Tryz.prog 117 #[v] w (Is (shortV q)):=by
 obtain ⟨s,t,rfl,hn,hd⟩:=AB3 h
 refine enter Tryz.func117 rfl Tryz.ntmps117 rfl ?_
 refine .seq (.region (.box rfl rfl fun w1 b1 n1=>.asg rfl rfl (.asg rfl rfl (.asg rfl rfl (.nil ?_)))))
 obtain ⟨e1,k1,hb1,hs1⟩:=n1
 refine .seq (.region (.fa Y7 rfl rfl (.ldN [.bool q.num.neg,s] ty_Z rfl rfl k1 (by intro j u hu;match j with | 0=>exact hu | 1=>exact hu | j+2=>simp at hu) ?_)))
 refine .call _ rfl G6 rfl (G4 (hn.ext e1)) fun v2 w2 e2 h2=>?_
 subst h2
 refine .mv rfl rfl (.ext rfl rfl rfl (.ext rfl rfl rfl (.asg rfl rfl (.asg rfl rfl (.nil ?_)))))
 have x2:=e1.trans e2
 refine .seq (.region (.fa AB1 rfl rfl (.ldN [.bool q.den.neg,t] ty_Z rfl rfl (k1.ext e2) (by intro j u hu;match j with | 0=>exact hu | 1=>exact hu | j+2=>simp at hu) ?_)))
 refine .call _ rfl G6 rfl (G4 (hd.ext x2)) fun v3 w3 e3 h3=>?_
 subst h3
 refine .mv rfl rfl (.ext rfl rfl rfl (.ext rfl rfl rfl (.asg rfl rfl (.asg rfl rfl (.nil ?_)))))
 have x3:=x2.trans e3
 have hF:∀ {W:World},shortB q=false→Is (shortV q) (tup [.int .i64 0,.int .i64 0,.bool false]) W:=by
  intro W h;unfold shortV;rw [h];rfl
 refine .seq (.seq (.region (.mv rfl rfl (.not_ rfl rfl (.mv rfl rfl ?_)))))
 by_cases hno:i64ok (zval q.num)=true
 ·rw [hno]
  refine .gr rfl rfl rfl rfl (.mv rfl rfl (.gr rfl rfl rfl rfl (.not_ rfl rfl (.pick rfl rfl rfl (.mv rfl rfl ?_)))))
  by_cases hdo:i64ok (zval q.den)=true
  ·rw [hdo]
   have en:i64v (zval q.num)=zval q.num:=by rw [i64v,hno];rfl
   have ed:i64v (zval q.den)=zval q.den:=by rw [i64v,hdo];rfl
   rw [en,ed]
   refine .gr rfl rfl rfl rfl (.mv rfl rfl (.gr rfl rfl rfl rfl ?_))
   by_cases h1:zval q.num ≤ -2147483648
   ·refine .leqT rfl rfl rfl h1 (.pick rfl rfl rfl (.mv rfl rfl (.gs rfl rfl rfl rfl rfl (.gs rfl rfl rfl rfl rfl (.pick rfl rfl rfl (.mv rfl rfl (.gs rfl rfl rfl rfl rfl (.gs rfl rfl rfl rfl rfl (.pick rfl rfl rfl (.mv rfl rfl (.gs rfl rfl rfl rfl rfl (.gs rfl rfl rfl rfl rfl (.pick rfl rfl rfl (.nil (.condT rfl (.seq (.region (.asg rfl rfl (.asg rfl rfl (.asg rfl rfl (.nil (.ret ?_))))))))))))))))))))))
    exact .plain [_,_,_] Tryz.results117 ⟨rfl,rfl,rfl,trivial⟩ ⟨x3,hF (by simp [shortB];omega)⟩
   refine .leqF rfl rfl rfl h1 (.pick rfl rfl rfl (.mv rfl rfl (.gr rfl rfl rfl rfl (.mv rfl rfl (.gr rfl rfl rfl rfl ?_)))))
   by_cases h2:2147483648≤zval q.num
   ·refine .geqT rfl rfl rfl h2 (.pick rfl rfl rfl (.mv rfl rfl (.gs rfl rfl rfl rfl rfl (.gs rfl rfl rfl rfl rfl (.pick rfl rfl rfl (.mv rfl rfl (.gs rfl rfl rfl rfl rfl (.gs rfl rfl rfl rfl rfl (.pick rfl rfl rfl (.nil (.condT rfl (.seq (.region (.asg rfl rfl (.asg rfl rfl (.asg rfl rfl (.nil (.ret ?_))))))))))))))))))
    exact .plain [_,_,_] Tryz.results117 ⟨rfl,rfl,rfl,trivial⟩ ⟨x3,hF (by simp [shortB];omega)⟩
   refine .geqF rfl rfl rfl h2 (.pick rfl rfl rfl (.mv rfl rfl (.gr rfl rfl rfl rfl (.mv rfl rfl (.gr rfl rfl rfl rfl ?_)))))
   by_cases h3:zval q.den ≤ -2147483648
   ·refine .leqT rfl rfl rfl h3 (.pick rfl rfl rfl (.mv rfl rfl (.gs rfl rfl rfl rfl rfl (.gs rfl rfl rfl rfl rfl (.pick rfl rfl rfl (.nil (.condT rfl (.seq (.region (.asg rfl rfl (.asg rfl rfl (.asg rfl rfl (.nil (.ret ?_))))))))))))))
    exact .plain [_,_,_] Tryz.results117 ⟨rfl,rfl,rfl,trivial⟩ ⟨x3,hF (by simp [shortB];omega)⟩
   refine .leqF rfl rfl rfl h3 (.pick rfl rfl rfl (.mv rfl rfl (.gr rfl rfl rfl rfl (.mv rfl rfl (.gr rfl rfl rfl rfl ?_)))))
   by_cases h4:2147483648≤zval q.den
   ·refine .geqT rfl rfl rfl h4 (.pick rfl rfl rfl (.nil (.condT rfl (.seq (.region (.asg rfl rfl (.asg rfl rfl (.asg rfl rfl (.nil (.ret ?_))))))))))
    exact .plain [_,_,_] Tryz.results117 ⟨rfl,rfl,rfl,trivial⟩ ⟨x3,hF (by simp [shortB];omega)⟩
   refine .geqF rfl rfl rfl h4 (.pick rfl rfl rfl (.nil (.condF rfl (.skip ?_))))
   have hb:shortB q=true:=by simp [shortB];omega
   have hT:∀ {W:World} {m n:Int},m=pn q→n=pd q→Is (shortV q) (tup [.int .i64 m,.int .i64 n,.bool true]) W:=by
    intro W m n hm hn;subst hm;subst hn;unfold shortV;rw [hb];rfl
   refine .mid (α:=Unit) (fun _=>[(2,.int .i64 (pn q)),(3,.int .i64 (pd q))]) (fun _ W=>W=w3) ?_ ?_
   ·refine .block (.seq (.region (.mv rfl rfl ?_)))
    by_cases h0:zval q.den=0
    ·refine .eqlT rfl rfl rfl h0 (.asg rfl rfl (.nil (.condT rfl (.region (.asg rfl rfl (.nil ?_))))))
     have e1:pn q=zval q.num:=by unfold pn;rw [if_neg (by omega)]
     have e2:pd q=1:=by unfold pd;rw [if_pos h0]
     rw [e1,e2]
     exact ⟨rfl,(),lkA rfl,rfl⟩
    ·refine .eqlF rfl rfl rfl h0 (.asg rfl rfl (.nil (.condF rfl (.seq (.region (.mv rfl rfl ?_))))))
     by_cases h5:zval q.den<0
     ·refine .lssT rfl rfl rfl h5 (.asg rfl rfl (.nil (.condT rfl (.region (.mv rfl rfl (.neg rfl rfl (.mv rfl rfl (.neg rfl rfl (.asg rfl rfl (.asg rfl rfl (.nil ?_))))))))))) 
      have e1:pn q = -zval q.num:=by unfold pn;rw [if_pos h5]
      have e2:pd q = -zval q.den:=by unfold pd;rw [if_neg h0,if_pos h5]
      rw [e1,e2,wI (n:=0-zval q.num) (by omega),wI (n:=0-zval q.den) (by omega),Int.zero_sub,Int.zero_sub]
      exact ⟨rfl,(),lkA rfl,rfl⟩
     ·refine .lssF rfl rfl rfl h5 (.asg rfl rfl (.nil (.condF rfl (.skip ?_))))
      have e1:pn q=zval q.num:=by unfold pn;rw [if_neg h5]
      have e2:pd q=zval q.den:=by unfold pd;rw [if_neg h0,if_neg h5]
      rw [e1,e2]
      exact ⟨rfl,(),lkA rfl,rfl⟩
   ·rintro _ _ rfl
    refine .seq (.region (.mv rfl rfl (.mv rfl rfl (.asg rfl rfl (.asg rfl rfl (.asg rfl rfl (.nil (.ret ?_))))))))
    exact .plain [_,_,_] Tryz.results117 ⟨rfl,rfl,rfl,trivial⟩ ⟨x3,hT rfl rfl⟩
  ·have hdo':i64ok (zval q.den)=false:=by simpa using hdo
   rw [hdo']
   refine .gs rfl rfl rfl rfl rfl (.gs rfl rfl rfl rfl rfl (.pick rfl rfl rfl (.mv rfl rfl (.gs rfl rfl rfl rfl rfl (.gs rfl rfl rfl rfl rfl (.pick rfl rfl rfl (.mv rfl rfl (.gs rfl rfl rfl rfl rfl (.gs rfl rfl rfl rfl rfl (.pick rfl rfl rfl (.mv rfl rfl (.gs rfl rfl rfl rfl rfl (.gs rfl rfl rfl rfl rfl (.pick rfl rfl rfl (.nil (.condT rfl (.seq (.region (.asg rfl rfl (.asg rfl rfl (.asg rfl rfl (.nil (.ret ?_)))))))))))))))))))))))
   exact .plain [_,_,_] Tryz.results117 ⟨rfl,rfl,rfl,trivial⟩ ⟨x3,hF (by simp [i64ok] at hdo';simp [shortB];omega)⟩
 ·have hno':i64ok (zval q.num)=false:=by simpa using hno
  rw [hno']
  refine .gs rfl rfl rfl rfl rfl (.gs rfl rfl rfl rfl rfl (.pick rfl rfl rfl (.mv rfl rfl (.gs rfl rfl rfl rfl rfl (.gs rfl rfl rfl rfl rfl (.pick rfl rfl rfl (.mv rfl rfl (.gs rfl rfl rfl rfl rfl (.gs rfl rfl rfl rfl rfl (.pick rfl rfl rfl (.mv rfl rfl (.gs rfl rfl rfl rfl rfl (.gs rfl rfl rfl rfl rfl (.pick rfl rfl rfl (.mv rfl rfl (.gs rfl rfl rfl rfl rfl (.gs rfl rfl rfl rfl rfl (.pick rfl rfl rfl (.nil (.condT rfl (.seq (.region (.asg rfl rfl (.asg rfl rfl (.asg rfl rfl (.nil (.ret ?_)))))))))))))))))))))))))))
  exact .plain [_,_,_] Tryz.results117 ⟨rfl,rfl,rfl,trivial⟩ ⟨x3,hF (by simp [i64ok] at hno';simp [shortB];omega)⟩
end Go.Proofs.YtfilidfomgfnhaaGreat

namespace Go.Proofs.YtfilidfomgfnhaaGreat
open Go Go.Kx Go.RowKit
theorem Ad8 {n g:Int} (h:g∣n):n.tdiv g=n / g:=Int.tdiv_eq_ediv_of_dvd h
theorem S5 (n g:Int):(n / g).natAbs≤n.natAbs:=Int.natAbs_ediv_le_natAbs n g
theorem K1:Ent Tryz.prog 118:=A0 Tryz.func118 (by kernel_rfl) rfl
theorem J8 {S:Nat→Prop} {w:World} {n d:Int} (up:Up S w) (hd:0<d) (hd2:d≤9223372036854775807) (hn1 : -9223372036854775807≤n) (hn2:n≤9223372036854775807) :
  CR Tryz.prog 118 #[.int .i64 n,.int .i64 d] w (eQ.at S (qc (Rat.divInt n d))):=by
 have hdvd1:((Nat.gcd n.natAbs d.natAbs:Nat):Int)∣n:=Int.ofNat_dvd_left.2 (Nat.gcd_dvd_left _ _)
 have hdvd2:((Nat.gcd n.natAbs d.natAbs:Nat):Int)∣d:=Int.ofNat_dvd_left.2 (Nat.gcd_dvd_right _ _)
 have hG0:0<Nat.gcd n.natAbs d.natAbs:=Nat.gcd_pos_of_pos_right _ (by omega)
 have hGd:Nat.gcd n.natAbs d.natAbs≤d.natAbs:=Nat.gcd_le_right _ (by omega)
 have hqc:=AV9 (n:=n) hd
 refine enter Tryz.func118 rfl Tryz.ntmps118 rfl ?_
 refine .seq (.region (.alloc rfl B7 fun w1 b1 n1=>.nil ?_))
 obtain ⟨e1,k1,hb1,hs1⟩:=n1
 have hS:¬ Sx S w.heap.size w1.heap.size b1:=Sx.no (by omega) (by omega)
 have up1:Up (Sx S w.heap.size w1.heap.size) w1:=Sx.up up (Nat.le_refl _) e1.size
 have hout:∀ {W:World} {v:Value} {z:QV},eQ.R (Sx S w.heap.size w1.heap.size) W v z→eQ.R S W v z:=fun h=>h.out
 generalize hT:Sx S w.heap.size w1.heap.size=T at *
 refine .seq (.region (.mv rfl rfl (.mv rfl rfl (.asg rfl rfl (.asg rfl rfl (.nil ?_))))))
 refine .mid (α:=Int) (fun m=>[(0,.int .i64 n),(1,.int .i64 d),(4,.pointer (some ⟨b1,0,none⟩)),(5,.int .i64 m)]) (fun m W=>Ext w1 W∧m.natAbs=Nat.gcd n.natAbs d.natAbs) ?_ ?_
 ·refine .block (.loop (α:=Int×Int) (fun x=>[(0,.int .i64 n),(1,.int .i64 d),(4,.pointer (some ⟨b1,0,none⟩)),(5,.int .i64 x.1),(6,.int .i64 x.2)]) (fun x W=>Ext w1 W∧Nat.gcd x.1.natAbs x.2.natAbs=Nat.gcd n.natAbs d.natAbs) (fun x=>x.2.natAbs) (n,d) ?_ ?_ ?_)
  ·exact lkA rfl
  ·exact ⟨.refl _,rfl⟩
  ·rintro ⟨p,q⟩ W ⟨hW,hg⟩
   replace hg:Nat.gcd p.natAbs q.natAbs=Nat.gcd n.natAbs d.natAbs:=hg
   by_cases hq:q=0
   ·subst hq
    refine .seq (.seq (.region (.mv rfl rfl (.neqF rfl rfl rfl rfl (.nil (.condF rfl (.exit ?_)))))))
    refine ⟨rfl,p,lkA rfl,hW,?_⟩
    rw [←hg];simp
   ·refine .seq (.seq (.region (.mv rfl rfl (.neqT rfl rfl rfl hq (.nil (.condT rfl (.skip (.block ?_))))))))
    refine .par follows 5 [.inl (.int .i64 q),.inl (.int .i64 p),.inl (.int .i64 q),.inl (.int .i64 (p.tmod q)),.inl (.int .i64 q)] [[],[],[],[(12,1),(13,2)],[(11,0)]] (by kernel_rfl) ⟨
     fun w e=>(v_mv rfl).ob,
     fun w e=>(v_mv rfl).ob,
     fun w e=>(v_mv rfl).ob,
     fun w e=>(Ad0 rfl rfl hq).ob,
     fun w e=>(v_as rfl).ob,trivial⟩ ?_
    intro w2 e2
    refine .asg rfl rfl (.nil ?_)
    have hmod:(p.tmod q).natAbs=p.natAbs % q.natAbs:=Int.natAbs_tmod p q
    refine ⟨rfl,(q,p.tmod q),lkA rfl,⟨hW.trans e2,?_⟩,?_⟩
    ·show Nat.gcd q.natAbs (p.tmod q).natAbs=_
     rw [hmod,←hg,Nat.gcd_comm p.natAbs,Nat.gcd_rec q.natAbs p.natAbs,Nat.gcd_comm]
    ·show (p.tmod q).natAbs<q.natAbs
     rw [hmod];exact Nat.mod_lt _ (by omega)
 ·rintro m W ⟨hW,hm⟩
  generalize hG:Nat.gcd n.natAbs d.natAbs=G at *
  refine .mid (α:=Unit) (fun _=>[(0,.int .i64 n),(1,.int .i64 d),(4,.pointer (some ⟨b1,0,none⟩)),(5,.int .i64 (G:Nat))]) (fun _ W'=>W'=W) ?_ ?_
  ·refine .seq (.region (.mv rfl rfl ?_))
   by_cases h0:m<0
   ·refine .lssT rfl rfl rfl h0 (.nil (.condT rfl (.region (.mv rfl rfl (.neg rfl rfl ?_)))))
    rw [wI (n:=0-m) (by omega),show 0-m=(G:Int) by omega]
    exact .asg rfl rfl (.nil ⟨rfl,(),lkA rfl,rfl⟩)
   ·refine .lssF rfl rfl rfl h0 (.nil (.condF rfl (.skip ?_)))
    have:m=(G:Int):=by omega
    subst this
    exact ⟨rfl,(),lkA rfl,rfl⟩
  ·rintro _ _ rfl
   have upW:=up1.ext hW.size
   have kW:=k1.ext hW
   have hr1:IntKind.i64.wrap (n.tdiv (G:Int))=n / (G:Int):=by
    rw [Ad8 hdvd1]
    have:=S5 n G
    exact wI (by omega)
   have hr2:IntKind.i64.wrap (d.tdiv (G:Int))=d / (G:Int):=by
    rw [Ad8 hdvd2]
    have:=S5 d G
    exact wI (by omega)
   have hb1:=S5 n G
   have hb2:=S5 d G
   have hdG:G*(d / (G:Int))=d:=Int.mul_ediv_cancel' hdvd2
   refine .seq (.seq (.region (.mv rfl rfl (.mv rfl rfl ?_))))
   by_cases hGd':(G:Int)=d
   ·refine .eqlT rfl rfl rfl hGd' (.nil (.condT rfl (.seq (.region (.mv rfl rfl (.mv rfl rfl (.quo rfl rfl rfl (by omega) ?_)))))))
    rw [hr1]
    refine .call _ rfl C4 rfl (C3 upW (by omega) (by omega)) fun v2 w2 e2 h2=>?_
    obtain ⟨s,rfl,hs⟩:=h2
    refine .bld _ rfl rfl Ax8 ?_
    have hq:eQ.R T w2 (.agg #[.bool (zc (n / (G:Int))).neg,s,.bool false,.slice none 0 0]) (qc (Rat.divInt n d)):=by
     rw [hqc,if_pos (by rw [hGd'];exact Int.ediv_self (by omega))]
     exact ⟨s,_,rfl,hs,RL.nil⟩
    refine .storeA (E:=eQ) ty_Q rfl rfl (kW.ext e2) rfl rfl hq hS fun w3 k3 u3 h3=>.nil (.ret ?_)
    exact .cell Tryz.results118 rfl ty_Q rfl rfl k3 h3 ⟨u3.below ((e1.trans hW).trans e2) (by omega),hout h3⟩
   ·refine .eqlF rfl rfl rfl hGd' (.nil (.condF rfl (.skip (.seq ?_))))
    have hne1:¬ d / (G:Int)=1:=fun h=>hGd' (by rw [h,Int.mul_one] at hdG;exact hdG)
    refine .par follows 9 [.inl _,.inl _,.inl (.int .i64 (n / (G:Int))),.inr (eZ.at T (zc (n / (G:Int)))),.inl _,.inl _,.inl (.int .i64 (d / (G:Int))),.inr (eZ.at T (zc (d / (G:Int)))),.inr (eQ.at T (qc (Rat.divInt n d)))] [[],[],[(27,0),(28,1)],[(29,2)],[],[],[(31,4),(32,5)],[(33,6)],[(30,3),(34,7)]] (by kernel_rfl) ⟨
     fun w e=>(v_mv rfl).ob,
     fun w e=>(v_mv rfl).ob,
     fun w e=>((Ad1 rfl rfl (by omega)).eq (by rw [hr1])).ob,
     fun w e=>(A2 _ C4 rfl (C3 (upW.ext e.size) (by omega) (by omega))).ob (A6 _ _ _),
     fun w e=>(v_mv rfl).ob,
     fun w e=>(v_mv rfl).ob,
     fun w e=>((Ad1 rfl rfl (by omega)).eq (by rw [hr2])).ob,
     fun w e=>(A2 _ C4 rfl (C3 (upW.ext e.size) (by omega) (by omega))).ob (A6 _ _ _),
     fun w e x3 hx3 x7 hx7=>by
      obtain ⟨s,rfl,hs⟩:=hx3
      obtain ⟨t,rfl,ht⟩:=hx7
      refine L9 (AV2 _ rfl Aa6) ?_ (A6 _ _ _)
      rw [hqc,if_neg hne1]
      exact ⟨s,t,rfl,hs,ht⟩,trivial⟩ ?_
    intro w2 e2 x3 hx3 x7 hx7 x8 hx8
    refine .storeA (E:=eQ) ty_Q rfl rfl (kW.ext e2) rfl rfl hx8 hS fun w3 k3 u3 h3=>.nil (.ret ?_)
    exact .cell Tryz.results118 rfl ty_Q rfl rfl k3 h3 ⟨u3.below ((e1.trans hW).trans e2) (by omega),hout h3⟩
theorem Ah4 {m n:Int} (hn:n≠0):zval (zc ((Nat.gcd m.natAbs n.natAbs:Nat):Int))≠0:=by
 rw [H1]
 have:=Nat.gcd_pos_of_pos_right m.natAbs (show 0<n.natAbs by omega)
 omega
theorem U5:Ent Tryz.prog 180:=A0 Tryz.func180 (by kernel_rfl) rfl
theorem T9 {S T0:Nat→Prop} {w:World} {vm vn:Value} {m n:Int} {L:Nat} (up:Up S w) (upo:Up T0 w) (hm:Zv S m L vm w) (hn:Zv S n L vn w) (hn0:n≠0) (hL:L≤1000000000000) :
  CR Tryz.prog 180 #[vm,vn] w (eQ.at T0 (qc (Rat.divInt m n))):=by
 replace hm:(eZn L).R S w vm m:=hm
 replace hn:(eZn L).R S w vn n:=hn
 refine enter Tryz.func180 rfl Tryz.ntmps180 rfl ?_
 refine .seq (.region (.box rfl rfl fun w1 b2 n1=>.box rfl rfl fun w2 b3 n2=>.alloc rfl B7 fun w3 b4 n3=>.nil ?_))
 obtain ⟨e1,k2,hb2,hs1⟩:=n1
 obtain ⟨e2,k3,hb3,hs2⟩:=n2
 obtain ⟨e3,k4,hb4,hs3⟩:=n3
 have x3:=(e1.trans e2).trans e3
 have k2:=(k2.ext e2).ext e3
 have k3:=k3.ext e3
 have hS2:¬ Sx S w.heap.size w3.heap.size b2:=Sx.no (by omega) (by omega)
 have hS3:¬ Sx S w.heap.size w3.heap.size b3:=Sx.no (by omega) (by omega)
 have hS4:¬ Sx S w.heap.size w3.heap.size b4:=Sx.no (by omega) (by omega)
 have up3:Up (Sx S w.heap.size w3.heap.size) w3:=Sx.up up (Nat.le_refl _) x3.size
 have hm3:=(hm.par w3.heap.size).ext x3
 have hn3:=(hn.par w3.heap.size).ext x3
 have hU2:¬ Sx T0 w.heap.size w3.heap.size b2:=Sx.no (by omega) (by omega)
 have hU3:¬ Sx T0 w.heap.size w3.heap.size b3:=Sx.no (by omega) (by omega)
 have hU4:¬ Sx T0 w.heap.size w3.heap.size b4:=Sx.no (by omega) (by omega)
 have upo3:Up (Sx T0 w.heap.size w3.heap.size) w3:=Sx.up upo (Nat.le_refl _) x3.size
 have hout:∀ {W:World} {v:Value} {z:QV},eQ.R (Sx T0 w.heap.size w3.heap.size) W v z→eQ.R T0 W v z:=fun h=>h.out
 have hne32:b3≠b2:=by omega
 have hne42:b4≠b2:=by omega
 have hne43:b4≠b3:=by omega
 have hw2:w.heap.size≤b2:=by omega
 have hw3:w.heap.size≤b3:=by omega
 have hw4:w.heap.size≤b4:=by omega
 have hc2:b2<w3.heap.size:=by omega
 have hc3:b3<w3.heap.size:=by omega
 have hc4:b4<w3.heap.size:=by omega
 clear hb2 hb3 hb4
 generalize hT:Sx S w.heap.size w3.heap.size=T at *
 generalize hU:Sx T0 w.heap.size w3.heap.size=U at *
 refine .mid (α:=(Value×Int)×(Value×Int)) (fun _=>[(2,.pointer (some ⟨b2,0,none⟩)),(3,.pointer (some ⟨b3,0,none⟩)),(4,.pointer (some ⟨b4,0,none⟩))])
  (fun x W=>Below w.heap.size w W∧w3.heap.size≤W.heap.size∧Blk W b2 53 x.1.1.cells∧Blk W b3 53 x.2.1.cells∧Blk W b4 55 #[.bool false,.slice none 0 0,.bool false,.slice none 0 0]∧(eZn L).R T W x.1.1 x.1.2∧(eZn L).R T W x.2.1 x.2.2∧0<x.2.2∧Rat.divInt x.1.2 x.2.2=Rat.divInt m n) ?_ ?_
 ·obtain ⟨zn,hzn,hznv,hznl⟩:=hn3
  obtain ⟨zm,hzm,hzmv,hzml⟩:=hm3
  have hvn:=shpA rfl hzn
  have hvm:=shpA rfl hzm
  refine .seq (.region (.ldA ty_Z rfl rfl k3 (eZ.csz hzn) ?_))
  rw [←hvn]
  refine .call _ rfl F1 rfl (E9 hzn) fun v4 w4 e4 h4=>?_
  subst h4
  rw [hznv]
  have x4:=x3.trans e4
  have k2:=k2.ext e4
  have k3:=k3.ext e4
  have k4:=k4.ext e4
  have up4:=up3.ext e4.size
  have hzn4:=hzn.ext e4
  have hzm4:=hzm.ext e4
  have hdn:=AJ8 hzn
  have hdm:=AJ8 hzm
  by_cases h0:n<0
  ·refine .lssT rfl rfl rfl (by rw [Int.sign_eq_neg_one_of_neg h0];decide) (.nil (.condT rfl ?_))
   refine .par follows 4 [.inl vm,.inr (eZ.at T (zc (-zval zm))),.inl vn,.inr (eZ.at T (zc (-zval zn)))] [[],[(11,0)],[],[(13,2)]] (by kernel_rfl) ⟨
    fun w e=>((B8 ty_Z rfl (k2.ext e) (eZ.csz hzm)).eq hvm.symm).ob,
    fun w e=>(A2 _ P0 rfl (O4 (up4.ext e.size) (hzm4.ext e) (by omega))).ob (A6 _ _ _),
    fun w e=>((B8 ty_Z rfl (k3.ext e) (eZ.csz hzn)).eq hvn.symm).ob,
    fun w e=>(A2 _ P0 rfl (O4 (up4.ext e.size) (hzn4.ext e) (by omega))).ob (A6 _ _ _),trivial⟩ ?_
   intro w5 e5 x1 hx1 x3' hx3
   have hA:(eZn L).R T w5 x1 (-m):=by rw [←hzmv];exact Zv.of hx1 (by have:=R7 hdm hzml;omega)
   have hB:(eZn L).R T w5 x3' (-n):=by rw [←hznv];exact Zv.of hx3 (by have:=R7 hdn hznl;omega)
   refine .storeA (E:=eZn L) ty_Z rfl rfl (k2.ext e5) rfl (eZ.csz hzm) hA hS2 fun w6 k6 u6 h6=>?_
   refine .storeA (E:=eZn L) ty_Z rfl rfl ((k3.ext e5).upd u6 hne32) rfl (eZ.csz hzn) (hB.upd u6 hS2) hS3 fun w7 k7 u7 h7=>.nil ?_
   refine ⟨rfl,((x1,-m),(x3',-n)),lkA rfl,u7.below (u6.below (x4.trans e5) hw2) hw3,?_,k6.upd u7 (Ne.symm hne32),k7,((k4.ext e5).upd u6 hne42).upd u7 hne43,h6.upd u7 hS3,h7,by show 0 < -n;omega,Rat.neg_divInt_neg m n⟩
   rw [u7.size,u6.size];exact (e4.trans e5).size
  ·refine .lssF rfl rfl rfl (by rw [Int.sign_eq_one_of_pos (by omega)];decide) (.nil (.condF rfl (.skip ?_)))
   exact ⟨rfl,((vm,m),(vn,n)),lkA rfl,x4,e4.size,k2,k3,k4,⟨zm,hzm4,hzmv,hzml⟩,⟨zn,hzn4,hznv,hznl⟩,by show 0<n;omega,rfl⟩
 ·rintro ⟨⟨um,m'⟩,⟨un,n'⟩⟩ W ⟨hB,hsz,k2,k3,k4,hm,hn,hpos,hdiv⟩
  replace hm:(eZn L).R T W um m':=hm
  replace hn:(eZn L).R T W un n':=hn
  replace hpos:0<n':=hpos
  replace hdiv:Rat.divInt m' n'=Rat.divInt m n:=hdiv
  rw [←hdiv]
  replace k2:Blk W b2 53 um.cells:=k2
  replace k3:Blk W b3 53 un.cells:=k3
  have upW:=up3.ext hsz
  have upoW:=upo3.ext hsz
  obtain ⟨zn,hzn,hznv,hznl⟩:=hn
  obtain ⟨zm,hzm,hzmv,hzml⟩:=hm
  have hvn:=shpA rfl hzn
  have hvm:=shpA rfl hzm
  have hdn:=AJ8 hzn
  have hdm:=AJ8 hzm
  refine .seq (.region (.ldA ty_Z rfl rfl k2 (eZ.csz hzm) (.ldA ty_Z rfl rfl k3 (eZ.csz hzn) ?_)))
  rw [←hvn,←hvm]
  refine .call _ rfl Ag3 rfl (Ac3 upW hzm hzn (by omega) (by omega)) fun vg w5 e5 h5=>?_
  have hgv:Nat.gcd (val zm.w) (val zn.w)=Nat.gcd m'.natAbs n'.natAbs:=by rw [←Z5,←Z5,hzmv,hznv]
  rw [hgv] at h5
  have hgl:(zc ((Nat.gcd m'.natAbs n'.natAbs:Nat):Int)).w.length≤L:=by
   refine Z6 ?_
   have h1:=Nat.gcd_le_right m'.natAbs (show 0<n'.natAbs by omega)
   have h2:=R7 hdn hznl
   rw [hznv] at h2
   simp only [Int.natAbs_natCast]
   omega
  refine .alloc rfl D3 fun w6 b5 n6=>?_
  obtain ⟨e6,k6,hb5,hs6⟩:=n6
  have e56:=e5.trans e6
  have hS5':¬ Sx T w5.heap.size w6.heap.size b5:=Sx.no (by omega) (by omega)
  have h5':=(h5.par w6.heap.size).ext e6
  have hzm6:=((hzm.ext e5).par w6.heap.size).ext e6
  have hzn6:=((hzn.ext e5).par w6.heap.size).ext e6
  have hS2':¬ Sx T w5.heap.size w6.heap.size b2:=fun h=>hS2 h.1
  have hS3':¬ Sx T w5.heap.size w6.heap.size b3:=fun h=>hS3 h.1
  have hU2':¬ Sx U w5.heap.size w6.heap.size b2:=fun h=>hU2 h.1
  have hU3':¬ Sx U w5.heap.size w6.heap.size b3:=fun h=>hU3 h.1
  have hU4':¬ Sx U w5.heap.size w6.heap.size b4:=fun h=>hU4 h.1
  have upo6:Up (Sx U w5.heap.size w6.heap.size) w6:=Sx.up (upoW.ext e5.size) (Nat.le_refl _) e6.size
  have hout':∀ {W:World} {v:Value} {z:QV},eQ.R (Sx U w5.heap.size w6.heap.size) W v z→eQ.R T0 W v z:=fun h=>hout h.out
  have up6:Up (Sx T w5.heap.size w6.heap.size) w6:=Sx.up (upW.ext e5.size) (Nat.le_refl _) e6.size
  have hB6:Below w.heap.size w w6:=hB.trans (e56.mono hB.size)
  have hn52:b5≠b2:=by have:=e5.size;omega
  have hn53:b5≠b3:=by have:=e5.size;omega
  have hn54:b5≠b4:=by have:=e5.size;omega
  have hw5:w.heap.size≤b5:=by have:=hB.size;have:=e5.size;omega
  generalize hT2:Sx T w5.heap.size w6.heap.size=T2 at *
  generalize hUU:Sx U w5.heap.size w6.heap.size=U2 at *
  refine .storeA ty_Z rfl rfl k6 rfl rfl h5' hS5' fun w7 k7 u7 h7=>.nil ?_
  have up7:Up T2 w7:=up6.ext (by rw [u7.size];exact Nat.le_refl _)
  have upo7:Up U2 w7:=upo6.ext (by rw [u7.size];exact Nat.le_refl _)
  have hB7:=u7.below hB6 hw5
  have hzm7:=hzm6.upd u7 hS5'
  have hzn7:=hzn6.upd u7 hS5'
  have k2:=(k2.ext e56).upd u7 (Ne.symm hn52)
  have k3:=(k3.ext e56).upd u7 (Ne.symm hn53)
  have k4:=(k4.ext e56).upd u7 (Ne.symm hn54)
  have hvg:=shpA rfl h7
  have hg0:=Ah4 (m:=m') (n:=n') (by omega)
  generalize hG:Nat.gcd m'.natAbs n'.natAbs=G at *
  refine .seq (.region (.ldA ty_Z rfl rfl k2 (eZ.csz hzm) (.ldA ty_Z rfl rfl k7 (eZ.csz h7) ?_)))
  rw [←hvm,←hvg]
  refine .call _ rfl AB9 rfl (Z7 up7 upo7 hzm7 h7 (by omega) (by omega) hg0) fun v8 w8 e8 h8=>?_
  obtain ⟨qm,rm,_,rfl,hqm,_,rfl⟩:=h8
  refine .mv rfl rfl (.ext rfl rfl rfl (.ext rfl rfl rfl (.ext rfl rfl rfl ?_)))
  rw [hzmv,H1] at hqm
  refine .storeA (E:=eZ) ty_Z rfl rfl (k2.ext e8) rfl (eZ.csz hzm) hqm hU2' fun w9 k9 u9 h9=>.nil ?_
  have up9:Up T2 w9:=(up7.ext e8.size).ext (by rw [u9.size];exact Nat.le_refl _)
  have upo9:Up U2 w9:=(upo7.ext e8.size).ext (by rw [u9.size];exact Nat.le_refl _)
  have hB9:Below w.heap.size w w9:=u9.below (hB7.trans (e8.mono hB7.size)) hw2
  have k3:=(k3.ext e8).upd u9 hne32
  have k5:=(k7.ext e8).upd u9 hn52
  have k4:=(k4.ext e8).upd u9 hne42
  have hg9:=(h7.ext e8).upd u9 hS2'
  have hzn9:=(hzn7.ext e8).upd u9 hS2'
  refine .seq (.region (.ldA ty_Z rfl rfl k3 (eZ.csz hzn) (.ldA ty_Z rfl rfl k5 (eZ.csz h7) ?_)))
  rw [←hvn,←hvg]
  refine .call _ rfl AB9 rfl (Z7 up9 upo9 hzn9 hg9 (by omega) (by omega) hg0) fun v10 w10 e10 h10=>?_
  obtain ⟨qn,rn,_,rfl,hqn,_,rfl⟩:=h10
  refine .mv rfl rfl (.ext rfl rfl rfl (.ext rfl rfl rfl (.ext rfl rfl rfl ?_)))
  rw [hznv,H1] at hqn
  refine .storeA (E:=eZ) ty_Z rfl rfl (k3.ext e10) rfl (eZ.csz hzn) hqn hU3' fun w11 k11 u11 h11=>.nil ?_
  have hB11:Below w.heap.size w w11:=u11.below (hB9.trans (e10.mono hB9.size)) hw3
  have k9:=(k9.ext e10).upd u11 (Ne.symm hne32)
  have k4:=(k4.ext e10).upd u11 hne43
  have h9:=(h9.ext e10).upd u11 hU3'
  have hqc:=AV9 (n:=m') hpos
  rw [hG] at hqc
  have hvqm:=shpA rfl h9
  have hvqn:=shpA rfl h11
  refine .mid (α:=Value) (fun _=>[(2,.pointer (some ⟨b2,0,none⟩)),(3,.pointer (some ⟨b3,0,none⟩)),(4,.pointer (some ⟨b4,0,none⟩))])
   (fun x W=>Below w.heap.size w W∧Blk W b2 53 qm.cells∧Blk W b3 53 x.cells∧Blk W b4 55 #[.bool false,.slice none 0 0,.bool false,.slice none 0 0]∧eZ.R U2 W qm (zc (m' / (G:Int)))∧eZ.R U2 W x (if n' / (G:Int)=1 then ⟨false,[]⟩ else zc (n' / (G:Int)))) ?_ ?_
  ·refine .seq (.region (.ldA ty_Z rfl rfl k11 (eZ.csz h11) ?_))
   rw [←hvqn]
   refine .call _ rfl G6 rfl (G4 h11) fun v12 w12 e12 h12=>?_
   subst h12
   refine .mv rfl rfl (.ext rfl rfl rfl (.ext rfl rfl rfl (.asg rfl rfl (.asg rfl rfl (.nil ?_)))))
   rw [H1]
   have hB12:Below w.heap.size w w12:=hB11.trans (e12.mono hB11.size)
   refine .seq (.region (.mv rfl rfl (.mv rfl rfl ?_)))
   have hno:∀ {σ:Env},(∀ t v,Kx.look [(2,.pointer (some ⟨b2,0,none⟩)),(3,.pointer (some ⟨b3,0,none⟩)),(4,.pointer (some ⟨b4,0,none⟩))] t=some v→Kx.look σ t=some v)→n' / (G:Int)≠1→(([]:List Deferred)=[]∧∃ x:Value,(∀ t v,Kx.look [(2,.pointer (some ⟨b2,0,none⟩)),(3,.pointer (some ⟨b3,0,none⟩)),(4,.pointer (some ⟨b4,0,none⟩))] t=some v→Kx.look σ t=some v) ∧
     Below w.heap.size w w12∧Blk w12 b2 53 qm.cells∧Blk w12 b3 53 x.cells∧Blk w12 b4 55 #[.bool false,.slice none 0 0,.bool false,.slice none 0 0]∧eZ.R U2 w12 qm (zc (m' / (G:Int)))∧eZ.R U2 w12 x (if n' / (G:Int)=1 then ⟨false,[]⟩ else zc (n' / (G:Int)))):=by
    intro σ hσ h1
    refine ⟨rfl,qn,hσ,hB12,k9.ext e12,k11.ext e12,k4.ext e12,h9.ext e12,?_⟩
    rw [if_neg h1];exact h11.ext e12
   cases hok:i64ok (n' / (G:Int)) with
   | false =>
    refine .gs rfl rfl rfl rfl rfl (.gs rfl rfl rfl rfl rfl (.pick rfl rfl rfl (.nil (.condF rfl (.skip (hno (lkA rfl) ?_))))))
    intro h;rw [h] at hok;simp [i64ok] at hok
   | true =>
    have ev':i64v (n' / (G:Int))=n' / (G:Int):=by rw [i64v,hok];rfl
    rw [ev']
    by_cases h1:n' / (G:Int)=1
    ·refine .gr rfl rfl rfl rfl (.mv rfl rfl (.gr rfl rfl rfl rfl (.eqlT rfl rfl rfl h1 (.pick rfl rfl rfl (.nil (.condT rfl (.region (.bld _ rfl rfl Ak4 ?_))))))))
     have hz:eZ.R U2 w12 (.agg #[.bool false,.slice none 0 0]) ⟨false,[]⟩:=⟨_,rfl,RL.nil⟩
     refine .storeA (E:=eZ) ty_Z rfl rfl (k11.ext e12) rfl (eZ.csz h11) hz hU3' fun w13 k13 u13 h13=>.nil ?_
     refine ⟨rfl,_,lkA rfl,u13.below hB12 hw3,(k9.ext e12).upd u13 (Ne.symm hne32),k13,(k4.ext e12).upd u13 hne43,(h9.ext e12).upd u13 hU3',?_⟩
     rw [if_pos h1];exact h13
    ·refine .gr rfl rfl rfl rfl (.mv rfl rfl (.gr rfl rfl rfl rfl (.eqlF rfl rfl rfl h1 (.pick rfl rfl rfl (.nil (.condF rfl (.skip (hno (lkA rfl) h1)))))))) 
  ·rintro x W ⟨hB12,k2,k3,k4,hA,hC⟩
   obtain ⟨s,rfl,hs⟩:=hA
   obtain ⟨t,rfl,ht⟩:=hC
   refine .seq (.region (.ldA ty_Z rfl rfl k2 rfl (.ldA ty_Z rfl rfl k3 rfl (.bld _ rfl rfl Aa6 ?_))))
   have hq:eQ.R U2 W (.agg #[.bool (zc (m' / (G:Int))).neg,s,.bool (if n' / (G:Int)=1 then (⟨false,[]⟩:ZV) else zc (n' / (G:Int))).neg,t]) (qc (Rat.divInt m' n')):=by
    rw [hqc]
    exact ⟨s,t,rfl,hs,ht⟩
   refine .storeA (E:=eQ) ty_Q rfl rfl k4 rfl rfl hq hU4' fun w13 k13 u13 h13=>.nil (.ret ?_)
   exact .cell Tryz.results180 rfl ty_Q rfl rfl k13 h13 ⟨u13.below hB12 hw4,hout' h13⟩
theorem AU2 {S:Nat→Prop} {w:World} {vm vn:Value} {m n:Int} {L:Nat} (up:Up S w) (hm:Zv S m L vm w) (hn:Zv S n L vn w) (hn0:n≠0) (hL:L≤1000000000000) :
  CR Tryz.prog 180 #[vm,vn] w (eQ.at S (qc (Rat.divInt m n))):=T9 up up hm hn hn0 hL
end Go.Proofs.YtfilidfomgfnhaaGreat

namespace Go.Proofs.YtfilidfomgfnhaaGreat
open Go Go.Kx Go.RowKit
theorem Ad4:Tryz.prog.underlying 180=some (.map 5 179):=by kernel_rfl
theorem Aa5 {f:FuncId}:bldOf Tryz.prog 179 [(0,.func (.func f) #[] #[])]=some #[.func (.func f) #[] #[]]:=by kernel_rfl
theorem prt_op {f:FuncId}:prtOf Tryz.prog 179 #[.func (.func f) #[] #[]] 0=some (.func (.func f) #[] #[]):=by kernel_rfl
abbrev opE (k:Int) (f c:Nat):MapEntry:={ key:=.int .u8 k,val:=.agg #[.func (.func f) #[] #[]],born:=c }
def opTab:Array MapEntry:=#[opE 43 238 0,opE 45 240 1,opE 42 242 2,opE 47 243 3]
@[reducible] def IsTab:Value→World→Prop:=fun v w=>∃ r,v=.map (some r)∧MapAt w r opTab 4
theorem st_tab:St IsTab:=fun _ _ _ e ⟨r,h1,h2⟩=>⟨r,h1,h2.ext e⟩
theorem AI2:Ent Tryz.prog 181:=A0 Tryz.func181 (by kernel_rfl) rfl
theorem AH2 {w:World}:CR Tryz.prog 181 #[] w IsTab:=by
 refine enter Tryz.func181 rfl Tryz.ntmps181 rfl ?_
 refine .seq (.region (.asg rfl rfl (.nil (.seq (.region ?_)))))
 refine .gv rfl rfl g_mkmap ?_
 rintro _ w1 ⟨rfl,e1,m1⟩
 refine .bld _ rfl rfl Aa5 (.gv rfl rfl (An4 Ad4 AP1 rfl rfl rfl m1 rfl) ?_)
 rintro _ _ rfl
 have m2:=m1.put (es':=#[].push (opE 43 238 0)) (c':=1)
 have x2:=AC7 (o:=.map (#[].push (opE 43 238 0)) 1) e1 (Nat.le_refl _)
 refine .bld _ rfl rfl Aa5 (.gv rfl rfl (An4 Ad4 AP1 rfl rfl rfl m2 rfl) ?_)
 rintro _ _ rfl
 have m3:=m2.put (es':=(#[].push (opE 43 238 0)).push (opE 45 240 1)) (c':=2)
 have x3:=AC7 (o:=.map ((#[].push (opE 43 238 0)).push (opE 45 240 1)) 2) x2 (Nat.le_refl _)
 refine .bld _ rfl rfl Aa5 (.gv rfl rfl (An4 Ad4 AP1 rfl rfl rfl m3 rfl) ?_)
 rintro _ _ rfl
 have m4:=m3.put (es':=((#[].push (opE 43 238 0)).push (opE 45 240 1)).push (opE 42 242 2)) (c':=3)
 have x4:=AC7 (o:=.map (((#[].push (opE 43 238 0)).push (opE 45 240 1)).push (opE 42 242 2)) 3) x3 (Nat.le_refl _)
 refine .bld _ rfl rfl Aa5 (.gv rfl rfl (An4 Ad4 AP1 rfl rfl rfl m4 rfl) ?_)
 rintro _ _ rfl
 have m5:=m4.put (es':=opTab) (c':=4)
 have x5:=AC7 (o:=.map opTab 4) x4 (Nat.le_refl _)
 refine .mv rfl rfl (.asg rfl rfl (.nil (.ret ?_)))
 exact .plain [_] Tryz.results181 ⟨rfl,trivial⟩ ⟨x5,_,rfl,m5⟩
theorem D4:Ent Tryz.prog 119:=A0 Tryz.func119 (by kernel_rfl) rfl
theorem J9 {S T0:Nat→Prop} {w:World} {va vb:Value} {a b:QV} {L:Nat} {k:Int} {i:Nat} {f:FuncId} {N D:Int} (up:Up S w) (upo:Up T0 w) (ha:eQ.R S w va a) (hb:eQ.R S w vb b) (hla:qok L a) (hlb:qok L b) (hL:1≤L) (hL2:L≤100000000000)
  (hE:Ent Tryz.prog f) (hf:Instr.findNow (.int .u8) (.int .u8 k) opTab.toList 0=some (some (i,.agg #[.func (.func f) #[] #[]])))
  (hop:∀ {T:Nat→Prop} {W:World} {u1 u2 u3 u4:Value},Up T W→Zv T (pn a) L u1 W→Zv T (pd a) L u2 W→Zv T (pn b) L u3 W→Zv T (pd b) L u4 W→CR Tryz.prog f #[u1,u2,u3,u4] W (Two (Zv T N (2*L+1)) (Zv T D (2*L+1)))) (hD:D≠0) :
  CR Tryz.prog 119 #[.int .u8 k,va,vb] w (eQ.at T0 (qc (Rat.divInt N D))):=by
 have hva:=shpA rfl ha
 have hvb:=shpA rfl hb
 refine enter Tryz.func119 rfl Tryz.ntmps119 rfl ?_
 refine .seq (.region (.box rfl rfl fun w1 b4 n1=>.box rfl rfl fun w2 b5 n2=>.alloc rfl B7 fun w3 b6 n3=>.nil ?_))
 obtain ⟨e1,k4,hb4,hs1⟩:=n1
 obtain ⟨e2,k5,hb5,hs2⟩:=n2
 obtain ⟨e3,k6,hb6,hs3⟩:=n3
 have x3:=(e1.trans e2).trans e3
 have k4:=(k4.ext e2).ext e3
 have k5:=k5.ext e3
 have hU6:¬ Sx T0 w.heap.size w3.heap.size b6:=Sx.no (by omega) (by omega)
 have hS5:¬ Sx S w.heap.size w3.heap.size b5:=Sx.no (by omega) (by omega)
 have up3:Up (Sx S w.heap.size w3.heap.size) w3:=Sx.up up (Nat.le_refl _) x3.size
 have ha3:=(ha.par w3.heap.size).ext x3
 have hb3:=(hb.par w3.heap.size).ext x3
 have upo3:Up (Sx T0 w.heap.size w3.heap.size) w3:=Sx.up upo (Nat.le_refl _) x3.size
 have hout:∀ {W:World} {v:Value} {z:QV},eQ.R (Sx T0 w.heap.size w3.heap.size) W v z→eQ.R T0 W v z:=fun h=>h.out
 have hw6:w.heap.size≤b6:=by omega
 have hc6:b6<w3.heap.size:=by omega
 have hc5:b5<w3.heap.size:=by omega
 generalize hT:Sx S w.heap.size w3.heap.size=T at *
 generalize hU:Sx T0 w.heap.size w3.heap.size=U at *
 refine .seq (.region (.ldA ty_Q rfl rfl k4 (eQ.csz ha) ?_))
 rw [←hva]
 refine .call _ rfl N4 rfl (N0 up3 ha3 hla hL (by omega)) fun v4 w4 e4 h4=>?_
 obtain ⟨u1,u2,rfl,h1,h2⟩:=h4
 replace h1:(eZn L).R T w4 u1 (pn a):=h1
 replace h2:(eZn L).R T w4 u2 (pd a):=h2
 refine .mv rfl rfl (.ext rfl rfl rfl (.ext rfl rfl rfl (.alloc rfl D3 fun w5 b7 n5=>.alloc rfl D3 fun w6 b8 n6=>?_)))
 obtain ⟨e5,k7,hb7,hs5⟩:=n5
 obtain ⟨e6,k8,hb8,hs6⟩:=n6
 have e56:=e5.trans e6
 have k7:=k7.ext e6
 have hs4:=e4.size
 have hS7:¬ Sx T w4.heap.size w6.heap.size b7:=Sx.no (by omega) (by omega)
 have hS8:¬ Sx T w4.heap.size w6.heap.size b8:=Sx.no (by omega) (by omega)
 have h16:=(h1.par w6.heap.size).ext e56
 have h26:=(h2.par w6.heap.size).ext e56
 have hb6':=((hb3.ext e4).par w6.heap.size).ext e56
 have up6:Up (Sx T w4.heap.size w6.heap.size) w6:=Sx.up (up3.ext e4.size) (Nat.le_refl _) e56.size
 have hS5:¬ Sx T w4.heap.size w6.heap.size b5:=fun h=>hS5 h.1
 have hc7:b7<w6.heap.size:=by omega
 have hc8:b8<w6.heap.size:=by omega
 have hn78:b8≠b7:=by omega
 have hw7:w.heap.size≤b7:=by have:=x3.size;omega
 have hw8:w.heap.size≤b8:=by have:=x3.size;omega
 have hn57:b5≠b7:=by omega
 have hn58:b5≠b8:=by omega
 have hn67:b6≠b7:=by omega
 have hn68:b6≠b8:=by omega
 generalize hT2:Sx T w4.heap.size w6.heap.size=T2 at *
 refine .storeA (E:=eZn L) ty_Z rfl rfl k7 rfl rfl h16 hS7 fun w7 k7 u7 h17=>?_
 refine .storeA (E:=eZn L) ty_Z rfl rfl (k8.upd u7 hn78) rfl rfl (h26.upd u7 hS7) hS8 fun w8 k8 u8 h28=>.nil ?_
 have h18:=h17.upd u8 hS8
 have k7:=k7.upd u8 (Ne.symm hn78)
 have x6:=(x3.trans e4).trans e56
 have x8:Ext w w8:=u8.below (u7.below x6 hw7) hw8
 have k5:=(((k5.ext e4).ext e56).upd u7 hn57).upd u8 hn58
 have k6:=(((k6.ext e4).ext e56).upd u7 hn67).upd u8 hn68
 have hb8':=(hb6'.upd u7 hS7).upd u8 hS8
 have up8:Up T2 w8:=up6.ext (by rw [u8.size,u7.size];exact Nat.le_refl _)
 have upo8:Up U w8:=((upo3.ext e4.size).ext e56.size).ext (by rw [u8.size,u7.size];exact Nat.le_refl _)
 have hs8:w8.heap.size=w6.heap.size:=by rw [u8.size,u7.size]
 refine .seq (.region (.ldA ty_Q rfl rfl k5 (eQ.csz hb) ?_))
 rw [←hvb]
 refine .call _ rfl N4 rfl (N0 up8 hb8' hlb hL (by omega)) fun v9 w9 e9 h9=>?_
 obtain ⟨u3,u4,rfl,h3,h4⟩:=h9
 replace h3:(eZn L).R T2 w9 u3 (pn b):=h3
 replace h4:(eZn L).R T2 w9 u4 (pd b):=h4
 refine .mv rfl rfl (.ext rfl rfl rfl (.ext rfl rfl rfl (.alloc rfl D3 fun w10 b9 n10=>.alloc rfl D3 fun w11 b10 n11=>?_)))
 obtain ⟨e10,k9,hb9,hs10⟩:=n10
 obtain ⟨e11,k10,hb10,hs11⟩:=n11
 have e1011:=e10.trans e11
 have k9:=k9.ext e11
 have hs9:=e9.size
 have hS9:¬ Sx T2 w9.heap.size w11.heap.size b9:=Sx.no (by omega) (by omega)
 have hS10:¬ Sx T2 w9.heap.size w11.heap.size b10:=Sx.no (by omega) (by omega)
 have h1':=((h18.ext e9).par w11.heap.size).ext e1011
 have h2':=((h28.ext e9).par w11.heap.size).ext e1011
 have h3':=(h3.par w11.heap.size).ext e1011
 have h4':=(h4.par w11.heap.size).ext e1011
 have up11:Up (Sx T2 w9.heap.size w11.heap.size) w11:=Sx.up (up8.ext e9.size) (Nat.le_refl _) e1011.size
 have hn910:b10≠b9:=by omega
 have hw9:w.heap.size≤b9:=by have:=x8.size;omega
 have hw10:w.heap.size≤b10:=by have:=x8.size;omega
 have n79:b7≠b9:=by omega
 have n710:b7≠b10:=by omega
 have n89:b8≠b9:=by omega
 have n810:b8≠b10:=by omega
 have n69:b6≠b9:=by omega
 have n610:b6≠b10:=by omega
 generalize hT3:Sx T2 w9.heap.size w11.heap.size=T3 at *
 refine .storeA (E:=eZn L) ty_Z rfl rfl k9 rfl rfl h3' hS9 fun w12 k9 u12 h312=>?_
 refine .storeA (E:=eZn L) ty_Z rfl rfl (k10.upd u12 hn910) rfl rfl (h4'.upd u12 hS9) hS10 fun w13 k10 u13 h413=>.nil ?_
 have h313:=h312.upd u13 hS10
 have k9:=k9.upd u13 (Ne.symm hn910)
 have x11:=(x8.trans e9).trans e1011
 have x13:Ext w w13:=u13.below (u12.below x11 hw9) hw10
 have h113:=(h1'.upd u12 hS9).upd u13 hS10
 have h213:=(h2'.upd u12 hS9).upd u13 hS10
 have k7:=(((k7.ext e9).ext e1011).upd u12 n79).upd u13 n710
 have k8:=(((k8.ext e9).ext e1011).upd u12 n89).upd u13 n810
 have k6:=(((k6.ext e9).ext e1011).upd u12 n69).upd u13 n610
 have up13:Up T3 w13:=up11.ext (by rw [u13.size,u12.size];exact Nat.le_refl _)
 have upo13:Up U w13:=((upo8.ext e9.size).ext e1011.size).ext (by rw [u13.size,u12.size];exact Nat.le_refl _)
 have hv1:=shpA (E:=eZn L) rfl h113
 have hv2:=shpA (E:=eZn L) rfl h213
 have hv3:=shpA (E:=eZn L) rfl h313
 have hv4:=shpA (E:=eZn L) rfl h413
 refine .seq ?_
 refine .par follows 12 [.inr IsTab,.inl (.int .u8 k),.inl (.agg #[.func (.func f) #[] #[]]),.inl (.func (.func f) #[] #[]),.inl u1,.inl u2,.inl u3,.inl u4,.inr (Two (Zv T3 N (2*L+1)) (Zv T3 D (2*L+1))),.inr (Zv T3 N (2*L+1)),.inr (Zv T3 D (2*L+1)),.inr (eQ.at U (qc (Rat.divInt N D)))]
  [[],[],[(21,0),(22,1)],[(23,2)],[],[],[],[],[(24,3),(25,4),(26,5),(27,6),(28,7)],[(29,8)],[(29,8)],[(30,9),(31,10)]] (by kernel_rfl) ⟨
  fun w e=>(A2 [] AI2 rfl AH2).ob st_tab,
  fun w e=>(v_mv rfl).ob,
  fun w e x0 hx0=>by
   obtain ⟨r,rfl,hr⟩:=hx0
   exact (v_lkp Ad4 AP1 rfl rfl hr hf).ob,
  fun w e=>(v_fd rfl prt_op).ob,
  fun w e=>((B8 ty_Z rfl (k7.ext e) ((eZn L).csz h113)).eq hv1.symm).ob,
  fun w e=>((B8 ty_Z rfl (k8.ext e) ((eZn L).csz h213)).eq hv2.symm).ob,
  fun w e=>((B8 ty_Z rfl (k9.ext e) ((eZn L).csz h313)).eq hv3.symm).ob,
  fun w e=>((B8 ty_Z rfl (k10.ext e) ((eZn L).csz h413)).eq hv4.symm).ob,
  fun w e=>(Y5 [u1,u2,u3,u4] rfl hE rfl (by simpa using hop (up13.ext e.size) (Zv.ext h113 e) (Zv.ext h213 e) (Zv.ext h313 e) (Zv.ext h413 e))).ob (T5 (Ae2 _ _ _) (Ae2 _ _ _)),
  fun w e x8 hx8=>by
   obtain ⟨p,q,rfl,hp,hq⟩:=hx8
   exact L9 (v_ex rfl rfl) hp (Ae2 _ _ _),
  fun w e x8 hx8=>by
   obtain ⟨p,q,rfl,hp,hq⟩:=hx8
   exact L9 (v_ex rfl rfl) hq (Ae2 _ _ _),
  fun w e x9 hx9 x10 hx10=>(A2 _ U5 rfl (T9 (up13.ext e.size) (upo13.ext e.size) hx9 hx10 hD (by omega))).ob (A6 _ _ _),trivial⟩ ?_
 intro w14 e14 x0 hx0 x8 hx8 x9 hx9 x10 hx10 x11 hx11
 refine .storeA (E:=eQ) ty_Q rfl rfl (k6.ext e14) rfl rfl hx11 hU6 fun w15 k15 u15 h15=>.nil (.ret ?_)
 exact .cell Tryz.results119 rfl ty_Q rfl rfl k15 h15 ⟨u15.below (x13.trans e14) hw6,hout h15⟩
end Go.Proofs.YtfilidfomgfnhaaGreat

namespace Go.Proofs.YtfilidfomgfnhaaGreat
open Go Go.Kx Go.RowKit
theorem M8 {m n:Int} {L:Nat} (hm:m.natAbs<4294967296 ^ L) (hn:n.natAbs<4294967296 ^ L):(m*n).natAbs<4294967296 ^ (2*L):=by
 rw [Int.natAbs_mul,show 2*L=L+L by omega,Nat.pow_add]
 exact Nat.mul_lt_mul'' hm hn
theorem sum_lt {m n:Int} {L:Nat} (hm:m.natAbs<4294967296 ^ L) (hn:n.natAbs<4294967296 ^ L):(m+n).natAbs<4294967296 ^ (L+1):=by
 have:=Int.natAbs_add_le m n
 rw [Nat.pow_succ];omega
theorem dif_lt {m n:Int} {L:Nat} (hm:m.natAbs<4294967296 ^ L) (hn:n.natAbs<4294967296 ^ L):(m-n).natAbs<4294967296 ^ (L+1):=by
 have:=Int.natAbs_sub_le m n
 rw [Nat.pow_succ];omega
theorem AV4 {m:Int} {L M:Nat} (h:m.natAbs<4294967296 ^ L) (hl:L≤M):m.natAbs<4294967296 ^ M:=Nat.lt_of_lt_of_le h (Nat.pow_le_pow_right (by omega) hl)
theorem E_op1:Ent Tryz.prog 238:=A0 Tryz.func238 (by kernel_rfl) rfl
theorem op1_c {S:Nat→Prop} {w:World} {u1 u2 u3 u4:Value} {m1 m2 m3 m4:Int} {L:Nat} (hL2:L≤100000000000) (up:Up S w) (h1:Zv S m1 L u1 w) (h2:Zv S m2 L u2 w) (h3:Zv S m3 L u3 w) (h4:Zv S m4 L u4 w) :
  CR Tryz.prog 238 #[u1,u2,u3,u4] w (Two (Zv S (m1*m4+m3*m2) (2*L+1)) (Zv S (m2*m4) (2*L+1))):=by
 have l1:=h1.lt
 have l2:=h2.lt
 have l3:=h3.lt
 have l4:=h4.lt
 obtain ⟨z1,h1,rfl,hl1⟩:=h1
 obtain ⟨z2,h2,rfl,hl2⟩:=h2
 obtain ⟨z3,h3,rfl,hl3⟩:=h3
 obtain ⟨z4,h4,rfl,hl4⟩:=h4
 have hv1:=shpA rfl h1
 have hv2:=shpA rfl h2
 have hv3:=shpA rfl h3
 have hv4:=shpA rfl h4
 refine enter Tryz.func238 rfl Tryz.ntmps238 rfl ?_
 refine .seq (.region (.box rfl rfl fun w1 b4 n1=>.box rfl rfl fun w2 b5 n2=>.box rfl rfl fun w3 b6 n3=>.box rfl rfl fun w4 b7 n4=>.alloc rfl D3 fun w5 b8 n5=>.alloc rfl D3 fun w6 b9 n6=>.nil ?_))
 obtain ⟨e1,k4,hb4,hs1⟩:=n1
 obtain ⟨e2,k5,hb5,hs2⟩:=n2
 obtain ⟨e3,k6,hb6,hs3⟩:=n3
 obtain ⟨e4,k7,hb7,hs4⟩:=n4
 obtain ⟨e5,k8,hb8,hs5⟩:=n5
 obtain ⟨e6,k9,hb9,hs6⟩:=n6
 have e56:=e5.trans e6
 have e46:=e4.trans e56
 have e36:=e3.trans e46
 have e26:=e2.trans e36
 have x6:=e1.trans e26
 have k4:=k4.ext e26
 have k5:=k5.ext e36
 have k6:=k6.ext e46
 have k7:=k7.ext e56
 have k8:=k8.ext e6
 have hS8:¬ Sx S w.heap.size w6.heap.size b8:=Sx.no (by omega) (by omega)
 have hS9:¬ Sx S w.heap.size w6.heap.size b9:=Sx.no (by omega) (by omega)
 have up6:Up (Sx S w.heap.size w6.heap.size) w6:=Sx.up up (Nat.le_refl _) x6.size
 have h1:=(h1.par w6.heap.size).ext x6
 have h2:=(h2.par w6.heap.size).ext x6
 have h3:=(h3.par w6.heap.size).ext x6
 have h4:=(h4.par w6.heap.size).ext x6
 have hout:∀ {W:World} {v:Value} {n:Int},(eZn (2*L+1)).R (Sx S w.heap.size w6.heap.size) W v n→Zv S n (2*L+1) v W:=fun h=>Zv.out h
 have hn89:b9≠b8:=by omega
 have hw8:w.heap.size≤b8:=by omega
 have hw9:w.heap.size≤b9:=by omega
 generalize hT:Sx S w.heap.size w6.heap.size=T at *
 refine .seq ?_
 refine .par follows 9 [.inl u1,.inl u4,.inr (eZ.at T (zc (zval z1*zval z4))),.inl u3,.inl u2,.inr (eZ.at T (zc (zval z3*zval z2))),.inr (eZ.at T (zc (zval z1*zval z4+zval z3*zval z2))),.inl u2,.inl u4] [[],[],[(10,0),(11,1)],[],[],[(13,3),(14,4)],[(12,2),(15,5)],[],[]] (by kernel_rfl) ⟨
  fun w e=>((B8 ty_Z rfl (k4.ext e) (eZ.csz h1)).eq hv1.symm).ob,
  fun w e=>((B8 ty_Z rfl (k7.ext e) (eZ.csz h4)).eq hv4.symm).ob,
  fun w e=>(A2 _ D9 rfl (D8 (up6.ext e.size) (h1.ext e) (h4.ext e) (by omega) (by omega))).ob (A6 _ _ _),
  fun w e=>((B8 ty_Z rfl (k6.ext e) (eZ.csz h3)).eq hv3.symm).ob,
  fun w e=>((B8 ty_Z rfl (k5.ext e) (eZ.csz h2)).eq hv2.symm).ob,
  fun w e=>(A2 _ D9 rfl (D8 (up6.ext e.size) (h3.ext e) (h2.ext e) (by omega) (by omega))).ob (A6 _ _ _),
  fun w e x2 hx2 x5 hx5=>(A2 _ Ag5 rfl (by
   have:=Ac5 (up6.ext e.size) hx2 hx5 (Nat.le_trans (Z6 (M8 l1 l4)) (by omega)) (Nat.le_trans (Z6 (M8 l3 l2)) (by omega))
   rw [H1,H1] at this
   exact this)).ob (A6 _ _ _),
  fun w e=>((B8 ty_Z rfl (k5.ext e) (eZ.csz h2)).eq hv2.symm).ob,
  fun w e=>((B8 ty_Z rfl (k7.ext e) (eZ.csz h4)).eq hv4.symm).ob,trivial⟩ ?_
 intro w7 e7 x2 hx2 x5 hx5 x6' hx6
 refine .call _ rfl D9 rfl (D8 (up6.ext e7.size) (h2.ext e7) (h4.ext e7) (by omega) (by omega)) fun v8 w8 e8 h8=>?_
 have e78:=e7.trans e8
 have hA:(eZn (2*L+1)).R T w8 x6' (zval z1*zval z4+zval z3*zval z2):=Zv.of (hx6.ext e8) (sum_lt (M8 l1 l4) (M8 l3 l2))
 have hB:(eZn (2*L+1)).R T w8 v8 (zval z2*zval z4):=Zv.of h8 (AV4 (M8 l2 l4) (by omega))
 refine .storeA (E:=eZn (2*L+1)) ty_Z rfl rfl (k8.ext e78) rfl rfl hA hS8 fun w9 k8' u9 h9=>?_
 refine .storeA (E:=eZn (2*L+1)) ty_Z rfl rfl ((k9.ext e78).upd u9 hn89) rfl rfl (hB.upd u9 hS8) hS9 fun w10 k10 u10 h10=>.nil (.ret ?_)
 exact .plain [_,_] Tryz.results238 ⟨⟨_,rfl,D1 (E:=eZn (2*L+1)) ty_Z rfl rfl (k8'.upd u10 (Ne.symm hn89)) (h9.upd u10 hS9)⟩,⟨_,rfl,D1 (E:=eZn (2*L+1)) ty_Z rfl rfl k10 h10⟩,trivial⟩ ⟨u10.below (u9.below (x6.trans e78) hw8) hw9,_,_,rfl,hout (h9.upd u10 hS9),hout h10⟩
theorem E_op3:Ent Tryz.prog 242:=A0 Tryz.func242 (by kernel_rfl) rfl
theorem op3_c {S:Nat→Prop} {w:World} {u1 u2 u3 u4:Value} {m1 m2 m3 m4:Int} {L:Nat} (hL2:L≤100000000000) (up:Up S w) (h1:Zv S m1 L u1 w) (h2:Zv S m2 L u2 w) (h3:Zv S m3 L u3 w) (h4:Zv S m4 L u4 w) :
  CR Tryz.prog 242 #[u1,u2,u3,u4] w (Two (Zv S (m1*m3) (2*L+1)) (Zv S (m2*m4) (2*L+1))):=by
 have l1:=h1.lt
 have l2:=h2.lt
 have l3:=h3.lt
 have l4:=h4.lt
 obtain ⟨z1,h1,rfl,hl1⟩:=h1
 obtain ⟨z2,h2,rfl,hl2⟩:=h2
 obtain ⟨z3,h3,rfl,hl3⟩:=h3
 obtain ⟨z4,h4,rfl,hl4⟩:=h4
 have hv1:=shpA rfl h1
 have hv2:=shpA rfl h2
 have hv3:=shpA rfl h3
 have hv4:=shpA rfl h4
 refine enter Tryz.func242 rfl Tryz.ntmps242 rfl ?_
 refine .seq (.region (.box rfl rfl fun w1 b4 n1=>.box rfl rfl fun w2 b5 n2=>.box rfl rfl fun w3 b6 n3=>.box rfl rfl fun w4 b7 n4=>.alloc rfl D3 fun w5 b8 n5=>.alloc rfl D3 fun w6 b9 n6=>.nil ?_))
 obtain ⟨e1,k4,hb4,hs1⟩:=n1
 obtain ⟨e2,k5,hb5,hs2⟩:=n2
 obtain ⟨e3,k6,hb6,hs3⟩:=n3
 obtain ⟨e4,k7,hb7,hs4⟩:=n4
 obtain ⟨e5,k8,hb8,hs5⟩:=n5
 obtain ⟨e6,k9,hb9,hs6⟩:=n6
 have e56:=e5.trans e6
 have e46:=e4.trans e56
 have e36:=e3.trans e46
 have e26:=e2.trans e36
 have x6:=e1.trans e26
 have k4:=k4.ext e26
 have k5:=k5.ext e36
 have k6:=k6.ext e46
 have k7:=k7.ext e56
 have k8:=k8.ext e6
 have hS8:¬ Sx S w.heap.size w6.heap.size b8:=Sx.no (by omega) (by omega)
 have hS9:¬ Sx S w.heap.size w6.heap.size b9:=Sx.no (by omega) (by omega)
 have up6:Up (Sx S w.heap.size w6.heap.size) w6:=Sx.up up (Nat.le_refl _) x6.size
 have h1:=(h1.par w6.heap.size).ext x6
 have h2:=(h2.par w6.heap.size).ext x6
 have h3:=(h3.par w6.heap.size).ext x6
 have h4:=(h4.par w6.heap.size).ext x6
 have hout:∀ {W:World} {v:Value} {n:Int},(eZn (2*L+1)).R (Sx S w.heap.size w6.heap.size) W v n→Zv S n (2*L+1) v W:=fun h=>Zv.out h
 have hn89:b9≠b8:=by omega
 have hw8:w.heap.size≤b8:=by omega
 have hw9:w.heap.size≤b9:=by omega
 generalize hT:Sx S w.heap.size w6.heap.size=T at *
 refine .seq ?_
 refine .par follows 5 [.inl u1,.inl u3,.inr (eZ.at T (zc (zval z1*zval z3))),.inl u2,.inl u4] [[],[],[(10,0),(11,1)],[],[]] (by kernel_rfl) ⟨
  fun w e=>((B8 ty_Z rfl (k4.ext e) (eZ.csz h1)).eq hv1.symm).ob,
  fun w e=>((B8 ty_Z rfl (k6.ext e) (eZ.csz h3)).eq hv3.symm).ob,
  fun w e=>(A2 _ D9 rfl (D8 (up6.ext e.size) (h1.ext e) (h3.ext e) (by omega) (by omega))).ob (A6 _ _ _),
  fun w e=>((B8 ty_Z rfl (k5.ext e) (eZ.csz h2)).eq hv2.symm).ob,
  fun w e=>((B8 ty_Z rfl (k7.ext e) (eZ.csz h4)).eq hv4.symm).ob,trivial⟩ ?_
 intro w7 e7 x2 hx2
 refine .call _ rfl D9 rfl (D8 (up6.ext e7.size) (h2.ext e7) (h4.ext e7) (by omega) (by omega)) fun v8 w8 e8 h8=>?_
 have e78:=e7.trans e8
 have hA:(eZn (2*L+1)).R T w8 x2 (zval z1*zval z3):=Zv.of (hx2.ext e8) (AV4 (M8 l1 l3) (by omega))
 have hB:(eZn (2*L+1)).R T w8 v8 (zval z2*zval z4):=Zv.of h8 (AV4 (M8 l2 l4) (by omega))
 refine .storeA (E:=eZn (2*L+1)) ty_Z rfl rfl (k8.ext e78) rfl rfl hA hS8 fun w9 k8' u9 h9=>?_
 refine .storeA (E:=eZn (2*L+1)) ty_Z rfl rfl ((k9.ext e78).upd u9 hn89) rfl rfl (hB.upd u9 hS8) hS9 fun w10 k10 u10 h10=>.nil (.ret ?_)
 exact .plain [_,_] Tryz.results242 ⟨⟨_,rfl,D1 (E:=eZn (2*L+1)) ty_Z rfl rfl (k8'.upd u10 (Ne.symm hn89)) (h9.upd u10 hS9)⟩,⟨_,rfl,D1 (E:=eZn (2*L+1)) ty_Z rfl rfl k10 h10⟩,trivial⟩ ⟨u10.below (u9.below (x6.trans e78) hw8) hw9,_,_,rfl,hout (h9.upd u10 hS9),hout h10⟩
theorem P4 {q:QV} (h:shortB q=true) : -2147483648<pn q∧pn q<2147483648∧0<pd q∧pd q<2147483648:=by
 simp only [shortB,decide_eq_true_eq] at h
 have:=K3 q
 unfold pn pd at *
 refine ⟨?_,?_,?_,?_⟩<;>split<;>(try split)<;>omega
theorem M7 {x y:Int} (h1 : -2147483648<x) (h2:x<2147483648) (h3 : -2147483648<y) (h4:y<2147483648) : -4611686014132420609≤x*y∧x*y≤4611686014132420609:=by
 have h:(x*y).natAbs≤2147483647*2147483647:=by
  rw [Int.natAbs_mul]
  exact Nat.mul_le_mul (by omega) (by omega)
 omega
theorem I3:Ent Tryz.prog 51:=A0 Tryz.func51 (by kernel_rfl) rfl
theorem AE7 {S T0:Nat→Prop} {w:World} {va vb:Value} {a b:QV} {L:Nat} (up:Up S w) (upo:Up T0 w) (ha:eQ.R S w va a) (hb:eQ.R S w vb b) (hla:qok L a) (hlb:qok L b) (hL:1≤L) (hL2:L≤100000000000) :
  CR Tryz.prog 51 #[va,vb] w (eQ.at T0 (qc (qval a+qval b))):=by
 have hva:=shpA rfl ha
 have hvb:=shpA rfl hb
 have hpa:=K3 a
 have hpb:=K3 b
 have hpp:0<pd a*pd b:=Int.mul_pos hpa hpb
 have hval:qval a+qval b=Rat.divInt (pn a*pd b+pn b*pd a) (pd a*pd b):=by
  unfold qval
  rw [Rat.divInt_add_divInt _ _ (by omega) (by omega)]
 rw [hval]
 refine enter Tryz.func51 rfl Tryz.ntmps51 rfl ?_
 refine .seq (.region (.box rfl rfl fun w1 b2 n1=>.box rfl rfl fun w2 b3 n2=>.alloc rfl B7 fun w3 b4 n3=>.nil ?_))
 obtain ⟨e1,k2,hb2,hs1⟩:=n1
 obtain ⟨e2,k3,hb3,hs2⟩:=n2
 obtain ⟨e3,k4,hb4,hs3⟩:=n3
 have x3:=(e1.trans e2).trans e3
 have k2:=(k2.ext e2).ext e3
 have k3:=k3.ext e3
 have hU4:¬ Sx T0 w.heap.size w3.heap.size b4:=Sx.no (by omega) (by omega)
 have upo3:Up (Sx T0 w.heap.size w3.heap.size) w3:=Sx.up upo (Nat.le_refl _) x3.size
 have up3:Up (Sx S w.heap.size w3.heap.size) w3:=Sx.up up (Nat.le_refl _) x3.size
 have ha3:=(ha.par w3.heap.size).ext x3
 have hb3':=(hb.par w3.heap.size).ext x3
 have hout:∀ {W:World} {v:Value} {z:QV},eQ.R (Sx T0 w.heap.size w3.heap.size) W v z→eQ.R T0 W v z:=fun h=>h.out
 have hw4:w.heap.size≤b4:=by omega
 generalize hT:Sx S w.heap.size w3.heap.size=T at *
 generalize hU:Sx T0 w.heap.size w3.heap.size=U at *
 refine .seq (.region (.ldA ty_Q rfl rfl k2 (eQ.csz ha) ?_))
 rw [←hva]
 refine .call _ rfl C9 rfl (C8 ha3) fun v4 w4 e4 h4=>?_
 subst h4
 have k2:=k2.ext e4
 have k3:=k3.ext e4
 have k4:=k4.ext e4
 have ha4:=ha3.ext e4
 have hb4':=hb3'.ext e4
 have up4:=up3.ext e4.size
 have upo4:=upo3.ext e4.size
 have x4:=x3.trans e4
 have slow:∀ {W:World},Ext w4 W→CR Tryz.prog 119 #[.int .u8 43,va,vb] W (eQ.at U (qc (Rat.divInt (pn a*pd b+pn b*pd a) (pd a*pd b)))):=fun e =>
  J9 (up4.ext e.size) (upo4.ext e.size) (ha4.ext e) (hb4'.ext e) hla hlb hL hL2 E_op1 rfl (fun u h1 h2 h3 h4=>op1_c hL2 u h1 h2 h3 h4) (by omega)
 unfold shortV
 cases hsa:shortB a with
 | false =>
  refine .mv rfl rfl (.ext rfl rfl rfl (.ext rfl rfl rfl (.ext rfl rfl rfl (.asg rfl rfl (.asg rfl rfl (.asg rfl rfl (.nil ?_)))))))
  refine .seq (.region (.ldA ty_Q rfl rfl k3 (eQ.csz hb) ?_))
  rw [←hvb]
  refine .call _ rfl C9 rfl (C8 hb4') fun v5 w5 e5 h5=>?_
  subst h5
  obtain ⟨y1,y2,y3,hy⟩:∃ y1 y2 y3,shortV b=.tuple #[y1,y2,y3]:=by unfold shortV;split<;>exact ⟨_,_,_,rfl⟩
  rw [hy]
  refine .mv rfl rfl (.ext rfl rfl rfl (.ext rfl rfl rfl (.ext rfl rfl rfl (.asg rfl rfl (.asg rfl rfl (.asg rfl rfl (.nil ?_)))))))
  refine .seq (.seq (.region (.mv rfl rfl (.mv rfl rfl (.gs rfl rfl rfl rfl rfl (.pick rfl rfl rfl (.nil (.condF rfl (.skip ?_)))))))))
  refine .seq (.region (.ldA ty_Q rfl rfl (k2.ext e5) (eQ.csz ha) (.ldA ty_Q rfl rfl (k3.ext e5) (eQ.csz hb) ?_)))
  rw [←hva,←hvb]
  refine .call _ rfl D4 rfl (slow e5) fun v6 w6 e6 h6=>?_
  refine .storeA (E:=eQ) ty_Q rfl rfl ((k4.ext e5).ext e6) rfl rfl h6 hU4 fun w7 k7 u7 h7=>.nil (.ret ?_)
  exact .cell Tryz.results51 rfl ty_Q rfl rfl k7 h7 ⟨u7.below ((x4.trans e5).trans e6) hw4,hout h7⟩
 | true =>
  refine .mv rfl rfl (.ext rfl rfl rfl (.ext rfl rfl rfl (.ext rfl rfl rfl (.asg rfl rfl (.asg rfl rfl (.asg rfl rfl (.nil ?_)))))))
  refine .seq (.region (.ldA ty_Q rfl rfl k3 (eQ.csz hb) ?_))
  rw [←hvb]
  refine .call _ rfl C9 rfl (C8 hb4') fun v5 w5 e5 h5=>?_
  subst h5
  unfold shortV
  cases hsb:shortB b with
  | false =>
   refine .mv rfl rfl (.ext rfl rfl rfl (.ext rfl rfl rfl (.ext rfl rfl rfl (.asg rfl rfl (.asg rfl rfl (.asg rfl rfl (.nil ?_)))))))
   refine .seq (.seq (.region (.mv rfl rfl (.mv rfl rfl (.gr rfl rfl rfl rfl (.mv rfl rfl (.pick rfl rfl rfl (.nil (.condF rfl (.skip ?_))))))))))
   refine .seq (.region (.ldA ty_Q rfl rfl (k2.ext e5) (eQ.csz ha) (.ldA ty_Q rfl rfl (k3.ext e5) (eQ.csz hb) ?_)))
   rw [←hva,←hvb]
   refine .call _ rfl D4 rfl (slow e5) fun v6 w6 e6 h6=>?_
   refine .storeA (E:=eQ) ty_Q rfl rfl ((k4.ext e5).ext e6) rfl rfl h6 hU4 fun w7 k7 u7 h7=>.nil (.ret ?_)
   exact .cell Tryz.results51 rfl ty_Q rfl rfl k7 h7 ⟨u7.below ((x4.trans e5).trans e6) hw4,hout h7⟩
  | true =>
   have ba:=P4 hsa
   have bb:=P4 hsb
   refine .mv rfl rfl (.ext rfl rfl rfl (.ext rfl rfl rfl (.ext rfl rfl rfl (.asg rfl rfl (.asg rfl rfl (.asg rfl rfl (.nil ?_)))))))
   refine .seq (.seq (.region (.mv rfl rfl (.mv rfl rfl (.gr rfl rfl rfl rfl (.mv rfl rfl (.pick rfl rfl rfl (.nil (.condT rfl (.seq (.region ?_)))))))))))
   generalize pn a=an at *
   generalize pn b=bn at *
   generalize pd a=ad at *
   generalize pd b=bd at *
   have m1:=M7 (x:=an) (y:=bd) (by omega) (by omega) (by omega) (by omega)
   have m2:=M7 (x:=bn) (y:=ad) (by omega) (by omega) (by omega) (by omega)
   have m3:=M7 (x:=ad) (y:=bd) (by omega) (by omega) (by omega) (by omega)
   have m4:=M7 (x:=an) (y:=bn) (by omega) (by omega) (by omega) (by omega)
   refine .mv rfl rfl (.mv rfl rfl (.mul rfl rfl rfl (.mv rfl rfl (.mv rfl rfl (.mul rfl rfl rfl (.add rfl rfl rfl (.mv rfl rfl (.mv rfl rfl (.mul rfl rfl rfl ?_)))))))))
   rw [wI (n:=an*bd) (by omega),wI (n:=bn*ad) (by omega),wI (n:=ad*bd) (by omega),wI (n:=an*bd+bn*ad) (by omega)]
   refine .call _ rfl K1 rfl (J8 (upo4.ext e5.size) hpp (by omega) (by omega) (by omega)) fun v6 w6 e6 h6=>?_
   refine .storeA (E:=eQ) ty_Q rfl rfl ((k4.ext e5).ext e6) rfl rfl h6 hU4 fun w7 k7 u7 h7=>.nil (.ret ?_)
   exact .cell Tryz.results51 rfl ty_Q rfl rfl k7 h7 ⟨u7.below ((x4.trans e5).trans e6) hw4,hout h7⟩
theorem L4 {S:Nat→Prop} {w:World} {va vb:Value} {a b:QV} {L:Nat} (up:Up S w) (ha:eQ.R S w va a) (hb:eQ.R S w vb b) (hla:qok L a) (hlb:qok L b) (hL:1≤L) (hL2:L≤100000000000) :
  CR Tryz.prog 51 #[va,vb] w (eQ.at S (qc (qval a+qval b))):=AE7 up up ha hb hla hlb hL hL2
theorem L7:Ent Tryz.prog 63:=A0 Tryz.func63 (by kernel_rfl) rfl
theorem AR1 {S T0:Nat→Prop} {w:World} {va vb:Value} {a b:QV} {L:Nat} (up:Up S w) (upo:Up T0 w) (ha:eQ.R S w va a) (hb:eQ.R S w vb b) (hla:qok L a) (hlb:qok L b) (hL:1≤L) (hL2:L≤100000000000) :
  CR Tryz.prog 63 #[va,vb] w (eQ.at T0 (qc (qval a*qval b))):=by
 have hva:=shpA rfl ha
 have hvb:=shpA rfl hb
 have hpa:=K3 a
 have hpb:=K3 b
 have hpp:0<pd a*pd b:=Int.mul_pos hpa hpb
 have hval:qval a*qval b=Rat.divInt (pn a*pn b) (pd a*pd b):=by
  unfold qval
  rw [Rat.divInt_mul_divInt]
 rw [hval]
 refine enter Tryz.func63 rfl Tryz.ntmps63 rfl ?_
 refine .seq (.region (.box rfl rfl fun w1 b2 n1=>.box rfl rfl fun w2 b3 n2=>.alloc rfl B7 fun w3 b4 n3=>.nil ?_))
 obtain ⟨e1,k2,hb2,hs1⟩:=n1
 obtain ⟨e2,k3,hb3,hs2⟩:=n2
 obtain ⟨e3,k4,hb4,hs3⟩:=n3
 have x3:=(e1.trans e2).trans e3
 have k2:=(k2.ext e2).ext e3
 have k3:=k3.ext e3
 have hU4:¬ Sx T0 w.heap.size w3.heap.size b4:=Sx.no (by omega) (by omega)
 have upo3:Up (Sx T0 w.heap.size w3.heap.size) w3:=Sx.up upo (Nat.le_refl _) x3.size
 have up3:Up (Sx S w.heap.size w3.heap.size) w3:=Sx.up up (Nat.le_refl _) x3.size
 have ha3:=(ha.par w3.heap.size).ext x3
 have hb3':=(hb.par w3.heap.size).ext x3
 have hout:∀ {W:World} {v:Value} {z:QV},eQ.R (Sx T0 w.heap.size w3.heap.size) W v z→eQ.R T0 W v z:=fun h=>h.out
 have hw4:w.heap.size≤b4:=by omega
 generalize hT:Sx S w.heap.size w3.heap.size=T at *
 generalize hU:Sx T0 w.heap.size w3.heap.size=U at *
 refine .seq (.region (.ldA ty_Q rfl rfl k2 (eQ.csz ha) ?_))
 rw [←hva]
 refine .call _ rfl C9 rfl (C8 ha3) fun v4 w4 e4 h4=>?_
 subst h4
 have k2:=k2.ext e4
 have k3:=k3.ext e4
 have k4:=k4.ext e4
 have ha4:=ha3.ext e4
 have hb4':=hb3'.ext e4
 have up4:=up3.ext e4.size
 have upo4:=upo3.ext e4.size
 have x4:=x3.trans e4
 have slow:∀ {W:World},Ext w4 W→CR Tryz.prog 119 #[.int .u8 42,va,vb] W (eQ.at U (qc (Rat.divInt (pn a*pn b) (pd a*pd b)))):=fun e =>
  J9 (up4.ext e.size) (upo4.ext e.size) (ha4.ext e) (hb4'.ext e) hla hlb hL hL2 E_op3 rfl (fun u h1 h2 h3 h4=>op3_c hL2 u h1 h2 h3 h4) (by omega)
 unfold shortV
 cases hsa:shortB a with
 | false =>
  refine .mv rfl rfl (.ext rfl rfl rfl (.ext rfl rfl rfl (.ext rfl rfl rfl (.asg rfl rfl (.asg rfl rfl (.asg rfl rfl (.nil ?_)))))))
  refine .seq (.region (.ldA ty_Q rfl rfl k3 (eQ.csz hb) ?_))
  rw [←hvb]
  refine .call _ rfl C9 rfl (C8 hb4') fun v5 w5 e5 h5=>?_
  subst h5
  obtain ⟨y1,y2,y3,hy⟩:∃ y1 y2 y3,shortV b=.tuple #[y1,y2,y3]:=by unfold shortV;split<;>exact ⟨_,_,_,rfl⟩
  rw [hy]
  refine .mv rfl rfl (.ext rfl rfl rfl (.ext rfl rfl rfl (.ext rfl rfl rfl (.asg rfl rfl (.asg rfl rfl (.asg rfl rfl (.nil ?_)))))))
  refine .seq (.seq (.region (.mv rfl rfl (.mv rfl rfl (.gs rfl rfl rfl rfl rfl (.pick rfl rfl rfl (.nil (.condF rfl (.skip ?_)))))))))
  refine .seq (.region (.ldA ty_Q rfl rfl (k2.ext e5) (eQ.csz ha) (.ldA ty_Q rfl rfl (k3.ext e5) (eQ.csz hb) ?_)))
  rw [←hva,←hvb]
  refine .call _ rfl D4 rfl (slow e5) fun v6 w6 e6 h6=>?_
  refine .storeA (E:=eQ) ty_Q rfl rfl ((k4.ext e5).ext e6) rfl rfl h6 hU4 fun w7 k7 u7 h7=>.nil (.ret ?_)
  exact .cell Tryz.results63 rfl ty_Q rfl rfl k7 h7 ⟨u7.below ((x4.trans e5).trans e6) hw4,hout h7⟩
 | true =>
  refine .mv rfl rfl (.ext rfl rfl rfl (.ext rfl rfl rfl (.ext rfl rfl rfl (.asg rfl rfl (.asg rfl rfl (.asg rfl rfl (.nil ?_)))))))
  refine .seq (.region (.ldA ty_Q rfl rfl k3 (eQ.csz hb) ?_))
  rw [←hvb]
  refine .call _ rfl C9 rfl (C8 hb4') fun v5 w5 e5 h5=>?_
  subst h5
  unfold shortV
  cases hsb:shortB b with
  | false =>
   refine .mv rfl rfl (.ext rfl rfl rfl (.ext rfl rfl rfl (.ext rfl rfl rfl (.asg rfl rfl (.asg rfl rfl (.asg rfl rfl (.nil ?_)))))))
   refine .seq (.seq (.region (.mv rfl rfl (.mv rfl rfl (.gr rfl rfl rfl rfl (.mv rfl rfl (.pick rfl rfl rfl (.nil (.condF rfl (.skip ?_))))))))))
   refine .seq (.region (.ldA ty_Q rfl rfl (k2.ext e5) (eQ.csz ha) (.ldA ty_Q rfl rfl (k3.ext e5) (eQ.csz hb) ?_)))
   rw [←hva,←hvb]
   refine .call _ rfl D4 rfl (slow e5) fun v6 w6 e6 h6=>?_
   refine .storeA (E:=eQ) ty_Q rfl rfl ((k4.ext e5).ext e6) rfl rfl h6 hU4 fun w7 k7 u7 h7=>.nil (.ret ?_)
   exact .cell Tryz.results63 rfl ty_Q rfl rfl k7 h7 ⟨u7.below ((x4.trans e5).trans e6) hw4,hout h7⟩
  | true =>
   have ba:=P4 hsa
   have bb:=P4 hsb
   refine .mv rfl rfl (.ext rfl rfl rfl (.ext rfl rfl rfl (.ext rfl rfl rfl (.asg rfl rfl (.asg rfl rfl (.asg rfl rfl (.nil ?_)))))))
   refine .seq (.seq (.region (.mv rfl rfl (.mv rfl rfl (.gr rfl rfl rfl rfl (.mv rfl rfl (.pick rfl rfl rfl (.nil (.condT rfl (.seq (.region ?_)))))))))))
   generalize pn a=an at *
   generalize pn b=bn at *
   generalize pd a=ad at *
   generalize pd b=bd at *
   have m1:=M7 (x:=an) (y:=bd) (by omega) (by omega) (by omega) (by omega)
   have m2:=M7 (x:=bn) (y:=ad) (by omega) (by omega) (by omega) (by omega)
   have m3:=M7 (x:=ad) (y:=bd) (by omega) (by omega) (by omega) (by omega)
   have m4:=M7 (x:=an) (y:=bn) (by omega) (by omega) (by omega) (by omega)
   refine .mv rfl rfl (.mv rfl rfl (.mul rfl rfl rfl (.mv rfl rfl (.mv rfl rfl (.mul rfl rfl rfl ?_)))))
   rw [wI (n:=an*bn) (by omega),wI (n:=ad*bd) (by omega)]
   refine .call _ rfl K1 rfl (J8 (upo4.ext e5.size) hpp (by omega) (by omega) (by omega)) fun v6 w6 e6 h6=>?_
   refine .storeA (E:=eQ) ty_Q rfl rfl ((k4.ext e5).ext e6) rfl rfl h6 hU4 fun w7 k7 u7 h7=>.nil (.ret ?_)
   exact .cell Tryz.results63 rfl ty_Q rfl rfl k7 h7 ⟨u7.below ((x4.trans e5).trans e6) hw4,hout h7⟩
theorem N8 {S:Nat→Prop} {w:World} {va vb:Value} {a b:QV} {L:Nat} (up:Up S w) (ha:eQ.R S w va a) (hb:eQ.R S w vb b) (hla:qok L a) (hlb:qok L b) (hL:1≤L) (hL2:L≤100000000000) :
  CR Tryz.prog 63 #[va,vb] w (eQ.at S (qc (qval a*qval b))):=AR1 up up ha hb hla hlb hL hL2
theorem E_op2:Ent Tryz.prog 240:=A0 Tryz.func240 (by kernel_rfl) rfl
theorem op2_c {S:Nat→Prop} {w:World} {u1 u2 u3 u4:Value} {m1 m2 m3 m4:Int} {L:Nat} (hL2:L≤100000000000) (up:Up S w) (h1:Zv S m1 L u1 w) (h2:Zv S m2 L u2 w) (h3:Zv S m3 L u3 w) (h4:Zv S m4 L u4 w) :
  CR Tryz.prog 240 #[u1,u2,u3,u4] w (Two (Zv S (m1*m4-m3*m2) (2*L+1)) (Zv S (m2*m4) (2*L+1))):=by
 have l1:=h1.lt
 have l2:=h2.lt
 have l3:=h3.lt
 have l4:=h4.lt
 obtain ⟨z1,h1,rfl,hl1⟩:=h1
 obtain ⟨z2,h2,rfl,hl2⟩:=h2
 obtain ⟨z3,h3,rfl,hl3⟩:=h3
 obtain ⟨z4,h4,rfl,hl4⟩:=h4
 have hv1:=shpA rfl h1
 have hv2:=shpA rfl h2
 have hv3:=shpA rfl h3
 have hv4:=shpA rfl h4
 refine enter Tryz.func240 rfl Tryz.ntmps240 rfl ?_
 refine .seq (.region (.box rfl rfl fun w1 b4 n1=>.box rfl rfl fun w2 b5 n2=>.box rfl rfl fun w3 b6 n3=>.box rfl rfl fun w4 b7 n4=>.alloc rfl D3 fun w5 b8 n5=>.alloc rfl D3 fun w6 b9 n6=>.nil ?_))
 obtain ⟨e1,k4,hb4,hs1⟩:=n1
 obtain ⟨e2,k5,hb5,hs2⟩:=n2
 obtain ⟨e3,k6,hb6,hs3⟩:=n3
 obtain ⟨e4,k7,hb7,hs4⟩:=n4
 obtain ⟨e5,k8,hb8,hs5⟩:=n5
 obtain ⟨e6,k9,hb9,hs6⟩:=n6
 have e56:=e5.trans e6
 have e46:=e4.trans e56
 have e36:=e3.trans e46
 have e26:=e2.trans e36
 have x6:=e1.trans e26
 have k4:=k4.ext e26
 have k5:=k5.ext e36
 have k6:=k6.ext e46
 have k7:=k7.ext e56
 have k8:=k8.ext e6
 have hS8:¬ Sx S w.heap.size w6.heap.size b8:=Sx.no (by omega) (by omega)
 have hS9:¬ Sx S w.heap.size w6.heap.size b9:=Sx.no (by omega) (by omega)
 have up6:Up (Sx S w.heap.size w6.heap.size) w6:=Sx.up up (Nat.le_refl _) x6.size
 have h1:=(h1.par w6.heap.size).ext x6
 have h2:=(h2.par w6.heap.size).ext x6
 have h3:=(h3.par w6.heap.size).ext x6
 have h4:=(h4.par w6.heap.size).ext x6
 have hout:∀ {W:World} {v:Value} {n:Int},(eZn (2*L+1)).R (Sx S w.heap.size w6.heap.size) W v n→Zv S n (2*L+1) v W:=fun h=>Zv.out h
 have hn89:b9≠b8:=by omega
 have hw8:w.heap.size≤b8:=by omega
 have hw9:w.heap.size≤b9:=by omega
 generalize hT:Sx S w.heap.size w6.heap.size=T at *
 refine .seq ?_
 refine .par follows 9 [.inl u1,.inl u4,.inr (eZ.at T (zc (zval z1*zval z4))),.inl u3,.inl u2,.inr (eZ.at T (zc (zval z3*zval z2))),.inr (eZ.at T (zc (zval z1*zval z4-zval z3*zval z2))),.inl u2,.inl u4] [[],[],[(10,0),(11,1)],[],[],[(13,3),(14,4)],[(12,2),(15,5)],[],[]] (by kernel_rfl) ⟨
  fun w e=>((B8 ty_Z rfl (k4.ext e) (eZ.csz h1)).eq hv1.symm).ob,
  fun w e=>((B8 ty_Z rfl (k7.ext e) (eZ.csz h4)).eq hv4.symm).ob,
  fun w e=>(A2 _ D9 rfl (D8 (up6.ext e.size) (h1.ext e) (h4.ext e) (by omega) (by omega))).ob (A6 _ _ _),
  fun w e=>((B8 ty_Z rfl (k6.ext e) (eZ.csz h3)).eq hv3.symm).ob,
  fun w e=>((B8 ty_Z rfl (k5.ext e) (eZ.csz h2)).eq hv2.symm).ob,
  fun w e=>(A2 _ D9 rfl (D8 (up6.ext e.size) (h3.ext e) (h2.ext e) (by omega) (by omega))).ob (A6 _ _ _),
  fun w e x2 hx2 x5 hx5=>(A2 _ Ag2 rfl (by
   have:=Ac2 (up6.ext e.size) hx2 hx5 (Nat.le_trans (Z6 (M8 l1 l4)) (by omega)) (Nat.le_trans (Z6 (M8 l3 l2)) (by omega))
   rw [H1,H1] at this
   exact this)).ob (A6 _ _ _),
  fun w e=>((B8 ty_Z rfl (k5.ext e) (eZ.csz h2)).eq hv2.symm).ob,
  fun w e=>((B8 ty_Z rfl (k7.ext e) (eZ.csz h4)).eq hv4.symm).ob,trivial⟩ ?_
 intro w7 e7 x2 hx2 x5 hx5 x6' hx6
 refine .call _ rfl D9 rfl (D8 (up6.ext e7.size) (h2.ext e7) (h4.ext e7) (by omega) (by omega)) fun v8 w8 e8 h8=>?_
 have e78:=e7.trans e8
 have hA:(eZn (2*L+1)).R T w8 x6' (zval z1*zval z4-zval z3*zval z2):=Zv.of (hx6.ext e8) (dif_lt (M8 l1 l4) (M8 l3 l2))
 have hB:(eZn (2*L+1)).R T w8 v8 (zval z2*zval z4):=Zv.of h8 (AV4 (M8 l2 l4) (by omega))
 refine .storeA (E:=eZn (2*L+1)) ty_Z rfl rfl (k8.ext e78) rfl rfl hA hS8 fun w9 k8' u9 h9=>?_
 refine .storeA (E:=eZn (2*L+1)) ty_Z rfl rfl ((k9.ext e78).upd u9 hn89) rfl rfl (hB.upd u9 hS8) hS9 fun w10 k10 u10 h10=>.nil (.ret ?_)
 exact .plain [_,_] Tryz.results240 ⟨⟨_,rfl,D1 (E:=eZn (2*L+1)) ty_Z rfl rfl (k8'.upd u10 (Ne.symm hn89)) (h9.upd u10 hS9)⟩,⟨_,rfl,D1 (E:=eZn (2*L+1)) ty_Z rfl rfl k10 h10⟩,trivial⟩ ⟨u10.below (u9.below (x6.trans e78) hw8) hw9,_,_,rfl,hout (h9.upd u10 hS9),hout h10⟩
theorem R6:Ent Tryz.prog 87:=A0 Tryz.func87 (by kernel_rfl) rfl
theorem Aj3 {S T0:Nat→Prop} {w:World} {va vb:Value} {a b:QV} {L:Nat} (up:Up S w) (upo:Up T0 w) (ha:eQ.R S w va a) (hb:eQ.R S w vb b) (hla:qok L a) (hlb:qok L b) (hL:1≤L) (hL2:L≤100000000000) :
  CR Tryz.prog 87 #[va,vb] w (eQ.at T0 (qc (qval a-qval b))):=by
 have hva:=shpA rfl ha
 have hvb:=shpA rfl hb
 have hpa:=K3 a
 have hpb:=K3 b
 have hpp:0<pd a*pd b:=Int.mul_pos hpa hpb
 have hval:qval a-qval b=Rat.divInt (pn a*pd b-pn b*pd a) (pd a*pd b):=by
  unfold qval
  rw [Rat.divInt_sub_divInt _ _ (by omega) (by omega)]
 rw [hval]
 refine enter Tryz.func87 rfl Tryz.ntmps87 rfl ?_
 refine .seq (.region (.box rfl rfl fun w1 b2 n1=>.box rfl rfl fun w2 b3 n2=>.alloc rfl B7 fun w3 b4 n3=>.nil ?_))
 obtain ⟨e1,k2,hb2,hs1⟩:=n1
 obtain ⟨e2,k3,hb3,hs2⟩:=n2
 obtain ⟨e3,k4,hb4,hs3⟩:=n3
 have x3:=(e1.trans e2).trans e3
 have k2:=(k2.ext e2).ext e3
 have k3:=k3.ext e3
 have hU4:¬ Sx T0 w.heap.size w3.heap.size b4:=Sx.no (by omega) (by omega)
 have upo3:Up (Sx T0 w.heap.size w3.heap.size) w3:=Sx.up upo (Nat.le_refl _) x3.size
 have up3:Up (Sx S w.heap.size w3.heap.size) w3:=Sx.up up (Nat.le_refl _) x3.size
 have ha3:=(ha.par w3.heap.size).ext x3
 have hb3':=(hb.par w3.heap.size).ext x3
 have hout:∀ {W:World} {v:Value} {z:QV},eQ.R (Sx T0 w.heap.size w3.heap.size) W v z→eQ.R T0 W v z:=fun h=>h.out
 have hw4:w.heap.size≤b4:=by omega
 generalize hT:Sx S w.heap.size w3.heap.size=T at *
 generalize hU:Sx T0 w.heap.size w3.heap.size=U at *
 refine .seq (.region (.ldA ty_Q rfl rfl k2 (eQ.csz ha) ?_))
 rw [←hva]
 refine .call _ rfl C9 rfl (C8 ha3) fun v4 w4 e4 h4=>?_
 subst h4
 have k2:=k2.ext e4
 have k3:=k3.ext e4
 have k4:=k4.ext e4
 have ha4:=ha3.ext e4
 have hb4':=hb3'.ext e4
 have up4:=up3.ext e4.size
 have upo4:=upo3.ext e4.size
 have x4:=x3.trans e4
 have slow:∀ {W:World},Ext w4 W→CR Tryz.prog 119 #[.int .u8 45,va,vb] W (eQ.at U (qc (Rat.divInt (pn a*pd b-pn b*pd a) (pd a*pd b)))):=fun e =>
  J9 (up4.ext e.size) (upo4.ext e.size) (ha4.ext e) (hb4'.ext e) hla hlb hL hL2 E_op2 rfl (fun u h1 h2 h3 h4=>op2_c hL2 u h1 h2 h3 h4) (by omega)
 unfold shortV
 cases hsa:shortB a with
 | false =>
  refine .mv rfl rfl (.ext rfl rfl rfl (.ext rfl rfl rfl (.ext rfl rfl rfl (.asg rfl rfl (.asg rfl rfl (.asg rfl rfl (.nil ?_)))))))
  refine .seq (.region (.ldA ty_Q rfl rfl k3 (eQ.csz hb) ?_))
  rw [←hvb]
  refine .call _ rfl C9 rfl (C8 hb4') fun v5 w5 e5 h5=>?_
  subst h5
  obtain ⟨y1,y2,y3,hy⟩:∃ y1 y2 y3,shortV b=.tuple #[y1,y2,y3]:=by unfold shortV;split<;>exact ⟨_,_,_,rfl⟩
  rw [hy]
  refine .mv rfl rfl (.ext rfl rfl rfl (.ext rfl rfl rfl (.ext rfl rfl rfl (.asg rfl rfl (.asg rfl rfl (.asg rfl rfl (.nil ?_)))))))
  refine .seq (.seq (.region (.mv rfl rfl (.mv rfl rfl (.gs rfl rfl rfl rfl rfl (.pick rfl rfl rfl (.nil (.condF rfl (.skip ?_)))))))))
  refine .seq (.region (.ldA ty_Q rfl rfl (k2.ext e5) (eQ.csz ha) (.ldA ty_Q rfl rfl (k3.ext e5) (eQ.csz hb) ?_)))
  rw [←hva,←hvb]
  refine .call _ rfl D4 rfl (slow e5) fun v6 w6 e6 h6=>?_
  refine .storeA (E:=eQ) ty_Q rfl rfl ((k4.ext e5).ext e6) rfl rfl h6 hU4 fun w7 k7 u7 h7=>.nil (.ret ?_)
  exact .cell Tryz.results87 rfl ty_Q rfl rfl k7 h7 ⟨u7.below ((x4.trans e5).trans e6) hw4,hout h7⟩
 | true =>
  refine .mv rfl rfl (.ext rfl rfl rfl (.ext rfl rfl rfl (.ext rfl rfl rfl (.asg rfl rfl (.asg rfl rfl (.asg rfl rfl (.nil ?_)))))))
  refine .seq (.region (.ldA ty_Q rfl rfl k3 (eQ.csz hb) ?_))
  rw [←hvb]
  refine .call _ rfl C9 rfl (C8 hb4') fun v5 w5 e5 h5=>?_
  subst h5
  unfold shortV
  cases hsb:shortB b with
  | false =>
   refine .mv rfl rfl (.ext rfl rfl rfl (.ext rfl rfl rfl (.ext rfl rfl rfl (.asg rfl rfl (.asg rfl rfl (.asg rfl rfl (.nil ?_)))))))
   refine .seq (.seq (.region (.mv rfl rfl (.mv rfl rfl (.gr rfl rfl rfl rfl (.mv rfl rfl (.pick rfl rfl rfl (.nil (.condF rfl (.skip ?_))))))))))
   refine .seq (.region (.ldA ty_Q rfl rfl (k2.ext e5) (eQ.csz ha) (.ldA ty_Q rfl rfl (k3.ext e5) (eQ.csz hb) ?_)))
   rw [←hva,←hvb]
   refine .call _ rfl D4 rfl (slow e5) fun v6 w6 e6 h6=>?_
   refine .storeA (E:=eQ) ty_Q rfl rfl ((k4.ext e5).ext e6) rfl rfl h6 hU4 fun w7 k7 u7 h7=>.nil (.ret ?_)
   exact .cell Tryz.results87 rfl ty_Q rfl rfl k7 h7 ⟨u7.below ((x4.trans e5).trans e6) hw4,hout h7⟩
  | true =>
   have ba:=P4 hsa
   have bb:=P4 hsb
   refine .mv rfl rfl (.ext rfl rfl rfl (.ext rfl rfl rfl (.ext rfl rfl rfl (.asg rfl rfl (.asg rfl rfl (.asg rfl rfl (.nil ?_)))))))
   refine .seq (.seq (.region (.mv rfl rfl (.mv rfl rfl (.gr rfl rfl rfl rfl (.mv rfl rfl (.pick rfl rfl rfl (.nil (.condT rfl (.seq (.region ?_)))))))))))
   generalize pn a=an at *
   generalize pn b=bn at *
   generalize pd a=ad at *
   generalize pd b=bd at *
   have m1:=M7 (x:=an) (y:=bd) (by omega) (by omega) (by omega) (by omega)
   have m2:=M7 (x:=bn) (y:=ad) (by omega) (by omega) (by omega) (by omega)
   have m3:=M7 (x:=ad) (y:=bd) (by omega) (by omega) (by omega) (by omega)
   have m4:=M7 (x:=an) (y:=bn) (by omega) (by omega) (by omega) (by omega)
   refine .mv rfl rfl (.mv rfl rfl (.mul rfl rfl rfl (.mv rfl rfl (.mv rfl rfl (.mul rfl rfl rfl (.sub rfl rfl rfl (.mv rfl rfl (.mv rfl rfl (.mul rfl rfl rfl ?_)))))))))
   rw [wI (n:=an*bd) (by omega),wI (n:=bn*ad) (by omega),wI (n:=ad*bd) (by omega),wI (n:=an*bd-bn*ad) (by omega)]
   refine .call _ rfl K1 rfl (J8 (upo4.ext e5.size) hpp (by omega) (by omega) (by omega)) fun v6 w6 e6 h6=>?_
   refine .storeA (E:=eQ) ty_Q rfl rfl ((k4.ext e5).ext e6) rfl rfl h6 hU4 fun w7 k7 u7 h7=>.nil (.ret ?_)
   exact .cell Tryz.results87 rfl ty_Q rfl rfl k7 h7 ⟨u7.below ((x4.trans e5).trans e6) hw4,hout h7⟩
theorem Q9 {S:Nat→Prop} {w:World} {va vb:Value} {a b:QV} {L:Nat} (up:Up S w) (ha:eQ.R S w va a) (hb:eQ.R S w vb b) (hla:qok L a) (hlb:qok L b) (hL:1≤L) (hL2:L≤100000000000) :
  CR Tryz.prog 87 #[va,vb] w (eQ.at S (qc (qval a-qval b))):=Aj3 up up ha hb hla hlb hL hL2
end Go.Proofs.YtfilidfomgfnhaaGreat

namespace Go.Proofs.YtfilidfomgfnhaaGreat
open Go Go.Kx Go.RowKit
theorem C1:Ent Tryz.prog 65:=A0 Tryz.func65 (by kernel_rfl) rfl
theorem C0 {S:Nat→Prop} {w:World} {n:Int} (up:Up S w) (h1 : -9223372036854775808≤n) (h2:n≤9223372036854775807):CR Tryz.prog 65 #[.int .i64 n] w (eQ.at S (qc (n:Rat))):=by
 refine enter Tryz.func65 rfl Tryz.ntmps65 rfl ?_
 refine .seq (.region (.alloc rfl B7 fun w1 b1 n1=>.nil ?_))
 obtain ⟨e1,k1,hb1,hs1⟩:=n1
 have hS:¬ Sx S w.heap.size w1.heap.size b1:=Sx.no (by omega) (by omega)
 have up1:Up (Sx S w.heap.size w1.heap.size) w1:=Sx.up up (Nat.le_refl _) e1.size
 refine .seq (.region (.mv rfl rfl ?_))
 refine .call _ rfl C4 rfl (C3 up1 h1 h2) fun v2 w2 e2 h2=>?_
 obtain ⟨s,rfl,hs⟩:=h2
 refine .bld _ rfl rfl Ax8 ?_
 have hq:eQ.R (Sx S w.heap.size w1.heap.size) w2 (.agg #[.bool (zc n).neg,s,.bool false,.slice none 0 0]) (qc (n:Rat)):=by
  rw [qc_int]
  exact ⟨s,_,rfl,hs,RL.nil⟩
 refine .storeA (E:=eQ) ty_Q rfl rfl (k1.ext e2) rfl rfl hq hS fun w3 k3 u3 h3=>.nil (.ret ?_)
 exact .cell Tryz.results65 rfl ty_Q rfl rfl k3 h3 ⟨u3.below (e1.trans e2) (by omega),h3.out⟩
theorem H9:Ent Tryz.prog 120:=A0 Tryz.func120 (by kernel_rfl) rfl
theorem N9 {S T0:Nat→Prop} {w:World} {va:Value} {a:QV} {L:Nat} (up:Up S w) (upo:Up T0 w) (ha:eQ.R S w va a) (hla:qok L a) (hL:1≤L) (hL2:L≤1000000000000):CR Tryz.prog 120 #[va] w (eQ.at T0 (qc (qval a))):=by
 have hva:=shpA rfl ha
 have hpa:=K3 a
 refine enter Tryz.func120 rfl Tryz.ntmps120 rfl ?_
 refine .seq (.region (.box rfl rfl fun w1 b1 n1=>.alloc rfl B7 fun w2 b2 n2=>.nil ?_))
 obtain ⟨e1,k1,hb1,hs1⟩:=n1
 obtain ⟨e2,k2,hb2,hs2⟩:=n2
 have x2:=e1.trans e2
 have k1:=k1.ext e2
 have hS:¬ Sx T0 w.heap.size w2.heap.size b2:=Sx.no (by omega) (by omega)
 have upo2:Up (Sx T0 w.heap.size w2.heap.size) w2:=Sx.up upo (Nat.le_refl _) x2.size
 have up2:Up (Sx S w.heap.size w2.heap.size) w2:=Sx.up up (Nat.le_refl _) x2.size
 have ha2:=(ha.par w2.heap.size).ext x2
 have hout:∀ {W:World} {v:Value} {z:QV},eQ.R (Sx T0 w.heap.size w2.heap.size) W v z→eQ.R T0 W v z:=fun h=>h.out
 generalize hT:Sx S w.heap.size w2.heap.size=T at *
 generalize hU:Sx T0 w.heap.size w2.heap.size=U at *
 refine .seq (.seq (.region (.ldA ty_Q rfl rfl k1 (eQ.csz ha) ?_)))
 rw [←hva]
 refine .call _ rfl C9 rfl (C8 ha2) fun v3 w3 e3 h3=>?_
 subst h3
 unfold shortV
 cases hsa:shortB a with
 | true =>
  have ba:=P4 hsa
  refine .mv rfl rfl (.ext rfl rfl rfl (.ext rfl rfl rfl (.ext rfl rfl rfl (.asg rfl rfl (.asg rfl rfl (.asg rfl rfl (.nil ?_)))))))
  refine .seq (.region (.mv rfl rfl (.nil (.condT rfl (.seq (.region (.mv rfl rfl (.mv rfl rfl ?_))))))))
  refine .call _ rfl K1 rfl (J8 (upo2.ext e3.size) hpa (by omega) (by omega) (by omega)) fun v4 w4 e4 h4=>?_
  refine .storeA (E:=eQ) ty_Q rfl rfl ((k2.ext e3).ext e4) rfl rfl h4 hS fun w5 k5 u5 h5=>.nil (.ret ?_)
  exact .cell Tryz.results120 rfl ty_Q rfl rfl k5 h5 ⟨u5.below ((x2.trans e3).trans e4) (by omega),hout h5⟩
 | false =>
  refine .mv rfl rfl (.ext rfl rfl rfl (.ext rfl rfl rfl (.ext rfl rfl rfl (.asg rfl rfl (.asg rfl rfl (.asg rfl rfl (.nil ?_)))))))
  refine .seq (.region (.mv rfl rfl (.nil (.condF rfl (.skip ?_)))))
  refine .seq (.region (.ldA ty_Q rfl rfl (k1.ext e3) (eQ.csz ha) ?_))
  rw [←hva]
  refine .call _ rfl N4 rfl (N0 (up2.ext e3.size) (ha2.ext e3) hla hL hL2) fun v4 w4 e4 h4=>?_
  obtain ⟨u1,u2,rfl,h1,h2⟩:=h4
  refine .ext rfl rfl rfl (.ext rfl rfl rfl ?_)
  refine .call _ rfl U5 rfl (T9 ((up2.ext e3.size).ext e4.size) ((upo2.ext e3.size).ext e4.size) h1 h2 (by omega) hL2) fun v5 w5 e5 h5=>?_
  refine .storeA (E:=eQ) ty_Q rfl rfl (((k2.ext e3).ext e4).ext e5) rfl rfl h5 hS fun w6 k6 u6 h6=>.nil (.ret ?_)
  exact .cell Tryz.results120 rfl ty_Q rfl rfl k6 h6 ⟨u6.below (((x2.trans e3).trans e4).trans e5) (by omega),hout h6⟩
theorem O0 {S:Nat→Prop} {w:World} {va:Value} {a:QV} {L:Nat} (up:Up S w) (ha:eQ.R S w va a) (hla:qok L a) (hL:1≤L) (hL2:L≤1000000000000):CR Tryz.prog 120 #[va] w (eQ.at S (qc (qval a))):=N9 up up ha hla hL hL2
theorem P1:Ent Tryz.prog 69:=A0 Tryz.func69 (by kernel_rfl) rfl
theorem O7 {S:Nat→Prop} {w:World} {va:Value} {a:QV} (ha:eQ.R S w va a):CR Tryz.prog 69 #[va] w (Is (.int .i64 (sgnR (qval a)))):=by
 rw [Ao4]
 obtain ⟨s,t,rfl,hn,hd⟩:=AB3 ha
 refine enter Tryz.func69 rfl Tryz.ntmps69 rfl ?_
 refine .seq (.region (.box rfl rfl fun w1 b1 n1=>.asg rfl rfl (.nil ?_)))
 obtain ⟨e1,k1,hb1,hs1⟩:=n1
 refine .seq (.seq (.region (.fa AB1 rfl rfl (.ldN [.bool a.den.neg,t] ty_Z rfl rfl k1 (by intro j u hu;match j with | 0=>exact hu | 1=>exact hu | j+2=>simp at hu) ?_))))
 refine .call _ rfl F1 rfl (E9 (hd.ext e1)) fun v2 w2 e2 h2=>?_
 subst h2
 have x2:=e1.trans e2
 by_cases h0:zval a.den<0
 ·refine .lssT rfl rfl rfl (by rw [Int.sign_eq_neg_one_of_neg h0];decide) (.nil (.condT rfl (.seq (.region ?_))))
  refine .fa Y7 rfl rfl (.ldN [.bool a.num.neg,s] ty_Z rfl rfl (k1.ext e2) (by intro j u hu;match j with | 0=>exact hu | 1=>exact hu | j+2=>simp at hu) ?_)
  refine .call _ rfl F1 rfl (E9 (hn.ext x2)) fun v3 w3 e3 h3=>?_
  subst h3
  refine .neg rfl rfl (.asg rfl rfl (.nil (.ret ?_)))
  have hp:pn a = -zval a.num:=by unfold pn;rw [if_pos h0]
  refine .plain [_] Tryz.results69 ⟨rfl,trivial⟩ ⟨x2.trans e3,isI ?_⟩
  rw [hp,Int.sign_neg]
  have : -1≤(zval a.num).sign∧(zval a.num).sign≤1:=by
   rcases Int.lt_trichotomy (zval a.num) 0 with h | h | h
   ·rw [Int.sign_eq_neg_one_of_neg h];decide
   ·rw [h];decide
   ·rw [Int.sign_eq_one_of_pos h];decide
  rw [wI (by omega),Int.zero_sub]
 ·have hs:¬ (zval a.den).sign<0:=fun h=>h0 (Int.sign_neg_iff.1 h)
  refine .lssF rfl rfl rfl hs (.nil (.condF rfl (.skip (.seq (.region ?_)))))
  refine .fa Y7 rfl rfl (.ldN [.bool a.num.neg,s] ty_Z rfl rfl (k1.ext e2) (by intro j u hu;match j with | 0=>exact hu | 1=>exact hu | j+2=>simp at hu) ?_)
  refine .call _ rfl F1 rfl (E9 (hn.ext x2)) fun v3 w3 e3 h3=>?_
  subst h3
  refine .asg rfl rfl (.nil (.ret ?_))
  have hp:pn a=zval a.num:=by unfold pn;rw [if_neg h0]
  exact .plain [_] Tryz.results69 ⟨rfl,trivial⟩ ⟨x2.trans e3,isI (by rw [hp])⟩
theorem AL9:Ent Tryz.prog 133:=A0 Tryz.func133 (by kernel_rfl) rfl
theorem AL6 {w:World} {n:Int}:CR Tryz.prog 133 #[.int .i64 n] w (Is (.int .i64 n.sign)):=by
 refine enter Tryz.func133 rfl Tryz.ntmps133 rfl ?_
 refine .seq (.region (.asg rfl rfl (.nil (.seq (.block (.seq (.region (.mv rfl rfl ?_))))))))
 by_cases h:n<0
 ·refine .lssT rfl rfl rfl h (.asg rfl rfl (.nil (.condT rfl (.seq (.region (.asg rfl rfl (.nil (.ret ?_))))))))
  exact .plain [_] Tryz.results133 ⟨rfl,trivial⟩ ⟨.refl _,isI (by rw [Int.sign_eq_neg_one_of_neg h])⟩
 refine .lssF rfl rfl rfl h (.asg rfl rfl (.nil (.condF rfl (.seq (.region (.mv rfl rfl ?_))))))
 by_cases h':0<n
 ·refine .gtrT rfl rfl rfl h' (.asg rfl rfl (.nil (.condT rfl (.seq (.region (.asg rfl rfl (.nil (.ret ?_))))))))
  exact .plain [_] Tryz.results133 ⟨rfl,trivial⟩ ⟨.refl _,isI (by rw [Int.sign_eq_one_of_pos h'])⟩
 refine .gtrF rfl rfl rfl h' (.asg rfl rfl (.nil (.condF rfl (.skip (.seq (.region (.asg rfl rfl (.nil (.ret ?_)))))))))
 exact .plain [_] Tryz.results133 ⟨rfl,trivial⟩ ⟨.refl _,isI (by rw [show n=0 by omega];rfl)⟩
theorem Z0:Ent Tryz.prog 66:=A0 Tryz.func66 (by kernel_rfl) rfl
theorem Y6 {S:Nat→Prop} {w:World} {va vb:Value} {a b:QV} {L:Nat} (up:Up S w) (ha:eQ.R S w va a) (hb:eQ.R S w vb b) (hla:qok L a) (hlb:qok L b) (hL:1≤L) (hL2:L≤100000000000) :
  CR Tryz.prog 66 #[va,vb] w (Is (.int .i64 (cmpR (qval a) (qval b)))):=by
 rw [Aq5]
 have hva:=shpA rfl ha
 have hvb:=shpA rfl hb
 have hpa:=K3 a
 have hpb:=K3 b
 refine enter Tryz.func66 rfl Tryz.ntmps66 rfl ?_
 refine .seq (.region (.box rfl rfl fun w1 b4 n1=>.box rfl rfl fun w2 b5 n2=>.asg rfl rfl (.nil ?_)))
 obtain ⟨e1,k4,hb4,hs1⟩:=n1
 obtain ⟨e2,k5,hb5,hs2⟩:=n2
 have x3:=e1.trans e2
 have k4:=k4.ext e2
 have hS5:¬ Sx S w.heap.size w2.heap.size b5:=Sx.no (by omega) (by omega)
 have up3:Up (Sx S w.heap.size w2.heap.size) w2:=Sx.up up (Nat.le_refl _) x3.size
 have ha3:=(ha.par w2.heap.size).ext x3
 have hb3:=(hb.par w2.heap.size).ext x3
 have hc5:b5<w2.heap.size:=by omega
 generalize hT:Sx S w.heap.size w2.heap.size=T at *
 refine .seq (.region (.ldA ty_Q rfl rfl k4 (eQ.csz ha) ?_))
 rw [←hva]
 refine .call _ rfl N4 rfl (N0 up3 ha3 hla hL (by omega)) fun v4 w4 e4 h4=>?_
 obtain ⟨u1,u2,rfl,h1,h2⟩:=h4
 replace h1:(eZn L).R T w4 u1 (pn a):=h1
 replace h2:(eZn L).R T w4 u2 (pd a):=h2
 refine .mv rfl rfl (.ext rfl rfl rfl (.ext rfl rfl rfl (.alloc rfl D3 fun w5 b7 n5=>.alloc rfl D3 fun w6 b8 n6=>?_)))
 obtain ⟨e5,k7,hb7,hs5⟩:=n5
 obtain ⟨e6,k8,hb8,hs6⟩:=n6
 have e56:=e5.trans e6
 have k7:=k7.ext e6
 have hs4:=e4.size
 have hS7:¬ Sx T w4.heap.size w6.heap.size b7:=Sx.no (by omega) (by omega)
 have hS8:¬ Sx T w4.heap.size w6.heap.size b8:=Sx.no (by omega) (by omega)
 have h16:=(h1.par w6.heap.size).ext e56
 have h26:=(h2.par w6.heap.size).ext e56
 have hb6':=((hb3.ext e4).par w6.heap.size).ext e56
 have up6:Up (Sx T w4.heap.size w6.heap.size) w6:=Sx.up (up3.ext e4.size) (Nat.le_refl _) e56.size
 have hn78:b8≠b7:=by omega
 have hw7:w.heap.size≤b7:=by have:=x3.size;omega
 have hw8:w.heap.size≤b8:=by have:=x3.size;omega
 have hn57:b5≠b7:=by omega
 have hn58:b5≠b8:=by omega
 have hc7:b7<w6.heap.size:=by omega
 have hc8:b8<w6.heap.size:=by omega
 generalize hT2:Sx T w4.heap.size w6.heap.size=T2 at *
 refine .storeA (E:=eZn L) ty_Z rfl rfl k7 rfl rfl h16 hS7 fun w7 k7 u7 h17=>?_
 refine .storeA (E:=eZn L) ty_Z rfl rfl (k8.upd u7 hn78) rfl rfl (h26.upd u7 hS7) hS8 fun w8 k8 u8 h28=>.nil ?_
 have h18:=h17.upd u8 hS8
 have k7:=k7.upd u8 (Ne.symm hn78)
 have x6:=(x3.trans e4).trans e56
 have x8:Ext w w8:=u8.below (u7.below x6 hw7) hw8
 have k5:=(((k5.ext e4).ext e56).upd u7 hn57).upd u8 hn58
 have hb8':=(hb6'.upd u7 hS7).upd u8 hS8
 have up8:Up T2 w8:=up6.ext (by rw [u8.size,u7.size];exact Nat.le_refl _)
 have hs8:w8.heap.size=w6.heap.size:=by rw [u8.size,u7.size]
 refine .seq (.region (.ldA ty_Q rfl rfl k5 (eQ.csz hb) ?_))
 rw [←hvb]
 refine .call _ rfl N4 rfl (N0 up8 hb8' hlb hL (by omega)) fun v9 w9 e9 h9=>?_
 obtain ⟨u3,u4,rfl,h3,h4⟩:=h9
 replace h3:(eZn L).R T2 w9 u3 (pn b):=h3
 replace h4:(eZn L).R T2 w9 u4 (pd b):=h4
 refine .mv rfl rfl (.ext rfl rfl rfl (.ext rfl rfl rfl (.alloc rfl D3 fun w10 b9 n10=>.alloc rfl D3 fun w11 b10 n11=>?_)))
 obtain ⟨e10,k9,hb9,hs10⟩:=n10
 obtain ⟨e11,k10,hb10,hs11⟩:=n11
 have e1011:=e10.trans e11
 have k9:=k9.ext e11
 have hs9:=e9.size
 have hS9:¬ Sx T2 w9.heap.size w11.heap.size b9:=Sx.no (by omega) (by omega)
 have hS10:¬ Sx T2 w9.heap.size w11.heap.size b10:=Sx.no (by omega) (by omega)
 have h1':=((h18.ext e9).par w11.heap.size).ext e1011
 have h2':=((h28.ext e9).par w11.heap.size).ext e1011
 have h3':=(h3.par w11.heap.size).ext e1011
 have h4':=(h4.par w11.heap.size).ext e1011
 have up11:Up (Sx T2 w9.heap.size w11.heap.size) w11:=Sx.up (up8.ext e9.size) (Nat.le_refl _) e1011.size
 have hn910:b10≠b9:=by omega
 have hw9:w.heap.size≤b9:=by have:=x8.size;omega
 have hw10:w.heap.size≤b10:=by have:=x8.size;omega
 have n79:b7≠b9:=by omega
 have n710:b7≠b10:=by omega
 have n89:b8≠b9:=by omega
 have n810:b8≠b10:=by omega
 generalize hT3:Sx T2 w9.heap.size w11.heap.size=T3 at *
 refine .storeA (E:=eZn L) ty_Z rfl rfl k9 rfl rfl h3' hS9 fun w12 k9 u12 h312=>?_
 refine .storeA (E:=eZn L) ty_Z rfl rfl (k10.upd u12 hn910) rfl rfl (h4'.upd u12 hS9) hS10 fun w13 k10 u13 h413=>.nil ?_
 have h313:=h312.upd u13 hS10
 have k9:=k9.upd u13 (Ne.symm hn910)
 have x11:=(x8.trans e9).trans e1011
 have x13:Ext w w13:=u13.below (u12.below x11 hw9) hw10
 have h113:=(h1'.upd u12 hS9).upd u13 hS10
 have h213:=(h2'.upd u12 hS9).upd u13 hS10
 have k7:=(((k7.ext e9).ext e1011).upd u12 n79).upd u13 n710
 have k8:=(((k8.ext e9).ext e1011).upd u12 n89).upd u13 n810
 have up13:Up T3 w13:=up11.ext (by rw [u13.size,u12.size];exact Nat.le_refl _)
 have hv1:=shpA (E:=eZn L) rfl h113
 have hv2:=shpA (E:=eZn L) rfl h213
 have hv3:=shpA (E:=eZn L) rfl h313
 have hv4:=shpA (E:=eZn L) rfl h413
 have l1:=Zv.lt h113
 have l2:=Zv.lt h213
 have l3:=Zv.lt h313
 have l4:=Zv.lt h413
 obtain ⟨z1,h1,hz1,hl1⟩:=h113
 obtain ⟨z2,h2,hz2,hl2⟩:=h213
 obtain ⟨z3,h3,hz3,hl3⟩:=h313
 obtain ⟨z4,h4,hz4,hl4⟩:=h413
 have sa:(pn a*pd b).sign=(pn a).sign:=AG1 hpb
 have sb:(pn b*pd a).sign=(pn b).sign:=AG1 hpa
 have bs:∀ n:Int,-1≤n.sign∧n.sign≤1:=by
  intro n
  rcases Int.lt_trichotomy n 0 with h | h | h
  ·rw [Int.sign_eq_neg_one_of_neg h];decide
  ·rw [h];decide
  ·rw [Int.sign_eq_one_of_pos h];decide
 have b1:=bs (pn a)
 have b2:=bs (pn b)
 refine .mid (α:=Unit) (fun _=>[(5,.pointer (some ⟨b7,0,none⟩)),(6,.pointer (some ⟨b8,0,none⟩)),(7,.pointer (some ⟨b9,0,none⟩)),(8,.pointer (some ⟨b10,0,none⟩))]) (fun _ W=>Ext w13 W) ?_ ?_
 ·refine .seq ?_
  refine .par follows 3 [.inl u1,.inl (.int .i64 (pn a).sign),.inl u3] [[],[(21,0)],[]] (by kernel_rfl) ⟨
   fun w e=>((B8 ty_Z rfl (k7.ext e) (eZ.csz h1)).eq hv1.symm).ob,
   fun w e=>(A2 _ F1 rfl (by have:=E9 (h1.ext e);rw [hz1] at this;exact this)).obIs,
   fun w e=>((B8 ty_Z rfl (k9.ext e) (eZ.csz h3)).eq hv3.symm).ob,trivial⟩ ?_
  intro w14 e14
  refine .call _ rfl F1 rfl (E9 (h3.ext e14)) fun v15 w15 e15 h15=>?_
  subst h15
  rw [hz3]
  refine .asg rfl rfl (.asg rfl rfl (.nil ?_))
  have e1315:=e14.trans e15
  refine .seq (.region (.mv rfl rfl (.mv rfl rfl ?_)))
  have hend:∀ {σ:Env},(pn a).sign≠(pn b).sign∨(pn a).sign=0→Kx.look σ 9=some (.int .i64 (pn a).sign)→Kx.look σ 10=some (.int .i64 (pn b).sign)→True:=fun _ _ _=>trivial
  by_cases hne:(pn a).sign=(pn b).sign
  ·refine .neqF rfl rfl rfl hne (.mv rfl rfl (.gr rfl rfl rfl rfl (.mv rfl rfl (.gr rfl rfl rfl rfl ?_))))
   by_cases h0:(pn a).sign=0
   ·refine .eqlT rfl rfl rfl h0 (.pick rfl rfl rfl (.nil (.condT rfl (.seq (.region (.mv rfl rfl (.mv rfl rfl (.sub rfl rfl rfl ?_))))))))
    rw [wI (by omega)]
    refine .call _ rfl AL9 rfl AL6 fun v16 w16 e16 h16=>?_
    subst h16
    refine .asg rfl rfl (.nil (.ret ?_))
    exact .plain [_] Tryz.results66 ⟨rfl,trivial⟩ ⟨(x13.trans e1315).trans e16,isI (by rw [AD6 (by rw [sa,sb];exact .inr h0),sa,sb])⟩
   ·refine .eqlF rfl rfl rfl h0 (.pick rfl rfl rfl (.nil (.condF rfl (.skip ?_))))
    exact ⟨rfl,(),lkA rfl,e1315⟩
  ·refine .neqT rfl rfl rfl hne (.mv rfl rfl (.gs rfl rfl rfl rfl rfl (.gs rfl rfl rfl rfl rfl (.pick rfl rfl rfl (.nil (.condT rfl (.seq (.region (.mv rfl rfl (.mv rfl rfl (.sub rfl rfl rfl ?_)))))))))))
   rw [wI (by omega)]
   refine .call _ rfl AL9 rfl AL6 fun v16 w16 e16 h16=>?_
   subst h16
   refine .asg rfl rfl (.nil (.ret ?_))
   exact .plain [_] Tryz.results66 ⟨rfl,trivial⟩ ⟨(x13.trans e1315).trans e16,isI (by rw [AD6 (by rw [sa,sb];exact .inl hne),sa,sb])⟩
 ·intro _ W hW
  have k7:=k7.ext hW
  have k8:=k8.ext hW
  have k9:=k9.ext hW
  have k10:=k10.ext hW
  have h1W:=h1.ext hW
  have h2W:=h2.ext hW
  have h3W:=h3.ext hW
  have h4W:=h4.ext hW
  have upW:=up13.ext hW.size
  refine .seq ?_
  refine .par follows 5 [.inl u1,.inl u4,.inr (eZ.at T3 (zc (pn a*pd b))),.inl u3,.inl u2] [[],[],[(36,0),(37,1)],[],[]] (by kernel_rfl) ⟨
   fun w e=>((B8 ty_Z rfl (k7.ext e) (eZ.csz h1)).eq hv1.symm).ob,
   fun w e=>((B8 ty_Z rfl (k10.ext e) (eZ.csz h4)).eq hv4.symm).ob,
   fun w e=>(A2 _ D9 rfl (by have:=D8 (upW.ext e.size) (h1W.ext e) (h4W.ext e) (by omega) (by omega);rw [hz1,hz4] at this;exact this)).ob (A6 _ _ _),
   fun w e=>((B8 ty_Z rfl (k9.ext e) (eZ.csz h3)).eq hv3.symm).ob,
   fun w e=>((B8 ty_Z rfl (k8.ext e) (eZ.csz h2)).eq hv2.symm).ob,trivial⟩ ?_
  intro w14 e14 x2 hx2
  refine .call _ rfl D9 rfl (D8 (upW.ext e14.size) (h3W.ext e14) (h2W.ext e14) (by omega) (by omega)) fun v15 w15 e15 h15=>?_
  refine .call _ rfl Ag4 rfl (Ac4 (hx2.ext e15) h15) fun v16 w16 e16 h16=>?_
  subst h16
  refine .asg rfl rfl (.nil (.ret ?_))
  exact .plain [_] Tryz.results66 ⟨rfl,trivial⟩ ⟨(((x13.trans hW).trans e14).trans e15).trans e16,isI (by rw [H1,H1,hz2,hz3])⟩
theorem Ab7:Ent Tryz.prog 50:=A0 Tryz.func50 (by kernel_rfl) rfl
theorem AZ7 {S:Nat→Prop} {w:World} {va vb:Value} {a b:QV} {L:Nat} (up:Up S w) (ha:eQ.R S w va a) (hb:eQ.R S w vb b) (hla:qok L a) (hlb:qok L b) (hL:1≤L) (hL2:L≤100000000000) :
  CR Tryz.prog 50 #[va,vb] w (Is (.bool (decide (qval a=qval b)))):=by
 have hva:=shpA rfl ha
 have hvb:=shpA rfl hb
 refine enter Tryz.func50 rfl Tryz.ntmps50 rfl ?_
 refine .seq (.region (.box rfl rfl fun w1 b4 n1=>.box rfl rfl fun w2 b5 n2=>.asg rfl rfl (.nil ?_)))
 obtain ⟨e1,k4,hb4,hs1⟩:=n1
 obtain ⟨e2,k5,hb5,hs2⟩:=n2
 have x2:=e1.trans e2
 refine .seq (.region (.ldA ty_Q rfl rfl (k4.ext e2) (eQ.csz ha) (.ldA ty_Q rfl rfl k5 (eQ.csz hb) ?_)))
 rw [←hva,←hvb]
 refine .call _ rfl Z0 rfl (Y6 (up.ext x2.size) (ha.ext x2) (hb.ext x2) hla hlb hL hL2) fun v3 w3 e3 h3=>?_
 subst h3
 refine .eql rfl rfl rfl (.asg rfl rfl (.nil (.ret ?_)))
 refine .plain [_] Tryz.results50 ⟨rfl,trivial⟩ ⟨x2.trans e3,isB ?_⟩
 by_cases h:qval a=qval b
 ·rw [N3.2 h];simp [h]
 ·have:cmpR (qval a) (qval b)≠0:=fun h'=>h (N3.1 h')
  simp [h,this]
end Go.Proofs.YtfilidfomgfnhaaGreat

namespace Go.Kx
open Go Go.RowKit
/-- where an append leaves its row -/
theorem Aa8 {P:Program} (w:World) (base:Nat) (t ty e:TypeId) (i:TypeInfo) (z:Value) (ht:P.underlying t=some (.slice e)) (hi:P.info? e=some i) (hz:i.zero=some z)
  (hzs:z.cells.size=i.size) (hsz:0<i.size) (v:Value) (n:Nat) (xs:List Value) (hown:w.ownsRow base e i.size v n xs)
  (a:Addr) (m c:Nat) (news:List Value) (hl:news.length=m*i.size) (hnews:∀ j u,news[j]?=some u→w.cell? (a.add j)=some u) (h1:∀ u∈news,u.oneCell'=true)
  (h63:n+m≤maxLen) (hbytes:(n+m)*i.bytes≤140737488355328) (hm:m≠0) (v':Value) (w':World) (hr':(Builtin.append_ #[t,t] ty #[v,.slice (some a) m c]).run P w=.ok v' w') :
  v'.ownBlock=v.ownBlock∨v'.ownBlock=some w.heap.size:=by
 have hsmall:n+m≤9223372036854775807:=by simp only [maxLen] at h63;omega
 rcases hown.2 with ⟨rfl,rfl⟩ | ⟨g,cap,cur,rfl,hbg,hg,hnc,hcm,hcs,htake⟩
 ·have hr:=run_append_nil (P:=P) w t ty e i z ht hi hz a m c news hl hnews (by omega) (by omega) (by have hb:=hbytes;simp only [Nat.zero_add] at hb;omega)
  rw [hr] at hr'
  cases hr'
  exact .inr (by simp [Value.ownBlock])
 ·by_cases hroom:n+m≤cap
  ·have hfit:n*i.size+news.length≤cur.size:=by rw [hl,hcs,←Nat.add_mul];exact Nat.mul_le_mul_right _ hroom
   have hr:=run_append_room (P:=P) w t ty e i ht hi g n cap cur hg a m c news hl hnews h1 hroom hfit
   rw [hr] at hr'
   cases hr'
   exact .inl (by simp [Value.ownBlock])
  ·have holds:∀ j u,xs[j]?=some u→w.cell? ((⟨g,0,none⟩:Addr).add j)=some u:=hown.cells (g:=g) rfl
   have hr:=run_append_grow (P:=P) w t ty e i z ht hi hz ⟨g,0,none⟩ n cap xs hown.1 holds a m c news hl hnews (by omega) (by omega) (growslice_fits (by omega) hbytes)
   rw [hr] at hr'
   cases hr'
   exact .inr (by simp [Value.ownBlock])
/-- the elements l lie in a row of the call's own; their own memory is X's, and not the row -/
def OwnL {α:Type} (E:ER α) (t:TypeId) (base:Nat) (X:Nat→Prop) (w:World) (v:Value) (l:List α):Prop :=
 ∃ es,w.ownsRow base t E.sz v l.length (cellsOf es)∧Els E (fun k=>X k∧v.ownBlock≠some k) w es l
section
variable {α:Type} {E:ER α} {t:TypeId} {base:Nat} {X:Nat→Prop} {w w':World} {v:Value} {l:List α}
theorem AQ0 {n:Nat} {xs:List Value} {sz:Nat} (h:w.ownsRow base t sz v n xs) (hk:∀ k cs,base≤k→Blk w k t cs→Blk w' k t cs):w'.ownsRow base t sz v n xs:=by
 refine ⟨h.1,?_⟩
 rcases h.2 with hn | ⟨g,cap,cur,hv,hb,hg,rest⟩
 ·exact .inl hn
 ·exact .inr ⟨g,cap,cur,hv,hb,hk g cur hb hg,rest⟩
theorem OwnL.kp (h:OwnL E t base X w v l) (hk:Kp (fun _=>True) w w'):OwnL E t base X w' v l:=by
 obtain ⟨es,h1,h2⟩:=h
 exact ⟨es,AQ0 h1 fun k cs _ hb=>hk.blk trivial hb,h2.keep fun k c t f _ hc=>hk k c t f trivial hc⟩
theorem OwnL.ext (h:OwnL E t base X w v l) (e:Ext w w'):OwnL E t base X w' v l:=h.kp (Kp.ext e)
theorem OwnL.upd {t':TypeId} {b:Nat} {cs:Array Value} (h:OwnL E t base X w v l) (hu:Upd w w' b) (hb:Blk w b t' cs) (ht:t≠t') (hX:¬ X b):OwnL E t base X w' v l:=by
 obtain ⟨es,h1,h2⟩:=h
 refine ⟨es,AQ0 h1 fun k c _ hk=>hk.upd hu fun e=>?_,h2.keep (Kp.upd hu fun h=>hX h.1)⟩
 subst e
 have e1:w.heap[k]?=some (.cells c t (0,0)):=hk
 have e2:w.heap[k]?=some (.cells cs t' (0,0)):=hb
 rw [e1] at e2;cases e2;exact ht rfl
theorem Au2 {n sz:Nat} {xs:List Value} {t':TypeId} {b:Nat} {cs:Array Value} (h:w.ownsRow base t sz v n xs) (hg:w.grownBy w' v.ownBlock) (hb:Blk w b t' cs) (ht:t≠t'):Blk w' b t' cs:=by
 refine (hg.block b hb.lt fun e=>?_).trans hb
 rcases h.2 with ⟨rfl,_⟩ | ⟨g,cap,cur,rfl,_,hgg,_⟩
 ·simp [Value.ownBlock] at e
 ·have:b=g:=by simpa [Value.ownBlock] using e
  subst this
  have h2:w.heap[b]?=some (.cells cs t' (0,0)):=hb
  rw [hgg] at h2;cases h2;exact ht rfl
theorem OwnL.gblk {t':TypeId} {b:Nat} {cs:Array Value} (h:OwnL E t base X w v l) (hg:w.grownBy w' v.ownBlock) (hb:Blk w b t' cs) (ht:t≠t'):Blk w' b t' cs:=by
 obtain ⟨es,h1,_⟩:=h
 exact Au2 h1 hg hb ht
theorem OwnL.below {w0:World} (h:OwnL E t base X w v l) (hg:w.grownBy w' v.ownBlock) (hb:Below base w0 w) (hB:base≤w.heap.size):Below base w0 w':=by
 obtain ⟨es,h1,_⟩:=h
 exact hb.grown hg hB fun k hk=>(h1.lt k hk).1
theorem OwnL.oth (h:OwnL E t base X w v l) (hg:w.grownBy w' v.ownBlock):Oth w w':=by
 obtain ⟨es,h1,_⟩:=h
 exact Oth.grown hg h1
theorem OwnL.nil:OwnL E t base X w (.slice none 0 0) ([]:List α):=⟨[],⟨by simp,.inl ⟨rfl,rfl⟩⟩,Els.nil⟩
theorem OwnL.made {b c:Nat} {z:Value} (hz:z.cells.size=E.sz) (hn:New w w' b t (cellsOf (List.replicate c z)).toArray) (hb:base≤w.heap.size) (hc:c≤9223372036854775807):OwnL E t base X w' (.slice (some ⟨b,0,none⟩) 0 c) ([]:List α):=by
 obtain ⟨_,hk,hb',_⟩:=hn
 refine ⟨[],⟨by simp [cellsOf],.inr ⟨b,c,_,rfl,by omega,hk,Nat.zero_le _,by simpa [maxLen] using hc,?_,by simp⟩⟩,Els.nil⟩
 rw [List.size_toArray,B9 (sz:=E.sz) _ (fun e he=>by rw [(List.mem_replicate.1 he).2];exact hz)]
 simp
theorem OwnL.toR {S:Nat→Prop} {hsz:0<E.sz} (h:OwnL E t base X w v l) (hS:∀ k,base≤k→S k) (hX:∀ k,X k→S k):(RL E hsz).R S w v l:=by
 obtain ⟨es,h1,h2⟩:=h
 exact RL.ofOwn h1 rfl ⟨h2.1,fun i e x he hx=>E.mono (fun k _ hk=>hX k hk.1) (h2.2 i e x he hx)⟩ hS
theorem OwnL.slice (h:OwnL E t base X w v l):∃ a c,v=.slice a l.length c:=by
 obtain ⟨es,h1,_⟩:=h
 rcases h1.2 with ⟨rfl,h0⟩ | ⟨g,cap,cur,rfl,_⟩
 ·exact ⟨none,0,by rw [h0]⟩
 ·exact ⟨_,_,rfl⟩
end
section
variable {P:Program} {σ:Env} {w:World} {d:Option Tmp} {ty:TypeId} {pos:String} {af:Array Edge} {g:Option (Nat×Bool)} {α:Type} {E:ER α}
/-- append(l, x): the new element lies alone in the block b -/
theorem An5 {tt t:TypeId} {x y:Operand} {z:Value} {by_ base b:Nat} {X:Nat→Prop} {v e:Value} {l:List α} {n:α} (hsz:0<E.sz) (ht:P.underlying tt=some (.slice t)) (hi:infoOf P t=some (z,E.sz,by_)) (hzs:z.cells.size=E.sz) (hx:ev σ x=some v) (hy:ev σ y=some (.slice (some ⟨b,0,none⟩) 1 1))
  (hown:OwnL E t base X w v l) {t':TypeId} (hb:Blk w b t' e.cells) (he:E.R (fun k=>X k∧v.ownBlock≠some k) w e n) (hl:l.length≤1000000000) (hby:by_≤100) (hbase:base≤w.heap.size) :
  Gv P ⟨d,.call { callee:=.builtin .append,args:=#[x,y],argTypes:=#[tt,tt] },ty,pos,af,g⟩ σ w fun v' w'=>OwnL E t base X w' v' (l++[n])∧w.grownBy w' v.ownBlock∧(v'.ownBlock=v.ownBlock∨v'.ownBlock=some w.heap.size):=by
 obtain ⟨es,ho,hels⟩:=hown
 obtain ⟨i,hi0,hi1,hi2,hi3⟩:=P5 hi
 refine ⟨(by intro _ h;cases h),fun ρ hρ=>.inl ?_⟩
 have e1:=hρ x _ (by simp [Op.operands,Call.operands]) hx
 have e2:=hρ y _ (by simp [Op.operands,Call.operands]) hy
 have hcs:=E.csz he
 have hl':e.cells.toList.length=1*E.sz:=by simpa using hcs
 have hnews:∀ j u,e.cells.toList[j]?=some u→w.cell? ((⟨b,0,none⟩:Addr).add j)=some u:=by
  intro j u hu
  rw [I6,Nat.zero_add,hb.cell]
  simpa using hu
 have hone:∀ u∈e.cells.toList,u.oneCell'=true:=fun u hu=>AL3 (E.one he u hu)
 have hbytes:(l.length+1)*by_≤140737488355328:=by
  have:(l.length+1)*by_≤1000000001*100:=Nat.mul_le_mul (by omega) hby
  omega
 obtain ⟨v',w',hr,h2,h3,_⟩:=run_append_own (P:=P) w base tt ty t i z E.sz by_ ht hi0 hi1 hi2 hi3 hzs hsz v l.length (cellsOf es) ho ⟨b,0,none⟩ 1 1 e.cells.toList hl' hnews hone (by simp only [maxLen];omega) hbytes hbase
 have hw:=Aa8 (P:=P) w base tt ty t i z ht hi0 hi1 (by rw [hi2];exact hzs) (by rw [hi2];exact hsz) v l.length (cellsOf es) (by rw [hi2];exact ho) ⟨b,0,none⟩ 1 1 e.cells.toList (by rw [hi2];exact hl') hnews hone (by simp only [maxLen];omega) (by rw [hi3];exact hbytes) (by omega) v' w' hr
 refine ⟨v',w',by simp [execOp,resolve,invoke,builtin,e1,e2,hr],⟨es++[e],?_,?_⟩,h3,hw⟩
 ·have:cellsOf (es++[e])=cellsOf es++e.cells.toList:=by simp [cellsOf]
  rw [this,List.length_append];exact h2
 ·have hkeep:Kp (fun k=>X k∧v.ownBlock≠some k) w w':=fun k c t f hk hc=>(h3.block k (Array.getElem?_eq_some_iff.1 hc).1 (fun e=>hk.2 e.symm)).trans hc
  have hmono:∀ {y:α} {u:Value},E.R (fun k=>X k∧v.ownBlock≠some k) w u y→E.R (fun k=>X k∧v'.ownBlock≠some k) w' u y:=by
   intro y u hu
   have h1:=E.lt hu
   have h2:E.R (fun k=>(X k∧v.ownBlock≠some k)∧k<w.heap.size) w' u y:=E.keep (fun k c t f hk hc=>hkeep k c t f hk.1 hc) h1
   refine E.mono (fun k _ hk=>⟨hk.1.1,?_⟩) h2
   rcases hw with h | h
   ·rw [h];exact hk.1.2
   ·rw [h];intro e;cases e;exact Nat.lt_irrefl _ hk.2
  exact Els.snoc ⟨hels.1,fun i e x he hx=>hmono (hels.2 i e x he hx)⟩ (hmono he)
theorem AQ8 {tt t:TypeId} {x y:Operand} {z:Value} {by_ base b:Nat} {X:Nat→Prop} {v e:Value} {l:List α} {n:α} (hsz:0<E.sz) (ht:P.underlying tt=some (.slice t)) (hi:infoOf P t=some (z,E.sz,by_)) (hzs:z.cells.size=E.sz) (hx:ev σ x=some v) (hy:ev σ y=some (.slice (some ⟨b,0,none⟩) 1 1))
  (hown:OwnL E t base X w v l) {t':TypeId} (hb:Blk w b t' e.cells) (he:E.R (fun k=>X k∧v.ownBlock≠some k) w e n) (hl:l.length≤1000000000) (hby:by_≤100) (hbase:base≤w.heap.size) :
  Gv P ⟨d,.call { callee:=.builtin .append,args:=#[x,y],argTypes:=#[tt,tt] },ty,pos,af,g⟩ σ w fun v' w'=>OwnL E t base X w' v' (l++[n])∧w.grownBy w' v.ownBlock :=
 (An5 hsz ht hi hzs hx hy hown hb he hl hby hbase).mono fun _ _ h=>⟨h.1,h.2.1⟩
end
end Go.Kx

namespace Go.Kx
open Go Go.RowKit
def EsR {α:Type} (E:ER α) (S:Nat→Prop) (w:World) (v:Value) (es:List Value) (l:List α):Prop:=Els E S w es l∧Row S w E.sz v l.length (cellsOf es)
def PtrX (w:World) (p:Addr) (e:Value):Prop:=∀ (j:Nat) (u:Value),e.cells[j]?=some u→w.cell? (p.add j)=some u
section
variable {α:Type} {E:ER α} {S:Nat→Prop} {w w':World} {v:Value} {es:List Value} {l:List α}
theorem RL.toEs {hsz:0<E.sz} (h:(RL E hsz).R S w v l):∃ es,EsR E S w v es l:=h
theorem EsR.toR {hsz:0<E.sz} (h:EsR E S w v es l):(RL E hsz).R S w v l:=⟨es,h⟩
theorem EsR.keep (h:EsR E S w v es l) (hk:Kp S w w'):EsR E S w' v es l:=⟨h.1.keep hk,h.2.keep hk⟩
theorem EsR.ext (h:EsR E S w v es l) (e:Ext w w'):EsR E S w' v es l:=h.keep (Kp.ext e)
theorem EsR.mono {S':Nat→Prop} (hsz:0<E.sz) (h:EsR E S w v es l) (hk:∀ k,k<w.heap.size→S k→S' k):EsR E S' w v es l:=⟨⟨h.1.1,fun i e x he hx=>E.mono hk (h.1.2 i e x he hx)⟩,h.2.mono hsz hk⟩
theorem EsR.get {z:Value} {x:α} (h:EsR E S w v es l) (hz:E.R S w z x) (k:Nat):E.R S w (es.getD k z) (l.getD k x):=by
 rw [List.getD_eq_getElem?_getD,List.getD_eq_getElem?_getD]
 rcases Nat.lt_or_ge k l.length with hk | hk
 ·have hk':k<es.length:=by rw [h.1.1];exact hk
  rw [List.getElem?_eq_getElem hk,List.getElem?_eq_getElem hk']
  exact h.1.2 k _ _ (List.getElem?_eq_getElem hk') (List.getElem?_eq_getElem hk)
 ·rw [List.getElem?_eq_none hk,List.getElem?_eq_none (by rw [h.1.1];exact hk)]
  exact hz
theorem EsR.at_ (h:EsR E S w v es l) {i:Nat} {e:Value} (hi:es[i]?=some e):∃ ad c,v=.slice (some ad) l.length c∧PtrX w (ad.add (i*E.sz)) e:=by
 obtain ⟨h1,a,c,hv,h2,_,h3,h4⟩:=h
 have hlt:i<l.length:=by
  rcases Nat.lt_or_ge i es.length with h | h
  ·rw [←h1.1];exact h
  ·rw [List.getElem?_eq_none h] at hi;cases hi
 obtain ⟨ad,ha,hS,hc⟩:=h4 (by omega)
 subst ha
 refine ⟨ad,c,hv,fun j u hu=>?_⟩
 rw [S6]
 refine (hc _ u ?_).1
 have hj:j<E.sz:=by
  have hs:=h1.sz e (List.mem_iff_getElem?.2 ⟨i,hi⟩)
  rcases Nat.lt_or_ge j e.cells.size with h | h
  ·omega
  ·rw [Array.getElem?_eq_none h] at hu;cases hu
 rw [C7 es i j e h1.sz hi hj];exact hu
end
section
variable {P:Program} {ro:Option Nat} {N:Nat} {ds:List Deferred} {ops:Array Oper} {K:Env→World→Prop} {rest:List Oper} {σ:Env} {w:World} {d:Tmp} {ty:TypeId} {pos:String} {af:Array Edge} {α:Type} {E:ER α} {S:Nat→Prop} {v:Value} {es:List Value} {l:List α}
theorem g_ixX {dd:Option Tmp} {gd:Option (Nat×Bool)} {t e:TypeId} {x ix:Operand} {k:IntKind} {i:Nat} {b:Bool} {y:Value} (ht:P.underlying t=some (.slice e)) (he:tyOf P e=some (b,E.sz)) (hx:ev σ x=some v) (h:EsR E S w v es l)
  (hi:ev σ ix=some (.int k (i:Int))) (hy:es[i]?=some y) :
  Gv P ⟨dd,.indexAddr t x ix,ty,pos,af,gd⟩ σ w fun v' w'=>w'=w∧∃ p,v'=.pointer (some p)∧PtrX w p y:=by
 refine ⟨(by intro _ h;cases h),fun ρ hρ=>.inl ?_⟩
 obtain ⟨ad,c,hv,hp⟩:=h.at_ hy
 have h1:=hρ x _ (by simp [Op.operands]) hx
 have h2:=hρ ix _ (by simp [Op.operands]) hi
 have hlt:i<l.length:=by
  rcases Nat.lt_or_ge i es.length with h' | h'
  ·rw [←h.1.1];exact h'
  ·rw [List.getElem?_eq_none h'] at hy;cases hy
 refine ⟨_,w,?_,rfl,_,rfl,hp⟩
 simp [execOp,h1,h2,hv,Instr.indexAt,asIntOf,run_underlying ht,(H3 he w).2]
 intro hh;omega
theorem WL.ixX {t e:TypeId} {x ix:Operand} {k:IntKind} {i:Nat} {b:Bool} {y:Value} (ht:P.underlying t=some (.slice e)) (he:tyOf P e=some (b,E.sz)) (hd:Nat.blt d N=true) (hx:ev σ x=some v) (h:EsR E S w v es l)
  (hi:ev σ ix=some (.int k (i:Int))) (hy:es[i]?=some y) (kk:∀ p,PtrX w p y→WL P ro N ds ops K rest ((d,.pointer (some p))::σ) w) :
  WL P ro N ds ops K (⟨some d,.indexAddr t x ix,ty,pos,af,none⟩::rest) σ w :=
 WL.gv rfl hd (g_ixX ht he hx h hi hy) fun v' w' ⟨e1,p,e2,hp⟩=>by subst e1;subst e2;exact kk p hp
theorem AP0 {dd:Option Tmp} {gd:Option (Nat×Bool)} {t:TypeId} {x:Operand} {p:Addr} {y:Value} {n:α} (ht:tyOf P t=some (E.isA,E.sz)) (hx:ev σ x=some (.pointer (some p))) (hp:PtrX w p y) (hy:E.R S w y n) :
  Vl P ⟨dd,.load t x,ty,pos,af,gd⟩ σ w y:=by
 have hs:=E.shp hy
 have hcs:=E.csz hy
 cases hA:E.isA with
 | true =>
  rw [hA] at hs ht
  simp only [cond_true] at hs
  have:=v_ldPN (P:=P) (d:=dd) (ty:=ty) (pos:=pos) (af:=af) (g:=gd) (cs:=y.cells.toList) (by rw [ht];simp [hcs]) hx (fun j u hu=>hp j u (by simpa using hu))
  rw [hs]
  simpa [Value.cells] using this
 | false =>
  rw [hA] at hs ht
  simp only [cond_false] at hs
  have hc1:y.cells=#[y]:=by
   clear hp hy hcs
   cases y<;>first | rfl | (simp [one1] at hs)
  have h0:y.cells[0]?=some y:=by rw [hc1];rfl
  have:=hp 0 y h0
  rw [show p.add 0=p from rfl] at this
  exact v_ldP ht hx this
theorem WL.ldX {t:TypeId} {x:Operand} {p:Addr} {y:Value} {n:α} (ht:tyOf P t=some (E.isA,E.sz)) (hd:Nat.blt d N=true) (hx:ev σ x=some (.pointer (some p))) (hp:PtrX w p y) (hy:E.R S w y n) (k:WL P ro N ds ops K rest ((d,y)::σ) w) :
  WL P ro N ds ops K (⟨some d,.load t x,ty,pos,af,none⟩::rest) σ w:=WL.vl rfl hd (AP0 ht hx hp hy) k
end
/-- the zero of the rationals, as a value -/
abbrev zq:Value:=.agg #[.bool false,.slice none 0 0,.bool false,.slice none 0 0]
theorem zq_R {S:Nat→Prop} {w:World}:eQ.R S w zq q0:=⟨_,_,rfl,RL.nil,RL.nil⟩
abbrev nilV:Value:=.slice none 0 0
theorem Av0 {S:Nat→Prop} {w:World}:eV.R S w nilV []:=RL.nil
end Go.Kx
