/-
  What the claim leans on.
-/
import Derived.Test.YtpgkacdihhjknaaGreatG3
set_option linter.unusedVariables false
set_option linter.unusedSimpArgs false
set_option linter.unnecessarySimpa false
namespace Go.Proofs.YtpgkacdihhjknaaGreat
open Go Go.RowKit Go.ChangeShapes Go.WideShapes Tryz
set_option maxHeartbeats 1600000
variable {cap:Array Value}{m:List (List QV)}{vm:Value}{es:List Value}{α:Type}{B rows cols C col:Nat}{σ:Env}{ty:TypeId}{af:Array Edge}
theorem ty_F2:F6 prog 49=some (false,1):=by kernel_rfl
theorem AD7{x y z u:Value}:Y7 prog 26 1 [(0,.agg #[x,y,z,u])]=some (39,#[x,y,z,u]):=by kernel_rfl
structure CmbJ (w0:World) (S:Nat->Prop) (b5 b7 p1 p2:Nat) (fv va vb:Value) (L:Nat->List QV) (k:Nat) (W:World):Prop where
 low:Below w0.heap.size w0 W
 f:Blk W b5 49 #[fv]
 k1:Blk W p1 26 #[va]
 k2:Blk W p2 26 #[vb]
 acc:∃ v,Blk W b7 26 #[v]/\B4 eQ 39 w0.heap.size (λk=>S k/\k≠b7) W v (L k)
theorem CmbJ.sft{w0:World}{S:Nat->Prop}{b5 b7 p1 p2:Nat}{fv va vb:Value}{L:Nat->List QV}{k D:Nat}{W W':World}(h:CmbJ w0 S b5 b7 p1 p2 fv va vb L k W)(hs:Sft D W W')(hD:w0.heap.size<=D):CmbJ w0 S b5 b7 p1 p2 fv va vb L k W':=by obtain⟨v,h1,h2⟩:=h.acc;exact⟨h.low.trans (hs.below.mono hD),hs.cells.blk trivial h.f,hs.cells.blk trivial h.k1,hs.cells.blk trivial h.k2,v,hs.cells.blk trivial h1,h2.kp hs.cells⟩
theorem BH5:Ent prog 268:=en func268
theorem BF4{S:Nat->Prop}{w:World}{va vb:Value}{a b:List QV}{f:FuncId}{g:Nat->QV}(up:Up S w)(ha:eV.R S w va a)(hb:eV.R S w vb b)(hla:a.length<=1000000000)(hlb:b.length<=1000000000)(hE:Ent prog f)(hf:∀ (W:World) (T:Nat->Prop) (i:Nat) (x y:Value),Below w.heap.size w W->(∀ k,S k->k<w.heap.size->T k)->Up T W->i<max a.length b.length->eQ.R T W x (a.getD i q0)->eQ.R T W y (b.getD i q0)->CR prog f ([x,y].toArray++cap) W (eQ.at T (g i))) :
  CR prog 268 #[va,vb,.func (.func f) #[] cap] w (eV.at S ((List.range (max a.length b.length)).map g)):=by
 obtain⟨aa,ca,hva,_⟩:=RL.len ha;obtain⟨ab,cb,hvb,_⟩:=RL.len hb;obtain⟨esa,hA⟩:=RL.toEs ha;obtain⟨esb,hB⟩:=RL.toEs hb;have hA0:=hA.mono (S':=λk=>S k/\k<w.heap.size) (by decide) (λk hk hs=>⟨hs,hk⟩);have hB0:=hB.mono (S':=λk=>S k/\k<w.heap.size) (by decide) (λk hk hs=>⟨hs,hk⟩);have hAB:∀ {W:World},Below w.heap.size w W->EsR eQ (λk=>S k/\k<w.heap.size) W va esa a/\EsR eQ (λk=>S k/\k<w.heap.size) W vb esb b:=λhL=>⟨hA0.keep (λk c t f hk h=>(hL.block k hk.2).trans h),hB0.keep (λk c t f hk h=>(hL.block k hk.2).trans h)⟩;generalize hfv:Value.func (.func f) #[] cap=fv;have hfv1:fv.cells=#[fv]:=by rw[<-hfv];rfl
 have hfv2:H3 fv=true:=by rw[<-hfv];rfl
 refine enter func268 O ntmps268 O ?_;refine .sr (.box O O λw1 b5 n1=>.an O O ?_);obtain⟨e1,k5,hb5,hs1⟩:=n1;rw[hfv1] at k5;refine .sr (.mv O O (.lenR C9 O O (ha.ext e1) (.mv O O (.lenR C9 O O (hb.ext e1) (.max_ O O O ?_)))));rw[show (max (a.length:Int) (b.length:Int))=((max a.length b.length:Nat):Int) by omega];refine .make_ 0 _ C9 J4 O (by decide) O O O (aC _) (by omega) (by omega) λw2 b2 n2=>?_;have o2:∀ {X:Nat->Prop},B4 eQ 39 w.heap.size X w2 (.slice (some ⟨b2,0,none⟩) 0 (max a.length b.length)) []:=λ{X}=>B4.made (by rfl) n2 (by omega) (by omega);obtain⟨e2,k2,hb2,hs2⟩:=n2;refine .alloc O BL7 λw3 b7 n3=>?_;obtain⟨e3,k7,hb7,hs3⟩:=n3;refine .store C2 O O k7 O (by simp[Value.cells]) (by simp[H3,Value.cells]) λw4 k7' u4=>.nil ?_;have x3:=(e1.trans e2).trans e3;have x4:Ext w w4:=u4.below x3 (by omega);have k5:=((k5.ext e2).ext e3).upd u4 (show b5≠b7 by omega);have o4:=((o2 (X:=λk=>S k/\k≠b7)).ext e3).upd u4 k7 (by decide) (λh=>h.2 O);refine .seq (.sr (.mv O O (.mv O O ?_)));refine .call _ O BY9 O (BT0 hva hvb) λv5 w5 e5 h5=>.nil ?_;obtain⟨p1,p2,rfl,kp1,kp2,hp1,hp2⟩:=h5;have x5:=x4.trans e5;have hs4:w4.heap.size=w3.heap.size:=u4.size;have hs5:=e5.size;refine .block (.rangeA (Bl7 (S:=λk=>S k/\k<w.heap.size) (a:=a) (b:=b) (esa:=esa) (esb:=esb) (va:=va) (vb:=vb) (by omega) (by omega)) O Bq0 (λk=>rfl) (by decide)
  (CmbJ w S b5 b7 p1 p2 fv va vb λk=>(List.range k).map g) (λ_ _=>False) (λk W W' h hs=>h.sft hs x5.size) (λ_ _ _ h _=>h.elim) (λk W h=>⟨h.k1,h.k2,hAB h.low⟩) ?_ ?_ ?_ (λ_ _ h=>h.elim))
 ·exact⟨x5,k5.ext e5,kp1,kp2,_,k7'.ext e5,o4.ext e5⟩
 ·intro l k W hk hJ hsz;obtain⟨hA1,hB1⟩:=hAB hJ.low;have hxa:=hA1.get AF1 k;have hxb:=hB1.get AF1 k;have hva':=G8 O hxa;have hvb':=G8 O hxb;have hlw:=hJ.low.size;obtain⟨hlow,hf5,hp15,hp25,v,h7,ho⟩:=hJ;have hown:∀ k,v.ownBlock=some k->k<W.heap.size:=by obtain⟨es,ho1,ho2⟩:=ho;exact λk hk=>(ho1.lt k hk).2
  refine .sr (.alloc O E8 λW1 c8 n8=>?_);obtain⟨e8,k8,hc8,hs8⟩:=n8;refine .storeA (E:=eQ) A3 O O k8 O O (hxa.ext e8) (λh=>by have:=h.2;omega) λW2 k8 u8 _=>.nil ?_;have x8:Ext W W2:=u8.below e8 (by omega);refine .region (.alloc O E8 λW3 c9 n9=>?_);obtain⟨e9,k9,hc9,hs9⟩:=n9;have hs8':=u8.size;refine .storeA (E:=eQ) A3 O O k9 O O ((hxb.ext x8).ext e9) (λh=>by have:=h.2;omega) λW4 k9 u9 _=>.nil ?_;have x9:Ext W W4:=u9.below (x8.trans e9) (by omega);have k8:=(k8.ext e9).upd u9 (show c8≠c9 by omega);refine⟨rfl,x9,λW5 hsf hsz5=>?_⟩;have k8:=hsf.cells.blk trivial k8;have k9:=hsf.cells.blk trivial k9;clear hxa hxb hA1 hB1;have hlow:Below w.heap.size w W5:=(hlow.trans (x9.mono hlw)).trans (hsf.below.mono x5.size);have hf5:=hsf.cells.blk trivial (hf5.ext x9);have hp15:=hsf.cells.blk trivial (hp15.ext x9);have hp25:=hsf.cells.blk trivial (hp25.ext x9);have h7:=hsf.cells.blk trivial (h7.ext x9);have ho:=(ho.ext x9).kp hsf.cells;obtain⟨hA1,hB1⟩:=hAB hlow;have hxa:=hA1.get AF1 k;have hxb:=hB1.get AF1 k;have hlw5:=hlow.size;have hb7lt:=h7.lt;obtain⟨ao,co,hvo⟩:=ho.slice;refine .block (.held follows true (λW'=>Blk W' b7 26 #[v]/\Blk W' b5 49 #[fv]/\Blk W' c8 39 (esa.getD k zq).cells/\Blk W' c9 39 (esb.getD k zq).cells)
   [some v,some fv,some (esa.getD k zq),some (esb.getD k zq),none,none,none,none] (by kernel_rfl)
   ⟨λ_ h=>E2 C2 O h.1 rfl,λ_ h=>E2 ty_F2 O h.2.1 rfl,λ_ h=>(E1 A3 O h.2.2.1 (eQ.csz hxa)).eq hva'.symm,λ_ h=>(E1 A3 O h.2.2.2 (eQ.csz hxb)).eq hvb'.symm,trivial⟩ ?_)
  intro W6 e6 hh6;have hlow6:Below w.heap.size w W6:=hlow.trans (e6.mono hlow.size);have h7:=h7.ext e6;have hf5:=hf5.ext e6;have hp15:=hp15.ext e6;have hp25:=hp25.ext e6;have k8:=k8.ext e6;have k9:=k9.ext e6;have ho:=ho.ext e6;have hxa:=hxa.ext e6;have hxb:=hxb.ext e6;have hs6:=e6.size;obtain⟨es,ho1,ho2⟩:=id ho;have hT0:∀ k,S k->k<w.heap.size->(S k/\k≠b7)/\v.ownBlock≠some k:=λk hk hlt=>⟨⟨hk,by omega⟩,λh=>by have:=(ho1.lt k h).1;omega⟩;have hcall:=hf W6 (λk=>(S k/\k≠b7)/\v.ownBlock≠some k) k (esa.getD k zq) (esb.getD k zq) hlow6 hT0 (λk hk=>⟨⟨up k (by omega),by omega⟩,λh=>by have:=(ho1.lt k h).2;omega⟩) hk
   (eQ.mono (λk _ hk=>hT0 k hk.1 hk.2) hxa) (eQ.mono (λk _ hk=>hT0 k hk.1 hk.2) hxb)
  subst hfv;refine .gv ⟨h7,hf5,k8,k9⟩ rfl (Ab4 [_,_] O hE O hcall) ?_;rintro vr W7 ⟨e7,hr⟩;have hr':=hr;obtain⟨s,t,rfl,_,_⟩:=hr';refine .gv ⟨h7.ext e7,hf5.ext e7,k8.ext e7,k9.ext e7⟩ rfl (Ad7 _ O AD7) ?_;rintro _ W8 ⟨b8,rfl,n8⟩;obtain⟨e8,kb8,hb8,hs8⟩:=n8;have e78:=e7.trans e8;have hlow8:Below w.heap.size w W8:=hlow6.trans (e78.mono hlow6.size);have ho8:=ho.ext e78;refine .gv ⟨h7.ext e78,hf5.ext e78,k8.ext e78,k9.ext e78⟩ rfl (L5 (base:=w.heap.size) (by decide) C9 J4 O O O ho8 kb8 (hr.ext e8) (by simp;omega) (by decide) hlow8.size) ?_;rintro v9 W9 ⟨ho9,hg9⟩;have h79:=ho8.gblk hg9 (h7.ext e78) (by decide);have hf9:=ho8.gblk hg9 (hf5.ext e78) (by decide);have hp19:=ho8.gblk hg9 (hp15.ext e78) (by decide);have hp29:=ho8.gblk hg9 (hp25.ext e78) (by decide);have hlow9:=ho8.below hg9 hlow8 hlow8.size;have oth9:Oth W5 W9:=((Oth.ext e6).trans (Oth.ext e78)).trans (ho8.oth hg9);obtain⟨a9,c9',hv9⟩:=ho9.slice;have hg8:Blk W9 c8 39 (esa.getD k zq).cells:=(hg9.block c8 (k8.ext e78).lt (λe=>by have:=hown _ e.symm;omega)).trans (k8.ext e78);have hg9':Blk W9 c9 39 (esb.getD k zq).cells:=(hg9.block c9 (k9.ext e78).lt (λe=>by have:=hown _ e.symm;omega)).trans (k9.ext e78);refine .gv ⟨h79,hf9,hg8,hg9'⟩ rfl (T5 C2 O O h79 (by rw[hv9];rfl) (by simp) (by rw[hv9];simp[H3,Value.cells])) ?_;rintro _ W10 ⟨k10,u10⟩;refine .nil (.inl O) ?_;have k10:Blk W10 b7 26 #[v9]:=by rw[hv9] at k10 ⊢;exact k10
  refine⟨oth9.trans (Oth.upd u10 h79),u10.below hlow9 (by omega),hf9.upd u10 (by omega),hp19.upd u10 (by omega),hp29.upd u10 (by omega),v9,k10,?_⟩;have:=ho9.upd u10 h79 (by decide) (λh=>h.2 O);rw[aP,aM];exact this
 ·intro W hJ hD;obtain⟨hlow,hf5,hp15,hp25,v,h7,ho⟩:=hJ;refine .sr (.ld C2 O O h7 O (.an O O (.ret ?_)));refine .mark [_] results268 hD ⟨rfl,trivial⟩ ⟨X8 hlow x5.size,(ho.kp (Kp.put hD O)).toR up (λk hk=>hk.1)⟩
theorem BS3:Ent prog 269:=en func269
theorem BS5{S:Nat->Prop}{w:World}{vq vx vy:Value}{q x y:QV}{b:Nat}{L:Nat}(up:Up S w)(hb:Blk w b 39 vq.cells)(hq:eQ.R S w vq q)(hx:eQ.R S w vx x)(hy:eQ.R S w vy y)(hkq:qk L q)(hkx:qk L x)(hky:qk L y)(hL:1<=L)(hL2:L<=10000000000) :
  CR prog 269 #[vx,vy,pW b] w (eQ.at S (qc (E3 q*E3 x+E3 y))):=by
 have hvq:=G8 O hq;have hvx:=G8 O hx;have hvy:=G8 O hy;refine enter func269 O ntmps269 O (.sr (.box O O λw1 b3 n1=>.box O O λw2 b4 n2=>.alloc O E8 λw3 b5 n3=>.nil ?_));obtain⟨e1,k3,hb3,hs1⟩:=n1;obtain⟨e2,k4,hb4,hs2⟩:=n2;obtain⟨e3,k5,hb5,hs3⟩:=n3;have x3:=(e1.trans e2).trans e3;have k3:=(k3.ext e2).ext e3;have k4:=k4.ext e3;have hb:=hb.ext x3;have hS5:¬ Sx S w.heap.size w3.heap.size b5:=Sx.no (by omega) (by omega);have up3:Up (Sx S w.heap.size w3.heap.size) w3:=Sx.up up (aA _) x3.size;have hq3:=(hq.par w3.heap.size).ext x3;have hx3:=(hx.par w3.heap.size).ext x3;have hy3:=(hy.par w3.heap.size).ext x3;refine .seq (.held follows true (λW=>Blk W b 39 vq.cells/\Blk W b3 39 vx.cells/\Blk W b4 39 vy.cells)
  [some vq,some vx,none,some vy,none,none] (by kernel_rfl) ⟨λ_ h=>(E1 A3 O h.1 (eQ.csz hq)).eq hvq.symm,λ_ h=>(E1 A3 O h.2.1 (eQ.csz hx)).eq hvx.symm,λ_ h=>(E1 A3 O h.2.2 (eQ.csz hy)).eq hvy.symm,trivial⟩ ?_)
 intro w4 e4 _;refine .gv ⟨hb.ext e4,k3.ext e4,k4.ext e4⟩ rfl (A4 _ BF1 O (BB7 (up3.ext e4.size) (hq3.ext e4) (hx3.ext e4) hkq.1 hkx.1 hL (by omega))) ?_;rintro v5 w5 ⟨e5,h5⟩;have e45:=e4.trans e5;have hkm:qk (L+L) (qc (E3 q*E3 x)):=AJ7 (hkq.2.mul hkx.2);refine .gv ⟨hb.ext e45,k3.ext e45,k4.ext e45⟩ rfl (A4 _ AK6 O (AK2 (up3.ext e45.size) h5 (hy3.ext e45) hkm.1 (hky.1.mono (by omega)) (by omega) (by omega))) ?_;rintro v6 w6 ⟨e6,h6⟩;rw[C3] at h6;have e46:=e45.trans e6;have hc6:=eQ.csz h6;refine .gv ⟨hb.ext e46,k3.ext e46,k4.ext e46⟩ rfl (T5 A3 O O (k5.ext e46) hc6 (aA _) (eQ.one h6)) ?_;rintro _ w7 ⟨k7,u7⟩;rw[Aa2 _ _ (by rw[cO,hc6];rfl)] at k7;simp only[fM] at k7;refine .nil (.inl O) (.ret ?_);have h7:=h6.upd u7 hS5;exact .cell results269 O A3 O O k7 h7 ⟨u7.below (x3.trans e46) (by omega),h7.out⟩
theorem Au8:Ent prog 255:=en func255
theorem At2{S:Nat->Prop}{w:World}{vq va vb:Value}{q:QV}{a b:List QV}{L:Nat}(up:Up S w)(hq:eQ.R S w vq q)(ha:eV.R S w va a)(hb:eV.R S w vb b)(hla:a.length<=1000000000)(hlb:b.length<=1000000000)(hkq:qk L q)(hka:vk L a)(hkb:vk L b)(hL:1<=L)(hL2:L<=10000000000) :
  CR prog 255 #[vq,va,vb] w (eV.at S (tab (max a.length b.length) λk=>E3 q*rv a k+rv b k)):=by
 have hlq:=ER.lt eQ hq;refine enter func255 O ntmps255 O (.sr (.box O O λw1 b3 n1=>.an O O ?_));obtain⟨e1,k3,hb3,hs1⟩:=n1;refine .sr (.mv O O (.mv O O (.mkf [] [_] O O O O (.call _ O BH5 O (BF4 (g:=λk=>qc (E3 q*rv a k+rv b k)) (up.ext e1.size) (ha.ext e1) (hb.ext e1) hla hlb BS3 λW T i x y hB hT hup hi hx hy=>?_) λv1 w2 e2 h1=>.an O O (.ret ?_)))))
 ·refine BS5 hup ((hB.block b3 k3.lt).trans k3) ?_ hx hy hkq (hka.get hL i) (hkb.get hL i) hL hL2;have hq1:eQ.R (λk=>S k/\k<w.heap.size) W vq q:=eQ.keep (λk c t f hk h=>((e1.trans (hB.mono (aA _))).block k hk.2).trans h) hlq;exact eQ.mono (λk _ hk=>hT k hk.1 (by have:=e1.size;omega)) hq1
 ·exact .p1 _ results255 O ⟨e1.trans e2,h1⟩
theorem Ax1:M0 prog 3=some (iW 0):=by kernel_rfl
def eqV (a b:List QV):Prop:=∀ k,rv a k=rv b k
noncomputable instance (a b:List QV):Decidable (eqV a b):=Classical.propDecidable _
theorem un_L:prog.underlying 117=some (.slice 2):=by kernel_rfl
abbrev eI:ER (List Int):=RL (B8 .i64)
theorem eInt_bd{S:Nat->Prop}{w:World}{v:Value}{n:Int}(h:(B8 .i64).R S w v n):v=.int .i64 n /\ -9223372036854775808<=n/\n<=9223372036854775807:=by obtain⟨h1,h2,h3⟩:=h;exact⟨h1,h2,h3⟩
theorem AI4:Ent prog 91:=en func91
@[reducible] def ResP (S:Nat->Prop) (B:Nat) (n:Int) (a:List QV):Value->World->Prop:=λv w =>
 (n<1/\v=.slice none 0 0)\/(1<=n/\∃ g N:Nat,(N:Int)=min n 65536/\B<=g/\v=.slice (some ⟨g,0,none⟩) N N/\FB eQ 39 S w g (tab N (rv a)))
theorem Ai1{S T0:Nat->Prop}{w:World}{va:Value}{a:List QV}{n:Int}{L:Nat}(up:Up S w)(upo:Up T0 w)(ha:eV.R S w va a)(hka:vk L a)(hL:1<=L)(hL2:L<=10000000000) :
  CR prog 91 #[va,iW n] w (ResP T0 w.heap.size n a):=by
 have ha0:=ER.lt eV ha;have hA:∀ {W:World},Below w.heap.size w W->eV.R (λk=>S k/\k<w.heap.size) W va a:=λhB=>eV.keep (λk c t f hk h=>(hB.block k hk.2).trans h) ha0;obtain⟨al,cl,hvl,_,hla⟩:=RL.len ha;refine enter func91 O ntmps91 O (.sr (.an O O (.seq (.sr (.mv O O ?_)))));by_cases hn:n<1
 ·refine .lssT O O O hn (.nil (.condT O (.sr (.an O O (.ret ?_)))));exact .p1 _ results91 O ⟨.refl _,.inl ⟨hn,rfl⟩⟩
 refine .lssF O O O hn (.nil (.condF O (.skip (.sr (.mv O O (.min_ O O O ?_))))));obtain⟨N,hN⟩:∃ N:Nat,(N:Int)=min n 65536:=⟨(min n 65536).toNat,by omega⟩;rw[<-hN];have hN1:N<=65536:=by omega
 refine .make_ _ _ C9 J4 O (by decide) O O O (aA _) (by omega) (by omega) λw1 g n1=>.an O O ?_;have f1:FB eQ 39 T0 w1 g (List.replicate N q0):=FB.made n1 AF1;obtain⟨e1,k1,hg,hs1⟩:=n1;generalize hf:(λk=>qc (rv a k))=f;refine .mid (α:=Unit) (λ_=>[(5,.slice (some ⟨g,0,none⟩) N N)]) (λ_ W=>Below w.heap.size w W/\FB eQ 39 T0 W g ((List.range N).map f)) ?_ ?_
 ·refine .sr (.mv O O (.lenR C9 O O (hA e1) (.mv O O (.len C9 O O (.min_ O O O (.mv O O (.nil ?_)))))));rw[show (min (a.length:Int) (N:Int))=((min a.length N:Nat):Int) by omega];generalize hM:min a.length N=M;refine .block (.loop (α:=Nat) (λi=>[(5,.slice (some ⟨g,0,none⟩) N N),(0,va),(16,iW (M:Nat)),(17,iW (i:Nat))])
   (λi W=>Below w.heap.size w W/\i<=M/\FB eQ 39 T0 W g (fil N i f q0)) (λi=>M-i) 0 ?_ ?_ ?_)
  ·exact lkA rfl
  ·exact⟨e1,aC _,by rw[R8];exact f1⟩
  ·rintro i W ⟨hB,hi,hF⟩;have hsz:=hB.size;have hgl:=hF.lt;by_cases hlt:i<M
   ·refine .sr (.lssT O O O (by omega) (.nil (.seq (.condT O (.skip (.seq (.block (.sr (.mv O O ?_)))))))));refine .an O O (.region (.mv O O (.mv O O (.mv O O (.mv O O ?_)))));refine .ixN (i:=i) C9 A3 O O (hA hB) O (B0 (z:=q0) (by omega)) λp hp=>.ldE A3 O O hp λe he=>?_;refine .call _ O AE2 O (AQ5 (S:=λk=>S k/\k≠g) (T0:=λk=>T0 k/\k≠g) (λk hk=>⟨up k (by omega),by omega⟩) (λk hk=>⟨upo k (by omega),by omega⟩) (eQ.mono (λk _ hk=>⟨hk.1,by have:=hk.2;omega⟩) he) (hka.get hL i).1 hL (by omega)) λv2 W2 e2 h2=>?_;refine .ixB (i:=i) C9 A3 O O O (by omega) ?_;have hF2:=hF.ext e2;refine .storeF (E:=eQ) (i:=i) (z:=f i) (by decide) A3 O O hF2 O (by rw[L7];omega) (aD _) (by rw[<-hf];exact h2) λW3 hF3 u3=>.nil ?_;rw[X5] at hF3;refine .region (.add O O O (.mv O O (.nil ?_)));rw[wI (by omega)];exact⟨rfl,i+1,lkA rfl,⟨u3.below (hB.trans (e2.mono hsz)) (by omega),hlt,hF3⟩,by show M-(i+1)<M-i;omega⟩
   ·refine .sr (.lssF O O O (by omega) (.nil (.seq (.condF O (.exit ?_)))));have:i=M:=by omega
    subst this;have hfe:fil N i f q0=(List.range N).map f:=by
     unfold fil;apply cK;intro j hj;by_cases h:j<i
     ·rw[if_pos h]
     ·rw[if_neg h,<-hf];have:=List.mem_range.1 hj;show q0=qc (rv a j);rw[Af5 (by omega),Q7]
    rw[hfe] at hF;exact⟨rfl,(),lkA rfl,hB,hF⟩
 ·rintro _ W ⟨hB,hF⟩;refine .sr (.mv O O (.an O O (.ret (.plain [_] results91 ⟨rfl,trivial⟩ ⟨hB,.inr ⟨by omega,g,N,hN,by omega,rfl,?_⟩⟩))));unfold tab;rw[hf];exact hF
theorem AR5{S:Nat->Prop}{w:World}{va:Value}{a:List QV}{n:Int}{L:Nat}(up:Up S w)(ha:eV.R S w va a)(hka:vk L a)(hL:1<=L)(hL2:L<=10000000000) :
  CR prog 91 #[va,iW n] w (ResP S w.heap.size n a):=Ai1 up up ha hka hL hL2
def uni (k:Int) (j:Nat):Rat:=if (j:Int)=k then 1 else 0
theorem Bf5:Ent prog 100:=en func100
theorem Bb0{S:Nat->Prop}{w:World}{n k:Int}(up:Up S w):CR prog 100 #[iW n,iW k] w (eV.at S (tab (min n 65536).toNat (uni k))):=by
 refine enter func100 O ntmps100 O (.sr (.an O O (.sr (.mv O O (.call _ O AI4 O (AR5 (S:=S) (a:=[]) (L:=1) up RL.nil BL9 (aA _) (by omega)) λv1 w1 e1 h1=>.an O O ?_)))));rcases h1 with ⟨hn,rfl⟩ | ⟨hn,g,N,hN,hg,rfl,hF⟩
 ·have h0:(min n 65536).toNat=0:=by omega
  refine .seq (.sr (.mv O O ?_));by_cases hk:0<=k
  ·refine .geqT O O O hk (.mv O O (.gr O O O O (.mv O O (.gr O O O O (.mv O O (.gr O O O O (.len C9 O O (.gr O O O O (.lssF O O O (by omega) (.pick O O O (.nil (.condF O (.skip (.sr (.mv O O (.an O O (.ret ?_)))))))))))))))));exact .plain [_] results100 ⟨rfl,trivial⟩ ⟨e1,by rw[h0];exact RL.nil⟩
  ·refine .geqF O O O hk (.mv O O (.gs O O O O O (.gs O O O O O (.gs O O O O O (.gs O O O O O (.pick O O O (.nil (.condF O (.skip (.sr (.mv O O (.an O O (.ret ?_)))))))))))));exact .plain [_] results100 ⟨rfl,trivial⟩ ⟨e1,by rw[h0];exact RL.nil⟩
 ·have h0:(min n 65536).toNat=N:=by omega
  rw[h0];have hs1:=e1.size;have hgl:=hF.lt;have hzero:∀ j,rv [] j=0:=AS0;have hno:(¬ 0<=k\/¬ k<(N:Int))->tab N (rv [])=tab N (uni k):=by intro h;unfold tab;apply cK;intro j hj;have:=List.mem_range.1 hj;rw[AS0];unfold uni;rw[if_neg (by omega)]
  refine .seq (.sr (.mv O O ?_));have hend:∀ {W:World} {l:List QV},FB eQ 39 S W g l->l=tab N (uni k)->eV.at S (tab N (uni k)) (.slice (some ⟨g,0,none⟩) N N) W:=by intro W l hF hl;subst hl;have:=hF.toR (c:=N) (hsz:=by decide) (up g (by omega)) (by rw[A2];exact aA _) (by rw[A2];omega);rw[A2] at this;exact this
  by_cases hk:0<=k
  ·refine .geqT O O O hk (.mv O O (.gr O O O O (.mv O O (.gr O O O O (.mv O O (.gr O O O O (.len C9 O O (.gr O O O O ?_))))))));by_cases hk2:k<(N:Int)
   ·obtain⟨i,rfl⟩:∃ i:Nat,k=i:=⟨k.toNat,by omega⟩;refine .lssT O O O hk2 (.pick O O O (.nil (.condT O (.region (.mv O O (.mv O O ?_))))));refine .call _ O I2 O (H9 (n:=1) (S:=λk=>S k/\k≠g) (λk hk=>⟨up k (by omega),by omega⟩) (by omega) (by omega)) λv2 W2 e2 h2=>?_;refine .ixB (i:=i) C9 A3 O O O (by omega) ?_;refine .storeF (E:=eQ) (i:=i) (by decide) A3 O O (hF.ext e2) O (by rw[A2];omega) (aD _) h2 λW3 hF3 u3=>.nil ?_;refine .sr (.mv O O (.an O O (.ret ?_)));refine .plain [_] results100 ⟨rfl,trivial⟩ ⟨u3.below (e1.trans e2) (by omega),hend hF3 ?_⟩;apply cU;intro j;rw[dB];unfold tab;by_cases hj:i=j
    ·subst hj;rw[if_pos rfl,if_pos (by simp;omega),aI,bA (by omega)];simp[uni]
    ·rw[if_neg hj,aI,aI];by_cases hjN:j<N
     ·simp only[bA hjN,cY];rw[AS0];unfold uni;rw[if_neg (by omega)]
     ·rw[aH (by simpa using hjN)];rfl
   ·refine .lssF O O O hk2 (.pick O O O (.nil (.condF O (.skip (.sr (.mv O O (.an O O (.ret ?_))))))));exact .p1 _ results100 O ⟨e1,hend hF (hno (.inr hk2))⟩
  ·refine .geqF O O O hk (.mv O O (.gs O O O O O (.gs O O O O O (.gs O O O O O (.gs O O O O O (.pick O O O (.nil (.condF O (.skip (.sr (.mv O O (.an O O (.ret ?_)))))))))))));exact .p1 _ results100 O ⟨e1,hend hF (hno (.inl hk))⟩
def A1 (m:List (List QV)):Nat:=m.foldl (λn r=>max n r.length) 0
theorem Bo4(m:List (List QV)):∀ n,m.foldl (λn r=>max n r.length) n=max n (A1 m):=by
 unfold A1;induction m with
 | nil=>intro n;simp
 | cons r m ih=>intro n;simp only[List.foldl_cons];rw[ih,ih (max 0 r.length)];omega
theorem AT3:A1 []=0:=rfl
theorem AG3(r:List QV)(m:List (List QV)):A1 (r::m)=max r.length (A1 m):=by show List.foldl _ (max 0 r.length) m=_;rw[Bo4];omega
theorem BH3(a b:List (List QV)):A1 (a++b)=max (A1 a) (A1 b):=by
 induction a with
 | nil=>simp[AT3]
 | cons r a ih=>rw[gF,AG3,AG3,ih];omega
theorem AQ9(m:List (List QV)){i:Nat}(h:i<m.length):A1 (m.take (i+1))=max (A1 (m.take i)) (m.getD i []).length:=by rw[fN h,BH3,AG3,AT3];rw[aF,aE h];simp
theorem Ag8{r:List QV}(h:r∈m):r.length<=A1 m:=by
 induction m with
 | nil=>cases h
 | cons x m ih =>
  rw[AG3];rcases List.mem_cons.1 h with rfl | h
  ·omega
  ·have:=ih h;omega
theorem Ao9{n:Nat}(h:∀ r∈m,r.length<=n):A1 m<=n:=by
 induction m with
 | nil=>exact aC _
 | cons x m ih =>
  rw[AG3];have h1:=h x (by simp);have h2:=ih λr hr=>h r (by simp[hr]);omega
theorem Be5(m:List (List QV))(i:Nat):(m.getD i []).length<=A1 m:=AF8 (P:=λr=>r.length<=A1 m) (λr hr=>Ag8 hr) (aC _) i
def rmI (m:List (List QV)) (i k:Int):Rat:=if i<0\/k<0 then 0 else rm m i.toNat k.toNat
theorem Aa6(m:List (List QV))(i k:Nat):rmI m i k=rm m i k:=by unfold rmI;rw[if_neg (by omega)];simp
def BN0 (es:List Value) (i:Int):Value:=if i<0 then Q9 else es.getD i.toNat Q9
theorem AE0:Ent prog 208:=en func208
theorem AD4{S:Nat->Prop}{w:World}(hm:eM.R S w vm m):CR prog 208 #[vm] w (Is (iW (A1 m))):=by
 obtain⟨am,cm,hvm,_,hlm⟩:=RL.len hm;refine enter func208 O ntmps208 O (.sr (.an O O (.sr (.an O O (.mid (α:=Unit) (λ_=>[(3,iW (A1 m))]) (λ_ W=>W=w) ?_ ?_)))))
 ·refine .sr (.mv O O (.lenR E4 O O hm (.mv O O (.nil (.block (.loop (α:=Nat) (λi=>[(3,iW (A1 (m.take i))),(6,vm),(7,iW (m.length:Nat)),(8,iW (i:Nat))]) (λi W=>W=w/\i<=m.length) (λi=>m.length-i) 0 ?_ ?_ ?_))))))
  ·exact lkA rfl
  ·exact⟨rfl,aC _⟩
  ·rintro i W ⟨rfl,hi⟩;by_cases hlt:i<m.length
   ·refine .sr (.lssT O O O (by omega) (.nil (.seq (.condT O (.skip (.seq (.block (.sr (.ixN (i:=i) E4 C2 O O hm O (B0 (z:=[]) hlt) λp hp=>.ldE C2 O O hp λe he=>.an O O (.region (.mv O O (.mv O O (.lenR C9 O O he (.max_ O O O (.an O O (.region (.add O O O (.mv O O (.nil ?_)))))))))))))))))));rw[wI (by omega)];refine⟨rfl,i+1,B7 ?_ (lkA O),⟨rfl,hlt⟩,by show m.length-(i+1)<m.length-i;omega⟩;show some (Value.int .i64 (max ((A1 (m.take i):Nat):Int) (((m.getD i []).length:Nat):Int)))=_;rw[AQ9 m hlt,show (max ((A1 (m.take i):Nat):Int) (((m.getD i []).length:Nat):Int))=((max (A1 (m.take i)) (m.getD i []).length:Nat):Int) by omega]
   ·refine .sr (.lssF O O O (by omega) (.nil (.seq (.condF O (.exit ?_)))));have:i=m.length:=by omega
    subst this;refine⟨rfl,(),?_,rfl⟩;rw[aK (aA _)];exact lkA rfl
 ·rintro _ W rfl;refine .sr (.mv O O (.an O O (.ret ?_)));exact .p1 _ results208 O ⟨.refl _,rfl⟩
theorem rowv_R{S:Nat->Prop}{w:World}(h:EsR eV S w vm es m)(i:Int):eV.R S w (BN0 es i) (if i<0 then [] else m.getD i.toNat []):=by
 unfold BN0;split
 ·exact RL.nil
 ·exact h.get Bc9 _
theorem Bq1:Ent prog 235:=en func235
theorem Bn2{S:Nat->Prop}{w:World}{i:Int}(hm:EsR eV S w vm es m):CR prog 235 #[vm,iW i] w (Is (BN0 es i)):=by
 refine enter func235 O ntmps235 O (.sr (.an O O (.seq (.sr (.mv O O ?_)))));by_cases h0:i<0
 ·refine .lssT O O O h0 (.mv O O (.gs O O O O O (.gs O O O O O (.gs O O O O O (.gs O O O O O (.pick O O O (.nil (.condT O (.sr (.an O O (.ret (.plain [_] results235 ⟨rfl,trivial⟩ ⟨.refl _,?_⟩))))))))))));show _=BN0 es i;unfold BN0;rw[if_pos h0];rfl
 ·refine .lssF O O O h0 (.mv O O (.gr O O O O (.mv O O (.gr O O O O (.mv O O (.gr O O O O (.lenR E4 O O (hm.toR (hsz:=by decide)) (.gr O O O O ?_))))))));by_cases h1:(m.length:Int)<=i
  ·refine .geqT O O O h1 (.pick O O O (.nil (.condT O (.sr (.an O O (.ret (.plain [_] results235 ⟨rfl,trivial⟩ ⟨.refl _,?_⟩)))))));show _=BN0 es i;unfold BN0;rw[if_neg h0,AF9 (by rw[hm.1.1];omega)];rfl
  ·refine .geqF O O O h1 (.pick O O O (.nil (.condF O (.skip (.sr (.mv O O (.mv O O ?_)))))));obtain⟨k,rfl⟩:∃ k:Nat,i=k:=⟨i.toNat,by omega⟩;have hk:k<m.length:=by omega
   refine .ixX E4 C2 O O hm O (B0 (z:=Q9) (by rw[hm.1.1];exact hk)) λp hp=>.ldX (E:=eV) C2 O O hp (hm.get Bc9 k) (.an O O (.ret (.plain [_] results235 ⟨rfl,trivial⟩ ⟨.refl _,?_⟩)));show _=BN0 es k;unfold BN0;rw[if_neg h0];rfl
theorem AZ7:Ent prog 192:=en func192
theorem AX4{S:Nat->Prop}{w:World}{i k:Int}{L:Nat}(up:Up S w)(hm:eM.R S w vm m)(hk:mk_ L m)(hL:1<=L)(hL2:L<=10000000000):CR prog 192 #[vm,iW i,iW k] w (eQ.at S (qc (rmI m i k))):=by
 refine enter func192 O ntmps192 O (.sr (.alloc O E8 λw1 b6 n1=>.nil (.sr (.mv O O (.mv O O ?_)))));obtain⟨e1,k6,hb6,hs1⟩:=n1;have hS6:¬ Sx S w.heap.size w1.heap.size b6:=Sx.no (by omega) (by omega);have up1:Up (Sx S w.heap.size w1.heap.size) w1:=Sx.up up (aA _) e1.size;have hm1:=(ER.par eM hm w1.heap.size).ext e1;obtain⟨es,hE⟩:=RL.toEs hm1;refine .call _ O Bq1 O (Bn2 hE) λv2 w2 e2 h2=>.an O O ?_;subst h2;have hr:=rowv_R (hE.ext e2) i;generalize hrr:(if i<0 then [] else m.getD i.toNat [])=r at hr;have hkr:vk L r:=by
  rw[<-hrr];split
  ·exact BL9
  ·exact hk.get _
 have hv:rmI m i k=if k<0 then 0 else rv r k.toNat:=by
  unfold rmI rm;rw[<-hrr];by_cases h1:i<0
  ·simp[h1,AS0]
  ·by_cases h2:k<0<;>simp[h1,h2]
 have x2:=e1.trans e2;have k6:=k6.ext e2;have hz:(k<0\/(r.length:Int)<=k)->qc (rmI m i k)=q0:=by
  intro h;rw[hv,<-Q7];congr 1;by_cases h1:k<0
  ·rw[if_pos h1]
  ·rw[if_neg h1];exact Af5 (by omega)
 refine .seq (.sr (.mv O O ?_));by_cases h0:k<0
 ·refine .lssT O O O h0 (.mv O O (.gs O O O O O (.gs O O O O O (.gs O O O O O (.gs O O O O O (.pick O O O (.nil (.condT O (.sr (.bld _ O O AC4 (.storeA (E:=eQ) A3 O O k6 O O (S:=Sx S w.heap.size w1.heap.size) AF1 hS6 λw3 k3 u3 h3=>.nil (.ret (.cell results192 O A3 O O k3 h3 ⟨u3.below x2 (by omega),?_⟩)))))))))))));show eQ.R _ _ _ _;rw[hz (.inl h0)];exact h3.out
 ·refine .lssF O O O h0 (.mv O O (.gr O O O O (.mv O O (.gr O O O O (.mv O O (.gr O O O O (.lenR C9 O O hr (.gr O O O O ?_))))))));by_cases h1:(r.length:Int)<=k
  ·refine .geqT O O O h1 (.pick O O O (.nil (.condT O (.sr (.bld _ O O AC4 (.storeA (E:=eQ) A3 O O k6 O O (S:=Sx S w.heap.size w1.heap.size) AF1 hS6 λw3 k3 u3 h3=>.nil (.ret (.cell results192 O A3 O O k3 h3 ⟨u3.below x2 (by omega),?_⟩))))))));show eQ.R _ _ _ _;rw[hz (.inr h1)];exact h3.out
  ·refine .geqF O O O h1 (.pick O O O (.nil (.condF O (.skip (.sr (.mv O O (.mv O O ?_)))))));obtain⟨j,rfl⟩:∃ j:Nat,k=j:=⟨k.toNat,by omega⟩;refine .ixN (i:=j) C9 A3 O O hr O (B0 (z:=q0) (by omega)) λp hp=>.ldE A3 O O hp λe he=>(.call _ O AE2 O (AQ6 (up1.ext e2.size) he (hkr.get hL j).1 hL (by omega)) λv3 w3 e3 h3=>(.storeA (E:=eQ) A3 O O (k6.ext e3) O O h3 hS6 λw4 k4 u4 h4=>.nil (.ret (.cell results192 O A3 O O k4 h4 ⟨u4.below (x2.trans e3) (by omega),?_⟩))));have:rmI m i (j:Int)=E3 (r.getD j q0):=by rw[hv,if_neg h0];rfl
   show eQ.R _ _ _ _;rw[this];exact h4.out
theorem AU0:Ent prog 259:=en func259
theorem AS8{w:World}{n:Int}:CR prog 259 #[iW n] w (Is (iW (max 0 (min n 1024)))):=by refine enter func259 O ntmps259 O (.sr (.an O O (.sr (.mv O O (.min_ O O O (.max_ O O O (.an O O (.ret ?_))))))));exact .p1 _ results259 O ⟨.refl _,rfl⟩
@[reducible] def slB (c h:Nat):Value:=.slice (some ⟨h,0,none⟩) c c
@[reducible] def offM (S:Nat->Prop) (gb:Nat) (hs:List Nat):Nat->Prop:=λk=>S k/\k≠gb/\k∉hs
structure MB (t tq:TypeId) (S:Nat->Prop) (w:World) (gb c:Nat) (hs:List Nat) (M:List (List QV)):Prop where
 out:Blk w gb t (cellsOf (hs.map (slB c))).toArray
 nd:hs.Nodup
 gn:gb∉hs
 len:hs.length=M.length
 row:∀ (i h:Nat) (r:List QV),hs[i]?=some h->M[i]?=some r->r.length=c/\FB eQ tq (offM S gb hs) w h r
theorem Be6(c:Nat)(hs:List Nat):cellsOf (hs.map (slB c))=hs.map (slB c):=by
 induction hs with
 | nil=>rfl
 | cons h l ih=>simp[cellsOf,Value.cells] at ih ⊢;exact ih
section
variable {t tq:TypeId} {S:Nat->Prop} {w w':World} {gb c:Nat} {hs:List Nat} {M:List (List QV)}
theorem MB.cell (h:MB t tq S w gb c hs M) {i hi:Nat} (hh:hs[i]?=some hi):(cellsOf (hs.map (slB c))).toArray[0+i*1]?=some (slB c hi):=by rw[Be6,bN,aD,cT,aI,hh];rfl
theorem MB.kp (h:MB t tq S w gb c hs M) (hk:Kp (λ_=>True) w w'):MB t tq S w' gb c hs M :=
 ⟨hk.blk trivial h.out,h.nd,h.gn,h.len,λi x r h1 h2=>⟨(h.row i x r h1 h2).1,(h.row i x r h1 h2).2.kp hk⟩⟩
theorem MB.ext (h:MB t tq S w gb c hs M) (e:Ext w w'):MB t tq S w' gb c hs M:=h.kp (Kp.ext e)
theorem MB.upd {b:Nat} (h:MB t tq S w gb c hs M) (u:Upd w w' b) (hne:gb≠b) (hb:b∉hs) (hS:¬ S b):MB t tq S w' gb c hs M :=
 ⟨h.out.upd u hne,h.nd,h.gn,h.len,λi x r h1 h2=>⟨(h.row i x r h1 h2).1,(h.row i x r h1 h2).2.upd u (λe=>hb (e▸List.mem_iff_getElem?.2 ⟨i,h1⟩)) λhh=>hS hh.1⟩⟩
theorem MB.set (h:MB t tq S w gb c hs M) {i hi:Nat} {r:List QV} (hh:hs[i]?=some hi) (hr:r.length=c) (u:Upd w w' hi) (hf:FB eQ tq (offM S gb hs) w' hi r):MB t tq S w' gb c hs (M.set i r):=by
 have hm:hi∈hs:=List.mem_iff_getElem?.2 ⟨i,hh⟩;refine⟨h.out.upd u (λe=>h.gn (e▸hm)),h.nd,h.gn,by rw[bV];exact h.len,λj x s h1 h2=>?_⟩;have hil:=(List.getElem?_eq_some_iff.1 hh).1;by_cases e:i=j
 ·subst e;rw[dM (by rw[<-h.len];exact hil)] at h2;rw[hh] at h1
  cases h1;cases h2;exact⟨hr,hf⟩
 ·rw[bW e] at h2;refine⟨(h.row j x s h1 h2).1,(h.row j x s h1 h2).2.upd u (λe'=>e ?_) λhh=>hh.2.2 hm⟩;subst e';have h3:=List.getElem?_eq_some_iff.1 h1;have h4:=List.getElem?_eq_some_iff.1 hh;obtain⟨a1,a2⟩:=h3;obtain⟨b1,b2⟩:=h4;exact (List.getElem_inj h.nd).1 (b2.trans a2.symm)
theorem MB.toFB (h:MB t tq S w gb c hs M) (hS:∀ k∈hs,S k) (hc:c<=9223372036854775807):FB eV t S w gb M:=by
 refine⟨hs.map (slB c),h.out,by rw[dC];exact h.len,λi e x he hx=>?_⟩;rw[aI] at he
 cases hh:hs[i]? with
 | none=>rw[hh] at he;cases he
 | some k =>
  rw[hh] at he;cases he;have hm:k∈hs:=List.mem_iff_getElem?.2 ⟨i,hh⟩;obtain⟨h1,h2⟩:=h.row i k x hh hx;obtain⟨es,hb,he⟩:=h2;have h3:FB eQ tq (λk=>S k/\k≠gb) w k x:=⟨es,hb,he.1,λi e x h1 h2=>eQ.mono (λk _ hh=>⟨⟨hh.1.1,hh.1.2.1⟩,hh.2⟩) (he.2 i e x h1 h2)⟩;have:=h3.toR (c:=c) (hsz:=by decide) ⟨hS k hm,λe=>h.gn (e▸hm)⟩ (by omega) (by omega);rw[h1] at this;exact this
theorem MB.mono {S':Nat->Prop} (h:MB t tq S w gb c hs M) (hk:∀ k,k<w.heap.size->S k->S' k):MB t tq S' w gb c hs M :=
 ⟨h.out,h.nd,h.gn,h.len,λi x r h1 h2=>⟨(h.row i x r h1 h2).1,(h.row i x r h1 h2).2.mono λk hl hh=>⟨hk k hl hh.1,hh.2⟩⟩⟩
theorem MB.lt (h:MB t tq S w gb c hs M) {k:Nat} (hk:k∈hs):k<w.heap.size:=by obtain⟨i,hi⟩:=List.mem_iff_getElem?.1 hk;have hil:=(List.getElem?_eq_some_iff.1 hi).1;exact (h.row i k _ hi (aE (by rw[<-h.len];exact hil))).2.lt
end
theorem FB.kpn{E:ER α}{t:TypeId}{S:Nat->Prop}{w w':World}{g b:Nat}{l:List α}(h:FB E t S w g l)(hk:Kp (λj=>j≠b) w w')(hg:g≠b)(hS:¬ S b):FB E t S w' g l:=by obtain⟨es,hb,he⟩:=h;exact⟨es,hk.blk hg hb,he.keep λk c t f hs hc=>hk k c t f (λe=>hS (e▸hs.1)) hc⟩
theorem Bg8(l:List α)(z x:α)(m:Nat):(l++List.replicate (m+1) z).set l.length x=(l++[x])++List.replicate m z:=by rw[gP _ _ (aA _),dX,gG,List.set_cons_zero,cS];rfl
@[reducible] def MBat (t tq:TypeId) (S:Nat->Prop) (B n c:Nat) (M:List (List QV)):Value->World->Prop:=λv W=>∃ gb hs,v=.slice (some ⟨gb,0,none⟩) n n/\B<=gb/\(∀ k∈hs,B<=k)/\MB t tq S W gb c hs M
theorem MBat.toF{t tq:TypeId}{S:Nat->Prop}{n c:Nat}{M:List (List QV)}{v:Value}{W:World}(h:MBat t tq S B n c M v W)(hS:∀ k,B<=k->S k)(hc:c<=9223372036854775807):FBat t S B n M v W:=by obtain⟨gb,hs,h1,h2,h3,h4⟩:=h;exact⟨gb,h1,h2,h4.toFB (λk hk=>hS k (h3 k hk)) hc⟩
theorem ty_FE:F6 prog 180=some (false,1):=by kernel_rfl
theorem fld_FL0:U7 prog 246 0=some 0:=by kernel_rfl
theorem BB0{P:Program}{w:World}{pos:String}{sz:Nat}{dd:Option Tmp}{gd:Option (Nat×Bool)}{t t':TypeId}{x y:Operand}{g i o:Nat}{a:Bool}{v:Value}(hsz:0<sz)(ht:F6 P t=some (a,sz))(hx:ev σ x=some (.pointer (some ⟨g,o,none⟩)))(hy:ev σ y=some v)(hb:Blk w g t' (cellsOf es).toArray)(hes:∀ e∈es,e.cells.size=sz)(hv:v.cells.size=sz)(h1:∀ u∈v.cells.toList,H3 u=true)(hi:i<es.length)(ho:o=i*sz) :
  Gv P ⟨dd,.store t x y,ty,pos,af,gd⟩ σ w λ_ w'=>Blk w' g t' (cellsOf (es.set i v)).toArray/\Upd w w' g:=by
 subst ho;have hl:=E6 es hes;have hle:i*sz+sz<=(cellsOf es).toArray.size:=by rw[dJ,hl,<-dA];exact bO _ hi
 refine (T5 ht hx hy hb hv hle h1).mono ?_;rintro _ w' ⟨hB',u⟩;rw[AM8 hsz es i v hes hv hi] at hB';exact⟨hB',u⟩
theorem BE7:Ent prog 253:=en func253
theorem BK7{S:Nat->Prop}{w:World}{f:FuncId}{g:Nat->Nat->Rat}(up:Up S w)(hr:rows<=1000000000)(hc:cols<=1000000000)(hE:Ent prog f)(hf:∀ (W:World) (T:Nat->Prop) (i k:Nat),Below w.heap.size w W->(∀ j,S j->j<w.heap.size->T j)->Up T W->i<rows->k<cols->CR prog f ([iW (i:Nat),iW (k:Nat)].toArray++cap) W (eQ.at T (qc (g i k)))) :
  CR prog 253 #[.agg #[.func (.func f) #[] cap],iW rows,iW cols] w (MBat 26 39 S w.heap.size rows cols (C6 rows cols g)):=by
 generalize hfv:Value.func (.func f) #[] cap=fv;refine enter func253 O ntmps253 O ?_;refine .sr (.box O O λw1 b3 n1=>.an O O ?_);obtain⟨e1,k3,hb3,hs1⟩:=n1;replace k3:Blk w1 b3 246 #[fv]:=k3;refine .sr (.mv O O ?_);refine .make_ _ _ E4 AD5 O (by decide) O O O (aA _) (by omega) (by omega) λw2 gb n2=>.an O O ?_;obtain⟨e2,k2,hgb,hs2⟩:=n2;have x2:=e1.trans e2;have k3:=k3.ext e2;refine .mid (α:=List Nat) (λ_=>[(7,.slice (some ⟨gb,0,none⟩) rows rows)]) (λhs W=>Below w.heap.size w W/\(∀ k∈hs,w.heap.size<=k)/\MB 26 39 S W gb cols hs (C6 rows cols g)) ?_ ?_
 ·refine .sr (.mv O O (.len E4 O O (.mv O O (.nil ?_))));refine .block (.loop (α:=List Nat) (λhs=>[(7,.slice (some ⟨gb,0,none⟩) rows rows),(3,pW b3),(2,iW (cols:Nat)),(13,iW (rows:Nat)),(14,iW (hs.length:Nat))])
   (λhs W=>Below w.heap.size w W/\hs.length<=rows/\Blk W gb 26 (cellsOf (hs.map (slB cols)++List.replicate (rows-hs.length) Q9)).toArray/\Blk W b3 246 #[fv]/\hs.Nodup/\(∀ k∈hs,w2.heap.size<=k)/\∀ (i h:Nat),hs[i]?=some h->FB eQ 39 (offM S gb hs) W h (tab cols (g i))) (λhs=>rows-hs.length) [] ?_ ?_ ?_)
  ·exact lkA rfl
  ·exact⟨x2,aC _,k2,k3,List.nodup_nil,(λk hk=>by cases hk),(λi h hh=>by cases hh)⟩
  rintro hs W ⟨hB,hi,hO,k3,hnd,hge,hrow⟩;have hsz:=hB.size;have hgl:=hO.lt;have hb3l:=k3.lt;refine .sr ?_;rcases aB hs.length rows with hlt | hge';rotate_left
  ·refine .lssF O O O (by omega) (.nil (.seq (.condF O (.exit ?_))));have hl:hs.length=rows:=by omega
   rw[hl,dX,iI,bB] at hO;refine⟨rfl,hs,lkA rfl,hB,λk hk=>by have:=hge k hk;omega,hO,hnd,λhm=>by have:=hge gb hm;omega,by rw[A8];exact hl,λi h r h1 h2=>?_⟩;have hil:i<rows:=by have:=(List.getElem?_eq_some_iff.1 h1).1;omega
   rw[show (C6 rows cols g)[i]?=some (tab cols (g i)) by unfold C6;rw[aI,bA hil];rfl] at h2
   cases h2;exact⟨A2 ..,hrow i h h1⟩
  refine .lssT O O O (by omega) (.nil (.seq (.condT O (.skip (.seq (.block (.sr (.mv O O (.an O O ?_)))))))));refine .sr (.mv O O (.mv O O (.mv O O ?_)));refine .make_ _ _ C9 J4 O (by decide) O O O (aA _) (by omega) (by omega) λW1 h n3=>?_;have f3:FB eQ 39 (offM S gb (hs++[h])) W1 h (List.replicate cols q0):=FB.made n3 AF1;obtain⟨e3,_,hh,hs3⟩:=n3;have hlW:∀ k∈hs,k<W.heap.size:=λk hk=>by obtain⟨i,hi⟩:=List.mem_iff_getElem?.1 hk;exact (hrow i k hi).lt
  have hesz:∀ e∈hs.map (slB cols)++List.replicate (rows-hs.length) Q9,e.cells.size=1:=λe he=>by
   rcases List.mem_append.1 he with h | h
   ·obtain⟨_,_,rfl⟩:=List.mem_map.1 h;rfl
   ·rw[(List.mem_replicate.1 h).2];rfl
  have hset:(hs.map (slB cols)++List.replicate (rows-hs.length) Q9).set hs.length (slB cols h)=(hs++[h]).map (slB cols)++List.replicate (rows-(hs.length+1)) Q9:=by have:=Bg8 (hs.map (slB cols)) Q9 (slB cols h) (rows-(hs.length+1));rw[dC,show rows-(hs.length+1)+1=rows-hs.length by omega] at this;rw[this,aM];rfl
  refine .ixB (i:=hs.length) E4 C2 O O O hlt ?_;refine .gv O O (BB0 (i:=hs.length) (by decide) C2 O O (hO.ext e3) hesz O (by simp[Value.cells,H3]) (by simp;omega) (aD _)) ?_;rintro _ W2 ⟨hBg2,u2⟩;refine .nil ?_;replace hBg2:Blk W2 gb 26 (cellsOf ((hs.map (slB cols)++List.replicate (rows-hs.length) Q9).set hs.length (slB cols h))).toArray:=hBg2;rw[hset] at hBg2;have hB2:Below w.heap.size w W2:=u2.below (hB.trans (e3.mono hsz)) (by omega);have hsz2:W2.heap.size=W1.heap.size:=u2.size;have hhn:h∉hs:=λhm=>by have:=hlW h hm;omega
  have f4:FB eQ 39 (offM S gb (hs++[h])) W2 h (List.replicate cols q0):=f3.upd u2 (by omega) (λh=>h.2.1 O);have k3:=(k3.ext e3).upd u2 (show b3≠gb by omega);have hrow2:∀ (i x:Nat),hs[i]?=some x->FB eQ 39 (offM S gb (hs++[h])) W2 x (tab cols (g i)):=λi x hx=>by
   have h1:=(hrow i x hx).mono (S':=offM S gb (hs++[h])) λk hk hS=>⟨hS.1,hS.2.1,λhm=>by
    rcases List.mem_append.1 hm with h' | h'
    ·exact hS.2.2 h'
    ·have:=List.mem_singleton.1 h';omega⟩
   have hxm:=hge x (List.mem_iff_getElem?.2 ⟨i,hx⟩);exact (h1.ext e3).upd u2 (by omega) λh=>h.2.1 rfl
  have hesz':∀ e∈(hs++[h]).map (slB cols)++List.replicate (rows-(hs.length+1)) Q9,e.cells.size=1:=λe he=>by
   rcases List.mem_append.1 he with h | h
   ·obtain⟨_,_,rfl⟩:=List.mem_map.1 h;rfl
   ·rw[(List.mem_replicate.1 h).2];rfl
  have hcell:(cellsOf ((hs++[h]).map (slB cols)++List.replicate (rows-(hs.length+1)) Q9)).toArray[0+hs.length*1]?=some (slB cols h):=by
   have hg:((hs++[h]).map (slB cols)++List.replicate (rows-(hs.length+1)) Q9)[hs.length]?=some (slB cols h):=by rw[bQ (by simp),aI,bT (aA _)];simp
   have:=F0 _ hs.length 0 _ hesz' hg (by decide);rw[bN,show 0+hs.length*1=hs.length*1+0 by omega,this];rfl
  generalize hes':(hs++[h]).map (slB cols)++List.replicate (rows-(hs.length+1)) Q9=es' at hBg2 hcell hesz';refine .sr (.mv O O (.mv O O (.ixB (i:=hs.length) E4 C2 O O O hlt (.ld C2 O O hBg2 hcell (.len C9 O O (.mv O O (.nil ?_)))))));have hge2:∀ k∈hs++[h],w2.heap.size<=k:=λk hk=>by
   rcases List.mem_append.1 hk with h' | h'
   ·exact hge k h'
   ·have:=List.mem_singleton.1 h';omega
  have hnd2:(hs++[h]).Nodup:=List.nodup_append.2 ⟨hnd,by simp,λa ha b hb=>by rw[List.mem_singleton.1 hb];exact λe=>hhn (e▸ha)⟩;refine .block (.loop (α:=Nat) (λk=>[(7,.slice (some ⟨gb,0,none⟩) rows rows),(3,pW b3),(2,iW (cols:Nat)),(13,iW (rows:Nat)),(14,iW (hs.length:Nat)),(8,iW (hs.length:Nat)),(26,iW (cols:Nat)),(27,iW (k:Nat))])
   (λk W=>Below w.heap.size w W/\k<=cols/\Kp (λk=>k≠h) W2 W/\W2.heap.size<=W.heap.size/\FB eQ 39 (offM S gb (hs++[h])) W h (fil cols k (λk=>qc (g hs.length k)) q0)) (λk=>cols-k) 0 ?_ ?_ ?_)
  ·exact lkA rfl
  ·exact⟨hB2,aC _,λk c t f _ h=>h,aA _,by rw[R8];exact f4⟩
  rintro k W3 ⟨hB3,hk,hK,hsz3,hFB3⟩;refine .sr ?_;rcases aB k cols with hlk | hgk;rotate_left
  ·refine .lssF O O O (by omega) (.nil (.seq (.condF O (.exit ?_))));have:k=cols:=by omega
   subst this;rw[AI3] at hFB3;refine .region (.add O O O (.mv O O (.nil ?_)));rw[wI (by omega)];refine⟨rfl,hs++[h],B7 O (B7 O (B7 O (B7 O (B7 (by rw[aL];rfl) AX5)))),⟨hB3,by rw[aL];exact hlt,?_,hK.blk (show b3≠h by omega) k3,hnd2,hge2,λi x hx=>?_⟩,by rw[aL];show rows-(hs.length+1)<rows-hs.length;omega⟩
   ·rw[aL];show Blk W3 gb _ (cellsOf ((hs++[h]).map (slB k)++List.replicate (rows-(hs.length+1)) Q9)).toArray;rw[hes'];exact hK.blk (show gb≠h by omega) hBg2
   ·rcases aB i hs.length with hil | hil
    ·rw[bQ hil] at hx;exact (hrow2 i x hx).kpn hK (λe=>hhn (e▸List.mem_iff_getElem?.2 ⟨i,hx⟩)) λhS=>hS.2.2 (by simp)
    ·have hlt':=(List.getElem?_eq_some_iff.1 hx).1;rw[aL] at hlt';have:i=hs.length:=by simp at hlt';omega
     subst this;rw[bT (aA _)] at hx;simp at hx;subst hx;exact hFB3
  refine .lssT O O O (by omega) (.nil (.seq (.condT O (.skip (.seq (.block (.sr (.mv O O (.an O O ?_)))))))));have hg3:=hK.blk (show gb≠h by omega) hBg2;have k33:=hK.blk (show b3≠h by omega) k3;refine .held follows true (λW'=>Blk W' gb 26 (cellsOf es').toArray/\Blk W' b3 246 #[fv])
   [some _,some _,some _,some (.slice (some ⟨h,0,none⟩) cols cols),some _,some _,some fv,some _,some _,none,none,none] (by kernel_rfl)
   ⟨λ_ _=>v_mv rfl,λ_ _=>v_mv rfl,λ_ _=>G6 (i:=hs.length) E4 C2 O O hlt,λ_ h=>E2 C2 O h.1 hcell,λ_ _=>v_mv rfl,λ_ _=>v_fa fld_FL0 rfl,λ_ h=>E2 ty_FE O h.2 rfl,λ_ _=>v_mv rfl,λ_ _=>v_mv rfl,trivial⟩ ?_
  intro W4 e4 _;have hB4:Below w.heap.size w W4:=hB3.trans (e4.mono hB3.size);have hs4:=e4.size;have hge3:∀ k∈hs++[h],w2.heap.size<=k/\k<W4.heap.size:=λk hk=>⟨hge2 k hk,by
   rcases List.mem_append.1 hk with h' | h'
   ·have:=hlW k h';omega
   ·have:=List.mem_singleton.1 h';omega⟩
  have hcall:=hf W4 (λk=>offM S gb (hs++[h]) k/\k≠h) hs.length k hB4 (λj hj hl=>⟨⟨hj,by omega,λhm=>by have:=hge3 j hm;omega⟩,by omega⟩) (λj hj=>⟨⟨up j (by omega),by omega,λhm=>by have:=hge3 j hm;omega⟩,by omega⟩) hlt hlk;subst hfv;refine .gv ⟨hg3.ext e4,k33.ext e4⟩ rfl (Ab4 [_,_] O hE O hcall) ?_;rintro v5 W5 ⟨e5,h5⟩;have e45:=e4.trans e5;refine .gv ⟨hg3.ext e45,k33.ext e45⟩ rfl (G6 (i:=k) C9 A3 O O hlk).gv ?_;rintro _ _ ⟨rfl,rfl⟩;refine .gv ⟨hg3.ext e45,k33.ext e45⟩ rfl (AQ3 (E:=eQ) (i:=k) (by decide) A3 O O (hFB3.ext e45) O (by rw[L7];exact hlk) (aD _) h5) ?_;rintro _ W6 ⟨hFB6,u6⟩;rw[X5 (f:=λk=>qc (g hs.length k))] at hFB6;refine .nil (.inl O) ?_;refine .region (.add O O O (.mv O O (.nil ?_)));rw[wI (by omega)];have hs6:=u6.size;have hs5:=e5.size;refine⟨rfl,k+1,lkA rfl,⟨u6.below (hB3.trans (e45.mono hB3.size)) (by omega),hlk,?_,by omega,hFB6⟩,by show cols-(k+1)<cols-k;omega⟩;intro j c t f hj hc;exact (u6.block j hj).trans ((e45.block j (Array.getElem?_eq_some_iff.1 (hK j c t f hj hc)).1).trans (hK j c t f hj hc))
 ·rintro hs W ⟨hB,hge,hM⟩;refine .sr (.mv O O (.an O O (.ret ?_)));exact .p1 _ results253 O ⟨hB,gb,hs,rfl,by omega,hge,hM⟩
theorem BK6{S:Nat->Prop}{w:World}{f:FuncId}{g:Nat->Nat->Rat}(up:Up S w)(hr:rows<=1000000000)(hc:cols<=1000000000)(hE:Ent prog f)(hf:∀ (W:World) (T:Nat->Prop) (i k:Nat),Below w.heap.size w W->(∀ j,S j->j<w.heap.size->T j)->Up T W->i<rows->k<cols->CR prog f ([iW (i:Nat),iW (k:Nat)].toArray++cap) W (eQ.at T (qc (g i k)))) :
  CR prog 253 #[.agg #[.func (.func f) #[] cap],iW rows,iW cols] w (FBat 26 S w.heap.size rows (C6 rows cols g)) :=
 (BK7 up hr hc hE hf).mono λ_ _ _ h=>h.toF up (by omega)
theorem Bx0{S:Nat->Prop}{w:World}{f:FuncId}{g:Nat->Nat->Rat}(up:Up S w)(hr:rows<=1000000000)(hc:cols<=1000000000)(hE:Ent prog f)(hf:∀ (W:World) (T:Nat->Prop) (i k:Nat),Below w.heap.size w W->(∀ j,S j->j<w.heap.size->T j)->Up T W->i<rows->k<cols->CR prog f ([iW (i:Nat),iW (k:Nat)].toArray++cap) W (eQ.at T (qc (g i k)))) :
  CR prog 253 #[.agg #[.func (.func f) #[] cap],iW rows,iW cols] w (eM.at S (C6 rows cols g)) :=
 (BK6 up hr hc hE hf).mono λ_ _ _ h=>h.toR up (A8 _ _ _) (by omega)
theorem BJ3:F6 prog 246=some (true,1):=by kernel_rfl
theorem BL8:M0 prog 246=some (.agg #[.nilFunc]):=by kernel_rfl
theorem Bf0{f:FuncId}:AK4 prog 246 [(0,.func (.func f) #[] cap)]=some #[.func (.func f) #[] cap]:=by kernel_rfl
theorem Bz4{S T:Nat->Prop}{w W:World}(h:eM.R S w vm m)(hB:Below B w W)(hle:w.heap.size<=B)(hT:∀ k,S k->k<w.heap.size->T k):eM.R T W vm m:=by have h1:=ER.lt eM h;have h2:eM.R (λk=>S k/\k<w.heap.size) W vm m:=eM.keep (λk c t f hk hc=>(hB.block k (by have:=hk.2;omega)).trans hc) h1;exact eM.mono (λk _ hk=>hT k hk.1 hk.2) h2
theorem Bq3:Ent prog 258:=en func258
theorem Bp8{S:Nat->Prop}{w:World}{i k:Int}{b L:Nat}(up:Up S w)(hb:Blk w b 70 #[vm])(hm:eM.R S w vm m)(hk:mk_ L m)(hL:1<=L)(hL2:L<=10000000000) :
  CR prog 258 #[iW i,iW k,pW b] w (eQ.at S (qc (rmI m i k))):=by
 refine enter func258 O ntmps258 O (.sr (.alloc O E8 λw1 b5 n1=>.nil ?_));obtain⟨e1,k5,hb5,hs1⟩:=n1;have hS5:¬ Sx S w.heap.size w1.heap.size b5:=Sx.no (by omega) (by omega);have up1:Up (Sx S w.heap.size w1.heap.size) w1:=Sx.up up (aA _) e1.size;have hm1:=(ER.par eM hm w1.heap.size).ext e1;refine .sr (.ld AK7 O O (hb.ext e1) O (.mv O O (.mv O O (.call _ O AZ7 O (AX4 up1 hm1 hk hL hL2) λv2 w2 e2 h2=>(.storeA (E:=eQ) A3 O O (k5.ext e2) O O h2 hS5 λw3 k3 u3 h3=>.nil (.ret ?_))))));exact .cell results258 O A3 O O k3 h3 ⟨u3.below (e1.trans e2) (by omega),h3.out⟩
def AH2 (n:Int):Nat:=(max 0 (min n 1024)).toNat
theorem Aw8(n:Int):(max 0 (min n 1024))=((AH2 n:Nat):Int):=by unfold AH2;omega
theorem Al5(n:Int):AH2 n<=1024:=by unfold AH2;omega
theorem BR7:Ent prog 233:=en func233
theorem BG7{S:Nat->Prop}{w:World}{r c:Int}{L:Nat}(up:Up S w)(hm:eM.R S w vm m)(hk:mk_ L m)(hL:1<=L)(hL2:L<=10000000000) :
  CR prog 233 #[vm,iW r,iW c] w (MBat 26 39 S w.heap.size (AH2 r) (AH2 c) (C6 (AH2 r) (AH2 c) (rm m))):=by
 obtain⟨am,cm,hvm,_⟩:=RL.len hm;have hcells:vm.cells=#[vm]:=by rw[hvm];rfl
 have hr:=Al5 r;have hc:=Al5 c;refine enter func233 O ntmps233 O ?_;refine .sr (.box O O λw1 b3 n1=>.an O O ?_);obtain⟨e1,k3,hb3,hs1⟩:=n1;rw[hcells] at k3;refine .sr (.mkf [] [_] O O O O (.bld _ O O Bf0 (.alloc O BL8 λw2 b7 n2=>?_)));obtain⟨e2,k7,hb7,hs2⟩:=n2;refine .store BJ3 O O k7 O (by simp[Value.cells]) (by simp[H3,Value.cells]) λw3 k7 u3=>.nil ?_;have x3:Ext w w3:=u3.below (e1.trans e2) (by omega);have k3:=(k3.ext e2).upd u3 (show b3≠b7 by omega);have hs3:w3.heap.size=w2.heap.size:=u3.size;replace k7:Blk w3 b7 246 #[.func (.func 258) #[] #[pW b3]]:=k7;refine .seq ?_;refine .par follows 5 [.inl (.agg #[.func (.func 258) #[] #[pW b3]]),.inl _,.inl (iW (AH2 r)),.inl _,.inl (iW (AH2 c))] [[],[],[(11,1)],[],[(13,3)]] (by kernel_rfl) ⟨λw e=>(E1 BJ3 O (k7.ext e) O).ob,mvo O,λw e=>(A4 _ AU0 O (by rw[<-Aw8];exact AS8)).obIs,mvo O,λw e=>(A4 _ AU0 O (by rw[<-Aw8];exact AS8)).obIs,trivial⟩ ?_;intro w4 e4;have x4:=x3.trans e4;refine .call _ O BE7 O (BK7 (S:=S) (g:=rm m) (up.ext x4.size) (by omega) (by omega) Bq3 λW T i k hB hT hup hi hk'=>?_) λv5 w5 e5 h5=>.an O O (.ret ?_)
 ·have hx4:=x4.size;have hbl:=(k3.ext e4).lt;have:=Bp8 (i:=(i:Int)) (k:=(k:Int)) hup ((hB.block b3 hbl).trans (k3.ext e4)) (Bz4 (hm.ext x4) hB (aA _) hT) hk hL hL2;rw[Aa6] at this;exact this
 ·obtain⟨gb,hs,hv,hgb,hge,hF⟩:=h5;exact .p1 _ results233 O ⟨x4.trans e5,gb,hs,hv,by have:=x4.size;omega,λk hk=>by have:=hge k hk;have:=x4.size;omega,hF⟩
def idn (i k:Nat):Rat:=if i=k then 1 else 0
theorem Ba4:Ent prog 260:=en func260
theorem BY5{S:Nat->Prop}{w:World}{i k:Nat}(up:Up S w):CR prog 260 #[iW i,iW k] w (eQ.at S (qc (idn i k))):=by
 refine enter func260 O ntmps260 O (.sr (.alloc O E8 λw1 b4 n1=>.nil ?_));obtain⟨e1,k4,hb4,hs1⟩:=n1;have hS4:¬ Sx S w.heap.size w1.heap.size b4:=Sx.no (by omega) (by omega);have up1:Up (Sx S w.heap.size w1.heap.size) w1:=Sx.up up (aA _) e1.size;refine .seq (.sr (.mv O O (.mv O O ?_)));by_cases h:i=k
 ·have hid:idn i k=((1:Int):Rat):=by unfold idn;rw[if_pos h];rfl
  refine .eqlT O O O (by omega) (.nil (.condT O (.sr (.call _ O I2 O (H9 (n:=1) up1 (by omega) (by omega)) λv2 w2 e2 h2=>(.storeA (E:=eQ) A3 O O (k4.ext e2) O O h2 hS4 λw3 k3 u3 h3=>.nil (.ret ?_))))));exact .cell results260 O A3 O O k3 h3 ⟨u3.below (e1.trans e2) (by omega),by rw[hid];exact h3.out⟩
 ·have hid:qc (idn i k)=q0:=by unfold idn;rw[if_neg h,Q7]
  refine .eqlF O O O (by omega) (.nil (.condF O (.skip (.sr (.bld _ O O AC4 (.storeA (E:=eQ) A3 O O k4 O O (S:=Sx S w.heap.size w1.heap.size) AF1 hS4 λw3 k3 u3 h3=>.nil (.ret ?_)))))));exact .cell results260 O A3 O O k3 h3 ⟨u3.below e1 (by omega),by rw[hid];exact h3.out⟩
theorem BE8:Ent prog 234:=en func234
theorem BA5{S:Nat->Prop}{w:World}{n:Int}(up:Up S w):CR prog 234 #[iW n] w (eM.at S (C6 (AH2 n) (AH2 n) idn)):=by
 have hn:=Al5 n;refine enter func234 O ntmps234 O ?_;refine .sr (.an O O (.sr (.bld _ O O Bf0 (.alloc O BL8 λw2 b7 n2=>?_))));obtain⟨e2,k7,hb7,hs2⟩:=n2;refine .store BJ3 O O k7 O (by simp[Value.cells]) (by simp[H3,Value.cells]) λw3 k7 u3=>.nil ?_;have x3:Ext w w3:=u3.below e2 (by omega);replace k7:Blk w3 b7 246 #[.func (.func 260) #[] #[]]:=k7;refine .seq ?_;refine .par follows 5 [.inl (.agg #[.func (.func 260) #[] #[]]),.inl _,.inl (iW (AH2 n)),.inl _,.inl (iW (AH2 n))] [[],[],[(6,1)],[],[(8,3)]] (by kernel_rfl) ⟨λw e=>(E1 BJ3 O (k7.ext e) O).ob,mvo O,λw e=>(A4 _ AU0 O (by rw[<-Aw8];exact AS8)).obIs,mvo O,λw e=>(A4 _ AU0 O (by rw[<-Aw8];exact AS8)).obIs,trivial⟩ ?_;intro w4 e4;have x4:=x3.trans e4;refine .call _ O BE7 O (Bx0 (S:=S) (g:=idn) (up.ext x4.size) (by omega) (by omega) Ba4 λW T i k hB hT hup hi hk'=>?_) λv5 w5 e5 h5=>.an O O (.ret ?_)
 ·have:=BY5 (S:=T) (w:=W) (i:=i) (k:=k) hup;exact this
 exact .p1 _ results234 O ⟨x4.trans e5,h5⟩
theorem R6{P:Program}{w:World}{d:Option Tmp}{pos:String}{g:Option (Nat×Bool)}{t:TypeId}{z:Value}(hz:M0 P t=some z)(hB:B<=w.heap.size) :
  Gv P ⟨d,.alloc t,ty,pos,af,g⟩ σ w λv' w'=>Ext w w'/\Sp.ok (.inr (Ah4 B t z.cells)) v' w' :=
 (BP5 hz).mono λv' w' ⟨b,hv,hn⟩=>⟨hn.1,λw'' e=>⟨b,hv,by have:=hn.2.2.1;omega,hn.2.1.ext e⟩⟩
theorem F5{n:Nat}{f g:Nat->Rat}(h:∀ k,k<n->f k=g k):tab n f=tab n g:=by unfold tab;apply cK;intro k hk;rw[h k (List.mem_range.1 hk)]
def Ap0 (a b:List (List QV)) (i k:Nat):Rat:=if k<A1 a then rm a i k else rm b i (k-A1 a)
theorem Bq4:Ent prog 252:=en func252
theorem Bq7{S:Nat->Prop}{w:World}{va vb:Value}{a b:List (List QV)}{i k:Nat}{bl ba bb L:Nat}(up:Up S w)(kl:Blk w bl 3 #[iW (A1 a)])(ka:Blk w ba 70 #[va])(kb:Blk w bb 70 #[vb])(ha:eM.R S w va a)(hb:eM.R S w vb b)(hka:mk_ L a)(hkb:mk_ L b)(hL:1<=L)(hL2:L<=10000000000)(hc:A1 a<=1000000000)(hk:k<=2000000000) :
  CR prog 252 #[iW i,iW k,pW bl,pW ba,pW bb] w (eQ.at S (qc (Ap0 a b i k))):=by
 refine enter func252 O ntmps252 O (.sr (.alloc O E8 λw1 b5 n1=>.nil ?_));obtain⟨e1,k5,hb5,hs1⟩:=n1;have hS5:¬ Sx S w.heap.size w1.heap.size b5:=Sx.no (by omega) (by omega);have up1:Up (Sx S w.heap.size w1.heap.size) w1:=Sx.up up (aA _) e1.size;have ha1:=(ER.par eM ha w1.heap.size).ext e1;have hb1:=(ER.par eM hb w1.heap.size).ext e1;refine .seq (.sr (.mv O O (.ld A5 O O (kl.ext e1) O ?_)));by_cases h:k<A1 a
 ·refine .lssT O O O (by omega) (.nil (.condT O (.sr (.ld AK7 O O (ka.ext e1) O (.mv O O (.mv O O (.call _ O AZ7 O (AX4 up1 ha1 hka hL hL2) λv2 w2 e2 h2=>(.storeA (E:=eQ) A3 O O (k5.ext e2) O O h2 hS5 λw3 k3 u3 h3=>.nil (.ret ?_)))))))));have hv:Ap0 a b i k=rmI a i k:=by unfold Ap0;rw[if_pos h,Aa6]
  exact .cell results252 O A3 O O k3 h3 ⟨u3.below (e1.trans e2) (by omega),by rw[hv];exact h3.out⟩
 ·refine .lssF O O O (by omega) (.nil (.condF O (.skip (.sr (.ld AK7 O O (kb.ext e1) O (.mv O O (.mv O O (.ld A5 O O (kl.ext e1) O (.sub O O O ?_)))))))));rw[wI (by omega),show (k:Int)-(A1 a:Int)=((k-A1 a:Nat):Int) by omega];refine .call _ O AZ7 O (AX4 up1 hb1 hkb hL hL2) λv2 w2 e2 h2=>(.storeA (E:=eQ) A3 O O (k5.ext e2) O O h2 hS5 λw3 k3 u3 h3=>.nil (.ret ?_));have hv:Ap0 a b i k=rmI b i (k-A1 a:Nat):=by unfold Ap0;rw[if_neg h,Aa6]
  exact .cell results252 O A3 O O k3 h3 ⟨u3.below (e1.trans e2) (by omega),by rw[hv];exact h3.out⟩
theorem AU1:Ent prog 230:=en func230
theorem AO3{S:Nat->Prop}{w:World}{va vb:Value}{a b:List (List QV)}{L:Nat}(up:Up S w)(ha:eM.R S w va a)(hb:eM.R S w vb b)(hka:mk_ L a)(hkb:mk_ L b)(hL:1<=L)(hL2:L<=10000000000)(hra:a.length<=100000000)(hrb:b.length<=100000000)(hca:A1 a<=100000000)(hcb:A1 b<=100000000) :
  CR prog 230 #[va,vb] w (FBat 26 S w.heap.size (max a.length b.length) (C6 (max a.length b.length) (A1 a+A1 b) (Ap0 a b))):=by
 obtain⟨aa,ca,hva,_⟩:=RL.len ha;obtain⟨ab,cb,hvb,_⟩:=RL.len hb;have hcells:va.cells=#[va]:=by rw[hva];rfl
 have hcells':vb.cells=#[vb]:=by rw[hvb];rfl
 refine enter func230 O ntmps230 O ?_;refine .sr (.box O O λw1 b2 n1=>.box O O λw2 b3 n2=>.an O O ?_);obtain⟨e1,k2,hb2,hs1⟩:=n1;obtain⟨e2,k3,hb3,hs2⟩:=n2;rw[hcells] at k2;rw[hcells'] at k3;have x2:=e1.trans e2;have k2:=k2.ext e2;refine .seq ?_;refine .par follows 5 [.inl va,.inl (iW (A1 a)),.inl vb,.inl (iW (A1 b)),.inr (Ah4 w2.heap.size 3 #[iW 0])] [[],[(8,0)],[],[(10,2)],[]] (by kernel_rfl) ⟨λw e=>(E2 AK7 O (k2.ext e) O).ob,λw e=>(A4 _ AE0 O (AD4 ((ha.ext x2).ext e))).obIs,λw e=>(E2 AK7 O (k3.ext e) O).ob,λw e=>(A4 _ AE0 O (AD4 ((hb.ext x2).ext e))).obIs,λw e=>R6 Ax1 e.size,trivial⟩ ?_;intro w3 e3 x4 hx4;obtain⟨b5,rfl,hb5,k5⟩:=hx4;refine .store A5 O O k5 O (by simp) (by simp[H3,Value.cells]) λw4 k5 u4=>.an O O ?_;have x3:=x2.trans e3;have x4:Ext w w4:=u4.below x3 (by have:=x2.size;omega);have k2:=(k2.ext e3).upd u4 (show b2≠b5 by omega);have k3:=(k3.ext e3).upd u4 (show b3≠b5 by omega);replace k5:Blk w4 b5 3 #[iW (A1 a)]:=k5;refine .sr (.mkf [] [_,_,_] O O O O (.bld _ O O Bf0 (.alloc O BL8 λw5 b7 n5=>?_)));obtain⟨e5,k7,hb7,hs5⟩:=n5;refine .store BJ3 O O k7 O (by simp[Value.cells]) (by simp[H3,Value.cells]) λw6 k7 u6=>.nil ?_;have hl2:=k2.lt;have hl3:=k3.lt;have hl5:=k5.lt;have x6:Ext w w6:=u6.below (x4.trans e5) (by have:=x4.size;omega);have k2:=(k2.ext e5).upd u6 (show b2≠b7 by omega);have k3:=(k3.ext e5).upd u6 (show b3≠b7 by omega);have k5:=(k5.ext e5).upd u6 (show b5≠b7 by omega);refine .sr (.ldA BJ3 O O k7 O (.ld AK7 O O k2 O (.lenR E4 O O (ha.ext x6) (.ld AK7 O O k3 O (.lenR E4 O O (hb.ext x6) (.max_ O O O (.ld A5 O O k5 O (.mv O O (.add O O O ?_)))))))));rw[wI (by omega),show (max (a.length:Int) (b.length:Int))=((max a.length b.length:Nat):Int) by omega,<-dN];refine .call _ O BE7 O (BK6 (S:=S) (g:=Ap0 a b) (f:=252) (cap:=#[pW b5,pW b2,pW b3]) (up.ext x6.size) (by omega) (by omega) Bq4 λW T i k hB hT hup hi hk'=>?_) λv8 w8 e8 h8=>.an O O (.ret ?_)
 ·have:=Bq7 (S:=T) (w:=W) (i:=i) (k:=k) hup ((hB.block b5 k5.lt).trans k5) ((hB.block b2 k2.lt).trans k2) ((hB.block b3 k3.lt).trans k3) (Bz4 (ha.ext x6) hB (aA _) hT) (Bz4 (hb.ext x6) hB (aA _) hT) hka hkb hL hL2 (by omega) (by omega);exact this
 ·obtain⟨gb,hv,hgb,hF⟩:=h8;exact .p1 _ results230 O ⟨x6.trans e8,gb,hv,by have:=x6.size;omega,hF⟩
theorem BO3{S:Nat->Prop}{w:World}{va vb:Value}{a b:List (List QV)}{L:Nat}(up:Up S w)(ha:eM.R S w va a)(hb:eM.R S w vb b)(hka:mk_ L a)(hkb:mk_ L b)(hL:1<=L)(hL2:L<=10000000000)(hra:a.length<=100000000)(hrb:b.length<=100000000)(hca:A1 a<=100000000)(hcb:A1 b<=100000000) :
  CR prog 230 #[va,vb] w (eM.at S (C6 (max a.length b.length) (A1 a+A1 b) (Ap0 a b))) :=
 (AO3 up ha hb hka hkb hL hL2 hra hrb hca hcb).mono λ_ _ _ h=>h.toR up (A8 _ _ _) (by omega)
theorem Ah1{a:Option Addr}{n c:Nat}:Y7 prog 70 1 [(0,.slice a n c)]=some (26,#[.slice a n c]):=by kernel_rfl
def eqM (a b:List (List QV)):Prop:=∀ i k,rm a i k=rm b i k
noncomputable instance (a b:List (List QV)):Decidable (eqM a b):=Classical.propDecidable _
theorem Bl5:M0 prog 4=some (.bool false):=by kernel_rfl
noncomputable def same {α:Type} (a b:α):Bool:=@decide (a=b) (Classical.propDecidable _)
theorem AD3{a b:α}(h:a=b):same a b=true:=by unfold same;exact @decide_eq_true _ (Classical.propDecidable _) h
theorem U3{a b:α}(h:a≠b):same a b=false:=by unfold same;exact @decide_eq_false _ (Classical.propDecidable _) h
theorem Bm0(a:α):same a a=true:=AD3 rfl
theorem Ad3{a b:List α}(z:α)(hl:a.length=b.length)(h:∀ k,k<a.length->a.getD k z=b.getD k z):a=b:=by apply fT hl;intro k h1 h2;have:=h k h1;rw[aF,aF,aE h1,aE h2] at this;simpa using this
theorem Am7:Ent prog 122:=en func122
theorem Ak0{S:Nat->Prop}{w:World}{va vb:Value}{a b:ZV}(ha:eZ.R S w va a)(hb:eZ.R S w vb b):CR prog 122 #[va,vb] w (Is (.bool (same a b))):=by
 obtain⟨s,rfl,hs⟩:=ha;obtain⟨t,rfl,ht⟩:=hb;obtain⟨an,aw⟩:=a;obtain⟨bn,bw⟩:=b;replace hs:eW.R S w s aw:=hs;replace ht:eW.R S w t bw:=ht;have hla:=Af0 hs;have hlb:=Af0 ht;refine enter func122 O ntmps122 O ?_;refine .sr (.box O O λw1 b2 n1=>.box O O λw2 b3 n2=>.an O O ?_);obtain⟨e1,k2,hb2,hs1⟩:=n1;obtain⟨e2,k3,hb3,hs2⟩:=n2;have x2:=e1.trans e2;replace k2:Blk w2 b2 37 #[.bool an,s]:=k2.ext e2;replace k3:Blk w2 b3 37 #[.bool bn,t]:=k3;refine .seq (.sr (.fa J5 O O (.ld D6 O O k2 O (.fa J5 O O (.ld D6 O O k3 O (.neqB AL7 O O O (.mv O O ?_)))))));have hfalse:∀ {σ:Env} {W:World},Ext w W->(ZV.mk an aw)≠⟨bn,bw⟩->YtpgkacdihhjknaaGreat.look σ 4=some (.bool false)->Q3 prog Tryz.f122 38 (λv w'=>Ext w w'/\Is (.bool (same (ZV.mk an aw) ⟨bn,bw⟩)) v w') σ [] W:=by intro σ W hW hne hl;exact .plain [_] results122 ⟨hl,trivial⟩ ⟨hW,isB (U3 hne).symm⟩
 by_cases hn:an=bn
 ·subst hn;rw[show (an != an)=false by simp];refine .gr O O O O (.fa G9 O O (.gr O O O O (.ld L2 O O k2 O (.gr O O O O (.lenR E5 O O (hs.ext x2) (.gr O O O O (.fa G9 O O (.gr O O O O (.ld L2 O O k3 O (.gr O O O O (.lenR E5 O O (ht.ext x2) (.gr O O O O ?_))))))))))));by_cases hl:aw.length=bw.length
  ·refine .neqF O O O (by omega) (.pick O O O (.nil (.condF O (.skip (.seq (.sr (.an O O ?_)))))));refine .block (.loop (α:=Nat) (λi=>[(5,iW (i:Nat)),(2,pW b2),(3,pW b3)]) (λi W=>Ext w2 W/\i<=aw.length/\∀ j,j<i->aw.getD j 0=bw.getD j 0) (λi=>aw.length-i) 0 ?_ ?_ ?_)
   ·exact lkA rfl
   ·exact⟨.refl _,aC _,λj hj=>absurd hj (bK _)⟩
   ·rintro i W ⟨hW,hi,heq⟩;have xW:=x2.trans hW;refine .seq (.sr (.mv O O (.fa G9 O O (.ld L2 O O (k2.ext hW) O (.lenR E5 O O (hs.ext xW) ?_)))));by_cases hlt:i<aw.length
    ·refine .lssT O O O (by omega) (.nil (.condT O (.skip (.seq (.block (.seq ?_))))));refine .par follows 10 [.inl _,.inl s,.inl _,.inr (Ptr AQ8 S (aw.getD i 0)),.inl (.int .u32 (aw.getD i 0)),.inl _,.inl t,.inl _,.inr (Ptr AQ8 S (bw.getD i 0)),.inl (.int .u32 (bw.getD i 0))] [[],[(27,0)],[],[(28,1),(29,2)],[(30,3)],[],[(32,5)],[],[(33,6),(34,7)],[(35,8)]] (by kernel_rfl) ⟨fao G9 O,λw e=>(E2 L2 O ((k2.ext hW).ext e) O).ob,mvo O,λw e=>C4 E5 C1 O ((hs.ext xW).ext e) O (F3 hlt),λw e x hx=>AB6 C1 O hx,fao G9 O,λw e=>(E2 L2 O ((k3.ext hW).ext e) O).ob,mvo O,λw e=>C4 E5 C1 O ((ht.ext xW).ext e) O (F3 (by omega)),λw e x hx=>AB6 C1 O hx,trivial⟩ ?_;intro W1 e1 x3 hx3 x8 hx8;by_cases hx:aw.getD i 0=bw.getD i 0
     ·refine .neqF O O O (by rw[hx]) (.nil (.condF O (.skip (.region (.mv O O (.add O O O (.an O O ?_)))))));rw[wI (by omega)];refine⟨rfl,i+1,lkA rfl,⟨hW.trans e1,hlt,λj hj=>?_⟩,by show aw.length-(i+1)<aw.length-i;omega⟩;by_cases e:j=i
      ·subst e;exact hx
      ·exact heq j (by omega)
     ·refine .neqT O O O (by omega) (.nil (.condT O (.sr (.an O O (.ret ?_)))));exact hfalse (xW.trans e1) (λh=>hx (by injection h with h1 h2;rw[h2])) rfl
    ·refine .lssF O O O (by omega) (.nil (.condF O (.exit (.sr (.an O O (.ret ?_))))));have hww:aw=bw:=Ad3 0 hl λk hk=>heq k (by omega);exact .plain [_] results122 ⟨rfl,trivial⟩ ⟨xW,isB (by rw[hww];exact (Bm0 _).symm)⟩
  ·refine .neqT O O O (by omega) (.pick O O O (.nil (.condT O (.sr (.an O O (.ret ?_))))));exact hfalse x2 (λh=>hl (by injection h with h1 h2;rw[h2])) rfl
 ·rw[show (an != bn)=true by simpa using hn];refine .gs O O O O O (.gs O O O O O (.gs O O O O O (.gs O O O O O (.gs O O O O O (.gs O O O O O (.gs O O O O O (.pick O O O (.nil (.condT O (.sr (.an O O (.ret ?_))))))))))));exact hfalse x2 (λh=>hn (by injection h)) rfl
theorem Bf7:Ent prog 74:=en func74
theorem Bc3{S:Nat->Prop}{w:World}{va vb:Value}{a b:QV}(ha:eQ.R S w va a)(hb:eQ.R S w vb b):CR prog 74 #[va,vb] w (Is (.bool (same a b))):=by
 obtain⟨s,t,rfl,hn,hd⟩:=AG1 ha;obtain⟨s',t',rfl,hn',hd'⟩:=AG1 hb;refine enter func74 O ntmps74 O (.sr (.box O O λw1 b2 n1=>.box O O λw2 b3 n2=>.an O O ?_));obtain⟨e1,k2,hb2,hs1⟩:=n1;obtain⟨e2,k3,hb3,hs2⟩:=n2;have x2:=e1.trans e2;have k2:=k2.ext e2;have two:∀ {x y:Value} {o:Nat} {cs:Array Value},cs[o]?=some x->cs[o+1]?=some y->∀ j u,[x,y][j]?=some u->cs[o+j]?=some u:=by
  intro x y o cs h1 h2 j u hu;match j with
  | 0=>simpa[h1] using hu
  | 1=>simpa[h2] using hu
  | j+2=>simp at hu
 refine .sr (.fa AC2 O O (.ldN [.bool a.num.neg,s] B6 O O k2 (two O O) (.fa AC2 O O (.ldN [.bool b.num.neg,s'] B6 O O k3 (two O O) (.call _ O Am7 O (Ak0 (hn.ext x2) (hn'.ext x2)) λv3 w3 e3 h3=>?_)))));subst h3;have x3:=x2.trans e3;have qeq:∀ {p q:QV},p.num=q.num->p.den=q.den->p=q:=by rintro⟨n,d⟩ ⟨n',d'⟩ rfl rfl;rfl
 by_cases h:a.num=b.num
 ·rw[AD3 h];refine .mv O O (.gr O O O O (.fa AC1 O O (.gr O O O O (.ldN [.bool a.den.neg,t] B6 O O (k2.ext e3) (two O O) (.gr O O O O (.fa AC1 O O (.gr O O O O (.ldN [.bool b.den.neg,t'] B6 O O (k3.ext e3) (two O O) (.gr O O O O (.call _ O Am7 O (Ak0 (hd.ext x3) (hd'.ext x3)) λv4 w4 e4 h4=>?_))))))))));subst h4;refine .pick O O O (.an O O (.ret (.plain [_] results74 ⟨rfl,trivial⟩ ⟨x3.trans e4,isB ?_⟩)));by_cases h':a.den=b.den
  ·rw[AD3 h',AD3 (qeq h h')]
  ·rw[U3 h',U3 (λe=>h' (by rw[e]))]
 ·rw[U3 h];refine .mv O O (.gs O O O O O (.gs O O O O O (.gs O O O O O (.gs O O O O O (.gs O O O O O (.pick O O O (.an O O (.ret ?_))))))));exact .plain [_] results74 ⟨rfl,trivial⟩ ⟨x3,isB (U3 (λe=>h (by rw[e]))).symm⟩
theorem AT7:Ent prog 34:=en func34
theorem Bc2{S:Nat->Prop}{w:World}{va vb:Value}{a b:List QV}(ha:eV.R S w va a)(hb:eV.R S w vb b):CR prog 34 #[va,vb] w (Is (.bool (same a b))):=by
 obtain⟨_,_,_,_,hla⟩:=RL.len ha;refine enter func34 O ntmps34 O (.sr (.an O O (.seq (.sr (.mv O O (.lenR C9 O O ha (.mv O O (.lenR C9 O O hb ?_))))))));by_cases hl:a.length=b.length
 ·refine .neqF O O O (by omega) (.nil (.condF O (.skip (.seq (.sr (.an O O (.block (.loop (α:=Nat) (λi=>[(5,iW (i:Nat)),(0,va),(1,vb)]) (λi W=>Ext w W/\i<=a.length/\∀ j,j<i->a.getD j q0=b.getD j q0) (λi=>a.length-i) 0 ?_ ?_ ?_))))))))
  ·exact lkA rfl
  ·exact⟨.refl _,aC _,λj hj=>absurd hj (bK _)⟩
  ·rintro i W ⟨hW,hi,heq⟩;refine .seq (.sr (.mv O O (.mv O O (.lenR C9 O O (ha.ext hW) ?_))));by_cases hlt:i<a.length
   ·refine .lssT O O O (by omega) (.nil (.condT O (.skip (.seq (.block (.seq ?_))))));refine .par follows 8 [.inl _,.inl _,.inr (Ptr eQ S (a.getD i q0)),.inr (eQ.at S (a.getD i q0)),.inl _,.inl _,.inr (Ptr eQ S (b.getD i q0)),.inr (eQ.at S (b.getD i q0))] [[],[],[(17,0),(18,1)],[(19,2)],[],[],[(21,4),(22,5)],[(23,6)]] (by kernel_rfl) ⟨mvo O,mvo O,λw e=>C4 C9 A3 O ((ha.ext hW).ext e) O (B0 hlt),λw e x hx=>K1 A3 O hx,mvo O,mvo O,λw e=>C4 C9 A3 O ((hb.ext hW).ext e) O (B0 (by omega)),λw e x hx=>K1 A3 O hx,trivial⟩ ?_;intro W1 e1 x2 _ x3 hx3 x6 _ x7 hx7;refine .call _ O Bf7 O (Bc3 hx3 hx7) λv2 W2 e2 h2=>?_;subst h2;by_cases hx:a.getD i q0=b.getD i q0
    ·rw[AD3 hx];refine .not_ O O (.nil (.condF O (.skip (.region (.mv O O (.add O O O (.an O O ?_)))))));rw[wI (by omega)];refine⟨rfl,i+1,lkA rfl,⟨(hW.trans e1).trans e2,hlt,λj hj=>?_⟩,by show a.length-(i+1)<a.length-i;omega⟩;by_cases e:j=i
     ·subst e;exact hx
     ·exact heq j (by omega)
    ·rw[U3 hx];refine .not_ O O (.nil (.condT O (.sr (.an O O (.ret ?_)))));exact .plain [_] results34 ⟨rfl,trivial⟩ ⟨(hW.trans e1).trans e2,isB (U3 (λh=>hx (by rw[h]))).symm⟩
   ·refine .lssF O O O (by omega) (.nil (.condF O (.exit (.sr (.an O O (.ret ?_))))));have hww:a=b:=Ad3 q0 hl λk hk=>heq k (by omega);exact .p1 _ results34 O ⟨hW,isB (AD3 hww).symm⟩
 ·refine .neqT O O O (by omega) (.nil (.condT O (.sr (.an O O (.ret ?_)))));exact .plain [_] results34 ⟨rfl,trivial⟩ ⟨.refl _,isB (U3 (λh=>hl (by rw[h]))).symm⟩
def B3:List Nat->Nat
 | []=>0
 | x::l=>x+65536*B3 l
def AG2 (l:List Nat):Prop:=∀ x∈l,x<65536
def hlv (l:List Nat):List Nat:=l.flatMap λx=>[x % 65536,x / 65536]
theorem BW7(x:Nat)(l:List Nat):hlv (x::l)=x % 65536::x / 65536::hlv l:=rfl
theorem By2(l:List Nat)(x:Nat):hlv (l++[x])=hlv l++[x % 65536,x / 65536]:=by simp[hlv]
theorem Ag4(l:List Nat):(hlv l).length=2*l.length:=by
 induction l with
 | nil=>rfl
 | cons x l ih=>rw[BW7];simp[ih];omega
theorem Ax8(l:List Nat):B3 (hlv l)=val l:=by
 induction l with
 | nil=>rfl
 | cons x l ih=>rw[BW7];simp only[B3,val,ih];omega
theorem BC5{l:List Nat}(h:dig l):AG2 (hlv l):=by
 intro y hy;simp only[hlv,List.mem_flatMap,gE,List.not_mem_nil,or_false] at hy;obtain⟨x,hx,rfl | rfl⟩:=hy
 ·omega
 ·have:=h x hx;omega
theorem AV8(l r:List Nat):B3 (l++r)=B3 l+65536 ^ l.length*B3 r:=by
 induction l with
 | nil=>simp[B3]
 | cons x l ih=>simp only[gF,B3,ih,aS,aN];grind
theorem At3(k:Nat):B3 (List.replicate k 0)=0:=by
 induction k with
 | zero=>rfl
 | succ k ih=>simp[gG,B3,ih]
theorem Af2(l:List Nat):B3 (K2 l)=B3 l:=by
 obtain⟨k,hk⟩:=AF4 l;have:B3 l=B3 (K2 l++List.replicate k 0):=by rw[<-hk]
 rw[this,AV8,At3];omega
theorem Ag7{l:List Nat}(h:AG2 l):AG2 (K2 l):=by obtain⟨k,hk⟩:=AF4 l;intro x hx;exact h x (by rw[hk];exact iA _ hx)
def Y8:List Nat->List Nat
 | []=>[]
 | [x]=>[x]
 | x::y::r=>(x+65536*y)::Y8 r
theorem Ax7:∀ l,val (Y8 l)=B3 l
 | []=>rfl
 | [x]=>by simp[Y8,val,B3]
 | x::y::r=>by simp only[Y8,val,B3,Ax7 r];omega
theorem BC4:∀ {l:List Nat},AG2 l->dig (Y8 l)
 | [],_=>dig_nil
 | [x],h=>by
  have:=h x (by simp)
  intro y hy
  simp only[Y8,gQ] at hy
  omega
 | x::y::r,h=>by
  have h1:=h x (by simp)
  have h2:=h y (by simp)
  have ih:=BC4 (l:=r) λz hz=>h z (by simp[hz])
  exact Bz6.2 ⟨by omega,ih⟩
theorem Bm5{x:Nat}{l:List Nat}:Y8 (x::l)≠[]:=by cases l<;>simp[Y8]
theorem BD3:∀ {l:List Nat},can l->can (Y8 l)
 | [],_=>can_nil
 | [x],h=>h
 | [x,y],h=>by
  have:=h y (by simp)
  intro z hz
  simp only[Y8,List.getLast?_singleton,Option.some.injEq] at hz
  omega
 | x::y::z::r,h=>by
  have ih:=BD3 (l:=z::r) λu hu=>h u (by simpa[fL] using hu)
  intro u hu
  apply ih u
  simp only[Y8] at hu
  cases hp:Y8 (z::r) with
  | nil=>exact absurd hp Bm5
  | cons a b=>rw[hp] at hu;simpa[fL] using hu
theorem Bc4{l:List Nat}(h:AG2 l):Y8 (K2 l)=wds (B3 l):=by rw[<-Af2,<-Ax7,Ax4 (BC4 (Ag7 h)) (BD3 (Ab9 l))]
theorem BK2:∀ l,Y8 l=(List.range ((l.length+1) / 2)).map λt=>l.getD (2*t) 0+65536*l.getD (2*t+1) 0
 | []=>rfl
 | [x]=>by simp[Y8]
 | x::y::r=>by
  have:((x::y::r).length+1) / 2=(r.length+1) / 2+1:=by simp only[aS];omega
  rw[this,List.range_succ_eq_map,dT,List.map_map,Y8,BK2 r]
  congr 1
def eH:ER Nat where
 sz:=1
 isA:=false
 R:=λ_ _ e x=>e=.int .i64 x/\x<65536
 csz:=by rintro S w e x ⟨rfl,_⟩;rfl
 one:=by rintro S w e x ⟨rfl,_⟩ u hu;simp[Value.cells] at hu;subst hu;rfl
 shp:=by rintro S w e x ⟨rfl,_⟩;rfl
 keep:=λ_ h=>h
 mono:=λ_ h=>h
abbrev eHs:ER (List Nat):=RL eH
theorem AC3{S:Nat->Prop}{w:World}{v:Value}{l:List Nat}(h:eHs.R S w v l):AG2 l:=by
 intro x hx;obtain⟨es,he,_⟩:=h;obtain⟨i,hi⟩:=List.mem_iff_getElem?.1 hx;have hlt:i<l.length:=by
  rcases aB i l.length with h | h
  ·exact h
  ·rw[aH h] at hi;cases hi
 exact (he.2 i _ x (aE (by rw[he.1];exact hlt)) hi).2
abbrev hvv (x:Nat):Value:=.int .i64 x
@[reducible] def NewR (B:Nat) (t:TypeId) (len:Nat) (cs:Array Value):Value->World->Prop:=λv W=>∃ b,v=.slice (some ⟨b,0,none⟩) len len/\B<=b/\Blk W b t cs
theorem ob_bsl{P:Program}{w:World}{d:Option Tmp}{pos:String}{g:Option (Nat×Bool)}{t e:TypeId}{len:Nat}{ps:List (Nat×Operand)}(vs:List (Nat×Value)){cs:Array Value}(hv:evp σ ps=some vs)(hc:Y7 P t len vs=some (e,cs))(hB:B<=w.heap.size) :
  Gv P ⟨d,.buildSlice t len ps.toArray,ty,pos,af,g⟩ σ w λv' w'=>Ext w w'/\Sp.ok (.inr (NewR B e len cs)) v' w' :=
 (Ad7 vs hv hc).mono λv' w' ⟨b,hv,hn⟩=>⟨hn.1,λw'' e=>⟨b,hv,by have:=hn.2.2.1;omega,hn.2.1.ext e⟩⟩
theorem N1:prog.underlying 25=some (.slice 3):=by kernel_rfl
theorem AJ9:O8 prog 3=some (iW 0,1,8):=by kernel_rfl
theorem bsl_H2{x y:Int}:Y7 prog 25 2 [(0,iW x),(1,iW y)]=some (3,#[iW x,iW y]):=by kernel_rfl
theorem J7:Ent prog 237:=en func237
theorem J2{S:Nat->Prop}{w:World}{v:Value}{l:List Nat}(h:eHs.R S w v l):CR prog 237 #[v] w (eHs.at S (K2 l)):=by
 obtain⟨_,_,_,_,hlen⟩:=RL.len h;refine enter func237 O ntmps237 O (.sr (.an O O (.sr (.mv O O (.lenR N1 O O h (.an O O (.seq (.block (.loop (α:=Nat) (λn=>[(0,v),(3,iW (n:Nat))]) (λn W=>W=w/\n<=l.length/\K2 (l.take n)=K2 l) (λn=>n) l.length ?_ ?_ ?_)))))))))
 ·exact lkA rfl
 ·exact⟨rfl,aA _,by rw[aK (aA _)]⟩
 ·rintro n W ⟨rfl,hn,ht⟩;refine .seq (.sr (.mv O O ?_))
  cases n with
  | zero =>
   refine .gtrF O O O (by simp) (.mv O O (.gs O O O O O (.gs O O O O O (.gs O O O O O (.gs O O O O O (.gs O O O O O (.gs O O O O O (.pick O O O (.nil (.condF O (.exit (.sr (.mv O O (.mv O O (.cut 0 0 N1 A5 O O h O ⟨_,rfl⟩ (aA _) (aC _) λv2 hv2=>.an O O (.ret (.plain [_] results237 ⟨rfl,trivial⟩ ⟨.refl _,?_⟩)))))))))))))))));rw[<-ht];exact hv2
  | succ k =>
   have hk:k<l.length:=by omega
   have hlk:=F3 hk;refine .gtrT O O O (by omega) (.mv O O (.gr O O O O (.mv O O (.gr O O O O (.mv O O (.gr O O O O (.sub O O O ?_)))))));rw[wI (by omega),show (((k+1:Nat):Int)-1)=(k:Int) by omega];refine .gr O O O O (.ixN (i:=k) N1 A5 O O h O hlk λp hp=>.gr O O O O (.ldE A5 O O hp λe he=>?_));obtain⟨rfl,hx⟩:=he;refine .gr O O O O ?_;have htk:l.take (k+1)=l.take k++[l.getD k 0]:=by rw[fN hk,aF,aE hk];rfl
   by_cases h0:l.getD k 0=0
   ·refine .eqlT O O O (by omega) (.pick O O O (.nil (.condT O (.skip (.block (.region (.mv O O (.sub O O O (.an O O ?_)))))))));rw[wI (by omega),show (((k+1:Nat):Int)-1)=(k:Int) by omega];refine⟨rfl,k,lkA rfl,⟨rfl,by omega,?_⟩,by show k<k+1;omega⟩;rw[<-ht,htk,h0,AV9]
   ·refine .eqlF O O O (by omega) (.pick O O O (.nil (.condF O (.exit (.sr (.mv O O (.mv O O (.cut 0 (k+1) N1 A5 O O h O ⟨_,rfl⟩ (aC _) (by omega) λv2 hv2=>.an O O (.ret (.plain [_] results237 ⟨rfl,trivial⟩ ⟨.refl _,?_⟩))))))))));rw[<-ht,htk,Af3 _ _ h0,<-htk];exact hv2
theorem M9:Ent prog 238:=en func238
theorem M8{S:Nat->Prop}{w:World}{v:Value}{l:List Nat}{i:Nat}(h:eHs.R S w v l):CR prog 238 #[v,iW i] w (Is (iW (l.getD i 0))):=by
 refine enter func238 O ntmps238 O (.sr (.an O O (.seq (.sr (.mv O O (.mv O O (.lenR N1 O O h ?_)))))));by_cases hi:i<l.length
 ·refine .lssT O O O (by omega) (.nil (.condT O (.sr (.mv O O (.mv O O (.ixN (i:=i) N1 A5 O O h O (F3 hi) λp hp=>.ldE A5 O O hp λe he=>?_))))));obtain⟨rfl,hx⟩:=he;refine .an O O (.ret ?_);exact .p1 _ results238 O ⟨.refl _,rfl⟩
 ·refine .lssF O O O (by omega) (.nil (.condF O (.skip (.sr (.an O O (.ret ?_))))));exact .plain [_] results238 ⟨rfl,trivial⟩ ⟨.refl _,isI (by rw[AF9 (by omega)];rfl)⟩
theorem F8:Ent prog 198:=en func198
theorem AW8{S:Nat->Prop}{w:World}{v:Value}{l:List Nat}(up:Up S w)(h:eW.R S w v l)(hl:l.length<=1000000000000):CR prog 198 #[v] w (eHs.at S (K2 (hlv l))):=by
 have h0:=ER.lt eW h;have hd:dig l:=K7 h;have hA:∀ {W:World},Below w.heap.size w W->eW.R (λk=>S k/\k<w.heap.size) W v l:=λhB=>eW.keep (λk c t f hk h=>(hB.block k hk.2).trans h) h0;refine enter func198 O ntmps198 O (.sr (.an O O (.sr (.an O O (.seq (.sr (.an O O (.block (.loop (α:=Nat×Value) (λx=>[(0,v),(3,x.2),(4,iW (x.1:Nat))]) (λx W=>Below w.heap.size w W/\x.1<=l.length/\W.ownsRow w.heap.size 3 1 x.2 (2*x.1) ((hlv (l.take x.1)).map hvv)) (λx=>l.length-x.1) (0,.slice none 0 0) ?_ ?_ ?_)))))))))
 ·exact lkA rfl
 ·exact⟨Below.refl _ _,aC _,by simp[hlv],.inl ⟨rfl,rfl⟩⟩
 ·rintro⟨i,u⟩ W ⟨hB,hi,ho⟩;refine .seq (.sr (.mv O O (.mv O O (.lenR E5 O O (hA hB) ?_))));by_cases hlt:i<l.length
  ·have hx:l.getD i 0<4294967296:=J6 hd i;generalize hxx:l.getD i 0=x at hx;have hy:l[i]?=some x:=by rw[<-hxx];exact F3 hlt
   refine .lssT O O O (by omega) (.nil (.condT O (.skip (.seq (.block ?_)))));have c1:IntKind.i64.wrap (((x:Nat):Int).tmod 65536)=((x % 65536:Nat):Int):=by rw[show (65536:Int)=((65536:Nat):Int) by rfl,AA9,wI (by omega)]
   have c2:IntKind.i64.wrap (IntKind.u32.wrap (((x:Nat):Int).tdiv 65536))=((x / 65536:Nat):Int):=by rw[show (65536:Int)=((65536:Nat):Int) by rfl,AB0,w32 (by omega),wI (by omega)]
   refine .par follows 14 [.inl u,.inl _,.inl _,.inr (Ptr AQ8 (λk=>S k/\k<w.heap.size) x),.inl (.int .u32 x),.inl _,.inl (iW (x % 65536:Nat)),.inl _,.inl _,.inr (Ptr AQ8 (λk=>S k/\k<w.heap.size) x),.inl (.int .u32 x),.inl _,.inl (iW (x / 65536:Nat)),.inr (NewR W.heap.size 3 2 #[hvv (x % 65536),hvv (x / 65536)])]
    [[],[],[],[(12,1),(13,2)],[(14,3)],[(15,4)],[(16,5)],[],[],[(18,7),(19,8)],[(20,9)],[(21,10)],[(22,11)],[(17,6),(23,12)]] (by kernel_rfl) ⟨mvo O,mvo O,mvo O,λw e=>C4 E5 C1 O ((hA hB).ext e) O hy,λw e y hy=>AB6 C1 O hy,λw e=>(Ay0 O O (by decide)).ob,λw e=>((AL6 G4 AJ3 O).eq (by rw[c1])).ob,mvo O,mvo O,λw e=>C4 E5 C1 O ((hA hB).ext e) O hy,λw e y hy=>AB6 C1 O hy,λw e=>(Ay1 O O (by decide)).ob,λw e=>((AL6 G4 AJ3 O).eq (by rw[c2])).ob,λw e=>ob_bsl _ O bsl_H2 e.size,trivial⟩ ?_
   intro W1 e1 p3 _ p9 _ x13 hx13;obtain⟨b,rfl,hb,kb⟩:=hx13;have ho1:W1.ownsRow w.heap.size 3 1 u (2*i) ((hlv (l.take i)).map hvv):=AQ0 ho λk cs _ hb=>hb.ext e1;have hB1:Below w.heap.size w W1:=hB.trans (e1.mono hB.size);refine .gv O O (BB1 (base:=w.heap.size) [hvv (x % 65536),hvv (x / 65536)] N1 AJ9 O (by decide) O O ho1 O (λj u hu=>?_) (λu hu=>?_) (by omega) (by omega) hB1.size) ?_
   ·match j with
    | 0=>simp at hu;subst hu;rw[S8,kb.cell];rfl
    | 1=>simp at hu;subst hu;rw[S8,kb.cell];rfl
    | j+2=>simp at hu
   ·simp at hu;rcases hu with rfl | rfl<;>rfl
   rintro v2 W2 ⟨ho2,hg2⟩;refine .an O O (.region (.mv O O (.add O O O (.an O O ?_))));rw[wI (by omega)];refine⟨rfl,(i+1,v2),lkA rfl,⟨hB1.grown hg2 hB1.size λk hk=>(ho1.lt k hk).1,hlt,?_⟩,by show l.length-(i+1)<l.length-i;omega⟩;have htk:l.take (i+1)=l.take i++[x]:=by
    rw[fN hlt];rw[aE hlt] at hy
    cases hy;rfl
   show W2.ownsRow w.heap.size 3 1 v2 (2*(i+1)) ((hlv (l.take (i+1))).map hvv);rw[htk,By2,aM];exact ho2
  ·refine .lssF O O O (by omega) (.nil (.condF O (.exit (.sr (.mv O O ?_)))));have:i=l.length:=by omega
   subst this;rw[aK (aA _)] at ho;have hr:eHs.R S W u (hlv l):=by
    refine RL.ofOwn (E:=eH) (es:=(hlv l).map hvv) (base:=w.heap.size) (t:=3) (n:=2*l.length) ?_ (by rw[Ag4]) ⟨by simp,λj e x he hx=>?_⟩ up
    ·rw[K9 hvv (λ_=>rfl)];exact ho
    ·rw[aI,hx] at he;simp at he;exact⟨he.symm,BC5 hd x (List.mem_iff_getElem?.2 ⟨j,hx⟩)⟩
   refine .call _ O J7 O (J2 hr) λv2 W2 e2 h2=>.an O O (.ret ?_);exact .p1 _ results198 O ⟨hB.trans (e2.mono hB.size),h2⟩
theorem P3:Ent prog 197:=en func197
theorem O7{S:Nat->Prop}{w:World}{v:Value}{l:List Nat}{neg:Bool}(up:Up S w)(h:eHs.R S w v l)(hl:l.length<=1000000000000):CR prog 197 #[.bool neg,v] w (eZ.at S (zc (sg neg (B3 l)))):=by
 have hdl:=AC3 h;refine enter func197 O ntmps197 O ?_;refine .sr (.alloc O F4 λw1 b4 n1=>.nil (.sr (.mv O O ?_)));obtain⟨e1,k4,hb4,hs1⟩:=n1;have hS4:¬ Sx S w.heap.size w1.heap.size b4:=Sx.no (by omega) (by omega);have up1:Up (Sx S w.heap.size w1.heap.size) w1:=Sx.up up (aA _) e1.size;have h1:=(ER.lt eHs h).ext e1;refine .call _ O J7 O (J2 h1) λv2 w2 e2 h2=>.an O O (.sr (.an O O ?_));have hpw:=Bc4 hdl;have hdt:=Ag7 hdl;have hlt:=AI0 l;generalize K2 l=r at *;rw[BK2] at hpw;generalize hpf:(λt=>r.getD (2*t) 0+65536*r.getD (2*t+1) 0)=pf at hpw;have hpd:∀ t,pf t<4294967296:=by intro t;have a1:r.getD (2*t) 0<65536:=AF8 (P:=λx=>x<65536) hdt (by omega) _;have a2:r.getD (2*t+1) 0<65536:=AF8 (P:=λx=>x<65536) hdt (by omega) _;rw[<-hpf];show r.getD (2*t) 0+65536*r.getD (2*t+1) 0<_;omega
 have x2:=e1.trans e2;have hV:∀ {W:World},Below w1.heap.size w1 W->eHs.R (λk=>S k/\k<w.heap.size) W v2 r:=λhB=>eHs.keep (λk c t f hk hc=>((hB.block k (by have:=hk.2;omega)).trans (e2.block k (by have:=hk.2;omega)).symm).trans hc) h2;refine .mid (α:=Value) (λu=>[(0,.bool neg),(4,pW b4),(5,u)]) (λu W=>Below w1.heap.size w1 W/\P0 108 w1.heap.size W u (wds (B3 l))) ?_ ?_
 ·refine .sr (.an O O ?_);refine .block (.loop (α:=Nat×Value) (λx=>[(0,.bool neg),(4,pW b4),(5,x.2),(1,v2),(6,iW ((2*x.1:Nat):Int))]) (λx W=>Below w1.heap.size w1 W/\x.1<=(r.length+1) / 2/\P0 108 w1.heap.size W x.2 ((List.range x.1).map pf)) (λx=>r.length-x.1) (0,.slice none 0 0) ?_ ?_ ?_)
  ·exact lkA rfl
  ·exact⟨e2,aC _,⟨rfl,.inl ⟨rfl,rfl⟩⟩,by simp[dig]⟩
  ·rintro⟨j,u⟩ W ⟨hB,hj,ho⟩;replace hB:Below w1.heap.size w1 W:=hB;have hv2:=hV hB;replace hj:j<=(r.length+1) / 2:=hj;replace ho:P0 108 w1.heap.size W u ((List.range j).map pf):=ho;refine .seq (.sr (.mv O O (.mv O O (.lenR N1 O O hv2 ?_))));by_cases hlt':2*j<r.length
   ·refine .lssT O O O (by omega) (.nil (.condT O (.skip (.seq (.block (.region (.mv O O (.mv O O (.mv O O ?_)))))))));refine .call _ O M9 O (M8 hv2) λv3 W3 e3 h3=>?_;subst h3;have a1:r.getD (2*j) 0<65536:=AF8 (P:=λx=>x<65536) hdt (by omega) _;have a2:r.getD (2*j+1) 0<65536:=AF8 (P:=λx=>x<65536) hdt (by omega) _;have hp1:r.getD (2*j) 0+65536*r.getD (2*j+1) 0=pf j:=by rw[<-hpf]
    generalize r.getD (2*j) 0=x at *;refine .cvt AJ3 G4 O O (.mv O O (.mv O O (.add O O O ?_)));rw[w32 (by omega),wI (by omega),show (((2*j:Nat):Int)+1)=((2*j+1:Nat):Int) by omega];refine .call _ O M9 O (M8 (hv2.ext e3)) λv4 W4 e4 h4=>?_;subst h4;generalize r.getD (2*j+1) 0=y at *;refine .cvt AJ3 G4 O O (.mul O O O (.add O O O ?_));rw[w32 (n:=(y:Int)) (by omega),w32 (n:=(y:Int)*65536) (by omega),w32 (by omega),show ((x:Int)+(y:Int)*65536)=((pf j:Nat):Int) by omega];refine .bsl _ O O AT5 λW5 b5 n5=>?_;obtain⟨e5,k5,hb5,hs5⟩:=n5;have e35:=(e3.trans e4).trans e5;have hB5:Below w1.heap.size w1 W5:=hB.trans (e35.mono hB.size);have hpj:=hpd j;refine .gv O O (Ao5 (base:=w1.heap.size) E5 N9 O O (ho.ext e35) k5 hpj (by simp;omega) hB5.size) ?_;rintro v6 W6 ⟨ho6,hg6⟩;refine .an O O (.region (.mv O O (.add O O O (.an O O ?_))));rw[wI (by omega),show (((2*j:Nat):Int)+2)=((2*(j+1):Nat):Int) by omega];refine⟨rfl,(j+1,v6),lkA rfl,⟨(ho.ext e35).below hg6 hB5 hB5.size,by show j+1<=_;omega,?_⟩,by show r.length-(j+1)<r.length-j;omega⟩
    ·show P0 _ _ W6 v6 ((List.range (j+1)).map pf);rw[aP,aM];exact ho6
   ·refine .lssF O O O (by omega) (.nil (.condF O (.exit ?_)));have:j=(r.length+1) / 2:=by omega
    subst this;rw[hpw] at ho;exact⟨rfl,u,lkA rfl,hB,ho⟩
 ·rintro u W ⟨hB,ho⟩;have hxW:Ext w W:=e1.trans hB;have hr:eW.R (Sx S w.heap.size w1.heap.size) W u (wds (B3 l)):=ho.toR up1;have hlu:∃ a c,u=.slice a (wds (B3 l)).length c:=by obtain⟨a,c,h,_⟩:=RL.len hr;exact⟨a,c,h⟩
  obtain⟨au,cu,hu⟩:=hlu;have k4:Blk W b4 37 #[.bool false,.slice none 0 0]:=(hB.block b4 (by omega)).trans k4;have hz:∀ (b:Bool),b=(neg && decide (B3 l≠0))->zc (sg neg (B3 l))=⟨b,wds (B3 l)⟩:=by
   intro b hb;by_cases h0:B3 l=0
   ·rw[h0] at hb ⊢;rw[Ae7,M7];simp at hb;rw[hb]
   ·rw[Bg1 neg h0];simp[h0] at hb;rw[hb]
  have hne:((wds (B3 l)).length:Int) > 0<->B3 l≠0:=by
   constructor
   ·intro hh hv;rw[hv,M7] at hh;simp at hh
   ·intro hv;have:=AD1 hv;have:(wds (B3 l)).length≠0:=λe=>this (List.length_eq_zero_iff.1 e);omega
  refine .sr (.mv O O (.mv O O ?_))
  cases neg with
  | true =>
   refine .gr O O O O (.mv O O (.gr O O O O (.lenR E5 O O hr (.gr O O O O (.gtr O O O (.pick O O O (.mv O O ?_)))))));subst hu;refine .bld _ O O Ap2 ?_;have hq:eZ.R (Sx S w.heap.size w1.heap.size) W (.agg #[.bool (decide ((0:Int)<((wds (B3 l)).length:Nat))),.slice au (wds (B3 l)).length cu]) (zc (sg true (B3 l))):=by rw[hz (decide ((0:Int)<((wds (B3 l)).length:Nat))) (by simp only[Bool.true_and];exact decide_eq_decide.2 hne)];exact⟨_,rfl,hr⟩
   refine .storeA (E:=eZ) B6 O O k4 O O hq hS4 λW2 k2 u2 h3=>.nil (.ret ?_);exact .cell results197 O B6 O O k2 h3 ⟨u2.below hxW (by omega),h3.out⟩
  | false =>
   refine .gs O O O O O (.gs O O O O O (.gs O O O O O (.pick O O O (.mv O O ?_))));subst hu;refine .bld _ O O Ap2 ?_;have hq:eZ.R (Sx S w.heap.size w1.heap.size) W (.agg #[.bool false,.slice au (wds (B3 l)).length cu]) (zc (sg false (B3 l))):=by rw[hz false (by simp)];exact⟨_,rfl,hr⟩
   refine .storeA (E:=eZ) B6 O O k4 O O hq hS4 λW2 k2 u2 h3=>.nil (.ret ?_);exact .cell results197 O B6 O O k2 h3 ⟨u2.below hxW (by omega),h3.out⟩
def AB8 (l:List Int):List QV:=tab l.length λk=>((l.getD k 0:Int):Rat)
theorem Ae4:Ent prog 136:=en func136
theorem Ad1{S:Nat->Prop}{w:World}{v:Value}{a:ZV}(up:Up S w)(h:eZ.R S w v a)(hl:a.w.length<=100000000000):CR prog 136 #[v] w (eZ.at S (zc (A6 a))):=by obtain⟨s,rfl,hs⟩:=h;refine enter func136 O ntmps136 O (.sr (.box O O λw1 b1 n1=>.alloc O F4 λw2 b2 n2=>.nil ?_));obtain⟨e1,k1,hb1,hs1⟩:=n1;obtain⟨e2,k2,hb2,hs2⟩:=n2;have x2:=e1.trans e2;have k1:=k1.ext e2;have hS2:¬ Sx S w.heap.size w2.heap.size b2:=Sx.no (by omega) (by omega);have up2:Up (Sx S w.heap.size w2.heap.size) w2:=Sx.up up (aA _) x2.size;have hs2':=(ER.par eW hs w2.heap.size).ext x2;refine .seq ?_;refine .par follows 5 [.inl _,.inl (.bool a.neg),.inl _,.inl s,.inr (eHs.at (Sx S w.heap.size w2.heap.size) (K2 (hlv a.w)))] [[],[(3,0)],[],[(5,2)],[(6,3)]] (by kernel_rfl) ⟨fao J5 O,λw e=>(E2 D6 O (k1.ext e) O).ob,fao G9 O,λw e=>(E2 L2 O (k1.ext e) O).ob,λw e=>(A4 _ F8 O (AW8 (up2.ext e.size) (hs2'.ext e) (by omega))).oa,trivial⟩ ?_;intro w3 e3 x4 hx4;have hlen:=AI0 (hlv a.w);rw[Ag4] at hlen;refine .call _ O P3 O (O7 (up2.ext e3.size) hx4 (by omega)) λv4 w4 e4 h4=>?_;rw[Af2,Ax8] at h4;refine .storeA (E:=eZ) B6 O O ((k2.ext e3).ext e4) O O h4 hS2 λw5 k5 u5 h5=>.nil (.ret ?_);exact .cell results136 O B6 O O k5 h5 ⟨u5.below ((x2.trans e3).trans e4) (by omega),h5.out⟩
theorem Am8:Ent prog 85:=en func85
theorem Ak1{S:Nat->Prop}{w:World}{n:Int}(up:Up S w)(h1 : -9223372036854775808<=n)(h2:n<=9223372036854775807):CR prog 85 #[iW n] w (eZ.at S (zc n)):=by
 refine enter func85 O ntmps85 O (.sr (.alloc O F4 λw1 b1 n1=>.nil ?_));obtain⟨e1,k1,hb1,hs1⟩:=n1;have hS:¬ Sx S w.heap.size w1.heap.size b1:=Sx.no (by omega) (by omega);have up1:Up (Sx S w.heap.size w1.heap.size) w1:=Sx.up up (aA _) e1.size;refine .sr (.mv O O (.cvt Ay3 G3 O O (.an O O (.mid (α:=Unit) (λ_=>[(0,iW n),(2,pW b1),(3,.int .u64 (n.natAbs:Nat))]) (λ_ W=>W=w1) ?_ ?_))))
 ·refine .sr ?_;by_cases h0:n<0
  ·have hneg:IntKind.u64.wrap (0-IntKind.u64.wrap n)=((n.natAbs:Nat):Int):=by rw[IntKind.wrap_u64,IntKind.wrap_u64];omega
   refine .mv O O (.lssT O O O h0 (.nil (.condT O (.region (.mv O O (.neg O O (.an O O ?_)))))));rw[hneg];exact⟨rfl,(),lkA rfl,rfl⟩
  ·have hneg:IntKind.u64.wrap n=((n.natAbs:Nat):Int):=by rw[IntKind.wrap_u64];omega
   rw[hneg];refine .mv O O (.lssF O O O h0 (.nil (.condF O (.skip ?_))));exact⟨rfl,(),lkA rfl,rfl⟩
 ·rintro _ W rfl;generalize hm:n.natAbs=m;refine .sr (.mv O O (.lss O O O (.mv O O (.rem O O O (by decide) (.cvt G3 G4 O O (.mv O O (.quo O O O (by decide) (.cvt G3 G4 O O ?_))))))));have c1:IntKind.u32.wrap (((m:Nat):Int).tmod 4294967296)=((m % 4294967296:Nat):Int):=by rw[show (4294967296:Int)=((4294967296:Nat):Int) by rfl,AA9,w32 (by omega)]
  have c2:IntKind.u32.wrap (IntKind.u64.wrap (((m:Nat):Int).tdiv 4294967296))=((m / 4294967296:Nat):Int):=by rw[show (4294967296:Int)=((4294967296:Nat):Int) by rfl,AB0,wU (by omega),w32 (by omega)]
  rw[c1,c2];refine .bsl _ O O CA2 λw2 b2 n2=>?_;obtain⟨e2,k2,hb2,hs2⟩:=n2;refine .bld _ O O Ap2 ?_;have hr:eW.R (Sx S w.heap.size W.heap.size) w2 (.slice (some ⟨b2,0,none⟩) 2 2) [m % 4294967296,m / 4294967296] :=
   BC0 (l:=[m % 4294967296,m / 4294967296]) k2 (up1 b2 (by omega)) (by intro x hx;simp at hx;omega) (aA _) (by simp)
  have hz:eZ.R (Sx S w.heap.size W.heap.size) w2 (.agg #[.bool (decide (n<0)),.slice (some ⟨b2,0,none⟩) 2 2]) ⟨decide (n<0),[m % 4294967296,m / 4294967296]⟩:=⟨_,rfl,hr⟩;refine .call _ O Ae4 O (Ad1 (up1.ext e2.size) hz (by simp)) λv3 w3 e3 h3=>?_;have hv:A6 ⟨decide (n<0),[m % 4294967296,m / 4294967296]⟩=n:=by
   have:val [m % 4294967296,m / 4294967296]=m:=by simp only[val];omega
   unfold A6 sg;simp only[this];by_cases h0:n<0
   ·simp[h0];omega
   ·simp[h0];omega
  rw[hv] at h3;refine .storeA (E:=eZ) B6 O O ((k1.ext e2).ext e3) O O h3 hS λw4 k4 u4 h4=>.nil (.ret ?_);exact .cell results85 O B6 O O k4 h4 ⟨u4.below ((e1.trans e2).trans e3) (by omega),h4.out⟩
theorem AA0:Ent prog 86:=en func86
theorem Z7{S:Nat->Prop}{w:World}{n:Int}(up:Up S w)(h1 : -9223372036854775808<=n)(h2:n<=9223372036854775807):CR prog 86 #[iW n] w (eQ.at S (qc (n:Rat))):=by
 refine enter func86 O ntmps86 O (.sr (.alloc O E8 λw1 b1 n1=>.nil ?_));obtain⟨e1,k1,hb1,hs1⟩:=n1;have hS:¬ Sx S w.heap.size w1.heap.size b1:=Sx.no (by omega) (by omega);have up1:Up (Sx S w.heap.size w1.heap.size) w1:=Sx.up up (aA _) e1.size;refine .sr (.mv O O (.call _ O Am8 O (Ak1 up1 h1 h2) λv2 w2 e2 h2=>?_));obtain⟨s,rfl,hs⟩:=h2;refine .bld _ O O BQ4 ?_;have hq:eQ.R (Sx S w.heap.size w1.heap.size) w2 (.agg #[.bool (zc n).neg,s,.bool false,.slice none 0 0]) (qc (n:Rat)):=by rw[Bu3];exact⟨s,_,rfl,hs,RL.nil⟩
 refine .storeA (E:=eQ) A3 O O (k1.ext e2) O O hq hS λw3 k3 u3 h3=>.nil (.ret ?_);exact .cell results86 O A3 O O k3 h3 ⟨u3.below (e1.trans e2) (by omega),h3.out⟩
theorem BR5:Ent prog 83:=en func83
theorem BN6{S:Nat->Prop}{w:World}{v:Value}{l:List Int}(up:Up S w)(h:eI.R S w v l)(hl:l.length<=1000000000):CR prog 83 #[v] w (eV.at S (AB8 l)):=by
 have h0:=ER.lt eI h;have hA:∀ {W:World},Below w.heap.size w W->eI.R (λk=>S k/\k<w.heap.size) W v l:=λhB=>eI.keep (λk c t f hk h=>(hB.block k hk.2).trans h) h0;refine enter func83 O ntmps83 O (.sr (.an O O (.sr (.an O O (.seq (.sr (.an O O ?_)))))));generalize hf:(λk=>qc ((l.getD k 0:Int):Rat))=f;refine .block (.loop (α:=Nat×Value) (λx=>[(0,v),(3,x.2),(4,iW (x.1:Nat))]) (λx W=>Below w.heap.size w W/\x.1<=l.length/\B4 eQ 39 w.heap.size S W x.2 ((List.range x.1).map f)) (λx=>l.length-x.1) (0,.slice none 0 0) ?_ ?_ ?_)
 ·exact lkA rfl
 ·exact⟨Below.refl _ _,aC _,B4.nil⟩
 ·rintro⟨i,u⟩ W ⟨hB,hi,ho⟩;have hsz:=hB.size;refine .seq (.sr (.mv O O (.mv O O (.lenR un_L O O (hA hB) ?_))));by_cases hlt:i<l.length
  ·refine .lssT O O O (by omega) (.nil (.condT O (.skip (.seq (.block (.region (.mv O O (.mv O O (.mv O O (.ixN (i:=i) un_L Z4 O O (hA hB) O (B0 (z:=0) hlt) λp hp=>.ldE Z4 O O hp λe he=>?_))))))))));obtain⟨rfl,hb1,hb2⟩:=eInt_bd he;obtain⟨es,ho1,ho2⟩:=id ho;refine .call _ O AA0 O (Z7 (S:=λk=>S k/\u.ownBlock≠some k) (λk hk=>⟨up k (by omega),λh=>by have:=(ho1.lt k h).2;omega⟩) hb1 hb2) λv2 W2 e2 h2=>?_;have hr':=h2;obtain⟨s,t,rfl,_,_⟩:=hr';refine .bsl _ O O AD7 λW3 b3 n3=>?_;obtain⟨e3,k3,hb3,hs3⟩:=n3;have e23:=e2.trans e3;have hB3:Below w.heap.size w W3:=hB.trans (e23.mono hsz);refine .gv O O (L5 (E:=eQ) (base:=w.heap.size) (by decide) C9 J4 O O O (ho.ext e23) k3 (h2.ext e3) (by simp;omega) (by decide) hB3.size) ?_;rintro v4 W4 ⟨ho4,hg4⟩;refine .an O O (.region (.mv O O (.add O O O (.an O O ?_))));rw[wI (by omega)];refine⟨rfl,(i+1,v4),lkA rfl,⟨(ho.ext e23).below hg4 hB3 hB3.size,hlt,?_⟩,by show l.length-(i+1)<l.length-i;omega⟩;show B4 eQ 39 w.heap.size S W4 v4 ((List.range (i+1)).map f);rw[aP,aM,<-hf];rw[<-hf] at ho4;exact ho4
  ·refine .lssF O O O (by omega) (.nil (.condF O (.exit (.sr (.mv O O (.an O O (.ret ?_)))))));have:i=l.length:=by omega
   subst this;refine .plain [_] results83 ⟨rfl,trivial⟩ ⟨hB,?_⟩;unfold AB8 tab;rw[hf];exact ho.toR up (λ_ h=>h)
abbrev eII:ER (List (List Int)):=RL eI
theorem AI5:Ent prog 221:=en func221
theorem AH8{S:Nat->Prop}{w:World}(hm:eM.R S w vm m):CR prog 221 #[vm] w (Is (iW (A1 m))):=by
 obtain⟨am,cm,hvm,_,hlm⟩:=RL.len hm;refine enter func221 O ntmps221 O (.sr (.an O O (.sr (.an O O (.seq (.sr (.an O O (.block (.loop (α:=Nat) (λi=>[(3,iW (A1 (m.take i))),(0,vm),(4,iW (i:Nat))]) (λi W=>W=w/\i<=m.length) (λi=>m.length-i) 0 ?_ ?_ ?_)))))))))
 ·exact lkA rfl
 ·exact⟨rfl,aC _⟩
 ·rintro i W ⟨rfl,hi⟩;refine .seq (.sr (.mv O O (.mv O O (.lenR E4 O O hm ?_))));by_cases hlt:i<m.length
  ·refine .lssT O O O (by omega) (.nil (.condT O (.skip (.seq (.block (.region (.mv O O (.mv O O (.mv O O (.ixN (i:=i) E4 C2 O O hm O (B0 (z:=[]) hlt) λp hp=>.ldE C2 O O hp λe he=>.lenR C9 O O he (.max_ O O O (.an O O (.region (.mv O O (.add O O O (.an O O ?_))))))))))))))));rw[wI (by omega)];refine⟨rfl,i+1,B7 ?_ (lkA O),⟨rfl,hlt⟩,by show m.length-(i+1)<m.length-i;omega⟩;show some (Value.int .i64 (max ((A1 (m.take i):Nat):Int) (((m.getD i []).length:Nat):Int)))=_;rw[AQ9 m hlt,show (max ((A1 (m.take i):Nat):Int) (((m.getD i []).length:Nat):Int))=((max (A1 (m.take i)) (m.getD i []).length:Nat):Int) by omega]
  ·refine .lssF O O O (by omega) (.nil (.condF O (.exit (.sr (.mv O O (.an O O (.ret ?_)))))));have:i=m.length:=by omega
   subst this;refine .plain [_] results221 ⟨rfl,trivial⟩ ⟨.refl _,isI ?_⟩;rw[aK (aA _)]
section
variable {H:Type} {enc:TypeId×Value->H} {W:World}
end
section
variable {H:Type} {enc:TypeId×Value->H} {P:Program} {W:World}
theorem Opn.argS {α:Type} {E:ER α} {t:TypeId} {fs:Array Field} {Z:DataW H->α->Prop} {r:Reach} {b0:Nat} {v:Value} {d:DataW H} {ps:List MemPlace} (hA:E.isA=true) (ht:P.underlying t=some (.struct fs)) (h:Opn enc P W E t Z)
  (hval:Value.okWide P W r b0 t v) (hd:DataW.Trod enc P W 0 (λ_=>true) true t v d ps) (hfz:W.noneFrozen ps):∃ a,E.R (λ_=>True) W v a/\Z d a:=by
 obtain⟨cs,rfl,_⟩:=okWide_struct ht hval;obtain⟨fuel,hf⟩:=hd;obtain⟨e',a,h1,h2,h3⟩:=h fuel _ _ hf hfz;have hs:=G8 hA h2;have hc:e'.cells=cs:=Array.toList_inj.1 h1;rw[hc] at hs;subst hs;exact⟨a,h2,h3⟩
theorem Opn.argI {t:TypeId} {k:IntKind} {r:Reach} {b0:Nat} {v:Value} {d:DataW H} {ps:List MemPlace} (ht:P.underlying t=some (.int k))
  (hval:Value.okWide P W r b0 t v) (hd:DataW.Trod enc P W 0 (λ_=>true) true t v d ps):∃ n,v=.int k n/\k.min<=n/\n<=k.max:=by
 obtain⟨n,rfl⟩:=okWide_int ht hval;obtain⟨fuel,hf⟩:=hd;obtain⟨m,hm,_,hw⟩:=DataW.trod_int ht hf;simp[Value.cells] at hm;subst hm;exact⟨_,rfl,Ax3 hw⟩
end
section
variable {H:Type} {enc:TypeId×Value->H} {P:Program} {w:World} {base:Nat} {spare:Nat->Bool} {held:Bool}
end
structure LnV where
 f:Int
 t:Int
 x:Int
 c:Int
structure NtV where
 b:Int
 ls:List LnV
def inI (n:Int):Prop:=IntKind.i64.min<=n/\n<=IntKind.i64.max
theorem K8{n:Int}:inI n <-> -9223372036854775808<=n/\n<=9223372036854775807:=by unfold inI;simp[IntKind.min,IntKind.max,IntKind.signed,IntKind.bits]
def eL:ER LnV where
 sz:=4
 isA:=true
 R:=λ_ _ v l=>v=.agg #[iW l.f,iW l.t,iW l.x,iW l.c]/\inI l.f/\inI l.t/\inI l.x/\inI l.c
 csz:=by rintro S w e x ⟨rfl,_⟩;rfl
 one:=by
  rintro S w e x ⟨rfl,_⟩ u hu
  simp[Value.cells] at hu
  rcases hu with rfl | rfl | rfl | rfl<;>rfl
 shp:=by rintro S w e x ⟨rfl,_⟩;rfl
 keep:=λ_ h=>h
 mono:=λ_ h=>h
abbrev eLs:ER (List LnV):=RL eL
def eN:ER NtV where
 sz:=2
 isA:=true
 R:=λS w v n=>∃ s,v=.agg #[iW n.b,s]/\eLs.R S w s n.ls/\inI n.b
 csz:=by rintro S w e x ⟨s,rfl,_⟩;rfl
 one:=by
  rintro S w e x ⟨s,rfl,h,_⟩ u hu
  have hs:=eLs.shp h
  simp[Value.cells] at hu
  rcases hu with rfl | rfl
  ·rfl
  ·exact hs
 shp:=by rintro S w e x ⟨s,rfl,_⟩;rfl
 keep:=λhk ⟨s,h1,h2,h3⟩=>⟨s,h1,eLs.keep hk h2,h3⟩
 mono:=λhk ⟨s,h1,h2,h3⟩=>⟨s,h1,eLs.mono hk h2,h3⟩
theorem BC2{E:ER α}{hsz:0<E.sz}{S:Nat->Prop}{w w':World}{b:Nat}{t:TypeId}{cs:Array Value}{n:Nat}(vs:List Value)(ls:List α)(hn:New w w' b t cs)(up:Up S w)(hcs:cs=(cellsOf vs).toArray)(hl:ls.length=n)(hm:n<=1000)(h:Els E S w vs ls) :
  (RL E hsz).R S w' (.slice (some ⟨b,0,none⟩) n n) ls:=by
 subst hl;refine RL.ofBlk (es:=vs) hn.2.1 (up b (by have:=hn.2.2.1;omega)) (h.ext hn.1) (λj u hu=>?_) (aA _) (by omega);rw[hcs];simpa using hu
theorem BZ0:Ent prog 28:=en func28
theorem BT1{S:Nat->Prop}{w:World}{vk_ va:Value}{k:QV}{a:List QV}{L:Nat}(up:Up S w)(hk:eQ.R S w vk_ k)(ha:eV.R S w va a)(hkk:qk L k)(hka:vk L a)(hL:1<=L)(hL2:L<=100000000)(hla:a.length<=100000000) :
  CR prog 28 #[vk_,va] w (eV.at S (tab a.length λi=>E3 k*rv a i)):=by
 obtain⟨s,t,rfl,hs,ht⟩:=hk;have hk:eQ.R S w (.agg #[.bool k.num.neg,s,.bool k.den.neg,t]) k:=⟨s,t,rfl,hs,ht⟩;refine enter func28 O ntmps28 O (.sr (.box O O λw1 b2 n1=>.an O O ?_));obtain⟨e1,k2,hb2,hs1⟩:=n1;have hB1:∀ {W:World},Ext w1 W->Kp (λk=>S k/\k<w1.heap.size) w1 W:=λhB k c t f hk h=>(hB.block k hk.2).trans h;have hK:∀ {W:World},Ext w1 W->eQ.R (λk=>S k/\k<w1.heap.size) W (.agg #[.bool k.num.neg,s,.bool k.den.neg,t]) k:=λhB=>eQ.keep (hB1 hB) (ER.lt eQ (ER.ext eQ hk e1));have hA:∀ {W:World},Ext w1 W->eV.R (λk=>S k/\k<w1.heap.size) W va a:=λhB=>eV.keep (hB1 hB) (ER.lt eV (ER.ext eV ha e1));have up1:=up.ext e1.size;refine .sr (.mv O O (.lenR C9 O O (hA (Ext.refl _)) (.make_ _ _ C9 J4 O (by decide) O O O (aA _) (by omega) (by omega) λw2 g n2=>.an O O ?_)));have f2:FB eQ 39 S w2 g (List.replicate a.length q0):=FB.made n2 ⟨_,_,rfl,RL.nil,RL.nil⟩;obtain⟨e2,_,hg,hs2⟩:=n2;generalize hf:(λi=>qc (E3 k*rv a i))=f;refine .seq (.sr (.mv O O (.lenR C9 O O (hA e2) (.mv O O (.nil ?_)))));refine .block (.loop (α:=Nat) (λi=>[(2,pW b2),(5,.slice (some ⟨g,0,none⟩) a.length a.length),(11,va),(12,iW (a.length:Nat)),(13,iW (i:Nat))])
  (λi W=>Ext w1 W/\i<=a.length/\FB eQ 39 S W g (fil a.length i f q0)) (λi=>a.length-i) 0 ?_ ?_ ?_)
 ·exact lkA rfl
 ·exact⟨e2,aC _,by rw[R8];exact f2⟩
 ·rintro i W ⟨hB,hi,hF⟩;have hsz:=hB.size;have hgl:=hF.lt;refine .sr ?_;by_cases hlt:i<a.length
  ·refine .lssT O O O (by omega) (.nil (.seq (.condT O (.skip (.seq (.block (.sr (.mv O O (.ixN (i:=i) C9 A3 O O (hA hB) O (B0 (z:=q0) hlt) λp hp=>.ldE A3 O O hp λe he=>.alloc O E8 λW2 b7 n7=>.asg O O ?_)))))))));obtain⟨s2,t2,rfl,hs2',ht2'⟩:=he;have he:eQ.R (λk=>S k/\k<w1.heap.size) W (.agg #[.bool (a.getD i q0).num.neg,s2,.bool (a.getD i q0).den.neg,t2]) (a.getD i q0):=⟨s2,t2,rfl,hs2',ht2'⟩;obtain⟨e3,k7,hb7,hs7⟩:=n7;refine .storeA (E:=eQ) A3 O O k7 O O (ER.ext eQ he e3) (λh=>by have:=h.2;omega) λW3 k7 u7 he3=>.nil ?_;have hW3:Ext W W3:=u7.below e3 (by omega);have hB3:Ext w1 W3:=hB.trans hW3;have hF3:FB eQ 39 S W3 g (fil a.length i f q0):=(((hF.mono (S':=λk=>S k/\k<W.heap.size) (λk hk hs=>⟨hs,hk⟩)).ext e3).upd u7 (by omega) (λh=>by have:=h.2;omega)).mono (λk _ h=>h.1);have hsz3:=hW3.size;have hTg:∀ k',S k'/\k'<w1.heap.size->S k'/\k'≠g:=λk' hk'=>⟨hk'.1,by have:=hk'.2;omega⟩;refine .region (.mv O O (.mv O O (.ldA A3 O O (k2.ext hB3) O (.ldA A3 O O k7 O ?_))));refine .call _ O BF1 O (BB7 (S:=λk'=>S k'/\k'≠g) (λk' hk'=>⟨up1 k' (by omega),by omega⟩) (eQ.mono (λk' _ h=>hTg k' h) (hK hB3)) (eQ.mono (λk' _ h=>hTg k' h) he3) hkk.1 (hka.get hL i).1 hL (by omega)) λv4 W4 e4 h4=>?_;refine .ixB (i:=i) C9 A3 O O O hlt ?_;refine .gv O O (AQ3 (E:=eQ) (i:=i) (by decide) A3 O O (hF3.ext e4) O (by rw[L7];exact hlt) (aD _) h4) ?_;rintro _ W5 ⟨hF5,u5⟩;refine .nil (.region (.add O O O (.mv O O (.nil ?_))));rw[wI (by omega)];refine⟨rfl,i+1,lkA rfl,⟨u5.below (hB3.trans e4) (by omega),hlt,?_⟩,by show a.length-(i+1)<a.length-i;omega⟩;have hfi:qc (E3 k*E3 (a.getD i q0))=f i:=by rw[<-hf];rfl
   rw[hfi,X5] at hF5;exact hF5
  ·refine .lssF O O O (by omega) (.nil (.seq (.condF O (.exit (.sr (.mv O O (.an O O (.ret ?_))))))));have:i=a.length:=by omega
   subst this;rw[AI3] at hF;refine .plain [_] results28 ⟨rfl,trivial⟩ ⟨e1.trans hB,?_⟩;have:=hF.toR (c:=a.length) (hsz:=by decide) (up1 g (by omega)) (by simp) (by simp;omega);rw[show ((List.range a.length).map f).length=a.length by simp] at this;unfold tab;rw[hf];exact this
theorem E_op4:Ent prog 161:=en func161
theorem op4_c{S:Nat->Prop}{w:World}{u1 u2 u3 u4:Value}{m1 m2 m3 m4:Int}{L:Nat}(hL2:L<=100000000000)(up:Up S w)(h1:Zv S m1 L u1 w)(h2:Zv S m2 L u2 w)(h3:Zv S m3 L u3 w)(h4:Zv S m4 L u4 w) :
  CR prog 161 #[u1,u2,u3,u4] w (Two (Zv S (m1*m4) (2*L+1)) (Zv S (m2*m3) (2*L+1))):=by
 have l1:=h1.lt;have l2:=h2.lt;have l3:=h3.lt;have l4:=h4.lt;obtain⟨z1,h1,rfl,hl1⟩:=h1;obtain⟨z2,h2,rfl,hl2⟩:=h2;obtain⟨z3,h3,rfl,hl3⟩:=h3;obtain⟨z4,h4,rfl,hl4⟩:=h4;have hv1:=G8 O h1;have hv2:=G8 O h2;have hv3:=G8 O h3;have hv4:=G8 O h4;refine enter func161 O ntmps161 O (.sr (.box O O λw1 b4 n1=>.box O O λw2 b5 n2=>.box O O λw3 b6 n3=>.box O O λw4 b7 n4=>.alloc O F4 λw5 b8 n5=>.alloc O F4 λw6 b9 n6=>.nil ?_));obtain⟨e1,k4,hb4,hs1⟩:=n1;obtain⟨e2,k5,hb5,hs2⟩:=n2;obtain⟨e3,k6,hb6,hs3⟩:=n3;obtain⟨e4,k7,hb7,hs4⟩:=n4;obtain⟨e5,k8,hb8,hs5⟩:=n5;obtain⟨e6,k9,hb9,hs6⟩:=n6;have e56:=e5.trans e6;have e46:=e4.trans e56;have e36:=e3.trans e46;have e26:=e2.trans e36;have x6:=e1.trans e26;have k4:=k4.ext e26;have k5:=k5.ext e36;have k6:=k6.ext e46;have k7:=k7.ext e56;have k8:=k8.ext e6;have hS8:¬ Sx S w.heap.size w6.heap.size b8:=Sx.no (by omega) (by omega);have hS9:¬ Sx S w.heap.size w6.heap.size b9:=Sx.no (by omega) (by omega);have up6:Up (Sx S w.heap.size w6.heap.size) w6:=Sx.up up (aA _) x6.size;have h1:=(h1.par w6.heap.size).ext x6;have h2:=(h2.par w6.heap.size).ext x6;have h3:=(h3.par w6.heap.size).ext x6;have h4:=(h4.par w6.heap.size).ext x6;have hout:∀ {W:World} {v:Value} {n:Int},(eZn (2*L+1)).R (Sx S w.heap.size w6.heap.size) W v n->Zv S n (2*L+1) v W:=λh=>Zv.out h;have hn89:b9≠b8:=by omega
 have hw8:w.heap.size<=b8:=by omega
 have hw9:w.heap.size<=b9:=by omega
 generalize hT:Sx S w.heap.size w6.heap.size=T at *;refine .seq ?_;refine .par follows 5 [.inl u1,.inl u4,.inr (eZ.at T (zc (A6 z1*A6 z4))),.inl u2,.inl u3] [[],[],[(10,0),(11,1)],[],[]] (by kernel_rfl) ⟨λw e=>((E1 B6 O (k4.ext e) (eZ.csz h1)).eq hv1.symm).ob,λw e=>((E1 B6 O (k7.ext e) (eZ.csz h4)).eq hv4.symm).ob,λw e=>(A4 _ M6 O (M3 (up6.ext e.size) (h1.ext e) (h4.ext e) (by omega) (by omega))).oa,λw e=>((E1 B6 O (k5.ext e) (eZ.csz h2)).eq hv2.symm).ob,λw e=>((E1 B6 O (k6.ext e) (eZ.csz h3)).eq hv3.symm).ob,trivial⟩ ?_;intro w7 e7 x2 hx2;refine .call _ O M6 O (M3 (up6.ext e7.size) (h2.ext e7) (h3.ext e7) (by omega) (by omega)) λv8 w8 e8 h8=>?_;have e78:=e7.trans e8;have hA:(eZn (2*L+1)).R T w8 x2 (A6 z1*A6 z4):=Zv.of (hx2.ext e8) (BJ2 (AB7 l1 l4) (by omega));have hB:(eZn (2*L+1)).R T w8 v8 (A6 z2*A6 z3):=Zv.of h8 (BJ2 (AB7 l2 l3) (by omega));refine .storeA (E:=eZn (2*L+1)) B6 O O (k8.ext e78) O O hA hS8 λw9 k8' u9 h9=>(.storeA (E:=eZn (2*L+1)) B6 O O ((k9.ext e78).upd u9 hn89) O O (hB.upd u9 hS8) hS9 λw10 k10 u10 h10=>.nil (.ret ?_));exact .plain [_,_] results161 ⟨⟨_,rfl,H5 (E:=eZn (2*L+1)) B6 O O (k8'.upd u10 (Ne.symm hn89)) (h9.upd u10 hS9)⟩,⟨_,rfl,H5 (E:=eZn (2*L+1)) B6 O O k10 h10⟩,trivial⟩ ⟨u10.below (u9.below (x6.trans e78) hw8) hw9,_,_,rfl,hout (h9.upd u10 hS9),hout h10⟩
theorem AU3:Ent prog 81:=en func81
theorem AT0{S T0:Nat->Prop}{w:World}{va vb:Value}{a b:QV}{L:Nat}(up:Up S w)(upo:Up T0 w)(ha:eQ.R S w va a)(hb:eQ.R S w vb b)(hla:qok L a)(hlb:qok L b)(hL:1<=L)(hL2:L<=100000000000)(h0:E3 b≠0) :
  CR prog 81 #[va,vb] w (Two (eQ.at T0 (qc (E3 a / E3 b))) (Is (iW 0))):=by
 have hva:=G8 O ha;have hvb:=G8 O hb;have hpa:=Q8 a;have hpb:=Q8 b;have hbn:pn b≠0:=by intro h;apply h0;unfold E3;rw[h,Rat.zero_divInt]
 have hval:E3 a / E3 b=Rat.divInt (pn a*pd b) (pd a*pn b):=by unfold E3;rw[dG,Rat.inv_divInt,iH]
 rw[hval];refine enter func81 O ntmps81 O (.sr (.box O O λw1 b2 n1=>.box O O λw2 b3 n2=>.alloc O E8 λw3 b4 n3=>.an O O ?_));obtain⟨e1,k2,hb2,hs1⟩:=n1;obtain⟨e2,k3,hb3,hs2⟩:=n2;obtain⟨e3,k4,hb4,hs3⟩:=n3;have x3:=(e1.trans e2).trans e3;have k2:=(k2.ext e2).ext e3;have k3:=k3.ext e3;have hU4:¬ Sx T0 w.heap.size w3.heap.size b4:=Sx.no (by omega) (by omega);have upo3:Up (Sx T0 w.heap.size w3.heap.size) w3:=Sx.up upo (aA _) x3.size;have up3:Up (Sx S w.heap.size w3.heap.size) w3:=Sx.up up (aA _) x3.size;have ha3:=(ha.par w3.heap.size).ext x3;have hb3':=(hb.par w3.heap.size).ext x3;have hout:∀ {W:World} {v:Value} {z:QV},eQ.R (Sx T0 w.heap.size w3.heap.size) W v z->eQ.R T0 W v z:=λh=>h.out;have hw4:w.heap.size<=b4:=by omega
 generalize hT:Sx S w.heap.size w3.heap.size=T at *;generalize hU:Sx T0 w.heap.size w3.heap.size=U at *;refine .seq (.sr (.ldA A3 O O k3 (eQ.csz hb) ?_));rw[<-hvb];refine .call _ O AN4 O (AM5 hb3') λv0 w0 e0 h00=>?_;subst h00;refine .eqlF O O O (λh=>h0 (AI8.1 h)) (.nil (.condF O (.skip (.sr (.ldA A3 O O (k2.ext e0) (eQ.csz ha) ?_)))));rw[<-hva];refine .call _ O I1 O (H8 (ha3.ext e0)) λv4 w4 e4' h4=>?_;subst h4;have e4:=e0.trans e4';have k2:=k2.ext e4;have k3:=k3.ext e4;have k4:=k4.ext e4;have ha4:=ha3.ext e4;have hb4':=hb3'.ext e4;have up4:=up3.ext e4.size;have upo4:=upo3.ext e4.size;have x4:=x3.trans e4;have slow:∀ {W:World},Ext w4 W->CR prog 61 #[.int .u8 47,va,vb] W (eQ.at U (qc (Rat.divInt (pn a*pd b) (pd a*pn b)))):=λe =>
  X4 (up4.ext e.size) (upo4.ext e.size) (ha4.ext e) (hb4'.ext e) hla hlb hL hL2 E_op4 O (λu h1 h2 h3 h4=>op4_c hL2 u h1 h2 h3 h4) (Int.mul_ne_zero (by omega) hbn)
 unfold N2
 cases hsa:O5 a with
 | false =>
  refine .mv O O (.ext O O O (.ext O O O (.ext O O O (.asg O O (.asg O O (.an O O ?_))))));refine .sr (.ldA A3 O O k3 (eQ.csz hb) ?_);rw[<-hvb];refine .call _ O I1 O (H8 hb4') λv5 w5 e5 h5=>?_;subst h5;obtain⟨y1,y2,y3,hy⟩:∃ y1 y2 y3,N2 b=.tuple #[y1,y2,y3]:=by unfold N2;split<;>exact⟨_,_,_,rfl⟩
  rw[hy];refine .mv O O (.ext O O O (.ext O O O (.ext O O O (.asg O O (.asg O O (.an O O ?_))))));refine .seq (.sr (.mv O O (.mv O O (.gs O O O O O (.pick O O O (.nil (.condF O (.skip ?_))))))));refine .sr (.ldA A3 O O (k2.ext e5) (eQ.csz ha) (.ldA A3 O O (k3.ext e5) (eQ.csz hb) ?_));rw[<-hva,<-hvb];refine .call _ O I9 O (slow e5) λv6 w6 e6 h6=>?_;refine .storeA (E:=eQ) A3 O O ((k4.ext e5).ext e6) O O h6 hU4 λw7 k7 u7 h7=>.an O O (.ret ?_);exact .plain [_,_] results81 ⟨⟨_,rfl,H5 (E:=eQ) A3 O O k7 h7⟩,rfl,trivial⟩ ⟨u7.below ((x4.trans e5).trans e6) hw4,_,_,rfl,hout h7,rfl⟩
 | true =>
  refine .mv O O (.ext O O O (.ext O O O (.ext O O O (.asg O O (.asg O O (.an O O ?_))))));refine .sr (.ldA A3 O O k3 (eQ.csz hb) ?_);rw[<-hvb];refine .call _ O I1 O (H8 hb4') λv5 w5 e5 h5=>?_;subst h5;unfold N2
  cases hsb:O5 b with
  | false =>
   refine .mv O O (.ext O O O (.ext O O O (.ext O O O (.asg O O (.asg O O (.an O O ?_))))));refine .seq (.sr (.mv O O (.mv O O (.gr O O O O (.mv O O (.pick O O O (.nil (.condF O (.skip ?_)))))))));refine .sr (.ldA A3 O O (k2.ext e5) (eQ.csz ha) (.ldA A3 O O (k3.ext e5) (eQ.csz hb) ?_));rw[<-hva,<-hvb];refine .call _ O I9 O (slow e5) λv6 w6 e6 h6=>?_;refine .storeA (E:=eQ) A3 O O ((k4.ext e5).ext e6) O O h6 hU4 λw7 k7 u7 h7=>.an O O (.ret ?_);exact .plain [_,_] results81 ⟨⟨_,rfl,H5 (E:=eQ) A3 O O k7 h7⟩,rfl,trivial⟩ ⟨u7.below ((x4.trans e5).trans e6) hw4,_,_,rfl,hout h7,rfl⟩
  | true =>
   have ba:=AH7 hsa;have bb:=AH7 hsb;refine .mv O O (.ext O O O (.ext O O O (.ext O O O (.asg O O (.asg O O (.an O O ?_))))));refine .seq (.sr (.mv O O (.mv O O (.gr O O O O (.mv O O (.pick O O O (.nil (.condT O (.seq (.sr (.mv O O ?_)))))))))));generalize pn a=an at *;generalize pn b=bn at *;generalize pd a=ad at *;generalize pd b=bd at *;have m1:=AB4 (x:=an) (y:=bd) (by omega) (by omega) (by omega) (by omega);have m2:=AB4 (x:=ad) (y:=bn) (by omega) (by omega) (by omega) (by omega);by_cases hneg:bn<0
   ·refine .lssT O O O hneg (.nil (.condT O (.region (.mv O O (.neg O O (.mv O O (.neg O O (.asg O O (.an O O (.sr ?_))))))))));rw[wI (n:=0-an) (by omega),wI (n:=0-bn) (by omega)];refine .mv O O (.mv O O (.mul O O O (.mv O O (.mv O O (.mul O O O ?_)))));have en:(0-an)*bd = -(an*bd):=by rw[fS,fA]
    have ed:ad*(0-bn) = -(ad*bn):=by rw[fS,fC]
    have hpos:0<ad*(0-bn):=dK hpa (by omega);rw[wI (n:=(0-an)*bd) (by omega),wI (n:=ad*(0-bn)) (by omega)];refine .call _ O Y6 O (V9 (upo4.ext e5.size) hpos (by omega) (by omega) (by omega)) λv6 w6 e6 h6=>?_;rw[en,ed,Rat.neg_divInt_neg] at h6;refine .storeA (E:=eQ) A3 O O ((k4.ext e5).ext e6) O O h6 hU4 λw7 k7 u7 h7=>.an O O (.ret ?_);exact .plain [_,_] results81 ⟨⟨_,rfl,H5 (E:=eQ) A3 O O k7 h7⟩,rfl,trivial⟩ ⟨u7.below ((x4.trans e5).trans e6) hw4,_,_,rfl,hout h7,rfl⟩
   ·have hpos:0<ad*bn:=dK hpa (by omega);refine .lssF O O O hneg (.nil (.condF O (.skip (.sr ?_))));refine .mv O O (.mv O O (.mul O O O (.mv O O (.mv O O (.mul O O O ?_)))));rw[wI (n:=an*bd) (by omega),wI (n:=ad*bn) (by omega)];refine .call _ O Y6 O (V9 (upo4.ext e5.size) hpos (by omega) (by omega) (by omega)) λv6 w6 e6 h6=>?_;refine .storeA (E:=eQ) A3 O O ((k4.ext e5).ext e6) O O h6 hU4 λw7 k7 u7 h7=>.an O O (.ret ?_);exact .plain [_,_] results81 ⟨⟨_,rfl,H5 (E:=eQ) A3 O O k7 h7⟩,rfl,trivial⟩ ⟨u7.below ((x4.trans e5).trans e6) hw4,_,_,rfl,hout h7,rfl⟩
theorem Bd7{S:Nat->Prop}{w:World}{va vb:Value}{a b:QV}{L:Nat}(up:Up S w)(ha:eQ.R S w va a)(hb:eQ.R S w vb b)(hla:qok L a)(hlb:qok L b)(hL:1<=L)(hL2:L<=100000000000)(h0:E3 b≠0) :
  CR prog 81 #[va,vb] w (Two (eQ.at S (qc (E3 a / E3 b))) (Is (iW 0))):=AT0 up up ha hb hla hlb hL hL2 h0
theorem qc_neg(r:Rat):qc (-r)=⟨zc (-r.num),(qc r).den⟩:=by unfold qc;simp
theorem BF0:Ent prog 29:=en func29
theorem BB6{S:Nat->Prop}{w:World}{va:Value}{a:QV}{L:Nat}(up:Up S w)(ha:eQ.R S w va a)(hk:qk L a)(hL:1<=L)(hL2:L<=100000000000) :
  CR prog 29 #[va] w (eQ.at S (qc (- E3 a))):=by
 have hva:=G8 O ha;refine enter func29 O ntmps29 O ?_;refine .sr (.box O O λw1 b1 n1=>.alloc O E8 λw2 b2 n2=>.nil ?_);obtain⟨e1,k1,hb1,hs1⟩:=n1;obtain⟨e2,k2,hb2,hs2⟩:=n2;have x2:=e1.trans e2;have k1:=k1.ext e2;have hS2:¬ Sx S w.heap.size w2.heap.size b2:=Sx.no (by omega) (by omega);have up2:Up (Sx S w.heap.size w2.heap.size) w2:=Sx.up up (aA _) x2.size;have ha2:=(ha.par w2.heap.size).ext x2;have hout:∀ {W:World} {v:Value} {z:QV},eQ.R (Sx S w.heap.size w2.heap.size) W v z->eQ.R S W v z:=λh=>h.out;generalize hT:Sx S w.heap.size w2.heap.size=T at *;refine .sr (.ldA A3 O O k1 (eQ.csz ha) ?_);rw[<-hva];refine .call _ O AE2 O (AQ6 up2 ha2 hk.1 hL (by omega)) λv3 w3 e3 h3=>.alloc O E8 λw4 b3 n4=>?_;obtain⟨e4,k3,hb3,hs4⟩:=n4;have hkc:qk L (qc (E3 a)):=AJ7 hk.2;have h3l:=(ER.lt eQ h3).ext e4;have hno:¬ (T b3/\b3<w3.heap.size):=λh=>by have:=h.2;omega
 refine .storeA (E:=eQ) A3 O O k3 O O h3l hno λw5 k3 u5 h5=>.nil ?_;have h5:eQ.R T w5 v3 (qc (E3 a)):=eQ.mono (λk _ h=>h.1) h5;clear h3 h3l;obtain⟨s,t,rfl,hn,hd⟩:=AG1 h5;replace k3:Blk w5 b3 39 #[.bool (qc (E3 a)).num.neg,s,.bool (qc (E3 a)).den.neg,t]:=k3;have hs2':=x2.size;have hs3':=e3.size;have hs5':=u5.size;have x4:=(x2.trans e3).trans e4;have x5:Ext w w5:=u5.below x4 (by omega);have k2:=((k2.ext e3).ext e4).upd u5 (show b2≠b3 by omega);have up5:=up2.ext (show w2.heap.size<=w5.heap.size by omega);have hnum:A6 (qc (E3 a)).num=(E3 a).num:=D0 _;refine .seq ?_;refine .par follows 6 [.inl _,.inl (.agg #[.bool (qc (E3 a)).num.neg,s]),.inr (eZ.at T (zc (-(E3 a).num))),.inl _,.inl (.agg #[.bool (qc (E3 a)).den.neg,t]),.inr (eQ.at T (qc (- E3 a)))] [[],[(6,0)],[(7,1)],[],[(9,3)],[(8,2),(10,4)]] (by kernel_rfl) ⟨fao AC2 O,λw e=>(Ai4 [.bool (qc (E3 a)).num.neg,s] B6 O (k3.ext e) Bb3).ob,λw e=>by
   have:=AF3 (up5.ext e.size) (ER.ext eZ hn e) (aG hkc.1.1 (by omega));rw[hnum] at this;exact (A4 _ AG5 O this).oa,fao AC1 O,λw e=>(Ai4 [.bool (qc (E3 a)).den.neg,t] B6 O (k3.ext e) Av8).ob,λw e x hx=>by
   obtain⟨sx,rfl,hsx⟩:=hx;obtain⟨st,hst,hsd⟩:=ER.ext eZ hd e;have est:st=t:=by simpa using hst.symm
   subst est;refine K5 (Bg5 [(0,.agg #[.bool (zc (-(E3 a).num)).neg,sx]),(1,.agg #[.bool (qc (E3 a)).den.neg,st])] O BD4) ?_ (G7 _ _ _);rw[qc_neg];exact⟨sx,st,rfl,hsx,hsd⟩,trivial⟩ ?_
 rintro w6 e6 x-z hz;refine .storeA (E:=eQ) A3 O O (k2.ext e6) O O hz hS2 λw7 k7 u7 h7=>.nil (.ret ?_);exact .cell results29 O A3 O O k7 h7 ⟨u7.below (x5.trans e6) (by omega),hout h7⟩
abbrev RM:=Nat->Nat->Rat
theorem AF5(n:Nat)(f g:Nat->Rat):B9 n (λk=>f k-g k)=B9 n f-B9 n g:=by
 induction n with
 | zero=>simp only[B9];grind
 | succ n ih=>rw[B9,B9,B9,ih];grind
def Spn (n C:Nat) (f:RM) (v:Nat->Rat):Prop:=∃ t:Nat->Rat,∀ k,k<C->v k=B9 n λi=>t i*f i k
section
variable {n C m:Nat} {f g:RM} {u v:Nat->Rat}
theorem Spn.row {i:Nat} (h:i<n):Spn n C f (f i):=by refine⟨λt=>if t=i then 1 else 0,λk _=>?_⟩;rw[I8 (i:=i) (λt _ ht=>by simp only[ht,if_false,bL]),if_pos h];simp
theorem Spn.zero:Spn n C f (λ_=>0):=⟨λ_=>0,λk _=>(H0 λi _=>bL _).symm⟩
theorem Spn.congr (h:Spn n C f u) (e:∀ k,k<C->v k=u k):Spn n C f v:=by obtain⟨t,ht⟩:=h;exact⟨t,λk hk=>by rw[e k hk,ht k hk]⟩
theorem Spn.add (h:Spn n C f u) (h':Spn n C f v):Spn n C f (λk=>u k+v k):=by obtain⟨t,ht⟩:=h;obtain⟨s,hs⟩:=h';refine⟨λi=>t i+s i,λk hk=>?_⟩;show u k+v k=_;rw[ht k hk,hs k hk,<-Aj1];exact A9 λi _=>by grind
theorem Spn.mul (c:Rat) (h:Spn n C f u):Spn n C f (λk=>c*u k):=by obtain⟨t,ht⟩:=h;refine⟨λi=>c*t i,λk hk=>?_⟩;show c*u k=_;rw[ht k hk,<-AB2];exact A9 λi _=>by grind
theorem Spn.sum (c:Nat->Rat) (h:∀ i,i<m->Spn n C f (g i)):Spn n C f (λk=>B9 m λi=>c i*g i k):=by
 induction m with
 | zero=>exact Spn.zero
 | succ m ih=>exact (ih λi hi=>h i (by omega)).add ((h m (by omega)).mul (c m))
theorem Spn.trans (h:Spn m C g v) (hg:∀ i,i<m->Spn n C f (g i)):Spn n C f v:=by obtain⟨t,ht⟩:=h;exact (Spn.sum t hg).congr ht
theorem Spn.less {C':Nat} (h:Spn n C f v) (hc:C'<=C):Spn n C' f v:=by obtain⟨t,ht⟩:=h;exact⟨t,λk hk=>ht k (by omega)⟩
theorem Spn.of_eq (h:Spn n C f v) (e:∀ i k,i<n->k<C->g i k=f i k):Spn n C g v:=by obtain⟨t,ht⟩:=h;exact⟨t,λk hk=>by rw[ht k hk];exact A9 λi hi=>by rw[e i k hi hk]⟩
theorem Spn.dot (h:Spn n C f v) (x:Nat->Rat) (t:Nat->Rat) (ht:∀ k,k<C->v k=B9 n λi=>t i*f i k):B9 C (λk=>v k*x k)=B9 n λi=>t i*B9 C λk=>f i k*x k:=by
 have e1:B9 C (λk=>v k*x k)=B9 C λk=>B9 n λi=>t i*(f i k*x k):=by refine A9 λk hk=>?_;rw[ht k hk,<-AD2];exact A9 λi _=>by grind
 rw[e1,<-Z5];exact A9 λi _=>AB2 ..
theorem Spn.dot0 (h:Spn n C f v) {x:Nat->Rat} (hx:∀ i,i<n->B9 C (λk=>f i k*x k)=0):B9 C (λk=>v k*x k)=0:=by obtain⟨t,ht⟩:=id h;rw[h.dot x t ht];exact H0 λi hi=>by rw[hx i hi,aW]
end
def K4 (f:RM) (col:Nat):Nat->Nat->Option Nat
 | 0,_=>none
 | n+1,i=>if f i col=0 then K4 f col n (i+1) else some i
theorem AX2 {f:RM} {col:Nat}:∀ {n i:Nat},K4 f col n i=none->∀ k,i<=k->k<i+n->f k col=0
 | 0,i,_,k,h1,h2=>by omega
 | n+1,i,h,k,h1,h2=>by
  unfold K4 at h
  split at h
  ·rename_i h0
   by_cases e:k=i
   ·rw[e];exact h0
   ·exact AX2 h k (by omega) (by omega)
  ·cases h
theorem N8 {f:RM} {col:Nat}:∀ {n i r:Nat},K4 f col n i=some r->i<=r/\r<i+n/\f r col≠0/\∀ k,i<=k->k<r->f k col=0
 | 0,i,r,h=>by cases h
 | n+1,i,r,h=>by
  unfold K4 at h
  split at h
  ·rename_i h0
   obtain⟨h1,h2,h3,h4⟩:=N8 h
   refine⟨by omega,by omega,h3,λk hk hr=>?_⟩
   by_cases e:k=i
   ·rw[e];exact h0
   ·exact h4 k (by omega) hr
  ·rename_i h0
   cases h
   exact⟨aA _,by omega,h0,λk h1 h2=>by omega⟩
theorem Ak3 {f f':RM} {col:Nat}:∀ {n i:Nat},(∀ k,i<=k->k<i+n->f k col=f' k col)->K4 f col n i=K4 f' col n i
 | 0,_,_=>rfl
 | n+1,i,h=>by
  unfold K4
  rw[h i (aA _) (by omega),Ak3 (n:=n) (i:=i+1) λk h1 h2=>h k (by omega) (by omega)]
def swp (f:RM) (a b:Nat):RM:=λi=>if i=a then f b else if i=b then f a else f i
def clr (f:RM) (p col:Nat):RM:=λi k=>if i=p then (f p col)⁻¹*f p k else -(f i col)*((f p col)⁻¹*f p k)+f i k
def Z8 (n col:Nat) (s:RM×List Nat):RM×List Nat :=
 match K4 s.1 col (n-s.2.length) s.2.length with
 | none=>s
 | some r=>(clr (swp s.1 r s.2.length) s.2.length col,s.2++[col])
def elim (n:Nat) (f:RM):Nat->RM×List Nat
 | 0=>(f,[])
 | c+1=>Z8 n c (elim n f c)
section
variable {n C a b:Nat} {f:RM}
theorem swp_sub (ha:a<n) (hb:b<n) {i:Nat} (hi:i<n):Spn n C f (swp f a b i):=by
 unfold swp;split
 ·exact Spn.row hb
 ·split
  ·exact Spn.row ha
  ·exact Spn.row hi
theorem sub_swp (ha:a<n) (hb:b<n) {i:Nat} (hi:i<n):Spn n C (swp f a b) (f i):=by
 by_cases e1:i=a
 ·subst e1;have:=Spn.row (C:=C) (f:=swp f i b) hb;refine this.congr λk _=>?_;unfold swp;by_cases e:b=i
  ·simp[e]
  ·simp[e]
 ·by_cases e2:i=b
  ·subst e2;have:=Spn.row (C:=C) (f:=swp f a i) ha;refine this.congr λk _=>?_;unfold swp;simp
  ·have:=Spn.row (C:=C) (f:=swp f a b) hi;refine this.congr λk _=>?_;unfold swp;simp[e1,e2]
theorem clr_sub {p col:Nat} (hp:p<n) {i:Nat} (hi:i<n):Spn n C f (clr f p col i):=by
 by_cases e:i=p
 ·refine ((Spn.row hp).mul (f p col)⁻¹).congr λk _=>?_;unfold clr;simp[e]
 ·refine ((((Spn.row (f:=f) hp).mul (f p col)⁻¹).mul (-(f i col))).add (Spn.row hi)).congr λk _=>?_;unfold clr;simp[e]
theorem sub_clr {p col:Nat} (hp:p<n) (h0:f p col≠0) {i:Nat} (hi:i<n):Spn n C (clr f p col) (f i):=by
 have e0:∀ k,clr f p col p k=(f p col)⁻¹*f p k:=λk=>by unfold clr;simp
 by_cases e:i=p
 ·subst e;refine ((Spn.row (f:=clr f i col) hp).mul (f i col)).congr λk _=>?_;rw[e0,<-fU,fD _ h0,Rat.one_mul]
 ·refine ((Spn.row (f:=clr f p col) hi).add ((Spn.row (f:=clr f p col) hp).mul (f i col))).congr λk _=>?_;rw[e0];unfold clr;simp only[e,if_false];grind
end
theorem AC0{p:List Nat}{c j:Nat}(h:j<p.length):(p++[c]).getD j 0=p.getD j 0:=by simp[aF,bQ h]
theorem AI1{p:List Nat}{c:Nat}:(p++[c]).getD p.length 0=c:=by simp[aF]
structure Ech (n c:Nat) (g:RM) (p:List Nat):Prop where
 len:p.length<=n
 lt:∀ j,j<p.length->p.getD j 0<c
 inc:∀ j,j+1<p.length->p.getD j 0<p.getD (j+1) 0
 one:∀ i j,i<n->j<p.length->g i (p.getD j 0)=if i=j then 1 else 0
 low:∀ i k,i<p.length->k<p.getD i 0->g i k=0
 nil:∀ i k,p.length<=i->i<n->k<c->g i k=0
theorem Ech.mono{n c:Nat}{g:RM}{p:List Nat}(h:Ech n c g p):∀ {i j:Nat},i<j->j<p.length->p.getD i 0<p.getD j 0:=by
 intro i j hij hj;induction j with
 | zero=>omega
 | succ j ih =>
  have h1:=h.inc j hj;by_cases e:i=j
  ·subst e;exact h1
  ·have:=ih (by omega) (by omega);omega
theorem Ech.inj{n c:Nat}{g:RM}{p:List Nat}(h:Ech n c g p){i j:Nat}(hi:i<p.length)(hj:j<p.length)(e:p.getD i 0=p.getD j 0):i=j:=by
 rcases iJ i j with h1 | h1 | h1
 ·have:=h.mono h1 hj;omega
 ·exact h1
 ·have:=h.mono h1 hi;omega
theorem Ech.ge{n c:Nat}{g:RM}{p:List Nat}(h:Ech n c g p):∀ {j:Nat},j<p.length->j<=p.getD j 0:=by
 intro j;induction j with
 | zero=>intro _;omega
 | succ j ih=>intro hj;have:=h.inc j hj;have:=ih (by omega);omega
theorem Ech.len_c{n c:Nat}{g:RM}{p:List Nat}(h:Ech n c g p):p.length<=c:=by
 by_cases h0:p.length=0
 ·omega
 ·have h1:=h.ge (j:=p.length-1) (by omega);have h2:=h.lt (p.length-1) (by omega);omega
theorem Ech.start(n:Nat)(f:RM):Ech n 0 f [] :=
 ⟨aC _,λj h=>absurd h (bK _),λj h=>absurd h (bK _),λi j _ h=>absurd h (bK _),λi k h=>absurd h (bK _),λi k _ _ h=>absurd h (bK _)⟩
theorem Ech.step{n c:Nat}{s:RM×List Nat}(h:Ech n c s.1 s.2):Ech n (c+1) (Z8 n c s).1 (Z8 n c s).2:=by
 obtain⟨g,p⟩:=s;replace h:Ech n c g p:=h;unfold Z8;simp only;split
 ·rename_i hn;refine⟨h.len,λj hj=>Nat.lt_succ_of_lt (h.lt j hj),h.inc,h.one,h.low,λi k h1 h2 h3=>?_⟩;by_cases hk:k=c
  ·subst hk;have:=h.len;exact AX2 hn i h1 (by omega)
  ·exact h.nil i k h1 h2 (by omega)
 ·rename_i r hr;obtain⟨h1,h2,h3,_⟩:=N8 hr;have hq:=h.len;have hrn:r<n:=by omega
  have hqn:p.length<n:=by omega
  have sq:∀ k,swp g r p.length p.length k=g r k:=λk=>by
   unfold swp;by_cases e:p.length=r
   ·simp[<-e]
   ·simp[e]
  have sl:∀ i k,i<p.length->swp g r p.length i k=g i k:=λi k hi=>by unfold swp;rw[if_neg (by omega),if_neg (by omega)]
  have sh:∀ i,p.length<=i->i<n->∃ t,p.length<=t/\t<n/\∀ k,swp g r p.length i k=g t k:=λi hi hn=>by
   unfold swp;by_cases e1:i=r
   ·exact⟨p.length,aA _,hqn,λk=>by simp[e1]⟩
   ·by_cases e2:i=p.length
    ·exact⟨r,h1,hrn,λk=>by rw[if_neg e1,if_pos e2]⟩
    ·exact⟨i,hi,hn,λk=>by simp[e1,e2]⟩
  have zr:∀ k,k<c->g r k=0:=λk hk=>h.nil r k h1 hrn hk;have cq:∀ k,clr (swp g r p.length) p.length c p.length k=(g r c)⁻¹*g r k:=λk=>by unfold clr;rw[if_pos rfl,sq,sq]
  have ci:∀ i k,i≠p.length->clr (swp g r p.length) p.length c i k = -(swp g r p.length i c)*((g r c)⁻¹*g r k)+swp g r p.length i k:=λi k hi=>by unfold clr;rw[if_neg hi,sq,sq]
  have H3:(g r c)⁻¹*g r c=1:=Rat.inv_mul_cancel _ h3;show Ech n (c+1) (clr (swp g r p.length) p.length c) (p++[c]);refine⟨by simp;omega,λj hj=>?_,λj hj=>?_,λi j hi hj=>?_,λi k hi hk=>?_,λi k hi hn hk=>?_⟩
  ·simp only[aL,aS,cN] at hj;by_cases e:j=p.length
   ·subst e;rw[AI1];omega
   ·rw[AC0 (by omega)];have:=h.lt j (by omega);omega
  ·simp only[aL,aS,cN] at hj;rw[AC0 (by omega)];by_cases e:j+1=p.length
   ·rw[e,AI1];exact h.lt j (by omega)
   ·rw[AC0 (by omega)];exact h.inc j (by omega)
  ·simp only[aL,aS,cN] at hj;by_cases e:j=p.length
   ·subst e;rw[AI1];by_cases ei:i=p.length
    ·rw[ei,cq,H3,if_pos rfl]
    ·rw[ci i c ei,H3,if_neg ei];grind
   ·rw[AC0 (by omega)];have hj':j<p.length:=by omega
    have hz:g r (p.getD j 0)=0:=zr _ (h.lt j hj');by_cases ei:i=p.length
    ·rw[ei,cq,hz,aW,if_neg (by omega)]
    ·rw[ci _ _ ei,hz,aW,aW,Rat.zero_add];by_cases hi':i<p.length
     ·rw[sl i _ hi',h.one i j hi hj']
     ·obtain⟨t,ht1,ht2,ht3⟩:=sh i (by omega) hi;rw[ht3,h.one t j ht2 hj',if_neg (by omega),if_neg (by omega)]
  ·simp only[aL,aS,cN] at hi;by_cases e:i=p.length
   ·subst e;rw[AI1] at hk;rw[cq,zr k hk,aW]
   ·have hi':i<p.length:=by omega
    rw[AC0 hi'] at hk;have:=h.lt i hi';rw[ci i k e,zr k (by omega),aW,aW,Rat.zero_add,sl i k hi',h.low i k hi' hk]
  ·simp only[aL,aS,cN] at hi;rw[ci i k (by omega)];obtain⟨t,ht1,ht2,ht3⟩:=sh i (by omega) hn;by_cases e:k=c
   ·subst e;rw[H3];grind
   ·rw[zr k (by omega),aW,aW,Rat.zero_add,ht3,h.nil t k ht1 ht2 (by omega)]
theorem AG0 (n:Nat) (f:RM):∀ c,Ech n c (elim n f c).1 (elim n f c).2
 | 0=>Ech.start n f
 | c+1=>(AG0 n f c).step
def Req (n C:Nat) (f g:RM):Prop:=(∀ i,i<n->Spn n C f (g i))/\(∀ i,i<n->Spn n C g (f i))
theorem Req.refl(n C:Nat)(f:RM):Req n C f f:=⟨λ_ h=>Spn.row h,λ_ h=>Spn.row h⟩
theorem Req.trans{n:Nat}{f g h:RM}(a:Req n C f g)(b:Req n C g h):Req n C f h :=
 ⟨λi hi=>(b.1 i hi).trans a.1,λi hi=>(a.2 i hi).trans b.2⟩
theorem Bo6{n c:Nat}{s:RM×List Nat}(h:s.2.length<=n):Req n C s.1 (Z8 n c s).1:=by
 obtain⟨g,p⟩:=s;unfold Z8;simp only;split
 ·exact Req.refl _ _ _
 ·rename_i r hr;obtain⟨h1,h2,h3,_⟩:=N8 hr;have hr':r<n:=by omega
  have hq:p.length<n:=by omega
  have sq:swp g r p.length p.length c≠0:=by
   unfold swp;by_cases e:p.length=r
   ·simp only[e,if_true];rwa [<-e] at h3 ⊢
   ·simp only[e,if_false,if_true];exact h3
  exact Req.trans ⟨λi hi=>swp_sub hr' hq hi,λi hi=>sub_swp hr' hq hi⟩ ⟨λi hi=>clr_sub hq hi,λi hi=>sub_clr hq sq hi⟩
theorem Al4 (n C:Nat) (f:RM):∀ c,Req n C f (elim n f c).1
 | 0=>Req.refl _ _ _
 | c+1=>(Al4 n C f c).trans (Bo6 (AG0 n f c).len)
def Agf (n C:Nat) (f g:RM):Prop:=∀ i k,i<n->k<C->f i k=g i k
theorem Bo7{n c:Nat}{s s':RM×List Nat}(hc:c<C)(hl:s.2.length<=n)(ha:Agf n C s.1 s'.1)(he:s.2=s'.2):Agf n C (Z8 n c s).1 (Z8 n c s').1/\(Z8 n c s).2=(Z8 n c s').2:=by
 obtain⟨g,p⟩:=s;obtain⟨g',p'⟩:=s';subst he;unfold Z8;simp only;have e:K4 g c (n-p.length) p.length=K4 g' c (n-p.length) p.length:=Ak3 λk h1 h2=>ha k c (by omega) hc;rw[<-e]
 cases hr:K4 g c (n-p.length) p.length with
 | none=>exact⟨ha,rfl⟩
 | some r =>
  obtain⟨h1,h2,h3,_⟩:=N8 hr;refine⟨?_,rfl⟩;have hs:Agf n C (swp g r p.length) (swp g' r p.length):=by
   intro i k hi hk;unfold swp;split
   ·exact ha _ _ (by omega) hk
   ·split
    ·exact ha _ _ (by omega) hk
    ·exact ha _ _ hi hk
  intro i k hi hk;show clr (swp g r p.length) p.length c i k=clr (swp g' r p.length) p.length c i k;unfold clr;rw[hs p.length c (by omega) hc,hs p.length k (by omega) hk,hs i c hi hc,hs i k hi hk]
theorem BX3 {n C:Nat} {f g:RM} (h:Agf n C f g):∀ c,c<=C->Agf n C (elim n f c).1 (elim n g c).1/\(elim n f c).2=(elim n g c).2
 | 0,_=>⟨h,rfl⟩
 | c+1,hc=>by
  obtain⟨h1,h2⟩:=BX3 h c (by omega)
  exact Bo7 (by omega) (AG0 n f c).len h1 h2
section
variable {n C:Nat} {g f:RM} {p:List Nat} {v:Nat->Rat}
def nv (g:RM) (p:List Nat) (k:Nat):Nat->Rat:=λc=>(if c=k then 1 else 0)-B9 p.length λj=>if p.getD j 0=c then g j k else 0
theorem nv_dot (h:Ech n C g p) {k:Nat} (hk:k<C) (a:Nat->Rat):B9 C (λc=>a c*nv g p k c)=a k-B9 p.length λj=>a (p.getD j 0)*g j k:=by
 have e1:∀ c,a c*nv g p k c=(if c=k then a k else 0)-B9 p.length λj=>if p.getD j 0=c then a (p.getD j 0)*g j k else 0:=by
  intro c;unfold nv;have e2:a c*(B9 p.length λj=>if p.getD j 0=c then g j k else 0)=B9 p.length λj=>if p.getD j 0=c then a (p.getD j 0)*g j k else 0:=by
   rw[<-AB2];refine A9 λj _=>?_;by_cases e:p.getD j 0=c
   ·rw[if_pos e,if_pos e,e]
   ·rw[if_neg e,if_neg e,aW]
  by_cases e:c=k
  ·subst e;rw[if_pos rfl,if_pos rfl,<-e2];grind
  ·rw[if_neg e,if_neg e,<-e2];grind
 rw[A9 λc _=>e1 c,AF5,I8 (i:=k) (λc _ hc=>by rw[if_neg hc]),if_pos hk,if_pos rfl,Z5];congr 1;refine A9 λj hj=>?_;rw[I8 (i:=p.getD j 0) (λc _ hc=>by rw[if_neg (λe=>hc e.symm)]),if_pos (h.lt j hj),if_pos rfl]
theorem nv_null (h:Ech n C g p) {k i:Nat} (hk:k<C) (hi:i<n):B9 C (λc=>g i c*nv g p k c)=0:=by
 rw[nv_dot h hk];rw[I8 (i:=i) (λj hj hne=>by rw[h.one i j hi hj,if_neg (λe=>hne e.symm),bL])];split
 ·rename_i hj;rw[h.one i i hi hj,if_pos rfl];grind
 ·rename_i hj;rw[h.nil i k (by omega) hi hk];grind
theorem nv_self {k:Nat} (hk:∀ j,j<p.length->p.getD j 0≠k):nv g p k k=1:=by unfold nv;rw[if_pos rfl,H0 λj hj=>by rw[if_neg (hk j hj)]];grind
theorem Ech.free (h:Ech n C g p) (hl:p.length<C):∃ k,k<C/\∀ j,j<p.length->p.getD j 0≠k:=by
 have key:∀ m,m<=p.length->(∀ j,j<m->p.getD j 0=j)\/∃ k,k<C/\∀ j,j<p.length->p.getD j 0≠k:=by
  intro m;induction m with
  | zero=>exact λ_=>.inl λj hj=>absurd hj (bK _)
  | succ m ih =>
   intro hm;rcases ih (by omega) with h1 | h1
   ·by_cases e:p.getD m 0=m
    ·refine .inl λj hj=>?_;by_cases ej:j=m
     ·rw[ej];exact e
     ·exact h1 j (by omega)
    ·refine .inr ⟨m,by omega,λj hj=>?_⟩;have hge:m<=p.getD m 0:=by
      cases m with
      | zero=>omega
      | succ m=>have:=h.inc m (by omega);have:=h1 m (by omega);omega
     rcases iJ j m with hj' | hj' | hj'
     ·rw[h1 j hj'];omega
     ·rw[hj'];exact e
     ·have:=h.mono hj' hj;omega
   ·exact .inr h1
 rcases key p.length (aA _) with h1 | h1
 ·exact⟨p.length,hl,λj hj=>by rw[h1 j hj];omega⟩
 ·exact h1
end
def pos (k b:Nat):Nat:=if b<k then b else b-1
def idR:RM:=λi k=>if i=k then 1 else 0
def Ag6 (n col:Nat) (s:RM×List Nat) (d:Rat):Rat :=
 match K4 s.1 col (n-s.2.length) s.2.length with
 | none=>d
 | some r=>(if r=s.2.length then d else -d)*s.1 r col
def Q0 (n:Nat) (f:RM):Nat->Rat
 | 0=>1
 | c+1=>Ag6 n c (elim n f c) (Q0 n f c)
def O1 (f:RM) (p col m:Nat):RM:=λi k=>if i=p then (f p col)⁻¹*f p k else if i<m then -(f i col)*((f p col)⁻¹*f p k)+f i k else f i k
theorem Ech.full{n:Nat}{g:RM}{p:List Nat}(h:Ech n n g p)(hl:p.length=n):(∀ j,j<n->p.getD j 0=j):=by
 have low:∀ j,j<n->j<=p.getD j 0:=by
  intro j;induction j with
  | zero=>intro _;omega
  | succ j ih=>intro hj;have:=h.inc j (by omega);have:=ih (by omega);omega
 have up:∀ d j,j+d+1=n->p.getD j 0<=j:=by
  intro d;induction d with
  | zero=>intro j hj;have:=h.lt j (by omega);omega
  | succ d ih=>intro j hj;have:=h.inc j (by omega);have:=ih (j+1) (by omega);omega
 intro j hj;have:=low j hj;have:=up (n-j-1) j (by omega);omega
theorem Rsz.inv{r:Rat}{L:Nat}(h:Rsz r L)(hL:1<=L):Rsz r⁻¹ L:=by
 by_cases h0:r=0
 ·subst h0;rw[Rat.inv_zero];exact Rsz.zero hL
 ·have hn:r.num≠0:=λe=>h0 (Rat.num_eq_zero.1 e);have e:r⁻¹=Rat.divInt r.den r.num:=by have:r=Rat.divInt r.num r.den:=(Rat.num_divInt_den r).symm;rw[this,Rat.inv_divInt,<-this]
  have hc:Nat.gcd r.num.natAbs r.den=1:=r.reduced;rw[e];have hg:Int.gcd r.num r.den=1:=hc;refine⟨?_,?_⟩
  ·rw[gH,hg,Int.natCast_one,Int.ediv_one];rw[dE];have:r.num.sign.natAbs=1:=by rw[Int.natAbs_sign];rw[if_neg hn]
   rw[this,Nat.one_mul];simpa using h.2
  ·rw[Rat.den_divInt,if_neg hn,hg];simpa using h.1
def bd (L:Nat):Nat->Nat
 | 0=>L
 | k+1=>4*bd L k+1
theorem bd_le(L k:Nat):bd L k<=bd L (k+1):=by rw[bd];omega
theorem Z3(L:Nat){j k:Nat}(h:j<=k):bd L j<=bd L k:=by
 induction k with
 | zero=>rw[show j=0 by omega];exact aA _
 | succ k ih =>
  by_cases e:j=k+1
  ·rw[e];exact aA _
  ·exact aG (ih (by omega)) (bd_le L k)
theorem BQ6{L:Nat}(h:1<=L)(k:Nat):1<=bd L k:=aG h (Z3 L (aC k))
theorem BM6{n a b L:Nat}{f:RM}(ha:a<n)(hb:b<n)(h:∀ i k,i<n->k<C->Rsz (f i k) L):∀ i k,i<n->k<C->Rsz (swp f a b i k) L:=by
 intro i k hi hk;unfold swp;split
 ·exact h _ _ hb hk
 ·split
  ·exact h _ _ ha hk
  ·exact h _ _ hi hk
theorem clr_rsz{n p L:Nat}{f:RM}(hp:p<n)(hc:col<C)(hL:1<=L)(h:∀ i k,i<n->k<C->Rsz (f i k) L):∀ i k,i<n->k<C->Rsz (clr f p col i k) (4*L+1):=by
 intro i k hi hk;have h1:Rsz ((f p col)⁻¹*f p k) (L+L):=((h p col hp hc).inv hL).mul (h p k hp hk);unfold clr;split
 ·exact h1.mono (by omega)
 ·exact (((h i col hi hc).neg.mul h1).add (h i k hi hk)).mono (by omega)
theorem AQ7 {n C L:Nat} {f:RM} (hL:1<=L) (h:∀ i k,i<n->k<C->Rsz (f i k) L):∀ c,c<=C->∀ i k,i<n->k<C->Rsz ((elim n f c).1 i k) (bd L (elim n f c).2.length)
 | 0,_=>h
 | c+1,hc=>by
  have ih:=AQ7 hL h c (by omega)
  have e1:elim n f (c+1)=Z8 n c (elim n f c):=rfl
  rw[e1]
  unfold Z8
  split
  ·exact ih
  ·rename_i r hr
   obtain⟨h1,h2,h3,_⟩:=N8 hr
   have:=clr_rsz (p:=(elim n f c).2.length) (col:=c) (by omega) (by omega) (BQ6 hL _) (BM6 (a:=r) (b:=(elim n f c).2.length) (by omega) (by omega) ih)
   intro i k hi hk
   have h4:=this i k hi hk
   simp only[aL,aS,cN]
   exact h4
theorem F2{n c i:Nat}{f:RM}(h:i<n):(C6 n c f)[i]?=some (tab c (f i)):=by unfold C6;rw[aI,bA h];rfl
theorem H2{c k:Nat}{g:Nat->Rat}(h:k<c):(tab c g)[k]?=some (qc (g k)):=by unfold tab;rw[aI,bA h];rfl
theorem R5{n c i:Nat}{f:RM}{u:Nat->Rat}(h:i<n):(C6 n c f).set i (tab c u)=C6 n c λj k=>if j=i then u k else f j k:=by
 apply cU;intro j;rw[dB,A8];by_cases e:i=j
 ·subst e;rw[if_pos rfl,if_pos h,F2 h];simp
 ·rw[if_neg e];by_cases hj:j<n
  ·rw[F2 hj,F2 hj];have:(λk=>if j=i then u k else f j k)=f j:=by funext k;rw[if_neg (λh=>e h.symm)]
   rw[this]
  ·rw[aH (by rw[A8];omega),aH (by rw[A8];omega)]
theorem BL4 {n:Nat} {f:RM} {c:Nat} (h:(elim n f c).2.length=n):∀ d,elim n f (c+d)=elim n f c/\Q0 n f (c+d)=Q0 n f c
 | 0=>⟨rfl,rfl⟩
 | d+1=>by
  obtain⟨h1,h2⟩:=BL4 h d
  have e1:elim n f (c+(d+1))=Z8 n (c+d) (elim n f (c+d)):=rfl
  have e2:Q0 n f (c+(d+1))=Ag6 n (c+d) (elim n f (c+d)) (Q0 n f (c+d)):=rfl
  have e3:K4 (elim n f c).1 (c+d) (n-(elim n f c).2.length) (elim n f c).2.length=none:=by rw[h,dX];rfl
  rw[e1,e2,h1,h2]
  unfold Z8 Ag6
  rw[e3]
  exact⟨rfl,rfl⟩
theorem BD1{n p:Nat}{f:RM}:C6 n C (O1 f p col 0)=C6 n C λj k=>if j=p then (f p col)⁻¹*f p k else f j k:=by unfold O1;simp
theorem E7{n c:Nat}{f g:RM}(h:∀ i k,i<n->k<c->f i k=g i k):C6 n c f=C6 n c g:=by unfold C6 tab;apply cK;intro i hi;apply cK;intro k hk;rw[h i k (List.mem_range.1 hi) (List.mem_range.1 hk)]
theorem BL6{n p:Nat}{f:RM}:C6 n C (O1 f p col n)=C6 n C (clr f p col) :=
 E7 λi k hi _=>by
  unfold O1 clr
  by_cases e:i=p
  ·simp[e]
  ·simp[e,hi]
theorem AK3{f:RM}{p i:Nat}:O1 f p col (i+1)=λj k=>if j=i then (if i=p then (f p col)⁻¹*f p k else -(f i col)*((f p col)⁻¹*f p k)+f i k) else O1 f p col i j k:=by
 funext j k;unfold O1;by_cases e:j=i
 ·subst e;by_cases e2:j=p
  ·simp[e2]
  ·simp[e2]
 ·rw[if_neg e];by_cases e2:j=p
  ·simp[e2]
  ·rw[if_neg e2,if_neg e2];by_cases h:j<i
   ·rw[if_pos h,if_pos (by omega)]
   ·rw[if_neg h,if_neg (by omega)]
theorem AB1{c i:Nat}{f:Nat->Rat}{y:Rat}:(tab c f).set i (qc y)=tab c λk=>if k=i then y else f k:=by
 apply cU;intro j;unfold tab;rw[dB];by_cases e:i=j
 ·subst e;by_cases h:i<c
  ·simp[h]
  ·simp[h]
 ·rw[if_neg e];by_cases h:j<c
  ·simp[h,show j≠i from λx=>e x.symm]
  ·simp[h]
theorem sgn_tri(r:Rat):(r=0/\BM7 r=0)\/(r≠0/\BM7 r=1)\/(r≠0/\BM7 r = -1):=by
 unfold BM7;by_cases h:r=0
 ·exact .inl ⟨h,by simp[h]⟩
 ·have hn:r.num≠0:=λe=>h (Rat.num_eq_zero.1 e);rcases gO hn with h1 | h1
  ·exact .inr (.inr ⟨h,cC h1⟩)
  ·exact .inr (.inl ⟨h,bZ h1⟩)
def pivV:Option Nat->Value
 | none=>.tuple #[.int .i64 0,.bool false]
 | some r=>.tuple #[.int .i64 (r:Nat),.bool true]
theorem Aq0:Ent prog 254:=en func254
theorem An8{S:Nat->Prop}{w:World}{vr:Value}{n a:Nat}{f:RM}(h:eM.R S w vr (C6 n C f))(ha:a<=n)(hcol:col<C)(hn:n<=1000000) :
  CR prog 254 #[vr,iW a,iW col] w (Is (pivV (K4 f col (n-a) a))):=by
 refine enter func254 O ntmps254 O (.sr (.asg O O (.an O O (.scope (.seq (.label (.seq (.sr (.mv O O (.an O O (.block (.loop (α:=Nat) (λi=>[(0,vr),(2,iW col),(6,iW 0),(7,.bool false),(8,iW (i:Nat))]) (λi W=>Ext w W/\i<=n/\K4 f col (n-a) a=K4 f col (n-i) i) (λi=>n-i) a ?_ ?_ ?_))))))))))))
 ·exact lkA rfl
 ·exact⟨Ext.refl _,ha,rfl⟩
 ·rintro i W ⟨hB,hi,he⟩;have hm:=ER.ext eM h hB;refine .seq (.sr (.mv O O (.mv O O (.lenR E4 O O hm ?_))));rw[A8];by_cases hlt:i<n
  ·refine .lssT O O O (by omega) (.nil (.condT O (.skip (.seq (.block (.sr (.mv O O (.mv O O (.ixN (i:=i) E4 C2 O O hm O (F2 hlt) λp hp=>.ldE C2 O O hp λe1 h1=>.mv O O (.ixN (i:=col) C9 A3 O O h1 O (H2 hcol) λp2 hp2=>.ldE A3 O O hp2 λe2 h2=>(.call _ O AN4 O (AM5 h2) λv3 w3 e3 h3=>.nil (.block ?_))))))))))));subst h3;rw[C3];have hst:K4 f col (n-i) i=if f i col=0 then K4 f col (n-(i+1)) (i+1) else some i:=by rw[show n-i=(n-(i+1))+1 by omega];rfl
   rcases sgn_tri (f i col) with ⟨h0,hs⟩ | ⟨h0,hs⟩ | ⟨h0,hs⟩
   ·rw[hs];refine .seq (.sr (.eqlF O O O (by decide) (.an O O (.condF O (.region (.eqlF O O O (by decide) (.an O O (.condF O (.skip (.region (.mv O O (.add O O O (.an O O ?_)))))))))))));rw[wI (by omega)];rw[if_pos h0] at hst;exact⟨rfl,i+1,lkA rfl,⟨hB.trans e3,hlt,he.trans hst⟩,by show n-(i+1)<n-i;omega⟩
   ·rw[hs];rw[if_neg h0] at hst;refine .seq (.sr (.eqlF O O O (by decide) (.an O O (.condF O (.region (.eqlT O O O O (.an O O (.condT O (.sr (.mv O O (.asg O O (.an O O (.exit (.sr (.mv O O (.mv O O (.asg O O (.an O O (.ret ?_)))))))))))))))))));exact .plain [_,_] results254 ⟨rfl,rfl,trivial⟩ ⟨hB.trans e3,by rw[he,hst];rfl⟩
   ·rw[hs];rw[if_neg h0] at hst;refine .seq (.sr (.eqlT O O O O (.an O O (.condT O (.skip (.condT O (.sr (.mv O O (.asg O O (.an O O (.exit (.sr (.mv O O (.mv O O (.asg O O (.an O O (.ret ?_)))))))))))))))));exact .plain [_,_] results254 ⟨rfl,rfl,trivial⟩ ⟨hB.trans e3,by rw[he,hst];rfl⟩
  ·refine .lssF O O O (by omega) (.nil (.condF O (.exit (.sr (.mv O O (.mv O O (.asg O O (.an O O (.ret ?_)))))))));exact .plain [_,_] results254 ⟨rfl,rfl,trivial⟩ ⟨hB,by rw[he,show n-i=0 by omega];rfl⟩
abbrev ign:Value:=.agg #[.func (.func 256) #[] #[],.func (.func 257) #[] #[]]
theorem zero_EV:M0 prog 228=some (.agg #[.nilFunc,.nilFunc]):=by kernel_rfl
theorem ty_EV:F6 prog 228=some (true,2):=by kernel_rfl
theorem bld_EV{f g:Value}(hf:H3 f=true)(hg:H3 g=true):AK4 prog 228 [(0,f),(1,g)]=some #[f,g]:=by
 cases f<;>first | (cases hf;done) | (cases g<;>first | (cases hg;done) | kernel_rfl)
theorem AV1:Ent prog 232:=en func232
theorem AU6{w:World}:CR prog 232 #[] w (Is ign):=by
 refine enter func232 O ntmps232 O (.sr (.alloc O zero_EV λw1 b0 n1=>.nil ?_));obtain⟨e1,k1,hb1,hs1⟩:=n1;refine .sr (.bld _ O O (bld_EV O O) (.store ty_EV O O k1 O (by simp[Value.cells]) (by simp[H3,Value.cells]) λw2 k2 u2=>.nil (.ret ?_)));have:=V5 (P:=prog) (w:=w2) (p:=⟨b0,0,none⟩) (cs:=[.func (.func 256) #[] #[],.func (.func 257) #[] #[]]) (t:=228) ty_EV (λj u hu=>by
  rw[S8,k2.cell,aD];match j with
  | 0=>exact hu
  | 1=>exact hu
  | j+2=>simp at hu)
 exact .plain [_] results232 ⟨⟨_,rfl,this⟩,trivial⟩ ⟨u2.below e1 (by omega),rfl⟩
def S6 (lt:List Nat) (i:Nat):Bool:=lt.any (Nat.beq i)
theorem Ag3{lt:List Nat}{i:Nat}:S6 lt i=true<->i∈lt:=by
 unfold S6;rw[gY];constructor
 ·rintro⟨x,hx,h⟩;rw[bH h];exact hx
 ·exact λh=>⟨i,h,by simp⟩
def nog (o:Oper):Bool:=match o.guard with | none=>true | _=>false
def BA0 (o:Oper):Bool:=match o.op with | .move _=>true | .extract _ _=>true | _=>false
def Aw0 (ops:List Oper) (lt:List Nat) (i:Nat) (o:Oper):Bool :=
 (List.range i).all (λj=>S6 lt j || (AY5 ops i (AE7 o)).any (Nat.beq j)) && (match o.op with | .defer _=>false | .select ..=>false | _=>true) &&
 (lt.all λl=>match ops[l]? with
  | some ol=>(S4 o).all (λt=>ol.dst != some t) || (AY5 ops i (AE7 o)).any (Nat.beq l)
  | none=>true)
def Bc8 (ops:List Oper) (h:Nat) (deps:List (List (Tmp×Nat))) (l:Nat):Bool :=
 Nat.blt l h && match ops[l]? with
  | some ol=>BA0 ol && (S4 ol).all λt=>(deps.getD l []).any (λp=>Nat.beq p.1 t && Nat.blt p.2 l) || ops.all λq=>q.dst != some t
  | none=>false
def Bc7 (ops:List Oper) (N h:Nat) (deps:List (List (Tmp×Nat))) (lt:List Nat):Bool :=
 ops.zipIdx.all (λq=>Ag0 q.2 q.1) && Ag1 (P7 ops) && ops.all (λo=>nog o && dOk N o.dst) &&
 ops.zipIdx.all (λq=>if Nat.blt q.2 h then Au4 (ops.take h) N q.2 q.1 (deps.getD q.2 []) else Aw0 ops lt q.2 q.1) &&
 Nat.ble h ops.length && lt.all (Bc8 ops h deps)
def Ap5 (P:Program) (o:Oper) (ρ:Operand->Value) (v:Value):Prop:=∀ ρ':Operand->Value,(∀ x∈o.op.operands,ρ' x=ρ x)->∀ w,(execOp ρ' o).run P w=.ok (.value v) w
theorem pure_of{P:Program}{o:Oper}{ρ:Operand->Value}{w:World}{R:Value->World->Prop}(hp:BA0 o=true)(h:(∃ v w',(execOp ρ o).run P w=.ok (.value v) w'/\R v w')\/(∃ w',(execOp ρ o).run P w=.ok .skip w'/\R undef w')\/(∃ f args w',(execOp ρ o).run P w=.ok (.enter f args) w'/\Calls P f args w' λe w''=>∃ v,e=.returned v/\R v w'')) :
  ∃ v,Ap5 P o ρ v/\R v w:=by
 obtain⟨d,op,ty,pos,af,g⟩:=o;unfold BA0 at hp
 cases op with
 | move x =>
  have e:∀ ρ' (w:World),(execOp ρ' ⟨d,.move x,ty,pos,af,g⟩).run P w=.ok (.value (ρ' x)) w:=λ_ _=>rfl;refine⟨ρ x,λρ' h' w=>by rw[e,h' x (by simp[Op.operands])],?_⟩;rcases h with ⟨v,w',h1,h2⟩ | ⟨w',h1,_⟩ | ⟨f,args,w',h1,_⟩
  ·rw[e] at h1;cases h1;exact h2
  ·rw[e] at h1;cases h1
  ·rw[e] at h1;cases h1
 | extract x i =>
  have e:∀ ρ' (w:World),(execOp ρ' ⟨d,.extract x i,ty,pos,af,g⟩).run P w=((Instr.extract (ρ' x) i).run P w).andThen λv w=>.ok (.value v) w:=by intro ρ' w;simp only[execOp,Sem.run_bind,Sem.run_pure]
  cases hx:ρ x with
  | tuple vs =>
   cases hv:vs[i]? with
   | some v =>
    have e2:∀ ρ' (w:World),ρ' x=.tuple vs->(execOp ρ' ⟨d,.extract x i,ty,pos,af,g⟩).run P w=.ok (.value v) w:=by intro ρ' w hh;simp[execOp,hh,Instr.extract,hv]
    refine⟨v,λρ' h' w=>e2 ρ' w (by rw[h' x (by simp[Op.operands]),hx]),?_⟩;rcases h with ⟨v',w',h1,h2⟩ | ⟨w',h1,_⟩ | ⟨f,args,w',h1,_⟩
    ·rw[e2 ρ w hx] at h1;cases h1;exact h2
    ·rw[e2 ρ w hx] at h1;cases h1
    ·rw[e2 ρ w hx] at h1;cases h1
   | none =>
    exfalso;rcases h with ⟨v',w',h1,h2⟩ | ⟨w',h1,_⟩ | ⟨f,args,w',h1,_⟩<;>simp[execOp,hx,Instr.extract,hv] at h1
  | _ =>
   exfalso;rcases h with ⟨v',w',h1,h2⟩ | ⟨w',h1,_⟩ | ⟨f,args,w',h1,_⟩<;>simp[execOp,hx,Instr.extract] at h1
 | _=>cases hp
section
variable {P:Program} {ro:Option Nat} {N:Nat} {ds:List Deferred} {ops:List Oper} {K:Env->World->Prop} {σ0:Env} {w0:World} {h:Nat} {sp:List Sp} {deps:List (List (Tmp×Nat))} {a0:Act}
theorem InvA.next {listed:Array Bool} {a:Act} {w w':World} {i:Nat} {o:Oper} {s:Sp} {t0:Tmp} {v:Value} (hI:InvA N ds ops w0 h sp a0 listed a w) (hsz:listed.size=ops.length) (hnd:(P7 ops).Nodup) (hih:i<h) (hin:i<ops.length) (ho:ops[i]?=some o)
  (hs:sp[i]?=some s) (ht0:o.dst=some t0) (htN:t0<N) (hed':∀ j,I3 o j=true->isL listed j) (he:Ext w w') (hv:Sp.ok s v w'):InvA N ds ops w0 h sp a0 (listed.setIfInBounds i true) (a.put o.dst v) w':=by
 refine⟨by simpa[ht0,Act.put] using hI.size,by simpa[ht0,Act.put] using hI.defs,hI.ext.trans he,?_,?_,?_,?_⟩
 ·intro j oj sj t hj hoj hsj hlj hdj;rw[M1 (by omega)] at hlj;by_cases e:i=j
  ·subst e;rw[ho] at hoj;cases hoj;rw[hs] at hsj;cases hsj;rw[ht0] at hdj;cases hdj;have:(a.put o.dst v).tmps.getD t0 undef=v:=by simp[ht0,Act.put,hI.size,htN]
   rw[this];exact hv
  ·have hlj':=hlj.resolve_left e;have hne:t0≠t:=by intro e2;subst e2;exact e (AE8 hnd ho hoj ht0 hdj)
   have:(a.put o.dst v).tmps.getD t undef=a.tmps.getD t undef:=by simp[ht0,Act.put,bM hne]
   rw[this];exact Sp.ok_ext (hI.vals j oj sj t hj hoj hsj hlj' hdj) he
 ·intro t hno;have hne:t0≠t:=λe=>hno i o hih ho ((M1 (by omega)).2 (.inl O)) (e▸ht0);have:(a.put o.dst v).tmps.getD t undef=a.tmps.getD t undef:=by simp[ht0,Act.put,bM hne]
  rw[this];exact hI.old t λj oj hj hoj hlj=>hno j oj hj hoj ((M1 (by omega)).2 (.inr hlj))
 ·intro j oj hoj hlj k hk;rw[M1 (by omega)] at hlj ⊢;by_cases e:i=j
  ·subst e;rw[ho] at hoj;cases hoj;exact .inr (hed' k hk)
  ·exact .inr (hI.shut j oj hoj (hlj.resolve_left e) k hk)
 ·intro j hj;rw[M1 (by omega)];rintro (e | e)
  ·omega
  ·exact hI.head j hj e
theorem InvA.opnd {listed:Array Bool} {a:Act} {w:World} {i:Nat} {o:Oper} (hI:InvA N ds ops w0 h sp a0 listed a w) (ha0:Agr N σ0 ds a0) (hle:h<=ops.length) (hob:Obs P w0 σ0 (ops.take h) sp (ops.take h) sp deps) (hih:i<h) (ho:ops[i]?=some o)
  (hok:Au4 (ops.take h) N i o (deps.getD i [])=true) (hunl:¬ isL listed i) (hed':∀ j,I3 o j=true->isL listed j) (hg:o.guard=none) :
  ∃ s t0 σ',sp[i]?=some s/\o.dst=some t0/\t0<N/\(Gv P o σ' w λv w'=>Ext w w'/\Sp.ok s v w')/\∀ x v,x∈o.op.operands->ev σ' x=some v->a.eval x=v:=by
 have htake:∀ i,i<h->(ops.take h)[i]?=ops[i]?:=λi hi=>by rw[cP,if_pos hi]
 have hlen:=Obs.len hob;have hlt:(ops.take h).length=h:=by simp;omega
 simp only[Au4,aO,aR] at hok;obtain⟨⟨⟨⟨⟨hdk,hds⟩,hgd⟩,hndf⟩,hdep⟩,hrd⟩:=hok;obtain⟨s,d,hs,hd,hq⟩:=Obs.at_ hob i o (by rw[htake i hih];exact ho);have hdd:deps.getD i []=d:=by simp[hd]
 rw[hdd] at hdep hrd hgd;obtain⟨t0,ht0⟩:=Option.isSome_iff_exists.1 hds;obtain⟨σ',hG,hσ'⟩:=BC7 (val:=λt=>a.tmps.getD t undef) d σ0 (hq w hI.ext) (λp hp=>by
  have h1:=hdep p hp;obtain⟨h2,h3⟩:=h1;split at h3
  ·rename_i oj hoj;have hlj:=hed' _ h2;have hjh:p.2<h:=gX λhh=>hI.head _ hh hlj;obtain⟨s',hs'⟩:∃ s',sp[p.2]?=some s':=⟨_,aE (by omega)⟩;exact⟨s',hs',hI.vals p.2 oj s' p.1 hjh (by rw[<-htake _ hjh];exact hoj) hs' hlj (by simpa using h3)⟩
  ·cases h3)
 refine⟨s,t0,σ',hs,ht0,by simpa[ht0,dOk,aZ] using hdk,by simpa only[gOk,hg] using hG,?_⟩;intro x v hx hv
 cases x with
 | const u=>simpa[YtpgkacdihhjknaaGreat.ev,Act.eval] using hv
 | global g=>simpa[YtpgkacdihhjknaaGreat.ev,Act.eval] using hv
 | func f=>simpa[YtpgkacdihhjknaaGreat.ev,Act.eval] using hv
 | tmp t =>
  rcases hσ' t v hv with e | ⟨hv0,hnd'⟩
  ·exact e.symm
  ·have hmem:t∈S4 o:=by unfold S4;rw[dH];exact⟨.tmp t,by simpa using hx,rfl⟩
   have hc:=hrd t hmem;simp only[aX] at hc;rcases hc with hc | hc
   ·obtain⟨p,hp,hpt⟩:=List.any_eq_true.1 hc;exact absurd (by simpa using hpt) (hnd' p hp)
   ·show a.tmps.getD t undef=v;rw[hI.old t (λi' o' hi' ho' hl' hdst=>?_),ha0.slot t v hv0];have:=List.all_eq_true.1 hc (o',i') (by rw[bU,htake i' hi'];exact ho');simp only[aX] at this;rcases this with (h1 | h1) | h1
    ·simp[hdst] at h1
    ·have:i'=i:=by simpa using h1
     subst this;exact hunl hl'
    ·exact hunl (hI.shut i' o' ho' hl' i h1)
theorem Ak7 {o:Oper} {t:Tmp} (h:Operand.tmp t∈o.op.operands):t∈S4 o:=by unfold S4;rw[dH];exact⟨.tmp t,by simpa using h,rfl⟩
theorem BB8 {a:Act} {d:Option Tmp} {v:Value} {x:Operand} (h:∀ t,x=.tmp t->d≠some t):(a.put d v).eval x=a.eval x:=by
 cases x with
 | tmp t =>
  have hne:=h t rfl
  cases d with
  | none=>rfl
  | some u =>
   have:u≠t:=λe=>hne (by rw[e]);show (a.put (some u) v).tmps.getD t undef=a.tmps.getD t undef;simp[Act.put,bM this]
 | _=>cases d<;>rfl
theorem Ap5.congr {P:Program} {o:Oper} {ρ ρ':Operand->Value} {v:Value} (h:Ap5 P o ρ v) (e:∀ x∈o.op.operands,ρ' x=ρ x):Ap5 P o ρ' v:=λρ'' h' w=>h ρ'' (λx hx=>by rw[h' x hx,e x hx]) w
structure InvB (P:Program) (ro:Option Nat) (N:Nat) (ops:List Oper) (h:Nat) (lt:List Nat) (Q:Exit->Act->World->Prop) (listed:Array Bool) (a a':Act) (p:Nat) (w:World):Prop where
 hp:h<=p
 pl:p<=ops.length
 low:∀ j,j<p->S6 lt j=false->isL listed j
 high:∀ j,p<=j->¬ isL listed j
 wp:wpListIn (wf ro) 0 P ops.toArray Q (ops.drop p) a' w
 sz:a.tmps.size=N
 sz':a'.tmps.size=N
 df:a.defers=a'.defers
 same:∀ t,(∀ (l:Nat) (ol:Oper),S6 lt l=true->ops[l]?=some ol->¬ isL listed l->ol.dst≠some t)->a.tmps.getD t undef=a'.tmps.getD t undef
 late:∀ (l:Nat) (ol:Oper) (t:Tmp),S6 lt l=true->ops[l]?=some ol->¬ isL listed l->ol.dst=some t->Ap5 P ol a'.eval (a'.tmps.getD t undef)
 shut:∀ (i:Nat) (o:Oper),ops[i]?=some o->isL listed i->∀ j,I3 o j=true->isL listed j
theorem Bu6 {Q:Exit->Act->World->Prop} {lt:List Nat} (hchk:Bc7 ops N h deps lt=true) (ha0:Agr N σ0 ds a0) (hob:Obs P w0 σ0 (ops.take h) sp (ops.take h) sp deps)
  (hfin:∀ w,Ext w0 w->Ac2 (λσ w=>∀ a,Agr N σ ds a->wpListIn (wf ro) 0 P ops.toArray Q (ops.drop h) a w) w (ops.take h) sp σ0)
  (hQ:∀ e a w,Q e a w->e=.normal) (hQc:∀ a a' w,Q .normal a' w->a.tmps.size=a'.tmps.size->a.defers=a'.defers->(∀ t,a.tmps.getD t undef=a'.tmps.getD t undef)->Q .normal a w) :
  ∀ (fuel:Nat) (listed:Array Bool) (a:Act) (w:World),listed.size=ops.length->cnt listed ops.length<=fuel ->
   (InvA N ds ops w0 h sp a0 listed a w\/∃ a' p,InvB P ro N ops h lt Q listed a a' p w) ->
   wpAnyIn (wf ro) 0 P .any ops.toArray Q fuel listed a w:=by
 simp only[Bc7,aO,aR,Nat.ble_eq] at hchk;obtain⟨⟨⟨⟨⟨hback,hnd0⟩,hplain⟩,hall⟩,hle⟩,hlate⟩:=hchk;have hnd:=U4 hnd0;have hgn:∀ (i:Nat) (o:Oper),ops[i]?=some o->o.guard=none/\dOk N o.dst=true:=by
  intro i o ho;obtain⟨h1,h2⟩:=hplain o (List.mem_iff_getElem?.2 ⟨i,ho⟩);refine⟨?_,h2⟩;unfold nog at h1
  cases hg:o.guard with
  | none=>rfl
  | some g=>rw[hg] at h1;cases h1
 have hback':∀ (i:Nat) (o:Oper),ops[i]?=some o->∀ j,I3 o j=true->j<i:=by
  intro i o hi j hj;have:=hback (o,i) (by rw[bU];exact hi);obtain⟨e,he,hb,rfl⟩:=O0.1 hj;simp only[Ag0,fZ,aX,dI,aZ] at this;rcases this e he with h | h
  ·rw[hb] at h;cases h
  ·exact h
 have hop:∀ (i:Nat) (o:Oper),i<h->ops[i]?=some o->Au4 (ops.take h) N i o (deps.getD i [])=true:=by intro i o hi ho;have:=hall (o,i) (by rw[bU];exact ho);simpa[aZ,hi] using this
 have hlt':∀ l,S6 lt l=true->l<h:=by intro l hl;have:=hlate l (Ag3.1 hl);simp only[Bc8,aO,aZ] at this;exact this.1
 have hlop:∀ (l:Nat) (ol:Oper),S6 lt l=true->ops[l]?=some ol->BA0 ol=true/\∀ t∈S4 ol,(∃ p∈deps.getD l [],p.1=t/\p.2<l)\/∀ q∈ops,q.dst≠some t:=by
  intro l ol hl hol;have:=hlate l (Ag3.1 hl);simp only[Bc8,aO,hol,aR,aX] at this;refine⟨this.2.1,λt ht=>?_⟩;rcases this.2.2 t ht with h1 | h1
  ·obtain⟨p,hp,hpt⟩:=List.any_eq_true.1 h1;simp only[aO,Nat.beq_eq,aZ] at hpt;exact .inl ⟨p,hp,hpt.1,hpt.2⟩
  ·exact .inr λq hq=>by simpa using h1 q hq
 have hdepd:∀ (i:Nat) (o:Oper) (p:Tmp×Nat),i<h->ops[i]?=some o->p∈deps.getD i []->I3 o p.2=true/\∃ oj,ops[p.2]?=some oj/\oj.dst=some p.1:=by
  intro i o p hi ho hp;have hok:=hop i o hi ho;simp only[Au4,aO,aR] at hok;obtain⟨h2,h3⟩:=hok.1.2 p hp;refine⟨h2,?_⟩;split at h3
  ·rename_i oj hoj;have hj:p.2<h:=eX (hback' i o ho _ h2) hi;exact⟨oj,by rw[cP,if_pos hj] at hoj;exact hoj,by simpa using h3⟩
  ·cases h3
 have hclose:∀ (listed:Array Bool),(∀ (i:Nat) (o:Oper),ops[i]?=some o->isL listed i->∀ j,I3 o j=true->isL listed j)->∀ (i:Nat) (o:Oper),ops[i]?=some o->(∀ j,I3 o j=true->isL listed j)->∀ j,(AY5 ops i (AE7 o)).any (Nat.beq j)=true->isL listed j:=by
  intro listed shut i o ho hed j hj;obtain⟨x,hx,hxe⟩:=List.any_eq_true.1 hj;have hxj:j=x:=bH hxe;subst hxj;refine AE9 shut _ _ (λk hk=>?_) j hx;simp only[AE7,dH] at hk;obtain⟨e,he,hb⟩:=hk;have hbb:Region.binds .any e=true:=by
   cases h':Region.binds .any e with
   | true=>rfl
   | false=>rw[h'] at hb;simp at hb
  rw[hbb] at hb;simp at hb;exact hed k (O0.2 ⟨e,by simpa using he,hbb,hb⟩)
 have htl:∀ (i:Nat) (o:Oper),h<=i->ops[i]?=some o->Aw0 ops lt i o=true:=by
  intro i o hi ho;have:=hall (o,i) (by rw[bU];exact ho);have hn:Nat.blt i h=false:=by
   cases hh:Nat.blt i h with
   | false=>rfl
   | true=>rw[aZ] at hh;omega
  simpa[hn] using this
 have htail:∀ (listed:Array Bool),(∀ (i:Nat) (o:Oper),ops[i]?=some o->isL listed i->∀ j,I3 o j=true->isL listed j)->∀ (i:Nat) (o:Oper),h<=i->ops[i]?=some o->(∀ j,I3 o j=true->isL listed j)->∀ j,j<i->S6 lt j=false->isL listed j:=by
  intro listed shut i o hi ho hed j hj hnl;have:=htl i o hi ho;simp only[Aw0,aO,aR,cM,aX] at this;rcases this.1.1 j hj with h1 | h1
  ·rw[hnl] at h1;cases h1
  ·exact hclose listed shut i o ho hed j h1
 have htake:∀ i,i<h->(ops.take h)[i]?=ops[i]?:=λi hi=>by rw[cP,if_pos hi]
 have hlen:=Obs.len hob;have hltn:(ops.take h).length=h:=by simp;omega
 have hndh:(P7 (ops.take h)).Nodup:=by
  have:(P7 ops)=P7 (ops.take h)++P7 (ops.drop h):=by unfold P7;rw[<-List.filterMap_append,eC]
  rw[this] at hnd;exact (List.nodup_append.1 hnd).1
 have toB:∀ listed a w,InvA N ds ops w0 h sp a0 listed a w->(∀ i,i<h->isL listed i)->wpListIn (wf ro) 0 P ops.toArray Q (ops.drop h) a w:=by
  intro listed a w hI hl;have hmem:∀ o∈ops.take h,∃ i,i<h/\ops[i]?=some o:=by
   intro o ho;obtain⟨i,hi⟩:=List.mem_iff_getElem?.1 ho;have hi':i<h:=by
    rcases aB i h with hh | hh
    ·exact hh
    ·rw[aH (by omega)] at hi;cases hi
   exact⟨i,hi',by rw[<-htake i hi'];exact hi⟩
  have hsome:∀ o∈ops.take h,dOk N o.dst=true/\o.dst.isSome=true:=by intro o ho;obtain⟨i,hi,ho⟩:=hmem o ho;have:=hop i o hi ho;simp only[Au4,aO] at this;exact⟨this.1.1.1.1.1,this.1.1.1.1.2⟩
  obtain⟨σ',hag,hk⟩:=BX2 (N:=N) (ds:=ds) (ops.take h) sp σ0 a hlen (hfin w hI.ext) (λo ho=>(hsome o ho).1)
   (λi o s t h1 h2 h3=>by
    have hi':i<h:=by
     rcases aB i h with hh | hh
     ·exact hh
     ·rw[aH (by omega)] at h1;cases h1
    exact hI.vals i o s t hi' (by rw[<-htake i hi'];exact h1) h2 (hl i hi') h3)
   (λt v hv hno=>by rw[hI.old t (λi o hi ho _=>hno o (List.mem_iff_getElem?.2 ⟨i,by rw[htake i hi];exact ho⟩))];exact ha0.slot t v hv)
   hndh hI.size hI.defs
   (λi o s h1 h2 h3=>by have:=(hsome o (List.mem_iff_getElem?.2 ⟨i,h1⟩)).2;rw[h3] at this;cases this)
  exact hk a hag
 have ghost:∀ listed a w,listed.size=ops.length->InvA N ds ops w0 h sp a0 listed a w->(∀ j,j<h->S6 lt j=false->isL listed j)->∃ a' p,InvB P ro N ops h lt Q listed a a' p w/\p=h:=by
  intro listed a w hsz hI hl;have key:∀ k,k<=h->∃ (listed':Array Bool) (a':Act),listed'.size=ops.length/\InvA N ds ops w0 h sp a0 listed' a' w/\(∀ j,j<k->isL listed' j)/\(∀ j,isL listed j->isL listed' j)/\(∀ j,isL listed' j->isL listed j\/j<k) /\
    (∀ t,(∀ (l:Nat) (ol:Oper),S6 lt l=true->ops[l]?=some ol->¬ isL listed l->ol.dst≠some t)->a.tmps.getD t undef=a'.tmps.getD t undef) /\
    (∀ (l:Nat) (ol:Oper) (t:Tmp),l<k->S6 lt l=true->ops[l]?=some ol->¬ isL listed l->ol.dst=some t->Ap5 P ol a'.eval (a'.tmps.getD t undef)):=by
   intro k;induction k with
   | zero=>intro _;exact⟨listed,a,hsz,hI,λj hj=>by omega,λ_ h=>h,λ_ h=>.inl h,λ_ _=>rfl,λl _ _ hl=>by omega⟩
   | succ k ihk =>
    intro hk;obtain⟨L,a',hszL,hIL,hlow,hsub,hsup,hsame,hpure⟩:=ihk (by omega);by_cases hkl:isL L k
    ·by_cases hkl':isL listed k
     ·refine⟨L,a',hszL,hIL,λj hj=>?_,hsub,λj hj=>(hsup j hj).imp id (by omega),hsame,λl ol t hlk h1 h2 h3 h4=>?_⟩
      ·by_cases e:j=k
       ·rw[e];exact hkl
       ·exact hlow j (by omega)
      ·by_cases e:l=k
       ·rw[e] at h3;exact absurd hkl' h3
       ·exact hpure l ol t (by omega) h1 h2 h3 h4
     ·rcases hsup k hkl with h1 | h1
      ·exact absurd h1 hkl'
      ·omega
    ·have hkn:¬ isL listed k:=λh1=>hkl (hsub k h1);have hkt:S6 lt k=true:=by
      cases hh:S6 lt k with
      | true=>rfl
      | false=>exact absurd (hl k (by omega) hh) hkn
     have hkin:k<ops.length:=by omega
     obtain⟨o,ho⟩:∃ o,ops[k]?=some o:=⟨_,aE hkin⟩;have hed:∀ j,I3 o j=true->isL L j:=λj hj=>hlow j (hback' k o ho j hj);obtain⟨s,t0,σ',hs,ht0,htN,hG,hopnd⟩:=hIL.opnd ha0 hle hob (by omega:k<h) ho (hop k o (by omega) ho) hkl hed (hgn k o ho).1;obtain⟨hpu,htm⟩:=hlop k o hkt ho;obtain⟨v,hv1,hv2⟩:=pure_of hpu (hG.2 a'.eval hopnd);have hfree:∀ (l:Nat) (ol:Oper),l<=k->S6 lt l=true->ops[l]?=some ol->∀ x∈ol.op.operands,∀ t,x=.tmp t->o.dst≠some t:=by
      intro l ol hlk hll hol x hx t ht;subst ht;obtain⟨_,htm'⟩:=hlop l ol hll hol;rcases htm' t (Ak7 hx) with ⟨p,hp,hpt,hpl⟩ | h1
      ·intro e;obtain⟨_,oj,hoj,hdj⟩:=hdepd l ol p (by omega) hol hp;rw[hpt] at hdj;have:=AE8 hnd ho hoj e hdj;omega
      ·exact h1 o (List.mem_iff_getElem?.2 ⟨k,ho⟩)
     refine⟨L.setIfInBounds k true,a'.put o.dst v,by simpa using hszL,hIL.next hszL hnd (by omega) hkin ho hs ht0 htN hed hv2.1 hv2.2,λj hj=>?_,λj hj=>?_,λj hj=>?_,λt hno=>?_,λl ol t hlk h1 h2 h3 h4=>?_⟩
     ·rw[M1 (by omega)];by_cases e:k=j
      ·exact .inl e
      ·exact .inr (hlow j (by omega))
     ·rw[M1 (by omega)];exact .inr (hsub j hj)
     ·rw[M1 (by omega)] at hj;rcases hj with e | e
      ·exact .inr (by omega)
      ·exact (hsup j e).imp id (by omega)
     ·have hne:t0≠t:=λe=>hno k o hkt ho hkn (by rw[ht0,e]);have:(a'.put o.dst v).tmps.getD t undef=a'.tmps.getD t undef:=by simp[ht0,Act.put,bM hne]
      rw[this];exact hsame t hno
     ·by_cases e:l=k
      ·subst e;rw[ho] at h2;cases h2;rw[ht0] at h4;cases h4;have hval:(a'.put o.dst v).tmps.getD t0 undef=v:=by simp[ht0,Act.put,hIL.size,htN]
       rw[hval];exact hv1.congr λx hx=>BB8 (hfree l o (aA _) hkt ho x hx)
      ·have hne:t0≠t:=λe2=>e (AE8 hnd h2 ho h4 (by rw[ht0,e2]));have:(a'.put o.dst v).tmps.getD t undef=a'.tmps.getD t undef:=by simp[ht0,Act.put,bM hne]
       rw[this];exact (hpure l ol t (by omega) h1 h2 h3 h4).congr λx hx=>BB8 (hfree l ol (by omega) h1 h2 x hx)
  obtain⟨L,a',hszL,hIL,hlow,hsub,hsup,hsame,hpure⟩:=key h (aA _);exact⟨a',h,⟨aA _,hle,hl,hI.head,toB L a' w hIL hlow,hI.size,hIL.size,hI.defs.trans hIL.defs.symm,hsame,λl ol t h1=>hpure l ol t (hlt' l h1) h1,hI.shut⟩,rfl⟩
 have allL:∀ listed:Array Bool,listed.size=ops.length->Region.ready .any ops.toArray listed=[]->∀ i,i<ops.length->isL listed i:=by
  intro listed hsz hr i;induction i using Nat.strongRecOn with
  | _ i ih =>
   intro hi;by_cases hh:isL listed i
   ·exact hh
   ·have:i∈Region.ready .any ops.toArray listed:=by refine V7.2 ⟨by simpa using hi,(K0 (by omega)).2 hh,λo ho j hj=>?_⟩;have:=hback' i o (by simpa using ho) j hj;exact ih j this (by omega)
    rw[hr] at this;cases this
 have done:∀ listed a w,listed.size=ops.length->(∀ i,i<ops.length->isL listed i)->(InvA N ds ops w0 h sp a0 listed a w\/∃ a' p,InvB P ro N ops h lt Q listed a a' p w)->Q .normal a w:=by
  intro listed a w hsz hl hJ;have hB:∃ a' p,InvB P ro N ops h lt Q listed a a' p w:=by
   rcases hJ with hI | hB
   ·obtain⟨a',p,hB,_⟩:=ghost listed a w hsz hI (λj hj _=>hl j (by omega));exact⟨a',p,hB⟩
   ·exact hB
  obtain⟨a',p,hB⟩:=hB;have hn:ops.length<=p:=dS λhh=>hB.high p (aA _) (hl p hh);have hwp:=hB.wp;rw[dU hn] at hwp;exact hQc a a' w hwp (hB.sz.trans hB.sz'.symm) hB.df λt=>hB.same t λl ol _ hol hnl=>absurd (hl l (by
   rcases aB l ops.length with h' | h'
   ·exact h'
   ·rw[aH h'] at hol;cases hol)) hnl
 intro fuel;induction fuel with
 | zero =>
  intro listed a w hsz hc hJ;have hl:∀ i,i<ops.length->isL listed i:=by
   intro i hi;have:=Al6 listed ops.length (by omega) i hi;by_cases hh:isL listed i
   ·exact hh
   ·have:=(K0 (by omega:i<listed.size)).2 hh;simp_all
  refine⟨?_,done listed a w hsz hl hJ⟩;refine List.eq_nil_iff_forall_not_mem.2 λi hi=>?_;obtain⟨h1,h2,_⟩:=V7.1 hi;have h1':i<ops.length:=by simpa using h1
  exact (K0 (by omega)).1 h2 (hl i h1')
 | succ fuel ih =>
  intro listed a w hsz hc hJ;refine⟨λhr=>done listed a w hsz (allL listed hsz hr) hJ,λi hi=>?_⟩;obtain⟨hin,hun,hed⟩:=V7.1 hi;have hin':i<ops.length:=by simpa using hin
  have hunl:¬ isL listed i:=(K0 (by omega)).1 hun;obtain⟨o,ho⟩:∃ o,ops[i]?=some o:=⟨_,aE hin'⟩;have hed':∀ j,I3 o j=true->isL listed j:=hed o (by simpa using ho);have hsz':(listed.setIfInBounds i true).size=ops.length:=by simpa using hsz
  have hcnt:cnt (listed.setIfInBounds i true) ops.length<=fuel:=by have:=AT4 listed i hun ops.length hin';omega
  have hset:∀ j,isL (listed.setIfInBounds i true) j<->(i=j\/isL listed j):=λj=>M1 (by omega);obtain⟨hgo,hdo⟩:=hgn i o ho;have hw:Region.wanted o (yielded ops.toArray a.tmps)=true:=by simp[Region.wanted,hgo]
  unfold wpOpIn;simp only[bN,ho];rw[if_pos hw];have part2:∀ a' p,InvB P ro N ops h lt Q listed a a' p w->o.wpIn (wf ro) 0 P a w (wpAnyIn (wf ro) 0 P .any ops.toArray Q fuel (listed.setIfInBounds i true)) Q:=by
   intro a' p hB;have hshut':∀ (j:Nat) (oj:Oper),ops[j]?=some oj->isL (listed.setIfInBounds i true) j->∀ k,I3 oj k=true->isL (listed.setIfInBounds i true) k:=by
    intro j oj hoj hlj k hk;rw[hset] at hlj ⊢;by_cases e:i=j
    ·subst e;rw[ho] at hoj;cases hoj;exact .inr (hed' k hk)
    ·exact .inr (hB.shut j oj hoj (hlj.resolve_left e) k hk)
   cases hlat:S6 lt i with
   | true =>
    have hih:=hlt' i hlat;obtain⟨hpu,htm⟩:=hlop i o hlat ho;have hok:=hop i o hih ho;simp only[Au4,aO] at hok;obtain⟨t0,ht0⟩:=Option.isSome_iff_exists.1 hok.1.1.1.1.2;have htN:t0<N:=by have:=hok.1.1.1.1.1;simpa[ht0,dOk,aZ] using this
    have hp:=hB.late i o t0 hlat ho hunl ht0;have hopn:∀ x∈o.op.operands,a.eval x=a'.eval x:=by
     intro x hx
     cases x with
     | tmp t =>
      refine hB.same t λl ol hll hol hnl hdl=>?_;rcases htm t (Ak7 hx) with ⟨p',hp',hpt,hpl⟩ | h1
      ·obtain⟨h2,oj,hoj,hdj⟩:=hdepd i o p' hih ho hp';rw[hpt] at hdj;have:=AE8 hnd hol hoj hdl hdj;rw[this] at hnl;exact hnl (hed' _ h2)
      ·exact h1 ol (List.mem_iff_getElem?.2 ⟨l,hol⟩) hdl
     | _=>rfl
    have hrun:=hp a.eval hopn w;have hnd':∀ c,o.op≠.defer c:=λc e=>by unfold BA0 at hpu;rw[e] at hpu;cases hpu
    refine⟨λ_ _=>trivial,?_⟩;show o.uponIn (wf ro) 0 P a _ Q ((o.semAt ro a.eval).run P w);rw[Aj5 hnd',hrun];refine ih _ _ _ hsz' hcnt (.inr ⟨a',p,hB.hp,hB.pl,λj hj hnl=>(hset j).2 (.inr (hB.low j hj hnl)),λj hj=>?_,hB.wp,by simpa[ht0,Act.put] using hB.sz,hB.sz',by simpa[ht0,Act.put] using hB.df,λt hno=>?_,λl ol t h1 h2 h3 h4=>?_,hshut'⟩)
    ·rw[hset];rintro (e | e)
     ·have:=hB.hp;omega
     ·exact hB.high j hj e
    ·by_cases e:t0=t
     ·subst e;simp[ht0,Act.put,hB.sz,htN]
     ·have:(a.put o.dst (a'.tmps.getD t0 undef)).tmps.getD t undef=a.tmps.getD t undef:=by simp[ht0,Act.put,bM e]
      rw[this];refine hB.same t λl ol h1 h2 h3 h4=>?_;by_cases el:l=i
      ·subst el;rw[ho] at h2;cases h2;rw[ht0] at h4;cases h4;exact e rfl
      ·exact hno l ol h1 h2 (λhh=>by rw[hset] at hh;rcases hh with hh | hh;exact el hh.symm;exact h3 hh) h4
    ·exact hB.late l ol t h1 h2 (λhh=>h3 ((hset l).2 (.inr hh))) h4
   | false =>
    have hip:p<=i:=dS λhh=>hunl (hB.low i hh hlat);have hpi:p=i:=by
     rcases aB p i with hh | hh
     ·have hpl:S6 lt p=false:=by
       cases hx:S6 lt p with
       | false=>rfl
       | true=>have:=hlt' p hx;have:=hB.hp;omega
      exact absurd (htail listed hB.shut i o (by have:=hB.hp;omega) ho hed' p hh hpl) (hB.high p (aA _))
     ·omega
    subst hpi;have hd:ops.drop p=o::ops.drop (p+1):=by rw[bX hin'];congr 1;have:=aE hin';rw[ho] at this;exact (Option.some.inj this).symm
    have hwp:=hB.wp;rw[hd] at hwp;have hw':Region.wanted o (yielded ops.toArray a'.tmps)=true:=by simp[Region.wanted,hgo]
    simp only[wpListIn,hw',if_true] at hwp;have hk:=htl p o hB.hp ho;simp only[Aw0,aO,aR] at hk;obtain⟨⟨_,hkind⟩,hlts⟩:=hk;have hopn:∀ x∈o.op.operands,a.eval x=a'.eval x:=by
     intro x hx
     cases x with
     | tmp t =>
      refine hB.same t λl ol hll hol hnl hdl=>?_;have:=hlts l (Ag3.1 hll);simp only[hol,aX,aR] at this;rcases this with h1 | h1
      ·have:=h1 t (Ak7 hx);rw[hdl] at this;simp at this
      ·exact hnl (hclose listed hB.shut p o ho hed' l h1)
     | _=>rfl
    refine Ac4 (a':=a') (next':=wpListIn (wf ro) 0 P ops.toArray Q (ops.drop (p+1))) (λc e=>by rw[e] at hkind;cases hkind) (λcs b e=>by rw[e] at hkind;cases hkind) hopn hQ (λdd v w' hn=>?_) hwp;have hput:∀ (b:Act) (t:Tmp),o.dst≠some t->(b.put o.dst v).tmps.getD t undef=b.tmps.getD t undef:=by
     intro b t hne
     cases hdst:o.dst with
     | none=>rfl
     | some u =>
      have:u≠t:=λe=>hne (by rw[hdst,e]);simp[Act.put,bM this]
    have hputs:∀ (b:Act) (t:Tmp),b.tmps.size=N->o.dst=some t->(b.put o.dst v).tmps.getD t undef=v:=by
     intro b t hb hdst;have:t<N:=by rw[hdst] at hdo;simpa[dOk,aZ] using hdo
     simp[hdst,Act.put,hb,this]
    have hsz2:∀ b:Act,(b.put o.dst v).tmps.size=b.tmps.size:=λb=>by cases o.dst<;>simp[Act.put]
    have hdf2:∀ b:Act,(b.put o.dst v).defers=b.defers:=λb=>by cases o.dst<;>simp[Act.put]
    refine ih _ _ _ hsz' hcnt (.inr ⟨_,p+1,by have:=hB.hp;omega,by omega,λj hj hnl=>?_,λj hj=>?_,hn,?_,?_,?_,λt hno=>?_,λl ol t h1 h2 h3 h4=>?_,hshut'⟩)
    ·rw[hset];by_cases e:p=j
     ·exact .inl e
     ·exact .inr (hB.low j (by omega) hnl)
    ·rw[hset];rintro (e | e)
     ·omega
     ·exact hB.high j (by omega) e
    ·rw[hsz2];exact hB.sz
    ·rw[hsz2];exact hB.sz'
    ·rw[hdf2,hdf2];show dd++a.defers=dd++a'.defers;rw[hB.df]
    ·by_cases e:o.dst=some t
     ·exact (hputs { a with defers:=dd++a.defers } t hB.sz e).trans (hputs { a' with defers:=dd++a'.defers } t hB.sz' e).symm
     ·refine (hput { a with defers:=dd++a.defers } t e).trans (Eq.trans ?_ (hput { a' with defers:=dd++a'.defers } t e).symm);show a.tmps.getD t undef=a'.tmps.getD t undef;refine hB.same t λl ol h1 h2 h3 h4=>?_;refine hno l ol h1 h2 (λhh=>?_) h4;rw[hset] at hh;rcases hh with hh | hh
      ·rw[<-hh,hlat] at h1;cases h1
      ·exact h3 hh
    ·have hne:o.dst≠some t:=λe=>by have:=AE8 hnd h2 ho h4 e;rw[this,hlat] at h1;cases h1
     have hpp:(({ a' with defers:=dd++a'.defers }:Act).put o.dst v).tmps.getD t undef=a'.tmps.getD t undef:=hput { a' with defers:=dd++a'.defers } t hne;rw[hpp];have h3':¬ isL listed l:=λhh=>h3 ((hset l).2 (.inr hh));refine (hB.late l ol t h1 h2 h3' h4).congr λx hx=>?_;rw[BB8 (a:=({ a' with defers:=dd++a'.defers }:Act)) λu hu hdst=>?_]
     ·cases x<;>rfl
     ·subst hu;obtain⟨_,htm⟩:=hlop l ol h1 h2;rcases htm u (Ak7 hx) with ⟨p',hp',hpt,hpl⟩ | h5
      ·obtain⟨_,oj,hoj,hdj⟩:=hdepd l ol p' (hlt' l h1) h2 hp';rw[hpt] at hdj;have:=AE8 hnd ho hoj hdst hdj;have:=hlt' l h1;have:=hB.hp;omega
      ·exact h5 o (List.mem_iff_getElem?.2 ⟨p,ho⟩) hdst
  rcases hJ with hI | ⟨a',p,hB⟩
  ·rcases aB i h with hih | hih
   ·obtain⟨s,t0,σ',hs,ht0,htN,hG,hopnd⟩:=hI.opnd ha0 hle hob hih ho (hop i o hih ho) hunl hed' hgo;exact hG.wp hopnd λv w' hv=>ih _ _ _ hsz' hcnt (.inl (hI.next hsz hnd hih hin' ho hs ht0 htN hed' hv.1 hv.2))
   ·obtain⟨a',p,hB,_⟩:=ghost listed a w hsz hI (λj hj hnl=>htail listed hI.shut i o hih ho hed' j (by omega) hnl);exact part2 a' p hB
  ·exact part2 a' p hB
theorem WC.parL {Q:Pst} {id:Nat} (hm:P.follows .mixedOrders=true) (h:Nat) (lt:List Nat) (sp:List Sp) (deps:List (List (Tmp×Nat))) (hchk:Bc7 ops N h deps lt=true)
  (hob:Obs P w0 σ0 (ops.take h) sp (ops.take h) sp deps)
  (hfin:∀ w,Ext w0 w->Ac2 (λσ w=>WL P ro N ds ops.toArray (λσ w=>Q .normal σ ds w) (ops.drop h) σ w) w (ops.take h) sp σ0):WC P ro N Q (.region id ops.toArray true) σ0 ds w0:=by
 refine⟨λa ha=>?_⟩;have main:(Code.region id ops.toArray true).wpIn (wf ro) 0 P (λe a w=>e=.normal/\∃ σ',Agr N σ' ds a/\Q .normal σ' ds w) a w0:=by
  refine wpIn_region_draw λt=>?_;simp only[Region.schedule,hm,Bool.true_or,if_true];refine wpAnyIn_sound ops.toArray.size t _ a _ ?_;have hfalse:∀ i,¬ isL (Array.replicate ops.toArray.size false) i:=by intro i;unfold isL;by_cases hi:i<ops.length<;>simp[hi]
  refine Bu6 hchk ha hob (λw he=>?_) (λe a w hq=>hq.1) (λa a' w hq h1 h2 h3=>⟨rfl,?_⟩) _ _ _ _ (by simp) (by simpa using cnt_le _ _) (.inl ⟨ha.size,ha.defs,(Below.refl _ w0).drew,λi o s t _ _ _ hl=>absurd hl (hfalse i),λt _=>rfl,λi o _ hl=>absurd hl (hfalse i),λi _=>hfalse i⟩)
  ·have key:∀ (os:List Oper) (ss:List Sp) (σ:Env),Ac2 (λσ w=>WL P ro N ds ops.toArray (λσ w=>Q .normal σ ds w) (ops.drop h) σ w) w os ss σ ->
     Ac2 (λσ w=>∀ a,Agr N σ ds a->wpListIn (wf ro) 0 P ops.toArray (λe a w=>e=.normal/\∃ σ',Agr N σ' ds a/\Q .normal σ' ds w) (ops.drop h) a w) w os ss σ:=by
    intro os;induction os with
    | nil=>intro ss σ hq;exact WL.out hq
    | cons o os ih =>
     intro ss σ hq
     cases ss with
     | nil=>exact WL.out hq
     | cons s ss =>
      cases s with
      | inl v=>exact ih ss _ hq
      | inr p=>exact λv hv=>ih ss _ (hq v hv)
   exact key _ _ _ (hfin w he)
  ·obtain⟨_,σ',hag,hk⟩:=hq;exact⟨σ',⟨h1.trans hag.size,h2.trans hag.defs,λt v hv=>(h3 t).trans (hag.slot t v hv)⟩,hk⟩
 refine wpIn_mono main ?_;rintro e a' w' ⟨rfl,σ',hag,hk⟩;exact⟨σ',ds,hag,hk⟩
end
end Go.Proofs.YtpgkacdihhjknaaGreat
