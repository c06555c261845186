/-
  What the claim leans on.
-/
import Derived.Test.YtpgkacdihhjknaaGreatG8
import Derived.Lib.SmallJoins
set_option linter.unusedVariables false
namespace Go.Proofs.YtpgkacdihhjknaaGreat
open Go Go.RowKit Go.ChangeShapes Go.WideShapes Tryz
set_option maxRecDepth 8000
variable {S:Nat->Prop}{w w':World}{a b line:Int}{n:NtV}{L k i:Nat}{vn vo vx v u:Value}{o l:List Int}{x:List QV}{t:TypeId}{p:Addr}{α:Type}
theorem Af6:Ent prog 178:=en func178
theorem Ad9{va:Value}{a:List QV}{n:Nat}(up:Up S w)(ha:eV.R S w va a)(hka:vk L a)(hL1:1<=L)(hL:L<=1000000000)(hn:n<=65536):CR prog 178 #[va,iW (n:Nat)] w (λv W=>OwnL eQ 39 w.heap.size S W v (tab n (rv a))):=by
 refine enter func178 O ntmps178 O (.beg (.goC O (.lp (α:=Nat×Value) [0,1] O (λy=>[(5,y.2),(6,iW (y.1:Nat))]) (λy W=>Ext w W/\y.1<=n/\OwnL eQ 39 w.heap.size S W y.2 (tab y.1 (rv a))) (λy=>n-y.1) (0,.slice none 0 0) (lc2 O O) ⟨Ext.refl _,aC _,OwnL.nil⟩ ?_)));rintro⟨i,u⟩ W ⟨hW,hi,hU⟩;replace hW:Ext w W:=hW;replace hi:i<=n:=hi;replace hU:OwnL eQ 39 w.heap.size S W u (tab i (rv a)):=hU;have zW:=hW.size;refine .go O ?_;rcases aB i n with hlt | hge;rotate_left
 ·have:i=n:=by omega
  subst this;exact .lssF O O O (by omega) (.goE O (.p1 _ results178 O ⟨hW,hU⟩))
 obtain⟨es,ho1,_⟩:=id hU;have hub:∀ b,u.ownBlock=some b->w.heap.size<=b/\b<W.heap.size:=λb h=>ho1.lt b h;have haT:eV.R (λk=>S k/\u.ownBlock≠some k) W va a:=ER.ext eV (eV.mono (λk _ h=>⟨h.1,λe=>by have:=(hub k e).1;have:=h.2;omega⟩) (ER.lt eV ha)) hW;have hat:=K4 (i:=((i:Nat):Int)) haT;rw[P0] at hat;have hq:qok L (a.getD i q0):=(hka.get hL1 i).1;refine .lssT O O O (by omega) (.go O (.lssT O O O (by omega) (.go O ?_)));refine .call _ O K8 O hat λv1 W1 e1 h1=>?_;have hW1:=hW.trans e1;have z1:=e1.size;refine .call _ O AF8 O (AE9 (λk hk=>⟨up k (by omega),λh=>by have:=(hub k h).2;omega⟩) h1 hq hL1 hL) λv2 W2 e2 h2=>?_;have hW2:=e1.trans e2;have hq':=h2;obtain⟨s1,t1,rfl,_,_⟩:=hq';refine .bsl _ O O Z3 λW3 b3 n3=>?_;obtain⟨d3,k3,hb3,hs3⟩:=n3;have D3:=hW2.trans d3;have hW3:=hW.trans D3;refine .gv O O (J2 (E:=eQ) (base:=w.heap.size) (n:=qc (qval (a.getD i q0))) (by decide) un_V G2 O O O (hU.ext D3) k3 (ER.ext eQ h2 d3) (by rw[A0];omega) (by decide) hW3.size) ?_;rintro v4 W4 ⟨hO4,g4⟩;have hW4:Ext w W4:=OwnL.below (hU.ext D3) g4 hW3 hW3.size;exact .go O (.inc O O O (by omega) (.goN O (.mk (i+1,v4) O (lc2 O O) ⟨⟨hW4,hlt,by show OwnL _ _ _ _ W4 v4 (tab (i+1) (rv a));unfold tab;rw[aQ,aO];exact hO4⟩,by show n-(i+1)<n-i;omega⟩)))
section
variable {S:Nat->Prop} {base g:Nat} {W W':World} {vs:List Value} {ls:List (List QV)}
theorem RwI.toFB {T:Nat->Prop} (h:RwI S base g W vs ls) (hne:∀ m∈ls,0<m.length) (hT:∀ k,base<=k->T k) (hS:∀ k,S k->T k):FB eV 26 T W g ls:=by
 obtain⟨es,hb,he⟩:=h.out;refine⟨es,hb,by rw[he.1,h.len],λi e m h1 h2=>?_⟩;have hi:i<vs.length:=by rw[<-he.1];exact (List.getElem?_eq_some_iff.1 h1).1
 have h3:=aE hi;generalize vs[i]=u at h3;have hu:u∈vs:=List.mem_iff_getElem?.2 ⟨i,h3⟩;have h4:=(he.2 i e u h1 h3).1;subst h4;have ho:=h.inn i _ m h3 h2;obtain⟨g',cap,rfl,c1,c2,c3,hf⟩:=ho.fp (hne m (List.mem_iff_getElem?.2 ⟨i,h2⟩));exact (hf.mono (S':=λk=>T k/\k≠g) λk _ hk=>⟨hS k hk.1,hk.2.1⟩).toR (hsz:=by decide) ⟨hT g' c3,λe=>h.ne_g hu (by rw[<-e];rfl)⟩ c1 (by omega)
end
theorem uniR_dl(b c:Nat):uniR (b:Nat) c=dl b c:=by
 unfold uniR dl;by_cases h:b=c
 ·subst h;simp
 ·have:¬ ((c:Int)=(b:Int)):=by omega
  simp[h,this]
theorem Ap7:Ent prog 119:=en func119
open Classical in
theorem Al7(up:Up S w)(hn:eN.R S w vn n)(ho:eI.R S w vo o)(hx:eV.R S w vx x)(hkx:vk L x)(hL1:1<=L)(hL:L<=9000) :
  CR prog 119 #[vn,vo,vx] w (Two (eV.at S (if anE n o x=0 then tab (nwOf n o).B ((nwOf n o).an (rv x)) else [])) (Is (iW (anE n o x)))):=by
 obtain⟨s,rfl,hs,hb⟩:=hn;have hn:eN.R S w (.agg #[iW n.b,s]) n:=⟨s,rfl,hs,hb⟩;refine enter func119 O ntmps119 O (.beg (.go O (.box O O λw1 b3 n1=>?_)));obtain⟨e1,k3,hb3,hs1⟩:=n1;refine .go O (.ldA ty_N O O k3 O (.go O ?_));refine .call _ O Ad0 O (Ab2 (up.ext e1.size) (hn.ext e1) (ho.ext e1) (ER.ext eV hx e1) hkx hL1 (by omega)) λv2 w2 e2 h2=>?_;obtain⟨vb,ve,rfl,rfl,rfl⟩:=h2;have x2:=e1.trans e2;refine .go O ?_;by_cases hE:sfE n o x.length=0;rotate_left
 ·have hb:anE n o x=sfE n o x.length:=by unfold anE;rw[if_pos hE]
  refine .neqT O O O hE (.goE O ?_);refine .plain [_,_] results119 ⟨rfl,rfl,trivial⟩ ⟨x2,_,_,rfl,?_,by rw[hb]⟩;rw[if_neg (by rw[hb];exact hE)];exact RL.nil
 by_cases hB:(nwOf n o).bal (rv x);rotate_left
 ·have hb:anE n o x=10:=by unfold anE;rw[if_neg (by simpa using hE),if_neg hB]
  rw[decide_eq_false λh=>hB h.2];refine .neqF O O O hE (.goE O ?_);refine .plain [_,_] results119 ⟨rfl,rfl,trivial⟩ ⟨x2,_,_,rfl,?_,by rw[hb]⟩;rw[if_neg (by rw[hb];decide)];exact RL.nil
 have hno:anE n o x=0:=by unfold anE;rw[if_neg (by simpa using hE),if_pos hB]
 rw[decide_eq_true ⟨hE,hB⟩,if_pos hno];obtain⟨hO,hxb⟩:=Ay4 hE;have ok:=J1 hO;have hB6:=ok.b6;have hB1:=ok.b1;have hnb:=ok.b;refine .neqF O O O hE (.go O (.ldA ty_N O O (k3.ext e2) O (.go O ?_)));refine .call _ O At5 O (Ar6 (up.ext x2.size) (hn.ext x2) (ho.ext x2)) λv4 w4 e4 h4=>?_;obtain⟨vm,ve,rfl,hm,rfl⟩:=h4;rw[if_pos hO] at hm;obtain⟨gb,vs,base,rfl,hz0,hgb,hR⟩:=hm;have x4:=x2.trans e4;have hs2:=x2.size;have hs4:=e4.size;have hF:FB eV 26 S w4 gb (tabM (nwOf n o).B (nwOf n o).B (nwOf n o).Lm):=by rw[<-Nw.tab_Lk ok.ok];refine hR.toFB (λm hm=>?_) (λk hk=>up k (by omega)) λk hk=>hk;unfold tabM at hm;obtain⟨i,_,rfl⟩:=List.mem_map.1 hm;rw[A0];exact hB1
 have hglt:=hF.lt;have hk3:=k3.lt;clear hR;have old:∀ {α:Type} (E:ER α) {v:Value} {y:α},E.R S w v y->E.R (λk=>S k/\k≠gb) w4 v y:=λE v y h=>E.mono (λk _ h=>⟨h.1,by have:=h.2;omega⟩) (ER.ext E (ER.lt E h) x4);have k3:=k3.ext (e2.trans e4);refine .go O (.ldA ty_N O O k3 O (.go O ?_));refine .call _ O AZ8 O (AX4 (S:=λk=>S k/\k≠gb) (λk hk=>⟨up k (by omega),by omega⟩) (old eN hn) (old eI ho)) λv5 w5 e5 h5=>?_;obtain⟨vr,ve,rfl,hr,he⟩:=h5;replace he:ve=.int .i64 (outE n o):=he;subst he;have hlb:labB n o=(nwOf n o).B:=by unfold labB;rw[if_pos hO]
 replace hr:eI.R (λk=>S k/\k≠gb) w5 vr (pInts ((nwOf n o).refsTo (labB n o))):=hr;rw[hlb] at hr;replace hr:eI.R (λk=>S k/\k≠gb) w5 vr (pInts (nwOf n o).refs):=hr;have hs5:=e5.size;have k3:=k3.ext e5;refine .go O (.fa E1 O O (.go O (.ld A2 O O k3 O ?_)));rw[hnb];refine .call _ O Af6 O (Ad9 (S:=λk=>S k/\k≠gb) (λk hk=>⟨up k (by omega),by omega⟩) (ER.ext eV (old eV hx) e5) hkx hL1 (by omega) (by omega)) λv6 w6 e6 h6=>?_;have hs6:=e6.size;have hV6:eV.R (λk=>(S k/\k≠gb)/\k<w6.heap.size) w6 v6 (tab (nwOf n o).B (rv x)):=ER.lt eV (h6.toR (hsz:=by decide) (λk hk=>⟨up k (by omega),by omega⟩) λk hk=>hk);refine .gv O O (BA4 (E:=eQ) (hsz:=by decide) (base:=w6.heap.size) (X:=λk=>(S k/\k≠gb)/\k<w6.heap.size) un_V G2 O O O OwnL.nil hV6 (λk h=>h.2) (by simp) (by rw[A0];omega) (by decide) (aA _)) ?_;rintro v7 w7 ⟨hO7,b7⟩;have e7:Ext w6 w7:=b7;rw[gH] at hO7;obtain⟨gr,cap,rfl,hc1,hc2,hgr,fr⟩:=hO7.fp (by rw[A0];omega);rw[A0] at hc1;rw[A0];have hs7:=e7.size;have hgrl:=fr.lt;have e57:=(e5.trans e6).trans e7;have x7:=x4.trans e57;have k3:=k3.ext (e6.trans e7);have hF:FB eV 26 (λk=>S k/\k≠gr) w7 gb (tabM (nwOf n o).B (nwOf n o).B (nwOf n o).Lm):=(hF.mono (S':=λk=>S k/\k≠gr) λk hk h=>⟨h,by omega⟩).ext e57;have fr:FP eQ 39 (λk=>S k/\k≠gb) w7 gr (tab (nwOf n o).B (rv x)):=fr.mono λk _ h=>h.1;have hr:eI.R (λk=>(S k/\k≠gb)/\k≠gr) w7 vr (pInts (nwOf n o).refs):=ER.ext eI (eI.mono (λk _ h=>⟨h.1,by have:=h.2;omega⟩) (ER.lt eI hr)) (e6.trans e7);have hrW:∀ {W:World},Chg (λk=>k=gb\/k=gr) w7 W->eI.R (λk=>(S k/\k≠gb)/\k≠gr) W vr (pInts (nwOf n o).refs):=λhC=>eI.keep (hC.kp λk hk h=>h.elim (λe=>hk.1.2 e) λe=>hk.2 e) hr;have hkW:∀ {W:World},Chg (λk=>k=gb\/k=gr) w7 W->Blk W b3 24 #[iW n.b,s]:=λhC=>hC.blk k3 λh=>by have:=hb3;have:=e2.size;rcases h with h | h<;>omega
 rw[hnb] at hkW;have hrl:(nwOf n o).refs.length<=(nwOf n o).B:=(nwOf n o).cnt_le (nwOf n o).B;generalize hG:(λi=>λb c=>if b∈(nwOf n o).refs.take i then dl b c else (nwOf n o).Lm b c:Nat->RM)=G;generalize hY:(λi=>λb=>if b∈(nwOf n o).refs.take i then 0 else rv x b:Nat->Nat->Rat)=Y;refine .goC O ?_;refine .lp (α:=Nat) [3,10,12,14] O (λi=>[(15,iW (i:Nat))]) (λi W=>i<=(nwOf n o).refs.length/\Chg (λk=>k=gb\/k=gr) w7 W/\FB eV 26 (λk=>S k/\k≠gr) W gb (tabM (nwOf n o).B (nwOf n o).B (G i))/\FP eQ 39 (λk=>S k/\k≠gb) W gr (tab (nwOf n o).B (Y i))) (λi=>(nwOf n o).refs.length-i) 0 (lc1 O) ⟨aC _,Chg.refl _,by rw[<-hG];simpa using hF,by rw[<-hY];simpa using fr⟩ ?_;clear hF fr;rintro i W ⟨hi,hC,hF,fr⟩;have hCs:=hC.size;refine .go O (.lenR un_I O O (hrW hC) (.go O ?_));rw[show (pInts (nwOf n o).refs).length=(nwOf n o).refs.length by simp];rcases aB i (nwOf n o).refs.length with hlt | hge;rotate_left
 ·have:i=(nwOf n o).refs.length:=by omega
  subst this;have hmem:∀ b,b<(nwOf n o).B->(b∈(nwOf n o).refs.take (nwOf n o).refs.length<->(nwOf n o).root b=b):=λb hb=>by rw[aK (aA _),Nw.mem_refs];exact⟨λh=>h.2,λh=>⟨hb,h⟩⟩
  have hA:tabM (nwOf n o).B (nwOf n o).B (G (nwOf n o).refs.length)=(nwOf n o).gA:=B8 λb c hb _=>by
   rw[<-hG];unfold Nw.gm;dsimp only;by_cases h:(nwOf n o).root b=b
   ·rw[if_pos h,if_pos ((hmem b hb).2 h)]
   ·rw[if_neg h,if_neg λh'=>h ((hmem b hb).1 h')]
  rw[hA] at hF;have hRm:eM.R S W (slB (nwOf n o).B gb) (nwOf n o).gA:=by have:=(hF.mono (S':=S) λk _ h=>h.1).toR (hsz:=by decide) (c:=(nwOf n o).B) (up gb (by omega)) (by rw[H8];exact aA _) (by rw[H8];omega);rw[H8] at this;exact this
  have hRr:eV.R S W (.slice (some ⟨gr,0,none⟩) (nwOf n o).B cap) (tab (nwOf n o).B (Y (nwOf n o).refs.length)):=by have:=(fr.mono (S':=S) λk _ h=>h.1).toR (hsz:=by decide) (c:=cap) (up gr (by omega)) (by rw[A0];exact hc1) (by rw[A0];omega);rw[A0] at this;exact this
  have hxW:Ext w W:=hC.below x7 (by omega) (λk hk=>by omega);obtain⟨hsv,hsol⟩:=Bj3 ok (r:=tab (nwOf n o).B (Y (nwOf n o).refs.length)) (x:=x) (A0 ..) λb hb=>by
   rw[J4,if_pos hb,<-hY];unfold Nw.inj0;dsimp only;by_cases h:(nwOf n o).root b=b
   ·rw[if_pos h,if_pos ((hmem b hb).2 h)]
   ·rw[if_neg h,if_neg λh'=>h ((hmem b hb).1 h')]
  have hkY:vk (max 21 L) (tab (nwOf n o).B (Y (nwOf n o).refs.length)):=P3 λb _=>by
   rw[<-hY];dsimp only;split
   ·exact Rsz.zero (by omega)
   ·exact (hkx.rsz hL1 b).mono (by omega)
  refine .lssF O O O (by omega) (.go O ?_);refine .call _ O At9 O (As0 (L:=max 21 L) (n:=6) (up.ext hxW.size) hRm hRr ((BH5 ok).mono (by omega)) hkY (by omega) (by rw[H8];omega) (by rw[A0];omega) (by rw[AD6 hB1];omega) (by rw[H8,A0];omega) (by rw[bd6];omega)) λv7 w7' e7' h7=>?_;obtain⟨va,vz,ve,rfl,ha,_,rfl⟩:=h7;rw[if_pos hsv] at ha;rw[if_pos hsv];have k3W:=(hkW hC).ext e7';have hka:vk 600000 (solX (nwOf n o).gA (tab (nwOf n o).B (Y (nwOf n o).refs.length))):=by
   have h1:solX (nwOf n o).gA (tab (nwOf n o).B (Y (nwOf n o).refs.length))=tab (nwOf n o).B (rv (solX (nwOf n o).gA (tab (nwOf n o).B (Y (nwOf n o).refs.length)))):=by unfold solX;rw[AD6 hB1];exact C8 λk hk=>by rw[J4,if_pos hk]
   rw[h1,hsol];exact P3 λc _=>(BB8 ok hL1 (λb=>hkx.rsz hL1 b) c).mono (by omega)
  refine .go O (.fa E1 O O (.go O (.ld A2 O O k3W O ?_)));refine .call _ O Af6 O (Ad9 (n:=(nwOf n o).B) (up.ext (hxW.trans e7').size) ha hka (by decide) (by decide) (by omega)) λv8 w8 e8 h8=>.goE O ?_;have h8:=h8.toR (S:=S) (hsz:=by decide) (λk hk=>up k (by have:=(hxW.trans e7').size;omega)) λk hk=>hk;rw[hsol] at h8;exact .plain [_,_] results119 ⟨rfl,rfl,trivial⟩ ⟨(hxW.trans e7').trans e8,_,_,rfl,h8,by rw[hno]⟩
 have hgr':(pInts (nwOf n o).refs)[i]?=some (((nwOf n o).refs.getD i 0:Nat):Int):=by rw[aI,A4 (z:=0) hlt];rfl
 have hrB:(nwOf n o).refs.getD i 0<(nwOf n o).B:=(Nw.mem_refs.1 (E8 hlt)).1;have htk:(nwOf n o).refs.take (i+1)=(nwOf n o).refs.take i++[(nwOf n o).refs.getD i 0]:=by rw[bX,A4 (z:=0) hlt];rfl
 generalize hb0:(nwOf n o).refs.getD i 0=b at hrB htk hgr';have hrC:=hrW hC;have kC:=hkW hC;refine .lssT O O O (by omega) (.goC O ?_);refine .par follows 12 [.inl _,.inl _,.inl _,.inr (Ptr (eInt .i64) (λk=>(S k/\k≠gb)/\k≠gr) ((b:Nat):Int)),.inl (iW (b:Nat)),.inl _,.inl (iW ((nwOf n o).B:Nat)),.inl _,.inl _,.inr (Ptr (eInt .i64) (λk=>(S k/\k≠gb)/\k≠gr) ((b:Nat):Int)),.inl (iW (b:Nat)),.inr (eV.at (λk=>(S k/\k≠gr)/\k≠gb) (tab (nwOf n o).B (uniR (b:Nat))))] [[],[],[],[(55,1),(56,2)],[(57,3)],[],[(59,5)],[],[],[(61,7),(62,8)],[(63,9)],[(60,6),(64,10)]] (by kernel_rfl) ⟨mvo O,mvo O,mvo O,λw e=>A9 (i:=i) un_I A6 O (ER.ext eI hrC e) O hgr',λw e x3 hx3=>C9 A6 O hx3,fao E1 O,λw e=>(v_ld A2 O (kC.ext e) O).ob,mvo O,mvo O,λw e=>A9 (i:=i) un_I A6 O (ER.ext eI hrC e) O hgr',λw e x9 hx9=>C9 A6 O hx9,λw e=>(A1 _ AA7 O (BQ4 (S:=(λk=>(S k/\k≠gr)/\k≠gb)) (λk hk=>⟨⟨up k (by have:=e.size;omega),by have:=e.size;omega⟩,by have:=e.size;omega⟩) (by omega))).oa,trivial⟩ ?_;intro W1 e7' y3 hy3 y9 hy9 y11 hy11;have hs7':=e7'.size;refine .ixB (i:=b) un_M ty_V O O O hrB (.storeF (E:=eV) (i:=b) (by decide) ty_V O O (hF.ext e7') O (by rw[A3];exact hrB) (aD _) hy11 λW2 f2 u2=>?_);have hs2':=u2.size;have fr:=(fr.ext e7').upd u2 (by omega) λh=>h.2 rfl;have hC2:Chg (λk=>k=gb\/k=gr) w7 W2:=(hC.trans (Chg.ext e7')).trans (Chg.upd u2 (.inl O));refine .go O (.ixN (i:=i) un_I A6 O O (hrW hC2) O hgr' λq hq=>.ldE (E:=eInt .i64) A6 O O hq λe he=>?_);obtain⟨rfl,_⟩:=he;refine .bld _ O O S7 (.ixB (i:=b) un_V ty_Q O O O hrB (.storeP (E:=eQ) (i:=b) (by decide) ty_Q O O fr O (by rw[A0];exact hrB) (aD _) (zq_R (S:=λk=>(S k/\k≠gb)/\k≠gr)) λW3 f3 u3=>?_));have f2:=f2.upd u3 (by omega) λh=>h.2 rfl;rw[M2 hrB] at f2;rw[<-L8,R7] at f3;have hm:∀ b',b'∈(nwOf n o).refs.take (i+1)<->b'∈(nwOf n o).refs.take i\/b'=b:=λb'=>by rw[htk,eJ,gN]
 have hs1:tabM (nwOf n o).B (nwOf n o).B (λj k=>if j=b then uniR (b:Nat) k else G i j k)=tabM (nwOf n o).B (nwOf n o).B (G (i+1)):=B8 λj c _ _=>by
  rw[<-hG];dsimp only;by_cases e:j=b
  ·rw[if_pos e,if_pos ((hm j).2 (.inr e)),e,uniR_dl]
  ·rw[if_neg e];by_cases h:j∈(nwOf n o).refs.take i
   ·rw[if_pos h,if_pos ((hm j).2 (.inl h))]
   ·rw[if_neg h,if_neg λh'=>((hm j).1 h').elim h e]
 have hs2:(tab (nwOf n o).B λj=>if j=b then 0 else Y i j)=tab (nwOf n o).B (Y (i+1)):=C8 λj _=>by
  rw[<-hY];dsimp only;by_cases e:j=b
  ·rw[if_pos e,if_pos ((hm j).2 (.inr e))]
  ·rw[if_neg e];by_cases h:j∈(nwOf n o).refs.take i
   ·rw[if_pos h,if_pos ((hm j).2 (.inl h))]
   ·rw[if_neg h,if_neg λh'=>((hm j).1 h').elim h e]
 rw[hs1] at f2;rw[hs2] at f3;exact .go O (.inc O O O (by omega) (.goN O (.mk (i+1) O (lc1 O) ⟨⟨hlt,hC2.trans (Chg.upd u3 (.inr O)),f2,f3⟩,by show (nwOf n o).refs.length-(i+1)<(nwOf n o).refs.length-i;omega⟩)))
theorem At6:Ent prog 71:=en func71
open Classical in
theorem Ar7(up:Up S w)(hn:eN.R S w vn n)(ho:eI.R S w vo o)(hx:eV.R S w vx x)(hkx:vk L x)(hL1:1<=L)(hL:L<=9000) :
  CR prog 71 #[vn,vo,vx] w (Two (eV.at S (if anE n o x=0 then tab n.ls.length ((nwOf n o).fl ((nwOf n o).an (rv x))) else [])) (Is (iW (anE n o x)))):=by
 obtain⟨s,rfl,hs,hb⟩:=hn;have hn:eN.R S w (.agg #[iW n.b,s]) n:=⟨s,rfl,hs,hb⟩;refine enter func71 O ntmps71 O (.beg (.go O (.box O O λw1 b3 n1=>?_)));obtain⟨e1,k3,hb3,hs1⟩:=n1;refine .go O (.ldA ty_N O O k3 O (.go O (.call _ O Ap7 O (Al7 (up.ext e1.size) (hn.ext e1) (ho.ext e1) (ER.ext eV hx e1) hkx hL1 hL) λv2 w2 e2 h2=>?_)));obtain⟨va,ve,rfl,ha,he⟩:=h2;replace he:ve=.int .i64 (anE n o x):=he;subst he;have x2:=e1.trans e2;refine .go O ?_;by_cases hE:anE n o x=0;rotate_left
 ·refine .neqT O O O hE (.goE O (.plain [_,_] results71 ⟨rfl,rfl,trivial⟩ ⟨x2,_,_,rfl,?_,rfl⟩));rw[if_neg hE];exact RL.nil
 have hO:=(Ay4 (BP1 hE).1).1;have ok:=J1 hO;have hnb:=ok.b;rw[if_pos hE] at ha;replace ha:eV.R S w2 va (tab (nwOf n o).B ((nwOf n o).an (rv x))):=ha;have hka:vk 600000 (tab (nwOf n o).B ((nwOf n o).an (rv x))):=P3 λc _=>(BB8 ok hL1 (λb=>hkx.rsz hL1 b) c).mono (by omega);refine .neqF O O O hE (.go O (.ldA ty_N O O (k3.ext e2) O (.go O ?_)));have hc:=Al6 (L:=600000) (up.ext x2.size) (hn.ext x2) (ho.ext x2) ha hka (by decide) (by decide);have hsf:sfE n o (tab (nwOf n o).B ((nwOf n o).an (rv x))).length=0:=by unfold sfE;rw[A0,if_neg (by simpa using hO),if_pos (by omega)]
 rw[hsf,if_pos rfl] at hc;refine .call _ O Ap6 O hc λv4 w4 e4 h4=>?_;obtain⟨vf,ve,rfl,hf,rfl⟩:=h4;refine .goE O (.plain [_,_] results71 ⟨rfl,rfl,trivial⟩ ⟨x2.trans e4,_,_,rfl,?_,by rw[hE]⟩);rw[if_pos hE];have:tab n.ls.length ((nwOf n o).fl (rv (tab (nwOf n o).B ((nwOf n o).an (rv x)))))=tab n.ls.length ((nwOf n o).fl ((nwOf n o).an (rv x))):=C8 λk hk=>by unfold Nw.fl;rw[J4,if_pos (ok.f k hk),J4,if_pos (ok.t k hk)]
 rw[this] at hf;exact hf
section
variable {n:NtV} {o:List Int} {a b:Nat}
end
theorem putS_lt{x k:Int}(h:x<k):putS (x::l) k=x::putS l k:=by unfold putS;rw[bZ (by simpa using h),cB (by simp;omega)];rfl
theorem putS_gt{x k:Int}(hp:(x::l).Pairwise (·<·))(h:k<x):putS (x::l) k=k::x::l:=by
 have h1:∀ y∈x::l,k<y:=λy hy=>by
  rcases List.mem_cons.1 hy with rfl | hy
  ·exact h
  ·have:=(List.pairwise_cons.1 hp).1 y hy;omega
 unfold putS;rw[List.filter_eq_nil_iff.2 λy hy=>by have:=h1 y hy;simp;omega,List.filter_eq_self.2 λy hy=>by simpa using h1 y hy];rfl
theorem BC1:Ent prog 121:=en func121
theorem Ay8{va vb:Value}{a:List Int}{k:Int}(up:Up S w)(ha:eI.R S w va a)(hb:eI.R S w vb [k])(hp:a.Pairwise (·<·))(hk:k∉a)(hki:inI k)(hl:a.length<=1000):CR prog 121 #[va,vb] w (eI.at S (putS a k)):=by
 have hN:=(Am4 hp hk).len;have ha:=ER.lt eI ha;have hb:=ER.lt eI hb;generalize hT:(λj=>S j/\j<w.heap.size)=T at ha hb;have hTl:∀ j,T j->j<w.heap.size:=λj h=>by rw[<-hT] at h;exact h.2
 have kp:∀ {W W':World} {v:Value} {l:List Int},Ext w W->Ext w W'->eI.R T W v l->eI.R T W' v l:=λ{W W' v l} h h' hv=>eI.keep (λj c t f hj hh=>((h'.block j (hTl j hj)).trans (h.block j (hTl j hj)).symm).trans hh) hv;refine enter func121 O ntmps121 O (.beg (.goC O ?_));refine .lp (α:=(List Int×List Int×List Int)×(Value×Value×Value)) [] O (λy=>[(0,y.2.1),(1,y.2.2.1),(5,y.2.2.2)]) (λy W=>Ext w W/\eI.R T W y.2.1 y.1.1/\eI.R T W y.2.2.1 y.1.2.1/\OwnL (eInt .i64) 3 w.heap.size (λ_=>False) W y.2.2.2 y.1.2.2/\(y.1.1.Pairwise (·<·)/\k∉y.1.1)/\((y.1.2.1=[k]/\y.1.2.2++putS y.1.1 k=putS a k)\/(y.1.2.1=[]/\y.1.2.2++y.1.1=putS a k))) (λy=>y.1.1.length+y.1.2.1.length) ((a,[k],[]),(va,vb,.slice none 0 0)) (lc3 O O O) ⟨Ext.refl _,ha,hb,OwnL.nil,⟨hp,hk⟩,.inl ⟨rfl,rfl⟩⟩ ?_;clear ha hb hp hk;rintro⟨⟨la,lb,acc⟩,v1,v2,vo⟩ W ⟨hW,ha,hb,hO,⟨hp,hk⟩,hc⟩;replace hW:Ext w W:=hW;replace ha:eI.R T W v1 la:=ha;replace hb:eI.R T W v2 lb:=hb;replace hO:OwnL (eInt .i64) 3 w.heap.size (λ_=>False) W vo acc:=hO;replace hp:la.Pairwise (·<·):=hp;replace hk:k∉la:=hk;replace hc:(lb=[k]/\acc++putS la k=putS a k)\/(lb=[]/\acc++la=putS a k):=hc;have zW:=hW.size;have hlen:la.length<=1001/\lb.length<=1/\acc.length<=1001:=by
  rcases hc with ⟨rfl,h⟩ | ⟨rfl,h⟩
  ·have h1:=congrArg List.length h;have h2:=(Am4 hp hk).len;rw[aL] at h1;exact⟨by omega,aA _,by omega⟩
  ·have h1:=congrArg List.length h;rw[aL] at h1;exact⟨by omega,aC _,by omega⟩
 refine .go O (.lenR un_I O O ha (.go O (.lenR un_I O O hb (.go O (.add O O O ?_)))));rw[wI (by omega)];rcases hc with ⟨rfl,hc⟩ | ⟨rfl,hc⟩;rotate_left
 ·cases la with
  | nil =>
   refine .go O (.gtrF O O O (by simp) (.goE O (.plain [_] results121 ⟨rfl,trivial⟩ ⟨hW,?_⟩)));rw[<-hc,bB];exact hO.toR (λj hj=>up j hj) (λ_ h=>h.elim)
  | cons x r =>
   refine .go O (.gtrT O O O (by simp only[aS,cN];omega) (.goC O ?_));refine .par follows 14 [.inl _,.inl (iW (0:Nat)),.inl (.bool true),.inl (.bool true),.inl undef,.inl undef,.inl undef,.inl undef,.inl undef,.inl undef,.inl undef,.inl undef,.inl undef,.inl undef] [[],[(23,0)],[(24,1)],[(25,2)],[(26,3)],[(27,4),(26,3)],[(28,5),(26,3)],[(29,6),(26,3)],[(30,7)],[(31,8),(30,7)],[(32,9),(30,7)],[(30,7)],[(34,11),(30,7)],[(35,12),(30,7)]] (by kernel_rfl) ⟨mvo O,λw e=>(R0 un_I O (ER.ext eI hb e)).ob,λw e=>((AW1 O O).eq (by rfl)).ob,mvo O,λw e=>rfl,λw e=>rfl,λw e=>rfl,λw e=>rfl,λw e=>rfl,λw e=>rfl,λw e=>rfl,λw e=>rfl,λw e=>rfl,λw e=>rfl,trivial⟩ ?_;intro W3 d3;refine .go O (.ixN (i:=0) un_I A6 O O (ER.ext eI ha d3) O O λq hq=>.ldE (E:=eInt .i64) A6 O O hq λe he=>.go O ?_);obtain⟨rfl,hxi⟩:=he;refine .bsl _ O O M8 λW4 b4 n4=>?_;obtain⟨d4,k4,hb4,hs4⟩:=n4;have hO4:=(hO.ext d3).ext d4;have hW4:=(hW.trans d3).trans d4;refine .gv O O (O5 (E:=eInt .i64) (base:=w.heap.size) (n:=x) (e:=.int .i64 x) (by decide) un_I L2 O O O hO4 k4 ⟨rfl,hxi⟩ (by omega) (by decide) hW4.size) ?_;rintro v5 W5 ⟨hO5,g5,_⟩;have hW5:Ext w W5:=OwnL.below hO4 g5 hW4 hW4.size;have ha5:=kp hW hW5 ha;have hb5:=kp hW hW5 hb;refine .go O (.cut 1 (x::r).length un_I A6 O O ha5 ⟨_,rfl⟩ rfl (by simp) (aA _) λv6 h6=>?_);replace h6:eI.R T W5 v6 r:=by simpa using h6
   exact .goN O (.mk ((r,[],acc++[x]),(v6,v2,v5)) O (lc3 O O O) ⟨⟨hW5,h6,hb5,hO5,⟨(List.pairwise_cons.1 hp).2,λh=>hk (cH _ h)⟩,.inr ⟨rfl,by rw[<-hc,cS];rfl⟩⟩,by show r.length+0<(x::r).length+0;simp⟩)
 have hk0:inI k:=hki
 cases la with
 | nil =>
  refine .go O (.gtrT O O O (by simp) (.goC O ?_));refine .par follows 14 [.inl _,.inl (iW (1:Nat)),.inl (.bool false),.inl (.bool false),.inl _,.inl (iW (0:Nat)),.inl (.bool false),.inl (.bool false),.inl undef,.inl undef,.inl undef,.inl undef,.inl undef,.inl undef] [[],[(23,0)],[(24,1)],[(25,2)],[(26,3)],[(27,4),(26,3)],[(28,5),(26,3)],[(29,6),(26,3)],[(30,7)],[(31,8),(30,7)],[(32,9),(30,7)],[(30,7)],[(34,11),(30,7)],[(35,12),(30,7)]] (by kernel_rfl) ⟨mvo O,λw e=>(R0 un_I O (ER.ext eI hb e)).ob,λw e=>((AW1 O O).eq (by rfl)).ob,mvo O,mvo O,λw e=>(R0 un_I O (ER.ext eI ha e)).ob,λw e=>((AR5 O O).eq (by rfl)).ob,mvo O,λw e=>rfl,λw e=>rfl,λw e=>rfl,λw e=>rfl,λw e=>rfl,λw e=>rfl,trivial⟩ ?_;intro W3 d3;refine .goC O ?_;have ha:=ER.ext eI ha d3;have hb:=ER.ext eI hb d3;have hO:=hO.ext d3;have hW:=hW.trans d3;clear d3;refine .par follows 10 [.inl _,.inl (iW (0:Nat)),.inl (.bool true),.inl (.bool true),.inl undef,.inl undef,.inl undef,.inl undef,.inl undef,.inl undef] [[],[(49,0)],[(50,1)],[(51,2)],[(52,3)],[(53,4),(52,3)],[(54,5),(52,3)],[(52,3)],[(56,7),(52,3)],[(57,8),(52,3)]] (by kernel_rfl) ⟨mvo O,λw e=>(R0 un_I O (ER.ext eI ha e)).ob,λw e=>((AW1 O O).eq (by rfl)).ob,mvo O,λw e=>rfl,λw e=>rfl,λw e=>rfl,λw e=>rfl,λw e=>rfl,λw e=>rfl,trivial⟩ ?_;intro W3 d3;refine .go O (.ixN (i:=0) un_I A6 O O (ER.ext eI hb d3) O O λq hq=>.ldE (E:=eInt .i64) A6 O O hq λe he=>.go O ?_);obtain⟨rfl,hxi⟩:=he;refine .bsl _ O O M8 λW4 b4 n4=>?_;obtain⟨d4,k4,hb4,hs4⟩:=n4;have hO4:=(hO.ext d3).ext d4;have hW4:=(hW.trans d3).trans d4;refine .gv O O (O5 (E:=eInt .i64) (base:=w.heap.size) (n:=k) (e:=.int .i64 k) (by decide) un_I L2 O O O hO4 k4 ⟨rfl,hxi⟩ (by omega) (by decide) hW4.size) ?_;rintro v5 W5 ⟨hO5,g5,_⟩;have hW5:Ext w W5:=OwnL.below hO4 g5 hW4 hW4.size;have ha5:=kp hW hW5 ha;have hb5:=kp hW hW5 hb;refine .go O (.cut 1 ([k]).length un_I A6 O O hb5 ⟨_,rfl⟩ rfl (by simp) (aA _) λv6 h6=>?_);replace h6:eI.R T W5 v6 []:=by simpa using h6
  exact .goN O (.mk (([],[],acc++[k]),(v1,v6,v5)) O (lc3 O O O) ⟨⟨hW5,ha5,h6,hO5,⟨hp,hk⟩,.inr ⟨rfl,by rw[<-hc,bB];rfl⟩⟩,by show 0+0<0+1;decide⟩)
 | cons x r =>
  have hne:x≠k:=λe=>hk (by rw[e];exact cR ..);refine .go O (.gtrT O O O (by simp only[aS,cN];omega) (.goC O ?_));by_cases hx:x<k
  ·have hx0:=hx;refine .par follows 14 [.inl _,.inl (iW (1:Nat)),.inl (.bool false),.inl (.bool false),.inl _,.inl (iW (((x::r).length):Nat)),.inl (.bool true),.inl (.bool true),.inl _,.inr (Ptr (eInt .i64) T x),.inl (iW x),.inl _,.inr (Ptr (eInt .i64) T k),.inl (iW k)] [[],[(23,0)],[(24,1)],[(25,2)],[(26,3)],[(27,4),(26,3)],[(28,5),(26,3)],[(29,6),(26,3)],[(30,7)],[(31,8),(30,7)],[(32,9),(30,7)],[(30,7)],[(34,11),(30,7)],[(35,12),(30,7)]] (by kernel_rfl) ⟨mvo O,λw e=>(R0 un_I O (ER.ext eI hb e)).ob,λw e=>((AW1 O O).eq (by rfl)).ob,mvo O,mvo O,λw e=>(R0 un_I O (ER.ext eI ha e)).ob,λw e=>((AR5 O O).eq (by rw[decide_eq_true (by simp only[aS];omega)])).ob,mvo O,mvo O,λw e=>A9 (i:=0) un_I A6 O (ER.ext eI ha e) O rfl,λw e x9 hx9=>C9 A2 O hx9,mvo O,λw e=>A9 (i:=0) un_I A6 O (ER.ext eI hb e) O rfl,λw e x12 hx12=>C9 A2 O hx12,trivial⟩ ?_;intro W3 d3 y9 hy9 y12 hy12;refine .go O (.lssT O O O hx (.go O (.ixN (i:=0) un_I A6 O O (ER.ext eI ha d3) O O λq hq=>.ldE (E:=eInt .i64) A6 O O hq λe he=>.go O ?_)));obtain⟨rfl,hxi⟩:=he;refine .bsl _ O O M8 λW4 b4 n4=>?_;obtain⟨d4,k4,hb4,hs4⟩:=n4;have hO4:=(hO.ext d3).ext d4;have hW4:=(hW.trans d3).trans d4;refine .gv O O (O5 (E:=eInt .i64) (base:=w.heap.size) (n:=x) (e:=.int .i64 x) (by decide) un_I L2 O O O hO4 k4 ⟨rfl,hxi⟩ (by omega) (by decide) hW4.size) ?_;rintro v5 W5 ⟨hO5,g5,_⟩;have hW5:Ext w W5:=OwnL.below hO4 g5 hW4 hW4.size;have ha5:=kp hW hW5 ha;have hb5:=kp hW hW5 hb;refine .go O (.cut 1 (x::r).length un_I A6 O O ha5 ⟨_,rfl⟩ rfl (by simp) (aA _) λv6 h6=>?_);replace h6:eI.R T W5 v6 r:=by simpa using h6
   exact .goN O (.mk ((r,[k],acc++[x]),(v6,v2,v5)) O (lc3 O O O) ⟨⟨hW5,h6,hb5,hO5,⟨(List.pairwise_cons.1 hp).2,λh=>hk (cH _ h)⟩,.inl ⟨rfl,by rw[<-hc,putS_lt hx,cS];rfl⟩⟩,by show r.length+1<(x::r).length+1;simp⟩)
  ·have hx1:k<x:=by omega
   refine .par follows 14 [.inl _,.inl (iW (1:Nat)),.inl (.bool false),.inl (.bool false),.inl _,.inl (iW (((x::r).length):Nat)),.inl (.bool true),.inl (.bool true),.inl _,.inr (Ptr (eInt .i64) T x),.inl (iW x),.inl _,.inr (Ptr (eInt .i64) T k),.inl (iW k)] [[],[(23,0)],[(24,1)],[(25,2)],[(26,3)],[(27,4),(26,3)],[(28,5),(26,3)],[(29,6),(26,3)],[(30,7)],[(31,8),(30,7)],[(32,9),(30,7)],[(30,7)],[(34,11),(30,7)],[(35,12),(30,7)]] (by kernel_rfl) ⟨mvo O,λw e=>(R0 un_I O (ER.ext eI hb e)).ob,λw e=>((AW1 O O).eq (by rfl)).ob,mvo O,mvo O,λw e=>(R0 un_I O (ER.ext eI ha e)).ob,λw e=>((AR5 O O).eq (by rw[decide_eq_true (by simp only[aS];omega)])).ob,mvo O,mvo O,λw e=>A9 (i:=0) un_I A6 O (ER.ext eI ha e) O rfl,λw e x9 hx9=>C9 A2 O hx9,mvo O,λw e=>A9 (i:=0) un_I A6 O (ER.ext eI hb e) O rfl,λw e x12 hx12=>C9 A2 O hx12,trivial⟩ ?_;intro W3 d3 y9 hy9 y12 hy12;refine .go O (.lssF O O O hx (.goC O ?_));have ha:=ER.ext eI ha d3;have hb:=ER.ext eI hb d3;have hO:=hO.ext d3;have hW:=hW.trans d3;clear d3;refine .par follows 10 [.inl _,.inl (iW (((x::r).length):Nat)),.inl (.bool false),.inl (.bool false),.inl _,.inr (Ptr (eInt .i64) T k),.inl (iW k),.inl _,.inr (Ptr (eInt .i64) T x),.inl (iW x)] [[],[(49,0)],[(50,1)],[(51,2)],[(52,3)],[(53,4),(52,3)],[(54,5),(52,3)],[(52,3)],[(56,7),(52,3)],[(57,8),(52,3)]] (by kernel_rfl) ⟨mvo O,λw e=>(R0 un_I O (ER.ext eI ha e)).ob,λw e=>((AW1 O O).eq (by exact congrArg Value.bool (beq_eq_false_iff_ne.2 (by simp only[aS];omega)))).ob,mvo O,mvo O,λw e=>A9 (i:=0) un_I A6 O (ER.ext eI hb e) O rfl,λw e x5 hx5=>C9 A2 O hx5,mvo O,λw e=>A9 (i:=0) un_I A6 O (ER.ext eI ha e) O rfl,λw e x8 hx8=>C9 A2 O hx8,trivial⟩ ?_;intro W3 d3 y5 hy5 y8 hy8;refine .go O (.lssT O O O hx1 (.go O (.ixN (i:=0) un_I A6 O O (ER.ext eI hb d3) O O λq hq=>.ldE (E:=eInt .i64) A6 O O hq λe he=>.go O ?_)));obtain⟨rfl,hxi⟩:=he;refine .bsl _ O O M8 λW4 b4 n4=>?_;obtain⟨d4,k4,hb4,hs4⟩:=n4;have hO4:=(hO.ext d3).ext d4;have hW4:=(hW.trans d3).trans d4;refine .gv O O (O5 (E:=eInt .i64) (base:=w.heap.size) (n:=k) (e:=.int .i64 k) (by decide) un_I L2 O O O hO4 k4 ⟨rfl,hxi⟩ (by omega) (by decide) hW4.size) ?_;rintro v5 W5 ⟨hO5,g5,_⟩;have hW5:Ext w W5:=OwnL.below hO4 g5 hW4 hW4.size;have ha5:=kp hW hW5 ha;have hb5:=kp hW hW5 hb;refine .go O (.cut 1 ([k]).length un_I A6 O O hb5 ⟨_,rfl⟩ rfl (by simp) (aA _) λv6 h6=>?_);replace h6:eI.R T W5 v6 []:=by simpa using h6
   exact .goN O (.mk ((x::r,[],acc++[k]),(v1,v6,v5)) O (lc3 O O O) ⟨⟨hW5,ha5,h6,hO5,⟨hp,hk⟩,.inr ⟨rfl,by rw[<-hc,putS_gt hp hx1,cS];rfl⟩⟩,by show (x::r).length+0<(x::r).length+1;omega⟩)
theorem Aw4{L:List Nat}:((k:Nat):Int)∈pInts L<->k∈L:=by
 unfold pInts;rw[eG];exact⟨fun⟨j,hj,e⟩=>by
  have:j=k:=by omega
  exact this▸hj,λh=>⟨k,h,rfl⟩⟩
theorem Ap8:Ent prog 218:=en func218
theorem Al8{L:List Nat}(up:Up S w)(hn:eN.R S w vn n)(ho:eI.R S w vo (pInts L))(hl:n.ls.length<=1000):CR prog 218 #[vn,vo] w (eI.at S (pInts (freeTo L n.ls.length))):=by
 obtain⟨s,rfl,hs,hb⟩:=hn;have ho0:=ER.lt eI ho;refine enter func218 O ntmps218 O (.beg (.go O (.box O O λw1 b2 n1=>.goC O ?_)));obtain⟨e1,k2,hb2,hs1⟩:=n1;replace k2:Blk w1 b2 24 #[iW n.b,s]:=k2;have hsW:∀ {W:World},Below w1.heap.size w1 W->eLs.R (λk=>S k/\k<w.heap.size) W s n.ls:=λe=>ER.ext eLs (ER.lt eLs hs) (e1.trans e);have hoW:∀ {W:World},Below w1.heap.size w1 W->eI.R (λk=>S k/\k<w.heap.size) W vo (pInts L):=λe=>ER.ext eI ho0 (e1.trans e);refine .lp (α:=Nat×Value) [1,2] O (λy=>[(5,y.2),(6,iW (y.1:Nat))]) (λy W=>Ext w1 W/\y.1<=n.ls.length/\OwnL (eInt .i64) 3 w1.heap.size (λ_=>False) W y.2 (pInts (freeTo L y.1))) (λy=>n.ls.length-y.1) (0,.slice none 0 0) (lc2 O O) ⟨Ext.refl _,aC _,OwnL.nil⟩ ?_;rintro⟨i,v⟩ W ⟨hW,hi,hO⟩;replace hW:Ext w1 W:=hW;replace hi:i<=n.ls.length:=hi;replace hO:OwnL (eInt .i64) 3 w1.heap.size (λ_=>False) W v (pInts (freeTo L i)):=hO;have k2:=k2.ext hW;refine .go O (.fa E5 O O (.ld H2 O O k2 O (.lenR G9 O O (hsW hW) ?_)));rcases aB i n.ls.length with hlt | hge;rotate_left
 ·have:i=n.ls.length:=by omega
  subst this;refine .lssF O O O (by omega) (.goE O (.plain [_] results218 ⟨rfl,trivial⟩ ⟨e1.trans hW,?_⟩));exact hO.toR (λk hk=>up k (by have:=e1.size;omega)) (λ_ h=>h.elim)
 refine .lssT O O O (by omega) (.go O (.call _ O Y8 O (X4 (k:=((i:Nat):Int)) (hoW hW)) λv2 W2 d2 h2=>?_));subst h2;have hfs:=I5 L i;have hW2:=hW.trans d2;by_cases hm:i∈L
 ·rw[if_pos hm,bB] at hfs;rw[decide_eq_true (Aw4.2 hm)];exact .go O (.inc O O O (by omega) (.goN O (.mk (i+1,v) O (lc2 O O) ⟨⟨hW2,hlt,by show OwnL _ _ _ _ W2 v (pInts (freeTo L (i+1)));rw[hfs];exact hO.ext d2⟩,by show n.ls.length-(i+1)<n.ls.length-i;omega⟩)))
 ·rw[if_neg hm] at hfs;rw[decide_eq_false λh=>hm (Aw4.1 h)];have hlf:(freeTo L i).length<=i:=AQ6 _ _;refine .go O (.bsl _ O O M8 λW3 b3 n3=>?_);obtain⟨d3,k3,hb3,hs3⟩:=n3;have hW3:=hW2.trans d3;refine .gv O O (O5 (E:=eInt .i64) (base:=w1.heap.size) (n:=((i:Nat):Int)) (e:=.int .i64 (i:Nat)) (by decide) un_I L2 O O O ((hO.ext d2).ext d3) k3 ⟨rfl,H3.2 (by omega)⟩ (by simp[pInts];omega) (by decide) hW3.size) ?_;rintro v4 W4 ⟨hO4,g4,_⟩;have hW4:Ext w1 W4:=OwnL.below ((hO.ext d2).ext d3) g4 hW3 hW3.size;exact .go O (.inc O O O (by omega) (.goN O (.mk (i+1,v4) O (lc2 O O) ⟨⟨hW4,hlt,by show OwnL _ _ _ _ W4 v4 (pInts (freeTo L (i+1)));rw[hfs];unfold pInts;rw[aO];exact hO4⟩,by show n.ls.length-(i+1)<n.ls.length-i;omega⟩)))
theorem BM5{l:List Nat}{j:Nat}(h:j<l.length):(pInts l)[j]?=some ((l.getD j 0:Nat):Int):=by unfold pInts;rw[aI,A4 (z:=0) h];rfl
theorem Ai4:Ent prog 174:=en func174
theorem Ah3{L:List Nat}(up:Up S w)(ho:eI.R S w vo (pInts L))(hl:L.length<=1000):CR prog 174 #[vo,iW (k:Nat)] w (eI.at S (pInts (L.filter λj=>decide (j≠k)))):=by
 have ho0:=ER.lt eI ho;have hoW:∀ {W:World},Ext w W->eI.R (λk=>S k/\k<w.heap.size) W vo (pInts L):=λe=>ER.ext eI ho0 e;have hpl:(pInts L).length=L.length:=by simp[pInts]
 refine enter func174 O ntmps174 O (.beg (.goC O (.lp (α:=Nat×Value) [0,1] O (λy=>[(5,y.2),(6,iW (y.1:Nat))]) (λy W=>Ext w W/\y.1<=L.length/\OwnL (eInt .i64) 3 w.heap.size (λ_=>False) W y.2 (pInts ((L.take y.1).filter λj=>decide (j≠k)))) (λy=>L.length-y.1) (0,.slice none 0 0) (lc2 O O) ⟨Ext.refl _,aC _,OwnL.nil⟩ ?_)));rintro⟨i,v⟩ W ⟨hW,hi,hO⟩;replace hW:Ext w W:=hW;replace hi:i<=L.length:=hi;replace hO:OwnL (eInt .i64) 3 w.heap.size (λ_=>False) W v (pInts ((L.take i).filter λj=>decide (j≠k))):=hO;refine .go O (.lenR un_I O O (hoW hW) ?_);rw[hpl];rcases aB i L.length with hlt | hge;rotate_left
 ·have:i=L.length:=by omega
  subst this;rw[aK (aA _)] at hO;refine .lssF O O O (by omega) (.goE O (.plain [_] results174 ⟨rfl,trivial⟩ ⟨hW,?_⟩));exact hO.toR (λk hk=>up k hk) (λ_ h=>h.elim)
 have hg:(pInts L)[i]?=some ((L.getD i 0:Nat):Int):=BM5 hlt;have htk:L.take (i+1)=L.take i++[L.getD i 0]:=by rw[bX,A4 (z:=0) hlt];rfl
 have hfl:((L.take i).filter λj=>decide (j≠k)).length<=1000:=aG (dL ..) (by rw[cC];omega);generalize L.getD i 0=x at hg htk;refine .lssT O O O (by omega) (.go O (.ixN (i:=i) un_I A6 O O (hoW hW) O hg λq hq=>.ldE (E:=eInt .i64) A6 O O hq λe he=>.go O ?_));obtain⟨rfl,hxi⟩:=he;by_cases hx:x=k
 ·refine .neqF O O O (by omega) (.go O (.inc O O O (by omega) (.goN O (.mk (i+1,v) O (lc2 O O) ⟨⟨hW,hlt,?_⟩,by show L.length-(i+1)<L.length-i;omega⟩))));show OwnL _ _ _ _ W v (pInts ((L.take (i+1)).filter λj=>decide (j≠k)));rw[htk,bS,cB (by simpa using hx),fG,bB];exact hO
 ·refine .neqT O O O (by omega) (.go O (.ixN (i:=i) un_I A6 O O (hoW hW) O hg λq hq=>.ldE (E:=eInt .i64) A6 O O hq λe he=>.go O ?_));obtain⟨rfl,_⟩:=he;refine .bsl _ O O M8 λW3 b3 n3=>?_;obtain⟨d3,k3,hb3,hs3⟩:=n3;have hW3:=hW.trans d3;refine .gv O O (O5 (E:=eInt .i64) (base:=w.heap.size) (n:=((x:Nat):Int)) (e:=.int .i64 (x:Nat)) (by decide) un_I L2 O O O (hO.ext d3) k3 ⟨rfl,hxi⟩ (by simp only[pInts,dA];omega) (by decide) hW3.size) ?_;rintro v4 W4 ⟨hO4,g4,_⟩;have hW4:Ext w W4:=OwnL.below (hO.ext d3) g4 hW3 hW3.size;refine .go O (.inc O O O (by omega) (.goN O (.mk (i+1,v4) O (lc2 O O) ⟨⟨hW4,hlt,?_⟩,by show L.length-(i+1)<L.length-i;omega⟩)));show OwnL _ _ _ _ W4 v4 (pInts ((L.take (i+1)).filter λj=>decide (j≠k)));rw[htk,bS,bZ (by simpa using hx),fG];unfold pInts;rw[aO];exact hO4
theorem Ah6(up:Up S w)(hn:eN.R S w vn n)(ho:eI.R S w vo o) :
  CR prog 217 #[vn,vo,iW a,iW b] w (Is (tup [.bool (conB n o a b),iW (conE n o a b)])):=(Am0 up hn ho).mono λv w' _ h=>by
 obtain⟨p,q,rfl,hp,hq⟩:=h
 rw[show p=_ from hp,show q=_ from hq]
 rfl
theorem Ap9:Ent prog 173:=en func173
theorem Al9{L:List Nat}(up:Up S w)(hn:eN.R S w vn n)(ho:eI.R S w vo (pInts L))(hl:n.ls.length<=1000):CR prog 173 #[vn,vo,iW a,iW b] w (Is (.bool (conB n (pInts (freeTo L n.ls.length)) a b))):=by obtain⟨s,rfl,hs,hb⟩:=hn;have hn:eN.R S w (.agg #[iW n.b,s]) n:=⟨s,rfl,hs,hb⟩;refine enter func173 O ntmps173 O (.beg (.go O (.box O O λw1 b2 n1=>.goC O ?_)));obtain⟨e1,k2,hb2,hs1⟩:=n1;refine .par follows 11 [.inl (.agg #[iW n.b,s]),.inl (.agg #[iW n.b,s]),.inl _,.inr (eI.at S (pInts (freeTo L n.ls.length))),.inl _,.inl _,.inl (tup [.bool (conB n (pInts (freeTo L n.ls.length)) a b),iW (conE n (pInts (freeTo L n.ls.length)) a b)]),.inl _,.inl _,.inl _,.inl _] [[],[],[],[(13,1),(14,2)],[],[],[(12,0),(15,3),(16,4),(17,5)],[(18,6)],[(11,7)],[(11,7)],[(19,8)]] (by kernel_rfl) ⟨λw e=>(B6 ty_N O (k2.ext e) O).ob,λw e=>(B6 ty_N O (k2.ext e) O).ob,mvo O,λw e=>(A1 _ Ap8 O (Al8 (up.ext (e1.trans e).size) (hn.ext (e1.trans e)) (ER.ext eI ho (e1.trans e)) hl)).oa,mvo O,mvo O,λw e x3 hx3=>(A1 _ Aq0 O (Ah6 (up.ext (e1.trans e).size) (hn.ext (e1.trans e)) hx3)).obIs,mvo O,λw e=>(v_ex O O).ob,λw e=>(v_ex O O).ob,λw e=>(v_as O).ob,trivial⟩ ?_;intro W3 d3 y3 hy3;exact .goE O (.p1 _ results173 O ⟨e1.trans d3,rfl⟩)
theorem Ai5:Ent prog 118:=en func118
theorem Bi6(hO:outE n o=0)(hk:k<n.ls.length):conB n (pInts (othL n o k)) ((nwOf n o).F k:Nat) ((nwOf n o).T k:Nat) = !decide ((nwOf n o).brg k):=by
 have ok:=J1 hO;obtain⟨h1,h2⟩:=oth_ok hO hk;have hf:=ok.f k hk;have ht:=ok.t k hk;have hb:=ok.b;have hE:conE n (pInts (othL n o k)) ((nwOf n o).F k:Nat) ((nwOf n o).T k:Nat)=0:=by unfold conE;rw[if_neg (by simpa using h1),if_pos ⟨⟨by omega,by omega⟩,by omega,by omega⟩]
 unfold conB;rw[h2,fX,fX];by_cases hB:(nwOf n o).brg k
 ·rw[decide_eq_true hB,decide_eq_false λh'=>hB h'.2];rfl
 ·rw[decide_eq_false hB,decide_eq_true ⟨hE,Classical.not_not.1 hB⟩];rfl
theorem Ah4(up:Up S w)(hn:eN.R S w vn n)(ho:eI.R S w vo o) :
  CR prog 118 #[vn,vo] w (Two (eI.at S (if outE n o=0 then pInts (brL n o) else [])) (Is (iW (outE n o)))):=by
 obtain⟨s,rfl,hs,hb⟩:=hn;have hn:eN.R S w (.agg #[iW n.b,s]) n:=⟨s,rfl,hs,hb⟩;refine enter func118 O ntmps118 O (.beg (.go O (.box O O λw1 b2 n1=>.go O ?_)));obtain⟨e1,k2,hb2,hs1⟩:=n1;replace k2:Blk w1 b2 24 #[iW n.b,s]:=k2;refine .ldA ty_N O O k2 O (.go O ?_);refine .call _ O P1 O (O3 (hn.ext e1) (ho.ext e1)) λv2 w2 e2 h2=>?_;subst h2;have x2:=e1.trans e2;have k2:=k2.ext e2;refine .go O ?_;by_cases hO:outE n o=0;rotate_left
 ·refine .neqT O O O hO (.goE O (.plain [_,_] results118 ⟨rfl,rfl,trivial⟩ ⟨x2,_,_,rfl,?_,rfl⟩));rw[if_neg hO];exact RL.nil
 have ok:=J1 hO;have hM10:n.ls.length<=10:=ok.m;have hll:=V3 n o;refine .neqF O O O hO (.go O (.ldA ty_N O O k2 O (.go O ?_)));refine .call _ O Aq1 O (Am1 (up.ext x2.size) (hn.ext x2) (ho.ext x2) (P8 hO).2 (by omega)) λv3 w3 e3 hl=>?_;have x3:=x2.trans e3;have k2:=k2.ext e3;have hpl:(pInts (inL n o)).length=(inL n o).length:=by simp[pInts]
 rw[if_pos hO];generalize hP:(λk=>decide ((nwOf n o).brg k))=P;have hbr:brL n o=(inL n o).filter P:=by rw[<-hP];rfl
 rw[hbr];refine .goC O ?_;refine .lp (α:=Nat×Value) [2,8] O (λy=>[(7,y.2),(9,iW (y.1:Nat))]) (λy W=>Ext w3 W/\y.1<=(inL n o).length/\OwnL (eInt .i64) 3 w3.heap.size S W y.2 (pInts (((inL n o).take y.1).filter P))) (λy=>(inL n o).length-y.1) (0,.slice none 0 0) (lc2 O O) ⟨Ext.refl _,aC _,OwnL.nil⟩ ?_;rintro⟨i,v⟩ W ⟨hW,hi,hown⟩;replace hW:Ext w3 W:=hW;replace hi:i<=(inL n o).length:=hi;replace hown:OwnL (eInt .i64) 3 w3.heap.size S W v (pInts (((inL n o).take i).filter P)):=hown;have hlW:=ER.ext eI hl hW;have xW:=x3.trans hW;have zW:=hW.size;have z3:=x3.size;refine .go O (.lenR un_I O O hlW (.go O ?_));rw[hpl];rcases aB i (inL n o).length with hlt | hge;rotate_left
 ·have:i=(inL n o).length:=by omega
  subst this;rw[aK (aA _)] at hown;exact .lssF O O O (by omega) (.goE O (.plain [_,_] results118 ⟨rfl,rfl,trivial⟩ ⟨xW,_,_,rfl,hown.toR (λk hk=>up k (by omega)) (λ_ h=>h),by rw[hO]⟩))
 obtain⟨hgk,hkM,hko⟩:=AD5 hlt;have htk:(inL n o).take (i+1)=(inL n o).take i++[(inL n o).getD i 0]:=by rw[bX,A4 (z:=0) hlt];rfl
 have hfl:(((inL n o).take i).filter P).length<=10:=aG (dL ..) (by rw[cC];omega);generalize (inL n o).getD i 0=k at hgk hkM hko htk;have hgl:n.ls[k]?=some (n.ls.getD k ln0):=A4 hkM;have hF0:lnI (n.ls.getD k ln0) 0=(((nwOf n o).F k:Nat):Int):=ok.fI k hkM;have hT0:lnI (n.ls.getD k ln0) 1=(((nwOf n o).T k:Nat):Int):=ok.tI k hkM;have hsW:∀ {W':World},Ext W W'->eLs.R S W' s n.ls:=λe=>ER.ext eLs hs (xW.trans e);have hcb:=Bi6 hO hkM;unfold othL at hcb;obtain⟨c,hc⟩:∃ c,decide ((nwOf n o).brg k)=c:=⟨_,rfl⟩;have hPk:P k=c:=by rw[<-hP];exact hc
 rw[hc] at hcb;refine .lssT O O O (by omega) (.goC O ?_);refine .par follows 25 [.inl (.agg #[iW n.b,s]),.inl _,.inl _,.inl _,.inr (Ptr (eInt .i64) S (k:Nat)),.inl (iW (k:Nat)),.inr (eI.at S (pInts ((inL n o).filter λj=>decide (j≠k)))),.inl _,.inl s,.inl _,.inl _,.inr (Ptr (eInt .i64) S (k:Nat)),.inl (iW (k:Nat)),.inr (Ptr eL S (n.ls.getD k ln0)),.inr (Ptr (eInt .i64) S ((nwOf n o).F k:Nat)),.inl (iW ((nwOf n o).F k:Nat)),.inl _,.inl s,.inl _,.inl _,.inr (Ptr (eInt .i64) S (k:Nat)),.inl (iW (k:Nat)),.inr (Ptr eL S (n.ls.getD k ln0)),.inr (Ptr (eInt .i64) S ((nwOf n o).T k:Nat)),.inl (iW ((nwOf n o).T k:Nat))] [[],[],[],[],[(27,2),(28,3)],[(29,4)],[(26,1),(30,5)],[],[(32,7)],[],[],[(34,9),(35,10)],[(36,11)],[(33,8),(37,12)],[(38,13)],[(39,14)],[],[(41,16)],[],[],[(43,18),(44,19)],[(45,20)],[(42,17),(46,21)],[(47,22)],[(48,23)]] (by kernel_rfl) ⟨λw e=>(B6 ty_N O ((k2.ext hW).ext e) O).ob,mvo O,mvo O,mvo O,λw e=>A9 (i:=i) un_I A6 O (ER.ext eI hlW e) O hgk,λw e x4 hx4=>C9 A2 O hx4,λw e=>(A1 _ Ai4 O (Ah3 (up.ext (xW.trans e).size) (ER.ext eI hlW e) (by omega))).oa,fao E5 O,λw e=>(v_ld H2 O ((k2.ext hW).ext e) O).ob,mvo O,mvo O,λw e=>A9 (i:=i) un_I A6 O (ER.ext eI hlW e) O hgk,λw e x11 hx11=>C9 A2 O hx11,λw e=>A9 (i:=k) G9 I9 O (hsW e) O hgl,λw e x13 hx13=>(by rw[<-hF0];exact Ab6 F9 O hx13 (by decide)),λw e x14 hx14=>C9 A2 O hx14,fao E5 O,λw e=>(v_ld H2 O ((k2.ext hW).ext e) O).ob,mvo O,mvo O,λw e=>A9 (i:=i) un_I A6 O (ER.ext eI hlW e) O hgk,λw e x20 hx20=>C9 A2 O hx20,λw e=>A9 (i:=k) G9 I9 O (hsW e) O hgl,λw e x22 hx22=>(by rw[<-hT0];exact Ab6 F8 O hx22 (by decide)),λw e x23 hx23=>C9 A2 O hx23,trivial⟩ ?_;intro W3 d3 y4 hy4 y6 hy6 y11 hy11 y13 hy13 y14 hy14 y20 hy20 y22 hy22 y23 hy23;have hj:=Al9 (a:=((nwOf n o).F k:Nat)) (b:=((nwOf n o).T k:Nat)) (up.ext (xW.trans d3).size) (hn.ext (xW.trans d3)) hy6 (by omega);rw[hcb] at hj;refine .go O (.call _ O Ap9 O hj λv4 W4 d4 h4=>?_);subst h4;have d3:=d3.trans d4;clear hj;have hWW:=hW.trans d3
 cases c with
 | true =>
  refine .go O (.ixN (i:=i) un_I A6 O O (ER.ext eI hlW d3) O hgk λq hq=>.ldE (E:=eInt .i64) A6 O O hq λe he=>.go O ?_);obtain⟨rfl,hki⟩:=he;refine .bsl _ O O M8 λW7 b7 n7=>?_;obtain⟨d7,k7,hb7,hs7⟩:=n7;have d17:=d3.trans d7;have hW7:=hW.trans d17;refine .gv O O (J2 (E:=eInt .i64) (base:=w3.heap.size) (n:=((k:Nat):Int)) (e:=.int .i64 (k:Nat)) (by decide) un_I L2 O O O (hown.ext d17) k7 ⟨rfl,hki⟩ (by simp only[pInts,dA];omega) (by decide) hW7.size) ?_;rintro v8 W8 ⟨ho8,hg8⟩;have hW8:Ext w3 W8:=OwnL.below (hown.ext d17) hg8 hW7 hW7.size;refine .go O (.inc O O O (by omega) (.goN O (.mk (i+1,v8) O (lc2 O O) ⟨⟨hW8,hlt,?_⟩,by show (inL n o).length-(i+1)<(inL n o).length-i;omega⟩)));show OwnL (eInt .i64) 3 w3.heap.size S W8 v8 (pInts (((inL n o).take (i+1)).filter P));rw[htk,bS,bZ hPk,fG];unfold pInts;rw[aO];exact ho8
 | false =>
  have hPk:¬ P k=true:=by rw[hPk];decide
  refine .go O (.inc O O O (by omega) (.goN O (.mk (i+1,v) O (lc2 O O) ⟨⟨hWW,hlt,?_⟩,by show (inL n o).length-(i+1)<(inL n o).length-i;omega⟩)));show OwnL (eInt .i64) 3 w3.heap.size S W4 v (pInts (((inL n o).take (i+1)).filter P));rw[htk,bS,cB hPk,fG,bB];exact hown.ext d3
theorem Bi5(h:outE n o=0):(busB n a/\busB n b->conE n o a b=0)/\(¬ (busB n a/\busB n b)->conE n o a b=1):=by unfold conE;rw[if_neg (by simpa using h)];exact⟨λh=>if_pos h,λh=>if_neg h⟩
theorem btE_val(h:outE n o=0):(busB n a/\busB n b->(nwOf n o).root a.toNat=(nwOf n o).root b.toNat->btE n o a b=0)/\(busB n a/\busB n b->(nwOf n o).root a.toNat≠(nwOf n o).root b.toNat->btE n o a b=8)/\(¬ (busB n a/\busB n b)->btE n o a b=1):=by
 obtain⟨h1,h2⟩:=Bi5 (a:=a) (b:=b) h;refine⟨λhb hr=>?_,λhb hr=>?_,λhb=>?_⟩
 ·unfold btE conB;rw[if_neg (by simpa using h1 hb),if_pos (decide_eq_true ⟨h1 hb,hr⟩)]
 ·unfold btE conB;rw[if_neg (by simpa using h1 hb),if_neg (by rw[decide_eq_false λh=>hr h.2];decide)]
 ·unfold btE;rw[if_pos (by rw[h2 hb];decide),h2 hb]
theorem eV_sep{l:List QV}{b:Nat}{cs:Array Value}(h:eV.R S w v l)(hb:Blk w b t cs)(hc:∀ (i:Nat) (n:Int),cs[i]?≠some (Value.int .u32 n))(hc2:∀ (i:Nat) (x:Bool),cs[i]?≠some (Value.bool x)):eV.R (λk=>S k/\k≠b) w v l:=by
 obtain⟨es,he,a,c,hv,h1,h2,h3,h4⟩:=h;refine⟨es,⟨he.1,λi e x hx hy=>AU4 (he.2 i e x hx hy) hb hc⟩,a,c,hv,h1,h2,h3,λhn=>?_⟩;obtain⟨ad,ha,hS,hcl⟩:=h4 hn;refine⟨ad,ha,⟨hS,λe=>?_⟩,hcl⟩;obtain⟨e0,he0⟩:∃ e,es[0]?=some e:=⟨_,aE (by rw[he.1];exact hn)⟩;obtain⟨s1,t1,rfl,_,_⟩:=he.2 0 e0 _ he0 (aE hn);have hg:=C2 (sz:=4) es 0 0 _ he.sz he0 (by omega);have hcell:=(hcl 0 _ hg).1;obtain⟨b0,o0,g0⟩:=ad;have e:b0=b:=e;subst e;have h':w.heap[b0]?=some (.cells cs t (0,0)):=hb;simp only[World.cell?,Addr.add,if_pos,h'] at hcell;split at hcell
 ·cases hcell
 ·exact hc2 _ _ hcell
theorem BG3:(∀ (i:Nat) (n:Int),(#[.slice none 0 0]:Array Value)[i]?≠some (Value.int .u32 n))/\∀ (i:Nat) (x:Bool),(#[.slice none 0 0]:Array Value)[i]?≠some (Value.bool x):=by
 constructor
 ·intro i n;match i with
  | 0=>simp
  | i+1=>simp
 ·intro i n;match i with
  | 0=>simp
  | i+1=>simp
theorem E_lofac:Ent prog 80:=en func80
theorem lofac_t{T0:Nat->Prop}{vb q:Value}{M l b1 b2 b3:Nat}{bt:Nat->Rat}{r:Rat}(up:Up S w)(upo:Up T0 w)(k1:Blk w b1 3 #[iW (k:Nat)])(k2:Blk w b2 26 #[vb])(hb:eV.R S w vb (tab M bt))(k3:Blk w b3 39 q.cells)(hq:eQ.R S w q (qc r))(hr:r≠0)(hbz:∀ i,Rsz (bt i) L)(hrz:Rsz r L)(hL:1<=L)(hL2:L<=1000000000)(hl:l<M) :
  CR prog 80 #[iW (l:Nat),pW b1,pW b2,pW b3] w (eQ.at T0 (qc (if l=k then -1 else bt l / r))):=by
 have hqv:=shpA (E:=eQ) O hq;refine enter func80 O ntmps80 O (.beg (.go O (.alloc O C1 λW1 b5 n1=>?_)));obtain⟨e1,k5,hb5,hs1⟩:=n1;refine .go O (.ld A2 O O (k1.ext e1) O ?_);by_cases hlk:l=k
 ·rw[if_pos hlk];refine .eqlT O O O (by omega) (.go O (.call _ O F4 O (F2 (n := -1) (S:=λj=>T0 j/\j≠b5) (λj hj=>⟨upo j (by omega),by omega⟩) (by decide) (by decide)) λv2 W2 e2 h2=>(.storeA (E:=eQ) ty_Q O O (k5.ext e2) O O h2 (λh=>h.2 O) λW3 k5 u3 h3=>?_)));exact .goE O (.cell results80 O ty_Q O O k5 h3 ⟨u3.below (e1.trans e2) (by omega),eQ.mono (λ_ _ h=>h.1) h3⟩)
 rw[if_neg hlk];have hbl:=F0 (g:=bt) hl;have hbW:∀ {W:World},Ext w W->eV.R S W vb (tab M bt):=λe=>ER.ext eV hb e;have hqW:∀ {W:World},Ext w W->eQ.R S W q (qc r):=λe=>ER.ext eQ hq e;have upO:∀ {W:World},Ext W1 W->Up (λj=>T0 j/\j≠b5) W:=λe j hj=>⟨upo j (by have:=e.size;omega),by have:=e.size;omega⟩;refine .eqlF O O O (by omega) (.goC O ?_);refine .parL follows 10 [8] [.inl vb,.inl _,.inr (Ptr eQ S (qc (bt l))),.inr (eQ.at S (qc (bt l))),.inl q,.inr (Two (eQ.at (λj=>T0 j/\j≠b5) (qc (bt l / r))) (Is (iW 0))),.inr (Two (eQ.at (λj=>T0 j/\j≠b5) (qc (bt l / r))) (Is (iW 0))),.inr (eQ.at (λj=>T0 j/\j≠b5) (qc (bt l / r))),.inl (iW 0),.inr (NewP W1.heap.size 39 zq.cells)] [[],[],[(13,0),(14,1)],[(15,2)],[],[(16,3),(17,4)],[(18,5)],[(12,6)],[(12,6)],[]] (by kernel_rfl) ⟨λw e=>(v_ld ty_V O (k2.ext (e1.trans e)) O).ob,mvo O,λw e=>A9 (i:=l) un_V ty_Q O (hbW (e1.trans e)) O hbl,λw e x2 hx2=>H7 ty_Q O hx2,λw e=>((B6 ty_Q O (k3.ext (e1.trans e)) (eQ.csz hq)).eq hqv.symm).ob,λw e x3 hx3=>(by have:=AJ3 (L:=L) (up.ext (e1.trans e).size) (upO e) hx3 (hqW (e1.trans e)) (hbz l).toOk hrz.toOk hL (by omega) (by rw[B0];exact hr);rw[B0,B0] at this;exact (A1 _ AK5 O this).ob (L1 (E9 _ _ _) (R9 _))),λw e x5 hx5=>H6 (v_mv O) hx5 (L1 (E9 _ _ _) (R9 _)),λw e x6 hx6=>by
   obtain⟨p1,q1,rfl,hp1,hq1⟩:=hx6;exact H6 (v_ex O O) hp1 (E9 _ _ _),λw e x6 hx6=>by
   obtain⟨p1,q1,rfl,hp1,hq1⟩:=hx6;exact ((v_ex O O).eq hq1).ob,λw e=>N8 C1 e.size,trivial⟩ ?_
 rintro W2 e2 y2 hy2 y3 hy3 y5 hy5 y6 hy6 y7 hy7 _ ⟨b6,rfl,hb6,k6⟩;have hy:=AU4 hy7 k6 AA9;refine .storeA (E:=eQ) ty_Q O O k6 O O hy (λh=>h.2 O) λW3 k6 u3 h3=>?_;have hyv:=shpA (E:=eQ) O h3;refine .go O (.ldA ty_Q O O k6 (eQ.csz h3) ?_);rw[<-hyv];have e3:Ext W1 W3:=u3.below e2 hb6;have h3:eQ.R (λj=>T0 j/\j≠b5) W3 y7 _:=eQ.mono (λ_ _ h=>h.1) h3;refine .storeA (E:=eQ) ty_Q O O (k5.ext e3) O O h3 (λh=>h.2 O) λW4 k5 u4 h4=>?_;exact .goE O (.cell results80 O ty_Q O O k5 h4 ⟨u4.below (e1.trans e3) (by omega),eQ.mono (λ_ _ h=>h.1) h4⟩)
theorem AC4:Ent prog 38:=en func38
def loV (n:NtV) (o:List Int) (k:Nat):List QV:=tab n.ls.length ((nwOf n o).lo k)
theorem BO4(ok:nwOk n o)(k l:Nat):Rsz ((nwOf n o).bt k l) 349529:=by have:=(BA2 ok l ((nwOf n o).F k)).add (BA2 ok l ((nwOf n o).T k)).neg;rw[<-dM] at this;exact this
theorem rst_rsz(ok:nwOk n o)(k:Nat):Rsz ((nwOf n o).rst k) 400000:=by have:=(rsz1 (L:=1) (aA _)).add (BO4 ok k k).neg;rw[<-dM] at this;exact this.mono (by decide)
theorem AB6{T0:Nat->Prop}(up:Up S w)(upo:Up T0 w)(hn:eN.R S w vn n)(ho:eI.R S w vo o) :
  CR prog 38 #[vn,vo,iW line] w (Two (eV.at T0 (if lkE n o line=0 then loV n o line.toNat else [])) (Is (iW (lkE n o line)))):=by
 obtain⟨s,rfl,hs,hb⟩:=hn;have hn:eN.R S w (.agg #[iW n.b,s]) n:=⟨s,rfl,hs,hb⟩;refine enter func38 O ntmps38 O (.beg (.go O (.box O O λw1 b3 n1=>.box O O λw1' b5 n1'=>?_)));obtain⟨e1,k3,hb3,hs1⟩:=n1;obtain⟨e1',k5,hb5,hs1'⟩:=n1';have x1:=e1.trans e1';replace k3:Blk w1' b3 24 #[iW n.b,s]:=k3.ext e1';replace k5:Blk w1' b5 3 #[iW line]:=k5;refine .go O (.ldA ty_N O O k3 O (.go O (.ld A2 O O k5 O ?_)));refine .call _ O Aa1 O (AY1 (up.ext x1.size) (hn.ext x1) (ho.ext x1)) λv2 w2 e2 h2=>?_;subst h2;have x2:=x1.trans e2;have k3:=k3.ext e2;have k5:=k5.ext e2;refine .go O ?_;by_cases hK:lkE n o line=0;rotate_left
 ·refine .neqT O O O hK (.goE O (.plain [_,_] results38 ⟨rfl,rfl,trivial⟩ ⟨x2,_,_,rfl,?_,rfl⟩));rw[if_neg hK];exact RL.nil
 obtain⟨hO,k,rfl,hkM,hg,hko,hB⟩:=Az9 hK;have ok:=J1 hO;have hM10:n.ls.length<=10:=ok.m;have hnb:=ok.b;have z2:=x2.size;have hgl:n.ls[k]?=some (n.ls.getD k ln0):=A4 hkM;have hFI:=ok.fI k hkM;have hTI:=ok.tI k hkM;have hFB:=ok.f k hkM;have hTB:=ok.t k hkM;have hF0:lnI (n.ls.getD k ln0) 0=(((nwOf n o).F k:Nat):Int):=hFI;have hT0:lnI (n.ls.getD k ln0) 1=(((nwOf n o).T k:Nat):Int):=hTI;have hroot:=Nw.root_line (n:=nwOf n o) hkM hg;have hrst:=Nw.rst_ne ok.ok hkM hg hB;have hbt:btE n o ((nwOf n o).F k:Nat) ((nwOf n o).T k:Nat)=0:=by refine (btE_val hO).1 ⟨⟨by omega,by omega⟩,⟨by omega,by omega⟩⟩ ?_;simpa using hroot
 have hbV:btV n o ((nwOf n o).F k) ((nwOf n o).T k)=tab n.ls.length ((nwOf n o).bt k):=rfl;have hsW:∀ {W:World},Ext w2 W->eLs.R S W s n.ls:=λe=>ER.ext eLs hs (x2.trans e);have hBet:∀ {W:World},Ext w2 W->CR prog 79 #[.agg #[iW n.b,s],vo,iW ((nwOf n o).F k:Nat),iW ((nwOf n o).T k:Nat)] W (Two (eV.at S (tab n.ls.length ((nwOf n o).bt k))) (Is (iW 0))):=λe=>by have:=Ah2 (a:=((nwOf n o).F k:Nat)) (b:=((nwOf n o).T k:Nat)) (up.ext (x2.trans e).size) (hn.ext (x2.trans e)) (ho.ext (x2.trans e));rw[hbt,if_pos rfl] at this;exact this
 refine .neqF O O O hK (.goC O ?_);refine .parL follows 19 [17] [.inl (.agg #[iW n.b,s]),.inl _,.inl _,.inl s,.inl (iW (k:Nat)),.inr (Ptr eL S (n.ls.getD k ln0)),.inr (Ptr (eInt .i64) S ((nwOf n o).F k:Nat)),.inl (iW ((nwOf n o).F k:Nat)),.inl _,.inl s,.inl (iW (k:Nat)),.inr (Ptr eL S (n.ls.getD k ln0)),.inr (Ptr (eInt .i64) S ((nwOf n o).T k:Nat)),.inl (iW ((nwOf n o).T k:Nat)),.inr (Two (eV.at S (tab n.ls.length ((nwOf n o).bt k))) (Is (iW 0))),.inr (Two (eV.at S (tab n.ls.length ((nwOf n o).bt k))) (Is (iW 0))),.inr (eV.at S (tab n.ls.length ((nwOf n o).bt k))),.inl (iW 0),.inr (NewP w2.heap.size 26 #[.slice none 0 0])] [[],[],[],[(25,2)],[],[(26,3),(27,4)],[(28,5)],[(29,6)],[],[(31,8)],[],[(32,9),(33,10)],[(34,11)],[(35,12)],[(23,0),(24,1),(30,7),(36,13)],[(37,14)],[(22,15)],[(22,15)],[]] (by kernel_rfl) ⟨λw e=>(B6 ty_N O (k3.ext e) O).ob,mvo O,fao E5 O,λw e=>(v_ld H2 O (k3.ext e) O).ob,λw e=>(v_ld A2 O (k5.ext e) O).ob,λw e=>A9 (i:=k) G9 I9 O (hsW e) O hgl,λw e x5 hx5=>(by rw[<-hF0];exact Ab6 F9 O hx5 (by decide)),λw e x6 hx6=>C9 A2 O hx6,fao E5 O,λw e=>(v_ld H2 O (k3.ext e) O).ob,λw e=>(v_ld A2 O (k5.ext e) O).ob,λw e=>A9 (i:=k) G9 I9 O (hsW e) O hgl,λw e x11 hx11=>(by rw[<-hT0];exact Ab6 F8 O hx11 (by decide)),λw e x12 hx12=>C9 A2 O hx12,λw e=>(A1 _ Ai3 O (hBet e)).ob (L1 (E9 _ _ _) (R9 _)),λw e x14 hx14=>H6 (v_mv O) hx14 (L1 (E9 _ _ _) (R9 _)),λw e x15 hx15=>by
   obtain⟨p1,q1,rfl,hp1,hq1⟩:=hx15;exact H6 (v_ex O O) hp1 (E9 _ _ _),λw e x15 hx15=>by
   obtain⟨p1,q1,rfl,hp1,hq1⟩:=hx15;exact ((v_ex O O).eq hq1).ob,λw e=>N8 Ax6 e.size,trivial⟩ ?_
 rintro W4 d4 y5 hy5 y6 hy6 y11 hy11 y12 hy12 y14 hy14 y15 hy15 vb hvb _ ⟨b9,rfl,hb9,k9⟩;have hvb:=eV_sep hvb k9 BG3.1 BG3.2;obtain⟨ab,cb,hvbs,_⟩:=RL.len hvb;have hz4:=d4.size;refine .store ty_V O O k9 (by rw[hvbs];rfl) (by simp[Value.cells]) (by rw[hvbs];simp[one1,Value.cells]) λW5 k9 u5=>?_;replace k9:Blk W5 b9 26 #[vb]:=by rw[hvbs] at k9 ⊢;exact k9
 have hvb:=eV.keep (Kp.upd u5 λh=>h.2 O) hvb;have d5:Ext w2 W5:=u5.below d4 hb9;have x5:=x2.trans d5;have k3:=k3.ext d5;have k5:=k5.ext d5;have hvb:eV.R S W5 vb (tab n.ls.length ((nwOf n o).bt k)):=eV.mono (λ_ _ h=>h.1) hvb;have hbk:=F0 (g:=(nwOf n o).bt k) hkM;have upT:∀ {W:World},Ext W5 W->Up S W:=λe=>up.ext (x5.trans e).size;refine .go O (.neqF O O O O (.goC O ?_));refine .par follows 7 [.inr (eQ.at S (qc ((1:Int):Rat))),.inl vb,.inl (iW (k:Nat)),.inr (Ptr eQ S (qc ((nwOf n o).bt k k))),.inr (eQ.at S (qc ((nwOf n o).bt k k))),.inr (eQ.at S (qc ((nwOf n o).rst k))),.inr (NewP W5.heap.size 39 zq.cells)] [[],[],[],[(44,1),(45,2)],[(46,3)],[(43,0),(47,4)],[]] (by kernel_rfl) ⟨λw e=>(A1 _ F4 O (F2 (upT e) (by decide) (by decide))).oa,λw e=>(v_ld ty_V O (k9.ext e) O).ob,λw e=>(v_ld A2 O (k5.ext e) O).ob,λw e=>A9 (i:=k) un_V ty_Q O (ER.ext eV hvb e) O hbk,λw e x3 hx3=>H7 ty_Q O hx3,λw e x0 hx0 x4 hx4=>(by have:=AC0 (L:=349529) (upT e) hx0 hx4 ((rsz1 (L:=1) (aA _)).mono (by decide)).toOk (BO4 ok k k).toOk (by decide) (by decide);rw[B0,B0,show (((1:Int):Rat)-(nwOf n o).bt k k)=(nwOf n o).rst k from rfl] at this;exact (A1 _ U5 O this).oa),λw e=>N8 C1 e.size,trivial⟩ ?_;rintro W6 d6 y0 hy0 y3 hy3 y4 hy4 y5 hy5 _ ⟨b11,rfl,hb11,k11⟩;have hy:=AU4 hy5 k11 AA9;refine .storeA (E:=eQ) ty_Q O O k11 O O hy (λh=>h.2 O) λW7 k11 u7 h7=>?_;have h7:eQ.R S W7 y5 (qc ((nwOf n o).rst k)):=eQ.mono (λ_ _ h=>h.1) h7;have d7:Ext W5 W7:=u7.below d6 hb11;have x7:=x5.trans d7;have k3:=k3.ext d7;have k5:=k5.ext d7;have k9:=k9.ext d7;have hvb:=ER.ext eV hvb d7;have z7:=x7.size;refine .go O (.mkf [] [_,_,_] O O O O (.go O (.fa E5 O O (.ld H2 O O k3 O (.lenR G9 O O (ER.ext eLs hs x7) ?_)))));refine .make_ _ _ un_V G2 O (by decide) O O O (aA _) (by omega) (by omega) λW8 h n8=>?_;have f8:FB eQ 39 T0 W8 h (List.replicate n.ls.length q0):=FB.made n8 zq_R;obtain⟨d8,_,hh,hs8⟩:=n8;generalize hG:(λl=>qc ((nwOf n o).lo k l))=G;refine .go O (.len un_V O O (.goC O ?_));refine .lp (α:=Nat) [12,13,55] O (λi=>[(56,iW (i:Nat))]) (λi W=>Ext W7 W/\i<=n.ls.length/\FB eQ 39 T0 W h (fil n.ls.length i G q0)) (λi=>n.ls.length-i) 0 (lc1 O) ⟨d8,aC _,by rw[M3];exact f8⟩ ?_;rintro i W ⟨hW,hi,fb⟩;have hWs:=hW.size;have hhl:=fb.lt;refine .go O ?_;rcases aB i n.ls.length with hlt | hge;rotate_left
 ·have:i=n.ls.length:=by omega
  subst this;rw[AA4] at fb;refine .lssF O O O (by omega) (.goE O (.plain [_,_] results38 ⟨rfl,rfl,trivial⟩ ⟨x7.trans hW,_,_,rfl,?_,by rw[hK]⟩));rw[if_pos hK];have:=fb.toR (hsz:=by decide) (c:=n.ls.length) (upo h (by omega)) (by simp) (by simp;omega);rw[dA,eE,<-hG] at this;exact this
 have hGi:G i=qc (if i=k then -1 else (nwOf n o).bt k i / (nwOf n o).rst k):=by rw[<-hG];rfl
 refine .lssT O O O (by omega) (.go O ?_);refine .callv [iW (i:Nat)] O O E_lofac O (lofac_t (S:=S) (T0:=λj=>T0 j/\j≠h) (L:=400000) (up.ext (x7.trans hW).size) (λj hj=>⟨upo j (by omega),by omega⟩) (k5.ext hW) (k9.ext hW) (ER.ext eV hvb hW) (k11.ext hW) (ER.ext eQ h7 hW) hrst (λi=>(BO4 ok k i).mono (by decide)) (rst_rsz ok k) (by decide) (by decide) hlt) λvq W9 d9 hq=>?_;have hq:eQ.R (λj=>T0 j/\j≠h) W9 vq (G i):=by rw[hGi];exact hq
 refine .ixB (i:=i) un_V ty_Q O O O hlt (.storeF (E:=eQ) (i:=i) (by decide) ty_Q O O (fb.ext d9) O (by rw[H9];exact hlt) (aD _) hq λW10 f10 u10=>?_);rw[O8] at f10;exact .go O (.inc O O O (by omega) (.goN O (.mk (i+1) O (lc1 O) ⟨⟨u10.below (hW.trans d9) (by omega),hlt,f10⟩,by show n.ls.length-(i+1)<n.ls.length-i;omega⟩)))
theorem Aj3(hO:outE n o=0):line∈pInts (inL n o)<->0<=line/\line<n.ls.length/\line∉o:=by
 have hok:=(P8 hO).2;constructor
 ·intro h;obtain⟨k,hk,rfl⟩:=List.mem_map.1 h;obtain⟨h1,h2⟩:=AY0.1 hk;exact⟨by omega,by omega,λh'=>h2 ((U9 hok k).1 h')⟩
 ·rintro⟨h1,h2,h3⟩;obtain⟨k,rfl⟩:=iJ h1;exact List.mem_map.2 ⟨k,AY0.2 ⟨by omega,λh=>h3 ((U9 hok k).2 h)⟩,rfl⟩
theorem mem_brZ(hm:line∈pInts (inL n o)):line∈pInts (brL n o)<->(nwOf n o).brg line.toNat:=by
 obtain⟨k,hk,rfl⟩:=List.mem_map.1 hm;rw[show (((k:Nat):Int)).toNat=k by simp];unfold pInts brL;rw[eG];constructor
 ·rintro⟨j,hj,e⟩;have:j=k:=by omega
  subst this;exact of_decide_eq_true (List.mem_filter.1 hj).2
 ·intro h;exact⟨k,List.mem_filter.2 ⟨hk,decide_eq_true h⟩,rfl⟩
theorem BC0:Ent prog 72:=en func72
theorem Ay7{k:Int}(up:Up S w)(ho:eI.R S w vo o)(hp:o.Pairwise (·<·))(hk:k∉o)(hki:inI k)(hl:o.length<=1000):CR prog 72 #[vo,iW k] w (eI.at S (putS o k)):=by refine enter func72 O ntmps72 O (.beg (.go O (.bsl _ O O M8 λW1 b1 n1=>?_)));have hk1:eI.R S W1 (.slice (some ⟨b1,0,none⟩) 1 1) [k]:=Ao1 (E:=eInt .i64) (hsz:=by decide) [iW k] [k] n1 up O O (by decide) (Els.snoc Els.nil ⟨rfl,hki⟩);have d1:=n1.1;refine .call _ O BC1 O (Ay8 (up.ext d1.size) (ho.ext d1) hk1 hp hk hki hl) λv2 w2 e2 h2=>?_;exact .goE O (.p1 _ results72 O ⟨d1.trans e2,h2⟩)
theorem At3:Ent prog 70:=en func70
theorem Ar4(up:Up S w)(hn:eN.R S w vn n)(ho:eI.R S w vo o):CR prog 70 #[vn,vo,iW line] w (Is (iW (lkE n o line))):=by
 obtain⟨s,rfl,hs,hb⟩:=hn;have hn:eN.R S w (.agg #[iW n.b,s]) n:=⟨s,rfl,hs,hb⟩;refine enter func70 O ntmps70 O (.beg (.go O (.box O O λw1 b3 n1=>?_)));obtain⟨e1,k3,hb3,hs1⟩:=n1;refine .go O (.ldA ty_N O O k3 O (.go O (.call _ O P1 O (O3 (hn.ext e1) (ho.ext e1)) λv2 w2 e2 h2=>?_)));subst h2;have x2:=e1.trans e2;have k3:=k3.ext e2;refine .go O ?_;by_cases hO:outE n o=0;rotate_left
 ·have hlk:lkE n o line=outE n o:=by unfold lkE;rw[if_pos hO]
  exact .neqT O O O hO (.goE O (.plain [_] results70 ⟨rfl,trivial⟩ ⟨x2,by rw[hlk];rfl⟩))
 have no1:line∉pInts (inL n o)->∀ {W:World},Ext w W->(Ext w W/\Is (iW (lkE n o line)) (iW 1) W):=λh W hx=>⟨hx,by
  have:lkE n o line=1:=by unfold lkE;rw[if_neg (by simpa using hO),if_neg h]
  rw[this]⟩
 refine .neqF O O O hO (.go O ?_);by_cases h0:line<0
 ·exact .lssT O O O h0 (.goE O (.p1 _ results70 O (no1 (λh=>by have:=((Aj3 hO).1 h).1;omega) x2)))
 refine .lssF O O O h0 (.go O (.fa E5 O O (.go O (.ld H2 O O k3 O (.go O (.lenR G9 O O (hs.ext x2) (.go O ?_)))))));by_cases h1:(n.ls.length:Int)<=line
 ·exact .geqT O O O h1 (.goE O (.p1 _ results70 O (no1 (λh=>by have:=((Aj3 hO).1 h).2.1;omega) x2)))
 refine .geqF O O O h1 (.go O (.call _ O Y8 O (X4 (k:=line) (ho.ext x2)) λv4 w4 e4 h4=>?_));subst h4;have x4:=x2.trans e4;have k3:=k3.ext e4;by_cases h2:line∈o
 ·rw[decide_eq_true h2];exact .goE O (.p1 _ results70 O (no1 (λh=>((Aj3 hO).1 h).2.2 h2) x4))
 rw[decide_eq_false h2];have hm:line∈pInts (inL n o):=(Aj3 hO).2 ⟨by omega,by omega,h2⟩;refine .go O (.ldA ty_N O O k3 O (.go O (.call _ O Ai5 O (Ah4 (up.ext x4.size) (hn.ext x4) (ho.ext x4)) λv5 w5 e5 h5=>?_)));obtain⟨vb,ve,rfl,hbr,he⟩:=h5;rw[if_pos hO] at hbr;have x5:=x4.trans e5;refine .go O (.call _ O Y8 O (X4 (k:=line) hbr) λv6 w6 e6 h6=>?_);subst h6;have x6:=x5.trans e6;have hiff:=mem_brZ hm;by_cases hB:(nwOf n o).brg line.toNat
 ·rw[decide_eq_true (hiff.2 hB)];have hlk:lkE n o line=11:=by unfold lkE;rw[if_neg (by simpa using hO),if_pos hm,if_pos hB]
  exact .goE O (.plain [_] results70 ⟨rfl,trivial⟩ ⟨x6,by rw[hlk];rfl⟩)
 ·rw[decide_eq_false λh=>hB (hiff.1 h)];have hlk:lkE n o line=0:=by unfold lkE;rw[if_neg (by simpa using hO),if_pos hm,if_neg hB]
  exact .goE O (.plain [_] results70 ⟨rfl,trivial⟩ ⟨x6,by rw[hlk];rfl⟩)
theorem BY3{vu:Value}(up:Up S w)(hn:eN.R S w vn n)(hO:outE n o=0)(hkM:k<n.ls.length)(hko:k∉oN o)(hB:¬ (nwOf n o).brg k)(hu:eI.R S w vu (putS o (k:Nat)))(hx:eV.R S w vx x)(hkx:vk L x)(hL1:1<=L)(hL:L<=9000) :
  CR prog 71 #[vn,vu,vx] w (Two (eV.at S (if anE n o x=0 then afV n o k x else [])) (Is (iW (anE n o x)))):=by
 obtain⟨hOu,hcut⟩:=BN0 hO hkM (Am4 (AP9 (P8 hO).2).1 (AQ0 hko));have h:=Ar7 up hn hu hx hkx hL1 hL;rw[BB9 hO hOu hcut hB,hcut] at h;exact h
theorem At4:Ent prog 31:=en func31
theorem Ar5(up:Up S w)(hn:eN.R S w vn n)(ho:eI.R S w vo o)(hx:eV.R S w vx x)(hkx:vk L x)(hL1:1<=L)(hL:L<=9000) :
  CR prog 31 #[vn,vo,iW line,vx] w (Two (eV.at S (if afE n o line x=0 then afV n o line.toNat x else [])) (Is (iW (afE n o line x)))):=by
 obtain⟨s,rfl,hs,hb⟩:=hn;have hn:eN.R S w (.agg #[iW n.b,s]) n:=⟨s,rfl,hs,hb⟩;refine enter func31 O ntmps31 O (.beg (.go O (.box O O λw1 b4 n1=>?_)));obtain⟨e1,k4,hb4,hs1⟩:=n1;replace k4:Blk w1 b4 24 #[iW n.b,s]:=k4;refine .go O (.ldA ty_N O O k4 O (.go O ?_));refine .call _ O At3 O (Ar4 (up.ext e1.size) (hn.ext e1) (ho.ext e1)) λv2 w2 e2 h2=>?_;subst h2;have x2:=e1.trans e2;have k4:=k4.ext e2;refine .go O ?_;by_cases hK:lkE n o line=0;rotate_left
 ·have haf:afE n o line x=lkE n o line:=by unfold afE;rw[if_pos hK]
  refine .neqT O O O hK (.goE O (.plain [_,_] results31 ⟨rfl,rfl,trivial⟩ ⟨x2,_,_,rfl,?_,by rw[haf]⟩));rw[haf,if_neg hK];exact RL.nil
 have haf:afE n o line x=anE n o x:=by unfold afE;rw[if_neg (by simpa using hK)]
 obtain⟨hO,k,rfl,hkM,hg,hko,hB⟩:=Az9 hK;have hol:=Am5 hO;have hM10:n.ls.length<=10:=(J1 hO).m;have hpw:=AP9 (P8 hO).2;rw[haf,show ((k:Nat):Int).toNat=k by simp];refine .neqF O O O hK (.goC O ?_);refine .par follows 8 [.inl (.agg #[iW n.b,s]),.inl _,.inl _,.inr (eI.at S (putS o (k:Nat))),.inl _,.inr (Two (eV.at S (if anE n o x=0 then afV n o k x else [])) (Is (iW (anE n o x)))),.inr (eV.at S (if anE n o x=0 then afV n o k x else [])),.inl (iW (anE n o x))] [[],[],[],[(19,1),(20,2)],[],[(18,0),(21,3),(22,4)],[(23,5)],[(23,5)]] (by kernel_rfl) ⟨λw e=>(B6 ty_N O (k4.ext e) O).ob,mvo O,mvo O,λw e=>(A1 _ BC0 O (Ay7 (up.ext (x2.trans e).size) (ER.ext eI ho (x2.trans e)) hpw.1 (AQ0 hko) (H3.2 (by omega)) (by omega))).oa,mvo O,λw e x3 hx3=>(A1 _ At6 O (BY3 (up.ext (x2.trans e).size) (hn.ext (x2.trans e)) hO hkM hko hB hx3 (ER.ext eV hx (x2.trans e)) hkx hL1 hL)).ob (L1 (E9 _ _ _) (R9 _)),λw e x5 hx5=>by
   obtain⟨p1,q1,rfl,hp1,hq1⟩:=hx5;exact H6 (v_ex O O) hp1 (E9 _ _ _),λw e x5 hx5=>by
   obtain⟨p1,q1,rfl,hp1,hq1⟩:=hx5;exact ((v_ex O O).eq hq1).ob,trivial⟩ ?_
 intro W3 d3 y3 hy3 y5 hy5 y6 hy6;exact .goE O (.p2 results31 O O ⟨x2.trans d3,_,_,rfl,hy6,rfl⟩)
section
variable {P:Program} {σ:Env} {w:World} {d:Option Tmp} {ty:TypeId} {pos:String} {af:Array Edge} {g:Option (Nat×Bool)} {S:Nat->Prop}
theorem BR9 {s:TypeId} {x:Operand} {i:Nat} {u:Value} {q:QV} (hf:fldOf P s i=some 0) (hx:ev σ x=some u) (hp:Ptr eQ S q u w):Gv P ⟨d,.fieldAddr s x i,ty,pos,af,g⟩ σ w λv' w'=>Ext w w'/\Sp.ok (.inr (Ptr eZ S q.num)) v' w':=by obtain⟨p,rfl,hp⟩:=hp;exact H6 (Av0 hf hx) ⟨_,rfl,hp.qn⟩ (λ_ _ _ e ⟨p,h1,h2⟩=>⟨p,h1,h2.ext e⟩)
theorem BS0 {s:TypeId} {x:Operand} {i:Nat} {u:Value} {q:QV} (hf:fldOf P s i=some 2) (hx:ev σ x=some u) (hp:Ptr eQ S q u w):Gv P ⟨d,.fieldAddr s x i,ty,pos,af,g⟩ σ w λv' w'=>Ext w w'/\Sp.ok (.inr (Ptr eZ S q.den)) v' w':=by obtain⟨p,rfl,hp⟩:=hp;exact H6 (Av0 hf hx) ⟨_,rfl,hp.qd⟩ (λ_ _ _ e ⟨p,h1,h2⟩=>⟨p,h1,h2.ext e⟩)
theorem BR7 {s:TypeId} {x:Operand} {i:Nat} {u:Value} {q:ZV} (hf:fldOf P s i=some 1) (hx:ev σ x=some u) (hp:Ptr eZ S q u w):Gv P ⟨d,.fieldAddr s x i,ty,pos,af,g⟩ σ w λv' w'=>Ext w w'/\Sp.ok (.inr (Ptr eW S q.w)) v' w':=by obtain⟨p,rfl,hp⟩:=hp;exact H6 (Av0 hf hx) ⟨_,rfl,hp.zw⟩ (λ_ _ _ e ⟨p,h1,h2⟩=>⟨p,h1,h2.ext e⟩)
end
theorem PtrTo.zb{z:ZV}(h:PtrTo eZ S w p z):PtrTo eBool S w p z.neg:=by
 obtain⟨e,⟨s,rfl,_⟩,hS,hc⟩:=h;refine⟨.bool z.neg,rfl,hS,λj u hu=>?_⟩;match j with
 | 0=>exact hc 0 u (by simpa[Value.cells] using hu)
 | j+1=>simp[Value.cells] at hu
section
variable {S:Nat->Prop} {w:World} {σ:Env} {d:Option Tmp} {ty:TypeId} {pos:String} {af:Array Edge} {g:Option (Nat×Bool)}
theorem Aw1 {x:Operand} {u:Value} {z:ZV} (hx:ev σ x=some u) (hp:Ptr eZ S z u w):Gv prog ⟨d,.load 4 x,ty,pos,af,g⟩ σ w λv' w'=>Ext w w'/\Sp.ok (.inl (.bool z.neg)) v' w':=by obtain⟨p,rfl,hp⟩:=hp;exact (BH4 (E:=eBool) B4 hx hp.zb).mono λv' w' ⟨e1,h⟩=>by subst e1;exact⟨Ext.refl _,h⟩
theorem BR8 {s:TypeId} {x:Operand} {i:Nat} {u:Value} {z:ZV} (hf:fldOf prog s i=some 0) (hx:ev σ x=some u) (hp:Ptr eZ S z u w):Gv prog ⟨d,.fieldAddr s x i,ty,pos,af,g⟩ σ w λv' w'=>Ext w w'/\Sp.ok (.inr (Ptr eZ S z)) v' w':=by obtain⟨p,rfl,hp⟩:=hp;exact H6 (Av0 hf hx) ⟨_,rfl,by simpa[Addr.add] using hp⟩ (λ_ _ _ e ⟨p,h1,h2⟩=>⟨p,h1,h2.ext e⟩)
theorem BS1 {T:Nat->Prop} {x y:Operand} {u:Value} {z:ZV} (hx:eW.R T w u z.w) (hb:ev σ x=some (.bool z.neg)) (hy:ev σ y=some u):Gv prog ⟨d,.build 37 #[(0,x),(1,y)],ty,pos,af,g⟩ σ w λv' w'=>Ext w w'/\Sp.ok (.inr (eZ.at T z)) v' w':=by obtain⟨p,c,hv,_⟩:=RL.len hx;have hz:eZ.R T w (.agg #[.bool z.neg,u]) z:=⟨u,rfl,hx⟩;subst hv;exact H6 (Av1 (ps:=[(0,x),(1,y)]) [(0,.bool z.neg),(1,.slice p z.w.length c)] (by simp only[evp,hb,hy]) AU9) hz (E9 _ _ _)
theorem ob_bldQ {T:Nat->Prop} {x y:Operand} {u v:Value} {q:QV} (hn:eZ.R T w u q.num) (hd:eZ.R T w v q.den) (hx:ev σ x=some u) (hy:ev σ y=some v):Gv prog ⟨d,.build 39 #[(0,x),(1,y)],ty,pos,af,g⟩ σ w λv' w'=>Ext w w'/\Sp.ok (.inr (eQ.at T q)) v' w':=by obtain⟨s,rfl,hs⟩:=hn;obtain⟨t,rfl,ht⟩:=hd;have hz:eQ.R T w (.agg #[.bool q.num.neg,s,.bool q.den.neg,t]) q:=⟨s,t,rfl,hs,ht⟩;exact H6 (Av1 (ps:=[(0,x),(1,y)]) [(0,.agg #[.bool q.num.neg,s]),(1,.agg #[.bool q.den.neg,t])] (by simp only[evp,hx,hy]) Ac2) hz (E9 _ _ _)
end
theorem BK5:Ent prog 32:=en func32
theorem BG6{vl:Value}{l:List QV}(up:Up S w)(hl:eV.R S w vl l)(hk:∀ q∈l,qok 1000000000 q)(hln:l.length<=1000):CR prog 32 #[vl] w (eV.at S l):=by
 have hl0:=ER.lt eV hl;refine enter func32 O ntmps32 O (.beg (.goC O (.lp (α:=Nat×Value) [0] O (λy=>[(3,y.2),(4,iW (y.1:Nat))]) (λy W=>Ext w W/\y.1<=l.length/\OwnL eQ 39 w.heap.size S W y.2 (l.take y.1)) (λy=>l.length-y.1) (0,.slice none 0 0) (lc2 O O) ⟨Ext.refl _,aC _,OwnL.nil⟩ ?_)));rintro⟨i,v⟩ W ⟨hW,hi,hO⟩;replace hW:Ext w W:=hW;replace hi:i<=l.length:=hi;replace hO:OwnL eQ 39 w.heap.size S W v (l.take i):=hO;have zW:=hW.size;refine .go O (.lenR un_V O O (ER.ext eV hl hW) ?_);rcases aB i l.length with hlt | hge;rotate_left
 ·have:i=l.length:=by omega
  subst this;rw[List.take_length] at hO;exact .lssF O O O (by omega) (.goE O (.p1 _ results32 O ⟨hW,hO.toR (λk hk=>up k (by omega)) (λ_ h=>h)⟩))
 have hg:=aE hlt;have htk:l.take (i+1)=l.take i++[l[i]]:=by rw[bX,hg];rfl
 have hq:=hk l[i] (dY hlt);generalize l[i]=q at hg htk hq;obtain⟨es,ho1,ho2⟩:=id hO;generalize hT:(λk=>S k/\v.ownBlock≠some k)=T;have hTS:∀ k,T k->S k/\v.ownBlock≠some k:=λk h=>by rw[<-hT] at h;exact h
 have upT':∀ {W':World},W.heap.size<=W'.heap.size->Up T W':=λh k hk=>by rw[<-hT];exact⟨up k (by omega),λe=>by have:=(ho1.lt k e).2;omega⟩
 refine .lssT O O O (by omega) (.goC O ?_);refine .par follows 31 ((.inl _)::(.inl _)::(.inl _)::(.inr (Ptr eQ S q))::(.inr (Ptr eZ S q.num))::(.inr (Ptr eZ S q.num))::(.inl (.bool q.num.neg))::(.inl _)::(.inl _)::(.inr (Ptr eQ S q))::(.inr (Ptr eZ S q.num))::(.inr (Ptr eW S q.num.w))::(.inr (eW.at S q.num.w))::(.inr (eW.at T q.num.w))::(.inr (eZ.at T q.num))::(.inl _)::(.inl _)::(.inr (Ptr eQ S q))::(.inr (Ptr eZ S q.den))::(.inr (Ptr eZ S q.den))::(.inl (.bool q.den.neg))::(.inl _)::(.inl _)::(.inr (Ptr eQ S q))::(.inr (Ptr eZ S q.den))::(.inr (Ptr eW S q.den.w))::(.inr (eW.at S q.den.w))::(.inr (eW.at T q.den.w))::(.inr (eZ.at T q.den))::(.inr (eQ.at T q))::(.inr (OneP T q))::[]) ([]::[]::[]::[(12,1),(13,2)]::[(14,3)]::[(15,4)]::[(16,5)]::[]::[]::[(18,7),(19,8)]::[(20,9)]::[(21,10)]::[(22,11)]::[(23,12)]::[(17,6),(24,13)]::[]::[]::[(26,15),(27,16)]::[(28,17)]::[(29,18)]::[(30,19)]::[]::[]::[(32,21),(33,22)]::[(34,23)]::[(35,24)]::[(36,25)]::[(37,26)]::[(31,20),(38,27)]::[(25,14),(39,28)]::[(40,29)]::[]) (by kernel_rfl) ⟨mvo O,mvo O,mvo O,λw e=>A9 (i:=i) un_V ty_Q O (ER.ext eV hl (hW.trans e)) O hg,λw e x3 hx3=>BR9 P5 O hx3,λw e x4 hx4=>BR8 F5 O hx4,λw e x5 hx5=>Aw1 O hx5,mvo O,mvo O,λw e=>A9 (i:=i) un_V ty_Q O (ER.ext eV hl (hW.trans e)) O hg,λw e x9 hx9=>BR9 P5 O hx9,λw e x10 hx10=>BR7 E0 O hx10,λw e x11 hx11=>H7 ty_W O hx11,λw e x12 hx12=>(have hq1:=hq.1;Gv.ob ((BT4 un_W I1 O O hx12 (by omega)).mono λv' w' ⟨h1,h2⟩=>⟨h2,h1.toR (S:=T) (λk hk=>upT' e.size k hk)⟩) (E9 _ _ _)),λw e x13 hx13=>BS1 hx13 O rfl,mvo O,mvo O,λw e=>A9 (i:=i) un_V ty_Q O (ER.ext eV hl (hW.trans e)) O hg,λw e x17 hx17=>BS0 P4 O hx17,λw e x18 hx18=>BR8 F5 O hx18,λw e x19 hx19=>Aw1 O hx19,mvo O,mvo O,λw e=>A9 (i:=i) un_V ty_Q O (ER.ext eV hl (hW.trans e)) O hg,λw e x23 hx23=>BS0 P4 O hx23,λw e x24 hx24=>BR7 E0 O hx24,λw e x25 hx25=>H7 ty_W O hx25,λw e x26 hx26=>(have hq2:=hq.2;Gv.ob ((BT4 un_W I1 O O hx26 (by omega)).mono λv' w' ⟨h1,h2⟩=>⟨h2,h1.toR (S:=T) (λk hk=>upT' e.size k hk)⟩) (E9 _ _ _)),λw e x27 hx27=>BS1 hx27 O rfl,λw e x14 hx14 x28 hx28=>ob_bldQ hx14 hx28 O rfl,λw e x29 hx29=>Be8 hx29,trivial⟩ ?_;rintro W1 d1 _ _ _ _ _ _ _ _ _ _ _ _ _ _ _ _ _ _ _ _ _ _ _ _ _ _ _ _ _ _ _ _ _ _ _ _ _ _ _ ⟨bb,e9,rfl,kb9,he9⟩;have hW1:=hW.trans d1;refine .gv O O (J2 (E:=eQ) (base:=w.heap.size) (n:=q) (e:=e9) (by decide) un_V G2 O O O (hO.ext d1) kb9 (eQ.mono (λk _ h=>hTS k h) he9) (by rw[cC];omega) (by decide) hW1.size) ?_;rintro v2 W2 ⟨hO2,g2⟩;have hW2:Ext w W2:=OwnL.below (hO.ext d1) g2 hW1 hW1.size;rw[<-htk] at hO2;exact .go O (.inc O O O (by omega) (.goN O (.mk (i+1,v2) O (lc2 O O) ⟨⟨hW2,hlt,hO2⟩,by show l.length-(i+1)<l.length-i;omega⟩)))
def Sim (k:Value->Value->Prop) (w w':World):Prop:=∀ p u,Live w p u->∃ u',Live w' p u'/\k u u'
theorem Live.blk(h:Live w p u):∃ b off cs t f,p=⟨b,off,none⟩/\w.heap[b]?=some (.cells cs t f)/\cs[off]?=some u:=by
 obtain⟨h1,_⟩:=h;unfold World.cell? at h1;split at h1
 ·rename_i c e f hh;obtain⟨b,off,spot⟩:=p
  cases spot with
  | none=>exact⟨b,off,c,e,f,rfl,hh,by simpa using h1⟩
  | some s=>simp at h1
 ·cases h1
theorem heap_setCell{b off:Nat}{cs:Array Value}{f:Nat×Nat}(h:w.heap[b]?=some (.cells cs t f)):(w.setCell ⟨b,off,none⟩ v).heap[b]?=some (.cells (cs.setIfInBounds off v) t f):=by unfold World.setCell;simp[gR,h]
theorem AL0{b off:Nat}(h:k≠b):(w.setCell ⟨b,off,none⟩ v).heap[k]?=w.heap[k]?:=by unfold World.setCell;simp[gR,Ne.symm h]
theorem Live.inj(h:Live w p u)(h':Live w p v):u=v:=by have h1:=h.1;rw[h'.1] at h1;exact (Option.some.inj h1).symm
theorem Live.setSelf(h:Live w p u):Live (w.setCell p v) p v:=by
 obtain⟨b,off,cs,t,f,rfl,hb,hc⟩:=h.blk;have hset:=heap_setCell (w:=w) (off:=off) (v:=v) hb;have hlt:=(Array.getElem?_eq_some_iff.1 hc).1;refine⟨?_,?_⟩
 ·unfold World.cell?;simp[hset,hlt]
 ·have hfr:=h.2;unfold World.frozen? at hfr ⊢;simp[hb] at hfr;simp[hset];exact hfr
theorem Live.setOther{q:Addr}{x:Value}(h:Live w p u)(hx:Live w q x)(hne:q≠p):Live (w.setCell p v) q x:=by
 obtain⟨b,off,cs,t,f,rfl,hb,hc⟩:=h.blk;obtain⟨b',off',cs',t',f',rfl,hb',hc'⟩:=hx.blk;have hfr:=hx.2;by_cases e:b'=b
 ·subst e;rw[hb] at hb'
  cases hb';have hset:=heap_setCell (w:=w) (off:=off) (v:=v) hb;have e2:off≠off':=λh=>hne (by rw[h]);refine⟨?_,?_⟩
  ·unfold World.cell?;simp[hset,bL e2,hc']
  ·unfold World.frozen? at hfr ⊢;simp[hb] at hfr;simp[hset];exact hfr
 ·refine⟨?_,?_⟩
  ·unfold World.cell?;simp[AL0 e,hb',hc']
  ·unfold World.frozen? at hfr ⊢;simp only[AL0 e];exact hfr
theorem Bj5{j:Nat}(h:i≠j):p.add i≠p.add j:=λe=>by
 have:(p.add i).off=(p.add j).off:=by rw[e]
 unfold Addr.add at this
 by_cases hi:i=0<;>by_cases hj:j=0<;>simp[hi,hj] at this<;>omega
theorem BE1(h:Live w p u):Upd w (w.setCell p v) p.block:=by obtain⟨b,off,cs,t,f,rfl,hb,hc⟩:=h.blk;exact Upd.setCell w b off v
theorem BF1{P:Program}(h:Live w p u)(hv:one1 v=true):(store p v).run P w=.ok () (w.setCell p v):=by
 obtain⟨h1,h2⟩:=h;unfold store
 cases v<;>first | (simp[one1] at hv;done) | simp[Sem.run,h1,h2]
theorem AK8 {P:Program} {p:Addr}:∀ (vs:List Value) (i:Nat) (w:World),(∀ j v,vs[j]?=some v->∃ u,Live w (p.add (i+j)) u)->(∀ v∈vs,one1 v=true) ->
  ∃ w',(storeCells p vs i).run P w=.ok () w'/\(∀ q x,Live w q x->(∃ j v,vs[j]?=some v/\q=p.add (i+j)/\Live w' q v)\/((∀ j,j<vs.length->q≠p.add (i+j))/\Live w' q x))/\Upd w w' p.block
 | [],i,w,_,_=>⟨w,by simp[storeCells],λq x h=>.inr ⟨λj hj=>by simp at hj,h⟩,Upd.refl _ _⟩
 | v::vs,i,w,h,h1=>by
  obtain⟨u,hu⟩:=h 0 v rfl
  rw[bP] at hu
  have hs:=BF1 (P:=P) (v:=v) hu (h1 v (by simp))
  obtain⟨w',hr,hS,hU⟩:=AK8 (P:=P) (p:=p) vs (i+1) (w.setCell (p.add i) v) (λj z hz=>by
   obtain⟨u',hu'⟩:=h (j+1) z (by simpa using hz)
   rw[show i+1+j=i+(j+1) by omega]
   exact⟨u',hu.setOther hu' (Bj5 (by omega))⟩) (λz hz=>h1 z (by simp[hz]))
  refine⟨w',?_,λq x hq=>?_,?_⟩
  ·simp only[storeCells,Sem.run_bind,hs,Result.andThen_ok,hr]
  ·by_cases e:q=p.add i
   ·left
    have hv:Live (w.setCell (p.add i) v) q v:=by rw[e];exact hu.setSelf
    rcases hS q v hv with ⟨j,z,_,hj,_⟩ | ⟨_,hl⟩
    ·exfalso
     rw[e] at hj
     exact Bj5 (show i≠i+1+j by omega) hj
    ·exact⟨0,v,rfl,by rw[bP];exact e,hl⟩
   ·rcases hS q x (hu.setOther hq e) with ⟨j,z,hz,hj,hl⟩ | ⟨hn,hl⟩
    ·exact .inl ⟨j+1,z,by simpa using hz,by rw[hj,show i+1+j=i+(j+1) by omega],hl⟩
    ·refine .inr ⟨λj hj=>?_,hl⟩
     cases j with
     | zero=>rw[bP];exact e
     | succ j=>rw[show i+(j+1)=i+1+j by omega];exact hn j (by simpa using hj)
  ·have:=BE1 (v:=v) hu
   rw[G8] at this
   exact this.trans hU
theorem Ar3{P:Program}{a:Bool}{n:Nat}{k:Value->Value->Prop}(hk:∀ u,k u u)(ht:tyOf P t=some (a,n))(hn:v.cells.size=n)(h:∀ (j:Nat) (z:Value),v.cells[j]?=some z->∃ u,Live w (p.add j) u/\k u z)(h1:∀ u∈v.cells.toList,one1 u=true) :
  ∃ w',(storeVar t p v).run P w=.ok () w'/\Sim k w w'/\Upd w w' p.block:=by
 obtain⟨w',hr,hS,hU⟩:=AK8 (P:=P) (p:=p) v.cells.toList 0 w (λj z hz=>by obtain⟨u,hu,_⟩:=h j z (by simpa using hz);rw[aD];exact⟨u,hu⟩) h1
 refine⟨w',?_,λq x hq=>?_,hU⟩
 ·simp[storeVar,Sem.run_bind,(H4 ht w).2,hn,hr]
 ·rcases hS q x hq with ⟨j,z,hz,hj,hl⟩ | ⟨_,hl⟩
  ·obtain⟨u,hu,hku⟩:=h j z (by simpa using hz);rw[aD] at hj;rw[hj] at hq;rw[hq.inj hu];exact⟨z,hl,hku⟩
  ·exact⟨x,hl,hk x⟩
section
variable {P:Program} {σ:Env} {w:World} {d:Option Tmp} {ty:TypeId} {pos:String} {af:Array Edge} {g:Option (Nat×Bool)}
theorem Bh4 {t:TypeId} {x y:Operand} {p:Addr} {n:Nat} {a:Bool} {v:Value} {k:Value->Value->Prop} (hk:∀ u,k u u) (ht:tyOf P t=some (a,n)) (hx:ev σ x=some (.pointer (some p))) (hy:ev σ y=some v) (hn:v.cells.size=n)
  (h:∀ (j:Nat) (z:Value),v.cells[j]?=some z->∃ u,Live w (p.add j) u/\k u z) (h1:∀ u∈v.cells.toList,one1 u=true) :
  Gv P ⟨d,.store t x y,ty,pos,af,g⟩ σ w λ_ w'=>Sim k w w'/\Upd w w' p.block:=by
 refine⟨(by intro _ h;cases h),λρ hρ=>.inr (.inl ?_)⟩;have e1:=hρ x _ (by simp[Op.operands]) hx;have e2:=hρ y _ (by simp[Op.operands]) hy;obtain⟨w',hr,hS,hu⟩:=Ar3 (P:=P) hk ht hn h h1;exact⟨w',by simp[execOp,e1,e2,Instr.storeAt,Instr.sureAddr,hr],hS,hu⟩
end
def eAny:ER Unit where
 sz:=1
 isA:=false
 R:=λ_ _ e _=>∃ n,e=.int .u32 n
 csz:=by rintro S w e x ⟨n,rfl⟩;rfl
 one:=by rintro S w e x ⟨n,rfl⟩ u hu;simp[Value.cells] at hu;subst hu;rfl
 shp:=by rintro S w e x ⟨n,rfl⟩;rfl
 keep:=λ_ h=>h
 mono:=λ_ h=>h
abbrev eWs:ER (List Unit):=RL eAny
def eQs:ER Unit where
 sz:=4
 isA:=true
 R:=λS w e _=>∃ p s q t l1 l2,e=.agg #[.bool p,s,.bool q,t]/\eWs.R S w s l1/\eWs.R S w t l2
 csz:=by rintro S w e x ⟨p,s,q,t,l1,l2,rfl,_⟩;rfl
 one:=by
  rintro S w e x ⟨p,s,q,t,l1,l2,rfl,h1,h2⟩ u hu
  have hs:=eWs.shp h1
  have ht:=eWs.shp h2
  simp[Value.cells] at hu
  rcases hu with rfl | rfl | rfl | rfl
  ·rfl
  ·exact hs
  ·rfl
  ·exact ht
 shp:=by rintro S w e x ⟨p,s,q,t,l1,l2,rfl,_⟩;rfl
 keep:=λhk ⟨p,s,q,t,l1,l2,h,h1,h2⟩=>⟨p,s,q,t,l1,l2,h,eWs.keep hk h1,eWs.keep hk h2⟩
 mono:=λhk ⟨p,s,q,t,l1,l2,h,h1,h2⟩=>⟨p,s,q,t,l1,l2,h,eWs.mono hk h1,eWs.mono hk h2⟩
abbrev eVs:ER (List Unit):=RL eQs
abbrev eMs:ER (List (List Unit)):=RL eVs
def kd (w:World) (u u':Value):Prop:=u'=u\/((∃ m,u=.int .u32 m)/\∃ n,u'=.int .u32 n)\/((∃ p,u=.bool p)/\∃ q,u'=.bool q)\/((∃ l,eWs.R (λ_=>True) w u l)/\u'=.slice none 0 0)
theorem kd_refl(u:Value):kd w u u:=.inl rfl
theorem AV6{l:List Unit}(h:eWs.R S w u l):∃ a c,u=.slice a l.length c:=by obtain⟨a,c,h,_⟩:=RL.len h;exact⟨a,c,h⟩
theorem BN9 {p:Nat->Value->Prop}:∀ n,(∀ i,i<n->∃ y,p i y)->∃ ys:List Value,ys.length=n/\∀ i y,ys[i]?=some y->p i y
 | 0,_=>⟨[],rfl,λi y h=>by simp at h⟩
 | n+1,h=>by
  obtain⟨ys,hl,hy⟩:=BN9 n λi hi=>h i (by omega)
  obtain⟨y,hp⟩:=h n (by omega)
  refine⟨ys++[y],by simp[hl],λi z hz=>?_⟩
  rcases aB i ys.length with hi | hi
  ·rw[bQ hi] at hz;exact hy i z hz
  ·rw[bT hi] at hz
   cases hk:i-ys.length with
   | zero=>rw[hk] at hz;simp at hz;subst hz;rw[show i=n by omega];exact hp
   | succ k=>rw[hk] at hz;simp at hz
def Cl {α:Type} (k:Value->Value->Prop) (E:ER α) (S:Nat->Prop) (w w':World):Prop :=
 ∀ (e:Value) (x:α),E.R S w e x->∀ cs:Array Value,cs.size=e.cells.size->(∀ (j:Nat) (u:Value),e.cells[j]?=some u->∃ u':Value,cs[j]?=some u'/\k u u')->∃ e':Value,e'.cells=cs/\E.R S w' e' x
theorem RL.sim{E:ER α}{hsz:0<E.sz}{l:List α}(h:(RL E hsz).R S w v l){k:Value->Value->Prop}(hS:Sim k w w')(hC:Cl k E S w w'):(RL E hsz).R S w' v l:=by
 obtain⟨es,he,a,c,hv,h1,h2,h3,h4⟩:=h;rcases aU l.length with h0 | hpos
 ·have:l=[]:=List.length_eq_zero_iff.1 h0;subst this;rw[hv];exact RL.nil
 obtain⟨ad,ha,hSb,hc⟩:=h4 hpos;have key:∀ i,i<l.length->∃ y:Value,(∀ x,l[i]?=some x->E.R S w' y x)/\∀ j u,y.cells[j]?=some u->Live w' (ad.add (i*E.sz+j)) u:=by
  intro i hi;have hi':i<es.length:=by rw[he.1];exact hi
  have hee:es[i]?=some es[i]:=aE hi';have hR:=he.2 i _ _ hee (aE hi);have hs:=E.csz hR;obtain⟨cs,hl,hcs⟩:=BN9 (p:=λj y=>Live w' (ad.add (i*E.sz+j)) y/\∀ u,es[i].cells[j]?=some u->k u y) E.sz λj hj=>by obtain⟨u,hu⟩:∃ u,es[i].cells[j]?=some u:=⟨_,dP (by rw[hs];exact hj)⟩;have hg:=C2 es i j _ he.sz hee hj;rw[hu] at hg;obtain⟨u',hl',hk⟩:=hS _ _ (hc _ u hg);exact⟨u',hl',λz hz=>by rw[hu] at hz;cases hz;exact hk⟩
  obtain⟨e',hec,hR'⟩:=hC _ _ hR cs.toArray (by simp[hl,hs]) (λj u hu=>by
   have hj:j<cs.length:=by rw[hl,<-hs];exact (Array.getElem?_eq_some_iff.1 hu).1
   refine⟨cs[j],by simp[hj],(hcs j cs[j] (aE hj)).2 u hu⟩)
  refine⟨e',λx hx=>?_,λj u hu=>?_⟩
  ·rw[aE hi] at hx;cases hx;exact hR'
  ·rw[hec] at hu;exact (hcs j u (by simpa using hu)).1
 obtain⟨es',hl',hes⟩:=BN9 l.length key;have hels:Els E S w' es' l:=⟨hl',λi e x h1 h2=>(hes i e h1).1 x h2⟩;refine⟨es',hels,a,c,hv,h1,h2,by rw[B7 _ hels.sz,hl'],λ_=>⟨ad,ha,hSb,λj u hu=>?_⟩⟩;have hjl:j<l.length*E.sz:=by
  rcases aB j (l.length*E.sz) with h | h
  ·exact h
  ·rw[aH (by rw[B7 _ hels.sz,hl'];exact h)] at hu;cases hu
 have hq:j / E.sz<l.length:=(bD hsz).2 hjl;have hr:j % E.sz<E.sz:=aX _ hsz;have hjd:(j / E.sz)*E.sz+j % E.sz=j:=by rw[aT];exact bE j E.sz
 obtain⟨y,hy⟩:∃ y,es'[j / E.sz]?=some y:=⟨_,aE (by rw[hl'];exact hq)⟩;have hg:=C2 es' (j / E.sz) (j % E.sz) y hels.sz hy hr;rw[hjd,hu] at hg;have:=(hes _ y hy).2 (j % E.sz) u hg.symm;rw[hjd] at this;exact this
theorem Be7{e:Value}(h:one1 e=true):e.cells=#[e]:=by cases e<;>first | rfl | (simp[one1] at h)
theorem cl_any:Cl (kd w) eAny S w w':=by
 rintro e x ⟨n,rfl⟩ cs hcs hk;obtain⟨u',hu',hkd⟩:=hk 0 _ rfl;obtain⟨l⟩:=cs;match l,hcs with
 | [z],_ =>
  simp at hu';subst hu';rcases hkd with rfl | ⟨_,m,rfl⟩ | ⟨⟨_,h⟩,_⟩ | ⟨⟨_,h⟩,_⟩
  ·exact⟨.int .u32 n,rfl,n,rfl⟩
  ·exact⟨.int .u32 m,rfl,m,rfl⟩
  ·cases h
  ·obtain⟨a,c,h⟩:=AV6 h
   cases h
theorem eWs.sim{l:List Unit}(h:eWs.R S w v l)(hS:Sim (kd w) w w'):eWs.R S w' v l:=RL.sim h hS cl_any
theorem BS7{p:Bool}(h:kd w (.bool p) u):∃ q,u=.bool q:=by
 rcases h with rfl | ⟨⟨_,h⟩,_⟩ | ⟨_,h⟩ | ⟨⟨_,h⟩,_⟩
 ·exact⟨_,rfl⟩
 ·cases h
 ·exact h
 ·obtain⟨a,c,h⟩:=AV6 h
  cases h
theorem BG9{a:Option Addr}{n c:Nat}(h:kd w (.slice a n c) u):u=.slice a n c\/((∃ l,eWs.R (λ_=>True) w (.slice a n c) l)/\u=.slice none 0 0):=by
 rcases h with rfl | ⟨⟨_,h⟩,_⟩ | ⟨⟨_,h⟩,_⟩ | h
 ·exact .inl rfl
 ·cases h
 ·cases h
 ·exact .inr h
theorem kd_ws{s:Value}{l:List Unit}(h:eWs.R S w s l)(hS:Sim (kd w) w w')(hk:kd w s u):∃ l',eWs.R S w' u l':=by
 have h':=eWs.sim h hS;obtain⟨a,c,rfl⟩:=AV6 h;rcases BG9 hk with rfl | ⟨_,rfl⟩
 ·exact⟨l,h'⟩
 ·exact⟨[],RL.nil⟩
theorem cl_q(hS:Sim (kd w) w w'):Cl (kd w) eQs S w w':=by
 rintro e x ⟨p,s,q,t,l1,l2,rfl,h1,h2⟩ cs hcs hk;obtain⟨u0,g0,k0⟩:=hk 0 _ rfl;obtain⟨u1,g1,k1⟩:=hk 1 _ rfl;obtain⟨u2,g2,k2⟩:=hk 2 _ rfl;obtain⟨u3,g3,k3⟩:=hk 3 _ rfl;obtain⟨l⟩:=cs;match l,hcs with
 | [z0,z1,z2,z3],_ =>
  simp at g0 g1 g2 g3;subst g0 g1 g2 g3;obtain⟨p',rfl⟩:=BS7 k0;obtain⟨q',rfl⟩:=BS7 k2;obtain⟨m1,hm1⟩:=kd_ws h1 hS k1;obtain⟨m2,hm2⟩:=kd_ws h2 hS k3;exact⟨.agg #[.bool p',z1,.bool q',z3],rfl,p',z1,q',z3,m1,m2,rfl,hm1,hm2⟩
theorem eVs.sim{l:List Unit}(h:eVs.R S w v l)(hS:Sim (kd w) w w'):eVs.R S w' v l:=RL.sim h hS (cl_q hS)
theorem Bf1{S':Nat->Prop}{l l':List Unit}(h:eVs.R S w v l)(h':eWs.R S' w v l'):l=[]:=by
 rcases aU l.length with h0 | hpos
 ·exact List.length_eq_zero_iff.1 h0
 exfalso;obtain⟨a1,c1,hv1⟩:=AV6 h';obtain⟨es,he,a,c,hv,_,_,_,h4⟩:=h;obtain⟨es',he',a',c',hv',_,_,_,h4'⟩:=h';rw[hv] at hv';injection hv' with e1 e2 e3;subst e1;obtain⟨ad,rfl,_,hc⟩:=h4 hpos;obtain⟨ad',ha',_,hc'⟩:=h4' (by omega)
 cases ha';obtain⟨e,hee⟩:∃ e,es[0]?=some e:=⟨_,aE (by rw[he.1];exact hpos)⟩;obtain⟨e',hee'⟩:∃ e,es'[0]?=some e:=⟨_,aE (by rw[he'.1];omega)⟩;obtain⟨p,s,q,t,l1,l2,rfl,_⟩:=he.2 0 _ _ hee (aE hpos);obtain⟨n,rfl⟩:=he'.2 0 _ _ hee' (aE (by omega));have g1:=C2 es 0 0 _ he.sz hee (by decide);have g2:=C2 es' 0 0 _ he'.sz hee' (by decide);have h1:=hc 0 _ g1;have h2:=hc' 0 _ g2
 cases h1.inj h2
theorem cl_v(hS:Sim (kd w) w w'):Cl (kd w) eVs S w w':=by
 rintro e l h cs hcs hk;have h':=eVs.sim h hS;obtain⟨a,c,rfl,_⟩:=RL.len h;obtain⟨u',hu',hkd⟩:=hk 0 _ rfl;obtain⟨cl⟩:=cs;match cl,hcs with
 | [z],_ =>
  simp at hu';subst hu';rcases BG9 hkd with rfl | ⟨⟨l',hw⟩,rfl⟩
  ·exact⟨_,rfl,h'⟩
  ·have:=Bf1 h hw;subst this;exact⟨_,rfl,RL.nil⟩
theorem eMs.sim{l:List (List Unit)}(h:eMs.R S w v l)(hS:Sim (kd w) w w'):eMs.R S w' v l:=RL.sim h hS (cl_v hS)
theorem RL.weak{β:Type}{E:ER α}{E':ER β}{hsz:0<E.sz}{hsz':0<E'.sz}{l:List α}(f:α->β)(h:(RL E hsz).R S w v l)(hs:E.sz=E'.sz)(hE:∀ e x,E.R S w e x->E'.R S w e (f x)):(RL E' hsz').R S w v (l.map f):=by
 obtain⟨es,he,a,c,hv,h1,h2,h3,h4⟩:=h;refine⟨es,⟨by simp[he.1],λi e y hx hy=>?_⟩,a,c,by simp[hv],by simp;exact h1,by simp;exact h2,by rw[h3];simp[hs],λhn=>h4 (by simpa using hn)⟩;rw[aI] at hy
 cases hl:l[i]? with
 | none=>rw[hl] at hy;cases hy
 | some x=>rw[hl] at hy;cases hy;exact hE _ _ (he.2 i e x hx hl)
theorem eW.shape{l:List Nat}(h:eW.R S w v l):eWs.R S w v (l.map λ_=>()):=RL.weak _ h O λe x h=>⟨_,h.1⟩
theorem eQ.shape{q:QV}(h:eQ.R S w v q):eQs.R S w v ():=by obtain⟨s,t,rfl,h1,h2⟩:=h;exact⟨_,s,_,t,_,_,rfl,eW.shape h1,eW.shape h2⟩
theorem eV.shape{l:List QV}(h:eV.R S w v l):eVs.R S w v (l.map λ_=>()):=RL.weak (E:=eQ) (E':=eQs) (λ_=>()) h O λ_ _ h=>eQ.shape h
theorem eM.shape{m:List (List QV)}(h:eM.R S w v m):eMs.R S w v (m.map λl=>l.map λ_=>()):=RL.weak (E:=eV) (E':=eVs) _ h O λ_ _ h=>eV.shape h
def PtrL {α:Type} (E:ER α) (S:Nat->Prop) (w:World) (p:Addr) (x:α):Prop:=∃ e,E.R S w e x/\S p.block/\∀ j u,e.cells[j]?=some u->Live w (p.add j) u
theorem RL.atL{E:ER α}{hsz:0<E.sz}{l:List α}(h:(RL E hsz).R S w v l){x:α}(hi:l[i]?=some x):∃ ad c,v=.slice (some ad) l.length c/\PtrL E S w (ad.add (i*E.sz)) x:=by
 obtain⟨es,h1,a,c,hv,h2,_,h3,h4⟩:=h;have hlt:i<l.length:=(List.getElem?_eq_some_iff.1 hi).1;obtain⟨ad,ha,hS,hc⟩:=h4 (by omega);subst ha;obtain⟨e,he⟩:∃ e,es[i]?=some e:=⟨_,aE (by rw[h1.1];exact hlt)⟩;refine⟨ad,c,hv,e,h1.2 i e x he hi,by rw[G8];exact hS,λj u hu=>?_⟩;rw[S8];refine hc _ u ?_;have hj:j<E.sz:=by have hs:=h1.sz e (List.mem_iff_getElem?.2 ⟨i,he⟩);have:=(Array.getElem?_eq_some_iff.1 hu).1;omega
 rw[C2 es i j e h1.sz he hj];exact hu
section
variable {P:Program} {ro:Option Nat} {N:Nat} {ds:List Deferred} {ops:Array Oper} {K:Env->World->Prop} {rest:List Oper} {σ:Env} {w:World} {d:Tmp} {ty:TypeId} {pos:String} {af:Array Edge} {α:Type} {E:ER α} {hsz:0<E.sz} {S:Nat->Prop} {v:Value} {l:List α}
theorem Z1 {dd:Option Tmp} {gd:Option (Nat×Bool)} {t e:TypeId} {x ix:Operand} {k:IntKind} {i:Nat} {b:Bool} {sz n c:Nat} {ad:Addr} (ht:P.underlying t=some (.slice e)) (he:tyOf P e=some (b,sz)) (hx:ev σ x=some (.slice (some ad) n c))
  (hi:ev σ ix=some (.int k (i:Int))) (hlt:i<n):Vl P ⟨dd,.indexAddr t x ix,ty,pos,af,gd⟩ σ w (.pointer (some (ad.add (i*sz)))):=by
 refine⟨(by intro _ h;cases h),λρ hρ=>?_⟩;have h1:=hρ x _ (by simp[Op.operands]) hx;have h2:=hρ ix _ (by simp[Op.operands]) hi;simp[execOp,h1,h2,Instr.indexAt,asIntOf,run_underlying ht,(H4 he w).2];intro hh;omega
theorem WL.ixL {t e:TypeId} {x ix:Operand} {k:IntKind} {i:Nat} {b:Bool} {y:α} (ht:P.underlying t=some (.slice e)) (he:tyOf P e=some (b,E.sz)) (hd:Nat.blt d N=true) (hx:ev σ x=some v) (h:(RL E hsz).R S w v l)
  (hi:ev σ ix=some (.int k (i:Int))) (hy:l[i]?=some y) (kk:∀ p,PtrL E S w p y->WL P ro N ds ops K rest ((d,.pointer (some p))::σ) w) :
  WL P ro N ds ops K (⟨some d,.indexAddr t x ix,ty,pos,af,none⟩::rest) σ w:=by
 obtain⟨ad,c,rfl,hp⟩:=RL.atL h hy;exact WL.vl O hd (Z1 ht he hx hi (List.getElem?_eq_some_iff.1 hy).1) (kk _ hp)
theorem WL.stL {t:TypeId} {x y:Operand} {p:Addr} {n:Nat} {a:Bool} {u:Value} {z:α} (ht:tyOf P t=some (a,n)) (hx:ev σ x=some (.pointer (some p))) (hy:ev σ y=some u) (hn:u.cells.size=n) (hp:PtrL E S w p z)
  (hk:∀ e:Value,E.R S w e z->∀ (j:Nat) (c:Value),u.cells[j]?=some c->∃ c0:Value,e.cells[j]?=some c0/\kd w c0 c) (h1:∀ c∈u.cells.toList,one1 c=true) (kk:∀ w',Sim (kd w) w w'->Chg S w w'->WL P ro N ds ops K rest σ w') :
  WL P ro N ds ops K (⟨none,.store t x y,ty,pos,af,none⟩::rest) σ w:=by
 obtain⟨e,he,hS,hc⟩:=hp;exact WL.gv O O (Bh4 kd_refl ht hx hy hn (λj c hj=>by obtain⟨c0,h0,hkd⟩:=hk e he j c hj;exact⟨c0,hc j c0 h0,hkd⟩) h1) λ_ w' ⟨hs,hu⟩=>kk w' hs (Chg.upd hu hS)
end
section
variable {W W':World} {v va vb:Value} {n c n' c' L L':Nat} {a b m:List (List QV)} {x y:List QV}
end
theorem eMs.loc{rows:List (List Unit)}{row:List Unit}(h:eMs.R S w v rows)(hi:rows[i]?=some row):∃ ad c vr,v=.slice (some ad) rows.length c/\w.cell? (ad.add (i*1))=some vr/\eVs.R S w vr row:=by obtain⟨ad,c,hv,_,e,he,_,hc⟩:=RL.at_ h hi;have h0:=eVs.shp he;have hce:=Be7 (show one1 e=true from h0);exact⟨ad,c,e,hv,by have:=hc 0 e (by rw[hce];rfl);rwa [show (ad.add (i*eVs.sz)).add 0=ad.add (i*1) from rfl] at this,he⟩
theorem eVs.loc{row:List Unit}(h:eVs.R S w v row)(hk:row[k]?=some ()):∃ ad c s t l1 l2,v=.slice (some ad) row.length c/\PtrL eQs S w (ad.add (k*4)) ()/\w.cell? (((ad.add (k*4)).add 0).add 1)=some s/\eWs.R S w s l1/\w.cell? (((ad.add (k*4)).add 2).add 1)=some t/\eWs.R S w t l2:=by obtain⟨ad,c,hv,hp⟩:=RL.atL h hk;have hp':=hp;obtain⟨e,⟨b,s,d,t,l1,l2,rfl,h1,h2⟩,_,hc⟩:=hp';exact⟨ad,c,s,t,l1,l2,hv,hp,by rw[S8];exact (hc 1 s O).1,h1,by rw[S8];exact (hc 3 t O).1,h2⟩
theorem BS6{n:Int}(e:Value)(he:eAny.R S w e ())(j:Nat)(c:Value)(hj:(Value.int .u32 n).cells[j]?=some c):∃ c0:Value,e.cells[j]?=some c0/\kd w c0 c:=by
 obtain⟨m,rfl⟩:=he
 cases j with
 | zero=>exact⟨.int .u32 m,rfl,.inr (.inl ⟨⟨m,rfl⟩,n,by simpa[Value.cells] using hj.symm⟩)⟩
 | succ j=>simp[Value.cells] at hj
theorem kd_rat(e:Value)(he:eQs.R S w e ())(j:Nat)(c:Value)(hj:zq.cells[j]?=some c):∃ c0:Value,e.cells[j]?=some c0/\kd w c0 c:=by
 obtain⟨b,s,d,t,l1,l2,rfl,h1,h2⟩:=he;match j with
 | 0=>exact⟨.bool b,rfl,.inr (.inr (.inl ⟨⟨b,rfl⟩,false,by simpa[Value.cells] using hj.symm⟩))⟩
 | 1=>exact⟨s,rfl,.inr (.inr (.inr ⟨⟨l1,eWs.mono (λ_ _ _=>trivial) h1⟩,by simpa[Value.cells] using hj.symm⟩))⟩
 | 2=>exact⟨.bool d,rfl,.inr (.inr (.inl ⟨⟨d,rfl⟩,false,by simpa[Value.cells] using hj.symm⟩))⟩
 | 3=>exact⟨t,rfl,.inr (.inr (.inr ⟨⟨l2,eWs.mono (λ_ _ _=>trivial) h2⟩,by simpa[Value.cells] using hj.symm⟩))⟩
 | j+4=>simp[Value.cells] at hj
theorem Au3:Ent prog 35:=en func35
theorem As6{rows:List (List Unit)}(h:eMs.R S w v rows):Calls prog 35 #[v] w λe w'=>∃ u,e=.returned u/\Chg S w w':=by
 obtain⟨_,_,_,_,hrl⟩:=RL.len h;refine enterG func35 O ntmps35 O (.beg (.goC O (.lp (α:=Nat) [0] O (λi=>[(2,iW (i:Nat))]) (λi W=>Chg S w W/\eMs.R S W v rows/\i<=rows.length) (λi=>rows.length-i) 0 (lc1 O) ⟨Chg.refl _,h,aC _⟩ ?_)));rintro i W ⟨hC,hM,hi⟩;refine .go O (.lenR un_M O O hM ?_);rcases aB i rows.length with hlt | hge;rotate_left
 ·exact .lssF O O O (by omega) (.goE O (.plain [] results35 trivial hC))
 have hgi:rows[i]?=some (rows.getD i []):=A4 hlt;generalize rows.getD i []=row at hgi;have hrow:row.length<=9223372036854775807:=by obtain⟨_,_,_,_,_,hr⟩:=eMs.loc hM hgi;obtain⟨_,_,_,_,hl⟩:=RL.len hr;exact hl
 refine .lssT O O O (by omega) (.goC O (.lp (α:=Nat) [0,2] O (λk=>[(3,iW (k:Nat))]) (λk W=>Chg S w W/\eMs.R S W v rows/\k<=row.length) (λk=>row.length-k) 0 (lc1 O) ⟨hC,hM,aC _⟩ ?_));rintro k W ⟨hC,hM,hk⟩;obtain⟨ad,cm,vr,hv,hvr,hr⟩:=eMs.loc hM hgi;refine .go O (.vl O O (Z1 un_M ty_V (congrArg some hv) O hlt) (.vl O O (AB3 ty_V O hvr) (.lenR un_V O O hr ?_)));rcases aB k row.length with hltk | hgek;rotate_left
 ·exact .lssF O O O (by omega) (.go O (.inc O O O (by omega) (.goN O (.mk (i+1) O (lc1 O) ⟨⟨hC,hM,hlt⟩,by show rows.length-(i+1)<rows.length-i;omega⟩))))
 have hgk:row[k]?=some ():=aE hltk;refine .lssT O O O (by omega) (.goC O ?_);refine .lp (α:=Nat) [0,2,3] O (λj=>[(4,iW (j:Nat))]) (λj W=>Chg S w W/\eMs.R S W v rows/\j<=9223372036854775807) (λj=>9223372036854775807-j) 0 (lc1 O) ⟨hC,hM,aC _⟩ ?_;rintro j W ⟨hC,hM,hj⟩;have hM0:=hM;obtain⟨ad,cm,vr,hv,hvr,hr⟩:=eMs.loc hM hgi;obtain⟨ad2,cr,sv,tv,l1,l2,rfl,hq,hsc,hs,htc,ht⟩:=eVs.loc hr hgk;obtain⟨asl,csl,hsv,_,hsl⟩:=RL.len hs;refine .go O (.vl O O (Z1 un_M ty_V (congrArg some hv) O hlt) (.vl O O (AB3 ty_V O hvr) (.go O (.vl O O (Z1 un_V ty_Q O O hltk) (.faP P5 O O (.faP E0 O O (.vl O O (AB3 ty_W O hsc) (.lenR un_W O O hs ?_))))))));rcases aB j l1.length with hltj | hgej
 ·have hgj:l1[j]?=some ():=aE hltj;refine .lssT O O O (by omega) (.go O (.vl O O (Z1 un_M ty_V (congrArg some hv) O hlt) (.vl O O (AB3 ty_V O hvr) (.go O (.vl O O (Z1 un_V ty_Q O O hltk) (.faP P5 O O (.faP E0 O O (.vl O O (AB3 ty_W O hsc) (.go O (.ixL (i:=j) un_W A8 O O hs O hgj λp3 hp3=>(.stL A8 O O O hp3 BS6 (by simp[Value.cells,one1]) λW3 hsim hchg=>?_)))))))))));exact .go O (.inc O O O (by omega) (.goN O (.mk (j+1) O (lc1 O) ⟨⟨hC.trans hchg,eMs.sim hM0 hsim,by show j+1<=_;omega⟩,by show 9223372036854775807-(j+1)<9223372036854775807-j;omega⟩)))
 refine .lssF O O O (by omega) (.goC O ?_);refine .lp (α:=Nat) [0,2,3] O (λj=>[(5,iW (j:Nat))]) (λj W=>Chg S w W/\eMs.R S W v rows/\j<=9223372036854775807) (λj=>9223372036854775807-j) 0 (lc1 O) ⟨hC,hM,aC _⟩ ?_;rintro j W ⟨hC,hM,hj⟩;have hM0:=hM;obtain⟨ad,cm,vr,hv,hvr,hr⟩:=eMs.loc hM hgi;obtain⟨ad2,cr,sv,tv,l1,l2,rfl,hq,hsc,hs,htc,ht⟩:=eVs.loc hr hgk;obtain⟨asl,csl,hsv,_,hsl⟩:=RL.len ht;refine .go O (.vl O O (Z1 un_M ty_V (congrArg some hv) O hlt) (.vl O O (AB3 ty_V O hvr) (.go O (.vl O O (Z1 un_V ty_Q O O hltk) (.faP P4 O O (.faP E0 O O (.vl O O (AB3 ty_W O htc) (.lenR un_W O O ht ?_))))))));rcases aB j l2.length with hltj | hgej
 ·have hgj:l2[j]?=some ():=aE hltj;refine .lssT O O O (by omega) (.go O (.vl O O (Z1 un_M ty_V (congrArg some hv) O hlt) (.vl O O (AB3 ty_V O hvr) (.go O (.vl O O (Z1 un_V ty_Q O O hltk) (.faP P4 O O (.faP E0 O O (.vl O O (AB3 ty_W O htc) (.go O (.ixL (i:=j) un_W A8 O O ht O hgj λp3 hp3=>(.stL A8 O O O hp3 BS6 (by simp[Value.cells,one1]) λW3 hsim hchg=>?_)))))))))));exact .go O (.inc O O O (by omega) (.goN O (.mk (j+1) O (lc1 O) ⟨⟨hC.trans hchg,eMs.sim hM0 hsim,by show j+1<=_;omega⟩,by show 9223372036854775807-(j+1)<9223372036854775807-j;omega⟩)))
 refine .lssF O O O (by omega) (.go O (.vl O O (Z1 un_M ty_V (congrArg some hv) O hlt) (.vl O O (AB3 ty_V O hvr) (.go O (.bld _ O O S7 (.vl O O (Z1 un_V ty_Q O O hltk) (.stL (u:=zq) ty_Q O O O hq kd_rat (by simp[Value.cells,one1]) λW3 hsim hchg=>?_)))))));exact .go O (.inc O O O (by omega) (.goN O (.mk (k+1) O (lc1 O) ⟨⟨hC.trans hchg,eMs.sim hM0 hsim,hltk⟩,by show row.length-(k+1)<row.length-k;omega⟩)))
theorem ok3_2:outE net3 [2]=0:=BR6 (by decide) (by decide)
theorem Au2:Ent prog 41:=en func41
theorem As5:CR prog 41 #[] w (eN.at (λ_=>True) net3):=by refine enter func41 O ntmps41 O (.sr (.alloc O Ba8 λw1 b0 n1=>.nil (.sr (.bld _ O O BB5 (.bld _ O O BB5 (.bld _ O O BB5 (.bsl _ O O bsl_Ls3 λw2 b4 n2=>.bld _ O O bld_N2 ?_)))))));obtain⟨e1,k0,hb0,hs1⟩:=n1;have hl:eLs.R (λk=>k≠b0) w2 (.slice (some ⟨b4,0,none⟩) 3 3) net3.ls:=Ao1 (E:=eL) [_,_,_] net3.ls n2 (λk hk=>by omega) O O (by decide) (Els.snoc (Els.snoc (Els.snoc Els.nil (ln_R (by decide))) (ln_R (by decide))) (ln_R (by decide)));have hn:eN.R (λk=>k≠b0) w2 (.agg #[iW 3,.slice (some ⟨b4,0,none⟩) 3 3]) net3:=⟨_,rfl,hl,H3.2 (by decide)⟩;refine .storeA (E:=eN) ty_N O O (k0.ext n2.1) O O hn (λh=>h O) λw3 k3 u3 h3=>.nil (.ret ?_);exact .cell (E:=eN) results41 O ty_N O O k3 h3 ⟨u3.below (e1.trans n2.1) (by omega),eN.mono (λ_ _ _=>trivial) h3⟩
theorem AO9:Ent prog 42:=en func42
theorem AN2{vl:Value}(hl:eI.R (λ_=>True) w vl l)(hn:l.length<=1000):CR prog 42 #[vl] w (eV.at (λ_=>True) (intsV l)):=by refine enter func42 O ntmps42 O (.beg (.go O (.call _ O BC5 O (Az1 upT hl (by omega)) λv1 w1 e1 h1=>.goE O ?_)));exact .p1 _ results42 O ⟨e1,h1⟩
theorem BK4:Ent prog 44:=en func44
theorem BG5{vl:Value}(hn:eN.R (λ_=>True) w vn n)(ho:eI.R (λ_=>True) w vo o)(hl:eI.R (λ_=>True) w vl l)(hll:l.length<=1000)(hK:lkE n o line=0)(hV:loV n o line.toNat=intsV l) :
  CR prog 44 #[vn,vo,iW line,vl] w (Is (.bool true)):=by
 obtain⟨s,rfl,hs,hb⟩:=hn;have hn:eN.R (λ_=>True) w (.agg #[iW n.b,s]) n:=⟨s,rfl,hs,hb⟩;refine enter func44 O ntmps44 O (.beg (.go O (.box O O λw1 b4 n1=>?_)));obtain⟨e1,k4,hb4,hs1⟩:=n1;refine .go O (.ldA ty_N O O k4 O (.go O (.call _ O AC4 O (AB6 (T0:=λ_=>True) upT upT (hn.ext e1) (ho.ext e1)) λv2 w2 e2 h2=>?_)));obtain⟨vf,ve,rfl,hf,he⟩:=h2;rw[hK] at he;subst he;rw[if_pos hK,hV] at hf;have x2:=e1.trans e2;refine .go O (.eqlT O O O O (.go O (.call _ O AO9 O (AN2 (hl.ext x2) hll) λv3 w3 e3 h3=>.go O (.call _ O AJ9 O (BS8 (ER.ext eV hf e3) h3 O) λv4 w4 e4 h4=>?_))));subst h4;exact .goE O (.p1 _ results44 O ⟨(x2.trans e3).trans e4,rfl⟩)
theorem Bg2:lkE net3 [] 0=0:=by unfold lkE;rw[if_neg (by simpa using ok3),if_pos (by decide),if_neg (by decide +kernel)]
theorem lk3_20:lkE net3 [2] 0=11:=by unfold lkE;rw[if_neg (by simpa using ok3_2),if_pos (by decide),if_pos (by decide +kernel)]
theorem lk3_22:lkE net3 [2] 2=1:=by unfold lkE;rw[if_neg (by simpa using ok3_2),if_neg (by decide)]
theorem lo3(hk:k<3):(nwOf net3 []).lo 0 k=((([-1,-1,1]:List Int).getD k 0:Int):Rat):=by
 have ok:=J1 ok3;have hh:∀ k b,k<3->b<3->(nwOf net3 []).hf k b=(nwOf net3 []).fl (cand3 b) k:=λk b hk hb=>Nw.hf_cand ok.ok ok.b1 cand3 Bi8 hk hb;have h2:∀ k,k<3->(if k=0 then (-1:Rat) else ((nwOf net3 []).fl (cand3 0) k-(nwOf net3 []).fl (cand3 1) k) / (1-((nwOf net3 []).fl (cand3 0) 0-(nwOf net3 []).fl (cand3 1) 0)))=((([-1,-1,1]:List Int).getD k 0:Int):Rat):=by decide +kernel
 rw[<-h2 k hk];unfold Nw.lo Nw.rst Nw.bt;rw[show (nwOf net3 []).F 0=0 from rfl,show (nwOf net3 []).T 0=1 from rfl,hh k 0 hk (by decide),hh k 1 hk (by decide),hh 0 0 (by decide) (by decide),hh 0 1 (by decide) (by decide)]
theorem loV3:loV net3 [] (0:Int).toNat=intsV [-1,-1,1]:=C8 λk hk=>lo3 hk
theorem af3_ok:afE net3 [] 0 (intsV [6,0,-6])=0:=by unfold afE;rw[if_neg (by simpa using Bg2)];exact Bj4
theorem afV3:afV net3 [] (0:Int).toNat (intsV [6,0,-6])=intsV [0,0,6]:=C8 λk hk=>by
 have ok:=J1 ok3
 obtain⟨_,k0,h0,hkM,hg,_,hB⟩:=Az9 Bg2
 have:k0=0:=by omega
 subst this
 have h1:∀ k,k<3->(nwOf net3 []).fl ((nwOf net3 []).an (rv (intsV [6,0,-6]))) k=(nwOf net3 []).fl an3 k:=λk hk=>by
  unfold Nw.fl
  rw[BU8 _ (ok.f k hk),BU8 _ (ok.t k hk)]
 have h2:∀ k,k<3->(nwOf net3 []).fl an3 k+((([-1,-1,1]:List Int).getD k 0:Int):Rat)*(nwOf net3 []).fl an3 0=((([0,0,6]:List Int).getD k 0:Int):Rat):=by decide +kernel
 rw[show (0:Int).toNat=0 from rfl,Nw.lo_flow ok.ok hkM hg hB (BP1 Bj4).2 hk,h1 k hk,h1 0 (by decide),lo3 hk,h2 k hk]
theorem BU3:bslOf prog 25 1 [(0,iW a)]=some (3,#[iW a]):=by kernel_rfl
theorem AS4:Ent prog 30:=en func30
theorem AR8:CR prog 30 #[] w (Is (.bool true)):=by
 have hk6:=vk_ints [6,0,-6] (by decide);refine enter func30 O ntmps30 O (.beg (.go O (.call _ O Au2 O As5 λvn w1 e1 h1=>.alloc O Ba8 λw2 b1 n2=>?_)));obtain⟨e2,k1,hb1,hs2⟩:=n2;refine .storeA (E:=eN) (S:=λk=>k<w1.heap.size) ty_N O O k1 O O (ER.ext eN (eN.mono (λk _ h=>h.2) (ER.lt eN h1)) e2) (λh=>by omega) λw3 k1 u3 h3=>?_;have hvn:=shpA (E:=eN) O h3;have h3:eN.R (λ_=>True) w3 vn net3:=eN.mono (λ_ _ _=>trivial) h3;have x3:Ext w w3:=(u3.below (e2) (by omega):Ext w1 w3) |> e1.trans;refine .goC O ?_;refine .par follows 8 [.inl vn,.inr (eI.at (λ_=>True) [6,0,-6]),.inr (eV.at (λ_=>True) (intsV [6,0,-6])),.inr (Two (eV.at (λ_=>True) (intsV [0,0,6])) (Is (iW 0))),.inr (Two (eV.at (λ_=>True) (intsV [0,0,6])) (Is (iW 0))),.inr (eV.at (λ_=>True) (intsV [0,0,6])),.inl (iW 0),.inr (eV.at (λ_=>True) (intsV [0,0,6]))] [[],[],[(11,1)],[(10,0),(12,2)],[(13,3)],[(9,4)],[(9,4)],[(14,5)]] (by kernel_rfl) ⟨λw e=>((B6 ty_N O (k1.ext e) (eN.csz h3)).eq hvn.symm).ob,λw e=>ob_L3 (by decide),λw e x1 hx1=>(A1 _ AO9 O (AN2 hx1 (by decide))).oa,λw e x2 hx2=>(by have:=AY2 (vo:=.slice none 0 0) (T0:=λ_=>True) (o:=[]) (line:=0) upT upT (ER.ext eN h3 e) RL.nil hx2 hk6 (by decide) (by decide);rw[af3_ok,if_pos rfl,afV3] at this;exact (A1 _ Aa2 O this).ob (L1 (E9 _ _ _) (R9 _))),λw e x3 hx3=>H6 (v_mv O) hx3 (L1 (E9 _ _ _) (R9 _)),λw e x4 hx4=>by
   obtain⟨p1,q1,rfl,hp1,hq1⟩:=hx4;exact H6 (v_ex O O) hp1 (E9 _ _ _),λw e x4 hx4=>by
   obtain⟨p1,q1,rfl,hp1,hq1⟩:=hx4;exact ((v_ex O O).eq hq1).ob,λw e x5 hx5=>H6 (v_as O) hx5 (E9 _ _ _),trivial⟩ ?_
 intro w4 e4 y1 hy1 y2 hy2 y3 hy3 y4 hy4 y5 hy5 y7 hy7;have k1:=k1.ext e4;have h4:=ER.ext eN h3 e4;refine .go O (.ldA ty_N O O k1 (eN.csz h3) (.bsl _ O O BU3 λw5 b5 n5=>?_));rw[<-hvn];have e5:=n5.1;have i5:eI.R (λ_=>True) w5 (.slice (some ⟨b5,0,none⟩) 1 1) [2]:=Ao0 [2] 1 n5 upT O O (by decide) (by decide);refine .call _ O AC4 O (AB6 (T0:=λ_=>True) (line:=0) upT upT (ER.ext eN h4 e5) i5) λv6 w6 e6 h6=>?_;obtain⟨vf,ve,rfl,_,he⟩:=h6;rw[lk3_20] at he;subst he;have e46:=e5.trans e6;refine .go O (.ldA ty_N O O (k1.ext e46) (eN.csz h3) (.bsl _ O O BU3 λw7 b7 n7=>?_));rw[<-hvn];have e7:=n7.1;have i7:eI.R (λ_=>True) w7 (.slice (some ⟨b7,0,none⟩) 1 1) [2]:=Ao0 [2] 1 n7 upT O O (by decide) (by decide);refine .call _ O AC4 O (AB6 (T0:=λ_=>True) (line:=2) upT upT (ER.ext eN h4 (e46.trans e7)) i7) λv8 w8 e8 h8=>?_;obtain⟨vf,ve,rfl,_,he⟩:=h8;rw[lk3_22] at he;subst he;have e48:=(e46.trans e7).trans e8;refine .go O (.ldA ty_N O O (k1.ext e48) (eN.csz h3) (.bsl _ O O BO5 λw9 b9 n9=>?_));rw[<-hvn];have e9:=n9.1;refine .call _ O BK4 O (BG5 (o:=[]) (line:=0) (ER.ext eN h4 (e48.trans e9)) RL.nil (Ao0 [-1,-1,1] 3 n9 upT O O (by decide) (by decide)) (by decide) Bg2 loV3) λv10 w10 e10 h10=>?_;subst h10;refine .go O (.eqlT O O O O (.go O (.bsl _ O O BO5 λw11 b11 n11=>.go O (.call _ O AO9 O (AN2 (Ao0 [0,0,6] 3 n11 upT O O (by decide) (by decide)) (by decide)) λv12 w12 e12 h12=>.go O ?_))));have e412:=(((e48.trans e9).trans e10).trans n11.1).trans e12;refine .call _ O AJ9 O (BS8 (ER.ext eV hy7 e412) h12 O) λv13 w13 e13 h13=>?_;subst h13;refine .go O (.eqlT O O O O (.go O (.eqlT O O O O (.goE O ?_))));exact .p1 _ results30 O ⟨((x3.trans e4).trans e412).trans e13,rfl⟩
theorem AY3(hn:eN.R (λ_=>True) w vn n)(ho:eI.R (λ_=>True) w vo o)(hx:eV.R (λ_=>True) w vx x):CR prog 8 #[vn,vo,iW line,vx] w (Is (.bool true)):=by
 obtain⟨s,rfl,hs,hb⟩:=hn;have hn:eN.R (λ_=>True) w (.agg #[iW n.b,s]) n:=⟨s,rfl,hs,hb⟩;obtain⟨ax,cx,hvx,_,hxl⟩:=RL.len hx;refine enter func8 O ntmps8 O (.beg (.go O (.box O O λw1 b3 n1=>?_)));obtain⟨e1,k3,hb3,hs1⟩:=n1;refine .go O (.ldA ty_N O O k3 O (.go O (.bsl _ O O (by rw[hvx];exact AU7) λw2 b17 n2=>?_)));have hl:eM.R (λ_=>True) w2 (.slice (some ⟨b17,0,none⟩) 1 1) [x]:=BO1 [vx] [x] n2 upT (by rw[hvx]) O (by decide) (Els.snoc Els.nil (ER.ext eV hx e1));have x2:=e1.trans n2.1;refine .call _ O BC8 O (BA0 (hn.ext x2) (ho.ext x2) hl) λv3 w3 e3 h3=>?_;obtain⟨bl,rfl,hlong⟩:=h3;have x3:=x2.trans e3
 cases bl with
 | true =>
  refine .go O (.call _ O AS4 O AR8 λv4 w4 e4 h4=>?_);subst h4;exact .goE O (.p1 _ results8 O ⟨x3.trans e4,rfl⟩)
 | false =>
 have k3:=k3.ext (n2.1.trans e3);have hk:vk 4 x:=(hlong O x (by simp)).vk hx;have hx20:x.length<=20:=(hlong O x (by simp)).1;have hqk:∀ q∈x,qok 1000000000 q:=λq hq=>((hlong O x (by simp)).2 q hq).mono (by decide);refine .go O (.ldA ty_N O O k3 O (.go O (.call _ O At4 O (Ar5 (L:=4) upT (hn.ext x3) (ho.ext x3) (ER.ext eV hx x3) hk (by decide) (by decide)) λv6 w6 e6 h6=>?_)));obtain⟨vf,ve,rfl,hfl,rfl⟩:=h6;have x6:=x3.trans e6;have k3:=k3.ext e6;refine .go O (.call _ O BK5 O (BG6 upT (ER.ext eV hx x6) hqk (by omega)) λvi w7 e7 hi=>?_);have x7:=x6.trans e7;have k3:=k3.ext e7;have hfl:=ER.ext eV hfl e7;have hn7:=hn.ext x7;have ho7:=ho.ext x7;have hx7:=ER.ext eV hx x7;refine .goC O (.lp (α:=Nat) [1,2,3,4,9,10,11] O (λr=>[(12,iW (r:Nat))]) (λr W=>Ext w7 W/\r<=2) (λr=>2-r) 0 (lc1 O) ⟨Ext.refl _,aC _⟩ ?_);rintro r W ⟨hW,hr⟩;refine .go O ?_;rcases aB r 2 with hlt | hge;rotate_left
 ·refine .lssF O O O (by omega) (.go O (.call _ O AS4 O AR8 λv8 w8 e8 h8=>?_));subst h8;exact .goE O (.p1 _ results8 O ⟨(x7.trans hW).trans e8,rfl⟩)
 refine .lssT O O O (by omega) (.go O (.ldA ty_N O O (k3.ext hW) O (.go O (.call _ O Aa2 O (AY2 (S:=λ_=>True) (T0:=λk=>w7.heap.size<=k) (L:=4) upT (λk hk=>by have:=hW.size;omega) (hn7.ext hW) (ho7.ext hW) (ER.ext eV hi hW) hk (by decide) (by decide)) λv10 W3 d3 h10=>?_))));obtain⟨vf2,ve,rfl,hf2,rfl⟩:=h10;have hW3:=hW.trans d3;refine .go O (.neqF O O O O (.go O (.call _ O AJ9 O (BS8 (eV.mono (λ_ _ _=>trivial) hf2) (ER.ext eV hfl hW3) O) λv12 W5 d5 h12=>?_)));subst h12;have hW5:=hW3.trans d5;refine .go O (.call _ O AJ9 O (BS8 (ER.ext eV hi hW5) (ER.ext eV hx7 hW5) O) λv13 W6 d6 h13=>?_);subst h13;have d56:=d5.trans d6;have hW6:=hW3.trans d56;have hf6:=ER.ext eV hf2 d56;obtain⟨_,_,hvf,_,_⟩:=RL.len hf6;refine .go O (.bsl _ O O (by rw[hvf];exact AU7) λW9 b9 n9=>?_);have hbc:eM.R (λk=>w7.heap.size<=k) W9 (.slice (some ⟨b9,0,none⟩) 1 1) [_]:=BO1 [vf2] [_] n9 (λk hk=>by have:=hW6.size;omega) (by rw[hvf]) O (by decide) (Els.snoc Els.nil hf6);have hW9:=hW6.trans n9.1;refine .go O (.callG _ O Au3 O (As6 (eM.shape hbc)) λv16 W10 hC10=>?_);have hW10:Ext w7 W10:=Chg.below hC10 hW9 hW9.size λk hk=>hk;exact .go O (.inc O O O (by omega) (.goN O (.mk (r+1) O (lc1 O) ⟨⟨hW10,hlt⟩,by show 2-(r+1)<2-r;omega⟩)))
section
variable {H:Type} {enc:TypeId×Value->H} {P:Program} {W:World}
def sh4 (P:Program) (t:TypeId):Option (List (TypeId×Nat)) :=
 match P.underlying t with
 | some (.struct fs)=>if fs.size=4 then some (fs.toList.map λf=>(f.type,f.offset)) else none
 | _=>none
theorem Be6 {t ti tj:TypeId} (hs:sh4 P t=some [(ti,0),(ti,1),(tj,2),(tj,3)]) (hi:P.underlying ti=some (.int .i64)) (hj:P.underlying tj=some (.int .i64)) (hci:P.cellsOf ti=1) (hcj:P.cellsOf tj=1) (hct:P.cellsOf t=4):Opn enc P W eL t (λ_ _=>True):=by
 intro fuel cs x hx hfz;unfold sh4 at hs;split at hs
 ·rename_i fs hu;split at hs
  ·rename_i hsz;simp only[Option.some.injEq] at hs;obtain⟨l⟩:=fs;match l,hsz with
   | [f0,f1,f2,f3],_ =>
    simp only[dR,List.map_nil,List.cons.injEq,Prod.mk.injEq,and_true] at hs;obtain⟨⟨h0,o0⟩,⟨h1,o1⟩,⟨h2,o2⟩,h3,o3⟩:=hs;obtain⟨y0,y1,y2,y3,n,rfl,hl,g0,g1,g2,g3⟩:=Joins.trod_struct4 hu hx;rw[h0,o0,hci] at g0;rw[h1,o1,hci] at g1;rw[h2,o2,hcj] at g2;rw[h3,o3,hcj] at g3;rw[hct] at hl;obtain⟨c0,c1,c2,c3,rfl⟩:∃ c0 c1 c2 c3,cs=[c0,c1,c2,c3]:=by
     match cs,hl with
     | [c0,c1,c2,c3],_=>exact⟨c0,c1,c2,c3,rfl⟩
    obtain⟨n0,e0,_,w0⟩:=DataW.trod_int hi g0;obtain⟨n1,e1,_,w1⟩:=DataW.trod_int hi g1;obtain⟨n2,e2,_,w2⟩:=DataW.trod_int hj g2;obtain⟨n3,e3,_,w3⟩:=DataW.trod_int hj g3;simp at e0 e1 e2 e3;subst e0 e1 e2 e3;exact⟨.agg #[iW n0,iW n1,iW n2,iW n3],⟨n0,n1,n2,n3⟩,rfl,⟨rfl,Ad3 w0,Ad3 w1,Ad3 w2,Ad3 w3⟩,trivial⟩
  ·cases hs
 ·cases hs
theorem opn_N {t ti tl te:TypeId} (hs:sh2 P t=some ((ti,0),(tl,1))) (hi:P.underlying ti=some (.int .i64)) (hci:P.cellsOf ti=1) (hcl:P.cellsOf tl=1) (hct:P.cellsOf t=2) (hl:P.underlying tl=some (.slice te)) (hce:P.cellsOf te=4) (he:Opn enc P W eL te (λ_ _=>True)):Opn enc P W eN t (λ_ _=>True):=by
 intro fuel cs x hx hfz;obtain⟨y0,y1,n,rfl,hlen,h0,h1⟩:=Al2 hs hx;rw[hci] at h0;rw[hcl] at h1;rw[hct] at hlen;obtain⟨c0,c1,rfl⟩:∃ c0 c1,cs=[c0,c1]:=by
  match cs,hlen with
  | [c0,c1],_=>exact⟨c0,c1,rfl⟩
 obtain⟨b,hb',_,hw⟩:=DataW.trod_int hi h0;simp at hb';subst hb';obtain⟨e,l,he',hR,_⟩:=(Opn.slice (Z:=λ_ _=>True) (E:=eL) (by decide) hl hce he) n _ _ h1 hfz.right;obtain⟨a,c,rfl,_⟩:=RL.len hR;simp[Value.cells] at he';subst he';exact⟨.agg #[iW b,.slice a l.length c],⟨b,l⟩,rfl,⟨_,rfl,hR,Ad3 hw⟩,trivial⟩
end
section
variable {H:Type} {enc:TypeId×Value->H} {W:World}
theorem opnN:Opn enc prog W eN 24 (λ_ _=>True):=opn_N (ti:=3) (tl:=22) (te:=53) (by kernel_rfl) AB4 (by kernel_rfl) (by kernel_rfl) (by kernel_rfl) G9 (by kernel_rfl) (Be6 (ti:=3) (tj:=2) (by kernel_rfl) AB4 Al0 (by kernel_rfl) (by kernel_rfl) (by kernel_rfl))
theorem opnH:Opn enc prog W eI 25 (ZL λ_ _=>True):=Opn.slice (by decide) un_I (by kernel_rfl) (opn_int AB4)
end
end Go.Proofs.YtpgkacdihhjknaaGreat
