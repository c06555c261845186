/-
  What the claim leans on.
-/
import Derived.Test.YtpgkacdihhjknaaGreatG8
import Derived.Lib.SmallJoins
set_option linter.unusedVariables false
set_option linter.unusedSimpArgs false
set_option linter.unnecessarySimpa false
namespace Go.Proofs.YtpgkacdihhjknaaGreat
open Go Go.RowKit Go.ChangeShapes Go.WideShapes Tryz
set_option maxRecDepth 8000
variable {S T0:Nat->Prop}{va vb vn vx u:Value}{a line:Int}{L c i:Nat}{x:List QV}{l:List Int}{P:Program}{t:TypeId}{p:Addr}{α:Type}{w':World}
theorem As4:Ent prog 178:=en func178
theorem Aq9{w:World}{a:List QV}{n:Nat}(up:Up S w)(ha:eV.R S w va a)(hka:vk L a)(hL1:1<=L)(hL:L<=1000000000)(hn:n<=65536):CR prog 178 #[va,iW (n:Nat)] w (λv W=>B4 eQ 39 w.heap.size S W v (tab n (rv a))):=by
 refine enter func178 O ntmps178 O (.beg (.goC O (.lp (α:=Nat×Value) [0,1] O (λy=>[(5,y.2),(6,iW (y.1:Nat))]) (λy W=>Ext w W/\y.1<=n/\B4 eQ 39 w.heap.size S W y.2 (tab y.1 (rv a))) (λy=>n-y.1) (0,.slice none 0 0) (lc2 O O) ⟨Ext.refl _,aC _,B4.nil⟩ ?_)));rintro⟨i,u⟩ W ⟨hW,hi,hU⟩;replace hW:Ext w W:=hW;replace hi:i<=n:=hi;replace hU:B4 eQ 39 w.heap.size S W u (tab i (rv a)):=hU;have zW:=hW.size;refine .go O ?_;rcases aB i n with hlt | hge;rotate_left
 ·have:i=n:=by omega
  subst this;exact .lssF O O O (by omega) (.goE O (.p1 _ results178 O ⟨hW,hU⟩))
 obtain⟨es,ho1,_⟩:=id hU;have hub:∀ b,u.ownBlock=some b->w.heap.size<=b/\b<W.heap.size:=λb h=>ho1.lt b h;have haT:eV.R (λk=>S k/\u.ownBlock≠some k) W va a:=ER.ext eV (eV.mono (λk _ h=>⟨h.1,λe=>by have:=(hub k e).1;have:=h.2;omega⟩) (ER.lt eV ha)) hW;have hat:=O6 (i:=((i:Nat):Int)) haT;rw[X9] at hat;have hq:qok L (a.getD i q0):=(hka.get hL1 i).1;refine .lssT O O O (by omega) (.go O (.lssT O O O (by omega) (.go O ?_)));refine .call _ O P2 O hat λv1 W1 e1 h1=>?_;have hW1:=hW.trans e1;have z1:=e1.size;refine .call _ O AP0 O (AO0 (λk hk=>⟨up k (by omega),λh=>by have:=(hub k h).2;omega⟩) h1 hq hL1 hL) λv2 W2 e2 h2=>?_;have hW2:=e1.trans e2;have hq':=h2;obtain⟨s1,t1,rfl,_,_⟩:=hq';refine .bsl _ O O AD7 λW3 b3 n3=>?_;obtain⟨d3,k3,hb3,hs3⟩:=n3;have D3:=hW2.trans d3;have hW3:=hW.trans D3;refine .gv O O (L5 (E:=eQ) (base:=w.heap.size) (n:=qc (E3 (a.getD i q0))) (by decide) C9 J4 O O O (hU.ext D3) k3 (ER.ext eQ h2 d3) (by rw[A2];omega) (by decide) hW3.size) ?_;rintro v4 W4 ⟨hO4,g4⟩;have hW4:Ext w W4:=B4.below (hU.ext D3) g4 hW3 hW3.size;exact .go O (.inc O O O (by omega) (.goN O (.mk (i+1,v4) O (lc2 O O) ⟨⟨hW4,hlt,by show B4 _ _ _ _ W4 v4 (tab (i+1) (rv a));unfold tab;rw[aP,aM];exact hO4⟩,by show n-(i+1)<n-i;omega⟩)))
theorem BZ4:Ent prog 123:=en func123
theorem BU9{w:World}{a b:List QV}(up:Up S w)(ha:eV.R S w va a)(hb:eV.R S w vb b)(hka:vk L a)(hkb:vk L b)(hL:1<=L)(hL2:L<=100000000)(hla:a.length<=100000000)(hlb:b.length<=100000000) :
  CR prog 123 #[va,vb] w (eV.at S (tab (max b.length a.length) λi=>rv a i-rv b i)):=by
 refine enter func123 O ntmps123 O (.beg (.go O (.call _ O AA0 O (Z7 (n := -1) up (by decide) (by decide)) λv1 w1 e1 h1=>.go O ?_)));have hq1:qk L (qc ((-1:Int):Rat)):=AJ7 ((Rsz.int (L:=1) (-1) (by decide) (by decide)).mono hL);refine .call _ O AH3 O (AG9 (up.ext e1.size) h1 (ER.ext eV hb e1) (ER.ext eV ha e1) hq1 hkb hka hL hL2 hlb hla) λv2 w2 e2 h2=>.goE O (.plain [_] results123 ⟨rfl,trivial⟩ ⟨e1.trans e2,?_⟩);have:(tab (max b.length a.length) λi=>E3 (qc ((-1:Int):Rat))*rv b i+rv a i)=tab (max b.length a.length) λi=>rv a i-rv b i:=F5 λi _=>by rw[C3,show (((-1:Int)):Rat) = -1 from rfl];grind
 rw[this] at h2;exact h2
section
variable {S:Nat->Prop} {base g:Nat} {W W':World} {vs:List Value} {ls:List (List QV)}
theorem RwI.toFB {T:Nat->Prop} (h:RwI S base g W vs ls) (hne:∀ m∈ls,0<m.length) (hT:∀ k,base<=k->T k) (hS:∀ k,S k->T k):FB eV 26 T W g ls:=by
 obtain⟨es,hb,he⟩:=h.out;refine⟨es,hb,by rw[he.1,h.len],λi e m h1 h2=>?_⟩;have hi:i<vs.length:=by rw[<-he.1];exact (List.getElem?_eq_some_iff.1 h1).1
 have h3:=aE hi;generalize vs[i]=u at h3;have hu:u∈vs:=List.mem_iff_getElem?.2 ⟨i,h3⟩;have h4:=(he.2 i e u h1 h3).1;subst h4;have ho:=h.inn i _ m h3 h2;obtain⟨g',cap,rfl,c1,c2,c3,hf⟩:=ho.fp (hne m (List.mem_iff_getElem?.2 ⟨i,h2⟩));exact (hf.mono (S':=λk=>T k/\k≠g) λk _ hk=>⟨hS k hk.1,hk.2.1⟩).toR (hsz:=by decide) ⟨hT g' c3,λe=>h.ne_g hu (by rw[<-e];rfl)⟩ c1 (by omega)
end
theorem BM3(b c:Nat):Z0 (b:Nat) c=dl b c:=by
 unfold Z0 dl;by_cases h:b=c
 ·subst h;simp
 ·have:¬ ((c:Int)=(b:Int)):=by omega
  simp[h,this]
theorem BE0:Ent prog 119:=en func119
open Classical in
theorem Az0{w:World}{vo:Value}{n:NtV}{o:List Int}(up:Up S w)(hn:eN.R S w vn n)(ho:eI.R S w vo o)(hx:eV.R S w vx x)(hkx:vk L x)(hL1:1<=L)(hL:L<=9000) :
  CR prog 119 #[vn,vo,vx] w (Two (eV.at S (if anE n o x=0 then tab (A0 n o).B ((A0 n o).an (rv x)) else [])) (Is (iW (anE n o x)))):=by
 obtain⟨s,rfl,hs,hb⟩:=hn;have hn:eN.R S w (.agg #[iW n.b,s]) n:=⟨s,rfl,hs,hb⟩;refine enter func119 O ntmps119 O (.beg (.go O (.box O O λw1 b3 n1=>?_)));obtain⟨e1,k3,hb3,hs1⟩:=n1;refine .go O (.ldA G2 O O k3 O (.go O ?_));refine .call _ O Aq1 O (An9 (up.ext e1.size) (hn.ext e1) (ho.ext e1) (ER.ext eV hx e1) hkx hL1 (by omega)) λv2 w2 e2 h2=>?_;obtain⟨vb,ve,rfl,rfl,rfl⟩:=h2;have x2:=e1.trans e2;refine .go O ?_;by_cases hE:sfE n o x.length=0;rotate_left
 ·have hb:anE n o x=sfE n o x.length:=by unfold anE;rw[if_pos hE]
  refine .neqT O O O hE (.goE O ?_);refine .plain [_,_] results119 ⟨rfl,rfl,trivial⟩ ⟨x2,_,_,rfl,?_,by rw[hb]⟩;rw[if_neg (by rw[hb];exact hE)];exact RL.nil
 by_cases hB:(A0 n o).bal (rv x);rotate_left
 ·have hb:anE n o x=10:=by unfold anE;rw[if_neg (by simpa using hE),if_neg hB]
  rw[decide_eq_false λh=>hB h.2];refine .neqF O O O hE (.goE O ?_);refine .plain [_,_] results119 ⟨rfl,rfl,trivial⟩ ⟨x2,_,_,rfl,?_,by rw[hb]⟩;rw[if_neg (by rw[hb];decide)];exact RL.nil
 have hno:anE n o x=0:=by unfold anE;rw[if_neg (by simpa using hE),if_pos hB]
 rw[decide_eq_true ⟨hE,hB⟩,if_pos hno];obtain⟨hO,hxb⟩:=BM8 hE;have ok:=K6 hO;have hB6:=ok.b6;have hB1:=ok.b1;have hnb:=ok.b;refine .neqF O O O hE (.go O (.ldA G2 O O (k3.ext e2) O (.go O ?_)));refine .call _ O BH9 O (BG0 (up.ext x2.size) (hn.ext x2) (ho.ext x2)) λv4 w4 e4 h4=>?_;obtain⟨vm,ve,rfl,hm,rfl⟩:=h4;rw[if_pos hO] at hm;obtain⟨gb,vs,base,rfl,hz0,hgb,hR⟩:=hm;have x4:=x2.trans e4;have hs2:=x2.size;have hs4:=e4.size;have hF:FB eV 26 S w4 gb (C6 (A0 n o).B (A0 n o).B (A0 n o).Lm):=by rw[<-Nw.tab_Lk ok.ok];refine hR.toFB (λm hm=>?_) (λk hk=>up k (by omega)) λk hk=>hk;unfold C6 at hm;obtain⟨i,_,rfl⟩:=List.mem_map.1 hm;rw[A2];exact hB1
 have hglt:=hF.lt;have hk3:=k3.lt;clear hR;have old:∀ {α:Type} (E:ER α) {v:Value} {y:α},E.R S w v y->E.R (λk=>S k/\k≠gb) w4 v y:=λE v y h=>E.mono (λk _ h=>⟨h.1,by have:=h.2;omega⟩) (ER.ext E (ER.lt E h) x4);have k3:=k3.ext (e2.trans e4);refine .go O (.ldA G2 O O k3 O (.go O ?_));refine .call _ O Am6 O (Aj9 (S:=λk=>S k/\k≠gb) (λk hk=>⟨up k (by omega),by omega⟩) (old eN hn) (old eI ho)) λv5 w5 e5 h5=>?_;obtain⟨vr,ve,rfl,hr,he⟩:=h5;replace he:ve=.int .i64 (C8 n o):=he;subst he;have hlb:Al0 n o=(A0 n o).B:=by unfold Al0;rw[if_pos hO]
 replace hr:eI.R (λk=>S k/\k≠gb) w5 vr (A7 ((A0 n o).refsTo (Al0 n o))):=hr;rw[hlb] at hr;replace hr:eI.R (λk=>S k/\k≠gb) w5 vr (A7 (A0 n o).refs):=hr;have hs5:=e5.size;have k3:=k3.ext e5;refine .go O (.fa F9 O O (.go O (.ld A5 O O k3 O ?_)));rw[hnb];refine .call _ O As4 O (Aq9 (S:=λk=>S k/\k≠gb) (λk hk=>⟨up k (by omega),by omega⟩) (ER.ext eV (old eV hx) e5) hkx hL1 (by omega) (by omega)) λv6 w6 e6 h6=>?_;have hs6:=e6.size;have hV6:eV.R (λk=>(S k/\k≠gb)/\k<w6.heap.size) w6 v6 (tab (A0 n o).B (rv x)):=ER.lt eV (h6.toR (hsz:=by decide) (λk hk=>⟨up k (by omega),by omega⟩) λk hk=>hk);refine .gv O O (BP4 (E:=eQ) (hsz:=by decide) (base:=w6.heap.size) (X:=λk=>(S k/\k≠gb)/\k<w6.heap.size) C9 J4 O O O B4.nil hV6 (λk h=>h.2) (by simp) (by rw[A2];omega) (by decide) (aA _)) ?_;rintro v7 w7 ⟨hO7,b7⟩;have e7:Ext w6 w7:=b7;rw[gK] at hO7;obtain⟨gr,cap,rfl,hc1,hc2,hgr,fr⟩:=hO7.fp (by rw[A2];omega);rw[A2] at hc1;rw[A2];have hs7:=e7.size;have hgrl:=fr.lt;have e57:=(e5.trans e6).trans e7;have x7:=x4.trans e57;have k3:=k3.ext (e6.trans e7);have hF:FB eV 26 (λk=>S k/\k≠gr) w7 gb (C6 (A0 n o).B (A0 n o).B (A0 n o).Lm):=(hF.mono (S':=λk=>S k/\k≠gr) λk hk h=>⟨h,by omega⟩).ext e57;have fr:FP eQ 39 (λk=>S k/\k≠gb) w7 gr (tab (A0 n o).B (rv x)):=fr.mono λk _ h=>h.1;have hr:eI.R (λk=>(S k/\k≠gb)/\k≠gr) w7 vr (A7 (A0 n o).refs):=ER.ext eI (eI.mono (λk _ h=>⟨h.1,by have:=h.2;omega⟩) (ER.lt eI hr)) (e6.trans e7);have hrW:∀ {W:World},Chg (λk=>k=gb\/k=gr) w7 W->eI.R (λk=>(S k/\k≠gb)/\k≠gr) W vr (A7 (A0 n o).refs):=λhC=>eI.keep (hC.kp λk hk h=>h.elim (λe=>hk.1.2 e) λe=>hk.2 e) hr;have hkW:∀ {W:World},Chg (λk=>k=gb\/k=gr) w7 W->Blk W b3 24 #[iW n.b,s]:=λhC=>hC.blk k3 λh=>by have:=hb3;have:=e2.size;rcases h with h | h<;>omega
 rw[hnb] at hkW;have hrl:(A0 n o).refs.length<=(A0 n o).B:=(A0 n o).cnt_le (A0 n o).B;generalize hG:(λi=>λb c=>if b∈(A0 n o).refs.take i then dl b c else (A0 n o).Lm b c:Nat->RM)=G;generalize hY:(λi=>λb=>if b∈(A0 n o).refs.take i then 0 else rv x b:Nat->Nat->Rat)=Y;refine .goC O ?_;refine .lp (α:=Nat) [3,10,12,14] O (λi=>[(15,iW (i:Nat))]) (λi W=>i<=(A0 n o).refs.length/\Chg (λk=>k=gb\/k=gr) w7 W/\FB eV 26 (λk=>S k/\k≠gr) W gb (C6 (A0 n o).B (A0 n o).B (G i))/\FP eQ 39 (λk=>S k/\k≠gb) W gr (tab (A0 n o).B (Y i))) (λi=>(A0 n o).refs.length-i) 0 (lc1 O) ⟨aC _,Chg.refl _,by rw[<-hG];simpa using hF,by rw[<-hY];simpa using fr⟩ ?_;clear hF fr;rintro i W ⟨hi,hC,hF,fr⟩;have hCs:=hC.size;refine .go O (.lenR C5 O O (hrW hC) (.go O ?_));rw[show (A7 (A0 n o).refs).length=(A0 n o).refs.length by simp];rcases aB i (A0 n o).refs.length with hlt | hge;rotate_left
 ·have:i=(A0 n o).refs.length:=by omega
  subst this;have hmem:∀ b,b<(A0 n o).B->(b∈(A0 n o).refs.take (A0 n o).refs.length<->(A0 n o).root b=b):=λb hb=>by rw[aK (aA _),Nw.mem_refs];exact⟨λh=>h.2,λh=>⟨hb,h⟩⟩
  have hA:C6 (A0 n o).B (A0 n o).B (G (A0 n o).refs.length)=(A0 n o).gA:=E7 λb c hb _=>by
   rw[<-hG];unfold Nw.gm;dsimp only;by_cases h:(A0 n o).root b=b
   ·rw[if_pos h,if_pos ((hmem b hb).2 h)]
   ·rw[if_neg h,if_neg λh'=>h ((hmem b hb).1 h')]
  rw[hA] at hF;have hRm:eM.R S W (slB (A0 n o).B gb) (A0 n o).gA:=by have:=(hF.mono (S':=S) λk _ h=>h.1).toR (hsz:=by decide) (c:=(A0 n o).B) (up gb (by omega)) (by rw[L6];exact aA _) (by rw[L6];omega);rw[L6] at this;exact this
  have hRr:eV.R S W (.slice (some ⟨gr,0,none⟩) (A0 n o).B cap) (tab (A0 n o).B (Y (A0 n o).refs.length)):=by have:=(fr.mono (S':=S) λk _ h=>h.1).toR (hsz:=by decide) (c:=cap) (up gr (by omega)) (by rw[A2];exact hc1) (by rw[A2];omega);rw[A2] at this;exact this
  have hxW:Ext w W:=hC.below x7 (by omega) (λk hk=>by omega);obtain⟨hsv,hsol⟩:=CA7 ok (r:=tab (A0 n o).B (Y (A0 n o).refs.length)) (x:=x) (A2 ..) λb hb=>by
   rw[L4,if_pos hb,<-hY];unfold Nw.inj0;dsimp only;by_cases h:(A0 n o).root b=b
   ·rw[if_pos h,if_pos ((hmem b hb).2 h)]
   ·rw[if_neg h,if_neg λh'=>h ((hmem b hb).1 h')]
  have hkY:vk (max 21 L) (tab (A0 n o).B (Y (A0 n o).refs.length)):=T7 λb _=>by
   rw[<-hY];dsimp only;split
   ·exact Rsz.zero (by omega)
   ·exact (hkx.rsz hL1 b).mono (by omega)
  refine .lssF O O O (by omega) (.go O ?_);refine .call _ O BI2 O (BG3 (L:=max 21 L) (n:=6) (up.ext hxW.size) hRm hRr ((BX1 ok).mono (by omega)) hkY (by omega) (by rw[L6];omega) (by rw[A2];omega) (by rw[AM4 hB1];omega) (by rw[L6,A2];omega) (by rw[bd6];omega)) λv7 w7' e7' h7=>?_;obtain⟨va,vz,ve,rfl,ha,_,rfl⟩:=h7;rw[if_pos hsv] at ha;rw[if_pos hsv];have k3W:=(hkW hC).ext e7';have hka:vk 600000 (AN9 (A0 n o).gA (tab (A0 n o).B (Y (A0 n o).refs.length))):=by
   have h1:AN9 (A0 n o).gA (tab (A0 n o).B (Y (A0 n o).refs.length))=tab (A0 n o).B (rv (AN9 (A0 n o).gA (tab (A0 n o).B (Y (A0 n o).refs.length)))):=by unfold AN9;rw[AM4 hB1];exact F5 λk hk=>by rw[L4,if_pos hk]
   rw[h1,hsol];exact T7 λc _=>(BQ8 ok hL1 (λb=>hkx.rsz hL1 b) c).mono (by omega)
  refine .go O (.fa F9 O O (.go O (.ld A5 O O k3W O ?_)));refine .call _ O As4 O (Aq9 (n:=(A0 n o).B) (up.ext (hxW.trans e7').size) ha hka (by decide) (by decide) (by omega)) λv8 w8 e8 h8=>.goE O ?_;have h8:=h8.toR (S:=S) (hsz:=by decide) (λk hk=>up k (by have:=(hxW.trans e7').size;omega)) λk hk=>hk;rw[hsol] at h8;exact .plain [_,_] results119 ⟨rfl,rfl,trivial⟩ ⟨(hxW.trans e7').trans e8,_,_,rfl,h8,by rw[hno]⟩
 have hgr':(A7 (A0 n o).refs)[i]?=some (((A0 n o).refs.getD i 0:Nat):Int):=by rw[aI,B0 (z:=0) hlt];rfl
 have hrB:(A0 n o).refs.getD i 0<(A0 n o).B:=(Nw.mem_refs.1 (H6 hlt)).1;have htk:(A0 n o).refs.take (i+1)=(A0 n o).refs.take i++[(A0 n o).refs.getD i 0]:=by rw[cA,B0 (z:=0) hlt];rfl
 generalize hb0:(A0 n o).refs.getD i 0=b at hrB htk hgr';have hrC:=hrW hC;have kC:=hkW hC;refine .lssT O O O (by omega) (.goC O ?_);refine .par follows 12 [.inl _,.inl _,.inl _,.inr (Ptr (B8 .i64) (λk=>(S k/\k≠gb)/\k≠gr) ((b:Nat):Int)),.inl (iW (b:Nat)),.inl _,.inl (iW ((A0 n o).B:Nat)),.inl _,.inl _,.inr (Ptr (B8 .i64) (λk=>(S k/\k≠gb)/\k≠gr) ((b:Nat):Int)),.inl (iW (b:Nat)),.inr (eV.at (λk=>(S k/\k≠gr)/\k≠gb) (tab (A0 n o).B (Z0 (b:Nat))))] [[],[],[],[(55,1),(56,2)],[(57,3)],[],[(59,5)],[],[],[(61,7),(62,8)],[(63,9)],[(60,6),(64,10)]] (by kernel_rfl) ⟨mvo O,mvo O,mvo O,λw e=>C4 (i:=i) C5 B5 O (ER.ext eI hrC e) O hgr',λw e x3 hx3=>F7 B5 O hx3,fao F9 O,λw e=>(E2 A5 O (kC.ext e) O).ob,mvo O,mvo O,λw e=>C4 (i:=i) C5 B5 O (ER.ext eI hrC e) O hgr',λw e x9 hx9=>F7 B5 O hx9,λw e=>(A4 _ Y5 O (Av7 (S:=(λk=>(S k/\k≠gr)/\k≠gb)) (λk hk=>⟨⟨up k (by have:=e.size;omega),by have:=e.size;omega⟩,by have:=e.size;omega⟩) (by omega))).oa,trivial⟩ ?_;intro W1 e7' y3 hy3 y9 hy9 y11 hy11;have hs7':=e7'.size;refine .ixB (i:=b) E4 C2 O O O hrB (.storeF (E:=eV) (i:=b) (by decide) C2 O O (hF.ext e7') O (by rw[A8];exact hrB) (aD _) hy11 λW2 f2 u2=>?_);have hs2':=u2.size;have fr:=(fr.ext e7').upd u2 (by omega) λh=>h.2 rfl;have hC2:Chg (λk=>k=gb\/k=gr) w7 W2:=(hC.trans (Chg.ext e7')).trans (Chg.upd u2 (.inl O));refine .go O (.ixN (i:=i) C5 B5 O O (hrW hC2) O hgr' λq hq=>.ldE (E:=B8 .i64) B5 O O hq λe he=>?_);obtain⟨rfl,_⟩:=he;refine .bld _ O O AC4 (.ixB (i:=b) C9 A3 O O O hrB (.storeP (E:=eQ) (i:=b) (by decide) A3 O O fr O (by rw[A2];exact hrB) (aD _) (AF1 (S:=λk=>(S k/\k≠gb)/\k≠gr)) λW3 f3 u3=>?_));have f2:=f2.upd u3 (by omega) λh=>h.2 rfl;rw[R5 hrB] at f2;rw[<-Q7,AB1] at f3;have hm:∀ b',b'∈(A0 n o).refs.take (i+1)<->b'∈(A0 n o).refs.take i\/b'=b:=λb'=>by rw[htk,eJ,gQ]
 have hs1:C6 (A0 n o).B (A0 n o).B (λj k=>if j=b then Z0 (b:Nat) k else G i j k)=C6 (A0 n o).B (A0 n o).B (G (i+1)):=E7 λj c _ _=>by
  rw[<-hG];dsimp only;by_cases e:j=b
  ·rw[if_pos e,if_pos ((hm j).2 (.inr e)),e,BM3]
  ·rw[if_neg e];by_cases h:j∈(A0 n o).refs.take i
   ·rw[if_pos h,if_pos ((hm j).2 (.inl h))]
   ·rw[if_neg h,if_neg λh'=>((hm j).1 h').elim h e]
 have hs2:(tab (A0 n o).B λj=>if j=b then 0 else Y i j)=tab (A0 n o).B (Y (i+1)):=F5 λj _=>by
  rw[<-hY];dsimp only;by_cases e:j=b
  ·rw[if_pos e,if_pos ((hm j).2 (.inr e))]
  ·rw[if_neg e];by_cases h:j∈(A0 n o).refs.take i
   ·rw[if_pos h,if_pos ((hm j).2 (.inl h))]
   ·rw[if_neg h,if_neg λh'=>((hm j).1 h').elim h e]
 rw[hs1] at f2;rw[hs2] at f3;exact .go O (.inc O O O (by omega) (.goN O (.mk (i+1) O (lc1 O) ⟨⟨hlt,hC2.trans (Chg.upd u3 (.inr O)),f2,f3⟩,by show (A0 n o).refs.length-(i+1)<(A0 n o).refs.length-i;omega⟩)))
theorem Ae3:Ent prog 71:=en func71
open Classical in
theorem Ad0{w:World}{vo:Value}{n:NtV}{o:List Int}(up:Up S w)(hn:eN.R S w vn n)(ho:eI.R S w vo o)(hx:eV.R S w vx x)(hkx:vk L x)(hL1:1<=L)(hL:L<=9000) :
  CR prog 71 #[vn,vo,vx] w (Two (eV.at S (if anE n o x=0 then tab n.ls.length ((A0 n o).fl ((A0 n o).an (rv x))) else [])) (Is (iW (anE n o x)))):=by
 obtain⟨s,rfl,hs,hb⟩:=hn;have hn:eN.R S w (.agg #[iW n.b,s]) n:=⟨s,rfl,hs,hb⟩;refine enter func71 O ntmps71 O (.beg (.go O (.box O O λw1 b3 n1=>?_)));obtain⟨e1,k3,hb3,hs1⟩:=n1;refine .go O (.ldA G2 O O k3 O (.go O (.call _ O BE0 O (Az0 (up.ext e1.size) (hn.ext e1) (ho.ext e1) (ER.ext eV hx e1) hkx hL1 hL) λv2 w2 e2 h2=>?_)));obtain⟨va,ve,rfl,ha,he⟩:=h2;replace he:ve=.int .i64 (anE n o x):=he;subst he;have x2:=e1.trans e2;refine .go O ?_;by_cases hE:anE n o x=0;rotate_left
 ·refine .neqT O O O hE (.goE O (.plain [_,_] results71 ⟨rfl,rfl,trivial⟩ ⟨x2,_,_,rfl,?_,rfl⟩));rw[if_neg hE];exact RL.nil
 have hO:=(BM8 (Bf3 hE).1).1;have ok:=K6 hO;have hnb:=ok.b;rw[if_pos hE] at ha;replace ha:eV.R S w2 va (tab (A0 n o).B ((A0 n o).an (rv x))):=ha;have hka:vk 600000 (tab (A0 n o).B ((A0 n o).an (rv x))):=T7 λc _=>(BQ8 ok hL1 (λb=>hkx.rsz hL1 b) c).mono (by omega);refine .neqF O O O hE (.go O (.ldA G2 O O (k3.ext e2) O (.go O ?_)));have hc:=Ay9 (L:=600000) (up.ext x2.size) (hn.ext x2) (ho.ext x2) ha hka (by decide) (by decide);have hsf:sfE n o (tab (A0 n o).B ((A0 n o).an (rv x))).length=0:=by unfold sfE;rw[A2,if_neg (by simpa using hO),if_pos (by omega)]
 rw[hsf,if_pos rfl] at hc;refine .call _ O BD9 O hc λv4 w4 e4 h4=>?_;obtain⟨vf,ve,rfl,hf,rfl⟩:=h4;refine .goE O (.plain [_,_] results71 ⟨rfl,rfl,trivial⟩ ⟨x2.trans e4,_,_,rfl,?_,by rw[hE]⟩);rw[if_pos hE];have:tab n.ls.length ((A0 n o).fl (rv (tab (A0 n o).B ((A0 n o).an (rv x)))))=tab n.ls.length ((A0 n o).fl ((A0 n o).an (rv x))):=F5 λk hk=>by unfold Nw.fl;rw[L4,if_pos (ok.f k hk),L4,if_pos (ok.t k hk)]
 rw[this] at hf;exact hf
section
variable {n:NtV} {o:List Int} {a b:Nat}
def trX (B a b:Nat):List QV:=tab (max (tab B (Z0 (b:Nat))).length (tab B (Z0 (a:Nat))).length) λi=>rv (tab B (Z0 (a:Nat))) i-rv (tab B (Z0 (b:Nat))) i
theorem Bb4 {B c:Nat} (hc:c<B):rv (trX B a b) c=dl a c-dl b c:=by unfold trX;rw[A2,A2,fV,L4,if_pos hc,L4,if_pos hc,L4,if_pos hc,BM3,BM3]
theorem trX_len (B:Nat):(trX B a b).length=B:=by unfold trX;rw[A2,A2,A2,fV]
theorem trX_vk (B:Nat):vk 3 (trX B a b):=T7 λi _=>by
 have:=((Ay2 B a).rsz (aA _) i).add ((Ay2 B b).rsz (aA _) i).neg
 rw[<-cW] at this
 exact this
theorem trX_an (hO:C8 n o=0) (ha:a<(A0 n o).B) (hb:b<(A0 n o).B) (hr:(A0 n o).root a=(A0 n o).root b):anE n o (trX (A0 n o).B a b)=0:=by
 have ok:=K6 hO;refine CA8 hO (by rw[trX_len,ok.b];exact Int.le_refl _) λr hr' hrr=>?_;have h1:B9 (A0 n o).B (λc=>if (A0 n o).root c=r then rv (trX (A0 n o).B a b) c else 0)=B9 (A0 n o).B (λc=>if (A0 n o).root c=r then dl c a-dl c b else 0):=A9 λc hc=>by rw[Bb4 hc,Aw6 a c,Aw6 b c]
 rw[h1,sum_two ha hb (λc=>(A0 n o).root c=r),hr];split<;>grind
theorem trX_fl (hO:C8 n o=0) (ha:a<(A0 n o).B) (hb:b<(A0 n o).B):tab n.ls.length ((A0 n o).fl ((A0 n o).an (rv (trX (A0 n o).B a b))))=btV n o a b:=F5 λk hk=>by
 have ok:=K6 hO
 rw[Nw.fl_an ok.ok _ hk]
 have h1:B9 (A0 n o).B (λc=>(A0 n o).hf k c*rv (trX (A0 n o).B a b) c)=B9 (A0 n o).B (λc=>(A0 n o).hf k c*dl a c-(A0 n o).hf k c*dl b c):=A9 λc hc=>by rw[Bb4 hc];grind
 rw[h1,AF5,AJ4 _ ha,AJ4 _ hb]
end
theorem putS_lt{x k:Int}(h:x<k):AS6 (x::l) k=x::AS6 l k:=by unfold AS6;rw[bY (by simpa using h),cB (by simp;omega)];rfl
theorem putS_gt{x k:Int}(hp:(x::l).Pairwise (·<·))(h:k<x):AS6 (x::l) k=k::x::l:=by
 have h1:∀ y∈x::l,k<y:=λy hy=>by
  rcases List.mem_cons.1 hy with rfl | hy
  ·exact h
  ·have:=(List.pairwise_cons.1 hp).1 y hy;omega
 unfold AS6;rw[List.filter_eq_nil_iff.2 λy hy=>by have:=h1 y hy;simp;omega,List.filter_eq_self.2 λy hy=>by simpa using h1 y hy];rfl
theorem BR1:Ent prog 121:=en func121
theorem BN3{w:World}{a:List Int}{k:Int}(up:Up S w)(ha:eI.R S w va a)(hb:eI.R S w vb [k])(hp:a.Pairwise (·<·))(hk:k∉a)(hki:inI k)(hl:a.length<=1000):CR prog 121 #[va,vb] w (eI.at S (AS6 a k)):=by
 have hN:=(Az8 hp hk).len;have ha:=ER.lt eI ha;have hb:=ER.lt eI hb;generalize hT:(λj=>S j/\j<w.heap.size)=T at ha hb;have hTl:∀ j,T j->j<w.heap.size:=λj h=>by rw[<-hT] at h;exact h.2
 have kp:∀ {W W':World} {v:Value} {l:List Int},Ext w W->Ext w W'->eI.R T W v l->eI.R T W' v l:=λ{W W' v l} h h' hv=>eI.keep (λj c t f hj hh=>((h'.block j (hTl j hj)).trans (h.block j (hTl j hj)).symm).trans hh) hv;refine enter func121 O ntmps121 O (.beg (.goC O ?_));refine .lp (α:=(List Int×List Int×List Int)×(Value×Value×Value)) [] O (λy=>[(0,y.2.1),(1,y.2.2.1),(5,y.2.2.2)]) (λy W=>Ext w W/\eI.R T W y.2.1 y.1.1/\eI.R T W y.2.2.1 y.1.2.1/\B4 (B8 .i64) 3 w.heap.size (λ_=>False) W y.2.2.2 y.1.2.2/\(y.1.1.Pairwise (·<·)/\k∉y.1.1)/\((y.1.2.1=[k]/\y.1.2.2++AS6 y.1.1 k=AS6 a k)\/(y.1.2.1=[]/\y.1.2.2++y.1.1=AS6 a k))) (λy=>y.1.1.length+y.1.2.1.length) ((a,[k],[]),(va,vb,.slice none 0 0)) (lc3 O O O) ⟨Ext.refl _,ha,hb,B4.nil,⟨hp,hk⟩,.inl ⟨rfl,rfl⟩⟩ ?_;clear ha hb hp hk;rintro⟨⟨la,lb,acc⟩,v1,v2,vo⟩ W ⟨hW,ha,hb,hO,⟨hp,hk⟩,hc⟩;replace hW:Ext w W:=hW;replace ha:eI.R T W v1 la:=ha;replace hb:eI.R T W v2 lb:=hb;replace hO:B4 (B8 .i64) 3 w.heap.size (λ_=>False) W vo acc:=hO;replace hp:la.Pairwise (·<·):=hp;replace hk:k∉la:=hk;replace hc:(lb=[k]/\acc++AS6 la k=AS6 a k)\/(lb=[]/\acc++la=AS6 a k):=hc;have zW:=hW.size;have hlen:la.length<=1001/\lb.length<=1/\acc.length<=1001:=by
  rcases hc with ⟨rfl,h⟩ | ⟨rfl,h⟩
  ·have h1:=congrArg List.length h;have h2:=(Az8 hp hk).len;rw[aL] at h1;exact⟨by omega,aA _,by omega⟩
  ·have h1:=congrArg List.length h;rw[aL] at h1;exact⟨by omega,aC _,by omega⟩
 refine .go O (.lenR C5 O O ha (.go O (.lenR C5 O O hb (.go O (.add O O O ?_)))));rw[wI (by omega)];rcases hc with ⟨rfl,hc⟩ | ⟨rfl,hc⟩;rotate_left
 ·cases la with
  | nil =>
   refine .go O (.gtrF O O O (by simp) (.goE O (.plain [_] results121 ⟨rfl,trivial⟩ ⟨hW,?_⟩)));rw[<-hc,bB];exact hO.toR (λj hj=>up j hj) (λ_ h=>h.elim)
  | cons x r =>
   refine .go O (.gtrT O O O (by simp only[aS,cN];omega) (.goC O ?_));refine .par follows 14 [.inl _,.inl (iW (0:Nat)),.inl (.bool true),.inl (.bool true),.inl undef,.inl undef,.inl undef,.inl undef,.inl undef,.inl undef,.inl undef,.inl undef,.inl undef,.inl undef] [[],[(23,0)],[(24,1)],[(25,2)],[(26,3)],[(27,4),(26,3)],[(28,5),(26,3)],[(29,6),(26,3)],[(30,7)],[(31,8),(30,7)],[(32,9),(30,7)],[(30,7)],[(34,11),(30,7)],[(35,12),(30,7)]] (by kernel_rfl) ⟨mvo O,λw e=>(AA7 C5 O (ER.ext eI hb e)).ob,λw e=>((Ai5 O O).eq (by rfl)).ob,mvo O,λw e=>rfl,λw e=>rfl,λw e=>rfl,λw e=>rfl,λw e=>rfl,λw e=>rfl,λw e=>rfl,λw e=>rfl,λw e=>rfl,λw e=>rfl,trivial⟩ ?_;intro W3 d3;refine .go O (.ixN (i:=0) C5 B5 O O (ER.ext eI ha d3) O O λq hq=>.ldE (E:=B8 .i64) B5 O O hq λe he=>.go O ?_);obtain⟨rfl,hxi⟩:=he;refine .bsl _ O O S7 λW4 b4 n4=>?_;obtain⟨d4,k4,hb4,hs4⟩:=n4;have hO4:=(hO.ext d3).ext d4;have hW4:=(hW.trans d3).trans d4;refine .gv O O (V8 (E:=B8 .i64) (base:=w.heap.size) (n:=x) (e:=.int .i64 x) (by decide) C5 P6 O O O hO4 k4 ⟨rfl,hxi⟩ (by omega) (by decide) hW4.size) ?_;rintro v5 W5 ⟨hO5,g5,_⟩;have hW5:Ext w W5:=B4.below hO4 g5 hW4 hW4.size;have ha5:=kp hW hW5 ha;have hb5:=kp hW hW5 hb;refine .go O (.cut 1 (x::r).length C5 B5 O O ha5 ⟨_,rfl⟩ rfl (by simp) (aA _) λv6 h6=>?_);replace h6:eI.R T W5 v6 r:=by simpa using h6
   exact .goN O (.mk ((r,[],acc++[x]),(v6,v2,v5)) O (lc3 O O O) ⟨⟨hW5,h6,hb5,hO5,⟨(List.pairwise_cons.1 hp).2,λh=>hk (cG _ h)⟩,.inr ⟨rfl,by rw[<-hc,cS];rfl⟩⟩,by show r.length+0<(x::r).length+0;simp⟩)
 have hk0:inI k:=hki
 cases la with
 | nil =>
  refine .go O (.gtrT O O O (by simp) (.goC O ?_));refine .par follows 14 [.inl _,.inl (iW (1:Nat)),.inl (.bool false),.inl (.bool false),.inl _,.inl (iW (0:Nat)),.inl (.bool false),.inl (.bool false),.inl undef,.inl undef,.inl undef,.inl undef,.inl undef,.inl undef] [[],[(23,0)],[(24,1)],[(25,2)],[(26,3)],[(27,4),(26,3)],[(28,5),(26,3)],[(29,6),(26,3)],[(30,7)],[(31,8),(30,7)],[(32,9),(30,7)],[(30,7)],[(34,11),(30,7)],[(35,12),(30,7)]] (by kernel_rfl) ⟨mvo O,λw e=>(AA7 C5 O (ER.ext eI hb e)).ob,λw e=>((Ai5 O O).eq (by rfl)).ob,mvo O,mvo O,λw e=>(AA7 C5 O (ER.ext eI ha e)).ob,λw e=>((Ac8 O O).eq (by rfl)).ob,mvo O,λw e=>rfl,λw e=>rfl,λw e=>rfl,λw e=>rfl,λw e=>rfl,λw e=>rfl,trivial⟩ ?_;intro W3 d3;refine .goC O ?_;have ha:=ER.ext eI ha d3;have hb:=ER.ext eI hb d3;have hO:=hO.ext d3;have hW:=hW.trans d3;clear d3;refine .par follows 10 [.inl _,.inl (iW (0:Nat)),.inl (.bool true),.inl (.bool true),.inl undef,.inl undef,.inl undef,.inl undef,.inl undef,.inl undef] [[],[(49,0)],[(50,1)],[(51,2)],[(52,3)],[(53,4),(52,3)],[(54,5),(52,3)],[(52,3)],[(56,7),(52,3)],[(57,8),(52,3)]] (by kernel_rfl) ⟨mvo O,λw e=>(AA7 C5 O (ER.ext eI ha e)).ob,λw e=>((Ai5 O O).eq (by rfl)).ob,mvo O,λw e=>rfl,λw e=>rfl,λw e=>rfl,λw e=>rfl,λw e=>rfl,λw e=>rfl,trivial⟩ ?_;intro W3 d3;refine .go O (.ixN (i:=0) C5 B5 O O (ER.ext eI hb d3) O O λq hq=>.ldE (E:=B8 .i64) B5 O O hq λe he=>.go O ?_);obtain⟨rfl,hxi⟩:=he;refine .bsl _ O O S7 λW4 b4 n4=>?_;obtain⟨d4,k4,hb4,hs4⟩:=n4;have hO4:=(hO.ext d3).ext d4;have hW4:=(hW.trans d3).trans d4;refine .gv O O (V8 (E:=B8 .i64) (base:=w.heap.size) (n:=k) (e:=.int .i64 k) (by decide) C5 P6 O O O hO4 k4 ⟨rfl,hxi⟩ (by omega) (by decide) hW4.size) ?_;rintro v5 W5 ⟨hO5,g5,_⟩;have hW5:Ext w W5:=B4.below hO4 g5 hW4 hW4.size;have ha5:=kp hW hW5 ha;have hb5:=kp hW hW5 hb;refine .go O (.cut 1 ([k]).length C5 B5 O O hb5 ⟨_,rfl⟩ rfl (by simp) (aA _) λv6 h6=>?_);replace h6:eI.R T W5 v6 []:=by simpa using h6
  exact .goN O (.mk (([],[],acc++[k]),(v1,v6,v5)) O (lc3 O O O) ⟨⟨hW5,ha5,h6,hO5,⟨hp,hk⟩,.inr ⟨rfl,by rw[<-hc,bB];rfl⟩⟩,by show 0+0<0+1;decide⟩)
 | cons x r =>
  have hne:x≠k:=λe=>hk (by rw[e];exact cR ..);refine .go O (.gtrT O O O (by simp only[aS,cN];omega) (.goC O ?_));by_cases hx:x<k
  ·have hx0:=hx;refine .par follows 14 [.inl _,.inl (iW (1:Nat)),.inl (.bool false),.inl (.bool false),.inl _,.inl (iW (((x::r).length):Nat)),.inl (.bool true),.inl (.bool true),.inl _,.inr (Ptr (B8 .i64) T x),.inl (iW x),.inl _,.inr (Ptr (B8 .i64) T k),.inl (iW k)] [[],[(23,0)],[(24,1)],[(25,2)],[(26,3)],[(27,4),(26,3)],[(28,5),(26,3)],[(29,6),(26,3)],[(30,7)],[(31,8),(30,7)],[(32,9),(30,7)],[(30,7)],[(34,11),(30,7)],[(35,12),(30,7)]] (by kernel_rfl) ⟨mvo O,λw e=>(AA7 C5 O (ER.ext eI hb e)).ob,λw e=>((Ai5 O O).eq (by rfl)).ob,mvo O,mvo O,λw e=>(AA7 C5 O (ER.ext eI ha e)).ob,λw e=>((Ac8 O O).eq (by rw[decide_eq_true (by simp only[aS];omega)])).ob,mvo O,mvo O,λw e=>C4 (i:=0) C5 B5 O (ER.ext eI ha e) O rfl,λw e x9 hx9=>F7 A5 O hx9,mvo O,λw e=>C4 (i:=0) C5 B5 O (ER.ext eI hb e) O rfl,λw e x12 hx12=>F7 A5 O hx12,trivial⟩ ?_;intro W3 d3 y9 hy9 y12 hy12;refine .go O (.lssT O O O hx (.go O (.ixN (i:=0) C5 B5 O O (ER.ext eI ha d3) O O λq hq=>.ldE (E:=B8 .i64) B5 O O hq λe he=>.go O ?_)));obtain⟨rfl,hxi⟩:=he;refine .bsl _ O O S7 λW4 b4 n4=>?_;obtain⟨d4,k4,hb4,hs4⟩:=n4;have hO4:=(hO.ext d3).ext d4;have hW4:=(hW.trans d3).trans d4;refine .gv O O (V8 (E:=B8 .i64) (base:=w.heap.size) (n:=x) (e:=.int .i64 x) (by decide) C5 P6 O O O hO4 k4 ⟨rfl,hxi⟩ (by omega) (by decide) hW4.size) ?_;rintro v5 W5 ⟨hO5,g5,_⟩;have hW5:Ext w W5:=B4.below hO4 g5 hW4 hW4.size;have ha5:=kp hW hW5 ha;have hb5:=kp hW hW5 hb;refine .go O (.cut 1 (x::r).length C5 B5 O O ha5 ⟨_,rfl⟩ rfl (by simp) (aA _) λv6 h6=>?_);replace h6:eI.R T W5 v6 r:=by simpa using h6
   exact .goN O (.mk ((r,[k],acc++[x]),(v6,v2,v5)) O (lc3 O O O) ⟨⟨hW5,h6,hb5,hO5,⟨(List.pairwise_cons.1 hp).2,λh=>hk (cG _ h)⟩,.inl ⟨rfl,by rw[<-hc,putS_lt hx,cS];rfl⟩⟩,by show r.length+1<(x::r).length+1;simp⟩)
  ·have hx1:k<x:=by omega
   refine .par follows 14 [.inl _,.inl (iW (1:Nat)),.inl (.bool false),.inl (.bool false),.inl _,.inl (iW (((x::r).length):Nat)),.inl (.bool true),.inl (.bool true),.inl _,.inr (Ptr (B8 .i64) T x),.inl (iW x),.inl _,.inr (Ptr (B8 .i64) T k),.inl (iW k)] [[],[(23,0)],[(24,1)],[(25,2)],[(26,3)],[(27,4),(26,3)],[(28,5),(26,3)],[(29,6),(26,3)],[(30,7)],[(31,8),(30,7)],[(32,9),(30,7)],[(30,7)],[(34,11),(30,7)],[(35,12),(30,7)]] (by kernel_rfl) ⟨mvo O,λw e=>(AA7 C5 O (ER.ext eI hb e)).ob,λw e=>((Ai5 O O).eq (by rfl)).ob,mvo O,mvo O,λw e=>(AA7 C5 O (ER.ext eI ha e)).ob,λw e=>((Ac8 O O).eq (by rw[decide_eq_true (by simp only[aS];omega)])).ob,mvo O,mvo O,λw e=>C4 (i:=0) C5 B5 O (ER.ext eI ha e) O rfl,λw e x9 hx9=>F7 A5 O hx9,mvo O,λw e=>C4 (i:=0) C5 B5 O (ER.ext eI hb e) O rfl,λw e x12 hx12=>F7 A5 O hx12,trivial⟩ ?_;intro W3 d3 y9 hy9 y12 hy12;refine .go O (.lssF O O O hx (.goC O ?_));have ha:=ER.ext eI ha d3;have hb:=ER.ext eI hb d3;have hO:=hO.ext d3;have hW:=hW.trans d3;clear d3;refine .par follows 10 [.inl _,.inl (iW (((x::r).length):Nat)),.inl (.bool false),.inl (.bool false),.inl _,.inr (Ptr (B8 .i64) T k),.inl (iW k),.inl _,.inr (Ptr (B8 .i64) T x),.inl (iW x)] [[],[(49,0)],[(50,1)],[(51,2)],[(52,3)],[(53,4),(52,3)],[(54,5),(52,3)],[(52,3)],[(56,7),(52,3)],[(57,8),(52,3)]] (by kernel_rfl) ⟨mvo O,λw e=>(AA7 C5 O (ER.ext eI ha e)).ob,λw e=>((Ai5 O O).eq (by exact congrArg Value.bool (beq_eq_false_iff_ne.2 (by simp only[aS];omega)))).ob,mvo O,mvo O,λw e=>C4 (i:=0) C5 B5 O (ER.ext eI hb e) O rfl,λw e x5 hx5=>F7 A5 O hx5,mvo O,λw e=>C4 (i:=0) C5 B5 O (ER.ext eI ha e) O rfl,λw e x8 hx8=>F7 A5 O hx8,trivial⟩ ?_;intro W3 d3 y5 hy5 y8 hy8;refine .go O (.lssT O O O hx1 (.go O (.ixN (i:=0) C5 B5 O O (ER.ext eI hb d3) O O λq hq=>.ldE (E:=B8 .i64) B5 O O hq λe he=>.go O ?_)));obtain⟨rfl,hxi⟩:=he;refine .bsl _ O O S7 λW4 b4 n4=>?_;obtain⟨d4,k4,hb4,hs4⟩:=n4;have hO4:=(hO.ext d3).ext d4;have hW4:=(hW.trans d3).trans d4;refine .gv O O (V8 (E:=B8 .i64) (base:=w.heap.size) (n:=k) (e:=.int .i64 k) (by decide) C5 P6 O O O hO4 k4 ⟨rfl,hxi⟩ (by omega) (by decide) hW4.size) ?_;rintro v5 W5 ⟨hO5,g5,_⟩;have hW5:Ext w W5:=B4.below hO4 g5 hW4 hW4.size;have ha5:=kp hW hW5 ha;have hb5:=kp hW hW5 hb;refine .go O (.cut 1 ([k]).length C5 B5 O O hb5 ⟨_,rfl⟩ rfl (by simp) (aA _) λv6 h6=>?_);replace h6:eI.R T W5 v6 []:=by simpa using h6
   exact .goN O (.mk ((x::r,[],acc++[k]),(v1,v6,v5)) O (lc3 O O O) ⟨⟨hW5,ha5,h6,hO5,⟨hp,hk⟩,.inr ⟨rfl,by rw[<-hc,putS_gt hp hx1,cS];rfl⟩⟩,by show (x::r).length+0<(x::r).length+1;omega⟩)
theorem BK5{L:List Nat}{k:Nat}:((k:Nat):Int)∈A7 L<->k∈L:=by
 unfold A7;rw[eG];exact⟨fun⟨j,hj,e⟩=>by
  have:j=k:=by omega
  exact this▸hj,λh=>⟨k,h,rfl⟩⟩
theorem BE1:Ent prog 218:=en func218
theorem Az1{w:World}{vo:Value}{n:NtV}{L:List Nat}(up:Up S w)(hn:eN.R S w vn n)(ho:eI.R S w vo (A7 L))(hl:n.ls.length<=1000):CR prog 218 #[vn,vo] w (eI.at S (A7 (D7 L n.ls.length))):=by
 obtain⟨s,rfl,hs,hb⟩:=hn;have ho0:=ER.lt eI ho;refine enter func218 O ntmps218 O (.beg (.go O (.box O O λw1 b2 n1=>.goC O ?_)));obtain⟨e1,k2,hb2,hs1⟩:=n1;replace k2:Blk w1 b2 24 #[iW n.b,s]:=k2;have hsW:∀ {W:World},Below w1.heap.size w1 W->eLs.R (λk=>S k/\k<w.heap.size) W s n.ls:=λe=>ER.ext eLs (ER.lt eLs hs) (e1.trans e);have hoW:∀ {W:World},Below w1.heap.size w1 W->eI.R (λk=>S k/\k<w.heap.size) W vo (A7 L):=λe=>ER.ext eI ho0 (e1.trans e);refine .lp (α:=Nat×Value) [1,2] O (λy=>[(5,y.2),(6,iW (y.1:Nat))]) (λy W=>Ext w1 W/\y.1<=n.ls.length/\B4 (B8 .i64) 3 w1.heap.size (λ_=>False) W y.2 (A7 (D7 L y.1))) (λy=>n.ls.length-y.1) (0,.slice none 0 0) (lc2 O O) ⟨Ext.refl _,aC _,B4.nil⟩ ?_;rintro⟨i,v⟩ W ⟨hW,hi,hO⟩;replace hW:Ext w1 W:=hW;replace hi:i<=n.ls.length:=hi;replace hO:B4 (B8 .i64) 3 w1.heap.size (λ_=>False) W v (A7 (D7 L i)):=hO;have k2:=k2.ext hW;refine .go O (.fa G5 O O (.ld J0 O O k2 O (.lenR I6 O O (hsW hW) ?_)));rcases aB i n.ls.length with hlt | hge;rotate_left
 ·have:i=n.ls.length:=by omega
  subst this;refine .lssF O O O (by omega) (.goE O (.plain [_] results218 ⟨rfl,trivial⟩ ⟨e1.trans hW,?_⟩));exact hO.toR (λk hk=>up k (by have:=e1.size;omega)) (λ_ h=>h.elim)
 refine .lssT O O O (by omega) (.go O (.call _ O AG6 O (AF6 (k:=((i:Nat):Int)) (hoW hW)) λv2 W2 d2 h2=>?_));subst h2;have hfs:=M4 L i;have hW2:=hW.trans d2;by_cases hm:i∈L
 ·rw[if_pos hm,bB] at hfs;rw[decide_eq_true (BK5.2 hm)];exact .go O (.inc O O O (by omega) (.goN O (.mk (i+1,v) O (lc2 O O) ⟨⟨hW2,hlt,by show B4 _ _ _ _ W2 v (A7 (D7 L (i+1)));rw[hfs];exact hO.ext d2⟩,by show n.ls.length-(i+1)<n.ls.length-i;omega⟩)))
 ·rw[if_neg hm] at hfs;rw[decide_eq_false λh=>hm (BK5.1 h)];have hlf:(D7 L i).length<=i:=Ab5 _ _;refine .go O (.bsl _ O O S7 λW3 b3 n3=>?_);obtain⟨d3,k3,hb3,hs3⟩:=n3;have hW3:=hW2.trans d3;refine .gv O O (V8 (E:=B8 .i64) (base:=w1.heap.size) (n:=((i:Nat):Int)) (e:=.int .i64 (i:Nat)) (by decide) C5 P6 O O O ((hO.ext d2).ext d3) k3 ⟨rfl,K8.2 (by omega)⟩ (by simp[A7];omega) (by decide) hW3.size) ?_;rintro v4 W4 ⟨hO4,g4,_⟩;have hW4:Ext w1 W4:=B4.below ((hO.ext d2).ext d3) g4 hW3 hW3.size;exact .go O (.inc O O O (by omega) (.goN O (.mk (i+1,v4) O (lc2 O O) ⟨⟨hW4,hlt,by show B4 _ _ _ _ W4 v4 (A7 (D7 L (i+1)));rw[hfs];unfold A7;rw[aM];exact hO4⟩,by show n.ls.length-(i+1)<n.ls.length-i;omega⟩)))
theorem Bc5{l:List Nat}{j:Nat}(h:j<l.length):(A7 l)[j]?=some ((l.getD j 0:Nat):Int):=by unfold A7;rw[aI,B0 (z:=0) h];rfl
theorem Av2:Ent prog 174:=en func174
theorem Au0{w:World}{vo:Value}{L:List Nat}{k:Nat}(up:Up S w)(ho:eI.R S w vo (A7 L))(hl:L.length<=1000):CR prog 174 #[vo,iW (k:Nat)] w (eI.at S (A7 (L.filter λj=>decide (j≠k)))):=by
 have ho0:=ER.lt eI ho;have hoW:∀ {W:World},Ext w W->eI.R (λk=>S k/\k<w.heap.size) W vo (A7 L):=λe=>ER.ext eI ho0 e;have hpl:(A7 L).length=L.length:=by simp[A7]
 refine enter func174 O ntmps174 O (.beg (.goC O (.lp (α:=Nat×Value) [0,1] O (λy=>[(5,y.2),(6,iW (y.1:Nat))]) (λy W=>Ext w W/\y.1<=L.length/\B4 (B8 .i64) 3 w.heap.size (λ_=>False) W y.2 (A7 ((L.take y.1).filter λj=>decide (j≠k)))) (λy=>L.length-y.1) (0,.slice none 0 0) (lc2 O O) ⟨Ext.refl _,aC _,B4.nil⟩ ?_)));rintro⟨i,v⟩ W ⟨hW,hi,hO⟩;replace hW:Ext w W:=hW;replace hi:i<=L.length:=hi;replace hO:B4 (B8 .i64) 3 w.heap.size (λ_=>False) W v (A7 ((L.take i).filter λj=>decide (j≠k))):=hO;refine .go O (.lenR C5 O O (hoW hW) ?_);rw[hpl];rcases aB i L.length with hlt | hge;rotate_left
 ·have:i=L.length:=by omega
  subst this;rw[aK (aA _)] at hO;refine .lssF O O O (by omega) (.goE O (.plain [_] results174 ⟨rfl,trivial⟩ ⟨hW,?_⟩));exact hO.toR (λk hk=>up k hk) (λ_ h=>h.elim)
 have hg:(A7 L)[i]?=some ((L.getD i 0:Nat):Int):=Bc5 hlt;have htk:L.take (i+1)=L.take i++[L.getD i 0]:=by rw[cA,B0 (z:=0) hlt];rfl
 have hfl:((L.take i).filter λj=>decide (j≠k)).length<=1000:=aG (dO ..) (by rw[cI];omega);generalize L.getD i 0=x at hg htk;refine .lssT O O O (by omega) (.go O (.ixN (i:=i) C5 B5 O O (hoW hW) O hg λq hq=>.ldE (E:=B8 .i64) B5 O O hq λe he=>.go O ?_));obtain⟨rfl,hxi⟩:=he;by_cases hx:x=k
 ·refine .neqF O O O (by omega) (.go O (.inc O O O (by omega) (.goN O (.mk (i+1,v) O (lc2 O O) ⟨⟨hW,hlt,?_⟩,by show L.length-(i+1)<L.length-i;omega⟩))));show B4 _ _ _ _ W v (A7 ((L.take (i+1)).filter λj=>decide (j≠k)));rw[htk,bS,cB (by simpa using hx),fH,bB];exact hO
 ·refine .neqT O O O (by omega) (.go O (.ixN (i:=i) C5 B5 O O (hoW hW) O hg λq hq=>.ldE (E:=B8 .i64) B5 O O hq λe he=>.go O ?_));obtain⟨rfl,_⟩:=he;refine .bsl _ O O S7 λW3 b3 n3=>?_;obtain⟨d3,k3,hb3,hs3⟩:=n3;have hW3:=hW.trans d3;refine .gv O O (V8 (E:=B8 .i64) (base:=w.heap.size) (n:=((x:Nat):Int)) (e:=.int .i64 (x:Nat)) (by decide) C5 P6 O O O (hO.ext d3) k3 ⟨rfl,hxi⟩ (by simp only[A7,dC];omega) (by decide) hW3.size) ?_;rintro v4 W4 ⟨hO4,g4,_⟩;have hW4:Ext w W4:=B4.below (hO.ext d3) g4 hW3 hW3.size;refine .go O (.inc O O O (by omega) (.goN O (.mk (i+1,v4) O (lc2 O O) ⟨⟨hW4,hlt,?_⟩,by show L.length-(i+1)<L.length-i;omega⟩)));show B4 _ _ _ _ W4 v4 (A7 ((L.take (i+1)).filter λj=>decide (j≠k)));rw[htk,bS,bY (by simpa using hx),fH];unfold A7;rw[aM];exact hO4
theorem Au3{w:World}{vo:Value}{n:NtV}{o:List Int}{b:Int}(up:Up S w)(hn:eN.R S w vn n)(ho:eI.R S w vo o) :
  CR prog 217 #[vn,vo,iW a,iW b] w (Is (tup [.bool (AL0 n o a b),iW (X7 n o a b)])):=(Az3 up hn ho).mono λv w' _ h=>by
 obtain⟨p,q,rfl,hp,hq⟩:=h
 rw[show p=_ from hp,show q=_ from hq]
 rfl
theorem BE2:Ent prog 173:=en func173
theorem Az2{w:World}{vo:Value}{n:NtV}{L:List Nat}{b:Int}(up:Up S w)(hn:eN.R S w vn n)(ho:eI.R S w vo (A7 L))(hl:n.ls.length<=1000):CR prog 173 #[vn,vo,iW a,iW b] w (Is (.bool (AL0 n (A7 (D7 L n.ls.length)) a b))):=by obtain⟨s,rfl,hs,hb⟩:=hn;have hn:eN.R S w (.agg #[iW n.b,s]) n:=⟨s,rfl,hs,hb⟩;refine enter func173 O ntmps173 O (.beg (.go O (.box O O λw1 b2 n1=>.goC O ?_)));obtain⟨e1,k2,hb2,hs1⟩:=n1;refine .par follows 11 [.inl (.agg #[iW n.b,s]),.inl (.agg #[iW n.b,s]),.inl _,.inr (eI.at S (A7 (D7 L n.ls.length))),.inl _,.inl _,.inl (tup [.bool (AL0 n (A7 (D7 L n.ls.length)) a b),iW (X7 n (A7 (D7 L n.ls.length)) a b)]),.inl _,.inl _,.inl _,.inl _] [[],[],[],[(13,1),(14,2)],[],[],[(12,0),(15,3),(16,4),(17,5)],[(18,6)],[(11,7)],[(11,7)],[(19,8)]] (by kernel_rfl) ⟨λw e=>(E1 G2 O (k2.ext e) O).ob,λw e=>(E1 G2 O (k2.ext e) O).ob,mvo O,λw e=>(A4 _ BE1 O (Az1 (up.ext (e1.trans e).size) (hn.ext (e1.trans e)) (ER.ext eI ho (e1.trans e)) hl)).oa,mvo O,mvo O,λw e x3 hx3=>(A4 _ BE3 O (Au3 (up.ext (e1.trans e).size) (hn.ext (e1.trans e)) hx3)).obIs,mvo O,λw e=>(AA1 O O).ob,λw e=>(AA1 O O).ob,λw e=>(AR9 O).ob,trivial⟩ ?_;intro W3 d3 y3 hy3;exact .goE O (.p1 _ results173 O ⟨e1.trans d3,rfl⟩)
theorem Av3:Ent prog 118:=en func118
theorem Bz8{n:NtV}{o:List Int}{k:Nat}(hO:C8 n o=0)(hk:k<n.ls.length):AL0 n (A7 (BV9 n o k)) ((A0 n o).F k:Nat) ((A0 n o).T k:Nat) = !decide ((A0 n o).brg k):=by
 have ok:=K6 hO;obtain⟨h1,h2⟩:=oth_ok hO hk;have hf:=ok.f k hk;have ht:=ok.t k hk;have hb:=ok.b;have hE:X7 n (A7 (BV9 n o k)) ((A0 n o).F k:Nat) ((A0 n o).T k:Nat)=0:=by unfold X7;rw[if_neg (by simpa using h1),if_pos ⟨⟨by omega,by omega⟩,by omega,by omega⟩]
 unfold AL0;rw[h2,fK,fK];by_cases hB:(A0 n o).brg k
 ·rw[decide_eq_true hB,decide_eq_false λh'=>hB h'.2];rfl
 ·rw[decide_eq_false hB,decide_eq_true ⟨hE,Classical.not_not.1 hB⟩];rfl
theorem Au1{w:World}{vo:Value}{n:NtV}{o:List Int}(up:Up S w)(hn:eN.R S w vn n)(ho:eI.R S w vo o) :
  CR prog 118 #[vn,vo] w (Two (eI.at S (if C8 n o=0 then A7 (brL n o) else [])) (Is (iW (C8 n o)))):=by
 obtain⟨s,rfl,hs,hb⟩:=hn;have hn:eN.R S w (.agg #[iW n.b,s]) n:=⟨s,rfl,hs,hb⟩;refine enter func118 O ntmps118 O (.beg (.go O (.box O O λw1 b2 n1=>.go O ?_)));obtain⟨e1,k2,hb2,hs1⟩:=n1;replace k2:Blk w1 b2 24 #[iW n.b,s]:=k2;refine .ldA G2 O O k2 O (.go O ?_);refine .call _ O Y4 O (V6 (hn.ext e1) (ho.ext e1)) λv2 w2 e2 h2=>?_;subst h2;have x2:=e1.trans e2;have k2:=k2.ext e2;refine .go O ?_;by_cases hO:C8 n o=0;rotate_left
 ·refine .neqT O O O hO (.goE O (.plain [_,_] results118 ⟨rfl,rfl,trivial⟩ ⟨x2,_,_,rfl,?_,rfl⟩));rw[if_neg hO];exact RL.nil
 have ok:=K6 hO;have hM10:n.ls.length<=10:=ok.m;have hll:=AE6 n o;refine .neqF O O O hO (.go O (.ldA G2 O O k2 O (.go O ?_)));refine .call _ O BE4 O (Az4 (up.ext x2.size) (hn.ext x2) (ho.ext x2) (Z2 hO).2 (by omega)) λv3 w3 e3 hl=>?_;have x3:=x2.trans e3;have k2:=k2.ext e3;have hpl:(A7 (inL n o)).length=(inL n o).length:=by simp[A7]
 rw[if_pos hO];generalize hP:(λk=>decide ((A0 n o).brg k))=P;have hbr:brL n o=(inL n o).filter P:=by rw[<-hP];rfl
 rw[hbr];refine .goC O ?_;refine .lp (α:=Nat×Value) [2,8] O (λy=>[(7,y.2),(9,iW (y.1:Nat))]) (λy W=>Ext w3 W/\y.1<=(inL n o).length/\B4 (B8 .i64) 3 w3.heap.size S W y.2 (A7 (((inL n o).take y.1).filter P))) (λy=>(inL n o).length-y.1) (0,.slice none 0 0) (lc2 O O) ⟨Ext.refl _,aC _,B4.nil⟩ ?_;rintro⟨i,v⟩ W ⟨hW,hi,hown⟩;replace hW:Ext w3 W:=hW;replace hi:i<=(inL n o).length:=hi;replace hown:B4 (B8 .i64) 3 w3.heap.size S W v (A7 (((inL n o).take i).filter P)):=hown;have hlW:=ER.ext eI hl hW;have xW:=x3.trans hW;have zW:=hW.size;have z3:=x3.size;refine .go O (.lenR C5 O O hlW (.go O ?_));rw[hpl];rcases aB i (inL n o).length with hlt | hge;rotate_left
 ·have:i=(inL n o).length:=by omega
  subst this;rw[aK (aA _)] at hown;exact .lssF O O O (by omega) (.goE O (.plain [_,_] results118 ⟨rfl,rfl,trivial⟩ ⟨xW,_,_,rfl,hown.toR (λk hk=>up k (by omega)) (λ_ h=>h),by rw[hO]⟩))
 obtain⟨hgk,hkM,hko⟩:=AM3 hlt;have htk:(inL n o).take (i+1)=(inL n o).take i++[(inL n o).getD i 0]:=by rw[cA,B0 (z:=0) hlt];rfl
 have hfl:(((inL n o).take i).filter P).length<=10:=aG (dO ..) (by rw[cI];omega);generalize (inL n o).getD i 0=k at hgk hkM hko htk;have hgl:n.ls[k]?=some (n.ls.getD k ln0):=B0 hkM;have hF0:lnI (n.ls.getD k ln0) 0=(((A0 n o).F k:Nat):Int):=ok.fI k hkM;have hT0:lnI (n.ls.getD k ln0) 1=(((A0 n o).T k:Nat):Int):=ok.tI k hkM;have hsW:∀ {W':World},Ext W W'->eLs.R S W' s n.ls:=λe=>ER.ext eLs hs (xW.trans e);have hcb:=Bz8 hO hkM;unfold BV9 at hcb;obtain⟨c,hc⟩:∃ c,decide ((A0 n o).brg k)=c:=⟨_,rfl⟩;have hPk:P k=c:=by rw[<-hP];exact hc
 rw[hc] at hcb;refine .lssT O O O (by omega) (.goC O ?_);refine .par follows 25 [.inl (.agg #[iW n.b,s]),.inl _,.inl _,.inl _,.inr (Ptr (B8 .i64) S (k:Nat)),.inl (iW (k:Nat)),.inr (eI.at S (A7 ((inL n o).filter λj=>decide (j≠k)))),.inl _,.inl s,.inl _,.inl _,.inr (Ptr (B8 .i64) S (k:Nat)),.inl (iW (k:Nat)),.inr (Ptr eL S (n.ls.getD k ln0)),.inr (Ptr (B8 .i64) S ((A0 n o).F k:Nat)),.inl (iW ((A0 n o).F k:Nat)),.inl _,.inl s,.inl _,.inl _,.inr (Ptr (B8 .i64) S (k:Nat)),.inl (iW (k:Nat)),.inr (Ptr eL S (n.ls.getD k ln0)),.inr (Ptr (B8 .i64) S ((A0 n o).T k:Nat)),.inl (iW ((A0 n o).T k:Nat))] [[],[],[],[],[(27,2),(28,3)],[(29,4)],[(26,1),(30,5)],[],[(32,7)],[],[],[(34,9),(35,10)],[(36,11)],[(33,8),(37,12)],[(38,13)],[(39,14)],[],[(41,16)],[],[],[(43,18),(44,19)],[(45,20)],[(42,17),(46,21)],[(47,22)],[(48,23)]] (by kernel_rfl) ⟨λw e=>(E1 G2 O ((k2.ext hW).ext e) O).ob,mvo O,mvo O,mvo O,λw e=>C4 (i:=i) C5 B5 O (ER.ext eI hlW e) O hgk,λw e x4 hx4=>F7 A5 O hx4,λw e=>(A4 _ Av2 O (Au0 (up.ext (xW.trans e).size) (ER.ext eI hlW e) (by omega))).oa,fao G5 O,λw e=>(E2 J0 O ((k2.ext hW).ext e) O).ob,mvo O,mvo O,λw e=>C4 (i:=i) C5 B5 O (ER.ext eI hlW e) O hgk,λw e x11 hx11=>F7 A5 O hx11,λw e=>C4 (i:=k) I6 L8 O (hsW e) O hgl,λw e x13 hx13=>(by rw[<-hF0];exact AX3 I5 O hx13 (by decide)),λw e x14 hx14=>F7 A5 O hx14,fao G5 O,λw e=>(E2 J0 O ((k2.ext hW).ext e) O).ob,mvo O,mvo O,λw e=>C4 (i:=i) C5 B5 O (ER.ext eI hlW e) O hgk,λw e x20 hx20=>F7 A5 O hx20,λw e=>C4 (i:=k) I6 L8 O (hsW e) O hgl,λw e x22 hx22=>(by rw[<-hT0];exact AX3 I4 O hx22 (by decide)),λw e x23 hx23=>F7 A5 O hx23,trivial⟩ ?_;intro W3 d3 y4 hy4 y6 hy6 y11 hy11 y13 hy13 y14 hy14 y20 hy20 y22 hy22 y23 hy23;have hj:=Az2 (a:=((A0 n o).F k:Nat)) (b:=((A0 n o).T k:Nat)) (up.ext (xW.trans d3).size) (hn.ext (xW.trans d3)) hy6 (by omega);rw[hcb] at hj;refine .go O (.call _ O BE2 O hj λv4 W4 d4 h4=>?_);subst h4;have d3:=d3.trans d4;clear hj;have hWW:=hW.trans d3
 cases c with
 | true =>
  refine .go O (.ixN (i:=i) C5 B5 O O (ER.ext eI hlW d3) O hgk λq hq=>.ldE (E:=B8 .i64) B5 O O hq λe he=>.go O ?_);obtain⟨rfl,hki⟩:=he;refine .bsl _ O O S7 λW7 b7 n7=>?_;obtain⟨d7,k7,hb7,hs7⟩:=n7;have d17:=d3.trans d7;have hW7:=hW.trans d17;refine .gv O O (L5 (E:=B8 .i64) (base:=w3.heap.size) (n:=((k:Nat):Int)) (e:=.int .i64 (k:Nat)) (by decide) C5 P6 O O O (hown.ext d17) k7 ⟨rfl,hki⟩ (by simp only[A7,dC];omega) (by decide) hW7.size) ?_;rintro v8 W8 ⟨ho8,hg8⟩;have hW8:Ext w3 W8:=B4.below (hown.ext d17) hg8 hW7 hW7.size;refine .go O (.inc O O O (by omega) (.goN O (.mk (i+1,v8) O (lc2 O O) ⟨⟨hW8,hlt,?_⟩,by show (inL n o).length-(i+1)<(inL n o).length-i;omega⟩)));show B4 (B8 .i64) 3 w3.heap.size S W8 v8 (A7 (((inL n o).take (i+1)).filter P));rw[htk,bS,bY hPk,fH];unfold A7;rw[aM];exact ho8
 | false =>
  have hPk:¬ P k=true:=by rw[hPk];decide
  refine .go O (.inc O O O (by omega) (.goN O (.mk (i+1,v) O (lc2 O O) ⟨⟨hWW,hlt,?_⟩,by show (inL n o).length-(i+1)<(inL n o).length-i;omega⟩)));show B4 (B8 .i64) 3 w3.heap.size S W4 v (A7 (((inL n o).take (i+1)).filter P));rw[htk,bS,cB hPk,fH,bB];exact hown.ext d3
def IterR (P:Program) (gf:FuncId) (lb:Array Value) (n:Nat) (Y:Nat->Nat->List Value->World->Prop) (F:World->Prop):Prop :=
 ∀ (l:Nat) (J:Nat->World->Prop) (X:World->Prop),(∀ k W W',J k W->Ext W W'->J k W')->(∀ W W',X W->Ext W W'->X W')->(∀ k W,J k W->F W) ->
  (∀ k W0 W vs,k<n->J k W0->Ext W0 W->Y k W0.heap.size vs W->YieldAt (wf none) 0 P l vs.toArray W λe W'=>(e=.returned (.bool true)/\J (k+1) W')\/(e=.returned (.bool false)/\X W')) ->
  ∀ W,J 0 W->Calls P gf (#[.func (.yield l) #[] #[]]++lb) W λe W'=>∃ v,e=.returned v/\(J n W'\/X W')
theorem WC.rangeR{N:Nat}{Q:Pst}{σ:Env}{ds:List Deferred}{w:World}{g:Operand}{ps:List Tmp}{assign body:Code}{gf:FuncId}{lb:Array Value}{n:Nat}{Y:Nat->Nat->List Value->World->Prop}{F:World->Prop}(hit:IterR P gf lb n Y F)(hg:ev σ g=some (.func (.func gf) #[] lb))(hE:Ent P gf)(hps:∀ k B vs W,Y k B vs W->vs.length=ps.length)(stY:∀ k B vs W W',Y k B vs W->Sft w.heap.size W W'->Y k B vs W')(hpN:∀ p∈ps,p<N)(J:Nat->World->Prop)(Jx:Code->World->Prop)(stJ:∀ k W W',J k W->Sft w.heap.size W W'->J k W')(stX:∀ c W W',Jx c W->Sft w.heap.size W W'->Jx c W')(hF:∀ k W,J k W->F W)(h0:J 0 w)(hbody:∀ l k W0 W vs,k<n->J k W0->Ext W0 W->Y k W0.heap.size vs W->WC P (some l) N (thn (λσ1 ds1 W1=>ds1=[]/\W1=W/\∀ W2,J k W2->Sft w.heap.size W W2->Y k W0.heap.size vs W2->w.heap.size<=W2.heap.size->WC P (some l) N (rnd (J (k+1)) Jx W2) body σ1 [] W2) (λ_ _ _ _=>False)) assign (BN8 ps vs σ) [] W)(hdone:∀ W,J n W->W.heap[w.heap.size]?=some (.deferred (some []))->Q .normal σ ({ target:=.collected w.heap.size,args:=#[] }::ds) W)(hjump:∀ c W,Jx c W->W.heap[w.heap.size]?=some (.deferred (some []))->WC P none N Q c σ ({ target:=.collected w.heap.size,args:=#[] }::ds) W) :
  WC P none N Q (.rangeFunc g ps.toArray assign body) σ ds w:=by
 refine⟨λa ha=>wpIn_rangeFunc λfn _=>?_⟩;have hev:=ha.ev hg;let rec0:Loop:={ state:=.ready,pending:=none,fn:=fn,tmps:=a.tmps,params:=ps.toArray,assign:=assign,body:=body,defers:=w.heap.size };refine⟨w.heap.size+1,[{ target:=.collected w.heap.size,args:=#[] }],(w.alloc (.deferred (some []))).alloc (.loop rec0),{ target:=.fn (.func gf) lb,args:=#[.func (.yield (w.heap.size+1)) #[] #[]] },(w.alloc (.deferred (some []))).alloc (.loop rec0),gf,#[.func (.yield (w.heap.size+1)) #[] #[]]++lb,(w.alloc (.deferred (some []))).alloc (.loop rec0),
  run_enterLoop_outer fn a.tmps ps.toArray assign body,?_,λ_ _=>trivial,?_,(λh=>(by cases h)),?_⟩
 ·simp only[resolve];rw[hev];simp[Deferred.ofValue,rec0];rfl
 ·simp[invoke,hE _ _]
 let l:=w.heap.size+1
 let D:=w.heap.size
 have hne:D≠l:=by show w.heap.size≠w.heap.size+1;omega
 let Jt:Nat->World->Prop:=λk W=>J k W/\W.heap[l]?=some (.loop rec0)/\W.heap[D]?=some (.deferred (some []))
 let Xt:World->Prop:=λW=>∃ c,Jx c W/\W.heap[l]?=some (.loop { rec0 with state:=.done,pending:=some c })/\W.heap[D]?=some (.deferred (some []))
 have hlt:∀ {W:World} {o:Obj},W.heap[l]?=some o->l<W.heap.size:=λh=>(Array.getElem?_eq_some_iff.1 h).1;have hlt':∀ {W:World} {o:Obj},W.heap[D]?=some o->D<W.heap.size:=λh=>(Array.getElem?_eq_some_iff.1 h).1;have hstart:Jt 0 ((w.alloc (.deferred (some []))).alloc (.loop rec0)):=by
  have e1:=AJ0 w (.deferred (some []));have e2:=AJ0 (w.alloc (.deferred (some []))) (.loop rec0);refine⟨stJ 0 _ _ h0 (Sft.ext (e1.trans e2) (aA _)),?_,?_⟩
  ·have:=World.alloc_heap_new (w.alloc (.deferred (some []))) (.loop rec0);rwa [World.size_alloc] at this
  ·exact (e2.block D (by rw[World.size_alloc];show w.heap.size<w.heap.size+1;omega)).trans (World.alloc_heap_new w _)
 have hcall:=hit l Jt Xt
  (λk W W' ⟨h1,h2,h3⟩ e=>⟨stJ k W W' h1 (Sft.ext e (cH (hlt' h3))),(e.block l (hlt h2)).trans h2,(e.block D (hlt' h3)).trans h3⟩)
  (λW W' ⟨c,h1,h2,h3⟩ e=>⟨c,stX c W W' h1 (Sft.ext e (cH (hlt' h3))),(e.block l (hlt h2)).trans h2,(e.block D (hlt' h3)).trans h3⟩)
  (λk W h=>hF k W h.1)
  (λk W0 W vs hk ⟨hJ0,hl0,hD0⟩ e0 hY=>by
   have hJ:=stJ k W0 W hJ0 (Sft.ext e0 (cH (hlt' hD0)));have hl:=(e0.block l (hlt hl0)).trans hl0;have hD:=(e0.block D (hlt' hD0)).trans hD0;refine⟨fn,(ps.zip vs).foldl (λt p=>t.setIfInBounds p.1 p.2) a.tmps,assign,body,?_,?_⟩
   ·have:=run_yield (P:=P) (w:=W) (l:=l) (r:=rec0) (args:=vs.toArray) hl (by simp[rec0,hps _ _ _ _ hY]);rw[this];simp[rec0]
   ·refine roundIn_of_wpIn trivial ?_;have hag:Agr N (BN8 ps vs σ) [] { tmps:=(ps.zip vs).foldl (λt p=>t.setIfInBounds p.1 p.2) a.tmps,defers:=[] } :=
     Ah3 ps vs σ a.tmps hpN ⟨ha.size,rfl,ha.slot⟩
    refine wpIn_mono ((hbody l k W0 W vs hk hJ0 e0 hY).out _ hag) ?_;rintro e a₁ w₁ ⟨σ1,ds1,hag1,hq⟩
    cases e with
    | normal =>
     obtain⟨rfl,rfl,hb⟩:=hq;have hput:(w₁.putObj l (.loop { rec0 with state:=.busy })).heap[l]?=some (.loop { rec0 with state:=.busy }):=World.putObj_heap_same (hlt hl);have hputD:(w₁.putObj l (.loop { rec0 with state:=.busy })).heap[D]?=some (.deferred (some [])):=by rw[World.putObj_heap_other hne];exact hD
     refine⟨_,run_beginRound hl rfl,wpIn_mono ((hb _ (stJ k _ _ hJ (Sft.put (show D<=l by show w.heap.size<=w.heap.size+1;omega) hl O)) (Sft.put (show D<=l by show w.heap.size<=w.heap.size+1;omega) hl O) (stY _ _ _ _ _ hY (Sft.put (show D<=l by show w.heap.size<=w.heap.size+1;omega) hl O)) (by rw[World.putObj_size];exact cH (hlt' hD))).out a₁ hag1) ?_⟩;have hend:∀ (W':World) (j:Option Code),Oth (w₁.putObj l (.loop { rec0 with state:=.busy })) W' ->
       (Instr.endRound l j).run P W'=.ok (.bool j.isNone) (W'.putObj l (.loop { rec0 with state:=if j.isNone then .ready else .done,pending:=j })) /\
       Sft D W' (W'.putObj l (.loop { rec0 with state:=if j.isNone then .ready else .done,pending:=j })) /\
       (W'.putObj l (.loop { rec0 with state:=if j.isNone then .ready else .done,pending:=j })).heap[l]?=some (.loop { rec0 with state:=if j.isNone then .ready else .done,pending:=j }) /\
       (W'.putObj l (.loop { rec0 with state:=if j.isNone then .ready else .done,pending:=j })).heap[D]?=some (.deferred (some [])):=by
      intro W' j ho;have h1:=ho l _ hput rfl;have h2:=ho D _ hputD rfl;refine⟨run_endRound (r:={ rec0 with state:=.busy }) j h1,Sft.put (show D<=l by show w.heap.size<=w.heap.size+1;omega) h1 rfl,World.putObj_heap_same (hlt h1),?_⟩;rw[World.putObj_heap_other hne];exact h2
     rintro e2 a₂ w₂ ⟨σ2,ds2,hag2,hq2⟩
     cases e2 with
     | normal =>
      obtain⟨ho,hj⟩:=hq2;obtain⟨h1,h2,h3,h4⟩:=hend w₂ none ho;exact⟨_,_,h1,.inl ⟨rfl,stJ _ _ _ hj h2,h3,h4⟩⟩
     | ret =>
      obtain⟨ho,hj⟩:=hq2;obtain⟨h1,h2,h3,h4⟩:=hend w₂ (some .ret) ho;exact⟨_,_,h1,.inr ⟨rfl,.ret,stX _ _ _ hj h2,h3,h4⟩⟩
     | exit id =>
      obtain⟨ho,hj⟩:=hq2;obtain⟨h1,h2,h3,h4⟩:=hend w₂ (some (.exit id)) ho;exact⟨_,_,h1,.inr ⟨rfl,.exit id,stX _ _ _ hj h2,h3,h4⟩⟩
     | _=>exact hq2.elim
    | _=>exact hq.elim)
  _ hstart
 refine Ag9.2 (hcall.mono ?_);have hag':Agr N σ ({ target:=.collected w.heap.size,args:=#[] }::ds) { tmps:=a.tmps,defers:=[{ target:=.collected w.heap.size,args:=#[] }]++a.defers }:=⟨ha.size,by rw[ha.defs];rfl,ha.slot⟩;rintro e W ⟨v,rfl,hres⟩;rcases hres with ⟨hJ,hl,hD⟩ | ⟨c,hX,hl,hD⟩
 ·refine⟨none,_,run_endLoop hl (by simp[rec0]),?_⟩;refine⟨σ,_,hag',hdone _ (stJ _ _ _ hJ (Sft.put (show D<=l by show w.heap.size<=w.heap.size+1;omega) hl O)) ?_⟩;rw[World.putObj_heap_other hne];exact hD
 ·refine⟨some c,_,run_endLoop hl (by simp),?_⟩;refine (hjump c _ (stX _ _ _ hX (Sft.put (show D<=l by show w.heap.size<=w.heap.size+1;omega) hl O)) ?_).out _ hag';rw[World.putObj_heap_other hne];exact hD
theorem Bz7{n:NtV}{o:List Int}{b:Int}(h:C8 n o=0):(AR0 n a/\AR0 n b->X7 n o a b=0)/\(¬ (AR0 n a/\AR0 n b)->X7 n o a b=1):=by unfold X7;rw[if_neg (by simpa using h)];exact⟨λh=>if_pos h,λh=>if_neg h⟩
theorem btE_val{n:NtV}{o:List Int}{b:Int}(h:C8 n o=0):(AR0 n a/\AR0 n b->(A0 n o).root a.toNat=(A0 n o).root b.toNat->btE n o a b=0)/\(AR0 n a/\AR0 n b->(A0 n o).root a.toNat≠(A0 n o).root b.toNat->btE n o a b=8)/\(¬ (AR0 n a/\AR0 n b)->btE n o a b=1):=by
 obtain⟨h1,h2⟩:=Bz7 (a:=a) (b:=b) h;refine⟨λhb hr=>?_,λhb hr=>?_,λhb=>?_⟩
 ·unfold btE AL0;rw[if_neg (by simpa using h1 hb),if_pos (decide_eq_true ⟨h1 hb,hr⟩)]
 ·unfold btE AL0;rw[if_neg (by simpa using h1 hb),if_neg (by rw[decide_eq_false λh=>hr h.2];decide)]
 ·unfold btE;rw[if_pos (by rw[h2 hb];decide),h2 hb]
theorem eV_sep{w:World}{v:Value}{l:List QV}{b:Nat}{cs:Array Value}(h:eV.R S w v l)(hb:Blk w b t cs)(hc:∀ (i:Nat) (n:Int),cs[i]?≠some (Value.int .u32 n))(hc2:∀ (i:Nat) (x:Bool),cs[i]?≠some (Value.bool x)):eV.R (λk=>S k/\k≠b) w v l:=by
 obtain⟨es,he,a,c,hv,h1,h2,h3,h4⟩:=h;refine⟨es,⟨he.1,λi e x hx hy=>AY4 (he.2 i e x hx hy) hb hc⟩,a,c,hv,h1,h2,h3,λhn=>?_⟩;obtain⟨ad,ha,hS,hcl⟩:=h4 hn;refine⟨ad,ha,⟨hS,λe=>?_⟩,hcl⟩;obtain⟨e0,he0⟩:∃ e,es[0]?=some e:=⟨_,aE (by rw[he.1];exact hn)⟩;obtain⟨s1,t1,rfl,_,_⟩:=he.2 0 e0 _ he0 (aE hn);have hg:=F0 (sz:=4) es 0 0 _ he.sz he0 (by omega);have hcell:=(hcl 0 _ hg).1;obtain⟨b0,o0,g0⟩:=ad;have e:b0=b:=e;subst e;have h':w.heap[b0]?=some (.cells cs t (0,0)):=hb;simp only[World.cell?,Addr.add,if_pos,h'] at hcell;split at hcell
 ·cases hcell
 ·exact hc2 _ _ hcell
theorem BW1:(∀ (i:Nat) (n:Int),(#[.slice none 0 0]:Array Value)[i]?≠some (Value.int .u32 n))/\∀ (i:Nat) (x:Bool),(#[.slice none 0 0]:Array Value)[i]?≠some (Value.bool x):=by
 constructor
 ·intro i n;match i with
  | 0=>simp
  | i+1=>simp
 ·intro i n;match i with
  | 0=>simp
  | i+1=>simp
theorem E_lofac:Ent prog 80:=en func80
theorem lofac_t{w:World}{q:Value}{M k l b1 b2 b3:Nat}{bt:Nat->Rat}{r:Rat}(up:Up S w)(upo:Up T0 w)(k1:Blk w b1 3 #[iW (k:Nat)])(k2:Blk w b2 26 #[vb])(hb:eV.R S w vb (tab M bt))(k3:Blk w b3 39 q.cells)(hq:eQ.R S w q (qc r))(hr:r≠0)(hbz:∀ i,Rsz (bt i) L)(hrz:Rsz r L)(hL:1<=L)(hL2:L<=1000000000)(hl:l<M) :
  CR prog 80 #[iW (l:Nat),pW b1,pW b2,pW b3] w (eQ.at T0 (qc (if l=k then -1 else bt l / r))):=by
 have hqv:=G8 (E:=eQ) O hq;refine enter func80 O ntmps80 O (.beg (.go O (.alloc O E8 λW1 b5 n1=>?_)));obtain⟨e1,k5,hb5,hs1⟩:=n1;refine .go O (.ld A5 O O (k1.ext e1) O ?_);by_cases hlk:l=k
 ·rw[if_pos hlk];refine .eqlT O O O (by omega) (.go O (.call _ O I2 O (H9 (n := -1) (S:=λj=>T0 j/\j≠b5) (λj hj=>⟨upo j (by omega),by omega⟩) (by decide) (by decide)) λv2 W2 e2 h2=>(.storeA (E:=eQ) A3 O O (k5.ext e2) O O h2 (λh=>h.2 O) λW3 k5 u3 h3=>?_)));exact .goE O (.cell results80 O A3 O O k5 h3 ⟨u3.below (e1.trans e2) (by omega),eQ.mono (λ_ _ h=>h.1) h3⟩)
 rw[if_neg hlk];have hbl:=H2 (g:=bt) hl;have hbW:∀ {W:World},Ext w W->eV.R S W vb (tab M bt):=λe=>ER.ext eV hb e;have hqW:∀ {W:World},Ext w W->eQ.R S W q (qc r):=λe=>ER.ext eQ hq e;have upO:∀ {W:World},Ext W1 W->Up (λj=>T0 j/\j≠b5) W:=λe j hj=>⟨upo j (by have:=e.size;omega),by have:=e.size;omega⟩;refine .eqlF O O O (by omega) (.goC O ?_);refine .parL follows 10 [8] [.inl vb,.inl _,.inr (Ptr eQ S (qc (bt l))),.inr (eQ.at S (qc (bt l))),.inl q,.inr (Two (eQ.at (λj=>T0 j/\j≠b5) (qc (bt l / r))) (Is (iW 0))),.inr (Two (eQ.at (λj=>T0 j/\j≠b5) (qc (bt l / r))) (Is (iW 0))),.inr (eQ.at (λj=>T0 j/\j≠b5) (qc (bt l / r))),.inl (iW 0),.inr (Ah4 W1.heap.size 39 zq.cells)] [[],[],[(13,0),(14,1)],[(15,2)],[],[(16,3),(17,4)],[(18,5)],[(12,6)],[(12,6)],[]] (by kernel_rfl) ⟨λw e=>(E2 C2 O (k2.ext (e1.trans e)) O).ob,mvo O,λw e=>C4 (i:=l) C9 A3 O (hbW (e1.trans e)) O hbl,λw e x2 hx2=>K1 A3 O hx2,λw e=>((E1 A3 O (k3.ext (e1.trans e)) (eQ.csz hq)).eq hqv.symm).ob,λw e x3 hx3=>(by have:=AT0 (L:=L) (up.ext (e1.trans e).size) (upO e) hx3 (hqW (e1.trans e)) (hbz l).toOk hrz.toOk hL (by omega) (by rw[C3];exact hr);rw[C3,C3] at this;exact (A4 _ AU3 O this).ob (L3 (G7 _ _ _) (S9 _))),λw e x5 hx5=>K5 (v_mv O) hx5 (L3 (G7 _ _ _) (S9 _)),λw e x6 hx6=>by
   obtain⟨p1,q1,rfl,hp1,hq1⟩:=hx6;exact K5 (AA1 O O) hp1 (G7 _ _ _),λw e x6 hx6=>by
   obtain⟨p1,q1,rfl,hp1,hq1⟩:=hx6;exact ((AA1 O O).eq hq1).ob,λw e=>R6 E8 e.size,trivial⟩ ?_
 rintro W2 e2 y2 hy2 y3 hy3 y5 hy5 y6 hy6 y7 hy7 _ ⟨b6,rfl,hb6,k6⟩;have hy:=AY4 hy7 k6 AC8;refine .storeA (E:=eQ) A3 O O k6 O O hy (λh=>h.2 O) λW3 k6 u3 h3=>?_;have hyv:=G8 (E:=eQ) O h3;refine .go O (.ldA A3 O O k6 (eQ.csz h3) ?_);rw[<-hyv];have e3:Ext W1 W3:=u3.below e2 hb6;have h3:eQ.R (λj=>T0 j/\j≠b5) W3 y7 _:=eQ.mono (λ_ _ h=>h.1) h3;refine .storeA (E:=eQ) A3 O O (k5.ext e3) O O h3 (λh=>h.2 O) λW4 k5 u4 h4=>?_;exact .goE O (.cell results80 O A3 O O k5 h4 ⟨u4.below (e1.trans e3) (by omega),eQ.mono (λ_ _ h=>h.1) h4⟩)
theorem V4:Ent prog 38:=en func38
def loV (n:NtV) (o:List Int) (k:Nat):List QV:=tab n.ls.length ((A0 n o).lo k)
theorem Ah0{n:NtV}{o:List Int}(ok:nwOk n o)(k l:Nat):Rsz ((A0 n o).bt k l) 349529:=by have:=(BP1 ok l ((A0 n o).F k)).add (BP1 ok l ((A0 n o).T k)).neg;rw[<-cW] at this;exact this
theorem Bh2{n:NtV}{o:List Int}(ok:nwOk n o)(k:Nat):Rsz ((A0 n o).rst k) 400000:=by have:=(rsz1 (L:=1) (aA _)).add (Ah0 ok k k).neg;rw[<-cW] at this;exact this.mono (by decide)
theorem lo_rsz{n:NtV}{o:List Int}(ok:nwOk n o)(k l:Nat):Rsz ((A0 n o).lo k l) 800000:=by
 unfold Nw.lo;split
 ·exact (rsz1 (L:=1) (aA _)).neg.mono (by decide)
 ·rw[dG];exact ((Ah0 ok k l).mul ((Bh2 ok k).inv (by decide))).mono (by decide)
theorem U5{w:World}{vo:Value}{n:NtV}{o:List Int}(up:Up S w)(upo:Up T0 w)(hn:eN.R S w vn n)(ho:eI.R S w vo o) :
  CR prog 38 #[vn,vo,iW line] w (Two (eV.at T0 (if lkE n o line=0 then loV n o line.toNat else [])) (Is (iW (lkE n o line)))):=by
 obtain⟨s,rfl,hs,hb⟩:=hn;have hn:eN.R S w (.agg #[iW n.b,s]) n:=⟨s,rfl,hs,hb⟩;refine enter func38 O ntmps38 O (.beg (.go O (.box O O λw1 b3 n1=>.box O O λw1' b5 n1'=>?_)));obtain⟨e1,k3,hb3,hs1⟩:=n1;obtain⟨e1',k5,hb5,hs1'⟩:=n1';have x1:=e1.trans e1';replace k3:Blk w1' b3 24 #[iW n.b,s]:=k3.ext e1';replace k5:Blk w1' b5 3 #[iW line]:=k5;refine .go O (.ldA G2 O O k3 O (.go O (.ld A5 O O k5 O ?_)));refine .call _ O Am9 O (Ak9 (up.ext x1.size) (hn.ext x1) (ho.ext x1)) λv2 w2 e2 h2=>?_;subst h2;have x2:=x1.trans e2;have k3:=k3.ext e2;have k5:=k5.ext e2;refine .go O ?_;by_cases hK:lkE n o line=0;rotate_left
 ·refine .neqT O O O hK (.goE O (.plain [_,_] results38 ⟨rfl,rfl,trivial⟩ ⟨x2,_,_,rfl,?_,rfl⟩));rw[if_neg hK];exact RL.nil
 obtain⟨hO,k,rfl,hkM,hg,hko,hB⟩:=BO6 hK;have ok:=K6 hO;have hM10:n.ls.length<=10:=ok.m;have hnb:=ok.b;have z2:=x2.size;have hgl:n.ls[k]?=some (n.ls.getD k ln0):=B0 hkM;have hFI:=ok.fI k hkM;have hTI:=ok.tI k hkM;have hFB:=ok.f k hkM;have hTB:=ok.t k hkM;have hF0:lnI (n.ls.getD k ln0) 0=(((A0 n o).F k:Nat):Int):=hFI;have hT0:lnI (n.ls.getD k ln0) 1=(((A0 n o).T k:Nat):Int):=hTI;have hroot:=Nw.root_line (n:=A0 n o) hkM hg;have hrst:=Nw.rst_ne ok.ok hkM hg hB;have hbt:btE n o ((A0 n o).F k:Nat) ((A0 n o).T k:Nat)=0:=by refine (btE_val hO).1 ⟨⟨by omega,by omega⟩,⟨by omega,by omega⟩⟩ ?_;simpa using hroot
 have hbV:btV n o ((A0 n o).F k) ((A0 n o).T k)=tab n.ls.length ((A0 n o).bt k):=rfl;have hsW:∀ {W:World},Ext w2 W->eLs.R S W s n.ls:=λe=>ER.ext eLs hs (x2.trans e);have hBet:∀ {W:World},Ext w2 W->CR prog 79 #[.agg #[iW n.b,s],vo,iW ((A0 n o).F k:Nat),iW ((A0 n o).T k:Nat)] W (Two (eV.at S (tab n.ls.length ((A0 n o).bt k))) (Is (iW 0))):=λe=>by have:=At9 (a:=((A0 n o).F k:Nat)) (b:=((A0 n o).T k:Nat)) (up.ext (x2.trans e).size) (hn.ext (x2.trans e)) (ho.ext (x2.trans e));rw[hbt,if_pos rfl] at this;exact this
 refine .neqF O O O hK (.goC O ?_);refine .parL follows 19 [17] [.inl (.agg #[iW n.b,s]),.inl _,.inl _,.inl s,.inl (iW (k:Nat)),.inr (Ptr eL S (n.ls.getD k ln0)),.inr (Ptr (B8 .i64) S ((A0 n o).F k:Nat)),.inl (iW ((A0 n o).F k:Nat)),.inl _,.inl s,.inl (iW (k:Nat)),.inr (Ptr eL S (n.ls.getD k ln0)),.inr (Ptr (B8 .i64) S ((A0 n o).T k:Nat)),.inl (iW ((A0 n o).T k:Nat)),.inr (Two (eV.at S (tab n.ls.length ((A0 n o).bt k))) (Is (iW 0))),.inr (Two (eV.at S (tab n.ls.length ((A0 n o).bt k))) (Is (iW 0))),.inr (eV.at S (tab n.ls.length ((A0 n o).bt k))),.inl (iW 0),.inr (Ah4 w2.heap.size 26 #[.slice none 0 0])] [[],[],[],[(25,2)],[],[(26,3),(27,4)],[(28,5)],[(29,6)],[],[(31,8)],[],[(32,9),(33,10)],[(34,11)],[(35,12)],[(23,0),(24,1),(30,7),(36,13)],[(37,14)],[(22,15)],[(22,15)],[]] (by kernel_rfl) ⟨λw e=>(E1 G2 O (k3.ext e) O).ob,mvo O,fao G5 O,λw e=>(E2 J0 O (k3.ext e) O).ob,λw e=>(E2 A5 O (k5.ext e) O).ob,λw e=>C4 (i:=k) I6 L8 O (hsW e) O hgl,λw e x5 hx5=>(by rw[<-hF0];exact AX3 I5 O hx5 (by decide)),λw e x6 hx6=>F7 A5 O hx6,fao G5 O,λw e=>(E2 J0 O (k3.ext e) O).ob,λw e=>(E2 A5 O (k5.ext e) O).ob,λw e=>C4 (i:=k) I6 L8 O (hsW e) O hgl,λw e x11 hx11=>(by rw[<-hT0];exact AX3 I4 O hx11 (by decide)),λw e x12 hx12=>F7 A5 O hx12,λw e=>(A4 _ Av1 O (hBet e)).ob (L3 (G7 _ _ _) (S9 _)),λw e x14 hx14=>K5 (v_mv O) hx14 (L3 (G7 _ _ _) (S9 _)),λw e x15 hx15=>by
   obtain⟨p1,q1,rfl,hp1,hq1⟩:=hx15;exact K5 (AA1 O O) hp1 (G7 _ _ _),λw e x15 hx15=>by
   obtain⟨p1,q1,rfl,hp1,hq1⟩:=hx15;exact ((AA1 O O).eq hq1).ob,λw e=>R6 BL7 e.size,trivial⟩ ?_
 rintro W4 d4 y5 hy5 y6 hy6 y11 hy11 y12 hy12 y14 hy14 y15 hy15 vb hvb _ ⟨b9,rfl,hb9,k9⟩;have hvb:=eV_sep hvb k9 BW1.1 BW1.2;obtain⟨ab,cb,hvbs,_⟩:=RL.len hvb;have hz4:=d4.size;refine .store C2 O O k9 (by rw[hvbs];rfl) (by simp[Value.cells]) (by rw[hvbs];simp[H3,Value.cells]) λW5 k9 u5=>?_;replace k9:Blk W5 b9 26 #[vb]:=by rw[hvbs] at k9 ⊢;exact k9
 have hvb:=eV.keep (Kp.upd u5 λh=>h.2 O) hvb;have d5:Ext w2 W5:=u5.below d4 hb9;have x5:=x2.trans d5;have k3:=k3.ext d5;have k5:=k5.ext d5;have hvb:eV.R S W5 vb (tab n.ls.length ((A0 n o).bt k)):=eV.mono (λ_ _ h=>h.1) hvb;have hbk:=H2 (g:=(A0 n o).bt k) hkM;have upT:∀ {W:World},Ext W5 W->Up S W:=λe=>up.ext (x5.trans e).size;refine .go O (.neqF O O O O (.goC O ?_));refine .par follows 7 [.inr (eQ.at S (qc ((1:Int):Rat))),.inl vb,.inl (iW (k:Nat)),.inr (Ptr eQ S (qc ((A0 n o).bt k k))),.inr (eQ.at S (qc ((A0 n o).bt k k))),.inr (eQ.at S (qc ((A0 n o).rst k))),.inr (Ah4 W5.heap.size 39 zq.cells)] [[],[],[],[(44,1),(45,2)],[(46,3)],[(43,0),(47,4)],[]] (by kernel_rfl) ⟨λw e=>(A4 _ I2 O (H9 (upT e) (by decide) (by decide))).oa,λw e=>(E2 C2 O (k9.ext e) O).ob,λw e=>(E2 A5 O (k5.ext e) O).ob,λw e=>C4 (i:=k) C9 A3 O (ER.ext eV hvb e) O hbk,λw e x3 hx3=>K1 A3 O hx3,λw e x0 hx0 x4 hx4=>(by have:=AK1 (L:=349529) (upT e) hx0 hx4 ((rsz1 (L:=1) (aA _)).mono (by decide)).toOk (Ah0 ok k k).toOk (by decide) (by decide);rw[C3,C3,show (((1:Int):Rat)-(A0 n o).bt k k)=(A0 n o).rst k from rfl] at this;exact (A4 _ AE1 O this).oa),λw e=>R6 E8 e.size,trivial⟩ ?_;rintro W6 d6 y0 hy0 y3 hy3 y4 hy4 y5 hy5 _ ⟨b11,rfl,hb11,k11⟩;have hy:=AY4 hy5 k11 AC8;refine .storeA (E:=eQ) A3 O O k11 O O hy (λh=>h.2 O) λW7 k11 u7 h7=>?_;have h7:eQ.R S W7 y5 (qc ((A0 n o).rst k)):=eQ.mono (λ_ _ h=>h.1) h7;have d7:Ext W5 W7:=u7.below d6 hb11;have x7:=x5.trans d7;have k3:=k3.ext d7;have k5:=k5.ext d7;have k9:=k9.ext d7;have hvb:=ER.ext eV hvb d7;have z7:=x7.size;refine .go O (.mkf [] [_,_,_] O O O O (.go O (.fa G5 O O (.ld J0 O O k3 O (.lenR I6 O O (ER.ext eLs hs x7) ?_)))));refine .make_ _ _ C9 J4 O (by decide) O O O (aA _) (by omega) (by omega) λW8 h n8=>?_;have f8:FB eQ 39 T0 W8 h (List.replicate n.ls.length q0):=FB.made n8 AF1;obtain⟨d8,_,hh,hs8⟩:=n8;generalize hG:(λl=>qc ((A0 n o).lo k l))=G;refine .go O (.len C9 O O (.goC O ?_));refine .lp (α:=Nat) [12,13,55] O (λi=>[(56,iW (i:Nat))]) (λi W=>Ext W7 W/\i<=n.ls.length/\FB eQ 39 T0 W h (fil n.ls.length i G q0)) (λi=>n.ls.length-i) 0 (lc1 O) ⟨d8,aC _,by rw[R8];exact f8⟩ ?_;rintro i W ⟨hW,hi,fb⟩;have hWs:=hW.size;have hhl:=fb.lt;refine .go O ?_;rcases aB i n.ls.length with hlt | hge;rotate_left
 ·have:i=n.ls.length:=by omega
  subst this;rw[AI3] at fb;refine .lssF O O O (by omega) (.goE O (.plain [_,_] results38 ⟨rfl,rfl,trivial⟩ ⟨x7.trans hW,_,_,rfl,?_,by rw[hK]⟩));rw[if_pos hK];have:=fb.toR (hsz:=by decide) (c:=n.ls.length) (upo h (by omega)) (by simp) (by simp;omega);rw[dC,eE,<-hG] at this;exact this
 have hGi:G i=qc (if i=k then -1 else (A0 n o).bt k i / (A0 n o).rst k):=by rw[<-hG];rfl
 refine .lssT O O O (by omega) (.go O ?_);refine .callv [iW (i:Nat)] O O E_lofac O (lofac_t (S:=S) (T0:=λj=>T0 j/\j≠h) (L:=400000) (up.ext (x7.trans hW).size) (λj hj=>⟨upo j (by omega),by omega⟩) (k5.ext hW) (k9.ext hW) (ER.ext eV hvb hW) (k11.ext hW) (ER.ext eQ h7 hW) hrst (λi=>(Ah0 ok k i).mono (by decide)) (Bh2 ok k) (by decide) (by decide) hlt) λvq W9 d9 hq=>?_;have hq:eQ.R (λj=>T0 j/\j≠h) W9 vq (G i):=by rw[hGi];exact hq
 refine .ixB (i:=i) C9 A3 O O O hlt (.storeF (E:=eQ) (i:=i) (by decide) A3 O O (fb.ext d9) O (by rw[L7];exact hlt) (aD _) hq λW10 f10 u10=>?_);rw[X5] at f10;exact .go O (.inc O O O (by omega) (.goN O (.mk (i+1) O (lc1 O) ⟨⟨u10.below (hW.trans d9) (by omega),hlt,f10⟩,by show n.ls.length-(i+1)<n.ls.length-i;omega⟩)))
noncomputable def Ac0 (n:NtV) (o:List Int) (k:Nat):List QV:=if lkE n o (k:Nat)=0 then loV n o k else []
theorem BU6(n:NtV)(o:List Int)(k:Nat):(Ac0 n o k).length<=n.ls.length:=by
 unfold Ac0;split
 ·exact fP (A2 ..)
 ·exact aC _
theorem E_rows:Ent prog 82:=en func82
theorem rows_c{w:World}{vo:Value}{x y:Value}(hn:vn=.agg #[x,y]){a:Option Addr}{m:Nat}(ho:vo=.slice a m c):CR prog 82 #[vn,vo] w (λv w'=>∃ b1 b2,v=.func (.func 134) #[] #[pW b1,pW b2] /\
  Blk w' b1 24 #[x,y]/\Blk w' b2 25 #[vo]/\w.heap.size<=b1/\w.heap.size<=b2):=by
 subst hn;subst ho;refine enter func82 O ntmps82 O (.sr (.box O O λw1 b1 n1=>.box O O λw2 b2 n2=>.an O O ?_));obtain⟨e1,k1,hb1,hs1⟩:=n1;obtain⟨e2,k2,hb2,hs2⟩:=n2;refine .sr (.mkf [] [_,_] O O O O (.an O O (.ret ?_)));exact .p1 _ results82 O ⟨e1.trans e2,b1,b2,rfl,k1.ext e2,k2,by omega,by have:=e1.size;omega⟩
theorem E_rows1:Ent prog 134:=en func134
theorem rows1_c{n:NtV}{o:List Int}{s vo:Value}{b1 b2:Nat}(hb:inI n.b):IterR prog 134 #[pW b1,pW b2] n.ls.length
  (λk B vs W=>∃ v,vs=[v]/\eV.R (λj=>B<=j) W v (Ac0 n o k)) (λW=>Blk W b1 24 #[iW n.b,s]/\Blk W b2 25 #[vo]/\eLs.R (λ_=>True) W s n.ls/\eI.R (λ_=>True) W vo o):=by
 intro l J X stJ stX hF hy W hJ;have hF0:=hF 0 W hJ;refine U8 func134 O ntmps134 O (.beg (.go O (.fa G5 O O (.go O (.ld J0 O O hF0.1 O (.go O (.lenR I6 O O hF0.2.2.1 (.goC O (.lp (α:=Nat) [0,1,2,9] O (λi=>[(10,iW (i:Nat))]) (λi W=>J i W/\i<=n.ls.length) (λi=>n.ls.length-i) 0 (lc1 O) ⟨hJ,aC _⟩ ?_)))))))));rintro i W ⟨hJ,hi⟩;obtain⟨f1,f2,f3,f4⟩:=hF i W hJ;obtain⟨_,_,_,_,hll⟩:=RL.len f3;refine .go O ?_;rcases aB i n.ls.length with hlt | hge;rotate_left
 ·have:i=n.ls.length:=by omega
  subst this;exact .lssF O O O (by omega) (.goE O (.plain [] results134 trivial (.inl hJ)))
 have hn:eN.R (λ_=>True) W (.agg #[iW n.b,s]) n:=⟨s,rfl,f3,hb⟩;refine .lssT O O O (by omega) (.go O (.ldA G2 O O f1 O (.go O (.ld AN6 O O f2 O (.go O (.call _ O V4 O (U5 (S:=λ_=>True) (T0:=λj=>W.heap.size<=j) upT (λk hk=>hk) hn f4) λv5 w5 e5 h5=>?_))))));obtain⟨vl,ve,rfl,hl,he⟩:=h5;subst he;rw[fK] at hl;have nxt:∀ {v:Value},eV.R (λj=>W.heap.size<=j) w5 v (Ac0 n o i)->YieldAt (wf none) 0 prog l [v].toArray w5 λe W'=>∃ u,e=.returned u/\((u=.bool true/\J (i+1) W')\/(u=.bool false/\X W')):=λ{v} hv=>by
  refine YieldAt.mono (hy i W w5 [v] hlt hJ e5 ⟨v,rfl,hv⟩) ?_;rintro e W' (⟨rfl,h⟩ | ⟨rfl,h⟩)
  ·exact⟨_,rfl,.inl ⟨rfl,h⟩⟩
  ·exact⟨_,rfl,.inr ⟨rfl,h⟩⟩
 refine .go O ?_;by_cases hK:lkE n o (i:Nat)=0
 ·rw[if_pos hK] at hl;refine .neqF O O O hK (.go O (.yld (l:=l) [vl] (R:=λv w'=>(v=.bool true/\J (i+1) w')\/(v=.bool false/\X w')) O O O (nxt (by unfold Ac0;rw[if_pos hK];exact hl)) ?_));rintro v w' (⟨rfl,h⟩ | ⟨rfl,h⟩)
  ·exact .go O (.inc O O O (by omega) (.goN O (.mk (i+1) O (lc1 O) ⟨⟨h,hlt⟩,by show n.ls.length-(i+1)<n.ls.length-i;omega⟩)))
  ·exact .goE O (.plain [] results134 trivial (.inr h))
 ·refine .neqT O O O hK (.go O (.yld (l:=l) [.slice none 0 0] (R:=λv w'=>(v=.bool true/\J (i+1) w')\/(v=.bool false/\X w')) O O O (nxt (by unfold Ac0;rw[if_neg hK];exact RL.nil)) ?_));rintro v w' (⟨rfl,h⟩ | ⟨rfl,h⟩)
  ·exact .go O (.inc O O O (by omega) (.goN O (.mk (i+1) O (lc1 O) ⟨⟨h,hlt⟩,by show n.ls.length-(i+1)<n.ls.length-i;omega⟩)))
  ·exact .goE O (.plain [] results134 trivial (.inr h))
structure TbJ (w:World) (b7 b1 b2:Nat) (s vo:Value) (n:NtV) (o:List Int) (k:Nat) (W:World):Prop where
 low:Below w.heap.size w W
 k1:Blk W b1 24 #[iW n.b,s]
 k2:Blk W b2 25 #[vo]
 acc:∃ v,Blk W b7 70 #[v]/\B4 eV 26 w.heap.size (λj=>w.heap.size<=j/\j≠b7) W v ((List.range k).map (Ac0 n o))
theorem TbJ.sft{w0:World}{b7 b1 b2:Nat}{s vo:Value}{n:NtV}{o:List Int}{k D:Nat}{W W':World}(h:TbJ w0 b7 b1 b2 s vo n o k W)(hs:Sft D W W')(hD:w0.heap.size<=D):TbJ w0 b7 b1 b2 s vo n o k W':=by obtain⟨v,h1,h2⟩:=h.acc;exact⟨h.low.trans (hs.below.mono hD),hs.cells.blk trivial h.k1,hs.cells.blk trivial h.k2,v,hs.cells.blk trivial h1,h2.kp hs.cells⟩
theorem zero_Mt:M0 prog 70=some (.slice none 0 0):=by kernel_rfl
theorem CA4{a:Option Addr}{n:Nat}:Y7 prog 70 1 [(0,.slice a n c)]=some (26,#[.slice a n c]):=by kernel_rfl
theorem E_Table:Ent prog 39:=en func39
theorem Table_t{w:World}{vo:Value}{n:NtV}{o:List Int}(upo:Up T0 w)(hn:eN.R (λ_=>True) w vn n)(ho:eI.R (λ_=>True) w vo o):CR prog 39 #[vn,vo] w (Two (eM.at T0 (if C8 n o=0 then (List.range n.ls.length).map (Ac0 n o) else [])) (Is (iW (C8 n o)))):=by
 obtain⟨s,rfl,hs,hb⟩:=hn;have hn:eN.R (λ_=>True) w (.agg #[iW n.b,s]) n:=⟨s,rfl,hs,hb⟩;obtain⟨ao,co,hvo,_⟩:=RL.len ho;refine enter func39 O ntmps39 O (.sr (.box O O λw1 b2 n1=>.asg O O (.an O O ?_)));obtain⟨e1,k2,hb2,hs1⟩:=n1;refine .seq (.sr (.ldA G2 O O k2 O (.mv O O (.call _ O BE6 O (BA4 (hn.ext e1) (ho.ext e1)) λv2 w2 e2 h2=>.an O O ?_))));subst h2;have x2:=e1.trans e2;refine .sr (.mv O O ?_);by_cases hE:C8 n o=0;rotate_left
 ·refine .neqT O O O hE (.nil (.condT O (.sr (.mv O O (.asg O O (.an O O (.ret (.plain [_,_] results39 ⟨rfl,rfl,trivial⟩ ⟨x2,_,_,rfl,?_,rfl⟩))))))));rw[if_neg hE];exact RL.nil
 rw[if_pos hE];have hl10:n.ls.length<=10:=(K6 hE).m;refine .neqF O O O hE (.nil (.condF O (.skip (.sr (.alloc O zero_Mt λw3 b7 n3=>.nil ?_)))));obtain⟨e3,k7,hb7,hs3⟩:=n3;have x3:=x2.trans e3;refine .seq (.sr (.ldA G2 O O ((k2.ext e2).ext e3) O (.mv O O ?_)));refine .call _ O E_rows O (rows_c O hvo) λv4 w4 e4 h4=>.nil ?_;obtain⟨p1,p2,rfl,kp1,kp2,hp1,hp2⟩:=h4;have x4:=x3.trans e4;have hs4:=e4.size;have hs2:=e2.size;have hsL:∀ {W:World},Below w.heap.size w W->eLs.R (λ_=>True) W s n.ls:=λhB=>eLs.mono (λ_ _ _=>trivial) (eLs.keep (λk c t f hk h=>(hB.block k hk.2).trans h) (ER.lt eLs hs));have hoL:∀ {W:World},Below w.heap.size w W->eI.R (λ_=>True) W vo o:=λhB=>eI.mono (λ_ _ _=>trivial) (eI.keep (λk c t f hk h=>(hB.block k hk.2).trans h) (ER.lt eI ho));refine .block (.rangeR (rows1_c (n:=n) (o:=o) (s:=s) (vo:=vo) hb) rfl E_rows1 (λk B vs W h=>by obtain⟨v,rfl,_⟩:=h;rfl)
  (λk B vs W W' h hs=>by obtain⟨v,h1,h2⟩:=h;exact⟨v,h1,eV.keep (λk c t f _ h=>hs.cells k c t f trivial h) h2⟩) (by decide)
  (TbJ w b7 p1 p2 s vo n o) (λ_ _=>False) (λk W W' h hs=>h.sft hs x4.size) (λ_ _ _ h _=>h.elim) (λk W h=>⟨h.k1,h.k2,hsL h.low,hoL h.low⟩) ?_ ?_ ?_ (λ_ _ h=>h.elim))
 ·exact⟨x4,kp1,kp2,_,k7.ext e4,B4.nil⟩
 ·intro l k W0 W vs hk hJ0 e0 hY;obtain⟨v8,rfl,_⟩:=hY;refine .region (.an O O ⟨rfl,rfl,λW2 hJ2 hsf hY2 hsz=>?_⟩);obtain⟨v9,h9,hrow⟩:=hY2
  cases h9;obtain⟨hlow,kp1,kp2,_⟩:=hJ2;have hW0:w.heap.size<=W0.heap.size:=hJ0.low.size;obtain⟨_,_,_,v,k7,hown⟩:=hJ0;have hob:∀ j,v.ownBlock=some j->j<W0.heap.size:=λj h=>hown.lt' j h;have hb70:=k7.lt;have k7:=hsf.cells.blk trivial (k7.ext e0);have hown:=(hown.ext e0).kp hsf.cells;have hlw:=hlow.size;have hrl:=BU6 n o k;obtain⟨a8,c8,hv8,_⟩:=RL.len hrow;refine .block (.region (.ld AK7 O O k7 O (.mv O O (.bsl _ O O (by rw[hv8];exact CA4) λW1 by_ ny=>?_))));obtain⟨ey,ky,hby,hsy⟩:=ny;have hlow1:=hlow.trans (ey.mono hlw);refine .gv O O (L5 (E:=eV) (base:=w.heap.size) (n:=Ac0 n o k) (e:=.slice a8 (Ac0 n o k).length c8) (by decide) E4 AD5 O O O (hown.ext ey) ky (by rw[<-hv8];exact ER.ext eV (eV.mono (λj _ h=>⟨⟨by have:=e0.size;have:=hW0;omega,by omega⟩,λe=>by have:=hob j e;omega⟩) hrow) ey) (by simp;omega) (by decide) hlow1.size) ?_;rintro v10 W8 ⟨ho8,hg8⟩;have hown1:=hown.ext ey;have k78:=hown1.gblk hg8 (k7.ext ey) (by decide);have kp18:=hown1.gblk hg8 (kp1.ext ey) (by decide);have kp28:=hown1.gblk hg8 (kp2.ext ey) (by decide);have hlow8:=hown1.below hg8 hlow1 hlow1.size;obtain⟨a9,c9,hv9⟩:=ho8.slice;refine .store AK7 O O k78 (by rw[hv9];rfl) (by simp) (by rw[hv9];simp[H3,Value.cells]) λW9 k9 u9=>.nil ?_;refine⟨((Oth.ext ey).trans (hown1.oth hg8)).trans (Oth.upd u9 k78),u9.below hlow8 (by omega),kp18.upd u9 (by omega),kp28.upd u9 (by omega),v10,by rw[hv9] at k9 ⊢;exact k9,?_⟩;have:=ho8.upd u9 k78 (by decide) (λh=>h.2 O);rw[aP,aM];exact this
 ·intro W hJ hD;obtain⟨hlow,kp1,kp2,v,k7,hown⟩:=hJ;refine .sr (.ld AK7 O O k7 O (.asg O O (.an O O (.ret (.mark [_,_] results39 hD ⟨rfl,rfl,trivial⟩ ⟨X8 hlow x4.size,_,_,rfl,?_,by rw[hE]⟩)))));exact (hown.kp (Kp.put hD O)).toR upo (λk hk=>upo k hk.1)
theorem Aw3{n:NtV}{o:List Int}(hO:C8 n o=0):line∈A7 (inL n o)<->0<=line/\line<n.ls.length/\line∉o:=by
 have hok:=(Z2 hO).2;constructor
 ·intro h;obtain⟨k,hk,rfl⟩:=List.mem_map.1 h;obtain⟨h1,h2⟩:=Ak8.1 hk;exact⟨by omega,by omega,λh'=>h2 ((AE5 hok k).1 h')⟩
 ·rintro⟨h1,h2,h3⟩;obtain⟨k,rfl⟩:=iM h1;exact List.mem_map.2 ⟨k,Ak8.2 ⟨by omega,λh=>h3 ((AE5 hok k).2 h)⟩,rfl⟩
theorem mem_brZ{n:NtV}{o:List Int}(hm:line∈A7 (inL n o)):line∈A7 (brL n o)<->(A0 n o).brg line.toNat:=by
 obtain⟨k,hk,rfl⟩:=List.mem_map.1 hm;rw[show (((k:Nat):Int)).toNat=k by simp];unfold A7 brL;rw[eG];constructor
 ·rintro⟨j,hj,e⟩;have:j=k:=by omega
  subst this;exact of_decide_eq_true (List.mem_filter.1 hj).2
 ·intro h;exact⟨k,List.mem_filter.2 ⟨hk,decide_eq_true h⟩,rfl⟩
theorem BR0:Ent prog 72:=en func72
theorem BN2{w:World}{vo:Value}{o:List Int}{k:Int}(up:Up S w)(ho:eI.R S w vo o)(hp:o.Pairwise (·<·))(hk:k∉o)(hki:inI k)(hl:o.length<=1000):CR prog 72 #[vo,iW k] w (eI.at S (AS6 o k)):=by refine enter func72 O ntmps72 O (.beg (.go O (.bsl _ O O S7 λW1 b1 n1=>?_)));have hk1:eI.R S W1 (.slice (some ⟨b1,0,none⟩) 1 1) [k]:=BC2 (E:=B8 .i64) (hsz:=by decide) [iW k] [k] n1 up O O (by decide) (Els.snoc Els.nil ⟨rfl,hki⟩);have d1:=n1.1;refine .call _ O BR1 O (BN3 (up.ext d1.size) (ho.ext d1) hk1 hp hk hki hl) λv2 w2 e2 h2=>?_;exact .goE O (.p1 _ results72 O ⟨d1.trans e2,h2⟩)
theorem BH7:Ent prog 70:=en func70
theorem BF8{w:World}{vo:Value}{n:NtV}{o:List Int}(up:Up S w)(hn:eN.R S w vn n)(ho:eI.R S w vo o):CR prog 70 #[vn,vo,iW line] w (Is (iW (lkE n o line))):=by
 obtain⟨s,rfl,hs,hb⟩:=hn;have hn:eN.R S w (.agg #[iW n.b,s]) n:=⟨s,rfl,hs,hb⟩;refine enter func70 O ntmps70 O (.beg (.go O (.box O O λw1 b3 n1=>?_)));obtain⟨e1,k3,hb3,hs1⟩:=n1;refine .go O (.ldA G2 O O k3 O (.go O (.call _ O Y4 O (V6 (hn.ext e1) (ho.ext e1)) λv2 w2 e2 h2=>?_)));subst h2;have x2:=e1.trans e2;have k3:=k3.ext e2;refine .go O ?_;by_cases hO:C8 n o=0;rotate_left
 ·have hlk:lkE n o line=C8 n o:=by unfold lkE;rw[if_pos hO]
  exact .neqT O O O hO (.goE O (.plain [_] results70 ⟨rfl,trivial⟩ ⟨x2,by rw[hlk];rfl⟩))
 have no1:line∉A7 (inL n o)->∀ {W:World},Ext w W->(Ext w W/\Is (iW (lkE n o line)) (iW 1) W):=λh W hx=>⟨hx,by
  have:lkE n o line=1:=by unfold lkE;rw[if_neg (by simpa using hO),if_neg h]
  rw[this]⟩
 refine .neqF O O O hO (.go O ?_);by_cases h0:line<0
 ·exact .lssT O O O h0 (.goE O (.p1 _ results70 O (no1 (λh=>by have:=((Aw3 hO).1 h).1;omega) x2)))
 refine .lssF O O O h0 (.go O (.fa G5 O O (.go O (.ld J0 O O k3 O (.go O (.lenR I6 O O (hs.ext x2) (.go O ?_)))))));by_cases h1:(n.ls.length:Int)<=line
 ·exact .geqT O O O h1 (.goE O (.p1 _ results70 O (no1 (λh=>by have:=((Aw3 hO).1 h).2.1;omega) x2)))
 refine .geqF O O O h1 (.go O (.call _ O AG6 O (AF6 (k:=line) (ho.ext x2)) λv4 w4 e4 h4=>?_));subst h4;have x4:=x2.trans e4;have k3:=k3.ext e4;by_cases h2:line∈o
 ·rw[decide_eq_true h2];exact .goE O (.p1 _ results70 O (no1 (λh=>((Aw3 hO).1 h).2.2 h2) x4))
 rw[decide_eq_false h2];have hm:line∈A7 (inL n o):=(Aw3 hO).2 ⟨by omega,by omega,h2⟩;refine .go O (.ldA G2 O O k3 O (.go O (.call _ O Av3 O (Au1 (up.ext x4.size) (hn.ext x4) (ho.ext x4)) λv5 w5 e5 h5=>?_)));obtain⟨vb,ve,rfl,hbr,he⟩:=h5;rw[if_pos hO] at hbr;have x5:=x4.trans e5;refine .go O (.call _ O AG6 O (AF6 (k:=line) hbr) λv6 w6 e6 h6=>?_);subst h6;have x6:=x5.trans e6;have hiff:=mem_brZ hm;by_cases hB:(A0 n o).brg line.toNat
 ·rw[decide_eq_true (hiff.2 hB)];have hlk:lkE n o line=11:=by unfold lkE;rw[if_neg (by simpa using hO),if_pos hm,if_pos hB]
  exact .goE O (.plain [_] results70 ⟨rfl,trivial⟩ ⟨x6,by rw[hlk];rfl⟩)
 ·rw[decide_eq_false λh=>hB (hiff.1 h)];have hlk:lkE n o line=0:=by unfold lkE;rw[if_neg (by simpa using hO),if_pos hm,if_neg hB]
  exact .goE O (.plain [_] results70 ⟨rfl,trivial⟩ ⟨x6,by rw[hlk];rfl⟩)
theorem Am5:Ent prog 75:=en func75
theorem Aj8{w:World}{n:NtV}{o:List Int}{k:Nat}(up:Up S w)(hn:eN.R S w vn n)(hO:C8 n o=0)(hkM:k<n.ls.length):CR prog 75 #[vn,iW (k:Nat)] w (eV.at S (trX (A0 n o).B ((A0 n o).F k) ((A0 n o).T k))):=by obtain⟨s,rfl,hs,hb⟩:=hn;have ok:=K6 hO;have hnb:=ok.b;have hB6:=ok.b6;refine enter func75 O ntmps75 O (.beg (.go O (.box O O λw1 b2 n1=>.goC O ?_)));obtain⟨e1,k2,hb2,hs1⟩:=n1;replace k2:Blk w1 b2 24 #[iW n.b,s]:=k2;rw[hnb] at k2;have hgl:n.ls[k]?=some (n.ls.getD k ln0):=B0 hkM;have hF0:lnI (n.ls.getD k ln0) 0=(((A0 n o).F k:Nat):Int):=ok.fI k hkM;have hT0:lnI (n.ls.getD k ln0) 1=(((A0 n o).T k:Nat):Int):=ok.tI k hkM;have hsW:∀ {W':World},Ext w1 W'->eLs.R S W' s n.ls:=λe=>ER.ext eLs hs (e1.trans e);have upX:∀ {W:World},Ext w1 W->Up S W:=λe=>up.ext (e1.trans e).size;have hunk:∀ c:Nat,vk 1 (tab (A0 n o).B (Z0 (c:Nat))):=λc=>Ay2 _ _;refine .par follows 17 [.inl _,.inl (iW ((A0 n o).B:Nat)),.inl _,.inl s,.inl _,.inr (Ptr eL S (n.ls.getD k ln0)),.inr (Ptr (B8 .i64) S ((A0 n o).F k:Nat)),.inl (iW ((A0 n o).F k:Nat)),.inr (eV.at S (tab (A0 n o).B (Z0 ((A0 n o).F k:Nat)))),.inl _,.inl (iW ((A0 n o).B:Nat)),.inl _,.inl s,.inl _,.inr (Ptr eL S (n.ls.getD k ln0)),.inr (Ptr (B8 .i64) S ((A0 n o).T k:Nat)),.inl (iW ((A0 n o).T k:Nat))] [[],[(5,0)],[],[(7,2)],[],[(8,3),(9,4)],[(10,5)],[(11,6)],[(6,1),(12,7)],[],[(14,9)],[],[(16,11)],[],[(17,12),(18,13)],[(19,14)],[(20,15)]] (by kernel_rfl) ⟨fao F9 O,λw e=>(E2 A5 O (k2.ext e) O).ob,fao G5 O,λw e=>(E2 J0 O (k2.ext e) O).ob,mvo O,λw e=>C4 (i:=k) I6 L8 O (hsW e) O hgl,λw e x5 hx5=>(by rw[<-hF0];exact AX3 I5 O hx5 (by decide)),λw e x6 hx6=>F7 A5 O hx6,λw e=>(A4 _ Y5 O (Av7 (upX e) (by omega))).oa,fao F9 O,λw e=>(E2 A5 O (k2.ext e) O).ob,fao G5 O,λw e=>(E2 J0 O (k2.ext e) O).ob,mvo O,λw e=>C4 (i:=k) I6 L8 O (hsW e) O hgl,λw e x14 hx14=>(by rw[<-hT0];exact AX3 I4 O hx14 (by decide)),λw e x15 hx15=>F7 A5 O hx15,trivial⟩ ?_;intro W3 d3 y5 hy5 y6 hy6 y8 hy8 y14 hy14 y15 hy15;refine .go O (.call _ O Y5 O (Av7 (up.ext (e1.trans d3).size) (by omega)) λv17 W17 d17 hy17=>?_);have hy8:=ER.ext eV hy8 d17;have d3:=d3.trans d17;refine .go O (.call _ O BZ4 O (BU9 (L:=1) (upX d3) hy8 hy17 (hunk _) (hunk _) (by decide) (by decide) (by rw[A2];omega) (by rw[A2];omega)) λv4 W4 d4 h4=>?_);exact .goE O (.p1 _ results75 O ⟨e1.trans (d3.trans d4),h4⟩)
theorem Bo5{w:World}{vu:Value}{n:NtV}{o:List Int}{k:Nat}(up:Up S w)(hn:eN.R S w vn n)(hO:C8 n o=0)(hkM:k<n.ls.length)(hko:k∉oN o)(hB:¬ (A0 n o).brg k)(hu:eI.R S w vu (AS6 o (k:Nat)))(hx:eV.R S w vx x)(hkx:vk L x)(hL1:1<=L)(hL:L<=9000) :
  CR prog 71 #[vn,vu,vx] w (Two (eV.at S (if anE n o x=0 then afV n o k x else [])) (Is (iW (anE n o x)))):=by
 obtain⟨hOu,hcut⟩:=Bd2 hO hkM (Az8 (Aa8 (Z2 hO).2).1 (Aa9 hko));have h:=Ad0 up hn hu hx hkx hL1 hL;rw[BQ9 hO hOu hcut hB,hcut] at h;exact h
theorem AV2:Ent prog 36:=en func36
theorem AU8{w:World}{vo:Value}{n:NtV}{o:List Int}(up:Up S w)(hn:eN.R S w vn n)(ho:eI.R S w vo o) :
  CR prog 36 #[vn,vo,iW line] w (Two (eV.at S (if lkE n o line=0 then loV n o line.toNat else [])) (Is (iW (lkE n o line)))):=by
 obtain⟨s,rfl,hs,hb⟩:=hn;have hn:eN.R S w (.agg #[iW n.b,s]) n:=⟨s,rfl,hs,hb⟩;refine enter func36 O ntmps36 O (.beg (.go O (.box O O λw1 b4 n1=>?_)));obtain⟨e1,k4,hb4,hs1⟩:=n1;replace k4:Blk w1 b4 24 #[iW n.b,s]:=k4;refine .go O (.ldA G2 O O k4 O (.go O ?_));refine .call _ O BH7 O (BF8 (up.ext e1.size) (hn.ext e1) (ho.ext e1)) λv2 w2 e2 h2=>?_;subst h2;have x2:=e1.trans e2;have k4:=k4.ext e2;refine .go O ?_;by_cases hK:lkE n o line=0;rotate_left
 ·refine .neqT O O O hK (.goE O (.plain [_,_] results36 ⟨rfl,rfl,trivial⟩ ⟨x2,_,_,rfl,?_,rfl⟩));rw[if_neg hK];exact RL.nil
 obtain⟨hO,k,rfl,hkM,hg,hko,hB⟩:=BO6 hK;have ok:=K6 hO;have hol:=BA2 hO;have hM10:n.ls.length<=10:=ok.m;have hpw:=Aa8 (Z2 hO).2;have hFB:=ok.f k hkM;have hTB:=ok.t k hkM;have hroot:=Nw.root_line (n:=A0 n o) hkM hg;have hvk:=trX_vk (a:=(A0 n o).F k) (b:=(A0 n o).T k) (A0 n o).B;have hAn:=trX_an hO hFB hTB hroot;have hFl:=trX_fl hO hFB hTB;have hne:(A0 n o).F k≠(A0 n o).T k:=ok.ne k hkM;have hinc:∀ b,b<(A0 n o).B->rv (trX (A0 n o).B ((A0 n o).F k) ((A0 n o).T k)) b=(A0 n o).inc k b:=λb hb=>Bb4 hb;have hdiff:=λl (hl:l<(A0 n o).M)=>Nw.lo_diff ok.ok hkM hg hne hB hinc hl;have hfk:=λl (hl:l<(A0 n o).M)=>Nw.pair_fl ok.ok hkM hg hinc hl;have hbt0:=Nw.bt_ne ok.ok hkM hg hne;have hfa:=λl (hl:l<(A0 n o).M)=>Nw.lo_flow ok.ok hkM hg hB (Nw.pair_bal ok.ok hkM hg hinc) hl;have upX:∀ {W:World},Ext w2 W->Up S W:=λe=>up.ext (x2.trans e).size;have hnX:∀ {W:World},Ext w2 W->eN.R S W (.agg #[iW n.b,s]) n:=λe=>hn.ext (x2.trans e);have hoX:∀ {W:World},Ext w2 W->eI.R S W vo o:=λe=>ER.ext eI ho (x2.trans e);generalize hP:trX (A0 n o).B ((A0 n o).F k) ((A0 n o).T k)=P at hvk hAn hFl hdiff hfk hfa;rw[show ((k:Nat):Int).toNat=k by simp];refine .neqF O O O hK (.goC O ?_);refine .par follows 10 [.inl (.agg #[iW n.b,s]),.inl _,.inl (.agg #[iW n.b,s]),.inl _,.inr (eV.at S P),.inr (Two (eV.at S (tab n.ls.length ((A0 n o).fl ((A0 n o).an (rv P))))) (Is (iW 0))),.inr (Two (eV.at S (tab n.ls.length ((A0 n o).fl ((A0 n o).an (rv P))))) (Is (iW 0))),.inr (eV.at S (tab n.ls.length ((A0 n o).fl ((A0 n o).an (rv P))))),.inl (iW 0),.inr (eV.at S (tab n.ls.length ((A0 n o).fl ((A0 n o).an (rv P)))))] [[],[],[],[],[(27,2),(28,3)],[(25,0),(26,1),(29,4)],[(30,5)],[(24,6)],[(24,6)],[(31,7)]] (by kernel_rfl) ⟨λw e=>(E1 G2 O (k4.ext e) O).ob,mvo O,λw e=>(E1 G2 O (k4.ext e) O).ob,mvo O,λw e=>(by have:=Aj8 (upX e) (hnX e) hO hkM;rw[hP] at this;exact (A4 _ Am5 O this).oa),λw e x4 hx4=>(by have:=Ad0 (L:=3) (upX e) (hnX e) (hoX e) hx4 hvk (by decide) (by decide);rw[hAn,if_pos rfl] at this;exact (A4 _ Ae3 O this).ob (L3 (G7 _ _ _) (S9 _))),λw e x5 hx5=>K5 (v_mv O) hx5 (L3 (G7 _ _ _) (S9 _)),λw e x6 hx6=>by
   obtain⟨p1,q1,rfl,hp1,hq1⟩:=hx6;exact K5 (AA1 O O) hp1 (G7 _ _ _),λw e x6 hx6=>by
   obtain⟨p1,q1,rfl,hp1,hq1⟩:=hx6;exact ((AA1 O O).eq hq1).ob,λw e x7 hx7=>K5 (AR9 O) hx7 (G7 _ _ _),trivial⟩ ?_
 intro W3 d3 y4 hy4 y5 hy5 y6 hy6 y7 hy7 y9 hy9;have d4:=d3;have hbf:=hy9;refine .goC O ?_;refine .par follows 12 [.inl (.agg #[iW n.b,s]),.inl _,.inl _,.inr (eI.at S (AS6 o (k:Nat))),.inl (.agg #[iW n.b,s]),.inl _,.inr (eV.at S P),.inr (Two (eV.at S (tab n.ls.length (((A0 n o).cut k).fl (((A0 n o).cut k).an (rv P))))) (Is (iW 0))),.inr (Two (eV.at S (tab n.ls.length (((A0 n o).cut k).fl (((A0 n o).cut k).an (rv P))))) (Is (iW 0))),.inr (eV.at S (tab n.ls.length (((A0 n o).cut k).fl (((A0 n o).cut k).an (rv P))))),.inl (iW 0),.inr (eV.at S (tab n.ls.length (((A0 n o).cut k).fl (((A0 n o).cut k).an (rv P)))))] [[],[],[],[(35,1),(36,2)],[],[],[(38,4),(39,5)],[(34,0),(37,3),(40,6)],[(41,7)],[(33,8)],[(33,8)],[(42,9)]] (by kernel_rfl) ⟨λw e=>(E1 G2 O ((k4.ext d4).ext e) O).ob,mvo O,mvo O,λw e=>(A4 _ BR0 O (BN2 (upX (d4.trans e)) (hoX (d4.trans e)) hpw.1 (Aa9 hko) (K8.2 (by omega)) (by omega))).oa,λw e=>(E1 G2 O ((k4.ext d4).ext e) O).ob,mvo O,λw e=>(by have:=Aj8 (upX (d4.trans e)) (hnX (d4.trans e)) hO hkM;rw[hP] at this;exact (A4 _ Am5 O this).oa),λw e x3 hx3 x6 hx6=>(by have:=Bo5 (L:=3) (upX (d4.trans e)) (hnX (d4.trans e)) hO hkM hko hB hx3 hx6 hvk (by decide) (by decide);rw[hAn,if_pos rfl] at this;exact (A4 _ Ae3 O this).ob (L3 (G7 _ _ _) (S9 _))),λw e x7 hx7=>K5 (v_mv O) hx7 (L3 (G7 _ _ _) (S9 _)),λw e x8 hx8=>by
   obtain⟨p1,q1,rfl,hp1,hq1⟩:=hx8;exact K5 (AA1 O O) hp1 (G7 _ _ _),λw e x8 hx8=>by
   obtain⟨p1,q1,rfl,hp1,hq1⟩:=hx8;exact ((AA1 O O).eq hq1).ob,λw e x9 hx9=>K5 (AR9 O) hx9 (G7 _ _ _),trivial⟩ ?_
 intro W5 d5 y3 hy3 y6 hy6 y7 hy7 y8 hy8 y9 hy9 y11 hy11;have haf:=hy11;have hbf:=ER.ext eV hbf d5;have d6:=d4.trans d5;have x6:=x2.trans d6;have z6:=x6.size;have haf:=ER.lt eV haf;have hbf:=ER.lt eV hbf;generalize hG:(λl=>qc ((A0 n o).lo k l))=G;have htab:loV n o k=(List.range n.ls.length).map G:=by rw[<-hG];rfl
 rw[if_pos hK,htab,hK];refine .goC O ?_;refine .lp (α:=Nat×Value) [2,9,11] O (λy=>[(13,y.2),(14,iW (y.1:Nat))]) (λy W=>Ext W5 W/\y.1<=n.ls.length/\B4 eQ 39 W5.heap.size S W y.2 ((List.range y.1).map G)) (λy=>n.ls.length-y.1) (0,.slice none 0 0) (lc2 O O) ⟨Ext.refl _,aC _,B4.nil⟩ ?_;rintro⟨i,u⟩ W ⟨hW,hi,hU⟩;replace hW:Ext W5 W:=hW;replace hi:i<=n.ls.length:=hi;replace hU:B4 eQ 39 W5.heap.size S W u ((List.range i).map G):=hU;have zW:=hW.size;refine .go O (.lenR C9 O O (ER.ext eV hbf hW) ?_);rw[A2];rcases aB i n.ls.length with hlt | hge;rotate_left
 ·have:i=n.ls.length:=by omega
  subst this;exact .lssF O O O (by omega) (.goE O (.p2 results36 O O ⟨x6.trans hW,_,_,rfl,hU.toR (λk hk=>up k (by omega)) (λ_ h=>h),rfl⟩))
 have hGi:G i=qc ((A0 n o).lo k i):=by rw[<-hG]
 obtain⟨es,ho1,ho2⟩:=id hU;have hub:∀ k,u.ownBlock=some k->W5.heap.size<=k/\k<W.heap.size:=λk h=>ho1.lt k h;generalize hT:(λk=>S k/\u.ownBlock≠some k)=T;have hTS:∀ k,T k->S k/\u.ownBlock≠some k:=λk h=>by rw[<-hT] at h;exact h
 have upT':∀ {W':World},Ext W W'->Up T W':=λh k hk=>by have:=h.size;rw[<-hT];exact⟨up k (by omega),λe=>by have:=(hub k e).2;omega⟩
 have toT:∀ {v:Value} {l:List QV} {W':World},eV.R (λk=>S k/\k<W5.heap.size) W5 v l->Ext W W'->eV.R T W' v l:=λh e=>ER.ext eV (eV.mono (S':=T) (λk _ h=>by rw[<-hT];exact⟨h.1,λe=>by have:=(hub k e).1;have:=h.2;omega⟩) h) (hW.trans e);have hga:(tab n.ls.length (((A0 n o).cut k).fl (((A0 n o).cut k).an (rv P))))[i]?=some (qc ((A0 n o).bt k i+(A0 n o).lo k i*(A0 n o).bt k k)):=by rw[H2 hlt,hfa i hlt,hfk i hlt,hfk k hkM]
 have hgb:∀ {j:Nat},j<n.ls.length->(tab n.ls.length ((A0 n o).fl ((A0 n o).an (rv P))))[j]?=some (qc ((A0 n o).bt k j)):=λhj=>by rw[H2 hj,hfk _ hj]
 have hbz:=λj=>(Ah0 ok k j).mono (show 349529<=2000000 by decide);have haz:Rsz ((A0 n o).bt k i+(A0 n o).lo k i*(A0 n o).bt k k) 2000000:=((Ah0 ok k i).add ((lo_rsz ok k i).mul (Ah0 ok k k))).mono (by decide);have hsz:Rsz ((A0 n o).bt k i+(A0 n o).lo k i*(A0 n o).bt k k-(A0 n o).bt k i) 5000000:=by rw[cW];exact (haz.add (hbz i).neg).mono (by decide)
 have hGv:G i=qc (((A0 n o).bt k i+(A0 n o).lo k i*(A0 n o).bt k k-(A0 n o).bt k i)*((A0 n o).bt k k)⁻¹):=by rw[hGi];congr 1;have:=hdiff i hlt;rw[hfa i hlt,hfk i hlt,hfk k hkM,dG] at this;exact this.symm
 refine .lssT O O O (by omega) (.goC O ?_);refine .parL follows 18 [16] [.inl _,.inl _,.inr (Ptr eQ T (qc ((A0 n o).bt k i+(A0 n o).lo k i*(A0 n o).bt k k))),.inr (eQ.at T (qc ((A0 n o).bt k i+(A0 n o).lo k i*(A0 n o).bt k k))),.inl _,.inl _,.inr (Ptr eQ T (qc ((A0 n o).bt k i))),.inr (eQ.at T (qc ((A0 n o).bt k i))),.inr (eQ.at T (qc ((A0 n o).bt k i+(A0 n o).lo k i*(A0 n o).bt k k-(A0 n o).bt k i))),.inl _,.inl (iW (k:Nat)),.inr (Ptr eQ T (qc ((A0 n o).bt k k))),.inr (eQ.at T (qc ((A0 n o).bt k k))),.inr (Two (eQ.at T (G i)) (Is (iW 0))),.inr (Two (eQ.at T (G i)) (Is (iW 0))),.inr (eQ.at T (G i)),.inl (iW 0),.inr (Ah4 W.heap.size 39 zq.cells)] [[],[],[(51,0),(52,1)],[(53,2)],[],[],[(55,4),(56,5)],[(57,6)],[(54,3),(58,7)],[],[],[(60,9),(61,10)],[(62,11)],[(59,8),(63,12)],[(64,13)],[(50,14)],[(50,14)],[]] (by kernel_rfl) ⟨mvo O,mvo O,λw e=>C4 (i:=i) C9 A3 O (toT haf e) O hga,λw e x2 hx2=>K1 A3 O hx2,mvo O,mvo O,λw e=>C4 (i:=i) C9 A3 O (toT hbf e) O (hgb hlt),λw e x6 hx6=>K1 A3 O hx6,λw e x3 hx3 x7 hx7=>(by have:=AW4 (L:=2000000) (upT' e) hx3 hx7 haz.toOk (AJ7 (hbz i)) (by decide) (by decide);rw[C3,C3] at this;exact (A4 _ AZ1 O this).oa),mvo O,mvo O,λw e=>C4 (i:=k) C9 A3 O (toT hbf e) O (hgb hkM),λw e x11 hx11=>K1 A3 O hx11,λw e x8 hx8 x12 hx12=>(by have:=AW7 (L:=5000000) (upT' e) hx8 hx12 hsz.toOk ((hbz k).mono (by decide)).toOk (by decide) (by decide) (by rw[C3];exact hbt0);rw[C3,C3,<-hGv] at this;exact (A4 _ AZ4 O this).ob (L3 (G7 _ _ _) (S9 _))),λw e x13 hx13=>K5 (v_mv O) hx13 (L3 (G7 _ _ _) (S9 _)),λw e x14 hx14=>by
   obtain⟨p1,q1,rfl,hp1,hq1⟩:=hx14;exact K5 (AA1 O O) hp1 (G7 _ _ _),λw e x14 hx14=>by
   obtain⟨p1,q1,rfl,hp1,hq1⟩:=hx14;exact ((AA1 O O).eq hq1).ob,λw e=>R6 E8 e.size,trivial⟩ ?_
 rintro W7 d7 y2 hy2 y3 hy3 y6 hy6 y7 hy7 y8 hy8 y11 hy11 y12 hy12 y13 hy13 y14 hy14 y15 hy15 _ ⟨b15,rfl,hb15,k15⟩;have hy:=AY4 hy15 k15 AC8;refine .storeA (E:=eQ) A3 O O k15 O O hy (λh=>h.2 O) λW8 k15 u8 h8=>?_;have D8:Ext W W8:=u8.below d7 hb15;have h8:eQ.R T W8 y15 (G i):=eQ.mono (λ_ _ h=>h.1) h8;have hqv:=G8 (E:=eQ) O h8;refine .go O (.ldA A3 O O k15 (eQ.csz h8) ?_);rw[<-hqv];have hq':=h8;obtain⟨s1,t1,rfl,_,_⟩:=hq';refine .bsl _ O O AD7 λW9 b9 n9=>?_;obtain⟨d9,k9,hb9,hs9⟩:=n9;have D9:=D8.trans d9;have hW9:=hW.trans D9;refine .gv O O (L5 (E:=eQ) (base:=W5.heap.size) (n:=G i) (by decide) C9 J4 O O O (hU.ext D9) k9 (eQ.mono (λk _ h=>hTS k h) (ER.ext eQ h8 d9)) (by simp;omega) (by decide) hW9.size) ?_;rintro v9 W10 ⟨hO9,g9⟩;have hW10:Ext W5 W10:=B4.below (hU.ext D9) g9 hW9 hW9.size;exact .go O (.inc O O O (by omega) (.goN O (.mk (i+1,v9) O (lc2 O O) ⟨⟨hW10,hlt,by show B4 _ _ _ _ W10 v9 ((List.range (i+1)).map G);rw[aP,aM];exact hO9⟩,by show n.ls.length-(i+1)<n.ls.length-i;omega⟩)))
theorem BH8:Ent prog 37:=en func37
theorem BF9{w:World}{vo:Value}{n:NtV}{o:List Int}(up:Up S w)(hn:eN.R S w vn n)(ho:eI.R S w vo o) :
  CR prog 37 #[vn,vo] w (Two (eM.at S (if C8 n o=0 then (List.range n.ls.length).map (Ac0 n o) else [])) (Is (iW (C8 n o)))):=by
 obtain⟨s,rfl,hs,hb⟩:=hn;have hn:eN.R S w (.agg #[iW n.b,s]) n:=⟨s,rfl,hs,hb⟩;refine enter func37 O ntmps37 O (.beg (.go O (.box O O λw1 b2 n1=>?_)));obtain⟨e1,k2,hb2,hs1⟩:=n1;replace k2:Blk w1 b2 24 #[iW n.b,s]:=k2;refine .go O (.ldA G2 O O k2 O (.go O ?_));refine .call _ O AT6 O (AS1 (up.ext e1.size) (hn.ext e1) (ho.ext e1)) λv2 w2 e2 h2=>?_;obtain⟨vl,ve,rfl,_,he⟩:=h2;replace he:ve=.int .i64 (C8 n o):=he;subst he;have x2:=e1.trans e2;have k2:=k2.ext e2;have z2:=x2.size;refine .go O ?_;by_cases hO:C8 n o=0;rotate_left
 ·refine .neqT O O O hO (.goE O (.plain [_,_] results37 ⟨rfl,rfl,trivial⟩ ⟨x2,_,_,rfl,?_,rfl⟩));rw[if_neg hO];exact RL.nil
 have hM10:n.ls.length<=10:=(K6 hO).m;rw[if_pos hO];have hs0:=ER.lt eLs hs;refine .neqF O O O hO (.goC O ?_);refine .lp (α:=Nat×Value) [1,2] O (λy=>[(8,y.2),(9,iW (y.1:Nat))]) (λy W=>Ext w2 W/\y.1<=n.ls.length/\B4 eV 26 w2.heap.size S W y.2 ((List.range y.1).map (Ac0 n o))) (λy=>n.ls.length-y.1) (0,.slice none 0 0) (lc2 O O) ⟨Ext.refl _,aC _,B4.nil⟩ ?_;rintro⟨i,u⟩ W ⟨hW,hi,hU⟩;replace hW:Ext w2 W:=hW;replace hi:i<=n.ls.length:=hi;replace hU:B4 eV 26 w2.heap.size S W u ((List.range i).map (Ac0 n o)):=hU;have xW:=x2.trans hW;have zW:=hW.size;have k2:=k2.ext hW;refine .go O (.fa G5 O O (.ld J0 O O k2 O (.lenR I6 O O (ER.ext eLs hs xW) ?_)));rcases aB i n.ls.length with hlt | hge;rotate_left
 ·have:i=n.ls.length:=by omega
  subst this;exact .lssF O O O (by omega) (.goE O (.plain [_,_] results37 ⟨rfl,rfl,trivial⟩ ⟨xW,_,_,rfl,hU.toR (λk hk=>up k (by omega)) (λ_ h=>h),by rw[hO]⟩))
 have hub:∀ k,u.ownBlock=some k->w2.heap.size<=k/\k<W.heap.size:=λk h=>by obtain⟨es,ho1,ho2⟩:=id hU;exact ho1.lt k h
 have hnT:eN.R (λk=>S k/\u.ownBlock≠some k) W (.agg #[iW n.b,s]) n:=⟨s,rfl,ER.ext eLs (eLs.mono (λk _ h=>⟨h.1,λe=>by have:=(hub k e).1;have:=h.2;omega⟩) hs0) xW,hb⟩;have hoT:eI.R (λk=>S k/\u.ownBlock≠some k) W vo o:=ER.ext eI (eI.mono (λk _ h=>⟨h.1,λe=>by have:=(hub k e).1;have:=h.2;omega⟩) (ER.lt eI ho)) xW;refine .lssT O O O (by omega) (.go O (.ldA G2 O O k2 O (.go O ?_)));refine .call _ O AV2 O (AU8 (λk hk=>⟨up k (by omega),λe=>by have:=(hub k e).2;omega⟩) hnT hoT) λv4 W4 d4 h4=>?_;obtain⟨vr,ve,rfl,hr,_⟩:=h4;replace hr:eV.R (λk=>S k/\u.ownBlock≠some k) W4 vr (Ac0 n o i):=by rw[show ((i:Nat):Int).toNat=i by simp] at hr;exact hr
 have hrl:=BU6 n o i;obtain⟨ar,cr,hvr,_⟩:=RL.len hr;refine .go O (.bsl _ O O (by rw[hvr];exact CA4) λW5 b5 n5=>?_);obtain⟨d5,k5,hb5,hs5⟩:=n5;have D5:=d4.trans d5;have hW5:=hW.trans D5;have hk5:Blk W5 b5 26 vr.cells:=by rw[hvr];exact k5
 refine .gv O O (L5 (E:=eV) (base:=w2.heap.size) (n:=Ac0 n o i) (e:=vr) (by decide) E4 AD5 O O O (hU.ext D5) hk5 (ER.ext eV hr d5) (by simp;omega) (by decide) hW5.size) ?_;rintro v6 W6 ⟨hO6,g6⟩;have hW6:Ext w2 W6:=B4.below (hU.ext D5) g6 hW5 hW5.size;exact .go O (.inc O O O (by omega) (.goN O (.mk (i+1,v6) O (lc2 O O) ⟨⟨hW6,hlt,by show B4 _ _ _ _ W6 v6 ((List.range (i+1)).map (Ac0 n o));rw[aP,aM];exact hO6⟩,by show n.ls.length-(i+1)<n.ls.length-i;omega⟩)))
section
variable {P:Program} {σ:Env} {w:World} {d:Option Tmp} {ty:TypeId} {pos:String} {af:Array Edge} {g:Option (Nat×Bool)} {S:Nat->Prop}
end
section
variable {S:Nat->Prop} {w:World} {σ:Env} {d:Option Tmp} {ty:TypeId} {pos:String} {af:Array Edge} {g:Option (Nat×Bool)}
end
def Sim (k:Value->Value->Prop) (w w':World):Prop:=∀ p u,AC6 w p u->∃ u',AC6 w' p u'/\k u u'
theorem AC6.blk{w:World}(h:AC6 w p u):∃ b off cs t f,p=⟨b,off,none⟩/\w.heap[b]?=some (.cells cs t f)/\cs[off]?=some u:=by
 obtain⟨h1,_⟩:=h;unfold World.cell? at h1;split at h1
 ·rename_i c e f hh;obtain⟨b,off,spot⟩:=p
  cases spot with
  | none=>exact⟨b,off,c,e,f,rfl,hh,by simpa using h1⟩
  | some s=>simp at h1
 ·cases h1
theorem heap_setCell{w:World}{b off:Nat}{v:Value}{cs:Array Value}{f:Nat×Nat}(h:w.heap[b]?=some (.cells cs t f)):(w.setCell ⟨b,off,none⟩ v).heap[b]?=some (.cells (cs.setIfInBounds off v) t f):=by unfold World.setCell;simp[gU,h]
theorem AU9{w:World}{b k off:Nat}{v:Value}(h:k≠b):(w.setCell ⟨b,off,none⟩ v).heap[k]?=w.heap[k]?:=by unfold World.setCell;simp[gU,Ne.symm h]
theorem AC6.inj{w:World}{v:Value}(h:AC6 w p u)(h':AC6 w p v):u=v:=by have h1:=h.1;rw[h'.1] at h1;exact (Option.some.inj h1).symm
theorem AC6.setSelf{w:World}{v:Value}(h:AC6 w p u):AC6 (w.setCell p v) p v:=by
 obtain⟨b,off,cs,t,f,rfl,hb,hc⟩:=h.blk;have hset:=heap_setCell (w:=w) (off:=off) (v:=v) hb;have hlt:=(Array.getElem?_eq_some_iff.1 hc).1;refine⟨?_,?_⟩
 ·unfold World.cell?;simp[hset,hlt]
 ·have hfr:=h.2;unfold World.frozen? at hfr ⊢;simp[hb] at hfr;simp[hset];exact hfr
theorem AC6.setOther{w:World}{q:Addr}{x v:Value}(h:AC6 w p u)(hx:AC6 w q x)(hne:q≠p):AC6 (w.setCell p v) q x:=by
 obtain⟨b,off,cs,t,f,rfl,hb,hc⟩:=h.blk;obtain⟨b',off',cs',t',f',rfl,hb',hc'⟩:=hx.blk;have hfr:=hx.2;by_cases e:b'=b
 ·subst e;rw[hb] at hb'
  cases hb';have hset:=heap_setCell (w:=w) (off:=off) (v:=v) hb;have e2:off≠off':=λh=>hne (by rw[h]);refine⟨?_,?_⟩
  ·unfold World.cell?;simp[hset,bM e2,hc']
  ·unfold World.frozen? at hfr ⊢;simp[hb] at hfr;simp[hset];exact hfr
 ·refine⟨?_,?_⟩
  ·unfold World.cell?;simp[AU9 e,hb',hc']
  ·unfold World.frozen? at hfr ⊢;simp only[AU9 e];exact hfr
theorem CB0{j:Nat}(h:i≠j):p.add i≠p.add j:=λe=>by
 have:(p.add i).off=(p.add j).off:=by rw[e]
 unfold Addr.add at this
 by_cases hi:i=0<;>by_cases hj:j=0<;>simp[hi,hj] at this<;>omega
theorem BT4{w:World}{v:Value}(h:AC6 w p u):Upd w (w.setCell p v) p.block:=by obtain⟨b,off,cs,t,f,rfl,hb,hc⟩:=h.blk;exact Upd.setCell w b off v
theorem BU5{w:World}{v:Value}(h:AC6 w p u)(hv:H3 v=true):(store p v).run P w=.ok () (w.setCell p v):=by
 obtain⟨h1,h2⟩:=h;unfold store
 cases v<;>first | (simp[H3] at hv;done) | simp[Sem.run,h1,h2]
theorem AU7 {P:Program} {p:Addr}:∀ (vs:List Value) (i:Nat) (w:World),(∀ j v,vs[j]?=some v->∃ u,AC6 w (p.add (i+j)) u)->(∀ v∈vs,H3 v=true) ->
  ∃ w',(storeCells p vs i).run P w=.ok () w'/\(∀ q x,AC6 w q x->(∃ j v,vs[j]?=some v/\q=p.add (i+j)/\AC6 w' q v)\/((∀ j,j<vs.length->q≠p.add (i+j))/\AC6 w' q x))/\Upd w w' p.block
 | [],i,w,_,_=>⟨w,by simp[storeCells],λq x h=>.inr ⟨λj hj=>by simp at hj,h⟩,Upd.refl _ _⟩
 | v::vs,i,w,h,h1=>by
  obtain⟨u,hu⟩:=h 0 v rfl
  rw[bP] at hu
  have hs:=BU5 (P:=P) (v:=v) hu (h1 v (by simp))
  obtain⟨w',hr,hS,hU⟩:=AU7 (P:=P) (p:=p) vs (i+1) (w.setCell (p.add i) v) (λj z hz=>by
   obtain⟨u',hu'⟩:=h (j+1) z (by simpa using hz)
   rw[show i+1+j=i+(j+1) by omega]
   exact⟨u',hu.setOther hu' (CB0 (by omega))⟩) (λz hz=>h1 z (by simp[hz]))
  refine⟨w',?_,λq x hq=>?_,?_⟩
  ·simp only[storeCells,Sem.run_bind,hs,Result.andThen_ok,hr]
  ·by_cases e:q=p.add i
   ·left
    have hv:AC6 (w.setCell (p.add i) v) q v:=by rw[e];exact hu.setSelf
    rcases hS q v hv with ⟨j,z,_,hj,_⟩ | ⟨_,hl⟩
    ·exfalso
     rw[e] at hj
     exact CB0 (show i≠i+1+j by omega) hj
    ·exact⟨0,v,rfl,by rw[bP];exact e,hl⟩
   ·rcases hS q x (hu.setOther hq e) with ⟨j,z,hz,hj,hl⟩ | ⟨hn,hl⟩
    ·exact .inl ⟨j+1,z,by simpa using hz,by rw[hj,show i+1+j=i+(j+1) by omega],hl⟩
    ·refine .inr ⟨λj hj=>?_,hl⟩
     cases j with
     | zero=>rw[bP];exact e
     | succ j=>rw[show i+(j+1)=i+1+j by omega];exact hn j (by simpa using hj)
  ·have:=BT4 (v:=v) hu
   rw[J9] at this
   exact this.trans hU
theorem BF7{a:Bool}{n:Nat}{w:World}{v:Value}{k:Value->Value->Prop}(hk:∀ u,k u u)(ht:F6 P t=some (a,n))(hn:v.cells.size=n)(h:∀ (j:Nat) (z:Value),v.cells[j]?=some z->∃ u,AC6 w (p.add j) u/\k u z)(h1:∀ u∈v.cells.toList,H3 u=true) :
  ∃ w',(storeVar t p v).run P w=.ok () w'/\Sim k w w'/\Upd w w' p.block:=by
 obtain⟨w',hr,hS,hU⟩:=AU7 (P:=P) (p:=p) v.cells.toList 0 w (λj z hz=>by obtain⟨u,hu,_⟩:=h j z (by simpa using hz);rw[aD];exact⟨u,hu⟩) h1
 refine⟨w',?_,λq x hq=>?_,hU⟩
 ·simp[storeVar,Sem.run_bind,(L0 ht w).2,hn,hr]
 ·rcases hS q x hq with ⟨j,z,hz,hj,hl⟩ | ⟨_,hl⟩
  ·obtain⟨u,hu,hku⟩:=h j z (by simpa using hz);rw[aD] at hj;rw[hj] at hq;rw[hq.inj hu];exact⟨z,hl,hku⟩
  ·exact⟨x,hl,hk x⟩
section
variable {P:Program} {σ:Env} {w:World} {d:Option Tmp} {ty:TypeId} {pos:String} {af:Array Edge} {g:Option (Nat×Bool)}
theorem By5 {t:TypeId} {x y:Operand} {p:Addr} {n:Nat} {a:Bool} {v:Value} {k:Value->Value->Prop} (hk:∀ u,k u u) (ht:F6 P t=some (a,n)) (hx:ev σ x=some (.pointer (some p))) (hy:ev σ y=some v) (hn:v.cells.size=n)
  (h:∀ (j:Nat) (z:Value),v.cells[j]?=some z->∃ u,AC6 w (p.add j) u/\k u z) (h1:∀ u∈v.cells.toList,H3 u=true) :
  Gv P ⟨d,.store t x y,ty,pos,af,g⟩ σ w λ_ w'=>Sim k w w'/\Upd w w' p.block:=by
 refine⟨(by intro _ h;cases h),λρ hρ=>.inr (.inl ?_)⟩;have e1:=hρ x _ (by simp[Op.operands]) hx;have e2:=hρ y _ (by simp[Op.operands]) hy;obtain⟨w',hr,hS,hu⟩:=BF7 (P:=P) hk ht hn h h1;exact⟨w',by simp[execOp,e1,e2,Instr.storeAt,Instr.sureAddr,hr],hS,hu⟩
end
def eAny:ER Unit where
 sz:=1
 isA:=false
 R:=λ_ _ e _=>∃ n,e=.int .u32 n
 csz:=by rintro S w e x ⟨n,rfl⟩;rfl
 one:=by rintro S w e x ⟨n,rfl⟩ u hu;simp[Value.cells] at hu;subst hu;rfl
 shp:=by rintro S w e x ⟨n,rfl⟩;rfl
 keep:=λ_ h=>h
 mono:=λ_ h=>h
abbrev eWs:ER (List Unit):=RL eAny
def eQs:ER Unit where
 sz:=4
 isA:=true
 R:=λS w e _=>∃ p s q t l1 l2,e=.agg #[.bool p,s,.bool q,t]/\eWs.R S w s l1/\eWs.R S w t l2
 csz:=by rintro S w e x ⟨p,s,q,t,l1,l2,rfl,_⟩;rfl
 one:=by
  rintro S w e x ⟨p,s,q,t,l1,l2,rfl,h1,h2⟩ u hu
  have hs:=eWs.shp h1
  have ht:=eWs.shp h2
  simp[Value.cells] at hu
  rcases hu with rfl | rfl | rfl | rfl
  ·rfl
  ·exact hs
  ·rfl
  ·exact ht
 shp:=by rintro S w e x ⟨p,s,q,t,l1,l2,rfl,_⟩;rfl
 keep:=λhk ⟨p,s,q,t,l1,l2,h,h1,h2⟩=>⟨p,s,q,t,l1,l2,h,eWs.keep hk h1,eWs.keep hk h2⟩
 mono:=λhk ⟨p,s,q,t,l1,l2,h,h1,h2⟩=>⟨p,s,q,t,l1,l2,h,eWs.mono hk h1,eWs.mono hk h2⟩
abbrev eVs:ER (List Unit):=RL eQs
abbrev eMs:ER (List (List Unit)):=RL eVs
def kd (w:World) (u u':Value):Prop:=u'=u\/((∃ m,u=.int .u32 m)/\∃ n,u'=.int .u32 n)\/((∃ p,u=.bool p)/\∃ q,u'=.bool q)\/((∃ l,eWs.R (λ_=>True) w u l)/\u'=.slice none 0 0)
theorem kd_refl{w:World}(u:Value):kd w u u:=.inl rfl
theorem Ai0{w:World}{l:List Unit}(h:eWs.R S w u l):∃ a c,u=.slice a l.length c:=by obtain⟨a,c,h,_⟩:=RL.len h;exact⟨a,c,h⟩
theorem Be0 {p:Nat->Value->Prop}:∀ n,(∀ i,i<n->∃ y,p i y)->∃ ys:List Value,ys.length=n/\∀ i y,ys[i]?=some y->p i y
 | 0,_=>⟨[],rfl,λi y h=>by simp at h⟩
 | n+1,h=>by
  obtain⟨ys,hl,hy⟩:=Be0 n λi hi=>h i (by omega)
  obtain⟨y,hp⟩:=h n (by omega)
  refine⟨ys++[y],by simp[hl],λi z hz=>?_⟩
  rcases aB i ys.length with hi | hi
  ·rw[bQ hi] at hz;exact hy i z hz
  ·rw[bT hi] at hz
   cases hk:i-ys.length with
   | zero=>rw[hk] at hz;simp at hz;subst hz;rw[show i=n by omega];exact hp
   | succ k=>rw[hk] at hz;simp at hz
def Cl {α:Type} (k:Value->Value->Prop) (E:ER α) (S:Nat->Prop) (w w':World):Prop :=
 ∀ (e:Value) (x:α),E.R S w e x->∀ cs:Array Value,cs.size=e.cells.size->(∀ (j:Nat) (u:Value),e.cells[j]?=some u->∃ u':Value,cs[j]?=some u'/\k u u')->∃ e':Value,e'.cells=cs/\E.R S w' e' x
theorem RL.sim{E:ER α}{hsz:0<E.sz}{w:World}{v:Value}{l:List α}(h:(RL E hsz).R S w v l){k:Value->Value->Prop}(hS:Sim k w w')(hC:Cl k E S w w'):(RL E hsz).R S w' v l:=by
 obtain⟨es,he,a,c,hv,h1,h2,h3,h4⟩:=h;rcases aU l.length with h0 | hpos
 ·have:l=[]:=List.length_eq_zero_iff.1 h0;subst this;rw[hv];exact RL.nil
 obtain⟨ad,ha,hSb,hc⟩:=h4 hpos;have key:∀ i,i<l.length->∃ y:Value,(∀ x,l[i]?=some x->E.R S w' y x)/\∀ j u,y.cells[j]?=some u->AC6 w' (ad.add (i*E.sz+j)) u:=by
  intro i hi;have hi':i<es.length:=by rw[he.1];exact hi
  have hee:es[i]?=some es[i]:=aE hi';have hR:=he.2 i _ _ hee (aE hi);have hs:=E.csz hR;obtain⟨cs,hl,hcs⟩:=Be0 (p:=λj y=>AC6 w' (ad.add (i*E.sz+j)) y/\∀ u,es[i].cells[j]?=some u->k u y) E.sz λj hj=>by obtain⟨u,hu⟩:∃ u,es[i].cells[j]?=some u:=⟨_,dR (by rw[hs];exact hj)⟩;have hg:=F0 es i j _ he.sz hee hj;rw[hu] at hg;obtain⟨u',hl',hk⟩:=hS _ _ (hc _ u hg);exact⟨u',hl',λz hz=>by rw[hu] at hz;cases hz;exact hk⟩
  obtain⟨e',hec,hR'⟩:=hC _ _ hR cs.toArray (by simp[hl,hs]) (λj u hu=>by
   have hj:j<cs.length:=by rw[hl,<-hs];exact (Array.getElem?_eq_some_iff.1 hu).1
   refine⟨cs[j],by simp[hj],(hcs j cs[j] (aE hj)).2 u hu⟩)
  refine⟨e',λx hx=>?_,λj u hu=>?_⟩
  ·rw[aE hi] at hx;cases hx;exact hR'
  ·rw[hec] at hu;exact (hcs j u (by simpa using hu)).1
 obtain⟨es',hl',hes⟩:=Be0 l.length key;have hels:Els E S w' es' l:=⟨hl',λi e x h1 h2=>(hes i e h1).1 x h2⟩;refine⟨es',hels,a,c,hv,h1,h2,by rw[E6 _ hels.sz,hl'],λ_=>⟨ad,ha,hSb,λj u hu=>?_⟩⟩;have hjl:j<l.length*E.sz:=by
  rcases aB j (l.length*E.sz) with h | h
  ·exact h
  ·rw[aH (by rw[E6 _ hels.sz,hl'];exact h)] at hu;cases hu
 have hq:j / E.sz<l.length:=(bD hsz).2 hjl;have hr:j % E.sz<E.sz:=aY _ hsz;have hjd:(j / E.sz)*E.sz+j % E.sz=j:=by rw[aT];exact bE j E.sz
 obtain⟨y,hy⟩:∃ y,es'[j / E.sz]?=some y:=⟨_,aE (by rw[hl'];exact hq)⟩;have hg:=F0 es' (j / E.sz) (j % E.sz) y hels.sz hy hr;rw[hjd,hu] at hg;have:=(hes _ y hy).2 (j % E.sz) u hg.symm;rw[hjd] at this;exact this
theorem Bv6{e:Value}(h:H3 e=true):e.cells=#[e]:=by cases e<;>first | rfl | (simp[H3] at h)
theorem cl_any{w:World}:Cl (kd w) eAny S w w':=by
 rintro e x ⟨n,rfl⟩ cs hcs hk;obtain⟨u',hu',hkd⟩:=hk 0 _ rfl;obtain⟨l⟩:=cs;match l,hcs with
 | [z],_ =>
  simp at hu';subst hu';rcases hkd with rfl | ⟨_,m,rfl⟩ | ⟨⟨_,h⟩,_⟩ | ⟨⟨_,h⟩,_⟩
  ·exact⟨.int .u32 n,rfl,n,rfl⟩
  ·exact⟨.int .u32 m,rfl,m,rfl⟩
  ·cases h
  ·obtain⟨a,c,h⟩:=Ai0 h
   cases h
theorem eWs.sim{w:World}{v:Value}{l:List Unit}(h:eWs.R S w v l)(hS:Sim (kd w) w w'):eWs.R S w' v l:=RL.sim h hS cl_any
theorem Bi7{w:World}{p:Bool}(h:kd w (.bool p) u):∃ q,u=.bool q:=by
 rcases h with rfl | ⟨⟨_,h⟩,_⟩ | ⟨_,h⟩ | ⟨⟨_,h⟩,_⟩
 ·exact⟨_,rfl⟩
 ·cases h
 ·exact h
 ·obtain⟨a,c,h⟩:=Ai0 h
  cases h
theorem BW6{w:World}{a:Option Addr}{n:Nat}(h:kd w (.slice a n c) u):u=.slice a n c\/((∃ l,eWs.R (λ_=>True) w (.slice a n c) l)/\u=.slice none 0 0):=by
 rcases h with rfl | ⟨⟨_,h⟩,_⟩ | ⟨⟨_,h⟩,_⟩ | h
 ·exact .inl rfl
 ·cases h
 ·cases h
 ·exact .inr h
theorem kd_ws{w:World}{s:Value}{l:List Unit}(h:eWs.R S w s l)(hS:Sim (kd w) w w')(hk:kd w s u):∃ l',eWs.R S w' u l':=by
 have h':=eWs.sim h hS;obtain⟨a,c,rfl⟩:=Ai0 h;rcases BW6 hk with rfl | ⟨_,rfl⟩
 ·exact⟨l,h'⟩
 ·exact⟨[],RL.nil⟩
theorem cl_q{w:World}(hS:Sim (kd w) w w'):Cl (kd w) eQs S w w':=by
 rintro e x ⟨p,s,q,t,l1,l2,rfl,h1,h2⟩ cs hcs hk;obtain⟨u0,g0,k0⟩:=hk 0 _ rfl;obtain⟨u1,g1,k1⟩:=hk 1 _ rfl;obtain⟨u2,g2,k2⟩:=hk 2 _ rfl;obtain⟨u3,g3,k3⟩:=hk 3 _ rfl;obtain⟨l⟩:=cs;match l,hcs with
 | [z0,z1,z2,z3],_ =>
  simp at g0 g1 g2 g3;subst g0 g1 g2 g3;obtain⟨p',rfl⟩:=Bi7 k0;obtain⟨q',rfl⟩:=Bi7 k2;obtain⟨m1,hm1⟩:=kd_ws h1 hS k1;obtain⟨m2,hm2⟩:=kd_ws h2 hS k3;exact⟨.agg #[.bool p',z1,.bool q',z3],rfl,p',z1,q',z3,m1,m2,rfl,hm1,hm2⟩
theorem eVs.sim{w:World}{v:Value}{l:List Unit}(h:eVs.R S w v l)(hS:Sim (kd w) w w'):eVs.R S w' v l:=RL.sim h hS (cl_q hS)
theorem Bw2{S':Nat->Prop}{w:World}{v:Value}{l l':List Unit}(h:eVs.R S w v l)(h':eWs.R S' w v l'):l=[]:=by
 rcases aU l.length with h0 | hpos
 ·exact List.length_eq_zero_iff.1 h0
 exfalso;obtain⟨a1,c1,hv1⟩:=Ai0 h';obtain⟨es,he,a,c,hv,_,_,_,h4⟩:=h;obtain⟨es',he',a',c',hv',_,_,_,h4'⟩:=h';rw[hv] at hv';injection hv' with e1 e2 e3;subst e1;obtain⟨ad,rfl,_,hc⟩:=h4 hpos;obtain⟨ad',ha',_,hc'⟩:=h4' (by omega)
 cases ha';obtain⟨e,hee⟩:∃ e,es[0]?=some e:=⟨_,aE (by rw[he.1];exact hpos)⟩;obtain⟨e',hee'⟩:∃ e,es'[0]?=some e:=⟨_,aE (by rw[he'.1];omega)⟩;obtain⟨p,s,q,t,l1,l2,rfl,_⟩:=he.2 0 _ _ hee (aE hpos);obtain⟨n,rfl⟩:=he'.2 0 _ _ hee' (aE (by omega));have g1:=F0 es 0 0 _ he.sz hee (by decide);have g2:=F0 es' 0 0 _ he'.sz hee' (by decide);have h1:=hc 0 _ g1;have h2:=hc' 0 _ g2
 cases h1.inj h2
theorem cl_v{w:World}(hS:Sim (kd w) w w'):Cl (kd w) eVs S w w':=by
 rintro e l h cs hcs hk;have h':=eVs.sim h hS;obtain⟨a,c,rfl,_⟩:=RL.len h;obtain⟨u',hu',hkd⟩:=hk 0 _ rfl;obtain⟨cl⟩:=cs;match cl,hcs with
 | [z],_ =>
  simp at hu';subst hu';rcases BW6 hkd with rfl | ⟨⟨l',hw⟩,rfl⟩
  ·exact⟨_,rfl,h'⟩
  ·have:=Bw2 h hw;subst this;exact⟨_,rfl,RL.nil⟩
theorem eMs.sim{w:World}{v:Value}{l:List (List Unit)}(h:eMs.R S w v l)(hS:Sim (kd w) w w'):eMs.R S w' v l:=RL.sim h hS (cl_v hS)
theorem RL.weak{β:Type}{E:ER α}{E':ER β}{hsz:0<E.sz}{hsz':0<E'.sz}{w:World}{v:Value}{l:List α}(f:α->β)(h:(RL E hsz).R S w v l)(hs:E.sz=E'.sz)(hE:∀ e x,E.R S w e x->E'.R S w e (f x)):(RL E' hsz').R S w v (l.map f):=by
 obtain⟨es,he,a,c,hv,h1,h2,h3,h4⟩:=h;refine⟨es,⟨by simp[he.1],λi e y hx hy=>?_⟩,a,c,by simp[hv],by simp;exact h1,by simp;exact h2,by rw[h3];simp[hs],λhn=>h4 (by simpa using hn)⟩;rw[aI] at hy
 cases hl:l[i]? with
 | none=>rw[hl] at hy;cases hy
 | some x=>rw[hl] at hy;cases hy;exact hE _ _ (he.2 i e x hx hl)
theorem eW.shape{w:World}{v:Value}{l:List Nat}(h:eW.R S w v l):eWs.R S w v (l.map λ_=>()):=RL.weak _ h O λe x h=>⟨_,h.1⟩
theorem eQ.shape{w:World}{v:Value}{q:QV}(h:eQ.R S w v q):eQs.R S w v ():=by obtain⟨s,t,rfl,h1,h2⟩:=h;exact⟨_,s,_,t,_,_,rfl,eW.shape h1,eW.shape h2⟩
theorem eV.shape{w:World}{v:Value}{l:List QV}(h:eV.R S w v l):eVs.R S w v (l.map λ_=>()):=RL.weak (E:=eQ) (E':=eQs) (λ_=>()) h O λ_ _ h=>eQ.shape h
theorem eM.shape{w:World}{v:Value}{m:List (List QV)}(h:eM.R S w v m):eMs.R S w v (m.map λl=>l.map λ_=>()):=RL.weak (E:=eV) (E':=eVs) _ h O λ_ _ h=>eV.shape h
def PtrL {α:Type} (E:ER α) (S:Nat->Prop) (w:World) (p:Addr) (x:α):Prop:=∃ e,E.R S w e x/\S p.block/\∀ j u,e.cells[j]?=some u->AC6 w (p.add j) u
theorem RL.atL{E:ER α}{hsz:0<E.sz}{w:World}{v:Value}{l:List α}(h:(RL E hsz).R S w v l){x:α}(hi:l[i]?=some x):∃ ad c,v=.slice (some ad) l.length c/\PtrL E S w (ad.add (i*E.sz)) x:=by
 obtain⟨es,h1,a,c,hv,h2,_,h3,h4⟩:=h;have hlt:i<l.length:=(List.getElem?_eq_some_iff.1 hi).1;obtain⟨ad,ha,hS,hc⟩:=h4 (by omega);subst ha;obtain⟨e,he⟩:∃ e,es[i]?=some e:=⟨_,aE (by rw[h1.1];exact hlt)⟩;refine⟨ad,c,hv,e,h1.2 i e x he hi,by rw[J9];exact hS,λj u hu=>?_⟩;rw[AC5];refine hc _ u ?_;have hj:j<E.sz:=by have hs:=h1.sz e (List.mem_iff_getElem?.2 ⟨i,he⟩);have:=(Array.getElem?_eq_some_iff.1 hu).1;omega
 rw[F0 es i j e h1.sz he hj];exact hu
section
variable {P:Program} {ro:Option Nat} {N:Nat} {ds:List Deferred} {ops:Array Oper} {K:Env->World->Prop} {rest:List Oper} {σ:Env} {w:World} {d:Tmp} {ty:TypeId} {pos:String} {af:Array Edge} {α:Type} {E:ER α} {hsz:0<E.sz} {S:Nat->Prop} {v:Value} {l:List α}
theorem AG8 {dd:Option Tmp} {gd:Option (Nat×Bool)} {t e:TypeId} {x ix:Operand} {k:IntKind} {i:Nat} {b:Bool} {sz n c:Nat} {ad:Addr} (ht:P.underlying t=some (.slice e)) (he:F6 P e=some (b,sz)) (hx:ev σ x=some (.slice (some ad) n c))
  (hi:ev σ ix=some (.int k (i:Int))) (hlt:i<n):Vl P ⟨dd,.indexAddr t x ix,ty,pos,af,gd⟩ σ w (.pointer (some (ad.add (i*sz)))):=by
 refine⟨(by intro _ h;cases h),λρ hρ=>?_⟩;have h1:=hρ x _ (by simp[Op.operands]) hx;have h2:=hρ ix _ (by simp[Op.operands]) hi;simp[execOp,h1,h2,Instr.indexAt,asIntOf,run_underlying ht,(L0 he w).2];intro hh;omega
theorem WL.ixL {t e:TypeId} {x ix:Operand} {k:IntKind} {i:Nat} {b:Bool} {y:α} (ht:P.underlying t=some (.slice e)) (he:F6 P e=some (b,E.sz)) (hd:Nat.blt d N=true) (hx:ev σ x=some v) (h:(RL E hsz).R S w v l)
  (hi:ev σ ix=some (.int k (i:Int))) (hy:l[i]?=some y) (kk:∀ p,PtrL E S w p y->WL P ro N ds ops K rest ((d,.pointer (some p))::σ) w) :
  WL P ro N ds ops K (⟨some d,.indexAddr t x ix,ty,pos,af,none⟩::rest) σ w:=by
 obtain⟨ad,c,rfl,hp⟩:=RL.atL h hy;exact WL.vl O hd (AG8 ht he hx hi (List.getElem?_eq_some_iff.1 hy).1) (kk _ hp)
theorem WL.stL {t:TypeId} {x y:Operand} {p:Addr} {n:Nat} {a:Bool} {u:Value} {z:α} (ht:F6 P t=some (a,n)) (hx:ev σ x=some (.pointer (some p))) (hy:ev σ y=some u) (hn:u.cells.size=n) (hp:PtrL E S w p z)
  (hk:∀ e:Value,E.R S w e z->∀ (j:Nat) (c:Value),u.cells[j]?=some c->∃ c0:Value,e.cells[j]?=some c0/\kd w c0 c) (h1:∀ c∈u.cells.toList,H3 c=true) (kk:∀ w',Sim (kd w) w w'->Chg S w w'->WL P ro N ds ops K rest σ w') :
  WL P ro N ds ops K (⟨none,.store t x y,ty,pos,af,none⟩::rest) σ w:=by
 obtain⟨e,he,hS,hc⟩:=hp;exact WL.gv O O (By5 kd_refl ht hx hy hn (λj c hj=>by obtain⟨c0,h0,hkd⟩:=hk e he j c hj;exact⟨c0,hc j c0 h0,hkd⟩) h1) λ_ w' ⟨hs,hu⟩=>kk w' hs (Chg.upd hu hS)
end
section
variable {W W':World} {v va vb:Value} {n c n' c' L L':Nat} {a b m:List (List QV)} {x y:List QV}
end
theorem eMs.loc{w:World}{v:Value}{rows:List (List Unit)}{row:List Unit}(h:eMs.R S w v rows)(hi:rows[i]?=some row):∃ ad c vr,v=.slice (some ad) rows.length c/\w.cell? (ad.add (i*1))=some vr/\eVs.R S w vr row:=by obtain⟨ad,c,hv,_,e,he,_,hc⟩:=RL.at_ h hi;have h0:=eVs.shp he;have hce:=Bv6 (show H3 e=true from h0);exact⟨ad,c,e,hv,by have:=hc 0 e (by rw[hce];rfl);rwa [show (ad.add (i*eVs.sz)).add 0=ad.add (i*1) from rfl] at this,he⟩
theorem eVs.loc{w:World}{v:Value}{row:List Unit}{k:Nat}(h:eVs.R S w v row)(hk:row[k]?=some ()):∃ ad c s t l1 l2,v=.slice (some ad) row.length c/\PtrL eQs S w (ad.add (k*4)) ()/\w.cell? (((ad.add (k*4)).add 0).add 1)=some s/\eWs.R S w s l1/\w.cell? (((ad.add (k*4)).add 2).add 1)=some t/\eWs.R S w t l2:=by obtain⟨ad,c,hv,hp⟩:=RL.atL h hk;have hp':=hp;obtain⟨e,⟨b,s,d,t,l1,l2,rfl,h1,h2⟩,_,hc⟩:=hp';exact⟨ad,c,s,t,l1,l2,hv,hp,by rw[AC5];exact (hc 1 s O).1,h1,by rw[AC5];exact (hc 3 t O).1,h2⟩
theorem Bi6{w:World}{n:Int}(e:Value)(he:eAny.R S w e ())(j:Nat)(c:Value)(hj:(Value.int .u32 n).cells[j]?=some c):∃ c0:Value,e.cells[j]?=some c0/\kd w c0 c:=by
 obtain⟨m,rfl⟩:=he
 cases j with
 | zero=>exact⟨.int .u32 m,rfl,.inr (.inl ⟨⟨m,rfl⟩,n,by simpa[Value.cells] using hj.symm⟩)⟩
 | succ j=>simp[Value.cells] at hj
theorem kd_rat{w:World}(e:Value)(he:eQs.R S w e ())(j:Nat)(c:Value)(hj:zq.cells[j]?=some c):∃ c0:Value,e.cells[j]?=some c0/\kd w c0 c:=by
 obtain⟨b,s,d,t,l1,l2,rfl,h1,h2⟩:=he;match j with
 | 0=>exact⟨.bool b,rfl,.inr (.inr (.inl ⟨⟨b,rfl⟩,false,by simpa[Value.cells] using hj.symm⟩))⟩
 | 1=>exact⟨s,rfl,.inr (.inr (.inr ⟨⟨l1,eWs.mono (λ_ _ _=>trivial) h1⟩,by simpa[Value.cells] using hj.symm⟩))⟩
 | 2=>exact⟨.bool d,rfl,.inr (.inr (.inl ⟨⟨d,rfl⟩,false,by simpa[Value.cells] using hj.symm⟩))⟩
 | 3=>exact⟨t,rfl,.inr (.inr (.inr ⟨⟨l2,eWs.mono (λ_ _ _=>trivial) h2⟩,by simpa[Value.cells] using hj.symm⟩))⟩
 | j+4=>simp[Value.cells] at hj
theorem Ae6:Ent prog 35:=en func35
theorem Ad5{w:World}{v:Value}{rows:List (List Unit)}(h:eMs.R S w v rows):Calls prog 35 #[v] w λe w'=>∃ u,e=.returned u/\Chg S w w':=by
 obtain⟨_,_,_,_,hrl⟩:=RL.len h;refine U8 func35 O ntmps35 O (.beg (.goC O (.lp (α:=Nat) [0] O (λi=>[(2,iW (i:Nat))]) (λi W=>Chg S w W/\eMs.R S W v rows/\i<=rows.length) (λi=>rows.length-i) 0 (lc1 O) ⟨Chg.refl _,h,aC _⟩ ?_)));rintro i W ⟨hC,hM,hi⟩;refine .go O (.lenR E4 O O hM ?_);rcases aB i rows.length with hlt | hge;rotate_left
 ·exact .lssF O O O (by omega) (.goE O (.plain [] results35 trivial hC))
 have hgi:rows[i]?=some (rows.getD i []):=B0 hlt;generalize rows.getD i []=row at hgi;have hrow:row.length<=9223372036854775807:=by obtain⟨_,_,_,_,_,hr⟩:=eMs.loc hM hgi;obtain⟨_,_,_,_,hl⟩:=RL.len hr;exact hl
 refine .lssT O O O (by omega) (.goC O (.lp (α:=Nat) [0,2] O (λk=>[(3,iW (k:Nat))]) (λk W=>Chg S w W/\eMs.R S W v rows/\k<=row.length) (λk=>row.length-k) 0 (lc1 O) ⟨hC,hM,aC _⟩ ?_));rintro k W ⟨hC,hM,hk⟩;obtain⟨ad,cm,vr,hv,hvr,hr⟩:=eMs.loc hM hgi;refine .go O (.vl O O (AG8 E4 C2 (congrArg some hv) O hlt) (.vl O O (AJ2 C2 O hvr) (.lenR C9 O O hr ?_)));rcases aB k row.length with hltk | hgek;rotate_left
 ·exact .lssF O O O (by omega) (.go O (.inc O O O (by omega) (.goN O (.mk (i+1) O (lc1 O) ⟨⟨hC,hM,hlt⟩,by show rows.length-(i+1)<rows.length-i;omega⟩))))
 have hgk:row[k]?=some ():=aE hltk;refine .lssT O O O (by omega) (.goC O ?_);refine .lp (α:=Nat) [0,2,3] O (λj=>[(4,iW (j:Nat))]) (λj W=>Chg S w W/\eMs.R S W v rows/\j<=9223372036854775807) (λj=>9223372036854775807-j) 0 (lc1 O) ⟨hC,hM,aC _⟩ ?_;rintro j W ⟨hC,hM,hj⟩;have hM0:=hM;obtain⟨ad,cm,vr,hv,hvr,hr⟩:=eMs.loc hM hgi;obtain⟨ad2,cr,sv,tv,l1,l2,rfl,hq,hsc,hs,htc,ht⟩:=eVs.loc hr hgk;obtain⟨asl,csl,hsv,_,hsl⟩:=RL.len hs;refine .go O (.vl O O (AG8 E4 C2 (congrArg some hv) O hlt) (.vl O O (AJ2 C2 O hvr) (.go O (.vl O O (AG8 C9 A3 O O hltk) (.faP AC2 O O (.faP G9 O O (.vl O O (AJ2 L2 O hsc) (.lenR E5 O O hs ?_))))))));rcases aB j l1.length with hltj | hgej
 ·have hgj:l1[j]?=some ():=aE hltj;refine .lssT O O O (by omega) (.go O (.vl O O (AG8 E4 C2 (congrArg some hv) O hlt) (.vl O O (AJ2 C2 O hvr) (.go O (.vl O O (AG8 C9 A3 O O hltk) (.faP AC2 O O (.faP G9 O O (.vl O O (AJ2 L2 O hsc) (.go O (.ixL (i:=j) E5 C1 O O hs O hgj λp3 hp3=>(.stL C1 O O O hp3 Bi6 (by simp[Value.cells,H3]) λW3 hsim hchg=>?_)))))))))));exact .go O (.inc O O O (by omega) (.goN O (.mk (j+1) O (lc1 O) ⟨⟨hC.trans hchg,eMs.sim hM0 hsim,by show j+1<=_;omega⟩,by show 9223372036854775807-(j+1)<9223372036854775807-j;omega⟩)))
 refine .lssF O O O (by omega) (.goC O ?_);refine .lp (α:=Nat) [0,2,3] O (λj=>[(5,iW (j:Nat))]) (λj W=>Chg S w W/\eMs.R S W v rows/\j<=9223372036854775807) (λj=>9223372036854775807-j) 0 (lc1 O) ⟨hC,hM,aC _⟩ ?_;rintro j W ⟨hC,hM,hj⟩;have hM0:=hM;obtain⟨ad,cm,vr,hv,hvr,hr⟩:=eMs.loc hM hgi;obtain⟨ad2,cr,sv,tv,l1,l2,rfl,hq,hsc,hs,htc,ht⟩:=eVs.loc hr hgk;obtain⟨asl,csl,hsv,_,hsl⟩:=RL.len ht;refine .go O (.vl O O (AG8 E4 C2 (congrArg some hv) O hlt) (.vl O O (AJ2 C2 O hvr) (.go O (.vl O O (AG8 C9 A3 O O hltk) (.faP AC1 O O (.faP G9 O O (.vl O O (AJ2 L2 O htc) (.lenR E5 O O ht ?_))))))));rcases aB j l2.length with hltj | hgej
 ·have hgj:l2[j]?=some ():=aE hltj;refine .lssT O O O (by omega) (.go O (.vl O O (AG8 E4 C2 (congrArg some hv) O hlt) (.vl O O (AJ2 C2 O hvr) (.go O (.vl O O (AG8 C9 A3 O O hltk) (.faP AC1 O O (.faP G9 O O (.vl O O (AJ2 L2 O htc) (.go O (.ixL (i:=j) E5 C1 O O ht O hgj λp3 hp3=>(.stL C1 O O O hp3 Bi6 (by simp[Value.cells,H3]) λW3 hsim hchg=>?_)))))))))));exact .go O (.inc O O O (by omega) (.goN O (.mk (j+1) O (lc1 O) ⟨⟨hC.trans hchg,eMs.sim hM0 hsim,by show j+1<=_;omega⟩,by show 9223372036854775807-(j+1)<9223372036854775807-j;omega⟩)))
 refine .lssF O O O (by omega) (.go O (.vl O O (AG8 E4 C2 (congrArg some hv) O hlt) (.vl O O (AJ2 C2 O hvr) (.go O (.bld _ O O AC4 (.vl O O (AG8 C9 A3 O O hltk) (.stL (u:=zq) A3 O O O hq kd_rat (by simp[Value.cells,H3]) λW3 hsim hchg=>?_)))))));exact .go O (.inc O O O (by omega) (.goN O (.mk (k+1) O (lc1 O) ⟨⟨hC.trans hchg,eMs.sim hM0 hsim,hltk⟩,by show row.length-(k+1)<row.length-k;omega⟩)))
theorem ok3_2:C8 R7 [2]=0:=Bi0 (by decide) (by decide)
theorem BI5:Ent prog 41:=en func41
theorem BG8{w:World}:CR prog 41 #[] w (eN.at (λ_=>True) R7):=by refine enter func41 O ntmps41 O (.sr (.alloc O Br1 λw1 b0 n1=>.nil (.sr (.bld _ O O BQ5 (.bld _ O O BQ5 (.bld _ O O BQ5 (.bsl _ O O bsl_Ls3 λw2 b4 n2=>.bld _ O O bld_N2 ?_)))))));obtain⟨e1,k0,hb0,hs1⟩:=n1;have hl:eLs.R (λk=>k≠b0) w2 (.slice (some ⟨b4,0,none⟩) 3 3) R7.ls:=BC2 (E:=eL) [_,_,_] R7.ls n2 (λk hk=>by omega) O O (by decide) (Els.snoc (Els.snoc (Els.snoc Els.nil (ln_R (by decide))) (ln_R (by decide))) (ln_R (by decide)));have hn:eN.R (λk=>k≠b0) w2 (.agg #[iW 3,.slice (some ⟨b4,0,none⟩) 3 3]) R7:=⟨_,rfl,hl,K8.2 (by decide)⟩;refine .storeA (E:=eN) G2 O O (k0.ext n2.1) O O hn (λh=>h O) λw3 k3 u3 h3=>.nil (.ret ?_);exact .cell (E:=eN) results41 O G2 O O k3 h3 ⟨u3.below (e1.trans n2.1) (by omega),eN.mono (λ_ _ _=>trivial) h3⟩
theorem AZ8:Ent prog 42:=en func42
theorem AX6{w:World}{vl:Value}(hl:eI.R (λ_=>True) w vl l)(hn:l.length<=1000):CR prog 42 #[vl] w (eV.at (λ_=>True) (AB8 l)):=by refine enter func42 O ntmps42 O (.beg (.go O (.call _ O BR5 O (BN6 upT hl (by omega)) λv1 w1 e1 h1=>.goE O ?_)));exact .p1 _ results42 O ⟨e1,h1⟩
theorem Ba2:Ent prog 44:=en func44
theorem BW3{w:World}{vo vl:Value}{n:NtV}{o:List Int}(hn:eN.R (λ_=>True) w vn n)(ho:eI.R (λ_=>True) w vo o)(hl:eI.R (λ_=>True) w vl l)(hll:l.length<=1000)(hK:lkE n o line=0)(hV:loV n o line.toNat=AB8 l) :
  CR prog 44 #[vn,vo,iW line,vl] w (Is (.bool true)):=by
 obtain⟨s,rfl,hs,hb⟩:=hn;have hn:eN.R (λ_=>True) w (.agg #[iW n.b,s]) n:=⟨s,rfl,hs,hb⟩;refine enter func44 O ntmps44 O (.beg (.go O (.box O O λw1 b4 n1=>?_)));obtain⟨e1,k4,hb4,hs1⟩:=n1;refine .go O (.ldA G2 O O k4 O (.go O (.call _ O V4 O (U5 (T0:=λ_=>True) upT upT (hn.ext e1) (ho.ext e1)) λv2 w2 e2 h2=>?_)));obtain⟨vf,ve,rfl,hf,he⟩:=h2;rw[hK] at he;subst he;rw[if_pos hK,hV] at hf;have x2:=e1.trans e2;refine .go O (.eqlT O O O O (.go O (.call _ O AZ8 O (AX6 (hl.ext x2) hll) λv3 w3 e3 h3=>.go O (.call _ O AT7 O (Bi8 (ER.ext eV hf e3) h3 O) λv4 w4 e4 h4=>?_))));subst h4;exact .goE O (.p1 _ results44 O ⟨(x2.trans e3).trans e4,rfl⟩)
theorem Bx3:lkE R7 [] 0=0:=by unfold lkE;rw[if_neg (by simpa using ok3),if_pos (by decide),if_neg (by decide +kernel)]
theorem lk3_20:lkE R7 [2] 0=11:=by unfold lkE;rw[if_neg (by simpa using ok3_2),if_pos (by decide),if_pos (by decide +kernel)]
theorem lk3_22:lkE R7 [2] 2=1:=by unfold lkE;rw[if_neg (by simpa using ok3_2),if_neg (by decide)]
theorem lo3{k:Nat}(hk:k<3):(A0 R7 []).lo 0 k=((([-1,-1,1]:List Int).getD k 0:Int):Rat):=by
 have ok:=K6 ok3;have hh:∀ k b,k<3->b<3->(A0 R7 []).hf k b=(A0 R7 []).fl (Ae0 b) k:=λk b hk hb=>Nw.hf_cand ok.ok ok.b1 Ae0 CA1 hk hb;have h2:∀ k,k<3->(if k=0 then (-1:Rat) else ((A0 R7 []).fl (Ae0 0) k-(A0 R7 []).fl (Ae0 1) k) / (1-((A0 R7 []).fl (Ae0 0) 0-(A0 R7 []).fl (Ae0 1) 0)))=((([-1,-1,1]:List Int).getD k 0:Int):Rat):=by decide +kernel
 rw[<-h2 k hk];unfold Nw.lo Nw.rst Nw.bt;rw[show (A0 R7 []).F 0=0 from rfl,show (A0 R7 []).T 0=1 from rfl,hh k 0 hk (by decide),hh k 1 hk (by decide),hh 0 0 (by decide) (by decide),hh 0 1 (by decide) (by decide)]
theorem loV3:loV R7 [] (0:Int).toNat=AB8 [-1,-1,1]:=F5 λk hk=>lo3 hk
theorem af3_ok:afE R7 [] 0 (AB8 [6,0,-6])=0:=by unfold afE;rw[if_neg (by simpa using Bx3)];exact CA9
theorem afV3:afV R7 [] (0:Int).toNat (AB8 [6,0,-6])=AB8 [0,0,6]:=F5 λk hk=>by
 have ok:=K6 ok3
 obtain⟨_,k0,h0,hkM,hg,_,hB⟩:=BO6 Bx3
 have:k0=0:=by omega
 subst this
 have h1:∀ k,k<3->(A0 R7 []).fl ((A0 R7 []).an (rv (AB8 [6,0,-6]))) k=(A0 R7 []).fl an3 k:=λk hk=>by
  unfold Nw.fl
  rw[Bk8 _ (ok.f k hk),Bk8 _ (ok.t k hk)]
 have h2:∀ k,k<3->(A0 R7 []).fl an3 k+((([-1,-1,1]:List Int).getD k 0:Int):Rat)*(A0 R7 []).fl an3 0=((([0,0,6]:List Int).getD k 0:Int):Rat):=by decide +kernel
 rw[show (0:Int).toNat=0 from rfl,Nw.lo_flow ok.ok hkM hg hB (Bf3 CA9).2 hk,h1 k hk,h1 0 (by decide),lo3 hk,h2 k hk]
theorem Bk3:Y7 prog 25 1 [(0,iW a)]=some (3,#[iW a]):=by kernel_rfl
theorem Ae5:Ent prog 30:=en func30
theorem Ad4{w:World}:CR prog 30 #[] w (Is (.bool true)):=by
 have hk6:=vk_ints [6,0,-6] (by decide);refine enter func30 O ntmps30 O (.beg (.go O (.call _ O BI5 O BG8 λvn w1 e1 h1=>.alloc O Br1 λw2 b1 n2=>?_)));obtain⟨e2,k1,hb1,hs2⟩:=n2;refine .storeA (E:=eN) (S:=λk=>k<w1.heap.size) G2 O O k1 O O (ER.ext eN (eN.mono (λk _ h=>h.2) (ER.lt eN h1)) e2) (λh=>by omega) λw3 k1 u3 h3=>?_;have hvn:=G8 (E:=eN) O h3;have h3:eN.R (λ_=>True) w3 vn R7:=eN.mono (λ_ _ _=>trivial) h3;have x3:Ext w w3:=(u3.below (e2) (by omega):Ext w1 w3) |> e1.trans;refine .goC O ?_;refine .par follows 8 [.inl vn,.inr (eI.at (λ_=>True) [6,0,-6]),.inr (eV.at (λ_=>True) (AB8 [6,0,-6])),.inr (Two (eV.at (λ_=>True) (AB8 [0,0,6])) (Is (iW 0))),.inr (Two (eV.at (λ_=>True) (AB8 [0,0,6])) (Is (iW 0))),.inr (eV.at (λ_=>True) (AB8 [0,0,6])),.inl (iW 0),.inr (eV.at (λ_=>True) (AB8 [0,0,6]))] [[],[],[(11,1)],[(10,0),(12,2)],[(13,3)],[(9,4)],[(9,4)],[(14,5)]] (by kernel_rfl) ⟨λw e=>((E1 G2 O (k1.ext e) (eN.csz h3)).eq hvn.symm).ob,λw e=>ob_L3 (by decide),λw e x1 hx1=>(A4 _ AZ8 O (AX6 hx1 (by decide))).oa,λw e x2 hx2=>(by have:=BO5 (vo:=.slice none 0 0) (T0:=λ_=>True) (o:=[]) (line:=0) upT upT (ER.ext eN h3 e) RL.nil hx2 hk6 (by decide) (by decide);rw[af3_ok,if_pos rfl,afV3] at this;exact (A4 _ BR8 O this).ob (L3 (G7 _ _ _) (S9 _))),λw e x3 hx3=>K5 (v_mv O) hx3 (L3 (G7 _ _ _) (S9 _)),λw e x4 hx4=>by
   obtain⟨p1,q1,rfl,hp1,hq1⟩:=hx4;exact K5 (AA1 O O) hp1 (G7 _ _ _),λw e x4 hx4=>by
   obtain⟨p1,q1,rfl,hp1,hq1⟩:=hx4;exact ((AA1 O O).eq hq1).ob,λw e x5 hx5=>K5 (AR9 O) hx5 (G7 _ _ _),trivial⟩ ?_
 intro w4 e4 y1 hy1 y2 hy2 y3 hy3 y4 hy4 y5 hy5 y7 hy7;have k1:=k1.ext e4;have h4:=ER.ext eN h3 e4;refine .go O (.ldA G2 O O k1 (eN.csz h3) (.bsl _ O O Bk3 λw5 b5 n5=>?_));rw[<-hvn];have e5:=n5.1;have i5:eI.R (λ_=>True) w5 (.slice (some ⟨b5,0,none⟩) 1 1) [2]:=BC1 [2] 1 n5 upT O O (by decide) (by decide);refine .call _ O V4 O (U5 (T0:=λ_=>True) (line:=0) upT upT (ER.ext eN h4 e5) i5) λv6 w6 e6 h6=>?_;obtain⟨vf,ve,rfl,_,he⟩:=h6;rw[lk3_20] at he;subst he;have e46:=e5.trans e6;refine .go O (.ldA G2 O O (k1.ext e46) (eN.csz h3) (.bsl _ O O Bk3 λw7 b7 n7=>?_));rw[<-hvn];have e7:=n7.1;have i7:eI.R (λ_=>True) w7 (.slice (some ⟨b7,0,none⟩) 1 1) [2]:=BC1 [2] 1 n7 upT O O (by decide) (by decide);refine .call _ O V4 O (U5 (T0:=λ_=>True) (line:=2) upT upT (ER.ext eN h4 (e46.trans e7)) i7) λv8 w8 e8 h8=>?_;obtain⟨vf,ve,rfl,_,he⟩:=h8;rw[lk3_22] at he;subst he;have e48:=(e46.trans e7).trans e8;refine .go O (.ldA G2 O O (k1.ext e48) (eN.csz h3) (.bsl _ O O Be7 λw9 b9 n9=>?_));rw[<-hvn];have e9:=n9.1;refine .call _ O Ba2 O (BW3 (o:=[]) (line:=0) (ER.ext eN h4 (e48.trans e9)) RL.nil (BC1 [-1,-1,1] 3 n9 upT O O (by decide) (by decide)) (by decide) Bx3 loV3) λv10 w10 e10 h10=>?_;subst h10;refine .go O (.eqlT O O O O (.go O (.bsl _ O O Be7 λw11 b11 n11=>.go O (.call _ O AZ8 O (AX6 (BC1 [0,0,6] 3 n11 upT O O (by decide) (by decide)) (by decide)) λv12 w12 e12 h12=>.go O ?_))));have e412:=(((e48.trans e9).trans e10).trans n11.1).trans e12;refine .call _ O AT7 O (Bi8 (ER.ext eV hy7 e412) h12 O) λv13 w13 e13 h13=>?_;subst h13;refine .go O (.eqlT O O O O (.go O (.eqlT O O O O (.goE O ?_))));exact .p1 _ results30 O ⟨((x3.trans e4).trans e412).trans e13,rfl⟩
theorem BR9:Ent prog 40:=en func40
theorem BO7{w:World}{m:List (List QV)}(ha:eM.R (λ_=>True) w va m)(hb:eM.R (λ_=>True) w vb m):CR prog 40 #[va,vb] w (Is (.bool true)):=by
 obtain⟨_,_,_,_,hml⟩:=RL.len ha;refine enter func40 O ntmps40 O (.beg (.go O (.lenR E4 O O ha (.go O (.lenR E4 O O hb (.go O (.neqF O O O O (.goC O (.lp (α:=Nat) [0,1] O (λi=>[(5,iW (i:Nat))]) (λi W=>Ext w W/\i<=m.length) (λi=>m.length-i) 0 (lc1 O) ⟨Ext.refl _,aC _⟩ ?_)))))))));rintro i W ⟨hW,hi⟩;have haW:=ER.ext eM ha hW;have hbW:=ER.ext eM hb hW;refine .go O (.lenR E4 O O haW ?_);rcases aB i m.length with hlt | hge;rotate_left
 ·exact .lssF O O O (by omega) (.goE O (.p1 _ results40 O ⟨hW,rfl⟩))
 have hg:m[i]?=some (m.getD i []):=B0 hlt;generalize m.getD i []=r at hg;refine .lssT O O O (by omega) (.goC O ?_);refine .par follows 8 [.inl _,.inl _,.inr (Ptr eV (λ_=>True) r),.inr (eV.at (λ_=>True) r),.inl _,.inl _,.inr (Ptr eV (λ_=>True) r),.inr (eV.at (λ_=>True) r)] [[],[],[(17,0),(18,1)],[(19,2)],[],[],[(21,4),(22,5)],[(23,6)]] (by kernel_rfl) ⟨mvo O,mvo O,λw e=>C4 (i:=i) E4 C2 O (ER.ext eM haW e) O hg,λw e x2 hx2=>K1 C2 O hx2,mvo O,mvo O,λw e=>C4 (i:=i) E4 C2 O (ER.ext eM hbW e) O hg,λw e x6 hx6=>K1 C2 O hx6,trivial⟩ ?_;intro W3 d3 y2 hy2 y3 hy3 y6 hy6 y7 hy7;refine .go O (.call _ O AT7 O (Bi8 hy3 hy7 O) λv4 W4 d4 h4=>?_);subst h4;exact .go O (.inc O O O (by omega) (.goN O (.mk (i+1) O (lc1 O) ⟨⟨hW.trans (d3.trans d4),hlt⟩,by show m.length-(i+1)<m.length-i;omega⟩)))
theorem Ac1{w:World}{vo:Value}{n:NtV}{o:List Int}(hn:eN.R (λ_=>True) w vn n)(ho:eI.R (λ_=>True) w vo o):CR prog 9 #[vn,vo,iW line] w (Is (.bool true)):=by
 obtain⟨s,rfl,hs,hb⟩:=hn;have hn:eN.R (λ_=>True) w (.agg #[iW n.b,s]) n:=⟨s,rfl,hs,hb⟩;refine enter func9 O ntmps9 O (.beg (.go O (.box O O λw1 b3 n1=>?_)));obtain⟨e1,k3,hb3,hs1⟩:=n1;refine .go O (.ldA G2 O O k3 O (.go O (.bsl _ O O Ah1 λw2 b17 n2=>?_)));have hl:eM.R (λ_=>True) w2 (.slice (some ⟨b17,0,none⟩) 1 1) [[]]:=Be2 [.slice none 0 0] [[]] n2 upT O O (by decide) (Els.snoc Els.nil RL.nil);have x2:=e1.trans n2.1;refine .call _ O BS0 O (BO8 (hn.ext x2) (ho.ext x2) hl) λv3 w3 e3 h3=>?_;obtain⟨bl,rfl,hlong⟩:=h3;have x3:=x2.trans e3
 cases bl with
 | true =>
  refine .go O (.call _ O Ae5 O Ad4 λv4 w4 e4 h4=>?_);subst h4;exact .goE O (.p1 _ results9 O ⟨x3.trans e4,rfl⟩)
 | false =>
 have k3:=k3.ext (n2.1.trans e3);refine .go O (.ldA G2 O O k3 O (.go O (.call _ O AV2 O (AU8 upT (hn.ext x3) (ho.ext x3)) λv6 w6 e6 h6=>?_)));obtain⟨vf,ve,rfl,hfl,rfl⟩:=h6;have x6:=x3.trans e6;have k3:=k3.ext e6;refine .go O (.ldA G2 O O k3 O (.go O (.call _ O BH8 O (BF9 upT (hn.ext x6) (ho.ext x6)) λv7 w7 e7 h7=>?_)));obtain⟨vt,ve,rfl,htb,rfl⟩:=h7;have x7:=x6.trans e7;have k3:=k3.ext e7;have hfl:=ER.ext eV hfl e7;have hn7:=hn.ext x7;have ho7:=ho.ext x7;refine .goC O (.lp (α:=Nat) [1,2,3,7,8,9,10] O (λr=>[(11,iW (r:Nat))]) (λr W=>Ext w7 W/\r<=2) (λr=>2-r) 0 (lc1 O) ⟨Ext.refl _,aC _⟩ ?_);rintro r W ⟨hW,hr⟩;have zW:=hW.size;refine .go O ?_;rcases aB r 2 with hlt | hge;rotate_left
 ·refine .lssF O O O (by omega) (.go O (.call _ O Ae5 O Ad4 λv8 w8 e8 h8=>?_));subst h8;exact .goE O (.p1 _ results9 O ⟨(x7.trans hW).trans e8,rfl⟩)
 refine .lssT O O O (by omega) (.go O (.ldA G2 O O (k3.ext hW) O (.go O (.call _ O V4 O (U5 (S:=λ_=>True) (T0:=λk=>w7.heap.size<=k) upT (λk hk=>by have:=hW.size;omega) (hn7.ext hW) (ho7.ext hW)) λv10 W3 d3 h10=>?_))));obtain⟨vf2,ve,rfl,hf2,rfl⟩:=h10;have hW3:=hW.trans d3;refine .go O (.ldA G2 O O (k3.ext hW3) O (.go O (.call _ O E_Table O (Table_t (T0:=λk=>W3.heap.size<=k) (λk hk=>hk) (hn7.ext hW3) (ho7.ext hW3)) λv11 W4 d4 h11=>?_)));obtain⟨vt2,ve,rfl,ht2,rfl⟩:=h11;have hW4:=hW3.trans d4;have hf2:=ER.ext eV (ER.lt eV hf2) d4;refine .go O (.neqF O O O O (.go O (.neqF O O O O (.go O ?_))));refine .call _ O AT7 O (Bi8 (eV.mono (λ_ _ _=>trivial) hf2) (ER.ext eV hfl hW4) O) λv12 W5 d5 h12=>?_;subst h12;have hW5:=hW4.trans d5;refine .go O (.call _ O BR9 O (BO7 (eM.mono (λ_ _ _=>trivial) (ER.ext eM ht2 d5)) (ER.ext eM htb hW5)) λv13 W6 d6 h13=>?_);subst h13;have d56:=d5.trans d6;have hW6:=hW4.trans d56;have hf6:=ER.ext eV hf2 d56;have ht6:=ER.ext eM ht2 d56;obtain⟨_,_,hvf,_,_⟩:=RL.len hf6;refine .go O (.bsl _ O O (by rw[hvf];exact Ah1) λW9 b9 n9=>?_);have hbc:eM.R (λk=>(w7.heap.size<=k/\k<W3.heap.size)\/W6.heap.size<=k) W9 (.slice (some ⟨b9,0,none⟩) 1 1) [_]:=Be2 [vf2] [_] n9 (λk hk=>.inr hk) (by rw[hvf]) O (by decide) (Els.snoc Els.nil (eV.mono (λ_ _ h=>.inl h) hf6));have z36:=(d4.trans d56).size;have z3:=hW3.size;have hW9:=hW6.trans n9.1;have ht9:=ER.ext eM (ER.lt eM ht6) n9.1;refine .go O (.callG _ O Ae6 O (Ad5 (eM.shape hbc)) λv16 W10 hC10=>?_);have hW10:Ext w7 W10:=Chg.below hC10 hW9 hW9.size λk hk=>by omega
 have ht10:=eM.keep (hC10.kp (S:=λk=>W3.heap.size<=k/\k<W6.heap.size) λk hk h=>by omega) ht9;refine .go O (.callG _ O Ae6 O (Ad5 (eM.shape ht10)) λv17 W11 hC11=>?_);have hW11:Ext w7 W11:=Chg.below hC11 hW10 hW10.size λk hk=>by omega
 exact .go O (.inc O O O (by omega) (.goN O (.mk (r+1) O (lc1 O) ⟨⟨hW11,hlt⟩,by show 2-(r+1)<2-r;omega⟩)))
section
variable {H:Type} {enc:TypeId×Value->H} {P:Program} {W:World}
def sh4 (P:Program) (t:TypeId):Option (List (TypeId×Nat)) :=
 match P.underlying t with
 | some (.struct fs)=>if fs.size=4 then some (fs.toList.map λf=>(f.type,f.offset)) else none
 | _=>none
theorem Bv5 {t ti tj:TypeId} (hs:sh4 P t=some [(ti,0),(ti,1),(tj,2),(tj,3)]) (hi:P.underlying ti=some (.int .i64)) (hj:P.underlying tj=some (.int .i64)) (hci:P.cellsOf ti=1) (hcj:P.cellsOf tj=1) (hct:P.cellsOf t=4):Opn enc P W eL t (λ_ _=>True):=by
 intro fuel cs x hx hfz;unfold sh4 at hs;split at hs
 ·rename_i fs hu;split at hs
  ·rename_i hsz;simp only[Option.some.injEq] at hs;obtain⟨l⟩:=fs;match l,hsz with
   | [f0,f1,f2,f3],_ =>
    simp only[dT,List.map_nil,List.cons.injEq,Prod.mk.injEq,and_true] at hs;obtain⟨⟨h0,o0⟩,⟨h1,o1⟩,⟨h2,o2⟩,h3,o3⟩:=hs;obtain⟨y0,y1,y2,y3,n,rfl,hl,g0,g1,g2,g3⟩:=Joins.trod_struct4 hu hx;rw[h0,o0,hci] at g0;rw[h1,o1,hci] at g1;rw[h2,o2,hcj] at g2;rw[h3,o3,hcj] at g3;rw[hct] at hl;obtain⟨c0,c1,c2,c3,rfl⟩:∃ c0 c1 c2 c3,cs=[c0,c1,c2,c3]:=by
     match cs,hl with
     | [c0,c1,c2,c3],_=>exact⟨c0,c1,c2,c3,rfl⟩
    obtain⟨n0,e0,_,w0⟩:=DataW.trod_int hi g0;obtain⟨n1,e1,_,w1⟩:=DataW.trod_int hi g1;obtain⟨n2,e2,_,w2⟩:=DataW.trod_int hj g2;obtain⟨n3,e3,_,w3⟩:=DataW.trod_int hj g3;simp at e0 e1 e2 e3;subst e0 e1 e2 e3;exact⟨.agg #[iW n0,iW n1,iW n2,iW n3],⟨n0,n1,n2,n3⟩,rfl,⟨rfl,Ax3 w0,Ax3 w1,Ax3 w2,Ax3 w3⟩,trivial⟩
  ·cases hs
 ·cases hs
theorem opn_N {t ti tl te:TypeId} (hs:sh2 P t=some ((ti,0),(tl,1))) (hi:P.underlying ti=some (.int .i64)) (hci:P.cellsOf ti=1) (hcl:P.cellsOf tl=1) (hct:P.cellsOf t=2) (hl:P.underlying tl=some (.slice te)) (hce:P.cellsOf te=4) (he:Opn enc P W eL te (λ_ _=>True)):Opn enc P W eN t (λ_ _=>True):=by
 intro fuel cs x hx hfz;obtain⟨y0,y1,n,rfl,hlen,h0,h1⟩:=Bt0 hs hx;rw[hci] at h0;rw[hcl] at h1;rw[hct] at hlen;obtain⟨c0,c1,rfl⟩:∃ c0 c1,cs=[c0,c1]:=by
  match cs,hlen with
  | [c0,c1],_=>exact⟨c0,c1,rfl⟩
 obtain⟨b,hb',_,hw⟩:=DataW.trod_int hi h0;simp at hb';subst hb';obtain⟨e,l,he',hR,_⟩:=(Opn.slice (Z:=λ_ _=>True) (E:=eL) (by decide) hl hce he) n _ _ h1 hfz.right;obtain⟨a,c,rfl,_⟩:=RL.len hR;simp[Value.cells] at he';subst he';exact⟨.agg #[iW b,.slice a l.length c],⟨b,l⟩,rfl,⟨_,rfl,hR,Ax3 hw⟩,trivial⟩
end
section
variable {H:Type} {enc:TypeId×Value->H} {W:World}
theorem opnN:Opn enc prog W eN 24 (λ_ _=>True):=opn_N (ti:=3) (tl:=22) (te:=53) (by kernel_rfl) AJ3 (by kernel_rfl) (by kernel_rfl) (by kernel_rfl) I6 (by kernel_rfl) (Bv5 (ti:=3) (tj:=2) (by kernel_rfl) AJ3 Ay3 (by kernel_rfl) (by kernel_rfl) (by kernel_rfl))
theorem opnH:Opn enc prog W eI 25 (ZL λ_ _=>True):=Opn.slice (by decide) C5 (by kernel_rfl) (opn_int AJ3)
end
end Go.Proofs.YtpgkacdihhjknaaGreat
