/-
  What the claim leans on.
-/
import Derived.Test.YtpgkacdihhjknaaGreatG6
set_option linter.unusedVariables false
set_option linter.unusedSimpArgs false
set_option linter.unnecessarySimpa false
namespace Go.Proofs.YtpgkacdihhjknaaGreat
open Go Go.RowKit Tryz
set_option maxRecDepth 8000
variable {n:NtV}{o:List Int}{L b c B i k:Nat}{S T0:Nat->Prop}{w:World}{d a line:Int}{α:Type}{t:TypeId}{vn v vo vx:Value}{x:List QV}
def Nw.gA (n:Nw):List (List QV):=C6 n.B n.B n.gm
def Nw.th (n:Nw) (b c:Nat):Rat:=rm (AK8 n.gA) c b
def Nw.hf (n:Nw) (k b:Nat):Rat:=n.fl (n.th b) k
section
variable {n:Nw}
theorem L6:n.gA.length=n.B:=A8 ..
theorem AM4 (hB:1<=n.B):A1 n.gA=n.B:=by unfold Nw.gA;rw[Ao8,if_neg (by omega)]
theorem rm_gA {i k:Nat} (hi:i<n.B) (hk:k<n.B):rm n.gA i k=n.gm i k:=by unfold Nw.gA;rw[Av9,if_pos ⟨hi,hk⟩]
theorem BP6 (ok:n.Ok) (hB:1<=n.B):J3 n.gA:=by
 have hc:=AM4 hB;rw[Bx7 (by rw[hc,L6]),L6];have h1:=Bn9 n.gA;rw[hc] at h1;rcases aU (Ad2 n.gA).length with h0 | hp
 ·omega
 exfalso;rw[Ar8] at hp;obtain⟨hk,hkp⟩:=Bo3 hp;rw[hc] at hk;have hz:=Nw.ker0 (θ:=nv (I7 n.gA) (C7 n.gA) ((AQ4 n.gA).getD 0 0)) ok (λb hb=>by
  have h2:=Bm8 (m:=n.gA) (k:=(AQ4 n.gA).getD 0 0) (by rw[hc];exact hk) b;rw[hc] at h2;have h3:=Nw.gm_sum ok (nv (I7 n.gA) (C7 n.gA) ((AQ4 n.gA).getD 0 0)) hb;have h4:B9 n.B (λc=>rm n.gA b c*nv (I7 n.gA) (C7 n.gA) ((AQ4 n.gA).getD 0 0) c)=B9 n.B (λc=>n.gm b c*nv (I7 n.gA) (C7 n.gA) ((AQ4 n.gA).getD 0 0) c):=A9 λc hc'=>by rw[rm_gA hb hc']
  rw[<-h4,h2] at h3;split
  ·rw[if_pos (by assumption)] at h3;exact h3.symm
  ·rw[if_neg (by assumption)] at h3;exact h3.symm) _ hk
 rw[nv_self (not_piv hkp)] at hz;exact absurd hz (by decide)
theorem BT8 (ok:n.Ok) (hB:1<=n.B) {b i:Nat} (hb:b<n.B) (hi:i<n.B):(if n.root i=i then n.th b i else n.lap (n.th b) i)=dl i b:=by
 have h:=BL0 (BP6 ok hB) (i:=i) (k:=b) (by rw[L6];exact hi) (by rw[L6];exact hb);rw[L6] at h;rw[<-Nw.gm_sum ok (n.th b) hi];have e:B9 n.B (λc=>n.gm i c*n.th b c)=B9 n.B (λj=>rm n.gA i j*rm (AK8 n.gA) j b):=A9 λc hc=>by rw[rm_gA hi hc];rfl
 rw[e,h];rfl
end
theorem BX1(h:nwOk n o):mk_ 21 (A0 n o).gA:=Aw2 λb c hb hc=>by
 unfold Nw.gm
 split
 ·unfold dl
  split
  ·exact rsz1 (by decide)
  ·exact Rsz.zero (by decide)
 ·unfold Nw.Lm
  rw[<-Nw.lmL_free (p:=oN o) b c _ λk hk=>h.g0 hk]
  refine ((A0 n o).lmL_rsz (aA _) h.gsz b c _).mono ?_
  have:=Ab5 (oN o) (A0 n o).M
  have:=h.m
  omega
theorem bd216:bd 21 6=87381:=by decide
theorem Bs4(h:nwOk n o)(b c:Nat):Rsz ((A0 n o).th b c) 87381:=by have:=Bi9 (n:=6) (BX1 h) (by decide) (by rw[L6];exact h.b6);rw[bd216] at this;exact this.rsz (by decide) c b
theorem Bz0(h:nwOk n o){θ:Nat->Rat}(hθ:∀ c,Rsz (θ c) L)(k:Nat):Rsz ((A0 n o).fl θ k) (2*L+2):=by unfold Nw.fl;have h1:=(hθ ((A0 n o).F k)).add (hθ ((A0 n o).T k)).neg;rw[<-cW] at h1;exact ((h.gsz k).mul h1).mono (by omega)
theorem BP1(h:nwOk n o)(k b:Nat):Rsz ((A0 n o).hf k b) 174764:=Bz0 h (Bs4 h b) k
section
variable {n:Nw}
theorem Nw.th_root (ok:n.Ok) {b c:Nat} (hb:b<n.B) (hr:n.root b=b) (hc:c<n.B):n.th b c=if n.root c=b then 1 else 0:=by
 refine Nw.uniq (φ:=λc=>if n.root c=b then 1 else 0) ok (λi hi=>?_) c hc;have h:=BT8 ok (by omega) hb hi;split
 ·rename_i hri;rw[if_pos hri] at h;rw[h,hri];rfl
 ·rename_i hri;rw[if_neg hri] at h;rw[h,AV0 (a:=i) (b:=b) (λe=>hri (by rw[e];exact hr))];symm;unfold Nw.lap Nw.off;refine H0 λk hk=>?_;unfold Nw.fl;by_cases hg:n.g k=0
  ·rw[hg];grind
  ·dsimp only;rw[Nw.root_line hk hg];grind
theorem Nw.hf_root (ok:n.Ok) {k b:Nat} (hk:k<n.M) (hb:b<n.B) (hr:n.root b=b):n.hf k b=0:=by
 unfold Nw.hf Nw.fl;rw[Nw.th_root ok hb hr (ok.f k hk),Nw.th_root ok hb hr (ok.t k hk)];by_cases hg:n.g k=0
 ·rw[hg,bL]
 ·rw[Nw.root_line hk hg];grind
theorem Nw.lap_th (ok:n.Ok) {b i:Nat} (hb:b<n.B) (hi:i<n.B):n.lap (n.th b) i=dl i b-dl i (n.root b):=by
 have hB:1<=n.B:=by omega
 have hsum:=Nw.off_clo (f:=n.fl (n.th b)) ok (Nw.clo_root (n:=n) (n.root i)) λk _ hg=>Nw.fl_out hg;by_cases hr:n.root b=b
 ·rw[hr];have:n.lap (n.th b) i=0:=by unfold Nw.lap Nw.off;refine H0 λk hk=>?_;rw[show n.fl (n.th b) k=n.hf k b from rfl,Nw.hf_root ok hk hb hr,aW]
  rw[this];grind
 by_cases hri:n.root i=i
 ·rw[hri] at hsum;have e:B9 n.B (λc=>if n.root c=i then n.off (n.fl (n.th b)) c else 0)=B9 n.B (λc=>(if c=i then n.lap (n.th b) i else 0)+(if n.root c=i then dl c b else 0)):=A9 λc hc=>by
   have h:=BT8 ok hB hb hc;by_cases hci:c=i
   ·subst hci;rw[if_pos hri,if_pos rfl,if_pos hri,AV0 (a:=c) (b:=b) (λe=>hr (by rw[<-e];exact hri))];show n.lap (n.th b) c=_;grind
   ·rw[if_neg hci];by_cases hrc:n.root c=i
    ·have hcn:n.root c≠c:=λe=>hci (by rw[<-hrc];exact e.symm);rw[if_neg hcn] at h;rw[if_pos hrc,if_pos hrc];show n.lap (n.th b) c=_;rw[h];grind
    ·rw[if_neg hrc,if_neg hrc];grind
  rw[e,Aj1,I8 (i:=i) (λc _ hne=>if_neg hne),if_pos hi,if_pos rfl,I8 (i:=b) (λc _ hne=>by rw[AV0 hne];split<;>rfl),if_pos hb,Ab7] at hsum
  have hib:i≠b:=λe=>hr (e▸hri);rw[AV0 hib];by_cases hrb:n.root b=i
  ·rw[if_pos hrb] at hsum;rw[hrb,Ab7];grind
  ·rw[if_neg hrb] at hsum;rw[AV0 (Ne.symm hrb)];grind
 ·have h:=BT8 ok hB hb hi;rw[if_neg hri] at h;rw[h,AV0 (a:=i) (b:=n.root b) (λe=>hri (by rw[e];exact Nw.root_root b))];grind
end
theorem BE9:Ent prog 206:=en func206
theorem BB5{n:Int}(up:Up S w)(hn1 : -9223372036854775808<=n)(hn2:n<=9223372036854775807)(hd1 : -9223372036854775808<=d)(hd2:d<=9223372036854775807)(hd:d≠0) :
  CR prog 206 #[iW n,iW d] w (Two (eQ.at S (qc (Rat.divInt n d))) (Is (iW 0))):=by
 refine enter func206 O ntmps206 O (.sr (.alloc O E8 λw1 b4 n1=>.an O O ?_));obtain⟨e1,k4,hb4,hs1⟩:=n1;have hS4:¬ Sx S w.heap.size w1.heap.size b4:=Sx.no (by omega) (by omega);have up1:Up (Sx S w.heap.size w1.heap.size) w1:=Sx.up up (aA _) e1.size;refine .seq (.sr (.mv O O (.eqlF O O O hd (.nil (.condF O (.skip (.sr (.mv O O (.call _ O H4 O (H1 up1 hn1 hn2) λv2 w2 e2 h2=>.mv O O (.call _ O H4 O (H1 (up1.ext e2.size) hd1 hd2) λv3 w3 e3 h3=>(.call _ O AP3 O (BH0 (L:=2) (up1.ext (e2.trans e3).size) (Zv.of (ER.ext eZ h2 e3) (by omega)) (Zv.of h3 (by omega)) hd (by decide)) λv5 w5 e5 h5=>?_)))))))))));have x5:=((e1.trans e2).trans e3).trans e5;refine .storeA (E:=eQ) A3 O O (((k4.ext e2).ext e3).ext e5) O O h5 hS4 λw6 k6 u6 h6=>.an O O (.ret ?_);exact .plain [_,_] results206 ⟨⟨_,rfl,H5 (E:=eQ) A3 O O k6 h6⟩,rfl,trivial⟩ ⟨u6.below x5 (by omega),_,_,rfl,h6.out,rfl⟩
section
variable {n:Nw}
theorem sum_two {B a c:Nat} (ha:a<B) (hc:c<B) (D:Nat->Prop) [DecidablePred D]:B9 B (λi=>if D i then dl i a-dl i c else 0)=(if D a then 1 else 0)-(if D c then 1 else 0):=by
 have e:B9 B (λi=>if D i then dl i a-dl i c else 0)=B9 B (λi=>(if D i then 1 else 0)*dl a i-(if D i then 1 else 0)*dl c i):=A9 λi _=>by
  have h1:dl i a=dl a i:=by unfold dl;split<;>split<;>first | rfl | omega
  have h2:dl i c=dl c i:=by unfold dl;split<;>split<;>first | rfl | omega
  rw[h1,h2];split<;>grind
 rw[e,AF5,AJ4 (λi=>if D i then 1 else 0) ha,AJ4 (λi=>if D i then 1 else 0) hc]
theorem Nw.fl_sub (θ φ:Nat->Rat) (k:Nat):n.fl (λc=>θ c-φ c) k=n.fl θ k-n.fl φ k:=by unfold Nw.fl;grind
end
theorem B4.one{E:ER α}{base:Nat}{X:Nat->Prop}{w':World}{e:Value}{x:α}(hn:New w w' b t e.cells)(hb:base<=w.heap.size)(hs:e.cells.size=E.sz)(hx:E.R (λk=>X k/\k≠b) w' e x):B4 E t base X w' (.slice (some ⟨b,0,none⟩) 1 1) [x]:=by
 obtain⟨_,hk,hb',_⟩:=hn;have hc:cellsOf [e]=e.cells.toList:=by simp[cellsOf]
 refine⟨[e],⟨by rw[hc];simp[hs],.inr ⟨b,1,_,rfl,by omega,hk,aA _,by decide,by simp[hs],by rw[hc,aK (by simp[hs])]⟩⟩,rfl,λi e' x' he hx'=>?_⟩;have hi:i=0:=by
  cases i with
  | zero=>rfl
  | succ i=>simp at he
 subst hi;simp at he hx';subst he;subst hx';exact E.mono (λk _ h=>⟨h.1,λe=>h.2 (by simpa[Value.ownBlock] using e.symm)⟩) hx
section
variable {n:Nw}
theorem Nw.lap_add (θ φ:Nat->Rat) (b:Nat):n.lap (λc=>θ c+φ c) b=n.lap θ b+n.lap φ b:=by unfold Nw.lap Nw.off;rw[<-Aj1];refine A9 λk _=>?_;unfold Nw.fl;grind
theorem Nw.lap_smul (θ:Nat->Rat) (y:Rat) (b:Nat):n.lap (λc=>θ c*y) b=n.lap θ b*y:=by unfold Nw.lap Nw.off;rw[<-AD2];refine A9 λk _=>?_;unfold Nw.fl;grind
theorem Nw.lap_zero (b:Nat):n.lap (λ_=>0) b=0:=by unfold Nw.lap Nw.off;refine H0 λk _=>?_;unfold Nw.fl;grind
theorem Nw.lap_lin (t:Nat->Nat->Rat) (y:Nat->Rat) (i:Nat):∀ m,n.lap (λc=>B9 m λb=>t b c*y b) i=B9 m λb=>n.lap (t b) i*y b
 | 0=>Nw.lap_zero i
 | m+1=>by
  show n.lap (λc=>(B9 m λb=>t b c*y b)+t m c*y m) i=(B9 m λb=>n.lap (t b) i*y b)+n.lap (t m) i*y m
  rw[Nw.lap_add,Nw.lap_lin t y i m,Nw.lap_smul]
theorem Nw.fl_lin (t:Nat->Nat->Rat) (y:Nat->Rat) (k:Nat):∀ m,n.fl (λc=>B9 m λb=>t b c*y b) k=B9 m λb=>n.fl (t b) k*y b
 | 0=>by unfold Nw.fl;show n.g k*(0-0)=0;grind
 | m+1=>by
  have ih:=Nw.fl_lin t y k m
  show n.fl (λc=>(B9 m λb=>t b c*y b)+t m c*y m) k=(B9 m λb=>n.fl (t b) k*y b)+n.fl (t m) k*y m
  rw[<-ih]
  unfold Nw.fl;grind
def Nw.inj0 (n:Nw) (x:Nat->Rat) (b:Nat):Rat:=if n.root b=b then 0 else x b
def Nw.an (n:Nw) (x:Nat->Rat) (c:Nat):Rat:=B9 n.B λb=>n.th b c*n.inj0 x b
theorem Nw.an_eq (ok:n.Ok) (x:Nat->Rat) {i:Nat} (hi:i<n.B):(if n.root i=i then n.an x i else n.lap (n.an x) i)=n.inj0 x i:=by
 have hB:1<=n.B:=by omega
 have key:∀ b,b<n.B->(if n.root i=i then n.th b i else n.lap (n.th b) i)=dl i b:=λb hb=>BT8 ok hB hb hi;by_cases hr:n.root i=i
 ·rw[if_pos hr];unfold Nw.an;rw[<-AJ4 (n.inj0 x) hi];refine A9 λb hb=>?_;have:=key b hb;rw[if_pos hr] at this;rw[this,fG]
 ·rw[if_neg hr];unfold Nw.an;rw[Nw.lap_lin,<-AJ4 (n.inj0 x) hi];refine A9 λb hb=>?_;have:=key b hb;rw[if_neg hr] at this;rw[this,fG]
def Nw.bal (n:Nw) (x:Nat->Rat):Prop:=∀ r,r<n.B->n.root r=r->B9 n.B (λb=>if n.root b=r then x b else 0)=0
theorem Nw.lap_an (ok:n.Ok) {x:Nat->Rat} (hb:n.bal x) {i:Nat} (hi:i<n.B):n.lap (n.an x) i=x i:=by
 have h0:∀ i,i<n.B->n.root i≠i->n.lap (n.an x) i=x i:=λi hi hr=>by have:=n.an_eq ok x hi;rw[if_neg hr] at this;rw[this];unfold Nw.inj0;rw[if_neg hr]
 by_cases hr:n.root i=i;rotate_left
 ·exact h0 i hi hr
 have h1:=Nw.off_clo (n:=n) (f:=n.fl (n.an x)) (D:=λb=>n.root b=i) ok (Nw.clo_root i) λk _ hg=>Nw.fl_out hg;have h2:=hb i hi hr;have h3:B9 n.B (λb=>(if n.root b=i then n.off (n.fl (n.an x)) b else 0)-(if n.root b=i then x b else 0))=0:=by rw[AF5,h1,h2];grind
 have h4:B9 n.B (λb=>(if n.root b=i then n.off (n.fl (n.an x)) b else 0)-(if n.root b=i then x b else 0))=B9 n.B λb=>(n.lap (n.an x) i-x i)*dl i b:=A9 λb hb=>by
  by_cases e:i=b
  ·subst e;rw[if_pos hr,if_pos hr,Ab7];unfold Nw.lap;grind
  ·rw[AV0 e];by_cases h:n.root b=i
   ·rw[if_pos h,if_pos h];have:=h0 b hb (λh'=>e (h.symm.trans h'));unfold Nw.lap at this;rw[this];grind
   ·rw[if_neg h,if_neg h];grind
 have h5:=AJ4 (n:=n.B) (a:=i) (λ_=>n.lap (n.an x) i-x i) hi;have h6:=h4.symm.trans h3;grind
theorem Nw.fl_an (ok:n.Ok) (x:Nat->Rat) {k:Nat} (hk:k<n.M):n.fl (n.an x) k=B9 n.B λb=>n.hf k b*x b:=by
 unfold Nw.an;rw[Nw.fl_lin];refine A9 λb hb=>?_;unfold Nw.inj0;by_cases hr:n.root b=b
 ·rw[if_pos hr,Nw.hf_root ok hk hb hr];grind
 ·rw[if_neg hr];rfl
theorem Nw.bal_lab (x:Nat->Rat):n.bal x<->∀ j,j<n.B->B9 n.B (λb=>if n.lab b=j then x b else 0)=0:=by
 have key:∀ r,r<n.B->n.root r=r->B9 n.B (λb=>if n.lab b=n.lab r then x b else 0)=B9 n.B (λb=>if n.root b=r then x b else 0):=λr hr hrr=>A9 λb hb=>by
  by_cases h:n.root b=r
  ·rw[if_pos h,if_pos ((Nw.lab_eq hb hr).2 (h.trans hrr.symm))]
  ·rw[if_neg h,if_neg λh'=>h (((Nw.lab_eq hb hr).1 h').trans hrr)]
 constructor
 ·intro h j hj;by_cases hex:∃ b,b<n.B/\n.lab b=j
  ·obtain⟨b,hb,rfl⟩:=hex;have hrb:n.root b<n.B:=bI (Nw.root_le b) hb;rw[n.lab_of b,key _ hrb (Nw.root_root b)];exact h _ hrb (Nw.root_root b)
  ·exact H0 λb hb=>by rw[if_neg λh=>hex ⟨b,hb,h⟩]
 ·intro h r hr hrr;rw[<-key r hr hrr];exact h _ (bI (n.lab_le r) hr)
theorem Nw.bal_congr {x y:Nat->Rat} (h:∀ b,b<n.B->x b=y b):n.bal x<->n.bal y:=by
 unfold Nw.bal;have:∀ r,B9 n.B (λb=>if n.root b=r then x b else 0)=B9 n.B (λb=>if n.root b=r then y b else 0):=λr=>A9 λb hb=>by rw[h b hb]
 simp only[this]
def Nw.bl (n:Nw) (x:Nat->Rat) (b:Nat):Rat:=if n.root b=b then-B9 n.B (λc=>if c≠b/\n.root c=b then x c else 0) else x b
end
theorem MB.new{tq:TypeId}{w1 w2:World}{gb:Nat}{hs:List Nat}{M:List (List QV)}(h:MB t tq S w gb c hs M)(e:Ext w w1)(u:Upd w1 w2 b)(hb:w.heap.size<=b):MB t tq S w2 gb c hs M:=by
 have h1:=h.mono (S':=λk=>S k/\k<w.heap.size) λk hk hS=>⟨hS,hk⟩;have hg:=h.out.lt;have h2:=(h1.ext e).upd u (by omega) (λhm=>by have:=h.lt hm;omega) λhS=>by have:=hS.2;omega
 exact h2.mono λk _ hS=>hS.1
theorem AW0{j:Nat}{f:RM}{y:Rat}(hi:i<B):(C6 B B f).set i ((tab B (f i)).set j (qc y))=C6 B B (upE f i j y):=by rw[AB1,R5 hi];rfl
theorem Am4:Ent prog 190:=en func190
theorem Aj4{vl vr:Value}(up:Up S w)(hn:eN.R S w vn n)(hl:eI.R S w vl (A7 (inL n o)))(hr:eI.R S w vr (A7 (A0 n o).refs))(ok:nwOk n o) :
  CR prog 190 #[vn,vl,vr] w (eM.at S (C6 (A0 n o).B (A0 n o).B (A0 n o).gm)):=by
 obtain⟨s,rfl,hs,_⟩:=hn;have hB6:=ok.b6;have hM10:n.ls.length<=10:=ok.m;have hll:=AE6 n o;have hnb:=ok.b;refine enter func190 O ntmps190 O ?_;refine .sr (.box O O λw1 b3 n1=>.an O O ?_);obtain⟨e1,k3,hb3,hs1⟩:=n1;rw[hnb] at k3;generalize hnw:A0 n o=nw at *;generalize hB:nw.B=B at *;refine .sr (.fa F9 O O (.ld A5 O O k3 O (.fa F9 O O (.ld A5 O O k3 O ?_))));refine .call _ rfl BR7 O (BG7 (m:=[]) (L:=1) (up.ext e1.size) RL.nil (λr hr=>by cases hr) (by decide) (by decide)) λv2 w2 e2 h2=>.an O O ?_;obtain⟨gb,hs2,rfl,hgb,hge,hM⟩:=h2;have hcB:AH2 (B:Int)=B:=by unfold AH2;omega
 rw[hcB] at hM ⊢;have hz:C6 B B (rm [])=C6 B B (nw.lmL []):=E7 λi k _ _=>by unfold rm;rw[List.getD_nil,AS0];rfl
 rw[hz] at hM;have x2:=e1.trans e2;have hw1:=e1.size;have hsW:∀ {W:World},Below w1.heap.size w2 W->eLs.R (λk=>S k/\k<w.heap.size) W s n.ls:=λh=>eLs.keep (λk c t f hk hh=>(h.block k (by have:=hk.2;omega)).trans hh) (ER.ext eLs (ER.lt eLs hs) x2);have hlW:∀ {W:World},Below w1.heap.size w2 W->eI.R (λk=>S k/\k<w.heap.size) W vl (A7 (inL n o)):=λh=>eI.keep (λk c t f hk hh=>(h.block k (by have:=hk.2;omega)).trans hh) (ER.ext eI (ER.lt eI hl) x2);have hrW:∀ {W:World},Below w1.heap.size w2 W->eI.R (λk=>S k/\k<w.heap.size) W vr (A7 nw.refs):=λh=>eI.keep (λk c t f hk hh=>(h.block k (by have:=hk.2;omega)).trans hh) (ER.ext eI (ER.lt eI hr) x2);have k3:=k3.ext e2;have hk3:∀ {W:World},Below w1.heap.size w2 W->Blk W b3 24 #[iW (B:Nat),s]:=λh=>(h.block b3 (by omega)).trans k3;have hhl:hs2.length=B:=by rw[hM.len,A8]
 have hhg:∀ i,i<B->hs2[i]?=some (hs2.getD i 0):=λi hi=>B0 (by omega);have hhm:∀ i,i<B->w1.heap.size<=hs2.getD i 0:=λi hi=>hge _ (H6 (by omega));have hw2:=e2.size;refine .mid (α:=Unit) (λ_=>[(2,vr),(3,pW b3),(7,.slice (some ⟨gb,0,none⟩) B B)]) (λ_ W=>Below w1.heap.size w2 W/\MB 26 39 S W gb B hs2 (C6 B B (nw.lmL (inL n o)))) ?_ ?_
 ·refine .sr (.mv O O (.lenR C5 O O (hlW (Below.refl _ _)) (.mv O O (.nil ?_))));rw[show (A7 (inL n o)).length=(inL n o).length by simp];refine .block (.loop (α:=Nat) (λi=>[(2,vr),(3,pW b3),(7,.slice (some ⟨gb,0,none⟩) B B),(21,vl),(22,iW ((inL n o).length:Nat)),(23,iW (i:Nat))]) (λi W=>Below w1.heap.size w2 W/\i<=(inL n o).length/\MB 26 39 S W gb B hs2 (C6 B B (nw.lmL ((inL n o).take i)))) (λi=>(inL n o).length-i) 0 ?_ ?_ ?_)
  ·exact lkA rfl
  ·exact⟨Below.refl _ _,aC _,hM⟩
  rintro i W ⟨hW,hi,hM⟩;have hhk:∀ j,j<B->hs2.getD j 0<W.heap.size:=λj hj=>hM.lt (H6 (by omega));refine .sr ?_;rcases aB i (inL n o).length with hlt | hge';rotate_left
  ·refine .lssF O O O (by omega) (.nil (.seq (.condF O (.exit ?_))));have:i=(inL n o).length:=by omega
   subst this;rw[aK (aA _)] at hM;exact⟨rfl,(),lkA rfl,hW,hM⟩
  obtain⟨hgk,hkM,hko⟩:=AM3 hlt;refine .lssT O O O (by omega) (.nil (.seq (.condT O (.skip (.seq (.block (.sr (.ixN (i:=i) C5 B5 O O (hlW hW) O hgk λq hq=>.ldE (E:=B8 .i64) B5 O O hq λe he=>.an O O ?_))))))));obtain⟨rfl,_⟩:=he;have htk:(inL n o).take (i+1)=(inL n o).take i++[(inL n o).getD i 0]:=by rw[cA,B0 (z:=0) hlt];rfl
  have hgl:n.ls[(inL n o).getD i 0]?=some (n.ls.getD ((inL n o).getD i 0) ln0):=B0 hkM;have hkM':(inL n o).getD i 0<(A0 n o).M:=hkM;have hFI:=ok.fI _ hkM';have hTI:=ok.tI _ hkM';have hFB:=ok.f _ hkM';have hTB:=ok.t _ hkM';have hne:=ok.ne _ hkM';have hx:=ok.x _ hkM';have hgs:=ok.gsz ((inL n o).getD i 0);have hgv:(A0 n o).g ((inL n o).getD i 0)=Rat.divInt 1 (n.ls.getD ((inL n o).getD i 0) ln0).x:=by show (if (inL n o).getD i 0∈oN o then (0:Rat) else ((n.ls.getD ((inL n o).getD i 0) ln0).x:Rat)⁻¹)=_;rw[if_neg hko,Rat.divInt_eq_div,dG,show ((1:Int):Rat)=1 from rfl,Rat.one_mul]
  rw[hnw] at hFI hTI hFB hTB hne hgs hgv;rw[hB] at hFB hTB;have hfs:∀ b c,Rsz (nw.lmL ((inL n o).take i) b c) 30:=λb c=>(nw.lmL_rsz (aA _) (λk=>by rw[<-hnw];exact ok.gsz k) b c _).mono (by rw[cI];omega);generalize hk:(inL n o).getD i 0=k at *;generalize hf:nw.lmL ((inL n o).take i)=f at *;generalize hln:n.ls.getD k ln0=ln at *;refine .sr (.fa G5 O O (.ld J0 O O (hk3 hW) O (.mv O O (.ixN (i:=k) I6 L8 O O (hsW hW) O hgl λq hq=>.ldE (E:=eL) L8 O O hq λvl' hvl=>.alloc O Aa0 λW1 b10 n1'=>?_))));obtain⟨f1,k10,hb10,hs1'⟩:=n1';refine .storeA (E:=eL) (S:=λk=>k≠b10) (z:=ln) L8 O O k10 O O hvl (λh=>h O) λW2 k10 u2 hl2=>.nil ?_;obtain⟨rfl,_⟩:=hl2;rw[hFI,hTI] at k10;replace k10:Blk W2 b10 53 #[iW (nw.F k:Nat),iW (nw.T k:Nat),iW ln.x,iW ln.c]:=k10;have hWs:=hW.size;have hM:=hM.new f1 u2 (by omega);have hs2':=u2.size;have hW2:Below w1.heap.size w2 W2:=u2.below (hW.trans (f1.mono (by omega))) (by omega);have upT:∀ {W':World},W2.heap.size<=W'.heap.size->Up (offM S gb hs2) W':=λh k' hk'=>⟨up k' (by omega),by have:=hM.out.lt;omega,λhm=>by have:=hM.lt hm;omega⟩;refine .sr (.fa AI2 O O (.ld Z4 O O k10 O ?_));refine .call _ O BE9 O (BB5 (upT (aA _)) (by decide) (by decide) (by omega) (by omega) (by omega)) λv3 W3 e3 h3=>?_;obtain⟨vp,ve,rfl,hp,rfl⟩:=h3;rw[<-hgv] at hp;refine .mv O O (.ext O O O (.ext O O O (.alloc O E8 λW4 b11 n4=>?_)));obtain⟨e4,k11,hb11,hs4⟩:=n4;have hs3:=e3.size;refine .storeA (E:=eQ) (S:=λk=>offM S gb hs2 k/\k<W3.heap.size) A3 O O k11 O O (ER.ext eQ (ER.lt eQ hp) e4) (λh=>by have:=h.2;omega) λW5 k11 u5 hp5=>.an O O ?_;have hp5:eQ.R (offM S gb hs2) W5 vp (qc (nw.g k)):=eQ.mono (λ_ _ h=>h.1) hp5;have hvp:=G8 (E:=eQ) O hp5;have hM:=hM.new (e3.trans e4) u5 (by omega);have hs5:=u5.size;have hW5:Below w1.heap.size w2 W5:=u5.below (hW2.trans ((e3.trans e4).mono (by omega))) (by omega);have k10:=(k10.ext (e3.trans e4)).upd u5 (show b10≠b11 by omega);have hrow0:=hM.row (nw.F k) _ _ (hhg _ hFB) (F2 hFB);refine .seq ?_;refine .par follows 18 [.inl (.slice (some ⟨gb,0,none⟩) B B),.inl (pW b10),.inl (iW (nw.F k:Nat)),.inl (.pointer (some ⟨gb,0+(nw.F k)*1,none⟩)),.inl (slB B (hs2.getD (nw.F k) 0)),.inl (pW b10),.inl (iW (nw.F k:Nat)),.inl (.slice (some ⟨gb,0,none⟩) B B),.inl (pW b10),.inl (iW (nw.F k:Nat)),.inl (.pointer (some ⟨gb,0+(nw.F k)*1,none⟩)),.inl (slB B (hs2.getD (nw.F k) 0)),.inl (pW b10),.inl (iW (nw.F k:Nat)),.inl (.pointer (some ⟨hs2.getD (nw.F k) 0,0+(nw.F k)*4,none⟩)),.inr (eQ.at (offM S gb hs2) (qc (f (nw.F k) (nw.F k)))),.inl vp,.inr (eQ.at (offM S gb hs2) (qc (f (nw.F k) (nw.F k)+nw.g k)))]
   [[],[],[(39,1)],[(38,0),(40,2)],[(41,3)],[],[(43,5)],[],[],[(46,8)],[(45,7),(47,9)],[(48,10)],[],[(50,12)],[(49,11),(51,13)],[(52,14)],[],[(53,15),(54,16)]] (by kernel_rfl) ⟨mvo O,fao I5 O,λw e=>(E2 A5 O (k10.ext e) O).ob,λw e=>(G6 (i:=nw.F k) E4 C2 O O hFB).ob,λw e=>(E2 C2 O (hM.out.ext e) (hM.cell (hhg _ hFB))).ob,fao I5 O,λw e=>(E2 A5 O (k10.ext e) O).ob,mvo O,fao I5 O,λw e=>(E2 A5 O (k10.ext e) O).ob,λw e=>(G6 (i:=nw.F k) E4 C2 O O hFB).ob,λw e=>(E2 C2 O (hM.out.ext e) (hM.cell (hhg _ hFB))).ob,fao I5 O,λw e=>(E2 A5 O (k10.ext e) O).ob,λw e=>(G6 (i:=nw.F k) C9 A3 O O hFB).ob,λw e=>(AJ8 (E:=eQ) (i:=nw.F k) (by decide) A3 O (aD _) (hrow0.2.ext e) (by rw[H2 hFB])).mono λv' w' h=>⟨h.1,λw'' e'=>eQ.mono (λ_ _ h=>h.1) (h.2 w'' e')⟩,λw e=>((E1 A3 O (k11.ext e) (eQ.csz hp5)).eq hvp.symm).ob,λw e x hx=>by have:=AK2 (L:=30) (upT (by have:=e.size;omega)) hx (ER.ext eQ hp5 e) (hfs _ _).toOk (hgs.mono (by decide)).toOk (by decide) (by decide);rw[C3,C3] at this;exact (A4 _ AK6 O this).oa,trivial⟩ ?_
  intro X0 g0 _ _ y0 hy0;refine .ixB (i:=nw.F k) C9 A3 O O O hFB (.storeF (E:=eQ) (i:=nw.F k) (by decide) A3 O O (hrow0.2.ext g0) O (by rw[A2];exact hFB) (aD _) (eQ.mono (λk' _ h=>⟨h,λe=>h.2.2 (e▸H6 (by omega))⟩) hy0) λY0 fy0 uy0=>.nil ?_);have hM:=(hM.ext g0).set (hhg _ hFB) (by rw[bV,A2]) uy0 fy0;rw[AW0 hFB] at hM;have sx0:=g0.size;have sy0:=uy0.size;have lw0:=hhm _ hFB;have lk0:=hhk _ hFB;have hW5:Below w1.heap.size w2 Y0:=uy0.below (hW5.trans (g0.mono (by omega))) lw0;have k10:=(k10.ext g0).upd uy0 (by omega);have k11:=(k11.ext g0).upd uy0 (by omega);have hp5:=(ER.ext eQ hp5 g0).upd uy0 (λh=>h.2.2 (H6 (by omega)));have hrow1:=hM.row (nw.F k) _ _ (hhg _ hFB) (F2 hFB);refine .seq ?_;refine .par follows 18 [.inl (.slice (some ⟨gb,0,none⟩) B B),.inl (pW b10),.inl (iW (nw.F k:Nat)),.inl (.pointer (some ⟨gb,0+(nw.F k)*1,none⟩)),.inl (slB B (hs2.getD (nw.F k) 0)),.inl (.pointer (some ⟨b10,1,none⟩)),.inl (iW (nw.T k:Nat)),.inl (.slice (some ⟨gb,0,none⟩) B B),.inl (pW b10),.inl (iW (nw.F k:Nat)),.inl (.pointer (some ⟨gb,0+(nw.F k)*1,none⟩)),.inl (slB B (hs2.getD (nw.F k) 0)),.inl (.pointer (some ⟨b10,1,none⟩)),.inl (iW (nw.T k:Nat)),.inl (.pointer (some ⟨hs2.getD (nw.F k) 0,0+(nw.T k)*4,none⟩)),.inr (eQ.at (offM S gb hs2) (qc (f (nw.F k) (nw.T k)))),.inl vp,.inr (eQ.at (offM S gb hs2) (qc (f (nw.F k) (nw.T k)-nw.g k)))]
   [[],[],[(58,1)],[(57,0),(59,2)],[(60,3)],[],[(62,5)],[],[],[(65,8)],[(64,7),(66,9)],[(67,10)],[],[(69,12)],[(68,11),(70,13)],[(71,14)],[],[(72,15),(73,16)]] (by kernel_rfl) ⟨mvo O,fao I5 O,λw e=>(E2 A5 O (k10.ext e) O).ob,λw e=>(G6 (i:=nw.F k) E4 C2 O O hFB).ob,λw e=>(E2 C2 O (hM.out.ext e) (hM.cell (hhg _ hFB))).ob,fao I4 O,λw e=>(E2 A5 O (k10.ext e) O).ob,mvo O,fao I5 O,λw e=>(E2 A5 O (k10.ext e) O).ob,λw e=>(G6 (i:=nw.F k) E4 C2 O O hFB).ob,λw e=>(E2 C2 O (hM.out.ext e) (hM.cell (hhg _ hFB))).ob,fao I4 O,λw e=>(E2 A5 O (k10.ext e) O).ob,λw e=>(G6 (i:=nw.T k) C9 A3 O O hTB).ob,λw e=>(AJ8 (E:=eQ) (i:=nw.T k) (by decide) A3 O (aD _) (hrow1.2.ext e) (by rw[H2 hTB,An7 (.inr (Ne.symm hne))])).mono λv' w' h=>⟨h.1,λw'' e'=>eQ.mono (λ_ _ h=>h.1) (h.2 w'' e')⟩,λw e=>((E1 A3 O (k11.ext e) (eQ.csz hp5)).eq hvp.symm).ob,λw e x hx=>by have:=AK1 (L:=30) (upT (by have:=e.size;omega)) hx (ER.ext eQ hp5 e) (hfs _ _).toOk (hgs.mono (by decide)).toOk (by decide) (by decide);rw[C3,C3] at this;exact (A4 _ AE1 O this).oa,trivial⟩ ?_
  intro X1 g1 _ _ y1 hy1;refine .ixB (i:=nw.T k) C9 A3 O O O hTB (.storeF (E:=eQ) (i:=nw.T k) (by decide) A3 O O (hrow1.2.ext g1) O (by rw[A2];exact hTB) (aD _) (eQ.mono (λk' _ h=>⟨h,λe=>h.2.2 (e▸H6 (by omega))⟩) hy1) λY1 fy1 uy1=>.nil ?_);have hM:=(hM.ext g1).set (hhg _ hFB) (by rw[bV,A2]) uy1 fy1;rw[AW0 hFB] at hM;have sx1:=g1.size;have sy1:=uy1.size;have lw1:=hhm _ hFB;have lk1:=hhk _ hFB;have hW5:Below w1.heap.size w2 Y1:=uy1.below (hW5.trans (g1.mono (by omega))) lw1;have k10:=(k10.ext g1).upd uy1 (by omega);have k11:=(k11.ext g1).upd uy1 (by omega);have hp5:=(ER.ext eQ hp5 g1).upd uy1 (λh=>h.2.2 (H6 (by omega)));have hrow2:=hM.row (nw.T k) _ _ (hhg _ hTB) (F2 hTB);refine .seq ?_;refine .par follows 18 [.inl (.slice (some ⟨gb,0,none⟩) B B),.inl (.pointer (some ⟨b10,1,none⟩)),.inl (iW (nw.T k:Nat)),.inl (.pointer (some ⟨gb,0+(nw.T k)*1,none⟩)),.inl (slB B (hs2.getD (nw.T k) 0)),.inl (.pointer (some ⟨b10,1,none⟩)),.inl (iW (nw.T k:Nat)),.inl (.slice (some ⟨gb,0,none⟩) B B),.inl (.pointer (some ⟨b10,1,none⟩)),.inl (iW (nw.T k:Nat)),.inl (.pointer (some ⟨gb,0+(nw.T k)*1,none⟩)),.inl (slB B (hs2.getD (nw.T k) 0)),.inl (.pointer (some ⟨b10,1,none⟩)),.inl (iW (nw.T k:Nat)),.inl (.pointer (some ⟨hs2.getD (nw.T k) 0,0+(nw.T k)*4,none⟩)),.inr (eQ.at (offM S gb hs2) (qc (f (nw.T k) (nw.T k)))),.inl vp,.inr (eQ.at (offM S gb hs2) (qc (f (nw.T k) (nw.T k)+nw.g k)))]
   [[],[],[(77,1)],[(76,0),(78,2)],[(79,3)],[],[(81,5)],[],[],[(84,8)],[(83,7),(85,9)],[(86,10)],[],[(88,12)],[(87,11),(89,13)],[(90,14)],[],[(91,15),(92,16)]] (by kernel_rfl) ⟨mvo O,fao I4 O,λw e=>(E2 A5 O (k10.ext e) O).ob,λw e=>(G6 (i:=nw.T k) E4 C2 O O hTB).ob,λw e=>(E2 C2 O (hM.out.ext e) (hM.cell (hhg _ hTB))).ob,fao I4 O,λw e=>(E2 A5 O (k10.ext e) O).ob,mvo O,fao I4 O,λw e=>(E2 A5 O (k10.ext e) O).ob,λw e=>(G6 (i:=nw.T k) E4 C2 O O hTB).ob,λw e=>(E2 C2 O (hM.out.ext e) (hM.cell (hhg _ hTB))).ob,fao I4 O,λw e=>(E2 A5 O (k10.ext e) O).ob,λw e=>(G6 (i:=nw.T k) C9 A3 O O hTB).ob,λw e=>(AJ8 (E:=eQ) (i:=nw.T k) (by decide) A3 O (aD _) (hrow2.2.ext e) (by rw[H2 hTB,An7 (.inl (Ne.symm hne)),An7 (.inl (Ne.symm hne))])).mono λv' w' h=>⟨h.1,λw'' e'=>eQ.mono (λ_ _ h=>h.1) (h.2 w'' e')⟩,λw e=>((E1 A3 O (k11.ext e) (eQ.csz hp5)).eq hvp.symm).ob,λw e x hx=>by have:=AK2 (L:=30) (upT (by have:=e.size;omega)) hx (ER.ext eQ hp5 e) (hfs _ _).toOk (hgs.mono (by decide)).toOk (by decide) (by decide);rw[C3,C3] at this;exact (A4 _ AK6 O this).oa,trivial⟩ ?_
  intro X2 g2 _ _ y2 hy2;refine .ixB (i:=nw.T k) C9 A3 O O O hTB (.storeF (E:=eQ) (i:=nw.T k) (by decide) A3 O O (hrow2.2.ext g2) O (by rw[A2];exact hTB) (aD _) (eQ.mono (λk' _ h=>⟨h,λe=>h.2.2 (e▸H6 (by omega))⟩) hy2) λY2 fy2 uy2=>.nil ?_);have hM:=(hM.ext g2).set (hhg _ hTB) (by rw[bV,A2]) uy2 fy2;rw[AW0 hTB] at hM;have sx2:=g2.size;have sy2:=uy2.size;have lw2:=hhm _ hTB;have lk2:=hhk _ hTB;have hW5:Below w1.heap.size w2 Y2:=uy2.below (hW5.trans (g2.mono (by omega))) lw2;have k10:=(k10.ext g2).upd uy2 (by omega);have k11:=(k11.ext g2).upd uy2 (by omega);have hp5:=(ER.ext eQ hp5 g2).upd uy2 (λh=>h.2.2 (H6 (by omega)));have hrow3:=hM.row (nw.T k) _ _ (hhg _ hTB) (F2 hTB);refine .par follows 18 [.inl (.slice (some ⟨gb,0,none⟩) B B),.inl (.pointer (some ⟨b10,1,none⟩)),.inl (iW (nw.T k:Nat)),.inl (.pointer (some ⟨gb,0+(nw.T k)*1,none⟩)),.inl (slB B (hs2.getD (nw.T k) 0)),.inl (pW b10),.inl (iW (nw.F k:Nat)),.inl (.slice (some ⟨gb,0,none⟩) B B),.inl (.pointer (some ⟨b10,1,none⟩)),.inl (iW (nw.T k:Nat)),.inl (.pointer (some ⟨gb,0+(nw.T k)*1,none⟩)),.inl (slB B (hs2.getD (nw.T k) 0)),.inl (pW b10),.inl (iW (nw.F k:Nat)),.inl (.pointer (some ⟨hs2.getD (nw.T k) 0,0+(nw.F k)*4,none⟩)),.inr (eQ.at (offM S gb hs2) (qc (f (nw.T k) (nw.F k)))),.inl vp,.inr (eQ.at (offM S gb hs2) (qc (f (nw.T k) (nw.F k)-nw.g k)))]
   [[],[],[(96,1)],[(95,0),(97,2)],[(98,3)],[],[(100,5)],[],[],[(103,8)],[(102,7),(104,9)],[(105,10)],[],[(107,12)],[(106,11),(108,13)],[(109,14)],[],[(110,15),(111,16)]] (by kernel_rfl) ⟨mvo O,fao I4 O,λw e=>(E2 A5 O (k10.ext e) O).ob,λw e=>(G6 (i:=nw.T k) E4 C2 O O hTB).ob,λw e=>(E2 C2 O (hM.out.ext e) (hM.cell (hhg _ hTB))).ob,fao I5 O,λw e=>(E2 A5 O (k10.ext e) O).ob,mvo O,fao I4 O,λw e=>(E2 A5 O (k10.ext e) O).ob,λw e=>(G6 (i:=nw.T k) E4 C2 O O hTB).ob,λw e=>(E2 C2 O (hM.out.ext e) (hM.cell (hhg _ hTB))).ob,fao I5 O,λw e=>(E2 A5 O (k10.ext e) O).ob,λw e=>(G6 (i:=nw.F k) C9 A3 O O hFB).ob,λw e=>(AJ8 (E:=eQ) (i:=nw.F k) (by decide) A3 O (aD _) (hrow3.2.ext e) (by rw[H2 hFB,An7 (.inr hne),An7 (.inl (Ne.symm hne)),An7 (.inl (Ne.symm hne))])).mono λv' w' h=>⟨h.1,λw'' e'=>eQ.mono (λ_ _ h=>h.1) (h.2 w'' e')⟩,λw e=>((E1 A3 O (k11.ext e) (eQ.csz hp5)).eq hvp.symm).ob,λw e x hx=>by have:=AK1 (L:=30) (upT (by have:=e.size;omega)) hx (ER.ext eQ hp5 e) (hfs _ _).toOk (hgs.mono (by decide)).toOk (by decide) (by decide);rw[C3,C3] at this;exact (A4 _ AE1 O this).oa,trivial⟩ ?_
  intro X3 g3 _ _ y3 hy3;refine .ixB (i:=nw.F k) C9 A3 O O O hFB (.storeF (E:=eQ) (i:=nw.F k) (by decide) A3 O O (hrow3.2.ext g3) O (by rw[A2];exact hFB) (aD _) (eQ.mono (λk' _ h=>⟨h,λe=>h.2.2 (e▸H6 (by omega))⟩) hy3) λY3 fy3 uy3=>.nil ?_);have hM:=(hM.ext g3).set (hhg _ hTB) (by rw[bV,A2]) uy3 fy3;rw[AW0 hTB] at hM;have sx3:=g3.size;have sy3:=uy3.size;have lw3:=hhm _ hTB;have lk3:=hhk _ hTB;have hW5:Below w1.heap.size w2 Y3:=uy3.below (hW5.trans (g3.mono (by omega))) lw3;have k10:=(k10.ext g3).upd uy3 (by omega);have k11:=(k11.ext g3).upd uy3 (by omega);have hp5:=(ER.ext eQ hp5 g3).upd uy3 (λh=>h.2.2 (H6 (by omega)));have hfin:C6 B B (upE (upE (upE (upE f (nw.F k) (nw.F k) (f (nw.F k) (nw.F k)+nw.g k)) (nw.F k) (nw.T k) (f (nw.F k) (nw.T k)-nw.g k)) (nw.T k) (nw.T k) (f (nw.T k) (nw.T k)+nw.g k)) (nw.T k) (nw.F k) (f (nw.T k) (nw.F k)-nw.g k))=C6 B B (nw.lmL ((inL n o).take (i+1))):=E7 λb c _ _=>by rw[htk,Nw.lmL_snoc,hf];exact nw.four hne f b c
  rw[hfin] at hM;refine .region (.add O O O (.mv O O (.nil ?_)));rw[wI (by omega)];exact⟨rfl,i+1,lkA rfl,⟨hW5,hlt,hM⟩,by show (inL n o).length-(i+1)<(inL n o).length-i;omega⟩
 rintro _ W ⟨hW,hM⟩;have hMs:FB eV 26 S W gb _:=hM.toFB (λk hk=>up k (by have:=hge k hk;omega)) (by omega);have hWs:=hW.size;have hgl:=hMs.lt;refine .sr (.fa F9 O O (.ld A5 O O (hk3 hW) O ?_));refine .call _ O BE8 O (BA5 (S:=λk=>S k/\k≠gb) λk hk=>⟨up k (by omega),by omega⟩) λvu W1 f1 hu=>.an O O ?_;rw[hcB] at hu;have hW1:=hW.trans (f1.mono (by omega));have hf1:=f1.size;generalize hF:(λi=>λb c=>if b∈nw.refs.take i then dl b c else nw.lmL (inL n o) b c:Nat->RM)=F;have hF0:C6 B B (nw.lmL (inL n o))=C6 B B (F 0):=E7 λb c _ _=>by rw[<-hF];simp
 rw[hF0] at hMs;refine .seq (.sr (.mv O O (.lenR C5 O O (hrW hW1) (.mv O O (.nil ?_)))));rw[show (A7 nw.refs).length=nw.refs.length by simp];have hrl:nw.refs.length<=B:=by rw[<-hB];exact nw.cnt_le nw.B
 refine .block (.loop (α:=Nat) (λi=>[(7,.slice (some ⟨gb,0,none⟩) B B),(13,vu),(118,vr),(119,iW (nw.refs.length:Nat)),(120,iW (i:Nat))]) (λi W=>Below w1.heap.size w2 W/\i<=nw.refs.length/\eM.R (λk=>S k/\k≠gb) W vu (C6 B B idn)/\FB eV 26 S W gb (C6 B B (F i))) (λi=>nw.refs.length-i) 0 ?_ ?_ ?_)
 ·exact lkA rfl
 ·exact⟨hW1,aC _,hu,hMs.ext f1⟩
 rintro i W ⟨hW,hi,hu,hMs⟩;refine .sr ?_;rcases aB i nw.refs.length with hlt | hge';rotate_left
 ·refine .lssF O O O (by omega) (.nil (.seq (.condF O (.exit (.sr (.mv O O (.an O O (.ret ?_))))))));have:i=nw.refs.length:=by omega
  subst this;refine .plain [_] results190 ⟨rfl,trivial⟩ ⟨Below.trans x2 (hW.mono (by omega)),?_⟩;have hfin:C6 B B (F nw.refs.length)=C6 B B nw.gm:=E7 λb c hb _=>by
   rw[<-hF];dsimp only;rw[aK (aA _)];unfold Nw.gm;by_cases hr:nw.root b=b
   ·rw[if_pos hr,if_pos (Nw.mem_refs.2 ⟨by omega,hr⟩)]
   ·rw[if_neg hr,if_neg λh=>hr (Nw.mem_refs.1 h).2];unfold Nw.Lm;rw[<-hnw];exact Nw.lmL_free (p:=oN o) b c _ λk hk=>ok.g0 hk
  rw[hfin] at hMs;have:=hMs.toR (hsz:=by decide) (c:=B) (up gb (by omega)) (by rw[A8];exact aA _) (by rw[A8];omega);rw[A8] at this;exact this
 have hgr:(A7 nw.refs)[i]?=some ((nw.refs.getD i 0:Nat):Int):=by rw[aI,B0 (z:=0) hlt];rfl
 have hrB:nw.refs.getD i 0<B:=by rw[<-hB];exact (Nw.mem_refs.1 (H6 hlt)).1
 refine .lssT O O O (by omega) (.nil (.seq (.condT O (.skip (.seq (.block (.sr (.ixN (i:=i) C5 B5 O O (hrW hW) O hgr λq hq=>.ldE (E:=B8 .i64) B5 O O hq λe he=>.an O O ?_))))))));obtain⟨rfl,_⟩:=he;refine .region (.mv O O (.mv O O (.mv O O (.mv O O (.ixN (i:=nw.refs.getD i 0) E4 C2 O O hu O (F2 hrB) λq hq=>.ldE (E:=eV) C2 O O hq λvw hvw=>.ixB (i:=nw.refs.getD i 0) E4 C2 O O O hrB ?_)))));refine .storeF (E:=eV) (i:=nw.refs.getD i 0) (by decide) C2 O O hMs O (by rw[A8];exact hrB) (aD _) hvw λW2 f2 u2=>.nil ?_;rw[R5 hrB] at f2;have hstep:C6 B B (λj k=>if j=nw.refs.getD i 0 then idn (nw.refs.getD i 0) k else F i j k)=C6 B B (F (i+1)):=E7 λb c _ _=>by
  rw[<-hF];dsimp only;rw[show nw.refs.take (i+1)=nw.refs.take i++[nw.refs.getD i 0] by rw[cA,B0 (z:=0) hlt];rfl];by_cases e:b=nw.refs.getD i 0
  ·rw[if_pos e,if_pos (by rw[e];simp),e];rfl
  ·rw[if_neg e];by_cases h:b∈nw.refs.take i
   ·rw[if_pos h,if_pos (List.mem_append.2 (.inl h))]
   ·rw[if_neg h,if_neg λh'=>by
     rcases List.mem_append.1 h' with h' | h'
     ·exact h h'
     ·exact e (List.mem_singleton.1 h')]
 rw[hstep] at f2;refine .region (.add O O O (.mv O O (.nil ?_)));rw[wI (by omega)];exact⟨rfl,i+1,lkA rfl,⟨u2.below hW hgb,hlt,ER.upd eM hu u2 (λh=>h.2 O),f2⟩,by show nw.refs.length-(i+1)<nw.refs.length-i;omega⟩
theorem FB.new{E:ER α}{w1 w2:World}{g:Nat}{l:List α}(h:FB E t S w g l)(e:Ext w w1)(u:Upd w1 w2 b)(hb:w.heap.size<=b):FB E t S w2 g l:=by
 have h1:=h.mono (S':=λk=>S k/\k<w.heap.size) λk hk hS=>⟨hS,hk⟩;have hg:=h.lt;have h2:=(h1.ext e).upd u (by omega) λhS=>by have:=hS.2;omega
 exact h2.mono λk _ hS=>hS.1
theorem Ai8(n:Nat):tab n (λ_=>0)=List.replicate n q0:=by unfold tab;simp[Q7,gJ]
theorem g_on(hko:k∉oN o):(A0 n o).g k=((n.ls.getD k ln0).x:Rat)⁻¹:=by show (if k∈oN o then (0:Rat) else ((n.ls.getD k ln0).x:Rat)⁻¹)=_;rw[if_neg hko]
theorem Ak8:k∈inL n o<->k<n.ls.length/\k∉oN o:=by unfold inL D7;rw[cL,cM];simp
theorem By9(ok:nwOk n o)(θ:Nat->Rat):tab n.ls.length (λk=>if k∈inL n o then (A0 n o).fl θ k else 0)=tab n.ls.length ((A0 n o).fl θ):=F5 λk hk=>by
 by_cases h:k∈inL n o
 ·rw[if_pos h]
 ·rw[if_neg h,Nw.fl_out ((ok.g0 hk).2 (Classical.byContradiction λh'=>h (Ak8.2 ⟨hk,h'⟩)))]
theorem BU0{l:List Nat}{M:Nat}{f:Nat->Rat}(hi:i<l.length):(tab M λk=>if k∈l.take i then f k else 0).set (l.getD i 0) (qc (f (l.getD i 0)))=tab M λk=>if k∈l.take (i+1) then f k else 0:=by
 rw[AB1];refine F5 λk _=>?_;rw[show l.take (i+1)=l.take i++[l.getD i 0] by rw[cA,B0 (z:=0) hi];rfl];by_cases e:k=l.getD i 0
 ·rw[if_pos e,if_pos (by rw[e];simp),e]
 ·rw[if_neg e];by_cases h:k∈l.take i
  ·rw[if_pos h,if_pos (List.mem_append.2 (.inl h))]
  ·rw[if_neg h,if_neg λh'=>by
    rcases List.mem_append.1 h' with h' | h'
    ·exact h h'
    ·exact e (List.mem_singleton.1 h')]
theorem E_col:Ent prog 191:=en func191
theorem col_t{s vl vi x:Value}{m:List (List QV)}{b2 b6 b9:Nat}(up:Up S w)(upo:Up T0 w)(ok:nwOk n o)(k2:Blk w b2 24 #[x,s])(hs:eLs.R S w s n.ls)(k6:Blk w b6 25 #[vl])(hl:eI.R S w vl (A7 (inL n o)))(k9:Blk w b9 70 #[vi])(hi:eM.R S w vi m)(hk:mk_ L m)(hL:1<=L)(hL2:L<=1000000000) :
  CR prog 191 #[iW (b:Nat),pW b2,pW b6,pW b9] w (eV.at T0 (tab n.ls.length ((A0 n o).fl λc=>rm m c b))):=by
 have hM10:n.ls.length<=10:=ok.m;have hll:=AE6 n o;generalize hθ:(λc=>rm m c b)=θ;refine enter func191 O ntmps191 O ?_;refine .sr (.an O O (.sr (.fa G5 O O (.ld J0 O O k2 O (.lenR I6 O O hs ?_)))));refine .make_ _ _ C9 J4 O (by decide) O O O (aA _) (by omega) (by omega) λw1 h n1=>.an O O ?_;have f1:FB eQ 39 T0 w1 h (List.replicate n.ls.length q0):=FB.made n1 AF1;obtain⟨e1,_,hh,hs1⟩:=n1;rw[<-Ai8] at f1;have hlW:∀ {W:World},Ext w W->eI.R S W vl (A7 (inL n o)):=λe=>ER.ext eI hl e;refine .seq (.sr (.ld AN6 O O (k6.ext e1) O (.lenR C5 O O (hlW e1) (.mv O O (.nil ?_)))));rw[show (A7 (inL n o)).length=(inL n o).length by simp];refine .block (.loop (α:=Nat) (λi=>[(0,iW (b:Nat)),(1,pW b2),(2,pW b6),(3,pW b9),(6,slB n.ls.length h),(15,vl),(16,iW ((inL n o).length:Nat)),(17,iW (i:Nat))]) (λi W=>Ext w W/\i<=(inL n o).length/\FB eQ 39 T0 W h (tab n.ls.length λk=>if k∈(inL n o).take i then (A0 n o).fl θ k else 0)) (λi=>(inL n o).length-i) 0 ?_ ?_ ?_)
 ·exact lkA rfl
 ·exact⟨e1,aC _,by simpa using f1⟩
 rintro i W ⟨hW,hi',fb⟩;have hWs:=hW.size;have hhl:=fb.lt;refine .sr ?_;rcases aB i (inL n o).length with hlt | hge;rotate_left
 ·refine .lssF O O O (by omega) (.nil (.seq (.condF O (.exit (.sr (.mv O O (.an O O (.ret ?_))))))));have:i=(inL n o).length:=by omega
  subst this;rw[aK (aA _),By9 ok] at fb;refine .plain [_] results191 ⟨rfl,trivial⟩ ⟨hW,?_⟩;have:=fb.toR (hsz:=by decide) (c:=n.ls.length) (upo h (by omega)) (by rw[A2];exact aA _) (by rw[A2];omega);rw[A2] at this;exact this
 obtain⟨hgk,hkM,hko⟩:=AM3 hlt;refine .lssT O O O (by omega) (.nil (.seq (.condT O (.skip (.seq (.block (.sr (.ixN (i:=i) C5 B5 O O (hlW hW) O hgk λq hq=>.ldE (E:=B8 .i64) B5 O O hq λe he=>.an O O ?_))))))));obtain⟨rfl,_⟩:=he;have hset:=BU0 (M:=n.ls.length) (f:=(A0 n o).fl θ) hlt;have hgl:n.ls[(inL n o).getD i 0]?=some (n.ls.getD ((inL n o).getD i 0) ln0):=B0 hkM;have hFI:=ok.fI _ hkM;have hTI:=ok.tI _ hkM;have hx:=ok.x _ hkM;have hgv:=g_on (n:=n) hko;generalize hkk:(inL n o).getD i 0=k at hset hgl hFI hTI hx hgv hkM;generalize hln:n.ls.getD k ln0=ln at hgl hFI hTI hx hgv;refine .sr (.fa G5 O O (.ld J0 O O (k2.ext hW) O (.mv O O (.ixN (i:=k) I6 L8 O O (hs.ext hW) O hgl λq hq=>.ldE (E:=eL) L8 O O hq λvl' hvl=>.alloc O Aa0 λW1 c9 n1'=>?_))));obtain⟨g1,k9',hc9,hs1'⟩:=n1';refine .storeA (E:=eL) (S:=λk=>k≠c9) (z:=ln) L8 O O k9' O O hvl (λh=>h O) λW2 k9' u2 hl2=>.nil ?_;obtain⟨rfl,_⟩:=hl2;rw[hFI,hTI] at k9';replace k9':Blk W2 c9 53 #[iW ((A0 n o).F k:Nat),iW ((A0 n o).T k:Nat),iW ln.x,iW ln.c]:=k9';have x2:Ext W W2:=u2.below g1 (by omega);have hs2:=u2.size;have fb:=fb.new g1 u2 (by omega);have hW2:=hW.trans x2;have upO:∀ {W':World},W2.heap.size<=W'.heap.size->Up (λk=>T0 k/\k≠h) W':=λhs k' hk'=>⟨upo k' (by omega),by omega⟩;have upT:∀ {W':World},W2.heap.size<=W'.heap.size->Up (λk=>S k/\k≠h) W':=λhs k' hk'=>⟨up k' (by omega),by omega⟩;have hmi:∀ {W':World},Ext W2 W'->eM.R (λk=>S k/\k≠h) W' vi m:=λe=>ER.ext eM (eM.mono (λk' _ hk'=>⟨hk'.1,by have:=hk'.2;omega⟩) (ER.ext eM (ER.lt eM hi) hW2)) e;have hat:∀ c:Nat,rmI m c b=θ c:=λc=>by rw[Aa6,<-hθ]
 have hrz:∀ c,Rsz (θ c) L:=λc=>by rw[<-hθ];exact hk.rsz hL c b
 refine .seq ?_;refine .par follows 12 [.inl vi,.inl (pW c9),.inl (iW ((A0 n o).F k:Nat)),.inl (iW (b:Nat)),.inr (eQ.at (λk=>S k/\k≠h) (qc (θ ((A0 n o).F k)))),.inl vi,.inl (.pointer (some ⟨c9,1,none⟩)),.inl (iW ((A0 n o).T k:Nat)),.inl (iW (b:Nat)),.inr (eQ.at (λk=>S k/\k≠h) (qc (θ ((A0 n o).T k)))),.inr (eQ.at (λk=>S k/\k≠h) (qc (θ ((A0 n o).F k)-θ ((A0 n o).T k)))),.inr (Ah4 W2.heap.size 39 zq.cells)]
  [[],[],[(27,1)],[],[(26,0),(28,2),(29,3)],[],[],[(32,6)],[],[(31,5),(33,7),(34,8)],[(30,4),(35,9)],[]] (by kernel_rfl) ⟨λw e=>(E2 AK7 O ((k9.ext hW2).ext e) O).ob,fao I5 O,λw e=>(E2 A5 O (k9'.ext e) O).ob,mvo O,λw e=>by
   have:=AX4 (i:=((A0 n o).F k:Nat)) (k:=(b:Nat)) (upT e.size) (hmi e) hk hL (by omega);rw[hat] at this;exact (A4 _ AZ7 O this).oa,λw e=>(E2 AK7 O ((k9.ext hW2).ext e) O).ob,fao I4 O,λw e=>(E2 A5 O (k9'.ext e) O).ob,mvo O,λw e=>by
   have:=AX4 (i:=((A0 n o).T k:Nat)) (k:=(b:Nat)) (upT e.size) (hmi e) hk hL (by omega);rw[hat] at this;exact (A4 _ AZ7 O this).oa,λw e x hx y hy=>by
   have:=AK1 (L:=L) (upT e.size) hx hy (hrz _).toOk (hrz _).toOk hL (by omega);rw[C3,C3] at this;exact (A4 _ AE1 O this).oa,λw e=>R6 E8 e.size,trivial⟩ ?_
 rintro W3 g3 _ _ _ _ y10 hy10 _ ⟨c10,rfl,hc10,k10⟩;have hy10':=AY4 hy10 k10 AC8;refine .storeA (E:=eQ) A3 O O k10 O O hy10' (λh=>h.2 O) λW4 k10 u4 hy=>.nil ?_;have hs3:=g3.size;have hs4:=u4.size;have x4:Ext W2 W4:=u4.below g3 hc10;have hy:eQ.R (λk=>S k/\k≠h) W4 y10 _:=eQ.mono (λ_ _ h=>h.1) hy;have hyv:=G8 (E:=eQ) O hy;have fb:=fb.new g3 u4 hc10;have hd:Rsz (θ ((A0 n o).F k)-θ ((A0 n o).T k)) (L+L+1):=by rw[cW];exact (hrz _).add (hrz _).neg
 have hx0:((ln.x:Int):Rat)≠0:=λe=>by
  have:ln.x=0:=by exact_mod_cast e
  omega
 have hflv:(θ ((A0 n o).F k)-θ ((A0 n o).T k)) / ((ln.x:Int):Rat)=(A0 n o).fl θ k:=by unfold Nw.fl;rw[hgv,dG,fG]
 have hr1:Rsz ((ln.x:Int):Rat) (L+L+1):=Rsz.int _ (bC (by omega:ln.x.natAbs<4294967296 ^ 1) (aQ (by decide) (by omega))) (by omega);refine .parL follows 10 [9] [.inl (slB n.ls.length h),.inl (iW (k:Nat)),.inl y10,.inl (.pointer (some ⟨c9,2,none⟩)),.inl (iW ln.x),.inr (eQ.at (λk=>S k/\k≠h) (qc ((ln.x:Int):Rat))),.inr (Two (eQ.at (λk=>T0 k/\k≠h) (qc ((A0 n o).fl θ k))) (Is (iW 0))),.inr (Two (eQ.at (λk=>T0 k/\k≠h) (qc ((A0 n o).fl θ k))) (Is (iW 0))),.inr (eQ.at (λk=>T0 k/\k≠h) (qc ((A0 n o).fl θ k))),.inl (iW 0)]
  [[],[],[],[],[(41,3)],[(42,4)],[(40,2),(43,5)],[(44,6)],[(37,7)],[(37,7)]] (by kernel_rfl) ⟨mvo O,mvo O,λw e=>((E1 A3 O (k10.ext e) (eQ.csz hy)).eq hyv.symm).ob,fao AI2 O,λw e=>(E2 Z4 O ((k9'.ext x4).ext e) O).ob,λw e=>(A4 _ I2 O (H9 (upT (by have:=e.size;omega)) (by omega) (by omega))).oa,λw e x hx=>by
   have:=AT0 (L:=L+L+1) (upT (by have:=e.size;omega)) (upO (by have:=e.size;omega)) (ER.ext eQ hy e) hx hd.toOk hr1.toOk (by omega) (by omega) (by rw[C3];exact hx0);rw[C3,C3,hflv] at this;exact (A4 _ AU3 O this).ob (L3 (G7 _ _ _) (S9 _)),λw e x hx=>K5 (v_mv O) hx (L3 (G7 _ _ _) (S9 _)),λw e x hx=>by
   obtain⟨a,b,rfl,ha,hb⟩:=hx;exact K5 (AA1 O O) ha (G7 _ _ _),λw e x hx=>by
   obtain⟨a,b,rfl,ha,hb⟩:=hx;exact ((AA1 O O).eq hb).ob,trivial⟩ ?_
 intro W5 g5 _ _ _ _ _ _ y8 hy8;refine .ixB (i:=k) C9 A3 O O O hkM (.storeF (E:=eQ) (i:=k) (by decide) A3 O O (fb.ext g5) O (by rw[A2];exact hkM) (aD _) hy8 λW6 f6 u6=>.nil ?_);rw[hset] at f6;refine .region (.add O O O (.mv O O (.nil ?_)));rw[wI (by omega)];exact⟨rfl,i+1,lkA rfl,⟨u6.below ((hW2.trans x4).trans g5) (by omega),hlt,f6⟩,by show (inL n o).length-(i+1)<(inL n o).length-i;omega⟩
section
variable {P:Program} {σ:Env} {w:World} {ty:TypeId} {pos:String} {af:Array Edge}
end
theorem Bh6{E:ER α}{hsz:0<E.sz}{l:List α}{q:α}(h:(RL E hsz).R S w v l)(hq:l[i]?=some q):∃ ad c e,v=.slice (some ad) l.length c/\∀ W',Below w.heap.size w W'->Ac3 W' (ad.add (i*E.sz)) e/\E.R (λk=>S k/\k<w.heap.size) W' e q:=by obtain⟨es,hE⟩:=RL.toEs h;have hil:=(List.getElem?_eq_some_iff.1 hq).1;obtain⟨e,he⟩:∃ e,es[i]?=some e:=⟨_,aE (by rw[hE.1.1];exact hil)⟩;obtain⟨ad,c,hv,hp⟩:=hE.at_ he;have hr:=hE.1.2 i e q he hq;refine⟨ad,c,e,hv,λW' hB=>⟨λj u hu=>?_,E.keep (λk c t f hk h=>(hB.block k hk.2).trans h) (ER.lt E hr)⟩⟩;have h1:=hp j u hu;have hl:=Al8 h1;rw[Ab8 (hB.block _ hl)];exact h1
theorem set_mid(l r:List α)(v x:α):(l++v::r).set l.length x=l++x::r:=by rw[gP _ _ (aA _),dX,List.set_cons_zero]
theorem get_mid(l r:List α)(v:α):(l++v::r)[l.length]?=some v:=by rw[bT (aA _),dX];rfl
theorem BZ1:Ent prog 193:=en func193
theorem BT6{vc:Value}{M:Nat}{g:RM}(up:Up S w)(hc:eM.R S w vc (C6 B M g))(hB:B<=1000)(hM:M<=1000) :
  CR prog 193 #[vc,iW (M:Nat)] w (eM.at S (C6 M B λi c=>g c i)):=by
 have hcW:∀ {W:World},Below w.heap.size w W->eM.R (λk=>S k/\k<w.heap.size) W vc (C6 B M g):=λh=>eM.keep (λk c t f hk hh=>(h.block k hk.2).trans hh) (ER.lt eM hc);refine enter func193 O ntmps193 O ?_;refine .sr (.an O O (.sr (.mv O O ?_)));refine .make_ M M E4 AD5 O (by decide) O O O (aA _) (by omega) (by omega) λw1 gb n1=>.an O O ?_;obtain⟨e1,k1,hgb,hs1⟩:=n1;generalize hF:(λi=>tab B λc=>g c i)=F;refine .seq (.sr (.mv O O (.len E4 O O (.mv O O (.nil ?_)))));refine .block (.loop (α:=List Value) (λrs=>[(0,vc),(5,.slice (some ⟨gb,0,none⟩) M M),(12,iW (M:Nat)),(13,iW (rs.length:Nat))]) (λrs W=>Below w.heap.size w W/\rs.length<=M/\Blk W gb 26 (cellsOf (rs++List.replicate (M-rs.length) Q9)).toArray/\Els eV (λk=>S k/\k≠gb) W rs ((List.range rs.length).map F)) (λrs=>M-rs.length) [] ?_ ?_ ?_)
 ·exact lkA rfl
 ·exact⟨e1,aC _,k1,Els.nil⟩
 rintro rs W ⟨hW,hi,hO,hels⟩;have hWs:=hW.size;have hgl:=hO.lt;refine .sr ?_;rcases aB rs.length M with hlt | hge;rotate_left
 ·refine .lssF O O O (by omega) (.nil (.seq (.condF O (.exit (.sr (.mv O O (.an O O (.ret ?_))))))));have hl:rs.length=M:=by omega
  rw[hl,dX,iI,bB] at hO;rw[hl] at hels;refine .plain [_] results193 ⟨rfl,trivial⟩ ⟨hW,?_⟩;have hfb:FB eV 26 S W gb (C6 M B λi c=>g c i):=⟨rs,hO,by unfold C6;rw[hF];exact hels⟩;have:=hfb.toR (hsz:=by decide) (c:=M) (up gb (by omega)) (by rw[A8];exact aA _) (by rw[A8];omega);rw[A8] at this;exact this
 have hrep:rs++List.replicate (M-rs.length) Q9=rs++Q9::List.replicate (M-(rs.length+1)) Q9:=by rw[show M-rs.length=M-(rs.length+1)+1 by omega,gG]
 rw[hrep] at hO;refine .lssT O O O (by omega) (.nil (.seq (.condT O (.skip (.seq (.block (.sr (.mv O O (.an O O (.sr (.mv O O (.lenR E4 O O (hcW hW) (.mv O O (.nil ?_))))))))))))));rw[A8];refine .block (.loop (α:=Nat×Value) (λy=>[(0,vc),(5,.slice (some ⟨gb,0,none⟩) M M),(12,iW (M:Nat)),(13,iW (rs.length:Nat)),(6,iW (rs.length:Nat)),(16,vc),(17,iW (B:Nat)),(18,iW (y.1:Nat))])
  (λy W'=>Below w.heap.size w W'/\W.heap.size<=W'.heap.size/\y.1<=B/\Blk W' gb 26 (cellsOf (rs++y.2::List.replicate (M-(rs.length+1)) Q9)).toArray/\Kp (λk=>k<W.heap.size/\k≠gb) W W'/\B4 eQ 39 W.heap.size (λk=>S k/\k≠gb) W' y.2 (tab y.1 λc=>g c rs.length)) (λy=>B-y.1) (0,Q9) ?_ ?_ ?_)
 ·exact lkA rfl
 ·exact⟨hW,aA _,aC _,hO,λ_ _ _ _ _ h=>h,B4.nil⟩
 rintro⟨j,v⟩ W' ⟨hW',hsz,hj,hO,hK,hown⟩;replace hW':Below w.heap.size w W':=hW';replace hj:j<=B:=hj;replace hO:Blk W' gb 26 (cellsOf (rs++v::List.replicate (M-(rs.length+1)) Q9)).toArray:=hO;replace hown:B4 eQ 39 W.heap.size (λk=>S k/\k≠gb) W' v (tab j λc=>g c rs.length):=hown;refine .sr ?_;rcases aB j B with hjl | hge;rotate_left
 ·refine .lssF O O O (by omega) (.nil (.seq (.condF O (.exit (.region (.add O O O (.mv O O (.nil ?_))))))));rw[wI (by omega)];have:j=B:=by omega
  subst this;refine⟨rfl,rs++[v],B7 O (B7 O (B7 O (B7 (by rw[aL];rfl) AX5))),⟨hW',by rw[aL];exact hlt,?_,?_⟩,by rw[aL];show M-(rs.length+1)<M-rs.length;omega⟩
  ·rw[aL,cS];exact hO
  ·rw[aL];show Els eV _ W' (rs++[v]) ((List.range (rs.length+1)).map F);rw[aP,aM];have h1:Els eV (λk=>S k/\k≠gb) W' rs ((List.range rs.length).map F):=⟨hels.1,λi e x he hx=>by have h2:=ER.lt eV (hels.2 i e x he hx);have h3:=eV.keep (λk c t f hk hc=>hK k c t f ⟨hk.2,hk.1.2⟩ hc) h2;exact eV.mono (λk _ h=>h.1) h3⟩
   refine h1.snoc ?_;rw[<-hF];exact hown.toR (λk hk=>⟨up k (by omega),by omega⟩) (λ_ h=>h)
 refine .lssT O O O (by omega) (.nil (.seq (.condT O (.skip (.seq (.block (.sr ?_)))))));obtain⟨adc,cc,ec,hvc,hrc⟩:=Bh6 (E:=eV) (i:=j) hc (F2 hjl);obtain⟨hpc,hec⟩:=hrc w (Below.refl _ _);obtain⟨ade,ce,ee,hve,hre⟩:=Bh6 (E:=eQ) (i:=rs.length) hec (H2 hlt);obtain⟨esC,hEC⟩:=RL.toEs (hcW hW');rw[A2] at hve;have hgc:∃ p,Ac3 W' p ec:=⟨_,(hrc W' hW').1⟩;rw[A8] at hvc;subst hvc;refine .gv O O (Bg4 (i:=j) (sz:=1) E4 C2 O O hjl).gv ?_;rintro _ _ ⟨rfl,rfl⟩;refine .ldX (E:=eV) C2 O O (hrc _ hW').1 (hrc _ hW').2 (.an O O ?_);subst hve;have hesz:∀ {v:Value},v.cells.size=1->∀ e∈rs++v::List.replicate (M-(rs.length+1)) Q9,e.cells.size=1:=λhv e he=>by
  rcases List.mem_append.1 he with h | h
  ·exact hels.sz e h
  ·rcases List.mem_cons.1 h with h | h
   ·rw[h];exact hv
   ·rw[(List.mem_replicate.1 h).2];rfl
 obtain⟨av,cv,hvv⟩:=hown.slice;have hv1:v.cells.size=1:=by rw[hvv];rfl
 have hcell:(cellsOf (rs++v::List.replicate (M-(rs.length+1)) Q9)).toArray[0+rs.length*1]?=some v:=by have:=F0 _ rs.length 0 v (hesz hv1) (get_mid _ _ _) (by decide);rw[bN,show 0+rs.length*1=rs.length*1+0 by omega,this,hvv];rfl
 have hee:∀ W',Below w.heap.size w W'->Ac3 W' (ade.add (rs.length*4)) ee/\eQ.R (λk=>(S k/\k<w.heap.size)/\k<w.heap.size) W' ee (qc (g j rs.length)):=hre;refine .held follows true (λW2=>Blk W2 gb 26 (cellsOf (rs++v::List.replicate (M-(rs.length+1)) Q9)).toArray/\Below w.heap.size w W2)
  [some (.slice (some ⟨gb,0,none⟩) M M),some (iW (rs.length:Nat)),some (.slice (some ⟨gb,0,none⟩) M M),some (iW (rs.length:Nat)),some (.pointer (some ⟨gb,0+rs.length*1,none⟩)),some v,some (.slice (some ade) M ce),some (iW (rs.length:Nat)),some (.pointer (some (ade.add (rs.length*4)))),some ee,none,none,none,none] (by kernel_rfl)
  ⟨λ_ _=>v_mv rfl,λ_ _=>v_mv rfl,λ_ _=>v_mv rfl,λ_ _=>v_mv rfl,λ_ _=>G6 (i:=rs.length) E4 C2 O O hlt,λ_ h=>E2 C2 O h.1 hcell,λ_ _=>v_mv rfl,λ_ _=>v_mv rfl,λ_ _=>Bg4 (i:=rs.length) C9 A3 O O hlt,λ_ h=>AH4 (E:=eQ) A3 O (hee _ h.2).1 (hee _ h.2).2,trivial⟩ ?_
 intro W2 e2 _;have hW2:Below w.heap.size w W2:=hW'.trans (e2.mono hW'.size);have hO:=hO.ext e2;have hown:=hown.ext e2;obtain⟨_,hr2⟩:=hee W2 hW2;have hr2':=hr2;obtain⟨s2,t2,rfl,_,_⟩:=hr2';refine .gv ⟨hO,hW2⟩ rfl (Ad7 _ O AD7) ?_;rintro _ W3 ⟨b3,rfl,n3⟩;obtain⟨e3,k3,hb3,hs3⟩:=n3;have hW3:Below w.heap.size w W3:=hW2.trans (e3.mono hW2.size);have hO:=hO.ext e3;have hown:=hown.ext e3;have hs2:=e2.size;obtain⟨es,ho1,_⟩:=id hown;refine .gv ⟨hO,hW3⟩ rfl (L5 (E:=eQ) (base:=W.heap.size) (by decide) C9 J4 O O O hown k3 (eQ.mono (λk _ h=>⟨⟨h.1.1,by have:=h.2;omega⟩,λe=>by have:=(ho1.lt k e).1;have:=h.2;omega⟩) (hr2.ext e3)) (by rw[A2];omega) (by decide) (by omega)) ?_;rintro v4 W4 ⟨ho4,hg4⟩;have hO4:=hown.gblk hg4 hO (by decide);have hlow4:Below w.heap.size w W4:=by have hK4:=hown.below (w0:=W3) hg4 (Below.refl _ _) (by omega);exact hW3.trans (hK4.mono (by omega))
 refine .gv ⟨hO4,hlow4⟩ rfl (G6 (i:=rs.length) E4 C2 O O hlt).gv ?_;rintro _ _ ⟨rfl,rfl⟩;obtain⟨a4,c4,hv4⟩:=ho4.slice;have hv41:v4.cells.size=1:=by rw[hv4];rfl
 refine .gv ⟨hO4,hlow4⟩ rfl (BB0 (i:=rs.length) (by decide) C2 O O hO4 (hesz hv1) hv41 (by rw[hv4];simp[H3,Value.cells]) (by simp) (aD _)) ?_;rintro _ W5 ⟨hO5,u5⟩;rw[set_mid] at hO5;refine .nil (.inl O) ?_;have hs4:=hg4.size;have hs5:=u5.size;refine .region (.add O O O (.mv O O (.nil ?_)));rw[wI (by omega)];refine⟨rfl,(j+1,v4),lkA rfl,⟨u5.below hlow4 (by omega),by show W.heap.size<=W5.heap.size;omega,hjl,hO5,?_,?_⟩,by show B-(j+1)<B-j;omega⟩
 ·intro k c t f hk hc;have h1:=hK k c t f hk hc;have h2:=(e3.block k (by have:=(Array.getElem?_eq_some_iff.1 h1).1;omega)).trans ((e2.block k (Array.getElem?_eq_some_iff.1 h1).1).trans h1);have h3:=(hg4.block k (by have:=(Array.getElem?_eq_some_iff.1 h2).1;omega) (λe=>by have:=(ho1.lt k e.symm).1;have:=hk.1;omega)).trans h2;exact (u5.block k hk.2).trans h3
 ·have:=ho4.upd u5 hO4 (by decide) (λh=>h.2 O);have e:tab (j+1) (λc=>g c rs.length)=tab j (λc=>g c rs.length)++[qc (g j rs.length)]:=by unfold tab;rw[aP,aM];rfl
  show B4 eQ 39 W.heap.size _ W5 v4 (tab (j+1) λc=>g c rs.length);rw[e];exact this
theorem Av0:Ent prog 133:=en func133
theorem At6(up:Up S w)(upo:Up T0 w)(hn:eN.R S w vn n)(ho:eI.R S w vo o) :
  CR prog 133 #[vn,vo] w (Two (eM.at T0 (if C8 n o=0 then C6 n.ls.length (A0 n o).B (A0 n o).hf else [])) (Is (iW (C8 n o)))):=by
 obtain⟨s,rfl,hs,hb⟩:=hn;have hn:eN.R S w (.agg #[iW n.b,s]) n:=⟨s,rfl,hs,hb⟩;refine enter func133 O ntmps133 O (.sr (.box O O λw1 b2 n1=>.asg O O (.an O O ?_)));obtain⟨e1,k2,hb2,hs1⟩:=n1;refine .sr (.ldA G2 O O k2 O (.mv O O (.call _ O AR3 O (AQ2 (up.ext e1.size) (hn.ext e1) (ho.ext e1)) λv2 w2 e2 h2=>?_)));obtain⟨vl,ve,rfl,hl,he⟩:=h2;replace he:ve=.int .i64 (C8 n o):=he;subst he;obtain⟨al,cl,hvl,_⟩:=RL.len hl;refine .mv O O (.ext O O O (.ext O O O (.alloc O Ba7 λw3 b6 n3=>?_)));obtain⟨e3,k6,hb6,hs3⟩:=n3;refine .store AN6 O O k6 (by rw[hvl];rfl) (by simp[Value.cells]) (by rw[hvl];simp[H3,Value.cells]) λw4 k6 u4=>.an O O (.seq (.sr (.mv O O ?_)));replace k6:Blk w4 b6 25 #[vl]:=by rw[hvl] at k6 ⊢;exact k6
 have x2:=e1.trans e2;have x24:Ext w2 w4:=u4.below e3 (by omega);have x4:=x2.trans x24;by_cases hE:C8 n o=0;rotate_left
 ·refine .neqT O O O hE (.nil (.condT O (.sr (.mv O O (.asg O O (.an O O (.ret (.plain [_,_] results133 ⟨rfl,rfl,trivial⟩ ⟨x4,_,_,rfl,?_,rfl⟩))))))));rw[if_neg hE];exact RL.nil
 have ok:=K6 hE;rw[if_pos hE] at hl ⊢;have hB1:=ok.b1;have hB6:=ok.b6;have hM10:n.ls.length<=10:=ok.m;have hnb:=ok.b;refine .neqF O O O hE (.nil (.condF O (.skip (.sr (.ldA G2 O O (k2.ext (e2.trans x24)) O (.mv O O ?_))))));have hl4:=ER.ext eI hl x24;refine .call _ O AP2 O (AO4 (up.ext x4.size) (hn.ext x4) (ho.ext x4)) λv5 w5 e5 h5=>?_;obtain⟨vr,ve,rfl,hr,he⟩:=h5;replace he:ve=.int .i64 (C8 n o):=he;subst he;rw[if_pos hE] at hr;have x5:=x4.trans e5;refine .mv O O (.ext O O O (.ext O O O (.asg O O (.an O O (.seq (.sr (.mv O O (.neqF O O O hE (.nil (.condF O (.skip (.sr (.ldA G2 O O ((k2.ext (e2.trans x24)).ext e5) O (.ld AN6 O O (k6.ext e5) O (.mv O O ?_)))))))))))))));have hl5:=ER.ext eI hl4 e5;refine .call _ O Am4 O (Aj4 (up.ext x5.size) (hn.ext x5) hl5 hr ok) λvA w6 e6 hA=>?_;have x6:=x5.trans e6;have hcA:A1 (A0 n o).gA=(A0 n o).gA.length:=by rw[AM4 hB1,L6]
 refine .call _ O Au9 O (At5 (L:=21) (n:=6) (m:=(A0 n o).gA) (up.ext x6.size) hA (BX1 ok) (by decide) (by rw[L6];exact hB6) (by rw[hcA,L6];omega) (by decide) (by decide)) λv7 w7 e7 h7=>?_;obtain⟨vi,ve,rfl,hi,he⟩:=h7;replace he:ve=.int .i64 (if A1 (A0 n o).gA=(A0 n o).gA.length then (if J3 (A0 n o).gA then 0 else 8) else 13):=he;have hinv:=BP6 ok.ok hB1;rw[if_pos hcA,if_pos hinv] at he;subst he;replace hi:eM.R S w7 vi (AK8 (A0 n o).gA):=by rw[if_pos ⟨hcA,hinv⟩] at hi;exact hi
 obtain⟨ai,ci,hvi,_⟩:=RL.len hi;have x7:=x6.trans e7;refine .mv O O (.ext O O O (.ext O O O (.alloc O Br2 λw8 b9 n8=>?_)));obtain⟨e8,k9,hb9,hs8⟩:=n8;refine .store AK7 O O k9 (by rw[hvi];rfl) (by simp[Value.cells]) (by rw[hvi];simp[H3,Value.cells]) λw9 k9 u9=>.an O O (.seq (.sr (.mv O O (.neqF O O O O (.nil (.condF O (.skip (.sr (.mkf [] [_,_,_] O O O O (.an O O (.sr (.an O O ?_))))))))))));replace k9:Blk w9 b9 70 #[vi]:=by rw[hvi] at k9 ⊢;exact k9
 have x79:Ext w7 w9:=u9.below e8 (by omega);have x9:=x7.trans x79;have x49:Ext w4 w9:=((e5.trans e6).trans e7).trans x79;have k2:=(k2.ext (e2.trans x24)).ext x49;have k6:=k6.ext x49;have hs9:=x9.size;have hsW:∀ {W:World},Ext w9 W->eLs.R (λk=>S k/\k<w9.heap.size) W s n.ls:=λe=>ER.ext eLs (ER.lt eLs (hs.ext x9)) e;have hlW:∀ {W:World},Ext w9 W->eI.R (λk=>S k/\k<w9.heap.size) W vl (A7 (inL n o)):=λe=>ER.ext eI (ER.lt eI (ER.ext eI hl4 x49)) e;have hiW:∀ {W:World},Ext w9 W->eM.R (λk=>S k/\k<w9.heap.size) W vi (AK8 (A0 n o).gA):=λe=>ER.ext eM (ER.lt eM (ER.ext eM hi x79)) e;have hik:mk_ 87381 (AK8 (A0 n o).gA):=by have:=Bi9 (n:=6) (BX1 ok) (by decide) (by rw[L6];exact hB6);rwa [bd216] at this
 rw[hnb] at k2;generalize hG:(λb=>tab n.ls.length ((A0 n o).fl ((A0 n o).th b)))=G;have hGl:∀ b,(G b).length=n.ls.length:=λb=>by rw[<-hG];exact A2 ..
 refine .mid (α:=Value) (λv=>[(2,pW b2),(11,v)]) (λv W=>Ext w9 W/\B4 eV 26 w9.heap.size T0 W v ((List.range (A0 n o).B).map G)) ?_ ?_
 ·refine .sr (.fa F9 O O (.ld A5 O O k2 O (.mv O O (.nil ?_))));refine .block (.loop (α:=Nat×Value) (λy=>[(2,pW b2),(10,.func (.func 191) #[] #[pW b2,pW b6,pW b9]),(11,y.2),(44,iW ((A0 n o).B:Nat)),(45,iW (y.1:Nat))]) (λy W=>Ext w9 W/\y.1<=(A0 n o).B/\B4 eV 26 w9.heap.size T0 W y.2 ((List.range y.1).map G)) (λy=>(A0 n o).B-y.1) (0,.slice none 0 0) ?_ ?_ ?_)
  ·exact lkA rfl
  ·exact⟨Ext.refl _,aC _,B4.nil⟩
  rintro⟨b,v⟩ W ⟨hW,hbB,hown⟩;replace hW:Ext w9 W:=hW;replace hbB:b<=(A0 n o).B:=hbB;replace hown:B4 eV 26 w9.heap.size T0 W v ((List.range b).map G):=hown;have hWs:=hW.size;refine .sr ?_;rcases aB b (A0 n o).B with hlt | hge;rotate_left
  ·refine .lssF O O O (by omega) (.nil (.seq (.condF O (.exit ?_))));have:b=(A0 n o).B:=by omega
   subst this;exact⟨rfl,v,lkA rfl,hW,hown⟩
  obtain⟨es,ho1,_⟩:=id hown;have hT:∀ k,S k/\k<w9.heap.size->S k/\v.ownBlock≠some k:=λk h=>⟨h.1,λe=>by have:=(ho1.lt k e).1;have:=h.2;omega⟩;have upO:Up (λk=>T0 k/\v.ownBlock≠some k) W:=λk hk=>⟨upo k (by omega),λe=>by have:=(ho1.lt k e).2;omega⟩;have upT:Up (λk=>S k/\v.ownBlock≠some k) W:=λk hk=>⟨up k (by omega),λe=>by have:=(ho1.lt k e).2;omega⟩;refine .lssT O O O (by omega) (.nil (.seq (.condT O (.skip (.seq (.block (.sr (.mv O O (.an O O (.region (.mv O O (.mv O O (.mv O O ?_)))))))))))));refine .callv [iW (b:Nat)] O O E_col O (col_t (S:=λk=>S k/\v.ownBlock≠some k) (T0:=λk=>T0 k/\v.ownBlock≠some k) (b:=b) upT upO ok (k2.ext hW) (eLs.mono (λk _ h=>hT k h) (hsW hW)) (k6.ext hW) (eI.mono (λk _ h=>hT k h) (hlW hW)) (k9.ext hW) (eM.mono (λk _ h=>hT k h) (hiW hW)) hik (by decide) (by decide)) λvc W1 f1 hc=>?_;have hc:eV.R (λk=>T0 k/\v.ownBlock≠some k) W1 vc (G b):=by rw[<-hG];exact hc
  obtain⟨ac,cc,hvc,_⟩:=RL.len hc;rw[hGl] at hvc;subst hvc;refine .bsl _ O O Ah1 λW2 by_ ny=>?_;obtain⟨ey,ky,hby,hsy⟩:=ny;have f2:=f1.trans ey;have hW2:=hW.trans f2;refine .gv O O (L5 (E:=eV) (base:=w9.heap.size) (n:=G b) (e:=.slice ac n.ls.length cc) (by decide) E4 AD5 O O O (hown.ext f2) ky (ER.ext eV hc ey) (by simp;omega) (by decide) hW2.size) ?_;rintro v8 W8 ⟨ho8,hg8⟩;refine .an O O (.region (.add O O O (.mv O O (.nil ?_))));rw[wI (by omega)];refine⟨rfl,(b+1,v8),lkA rfl,⟨(hown.ext f2).below hg8 hW2 hW2.size,hlt,?_⟩,by show (A0 n o).B-(b+1)<(A0 n o).B-b;omega⟩;show B4 eV 26 w9.heap.size T0 W8 v8 ((List.range (b+1)).map G);rw[aP,aM];exact ho8
 rintro v W ⟨hW,hown⟩;have hcol:eM.R T0 W v (C6 (A0 n o).B n.ls.length λb k=>(A0 n o).hf k b):=by have:=hown.toR (S:=T0) (hsz:=by decide) (λk hk=>upo k (by omega)) (λ_ h=>h);rw[<-hG] at this;exact this
 refine .sr (.mv O O (.fa G5 O O (.ld J0 O O (k2.ext hW) O (.lenR I6 O O (hsW hW) ?_))));refine .call _ O BZ1 O (BT6 (upo.ext (x9.trans hW).size) hcol (by omega) (by omega)) λvt W1 f1 ht=>.asg O O (.an O O (.ret ?_));exact .plain [_,_] results133 ⟨rfl,rfl,trivial⟩ ⟨(x9.trans hW).trans f1,_,_,rfl,ht,by rw[hE]⟩
theorem At7(up:Up S w)(hn:eN.R S w vn n)(ho:eI.R S w vo o) :
  CR prog 133 #[vn,vo] w (Two (eM.at S (if C8 n o=0 then C6 n.ls.length (A0 n o).B (A0 n o).hf else [])) (Is (iW (C8 n o)))):=At6 up up hn ho
open Classical in
noncomputable def btE (n:NtV) (o:List Int) (a b:Int):Int:=if X7 n o a b≠0 then X7 n o a b else if AL0 n o a b=true then 0 else 8
def btV (n:NtV) (o:List Int) (a b:Nat):List QV:=tab n.ls.length λk=>(A0 n o).hf k a-(A0 n o).hf k b
theorem Av1:Ent prog 79:=en func79
theorem At8{b:Int}(up:Up S w)(upo:Up T0 w)(hn:eN.R S w vn n)(ho:eI.R S w vo o) :
  CR prog 79 #[vn,vo,iW a,iW b] w (Two (eV.at T0 (if btE n o a b=0 then btV n o a.toNat b.toNat else [])) (Is (iW (btE n o a b)))):=by
 have hvn:=G8 (E:=eN) O hn;refine enter func79 O ntmps79 O ?_;refine .sr (.box O O λw1 b4 n1=>.asg O O (.an O O ?_));obtain⟨e1,k4,hb4,hs1⟩:=n1;refine .sr (.ldA G2 O O k4 (eN.csz hn) (.mv O O (.mv O O (.mv O O ?_))));rw[<-hvn];refine .call _ O Ah8 O (Ag2 (up.ext e1.size) (hn.ext e1) (ho.ext e1)) λv2 w2 e2 h2=>?_;obtain⟨vb,ve,rfl,hb,he⟩:=h2;replace hb:vb=.bool (AL0 n o a b):=hb;replace he:ve=.int .i64 (X7 n o a b):=he;subst hb;subst he;have x2:=e1.trans e2;refine .mv O O (.ext O O O (.ext O O O (.asg O O (.an O O (.seq (.sr (.mv O O ?_)))))));by_cases hE:X7 n o a b=0;rotate_left
 ·have hb:btE n o a b=X7 n o a b:=by unfold btE;rw[if_pos hE]
  refine .neqT O O O hE (.nil (.condT O (.sr (.mv O O (.asg O O (.an O O (.ret ?_)))))));refine .plain [_,_] results79 ⟨rfl,rfl,trivial⟩ ⟨x2,_,_,rfl,?_,by rw[hb];rfl⟩;rw[if_neg (by rw[hb];exact hE)];exact RL.nil
 refine .neqF O O O hE (.nil (.condF O (.skip (.seq (.sr (.mv O O (.not_ O O (.nil ?_))))))));by_cases hC:AL0 n o a b=true;rotate_left
 ·have hb:btE n o a b=8:=by unfold btE;rw[if_neg (by simpa using hE),if_neg hC]
  rw[iK] at hC;rw[hC];refine .condT O (.sr (.asg O O (.an O O (.ret ?_))));refine .plain [_,_] results79 ⟨rfl,rfl,trivial⟩ ⟨x2,_,_,rfl,?_,by rw[hb]⟩;rw[if_neg (by rw[hb];decide)];exact RL.nil
 have hb:btE n o a b=0:=by unfold btE;rw[if_neg (by simpa using hE),if_pos hC]
 rw[hC,if_pos hb];obtain⟨hO,hA,hBb⟩:=conE_ok hE;have ok:=K6 hO;have hB6:=ok.b6;have hM10:n.ls.length<=10:=ok.m;have hnb:=ok.b;obtain⟨a',rfl⟩:∃ a':Nat,a=a':=⟨a.toNat,by have:=hA.1;omega⟩;obtain⟨b',rfl⟩:∃ b':Nat,b=b':=⟨b.toNat,by have:=hBb.1;omega⟩;have haB:a'<(A0 n o).B:=by have:=hA.2;omega
 have hbB:b'<(A0 n o).B:=by have:=hBb.2;omega
 refine .condF O (.skip (.sr (.ldA G2 O O (k4.ext e2) (eN.csz hn) (.mv O O ?_))));rw[<-hvn];refine .call _ O Av0 O (At7 (up.ext x2.size) (hn.ext x2) (ho.ext x2)) λv3 w3 e3 h3=>?_;obtain⟨vm,ve,rfl,hm,he⟩:=h3;replace he:ve=.int .i64 (C8 n o):=he;subst he;rw[if_pos hO] at hm;have x3:=x2.trans e3;refine .mv O O (.ext O O O (.ext O O O (.asg O O (.an O O (.seq (.sr (.mv O O (.neqF O O O hO (.nil (.condF O (.skip (.sr (.mv O O (.lenR E4 O O hm ?_))))))))))))));rw[A8];refine .make_ _ _ C9 J4 O (by decide) O O O (aA _) (by omega) (by omega) λw4 h n4=>.an O O ?_;have f4:FB eQ 39 T0 w4 h (List.replicate n.ls.length q0):=FB.made n4 AF1;obtain⟨e4,_,hh,hs4⟩:=n4;have hmW:∀ {W:World},Below w3.heap.size w3 W->eM.R (λk=>S k/\k<w3.heap.size) W vm (C6 n.ls.length (A0 n o).B (A0 n o).hf):=λhB=>eM.keep (λk c t f hk hh=>(hB.block k hk.2).trans hh) (ER.lt eM hm);refine .seq (.sr (.mv O O (.lenR E4 O O (hmW e4) (.mv O O (.nil ?_)))));rw[A8];generalize hG:(λk=>qc ((A0 n o).hf k a'-(A0 n o).hf k b'))=G;refine .block (.loop (α:=Nat) (λi=>[(2,iW (a':Nat)),(3,iW (b':Nat)),(13,slB n.ls.length h),(41,vm),(42,iW (n.ls.length:Nat)),(43,iW (i:Nat))]) (λi W=>Below w3.heap.size w3 W/\i<=n.ls.length/\FB eQ 39 T0 W h (fil n.ls.length i G q0)) (λi=>n.ls.length-i) 0 ?_ ?_ ?_)
 ·exact lkA rfl
 ·exact⟨e4,aC _,by rw[R8];exact f4⟩
 rintro i W ⟨hW,hi,fb⟩;have hWs:=hW.size;have hhl:=fb.lt;refine .sr ?_;rcases aB i n.ls.length with hlt | hge;rotate_left
 ·refine .lssF O O O (by omega) (.nil (.seq (.condF O (.exit (.sr (.mv O O (.asg O O (.an O O (.ret ?_)))))))));have:i=n.ls.length:=by omega
  subst this;rw[AI3] at fb;refine .plain [_,_] results79 ⟨rfl,rfl,trivial⟩ ⟨x3.trans hW,_,_,rfl,?_,by rw[hb]⟩;have:=fb.toR (hsz:=by decide) (c:=n.ls.length) (upo h (by have:=x3.size;omega)) (by simp) (by simp;omega);rw[dC,eE,<-hG] at this;exact this
 refine .lssT O O O (by omega) (.nil (.seq (.condT O (.skip (.seq (.block (.sr (.mv O O (.ixN (i:=i) E4 C2 O O (hmW hW) O (F2 hlt) λq hq=>.ldE (E:=eV) C2 O O hq λvr hr=>.asg O O (.an O O ?_))))))))));have upO:∀ {W':World},Ext W W'->Up (λk=>T0 k/\k≠h) W':=λe k hk=>⟨upo k (by have:=e.size;have:=x3.size;omega),by have:=e.size;omega⟩;have upT:∀ {W':World},Ext W W'->Up (λk=>S k/\k≠h) W':=λe k hk=>⟨up k (by have:=e.size;have:=x3.size;omega),by have:=e.size;omega⟩;have hT:∀ k,S k/\k<w3.heap.size->S k/\k≠h:=λk hk=>⟨hk.1,by have:=hk.2;omega⟩;refine .par follows 11 [.inl (slB n.ls.length h),.inl (iW (i:Nat)),.inl vr,.inl (iW (a':Nat)),.inr (Ptr eQ (λk=>S k/\k<w3.heap.size) (qc ((A0 n o).hf i a'))),.inr (eQ.at (λk=>S k/\k<w3.heap.size) (qc ((A0 n o).hf i a'))),.inl vr,.inl (iW (b':Nat)),.inr (Ptr eQ (λk=>S k/\k<w3.heap.size) (qc ((A0 n o).hf i b'))),.inr (eQ.at (λk=>S k/\k<w3.heap.size) (qc ((A0 n o).hf i b'))),.inr (eQ.at (λk=>T0 k/\k≠h) (G i))]
  [[],[],[],[],[(50,2),(51,3)],[(52,4)],[],[],[(54,6),(55,7)],[(56,8)],[(53,5),(57,9)]] (by kernel_rfl) ⟨mvo O,mvo O,mvo O,mvo O,λw e=>C4 (i:=a') C9 A3 O (ER.ext eV hr e) O (H2 haB),λw e x hx=>K1 A3 O hx,mvo O,mvo O,λw e=>C4 (i:=b') C9 A3 O (ER.ext eV hr e) O (H2 hbB),λw e x hx=>K1 A3 O hx,λw e x hx y hy=>by have:=BB4 (L:=174764) (upT e) (upO e) (eQ.mono (λk _ h=>hT k h) hx) (eQ.mono (λk _ h=>hT k h) hy) (BP1 ok i a').toOk (BP1 ok i b').toOk (by decide) (by decide);rw[C3,C3] at this;rw[<-hG];exact (A4 _ AE1 O this).oa,trivial⟩ ?_
 intro W1 f1 _ _ _ _ _ _ _ _ y hy;refine .ixB (i:=i) C9 A3 O O O hlt (.storeF (E:=eQ) (i:=i) (by decide) A3 O O (fb.ext f1) O (by rw[L7];exact hlt) (aD _) hy λW2 f2 u2=>.nil ?_);rw[X5] at f2;refine .region (.add O O O (.mv O O (.nil ?_)));rw[wI (by omega)];exact⟨rfl,i+1,lkA rfl,⟨u2.below (hW.trans (f1.mono hWs)) (by omega),hlt,f2⟩,by show n.ls.length-(i+1)<n.ls.length-i;omega⟩
theorem At9{b:Int}(up:Up S w)(hn:eN.R S w vn n)(ho:eI.R S w vo o) :
  CR prog 79 #[vn,vo,iW a,iW b] w (Two (eV.at S (if btE n o a b=0 then btV n o a.toNat b.toNat else [])) (Is (iW (btE n o a b)))):=At8 up up hn ho
open Classical in
noncomputable def sfE (n:NtV) (o:List Int) (l:Nat):Int:=if C8 n o≠0 then C8 n o else if (l:Int)<=n.b then 0 else 5
theorem BM8{l:Nat}(h:sfE n o l=0):C8 n o=0/\(l:Int)<=n.b:=by
 unfold sfE at h;split at h
 ·exact absurd h (by assumption)
 ·split at h
  ·exact⟨Classical.not_not.1 (by assumption),by assumption⟩
  ·cases h
def Nw.offM (n:Nw) (f:Nat->Rat) (b:Nat):Rat:=n.off (λk=>if n.g k=0 then 0 else f k) b
open Classical in
noncomputable def noE (n:NtV) (o:List Int) (l:Nat):Int:=if C8 n o≠0 then C8 n o else if l<=n.ls.length then 0 else 5
section
variable {n:Nw}
theorem Nw.lap_bal (ok:n.Ok) (θ:Nat->Rat):n.bal (n.lap θ):=λr _ _ =>
 Nw.off_clo (n:=n) (f:=n.fl θ) (D:=λb=>n.root b=r) ok (Nw.clo_root r) λk _ hg=>Nw.fl_out hg
theorem Nw.offM_fl (ok:n.Ok) (θ f:Nat->Rat) (hf:∀ k,k<n.M->f k=n.fl θ k) (b:Nat):n.offM f b=n.lap θ b:=by
 unfold Nw.offM Nw.lap Nw.off;refine A9 λk hk=>?_;dsimp only;by_cases hg:n.g k=0
 ·rw[if_pos hg,Nw.fl_out hg]
 ·rw[if_neg hg,hf k hk]
end
def Nw.cut (n:Nw) (k:Nat):Nw:={ n with g:=λj=>if j=k then 0 else n.g j }
section
variable {n:Nw} {k:Nat}
theorem Nw.cut_ok (ok:n.Ok):(n.cut k).Ok:=⟨ok.f,ok.t,λj hj=>by
 show (0:Rat)<=if j=k then 0 else n.g j
 split
 ·exact fX
 ·exact ok.p j hj⟩
theorem Nw.cut_gk:(n.cut k).g k=0:=if_pos rfl
theorem Nw.cut_g {j:Nat} (h:j≠k):(n.cut k).g j=n.g j:=if_neg h
theorem Nw.cut_fl (θ:Nat->Rat) (j:Nat):(n.cut k).fl θ j=if j=k then 0 else n.fl θ j:=by
 show (if j=k then (0:Rat) else n.g j)*_=_;by_cases h:j=k
 ·rw[if_pos h,if_pos h,bL]
 ·rw[if_neg h,if_neg h];rfl
theorem Nw.cut_lap (hk:k<n.M) (θ:Nat->Rat) (i:Nat):(n.cut k).lap θ i=n.lap θ i-n.inc k i*n.fl θ k:=by
 show B9 n.M (λj=>n.inc j i*(n.cut k).fl θ j)=B9 n.M (λj=>n.inc j i*n.fl θ j)-_;have h1:B9 n.M (λj=>n.inc j i*(n.cut k).fl θ j)=B9 n.M (λj=>n.inc j i*n.fl θ j-(n.inc k i*n.fl θ k)*dl k j):=A9 λj _=>by
  rw[Nw.cut_fl];by_cases h:j=k
  ·subst h;rw[if_pos rfl,Ab7];grind
  ·rw[if_neg h,AV0 (Ne.symm h)];grind
 rw[h1,AF5,AJ4 (a:=k) (λ_=>n.inc k i*n.fl θ k) hk]
theorem Nw.lap_fl (ok:n.Ok) {θ φ:Nat->Rat} (h:∀ i,i<n.B->n.lap θ i=n.lap φ i) {l:Nat} (hl:l<n.M):n.fl θ l=n.fl φ l:=by
 have hr:=Nw.rigid (n:=n) (θ:=λc=>θ c-φ c) ok (D:=λ_=>True) (λ_ _ _=>Iff.rfl) λb hb _=>by rw[Nw.lap_sub,h b hb];grind
 have h1:n.fl (λc=>θ c-φ c) l=0:=by
  by_cases hg:n.g l=0
  ·exact Nw.fl_out hg
  ·have:=hr l hl hg trivial;unfold Nw.fl;dsimp only;rw[this];grind
 rw[Nw.fl_sub] at h1;grind
theorem Nw.cut_root_n (ok:n.Ok) (b:Nat):n.root ((n.cut k).root b)=n.root b:=by
 have h:=Nw.root_const (n:=n.cut k) (θ:=λb=>((n.root b:Nat):Rat)) (λj hj hg=>by have hjk:j≠k:=λe=>hg (by rw[e];exact Nw.cut_gk);rw[Nw.cut_g hjk] at hg;exact congrArg _ (Nw.root_line (n:=n) hj hg)) b
 exact_mod_cast h
theorem Nw.cut_le (ok:n.Ok) (b:Nat):n.root b<=(n.cut k).root b:=by rw[<-Nw.cut_root_n (k:=k) ok b];exact Nw.root_le _
theorem Nw.cut_root (ok:n.Ok) (hb:(n.cut k).root (n.F k)=(n.cut k).root (n.T k)) (b:Nat):(n.cut k).root b=n.root b:=by
 have h:=Nw.root_const (n:=n) (θ:=λb=>(((n.cut k).root b:Nat):Rat)) (λj hj hg=>by
  by_cases hjk:j=k
  ·subst hjk;exact congrArg _ hb
  ·refine congrArg _ (Nw.root_line (n:=n.cut k) hj ?_);rw[Nw.cut_g hjk];exact hg) b
 have h2:(n.cut k).root (n.root b)=(n.cut k).root b:=by exact_mod_cast h
 have h3:=Nw.cut_le (k:=k) ok b;have h4:=Nw.root_le (n:=n.cut k) (n.root b);omega
theorem Ad9 {p q:Nat->Bool}:∀ l:List Nat,(∀ x∈l,p x=true->q x=true)->(l.filter p).length<=(l.filter q).length
 | [],_=>aA _
 | x::l,h=>by
  have ih:=Ad9 l λy hy=>h y (cG _ hy)
  have hx:=h x (cR ..)
  by_cases hp:p x=true
  ·rw[bY hp,bY (hx hp)];simpa using ih
  ·rw[cB hp]
   by_cases hq:q x=true
   ·rw[bY hq];simp;omega
   ·rw[cB hq];exact ih
theorem Ad8 {p q:Nat->Bool} {y:Nat}:∀ l:List Nat,(∀ x∈l,p x=true->q x=true)->y∈l->p y=false->q y=true->(l.filter p).length<(l.filter q).length
 | [],_,h,_,_=>by cases h
 | x::l,h,hy,h1,h2=>by
  have hx:=h x (cR ..)
  have hl:=Ad9 l λz hz=>h z (cG _ hz)
  by_cases e:x=y
  ·subst e
   rw[cB (by rw[h1];decide),bY h2];simp;omega
  ·have hm:y∈l:=by
    rcases List.mem_cons.1 hy with h | h
    ·exact absurd h.symm e
    ·exact h
   have ih:=Ad8 l (λz hz=>h z (cG _ hz)) hm h1 h2
   by_cases hp:p x=true
   ·rw[bY hp,bY (hx hp)];simpa using ih
   ·rw[cB hp]
    by_cases hq:q x=true
    ·rw[bY hq];simp;omega
    ·rw[cB hq];exact ih
def Nw.brg (n:Nw) (k:Nat):Prop:=(n.cut k).root (n.F k)≠(n.cut k).root (n.T k)
theorem Nw.brg_cnt (ok:n.Ok) (hk:k<n.M) (hg:n.g k≠0):n.brg k<->n.refs.length<(n.cut k).refs.length:=by
 constructor
 ·intro h;have hline:=Nw.root_line (n:=n) hk hg;have h1:=Nw.cut_root_n (k:=k) ok (n.F k);have h2:=Nw.cut_root_n (k:=k) ok (n.T k);have hF:=ok.f k hk;have hT:=ok.t k hk;have lF:=Nw.root_le (n:=n.cut k) (n.F k);have lT:=Nw.root_le (n:=n.cut k) (n.T k);have rF:=Nw.root_root (n:=n.cut k) (n.F k);have rT:=Nw.root_root (n:=n.cut k) (n.T k);have a1:=Nw.root_le (n:=n) ((n.cut k).root (n.F k));have a2:=Nw.root_le (n:=n) ((n.cut k).root (n.T k));unfold Nw.brg at h;show ((List.range n.B).filter _).length<((List.range n.B).filter _).length;generalize (n.cut k).root (n.F k)=x at *;generalize (n.cut k).root (n.T k)=y at *;refine Ad8 (y:=max x y) _ (λr hr hp=>?_) (List.mem_range.2 (by omega)) ?_ ?_
  ·have hp:n.root r=r:=of_decide_eq_true hp;refine decide_eq_true ?_;have:=Nw.cut_le (k:=k) ok r;have:=Nw.root_le (n:=n.cut k) r;omega
  ·refine decide_eq_false λe=>?_;rcases dQ x y with h' | h'
   ·rw[fF h'] at e;omega
   ·rw[dY h'] at e;omega
  ·refine decide_eq_true ?_;rcases dQ x y with h' | h'
   ·rw[fF h'];exact rT
   ·rw[dY h'];exact rF
 ·intro h hb;have:(n.cut k).refs=n.refs:=List.filter_congr λr _=>by rw[Nw.cut_root ok hb]
  rw[this] at h;exact dZ _ h
theorem Nw.cut_bal (ok:n.Ok) (hb:¬ n.brg k) (x:Nat->Rat):(n.cut k).bal x<->n.bal x:=by have hb:(n.cut k).root (n.F k)=(n.cut k).root (n.T k):=Classical.not_not.1 hb;unfold Nw.bal;simp only[Nw.cut_root ok hb];exact Iff.rfl
def Nw.tr (n:Nw) (k c:Nat):Rat:=n.th (n.F k) c-n.th (n.T k) c
def Nw.bt (n:Nw) (k l:Nat):Rat:=n.hf l (n.F k)-n.hf l (n.T k)
theorem Nw.bt_fl (l:Nat):n.bt k l=n.fl (n.tr k) l:=(Nw.fl_sub _ _ l).symm
theorem Aw6 (a b:Nat):dl a b=dl b a:=by
 by_cases h:a=b
 ·subst h;rfl
 ·rw[AV0 h,AV0 (Ne.symm h)]
theorem Nw.lap_tr (ok:n.Ok) (hk:k<n.M) (hr:n.root (n.F k)=n.root (n.T k)) {i:Nat} (hi:i<n.B):n.lap (n.tr k) i=n.inc k i:=by have h1:=Nw.lap_th ok (ok.f k hk) hi;have h2:=Nw.lap_th ok (ok.t k hk) hi;have h3:n.lap (n.tr k) i=n.lap (n.th (n.F k)) i-n.lap (n.th (n.T k)) i:=Nw.lap_sub i;rw[h3,h1,h2,hr,Aw6 i (n.F k),Aw6 i (n.T k)];unfold Nw.inc;grind
def Nw.rst (n:Nw) (k:Nat):Rat:=1-n.bt k k
theorem Nw.rst_ne (ok:n.Ok) (hk:k<n.M) (hg:n.g k≠0) (hb:¬ n.brg k):n.rst k≠0:=by
 have hb:(n.cut k).root (n.F k)=(n.cut k).root (n.T k):=Classical.not_not.1 hb;intro h;have h1:n.fl (n.tr k) k=1:=by unfold Nw.rst at h;rw[Nw.bt_fl] at h;grind
 have hr:=Nw.rigid (n:=n.cut k) (θ:=n.tr k) (Nw.cut_ok ok) (D:=λ_=>True) (λ_ _ _=>Iff.rfl) λb hb' _=>by rw[Nw.cut_lap hk,Nw.lap_tr ok hk (Nw.root_line hk hg) hb',h1];grind
 have hc:=Nw.root_const (n:=n.cut k) (θ:=n.tr k) λj hj hgj=>hr j hj hgj trivial;have h2:n.tr k (n.F k)=n.tr k (n.T k):=by rw[<-hc (n.F k),<-hc (n.T k),hb]
 unfold Nw.fl at h1;rw[h2] at h1;have:(0:Rat)=1:=by rw[<-h1];grind
 exact absurd this (by decide)
def Nw.lo (n:Nw) (k l:Nat):Rat:=if l=k then -1 else n.bt k l / n.rst k
theorem Nw.lo_flow (ok:n.Ok) (hk:k<n.M) (hg:n.g k≠0) (hb:¬ n.brg k) {x:Nat->Rat} (hx:n.bal x) {l:Nat} (hl:l<n.M):(n.cut k).fl ((n.cut k).an x) l=n.fl (n.an x) l+n.lo k l*n.fl (n.an x) k:=by
 have hr:=Nw.rst_ne ok hk hg hb;generalize hcc:n.fl (n.an x) k*(n.rst k)⁻¹=c;have hc1:c*n.rst k=n.fl (n.an x) k:=by rw[<-hcc,fU,Rat.inv_mul_cancel _ hr,fW]
 have h1:(n.cut k).fl ((n.cut k).an x) l=(n.cut k).fl (λb=>n.an x b+n.tr k b*c) l:=Nw.lap_fl (Nw.cut_ok ok) (λi hi=>by
  rw[Nw.lap_an (n:=n.cut k) (Nw.cut_ok ok) ((Nw.cut_bal ok hb x).2 hx) hi,Nw.cut_lap hk,Nw.lap_add,Nw.lap_smul,Nw.lap_tr ok hk (Nw.root_line hk hg) hi,Nw.lap_an ok hx hi];have e:n.fl (λb=>n.an x b+n.tr k b*c) k=n.fl (n.an x) k+n.bt k k*c:=by rw[Nw.bt_fl];unfold Nw.fl;grind
  rw[e,<-hc1];unfold Nw.rst;grind) hl
 rw[h1,Nw.cut_fl];by_cases hne:l=k
 ·subst hne;rw[if_pos rfl];unfold Nw.lo;rw[if_pos rfl];grind
 ·rw[if_neg hne];unfold Nw.lo;rw[if_neg hne,dG];have e:n.fl (λb=>n.an x b+n.tr k b*c) l=n.fl (n.an x) l+n.bt k l*c:=by rw[Nw.bt_fl];unfold Nw.fl;grind
  rw[e,<-hcc];grind
end
section
variable {n m:Nw} {k:Nat}
def Nw.trk (n:Nw) (k:Nat):Prop:=n.g k≠0/\n.rootTo k (n.F k)≠n.rootTo k (n.T k)
instance (n:Nw) (k:Nat):Decidable (n.trk k):=inferInstanceAs (Decidable (_/\_))
def Nw.en (n:Nw) (j:Nat):Nat:=((List.range j).filter λk=>decide (n.g k≠0)).length
end
theorem Ab6:U7 prog 136 0=some 0:=by kernel_rfl
theorem ty_Br:F6 prog 136=some (true,4):=by kernel_rfl
theorem CA5{a b c d:Value}:AK4 prog 136 [(0,.agg #[a,b,c,d])]=some #[a,b,c,d]:=by kernel_rfl
@[reducible] def brV (f t x c:Int):Value:=.agg #[iW f,iW t,iW x,iW c]
def brE (f t b:Int):Int:=if b=f then 1 else if b=t then -1 else 0
theorem Ba3:Ent prog 207:=en func207
theorem BY1{f t x c b:Int}:CR prog 207 #[brV f t x c,iW b] w (Is (iW (brE f t b))):=by
 refine enter func207 O ntmps207 O (.beg (.go O (.box O O λw1 b2 n1=>?_)));obtain⟨e1,k2,_,_⟩:=n1;refine .go O (.fa Ab6 O O (.fa I5 O O (.ld A5 O O k2 O ?_)));by_cases h:b=f
 ·refine .eqlT O O O h (.goE O ?_);exact .plain [_] results207 ⟨rfl,trivial⟩ ⟨e1,by unfold brE;rw[if_pos h];rfl⟩
 refine .eqlF O O O h (.go O (.fa Ab6 O O (.fa I4 O O (.ld A5 O O k2 O ?_))));by_cases h':b=t
 ·refine .eqlT O O O h' (.goE O ?_);exact .plain [_] results207 ⟨rfl,trivial⟩ ⟨e1,by unfold brE;rw[if_neg h,if_pos h'];rfl⟩
 ·refine .eqlF O O O h' (.goE O ?_);exact .plain [_] results207 ⟨rfl,trivial⟩ ⟨e1,by unfold brE;rw[if_neg h,if_neg h'];rfl⟩
theorem brE_mul(f t a b:Int):brE f t a*brE f t b=0\/brE f t a*brE f t b=1\/brE f t a*brE f t b = -1:=by unfold brE;split<;>split<;>(try split)<;>(try split)<;>simp
theorem Bf9:Ent prog 150:=en func150
theorem Be8{f t x c b:Int}(up:Up S w)(hx:1<=x)(hx2:x<=1000):CR prog 150 #[brV f t x c,iW a,iW b] w (eQ.at S (qc (Rat.divInt (brE f t a*brE f t b) x))):=by
 have hm:=brE_mul f t a b;refine enter func150 O ntmps150 O (.beg (.go O (.box O O λw1 b3 n1=>.go O (.alloc O E8 λw2 b6 n2=>.goC O ?_))));obtain⟨e1,k3,hb3,hs1⟩:=n1;obtain⟨e2,k6,hb6,hs2⟩:=n2;have x2:=e1.trans e2;have hx2s:=x2.size;have k3:=k3.ext e2;have upT:∀ {W:World},w2.heap.size<=W.heap.size->Up (λk=>S k/\k≠b6) W:=λh k hk=>⟨up k (by omega),by omega⟩;refine .parL follows 15 [13] [.inl (brV f t x c),.inl _,.inl (iW (brE f t a)),.inl (brV f t x c),.inl _,.inl (iW (brE f t b)),.inl (iW (brE f t a*brE f t b)),.inl (pW b3),.inl (.pointer (some ⟨b3,2,none⟩)),.inl (iW x),.inr (Two (eQ.at (λk=>S k/\k≠b6) (qc (Rat.divInt (brE f t a*brE f t b) x))) (Is (iW 0))),.inr (Two (eQ.at (λk=>S k/\k≠b6) (qc (Rat.divInt (brE f t a*brE f t b) x))) (Is (iW 0))),.inr (eQ.at (λk=>S k/\k≠b6) (qc (Rat.divInt (brE f t a*brE f t b) x))),.inl (iW 0),.inr (Ah4 w2.heap.size 39 zq.cells)] [[],[],[(10,0),(11,1)],[],[],[(13,3),(14,4)],[(12,2),(15,5)],[],[(17,7)],[(18,8)],[(16,6),(19,9)],[(20,10)],[(9,11)],[(9,11)],[]] (by kernel_rfl) ⟨λw e=>(E1 ty_Br O (k3.ext e) O).ob,mvo O,λw e=>(A4 _ Ba3 O BY1).obIs,λw e=>(E1 ty_Br O (k3.ext e) O).ob,mvo O,λw e=>(A4 _ Ba3 O BY1).obIs,λw e=>((Br8 O O).eq (by rw[wI (by omega)])).ob,fao Ab6 O,fao AI2 O,λw e=>(E2 Z4 O (k3.ext e) O).ob,λw e=>(A4 _ BE9 O (BB5 (upT e.size) (by omega) (by omega) (by omega) (by omega) (by omega))).ob (L3 (G7 _ _ _) (S9 _)),λw e x10 hx10=>K5 (v_mv O) hx10 (L3 (G7 _ _ _) (S9 _)),λw e x11 hx11=>by
   obtain⟨p,q,rfl,hp,hq⟩:=hx11;exact K5 (AA1 O O) hp (G7 _ _ _),λw e x11 hx11=>by
   obtain⟨p,q,rfl,hp,hq⟩:=hx11;exact ((AA1 O O).eq hq).ob,λw e=>R6 E8 e.size,trivial⟩ ?_
 rintro W3 g3 _ _ _ _ y hy _ ⟨b7,rfl,hb7,k7⟩;have hy':=AY4 hy k7 AC8;refine .storeA (E:=eQ) A3 O O k7 O O hy' (λh=>h.2 O) λW4 k7 u4 hy=>?_;have hs3:=g3.size;have hs4:=u4.size;have hy:eQ.R (λk=>S k/\k≠b6) W4 y _:=eQ.mono (λ_ _ h=>h.1) hy;have hyv:=G8 (E:=eQ) O hy;have k6:=(k6.ext g3).upd u4 (by omega);have x4:Ext w W4:=u4.below (x2.trans g3) (by omega);refine .go O (.ldA A3 O O k7 (eQ.csz hy) ?_);rw[<-hyv];refine .storeA (E:=eQ) A3 O O k6 O O hy (λh=>h.2 O) λW5 k6 u5 hy=>.goE O ?_;exact .cell results150 O A3 O O k6 hy ⟨u5.below x4 (by omega),eQ.mono (λ_ _ h=>h.1) hy⟩
theorem Bq2:Ent prog 102:=en func102
theorem Bp6{x c:Int}{f t:Nat}{vθ:Value}{θ:List QV}(up:Up S w)(upo:Up T0 w)(hθ:eV.R S w vθ θ)(hk:vk L θ)(hf:f<θ.length)(ht:t<θ.length)(hx:1<=x)(hx2:x<=1000)(hL:1<=L)(hL2:L<=1000000000) :
  CR prog 102 #[brV (f:Nat) (t:Nat) x c,vθ] w (eQ.at T0 (qc ((rv θ f-rv θ t) / ((x:Int):Rat)))):=by
 refine enter func102 O ntmps102 O (.beg (.go O (.box O O λw1 b2 n1=>.go O (.alloc O E8 λw2 b4 n2=>.goC O ?_))));obtain⟨e1,k2,hb2,hs1⟩:=n1;obtain⟨e2,k4,hb4,hs2⟩:=n2;have x2:=e1.trans e2;have hx2s:=x2.size;have k2:=k2.ext e2;have upT:∀ {W:World},w2.heap.size<=W.heap.size->Up (λk=>S k/\k≠b4) W:=λh k hk=>⟨up k (by omega),by omega⟩;have upoT:∀ {W:World},w2.heap.size<=W.heap.size->Up (λk=>T0 k/\k≠b4) W:=λh k hk=>⟨upo k (by omega),by omega⟩;have hθ:eV.R (λk=>S k/\k≠b4) w2 vθ θ:=eV.mono (λk _ h=>⟨h.1,by have:=h.2;omega⟩) (ER.ext eV (ER.lt eV hθ) x2);have hgf:θ[f]?=some (θ.getD f q0):=B0 hf;have hgt:θ[t]?=some (θ.getD t q0):=B0 ht;have hqf:=hk.get hL f;have hqt:=hk.get hL t;have hx0:((x:Int):Rat)≠0:=λe=>by
  have:x=0:=by exact_mod_cast e
  omega
 have hrz:∀ b,Rsz (rv θ b) L:=λb=>hk.rsz hL b;have hd:Rsz (rv θ f-rv θ t) (L+L+1):=by rw[cW];exact (hrz _).add (hrz _).neg
 have hr1:Rsz ((x:Int):Rat) (L+L+1):=Rsz.int _ (bC (by omega:x.natAbs<4294967296 ^ 1) (aQ (by decide) (by omega))) (by omega);refine .parL follows 22 [20] [.inl _,.inl (pW b2),.inl (pW b2),.inl (iW (f:Nat)),.inr (Ptr eQ (λk=>S k/\k≠b4) (θ.getD f q0)),.inr (eQ.at (λk=>S k/\k≠b4) (θ.getD f q0)),.inl _,.inl (pW b2),.inl (.pointer (some ⟨b2,1,none⟩)),.inl (iW (t:Nat)),.inr (Ptr eQ (λk=>S k/\k≠b4) (θ.getD t q0)),.inr (eQ.at (λk=>S k/\k≠b4) (θ.getD t q0)),.inr (eQ.at (λk=>S k/\k≠b4) (qc (rv θ f-rv θ t))),.inl (pW b2),.inl (.pointer (some ⟨b2,2,none⟩)),.inl (iW x),.inr (eQ.at (λk=>S k/\k≠b4) (qc ((x:Int):Rat))),.inr (Two (eQ.at (λk=>T0 k/\k≠b4) (qc ((rv θ f-rv θ t) / ((x:Int):Rat)))) (Is (iW 0))),.inr (Two (eQ.at (λk=>T0 k/\k≠b4) (qc ((rv θ f-rv θ t) / ((x:Int):Rat)))) (Is (iW 0))),.inr (eQ.at (λk=>T0 k/\k≠b4) (qc ((rv θ f-rv θ t) / ((x:Int):Rat)))),.inl (iW 0),.inr (Ah4 w2.heap.size 39 zq.cells)] [[],[],[(9,1)],[(10,2)],[(8,0),(11,3)],[(12,4)],[],[],[(15,7)],[(16,8)],[(14,6),(17,9)],[(18,10)],[(13,5),(19,11)],[],[(21,13)],[(22,14)],[(23,15)],[(20,12),(24,16)],[(25,17)],[(7,18)],[(7,18)],[]] (by kernel_rfl) ⟨mvo O,fao Ab6 O,fao I5 O,λw e=>(E2 A5 O (k2.ext e) O).ob,λw e=>C4 (i:=f) C9 A3 O (ER.ext eV hθ e) O hgf,λw e x4 hx4=>K1 A3 O hx4,mvo O,fao Ab6 O,fao I4 O,λw e=>(E2 A5 O (k2.ext e) O).ob,λw e=>C4 (i:=t) C9 A3 O (ER.ext eV hθ e) O hgt,λw e x10 hx10=>K1 A3 O hx10,λw e x5 hx5 x11 hx11=>(A4 _ AE1 O (AK1 (L:=L) (upT e.size) hx5 hx11 hqf.1 hqt.1 hL (by omega))).oa,fao Ab6 O,fao AI2 O,λw e=>(E2 Z4 O (k2.ext e) O).ob,λw e=>(A4 _ I2 O (H9 (upT e.size) (by omega) (by omega))).oa,λw e x12 hx12 x16 hx16=>by
   have:=AT0 (L:=L+L+1) (upT e.size) (upoT e.size) hx12 hx16 hd.toOk hr1.toOk (by omega) (by omega) (by rw[C3];exact hx0);rw[C3,C3] at this;exact (A4 _ AU3 O this).ob (L3 (G7 _ _ _) (S9 _)),λw e x17 hx17=>K5 (v_mv O) hx17 (L3 (G7 _ _ _) (S9 _)),λw e x18 hx18=>by
   obtain⟨p,q,rfl,hp,hq⟩:=hx18;exact K5 (AA1 O O) hp (G7 _ _ _),λw e x18 hx18=>by
   obtain⟨p,q,rfl,hp,hq⟩:=hx18;exact ((AA1 O O).eq hq).ob,λw e=>R6 E8 e.size,trivial⟩ ?_
 rintro W3 g3 _ _ _ _ _ _ _ _ _ _ _ _ _ _ _ _ y hy _ ⟨b5,rfl,hb5,k5⟩;have hy':=AY4 hy k5 AC8;refine .storeA (E:=eQ) A3 O O k5 O O hy' (λh=>h.2 O) λW4 k5 u4 hy=>?_;have hy:eQ.R (λk=>T0 k/\k≠b4) W4 y _:=eQ.mono (λ_ _ h=>h.1) hy;have hyv:=G8 (E:=eQ) O hy;have k4:=(k4.ext g3).upd u4 (by omega);have x4:Ext w W4:=u4.below (x2.trans g3) (by omega);refine .go O (.ldA A3 O O k5 (eQ.csz hy) ?_);rw[<-hyv];refine .storeA (E:=eQ) A3 O O k4 O O hy (λh=>h.2 O) λW5 k4 u5 hy=>.goE O ?_;exact .cell results102 O A3 O O k4 hy ⟨u5.below x4 (by omega),eQ.mono (λ_ _ h=>h.1) hy⟩
theorem Bt9{W:World}{a:List QV}(h:ResP S w.heap.size ((B:Nat):Int) a v W)(up:Up S w)(h1:1<=B)(h2:B<=60000):eV.R S W v (tab B (rv a)):=by
 rcases h with ⟨h,_⟩ | ⟨_,g,N,hN,hg,rfl,hf⟩
 ·omega
 ·have hNB:N=B:=by omega
  subst hNB;have:=hf.toR (hsz:=by decide) (c:=N) (up g hg) (by rw[A2];exact aA _) (by rw[A2];omega);rw[A2] at this;exact this
theorem vk_res{a:List QV}(h:vk L a)(hL:1<=L):vk L (tab B (rv a)):=T7 λk _=>h.rsz hL k
theorem An1:Ent prog 58:=en func58
theorem Al2{va:Value}{a:List QV}(up:Up S w)(upo:Up T0 w)(hn:eN.R S w vn n)(ho:eI.R S w vo o)(ha:eV.R S w va a)(hka:vk L a)(hL1:1<=L)(hL:L<=1000000000) :
  CR prog 58 #[vn,vo,va] w (Two (eV.at T0 (if sfE n o a.length=0 then tab n.ls.length ((A0 n o).fl (rv a)) else [])) (Is (iW (sfE n o a.length)))):=by
 obtain⟨s,rfl,hs,hb⟩:=hn;have hn:eN.R S w (.agg #[iW n.b,s]) n:=⟨s,rfl,hs,hb⟩;refine enter func58 O ntmps58 O (.beg (.go O (.box O O λw1 b3 n1=>?_)));obtain⟨e1,k3,hb3,hs1⟩:=n1;refine .go O (.ldA G2 O O k3 O (.go O ?_));refine .call _ O AR3 O (AQ2 (up.ext e1.size) (hn.ext e1) (ho.ext e1)) λv2 w2 e2 h2=>?_;obtain⟨vl,ve,rfl,hl,he⟩:=h2;replace he:ve=.int .i64 (C8 n o):=he;subst he;have x2:=e1.trans e2;refine .go O ?_;by_cases hE:C8 n o=0;rotate_left
 ·have hb:sfE n o a.length=C8 n o:=by unfold sfE;rw[if_pos hE]
  refine .neqT O O O hE (.goE O ?_);refine .plain [_,_] results58 ⟨rfl,rfl,trivial⟩ ⟨x2,_,_,rfl,?_,by rw[hb]⟩;rw[if_neg (by rw[hb];exact hE)];exact RL.nil
 have ok:=K6 hE;rw[if_pos hE] at hl;have hB6:=ok.b6;have hB1:=ok.b1;have hM10:n.ls.length<=10:=ok.m;have hnb:=ok.b;have hll:=AE6 n o;have k3:=k3.ext e2;rw[hnb] at k3;obtain⟨_,_,_,_,hal⟩:=RL.len ha;refine .neqF O O O hE (.go O (.lenR C9 O O (ha.ext x2) (.go O (.fa F9 O O (.ld A5 O O k3 O ?_)))));by_cases hlen:(a.length:Int)<=n.b;rotate_left
 ·have hb:sfE n o a.length=5:=by unfold sfE;rw[if_neg (by simpa using hE),if_neg hlen]
  refine .gtrT O O O (by omega) (.goE O ?_);refine .plain [_,_] results58 ⟨rfl,rfl,trivial⟩ ⟨x2,_,_,rfl,?_,by rw[hb]⟩;rw[if_neg (by rw[hb];decide)];exact RL.nil
 have hno:sfE n o a.length=0:=by unfold sfE;rw[if_neg (by simpa using hE),if_pos hlen]
 rw[if_pos hno];refine .gtrF O O O (by omega) (.go O (.fa F9 O O (.ld A5 O O k3 O ?_)));refine .call _ O AI4 O (AR5 (up.ext x2.size) (ha.ext x2) hka hL1 (by omega)) λv3 w3 e3 h3=>?_;have h3:=Bt9 (B:=(A0 n o).B) h3 (up.ext x2.size) (by omega) (by omega);have x3:=x2.trans e3;refine .go O (.fa G5 O O (.ld J0 O O (k3.ext e3) O (.lenR I6 O O (hs.ext x3) ?_)));refine .make_ _ _ C9 J4 O (by decide) O O O (aA _) (by omega) (by omega) λw4 h n4=>?_;have f4:FB eQ 39 T0 w4 h (List.replicate n.ls.length q0):=FB.made n4 AF1;obtain⟨e4,_,hh,hs4⟩:=n4;rw[<-Ai8] at f4;have hs3:=x3.size;have hl:=ER.ext eI hl e3;have hs:=ER.ext eLs hs x3;have k3:=k3.ext e3;have h3:eV.R (λk=>S k/\k≠h) w3 v3 _:=eV.mono (λk _ h=>⟨h.1,by have:=h.2;omega⟩) (ER.lt eV h3);refine .go O (.lenR C5 O O (ER.ext eI hl e4) ?_);rw[show (A7 (inL n o)).length=(inL n o).length by simp];refine .goC O (.lp (α:=Nat) [3,10,11,36,37] O (λi=>[(38,iW (i:Nat))]) (λi W=>Ext w3 W/\i<=(inL n o).length/\FB eQ 39 T0 W h (tab n.ls.length λk=>if k∈(inL n o).take i then (A0 n o).fl (rv a) k else 0)) (λi=>(inL n o).length-i) 0 (lc1 O) ⟨e4,aC _,by simpa using f4⟩ ?_);rintro i W ⟨hW,hi,fb⟩;have hWs:=hW.size;have hhl:=fb.lt;refine .go O ?_;rcases aB i (inL n o).length with hlt | hge;rotate_left
 ·refine .lssF O O O (by omega) (.goE O ?_);have:i=(inL n o).length:=by omega
  subst this;rw[aK (aA _),By9 ok] at fb;refine .plain [_,_] results58 ⟨rfl,rfl,trivial⟩ ⟨x3.trans hW,_,_,rfl,?_,by rw[hno]⟩;have:=fb.toR (hsz:=by decide) (c:=n.ls.length) (upo h (by omega)) (by rw[A2];exact aA _) (by rw[A2];omega);rw[A2] at this;exact this
 obtain⟨hgk,hkM,hko⟩:=AM3 hlt;refine .lssT O O O (by omega) (.go O (.ixN (i:=i) C5 B5 O O (ER.ext eI hl hW) O hgk λq hq=>.ldE (E:=B8 .i64) B5 O O hq λe he=>?_));obtain⟨rfl,_⟩:=he;have hset:=BU0 (M:=n.ls.length) (f:=(A0 n o).fl (rv a)) hlt;have hgl:n.ls[(inL n o).getD i 0]?=some (n.ls.getD ((inL n o).getD i 0) ln0):=B0 hkM;have hFI:=ok.fI _ hkM;have hTI:=ok.tI _ hkM;have hF:=ok.f _ hkM;have hT:=ok.t _ hkM;have hx:=ok.x _ hkM;have hgv:=g_on (n:=n) hko;generalize hkk:(inL n o).getD i 0=k at hset hgl hFI hTI hx hgv hkM hF hT;generalize hln:n.ls.getD k ln0=ln at hgl hFI hTI hx hgv;refine .go O (.fa G5 O O (.ld J0 O O (k3.ext hW) O (.go O (.ixN (i:=k) I6 L8 O O (ER.ext eLs hs hW) O hgl λq hq=>.ldE (E:=eL) L8 O O hq λvl' hvl=>?_))));obtain⟨rfl,_⟩:=hvl;rw[hFI,hTI];refine .bld _ O O CA5 (.go O ?_);have hv:=Bp6 (w:=W) (S:=λk=>S k/\k≠h) (T0:=λk=>T0 k/\k≠h) (c:=ln.c) (λk hk=>⟨up k (by omega),by omega⟩) (λk hk=>⟨upo k (by omega),by omega⟩) (ER.ext eV h3 hW) (vk_res hka hL1) (by rw[A2];exact hF) (by rw[A2];exact hT) hx.1 hx.2 hL1 hL;have hflv:(rv (tab (A0 n o).B (rv a)) ((A0 n o).F k)-rv (tab (A0 n o).B (rv a)) ((A0 n o).T k)) / ((ln.x:Int):Rat)=(A0 n o).fl (rv a) k:=by unfold Nw.fl;rw[L4,L4,if_pos hF,if_pos hT,hgv,dG,fG]
 rw[hflv] at hv;refine .call _ O Bq2 O hv λy W1 g1 hy=>?_;have hs1':=g1.size;refine .go O (.ixB (i:=k) C9 A3 O O O hkM (.storeF (E:=eQ) (i:=k) (by decide) A3 O O (fb.ext g1) O (by rw[A2];exact hkM) (aD _) hy λW6 f6 u6=>?_));rw[hset] at f6;exact .go O (.inc O O O (by omega) (.goN O (.mk (i+1) O (lc1 O) ⟨⟨u6.below (hW.trans g1) (by omega),hlt,f6⟩,by show (inL n o).length-(i+1)<(inL n o).length-i;omega⟩)))
section
variable {P:Program} {σ:Env} {w:World} {d:Option Tmp} {ty:TypeId} {pos:String} {af:Array Edge} {g:Option (Nat×Bool)}
theorem By7 {f:FuncId} {fx:Operand} {xs:List Operand} {ts:Array TypeId} (fs cap vs:List Value) {R:Value->World->Prop} (hfx:ev σ fx=some (.func (.func f) fs.toArray cap.toArray)) (hf:Ent P f) (hx:xs.map (ev σ)=vs.map some)
  (hc:CR P f (fs++(vs++cap)).toArray w R) :
  Gv P ⟨d,.call { callee:=.value fx,args:=xs.toArray,argTypes:=ts },ty,pos,af,g⟩ σ w λv w'=>Ext w w'/\R v w':=by
 refine⟨(by intro _ h;cases h),λρ hρ=>.inr (.inr ?_)⟩;have h1:=hρ fx _ (by simp[Op.operands,Call.operands]) hfx;have h2:xs.map ρ=vs:=AT1 (σ:=σ) (λx v hx'=>hρ x v (by simp[Op.operands,Call.operands,hx'])) hx;refine⟨f,(fs++(vs++cap)).toArray,w,?_,hc⟩;simp[execOp,resolve,h1,h2,Deferred.ofValue,invoke,hf _ _]
theorem ob_make {t e:TypeId} {x y:Operand} {z:Value} {sz by_ B:Nat} (n c:Nat) {k k':IntKind} (ht:P.underlying t=some (.slice e)) (hi:O8 P e=some (z,sz,by_)) (hzs:z.cells.size=sz) (hsz:0<sz)
  (hx:ev σ x=some (.int k (n:Int))) (hy:ev σ y=some (.int k' (c:Int))) (hnc:n<=c) (hby:by_*c<=281474976710656) (hc:c<=9223372036854775807) (hB:B<=w.heap.size) :
  Gv P ⟨d,.makeSlice t x y,ty,pos,af,g⟩ σ w λv' w'=>Ext w w'/\Sp.ok (.inr λv W=>∃ b,v=.slice (some ⟨b,0,none⟩) n c/\B<=b/\Blk W b e (cellsOf (List.replicate c z)).toArray) v' w' :=
 (By6 n c ht hi hzs hsz hx hy hnc hby hc).mono λv' w' ⟨b,hv,hn⟩=>⟨hn.1,λw'' e=>⟨b,hv,by have:=hn.2.2.1;omega,hn.2.1.ext e⟩⟩
end
theorem FB.rep{E:ER α}{g:Nat}{z:Value}{z0:α}(hb:Blk w g t (cellsOf (List.replicate c z)).toArray)(hz:E.R (λk=>S k/\k≠g) w z z0):FB E t S w g (List.replicate c z0) :=
 ⟨List.replicate c z,hb,by simp,λi e x he hx=>by
  rw[eA] at he hx
  split at he
  ·rename_i h;rw[if_pos h] at hx;cases he;cases hx;exact hz
  ·cases he⟩
def Ak6 (f q:RM) (r c:Nat):RM:=λr' c'=>if r'<r\/(r'=r/\c'<c) then f r' c'+q r' c' else f r' c'
theorem Bn1(f q:RM)(r c:Nat):upE (Ak6 f q r c) r c (f r c+q r c)=Ak6 f q r (c+1):=by
 funext a b;unfold upE Ak6;by_cases ha:a=r
 ·subst ha;rw[if_pos rfl];by_cases hb:b=c
  ·subst hb;rw[if_pos rfl,if_pos (.inr ⟨rfl,by omega⟩)]
  ·rw[if_neg hb];by_cases h:b<c
   ·rw[if_pos (.inr ⟨rfl,h⟩),if_pos (.inr ⟨rfl,by omega⟩)]
   ·rw[if_neg (by omega),if_neg (by omega)]
 ·rw[if_neg ha];by_cases h:a<r
  ·rw[if_pos (.inl h),if_pos (.inl h)]
  ·rw[if_neg (by omega),if_neg (by omega)]
theorem Bw7(B:Nat)(f q:RM)(r:Nat):C6 B B (Ak6 f q r B)=C6 B B (Ak6 f q (r+1) 0):=E7 λa b _ hb=>by
 unfold Ak6
 by_cases h:a<r+1
 ·rw[if_pos (by omega),if_pos (.inl h)]
 ·rw[if_neg (by omega),if_neg (by omega)]
theorem Bn0(B:Nat)(f q:RM):C6 B B (Ak6 f q 0 0)=C6 B B f:=E7 λa b _ _=>by unfold Ak6;rw[if_neg (by omega)]
theorem Bw8(B:Nat)(f q:RM):C6 B B (Ak6 f q B 0)=C6 B B λr c=>f r c+q r c:=E7 λa b ha _=>by unfold Ak6;rw[if_pos (.inl ha)]
theorem mixF_at(f q:RM)(r c:Nat):Ak6 f q r c r c=f r c:=by unfold Ak6;rw[if_neg (by omega)]
theorem Bk4{n:Nw}(hne:n.F k≠n.T k):((brE (n.F k:Nat) (n.T k:Nat) (b:Nat):Int):Rat)=n.inc k b:=by
 unfold brE Nw.inc dl;by_cases h1:n.F k=b
 ·rw[if_pos (by omega),if_pos h1,if_neg (by omega)];grind
 ·rw[if_neg (by omega),if_neg h1];by_cases h2:n.T k=b
  ·rw[if_pos (by omega),if_pos h2];grind
  ·rw[if_neg (by omega),if_neg h2];grind
theorem BQ2{n:Nw}{a:Nat}{x:Int}(hne:n.F k≠n.T k)(hg:n.g k=((x:Int):Rat)⁻¹):Rat.divInt (brE (n.F k:Nat) (n.T k:Nat) (a:Nat)*brE (n.F k:Nat) (n.T k:Nat) (b:Nat)) x=n.g k*(n.inc k a*n.inc k b):=by rw[<-Bk4 hne,<-Bk4 hne,hg,Rat.divInt_eq_div,dG,fG,Rat.intCast_mul]
theorem E_Lap1:Ent prog 149:=en func149
theorem Lap1_c{b8 gb:Nat}{hs:List Nat}{f q:RM}{F T x c:Int}(up:Up S w)(hM:MB 26 39 S w gb B hs (C6 B B f))(k8:Blk w b8 70 #[slB B gb])(h8:b8∉hs)(h8g:b8≠gb)(hB:B<=6)(hf:∀ r c,Rsz (f r c) 30)(hq:∀ a b:Nat,Rat.divInt (brE F T (a:Nat)*brE F T (b:Nat)) x=q a b)(hqs:∀ r c,Rsz (q r c) 30)(hx:1<=x)(hx2:x<=1000) :
  Calls prog 149 #[.func (.func 150) #[brV F T x c] #[],pW b8] w λe w'=>∃ v,e=.returned v/\(Chg (λk=>k∈hs) w w'/\MB 26 39 S w' gb B hs (C6 B B λr c=>f r c+q r c)):=by
 have hlen:hs.length=B:=by rw[hM.len,A8]
 have hhg:∀ i,i<B->hs[i]?=some (hs.getD i 0):=λi hi=>B0 (by omega);have hgn:=hM.gn;have hgl:=hM.out.lt;have hlt0:∀ k∈hs,k<w.heap.size:=λk hk=>hM.lt hk;refine U8 func149 O ntmps149 O (.beg (.go O (.ld AK7 O O k8 O (.len E4 O O (.goC O (.lp (α:=Nat) [0,1,6] O (λr=>[(7,iW (r:Nat))]) (λr W=>r<=B/\Chg (λk=>k∈hs) w W/\MB 26 39 S W gb B hs (C6 B B (Ak6 f q r 0))) (λr=>B-r) 0 (lc1 O) ⟨aC _,Chg.refl _,by rw[Bn0];exact hM⟩ ?_))))));rintro r W ⟨hr,hC,hM⟩;refine .go O ?_;rcases aB r B with hrl | hge;rotate_left
 ·refine .lssF O O O (by omega) (.goE O ?_);have:r=B:=by omega
  subst this;rw[Bw8] at hM;exact .plain [] results149 trivial ⟨hC,hM⟩
 refine .lssT O O O (by omega) (.go O (.ld AK7 O O (hC.blk k8 h8) O (.go O (.ixB (i:=r) E4 C2 O O O hrl (.ld C2 O O hM.out (hM.cell (hhg r hrl)) (.len C9 O O ?_))))));refine .goC O (.lp (α:=Nat) [0,1,3,6,7,14] O (λc=>[(15,iW (c:Nat))]) (λc W=>c<=B/\Chg (λk=>k∈hs) w W/\MB 26 39 S W gb B hs (C6 B B (Ak6 f q r c))) (λc=>B-c) 0 (lc1 O) ⟨aC _,hC,hM⟩ ?_);clear hM hC W;rintro j W ⟨hj,hC,hM⟩;refine .go O ?_;rcases aB j B with hjl | hge;rotate_left
 ·have:j=B:=by omega
  subst this;rw[Bw7] at hM;exact .lssF O O O (by omega) (.go O (.inc O O O (by omega) (.goN O (.mk (r+1) O (lc1 O) ⟨⟨hrl,hC,hM⟩,by show j-(r+1)<j-r;omega⟩))))
 have k8W:=hC.blk k8 h8;have hrow:=hM.row r _ _ (hhg r hrl) (F2 hrl);have hCs:=hC.size;have upT:∀ {W':World},W.heap.size<=W'.heap.size->Up (offM S gb hs) W':=λh k' hk'=>⟨up k' (by omega),by omega,λhm=>by have:=hlt0 k' hm;omega⟩;refine .lssT O O O (by omega) (.goC O ?_);refine .par follows 17 [.inl (slB B gb),.inl (iW (r:Nat)),.inl (.pointer (some ⟨gb,0+r*1,none⟩)),.inl (slB B (hs.getD r 0)),.inl (iW (j:Nat)),.inl (slB B gb),.inl (iW (r:Nat)),.inl (.pointer (some ⟨gb,0+r*1,none⟩)),.inl (slB B (hs.getD r 0)),.inl (iW (j:Nat)),.inl (.pointer (some ⟨hs.getD r 0,0+j*4,none⟩)),.inr (eQ.at (offM S gb hs) (qc (f r j))),.inl _,.inl _,.inl _,.inr (eQ.at (offM S gb hs) (qc (q r j))),.inr (eQ.at (offM S gb hs) (qc (f r j+q r j)))] [[],[],[(18,0),(19,1)],[(20,2)],[],[],[],[(23,5),(24,6)],[(25,7)],[],[(26,8),(27,9)],[(28,10)],[],[],[],[(30,12),(31,13),(32,14)],[(29,11),(33,15)]] (by kernel_rfl) ⟨λw e=>(E2 AK7 O (k8W.ext e) O).ob,mvo O,λw e=>(G6 (i:=r) E4 C2 O O hrl).ob,λw e=>(E2 C2 O (hM.out.ext e) (hM.cell (hhg r hrl))).ob,mvo O,λw e=>(E2 AK7 O (k8W.ext e) O).ob,mvo O,λw e=>(G6 (i:=r) E4 C2 O O hrl).ob,λw e=>(E2 C2 O (hM.out.ext e) (hM.cell (hhg r hrl))).ob,mvo O,λw e=>(G6 (i:=j) C9 A3 O O hjl).ob,λw e=>(AJ8 (E:=eQ) (i:=j) (by decide) A3 O (aD _) (hrow.2.ext e) (by rw[H2 hjl,mixF_at])).mono λv' w' h=>⟨h.1,λw'' e'=>eQ.mono (λ_ _ h=>h.1) (h.2 w'' e')⟩,mvo O,mvo O,mvo O,λw e=>by
   have:=Be8 (f:=F) (t:=T) (c:=c) (a:=(r:Nat)) (b:=(j:Nat)) (upT e.size) hx hx2;rw[hq] at this;exact (By7 [brV F T x c] [] [iW (r:Nat),iW (j:Nat)] O Bf9 O this).oa,λw e x11 hx11 x15 hx15=>by
   have:=AK2 (L:=30) (upT e.size) hx11 hx15 (hf _ _).toOk (hqs _ _).toOk (by decide) (by decide);rw[C3,C3] at this;exact (A4 _ AK6 O this).oa,trivial⟩ ?_
 intro X0 g0 _ _ _ _ y0 hy0;have sx0:=g0.size;have hm:hs.getD r 0∈hs:=H6 (by omega);refine .ixB (i:=j) C9 A3 O O O hjl (.storeF (E:=eQ) (i:=j) (by decide) A3 O O (hrow.2.ext g0) O (by rw[A2];exact hjl) (aD _) (eQ.mono (λk' _ h=>⟨h,λe=>h.2.2 (e▸hm)⟩) hy0) λY0 fy0 uy0=>?_);have hM:=(hM.ext g0).set (hhg r hrl) (by rw[bV,A2]) uy0 fy0;rw[AW0 hrl,Bn1] at hM;exact .go O (.inc O O O (by omega) (.goN O (.mk (j+1) O (lc1 O) ⟨⟨hjl,hC.trans ((Chg.ext g0).trans (Chg.upd uy0 hm)),hM⟩,by show B-(j+1)<B-j;omega⟩)))
theorem Aq2:Ent prog 99:=en func99
theorem Ao6(up:Up S w)(hn:eN.R S w vn n)(ho:eI.R S w vo o) :
  CR prog 99 #[vn,vo] w (Two (λv W=>if C8 n o=0 then MBat 26 39 S w.heap.size (A0 n o).B (A0 n o).B (C6 (A0 n o).B (A0 n o).B (A0 n o).Lm) v W else v=.slice none 0 0) (Is (iW (C8 n o)))):=by
 obtain⟨s,rfl,hs,hb⟩:=hn;have hn:eN.R S w (.agg #[iW n.b,s]) n:=⟨s,rfl,hs,hb⟩;refine enter func99 O ntmps99 O (.beg (.go O (.box O O λw1 b2 n1=>?_)));obtain⟨e1,k2,hb2,hs1⟩:=n1;refine .go O (.ldA G2 O O k2 O (.go O ?_));refine .call _ O AR3 O (AQ2 (up.ext e1.size) (hn.ext e1) (ho.ext e1)) λv2 w2 e2 h2=>?_;obtain⟨vl,ve,rfl,hl,he⟩:=h2;replace he:ve=.int .i64 (C8 n o):=he;subst he;have x2:=e1.trans e2;refine .go O ?_;by_cases hE:C8 n o=0;rotate_left
 ·refine .neqT O O O hE (.goE O ?_);refine .plain [_,_] results99 ⟨rfl,rfl,trivial⟩ ⟨x2,_,_,rfl,?_,rfl⟩;show if C8 n o=0 then _ else _;rw[if_neg hE]
 have ok:=K6 hE;rw[if_pos hE] at hl;have hB6:=ok.b6;have hB1:=ok.b1;have hM10:n.ls.length<=10:=ok.m;have hnb:=ok.b;have hll:=AE6 n o;have k2:=k2.ext e2;have hsx2:=x2.size;rw[hnb] at k2;refine .neqF O O O hE (.go O (.fa F9 O O (.ld A5 O O k2 O ?_)));generalize hBB:(A0 n o).B=B at hB6 hB1 hnb k2;refine .make_ _ _ E4 AD5 O (by decide) O O O (aA _) (by omega) (by omega) λw3 gb n3=>.alloc O Br2 λw4 b8 n4=>?_;obtain⟨e3,kg,hgb,hs3⟩:=n3;obtain⟨e4,k8,hb8,hs4⟩:=n4;refine .store AK7 O O k8 O (by simp[Value.cells]) (by simp[H3,Value.cells]) λw5 k8 u5=>?_;replace k8:Blk w5 b8 70 #[slB B gb]:=k8;have hs5:=u5.size;have y5:Ext w2 w5:=u5.below (e3.trans e4) (by omega);have k2V:=k2;have k2:=k2.ext y5;have kg:Blk w5 gb 26 (cellsOf (List.replicate B Q9)).toArray:=(kg.ext e4).upd u5 (by omega);refine .go O (.ld AK7 O O k8 O (.len E4 O O ?_));have hb2l:=(k2).lt;have hup:∀ k,w.heap.size<=k->S k:=up;refine .goC O (.cut (α:=List Nat) 1 [2,6,8,26] O (λhs=>[(27,iW (hs.length:Nat))]) (λhs W=>Ext w2 W/\Blk W b8 70 #[slB B gb]/\(∀ k∈hs,w5.heap.size<=k)/\MB 26 39 S W gb B hs (C6 B B λ_ _=>0)) O ?_ ?_);rotate_left
 ·refine .lp (α:=List Nat) [2,6,8,26] rfl (λhs=>[(27,iW (hs.length:Nat))]) (λhs W=>Ext w2 W/\Blk W b8 70 #[slB B gb]/\hs.length<=B/\Blk W gb 26 (cellsOf (hs.map (slB B)++List.replicate (B-hs.length) Q9)).toArray/\hs.Nodup/\(∀ k∈hs,w5.heap.size<=k)/\∀ (i h:Nat),hs[i]?=some h->FB eQ 39 (λ_=>False) W h (List.replicate B q0)) (λhs=>B-hs.length) [] (lc1 rfl) ⟨y5,k8,aC _,kg,List.nodup_nil,(λk hk=>by cases hk),(λi h hh=>by cases hh)⟩ ?_;rintro hs W ⟨hW,k8,hi,hO,hnd,hge,hrow⟩;have hWs:=hW.size;have hgl:=hO.lt;refine .go O ?_;rcases aB hs.length B with hlt | hge';rotate_left
  ·refine .lssF O O O (by omega) (.goN O (.mk hs O (lc1 O) ⟨hW,k8,hge,?_⟩));have hl:hs.length=B:=by omega
   rw[hl,dX,iI,bB] at hO;refine⟨hO,hnd,λhm=>by have:=hge gb hm;omega,by rw[A8];exact hl,λi h r h1 h2=>?_⟩;have hil:i<B:=by have:=(List.getElem?_eq_some_iff.1 h1).1;omega
   rw[F2 hil] at h2
   cases h2;rw[Ai8];exact⟨by simp,(hrow i h h1).mono λ_ _ h=>h.elim⟩
  refine .lssT O O O (by omega) (.goC O ?_);refine .par follows 5 [.inl (slB B gb),.inl (iW (hs.length:Nat)),.inl (pW b2),.inl (iW (B:Nat)),.inr (λv W'=>∃ b,v=.slice (some ⟨b,0,none⟩) B B/\W.heap.size<=b/\Blk W' b 39 (cellsOf (List.replicate B zq)).toArray)] [[],[],[],[(32,2)],[(33,3)]] (by kernel_rfl) ⟨λw e=>(E2 AK7 O (k8.ext e) O).ob,mvo O,fao F9 O,λw e=>(E2 A5 O ((k2V.ext hW).ext e) O).ob,λw e=>ob_make B B C9 J4 O (by decide) O O (aA _) (by omega) (by omega) e.size,trivial⟩ ?_;rintro W1 g1 _ ⟨h,rfl,hhW,kh⟩;have hs1':=g1.size;have hlW:∀ k∈hs,k<W.heap.size:=λk hk=>by obtain⟨i,hi⟩:=List.mem_iff_getElem?.1 hk;exact (hrow i k hi).lt
  have hesz:∀ e∈hs.map (slB B)++List.replicate (B-hs.length) Q9,e.cells.size=1:=λe he=>by
   rcases List.mem_append.1 he with h | h
   ·obtain⟨_,_,rfl⟩:=List.mem_map.1 h;rfl
   ·rw[(List.mem_replicate.1 h).2];rfl
  have hset:(hs.map (slB B)++List.replicate (B-hs.length) Q9).set hs.length (slB B h)=(hs++[h]).map (slB B)++List.replicate (B-(hs.length+1)) Q9:=by have:=Bg8 (hs.map (slB B)) Q9 (slB B h) (B-(hs.length+1));rw[dC,show B-(hs.length+1)+1=B-hs.length by omega] at this;rw[this,aM];rfl
  refine .ixB (i:=hs.length) E4 C2 O O O hlt ?_;refine .gv O O (BB0 (i:=hs.length) (by decide) C2 O O (hO.ext g1) hesz O (by simp[Value.cells,H3]) (by simp;omega) (aD _)) ?_;rintro _ W2 ⟨hBg2,u2⟩;replace hBg2:Blk W2 gb 26 (cellsOf ((hs.map (slB B)++List.replicate (B-hs.length) Q9).set hs.length (slB B h))).toArray:=hBg2;rw[hset] at hBg2;refine .go O (.inc O O O (by omega) (.goN O (.mk (hs++[h]) O (lc1 (by rw[aL];rfl)) ⟨⟨u2.below (hW.trans g1) (by omega),(k8.ext g1).upd u2 (by omega),by rw[aL];exact hlt,by rw[aL];exact hBg2,?_,?_,?_⟩,by rw[aL];show B-(hs.length+1)<B-hs.length;omega⟩)))
  ·exact List.nodup_append.2 ⟨hnd,by simp,λa ha b hb=>by rw[List.mem_singleton.1 hb];have:=hlW a ha;omega⟩
  ·intro k hk;rcases List.mem_append.1 hk with hk | hk
   ·exact hge k hk
   ·rw[List.mem_singleton.1 hk];have:=k8.lt;omega
  ·intro i x hx;rcases aB i hs.length with hil | hil
   ·rw[bQ hil] at hx;have:=hge x (List.mem_iff_getElem?.2 ⟨i,hx⟩);exact ((hrow i x hx).ext g1).upd u2 (by omega) λh=>h
   ·rw[bT hil] at hx;have:x=h:=by
     cases hj:i-hs.length with
     | zero=>rw[hj] at hx;simpa using hx.symm
     | succ j=>rw[hj] at hx;simp at hx
    subst this;exact (FB.rep (S:=λ_=>False) kh AF1).upd u2 (by omega) λh=>h
 rintro hs0 W ⟨hW,k8,hge,hM⟩;have hWs:=hW.size;have hgl:=hM.out.lt;refine .go O (.mkf [] [_] O O O O (.go O (.lenR C5 O O (ER.ext eI hl hW) ?_)));rw[show (A7 (inL n o)).length=(inL n o).length by simp];refine .goC O (.lp (α:=Nat) [2,8,10,38,39] O (λi=>[(40,iW (i:Nat))]) (λi W=>i<=(inL n o).length/\Ext w2 W/\Blk W b8 70 #[slB B gb]/\MB 26 39 S W gb B hs0 (C6 B B ((A0 n o).lmL ((inL n o).take i)))) (λi=>(inL n o).length-i) 0 (lc1 O) ⟨aC _,hW,k8,hM⟩ ?_);clear hW hM k8 hgl hWs W;rintro i W ⟨hi,hW,k8,hM⟩;have hWs:=hW.size;refine .go O ?_;rcases aB i (inL n o).length with hlt | hge';rotate_left
 ·refine .lssF O O O (by omega) (.go O (.ld AK7 O O k8 O (.goE O ?_)));have:i=(inL n o).length:=by omega
  subst this;refine .plain [_,_] results99 ⟨rfl,rfl,trivial⟩ ⟨x2.trans hW,_,_,rfl,?_,by rw[hE]⟩;show if C8 n o=0 then _ else _;rw[if_pos hE];have hfin:C6 B B ((A0 n o).lmL ((inL n o).take (inL n o).length))=C6 B B (A0 n o).Lm:=E7 λb c _ _=>by rw[aK (aA _)];exact Nw.lmL_free (p:=oN o) b c _ λk hk=>ok.g0 hk
  rw[hfin] at hM;exact⟨gb,hs0,rfl,by omega,λk hk=>by have:=hge k hk;omega,hM⟩
 obtain⟨hgk,hkM,hko⟩:=AM3 hlt;refine .lssT O O O (by omega) (.go O (.ixN (i:=i) C5 B5 O O (ER.ext eI hl hW) O hgk λq hq=>.ldE (E:=B8 .i64) B5 O O hq λe he=>?_));obtain⟨rfl,_⟩:=he;have hgl:n.ls[(inL n o).getD i 0]?=some (n.ls.getD ((inL n o).getD i 0) ln0):=B0 hkM;have hFI:=ok.fI _ hkM;have hTI:=ok.tI _ hkM;have hne:=ok.ne _ hkM;have hx:=ok.x _ hkM;have hgv:=g_on (n:=n) hko;have htk:(inL n o).take (i+1)=(inL n o).take i++[(inL n o).getD i 0]:=by rw[cA,B0 (z:=0) hlt];rfl
 generalize hkk:(inL n o).getD i 0=k at hgl hFI hTI hx hgv hkM hne htk;generalize hln:n.ls.getD k ln0=ln at hgl hFI hTI hx hgv;refine .go O (.fa G5 O O (.ld J0 O O (k2V.ext hW) O (.go O (.ixN (i:=k) I6 L8 O O (ER.ext eLs hs (x2.trans hW)) O hgl λq hq=>.ldE (E:=eL) L8 O O hq λvl' hvl=>?_))));obtain⟨rfl,_⟩:=hvl;rw[hFI,hTI];refine .bld _ O O CA5 (.mkf [_] [] O O O O ?_);have hgs:=ok.gsz k;have hq:∀ a b,Rsz ((A0 n o).g k*((A0 n o).inc k a*(A0 n o).inc k b)) 30:=λa b=>by refine (Bh1 hgs (aA _) ?_).mono (by decide);rcases (A0 n o).inc_tri k a with h | h | h<;>rcases (A0 n o).inc_tri k b with h' | h' | h'<;>rw[h,h']<;>grind
 have hfs:∀ r c,Rsz ((A0 n o).lmL ((inL n o).take i) r c) 30:=λr c=>((A0 n o).lmL_rsz (aA _) (λk=>ok.gsz k) r c _).mono (by rw[cI];have:=bO 2 (show min i (inL n o).length<=10 by omega);omega)
 have hcall:=Lap1_c (S:=S) (c:=ln.c) (up.ext (x2.trans hW).size) hM k8 (λhm=>by have:=hge b8 hm;omega) (by omega) hB6 hfs (λa b=>BQ2 hne hgv) hq hx.1 hx.2;refine .callvG [_] O O E_Lap1 O hcall ?_;rintro v W1 ⟨hC,hM1⟩;have hnew:C6 B B (λr c=>(A0 n o).lmL ((inL n o).take i) r c+(A0 n o).g k*((A0 n o).inc k r*(A0 n o).inc k c))=C6 B B ((A0 n o).lmL ((inL n o).take (i+1))):=E7 λb c _ _=>by rw[htk,Nw.lmL_snoc]
 rw[hnew] at hM1;exact .go O (.inc O O O (by omega) (.goN O (.mk (i+1) O (lc1 O) ⟨⟨hlt,hC.below hW (by omega) (λk hk=>by have:=hge k hk;omega),hC.blk k8 (λhm=>by have:=hge b8 hm;omega),hM1⟩,by show (inL n o).length-(i+1)<(inL n o).length-i;omega⟩)))
theorem uni_dl(b c:Nat):uni ((b:Nat):Int) c=dl b c:=by
 unfold uni dl;by_cases h:b=c
 ·rw[if_pos (by omega),if_pos h]
 ·rw[if_neg (by omega),if_neg h]
theorem bd6(L:Nat):bd L 6=4096*L+1365:=by simp only[bd];omega
theorem rv_sum(hx:x.length<=B)(p:Nat->Prop)[DecidablePred p]:B9 x.length (λb=>if p b then rv x b else 0)=B9 B (λb=>if p b then rv x b else 0):=by
 obtain⟨d,rfl⟩:∃ d,B=x.length+d:=⟨B-x.length,by omega⟩;clear hx;induction d with
 | zero=>rfl
 | succ d ih =>
  rw[ih];show _=B9 (x.length+d) _+(if p (x.length+d) then rv x (x.length+d) else 0);rw[Af5 (show x.length<=x.length+d by omega),ite_self,dP]
theorem Av6:Ent prog 98:=en func98
open Classical in
theorem Au6(up:Up S w)(hn:eN.R S w vn n)(ho:eI.R S w vo o)(hx:eV.R S w vx x)(hkx:vk L x)(hL1:1<=L)(hL:L<=1000000) :
  CR prog 98 #[vn,vo,vx] w (Two (Is (.bool (decide (sfE n o x.length=0/\(A0 n o).bal (rv x))))) (Is (iW (sfE n o x.length)))):=by
 obtain⟨s,rfl,hs,hb⟩:=hn;have hn:eN.R S w (.agg #[iW n.b,s]) n:=⟨s,rfl,hs,hb⟩;refine enter func98 O ntmps98 O (.beg (.go O (.box O O λw1 b3 n1=>?_)));obtain⟨e1,k3,hb3,hs1⟩:=n1;refine .go O (.ldA G2 O O k3 O (.go O (.call _ O AZ9 O (AX7 (up.ext e1.size) (hn.ext e1) (ho.ext e1)) λv2 w2 e2 h2=>?_)));obtain⟨vl,ve,rfl,hl,he⟩:=h2;replace he:ve=.int .i64 (C8 n o):=he;subst he;have x2:=e1.trans e2;refine .go O ?_;by_cases hE:C8 n o=0;rotate_left
 ·have hb:sfE n o x.length=C8 n o:=by unfold sfE;rw[if_pos hE]
  refine .neqT O O O hE (.goE O ?_);refine .plain [_,_] results98 ⟨rfl,rfl,trivial⟩ ⟨x2,_,_,rfl,?_,by rw[hb]⟩;rw[decide_eq_false λh=>hE (hb.symm.trans h.1)]
 have ok:=K6 hE;rw[if_pos hE] at hl;have hB6:=ok.b6;have hB1:=ok.b1;have hnb:=ok.b;have k3:=k3.ext e2;rw[hnb] at k3;obtain⟨_,_,_,_,hxl⟩:=RL.len hx;refine .neqF O O O hE (.go O (.lenR C9 O O (hx.ext x2) (.go O (.fa F9 O O (.ld A5 O O k3 O ?_)))));by_cases hlen:(x.length:Int)<=n.b;rotate_left
 ·have hb:sfE n o x.length=5:=by unfold sfE;rw[if_neg (by simpa using hE),if_neg hlen]
  refine .gtrT O O O (by omega) (.goE O ?_);refine .plain [_,_] results98 ⟨rfl,rfl,trivial⟩ ⟨x2,_,_,rfl,?_,by rw[hb]⟩;rw[decide_eq_false λh=>by rw[hb] at h;exact absurd h.1 (by decide)]
 have hno:sfE n o x.length=0:=by unfold sfE;rw[if_neg (by simpa using hE),if_pos hlen]
 have hxB:x.length<=(A0 n o).B:=by omega
 refine .gtrF O O O (by omega) (.go O (.fa F9 O O (.ld A5 O O k3 O ?_)));refine .make_ _ _ C9 J4 O (by decide) O O O (aA _) (by omega) (by omega) λw3 h n3=>?_;have f3:FB eQ 39 S w3 h (List.replicate (A0 n o).B q0):=FB.made n3 AF1;obtain⟨e3,_,hh,hs3⟩:=n3;rw[<-Ai8] at f3;have hs2:=x2.size;have hx2:=hx.ext x2;have hxT:eV.R (λk=>S k/\k≠h) w2 vx x:=eV.mono (λk _ h=>⟨h.1,by have:=h.2;omega⟩) (ER.lt eV hx2);refine .go O (.lenR C9 O O (ER.ext eV hx2 e3) ?_);generalize hu:(λi j=>B9 i λb=>if (A0 n o).lab b=j then rv x b else 0)=u;refine .goC O (.lp (α:=Nat) [8,10,32,33] O (λi=>[(34,iW (i:Nat))]) (λi W=>Ext w2 W/\i<=x.length/\FB eQ 39 S W h (tab (A0 n o).B (u i))) (λi=>x.length-i) 0 (lc1 O) ⟨e3,aC _,by rw[<-hu];exact f3⟩ ?_);rintro i W ⟨hW,hi,fb⟩;have hWs:=hW.size;have hhl:=fb.lt;refine .go O ?_;rcases aB i x.length with hlt | hge;rotate_left
 ·have:i=x.length:=by omega
  subst this;have hsum:∀ j,u x.length j=B9 (A0 n o).B λb=>if (A0 n o).lab b=j then rv x b else 0:=λj=>by rw[<-hu];exact rv_sum hxB _
  have hbal:(A0 n o).bal (rv x)<->∀ j,j<(A0 n o).B->u x.length j=0:=by rw[Nw.bal_lab];simp only[hsum]
  have hR:eV.R S W (slB (A0 n o).B h) (tab (A0 n o).B (u x.length)):=by have:=fb.toR (hsz:=by decide) (c:=(A0 n o).B) (up h (by omega)) (by rw[A2];exact aA _) (by rw[A2];omega);rw[A2] at this;exact this
  refine .lssF O O O (by omega) (.go O (.len C9 O O ?_));refine .goC O (.lp (α:=Nat) [55,56] O (λj=>[(57,iW (j:Nat))]) (λj W'=>Ext W W'/\j<=(A0 n o).B/\∀ j',j'<j->u x.length j'=0) (λj=>(A0 n o).B-j) 0 (lc1 O) ⟨Ext.refl _,aC _,λ_ h=>absurd h (by omega)⟩ ?_);rintro j W' ⟨hW',hj,hz⟩;refine .go O ?_;rcases aB j (A0 n o).B with hjl | hge;rotate_left
  ·refine .lssF O O O (by omega) (.goE O ?_);refine .plain [_,_] results98 ⟨rfl,rfl,trivial⟩ ⟨x2.trans (hW.trans hW'),_,_,rfl,?_,by rw[hno]⟩;rw[decide_eq_true ⟨hno,hbal.2 λj' hj'=>hz j' (by omega)⟩]
  refine .lssT O O O (by omega) (.go O (.ixN (i:=j) C9 A3 O O (ER.ext eV hR hW') O (H2 hjl) λq hq=>.ldE (E:=eQ) A3 O O hq λy hy=>.alloc O E8 λW2 b14 n2=>?_));obtain⟨e4,k14,hb14,hs4⟩:=n2;refine .storeA (E:=eQ) (S:=λk=>S k/\k<W'.heap.size) A3 O O k14 O O (ER.ext eQ (ER.lt eQ hy) e4) (λh=>by have:=h.2;omega) λW3 k14 u3 hy=>?_;have hyv:=G8 (E:=eQ) O hy;refine .go O (.ldA A3 O O k14 (eQ.csz hy) ?_);rw[<-hyv];refine .call _ O AN4 O (AM5 hy) λv4 W4 e5 h4=>?_;subst h4;rw[C3];have x4:Ext W W4:=hW'.trans (Ext.trans (u3.below e4 (by omega)) e5);by_cases h0:u x.length j=0
  ·rw[h0];refine .neqF O O O (by decide) (.go O (.inc O O O (by omega) (.goN O (.mk (j+1) O (lc1 O) ⟨⟨x4,hjl,λj' hj'=>?_⟩,by show (A0 n o).B-(j+1)<(A0 n o).B-j;omega⟩))));by_cases e:j'=j
   ·rw[e];exact h0
   ·exact hz j' (by omega)
  ·refine .neqT O O O (λh=>h0 (AI8.1 h)) (.goE O ?_);refine .plain [_,_] results98 ⟨rfl,rfl,trivial⟩ ⟨x2.trans (hW.trans x4),_,_,rfl,?_,by rw[hno]⟩;rw[decide_eq_false λh=>h0 (hbal.1 h.2 j hjl)]
 have hib:i<(A0 n o).B:=by omega
 have hlab:(A0 n o).lab i<(A0 n o).B:=bI ((A0 n o).lab_le i) hib;have hxi:x[i]?=some (x.getD i q0):=B0 hlt;have hqi:=hkx.get hL1 i;have hus:∀ i,i<=6->∀ j,Rsz (u i j) (1+6*(L+1)):=λi hi j=>by
  rw[<-hu];refine (Aj0 (L:=L) λb _=>?_).mono (by have:=bO (L+1) hi;omega);split
  ·exact hkx.rsz hL1 b
  ·exact Rsz.zero hL1
 refine .lssT O O O (by omega) (.go O (.ixN (i:=i) C9 A3 O O (ER.ext eV hxT hW) O hxi λq hq=>.ldE (E:=eQ) A3 O O hq λy hy=>.alloc O E8 λW1 b12 n1'=>.go O ?_));obtain⟨g1,k12,hb12,hs1'⟩:=n1';refine .storeA (E:=eQ) (S:=λk=>(S k/\k≠h)/\k<W.heap.size) A3 O O k12 O O (ER.ext eQ (ER.lt eQ hy) g1) (λh=>by have:=h.2;omega) λW2 k12 u2 hy=>?_;have hs2':=u2.size;have fb:=fb.new g1 u2 (by omega);have hW2:Ext w2 W2:=u2.below (hW.trans g1) (by omega);have hyv:=G8 (E:=eQ) O hy;have hy:eQ.R (λk=>S k/\k≠h) W2 y _:=eQ.mono (λ_ _ h=>h.1) hy;have upT:∀ {W':World},W2.heap.size<=W'.heap.size->Up (λk=>S k/\k≠h) W':=λhs k' hk'=>⟨up k' (by omega),by omega⟩;refine .goC O ?_;refine .par follows 14 [.inl (slB (A0 n o).B h),.inl vl,.inl (iW (i:Nat)),.inr (Ptr (B8 .i64) S (((A0 n o).lab i):Nat)),.inl (iW (((A0 n o).lab i):Nat)),.inl (slB (A0 n o).B h),.inl vl,.inl (iW (i:Nat)),.inr (Ptr (B8 .i64) S (((A0 n o).lab i):Nat)),.inl (iW (((A0 n o).lab i):Nat)),.inl (.pointer (some ⟨h,0+((A0 n o).lab i)*4,none⟩)),.inr (eQ.at (λk=>S k/\k≠h) (qc (u i ((A0 n o).lab i)))),.inl y,.inr (eQ.at (λk=>S k/\k≠h) (qc (u i ((A0 n o).lab i)+rv x i)))] [[],[],[],[(40,1),(41,2)],[(42,3)],[],[],[],[(45,6),(46,7)],[(47,8)],[(44,5),(48,9)],[(49,10)],[],[(50,11),(51,12)]] (by kernel_rfl) ⟨mvo O,mvo O,mvo O,λw e=>C4 (i:=i) C5 B5 O (ER.ext eI (ER.ext eI hl hW2) e) O (Z1 hib),λw e x3 hx3=>F7 B5 O hx3,mvo O,mvo O,mvo O,λw e=>C4 (i:=i) C5 B5 O (ER.ext eI (ER.ext eI hl hW2) e) O (Z1 hib),λw e x8 hx8=>F7 B5 O hx8,λw e=>(G6 (i:=((A0 n o).lab i)) C9 A3 O O hlab).ob,λw e=>AJ8 (E:=eQ) (i:=((A0 n o).lab i)) (by decide) A3 O (aD _) (fb.ext e) (H2 hlab),λw e=>((E1 A3 O (k12.ext e) (eQ.csz hy)).eq hyv.symm).ob,λw e x11 hx11=>by have:=AK2 (L:=1+6*(L+1)) (upT e.size) hx11 (ER.ext eQ hy e) (hus i (by omega) _).toOk (hqi.1.mono (by omega)) (by omega) (by omega);rw[C3] at this;exact (A4 _ AK6 O this).oa,trivial⟩ ?_
 intro X0 g0 _ _ _ _ _ _ y0 hy0;refine .ixB (i:=(A0 n o).lab i) C9 A3 O O O hlab (.storeF (E:=eQ) (i:=(A0 n o).lab i) (by decide) A3 O O (fb.ext g0) O (by rw[A2];exact hlab) (aD _) hy0 λY0 fy0 uy0=>?_);have hstep:(tab (A0 n o).B (u i)).set ((A0 n o).lab i) (qc (u i ((A0 n o).lab i)+rv x i))=tab (A0 n o).B (u (i+1)):=by
  rw[AB1];refine F5 λj _=>?_;rw[<-hu];show _=B9 i _+_;dsimp only;by_cases e:j=(A0 n o).lab i
  ·rw[if_pos e,if_pos e.symm,e]
  ·rw[if_neg e,if_neg (Ne.symm e)];grind
 rw[hstep] at fy0;exact .go O (.inc O O O (by omega) (.goN O (.mk (i+1) O (lc1 O) ⟨⟨uy0.below (hW2.trans g0) (by omega),hlt,fy0⟩,by show x.length-(i+1)<x.length-i;omega⟩)))
open Classical in
noncomputable def anE (n:NtV) (o:List Int) (x:List QV):Int:=if sfE n o x.length≠0 then sfE n o x.length else if (A0 n o).bal (rv x) then 0 else 10
theorem Bf3(h:anE n o x=0):sfE n o x.length=0/\(A0 n o).bal (rv x):=by
 unfold anE at h;split at h
 ·exact absurd h (by assumption)
 ·split at h
  ·exact⟨Classical.not_not.1 (by assumption),by assumption⟩
  ·cases h
theorem CA8(h:C8 n o=0)(hx:(x.length:Int)<=n.b)(hb:(A0 n o).bal (rv x)):anE n o x=0:=by
 have:sfE n o x.length=0:=by unfold sfE;rw[if_neg (by simpa using h),if_pos hx]
 unfold anE;rw[if_neg (by simpa using this),if_pos hb]
theorem CA7(ok:nwOk n o){r:List QV}(hr:r.length=(A0 n o).B)(hx:∀ b,b<(A0 n o).B->rv r b=(A0 n o).inj0 (rv x) b):L9 (A0 n o).gA r/\tab (A0 n o).B (rv (AN9 (A0 n o).gA r))=tab (A0 n o).B ((A0 n o).an (rv x)):=by have hs:L9 (A0 n o).gA r:=Bx6 (by rw[AM4 ok.b1,L6]) (BP6 ok.ok ok.b1) λi hi=>Af5 (by rw[L6] at hi;omega);refine⟨hs,F5 λc hc=>?_⟩;rw[<-inv_sol (by rw[AM4 ok.b1,L6]) (BP6 ok.ok ok.b1) hs (by rw[L6];exact hc),L6];unfold Nw.an;refine A9 λb hb=>?_;rw[hx b hb];rfl
theorem BQ8(ok:nwOk n o){x:Nat->Rat}(hL:1<=L)(hx:∀ b,Rsz (x b) L)(c:Nat):Rsz ((A0 n o).an x c) (1+6*(87381+L+1)):=by
 unfold Nw.an;refine (Aj0 (L:=87381+L) λb _=>(Bs4 ok b c).mul ?_).mono (by have:=bO (87381+L+1) ok.b6;omega);unfold Nw.inj0;split
 ·exact Rsz.zero hL
 ·exact hx b
theorem BI6:Ent prog 57:=en func57
open Classical in
theorem BH1(up:Up S w)(upo:Up T0 w)(hn:eN.R S w vn n)(ho:eI.R S w vo o)(hx:eV.R S w vx x)(hkx:vk L x)(hL1:1<=L)(hL:L<=9000) :
  CR prog 57 #[vn,vo,vx] w (Two (eV.at T0 (if anE n o x=0 then tab (A0 n o).B ((A0 n o).an (rv x)) else [])) (Is (iW (anE n o x)))):=by
 obtain⟨s,rfl,hs,hb⟩:=hn;have hn:eN.R S w (.agg #[iW n.b,s]) n:=⟨s,rfl,hs,hb⟩;refine enter func57 O ntmps57 O (.beg (.go O (.box O O λw1 b3 n1=>?_)));obtain⟨e1,k3,hb3,hs1⟩:=n1;refine .go O (.ldA G2 O O k3 O (.go O ?_));refine .call _ O Av6 O (Au6 (up.ext e1.size) (hn.ext e1) (ho.ext e1) (ER.ext eV hx e1) hkx hL1 (by omega)) λv2 w2 e2 h2=>?_;obtain⟨vb,ve,rfl,rfl,rfl⟩:=h2;have x2:=e1.trans e2;refine .go O ?_;by_cases hE:sfE n o x.length=0;rotate_left
 ·have hb:anE n o x=sfE n o x.length:=by unfold anE;rw[if_pos hE]
  refine .neqT O O O hE (.goE O ?_);refine .plain [_,_] results57 ⟨rfl,rfl,trivial⟩ ⟨x2,_,_,rfl,?_,by rw[hb]⟩;rw[if_neg (by rw[hb];exact hE)];exact RL.nil
 by_cases hB:(A0 n o).bal (rv x);rotate_left
 ·have hb:anE n o x=10:=by unfold anE;rw[if_neg (by simpa using hE),if_neg hB]
  rw[decide_eq_false λh=>hB h.2];refine .neqF O O O hE (.goE O ?_);refine .plain [_,_] results57 ⟨rfl,rfl,trivial⟩ ⟨x2,_,_,rfl,?_,by rw[hb]⟩;rw[if_neg (by rw[hb];decide)];exact RL.nil
 have hno:anE n o x=0:=by unfold anE;rw[if_neg (by simpa using hE),if_pos hB]
 rw[decide_eq_true ⟨hE,hB⟩,if_pos hno];obtain⟨hO,hxb⟩:=BM8 hE;have ok:=K6 hO;have hB6:=ok.b6;have hB1:=ok.b1;have hnb:=ok.b;refine .neqF O O O hE (.go O (.ldA G2 O O (k3.ext e2) O (.go O ?_)));refine .call _ O Aq2 O (Ao6 (up.ext x2.size) (hn.ext x2) (ho.ext x2)) λv4 w4 e4 h4=>?_;obtain⟨vm,ve,rfl,hm,rfl⟩:=h4;rw[if_pos hO] at hm;obtain⟨gb,hs0,rfl,hgb,hge,hM⟩:=hm;have x4:=x2.trans e4;have hs2:=x2.size;have hs4:=e4.size;have hglt:=hM.out.lt;have hk3:=k3.lt;have hF:FB eV 26 S w4 gb (C6 (A0 n o).B (A0 n o).B (A0 n o).Lm):=hM.toFB (λk hk=>up k (by have:=hge k hk;omega)) (by omega);have old:∀ {α:Type} (E:ER α) {v:Value} {y:α},E.R S w v y->E.R (λk=>S k/\k≠gb) w4 v y:=λE v y h=>E.mono (λk _ h=>⟨h.1,by have:=h.2;omega⟩) (ER.ext E (ER.lt E h) x4);have k3:=k3.ext (e2.trans e4);refine .go O (.neqF O O O hO (.go O (.ldA G2 O O k3 O (.go O ?_))));refine .call _ O AP2 O (AO4 (S:=λk=>S k/\k≠gb) (λk hk=>⟨up k (by omega),by omega⟩) (old eN hn) (old eI ho)) λv5 w5 e5 h5=>?_;obtain⟨vr,ve,rfl,hr,he⟩:=h5;replace he:ve=.int .i64 0:=by rw[he,hO]
 subst he;rw[if_pos hO] at hr;have hs5:=e5.size;have k3:=k3.ext e5;refine .go O (.neqF O O O O (.go O (.fa F9 O O (.ld A5 O O k3 O ?_))));rw[hnb];refine .call _ O AI4 O (AR5 (S:=λk=>S k/\k≠gb) (λk hk=>⟨up k (by omega),by omega⟩) (ER.ext eV (old eV hx) e5) hkx hL1 (by omega)) λv6 w6 e6 h6=>?_;obtain⟨h6,_⟩ | ⟨_,gr,N6,hN6,hgr,rfl,fr⟩:=h6
 ·omega
 have hNB:N6=(A0 n o).B:=by omega
 subst hNB;have hs6:=e6.size;have hgrl:=fr.lt;have x6:=x4.trans (e5.trans e6);have k3:=k3.ext e6;have hF:FB eV 26 (λk=>S k/\k≠gr) w6 gb (C6 (A0 n o).B (A0 n o).B (A0 n o).Lm):=(hF.mono (S':=λk=>S k/\k≠gr) λk hk h=>⟨h,by omega⟩).ext (e5.trans e6);have hr:eI.R (λk=>(S k/\k≠gb)/\k≠gr) w6 vr (A7 (A0 n o).refs):=ER.ext eI (eI.mono (λk _ h=>⟨h.1,by have:=h.2;omega⟩) (ER.lt eI hr)) e6;have hrW:∀ {W:World},Chg (λk=>k=gb\/k=gr) w6 W->eI.R (λk=>(S k/\k≠gb)/\k≠gr) W vr (A7 (A0 n o).refs):=λhC=>eI.keep (hC.kp λk hk h=>h.elim (λe=>hk.1.2 e) λe=>hk.2 e) hr;have hkW:∀ {W:World},Chg (λk=>k=gb\/k=gr) w6 W->Blk W b3 24 #[iW n.b,s]:=λhC=>hC.blk k3 λh=>by have:=hb3;have:=e2.size;rcases h with h | h<;>omega
 rw[hnb] at hkW;have hrl:(A0 n o).refs.length<=(A0 n o).B:=(A0 n o).cnt_le (A0 n o).B;refine .go O (.lenR C5 O O hr ?_);rw[show (A7 (A0 n o).refs).length=(A0 n o).refs.length by simp];generalize hG:(λi=>λb c=>if b∈(A0 n o).refs.take i then dl b c else (A0 n o).Lm b c:Nat->RM)=G;generalize hY:(λi=>λb=>if b∈(A0 n o).refs.take i then 0 else rv x b:Nat->Nat->Rat)=Y;refine .goC O (.lp (α:=Nat) [3,9,10,12,51,52] O (λi=>[(53,iW (i:Nat))]) (λi W=>i<=(A0 n o).refs.length/\Chg (λk=>k=gb\/k=gr) w6 W/\FB eV 26 (λk=>S k/\k≠gr) W gb (C6 (A0 n o).B (A0 n o).B (G i))/\FB eQ 39 (λk=>S k/\k≠gb) W gr (tab (A0 n o).B (Y i))) (λi=>(A0 n o).refs.length-i) 0 (lc1 O) ⟨aC _,Chg.refl _,by rw[<-hG];simpa using hF,by rw[<-hY];simpa using fr⟩ ?_);clear hF fr;rintro i W ⟨hi,hC,hF,fr⟩;have hCs:=hC.size;refine .go O ?_;rcases aB i (A0 n o).refs.length with hlt | hge;rotate_left
 ·have:i=(A0 n o).refs.length:=by omega
  subst this;have hmem:∀ b,b<(A0 n o).B->(b∈(A0 n o).refs.take (A0 n o).refs.length<->(A0 n o).root b=b):=λb hb=>by rw[aK (aA _),Nw.mem_refs];exact⟨λh=>h.2,λh=>⟨hb,h⟩⟩
  have hA:C6 (A0 n o).B (A0 n o).B (G (A0 n o).refs.length)=(A0 n o).gA:=E7 λb c hb _=>by
   rw[<-hG];unfold Nw.gm;dsimp only;by_cases h:(A0 n o).root b=b
   ·rw[if_pos h,if_pos ((hmem b hb).2 h)]
   ·rw[if_neg h,if_neg λh'=>h ((hmem b hb).1 h')]
  rw[hA] at hF;have hRm:eM.R S W (slB (A0 n o).B gb) (A0 n o).gA:=by have:=(hF.mono (S':=S) λk _ h=>h.1).toR (hsz:=by decide) (c:=(A0 n o).B) (up gb (by omega)) (by rw[L6];exact aA _) (by rw[L6];omega);rw[L6] at this;exact this
  have hRr:eV.R S W (slB (A0 n o).B gr) (tab (A0 n o).B (Y (A0 n o).refs.length)):=by have:=(fr.mono (S':=S) λk _ h=>h.1).toR (hsz:=by decide) (c:=(A0 n o).B) (up gr (by omega)) (by rw[A2];exact aA _) (by rw[A2];omega);rw[A2] at this;exact this
  have hxW:Ext w W:=hC.below x6 (by omega) (λk hk=>by omega);obtain⟨hsv,hsol⟩:=CA7 ok (r:=tab (A0 n o).B (Y (A0 n o).refs.length)) (x:=x) (A2 ..) λb hb=>by
   rw[L4,if_pos hb,<-hY];unfold Nw.inj0;dsimp only;by_cases h:(A0 n o).root b=b
   ·rw[if_pos h,if_pos ((hmem b hb).2 h)]
   ·rw[if_neg h,if_neg λh'=>h ((hmem b hb).1 h')]
  have hkY:vk (max 21 L) (tab (A0 n o).B (Y (A0 n o).refs.length)):=T7 λb _=>by
   rw[<-hY];dsimp only;split
   ·exact Rsz.zero (by omega)
   ·exact (hkx.rsz hL1 b).mono (by omega)
  refine .lssF O O O (by omega) (.go O ?_);refine .call _ O BH6 O (BF6 (L:=max 21 L) (n:=6) (up.ext hxW.size) hRm hRr ((BX1 ok).mono (by omega)) hkY (by omega) (by rw[L6];omega) (by rw[A2];omega) (by rw[AM4 hB1];omega) (by rw[L6,A2];omega) (by rw[bd6];omega)) λv7 w7 e7 h7=>?_;obtain⟨va,vz,ve,rfl,ha,_,rfl⟩:=h7;rw[if_pos hsv] at ha;rw[if_pos hsv];have k3W:=(hkW hC).ext e7;have hka:vk 600000 (AN9 (A0 n o).gA (tab (A0 n o).B (Y (A0 n o).refs.length))):=by
   have h1:AN9 (A0 n o).gA (tab (A0 n o).B (Y (A0 n o).refs.length))=tab (A0 n o).B (rv (AN9 (A0 n o).gA (tab (A0 n o).B (Y (A0 n o).refs.length)))):=by unfold AN9;rw[AM4 hB1];exact F5 λk hk=>by rw[L4,if_pos hk]
   rw[h1,hsol];exact T7 λc _=>(BQ8 ok hL1 (λb=>hkx.rsz hL1 b) c).mono (by omega)
  refine .go O (.neqF O O O O (.go O (.fa F9 O O (.ld A5 O O k3W O ?_))));refine .call _ O AI4 O (Ai1 (up.ext (hxW.trans e7).size) (upo.ext (hxW.trans e7).size) ha hka (by decide) (by decide)) λv8 w8 e8 h8=>.goE O ?_;have h8:=Bt9 (B:=(A0 n o).B) h8 (upo.ext (hxW.trans e7).size) hB1 (by omega);rw[hsol] at h8;exact .plain [_,_] results57 ⟨rfl,rfl,trivial⟩ ⟨(hxW.trans e7).trans e8,_,_,rfl,h8,by rw[hno]⟩
 have hgr':(A7 (A0 n o).refs)[i]?=some (((A0 n o).refs.getD i 0:Nat):Int):=by rw[aI,B0 (z:=0) hlt];rfl
 have hrB:(A0 n o).refs.getD i 0<(A0 n o).B:=(Nw.mem_refs.1 (H6 hlt)).1;have htk:(A0 n o).refs.take (i+1)=(A0 n o).refs.take i++[(A0 n o).refs.getD i 0]:=by rw[cA,B0 (z:=0) hlt];rfl
 refine .lssT O O O (by omega) (.go O (.ixN (i:=i) C5 B5 O O (hrW hC) O hgr' λq hq=>.ldE (E:=B8 .i64) B5 O O hq λe he=>?_));obtain⟨rfl,_⟩:=he;generalize hb0:(A0 n o).refs.getD i 0=b at hrB htk;refine .go O (.fa F9 O O (.ld A5 O O (hkW hC) O (.go O ?_)));refine .call _ O Bf5 O (Bb0 (S:=λk=>(S k/\k≠gr)/\k≠gb) λk hk=>⟨⟨up k (by omega),by omega⟩,by omega⟩) λv7 W1 e7 h7=>?_;rw[show (min (((A0 n o).B:Nat):Int) 65536).toNat=(A0 n o).B by omega] at h7;have hs7:=e7.size;refine .go O (.ixB (i:=b) E4 C2 O O O hrB (.storeF (E:=eV) (i:=b) (by decide) C2 O O (hF.ext e7) O (by rw[A8];exact hrB) (aD _) h7 λW2 f2 u2=>?_));have hs2':=u2.size;have fr:=(fr.ext e7).upd u2 (by omega) λh=>h.2 rfl;refine .go O (.bld _ O O AC4 (.ixB (i:=b) C9 A3 O O O hrB (.storeF (E:=eQ) (i:=b) (by decide) A3 O O fr O (by rw[A2];exact hrB) (aD _) (AF1 (S:=λk=>(S k/\k≠gb)/\k≠gr)) λW3 f3 u3=>?_)));have f2:=f2.upd u3 (by omega) λh=>h.2 rfl;rw[R5 hrB] at f2;rw[<-Q7,AB1] at f3;have hm:∀ b',b'∈(A0 n o).refs.take (i+1)<->b'∈(A0 n o).refs.take i\/b'=b:=λb'=>by rw[htk,eJ,gQ]
 have hs1:C6 (A0 n o).B (A0 n o).B (λj k=>if j=b then uni (b:Nat) k else G i j k)=C6 (A0 n o).B (A0 n o).B (G (i+1)):=E7 λj c _ _=>by
  rw[<-hG];dsimp only;by_cases e:j=b
  ·rw[if_pos e,if_pos ((hm j).2 (.inr e)),e,uni_dl]
  ·rw[if_neg e];by_cases h:j∈(A0 n o).refs.take i
   ·rw[if_pos h,if_pos ((hm j).2 (.inl h))]
   ·rw[if_neg h,if_neg λh'=>((hm j).1 h').elim h e]
 have hs2:(tab (A0 n o).B λj=>if j=b then 0 else Y i j)=tab (A0 n o).B (Y (i+1)):=F5 λj _=>by
  rw[<-hY];dsimp only;by_cases e:j=b
  ·rw[if_pos e,if_pos ((hm j).2 (.inr e))]
  ·rw[if_neg e];by_cases h:j∈(A0 n o).refs.take i
   ·rw[if_pos h,if_pos ((hm j).2 (.inl h))]
   ·rw[if_neg h,if_neg λh'=>((hm j).1 h').elim h e]
 rw[hs1] at f2;rw[hs2] at f3;exact .go O (.inc O O O (by omega) (.goN O (.mk (i+1) O (lc1 O) ⟨⟨hlt,((hC.trans (Chg.ext e7)).trans (Chg.upd u2 (.inl O))).trans (Chg.upd u3 (.inr O)),f2,f3⟩,by show (A0 n o).refs.length-(i+1)<(A0 n o).refs.length-i;omega⟩)))
theorem BH2(up:Up S w)(hn:eN.R S w vn n)(ho:eI.R S w vo o)(hx:eV.R S w vx x)(hkx:vk L x)(hL1:1<=L)(hL:L<=9000) :
  CR prog 57 #[vn,vo,vx] w (Two (eV.at S (if anE n o x=0 then tab (A0 n o).B ((A0 n o).an (rv x)) else [])) (Is (iW (anE n o x)))):=BH1 up up hn ho hx hkx hL1 hL
theorem BS2:Ent prog 19:=en func19
theorem BP7(up:Up S w)(upo:Up T0 w)(hn:eN.R S w vn n)(ho:eI.R S w vo o)(hx:eV.R S w vx x)(hkx:vk L x)(hL1:1<=L)(hL:L<=9000) :
  CR prog 19 #[vn,vo,vx] w (Two (eV.at T0 (if anE n o x=0 then tab n.ls.length ((A0 n o).fl ((A0 n o).an (rv x))) else [])) (Is (iW (anE n o x)))):=by
 obtain⟨s,rfl,hs,hb⟩:=hn;have hn:eN.R S w (.agg #[iW n.b,s]) n:=⟨s,rfl,hs,hb⟩;refine enter func19 O ntmps19 O (.beg (.go O (.box O O λw1 b3 n1=>?_)));obtain⟨e1,k3,hb3,hs1⟩:=n1;refine .go O (.ldA G2 O O k3 O (.go O (.call _ O BI6 O (BH2 (up.ext e1.size) (hn.ext e1) (ho.ext e1) (ER.ext eV hx e1) hkx hL1 hL) λv2 w2 e2 h2=>?_)));obtain⟨va,ve,rfl,ha,rfl⟩:=h2;have x2:=e1.trans e2;refine .go O ?_;by_cases hE:anE n o x=0;rotate_left
 ·refine .neqT O O O hE (.goE O (.plain [_,_] results19 ⟨rfl,rfl,trivial⟩ ⟨x2,_,_,rfl,?_,rfl⟩));rw[if_neg hE];exact RL.nil
 rw[if_pos hE] at ha ⊢;obtain⟨hS,_⟩:=Bf3 hE;obtain⟨hO,_⟩:=BM8 hS;have ok:=K6 hO;have hB6:=ok.b6;have hnb:=ok.b;have hka:vk 600000 (tab (A0 n o).B ((A0 n o).an (rv x))):=T7 λc _=>(BQ8 ok hL1 (λb=>hkx.rsz hL1 b) c).mono (by omega);refine .neqF O O O hE (.go O (.ldA G2 O O (k3.ext e2) O (.go O (.call _ O An1 O (Al2 (up.ext x2.size) (upo.ext x2.size) (hn.ext x2) (ho.ext x2) ha hka (by decide) (by decide)) λv3 w3 e3 h3=>?_))));obtain⟨vf,ve,rfl,hf,rfl⟩:=h3;have hsf:sfE n o (tab (A0 n o).B ((A0 n o).an (rv x))).length=0:=by unfold sfE;rw[if_neg (by simpa using hO),if_pos (by rw[A2];omega)]
 rw[if_pos hsf] at hf;rw[hsf];have hfl:tab n.ls.length ((A0 n o).fl (rv (tab (A0 n o).B ((A0 n o).an (rv x)))))=tab n.ls.length ((A0 n o).fl ((A0 n o).an (rv x))):=F5 λk hk=>by unfold Nw.fl;rw[L4,L4,if_pos (ok.f k hk),if_pos (ok.t k hk)]
 rw[hfl] at hf;exact .goE O (.plain [_,_] results19 ⟨rfl,rfl,trivial⟩ ⟨x2.trans e3,_,_,rfl,hf,by rw[hE]⟩)
instance (n:Nw) (k:Nat):Decidable (n.brg k):=inferInstanceAs (Decidable (_≠_))
section
variable {n:NtV} {o u:List Int}
theorem Aa8 (h:AB5 n o):o.Pairwise (·<·)/\∀ x∈o,0<=x/\x<n.ls.length:=by
 refine⟨List.pairwise_iff_getElem.2 λi j hi hj hij=>?_,λx hx=>?_⟩
 ·have:=AQ1 h (j-i) i (by omega);rw[show i+(j-i)=j by omega,aF,aF,aE hi,aE hj] at this;simp only[gT] at this;omega
 ·obtain⟨i,hi,rfl⟩:=List.mem_iff_getElem.1 hx;have:=h i hi;rw[aF,aE hi] at this;exact⟨this.1,this.2.1⟩
theorem Bm7 (hp:u.Pairwise (·<·)) (hx:∀ x∈u,0<=x/\x<n.ls.length):AB5 n u:=λi hi=>by
 have h1:=hx _ (eD hi)
 rw[aF,aE hi]
 refine⟨h1.1,h1.2,λh0=>?_⟩
 rw[aF,aE (by omega:i-1<u.length)]
 exact List.pairwise_iff_getElem.1 hp (i-1) i (by omega) hi (by omega)
theorem Bh9 (hO:C8 n o=0) (hp:u.Pairwise (·<·)) (hx:∀ x∈u,0<=x/\x<n.ls.length):C8 n u=0:=by obtain⟨hc,_⟩:=Z2 hO;unfold C8;rw[if_neg (by simpa using hc),if_pos (Bm7 hp hx)]
theorem Bw1 {k:Nat} (hm:∀ j,j∈oN u<->j=k\/j∈oN o):A0 n u=(A0 n o).cut k:=by
 have:(λj=>if j∈oN u then (0:Rat) else ((n.ls.getD j ln0).x:Rat)⁻¹)=λj=>if j=k then 0 else if j∈oN o then (0:Rat) else ((n.ls.getD j ln0).x:Rat)⁻¹:=by
  funext j;by_cases h:j=k
  ·rw[if_pos ((hm j).2 (.inl h)),if_pos h]
  ·rw[if_neg h];by_cases h2:j∈oN o
   ·rw[if_pos ((hm j).2 (.inr h2)),if_pos h2]
   ·rw[if_neg h2,if_neg λh'=>((hm j).1 h').elim h h2]
 show Nw.mk _ _ _ _ _=Nw.mk _ _ _ _ _;rw[this];rfl
theorem Bd2 {k:Nat} (hO:C8 n o=0) (hk:k<n.ls.length) (h:Ins o (k:Nat) u):C8 n u=0/\A0 n u=(A0 n o).cut k:=by
 have hp:=Aa8 (Z2 hO).2;have hx:∀ x∈u,0<=x/\x<n.ls.length:=λx hx=>by
  rcases (h.mem x).1 hx with rfl | h1
  ·omega
  ·exact hp.2 x h1
 refine⟨Bh9 hO h.inc hx,Bw1 λj=>?_⟩;unfold oN;rw[eG,eG];constructor
 ·rintro⟨x,hxu,rfl⟩;rcases (h.mem x).1 hxu with rfl | h1
  ·exact .inl (by simp)
  ·exact .inr ⟨x,h1,rfl⟩
 ·rintro (rfl | ⟨x,hxo,rfl⟩)
  ·exact⟨_,(h.mem _).2 (.inl O),by simp⟩
  ·exact⟨x,(h.mem x).2 (.inr hxo),rfl⟩
theorem g_in2 (ok:nwOk n o) {k:Nat} (hk:k<n.ls.length) (h:k∉oN o):(A0 n o).g k≠0:=by
 have hx:=ok.x k hk;show (if k∈oN o then (0:Rat) else ((n.ls.getD k ln0).x:Rat)⁻¹)≠0;rw[if_neg h];intro h;have h3:(((n.ls.getD k ln0).x:Int):Rat)≠0:=by intro h;have:=Rat.intCast_inj.1 (h.trans Rat.intCast_zero.symm);omega
 have:=fD _ h3;rw[h,aW] at this;exact absurd this (by decide)
theorem Aa9 {k:Nat} (h:k∉oN o):((k:Nat):Int)∉o:=λh'=>h (List.mem_map.2 ⟨_,h',by simp⟩)
theorem BA2 (hO:C8 n o=0):o.length<=n.ls.length:=by
 have h:=(Z2 hO).2;rcases aU o.length with h0 | h0
 ·omega
 ·have h1:=AQ1 h (o.length-1) 0 (by omega);have h2:=h (o.length-1) (by omega);have h3:=h 0 h0;rw[show 0+(o.length-1)=o.length-1 by omega] at h1;omega
end
theorem Bl3:Ent prog 51:=en func51
theorem Bl4(up:Up S w)(hn:eN.R S w vn n)(ho:eI.R S w vo o) :
  CR prog 51 #[vn,vo] w (Two (Is (iW (if C8 n o=0 then ((A0 n o).refs.length:Nat) else 0))) (Is (iW (C8 n o)))):=by
 obtain⟨s,rfl,hs,hb⟩:=hn;have hn:eN.R S w (.agg #[iW n.b,s]) n:=⟨s,rfl,hs,hb⟩;refine enter func51 O ntmps51 O (.beg (.go O (.box O O λw1 b2 n1=>?_)));obtain⟨e1,k2,hb2,hs1⟩:=n1;refine .go O (.ldA G2 O O k2 O (.go O (.call _ O AP2 O (AO4 (up.ext e1.size) (hn.ext e1) (ho.ext e1)) λv2 w2 e2 h2=>?_)));obtain⟨vr,ve,rfl,hr,he⟩:=h2;subst he;have x2:=e1.trans e2;refine .go O ?_;by_cases hO:C8 n o=0;rotate_left
 ·exact .neqT O O O hO (.goE O (.plain [_,_] results51 ⟨rfl,rfl,trivial⟩ ⟨x2,_,_,rfl,by rw[if_neg hO],rfl⟩))
 rw[if_pos hO] at hr;refine .neqF O O O hO (.go O (.lenR C5 O O hr ?_));rw[show (A7 (A0 n o).refs).length=(A0 n o).refs.length by simp];exact .goE O (.plain [_,_] results51 ⟨rfl,rfl,trivial⟩ ⟨x2,_,_,rfl,by rw[if_pos hO],by rw[hO]⟩)
def brL (n:NtV) (o:List Int):List Nat:=(inL n o).filter λk=>decide ((A0 n o).brg k)
theorem Bq6:Ent prog 14:=en func14
theorem Bq9(up:Up S w)(hn:eN.R S w vn n)(ho:eI.R S w vo o) :
  CR prog 14 #[vn,vo] w (Two (eI.at S (if C8 n o=0 then A7 (brL n o) else [])) (Is (iW (C8 n o)))):=by
 obtain⟨s,rfl,hs,hb⟩:=hn;have hn:eN.R S w (.agg #[iW n.b,s]) n:=⟨s,rfl,hs,hb⟩;refine enter func14 O ntmps14 O (.beg (.go O (.box O O λw1 b2 n1=>?_)));obtain⟨e1,k2,hb2,hs1⟩:=n1;replace k2:Blk w1 b2 24 #[iW n.b,s]:=k2;refine .go O (.ldA G2 O O k2 O (.go O ?_));refine .call _ O AR3 O (AQ2 (up.ext e1.size) (hn.ext e1) (ho.ext e1)) λv2 w2 e2 h2=>?_;obtain⟨vl,ve,rfl,hl,he⟩:=h2;replace he:ve=.int .i64 (C8 n o):=he;subst he;have x2:=e1.trans e2;have k2:=k2.ext e2;refine .go O ?_;by_cases hO:C8 n o=0;rotate_left
 ·refine .neqT O O O hO (.goE O (.plain [_,_] results14 ⟨rfl,rfl,trivial⟩ ⟨x2,_,_,rfl,?_,rfl⟩));rw[if_neg hO];exact RL.nil
 have ok:=K6 hO;have hM10:n.ls.length<=10:=ok.m;have hll:=AE6 n o;have hpw:=Aa8 (Z2 hO).2;have hol:=BA2 hO;rw[if_pos hO] at hl ⊢;refine .neqF O O O hO (.go O (.ldA G2 O O k2 O (.go O ?_)));refine .call _ O Bl3 O (Bl4 (up.ext x2.size) (hn.ext x2) (ho.ext x2)) λv3 w3 e3 h3=>?_;obtain⟨vc,ve,rfl,hc,he⟩:=h3;replace he:ve=.int .i64 (C8 n o):=he;replace hc:vc=.int .i64 (if C8 n o=0 then ((A0 n o).refs.length:Nat) else 0):=hc;rw[if_pos hO] at hc;subst he hc;have x3:=x2.trans e3;have k2:=k2.ext e3;have hl:=ER.ext eI hl e3;have z3:=x3.size;refine .go O (.neqF O O O hO (.go O (.lenR C5 O O hl (.goC O ?_))));rw[show (A7 (inL n o)).length=(inL n o).length by simp];generalize hP:(λk=>decide ((A0 n o).brg k))=P;have hbr:brL n o=(inL n o).filter P:=by rw[<-hP];rfl
 rw[hbr];refine .lp (α:=Nat×Value) [1,2,8,33,34] O (λy=>[(9,y.2),(35,iW (y.1:Nat))]) (λy W=>Ext w3 W/\y.1<=(inL n o).length/\B4 (B8 .i64) 3 w3.heap.size S W y.2 (A7 (((inL n o).take y.1).filter P))) (λy=>(inL n o).length-y.1) (0,.slice none 0 0) (lc2 O O) ⟨Ext.refl _,aC _,B4.nil⟩ ?_;rintro⟨i,v⟩ W ⟨hW,hi,hown⟩;replace hW:Ext w3 W:=hW;replace hi:i<=(inL n o).length:=hi;replace hown:B4 (B8 .i64) 3 w3.heap.size S W v (A7 (((inL n o).take i).filter P)):=hown;have hlW:=ER.ext eI hl hW;have xW:=x3.trans hW;have zW:=hW.size;refine .go O ?_;rcases aB i (inL n o).length with hlt | hge;rotate_left
 ·have:i=(inL n o).length:=by omega
  subst this;rw[aK (aA _)] at hown;exact .lssF O O O (by omega) (.goE O (.plain [_,_] results14 ⟨rfl,rfl,trivial⟩ ⟨xW,_,_,rfl,hown.toR (λk hk=>up k (by omega)) (λ_ h=>h),by rw[hO]⟩))
 obtain⟨hgk,hkM,hko⟩:=AM3 hlt;have htk:(inL n o).take (i+1)=(inL n o).take i++[(inL n o).getD i 0]:=by rw[cA,B0 (z:=0) hlt];rfl
 have hfl:(((inL n o).take i).filter P).length<=10:=aG (dO ..) (by rw[cI];omega);generalize (inL n o).getD i 0=k at hgk hkM hko htk;have hgk0:=g_in2 ok hkM hko;refine .lssT O O O (by omega) (.go O (.ixN (i:=i) C5 B5 O O hlW O hgk λq hq=>.ldE (E:=B8 .i64) B5 O O hq λe he=>.go O ?_));obtain⟨rfl,_⟩:=he;refine .bsl _ O O S7 λW1 b1 n1=>?_;have hk1:eI.R S W1 (.slice (some ⟨b1,0,none⟩) 1 1) [((k:Nat):Int)]:=BC2 (E:=B8 .i64) (hsz:=by decide) [iW (k:Nat)] [((k:Nat):Int)] n1 (up.ext xW.size) O O (by decide) (Els.snoc Els.nil ⟨rfl,K8.2 (by omega)⟩);have d1:=n1.1;have x1:=xW.trans d1;refine .call _ O Bl2 O (Bk9 (up.ext x1.size) (ho.ext x1) hk1 hpw.1 (λx hx=>(hpw.2 x hx).1) (by omega) (Aa9 hko) (by omega)) λv5 W5 d5 h5=>?_;obtain⟨vu,ve,rfl,⟨u,hIns,hu⟩,rfl⟩:=h5;obtain⟨hOu,hcut⟩:=Bd2 hO hkM hIns;have x5:=x1.trans d5;refine .go O (.neqF O O O O (.go O (.ldA G2 O O (k2.ext ((hW.trans d1).trans d5)) O (.go O ?_))));refine .call _ O Bl3 O (Bl4 (up.ext x5.size) (hn.ext x5) hu) λv6 W6 d6 h6=>?_;obtain⟨vc,ve,rfl,hc,he⟩:=h6;replace he:ve=.int .i64 (C8 n u):=he;replace hc:vc=.int .i64 (if C8 n u=0 then ((A0 n u).refs.length:Nat) else 0):=hc;rw[if_pos hOu,hcut] at hc;rw[hOu] at he;subst he hc;have dd:=(d1.trans d5).trans d6;have hWW:=hW.trans dd;have hbc:=Nw.brg_cnt ok.ok hkM hgk0;refine .go O (.neqF O O O O (.go O ?_));by_cases hB:(A0 n o).brg k
 ·have hPk:P k=true:=by rw[<-hP];exact decide_eq_true hB
  have hbc:=hbc.1 hB;refine .gtrT O O O (by omega) (.go O (.bsl _ O O S7 λW7 b7 n7=>?_));obtain⟨d7,k7,hb7,hs7⟩:=n7;have d17:=dd.trans d7;have hW7:=hW.trans d17;refine .gv O O (L5 (E:=B8 .i64) (base:=w3.heap.size) (n:=((k:Nat):Int)) (e:=.int .i64 (k:Nat)) (by decide) C5 P6 O O O (hown.ext d17) k7 ⟨rfl,K8.2 (by omega)⟩ (by simp;omega) (by decide) hW7.size) ?_;rintro v8 W8 ⟨ho8,hg8⟩;have hW8:Ext w3 W8:=B4.below (hown.ext d17) hg8 hW7 hW7.size;refine .go O (.inc O O O (by omega) (.goN O (.mk (i+1,v8) O (lc2 O O) ⟨⟨hW8,hlt,?_⟩,by show (inL n o).length-(i+1)<(inL n o).length-i;omega⟩)));show B4 (B8 .i64) 3 w3.heap.size S W8 v8 (A7 (((inL n o).take (i+1)).filter P));rw[htk,bS,bY hPk,fH];unfold A7;rw[aM];exact ho8
 ·have hPk:¬ P k=true:=by rw[<-hP];simpa using hB
  have hbc:¬ _:=λh=>hB (hbc.2 h);refine .gtrF O O O (by omega) (.go O (.inc O O O (by omega) (.goN O (.mk (i+1,v) O (lc2 O O) ⟨⟨hWW,hlt,?_⟩,by show (inL n o).length-(i+1)<(inL n o).length-i;omega⟩))));show B4 (B8 .i64) 3 w3.heap.size S W6 v (A7 (((inL n o).take (i+1)).filter P));rw[htk,bS,cB hPk,fH,bB];exact hown.ext dd
noncomputable def lkE (n:NtV) (o:List Int) (line:Int):Int:=if C8 n o≠0 then C8 n o else if line∈A7 (inL n o) then (if (A0 n o).brg line.toNat then 11 else 0) else 1
theorem BO6(h:lkE n o line=0):C8 n o=0/\∃ k:Nat,line=k/\k<n.ls.length/\(A0 n o).g k≠0/\k∉oN o/\¬ (A0 n o).brg k:=by
 unfold lkE at h;split at h
 ·rename_i h1;exact absurd h h1
 rename_i h1;have hO:=Classical.not_not.1 h1;split at h
 ·rename_i h2;split at h
  ·cases h
  ·rename_i h3;obtain⟨k,hk,rfl⟩:=List.mem_map.1 h2;obtain⟨a,b⟩:=Ak8.1 hk;exact⟨hO,k,rfl,a,g_in2 (K6 hO) a b,b,h3⟩
 ·cases h
theorem Am9:Ent prog 73:=en func73
theorem Ak9(up:Up S w)(hn:eN.R S w vn n)(ho:eI.R S w vo o) :
  CR prog 73 #[vn,vo,iW line] w (Is (iW (lkE n o line))):=by
 obtain⟨s,rfl,hs,hb⟩:=hn;have hn:eN.R S w (.agg #[iW n.b,s]) n:=⟨s,rfl,hs,hb⟩;refine enter func73 O ntmps73 O (.beg (.go O (.box O O λw1 b3 n1=>?_)));obtain⟨e1,k3,hb3,hs1⟩:=n1;refine .go O (.ldA G2 O O k3 O (.go O (.call _ O AR3 O (AQ2 (up.ext e1.size) (hn.ext e1) (ho.ext e1)) λv2 w2 e2 h2=>?_)));obtain⟨vl,ve,rfl,hl,he⟩:=h2;replace he:ve=.int .i64 (C8 n o):=he;subst he;have x2:=e1.trans e2;have k3:=k3.ext e2;refine .go O ?_;by_cases hO:C8 n o=0;rotate_left
 ·have hlk:lkE n o line=C8 n o:=by unfold lkE;rw[if_pos hO]
  exact .neqT O O O hO (.goE O (.plain [_] results73 ⟨rfl,trivial⟩ ⟨x2,by rw[hlk];rfl⟩))
 have ok:=K6 hO;have hM10:n.ls.length<=10:=ok.m;have hll:=AE6 n o;rw[if_pos hO] at hl;refine .neqF O O O hO (.go O ?_);refine .call _ O BF2 O (BF3 hl (by simp;omega)) λv3 w3 e3 h3=>?_;subst h3;have x3:=x2.trans e3;by_cases hm:line∈A7 (inL n o);rotate_left
 ·rw[decide_eq_false hm];have hlk:lkE n o line=1:=by unfold lkE;rw[if_neg (by simpa using hO),if_neg hm]
  exact .goE O (.plain [_] results73 ⟨rfl,trivial⟩ ⟨x3,by rw[hlk];rfl⟩)
 rw[decide_eq_true hm];refine .go O (.ldA G2 O O (k3.ext e3) O (.go O (.call _ O Bq6 O (Bq9 (up.ext x3.size) (hn.ext x3) (ho.ext x3)) λv4 w4 e4 h4=>?_)));obtain⟨vb,ve,rfl,hbr,he⟩:=h4;replace he:ve=.int .i64 (C8 n o):=he;subst he;rw[if_pos hO] at hbr;have x4:=x3.trans e4;refine .go O (.neqF O O O hO (.go O ?_));refine .call _ O BF2 O (BF3 hbr (by simp;unfold brL;exact aG (dO ..) (by omega))) λv5 w5 e5 h5=>?_;subst h5;have x5:=x4.trans e5;have hiff:line∈A7 (brL n o)<->(A0 n o).brg line.toNat:=by
  obtain⟨k,hk,rfl⟩:=List.mem_map.1 hm;have:(((k:Nat):Int)).toNat=k:=by simp
  rw[this];unfold A7 brL;rw[eG];constructor
  ·rintro⟨j,hj,e⟩;have:j=k:=by omega
   subst this;exact of_decide_eq_true (List.mem_filter.1 hj).2
  ·intro h;exact⟨k,List.mem_filter.2 ⟨hk,decide_eq_true h⟩,rfl⟩
 by_cases hB:(A0 n o).brg line.toNat
 ·rw[decide_eq_true (hiff.2 hB)];have hlk:lkE n o line=11:=by unfold lkE;rw[if_neg (by simpa using hO),if_pos hm,if_pos hB]
  exact .goE O (.plain [_] results73 ⟨rfl,trivial⟩ ⟨x5,by rw[hlk];rfl⟩)
 ·rw[decide_eq_false λh=>hB (hiff.1 h)];have hlk:lkE n o line=0:=by unfold lkE;rw[if_neg (by simpa using hO),if_pos hm,if_neg hB]
  exact .goE O (.plain [_] results73 ⟨rfl,trivial⟩ ⟨x5,by rw[hlk];rfl⟩)
theorem BR8:Ent prog 33:=en func33
noncomputable def afE (n:NtV) (o:List Int) (line:Int) (x:List QV):Int:=if lkE n o line≠0 then lkE n o line else anE n o x
def afV (n:NtV) (o:List Int) (k:Nat) (x:List QV):List QV:=tab n.ls.length (((A0 n o).cut k).fl (((A0 n o).cut k).an (rv x)))
theorem BQ9{u:List Int}(hO:C8 n o=0)(hOu:C8 n u=0)(hcut:A0 n u=(A0 n o).cut k)(hb:¬ (A0 n o).brg k):anE n u x=anE n o x:=by
 have hs:sfE n u x.length=sfE n o x.length:=by unfold sfE;rw[hO,hOu]
 have hbal:(A0 n u).bal (rv x)<->(A0 n o).bal (rv x):=by rw[hcut];exact Nw.cut_bal (K6 hO).ok hb _
 unfold anE;rw[hs];congr 1;by_cases h2:(A0 n o).bal (rv x)
 ·rw[if_pos (hbal.2 h2),if_pos h2]
 ·rw[if_neg (λh'=>h2 (hbal.1 h')),if_neg h2]
theorem BO5(up:Up S w)(upo:Up T0 w)(hn:eN.R S w vn n)(ho:eI.R S w vo o)(hx:eV.R S w vx x)(hkx:vk L x)(hL1:1<=L)(hL:L<=9000) :
  CR prog 33 #[vn,vo,iW line,vx] w (Two (eV.at T0 (if afE n o line x=0 then afV n o line.toNat x else [])) (Is (iW (afE n o line x)))):=by
 obtain⟨s,rfl,hs,hb⟩:=hn;have hn:eN.R S w (.agg #[iW n.b,s]) n:=⟨s,rfl,hs,hb⟩;refine enter func33 O ntmps33 O (.beg (.go O (.box O O λw1 b4 n1=>?_)));obtain⟨e1,k4,hb4,hs1⟩:=n1;refine .go O (.ldA G2 O O k4 O (.go O ?_));refine .call _ O Am9 O (Ak9 (up.ext e1.size) (hn.ext e1) (ho.ext e1)) λv2 w2 e2 h2=>?_;subst h2;have x2:=e1.trans e2;have k4:=k4.ext e2;refine .go O ?_;by_cases hK:lkE n o line=0;rotate_left
 ·have haf:afE n o line x=lkE n o line:=by unfold afE;rw[if_pos hK]
  refine .neqT O O O hK (.goE O (.plain [_,_] results33 ⟨rfl,rfl,trivial⟩ ⟨x2,_,_,rfl,?_,by rw[haf]⟩));rw[if_neg (by rw[haf];exact hK)];exact RL.nil
 have haf:afE n o line x=anE n o x:=by unfold afE;rw[if_neg (by simpa using hK)]
 obtain⟨hO,k,rfl,hkM,hg,hko,hB⟩:=BO6 hK;have ok:=K6 hO;have hM10:n.ls.length<=10:=ok.m;have hpw:=Aa8 (Z2 hO).2;have hol:=BA2 hO;rw[haf];refine .neqF O O O hK (.go O (.bsl _ O O S7 λW1 b1 n1=>?_));have hk1:eI.R S W1 (.slice (some ⟨b1,0,none⟩) 1 1) [((k:Nat):Int)]:=BC2 (E:=B8 .i64) (hsz:=by decide) [iW (k:Nat)] [((k:Nat):Int)] n1 (up.ext x2.size) O O (by decide) (Els.snoc Els.nil ⟨rfl,K8.2 (by omega)⟩);have d1:=n1.1;have x1:=x2.trans d1;refine .call _ O Bl2 O (Bk9 (up.ext x1.size) (ho.ext x1) hk1 hpw.1 (λx hx=>(hpw.2 x hx).1) (by omega) (Aa9 hko) (by omega)) λv5 W5 d5 h5=>?_;obtain⟨vu,ve,rfl,⟨u,hIns,hu⟩,rfl⟩:=h5;obtain⟨hOu,hcut⟩:=Bd2 hO hkM hIns;have x5:=x1.trans d5;refine .go O (.neqF O O O O (.go O (.ldA G2 O O (k4.ext (d1.trans d5)) O (.go O (.call _ O BS2 O (BP7 (up.ext x5.size) (upo.ext x5.size) (hn.ext x5) hu (ER.ext eV hx x5) hkx hL1 hL) λv6 W6 d6 h6=>?_)))));obtain⟨vf,ve,rfl,hf,he⟩:=h6;subst he;rw[BQ9 hO hOu hcut hB,hcut] at hf;rw[BQ9 hO hOu hcut hB];exact .goE O (.p2 results33 O O ⟨x5.trans d6,_,_,rfl,hf,rfl⟩)
section
variable {n:NtV} {o:List Int} {c:List Nat}
theorem Bw0 (c:List Nat):oN (A7 c)=c:=by unfold oN;rw[List.map_map];exact List.map_id'' (λx=>by simp) c
theorem Bu8 (h:c.Pairwise (·<·)):(A7 c).Pairwise (·<·):=List.pairwise_map.2 (h.imp λh=>by omega)
theorem Bo0 (p:List Nat) (i:Nat):(D7 p i).Pairwise (·<·):=List.pairwise_lt_range.filter _
theorem Bv3 (hO:C8 n o=0) (hp:c.Pairwise (·<·)) (hx:∀ x∈c,x<n.ls.length):C8 n (A7 c)=0 :=
 Bh9 hO (Bu8 hp) λx h=>by
  obtain⟨k,hk,rfl⟩:=List.mem_map.1 h
  have:=hx k hk
  omega
end
section
variable {n:Nw} {k l:Nat}
theorem Nw.bt_ne (ok:n.Ok) (hk:k<n.M) (hg:n.g k≠0) (hne:n.F k≠n.T k):n.bt k k≠0:=by
 intro h;rw[Nw.bt_fl] at h;have hr:=Nw.root_line (n:=n) hk hg;have h0:n.tr k (n.F k)-n.tr k (n.T k)=0:=by
  unfold Nw.fl at h;rcases Rat.mul_eq_zero.1 h with h | h
  ·exact absurd h hg
  ·exact h
 have hgr:=Nw.green (n:=n) ok (n.tr k) (n.fl (n.tr k));have hl:B9 n.B (λb=>n.tr k b*n.off (n.fl (n.tr k)) b)=0:=by rw[<-h0,<-Nw.sum_inc ok hk (n.tr k)];exact A9 λb hb=>by rw[show n.off (n.fl (n.tr k)) b=n.inc k b from Nw.lap_tr ok hk hr hb]
 rw[hl] at hgr;have hz:∀ j,j<n.M->n.fl (n.tr k) j=0:=λj hj=>by
  have hpos:∀ i,i<n.M->0<=(n.tr k (n.F i)-n.tr k (n.T i))*n.fl (n.tr k) i:=λi hi=>by
   have e:(n.tr k (n.F i)-n.tr k (n.T i))*n.fl (n.tr k) i=n.g i*((n.tr k (n.F i)-n.tr k (n.T i))*(n.tr k (n.F i)-n.tr k (n.T i))):=by unfold Nw.fl;grind
   rw[e];exact gS (ok.p i hi) (Bu2 _)
  have:=BJ7 hpos hgr.symm hj;unfold Nw.fl at this ⊢;by_cases hgj:n.g j=0
  ·rw[hgj,bL]
  ·have h2:n.g j*((n.tr k (n.F j)-n.tr k (n.T j))*(n.tr k (n.F j)-n.tr k (n.T j)))=0:=by grind
   rcases Rat.mul_eq_zero.1 h2 with h3 | h3
   ·exact absurd h3 hgj
   ·rw[Bh7 h3];grind
 have h1:n.lap (n.tr k) (n.F k)=n.inc k (n.F k):=Nw.lap_tr ok hk hr (ok.f k hk);have h2:n.lap (n.tr k) (n.F k)=0:=H0 λj hj=>by rw[hz j hj,aW]
 rw[h2] at h1;unfold Nw.inc at h1;rw[Ab7,AV0 (Ne.symm hne)] at h1;exact absurd (h1.trans (show (1:Rat)-0=1 by grind)) (by decide)
theorem Nw.pair_bal (ok:n.Ok) (hk:k<n.M) (hg:n.g k≠0) {x:Nat->Rat} (hx:∀ b,b<n.B->x b=n.inc k b):n.bal x:=by exact (Nw.bal_congr λb hb=>(hx b hb).trans (Nw.lap_tr ok hk (Nw.root_line hk hg) hb).symm).2 (Nw.lap_bal ok (n.tr k))
theorem Nw.pair_fl (ok:n.Ok) (hk:k<n.M) (hg:n.g k≠0) {x:Nat->Rat} (hx:∀ b,b<n.B->x b=n.inc k b) (hl:l<n.M):n.fl (n.an x) l=n.bt k l:=by rw[Nw.bt_fl];refine Nw.lap_fl ok (λi hi=>?_) hl;rw[Nw.lap_an ok (Nw.pair_bal ok hk hg hx) hi,hx i hi,Nw.lap_tr ok hk (Nw.root_line hk hg) hi]
theorem Nw.lo_diff (ok:n.Ok) (hk:k<n.M) (hg:n.g k≠0) (hne:n.F k≠n.T k) (hb:¬ n.brg k) {x:Nat->Rat} (hx:∀ b,b<n.B->x b=n.inc k b) (hl:l<n.M) :
  ((n.cut k).fl ((n.cut k).an x) l-n.fl (n.an x) l) / n.fl (n.an x) k=n.lo k l:=by
 rw[Nw.lo_flow ok hk hg hb (Nw.pair_bal ok hk hg hx) hl,Nw.pair_fl ok hk hg hx hk];have h:=Nw.bt_ne ok hk hg hne;have e:n.fl (n.an x) l+n.lo k l*n.bt k k-n.fl (n.an x) l=n.lo k l*n.bt k k:=by grind
 rw[e,dG,fU,fD _ h,fW]
end
section
variable {n:NtV} {o:List Int} {k:Nat}
def BV9 (n:NtV) (o:List Int) (k:Nat):List Nat:=D7 ((inL n o).filter λj=>decide (j≠k)) n.ls.length
theorem Bw9 (hO:C8 n o=0) (hk:k<n.ls.length) {j:Nat}:j∈BV9 n o k<->j=k\/j∈oN o:=by
 have hp:=(Aa8 (Z2 hO).2).2;have ho:∀ j,j∈oN o->j<n.ls.length:=λj hj=>by obtain⟨x,hx,rfl⟩:=List.mem_map.1 hj;have:=hp x hx;omega
 have h1:j∈BV9 n o k<->j<n.ls.length/\j∉(inL n o).filter λj=>decide (j≠k):=by unfold BV9 D7;rw[cL,cM];exact and_congr_right λ_=>by rw[dI,decide_eq_false_iff_not]
 rw[h1,cL,Ak8];constructor
 ·rintro⟨h2,h3⟩;by_cases e:j=k
  ·exact .inl e
  ·by_cases h4:j∈oN o
   ·exact .inr h4
   ·exact absurd ⟨⟨h2,h4⟩,decide_eq_true e⟩ h3
 ·rintro (rfl | h)
  ·exact⟨hk,λh=>of_decide_eq_true h.2 rfl⟩
  ·exact⟨ho j h,λh'=>h'.1.2 h⟩
theorem oth_ok (hO:C8 n o=0) (hk:k<n.ls.length):C8 n (A7 (BV9 n o k))=0/\A0 n (A7 (BV9 n o k))=(A0 n o).cut k:=by
 refine⟨Bv3 hO (Bo0 _ _) λx hx=>?_,Bw1 λj=>?_⟩
 ·exact List.mem_range.1 (List.mem_filter.1 hx).1
 ·rw[Bw0];exact Bw9 hO hk
def AS6 (a:List Int) (k:Int):List Int:=a.filter (λy=>decide (y<k))++k::a.filter (λy=>decide (k<y))
theorem BV5 {k:Int}:∀ a:List Int,k∉a->(a.filter λy=>decide (y<k)).length+(a.filter λy=>decide (k<y)).length=a.length
 | [],_=>rfl
 | y::a,h=>by
  have ih:=BV5 a λh'=>h (cG _ h')
  have e:y≠k:=λe=>h (by rw[e];exact cR ..)
  rcases gO e with h' | h'
  ·rw[bY (by simpa using h'),cB (by simp;omega)];simp;omega
  ·rw[cB (by simp;omega),bY (by simpa using h')];simp;omega
theorem Az8 {a:List Int} {k:Int} (ha:a.Pairwise (·<·)) (hk:k∉a):Ins a k (AS6 a k) where
 inc:=by
  unfold AS6;refine List.pairwise_append.2 ⟨ha.filter _,List.pairwise_cons.2 ⟨λy hy=>of_decide_eq_true (List.mem_filter.1 hy).2,ha.filter _⟩,λy hy z hz=>?_⟩;have h1:y<k:=of_decide_eq_true (List.mem_filter.1 hy).2;rcases List.mem_cons.1 hz with rfl | hz
  ·exact h1
  ·have h2:k<z:=of_decide_eq_true (List.mem_filter.1 hz).2;omega
 mem:=λy=>by
  unfold AS6;rw[eJ,gE,cL,cL];simp only[decide_eq_true_eq];constructor
  ·rintro (h | h | h)
   ·exact .inr h.1
   ·exact .inl h
   ·exact .inr h.1
  ·rintro (h | h)
   ·exact .inr (.inl h)
   ·by_cases e:y=k
    ·exact .inr (.inl e)
    ·rcases gO e with h' | h'
     ·exact .inl ⟨h,h'⟩
     ·exact .inr (.inr ⟨h,h'⟩)
 len:=by have:=BV5 a hk;unfold AS6;rw[aL,aS];omega
end
theorem Bi8{va vb:Value}{a b:List QV}(ha:eV.R (λ_=>True) w va a)(hb:eV.R (λ_=>True) w vb b)(h:a=b):CR prog 34 #[va,vb] w (Is (.bool true)):=by have:=Bc2 ha hb;rwa [AD3 h] at this
theorem Nw.th_cand{n:Nw}(ok:n.Ok)(hB:1<=n.B)(cand:Nat->Nat->Rat)(h:∀ b,b<n.B->∀ i,i<n.B->(if n.root i=i then cand b i else n.lap (cand b) i)=dl i b)(hb:b<n.B)(hc:c<n.B):n.th b c=cand b c :=
 Nw.uniq ok (λi hi=>by
  have h1:=BT8 ok hB hb hi
  have h2:=h b hb i hi
  split
  ·rw[if_pos (by assumption)] at h1 h2;rw[h1,h2]
  ·rw[if_neg (by assumption)] at h1 h2;rw[h1,h2]) c hc
theorem Nw.hf_cand{n:Nw}(ok:n.Ok)(hB:1<=n.B)(cand:Nat->Nat->Rat)(h:∀ b,b<n.B->∀ i,i<n.B->(if n.root i=i then cand b i else n.lap (cand b) i)=dl i b)(hk:k<n.M)(hb:b<n.B):n.hf k b=n.fl (cand b) k:=by unfold Nw.hf Nw.fl;rw[Nw.th_cand ok hB cand h hb (ok.f k hk),Nw.th_cand ok hB cand h hb (ok.t k hk)]
def R7:NtV:=⟨3,[⟨0,1,10,100⟩,⟨1,2,5,50⟩,⟨0,2,10,70⟩]⟩
def Ae0 (b c:Nat):Rat:=if b=0 then 1 else if c=0 then 0 else if b=c then 6 else 4
def Bv2 (m:Nat) (o:List Int):Bool:=(List.range o.length).all λi=>decide (0<=o.getD i 0) && decide (o.getD i 0<m) && (decide (i=0) || decide (o.getD (i-1) 0<o.getD i 0))
theorem Bv1(h:Bv2 n.ls.length o=true):AB5 n o:=by unfold Bv2 at h;rw[aR] at h;intro i hi;have:=h i (List.mem_range.2 hi);simp only[aO,aX,decide_eq_true_eq] at this;exact⟨this.1.1,this.1.2,λh0=>by rcases this.2 with h | h;omega;exact h⟩
def chkB (n:NtV):Bool:=decide (1<=n.b) && decide (n.b<=6) && decide (n.ls.length<=10) && n.ls.all λl=>(List.range 5).all λi=>ck i n.b l
theorem Bi0(h:chkB n=true)(ho:Bv2 n.ls.length o=true):C8 n o=0:=by
 unfold chkB at h;simp only[aO,decide_eq_true_eq,aR] at h;obtain⟨⟨⟨h1,h2⟩,h3⟩,h4⟩:=h;have hc:AA2 n=0:=by unfold AA2;rw[if_neg (by omega),if_neg (by omega),if_pos];exact λi _ l hl j hj=>h4 l (List.mem_iff_getElem?.2 ⟨i,hl⟩) j (List.mem_range.2 hj)
 unfold C8;rw[if_neg (by simpa using hc),if_pos (Bv1 ho)]
theorem un_II:prog.underlying 119=some (.slice 25):=by kernel_rfl
theorem BS1:Ent prog 45:=en func45
theorem BO9{vl:Value}{l:List (List Int)}(hn:eN.R S w vn n)(hl:eII.R S w vl l):CR prog 45 #[vn,vl] w (λv _=>∃ b,v=.bool b):=by
 obtain⟨s,rfl,hs,_⟩:=hn;obtain⟨_,_,_,_,hll⟩:=RL.len hl;refine enter func45 O ntmps45 O (.sr (.box O O λw1 b2 n1=>.an O O (.seq (.sr (.an O O ?_)))));obtain⟨e1,k2,_,_⟩:=n1;have hl:=hl.ext e1;refine .block (.loop (α:=Nat) (λi=>[(1,vl),(2,pW b2),(5,iW (i:Nat))]) (λi W=>W=w1/\i<=l.length) (λi=>l.length-i) 0 ?_ ?_ ?_)
 ·exact lkA rfl
 ·exact⟨rfl,aC _⟩
 rintro i W ⟨rfl,hi⟩;refine .seq (.sr (.mv O O (.mv O O (.lenR un_II O O hl ?_))));rcases aB i l.length with hlt | hge;rotate_left
 ·refine .lssF O O O (by omega) (.nil (.condF O (.exit (.sr (.fa G5 O O (.ld J0 O O k2 O (.lenR I6 O O (hs.ext e1) (.gtr O O O (.an O O (.ret ?_))))))))));exact .p1 _ results45 O ⟨e1,_,rfl⟩
 refine .lssT O O O (by omega) (.nil (.condT O (.skip (.seq (.block (.sr (.mv O O (.mv O O (.ixN (i:=i) un_II AN6 O O hl O (aE hlt) λq hq=>.ldE (E:=eI) AN6 O O hq λv hv=>.lenR C5 O O hv ?_)))))))));by_cases h:100<l[i].length
 ·refine .gtrT O O O (by omega) (.nil (.condT O (.sr (.an O O (.ret ?_)))));exact .p1 _ results45 O ⟨e1,_,rfl⟩
 ·refine .gtrF O O O (by omega) (.nil (.condF O (.skip (.region (.mv O O (.add O O O (.an O O ?_)))))));rw[wI (by omega)];exact⟨rfl,i+1,lkA rfl,⟨rfl,hlt⟩,by show l.length-(i+1)<l.length-i;omega⟩
theorem Br1:M0 prog 24=some (.agg #[iW 0,.slice none 0 0]):=by kernel_rfl
theorem BQ5{b c:Int}:AK4 prog 53 [(0,iW a),(1,iW b),(2,iW c),(3,iW d)]=some #[iW a,iW b,iW c,iW d]:=by kernel_rfl
theorem bsl_Ls3{a b c d a' b' c' d' a2 b2 c2 d2:Value}:Y7 prog 22 3 [(0,.agg #[a,b,c,d]),(1,.agg #[a',b',c',d']),(2,.agg #[a2,b2,c2,d2])]=some (53,#[a,b,c,d,a',b',c',d',a2,b2,c2,d2]):=by kernel_rfl
theorem bld_N2{b:Int}{a:Option Addr}{n:Nat}:AK4 prog 24 [(0,iW b),(1,.slice a n c)]=some #[iW b,.slice a n c]:=by kernel_rfl
theorem ln_R{b c:Int}(h:∀ x∈[a,b,c,d],-9223372036854775808<=x/\x<=9223372036854775807):eL.R S w (.agg #[iW a,iW b,iW c,iW d]) ⟨a,b,c,d⟩:=⟨rfl,K8.2 (h a (by simp)),K8.2 (h b (by simp)),K8.2 (h c (by simp)),K8.2 (h d (by simp))⟩
theorem ok3:C8 R7 []=0:=Bi0 (by decide) (by decide)
theorem CA1:∀ b,b<(A0 R7 []).B->∀ i,i<(A0 R7 []).B->(if (A0 R7 []).root i=i then Ae0 b i else (A0 R7 []).lap (Ae0 b) i)=dl i b:=by
 have:∀ b,b<3->∀ i,i<3->(if (A0 R7 []).root i=i then Ae0 b i else (A0 R7 []).lap (Ae0 b) i)=dl i b:=by decide +kernel
 exact this
theorem bsl_IIo{a:Option Addr}{n:Nat}:Y7 prog 119 1 [(0,.slice a n c)]=some (25,#[.slice a n c]):=by kernel_rfl
def Bv7 (r:List QV):Prop:=r.length<=20/\∀ q∈r,qok 4 q
theorem BS0:Ent prog 11:=en func11
theorem BO8{l:List (List QV)}(hn:eN.R (λ_=>True) w vn n)(ho:eI.R (λ_=>True) w vo o)(h:eM.R (λ_=>True) w v l):CR prog 11 #[vn,vo,v] w (Lng (∀ r∈l,Bv7 r)):=by
 obtain⟨s,rfl,hs,hb⟩:=hn;have hn:eN.R (λ_=>True) w (.agg #[iW n.b,s]) n:=⟨s,rfl,hs,hb⟩;obtain⟨ao,co,hvo,_⟩:=RL.len ho;obtain⟨_,_,_,_,hl⟩:=RL.len h;refine enter func11 O ntmps11 O (.beg (.go O (.box O O λw1 b3 n1=>?_)));obtain⟨e1,k3,hb3,hs1⟩:=n1;have h:=ER.ext eM h e1;have htrue:∀ {σ:Env},YtpgkacdihhjknaaGreat.look σ 6=some (.bool true)->Q3 prog Tryz.f11 58 (λv w'=>Ext w w'/\Lng (∀ r∈l,Bv7 r) v w') σ [] w1:=by intro σ hl;exact .plain [_] results11 ⟨hl,trivial⟩ ⟨e1,true,rfl,λh=>by cases h⟩
 refine .goC O (.lp (α:=Nat) [1,2,3] O (λi=>[(7,iW (i:Nat))]) (λi W=>W=w1/\i<=l.length/\∀ j r,j<i->l[j]?=some r->Bv7 r) (λi=>l.length-i) 0 (lc1 O) ⟨rfl,aC _,λj r hj=>absurd hj (bK _)⟩ ?_);rintro i W ⟨rfl,hi,hall⟩;refine .go O (.lenR E4 O O h ?_);rcases aB i l.length with hlt | hge;rotate_left
 ·refine .lssF O O O (by omega) (.go O (.ldA G2 O O k3 O (.go O (.bsl _ O O (by rw[hvo];exact bsl_IIo) λw2 b5 n2=>?_))));have hll:eII.R (λ_=>True) w2 (.slice (some ⟨b5,0,none⟩) 1 1) [o]:=Be2 [vo] [o] n2 upT (by rw[hvo]) O (by decide) (Els.snoc Els.nil (ho.ext e1));refine .call _ O BS1 O (BO9 (hn.ext (e1.trans n2.1)) hll) λv3 w3 e3 h3=>.goE O ?_;obtain⟨bl,rfl⟩:=h3;refine .plain [_] results11 ⟨rfl,trivial⟩ ⟨(e1.trans n2.1).trans e3,bl,rfl,λ_ r hr=>?_⟩;obtain⟨j,hj⟩:=List.mem_iff_getElem?.1 hr;exact hall j r (by have:=Bd0 hj;omega) hj
 have hyy:=aE hlt;generalize l[i]=r at hyy;refine .lssT O O O (by omega) (.go O (.ixN (i:=i) E4 C2 O O h O hyy λp hp=>.ldE C2 O O hp λe he=>.lenR C9 O O he ?_));by_cases hr:r.length<=20;rotate_left
 ·exact .gtrT O O O (by omega) (.goE O (htrue O))
 refine .gtrF O O O (by omega) (.goC O (.lp (α:=Nat) [1,2,3,7] O (λk=>[(8,iW (k:Nat))]) (λk W'=>W'=W/\k<=r.length/\∀ j q,j<k->r[j]?=some q->qok 4 q) (λk=>r.length-k) 0 (lc1 O) ⟨rfl,aC _,λj r hj=>absurd hj (bK _)⟩ ?_));rintro k W' ⟨rfl,hk,hallk⟩;refine .go O (.ixN (i:=i) E4 C2 O O h O hyy λp2 hp2=>.ldE C2 O O hp2 λe2 he2=>.lenR C9 O O he2 ?_);rcases aB k r.length with hkl | hge;rotate_left
 ·refine .lssF O O O (by omega) (.go O (.inc O O O (by omega) (.goN O (.mk (i+1) O (lc1 O) ⟨⟨rfl,hlt,λj r' hj hr'=>?_⟩,by show l.length-(i+1)<l.length-i;omega⟩))));by_cases e:j=i
  ·subst e;rw[hyy] at hr'
   cases hr';refine⟨hr,λq hq=>?_⟩;obtain⟨j',hj'⟩:=List.mem_iff_getElem?.1 hq;exact hallk j' q (by have:=Bd0 hj';omega) hj'
  ·exact hall j r' (by omega) hr'
 have hqq:=aE hkl;generalize r[k]=q at hqq;refine .lssT O O O (by omega) (.go O (.ixN (i:=i) E4 C2 O O h O hyy λp3 hp3=>.ldE C2 O O hp3 λe3 he3=>.go O (.ixN (i:=k) C9 A3 O O he3 O hqq λp4 hp4=>.faP AC2 O O (.faP G9 O O (.ldE (E:=eW) L2 O O hp4.qn.zw λe4 he4=>.lenR E5 O O he4 ?_)))));by_cases hn4:q.num.w.length<=4;rotate_left
 ·exact .gtrT O O O (by omega) (.goE O (htrue O))
 refine .gtrF O O O (by omega) (.go O (.ixN (i:=i) E4 C2 O O h O hyy λp5 hp5=>.go O (.ldE C2 O O hp5 λe5 he5=>.go O (.ixN (i:=k) C9 A3 O O he5 O hqq λp6 hp6=>.go O (.faP AC1 O O (.go O (.faP G9 O O (.go O (.ldE (E:=eW) L2 O O hp6.qd.zw λe6 he6=>.go O (.lenR E5 O O he6 (.go O ?_)))))))))));by_cases hd4:q.den.w.length<=4;rotate_left
 ·exact .gtrT O O O (by omega) (.goE O (htrue O))
 refine .gtrF O O O (by omega) (.go O (.inc O O O (by omega) (.goN O (.mk (k+1) O (lc1 O) ⟨⟨rfl,hkl,λj q' hj hq'=>?_⟩,by show r.length-(k+1)<r.length-k;omega⟩))));by_cases e:j=k
 ·subst e;rw[hqq] at hq';cases hq';exact⟨hn4,hd4⟩
 ·exact hallk j q' (by omega) hq'
def balB (n:Nw) (x:Nat->Rat):Bool:=(List.range n.B).all λr => !decide (n.root r=r) || decide (B9 n.B (λb=>if n.root b=r then x b else 0)=0)
theorem CA6{n:Nw}{x:Nat->Rat}:balB n x=true<->n.bal x:=by
 unfold balB Nw.bal;rw[aR];simp only[cM,aX,dI,decide_eq_false_iff_not,decide_eq_true_eq];exact⟨λh r hr hrr=>(h r hr).resolve_left λh'=>h' hrr,λh r hr=>by
  by_cases hrr:n.root r=r
  ·exact .inr (h r hr hrr)
  ·exact .inl hrr⟩
theorem Bf4{n:Nw}(ok:n.Ok){x cand:Nat->Rat}(h:∀ i,i<n.B->(if n.root i=i then cand i else n.lap cand i)=n.inj0 x i)(hc:c<n.B):n.an x c=cand c :=
 Nw.uniq ok (λi hi=>by
  have h1:=n.an_eq ok x hi
  have h2:=h i hi
  split
  ·rw[if_pos (by assumption)] at h1 h2;rw[h1,h2]
  ·rw[if_neg (by assumption)] at h1 h2;rw[h1,h2]) c hc
def inj3:Nat->Rat:=λb=>((([6,0,-6]:List Int).getD b 0:Int):Rat)
def an3:Nat->Rat:=λb=>((([0,-24,-36]:List Int).getD b 0:Int):Rat)
theorem Bg9{l:List Int}:rv (AB8 l) b=if b<l.length then ((l.getD b 0:Int):Rat) else 0:=L4 ..
theorem CA9:anE R7 [] (AB8 [6,0,-6])=0:=by refine CA8 ok3 (by decide) ((Nw.bal_congr (y:=inj3) λb hb=>?_).2 (CA6.1 (by decide +kernel)));rw[Bg9,if_pos (show b<([6,0,-6]:List Int).length from hb)];rfl
theorem Bk8:∀ c,c<3->(A0 R7 []).an (rv (AB8 [6,0,-6])) c=an3 c:=λc hc=>by
 have ok:=K6 ok3
 refine Bf4 ok.ok (λi hi=>?_) hc
 have h1:∀ i,i<3->(if (A0 R7 []).root i=i then an3 i else (A0 R7 []).lap an3 i)=(A0 R7 []).inj0 inj3 i:=by decide +kernel
 rw[h1 i hi]
 unfold Nw.inj0
 rw[Bg9,if_pos (show i<([6,0,-6]:List Int).length from hi)];rfl
theorem ob_L3{σ:Env}{d:Option Tmp}{ty:TypeId}{pos:String}{af:Array Edge}{g:Option (Nat×Bool)}{m n k:Int}(h:∀ x∈[m,n,k],-9223372036854775808<=x/\x<=9223372036854775807) :
  Gv prog ⟨d,.buildSlice 117 3 #[(0,.const (iW m)),(1,.const (iW n)),(2,.const (iW k))],ty,pos,af,g⟩ σ w λv' w'=>Ext w w'/\Sp.ok (.inr (eI.at (λ_=>True) [m,n,k])) v' w' :=
 (Ad7 (ps:=[(0,.const (iW m)),(1,.const (iW n)),(2,.const (iW k))]) _ O Be7).mono λv' w' ⟨b2,hv',n2⟩=>⟨n2.1,λw'' e=>by
  rw[hv']
  exact ER.ext eI (BC1 [m,n,k] 3 n2 upT O O h (by omega)) e⟩
theorem vk_ints(l:List Int)(h:∀ n∈l,-9223372036854775808<=n/\n<=9223372036854775807):vk 2 (AB8 l):=Br4 h
def Be3:ER Value where
 sz:=1
 isA:=false
 R:=λ_ _ e x=>e=x/\∃ a n c,x=.slice a n c
 csz:=by rintro S w e x ⟨rfl,a,n,c,rfl⟩;rfl
 one:=by rintro S w e x ⟨rfl,a,n,c,rfl⟩ u hu;simp[Value.cells] at hu;subst hu;rfl
 shp:=by rintro S w e x ⟨rfl,a,n,c,rfl⟩;rfl
 keep:=λ_ h=>h
 mono:=λ_ h=>h
section
variable {α:Type} {E:ER α} {t:TypeId} {base:Nat} {X:Nat->Prop} {w w':World} {v:Value} {l:List α}
theorem B4.blk (h:B4 E t base X w v l) {b:Nat} (hb:v.ownBlock=some b):base<=b/\∃ cs,Blk w b t cs:=by
 obtain⟨es,h1,h2⟩:=h;rcases h1.2 with ⟨hn,_⟩ | ⟨g,cap,cur,hv,hb',hg',rest⟩
 ·rw[hn] at hb;cases hb
 ·rw[hv] at hb;cases hb;exact⟨hb',cur,hg'⟩
end
section
variable {P:Program} {σ:Env} {w:World} {d:Option Tmp} {ty:TypeId} {pos:String} {af:Array Edge} {g:Option (Nat×Bool)} {α:Type} {E:ER α}
end
def Nw.mem (n:Nw) (i r:Nat):List Nat:=(List.range i).filter λb=>decide (n.root b=r)
theorem Nw.mem_succ(n:Nw)(i r:Nat):n.mem (i+1) r=n.mem i r++if n.root i=r then [i] else []:=by
 unfold Nw.mem;rw[aP,bS];by_cases h:n.root i=r
 ·simp[h]
 ·simp[h]
theorem BM4:prog.underlying 119=some (.slice 25):=by kernel_rfl
theorem info_IL:O8 prog 25=some (.slice none 0 0,1,24):=by kernel_rfl
section
variable {n:Nw}
def Nw.mem1 (n:Nw) (i r:Nat):List Nat:=(List.range i).filter λc=>decide (c≠r/\n.root c=r)
theorem Nw.mem1_succ (n:Nw) (i r:Nat):n.mem1 (i+1) r=n.mem1 i r++if i≠r/\n.root i=r then [i] else []:=by
 unfold Nw.mem1;rw[aP,bS];by_cases h:i≠r/\n.root i=r
 ·simp[h]
 ·rw[if_neg h];simp[h]
theorem Nw.mem_first {r:Nat} (h:n.root r=r):∀ d,n.mem (r+1+d) r=r::n.mem1 (r+1+d) r
 | 0=>by
  have e1:n.mem r r=[]:=by unfold Nw.mem;rw[List.filter_eq_nil_iff];intro b hb;have:=Nw.root_le (n:=n) b;have:=List.mem_range.1 hb;simp;omega
  have e2:n.mem1 r r=[]:=by unfold Nw.mem1;rw[List.filter_eq_nil_iff];intro b hb;have:=Nw.root_le (n:=n) b;have:=List.mem_range.1 hb;simp;omega
  rw[bP,Nw.mem_succ,Nw.mem1_succ,e1,e2,if_pos h,if_neg (by simp)];rfl
 | d+1=>by
  rw[show r+1+(d+1)=(r+1+d)+1 by omega,Nw.mem_succ,Nw.mem1_succ,Nw.mem_first h d];by_cases h':n.root (r+1+d)=r
  ·rw[if_pos h',if_pos ⟨by omega,h'⟩];rfl
  ·rw[if_neg h',if_neg λh''=>h' h''.2];rfl
theorem Nw.mem_cons {B r:Nat} (h:n.root r=r) (hr:r<B):n.mem B r=r::n.mem1 B r:=by have:=Nw.mem_first (n:=n) h (B-(r+1));rwa [show r+1+(B-(r+1))=B by omega] at this
end
theorem Q3.tt{P:Program}{fn:Func}{N:Nat}{σ:Env}{W:World}{r:Nat}(hr:fn.results=#[.tmp r])(hl:look σ r=some (.bool true))(h:Ext w W):Q3 P fn N (λv w'=>Ext w w'/\Is (.bool true) v w') σ [] W:=.plain [_] hr ⟨hl,trivial⟩ ⟨h,rfl⟩
end Go.Proofs.YtpgkacdihhjknaaGreat
