/-
  What the claim leans on.
-/
import Derived.Test.YtpgkacdihhjknaaGreatG4
set_option linter.unusedVariables false
set_option linter.unusedSimpArgs false
set_option linter.unnecessarySimpa false
namespace Go.Proofs.YtpgkacdihhjknaaGreat
open Go Go.RowKit Tryz
variable {w:World}{a l:List Nat}{b:List QV}{c i:Nat}{vn vm va:Value}{t:TypeId}
abbrev but (S Z:Nat->Prop):Nat->Prop:=λk=>S k/\¬ Z k
abbrev tak (g:Nat) (v:Value):Nat->Prop:=λk=>k=g\/v.ownBlock=some k
section
variable {α:Type} {E:ER α} {t:TypeId} {S:Nat->Prop} {w w':World} {g:Nat} {l:List α}
theorem FB.grow {v v':Value} (h:FB E t (λk=>S k/\v.ownBlock≠some k) w g l) (hg:w.grownBy w' v.ownBlock) (hw:v'.ownBlock=v.ownBlock\/v'.ownBlock=some w.heap.size) (hne:v.ownBlock≠some g):FB E t (λk=>S k/\v'.ownBlock≠some k) w' g l:=by
 have h1:FB E t (λk=>(S k/\v.ownBlock≠some k)/\k<w.heap.size) w g l:=h.mono λk hk hs=>⟨hs,hk⟩;have h2:=h1.chg (Chg.grown hg) hne λk hk=>hk.1.2;refine h2.mono λk _ hk=>⟨hk.1.1,?_⟩;rcases hw with e | e
 ·rw[e];exact hk.1.2
 ·rw[e];intro e';cases e';exact dZ _ hk.2
end
theorem C5:prog.underlying 25=some (.slice 3):=by kernel_rfl
theorem P6:O8 prog 3=some (iW 0,1,8):=by kernel_rfl
theorem B5:F6 prog 3=some (false,1):=by kernel_rfl
theorem S7{x:Int}:Y7 prog 25 1 [(0,iW x)]=some (3,#[iW x]):=by kernel_rfl
theorem fld_EV0:U7 prog 228 0=some 0:=by kernel_rfl
theorem fld_EV1:U7 prog 228 1=some 1:=by kernel_rfl
theorem ty_E0:F6 prog 1=some (false,1):=by kernel_rfl
theorem ty_E1:F6 prog 226=some (false,1):=by kernel_rfl
structure Evs (P:Program) (xe xs:FuncId) (cape caps:Array Value) (M:Nat) (S0 X:Nat->Prop) (D:(Nat->Prop)->Nat->Rat->World->Prop):Prop where
 entE:Ent P xe
 entS:Ent P xs
 mono:∀ {Z Z':Nat->Prop} {j:Nat} {d:Rat} {W:World},D Z j d W->(∀ k,k<W.heap.size->Z' k->Z k)->D Z' j d W
 chg:∀ {Z:Nat->Prop} {j:Nat} {d:Rat} {W W':World},D Z j d W->Chg Z W W'->D Z j d W'
 exch:∀ {Z:Nat->Prop} {j:Nat} {d:Rat} {W:World},D Z j d W->(∀ k,Z k->k<W.heap.size/\¬ X k)->Calls P xe (([]:List Value).toArray++cape) W λe W'=>∃ v,e=.returned v/\Chg X W W'/\D Z j (-d) W'
 scal:∀ {Z:Nat->Prop} {j:Nat} {d:Rat} {W:World} {v:Value} {q:QV},D Z j d W->(∀ k,Z k->k<W.heap.size/\¬ X k)->eQ.R (λk=>S0 k/\¬ Z k/\¬ X k) W v q->qk M q->j<=1000->Calls P xs ([v].toArray++caps) W λe W'=>∃ v',e=.returned v'/\Chg X W W'/\D Z (j+1) (d*E3 q) W'
abbrev A7 (p:List Nat):List Int:=p.map λ(k:Nat)=>(k:Int)
theorem AN1:Ent prog 231:=en func231
theorem AL8{S X:Nat->Prop}{gb n cap C cols L M:Nat}{f:RM}{xe xs:FuncId}{cape caps:Array Value}{D:(Nat->Prop)->Nat->Rat->World->Prop}(up:Up S w)(hF:FB eV 26 S w gb (C6 n C f))(hcap:n<=cap)(hcols:cols<=C)(hn:n<=1000)(hC:C<=1000)(hL:1<=L)(hsz:∀ i k,i<n->k<C->Rsz (f i k) L)(hM:bd L (min n cols)<=M)(hM2:M<=40000000)(hSg:S gb)(hX:∀ k,X k->k<w.heap.size/\k≠gb/\¬ S k)(ev:Evs prog xe xs cape caps M S X D)(hD:D (λk=>k=gb) 0 1 w) :
  Calls prog 231 #[.slice (some ⟨gb,0,none⟩) n cap,iW cols,.agg #[.func (.func xe) #[] cape,.func (.func xs) #[] caps]] w λe W=>∃ v,e=.returned v/\Chg (λk=>k=gb\/X k) w W /\
   eI.R (λk=>w.heap.size<=k) W v (A7 (elim n f cols).2)/\FB eV 26 S W gb (C6 n C (elim n f cols).1)/\D (λk=>k=gb) (elim n f cols).2.length (Q0 n f cols) W:=by
 have hgb:=hF.lt;refine U8 func231 O ntmps231 O ?_;refine .sr (.box O O λw1 b5 n1=>.an O O (.sr (.an O O ?_)));obtain⟨e1,k5,hb5,hs1⟩:=n1;replace k5:Blk w1 b5 228 #[.func (.func xe) #[] cape,.func (.func xs) #[] caps]:=k5;generalize hfe:Value.func (.func xe) #[] cape=fe at k5;generalize hfs:Value.func (.func xs) #[] caps=fs at k5;generalize hY:(λk=>k=gb\/X k)=Y;have hYi:∀ k,(k=gb\/X k)->Y k:=λk h=>by rw[<-hY];exact h
 have hYo:∀ k,Y k->(k=gb\/X k):=λk h=>by rw[<-hY] at h;exact h
 have hYw:∀ k,Y k->k<w.heap.size:=λk hk=>by
  rcases hYo k hk with rfl | hk
  ·exact hgb
  ·exact (hX k hk).1
 have hb5X:¬ Y b5:=λh=>by have:=hYw _ h;omega
 have hXg:¬ X gb:=λh=>(hX _ h).2.1 rfl;have hSX:∀ k,S k->¬ X k:=λk hk hx=>(hX k hx).2.2 hk;refine .mid (α:=Value) (λvp=>[(7,vp)]) (λvp W=>Chg Y w W/\B4 (B8 .i64) 3 w.heap.size S W vp (A7 (elim n f cols).2)/\FB eV 26 (λk=>S k/\vp.ownBlock≠some k) W gb (C6 n C (elim n f cols).1)/\D (tak gb vp) (elim n f cols).2.length (Q0 n f cols) W) ?_ ?_;rotate_left
 ·rintro vp W ⟨hc,ho,hf,hd⟩;refine .sr (.mv O O (.an O O (.ret ?_)));refine .plain [_] results231 ⟨rfl,trivial⟩ ⟨hc,?_,hf.mono (λk _ h=>h.1),ev.mono hd λk _ h=>.inl h⟩;obtain⟨es,h1,h2⟩:=ho;exact RL.ofOwn h1 O ⟨h2.1,λi e x he hx=>h2.2 i e x he hx⟩ (λk hk=>hk)
 refine .sr (.mv O O (.mv O O (.nil ?_)));refine .block (.loop (α:=Nat×Value) (λy=>[(0,.slice (some ⟨gb,0,none⟩) n cap),(5,pW b5),(7,y.2),(16,iW (cols:Nat)),(17,iW (y.1:Nat))])
  (λy W=>Chg Y w W/\y.1<=cols/\Blk W b5 228 #[fe,fs]/\B4 (B8 .i64) 3 w.heap.size S W y.2 (A7 (elim n f y.1).2)/\FB eV 26 (λk=>S k/\y.2.ownBlock≠some k) W gb (C6 n C (elim n f y.1).1)/\D (tak gb y.2) (elim n f y.1).2.length (Q0 n f y.1) W)
  (λy=>cols-y.1) (0,.slice none 0 0) ?_ ?_ ?_)
 ·exact lkA rfl
 ·refine⟨Chg.ext e1,aC _,k5,B4.nil,(hF.ext e1).mono λk _ h=>⟨h,by simp[Value.ownBlock]⟩,ev.chg (ev.mono hD λk _ h=>?_) (Chg.ext e1)⟩;rcases h with h | h
  ·exact h
  ·simp[Value.ownBlock] at h
 rintro⟨c,vp⟩ W ⟨hc,hcc,k5,ho,hf,hd⟩;replace hcc:c<=cols:=hcc;replace ho:B4 (B8 .i64) 3 w.heap.size S W vp (A7 (elim n f c).2):=ho;replace hf:FB eV 26 (λk=>S k/\vp.ownBlock≠some k) W gb (C6 n C (elim n f c).1):=hf;replace hd:D (tak gb vp) (elim n f c).2.length (Q0 n f c) W:=hd;refine .weak [(0,.slice (some ⟨gb,0,none⟩) n cap),(5,pW b5),(7,vp),(16,iW (cols:Nat)),(17,iW (c:Nat))] (λt v h=>h) ?_;have hszW:=hc.size;have hech:=AG0 n f c;have hql:=hech.len;have hcC:c<=C:=by omega
 have hsg:=AQ7 hL hsz c hcC;have hnext:elim n f (c+1)=Z8 n c (elim n f c):=rfl;have hnextD:Q0 n f (c+1)=Ag6 n c (elim n f c) (Q0 n f c):=rfl;have hBM:bd L (elim n f c).2.length<=M:=aG (Z3 L (by have:=hech.len_c;omega)) hM;have hBp:=BQ6 hL (elim n f c).2.length;obtain⟨ao,co,hvo⟩:=ho.slice;have hplen:(A7 (elim n f c).2).length=(elim n f c).2.length:=by simp
 rw[hplen] at hvo;have hown:∀ k,vp.ownBlock=some k->w.heap.size<=k/\k<W.heap.size:=by obtain⟨es,h1,_⟩:=ho;exact λk hk=>h1.lt k hk
 rcases aB c cols with hlt | hge;rotate_left
 ·refine .sr (.lssF O O O (by omega) (.nil (.seq (.condF O (.exit ?_)))));have:c=cols:=by omega
  subst this;exact⟨rfl,vp,lkA rfl,hc,ho,hf,hd⟩
 have hcC:c<C:=by omega
 refine .sr (.lssT O O O (by omega) (.nil (.seq (.condT O (.skip (.seq (.block (.sr (.mv O O (.an O O ?_))))))))));generalize hq:(elim n f c).2.length=q at *;generalize hg:(elim n f c).1=g at *;have hoR:eI.R (λ_=>True) W vp (A7 (elim n f c).2):=by obtain⟨es,h1,h2⟩:=ho;exact RL.ofOwn h1 O ⟨h2.1,λi e x he hx=>h2.2 i e x he hx⟩ (λk hk=>trivial)
 refine .sr (.mv O O (.lenR C5 O O hoR ?_));rw[hplen];refine .an O O (.seq (.sr (.mv O O (.mv O O (.len E4 O O ?_)))));by_cases hqn:q=n
 ·refine .eqlT O O O (by omega) (.nil (.condT O (.exit ?_)));obtain⟨h1,h2⟩:=BL4 (n:=n) (f:=f) (c:=c) (by omega) (cols-c);rw[show c+(cols-c)=cols by omega] at h1 h2;rw[h1,h2,hq,hg];exact⟨rfl,_,lkA rfl,hc,ho,hf,hd⟩
 refine .eqlF O O O (by omega) (.nil (.condF O (.skip (.sr (.mv O O (.mv O O (.mv O O ?_)))))));have hM0:eM.R S w (.slice (some ⟨gb,0,none⟩) n cap) (C6 n C g)->True:=λ_=>trivial;have hMW:eM.R S W (.slice (some ⟨gb,0,none⟩) n cap) (C6 n C g):=by have:=(hf.mono (S':=S) λk _ h=>h.1).toR (c:=cap) (hsz:=by decide) hSg (by rw[A8];exact hcap) (by rw[A8];omega);rwa [A8] at this
 refine .call _ O Aq0 O (An8 hMW hql hcC (by omega)) λv2 W2 e2 h2=>?_;subst h2;have hc2:=hc.trans (Chg.ext e2);have k5:=k5.ext e2;have ho:=ho.ext e2;have hf:=hf.ext e2;have hd:=ev.chg hd (Chg.ext e2);have hszW2:=e2.size;have hstep:elim n f (c+1)=match K4 g c (n-q) q with
  | none=>elim n f c
  | some r=>(clr (swp g r q) q c,(elim n f c).2++[c]):=by rw[hnext];unfold Z8;rw[hq,hg]<;>rfl
 have hstepD:Q0 n f (c+1)=match K4 g c (n-q) q with
  | none=>Q0 n f c
  | some r=>(if r=q then Q0 n f c else -Q0 n f c)*g r c:=by rw[hnextD];unfold Ag6;rw[hq,hg]<;>rfl
 cases hp:K4 g c (n-q) q with
 | none =>
  rw[hp] at hstep hstepD;refine .mv O O (.ext O O O (.ext O O O (.asg O O (.an O O (.seq (.sr (.mv O O (.not_ O O (.nil (.condT O (.exit ?_)))))))))));refine .region (.add O O O (.mv O O (.nil ?_)));rw[wI (by omega)];refine⟨rfl,(c+1,vp),lkA rfl,⟨hc2,hlt,k5,?_,?_,?_⟩,by show cols-(c+1)<cols-c;omega⟩
  ·rw[hstep];exact ho
  ·rw[hstep,hg];exact hf
  ·rw[hstep,hstepD,hq];exact hd
 | some r =>
 rw[hp] at hstep hstepD;obtain⟨hr1,hr2,hr3,_⟩:=N8 hp;have hrn:r<n:=by omega
 have hqlt:q<n:=by omega
 refine .mv O O (.ext O O O (.ext O O O (.asg O O (.an O O (.seq (.sr (.mv O O (.not_ O O (.nil (.condF O (.skip ?_)))))))))));have upT:∀ {W':World},W2.heap.size<=W'.heap.size->Up (λk=>(S k/\vp.ownBlock≠some k)/\k≠gb) W':=λhs k hk=>⟨⟨up k (by omega),λh=>by have:=(hown k h).2;omega⟩,by omega⟩;have hTZ:∀ k,((S k/\vp.ownBlock≠some k)/\k≠gb)->S k/\¬ tak gb vp k/\¬ X k:=λk hk=>⟨hk.1.1,λh=>by rcases h with h | h;exact hk.2 h;exact hk.1.2 h,hSX k hk.1.1⟩;have hZ:∀ {W':World},W2.heap.size<=W'.heap.size->∀ k,tak gb vp k->k<W'.heap.size/\¬ X k:=λhs k hk=>by
  rcases hk with rfl | hk
  ·exact⟨by omega,hXg⟩
  ·exact⟨by have:=(hown k hk).2;omega,λh=>by have:=(hX k h).1;have:=(hown k hk).1;omega⟩
 have hfX:∀ k,(S k/\vp.ownBlock≠some k)->¬ X k:=λk hk=>hSX k hk.1;have hXY:∀ {A B:World},Chg X A B->Chg Y A B:=λh=>h.mono λk _ hk=>hYi k (.inr hk);have hUY:∀ {A B:World},Upd A B gb->Chg Y A B:=λh=>Chg.upd h (hYi _ (.inl O));have hUZ:∀ {A B:World},Upd A B gb->Chg (tak gb vp) A B:=λh=>Chg.upd h (.inl O);refine .mid (α:=Unit) (λ_=>[(0,.slice (some ⟨gb,0,none⟩) n cap),(5,pW b5),(7,vp),(8,iW (c:Nat)),(9,iW (q:Nat)),(16,iW (cols:Nat)),(17,iW (c:Nat))])
  (λ_ W3=>Chg Y W2 W3/\FB eV 26 (λk=>S k/\vp.ownBlock≠some k) W3 gb (C6 n C (swp g r q))/\D (tak gb vp) q (if r=q then Q0 n f c else -Q0 n f c) W3) ?_ ?_
 ·refine .sr (.mv O O (.mv O O ?_));by_cases hrq:r=q
  ·refine .neqF O O O (by omega) (.nil (.condF O (.skip ?_)));refine⟨rfl,(),lkA rfl,Chg.refl _,?_,?_⟩
   ·have:C6 n C (swp g r q)=C6 n C g:=E7 λi k _ _=>by
     unfold swp;by_cases ei:i=q
     ·simp[hrq,ei]
     ·simp[hrq,ei]
    rw[this];exact hf
   ·rw[if_pos hrq];exact hd
  ·refine .neqT O O O (by omega) (.nil (.condT O (.seq ?_)));refine .heldT follows true (λ_=>True) [some _,some (iW (r:Nat)),some _,some (iW (q:Nat)),some _,some (iW (q:Nat)),some (.pointer (some ⟨gb,0+q*1,none⟩)),none,some _,some (iW (r:Nat)),some (.pointer (some ⟨gb,0+r*1,none⟩)),none,some (.pointer (some ⟨gb,0+r*1,none⟩)),none,some (.pointer (some ⟨gb,0+q*1,none⟩)),none]
    (.two 7 (.one 11 (.one 13 (.one 15 .done))) 11 (.one 7 (.one 13 (.one 15 .done)))) (by kernel_rfl) (by kernel_rfl)
    ⟨λ_ _=>v_mv rfl,λ_ _=>v_mv rfl,λ_ _=>v_mv rfl,λ_ _=>v_mv rfl,λ_ _=>v_mv rfl,λ_ _=>v_mv rfl,λ_ _=>G6 (i:=q) E4 C2 O O hqlt,λ_ _=>v_mv rfl,λ_ _=>v_mv rfl,λ_ _=>G6 (i:=r) E4 C2 O O hrn,λ_ _=>G6 (i:=r) E4 C2 O O hrn,λ_ _=>G6 (i:=q) E4 C2 O O hqlt,trivial⟩ ?_
   intro W3 e3 _;obtain⟨x7,h7,p7⟩:=(hf.ext e3).at_ (by decide) (F2 hqlt);obtain⟨x11,h11,p11⟩:=(hf.ext e3).at_ (by decide) (F2 hrn);have q7:Ac3 W3 ⟨gb,0+q*1,none⟩ x7:=by rw[aD];exact p7
   have q11:Ac3 W3 ⟨gb,0+r*1,none⟩ x11:=by rw[aD];exact p11
   refine .gv2 (.gv O trivial O (AH4 (E:=eV) C2 O q7 h7).gv ?_) (.gv O trivial O (AH4 (E:=eV) C2 O q11 h11).gv ?_);all_goals
    rintro _ _ ⟨rfl,rfl⟩;refine .gv O trivial O (by first | exact (AH4 (E:=eV) C2 O q11 h11).gv | exact (AH4 (E:=eV) C2 O q7 h7).gv) ?_
    rintro _ _ ⟨rfl,rfl⟩;refine .gv O trivial O (AQ3 (E:=eV) (i:=r) (by decide) C2 O O (hf.ext e3) O (by rw[A8];exact hrn) (aD _) h7) ?_;rintro _ W4 ⟨f4,u4⟩;refine .gv O trivial O (AQ3 (E:=eV) (i:=q) (by decide) C2 O O f4 O (by rw[bV,A8];exact hqlt) (aD _) (ER.upd eV h11 u4 (λh=>h.2 O))) ?_;rintro _ W5 ⟨f5,u5⟩;refine .nil (.inl O) ?_;rw[R5 hrn,R5 hqlt] at f5;have e5:C6 n C (λj k=>if j=q then g r k else if j=r then g q k else g j k)=C6 n C (swp g r q):=E7 λi k _ _=>by
     unfold swp;by_cases e1:i=q
     ·subst e1;rw[if_pos rfl,if_neg (λh=>hrq h.symm),if_pos rfl]
     ·by_cases e2:i=r
      ·rw[if_neg e1,if_pos e2,if_pos e2]
      ·rw[if_neg e1,if_neg e2,if_neg e2,if_neg e1]
    rw[e5] at f5;have c25:Chg Y W2 W5:=((Chg.ext e3).trans (hUY u4)).trans (hUY u5);have d5:=ev.chg hd (((Chg.ext e3).trans (hUZ u4)).trans (hUZ u5));have k55:=c25.blk k5 hb5X;refine .region (.fa fld_EV0 O O (.ld ty_E0 O O k55 O ?_));refine .callvG [] O (show some fe=some (Value.func (.func xe) #[] cape) by rw[hfe]) ev.entE O (ev.exch d5 (hZ c25.size)) ?_;rintro v6 W6 ⟨c6,d6⟩;refine .nil ⟨rfl,(),lkA rfl,c25.trans (hXY c6),f5.chg c6 hXg hfX,?_⟩;rw[if_neg hrq];exact d6
 rintro _ W3 ⟨c3,f3,d3⟩;have k5:=c3.blk k5 hb5X;have hs3:=c3.size;generalize hdd:(if r=q then Q0 n f c else -Q0 n f c)=dd at *;have hsq:swp g r q q c=g r c:=by
  unfold swp;by_cases e:q=r
  ·simp[e]
  ·simp[e]
 have hss:=BM6 (a:=r) (b:=q) hrn hqlt hsg;generalize hs:swp g r q=s at *;have hs0:s q c≠0:=by rw[hsq];exact hr3
 have hqk:qk (bd L q) (qc (s q c)):=AJ7 (hss q c hqlt hcC);refine .seq ?_;refine .par follows 9 [.inl _,.inl fs,.inl _,.inl (iW (q:Nat)),.inl _,.inr (eV.at (λk=>(S k/\vp.ownBlock≠some k)/\k≠gb) (tab C (s q))),.inl (iW (c:Nat)),.inr (Ptr eQ (λk=>(S k/\vp.ownBlock≠some k)/\k≠gb) (qc (s q c))),.inr (eQ.at (λk=>(S k/\vp.ownBlock≠some k)/\k≠gb) (qc (s q c)))]
  [[],[(55,0)],[],[],[(57,2),(58,3)],[(59,4)],[],[(60,5),(61,6)],[(62,7)]] (by kernel_rfl) ⟨fao fld_EV1 O,λw e=>(E2 ty_E1 O (k5.ext e) O).ob,mvo O,mvo O,λw e=>(G6 (i:=q) E4 C2 O O hqlt).ob,λw e=>AJ8 (E:=eV) (i:=q) (by decide) C2 O (aD _) (f3.ext e) (F2 hqlt),mvo O,λw e x hx=>C4 (i:=c) C9 A3 O hx O (H2 hcC),λw e p hp=>K1 A3 O hp,trivial⟩ ?_
 intro W4 e4 x5 _ x7 _ x8 h8;refine .callvG [x8] O (show some fs=some (Value.func (.func xs) #[] caps) by rw[hfs]) ev.entS O (ev.scal (ev.chg d3 (Chg.ext e4)) (hZ (by have:=e4.size;omega)) (eQ.mono (λk _ hk=>hTZ k hk) h8) (hqk.mono hBM) (by omega)) ?_;rintro v5 W5 ⟨c5,d5⟩;refine .nil ?_;rw[C3] at d5;have c35:Chg Y W3 W5:=(Chg.ext e4).trans (hXY c5);have k5:=c35.blk k5 hb5X;have f5:=(f3.ext e4).chg c5 hXg hfX;have hs5:=c35.size;have up5:=upT (show W2.heap.size<=W5.heap.size by omega);refine .seq ?_;refine .parL follows 13 [11] [.inr (eQ.at (λk=>(S k/\vp.ownBlock≠some k)/\k≠gb) (qc ((1:Int):Rat))),.inl _,.inl (iW (q:Nat)),.inl _,.inr (eV.at (λk=>(S k/\vp.ownBlock≠some k)/\k≠gb) (tab C (s q))),.inl (iW (c:Nat)),.inr (Ptr eQ (λk=>(S k/\vp.ownBlock≠some k)/\k≠gb) (qc (s q c))),.inr (eQ.at (λk=>(S k/\vp.ownBlock≠some k)/\k≠gb) (qc (s q c))),
   .inr (Two (eQ.at (λk=>(S k/\vp.ownBlock≠some k)/\k≠gb) (qc (s q c)⁻¹)) (Is (iW 0))),.inr (Two (eQ.at (λk=>(S k/\vp.ownBlock≠some k)/\k≠gb) (qc (s q c)⁻¹)) (Is (iW 0))),.inr (eQ.at (λk=>(S k/\vp.ownBlock≠some k)/\k≠gb) (qc (s q c)⁻¹)),.inl (iW 0),.inr (Ah4 W5.heap.size 39 zq.cells)]
  [[],[],[],[(67,1),(68,2)],[(69,3)],[],[(70,4),(71,5)],[(72,6)],[(66,0),(73,7)],[(74,8)],[(65,9)],[(65,9)],[]] (by kernel_rfl) ⟨λw e=>(A4 _ I2 O (H9 (up5.ext e.size) (by decide) (by decide))).oa,mvo O,mvo O,λw e=>(G6 (i:=q) E4 C2 O O hqlt).ob,λw e=>AJ8 (E:=eV) (i:=q) (by decide) C2 O (aD _) (f5.ext e) (F2 hqlt),mvo O,λw e x hx=>C4 (i:=c) C9 A3 O hx O (H2 hcC),λw e p hp=>K1 A3 O hp,λw e x hx y hy=>by
   have h1:qok (bd L q) (qc ((1:Int):Rat)):=(Rsz.int 1 (bC (by decide) (aQ (by decide) hBp)) hBp).toOk;have:=Bd7 (up5.ext e.size) hx hy h1 hqk.1 hBp (by omega) (by rw[C3];exact hs0);rw[C3,C3,show ((1:Int):Rat) / s q c=(s q c)⁻¹ by rw[dG];simp] at this;exact (A4 _ AU3 O this).ob (L3 (G7 _ _ _) (S9 _)),λw e x hx=>ob_mv O hx (L3 (G7 _ _ _) (S9 _)),λw e x hx=>by
   obtain⟨a,b,rfl,h1,rfl⟩:=hx;exact K5 (AA1 O O) h1 (G7 _ _ _),λw e x hx=>by
   obtain⟨a,b,rfl,h1,rfl⟩:=hx;exact (AA1 O O).ob,λw e=>R6 E8 e.size,trivial⟩ ?_
 intro W6 e6 x0 _ x4 _ x6 _ x7' _ x8' _ x9 _ x10 h10 x12 hx12;obtain⟨b12,rfl,hb12,k12⟩:=hx12;have h10s:=AY4 h10 k12 AC8;refine .storeA (E:=eQ) A3 O O k12 O O h10s (λh=>h.2 O) λW7 k12 u7 h7=>.an O O ?_;have x57:Ext W5 W7:=u7.below e6 hb12;have h7:eQ.R (λk=>(S k/\vp.ownBlock≠some k)/\k≠gb) W7 x10 (qc (s q c)⁻¹):=eQ.mono (λk _ h=>h.1) h7;have hx10:=G8 O h7;have k5:=k5.ext x57;have f7:=f5.ext x57;have d7:=ev.chg d5 (Chg.ext x57);have up7:=up5.ext x57.size;have c37:Chg Y W3 W7:=c35.trans (Chg.ext x57);have hki:qk (bd L q) (qc (s q c)⁻¹):=AJ7 ((hss q c hqlt hcC).inv hBp);have hkr:∀ i,i<n->vk (bd L q) (tab C (s i)):=λi hi=>T7 λk hk=>hss i k hi hk;refine .seq ?_;refine .par follows 8 [.inl _,.inl (iW (q:Nat)),.inl x10,.inl _,.inl (iW (q:Nat)),.inl _,.inr (eV.at (λk=>(S k/\vp.ownBlock≠some k)/\k≠gb) (tab C (s q))),.inr (eV.at (λk=>(S k/\vp.ownBlock≠some k)/\k≠gb) (tab C λk=>(s q c)⁻¹*s q k))]
  [[],[],[],[],[],[(80,3),(81,4)],[(82,5)],[(79,2),(83,6)]] (by kernel_rfl) ⟨mvo O,mvo O,λw e=>((E1 A3 O (k12.ext e) (eQ.csz h7)).eq hx10.symm).ob,mvo O,mvo O,λw e=>(G6 (i:=q) E4 C2 O O hqlt).ob,λw e=>AJ8 (E:=eV) (i:=q) (by decide) C2 O (aD _) (f7.ext e) (F2 hqlt),λw e x hx=>by have:=BT1 (up7.ext e.size) (ER.ext eQ h7 e) hx hki (hkr q hqlt) hBp (by omega) (by rw[A2];omega);rw[A2,C3,F5 (g:=λk=>(s q c)⁻¹*s q k) (λk hk=>by rw[L4,if_pos hk])] at this;exact (A4 _ BZ0 O this).oa,trivial⟩ ?_
 intro W8 e8 x6b _ x7b h7b;refine .ixB (i:=q) E4 C2 O O O hqlt ?_;refine .storeF (E:=eV) (i:=q) (by decide) C2 O O (f7.ext e8) O (by rw[A8];exact hqlt) (aD _) h7b λW9 f9 u9=>.nil ?_;rw[R5 hqlt] at f9;have f9':FB eV 26 (λk=>S k/\vp.ownBlock≠some k) W9 gb (C6 n C (O1 s q c 0)):=by rw[BD1];exact f9
 clear f9;have c39:Chg Y W3 W9:=(c37.trans (Chg.ext e8)).trans (hUY u9);have k9:=(Chg.trans (Chg.ext e8) (hUY u9)).blk k5 hb5X;have d9:=ev.chg d7 (Chg.trans (Chg.ext e8) (hUZ u9));have hs39:=c39.size;have hur:vk (bd L q+bd L q) (tab C λk=>(s q c)⁻¹*s q k):=T7 λk hk=>((hss q c hqlt hcC).inv hBp).mul (hss q k hqlt hk);refine .mid (α:=Unit) (λ_=>[(0,.slice (some ⟨gb,0,none⟩) n cap),(5,pW b5),(7,vp),(8,iW (c:Nat)),(16,iW (cols:Nat)),(17,iW (c:Nat))])
  (λ_ Wx=>Chg Y W3 Wx/\Blk Wx b5 228 #[fe,fs]/\FB eV 26 (λk=>S k/\vp.ownBlock≠some k) Wx gb (C6 n C (clr s q c))/\D (tak gb vp) (q+1) (dd*s q c) Wx) ?_ ?_
 ·refine .sr (.mv O O (.len E4 O O (.mv O O (.nil ?_))));refine .block (.loop (α:=Nat) (λi=>[(0,.slice (some ⟨gb,0,none⟩) n cap),(5,pW b5),(7,vp),(8,iW (c:Nat)),(9,iW (q:Nat)),(16,iW (cols:Nat)),(17,iW (c:Nat)),(86,.slice (some ⟨gb,0,none⟩) n cap),(87,iW (n:Nat)),(88,iW (i:Nat))])
   (λi Wx=>Chg Y W3 Wx/\i<=n/\Blk Wx b5 228 #[fe,fs]/\FB eV 26 (λk=>S k/\vp.ownBlock≠some k) Wx gb (C6 n C (O1 s q c i))/\D (tak gb vp) (q+1) (dd*s q c) Wx) (λi=>n-i) 0 ?_ ?_ ?_)
  ·exact lkA rfl
  ·exact⟨c39,aC _,k9,f9',d9⟩
  ·rintro i Wa ⟨ca,hi,ka,fa,da⟩;have hsa:=ca.size;have upa:=upT (show W2.heap.size<=Wa.heap.size by omega);rcases aB i n with hin | hin;rotate_left
   ·refine .sr (.lssF O O O (by omega) (.nil (.seq (.condF O (.exit ?_)))));have:i=n:=by omega
    subst this;rw[BL6] at fa;exact⟨rfl,(),lkA rfl,ca,ka,fa,da⟩
   refine .sr (.lssT O O O (by omega) (.nil (.seq (.condT O (.skip (.seq (.block (.sr (.mv O O ?_)))))))));refine .ixB (i:=i) E4 C2 O O O hin (.ldF (E:=eV) (i:=i) (by decide) C2 O O (aD _) fa (F2 hin) λer her=>.asg O O (.an O O ?_));have hback:∀ {Wb:World} {σ:Env},Chg Y W3 Wb->Blk Wb b5 228 #[fe,fs]->FB eV 26 (λk=>S k/\vp.ownBlock≠some k) Wb gb (C6 n C (O1 s q c (i+1)))->D (tak gb vp) (q+1) (dd*s q c) Wb ->
     Chg Y W3 Wb/\i+1<=n/\Blk Wb b5 228 #[fe,fs]/\FB eV 26 (λk=>S k/\vp.ownBlock≠some k) Wb gb (C6 n C (O1 s q c (i+1)))/\D (tak gb vp) (q+1) (dd*s q c) Wb:=λh1 h2 h3 h4=>⟨h1,hin,h2,h3,h4⟩
   by_cases hiq:i=q
   ·refine .sr (.mv O O (.mv O O (.neqF O O O (by omega) (.mv O O (.gs O O O O O (.gs O O O O O (.gs O O O O O (.gs O O O O O (.gs O O O O O (.gs O O O O O (.pick O O O (.nil (.condF O (.skip ?_))))))))))))));refine .region (.add O O O (.mv O O (.nil ?_)));rw[wI (by omega)];refine⟨rfl,i+1,lkA rfl,⟨ca,hin,ka,?_,da⟩,by show n-(i+1)<n-i;omega⟩;have:C6 n C (O1 s q c (i+1))=C6 n C (O1 s q c i):=E7 λj k _ _=>by
     rw[AK3];by_cases ej:j=i
     ·simp only[ej,hiq,if_true];unfold O1;simp
     ·simp only[ej,if_false]
    rw[this];exact fa
   ·have hrow:∀ k,O1 s q c i i k=s i k:=λk=>by unfold O1;rw[if_neg hiq,if_neg (by omega)]
    have hrowt:tab C (O1 s q c i i)=tab C (s i):=F5 λk _=>hrow k;rw[hrowt] at her;refine .sr (.mv O O (.mv O O (.neqT O O O (by omega) (.mv O O (.gr O O O O (.mv O O (.gr O O O O (.mv O O (.gr O O O O ?_)))))))));refine .ixN (i:=c) C9 A3 O O her O (H2 hcC) λp hp=>.gr O O O O (.ldE A3 O O hp λex hex=>.gr O O O O ?_);refine .call _ O AN4 O (AM5 hex) λvs Wb eb hvs=>.gr O O O O ?_;subst hvs;rw[C3];have kb:=ka.ext eb;have fb:=fa.ext eb;have db:=ev.chg da (Chg.ext eb);have cb:=ca.trans (Chg.ext eb);have upb:=upa.ext eb.size;have herb:=ER.ext eV her eb;by_cases hz:s i c=0
    ·refine .neqF O O O (AI8.2 hz) (.pick O O O (.nil (.condF O (.skip ?_))));refine .region (.add O O O (.mv O O (.nil ?_)));rw[wI (by omega)];refine⟨rfl,i+1,lkA rfl,⟨cb,hin,kb,?_,db⟩,by show n-(i+1)<n-i;omega⟩;have:C6 n C (O1 s q c (i+1))=C6 n C (O1 s q c i):=E7 λj k _ _=>by
      rw[AK3];by_cases ej:j=i
      ·simp only[ej,hiq,if_true,if_false];rw[hrow,hz];grind
      ·simp only[ej,if_false]
     rw[this];exact fb
    ·refine .neqT O O O (λh=>hz (AI8.1 h)) (.pick O O O (.nil (.condT O ?_)));have hrq:tab C (O1 s q c i q)=tab C λk=>(s q c)⁻¹*s q k:=F5 λk _=>by unfold O1;rw[if_pos rfl]
     refine .par follows 13 [.inl _,.inl (iW (i:Nat)),.inl er,.inl (iW (c:Nat)),.inr (Ptr eQ (λk=>(S k/\vp.ownBlock≠some k)/\k≠gb) (qc (s i c))),.inr (eQ.at (λk=>(S k/\vp.ownBlock≠some k)/\k≠gb) (qc (s i c))),.inr (eQ.at (λk=>(S k/\vp.ownBlock≠some k)/\k≠gb) (qc (-(s i c)))),
       .inl _,.inl (iW (q:Nat)),.inl _,.inr (eV.at (λk=>(S k/\vp.ownBlock≠some k)/\k≠gb) (tab C λk=>(s q c)⁻¹*s q k)),.inl er,.inr (eV.at (λk=>(S k/\vp.ownBlock≠some k)/\k≠gb) (tab C λk => -(s i c)*((s q c)⁻¹*s q k)+s i k))]
      [[],[],[],[],[(106,2),(107,3)],[(108,4)],[(109,5)],[],[],[(111,7),(112,8)],[(113,9)],[],[(110,6),(114,10),(115,11)]] (by kernel_rfl) ⟨mvo O,mvo O,mvo O,mvo O,λw e=>C4 (i:=c) C9 A3 O (ER.ext eV herb e) O (H2 hcC),λw e p hp=>K1 A3 O hp,λw e x hx=>by
       have:=BB6 (L:=bd L q) (upb.ext e.size) hx (AJ7 (hss i c hin hcC)) hBp (by omega);rw[C3] at this;exact (A4 _ BF0 O this).oa,mvo O,mvo O,λw e=>(G6 (i:=q) E4 C2 O O hqlt).ob,λw e=>hrq▸AJ8 (E:=eV) (i:=q) (by decide) C2 O (aD _) (fb.ext e) (F2 hqlt),mvo O,λw e x hx y hy=>by
       have:=At2 (L:=bd L q+bd L q) (upb.ext e.size) hx hy (ER.ext eV herb e) (by rw[A2];omega) (by rw[A2];omega) (AJ7 ((hss i c hin hcC).neg.mono (by omega))) hur ((hkr i hin).mono (by omega)) (by omega) (by omega);rw[A2,A2,fV,C3,F5 (g:=λk => -(s i c)*((s q c)⁻¹*s q k)+s i k) (λk hk=>by rw[L4,L4,if_pos hk,if_pos hk])] at this;exact (A4 _ Au8 O this).oa,trivial⟩ ?_
     intro Wd ed y4 _ y5 _ y6 _ y10 _ y12 hy12;refine .ixB (i:=i) E4 C2 O O O hin ?_;refine .storeF (E:=eV) (i:=i) (by decide) C2 O O (fb.ext ed) O (by rw[A8];exact hin) (aD _) hy12 λWe fe' ue=>.nil ?_;rw[R5 hin] at fe';refine .region (.add O O O (.mv O O (.nil ?_)));rw[wI (by omega)];refine⟨rfl,i+1,lkA rfl,⟨(cb.trans (Chg.ext ed)).trans (hUY ue),hin,(Chg.trans (Chg.ext ed) (hUY ue)).blk kb hb5X,?_,ev.chg db (Chg.trans (Chg.ext ed) (hUZ ue))⟩,by show n-(i+1)<n-i;omega⟩;rw[AK3];simp only[hiq,if_false];exact fe'
 rintro _ Wx ⟨cx,kx,fx,dx⟩;have hsx:=cx.size;have hox:B4 (B8 .i64) 3 w.heap.size S Wx vp (A7 (elim n f c).2):=ho.chgI (c3.trans cx) hYw;have c2x:Chg Y w Wx:=hc2.trans (c3.trans cx);refine .region (.mv O O (.mv O O (.bsl [(0,iW (c:Nat))] O O S7 λWy by_ ny=>?_)));obtain⟨ey,ky,hby,hsy⟩:=ny;have hlen:(A7 (elim n f c).2).length<=1000000000:=by rw[hplen];omega
 have hint:(B8 .i64).R (λk=>S k/\vp.ownBlock≠some k) Wy (iW (c:Nat)) (c:Int):=⟨rfl,gR (by decide:IntKind.min .i64<=0) (by omega),gR (by omega:(c:Int)<=1000) (by decide)⟩;refine .gv O O (V8 (E:=B8 .i64) (base:=w.heap.size) (n:=(c:Int)) (e:=.int .i64 (c:Nat)) (by decide) C5 P6 O O O (hox.ext ey) ky hint hlen (by decide) (by have:=ey.size;omega)) ?_;rintro vq Wz ⟨hoz,hgz,hwz⟩;refine .an O O (.region (.add O O O (.mv O O (.nil ?_))));rw[wI (by omega)];have hpg:vp.ownBlock≠some gb:=λh=>by have:=(hown gb h).1;omega
 have hcz:Chg Y w Wz:=(c2x.trans (Chg.ext ey)).step (Chg.grown hgz) λk hk h=>by have:=(hown k h).1;omega
 refine⟨rfl,(c+1,vq),lkA rfl,⟨hcz,hlt,?_,?_,?_,?_⟩,by show cols-(c+1)<cols-c;omega⟩
 ·exact (hox.ext ey).gblk hgz (kx.ext ey) (by decide)
 ·rw[hstep];show B4 (B8 .i64) 3 w.heap.size S Wz vq (A7 ((elim n f c).2++[c]));rw[show A7 ((elim n f c).2++[c])=A7 (elim n f c).2++[(c:Int)] by simp];exact hoz
 ·rw[hstep];show FB eV 26 (λk=>S k/\vq.ownBlock≠some k) Wz gb (C6 n C (clr (swp g r q) q c));rw[hs];exact (fx.ext ey).grow hgz hwz hpg
 ·have hz:D (λk=>tak gb vp k\/tak gb vq k) (q+1) (dd*s q c) Wy:=ev.mono (ev.chg dx (Chg.ext ey)) λk hk h=>by
   rcases h with h | h | h
   ·exact h
   ·exact .inl h
   ·rcases hwz with e | e
    ·rw[e] at h;exact .inr h
    ·rw[e] at h;cases h;omega
  have hz2:=ev.chg hz ((Chg.grown hgz).mono λk _ h=>.inl (.inr h));have hz3:=ev.mono (Z':=tak gb vq) hz2 λk _ h=>.inr h;rw[hstep,hstepD];show D (tak gb vq) ((elim n f c).2++[c]).length _ Wz;have e9:(if r=q then Q0 n f c else -Q0 n f c)*g r c=dd*s q c:=by rw[hdd,hsq]
  show D (tak gb vq) ((elim n f c).2++[c]).length ((if r=q then Q0 n f c else -Q0 n f c)*g r c) Wz;rw[aL,hq,e9];exact hz3
def eF:ER FuncId where
 sz:=1
 isA:=true
 R:=λ_ _ v f=>v=.agg #[.func (.func f) #[] #[]]
 csz:=by rintro S w e x rfl;rfl
 one:=by rintro S w e x rfl u hu;simp[Value.cells] at hu;subst hu;rfl
 shp:=by rintro S w e x rfl;rfl
 keep:=λ_ h=>h
 mono:=λ_ h=>h
abbrev eFs:ER (List FuncId):=RL eF
def ck (i:Nat) (b:Int) (l:LnV):Bool:=match i with
 | 0=>decide (0<=l.f) && decide (l.f<b)
 | 1=>decide (0<=l.t) && decide (l.t<b)
 | 2 => !(l.f == l.t)
 | 3=>decide (1<=l.x) && decide (l.x<=1000)
 | _=>decide (0<=l.c) && decide (l.c<=1000000)
def Bk0 (b:Int) (l:LnV):Prop:=∀ i,i<5->ck i b l=true
def BX7 (n:NtV):Prop:=∀ i,i<n.ls.length->∀ l,n.ls[i]?=some l->Bk0 n.b l
def AB5 (n:NtV) (o:List Int):Prop:=∀ i,i<o.length->0<=o.getD i 0/\o.getD i 0<n.ls.length/\(0<i->o.getD (i-1) 0<o.getD i 0)
open Classical in
noncomputable def AA2 (n:NtV):Int:=if n.b<1\/6<n.b then 1 else if 10<n.ls.length then 5 else if BX7 n then 0 else 1
open Classical in
noncomputable def C8 (n:NtV) (o:List Int):Int:=if AA2 n≠0 then AA2 n else if AB5 n o then 0 else 1
theorem G2:F6 prog 24=some (true,2):=by kernel_rfl
theorem L8:F6 prog 53=some (true,4):=by kernel_rfl
theorem J0:F6 prog 22=some (false,1):=by kernel_rfl
theorem I6:prog.underlying 22=some (.slice 53):=by kernel_rfl
theorem Aa0:M0 prog 53=some (.agg #[iW 0,iW 0,iW 0,iW 0]):=by kernel_rfl
theorem F9:U7 prog 24 0=some 0:=by kernel_rfl
theorem G5:U7 prog 24 1=some 1:=by kernel_rfl
theorem I5:U7 prog 53 0=some 0:=by kernel_rfl
theorem I4:U7 prog 53 1=some 1:=by kernel_rfl
theorem AI2:U7 prog 53 2=some 2:=by kernel_rfl
theorem Aw5:U7 prog 53 3=some 3:=by kernel_rfl
theorem un_Cs:prog.underlying 154=some (.slice 158):=by kernel_rfl
theorem Bs2:F6 prog 158=some (true,1):=by kernel_rfl
theorem zero_Ck:M0 prog 158=some (.agg #[.nilFunc]):=by kernel_rfl
theorem fld_Ck0:U7 prog 158 0=some 0:=by kernel_rfl
theorem ty_FCk:F6 prog 156=some (false,1):=by kernel_rfl
theorem BD5{f:FuncId}:AK4 prog 158 [(0,.func (.func f) #[] #[])]=some #[.func (.func f) #[] #[]]:=by kernel_rfl
theorem bsl_Ck5{a b c d e:Value}:Y7 prog 154 5 [(0,.agg #[a]),(1,.agg #[b]),(2,.agg #[c]),(3,.agg #[d]),(4,.agg #[e])]=some (158,#[a,b,c,d,e]):=by kernel_rfl
theorem As9:Ent prog 165:=en func165
theorem Ar9{S:Nat->Prop}{n:NtV}{b:Int}(hn:eN.R S w vn n):CR prog 165 #[vn,iW b] w (Is (.bool (decide (0<=b) && decide (b<n.b)))):=by
 obtain⟨s,rfl,hs,_⟩:=hn;refine enter func165 O ntmps165 O (.sr (.box O O λw1 b2 n1=>.an O O ?_));obtain⟨e1,k2,_,_⟩:=n1;refine .sr (.mv O O ?_);by_cases h0:0<=b
 ·refine .leqT O O O h0 (.mv O O (.gr O O O O (.mv O O (.gr O O O O (.fa F9 O O (.gr O O O O (.ld A5 O O k2 O (.gr O O O O ?_))))))));rw[decide_eq_true h0];by_cases h1:b<n.b
  ·refine .lssT O O O h1 (.pick O O O (.an O O (.ret ?_)));exact .plain [_] results165 ⟨rfl,trivial⟩ ⟨e1,by rw[decide_eq_true h1]<;>rfl⟩
  ·refine .lssF O O O (by omega) (.pick O O O (.an O O (.ret ?_)));exact .plain [_] results165 ⟨rfl,trivial⟩ ⟨e1,by rw[decide_eq_false h1]<;>rfl⟩
 ·refine .leqF O O O (by omega) (.mv O O (.gs O O O O O (.gs O O O O O (.gs O O O O O (.gs O O O O O (.pick O O O (.an O O (.ret ?_))))))));exact .plain [_] results165 ⟨rfl,trivial⟩ ⟨e1,by rw[decide_eq_false h0]<;>rfl⟩
section
variable {S:Nat->Prop} {w:World} {vn vl:Value} {n:NtV} {l:LnV}
theorem E_ck1:Ent prog 164:=en func164
theorem ck1_c (hn:eN.R S w vn n) (hl:eL.R S w vl l):CR prog 164 #[vn,vl] w (Is (.bool (ck 0 n.b l))):=by have hvn:=G8 O hn;obtain⟨rfl,_⟩:=hl;refine enter func164 O ntmps164 O (.sr (.box O O λw1 b2 n1=>.box O O λw2 b3 n2=>.an O O ?_));obtain⟨e1,k2,_,_⟩:=n1;obtain⟨e2,k3,_,_⟩:=n2;refine .sr (.ldA G2 O O (k2.ext e2) (eN.csz hn) (.fa I5 O O (.ld A5 O O k3 O ?_)));rw[<-hvn];refine .call _ O As9 O (Ar9 (hn.ext (e1.trans e2))) λv3 w3 e3 h3=>.an O O (.ret ?_);exact .p1 _ results164 O ⟨(e1.trans e2).trans e3,h3⟩
theorem E_ck2:Ent prog 166:=en func166
theorem ck2_c (hn:eN.R S w vn n) (hl:eL.R S w vl l):CR prog 166 #[vn,vl] w (Is (.bool (ck 1 n.b l))):=by have hvn:=G8 O hn;obtain⟨rfl,_⟩:=hl;refine enter func166 O ntmps166 O (.sr (.box O O λw1 b2 n1=>.box O O λw2 b3 n2=>.an O O ?_));obtain⟨e1,k2,_,_⟩:=n1;obtain⟨e2,k3,_,_⟩:=n2;refine .sr (.ldA G2 O O (k2.ext e2) (eN.csz hn) (.fa I4 O O (.ld A5 O O k3 O ?_)));rw[<-hvn];refine .call _ O As9 O (Ar9 (hn.ext (e1.trans e2))) λv3 w3 e3 h3=>.an O O (.ret ?_);exact .p1 _ results166 O ⟨(e1.trans e2).trans e3,h3⟩
theorem E_ck3:Ent prog 167:=en func167
theorem ck3_c (hl:eL.R S w vl l):CR prog 167 #[vn,vl] w (Is (.bool (ck 2 n.b l))):=by obtain⟨rfl,_⟩:=hl;refine enter func167 O ntmps167 O (.sr (.box O O λw1 b2 n1=>.box O O λw2 b3 n2=>.an O O ?_));obtain⟨e1,k2,_,_⟩:=n1;obtain⟨e2,k3,_,_⟩:=n2;refine .sr (.fa I5 O O (.ld A5 O O k3 O (.fa I4 O O (.ld A5 O O k3 O (.neq O O O (.an O O (.ret ?_)))))));exact .p1 _ results167 O ⟨e1.trans e2,rfl⟩
theorem E_ck4:Ent prog 168:=en func168
theorem ck4_c (hl:eL.R S w vl l):CR prog 168 #[vn,vl] w (Is (.bool (ck 3 n.b l))):=by
 obtain⟨rfl,_⟩:=hl;refine enter func168 O ntmps168 O (.sr (.box O O λw1 b2 n1=>.box O O λw2 b3 n2=>.an O O ?_));obtain⟨e1,k2,_,_⟩:=n1;obtain⟨e2,k3,_,_⟩:=n2;refine .sr (.fa AI2 O O (.ld Z4 O O k3 O ?_));by_cases h0:1<=l.x
 ·refine .leqT O O O h0 (.mv O O (.gr O O O O (.fa AI2 O O (.gr O O O O (.ld Z4 O O k3 O (.gr O O O O ?_))))));by_cases h1:l.x<=1000
  ·refine .leqT O O O h1 (.pick O O O (.an O O (.ret ?_)));exact .plain [_] results168 ⟨rfl,trivial⟩ ⟨e1.trans e2,by unfold ck;rw[decide_eq_true h0,decide_eq_true h1]<;>rfl⟩
  ·refine .leqF O O O (by omega) (.pick O O O (.an O O (.ret ?_)));exact .plain [_] results168 ⟨rfl,trivial⟩ ⟨e1.trans e2,by unfold ck;rw[decide_eq_true h0,decide_eq_false h1]<;>rfl⟩
 ·refine .leqF O O O (by omega) (.mv O O (.gs O O O O O (.gs O O O O O (.gs O O O O O (.pick O O O (.an O O (.ret ?_)))))));exact .plain [_] results168 ⟨rfl,trivial⟩ ⟨e1.trans e2,by unfold ck;rw[decide_eq_false h0]<;>rfl⟩
theorem E_ck5:Ent prog 169:=en func169
theorem ck5_c (hl:eL.R S w vl l):CR prog 169 #[vn,vl] w (Is (.bool (ck 4 n.b l))):=by
 obtain⟨rfl,_⟩:=hl;refine enter func169 O ntmps169 O (.sr (.box O O λw1 b2 n1=>.box O O λw2 b3 n2=>.an O O ?_));obtain⟨e1,k2,_,_⟩:=n1;obtain⟨e2,k3,_,_⟩:=n2;refine .sr (.fa Aw5 O O (.ld Z4 O O k3 O ?_));by_cases h0:0<=l.c
 ·refine .leqT O O O h0 (.mv O O (.gr O O O O (.fa Aw5 O O (.gr O O O O (.ld Z4 O O k3 O (.gr O O O O ?_))))));by_cases h1:l.c<=1000000
  ·refine .leqT O O O h1 (.pick O O O (.an O O (.ret ?_)));exact .plain [_] results169 ⟨rfl,trivial⟩ ⟨e1.trans e2,by unfold ck;rw[decide_eq_true h0,decide_eq_true h1]<;>rfl⟩
  ·refine .leqF O O O (by omega) (.pick O O O (.an O O (.ret ?_)));exact .plain [_] results169 ⟨rfl,trivial⟩ ⟨e1.trans e2,by unfold ck;rw[decide_eq_true h0,decide_eq_false h1]<;>rfl⟩
 ·refine .leqF O O O (by omega) (.mv O O (.gs O O O O O (.gs O O O O O (.gs O O O O O (.pick O O O (.an O O (.ret ?_)))))));exact .plain [_] results169 ⟨rfl,trivial⟩ ⟨e1.trans e2,by unfold ck;rw[decide_eq_false h0]<;>rfl⟩
end
def ckFs:List FuncId:=[164,166,167,168,169]
theorem ckFs_c{S:Nat->Prop}{vl:Value}{n:NtV}{l:LnV}(hn:eN.R S w vn n)(hl:eL.R S w vl l){f:FuncId}(hf:ckFs[i]?=some f):Ent prog f/\CR prog f #[vn,vl] w (Is (.bool (ck i n.b l))):=by
 match i with
 | 0=>cases hf;exact⟨E_ck1,ck1_c hn hl⟩
 | 1=>cases hf;exact⟨E_ck2,ck2_c hn hl⟩
 | 2=>cases hf;exact⟨E_ck3,ck3_c hl⟩
 | 3=>cases hf;exact⟨E_ck4,ck4_c hl⟩
 | 4=>cases hf;exact⟨E_ck5,ck5_c hl⟩
 | i+5=>simp[ckFs] at hf
theorem BR6:Ent prog 113:=en func113
theorem BO0:CR prog 113 #[] w (eFs.at (λ_=>True) ckFs):=by refine enter func113 O ntmps113 O (.sr (.an O O (.sr (.bld _ O O BD5 (.bld _ O O BD5 (.bld _ O O BD5 (.bld _ O O BD5 (.bld _ O O BD5 (.bsl _ O O bsl_Ck5 λw1 b1 n1=>.an O O (.ret (.plain [_] results113 ⟨rfl,trivial⟩ ⟨n1.1,?_⟩)))))))))));exact BC2 (E:=eF) [.agg #[.func (.func 164) #[] #[]],.agg #[.func (.func 166) #[] #[]],.agg #[.func (.func 167) #[] #[]],.agg #[.func (.func 168) #[] #[]],.agg #[.func (.func 169) #[] #[]]] ckFs n1 (λ_ _=>trivial) O O (by decide) (Els.snoc (Els.snoc (Els.snoc (Els.snoc (Els.snoc Els.nil O) O) O) O) O)
theorem Ba1:Ent prog 66:=en func66
theorem BW2{S:Nat->Prop}{n:NtV}(hn:eN.R S w vn n):CR prog 66 #[vn] w (Is (iW (AA2 n))):=by
 obtain⟨s,rfl,hs,hb⟩:=hn;have hn:eN.R S w (.agg #[iW n.b,s]) n:=⟨s,rfl,hs,hb⟩;obtain⟨_,_,_,_,hll⟩:=RL.len hs;refine enter func66 O ntmps66 O (.sr (.box O O λw1 b1 n1=>.an O O ?_));obtain⟨e1,k1,hb1,hs1⟩:=n1;have hB:n.b<1\/6<n.b->AA2 n=1:=λh=>by unfold AA2;rw[if_pos h]
 refine .scope (.seq (.sr (.fa F9 O O (.ld A5 O O k1 O ?_))));by_cases h1:n.b<1
 ·refine .lssT O O O h1 (.mv O O (.gs O O O O O (.gs O O O O O (.gs O O O O O (.pick O O O (.nil (.condT O (.sr (.an O O (.ret ?_))))))))));exact .plain [_] results66 ⟨rfl,trivial⟩ ⟨e1,by rw[hB (.inl h1)];rfl⟩
 refine .lssF O O O (by omega) (.mv O O (.gr O O O O (.fa F9 O O (.gr O O O O (.ld A5 O O k1 O (.gr O O O O ?_))))));by_cases h6:6<n.b
 ·refine .gtrT O O O h6 (.pick O O O (.nil (.condT O (.sr (.an O O (.ret ?_))))));exact .plain [_] results66 ⟨rfl,trivial⟩ ⟨e1,by rw[hB (.inr h6)];rfl⟩
 refine .gtrF O O O (by omega) (.pick O O O (.nil (.condF O (.skip (.seq (.sr (.fa G5 O O (.ld J0 O O k1 O (.lenR I6 O O (hs.ext e1) ?_)))))))));by_cases h10:10<n.ls.length
 ·refine .gtrT O O O (by omega) (.nil (.condT O (.sr (.an O O (.ret ?_)))));exact .plain [_] results66 ⟨rfl,trivial⟩ ⟨e1,by unfold AA2;rw[if_neg (by omega),if_pos h10]<;>rfl⟩
 have hE:BX7 n->AA2 n=0:=λh=>by unfold AA2;rw[if_neg (by omega),if_neg h10,if_pos h]
 have hE1:¬ BX7 n->AA2 n=1:=λh=>by unfold AA2;rw[if_neg (by omega),if_neg h10,if_neg h]
 refine .gtrF O O O (by omega) (.nil (.condF O (.skip (.sr (.an O O (.sr (.call _ O BR6 O BO0 λva w2 e2 hF=>.an O O (.seq (.label ?_)))))))));have x2:=e1.trans e2;have k1:=k1.ext e2;refine .seq (.sr (.fa G5 O O (.ld J0 O O k1 O (.lenR I6 O O (hs.ext x2) (.mv O O (.nil ?_))))));have hret:∀ {W:World} {σ:Env} {e:Int},Ext w W->AA2 n=e->Q3 prog Tryz.f66 44 (λv w'=>Ext w w'/\Is (iW (AA2 n)) v w') ((2,iW e)::σ) [] W:=λhW he=>.plain [_] results66 ⟨rfl,trivial⟩ ⟨hW,by rw[he];rfl⟩;refine .block (.loop (α:=Nat) (λi=>[(1,pW b1),(3,iW 0),(4,va),(23,s),(24,iW (n.ls.length:Nat)),(25,iW (i:Nat))]) (λi W=>Ext w2 W/\i<=n.ls.length/\∀ j,j<i->∀ l,n.ls[j]?=some l->Bk0 n.b l) (λi=>n.ls.length-i) 0 ?_ ?_ ?_)
 ·exact lkA rfl
 ·exact⟨Ext.refl _,aC _,λj hj=>absurd hj (bK _)⟩
 rintro i W ⟨hW,hi,hall⟩;refine .sr ?_;rcases aB i n.ls.length with hlt | hge;rotate_left
 ·refine .lssF O O O (by omega) (.nil (.seq (.condF O (.exit (.sr (.mv O O (.an O O ?_)))))));exact .ret (hret (x2.trans hW) (hE λj hj l hl=>hall j (by omega) l hl))
 refine .lssT O O O (by omega) (.nil (.seq (.condT O (.skip (.seq (.block (.sr ?_)))))));have hy:n.ls[i]?=some n.ls[i]:=aE hlt;refine .ixN (i:=i) I6 L8 O O (hs.ext (x2.trans hW)) O hy λp hp=>.ldE (E:=eL) L8 O O hp λvl hl=>(.alloc O Aa0 λW1 b6 n1=>?_);obtain⟨f1,k6,hb6,hs1'⟩:=n1;refine .storeA (E:=eL) (S:=λk=>k≠b6) (z:=n.ls[i]) L8 O O k6 O O hl (λh=>h O) λW2 k6 u6 hl6=>.nil ?_;have f2:Ext W W2:=u6.below f1 (by omega);have hW2:=hW.trans f2;have hvl:=G8 (E:=eL) O hl6;refine .sr (.mv O O (.lenR un_Cs O O (ER.ext eFs hF hW2) (.mv O O (.nil (.block (.loop (α:=Nat) (λj=>[(1,pW b1),(3,iW 0),(4,va),(23,s),(24,iW (n.ls.length:Nat)),(25,iW (i:Nat)),(6,pW b6),(29,va),(30,iW 5),(31,iW (j:Nat))]) (λj W'=>Ext W2 W'/\j<=5/\∀ c,c<j->ck c n.b n.ls[i]=true) (λj=>5-j) 0 ?_ ?_ ?_))))))
 ·exact lkA rfl
 ·exact⟨Ext.refl _,aC _,λj hj=>absurd hj (bK _)⟩
 rintro j W3 ⟨hW3,hj,hck⟩;refine .sr ?_;rcases aB j 5 with hjl | hge;rotate_left
 ·refine .lssF O O O (by omega) (.nil (.seq (.condF O (.exit ?_))));have:j=5:=by omega
  subst this;have hc:Bk0 n.b n.ls[i]:=hck;refine .region (.add O O O (.mv O O (.nil ?_)));rw[wI (by omega)];refine⟨rfl,i+1,lkA rfl,⟨hW2.trans hW3,hlt,λj' hj' l' hl'=>?_⟩,by show n.ls.length-(i+1)<n.ls.length-i;omega⟩;by_cases e:j'=i
  ·rw[e,hy] at hl';cases hl';exact hc
  ·exact hall j' (by omega) l' hl'
 refine .lssT O O O (by omega) (.nil (.seq (.condT O (.skip (.seq (.block (.sr ?_)))))));obtain⟨f,hf⟩:∃ f,ckFs[j]?=some f:=⟨_,aE (by exact hjl)⟩;refine .ixN (i:=j) un_Cs Bs2 O O (ER.ext eFs hF (hW2.trans hW3)) O hf λp hp=>.ldE (E:=eF) Bs2 O O hp λvf hvf=>?_;subst hvf;refine .alloc O zero_Ck λW4 b8 n4=>?_;obtain⟨f4,k8,hb8,hs4⟩:=n4;refine .store Bs2 O O k8 O (by simp[Value.cells]) (by simp[H3,Value.cells]) λW5 k8 u5=>.nil ?_;have f5:Ext W3 W5:=u5.below f4 (by omega);have hW5:=hW3.trans f5;have xW5:=x2.trans (hW2.trans hW5);obtain⟨hEf,hcf⟩:=ckFs_c (hn.ext xW5) (ER.ext eL (S:=λk=>k≠b6) hl6 hW5) hf;refine .sr (.fa fld_Ck0 O O (.ld ty_FCk O O k8 O (.ldA G2 O O (k1.ext (hW2.trans hW5)) O (.ldA L8 O O (k6.ext hW5) (eL.csz hl6) ?_))));rw[<-hvl];refine .callv [_,_] O O hEf O hcf λv6 W6 e6 h6=>?_;subst h6;by_cases hc:ck j n.b n.ls[i]=true
 ·rw[hc];refine .not_ O O (.nil (.condF O (.skip (.region (.add O O O (.mv O O (.nil ?_)))))));rw[wI (by omega)];refine⟨rfl,j+1,lkA rfl,⟨hW5.trans e6,hjl,λc hc'=>?_⟩,by show 5-(j+1)<5-j;omega⟩;by_cases e:c=j
  ·subst e;exact hc
  ·exact hck c (by omega)
 ·rw[iK] at hc;rw[hc];refine .not_ O O (.nil (.condT O (.sr (.an O O (.exit (.sr (.mv O O (.an O O (.ret (hret (xW5.trans e6) (hE1 λh=>?_)))))))))));have:=h i hlt _ hy j hjl;rw[hc] at this
  cases this
section
variable {P:Program} {ro:Option Nat} {N:Nat} {Q:Pst} {σ:Env} {ds:List Deferred} {w:World}
theorem WC.loopD {α:Type} {c:Code} (E:α->Env) (DS:α->List Deferred) (F:α->World->Prop) (m:α->Nat) (x:α) (hE:∀ t v,look (E x) t=some v->look σ t=some v) (hds:ds=DS x) (hF:F x w)
  (h:∀ x w,F x w->WC P ro N (thn (λσ' ds' w'=>∃ x',ds'=DS x'/\(∀ t v,look (E x') t=some v->look σ' t=some v)/\F x' w'/\m x'<m x) Q) c (E x) (DS x) w):WC P ro N Q (.loop c) σ ds w:=by
 subst hds;refine⟨λa ha=>?_⟩;refine wpIn_loop (λa w=>∃ x,Agr N (E x) (DS x) a/\F x w) (λa w=>Classical.epsilon λn=>(∃ x,Agr N (E x) (DS x) a/\F x w/\m x=n)/\∀ n',(∃ x,Agr N (E x) (DS x) a/\F x w/\m x=n')->n<=n') ⟨x,ha.weak hE,hF⟩ ?_;intro a₁ w₁ ⟨x₁,ha₁,hx₁⟩;have hleast:∀ (a:Act) (w:World),(∃ x,Agr N (E x) (DS x) a/\F x w)->(∃ x,Agr N (E x) (DS x) a/\F x w/\m x=Classical.epsilon λn=>(∃ x,Agr N (E x) (DS x) a/\F x w/\m x=n)/\∀ n',(∃ x,Agr N (E x) (DS x) a/\F x w/\m x=n')->n<=n') /\
   ∀ x,Agr N (E x) (DS x) a->F x w->(Classical.epsilon λn=>(∃ x,Agr N (E x) (DS x) a/\F x w/\m x=n)/\∀ n',(∃ x,Agr N (E x) (DS x) a/\F x w/\m x=n')->n<=n')<=m x:=by
  intro a w ⟨x,h1,h2⟩;have hex:∃ n,(∃ x,Agr N (E x) (DS x) a/\F x w/\m x=n)/\∀ n',(∃ x,Agr N (E x) (DS x) a/\F x w/\m x=n')->n<=n':=by
   have hp:∀ b,∀ x,m x<=b->Agr N (E x) (DS x) a->F x w->∃ n,(∃ x,Agr N (E x) (DS x) a/\F x w/\m x=n)/\∀ n',(∃ x,Agr N (E x) (DS x) a/\F x w/\m x=n')->n<=n':=by
    intro b;induction b with
    | zero=>exact λx hb h1 h2=>⟨m x,⟨x,h1,h2,rfl⟩,λn' _=>by omega⟩
    | succ b ih =>
     intro x hb h1 h2;by_cases hh:∃ y,Agr N (E y) (DS y) a/\F y w/\m y<m x
     ·obtain⟨y,h3,h4,h5⟩:=hh;exact ih y (by omega) h3 h4
     ·exact⟨m x,⟨x,h1,h2,rfl⟩,λn' ⟨y,h3,h4,h5⟩=>dS λhlt=>hh ⟨y,h3,h4,by omega⟩⟩
   exact hp (m x) x (aA _) h1 h2
  have hs:=Classical.epsilon_spec hex;exact⟨hs.1,λx h1 h2=>hs.2 _ ⟨x,h1,h2,rfl⟩⟩
 obtain⟨⟨x₂,ha₂,hx₂,hm₂⟩,_⟩:=hleast a₁ w₁ ⟨x₁,ha₁,hx₁⟩;refine wpIn_mono ((h x₂ w₁ hx₂).out a₁ ha₂) ?_;rintro e a' w' ⟨σ',ds',hag,hq⟩
 cases e with
 | normal =>
  obtain⟨x',rfl,hE',hF',hm'⟩:=hq;refine⟨⟨x',hag.weak hE',hF'⟩,?_⟩;have:=(hleast a' w' ⟨x',hag.weak hE',hF'⟩).2 x' (hag.weak hE') hF';omega
 | _=>exact⟨σ',ds',hag,hq⟩
theorem WC.midD {α:Type} {x y:Code} (E:α->Env) (DS:α->List Deferred) (F:α->World->Prop) (h1:WC P ro N (thn (λσ' ds' w'=>∃ a,ds'=DS a/\(∀ t v,look (E a) t=some v->look σ' t=some v)/\F a w') Q) x σ ds w)
  (h2:∀ a w',F a w'->WC P ro N Q y (E a) (DS a) w'):WC P ro N Q (x.seq y) σ ds w :=
 WC.seq (h1.mono λe σ' ds' w' h=>by
  cases e with
  | normal=>obtain⟨a,rfl,he,hf⟩:=h;exact (h2 a w' hf).weak _ he
  | _=>exact h)
end
def mkD (D:Nat):Deferred:={ target:=.collected D,args:=#[] }
def Az9:List Nat->World->World
 | [],w=>w
 | D::r,w=>Az9 r (w.putObj D (.deferred none))
theorem Q3.marks {P:Program} {fn:Func} {N:Nat} {R:Value->World->Prop} {σ:Env} {rs:List ResultVar} (vs:List Value) (hr:fn.results=rs.toArray):∀ (ns:List Nat) (w:World),ns.Nodup->(∀ D∈ns,w.heap[D]?=some (.deferred (some []))) ->
  Res P σ (Az9 ns w) rs vs->R (tup vs) (Az9 ns w)->Q3 P fn N R σ (ns.map mkD) w
 | [],w,_,_,h,hR=>Q3.plain vs hr h hR
 | D::ns,w,hn,hD,h,hR=>by
  have ih:=Q3.marks (P:=P) (fn:=fn) (N:=N) (R:=R) (σ:=σ) (rs:=rs) vs hr ns (w.putObj D (.deferred none)) (List.nodup_cons.1 hn).2 (λD' hD'=>by
   rw[World.putObj_heap_other (by intro e;subst e;exact (List.nodup_cons.1 hn).1 hD')]
   exact hD D' (by simp[hD'])) h hR
  exact λa ha=>⟨by simp,.inl ⟨_,_,rfl,run_takeDeferred (hD D (by simp)),ih { a with defers:=ns.map mkD } ⟨ha.size,rfl,ha.slot⟩⟩⟩
theorem BK9 {S:Nat->Prop}:∀ (ns:List Nat) (w:World),ns.Nodup->(∀ D∈ns,w.heap[D]?=some (.deferred (some [])))->Kp S w (Az9 ns w)
 | [],w,_,_=>λ_ _ _ _ _ h=>h
 | D::ns,w,hn,hD=>by
  have h1:Kp S w (w.putObj D (.deferred none)):=Kp.put (hD D (by simp)) rfl
  have h2:=BK9 (S:=S) ns (w.putObj D (.deferred none)) (List.nodup_cons.1 hn).2 (λD' hD'=>by
   rw[World.putObj_heap_other (by intro e;subst e;exact (List.nodup_cons.1 hn).1 hD')]
   exact hD D' (by simp[hD']))
  exact λk c t f hk hc=>h2 k c t f hk (h1 k c t f hk hc)
theorem Al9 {B:Nat} {w0:World}:∀ (ns:List Nat) (w:World),(∀ D∈ns,B<=D)->Below B w0 w->Below B w0 (Az9 ns w)
 | [],_,_,h=>h
 | D::ns,w,hB,h=>Al9 ns _ (λD' hD'=>hB D' (by simp[hD'])) (X8 h (hB D (by simp)))
section
variable {P:Program} {ro:Option Nat} {N:Nat} {ds:List Deferred} {ops:Array Oper} {K:Env->World->Prop} {rest:List Oper} {σ:Env} {w:World} {d:Tmp} {ty:TypeId} {pos:String} {af:Array Edge}
theorem v_cut3 {dd:Option Tmp} {gd:Option (Nat×Bool)} {t e:TypeId} {x y z:Operand} {b:Bool} {sz n c H:Nat} {a:Option Addr} {k k':IntKind} (ht:P.underlying t=some (.slice e)) (he:F6 P e=some (b,sz)) (hx:ev σ x=some (.slice a n c))
  (hy:ev σ y=some (.int k (H:Int))) (hz:ev σ z=some (.int k' (H:Int))) (h2:H<=c) :
  Vl P ⟨dd,.slice t x none (some y) (some z),ty,pos,af,gd⟩ σ w (.slice a H H):=by
 refine⟨(by intro _ h;cases h),λρ hρ=>?_⟩;have e1:=hρ x _ (by simp[Op.operands]) hx;have e2:=hρ y _ (by simp[Op.operands]) hy;have e3:=hρ z _ (by simp[Op.operands]) hz;have hb1:(Instr.sliceBounds true n c none (some (ρ y)) (some (ρ z))).run P w=.ok (0,H,H) w:=by simp[Instr.sliceBounds,Instr.sliceBound,e2,e3,asIntOf,Int.ofNat_le,h2]
 by_cases h0:H=0
 ·simp[execOp,e1,Instr.sliceAt,run_underlying ht,Instr.slice,hb1,(L0 he w).2,h0]
 ·simp[execOp,e1,Instr.sliceAt,run_underlying ht,Instr.slice,hb1,(L0 he w).2,h0]
  cases a<;>rfl
theorem RL.first {α:Type} {E:ER α} {hsz:0<E.sz} {S:Nat->Prop} {a:Option Addr} {n c H c':Nat} {l:List α} (h:(RL E hsz).R S w (.slice a n c) l) (hH:H<=l.length) (hc:H<=c'):(RL E hsz).R S w (.slice a H c') (l.take H):=by
 have h1:=RL.sub h O 0 H (aC _) hH;obtain⟨es,he,a',c'',hv,h3,h4,h5,h6⟩:=h1;rw[cV] at *;refine⟨es,he,a,c',by rw[show (l.take H).length=H by simp;omega],by rw[show (l.take H).length=H by simp;omega];exact hc,h4,h5,λhn=>?_⟩;obtain⟨ad,ha,hS,hcl⟩:=h6 hn;refine⟨ad,?_,hS,hcl⟩;simp only[Nat.sub_zero,eK] at hv;injection hv with e1 e2 e3;rw[<-ha,<-e1];obtain⟨_,_,_,hv2,hcc,_⟩:=h;split
 ·rfl
 ·cases a with
  | none=>rfl
  | some x=>rfl
end
def FBx (t:TypeId) (S:Nat->Prop) (w:World) (gb h i:Nat) (hv:Value) (l:List (List QV)):Prop :=
 ∃ es,Blk w gb t (cellsOf es).toArray/\es.length=l.length/\(∀ e∈es,e.cells.size=1)/\es[i]?=some hv/\∀ (j:Nat) (e:Value) (x:List QV),j≠i->es[j]?=some e->l[j]?=some x->eV.R (λk=>(S k/\k≠gb)/\k≠h) w e x
section
variable {t:TypeId} {S:Nat->Prop} {w w':World} {gb h i:Nat} {hv:Value} {l:List (List QV)}
theorem FBx.keep (hF:FBx t S w gb h i hv l) (hk:Kp (λk=>k≠h) w w') (hg:gb≠h):FBx t S w' gb h i hv l:=by obtain⟨es,h1,h2,h3,h4,h5⟩:=hF;exact⟨es,hk.blk hg h1,h2,h3,h4,λj e x hj he hx=>eV.keep (λk c t f hh hc=>hk k c t f hh.2 hc) (h5 j e x hj he hx)⟩
theorem FBx.ptr (hF:FBx t S w gb h i hv l) (h1:hv.cells=#[hv]):w.cell? ⟨gb,0+i*1,none⟩=some hv:=by obtain⟨es,hb,h2,h3,h4,h5⟩:=hF;have:=F0 es i 0 hv h3 h4 (by decide);rw[hb.cell,bN,show 0+i*1=i*1+0 by omega,this,h1];rfl
theorem FBx.done {r:List QV} (hF:FBx t S w gb h i hv l) (hr:eV.R (λk=>S k/\k≠gb) w hv r):FB eV t S w gb (l.set i r):=by
 obtain⟨es,h1,h2,h3,h4,h5⟩:=hF;refine⟨es,h1,by simp[h2],λj e x he hx=>?_⟩;by_cases hj:j=i
 ·subst hj;rw[h4] at he;cases he;rw[dM (by rw[<-h2];exact (List.getElem?_eq_some_iff.1 h4).1)] at hx
  cases hx;exact hr
 ·rw[bW (λe=>hj e.symm)] at hx;exact eV.mono (λk _ hk=>hk.1) (h5 j e x hj he hx)
theorem FBx.start {P:Program} {σ:Env} {ty:TypeId} {pos:String} {af:Array Edge} {dd:Option Tmp} {gd:Option (Nat×Bool)} {tt:TypeId} {x y:Operand} {w1:World} {tq:TypeId} {cs:Array Value} {n c:Nat} (ht:F6 P tt=some (false,1)) (hF:FB eV t S w gb l) (hn:New w w1 h tq cs) (hi:i<l.length)
  (hx:ev σ x=some (.pointer (some ⟨gb,0+i*1,none⟩))) (hy:ev σ y=some (.slice (some ⟨h,0,none⟩) n c)) :
  Gv P ⟨dd,.store tt x y,ty,pos,af,gd⟩ σ w1 λ_ w'=>FBx t S w' gb h i (.slice (some ⟨h,0,none⟩) n c) l/\Upd w1 w' gb/\Blk w' h tq cs/\gb≠h:=by
 obtain⟨e1,k1,hh,hs⟩:=hn;have hlt:=hF.lt;obtain⟨es,hb,hels⟩:=hF;have hesz:=hels.sz;have hle:i*1+1<=(cellsOf es).toArray.size:=by rw[dJ,E6 es hesz,hels.1];show i*1+1<=l.length*1;omega
 refine (T5 (n:=1) ht (by rw[hx,aD]) hy (hb.ext e1) O hle (by simp[H3,Value.cells])).mono ?_;rintro _ w2 ⟨hB',u⟩;have hset:=AM8 (sz:=1) (by decide) es i (.slice (some ⟨h,0,none⟩) n c) hesz O (by rw[hels.1];exact hi);have hne:gb≠h:=by omega
 rw[hset] at hB';refine⟨⟨es.set i (.slice (some ⟨h,0,none⟩) n c),hB',by simp[hels.1],λe he=>?_,?_,λj e x hj he hx'=>?_⟩,u,k1.upd u (λe=>hne e.symm),hne⟩
 ·rcases eT he with h' | h'
  ·exact hesz e h'
  ·rw[h'];rfl
 ·rw[dM (by rw[hels.1];exact hi)]
 ·rw[bW (λe=>hj e.symm)] at he;have h1:=ER.lt eV (hels.2 j e x he hx');have h2:=(ER.ext eV h1 e1).upd u (λhh=>hh.1.2 O);exact eV.mono (λk _ hk=>⟨hk.1,by have:=hk.2;omega⟩) h2
end
def I7 (m:List (List QV)):RM:=(elim m.length (rm m) (A1 m)).1
def C7 (m:List (List QV)):List Nat:=(elim m.length (rm m) (A1 m)).2
def AJ6 (m:List (List QV)):List (List QV):=C6 (C7 m).length (A1 m) (I7 m)
theorem BJ4{n q:Nat}{f:RM}(h:q<=n):(C6 n c f).take q=C6 q c f:=by unfold C6;rw[<-List.map_take,List.take_range,cJ h]
theorem T1(m:List (List QV)):Ech m.length (A1 m) (I7 m) (C7 m):=AG0 _ _ _
theorem E_ign1:Ent prog 256:=en func256
theorem E_ign2:Ent prog 257:=en func257
theorem Bj7{M:Nat}{S0:Nat->Prop}:Evs prog 256 257 #[] #[] M S0 (λ_=>False) (λ_ _ _ _=>True) where
 entE:=E_ign1
 entS:=E_ign2
 mono:=λ_ _=>trivial
 chg:=λ_ _=>trivial
 exch:=λ{Z j d W} _ _=>by
  refine U8 func256 O ntmps256 O ?_
  exact .skip (.plain [] results256 trivial ⟨Chg.refl _,trivial⟩)
 scal:=λ{Z j d W v q} _ _ _ _ _=>by
  refine U8 func257 O ntmps257 O (.region (.box O O λw1 b1 n1=>.nil ?_))
  exact .plain [] results257 trivial ⟨Chg.ext n1.1,trivial⟩
theorem CA0(m:List (List QV))(i k:Nat)(h:k<A1 m):Ap0 m [] i k=rm m i k:=by unfold Ap0;rw[if_pos h]
structure eOk (L n C:Nat) (m:List (List QV)):Prop where
 k:mk_ L m
 l1:1<=L
 bd:bd L n<=40000000
 mn:min m.length (A1 m)<=n
 rows:m.length<=100
 cols:A1 m<=C
 c1:C<=100
theorem eOk.le{L n C:Nat}{m:List (List QV)}(h:eOk L n C m):L<=40000000:=aG (Z3 L (aC n)) h.bd
theorem AY9:Ent prog 209:=en func209
theorem AW1{S:Nat->Prop}{m:List (List QV)}{L n C:Nat}(up:Up S w)(hm:eM.R S w vm m)(ok:eOk L n C m) :
  CR prog 209 #[vm] w (Two (eM.at S (AJ6 m)) (eI.at S (A7 (C7 m)))):=by
 have hn:=ok.rows;have hc:=ok.cols;have hc1:=ok.c1;have hL:=ok.le;refine enter func209 O ntmps209 O ?_;refine .sr (.asg O O (.an O O (.sr (.mv O O ?_))));refine .call _ rfl AU1 O (AO3 (b:=[]) (L:=L) up hm RL.nil ok.k (λr hr=>by cases hr) ok.l1 (by omega) (by omega) (by simp) (by omega) (by simp[AT3])) λv1 w1 e1 h1=>.an O O ?_;obtain⟨gb,rfl,hgb,hF⟩:=h1;rw[cN,dY (aC _),AT3,bP,E7 (g:=rm m) (λi k _ hk=>CA0 m i k hk)] at hF;have hgl:=hF.lt;rw[cN,dY (aC _)];have up1:=up.ext e1.size;refine .sr (.mv O O (.mv O O ?_));refine .call _ O AE0 O (AD4 (hm.ext e1)) λv2 w2 e2 h2=>?_;subst h2;refine .call _ O AV1 O AU6 λv3 w3 e3 h3=>?_;subst h3;have e13:=e2.trans e3;have hs13:=e13.size;have hs1:=e1.size;have hcall:=AL8 (X:=λ_=>False) (cols:=A1 m) (cap:=m.length) (L:=L) (M:=40000000) (up1.ext e13.size) (hF.ext e13) (aA _) (aA _) (by omega) (by omega) ok.l1 (λi k _ _=>ok.k.rsz ok.l1 i k) (aG (Z3 L ok.mn) ok.bd) (aA _) (up gb (by omega)) (λ_ h=>h.elim) Bj7 trivial;refine .callG _ O AN1 O hcall ?_;rintro v4 w4 ⟨c4,h4,f4,-⟩;have x4:Ext w w4:=c4.below (e1.trans e13) (by omega) (λk hk=>by rcases hk with rfl | hk;exact hgb;exact hk.elim);have hql:=(T1 m).len;refine .an O O (.sr (.mv O O (.mv O O (.lenR C5 O O h4 (.mv O O (.lenR C5 O O h4 ?_))))));rw[show (A7 (elim m.length (rm m) (A1 m)).2).length=(C7 m).length by simp[C7]];refine .gv O O (v_cut3 (H:=(C7 m).length) E4 C2 O O O hql).gv ?_;rintro _ _ ⟨rfl,rfl⟩;refine .mv O O (.asg O O (.an O O (.ret ?_)));refine .plain [_,_] results209 ⟨rfl,rfl,trivial⟩ ⟨x4,_,_,rfl,?_,?_⟩
 ·have:=f4.toR (c:=m.length) (hsz:=by decide) (up gb (by omega)) (by rw[A8];exact aA _) (by rw[A8];omega);rw[A8] at this;have h5:=RL.first (H:=(C7 m).length) (c':=(C7 m).length) this (by rw[A8];exact hql) (aA _);rw[BJ4 hql] at h5;exact h5
 ·exact eI.mono (λk _ hk=>up k (by have:=e1.size;omega)) h4
theorem AO9:Ent prog 211:=en func211
theorem AN8{vb:Value}{n n' c':Nat}{a a':Option Addr}(ha:va=.slice a n c)(hb:vb=.slice a' n' c'):CR prog 211 #[va,vb] w (λv w'=>∃ b1 b2,v=.func (.func 240) #[] #[pW b2,pW b1] /\
  Blk w' b1 70 #[va]/\Blk w' b2 25 #[vb]/\w.heap.size<=b1/\w.heap.size<=b2):=by
 subst ha;subst hb;refine enter func211 O ntmps211 O (.sr (.box O O λw1 b1 n1=>?_));obtain⟨e1,k1,hb1,hs1⟩:=n1;refine .box O O λw2 b2 n2=>.an O O ?_;obtain⟨e2,k2,hb2,hs2⟩:=n2;refine .sr (.mkf [] [_,_] O O O O (.an O O (.ret ?_)));exact .p1 _ results211 O ⟨e1.trans e2,b1,b2,rfl,k1.ext e2,k2,by omega,by have:=e1.size;omega⟩
theorem AN6:F6 prog 25=some (false,1):=by kernel_rfl
theorem BD8:Ent prog 240:=en func240
theorem Ax6{S:Nat->Prop}{m:List (List QV)}{p:List Nat}{es:List Value}{vb:Value}{b1 b2:Nat}(hl:p.length<=m.length)(hlm:m.length<=1000000):Bp9 prog 240 #[pW b2,pW b1] p.length
  (λk=>[iW (p.getD k 0:Nat),es.getD k Q9]) (λW=>Blk W b1 70 #[va]/\Blk W b2 25 #[vb]/\EsR eV S W va es m/\eI.R S W vb (A7 p)):=by
 intro l J X stJ stX hF hy W hJ;have hF0:=hF 0 W hJ;refine U8 func240 O ntmps240 O (.sr (.ld AN6 O O hF0.2.1 O (.lenR C5 O O hF0.2.2.2 (.mv O O (.nil ?_)))));rw[show (A7 p).length=p.length by simp];refine .block (.loop (α:=Nat) (λk=>[(8,iW (k:Nat)),(7,iW (p.length:Nat)),(6,vb),(0,.func (.yield l) #[] #[]),(1,pW b2),(2,pW b1)]) (λk W=>J k W/\k<=p.length) (λk=>p.length-k) 0 ?_ ?_ ?_)
 ·exact lkA rfl
 ·exact⟨hJ,aC _⟩
 ·rintro k W ⟨hJ,hk⟩;obtain⟨hB1,hB2,hA,hB⟩:=hF k W hJ;by_cases hlt:k<p.length
  ·refine .sr (.lssT O O O (by omega) (.nil (.seq (.condT O (.skip ?_)))));have hpk:(A7 p)[k]?=some ((p.getD k 0:Nat):Int):=by rw[aI,B0 (z:=0) hlt];rfl
   refine .seq (.block (.sr (.mv O O (.ixN (i:=k) C5 B5 O O hB O hpk λq hq=>.ldE B5 O O hq λe he=>.asg O O (.an O O ?_)))));obtain⟨rfl,_⟩:=he;refine .sr (.mv O O (.mv O O (.ld AK7 O O hB1 O (.mv O O (.ixX E4 C2 O O hA O (B0 (z:=Q9) (by rw[hA.1.1];omega)) λq hq=>.ldX (E:=eV) C2 O O hq (hA.get Bc9 k) (.yld (l:=l) [iW (p.getD k 0:Nat),es.getD k Q9] (R:=λv w'=>(v=.bool true/\J (k+1) w')\/(v=.bool false/\X w')) O O O ?_ ?_))))))
   ·refine YieldAt.mono (hy k _ hlt hJ) ?_;rintro e W' (⟨rfl,h⟩ | ⟨rfl,h⟩)
    ·exact⟨_,rfl,.inl ⟨rfl,h⟩⟩
    ·exact⟨_,rfl,.inr ⟨rfl,h⟩⟩
   ·rintro v w' (⟨rfl,h⟩ | ⟨rfl,h⟩)
    ·refine .not_ O O (.nil (.condF O (.skip (.region (.add O O O (.mv O O (.nil ?_)))))));rw[wI (by omega)];exact⟨rfl,k+1,lkA rfl,⟨h,by omega⟩,by omega⟩
    ·refine .not_ O O (.nil (.condT O (.ret ?_)));exact .plain [] results240 trivial (.inr h)
  ·refine .sr (.lssF O O O (by omega) (.nil (.seq (.condF O (.exit (.plain [] results240 trivial ?_))))));have:k=p.length:=by omega
   subst this;exact .inl hJ
def Am1 (m:List (List QV)) (b:List QV):RM:=λi k=>if k<A1 m then rm m i k else rv b i
def H7 (m:List (List QV)) (b:List QV):List (List QV):=C6 (max m.length b.length) (A1 m+1) (Am1 m b)
theorem Am2:Ent prog 210:=en func210
theorem Aj2{S:Nat->Prop}{vb:Value}{m:List (List QV)}{L:Nat}(up:Up S w)(hm:eM.R S w vm m)(hb:eV.R S w vb b)(hkm:mk_ L m)(hkb:vk L b)(hL:1<=L)(hL2:L<=40000000)(hr:m.length<=100)(hc:A1 m<=100)(hl:b.length<=100) :
  CR prog 210 #[vm,vb] w (eM.at S (H7 m b)):=by
 have hb0:=ER.lt eV hb;have hBv:∀ {W:World},Below w.heap.size w W->eV.R (λk=>S k/\k<w.heap.size) W vb b:=λhB=>eV.keep (λk c t f hk h=>(hB.block k hk.2).trans h) hb0;generalize hN:max m.length b.length=N;generalize hG:(λi=>[b.getD i q0])=G;refine enter func210 O ntmps210 O (.sr (.an O O (.sr (.mv O O (.lenR E4 O O hm (.mv O O (.lenR C9 O O hb (.max_ O O O ?_))))))));rw[show (max (m.length:Int) (b.length:Int))=(N:Int) by omega];refine .make_ _ _ E4 AD5 O (by decide) O O O (aA _) (by omega) (by omega) λw1 gb n1=>.an O O ?_;have f1:FB eV 26 S w1 gb (List.replicate N []):=FB.made n1 RL.nil;obtain⟨e1,k1,hgb,hs1⟩:=n1;refine .mid (α:=Unit) (λ_=>[(0,vm),(5,.slice (some ⟨gb,0,none⟩) N N)]) (λ_ W=>Below w.heap.size w W/\FB eV 26 S W gb ((List.range N).map G)) ?_ ?_
 ·refine .sr (.mv O O (.len E4 O O (.mv O O (.nil ?_))));refine .block (.loop (α:=Nat) (λi=>[(0,vm),(1,vb),(5,.slice (some ⟨gb,0,none⟩) N N),(14,iW (N:Nat)),(15,iW (i:Nat))])
   (λi W=>Below w.heap.size w W/\i<=N/\FB eV 26 S W gb (fil N i G [])) (λi=>N-i) 0 ?_ ?_ ?_)
  ·exact lkA rfl
  ·exact⟨e1,aC _,by rw[R8];exact f1⟩
  ·rintro i W ⟨hB,hi,hF⟩;have hsz:=hB.size;rcases aB i N with hlt | hge;rotate_left
   ·refine .sr (.lssF O O O (by omega) (.nil (.seq (.condF O (.exit ?_)))));have:i=N:=by omega
    subst this;rw[AI3] at hF;exact⟨rfl,(),lkA rfl,hB,hF⟩
   refine .sr (.lssT O O O (by omega) (.nil (.seq (.condT O (.skip (.seq (.block (.sr (.mv O O (.an O O (.sr (.mv O O (.mv O O (.make_ 1 1 C9 J4 O (by decide) O O O (aA _) (by omega) (by omega) λW1 h n2=>?_))))))))))))));have hn2:=n2;obtain⟨e2,k2,hh,hs2⟩:=n2;refine .ixB (i:=i) E4 C2 O O O hlt (.gv O O (FBx.start (i:=i) C2 hF hn2 (by rw[L7];exact hlt) O O) ?_);rintro _ W2 ⟨hx2,u2,kh2,hne⟩;refine .nil ?_;have hB2:Below w.heap.size w W2:=u2.below (hB.trans (e2.mono hsz)) (by omega);have hSh:S h/\h≠gb:=⟨up h (by omega),by omega⟩;refine .sr (.mv O O (.mv O O (.lenR C9 O O (hBv hB2) ?_)));by_cases hib:i<b.length
   ·refine .lssT O O O (by omega) (.nil (.condT O ?_));refine .par follows 8 [.inl _,.inl (iW (i:Nat)),.inl _,.inl (.slice (some ⟨h,0,none⟩) 1 1),.inl vb,.inl (iW (i:Nat)),.inr (Ptr eQ (λk=>S k/\k<w.heap.size) (b.getD i q0)),.inr (eQ.at (λk=>S k/\k<w.heap.size) (b.getD i q0))]
     [[],[],[(26,0),(27,1)],[(28,2)],[],[],[(30,4),(31,5)],[(32,6)]] (by kernel_rfl) ⟨mvo O,mvo O,λw e=>(G6 (i:=i) E4 C2 O O hlt).ob,λw e=>(AJ2 C2 O ((hx2.keep (Kp.ext e) hne).ptr O)).ob,mvo O,mvo O,λw e=>C4 (i:=i) C9 A3 O (ER.ext eV (hBv hB2) e) O (B0 (z:=q0) hib),λw e p hp=>K1 A3 O hp,trivial⟩ ?_
    intro W3 e3 x6 _ x7 h7;refine .ixB (i:=0) C9 A3 O O O (by omega) (.storeA (E:=eQ) A3 O O (kh2.ext e3) O O h7 (λhh'=>by have:=hh'.2;omega) λW4 k4 u4 h4=>.nil (.region (.add O O O (.mv O O (.nil ?_)))));rw[wI (by omega)];have hx4:=(hx2.keep (Kp.ext e3) hne).keep (Kp.upd u4 (λhc=>hc O)) hne;have hrow:eV.R (λk=>S k/\k≠gb) W4 (.slice (some ⟨h,0,none⟩) 1 1) [b.getD i q0]:=by refine RL.ofBlk (es:=[x7]) k4 hSh (Els.snoc Els.nil (eQ.mono (λk _ hk=>⟨hk.1,by have:=hk.2;omega⟩) h4)) (λj u hu=>?_) (aA _) (by simp);simpa[cellsOf] using hu
    have hF4:=hx4.done hrow;have hgi:[b.getD i q0]=G i:=by rw[<-hG]
    rw[hgi,X5] at hF4;exact⟨rfl,i+1,lkA rfl,⟨u4.below (hB2.trans (e3.mono hB2.size)) (by omega),hlt,hF4⟩,by show N-(i+1)<N-i;omega⟩
   ·refine .lssF O O O (by omega) (.nil (.condF O (.skip (.region (.add O O O (.mv O O (.nil ?_)))))));rw[wI (by omega)];have hrow:eV.R (λk=>S k/\k≠gb) W2 (.slice (some ⟨h,0,none⟩) 1 1) [q0]:=by refine RL.ofBlk (es:=[zq]) kh2 hSh (Els.snoc Els.nil AF1) (λj u hu=>?_) (aA _) (by simp);simpa[cellsOf,Value.cells] using hu
    have hF4:=hx2.done hrow;have hgi:[q0]=G i:=by rw[<-hG];show [q0]=[b.getD i q0];rw[AF9 (by omega)]
    rw[hgi,X5] at hF4;exact⟨rfl,i+1,lkA rfl,⟨hB2,hlt,hF4⟩,by show N-(i+1)<N-i;omega⟩
 ·rintro _ W ⟨hB,hF⟩;have hsz:=hB.size;have hlen:((List.range N).map G).length=N:=by simp
  have hR:=hF.toR (c:=N) (hsz:=by decide) (up gb (by omega)) (by rw[hlen];exact aA _) (by rw[hlen];omega);rw[hlen] at hR;have hcol:A1 ((List.range N).map G)=if N=0 then 0 else 1:=by
   by_cases h0:N=0
   ·subst h0;rfl
   ·rw[if_neg h0];refine Nat.le_antisymm (Ao9 λr hr=>?_) ?_
    ·obtain⟨i,_,rfl⟩:=List.mem_map.1 hr;rw[<-hG];simp
    ·have:=Ag8 (m:=(List.range N).map G) (r:=G 0) (List.mem_map.2 ⟨0,List.mem_range.2 (by omega),rfl⟩);rw[<-hG] at this ⊢;simpa using this
  have hmW:eM.R S W vm m:=eM.mono (λk _ hk=>hk.1) (eM.keep (λk c t f (hk:S k/\k<w.heap.size) h=>(hB.block k hk.2).trans h) (ER.lt eM hm));have hkG:mk_ L ((List.range N).map G):=λr hr=>by obtain⟨i,_,rfl⟩:=List.mem_map.1 hr;rw[<-hG];intro q hq;simp only[gQ] at hq;rw[hq];exact hkb.get hL i
  refine .sr (.mv O O (.mv O O (.call _ O AU1 O (BO3 (L:=L) (up.ext hsz) hmW hR hkm hkG hL (by omega) (by omega) (by rw[hlen];omega) (by omega) (by rw[hcol];split<;>omega)) λv5 W5 e5 h5=>.an O O (.ret (.plain [_] results210 ⟨rfl,trivial⟩ ⟨hB.trans (e5.mono hsz),?_⟩)))))
  rw[hlen,hcol,show max m.length N=N by omega] at h5;show eM.R S W5 v5 (H7 m b);unfold H7;rw[hN];by_cases h0:N=0
  ·rw[h0] at h5 ⊢;exact h5
  ·rw[if_neg h0,E7 (g:=Am1 m b) (λi k hi hk=>?_)] at h5
   ·exact h5
   ·unfold Ap0 Am1;by_cases hkc:k<A1 m
    ·rw[if_pos hkc,if_pos hkc]
    ·rw[if_neg hkc,if_neg hkc,show k-A1 m=0 by omega];unfold rm;have:((List.range N).map G).getD i []=[b.getD i q0]:=by rw[aF,aI,bA hi,<-hG];rfl
     rw[this];rfl
theorem Ao8(n c:Nat)(f:RM):A1 (C6 n c f)=if n=0 then 0 else c:=by
 by_cases h0:n=0
 ·subst h0;rfl
 ·rw[if_neg h0];refine Nat.le_antisymm (Ao9 λr hr=>?_) ?_
  ·obtain⟨i,_,rfl⟩:=List.mem_map.1 hr;rw[A2];exact aA _
  ·have:=Ag8 (m:=C6 n c f) (r:=tab c (f 0)) (List.mem_map.2 ⟨0,List.mem_range.2 (by omega),rfl⟩);rwa [A2] at this
def AH0 (g:RM) (p:List Nat) (C i:Nat):Nat->Rat:=λc=>B9 i λj=>if p.getD j 0=c then g j C else 0
def Ak4 (g:RM) (p:List Nat) (C:Nat):Nat->Rat:=AH0 g p C p.length
theorem Ar6{n:Nat}{g:RM}{p:List Nat}(h:Ech n c g p){C:Nat}(hi:i<p.length):AH0 g p C (i+1)=λk=>if k=p.getD i 0 then g i C else AH0 g p C i k:=by
 funext k;unfold AH0;rw[B9];by_cases e:k=p.getD i 0
 ·rw[if_pos e.symm,if_pos e,H0 λj hj=>by rw[if_neg (λe2=>by have:=h.inj (by omega) hi (e2.trans e);omega)]];grind
 ·rw[if_neg (λe2=>e e2.symm),if_neg e];grind
theorem aug_rsz{m:List (List QV)}{L:Nat}(hm:mk_ L m)(hb:vk L b)(hL:1<=L)(i k:Nat):Rsz (Am1 m b i k) L:=by
 unfold Am1;split
 ·exact hm.rsz hL i k
 ·exact hb.rsz hL i
theorem aug_ok{m:List (List QV)}{L:Nat}(hm:mk_ L m)(hb:vk L b)(hL:1<=L):mk_ L (H7 m b):=Aw2 λi k _ _=>aug_rsz hm hb hL i k
theorem AF0(m:List (List QV))(b:List QV):(H7 m b).length=max m.length b.length:=A8 ..
theorem Am0(m:List (List QV))(b:List QV):A1 (H7 m b)=if max m.length b.length=0 then 0 else A1 m+1:=Ao8 ..
theorem AY7(m:List (List QV))(b:List QV):A1 (H7 m b)<=A1 m+1:=by rw[Am0];split<;>omega
structure ParJ (w0:World) (T:Nat->Prop) (b4 b5 b6 p1 p2 g C:Nat) (vr vp:Value) (es:List Value) (A:List (List QV)) (k:Nat) (W:World):Prop where
 low:Below w0.heap.size w0 W
 k4:Blk W b4 26 #[.slice (some ⟨g,0,none⟩) C C]
 k5:Blk W b5 4 #[.bool false]
 k6:Blk W b6 3 #[iW (C:Nat)]
 kp1:Blk W p1 70 #[vr]
 kp2:Blk W p2 25 #[vp]
 x:FB eQ 39 T W g (tab C (AH0 (I7 A) (C7 A) C k))
 r:EsR eV T W vr es (AJ6 A)
 p:eI.R T W vp (A7 (C7 A))
 no:∀ j,j<k->(C7 A).getD j 0≠C
theorem ParJ.sft{w0:World}{T:Nat->Prop}{b4 b5 b6 p1 p2 g C:Nat}{vr vp:Value}{es:List Value}{A:List (List QV)}{k D:Nat}{W W':World}(h:ParJ w0 T b4 b5 b6 p1 p2 g C vr vp es A k W)(hs:Sft D W W')(hD:w0.heap.size<=D):ParJ w0 T b4 b5 b6 p1 p2 g C vr vp es A k W' :=
 ⟨h.low.trans (hs.below.mono hD),hs.cells.blk trivial h.k4,hs.cells.blk trivial h.k5,hs.cells.blk trivial h.k6,hs.cells.blk trivial h.kp1,hs.cells.blk trivial h.kp2,h.x.kp hs.cells,h.r.keep (λk c t f _ hc=>hs.cells k c t f trivial hc),eI.keep (λk c t f _ hc=>hs.cells k c t f trivial hc) h.p,h.no⟩
structure ParX (w0:World) (b4 b5 C:Nat) (A:List (List QV)) (W:World):Prop where
 low:Below w0.heap.size w0 W
 k4:Blk W b4 26 #[.slice none 0 0]
 k5:Blk W b5 4 #[.bool false]
 yes:C∈C7 A
theorem H6{p:List Nat}{j:Nat}(h:j<p.length):p.getD j 0∈p:=List.mem_iff_getElem?.2 ⟨j,B0 h⟩
theorem As0{p:List Nat}(h:c∈p):∃ j,j<p.length/\p.getD j 0=c:=by obtain⟨j,hj⟩:=List.mem_iff_getElem?.1 h;have hl:j<p.length:=(List.getElem?_eq_some_iff.1 hj).1;refine⟨j,hl,?_⟩;have:=B0 (z:=0) hl;rw[hj] at this;exact (Option.some.inj this).symm
def AN9 (m:List (List QV)) (b:List QV):List QV:=tab (A1 m) (Ak4 (I7 (H7 m b)) (C7 (H7 m b)) (A1 m))
abbrev L9 (m:List (List QV)) (b:List QV):Prop:=A1 m∉C7 (H7 m b)
theorem Ah5:Ent prog 151:=en func151
theorem Af4{S:Nat->Prop}{vb:Value}{m:List (List QV)}{L n:Nat}(up:Up S w)(hm:eM.R S w vm m)(hb:eV.R S w vb b)(hkm:mk_ L m)(hkb:vk L b)(hL:1<=L)(hr:m.length<=100)(hl:b.length<=100)(hc:A1 m<=90)(hmn:min (max m.length b.length) (A1 m+1)<=n)(hbd:bd L n<=40000000) :
  CR prog 151 #[vm,vb] w (Two (eV.at S (if L9 m b then AN9 m b else [])) (Is (.bool (decide (L9 m b))))):=by
 have hL2:L<=40000000:=aG (Z3 L (aC n)) hbd;have okA:eOk L n 100 (H7 m b):=⟨aug_ok hkm hkb hL,hL,hbd,by rw[AF0];have:=AY7 m b;omega,by rw[AF0];omega,aG (AY7 m b) (by omega),aA _⟩;obtain⟨A,hA⟩:∃ A,H7 m b=A:=⟨_,rfl⟩;rw[hA] at okA;have hech:=T1 A;have hAl:A.length=max m.length b.length:=by rw[<-hA];exact AF0 m b
 have hAc:0<A.length->A1 A=A1 m+1:=λh=>by rw[<-hA,Am0,if_neg (by omega)]
 refine enter func151 O ntmps151 O ?_;refine .sr (.alloc O BL7 λw1 b4 n1=>.alloc O Bl5 λw2 b5 n2=>.nil (.sr (.mv O O ?_)));obtain⟨e1,k4,hb4,hs1⟩:=n1;obtain⟨e2,k5,hb5,hs2⟩:=n2;refine .call _ O AE0 O (AD4 ((hm.ext e1).ext e2)) λv3 w3 e3 h3=>?_;subst h3;refine .alloc O Ax1 λw4 b6 n4=>?_;obtain⟨e4,k6,hb6,hs4⟩:=n4;refine .store A5 O O k6 O (by simp[Value.cells]) (by simp[H3,Value.cells]) λw5 k6 u5=>.nil ?_;replace k6:Blk w5 b6 3 #[iW (A1 m:Nat)]:=k6;have x4:=((e1.trans e2).trans e3).trans e4;have x5:Ext w w5:=u5.below x4 (by have:=(e1.trans e2).size;have:=e3.size;omega);have hs3:=e3.size;have hs5:=u5.size;replace k4:Blk w5 b4 26 #[.slice none 0 0]:=((k4.ext ((e2.trans e3).trans e4))).upd u5 (show b4≠b6 by omega);replace k5:Blk w5 b5 4 #[.bool false]:=((k5.ext (e3.trans e4))).upd u5 (show b5≠b6 by omega);have up5:Up (Sx S w.heap.size w5.heap.size) w5:=Sx.up up (aA _) x5.size;have hm5:=(ER.par eM hm w5.heap.size).ext x5;have hbv5:=(ER.par eV hb w5.heap.size).ext x5;have hTo:∀ k,Sx S w.heap.size w5.heap.size k->S k:=λk h=>h.1;have hT4:¬ Sx S w.heap.size w5.heap.size b4:=Sx.no (by omega) (by omega);have hT5:¬ Sx S w.heap.size w5.heap.size b5:=Sx.no (by omega) (by omega);have hT6:¬ Sx S w.heap.size w5.heap.size b6:=Sx.no (by omega) (by omega);generalize hTT:Sx S w.heap.size w5.heap.size=T at *;refine .sr (.mv O O (.mv O O ?_));refine .call _ O Am2 O (Aj2 up5 hm5 hbv5 hkm hkb hL hL2 (by omega) (by omega) (by omega)) λv6 w6 e6 h6=>?_;rw[hA] at h6;refine .call _ O AY9 O (AW1 (up5.ext e6.size) h6 okA) λv7 w7 e7 h7=>?_;obtain⟨vr,vp,rfl,hr7,hp7⟩:=h7;refine .mv O O (.ext O O O (.ext O O O (.asg O O (.an O O ?_))));have x57:=e6.trans e7;have hr7l:=ER.lt eM hr7;have hp7l:=ER.lt eI hp7;have hs57:=x57.size;refine .sr (.ld A5 O O (k6.ext x57) O ?_);refine .make_ _ _ C9 J4 O (by decide) O O O (aA _) (by omega) (by omega) λw8 g n8=>?_;have f8:FB eQ 39 (λk=>T k/\k<w7.heap.size) w8 g (List.replicate (A1 m) q0):=FB.made n8 AF1;obtain⟨e8,_,hg8,hs8⟩:=n8;have x58:=x57.trans e8;refine .store C2 O O (k4.ext x58) O (by simp) (by simp[H3,Value.cells]) λw9 k4 u9=>.nil ?_;replace k4:Blk w9 b4 26 #[.slice (some ⟨g,0,none⟩) (A1 m) (A1 m)]:=k4;have hb4n:¬ (T b4/\b4<w7.heap.size):=λh=>hT4 h.1;have hr9:eM.R (λk=>T k/\k<w7.heap.size) w9 vr (AJ6 A):=(ER.ext eM hr7l e8).upd u9 hb4n;have hp9:eI.R (λk=>T k/\k<w7.heap.size) w9 vp (A7 (C7 A)):=(ER.ext eI hp7l e8).upd u9 hb4n;have f9:=f8.upd u9 (show g≠b4 by omega) hb4n;have x9:Ext w w9:=u9.below (x5.trans x58) (by omega);have k5:=(k5.ext x58).upd u9 (show b5≠b4 by omega);have k6:=(k6.ext x58).upd u9 (show b6≠b4 by omega);obtain⟨ar,cr,hvr,_⟩:=RL.len hr9;obtain⟨ap,cp,hvp,_⟩:=RL.len hp9;obtain⟨es,hE⟩:=RL.toEs hr9;refine .seq (.sr (.mv O O (.mv O O ?_)));refine .call _ O AO9 O (AN8 hvr hvp) λv10 w10 e10 h10=>.nil ?_;obtain⟨p1,p2,rfl,kp1,kp2,hp1,hp2⟩:=h10;have hs9:=u9.size;have hs10:=e10.size;have x10:=x9.trans e10;have hml:(AJ6 A).length=(C7 A).length:=A8 ..;have hql:=hech.len;refine .block (.range (Ax6 (S:=λk=>T k/\k<w7.heap.size) (m:=AJ6 A) (p:=C7 A) (es:=es) (va:=vr) (vb:=vp) (fP hml.symm) (by rw[hml];omega)) O BD8 (λk=>rfl) (by decide)
  (ParJ w (λk=>T k/\k<w7.heap.size) b4 b5 b6 p1 p2 g (A1 m) vr vp es A) (λc W=>c=.ret/\ParX w b4 b5 (A1 m) A W) (λk W W' h hs=>h.sft hs x10.size)
  (λc W W' h hs=>⟨h.1,h.2.low.trans (hs.below.mono x10.size),hs.cells.blk trivial h.2.k4,hs.cells.blk trivial h.2.k5,h.2.yes⟩) (λk W h=>⟨h.kp1,h.kp2,h.r,h.p⟩) ?_ ?_ ?_ ?_)
 ·refine⟨x10,k4.ext e10,k5.ext e10,k6.ext e10,kp1,kp2,?_,hE.ext e10,ER.ext eI hp9 e10,λj hj=>by omega⟩;have:tab (A1 m) (AH0 (I7 A) (C7 A) (A1 m) 0)=List.replicate (A1 m) q0:=by rw[<-R8 (A1 m) (λ_=>q0)];unfold tab fil AH0;apply cK;intro k _;simp[B9,Q7]
  rw[this];exact f9.ext e10
 ·intro l k W hk hJ;refine .sr (.an O O (.region (.an O O ⟨rfl,rfl,λW hJ hsz=>?_⟩)));obtain⟨hlow,k4,k5,k6,kp1,kp2,hx,hrE,hpE,hno⟩:=hJ;have hlws:=hlow.size;refine .block (.seq (.sr (.mv O O (.ld A5 O O k6 O ?_))));by_cases hpc:(C7 A).getD k 0=A1 m
  ·refine .eqlT O O O (by rw[hpc]) (.nil (.condT O (.sr ?_)));refine .store C2 O O k4 O (by simp) (by simp[H3,Value.cells]) λW1 k41 u1=>?_;refine .store D6 O O (k5.upd u1 (show b5≠b4 by omega)) O (by simp) (by simp[H3,Value.cells]) λW2 k52 u2=>.nil (.ret ?_);refine⟨(Oth.upd u1 k4).trans (Oth.upd u2 (k5.upd u1 (show b5≠b4 by omega))),rfl,u2.below (u1.below hlow (by omega)) (by omega),?_,?_,?_⟩
   ·have:Blk W1 b4 26 #[.slice none 0 0]:=k41;exact this.upd u2 (show b4≠b5 by omega)
   ·exact k52
   ·rw[<-hpc];exact H6 hk
  ·refine .eqlF rfl rfl rfl (by intro e;exact hpc (by omega)) (.nil (.condF rfl (.skip ?_)));have hAp:0<A.length:=by omega
   have hcA:=hAc hAp;have hpl:(C7 A).getD k 0<A1 m:=by have:=hech.lt k hk;omega
   have hrow:(AJ6 A)[k]?=some (tab (A1 A) (I7 A k)):=F2 hk;have hek:es[k]?=some (es.getD k Q9):=B0 (by rw[hrE.1.1,hml];exact hk);have hrw:=hrE.1.2 k _ _ hek hrow;refine .par follows 6 [.inl (.slice (some ⟨g,0,none⟩) (A1 m) (A1 m)),.inl (iW ((C7 A).getD k 0:Nat)),.inl (es.getD k Q9),.inl (iW (A1 m:Nat)),.inr (Ptr eQ (λk=>T k/\k<w7.heap.size) (qc (I7 A k (A1 m)))),.inr (eQ.at (λk=>T k/\k<w7.heap.size) (qc (I7 A k (A1 m))))]
    [[],[],[],[],[(32,2),(33,3)],[(34,4)]] (by kernel_rfl) ⟨λw e=>(E2 C2 O (k4.ext e) O).ob,mvo O,mvo O,λw e=>(E2 A5 O (k6.ext e) O).ob,λw e=>C4 (i:=A1 m) C9 A3 O (ER.ext eV hrw e) O (H2 (by omega)),λw e p hp=>K1 A3 O hp,trivial⟩ ?_
   intro W1 e1 x4 _ x5 h5;refine .ixB (i:=(C7 A).getD k 0) C9 A3 O O O hpl ?_;refine .storeF (E:=eQ) (i:=(C7 A).getD k 0) (by decide) A3 O O (hx.ext e1) O (by rw[A2];exact hpl) (aD _) (eQ.mono (λk _ hk=>⟨hk,by have:=hk.2;omega⟩) h5) λW2 f2 u2=>.nil ?_;rw[AB1,<-Ar6 hech hk] at f2;have hgb:∀ {k},(T k/\k<w7.heap.size)->k≠g:=λh=>by have:=h.2;omega
   have hgn:¬ (T g/\g<w7.heap.size):=λh=>by have:=h.2;omega
   refine⟨(Oth.ext e1).trans (by obtain⟨es',hb',_⟩:=hx.ext e1;exact Oth.upd u2 hb'),u2.below (hlow.trans (e1.mono hlws)) (by omega),(k4.ext e1).upd u2 (by omega),(k5.ext e1).upd u2 (by omega),(k6.ext e1).upd u2 (by omega),(kp1.ext e1).upd u2 (by omega),(kp2.ext e1).upd u2 (by omega),f2,(hrE.ext e1).keep (Kp.upd u2 hgn),(ER.ext eI hpE e1).upd u2 hgn,λj hj=>?_⟩;by_cases ej:j=k
   ·rw[ej];exact hpc
   ·exact hno j (by omega)
 ·intro W hJ hD;obtain⟨hlow,k4,k5,k6,kp1,kp2,hx,hrE,hpE,hno⟩:=hJ;have hlws:=hlow.size;have hsolv:A1 m∉C7 A:=λh=>by obtain⟨j,hj,he⟩:=As0 h;exact hno j hj he
  refine .sr (.ld C2 O O k4 O ?_);refine .store C2 O O k4 O (by simp) (by simp[H3,Value.cells]) λW1 k41 u1=>?_;refine .store D6 O O (k5.upd u1 (show b5≠b4 by omega)) O (by simp) (by simp[H3,Value.cells]) λW2 k52 u2=>.nil (.ret ?_);have k51:=k5.upd u1 (show b5≠b4 by omega);have hD2:=(Oth.upd u2 k51) _ _ ((Oth.upd u1 k4) _ _ hD O) rfl;replace k41:Blk W2 b4 26 #[.slice (some ⟨g,0,none⟩) (A1 m) (A1 m)]:=by have:Blk W1 b4 26 #[.slice (some ⟨g,0,none⟩) (A1 m) (A1 m)]:=k41;exact this.upd u2 (show b4≠b5 by omega)
  replace k52:Blk W2 b5 4 #[.bool true]:=k52;have hb5n:¬ (T b5/\b5<w7.heap.size):=λh=>hT5 h.1;have hx2:=(hx.upd u1 (show g≠b4 by omega) hb4n).upd u2 (show g≠b5 by omega) hb5n;have kp:=Kp.put (S:=λ_=>True) (o':=.deferred none) hD2 rfl;have c4:=(kp.blk trivial k41).cell 0;have c5:=(kp.blk trivial k52).cell 0;refine .mark [_,_] results151 hD2 ⟨⟨_,rfl,Q6 C2 c4⟩,⟨_,rfl,Q6 D6 c5⟩,trivial⟩ ⟨X8 (u2.below (u1.below hlow (by omega)) (by omega)) x10.size,_,_,rfl,?_,?_⟩
  ·rw[if_pos (show A1 m∉C7 (H7 m b) by rw[hA];exact hsolv)];have:=((hx2.kp kp).mono (S':=S) λk _ h=>hTo k h.1).toR (c:=A1 m) (hsz:=by decide) (up g (by omega)) (by rw[A2];exact aA _) (by rw[A2];omega);rw[A2] at this;unfold AN9;rw[hA];exact this
  ·show Value.bool true=_;rw[decide_eq_true (show A1 m∉C7 (H7 m b) by rw[hA];exact hsolv)]
 ·rintro c W ⟨rfl,hlow,k4,k5,hyes⟩ hD;refine .ret ?_;have kp:=Kp.put (S:=λ_=>True) (o':=.deferred none) hD rfl;have c4:=(kp.blk trivial k4).cell 0;have c5:=(kp.blk trivial k5).cell 0;refine .mark [_,_] results151 hD ⟨⟨_,rfl,Q6 C2 c4⟩,⟨_,rfl,Q6 D6 c5⟩,trivial⟩ ⟨X8 hlow x10.size,_,_,rfl,?_,?_⟩
  ·rw[if_neg (show ¬ A1 m∉C7 (H7 m b) by rw[hA];exact λh=>h hyes)];exact RL.nil
  ·show Value.bool false=_;rw[decide_eq_false (show ¬ A1 m∉C7 (H7 m b) by rw[hA];exact λh=>h hyes)]
def D7 (p:List Nat) (i:Nat):List Nat:=(List.range i).filter λk => !(decide (k∈p))
def AQ4 (m:List (List QV)):List Nat:=D7 (C7 m) (A1 m)
def Ad2 (m:List (List QV)):List (List QV):=(AQ4 m).map λk=>tab (A1 m) (nv (I7 m) (C7 m) k)
def BA3 (g:RM) (p:List Nat) (k j:Nat):Nat->Rat:=λc=>(if c=k then 1 else 0)-B9 j λi=>if p.getD i 0=c then g i k else 0
theorem BK4{n C:Nat}{g:RM}{p:List Nat}(h:Ech n C g p){k j:Nat}(hj:j<p.length)(hk:k∉p)(hm:p.getD j 0∈p):BA3 g p k (j+1)=λc=>if c=p.getD j 0 then-g j k else BA3 g p k j c:=by
 funext c;unfold BA3;rw[B9];by_cases e:c=p.getD j 0
 ·rw[if_pos e.symm,if_pos e,if_neg (λe2=>hk (by rw[<-e2,e];exact hm)),H0 λi hi=>by rw[if_neg (λe2=>by have:=h.inj (by omega) hj (e2.trans e);omega)]];grind
 ·have h1:¬ p.getD j 0=c:=λe2=>e e2.symm;simp only[h1,e,if_false];grind
def bTo (p:List Nat) (j c:Nat):Bool:=(List.range j).any λi=>Nat.beq (p.getD i 0) c
theorem bTo_set(p:List Nat)(C j:Nat):((List.range C).map (bTo p j)).set (p.getD j 0) true=(List.range C).map (bTo p (j+1)):=by
 have hs:∀ c,bTo p (j+1) c=(bTo p j c || Nat.beq (p.getD j 0) c):=λc=>by unfold bTo;rw[aP];simp
 generalize p.getD j 0=q at *;apply cU;intro c;rw[dB];by_cases e:q=c
 ·subst e;by_cases h:q<C
  ·simp[h,hs]
  ·simp[h]
 ·rw[if_neg e];by_cases h:c<C
  ·have hb:Nat.beq q c=false:=AK5 e;simp only[aI,bA h,cY,hs,hb,Bool.or_false]
  ·simp[h]
theorem bTo_all{p:List Nat}:bTo p p.length c=decide (c∈p):=by
 unfold bTo;by_cases h:c∈p
 ·rw[decide_eq_true h,gY];obtain⟨j,hj⟩:=List.mem_iff_getElem?.1 h;have hl:j<p.length:=(List.getElem?_eq_some_iff.1 hj).1;refine⟨j,List.mem_range.2 hl,?_⟩;rw[aF,hj];simp
 ·rw[decide_eq_false h,List.any_eq_false];intro j hj hb;have hl:=List.mem_range.1 hj;apply h;rw[<-bH hb,aF,aE hl];exact eD hl
theorem B4.lt_{α:Type}{E:ER α}{base:Nat}{X:Nat->Prop}{w':World}{v:Value}{l:List α}(h:B4 E t base X w v l)(hb:Below w.heap.size w w'):B4 E t base X w' v l:=by obtain⟨es,h1,h2⟩:=h;refine⟨es,AQ0 h1 λk cs _ hk=>(hb.block k hk.lt).trans hk,h2.1,λi e x he hx=>?_⟩;have:=E.lt (h2.2 i e x he hx);exact E.mono (λk _ hk=>hk.1) (E.keep (λk c t f hk hc=>(hb.block k hk.2).trans hc) this)
theorem At4:prog.underlying 165=some (.slice 4):=by kernel_rfl
theorem Bs3:F6 prog 165=some (false,1):=by kernel_rfl
theorem zero_Bs:M0 prog 165=some (.slice none 0 0):=by kernel_rfl
theorem By0:O8 prog 4=some (.bool false,1,1):=by kernel_rfl
structure NulJ (w0:World) (T:Nat->Prop) (b6 p1 p2 gB C:Nat) (vr vp:Value) (es:List Value) (rM:List (List QV)) (p:List Nat) (k:Nat) (W:World):Prop where
 low:Below w0.heap.size w0 W
 k6:Blk W b6 165 #[.slice (some ⟨gB,0,none⟩) C C]
 kp1:Blk W p1 70 #[vr]
 kp2:Blk W p2 25 #[vp]
 x:FB Z9 4 (λ_=>True) W gB ((List.range C).map (bTo p k))
 r:EsR eV T W vr es rM
 p:eI.R T W vp (A7 p)
structure NulK (W0:World) (S:Nat->Prop) (b9 b10 p1 p2 h C k:Nat) (vr vp vb:Value) (g:RM) (p:List Nat) (j:Nat) (W:World):Prop where
 low:Below W0.heap.size W0 W
 k9:Blk W b9 3 #[iW (k:Nat)]
 k10:Blk W b10 26 #[.slice (some ⟨h,0,none⟩) C C]
 kp1:Blk W p1 70 #[vr]
 kp2:Blk W p2 25 #[vp]
 x:FB eQ 39 (λk=>S k/\vb.ownBlock≠some k) W h (tab C (BA3 g p k j))
theorem Am3:Ent prog 152:=en func152
theorem Aj3{S:Nat->Prop}{m:List (List QV)}{L n C:Nat}(up:Up S w)(hm:eM.R S w vm m)(ok:eOk L n C m) :
  CR prog 152 #[vm] w (eM.at S (Ad2 m)):=by
 have hn:=ok.rows;have hc:=ok.cols;have hc1:=ok.c1;have hech:=T1 m;have hql:=hech.len;have hrsz:∀ i k,i<m.length->k<A1 m->Rsz (I7 m i k) 40000000:=λi k hi hk=>(AQ7 ok.l1 (λi k _ _=>ok.k.rsz ok.l1 i k) (A1 m) (aA _) i k hi hk).mono (aG (Z3 L (aG (by have:=hech.len_c;omega:(C7 m).length<=min m.length (A1 m)) ok.mn)) ok.bd);refine enter func152 O ntmps152 O ?_;refine .sr (.an O O (.sr (.mv O O ?_)));refine .call _ O AY9 O (AW1 up hm ok) λv1 w1 e1 h1=>?_;obtain⟨vr,vp,rfl,hr1,hp1⟩:=h1;refine .mv O O (.ext O O O (.ext O O O (.asg O O (.an O O (.sr (.mv O O ?_))))));refine .call _ O AE0 O (AD4 (hm.ext e1)) λv2 w2 e2 h2=>.an O O ?_;subst h2;refine .sr (.mv O O ?_);refine .make_ _ _ At4 By0 O (by decide) O O O (aA _) (by omega) (by omega) λw3 gB n3=>?_;have f3:FB Z9 4 (λ_=>True) w3 gB (List.replicate (A1 m) false):=FB.made n3 rfl;obtain⟨e3,_,hgB,hs3⟩:=n3;refine .alloc O zero_Bs λw4 b6 n4=>?_;obtain⟨e4,k6,hb6,hs4⟩:=n4;refine .store Bs3 O O k6 O (by simp[Value.cells]) (by simp[H3,Value.cells]) λw5 k6 u5=>.nil ?_;replace k6:Blk w5 b6 165 #[.slice (some ⟨gB,0,none⟩) (A1 m) (A1 m)]:=k6;have hs1:=e1.size;have hs2:=e2.size;have hs5:=u5.size;have x24:=(e2.trans e3).trans e4;have hr5:eM.R (λk=>S k/\k<w1.heap.size) w5 vr (AJ6 m):=(ER.ext eM (ER.lt eM hr1) x24).upd u5 (λh=>by have:=h.2;omega);have hp5:eI.R (λk=>S k/\k<w1.heap.size) w5 vp (A7 (C7 m)):=(ER.ext eI (ER.lt eI hp1) x24).upd u5 (λh=>by have:=h.2;omega);have f5:FB Z9 4 (λ_=>True) w5 gB (List.replicate (A1 m) false):=by obtain⟨es,hb,he⟩:=f3.ext e4;exact⟨es,hb.upd u5 (by omega),he.1,λi e x h1 h2=>he.2 i e x h1 h2⟩
 have x5:Ext w w5:=u5.below (e1.trans x24) (by omega);obtain⟨ar,cr,hvr,_⟩:=RL.len hr5;obtain⟨ap,cp,hvp,_⟩:=RL.len hp5;obtain⟨es,hE5⟩:=RL.toEs hr5;have hml:(AJ6 m).length=(C7 m).length:=A8 ..;refine .midD (α:=Nat) (λ_=>[(3,vr),(4,vp),(5,iW (A1 m:Nat)),(6,pW b6)]) (λD1=>[mkD D1])
  (λD1 W=>Below w.heap.size w W/\Blk W b6 165 #[.slice (some ⟨gB,0,none⟩) (A1 m) (A1 m)]/\FB Z9 4 (λ_=>True) W gB ((List.range (A1 m)).map (bTo (C7 m) (C7 m).length))/\EsR eV (λk=>S k/\k<w1.heap.size) W vr es (AJ6 m)/\eI.R (λk=>S k/\k<w1.heap.size) W vp (A7 (C7 m))/\W.heap[D1]?=some (.deferred (some []))/\w.heap.size<=D1) ?_ ?_
 ·refine .sr (.mv O O (.mv O O ?_));refine .call _ O AO9 O (AN8 hvr hvp) λv6 w6 e6 h6=>.nil ?_;obtain⟨p1,p2,rfl,kp1,kp2,hp1',hp2'⟩:=h6;have x6:=x5.trans e6;refine .block (.range (Ax6 (S:=λk=>S k/\k<w1.heap.size) (m:=AJ6 m) (p:=C7 m) (es:=es) (va:=vr) (vb:=vp) (fP hml.symm) (by rw[hml];omega)) O BD8 (λk=>rfl) (by decide)
   (NulJ w (λk=>S k/\k<w1.heap.size) b6 p1 p2 gB (A1 m) vr vp es (AJ6 m) (C7 m)) (λ_ _=>False)
   (λk W W' h hs=>⟨h.low.trans (hs.below.mono x6.size),hs.cells.blk trivial h.k6,hs.cells.blk trivial h.kp1,hs.cells.blk trivial h.kp2,h.x.kp hs.cells,h.r.keep (λk c t f _ hc=>hs.cells k c t f trivial hc),eI.keep (λk c t f _ hc=>hs.cells k c t f trivial hc) h.p⟩)
   (λ_ _ _ h _=>h.elim) (λk W h=>⟨h.kp1,h.kp2,h.r,h.p⟩) ?_ ?_ ?_ (λ_ _ h=>h.elim))
  ·refine⟨x6,k6.ext e6,kp1,kp2,?_,hE5.ext e6,ER.ext eI hp5 e6⟩;have:(List.range (A1 m)).map (bTo (C7 m) 0)=List.replicate (A1 m) false:=by rw[<-R8 (A1 m) (λ_=>false)];unfold fil;apply cK;intro k _;simp[bTo]
   rw[this];exact f5.ext e6
  ·intro l k W hk hJ;refine .region (.an O O ⟨rfl,rfl,λW hJ hsz=>?_⟩);obtain⟨hlow,k6,kp1,kp2,hx,hrE,hpE⟩:=hJ;have hlws:=hlow.size;have hpl:=hech.lt k hk;refine .block (.region (.ld Bs3 O O k6 O (.mv O O (.ixB (i:=(C7 m).getD k 0) At4 D6 O O O hpl ?_))));refine .storeF (E:=Z9) (i:=(C7 m).getD k 0) (z:=true) (by decide) D6 O O hx O (by simp;exact hpl) (aD _) O λW2 f2 u2=>.nil ?_;rw[bTo_set] at f2;have hgn:¬ (S gB/\gB<w1.heap.size):=λh=>by have:=h.2;omega
   exact⟨by obtain⟨es',hb',_⟩:=hx;exact Oth.upd u2 hb',u2.below hlow (by omega),k6.upd u2 (by omega),kp1.upd u2 (by omega),kp2.upd u2 (by omega),f2,hrE.keep (Kp.upd u2 hgn),ER.upd eI hpE u2 hgn⟩
  ·intro W hJ hD;exact⟨w6.heap.size,rfl,lkA rfl,hJ.low,hJ.k6,hJ.x,hJ.r,hJ.p,hD,x6.size⟩
 rintro D1 w6 ⟨hlow6,k6,fB,hE6,hp6,hD1,hD1w⟩;have hs6:=hlow6.size;have hk6l:=k6.lt;have hfBl:=fB.lt;have hw16:w1.heap.size<=w6.heap.size:=by omega
 have hD1l:D1<w6.heap.size:=(Array.getElem?_eq_some_iff.1 hD1).1;refine .sr (.an O O ?_);refine .midD (α:=Value×List Nat) (λy=>[(8,y.1)]) (λy=>y.2.map mkD)
  (λy W=>Below w6.heap.size w6 W/\B4 eV 26 w6.heap.size S W y.1 (Ad2 m)/\y.2.Nodup/\∀ D∈y.2,W.heap[D]?=some (.deferred (some []))/\w.heap.size<=D) ?_ ?_
 rotate_left
 ·rintro⟨vb,ns⟩ W ⟨hB,ho,hnd,hns⟩;refine .sr (.mv O O (.an O O (.ret ?_)));have hD:∀ D∈ns,W.heap[D]?=some (.deferred (some [])):=λD h=>(hns D h).1;refine Q3.marks [_] results152 ns W hnd hD ⟨rfl,trivial⟩ ⟨Al9 ns W (λD h=>(hns D h).2) (hlow6.trans (hB.mono hs6)),?_⟩;exact (ho.kp (BK9 ns W hnd hD)).toR (λk hk=>up k (by omega)) (λ_ h=>h)
 refine .sr (.mv O O (.mv O O (.nil ?_)));refine .block (.loopD (α:=Nat×Value×List Nat) (λy=>[(3,vr),(4,vp),(5,iW (A1 m:Nat)),(6,pW b6),(8,y.2.1),(30,iW (A1 m:Nat)),(31,iW (y.1:Nat))]) (λy=>y.2.2.map mkD)
  (λy W=>Below w6.heap.size w6 W/\y.1<=A1 m/\B4 eV 26 w6.heap.size S W y.2.1 ((D7 (C7 m) y.1).map λk=>tab (A1 m) (nv (I7 m) (C7 m) k))/\y.2.2.Nodup/\∀ D∈y.2.2,W.heap[D]?=some (.deferred (some []))/\w.heap.size<=D)
  (λy=>A1 m-y.1) (0,.slice none 0 0,[D1]) ?_ O ?_ ?_)
 ·exact lkA rfl
 ·exact⟨Below.refl _ _,aC _,B4.nil,by simp,λD hD=>by simp at hD;subst hD;exact⟨hD1,hD1w⟩⟩
 rintro⟨i,vb,ns⟩ W ⟨hB,hi,ho,hnd,hns⟩;replace hi:i<=A1 m:=hi;replace ho:B4 eV 26 w6.heap.size S W vb ((D7 (C7 m) i).map λk=>tab (A1 m) (nv (I7 m) (C7 m) k)):=ho;replace hnd:ns.Nodup:=hnd;replace hns:∀ D∈ns,W.heap[D]?=some (.deferred (some []))/\w.heap.size<=D:=hns;refine .weak [(3,vr),(4,vp),(5,iW (A1 m:Nat)),(6,pW b6),(8,vb),(30,iW (A1 m:Nat)),(31,iW (i:Nat))] (λt v h=>h) ?_;show WC prog none _ _ _ _ (ns.map mkD) W;have hsW:=hB.size;have kB:∀ {W':World},Below w6.heap.size w6 W'->Blk W' b6 165 #[.slice (some ⟨gB,0,none⟩) (A1 m) (A1 m)]:=λh=>(h.block b6 hk6l).trans k6;have fBW:∀ {W':World},Below w6.heap.size w6 W'->FB Z9 4 (λ_=>True) W' gB ((List.range (A1 m)).map (bTo (C7 m) (C7 m).length)):=λ{W'} h=>by obtain⟨es',hb',he'⟩:=fB;exact⟨es',(h.block gB hfBl).trans hb',he'.1,λi e x h1 h2=>he'.2 i e x h1 h2⟩
 have hEW:∀ {W':World},Below w6.heap.size w6 W'->EsR eV (λk=>S k/\k<w1.heap.size) W' vr es (AJ6 m):=λh=>hE6.keep (λk c t f hk hc=>(h.block k (by have:=hk.2;omega)).trans hc);have hpW:∀ {W':World},Below w6.heap.size w6 W'->eI.R (λk=>S k/\k<w1.heap.size) W' vp (A7 (C7 m)):=λh=>eI.keep (λk c t f hk hc=>(h.block k (by have:=hk.2;omega)).trans hc) hp6;rcases aB i (A1 m) with hlt | hge;rotate_left
 ·refine .sr (.lssF O O O (by omega) (.nil (.seq (.condF O (.exit ?_)))));have:i=A1 m:=by omega
  subst this;exact⟨(vb,ns),rfl,lkA rfl,hB,ho,hnd,hns⟩
 refine .sr (.lssT O O O (by omega) (.nil (.seq (.condT O (.skip (.seq (.block (.sr (.mv O O (.alloc O Ax1 λWa b9 n9=>?_))))))))));obtain⟨e9,k9,hb9,hs9⟩:=n9;refine .store A5 O O k9 O (by simp[Value.cells]) (by simp[H3,Value.cells]) λWb k9 u9=>.nil ?_;replace k9:Blk Wb b9 3 #[iW (i:Nat)]:=k9;have xb:Ext W Wb:=u9.below e9 (by omega);have hsb:=u9.size;have hBb:Below w6.heap.size w6 Wb:=hB.trans (xb.mono hsW);refine .seq (.sr (.ld Bs3 O O (kB hBb) O (.ld A5 O O k9 O (.ixB (i:=i) At4 D6 O O O hlt ?_))));have hbi:((List.range (A1 m)).map (bTo (C7 m) (C7 m).length))[i]?=some (decide (i∈C7 m)):=by rw[aI,bA hlt,cY,bTo_all]
 refine .ldF (E:=Z9) (i:=i) (by decide) D6 O O (aD _) (fBW hBb) hbi λeb heb=>.nil ?_;replace heb:eb=.bool (decide (i∈C7 m)):=heb;subst heb;have hfs:D7 (C7 m) (i+1)=D7 (C7 m) i++if i∈C7 m then [] else [i]:=by unfold D7;rw[aP,bS];congr 1;by_cases h:i∈C7 m<;>simp[h]
 have hnsb:∀ {W':World},Ext W W'->∀ D∈ns,W'.heap[D]?=some (.deferred (some []))/\w.heap.size<=D:=λe D hD=>⟨(e.block D (Array.getElem?_eq_some_iff.1 (hns D hD).1).1).trans (hns D hD).1,(hns D hD).2⟩;by_cases hip:i∈C7 m
 ·rw[decide_eq_true hip];refine .condT O (.exit (.region (.add O O O (.mv O O (.nil ?_)))));rw[wI (by omega)];refine⟨(i+1,vb,ns),rfl,lkA rfl,⟨hBb,hlt,?_,hnd,hnsb xb⟩,by show A1 m-(i+1)<A1 m-i;omega⟩;show B4 eV 26 w6.heap.size S Wb vb _;rw[hfs,if_pos hip,bB];exact ho.ext xb
 rw[decide_eq_false hip];refine .condF O (.skip (.sr (.mv O O ?_)));refine .make_ _ _ C9 J4 O (by decide) O O O (aA _) (by omega) (by omega) λWc h nc=>?_;have fc:FB eQ 39 (λk=>S k/\vb.ownBlock≠some k) Wc h (List.replicate (A1 m) q0):=FB.made nc AF1;obtain⟨ec,_,hh,hsc⟩:=nc;refine .alloc O BL7 λWd b10 nd=>?_;obtain⟨ed,k10,hb10,hsd⟩:=nd;refine .store C2 O O k10 O (by simp[Value.cells]) (by simp[H3,Value.cells]) λWe k10 ue=>.nil ?_;replace k10:Blk We b10 26 #[.slice (some ⟨h,0,none⟩) (A1 m) (A1 m)]:=k10;have xbe:Ext Wb We:=ue.below (ec.trans ed) (by omega);have xe:Ext W We:=xb.trans xbe;have hse:=ue.size;have k9:=k9.ext xbe;have fe:FB eQ 39 (λk=>S k/\vb.ownBlock≠some k) We h (List.replicate (A1 m) q0):=by
  obtain⟨es',hb',he'⟩:=fc.ext ed;refine⟨es',hb'.upd ue (by omega),he'.1,λi e x h1 h2=>?_⟩;have hz:x=q0:=by have:=List.mem_iff_getElem?.2 ⟨i,h2⟩;exact (List.mem_replicate.1 this).2
  have hlt':=ER.lt eQ (he'.2 i e x h1 h2);subst hz;obtain⟨s,t,hv,hs',ht'⟩:=hlt';refine⟨s,t,hv,?_,?_⟩
  ·obtain⟨es2,g1,a2,c2,g2,g3,g4,g5,g6⟩:=hs';exact⟨es2,⟨g1.1,λi e x h1 h2=>g1.2 i e x h1 h2⟩,a2,c2,g2,g3,g4,g5,λh=>absurd h (by simp[q0])⟩
  ·obtain⟨es2,g1,a2,c2,g2,g3,g4,g5,g6⟩:=ht';exact⟨es2,⟨g1.1,λi e x h1 h2=>g1.2 i e x h1 h2⟩,a2,c2,g2,g3,g4,g5,λh=>absurd h (by simp[q0])⟩
 have hown:∀ k,vb.ownBlock=some k->w6.heap.size<=k/\k<W.heap.size:=by obtain⟨es',h1,_⟩:=ho;exact λk hk=>h1.lt k hk
 have upQ:∀ {W':World},We.heap.size<=W'.heap.size->Up (λk=>(S k/\vb.ownBlock≠some k)/\k≠h) W':=λhs k hk=>⟨⟨up k (by omega),λhh'=>by have:=(hown k hh').2;omega⟩,by omega⟩;refine .seq ?_;refine .par follows 3 [.inl (.slice (some ⟨h,0,none⟩) (A1 m) (A1 m)),.inl (iW (i:Nat)),.inr (eQ.at (λk=>(S k/\vb.ownBlock≠some k)/\k≠h) (qc ((1:Int):Rat)))] [[],[],[]] (by kernel_rfl) ⟨λw e=>(E2 C2 O (k10.ext e) O).ob,λw e=>(E2 A5 O (k9.ext e) O).ob,λw e=>(A4 _ I2 O (H9 (upQ e.size) (by decide) (by decide))).oa,trivial⟩ ?_;intro Wf ef x2 hx2;refine .ixB (i:=i) C9 A3 O O O hlt ?_;refine .storeF (E:=eQ) (i:=i) (by decide) A3 O O (fe.ext ef) O (by simp;exact hlt) (aD _) hx2 λWg fg ug=>.nil ?_;have hunit:(List.replicate (A1 m) q0).set i (qc ((1:Int):Rat))=tab (A1 m) (BA3 (I7 m) (C7 m) i 0):=by
  have h0:List.replicate (A1 m) q0=tab (A1 m) λ_=>0:=by unfold tab;simp only[Q7];rw[gJ,eE]
  rw[h0,AB1];refine F5 λk _=>?_;unfold BA3;rw[B9];by_cases e:k=i
  ·rw[if_pos e,if_pos e];grind
  ·rw[if_neg e,if_neg e];grind
 rw[hunit] at fg;have xg:Ext W Wg:=ug.below (xe.trans ef) (by omega);have hsf:=ef.size;have hsg:=ug.size;have k9:=(k9.ext ef).upd ug (show b9≠h by omega);have k10:=(k10.ext ef).upd ug (show b10≠h by omega);refine .midD (α:=Nat) (λ_=>[(3,vr),(4,vp),(5,iW (A1 m:Nat)),(6,pW b6),(8,vb),(30,iW (A1 m:Nat)),(31,iW (i:Nat)),(10,pW b10)]) (λD=>(D::ns).map mkD)
  (λD Wz=>Ext W Wz/\Blk Wz b10 26 #[.slice (some ⟨h,0,none⟩) (A1 m) (A1 m)]/\FB eQ 39 (λk=>S k/\vb.ownBlock≠some k) Wz h (tab (A1 m) (nv (I7 m) (C7 m) i))/\Wz.heap[D]?=some (.deferred (some []))/\W.heap.size<=D) ?_ ?_
 ·refine .sr (.mv O O (.mv O O ?_));refine .call _ O AO9 O (AN8 hvr hvp) λv7 Wh eh h7=>.nil ?_;obtain⟨p1,p2,rfl,kp1,kp2,hp1',hp2'⟩:=h7;have xh:=xg.trans eh;have hBl:∀ {W':World},Below W.heap.size W W'->Below w6.heap.size w6 W':=λhh'=>hB.trans (hh'.mono hsW);refine .block (.range (Ax6 (S:=λk=>S k/\k<w1.heap.size) (m:=AJ6 m) (p:=C7 m) (es:=es) (va:=vr) (vb:=vp) (fP hml.symm) (by rw[hml];omega)) O BD8 (λk=>rfl) (by decide)
   (NulK W S b9 b10 p1 p2 h (A1 m) i vr vp vb (I7 m) (C7 m)) (λ_ _=>False)
   (λk W' W'' hh' hs=>⟨hh'.low.trans (hs.below.mono xh.size),hs.cells.blk trivial hh'.k9,hs.cells.blk trivial hh'.k10,hs.cells.blk trivial hh'.kp1,hs.cells.blk trivial hh'.kp2,hh'.x.kp hs.cells⟩)
   (λ_ _ _ hh' _=>hh'.elim) (λk W' hh'=>⟨hh'.kp1,hh'.kp2,hEW (hBl hh'.low),hpW (hBl hh'.low)⟩) ?_ ?_ ?_ (λ_ _ hh'=>hh'.elim))
  ·exact⟨xh,k9.ext eh,k10.ext eh,kp1,kp2,fg.ext eh⟩
  ·intro l j W' hj hJ;refine .sr (.an O O (.region (.an O O ⟨rfl,rfl,λW' hJ hsz=>?_⟩)));obtain⟨hlow,k9,k10,kp1,kp2,hx⟩:=hJ;have hlws:=hlow.size;have hpl:=hech.lt j hj;have hrow:(AJ6 m)[j]?=some (tab (A1 m) (I7 m j)):=F2 hj;have hrE:=hEW (hBl hlow);have hek:es[j]?=some (es.getD j Q9):=B0 (by rw[hrE.1.1,hml];exact hj);have hrw:=hrE.1.2 j _ _ hek hrow;have hTq:∀ k,(S k/\k<w1.heap.size)->((S k/\vb.ownBlock≠some k)/\k≠h):=λk hk=>⟨⟨hk.1,λhh'=>by have:=(hown k hh').1;have:=hk.2;omega⟩,by have:=hk.2;omega⟩;have hrw':=eV.mono (λk _ hk=>hTq k hk) hrw;have hsWh:We.heap.size<=W'.heap.size:=by have:=eh.size;omega
   refine .block (.par follows 7 [.inl (.slice (some ⟨h,0,none⟩) (A1 m) (A1 m)),.inl (iW ((C7 m).getD j 0:Nat)),.inl (es.getD j Q9),.inl (iW (i:Nat)),.inr (Ptr eQ (λk=>(S k/\vb.ownBlock≠some k)/\k≠h) (qc (I7 m j i))),.inr (eQ.at (λk=>(S k/\vb.ownBlock≠some k)/\k≠h) (qc (I7 m j i))),.inr (eQ.at (λk=>(S k/\vb.ownBlock≠some k)/\k≠h) (qc (-(I7 m j i))))]
    [[],[],[],[],[(51,2),(52,3)],[(53,4)],[(54,5)]] (by kernel_rfl) ⟨λw e=>(E2 C2 O (k10.ext e) O).ob,mvo O,mvo O,λw e=>(E2 A5 O (k9.ext e) O).ob,λw e=>C4 (i:=i) C9 A3 O (ER.ext eV hrw' e) O (H2 hlt),λw e p hp=>K1 A3 O hp,λw e x hx=>by have:=BB6 (L:=40000000) (upQ (aG hsWh e.size)) hx (AJ7 (hrsz j i (by omega) hlt)) (by decide) (by decide);rw[C3] at this;exact (A4 _ BF0 O this).oa,trivial⟩ ?_)
   intro W1 e1' x4 _ x5 _ x6 h6;refine .ixB (i:=(C7 m).getD j 0) C9 A3 O O O hpl ?_;refine .storeF (E:=eQ) (i:=(C7 m).getD j 0) (by decide) A3 O O (hx.ext e1') O (by rw[A2];exact hpl) (aD _) h6 λW2 f2 u2=>.nil ?_;rw[AB1,<-BK4 hech hj hip (H6 hj)] at f2;exact⟨(Oth.ext e1').trans (by obtain⟨es',hb',_⟩:=hx.ext e1';exact Oth.upd u2 hb'),u2.below (hlow.trans (e1'.mono hlws)) (by omega),(k9.ext e1').upd u2 (by omega),(k10.ext e1').upd u2 (by omega),(kp1.ext e1').upd u2 (by omega),(kp2.ext e1').upd u2 (by omega),f2⟩
  ·intro W' hJ hD;exact⟨Wh.heap.size,rfl,lkA rfl,hJ.low,hJ.k10,hJ.x,hD,xh.size⟩
 rintro D Wz ⟨xz,k10,fz,hDz,hDW⟩;have hsz:=xz.size;have hBz:Below w6.heap.size w6 Wz:=hB.trans (xz.mono hsW);have hoz:=ho.ext xz;have hrow:eV.R (λk=>S k/\vb.ownBlock≠some k) Wz (.slice (some ⟨h,0,none⟩) (A1 m) (A1 m)) (tab (A1 m) (nv (I7 m) (C7 m) i)):=by have:=fz.toR (c:=A1 m) (hsz:=by decide) ⟨up h (by omega),λhh'=>by have:=(hown h hh').2;omega⟩ (by rw[A2];exact aA _) (by rw[A2];omega);rwa [A2] at this
 refine .region (.mv O O (.ld C2 O O k10 O (.bsl _ O O Ah1 λWy by_ ny=>?_)));obtain⟨ey,ky,hby,hsy⟩:=ny;have hfl:(D7 (C7 m) i).length<=i:=by unfold D7;have:=dO (λk => !(decide (k∈C7 m))) (List.range i);simpa using this
 refine .gv O O (L5 (E:=eV) (base:=w6.heap.size) (n:=tab (A1 m) (nv (I7 m) (C7 m) i)) (e:=.slice (some ⟨h,0,none⟩) (A1 m) (A1 m)) (by decide) E4 AD5 O O O (hoz.ext ey) ky (hrow.ext ey) (by simp;omega) (by decide) (by have:=ey.size;omega)) ?_;rintro v8 W8 ⟨ho8,hg8⟩;refine .an O O (.region (.add O O O (.mv O O (.nil ?_))));rw[wI (by omega)];have hoth:Oth Wz W8:=(Oth.ext ey).trans ((hoz.ext ey).oth hg8);have hnsz:=hnsb xz;refine⟨(i+1,v8,D::ns),rfl,lkA rfl,⟨(hoz.ext ey).below hg8 (hBz.trans (ey.mono hBz.size)) (by have:=ey.size;omega),hlt,?_,?_,?_⟩,by show A1 m-(i+1)<A1 m-i;omega⟩
 ·show B4 eV 26 w6.heap.size S W8 v8 _;rw[hfs,if_neg hip,aM];exact ho8
 ·refine List.nodup_cons.2 ⟨λhmem=>?_,hnd⟩;have:=(Array.getElem?_eq_some_iff.1 (hns D hmem).1).1;omega
 ·intro D' hD';rcases List.mem_cons.1 hD' with rfl | hD'
  ·exact⟨hoth _ _ hDz rfl,by omega⟩
  ·exact⟨hoth _ _ (hnsz D' hD').1 rfl,(hnsz D' hD').2⟩
theorem BH6:Ent prog 101:=en func101
theorem BF6{S:Nat->Prop}{vb:Value}{m:List (List QV)}{L n:Nat}(up:Up S w)(hm:eM.R S w vm m)(hb:eV.R S w vb b)(hkm:mk_ L m)(hkb:vk L b)(hL:1<=L)(hr:m.length<=100)(hl:b.length<=100)(hc:A1 m<=90)(hmn:min (max m.length b.length) (A1 m+1)<=n)(hbd:bd L n<=40000000) :
  CR prog 101 #[vm,vb] w (Bl0 (eV.at S (if L9 m b then AN9 m b else [])) (eM.at S (if L9 m b then Ad2 m else [])) (Is (iW (if L9 m b then 0 else 8)))):=by
 refine enter func101 O ntmps101 O (.sr (.asg O O (.asg O O (.an O O (.sr (.mv O O (.mv O O (.call _ O Ah5 O (Af4 up hm hb hkm hkb hL hr hl hc hmn hbd) λv1 w1 e1 h1=>?_))))))));obtain⟨vx,vi,rfl,hx,hi⟩:=h1;subst hi;refine .mv O O (.ext O O O (.ext O O O (.asg O O (.an O O (.seq (.sr (.mv O O (.not_ O O (.nil ?_)))))))));by_cases hs:L9 m b
 ·rw[decide_eq_true hs];refine .condF O (.skip (.sr (.mv O O (.mv O O (.call _ O Am3 O (Aj3 (L:=L) (n:=n) (C:=100) (up.ext e1.size) (hm.ext e1) ⟨hkm,hL,hbd,by omega,hr,by omega,aA _⟩) λv2 w2 e2 h2=>.asg O O (.asg O O (.an O O (.ret (.plain [_,_,_] results101 ⟨rfl,rfl,rfl,trivial⟩ ⟨e1.trans e2,_,_,_,rfl,?_,?_,?_⟩)))))))))
  ·exact ER.ext eV hx e2
  ·rw[if_pos hs];exact h2
  ·show _=_;rw[if_pos hs]
 ·rw[decide_eq_false hs];refine .condT O (.sr (.asg O O (.asg O O (.an O O (.ret (.plain [_,_,_] results101 ⟨rfl,rfl,rfl,trivial⟩ ⟨e1,_,_,_,rfl,?_,?_,?_⟩))))))
  ·rw[if_neg hs];exact RL.nil
  ·rw[if_neg hs];exact RL.nil
  ·show _=_;rw[if_neg hs]
def AX8 (m:List (List QV)):RM:=λi k=>if k<m.length then rm m i k else idR i (k-m.length)
def AO5 (m:List (List QV)):RM×List Nat:=elim m.length (AX8 m) m.length
def AK8 (m:List (List QV)):List (List QV):=C6 m.length m.length λi k=>(AO5 m).1 i (m.length+k)
abbrev J3 (m:List (List QV)):Prop:=¬ (AO5 m).2.length<m.length
theorem Bs5(n c:Nat)(f:Nat->Rat):(tab (n+c) f).drop n=tab c λk=>f (n+k):=by
 apply cU;intro j;rw[eR];by_cases h:j<c
 ·rw[H2 (by omega),H2 h]
 ·rw[aH (by rw[A2];omega),aH (by rw[A2];omega)]
theorem Au9:Ent prog 189:=en func189
theorem At5{S:Nat->Prop}{m:List (List QV)}{L n:Nat}(up:Up S w)(hm:eM.R S w vm m)(hkm:mk_ L m)(hL:1<=L)(hr:m.length<=n)(hc:A1 m<=90)(hn:n<=100)(hbd:bd L n<=40000000) :
  CR prog 189 #[vm] w (Two (eM.at S (if A1 m=m.length/\J3 m then AK8 m else [])) (Is (iW (if A1 m=m.length then (if J3 m then 0 else 8) else 13)))):=by
 have hL2:L<=40000000:=aG (Z3 L (aC n)) hbd;have hm0:=ER.lt eM hm;have hMW:∀ {W:World},Below w.heap.size w W->eM.R S W vm m:=λhB=>eM.mono (λk _ hk=>hk.1) (eM.keep (λk c t f hk h=>(hB.block k hk.2).trans h) hm0);generalize hRp:Two (eM.at S (if A1 m=m.length/\J3 m then AK8 m else [])) (Is (iW (if A1 m=m.length then (if J3 m then 0 else 8) else 13)))=Rp;obtain⟨N,hN⟩:∃ N,m.length=N:=⟨_,rfl⟩;rw[hN] at hr;generalize hG:(λi=>tab N (idR i))=G;refine enter func189 O ntmps189 O (.sr (.asg O O (.an O O (.sr (.mv O O (.lenR E4 O O hm ?_))))));rw[hN];refine .an O O (.seq (.sr (.mv O O (.call _ O AE0 O (AD4 hm) λv0 w0 e0 h0=>?_))));subst h0;refine .mv O O ?_;by_cases hsq:A1 m=N;rotate_left
 ·refine .neqT rfl rfl rfl (by intro e;exact hsq (by omega)) (.nil (.condT rfl (.sr (.asg rfl rfl (.an rfl rfl (.ret (.plain [_,_] results189 ⟨rfl,rfl,trivial⟩ ⟨e0,?_⟩)))))));rw[<-hRp];refine⟨_,_,rfl,?_,?_⟩
  ·rw[if_neg (λh=>hsq (h.1.trans hN))];exact RL.nil
  ·show _=_;rw[if_neg (λh=>hsq (h.trans hN))]
 have hsq':A1 m=m.length:=hsq.trans hN.symm;refine .neqF O O O (by rw[hsq]) (.nil (.condF O (.skip (.sr (.mv O O ?_)))));refine .make_ _ _ E4 AD5 O (by decide) O O O (aA _) (by omega) (by omega) λw1 gu n1=>.an O O ?_;have f1:FB eV 26 S w1 gu (List.replicate N []):=FB.made n1 RL.nil;obtain⟨e1,_,hgu,hs1⟩:=n1;have x1:=e0.trans e1;have hs0:=e0.size;refine .mid (α:=Unit) (λ_=>[(0,vm),(4,iW (N:Nat)),(5,.slice (some ⟨gu,0,none⟩) N N)]) (λ_ W=>Below w.heap.size w W/\FB eV 26 S W gu ((List.range N).map G)) ?_ ?_
 ·refine .sr (.mv O O (.len E4 O O (.mv O O (.nil ?_))));refine .block (.loop (α:=Nat) (λi=>[(0,vm),(4,iW (N:Nat)),(5,.slice (some ⟨gu,0,none⟩) N N),(19,iW (N:Nat)),(20,iW (i:Nat))])
   (λi W=>Below w.heap.size w W/\i<=N/\FB eV 26 S W gu (fil N i G [])) (λi=>N-i) 0 ?_ ?_ ?_)
  ·exact lkA rfl
  ·exact⟨x1,aC _,by rw[R8];exact f1⟩
  ·rintro i W ⟨hB,hi,hF⟩;have hsz:=hB.size;have hgl:=hF.lt;rcases aB i N with hlt | hge;rotate_left
   ·refine .sr (.lssF O O O (by omega) (.nil (.seq (.condF O (.exit ?_)))));have:i=N:=by omega
    subst this;rw[AI3] at hF;exact⟨rfl,(),lkA rfl,hB,hF⟩
   refine .sr (.lssT O O O (by omega) (.nil (.seq (.condT O (.skip (.seq (.block (.sr (.mv O O (.an O O (.sr (.mv O O (.mv O O (.mv O O ?_))))))))))))));refine .make_ _ _ C9 J4 O (by decide) O O O (aA _) (by omega) (by omega) λW1 h n2=>?_;have hn2:=n2;have fh:FB eQ 39 (λk=>S k/\k≠gu) W1 h (List.replicate N q0):=FB.made n2 AF1;obtain⟨e2,k2,hh,hs2⟩:=n2;refine .ixB (i:=i) E4 C2 O O O hlt ?_;refine .gv O O (FBx.start (i:=i) C2 hF hn2 (by rw[L7];exact hlt) O O) ?_;rintro _ W2 ⟨hx2,u2,kh2,hne⟩;refine .nil ?_;have hB2:Below w.heap.size w W2:=u2.below (hB.trans (e2.mono hsz)) (by omega);have hs2':=u2.size;have fh2:=fh.upd u2 (λe=>hne e.symm) (λhh'=>hh'.2 O);refine .par follows 6 [.inl _,.inl (iW (i:Nat)),.inl _,.inl (.slice (some ⟨h,0,none⟩) N N),.inl (iW (i:Nat)),.inr (eQ.at (λk=>(S k/\k≠gu)/\k≠h) (qc ((1:Int):Rat)))]
    [[],[],[(28,0),(29,1)],[(30,2)],[],[]] (by kernel_rfl) ⟨mvo O,mvo O,λw e=>(G6 (i:=i) E4 C2 O O hlt).ob,λw e=>(AJ2 C2 O ((hx2.keep (Kp.ext e) hne).ptr O)).ob,mvo O,λw e=>(A4 _ I2 O (H9 (λk hk=>⟨⟨up k (by have:=e.size;omega),by have:=e.size;omega⟩,by have:=e.size;omega⟩) (by decide) (by decide))).oa,trivial⟩ ?_
   intro W3 e3 x5 h5;refine .ixB (i:=i) C9 A3 O O O hlt ?_;refine .storeF (E:=eQ) (i:=i) (by decide) A3 O O (fh2.ext e3) O (by simp;exact hlt) (aD _) h5 λW4 f4 u4=>.nil ?_;have hunit:(List.replicate N q0).set i (qc ((1:Int):Rat))=G i:=by
    have h0:List.replicate N q0=tab N λ_=>0:=by unfold tab;simp only[Q7];rw[gJ,eE]
    rw[h0,AB1,<-hG];refine F5 λk _=>?_;unfold idR;by_cases e:k=i
    ·rw[if_pos e,if_pos e.symm];simp
    ·rw[if_neg e,if_neg (λe2=>e e2.symm)]
   rw[hunit] at f4;refine .region (.add O O O (.mv O O (.nil ?_)));rw[wI (by omega)];have hx4:=(hx2.keep (Kp.ext e3) hne).keep (Kp.upd u4 (λhc=>hc O)) hne;have hrow:eV.R (λk=>S k/\k≠gu) W4 (.slice (some ⟨h,0,none⟩) N N) (G i):=by
    have hGl:(G i).length=N:=by rw[<-hG];exact A2 ..
    have:=f4.toR (c:=N) (hsz:=by decide) ⟨up h (by omega),by omega⟩ (by rw[hGl];exact aA _) (by rw[hGl];omega);rwa [hGl] at this
   have hF4:=hx4.done hrow;rw[X5] at hF4;exact⟨rfl,i+1,lkA rfl,⟨u4.below (hB2.trans (e3.mono hB2.size)) (by omega),hlt,hF4⟩,by show N-(i+1)<N-i;omega⟩
 rintro _ W ⟨hB,hF⟩;have hsz:=hB.size;have hU:(List.range N).map G=C6 N N idR:=by rw[<-hG];rfl
 rw[hU] at hF;have hR:=hF.toR (c:=N) (hsz:=by decide) (up gu (by omega)) (by rw[A8];exact aA _) (by rw[A8];omega);rw[A8] at hR;have hcU:A1 (C6 N N idR)=N:=by rw[Ao8];split<;>omega
 have hkU:mk_ L (C6 N N idR):=Aw2 λi k _ _=>by
  unfold idR;split
  ·have:=Rsz.int 1 (L:=L) (bC (by decide) (aQ (by decide) hL)) hL;simpa using this
  ·exact Rsz.zero hL
 have upW:=up.ext hsz;refine .sr (.mv O O (.mv O O ?_));refine .call _ O AU1 O (AO3 (L:=L) upW (hMW hB) hR hkm hkU hL (by omega) (by omega) (by rw[A8];omega) (by omega) (by rw[hcU];omega)) λv2 w2 e2 h2=>.an O O ?_;rw[hN,A8,fV,hsq,hcU] at h2;obtain⟨gb,rfl,hgb,hF2⟩:=h2;have hcat:C6 N (N+N) (Ap0 m (C6 N N idR))=C6 N (N+N) (AX8 m):=E7 λi k hi hk=>by
  unfold Ap0 AX8;rw[hsq,hN];by_cases h:k<N
  ·rw[if_pos h,if_pos h]
  ·rw[if_neg h,if_neg h,Av9,if_pos ⟨hi,by omega⟩]
 rw[hcat] at hF2;have x2:=hB.trans (e2.mono hsz);have hgl2:=hF2.lt;have hs2:=e2.size;refine .seq (.sr (.mv O O (.mv O O ?_)));refine .call _ O AV1 O AU6 λv3 w3 e3 h3=>?_;subst h3;have hs3:=e3.size;have hszF:∀ i k,i<N->k<N+N->Rsz (AX8 m i k) L:=λi k _ _=>by
  unfold AX8;split
  ·exact hkm.rsz hL i k
  ·unfold idR;split
   ·have:=Rsz.int 1 (L:=L) (bC (by decide) (aQ (by decide) hL)) hL;simpa using this
   ·exact Rsz.zero hL
 have hcall:=AL8 (X:=λ_=>False) (cols:=N) (cap:=N) (L:=L) (M:=40000000) (upW.ext (by omega)) (hF2.ext e3) (aA _) (by omega) (by omega) (by omega) hL hszF (aG (Z3 L (by omega)) hbd) (aA _) (up gb (by omega)) (λ_ h=>h.elim) Bj7 trivial;refine .callG _ O AN1 O hcall ?_;rintro v4 w4 ⟨c4,h4,f4,-⟩;have x3:=x2.trans (e3.mono (by omega));have x4:Ext w w4:=c4.below x3 (by omega) (λk hk=>by rcases hk with rfl | hk;omega;exact hk.elim);refine .lenR C5 O O h4 (.mv O O ?_);have hE:elim N (AX8 m) N=AO5 m:=by unfold AO5;rw[hN]
 rw[hE] at f4;rw[show (A7 (elim N (AX8 m) N).2).length=(AO5 m).2.length by rw[hE];simp];by_cases hinv:(AO5 m).2.length<N
 ·refine .lssT O O O (by omega) (.nil (.condT O (.sr (.asg O O (.an O O (.ret (.plain [_,_] results189 ⟨rfl,rfl,trivial⟩ ⟨x4,?_⟩)))))));rw[<-hRp];refine⟨_,_,rfl,?_,?_⟩
  ·rw[if_neg (λh=>h.2 (hN.symm▸hinv))];exact RL.nil
  ·show _=_;rw[if_pos hsq',if_neg (λh=>h (hN.symm▸hinv))]
 refine .lssF O O O (by omega) (.nil (.condF O (.skip ?_)));generalize hR2:(λi=>tab N λk=>(AO5 m).1 i (N+k))=R2;refine .mid (α:=Unit) (λ_=>[(7,.slice (some ⟨gb,0,none⟩) N N)]) (λ_ W=>Below w.heap.size w W/\FB eV 26 S W gb ((List.range N).map R2)) ?_ ?_
 ·refine .sr (.mv O O (.len E4 O O (.mv O O (.nil ?_))));refine .block (.loop (α:=Nat) (λi=>[(4,iW (N:Nat)),(7,.slice (some ⟨gb,0,none⟩) N N),(46,.slice (some ⟨gb,0,none⟩) N N),(47,iW (N:Nat)),(48,iW (i:Nat))])
   (λi W=>Below w.heap.size w W/\i<=N/\FB eV 26 S W gb ((List.range N).map λj=>if j<i then R2 j else tab (N+N) ((AO5 m).1 j))) (λi=>N-i) 0 ?_ ?_ ?_)
  ·exact lkA rfl
  ·exact⟨x4,aC _,by simpa[C6] using f4⟩
  ·rintro i W ⟨hB,hi,hF⟩;have hsz:=hB.size;rcases aB i N with hlt | hge;rotate_left
   ·refine .sr (.lssF O O O (by omega) (.nil (.seq (.condF O (.exit ?_)))));have:i=N:=by omega
    subst this;have he:(List.range i).map (λj=>if j<i then R2 j else tab (i+i) ((AO5 m).1 j))=(List.range i).map R2:=cK λj hj=>by rw[if_pos (List.mem_range.1 hj)]
    rw[he] at hF;exact⟨rfl,(),lkA rfl,hB,hF⟩
   refine .sr (.lssT O O O (by omega) (.nil (.seq (.condT O (.skip (.seq (.block (.sr (.mv O O (.ixB (i:=i) E4 C2 O O O hlt ?_))))))))));have hrow:((List.range N).map λj=>if j<i then R2 j else tab (N+N) ((AO5 m).1 j))[i]?=some (tab (N+N) ((AO5 m).1 i)):=by rw[aI,bA hlt];simp
   refine .ldF (E:=eV) (i:=i) (by decide) C2 O O (aD _) hF hrow λer her=>.asg O O (.an O O (.region (.mv O O (.mv O O (.mv O O (.mv O O (.gv O O (g_cut (E:=eQ) (hsz:=by decide) (some _) none N (N+N) C9 A3 O her ⟨.i64,rfl⟩ (A2 _ _).symm (by omega) (by rw[A2];exact aA _)) ?_)))))));rintro v5 _ ⟨rfl,h5⟩;rw[aK (by rw[A2];exact aA _),Bs5] at h5;refine .ixB (i:=i) E4 C2 O O O hlt (.storeF (E:=eV) (i:=i) (by decide) C2 O O hF O (by simp;exact hlt) (aD _) h5 λW3 f3 u3=>.nil (.region (.add O O O (.mv O O (.nil ?_)))));rw[wI (by omega)];refine⟨rfl,i+1,lkA rfl,⟨u3.below hB (by omega),hlt,?_⟩,by show N-(i+1)<N-i;omega⟩;have he:((List.range N).map λj=>if j<i then R2 j else tab (N+N) ((AO5 m).1 j)).set i (tab N λk=>(AO5 m).1 i (N+k))=(List.range N).map λj=>if j<i+1 then R2 j else tab (N+N) ((AO5 m).1 j):=by
    apply cU;intro j;rw[dB];by_cases e:i=j
    ·subst e;simp[hlt,<-hR2]
    ·rw[if_neg e,aI,aI];by_cases hj:j<N
     ·simp only[bA hj,cY];by_cases h1:j<i
      ·rw[if_pos h1,if_pos (by omega)]
      ·rw[if_neg h1,if_neg (by omega)]
     ·rw[aH (by simpa using hj)];rfl
   rw[he] at f3;exact f3
 ·rintro _ W ⟨hB,hF⟩;have hsz:=hB.size;refine .sr (.mv O O (.asg O O (.an O O (.ret ?_))));have hI:(List.range N).map R2=AK8 m:=by unfold AK8;rw[hN,<-hR2];rfl
  rw[hI] at hF;have hl:(AK8 m).length=N:=by unfold AK8;rw[A8,hN]
  have:=hF.toR (c:=N) (hsz:=by decide) (up gb (by omega)) (by rw[hl];exact aA _) (by rw[hl];omega);rw[hl] at this;refine .plain [_,_] results189 ⟨rfl,rfl,trivial⟩ ⟨hB,?_⟩;rw[<-hRp];refine⟨_,_,rfl,?_,?_⟩
  ·rw[if_pos ⟨hsq',λh=>hinv (hN▸h)⟩];exact this
  ·show _=_;rw[if_pos hsq',if_pos (λh=>hinv (hN▸h))]
section
variable {n N C CA:Nat} {g A:RM} {p:List Nat}
theorem Bu5 (h:Ech n CA g p) {D:Nat} (hp:∀ j,j<p.length->p.getD j 0<C) (a:Nat->Rat):B9 C (λk=>a k*Ak4 g p D k)=B9 p.length λj=>a (p.getD j 0)*g j D:=by
 have e1:∀ k,a k*Ak4 g p D k=B9 p.length λj=>if p.getD j 0=k then a (p.getD j 0)*g j D else 0:=by
  intro k;unfold Ak4 AH0;rw[<-AB2];refine A9 λj _=>?_;by_cases e:p.getD j 0=k
  ·rw[if_pos e,if_pos e,e]
  ·rw[if_neg e,if_neg e,aW]
 rw[A9 λk _=>e1 k,Z5];refine A9 λj hj=>?_;rw[I8 (i:=p.getD j 0) (λk _ hk=>by rw[if_neg (λe=>hk e.symm)]),if_pos (hp j hj),if_pos rfl]
theorem sol_of (he:Ech N (C+1) g p) (hq:Req N (C+1) A g) (hp:∀ j,j<p.length->p.getD j 0≠C):∀ i,i<N->B9 C (λk=>A i k*Ak4 g p C k)=A i C:=by
 have hp':∀ j,j<p.length->p.getD j 0<C:=λj hj=>by have:=he.lt j hj;have:=hp j hj;omega
 have key:∀ i,i<N->B9 (C+1) (λk=>g i k*(if k=C then -1 else Ak4 g p C k))=0:=by
  intro i hi;rw[B9,if_pos rfl,A9 (g:=λk=>g i k*Ak4 g p C k) λk hk=>by rw[if_neg (by omega)],Bu5 he hp'];rw[I8 (i:=i) (λj hj hne=>by rw[he.one i j hi hj,if_neg (λe=>hne e.symm),bL])];split
  ·rename_i hj;rw[he.one i i hi hj,if_pos rfl];grind
  ·rename_i hj;rw[he.nil i C (by omega) hi (by omega)];grind
 intro i hi;have:=Spn.dot0 (hq.2 i hi) key;rw[B9,if_pos rfl,A9 (g:=λk=>A i k*Ak4 g p C k) λk hk=>by rw[if_neg (by omega)]] at this;grind
theorem no_sol (he:Ech N (C+1) g p) (hq:Req N (C+1) A g) {j:Nat} (hj:j<p.length) (hC:p.getD j 0=C):∃ t:Nat->Rat,(∀ k,k<C->B9 N (λi=>t i*A i k)=0)/\B9 N (λi=>t i*A i C)=1:=by
 have hN:=he.len;obtain⟨t,ht⟩:=hq.1 j (by omega);refine⟨t,λk hk=>?_,?_⟩
 ·rw[<-ht k (by omega)];exact he.low j k hj (by omega)
 ·rw[<-ht C (by omega)];have:=he.one j j (by omega) hj;rw[hC,if_pos rfl] at this;exact this
theorem sol_no {x t:Nat->Rat} (hx:∀ i,i<N->B9 C (λk=>A i k*x k)=A i C) (ht:∀ k,k<C->B9 N (λi=>t i*A i k)=0):B9 N (λi=>t i*A i C)=0:=by
 have e1:B9 N (λi=>t i*A i C)=B9 N λi=>B9 C λk=>(t i*A i k)*x k:=A9 λi hi=>by rw[<-hx i hi,<-AB2];exact A9 λk _=>by grind
 rw[e1,Z5];exact H0 λk hk=>by rw[AD2,ht k hk,bL]
end
theorem Bz3 {n:Nat} {f:RM}:∀ c,Q0 n f c≠0
 | 0=>by show (1:Rat)≠0;decide
 | c+1=>by
  have ih:=Bz3 (n:=n) (f:=f) c
  have e2:Q0 n f (c+1)=Ag6 n c (elim n f c) (Q0 n f c):=rfl
  rw[e2]
  unfold Ag6
  split
  ·exact ih
  ·rename_i r hr
   obtain⟨_,_,h3,_⟩:=N8 hr
   refine λh=>?_
   rcases Rat.mul_eq_zero.1 h with h | h
   ·split at h
    ·exact ih h
    ·exact ih (by grind)
   ·exact h3 h
theorem Ech.nodup{n:Nat}{g:RM}{p:List Nat}(h:Ech n c g p):p.Nodup:=by rw[List.nodup_iff_pairwise_ne,List.pairwise_iff_getElem];intro i j hi hj hij;have:=h.mono hij hj;rw[aF,aF,aE hi,aE hj] at this;simp at this;omega
theorem BB2 {p:List Nat} (hn:p.Nodup):∀ i,(D7 p i).length+p.countP (λk=>decide (k<i))=i
 | 0=>by unfold D7;simp
 | i+1=>by
  have ih:=BB2 hn i
  have h1:(D7 p (i+1)).length=(D7 p i).length+if i∈p then 0 else 1:=by
   unfold D7
   rw[aP,bS,aL]
   by_cases h:i∈p<;>simp[h]
  have h2:p.countP (λk=>decide (k<i+1))=p.countP (λk=>decide (k<i))+if i∈p then 1 else 0:=by
   clear ih h1
   induction p with
   | nil=>simp
   | cons x p ihp =>
    have hx:=List.nodup_cons.1 hn
    rw[List.countP_cons,List.countP_cons,ihp hx.2]
    by_cases e:x=i
    ·subst e
     simp[hx.1]
    ·have h3:(i∈x::p)<->i∈p:=by simp[show ¬ i=x from λh=>e h.symm]
     simp only[h3]
     by_cases h4:x<i
     ·simp[h4,show x<i+1 by omega];omega
     ·simp[h4,show ¬ x<i+1 by omega]
  rw[h1,h2]
  by_cases h:i∈p
  ·simp only[h,if_true];omega
  ·simp only[h,if_false];omega
theorem Ech.free_len{n C:Nat}{g:RM}{p:List Nat}(h:Ech n C g p):(D7 p C).length+p.length=C:=by
 have:=BB2 h.nodup C;have h1:p.countP (λk=>decide (k<C))=p.length:=by rw[List.countP_eq_length];intro k hk;obtain⟨j,hj⟩:=List.mem_iff_getElem?.1 hk;have hl:j<p.length:=(List.getElem?_eq_some_iff.1 hj).1;have:=h.lt j hl;rw[aF,hj] at this;simpa using this
 omega
theorem Br4{l:List Int}(h:∀ n∈l,-9223372036854775808<=n/\n<=9223372036854775807):vk 2 (AB8 l) :=
 T7 λk _=>Rsz.int _ (by
  have:=AF8 (P:=λn:Int => -9223372036854775808<=n/\n<=9223372036854775807) (z:=0) h (by omega) k
  show (l.getD k 0).natAbs<18446744073709551616
  omega) (by omega)
abbrev iv (n:Int):Value:=.int .i64 n
theorem Be7{x y z:Int}:Y7 prog 117 3 [(0,iW x),(1,iW y),(2,iW z)]=some (2,#[iW x,iW y,iW z]):=by kernel_rfl
theorem BC1{S:Nat->Prop}{w':World}{b:Nat}{cs:Array Value}(l:List Int)(n:Nat)(hn:New w w' b t cs)(up:Up S w)(hcs:cs=(l.map iv).toArray)(hl:l.length=n)(hd:∀ x∈l,-9223372036854775808<=x/\x<=9223372036854775807)(hm:n<=1000) :
  eI.R S w' (.slice (some ⟨b,0,none⟩) n n) l:=by
 subst hl;refine RL.ofBlk (es:=l.map iv) hn.2.1 (up b (by have:=hn.2.2.1;omega)) ⟨by simp,λi e x he hx=>?_⟩ (λj u hu=>?_) (aA _) (by omega)
 ·rw[aI,hx] at he;simp at he;have:=hd x (List.mem_iff_getElem?.2 ⟨i,hx⟩);exact⟨he.symm,this.1,this.2⟩
 ·rw[K9 iv (λ_=>rfl)] at hu;rw[hcs];simpa using hu
section
variable {P:Program} {σ:Env} {w:World} {d:Option Tmp} {ty:TypeId} {pos:String} {af:Array Edge} {g:Option (Nat×Bool)}
theorem v_faP {s:TypeId} {x:Operand} {i off:Nat} {p:Addr} (hf:U7 P s i=some off) (hx:ev σ x=some (.pointer (some p))):Vl P ⟨d,.fieldAddr s x i,ty,pos,af,g⟩ σ w (.pointer (some (p.add off))):=by
 refine⟨(by intro _ h;cases h),λρ hρ=>?_⟩;have h1:=hρ x _ (by simp[Op.operands]) hx;unfold U7 at hf;split at hf
 ·rename_i fs hfs;split at hf
  ·rename_i f hff;split at hf
   ·rename_i j hj
    cases hz:Nat.beq j.size 0 with
    | true=>rw[hz] at hf;cases hf
    | false =>
     rw[hz] at hf;simp only[cond_false,Option.some.injEq] at hf;have hz':j.size≠0:=λe=>by rw[e] at hz;cases hz
     simp[execOp,h1,Instr.fieldAt,run_underlying hfs,hff,Instr.sureAddr,fieldPlace,sizeOf,typeInfo,hj,hz',hf]
   ·cases hf
  ·cases hf
 ·cases hf
end
theorem P5.zw{S:Nat->Prop}{p:Addr}{z:ZV}(h:P5 eZ S w p z):P5 eW S w (p.add 1) z.w:=by
 obtain⟨e,⟨s,rfl,hs⟩,h2,h3⟩:=h;obtain⟨a,c,hv,_⟩:=RL.len hs;refine⟨s,hs,by rw[J9];exact h2,λj u hu=>?_⟩;rw[hv] at hu;have hj:j=0:=by
  cases j with
  | zero=>rfl
  | succ j=>simp[Value.cells] at hu
 subst hj;rw[AC5];refine h3 1 u ?_;rw[hv];simpa[Value.cells] using hu
theorem P5.qn{S:Nat->Prop}{p:Addr}{q:QV}(h:P5 eQ S w p q):P5 eZ S w (p.add 0) q.num:=by
 obtain⟨e,⟨s,t,rfl,hs,ht⟩,h2,h3⟩:=h;refine⟨.agg #[.bool q.num.neg,s],⟨s,rfl,hs⟩,by rw[J9];exact h2,λj u hu=>?_⟩;rw[AC5];refine h3 _ u ?_;match j with
 | 0=>simpa[Value.cells] using hu
 | 1=>simpa[Value.cells] using hu
 | j+2=>simp[Value.cells] at hu
theorem P5.qd{S:Nat->Prop}{p:Addr}{q:QV}(h:P5 eQ S w p q):P5 eZ S w (p.add 2) q.den:=by
 obtain⟨e,⟨s,t,rfl,hs,ht⟩,h2,h3⟩:=h;refine⟨.agg #[.bool q.den.neg,t],⟨t,rfl,ht⟩,by rw[J9];exact h2,λj u hu=>?_⟩;rw[AC5];refine h3 _ u ?_;match j with
 | 0=>simpa[Value.cells] using hu
 | 1=>simpa[Value.cells] using hu
 | j+2=>simp[Value.cells] at hu
section
variable {P:Program} {ro:Option Nat} {N:Nat} {ds:List Deferred} {ops:Array Oper} {K:Env->World->Prop} {rest:List Oper} {σ:Env} {w:World} {d:Tmp} {ty:TypeId} {pos:String} {af:Array Edge}
theorem WL.faP {s:TypeId} {x:Operand} {i off:Nat} {p:Addr} (hf:U7 P s i=some off) (hd:Nat.blt d N=true) (hx:ev σ x=some (.pointer (some p))) (k:WL P ro N ds ops K rest ((d,.pointer (some (p.add off)))::σ) w) :
  WL P ro N ds ops K (⟨some d,.fieldAddr s x i,ty,pos,af,none⟩::rest) σ w:=WL.vl O hd (v_faP hf hx) k
end
section
variable {P:Program} {σ:Env} {w:World} {d:Option Tmp} {ty:TypeId} {pos:String} {af:Array Edge} {g:Option (Nat×Bool)} {S:Nat->Prop}
end
@[reducible] def Lng (Q:Prop):Value->World->Prop:=λv _=>∃ b,v=.bool b/\(b=false->Q)
theorem Bd0{α:Type}{l:List α}{j:Nat}{x:α}(h:l[j]?=some x):j<l.length:=by
 rcases aB j l.length with h' | h'
 ·exact h'
 ·rw[aH h'] at h;cases h
def hds (n:Nat):List Nat:=if h:n=0 then [] else n % 65536::hds (n / 65536)
 decreasing_by omega
theorem U6:hds 0=[]:=by unfold hds;simp
theorem Ab3{n:Nat}(h:n≠0):hds n=n % 65536::hds (n / 65536):=by rw[hds];simp[h]
theorem E0(n:Nat):B3 (hds n)=n:=by
 induction n using Nat.strongRecOn with
 | ind n ih =>
  by_cases h:n=0
  ·subst h;rw[U6];rfl
  ·rw[Ab3 h,B3,ih _ (by omega)];omega
theorem BC6(n:Nat):AG2 (hds n):=by
 induction n using Nat.strongRecOn with
 | ind n ih =>
  by_cases h:n=0
  ·subst h;rw[U6];intro x hx;cases hx
  ·rw[Ab3 h];intro x hx;rcases List.mem_cons.1 hx with rfl | hx
   ·omega
   ·exact ih _ (by omega) x hx
theorem AU5:∀ {l:List Nat},can l->l≠[]->B3 l≠0
 | [],_,h=>absurd O h
 | [x],hc,_=>by
  have:=hc x (by simp)
  simp only[B3];omega
 | x::y::r,hc,_=>by
  have ih:=AU5 (l:=y::r) (λu hu=>hc u (by simpa[fL] using hu)) (by simp)
  rw[B3];omega
theorem BA6:∀ {l:List Nat},AG2 l->can l->hds (B3 l)=l
 | [],_,_=>U6
 | x::r,hd,hc=>by
  have hx:=hd x (by simp)
  have hr:can r:=by
   intro u hu
   apply hc u
   cases r with
   | nil=>simp at hu
   | cons y r=>simpa[fL] using hu
  have ih:=BA6 (l:=r) (λz hz=>hd z (by simp[hz])) hr
  have h0:B3 (x::r)≠0:=AU5 hc (by simp)
  rw[Ab3 h0,B3]
  rw[show (x+65536*B3 r) % 65536=x by omega,show (x+65536*B3 r) / 65536=B3 r by omega,ih]
theorem Ac9(h:AG2 l):K2 l=hds (B3 l):=by rw[<-Af2,BA6 (Ag7 h) (Ab9 l)]
theorem AH6(h:AG2 l):B3 l<65536 ^ l.length:=by
 induction l with
 | nil=>simp[B3]
 | cons x l ih =>
  have hx:=h x (by simp);have:=ih λz hz=>h z (by simp[hz]);rw[B3,aS,aN];omega
theorem R0{n L:Nat}(h:n<65536 ^ L):(hds n).length<=L:=by
 induction L generalizing n with
 | zero=>rw[show n=0 by simpa using h,U6];simp
 | succ L ih =>
  by_cases h0:n=0
  ·rw[h0,U6];simp
  ·rw[Ab3 h0,aS];have:=ih (n:=n / 65536) (by rw[aN] at h;exact (bD (by omega)).2 h);omega
theorem Ag5(n:Nat):n<65536 ^ (hds n).length:=by have:=AH6 (BC6 n);rwa [E0] at this
theorem AD6{n:Nat}:hds n=[]<->n=0:=by
 constructor
 ·intro h;by_cases h0:n=0
  ·exact h0
  ·rw[Ab3 h0] at h;cases h
 ·rintro rfl;exact U6
theorem Aa4(l:List Nat)(x:Nat):B3 (l++[x])=B3 l+65536 ^ l.length*x:=by rw[AV8];simp[B3]
theorem T9(l:List Nat)(k:Nat):B3 (l.take (k+1))=B3 (l.take k)+65536 ^ k*l.getD k 0:=by
 rcases aB k l.length with h | h
 ·rw[fN h,Aa4,cI,cJ (by omega)];simp[aF,aE h]
 ·rw[aK (by omega),aK h];simp[aF,aH h]
theorem AI7{k:Nat}(h:k<l.length):B3 (l.drop k)=l.getD k 0+65536*B3 (l.drop (k+1)):=by rw[bX h,B3];simp[aF,aE h]
theorem X6(h:AG2 l)(k:Nat):l.getD k 0<65536:=by
 rw[aF]
 cases hk:l[k]? with
 | none=>simp
 | some x=>exact h x (List.mem_iff_getElem?.2 ⟨k,hk⟩)
theorem Bp4{x:Nat}(h:AG2 l)(hx:x<65536):AG2 (l++[x]):=by
 intro y hy;rcases List.mem_append.1 hy with h' | h'
 ·exact h y h'
 ·simp at h';omega
theorem BX6{r:List Nat}(h:AG2 l)(h':AG2 r):AG2 (l++r):=by
 intro y hy;rcases List.mem_append.1 hy with h1 | h1
 ·exact h y h1
 ·exact h' y h1
theorem AE4{k:Nat}(h:l.length<=k):B3 (l.take k)=B3 l:=by rw[aK h]
theorem R4{m n:Nat}(h:m<=n):(hds m).length<=(hds n).length:=R0 (bI h (Ag5 n))
theorem BM5(m:Nat):((m:Int).tmod 65536)=((m % 65536:Nat):Int):=AA9 m 65536
theorem Ay4(m:Nat):((m:Int).tdiv 65536)=((m / 65536:Nat):Int):=AB0 m 65536
def U9 (t:TypeId) (base:Nat) (w:World) (v:Value) (r:List Nat):Prop:=w.ownsRow base t 1 v r.length (r.map hvv)/\AG2 r
section
variable {t:TypeId} {base:Nat} {w w':World} {v:Value} {r:List Nat}
theorem U9.ext (h:U9 t base w v r) (e:Ext w w'):U9 t base w' v r:=⟨AQ0 h.1 λk cs _ hb=>hb.ext e,h.2⟩
theorem U9.below {w0:World} (h:U9 t base w v r) (hg:w.grownBy w' v.ownBlock) (hb:Below base w0 w) (hB:base<=w.heap.size):Below base w0 w':=hb.grown hg hB λk hk=>(h.1.lt k hk).1
theorem U9.nil:U9 t base w (.slice none 0 0) []:=⟨⟨rfl,.inl ⟨rfl,rfl⟩⟩,λx hx=>by cases hx⟩
theorem U9.toR {S:Nat->Prop} (h:U9 t base w v r) (hS:∀ k,base<=k->S k):eHs.R S w v r:=by
 refine RL.ofOwn (E:=eH) (es:=r.map hvv) (base:=base) (t:=t) (n:=r.length) ?_ O ⟨by simp,λi e x he hx=>?_⟩ hS
 ·rw[K9 hvv (λ_=>rfl)];exact h.1
 ·rw[aI,hx] at he;simp at he;exact⟨he.symm,h.2 x (List.mem_iff_getElem?.2 ⟨i,hx⟩)⟩
theorem U9.lit {b:Nat} {l:List Nat} (hn:New w w' b t (l.map hvv).toArray) (hB:base<=w.heap.size) (hd:AG2 l) (hl:l.length<=1000):U9 t base w' (.slice (some ⟨b,0,none⟩) l.length l.length) l:=by obtain⟨_,hk,hb,_⟩:=hn;exact⟨⟨by simp,.inr ⟨b,l.length,_,rfl,by omega,hk,aA _,by simp[maxLen];omega,by simp,by simp[aK]⟩⟩,hd⟩
end
section
variable {P:Program} {σ:Env} {w:World} {d:Option Tmp} {ty:TypeId} {pos:String} {af:Array Edge} {g:Option (Nat×Bool)}
theorem Bd5 {t e:TypeId} {x y:Operand} {base b:Nat} {v:Value} {r:List Nat} {n:Nat} (ht:P.underlying t=some (.slice e)) (hi:O8 P e=some (iW 0,1,8)) (hx:ev σ x=some v) (hy:ev σ y=some (.slice (some ⟨b,0,none⟩) 1 1))
  (hown:U9 e base w v r) (hb:Blk w b e #[hvv n]) (hn:n<65536) (hl:r.length<=1099511627776) (hbase:base<=w.heap.size) :
  Gv P ⟨d,.call { callee:=.builtin .append,args:=#[x,y],argTypes:=#[t,t] },ty,pos,af,g⟩ σ w λv' w'=>U9 e base w' v' (r++[n])/\w.grownBy w' v.ownBlock:=by
 refine (BB1 [hvv n] ht hi O (by decide) hx hy hown.1 O (λj u hu=>?_) (λu hu=>?_) (by omega) (by omega) hbase).mono ?_
 ·cases j with
  | zero=>simp at hu;subst hu;rw[S8,hb.cell];rfl
  | succ j=>simp at hu
 ·simp at hu;subst hu;rfl
 ·rintro v' w' ⟨h1,h2⟩;exact⟨⟨by simpa using h1,Bp4 hown.2 hn⟩,h2⟩
theorem Bj5 {S:Nat->Prop} {t e:TypeId} {x y:Operand} {base:Nat} {v u:Value} {r s:List Nat} (ht:P.underlying t=some (.slice e)) (hi:O8 P e=some (iW 0,1,8)) (hx:ev σ x=some v) (hy:ev σ y=some u)
  (hown:U9 e base w v r) (hs:eHs.R S w u s) (hl:r.length<=1000) (hl2:s.length<=1099511627776) (hbase:base<=w.heap.size) :
  Gv P ⟨d,.call { callee:=.builtin .append,args:=#[x,y],argTypes:=#[t,t] },ty,pos,af,g⟩ σ w λv' w'=>U9 e base w' v' (r++s)/\Below base w w':=by
 have hds:=AC3 hs;obtain⟨es,he,a,c,rfl,hc,_,hcl,hcells⟩:=hs;have hes:es=s.map hvv:=by
  apply cU;intro i;rw[aI]
  cases hi:s[i]? with
  | none=>rw[aH (by rw[he.1];exact List.getElem?_eq_none_iff.1 hi)];rfl
  | some z =>
   have hlt:i<s.length:=(List.getElem?_eq_some_iff.1 hi).1;have hee:=aE (show i<es.length by rw[he.1];exact hlt);obtain⟨h1,_⟩:=he.2 i _ z hee hi;rw[hee,h1];rfl
 subst hes;rw[K9 hvv (λ_=>rfl)] at hcells hcl;have hone:∀ u∈s.map hvv,H3 u=true:=by intro u hu;obtain⟨z,_,rfl⟩:=List.mem_map.1 hu;rfl
 have fin:∀ v' w',w'.ownsRow base e 1 v' (r.length+s.length) (r.map hvv++s.map hvv)->w.grownBy w' v.ownBlock->U9 e base w' v' (r++s)/\Below base w w':=by intro v' w' h1 h2;exact⟨⟨by simpa using h1,BX6 hown.2 hds⟩,hown.below h2 (Below.refl _ _) hbase⟩
 cases a with
 | some ad =>
  have hcell:∀ j u,(s.map hvv)[j]?=some u->w.cell? (ad.add j)=some u:=by
   intro j u hu;have hpos:0<s.length:=by
    cases s with
    | nil=>simp at hu
    | cons z s=>simp
   obtain⟨ad',h1,_,h2⟩:=hcells hpos
   cases h1;exact (h2 j u hu).1
  exact (BB1 (s.map hvv) ht hi O (by decide) hx hy hown.1 (by simp) hcell hone (by omega) (by omega) hbase).mono λv' w' ⟨h1,h2⟩=>fin v' w' h1 h2
 | none =>
  have h0:s=[]:=by
   cases s with
   | nil=>rfl
   | cons z s=>obtain⟨ad,h1,_⟩:=hcells (by simp);cases h1
  subst h0;refine (By8 ht hi hx hy hown.1).gv.mono λv' w' ⟨h1,h2⟩=>?_;subst h1;subst h2;exact⟨by simpa using hown,Below.refl _ _⟩
end
theorem Ah2{x:Int}:Y7 prog 25 1 [(0,iW x)]=some (3,#[iW x]):=by kernel_rfl
theorem bsl_H3{x y z:Int}:Y7 prog 25 3 [(0,iW x),(1,iW y),(2,iW z)]=some (3,#[iW x,iW y,iW z]):=by kernel_rfl
theorem AZ6:Ent prog 227:=en func227
theorem AX0{S:Nat->Prop}{vb:Value}{b:List Nat}(up:Up S w)(ha:eHs.R S w va a)(hb:eHs.R S w vb b)(hla:a.length<=100000000000)(hlb:b.length<=100000000000):CR prog 227 #[va,vb] w (eHs.at S (hds (B3 a+B3 b))):=by
 have hda:=AC3 ha;have hdb:=AC3 hb;have hA:∀ {W:World},Below w.heap.size w W->eHs.R (λk=>S k/\k<w.heap.size) W va a:=λhB=>eHs.keep (λk c t f hk h=>(hB.block k hk.2).trans h) (ER.lt eHs ha);have hBb:∀ {W:World},Below w.heap.size w W->eHs.R (λk=>S k/\k<w.heap.size) W vb b:=λhB=>eHs.keep (λk c t f hk h=>(hB.block k hk.2).trans h) (ER.lt eHs hb);refine enter func227 O ntmps227 O ?_;refine .sr (.an O O (.sr (.an O O (.sr (.an O O (.seq (.sr (.an O O ?_))))))));refine .block (.loop (α:=Nat×Value×List Nat×Nat) (λx=>[(0,va),(1,vb),(5,x.2.1),(6,iW (x.2.2.2:Nat)),(7,iW (x.1:Nat))])
  (λx W=>Below w.heap.size w W/\x.1<=max a.length b.length+1/\x.2.2.1.length=x.1/\U9 3 w.heap.size W x.2.1 x.2.2.1/\x.2.2.2<=1/\(max a.length b.length<x.1->x.2.2.2=0)/\B3 x.2.2.1+65536 ^ x.1*x.2.2.2=B3 (a.take x.1)+B3 (b.take x.1))
  (λx=>2*(max a.length b.length-x.1)+x.2.2.2) (0,.slice none 0 0,[],0) ?_ ?_ ?_)
 ·exact lkA rfl
 ·exact⟨Below.refl _ _,aC _,rfl,U9.nil,aC _,λ_=>rfl,by simp[B3]⟩
 ·rintro⟨i,u,r,c⟩ W ⟨hB,hi,hr,ho,hc,hc0,hv⟩;replace hB:Below w.heap.size w W:=hB;replace hi:i<=max a.length b.length+1:=hi;replace hr:r.length=i:=hr;replace ho:U9 3 w.heap.size W u r:=ho;replace hc:c<=1:=hc;replace hc0:max a.length b.length<i->c=0:=hc0;replace hv:B3 r+65536 ^ i*c=B3 (a.take i)+B3 (b.take i):=hv;have hxa:=X6 hda i;have hxb:=X6 hdb i;have round:∀ {σ:Env},(i<max a.length b.length\/0<c)->YtpgkacdihhjknaaGreat.look σ 0=some va->YtpgkacdihhjknaaGreat.look σ 1=some vb->YtpgkacdihhjknaaGreat.look σ 5=some u->YtpgkacdihhjknaaGreat.look σ 6=some (iW (c:Nat))->YtpgkacdihhjknaaGreat.look σ 7=some (iW (i:Nat))->True:=λ_ _ _ _ _ _=>trivial;refine .mid (α:=Unit) (λ_=>[(0,va),(1,vb),(5,u),(6,iW (c:Nat)),(7,iW (i:Nat))]) (λ_ W'=>W'=W/\(i<max a.length b.length\/0<c)) ?_ ?_
  ·have hend:¬ (i<max a.length b.length\/0<c)->B3 r=B3 a+B3 b:=by
    intro hn;have h0:c=0:=by omega
    rw[h0,dW,bP,AE4 (by omega),AE4 (by omega)] at hv;exact hv
   refine .sr (.mv O O (.mv O O (.lenR N1 O O (hA hB) ?_)));by_cases h1:i<a.length
   ·refine .lssT O O O (by omega) (.mv O O (.gs O O O O O (.gs O O O O O (.gs O O O O O (.gs O O O O O (.pick O O O (.mv O O (.gs O O O O O (.gs O O O O O (.pick O O O (.nil (.condT O (.skip ?_)))))))))))));exact⟨rfl,(),lkA rfl,rfl,by omega⟩
   ·refine .lssF O O O (by omega) (.mv O O (.gr O O O O (.mv O O (.gr O O O O (.mv O O (.gr O O O O (.lenR N1 O O (hBb hB) (.gr O O O O ?_))))))));by_cases h2:i<b.length
    ·refine .lssT O O O (by omega) (.pick O O O (.mv O O (.gs O O O O O (.gs O O O O O (.pick O O O (.nil (.condT O (.skip ?_))))))));exact⟨rfl,(),lkA rfl,rfl,by omega⟩
    ·refine .lssF O O O (by omega) (.pick O O O (.mv O O (.gr O O O O (.mv O O (.gr O O O O ?_)))));by_cases h3:0<c
     ·refine .gtrT O O O (show (0:Int)<((c:Nat):Int) by omega) (.pick O O O (.nil (.condT O (.skip ?_))));exact⟨rfl,(),lkA rfl,rfl,.inr h3⟩
     ·refine .gtrF O O O (show ¬ (0:Int)<((c:Nat):Int) by omega) (.pick O O O (.nil (.condF O (.exit (.sr (.mv O O ?_))))));refine .call _ O J7 O (J2 (ho.toR up)) λv2 W2 e2 h2=>.an O O (.ret ?_);refine .plain [_] results227 ⟨rfl,trivial⟩ ⟨hB.trans (e2.mono hB.size),?_⟩;rw[<-hend (by omega),<-Ac9 ho.2];exact h2
  ·rintro _ W' ⟨rfl,hgo⟩;refine .seq (.block (.sr (.mv O O (.mv O O ?_))));refine .call _ O M9 O (M8 (hA hB)) λv3 W3 e3 h3=>.mv O O (.mv O O ?_);subst h3;have hB3:Below w.heap.size w W3:=hB.trans (e3.mono hB.size);refine .call _ O M9 O (M8 (hBb hB3)) λv4 W4 e4 h4=>?_;subst h4;refine .add O O O (.mv O O (.add O O O (.an O O ?_)));rw[wI (n:=((a.getD i 0:Nat):Int)+((b.getD i 0:Nat):Int)) (by omega),wI (by omega),show ((a.getD i 0:Nat):Int)+((b.getD i 0:Nat):Int)+(c:Int)=((a.getD i 0+b.getD i 0+c:Nat):Int) by omega];generalize hm:a.getD i 0+b.getD i 0+c=m at *;refine .sr (.mv O O (.mv O O (.rem O O O (by decide) ?_)));rw[BM5];refine .bsl _ O O Ah2 λW5 b5 n5=>?_;obtain⟨e5,k5,hb5,hs5⟩:=n5;have e35:=(e3.trans e4).trans e5;have hB5:Below w.heap.size w W5:=hB.trans (e35.mono hB.size);refine .gv O O (Bd5 (base:=w.heap.size) N1 AJ9 O O (ho.ext e35) k5 (by omega) (by omega) hB5.size) ?_;rintro v6 W6 ⟨ho6,hg6⟩;refine .an O O (.region (.mv O O (.quo O O O (by decide) (.an O O ?_))));rw[Ay4,wI (by omega)];refine .region (.mv O O (.add O O O (.an O O ?_)));rw[wI (by omega)];have hget:max a.length b.length<=i->m / 65536=0:=by intro h;have h1:a.getD i 0=0:=AF9 (by omega);have h2:b.getD i 0=0:=AF9 (by omega);omega
   refine⟨rfl,(i+1,v6,_,m / 65536),lkA rfl,⟨(ho.ext e35).below hg6 hB5 hB5.size,by show i+1<=_;omega,by show (r++[_]).length=_;simp[hr],ho6,by show m / 65536<=1;omega,λh=>hget (by have h':max a.length b.length<i+1:=h;omega),?_⟩,?_⟩
   ·show B3 (r++[m % 65536])+65536 ^ (i+1)*(m / 65536)=B3 (a.take (i+1))+B3 (b.take (i+1));rw[Aa4,T9,T9,hr];have hdm:=bE m 65536;generalize m / 65536=q at *;generalize m % 65536=z at *;have:65536 ^ i*z+65536 ^ (i+1)*q=65536 ^ i*(a.getD i 0+b.getD i 0+c):=by rw[hm,<-hdm,aN];grind
    rw[aJ,aJ] at this;omega
   ·show 2*(max a.length b.length-(i+1))+m / 65536<2*(max a.length b.length-i)+c;rcases aB i (max a.length b.length) with h | h
    ·omega
    ·have:=hget h;omega
theorem AR8(l:List Nat)(i:Nat):B3 l=B3 (l.take i)+65536 ^ i*B3 (l.drop i):=by
 rcases aB i l.length with h | h
 ·have:B3 l=B3 (l.take i++l.drop i):=by rw[eC]
  rw[this,AV8,cI,cJ (by omega)]
 ·rw[aK h,cD h];simp[B3]
theorem Ax9(l:List Nat)(i:Nat):B3 (l.drop i)=l.getD i 0+65536*B3 (l.drop (i+1)):=by
 rcases aB i l.length with h | h
 ·exact AI7 h
 ·rw[cD h,cD (by omega),aF,aH h];rfl
theorem Bp3(h:AG2 l)(i:Nat):AG2 (l.take i):=λx hx=>h x (eO hx)
theorem Ai3(h:AG2 l)(i:Nat):B3 (l.take i)<65536 ^ i:=by have h1:=AH6 (Bp3 h i);refine bC h1 (aQ (by omega) ?_);simp;omega
theorem AP1:Ent prog 251:=en func251
theorem AO1{S:Nat->Prop}{vb:Value}{b:List Nat}{n:Nat}(up:Up S w)(hb:eHs.R S w vb b)(hlb:b.length<=100000000000)(hn:n<=65536):CR prog 251 #[vb,iW n] w (eHs.at S (hds (B3 b*n))):=by
 have hdb:=AC3 hb;have hB0:∀ {W:World},Below w.heap.size w W->eHs.R (λk=>S k/\k<w.heap.size) W vb b:=λhB=>eHs.keep (λk c t f hk h=>(hB.block k hk.2).trans h) (ER.lt eHs hb);refine enter func251 O ntmps251 O ?_;refine .sr (.an O O (.sr (.an O O (.sr (.an O O (.seq (.sr (.an O O ?_))))))));refine .block (.loop (α:=Nat×Value×List Nat×Nat) (λx=>[(0,vb),(1,iW (n:Nat)),(5,x.2.1),(6,iW (x.2.2.2:Nat)),(7,iW (x.1:Nat))])
  (λx W=>Below w.heap.size w W/\x.1<=b.length+2/\x.2.2.1.length=x.1/\U9 3 w.heap.size W x.2.1 x.2.2.1/\x.2.2.2<=65536/\(b.length<x.1->x.2.2.2<=1)/\(b.length+1<x.1->x.2.2.2=0)/\B3 x.2.2.1+65536 ^ x.1*x.2.2.2=B3 (b.take x.1)*n)
  (λx=>100000*(b.length-x.1)+x.2.2.2) (0,.slice none 0 0,[],0) ?_ ?_ ?_)
 ·exact lkA rfl
 ·exact⟨Below.refl _ _,aC _,rfl,U9.nil,aC _,λ_=>aC _,λ_=>rfl,by simp[B3]⟩
 ·rintro⟨i,u,r,c⟩ W ⟨hB,hi,hr,ho,hc,hc1,hc0,hv⟩;replace hB:Below w.heap.size w W:=hB;replace hi:i<=b.length+2:=hi;replace hr:r.length=i:=hr;replace ho:U9 3 w.heap.size W u r:=ho;replace hc:c<=65536:=hc;replace hc1:b.length<i->c<=1:=hc1;replace hc0:b.length+1<i->c=0:=hc0;replace hv:B3 r+65536 ^ i*c=B3 (b.take i)*n:=hv;have hxb:=X6 hdb i;refine .mid (α:=Unit) (λ_=>[(0,vb),(1,iW (n:Nat)),(5,u),(6,iW (c:Nat)),(7,iW (i:Nat))]) (λ_ W'=>W'=W/\(i<b.length\/0<c)) ?_ ?_
  ·refine .sr (.mv O O (.mv O O (.lenR N1 O O (hB0 hB) ?_)));by_cases h1:i<b.length
   ·refine .lssT O O O (by omega) (.mv O O (.gs O O O O O (.gs O O O O O (.pick O O O (.nil (.condT O (.skip ?_)))))));exact⟨rfl,(),lkA rfl,rfl,.inl h1⟩
   ·refine .lssF O O O (by omega) (.mv O O (.gr O O O O (.mv O O (.gr O O O O ?_))));by_cases h3:0<c
    ·refine .gtrT O O O (show (0:Int)<((c:Nat):Int) by omega) (.pick O O O (.nil (.condT O (.skip ?_))));exact⟨rfl,(),lkA rfl,rfl,.inr h3⟩
    ·refine .gtrF O O O (show ¬ (0:Int)<((c:Nat):Int) by omega) (.pick O O O (.nil (.condF O (.exit (.sr (.mv O O ?_))))));refine .call _ O J7 O (J2 (ho.toR up)) λv2 W2 e2 h2=>.an O O (.ret ?_);refine .plain [_] results251 ⟨rfl,trivial⟩ ⟨hB.trans (e2.mono hB.size),?_⟩;have h0:c=0:=by omega
     rw[h0,dW,bP,AE4 (by omega)] at hv;rw[<-hv,<-Ac9 ho.2];exact h2
  ·rintro _ W' ⟨rfl,hgo⟩;refine .seq (.block (.sr (.mv O O (.mv O O ?_))));refine .call _ O M9 O (M8 (hB0 hB)) λv3 W3 e3 h3=>?_;subst h3;refine .mv O O (.mul O O O (.mv O O (.add O O O (.an O O ?_))));have hmul:b.getD i 0*n<=65535*65536:=dD (by omega) hn;rw[<-cQ,wI (n:=((b.getD i 0*n:Nat):Int)) (by omega),<-dN,wI (by omega)];generalize hm:b.getD i 0*n+c=m at *;refine .sr (.mv O O (.mv O O (.rem O O O (by decide) ?_)));rw[BM5];refine .bsl _ O O Ah2 λW5 b5 n5=>?_;obtain⟨e5,k5,hb5,hs5⟩:=n5;have e35:=e3.trans e5;have hB5:Below w.heap.size w W5:=hB.trans (e35.mono hB.size);refine .gv O O (Bd5 (base:=w.heap.size) N1 AJ9 O O (ho.ext e35) k5 (by omega) (by omega) hB5.size) ?_;rintro v6 W6 ⟨ho6,hg6⟩;refine .an O O (.region (.mv O O (.quo O O O (by decide) (.an O O ?_))));rw[Ay4,wI (by omega)];refine .region (.mv O O (.add O O O (.an O O ?_)));rw[wI (by omega)];have hget:b.length<=i->m=c:=by intro h;have h2:b.getD i 0=0:=AF9 h;rw[h2] at hm;omega
   refine⟨rfl,(i+1,v6,_,m / 65536),lkA rfl,⟨(ho.ext e35).below hg6 hB5 hB5.size,?_,by show (r++[_]).length=_;simp[hr],ho6,by show m / 65536<=65536;omega,?_,?_,?_⟩,?_⟩
   ·show i+1<=b.length+2;rcases hgo with h | h
    ·omega
    ·by_cases hh:b.length+1<i
     ·have:=hc0 hh;omega
     ·omega
   ·intro h;have h':b.length<i+1:=h;have:=hget (by omega);show m / 65536<=1;omega
   ·intro h;have h':b.length+1<i+1:=h;have h1:=hget (by omega);have h2:=hc1 (by omega);show m / 65536=0;omega
   ·show B3 (r++[m % 65536])+65536 ^ (i+1)*(m / 65536)=B3 (b.take (i+1))*n;rw[Aa4,T9,hr,cF,<-hv];have hdm:=bE m 65536;generalize m / 65536=q at *;generalize m % 65536=z at *;have:65536 ^ i*z+65536 ^ (i+1)*q=65536 ^ i*(b.getD i 0*n+c):=by rw[hm,<-hdm,aN];grind
    rw[aJ,<-bF] at this;omega
   ·show 100000*(b.length-(i+1))+m / 65536<100000*(b.length-i)+c;rcases aB i b.length with h | h
    ·omega
    ·have:=hget h;omega
theorem AN3:Ent prog 229:=en func229
theorem AM2{S:Nat->Prop}{vb:Value}{b:List Nat}(up:Up S w)(ha:eHs.R S w va a)(hb:eHs.R S w vb b)(hla:a.length<=100000000000)(hab:B3 b<=B3 a):CR prog 229 #[va,vb] w (eHs.at S (hds (B3 a-B3 b))):=by
 have hda:=AC3 ha;have hdb:=AC3 hb;have hA:∀ {W:World},Below w.heap.size w W->eHs.R (λk=>S k/\k<w.heap.size) W va a:=λhB=>eHs.keep (λk c t f hk h=>(hB.block k hk.2).trans h) (ER.lt eHs ha);have hBb:∀ {W:World},Below w.heap.size w W->eHs.R (λk=>S k/\k<w.heap.size) W vb b:=λhB=>eHs.keep (λk c t f hk h=>(hB.block k hk.2).trans h) (ER.lt eHs hb);refine enter func229 O ntmps229 O ?_;refine .sr (.an O O (.sr (.an O O (.sr (.an O O (.seq (.sr (.an O O ?_))))))));refine .block (.loop (α:=Nat×Value×List Nat×Nat) (λx=>[(0,va),(1,vb),(5,x.2.1),(6,iW (x.2.2.2:Nat)),(7,iW (x.1:Nat))])
  (λx W=>Below w.heap.size w W/\x.1<=a.length/\x.2.2.1.length=x.1/\U9 3 w.heap.size W x.2.1 x.2.2.1/\x.2.2.2<=1/\B3 x.2.2.1+B3 (b.take x.1)=B3 (a.take x.1)+65536 ^ x.1*x.2.2.2)
  (λx=>a.length-x.1) (0,.slice none 0 0,[],0) ?_ ?_ ?_)
 ·exact lkA rfl
 ·exact⟨Below.refl _ _,aC _,rfl,U9.nil,aC _,by simp[B3]⟩
 ·rintro⟨i,u,r,c⟩ W ⟨hB,hi,hr,ho,hc,hv⟩;replace hB:Below w.heap.size w W:=hB;replace hi:i<=a.length:=hi;replace hr:r.length=i:=hr;replace ho:U9 3 w.heap.size W u r:=ho;replace hc:c<=1:=hc;replace hv:B3 r+B3 (b.take i)=B3 (a.take i)+65536 ^ i*c:=hv;have hxa:=X6 hda i;have hxb:=X6 hdb i;refine .weak [(0,va),(1,vb),(5,u),(6,iW (c:Nat)),(7,iW (i:Nat))] (λt v h=>h) ?_;refine .seq (.sr (.mv O O (.mv O O (.lenR N1 O O (hA hB) ?_))));by_cases hlt:i<a.length
  ·refine .lssT O O O (by omega) (.nil (.condT O (.skip (.seq (.block (.sr (.mv O O (.mv O O ?_))))))));refine .call _ O M9 O (M8 (hA hB)) λv3 W3 e3 h3=>.mv O O (.mv O O ?_);subst h3;have hB3:Below w.heap.size w W3:=hB.trans (e3.mono hB.size);refine .call _ O M9 O (M8 (hBb hB3)) λv4 W4 e4 h4=>?_;subst h4;refine .sub O O O (.mv O O (.sub O O O (.an O O ?_)));rw[wI (n:=((a.getD i 0:Nat):Int)-((b.getD i 0:Nat):Int)) (by omega),wI (by omega)];have e34:=e3.trans e4;refine .sr (.an O O ?_);generalize hx:a.getD i 0=x at *;generalize hy:b.getD i 0=y at *;refine .mid (α:=Nat×Nat) (λp=>[(0,va),(1,vb),(5,u),(6,iW (p.2:Nat)),(7,iW (i:Nat)),(8,iW (p.1:Nat))]) (λp W'=>W'=W4/\p.1<65536/\p.2<=1/\p.1+y+c=x+65536*p.2) ?_ ?_
   ·refine .sr (.mv O O ?_);by_cases h0:(x:Int)-(y:Int)-(c:Int)<0
    ·refine .lssT O O O h0 (.nil (.condT O (.sr (.mv O O (.add O O O (.an O O (.region (.an O O ?_))))))));rw[wI (by omega),show (x:Int)-(y:Int)-(c:Int)+65536=((x+65536-y-c:Nat):Int) by omega];exact⟨rfl,(x+65536-y-c,1),lkA rfl,rfl,by show x+65536-y-c<65536;omega,aA _,by show x+65536-y-c+y+c=x+65536*1;omega⟩
    ·refine .lssF O O O h0 (.nil (.condF O (.skip ?_)));rw[show (x:Int)-(y:Int)-(c:Int)=((x-y-c:Nat):Int) by omega];exact⟨rfl,(x-y-c,0),lkA rfl,rfl,by show x-y-c<65536;omega,aC _,by show x-y-c+y+c=x+65536*0;omega⟩
   ·rintro⟨z,l⟩ W' ⟨rfl,hz,hl,hzl⟩;replace hz:z<65536:=hz;replace hl:l<=1:=hl;replace hzl:z+y+c=x+65536*l:=hzl;refine .region (.mv O O (.mv O O (.bsl _ O O Ah2 λW5 b5 n5=>?_)));obtain⟨e5,k5,hb5,hs5⟩:=n5;have e35:=e34.trans e5;have hB5:Below w.heap.size w W5:=hB.trans (e35.mono hB.size);refine .gv O O (Bd5 (base:=w.heap.size) N1 AJ9 O O (ho.ext e35) k5 hz (by omega) hB5.size) ?_;rintro v6 W6 ⟨ho6,hg6⟩;refine .an O O (.region (.mv O O (.add O O O (.an O O ?_))));rw[wI (by omega)];refine⟨rfl,(i+1,v6,_,l),lkA rfl,⟨(ho.ext e35).below hg6 hB5 hB5.size,hlt,by show (r++[_]).length=_;simp[hr],ho6,hl,?_⟩,by show a.length-(i+1)<a.length-i;omega⟩;show B3 (r++[z])+B3 (b.take (i+1))=B3 (a.take (i+1))+65536 ^ (i+1)*l;rw[Aa4,T9,T9,hr,hx,hy,aN];have:65536 ^ i*(z+y+c)=65536 ^ i*(x+65536*l):=by rw[hzl]
    rw[aJ,aJ,aJ,<-bF] at this;omega
  ·refine .lssF O O O (by omega) (.nil (.condF O (.exit (.sr (.mv O O ?_)))));refine .call _ O J7 O (J2 (ho.toR up)) λv2 W2 e2 h2=>.an O O (.ret ?_);refine .plain [_] results229 ⟨rfl,trivial⟩ ⟨hB.trans (e2.mono hB.size),?_⟩;have hie:i=a.length:=by omega
   subst hie;rw[AE4 (l:=a) (aA _)] at hv;have h1:=AH6 hda;have h2':=AH6 ho.2;rw[hr] at h2';have h3:=AR8 b a.length;have hp:0<65536 ^ a.length:=bR (by omega);have h4:B3 (b.drop a.length)=0:=by
    rcases aU (B3 (b.drop a.length)) with h | h
    ·exact h
    ·have:65536 ^ a.length*1<=65536 ^ a.length*B3 (b.drop a.length):=aV _ h;omega
   rw[h4,dW,bP] at h3;have h5:c=0:=by
    rcases aU c with h | h
    ·exact h
    ·have:c=1:=by omega
     rw[this,cT] at hv;omega
   rw[h5,dW,bP,<-h3] at hv;rw[show B3 a-B3 b=B3 r by omega,<-Ac9 ho.2];exact h2
theorem AZ5:Ent prog 228:=en func228
theorem AW9{S:Nat->Prop}{vb:Value}{b:List Nat}(ha:eHs.R S w va a)(hb:eHs.R S w vb b)(hla:a.length<=100000000000)(hlb:b.length<=100000000000):CR prog 228 #[va,vb] w (Is (iW (AL1 (B3 a) (B3 b)))):=by
 have hda:=AC3 ha;have hdb:=AC3 hb;refine enter func228 O ntmps228 O (.sr (.an O O (.seq (.sr (.mv O O (.lenR N1 O O ha (.mv O O (.lenR N1 O O hb (.max_ O O O (.sub O O O (.an O O ?_)))))))))));rw[wI (by omega),show max (a.length:Int) (b.length:Int)-1=((max a.length b.length:Nat):Int)-1 by omega];refine .block (.loop (α:=Nat) (λj=>[(0,va),(1,vb),(5,iW ((j:Nat)-1:Int))]) (λj W=>Ext w W/\j<=max a.length b.length/\B3 (a.drop j)=B3 (b.drop j)) (λj=>j) (max a.length b.length) ?_ ?_ ?_)
 ·exact lkA rfl
 ·exact⟨.refl _,aA _,by rw[cD (by omega),cD (by omega)]⟩
 ·rintro j W ⟨hW,hj,heq⟩;refine .seq (.sr (.mv O O ?_))
  cases j with
  | zero =>
   refine .geqF O O O (by simp) (.nil (.condF O (.exit (.sr (.an O O (.ret ?_))))));refine .plain [_] results228 ⟨rfl,trivial⟩ ⟨hW,isI ?_⟩;simp at heq;unfold AL1;rw[heq];simp
  | succ i =>
   rw[show (((i+1:Nat):Int)-1)=(i:Int) by omega];have ea:=AR8 a i;have eb:=AR8 b i;have da:=Ax9 a i;have db:=Ax9 b i;have ta:=Ai3 hda i;have tb:=Ai3 hdb i;have hp:0<65536 ^ i:=bR (by omega);refine .geqT O O O (by omega) (.nil (.condT O (.skip (.seq (.block (.seq (.sr (.mv O O (.mv O O ?_)))))))));refine .call _ O M9 O (M8 (ha.ext hW)) λv3 W3 e3 h3=>.mv O O (.mv O O ?_);subst h3;have hW3:=hW.trans e3;refine .call _ O M9 O (M8 (hb.ext hW3)) λv4 W4 e4 h4=>?_;subst h4;have hW4:=hW3.trans e4;by_cases h1:a.getD i 0<b.getD i 0
   ·refine .lssT O O O (by omega) (.nil (.condT O (.sr (.an O O (.ret ?_)))));refine .plain [_] results228 ⟨rfl,trivial⟩ ⟨hW4,isI ?_⟩;have hlt:B3 (a.drop i)+1<=B3 (b.drop i):=by omega
    have hm:65536 ^ i*(B3 (a.drop i)+1)<=65536 ^ i*B3 (b.drop i):=aV _ hlt;rw[aJ,cT] at hm;unfold AL1;rw[if_pos (by omega)]
   ·refine .lssF O O O (by omega) (.nil (.condF O (.skip (.sr (.mv O O (.mv O O ?_))))));refine .call _ O M9 O (M8 (ha.ext hW4)) λv5 W5 e5 h5=>.mv O O (.mv O O ?_);subst h5;have hW5:=hW4.trans e5;refine .call _ O M9 O (M8 (hb.ext hW5)) λv6 W6 e6 h6=>?_;subst h6;have hW6:=hW5.trans e6;by_cases h2:b.getD i 0<a.getD i 0
    ·refine .gtrT O O O (by omega) (.nil (.condT O (.sr (.an O O (.ret ?_)))));refine .plain [_] results228 ⟨rfl,trivial⟩ ⟨hW6,isI ?_⟩;have hlt:B3 (b.drop i)+1<=B3 (a.drop i):=by omega
     have hm:65536 ^ i*(B3 (b.drop i)+1)<=65536 ^ i*B3 (a.drop i):=aV _ hlt;rw[aJ,cT] at hm;unfold AL1;rw[if_neg (by omega),if_pos (by omega)]
    ·refine .gtrF O O O (by omega) (.nil (.condF O (.skip (.region (.mv O O (.sub O O O (.an O O ?_)))))));rw[wI (by omega)];exact⟨rfl,i,lkA rfl,⟨hW6,by omega,by omega⟩,by show i<i+1;omega⟩
theorem S3:Ent prog 250:=en func250
theorem S1{S:Nat->Prop}(ha:eHs.R S w va a)(hla:a.length<=3):CR prog 250 #[va] w (Is (iW (B3 a))):=by
 have hda:=AC3 ha;refine enter func250 O ntmps250 O (.sr (.an O O (.sr (.an O O (.seq (.sr (.mv O O (.lenR N1 O O ha (.sub O O O (.an O O ?_))))))))));rw[wI (by omega)];refine .block (.loop (α:=Nat) (λj=>[(0,va),(3,iW (B3 (a.drop j):Nat)),(4,iW ((j:Nat)-1:Int))]) (λj W=>W=w/\j<=a.length) (λj=>j) a.length ?_ ?_ ?_)
 ·refine B7 O (B7 ?_ (lkA O));rw[cD (aA _)];rfl
 ·exact⟨rfl,aA _⟩
 ·rintro j W ⟨rfl,hj⟩;refine .seq (.sr (.mv O O ?_))
  cases j with
  | zero =>
   refine .geqF O O O (by simp) (.nil (.condF O (.exit (.sr (.mv O O (.an O O (.ret ?_)))))));exact .p1 _ results250 O ⟨.refl _,rfl⟩
  | succ i =>
   rw[show (((i+1:Nat):Int)-1)=(i:Int) by omega];have hx:=X6 hda i;have hlt:=AH6 (show AG2 (a.drop (i+1)) from λx hx=>hda x (gW hx));have hlen:(a.drop (i+1)).length<=2:=by simp;omega
   have hpw:65536 ^ (a.drop (i+1)).length<=65536 ^ 2:=aQ (by omega) hlen;have hd:=AI7 (l:=a) (k:=i) (by omega);refine .geqT O O O (by omega) (.nil (.condT O (.skip (.seq (.block (.region (.mv O O (.mul O O O (.mv O O (.mv O O ?_))))))))));refine .ixN (i:=i) N1 A5 O O ha O (F3 (by omega)) λp hp=>.ldE A5 O O hp λe he=>?_;obtain⟨rfl,_⟩:=he;refine .add O O O (.an O O (.region (.mv O O (.sub O O O (.an O O ?_)))));rw[wI (n:=((B3 (a.drop (i+1)):Nat):Int)*65536) (by omega),wI (n:=((B3 (a.drop (i+1)):Nat):Int)*65536+_) (by omega),wI (n:=(i:Int)-1) (by omega)];refine⟨rfl,i,B7 O (B7 ?_ (lkA O)),⟨rfl,by omega⟩,by show i<i+1;omega⟩;show some (Value.int .i64 (((B3 (a.drop (i+1)):Nat):Int)*65536+((a.getD i 0:Nat):Int)))=_;rw[hd];congr 2;omega
theorem BM0(a:List Nat)(j:Nat):B3 (a.drop j)<=B3 a:=by have h:=AR8 a j;have hp:1<=65536 ^ j:=bR (by omega);have:1*B3 (a.drop j)<=65536 ^ j*B3 (a.drop j):=bO _ hp;omega
theorem AT9:Ent prog 249:=en func249
theorem AS4{S:Nat->Prop}{v:Nat}(up:Up S w)(hv:v<281474976710656):CR prog 249 #[iW v] w (eHs.at S (hds v)):=by
 refine enter func249 O ntmps249 O (.sr (.an O O (.sr (.mv O O (.rem O O O (by decide) (.mv O O (.quo O O O (by decide) ?_)))))));rw[BM5,Ay4,wI (by omega)];refine .rem O O O (by decide) (.mv O O (.quo O O O (by decide) ?_));rw[BM5,Ay4,wI (by omega)];refine .quo O O O (by decide) ?_;rw[Ay4,wI (by omega)];refine .bsl _ O O bsl_H3 λw1 b1 n1=>?_;have hd:AG2 [v % 65536,v / 65536 % 65536,v / 65536 / 65536]:=by intro x hx;simp at hx;omega
 have ho:U9 3 w.heap.size w1 (.slice (some ⟨b1,0,none⟩) 3 3) [v % 65536,v / 65536 % 65536,v / 65536 / 65536]:=U9.lit (l:=[v % 65536,v / 65536 % 65536,v / 65536 / 65536]) n1 (aA _) hd (by simp);have hval:B3 [v % 65536,v / 65536 % 65536,v / 65536 / 65536]=v:=by simp only[B3];omega
 refine .call _ O J7 O (J2 (ho.toR up)) λv2 w2 e2 h2=>.an O O (.ret ?_);rw[Ac9 hd,hval] at h2;exact .p1 _ results249 O ⟨n1.1.trans e2,h2⟩
theorem BZ5:Ent prog 226:=en func226
theorem BV0{S:Nat->Prop}{vb:Value}{b:List Nat}(up:Up S w)(ha:eHs.R S w va a)(hb:eHs.R S w vb b)(hla:a.length<=10000000000)(hlb:b.length<=10000000000):CR prog 226 #[va,vb] w (eHs.at S (hds (B3 a*B3 b))):=by
 have hda:=AC3 ha;have hdb:=AC3 hb;have hlt:B3 a*B3 b<65536 ^ (a.length+b.length):=by rw[bG];exact dF (AH6 hda) (AH6 hdb)
 refine enter func226 O ntmps226 O (.sr (.an O O (.seq (.sr (.mv O O (.lenR N1 O O ha (.mv O O (.lenR N1 O O hb (.add O O O ?_)))))))));rw[wI (by omega)];by_cases h3:a.length+b.length<=3
 ·refine .leqT O O O (by omega) (.nil (.condT O (.sr (.mv O O (.call _ O S3 O (S1 ha (by omega)) λv1 w1 e1 h1=>.mv O O ?_)))));subst h1;refine .call _ O S3 O (S1 (hb.ext e1) (by omega)) λv2 w2 e2 h2=>?_;subst h2;refine .mul O O O ?_;have hp:65536 ^ (a.length+b.length)<=65536 ^ 3:=aQ (by omega) h3;have hsm:B3 a*B3 b<281474976710656:=by omega
  rw[<-cQ,wI (by omega)];have x2:=e1.trans e2;refine .call _ O AT9 O (AS4 (up.ext x2.size) hsm) λv3 w3 e3 h3=>.an O O (.ret ?_);exact .p1 _ results226 O ⟨x2.trans e3,h3⟩
 refine .leqF O O O (by omega) (.nil (.condF O (.skip (.sr (.an O O (.seq (.sr (.mv O O (.lenR N1 O O ha (.sub O O O (.an O O ?_)))))))))));rw[wI (by omega)];have hlen:∀ n,n<=B3 a*B3 b->(hds n).length<=a.length+b.length:=λn hn=>R0 (bI hn hlt);refine .block (.loop (α:=Nat×Value×List Nat) (λx=>[(0,va),(1,vb),(5,x.2.1),(6,iW ((x.1:Nat)-1:Int))]) (λx W=>Ext w W/\x.1<=a.length/\eHs.R S W x.2.1 x.2.2/\x.2.2.length<=a.length+b.length+(a.length-x.1)/\B3 x.2.2=B3 (a.drop x.1)*B3 b) (λx=>x.1) (a.length,.slice none 0 0,[]) ?_ ?_ ?_)
 ·exact lkA rfl
 ·refine⟨.refl _,aA _,RL.nil,aC _,?_⟩;show B3 []=B3 (a.drop a.length)*B3 b;rw[cD (aA _)];simp[B3]
 ·rintro⟨j,u,r⟩ W ⟨hW,hj,hu,hrl,hrv⟩;replace hW:Ext w W:=hW;replace hj:j<=a.length:=hj;replace hu:eHs.R S W u r:=hu;replace hrl:r.length<=a.length+b.length+(a.length-j):=hrl;replace hrv:B3 r=B3 (a.drop j)*B3 b:=hrv;refine .weak [(0,va),(1,vb),(5,u),(6,iW ((j:Nat)-1:Int))] (λt v h=>h) (.seq (.sr (.mv O O ?_)))
  cases j with
  | zero =>
   refine .geqF O O O (by simp) (.nil (.condF O (.exit (.sr (.mv O O (.call _ O J7 O (J2 hu) λv2 W2 e2 h2=>.an O O (.ret ?_)))))));rw[Ac9 (AC3 hu),hrv,cV] at h2;exact .p1 _ results226 O ⟨hW.trans e2,h2⟩
  | succ i =>
   rw[show (((i+1:Nat):Int)-1)=(i:Int) by omega];have hdr:=AI7 (l:=a) (k:=i) (by omega);have hx:=X6 hda i;have hget:=F3 (l:=a) (k:=i) (by omega);have hle:=BM0 a i;generalize hxx:a.getD i 0=x at *;generalize hD:B3 (a.drop (i+1))=D at *;refine .geqT O O O (by omega) (.nil (.condT O (.skip (.seq (.block (.sr (.bsl _ O O Ah2 λW1 b1 n1=>.mv O O ?_)))))));have ho1:U9 3 W.heap.size W1 (.slice (some ⟨b1,0,none⟩) 1 1) [0]:=U9.lit (l:=[0]) n1 (aA _) (by intro y hy;simp at hy;omega) (by simp);refine .gv O O (Bj5 (base:=W.heap.size) N1 AJ9 O O ho1 (hu.ext n1.1) (by simp) (by omega) n1.1.size) ?_;rintro v2 W2 ⟨ho2,hB2⟩;have e2:Ext W W2:=Below.trans n1.1 hB2;have hu2:eHs.R S W2 v2 (0::r):=ho2.toR (λk hk=>up k (by have:=hW.size;omega));refine .an O O (.sr (.an O O ?_));have hW2:=hW.trans e2;refine .block (.loop (α:=Nat×Value×List Nat) (λy=>[(0,va),(1,vb),(5,y.2.1),(6,iW (i:Nat)),(7,iW (y.1:Nat))]) (λy W=>Ext w W/\y.1<=70000/\eHs.R S W y.2.1 y.2.2/\y.2.2.length<=a.length+b.length+(a.length-i)/\B3 y.2.2=65536*(D*B3 b)+min y.1 x*B3 b) (λy=>80000-y.1) (0,v2,0::r) ?_ ?_ ?_)
   ·exact lkA rfl
   ·refine⟨hW2,aC _,hu2,by show (0::r).length<=_;simp;omega,?_⟩;show B3 (0::r)=_;rw[B3,hrv,Nat.zero_min];omega
   ·rintro⟨k,u',r'⟩ W3 ⟨hW3,hk,hu',hrl',hrv'⟩;replace hW3:Ext w W3:=hW3;replace hk:k<=70000:=hk;replace hu':eHs.R S W3 u' r':=hu';replace hrl':r'.length<=a.length+b.length+(a.length-i):=hrl';replace hrv':B3 r'=65536*(D*B3 b)+min k x*B3 b:=hrv';refine .weak [(0,va),(1,vb),(5,u'),(6,iW (i:Nat)),(7,iW (k:Nat))] (λt v h=>h) (.seq (.sr (.mv O O (.mv O O (.mv O O (.ixN (i:=i) N1 A5 O O (ha.ext hW3) O hget λp hp=>.ldE A5 O O hp λe he=>?_))))));obtain⟨rfl,_⟩:=he;by_cases hkx:k<x
    ·refine .lssT O O O (by omega) (.nil (.condT O (.skip (.seq (.block (.region (.mv O O (.mv O O (.mv O O (.mv O O (.ixN (i:=i) N1 A5 O O (ha.ext hW3) O hget λp' hp'=>.ldE A5 O O hp' λe' he'=>?_)))))))))));obtain⟨rfl,_⟩:=he';refine .mv O O (.sub O O O (.min_ O O O ?_));rw[wI (by omega),show min (1024:Int) ((x:Int)-(k:Int))=((min 1024 (x-k):Nat):Int) by omega];refine .call _ O AP1 O (AO1 (up.ext hW3.size) (hb.ext hW3) (by omega) (show min 1024 (x-k)<=65536 by omega)) λv4 W4 e4 h4=>?_;have hW4:=hW3.trans e4;have hmle:min (k+1024) x*B3 b+65536*(D*B3 b)<=B3 a*B3 b:=by
      have h1:min (k+1024) x+65536*D<=B3 a:=by omega
      have:=bO (B3 b) h1;rw[cF,bF] at this;exact this
     have hsum:65536*(D*B3 b)+min k x*B3 b+B3 b*min 1024 (x-k)=65536*(D*B3 b)+min (k+1024) x*B3 b:=by
      have:min (k+1024) x=min k x+min 1024 (x-k):=by omega
      rw[this,cF,aT (B3 b)];omega
     have hn2:B3 b*min 1024 (x-k)<=B3 a*B3 b:=by omega
     refine .call _ O AZ6 O (AX0 (up.ext hW4.size) (hu'.ext e4) h4 (by omega) (by have:=hlen _ hn2;omega)) λv5 W5 e5 h5=>.an O O (.region (.mv O O (.add O O O (.an O O ?_))));rw[E0,hrv',hsum] at h5;rw[wI (by omega)];refine⟨rfl,(k+1024,v5,_),lkA rfl,⟨hW4.trans e5,by show k+1024<=70000;omega,h5,?_,?_⟩,by show 80000-(k+1024)<80000-k;omega⟩
     ·show (hds _).length<=_;have:=hlen (65536*(D*B3 b)+min (k+1024) x*B3 b) (by omega);omega
     ·show B3 (hds _)=_;rw[E0]
    ·refine .lssF O O O (by omega) (.nil (.condF O (.exit (.region (.mv O O (.sub O O O (.an O O ?_)))))));rw[wI (by omega)];refine⟨rfl,(i,u',r'),lkA rfl,⟨hW3,by show i<=a.length;omega,hu',hrl',?_⟩,by show i<i+1;omega⟩;show B3 r'=B3 (a.drop i)*B3 b;rw[hrv',hdr,fE (by omega),cF,bF];omega
theorem hds_ge{n:Nat}(h:n≠0):65536 ^ ((hds n).length-1)<=n:=by
 induction n using Nat.strongRecOn with
 | ind n ih =>
  rw[Ab3 h,aS,gN];by_cases h1:n / 65536=0
  ·rw[h1,U6];simp;omega
  ·have:=ih (n / 65536) (by omega) h1;have hl:(hds (n / 65536)).length≠0:=λe=>h1 (AD6.1 (List.length_eq_zero_iff.1 e));obtain⟨m,hm⟩:∃ m,(hds (n / 65536)).length=m+1:=⟨_,(Nat.succ_pred_eq_of_ne_zero hl).symm⟩;rw[hm] at this ⊢;rw[gN] at this;rw[aN];have:=bO 65536 this;omega
theorem Ac7{q:Nat}(h:i<l.length):B3 ((l.set i q).drop i)=q+65536*B3 (l.drop (i+1)):=by
 rw[AI7 (by simpa using h)];have h1:(l.set i q).getD i 0=q:=by rw[aF,dM h];rfl
 have h2:(l.set i q).drop (i+1)=l.drop (i+1):=by rw[List.drop_set];simp
 rw[h1,h2]
theorem BX4{D d x R Q:Nat}(hd:0<d)(hQ:Q=D / d)(hR:R=D % d):(x+65536*D) / d=(x+65536*R) / d+65536*Q/\(x+65536*D) % d=(x+65536*R) % d:=by
 have h1:=bE D d;rw[<-hQ,<-hR] at h1;have h2:x+65536*D=(x+65536*R)+d*(65536*Q):=by
  rw[<-h1,aJ];have:65536*(d*Q)=d*(65536*Q):=by rw[<-bF,aT 65536 d,bF]
  omega
 rw[h2,gM _ _ hd,Nat.add_mul_mod_self_left];exact⟨rfl,rfl⟩
theorem Bg4{P:Program}{σ:Env}{dd:Option Tmp}{ty:TypeId}{pos:String}{af:Array Edge}{gd:Option (Nat×Bool)}{e:TypeId}{x ix:Operand}{k:IntKind}{b:Bool}{sz n:Nat}{ad:Addr}(ht:P.underlying t=some (.slice e))(he:F6 P e=some (b,sz))(hx:ev σ x=some (.slice (some ad) n c))(hi:ev σ ix=some (.int k (i:Int)))(hlt:i<n):Vl P ⟨dd,.indexAddr t x ix,ty,pos,af,gd⟩ σ w (.pointer (some (ad.add (i*sz)))):=by refine⟨(by intro _ h;cases h),λρ hρ=>?_⟩;have h1:=hρ x _ (by simp[Op.operands]) hx;have h2:=hρ ix _ (by simp[Op.operands]) hi;simp[execOp,h1,h2,Instr.indexAt,asIntOf,run_underlying ht,(L0 he w).2];intro hh;omega
theorem zero_H{S:Nat->Prop}:eH.R S w (iW 0) 0:=⟨rfl,by decide⟩
theorem Bl1{S:Nat->Prop}{g:Nat}(h:FB eH t S w g l):AG2 l:=by intro x hx;obtain⟨es,_,he⟩:=h;obtain⟨i,hi⟩:=List.mem_iff_getElem?.1 hx;have hlt:i<l.length:=(List.getElem?_eq_some_iff.1 hi).1;exact (he.2 i _ x (aE (by rw[he.1];exact hlt)) hi).2
theorem As6:Ent prog 236:=en func236
theorem Ar1{S:Nat->Prop}{vb:Value}{m d:Nat}(up:Up S w)(ha:eHs.R S w va (hds m))(hb:eHs.R S w vb (hds d))(hla:(hds m).length<=10000000000)(hlb:(hds d).length<=10000000000)(hd:d≠0) :
  CR prog 236 #[va,vb] w (Two (eHs.at S (hds (m / d))) (eHs.at S (hds (m % d)))):=by
 have hda:=BC6 m;have hdb:=BC6 d;have hva:=E0 m;have hvb:=E0 d;have hbne:(hds d).length≠0:=λe=>hd (AD6.1 (List.length_eq_zero_iff.1 e));have hbge:=hds_ge hd;have hblt:=Ag5 d;generalize hds m=a at *;generalize hds d=b at *;have hA:∀ {W:World},Below w.heap.size w W->eHs.R (λk=>S k/\k<w.heap.size) W va a:=λhB=>eHs.keep (λk c t f hk h=>(hB.block k hk.2).trans h) (ER.lt eHs ha);have hBb:∀ {W:World},Below w.heap.size w W->eHs.R (λk=>S k/\k<w.heap.size) W vb b:=λhB=>eHs.keep (λk c t f hk h=>(hB.block k hk.2).trans h) (ER.lt eHs hb);refine enter func236 O ntmps236 O (.sr (.asg O O (.an O O ?_)));refine .mid (α:=Unit) (λ_=>[(0,va),(1,vb)]) (λ_ W=>W=w/\(3<a.length\/3<b.length)) ?_ ?_
 ·refine .sr (.mv O O (.lenR N1 O O ha ?_));by_cases h1:a.length<=3
  ·refine .leqT O O O (by omega) (.mv O O (.gr O O O O (.mv O O (.gr O O O O (.lenR N1 O O hb (.gr O O O O ?_))))));by_cases h2:b.length<=3
   ·refine .leqT O O O (by omega) (.pick O O O (.nil (.condT O (.sr (.mv O O ?_)))));refine .call _ O S3 O (S1 ha h1) λv1 w1 e1 r1=>.mv O O ?_;subst r1;refine .call _ O S3 O (S1 (hb.ext e1) h2) λv2 w2 e2 r2=>?_;subst r2;rw[hva,hvb];have x2:=e1.trans e2;have hm3:m<281474976710656:=by have:=AH6 hda;have hp:65536 ^ a.length<=65536 ^ 3:=aQ (by omega) h1;omega
    have hdle:m / d<=m:=dV _ _;have hmlt:m % d<=m:=Nat.mod_le _ _;refine .quo O O O (by omega) ?_;rw[AB0,wI (by have h0:(0:Int)<=((m / d:Nat):Int):=eS _;omega)];refine .call _ O AT9 O (AS4 (up.ext x2.size) (by omega)) λv3 w3 e3 r3=>.mv O O ?_;have x3:=x2.trans e3;refine .call _ O S3 O (S1 (ha.ext x3) h1) λv4 w4 e4 r4=>.mv O O ?_;subst r4;have x4:=x3.trans e4;refine .call _ O S3 O (S1 (hb.ext x4) h2) λv5 w5 e5 r5=>?_;subst r5;rw[hva,hvb];have x5:=x4.trans e5;refine .rem O O O (by omega) ?_;rw[AA9];refine .call _ O AT9 O (AS4 (up.ext x5.size) (by omega)) λv6 w6 e6 r6=>.asg O O (.an O O (.ret ?_));exact .p2 results236 O O ⟨x5.trans e6,v3,v6,rfl,ER.ext eHs (ER.ext eHs (ER.ext eHs r3 e4) e5) e6,r6⟩
   ·refine .leqF O O O (by omega) (.pick O O O (.nil (.condF O (.skip ?_))));exact⟨rfl,(),lkA rfl,rfl,by omega⟩
  ·refine .leqF O O O (by omega) (.mv O O (.gs O O O O O (.gs O O O O O (.gs O O O O O (.pick O O O (.nil (.condF O (.skip ?_))))))));exact⟨rfl,(),lkA rfl,rfl,by omega⟩
 rintro _ W ⟨hWw,hbig⟩;have hWw:=hWw.symm;subst hWw;refine .sr (.mv O O (.lenR N1 O O ha (.make_ _ _ N1 AJ9 O (by decide) O O O (aA _) (by omega) (by omega) λw1 g n1=>.an O O ?_)));have f1:FB eH 3 S w1 g (List.replicate a.length 0):=FB.made n1 zero_H;obtain⟨e1,k1,hg,hs1⟩:=n1;have hout:∀ {W2:World} {l:List Nat},FB eH 3 S W2 g l->l.length=a.length->eHs.R S W2 (.slice (some ⟨g,0,none⟩) a.length a.length) l:=by intro W2 l hF hl;have:=hF.toR (c:=a.length) (hsz:=by decide) (up g (by omega)) (by omega) (by omega);rwa [hl] at this
 refine .seq (.sr (.mv O O (.lenR N1 O O (hBb e1) ?_)));by_cases hb1:b.length=1
 ·refine .eqlT O O O (by omega) (.nil (.condT O (.sr (.an O O ?_))));have hb0:b.getD 0 0=d:=by
   match b,hb1 with
   | [x],_=>simpa[B3] using hvb
  have hd16:d<65536:=by rw[hb1] at hblt;simpa using hblt
  have hgetb:=F3 (l:=b) (k:=0) (by omega);rw[hb0] at hgetb;refine .mid (α:=List Nat×Nat) (λp=>[(6,.slice (some ⟨g,0,none⟩) a.length a.length),(7,iW (p.2:Nat))]) (λp W=>Below w.heap.size w W/\FB eH 3 S W g p.1/\p.1.length=a.length/\B3 p.1=m / d/\p.2=m % d) ?_ ?_
  ·refine .sr (.mv O O (.lenR N1 O O (hA e1) (.sub O O O (.an O O ?_))));rw[wI (by omega)];refine .block (.loop (α:=Nat×List Nat×Nat) (λx=>[(0,va),(1,vb),(6,.slice (some ⟨g,0,none⟩) a.length a.length),(7,iW (x.2.2:Nat)),(8,iW ((x.1:Nat)-1:Int))])
    (λx W=>Below w.heap.size w W/\x.1<=a.length/\FB eH 3 S W g x.2.1/\x.2.1.length=a.length/\B3 (x.2.1.drop x.1)=B3 (a.drop x.1) / d/\x.2.2=B3 (a.drop x.1) % d) (λx=>x.1) (a.length,List.replicate a.length 0,0) ?_ ?_ ?_)
   ·exact lkA rfl
   ·refine⟨e1,aA _,f1,by simp,?_,?_⟩
    ·show B3 ((List.replicate a.length 0).drop a.length)=_;rw[cD (by simp),cD (aA _)];simp[B3]
    ·show 0=_;rw[cD (aA _)];simp[B3]
   ·rintro⟨j,l,r⟩ W ⟨hB,hj,hF,hl,hq,hr⟩;replace hB:Below w.heap.size w W:=hB;replace hj:j<=a.length:=hj;replace hF:FB eH 3 S W g l:=hF;replace hl:l.length=a.length:=hl;replace hq:B3 (l.drop j)=B3 (a.drop j) / d:=hq;replace hr:r=B3 (a.drop j) % d:=hr;refine .weak [(0,va),(1,vb),(6,.slice (some ⟨g,0,none⟩) a.length a.length),(7,iW (r:Nat)),(8,iW ((j:Nat)-1:Int))] (λt v h=>h) ?_;have hsz:=hB.size;have hgl:=hF.lt;have hrd:r<d:=by rw[hr];exact aY _ (by omega)
    refine .seq (.sr (.mv O O ?_))
    cases j with
    | zero =>
     refine .geqF O O O (by simp) (.nil (.condF O (.exit ?_)));rw[cV,cV,hva] at hq;rw[cV,hva] at hr;exact⟨rfl,(l,r),lkA rfl,hB,hF,hl,hq,hr⟩
    | succ i =>
     rw[show (((i+1:Nat):Int)-1)=(i:Int) by omega];have hx:=X6 hda i;have hget:=F3 (l:=a) (k:=i) (by omega);have hdr:=AI7 (l:=a) (k:=i) (by omega);have hst:=BX4 (D:=B3 (a.drop (i+1))) (x:=a.getD i 0) (by omega:0<d) hq hr;rw[<-hdr] at hst;generalize a.getD i 0=x at *;refine .geqT O O O (by omega) (.nil (.condT O (.skip (.seq (.block (.sr (.mv O O (.mul O O O (.mv O O (.mv O O ?_))))))))));refine .ixN (i:=i) N1 A5 O O (hA hB) O hget λp hp=>.ldE A5 O O hp λe he=>?_;obtain⟨rfl,_⟩:=he;refine .add O O O (.an O O ?_);rw[wI (n:=(r:Int)*65536) (by omega),wI (by omega),show (r:Int)*65536+(x:Int)=((x+65536*r:Nat):Int) by omega];generalize hy:x+65536*r=y at *;have hyq:y / d<65536:=by rw[bD (by omega)];have:65536*(r+1)<=65536*d:=aV _ hrd;omega
     have hyr:y % d<d:=aY _ (by omega);obtain⟨ad,cb,hvbs,_,hpt⟩:=RL.at_ (hBb hB) hgetb;obtain⟨eb,⟨rfl,_⟩,hadS,hadc⟩:=hpt;have hcell:W.cell? (ad.add (0*1))=some (iW (d:Nat)):=hadc 0 _ rfl;rw[J9] at hadS;have hkeep:∀ {W':World},W'.heap[ad.block]?=W.heap[ad.block]?->W'.cell? (ad.add (0*1))=some (iW (d:Nat)):=λh=>(Ab8 (p:=ad.add (0*1)) (by rw[J9];exact h)).trans hcell;refine .held follows false (λW'=>W'.cell? (ad.add (0*1))=some (iW (d:Nat))) [some _,some _,some _,some vb,some (.pointer (some (ad.add (0*1)))),some (iW (d:Nat)),some (iW ((y / d:Nat):Int)),some _,some vb,some (.pointer (some (ad.add (0*1)))),some (iW (d:Nat)),some (iW ((y % d:Nat):Int)),none,none,none] (by kernel_rfl) ⟨
      λ_ _=>v_mv rfl,λ_ _=>v_mv rfl,λ_ _=>v_mv rfl,λ_ _=>v_mv rfl,
      λ_ _=>Bg4 (i:=0) N1 A5 (by rw[<-hvbs];rfl) O (by omega),λ_ h=>AJ2 A5 O h,λ_ _=>(Ay1 O O (by omega)).eq (by rw[AB0,wI (by have h0:(0:Int)<=((y / d:Nat):Int):=eS _;omega)]),
      λ_ _=>v_mv rfl,λ_ _=>v_mv rfl,
      λ_ _=>Bg4 (i:=0) N1 A5 (by rw[<-hvbs];rfl) O (by omega),λ_ h=>AJ2 A5 O h,λ_ _=>(Ay0 O O (by omega)).eq (by rw[AA9]),trivial⟩ ?_
     intro W1 e1 hh1;have hB1:Below w.heap.size w W1:=hB.trans (e1.mono hsz);have hI1:=hkeep (W':=W1) (by rw[hh1]);refine .gv hI1 O (G6 (i:=i) N1 A5 O O (by omega)).gv ?_;rintro _ W1' ⟨rfl,hW1'⟩;have hW1':=hW1'.symm;subst hW1';refine .gv hI1 O (AQ3 (E:=eH) (i:=i) (z:=y / d) (by decide) A5 O O (hF.ext e1) O (by omega) (aD _) ⟨rfl,hyq⟩) ?_;rintro _ W2 ⟨hF2,u2⟩;have hI2:=hkeep (W':=W2) (by rw[u2.block ad.block (by have:=hadS.2;omega),hh1]);refine .gv hI2 O (AR9 O).gv ?_;rintro _ W2' ⟨rfl,hW2'⟩;have hW2':=hW2'.symm;subst hW2';refine .nil (.inr hI2) (.region (.mv O O (.sub O O O (.an O O ?_))));rw[wI (by omega)];refine⟨rfl,(i,l.set i (y / d),y % d),lkA rfl,⟨u2.below hB1 (by omega),by show i<=a.length;omega,hF2,by show (l.set i _).length=_;simpa using hl,?_,hst.2.symm⟩,by show i<i+1;omega⟩;show B3 ((l.set i (y / d)).drop i)=B3 (a.drop i) / d;rw[Ac7 (by omega),hst.1]
  ·rintro⟨l,r⟩ W ⟨hB,hF,hl,hq,hr⟩;replace hF:FB eH 3 S W g l:=hF;replace hl:l.length=a.length:=hl;replace hq:B3 l=m / d:=hq;replace hr:r=m % d:=hr;have hrd:r<d:=by rw[hr];exact aY _ (by omega)
   refine .sr (.mv O O ?_);refine .call _ O J7 O (J2 (hout hF hl)) λv2 W2 e2 h2=>.mv O O (.bsl _ O O Ah2 λW3 b3 n3=>?_);have hB2:Below w.heap.size w W2:=hB.trans (e2.mono hB.size);rw[Ac9 (Bl1 hF),hq] at h2;have hdr:AG2 [r]:=by intro x hx;simp at hx;omega
   have ho3:U9 3 W2.heap.size W3 (.slice (some ⟨b3,0,none⟩) 1 1) [r]:=U9.lit (l:=[r]) n3 (aA _) hdr (by simp);refine .call _ O J7 O (J2 (S:=S) (ho3.toR (λk hk=>up k (by have:=hB2.size;omega)))) λv4 W4 e4 h4=>.asg O O (.an O O (.ret ?_));rw[Ac9 hdr,show B3 [r]=m % d by simp[B3,hr]] at h4;have e24:=n3.1.trans e4;exact .p2 results236 O O ⟨hB2.trans (e24.mono hB2.size),v2,v4,rfl,ER.ext eHs h2 e24,h4⟩
 ·refine .eqlF O O O (by omega) (.nil (.condF O (.skip (.sr (.an O O ?_)))));have hb2:2<=b.length:=by omega
  refine .mid (α:=List Nat×Value) (λp=>[(6,.slice (some ⟨g,0,none⟩) a.length a.length),(9,p.2)]) (λp W=>Below w.heap.size w W/\FB eH 3 S W g p.1/\p.1.length=a.length/\B3 p.1=m / d/\eHs.R (λk=>S k/\k≠g) W p.2 (hds (m % d))) ?_ ?_
  ·refine .sr (.mv O O (.lenR N1 O O (hA e1) (.sub O O O (.an O O ?_))));rw[wI (by omega)];refine .block (.loop (α:=Nat×List Nat×Value) (λx=>[(0,va),(1,vb),(6,.slice (some ⟨g,0,none⟩) a.length a.length),(9,x.2.2),(10,iW ((x.1:Nat)-1:Int))])
    (λx W=>Below w.heap.size w W/\x.1<=a.length/\FB eH 3 S W g x.2.1/\x.2.1.length=a.length/\B3 (x.2.1.drop x.1)=B3 (a.drop x.1) / d/\eHs.R (λk=>S k/\k≠g) W x.2.2 (hds (B3 (a.drop x.1) % d))) (λx=>x.1) (a.length,List.replicate a.length 0,.slice none 0 0) ?_ ?_ ?_)
   ·exact lkA rfl
   ·refine⟨e1,aA _,f1,by simp,?_,?_⟩
    ·show B3 ((List.replicate a.length 0).drop a.length)=_;rw[cD (by simp),cD (aA _)];simp[B3]
    ·show eHs.R _ _ _ (hds (B3 (a.drop a.length) % d));rw[cD (aA _),B3,Nat.zero_mod,U6];exact RL.nil
   ·rintro⟨j,l,u⟩ W ⟨hB,hj,hF,hl,hq,hu⟩;replace hB:Below w.heap.size w W:=hB;replace hj:j<=a.length:=hj;replace hF:FB eH 3 S W g l:=hF;replace hl:l.length=a.length:=hl;replace hq:B3 (l.drop j)=B3 (a.drop j) / d:=hq;replace hu:eHs.R (λk=>S k/\k≠g) W u (hds (B3 (a.drop j) % d)):=hu;refine .weak [(0,va),(1,vb),(6,.slice (some ⟨g,0,none⟩) a.length a.length),(9,u),(10,iW ((j:Nat)-1:Int))] (λt v h=>h) ?_;have hsz:=hB.size;have hgl:=hF.lt;refine .seq (.sr (.mv O O ?_))
    cases j with
    | zero =>
     refine .geqF O O O (by simp) (.nil (.condF O (.exit ?_)));rw[cV,cV,hva] at hq;rw[cV,hva] at hu;exact⟨rfl,(l,u),lkA rfl,hB,hF,hl,hq,hu⟩
    | succ i =>
     rw[show (((i+1:Nat):Int)-1)=(i:Int) by omega];have hx:=X6 hda i;have hget:=F3 (l:=a) (k:=i) (by omega);have hdr:=AI7 (l:=a) (k:=i) (by omega);have hst:=BX4 (D:=B3 (a.drop (i+1))) (x:=a.getD i 0) (by omega:0<d) hq rfl;rw[<-hdr] at hst;generalize a.getD i 0=x at *;have hR:B3 (a.drop (i+1)) % d<d:=aY _ (by omega);generalize hRR:B3 (a.drop (i+1)) % d=R at *;have hRl:(hds R).length<=b.length:=R0 (eX hR hblt);have upT:∀ {W':World},Below w.heap.size w W'->g<W'.heap.size->Up (λk=>S k/\k≠g) W':=λhB' hg' k hk=>⟨up k (by have:=hB'.size;omega),by omega⟩;refine .geqT O O O (by omega) (.nil (.condT O (.skip (.seq (.block (.sr (.mv O O (.mv O O (.ixN (i:=i) N1 A5 O O (hA hB) O hget λp hp=>.ldE A5 O O hp λe he=>?_)))))))));obtain⟨rfl,_⟩:=he;refine .bsl _ O O Ah2 λW1 b1 n1=>.mv O O ?_;have ho1:U9 3 W.heap.size W1 (.slice (some ⟨b1,0,none⟩) 1 1) [x]:=U9.lit (l:=[x]) n1 (aA _) (by intro y hy;simp at hy;omega) (by simp);refine .gv O O (Bj5 (base:=W.heap.size) N1 AJ9 O O ho1 (hu.ext n1.1) (by simp) (by omega) n1.1.size) ?_;rintro v2 W2 ⟨ho2,hB2⟩;have e2:Ext W W2:=Below.trans n1.1 hB2;have hs2:=e2.size;have hu2:eHs.R (λk=>S k/\k≠g) W2 v2 ([x]++hds R):=ho2.toR (λk hk=>⟨up k (by omega),by omega⟩);refine .call _ O J7 O (J2 hu2) λv3 W3 e3 h3=>.an O O (.sr (.asg O O (.an O O ?_)));have hv3:B3 ([x]++hds R)=x+65536*R:=by show B3 (x::hds R)=_;rw[B3,E0]
     rw[Ac9 (AC3 hu2),hv3] at h3;have e23:=e2.trans e3;have hs3:=e23.size;have hB3:Below w.heap.size w W3:=hB.trans (e23.mono hsz);generalize hy:x+65536*R=y at *;have hyd:y<65536*d:=by have:65536*(R+1)<=65536*d:=aV _ hR;omega
     have hylen:(hds y).length<=b.length+1:=R0 (by rw[aN];omega);refine .mid (α:=Nat) (λhi=>[(0,va),(1,vb),(6,.slice (some ⟨g,0,none⟩) a.length a.length),(9,v3),(10,iW (i:Nat)),(11,iW 0),(12,iW (hi:Nat))]) (λhi W'=>W'=W3/\1<=hi/\hi<=65536/\y<hi*d) ?_ ?_
     ·refine .sr (.mv O O (.lenR N1 O O h3 (.mv O O (.lenR N1 O O (hBb hB3) ?_))));by_cases hll:(hds y).length<b.length
      ·refine .lssT O O O (by omega) (.nil (.condT O (.region (.an O O ?_))));refine⟨rfl,1,lkA rfl,rfl,aA _,by omega,?_⟩;have h1:=Ag5 y;have h2:65536 ^ (hds y).length<=65536 ^ (b.length-1):=aQ (by omega) (by omega);omega
      ·refine .lssF O O O (by omega) (.nil (.condF O (.skip ?_)));exact⟨rfl,65536,lkA rfl,rfl,by omega,aA _,hyd⟩
     ·rintro hi0 W3' ⟨hW3',hi1,hi2,hyhi⟩;have hW3':=hW3'.symm;subst hW3';refine .mid (α:=Nat) (λlo=>[(0,va),(1,vb),(6,.slice (some ⟨g,0,none⟩) a.length a.length),(9,v3),(10,iW (i:Nat)),(11,iW (lo:Nat))]) (λlo W'=>Ext W3 W'/\lo<65536/\lo=y / d) ?_ ?_
      ·refine .block (.loop (α:=Nat×Nat) (λz=>[(0,va),(1,vb),(6,.slice (some ⟨g,0,none⟩) a.length a.length),(9,v3),(10,iW (i:Nat)),(11,iW (z.1:Nat)),(12,iW (z.2:Nat))]) (λz W'=>Ext W3 W'/\z.1<z.2/\z.2<=65536/\z.1*d<=y/\y<z.2*d) (λz=>z.2-z.1) (0,hi0) ?_ ?_ ?_)
       ·exact lkA rfl
       ·exact⟨.refl _,hi1,hi2,by show 0*d<=y;omega,hyhi⟩
       ·rintro⟨lo,hi⟩ W4 ⟨e4,hlh,hh,hlo,hhi⟩;replace e4:Ext W3 W4:=e4;replace hlh:lo<hi:=hlh;replace hh:hi<=65536:=hh;replace hlo:lo*d<=y:=hlo;replace hhi:y<hi*d:=hhi;refine .weak [(0,va),(1,vb),(6,.slice (some ⟨g,0,none⟩) a.length a.length),(9,v3),(10,iW (i:Nat)),(11,iW (lo:Nat)),(12,iW (hi:Nat))] (λt v h=>h) ?_;have hB4:Below w.heap.size w W4:=hB3.trans (e4.mono hB3.size);have hs4:=e4.size;refine .seq (.sr (.mv O O (.mv O O (.sub O O O ?_))));rw[wI (by omega)];by_cases hgo:lo+1<hi
        ·refine .gtrT O O O (by omega) (.nil (.condT O (.skip (.block (.sr (.mv O O (.mv O O (.add O O O (.quo O O O (by decide) (.an O O ?_))))))))));rw[wI (n:=(lo:Int)+(hi:Int)) (by omega),show ((lo:Int)+(hi:Int)).tdiv 2=(((lo+hi) / 2:Nat):Int) by rw[<-dN];exact AB0 (lo+hi) 2,wI (by omega)];generalize hmid:(lo+hi) / 2=mid at *;refine .sr (.mv O O (.mv O O ?_));have hbT:eHs.R (λk=>S k/\k≠g) W4 vb b:=eHs.mono (λk _ hk=>⟨hk.1,by have:=hk.2;omega⟩) (hBb hB4);refine .call _ O AP1 O (AO1 (upT hB4 (by omega)) hbT (by omega) (show mid<=65536 by omega)) λv5 W5 e5 h5=>.mv O O ?_;rw[hvb] at h5;have hml:(hds (d*mid)).length<=b.length+1:=R0 (by rw[aN];have:d*mid<=d*65536:=aV _ (by omega);omega)
         refine .call _ O AZ5 O (AW9 h5 ((h3.ext e4).ext e5) (by omega) (by omega)) λv6 W6 e6 h6=>?_;subst h6;rw[E0,E0,aT d mid];have e46:=(e4.trans e5).trans e6;by_cases hc:mid*d<=y
         ·refine .leqT O O O (by unfold AL1;split<;>(try split)<;>omega) (.nil (.condT O (.region (.mv O O (.an O O ?_)))))
          exact⟨rfl,(mid,hi),lkA rfl,⟨e46,by show mid<hi;omega,hh,hc,hhi⟩,by show hi-mid<hi-lo;omega⟩
         ·refine .leqF O O O (by unfold AL1;rw[if_neg (by omega),if_pos (by omega)];decide) (.nil (.condF O (.region (.mv O O (.an O O ?_)))));exact⟨rfl,(lo,mid),lkA rfl,⟨e46,by show lo<mid;omega,by show mid<=65536;omega,hlo,by show y<mid*d;omega⟩,by show mid-lo<hi-lo;omega⟩
        ·refine .gtrF O O O (by omega) (.nil (.condF O (.exit ?_)));refine⟨rfl,lo,lkA rfl,e4,by show lo<65536;omega,?_⟩;have h1:hi=lo+1:=by omega
         rw[h1] at hhi;symm;exact (Nat.div_eq_iff (by omega)).2 ⟨by omega,by rw[cF] at hhi;omega⟩
      ·rintro lo W4 ⟨e4,hlo,hlod⟩;have hB4:Below w.heap.size w W4:=hB3.trans (e4.mono hB3.size);have hs4:=e4.size;have hbT:eHs.R (λk=>S k/\k≠g) W4 vb b:=eHs.mono (λk _ hk=>⟨hk.1,by have:=hk.2;omega⟩) (hBb hB4);refine .region (.mv O O (.mv O O (.mv O O (.mv O O (.mv O O (.mv O O ?_))))));refine .call _ O AP1 O (AO1 (upT hB4 (by omega)) hbT (by omega) (show lo<=65536 by omega)) λv5 W5 e5 h5=>?_;rw[hvb] at h5;have e45:=e4.trans e5;have hB5:Below w.heap.size w W5:=hB3.trans (e45.mono hB3.size);have hs5:=e5.size;have hdl:d*lo<=y:=by rw[hlod];exact Nat.mul_div_le y d
       refine .call _ O AN3 O (AM2 (upT hB5 (by omega)) (h3.ext e45) h5 (by omega) (by rw[E0,E0];exact hdl)) λv6 W6 e6 h6=>?_;rw[E0,E0] at h6;have hmod:y-d*lo=y % d:=by rw[hlod];have:=bE y d;omega
       rw[hmod] at h6;have e36:=e45.trans e6;have hB6:Below w.heap.size w W6:=hB3.trans (e36.mono hB3.size);have eW6:=e23.trans e36;refine .ixB (i:=i) N1 A5 O O O (by omega) (.storeF (E:=eH) (i:=i) (z:=lo) (by decide) A5 O O (hF.ext eW6) O (by omega) (aD _) ⟨rfl,hlo⟩ λW7 hF7 u7=>.an O O ?_);refine .region (.mv O O (.sub O O O (.an O O ?_)));rw[wI (by omega)];refine⟨rfl,(i,l.set i lo,v6),lkA rfl,⟨u7.below hB6 (by omega),by show i<=a.length;omega,hF7,by show (l.set i _).length=_;simpa using hl,?_,?_⟩,by show i<i+1;omega⟩
       ·show B3 ((l.set i lo).drop i)=B3 (a.drop i) / d;rw[Ac7 (by omega),hst.1,hlod]
       ·show eHs.R _ W7 v6 (hds (B3 (a.drop i) % d));rw[hst.2];exact ER.upd eHs h6 u7 (λh=>h.2 O)
  ·rintro⟨l,u⟩ W ⟨hB,hF,hl,hq,hu⟩;refine .sr (.mv O O (.call _ O J7 O (J2 (hout hF hl)) λv2 W2 e2 h2=>.mv O O (.asg O O (.an O O (.ret ?_)))));rw[Ac9 (Bl1 hF),hq] at h2;exact .p2 results236 O O ⟨hB.trans (e2.mono hB.size),v2,u,rfl,h2,eHs.mono (λk _ hk=>hk.1) (ER.ext eHs hu e2)⟩
end Go.Proofs.YtpgkacdihhjknaaGreat
