/-
  What the claim leans on.
-/
import Derived.Test.YtggegpiffjbngaaGreatG4
set_option linter.unusedVariables false
namespace Go.Kx
open Go Go.RowKit
abbrev but (S Z:Nat->Prop):Nat->Prop:=fun k=>S k/\¬ Z k
abbrev tak (g:Nat) (v:Value):Nat->Prop:=fun k=>k=g\/v.ownBlock=some k
section
variable {α:Type} {E:ER α} {t:TypeId} {S:Nat->Prop} {w w':World} {g:Nat} {l:List α}
theorem FB.grow {v v':Value} (h:FB E t (fun k=>S k/\v.ownBlock≠some k) w g l) (hg:w.grownBy w' v.ownBlock) (hw:v'.ownBlock=v.ownBlock\/v'.ownBlock=some w.heap.size) (hne:v.ownBlock≠some g):FB E t (fun k=>S k/\v'.ownBlock≠some k) w' g l:=by
 have h1:FB E t (fun k=>(S k/\v.ownBlock≠some k)/\k<w.heap.size) w g l:=h.mono fun k hk hs=>⟨hs,hk⟩
 have h2:=h1.chg (Chg.grown hg) hne fun k hk=>hk.1.2
 refine h2.mono fun k _ hk=>⟨hk.1.1,?_⟩
 rcases hw with e | e
 ·rw [e];exact hk.1.2
 ·rw [e];intro e';cases e';exact Nat.lt_irrefl _ hk.2
end
end Go.Kx
namespace Go.Proofs.YtggegpiffjbngaaGreat
open Go Go.Kx Go.RowKit
theorem un_I:Tryz.prog.underlying 25=some (.slice 3):=by kernel_rfl
theorem T7:infoOf Tryz.prog 3=some (.int .i64 0,1,8):=by kernel_rfl
theorem B4:tyOf Tryz.prog 3=some (false,1):=by kernel_rfl
theorem AI6 {x:Int}:bslOf Tryz.prog 25 1 [(0,.int .i64 x)]=some (3,#[.int .i64 x]):=by kernel_rfl
theorem fld_EV0:fldOf Tryz.prog 139 0=some 0:=by kernel_rfl
theorem fld_EV1:fldOf Tryz.prog 139 1=some 1:=by kernel_rfl
theorem ty_E0:tyOf Tryz.prog 1=some (false,1):=by kernel_rfl
theorem ty_E1:tyOf Tryz.prog 137=some (false,1):=by kernel_rfl
structure Evs (P:Program) (xe xs:FuncId) (cape caps:Array Value) (M:Nat) (S0 X:Nat->Prop) (D:(Nat->Prop)->Nat->Rat->World->Prop):Prop where
 entE:Ent P xe
 entS:Ent P xs
 mono:∀ {Z Z':Nat->Prop} {j:Nat} {d:Rat} {W:World},D Z j d W->(∀ k,k<W.heap.size->Z' k->Z k)->D Z' j d W
 chg:∀ {Z:Nat->Prop} {j:Nat} {d:Rat} {W W':World},D Z j d W->Chg Z W W'->D Z j d W'
 exch:∀ {Z:Nat->Prop} {j:Nat} {d:Rat} {W:World},D Z j d W->(∀ k,Z k->k<W.heap.size/\¬ X k)->Calls P xe (([]:List Value).toArray++cape) W fun e W'=>∃ v,e=.returned v/\Chg X W W'/\D Z j (-d) W'
 scal:∀ {Z:Nat->Prop} {j:Nat} {d:Rat} {W:World} {v:Value} {q:QV},D Z j d W->(∀ k,Z k->k<W.heap.size/\¬ X k)->eQ.R (fun k=>S0 k/\¬ Z k/\¬ X k) W v q->qk M q->j<=1000->Calls P xs ([v].toArray++caps) W fun e W'=>∃ v',e=.returned v'/\Chg X W W'/\D Z (j+1) (d*qval q) W'
abbrev pInts (p:List Nat):List Int:=p.map fun (k:Nat)=>(k:Int)
theorem AL5:Ent Tryz.prog 135:=A0 Tryz.func135 (by kernel_rfl) rfl
theorem AJ7 {S X:Nat->Prop} {w:World} {gb n cap C cols L M:Nat} {f:RM} {xe xs:FuncId} {cape caps:Array Value} {D:(Nat->Prop)->Nat->Rat->World->Prop}
  (up:Up S w) (hF:FB eV 32 S w gb (tabM n C f)) (hcap:n<=cap) (hcols:cols<=C) (hn:n<=1000) (hC:C<=1000) (hL:1<=L) (hsz:∀ i k,i<n->k<C->Rsz (f i k) L) (hM:bd L (min n cols)<=M) (hM2:M<=40000000)
  (hSg:S gb) (hX:∀ k,X k->k<w.heap.size/\k≠gb/\¬ S k) (ev:Evs Tryz.prog xe xs cape caps M S X D) (hD:D (fun k=>k=gb) 0 1 w) :
  Calls Tryz.prog 135 #[.slice (some ⟨gb,0,none⟩) n cap,.int .i64 cols,.agg #[.func (.func xe) #[] cape,.func (.func xs) #[] caps]] w fun e W=>∃ v,e=.returned v/\Chg (fun k=>k=gb\/X k) w W /\
   eI.R (fun k=>w.heap.size<=k) W v (pInts (elim n f cols).2)/\FB eV 32 S W gb (tabM n C (elim n f cols).1)/\D (fun k=>k=gb) (elim n f cols).2.length (elimD n f cols) W:=by
 have hgb:=hF.lt
 refine enterG Tryz.func135 O Tryz.ntmps135 O ?_
 refine .sr (.box O O fun w1 b5 n1=>.an O O (.sr (.an O O ?_)))
 obtain ⟨e1,k5,hb5,hs1⟩:=n1
 replace k5:Blk w1 b5 139 #[.func (.func xe) #[] cape,.func (.func xs) #[] caps]:=k5
 generalize hfe:Value.func (.func xe) #[] cape=fe at k5
 generalize hfs:Value.func (.func xs) #[] caps=fs at k5
 generalize hY:(fun k=>k=gb\/X k)=Y
 have hYi:∀ k,(k=gb\/X k)->Y k:=fun k h=>by rw [<-hY];exact h
 have hYo:∀ k,Y k->(k=gb\/X k):=fun k h=>by rw [<-hY] at h;exact h
 have hYw:∀ k,Y k->k<w.heap.size:=fun k hk=>by
  rcases hYo k hk with rfl | hk
  ·exact hgb
  ·exact (hX k hk).1
 have hb5X:¬ Y b5:=fun h=>by have:=hYw _ h;omega
 have hXg:¬ X gb:=fun h=>(hX _ h).2.1 rfl
 have hSX:∀ k,S k->¬ X k:=fun k hk hx=>(hX k hx).2.2 hk
 refine .mid (α:=Value) (fun vp=>[(7,vp)]) (fun vp W=>Chg Y w W/\OwnL (eInt .i64) 3 w.heap.size S W vp (pInts (elim n f cols).2)/\FB eV 32 (fun k=>S k/\vp.ownBlock≠some k) W gb (tabM n C (elim n f cols).1)/\D (tak gb vp) (elim n f cols).2.length (elimD n f cols) W) ?_ ?_
 rotate_left
 ·rintro vp W ⟨hc,ho,hf,hd⟩
  refine .sr (.mv O O (.an O O (.ret ?_)))
  refine .plain [_] Tryz.results135 ⟨rfl,trivial⟩ ⟨hc,?_,hf.mono (fun k _ h=>h.1),ev.mono hd fun k _ h=>.inl h⟩
  obtain ⟨es,h1,h2⟩:=ho
  exact RL.ofOwn h1 O ⟨h2.1,fun i e x he hx=>h2.2 i e x he hx⟩ (fun k hk=>hk)
 refine .sr (.mv O O (.mv O O (.nil ?_)))
 refine .block (.loop (α:=Nat×Value) (fun y=>[(0,.slice (some ⟨gb,0,none⟩) n cap),(5,.pointer (some ⟨b5,0,none⟩)),(7,y.2),(16,.int .i64 (cols:Nat)),(17,.int .i64 (y.1:Nat))])
  (fun y W=>Chg Y w W/\y.1<=cols/\Blk W b5 139 #[fe,fs]/\OwnL (eInt .i64) 3 w.heap.size S W y.2 (pInts (elim n f y.1).2)/\FB eV 32 (fun k=>S k/\y.2.ownBlock≠some k) W gb (tabM n C (elim n f y.1).1)/\D (tak gb y.2) (elim n f y.1).2.length (elimD n f y.1) W)
  (fun y=>cols-y.1) (0,.slice none 0 0) ?_ ?_ ?_)
 ·exact lkA rfl
 ·refine ⟨Chg.ext e1,Nat.zero_le _,k5,OwnL.nil,(hF.ext e1).mono fun k _ h=>⟨h,by simp [Value.ownBlock]⟩,ev.chg (ev.mono hD fun k _ h=>?_) (Chg.ext e1)⟩
  rcases h with h | h
  ·exact h
  ·simp [Value.ownBlock] at h
 rintro ⟨c,vp⟩ W ⟨hc,hcc,k5,ho,hf,hd⟩
 replace hcc:c<=cols:=hcc
 replace ho:OwnL (eInt .i64) 3 w.heap.size S W vp (pInts (elim n f c).2):=ho
 replace hf:FB eV 32 (fun k=>S k/\vp.ownBlock≠some k) W gb (tabM n C (elim n f c).1):=hf
 replace hd:D (tak gb vp) (elim n f c).2.length (elimD n f c) W:=hd
 refine .weak [(0,.slice (some ⟨gb,0,none⟩) n cap),(5,.pointer (some ⟨b5,0,none⟩)),(7,vp),(16,.int .i64 (cols:Nat)),(17,.int .i64 (c:Nat))] (fun t v h=>h) ?_
 have hszW:=hc.size
 have hech:=P4 n f c
 have hql:=hech.len
 have hcC:c<=C:=by omega
 have hsg:=AW4 hL hsz c hcC
 have hnext:elim n f (c+1)=estep n c (elim n f c):=rfl
 have hnextD:elimD n f (c+1)=estepD n c (elim n f c) (elimD n f c):=rfl
 have hBM:bd L (elim n f c).2.length<=M:=Nat.le_trans (AL4 L (by have:=hech.len_c;omega)) hM
 have hBp:=BE8 hL (elim n f c).2.length
 obtain ⟨ao,co,hvo⟩:=ho.slice
 have hplen:(pInts (elim n f c).2).length=(elim n f c).2.length:=by simp
 rw [hplen] at hvo
 have hown:∀ k,vp.ownBlock=some k->w.heap.size<=k/\k<W.heap.size:=by
  obtain ⟨es,h1,_⟩:=ho
  exact fun k hk=>h1.lt k hk
 rcases Nat.lt_or_ge c cols with hlt | hge
 rotate_left
 ·refine .sr (.lssF O O O (by omega) (.nil (.seq (.condF O (.exit ?_)))))
  have:c=cols:=by omega
  subst this
  exact ⟨rfl,vp,lkA rfl,hc,ho,hf,hd⟩
 have hcC:c<C:=by omega
 refine .sr (.lssT O O O (by omega) (.nil (.seq (.condT O (.skip (.seq (.block (.sr (.mv O O (.an O O ?_))))))))))
 generalize hq:(elim n f c).2.length=q at *
 generalize hg:(elim n f c).1=g at *
 have hoR:eI.R (fun _=>True) W vp (pInts (elim n f c).2):=by
  obtain ⟨es,h1,h2⟩:=ho
  exact RL.ofOwn h1 O ⟨h2.1,fun i e x he hx=>h2.2 i e x he hx⟩ (fun k hk=>trivial)
 refine .sr (.mv O O (.lenR un_I O O hoR ?_))
 rw [hplen]
 refine .an O O (.seq (.sr (.mv O O (.mv O O (.len un_M O O ?_)))))
 by_cases hqn:q=n
 ·refine .eqlT O O O (by omega) (.nil (.condT O (.exit ?_)))
  obtain ⟨h1,h2⟩:=Aa9 (n:=n) (f:=f) (c:=c) (by omega) (cols-c)
  rw [show c+(cols-c)=cols by omega] at h1 h2
  rw [h1,h2,hq,hg]
  exact ⟨rfl,_,lkA rfl,hc,ho,hf,hd⟩
 refine .eqlF O O O (by omega) (.nil (.condF O (.skip (.sr (.mv O O (.mv O O (.mv O O ?_)))))))
 have hM0:eM.R S w (.slice (some ⟨gb,0,none⟩) n cap) (tabM n C g)->True:=fun _=>trivial
 have hMW:eM.R S W (.slice (some ⟨gb,0,none⟩) n cap) (tabM n C g):=by
  have:=(hf.mono (S':=S) fun k _ h=>h.1).toR (c:=cap) (hsz:=by decide) hSg (by rw [A4];exact hcap) (by rw [A4];omega)
  rwa [A4] at this
 refine .call _ O AO5 O (AM9 hMW hql hcC (by omega)) fun v2 W2 e2 h2=>?_
 subst h2
 have hc2:=hc.trans (Chg.ext e2)
 have k5:=k5.ext e2
 have ho:=ho.ext e2
 have hf:=hf.ext e2
 have hd:=ev.chg hd (Chg.ext e2)
 have hszW2:=e2.size
 have hstep:elim n f (c+1)=match pivRow g c (n-q) q with
  | none=>elim n f c
  | some r=>(clr (swp g r q) q c,(elim n f c).2++[c]):=by rw [hnext];unfold estep;rw [hq,hg]<;>rfl
 have hstepD:elimD n f (c+1)=match pivRow g c (n-q) q with
  | none=>elimD n f c
  | some r=>(if r=q then elimD n f c else -elimD n f c)*g r c:=by rw [hnextD];unfold estepD;rw [hq,hg]<;>rfl
 cases hp:pivRow g c (n-q) q with
 | none =>
  rw [hp] at hstep hstepD
  refine .mv O O (.ext O O O (.ext O O O (.asg O O (.an O O (.seq (.sr (.mv O O (.not_ O O (.nil (.condT O (.exit ?_)))))))))))
  refine .region (.add O O O (.mv O O (.nil ?_)))
  rw [wI (by omega)]
  refine ⟨rfl,(c+1,vp),lkA rfl,⟨hc2,hlt,k5,?_,?_,?_⟩,by show cols-(c+1)<cols-c;omega⟩
  ·rw [hstep];exact ho
  ·rw [hstep,hg];exact hf
  ·rw [hstep,hstepD,hq];exact hd
 | some r =>
 rw [hp] at hstep hstepD
 obtain ⟨hr1,hr2,hr3,_⟩:=J4 hp
 have hrn:r<n:=by omega
 have hqlt:q<n:=by omega
 refine .mv O O (.ext O O O (.ext O O O (.asg O O (.an O O (.seq (.sr (.mv O O (.not_ O O (.nil (.condF O (.skip ?_)))))))))))
 have upT:∀ {W':World},W2.heap.size<=W'.heap.size->Up (fun k=>(S k/\vp.ownBlock≠some k)/\k≠gb) W':=fun hs k hk=>⟨⟨up k (by omega),fun h=>by have:=(hown k h).2;omega⟩,by omega⟩
 have hTZ:∀ k,((S k/\vp.ownBlock≠some k)/\k≠gb)->S k/\¬ tak gb vp k/\¬ X k:=fun k hk=>⟨hk.1.1,fun h=>by rcases h with h | h;exact hk.2 h;exact hk.1.2 h,hSX k hk.1.1⟩
 have hZ:∀ {W':World},W2.heap.size<=W'.heap.size->∀ k,tak gb vp k->k<W'.heap.size/\¬ X k:=fun hs k hk=>by
  rcases hk with rfl | hk
  ·exact ⟨by omega,hXg⟩
  ·exact ⟨by have:=(hown k hk).2;omega,fun h=>by have:=(hX k h).1;have:=(hown k hk).1;omega⟩
 have hfX:∀ k,(S k/\vp.ownBlock≠some k)->¬ X k:=fun k hk=>hSX k hk.1
 have hXY:∀ {A B:World},Chg X A B->Chg Y A B:=fun h=>h.mono fun k _ hk=>hYi k (.inr hk)
 have hUY:∀ {A B:World},Upd A B gb->Chg Y A B:=fun h=>Chg.upd h (hYi _ (.inl O))
 have hUZ:∀ {A B:World},Upd A B gb->Chg (tak gb vp) A B:=fun h=>Chg.upd h (.inl O)
 refine .mid (α:=Unit) (fun _=>[(0,.slice (some ⟨gb,0,none⟩) n cap),(5,.pointer (some ⟨b5,0,none⟩)),(7,vp),(8,.int .i64 (c:Nat)),(9,.int .i64 (q:Nat)),(16,.int .i64 (cols:Nat)),(17,.int .i64 (c:Nat))])
  (fun _ W3=>Chg Y W2 W3/\FB eV 32 (fun k=>S k/\vp.ownBlock≠some k) W3 gb (tabM n C (swp g r q))/\D (tak gb vp) q (if r=q then elimD n f c else -elimD n f c) W3) ?_ ?_
 ·refine .sr (.mv O O (.mv O O ?_))
  by_cases hrq:r=q
  ·refine .neqF O O O (by omega) (.nil (.condF O (.skip ?_)))
   refine ⟨rfl,(),lkA rfl,Chg.refl _,?_,?_⟩
   ·have:tabM n C (swp g r q)=tabM n C g:=D6 fun i k _ _=>by
     unfold swp
     by_cases ei:i=q
     ·simp [hrq,ei]
     ·simp [hrq,ei]
    rw [this];exact hf
   ·rw [if_pos hrq];exact hd
  ·refine .neqT O O O (by omega) (.nil (.condT O (.seq ?_)))
   refine .heldT follows true (fun _=>True) [some _,some (.int .i64 (r:Nat)),some _,some (.int .i64 (q:Nat)),some _,some (.int .i64 (q:Nat)),some (.pointer (some ⟨gb,0+q*1,none⟩)),none,some _,some (.int .i64 (r:Nat)),some (.pointer (some ⟨gb,0+r*1,none⟩)),none,some (.pointer (some ⟨gb,0+r*1,none⟩)),none,some (.pointer (some ⟨gb,0+q*1,none⟩)),none]
    (.two 7 (.one 11 (.one 13 (.one 15 .done))) 11 (.one 7 (.one 13 (.one 15 .done)))) (by kernel_rfl) (by kernel_rfl)
    ⟨fun _ _=>v_mv rfl,fun _ _=>v_mv rfl,fun _ _=>v_mv rfl,fun _ _=>v_mv rfl,fun _ _=>v_mv rfl,fun _ _=>v_mv rfl,fun _ _=>E6 (i:=q) un_M ty_V O O hqlt,fun _ _=>v_mv rfl,fun _ _=>v_mv rfl,fun _ _=>E6 (i:=r) un_M ty_V O O hrn,fun _ _=>E6 (i:=r) un_M ty_V O O hrn,fun _ _=>E6 (i:=q) un_M ty_V O O hqlt,trivial⟩ ?_
   intro W3 e3 _
   obtain ⟨x7,h7,p7⟩:=(hf.ext e3).at_ (by decide) (D5 hqlt)
   obtain ⟨x11,h11,p11⟩:=(hf.ext e3).at_ (by decide) (D5 hrn)
   have q7:PtrX W3 ⟨gb,0+q*1,none⟩ x7:=by rw [Nat.zero_add];exact p7
   have q11:PtrX W3 ⟨gb,0+r*1,none⟩ x11:=by rw [Nat.zero_add];exact p11
   refine .gv2 (.gv O trivial O (AA4 (E:=eV) ty_V O q7 h7).gv ?_) (.gv O trivial O (AA4 (E:=eV) ty_V O q11 h11).gv ?_)
   all_goals
    rintro _ _ ⟨rfl,rfl⟩
    refine .gv O trivial O (by first | exact (AA4 (E:=eV) ty_V O q11 h11).gv | exact (AA4 (E:=eV) ty_V O q7 h7).gv) ?_
    rintro _ _ ⟨rfl,rfl⟩
    refine .gv O trivial O (X4 (E:=eV) (i:=r) (by decide) ty_V O O (hf.ext e3) O (by rw [A4];exact hrn) (Nat.zero_add _) h7) ?_
    rintro _ W4 ⟨f4,u4⟩
    refine .gv O trivial O (X4 (E:=eV) (i:=q) (by decide) ty_V O O f4 O (by rw [List.length_set,A4];exact hqlt) (Nat.zero_add _) (ER.upd eV h11 u4 (fun h=>h.2 O))) ?_
    rintro _ W5 ⟨f5,u5⟩
    refine .nil (.inl O) ?_
    rw [V5 hrn,V5 hqlt] at f5
    have e5:tabM n C (fun j k=>if j=q then g r k else if j=r then g q k else g j k)=tabM n C (swp g r q):=D6 fun i k _ _=>by
     unfold swp
     by_cases e1:i=q
     ·subst e1;rw [if_pos rfl,if_neg (fun h=>hrq h.symm),if_pos rfl]
     ·by_cases e2:i=r
      ·rw [if_neg e1,if_pos e2,if_pos e2]
      ·rw [if_neg e1,if_neg e2,if_neg e2,if_neg e1]
    rw [e5] at f5
    have c25:Chg Y W2 W5:=((Chg.ext e3).trans (hUY u4)).trans (hUY u5)
    have d5:=ev.chg hd (((Chg.ext e3).trans (hUZ u4)).trans (hUZ u5))
    have k55:=c25.blk k5 hb5X
    refine .region (.fa fld_EV0 O O (.ld ty_E0 O O k55 O ?_))
    refine .callvG [] O (show some fe=some (Value.func (.func xe) #[] cape) by rw [hfe]) ev.entE O (ev.exch d5 (hZ c25.size)) ?_
    rintro v6 W6 ⟨c6,d6⟩
    refine .nil ⟨rfl,(),lkA rfl,c25.trans (hXY c6),f5.chg c6 hXg hfX,?_⟩
    rw [if_neg hrq];exact d6
 rintro _ W3 ⟨c3,f3,d3⟩
 have k5:=c3.blk k5 hb5X
 have hs3:=c3.size
 generalize hdd:(if r=q then elimD n f c else -elimD n f c)=dd at *
 have hsq:swp g r q q c=g r c:=by
  unfold swp
  by_cases e:q=r
  ·simp [e]
  ·simp [e]
 have hss:=Ar5 (a:=r) (b:=q) hrn hqlt hsg
 generalize hs:swp g r q=s at *
 have hs0:s q c≠0:=by rw [hsq];exact hr3
 have hqk:qk (bd L q) (qc (s q c)):=AF8 (hss q c hqlt hcC)
 refine .seq ?_
 refine .par follows 9 [.inl _,.inl fs,.inl _,.inl (.int .i64 (q:Nat)),.inl _,.inr (eV.at (fun k=>(S k/\vp.ownBlock≠some k)/\k≠gb) (tab C (s q))),.inl (.int .i64 (c:Nat)),.inr (Ptr eQ (fun k=>(S k/\vp.ownBlock≠some k)/\k≠gb) (qc (s q c))),.inr (eQ.at (fun k=>(S k/\vp.ownBlock≠some k)/\k≠gb) (qc (s q c)))]
  [[],[(55,0)],[],[],[(57,2),(58,3)],[(59,4)],[],[(60,5),(61,6)],[(62,7)]] (by kernel_rfl) ⟨
  fun w e=>(v_fa fld_EV1 O).ob,fun w e=>(v_ld ty_E1 O (k5.ext e) O).ob,fun w e=>(v_mv O).ob,fun w e=>(v_mv O).ob,
  fun w e=>(E6 (i:=q) un_M ty_V O O hqlt).ob,
  fun w e=>AB8 (E:=eV) (i:=q) (by decide) ty_V O (Nat.zero_add _) (f3.ext e) (D5 hqlt),
  fun w e=>(v_mv O).ob,
  fun w e x hx=>E5 (i:=c) un_V ty_Q O hx O (I0 hcC),
  fun w e p hp=>T1 ty_Q O hp,trivial⟩ ?_
 intro W4 e4 x5 _ x7 _ x8 h8
 refine .callvG [x8] O (show some fs=some (Value.func (.func xs) #[] caps) by rw [hfs]) ev.entS O (ev.scal (ev.chg d3 (Chg.ext e4)) (hZ (by have:=e4.size;omega)) (eQ.mono (fun k _ hk=>hTZ k hk) h8) (hqk.mono hBM) (by omega)) ?_
 rintro v5 W5 ⟨c5,d5⟩
 refine .nil ?_
 rw [B9] at d5
 have c35:Chg Y W3 W5:=(Chg.ext e4).trans (hXY c5)
 have k5:=c35.blk k5 hb5X
 have f5:=(f3.ext e4).chg c5 hXg hfX
 have hs5:=c35.size
 have up5:=upT (show W2.heap.size<=W5.heap.size by omega)
 refine .seq ?_
 refine .parL follows 13 [11] [.inr (eQ.at (fun k=>(S k/\vp.ownBlock≠some k)/\k≠gb) (qc ((1:Int):Rat))),.inl _,.inl (.int .i64 (q:Nat)),.inl _,.inr (eV.at (fun k=>(S k/\vp.ownBlock≠some k)/\k≠gb) (tab C (s q))),.inl (.int .i64 (c:Nat)),.inr (Ptr eQ (fun k=>(S k/\vp.ownBlock≠some k)/\k≠gb) (qc (s q c))),.inr (eQ.at (fun k=>(S k/\vp.ownBlock≠some k)/\k≠gb) (qc (s q c))),
   .inr (Two (eQ.at (fun k=>(S k/\vp.ownBlock≠some k)/\k≠gb) (qc (s q c)⁻¹)) (Is (.int .i64 0))),.inr (Two (eQ.at (fun k=>(S k/\vp.ownBlock≠some k)/\k≠gb) (qc (s q c)⁻¹)) (Is (.int .i64 0))),.inr (eQ.at (fun k=>(S k/\vp.ownBlock≠some k)/\k≠gb) (qc (s q c)⁻¹)),.inl (.int .i64 0),.inr (NewP W5.heap.size 54 zq.cells)]
  [[],[],[],[(67,1),(68,2)],[(69,3)],[],[(70,4),(71,5)],[(72,6)],[(66,0),(73,7)],[(74,8)],[(65,9)],[(65,9)],[]] (by kernel_rfl) ⟨
  fun w e=>(A1 _ H6 O (H5 (up5.ext e.size) (by decide) (by decide))).ob (A6 _ _ _),
  fun w e=>(v_mv O).ob,fun w e=>(v_mv O).ob,
  fun w e=>(E6 (i:=q) un_M ty_V O O hqlt).ob,
  fun w e=>AB8 (E:=eV) (i:=q) (by decide) ty_V O (Nat.zero_add _) (f5.ext e) (D5 hqlt),
  fun w e=>(v_mv O).ob,
  fun w e x hx=>E5 (i:=c) un_V ty_Q O hx O (I0 hcC),
  fun w e p hp=>T1 ty_Q O hp,
  fun w e x hx y hy=>by
   have h1:qok (bd L q) (qc ((1:Int):Rat)):=(Rsz.int 1 (Nat.lt_of_lt_of_le (by decide) (Nat.pow_le_pow_right (by decide) hBp)) hBp).toOk
   have:=An9 (up5.ext e.size) hx hy h1 hqk.1 hBp (by omega) (by rw [B9];exact hs0)
   rw [B9,B9,show ((1:Int):Rat) / s q c=(s q c)⁻¹ by rw [Rat.div_def];simp] at this
   exact (A1 _ AY3 O this).ob (AH6 (A6 _ _ _) (AO7 _)),
  fun w e x hx=>ob_mv O hx (AH6 (A6 _ _ _) (AO7 _)),
  fun w e x hx=>by
   obtain ⟨a,b,rfl,h1,rfl⟩:=hx
   exact V7 (v_ex O O) h1 (A6 _ _ _),
  fun w e x hx=>by
   obtain ⟨a,b,rfl,h1,rfl⟩:=hx
   exact (v_ex O O).ob,
  fun w e=>AU9 D4 e.size,trivial⟩ ?_
 intro W6 e6 x0 _ x4 _ x6 _ x7' _ x8' _ x9 _ x10 h10 x12 hx12
 obtain ⟨b12,rfl,hb12,k12⟩:=hx12
 have h10s:=BE2 h10 k12 AZ3
 refine .storeA (E:=eQ) ty_Q O O k12 O O h10s (fun h=>h.2 O) fun W7 k12 u7 h7=>.an O O ?_
 have x57:Ext W5 W7:=u7.below e6 hb12
 have h7:eQ.R (fun k=>(S k/\vp.ownBlock≠some k)/\k≠gb) W7 x10 (qc (s q c)⁻¹):=eQ.mono (fun k _ h=>h.1) h7
 have hx10:=shpA O h7
 have k5:=k5.ext x57
 have f7:=f5.ext x57
 have d7:=ev.chg d5 (Chg.ext x57)
 have up7:=up5.ext x57.size
 have c37:Chg Y W3 W7:=c35.trans (Chg.ext x57)
 have hki:qk (bd L q) (qc (s q c)⁻¹):=AF8 ((hss q c hqlt hcC).inv hBp)
 have hkr:∀ i,i<n->vk (bd L q) (tab C (s i)):=fun i hi=>Am0 fun k hk=>hss i k hi hk
 refine .seq ?_
 refine .par follows 8 [.inl _,.inl (.int .i64 (q:Nat)),.inl x10,.inl _,.inl (.int .i64 (q:Nat)),.inl _,.inr (eV.at (fun k=>(S k/\vp.ownBlock≠some k)/\k≠gb) (tab C (s q))),.inr (eV.at (fun k=>(S k/\vp.ownBlock≠some k)/\k≠gb) (tab C fun k=>(s q c)⁻¹*s q k))]
  [[],[],[],[],[],[(80,3),(81,4)],[(82,5)],[(79,2),(83,6)]] (by kernel_rfl) ⟨
  fun w e=>(v_mv O).ob,fun w e=>(v_mv O).ob,fun w e=>((B8 ty_Q O (k12.ext e) (eQ.csz h7)).eq hx10.symm).ob,fun w e=>(v_mv O).ob,fun w e=>(v_mv O).ob,
  fun w e=>(E6 (i:=q) un_M ty_V O O hqlt).ob,
  fun w e=>AB8 (E:=eV) (i:=q) (by decide) ty_V O (Nat.zero_add _) (f7.ext e) (D5 hqlt),
  fun w e x hx=>by
   have:=Ag0 (up7.ext e.size) (ER.ext eQ h7 e) hx hki (hkr q hqlt) hBp (by omega) (by rw [A5];omega)
   rw [A5,B9,L0 (g:=fun k=>(s q c)⁻¹*s q k) (fun k hk=>by rw [Ab8,if_pos hk])] at this
   exact (A1 _ Ak4 O this).ob (A6 _ _ _),trivial⟩ ?_
 intro W8 e8 x6b _ x7b h7b
 refine .ixB (i:=q) un_M ty_V O O O hqlt ?_
 refine .storeF (E:=eV) (i:=q) (by decide) ty_V O O (f7.ext e8) O (by rw [A4];exact hqlt) (Nat.zero_add _) h7b fun W9 f9 u9=>.nil ?_
 rw [V5 hqlt] at f9
 have f9':FB eV 32 (fun k=>S k/\vp.ownBlock≠some k) W9 gb (tabM n C (clrTo s q c 0)):=by rw [Ao7];exact f9
 clear f9
 have c39:Chg Y W3 W9:=(c37.trans (Chg.ext e8)).trans (hUY u9)
 have k9:=(Chg.trans (Chg.ext e8) (hUY u9)).blk k5 hb5X
 have d9:=ev.chg d7 (Chg.trans (Chg.ext e8) (hUZ u9))
 have hs39:=c39.size
 have hur:vk (bd L q+bd L q) (tab C fun k=>(s q c)⁻¹*s q k):=Am0 fun k hk=>((hss q c hqlt hcC).inv hBp).mul (hss q k hqlt hk)
 refine .mid (α:=Unit) (fun _=>[(0,.slice (some ⟨gb,0,none⟩) n cap),(5,.pointer (some ⟨b5,0,none⟩)),(7,vp),(8,.int .i64 (c:Nat)),(16,.int .i64 (cols:Nat)),(17,.int .i64 (c:Nat))])
  (fun _ Wx=>Chg Y W3 Wx/\Blk Wx b5 139 #[fe,fs]/\FB eV 32 (fun k=>S k/\vp.ownBlock≠some k) Wx gb (tabM n C (clr s q c))/\D (tak gb vp) (q+1) (dd*s q c) Wx) ?_ ?_
 ·refine .sr (.mv O O (.len un_M O O (.mv O O (.nil ?_))))
  refine .block (.loop (α:=Nat) (fun i=>[(0,.slice (some ⟨gb,0,none⟩) n cap),(5,.pointer (some ⟨b5,0,none⟩)),(7,vp),(8,.int .i64 (c:Nat)),(9,.int .i64 (q:Nat)),(16,.int .i64 (cols:Nat)),(17,.int .i64 (c:Nat)),(86,.slice (some ⟨gb,0,none⟩) n cap),(87,.int .i64 (n:Nat)),(88,.int .i64 (i:Nat))])
   (fun i Wx=>Chg Y W3 Wx/\i<=n/\Blk Wx b5 139 #[fe,fs]/\FB eV 32 (fun k=>S k/\vp.ownBlock≠some k) Wx gb (tabM n C (clrTo s q c i))/\D (tak gb vp) (q+1) (dd*s q c) Wx) (fun i=>n-i) 0 ?_ ?_ ?_)
  ·exact lkA rfl
  ·exact ⟨c39,Nat.zero_le _,k9,f9',d9⟩
  ·rintro i Wa ⟨ca,hi,ka,fa,da⟩
   have hsa:=ca.size
   have upa:=upT (show W2.heap.size<=Wa.heap.size by omega)
   rcases Nat.lt_or_ge i n with hin | hin
   rotate_left
   ·refine .sr (.lssF O O O (by omega) (.nil (.seq (.condF O (.exit ?_)))))
    have:i=n:=by omega
    subst this
    rw [Ax4] at fa
    exact ⟨rfl,(),lkA rfl,ca,ka,fa,da⟩
   refine .sr (.lssT O O O (by omega) (.nil (.seq (.condT O (.skip (.seq (.block (.sr (.mv O O ?_)))))))))
   refine .ixB (i:=i) un_M ty_V O O O hin (.ldF (E:=eV) (i:=i) (by decide) ty_V O O (Nat.zero_add _) fa (D5 hin) fun er her=>.asg O O (.an O O ?_))
   have hback:∀ {Wb:World} {σ:Env},Chg Y W3 Wb->Blk Wb b5 139 #[fe,fs]->FB eV 32 (fun k=>S k/\vp.ownBlock≠some k) Wb gb (tabM n C (clrTo s q c (i+1)))->D (tak gb vp) (q+1) (dd*s q c) Wb ->
     Chg Y W3 Wb/\i+1<=n/\Blk Wb b5 139 #[fe,fs]/\FB eV 32 (fun k=>S k/\vp.ownBlock≠some k) Wb gb (tabM n C (clrTo s q c (i+1)))/\D (tak gb vp) (q+1) (dd*s q c) Wb:=fun h1 h2 h3 h4=>⟨h1,hin,h2,h3,h4⟩
   by_cases hiq:i=q
   ·refine .sr (.mv O O (.mv O O (.neqF O O O (by omega) (.mv O O (.gs O O O O O (.gs O O O O O (.gs O O O O O (.gs O O O O O (.gs O O O O O (.gs O O O O O (.pick O O O (.nil (.condF O (.skip ?_))))))))))))))
    refine .region (.add O O O (.mv O O (.nil ?_)))
    rw [wI (by omega)]
    refine ⟨rfl,i+1,lkA rfl,⟨ca,hin,ka,?_,da⟩,by show n-(i+1)<n-i;omega⟩
    have:tabM n C (clrTo s q c (i+1))=tabM n C (clrTo s q c i):=D6 fun j k _ _=>by
     rw [AI4]
     by_cases ej:j=i
     ·simp only [ej,hiq,if_true];unfold clrTo;simp
     ·simp only [ej,if_false]
    rw [this];exact fa
   ·have hrow:∀ k,clrTo s q c i i k=s i k:=fun k=>by unfold clrTo;rw [if_neg hiq,if_neg (by omega)]
    have hrowt:tab C (clrTo s q c i i)=tab C (s i):=L0 fun k _=>hrow k
    rw [hrowt] at her
    refine .sr (.mv O O (.mv O O (.neqT O O O (by omega) (.mv O O (.gr O O O O (.mv O O (.gr O O O O (.mv O O (.gr O O O O ?_)))))))))
    refine .ixN (i:=c) un_V ty_Q O O her O (I0 hcC) fun p hp=>.gr O O O O (.ldE ty_Q O O hp fun ex hex=>.gr O O O O ?_)
    refine .call _ O P7 O (P3 hex) fun vs Wb eb hvs=>.gr O O O O ?_
    subst hvs
    rw [B9]
    have kb:=ka.ext eb
    have fb:=fa.ext eb
    have db:=ev.chg da (Chg.ext eb)
    have cb:=ca.trans (Chg.ext eb)
    have upb:=upa.ext eb.size
    have herb:=ER.ext eV her eb
    by_cases hz:s i c=0
    ·refine .neqF O O O (AN0.2 hz) (.pick O O O (.nil (.condF O (.skip ?_))))
     refine .region (.add O O O (.mv O O (.nil ?_)))
     rw [wI (by omega)]
     refine ⟨rfl,i+1,lkA rfl,⟨cb,hin,kb,?_,db⟩,by show n-(i+1)<n-i;omega⟩
     have:tabM n C (clrTo s q c (i+1))=tabM n C (clrTo s q c i):=D6 fun j k _ _=>by
      rw [AI4]
      by_cases ej:j=i
      ·simp only [ej,hiq,if_true,if_false];rw [hrow,hz];grind
      ·simp only [ej,if_false]
     rw [this];exact fb
    ·refine .neqT O O O (fun h=>hz (AN0.1 h)) (.pick O O O (.nil (.condT O ?_)))
     have hrq:tab C (clrTo s q c i q)=tab C fun k=>(s q c)⁻¹*s q k:=L0 fun k _=>by unfold clrTo;rw [if_pos rfl]
     refine .par follows 13 [.inl _,.inl (.int .i64 (i:Nat)),.inl er,.inl (.int .i64 (c:Nat)),.inr (Ptr eQ (fun k=>(S k/\vp.ownBlock≠some k)/\k≠gb) (qc (s i c))),.inr (eQ.at (fun k=>(S k/\vp.ownBlock≠some k)/\k≠gb) (qc (s i c))),.inr (eQ.at (fun k=>(S k/\vp.ownBlock≠some k)/\k≠gb) (qc (-(s i c)))),
       .inl _,.inl (.int .i64 (q:Nat)),.inl _,.inr (eV.at (fun k=>(S k/\vp.ownBlock≠some k)/\k≠gb) (tab C fun k=>(s q c)⁻¹*s q k)),.inl er,.inr (eV.at (fun k=>(S k/\vp.ownBlock≠some k)/\k≠gb) (tab C fun k => -(s i c)*((s q c)⁻¹*s q k)+s i k))]
      [[],[],[],[],[(106,2),(107,3)],[(108,4)],[(109,5)],[],[],[(111,7),(112,8)],[(113,9)],[],[(110,6),(114,10),(115,11)]] (by kernel_rfl) ⟨
      fun w e=>(v_mv O).ob,fun w e=>(v_mv O).ob,fun w e=>(v_mv O).ob,fun w e=>(v_mv O).ob,
      fun w e=>E5 (i:=c) un_V ty_Q O (ER.ext eV herb e) O (I0 hcC),
      fun w e p hp=>T1 ty_Q O hp,
      fun w e x hx=>by
       have:=An7 (L:=bd L q) (upb.ext e.size) hx (AF8 (hss i c hin hcC)) hBp (by omega)
       rw [B9] at this
       exact (A1 _ Ap8 O this).ob (A6 _ _ _),
      fun w e=>(v_mv O).ob,fun w e=>(v_mv O).ob,
      fun w e=>(E6 (i:=q) un_M ty_V O O hqlt).ob,
      fun w e=>hrq▸AB8 (E:=eV) (i:=q) (by decide) ty_V O (Nat.zero_add _) (fb.ext e) (D5 hqlt),
      fun w e=>(v_mv O).ob,
      fun w e x hx y hy=>by
       have:=AR4 (L:=bd L q+bd L q) (upb.ext e.size) hx hy (ER.ext eV herb e) (by rw [A5];omega) (by rw [A5];omega) (AF8 ((hss i c hin hcC).neg.mono (by omega))) hur ((hkr i hin).mono (by omega)) (by omega) (by omega)
       rw [A5,A5,Nat.max_self,B9,L0 (g:=fun k => -(s i c)*((s q c)⁻¹*s q k)+s i k) (fun k hk=>by rw [Ab8,Ab8,if_pos hk,if_pos hk])] at this
       exact (A1 _ AS3 O this).ob (A6 _ _ _),trivial⟩ ?_
     intro Wd ed y4 _ y5 _ y6 _ y10 _ y12 hy12
     refine .ixB (i:=i) un_M ty_V O O O hin ?_
     refine .storeF (E:=eV) (i:=i) (by decide) ty_V O O (fb.ext ed) O (by rw [A4];exact hin) (Nat.zero_add _) hy12 fun We fe' ue=>.nil ?_
     rw [V5 hin] at fe'
     refine .region (.add O O O (.mv O O (.nil ?_)))
     rw [wI (by omega)]
     refine ⟨rfl,i+1,lkA rfl,⟨(cb.trans (Chg.ext ed)).trans (hUY ue),hin,(Chg.trans (Chg.ext ed) (hUY ue)).blk kb hb5X,?_,ev.chg db (Chg.trans (Chg.ext ed) (hUZ ue))⟩,by show n-(i+1)<n-i;omega⟩
     rw [AI4]
     simp only [hiq,if_false]
     exact fe'
 rintro _ Wx ⟨cx,kx,fx,dx⟩
 have hsx:=cx.size
 have hox:OwnL (eInt .i64) 3 w.heap.size S Wx vp (pInts (elim n f c).2):=ho.chgI (c3.trans cx) hYw
 have c2x:Chg Y w Wx:=hc2.trans (c3.trans cx)
 refine .region (.mv O O (.mv O O (.bsl [(0,.int .i64 (c:Nat))] O O AI6 fun Wy by_ ny=>?_)))
 obtain ⟨ey,ky,hby,hsy⟩:=ny
 have hlen:(pInts (elim n f c).2).length<=1000000000:=by rw [hplen];omega
 have hint:(eInt .i64).R (fun k=>S k/\vp.ownBlock≠some k) Wy (.int .i64 (c:Nat)) (c:Int):=⟨rfl,Int.le_trans (by decide:IntKind.min .i64<=0) (by omega),Int.le_trans (by omega:(c:Int)<=1000) (by decide)⟩
 refine .gv O O (At0 (E:=eInt .i64) (base:=w.heap.size) (n:=(c:Int)) (e:=.int .i64 (c:Nat)) (by decide) un_I T7 O O O (hox.ext ey) ky hint hlen (by decide) (by have:=ey.size;omega)) ?_
 rintro vq Wz ⟨hoz,hgz,hwz⟩
 refine .an O O (.region (.add O O O (.mv O O (.nil ?_))))
 rw [wI (by omega)]
 have hpg:vp.ownBlock≠some gb:=fun h=>by have:=(hown gb h).1;omega
 have hcz:Chg Y w Wz:=(c2x.trans (Chg.ext ey)).step (Chg.grown hgz) fun k hk h=>by have:=(hown k h).1;omega
 refine ⟨rfl,(c+1,vq),lkA rfl,⟨hcz,hlt,?_,?_,?_,?_⟩,by show cols-(c+1)<cols-c;omega⟩
 ·exact (hox.ext ey).gblk hgz (kx.ext ey) (by decide)
 ·rw [hstep]
  show OwnL (eInt .i64) 3 w.heap.size S Wz vq (pInts ((elim n f c).2++[c]))
  rw [show pInts ((elim n f c).2++[c])=pInts (elim n f c).2++[(c:Int)] by simp]
  exact hoz
 ·rw [hstep]
  show FB eV 32 (fun k=>S k/\vq.ownBlock≠some k) Wz gb (tabM n C (clr (swp g r q) q c))
  rw [hs]
  exact (fx.ext ey).grow hgz hwz hpg
 ·have hz:D (fun k=>tak gb vp k\/tak gb vq k) (q+1) (dd*s q c) Wy:=ev.mono (ev.chg dx (Chg.ext ey)) fun k hk h=>by
   rcases h with h | h | h
   ·exact h
   ·exact .inl h
   ·rcases hwz with e | e
    ·rw [e] at h;exact .inr h
    ·rw [e] at h;cases h;omega
  have hz2:=ev.chg hz ((Chg.grown hgz).mono fun k _ h=>.inl (.inr h))
  have hz3:=ev.mono (Z':=tak gb vq) hz2 fun k _ h=>.inr h
  rw [hstep,hstepD]
  show D (tak gb vq) ((elim n f c).2++[c]).length _ Wz
  have e9:(if r=q then elimD n f c else -elimD n f c)*g r c=dd*s q c:=by rw [hdd,hsq]
  show D (tak gb vq) ((elim n f c).2++[c]).length ((if r=q then elimD n f c else -elimD n f c)*g r c) Wz
  rw [List.length_append,hq,e9]
  exact hz3
end Go.Proofs.YtggegpiffjbngaaGreat
namespace Go.Kx
open Go Go.RowKit
def eF:ER FuncId where
 sz:=1
 isA:=true
 R:=fun _ _ v f=>v=.agg #[.func (.func f) #[] #[]]
 csz:=by rintro S w e x rfl;rfl
 one:=by rintro S w e x rfl u hu;simp [Value.cells] at hu;subst hu;rfl
 shp:=by rintro S w e x rfl;rfl
 keep:=fun _ h=>h
 mono:=fun _ h=>h
abbrev eFs:ER (List FuncId):=RL eF
def ck (i:Nat) (b:Int) (l:LnV):Bool:=match i with
 | 0=>decide (0<=l.f) && decide (l.f<b)
 | 1=>decide (0<=l.t) && decide (l.t<b)
 | 2 => !(l.f == l.t)
 | 3=>decide (1<=l.x) && decide (l.x<=1000)
 | _=>decide (0<=l.c) && decide (l.c<=1000000)
def ckAll (b:Int) (l:LnV):Prop:=∀ i,i<5->ck i b l=true
def chkOk (n:NtV):Prop:=∀ i,i<n.ls.length->∀ l,n.ls[i]?=some l->ckAll n.b l
def outsOk (n:NtV) (o:List Int):Prop:=∀ i,i<o.length->0<=o.getD i 0/\o.getD i 0<n.ls.length/\(0<i->o.getD (i-1) 0<o.getD i 0)
open Classical in
noncomputable def chkE (n:NtV):Int:=if n.b<1\/6<n.b then 1 else if 10<n.ls.length then 5 else if chkOk n then 0 else 1
open Classical in
noncomputable def outE (n:NtV) (o:List Int):Int:=if chkE n≠0 then chkE n else if outsOk n o then 0 else 1
end Go.Kx
namespace Go.Proofs.YtggegpiffjbngaaGreat
open Go Go.Kx Go.RowKit
theorem ty_N:tyOf Tryz.prog 24=some (true,2):=by kernel_rfl
theorem S2:tyOf Tryz.prog 58=some (true,4):=by kernel_rfl
theorem Q8:tyOf Tryz.prog 22=some (false,1):=by kernel_rfl
theorem O9:Tryz.prog.underlying 22=some (.slice 58):=by kernel_rfl
theorem Ab2:zeroOf Tryz.prog 58=some (.agg #[.int .i64 0,.int .i64 0,.int .i64 0,.int .i64 0]):=by kernel_rfl
theorem Q1:fldOf Tryz.prog 24 0=some 0:=by kernel_rfl
theorem K8:fldOf Tryz.prog 24 1=some 1:=by kernel_rfl
theorem K2:fldOf Tryz.prog 58 0=some 0:=by kernel_rfl
theorem K1:fldOf Tryz.prog 58 1=some 1:=by kernel_rfl
theorem AT1:fldOf Tryz.prog 58 2=some 2:=by kernel_rfl
theorem At4:fldOf Tryz.prog 58 3=some 3:=by kernel_rfl
theorem un_Cs:Tryz.prog.underlying 171=some (.slice 175):=by kernel_rfl
theorem Az7:tyOf Tryz.prog 175=some (true,1):=by kernel_rfl
theorem zero_Ck:zeroOf Tryz.prog 175=some (.agg #[.nilFunc]):=by kernel_rfl
theorem fld_Ck0:fldOf Tryz.prog 175 0=some 0:=by kernel_rfl
theorem ty_FCk:tyOf Tryz.prog 173=some (false,1):=by kernel_rfl
theorem AX7 {f:FuncId}:bldOf Tryz.prog 175 [(0,.func (.func f) #[] #[])]=some #[.func (.func f) #[] #[]]:=by kernel_rfl
theorem bsl_Ck5 {a b c d e:Value}:bslOf Tryz.prog 171 5 [(0,.agg #[a]),(1,.agg #[b]),(2,.agg #[c]),(3,.agg #[d]),(4,.agg #[e])]=some (175,#[a,b,c,d,e]):=by kernel_rfl
theorem AQ9:Ent Tryz.prog 226:=A0 Tryz.func226 (by kernel_rfl) rfl
theorem AP8 {S:Nat->Prop} {w:World} {vn:Value} {n:NtV} {b:Int} (hn:eN.R S w vn n):CR Tryz.prog 226 #[vn,.int .i64 b] w (Is (.bool (decide (0<=b) && decide (b<n.b)))):=by
 obtain ⟨s,rfl,hs,_⟩:=hn
 refine enter Tryz.func226 O Tryz.ntmps226 O ?_
 refine .sr (.box O O fun w1 b2 n1=>.an O O ?_)
 obtain ⟨e1,k2,_,_⟩:=n1
 refine .sr (.mv O O ?_)
 by_cases h0:0<=b
 ·refine .leqT O O O h0 (.mv O O (.gr O O O O (.mv O O (.gr O O O O (.fa Q1 O O (.gr O O O O (.ld A7 O O k2 O (.gr O O O O ?_))))))))
  rw [decide_eq_true h0]
  by_cases h1:b<n.b
  ·refine .lssT O O O h1 (.pick O O O (.an O O (.ret ?_)))
   exact .plain [_] Tryz.results226 ⟨rfl,trivial⟩ ⟨e1,by rw [decide_eq_true h1]<;>rfl⟩
  ·refine .lssF O O O (by omega) (.pick O O O (.an O O (.ret ?_)))
   exact .plain [_] Tryz.results226 ⟨rfl,trivial⟩ ⟨e1,by rw [decide_eq_false h1]<;>rfl⟩
 ·refine .leqF O O O (by omega) (.mv O O (.gs O O O O O (.gs O O O O O (.gs O O O O O (.gs O O O O O (.pick O O O (.an O O (.ret ?_))))))))
  exact .plain [_] Tryz.results226 ⟨rfl,trivial⟩ ⟨e1,by rw [decide_eq_false h0]<;>rfl⟩
section
variable {S:Nat->Prop} {w:World} {vn vl:Value} {n:NtV} {l:LnV}
theorem E_ck1:Ent Tryz.prog 225:=A0 Tryz.func225 (by kernel_rfl) rfl
theorem ck1_c (hn:eN.R S w vn n) (hl:eL.R S w vl l):CR Tryz.prog 225 #[vn,vl] w (Is (.bool (ck 0 n.b l))):=by
 have hvn:=shpA O hn
 obtain ⟨rfl,_⟩:=hl
 refine enter Tryz.func225 O Tryz.ntmps225 O ?_
 refine .sr (.box O O fun w1 b2 n1=>.box O O fun w2 b3 n2=>.an O O ?_)
 obtain ⟨e1,k2,_,_⟩:=n1
 obtain ⟨e2,k3,_,_⟩:=n2
 refine .sr (.ldA ty_N O O (k2.ext e2) (eN.csz hn) (.fa K2 O O (.ld A7 O O k3 O ?_)))
 rw [<-hvn]
 refine .call _ O AQ9 O (AP8 (hn.ext (e1.trans e2))) fun v3 w3 e3 h3=>.an O O (.ret ?_)
 exact .plain [_] Tryz.results225 ⟨rfl,trivial⟩ ⟨(e1.trans e2).trans e3,h3⟩
theorem E_ck2:Ent Tryz.prog 227:=A0 Tryz.func227 (by kernel_rfl) rfl
theorem ck2_c (hn:eN.R S w vn n) (hl:eL.R S w vl l):CR Tryz.prog 227 #[vn,vl] w (Is (.bool (ck 1 n.b l))):=by
 have hvn:=shpA O hn
 obtain ⟨rfl,_⟩:=hl
 refine enter Tryz.func227 O Tryz.ntmps227 O ?_
 refine .sr (.box O O fun w1 b2 n1=>.box O O fun w2 b3 n2=>.an O O ?_)
 obtain ⟨e1,k2,_,_⟩:=n1
 obtain ⟨e2,k3,_,_⟩:=n2
 refine .sr (.ldA ty_N O O (k2.ext e2) (eN.csz hn) (.fa K1 O O (.ld A7 O O k3 O ?_)))
 rw [<-hvn]
 refine .call _ O AQ9 O (AP8 (hn.ext (e1.trans e2))) fun v3 w3 e3 h3=>.an O O (.ret ?_)
 exact .plain [_] Tryz.results227 ⟨rfl,trivial⟩ ⟨(e1.trans e2).trans e3,h3⟩
theorem E_ck3:Ent Tryz.prog 228:=A0 Tryz.func228 (by kernel_rfl) rfl
theorem ck3_c (hl:eL.R S w vl l):CR Tryz.prog 228 #[vn,vl] w (Is (.bool (ck 2 n.b l))):=by
 obtain ⟨rfl,_⟩:=hl
 refine enter Tryz.func228 O Tryz.ntmps228 O ?_
 refine .sr (.box O O fun w1 b2 n1=>.box O O fun w2 b3 n2=>.an O O ?_)
 obtain ⟨e1,k2,_,_⟩:=n1
 obtain ⟨e2,k3,_,_⟩:=n2
 refine .sr (.fa K2 O O (.ld A7 O O k3 O (.fa K1 O O (.ld A7 O O k3 O (.neq O O O (.an O O (.ret ?_)))))))
 exact .plain [_] Tryz.results228 ⟨rfl,trivial⟩ ⟨e1.trans e2,rfl⟩
theorem E_ck4:Ent Tryz.prog 229:=A0 Tryz.func229 (by kernel_rfl) rfl
theorem ck4_c (hl:eL.R S w vl l):CR Tryz.prog 229 #[vn,vl] w (Is (.bool (ck 3 n.b l))):=by
 obtain ⟨rfl,_⟩:=hl
 refine enter Tryz.func229 O Tryz.ntmps229 O ?_
 refine .sr (.box O O fun w1 b2 n1=>.box O O fun w2 b3 n2=>.an O O ?_)
 obtain ⟨e1,k2,_,_⟩:=n1
 obtain ⟨e2,k3,_,_⟩:=n2
 refine .sr (.fa AT1 O O (.ld AB0 O O k3 O ?_))
 by_cases h0:1<=l.x
 ·refine .leqT O O O h0 (.mv O O (.gr O O O O (.fa AT1 O O (.gr O O O O (.ld AB0 O O k3 O (.gr O O O O ?_))))))
  by_cases h1:l.x<=1000
  ·refine .leqT O O O h1 (.pick O O O (.an O O (.ret ?_)))
   exact .plain [_] Tryz.results229 ⟨rfl,trivial⟩ ⟨e1.trans e2,by unfold ck;rw [decide_eq_true h0,decide_eq_true h1]<;>rfl⟩
  ·refine .leqF O O O (by omega) (.pick O O O (.an O O (.ret ?_)))
   exact .plain [_] Tryz.results229 ⟨rfl,trivial⟩ ⟨e1.trans e2,by unfold ck;rw [decide_eq_true h0,decide_eq_false h1]<;>rfl⟩
 ·refine .leqF O O O (by omega) (.mv O O (.gs O O O O O (.gs O O O O O (.gs O O O O O (.pick O O O (.an O O (.ret ?_)))))))
  exact .plain [_] Tryz.results229 ⟨rfl,trivial⟩ ⟨e1.trans e2,by unfold ck;rw [decide_eq_false h0]<;>rfl⟩
theorem E_ck5:Ent Tryz.prog 230:=A0 Tryz.func230 (by kernel_rfl) rfl
theorem ck5_c (hl:eL.R S w vl l):CR Tryz.prog 230 #[vn,vl] w (Is (.bool (ck 4 n.b l))):=by
 obtain ⟨rfl,_⟩:=hl
 refine enter Tryz.func230 O Tryz.ntmps230 O ?_
 refine .sr (.box O O fun w1 b2 n1=>.box O O fun w2 b3 n2=>.an O O ?_)
 obtain ⟨e1,k2,_,_⟩:=n1
 obtain ⟨e2,k3,_,_⟩:=n2
 refine .sr (.fa At4 O O (.ld AB0 O O k3 O ?_))
 by_cases h0:0<=l.c
 ·refine .leqT O O O h0 (.mv O O (.gr O O O O (.fa At4 O O (.gr O O O O (.ld AB0 O O k3 O (.gr O O O O ?_))))))
  by_cases h1:l.c<=1000000
  ·refine .leqT O O O h1 (.pick O O O (.an O O (.ret ?_)))
   exact .plain [_] Tryz.results230 ⟨rfl,trivial⟩ ⟨e1.trans e2,by unfold ck;rw [decide_eq_true h0,decide_eq_true h1]<;>rfl⟩
  ·refine .leqF O O O (by omega) (.pick O O O (.an O O (.ret ?_)))
   exact .plain [_] Tryz.results230 ⟨rfl,trivial⟩ ⟨e1.trans e2,by unfold ck;rw [decide_eq_true h0,decide_eq_false h1]<;>rfl⟩
 ·refine .leqF O O O (by omega) (.mv O O (.gs O O O O O (.gs O O O O O (.gs O O O O O (.pick O O O (.an O O (.ret ?_)))))))
  exact .plain [_] Tryz.results230 ⟨rfl,trivial⟩ ⟨e1.trans e2,by unfold ck;rw [decide_eq_false h0]<;>rfl⟩
end
def ckFs:List FuncId:=[225,227,228,229,230]
theorem ckFs_c {S:Nat->Prop} {w:World} {vn vl:Value} {n:NtV} {l:LnV} (hn:eN.R S w vn n) (hl:eL.R S w vl l) {i:Nat} {f:FuncId} (hf:ckFs[i]?=some f):Ent Tryz.prog f/\CR Tryz.prog f #[vn,vl] w (Is (.bool (ck i n.b l))):=by
 match i with
 | 0=>cases hf;exact ⟨E_ck1,ck1_c hn hl⟩
 | 1=>cases hf;exact ⟨E_ck2,ck2_c hn hl⟩
 | 2=>cases hf;exact ⟨E_ck3,ck3_c hl⟩
 | 3=>cases hf;exact ⟨E_ck4,ck4_c hl⟩
 | 4=>cases hf;exact ⟨E_ck5,ck5_c hl⟩
 | i+5=>simp [ckFs] at hf
theorem Ae4:Ent Tryz.prog 172:=A0 Tryz.func172 (by kernel_rfl) rfl
theorem Ac6 {w:World}:CR Tryz.prog 172 #[] w (eFs.at (fun _=>True) ckFs):=by
 refine enter Tryz.func172 O Tryz.ntmps172 O ?_
 refine .sr (.an O O ?_)
 refine .sr (.bld _ O O AX7 (.bld _ O O AX7 (.bld _ O O AX7 (.bld _ O O AX7 (.bld _ O O AX7 (.bsl _ O O bsl_Ck5 fun w1 b1 n1=>.an O O (.ret ?_)))))))
 refine .plain [_] Tryz.results172 ⟨rfl,trivial⟩ ⟨n1.1,?_⟩
 exact Ao4 (E:=eF) [.agg #[.func (.func 225) #[] #[]],.agg #[.func (.func 227) #[] #[]],.agg #[.func (.func 228) #[] #[]],.agg #[.func (.func 229) #[] #[]],.agg #[.func (.func 230) #[] #[]]] ckFs n1 (fun _ _=>trivial) O O (by decide) (Els.snoc (Els.snoc (Els.snoc (Els.snoc (Els.snoc Els.nil O) O) O) O) O)
theorem Al4:Ent Tryz.prog 110:=A0 Tryz.func110 (by kernel_rfl) rfl
theorem Ah9 {S:Nat->Prop} {w:World} {vn:Value} {n:NtV} (hn:eN.R S w vn n):CR Tryz.prog 110 #[vn] w (Is (.int .i64 (chkE n))):=by
 obtain ⟨s,rfl,hs,hb⟩:=hn
 have hn:eN.R S w (.agg #[.int .i64 n.b,s]) n:=⟨s,rfl,hs,hb⟩
 obtain ⟨_,_,_,_,hll⟩:=RL.len hs
 refine enter Tryz.func110 O Tryz.ntmps110 O ?_
 refine .sr (.box O O fun w1 b1 n1=>.an O O ?_)
 obtain ⟨e1,k1,hb1,hs1⟩:=n1
 have hB:n.b<1\/6<n.b->chkE n=1:=fun h=>by unfold chkE;rw [if_pos h]
 refine .scope (.seq (.sr (.fa Q1 O O (.ld A7 O O k1 O ?_))))
 by_cases h1:n.b<1
 ·refine .lssT O O O h1 (.mv O O (.gs O O O O O (.gs O O O O O (.gs O O O O O (.pick O O O (.nil (.condT O (.sr (.an O O (.ret ?_))))))))))
  exact .plain [_] Tryz.results110 ⟨rfl,trivial⟩ ⟨e1,by rw [hB (.inl h1)];rfl⟩
 refine .lssF O O O (by omega) (.mv O O (.gr O O O O (.fa Q1 O O (.gr O O O O (.ld A7 O O k1 O (.gr O O O O ?_))))))
 by_cases h6:6<n.b
 ·refine .gtrT O O O h6 (.pick O O O (.nil (.condT O (.sr (.an O O (.ret ?_))))))
  exact .plain [_] Tryz.results110 ⟨rfl,trivial⟩ ⟨e1,by rw [hB (.inr h6)];rfl⟩
 refine .gtrF O O O (by omega) (.pick O O O (.nil (.condF O (.skip (.seq (.sr (.fa K8 O O (.ld Q8 O O k1 O (.lenR O9 O O (hs.ext e1) ?_)))))))))
 by_cases h10:10<n.ls.length
 ·refine .gtrT O O O (by omega) (.nil (.condT O (.sr (.an O O (.ret ?_)))))
  exact .plain [_] Tryz.results110 ⟨rfl,trivial⟩ ⟨e1,by unfold chkE;rw [if_neg (by omega),if_pos h10]<;>rfl⟩
 have hE:chkOk n->chkE n=0:=fun h=>by unfold chkE;rw [if_neg (by omega),if_neg h10,if_pos h]
 have hE1:¬ chkOk n->chkE n=1:=fun h=>by unfold chkE;rw [if_neg (by omega),if_neg h10,if_neg h]
 refine .gtrF O O O (by omega) (.nil (.condF O (.skip (.sr (.an O O (.sr ?_))))))
 refine .call _ O Ae4 O Ac6 fun va w2 e2 hF=>.an O O (.seq (.label ?_))
 have x2:=e1.trans e2
 have k1:=k1.ext e2
 refine .seq (.sr (.fa K8 O O (.ld Q8 O O k1 O (.lenR O9 O O (hs.ext x2) (.mv O O (.nil ?_))))))
 have hret:∀ {W:World} {σ:Env} {e:Int},Ext w W->chkE n=e->Leave Tryz.prog Tryz.f110 44 (fun v w'=>Ext w w'/\Is (.int .i64 (chkE n)) v w') ((2,.int .i64 e)::σ) [] W:=fun hW he=>.plain [_] Tryz.results110 ⟨rfl,trivial⟩ ⟨hW,by rw [he];rfl⟩
 refine .block (.loop (α:=Nat) (fun i=>[(1,.pointer (some ⟨b1,0,none⟩)),(3,.int .i64 0),(4,va),(23,s),(24,.int .i64 (n.ls.length:Nat)),(25,.int .i64 (i:Nat))]) (fun i W=>Ext w2 W/\i<=n.ls.length/\∀ j,j<i->∀ l,n.ls[j]?=some l->ckAll n.b l) (fun i=>n.ls.length-i) 0 ?_ ?_ ?_)
 ·exact lkA rfl
 ·exact ⟨Ext.refl _,Nat.zero_le _,fun j hj=>absurd hj (Nat.not_lt_zero _)⟩
 rintro i W ⟨hW,hi,hall⟩
 refine .sr ?_
 rcases Nat.lt_or_ge i n.ls.length with hlt | hge
 rotate_left
 ·refine .lssF O O O (by omega) (.nil (.seq (.condF O (.exit (.sr (.mv O O (.an O O ?_)))))))
  exact .ret (hret (x2.trans hW) (hE fun j hj l hl=>hall j (by omega) l hl))
 refine .lssT O O O (by omega) (.nil (.seq (.condT O (.skip (.seq (.block (.sr ?_)))))))
 have hy:n.ls[i]?=some n.ls[i]:=List.getElem?_eq_getElem hlt
 refine .ixN (i:=i) O9 S2 O O (hs.ext (x2.trans hW)) O hy fun p hp=>.ldE (E:=eL) S2 O O hp fun vl hl=>?_
 refine .alloc O Ab2 fun W1 b6 n1=>?_
 obtain ⟨f1,k6,hb6,hs1'⟩:=n1
 refine .storeA (E:=eL) (S:=fun k=>k≠b6) (z:=n.ls[i]) S2 O O k6 O O hl (fun h=>h O) fun W2 k6 u6 hl6=>.nil ?_
 have f2:Ext W W2:=u6.below f1 (by omega)
 have hW2:=hW.trans f2
 have hvl:=shpA (E:=eL) O hl6
 refine .sr (.mv O O (.lenR un_Cs O O (ER.ext eFs hF hW2) (.mv O O (.nil ?_))))
 refine .block (.loop (α:=Nat) (fun j=>[(1,.pointer (some ⟨b1,0,none⟩)),(3,.int .i64 0),(4,va),(23,s),(24,.int .i64 (n.ls.length:Nat)),(25,.int .i64 (i:Nat)),(6,.pointer (some ⟨b6,0,none⟩)),(29,va),(30,.int .i64 5),(31,.int .i64 (j:Nat))]) (fun j W'=>Ext W2 W'/\j<=5/\∀ c,c<j->ck c n.b n.ls[i]=true) (fun j=>5-j) 0 ?_ ?_ ?_)
 ·exact lkA rfl
 ·exact ⟨Ext.refl _,Nat.zero_le _,fun j hj=>absurd hj (Nat.not_lt_zero _)⟩
 rintro j W3 ⟨hW3,hj,hck⟩
 refine .sr ?_
 rcases Nat.lt_or_ge j 5 with hjl | hge
 rotate_left
 ·refine .lssF O O O (by omega) (.nil (.seq (.condF O (.exit ?_))))
  have:j=5:=by omega
  subst this
  have hc:ckAll n.b n.ls[i]:=hck
  refine .region (.add O O O (.mv O O (.nil ?_)))
  rw [wI (by omega)]
  refine ⟨rfl,i+1,lkA rfl,⟨hW2.trans hW3,hlt,fun j' hj' l' hl'=>?_⟩,by show n.ls.length-(i+1)<n.ls.length-i;omega⟩
  by_cases e:j'=i
  ·rw [e,hy] at hl';cases hl';exact hc
  ·exact hall j' (by omega) l' hl'
 refine .lssT O O O (by omega) (.nil (.seq (.condT O (.skip (.seq (.block (.sr ?_)))))))
 obtain ⟨f,hf⟩:∃ f,ckFs[j]?=some f:=⟨_,List.getElem?_eq_getElem (by exact hjl)⟩
 refine .ixN (i:=j) un_Cs Az7 O O (ER.ext eFs hF (hW2.trans hW3)) O hf fun p hp=>.ldE (E:=eF) Az7 O O hp fun vf hvf=>?_
 replace hvf:vf=.agg #[.func (.func f) #[] #[]]:=hvf
 subst hvf
 refine .alloc O zero_Ck fun W4 b8 n4=>?_
 obtain ⟨f4,k8,hb8,hs4⟩:=n4
 refine .store Az7 O O k8 O (by simp [Value.cells]) (by simp [one1,Value.cells]) fun W5 k8 u5=>.nil ?_
 have f5:Ext W3 W5:=u5.below f4 (by omega)
 have hW5:=hW3.trans f5
 have xW5:=x2.trans (hW2.trans hW5)
 obtain ⟨hEf,hcf⟩:=ckFs_c (hn.ext xW5) (ER.ext eL (S:=fun k=>k≠b6) hl6 hW5) hf
 refine .sr (.fa fld_Ck0 O O (.ld ty_FCk O O k8 O (.ldA ty_N O O (k1.ext (hW2.trans hW5)) O (.ldA S2 O O (k6.ext hW5) (eL.csz hl6) ?_))))
 rw [<-hvl]
 refine .callv [_,_] O O hEf O hcf fun v6 W6 e6 h6=>?_
 subst h6
 by_cases hc:ck j n.b n.ls[i]=true
 ·rw [hc]
  refine .not_ O O (.nil (.condF O (.skip (.region (.add O O O (.mv O O (.nil ?_)))))))
  rw [wI (by omega)]
  refine ⟨rfl,j+1,lkA rfl,⟨hW5.trans e6,hjl,fun c hc'=>?_⟩,by show 5-(j+1)<5-j;omega⟩
  by_cases e:c=j
  ·subst e;exact hc
  ·exact hck c (by omega)
 ·rw [Bool.not_eq_true] at hc
  rw [hc]
  refine .not_ O O (.nil (.condT O (.sr (.an O O (.exit (.sr (.mv O O (.an O O ?_))))))))
  refine .ret (hret (xW5.trans e6) (hE1 fun h=>?_))
  have:=h i hlt _ hy j hjl
  rw [hc] at this
  cases this
end Go.Proofs.YtggegpiffjbngaaGreat
namespace Go.Kx
open Go Go.RowKit
section
variable {P:Program} {ro:Option Nat} {N:Nat} {Q:Pst} {σ:Env} {ds:List Deferred} {w:World}
end
section
variable {P:Program} {ro:Option Nat} {N:Nat} {ds:List Deferred} {ops:Array Oper} {K:Env->World->Prop} {rest:List Oper} {σ:Env} {w:World} {d:Tmp} {ty:TypeId} {pos:String} {af:Array Edge}
theorem RL.first {α:Type} {E:ER α} {hsz:0<E.sz} {S:Nat->Prop} {a:Option Addr} {n c H c':Nat} {l:List α} (h:(RL E hsz).R S w (.slice a n c) l) (hH:H<=l.length) (hc:H<=c'):(RL E hsz).R S w (.slice a H c') (l.take H):=by
 have h1:=RL.sub h O 0 H (Nat.zero_le _) hH
 obtain ⟨es,he,a',c'',hv,h3,h4,h5,h6⟩:=h1
 have hl:((l.take H).drop 0).length=H:=by simp;omega
 rw [List.drop_zero] at *
 refine ⟨es,he,a,c',by rw [show (l.take H).length=H by simp;omega],by rw [show (l.take H).length=H by simp;omega];exact hc,h4,h5,fun hn=>?_⟩
 obtain ⟨ad,ha,hS,hcl⟩:=h6 hn
 refine ⟨ad,?_,hS,hcl⟩
 simp only [Nat.sub_zero,Nat.zero_mul] at hv
 injection hv with e1 e2 e3
 rw [<-ha,<-e1]
 obtain ⟨_,_,_,hv2,hcc,_⟩:=h
 split
 ·rfl
 ·cases a with
  | none=>rfl
  | some x=>rfl
end
def FBx (t:TypeId) (S:Nat->Prop) (w:World) (gb h i:Nat) (hv:Value) (l:List (List QV)):Prop :=
 ∃ es,Blk w gb t (cellsOf es).toArray/\es.length=l.length/\(∀ e∈es,e.cells.size=1)/\es[i]?=some hv/\∀ (j:Nat) (e:Value) (x:List QV),j≠i->es[j]?=some e->l[j]?=some x->eV.R (fun k=>(S k/\k≠gb)/\k≠h) w e x
section
variable {t:TypeId} {S:Nat->Prop} {w w':World} {gb h i:Nat} {hv:Value} {l:List (List QV)}
theorem FBx.keep (hF:FBx t S w gb h i hv l) (hk:Kp (fun k=>k≠h) w w') (hg:gb≠h):FBx t S w' gb h i hv l:=by
 obtain ⟨es,h1,h2,h3,h4,h5⟩:=hF
 exact ⟨es,hk.blk hg h1,h2,h3,h4,fun j e x hj he hx=>eV.keep (fun k c t f hh hc=>hk k c t f hh.2 hc) (h5 j e x hj he hx)⟩
theorem FBx.ptr (hF:FBx t S w gb h i hv l) (h1:hv.cells=#[hv]):w.cell? ⟨gb,0+i*1,none⟩=some hv:=by
 obtain ⟨es,hb,h2,h3,h4,h5⟩:=hF
 have:=C3 es i 0 hv h3 h4 (by decide)
 rw [hb.cell,List.getElem?_toArray,show 0+i*1=i*1+0 by omega,this,h1];rfl
theorem FBx.done {r:List QV} (hF:FBx t S w gb h i hv l) (hr:eV.R (fun k=>S k/\k≠gb) w hv r):FB eV t S w gb (l.set i r):=by
 obtain ⟨es,h1,h2,h3,h4,h5⟩:=hF
 refine ⟨es,h1,by simp [h2],fun j e x he hx=>?_⟩
 by_cases hj:j=i
 ·subst hj
  rw [h4] at he;cases he
  rw [List.getElem?_set_self (by rw [<-h2];exact (List.getElem?_eq_some_iff.1 h4).1)] at hx
  cases hx;exact hr
 ·rw [List.getElem?_set_ne (fun e=>hj e.symm)] at hx
  exact eV.mono (fun k _ hk=>hk.1) (h5 j e x hj he hx)
theorem FBx.start {P:Program} {σ:Env} {ty:TypeId} {pos:String} {af:Array Edge} {dd:Option Tmp} {gd:Option (Nat×Bool)} {tt:TypeId} {x y:Operand} {w1:World} {tq:TypeId} {cs:Array Value} {n c:Nat} (ht:tyOf P tt=some (false,1)) (hF:FB eV t S w gb l) (hn:New w w1 h tq cs) (hi:i<l.length)
  (hx:ev σ x=some (.pointer (some ⟨gb,0+i*1,none⟩))) (hy:ev σ y=some (.slice (some ⟨h,0,none⟩) n c)) :
  Gv P ⟨dd,.store tt x y,ty,pos,af,gd⟩ σ w1 fun _ w'=>FBx t S w' gb h i (.slice (some ⟨h,0,none⟩) n c) l/\Upd w1 w' gb/\Blk w' h tq cs/\gb≠h:=by
 obtain ⟨e1,k1,hh,hs⟩:=hn
 have hlt:=hF.lt
 obtain ⟨es,hb,hels⟩:=hF
 have hesz:=hels.sz
 have hle:i*1+1<=(cellsOf es).toArray.size:=by
  rw [List.size_toArray,B2 es hesz,hels.1];show i*1+1<=l.length*1;omega
 refine (I9 (n:=1) ht (by rw [hx,Nat.zero_add]) hy (hb.ext e1) O hle (by simp [one1,Value.cells])).mono ?_
 rintro _ w2 ⟨hB',u⟩
 have hset:=S5 (sz:=1) (by decide) es i (.slice (some ⟨h,0,none⟩) n c) hesz O (by rw [hels.1];exact hi)
 have hne:gb≠h:=by omega
 rw [hset] at hB'
 refine ⟨⟨es.set i (.slice (some ⟨h,0,none⟩) n c),hB',by simp [hels.1],fun e he=>?_,?_,fun j e x hj he hx'=>?_⟩,u,k1.upd u (fun e=>hne e.symm),hne⟩
 ·rcases List.mem_or_eq_of_mem_set he with h' | h'
  ·exact hesz e h'
  ·rw [h'];rfl
 ·rw [List.getElem?_set_self (by rw [hels.1];exact hi)]
 ·rw [List.getElem?_set_ne (fun e=>hj e.symm)] at he
  have h1:=ER.lt eV (hels.2 j e x he hx')
  have h2:=(ER.ext eV h1 e1).upd u (fun hh=>hh.1.2 O)
  exact eV.mono (fun k _ hk=>⟨hk.1,by have:=hk.2;omega⟩) h2
end
def redF (m:List (List QV)):RM:=(elim m.length (rm m) (colsOf m)).1
def redP (m:List (List QV)):List Nat:=(elim m.length (rm m) (colsOf m)).2
theorem Ac3 (m:List (List QV)):Ech m.length (colsOf m) (redF m) (redP m):=P4 _ _ _
end Go.Kx
namespace Go.Proofs.YtggegpiffjbngaaGreat
open Go Go.Kx Go.RowKit
theorem E_ign1:Ent Tryz.prog 191:=A0 Tryz.func191 (by kernel_rfl) rfl
theorem E_ign2:Ent Tryz.prog 192:=A0 Tryz.func192 (by kernel_rfl) rfl
theorem evs_ign {M:Nat} {S0:Nat->Prop}:Evs Tryz.prog 191 192 #[] #[] M S0 (fun _=>False) (fun _ _ _ _=>True) where
 entE:=E_ign1
 entS:=E_ign2
 mono:=fun _ _=>trivial
 chg:=fun _ _=>trivial
 exch:=fun {Z j d W} _ _=>by
  refine enterG Tryz.func191 O Tryz.ntmps191 O ?_
  exact .skip (.plain [] Tryz.results191 trivial ⟨Chg.refl _,trivial⟩)
 scal:=fun {Z j d W v q} _ _ _ _ _=>by
  refine enterG Tryz.func192 O Tryz.ntmps192 O ?_
  refine .region (.box O O fun w1 b1 n1=>.nil ?_)
  exact .plain [] Tryz.results192 trivial ⟨Chg.ext n1.1,trivial⟩
theorem ty_I:tyOf Tryz.prog 25=some (false,1):=by kernel_rfl
end Go.Proofs.YtggegpiffjbngaaGreat
namespace Go.Kx
open Go Go.RowKit
end Go.Kx
namespace Go.Proofs.YtggegpiffjbngaaGreat
open Go Go.Kx Go.RowKit
end Go.Proofs.YtggegpiffjbngaaGreat
namespace Go.Kx
open Go Go.RowKit
theorem Ab1 (n c:Nat) (f:RM):colsOf (tabM n c f)=if n=0 then 0 else c:=by
 by_cases h0:n=0
 ·subst h0;rfl
 ·rw [if_neg h0]
  refine Nat.le_antisymm (Ax0 fun r hr=>?_) ?_
  ·obtain ⟨i,_,rfl⟩:=List.mem_map.1 hr
   rw [A5];exact Nat.le_refl _
  ·have:=Ao5 (m:=tabM n c f) (r:=tab c (f 0)) (List.mem_map.2 ⟨0,List.mem_range.2 (by omega),rfl⟩)
   rwa [A5] at this
end Go.Kx
namespace Go.Proofs.YtggegpiffjbngaaGreat
open Go Go.Kx Go.RowKit
theorem F9 {p:List Nat} {j:Nat} (h:j<p.length):p.getD j 0∈p:=List.mem_iff_getElem?.2 ⟨j,A8 h⟩
end Go.Proofs.YtggegpiffjbngaaGreat
namespace Go.Kx
open Go Go.RowKit
def freeTo (p:List Nat) (i:Nat):List Nat:=(List.range i).filter fun k => !(decide (k∈p))
def freeC (m:List (List QV)):List Nat:=freeTo (redP m) (colsOf m)
def nullM (m:List (List QV)):List (List QV):=(freeC m).map fun k=>tab (colsOf m) (nv (redF m) (redP m) k)
end Go.Kx
namespace Go.Proofs.YtggegpiffjbngaaGreat
open Go Go.Kx Go.RowKit
end Go.Proofs.YtggegpiffjbngaaGreat
namespace Go.Kx
open Go Go.RowKit
def invF (m:List (List QV)):RM:=fun i k=>if k<m.length then rm m i k else idR i (k-m.length)
def invE (m:List (List QV)):RM×List Nat:=elim m.length (invF m) m.length
def invM (m:List (List QV)):List (List QV):=tabM m.length m.length fun i k=>(invE m).1 i (m.length+k)
abbrev invertible (m:List (List QV)):Prop:=¬ (invE m).2.length<m.length
theorem BA3 (n c:Nat) (f:Nat->Rat):(tab (n+c) f).drop n=tab c fun k=>f (n+k):=by
 apply List.ext_getElem?
 intro j
 rw [List.getElem?_drop]
 by_cases h:j<c
 ·rw [I0 (by omega),I0 h]
 ·rw [List.getElem?_eq_none (by rw [A5];omega),List.getElem?_eq_none (by rw [A5];omega)]
end Go.Kx
namespace Go.Proofs.YtggegpiffjbngaaGreat
open Go Go.Kx Go.RowKit
theorem AS5:Ent Tryz.prog 72:=A0 Tryz.func72 (by kernel_rfl) rfl
theorem AR7 {S:Nat->Prop} {w:World} {vm:Value} {m:List (List QV)} {L n:Nat} (up:Up S w) (hm:eM.R S w vm m) (hkm:mk_ L m) (hL:1<=L) (hr:m.length<=n) (hc:colsOf m<=90) (hn:n<=100) (hbd:bd L n<=40000000) :
  CR Tryz.prog 72 #[vm] w (Two (eM.at S (if colsOf m=m.length/\invertible m then invM m else [])) (Is (.int .i64 (if colsOf m=m.length then (if invertible m then 0 else 8) else 13)))):=by
 have hL2:L<=40000000:=Nat.le_trans (AL4 L (Nat.zero_le n)) hbd
 have hm0:=ER.lt eM hm
 have hMW:∀ {W:World},Below w.heap.size w W->eM.R S W vm m:=fun hB=>eM.mono (fun k _ hk=>hk.1) (eM.keep (fun k c t f hk h=>(hB.block k hk.2).trans h) hm0)
 generalize hRp:Two (eM.at S (if colsOf m=m.length/\invertible m then invM m else [])) (Is (.int .i64 (if colsOf m=m.length then (if invertible m then 0 else 8) else 13)))=Rp
 obtain ⟨N,hN⟩:∃ N,m.length=N:=⟨_,rfl⟩
 rw [hN] at hr
 generalize hG:(fun i=>tab N (idR i))=G
 refine enter Tryz.func72 O Tryz.ntmps72 O ?_
 refine .sr (.asg O O (.an O O (.sr (.mv O O (.lenR un_M O O hm ?_)))))
 rw [hN]
 refine .an O O (.seq (.sr (.mv O O ?_)))
 refine .call _ O AI8 O (AH8 hm) fun v0 w0 e0 h0=>?_
 subst h0
 refine .mv O O ?_
 by_cases hsq:colsOf m=N
 rotate_left
 ·refine .neqT rfl rfl rfl (by intro e;exact hsq (by omega)) (.nil (.condT rfl (.sr (.asg rfl rfl (.an rfl rfl (.ret ?_))))))
  refine .plain [_,_] Tryz.results72 ⟨rfl,rfl,trivial⟩ ⟨e0,?_⟩
  rw [<-hRp]
  refine ⟨_,_,rfl,?_,?_⟩
  ·rw [if_neg (fun h=>hsq (h.1.trans hN))];exact RL.nil
  ·show _=_
   rw [if_neg (fun h=>hsq (h.trans hN))]
 have hsq':colsOf m=m.length:=hsq.trans hN.symm
 refine .neqF O O O (by rw [hsq]) (.nil (.condF O (.skip (.sr (.mv O O ?_)))))
 refine .make_ _ _ un_M Ad2 O (by decide) O O O (Nat.le_refl _) (by omega) (by omega) fun w1 gu n1=>.an O O ?_
 have f1:FB eV 32 S w1 gu (List.replicate N []):=FB.made n1 RL.nil
 obtain ⟨e1,_,hgu,hs1⟩:=n1
 have x1:=e0.trans e1
 have hs0:=e0.size
 refine .mid (α:=Unit) (fun _=>[(0,vm),(4,.int .i64 (N:Nat)),(5,.slice (some ⟨gu,0,none⟩) N N)]) (fun _ W=>Below w.heap.size w W/\FB eV 32 S W gu ((List.range N).map G)) ?_ ?_
 ·refine .sr (.mv O O (.len un_M O O (.mv O O (.nil ?_))))
  refine .block (.loop (α:=Nat) (fun i=>[(0,vm),(4,.int .i64 (N:Nat)),(5,.slice (some ⟨gu,0,none⟩) N N),(19,.int .i64 (N:Nat)),(20,.int .i64 (i:Nat))])
   (fun i W=>Below w.heap.size w W/\i<=N/\FB eV 32 S W gu (fil N i G [])) (fun i=>N-i) 0 ?_ ?_ ?_)
  ·exact lkA rfl
  ·exact ⟨x1,Nat.zero_le _,by rw [X5];exact f1⟩
  ·rintro i W ⟨hB,hi,hF⟩
   have hsz:=hB.size
   have hgl:=hF.lt
   rcases Nat.lt_or_ge i N with hlt | hge
   rotate_left
   ·refine .sr (.lssF O O O (by omega) (.nil (.seq (.condF O (.exit ?_)))))
    have:i=N:=by omega
    subst this
    rw [AE8] at hF
    exact ⟨rfl,(),lkA rfl,hB,hF⟩
   refine .sr (.lssT O O O (by omega) (.nil (.seq (.condT O (.skip (.seq (.block (.sr (.mv O O (.an O O (.sr (.mv O O (.mv O O (.mv O O ?_))))))))))))))
   refine .make_ _ _ un_V Z3 O (by decide) O O O (Nat.le_refl _) (by omega) (by omega) fun W1 h n2=>?_
   have hn2:=n2
   have fh:FB eQ 54 (fun k=>S k/\k≠gu) W1 h (List.replicate N q0):=FB.made n2 zq_R
   obtain ⟨e2,k2,hh,hs2⟩:=n2
   refine .ixB (i:=i) un_M ty_V O O O hlt ?_
   refine .gv O O (FBx.start (i:=i) ty_V hF hn2 (by rw [K9];exact hlt) O O) ?_
   rintro _ W2 ⟨hx2,u2,kh2,hne⟩
   refine .nil ?_
   have hB2:Below w.heap.size w W2:=u2.below (hB.trans (e2.mono hsz)) (by omega)
   have hs2':=u2.size
   have fh2:=fh.upd u2 (fun e=>hne e.symm) (fun hh'=>hh'.2 O)
   refine .par follows 6 [.inl _,.inl (.int .i64 (i:Nat)),.inl _,.inl (.slice (some ⟨h,0,none⟩) N N),.inl (.int .i64 (i:Nat)),.inr (eQ.at (fun k=>(S k/\k≠gu)/\k≠h) (qc ((1:Int):Rat)))]
    [[],[],[(28,0),(29,1)],[(30,2)],[],[]] (by kernel_rfl) ⟨
    fun w e=>(v_mv O).ob,fun w e=>(v_mv O).ob,fun w e=>(E6 (i:=i) un_M ty_V O O hlt).ob,
    fun w e=>(Aq6 ty_V O ((hx2.keep (Kp.ext e) hne).ptr O)).ob,
    fun w e=>(v_mv O).ob,
    fun w e=>(A1 _ H6 O (H5 (fun k hk=>⟨⟨up k (by have:=e.size;omega),by have:=e.size;omega⟩,by have:=e.size;omega⟩) (by decide) (by decide))).ob (A6 _ _ _),trivial⟩ ?_
   intro W3 e3 x5 h5
   refine .ixB (i:=i) un_V ty_Q O O O hlt ?_
   refine .storeF (E:=eQ) (i:=i) (by decide) ty_Q O O (fh2.ext e3) O (by simp;exact hlt) (Nat.zero_add _) h5 fun W4 f4 u4=>.nil ?_
   have hunit:(List.replicate N q0).set i (qc ((1:Int):Rat))=G i:=by
    have h0:List.replicate N q0=tab N fun _=>0:=by
     unfold tab;simp only [AK3];rw [List.map_const',List.length_range]
    rw [h0,Ab6,<-hG]
    refine L0 fun k _=>?_
    unfold idR
    by_cases e:k=i
    ·rw [if_pos e,if_pos e.symm];simp
    ·rw [if_neg e,if_neg (fun e2=>e e2.symm)]
   rw [hunit] at f4
   refine .region (.add O O O (.mv O O (.nil ?_)))
   rw [wI (by omega)]
   have hx4:=(hx2.keep (Kp.ext e3) hne).keep (Kp.upd u4 (fun hc=>hc O)) hne
   have hrow:eV.R (fun k=>S k/\k≠gu) W4 (.slice (some ⟨h,0,none⟩) N N) (G i):=by
    have hGl:(G i).length=N:=by rw [<-hG];exact A5 ..
    have:=f4.toR (c:=N) (hsz:=by decide) ⟨up h (by omega),by omega⟩ (by rw [hGl];exact Nat.le_refl _) (by rw [hGl];omega)
    rwa [hGl] at this
   have hF4:=hx4.done hrow
   rw [Z6] at hF4
   exact ⟨rfl,i+1,lkA rfl,⟨u4.below (hB2.trans (e3.mono hB2.size)) (by omega),hlt,hF4⟩,by show N-(i+1)<N-i;omega⟩
 rintro _ W ⟨hB,hF⟩
 have hsz:=hB.size
 have hU:(List.range N).map G=tabM N N idR:=by rw [<-hG];rfl
 rw [hU] at hF
 have hR:=hF.toR (c:=N) (hsz:=by decide) (up gu (by omega)) (by rw [A4];exact Nat.le_refl _) (by rw [A4];omega)
 rw [A4] at hR
 have hcU:colsOf (tabM N N idR)=N:=by rw [Ab1];split<;>omega
 have hkU:mk_ L (tabM N N idR):=Ac7 fun i k _ _=>by
  unfold idR
  split
  ·have:=Rsz.int 1 (L:=L) (Nat.lt_of_lt_of_le (by decide) (Nat.pow_le_pow_right (by decide) hL)) hL
   simpa using this
  ·exact Rsz.zero hL
 have upW:=up.ext hsz
 refine .sr (.mv O O (.mv O O ?_))
 refine .call _ O Ae6 O (AY8 (L:=L) upW (hMW hB) hR hkm hkU hL (by omega) (by omega) (by rw [A4];omega) (by omega) (by rw [hcU];omega)) fun v2 w2 e2 h2=>.an O O ?_
 rw [hN,A4,Nat.max_self,hsq,hcU] at h2
 obtain ⟨gb,rfl,hgb,hF2⟩:=h2
 have hcat:tabM N (N+N) (catM m (tabM N N idR))=tabM N (N+N) (invF m):=D6 fun i k hi hk=>by
  unfold catM invF
  rw [hsq,hN]
  by_cases h:k<N
  ·rw [if_pos h,if_pos h]
  ·rw [if_neg h,if_neg h,Ac1,if_pos ⟨hi,by omega⟩]
 rw [hcat] at hF2
 have x2:=hB.trans (e2.mono hsz)
 have hgl2:=hF2.lt
 have hs2:=e2.size
 refine .seq (.sr (.mv O O (.mv O O ?_)))
 refine .call _ O AS4 O AR6 fun v3 w3 e3 h3=>?_
 subst h3
 have hs3:=e3.size
 have hszF:∀ i k,i<N->k<N+N->Rsz (invF m i k) L:=fun i k _ _=>by
  unfold invF
  split
  ·exact hkm.rsz hL i k
  ·unfold idR
   split
   ·have:=Rsz.int 1 (L:=L) (Nat.lt_of_lt_of_le (by decide) (Nat.pow_le_pow_right (by decide) hL)) hL
    simpa using this
   ·exact Rsz.zero hL
 have hcall:=AJ7 (X:=fun _=>False) (cols:=N) (cap:=N) (L:=L) (M:=40000000) (upW.ext (by omega)) (hF2.ext e3) (Nat.le_refl _) (by omega) (by omega) (by omega) hL hszF (Nat.le_trans (AL4 L (by omega)) hbd) (Nat.le_refl _) (up gb (by omega)) (fun _ h=>h.elim) evs_ign trivial
 refine .callG _ O AL5 O hcall ?_
 rintro v4 w4 ⟨c4,h4,f4,-⟩
 have x3:=x2.trans (e3.mono (by omega))
 have x4:Ext w w4:=c4.below x3 (by omega) (fun k hk=>by rcases hk with rfl | hk;omega;exact hk.elim)
 have hs4:=c4.size
 refine .lenR un_I O O h4 (.mv O O ?_)
 have hE:elim N (invF m) N=invE m:=by unfold invE;rw [hN]
 rw [hE] at f4
 rw [show (pInts (elim N (invF m) N).2).length=(invE m).2.length by rw [hE];simp]
 by_cases hinv:(invE m).2.length<N
 ·refine .lssT O O O (by omega) (.nil (.condT O (.sr (.asg O O (.an O O (.ret ?_))))))
  refine .plain [_,_] Tryz.results72 ⟨rfl,rfl,trivial⟩ ⟨x4,?_⟩
  rw [<-hRp]
  refine ⟨_,_,rfl,?_,?_⟩
  ·rw [if_neg (fun h=>h.2 (hN.symm▸hinv))];exact RL.nil
  ·show _=_
   rw [if_pos hsq',if_neg (fun h=>h (hN.symm▸hinv))]
 refine .lssF O O O (by omega) (.nil (.condF O (.skip ?_)))
 generalize hR2:(fun i=>tab N fun k=>(invE m).1 i (N+k))=R2
 refine .mid (α:=Unit) (fun _=>[(7,.slice (some ⟨gb,0,none⟩) N N)]) (fun _ W=>Below w.heap.size w W/\FB eV 32 S W gb ((List.range N).map R2)) ?_ ?_
 ·refine .sr (.mv O O (.len un_M O O (.mv O O (.nil ?_))))
  refine .block (.loop (α:=Nat) (fun i=>[(4,.int .i64 (N:Nat)),(7,.slice (some ⟨gb,0,none⟩) N N),(46,.slice (some ⟨gb,0,none⟩) N N),(47,.int .i64 (N:Nat)),(48,.int .i64 (i:Nat))])
   (fun i W=>Below w.heap.size w W/\i<=N/\FB eV 32 S W gb ((List.range N).map fun j=>if j<i then R2 j else tab (N+N) ((invE m).1 j))) (fun i=>N-i) 0 ?_ ?_ ?_)
  ·exact lkA rfl
  ·exact ⟨x4,Nat.zero_le _,by simpa [tabM] using f4⟩
  ·rintro i W ⟨hB,hi,hF⟩
   have hsz:=hB.size
   rcases Nat.lt_or_ge i N with hlt | hge
   rotate_left
   ·refine .sr (.lssF O O O (by omega) (.nil (.seq (.condF O (.exit ?_)))))
    have:i=N:=by omega
    subst this
    have he:(List.range i).map (fun j=>if j<i then R2 j else tab (i+i) ((invE m).1 j))=(List.range i).map R2:=List.map_congr_left fun j hj=>by rw [if_pos (List.mem_range.1 hj)]
    rw [he] at hF
    exact ⟨rfl,(),lkA rfl,hB,hF⟩
   refine .sr (.lssT O O O (by omega) (.nil (.seq (.condT O (.skip (.seq (.block (.sr (.mv O O (.ixB (i:=i) un_M ty_V O O O hlt ?_))))))))))
   have hrow:((List.range N).map fun j=>if j<i then R2 j else tab (N+N) ((invE m).1 j))[i]?=some (tab (N+N) ((invE m).1 i)):=by
    rw [List.getElem?_map,List.getElem?_range hlt];simp
   refine .ldF (E:=eV) (i:=i) (by decide) ty_V O O (Nat.zero_add _) hF hrow fun er her=>.asg O O (.an O O (.region (.mv O O (.mv O O (.mv O O (.mv O O ?_))))))
   refine .gv O O (g_cut (E:=eQ) (hsz:=by decide) (some _) none N (N+N) un_V ty_Q O her ⟨.i64,rfl⟩ (A5 _ _).symm (by omega) (by rw [A5];exact Nat.le_refl _)) ?_
   rintro v5 _ ⟨rfl,h5⟩
   rw [List.take_of_length_le (by rw [A5];exact Nat.le_refl _),BA3] at h5
   refine .ixB (i:=i) un_M ty_V O O O hlt ?_
   refine .storeF (E:=eV) (i:=i) (by decide) ty_V O O hF O (by simp;exact hlt) (Nat.zero_add _) h5 fun W3 f3 u3=>.nil ?_
   refine .region (.add O O O (.mv O O (.nil ?_)))
   rw [wI (by omega)]
   refine ⟨rfl,i+1,lkA rfl,⟨u3.below hB (by omega),hlt,?_⟩,by show N-(i+1)<N-i;omega⟩
   have he:((List.range N).map fun j=>if j<i then R2 j else tab (N+N) ((invE m).1 j)).set i (tab N fun k=>(invE m).1 i (N+k))=(List.range N).map fun j=>if j<i+1 then R2 j else tab (N+N) ((invE m).1 j):=by
    apply List.ext_getElem?
    intro j
    rw [List.getElem?_set]
    by_cases e:i=j
    ·subst e
     simp [hlt,<-hR2]
    ·rw [if_neg e,List.getElem?_map,List.getElem?_map]
     by_cases hj:j<N
     ·simp only [List.getElem?_range hj,Option.map_some]
      by_cases h1:j<i
      ·rw [if_pos h1,if_pos (by omega)]
      ·rw [if_neg h1,if_neg (by omega)]
     ·rw [List.getElem?_eq_none (by simpa using hj)];rfl
   rw [he] at f3
   exact f3
 ·rintro _ W ⟨hB,hF⟩
  have hsz:=hB.size
  refine .sr (.mv O O (.asg O O (.an O O (.ret ?_))))
  have hI:(List.range N).map R2=invM m:=by unfold invM;rw [hN,<-hR2];rfl
  rw [hI] at hF
  have hl:(invM m).length=N:=by unfold invM;rw [A4,hN]
  have:=hF.toR (c:=N) (hsz:=by decide) (up gb (by omega)) (by rw [hl];exact Nat.le_refl _) (by rw [hl];omega)
  rw [hl] at this
  refine .plain [_,_] Tryz.results72 ⟨rfl,rfl,trivial⟩ ⟨hB,?_⟩
  rw [<-hRp]
  refine ⟨_,_,rfl,?_,?_⟩
  ·rw [if_pos ⟨hsq',fun h=>hinv (hN▸h)⟩];exact this
  ·show _=_
   rw [if_pos hsq',if_pos (fun h=>hinv (hN▸h))]
end Go.Proofs.YtggegpiffjbngaaGreat
namespace Go.Kx
section
variable {n N C CA:Nat} {g A:RM} {p:List Nat}
end
theorem BD9 {n:Nat} {f:RM}:∀ c,elimD n f c≠0
 | 0=>by show (1:Rat)≠0;decide
 | c+1=>by
  have ih:=BD9 (n:=n) (f:=f) c
  have e2:elimD n f (c+1)=estepD n c (elim n f c) (elimD n f c):=rfl
  rw [e2]
  unfold estepD
  split
  ·exact ih
  ·rename_i r hr
   obtain ⟨_,_,h3,_⟩:=J4 hr
   refine fun h=>?_
   rcases Rat.mul_eq_zero.1 h with h | h
   ·split at h
    ·exact ih h
    ·exact ih (by grind)
   ·exact h3 h
theorem Ech.nodup {n c:Nat} {g:RM} {p:List Nat} (h:Ech n c g p):p.Nodup:=by
 rw [List.nodup_iff_pairwise_ne,List.pairwise_iff_getElem]
 intro i j hi hj hij
 have:=h.mono hij hj
 rw [List.getD_eq_getElem?_getD,List.getD_eq_getElem?_getD,List.getElem?_eq_getElem hi,List.getElem?_eq_getElem hj] at this
 simp at this
 omega
theorem AV8 {p:List Nat} (hn:p.Nodup):∀ i,(freeTo p i).length+p.countP (fun k=>decide (k<i))=i
 | 0=>by unfold freeTo;simp
 | i+1=>by
  have ih:=AV8 hn i
  have h1:(freeTo p (i+1)).length=(freeTo p i).length+if i∈p then 0 else 1:=by
   unfold freeTo
   rw [List.range_succ,List.filter_append,List.length_append]
   by_cases h:i∈p<;>simp [h]
  have h2:p.countP (fun k=>decide (k<i+1))=p.countP (fun k=>decide (k<i))+if i∈p then 1 else 0:=by
   clear ih h1
   induction p with
   | nil=>simp
   | cons x p ihp =>
    have hx:=List.nodup_cons.1 hn
    rw [List.countP_cons,List.countP_cons,ihp hx.2]
    by_cases e:x=i
    ·subst e
     simp [hx.1]
    ·have h3:(i∈x::p)<->i∈p:=by simp [show ¬ i=x from fun h=>e h.symm]
     simp only [h3]
     by_cases h4:x<i
     ·simp [h4,show x<i+1 by omega];omega
     ·simp [h4,show ¬ x<i+1 by omega]
  rw [h1,h2]
  by_cases h:i∈p
  ·simp only [h,if_true];omega
  ·simp only [h,if_false];omega
theorem Ech.free_len {n C:Nat} {g:RM} {p:List Nat} (h:Ech n C g p):(freeTo p C).length+p.length=C:=by
 have:=AV8 h.nodup C
 have h1:p.countP (fun k=>decide (k<C))=p.length:=by
  rw [List.countP_eq_length]
  intro k hk
  obtain ⟨j,hj⟩:=List.mem_iff_getElem?.1 hk
  have hl:j<p.length:=(List.getElem?_eq_some_iff.1 hj).1
  have:=h.lt j hl
  rw [List.getD_eq_getElem?_getD,hj] at this
  simpa using this
 omega
open Go Go.RowKit
abbrev iv (n:Int):Value:=.int .i64 n
end Go.Kx
namespace Go.Proofs.YtggegpiffjbngaaGreat
open Go Go.Kx Go.RowKit
theorem Ad9 {x y z:Int}:bslOf Tryz.prog 127 3 [(0,.int .i64 x),(1,.int .i64 y),(2,.int .i64 z)]=some (2,#[.int .i64 x,.int .i64 y,.int .i64 z]):=by kernel_rfl
theorem Ad5 {S:Nat->Prop} {w w':World} {b:Nat} {t:TypeId} {cs:Array Value} (l:List Int) (n:Nat) (hn:New w w' b t cs) (up:Up S w) (hcs:cs=(l.map iv).toArray) (hl:l.length=n) (hd:∀ x∈l,-9223372036854775808<=x/\x<=9223372036854775807) (hm:n<=1000) :
  eI.R S w' (.slice (some ⟨b,0,none⟩) n n) l:=by
 subst hl
 refine RL.ofBlk (es:=l.map iv) hn.2.1 (up b (by have:=hn.2.2.1;omega)) ⟨by simp,fun i e x he hx=>?_⟩ (fun j u hu=>?_) (Nat.le_refl _) (by omega)
 ·rw [List.getElem?_map,hx] at he
  simp at he
  have:=hd x (List.mem_iff_getElem?.2 ⟨i,hx⟩)
  exact ⟨he.symm,this.1,this.2⟩
 ·rw [E9 iv (fun _=>rfl)] at hu
  rw [hcs];simpa using hu
end Go.Proofs.YtggegpiffjbngaaGreat
namespace Go.Kx
open Go Go.RowKit
section
variable {P:Program} {σ:Env} {w:World} {d:Option Tmp} {ty:TypeId} {pos:String} {af:Array Edge} {g:Option (Nat×Bool)}
theorem v_faP {s:TypeId} {x:Operand} {i off:Nat} {p:Addr} (hf:fldOf P s i=some off) (hx:ev σ x=some (.pointer (some p))):Vl P ⟨d,.fieldAddr s x i,ty,pos,af,g⟩ σ w (.pointer (some (p.add off))):=by
 refine ⟨(by intro _ h;cases h),fun ρ hρ=>?_⟩
 have h1:=hρ x _ (by simp [Op.operands]) hx
 unfold fldOf at hf
 split at hf
 ·rename_i fs hfs
  split at hf
  ·rename_i f hff
   split at hf
   ·rename_i j hj
    cases hz:Nat.beq j.size 0 with
    | true=>rw [hz] at hf;cases hf
    | false =>
     rw [hz] at hf
     simp only [cond_false,Option.some.injEq] at hf
     have hz':j.size≠0:=fun e=>by rw [e] at hz;cases hz
     simp [execOp,h1,Instr.fieldAt,run_underlying hfs,hff,Instr.sureAddr,fieldPlace,sizeOf,typeInfo,hj,hz',hf]
   ·cases hf
  ·cases hf
 ·cases hf
end
theorem PtrTo.qn {S:Nat->Prop} {w:World} {p:Addr} {q:QV} (h:PtrTo eQ S w p q):PtrTo eZ S w (p.add 0) q.num:=by
 obtain ⟨e,⟨s,t,rfl,hs,ht⟩,h2,h3⟩:=h
 refine ⟨.agg #[.bool q.num.neg,s],⟨s,rfl,hs⟩,by rw [G5];exact h2,fun j u hu=>?_⟩
 rw [AF2]
 refine h3 _ u ?_
 match j with
 | 0=>simpa [Value.cells] using hu
 | 1=>simpa [Value.cells] using hu
 | j+2=>simp [Value.cells] at hu
section
variable {P:Program} {ro:Option Nat} {N:Nat} {ds:List Deferred} {ops:Array Oper} {K:Env->World->Prop} {rest:List Oper} {σ:Env} {w:World} {d:Tmp} {ty:TypeId} {pos:String} {af:Array Edge}
end
section
variable {P:Program} {σ:Env} {w:World} {d:Option Tmp} {ty:TypeId} {pos:String} {af:Array Edge} {g:Option (Nat×Bool)} {S:Nat->Prop}
end
end Go.Kx
namespace Go.Proofs.YtggegpiffjbngaaGreat
open Go Go.Kx Go.RowKit
theorem BC2 {α:Type} {l:List α} {j:Nat} {x:α} (h:l[j]?=some x):j<l.length:=by
 rcases Nat.lt_or_ge j l.length with h' | h'
 ·exact h'
 ·rw [List.getElem?_eq_none h'] at h;cases h
theorem eV_vk {S:Nat->Prop} {w:World} {v:Value} {a:List QV} {L:Nat} (h:eV.R S w v a) (hk:∀ q∈a,qok L q) (hL:1<=L):vk L a:=by
 intro q hq
 obtain ⟨i,hi⟩:=List.mem_iff_getElem?.1 hq
 obtain ⟨es,he,_⟩:=h
 have hlt:=BC2 hi
 obtain ⟨s,t,_,hn,hd⟩:=he.2 i _ q (List.getElem?_eq_getElem (by rw [he.1];exact hlt)) hi
 exact ⟨hk q hq,BB0 (D3 hn) (D3 hd) (hk q hq) hL⟩
def okV (r:List QV):Prop:=r.length<=20/\∀ q∈r,qok 6 q
end Go.Proofs.YtggegpiffjbngaaGreat
namespace Go.Kx
def hds (n:Nat):List Nat:=if h:n=0 then [] else n % 65536::hds (n / 65536)
 decreasing_by omega
theorem J6:hds 0=[]:=by unfold hds;simp
theorem AE6 {n:Nat} (h:n≠0):hds n=n % 65536::hds (n / 65536):=by rw [hds];simp [h]
theorem C9 (n:Nat):valH (hds n)=n:=by
 induction n using Nat.strongRecOn with
 | ind n ih =>
  by_cases h:n=0
  ·subst h;rw [J6];rfl
  ·rw [AE6 h,valH,ih _ (by omega)];omega
theorem AX1 (n:Nat):digH (hds n):=by
 induction n using Nat.strongRecOn with
 | ind n ih =>
  by_cases h:n=0
  ·subst h;rw [J6];intro x hx;cases hx
  ·rw [AE6 h]
   intro x hx
   rcases List.mem_cons.1 hx with rfl | hx
   ·omega
   ·exact ih _ (by omega) x hx
theorem AA2:∀ {l:List Nat},can l->l≠[]->valH l≠0
 | [],_,h=>absurd O h
 | [x],hc,_=>by
  have:=hc x (by simp)
  simp only [valH];omega
 | x::y::r,hc,_=>by
  have ih:=AA2 (l:=y::r) (fun u hu=>hc u (by simpa [List.getLast?_cons_cons] using hu)) (by simp)
  rw [valH];omega
theorem AV3:∀ {l:List Nat},digH l->can l->hds (valH l)=l
 | [],_,_=>J6
 | x::r,hd,hc=>by
  have hx:=hd x (by simp)
  have hr:can r:=by
   intro u hu
   apply hc u
   cases r with
   | nil=>simp at hu
   | cons y r=>simpa [List.getLast?_cons_cons] using hu
  have ih:=AV3 (l:=r) (fun z hz=>hd z (by simp [hz])) hr
  have h0:valH (x::r)≠0:=AA2 hc (by simp)
  rw [AE6 h0,valH]
  rw [show (x+65536*valH r) % 65536=x by omega,show (x+65536*valH r) / 65536=valH r by omega,ih]
theorem trimH {l:List Nat} (h:digH l):trimL l=hds (valH l):=by
 rw [<-AH3,AV3 (AI3 h) (AF1 l)]
theorem Y7 {l:List Nat} (h:digH l):valH l<65536 ^ l.length:=by
 induction l with
 | nil=>simp [valH]
 | cons x l ih =>
  have hx:=h x (by simp)
  have:=ih fun z hz=>h z (by simp [hz])
  rw [valH,List.length_cons,Nat.pow_succ];omega
theorem K6 {n L:Nat} (h:n<65536 ^ L):(hds n).length<=L:=by
 induction L generalizing n with
 | zero=>rw [show n=0 by simpa using h,J6];simp
 | succ L ih =>
  by_cases h0:n=0
  ·rw [h0,J6];simp
  ·rw [AE6 h0,List.length_cons]
   have:=ih (n:=n / 65536) (by rw [Nat.pow_succ] at h;exact (Nat.div_lt_iff_lt_mul (by omega)).2 h)
   omega
theorem AV4 (n:Nat):n<65536 ^ (hds n).length:=by
 have:=Y7 (AX1 n)
 rwa [C9] at this
theorem N7 {n:Nat}:hds n=[]<->n=0:=by
 constructor
 ·intro h
  by_cases h0:n=0
  ·exact h0
  ·rw [AE6 h0] at h;cases h
 ·rintro rfl;exact J6
theorem AD5 (l:List Nat) (x:Nat):valH (l++[x])=valH l+65536 ^ l.length*x:=by rw [AA8];simp [valH]
theorem J2 (l:List Nat) (k:Nat):valH (l.take (k+1))=valH (l.take k)+65536 ^ k*l.getD k 0:=by
 rcases Nat.lt_or_ge k l.length with h | h
 ·rw [List.take_succ_eq_append_getElem h,AD5,List.length_take,Nat.min_eq_left (by omega)]
  simp [List.getD_eq_getElem?_getD,List.getElem?_eq_getElem h]
 ·rw [List.take_of_length_le (by omega),List.take_of_length_le h]
  simp [List.getD_eq_getElem?_getD,List.getElem?_eq_none h]
theorem V4 {l:List Nat} {k:Nat} (h:k<l.length):valH (l.drop k)=l.getD k 0+65536*valH (l.drop (k+1)):=by
 rw [List.drop_eq_getElem_cons h,valH]
 simp [List.getD_eq_getElem?_getD,List.getElem?_eq_getElem h]
theorem L3 {l:List Nat} (h:digH l) (k:Nat):l.getD k 0<65536:=by
 rw [List.getD_eq_getElem?_getD]
 cases hk:l[k]? with
 | none=>simp
 | some x=>exact h x (List.mem_iff_getElem?.2 ⟨k,hk⟩)
theorem Aw9 {l:List Nat} {x:Nat} (h:digH l) (hx:x<65536):digH (l++[x]):=by
 intro y hy
 rcases List.mem_append.1 hy with h' | h'
 ·exact h y h'
 ·simp at h';omega
theorem Aj1 {l r:List Nat} (h:digH l) (h':digH r):digH (l++r):=by
 intro y hy
 rcases List.mem_append.1 hy with h1 | h1
 ·exact h y h1
 ·exact h' y h1
theorem O3 {l:List Nat} {k:Nat} (h:l.length<=k):valH (l.take k)=valH l:=by rw [List.take_of_length_le h]
theorem M7 {m n:Nat} (h:m<=n):(hds m).length<=(hds n).length:=K6 (Nat.lt_of_le_of_lt h (AV4 n))
open Go Go.RowKit
theorem tmod16 (m:Nat):((m:Int).tmod 65536)=((m % 65536:Nat):Int):=L7 m 65536
theorem tdiv16 (m:Nat):((m:Int).tdiv 65536)=((m / 65536:Nat):Int):=L8 m 65536
def OwnH (t:TypeId) (base:Nat) (w:World) (v:Value) (r:List Nat):Prop:=w.ownsRow base t 1 v r.length (r.map hvv)/\digH r
section
variable {t:TypeId} {base:Nat} {w w':World} {v:Value} {r:List Nat}
theorem OwnH.ext (h:OwnH t base w v r) (e:Ext w w'):OwnH t base w' v r:=⟨AB6 h.1 fun k cs _ hb=>hb.ext e,h.2⟩
theorem OwnH.below {w0:World} (h:OwnH t base w v r) (hg:w.grownBy w' v.ownBlock) (hb:Below base w0 w) (hB:base<=w.heap.size):Below base w0 w':=hb.grown hg hB fun k hk=>(h.1.lt k hk).1
theorem OwnH.nil:OwnH t base w (.slice none 0 0) []:=⟨⟨rfl,.inl ⟨rfl,rfl⟩⟩,fun x hx=>by cases hx⟩
theorem OwnH.toR {S:Nat->Prop} (h:OwnH t base w v r) (hS:∀ k,base<=k->S k):eHs.R S w v r:=by
 refine RL.ofOwn (E:=eH) (es:=r.map hvv) (base:=base) (t:=t) (n:=r.length) ?_ O ⟨by simp,fun i e x he hx=>?_⟩ hS
 ·rw [E9 hvv (fun _=>rfl)];exact h.1
 ·rw [List.getElem?_map,hx] at he
  simp at he
  exact ⟨he.symm,h.2 x (List.mem_iff_getElem?.2 ⟨i,hx⟩)⟩
theorem OwnH.lit {b:Nat} {l:List Nat} (hn:New w w' b t (l.map hvv).toArray) (hB:base<=w.heap.size) (hd:digH l) (hl:l.length<=1000):OwnH t base w' (.slice (some ⟨b,0,none⟩) l.length l.length) l:=by
 obtain ⟨_,hk,hb,_⟩:=hn
 exact ⟨⟨by simp,.inr ⟨b,l.length,_,rfl,by omega,hk,Nat.le_refl _,by simp [maxLen];omega,by simp,by simp [List.take_of_length_le]⟩⟩,hd⟩
end
section
variable {P:Program} {σ:Env} {w:World} {d:Option Tmp} {ty:TypeId} {pos:String} {af:Array Edge} {g:Option (Nat×Bool)}
theorem An5 {t e:TypeId} {x y:Operand} {base b:Nat} {v:Value} {r:List Nat} {n:Nat} (ht:P.underlying t=some (.slice e)) (hi:infoOf P e=some (.int .i64 0,1,8)) (hx:ev σ x=some v) (hy:ev σ y=some (.slice (some ⟨b,0,none⟩) 1 1))
  (hown:OwnH e base w v r) (hb:Blk w b e #[hvv n]) (hn:n<65536) (hl:r.length<=1099511627776) (hbase:base<=w.heap.size) :
  Gv P ⟨d,.call { callee:=.builtin .append,args:=#[x,y],argTypes:=#[t,t] },ty,pos,af,g⟩ σ w fun v' w'=>OwnH e base w' v' (r++[n])/\w.grownBy w' v.ownBlock:=by
 refine (AV7 [hvv n] ht hi O (by decide) hx hy hown.1 O (fun j u hu=>?_) (fun u hu=>?_) (by omega) (by omega) hbase).mono ?_
 ·cases j with
  | zero=>simp at hu;subst hu;rw [I8,hb.cell];rfl
  | succ j=>simp at hu
 ·simp at hu;subst hu;rfl
 ·rintro v' w' ⟨h1,h2⟩
  exact ⟨⟨by simpa using h1,Aw9 hown.2 hn⟩,h2⟩
theorem g_appHs {S:Nat->Prop} {t e:TypeId} {x y:Operand} {base:Nat} {v u:Value} {r s:List Nat} (ht:P.underlying t=some (.slice e)) (hi:infoOf P e=some (.int .i64 0,1,8)) (hx:ev σ x=some v) (hy:ev σ y=some u)
  (hown:OwnH e base w v r) (hs:eHs.R S w u s) (hl:r.length<=1000) (hl2:s.length<=1099511627776) (hbase:base<=w.heap.size) :
  Gv P ⟨d,.call { callee:=.builtin .append,args:=#[x,y],argTypes:=#[t,t] },ty,pos,af,g⟩ σ w fun v' w'=>OwnH e base w' v' (r++s)/\Below base w w':=by
 have hds:=R4 hs
 obtain ⟨es,he,a,c,rfl,hc,_,hcl,hcells⟩:=hs
 have hes:es=s.map hvv:=by
  apply List.ext_getElem?
  intro i
  rw [List.getElem?_map]
  cases hi:s[i]? with
  | none=>rw [List.getElem?_eq_none (by rw [he.1];exact List.getElem?_eq_none_iff.1 hi)];rfl
  | some z =>
   have hlt:i<s.length:=(List.getElem?_eq_some_iff.1 hi).1
   have hee:=List.getElem?_eq_getElem (show i<es.length by rw [he.1];exact hlt)
   obtain ⟨h1,_⟩:=he.2 i _ z hee hi
   rw [hee,h1];rfl
 subst hes
 rw [E9 hvv (fun _=>rfl)] at hcells hcl
 have hone:∀ u∈s.map hvv,one1 u=true:=by
  intro u hu
  obtain ⟨z,_,rfl⟩:=List.mem_map.1 hu
  rfl
 have fin:∀ v' w',w'.ownsRow base e 1 v' (r.length+s.length) (r.map hvv++s.map hvv)->w.grownBy w' v.ownBlock->OwnH e base w' v' (r++s)/\Below base w w':=by
  intro v' w' h1 h2
  exact ⟨⟨by simpa using h1,Aj1 hown.2 hds⟩,hown.below h2 (Below.refl _ _) hbase⟩
 cases a with
 | some ad =>
  have hcell:∀ j u,(s.map hvv)[j]?=some u->w.cell? (ad.add j)=some u:=by
   intro j u hu
   have hpos:0<s.length:=by
    cases s with
    | nil=>simp at hu
    | cons z s=>simp
   obtain ⟨ad',h1,_,h2⟩:=hcells hpos
   cases h1
   exact (h2 j u hu).1
  exact (AV7 (s.map hvv) ht hi O (by decide) hx hy hown.1 (by simp) hcell hone (by omega) (by omega) hbase).mono fun v' w' ⟨h1,h2⟩=>fin v' w' h1 h2
 | none =>
  have h0:s=[]:=by
   cases s with
   | nil=>rfl
   | cons z s=>obtain ⟨ad,h1,_⟩:=hcells (by simp);cases h1
  subst h0
  refine (BD4 ht hi hx hy hown.1).gv.mono fun v' w' ⟨h1,h2⟩=>?_
  subst h1;subst h2
  exact ⟨by simpa using hown,Below.refl _ _⟩
end
end Go.Kx
namespace Go.Proofs.YtggegpiffjbngaaGreat
open Go Go.Kx Go.RowKit
theorem AN8 {x:Int}:bslOf Tryz.prog 25 1 [(0,.int .i64 x)]=some (3,#[.int .i64 x]):=by kernel_rfl
theorem bsl_H3 {x y z:Int}:bslOf Tryz.prog 25 3 [(0,.int .i64 x),(1,.int .i64 y),(2,.int .i64 z)]=some (3,#[.int .i64 x,.int .i64 y,.int .i64 z]):=by kernel_rfl
theorem Ak8:Ent Tryz.prog 206:=A0 Tryz.func206 (by kernel_rfl) rfl
theorem Ah2 {S:Nat->Prop} {w:World} {va vb:Value} {a b:List Nat} (up:Up S w) (ha:eHs.R S w va a) (hb:eHs.R S w vb b) (hla:a.length<=100000000000) (hlb:b.length<=100000000000):CR Tryz.prog 206 #[va,vb] w (eHs.at S (hds (valH a+valH b))):=by
 have hda:=R4 ha
 have hdb:=R4 hb
 have hA:∀ {W:World},Below w.heap.size w W->eHs.R (fun k=>S k/\k<w.heap.size) W va a:=fun hB=>eHs.keep (fun k c t f hk h=>(hB.block k hk.2).trans h) (ER.lt eHs ha)
 have hBb:∀ {W:World},Below w.heap.size w W->eHs.R (fun k=>S k/\k<w.heap.size) W vb b:=fun hB=>eHs.keep (fun k c t f hk h=>(hB.block k hk.2).trans h) (ER.lt eHs hb)
 refine enter Tryz.func206 O Tryz.ntmps206 O ?_
 refine .sr (.an O O (.sr (.an O O (.sr (.an O O (.seq (.sr (.an O O ?_))))))))
 refine .block (.loop (α:=Nat×Value×List Nat×Nat) (fun x=>[(0,va),(1,vb),(5,x.2.1),(6,.int .i64 (x.2.2.2:Nat)),(7,.int .i64 (x.1:Nat))])
  (fun x W=>Below w.heap.size w W/\x.1<=max a.length b.length+1/\x.2.2.1.length=x.1/\OwnH 3 w.heap.size W x.2.1 x.2.2.1/\x.2.2.2<=1/\(max a.length b.length<x.1->x.2.2.2=0)/\valH x.2.2.1+65536 ^ x.1*x.2.2.2=valH (a.take x.1)+valH (b.take x.1))
  (fun x=>2*(max a.length b.length-x.1)+x.2.2.2) (0,.slice none 0 0,[],0) ?_ ?_ ?_)
 ·exact lkA rfl
 ·exact ⟨Below.refl _ _,Nat.zero_le _,rfl,OwnH.nil,Nat.zero_le _,fun _=>rfl,by simp [valH]⟩
 ·rintro ⟨i,u,r,c⟩ W ⟨hB,hi,hr,ho,hc,hc0,hv⟩
  replace hB:Below w.heap.size w W:=hB
  replace hi:i<=max a.length b.length+1:=hi
  replace hr:r.length=i:=hr
  replace ho:OwnH 3 w.heap.size W u r:=ho
  replace hc:c<=1:=hc
  replace hc0:max a.length b.length<i->c=0:=hc0
  replace hv:valH r+65536 ^ i*c=valH (a.take i)+valH (b.take i):=hv
  have hxa:=L3 hda i
  have hxb:=L3 hdb i
  have round:∀ {σ:Env},(i<max a.length b.length\/0<c)->Kx.look σ 0=some va->Kx.look σ 1=some vb->Kx.look σ 5=some u->Kx.look σ 6=some (.int .i64 (c:Nat))->Kx.look σ 7=some (.int .i64 (i:Nat))->True:=fun _ _ _ _ _ _=>trivial
  refine .mid (α:=Unit) (fun _=>[(0,va),(1,vb),(5,u),(6,.int .i64 (c:Nat)),(7,.int .i64 (i:Nat))]) (fun _ W'=>W'=W/\(i<max a.length b.length\/0<c)) ?_ ?_
  ·have hend:¬ (i<max a.length b.length\/0<c)->valH r=valH a+valH b:=by
    intro hn
    have h0:c=0:=by omega
    rw [h0,Nat.mul_zero,Nat.add_zero,O3 (by omega),O3 (by omega)] at hv
    exact hv
   refine .sr (.mv O O (.mv O O (.lenR un_H O O (hA hB) ?_)))
   by_cases h1:i<a.length
   ·refine .lssT O O O (by omega) (.mv O O (.gs O O O O O (.gs O O O O O (.gs O O O O O (.gs O O O O O (.pick O O O (.mv O O (.gs O O O O O (.gs O O O O O (.pick O O O (.nil (.condT O (.skip ?_)))))))))))))
    exact ⟨rfl,(),lkA rfl,rfl,by omega⟩
   ·refine .lssF O O O (by omega) (.mv O O (.gr O O O O (.mv O O (.gr O O O O (.mv O O (.gr O O O O (.lenR un_H O O (hBb hB) (.gr O O O O ?_))))))))
    by_cases h2:i<b.length
    ·refine .lssT O O O (by omega) (.pick O O O (.mv O O (.gs O O O O O (.gs O O O O O (.pick O O O (.nil (.condT O (.skip ?_))))))))
     exact ⟨rfl,(),lkA rfl,rfl,by omega⟩
    ·refine .lssF O O O (by omega) (.pick O O O (.mv O O (.gr O O O O (.mv O O (.gr O O O O ?_)))))
     by_cases h3:0<c
     ·refine .gtrT O O O (show (0:Int)<((c:Nat):Int) by omega) (.pick O O O (.nil (.condT O (.skip ?_))))
      exact ⟨rfl,(),lkA rfl,rfl,.inr h3⟩
     ·refine .gtrF O O O (show ¬ (0:Int)<((c:Nat):Int) by omega) (.pick O O O (.nil (.condF O (.exit (.sr (.mv O O ?_))))))
      refine .call _ O F1 O (E8 (ho.toR up)) fun v2 W2 e2 h2=>.an O O (.ret ?_)
      refine .plain [_] Tryz.results206 ⟨rfl,trivial⟩ ⟨hB.trans (e2.mono hB.size),?_⟩
      rw [<-hend (by omega),<-trimH ho.2];exact h2
  ·rintro _ W' ⟨rfl,hgo⟩
   refine .seq (.block (.sr (.mv O O (.mv O O ?_))))
   refine .call _ O G0 O (F8 (hA hB)) fun v3 W3 e3 h3=>.mv O O (.mv O O ?_)
   subst h3
   have hB3:Below w.heap.size w W3:=hB.trans (e3.mono hB.size)
   refine .call _ O G0 O (F8 (hBb hB3)) fun v4 W4 e4 h4=>?_
   subst h4
   refine .add O O O (.mv O O (.add O O O (.an O O ?_)))
   rw [wI (n:=((a.getD i 0:Nat):Int)+((b.getD i 0:Nat):Int)) (by omega),wI (by omega),show ((a.getD i 0:Nat):Int)+((b.getD i 0:Nat):Int)+(c:Int)=((a.getD i 0+b.getD i 0+c:Nat):Int) by omega]
   generalize hm:a.getD i 0+b.getD i 0+c=m at *
   refine .sr (.mv O O (.mv O O (.rem O O O (by decide) ?_)))
   rw [tmod16]
   refine .bsl _ O O AN8 fun W5 b5 n5=>?_
   obtain ⟨e5,k5,hb5,hs5⟩:=n5
   have e35:=(e3.trans e4).trans e5
   have hB5:Below w.heap.size w W5:=hB.trans (e35.mono hB.size)
   refine .gv O O (An5 (base:=w.heap.size) un_H V9 O O (ho.ext e35) k5 (by omega) (by omega) hB5.size) ?_
   rintro v6 W6 ⟨ho6,hg6⟩
   refine .an O O (.region (.mv O O (.quo O O O (by decide) (.an O O ?_))))
   rw [tdiv16,wI (by omega)]
   refine .region (.mv O O (.add O O O (.an O O ?_)))
   rw [wI (by omega)]
   have hget:max a.length b.length<=i->m / 65536=0:=by
    intro h
    have h1:a.getD i 0=0:=R0 (by omega)
    have h2:b.getD i 0=0:=R0 (by omega)
    omega
   refine ⟨rfl,(i+1,v6,_,m / 65536),lkA rfl,⟨(ho.ext e35).below hg6 hB5 hB5.size,by show i+1<=_;omega,by show (r++[_]).length=_;simp [hr],ho6,by show m / 65536<=1;omega,fun h=>hget (by have h':max a.length b.length<i+1:=h;omega),?_⟩,?_⟩
   ·show valH (r++[m % 65536])+65536 ^ (i+1)*(m / 65536)=valH (a.take (i+1))+valH (b.take (i+1))
    rw [AD5,J2,J2,hr]
    have hdm:=Nat.div_add_mod m 65536
    generalize m / 65536=q at *
    generalize m % 65536=z at *
    have:65536 ^ i*z+65536 ^ (i+1)*q=65536 ^ i*(a.getD i 0+b.getD i 0+c):=by
     rw [hm,<-hdm,Nat.pow_succ];grind
    rw [Nat.mul_add,Nat.mul_add] at this
    omega
   ·show 2*(max a.length b.length-(i+1))+m / 65536<2*(max a.length b.length-i)+c
    rcases Nat.lt_or_ge i (max a.length b.length) with h | h
    ·omega
    ·have:=hget h;omega
end Go.Proofs.YtggegpiffjbngaaGreat
namespace Go.Kx
theorem AH4 (l:List Nat) (i:Nat):valH l=valH (l.take i)+65536 ^ i*valH (l.drop i):=by
 rcases Nat.lt_or_ge i l.length with h | h
 ·have:valH l=valH (l.take i++l.drop i):=by rw [List.take_append_drop]
  rw [this,AA8,List.length_take,Nat.min_eq_left (by omega)]
 ·rw [List.take_of_length_le h,List.drop_eq_nil_of_le h];simp [valH]
theorem AU1 (l:List Nat) (i:Nat):valH (l.drop i)=l.getD i 0+65536*valH (l.drop (i+1)):=by
 rcases Nat.lt_or_ge i l.length with h | h
 ·exact V4 h
 ·rw [List.drop_eq_nil_of_le h,List.drop_eq_nil_of_le (by omega),List.getD_eq_getElem?_getD,List.getElem?_eq_none h];rfl
theorem Aw8 {l:List Nat} (h:digH l) (i:Nat):digH (l.take i):=fun x hx=>h x (List.mem_of_mem_take hx)
theorem AJ1 {l:List Nat} (h:digH l) (i:Nat):valH (l.take i)<65536 ^ i:=by
 have h1:=Y7 (Aw8 h i)
 refine Nat.lt_of_lt_of_le h1 (Nat.pow_le_pow_right (by omega) ?_)
 simp;omega
end Go.Kx
namespace Go.Proofs.YtggegpiffjbngaaGreat
open Go Go.Kx Go.RowKit
theorem AG4:Ent Tryz.prog 242:=A0 Tryz.func242 (by kernel_rfl) rfl
theorem AF6 {S:Nat->Prop} {w:World} {vb:Value} {b:List Nat} {n:Nat} (up:Up S w) (hb:eHs.R S w vb b) (hlb:b.length<=100000000000) (hn:n<=65536):CR Tryz.prog 242 #[vb,.int .i64 n] w (eHs.at S (hds (valH b*n))):=by
 have hdb:=R4 hb
 have hB0:∀ {W:World},Below w.heap.size w W->eHs.R (fun k=>S k/\k<w.heap.size) W vb b:=fun hB=>eHs.keep (fun k c t f hk h=>(hB.block k hk.2).trans h) (ER.lt eHs hb)
 refine enter Tryz.func242 O Tryz.ntmps242 O ?_
 refine .sr (.an O O (.sr (.an O O (.sr (.an O O (.seq (.sr (.an O O ?_))))))))
 refine .block (.loop (α:=Nat×Value×List Nat×Nat) (fun x=>[(0,vb),(1,.int .i64 (n:Nat)),(5,x.2.1),(6,.int .i64 (x.2.2.2:Nat)),(7,.int .i64 (x.1:Nat))])
  (fun x W=>Below w.heap.size w W/\x.1<=b.length+2/\x.2.2.1.length=x.1/\OwnH 3 w.heap.size W x.2.1 x.2.2.1/\x.2.2.2<=65536/\(b.length<x.1->x.2.2.2<=1)/\(b.length+1<x.1->x.2.2.2=0)/\valH x.2.2.1+65536 ^ x.1*x.2.2.2=valH (b.take x.1)*n)
  (fun x=>100000*(b.length-x.1)+x.2.2.2) (0,.slice none 0 0,[],0) ?_ ?_ ?_)
 ·exact lkA rfl
 ·exact ⟨Below.refl _ _,Nat.zero_le _,rfl,OwnH.nil,Nat.zero_le _,fun _=>Nat.zero_le _,fun _=>rfl,by simp [valH]⟩
 ·rintro ⟨i,u,r,c⟩ W ⟨hB,hi,hr,ho,hc,hc1,hc0,hv⟩
  replace hB:Below w.heap.size w W:=hB
  replace hi:i<=b.length+2:=hi
  replace hr:r.length=i:=hr
  replace ho:OwnH 3 w.heap.size W u r:=ho
  replace hc:c<=65536:=hc
  replace hc1:b.length<i->c<=1:=hc1
  replace hc0:b.length+1<i->c=0:=hc0
  replace hv:valH r+65536 ^ i*c=valH (b.take i)*n:=hv
  have hxb:=L3 hdb i
  refine .mid (α:=Unit) (fun _=>[(0,vb),(1,.int .i64 (n:Nat)),(5,u),(6,.int .i64 (c:Nat)),(7,.int .i64 (i:Nat))]) (fun _ W'=>W'=W/\(i<b.length\/0<c)) ?_ ?_
  ·refine .sr (.mv O O (.mv O O (.lenR un_H O O (hB0 hB) ?_)))
   by_cases h1:i<b.length
   ·refine .lssT O O O (by omega) (.mv O O (.gs O O O O O (.gs O O O O O (.pick O O O (.nil (.condT O (.skip ?_)))))))
    exact ⟨rfl,(),lkA rfl,rfl,.inl h1⟩
   ·refine .lssF O O O (by omega) (.mv O O (.gr O O O O (.mv O O (.gr O O O O ?_))))
    by_cases h3:0<c
    ·refine .gtrT O O O (show (0:Int)<((c:Nat):Int) by omega) (.pick O O O (.nil (.condT O (.skip ?_))))
     exact ⟨rfl,(),lkA rfl,rfl,.inr h3⟩
    ·refine .gtrF O O O (show ¬ (0:Int)<((c:Nat):Int) by omega) (.pick O O O (.nil (.condF O (.exit (.sr (.mv O O ?_))))))
     refine .call _ O F1 O (E8 (ho.toR up)) fun v2 W2 e2 h2=>.an O O (.ret ?_)
     refine .plain [_] Tryz.results242 ⟨rfl,trivial⟩ ⟨hB.trans (e2.mono hB.size),?_⟩
     have h0:c=0:=by omega
     rw [h0,Nat.mul_zero,Nat.add_zero,O3 (by omega)] at hv
     rw [<-hv,<-trimH ho.2];exact h2
  ·rintro _ W' ⟨rfl,hgo⟩
   refine .seq (.block (.sr (.mv O O (.mv O O ?_))))
   refine .call _ O G0 O (F8 (hB0 hB)) fun v3 W3 e3 h3=>?_
   subst h3
   refine .mv O O (.mul O O O (.mv O O (.add O O O (.an O O ?_))))
   have hmul:b.getD i 0*n<=65535*65536:=Nat.mul_le_mul (by omega) hn
   rw [<-Int.natCast_mul,wI (n:=((b.getD i 0*n:Nat):Int)) (by omega),<-Int.natCast_add,wI (by omega)]
   generalize hm:b.getD i 0*n+c=m at *
   refine .sr (.mv O O (.mv O O (.rem O O O (by decide) ?_)))
   rw [tmod16]
   refine .bsl _ O O AN8 fun W5 b5 n5=>?_
   obtain ⟨e5,k5,hb5,hs5⟩:=n5
   have e35:=e3.trans e5
   have hB5:Below w.heap.size w W5:=hB.trans (e35.mono hB.size)
   refine .gv O O (An5 (base:=w.heap.size) un_H V9 O O (ho.ext e35) k5 (by omega) (by omega) hB5.size) ?_
   rintro v6 W6 ⟨ho6,hg6⟩
   refine .an O O (.region (.mv O O (.quo O O O (by decide) (.an O O ?_))))
   rw [tdiv16,wI (by omega)]
   refine .region (.mv O O (.add O O O (.an O O ?_)))
   rw [wI (by omega)]
   have hget:b.length<=i->m=c:=by
    intro h
    have h2:b.getD i 0=0:=R0 h
    rw [h2] at hm;omega
   refine ⟨rfl,(i+1,v6,_,m / 65536),lkA rfl,⟨(ho.ext e35).below hg6 hB5 hB5.size,?_,by show (r++[_]).length=_;simp [hr],ho6,by show m / 65536<=65536;omega,?_,?_,?_⟩,?_⟩
   ·show i+1<=b.length+2
    rcases hgo with h | h
    ·omega
    ·by_cases hh:b.length+1<i
     ·have:=hc0 hh;omega
     ·omega
   ·intro h
    have h':b.length<i+1:=h
    have:=hget (by omega)
    show m / 65536<=1
    omega
   ·intro h
    have h':b.length+1<i+1:=h
    have h1:=hget (by omega)
    have h2:=hc1 (by omega)
    show m / 65536=0
    omega
   ·show valH (r++[m % 65536])+65536 ^ (i+1)*(m / 65536)=valH (b.take (i+1))*n
    rw [AD5,J2,hr,Nat.add_mul,<-hv]
    have hdm:=Nat.div_add_mod m 65536
    generalize m / 65536=q at *
    generalize m % 65536=z at *
    have:65536 ^ i*z+65536 ^ (i+1)*q=65536 ^ i*(b.getD i 0*n+c):=by
     rw [hm,<-hdm,Nat.pow_succ];grind
    rw [Nat.mul_add,<-Nat.mul_assoc] at this
    omega
   ·show 100000*(b.length-(i+1))+m / 65536<100000*(b.length-i)+c
    rcases Nat.lt_or_ge i b.length with h | h
    ·omega
    ·have:=hget h;omega
theorem AQ5:Ent Tryz.prog 208:=A0 Tryz.func208 (by kernel_rfl) rfl
theorem AP1 {S:Nat->Prop} {w:World} {va vb:Value} {a b:List Nat} (up:Up S w) (ha:eHs.R S w va a) (hb:eHs.R S w vb b) (hla:a.length<=100000000000) (hab:valH b<=valH a):CR Tryz.prog 208 #[va,vb] w (eHs.at S (hds (valH a-valH b))):=by
 have hda:=R4 ha
 have hdb:=R4 hb
 have hA:∀ {W:World},Below w.heap.size w W->eHs.R (fun k=>S k/\k<w.heap.size) W va a:=fun hB=>eHs.keep (fun k c t f hk h=>(hB.block k hk.2).trans h) (ER.lt eHs ha)
 have hBb:∀ {W:World},Below w.heap.size w W->eHs.R (fun k=>S k/\k<w.heap.size) W vb b:=fun hB=>eHs.keep (fun k c t f hk h=>(hB.block k hk.2).trans h) (ER.lt eHs hb)
 refine enter Tryz.func208 O Tryz.ntmps208 O ?_
 refine .sr (.an O O (.sr (.an O O (.sr (.an O O (.seq (.sr (.an O O ?_))))))))
 refine .block (.loop (α:=Nat×Value×List Nat×Nat) (fun x=>[(0,va),(1,vb),(5,x.2.1),(6,.int .i64 (x.2.2.2:Nat)),(7,.int .i64 (x.1:Nat))])
  (fun x W=>Below w.heap.size w W/\x.1<=a.length/\x.2.2.1.length=x.1/\OwnH 3 w.heap.size W x.2.1 x.2.2.1/\x.2.2.2<=1/\valH x.2.2.1+valH (b.take x.1)=valH (a.take x.1)+65536 ^ x.1*x.2.2.2)
  (fun x=>a.length-x.1) (0,.slice none 0 0,[],0) ?_ ?_ ?_)
 ·exact lkA rfl
 ·exact ⟨Below.refl _ _,Nat.zero_le _,rfl,OwnH.nil,Nat.zero_le _,by simp [valH]⟩
 ·rintro ⟨i,u,r,c⟩ W ⟨hB,hi,hr,ho,hc,hv⟩
  replace hB:Below w.heap.size w W:=hB
  replace hi:i<=a.length:=hi
  replace hr:r.length=i:=hr
  replace ho:OwnH 3 w.heap.size W u r:=ho
  replace hc:c<=1:=hc
  replace hv:valH r+valH (b.take i)=valH (a.take i)+65536 ^ i*c:=hv
  have hxa:=L3 hda i
  have hxb:=L3 hdb i
  refine .weak [(0,va),(1,vb),(5,u),(6,.int .i64 (c:Nat)),(7,.int .i64 (i:Nat))] (fun t v h=>h) ?_
  refine .seq (.sr (.mv O O (.mv O O (.lenR un_H O O (hA hB) ?_))))
  by_cases hlt:i<a.length
  ·refine .lssT O O O (by omega) (.nil (.condT O (.skip (.seq (.block (.sr (.mv O O (.mv O O ?_))))))))
   refine .call _ O G0 O (F8 (hA hB)) fun v3 W3 e3 h3=>.mv O O (.mv O O ?_)
   subst h3
   have hB3:Below w.heap.size w W3:=hB.trans (e3.mono hB.size)
   refine .call _ O G0 O (F8 (hBb hB3)) fun v4 W4 e4 h4=>?_
   subst h4
   refine .sub O O O (.mv O O (.sub O O O (.an O O ?_)))
   rw [wI (n:=((a.getD i 0:Nat):Int)-((b.getD i 0:Nat):Int)) (by omega),wI (by omega)]
   have e34:=e3.trans e4
   refine .sr (.an O O ?_)
   generalize hx:a.getD i 0=x at *
   generalize hy:b.getD i 0=y at *
   refine .mid (α:=Nat×Nat) (fun p=>[(0,va),(1,vb),(5,u),(6,.int .i64 (p.2:Nat)),(7,.int .i64 (i:Nat)),(8,.int .i64 (p.1:Nat))]) (fun p W'=>W'=W4/\p.1<65536/\p.2<=1/\p.1+y+c=x+65536*p.2) ?_ ?_
   ·refine .sr (.mv O O ?_)
    by_cases h0:(x:Int)-(y:Int)-(c:Int)<0
    ·refine .lssT O O O h0 (.nil (.condT O (.sr (.mv O O (.add O O O (.an O O (.region (.an O O ?_))))))))
     rw [wI (by omega),show (x:Int)-(y:Int)-(c:Int)+65536=((x+65536-y-c:Nat):Int) by omega]
     exact ⟨rfl,(x+65536-y-c,1),lkA rfl,rfl,by show x+65536-y-c<65536;omega,Nat.le_refl _,by show x+65536-y-c+y+c=x+65536*1;omega⟩
    ·refine .lssF O O O h0 (.nil (.condF O (.skip ?_)))
     rw [show (x:Int)-(y:Int)-(c:Int)=((x-y-c:Nat):Int) by omega]
     exact ⟨rfl,(x-y-c,0),lkA rfl,rfl,by show x-y-c<65536;omega,Nat.zero_le _,by show x-y-c+y+c=x+65536*0;omega⟩
   ·rintro ⟨z,l⟩ W' ⟨rfl,hz,hl,hzl⟩
    replace hz:z<65536:=hz
    replace hl:l<=1:=hl
    replace hzl:z+y+c=x+65536*l:=hzl
    refine .region (.mv O O (.mv O O (.bsl _ O O AN8 fun W5 b5 n5=>?_)))
    obtain ⟨e5,k5,hb5,hs5⟩:=n5
    have e35:=e34.trans e5
    have hB5:Below w.heap.size w W5:=hB.trans (e35.mono hB.size)
    refine .gv O O (An5 (base:=w.heap.size) un_H V9 O O (ho.ext e35) k5 hz (by omega) hB5.size) ?_
    rintro v6 W6 ⟨ho6,hg6⟩
    refine .an O O (.region (.mv O O (.add O O O (.an O O ?_))))
    rw [wI (by omega)]
    refine ⟨rfl,(i+1,v6,_,l),lkA rfl,⟨(ho.ext e35).below hg6 hB5 hB5.size,hlt,by show (r++[_]).length=_;simp [hr],ho6,hl,?_⟩,by show a.length-(i+1)<a.length-i;omega⟩
    show valH (r++[z])+valH (b.take (i+1))=valH (a.take (i+1))+65536 ^ (i+1)*l
    rw [AD5,J2,J2,hr,hx,hy,Nat.pow_succ]
    have:65536 ^ i*(z+y+c)=65536 ^ i*(x+65536*l):=by rw [hzl]
    rw [Nat.mul_add,Nat.mul_add,Nat.mul_add,<-Nat.mul_assoc] at this
    omega
  ·refine .lssF O O O (by omega) (.nil (.condF O (.exit (.sr (.mv O O ?_)))))
   refine .call _ O F1 O (E8 (ho.toR up)) fun v2 W2 e2 h2=>.an O O (.ret ?_)
   refine .plain [_] Tryz.results208 ⟨rfl,trivial⟩ ⟨hB.trans (e2.mono hB.size),?_⟩
   have hie:i=a.length:=by omega
   subst hie
   rw [O3 (l:=a) (Nat.le_refl _)] at hv
   have h1:=Y7 hda
   have h2':=Y7 ho.2
   rw [hr] at h2'
   have h3:=AH4 b a.length
   have hp:0<65536 ^ a.length:=Nat.pow_pos (by omega)
   have h4:valH (b.drop a.length)=0:=by
    rcases Nat.eq_zero_or_pos (valH (b.drop a.length)) with h | h
    ·exact h
    ·have:65536 ^ a.length*1<=65536 ^ a.length*valH (b.drop a.length):=Nat.mul_le_mul_left _ h
     omega
   rw [h4,Nat.mul_zero,Nat.add_zero] at h3
   have h5:c=0:=by
    rcases Nat.eq_zero_or_pos c with h | h
    ·exact h
    ·have:c=1:=by omega
     rw [this,Nat.mul_one] at hv
     omega
   rw [h5,Nat.mul_zero,Nat.add_zero,<-h3] at hv
   rw [show valH a-valH b=valH r by omega,<-trimH ho.2];exact h2
theorem AQ7:Ent Tryz.prog 207:=A0 Tryz.func207 (by kernel_rfl) rfl
theorem AP3 {S:Nat->Prop} {w:World} {va vb:Value} {a b:List Nat} (ha:eHs.R S w va a) (hb:eHs.R S w vb b) (hla:a.length<=100000000000) (hlb:b.length<=100000000000):CR Tryz.prog 207 #[va,vb] w (Is (.int .i64 (cmpN (valH a) (valH b)))):=by
 have hda:=R4 ha
 have hdb:=R4 hb
 refine enter Tryz.func207 O Tryz.ntmps207 O ?_
 refine .sr (.an O O (.seq (.sr (.mv O O (.lenR un_H O O ha (.mv O O (.lenR un_H O O hb (.max_ O O O (.sub O O O (.an O O ?_))))))))))
 rw [wI (by omega),show max (a.length:Int) (b.length:Int)-1=((max a.length b.length:Nat):Int)-1 by omega]
 refine .block (.loop (α:=Nat) (fun j=>[(0,va),(1,vb),(5,.int .i64 ((j:Nat)-1:Int))]) (fun j W=>Ext w W/\j<=max a.length b.length/\valH (a.drop j)=valH (b.drop j)) (fun j=>j) (max a.length b.length) ?_ ?_ ?_)
 ·exact lkA rfl
 ·exact ⟨.refl _,Nat.le_refl _,by rw [List.drop_eq_nil_of_le (by omega),List.drop_eq_nil_of_le (by omega)]⟩
 ·rintro j W ⟨hW,hj,heq⟩
  refine .seq (.sr (.mv O O ?_))
  cases j with
  | zero =>
   refine .geqF O O O (by simp) (.nil (.condF O (.exit (.sr (.an O O (.ret ?_))))))
   refine .plain [_] Tryz.results207 ⟨rfl,trivial⟩ ⟨hW,isI ?_⟩
   simp at heq
   unfold cmpN;rw [heq];simp
  | succ i =>
   rw [show (((i+1:Nat):Int)-1)=(i:Int) by omega]
   have ea:=AH4 a i
   have eb:=AH4 b i
   have da:=AU1 a i
   have db:=AU1 b i
   have ta:=AJ1 hda i
   have tb:=AJ1 hdb i
   have hp:0<65536 ^ i:=Nat.pow_pos (by omega)
   refine .geqT O O O (by omega) (.nil (.condT O (.skip (.seq (.block (.seq (.sr (.mv O O (.mv O O ?_)))))))))
   refine .call _ O G0 O (F8 (ha.ext hW)) fun v3 W3 e3 h3=>.mv O O (.mv O O ?_)
   subst h3
   have hW3:=hW.trans e3
   refine .call _ O G0 O (F8 (hb.ext hW3)) fun v4 W4 e4 h4=>?_
   subst h4
   have hW4:=hW3.trans e4
   by_cases h1:a.getD i 0<b.getD i 0
   ·refine .lssT O O O (by omega) (.nil (.condT O (.sr (.an O O (.ret ?_)))))
    refine .plain [_] Tryz.results207 ⟨rfl,trivial⟩ ⟨hW4,isI ?_⟩
    have hlt:valH (a.drop i)+1<=valH (b.drop i):=by omega
    have hm:65536 ^ i*(valH (a.drop i)+1)<=65536 ^ i*valH (b.drop i):=Nat.mul_le_mul_left _ hlt
    rw [Nat.mul_add,Nat.mul_one] at hm
    unfold cmpN;rw [if_pos (by omega)]
   ·refine .lssF O O O (by omega) (.nil (.condF O (.skip (.sr (.mv O O (.mv O O ?_))))))
    refine .call _ O G0 O (F8 (ha.ext hW4)) fun v5 W5 e5 h5=>.mv O O (.mv O O ?_)
    subst h5
    have hW5:=hW4.trans e5
    refine .call _ O G0 O (F8 (hb.ext hW5)) fun v6 W6 e6 h6=>?_
    subst h6
    have hW6:=hW5.trans e6
    by_cases h2:b.getD i 0<a.getD i 0
    ·refine .gtrT O O O (by omega) (.nil (.condT O (.sr (.an O O (.ret ?_)))))
     refine .plain [_] Tryz.results207 ⟨rfl,trivial⟩ ⟨hW6,isI ?_⟩
     have hlt:valH (b.drop i)+1<=valH (a.drop i):=by omega
     have hm:65536 ^ i*(valH (b.drop i)+1)<=65536 ^ i*valH (a.drop i):=Nat.mul_le_mul_left _ hlt
     rw [Nat.mul_add,Nat.mul_one] at hm
     unfold cmpN;rw [if_neg (by omega),if_pos (by omega)]
    ·refine .gtrF O O O (by omega) (.nil (.condF O (.skip (.region (.mv O O (.sub O O O (.an O O ?_)))))))
     rw [wI (by omega)]
     exact ⟨rfl,i,lkA rfl,⟨hW6,by omega,by omega⟩,by show i<i+1;omega⟩
theorem O7:Ent Tryz.prog 241:=A0 Tryz.func241 (by kernel_rfl) rfl
theorem O4 {S:Nat->Prop} {w:World} {va:Value} {a:List Nat} (ha:eHs.R S w va a) (hla:a.length<=3):CR Tryz.prog 241 #[va] w (Is (.int .i64 (valH a))):=by
 have hda:=R4 ha
 refine enter Tryz.func241 O Tryz.ntmps241 O ?_
 refine .sr (.an O O (.sr (.an O O (.seq (.sr (.mv O O (.lenR un_H O O ha (.sub O O O (.an O O ?_)))))))))
 rw [wI (by omega)]
 refine .block (.loop (α:=Nat) (fun j=>[(0,va),(3,.int .i64 (valH (a.drop j):Nat)),(4,.int .i64 ((j:Nat)-1:Int))]) (fun j W=>W=w/\j<=a.length) (fun j=>j) a.length ?_ ?_ ?_)
 ·refine A2 O (A2 ?_ (lkA O))
  rw [List.drop_eq_nil_of_le (Nat.le_refl _)];rfl
 ·exact ⟨rfl,Nat.le_refl _⟩
 ·rintro j W ⟨rfl,hj⟩
  refine .seq (.sr (.mv O O ?_))
  cases j with
  | zero =>
   refine .geqF O O O (by simp) (.nil (.condF O (.exit (.sr (.mv O O (.an O O (.ret ?_)))))))
   exact .plain [_] Tryz.results241 ⟨rfl,trivial⟩ ⟨.refl _,rfl⟩
  | succ i =>
   rw [show (((i+1:Nat):Int)-1)=(i:Int) by omega]
   have hx:=L3 hda i
   have hlt:=Y7 (show digH (a.drop (i+1)) from fun x hx=>hda x (List.mem_of_mem_drop hx))
   have hlen:(a.drop (i+1)).length<=2:=by simp;omega
   have hpw:65536 ^ (a.drop (i+1)).length<=65536 ^ 2:=Nat.pow_le_pow_right (by omega) hlen
   have hd:=V4 (l:=a) (k:=i) (by omega)
   refine .geqT O O O (by omega) (.nil (.condT O (.skip (.seq (.block (.region (.mv O O (.mul O O O (.mv O O (.mv O O ?_))))))))))
   refine .ixN (i:=i) un_H A7 O O ha O (B7 (by omega)) fun p hp=>.ldE A7 O O hp fun e he=>?_
   obtain ⟨rfl,_⟩:=he
   refine .add O O O (.an O O (.region (.mv O O (.sub O O O (.an O O ?_)))))
   rw [wI (n:=((valH (a.drop (i+1)):Nat):Int)*65536) (by omega),wI (n:=((valH (a.drop (i+1)):Nat):Int)*65536+_) (by omega),wI (n:=(i:Int)-1) (by omega)]
   refine ⟨rfl,i,A2 O (A2 ?_ (lkA O)),⟨rfl,by omega⟩,by show i<i+1;omega⟩
   show some (Value.int .i64 (((valH (a.drop (i+1)):Nat):Int)*65536+((a.getD i 0:Nat):Int)))=_
   rw [hd]
   congr 2;omega
end Go.Proofs.YtggegpiffjbngaaGreat
namespace Go.Kx
end Go.Kx
namespace Go.Proofs.YtggegpiffjbngaaGreat
open Go Go.Kx Go.RowKit
theorem AL7:Ent Tryz.prog 240:=A0 Tryz.func240 (by kernel_rfl) rfl
theorem AK1 {S:Nat->Prop} {w:World} {v:Nat} (up:Up S w) (hv:v<281474976710656):CR Tryz.prog 240 #[.int .i64 v] w (eHs.at S (hds v)):=by
 refine enter Tryz.func240 O Tryz.ntmps240 O ?_
 refine .sr (.an O O (.sr (.mv O O (.rem O O O (by decide) (.mv O O (.quo O O O (by decide) ?_))))))
 rw [tmod16,tdiv16,wI (by omega)]
 refine .rem O O O (by decide) (.mv O O (.quo O O O (by decide) ?_))
 rw [tmod16,tdiv16,wI (by omega)]
 refine .quo O O O (by decide) ?_
 rw [tdiv16,wI (by omega)]
 refine .bsl _ O O bsl_H3 fun w1 b1 n1=>?_
 have hd:digH [v % 65536,v / 65536 % 65536,v / 65536 / 65536]:=by
  intro x hx
  simp at hx
  omega
 have ho:OwnH 3 w.heap.size w1 (.slice (some ⟨b1,0,none⟩) 3 3) [v % 65536,v / 65536 % 65536,v / 65536 / 65536]:=OwnH.lit (l:=[v % 65536,v / 65536 % 65536,v / 65536 / 65536]) n1 (Nat.le_refl _) hd (by simp)
 have hval:valH [v % 65536,v / 65536 % 65536,v / 65536 / 65536]=v:=by simp only [valH];omega
 refine .call _ O F1 O (E8 (ho.toR up)) fun v2 w2 e2 h2=>.an O O (.ret ?_)
 rw [trimH hd,hval] at h2
 exact .plain [_] Tryz.results240 ⟨rfl,trivial⟩ ⟨n1.1.trans e2,h2⟩
end Go.Proofs.YtggegpiffjbngaaGreat
namespace Go.Kx
theorem hds_ge {n:Nat} (h:n≠0):65536 ^ ((hds n).length-1)<=n:=by
 induction n using Nat.strongRecOn with
 | ind n ih =>
  rw [AE6 h,List.length_cons,Nat.add_sub_cancel]
  by_cases h1:n / 65536=0
  ·rw [h1,J6];simp;omega
  ·have:=ih (n / 65536) (by omega) h1
   have hl:(hds (n / 65536)).length≠0:=fun e=>h1 (N7.1 (List.length_eq_zero_iff.1 e))
   obtain ⟨m,hm⟩:∃ m,(hds (n / 65536)).length=m+1:=⟨_,(Nat.succ_pred_eq_of_ne_zero hl).symm⟩
   rw [hm] at this ⊢
   rw [Nat.add_sub_cancel] at this
   rw [Nat.pow_succ]
   have:=Nat.mul_le_mul_right 65536 this
   omega
theorem AF5 {l:List Nat} {i q:Nat} (h:i<l.length):valH ((l.set i q).drop i)=q+65536*valH (l.drop (i+1)):=by
 rw [V4 (by simpa using h)]
 have h1:(l.set i q).getD i 0=q:=by rw [List.getD_eq_getElem?_getD,List.getElem?_set_self h];rfl
 have h2:(l.set i q).drop (i+1)=l.drop (i+1):=by rw [List.drop_set];simp
 rw [h1,h2]
theorem Ai9 {D d x R Q:Nat} (hd:0<d) (hQ:Q=D / d) (hR:R=D % d):(x+65536*D) / d=(x+65536*R) / d+65536*Q/\(x+65536*D) % d=(x+65536*R) % d:=by
 have h1:=Nat.div_add_mod D d
 rw [<-hQ,<-hR] at h1
 have h2:x+65536*D=(x+65536*R)+d*(65536*Q):=by
  rw [<-h1,Nat.mul_add]
  have:65536*(d*Q)=d*(65536*Q):=by rw [<-Nat.mul_assoc,Nat.mul_comm 65536 d,Nat.mul_assoc]
  omega
 rw [h2,Nat.add_mul_div_left _ _ hd,Nat.add_mul_mod_self_left]
 exact ⟨rfl,rfl⟩
end Go.Kx
namespace Go.Proofs.YtggegpiffjbngaaGreat
open Go Go.Kx Go.RowKit
theorem Aq8 {P:Program} {σ:Env} {w:World} {dd:Option Tmp} {ty:TypeId} {pos:String} {af:Array Edge} {gd:Option (Nat×Bool)} {t e:TypeId} {x ix:Operand} {k:IntKind} {i:Nat} {b:Bool} {sz n c:Nat} {ad:Addr} (ht:P.underlying t=some (.slice e)) (he:tyOf P e=some (b,sz)) (hx:ev σ x=some (.slice (some ad) n c))
  (hi:ev σ ix=some (.int k (i:Int))) (hlt:i<n):Vl P ⟨dd,.indexAddr t x ix,ty,pos,af,gd⟩ σ w (.pointer (some (ad.add (i*sz)))):=by
 refine ⟨(by intro _ h;cases h),fun ρ hρ=>?_⟩
 have h1:=hρ x _ (by simp [Op.operands]) hx
 have h2:=hρ ix _ (by simp [Op.operands]) hi
 simp [execOp,h1,h2,Instr.indexAt,asIntOf,run_underlying ht,(H4 he w).2]
 intro hh;omega
theorem zero_H {S:Nat->Prop} {w:World}:eH.R S w (.int .i64 0) 0:=⟨rfl,by decide⟩
theorem At6 {S:Nat->Prop} {w:World} {t:TypeId} {g:Nat} {l:List Nat} (h:FB eH t S w g l):digH l:=by
 intro x hx
 obtain ⟨es,_,he⟩:=h
 obtain ⟨i,hi⟩:=List.mem_iff_getElem?.1 hx
 have hlt:i<l.length:=(List.getElem?_eq_some_iff.1 hi).1
 exact (he.2 i _ x (List.getElem?_eq_getElem (by rw [he.1];exact hlt)) hi).2
theorem AQ6:Ent Tryz.prog 243:=A0 Tryz.func243 (by kernel_rfl) rfl
theorem AP2 {S:Nat->Prop} {w:World} {va vb:Value} {m d:Nat} (up:Up S w) (ha:eHs.R S w va (hds m)) (hb:eHs.R S w vb (hds d)) (hla:(hds m).length<=10000000000) (hlb:(hds d).length<=10000000000) (hd:d≠0) :
  CR Tryz.prog 243 #[va,vb] w (Two (eHs.at S (hds (m / d))) (eHs.at S (hds (m % d)))):=by
 have hda:=AX1 m
 have hdb:=AX1 d
 have hva:=C9 m
 have hvb:=C9 d
 have hbne:(hds d).length≠0:=fun e=>hd (N7.1 (List.length_eq_zero_iff.1 e))
 have hbge:=hds_ge hd
 have hblt:=AV4 d
 generalize hds m=a at *
 generalize hds d=b at *
 have hA:∀ {W:World},Below w.heap.size w W->eHs.R (fun k=>S k/\k<w.heap.size) W va a:=fun hB=>eHs.keep (fun k c t f hk h=>(hB.block k hk.2).trans h) (ER.lt eHs ha)
 have hBb:∀ {W:World},Below w.heap.size w W->eHs.R (fun k=>S k/\k<w.heap.size) W vb b:=fun hB=>eHs.keep (fun k c t f hk h=>(hB.block k hk.2).trans h) (ER.lt eHs hb)
 refine enter Tryz.func243 O Tryz.ntmps243 O ?_
 refine .sr (.asg O O (.an O O ?_))
 refine .mid (α:=Unit) (fun _=>[(0,va),(1,vb)]) (fun _ W=>W=w/\(3<a.length\/3<b.length)) ?_ ?_
 ·refine .sr (.mv O O (.lenR un_H O O ha ?_))
  by_cases h1:a.length<=3
  ·refine .leqT O O O (by omega) (.mv O O (.gr O O O O (.mv O O (.gr O O O O (.lenR un_H O O hb (.gr O O O O ?_))))))
   by_cases h2:b.length<=3
   ·refine .leqT O O O (by omega) (.pick O O O (.nil (.condT O (.sr (.mv O O ?_)))))
    refine .call _ O O7 O (O4 ha h1) fun v1 w1 e1 r1=>.mv O O ?_
    subst r1
    refine .call _ O O7 O (O4 (hb.ext e1) h2) fun v2 w2 e2 r2=>?_
    subst r2
    rw [hva,hvb]
    have x2:=e1.trans e2
    have hm3:m<281474976710656:=by
     have:=Y7 hda
     have hp:65536 ^ a.length<=65536 ^ 3:=Nat.pow_le_pow_right (by omega) h1
     omega
    have hdle:m / d<=m:=Nat.div_le_self _ _
    have hmlt:m % d<=m:=Nat.mod_le _ _
    refine .quo O O O (by omega) ?_
    rw [L8,wI (by have h0:(0:Int)<=((m / d:Nat):Int):=Int.natCast_nonneg _;omega)]
    refine .call _ O AL7 O (AK1 (up.ext x2.size) (by omega)) fun v3 w3 e3 r3=>.mv O O ?_
    have x3:=x2.trans e3
    refine .call _ O O7 O (O4 (ha.ext x3) h1) fun v4 w4 e4 r4=>.mv O O ?_
    subst r4
    have x4:=x3.trans e4
    refine .call _ O O7 O (O4 (hb.ext x4) h2) fun v5 w5 e5 r5=>?_
    subst r5
    rw [hva,hvb]
    have x5:=x4.trans e5
    refine .rem O O O (by omega) ?_
    rw [L7]
    refine .call _ O AL7 O (AK1 (up.ext x5.size) (by omega)) fun v6 w6 e6 r6=>.asg O O (.an O O (.ret ?_))
    exact .plain [_,_] Tryz.results243 ⟨rfl,rfl,trivial⟩ ⟨x5.trans e6,v3,v6,rfl,ER.ext eHs (ER.ext eHs (ER.ext eHs r3 e4) e5) e6,r6⟩
   ·refine .leqF O O O (by omega) (.pick O O O (.nil (.condF O (.skip ?_))))
    exact ⟨rfl,(),lkA rfl,rfl,by omega⟩
  ·refine .leqF O O O (by omega) (.mv O O (.gs O O O O O (.gs O O O O O (.gs O O O O O (.pick O O O (.nil (.condF O (.skip ?_))))))))
   exact ⟨rfl,(),lkA rfl,rfl,by omega⟩
 rintro _ W ⟨hWw,hbig⟩
 have hWw:=hWw.symm
 subst hWw
 refine .sr (.mv O O (.lenR un_H O O ha ?_))
 refine .make_ _ _ un_H V9 O (by decide) O O O (Nat.le_refl _) (by omega) (by omega) fun w1 g n1=>.an O O ?_
 have f1:FB eH 3 S w1 g (List.replicate a.length 0):=FB.made n1 zero_H
 obtain ⟨e1,k1,hg,hs1⟩:=n1
 have hout:∀ {W2:World} {l:List Nat},FB eH 3 S W2 g l->l.length=a.length->eHs.R S W2 (.slice (some ⟨g,0,none⟩) a.length a.length) l:=by
  intro W2 l hF hl
  have:=hF.toR (c:=a.length) (hsz:=by decide) (up g (by omega)) (by omega) (by omega)
  rwa [hl] at this
 refine .seq (.sr (.mv O O (.lenR un_H O O (hBb e1) ?_)))
 by_cases hb1:b.length=1
 ·refine .eqlT O O O (by omega) (.nil (.condT O (.sr (.an O O ?_))))
  have hb0:b.getD 0 0=d:=by
   match b,hb1 with
   | [x],_=>simpa [valH] using hvb
  have hd16:d<65536:=by rw [hb1] at hblt;simpa using hblt
  have hgetb:=B7 (l:=b) (k:=0) (by omega)
  rw [hb0] at hgetb
  refine .mid (α:=List Nat×Nat) (fun p=>[(6,.slice (some ⟨g,0,none⟩) a.length a.length),(7,.int .i64 (p.2:Nat))]) (fun p W=>Below w.heap.size w W/\FB eH 3 S W g p.1/\p.1.length=a.length/\valH p.1=m / d/\p.2=m % d) ?_ ?_
  ·refine .sr (.mv O O (.lenR un_H O O (hA e1) (.sub O O O (.an O O ?_))))
   rw [wI (by omega)]
   refine .block (.loop (α:=Nat×List Nat×Nat) (fun x=>[(0,va),(1,vb),(6,.slice (some ⟨g,0,none⟩) a.length a.length),(7,.int .i64 (x.2.2:Nat)),(8,.int .i64 ((x.1:Nat)-1:Int))])
    (fun x W=>Below w.heap.size w W/\x.1<=a.length/\FB eH 3 S W g x.2.1/\x.2.1.length=a.length/\valH (x.2.1.drop x.1)=valH (a.drop x.1) / d/\x.2.2=valH (a.drop x.1) % d) (fun x=>x.1) (a.length,List.replicate a.length 0,0) ?_ ?_ ?_)
   ·exact lkA rfl
   ·refine ⟨e1,Nat.le_refl _,f1,by simp,?_,?_⟩
    ·show valH ((List.replicate a.length 0).drop a.length)=_
     rw [List.drop_eq_nil_of_le (by simp),List.drop_eq_nil_of_le (Nat.le_refl _)];simp [valH]
    ·show 0=_
     rw [List.drop_eq_nil_of_le (Nat.le_refl _)];simp [valH]
   ·rintro ⟨j,l,r⟩ W ⟨hB,hj,hF,hl,hq,hr⟩
    replace hB:Below w.heap.size w W:=hB
    replace hj:j<=a.length:=hj
    replace hF:FB eH 3 S W g l:=hF
    replace hl:l.length=a.length:=hl
    replace hq:valH (l.drop j)=valH (a.drop j) / d:=hq
    replace hr:r=valH (a.drop j) % d:=hr
    refine .weak [(0,va),(1,vb),(6,.slice (some ⟨g,0,none⟩) a.length a.length),(7,.int .i64 (r:Nat)),(8,.int .i64 ((j:Nat)-1:Int))] (fun t v h=>h) ?_
    have hsz:=hB.size
    have hgl:=hF.lt
    have hrd:r<d:=by rw [hr];exact Nat.mod_lt _ (by omega)
    refine .seq (.sr (.mv O O ?_))
    cases j with
    | zero =>
     refine .geqF O O O (by simp) (.nil (.condF O (.exit ?_)))
     rw [List.drop_zero,List.drop_zero,hva] at hq
     rw [List.drop_zero,hva] at hr
     exact ⟨rfl,(l,r),lkA rfl,hB,hF,hl,hq,hr⟩
    | succ i =>
     rw [show (((i+1:Nat):Int)-1)=(i:Int) by omega]
     have hx:=L3 hda i
     have hget:=B7 (l:=a) (k:=i) (by omega)
     have hdr:=V4 (l:=a) (k:=i) (by omega)
     have hst:=Ai9 (D:=valH (a.drop (i+1))) (x:=a.getD i 0) (by omega:0<d) hq hr
     rw [<-hdr] at hst
     generalize a.getD i 0=x at *
     refine .geqT O O O (by omega) (.nil (.condT O (.skip (.seq (.block (.sr (.mv O O (.mul O O O (.mv O O (.mv O O ?_))))))))))
     refine .ixN (i:=i) un_H A7 O O (hA hB) O hget fun p hp=>.ldE A7 O O hp fun e he=>?_
     obtain ⟨rfl,_⟩:=he
     refine .add O O O (.an O O ?_)
     rw [wI (n:=(r:Int)*65536) (by omega),wI (by omega),show (r:Int)*65536+(x:Int)=((x+65536*r:Nat):Int) by omega]
     generalize hy:x+65536*r=y at *
     have hyq:y / d<65536:=by
      rw [Nat.div_lt_iff_lt_mul (by omega)]
      have:65536*(r+1)<=65536*d:=Nat.mul_le_mul_left _ hrd
      omega
     have hyr:y % d<d:=Nat.mod_lt _ (by omega)
     obtain ⟨ad,cb,hvbs,_,hpt⟩:=RL.at_ (hBb hB) hgetb
     obtain ⟨eb,⟨rfl,_⟩,hadS,hadc⟩:=hpt
     have hcell:W.cell? (ad.add (0*1))=some (.int .i64 (d:Nat)):=hadc 0 _ rfl
     rw [G5] at hadS
     have hkeep:∀ {W':World},W'.heap[ad.block]?=W.heap[ad.block]?->W'.cell? (ad.add (0*1))=some (.int .i64 (d:Nat)):=fun h=>(AF0 (p:=ad.add (0*1)) (by rw [G5];exact h)).trans hcell
     refine .held follows false (fun W'=>W'.cell? (ad.add (0*1))=some (.int .i64 (d:Nat))) [some _,some _,some _,some vb,some (.pointer (some (ad.add (0*1)))),some (.int .i64 (d:Nat)),some (.int .i64 ((y / d:Nat):Int)),some _,some vb,some (.pointer (some (ad.add (0*1)))),some (.int .i64 (d:Nat)),some (.int .i64 ((y % d:Nat):Int)),none,none,none] (by kernel_rfl) ⟨
      fun _ _=>v_mv rfl,fun _ _=>v_mv rfl,fun _ _=>v_mv rfl,fun _ _=>v_mv rfl,
      fun _ _=>Aq8 (i:=0) un_H A7 (by rw [<-hvbs];rfl) O (by omega),fun _ h=>Aq6 A7 O h,fun _ _=>(AU3 O O (by omega)).eq (by rw [L8,wI (by have h0:(0:Int)<=((y / d:Nat):Int):=Int.natCast_nonneg _;omega)]),
      fun _ _=>v_mv rfl,fun _ _=>v_mv rfl,
      fun _ _=>Aq8 (i:=0) un_H A7 (by rw [<-hvbs];rfl) O (by omega),fun _ h=>Aq6 A7 O h,fun _ _=>(AU2 O O (by omega)).eq (by rw [L7]),trivial⟩ ?_
     intro W1 e1 hh1
     have hB1:Below w.heap.size w W1:=hB.trans (e1.mono hsz)
     have hI1:=hkeep (W':=W1) (by rw [hh1])
     refine .gv hI1 O (E6 (i:=i) un_H A7 O O (by omega)).gv ?_
     rintro _ W1' ⟨rfl,hW1'⟩
     have hW1':=hW1'.symm
     subst hW1'
     refine .gv hI1 O (X4 (E:=eH) (i:=i) (z:=y / d) (by decide) A7 O O (hF.ext e1) O (by omega) (Nat.zero_add _) ⟨rfl,hyq⟩) ?_
     rintro _ W2 ⟨hF2,u2⟩
     have hI2:=hkeep (W':=W2) (by rw [u2.block ad.block (by have:=hadS.2;omega),hh1])
     refine .gv hI2 O (v_as O).gv ?_
     rintro _ W2' ⟨rfl,hW2'⟩
     have hW2':=hW2'.symm
     subst hW2'
     refine .nil (.inr hI2) ?_
     refine .region (.mv O O (.sub O O O (.an O O ?_)))
     rw [wI (by omega)]
     refine ⟨rfl,(i,l.set i (y / d),y % d),lkA rfl,⟨u2.below hB1 (by omega),by show i<=a.length;omega,hF2,by show (l.set i _).length=_;simpa using hl,?_,hst.2.symm⟩,by show i<i+1;omega⟩
     show valH ((l.set i (y / d)).drop i)=valH (a.drop i) / d
     rw [AF5 (by omega),hst.1]
  ·rintro ⟨l,r⟩ W ⟨hB,hF,hl,hq,hr⟩
   replace hF:FB eH 3 S W g l:=hF
   replace hl:l.length=a.length:=hl
   replace hq:valH l=m / d:=hq
   replace hr:r=m % d:=hr
   have hrd:r<d:=by rw [hr];exact Nat.mod_lt _ (by omega)
   refine .sr (.mv O O ?_)
   refine .call _ O F1 O (E8 (hout hF hl)) fun v2 W2 e2 h2=>.mv O O (.bsl _ O O AN8 fun W3 b3 n3=>?_)
   have hB2:Below w.heap.size w W2:=hB.trans (e2.mono hB.size)
   rw [trimH (At6 hF),hq] at h2
   have hdr:digH [r]:=by intro x hx;simp at hx;omega
   have ho3:OwnH 3 W2.heap.size W3 (.slice (some ⟨b3,0,none⟩) 1 1) [r]:=OwnH.lit (l:=[r]) n3 (Nat.le_refl _) hdr (by simp)
   refine .call _ O F1 O (E8 (S:=S) (ho3.toR (fun k hk=>up k (by have:=hB2.size;omega)))) fun v4 W4 e4 h4=>.asg O O (.an O O (.ret ?_))
   rw [trimH hdr,show valH [r]=m % d by simp [valH,hr]] at h4
   have e24:=n3.1.trans e4
   exact .plain [_,_] Tryz.results243 ⟨rfl,rfl,trivial⟩ ⟨hB2.trans (e24.mono hB2.size),v2,v4,rfl,ER.ext eHs h2 e24,h4⟩
 ·refine .eqlF O O O (by omega) (.nil (.condF O (.skip (.sr (.an O O ?_)))))
  have hb2:2<=b.length:=by omega
  refine .mid (α:=List Nat×Value) (fun p=>[(6,.slice (some ⟨g,0,none⟩) a.length a.length),(9,p.2)]) (fun p W=>Below w.heap.size w W/\FB eH 3 S W g p.1/\p.1.length=a.length/\valH p.1=m / d/\eHs.R (fun k=>S k/\k≠g) W p.2 (hds (m % d))) ?_ ?_
  ·refine .sr (.mv O O (.lenR un_H O O (hA e1) (.sub O O O (.an O O ?_))))
   rw [wI (by omega)]
   refine .block (.loop (α:=Nat×List Nat×Value) (fun x=>[(0,va),(1,vb),(6,.slice (some ⟨g,0,none⟩) a.length a.length),(9,x.2.2),(10,.int .i64 ((x.1:Nat)-1:Int))])
    (fun x W=>Below w.heap.size w W/\x.1<=a.length/\FB eH 3 S W g x.2.1/\x.2.1.length=a.length/\valH (x.2.1.drop x.1)=valH (a.drop x.1) / d/\eHs.R (fun k=>S k/\k≠g) W x.2.2 (hds (valH (a.drop x.1) % d))) (fun x=>x.1) (a.length,List.replicate a.length 0,.slice none 0 0) ?_ ?_ ?_)
   ·exact lkA rfl
   ·refine ⟨e1,Nat.le_refl _,f1,by simp,?_,?_⟩
    ·show valH ((List.replicate a.length 0).drop a.length)=_
     rw [List.drop_eq_nil_of_le (by simp),List.drop_eq_nil_of_le (Nat.le_refl _)];simp [valH]
    ·show eHs.R _ _ _ (hds (valH (a.drop a.length) % d))
     rw [List.drop_eq_nil_of_le (Nat.le_refl _),valH,Nat.zero_mod,J6];exact RL.nil
   ·rintro ⟨j,l,u⟩ W ⟨hB,hj,hF,hl,hq,hu⟩
    replace hB:Below w.heap.size w W:=hB
    replace hj:j<=a.length:=hj
    replace hF:FB eH 3 S W g l:=hF
    replace hl:l.length=a.length:=hl
    replace hq:valH (l.drop j)=valH (a.drop j) / d:=hq
    replace hu:eHs.R (fun k=>S k/\k≠g) W u (hds (valH (a.drop j) % d)):=hu
    refine .weak [(0,va),(1,vb),(6,.slice (some ⟨g,0,none⟩) a.length a.length),(9,u),(10,.int .i64 ((j:Nat)-1:Int))] (fun t v h=>h) ?_
    have hsz:=hB.size
    have hgl:=hF.lt
    refine .seq (.sr (.mv O O ?_))
    cases j with
    | zero =>
     refine .geqF O O O (by simp) (.nil (.condF O (.exit ?_)))
     rw [List.drop_zero,List.drop_zero,hva] at hq
     rw [List.drop_zero,hva] at hu
     exact ⟨rfl,(l,u),lkA rfl,hB,hF,hl,hq,hu⟩
    | succ i =>
     rw [show (((i+1:Nat):Int)-1)=(i:Int) by omega]
     have hx:=L3 hda i
     have hget:=B7 (l:=a) (k:=i) (by omega)
     have hdr:=V4 (l:=a) (k:=i) (by omega)
     have hst:=Ai9 (D:=valH (a.drop (i+1))) (x:=a.getD i 0) (by omega:0<d) hq rfl
     rw [<-hdr] at hst
     generalize a.getD i 0=x at *
     have hR:valH (a.drop (i+1)) % d<d:=Nat.mod_lt _ (by omega)
     generalize hRR:valH (a.drop (i+1)) % d=R at *
     have hRl:(hds R).length<=b.length:=K6 (Nat.lt_trans hR hblt)
     have upT:∀ {W':World},Below w.heap.size w W'->g<W'.heap.size->Up (fun k=>S k/\k≠g) W':=fun hB' hg' k hk=>⟨up k (by have:=hB'.size;omega),by omega⟩
     refine .geqT O O O (by omega) (.nil (.condT O (.skip (.seq (.block (.sr (.mv O O (.mv O O ?_))))))))
     refine .ixN (i:=i) un_H A7 O O (hA hB) O hget fun p hp=>.ldE A7 O O hp fun e he=>?_
     obtain ⟨rfl,_⟩:=he
     refine .bsl _ O O AN8 fun W1 b1 n1=>.mv O O ?_
     have ho1:OwnH 3 W.heap.size W1 (.slice (some ⟨b1,0,none⟩) 1 1) [x]:=OwnH.lit (l:=[x]) n1 (Nat.le_refl _) (by intro y hy;simp at hy;omega) (by simp)
     refine .gv O O (g_appHs (base:=W.heap.size) un_H V9 O O ho1 (hu.ext n1.1) (by simp) (by omega) n1.1.size) ?_
     rintro v2 W2 ⟨ho2,hB2⟩
     have e2:Ext W W2:=Below.trans n1.1 hB2
     have hs2:=e2.size
     have hu2:eHs.R (fun k=>S k/\k≠g) W2 v2 ([x]++hds R):=ho2.toR (fun k hk=>⟨up k (by omega),by omega⟩)
     refine .call _ O F1 O (E8 hu2) fun v3 W3 e3 h3=>.an O O (.sr (.asg O O (.an O O ?_)))
     have hv3:valH ([x]++hds R)=x+65536*R:=by show valH (x::hds R)=_;rw [valH,C9]
     rw [trimH (R4 hu2),hv3] at h3
     have e23:=e2.trans e3
     have hs3:=e23.size
     have hB3:Below w.heap.size w W3:=hB.trans (e23.mono hsz)
     generalize hy:x+65536*R=y at *
     have hyd:y<65536*d:=by
      have:65536*(R+1)<=65536*d:=Nat.mul_le_mul_left _ hR
      omega
     have hylen:(hds y).length<=b.length+1:=K6 (by rw [Nat.pow_succ];omega)
     refine .mid (α:=Nat) (fun hi=>[(0,va),(1,vb),(6,.slice (some ⟨g,0,none⟩) a.length a.length),(9,v3),(10,.int .i64 (i:Nat)),(11,.int .i64 0),(12,.int .i64 (hi:Nat))]) (fun hi W'=>W'=W3/\1<=hi/\hi<=65536/\y<hi*d) ?_ ?_
     ·refine .sr (.mv O O (.lenR un_H O O h3 (.mv O O (.lenR un_H O O (hBb hB3) ?_))))
      by_cases hll:(hds y).length<b.length
      ·refine .lssT O O O (by omega) (.nil (.condT O (.region (.an O O ?_))))
       refine ⟨rfl,1,lkA rfl,rfl,Nat.le_refl _,by omega,?_⟩
       have h1:=AV4 y
       have h2:65536 ^ (hds y).length<=65536 ^ (b.length-1):=Nat.pow_le_pow_right (by omega) (by omega)
       omega
      ·refine .lssF O O O (by omega) (.nil (.condF O (.skip ?_)))
       exact ⟨rfl,65536,lkA rfl,rfl,by omega,Nat.le_refl _,hyd⟩
     ·rintro hi0 W3' ⟨hW3',hi1,hi2,hyhi⟩
      have hW3':=hW3'.symm
      subst hW3'
      refine .mid (α:=Nat) (fun lo=>[(0,va),(1,vb),(6,.slice (some ⟨g,0,none⟩) a.length a.length),(9,v3),(10,.int .i64 (i:Nat)),(11,.int .i64 (lo:Nat))]) (fun lo W'=>Ext W3 W'/\lo<65536/\lo=y / d) ?_ ?_
      ·refine .block (.loop (α:=Nat×Nat) (fun z=>[(0,va),(1,vb),(6,.slice (some ⟨g,0,none⟩) a.length a.length),(9,v3),(10,.int .i64 (i:Nat)),(11,.int .i64 (z.1:Nat)),(12,.int .i64 (z.2:Nat))]) (fun z W'=>Ext W3 W'/\z.1<z.2/\z.2<=65536/\z.1*d<=y/\y<z.2*d) (fun z=>z.2-z.1) (0,hi0) ?_ ?_ ?_)
       ·exact lkA rfl
       ·exact ⟨.refl _,hi1,hi2,by show 0*d<=y;omega,hyhi⟩
       ·rintro ⟨lo,hi⟩ W4 ⟨e4,hlh,hh,hlo,hhi⟩
        replace e4:Ext W3 W4:=e4
        replace hlh:lo<hi:=hlh
        replace hh:hi<=65536:=hh
        replace hlo:lo*d<=y:=hlo
        replace hhi:y<hi*d:=hhi
        refine .weak [(0,va),(1,vb),(6,.slice (some ⟨g,0,none⟩) a.length a.length),(9,v3),(10,.int .i64 (i:Nat)),(11,.int .i64 (lo:Nat)),(12,.int .i64 (hi:Nat))] (fun t v h=>h) ?_
        have hB4:Below w.heap.size w W4:=hB3.trans (e4.mono hB3.size)
        have hs4:=e4.size
        refine .seq (.sr (.mv O O (.mv O O (.sub O O O ?_))))
        rw [wI (by omega)]
        by_cases hgo:lo+1<hi
        ·refine .gtrT O O O (by omega) (.nil (.condT O (.skip (.block (.sr (.mv O O (.mv O O (.add O O O (.quo O O O (by decide) (.an O O ?_))))))))))
         rw [wI (n:=(lo:Int)+(hi:Int)) (by omega),show ((lo:Int)+(hi:Int)).tdiv 2=(((lo+hi) / 2:Nat):Int) by rw [<-Int.natCast_add];exact L8 (lo+hi) 2,wI (by omega)]
         generalize hmid:(lo+hi) / 2=mid at *
         refine .sr (.mv O O (.mv O O ?_))
         have hbT:eHs.R (fun k=>S k/\k≠g) W4 vb b:=eHs.mono (fun k _ hk=>⟨hk.1,by have:=hk.2;omega⟩) (hBb hB4)
         refine .call _ O AG4 O (AF6 (upT hB4 (by omega)) hbT (by omega) (show mid<=65536 by omega)) fun v5 W5 e5 h5=>.mv O O ?_
         rw [hvb] at h5
         have hml:(hds (d*mid)).length<=b.length+1:=K6 (by
          rw [Nat.pow_succ]
          have:d*mid<=d*65536:=Nat.mul_le_mul_left _ (by omega)
          omega)
         refine .call _ O AQ7 O (AP3 h5 ((h3.ext e4).ext e5) (by omega) (by omega)) fun v6 W6 e6 h6=>?_
         subst h6
         rw [C9,C9,Nat.mul_comm d mid]
         have e46:=(e4.trans e5).trans e6
         by_cases hc:mid*d<=y
         ·refine .leqT O O O (by unfold cmpN;split<;>(try split)<;>omega) (.nil (.condT O (.region (.mv O O (.an O O ?_)))))
          exact ⟨rfl,(mid,hi),lkA rfl,⟨e46,by show mid<hi;omega,hh,hc,hhi⟩,by show hi-mid<hi-lo;omega⟩
         ·refine .leqF O O O (by unfold cmpN;rw [if_neg (by omega),if_pos (by omega)];decide) (.nil (.condF O (.region (.mv O O (.an O O ?_)))))
          exact ⟨rfl,(lo,mid),lkA rfl,⟨e46,by show lo<mid;omega,by show mid<=65536;omega,hlo,by show y<mid*d;omega⟩,by show mid-lo<hi-lo;omega⟩
        ·refine .gtrF O O O (by omega) (.nil (.condF O (.exit ?_)))
         refine ⟨rfl,lo,lkA rfl,e4,by show lo<65536;omega,?_⟩
         have h1:hi=lo+1:=by omega
         rw [h1] at hhi
         symm
         exact (Nat.div_eq_iff (by omega)).2 ⟨by omega,by rw [Nat.add_mul] at hhi;omega⟩
      ·rintro lo W4 ⟨e4,hlo,hlod⟩
       have hB4:Below w.heap.size w W4:=hB3.trans (e4.mono hB3.size)
       have hs4:=e4.size
       have hbT:eHs.R (fun k=>S k/\k≠g) W4 vb b:=eHs.mono (fun k _ hk=>⟨hk.1,by have:=hk.2;omega⟩) (hBb hB4)
       refine .region (.mv O O (.mv O O (.mv O O (.mv O O (.mv O O (.mv O O ?_))))))
       refine .call _ O AG4 O (AF6 (upT hB4 (by omega)) hbT (by omega) (show lo<=65536 by omega)) fun v5 W5 e5 h5=>?_
       rw [hvb] at h5
       have e45:=e4.trans e5
       have hB5:Below w.heap.size w W5:=hB3.trans (e45.mono hB3.size)
       have hs5:=e5.size
       have hdl:d*lo<=y:=by rw [hlod];exact Nat.mul_div_le y d
       refine .call _ O AQ5 O (AP1 (upT hB5 (by omega)) (h3.ext e45) h5 (by omega) (by rw [C9,C9];exact hdl)) fun v6 W6 e6 h6=>?_
       rw [C9,C9] at h6
       have hmod:y-d*lo=y % d:=by rw [hlod];have:=Nat.div_add_mod y d;omega
       rw [hmod] at h6
       have e36:=e45.trans e6
       have hB6:Below w.heap.size w W6:=hB3.trans (e36.mono hB3.size)
       have eW6:=e23.trans e36
       refine .ixB (i:=i) un_H A7 O O O (by omega) ?_
       refine .storeF (E:=eH) (i:=i) (z:=lo) (by decide) A7 O O (hF.ext eW6) O (by omega) (Nat.zero_add _) ⟨rfl,hlo⟩ fun W7 hF7 u7=>.an O O ?_
       refine .region (.mv O O (.sub O O O (.an O O ?_)))
       rw [wI (by omega)]
       refine ⟨rfl,(i,l.set i lo,v6),lkA rfl,⟨u7.below hB6 (by omega),by show i<=a.length;omega,hF7,by show (l.set i _).length=_;simpa using hl,?_,?_⟩,by show i<i+1;omega⟩
       ·show valH ((l.set i lo).drop i)=valH (a.drop i) / d
        rw [AF5 (by omega),hst.1,hlod]
       ·show eHs.R _ W7 v6 (hds (valH (a.drop i) % d))
        rw [hst.2]
        exact ER.upd eHs h6 u7 (fun h=>h.2 O)
  ·rintro ⟨l,u⟩ W ⟨hB,hF,hl,hq,hu⟩
   replace hF:FB eH 3 S W g l:=hF
   replace hl:l.length=a.length:=hl
   replace hq:valH l=m / d:=hq
   replace hu:eHs.R (fun k=>S k/\k≠g) W u (hds (m % d)):=hu
   refine .sr (.mv O O ?_)
   refine .call _ O F1 O (E8 (hout hF hl)) fun v2 W2 e2 h2=>.mv O O (.asg O O (.an O O (.ret ?_)))
   rw [trimH (At6 hF),hq] at h2
   exact .plain [_,_] Tryz.results243 ⟨rfl,rfl,trivial⟩ ⟨hB.trans (e2.mono hB.size),v2,u,rfl,h2,eHs.mono (fun k _ hk=>hk.1) (ER.ext eHs hu e2)⟩
end Go.Proofs.YtggegpiffjbngaaGreat
namespace Go.Kx
theorem sg_neg (n:Bool) (v:Nat):sg (!n) v = -(sg n v):=by cases n<;>simp [sg]
theorem AQ0 {A B K:Nat} (h1:(hds A).length<=K) (h2:(hds B).length<=K):(hds (A+B)).length<=K+1:=by
 have a1:=AV4 A
 have a2:=AV4 B
 have b1:65536 ^ (hds A).length<=65536 ^ K:=Nat.pow_le_pow_right (by omega) h1
 have b2:65536 ^ (hds B).length<=65536 ^ K:=Nat.pow_le_pow_right (by omega) h2
 exact K6 (by rw [Nat.pow_succ];omega)
theorem sign_sg {n:Bool} {v:Nat} (h:v≠0):(sg n v).sign=if n then -1 else 1:=by
 cases n
 ·simp only [sg,Bool.false_eq_true,if_false];rw [Int.sign_eq_one_of_pos (by omega)]
 ·simp only [sg,if_true];rw [Int.sign_eq_neg_one_of_neg (by omega)]
theorem X9 (z:ZV):zval z=sg z.neg (val z.w):=rfl
theorem An3 {l:List Nat} {L:Nat} (h:l.length<=L):(hds (val l)).length<=2*L\/¬ dig l:=by
 by_cases hd:dig l
 ·left
  have h1:=Y7 (AX0 hd)
  rw [AU0,AI0] at h1
  have:=K6 h1
  omega
 ·exact .inr hd
end Go.Kx
namespace Go.Proofs.YtggegpiffjbngaaGreat
open Go Go.Kx Go.RowKit
theorem I1 {S:Nat->Prop} {w:World} {v:Value} {l:List Nat} (up:Up S w) (h:eW.R S w v l) (hl:l.length<=1000000000):CR Tryz.prog 198 #[v] w (eHs.at S (hds (val l))):=by
 have:=AB5 up h (by omega)
 rwa [trimH (AX0 (D3 h)),AU0] at this
theorem AC2 {S:Nat->Prop} {w:World} {v:Value} {l:List Nat} (h:eW.R S w v l) (hl:l.length<=1000000000):(hds (val l)).length<=2000000000:=by
 rcases An3 hl with h' | h'
 ·exact h'
 ·exact absurd (D3 h) h'
theorem I4:Ent Tryz.prog 151:=A0 Tryz.func151 (by kernel_rfl) rfl
theorem I2 {S:Nat->Prop} {w:World} {v:Value} {a:ZV} (up:Up S w) (h:eZ.R S w v a) (hl:a.w.length<=1000000000):CR Tryz.prog 151 #[v] w (Is (.int .i64 (zval a).sign)):=by
 obtain ⟨s,rfl,hs⟩:=h
 refine enter Tryz.func151 O Tryz.ntmps151 O ?_
 refine .sr (.box O O fun w1 b1 n1=>.an O O ?_)
 obtain ⟨e1,k1,hb1,hs1⟩:=n1
 refine .seq (.sr (.fa D0 O O (.ld ty_W O O k1 O ?_)))
 refine .call _ O D2 O (I1 (up.ext e1.size) (hs.ext e1) hl) fun v2 w2 e2 h2=>.lenR un_H O O h2 ?_
 have x2:=e1.trans e2
 by_cases h0:val a.w=0
 ·rw [h0,J6]
  refine .eqlT O O O O (.nil (.condT O (.sr (.an O O (.ret ?_)))))
  refine .plain [_] Tryz.results151 ⟨rfl,trivial⟩ ⟨x2,isI ?_⟩
  rw [X9,h0];cases a.neg<;>rfl
 ·have hne:(hds (val a.w)).length≠0:=fun e=>h0 (N7.1 (List.length_eq_zero_iff.1 e))
  refine .eqlF O O O (by omega) (.nil (.condF O (.skip ?_)))
  refine .seq (.sr (.fa G2 O O (.ld E4 O O (k1.ext e2) O (.nil ?_))))
  have hz:(zval a).sign=if a.neg then -1 else 1:=by rw [X9];exact sign_sg h0
  cases hn:a.neg with
  | true =>
   rw [hn] at hz
   refine .condT O (.sr (.an O O (.ret ?_)))
   exact .plain [_] Tryz.results151 ⟨rfl,trivial⟩ ⟨x2,isI (by rw [hz];rfl)⟩
  | false =>
   rw [hn] at hz
   refine .condF O (.skip (.sr (.an O O (.ret ?_))))
   exact .plain [_] Tryz.results151 ⟨rfl,trivial⟩ ⟨x2,isI (by rw [hz];rfl)⟩
theorem Ak9:Ent Tryz.prog 199:=A0 Tryz.func199 (by kernel_rfl) rfl
theorem Ah3 {S:Nat->Prop} {w:World} {v:Value} {a:ZV} (up:Up S w) (h:eZ.R S w v a) (hl:a.w.length<=1000000000):CR Tryz.prog 199 #[v] w (eZ.at S (zc (-zval a))):=by
 obtain ⟨s,rfl,hs⟩:=h
 refine enter Tryz.func199 O Tryz.ntmps199 O ?_
 refine .sr (.box O O fun w1 b1 n1=>.alloc O B6 fun w2 b2 n2=>.nil ?_)
 obtain ⟨e1,k1,hb1,hs1⟩:=n1
 obtain ⟨e2,k2,hb2,hs2⟩:=n2
 have x2:=e1.trans e2
 have k1:=k1.ext e2
 have hS2:¬ Sx S w.heap.size w2.heap.size b2:=Sx.no (by omega) (by omega)
 have up2:Up (Sx S w.heap.size w2.heap.size) w2:=Sx.up up (Nat.le_refl _) x2.size
 have hs2':=(ER.par eW hs w2.heap.size).ext x2
 refine .seq ?_
 refine .par follows 6 [.inl _,.inl (.bool a.neg),.inl _,.inl _,.inl s,.inr (eHs.at (Sx S w.heap.size w2.heap.size) (hds (val a.w)))] [[],[(3,0)],[(4,1)],[],[(6,3)],[(7,4)]] (by kernel_rfl) ⟨
  fun w e=>(v_fa G2 O).ob,fun w e=>(v_ld E4 O (k1.ext e) O).ob,fun w e=>(AZ6 O).ob,fun w e=>(v_fa D0 O).ob,fun w e=>(v_ld ty_W O (k1.ext e) O).ob,
  fun w e=>(A1 _ D2 O (I1 (up2.ext e.size) (hs2'.ext e) hl)).ob (A6 _ _ _),trivial⟩ ?_
 intro w3 e3 x5 hx5
 have hlen:=AC2 hs hl
 refine .call _ O O0 O (N6 (up2.ext e3.size) hx5 (by omega)) fun v4 w4 e4 h4=>?_
 rw [C9,sg_neg,<-X9] at h4
 refine .storeA (E:=eZ) ty_Z O O ((k2.ext e3).ext e4) O O h4 hS2 fun w5 k5 u5 h5=>.nil (.ret ?_)
 exact .cell Tryz.results199 O ty_Z O O k5 h5 ⟨u5.below ((x2.trans e3).trans e4) (by omega),h5.out⟩
theorem Al2:Ent Tryz.prog 202:=A0 Tryz.func202 (by kernel_rfl) rfl
theorem Ah6 {S:Nat->Prop} {w:World} {v:Value} {a:ZV} (up:Up S w) (h:eZ.R S w v a) (hl:a.w.length<=1000000000):CR Tryz.prog 202 #[v] w (eZ.at S (zc (val a.w))):=by
 obtain ⟨s,rfl,hs⟩:=h
 refine enter Tryz.func202 O Tryz.ntmps202 O ?_
 refine .sr (.box O O fun w1 b1 n1=>.alloc O B6 fun w2 b2 n2=>.nil ?_)
 obtain ⟨e1,k1,hb1,hs1⟩:=n1
 obtain ⟨e2,k2,hb2,hs2⟩:=n2
 have x2:=e1.trans e2
 have k1:=k1.ext e2
 have hS2:¬ Sx S w.heap.size w2.heap.size b2:=Sx.no (by omega) (by omega)
 have up2:Up (Sx S w.heap.size w2.heap.size) w2:=Sx.up up (Nat.le_refl _) x2.size
 have hs2':=(ER.par eW hs w2.heap.size).ext x2
 refine .sr (.fa D0 O O (.ld ty_W O O k1 O ?_))
 refine .call _ O D2 O (I1 up2 hs2' hl) fun v3 w3 e3 h3=>?_
 have hlen:=AC2 hs hl
 refine .call _ O O0 O (N6 (up2.ext e3.size) h3 (by omega)) fun v4 w4 e4 h4=>?_
 rw [C9] at h4
 refine .storeA (E:=eZ) ty_Z O O ((k2.ext e3).ext e4) O O h4 hS2 fun w5 k5 u5 h5=>.nil (.ret ?_)
 exact .cell Tryz.results202 O ty_Z O O k5 h5 ⟨u5.below ((x2.trans e3).trans e4) (by omega),h5.out⟩
end Go.Proofs.YtggegpiffjbngaaGreat
namespace Go.Kx
theorem BD3 (a b:Nat):Nat.gcd b (a % b)=Nat.gcd a b:=by rw [Nat.gcd_comm b (a % b),<-Nat.gcd_rec,Nat.gcd_comm]
theorem Ax1 {a b:ZV} (hs:(zval a).sign=(zval b).sign):cmpI (zval a) (zval b)=if (zval a).sign<0 then 0-cmpN (val a.w) (val b.w) else cmpN (val a.w) (val b.w):=by
 have h1:=H7 a
 have h2:=H7 b
 generalize zval a=x at *
 generalize zval b=y at *
 rw [<-h1,<-h2]
 rcases Int.lt_trichotomy x 0 with h | h | h
 ·have e:=Int.sign_eq_neg_one_of_neg h
  rw [e] at hs ⊢
  have hy:y<0:=Int.sign_eq_neg_one_iff_neg.1 hs.symm
  rw [if_pos (by decide)]
  unfold cmpI cmpN
  split<;>split<;>(try split)<;>(try split)<;>omega
 ·subst h
  rw [Int.sign_zero] at hs ⊢
  have hy:y=0:=Int.sign_eq_zero_iff_zero.1 hs.symm
  subst hy
  decide
 ·have e:=Int.sign_eq_one_of_pos h
  rw [e] at hs ⊢
  have hy:0<y:=Int.sign_eq_one_iff_pos.1 hs.symm
  rw [if_neg (by decide)]
  unfold cmpI cmpN
  split<;>split<;>(try split)<;>(try split)<;>omega
theorem cmpI_ne {x y:Int} (hs:x.sign≠y.sign):cmpI x y=if x.sign<y.sign then -1 else 1:=by
 have hx:=Int.lt_trichotomy x 0
 have hy:=Int.lt_trichotomy y 0
 unfold cmpI
 rcases hx with h | h | h<;>rcases hy with h' | h' | h'<;>first
  | (rw [Int.sign_eq_neg_one_of_neg h,Int.sign_eq_neg_one_of_neg h'] at hs;exact absurd O hs)
  | (rw [Int.sign_eq_one_of_pos h,Int.sign_eq_one_of_pos h'] at hs;exact absurd O hs)
  | (rw [h,h'] at hs;exact absurd O hs)
  | (simp only [h,h',Int.sign_eq_neg_one_of_neg,Int.sign_eq_one_of_pos,Int.sign_zero];(try split)<;>(try split)<;>(try simp_all)<;>omega)
end Go.Kx
namespace Go.Proofs.YtggegpiffjbngaaGreat
open Go Go.Kx Go.RowKit
theorem Al0:Ent Tryz.prog 203:=A0 Tryz.func203 (by kernel_rfl) rfl
theorem Ah4 {S:Nat->Prop} {w:World} {va vb:Value} {a b:ZV} (up:Up S w) (ha:eZ.R S w va a) (hb:eZ.R S w vb b) (hla:a.w.length<=1000000000) (hlb:b.w.length<=1000000000):CR Tryz.prog 203 #[va,vb] w (eZ.at S (zc (Nat.gcd (val a.w) (val b.w):Nat))):=by
 obtain ⟨s,rfl,hs⟩:=ha
 obtain ⟨t,rfl,ht⟩:=hb
 refine enter Tryz.func203 O Tryz.ntmps203 O ?_
 refine .sr (.box O O fun w1 b2 n1=>.box O O fun w2 b3 n2=>.alloc O B6 fun w3 b4 n3=>.nil ?_)
 obtain ⟨e1,k2,hb2,hs1⟩:=n1
 obtain ⟨e2,k3,hb3,hs2⟩:=n2
 obtain ⟨e3,k4,hb4,hs3⟩:=n3
 have x3:=(e1.trans e2).trans e3
 have k2:=(k2.ext e2).ext e3
 have k3:=k3.ext e3
 have hS4:¬ Sx S w.heap.size w3.heap.size b4:=Sx.no (by omega) (by omega)
 have up3:Up (Sx S w.heap.size w3.heap.size) w3:=Sx.up up (Nat.le_refl _) x3.size
 have hs':=(ER.par eW hs w3.heap.size).ext x3
 have ht':=(ER.par eW ht w3.heap.size).ext x3
 have l1:=AC2 hs hla
 have l2:=AC2 ht hlb
 have hout:∀ {W:World} {v:Value} {z:ZV},eZ.R (Sx S w.heap.size w3.heap.size) W v z->eZ.R S W v z:=fun h=>h.out
 generalize hT:Sx S w.heap.size w3.heap.size=T at *
 refine .seq ?_
 refine .par follows 6 [.inl _,.inl s,.inr (eHs.at T (hds (val a.w))),.inl _,.inl t,.inr (eHs.at T (hds (val b.w)))] [[],[(9,0)],[(10,1)],[],[(12,3)],[(13,4)]] (by kernel_rfl) ⟨
  fun w e=>(v_fa D0 O).ob,fun w e=>(v_ld ty_W O (k2.ext e) O).ob,fun w e=>(A1 _ D2 O (I1 (up3.ext e.size) (hs'.ext e) hla)).ob (A6 _ _ _),
  fun w e=>(v_fa D0 O).ob,fun w e=>(v_ld ty_W O (k3.ext e) O).ob,fun w e=>(A1 _ D2 O (I1 (up3.ext e.size) (ht'.ext e) hlb)).ob (A6 _ _ _),trivial⟩ ?_
 intro w4 e4 x hx y hy
 refine .asg O O (.an O O ?_)
 generalize val a.w=A at *
 generalize val b.w=B at *
 refine .mid (α:=Value) (fun p=>[(4,.pointer (some ⟨b4,0,none⟩)),(5,p)]) (fun p W=>Ext w4 W/\eHs.R T W p (hds (Nat.gcd A B))) ?_ ?_
 ·refine .block (.loop (α:=(Nat×Nat)×Value×Value) (fun p=>[(4,.pointer (some ⟨b4,0,none⟩)),(5,p.2.1),(6,p.2.2)])
   (fun p W=>Ext w4 W/\eHs.R T W p.2.1 (hds p.1.1)/\eHs.R T W p.2.2 (hds p.1.2)/\(hds p.1.1).length<=2000000000/\(hds p.1.2).length<=2000000000/\Nat.gcd p.1.1 p.1.2=Nat.gcd A B) (fun p=>p.1.2) ((A,B),x,y) ?_ ?_ ?_)
  ·exact lkA rfl
  ·exact ⟨.refl _,hx,hy,l1,l2,rfl⟩
  ·rintro ⟨⟨m,n⟩,u,v⟩ W ⟨hW,hu,hv,hm,hn,hg⟩
   replace hW:Ext w4 W:=hW
   replace hu:eHs.R T W u (hds m):=hu
   replace hv:eHs.R T W v (hds n):=hv
   replace hm:(hds m).length<=2000000000:=hm
   replace hn:(hds n).length<=2000000000:=hn
   replace hg:Nat.gcd m n=Nat.gcd A B:=hg
   refine .weak [(4,.pointer (some ⟨b4,0,none⟩)),(5,u),(6,v)] (fun t v h=>h) ?_
   refine .seq (.sr (.mv O O (.lenR un_H O O hv ?_)))
   by_cases h0:n=0
   ·subst h0
    rw [J6]
    refine .gtrF O O O (by simp) (.nil (.condF O (.exit ?_)))
    rw [Nat.gcd_zero_right] at hg
    exact ⟨rfl,u,lkA rfl,hW,hg▸hu⟩
   ·have hne:(hds n).length≠0:=fun e=>h0 (N7.1 (List.length_eq_zero_iff.1 e))
    refine .gtrT O O O (by omega) (.nil (.condT O (.skip (.block (.sr (.mv O O (.mv O O ?_)))))))
    refine .call _ O AQ6 O (AP2 ((up3.ext e4.size).ext hW.size) hu hv (by omega) (by omega) h0) fun z W2 f2 h2=>?_
    obtain ⟨vq,vr,rfl,hq,hr⟩:=h2
    refine .mv O O (.ext O O O (.ext O O O (.asg O O (.an O O ?_))))
    refine .region (.mv O O (.mv O O (.asg O O (.an O O ?_))))
    have hlt:m % n<n:=Nat.mod_lt _ (by omega)
    exact ⟨rfl,((n,m % n),v,vr),lkA rfl,⟨hW.trans f2,ER.ext eHs hv f2,hr,hn,Nat.le_trans (M7 (Nat.le_of_lt hlt)) hn,(BD3 m n).trans hg⟩,hlt⟩
 ·rintro u W ⟨hW,hu⟩
  have e5:=e4.trans hW
  have lg:(hds (Nat.gcd A B)).length<=2000000001:=by
   have h1:Nat.gcd A B<=A+B:=by
    rcases Nat.eq_zero_or_pos A with h | h
    ·subst h;rw [Nat.gcd_zero_left];omega
    ·have:=Nat.gcd_le_left B h;omega
   exact Nat.le_trans (M7 h1) (AQ0 l1 l2)
  refine .sr (.mv O O ?_)
  refine .call _ O O0 O (N6 (up3.ext e5.size) hu (by omega)) fun v6 w6 e6 h6=>?_
  rw [C9] at h6
  have e56:=e5.trans e6
  refine .storeA (E:=eZ) ty_Z O O (k4.ext e56) O O h6 hS4 fun w7 k7 u7 h7=>.nil (.ret ?_)
  exact .cell Tryz.results203 O ty_Z O O k7 h7 ⟨u7.below (x3.trans e56) (by omega),hout h7⟩
theorem AQ8:Ent Tryz.prog 204:=A0 Tryz.func204 (by kernel_rfl) rfl
theorem AP4 {S:Nat->Prop} {w:World} {va vb:Value} {a b:ZV} (up:Up S w) (ha:eZ.R S w va a) (hb:eZ.R S w vb b) (hla:a.w.length<=1000000000) (hlb:b.w.length<=1000000000) (hb0:zval b≠0) :
  CR Tryz.prog 204 #[va,vb] w (Three (eZ.at S (zc (zval a / zval b))) (eZ.at S (zc (zval a % zval b))) (Is (.int .i64 0))):=by
 obtain ⟨s,rfl,hs⟩:=ha
 obtain ⟨t,rfl,ht⟩:=hb
 refine enter Tryz.func204 O Tryz.ntmps204 O ?_
 refine .sr (.box O O fun w1 b2 n1=>.box O O fun w2 b3 n2=>.alloc O B6 fun w3 b4 n3=>.alloc O B6 fun w4 b5 n4=>.an O O ?_)
 obtain ⟨e1,k2,hb2,hs1⟩:=n1
 obtain ⟨e2,k3,hb3,hs2⟩:=n2
 obtain ⟨e3,k4,hb4,hs3⟩:=n3
 obtain ⟨e4,k5,hb5,hs4⟩:=n4
 have x4:=((e1.trans e2).trans e3).trans e4
 have k2:=((k2.ext e2).ext e3).ext e4
 have k3:=(k3.ext e3).ext e4
 have k4:=k4.ext e4
 have hS4:¬ Sx S w.heap.size w4.heap.size b4:=Sx.no (by omega) (by omega)
 have hS5:¬ Sx S w.heap.size w4.heap.size b5:=Sx.no (by omega) (by omega)
 have hne:b5≠b4:=by omega
 have up4:Up (Sx S w.heap.size w4.heap.size) w4:=Sx.up up (Nat.le_refl _) x4.size
 have hs':=(ER.par eW hs w4.heap.size).ext x4
 have ht':=(ER.par eW ht w4.heap.size).ext x4
 have l1:=AC2 hs hla
 have l2:=AC2 ht hlb
 have hout:∀ {W:World} {v:Value} {z:ZV},eZ.R (Sx S w.heap.size w4.heap.size) W v z->eZ.R S W v z:=fun h=>h.out
 generalize hT:Sx S w.heap.size w4.heap.size=T at *
 refine .seq ?_
 refine .par follows 6 [.inl _,.inl s,.inr (eHs.at T (hds (val a.w))),.inl _,.inl t,.inr (eHs.at T (hds (val b.w)))] [[],[(11,0)],[(12,1)],[],[(14,3)],[(15,4)]] (by kernel_rfl) ⟨
  fun w e=>(v_fa D0 O).ob,fun w e=>(v_ld ty_W O (k2.ext e) O).ob,fun w e=>(A1 _ D2 O (I1 (up4.ext e.size) (hs'.ext e) hla)).ob (A6 _ _ _),
  fun w e=>(v_fa D0 O).ob,fun w e=>(v_ld ty_W O (k3.ext e) O).ob,fun w e=>(A1 _ D2 O (I1 (up4.ext e.size) (ht'.ext e) hlb)).ob (A6 _ _ _),trivial⟩ ?_
 intro w5 e5 x hx y hy
 refine .asg O O (.an O O ?_)
 have hB0:0<val b.w:=by
  rcases Nat.eq_zero_or_pos (val b.w) with h | h
  ·exact absurd (by unfold zval sg;rw [h];simp) hb0
  ·exact h
 have eva:=X9 a
 have evb:=X9 b
 generalize val a.w=A at *
 generalize val b.w=B at *
 have hne0:(hds B).length≠0:=fun e=>by have:=N7.1 (List.length_eq_zero_iff.1 e);omega
 refine .seq (.sr (.mv O O (.lenR un_H O O hy (.eqlF O O O (by omega) (.nil (.condF O (.skip ?_)))))))
 have up5:=up4.ext e5.size
 refine .sr (.mv O O (.mv O O ?_))
 refine .call _ O AQ6 O (AP2 up5 hx hy (by omega) (by omega) (by omega)) fun z w6 e6 h6=>?_
 obtain ⟨vq,vr,rfl,hq,hr⟩:=h6
 refine .mv O O (.ext O O O (.ext O O O (.asg O O (.an O O ?_))))
 have e56:=e5.trans e6
 have x6:=x4.trans e56
 have up6:=up5.ext e6.size
 have k2:=k2.ext e56
 have k3:=k3.ext e56
 have k4:=k4.ext e56
 have k5:=k5.ext e56
 have hy6:=ER.ext eHs hy e6
 have lq:(hds (A / B)).length<=2000000000:=Nat.le_trans (M7 (Nat.div_le_self _ _)) l1
 have lr:(hds (A % B)).length<=2000000000:=Nat.le_trans (M7 (Nat.mod_le _ _)) l1
 refine .mid (α:=(Nat×Nat)×Value×Value) (fun z=>[(2,.pointer (some ⟨b2,0,none⟩)),(3,.pointer (some ⟨b3,0,none⟩)),(4,.pointer (some ⟨b4,0,none⟩)),(5,.pointer (some ⟨b5,0,none⟩)),(9,z.2.1),(10,z.2.2)])
  (fun z W=>Ext w6 W/\eHs.R T W z.2.1 (hds z.1.1)/\eHs.R T W z.2.2 (hds z.1.2)/\(hds z.1.1).length<=2000000002/\(hds z.1.2).length<=2000000002/\zval a / zval b=sg (a.neg != b.neg) z.1.1/\zval a % zval b=sg false z.1.2) ?_ ?_
 ·refine .sr (.fa G2 O O (.ld E4 O O k2 O (.mv O O ?_)))
  cases hn:a.neg with
  | false =>
   refine .gs O O O O O (.gs O O O O O (.gs O O O O O (.pick O O O (.nil (.condF O (.skip ?_))))))
   obtain ⟨d1,d2⟩:=Z7 (p:=false) (q:=b.neg) (A:=A) hB0 (.inl rfl)
   refine ⟨rfl,((A / B,A % B),vq,vr),lkA rfl,.refl _,hq,hr,Nat.le_trans lq (by omega),Nat.le_trans lr (by omega),?_,?_⟩
   ·rw [eva,evb,hn];exact d1
   ·rw [eva,evb,hn];exact d2
  | true =>
   refine .gr O O O O (.mv O O (.gr O O O O (.lenR un_H O O hr (.gr O O O O ?_))))
   by_cases h0:A % B=0
   ·rw [h0,J6]
    refine .gtrF O O O (by simp) (.pick O O O (.nil (.condF O (.skip ?_))))
    obtain ⟨d1,d2⟩:=Z7 (p:=true) (q:=b.neg) (A:=A) hB0 (.inr h0)
    refine ⟨rfl,((A / B,A % B),vq,vr),lkA rfl,.refl _,hq,hr,Nat.le_trans lq (by omega),Nat.le_trans lr (by omega),?_,?_⟩
    ·rw [eva,evb,hn];exact d1
    ·rw [eva,evb,hn];exact d2
   ·have hne:(hds (A % B)).length≠0:=fun e=>h0 (N7.1 (List.length_eq_zero_iff.1 e))
    refine .gtrT O O O (by omega) (.pick O O O (.nil (.condT O (.sr (.mv O O (.bsl _ O O AN8 fun w7 b7 n7=>?_))))))
    have hd1:digH [1]:=by intro x hx;simp at hx;omega
    have ho:OwnH 3 w6.heap.size w7 (.slice (some ⟨b7,0,none⟩) 1 1) [1]:=OwnH.lit (l:=[1]) n7 (Nat.le_refl _) hd1 (by simp)
    obtain ⟨e7,_,_,_⟩:=n7
    refine .call _ O Ak8 O (Ah2 (S:=T) (up6.ext e7.size) (ER.ext eHs hq e7) (ho.toR up6) (by omega) (by simp)) fun v8 w8 e8 h8=>.an O O ?_
    rw [C9,show valH [1]=1 by rfl] at h8
    have e78:=e7.trans e8
    refine .region (.mv O O (.mv O O ?_))
    have hm:=Nat.mod_lt A hB0
    refine .call _ O AQ5 O (AP1 (S:=T) (up6.ext e78.size) (ER.ext eHs hy6 e78) (ER.ext eHs hr e78) (by omega) (by rw [C9,C9];omega)) fun v9 w9 e9 h9=>.an O O ?_
    rw [C9,C9] at h9
    obtain ⟨d1,d2⟩:=AW8 (q:=b.neg) (A:=A) hB0 (by omega)
    refine ⟨rfl,((A / B+1,B-A % B),v8,v9),lkA rfl,e78.trans e9,ER.ext eHs h8 e9,h9,?_,?_,?_,?_⟩
    ·exact Nat.le_trans (AQ0 lq (B:=1) (Nat.le_trans (K6 (L:=1) (by decide)) (by omega))) (by omega)
    ·exact Nat.le_trans (M7 (Nat.sub_le _ _)) (by omega)
    ·rw [eva,evb,hn];exact d1
    ·rw [eva,evb,hn];exact d2
 ·rintro ⟨⟨q,r⟩,vq,vr⟩ W ⟨hW,hq,hr,lq,lr,d1,d2⟩
  replace hW:Ext w6 W:=hW
  replace hq:eHs.R T W vq (hds q):=hq
  replace hr:eHs.R T W vr (hds r):=hr
  replace lq:(hds q).length<=2000000002:=lq
  replace lr:(hds r).length<=2000000002:=lr
  replace d1:zval a / zval b=sg (a.neg != b.neg) q:=d1
  replace d2:zval a % zval b=sg false r:=d2
  refine .weak [(2,.pointer (some ⟨b2,0,none⟩)),(3,.pointer (some ⟨b3,0,none⟩)),(4,.pointer (some ⟨b4,0,none⟩)),(5,.pointer (some ⟨b5,0,none⟩)),(9,vq),(10,vr)] (fun t v h=>h) ?_
  have k2:=k2.ext hW
  have k3:=k3.ext hW
  have k4:=k4.ext hW
  have k5:=k5.ext hW
  have upW:=up6.ext hW.size
  refine .sr (.fa G2 O O (.ld E4 O O k2 O (.fa G2 O O (.ld E4 O O k3 O (.neqB AD6 O O O (.mv O O ?_))))))
  refine .call _ O O0 O (N6 upW hq (by omega)) fun v7 w7 e7 h7=>.mv O O ?_
  rw [C9,<-d1] at h7
  refine .call _ O O0 O (N6 (upW.ext e7.size) (ER.ext eHs hr e7) (by omega)) fun v8 w8 e8 h8=>?_
  rw [C9,<-d2] at h8
  have e78:=e7.trans e8
  refine .storeA (E:=eZ) ty_Z O O (k4.ext e78) O O (ER.ext eZ h7 e8) hS4 fun w9 k9 u9 h9=>?_
  refine .storeA (E:=eZ) ty_Z O O ((k5.ext e78).upd u9 hne) O O (ER.upd eZ h8 u9 hS4) hS5 fun w10 k10 u10 h10=>.an O O (.ret ?_)
  exact .plain [_,_,_] Tryz.results204 ⟨⟨_,rfl,C6 (E:=eZ) ty_Z O O (k9.upd u10 (Ne.symm hne)) (ER.upd eZ h9 u10 hS5)⟩,⟨_,rfl,C6 (E:=eZ) ty_Z O O k10 h10⟩,rfl,trivial⟩
   ⟨u10.below (u9.below ((x6.trans hW).trans e78) (by omega)) (by omega),_,_,_,rfl,hout (ER.upd eZ h9 u10 hS5),hout h10,rfl⟩
theorem Al1:Ent Tryz.prog 205:=A0 Tryz.func205 (by kernel_rfl) rfl
theorem Ah5 {S:Nat->Prop} {w:World} {va vb:Value} {a b:ZV} (up:Up S w) (ha:eZ.R S w va a) (hb:eZ.R S w vb b) (hla:a.w.length<=1000000000) (hlb:b.w.length<=1000000000):CR Tryz.prog 205 #[va,vb] w (Is (.int .i64 (cmpI (zval a) (zval b)))):=by
 have ha0:=ha
 have hb0:=hb
 obtain ⟨s,rfl,hs⟩:=ha
 obtain ⟨t,rfl,ht⟩:=hb
 refine enter Tryz.func205 O Tryz.ntmps205 O ?_
 refine .sr (.box O O fun w1 b2 n1=>.box O O fun w2 b3 n2=>.an O O ?_)
 obtain ⟨e1,k2,hb2,hs1⟩:=n1
 obtain ⟨e2,k3,hb3,hs2⟩:=n2
 have x2:=e1.trans e2
 have k2:=k2.ext e2
 have up2:=up.ext x2.size
 have ha2:=ER.ext eZ ha0 x2
 have hb2':=ER.ext eZ hb0 x2
 have eva:=X9 a
 have evb:=X9 b
 refine .seq (.seq ?_)
 refine .par follows 5 [.inl (.agg #[.bool a.neg,s]),.inl (.int .i64 (zval a).sign),.inl (.agg #[.bool b.neg,t]),.inl (.int .i64 (zval b).sign),.inl (.bool ((zval a).sign != (zval b).sign))] [[],[(6,0)],[],[(8,2)],[(7,1),(9,3)]] (by kernel_rfl) ⟨
  fun w e=>(B8 ty_Z O (k2.ext e) O).ob,fun w e=>A1 _ I4 O (I2 (up2.ext e.size) (ER.ext eZ ha2 e) hla),
  fun w e=>(B8 ty_Z O (k3.ext e) O).ob,fun w e=>A1 _ I4 O (I2 (up2.ext e.size) (ER.ext eZ hb2' e) hlb),fun w e=>(Ag1 O O).ob,trivial⟩ ?_
 intro w3 e3
 have x3:=x2.trans e3
 have up3:=up2.ext e3.size
 have k2:=k2.ext e3
 have k3:=k3.ext e3
 have ha3:=ER.ext eZ ha2 e3
 have hb3:=ER.ext eZ hb2' e3
 by_cases hsg:(zval a).sign=(zval b).sign
 ·rw [show ((zval a).sign != (zval b).sign)=false by simpa using hsg]
  refine .nil (.condF O (.skip (.seq ?_)))
  have hs':=ER.ext eW hs x3
  have ht':=ER.ext eW ht x3
  have l1:=AC2 hs hla
  have l2:=AC2 ht hlb
  have hc:=Ax1 hsg
  refine .par follows 7 [.inl _,.inl s,.inr (eHs.at S (hds (val a.w))),.inl _,.inl t,.inr (eHs.at S (hds (val b.w))),.inl (.int .i64 (cmpN (valH (hds (val a.w))) (valH (hds (val b.w)))))] [[],[(16,0)],[(17,1)],[],[(19,3)],[(20,4)],[(18,2),(21,5)]] (by kernel_rfl) ⟨
   fun w e=>(v_fa D0 O).ob,fun w e=>(v_ld ty_W O (k2.ext e) O).ob,fun w e=>(A1 _ D2 O (I1 (up3.ext e.size) (hs'.ext e) hla)).ob (A6 _ _ _),
   fun w e=>(v_fa D0 O).ob,fun w e=>(v_ld ty_W O (k3.ext e) O).ob,fun w e=>(A1 _ D2 O (I1 (up3.ext e.size) (ht'.ext e) hlb)).ob (A6 _ _ _),
   fun w e x hx y hy=>A1 _ AQ7 O (AP3 hx hy (by omega) (by omega)),trivial⟩ ?_
  intro w4 e4 x hx y hy
  rw [C9,C9]
  refine .an O O (.seq (.sr (.ldA ty_Z O O (k2.ext e4) O ?_)))
  refine .call _ O I4 O (I2 (up3.ext e4.size) (ER.ext eZ ha3 e4) hla) fun v5 w5 e5 h5=>?_
  subst h5
  have x5:=(x3.trans e4).trans e5
  by_cases hn:(zval a).sign<0
  ·rw [if_pos hn] at hc
   refine .lssT O O O hn (.nil (.condT O (.sr (.mv O O (.neg O O (.an O O (.ret ?_)))))))
   exact .plain [_] Tryz.results205 ⟨rfl,trivial⟩ ⟨x5,isI (by rw [hc,wI (by unfold cmpN;split<;>(try split)<;>omega)])⟩
  ·rw [if_neg hn] at hc
   refine .lssF O O O hn (.nil (.condF O (.skip (.sr (.mv O O (.an O O (.ret ?_)))))))
   exact .plain [_] Tryz.results205 ⟨rfl,trivial⟩ ⟨x5,isI (by rw [hc])⟩
 ·rw [show ((zval a).sign != (zval b).sign)=true by simpa using hsg]
  refine .nil (.condT O (.seq (.seq ?_)))
  have hc:=cmpI_ne hsg
  refine .par follows 5 [.inl (.agg #[.bool a.neg,s]),.inl (.int .i64 (zval a).sign),.inl (.agg #[.bool b.neg,t]),.inl (.int .i64 (zval b).sign),.inl (.bool (decide ((zval a).sign<(zval b).sign)))] [[],[(11,0)],[],[(13,2)],[(12,1),(14,3)]] (by kernel_rfl) ⟨
   fun w e=>(B8 ty_Z O (k2.ext e) O).ob,fun w e=>A1 _ I4 O (I2 (up3.ext e.size) (ER.ext eZ ha3 e) hla),
   fun w e=>(B8 ty_Z O (k3.ext e) O).ob,fun w e=>A1 _ I4 O (I2 (up3.ext e.size) (ER.ext eZ hb3 e) hlb),fun w e=>(Az2 O O).ob,trivial⟩ ?_
  intro w4 e4
  by_cases hn:(zval a).sign<(zval b).sign
  ·rw [if_pos hn] at hc
   rw [show decide ((zval a).sign<(zval b).sign)=true by simpa using hn]
   refine .nil (.condT O (.sr (.an O O (.ret ?_))))
   exact .plain [_] Tryz.results205 ⟨rfl,trivial⟩ ⟨x3.trans e4,isI (by rw [hc])⟩
  ·rw [if_neg hn] at hc
   rw [show decide ((zval a).sign<(zval b).sign)=false by simpa using hn]
   refine .nil (.condF O (.skip (.sr (.an O O (.ret ?_)))))
   exact .plain [_] Tryz.results205 ⟨rfl,trivial⟩ ⟨x3.trans e4,isI (by rw [hc])⟩
end Go.Proofs.YtggegpiffjbngaaGreat
namespace Go.Kx
open Go Go.RowKit
section
variable {P:Program} {ro:Option Nat} {N:Nat} {ds:List Deferred} {ops:List Oper} {K:Env->World->Prop} {σ0:Env} {w0:World} {h:Nat} {sp:List Sp} {deps:List (List (Tmp×Nat))} {a0:Act}
section
variable {Q:Exit->Act->World->Prop}
end
end
end Go.Kx
namespace Go.Proofs.YtggegpiffjbngaaGreat
open Go Go.Kx Go.RowKit
theorem AQ4:Ent Tryz.prog 201:=A0 Tryz.func201 (by kernel_rfl) rfl
theorem AP0 {S:Nat->Prop} {w:World} (up:Up S w):CR Tryz.prog 201 #[] w (eZ.at S (zc 1)):=by
 refine enter Tryz.func201 O Tryz.ntmps201 O ?_
 refine .sr (.alloc O B6 fun w1 b1 n1=>.nil ?_)
 obtain ⟨e1,k1,hb1,hs1⟩:=n1
 have hS:¬ Sx S w.heap.size w1.heap.size b1:=Sx.no (by omega) (by omega)
 have up1:Up (Sx S w.heap.size w1.heap.size) w1:=Sx.up up (Nat.le_refl _) e1.size
 refine .sr (.call _ O Z9 O (Y9 up1 (by decide) (by decide)) fun v2 w2 e2 h2=>?_)
 refine .storeA (E:=eZ) ty_Z O O (k1.ext e2) O O h2 hS fun w5 k5 u5 h5=>.nil (.ret ?_)
 exact .cell Tryz.results201 O ty_Z O O k5 h5 ⟨u5.below (e1.trans e2) (by omega),h5.out⟩
theorem Ak7:Ent Tryz.prog 144:=A0 Tryz.func144 (by kernel_rfl) rfl
theorem Ah1 {S:Nat->Prop} {w:World} {v:Value} {q:QV} {L:Nat} (up:Up S w) (h:eQ.R S w v q) (hl:qok L q) (hL:L<=1000000000):CR Tryz.prog 144 #[v] w (eZ.at S (zc (pd q))):=by
 obtain ⟨s,t,rfl,hn,hd⟩:=N0 h
 refine enter Tryz.func144 O Tryz.ntmps144 O ?_
 refine .sr (.box O O fun w1 b1 n1=>.alloc O B6 fun w2 b2 n2=>.nil ?_)
 obtain ⟨e1,k1,hb1,hs1⟩:=n1
 obtain ⟨e2,k2,hb2,hs2⟩:=n2
 have x2:=e1.trans e2
 have k1:=k1.ext e2
 have hS:¬ Sx S w.heap.size w2.heap.size b2:=Sx.no (by omega) (by omega)
 have up2:Up (Sx S w.heap.size w2.heap.size) w2:=Sx.up up (Nat.le_refl _) x2.size
 have hd2:=(ER.par eZ hd w2.heap.size).ext x2
 refine .seq (.sr (.fa P9 O O (.ldN [.bool q.den.neg,t] ty_Z O O k1 AJ3 ?_)))
 refine .call _ O I4 O (I2 up2 hd2 (Nat.le_trans hl.2 hL)) fun v3 w3 e3 h3=>?_
 subst h3
 have hp:zval q.den≠0->pd q=(val q.den.w:Nat):=by
  intro h0
  have:=H7 q.den
  unfold pd;rw [if_neg h0];split<;>omega
 by_cases h0:zval q.den=0
 ·refine .eqlT O O O (by rw [h0];rfl) (.nil (.condT O (.sr ?_)))
  refine .call _ O AQ4 O (AP0 (up2.ext e3.size)) fun v4 w4 e4 h4=>?_
  refine .storeA (E:=eZ) ty_Z O O ((k2.ext e3).ext e4) O O h4 hS fun w5 k5 u5 h5=>.nil (.ret ?_)
  exact .cell Tryz.results144 O ty_Z O O k5 h5 ⟨u5.below ((x2.trans e3).trans e4) (by omega),by rw [show pd q=1 by unfold pd;rw [if_pos h0]];exact h5.out⟩
 ·refine .eqlF O O O (fun h=>h0 (Int.sign_eq_zero_iff_zero.1 h)) (.nil (.condF O (.skip (.sr (.fa P9 O O (.ldN [.bool q.den.neg,t] ty_Z O O (k1.ext e3) AJ3 ?_))))))
  refine .call _ O Al2 O (Ah6 (up2.ext e3.size) (ER.ext eZ hd2 e3) (Nat.le_trans hl.2 hL)) fun v4 w4 e4 h4=>?_
  refine .storeA (E:=eZ) ty_Z O O ((k2.ext e3).ext e4) O O h4 hS fun w5 k5 u5 h5=>.nil (.ret ?_)
  exact .cell Tryz.results144 O ty_Z O O k5 h5 ⟨u5.below ((x2.trans e3).trans e4) (by omega),by rw [hp h0];exact h5.out⟩
theorem Ak6:Ent Tryz.prog 143:=A0 Tryz.func143 (by kernel_rfl) rfl
theorem Ah0 {S:Nat->Prop} {w:World} {v:Value} {q:QV} {L:Nat} (up:Up S w) (h:eQ.R S w v q) (hl:qok L q) (hL:L<=1000000000):CR Tryz.prog 143 #[v] w (eZ.at S (zc (pn q))):=by
 obtain ⟨s,t,rfl,hn,hd⟩:=N0 h
 refine enter Tryz.func143 O Tryz.ntmps143 O ?_
 refine .sr (.box O O fun w1 b1 n1=>.alloc O B6 fun w2 b2 n2=>.nil ?_)
 obtain ⟨e1,k1,hb1,hs1⟩:=n1
 obtain ⟨e2,k2,hb2,hs2⟩:=n2
 have x2:=e1.trans e2
 have k1:=k1.ext e2
 have hS:¬ Sx S w.heap.size w2.heap.size b2:=Sx.no (by omega) (by omega)
 have up2:Up (Sx S w.heap.size w2.heap.size) w2:=Sx.up up (Nat.le_refl _) x2.size
 have hd2:=(ER.par eZ hd w2.heap.size).ext x2
 have hn2:=(ER.par eZ hn w2.heap.size).ext x2
 refine .seq (.sr (.fa P9 O O (.ldN [.bool q.den.neg,t] ty_Z O O k1 AJ3 ?_)))
 refine .call _ O I4 O (I2 up2 hd2 (Nat.le_trans hl.2 hL)) fun v3 w3 e3 h3=>?_
 subst h3
 by_cases h0:zval q.den<0
 ·refine .lssT O O O (by rw [Int.sign_eq_neg_one_of_neg h0];decide) (.nil (.condT O (.sr (.fa Q0 O O (.ldN [.bool q.num.neg,s] ty_Z O O (k1.ext e3) Ab4 ?_)))))
  refine .call _ O Ak9 O (Ah3 (up2.ext e3.size) (ER.ext eZ hn2 e3) (Nat.le_trans hl.1 hL)) fun v4 w4 e4 h4=>?_
  refine .storeA (E:=eZ) ty_Z O O ((k2.ext e3).ext e4) O O h4 hS fun w5 k5 u5 h5=>.nil (.ret ?_)
  exact .cell Tryz.results143 O ty_Z O O k5 h5 ⟨u5.below ((x2.trans e3).trans e4) (by omega),by rw [show pn q = -zval q.num by unfold pn;rw [if_pos h0]];exact h5.out⟩
 ·refine .lssF O O O (fun h=>h0 (Int.sign_neg_iff.1 h)) (.nil (.condF O (.skip (.sr (.fa Q0 O O (.ldN [.bool q.num.neg,s] ty_Z O O (k1.ext e3) Ab4 ?_))))))
  refine .call _ O AG5 O (AF7 (up2.ext e3.size) (ER.ext eZ hn2 e3) (Nat.le_trans hl.1 (by omega))) fun v4 w4 e4 h4=>?_
  refine .storeA (E:=eZ) ty_Z O O ((k2.ext e3).ext e4) O O h4 hS fun w5 k5 u5 h5=>.nil (.ret ?_)
  exact .cell Tryz.results143 O ty_Z O O k5 h5 ⟨u5.below ((x2.trans e3).trans e4) (by omega),by rw [show pn q=zval q.num by unfold pn;rw [if_neg h0]];exact h5.out⟩
theorem Ae3:Ent Tryz.prog 145:=A0 Tryz.func145 (by kernel_rfl) rfl
theorem Ac2 {S:Nat->Prop} {w:World} {va vb:Value} {a b:ZV} {L:Nat} (up:Up S w) (ha:eZ.R S w va a) (hb:eZ.R S w vb b) (hla:a.w.length<=L) (hlb:b.w.length<=L) (hL:L<=1000000000) (hb0:0<zval b):CR Tryz.prog 145 #[va,vb] w (eQ.at S (qc (Rat.divInt (zval a) (zval b)))):=by
 have hda:=AC6 ha
 have hdb:=AC6 hb
 have hqc:=AN1 (n:=zval a) hb0
 have hga:=H7 a
 have hgb:=H7 b
 have hBp:0<val b.w:=by omega
 have hla1:=O2 hda hla
 have hlb1:=O2 hdb hlb
 rw [hga] at hla1
 rw [hgb] at hlb1
 rw [hga,hgb] at hqc
 have hg1:Nat.gcd (val a.w) (val b.w)<=val b.w:=Nat.gcd_le_right _ hBp
 have hg0:0<Nat.gcd (val a.w) (val b.w):=Nat.gcd_pos_of_pos_right _ hBp
 generalize hgg:Nat.gcd (val a.w) (val b.w)=g at *
 obtain ⟨s,rfl,hs⟩:=ha
 obtain ⟨t,rfl,ht⟩:=hb
 have ha:eZ.R S w (.agg #[.bool a.neg,s]) a:=⟨s,rfl,hs⟩
 have hb:eZ.R S w (.agg #[.bool b.neg,t]) b:=⟨t,rfl,ht⟩
 refine enter Tryz.func145 O Tryz.ntmps145 O ?_
 refine .sr (.box O O fun w1 b2 n1=>.box O O fun w2 b3 n2=>.alloc O D4 fun w3 b4 n3=>.nil ?_)
 obtain ⟨e1,k2,hb2,hs1⟩:=n1
 obtain ⟨e2,k3,hb3,hs2⟩:=n2
 obtain ⟨e3,k4,hb4,hs3⟩:=n3
 have x3:=(e1.trans e2).trans e3
 have k2:=(k2.ext e2).ext e3
 have k3:=k3.ext e3
 have hS4:¬ Sx S w.heap.size w3.heap.size b4:=Sx.no (by omega) (by omega)
 have up3:Up (Sx S w.heap.size w3.heap.size) w3:=Sx.up up (Nat.le_refl _) x3.size
 have ha3:=(ER.par eZ ha w3.heap.size).ext x3
 have hb3':=(ER.par eZ hb w3.heap.size).ext x3
 have hout:∀ {W:World} {v:Value} {z:QV},eQ.R (Sx S w.heap.size w3.heap.size) W v z->eQ.R S W v z:=fun h=>h.out
 generalize hT:Sx S w.heap.size w3.heap.size=T at *
 refine .sr (.ldA ty_Z O O k2 O (.ldA ty_Z O O k3 O ?_))
 refine .call _ O Al0 O (Ah4 up3 ha3 hb3' (by omega) (by omega)) fun v4 w4 e4 h4=>?_
 rw [hgg] at h4
 obtain ⟨s4,rfl,hs4⟩:=h4
 have h4:eZ.R T w4 (.agg #[.bool (zc (g:Nat)).neg,s4]) (zc (g:Nat)):=⟨s4,rfl,hs4⟩
 refine .alloc O B6 fun w5 b5 n5=>?_
 obtain ⟨e5,k5,hb5,hs5⟩:=n5
 refine .storeA (E:=eZ) ty_Z O O k5 O O (ER.ext eZ (ER.lt eZ h4) e5) (fun h=>by have:=h.2;omega) fun w6 k5 u6 _=>.nil ?_
 have e46:Ext w4 w6:=u6.below e5 (by omega)
 have e36:=e4.trans e46
 have up6:=up3.ext e36.size
 have lg:(zc (g:Nat)).w.length<=1000000000:=Nat.le_trans (L4 (L:=L) (by rw [Int.natAbs_natCast];exact Nat.lt_of_le_of_lt hg1 hlb1)) hL
 have hgz:zval (zc ((g:Nat):Int))=(g:Int):=D9 _
 refine .sr (.ldA ty_Z O O (k2.ext e36) O (.ldA ty_Z O O k5 O ?_))
 refine .call _ O AQ8 O (AP4 up6 (ER.ext eZ ha3 e36) (ER.ext eZ h4 e46) (by omega) lg (by rw [hgz];omega)) fun v7 w7 e7 h7=>?_
 obtain ⟨vq,vr,_,rfl,hq,hr,rfl⟩:=h7
 rw [hgz] at hq hr
 obtain ⟨sq,rfl,hsq⟩:=hq
 have hq:eZ.R T w7 (.agg #[.bool (zc (zval a / (g:Nat))).neg,sq]) (zc (zval a / (g:Nat))):=⟨sq,rfl,hsq⟩
 refine .mv O O (.ext O O O (.ext O O O (.ext O O O (.alloc O B6 fun w8 b6 n8=>.alloc O B6 fun w9 b7 n9=>?_))))
 obtain ⟨e8,k6,hb6,hs8⟩:=n8
 obtain ⟨e9,k7,hb7,hs9⟩:=n9
 have e79:=e8.trans e9
 refine .storeA (E:=eZ) ty_Z O O (k6.ext e9) O O (ER.ext eZ (ER.lt eZ hq) e79) (fun h=>by have:=h.2;omega) fun w10 k6 u10 _=>?_
 have e710:Ext w7 w10:=u10.below e79 (by omega)
 refine .storeA (E:=eZ) ty_Z O O (k7.upd u10 (by omega)) O O (ER.ext eZ (ER.lt eZ hr) e710) (fun h=>by have:=h.2;omega) fun w11 k7 u11 _=>.an O O ?_
 have e711:Ext w7 w11:=u11.below e710 (by omega)
 have k6:=k6.upd u11 (by omega)
 have e611:=e7.trans e711
 have up11:=up6.ext e611.size
 have k5:=k5.ext e611
 have e311:=e36.trans e611
 refine .sr (.ldA ty_Z O O (k3.ext e311) O (.ldA ty_Z O O k5 O ?_))
 refine .call _ O AQ8 O (AP4 up11 (ER.ext eZ hb3' e311) (ER.ext eZ (ER.ext eZ h4 e46) e611) (by omega) lg (by rw [hgz];omega)) fun v12 w12 e12 h12=>?_
 obtain ⟨vd,ve,_,rfl,hd,he,rfl⟩:=h12
 rw [hgz] at hd he
 obtain ⟨sd,rfl,hsd⟩:=hd
 have hd:eZ.R T w12 (.agg #[.bool (zc (zval b / (g:Nat))).neg,sd]) (zc (zval b / (g:Nat))):=⟨sd,rfl,hsd⟩
 refine .mv O O (.ext O O O (.ext O O O (.ext O O O (.alloc O B6 fun w13 b9 n13=>.alloc O B6 fun w14 b10 n14=>?_))))
 obtain ⟨e13,k9,hb9,hs13⟩:=n13
 obtain ⟨e14,k10,hb10,hs14⟩:=n14
 have e1214:=e13.trans e14
 refine .storeA (E:=eZ) ty_Z O O (k9.ext e14) O O (ER.ext eZ (ER.lt eZ hd) e1214) (fun h=>by have:=h.2;omega) fun w15 k9 u15 _=>?_
 have e1215:Ext w12 w15:=u15.below e1214 (by omega)
 refine .storeA (E:=eZ) ty_Z O O (k10.upd u15 (by omega)) O O (ER.ext eZ (ER.lt eZ he) e1215) (fun h=>by have:=h.2;omega) fun w16 k10 u16 _=>.an O O ?_
 have e1216:Ext w12 w16:=u16.below e1215 (by omega)
 have k9:=k9.upd u16 (by omega)
 have e1116:=e12.trans e1216
 have k6:=k6.ext e1116
 have up16:=up11.ext e1116.size
 have hd:=ER.ext eZ hd e1216
 have hq:=ER.ext eZ hq (e711.trans e1116)
 have hdl:(zc (zval b / (g:Nat))).w.length<=1000000000:=Nat.le_trans (L4 (L:=L) (Nat.lt_of_le_of_lt (Int.natAbs_ediv_le_natAbs _ _) (by rw [hgb];exact hlb1))) hL
 have e316:=e311.trans e1116
 have k4:=k4.ext e316
 refine .seq (.seq ?_)
 refine .par follows 4 [.inl (.agg #[.bool (zc (zval b / (g:Nat))).neg,sd]),.inr (eZ.at T (zc 1)),.inl (.int .i64 (cmpI (zval (zc (zval b / (g:Nat)))) (zval (zc 1)))),.inl (.bool (cmpI (zval (zc (zval b / (g:Nat)))) (zval (zc 1)) == 0))] [[],[],[(29,0),(30,1)],[(31,2)]] (by kernel_rfl) ⟨
  fun w e=>(B8 ty_Z O (k9.ext e) O).ob,fun w e=>(A1 _ AQ4 O (AP0 (up16.ext e.size))).ob (A6 _ _ _),
  fun w e x hx=>A1 _ Al1 O (Ah5 (up16.ext e.size) (ER.ext eZ hd e) hx hdl (Nat.le_trans (L4 (L:=1) (by decide)) (by omega))),fun w e=>(Az4 O O).ob,trivial⟩ ?_
 intro w17 e17 x1 hx1
 rw [D9,D9]
 have k4:=k4.ext e17
 have k6:=k6.ext e17
 have k9:=k9.ext e17
 obtain ⟨sq',he1,hsq'⟩:=ER.ext eZ hq e17
 obtain ⟨sd',he2,hsd'⟩:=ER.ext eZ hd e17
 injection he1 with he1
 injection he2 with he2
 simp at he1 he2
 subst he1
 subst he2
 have hxx:=x3.trans (e316.trans e17)
 by_cases h1:zval b / (g:Nat)=1
 ·rw [show (cmpI (zval b / (g:Nat)) 1 == 0)=true by rw [h1];decide]
  rw [if_pos h1] at hqc
  have hfin:eQ.R T w17 (.agg #[.bool (zc (zval a / (g:Nat))).neg,sq,.bool false,.slice none 0 0]) (qc (Rat.divInt (zval a) (zval b))):=by
   rw [hqc];exact ⟨sq,.slice none 0 0,rfl,hsq',RL.nil⟩
  refine .nil (.condT O (.sr (.ldA ty_Z O O k6 O (.bld [(0,.agg #[.bool (zc (zval a / (g:Nat))).neg,sq])] O O Ap1 ?_))))
  refine .storeA (E:=eQ) ty_Q O O k4 O O hfin hS4 fun w18 k18 u18 h18=>.nil (.ret ?_)
  exact .cell Tryz.results145 O ty_Q O O k18 h18 ⟨u18.below hxx (by omega),hout h18⟩
 ·rw [show (cmpI (zval b / (g:Nat)) 1 == 0)=false by unfold cmpI;split<;>(try split)<;>first | rfl | omega]
  rw [if_neg h1] at hqc
  have hfin:eQ.R T w17 (.agg #[.bool (zc (zval a / (g:Nat))).neg,sq,.bool (zc (zval b / (g:Nat))).neg,sd]) (qc (Rat.divInt (zval a) (zval b))):=by
   rw [hqc];exact ⟨sq,sd,rfl,hsq',hsd'⟩
  refine .nil (.condF O (.skip (.sr (.ldA ty_Z O O k6 O (.ldA ty_Z O O k9 O (.bld [(0,.agg #[.bool (zc (zval a / (g:Nat))).neg,sq]),(1,.agg #[.bool (zc (zval b / (g:Nat))).neg,sd])] O O AO0 ?_))))))
  refine .storeA (E:=eQ) ty_Q O O k4 O O hfin hS4 fun w18 k18 u18 h18=>.nil (.ret ?_)
  exact .cell Tryz.results145 O ty_Q O O k18 h18 ⟨u18.below hxx (by omega),hout h18⟩
end Go.Proofs.YtggegpiffjbngaaGreat
namespace Go.Kx
end Go.Kx
namespace Go.Proofs.YtggegpiffjbngaaGreat
open Go Go.Kx Go.RowKit
theorem zl {n:Int} {L K:Nat} (h:n.natAbs<4294967296 ^ L) (hL:L<=K):(zc n).w.length<=K:=Nat.le_trans (L4 h) hL
theorem eQ_digs {S:Nat->Prop} {w:World} {v:Value} {q:QV} (h:eQ.R S w v q):dig q.num.w/\dig q.den.w:=by
 obtain ⟨s,t,_,h1,h2⟩:=h
 exact ⟨D3 h1,D3 h2⟩
theorem AZ2:Ent Tryz.prog 149:=A0 Tryz.func149 (by kernel_rfl) rfl
theorem AY6 {S:Nat->Prop} {w:World} {v:Value} {q:QV} {L:Nat} (up:Up S w) (h:eQ.R S w v q) (hl:qok L q) (h1:1<=L) (hL:L<=1000000000):CR Tryz.prog 149 #[v] w (eQ.at S (qc (qval q))):=by
 obtain ⟨hd1,hd2⟩:=eQ_digs h
 have hln:=pn_lt hd1 hl
 have hld:=pd_lt hd2 hl h1
 have hpp:=J5 q
 obtain ⟨s,t,rfl,hs,ht⟩:=h
 have h:eQ.R S w (.agg #[.bool q.num.neg,s,.bool q.den.neg,t]) q:=⟨s,t,rfl,hs,ht⟩
 refine enter Tryz.func149 O Tryz.ntmps149 O ?_
 refine .sr (.box O O fun w1 b1 n1=>.alloc O D4 fun w2 b2 n2=>.nil ?_)
 obtain ⟨e1,k1,hb1,hs1⟩:=n1
 obtain ⟨e2,k2,hb2,hs2⟩:=n2
 have x2:=e1.trans e2
 have k1:=k1.ext e2
 have hS:¬ Sx S w.heap.size w2.heap.size b2:=Sx.no (by omega) (by omega)
 have up2:Up (Sx S w.heap.size w2.heap.size) w2:=Sx.up up (Nat.le_refl _) x2.size
 have h2:=(ER.par eQ h w2.heap.size).ext x2
 have hout:∀ {W:World} {v:Value} {z:QV},eQ.R (Sx S w.heap.size w2.heap.size) W v z->eQ.R S W v z:=fun h=>h.out
 generalize hT:Sx S w.heap.size w2.heap.size=T at *
 refine .seq ?_
 refine .par follows 5 [.inl _,.inr (eZ.at T (zc (pn q))),.inl _,.inr (eZ.at T (zc (pd q))),.inr (eQ.at T (qc (Rat.divInt (zval (zc (pn q))) (zval (zc (pd q))))))] [[],[(3,0)],[],[(5,2)],[(4,1),(6,3)]] (by kernel_rfl) ⟨
  fun w e=>(B8 ty_Q O (k1.ext e) O).ob,fun w e=>(A1 _ Ak6 O (Ah0 (up2.ext e.size) (ER.ext eQ h2 e) hl hL)).ob (A6 _ _ _),
  fun w e=>(B8 ty_Q O (k1.ext e) O).ob,fun w e=>(A1 _ Ak7 O (Ah1 (up2.ext e.size) (ER.ext eQ h2 e) hl hL)).ob (A6 _ _ _),
  fun w e x hx y hy=>(A1 _ Ae3 O (Ac2 (up2.ext e.size) hx hy (zl hln (Nat.le_refl _)) (zl hld (Nat.le_refl _)) hL (by rw [D9];exact hpp))).ob (A6 _ _ _),trivial⟩ ?_
 intro w3 e3 x hx y hy z hz
 rw [D9,D9] at hz
 refine .storeA (E:=eQ) ty_Q O O (k2.ext e3) O O hz hS fun w4 k4 u4 h4=>.nil (.ret ?_)
 exact .cell Tryz.results149 O ty_Q O O k4 h4 ⟨u4.below (x2.trans e3) (by omega),hout h4⟩
end Go.Proofs.YtggegpiffjbngaaGreat
namespace Go.Kx
open Go Go.RowKit
end Go.Kx
namespace Go.Proofs.YtggegpiffjbngaaGreat
open Go Go.Kx Go.RowKit
end Go.Proofs.YtggegpiffjbngaaGreat
namespace Go.Kx
end Go.Kx
namespace Go.Proofs.YtggegpiffjbngaaGreat
open Go Go.Kx Go.RowKit
theorem BB5 {w:World} {v:Value} {t:TypeId} {sz n B B':Nat} {xs:List Value} (h:w.ownsRow B t sz v n xs) (hB:B'<=B):w.ownsRow B' t sz v n xs:=by
 refine ⟨h.1,?_⟩
 rcases h.2 with h | ⟨g,cap,cur,h1,h2,h3⟩
 ·exact .inl h
 ·exact .inr ⟨g,cap,cur,h1,Nat.le_trans hB h2,h3⟩
theorem OwnL.base {α:Type} {E:ER α} {t:TypeId} {B B':Nat} {X:Nat->Prop} {w:World} {v:Value} {l:List α} (h:OwnL E t B X w v l) (hB:B'<=B):OwnL E t B' X w v l:=by
 obtain ⟨es,h1,h2⟩:=h
 exact ⟨es,BB5 h1 hB,h2⟩
end Go.Proofs.YtggegpiffjbngaaGreat
namespace Go.Kx
open Go Go.RowKit
section
variable {P:Program} {σ:Env} {w:World} {d:Option Tmp} {ty:TypeId} {pos:String} {af:Array Edge} {g:Option (Nat×Bool)}
end
end Go.Kx
namespace Go.Proofs.YtggegpiffjbngaaGreat
open Go Go.Kx Go.RowKit
end Go.Proofs.YtggegpiffjbngaaGreat
namespace Go.Kx
end Go.Kx
namespace Go.Proofs.YtggegpiffjbngaaGreat
open Go Go.Kx Go.RowKit
end Go.Proofs.YtggegpiffjbngaaGreat
namespace Go.Kx
open Go Go.RowKit
end Go.Kx
namespace Go.Proofs.YtggegpiffjbngaaGreat
open Go Go.Kx Go.RowKit
structure VR (W:World) (v:Value) (n L:Nat) (a:List QV):Prop where
 r:eV.R (fun _=>True) W v a
 hn:a.length<=n
 hk:vk L a
section
variable {W W':World} {v va vb:Value} {n c n' c' L L':Nat} {a b m:List (List QV)} {x y:List QV}
theorem upT {W:World}:Up (fun _=>True) W:=fun _ _=>trivial
end
theorem okV.vr {W:World} {v:Value} {a:List QV} (h:okV a) (hr:eV.R (fun _=>True) W v a):VR W v 20 6 a:=⟨hr,h.1,eV_vk hr h.2 (by decide)⟩
theorem BE1 {α:Type} {E:ER α} {hsz:0<E.sz} {S:Nat->Prop} {w w':World} {b:Nat} {t:TypeId} {cs:Array Value} {n:Nat} (vs:List Value) (ls:List (List α)) (hn:New w w' b t cs) (up:Up S w) (hcs:cs=vs.toArray) (hl:ls.length=n) (hm:n<=1000) (h:Els (RL E hsz) S w vs ls) :
  (RL (RL E hsz) (show 0<1 by decide)).R S w' (.slice (some ⟨b,0,none⟩) n n) ls:=by
 subst hl
 refine RL.ofBlk (es:=vs) hn.2.1 (up b (by have:=hn.2.2.1;omega)) (h.ext hn.1) (fun j u hu=>?_) (Nat.le_refl _) (by omega)
 rw [hcs]
 have hv:∀ v∈vs,v.cells=#[v]:=by
  intro v hv
  obtain ⟨i,hi⟩:=List.mem_iff_getElem?.1 hv
  have hlt:=BC2 hi
  obtain ⟨a,c,rfl,_⟩:=RL.len (h.2 i v _ hi (List.getElem?_eq_getElem (by rw [<-h.1];exact hlt)))
  rfl
 have:cellsOf vs=vs:=by
  clear h hcs hu
  induction vs with
  | nil=>rfl
  | cons v vs ih=>rw [cellsOf,List.flatMap_cons,hv v (by simp),<-cellsOf,ih fun u hu=>hv u (by simp [hu])];rfl
 rw [this] at hu
 simpa using hu
theorem Ap5:Ent Tryz.prog 86:=A0 Tryz.func86 (by kernel_rfl) rfl
theorem Am6 {S:Nat->Prop} {w:World} {n d:Int} (up:Up S w) (hn : -9223372036854775808<=n/\n<=9223372036854775807) (hd:0<d/\d<=9223372036854775807):CR Tryz.prog 86 #[.int .i64 n,.int .i64 d] w (eQ.at S (qc (Rat.divInt n d))):=by
 refine enter Tryz.func86 O Tryz.ntmps86 O ?_
 refine .sr (.alloc O D4 fun w1 b4 n1=>.nil (.sr (.mv O O ?_)))
 obtain ⟨e1,k4,hb4,hs1⟩:=n1
 have hS4:¬ Sx S w.heap.size w1.heap.size b4:=Sx.no (by omega) (by omega)
 have up1:Up (Sx S w.heap.size w1.heap.size) w1:=Sx.up up (Nat.le_refl _) e1.size
 refine .call _ O Z9 O (Y9 up1 hn.1 hn.2) fun v2 w2 e2 h2=>.mv O O ?_
 refine .call _ O Z9 O (Y9 (up1.ext e2.size) (by omega) hd.2) fun v3 w3 e3 h3=>?_
 obtain ⟨s,rfl,hs⟩:=ER.ext eZ h2 e3
 obtain ⟨t,rfl,ht⟩:=h3
 refine .bld _ O O AO0 ?_
 have hq:eQ.R (Sx S w.heap.size w1.heap.size) w3 (.agg #[.bool (zc n).neg,s,.bool (zc d).neg,t]) ⟨zc n,zc d⟩:=⟨s,t,rfl,hs,ht⟩
 have hok:qok 2 ⟨zc n,zc d⟩:=⟨L4 (by omega),L4 (by omega)⟩
 have hv:qval ⟨zc n,zc d⟩=Rat.divInt n d:=by
  unfold qval pn pd
  simp only [D9]
  rw [if_neg (by omega),if_neg (by omega),if_neg (by omega)]
 refine .call _ O AZ2 O (AY6 (up1.ext (e2.trans e3).size) hq hok (by decide) (by decide)) fun v4 w4 e4 h4=>?_
 rw [hv] at h4
 refine .storeA (E:=eQ) ty_Q O O (((k4.ext e2).ext e3).ext e4) O O h4 hS4 fun w5 k5 u5 h5=>.nil (.ret ?_)
 exact .cell Tryz.results86 O ty_Q O O k5 h5 ⟨u5.below (((e1.trans e2).trans e3).trans e4) (by omega),h5.out⟩
section
variable {m:List (List QV)} {b:List QV}
theorem red_req (m:List (List QV)):Req m.length (colsOf m) (rm m) (redF m):=AW5 _ _ _ _
theorem AP7:(nullM m).length=(freeC m).length:=by unfold nullM;simp
theorem Av6 (m:List (List QV)):(nullM m).length+(redP m).length=colsOf m:=by rw [AP7];exact (Ac3 m).free_len
theorem Av8 {k:Nat}:k∈freeC m<->k<colsOf m/\k∉redP m:=by
 unfold freeC freeTo
 rw [List.mem_filter,List.mem_range]
 simp
theorem Av9 {i:Nat} (hi:i<(freeC m).length):(freeC m).getD i 0<colsOf m/\(freeC m).getD i 0∉redP m:=Av8.1 (F9 hi)
theorem not_piv {p:List Nat} {k:Nat} (h:k∉p):∀ j,j<p.length->p.getD j 0≠k:=fun _ hj e=>h (e▸F9 hj)
theorem Au8 {k:Nat} (hk:k<colsOf m) (i:Nat):sumN (colsOf m) (fun c=>rm m i c*nv (redF m) (redP m) k c)=0:=by
 rcases Nat.lt_or_ge i m.length with hi | hi
 ·exact Spn.dot0 ((red_req m).2 i hi) fun j hj=>nv_null (Ac3 m) hk hj
 ·exact J3 fun c _=>by rw [rm_out hi,Rat.zero_mul]
end
theorem rsz1 {L:Nat} (hL:1<=L):Rsz 1 L:=by
 have:=Rsz.int 1 (L:=L) (Nat.lt_of_lt_of_le (by decide) (Nat.pow_le_pow_right (by decide) hL)) hL
 simpa using this
section
variable {m:List (List QV)} {b:List QV}
theorem inv_p (hc:colsOf m=m.length):(invE m).2=redP m:=by
 unfold invE redP
 rw [hc]
 exact (Ai8 (C:=m.length) (fun i k _ hk=>by unfold invF;rw [if_pos hk]) _ (Nat.le_refl _)).2
theorem BC7 (hc:colsOf m=m.length):invertible m<->(redP m).length=m.length:=by
 unfold invertible
 rw [inv_p hc]
 have:=(Ac3 m).len
 omega
theorem inv_one (h:invertible m) {i k:Nat} (hi:i<m.length) (hk:k<m.length):(invE m).1 i k=idR i k:=by
 have he:Ech m.length m.length (invE m).1 (invE m).2:=P4 ..
 have hl:(invE m).2.length=m.length:=by have:=he.len;unfold invertible at h;omega
 have:=he.one i k hi (by omega)
 rw [he.full hl k hk] at this
 exact this
theorem rm_inv {i k:Nat} (hi:i<m.length) (hk:k<m.length):rm (invM m) i k=(invE m).1 i (m.length+k):=by
 unfold invM
 rw [Ac1,if_pos ⟨hi,hk⟩]
theorem invF_hi {i k:Nat}:invF m i (m.length+k)=idR i k:=by
 unfold invF
 rw [if_neg (by omega),Nat.add_sub_cancel_left]
theorem invF_lo {i k:Nat} (h:k<m.length):invF m i k=rm m i k:=by unfold invF;rw [if_pos h]
theorem sum_id {n:Nat} (t:Nat->Rat) {k:Nat} (hk:k<n):sumN n (fun j=>t j*idR j k)=t k:=by
 rw [F4 (i:=k) (fun j hj hne=>by unfold idR;rw [if_neg hne,Rat.mul_zero]),if_pos hk]
 unfold idR
 rw [if_pos rfl,Rat.mul_one]
theorem Av2 (h:invertible m) {i k:Nat} (hi:i<m.length) (hk:k<m.length):sumN m.length (fun j=>rm m i j*rm (invM m) j k)=idR i k:=by
 obtain ⟨t,ht⟩:=(AW5 m.length (m.length+m.length) (invF m) m.length).2 i hi
 have h1:∀ j,j<m.length->rm m i j=t j:=fun j hj=>by
  have:=ht j (by omega)
  rw [invF_lo hj] at this
  rw [this,<-sum_id t hj]
  exact B1 fun l hl=>by rw [<-inv_one h hl hj];rfl
 have h2:=ht (m.length+k) (by omega)
 rw [invF_hi] at h2
 rw [h2]
 exact B1 fun j hj=>by rw [h1 j hj,rm_inv hj hk];rfl
theorem As7 {L n:Nat} (hk:mk_ L m) (hL:1<=L) (hn:m.length<=n):mk_ (bd L n) (invM m):=by
 refine Ac7 fun i k hi hk'=>?_
 have h1:=AW4 (C:=m.length+m.length) (f:=invF m) hL (fun i k _ _=>by
  unfold invF
  split
  ·exact hk.rsz hL i k
  ·unfold idR
   split
   ·exact rsz1 hL
   ·exact Rsz.zero hL) m.length (by omega) i (m.length+k) hi (by omega)
 exact h1.mono (AL4 L (Nat.le_trans (P4 m.length (invF m) m.length).len hn))
end
theorem L2 (p:List Nat) (i:Nat):freeTo p (i+1)=freeTo p i++if i∈p then [] else [i]:=by
 unfold freeTo
 rw [List.range_succ,List.filter_append]
 by_cases h:i∈p<;>simp [h]
theorem AV9 (p:List Nat) (i:Nat):∀ d,∃ t,freeTo p (i+d)=freeTo p i++t
 | 0=>⟨[],(List.append_nil _).symm⟩
 | d+1=>by
  obtain ⟨t,ht⟩:=AV9 p i d
  exact ⟨t++if i+d∈p then [] else [i+d],by rw [<-Nat.add_assoc,L2,ht,List.append_assoc]⟩
theorem Av7 {p:List Nat} {i C:Nat} (hi:i<C) (hp:i∉p):(freeTo p C).getD (freeTo p i).length 0=i/\(freeTo p i).length<(freeTo p C).length:=by
 obtain ⟨t,ht⟩:=AV9 p (i+1) (C-(i+1))
 rw [show i+1+(C-(i+1))=C by omega,L2,if_neg hp] at ht
 rw [ht]
 constructor
 ·simp [List.getD_eq_getElem?_getD]
 ·simp
section
variable {m:List (List QV)} {b z:List QV}
end
end Go.Proofs.YtggegpiffjbngaaGreat
namespace Go.Kx
open Go Go.RowKit
def oN (o:List Int):List Nat:=o.map Int.toNat
def inL (n:NtV) (o:List Int):List Nat:=freeTo (oN o) n.ls.length
theorem V6 {n:NtV} {o:List Int} (h:outsOk n o):∀ d i,i+d<o.length->o.getD i 0+d<=o.getD (i+d) 0
 | 0,i,_=>by simp
 | d+1,i,hd=>by
  have h1:=V6 h d i (by omega)
  have h2:=(h (i+(d+1)) hd).2.2 (by omega)
  rw [show i+(d+1)-1=i+d by omega] at h2
  omega
theorem Ac8 {n:NtV} {o:List Int} (h:outsOk n o) {k:Nat}:k∈oN o<->∃ i,i<o.length/\o.getD i 0=k:=by
 unfold oN
 rw [List.mem_map]
 constructor
 ·rintro ⟨x,hx,rfl⟩
  obtain ⟨i,hi⟩:=List.mem_iff_getElem?.1 hx
  have hlt:=(List.getElem?_eq_some_iff.1 hi).1
  have e:o.getD i 0=x:=by rw [List.getD_eq_getElem?_getD,hi];rfl
  have:=h i hlt
  exact ⟨i,hlt,by omega⟩
 ·rintro ⟨i,hi,e⟩
  exact ⟨o.getD i 0,by rw [List.getD_eq_getElem?_getD,List.getElem?_eq_getElem hi];exact List.getElem_mem hi,by omega⟩
end Go.Kx
namespace Go.Proofs.YtggegpiffjbngaaGreat
open Go Go.Kx Go.RowKit
theorem BB8 {n:NtV} {o:List Int} (h:chkE n≠0):outE n o=chkE n:=by unfold outE;rw [if_pos h]
theorem AE0 {n:NtV} {o:List Int} (h:outE n o=0):chkE n=0/\outsOk n o:=by
 unfold outE at h
 split at h
 ·exact absurd h (by assumption)
 ·split at h
  ·exact ⟨Classical.not_not.1 (by assumption),by assumption⟩
  ·cases h
theorem At5 {n:NtV} (h:chkE n=0):1<=n.b/\n.b<=6/\n.ls.length<=10/\chkOk n:=by
 unfold chkE at h
 split at h
 ·cases h
 ·split at h
  ·cases h
  ·split at h
   ·exact ⟨by omega,by omega,by omega,by assumption⟩
   ·cases h
theorem AX9:Ent Tryz.prog 47:=A0 Tryz.func47 (by kernel_rfl) rfl
theorem AV1 {S:Nat->Prop} {w:World} {vn vo:Value} {n:NtV} {o:List Int} (hn:eN.R S w vn n) (ho:eI.R S w vo o):CR Tryz.prog 47 #[vn,vo] w (Is (.int .i64 (outE n o))):=by
 obtain ⟨s,rfl,hs,hb⟩:=hn
 have hn:eN.R S w (.agg #[.int .i64 n.b,s]) n:=⟨s,rfl,hs,hb⟩
 obtain ⟨_,_,_,_,hll⟩:=RL.len ho
 obtain ⟨_,_,_,_,hls⟩:=RL.len hs
 refine enter Tryz.func47 O Tryz.ntmps47 O ?_
 refine .sr (.box O O fun w1 b2 n1=>.an O O ?_)
 obtain ⟨e1,k2,hb2,hs1⟩:=n1
 refine .seq (.sr (.ldA ty_N O O k2 O ?_))
 refine .call _ O Al4 O (Ah9 (hn.ext e1)) fun v2 w2 e2 h2=>.an O O ?_
 subst h2
 have x2:=e1.trans e2
 refine .sr (.mv O O ?_)
 by_cases hc:chkE n=0
 rotate_left
 ·refine .neqT O O O hc (.nil (.condT O (.sr (.mv O O (.an O O (.ret ?_))))))
  exact .plain [_] Tryz.results47 ⟨rfl,trivial⟩ ⟨x2,by rw [BB8 hc];rfl⟩
 have hE:outsOk n o->outE n o=0:=fun h=>by unfold outE;rw [if_neg (by simpa using hc),if_pos h]
 have hE1:¬ outsOk n o->outE n o=1:=fun h=>by unfold outE;rw [if_neg (by simpa using hc),if_neg h]
 refine .neqF O O O hc (.nil (.condF O (.skip ?_)))
 have k2:=k2.ext e2
 have hs:=hs.ext x2
 have ho:=ho.ext x2
 refine .seq (.sr (.mv O O (.lenR un_I O O ho (.mv O O (.nil ?_)))))
 refine .block (.loop (α:=Nat) (fun i=>[(1,vo),(2,.pointer (some ⟨b2,0,none⟩)),(13,vo),(14,.int .i64 (o.length:Nat)),(15,.int .i64 (i:Nat))]) (fun i W=>W=w2/\i<=o.length/\∀ j,j<i->0<=o.getD j 0/\o.getD j 0<n.ls.length/\(0<j->o.getD (j-1) 0<o.getD j 0)) (fun i=>o.length-i) 0 ?_ ?_ ?_)
 ·exact lkA rfl
 ·exact ⟨rfl,Nat.zero_le _,fun j hj=>absurd hj (Nat.not_lt_zero _)⟩
 rintro i W ⟨rfl,hi,hall⟩
 refine .sr ?_
 rcases Nat.lt_or_ge i o.length with hlt | hge
 rotate_left
 ·refine .lssF O O O (by omega) (.nil (.seq (.condF O (.exit (.sr (.an O O (.ret ?_)))))))
  exact .plain [_] Tryz.results47 ⟨rfl,trivial⟩ ⟨x2,by rw [hE fun j hj=>hall j (by omega)];rfl⟩
 have hg:o[i]?=some (o.getD i 0):=A8 hlt
 refine .lssT O O O (by omega) (.nil (.seq (.condT O (.skip (.seq (.block (.sr (.mv O O (.ixN (i:=i) un_I B4 O O ho O hg fun q hq=>.ldE (E:=eInt .i64) B4 O O hq fun e he=>.asg O O (.an O O (.sr (.mv O O ?_))))))))))))
 obtain ⟨rfl,_⟩:=he
 have hbad:∀ {σ:Env},¬ (0<=o.getD i 0/\o.getD i 0<n.ls.length/\(0<i->o.getD (i-1) 0<o.getD i 0))->Leave Tryz.prog Tryz.f47 43 (fun v w'=>Ext w w'/\Is (.int .i64 (outE n o)) v w') ((4,.int .i64 1)::σ) [] W:=fun h=>.plain [_] Tryz.results47 ⟨rfl,trivial⟩ ⟨x2,by rw [hE1 fun h'=>h (h' i hlt)];rfl⟩
 by_cases h0:o.getD i 0<0
 ·refine .lssT O O O h0 (.mv O O (.gs O O O O O (.gs O O O O O (.gs O O O O O (.gs O O O O O (.gs O O O O O (.pick O O O (.mv O O (.gs O O O O O (.gs O O O O O (.gs O O O O O ?_)))))))))))
  refine .gu O O O O (.gu O O O O (.gu O O O O (.gu O O O O (.gu O O O O (.gu O O O O (.gu O O O O (.gs O O O O O (.pick O O O (.nil (.condT O (.sr (.an O O (.ret ?_)))))))))))))
  exact hbad (by omega)
 refine .lssF O O O (by omega) (.mv O O (.gr O O O O (.mv O O (.gr O O O O (.fa K8 O O (.gr O O O O (.ld Q8 O O k2 O (.gr O O O O (.lenR O9 O O hs (.gr O O O O ?_))))))))))
 by_cases h1:(n.ls.length:Int)<=o.getD i 0
 ·refine .geqT O O O h1 (.pick O O O (.mv O O (.gs O O O O O (.gs O O O O O (.gs O O O O O ?_)))))
  refine .gu O O O O (.gu O O O O (.gu O O O O (.gu O O O O (.gu O O O O (.gu O O O O (.gu O O O O (.gs O O O O O (.pick O O O (.nil (.condT O (.sr (.an O O (.ret ?_)))))))))))))
  exact hbad (by omega)
 refine .geqF O O O (by omega) (.pick O O O (.mv O O (.gr O O O O (.mv O O (.gr O O O O ?_)))))
 have hnext:∀ {σ:Env},(0<i->o.getD (i-1) 0<o.getD i 0)->Kx.look σ 1=some vo->Kx.look σ 2=some (.pointer (some ⟨b2,0,none⟩))->Kx.look σ 13=some vo->Kx.look σ 14=some (.int .i64 (o.length:Nat))->∃ i':Nat,(∀ t v,Kx.look [(1,vo),(2,.pointer (some ⟨b2,0,none⟩)),(13,vo),(14,.int .i64 (o.length:Nat)),(15,.int .i64 (i':Nat))] t=some v->Kx.look ((15,.int .i64 ((i:Int)+1))::σ) t=some v)/\(W=W/\i'<=o.length/\∀ j,j<i'->0<=o.getD j 0/\o.getD j 0<n.ls.length/\(0<j->o.getD (j-1) 0<o.getD j 0))/\o.length-i'<o.length-i:=by
  intro σ hlast a1 a2 a3 a4
  refine ⟨i+1,A2 a1 (A2 a2 (A2 a3 (A2 a4 (lkA O)))),⟨rfl,hlt,fun j hj=>?_⟩,by omega⟩
  by_cases e:j=i
  ·subst e;exact ⟨by omega,by omega,hlast⟩
  ·exact hall j (by omega)
 by_cases hi0:0<i
 ·have hg':o[i-1]?=some (o.getD (i-1) 0):=A8 (by omega)
  refine .gtrT O O O (by omega) (.gr O O O O (.mv O O (.gr O O O O (.mv O O (.gr O O O O (.mv O O (.gr O O O O (.mv O O (.gr O O O O (.sub O O O ?_))))))))))
  rw [wI (by omega),show (i:Int)-1=((i-1:Nat):Int) by omega]
  refine .gr O O O O (.ixN (i:=i-1) un_I B4 O O ho O hg' fun q hq=>.gr O O O O (.ldE (E:=eInt .i64) B4 O O hq fun e he=>?_))
  obtain ⟨rfl,_⟩:=he
  by_cases hle:o.getD i 0<=o.getD (i-1) 0
  ·refine .gr O O O O (.leqT O O O hle (.gr O O O O (.pick O O O (.pick O O O (.nil (.condT O (.sr (.an O O (.ret ?_)))))))))
   exact hbad (fun h=>by have:=h.2.2 hi0;omega)
  ·refine .gr O O O O (.leqF O O O (by omega) (.gr O O O O (.pick O O O (.pick O O O (.nil (.condF O (.skip (.region (.add O O O (.mv O O (.nil ?_)))))))))))
   rw [wI (by omega)]
   exact ⟨rfl,hnext (fun _=>by omega) O O O rfl⟩
 ·refine .gtrF O O O (by omega) (.gr O O O O (.mv O O (.gs O O O O O (.gs O O O O O (.gs O O O O O (.gs O O O O O (.gs O O O O O (.gs O O O O O (.gs O O O O O (.gr O O O O (.pick O O O (.pick O O O (.nil (.condF O (.skip (.region (.add O O O (.mv O O (.nil ?_)))))))))))))))))))
  rw [wI (by omega)]
  exact ⟨rfl,hnext (fun h=>absurd h hi0) O O O rfl⟩
theorem AS7:Ent Tryz.prog 132:=A0 Tryz.func132 (by kernel_rfl) rfl
theorem AS1 {w:World} {vn vo:Value} {x y:Value} (hn:vn=.agg #[x,y]) {a:Option Addr} {m c:Nat} (ho:vo=.slice a m c):CR Tryz.prog 132 #[vn,vo] w (fun v w'=>∃ b1 b2,v=.func (.func 185) #[] #[.pointer (some ⟨b1,0,none⟩),.pointer (some ⟨b2,0,none⟩)] /\
  Blk w' b1 24 #[x,y]/\Blk w' b2 25 #[vo]/\w.heap.size<=b1/\w.heap.size<=b2):=by
 subst hn;subst ho
 refine enter Tryz.func132 O Tryz.ntmps132 O ?_
 refine .sr (.box O O fun w1 b1 n1=>.box O O fun w2 b2 n2=>.an O O ?_)
 obtain ⟨e1,k1,hb1,hs1⟩:=n1
 obtain ⟨e2,k2,hb2,hs2⟩:=n2
 refine .sr (.mkf [] [_,_] O O O O (.an O O (.ret ?_)))
 exact .plain [_] Tryz.results132 ⟨rfl,trivial⟩ ⟨e1.trans e2,b1,b2,rfl,k1.ext e2,k2,by omega,by have:=e1.size;omega⟩
theorem BE9:Ent Tryz.prog 185:=A0 Tryz.func185 (by kernel_rfl) rfl
theorem BC9 {S:Nat->Prop} {n:NtV} {o:List Int} {s vo x:Value} {b1 b2:Nat} (hok:outsOk n o) (hl:n.ls.length<=10):Iter Tryz.prog 185 #[.pointer (some ⟨b1,0,none⟩),.pointer (some ⟨b2,0,none⟩)] (inL n o).length
  (fun k=>[.int .i64 ((inL n o).getD k 0:Nat)]) (fun W=>Blk W b1 24 #[x,s]/\Blk W b2 25 #[vo]/\eLs.R S W s n.ls/\eI.R S W vo o):=by
 intro l J X stJ stX hF hy W hJ
 have hF0:=hF 0 W hJ
 refine enterG Tryz.func185 O Tryz.ntmps185 O ?_
 refine .sr (.an O O (.sr (.fa K8 O O (.ld Q8 O O hF0.1 O (.lenR O9 O O hF0.2.2.1 (.mv O O (.nil ?_)))))))
 refine .block (.loop (α:=Nat×Nat) (fun y=>[(9,.int .i64 (y.1:Nat)),(8,.int .i64 (n.ls.length:Nat)),(4,.int .i64 (y.2:Nat)),(0,.func (.yield l) #[] #[]),(1,.pointer (some ⟨b1,0,none⟩)),(2,.pointer (some ⟨b2,0,none⟩))])
  (fun y W=>J (freeTo (oN o) y.1).length W/\y.1<=n.ls.length/\y.2<=o.length/\(∀ i,i<y.2->o.getD i 0<y.1)/\(y.2<o.length->(y.1:Int)<=o.getD y.2 0)) (fun y=>n.ls.length-y.1) (0,0) ?_ ?_ ?_)
 ·exact lkA rfl
 ·exact ⟨hJ,Nat.zero_le _,Nat.zero_le _,fun i hi=>absurd hi (Nat.not_lt_zero _),fun h=>(hok 0 h).1⟩
 rintro ⟨k,nx⟩ W ⟨hJ,hk,hnx,hlo,hhi⟩
 replace hJ:J (freeTo (oN o) k).length W:=hJ
 replace hk:k<=n.ls.length:=hk
 replace hnx:nx<=o.length:=hnx
 replace hlo:∀ i,i<nx->o.getD i 0<k:=hlo
 replace hhi:nx<o.length->(k:Int)<=o.getD nx 0:=hhi
 obtain ⟨hB1,hB2,hA,hB⟩:=hF _ W hJ
 obtain ⟨_,_,_,_,hll⟩:=RL.len hB
 refine .sr ?_
 rcases Nat.lt_or_ge k n.ls.length with hlt | hge
 rotate_left
 ·refine .lssF O O O (by omega) (.nil (.seq (.condF O (.exit ?_))))
  refine .plain [] Tryz.results185 trivial ?_
  have:k=n.ls.length:=by omega
  subst this;exact .inl hJ
 refine .lssT O O O (by omega) (.nil (.seq (.condT O (.skip (.seq (.block (.sr (.mv O O (.an O O ?_)))))))))
 refine .mid (α:=Unit) (fun _=>[(9,.int .i64 (k:Nat)),(8,.int .i64 (n.ls.length:Nat)),(4,.int .i64 (nx:Nat)),(5,.int .i64 (k:Nat)),(0,.func (.yield l) #[] #[]),(1,.pointer (some ⟨b1,0,none⟩)),(2,.pointer (some ⟨b2,0,none⟩))]) (fun _ W'=>W'=W/\k∉oN o) ?_ ?_
 ·refine .sr (.mv O O (.ld ty_I O O hB2 O (.lenR un_I O O hB ?_)))
  rcases Nat.lt_or_ge nx o.length with hn1 | hn1
  ·have hg:o[nx]?=some (o.getD nx 0):=A8 hn1
   refine .lssT O O O (by omega) (.mv O O (.gr O O O O (.ld ty_I O O hB2 O (.gr O O O O (.mv O O (.gr O O O O (.ixN (i:=nx) un_I B4 O O hB O hg fun q hq=>.gr O O O O (.ldE (E:=eInt .i64) B4 O O hq fun e he=>.gr O O O O (.mv O O (.gr O O O O ?_))))))))))
   obtain ⟨rfl,_⟩:=he
   have:=hhi hn1
   by_cases he:o.getD nx 0=k
   ·refine .eqlT O O O he (.pick O O O (.nil (.condT O (.sr (.mv O O (.add O O O (.an O O (.exit (.region (.add O O O (.mv O O (.nil ?_))))))))))))
    rw [wI (by omega),wI (by omega)]
    refine ⟨rfl,(k+1,nx+1),lkA rfl,⟨?_,hlt,hn1,fun i hi=>?_,fun h=>?_⟩,by show n.ls.length-(k+1)<n.ls.length-k;omega⟩
    ·show J (freeTo (oN o) (k+1)).length W
     rw [L2,if_pos ((Ac8 hok).2 ⟨nx,hn1,he⟩),List.append_nil]
     exact hJ
    ·show o.getD i 0<((k+1:Nat):Int)
     by_cases e:i=nx
     ·subst e;omega
     ·have:=hlo i (by have:i<nx+1:=hi;omega);omega
    ·show ((k+1:Nat):Int)<=o.getD (nx+1) 0
     have:=V6 hok 1 nx h
     omega
   ·refine .eqlF O O O he (.pick O O O (.nil (.condF O (.skip ?_))))
    refine ⟨rfl,(),lkA rfl,rfl,fun hm=>?_⟩
    obtain ⟨i,hi,e⟩:=(Ac8 hok).1 hm
    rcases Nat.lt_or_ge i nx with h | h
    ·have:=hlo i h;omega
    ·have:=V6 hok (i-nx) nx (by omega)
     rw [show nx+(i-nx)=i by omega] at this
     omega
  ·refine .lssF O O O (by omega) (.mv O O (.gs O O O O O (.gs O O O O O (.gs O O O O O (.gs O O O O O (.gs O O O O O (.gs O O O O O (.pick O O O (.nil (.condF O (.skip ?_)))))))))))
   refine ⟨rfl,(),lkA rfl,rfl,fun hm=>?_⟩
   obtain ⟨i,hi,e⟩:=(Ac8 hok).1 hm
   have:=hlo i (by omega)
   omega
 rintro _ _ ⟨rfl,hno⟩
 obtain ⟨hat,hatl⟩:=Av7 (C:=n.ls.length) hlt hno
 have hy':=hy (freeTo (oN o) k).length _ hatl hJ
 dsimp only at hy'
 rw [show (inL n o).getD (freeTo (oN o) k).length 0=k from hat] at hy'
 refine .sr (.mv O O (.mv O O ?_))
 refine .yld (l:=l) [.int .i64 (k:Nat)] (R:=fun v w'=>(v=.bool true/\J ((freeTo (oN o) k).length+1) w')\/(v=.bool false/\X w')) O O O ?_ ?_
 ·refine YieldAt.mono hy' ?_
  rintro e W' (⟨rfl,h⟩ | ⟨rfl,h⟩)
  ·exact ⟨_,rfl,.inl ⟨rfl,h⟩⟩
  ·exact ⟨_,rfl,.inr ⟨rfl,h⟩⟩
 rintro v w' (⟨rfl,h⟩ | ⟨rfl,h⟩)
 ·refine .not_ O O (.nil (.condF O (.skip (.region (.add O O O (.mv O O (.nil ?_)))))))
  rw [wI (by omega)]
  refine ⟨rfl,(k+1,nx),lkA rfl,⟨?_,hlt,hnx,fun i hi=>?_,fun hn1=>?_⟩,by show n.ls.length-(k+1)<n.ls.length-k;omega⟩
  ·show J (freeTo (oN o) (k+1)).length w'
   rw [L2,if_neg hno,List.length_append]
   exact h
  ·show o.getD i 0<((k+1:Nat):Int)
   have:=hlo i hi;omega
  ·show ((k+1:Nat):Int)<=o.getD nx 0
   have h1:=hhi hn1
   have h2:o.getD nx 0≠k:=fun e=>hno ((Ac8 hok).2 ⟨nx,hn1,e⟩)
   omega
 ·refine .not_ O O (.nil (.condT O (.ret ?_)))
  exact .plain [] Tryz.results185 trivial (.inr h)
theorem AN5 (p:List Nat) (i:Nat):(freeTo p i).length<=i:=by
 unfold freeTo
 have:=List.length_filter_le (fun k => !(decide (k∈p))) (List.range i)
 simpa using this
theorem Z4 (n:NtV) (o:List Int):(inL n o).length<=n.ls.length:=AN5 _ _
structure InJ (w:World) (S:Nat->Prop) (b7 b1 b2:Nat) (x s vo:Value) (n:NtV) (o:List Int) (k:Nat) (W:World):Prop where
 low:Below w.heap.size w W
 k1:Blk W b1 24 #[x,s]
 k2:Blk W b2 25 #[vo]
 acc:∃ v,Blk W b7 25 #[v]/\OwnL (eInt .i64) 3 w.heap.size (fun k=>S k/\k≠b7) W v (pInts ((inL n o).take k))
theorem InJ.sft {w0:World} {S:Nat->Prop} {b7 b1 b2:Nat} {x s vo:Value} {n:NtV} {o:List Int} {k D:Nat} {W W':World} (h:InJ w0 S b7 b1 b2 x s vo n o k W) (hs:Sft D W W') (hD:w0.heap.size<=D):InJ w0 S b7 b1 b2 x s vo n o k W':=by
 obtain ⟨v,h1,h2⟩:=h.acc
 exact ⟨h.low.trans (hs.below.mono hD),hs.cells.blk trivial h.k1,hs.cells.blk trivial h.k2,v,hs.cells.blk trivial h1,h2.kp hs.cells⟩
theorem Al7:zeroOf Tryz.prog 25=some (.slice none 0 0):=by kernel_rfl
theorem AD0:Ent Tryz.prog 70:=A0 Tryz.func70 (by kernel_rfl) rfl
theorem AB9 {S:Nat->Prop} {w:World} {vn vo:Value} {n:NtV} {o:List Int} (up:Up S w) (hn:eN.R S w vn n) (ho:eI.R S w vo o):CR Tryz.prog 70 #[vn,vo] w (Two (eI.at S (if outE n o=0 then pInts (inL n o) else [])) (Is (.int .i64 (outE n o)))):=by
 obtain ⟨s,rfl,hs,hb⟩:=hn
 have hn:eN.R S w (.agg #[.int .i64 n.b,s]) n:=⟨s,rfl,hs,hb⟩
 obtain ⟨ao,co,hvo,_⟩:=RL.len ho
 refine enter Tryz.func70 O Tryz.ntmps70 O ?_
 refine .sr (.box O O fun w1 b2 n1=>.asg O O (.an O O ?_))
 obtain ⟨e1,k2,hb2,hs1⟩:=n1
 refine .seq (.sr (.ldA ty_N O O k2 O (.mv O O ?_)))
 refine .call _ O AX9 O (AV1 (hn.ext e1) (ho.ext e1)) fun v2 w2 e2 h2=>.an O O ?_
 subst h2
 have x2:=e1.trans e2
 refine .sr (.mv O O ?_)
 by_cases hE:outE n o=0
 rotate_left
 ·refine .neqT O O O hE (.nil (.condT O (.sr (.mv O O (.asg O O (.an O O (.ret ?_)))))))
  refine .plain [_,_] Tryz.results70 ⟨rfl,rfl,trivial⟩ ⟨x2,_,_,rfl,?_,rfl⟩
  rw [if_neg hE];exact RL.nil
 rw [if_pos hE]
 obtain ⟨hc,hok⟩:=AE0 hE
 obtain ⟨_,_,hl10,_⟩:=At5 hc
 refine .neqF O O O hE (.nil (.condF O (.skip ?_)))
 refine .sr (.alloc O Al7 fun w3 b7 n3=>.nil ?_)
 obtain ⟨e3,k7,hb7,hs3⟩:=n3
 have x3:=x2.trans e3
 refine .seq (.sr (.ldA ty_N O O ((k2.ext e2).ext e3) O (.mv O O ?_)))
 refine .call _ O AS7 O (AS1 O hvo) fun v4 w4 e4 h4=>.nil ?_
 obtain ⟨p1,p2,rfl,kp1,kp2,hp1,hp2⟩:=h4
 have x4:=x3.trans e4
 have hs4:=e4.size
 have hs2:=e2.size
 have hsL:∀ {W:World},Below w.heap.size w W->eLs.R (fun k=>S k/\k<w.heap.size) W s n.ls:=fun hB=>eLs.keep (fun k c t f hk h=>(hB.block k hk.2).trans h) (ER.lt eLs hs)
 have hoL:∀ {W:World},Below w.heap.size w W->eI.R (fun k=>S k/\k<w.heap.size) W vo o:=fun hB=>eI.keep (fun k c t f hk h=>(hB.block k hk.2).trans h) (ER.lt eI ho)
 refine .block (.range (BC9 (S:=fun k=>S k/\k<w.heap.size) (n:=n) (o:=o) (s:=s) (vo:=vo) (x:=.int .i64 n.b) hok hl10) O BE9 (fun k=>rfl) (by decide)
  (InJ w S b7 p1 p2 (.int .i64 n.b) s vo n o) (fun _ _=>False) (fun k W W' h hs=>h.sft hs x4.size) (fun _ _ _ h _=>h.elim) (fun k W h=>⟨h.k1,h.k2,hsL h.low,hoL h.low⟩) ?_ ?_ ?_ (fun _ _ h=>h.elim))
 ·refine ⟨x4,kp1,kp2,_,k7.ext e4,?_⟩
  rw [List.take_zero];exact OwnL.nil
 ·intro l k W hk hJ
  refine .region (.an O O ⟨rfl,rfl,fun W hJ hsz=>?_⟩)
  obtain ⟨hlow,kp1,kp2,v,k7,hown⟩:=hJ
  have hlw:=hlow.size
  refine .block (.region (.ld ty_I O O k7 O (.mv O O (.bsl _ O O AI6 fun W1 by_ ny=>?_))))
  obtain ⟨ey,ky,hby,hsy⟩:=ny
  have hlow1:=hlow.trans (ey.mono hlw)
  have hkl:=Z4 n o
  refine .gv O O (Z5 (E:=eInt .i64) (base:=w.heap.size) (n:=(((inL n o).getD k 0:Nat):Int)) (e:=.int .i64 (((inL n o).getD k 0:Nat):Int)) (by decide) un_I T7 O O O (hown.ext ey) ky ⟨rfl,by
    have:(inL n o).getD k 0<n.ls.length:=by
     have hm:(inL n o).getD k 0∈inL n o:=F9 hk
     unfold inL freeTo at hm
     exact List.mem_range.1 (List.mem_filter.1 hm).1
    exact I3.2 (by omega)⟩ (by simp;omega) (by decide) hlow1.size) ?_
  rintro v8 W8 ⟨ho8,hg8⟩
  have hown1:=hown.ext ey
  have k78:=hown1.gblk hg8 (k7.ext ey) (by decide)
  have kp18:=hown1.gblk hg8 (kp1.ext ey) (by decide)
  have kp28:=hown1.gblk hg8 (kp2.ext ey) (by decide)
  have hlow8:=hown1.below hg8 hlow1 hlow1.size
  obtain ⟨a8,c8,hv8⟩:=ho8.slice
  refine .store ty_I O O k78 (by rw [hv8];rfl) (by simp) (by rw [hv8];simp [one1,Value.cells]) fun W9 k9 u9=>.nil ?_
  refine ⟨((Oth.ext ey).trans (hown1.oth hg8)).trans (Oth.upd u9 k78),u9.below hlow8 (by omega),kp18.upd u9 (by omega),kp28.upd u9 (by omega),v8,by rw [hv8] at k9 ⊢;exact k9,?_⟩
  have:=ho8.upd u9 k78 (by decide) (fun h=>h.2 O)
  have htk:pInts ((inL n o).take (k+1))=pInts ((inL n o).take k)++[(((inL n o).getD k 0:Nat):Int)]:=by
   unfold pInts
   rw [List.take_add_one,A8 (z:=0) hk,List.map_append]
   rfl
  rw [htk]
  exact this
 ·intro W hJ hD
  obtain ⟨hlow,kp1,kp2,v,k7,hown⟩:=hJ
  refine .sr (.ld ty_I O O k7 O (.asg O O (.an O O (.ret ?_))))
  refine .mark [_,_] Tryz.results70 hD ⟨rfl,rfl,trivial⟩ ⟨X6 hlow x4.size,_,_,rfl,?_,by rw [hE]⟩
  rw [List.take_of_length_le (Nat.le_refl _)] at hown
  exact (hown.kp (Kp.put hD O)).toR up (fun _ h=>h.1)
end Go.Proofs.YtggegpiffjbngaaGreat
