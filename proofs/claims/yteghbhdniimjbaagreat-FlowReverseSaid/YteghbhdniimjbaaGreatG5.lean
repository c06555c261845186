/-
  solve: eliminate Package net: Check, Outs Loops that leave marks, the leaving behind several marks, a slice with three indexes. solve: Reduce, Rank, visit solve: augmented solve: particular solve: NullSpace solve: Solve, Certificate solve: Inverse solve: Det Solutions of linear equations: plain. law 04: small, alive law 04: alive The laws' Long: whatever is not long is small. The laws' Long for vectors and matrices Numbers by digits of sixteen bits: plain. The references: add, sub, times, cmp of magnitudes The references: times, sub, cmp, small, back, mul The references: back, mul The references: div The references: Sign, Neg, Abs, Add, Mul, Cmp of integers
-/
import Derived.Test.YteghbhdniimjbaaGreatG4
set_option linter.unusedVariables false
namespace Go.Kx
open Go Go.RowKit
/-- the set without the blocks of Z -/
abbrev but (S Z:Nat→Prop):Nat→Prop:=fun k=>S k∧¬ Z k
/-- what a row of the call's own and the block g take -/
abbrev tak (g:Nat) (v:Value):Nat→Prop:=fun k=>k=g∨v.ownBlock=some k
section
variable {α:Type} {E:ER α} {t:TypeId} {S:Nat→Prop} {w w':World} {g:Nat} {l:List α}
/-- rows kept while another row grows -/
theorem FB.grow {v v':Value} (h:FB E t (fun k=>S k∧v.ownBlock≠some k) w g l) (hg:w.grownBy w' v.ownBlock) (hw:v'.ownBlock=v.ownBlock∨v'.ownBlock=some w.heap.size) (hne:v.ownBlock≠some g):FB E t (fun k=>S k∧v'.ownBlock≠some k) w' g l:=by
 have h1:FB E t (fun k=>(S k∧v.ownBlock≠some k)∧k<w.heap.size) w g l:=h.mono fun k hk hs=>⟨hs,hk⟩
 have h2:=h1.chg (Chg.grown hg) hne fun k hk=>hk.1.2
 refine h2.mono fun k _ hk=>⟨hk.1.1,?_⟩
 rcases hw with e | e
 ·rw [e];exact hk.1.2
 ·rw [e];intro e';cases e';exact Nat.lt_irrefl _ hk.2
end
end Go.Kx
namespace Go.Proofs.YteghbhdniimjbaaGreat
open Go Go.Kx Go.RowKit
theorem un_I:Tryz.prog.underlying 41=some (.slice 3):=by kernel_rfl
theorem AO8:infoOf Tryz.prog 3=some (.int .i64 0,1,8):=by kernel_rfl
theorem B9:tyOf Tryz.prog 3=some (false,1):=by kernel_rfl
theorem Ag5 {x:Int}:bslOf Tryz.prog 41 1 [(0,.int .i64 x)]=some (3,#[.int .i64 x]):=by kernel_rfl
theorem fld_EV0:fldOf Tryz.prog 201 0=some 0:=by kernel_rfl
theorem fld_EV1:fldOf Tryz.prog 201 1=some 1:=by kernel_rfl
theorem ty_E0:tyOf Tryz.prog 1=some (false,1):=by kernel_rfl
theorem ty_E1:tyOf Tryz.prog 199=some (false,1):=by kernel_rfl
/-- what the events do: D Z j d: after j pivots the product is d, kept in memory that avoids Z -/
structure Evs (P:Program) (xe xs:FuncId) (cape caps:Array Value) (M:Nat) (S0 X:Nat→Prop) (D:(Nat→Prop)→Nat→Rat→World→Prop):Prop where
 entE:Ent P xe
 entS:Ent P xs
 mono:∀ {Z Z':Nat→Prop} {j:Nat} {d:Rat} {W:World},D Z j d W→(∀ k,k<W.heap.size→Z' k→Z k)→D Z' j d W
 chg:∀ {Z:Nat→Prop} {j:Nat} {d:Rat} {W W':World},D Z j d W→Chg Z W W'→D Z j d W'
 exch:∀ {Z:Nat→Prop} {j:Nat} {d:Rat} {W:World},D Z j d W→(∀ k,Z k→k<W.heap.size∧¬ X k)→Calls P xe (([]:List Value).toArray++cape) W fun e W'=>∃ v,e=.returned v∧Chg X W W'∧D Z j (-d) W'
 scal:∀ {Z:Nat→Prop} {j:Nat} {d:Rat} {W:World} {v:Value} {q:QV},D Z j d W→(∀ k,Z k→k<W.heap.size∧¬ X k)→eQ.R (fun k=>S0 k∧¬ Z k∧¬ X k) W v q→qk M q→j≤1000→Calls P xs ([v].toArray++caps) W fun e W'=>∃ v',e=.returned v'∧Chg X W W'∧D Z (j+1) (d*qval q) W'
abbrev pInts (p:List Nat):List Int:=p.map fun (k:Nat)=>(k:Int)
theorem AM6:Ent Tryz.prog 184:=A0 Tryz.func184 (by kernel_rfl) rfl
theorem AK4 {S X:Nat→Prop} {w:World} {gb n cap C cols L M:Nat} {f:RM} {xe xs:FuncId} {cape caps:Array Value} {D:(Nat→Prop)→Nat→Rat→World→Prop}
  (up:Up S w) (hF:FB eV 42 S w gb (tabM n C f)) (hcap:n≤cap) (hcols:cols≤C) (hn:n≤1000) (hC:C≤1000) (hL:1≤L) (hsz:∀ i k,i<n→k<C→Rsz (f i k) L) (hM:bd L (min n cols)≤M) (hM2:M≤40000000)
  (hSg:S gb) (hX:∀ k,X k→k<w.heap.size∧k≠gb∧¬ S k) (ev:Evs Tryz.prog xe xs cape caps M S X D) (hD:D (fun k=>k=gb) 0 1 w) :
  Calls Tryz.prog 184 #[.slice (some ⟨gb,0,none⟩) n cap,.int .i64 cols,.agg #[.func (.func xe) #[] cape,.func (.func xs) #[] caps]] w fun e W=>∃ v,e=.returned v∧Chg (fun k=>k=gb∨X k) w W ∧
   eI.R (fun k=>w.heap.size≤k) W v (pInts (elim n f cols).2)∧FB eV 42 S W gb (tabM n C (elim n f cols).1)∧D (fun k=>k=gb) (elim n f cols).2.length (elimD n f cols) W:=by
 have hgb:=hF.lt
 refine enterG Tryz.func184 rfl Tryz.ntmps184 rfl ?_
 refine .seq (.region (.box rfl rfl fun w1 b5 n1=>.asg rfl rfl (.nil (.seq (.region (.asg rfl rfl (.nil ?_)))))))
 obtain ⟨e1,k5,hb5,hs1⟩:=n1
 replace k5:Blk w1 b5 201 #[.func (.func xe) #[] cape,.func (.func xs) #[] caps]:=k5
 generalize hfe:Value.func (.func xe) #[] cape=fe at k5
 generalize hfs:Value.func (.func xs) #[] caps=fs at k5
 generalize hY:(fun k=>k=gb∨X k)=Y
 have hYi:∀ k,(k=gb∨X k)→Y k:=fun k h=>by rw [←hY];exact h
 have hYo:∀ k,Y k→(k=gb∨X k):=fun k h=>by rw [←hY] at h;exact h
 have hYw:∀ k,Y k→k<w.heap.size:=fun k hk=>by
  rcases hYo k hk with rfl | hk
  ·exact hgb
  ·exact (hX k hk).1
 have hb5X:¬ Y b5:=fun h=>by have:=hYw _ h;omega
 have hXg:¬ X gb:=fun h=>(hX _ h).2.1 rfl
 have hSX:∀ k,S k→¬ X k:=fun k hk hx=>(hX k hx).2.2 hk
 refine .mid (α:=Value) (fun vp=>[(7,vp)]) (fun vp W=>Chg Y w W∧OwnL (eInt .i64) 3 w.heap.size S W vp (pInts (elim n f cols).2)∧FB eV 42 (fun k=>S k∧vp.ownBlock≠some k) W gb (tabM n C (elim n f cols).1)∧D (tak gb vp) (elim n f cols).2.length (elimD n f cols) W) ?_ ?_
 rotate_left
 ·rintro vp W ⟨hc,ho,hf,hd⟩
  refine .seq (.region (.mv rfl rfl (.asg rfl rfl (.nil (.ret ?_)))))
  refine .plain [_] Tryz.results184 ⟨rfl,trivial⟩ ⟨hc,?_,hf.mono (fun k _ h=>h.1),ev.mono hd fun k _ h=>.inl h⟩
  obtain ⟨es,h1,h2⟩:=ho
  exact RL.ofOwn h1 rfl ⟨h2.1,fun i e x he hx=>h2.2 i e x he hx⟩ (fun k hk=>hk)
 refine .seq (.region (.mv rfl rfl (.mv rfl rfl (.nil ?_))))
 refine .block (.loop (α:=Nat×Value) (fun y=>[(0,.slice (some ⟨gb,0,none⟩) n cap),(5,.pointer (some ⟨b5,0,none⟩)),(7,y.2),(16,.int .i64 (cols:Nat)),(17,.int .i64 (y.1:Nat))])
  (fun y W=>Chg Y w W∧y.1≤cols∧Blk W b5 201 #[fe,fs]∧OwnL (eInt .i64) 3 w.heap.size S W y.2 (pInts (elim n f y.1).2)∧FB eV 42 (fun k=>S k∧y.2.ownBlock≠some k) W gb (tabM n C (elim n f y.1).1)∧D (tak gb y.2) (elim n f y.1).2.length (elimD n f y.1) W)
  (fun y=>cols-y.1) (0,.slice none 0 0) ?_ ?_ ?_)
 ·exact lkA rfl
 ·refine ⟨Chg.ext e1,Nat.zero_le _,k5,OwnL.nil,(hF.ext e1).mono fun k _ h=>⟨h,by simp [Value.ownBlock]⟩,ev.chg (ev.mono hD fun k _ h=>?_) (Chg.ext e1)⟩
  rcases h with h | h
  ·exact h
  ·simp [Value.ownBlock] at h
 rintro ⟨c,vp⟩ W ⟨hc,hcc,k5,ho,hf,hd⟩
 replace hcc:c≤cols:=hcc
 replace ho:OwnL (eInt .i64) 3 w.heap.size S W vp (pInts (elim n f c).2):=ho
 replace hf:FB eV 42 (fun k=>S k∧vp.ownBlock≠some k) W gb (tabM n C (elim n f c).1):=hf
 replace hd:D (tak gb vp) (elim n f c).2.length (elimD n f c) W:=hd
 refine .weak [(0,.slice (some ⟨gb,0,none⟩) n cap),(5,.pointer (some ⟨b5,0,none⟩)),(7,vp),(16,.int .i64 (cols:Nat)),(17,.int .i64 (c:Nat))] (fun t v h=>h) ?_
 have hszW:=hc.size
 have hech:=Q8 n f c
 have hql:=hech.len
 have hcC:c≤C:=by omega
 have hsg:=AM2 hL hsz c hcC
 have hnext:elim n f (c+1)=estep n c (elim n f c):=rfl
 have hnextD:elimD n f (c+1)=estepD n c (elim n f c) (elimD n f c):=rfl
 have hBM:bd L (elim n f c).2.length≤M:=Nat.le_trans (AB6 L (by have:=hech.len_c;omega)) hM
 have hBp:=BI4 hL (elim n f c).2.length
 obtain ⟨ao,co,hvo⟩:=ho.slice
 have hplen:(pInts (elim n f c).2).length=(elim n f c).2.length:=by simp
 rw [hplen] at hvo
 have hown:∀ k,vp.ownBlock=some k→w.heap.size≤k∧k<W.heap.size:=by
  obtain ⟨es,h1,_⟩:=ho
  exact fun k hk=>h1.lt k hk
 rcases Nat.lt_or_ge c cols with hlt | hge
 rotate_left
 ·refine .seq (.region (.lssF rfl rfl rfl (by omega) (.nil (.seq (.condF rfl (.exit ?_))))))
  have:c=cols:=by omega
  subst this
  exact ⟨rfl,vp,lkA rfl,hc,ho,hf,hd⟩
 have hcC:c<C:=by omega
 refine .seq (.region (.lssT rfl rfl rfl (by omega) (.nil (.seq (.condT rfl (.skip (.seq (.block (.seq (.region (.mv rfl rfl (.asg rfl rfl (.nil ?_)))))))))))))
 generalize hq:(elim n f c).2.length=q at *
 generalize hg:(elim n f c).1=g at *
 have hoR:eI.R (fun _=>True) W vp (pInts (elim n f c).2):=by
  obtain ⟨es,h1,h2⟩:=ho
  exact RL.ofOwn h1 rfl ⟨h2.1,fun i e x he hx=>h2.2 i e x he hx⟩ (fun k hk=>trivial)
 refine .seq (.region (.mv rfl rfl (.lenR un_I rfl rfl hoR ?_)))
 rw [hplen]
 refine .asg rfl rfl (.nil (.seq (.seq (.region (.mv rfl rfl (.mv rfl rfl (.len un_M rfl rfl ?_)))))))
 by_cases hqn:q=n
 ·refine .eqlT rfl rfl rfl (by omega) (.nil (.condT rfl (.exit ?_)))
  obtain ⟨h1,h2⟩:=Ad3 (n:=n) (f:=f) (c:=c) (by omega) (cols-c)
  rw [show c+(cols-c)=cols by omega] at h1 h2
  rw [h1,h2,hq,hg]
  exact ⟨rfl,_,lkA rfl,hc,ho,hf,hd⟩
 refine .eqlF rfl rfl rfl (by omega) (.nil (.condF rfl (.skip (.seq (.region (.mv rfl rfl (.mv rfl rfl (.mv rfl rfl ?_))))))))
 have hM0:eM.R S w (.slice (some ⟨gb,0,none⟩) n cap) (tabM n C g)→True:=fun _=>trivial
 have hMW:eM.R S W (.slice (some ⟨gb,0,none⟩) n cap) (tabM n C g):=by
  have:=(hf.mono (S':=S) fun k _ h=>h.1).toR (c:=cap) (hsz:=by decide) hSg (by rw [B0];exact hcap) (by rw [B0];omega)
  rwa [B0] at this
 refine .call _ rfl AQ0 rfl (AO0 hMW hql hcC (by omega)) fun v2 W2 e2 h2=>?_
 subst h2
 have hc2:=hc.trans (Chg.ext e2)
 have k5:=k5.ext e2
 have ho:=ho.ext e2
 have hf:=hf.ext e2
 have hd:=ev.chg hd (Chg.ext e2)
 have hszW2:=e2.size
 have hstep:elim n f (c+1)=match pivRow g c (n-q) q with
  | none=>elim n f c
  | some r=>(clr (swp g r q) q c,(elim n f c).2++[c]):=by rw [hnext];unfold estep;rw [hq,hg]<;>rfl
 have hstepD:elimD n f (c+1)=match pivRow g c (n-q) q with
  | none=>elimD n f c
  | some r=>(if r=q then elimD n f c else -elimD n f c)*g r c:=by rw [hnextD];unfold estepD;rw [hq,hg]<;>rfl
 cases hp:pivRow g c (n-q) q with
 | none =>
  rw [hp] at hstep hstepD
  refine .mv rfl rfl (.ext rfl rfl rfl (.ext rfl rfl rfl (.asg rfl rfl (.asg rfl rfl (.nil (.seq (.seq (.region (.mv rfl rfl (.not_ rfl rfl (.nil (.condT rfl (.exit ?_)))))))))))))
  refine .region (.add rfl rfl rfl (.mv rfl rfl (.nil ?_)))
  rw [wI (by omega)]
  refine ⟨rfl,(c+1,vp),lkA rfl,⟨hc2,hlt,k5,?_,?_,?_⟩,by show cols-(c+1)<cols-c;omega⟩
  ·rw [hstep];exact ho
  ·rw [hstep,hg];exact hf
  ·rw [hstep,hstepD,hq];exact hd
 | some r =>
 rw [hp] at hstep hstepD
 obtain ⟨hr1,hr2,hr3,_⟩:=J6 hp
 have hrn:r<n:=by omega
 have hqlt:q<n:=by omega
 refine .mv rfl rfl (.ext rfl rfl rfl (.ext rfl rfl rfl (.asg rfl rfl (.asg rfl rfl (.nil (.seq (.seq (.region (.mv rfl rfl (.not_ rfl rfl (.nil (.condF rfl (.skip ?_)))))))))))))
 have upT:∀ {W':World},W2.heap.size≤W'.heap.size→Up (fun k=>(S k∧vp.ownBlock≠some k)∧k≠gb) W':=fun hs k hk=>⟨⟨up k (by omega),fun h=>by have:=(hown k h).2;omega⟩,by omega⟩
 have hTZ:∀ k,((S k∧vp.ownBlock≠some k)∧k≠gb)→S k∧¬ tak gb vp k∧¬ X k:=fun k hk=>⟨hk.1.1,fun h=>by rcases h with h | h;exact hk.2 h;exact hk.1.2 h,hSX k hk.1.1⟩
 have hZ:∀ {W':World},W2.heap.size≤W'.heap.size→∀ k,tak gb vp k→k<W'.heap.size∧¬ X k:=fun hs k hk=>by
  rcases hk with rfl | hk
  ·exact ⟨by omega,hXg⟩
  ·exact ⟨by have:=(hown k hk).2;omega,fun h=>by have:=(hX k h).1;have:=(hown k hk).1;omega⟩
 have hfX:∀ k,(S k∧vp.ownBlock≠some k)→¬ X k:=fun k hk=>hSX k hk.1
 have hXY:∀ {A B:World},Chg X A B→Chg Y A B:=fun h=>h.mono fun k _ hk=>hYi k (.inr hk)
 have hUY:∀ {A B:World},Upd A B gb→Chg Y A B:=fun h=>Chg.upd h (hYi _ (.inl rfl))
 have hUZ:∀ {A B:World},Upd A B gb→Chg (tak gb vp) A B:=fun h=>Chg.upd h (.inl rfl)
 refine .mid (α:=Unit) (fun _=>[(0,.slice (some ⟨gb,0,none⟩) n cap),(5,.pointer (some ⟨b5,0,none⟩)),(7,vp),(8,.int .i64 (c:Nat)),(9,.int .i64 (q:Nat)),(16,.int .i64 (cols:Nat)),(17,.int .i64 (c:Nat))])
  (fun _ W3=>Chg Y W2 W3∧FB eV 42 (fun k=>S k∧vp.ownBlock≠some k) W3 gb (tabM n C (swp g r q))∧D (tak gb vp) q (if r=q then elimD n f c else -elimD n f c) W3) ?_ ?_
 ·refine .seq (.region (.mv rfl rfl (.mv rfl rfl ?_)))
  by_cases hrq:r=q
  ·refine .neqF rfl rfl rfl (by omega) (.nil (.condF rfl (.skip ?_)))
   refine ⟨rfl,(),lkA rfl,Chg.refl _,?_,?_⟩
   ·have:tabM n C (swp g r q)=tabM n C g:=C5 fun i k _ _=>by
     unfold swp
     by_cases ei:i=q
     ·simp [hrq,ei]
     ·simp [hrq,ei]
    rw [this];exact hf
   ·rw [if_pos hrq];exact hd
  ·refine .neqT rfl rfl rfl (by omega) (.nil (.condT rfl (.seq ?_)))
   refine .heldT follows true (fun _=>True) [some _,some (.int .i64 (r:Nat)),some _,some (.int .i64 (q:Nat)),some _,some (.int .i64 (q:Nat)),some (.pointer (some ⟨gb,0+q*1,none⟩)),none,some _,some (.int .i64 (r:Nat)),some (.pointer (some ⟨gb,0+r*1,none⟩)),none,some (.pointer (some ⟨gb,0+r*1,none⟩)),none,some (.pointer (some ⟨gb,0+q*1,none⟩)),none]
    (.two 7 (.one 11 (.one 13 (.one 15 .done))) 11 (.one 7 (.one 13 (.one 15 .done)))) (by kernel_rfl) (by kernel_rfl)
    ⟨fun _ _=>v_mv rfl,fun _ _=>v_mv rfl,fun _ _=>v_mv rfl,fun _ _=>v_mv rfl,fun _ _=>v_mv rfl,fun _ _=>v_mv rfl,fun _ _=>L4 (i:=q) un_M ty_V rfl rfl hqlt,fun _ _=>v_mv rfl,fun _ _=>v_mv rfl,fun _ _=>L4 (i:=r) un_M ty_V rfl rfl hrn,fun _ _=>L4 (i:=r) un_M ty_V rfl rfl hrn,fun _ _=>L4 (i:=q) un_M ty_V rfl rfl hqlt,trivial⟩ ?_
   intro W3 e3 _
   obtain ⟨x7,h7,p7⟩:=(hf.ext e3).at_ (by decide) (G3 hqlt)
   obtain ⟨x11,h11,p11⟩:=(hf.ext e3).at_ (by decide) (G3 hrn)
   have q7:PtrX W3 ⟨gb,0+q*1,none⟩ x7:=by rw [Nat.zero_add];exact p7
   have q11:PtrX W3 ⟨gb,0+r*1,none⟩ x11:=by rw [Nat.zero_add];exact p11
   refine .gv2 (.gv rfl trivial rfl (AQ6 (E:=eV) ty_V rfl q7 h7).gv ?_) (.gv rfl trivial rfl (AQ6 (E:=eV) ty_V rfl q11 h11).gv ?_)
   all_goals
    rintro _ _ ⟨rfl,rfl⟩
    refine .gv rfl trivial rfl (by first | exact (AQ6 (E:=eV) ty_V rfl q11 h11).gv | exact (AQ6 (E:=eV) ty_V rfl q7 h7).gv) ?_
    rintro _ _ ⟨rfl,rfl⟩
    refine .gv rfl trivial rfl (Z4 (E:=eV) (i:=r) (by decide) ty_V rfl rfl (hf.ext e3) rfl (by rw [B0];exact hrn) (Nat.zero_add _) h7) ?_
    rintro _ W4 ⟨f4,u4⟩
    refine .gv rfl trivial rfl (Z4 (E:=eV) (i:=q) (by decide) ty_V rfl rfl f4 rfl (by rw [List.length_set,B0];exact hqlt) (Nat.zero_add _) (ER.upd eV h11 u4 (fun h=>h.2 rfl))) ?_
    rintro _ W5 ⟨f5,u5⟩
    refine .nil (.inl rfl) ?_
    rw [Z1 hrn,Z1 hqlt] at f5
    have e5:tabM n C (fun j k=>if j=q then g r k else if j=r then g q k else g j k)=tabM n C (swp g r q):=C5 fun i k _ _=>by
     unfold swp
     by_cases e1:i=q
     ·subst e1;rw [if_pos rfl,if_neg (fun h=>hrq h.symm),if_pos rfl]
     ·by_cases e2:i=r
      ·rw [if_neg e1,if_pos e2,if_pos e2]
      ·rw [if_neg e1,if_neg e2,if_neg e2,if_neg e1]
    rw [e5] at f5
    have c25:Chg Y W2 W5:=((Chg.ext e3).trans (hUY u4)).trans (hUY u5)
    have d5:=ev.chg hd (((Chg.ext e3).trans (hUZ u4)).trans (hUZ u5))
    have k55:=c25.blk k5 hb5X
    refine .region (.fa fld_EV0 rfl rfl (.ld ty_E0 rfl rfl k55 rfl ?_))
    refine .callvG [] rfl (show some fe=some (Value.func (.func xe) #[] cape) by rw [hfe]) ev.entE rfl (ev.exch d5 (hZ c25.size)) ?_
    rintro v6 W6 ⟨c6,d6⟩
    refine .nil ⟨rfl,(),lkA rfl,c25.trans (hXY c6),f5.chg c6 hXg hfX,?_⟩
    rw [if_neg hrq];exact d6
 rintro _ W3 ⟨c3,f3,d3⟩
 have k5:=c3.blk k5 hb5X
 have hs3:=c3.size
 generalize hdd:(if r=q then elimD n f c else -elimD n f c)=dd at *
 have hsq:swp g r q q c=g r c:=by
  unfold swp
  by_cases e:q=r
  ·simp [e]
  ·simp [e]
 have hss:=Au5 (a:=r) (b:=q) hrn hqlt hsg
 generalize hs:swp g r q=s at *
 have hs0:s q c≠0:=by rw [hsq];exact hr3
 have hqk:qk (bd L q) (qc (s q c)):=AD1 (hss q c hqlt hcC)
 refine .seq ?_
 refine .par follows 9 [.inl _,.inl fs,.inl _,.inl (.int .i64 (q:Nat)),.inl _,.inr (eV.at (fun k=>(S k∧vp.ownBlock≠some k)∧k≠gb) (tab C (s q))),.inl (.int .i64 (c:Nat)),.inr (Ptr eQ (fun k=>(S k∧vp.ownBlock≠some k)∧k≠gb) (qc (s q c))),.inr (eQ.at (fun k=>(S k∧vp.ownBlock≠some k)∧k≠gb) (qc (s q c)))]
  [[],[(55,0)],[],[],[(57,2),(58,3)],[(59,4)],[],[(60,5),(61,6)],[(62,7)]] (by kernel_rfl) ⟨
  fun w e=>(v_fa fld_EV1 rfl).ob,fun w e=>(v_ld ty_E1 rfl (k5.ext e) rfl).ob,fun w e=>(v_mv rfl).ob,fun w e=>(v_mv rfl).ob,
  fun w e=>(L4 (i:=q) un_M ty_V rfl rfl hqlt).ob,
  fun w e=>AI6 (E:=eV) (i:=q) (by decide) ty_V rfl (Nat.zero_add _) (f3.ext e) (G3 hqlt),
  fun w e=>(v_mv rfl).ob,
  fun w e x hx=>E8 (i:=c) un_V ty_Q rfl hx rfl (L5 hcC),
  fun w e p hp=>R5 ty_Q rfl hp,trivial⟩ ?_
 intro W4 e4 x5 _ x7 _ x8 h8
 refine .callvG [x8] rfl (show some fs=some (Value.func (.func xs) #[] caps) by rw [hfs]) ev.entS rfl (ev.scal (ev.chg d3 (Chg.ext e4)) (hZ (by have:=e4.size;omega)) (eQ.mono (fun k _ hk=>hTZ k hk) h8) (hqk.mono hBM) (by omega)) ?_
 rintro v5 W5 ⟨c5,d5⟩
 refine .nil ?_
 rw [E1] at d5
 have c35:Chg Y W3 W5:=(Chg.ext e4).trans (hXY c5)
 have k5:=c35.blk k5 hb5X
 have f5:=(f3.ext e4).chg c5 hXg hfX
 have hs5:=c35.size
 have up5:=upT (show W2.heap.size≤W5.heap.size by omega)
 refine .seq ?_
 refine .parL follows 13 [11] [.inr (eQ.at (fun k=>(S k∧vp.ownBlock≠some k)∧k≠gb) (qc ((1:Int):Rat))),.inl _,.inl (.int .i64 (q:Nat)),.inl _,.inr (eV.at (fun k=>(S k∧vp.ownBlock≠some k)∧k≠gb) (tab C (s q))),.inl (.int .i64 (c:Nat)),.inr (Ptr eQ (fun k=>(S k∧vp.ownBlock≠some k)∧k≠gb) (qc (s q c))),.inr (eQ.at (fun k=>(S k∧vp.ownBlock≠some k)∧k≠gb) (qc (s q c))),
   .inr (Two (eQ.at (fun k=>(S k∧vp.ownBlock≠some k)∧k≠gb) (qc (s q c)⁻¹)) (Is (.int .i64 0))),.inr (Two (eQ.at (fun k=>(S k∧vp.ownBlock≠some k)∧k≠gb) (qc (s q c)⁻¹)) (Is (.int .i64 0))),.inr (eQ.at (fun k=>(S k∧vp.ownBlock≠some k)∧k≠gb) (qc (s q c)⁻¹)),.inl (.int .i64 0),.inr (NewP W5.heap.size 32 zq.cells)]
  [[],[],[],[(67,1),(68,2)],[(69,3)],[],[(70,4),(71,5)],[(72,6)],[(66,0),(73,7)],[(74,8)],[(65,9)],[(65,9)],[]] (by kernel_rfl) ⟨
  fun w e=>(A3 _ K9 rfl (K6 (up5.ext e.size) (by decide) (by decide))).ob (A8 _ _ _),
  fun w e=>(v_mv rfl).ob,fun w e=>(v_mv rfl).ob,
  fun w e=>(L4 (i:=q) un_M ty_V rfl rfl hqlt).ob,
  fun w e=>AI6 (E:=eV) (i:=q) (by decide) ty_V rfl (Nat.zero_add _) (f5.ext e) (G3 hqlt),
  fun w e=>(v_mv rfl).ob,
  fun w e x hx=>E8 (i:=c) un_V ty_Q rfl hx rfl (L5 hcC),
  fun w e p hp=>R5 ty_Q rfl hp,
  fun w e x hx y hy=>by
   have h1:qok (bd L q) (qc ((1:Int):Rat)):=(Rsz.int 1 (Nat.lt_of_lt_of_le (by decide) (Nat.pow_le_pow_right (by decide) hBp)) hBp).toOk
   have:=AY1 (up5.ext e.size) hx hy h1 hqk.1 hBp (by omega) (by rw [E1];exact hs0)
   rw [E1,E1,show ((1:Int):Rat) / s q c=(s q c)⁻¹ by rw [Rat.div_def];simp] at this
   exact (A3 _ AZ9 rfl this).ob (AI3 (A8 _ _ _) (Ac2 _)),
  fun w e x hx=>ob_mv rfl hx (AI3 (A8 _ _ _) (Ac2 _)),
  fun w e x hx=>by
   obtain ⟨a,b,rfl,h1,rfl⟩:=hx
   exact Z2 (v_ex rfl rfl) h1 (A8 _ _ _),
  fun w e x hx=>by
   obtain ⟨a,b,rfl,h1,rfl⟩:=hx
   exact (v_ex rfl rfl).ob,
  fun w e=>AD3 C9 e.size,trivial⟩ ?_
 intro W6 e6 x0 _ x4 _ x6 _ x7' _ x8' _ x9 _ x10 h10 x12 hx12
 obtain ⟨b12,rfl,hb12,k12⟩:=hx12
 have h10s:=Ar7 h10 k12 AN4
 refine .storeA (E:=eQ) ty_Q rfl rfl k12 rfl rfl h10s (fun h=>h.2 rfl) fun W7 k12 u7 h7=>.asg rfl rfl (.nil ?_)
 have x57:Ext W5 W7:=u7.below e6 hb12
 have h7:eQ.R (fun k=>(S k∧vp.ownBlock≠some k)∧k≠gb) W7 x10 (qc (s q c)⁻¹):=eQ.mono (fun k _ h=>h.1) h7
 have hx10:=shpA rfl h7
 have k5:=k5.ext x57
 have f7:=f5.ext x57
 have d7:=ev.chg d5 (Chg.ext x57)
 have up7:=up5.ext x57.size
 have c37:Chg Y W3 W7:=c35.trans (Chg.ext x57)
 have hki:qk (bd L q) (qc (s q c)⁻¹):=AD1 ((hss q c hqlt hcC).inv hBp)
 have hkr:∀ i,i<n→vk (bd L q) (tab C (s i)):=fun i hi=>T4 fun k hk=>hss i k hi hk
 refine .seq ?_
 refine .par follows 8 [.inl _,.inl (.int .i64 (q:Nat)),.inl x10,.inl _,.inl (.int .i64 (q:Nat)),.inl _,.inr (eV.at (fun k=>(S k∧vp.ownBlock≠some k)∧k≠gb) (tab C (s q))),.inr (eV.at (fun k=>(S k∧vp.ownBlock≠some k)∧k≠gb) (tab C fun k=>(s q c)⁻¹*s q k))]
  [[],[],[],[],[],[(80,3),(81,4)],[(82,5)],[(79,2),(83,6)]] (by kernel_rfl) ⟨
  fun w e=>(v_mv rfl).ob,fun w e=>(v_mv rfl).ob,fun w e=>((C0 ty_Q rfl (k12.ext e) (eQ.csz h7)).eq hx10.symm).ob,fun w e=>(v_mv rfl).ob,fun w e=>(v_mv rfl).ob,
  fun w e=>(L4 (i:=q) un_M ty_V rfl rfl hqlt).ob,
  fun w e=>AI6 (E:=eV) (i:=q) (by decide) ty_V rfl (Nat.zero_add _) (f7.ext e) (G3 hqlt),
  fun w e x hx=>by
   have:=Ai9 (up7.ext e.size) (ER.ext eQ h7 e) hx hki (hkr q hqlt) hBp (by omega) (by rw [A1];omega)
   rw [A1,E1,D6 (g:=fun k=>(s q c)⁻¹*s q k) (fun k hk=>by rw [J1,if_pos hk])] at this
   exact (A3 _ An5 rfl this).ob (A8 _ _ _),trivial⟩ ?_
 intro W8 e8 x6b _ x7b h7b
 refine .ixB (i:=q) un_M ty_V rfl rfl rfl hqlt ?_
 refine .storeF (E:=eV) (i:=q) (by decide) ty_V rfl rfl (f7.ext e8) rfl (by rw [B0];exact hqlt) (Nat.zero_add _) h7b fun W9 f9 u9=>.nil ?_
 rw [Z1 hqlt] at f9
 have f9':FB eV 42 (fun k=>S k∧vp.ownBlock≠some k) W9 gb (tabM n C (clrTo s q c 0)):=by rw [As0];exact f9
 clear f9
 have c39:Chg Y W3 W9:=(c37.trans (Chg.ext e8)).trans (hUY u9)
 have k9:=(Chg.trans (Chg.ext e8) (hUY u9)).blk k5 hb5X
 have d9:=ev.chg d7 (Chg.trans (Chg.ext e8) (hUZ u9))
 have hs39:=c39.size
 have hur:vk (bd L q+bd L q) (tab C fun k=>(s q c)⁻¹*s q k):=T4 fun k hk=>((hss q c hqlt hcC).inv hBp).mul (hss q k hqlt hk)
 refine .mid (α:=Unit) (fun _=>[(0,.slice (some ⟨gb,0,none⟩) n cap),(5,.pointer (some ⟨b5,0,none⟩)),(7,vp),(8,.int .i64 (c:Nat)),(16,.int .i64 (cols:Nat)),(17,.int .i64 (c:Nat))])
  (fun _ Wx=>Chg Y W3 Wx∧Blk Wx b5 201 #[fe,fs]∧FB eV 42 (fun k=>S k∧vp.ownBlock≠some k) Wx gb (tabM n C (clr s q c))∧D (tak gb vp) (q+1) (dd*s q c) Wx) ?_ ?_
 ·refine .seq (.region (.mv rfl rfl (.len un_M rfl rfl (.mv rfl rfl (.nil ?_)))))
  refine .block (.loop (α:=Nat) (fun i=>[(0,.slice (some ⟨gb,0,none⟩) n cap),(5,.pointer (some ⟨b5,0,none⟩)),(7,vp),(8,.int .i64 (c:Nat)),(9,.int .i64 (q:Nat)),(16,.int .i64 (cols:Nat)),(17,.int .i64 (c:Nat)),(86,.slice (some ⟨gb,0,none⟩) n cap),(87,.int .i64 (n:Nat)),(88,.int .i64 (i:Nat))])
   (fun i Wx=>Chg Y W3 Wx∧i≤n∧Blk Wx b5 201 #[fe,fs]∧FB eV 42 (fun k=>S k∧vp.ownBlock≠some k) Wx gb (tabM n C (clrTo s q c i))∧D (tak gb vp) (q+1) (dd*s q c) Wx) (fun i=>n-i) 0 ?_ ?_ ?_)
  ·exact lkA rfl
  ·exact ⟨c39,Nat.zero_le _,k9,f9',d9⟩
  ·rintro i Wa ⟨ca,hi,ka,fa,da⟩
   have hsa:=ca.size
   have upa:=upT (show W2.heap.size≤Wa.heap.size by omega)
   rcases Nat.lt_or_ge i n with hin | hin
   rotate_left
   ·refine .seq (.region (.lssF rfl rfl rfl (by omega) (.nil (.seq (.condF rfl (.exit ?_))))))
    have:i=n:=by omega
    subst this
    rw [BA9] at fa
    exact ⟨rfl,(),lkA rfl,ca,ka,fa,da⟩
   refine .seq (.region (.lssT rfl rfl rfl (by omega) (.nil (.seq (.condT rfl (.skip (.seq (.block (.seq (.region (.mv rfl rfl ?_)))))))))))
   refine .ixB (i:=i) un_M ty_V rfl rfl rfl hin (.ldF (E:=eV) (i:=i) (by decide) ty_V rfl rfl (Nat.zero_add _) fa (G3 hin) fun er her=>.asg rfl rfl (.asg rfl rfl (.nil ?_)))
   have hback:∀ {Wb:World} {σ:Env},Chg Y W3 Wb→Blk Wb b5 201 #[fe,fs]→FB eV 42 (fun k=>S k∧vp.ownBlock≠some k) Wb gb (tabM n C (clrTo s q c (i+1)))→D (tak gb vp) (q+1) (dd*s q c) Wb →
     Chg Y W3 Wb∧i+1≤n∧Blk Wb b5 201 #[fe,fs]∧FB eV 42 (fun k=>S k∧vp.ownBlock≠some k) Wb gb (tabM n C (clrTo s q c (i+1)))∧D (tak gb vp) (q+1) (dd*s q c) Wb:=fun h1 h2 h3 h4=>⟨h1,hin,h2,h3,h4⟩
   by_cases hiq:i=q
   ·refine .seq (.region (.mv rfl rfl (.mv rfl rfl (.neqF rfl rfl rfl (by omega) (.mv rfl rfl (.gs rfl rfl rfl rfl rfl (.gs rfl rfl rfl rfl rfl (.gs rfl rfl rfl rfl rfl (.gs rfl rfl rfl rfl rfl (.gs rfl rfl rfl rfl rfl (.gs rfl rfl rfl rfl rfl (.pick rfl rfl rfl (.nil (.condF rfl (.skip ?_)))))))))))))))
    refine .region (.add rfl rfl rfl (.mv rfl rfl (.nil ?_)))
    rw [wI (by omega)]
    refine ⟨rfl,i+1,lkA rfl,⟨ca,hin,ka,?_,da⟩,by show n-(i+1)<n-i;omega⟩
    have:tabM n C (clrTo s q c (i+1))=tabM n C (clrTo s q c i):=C5 fun j k _ _=>by
     rw [AJ1]
     by_cases ej:j=i
     ·simp only [ej,hiq,if_true];unfold clrTo;simp
     ·simp only [ej,if_false]
    rw [this];exact fa
   ·have hrow:∀ k,clrTo s q c i i k=s i k:=fun k=>by unfold clrTo;rw [if_neg hiq,if_neg (by omega)]
    have hrowt:tab C (clrTo s q c i i)=tab C (s i):=D6 fun k _=>hrow k
    rw [hrowt] at her
    refine .seq (.region (.mv rfl rfl (.mv rfl rfl (.neqT rfl rfl rfl (by omega) (.mv rfl rfl (.gr rfl rfl rfl rfl (.mv rfl rfl (.gr rfl rfl rfl rfl (.mv rfl rfl (.gr rfl rfl rfl rfl ?_))))))))))
    refine .ixN (i:=c) un_V ty_Q rfl rfl her rfl (L5 hcC) fun p hp=>.gr rfl rfl rfl rfl (.ldE ty_Q rfl rfl hp fun ex hex=>.gr rfl rfl rfl rfl ?_)
    refine .call _ rfl V9 rfl (U9 hex) fun vs Wb eb hvs=>.gr rfl rfl rfl rfl ?_
    subst hvs
    rw [E1]
    have kb:=ka.ext eb
    have fb:=fa.ext eb
    have db:=ev.chg da (Chg.ext eb)
    have cb:=ca.trans (Chg.ext eb)
    have upb:=upa.ext eb.size
    have herb:=ER.ext eV her eb
    by_cases hz:s i c=0
    ·refine .neqF rfl rfl rfl (AE8.2 hz) (.pick rfl rfl rfl (.nil (.condF rfl (.skip ?_))))
     refine .region (.add rfl rfl rfl (.mv rfl rfl (.nil ?_)))
     rw [wI (by omega)]
     refine ⟨rfl,i+1,lkA rfl,⟨cb,hin,kb,?_,db⟩,by show n-(i+1)<n-i;omega⟩
     have:tabM n C (clrTo s q c (i+1))=tabM n C (clrTo s q c i):=C5 fun j k _ _=>by
      rw [AJ1]
      by_cases ej:j=i
      ·simp only [ej,hiq,if_true,if_false];rw [hrow,hz];grind
      ·simp only [ej,if_false]
     rw [this];exact fb
    ·refine .neqT rfl rfl rfl (fun h=>hz (AE8.1 h)) (.pick rfl rfl rfl (.nil (.condT rfl ?_)))
     have hrq:tab C (clrTo s q c i q)=tab C fun k=>(s q c)⁻¹*s q k:=D6 fun k _=>by unfold clrTo;rw [if_pos rfl]
     refine .par follows 13 [.inl _,.inl (.int .i64 (i:Nat)),.inl er,.inl (.int .i64 (c:Nat)),.inr (Ptr eQ (fun k=>(S k∧vp.ownBlock≠some k)∧k≠gb) (qc (s i c))),.inr (eQ.at (fun k=>(S k∧vp.ownBlock≠some k)∧k≠gb) (qc (s i c))),.inr (eQ.at (fun k=>(S k∧vp.ownBlock≠some k)∧k≠gb) (qc (-(s i c)))),
       .inl _,.inl (.int .i64 (q:Nat)),.inl _,.inr (eV.at (fun k=>(S k∧vp.ownBlock≠some k)∧k≠gb) (tab C fun k=>(s q c)⁻¹*s q k)),.inl er,.inr (eV.at (fun k=>(S k∧vp.ownBlock≠some k)∧k≠gb) (tab C fun k => -(s i c)*((s q c)⁻¹*s q k)+s i k))]
      [[],[],[],[],[(106,2),(107,3)],[(108,4)],[(109,5)],[],[],[(111,7),(112,8)],[(113,9)],[],[(110,6),(114,10),(115,11)]] (by kernel_rfl) ⟨
      fun w e=>(v_mv rfl).ob,fun w e=>(v_mv rfl).ob,fun w e=>(v_mv rfl).ob,fun w e=>(v_mv rfl).ob,
      fun w e=>E8 (i:=c) un_V ty_Q rfl (ER.ext eV herb e) rfl (L5 hcC),
      fun w e p hp=>R5 ty_Q rfl hp,
      fun w e x hx=>by
       have:=AA5 (L:=bd L q) (upb.ext e.size) hx (AD1 (hss i c hin hcC)) hBp (by omega)
       rw [E1] at this
       exact (A3 _ AB7 rfl this).ob (A8 _ _ _),
      fun w e=>(v_mv rfl).ob,fun w e=>(v_mv rfl).ob,
      fun w e=>(L4 (i:=q) un_M ty_V rfl rfl hqlt).ob,
      fun w e=>hrq▸AI6 (E:=eV) (i:=q) (by decide) ty_V rfl (Nat.zero_add _) (fb.ext e) (G3 hqlt),
      fun w e=>(v_mv rfl).ob,
      fun w e x hx y hy=>by
       have:=AT6 (L:=bd L q+bd L q) (upb.ext e.size) hx hy (ER.ext eV herb e) (by rw [A1];omega) (by rw [A1];omega) (AD1 ((hss i c hin hcC).neg.mono (by omega))) hur ((hkr i hin).mono (by omega)) (by omega) (by omega)
       rw [A1,A1,Nat.max_self,E1,D6 (g:=fun k => -(s i c)*((s q c)⁻¹*s q k)+s i k) (fun k hk=>by rw [J1,J1,if_pos hk,if_pos hk])] at this
       exact (A3 _ AU3 rfl this).ob (A8 _ _ _),trivial⟩ ?_
     intro Wd ed y4 _ y5 _ y6 _ y10 _ y12 hy12
     refine .ixB (i:=i) un_M ty_V rfl rfl rfl hin ?_
     refine .storeF (E:=eV) (i:=i) (by decide) ty_V rfl rfl (fb.ext ed) rfl (by rw [B0];exact hin) (Nat.zero_add _) hy12 fun We fe' ue=>.nil ?_
     rw [Z1 hin] at fe'
     refine .region (.add rfl rfl rfl (.mv rfl rfl (.nil ?_)))
     rw [wI (by omega)]
     refine ⟨rfl,i+1,lkA rfl,⟨(cb.trans (Chg.ext ed)).trans (hUY ue),hin,(Chg.trans (Chg.ext ed) (hUY ue)).blk kb hb5X,?_,ev.chg db (Chg.trans (Chg.ext ed) (hUZ ue))⟩,by show n-(i+1)<n-i;omega⟩
     rw [AJ1]
     simp only [hiq,if_false]
     exact fe'
 rintro _ Wx ⟨cx,kx,fx,dx⟩
 have hsx:=cx.size
 have hox:OwnL (eInt .i64) 3 w.heap.size S Wx vp (pInts (elim n f c).2):=ho.chgI (c3.trans cx) hYw
 have c2x:Chg Y w Wx:=hc2.trans (c3.trans cx)
 refine .region (.mv rfl rfl (.mv rfl rfl (.bsl [(0,.int .i64 (c:Nat))] rfl rfl Ag5 fun Wy by_ ny=>?_)))
 obtain ⟨ey,ky,hby,hsy⟩:=ny
 have hlen:(pInts (elim n f c).2).length≤1000000000:=by rw [hplen];omega
 have hint:(eInt .i64).R (fun k=>S k∧vp.ownBlock≠some k) Wy (.int .i64 (c:Nat)) (c:Int):=⟨rfl,Int.le_trans (by decide:IntKind.min .i64≤0) (by omega),Int.le_trans (by omega:(c:Int)≤1000) (by decide)⟩
 refine .gv rfl rfl (Ag0 (E:=eInt .i64) (base:=w.heap.size) (n:=(c:Int)) (e:=.int .i64 (c:Nat)) (by decide) un_I AO8 rfl rfl rfl (hox.ext ey) ky hint hlen (by decide) (by have:=ey.size;omega)) ?_
 rintro vq Wz ⟨hoz,hgz,hwz⟩
 refine .asg rfl rfl (.nil (.region (.add rfl rfl rfl (.mv rfl rfl (.nil ?_)))))
 rw [wI (by omega)]
 have hpg:vp.ownBlock≠some gb:=fun h=>by have:=(hown gb h).1;omega
 have hcz:Chg Y w Wz:=(c2x.trans (Chg.ext ey)).step (Chg.grown hgz) fun k hk h=>by have:=(hown k h).1;omega
 refine ⟨rfl,(c+1,vq),lkA rfl,⟨hcz,hlt,?_,?_,?_,?_⟩,by show cols-(c+1)<cols-c;omega⟩
 ·exact (hox.ext ey).gblk hgz (kx.ext ey) (by decide)
 ·rw [hstep]
  show OwnL (eInt .i64) 3 w.heap.size S Wz vq (pInts ((elim n f c).2++[c]))
  rw [show pInts ((elim n f c).2++[c])=pInts (elim n f c).2++[(c:Int)] by simp]
  exact hoz
 ·rw [hstep]
  show FB eV 42 (fun k=>S k∧vq.ownBlock≠some k) Wz gb (tabM n C (clr (swp g r q) q c))
  rw [hs]
  exact (fx.ext ey).grow hgz hwz hpg
 ·have hz:D (fun k=>tak gb vp k∨tak gb vq k) (q+1) (dd*s q c) Wy:=ev.mono (ev.chg dx (Chg.ext ey)) fun k hk h=>by
   rcases h with h | h | h
   ·exact h
   ·exact .inl h
   ·rcases hwz with e | e
    ·rw [e] at h;exact .inr h
    ·rw [e] at h;cases h;omega
  have hz2:=ev.chg hz ((Chg.grown hgz).mono fun k _ h=>.inl (.inr h))
  have hz3:=ev.mono (Z':=tak gb vq) hz2 fun k _ h=>.inr h
  rw [hstep,hstepD]
  show D (tak gb vq) ((elim n f c).2++[c]).length _ Wz
  have e9:(if r=q then elimD n f c else -elimD n f c)*g r c=dd*s q c:=by rw [hdd,hsq]
  show D (tak gb vq) ((elim n f c).2++[c]).length ((if r=q then elimD n f c else -elimD n f c)*g r c) Wz
  rw [List.length_append,hq,e9]
  exact hz3
end Go.Proofs.YteghbhdniimjbaaGreat

namespace Go.Kx
open Go Go.RowKit
/-- a struct that holds a function -/
def eF:ER FuncId where
 sz:=1
 isA:=true
 R:=fun _ _ v f=>v=.agg #[.func (.func f) #[] #[]]
 csz:=by rintro S w e x rfl;rfl
 one:=by rintro S w e x rfl u hu;simp [Value.cells] at hu;subst hu;rfl
 shp:=by rintro S w e x rfl;rfl
 keep:=fun _ h=>h
 mono:=fun _ h=>h
abbrev eFs:ER (List FuncId):=RL eF
def ck (i:Nat) (b:Int) (l:LnV):Bool:=match i with
 | 0=>decide (0≤l.f) && decide (l.f<b)
 | 1=>decide (0≤l.t) && decide (l.t<b)
 | 2 => !(l.f == l.t)
 | 3=>decide (1≤l.x) && decide (l.x≤1000)
 | _=>decide (0≤l.c) && decide (l.c≤1000000)
def ckAll (b:Int) (l:LnV):Prop:=∀ i,i<5→ck i b l=true
def chkOk (n:NtV):Prop:=∀ i,i<n.ls.length→∀ l,n.ls[i]?=some l→ckAll n.b l
def outsOk (n:NtV) (o:List Int):Prop:=∀ i,i<o.length→0≤o.getD i 0∧o.getD i 0<n.ls.length∧(0<i→o.getD (i-1) 0<o.getD i 0)
open Classical in
noncomputable def chkE (n:NtV):Int:=if n.b<1∨6<n.b then 1 else if 10<n.ls.length then 5 else if chkOk n then 0 else 1
open Classical in
noncomputable def outE (n:NtV) (o:List Int):Int:=if chkE n≠0 then chkE n else if outsOk n o then 0 else 1
end Go.Kx
namespace Go.Proofs.YteghbhdniimjbaaGreat
open Go Go.Kx Go.RowKit
theorem ty_N:tyOf Tryz.prog 40=some (true,2):=by kernel_rfl
theorem R8:tyOf Tryz.prog 60=some (true,4):=by kernel_rfl
theorem M8:tyOf Tryz.prog 38=some (false,1):=by kernel_rfl
theorem L0:Tryz.prog.underlying 38=some (.slice 60):=by kernel_rfl
theorem zero_Ln:zeroOf Tryz.prog 60=some (.agg #[.int .i64 0,.int .i64 0,.int .i64 0,.int .i64 0]):=by kernel_rfl
theorem H9:fldOf Tryz.prog 40 0=some 0:=by kernel_rfl
theorem I5:fldOf Tryz.prog 40 1=some 1:=by kernel_rfl
theorem AA9:fldOf Tryz.prog 60 0=some 0:=by kernel_rfl
theorem AA8:fldOf Tryz.prog 60 1=some 1:=by kernel_rfl
theorem AV3:fldOf Tryz.prog 60 2=some 2:=by kernel_rfl
theorem Aw5:fldOf Tryz.prog 60 3=some 3:=by kernel_rfl
theorem un_Cs:Tryz.prog.underlying 136=some (.slice 140):=by kernel_rfl
theorem BC8:tyOf Tryz.prog 140=some (true,1):=by kernel_rfl
theorem zero_Ck:zeroOf Tryz.prog 140=some (.agg #[.nilFunc]):=by kernel_rfl
theorem fld_Ck0:fldOf Tryz.prog 140 0=some 0:=by kernel_rfl
theorem ty_FCk:tyOf Tryz.prog 138=some (false,1):=by kernel_rfl
theorem AZ3 {f:FuncId}:bldOf Tryz.prog 140 [(0,.func (.func f) #[] #[])]=some #[.func (.func f) #[] #[]]:=by kernel_rfl
theorem bsl_Ck5 {a b c d e:Value}:bslOf Tryz.prog 136 5 [(0,.agg #[a]),(1,.agg #[b]),(2,.agg #[c]),(3,.agg #[d]),(4,.agg #[e])]=some (140,#[a,b,c,d,e]):=by kernel_rfl
theorem AT2:Ent Tryz.prog 170:=A0 Tryz.func170 (by kernel_rfl) rfl
theorem AR7 {S:Nat→Prop} {w:World} {vn:Value} {n:NtV} {b:Int} (hn:eN.R S w vn n):CR Tryz.prog 170 #[vn,.int .i64 b] w (Is (.bool (decide (0≤b) && decide (b<n.b)))):=by
 obtain ⟨s,rfl,hs,_⟩:=hn
 refine enter Tryz.func170 rfl Tryz.ntmps170 rfl ?_
 refine .seq (.region (.box rfl rfl fun w1 b2 n1=>.asg rfl rfl (.nil ?_)))
 obtain ⟨e1,k2,_,_⟩:=n1
 refine .seq (.region (.mv rfl rfl ?_))
 by_cases h0:0≤b
 ·refine .leqT rfl rfl rfl h0 (.mv rfl rfl (.gr rfl rfl rfl rfl (.mv rfl rfl (.gr rfl rfl rfl rfl (.fa H9 rfl rfl (.gr rfl rfl rfl rfl (.ld A7 rfl rfl k2 rfl (.gr rfl rfl rfl rfl ?_))))))))
  rw [decide_eq_true h0]
  by_cases h1:b<n.b
  ·refine .lssT rfl rfl rfl h1 (.pick rfl rfl rfl (.asg rfl rfl (.nil (.ret ?_))))
   exact .plain [_] Tryz.results170 ⟨rfl,trivial⟩ ⟨e1,by rw [decide_eq_true h1]<;>rfl⟩
  ·refine .lssF rfl rfl rfl (by omega) (.pick rfl rfl rfl (.asg rfl rfl (.nil (.ret ?_))))
   exact .plain [_] Tryz.results170 ⟨rfl,trivial⟩ ⟨e1,by rw [decide_eq_false h1]<;>rfl⟩
 ·refine .leqF rfl rfl rfl (by omega) (.mv rfl rfl (.gs rfl rfl rfl rfl rfl (.gs rfl rfl rfl rfl rfl (.gs rfl rfl rfl rfl rfl (.gs rfl rfl rfl rfl rfl (.pick rfl rfl rfl (.asg rfl rfl (.nil (.ret ?_)))))))))
  exact .plain [_] Tryz.results170 ⟨rfl,trivial⟩ ⟨e1,by rw [decide_eq_false h0]<;>rfl⟩
section
variable {S:Nat→Prop} {w:World} {vn vl:Value} {n:NtV} {l:LnV}
theorem E_ck1:Ent Tryz.prog 169:=A0 Tryz.func169 (by kernel_rfl) rfl
theorem ck1_c (hn:eN.R S w vn n) (hl:eL.R S w vl l):CR Tryz.prog 169 #[vn,vl] w (Is (.bool (ck 0 n.b l))):=by
 have hvn:=shpA rfl hn
 obtain ⟨rfl,_⟩:=hl
 refine enter Tryz.func169 rfl Tryz.ntmps169 rfl ?_
 refine .seq (.region (.box rfl rfl fun w1 b2 n1=>.box rfl rfl fun w2 b3 n2=>.asg rfl rfl (.nil ?_)))
 obtain ⟨e1,k2,_,_⟩:=n1
 obtain ⟨e2,k3,_,_⟩:=n2
 refine .seq (.region (.ldA ty_N rfl rfl (k2.ext e2) (eN.csz hn) (.fa AA9 rfl rfl (.ld A7 rfl rfl k3 rfl ?_))))
 rw [←hvn]
 refine .call _ rfl AT2 rfl (AR7 (hn.ext (e1.trans e2))) fun v3 w3 e3 h3=>.asg rfl rfl (.nil (.ret ?_))
 exact .plain [_] Tryz.results169 ⟨rfl,trivial⟩ ⟨(e1.trans e2).trans e3,h3⟩
theorem E_ck2:Ent Tryz.prog 171:=A0 Tryz.func171 (by kernel_rfl) rfl
theorem ck2_c (hn:eN.R S w vn n) (hl:eL.R S w vl l):CR Tryz.prog 171 #[vn,vl] w (Is (.bool (ck 1 n.b l))):=by
 have hvn:=shpA rfl hn
 obtain ⟨rfl,_⟩:=hl
 refine enter Tryz.func171 rfl Tryz.ntmps171 rfl ?_
 refine .seq (.region (.box rfl rfl fun w1 b2 n1=>.box rfl rfl fun w2 b3 n2=>.asg rfl rfl (.nil ?_)))
 obtain ⟨e1,k2,_,_⟩:=n1
 obtain ⟨e2,k3,_,_⟩:=n2
 refine .seq (.region (.ldA ty_N rfl rfl (k2.ext e2) (eN.csz hn) (.fa AA8 rfl rfl (.ld A7 rfl rfl k3 rfl ?_))))
 rw [←hvn]
 refine .call _ rfl AT2 rfl (AR7 (hn.ext (e1.trans e2))) fun v3 w3 e3 h3=>.asg rfl rfl (.nil (.ret ?_))
 exact .plain [_] Tryz.results171 ⟨rfl,trivial⟩ ⟨(e1.trans e2).trans e3,h3⟩
theorem E_ck3:Ent Tryz.prog 172:=A0 Tryz.func172 (by kernel_rfl) rfl
theorem ck3_c (hl:eL.R S w vl l):CR Tryz.prog 172 #[vn,vl] w (Is (.bool (ck 2 n.b l))):=by
 obtain ⟨rfl,_⟩:=hl
 refine enter Tryz.func172 rfl Tryz.ntmps172 rfl ?_
 refine .seq (.region (.box rfl rfl fun w1 b2 n1=>.box rfl rfl fun w2 b3 n2=>.asg rfl rfl (.nil ?_)))
 obtain ⟨e1,k2,_,_⟩:=n1
 obtain ⟨e2,k3,_,_⟩:=n2
 refine .seq (.region (.fa AA9 rfl rfl (.ld A7 rfl rfl k3 rfl (.fa AA8 rfl rfl (.ld A7 rfl rfl k3 rfl (.neq rfl rfl rfl (.asg rfl rfl (.nil (.ret ?_)))))))))
 exact .plain [_] Tryz.results172 ⟨rfl,trivial⟩ ⟨e1.trans e2,rfl⟩
theorem E_ck4:Ent Tryz.prog 173:=A0 Tryz.func173 (by kernel_rfl) rfl
theorem ck4_c (hl:eL.R S w vl l):CR Tryz.prog 173 #[vn,vl] w (Is (.bool (ck 3 n.b l))):=by
 obtain ⟨rfl,_⟩:=hl
 refine enter Tryz.func173 rfl Tryz.ntmps173 rfl ?_
 refine .seq (.region (.box rfl rfl fun w1 b2 n1=>.box rfl rfl fun w2 b3 n2=>.asg rfl rfl (.nil ?_)))
 obtain ⟨e1,k2,_,_⟩:=n1
 obtain ⟨e2,k3,_,_⟩:=n2
 refine .seq (.region (.fa AV3 rfl rfl (.ld AC4 rfl rfl k3 rfl ?_)))
 by_cases h0:1≤l.x
 ·refine .leqT rfl rfl rfl h0 (.mv rfl rfl (.gr rfl rfl rfl rfl (.fa AV3 rfl rfl (.gr rfl rfl rfl rfl (.ld AC4 rfl rfl k3 rfl (.gr rfl rfl rfl rfl ?_))))))
  by_cases h1:l.x≤1000
  ·refine .leqT rfl rfl rfl h1 (.pick rfl rfl rfl (.asg rfl rfl (.nil (.ret ?_))))
   exact .plain [_] Tryz.results173 ⟨rfl,trivial⟩ ⟨e1.trans e2,by unfold ck;rw [decide_eq_true h0,decide_eq_true h1]<;>rfl⟩
  ·refine .leqF rfl rfl rfl (by omega) (.pick rfl rfl rfl (.asg rfl rfl (.nil (.ret ?_))))
   exact .plain [_] Tryz.results173 ⟨rfl,trivial⟩ ⟨e1.trans e2,by unfold ck;rw [decide_eq_true h0,decide_eq_false h1]<;>rfl⟩
 ·refine .leqF rfl rfl rfl (by omega) (.mv rfl rfl (.gs rfl rfl rfl rfl rfl (.gs rfl rfl rfl rfl rfl (.gs rfl rfl rfl rfl rfl (.pick rfl rfl rfl (.asg rfl rfl (.nil (.ret ?_))))))))
  exact .plain [_] Tryz.results173 ⟨rfl,trivial⟩ ⟨e1.trans e2,by unfold ck;rw [decide_eq_false h0]<;>rfl⟩
theorem E_ck5:Ent Tryz.prog 174:=A0 Tryz.func174 (by kernel_rfl) rfl
theorem ck5_c (hl:eL.R S w vl l):CR Tryz.prog 174 #[vn,vl] w (Is (.bool (ck 4 n.b l))):=by
 obtain ⟨rfl,_⟩:=hl
 refine enter Tryz.func174 rfl Tryz.ntmps174 rfl ?_
 refine .seq (.region (.box rfl rfl fun w1 b2 n1=>.box rfl rfl fun w2 b3 n2=>.asg rfl rfl (.nil ?_)))
 obtain ⟨e1,k2,_,_⟩:=n1
 obtain ⟨e2,k3,_,_⟩:=n2
 refine .seq (.region (.fa Aw5 rfl rfl (.ld AC4 rfl rfl k3 rfl ?_)))
 by_cases h0:0≤l.c
 ·refine .leqT rfl rfl rfl h0 (.mv rfl rfl (.gr rfl rfl rfl rfl (.fa Aw5 rfl rfl (.gr rfl rfl rfl rfl (.ld AC4 rfl rfl k3 rfl (.gr rfl rfl rfl rfl ?_))))))
  by_cases h1:l.c≤1000000
  ·refine .leqT rfl rfl rfl h1 (.pick rfl rfl rfl (.asg rfl rfl (.nil (.ret ?_))))
   exact .plain [_] Tryz.results174 ⟨rfl,trivial⟩ ⟨e1.trans e2,by unfold ck;rw [decide_eq_true h0,decide_eq_true h1]<;>rfl⟩
  ·refine .leqF rfl rfl rfl (by omega) (.pick rfl rfl rfl (.asg rfl rfl (.nil (.ret ?_))))
   exact .plain [_] Tryz.results174 ⟨rfl,trivial⟩ ⟨e1.trans e2,by unfold ck;rw [decide_eq_true h0,decide_eq_false h1]<;>rfl⟩
 ·refine .leqF rfl rfl rfl (by omega) (.mv rfl rfl (.gs rfl rfl rfl rfl rfl (.gs rfl rfl rfl rfl rfl (.gs rfl rfl rfl rfl rfl (.pick rfl rfl rfl (.asg rfl rfl (.nil (.ret ?_))))))))
  exact .plain [_] Tryz.results174 ⟨rfl,trivial⟩ ⟨e1.trans e2,by unfold ck;rw [decide_eq_false h0]<;>rfl⟩
end
def ckFs:List FuncId:=[169,171,172,173,174]
theorem ckFs_c {S:Nat→Prop} {w:World} {vn vl:Value} {n:NtV} {l:LnV} (hn:eN.R S w vn n) (hl:eL.R S w vl l) {i:Nat} {f:FuncId} (hf:ckFs[i]?=some f):Ent Tryz.prog f∧CR Tryz.prog f #[vn,vl] w (Is (.bool (ck i n.b l))):=by
 match i with
 | 0=>cases hf;exact ⟨E_ck1,ck1_c hn hl⟩
 | 1=>cases hf;exact ⟨E_ck2,ck2_c hn hl⟩
 | 2=>cases hf;exact ⟨E_ck3,ck3_c hl⟩
 | 3=>cases hf;exact ⟨E_ck4,ck4_c hl⟩
 | 4=>cases hf;exact ⟨E_ck5,ck5_c hl⟩
 | i+5=>simp [ckFs] at hf
theorem Ah7:Ent Tryz.prog 122:=A0 Tryz.func122 (by kernel_rfl) rfl
theorem Af1 {w:World}:CR Tryz.prog 122 #[] w (eFs.at (fun _=>True) ckFs):=by
 refine enter Tryz.func122 rfl Tryz.ntmps122 rfl ?_
 refine .seq (.region (.asg rfl rfl (.nil ?_)))
 refine .seq (.region (.bld _ rfl rfl AZ3 (.bld _ rfl rfl AZ3 (.bld _ rfl rfl AZ3 (.bld _ rfl rfl AZ3 (.bld _ rfl rfl AZ3 (.bsl _ rfl rfl bsl_Ck5 fun w1 b1 n1=>.asg rfl rfl (.nil (.ret ?_)))))))))
 refine .plain [_] Tryz.results122 ⟨rfl,trivial⟩ ⟨n1.1,?_⟩
 exact Ar8 (E:=eF) [.agg #[.func (.func 169) #[] #[]],.agg #[.func (.func 171) #[] #[]],.agg #[.func (.func 172) #[] #[]],.agg #[.func (.func 173) #[] #[]],.agg #[.func (.func 174) #[] #[]]] ckFs n1 (fun _ _=>trivial) rfl rfl (by decide) (Els.snoc (Els.snoc (Els.snoc (Els.snoc (Els.snoc Els.nil rfl) rfl) rfl) rfl) rfl)
theorem AT3:Ent Tryz.prog 47:=A0 Tryz.func47 (by kernel_rfl) rfl
theorem AR8 {S:Nat→Prop} {w:World} {vn:Value} {n:NtV} (hn:eN.R S w vn n):CR Tryz.prog 47 #[vn] w (Is (.int .i64 (chkE n))):=by
 obtain ⟨s,rfl,hs,hb⟩:=hn
 have hn:eN.R S w (.agg #[.int .i64 n.b,s]) n:=⟨s,rfl,hs,hb⟩
 obtain ⟨_,_,_,_,hll⟩:=RL.len hs
 refine enter Tryz.func47 rfl Tryz.ntmps47 rfl ?_
 refine .seq (.region (.box rfl rfl fun w1 b1 n1=>.asg rfl rfl (.nil ?_)))
 obtain ⟨e1,k1,hb1,hs1⟩:=n1
 have hB:n.b<1∨6<n.b→chkE n=1:=fun h=>by unfold chkE;rw [if_pos h]
 refine .scope (.seq (.seq (.region (.fa H9 rfl rfl (.ld A7 rfl rfl k1 rfl ?_)))))
 by_cases h1:n.b<1
 ·refine .lssT rfl rfl rfl h1 (.mv rfl rfl (.gs rfl rfl rfl rfl rfl (.gs rfl rfl rfl rfl rfl (.gs rfl rfl rfl rfl rfl (.pick rfl rfl rfl (.nil (.condT rfl (.seq (.region (.asg rfl rfl (.nil (.ret ?_))))))))))))
  exact .plain [_] Tryz.results47 ⟨rfl,trivial⟩ ⟨e1,by rw [hB (.inl h1)];rfl⟩
 refine .lssF rfl rfl rfl (by omega) (.mv rfl rfl (.gr rfl rfl rfl rfl (.fa H9 rfl rfl (.gr rfl rfl rfl rfl (.ld A7 rfl rfl k1 rfl (.gr rfl rfl rfl rfl ?_))))))
 by_cases h6:6<n.b
 ·refine .gtrT rfl rfl rfl h6 (.pick rfl rfl rfl (.nil (.condT rfl (.seq (.region (.asg rfl rfl (.nil (.ret ?_))))))))
  exact .plain [_] Tryz.results47 ⟨rfl,trivial⟩ ⟨e1,by rw [hB (.inr h6)];rfl⟩
 refine .gtrF rfl rfl rfl (by omega) (.pick rfl rfl rfl (.nil (.condF rfl (.skip (.seq (.seq (.region (.fa I5 rfl rfl (.ld M8 rfl rfl k1 rfl (.lenR L0 rfl rfl (hs.ext e1) ?_))))))))))
 by_cases h10:10<n.ls.length
 ·refine .gtrT rfl rfl rfl (by omega) (.nil (.condT rfl (.seq (.region (.asg rfl rfl (.nil (.ret ?_)))))))
  exact .plain [_] Tryz.results47 ⟨rfl,trivial⟩ ⟨e1,by unfold chkE;rw [if_neg (by omega),if_pos h10]<;>rfl⟩
 have hE:chkOk n→chkE n=0:=fun h=>by unfold chkE;rw [if_neg (by omega),if_neg h10,if_pos h]
 have hE1:¬ chkOk n→chkE n=1:=fun h=>by unfold chkE;rw [if_neg (by omega),if_neg h10,if_neg h]
 refine .gtrF rfl rfl rfl (by omega) (.nil (.condF rfl (.skip (.seq (.region (.asg rfl rfl (.nil (.seq (.region ?_)))))))))
 refine .call _ rfl Ah7 rfl Af1 fun va w2 e2 hF=>.asg rfl rfl (.nil (.seq (.label ?_)))
 have x2:=e1.trans e2
 have k1:=k1.ext e2
 refine .seq (.seq (.region (.fa I5 rfl rfl (.ld M8 rfl rfl k1 rfl (.lenR L0 rfl rfl (hs.ext x2) (.mv rfl rfl (.nil ?_)))))))
 have hret:∀ {W:World} {σ:Env} {e:Int},Ext w W→chkE n=e→Leave Tryz.prog Tryz.f47 44 (fun v w'=>Ext w w'∧Is (.int .i64 (chkE n)) v w') ((2,.int .i64 e)::σ) [] W:=fun hW he=>.plain [_] Tryz.results47 ⟨rfl,trivial⟩ ⟨hW,by rw [he];rfl⟩
 refine .block (.loop (α:=Nat) (fun i=>[(1,.pointer (some ⟨b1,0,none⟩)),(3,.int .i64 0),(4,va),(23,s),(24,.int .i64 (n.ls.length:Nat)),(25,.int .i64 (i:Nat))]) (fun i W=>Ext w2 W∧i≤n.ls.length∧∀ j,j<i→∀ l,n.ls[j]?=some l→ckAll n.b l) (fun i=>n.ls.length-i) 0 ?_ ?_ ?_)
 ·exact lkA rfl
 ·exact ⟨Ext.refl _,Nat.zero_le _,fun j hj=>absurd hj (Nat.not_lt_zero _)⟩
 rintro i W ⟨hW,hi,hall⟩
 refine .seq (.region ?_)
 rcases Nat.lt_or_ge i n.ls.length with hlt | hge
 rotate_left
 ·refine .lssF rfl rfl rfl (by omega) (.nil (.seq (.condF rfl (.exit (.seq (.region (.mv rfl rfl (.asg rfl rfl (.nil ?_)))))))))
  exact .ret (hret (x2.trans hW) (hE fun j hj l hl=>hall j (by omega) l hl))
 refine .lssT rfl rfl rfl (by omega) (.nil (.seq (.condT rfl (.skip (.seq (.block (.seq (.region ?_))))))))
 have hy:n.ls[i]?=some n.ls[i]:=List.getElem?_eq_getElem hlt
 refine .ixN (i:=i) L0 R8 rfl rfl (hs.ext (x2.trans hW)) rfl hy fun p hp=>.ldE (E:=eL) R8 rfl rfl hp fun vl hl=>?_
 refine .alloc rfl zero_Ln fun W1 b6 n1=>?_
 obtain ⟨f1,k6,hb6,hs1'⟩:=n1
 refine .storeA (E:=eL) (S:=fun k=>k≠b6) (z:=n.ls[i]) R8 rfl rfl k6 rfl rfl hl (fun h=>h rfl) fun W2 k6 u6 hl6=>.nil ?_
 have f2:Ext W W2:=u6.below f1 (by omega)
 have hW2:=hW.trans f2
 have hvl:=shpA (E:=eL) rfl hl6
 refine .seq (.region (.mv rfl rfl (.lenR un_Cs rfl rfl (ER.ext eFs hF hW2) (.mv rfl rfl (.nil ?_)))))
 refine .block (.loop (α:=Nat) (fun j=>[(1,.pointer (some ⟨b1,0,none⟩)),(3,.int .i64 0),(4,va),(23,s),(24,.int .i64 (n.ls.length:Nat)),(25,.int .i64 (i:Nat)),(6,.pointer (some ⟨b6,0,none⟩)),(29,va),(30,.int .i64 5),(31,.int .i64 (j:Nat))]) (fun j W'=>Ext W2 W'∧j≤5∧∀ c,c<j→ck c n.b n.ls[i]=true) (fun j=>5-j) 0 ?_ ?_ ?_)
 ·exact lkA rfl
 ·exact ⟨Ext.refl _,Nat.zero_le _,fun j hj=>absurd hj (Nat.not_lt_zero _)⟩
 rintro j W3 ⟨hW3,hj,hck⟩
 refine .seq (.region ?_)
 rcases Nat.lt_or_ge j 5 with hjl | hge
 rotate_left
 ·refine .lssF rfl rfl rfl (by omega) (.nil (.seq (.condF rfl (.exit ?_))))
  have:j=5:=by omega
  subst this
  have hc:ckAll n.b n.ls[i]:=hck
  refine .region (.add rfl rfl rfl (.mv rfl rfl (.nil ?_)))
  rw [wI (by omega)]
  refine ⟨rfl,i+1,lkA rfl,⟨hW2.trans hW3,hlt,fun j' hj' l' hl'=>?_⟩,by show n.ls.length-(i+1)<n.ls.length-i;omega⟩
  by_cases e:j'=i
  ·rw [e,hy] at hl';cases hl';exact hc
  ·exact hall j' (by omega) l' hl'
 refine .lssT rfl rfl rfl (by omega) (.nil (.seq (.condT rfl (.skip (.seq (.block (.seq (.region ?_))))))))
 obtain ⟨f,hf⟩:∃ f,ckFs[j]?=some f:=⟨_,List.getElem?_eq_getElem (by exact hjl)⟩
 refine .ixN (i:=j) un_Cs BC8 rfl rfl (ER.ext eFs hF (hW2.trans hW3)) rfl hf fun p hp=>.ldE (E:=eF) BC8 rfl rfl hp fun vf hvf=>?_
 replace hvf:vf=.agg #[.func (.func f) #[] #[]]:=hvf
 subst hvf
 refine .alloc rfl zero_Ck fun W4 b8 n4=>?_
 obtain ⟨f4,k8,hb8,hs4⟩:=n4
 refine .store BC8 rfl rfl k8 rfl (by simp [Value.cells]) (by simp [one1,Value.cells]) fun W5 k8 u5=>.nil ?_
 have f5:Ext W3 W5:=u5.below f4 (by omega)
 have hW5:=hW3.trans f5
 have xW5:=x2.trans (hW2.trans hW5)
 obtain ⟨hEf,hcf⟩:=ckFs_c (hn.ext xW5) (ER.ext eL (S:=fun k=>k≠b6) hl6 hW5) hf
 refine .seq (.region (.fa fld_Ck0 rfl rfl (.ld ty_FCk rfl rfl k8 rfl (.ldA ty_N rfl rfl (k1.ext (hW2.trans hW5)) rfl (.ldA R8 rfl rfl (k6.ext hW5) (eL.csz hl6) ?_)))))
 rw [←hvl]
 refine .callv [_,_] rfl rfl hEf rfl hcf fun v6 W6 e6 h6=>?_
 subst h6
 by_cases hc:ck j n.b n.ls[i]=true
 ·rw [hc]
  refine .not_ rfl rfl (.nil (.condF rfl (.skip (.region (.add rfl rfl rfl (.mv rfl rfl (.nil ?_)))))))
  rw [wI (by omega)]
  refine ⟨rfl,j+1,lkA rfl,⟨hW5.trans e6,hjl,fun c hc'=>?_⟩,by show 5-(j+1)<5-j;omega⟩
  by_cases e:c=j
  ·subst e;exact hc
  ·exact hck c (by omega)
 ·rw [Bool.not_eq_true] at hc
  rw [hc]
  refine .not_ rfl rfl (.nil (.condT rfl (.seq (.region (.asg rfl rfl (.nil (.exit (.seq (.region (.mv rfl rfl (.asg rfl rfl (.nil ?_))))))))))))
  refine .ret (hret (xW5.trans e6) (hE1 fun h=>?_))
  have:=h i hlt _ hy j hjl
  rw [hc] at this
  cases this
end Go.Proofs.YteghbhdniimjbaaGreat

namespace Go.Kx
open Go Go.RowKit
section
variable {P:Program} {ro:Option Nat} {N:Nat} {Q:Pst} {σ:Env} {ds:List Deferred} {w:World}
/-- a loop whose rounds may leave marks -/
theorem WC.loopD {α:Type} {c:Code} (E:α→Env) (DS:α→List Deferred) (F:α→World→Prop) (m:α→Nat) (x:α) (hE:∀ t v,look (E x) t=some v→look σ t=some v) (hds:ds=DS x) (hF:F x w)
  (h:∀ x w,F x w→WC P ro N (thn (fun σ' ds' w'=>∃ x',ds'=DS x'∧(∀ t v,look (E x') t=some v→look σ' t=some v)∧F x' w'∧m x'<m x) Q) c (E x) (DS x) w):WC P ro N Q (.loop c) σ ds w:=by
 subst hds
 refine ⟨fun a ha=>?_⟩
 refine wpIn_loop (fun a w=>∃ x,Agr N (E x) (DS x) a∧F x w) (fun a w=>Classical.epsilon fun n=>(∃ x,Agr N (E x) (DS x) a∧F x w∧m x=n)∧∀ n',(∃ x,Agr N (E x) (DS x) a∧F x w∧m x=n')→n≤n') ⟨x,ha.weak hE,hF⟩ ?_
 intro a₁ w₁ ⟨x₁,ha₁,hx₁⟩
 have hleast:∀ (a:Act) (w:World),(∃ x,Agr N (E x) (DS x) a∧F x w)→(∃ x,Agr N (E x) (DS x) a∧F x w∧m x=Classical.epsilon fun n=>(∃ x,Agr N (E x) (DS x) a∧F x w∧m x=n)∧∀ n',(∃ x,Agr N (E x) (DS x) a∧F x w∧m x=n')→n≤n') ∧
   ∀ x,Agr N (E x) (DS x) a→F x w→(Classical.epsilon fun n=>(∃ x,Agr N (E x) (DS x) a∧F x w∧m x=n)∧∀ n',(∃ x,Agr N (E x) (DS x) a∧F x w∧m x=n')→n≤n')≤m x:=by
  intro a w ⟨x,h1,h2⟩
  have hex:∃ n,(∃ x,Agr N (E x) (DS x) a∧F x w∧m x=n)∧∀ n',(∃ x,Agr N (E x) (DS x) a∧F x w∧m x=n')→n≤n':=by
   have hp:∀ b,∀ x,m x≤b→Agr N (E x) (DS x) a→F x w→∃ n,(∃ x,Agr N (E x) (DS x) a∧F x w∧m x=n)∧∀ n',(∃ x,Agr N (E x) (DS x) a∧F x w∧m x=n')→n≤n':=by
    intro b
    induction b with
    | zero=>exact fun x hb h1 h2=>⟨m x,⟨x,h1,h2,rfl⟩,fun n' _=>by omega⟩
    | succ b ih =>
     intro x hb h1 h2
     by_cases hh:∃ y,Agr N (E y) (DS y) a∧F y w∧m y<m x
     ·obtain ⟨y,h3,h4,h5⟩:=hh
      exact ih y (by omega) h3 h4
     ·exact ⟨m x,⟨x,h1,h2,rfl⟩,fun n' ⟨y,h3,h4,h5⟩=>Nat.le_of_not_lt fun hlt=>hh ⟨y,h3,h4,by omega⟩⟩
   exact hp (m x) x (Nat.le_refl _) h1 h2
  have hs:=Classical.epsilon_spec hex
  exact ⟨hs.1,fun x h1 h2=>hs.2 _ ⟨x,h1,h2,rfl⟩⟩
 obtain ⟨⟨x₂,ha₂,hx₂,hm₂⟩,_⟩:=hleast a₁ w₁ ⟨x₁,ha₁,hx₁⟩
 refine wpIn_mono ((h x₂ w₁ hx₂).out a₁ ha₂) ?_
 rintro e a' w' ⟨σ',ds',hag,hq⟩
 cases e with
 | normal =>
  obtain ⟨x',rfl,hE',hF',hm'⟩:=hq
  refine ⟨⟨x',hag.weak hE',hF'⟩,?_⟩
  have:=(hleast a' w' ⟨x',hag.weak hE',hF'⟩).2 x' (hag.weak hE') hF'
  omega
 | _=>exact ⟨σ',ds',hag,hq⟩
/-- where branches meet, with marks -/
theorem WC.midD {α:Type} {x y:Code} (E:α→Env) (DS:α→List Deferred) (F:α→World→Prop) (h1:WC P ro N (thn (fun σ' ds' w'=>∃ a,ds'=DS a∧(∀ t v,look (E a) t=some v→look σ' t=some v)∧F a w') Q) x σ ds w)
  (h2:∀ a w',F a w'→WC P ro N Q y (E a) (DS a) w'):WC P ro N Q (x.seq y) σ ds w :=
 WC.seq (h1.mono fun e σ' ds' w' h=>by
  cases e with
  | normal=>obtain ⟨a,rfl,he,hf⟩:=h;exact (h2 a w' hf).weak _ he
  | _=>exact h)
end
def mkD (D:Nat):Deferred:={ target:=.collected D,args:=#[] }
def putAll:List Nat→World→World
 | [],w=>w
 | D::r,w=>putAll r (w.putObj D (.deferred none))
theorem Leave.marks {P:Program} {fn:Func} {N:Nat} {R:Value→World→Prop} {σ:Env} {rs:List ResultVar} (vs:List Value) (hr:fn.results=rs.toArray):∀ (ns:List Nat) (w:World),ns.Nodup→(∀ D∈ns,w.heap[D]?=some (.deferred (some []))) →
  Res P σ (putAll ns w) rs vs→R (tup vs) (putAll ns w)→Leave P fn N R σ (ns.map mkD) w
 | [],w,_,_,h,hR=>Leave.plain vs hr h hR
 | D::ns,w,hn,hD,h,hR=>by
  have ih:=Leave.marks (P:=P) (fn:=fn) (N:=N) (R:=R) (σ:=σ) (rs:=rs) vs hr ns (w.putObj D (.deferred none)) (List.nodup_cons.1 hn).2 (fun D' hD'=>by
   rw [World.putObj_heap_other (by intro e;subst e;exact (List.nodup_cons.1 hn).1 hD')]
   exact hD D' (by simp [hD'])) h hR
  exact fun a ha=>⟨by simp,.inl ⟨_,_,rfl,run_takeDeferred (hD D (by simp)),ih { a with defers:=ns.map mkD } ⟨ha.size,rfl,ha.slot⟩⟩⟩
theorem Ac8 {S:Nat→Prop}:∀ (ns:List Nat) (w:World),ns.Nodup→(∀ D∈ns,w.heap[D]?=some (.deferred (some [])))→Kp S w (putAll ns w)
 | [],w,_,_=>fun _ _ _ _ _ h=>h
 | D::ns,w,hn,hD=>by
  have h1:Kp S w (w.putObj D (.deferred none)):=Kp.put (hD D (by simp)) rfl
  have h2:=Ac8 (S:=S) ns (w.putObj D (.deferred none)) (List.nodup_cons.1 hn).2 (fun D' hD'=>by
   rw [World.putObj_heap_other (by intro e;subst e;exact (List.nodup_cons.1 hn).1 hD')]
   exact hD D' (by simp [hD']))
  exact fun k c t f hk hc=>h2 k c t f hk (h1 k c t f hk hc)
theorem AM5 {B:Nat} {w0:World}:∀ (ns:List Nat) (w:World),(∀ D∈ns,B≤D)→Below B w0 w→Below B w0 (putAll ns w)
 | [],_,_,h=>h
 | D::ns,w,hB,h=>AM5 ns _ (fun D' hD'=>hB D' (by simp [hD'])) (I9 h (hB D (by simp)))
section
variable {P:Program} {ro:Option Nat} {N:Nat} {ds:List Deferred} {ops:Array Oper} {K:Env→World→Prop} {rest:List Oper} {σ:Env} {w:World} {d:Tmp} {ty:TypeId} {pos:String} {af:Array Edge}
/-- s[:h:m], exactly -/
theorem v_cut3 {dd:Option Tmp} {gd:Option (Nat×Bool)} {t e:TypeId} {x y z:Operand} {b:Bool} {sz n c H:Nat} {a:Option Addr} {k k':IntKind} (ht:P.underlying t=some (.slice e)) (he:tyOf P e=some (b,sz)) (hx:ev σ x=some (.slice a n c))
  (hy:ev σ y=some (.int k (H:Int))) (hz:ev σ z=some (.int k' (H:Int))) (h2:H≤c) :
  Vl P ⟨dd,.slice t x none (some y) (some z),ty,pos,af,gd⟩ σ w (.slice a H H):=by
 refine ⟨(by intro _ h;cases h),fun ρ hρ=>?_⟩
 have e1:=hρ x _ (by simp [Op.operands]) hx
 have e2:=hρ y _ (by simp [Op.operands]) hy
 have e3:=hρ z _ (by simp [Op.operands]) hz
 have hb1:(Instr.sliceBounds true n c none (some (ρ y)) (some (ρ z))).run P w=.ok (0,H,H) w:=by
  simp [Instr.sliceBounds,Instr.sliceBound,e2,e3,asIntOf,Int.ofNat_le,h2]
 by_cases h0:H=0
 ·simp [execOp,e1,Instr.sliceAt,run_underlying ht,Instr.slice,hb1,(F4 he w).2,h0]
 ·simp [execOp,e1,Instr.sliceAt,run_underlying ht,Instr.slice,hb1,(F4 he w).2,h0]
  cases a<;>rfl
theorem RL.first {α:Type} {E:ER α} {hsz:0<E.sz} {S:Nat→Prop} {a:Option Addr} {n c H c':Nat} {l:List α} (h:(RL E hsz).R S w (.slice a n c) l) (hH:H≤l.length) (hc:H≤c'):(RL E hsz).R S w (.slice a H c') (l.take H):=by
 have h1:=RL.sub h rfl 0 H (Nat.zero_le _) hH
 obtain ⟨es,he,a',c'',hv,h3,h4,h5,h6⟩:=h1
 have hl:((l.take H).drop 0).length=H:=by simp;omega
 rw [List.drop_zero] at *
 refine ⟨es,he,a,c',by rw [show (l.take H).length=H by simp;omega],by rw [show (l.take H).length=H by simp;omega];exact hc,h4,h5,fun hn=>?_⟩
 obtain ⟨ad,ha,hS,hcl⟩:=h6 hn
 refine ⟨ad,?_,hS,hcl⟩
 simp only [Nat.sub_zero,Nat.zero_mul] at hv
 injection hv with e1 e2 e3
 rw [←ha,←e1]
 obtain ⟨_,_,_,hv2,hcc,_⟩:=h
 split
 ·rfl
 ·cases a with
  | none=>rfl
  | some x=>rfl
end
/-! a matrix with a new row h at i that is still being filled -/
def FBx (t:TypeId) (S:Nat→Prop) (w:World) (gb h i:Nat) (hv:Value) (l:List (List QV)):Prop :=
 ∃ es,Blk w gb t (cellsOf es).toArray∧es.length=l.length∧(∀ e∈es,e.cells.size=1)∧es[i]?=some hv∧∀ (j:Nat) (e:Value) (x:List QV),j≠i→es[j]?=some e→l[j]?=some x→eV.R (fun k=>(S k∧k≠gb)∧k≠h) w e x
section
variable {t:TypeId} {S:Nat→Prop} {w w':World} {gb h i:Nat} {hv:Value} {l:List (List QV)}
theorem FBx.keep (hF:FBx t S w gb h i hv l) (hk:Kp (fun k=>k≠h) w w') (hg:gb≠h):FBx t S w' gb h i hv l:=by
 obtain ⟨es,h1,h2,h3,h4,h5⟩:=hF
 exact ⟨es,hk.blk hg h1,h2,h3,h4,fun j e x hj he hx=>eV.keep (fun k c t f hh hc=>hk k c t f hh.2 hc) (h5 j e x hj he hx)⟩
theorem FBx.ptr (hF:FBx t S w gb h i hv l) (h1:hv.cells=#[hv]):w.cell? ⟨gb,0+i*1,none⟩=some hv:=by
 obtain ⟨es,hb,h2,h3,h4,h5⟩:=hF
 have:=D0 es i 0 hv h3 h4 (by decide)
 rw [hb.cell,List.getElem?_toArray,show 0+i*1=i*1+0 by omega,this,h1];rfl
theorem FBx.done {r:List QV} (hF:FBx t S w gb h i hv l) (hr:eV.R (fun k=>S k∧k≠gb) w hv r):FB eV t S w gb (l.set i r):=by
 obtain ⟨es,h1,h2,h3,h4,h5⟩:=hF
 refine ⟨es,h1,by simp [h2],fun j e x he hx=>?_⟩
 by_cases hj:j=i
 ·subst hj
  rw [h4] at he;cases he
  rw [List.getElem?_set_self (by rw [←h2];exact (List.getElem?_eq_some_iff.1 h4).1)] at hx
  cases hx;exact hr
 ·rw [List.getElem?_set_ne (fun e=>hj e.symm)] at hx
  exact eV.mono (fun k _ hk=>hk.1) (h5 j e x hj he hx)
/-- the store of the new row's slice -/
theorem FBx.start {P:Program} {σ:Env} {ty:TypeId} {pos:String} {af:Array Edge} {dd:Option Tmp} {gd:Option (Nat×Bool)} {tt:TypeId} {x y:Operand} {w1:World} {tq:TypeId} {cs:Array Value} {n c:Nat} (ht:tyOf P tt=some (false,1)) (hF:FB eV t S w gb l) (hn:New w w1 h tq cs) (hi:i<l.length)
  (hx:ev σ x=some (.pointer (some ⟨gb,0+i*1,none⟩))) (hy:ev σ y=some (.slice (some ⟨h,0,none⟩) n c)) :
  Gv P ⟨dd,.store tt x y,ty,pos,af,gd⟩ σ w1 fun _ w'=>FBx t S w' gb h i (.slice (some ⟨h,0,none⟩) n c) l∧Upd w1 w' gb∧Blk w' h tq cs∧gb≠h:=by
 obtain ⟨e1,k1,hh,hs⟩:=hn
 have hlt:=hF.lt
 obtain ⟨es,hb,hels⟩:=hF
 have hesz:=hels.sz
 have hle:i*1+1≤(cellsOf es).toArray.size:=by
  rw [List.size_toArray,A9 es hesz,hels.1];show i*1+1≤l.length*1;omega
 refine (H8 (n:=1) ht (by rw [hx,Nat.zero_add]) hy (hb.ext e1) rfl hle (by simp [one1,Value.cells])).mono ?_
 rintro _ w2 ⟨hB',u⟩
 have hset:=V5 (sz:=1) (by decide) es i (.slice (some ⟨h,0,none⟩) n c) hesz rfl (by rw [hels.1];exact hi)
 have hne:gb≠h:=by omega
 rw [hset] at hB'
 refine ⟨⟨es.set i (.slice (some ⟨h,0,none⟩) n c),hB',by simp [hels.1],fun e he=>?_,?_,fun j e x hj he hx'=>?_⟩,u,k1.upd u (fun e=>hne e.symm),hne⟩
 ·rcases List.mem_or_eq_of_mem_set he with h' | h'
  ·exact hesz e h'
  ·rw [h'];rfl
 ·rw [List.getElem?_set_self (by rw [hels.1];exact hi)]
 ·rw [List.getElem?_set_ne (fun e=>hj e.symm)] at he
  have h1:=ER.lt eV (hels.2 j e x he hx')
  have h2:=(ER.ext eV h1 e1).upd u (fun hh=>hh.1.2 rfl)
  exact eV.mono (fun k _ hk=>⟨hk.1,by have:=hk.2;omega⟩) h2
end
end Go.Kx

namespace Go.Kx
open Go Go.RowKit
/-- the reduced form of a matrix and its pivots -/
def redF (m:List (List QV)):RM:=(elim m.length (rm m) (colsOf m)).1
def redP (m:List (List QV)):List Nat:=(elim m.length (rm m) (colsOf m)).2
def redM (m:List (List QV)):List (List QV):=tabM (redP m).length (colsOf m) (redF m)
theorem Ax5 {n c q:Nat} {f:RM} (h:q≤n):(tabM n c f).take q=tabM q c f:=by
 unfold tabM
 rw [←List.map_take,List.take_range,Nat.min_eq_left h]
theorem U7 (m:List (List QV)):Ech m.length (colsOf m) (redF m) (redP m):=Q8 _ _ _
end Go.Kx
namespace Go.Proofs.YteghbhdniimjbaaGreat
open Go Go.Kx Go.RowKit
theorem E_ign1:Ent Tryz.prog 222:=A0 Tryz.func222 (by kernel_rfl) rfl
theorem E_ign2:Ent Tryz.prog 223:=A0 Tryz.func223 (by kernel_rfl) rfl
theorem evs_ign {M:Nat} {S0:Nat→Prop}:Evs Tryz.prog 222 223 #[] #[] M S0 (fun _=>False) (fun _ _ _ _=>True) where
 entE:=E_ign1
 entS:=E_ign2
 mono:=fun _ _=>trivial
 chg:=fun _ _=>trivial
 exch:=fun {Z j d W} _ _=>by
  refine enterG Tryz.func222 rfl Tryz.ntmps222 rfl ?_
  exact .skip (.plain [] Tryz.results222 trivial ⟨Chg.refl _,trivial⟩)
 scal:=fun {Z j d W v q} _ _ _ _ _=>by
  refine enterG Tryz.func223 rfl Tryz.ntmps223 rfl ?_
  refine .region (.box rfl rfl fun w1 b1 n1=>.nil ?_)
  exact .plain [] Tryz.results223 trivial ⟨Chg.ext n1.1,trivial⟩
/-- the matrix that is laid for the elimination -/
theorem BH7 (m:List (List QV)) (i k:Nat) (h:k<colsOf m):catM m [] i k=rm m i k:=by unfold catM;rw [if_pos h]
/-- matrices that elimination may take -/
structure eOk (L n C:Nat) (m:List (List QV)):Prop where
 k:mk_ L m
 l1:1≤L
 bd:bd L n≤40000000
 mn:min m.length (colsOf m)≤n
 rows:m.length≤100
 cols:colsOf m≤C
 c1:C≤100
theorem eOk.le {L n C:Nat} {m:List (List QV)} (h:eOk L n C m):L≤40000000:=Nat.le_trans (AB6 L (Nat.zero_le n)) h.bd
theorem AE1:Ent Tryz.prog 209:=A0 Tryz.func209 (by kernel_rfl) rfl
theorem AC7 {S:Nat→Prop} {w:World} {vm:Value} {m:List (List QV)} {L n C:Nat} (up:Up S w) (hm:eM.R S w vm m) (ok:eOk L n C m) :
  CR Tryz.prog 209 #[vm] w (Two (eM.at S (redM m)) (eI.at S (pInts (redP m)))):=by
 have hn:=ok.rows
 have hc:=ok.cols
 have hc1:=ok.c1
 have hL:=ok.le
 refine enter Tryz.func209 rfl Tryz.ntmps209 rfl ?_
 refine .seq (.region (.asg rfl rfl (.asg rfl rfl (.nil (.seq (.region (.mv rfl rfl ?_)))))))
 refine .call _ rfl AN2 rfl (AG7 (b:=[]) (L:=L) up hm RL.nil ok.k (fun r hr=>by cases hr) ok.l1 (by omega) (by omega) (by simp) (by omega) (by simp [AB2])) fun v1 w1 e1 h1=>.asg rfl rfl (.nil ?_)
 obtain ⟨gb,rfl,hgb,hF⟩:=h1
 rw [List.length_nil,Nat.max_eq_left (Nat.zero_le _),AB2,Nat.add_zero,C5 (g:=rm m) (fun i k _ hk=>BH7 m i k hk)] at hF
 have hgl:=hF.lt
 rw [List.length_nil,Nat.max_eq_left (Nat.zero_le _)]
 have up1:=up.ext e1.size
 refine .seq (.region (.mv rfl rfl (.mv rfl rfl ?_)))
 refine .call _ rfl T9 rfl (T6 (hm.ext e1)) fun v2 w2 e2 h2=>?_
 subst h2
 refine .call _ rfl AU4 rfl AT8 fun v3 w3 e3 h3=>?_
 subst h3
 have e13:=e2.trans e3
 have hs13:=e13.size
 have hs1:=e1.size
 have hcall:=AK4 (X:=fun _=>False) (cols:=colsOf m) (cap:=m.length) (L:=L) (M:=40000000) (up1.ext e13.size) (hF.ext e13) (Nat.le_refl _) (Nat.le_refl _) (by omega) (by omega) ok.l1 (fun i k _ _=>ok.k.rsz ok.l1 i k) (Nat.le_trans (AB6 L ok.mn) ok.bd) (Nat.le_refl _) (up gb (by omega)) (fun _ h=>h.elim) evs_ign trivial
 refine .callG _ rfl AM6 rfl hcall ?_
 rintro v4 w4 ⟨c4,h4,f4,-⟩
 have x4:Ext w w4:=c4.below (e1.trans e13) (by omega) (fun k hk=>by rcases hk with rfl | hk;exact hgb;exact hk.elim)
 have hql:=(U7 m).len
 refine .asg rfl rfl (.nil (.seq (.region (.mv rfl rfl (.mv rfl rfl (.lenR un_I rfl rfl h4 (.mv rfl rfl (.lenR un_I rfl rfl h4 ?_))))))))
 rw [show (pInts (elim m.length (rm m) (colsOf m)).2).length=(redP m).length by simp [redP]]
 refine .gv rfl rfl (v_cut3 (H:=(redP m).length) un_M ty_V rfl rfl rfl hql).gv ?_
 rintro _ _ ⟨rfl,rfl⟩
 refine .mv rfl rfl (.asg rfl rfl (.asg rfl rfl (.nil (.ret ?_))))
 refine .plain [_,_] Tryz.results209 ⟨rfl,rfl,trivial⟩ ⟨x4,_,_,rfl,?_,?_⟩
 ·have:=f4.toR (c:=m.length) (hsz:=by decide) (up gb (by omega)) (by rw [B0];exact Nat.le_refl _) (by rw [B0];omega)
  rw [B0] at this
  have h5:=RL.first (H:=(redP m).length) (c':=(redP m).length) this (by rw [B0];exact hql) (Nat.le_refl _)
  rw [Ax5 hql] at h5
  exact h5
 ·exact eI.mono (fun k _ hk=>up k (by have:=e1.size;omega)) h4
theorem Y2:Ent Tryz.prog 211:=A0 Tryz.func211 (by kernel_rfl) rfl
theorem X4 {w:World} {va vb:Value} {n n' c c':Nat} {a a':Option Addr} (ha:va=.slice a n c) (hb:vb=.slice a' n' c'):CR Tryz.prog 211 #[va,vb] w (fun v w'=>∃ b1 b2,v=.func (.func 235) #[] #[.pointer (some ⟨b2,0,none⟩),.pointer (some ⟨b1,0,none⟩)] ∧
  Blk w' b1 22 #[va]∧Blk w' b2 41 #[vb]∧w.heap.size≤b1∧w.heap.size≤b2):=by
 subst ha;subst hb
 refine enter Tryz.func211 rfl Tryz.ntmps211 rfl ?_
 refine .seq (.region ?_)
 refine .box rfl rfl fun w1 b1 n1=>?_
 obtain ⟨e1,k1,hb1,hs1⟩:=n1
 refine .box rfl rfl fun w2 b2 n2=>.asg rfl rfl (.nil ?_)
 obtain ⟨e2,k2,hb2,hs2⟩:=n2
 refine .seq (.region ?_)
 refine .mkf [] [_,_] rfl rfl rfl rfl (.asg rfl rfl (.nil (.ret ?_)))
 exact .plain [_] Tryz.results211 ⟨rfl,trivial⟩ ⟨e1.trans e2,b1,b2,rfl,k1.ext e2,k2,by omega,by have:=e1.size;omega⟩
theorem ty_I:tyOf Tryz.prog 41=some (false,1):=by kernel_rfl
theorem AZ5:Ent Tryz.prog 235:=A0 Tryz.func235 (by kernel_rfl) rfl
theorem AW1 {S:Nat→Prop} {m:List (List QV)} {p:List Nat} {es:List Value} {va vb:Value} {b1 b2:Nat} (hl:p.length≤m.length) (hlm:m.length≤1000000):Iter Tryz.prog 235 #[.pointer (some ⟨b2,0,none⟩),.pointer (some ⟨b1,0,none⟩)] p.length
  (fun k=>[.int .i64 (p.getD k 0:Nat),es.getD k nilV]) (fun W=>Blk W b1 22 #[va]∧Blk W b2 41 #[vb]∧EsR eV S W va es m∧eI.R S W vb (pInts p)):=by
 intro l J X stJ stX hF hy W hJ
 have hF0:=hF 0 W hJ
 refine enterG Tryz.func235 rfl Tryz.ntmps235 rfl ?_
 refine .seq (.region (.ld ty_I rfl rfl hF0.2.1 rfl (.lenR un_I rfl rfl hF0.2.2.2 (.mv rfl rfl (.nil ?_)))))
 rw [show (pInts p).length=p.length by simp]
 refine .block (.loop (α:=Nat) (fun k=>[(8,.int .i64 (k:Nat)),(7,.int .i64 (p.length:Nat)),(6,vb),(0,.func (.yield l) #[] #[]),(1,.pointer (some ⟨b2,0,none⟩)),(2,.pointer (some ⟨b1,0,none⟩))]) (fun k W=>J k W∧k≤p.length) (fun k=>p.length-k) 0 ?_ ?_ ?_)
 ·exact lkA rfl
 ·exact ⟨hJ,Nat.zero_le _⟩
 ·rintro k W ⟨hJ,hk⟩
  obtain ⟨hB1,hB2,hA,hB⟩:=hF k W hJ
  by_cases hlt:k<p.length
  ·refine .seq (.region (.lssT rfl rfl rfl (by omega) (.nil (.seq (.condT rfl (.skip ?_))))))
   have hpk:(pInts p)[k]?=some ((p.getD k 0:Nat):Int):=by
    rw [List.getElem?_map,A6 (z:=0) hlt];rfl
   refine .seq (.block (.seq (.region (.mv rfl rfl (.ixN (i:=k) un_I B9 rfl rfl hB rfl hpk fun q hq=>.ldE B9 rfl rfl hq fun e he=>.asg rfl rfl (.asg rfl rfl (.nil ?_)))))))
   obtain ⟨rfl,_⟩:=he
   refine .seq (.region (.mv rfl rfl (.mv rfl rfl (.ld ty_M rfl rfl hB1 rfl (.mv rfl rfl ?_)))))
   refine .ixX un_M ty_V rfl rfl hA rfl (A6 (z:=nilV) (by rw [hA.1.1];omega)) fun q hq=>.ldX (E:=eV) ty_V rfl rfl hq (hA.get Aq7 k) ?_
   refine .yld (l:=l) [.int .i64 (p.getD k 0:Nat),es.getD k nilV] (R:=fun v w'=>(v=.bool true∧J (k+1) w')∨(v=.bool false∧X w')) rfl rfl rfl ?_ ?_
   ·refine YieldAt.mono (hy k _ hlt hJ) ?_
    rintro e W' (⟨rfl,h⟩ | ⟨rfl,h⟩)
    ·exact ⟨_,rfl,.inl ⟨rfl,h⟩⟩
    ·exact ⟨_,rfl,.inr ⟨rfl,h⟩⟩
   ·rintro v w' (⟨rfl,h⟩ | ⟨rfl,h⟩)
    ·refine .not_ rfl rfl (.nil (.condF rfl (.skip (.region (.add rfl rfl rfl (.mv rfl rfl (.nil ?_)))))))
     rw [wI (by omega)]
     exact ⟨rfl,k+1,lkA rfl,⟨h,by omega⟩,by omega⟩
    ·refine .not_ rfl rfl (.nil (.condT rfl (.ret ?_)))
     exact .plain [] Tryz.results235 trivial (.inr h)
  ·refine .seq (.region (.lssF rfl rfl rfl (by omega) (.nil (.seq (.condF rfl (.exit ?_))))))
   refine .plain [] Tryz.results235 trivial ?_
   have:k=p.length:=by omega
   subst this;exact .inl hJ
end Go.Proofs.YteghbhdniimjbaaGreat

namespace Go.Kx
open Go Go.RowKit
/-- the augmented matrix -/
def augF (m:List (List QV)) (b:List QV):RM:=fun i k=>if k<colsOf m then rm m i k else rv b i
def augM (m:List (List QV)) (b:List QV):List (List QV):=tabM (max m.length b.length) (colsOf m+1) (augF m b)
end Go.Kx
namespace Go.Proofs.YteghbhdniimjbaaGreat
open Go Go.Kx Go.RowKit
theorem AM7:Ent Tryz.prog 210:=A0 Tryz.func210 (by kernel_rfl) rfl
theorem AK5 {S:Nat→Prop} {w:World} {vm vb:Value} {m:List (List QV)} {b:List QV} {L:Nat} (up:Up S w) (hm:eM.R S w vm m) (hb:eV.R S w vb b) (hkm:mk_ L m) (hkb:vk L b) (hL:1≤L) (hL2:L≤40000000) (hr:m.length≤100) (hc:colsOf m≤100) (hl:b.length≤100) :
  CR Tryz.prog 210 #[vm,vb] w (eM.at S (augM m b)):=by
 have hb0:=ER.lt eV hb
 have hBv:∀ {W:World},Below w.heap.size w W→eV.R (fun k=>S k∧k<w.heap.size) W vb b:=fun hB=>eV.keep (fun k c t f hk h=>(hB.block k hk.2).trans h) hb0
 generalize hN:max m.length b.length=N
 have hN1:N≤100:=by omega
 generalize hG:(fun i=>[b.getD i q0])=G
 refine enter Tryz.func210 rfl Tryz.ntmps210 rfl ?_
 refine .seq (.region (.asg rfl rfl (.nil (.seq (.region (.mv rfl rfl (.lenR un_M rfl rfl hm (.mv rfl rfl (.lenR un_V rfl rfl hb (.max_ rfl rfl rfl ?_))))))))))
 rw [show (max (m.length:Int) (b.length:Int))=(N:Int) by omega]
 refine .make_ _ _ un_M Af9 rfl (by decide) rfl rfl rfl (Nat.le_refl _) (by omega) (by omega) fun w1 gb n1=>.asg rfl rfl (.nil ?_)
 have f1:FB eV 42 S w1 gb (List.replicate N []):=FB.made n1 RL.nil
 obtain ⟨e1,k1,hgb,hs1⟩:=n1
 refine .mid (α:=Unit) (fun _=>[(0,vm),(5,.slice (some ⟨gb,0,none⟩) N N)]) (fun _ W=>Below w.heap.size w W∧FB eV 42 S W gb ((List.range N).map G)) ?_ ?_
 ·refine .seq (.region (.mv rfl rfl (.len un_M rfl rfl (.mv rfl rfl (.nil ?_)))))
  refine .block (.loop (α:=Nat) (fun i=>[(0,vm),(1,vb),(5,.slice (some ⟨gb,0,none⟩) N N),(14,.int .i64 (N:Nat)),(15,.int .i64 (i:Nat))])
   (fun i W=>Below w.heap.size w W∧i≤N∧FB eV 42 S W gb (fil N i G [])) (fun i=>N-i) 0 ?_ ?_ ?_)
  ·exact lkA rfl
  ·exact ⟨e1,Nat.zero_le _,by rw [Q7];exact f1⟩
  ·rintro i W ⟨hB,hi,hF⟩
   have hsz:=hB.size
   have hgl:=hF.lt
   rcases Nat.lt_or_ge i N with hlt | hge
   rotate_left
   ·refine .seq (.region (.lssF rfl rfl rfl (by omega) (.nil (.seq (.condF rfl (.exit ?_))))))
    have:i=N:=by omega
    subst this
    rw [AM1] at hF
    exact ⟨rfl,(),lkA rfl,hB,hF⟩
   refine .seq (.region (.lssT rfl rfl rfl (by omega) (.nil (.seq (.condT rfl (.skip (.seq (.block (.seq (.region (.mv rfl rfl (.asg rfl rfl (.nil (.seq (.region (.mv rfl rfl (.mv rfl rfl ?_)))))))))))))))))
   refine .make_ 1 1 un_V P0 rfl (by decide) rfl rfl rfl (Nat.le_refl _) (by omega) (by omega) fun W1 h n2=>?_
   have hn2:=n2
   obtain ⟨e2,k2,hh,hs2⟩:=n2
   refine .ixB (i:=i) un_M ty_V rfl rfl rfl hlt ?_
   refine .gv rfl rfl (FBx.start (i:=i) ty_V hF hn2 (by rw [L9];exact hlt) rfl rfl) ?_
   rintro _ W2 ⟨hx2,u2,kh2,hne⟩
   replace kh2:Blk W2 h 32 #[.bool false,.slice none 0 0,.bool false,.slice none 0 0]:=kh2
   refine .nil ?_
   have hB2:Below w.heap.size w W2:=u2.below (hB.trans (e2.mono hsz)) (by omega)
   have hs2':=u2.size
   have hSh:S h∧h≠gb:=⟨up h (by omega),by omega⟩
   refine .seq (.region (.mv rfl rfl (.mv rfl rfl (.lenR un_V rfl rfl (hBv hB2) ?_))))
   by_cases hib:i<b.length
   ·refine .lssT rfl rfl rfl (by omega) (.nil (.condT rfl ?_))
    refine .par follows 8 [.inl _,.inl (.int .i64 (i:Nat)),.inl _,.inl (.slice (some ⟨h,0,none⟩) 1 1),.inl vb,.inl (.int .i64 (i:Nat)),.inr (Ptr eQ (fun k=>S k∧k<w.heap.size) (b.getD i q0)),.inr (eQ.at (fun k=>S k∧k<w.heap.size) (b.getD i q0))]
     [[],[],[(26,0),(27,1)],[(28,2)],[],[],[(30,4),(31,5)],[(32,6)]] (by kernel_rfl) ⟨
     fun w e=>(v_mv rfl).ob,fun w e=>(v_mv rfl).ob,fun w e=>(L4 (i:=i) un_M ty_V rfl rfl hlt).ob,
     fun w e=>(Au0 ty_V rfl ((hx2.keep (Kp.ext e) hne).ptr rfl)).ob,
     fun w e=>(v_mv rfl).ob,fun w e=>(v_mv rfl).ob,
     fun w e=>E8 (i:=i) un_V ty_Q rfl (ER.ext eV (hBv hB2) e) rfl (A6 (z:=q0) hib),
     fun w e p hp=>R5 ty_Q rfl hp,trivial⟩ ?_
    intro W3 e3 x6 _ x7 h7
    refine .ixB (i:=0) un_V ty_Q rfl rfl rfl (by omega) ?_
    refine .storeA (E:=eQ) ty_Q rfl rfl (kh2.ext e3) rfl rfl h7 (fun hh'=>by have:=hh'.2;omega) fun W4 k4 u4 h4=>.nil ?_
    refine .region (.add rfl rfl rfl (.mv rfl rfl (.nil ?_)))
    rw [wI (by omega)]
    have hx4:=(hx2.keep (Kp.ext e3) hne).keep (Kp.upd u4 (fun hc=>hc rfl)) hne
    have hrow:eV.R (fun k=>S k∧k≠gb) W4 (.slice (some ⟨h,0,none⟩) 1 1) [b.getD i q0]:=by
     refine RL.ofBlk (es:=[x7]) k4 hSh (Els.snoc Els.nil (eQ.mono (fun k _ hk=>⟨hk.1,by have:=hk.2;omega⟩) h4)) (fun j u hu=>?_) (Nat.le_refl _) (by simp)
     simpa [cellsOf] using hu
    have hF4:=hx4.done hrow
    have hgi:[b.getD i q0]=G i:=by rw [←hG]
    rw [hgi,V3] at hF4
    exact ⟨rfl,i+1,lkA rfl,⟨u4.below (hB2.trans (e3.mono hB2.size)) (by omega),hlt,hF4⟩,by show N-(i+1)<N-i;omega⟩
   ·refine .lssF rfl rfl rfl (by omega) (.nil (.condF rfl (.skip ?_)))
    refine .region (.add rfl rfl rfl (.mv rfl rfl (.nil ?_)))
    rw [wI (by omega)]
    have hrow:eV.R (fun k=>S k∧k≠gb) W2 (.slice (some ⟨h,0,none⟩) 1 1) [q0]:=by
     refine RL.ofBlk (es:=[zq]) kh2 hSh (Els.snoc Els.nil zq_R) (fun j u hu=>?_) (Nat.le_refl _) (by simp)
     simpa [cellsOf,Value.cells] using hu
    have hF4:=hx2.done hrow
    have hgi:[q0]=G i:=by rw [←hG];show [q0]=[b.getD i q0];rw [Q6 (by omega)]
    rw [hgi,V3] at hF4
    exact ⟨rfl,i+1,lkA rfl,⟨hB2,hlt,hF4⟩,by show N-(i+1)<N-i;omega⟩
 ·rintro _ W ⟨hB,hF⟩
  have hsz:=hB.size
  have hlen:((List.range N).map G).length=N:=by simp
  have hR:=hF.toR (c:=N) (hsz:=by decide) (up gb (by omega)) (by rw [hlen];exact Nat.le_refl _) (by rw [hlen];omega)
  rw [hlen] at hR
  have hcol:colsOf ((List.range N).map G)=if N=0 then 0 else 1:=by
   by_cases h0:N=0
   ·subst h0;rfl
   ·rw [if_neg h0]
    refine Nat.le_antisymm (Ad6 fun r hr=>?_) ?_
    ·obtain ⟨i,_,rfl⟩:=List.mem_map.1 hr
     rw [←hG];simp
    ·have:=AY9 (m:=(List.range N).map G) (r:=G 0) (List.mem_map.2 ⟨0,List.mem_range.2 (by omega),rfl⟩)
     rw [←hG] at this ⊢;simpa using this
  have hmW:eM.R S W vm m:=eM.mono (fun k _ hk=>hk.1) (eM.keep (fun k c t f (hk:S k∧k<w.heap.size) h=>(hB.block k hk.2).trans h) (ER.lt eM hm))
  have hkG:mk_ L ((List.range N).map G):=fun r hr=>by
   obtain ⟨i,_,rfl⟩:=List.mem_map.1 hr
   rw [←hG]
   intro q hq
   simp only [List.mem_singleton] at hq
   rw [hq];exact hkb.get hL i
  refine .seq (.region (.mv rfl rfl (.mv rfl rfl ?_)))
  refine .call _ rfl AN2 rfl (Af5 (L:=L) (up.ext hsz) hmW hR hkm hkG hL (by omega) (by omega) (by rw [hlen];omega) (by omega) (by rw [hcol];split<;>omega)) fun v5 W5 e5 h5=>.asg rfl rfl (.nil (.ret ?_))
  refine .plain [_] Tryz.results210 ⟨rfl,trivial⟩ ⟨hB.trans (e5.mono hsz),?_⟩
  rw [hlen,hcol,show max m.length N=N by omega] at h5
  show eM.R S W5 v5 (augM m b)
  unfold augM
  rw [hN]
  by_cases h0:N=0
  ·rw [h0] at h5 ⊢;exact h5
  ·rw [if_neg h0,C5 (g:=augF m b) (fun i k hi hk=>?_)] at h5
   ·exact h5
   ·unfold catM augF
    by_cases hkc:k<colsOf m
    ·rw [if_pos hkc,if_pos hkc]
    ·rw [if_neg hkc,if_neg hkc,show k-colsOf m=0 by omega]
     unfold rm
     have:((List.range N).map G).getD i []=[b.getD i q0]:=by
      rw [List.getD_eq_getElem?_getD,List.getElem?_map,List.getElem?_range hi,←hG];rfl
     rw [this];rfl
end Go.Proofs.YteghbhdniimjbaaGreat

namespace Go.Kx
open Go Go.RowKit
theorem Ad5 (n c:Nat) (f:RM):colsOf (tabM n c f)=if n=0 then 0 else c:=by
 by_cases h0:n=0
 ·subst h0;rfl
 ·rw [if_neg h0]
  refine Nat.le_antisymm (Ad6 fun r hr=>?_) ?_
  ·obtain ⟨i,_,rfl⟩:=List.mem_map.1 hr
   rw [A1];exact Nat.le_refl _
  ·have:=AY9 (m:=tabM n c f) (r:=tab c (f 0)) (List.mem_map.2 ⟨0,List.mem_range.2 (by omega),rfl⟩)
   rwa [A1] at this
/-- the solution at the pivots, up to the i-th -/
def partTo (g:RM) (p:List Nat) (C i:Nat):Nat→Rat:=fun c=>sumN i fun j=>if p.getD j 0=c then g j C else 0
def partF (g:RM) (p:List Nat) (C:Nat):Nat→Rat:=partTo g p C p.length
theorem Ak7 {n c:Nat} {g:RM} {p:List Nat} (h:Ech n c g p) {C i:Nat} (hi:i<p.length):partTo g p C (i+1)=fun k=>if k=p.getD i 0 then g i C else partTo g p C i k:=by
 funext k
 unfold partTo
 rw [sumN]
 by_cases e:k=p.getD i 0
 ·rw [if_pos e.symm,if_pos e,F3 fun j hj=>by rw [if_neg (fun e2=>by have:=h.inj (by omega) hi (e2.trans e);omega)]]
  grind
 ·rw [if_neg (fun e2=>e e2.symm),if_neg e];grind
theorem aug_rsz {m:List (List QV)} {b:List QV} {L:Nat} (hm:mk_ L m) (hb:vk L b) (hL:1≤L) (i k:Nat):Rsz (augF m b i k) L:=by
 unfold augF
 split
 ·exact hm.rsz hL i k
 ·exact hb.rsz hL i
theorem aug_ok {m:List (List QV)} {b:List QV} {L:Nat} (hm:mk_ L m) (hb:vk L b) (hL:1≤L):mk_ L (augM m b):=Af2 fun i k _ _=>aug_rsz hm hb hL i k
theorem AF9 (m:List (List QV)) (b:List QV):(augM m b).length=max m.length b.length:=B0 ..
theorem AZ4 (m:List (List QV)) (b:List QV):colsOf (augM m b)=if max m.length b.length=0 then 0 else colsOf m+1:=Ad5 ..
theorem AS5 (m:List (List QV)) (b:List QV):colsOf (augM m b)≤colsOf m+1:=by rw [AZ4];split<;>omega
end Go.Kx
namespace Go.Proofs.YteghbhdniimjbaaGreat
open Go Go.Kx Go.RowKit
/-- while the solution is filled -/
structure ParJ (w0:World) (T:Nat→Prop) (b4 b5 b6 p1 p2 g C:Nat) (vr vp:Value) (es:List Value) (A:List (List QV)) (k:Nat) (W:World):Prop where
 low:Below w0.heap.size w0 W
 k4:Blk W b4 42 #[.slice (some ⟨g,0,none⟩) C C]
 k5:Blk W b5 4 #[.bool false]
 k6:Blk W b6 3 #[.int .i64 (C:Nat)]
 kp1:Blk W p1 22 #[vr]
 kp2:Blk W p2 41 #[vp]
 x:FB eQ 32 T W g (tab C (partTo (redF A) (redP A) C k))
 r:EsR eV T W vr es (redM A)
 p:eI.R T W vp (pInts (redP A))
 no:∀ j,j<k→(redP A).getD j 0≠C
theorem ParJ.sft {w0:World} {T:Nat→Prop} {b4 b5 b6 p1 p2 g C:Nat} {vr vp:Value} {es:List Value} {A:List (List QV)} {k D:Nat} {W W':World} (h:ParJ w0 T b4 b5 b6 p1 p2 g C vr vp es A k W) (hs:Sft D W W') (hD:w0.heap.size≤D):ParJ w0 T b4 b5 b6 p1 p2 g C vr vp es A k W' :=
 ⟨h.low.trans (hs.below.mono hD),hs.cells.blk trivial h.k4,hs.cells.blk trivial h.k5,hs.cells.blk trivial h.k6,hs.cells.blk trivial h.kp1,hs.cells.blk trivial h.kp2,h.x.kp hs.cells,h.r.keep (fun k c t f _ hc=>hs.cells k c t f trivial hc),eI.keep (fun k c t f _ hc=>hs.cells k c t f trivial hc) h.p,h.no⟩
structure ParX (w0:World) (b4 b5 C:Nat) (A:List (List QV)) (W:World):Prop where
 low:Below w0.heap.size w0 W
 k4:Blk W b4 42 #[.slice none 0 0]
 k5:Blk W b5 4 #[.bool false]
 yes:C∈redP A
theorem I7 {p:List Nat} {j:Nat} (h:j<p.length):p.getD j 0∈p:=List.mem_iff_getElem?.2 ⟨j,A6 h⟩
theorem AR9 {p:List Nat} {c:Nat} (h:c∈p):∃ j,j<p.length∧p.getD j 0=c:=by
 obtain ⟨j,hj⟩:=List.mem_iff_getElem?.1 h
 have hl:j<p.length:=(List.getElem?_eq_some_iff.1 hj).1
 refine ⟨j,hl,?_⟩
 have:=A6 (z:=0) hl
 rw [hj] at this;exact (Option.some.inj this).symm
/-- the solution that is 0 at the free columns -/
def solX (m:List (List QV)) (b:List QV):List QV:=tab (colsOf m) (partF (redF (augM m b)) (redP (augM m b)) (colsOf m))
abbrev solvable (m:List (List QV)) (b:List QV):Prop:=colsOf m∉redP (augM m b)
theorem AJ4:Ent Tryz.prog 165:=A0 Tryz.func165 (by kernel_rfl) rfl
theorem AI4 {S:Nat→Prop} {w:World} {vm vb:Value} {m:List (List QV)} {b:List QV} {L n:Nat} (up:Up S w) (hm:eM.R S w vm m) (hb:eV.R S w vb b) (hkm:mk_ L m) (hkb:vk L b) (hL:1≤L) (hr:m.length≤100) (hl:b.length≤100) (hc:colsOf m≤90) (hmn:min (max m.length b.length) (colsOf m+1)≤n) (hbd:bd L n≤40000000) :
  CR Tryz.prog 165 #[vm,vb] w (Two (eV.at S (if solvable m b then solX m b else [])) (Is (.bool (decide (solvable m b))))):=by
 have hL2:L≤40000000:=Nat.le_trans (AB6 L (Nat.zero_le n)) hbd
 have okA:eOk L n 100 (augM m b):=⟨aug_ok hkm hkb hL,hL,hbd,by rw [AF9];have:=AS5 m b;omega,by rw [AF9];omega,Nat.le_trans (AS5 m b) (by omega),Nat.le_refl _⟩
 obtain ⟨A,hA⟩:∃ A,augM m b=A:=⟨_,rfl⟩
 rw [hA] at okA
 have hech:=U7 A
 have hAl:A.length=max m.length b.length:=by rw [←hA];exact AF9 m b
 have hAc:0<A.length→colsOf A=colsOf m+1:=fun h=>by rw [←hA,AZ4,if_neg (by omega)]
 refine enter Tryz.func165 rfl Tryz.ntmps165 rfl ?_
 refine .seq (.region (.alloc rfl Ao9 fun w1 b4 n1=>.alloc rfl Ax4 fun w2 b5 n2=>.nil (.seq (.region (.mv rfl rfl ?_)))))
 obtain ⟨e1,k4,hb4,hs1⟩:=n1
 obtain ⟨e2,k5,hb5,hs2⟩:=n2
 refine .call _ rfl T9 rfl (T6 ((hm.ext e1).ext e2)) fun v3 w3 e3 h3=>?_
 subst h3
 refine .alloc rfl AJ5 fun w4 b6 n4=>?_
 obtain ⟨e4,k6,hb6,hs4⟩:=n4
 refine .store A7 rfl rfl k6 rfl (by simp [Value.cells]) (by simp [one1,Value.cells]) fun w5 k6 u5=>.nil ?_
 replace k6:Blk w5 b6 3 #[.int .i64 (colsOf m:Nat)]:=k6
 have x4:=((e1.trans e2).trans e3).trans e4
 have x5:Ext w w5:=u5.below x4 (by have:=(e1.trans e2).size;have:=e3.size;omega)
 have hs3:=e3.size
 have hs5:=u5.size
 replace k4:Blk w5 b4 42 #[.slice none 0 0]:=((k4.ext ((e2.trans e3).trans e4))).upd u5 (show b4≠b6 by omega)
 replace k5:Blk w5 b5 4 #[.bool false]:=((k5.ext (e3.trans e4))).upd u5 (show b5≠b6 by omega)
 have up5:Up (Sx S w.heap.size w5.heap.size) w5:=Sx.up up (Nat.le_refl _) x5.size
 have hm5:=(ER.par eM hm w5.heap.size).ext x5
 have hbv5:=(ER.par eV hb w5.heap.size).ext x5
 have hTo:∀ k,Sx S w.heap.size w5.heap.size k→S k:=fun k h=>h.1
 have hT4:¬ Sx S w.heap.size w5.heap.size b4:=Sx.no (by omega) (by omega)
 have hT5:¬ Sx S w.heap.size w5.heap.size b5:=Sx.no (by omega) (by omega)
 have hT6:¬ Sx S w.heap.size w5.heap.size b6:=Sx.no (by omega) (by omega)
 generalize hTT:Sx S w.heap.size w5.heap.size=T at *
 refine .seq (.region (.mv rfl rfl (.mv rfl rfl ?_)))
 refine .call _ rfl AM7 rfl (AK5 up5 hm5 hbv5 hkm hkb hL hL2 (by omega) (by omega) (by omega)) fun v6 w6 e6 h6=>?_
 rw [hA] at h6
 refine .call _ rfl AE1 rfl (AC7 (up5.ext e6.size) h6 okA) fun v7 w7 e7 h7=>?_
 obtain ⟨vr,vp,rfl,hr7,hp7⟩:=h7
 refine .mv rfl rfl (.ext rfl rfl rfl (.ext rfl rfl rfl (.asg rfl rfl (.asg rfl rfl (.nil ?_)))))
 have x57:=e6.trans e7
 have hr7l:=ER.lt eM hr7
 have hp7l:=ER.lt eI hp7
 have hs57:=x57.size
 refine .seq (.region (.ld A7 rfl rfl (k6.ext x57) rfl ?_))
 refine .make_ _ _ un_V P0 rfl (by decide) rfl rfl rfl (Nat.le_refl _) (by omega) (by omega) fun w8 g n8=>?_
 have f8:FB eQ 32 (fun k=>T k∧k<w7.heap.size) w8 g (List.replicate (colsOf m) q0):=FB.made n8 zq_R
 obtain ⟨e8,_,hg8,hs8⟩:=n8
 have x58:=x57.trans e8
 refine .store ty_V rfl rfl (k4.ext x58) rfl (by simp) (by simp [one1,Value.cells]) fun w9 k4 u9=>.nil ?_
 replace k4:Blk w9 b4 42 #[.slice (some ⟨g,0,none⟩) (colsOf m) (colsOf m)]:=k4
 have hb4n:¬ (T b4∧b4<w7.heap.size):=fun h=>hT4 h.1
 have hr9:eM.R (fun k=>T k∧k<w7.heap.size) w9 vr (redM A):=(ER.ext eM hr7l e8).upd u9 hb4n
 have hp9:eI.R (fun k=>T k∧k<w7.heap.size) w9 vp (pInts (redP A)):=(ER.ext eI hp7l e8).upd u9 hb4n
 have f9:=f8.upd u9 (show g≠b4 by omega) hb4n
 have x9:Ext w w9:=u9.below (x5.trans x58) (by omega)
 have k5:=(k5.ext x58).upd u9 (show b5≠b4 by omega)
 have k6:=(k6.ext x58).upd u9 (show b6≠b4 by omega)
 obtain ⟨ar,cr,hvr,_⟩:=RL.len hr9
 obtain ⟨ap,cp,hvp,_⟩:=RL.len hp9
 obtain ⟨es,hE⟩:=RL.toEs hr9
 refine .seq (.seq (.region (.mv rfl rfl (.mv rfl rfl ?_))))
 refine .call _ rfl Y2 rfl (X4 hvr hvp) fun v10 w10 e10 h10=>.nil ?_
 obtain ⟨p1,p2,rfl,kp1,kp2,hp1,hp2⟩:=h10
 have hs9:=u9.size
 have hs10:=e10.size
 have x10:=x9.trans e10
 have hml:(redM A).length=(redP A).length:=B0 ..
 have hql:=hech.len
 refine .block (.range (AW1 (S:=fun k=>T k∧k<w7.heap.size) (m:=redM A) (p:=redP A) (es:=es) (va:=vr) (vb:=vp) (Nat.le_of_eq hml.symm) (by rw [hml];omega)) rfl AZ5 (fun k=>rfl) (by decide)
  (ParJ w (fun k=>T k∧k<w7.heap.size) b4 b5 b6 p1 p2 g (colsOf m) vr vp es A) (fun c W=>c=.ret∧ParX w b4 b5 (colsOf m) A W) (fun k W W' h hs=>h.sft hs x10.size)
  (fun c W W' h hs=>⟨h.1,h.2.low.trans (hs.below.mono x10.size),hs.cells.blk trivial h.2.k4,hs.cells.blk trivial h.2.k5,h.2.yes⟩) (fun k W h=>⟨h.kp1,h.kp2,h.r,h.p⟩) ?_ ?_ ?_ ?_)
 ·refine ⟨x10,k4.ext e10,k5.ext e10,k6.ext e10,kp1,kp2,?_,hE.ext e10,ER.ext eI hp9 e10,fun j hj=>by omega⟩
  have:tab (colsOf m) (partTo (redF A) (redP A) (colsOf m) 0)=List.replicate (colsOf m) q0:=by
   rw [←Q7 (colsOf m) (fun _=>q0)]
   unfold tab fil partTo
   apply List.map_congr_left
   intro k _
   simp [sumN,U8]
  rw [this];exact f9.ext e10
 ·intro l k W hk hJ
  refine .seq (.region (.asg rfl rfl (.nil (.region (.asg rfl rfl (.nil ⟨rfl,rfl,fun W hJ hsz=>?_⟩))))))
  obtain ⟨hlow,k4,k5,k6,kp1,kp2,hx,hrE,hpE,hno⟩:=hJ
  have hlws:=hlow.size
  refine .block (.seq (.seq (.region (.mv rfl rfl (.ld A7 rfl rfl k6 rfl ?_)))))
  by_cases hpc:(redP A).getD k 0=colsOf m
  ·refine .eqlT rfl rfl rfl (by rw [hpc]) (.nil (.condT rfl (.seq (.region ?_))))
   refine .store ty_V rfl rfl k4 rfl (by simp) (by simp [one1,Value.cells]) fun W1 k41 u1=>?_
   refine .store C4 rfl rfl (k5.upd u1 (show b5≠b4 by omega)) rfl (by simp) (by simp [one1,Value.cells]) fun W2 k52 u2=>.nil (.ret ?_)
   refine ⟨(Oth.upd u1 k4).trans (Oth.upd u2 (k5.upd u1 (show b5≠b4 by omega))),rfl,u2.below (u1.below hlow (by omega)) (by omega),?_,?_,?_⟩
   ·have:Blk W1 b4 42 #[.slice none 0 0]:=k41
    exact this.upd u2 (show b4≠b5 by omega)
   ·exact k52
   ·rw [←hpc];exact I7 hk
  ·refine .eqlF rfl rfl rfl (by intro e;exact hpc (by omega)) (.nil (.condF rfl (.skip ?_)))
   have hAp:0<A.length:=by omega
   have hcA:=hAc hAp
   have hpl:(redP A).getD k 0<colsOf m:=by have:=hech.lt k hk;omega
   have hrow:(redM A)[k]?=some (tab (colsOf A) (redF A k)):=G3 hk
   have hek:es[k]?=some (es.getD k nilV):=A6 (by rw [hrE.1.1,hml];exact hk)
   have hrw:=hrE.1.2 k _ _ hek hrow
   refine .par follows 6 [.inl (.slice (some ⟨g,0,none⟩) (colsOf m) (colsOf m)),.inl (.int .i64 ((redP A).getD k 0:Nat)),.inl (es.getD k nilV),.inl (.int .i64 (colsOf m:Nat)),.inr (Ptr eQ (fun k=>T k∧k<w7.heap.size) (qc (redF A k (colsOf m)))),.inr (eQ.at (fun k=>T k∧k<w7.heap.size) (qc (redF A k (colsOf m))))]
    [[],[],[],[],[(32,2),(33,3)],[(34,4)]] (by kernel_rfl) ⟨
    fun w e=>(v_ld ty_V rfl (k4.ext e) rfl).ob,fun w e=>(v_mv rfl).ob,fun w e=>(v_mv rfl).ob,fun w e=>(v_ld A7 rfl (k6.ext e) rfl).ob,
    fun w e=>E8 (i:=colsOf m) un_V ty_Q rfl (ER.ext eV hrw e) rfl (L5 (by omega)),
    fun w e p hp=>R5 ty_Q rfl hp,trivial⟩ ?_
   intro W1 e1 x4 _ x5 h5
   refine .ixB (i:=(redP A).getD k 0) un_V ty_Q rfl rfl rfl hpl ?_
   refine .storeF (E:=eQ) (i:=(redP A).getD k 0) (by decide) ty_Q rfl rfl (hx.ext e1) rfl (by rw [A1];exact hpl) (Nat.zero_add _) (eQ.mono (fun k _ hk=>⟨hk,by have:=hk.2;omega⟩) h5) fun W2 f2 u2=>.nil ?_
   rw [R9,←Ak7 hech hk] at f2
   have hgb:∀ {k},(T k∧k<w7.heap.size)→k≠g:=fun h=>by have:=h.2;omega
   have hgn:¬ (T g∧g<w7.heap.size):=fun h=>by have:=h.2;omega
   refine ⟨(Oth.ext e1).trans (by obtain ⟨es',hb',_⟩:=hx.ext e1;exact Oth.upd u2 hb'),u2.below (hlow.trans (e1.mono hlws)) (by omega),(k4.ext e1).upd u2 (by omega),(k5.ext e1).upd u2 (by omega),(k6.ext e1).upd u2 (by omega),(kp1.ext e1).upd u2 (by omega),(kp2.ext e1).upd u2 (by omega),f2,(hrE.ext e1).keep (Kp.upd u2 hgn),(ER.ext eI hpE e1).upd u2 hgn,fun j hj=>?_⟩
   by_cases ej:j=k
   ·rw [ej];exact hpc
   ·exact hno j (by omega)
 ·intro W hJ hD
  obtain ⟨hlow,k4,k5,k6,kp1,kp2,hx,hrE,hpE,hno⟩:=hJ
  have hlws:=hlow.size
  have hsolv:colsOf m∉redP A:=fun h=>by
   obtain ⟨j,hj,he⟩:=AR9 h
   exact hno j hj he
  refine .seq (.region (.ld ty_V rfl rfl k4 rfl ?_))
  refine .store ty_V rfl rfl k4 rfl (by simp) (by simp [one1,Value.cells]) fun W1 k41 u1=>?_
  refine .store C4 rfl rfl (k5.upd u1 (show b5≠b4 by omega)) rfl (by simp) (by simp [one1,Value.cells]) fun W2 k52 u2=>.nil (.ret ?_)
  have k51:=k5.upd u1 (show b5≠b4 by omega)
  have hD2:=(Oth.upd u2 k51) _ _ ((Oth.upd u1 k4) _ _ hD rfl) rfl
  replace k41:Blk W2 b4 42 #[.slice (some ⟨g,0,none⟩) (colsOf m) (colsOf m)]:=by
   have:Blk W1 b4 42 #[.slice (some ⟨g,0,none⟩) (colsOf m) (colsOf m)]:=k41
   exact this.upd u2 (show b4≠b5 by omega)
  replace k52:Blk W2 b5 4 #[.bool true]:=k52
  have hb5n:¬ (T b5∧b5<w7.heap.size):=fun h=>hT5 h.1
  have hx2:=(hx.upd u1 (show g≠b4 by omega) hb4n).upd u2 (show g≠b5 by omega) hb5n
  have kp:=Kp.put (S:=fun _=>True) (o':=.deferred none) hD2 rfl
  have c4:=(kp.blk trivial k41).cell 0
  have c5:=(kp.blk trivial k52).cell 0
  refine .mark [_,_] Tryz.results165 hD2 ⟨⟨_,rfl,F6 ty_V c4⟩,⟨_,rfl,F6 C4 c5⟩,trivial⟩ ⟨I9 (u2.below (u1.below hlow (by omega)) (by omega)) x10.size,_,_,rfl,?_,?_⟩
  ·rw [if_pos (show colsOf m∉redP (augM m b) by rw [hA];exact hsolv)]
   have:=((hx2.kp kp).mono (S':=S) fun k _ h=>hTo k h.1).toR (c:=colsOf m) (hsz:=by decide) (up g (by omega)) (by rw [A1];exact Nat.le_refl _) (by rw [A1];omega)
   rw [A1] at this
   unfold solX
   rw [hA];exact this
  ·show Value.bool true=_
   rw [decide_eq_true (show colsOf m∉redP (augM m b) by rw [hA];exact hsolv)]
 ·rintro c W ⟨rfl,hlow,k4,k5,hyes⟩ hD
  refine .ret ?_
  have kp:=Kp.put (S:=fun _=>True) (o':=.deferred none) hD rfl
  have c4:=(kp.blk trivial k4).cell 0
  have c5:=(kp.blk trivial k5).cell 0
  refine .mark [_,_] Tryz.results165 hD ⟨⟨_,rfl,F6 ty_V c4⟩,⟨_,rfl,F6 C4 c5⟩,trivial⟩ ⟨I9 hlow x10.size,_,_,rfl,?_,?_⟩
  ·rw [if_neg (show ¬ colsOf m∉redP (augM m b) by rw [hA];exact fun h=>h hyes)]
   exact RL.nil
  ·show Value.bool false=_
   rw [decide_eq_false (show ¬ colsOf m∉redP (augM m b) by rw [hA];exact fun h=>h hyes)]
end Go.Proofs.YteghbhdniimjbaaGreat

namespace Go.Kx
open Go Go.RowKit
def freeTo (p:List Nat) (i:Nat):List Nat:=(List.range i).filter fun k => !(decide (k∈p))
def freeC (m:List (List QV)):List Nat:=freeTo (redP m) (colsOf m)
/-- the basis of the null space -/
def nullM (m:List (List QV)):List (List QV):=(freeC m).map fun k=>tab (colsOf m) (nv (redF m) (redP m) k)
def nvTo (g:RM) (p:List Nat) (k j:Nat):Nat→Rat:=fun c=>(if c=k then 1 else 0)-sumN j fun i=>if p.getD i 0=c then g i k else 0
theorem Ay2 {n C:Nat} {g:RM} {p:List Nat} (h:Ech n C g p) {k j:Nat} (hj:j<p.length) (hk:k∉p) (hm:p.getD j 0∈p):nvTo g p k (j+1)=fun c=>if c=p.getD j 0 then-g j k else nvTo g p k j c:=by
 funext c
 unfold nvTo
 rw [sumN]
 by_cases e:c=p.getD j 0
 ·rw [if_pos e.symm,if_pos e,if_neg (fun e2=>hk (by rw [←e2,e];exact hm)),F3 fun i hi=>by rw [if_neg (fun e2=>by have:=h.inj (by omega) hj (e2.trans e);omega)]]
  grind
 ·have h1:¬ p.getD j 0=c:=fun e2=>e e2.symm
  simp only [h1,e,if_false];grind
/-- which columns have been seen -/
def bTo (p:List Nat) (j c:Nat):Bool:=(List.range j).any fun i=>Nat.beq (p.getD i 0) c
theorem bTo_set (p:List Nat) (C j:Nat):((List.range C).map (bTo p j)).set (p.getD j 0) true=(List.range C).map (bTo p (j+1)):=by
 have hs:∀ c,bTo p (j+1) c=(bTo p j c || Nat.beq (p.getD j 0) c):=fun c=>by unfold bTo;rw [List.range_succ];simp
 generalize p.getD j 0=q at *
 apply List.ext_getElem?
 intro c
 rw [List.getElem?_set]
 by_cases e:q=c
 ·subst e
  by_cases h:q<C
  ·simp [h,hs]
  ·simp [h]
 ·rw [if_neg e]
  by_cases h:c<C
  ·have hb:Nat.beq q c=false:=AB5 e
   simp only [List.getElem?_map,List.getElem?_range h,Option.map_some,hs,hb,Bool.or_false]
  ·simp [h]
theorem bTo_all {p:List Nat} {c:Nat}:bTo p p.length c=decide (c∈p):=by
 unfold bTo
 by_cases h:c∈p
 ·rw [decide_eq_true h,List.any_eq_true]
  obtain ⟨j,hj⟩:=List.mem_iff_getElem?.1 h
  have hl:j<p.length:=(List.getElem?_eq_some_iff.1 hj).1
  refine ⟨j,List.mem_range.2 hl,?_⟩
  rw [List.getD_eq_getElem?_getD,hj];simp
 ·rw [decide_eq_false h,List.any_eq_false]
  intro j hj hb
  have hl:=List.mem_range.1 hj
  apply h
  rw [←Nat.eq_of_beq_eq_true hb,List.getD_eq_getElem?_getD,List.getElem?_eq_getElem hl]
  exact List.getElem_mem hl
end Go.Kx
namespace Go.Proofs.YteghbhdniimjbaaGreat
open Go Go.Kx Go.RowKit
theorem un_B:Tryz.prog.underlying 219=some (.slice 4):=by kernel_rfl
theorem BC9:tyOf Tryz.prog 219=some (false,1):=by kernel_rfl
theorem zero_Bs:zeroOf Tryz.prog 219=some (.slice none 0 0):=by kernel_rfl
theorem info_B:infoOf Tryz.prog 4=some (.bool false,1,1):=by kernel_rfl
structure NulJ (w0:World) (T:Nat→Prop) (b6 p1 p2 gB C:Nat) (vr vp:Value) (es:List Value) (rM:List (List QV)) (p:List Nat) (k:Nat) (W:World):Prop where
 low:Below w0.heap.size w0 W
 k6:Blk W b6 219 #[.slice (some ⟨gB,0,none⟩) C C]
 kp1:Blk W p1 22 #[vr]
 kp2:Blk W p2 41 #[vp]
 x:FB eBool 4 (fun _=>True) W gB ((List.range C).map (bTo p k))
 r:EsR eV T W vr es rM
 p:eI.R T W vp (pInts p)
structure NulK (W0:World) (S:Nat→Prop) (b9 b10 p1 p2 h C k:Nat) (vr vp vb:Value) (g:RM) (p:List Nat) (j:Nat) (W:World):Prop where
 low:Below W0.heap.size W0 W
 k9:Blk W b9 3 #[.int .i64 (k:Nat)]
 k10:Blk W b10 42 #[.slice (some ⟨h,0,none⟩) C C]
 kp1:Blk W p1 22 #[vr]
 kp2:Blk W p2 41 #[vp]
 x:FB eQ 32 (fun k=>S k∧vb.ownBlock≠some k) W h (tab C (nvTo g p k j))
theorem AM8:Ent Tryz.prog 166:=A0 Tryz.func166 (by kernel_rfl) rfl
theorem AK6 {S:Nat→Prop} {w:World} {vm:Value} {m:List (List QV)} {L n C:Nat} (up:Up S w) (hm:eM.R S w vm m) (ok:eOk L n C m) :
  CR Tryz.prog 166 #[vm] w (eM.at S (nullM m)):=by
 have hn:=ok.rows
 have hc:=ok.cols
 have hc1:=ok.c1
 have hech:=U7 m
 have hql:=hech.len
 have hrsz:∀ i k,i<m.length→k<colsOf m→Rsz (redF m i k) 40000000:=fun i k hi hk=>(AM2 ok.l1 (fun i k _ _=>ok.k.rsz ok.l1 i k) (colsOf m) (Nat.le_refl _) i k hi hk).mono (Nat.le_trans (AB6 L (Nat.le_trans (by have:=hech.len_c;omega:(redP m).length≤min m.length (colsOf m)) ok.mn)) ok.bd)
 refine enter Tryz.func166 rfl Tryz.ntmps166 rfl ?_
 refine .seq (.region (.asg rfl rfl (.nil (.seq (.region (.mv rfl rfl ?_))))))
 refine .call _ rfl AE1 rfl (AC7 up hm ok) fun v1 w1 e1 h1=>?_
 obtain ⟨vr,vp,rfl,hr1,hp1⟩:=h1
 refine .mv rfl rfl (.ext rfl rfl rfl (.ext rfl rfl rfl (.asg rfl rfl (.asg rfl rfl (.nil (.seq (.region (.mv rfl rfl ?_))))))))
 refine .call _ rfl T9 rfl (T6 (hm.ext e1)) fun v2 w2 e2 h2=>.asg rfl rfl (.nil ?_)
 subst h2
 refine .seq (.region (.mv rfl rfl ?_))
 refine .make_ _ _ un_B info_B rfl (by decide) rfl rfl rfl (Nat.le_refl _) (by omega) (by omega) fun w3 gB n3=>?_
 have f3:FB eBool 4 (fun _=>True) w3 gB (List.replicate (colsOf m) false):=FB.made n3 rfl
 obtain ⟨e3,_,hgB,hs3⟩:=n3
 refine .alloc rfl zero_Bs fun w4 b6 n4=>?_
 obtain ⟨e4,k6,hb6,hs4⟩:=n4
 refine .store BC9 rfl rfl k6 rfl (by simp [Value.cells]) (by simp [one1,Value.cells]) fun w5 k6 u5=>.nil ?_
 replace k6:Blk w5 b6 219 #[.slice (some ⟨gB,0,none⟩) (colsOf m) (colsOf m)]:=k6
 have hs1:=e1.size
 have hs2:=e2.size
 have hs5:=u5.size
 have x24:=(e2.trans e3).trans e4
 have hr5:eM.R (fun k=>S k∧k<w1.heap.size) w5 vr (redM m):=(ER.ext eM (ER.lt eM hr1) x24).upd u5 (fun h=>by have:=h.2;omega)
 have hp5:eI.R (fun k=>S k∧k<w1.heap.size) w5 vp (pInts (redP m)):=(ER.ext eI (ER.lt eI hp1) x24).upd u5 (fun h=>by have:=h.2;omega)
 have f5:FB eBool 4 (fun _=>True) w5 gB (List.replicate (colsOf m) false):=by
  obtain ⟨es,hb,he⟩:=f3.ext e4
  exact ⟨es,hb.upd u5 (by omega),he.1,fun i e x h1 h2=>he.2 i e x h1 h2⟩
 have x5:Ext w w5:=u5.below (e1.trans x24) (by omega)
 obtain ⟨ar,cr,hvr,_⟩:=RL.len hr5
 obtain ⟨ap,cp,hvp,_⟩:=RL.len hp5
 obtain ⟨es,hE5⟩:=RL.toEs hr5
 have hml:(redM m).length=(redP m).length:=B0 ..
 refine .midD (α:=Nat) (fun _=>[(3,vr),(4,vp),(5,.int .i64 (colsOf m:Nat)),(6,.pointer (some ⟨b6,0,none⟩))]) (fun D1=>[mkD D1])
  (fun D1 W=>Below w.heap.size w W∧Blk W b6 219 #[.slice (some ⟨gB,0,none⟩) (colsOf m) (colsOf m)]∧FB eBool 4 (fun _=>True) W gB ((List.range (colsOf m)).map (bTo (redP m) (redP m).length))∧EsR eV (fun k=>S k∧k<w1.heap.size) W vr es (redM m)∧eI.R (fun k=>S k∧k<w1.heap.size) W vp (pInts (redP m))∧W.heap[D1]?=some (.deferred (some []))∧w.heap.size≤D1) ?_ ?_
 ·refine .seq (.region (.mv rfl rfl (.mv rfl rfl ?_)))
  refine .call _ rfl Y2 rfl (X4 hvr hvp) fun v6 w6 e6 h6=>.nil ?_
  obtain ⟨p1,p2,rfl,kp1,kp2,hp1',hp2'⟩:=h6
  have x6:=x5.trans e6
  refine .block (.range (AW1 (S:=fun k=>S k∧k<w1.heap.size) (m:=redM m) (p:=redP m) (es:=es) (va:=vr) (vb:=vp) (Nat.le_of_eq hml.symm) (by rw [hml];omega)) rfl AZ5 (fun k=>rfl) (by decide)
   (NulJ w (fun k=>S k∧k<w1.heap.size) b6 p1 p2 gB (colsOf m) vr vp es (redM m) (redP m)) (fun _ _=>False)
   (fun k W W' h hs=>⟨h.low.trans (hs.below.mono x6.size),hs.cells.blk trivial h.k6,hs.cells.blk trivial h.kp1,hs.cells.blk trivial h.kp2,h.x.kp hs.cells,h.r.keep (fun k c t f _ hc=>hs.cells k c t f trivial hc),eI.keep (fun k c t f _ hc=>hs.cells k c t f trivial hc) h.p⟩)
   (fun _ _ _ h _=>h.elim) (fun k W h=>⟨h.kp1,h.kp2,h.r,h.p⟩) ?_ ?_ ?_ (fun _ _ h=>h.elim))
  ·refine ⟨x6,k6.ext e6,kp1,kp2,?_,hE5.ext e6,ER.ext eI hp5 e6⟩
   have:(List.range (colsOf m)).map (bTo (redP m) 0)=List.replicate (colsOf m) false:=by
    rw [←Q7 (colsOf m) (fun _=>false)]
    unfold fil
    apply List.map_congr_left
    intro k _
    simp [bTo]
   rw [this];exact f5.ext e6
  ·intro l k W hk hJ
   refine .region (.asg rfl rfl (.nil ⟨rfl,rfl,fun W hJ hsz=>?_⟩))
   obtain ⟨hlow,k6,kp1,kp2,hx,hrE,hpE⟩:=hJ
   have hlws:=hlow.size
   have hpl:=hech.lt k hk
   refine .block (.region (.ld BC9 rfl rfl k6 rfl (.mv rfl rfl (.ixB (i:=(redP m).getD k 0) un_B C4 rfl rfl rfl hpl ?_))))
   refine .storeF (E:=eBool) (i:=(redP m).getD k 0) (z:=true) (by decide) C4 rfl rfl hx rfl (by simp;exact hpl) (Nat.zero_add _) rfl fun W2 f2 u2=>.nil ?_
   rw [bTo_set] at f2
   have hgn:¬ (S gB∧gB<w1.heap.size):=fun h=>by have:=h.2;omega
   exact ⟨by obtain ⟨es',hb',_⟩:=hx;exact Oth.upd u2 hb',u2.below hlow (by omega),k6.upd u2 (by omega),kp1.upd u2 (by omega),kp2.upd u2 (by omega),f2,hrE.keep (Kp.upd u2 hgn),ER.upd eI hpE u2 hgn⟩
  ·intro W hJ hD
   exact ⟨w6.heap.size,rfl,lkA rfl,hJ.low,hJ.k6,hJ.x,hJ.r,hJ.p,hD,x6.size⟩
 rintro D1 w6 ⟨hlow6,k6,fB,hE6,hp6,hD1,hD1w⟩
 have hs6:=hlow6.size
 have hk6l:=k6.lt
 have hfBl:=fB.lt
 have hw16:w1.heap.size≤w6.heap.size:=by omega
 have hD1l:D1<w6.heap.size:=(Array.getElem?_eq_some_iff.1 hD1).1
 refine .seq (.region (.asg rfl rfl (.nil ?_)))
 refine .midD (α:=Value×List Nat) (fun y=>[(8,y.1)]) (fun y=>y.2.map mkD)
  (fun y W=>Below w6.heap.size w6 W∧OwnL eV 42 w6.heap.size S W y.1 (nullM m)∧y.2.Nodup∧∀ D∈y.2,W.heap[D]?=some (.deferred (some []))∧w.heap.size≤D) ?_ ?_
 rotate_left
 ·rintro ⟨vb,ns⟩ W ⟨hB,ho,hnd,hns⟩
  refine .seq (.region (.mv rfl rfl (.asg rfl rfl (.nil (.ret ?_)))))
  have hD:∀ D∈ns,W.heap[D]?=some (.deferred (some [])):=fun D h=>(hns D h).1
  refine Leave.marks [_] Tryz.results166 ns W hnd hD ⟨rfl,trivial⟩ ⟨AM5 ns W (fun D h=>(hns D h).2) (hlow6.trans (hB.mono hs6)),?_⟩
  exact (ho.kp (Ac8 ns W hnd hD)).toR (fun k hk=>up k (by omega)) (fun _ h=>h)
 refine .seq (.region (.mv rfl rfl (.mv rfl rfl (.nil ?_))))
 refine .block (.loopD (α:=Nat×Value×List Nat) (fun y=>[(3,vr),(4,vp),(5,.int .i64 (colsOf m:Nat)),(6,.pointer (some ⟨b6,0,none⟩)),(8,y.2.1),(30,.int .i64 (colsOf m:Nat)),(31,.int .i64 (y.1:Nat))]) (fun y=>y.2.2.map mkD)
  (fun y W=>Below w6.heap.size w6 W∧y.1≤colsOf m∧OwnL eV 42 w6.heap.size S W y.2.1 ((freeTo (redP m) y.1).map fun k=>tab (colsOf m) (nv (redF m) (redP m) k))∧y.2.2.Nodup∧∀ D∈y.2.2,W.heap[D]?=some (.deferred (some []))∧w.heap.size≤D)
  (fun y=>colsOf m-y.1) (0,.slice none 0 0,[D1]) ?_ rfl ?_ ?_)
 ·exact lkA rfl
 ·exact ⟨Below.refl _ _,Nat.zero_le _,OwnL.nil,by simp,fun D hD=>by simp at hD;subst hD;exact ⟨hD1,hD1w⟩⟩
 rintro ⟨i,vb,ns⟩ W ⟨hB,hi,ho,hnd,hns⟩
 replace hi:i≤colsOf m:=hi
 replace ho:OwnL eV 42 w6.heap.size S W vb ((freeTo (redP m) i).map fun k=>tab (colsOf m) (nv (redF m) (redP m) k)):=ho
 replace hnd:ns.Nodup:=hnd
 replace hns:∀ D∈ns,W.heap[D]?=some (.deferred (some []))∧w.heap.size≤D:=hns
 refine .weak [(3,vr),(4,vp),(5,.int .i64 (colsOf m:Nat)),(6,.pointer (some ⟨b6,0,none⟩)),(8,vb),(30,.int .i64 (colsOf m:Nat)),(31,.int .i64 (i:Nat))] (fun t v h=>h) ?_
 show WC Tryz.prog none _ _ _ _ (ns.map mkD) W
 have hsW:=hB.size
 have kB:∀ {W':World},Below w6.heap.size w6 W'→Blk W' b6 219 #[.slice (some ⟨gB,0,none⟩) (colsOf m) (colsOf m)]:=fun h=>(h.block b6 hk6l).trans k6
 have fBW:∀ {W':World},Below w6.heap.size w6 W'→FB eBool 4 (fun _=>True) W' gB ((List.range (colsOf m)).map (bTo (redP m) (redP m).length)):=fun {W'} h=>by
  obtain ⟨es',hb',he'⟩:=fB
  exact ⟨es',(h.block gB hfBl).trans hb',he'.1,fun i e x h1 h2=>he'.2 i e x h1 h2⟩
 have hEW:∀ {W':World},Below w6.heap.size w6 W'→EsR eV (fun k=>S k∧k<w1.heap.size) W' vr es (redM m):=fun h=>hE6.keep (fun k c t f hk hc=>(h.block k (by have:=hk.2;omega)).trans hc)
 have hpW:∀ {W':World},Below w6.heap.size w6 W'→eI.R (fun k=>S k∧k<w1.heap.size) W' vp (pInts (redP m)):=fun h=>eI.keep (fun k c t f hk hc=>(h.block k (by have:=hk.2;omega)).trans hc) hp6
 rcases Nat.lt_or_ge i (colsOf m) with hlt | hge
 rotate_left
 ·refine .seq (.region (.lssF rfl rfl rfl (by omega) (.nil (.seq (.condF rfl (.exit ?_))))))
  have:i=colsOf m:=by omega
  subst this
  exact ⟨(vb,ns),rfl,lkA rfl,hB,ho,hnd,hns⟩
 refine .seq (.region (.lssT rfl rfl rfl (by omega) (.nil (.seq (.condT rfl (.skip (.seq (.block (.seq (.region (.mv rfl rfl (.alloc rfl AJ5 fun Wa b9 n9=>?_))))))))))))
 obtain ⟨e9,k9,hb9,hs9⟩:=n9
 refine .store A7 rfl rfl k9 rfl (by simp [Value.cells]) (by simp [one1,Value.cells]) fun Wb k9 u9=>.nil ?_
 replace k9:Blk Wb b9 3 #[.int .i64 (i:Nat)]:=k9
 have xb:Ext W Wb:=u9.below e9 (by omega)
 have hsb:=u9.size
 have hBb:Below w6.heap.size w6 Wb:=hB.trans (xb.mono hsW)
 refine .seq (.seq (.region (.ld BC9 rfl rfl (kB hBb) rfl (.ld A7 rfl rfl k9 rfl (.ixB (i:=i) un_B C4 rfl rfl rfl hlt ?_)))))
 have hbi:((List.range (colsOf m)).map (bTo (redP m) (redP m).length))[i]?=some (decide (i∈redP m)):=by
  rw [List.getElem?_map,List.getElem?_range hlt,Option.map_some,bTo_all]
 refine .ldF (E:=eBool) (i:=i) (by decide) C4 rfl rfl (Nat.zero_add _) (fBW hBb) hbi fun eb heb=>.nil ?_
 replace heb:eb=.bool (decide (i∈redP m)):=heb
 subst heb
 have hfs:freeTo (redP m) (i+1)=freeTo (redP m) i++if i∈redP m then [] else [i]:=by
  unfold freeTo
  rw [List.range_succ,List.filter_append]
  congr 1
  by_cases h:i∈redP m<;>simp [h]
 have hnsb:∀ {W':World},Ext W W'→∀ D∈ns,W'.heap[D]?=some (.deferred (some []))∧w.heap.size≤D:=fun e D hD=>⟨(e.block D (Array.getElem?_eq_some_iff.1 (hns D hD).1).1).trans (hns D hD).1,(hns D hD).2⟩
 by_cases hip:i∈redP m
 ·rw [decide_eq_true hip]
  refine .condT rfl (.exit (.region (.add rfl rfl rfl (.mv rfl rfl (.nil ?_)))))
  rw [wI (by omega)]
  refine ⟨(i+1,vb,ns),rfl,lkA rfl,⟨hBb,hlt,?_,hnd,hnsb xb⟩,by show colsOf m-(i+1)<colsOf m-i;omega⟩
  show OwnL eV 42 w6.heap.size S Wb vb _
  rw [hfs,if_pos hip,List.append_nil];exact ho.ext xb
 rw [decide_eq_false hip]
 refine .condF rfl (.skip (.seq (.region (.mv rfl rfl ?_))))
 refine .make_ _ _ un_V P0 rfl (by decide) rfl rfl rfl (Nat.le_refl _) (by omega) (by omega) fun Wc h nc=>?_
 have fc:FB eQ 32 (fun k=>S k∧vb.ownBlock≠some k) Wc h (List.replicate (colsOf m) q0):=FB.made nc zq_R
 obtain ⟨ec,_,hh,hsc⟩:=nc
 refine .alloc rfl Ao9 fun Wd b10 nd=>?_
 obtain ⟨ed,k10,hb10,hsd⟩:=nd
 refine .store ty_V rfl rfl k10 rfl (by simp [Value.cells]) (by simp [one1,Value.cells]) fun We k10 ue=>.nil ?_
 replace k10:Blk We b10 42 #[.slice (some ⟨h,0,none⟩) (colsOf m) (colsOf m)]:=k10
 have xbe:Ext Wb We:=ue.below (ec.trans ed) (by omega)
 have xe:Ext W We:=xb.trans xbe
 have hse:=ue.size
 have k9:=k9.ext xbe
 have fe:FB eQ 32 (fun k=>S k∧vb.ownBlock≠some k) We h (List.replicate (colsOf m) q0):=by
  obtain ⟨es',hb',he'⟩:=fc.ext ed
  refine ⟨es',hb'.upd ue (by omega),he'.1,fun i e x h1 h2=>?_⟩
  have hz:x=q0:=by
   have:=List.mem_iff_getElem?.2 ⟨i,h2⟩
   exact (List.mem_replicate.1 this).2
  have hlt':=ER.lt eQ (he'.2 i e x h1 h2)
  subst hz
  obtain ⟨s,t,hv,hs',ht'⟩:=hlt'
  refine ⟨s,t,hv,?_,?_⟩
  ·obtain ⟨es2,g1,a2,c2,g2,g3,g4,g5,g6⟩:=hs'
   exact ⟨es2,⟨g1.1,fun i e x h1 h2=>g1.2 i e x h1 h2⟩,a2,c2,g2,g3,g4,g5,fun h=>absurd h (by simp [q0])⟩
  ·obtain ⟨es2,g1,a2,c2,g2,g3,g4,g5,g6⟩:=ht'
   exact ⟨es2,⟨g1.1,fun i e x h1 h2=>g1.2 i e x h1 h2⟩,a2,c2,g2,g3,g4,g5,fun h=>absurd h (by simp [q0])⟩
 have hown:∀ k,vb.ownBlock=some k→w6.heap.size≤k∧k<W.heap.size:=by
  obtain ⟨es',h1,_⟩:=ho
  exact fun k hk=>h1.lt k hk
 have upQ:∀ {W':World},We.heap.size≤W'.heap.size→Up (fun k=>(S k∧vb.ownBlock≠some k)∧k≠h) W':=fun hs k hk=>⟨⟨up k (by omega),fun hh'=>by have:=(hown k hh').2;omega⟩,by omega⟩
 refine .seq ?_
 refine .par follows 3 [.inl (.slice (some ⟨h,0,none⟩) (colsOf m) (colsOf m)),.inl (.int .i64 (i:Nat)),.inr (eQ.at (fun k=>(S k∧vb.ownBlock≠some k)∧k≠h) (qc ((1:Int):Rat)))] [[],[],[]] (by kernel_rfl) ⟨
  fun w e=>(v_ld ty_V rfl (k10.ext e) rfl).ob,fun w e=>(v_ld A7 rfl (k9.ext e) rfl).ob,
  fun w e=>(A3 _ K9 rfl (K6 (upQ e.size) (by decide) (by decide))).ob (A8 _ _ _),trivial⟩ ?_
 intro Wf ef x2 hx2
 refine .ixB (i:=i) un_V ty_Q rfl rfl rfl hlt ?_
 refine .storeF (E:=eQ) (i:=i) (by decide) ty_Q rfl rfl (fe.ext ef) rfl (by simp;exact hlt) (Nat.zero_add _) hx2 fun Wg fg ug=>.nil ?_
 have hunit:(List.replicate (colsOf m) q0).set i (qc ((1:Int):Rat))=tab (colsOf m) (nvTo (redF m) (redP m) i 0):=by
  have h0:List.replicate (colsOf m) q0=tab (colsOf m) fun _=>0:=by
   unfold tab;simp only [U8];rw [List.map_const',List.length_range]
  rw [h0,R9]
  refine D6 fun k _=>?_
  unfold nvTo
  rw [sumN]
  by_cases e:k=i
  ·rw [if_pos e,if_pos e];grind
  ·rw [if_neg e,if_neg e];grind
 rw [hunit] at fg
 have xg:Ext W Wg:=ug.below (xe.trans ef) (by omega)
 have hsf:=ef.size
 have hsg:=ug.size
 have k9:=(k9.ext ef).upd ug (show b9≠h by omega)
 have k10:=(k10.ext ef).upd ug (show b10≠h by omega)
 refine .midD (α:=Nat) (fun _=>[(3,vr),(4,vp),(5,.int .i64 (colsOf m:Nat)),(6,.pointer (some ⟨b6,0,none⟩)),(8,vb),(30,.int .i64 (colsOf m:Nat)),(31,.int .i64 (i:Nat)),(10,.pointer (some ⟨b10,0,none⟩))]) (fun D=>(D::ns).map mkD)
  (fun D Wz=>Ext W Wz∧Blk Wz b10 42 #[.slice (some ⟨h,0,none⟩) (colsOf m) (colsOf m)]∧FB eQ 32 (fun k=>S k∧vb.ownBlock≠some k) Wz h (tab (colsOf m) (nv (redF m) (redP m) i))∧Wz.heap[D]?=some (.deferred (some []))∧W.heap.size≤D) ?_ ?_
 ·refine .seq (.region (.mv rfl rfl (.mv rfl rfl ?_)))
  refine .call _ rfl Y2 rfl (X4 hvr hvp) fun v7 Wh eh h7=>.nil ?_
  obtain ⟨p1,p2,rfl,kp1,kp2,hp1',hp2'⟩:=h7
  have xh:=xg.trans eh
  have hBl:∀ {W':World},Below W.heap.size W W'→Below w6.heap.size w6 W':=fun hh'=>hB.trans (hh'.mono hsW)
  refine .block (.range (AW1 (S:=fun k=>S k∧k<w1.heap.size) (m:=redM m) (p:=redP m) (es:=es) (va:=vr) (vb:=vp) (Nat.le_of_eq hml.symm) (by rw [hml];omega)) rfl AZ5 (fun k=>rfl) (by decide)
   (NulK W S b9 b10 p1 p2 h (colsOf m) i vr vp vb (redF m) (redP m)) (fun _ _=>False)
   (fun k W' W'' hh' hs=>⟨hh'.low.trans (hs.below.mono xh.size),hs.cells.blk trivial hh'.k9,hs.cells.blk trivial hh'.k10,hs.cells.blk trivial hh'.kp1,hs.cells.blk trivial hh'.kp2,hh'.x.kp hs.cells⟩)
   (fun _ _ _ hh' _=>hh'.elim) (fun k W' hh'=>⟨hh'.kp1,hh'.kp2,hEW (hBl hh'.low),hpW (hBl hh'.low)⟩) ?_ ?_ ?_ (fun _ _ hh'=>hh'.elim))
  ·exact ⟨xh,k9.ext eh,k10.ext eh,kp1,kp2,fg.ext eh⟩
  ·intro l j W' hj hJ
   refine .seq (.region (.asg rfl rfl (.nil (.region (.asg rfl rfl (.nil ⟨rfl,rfl,fun W' hJ hsz=>?_⟩))))))
   obtain ⟨hlow,k9,k10,kp1,kp2,hx⟩:=hJ
   have hlws:=hlow.size
   have hpl:=hech.lt j hj
   have hrow:(redM m)[j]?=some (tab (colsOf m) (redF m j)):=G3 hj
   have hrE:=hEW (hBl hlow)
   have hek:es[j]?=some (es.getD j nilV):=A6 (by rw [hrE.1.1,hml];exact hj)
   have hrw:=hrE.1.2 j _ _ hek hrow
   have hTq:∀ k,(S k∧k<w1.heap.size)→((S k∧vb.ownBlock≠some k)∧k≠h):=fun k hk=>⟨⟨hk.1,fun hh'=>by have:=(hown k hh').1;have:=hk.2;omega⟩,by have:=hk.2;omega⟩
   have hrw':=eV.mono (fun k _ hk=>hTq k hk) hrw
   have hsWh:We.heap.size≤W'.heap.size:=by have:=eh.size;omega
   refine .block (.par follows 7 [.inl (.slice (some ⟨h,0,none⟩) (colsOf m) (colsOf m)),.inl (.int .i64 ((redP m).getD j 0:Nat)),.inl (es.getD j nilV),.inl (.int .i64 (i:Nat)),.inr (Ptr eQ (fun k=>(S k∧vb.ownBlock≠some k)∧k≠h) (qc (redF m j i))),.inr (eQ.at (fun k=>(S k∧vb.ownBlock≠some k)∧k≠h) (qc (redF m j i))),.inr (eQ.at (fun k=>(S k∧vb.ownBlock≠some k)∧k≠h) (qc (-(redF m j i))))]
    [[],[],[],[],[(51,2),(52,3)],[(53,4)],[(54,5)]] (by kernel_rfl) ⟨
    fun w e=>(v_ld ty_V rfl (k10.ext e) rfl).ob,fun w e=>(v_mv rfl).ob,fun w e=>(v_mv rfl).ob,fun w e=>(v_ld A7 rfl (k9.ext e) rfl).ob,
    fun w e=>E8 (i:=i) un_V ty_Q rfl (ER.ext eV hrw' e) rfl (L5 hlt),
    fun w e p hp=>R5 ty_Q rfl hp,
    fun w e x hx=>by
     have:=AA5 (L:=40000000) (upQ (Nat.le_trans hsWh e.size)) hx (AD1 (hrsz j i (by omega) hlt)) (by decide) (by decide)
     rw [E1] at this
     exact (A3 _ AB7 rfl this).ob (A8 _ _ _),trivial⟩ ?_)
   intro W1 e1' x4 _ x5 _ x6 h6
   refine .ixB (i:=(redP m).getD j 0) un_V ty_Q rfl rfl rfl hpl ?_
   refine .storeF (E:=eQ) (i:=(redP m).getD j 0) (by decide) ty_Q rfl rfl (hx.ext e1') rfl (by rw [A1];exact hpl) (Nat.zero_add _) h6 fun W2 f2 u2=>.nil ?_
   rw [R9,←Ay2 hech hj hip (I7 hj)] at f2
   exact ⟨(Oth.ext e1').trans (by obtain ⟨es',hb',_⟩:=hx.ext e1';exact Oth.upd u2 hb'),u2.below (hlow.trans (e1'.mono hlws)) (by omega),(k9.ext e1').upd u2 (by omega),(k10.ext e1').upd u2 (by omega),(kp1.ext e1').upd u2 (by omega),(kp2.ext e1').upd u2 (by omega),f2⟩
  ·intro W' hJ hD
   exact ⟨Wh.heap.size,rfl,lkA rfl,hJ.low,hJ.k10,hJ.x,hD,xh.size⟩
 rintro D Wz ⟨xz,k10,fz,hDz,hDW⟩
 have hsz:=xz.size
 have hBz:Below w6.heap.size w6 Wz:=hB.trans (xz.mono hsW)
 have hoz:=ho.ext xz
 have hrow:eV.R (fun k=>S k∧vb.ownBlock≠some k) Wz (.slice (some ⟨h,0,none⟩) (colsOf m) (colsOf m)) (tab (colsOf m) (nv (redF m) (redP m) i)):=by
  have:=fz.toR (c:=colsOf m) (hsz:=by decide) ⟨up h (by omega),fun hh'=>by have:=(hown h hh').2;omega⟩ (by rw [A1];exact Nat.le_refl _) (by rw [A1];omega)
  rwa [A1] at this
 refine .region (.mv rfl rfl (.ld ty_V rfl rfl k10 rfl (.bsl _ rfl rfl BI2 fun Wy by_ ny=>?_)))
 obtain ⟨ey,ky,hby,hsy⟩:=ny
 have hfl:(freeTo (redP m) i).length≤i:=by
  unfold freeTo
  have:=List.length_filter_le (fun k => !(decide (k∈redP m))) (List.range i)
  simpa using this
 refine .gv rfl rfl (AP0 (E:=eV) (base:=w6.heap.size) (n:=tab (colsOf m) (nv (redF m) (redP m) i)) (e:=.slice (some ⟨h,0,none⟩) (colsOf m) (colsOf m)) (by decide) un_M Af9 rfl rfl rfl (hoz.ext ey) ky (hrow.ext ey) (by simp;omega) (by decide) (by have:=ey.size;omega)) ?_
 rintro v8 W8 ⟨ho8,hg8⟩
 refine .asg rfl rfl (.nil (.region (.add rfl rfl rfl (.mv rfl rfl (.nil ?_)))))
 rw [wI (by omega)]
 have hoth:Oth Wz W8:=(Oth.ext ey).trans ((hoz.ext ey).oth hg8)
 have hnsz:=hnsb xz
 refine ⟨(i+1,v8,D::ns),rfl,lkA rfl,⟨(hoz.ext ey).below hg8 (hBz.trans (ey.mono hBz.size)) (by have:=ey.size;omega),hlt,?_,?_,?_⟩,by show colsOf m-(i+1)<colsOf m-i;omega⟩
 ·show OwnL eV 42 w6.heap.size S W8 v8 _
  rw [hfs,if_neg hip,List.map_append];exact ho8
 ·refine List.nodup_cons.2 ⟨fun hmem=>?_,hnd⟩
  have:=(Array.getElem?_eq_some_iff.1 (hns D hmem).1).1
  omega
 ·intro D' hD'
  rcases List.mem_cons.1 hD' with rfl | hD'
  ·exact ⟨hoth _ _ hDz rfl,by omega⟩
  ·exact ⟨hoth _ _ (hnsz D' hD').1 rfl,(hnsz D' hD').2⟩
end Go.Proofs.YteghbhdniimjbaaGreat

namespace Go.Proofs.YteghbhdniimjbaaGreat
open Go Go.Kx Go.RowKit
theorem Ab1:Ent Tryz.prog 113:=A0 Tryz.func113 (by kernel_rfl) rfl
theorem Aa3 {S:Nat→Prop} {w:World} {vm vb:Value} {m:List (List QV)} {b:List QV} {L n:Nat} (up:Up S w) (hm:eM.R S w vm m) (hb:eV.R S w vb b) (hkm:mk_ L m) (hkb:vk L b) (hL:1≤L) (hr:m.length≤100) (hl:b.length≤100) (hc:colsOf m≤90) (hmn:min (max m.length b.length) (colsOf m+1)≤n) (hbd:bd L n≤40000000) :
  CR Tryz.prog 113 #[vm,vb] w (Three (eV.at S (if solvable m b then solX m b else [])) (eM.at S (if solvable m b then nullM m else [])) (Is (.int .i64 (if solvable m b then 0 else 8)))):=by
 refine enter Tryz.func113 rfl Tryz.ntmps113 rfl ?_
 refine .seq (.region (.asg rfl rfl (.asg rfl rfl (.asg rfl rfl (.nil (.seq (.region (.mv rfl rfl (.mv rfl rfl ?_)))))))))
 refine .call _ rfl AJ4 rfl (AI4 up hm hb hkm hkb hL hr hl hc hmn hbd) fun v1 w1 e1 h1=>?_
 obtain ⟨vx,vi,rfl,hx,hi⟩:=h1
 replace hi:vi=.bool (decide (solvable m b)):=hi
 subst hi
 refine .mv rfl rfl (.ext rfl rfl rfl (.ext rfl rfl rfl (.asg rfl rfl (.asg rfl rfl (.nil (.seq (.seq (.region (.mv rfl rfl (.not_ rfl rfl (.nil ?_)))))))))))
 by_cases hs:solvable m b
 ·rw [decide_eq_true hs]
  refine .condF rfl (.skip (.seq (.region (.mv rfl rfl (.mv rfl rfl ?_)))))
  refine .call _ rfl AM8 rfl (AK6 (L:=L) (n:=n) (C:=100) (up.ext e1.size) (hm.ext e1) ⟨hkm,hL,hbd,by omega,hr,by omega,Nat.le_refl _⟩) fun v2 w2 e2 h2=>.asg rfl rfl (.asg rfl rfl (.asg rfl rfl (.nil (.ret ?_))))
  refine .plain [_,_,_] Tryz.results113 ⟨rfl,rfl,rfl,trivial⟩ ⟨e1.trans e2,_,_,_,rfl,?_,?_,?_⟩
  ·exact ER.ext eV hx e2
  ·rw [if_pos hs];exact h2
  ·show _=_
   rw [if_pos hs]
 ·rw [decide_eq_false hs]
  refine .condT rfl (.seq (.region (.asg rfl rfl (.asg rfl rfl (.asg rfl rfl (.nil (.ret ?_)))))))
  refine .plain [_,_,_] Tryz.results113 ⟨rfl,rfl,rfl,trivial⟩ ⟨e1,_,_,_,rfl,?_,?_,?_⟩
  ·rw [if_neg hs];exact RL.nil
  ·rw [if_neg hs];exact RL.nil
  ·show _=_
   rw [if_neg hs]
end Go.Proofs.YteghbhdniimjbaaGreat

namespace Go.Kx
open Go Go.RowKit
/-- the matrix beside the unit matrix -/
def invF (m:List (List QV)):RM:=fun i k=>if k<m.length then rm m i k else idR i (k-m.length)
def invE (m:List (List QV)):RM×List Nat:=elim m.length (invF m) m.length
def invM (m:List (List QV)):List (List QV):=tabM m.length m.length fun i k=>(invE m).1 i (m.length+k)
abbrev invertible (m:List (List QV)):Prop:=¬ (invE m).2.length<m.length
end Go.Kx
namespace Go.Proofs.YteghbhdniimjbaaGreat
open Go Go.Kx Go.RowKit
end Go.Proofs.YteghbhdniimjbaaGreat

namespace Go.Proofs.YteghbhdniimjbaaGreat
open Go Go.Kx Go.RowKit
end Go.Proofs.YteghbhdniimjbaaGreat

namespace Go.Kx
section
variable {n N C CA:Nat} {g A:RM} {p:List Nat}
theorem BE2 (h:Ech n CA g p) {D:Nat} (hp:∀ j,j<p.length→p.getD j 0<C) (a:Nat→Rat):sumN C (fun k=>a k*partF g p D k)=sumN p.length fun j=>a (p.getD j 0)*g j D:=by
 have e1:∀ k,a k*partF g p D k=sumN p.length fun j=>if p.getD j 0=k then a (p.getD j 0)*g j D else 0:=by
  intro k
  unfold partF partTo
  rw [←N1]
  refine A2 fun j _=>?_
  by_cases e:p.getD j 0=k
  ·rw [if_pos e,if_pos e,e]
  ·rw [if_neg e,if_neg e,Rat.mul_zero]
 rw [A2 fun k _=>e1 k,M1]
 refine A2 fun j hj=>?_
 rw [F2 (i:=p.getD j 0) (fun k _ hk=>by rw [if_neg (fun e=>hk e.symm)]),if_pos (hp j hj),if_pos rfl]
/-- where the last column has no pivot there is a solution -/
theorem sol_of (he:Ech N (C+1) g p) (hq:Req N (C+1) A g) (hp:∀ j,j<p.length→p.getD j 0≠C):∀ i,i<N→sumN C (fun k=>A i k*partF g p C k)=A i C:=by
 have hp':∀ j,j<p.length→p.getD j 0<C:=fun j hj=>by have:=he.lt j hj;have:=hp j hj;omega
 have key:∀ i,i<N→sumN (C+1) (fun k=>g i k*(if k=C then -1 else partF g p C k))=0:=by
  intro i hi
  rw [sumN,if_pos rfl,A2 (g:=fun k=>g i k*partF g p C k) fun k hk=>by rw [if_neg (by omega)],BE2 he hp']
  rw [F2 (i:=i) (fun j hj hne=>by rw [he.one i j hi hj,if_neg (fun e=>hne e.symm),Rat.zero_mul])]
  split
  ·rename_i hj;rw [he.one i i hi hj,if_pos rfl];grind
  ·rename_i hj;rw [he.nil i C (by omega) hi (by omega)];grind
 intro i hi
 have:=Spn.dot0 (hq.2 i hi) key
 rw [sumN,if_pos rfl,A2 (g:=fun k=>A i k*partF g p C k) fun k hk=>by rw [if_neg (by omega)]] at this
 grind
/-- where it has one, a combination of the rows says 0 = 1 -/
theorem no_sol (he:Ech N (C+1) g p) (hq:Req N (C+1) A g) {j:Nat} (hj:j<p.length) (hC:p.getD j 0=C):∃ t:Nat→Rat,(∀ k,k<C→sumN N (fun i=>t i*A i k)=0)∧sumN N (fun i=>t i*A i C)=1:=by
 have hN:=he.len
 obtain ⟨t,ht⟩:=hq.1 j (by omega)
 refine ⟨t,fun k hk=>?_,?_⟩
 ·rw [←ht k (by omega)];exact he.low j k hj (by omega)
 ·rw [←ht C (by omega)]
  have:=he.one j j (by omega) hj
  rw [hC,if_pos rfl] at this;exact this
theorem sol_no {x t:Nat→Rat} (hx:∀ i,i<N→sumN C (fun k=>A i k*x k)=A i C) (ht:∀ k,k<C→sumN N (fun i=>t i*A i k)=0):sumN N (fun i=>t i*A i C)=0:=by
 have e1:sumN N (fun i=>t i*A i C)=sumN N fun i=>sumN C fun k=>(t i*A i k)*x k:=A2 fun i hi=>by
  rw [←hx i hi,←N1]
  exact A2 fun k _=>by grind
 rw [e1,M1]
 exact F3 fun k hk=>by rw [O7,ht k hk,Rat.zero_mul]
end
theorem BH2 {n:Nat} {f:RM}:∀ c,elimD n f c≠0
 | 0=>by show (1:Rat)≠0;decide
 | c+1=>by
  have ih:=BH2 (n:=n) (f:=f) c
  have e2:elimD n f (c+1)=estepD n c (elim n f c) (elimD n f c):=rfl
  rw [e2]
  unfold estepD
  split
  ·exact ih
  ·rename_i r hr
   obtain ⟨_,_,h3,_⟩:=J6 hr
   refine fun h=>?_
   rcases Rat.mul_eq_zero.1 h with h | h
   ·split at h
    ·exact ih h
    ·exact ih (by grind)
   ·exact h3 h
theorem Ech.nodup {n c:Nat} {g:RM} {p:List Nat} (h:Ech n c g p):p.Nodup:=by
 rw [List.nodup_iff_pairwise_ne,List.pairwise_iff_getElem]
 intro i j hi hj hij
 have:=h.mono hij hj
 rw [List.getD_eq_getElem?_getD,List.getD_eq_getElem?_getD,List.getElem?_eq_getElem hi,List.getElem?_eq_getElem hj] at this
 simp at this
 omega
/-- free columns and pivots are all the columns -/
theorem AX8 {p:List Nat} (hn:p.Nodup):∀ i,(freeTo p i).length+p.countP (fun k=>decide (k<i))=i
 | 0=>by unfold freeTo;simp
 | i+1=>by
  have ih:=AX8 hn i
  have h1:(freeTo p (i+1)).length=(freeTo p i).length+if i∈p then 0 else 1:=by
   unfold freeTo
   rw [List.range_succ,List.filter_append,List.length_append]
   by_cases h:i∈p<;>simp [h]
  have h2:p.countP (fun k=>decide (k<i+1))=p.countP (fun k=>decide (k<i))+if i∈p then 1 else 0:=by
   clear ih h1
   induction p with
   | nil=>simp
   | cons x p ihp =>
    have hx:=List.nodup_cons.1 hn
    rw [List.countP_cons,List.countP_cons,ihp hx.2]
    by_cases e:x=i
    ·subst e
     simp [hx.1]
    ·have h3:(i∈x::p)↔i∈p:=by simp [show ¬ i=x from fun h=>e h.symm]
     simp only [h3]
     by_cases h4:x<i
     ·simp [h4,show x<i+1 by omega];omega
     ·simp [h4,show ¬ x<i+1 by omega]
  rw [h1,h2]
  by_cases h:i∈p
  ·simp only [h,if_true];omega
  ·simp only [h,if_false];omega
theorem Ech.free_len {n C:Nat} {g:RM} {p:List Nat} (h:Ech n C g p):(freeTo p C).length+p.length=C:=by
 have:=AX8 h.nodup C
 have h1:p.countP (fun k=>decide (k<C))=p.length:=by
  rw [List.countP_eq_length]
  intro k hk
  obtain ⟨j,hj⟩:=List.mem_iff_getElem?.1 hk
  have hl:j<p.length:=(List.getElem?_eq_some_iff.1 hj).1
  have:=h.lt j hl
  rw [List.getD_eq_getElem?_getD,hj] at this
  simpa using this
 omega
end Go.Kx

namespace Go.Kx
open Go Go.RowKit
theorem BB9 {l:List Int} (h:∀ n∈l,-9223372036854775808≤n∧n≤9223372036854775807):vk 2 (intsV l) :=
 T4 fun k _=>Rsz.int _ (by
  have:=T5 (P:=fun n:Int => -9223372036854775808≤n∧n≤9223372036854775807) (z:=0) h (by omega) k
  show (l.getD k 0).natAbs<18446744073709551616
  omega) (by omega)
abbrev iv (n:Int):Value:=.int .i64 n
end Go.Kx
namespace Go.Proofs.YteghbhdniimjbaaGreat
open Go Go.Kx Go.RowKit
theorem Ag4 {x y z:Int}:bslOf Tryz.prog 103 3 [(0,.int .i64 x),(1,.int .i64 y),(2,.int .i64 z)]=some (2,#[.int .i64 x,.int .i64 y,.int .i64 z]):=by kernel_rfl
theorem Ag2 {S:Nat→Prop} {w w':World} {b:Nat} {t:TypeId} {cs:Array Value} (l:List Int) (n:Nat) (hn:New w w' b t cs) (up:Up S w) (hcs:cs=(l.map iv).toArray) (hl:l.length=n) (hd:∀ x∈l,-9223372036854775808≤x∧x≤9223372036854775807) (hm:n≤1000) :
  eI.R S w' (.slice (some ⟨b,0,none⟩) n n) l:=by
 subst hl
 refine RL.ofBlk (es:=l.map iv) hn.2.1 (up b (by have:=hn.2.2.1;omega)) ⟨by simp,fun i e x he hx=>?_⟩ (fun j u hu=>?_) (Nat.le_refl _) (by omega)
 ·rw [List.getElem?_map,hx] at he
  simp at he
  have:=hd x (List.mem_iff_getElem?.2 ⟨i,hx⟩)
  exact ⟨he.symm,this.1,this.2⟩
 ·rw [F0 iv (fun _=>rfl)] at hu
  rw [hcs];simpa using hu
end Go.Proofs.YteghbhdniimjbaaGreat

namespace Go.Proofs.YteghbhdniimjbaaGreat
open Go Go.Kx Go.RowKit
end Go.Proofs.YteghbhdniimjbaaGreat

namespace Go.Kx
open Go Go.RowKit
section
variable {P:Program} {σ:Env} {w:World} {d:Option Tmp} {ty:TypeId} {pos:String} {af:Array Edge} {g:Option (Nat×Bool)}
theorem Au2 {s:TypeId} {x:Operand} {i off:Nat} {p:Addr} (hf:fldOf P s i=some off) (hx:ev σ x=some (.pointer (some p))):Vl P ⟨d,.fieldAddr s x i,ty,pos,af,g⟩ σ w (.pointer (some (p.add off))):=by
 refine ⟨(by intro _ h;cases h),fun ρ hρ=>?_⟩
 have h1:=hρ x _ (by simp [Op.operands]) hx
 unfold fldOf at hf
 split at hf
 ·rename_i fs hfs
  split at hf
  ·rename_i f hff
   split at hf
   ·rename_i j hj
    cases hz:Nat.beq j.size 0 with
    | true=>rw [hz] at hf;cases hf
    | false =>
     rw [hz] at hf
     simp only [cond_false,Option.some.injEq] at hf
     have hz':j.size≠0:=fun e=>by rw [e] at hz;cases hz
     simp [execOp,h1,Instr.fieldAt,run_underlying hfs,hff,Instr.sureAddr,fieldPlace,sizeOf,typeInfo,hj,hz',hf]
   ·cases hf
  ·cases hf
 ·cases hf
end
theorem PtrTo.zw {S:Nat→Prop} {w:World} {p:Addr} {z:ZV} (h:PtrTo eZ S w p z):PtrTo eW S w (p.add 1) z.w:=by
 obtain ⟨e,⟨s,rfl,hs⟩,h2,h3⟩:=h
 obtain ⟨a,c,hv,_⟩:=RL.len hs
 refine ⟨s,hs,by rw [G1];exact h2,fun j u hu=>?_⟩
 rw [hv] at hu
 have hj:j=0:=by
  cases j with
  | zero=>rfl
  | succ j=>simp [Value.cells] at hu
 subst hj
 rw [V6]
 refine h3 1 u ?_
 rw [hv];simpa [Value.cells] using hu
theorem PtrTo.qn {S:Nat→Prop} {w:World} {p:Addr} {q:QV} (h:PtrTo eQ S w p q):PtrTo eZ S w (p.add 0) q.num:=by
 obtain ⟨e,⟨s,t,rfl,hs,ht⟩,h2,h3⟩:=h
 refine ⟨.agg #[.bool q.num.neg,s],⟨s,rfl,hs⟩,by rw [G1];exact h2,fun j u hu=>?_⟩
 rw [V6]
 refine h3 _ u ?_
 match j with
 | 0=>simpa [Value.cells] using hu
 | 1=>simpa [Value.cells] using hu
 | j+2=>simp [Value.cells] at hu
theorem PtrTo.qd {S:Nat→Prop} {w:World} {p:Addr} {q:QV} (h:PtrTo eQ S w p q):PtrTo eZ S w (p.add 2) q.den:=by
 obtain ⟨e,⟨s,t,rfl,hs,ht⟩,h2,h3⟩:=h
 refine ⟨.agg #[.bool q.den.neg,t],⟨t,rfl,ht⟩,by rw [G1];exact h2,fun j u hu=>?_⟩
 rw [V6]
 refine h3 _ u ?_
 match j with
 | 0=>simpa [Value.cells] using hu
 | 1=>simpa [Value.cells] using hu
 | j+2=>simp [Value.cells] at hu
section
variable {P:Program} {ro:Option Nat} {N:Nat} {ds:List Deferred} {ops:Array Oper} {K:Env→World→Prop} {rest:List Oper} {σ:Env} {w:World} {d:Tmp} {ty:TypeId} {pos:String} {af:Array Edge}
theorem WL.faP {s:TypeId} {x:Operand} {i off:Nat} {p:Addr} (hf:fldOf P s i=some off) (hd:Nat.blt d N=true) (hx:ev σ x=some (.pointer (some p))) (k:WL P ro N ds ops K rest ((d,.pointer (some (p.add off)))::σ) w) :
  WL P ro N ds ops K (⟨some d,.fieldAddr s x i,ty,pos,af,none⟩::rest) σ w:=WL.vl rfl hd (Au2 hf hx) k
end
section
variable {P:Program} {σ:Env} {w:World} {d:Option Tmp} {ty:TypeId} {pos:String} {af:Array Edge} {g:Option (Nat×Bool)} {S:Nat→Prop}
end
/-- a bool that tells, if false, that Q holds -/
@[reducible] def Lng (Q:Prop):Value→World→Prop:=fun v _=>∃ b,v=.bool b∧(b=false→Q)
end Go.Kx
namespace Go.Proofs.YteghbhdniimjbaaGreat
open Go Go.Kx Go.RowKit
end Go.Proofs.YteghbhdniimjbaaGreat

namespace Go.Proofs.YteghbhdniimjbaaGreat
open Go Go.Kx Go.RowKit
theorem Af4 {α:Type} {l:List α} {j:Nat} {x:α} (h:l[j]?=some x):j<l.length:=by
 rcases Nat.lt_or_ge j l.length with h' | h'
 ·exact h'
 ·rw [List.getElem?_eq_none h'] at h;cases h
theorem eV_vk {S:Nat→Prop} {w:World} {v:Value} {a:List QV} {L:Nat} (h:eV.R S w v a) (hk:∀ q∈a,qok L q) (hL:1≤L):vk L a:=by
 intro q hq
 obtain ⟨i,hi⟩:=List.mem_iff_getElem?.1 hq
 obtain ⟨es,he,_⟩:=h
 have hlt:=Af4 hi
 obtain ⟨s,t,_,hn,hd⟩:=he.2 i _ q (List.getElem?_eq_getElem (by rw [he.1];exact hlt)) hi
 exact ⟨hk q hq,BD7 (D9 hn) (D9 hd) (hk q hq) hL⟩
def okV (r:List QV):Prop:=r.length≤20∧∀ q∈r,qok 6 q
end Go.Proofs.YteghbhdniimjbaaGreat

namespace Go.Kx
def hds (n:Nat):List Nat:=if h:n=0 then [] else n % 65536::hds (n / 65536)
 decreasing_by omega
theorem J8:hds 0=[]:=by unfold hds;simp
theorem AF4 {n:Nat} (h:n≠0):hds n=n % 65536::hds (n / 65536):=by rw [hds];simp [h]
theorem D5 (n:Nat):valH (hds n)=n:=by
 induction n using Nat.strongRecOn with
 | ind n ih =>
  by_cases h:n=0
  ·subst h;rw [J8];rfl
  ·rw [AF4 h,valH,ih _ (by omega)];omega
theorem AY7 (n:Nat):digH (hds n):=by
 induction n using Nat.strongRecOn with
 | ind n ih =>
  by_cases h:n=0
  ·subst h;rw [J8];intro x hx;cases hx
  ·rw [AF4 h]
   intro x hx
   rcases List.mem_cons.1 hx with rfl | hx
   ·omega
   ·exact ih _ (by omega) x hx
theorem AB9:∀ {l:List Nat},can l→l≠[]→valH l≠0
 | [],_,h=>absurd rfl h
 | [x],hc,_=>by
  have:=hc x (by simp)
  simp only [valH];omega
 | x::y::r,hc,_=>by
  have ih:=AB9 (l:=y::r) (fun u hu=>hc u (by simpa [List.getLast?_cons_cons] using hu)) (by simp)
  rw [valH];omega
theorem AX4:∀ {l:List Nat},digH l→can l→hds (valH l)=l
 | [],_,_=>J8
 | x::r,hd,hc=>by
  have hx:=hd x (by simp)
  have hr:can r:=by
   intro u hu
   apply hc u
   cases r with
   | nil=>simp at hu
   | cons y r=>simpa [List.getLast?_cons_cons] using hu
  have ih:=AX4 (l:=r) (fun z hz=>hd z (by simp [hz])) hr
  have h0:valH (x::r)≠0:=AB9 hc (by simp)
  rw [AF4 h0,valH]
  rw [show (x+65536*valH r) % 65536=x by omega,show (x+65536*valH r) / 65536=valH r by omega,ih]
theorem trimH {l:List Nat} (h:digH l):trimL l=hds (valH l):=by
 rw [←AI0,AX4 (AJ0 h) (AF8 l)]
theorem AA1 {l:List Nat} (h:digH l):valH l<65536 ^ l.length:=by
 induction l with
 | nil=>simp [valH]
 | cons x l ih =>
  have hx:=h x (by simp)
  have:=ih fun z hz=>h z (by simp [hz])
  rw [valH,List.length_cons,Nat.pow_succ];omega
theorem L7 {n L:Nat} (h:n<65536 ^ L):(hds n).length≤L:=by
 induction L generalizing n with
 | zero=>rw [show n=0 by simpa using h,J8];simp
 | succ L ih =>
  by_cases h0:n=0
  ·rw [h0,J8];simp
  ·rw [AF4 h0,List.length_cons]
   have:=ih (n:=n / 65536) (by rw [Nat.pow_succ] at h;exact (Nat.div_lt_iff_lt_mul (by omega)).2 h)
   omega
theorem AX5 (n:Nat):n<65536 ^ (hds n).length:=by
 have:=AA1 (AY7 n)
 rwa [D5] at this
theorem P1 {n:Nat}:hds n=[]↔n=0:=by
 constructor
 ·intro h
  by_cases h0:n=0
  ·exact h0
  ·rw [AF4 h0] at h;cases h
 ·rintro rfl;exact J8
theorem AE6 (l:List Nat) (x:Nat):valH (l++[x])=valH l+65536 ^ l.length*x:=by rw [AC3];simp [valH]
theorem J4 (l:List Nat) (k:Nat):valH (l.take (k+1))=valH (l.take k)+65536 ^ k*l.getD k 0:=by
 rcases Nat.lt_or_ge k l.length with h | h
 ·rw [List.take_succ_eq_append_getElem h,AE6,List.length_take,Nat.min_eq_left (by omega)]
  simp [List.getD_eq_getElem?_getD,List.getElem?_eq_getElem h]
 ·rw [List.take_of_length_le (by omega),List.take_of_length_le h]
  simp [List.getD_eq_getElem?_getD,List.getElem?_eq_none h]
theorem Z0 {l:List Nat} {k:Nat} (h:k<l.length):valH (l.drop k)=l.getD k 0+65536*valH (l.drop (k+1)):=by
 rw [List.drop_eq_getElem_cons h,valH]
 simp [List.getD_eq_getElem?_getD,List.getElem?_eq_getElem h]
theorem M4 {l:List Nat} (h:digH l) (k:Nat):l.getD k 0<65536:=by
 rw [List.getD_eq_getElem?_getD]
 cases hk:l[k]? with
 | none=>simp
 | some x=>exact h x (List.mem_iff_getElem?.2 ⟨k,hk⟩)
theorem BA5 {l:List Nat} {x:Nat} (h:digH l) (hx:x<65536):digH (l++[x]):=by
 intro y hy
 rcases List.mem_append.1 hy with h' | h'
 ·exact h y h'
 ·simp at h';omega
theorem Am1 {l r:List Nat} (h:digH l) (h':digH r):digH (l++r):=by
 intro y hy
 rcases List.mem_append.1 hy with h1 | h1
 ·exact h y h1
 ·exact h' y h1
/-- beyond the end nothing is left -/
theorem P7 {l:List Nat} {k:Nat} (h:l.length≤k):valH (l.take k)=valH l:=by rw [List.take_of_length_le h]
theorem O0 {m n:Nat} (h:m≤n):(hds m).length≤(hds n).length:=L7 (Nat.lt_of_le_of_lt h (AX5 n))
end Go.Kx

namespace Go.Kx
open Go Go.RowKit
theorem tmod16 (m:Nat):((m:Int).tmod 65536)=((m % 65536:Nat):Int):=M9 m 65536
theorem tdiv16 (m:Nat):((m:Int).tdiv 65536)=((m / 65536:Nat):Int):=N0 m 65536
/-- digits of the call's own -/
def OwnH (t:TypeId) (base:Nat) (w:World) (v:Value) (r:List Nat):Prop:=w.ownsRow base t 1 v r.length (r.map hvv)∧digH r
section
variable {t:TypeId} {base:Nat} {w w':World} {v:Value} {r:List Nat}
theorem OwnH.ext (h:OwnH t base w v r) (e:Ext w w'):OwnH t base w' v r:=⟨AD2 h.1 fun k cs _ hb=>hb.ext e,h.2⟩
theorem OwnH.below {w0:World} (h:OwnH t base w v r) (hg:w.grownBy w' v.ownBlock) (hb:Below base w0 w) (hB:base≤w.heap.size):Below base w0 w':=hb.grown hg hB fun k hk=>(h.1.lt k hk).1
theorem OwnH.nil:OwnH t base w (.slice none 0 0) []:=⟨⟨rfl,.inl ⟨rfl,rfl⟩⟩,fun x hx=>by cases hx⟩
theorem OwnH.toR {S:Nat→Prop} (h:OwnH t base w v r) (hS:∀ k,base≤k→S k):eHs.R S w v r:=by
 refine RL.ofOwn (E:=eH) (es:=r.map hvv) (base:=base) (t:=t) (n:=r.length) ?_ rfl ⟨by simp,fun i e x he hx=>?_⟩ hS
 ·rw [F0 hvv (fun _=>rfl)];exact h.1
 ·rw [List.getElem?_map,hx] at he
  simp at he
  exact ⟨he.symm,h.2 x (List.mem_iff_getElem?.2 ⟨i,hx⟩)⟩
theorem OwnH.lit {b:Nat} {l:List Nat} (hn:New w w' b t (l.map hvv).toArray) (hB:base≤w.heap.size) (hd:digH l) (hl:l.length≤1000):OwnH t base w' (.slice (some ⟨b,0,none⟩) l.length l.length) l:=by
 obtain ⟨_,hk,hb,_⟩:=hn
 exact ⟨⟨by simp,.inr ⟨b,l.length,_,rfl,by omega,hk,Nat.le_refl _,by simp [maxLen];omega,by simp,by simp [List.take_of_length_le]⟩⟩,hd⟩
end
section
variable {P:Program} {σ:Env} {w:World} {d:Option Tmp} {ty:TypeId} {pos:String} {af:Array Edge} {g:Option (Nat×Bool)}
theorem Ar1 {t e:TypeId} {x y:Operand} {base b:Nat} {v:Value} {r:List Nat} {n:Nat} (ht:P.underlying t=some (.slice e)) (hi:infoOf P e=some (.int .i64 0,1,8)) (hx:ev σ x=some v) (hy:ev σ y=some (.slice (some ⟨b,0,none⟩) 1 1))
  (hown:OwnH e base w v r) (hb:Blk w b e #[hvv n]) (hn:n<65536) (hl:r.length≤1099511627776) (hbase:base≤w.heap.size) :
  Gv P ⟨d,.call { callee:=.builtin .append,args:=#[x,y],argTypes:=#[t,t] },ty,pos,af,g⟩ σ w fun v' w'=>OwnH e base w' v' (r++[n])∧w.grownBy w' v.ownBlock:=by
 refine (AX7 [hvv n] ht hi rfl (by decide) hx hy hown.1 rfl (fun j u hu=>?_) (fun u hu=>?_) (by omega) (by omega) hbase).mono ?_
 ·cases j with
  | zero=>simp at hu;subst hu;rw [J9,hb.cell];rfl
  | succ j=>simp at hu
 ·simp at hu;subst hu;rfl
 ·rintro v' w' ⟨h1,h2⟩
  exact ⟨⟨by simpa using h1,BA5 hown.2 hn⟩,h2⟩
/-- append(r, s...) -/
theorem g_appHs {S:Nat→Prop} {t e:TypeId} {x y:Operand} {base:Nat} {v u:Value} {r s:List Nat} (ht:P.underlying t=some (.slice e)) (hi:infoOf P e=some (.int .i64 0,1,8)) (hx:ev σ x=some v) (hy:ev σ y=some u)
  (hown:OwnH e base w v r) (hs:eHs.R S w u s) (hl:r.length≤1000) (hl2:s.length≤1099511627776) (hbase:base≤w.heap.size) :
  Gv P ⟨d,.call { callee:=.builtin .append,args:=#[x,y],argTypes:=#[t,t] },ty,pos,af,g⟩ σ w fun v' w'=>OwnH e base w' v' (r++s)∧Below base w w':=by
 have hds:=T7 hs
 obtain ⟨es,he,a,c,rfl,hc,_,hcl,hcells⟩:=hs
 have hes:es=s.map hvv:=by
  apply List.ext_getElem?
  intro i
  rw [List.getElem?_map]
  cases hi:s[i]? with
  | none=>rw [List.getElem?_eq_none (by rw [he.1];exact List.getElem?_eq_none_iff.1 hi)];rfl
  | some z =>
   have hlt:i<s.length:=(List.getElem?_eq_some_iff.1 hi).1
   have hee:=List.getElem?_eq_getElem (show i<es.length by rw [he.1];exact hlt)
   obtain ⟨h1,_⟩:=he.2 i _ z hee hi
   rw [hee,h1];rfl
 subst hes
 rw [F0 hvv (fun _=>rfl)] at hcells hcl
 have hone:∀ u∈s.map hvv,one1 u=true:=by
  intro u hu
  obtain ⟨z,_,rfl⟩:=List.mem_map.1 hu
  rfl
 have fin:∀ v' w',w'.ownsRow base e 1 v' (r.length+s.length) (r.map hvv++s.map hvv)→w.grownBy w' v.ownBlock→OwnH e base w' v' (r++s)∧Below base w w':=by
  intro v' w' h1 h2
  exact ⟨⟨by simpa using h1,Am1 hown.2 hds⟩,hown.below h2 (Below.refl _ _) hbase⟩
 cases a with
 | some ad =>
  have hcell:∀ j u,(s.map hvv)[j]?=some u→w.cell? (ad.add j)=some u:=by
   intro j u hu
   have hpos:0<s.length:=by
    cases s with
    | nil=>simp at hu
    | cons z s=>simp
   obtain ⟨ad',h1,_,h2⟩:=hcells hpos
   cases h1
   exact h2 j u hu
  exact (AX7 (s.map hvv) ht hi rfl (by decide) hx hy hown.1 (by simp) hcell hone (by omega) (by omega) hbase).mono fun v' w' ⟨h1,h2⟩=>fin v' w' h1 h2
 | none =>
  have h0:s=[]:=by
   cases s with
   | nil=>rfl
   | cons z s=>obtain ⟨ad,h1,_⟩:=hcells (by simp);cases h1
  subst h0
  refine (BG7 ht hi hx hy hown.1).gv.mono fun v' w' ⟨h1,h2⟩=>?_
  subst h1;subst h2
  exact ⟨by simpa using hown,Below.refl _ _⟩
end
end Go.Kx
namespace Go.Proofs.YteghbhdniimjbaaGreat
open Go Go.Kx Go.RowKit
theorem AP4 {x:Int}:bslOf Tryz.prog 41 1 [(0,.int .i64 x)]=some (3,#[.int .i64 x]):=by kernel_rfl
theorem bsl_H3 {x y z:Int}:bslOf Tryz.prog 41 3 [(0,.int .i64 x),(1,.int .i64 y),(2,.int .i64 z)]=some (3,#[.int .i64 x,.int .i64 y,.int .i64 z]):=by kernel_rfl
theorem Ao0:Ent Tryz.prog 229:=A0 Tryz.func229 (by kernel_rfl) rfl
theorem Ak2 {S:Nat→Prop} {w:World} {va vb:Value} {a b:List Nat} (up:Up S w) (ha:eHs.R S w va a) (hb:eHs.R S w vb b) (hla:a.length≤100000000000) (hlb:b.length≤100000000000):CR Tryz.prog 229 #[va,vb] w (eHs.at S (hds (valH a+valH b))):=by
 have hda:=T7 ha
 have hdb:=T7 hb
 have hA:∀ {W:World},Below w.heap.size w W→eHs.R (fun k=>S k∧k<w.heap.size) W va a:=fun hB=>eHs.keep (fun k c t f hk h=>(hB.block k hk.2).trans h) (ER.lt eHs ha)
 have hBb:∀ {W:World},Below w.heap.size w W→eHs.R (fun k=>S k∧k<w.heap.size) W vb b:=fun hB=>eHs.keep (fun k c t f hk h=>(hB.block k hk.2).trans h) (ER.lt eHs hb)
 refine enter Tryz.func229 rfl Tryz.ntmps229 rfl ?_
 refine .seq (.region (.asg rfl rfl (.nil (.seq (.region (.asg rfl rfl (.nil (.seq (.region (.asg rfl rfl (.nil (.seq (.seq (.region (.asg rfl rfl (.nil ?_))))))))))))))))
 refine .block (.loop (α:=Nat×Value×List Nat×Nat) (fun x=>[(0,va),(1,vb),(5,x.2.1),(6,.int .i64 (x.2.2.2:Nat)),(7,.int .i64 (x.1:Nat))])
  (fun x W=>Below w.heap.size w W∧x.1≤max a.length b.length+1∧x.2.2.1.length=x.1∧OwnH 3 w.heap.size W x.2.1 x.2.2.1∧x.2.2.2≤1∧(max a.length b.length<x.1→x.2.2.2=0)∧valH x.2.2.1+65536 ^ x.1*x.2.2.2=valH (a.take x.1)+valH (b.take x.1))
  (fun x=>2*(max a.length b.length-x.1)+x.2.2.2) (0,.slice none 0 0,[],0) ?_ ?_ ?_)
 ·exact lkA rfl
 ·exact ⟨Below.refl _ _,Nat.zero_le _,rfl,OwnH.nil,Nat.zero_le _,fun _=>rfl,by simp [valH]⟩
 ·rintro ⟨i,u,r,c⟩ W ⟨hB,hi,hr,ho,hc,hc0,hv⟩
  replace hB:Below w.heap.size w W:=hB
  replace hi:i≤max a.length b.length+1:=hi
  replace hr:r.length=i:=hr
  replace ho:OwnH 3 w.heap.size W u r:=ho
  replace hc:c≤1:=hc
  replace hc0:max a.length b.length<i→c=0:=hc0
  replace hv:valH r+65536 ^ i*c=valH (a.take i)+valH (b.take i):=hv
  have hxa:=M4 hda i
  have hxb:=M4 hdb i
  have round:∀ {σ:Env},(i<max a.length b.length∨0<c)→Kx.look σ 0=some va→Kx.look σ 1=some vb→Kx.look σ 5=some u→Kx.look σ 6=some (.int .i64 (c:Nat))→Kx.look σ 7=some (.int .i64 (i:Nat))→True:=fun _ _ _ _ _ _=>trivial
  refine .mid (α:=Unit) (fun _=>[(0,va),(1,vb),(5,u),(6,.int .i64 (c:Nat)),(7,.int .i64 (i:Nat))]) (fun _ W'=>W'=W∧(i<max a.length b.length∨0<c)) ?_ ?_
  ·have hend:¬ (i<max a.length b.length∨0<c)→valH r=valH a+valH b:=by
    intro hn
    have h0:c=0:=by omega
    rw [h0,Nat.mul_zero,Nat.add_zero,P7 (by omega),P7 (by omega)] at hv
    exact hv
   refine .seq (.region (.mv rfl rfl (.mv rfl rfl (.lenR un_H rfl rfl (hA hB) ?_))))
   by_cases h1:i<a.length
   ·refine .lssT rfl rfl rfl (by omega) (.mv rfl rfl (.gs rfl rfl rfl rfl rfl (.gs rfl rfl rfl rfl rfl (.gs rfl rfl rfl rfl rfl (.gs rfl rfl rfl rfl rfl (.pick rfl rfl rfl (.mv rfl rfl (.gs rfl rfl rfl rfl rfl (.gs rfl rfl rfl rfl rfl (.pick rfl rfl rfl (.nil (.condT rfl (.skip ?_)))))))))))))
    exact ⟨rfl,(),lkA rfl,rfl,by omega⟩
   ·refine .lssF rfl rfl rfl (by omega) (.mv rfl rfl (.gr rfl rfl rfl rfl (.mv rfl rfl (.gr rfl rfl rfl rfl (.mv rfl rfl (.gr rfl rfl rfl rfl (.lenR un_H rfl rfl (hBb hB) (.gr rfl rfl rfl rfl ?_))))))))
    by_cases h2:i<b.length
    ·refine .lssT rfl rfl rfl (by omega) (.pick rfl rfl rfl (.mv rfl rfl (.gs rfl rfl rfl rfl rfl (.gs rfl rfl rfl rfl rfl (.pick rfl rfl rfl (.nil (.condT rfl (.skip ?_))))))))
     exact ⟨rfl,(),lkA rfl,rfl,by omega⟩
    ·refine .lssF rfl rfl rfl (by omega) (.pick rfl rfl rfl (.mv rfl rfl (.gr rfl rfl rfl rfl (.mv rfl rfl (.gr rfl rfl rfl rfl ?_)))))
     by_cases h3:0<c
     ·refine .gtrT rfl rfl rfl (show (0:Int)<((c:Nat):Int) by omega) (.pick rfl rfl rfl (.nil (.condT rfl (.skip ?_))))
      exact ⟨rfl,(),lkA rfl,rfl,.inr h3⟩
     ·refine .gtrF rfl rfl rfl (show ¬ (0:Int)<((c:Nat):Int) by omega) (.pick rfl rfl rfl (.nil (.condF rfl (.exit (.seq (.region (.mv rfl rfl ?_)))))))
      refine .call _ rfl F1 rfl (E9 (ho.toR up)) fun v2 W2 e2 h2=>.asg rfl rfl (.nil (.ret ?_))
      refine .plain [_] Tryz.results229 ⟨rfl,trivial⟩ ⟨hB.trans (e2.mono hB.size),?_⟩
      rw [←hend (by omega),←trimH ho.2];exact h2
  ·rintro _ W' ⟨rfl,hgo⟩
   refine .seq (.block (.seq (.region (.mv rfl rfl (.mv rfl rfl ?_)))))
   refine .call _ rfl G5 rfl (G4 (hA hB)) fun v3 W3 e3 h3=>.mv rfl rfl (.mv rfl rfl ?_)
   subst h3
   have hB3:Below w.heap.size w W3:=hB.trans (e3.mono hB.size)
   refine .call _ rfl G5 rfl (G4 (hBb hB3)) fun v4 W4 e4 h4=>?_
   subst h4
   refine .add rfl rfl rfl (.mv rfl rfl (.add rfl rfl rfl (.asg rfl rfl (.nil ?_))))
   rw [wI (n:=((a.getD i 0:Nat):Int)+((b.getD i 0:Nat):Int)) (by omega),wI (by omega),show ((a.getD i 0:Nat):Int)+((b.getD i 0:Nat):Int)+(c:Int)=((a.getD i 0+b.getD i 0+c:Nat):Int) by omega]
   generalize hm:a.getD i 0+b.getD i 0+c=m at *
   refine .seq (.region (.mv rfl rfl (.mv rfl rfl (.rem rfl rfl rfl (by decide) ?_))))
   rw [tmod16]
   refine .bsl _ rfl rfl AP4 fun W5 b5 n5=>?_
   obtain ⟨e5,k5,hb5,hs5⟩:=n5
   have e35:=(e3.trans e4).trans e5
   have hB5:Below w.heap.size w W5:=hB.trans (e35.mono hB.size)
   refine .gv rfl rfl (Ar1 (base:=w.heap.size) un_H Z3 rfl rfl (ho.ext e35) k5 (by omega) (by omega) hB5.size) ?_
   rintro v6 W6 ⟨ho6,hg6⟩
   refine .asg rfl rfl (.nil (.region (.mv rfl rfl (.quo rfl rfl rfl (by decide) (.asg rfl rfl (.nil ?_))))))
   rw [tdiv16,wI (by omega)]
   refine .region (.mv rfl rfl (.add rfl rfl rfl (.asg rfl rfl (.nil ?_))))
   rw [wI (by omega)]
   have hget:max a.length b.length≤i→m / 65536=0:=by
    intro h
    have h1:a.getD i 0=0:=Q6 (by omega)
    have h2:b.getD i 0=0:=Q6 (by omega)
    omega
   refine ⟨rfl,(i+1,v6,_,m / 65536),lkA rfl,⟨(ho.ext e35).below hg6 hB5 hB5.size,by show i+1≤_;omega,by show (r++[_]).length=_;simp [hr],ho6,by show m / 65536≤1;omega,fun h=>hget (by have h':max a.length b.length<i+1:=h;omega),?_⟩,?_⟩
   ·show valH (r++[m % 65536])+65536 ^ (i+1)*(m / 65536)=valH (a.take (i+1))+valH (b.take (i+1))
    rw [AE6,J4,J4,hr]
    have hdm:=Nat.div_add_mod m 65536
    generalize m / 65536=q at *
    generalize m % 65536=z at *
    have:65536 ^ i*z+65536 ^ (i+1)*q=65536 ^ i*(a.getD i 0+b.getD i 0+c):=by
     rw [hm,←hdm,Nat.pow_succ];grind
    rw [Nat.mul_add,Nat.mul_add] at this
    omega
   ·show 2*(max a.length b.length-(i+1))+m / 65536<2*(max a.length b.length-i)+c
    rcases Nat.lt_or_ge i (max a.length b.length) with h | h
    ·omega
    ·have:=hget h;omega
end Go.Proofs.YteghbhdniimjbaaGreat

namespace Go.Kx
theorem AI1 (l:List Nat) (i:Nat):valH l=valH (l.take i)+65536 ^ i*valH (l.drop i):=by
 rcases Nat.lt_or_ge i l.length with h | h
 ·have:valH l=valH (l.take i++l.drop i):=by rw [List.take_append_drop]
  rw [this,AC3,List.length_take,Nat.min_eq_left (by omega)]
 ·rw [List.take_of_length_le h,List.drop_eq_nil_of_le h];simp [valH]
theorem AW4 (l:List Nat) (i:Nat):valH (l.drop i)=l.getD i 0+65536*valH (l.drop (i+1)):=by
 rcases Nat.lt_or_ge i l.length with h | h
 ·exact Z0 h
 ·rw [List.drop_eq_nil_of_le h,List.drop_eq_nil_of_le (by omega),List.getD_eq_getElem?_getD,List.getElem?_eq_none h];rfl
theorem BA4 {l:List Nat} (h:digH l) (i:Nat):digH (l.take i):=fun x hx=>h x (List.mem_of_mem_take hx)
theorem AJ7 {l:List Nat} (h:digH l) (i:Nat):valH (l.take i)<65536 ^ i:=by
 have h1:=AA1 (BA4 h i)
 refine Nat.lt_of_lt_of_le h1 (Nat.pow_le_pow_right (by omega) ?_)
 simp;omega
end Go.Kx
namespace Go.Proofs.YteghbhdniimjbaaGreat
open Go Go.Kx Go.RowKit
theorem AH2:Ent Tryz.prog 246:=A0 Tryz.func246 (by kernel_rfl) rfl
theorem AG4 {S:Nat→Prop} {w:World} {vb:Value} {b:List Nat} {n:Nat} (up:Up S w) (hb:eHs.R S w vb b) (hlb:b.length≤100000000000) (hn:n≤65536):CR Tryz.prog 246 #[vb,.int .i64 n] w (eHs.at S (hds (valH b*n))):=by
 have hdb:=T7 hb
 have hB0:∀ {W:World},Below w.heap.size w W→eHs.R (fun k=>S k∧k<w.heap.size) W vb b:=fun hB=>eHs.keep (fun k c t f hk h=>(hB.block k hk.2).trans h) (ER.lt eHs hb)
 refine enter Tryz.func246 rfl Tryz.ntmps246 rfl ?_
 refine .seq (.region (.asg rfl rfl (.nil (.seq (.region (.asg rfl rfl (.nil (.seq (.region (.asg rfl rfl (.nil (.seq (.seq (.region (.asg rfl rfl (.nil ?_))))))))))))))))
 refine .block (.loop (α:=Nat×Value×List Nat×Nat) (fun x=>[(0,vb),(1,.int .i64 (n:Nat)),(5,x.2.1),(6,.int .i64 (x.2.2.2:Nat)),(7,.int .i64 (x.1:Nat))])
  (fun x W=>Below w.heap.size w W∧x.1≤b.length+2∧x.2.2.1.length=x.1∧OwnH 3 w.heap.size W x.2.1 x.2.2.1∧x.2.2.2≤65536∧(b.length<x.1→x.2.2.2≤1)∧(b.length+1<x.1→x.2.2.2=0)∧valH x.2.2.1+65536 ^ x.1*x.2.2.2=valH (b.take x.1)*n)
  (fun x=>100000*(b.length-x.1)+x.2.2.2) (0,.slice none 0 0,[],0) ?_ ?_ ?_)
 ·exact lkA rfl
 ·exact ⟨Below.refl _ _,Nat.zero_le _,rfl,OwnH.nil,Nat.zero_le _,fun _=>Nat.zero_le _,fun _=>rfl,by simp [valH]⟩
 ·rintro ⟨i,u,r,c⟩ W ⟨hB,hi,hr,ho,hc,hc1,hc0,hv⟩
  replace hB:Below w.heap.size w W:=hB
  replace hi:i≤b.length+2:=hi
  replace hr:r.length=i:=hr
  replace ho:OwnH 3 w.heap.size W u r:=ho
  replace hc:c≤65536:=hc
  replace hc1:b.length<i→c≤1:=hc1
  replace hc0:b.length+1<i→c=0:=hc0
  replace hv:valH r+65536 ^ i*c=valH (b.take i)*n:=hv
  have hxb:=M4 hdb i
  refine .mid (α:=Unit) (fun _=>[(0,vb),(1,.int .i64 (n:Nat)),(5,u),(6,.int .i64 (c:Nat)),(7,.int .i64 (i:Nat))]) (fun _ W'=>W'=W∧(i<b.length∨0<c)) ?_ ?_
  ·refine .seq (.region (.mv rfl rfl (.mv rfl rfl (.lenR un_H rfl rfl (hB0 hB) ?_))))
   by_cases h1:i<b.length
   ·refine .lssT rfl rfl rfl (by omega) (.mv rfl rfl (.gs rfl rfl rfl rfl rfl (.gs rfl rfl rfl rfl rfl (.pick rfl rfl rfl (.nil (.condT rfl (.skip ?_)))))))
    exact ⟨rfl,(),lkA rfl,rfl,.inl h1⟩
   ·refine .lssF rfl rfl rfl (by omega) (.mv rfl rfl (.gr rfl rfl rfl rfl (.mv rfl rfl (.gr rfl rfl rfl rfl ?_))))
    by_cases h3:0<c
    ·refine .gtrT rfl rfl rfl (show (0:Int)<((c:Nat):Int) by omega) (.pick rfl rfl rfl (.nil (.condT rfl (.skip ?_))))
     exact ⟨rfl,(),lkA rfl,rfl,.inr h3⟩
    ·refine .gtrF rfl rfl rfl (show ¬ (0:Int)<((c:Nat):Int) by omega) (.pick rfl rfl rfl (.nil (.condF rfl (.exit (.seq (.region (.mv rfl rfl ?_)))))))
     refine .call _ rfl F1 rfl (E9 (ho.toR up)) fun v2 W2 e2 h2=>.asg rfl rfl (.nil (.ret ?_))
     refine .plain [_] Tryz.results246 ⟨rfl,trivial⟩ ⟨hB.trans (e2.mono hB.size),?_⟩
     have h0:c=0:=by omega
     rw [h0,Nat.mul_zero,Nat.add_zero,P7 (by omega)] at hv
     rw [←hv,←trimH ho.2];exact h2
  ·rintro _ W' ⟨rfl,hgo⟩
   refine .seq (.block (.seq (.region (.mv rfl rfl (.mv rfl rfl ?_)))))
   refine .call _ rfl G5 rfl (G4 (hB0 hB)) fun v3 W3 e3 h3=>?_
   subst h3
   refine .mv rfl rfl (.mul rfl rfl rfl (.mv rfl rfl (.add rfl rfl rfl (.asg rfl rfl (.nil ?_)))))
   have hmul:b.getD i 0*n≤65535*65536:=Nat.mul_le_mul (by omega) hn
   rw [←Int.natCast_mul,wI (n:=((b.getD i 0*n:Nat):Int)) (by omega),←Int.natCast_add,wI (by omega)]
   generalize hm:b.getD i 0*n+c=m at *
   refine .seq (.region (.mv rfl rfl (.mv rfl rfl (.rem rfl rfl rfl (by decide) ?_))))
   rw [tmod16]
   refine .bsl _ rfl rfl AP4 fun W5 b5 n5=>?_
   obtain ⟨e5,k5,hb5,hs5⟩:=n5
   have e35:=e3.trans e5
   have hB5:Below w.heap.size w W5:=hB.trans (e35.mono hB.size)
   refine .gv rfl rfl (Ar1 (base:=w.heap.size) un_H Z3 rfl rfl (ho.ext e35) k5 (by omega) (by omega) hB5.size) ?_
   rintro v6 W6 ⟨ho6,hg6⟩
   refine .asg rfl rfl (.nil (.region (.mv rfl rfl (.quo rfl rfl rfl (by decide) (.asg rfl rfl (.nil ?_))))))
   rw [tdiv16,wI (by omega)]
   refine .region (.mv rfl rfl (.add rfl rfl rfl (.asg rfl rfl (.nil ?_))))
   rw [wI (by omega)]
   have hget:b.length≤i→m=c:=by
    intro h
    have h2:b.getD i 0=0:=Q6 h
    rw [h2] at hm;omega
   refine ⟨rfl,(i+1,v6,_,m / 65536),lkA rfl,⟨(ho.ext e35).below hg6 hB5 hB5.size,?_,by show (r++[_]).length=_;simp [hr],ho6,by show m / 65536≤65536;omega,?_,?_,?_⟩,?_⟩
   ·show i+1≤b.length+2
    rcases hgo with h | h
    ·omega
    ·by_cases hh:b.length+1<i
     ·have:=hc0 hh;omega
     ·omega
   ·intro h
    have h':b.length<i+1:=h
    have:=hget (by omega)
    show m / 65536≤1
    omega
   ·intro h
    have h':b.length+1<i+1:=h
    have h1:=hget (by omega)
    have h2:=hc1 (by omega)
    show m / 65536=0
    omega
   ·show valH (r++[m % 65536])+65536 ^ (i+1)*(m / 65536)=valH (b.take (i+1))*n
    rw [AE6,J4,hr,Nat.add_mul,←hv]
    have hdm:=Nat.div_add_mod m 65536
    generalize m / 65536=q at *
    generalize m % 65536=z at *
    have:65536 ^ i*z+65536 ^ (i+1)*q=65536 ^ i*(b.getD i 0*n+c):=by
     rw [hm,←hdm,Nat.pow_succ];grind
    rw [Nat.mul_add,←Nat.mul_assoc] at this
    omega
   ·show 100000*(b.length-(i+1))+m / 65536<100000*(b.length-i)+c
    rcases Nat.lt_or_ge i b.length with h | h
    ·omega
    ·have:=hget h;omega
theorem AS8:Ent Tryz.prog 230:=A0 Tryz.func230 (by kernel_rfl) rfl
theorem AR0 {S:Nat→Prop} {w:World} {va vb:Value} {a b:List Nat} (up:Up S w) (ha:eHs.R S w va a) (hb:eHs.R S w vb b) (hla:a.length≤100000000000) (hab:valH b≤valH a):CR Tryz.prog 230 #[va,vb] w (eHs.at S (hds (valH a-valH b))):=by
 have hda:=T7 ha
 have hdb:=T7 hb
 have hA:∀ {W:World},Below w.heap.size w W→eHs.R (fun k=>S k∧k<w.heap.size) W va a:=fun hB=>eHs.keep (fun k c t f hk h=>(hB.block k hk.2).trans h) (ER.lt eHs ha)
 have hBb:∀ {W:World},Below w.heap.size w W→eHs.R (fun k=>S k∧k<w.heap.size) W vb b:=fun hB=>eHs.keep (fun k c t f hk h=>(hB.block k hk.2).trans h) (ER.lt eHs hb)
 refine enter Tryz.func230 rfl Tryz.ntmps230 rfl ?_
 refine .seq (.region (.asg rfl rfl (.nil (.seq (.region (.asg rfl rfl (.nil (.seq (.region (.asg rfl rfl (.nil (.seq (.seq (.region (.asg rfl rfl (.nil ?_))))))))))))))))
 refine .block (.loop (α:=Nat×Value×List Nat×Nat) (fun x=>[(0,va),(1,vb),(5,x.2.1),(6,.int .i64 (x.2.2.2:Nat)),(7,.int .i64 (x.1:Nat))])
  (fun x W=>Below w.heap.size w W∧x.1≤a.length∧x.2.2.1.length=x.1∧OwnH 3 w.heap.size W x.2.1 x.2.2.1∧x.2.2.2≤1∧valH x.2.2.1+valH (b.take x.1)=valH (a.take x.1)+65536 ^ x.1*x.2.2.2)
  (fun x=>a.length-x.1) (0,.slice none 0 0,[],0) ?_ ?_ ?_)
 ·exact lkA rfl
 ·exact ⟨Below.refl _ _,Nat.zero_le _,rfl,OwnH.nil,Nat.zero_le _,by simp [valH]⟩
 ·rintro ⟨i,u,r,c⟩ W ⟨hB,hi,hr,ho,hc,hv⟩
  replace hB:Below w.heap.size w W:=hB
  replace hi:i≤a.length:=hi
  replace hr:r.length=i:=hr
  replace ho:OwnH 3 w.heap.size W u r:=ho
  replace hc:c≤1:=hc
  replace hv:valH r+valH (b.take i)=valH (a.take i)+65536 ^ i*c:=hv
  have hxa:=M4 hda i
  have hxb:=M4 hdb i
  refine .weak [(0,va),(1,vb),(5,u),(6,.int .i64 (c:Nat)),(7,.int .i64 (i:Nat))] (fun t v h=>h) ?_
  refine .seq (.seq (.region (.mv rfl rfl (.mv rfl rfl (.lenR un_H rfl rfl (hA hB) ?_)))))
  by_cases hlt:i<a.length
  ·refine .lssT rfl rfl rfl (by omega) (.nil (.condT rfl (.skip (.seq (.block (.seq (.region (.mv rfl rfl (.mv rfl rfl ?_)))))))))
   refine .call _ rfl G5 rfl (G4 (hA hB)) fun v3 W3 e3 h3=>.mv rfl rfl (.mv rfl rfl ?_)
   subst h3
   have hB3:Below w.heap.size w W3:=hB.trans (e3.mono hB.size)
   refine .call _ rfl G5 rfl (G4 (hBb hB3)) fun v4 W4 e4 h4=>?_
   subst h4
   refine .sub rfl rfl rfl (.mv rfl rfl (.sub rfl rfl rfl (.asg rfl rfl (.nil ?_))))
   rw [wI (n:=((a.getD i 0:Nat):Int)-((b.getD i 0:Nat):Int)) (by omega),wI (by omega)]
   have e34:=e3.trans e4
   refine .seq (.region (.asg rfl rfl (.nil ?_)))
   generalize hx:a.getD i 0=x at *
   generalize hy:b.getD i 0=y at *
   refine .mid (α:=Nat×Nat) (fun p=>[(0,va),(1,vb),(5,u),(6,.int .i64 (p.2:Nat)),(7,.int .i64 (i:Nat)),(8,.int .i64 (p.1:Nat))]) (fun p W'=>W'=W4∧p.1<65536∧p.2≤1∧p.1+y+c=x+65536*p.2) ?_ ?_
   ·refine .seq (.region (.mv rfl rfl ?_))
    by_cases h0:(x:Int)-(y:Int)-(c:Int)<0
    ·refine .lssT rfl rfl rfl h0 (.nil (.condT rfl (.seq (.region (.mv rfl rfl (.add rfl rfl rfl (.asg rfl rfl (.nil (.region (.asg rfl rfl (.nil ?_)))))))))))
     rw [wI (by omega),show (x:Int)-(y:Int)-(c:Int)+65536=((x+65536-y-c:Nat):Int) by omega]
     exact ⟨rfl,(x+65536-y-c,1),lkA rfl,rfl,by show x+65536-y-c<65536;omega,Nat.le_refl _,by show x+65536-y-c+y+c=x+65536*1;omega⟩
    ·refine .lssF rfl rfl rfl h0 (.nil (.condF rfl (.skip ?_)))
     rw [show (x:Int)-(y:Int)-(c:Int)=((x-y-c:Nat):Int) by omega]
     exact ⟨rfl,(x-y-c,0),lkA rfl,rfl,by show x-y-c<65536;omega,Nat.zero_le _,by show x-y-c+y+c=x+65536*0;omega⟩
   ·rintro ⟨z,l⟩ W' ⟨rfl,hz,hl,hzl⟩
    replace hz:z<65536:=hz
    replace hl:l≤1:=hl
    replace hzl:z+y+c=x+65536*l:=hzl
    refine .region (.mv rfl rfl (.mv rfl rfl (.bsl _ rfl rfl AP4 fun W5 b5 n5=>?_)))
    obtain ⟨e5,k5,hb5,hs5⟩:=n5
    have e35:=e34.trans e5
    have hB5:Below w.heap.size w W5:=hB.trans (e35.mono hB.size)
    refine .gv rfl rfl (Ar1 (base:=w.heap.size) un_H Z3 rfl rfl (ho.ext e35) k5 hz (by omega) hB5.size) ?_
    rintro v6 W6 ⟨ho6,hg6⟩
    refine .asg rfl rfl (.nil (.region (.mv rfl rfl (.add rfl rfl rfl (.asg rfl rfl (.nil ?_))))))
    rw [wI (by omega)]
    refine ⟨rfl,(i+1,v6,_,l),lkA rfl,⟨(ho.ext e35).below hg6 hB5 hB5.size,hlt,by show (r++[_]).length=_;simp [hr],ho6,hl,?_⟩,by show a.length-(i+1)<a.length-i;omega⟩
    show valH (r++[z])+valH (b.take (i+1))=valH (a.take (i+1))+65536 ^ (i+1)*l
    rw [AE6,J4,J4,hr,hx,hy,Nat.pow_succ]
    have:65536 ^ i*(z+y+c)=65536 ^ i*(x+65536*l):=by rw [hzl]
    rw [Nat.mul_add,Nat.mul_add,Nat.mul_add,←Nat.mul_assoc] at this
    omega
  ·refine .lssF rfl rfl rfl (by omega) (.nil (.condF rfl (.exit (.seq (.region (.mv rfl rfl ?_))))))
   refine .call _ rfl F1 rfl (E9 (ho.toR up)) fun v2 W2 e2 h2=>.asg rfl rfl (.nil (.ret ?_))
   refine .plain [_] Tryz.results230 ⟨rfl,trivial⟩ ⟨hB.trans (e2.mono hB.size),?_⟩
   have hie:i=a.length:=by omega
   subst hie
   rw [P7 (l:=a) (Nat.le_refl _)] at hv
   have h1:=AA1 hda
   have h2':=AA1 ho.2
   rw [hr] at h2'
   have h3:=AI1 b a.length
   have hp:0<65536 ^ a.length:=Nat.pow_pos (by omega)
   have h4:valH (b.drop a.length)=0:=by
    rcases Nat.eq_zero_or_pos (valH (b.drop a.length)) with h | h
    ·exact h
    ·have:65536 ^ a.length*1≤65536 ^ a.length*valH (b.drop a.length):=Nat.mul_le_mul_left _ h
     omega
   rw [h4,Nat.mul_zero,Nat.add_zero] at h3
   have h5:c=0:=by
    rcases Nat.eq_zero_or_pos c with h | h
    ·exact h
    ·have:c=1:=by omega
     rw [this,Nat.mul_one] at hv
     omega
   rw [h5,Nat.mul_zero,Nat.add_zero,←h3] at hv
   rw [show valH a-valH b=valH r by omega,←trimH ho.2];exact h2
theorem AT0:Ent Tryz.prog 231:=A0 Tryz.func231 (by kernel_rfl) rfl
theorem AR2 {S:Nat→Prop} {w:World} {va vb:Value} {a b:List Nat} (ha:eHs.R S w va a) (hb:eHs.R S w vb b) (hla:a.length≤100000000000) (hlb:b.length≤100000000000):CR Tryz.prog 231 #[va,vb] w (Is (.int .i64 (cmpN (valH a) (valH b)))):=by
 have hda:=T7 ha
 have hdb:=T7 hb
 refine enter Tryz.func231 rfl Tryz.ntmps231 rfl ?_
 refine .seq (.region (.asg rfl rfl (.nil (.seq (.seq (.region (.mv rfl rfl (.lenR un_H rfl rfl ha (.mv rfl rfl (.lenR un_H rfl rfl hb (.max_ rfl rfl rfl (.sub rfl rfl rfl (.asg rfl rfl (.nil ?_))))))))))))))
 rw [wI (by omega),show max (a.length:Int) (b.length:Int)-1=((max a.length b.length:Nat):Int)-1 by omega]
 refine .block (.loop (α:=Nat) (fun j=>[(0,va),(1,vb),(5,.int .i64 ((j:Nat)-1:Int))]) (fun j W=>Ext w W∧j≤max a.length b.length∧valH (a.drop j)=valH (b.drop j)) (fun j=>j) (max a.length b.length) ?_ ?_ ?_)
 ·exact lkA rfl
 ·exact ⟨.refl _,Nat.le_refl _,by rw [List.drop_eq_nil_of_le (by omega),List.drop_eq_nil_of_le (by omega)]⟩
 ·rintro j W ⟨hW,hj,heq⟩
  refine .seq (.seq (.region (.mv rfl rfl ?_)))
  cases j with
  | zero =>
   refine .geqF rfl rfl rfl (by simp) (.nil (.condF rfl (.exit (.seq (.region (.asg rfl rfl (.nil (.ret ?_))))))))
   refine .plain [_] Tryz.results231 ⟨rfl,trivial⟩ ⟨hW,isI ?_⟩
   simp at heq
   unfold cmpN;rw [heq];simp
  | succ i =>
   rw [show (((i+1:Nat):Int)-1)=(i:Int) by omega]
   have ea:=AI1 a i
   have eb:=AI1 b i
   have da:=AW4 a i
   have db:=AW4 b i
   have ta:=AJ7 hda i
   have tb:=AJ7 hdb i
   have hp:0<65536 ^ i:=Nat.pow_pos (by omega)
   refine .geqT rfl rfl rfl (by omega) (.nil (.condT rfl (.skip (.seq (.block (.seq (.seq (.region (.mv rfl rfl (.mv rfl rfl ?_))))))))))
   refine .call _ rfl G5 rfl (G4 (ha.ext hW)) fun v3 W3 e3 h3=>.mv rfl rfl (.mv rfl rfl ?_)
   subst h3
   have hW3:=hW.trans e3
   refine .call _ rfl G5 rfl (G4 (hb.ext hW3)) fun v4 W4 e4 h4=>?_
   subst h4
   have hW4:=hW3.trans e4
   by_cases h1:a.getD i 0<b.getD i 0
   ·refine .lssT rfl rfl rfl (by omega) (.nil (.condT rfl (.seq (.region (.asg rfl rfl (.nil (.ret ?_)))))))
    refine .plain [_] Tryz.results231 ⟨rfl,trivial⟩ ⟨hW4,isI ?_⟩
    have hlt:valH (a.drop i)+1≤valH (b.drop i):=by omega
    have hm:65536 ^ i*(valH (a.drop i)+1)≤65536 ^ i*valH (b.drop i):=Nat.mul_le_mul_left _ hlt
    rw [Nat.mul_add,Nat.mul_one] at hm
    unfold cmpN;rw [if_pos (by omega)]
   ·refine .lssF rfl rfl rfl (by omega) (.nil (.condF rfl (.skip (.seq (.region (.mv rfl rfl (.mv rfl rfl ?_)))))))
    refine .call _ rfl G5 rfl (G4 (ha.ext hW4)) fun v5 W5 e5 h5=>.mv rfl rfl (.mv rfl rfl ?_)
    subst h5
    have hW5:=hW4.trans e5
    refine .call _ rfl G5 rfl (G4 (hb.ext hW5)) fun v6 W6 e6 h6=>?_
    subst h6
    have hW6:=hW5.trans e6
    by_cases h2:b.getD i 0<a.getD i 0
    ·refine .gtrT rfl rfl rfl (by omega) (.nil (.condT rfl (.seq (.region (.asg rfl rfl (.nil (.ret ?_)))))))
     refine .plain [_] Tryz.results231 ⟨rfl,trivial⟩ ⟨hW6,isI ?_⟩
     have hlt:valH (b.drop i)+1≤valH (a.drop i):=by omega
     have hm:65536 ^ i*(valH (b.drop i)+1)≤65536 ^ i*valH (a.drop i):=Nat.mul_le_mul_left _ hlt
     rw [Nat.mul_add,Nat.mul_one] at hm
     unfold cmpN;rw [if_neg (by omega),if_pos (by omega)]
    ·refine .gtrF rfl rfl rfl (by omega) (.nil (.condF rfl (.skip (.region (.mv rfl rfl (.sub rfl rfl rfl (.asg rfl rfl (.nil ?_))))))))
     rw [wI (by omega)]
     exact ⟨rfl,i,lkA rfl,⟨hW6,by omega,by omega⟩,by show i<i+1;omega⟩
theorem Q0:Ent Tryz.prog 245:=A0 Tryz.func245 (by kernel_rfl) rfl
theorem P8 {S:Nat→Prop} {w:World} {va:Value} {a:List Nat} (ha:eHs.R S w va a) (hla:a.length≤3):CR Tryz.prog 245 #[va] w (Is (.int .i64 (valH a))):=by
 have hda:=T7 ha
 refine enter Tryz.func245 rfl Tryz.ntmps245 rfl ?_
 refine .seq (.region (.asg rfl rfl (.nil (.seq (.region (.asg rfl rfl (.nil (.seq (.seq (.region (.mv rfl rfl (.lenR un_H rfl rfl ha (.sub rfl rfl rfl (.asg rfl rfl (.nil ?_)))))))))))))))
 rw [wI (by omega)]
 refine .block (.loop (α:=Nat) (fun j=>[(0,va),(3,.int .i64 (valH (a.drop j):Nat)),(4,.int .i64 ((j:Nat)-1:Int))]) (fun j W=>W=w∧j≤a.length) (fun j=>j) a.length ?_ ?_ ?_)
 ·refine A5 rfl (A5 ?_ (lkA rfl))
  rw [List.drop_eq_nil_of_le (Nat.le_refl _)];rfl
 ·exact ⟨rfl,Nat.le_refl _⟩
 ·rintro j W ⟨rfl,hj⟩
  refine .seq (.seq (.region (.mv rfl rfl ?_)))
  cases j with
  | zero =>
   refine .geqF rfl rfl rfl (by simp) (.nil (.condF rfl (.exit (.seq (.region (.mv rfl rfl (.asg rfl rfl (.nil (.ret ?_)))))))))
   exact .plain [_] Tryz.results245 ⟨rfl,trivial⟩ ⟨.refl _,rfl⟩
  | succ i =>
   rw [show (((i+1:Nat):Int)-1)=(i:Int) by omega]
   have hx:=M4 hda i
   have hlt:=AA1 (show digH (a.drop (i+1)) from fun x hx=>hda x (List.mem_of_mem_drop hx))
   have hlen:(a.drop (i+1)).length≤2:=by simp;omega
   have hpw:65536 ^ (a.drop (i+1)).length≤65536 ^ 2:=Nat.pow_le_pow_right (by omega) hlen
   have hd:=Z0 (l:=a) (k:=i) (by omega)
   refine .geqT rfl rfl rfl (by omega) (.nil (.condT rfl (.skip (.seq (.block (.region (.mv rfl rfl (.mul rfl rfl rfl (.mv rfl rfl (.mv rfl rfl ?_))))))))))
   refine .ixN (i:=i) un_H A7 rfl rfl ha rfl (B7 (by omega)) fun p hp=>.ldE A7 rfl rfl hp fun e he=>?_
   obtain ⟨rfl,_⟩:=he
   refine .add rfl rfl rfl (.asg rfl rfl (.nil (.region (.mv rfl rfl (.sub rfl rfl rfl (.asg rfl rfl (.nil ?_)))))))
   rw [wI (n:=((valH (a.drop (i+1)):Nat):Int)*65536) (by omega),wI (n:=((valH (a.drop (i+1)):Nat):Int)*65536+_) (by omega),wI (n:=(i:Int)-1) (by omega)]
   refine ⟨rfl,i,A5 rfl (A5 ?_ (lkA rfl)),⟨rfl,by omega⟩,by show i<i+1;omega⟩
   show some (Value.int .i64 (((valH (a.drop (i+1)):Nat):Int)*65536+((a.getD i 0:Nat):Int)))=_
   rw [hd]
   congr 2;omega
end Go.Proofs.YteghbhdniimjbaaGreat

namespace Go.Kx
end Go.Kx
namespace Go.Proofs.YteghbhdniimjbaaGreat
open Go Go.Kx Go.RowKit
theorem AM9:Ent Tryz.prog 244:=A0 Tryz.func244 (by kernel_rfl) rfl
theorem AK9 {S:Nat→Prop} {w:World} {v:Nat} (up:Up S w) (hv:v<281474976710656):CR Tryz.prog 244 #[.int .i64 v] w (eHs.at S (hds v)):=by
 refine enter Tryz.func244 rfl Tryz.ntmps244 rfl ?_
 refine .seq (.region (.asg rfl rfl (.nil (.seq (.region (.mv rfl rfl (.rem rfl rfl rfl (by decide) (.mv rfl rfl (.quo rfl rfl rfl (by decide) ?_)))))))))
 rw [tmod16,tdiv16,wI (by omega)]
 refine .rem rfl rfl rfl (by decide) (.mv rfl rfl (.quo rfl rfl rfl (by decide) ?_))
 rw [tmod16,tdiv16,wI (by omega)]
 refine .quo rfl rfl rfl (by decide) ?_
 rw [tdiv16,wI (by omega)]
 refine .bsl _ rfl rfl bsl_H3 fun w1 b1 n1=>?_
 have hd:digH [v % 65536,v / 65536 % 65536,v / 65536 / 65536]:=by
  intro x hx
  simp at hx
  omega
 have ho:OwnH 3 w.heap.size w1 (.slice (some ⟨b1,0,none⟩) 3 3) [v % 65536,v / 65536 % 65536,v / 65536 / 65536]:=OwnH.lit (l:=[v % 65536,v / 65536 % 65536,v / 65536 / 65536]) n1 (Nat.le_refl _) hd (by simp)
 have hval:valH [v % 65536,v / 65536 % 65536,v / 65536 / 65536]=v:=by simp only [valH];omega
 refine .call _ rfl F1 rfl (E9 (ho.toR up)) fun v2 w2 e2 h2=>.asg rfl rfl (.nil (.ret ?_))
 rw [trimH hd,hval] at h2
 exact .plain [_] Tryz.results244 ⟨rfl,trivial⟩ ⟨n1.1.trans e2,h2⟩
end Go.Proofs.YteghbhdniimjbaaGreat

namespace Go.Kx
theorem hds_ge {n:Nat} (h:n≠0):65536 ^ ((hds n).length-1)≤n:=by
 induction n using Nat.strongRecOn with
 | ind n ih =>
  rw [AF4 h,List.length_cons,Nat.add_sub_cancel]
  by_cases h1:n / 65536=0
  ·rw [h1,J8];simp;omega
  ·have:=ih (n / 65536) (by omega) h1
   have hl:(hds (n / 65536)).length≠0:=fun e=>h1 (P1.1 (List.length_eq_zero_iff.1 e))
   obtain ⟨m,hm⟩:∃ m,(hds (n / 65536)).length=m+1:=⟨_,(Nat.succ_pred_eq_of_ne_zero hl).symm⟩
   rw [hm] at this ⊢
   rw [Nat.add_sub_cancel] at this
   rw [Nat.pow_succ]
   have:=Nat.mul_le_mul_right 65536 this
   omega
theorem AG3 {l:List Nat} {i q:Nat} (h:i<l.length):valH ((l.set i q).drop i)=q+65536*valH (l.drop (i+1)):=by
 rw [Z0 (by simpa using h)]
 have h1:(l.set i q).getD i 0=q:=by rw [List.getD_eq_getElem?_getD,List.getElem?_set_self h];rfl
 have h2:(l.set i q).drop (i+1)=l.drop (i+1):=by rw [List.drop_set];simp
 rw [h1,h2]
/-- one step of a long division -/
theorem Al9 {D d x R Q:Nat} (hd:0<d) (hQ:Q=D / d) (hR:R=D % d):(x+65536*D) / d=(x+65536*R) / d+65536*Q∧(x+65536*D) % d=(x+65536*R) % d:=by
 have h1:=Nat.div_add_mod D d
 rw [←hQ,←hR] at h1
 have h2:x+65536*D=(x+65536*R)+d*(65536*Q):=by
  rw [←h1,Nat.mul_add]
  have:65536*(d*Q)=d*(65536*Q):=by rw [←Nat.mul_assoc,Nat.mul_comm 65536 d,Nat.mul_assoc]
  omega
 rw [h2,Nat.add_mul_div_left _ _ hd,Nat.add_mul_mod_self_left]
 exact ⟨rfl,rfl⟩
end Go.Kx
namespace Go.Proofs.YteghbhdniimjbaaGreat
open Go Go.Kx Go.RowKit
theorem v_ixA {P:Program} {σ:Env} {w:World} {dd:Option Tmp} {ty:TypeId} {pos:String} {af:Array Edge} {gd:Option (Nat×Bool)} {t e:TypeId} {x ix:Operand} {k:IntKind} {i:Nat} {b:Bool} {sz n c:Nat} {ad:Addr} (ht:P.underlying t=some (.slice e)) (he:tyOf P e=some (b,sz)) (hx:ev σ x=some (.slice (some ad) n c))
  (hi:ev σ ix=some (.int k (i:Int))) (hlt:i<n):Vl P ⟨dd,.indexAddr t x ix,ty,pos,af,gd⟩ σ w (.pointer (some (ad.add (i*sz)))):=by
 refine ⟨(by intro _ h;cases h),fun ρ hρ=>?_⟩
 have h1:=hρ x _ (by simp [Op.operands]) hx
 have h2:=hρ ix _ (by simp [Op.operands]) hi
 simp [execOp,h1,h2,Instr.indexAt,asIntOf,run_underlying ht,(F4 he w).2]
 intro hh;omega
theorem zero_H {S:Nat→Prop} {w:World}:eH.R S w (.int .i64 0) 0:=⟨rfl,by decide⟩
theorem Ax3 {S:Nat→Prop} {w:World} {t:TypeId} {g:Nat} {l:List Nat} (h:FB eH t S w g l):digH l:=by
 intro x hx
 obtain ⟨es,_,he⟩:=h
 obtain ⟨i,hi⟩:=List.mem_iff_getElem?.1 hx
 have hlt:i<l.length:=(List.getElem?_eq_some_iff.1 hi).1
 exact (he.2 i _ x (List.getElem?_eq_getElem (by rw [he.1];exact hlt)) hi).2
theorem AS9:Ent Tryz.prog 227:=A0 Tryz.func227 (by kernel_rfl) rfl
theorem AR1 {S:Nat→Prop} {w:World} {va vb:Value} {m d:Nat} (up:Up S w) (ha:eHs.R S w va (hds m)) (hb:eHs.R S w vb (hds d)) (hla:(hds m).length≤10000000000) (hlb:(hds d).length≤10000000000) (hd:d≠0) :
  CR Tryz.prog 227 #[va,vb] w (Two (eHs.at S (hds (m / d))) (eHs.at S (hds (m % d)))):=by
 have hda:=AY7 m
 have hdb:=AY7 d
 have hva:=D5 m
 have hvb:=D5 d
 have hbne:(hds d).length≠0:=fun e=>hd (P1.1 (List.length_eq_zero_iff.1 e))
 have hbge:=hds_ge hd
 have hblt:=AX5 d
 generalize hds m=a at *
 generalize hds d=b at *
 have hA:∀ {W:World},Below w.heap.size w W→eHs.R (fun k=>S k∧k<w.heap.size) W va a:=fun hB=>eHs.keep (fun k c t f hk h=>(hB.block k hk.2).trans h) (ER.lt eHs ha)
 have hBb:∀ {W:World},Below w.heap.size w W→eHs.R (fun k=>S k∧k<w.heap.size) W vb b:=fun hB=>eHs.keep (fun k c t f hk h=>(hB.block k hk.2).trans h) (ER.lt eHs hb)
 refine enter Tryz.func227 rfl Tryz.ntmps227 rfl ?_
 refine .seq (.region (.asg rfl rfl (.asg rfl rfl (.nil ?_))))
 refine .mid (α:=Unit) (fun _=>[(0,va),(1,vb)]) (fun _ W=>W=w∧(3<a.length∨3<b.length)) ?_ ?_
 ·refine .seq (.region (.mv rfl rfl (.lenR un_H rfl rfl ha ?_)))
  by_cases h1:a.length≤3
  ·refine .leqT rfl rfl rfl (by omega) (.mv rfl rfl (.gr rfl rfl rfl rfl (.mv rfl rfl (.gr rfl rfl rfl rfl (.lenR un_H rfl rfl hb (.gr rfl rfl rfl rfl ?_))))))
   by_cases h2:b.length≤3
   ·refine .leqT rfl rfl rfl (by omega) (.pick rfl rfl rfl (.nil (.condT rfl (.seq (.region (.mv rfl rfl ?_))))))
    refine .call _ rfl Q0 rfl (P8 ha h1) fun v1 w1 e1 r1=>.mv rfl rfl ?_
    subst r1
    refine .call _ rfl Q0 rfl (P8 (hb.ext e1) h2) fun v2 w2 e2 r2=>?_
    subst r2
    rw [hva,hvb]
    have x2:=e1.trans e2
    have hm3:m<281474976710656:=by
     have:=AA1 hda
     have hp:65536 ^ a.length≤65536 ^ 3:=Nat.pow_le_pow_right (by omega) h1
     omega
    have hdle:m / d≤m:=Nat.div_le_self _ _
    have hmlt:m % d≤m:=Nat.mod_le _ _
    refine .quo rfl rfl rfl (by omega) ?_
    rw [N0,wI (by have h0:(0:Int)≤((m / d:Nat):Int):=Int.natCast_nonneg _;omega)]
    refine .call _ rfl AM9 rfl (AK9 (up.ext x2.size) (by omega)) fun v3 w3 e3 r3=>.mv rfl rfl ?_
    have x3:=x2.trans e3
    refine .call _ rfl Q0 rfl (P8 (ha.ext x3) h1) fun v4 w4 e4 r4=>.mv rfl rfl ?_
    subst r4
    have x4:=x3.trans e4
    refine .call _ rfl Q0 rfl (P8 (hb.ext x4) h2) fun v5 w5 e5 r5=>?_
    subst r5
    rw [hva,hvb]
    have x5:=x4.trans e5
    refine .rem rfl rfl rfl (by omega) ?_
    rw [M9]
    refine .call _ rfl AM9 rfl (AK9 (up.ext x5.size) (by omega)) fun v6 w6 e6 r6=>.asg rfl rfl (.asg rfl rfl (.nil (.ret ?_)))
    exact .plain [_,_] Tryz.results227 ⟨rfl,rfl,trivial⟩ ⟨x5.trans e6,v3,v6,rfl,ER.ext eHs (ER.ext eHs (ER.ext eHs r3 e4) e5) e6,r6⟩
   ·refine .leqF rfl rfl rfl (by omega) (.pick rfl rfl rfl (.nil (.condF rfl (.skip ?_))))
    exact ⟨rfl,(),lkA rfl,rfl,by omega⟩
  ·refine .leqF rfl rfl rfl (by omega) (.mv rfl rfl (.gs rfl rfl rfl rfl rfl (.gs rfl rfl rfl rfl rfl (.gs rfl rfl rfl rfl rfl (.pick rfl rfl rfl (.nil (.condF rfl (.skip ?_))))))))
   exact ⟨rfl,(),lkA rfl,rfl,by omega⟩
 rintro _ W ⟨hWw,hbig⟩
 have hWw:=hWw.symm
 subst hWw
 refine .seq (.region (.mv rfl rfl (.lenR un_H rfl rfl ha ?_)))
 refine .make_ _ _ un_H Z3 rfl (by decide) rfl rfl rfl (Nat.le_refl _) (by omega) (by omega) fun w1 g n1=>.asg rfl rfl (.nil ?_)
 have f1:FB eH 3 S w1 g (List.replicate a.length 0):=FB.made n1 zero_H
 obtain ⟨e1,k1,hg,hs1⟩:=n1
 have hout:∀ {W2:World} {l:List Nat},FB eH 3 S W2 g l→l.length=a.length→eHs.R S W2 (.slice (some ⟨g,0,none⟩) a.length a.length) l:=by
  intro W2 l hF hl
  have:=hF.toR (c:=a.length) (hsz:=by decide) (up g (by omega)) (by omega) (by omega)
  rwa [hl] at this
 refine .seq (.seq (.region (.mv rfl rfl (.lenR un_H rfl rfl (hBb e1) ?_))))
 by_cases hb1:b.length=1
 ·refine .eqlT rfl rfl rfl (by omega) (.nil (.condT rfl (.seq (.region (.asg rfl rfl (.nil ?_))))))
  have hb0:b.getD 0 0=d:=by
   match b,hb1 with
   | [x],_=>simpa [valH] using hvb
  have hd16:d<65536:=by rw [hb1] at hblt;simpa using hblt
  have hgetb:=B7 (l:=b) (k:=0) (by omega)
  rw [hb0] at hgetb
  refine .mid (α:=List Nat×Nat) (fun p=>[(6,.slice (some ⟨g,0,none⟩) a.length a.length),(7,.int .i64 (p.2:Nat))]) (fun p W=>Below w.heap.size w W∧FB eH 3 S W g p.1∧p.1.length=a.length∧valH p.1=m / d∧p.2=m % d) ?_ ?_
  ·refine .seq (.region (.mv rfl rfl (.lenR un_H rfl rfl (hA e1) (.sub rfl rfl rfl (.asg rfl rfl (.nil ?_))))))
   rw [wI (by omega)]
   refine .block (.loop (α:=Nat×List Nat×Nat) (fun x=>[(0,va),(1,vb),(6,.slice (some ⟨g,0,none⟩) a.length a.length),(7,.int .i64 (x.2.2:Nat)),(8,.int .i64 ((x.1:Nat)-1:Int))])
    (fun x W=>Below w.heap.size w W∧x.1≤a.length∧FB eH 3 S W g x.2.1∧x.2.1.length=a.length∧valH (x.2.1.drop x.1)=valH (a.drop x.1) / d∧x.2.2=valH (a.drop x.1) % d) (fun x=>x.1) (a.length,List.replicate a.length 0,0) ?_ ?_ ?_)
   ·exact lkA rfl
   ·refine ⟨e1,Nat.le_refl _,f1,by simp,?_,?_⟩
    ·show valH ((List.replicate a.length 0).drop a.length)=_
     rw [List.drop_eq_nil_of_le (by simp),List.drop_eq_nil_of_le (Nat.le_refl _)];simp [valH]
    ·show 0=_
     rw [List.drop_eq_nil_of_le (Nat.le_refl _)];simp [valH]
   ·rintro ⟨j,l,r⟩ W ⟨hB,hj,hF,hl,hq,hr⟩
    replace hB:Below w.heap.size w W:=hB
    replace hj:j≤a.length:=hj
    replace hF:FB eH 3 S W g l:=hF
    replace hl:l.length=a.length:=hl
    replace hq:valH (l.drop j)=valH (a.drop j) / d:=hq
    replace hr:r=valH (a.drop j) % d:=hr
    refine .weak [(0,va),(1,vb),(6,.slice (some ⟨g,0,none⟩) a.length a.length),(7,.int .i64 (r:Nat)),(8,.int .i64 ((j:Nat)-1:Int))] (fun t v h=>h) ?_
    have hsz:=hB.size
    have hgl:=hF.lt
    have hrd:r<d:=by rw [hr];exact Nat.mod_lt _ (by omega)
    refine .seq (.seq (.region (.mv rfl rfl ?_)))
    cases j with
    | zero =>
     refine .geqF rfl rfl rfl (by simp) (.nil (.condF rfl (.exit ?_)))
     rw [List.drop_zero,List.drop_zero,hva] at hq
     rw [List.drop_zero,hva] at hr
     exact ⟨rfl,(l,r),lkA rfl,hB,hF,hl,hq,hr⟩
    | succ i =>
     rw [show (((i+1:Nat):Int)-1)=(i:Int) by omega]
     have hx:=M4 hda i
     have hget:=B7 (l:=a) (k:=i) (by omega)
     have hdr:=Z0 (l:=a) (k:=i) (by omega)
     have hst:=Al9 (D:=valH (a.drop (i+1))) (x:=a.getD i 0) (by omega:0<d) hq hr
     rw [←hdr] at hst
     generalize a.getD i 0=x at *
     refine .geqT rfl rfl rfl (by omega) (.nil (.condT rfl (.skip (.seq (.block (.seq (.region (.mv rfl rfl (.mul rfl rfl rfl (.mv rfl rfl (.mv rfl rfl ?_)))))))))))
     refine .ixN (i:=i) un_H A7 rfl rfl (hA hB) rfl hget fun p hp=>.ldE A7 rfl rfl hp fun e he=>?_
     obtain ⟨rfl,_⟩:=he
     refine .add rfl rfl rfl (.asg rfl rfl (.nil ?_))
     rw [wI (n:=(r:Int)*65536) (by omega),wI (by omega),show (r:Int)*65536+(x:Int)=((x+65536*r:Nat):Int) by omega]
     generalize hy:x+65536*r=y at *
     have hyq:y / d<65536:=by
      rw [Nat.div_lt_iff_lt_mul (by omega)]
      have:65536*(r+1)≤65536*d:=Nat.mul_le_mul_left _ hrd
      omega
     have hyr:y % d<d:=Nat.mod_lt _ (by omega)
     obtain ⟨ad,cb,hvbs,_,hpt⟩:=RL.at_ (hBb hB) hgetb
     obtain ⟨eb,⟨rfl,_⟩,hadS,hadc⟩:=hpt
     have hcell:W.cell? (ad.add (0*1))=some (.int .i64 (d:Nat)):=hadc 0 _ rfl
     rw [G1] at hadS
     have hkeep:∀ {W':World},W'.heap[ad.block]?=W.heap[ad.block]?→W'.cell? (ad.add (0*1))=some (.int .i64 (d:Nat)):=fun h=>(AP3 (p:=ad.add (0*1)) (by rw [G1];exact h)).trans hcell
     refine .held follows false (fun W'=>W'.cell? (ad.add (0*1))=some (.int .i64 (d:Nat))) [some _,some _,some _,some vb,some (.pointer (some (ad.add (0*1)))),some (.int .i64 (d:Nat)),some (.int .i64 ((y / d:Nat):Int)),some _,some vb,some (.pointer (some (ad.add (0*1)))),some (.int .i64 (d:Nat)),some (.int .i64 ((y % d:Nat):Int)),none,none,none] (by kernel_rfl) ⟨
      fun _ _=>v_mv rfl,fun _ _=>v_mv rfl,fun _ _=>v_mv rfl,fun _ _=>v_mv rfl,
      fun _ _=>v_ixA (i:=0) un_H A7 (by rw [←hvbs];rfl) rfl (by omega),fun _ h=>Au0 A7 rfl h,fun _ _=>(AW7 rfl rfl (by omega)).eq (by rw [N0,wI (by have h0:(0:Int)≤((y / d:Nat):Int):=Int.natCast_nonneg _;omega)]),
      fun _ _=>v_mv rfl,fun _ _=>v_mv rfl,
      fun _ _=>v_ixA (i:=0) un_H A7 (by rw [←hvbs];rfl) rfl (by omega),fun _ h=>Au0 A7 rfl h,fun _ _=>(AW6 rfl rfl (by omega)).eq (by rw [M9]),trivial⟩ ?_
     intro W1 e1 hh1
     have hB1:Below w.heap.size w W1:=hB.trans (e1.mono hsz)
     have hI1:=hkeep (W':=W1) (by rw [hh1])
     refine .gv hI1 rfl (L4 (i:=i) un_H A7 rfl rfl (by omega)).gv ?_
     rintro _ W1' ⟨rfl,hW1'⟩
     have hW1':=hW1'.symm
     subst hW1'
     refine .gv hI1 rfl (Z4 (E:=eH) (i:=i) (z:=y / d) (by decide) A7 rfl rfl (hF.ext e1) rfl (by omega) (Nat.zero_add _) ⟨rfl,hyq⟩) ?_
     rintro _ W2 ⟨hF2,u2⟩
     have hI2:=hkeep (W':=W2) (by rw [u2.block ad.block (by have:=hadS.2;omega),hh1])
     refine .gv hI2 rfl (v_as rfl).gv ?_
     rintro _ W2' ⟨rfl,hW2'⟩
     have hW2':=hW2'.symm
     subst hW2'
     refine .nil (.inr hI2) ?_
     refine .region (.mv rfl rfl (.sub rfl rfl rfl (.asg rfl rfl (.nil ?_))))
     rw [wI (by omega)]
     refine ⟨rfl,(i,l.set i (y / d),y % d),lkA rfl,⟨u2.below hB1 (by omega),by show i≤a.length;omega,hF2,by show (l.set i _).length=_;simpa using hl,?_,hst.2.symm⟩,by show i<i+1;omega⟩
     show valH ((l.set i (y / d)).drop i)=valH (a.drop i) / d
     rw [AG3 (by omega),hst.1]
  ·rintro ⟨l,r⟩ W ⟨hB,hF,hl,hq,hr⟩
   replace hF:FB eH 3 S W g l:=hF
   replace hl:l.length=a.length:=hl
   replace hq:valH l=m / d:=hq
   replace hr:r=m % d:=hr
   have hrd:r<d:=by rw [hr];exact Nat.mod_lt _ (by omega)
   refine .seq (.region (.mv rfl rfl ?_))
   refine .call _ rfl F1 rfl (E9 (hout hF hl)) fun v2 W2 e2 h2=>.mv rfl rfl (.bsl _ rfl rfl AP4 fun W3 b3 n3=>?_)
   have hB2:Below w.heap.size w W2:=hB.trans (e2.mono hB.size)
   rw [trimH (Ax3 hF),hq] at h2
   have hdr:digH [r]:=by intro x hx;simp at hx;omega
   have ho3:OwnH 3 W2.heap.size W3 (.slice (some ⟨b3,0,none⟩) 1 1) [r]:=OwnH.lit (l:=[r]) n3 (Nat.le_refl _) hdr (by simp)
   refine .call _ rfl F1 rfl (E9 (S:=S) (ho3.toR (fun k hk=>up k (by have:=hB2.size;omega)))) fun v4 W4 e4 h4=>.asg rfl rfl (.asg rfl rfl (.nil (.ret ?_)))
   rw [trimH hdr,show valH [r]=m % d by simp [valH,hr]] at h4
   have e24:=n3.1.trans e4
   exact .plain [_,_] Tryz.results227 ⟨rfl,rfl,trivial⟩ ⟨hB2.trans (e24.mono hB2.size),v2,v4,rfl,ER.ext eHs h2 e24,h4⟩
 ·refine .eqlF rfl rfl rfl (by omega) (.nil (.condF rfl (.skip (.seq (.region (.asg rfl rfl (.nil ?_)))))))
  have hb2:2≤b.length:=by omega
  refine .mid (α:=List Nat×Value) (fun p=>[(6,.slice (some ⟨g,0,none⟩) a.length a.length),(9,p.2)]) (fun p W=>Below w.heap.size w W∧FB eH 3 S W g p.1∧p.1.length=a.length∧valH p.1=m / d∧eHs.R (fun k=>S k∧k≠g) W p.2 (hds (m % d))) ?_ ?_
  ·refine .seq (.region (.mv rfl rfl (.lenR un_H rfl rfl (hA e1) (.sub rfl rfl rfl (.asg rfl rfl (.nil ?_))))))
   rw [wI (by omega)]
   refine .block (.loop (α:=Nat×List Nat×Value) (fun x=>[(0,va),(1,vb),(6,.slice (some ⟨g,0,none⟩) a.length a.length),(9,x.2.2),(10,.int .i64 ((x.1:Nat)-1:Int))])
    (fun x W=>Below w.heap.size w W∧x.1≤a.length∧FB eH 3 S W g x.2.1∧x.2.1.length=a.length∧valH (x.2.1.drop x.1)=valH (a.drop x.1) / d∧eHs.R (fun k=>S k∧k≠g) W x.2.2 (hds (valH (a.drop x.1) % d))) (fun x=>x.1) (a.length,List.replicate a.length 0,.slice none 0 0) ?_ ?_ ?_)
   ·exact lkA rfl
   ·refine ⟨e1,Nat.le_refl _,f1,by simp,?_,?_⟩
    ·show valH ((List.replicate a.length 0).drop a.length)=_
     rw [List.drop_eq_nil_of_le (by simp),List.drop_eq_nil_of_le (Nat.le_refl _)];simp [valH]
    ·show eHs.R _ _ _ (hds (valH (a.drop a.length) % d))
     rw [List.drop_eq_nil_of_le (Nat.le_refl _),valH,Nat.zero_mod,J8];exact RL.nil
   ·rintro ⟨j,l,u⟩ W ⟨hB,hj,hF,hl,hq,hu⟩
    replace hB:Below w.heap.size w W:=hB
    replace hj:j≤a.length:=hj
    replace hF:FB eH 3 S W g l:=hF
    replace hl:l.length=a.length:=hl
    replace hq:valH (l.drop j)=valH (a.drop j) / d:=hq
    replace hu:eHs.R (fun k=>S k∧k≠g) W u (hds (valH (a.drop j) % d)):=hu
    refine .weak [(0,va),(1,vb),(6,.slice (some ⟨g,0,none⟩) a.length a.length),(9,u),(10,.int .i64 ((j:Nat)-1:Int))] (fun t v h=>h) ?_
    have hsz:=hB.size
    have hgl:=hF.lt
    refine .seq (.seq (.region (.mv rfl rfl ?_)))
    cases j with
    | zero =>
     refine .geqF rfl rfl rfl (by simp) (.nil (.condF rfl (.exit ?_)))
     rw [List.drop_zero,List.drop_zero,hva] at hq
     rw [List.drop_zero,hva] at hu
     exact ⟨rfl,(l,u),lkA rfl,hB,hF,hl,hq,hu⟩
    | succ i =>
     rw [show (((i+1:Nat):Int)-1)=(i:Int) by omega]
     have hx:=M4 hda i
     have hget:=B7 (l:=a) (k:=i) (by omega)
     have hdr:=Z0 (l:=a) (k:=i) (by omega)
     have hst:=Al9 (D:=valH (a.drop (i+1))) (x:=a.getD i 0) (by omega:0<d) hq rfl
     rw [←hdr] at hst
     generalize a.getD i 0=x at *
     have hR:valH (a.drop (i+1)) % d<d:=Nat.mod_lt _ (by omega)
     generalize hRR:valH (a.drop (i+1)) % d=R at *
     have hRl:(hds R).length≤b.length:=L7 (Nat.lt_trans hR hblt)
     have upT:∀ {W':World},Below w.heap.size w W'→g<W'.heap.size→Up (fun k=>S k∧k≠g) W':=fun hB' hg' k hk=>⟨up k (by have:=hB'.size;omega),by omega⟩
     refine .geqT rfl rfl rfl (by omega) (.nil (.condT rfl (.skip (.seq (.block (.seq (.region (.mv rfl rfl (.mv rfl rfl ?_)))))))))
     refine .ixN (i:=i) un_H A7 rfl rfl (hA hB) rfl hget fun p hp=>.ldE A7 rfl rfl hp fun e he=>?_
     obtain ⟨rfl,_⟩:=he
     refine .bsl _ rfl rfl AP4 fun W1 b1 n1=>.mv rfl rfl ?_
     have ho1:OwnH 3 W.heap.size W1 (.slice (some ⟨b1,0,none⟩) 1 1) [x]:=OwnH.lit (l:=[x]) n1 (Nat.le_refl _) (by intro y hy;simp at hy;omega) (by simp)
     refine .gv rfl rfl (g_appHs (base:=W.heap.size) un_H Z3 rfl rfl ho1 (hu.ext n1.1) (by simp) (by omega) n1.1.size) ?_
     rintro v2 W2 ⟨ho2,hB2⟩
     have e2:Ext W W2:=Below.trans n1.1 hB2
     have hs2:=e2.size
     have hu2:eHs.R (fun k=>S k∧k≠g) W2 v2 ([x]++hds R):=ho2.toR (fun k hk=>⟨up k (by omega),by omega⟩)
     refine .call _ rfl F1 rfl (E9 hu2) fun v3 W3 e3 h3=>.asg rfl rfl (.nil (.seq (.region (.asg rfl rfl (.asg rfl rfl (.nil ?_))))))
     have hv3:valH ([x]++hds R)=x+65536*R:=by show valH (x::hds R)=_;rw [valH,D5]
     rw [trimH (T7 hu2),hv3] at h3
     have e23:=e2.trans e3
     have hs3:=e23.size
     have hB3:Below w.heap.size w W3:=hB.trans (e23.mono hsz)
     generalize hy:x+65536*R=y at *
     have hyd:y<65536*d:=by
      have:65536*(R+1)≤65536*d:=Nat.mul_le_mul_left _ hR
      omega
     have hylen:(hds y).length≤b.length+1:=L7 (by rw [Nat.pow_succ];omega)
     refine .mid (α:=Nat) (fun hi=>[(0,va),(1,vb),(6,.slice (some ⟨g,0,none⟩) a.length a.length),(9,v3),(10,.int .i64 (i:Nat)),(11,.int .i64 0),(12,.int .i64 (hi:Nat))]) (fun hi W'=>W'=W3∧1≤hi∧hi≤65536∧y<hi*d) ?_ ?_
     ·refine .seq (.region (.mv rfl rfl (.lenR un_H rfl rfl h3 (.mv rfl rfl (.lenR un_H rfl rfl (hBb hB3) ?_)))))
      by_cases hll:(hds y).length<b.length
      ·refine .lssT rfl rfl rfl (by omega) (.nil (.condT rfl (.region (.asg rfl rfl (.nil ?_)))))
       refine ⟨rfl,1,lkA rfl,rfl,Nat.le_refl _,by omega,?_⟩
       have h1:=AX5 y
       have h2:65536 ^ (hds y).length≤65536 ^ (b.length-1):=Nat.pow_le_pow_right (by omega) (by omega)
       omega
      ·refine .lssF rfl rfl rfl (by omega) (.nil (.condF rfl (.skip ?_)))
       exact ⟨rfl,65536,lkA rfl,rfl,by omega,Nat.le_refl _,hyd⟩
     ·rintro hi0 W3' ⟨hW3',hi1,hi2,hyhi⟩
      have hW3':=hW3'.symm
      subst hW3'
      refine .mid (α:=Nat) (fun lo=>[(0,va),(1,vb),(6,.slice (some ⟨g,0,none⟩) a.length a.length),(9,v3),(10,.int .i64 (i:Nat)),(11,.int .i64 (lo:Nat))]) (fun lo W'=>Ext W3 W'∧lo<65536∧lo=y / d) ?_ ?_
      ·refine .block (.loop (α:=Nat×Nat) (fun z=>[(0,va),(1,vb),(6,.slice (some ⟨g,0,none⟩) a.length a.length),(9,v3),(10,.int .i64 (i:Nat)),(11,.int .i64 (z.1:Nat)),(12,.int .i64 (z.2:Nat))]) (fun z W'=>Ext W3 W'∧z.1<z.2∧z.2≤65536∧z.1*d≤y∧y<z.2*d) (fun z=>z.2-z.1) (0,hi0) ?_ ?_ ?_)
       ·exact lkA rfl
       ·exact ⟨.refl _,hi1,hi2,by show 0*d≤y;omega,hyhi⟩
       ·rintro ⟨lo,hi⟩ W4 ⟨e4,hlh,hh,hlo,hhi⟩
        replace e4:Ext W3 W4:=e4
        replace hlh:lo<hi:=hlh
        replace hh:hi≤65536:=hh
        replace hlo:lo*d≤y:=hlo
        replace hhi:y<hi*d:=hhi
        refine .weak [(0,va),(1,vb),(6,.slice (some ⟨g,0,none⟩) a.length a.length),(9,v3),(10,.int .i64 (i:Nat)),(11,.int .i64 (lo:Nat)),(12,.int .i64 (hi:Nat))] (fun t v h=>h) ?_
        have hB4:Below w.heap.size w W4:=hB3.trans (e4.mono hB3.size)
        have hs4:=e4.size
        refine .seq (.seq (.region (.mv rfl rfl (.mv rfl rfl (.sub rfl rfl rfl ?_)))))
        rw [wI (by omega)]
        by_cases hgo:lo+1<hi
        ·refine .gtrT rfl rfl rfl (by omega) (.nil (.condT rfl (.skip (.block (.seq (.region (.mv rfl rfl (.mv rfl rfl (.add rfl rfl rfl (.quo rfl rfl rfl (by decide) (.asg rfl rfl (.nil ?_))))))))))))
         rw [wI (n:=(lo:Int)+(hi:Int)) (by omega),show ((lo:Int)+(hi:Int)).tdiv 2=(((lo+hi) / 2:Nat):Int) by rw [←Int.natCast_add];exact N0 (lo+hi) 2,wI (by omega)]
         generalize hmid:(lo+hi) / 2=mid at *
         refine .seq (.region (.mv rfl rfl (.mv rfl rfl ?_)))
         have hbT:eHs.R (fun k=>S k∧k≠g) W4 vb b:=eHs.mono (fun k _ hk=>⟨hk.1,by have:=hk.2;omega⟩) (hBb hB4)
         refine .call _ rfl AH2 rfl (AG4 (upT hB4 (by omega)) hbT (by omega) (show mid≤65536 by omega)) fun v5 W5 e5 h5=>.mv rfl rfl ?_
         rw [hvb] at h5
         have hml:(hds (d*mid)).length≤b.length+1:=L7 (by
          rw [Nat.pow_succ]
          have:d*mid≤d*65536:=Nat.mul_le_mul_left _ (by omega)
          omega)
         refine .call _ rfl AT0 rfl (AR2 h5 ((h3.ext e4).ext e5) (by omega) (by omega)) fun v6 W6 e6 h6=>?_
         subst h6
         rw [D5,D5,Nat.mul_comm d mid]
         have e46:=(e4.trans e5).trans e6
         by_cases hc:mid*d≤y
         ·refine .leqT rfl rfl rfl (by unfold cmpN;split<;>(try split)<;>omega) (.nil (.condT rfl (.region (.mv rfl rfl (.asg rfl rfl (.nil ?_))))))
          exact ⟨rfl,(mid,hi),lkA rfl,⟨e46,by show mid<hi;omega,hh,hc,hhi⟩,by show hi-mid<hi-lo;omega⟩
         ·refine .leqF rfl rfl rfl (by unfold cmpN;rw [if_neg (by omega),if_pos (by omega)];decide) (.nil (.condF rfl (.region (.mv rfl rfl (.asg rfl rfl (.nil ?_))))))
          exact ⟨rfl,(lo,mid),lkA rfl,⟨e46,by show lo<mid;omega,by show mid≤65536;omega,hlo,by show y<mid*d;omega⟩,by show mid-lo<hi-lo;omega⟩
        ·refine .gtrF rfl rfl rfl (by omega) (.nil (.condF rfl (.exit ?_)))
         refine ⟨rfl,lo,lkA rfl,e4,by show lo<65536;omega,?_⟩
         have h1:hi=lo+1:=by omega
         rw [h1] at hhi
         symm
         exact (Nat.div_eq_iff (by omega)).2 ⟨by omega,by rw [Nat.add_mul] at hhi;omega⟩
      ·rintro lo W4 ⟨e4,hlo,hlod⟩
       have hB4:Below w.heap.size w W4:=hB3.trans (e4.mono hB3.size)
       have hs4:=e4.size
       have hbT:eHs.R (fun k=>S k∧k≠g) W4 vb b:=eHs.mono (fun k _ hk=>⟨hk.1,by have:=hk.2;omega⟩) (hBb hB4)
       refine .region (.mv rfl rfl (.mv rfl rfl (.mv rfl rfl (.mv rfl rfl (.mv rfl rfl (.mv rfl rfl ?_))))))
       refine .call _ rfl AH2 rfl (AG4 (upT hB4 (by omega)) hbT (by omega) (show lo≤65536 by omega)) fun v5 W5 e5 h5=>?_
       rw [hvb] at h5
       have e45:=e4.trans e5
       have hB5:Below w.heap.size w W5:=hB3.trans (e45.mono hB3.size)
       have hs5:=e5.size
       have hdl:d*lo≤y:=by rw [hlod];exact Nat.mul_div_le y d
       refine .call _ rfl AS8 rfl (AR0 (upT hB5 (by omega)) (h3.ext e45) h5 (by omega) (by rw [D5,D5];exact hdl)) fun v6 W6 e6 h6=>?_
       rw [D5,D5] at h6
       have hmod:y-d*lo=y % d:=by rw [hlod];have:=Nat.div_add_mod y d;omega
       rw [hmod] at h6
       have e36:=e45.trans e6
       have hB6:Below w.heap.size w W6:=hB3.trans (e36.mono hB3.size)
       have eW6:=e23.trans e36
       refine .ixB (i:=i) un_H A7 rfl rfl rfl (by omega) ?_
       refine .storeF (E:=eH) (i:=i) (z:=lo) (by decide) A7 rfl rfl (hF.ext eW6) rfl (by omega) (Nat.zero_add _) ⟨rfl,hlo⟩ fun W7 hF7 u7=>.asg rfl rfl (.nil ?_)
       refine .region (.mv rfl rfl (.sub rfl rfl rfl (.asg rfl rfl (.nil ?_))))
       rw [wI (by omega)]
       refine ⟨rfl,(i,l.set i lo,v6),lkA rfl,⟨u7.below hB6 (by omega),by show i≤a.length;omega,hF7,by show (l.set i _).length=_;simpa using hl,?_,?_⟩,by show i<i+1;omega⟩
       ·show valH ((l.set i lo).drop i)=valH (a.drop i) / d
        rw [AG3 (by omega),hst.1,hlod]
       ·show eHs.R _ W7 v6 (hds (valH (a.drop i) % d))
        rw [hst.2]
        exact ER.upd eHs h6 u7 (fun h=>h.2 rfl)
  ·rintro ⟨l,u⟩ W ⟨hB,hF,hl,hq,hu⟩
   replace hF:FB eH 3 S W g l:=hF
   replace hl:l.length=a.length:=hl
   replace hq:valH l=m / d:=hq
   replace hu:eHs.R (fun k=>S k∧k≠g) W u (hds (m % d)):=hu
   refine .seq (.region (.mv rfl rfl ?_))
   refine .call _ rfl F1 rfl (E9 (hout hF hl)) fun v2 W2 e2 h2=>.mv rfl rfl (.asg rfl rfl (.asg rfl rfl (.nil (.ret ?_))))
   rw [trimH (Ax3 hF),hq] at h2
   exact .plain [_,_] Tryz.results227 ⟨rfl,rfl,trivial⟩ ⟨hB.trans (e2.mono hB.size),v2,u,rfl,h2,eHs.mono (fun k _ hk=>hk.1) (ER.ext eHs hu e2)⟩
end Go.Proofs.YteghbhdniimjbaaGreat

namespace Go.Kx
theorem sg_neg (n:Bool) (v:Nat):sg (!n) v = -(sg n v):=by cases n<;>simp [sg]
theorem AS1 {A B K:Nat} (h1:(hds A).length≤K) (h2:(hds B).length≤K):(hds (A+B)).length≤K+1:=by
 have a1:=AX5 A
 have a2:=AX5 B
 have b1:65536 ^ (hds A).length≤65536 ^ K:=Nat.pow_le_pow_right (by omega) h1
 have b2:65536 ^ (hds B).length≤65536 ^ K:=Nat.pow_le_pow_right (by omega) h2
 exact L7 (by rw [Nat.pow_succ];omega)
theorem sign_sg {n:Bool} {v:Nat} (h:v≠0):(sg n v).sign=if n then -1 else 1:=by
 cases n
 ·simp only [sg,Bool.false_eq_true,if_false];rw [Int.sign_eq_one_of_pos (by omega)]
 ·simp only [sg,if_true];rw [Int.sign_eq_neg_one_of_neg (by omega)]
theorem Z7 (z:ZV):zval z=sg z.neg (val z.w):=rfl
theorem Ar0 {l:List Nat} {L:Nat} (h:l.length≤L):(hds (val l)).length≤2*L∨¬ dig l:=by
 by_cases hd:dig l
 ·left
  have h1:=AA1 (AY6 hd)
  rw [AW3,AI8] at h1
  have:=L7 h1
  omega
 ·exact .inr hd
end Go.Kx
namespace Go.Proofs.YteghbhdniimjbaaGreat
open Go Go.Kx Go.RowKit
/-- the digits of an integer's words -/
theorem I3 {S:Nat→Prop} {w:World} {v:Value} {l:List Nat} (up:Up S w) (h:eW.R S w v l) (hl:l.length≤1000000000):CR Tryz.prog 226 #[v] w (eHs.at S (hds (val l))):=by
 have:=AD0 up h (by omega)
 rwa [trimH (AY6 (D9 h)),AW3] at this
theorem AD5 {S:Nat→Prop} {w:World} {v:Value} {l:List Nat} (h:eW.R S w v l) (hl:l.length≤1000000000):(hds (val l)).length≤2000000000:=by
 rcases Ar0 hl with h' | h'
 ·exact h'
 ·exact absurd (D9 h) h'
theorem I6:Ent Tryz.prog 199:=A0 Tryz.func199 (by kernel_rfl) rfl
theorem I4 {S:Nat→Prop} {w:World} {v:Value} {a:ZV} (up:Up S w) (h:eZ.R S w v a) (hl:a.w.length≤1000000000):CR Tryz.prog 199 #[v] w (Is (.int .i64 (zval a).sign)):=by
 obtain ⟨s,rfl,hs⟩:=h
 refine enter Tryz.func199 rfl Tryz.ntmps199 rfl ?_
 refine .seq (.region (.box rfl rfl fun w1 b1 n1=>.asg rfl rfl (.nil ?_)))
 obtain ⟨e1,k1,hb1,hs1⟩:=n1
 refine .seq (.seq (.region (.fa D3 rfl rfl (.ld ty_W rfl rfl k1 rfl ?_))))
 refine .call _ rfl D8 rfl (I3 (up.ext e1.size) (hs.ext e1) hl) fun v2 w2 e2 h2=>.lenR un_H rfl rfl h2 ?_
 have x2:=e1.trans e2
 by_cases h0:val a.w=0
 ·rw [h0,J8]
  refine .eqlT rfl rfl rfl rfl (.nil (.condT rfl (.seq (.region (.asg rfl rfl (.nil (.ret ?_)))))))
  refine .plain [_] Tryz.results199 ⟨rfl,trivial⟩ ⟨x2,isI ?_⟩
  rw [Z7,h0];cases a.neg<;>rfl
 ·have hne:(hds (val a.w)).length≠0:=fun e=>h0 (P1.1 (List.length_eq_zero_iff.1 e))
  refine .eqlF rfl rfl rfl (by omega) (.nil (.condF rfl (.skip ?_)))
  refine .seq (.seq (.region (.fa G7 rfl rfl (.ld C4 rfl rfl (k1.ext e2) rfl (.nil ?_)))))
  have hz:(zval a).sign=if a.neg then -1 else 1:=by rw [Z7];exact sign_sg h0
  cases hn:a.neg with
  | true =>
   rw [hn] at hz
   refine .condT rfl (.seq (.region (.asg rfl rfl (.nil (.ret ?_)))))
   exact .plain [_] Tryz.results199 ⟨rfl,trivial⟩ ⟨x2,isI (by rw [hz];rfl)⟩
  | false =>
   rw [hn] at hz
   refine .condF rfl (.skip (.seq (.region (.asg rfl rfl (.nil (.ret ?_))))))
   exact .plain [_] Tryz.results199 ⟨rfl,trivial⟩ ⟨x2,isI (by rw [hz];rfl)⟩
theorem Ao1:Ent Tryz.prog 200:=A0 Tryz.func200 (by kernel_rfl) rfl
theorem Ak3 {S:Nat→Prop} {w:World} {v:Value} {a:ZV} (up:Up S w) (h:eZ.R S w v a) (hl:a.w.length≤1000000000):CR Tryz.prog 200 #[v] w (eZ.at S (zc (-zval a))):=by
 obtain ⟨s,rfl,hs⟩:=h
 refine enter Tryz.func200 rfl Tryz.ntmps200 rfl ?_
 refine .seq (.region (.box rfl rfl fun w1 b1 n1=>.alloc rfl B8 fun w2 b2 n2=>.nil ?_))
 obtain ⟨e1,k1,hb1,hs1⟩:=n1
 obtain ⟨e2,k2,hb2,hs2⟩:=n2
 have x2:=e1.trans e2
 have k1:=k1.ext e2
 have hS2:¬ Sx S w.heap.size w2.heap.size b2:=Sx.no (by omega) (by omega)
 have up2:Up (Sx S w.heap.size w2.heap.size) w2:=Sx.up up (Nat.le_refl _) x2.size
 have hs2':=(ER.par eW hs w2.heap.size).ext x2
 refine .seq ?_
 refine .par follows 6 [.inl _,.inl (.bool a.neg),.inl _,.inl _,.inl s,.inr (eHs.at (Sx S w.heap.size w2.heap.size) (hds (val a.w)))] [[],[(3,0)],[(4,1)],[],[(6,3)],[(7,4)]] (by kernel_rfl) ⟨
  fun w e=>(v_fa G7 rfl).ob,fun w e=>(v_ld C4 rfl (k1.ext e) rfl).ob,fun w e=>(Ab8 rfl).ob,fun w e=>(v_fa D3 rfl).ob,fun w e=>(v_ld ty_W rfl (k1.ext e) rfl).ob,
  fun w e=>(A3 _ D8 rfl (I3 (up2.ext e.size) (hs2'.ext e) hl)).ob (A8 _ _ _),trivial⟩ ?_
 intro w3 e3 x5 hx5
 have hlen:=AD5 hs hl
 refine .call _ rfl P4 rfl (O9 (up2.ext e3.size) hx5 (by omega)) fun v4 w4 e4 h4=>?_
 rw [D5,sg_neg,←Z7] at h4
 refine .storeA (E:=eZ) ty_Z rfl rfl ((k2.ext e3).ext e4) rfl rfl h4 hS2 fun w5 k5 u5 h5=>.nil (.ret ?_)
 exact .cell Tryz.results200 rfl ty_Z rfl rfl k5 h5 ⟨u5.below ((x2.trans e3).trans e4) (by omega),h5.out⟩
theorem Ao4:Ent Tryz.prog 202:=A0 Tryz.func202 (by kernel_rfl) rfl
theorem Ak6 {S:Nat→Prop} {w:World} {v:Value} {a:ZV} (up:Up S w) (h:eZ.R S w v a) (hl:a.w.length≤1000000000):CR Tryz.prog 202 #[v] w (eZ.at S (zc (val a.w))):=by
 obtain ⟨s,rfl,hs⟩:=h
 refine enter Tryz.func202 rfl Tryz.ntmps202 rfl ?_
 refine .seq (.region (.box rfl rfl fun w1 b1 n1=>.alloc rfl B8 fun w2 b2 n2=>.nil ?_))
 obtain ⟨e1,k1,hb1,hs1⟩:=n1
 obtain ⟨e2,k2,hb2,hs2⟩:=n2
 have x2:=e1.trans e2
 have k1:=k1.ext e2
 have hS2:¬ Sx S w.heap.size w2.heap.size b2:=Sx.no (by omega) (by omega)
 have up2:Up (Sx S w.heap.size w2.heap.size) w2:=Sx.up up (Nat.le_refl _) x2.size
 have hs2':=(ER.par eW hs w2.heap.size).ext x2
 refine .seq (.region (.fa D3 rfl rfl (.ld ty_W rfl rfl k1 rfl ?_)))
 refine .call _ rfl D8 rfl (I3 up2 hs2' hl) fun v3 w3 e3 h3=>?_
 have hlen:=AD5 hs hl
 refine .call _ rfl P4 rfl (O9 (up2.ext e3.size) h3 (by omega)) fun v4 w4 e4 h4=>?_
 rw [D5] at h4
 refine .storeA (E:=eZ) ty_Z rfl rfl ((k2.ext e3).ext e4) rfl rfl h4 hS2 fun w5 k5 u5 h5=>.nil (.ret ?_)
 exact .cell Tryz.results202 rfl ty_Z rfl rfl k5 h5 ⟨u5.below ((x2.trans e3).trans e4) (by omega),h5.out⟩
end Go.Proofs.YteghbhdniimjbaaGreat
