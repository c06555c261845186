/-
  What the claim leans on.
-/
import Derived.Test.YtggegpiffjbngaaGreatG5
set_option linter.unusedVariables false
namespace Go.Proofs.YtggegpiffjbngaaGreat
open Go Go.Kx Go.RowKit
theorem AF5 {n:NtV} {o:List Int} {i:Nat} (hi:i<(inL n o).length):(pInts (inL n o))[i]?=some (((inL n o).getD i 0:Nat):Int)/\(inL n o).getD i 0<n.ls.length/\(inL n o).getD i 0∉oN o:=by
 have key:∀ k,k∈inL n o->k<n.ls.length/\k∉oN o:=fun k hk=>by
  unfold inL freeTo at hk
  rw [List.mem_filter] at hk
  exact ⟨List.mem_range.1 hk.1,by simpa using hk.2⟩
 obtain ⟨h1,h2⟩:=key _ (E0 hi)
 exact ⟨by rw [List.getElem?_map,A7 (z:=0) hi];rfl,h1,h2⟩
theorem fil_get {B i j:Nat} {f:Nat->Int} (hj:j<B) (hi:j<i):(fil B i f 0)[j]?=some (f j):=by
 unfold fil
 rw [List.getElem?_map,List.getElem?_range hj]
 simp [hi]
theorem AE5:Ent Tryz.prog 55:=A0 Tryz.func55 (by kernel_rfl) rfl
theorem AD2 {S:Nat->Prop} {w:World} {vn vo:Value} {n:NtV} {o:List Int} (up:Up S w) (hn:eN.R S w vn n) (ho:eI.R S w vo o) :
  CR Tryz.prog 55 #[vn,vo] w (Two (eI.at S (if outE n o=0 then tabI (nwOf n o).B (nwOf n o).lab else [])) (Is (.int .i64 (outE n o)))):=by
 obtain ⟨s,rfl,hs,hb⟩:=hn
 have hn:eN.R S w (.agg #[.int .i64 n.b,s]) n:=⟨s,rfl,hs,hb⟩
 refine enter Tryz.func55 O Tryz.ntmps55 O ?_
 refine .sr (.box O O fun w1 b2 n1=>.asg O O (.an O O ?_))
 obtain ⟨e1,k2,hb2,hs1⟩:=n1
 refine .sr (.ldA ty_N O O k2 O (.mv O O ?_))
 refine .call _ O Z3 O (Y7 (up.ext e1.size) (hn.ext e1) (ho.ext e1)) fun v2 w2 e2 h2=>?_
 obtain ⟨vl,ve,rfl,hl,he⟩:=h2
 replace he:ve=.int .i64 (outE n o):=he
 subst he
 have x2:=e1.trans e2
 refine .mv O O (.ext O O O (.ext O O O (.asg O O (.an O O (.seq (.sr (.mv O O ?_)))))))
 by_cases hE:outE n o=0
 rotate_left
 ·refine .neqT O O O hE (.nil (.condT O (.sr (.mv O O (.asg O O (.an O O (.ret ?_)))))))
  refine .plain [_,_] Tryz.results55 ⟨rfl,rfl,trivial⟩ ⟨x2,_,_,rfl,?_,rfl⟩
  rw [if_neg hE];exact RL.nil
 have ok:=K4 hE
 rw [if_pos hE] at hl ⊢
 have hB6:=ok.b6
 have hM10:n.ls.length<=10:=ok.m
 have hll:=S4 n o
 generalize hB:(nwOf n o).B=B at *
 refine .neqF O O O hE (.nil (.condF O (.skip ?_)))
 have k2:=k2.ext e2
 have hnb:=ok.b
 rw [hB] at hnb
 rw [hnb] at k2
 refine .sr (.fa H3 O O (.ld A8 O O k2 O ?_))
 refine .make_ B B un_I AD4 O (by decide) O O O (Nat.le_refl _) (by omega) (by omega) fun w3 g n3=>?_
 have f3:FB (eInt .i64) 3 (fun _=>True) w3 g (List.replicate B 0):=FB.made n3 ⟨rfl,by decide⟩
 obtain ⟨e3,_,hg3,hs3⟩:=n3
 refine .alloc O Al6 fun w4 b8 n4=>?_
 obtain ⟨e4,k8,hb8,hs4⟩:=n4
 refine .store ty_I O O k8 O (by simp [Value.cells]) (by simp [one1,Value.cells]) fun w5 k8 u5=>.nil ?_
 replace k8:Blk w5 b8 25 #[.slice (some ⟨g,0,none⟩) B B]:=k8
 have hs2:=e2.size
 have hs5:=u5.size
 have x4:=x2.trans (e3.trans e4)
 have x5:Ext w w5:=u5.below x4 (by omega)
 have x25:Ext w2 w5:=u5.below (e3.trans e4) (by omega)
 have k2:=k2.ext x25
 have hl:=ER.ext eI (ER.lt eI hl) x25
 have hsL:=ER.ext eLs (ER.lt eLs hs) x5
 have hupd:∀ {W W':World} {l:List Int} {b:Nat},FB (eInt .i64) 3 (fun _=>True) W g l->Upd W W' b->g≠b->FB (eInt .i64) 3 (fun _=>True) W' g l:=fun hf u hne=>by
  obtain ⟨es,hb,he⟩:=hf
  exact ⟨es,hb.upd u hne,he.1,fun i e x h1 h2=>he.2 i e x h1 h2⟩
 have f5:=hupd (f3.ext e4) u5 (by omega)
 have hgw:w2.heap.size<=g:=by omega
 have hg8:g≠b8:=by omega
 have hg2:b2≠g:=by omega
 have hw25:w2.heap.size<=w5.heap.size:=by omega
 refine .mid (α:=Unit) (fun _=>[(2,.pointer (some ⟨b2,0,none⟩)),(6,vl),(8,.pointer (some ⟨b8,0,none⟩))]) (fun _ W=>Below w2.heap.size w5 W/\Blk W b8 25 #[.slice (some ⟨g,0,none⟩) B B]/\FB (eInt .i64) 3 (fun _=>True) W g (tabI B id)) ?_ ?_
 ·refine .sr (.ld ty_I O O k8 O (.len un_I O O (.mv O O (.nil ?_))))
  refine .block (.loop (α:=Nat) (fun i=>[(2,.pointer (some ⟨b2,0,none⟩)),(6,vl),(8,.pointer (some ⟨b8,0,none⟩)),(32,.int .i64 (B:Nat)),(33,.int .i64 (i:Nat))]) (fun i W=>Below w2.heap.size w5 W/\Blk W b8 25 #[.slice (some ⟨g,0,none⟩) B B]/\i<=B/\FB (eInt .i64) 3 (fun _=>True) W g (fil B i (fun b=>((b:Nat):Int)) 0)) (fun i=>B-i) 0 ?_ ?_ ?_)
  ·exact lkA rfl
  ·refine ⟨Below.refl _ _,k8,Nat.zero_le _,?_⟩
   rw [J2];exact f5
  rintro i W ⟨hW,k8,hi,fb⟩
  refine .sr ?_
  rcases Nat.lt_or_ge i B with hlt | hge
  rotate_left
  ·refine .lssF O O O (by omega) (.nil (.seq (.condF O (.exit ?_))))
   have:i=B:=by omega
   subst this
   refine ⟨rfl,(),lkA rfl,hW,k8,?_⟩
   rw [S6] at fb
   exact fb
  refine .lssT O O O (by omega) (.nil (.seq (.condT O (.skip (.seq (.block (.sr (.mv O O (.an O O (.region (.ld ty_I O O k8 O (.mv O O (.mv O O (.ixB (i:=i) un_I B0 O O O hlt ?_))))))))))))))
  refine .storeF (E:=eInt .i64) (i:=i) (z:=((i:Nat):Int)) (by decide) B0 O O fb O (by rw [G8];exact hlt) (Nat.zero_add _) ⟨rfl,I3.2 (by omega)⟩ fun W1 f1 u1=>.nil ?_
  refine .region (.add O O O (.mv O O (.nil ?_)))
  rw [wI (by omega)]
  rw [M4] at f1
  exact ⟨rfl,i+1,lkA rfl,⟨u1.below hW hgw,k8.upd u1 hg8.symm,hlt,f1⟩,by show B-(i+1)<B-i;omega⟩
 rintro _ W0 ⟨hW0,k8,fb0⟩
 have hk2:∀ {W:World},Below w2.heap.size w5 W->Blk W b2 24 #[.int .i64 (B:Nat),s]:=fun h=>(h.block b2 (by omega)).trans k2
 have hlW:∀ {W:World},Below w2.heap.size w5 W->eI.R (fun k=>S k/\k<w2.heap.size) W vl (pInts (inL n o)):=fun h=>eI.keep (fun k c t f hk hh=>(h.block k hk.2).trans hh) hl
 have hsW:∀ {W:World},Below w2.heap.size w5 W->eLs.R (fun k=>S k/\k<w.heap.size) W s n.ls:=fun h=>eLs.keep (fun k c t f hk hh=>(h.block k (by have:=hk.2;have:=x2.size;omega)).trans hh) hsL
 refine .sr (.mkf [] [_] O O O O (.an O O ?_))
 refine .mid (α:=Nat->Nat) (fun _=>[(2,.pointer (some ⟨b2,0,none⟩)),(8,.pointer (some ⟨b8,0,none⟩)),(10,.func (.func 120) #[] #[.pointer (some ⟨b8,0,none⟩)])]) (fun p W=>Below w2.heap.size w5 W/\Blk W b8 25 #[.slice (some ⟨g,0,none⟩) B B]/\FB (eInt .i64) 3 (fun _=>True) W g (tabI B p)/\Clm B p ((nwOf n o).rootF (inL n o))) ?_ ?_
 ·refine .sr (.mv O O (.lenR un_I O O (hlW hW0) (.mv O O (.nil ?_))))
  rw [show (pInts (inL n o)).length=(inL n o).length by simp]
  refine .block (.loop (α:=Nat×(Nat->Nat)) (fun y=>[(2,.pointer (some ⟨b2,0,none⟩)),(8,.pointer (some ⟨b8,0,none⟩)),(10,.func (.func 120) #[] #[.pointer (some ⟨b8,0,none⟩)]),(42,vl),(43,.int .i64 ((inL n o).length:Nat)),(44,.int .i64 (y.1:Nat))])
   (fun y W=>Below w2.heap.size w5 W/\Blk W b8 25 #[.slice (some ⟨g,0,none⟩) B B]/\y.1<=(inL n o).length/\FB (eInt .i64) 3 (fun _=>True) W g (tabI B y.2)/\Clm B y.2 ((nwOf n o).rootF ((inL n o).take y.1))) (fun y=>(inL n o).length-y.1) (0,id) ?_ ?_ ?_)
  ·exact lkA rfl
  ·exact ⟨hW0,k8,Nat.zero_le _,fb0,fun b _=>⟨Nat.le_refl _,fun _=>rfl,fun h=>absurd O h⟩⟩
  rintro ⟨i,p⟩ W ⟨hW,k8,hi,fb,hc⟩
  replace hW:Below w2.heap.size w5 W:=hW
  replace hi:i<=(inL n o).length:=hi
  replace fb:FB (eInt .i64) 3 (fun _=>True) W g (tabI B p):=fb
  replace hc:Clm B p ((nwOf n o).rootF ((inL n o).take i)):=hc
  refine .sr ?_
  rcases Nat.lt_or_ge i (inL n o).length with hlt | hge
  rotate_left
  ·refine .lssF O O O (by omega) (.nil (.seq (.condF O (.exit ?_))))
   have:i=(inL n o).length:=by omega
   subst this
   rw [List.take_of_length_le (Nat.le_refl _)] at hc
   exact ⟨rfl,p,lkA rfl,hW,k8,fb,hc⟩
  obtain ⟨hgk,hkM,hko⟩:=AF5 hlt
  refine .lssT O O O (by omega) (.nil (.seq (.condT O (.skip (.seq (.block (.sr (.ixN (i:=i) un_I B0 O O (hlW hW) O hgk fun q hq=>.ldE (E:=eInt .i64) B0 O O hq fun e he=>.an O O ?_))))))))
  obtain ⟨rfl,_⟩:=he
  have htk:(inL n o).take (i+1)=(inL n o).take i++[(inL n o).getD i 0]:=by rw [List.take_add_one,A7 (z:=0) hlt];rfl
  have hFB:=ok.f _ hkM
  have hTB:=ok.t _ hkM
  have hFI:=ok.fI _ hkM
  have hTI:=ok.tI _ hkM
  have hgl:n.ls[(inL n o).getD i 0]?=some (n.ls.getD ((inL n o).getD i 0) ln0):=A7 hkM
  have hidm:=(nwOf n o).rootF_idm ((inL n o).take i)
  generalize hR:(nwOf n o).rootF ((inL n o).take i)=R at hc hidm
  generalize hk:(inL n o).getD i 0=k at hgl hFB hTB hFI hTI hkM hko htk
  rw [hB] at hFB hTB
  have hlF:=hidm.le ((nwOf n o).F k)
  have hlT:=hidm.le ((nwOf n o).T k)
  refine .seq ?_
  refine .par follows 16 [.inl (.func (.func 120) #[] #[.pointer (some ⟨b8,0,none⟩)]),.inl (.pointer (some ⟨b2,1,none⟩)),.inl s,.inl (.int .i64 (k:Nat)),.inr (Ptr eL (fun k=>S k/\k<w.heap.size) (n.ls.getD k ln0)),.inr (Ptr (eInt .i64) (fun k=>S k/\k<w.heap.size) (n.ls.getD k ln0).f),.inl (.int .i64 ((nwOf n o).F k:Nat)),.inl (.int .i64 (R ((nwOf n o).F k):Nat)),
   .inl (.func (.func 120) #[] #[.pointer (some ⟨b8,0,none⟩)]),.inl (.pointer (some ⟨b2,1,none⟩)),.inl s,.inl (.int .i64 (k:Nat)),.inr (Ptr eL (fun k=>S k/\k<w.heap.size) (n.ls.getD k ln0)),.inr (Ptr (eInt .i64) (fun k=>S k/\k<w.heap.size) (n.ls.getD k ln0).t),.inl (.int .i64 ((nwOf n o).T k:Nat)),.inl (.int .i64 (R ((nwOf n o).T k):Nat))]
   [[],[],[(49,1)],[],[(50,2),(51,3)],[(52,4)],[(53,5)],[(48,0),(54,6)],[],[],[(57,9)],[],[(58,10),(59,11)],[(60,12)],[(61,13)],[(56,8),(62,14)]] (by kernel_rfl) ⟨
   fun w e=>(v_mv O).ob,fun w e=>(v_fa F1 O).ob,fun w e=>(v_ld I2 O ((hk2 hW).ext e) O).ob,fun w e=>(v_mv O).ob,
   fun w e=>D5 (i:=k) H4 M6 O (ER.ext eLs (hsW hW) e) O hgl,fun w e x hx=>Ad2 H9 O hx (by decide),fun w e x hx=>by rw [<-hFI];exact U3 B0 O hx,
   fun w e=>Gv.obIs (AF7 [.int .i64 ((nwOf n o).F k:Nat)] O Ap4 O (An7 (k8.ext e) (fb.ext e) hc hFB)),
   fun w e=>(v_mv O).ob,fun w e=>(v_fa F1 O).ob,fun w e=>(v_ld I2 O ((hk2 hW).ext e) O).ob,fun w e=>(v_mv O).ob,
   fun w e=>D5 (i:=k) H4 M6 O (ER.ext eLs (hsW hW) e) O hgl,fun w e x hx=>Ad2 H8 O hx (by decide),fun w e x hx=>by rw [<-hTI];exact U3 B0 O hx,
   fun w e=>Gv.obIs (AF7 [.int .i64 ((nwOf n o).T k:Nat)] O Ap4 O (An7 (k8.ext e) (fb.ext e) hc hTB)),trivial⟩ ?_
  intro W1 f1 _ _ _ _ _ _ _ _
  refine .asg O O (.an O O (.region (.ld ty_I O O (k8.ext f1) O (.mv O O (.mv O O (.max_ O O O (.mv O O (.mv O O (.min_ O O O ?_)))))))))
  rw [show max ((R ((nwOf n o).F k):Nat):Int) (R ((nwOf n o).T k):Nat)=((max (R ((nwOf n o).F k)) (R ((nwOf n o).T k)):Nat):Int) by omega,show min ((R ((nwOf n o).F k):Nat):Int) (R ((nwOf n o).T k):Nat)=((min (R ((nwOf n o).F k)) (R ((nwOf n o).T k)):Nat):Int) by omega]
  refine .ixB (i:=max (R ((nwOf n o).F k)) (R ((nwOf n o).T k))) un_I B0 O O O (by omega) ?_
  refine .storeF (E:=eInt .i64) (i:=max (R ((nwOf n o).F k)) (R ((nwOf n o).T k))) (z:=((min (R ((nwOf n o).F k)) (R ((nwOf n o).T k)):Nat):Int)) (by decide) B0 O O (fb.ext f1) O (by rw [O3];omega) (Nat.zero_add _) ⟨rfl,I3.2 (by omega)⟩ fun W2 f2 u2=>.nil ?_
  rw [BA3] at f2
  have hW1:=hW.trans (f1.mono (by have:=hW.size;omega))
  refine .region (.add O O O (.mv O O (.nil ?_)))
  rw [wI (by omega)]
  refine ⟨rfl,(i+1,_),lkA rfl,⟨u2.below hW1 hgw,(k8.ext f1).upd u2 hg8.symm,hlt,f2,?_⟩,by show (inL n o).length-(i+1)<(inL n o).length-i;omega⟩
  show Clm B _ ((nwOf n o).rootF ((inL n o).take (i+1)))
  rw [htk,Nw.rootF_snoc,hR]
  exact hc.step hidm
 rintro p W1 ⟨hW1,k8,fb,hc⟩
 rw [show (nwOf n o).rootF (inL n o)=(nwOf n o).root by
  funext b
  unfold Nw.root
  rw [Nw.rootF_free (p:=oN o) _ fun k hk=>ok.g0 hk];rfl] at hc
 have hW1s:=hW1.size
 refine .sr (.fa H3 O O (.ld A8 O O (hk2 hW1) O ?_))
 refine .make_ B B un_I AD4 O (by decide) O O O (Nat.le_refl _) (by omega) (by omega) fun W2 h n2=>?_
 have f2:FB (eInt .i64) 3 (fun _=>True) W2 h (List.replicate B 0):=FB.made n2 ⟨rfl,by decide⟩
 obtain ⟨e2',_,hh2,hs2'⟩:=n2
 refine .an O O (.sr (.an O O ?_))
 have hgh:g≠h:=by have:=fb.lt;omega
 have k8:=k8.ext e2'
 have h8h:b8≠h:=by have:=hW1s;omega
 have fb:=fb.ext e2'
 have hW2:=hW1.trans (e2'.mono (by omega))
 have hhw:w2.heap.size<=h:=by omega
 have hupd':∀ {W W':World} {l:List Int},FB (eInt .i64) 3 (fun _=>True) W g l->Upd W W' h->FB (eInt .i64) 3 (fun _=>True) W' g l:=fun hf u=>hupd hf u hgh
 refine .seq (.sr (.mv O O (.len un_I O O (.mv O O (.nil ?_)))))
 refine .block (.loop (α:=Nat) (fun i=>[(8,.pointer (some ⟨b8,0,none⟩)),(10,.func (.func 120) #[] #[.pointer (some ⟨b8,0,none⟩)]),(15,.slice (some ⟨h,0,none⟩) B B),(16,.int .i64 ((nwOf n o).cnt i:Nat)),(77,.int .i64 (B:Nat)),(78,.int .i64 (i:Nat))])
  (fun i W=>Below w2.heap.size w5 W/\Blk W b8 25 #[.slice (some ⟨g,0,none⟩) B B]/\i<=B/\FB (eInt .i64) 3 (fun _=>True) W g (tabI B p)/\FB (eInt .i64) 3 (fun _=>True) W h (fil B i (fun b=>(((nwOf n o).lab b:Nat):Int)) 0)) (fun i=>B-i) 0 ?_ ?_ ?_)
 ·exact lkA rfl
 ·refine ⟨hW2,k8,Nat.zero_le _,fb,?_⟩
  rw [J2];exact f2
 rintro i W ⟨hW,k8,hi,fb,fl⟩
 refine .sr ?_
 rcases Nat.lt_or_ge i B with hlt | hge
 rotate_left
 ·refine .lssF O O O (by omega) (.nil (.seq (.condF O (.exit (.sr (.mv O O (.asg O O (.an O O (.ret ?_)))))))))
  have:i=B:=by omega
  subst this
  refine .plain [_,_] Tryz.results55 ⟨rfl,rfl,trivial⟩ ⟨Below.trans x5 (hW.mono (by omega)),_,_,rfl,?_,by rw [hE]⟩
  rw [S6] at fl
  have fl':FB (eInt .i64) 3 S W h (tabI i (nwOf n o).lab):=by
   obtain ⟨es,hb,he⟩:=fl
   exact ⟨es,hb,he.1,fun i e x h1 h2=>he.2 i e x h1 h2⟩
  have:=fl'.toR (hsz:=by decide) (c:=i) (up h (by omega)) (by rw [O3];omega) (by rw [O3];omega)
  rw [O3] at this
  exact this
 refine .lssT O O O (by omega) (.nil (.seq (.condT O (.skip (.seq (.block (.sr (.mv O O (.an O O (.seq (.sr (.mv O O (.mv O O ?_)))))))))))))
 refine .callv [.int .i64 (i:Nat)] O O Ap4 O (An7 k8 fb hc hlt) fun v3 W3 e3 h3=>.an O O (.sr (.mv O O (.mv O O ?_)))
 subst h3
 have hrl:=Nw.root_le (n:=nwOf n o) i
 have hlb:=Nw.lab_le (nwOf n o) i
 have hcl:=Nw.cnt_le (nwOf n o) i
 have hcs:=Nw.cnt_succ (nwOf n o) i
 have hW3:=hW.trans (e3.mono (by have:=hW.size;omega))
 have k8:=k8.ext e3
 have fb:=fb.ext e3
 have fl:=fl.ext e3
 by_cases hr:(nwOf n o).root i=i
 ·refine .neqF O O O (by omega) (.nil (.condF O (.skip (.sr (.mv O O (.mv O O (.mv O O (.ixB (i:=i) un_I B0 O O O hlt ?_))))))))
  refine .storeF (E:=eInt .i64) (i:=i) (z:=(((nwOf n o).lab i:Nat):Int)) (by decide) B0 O O fl O (by rw [G8];exact hlt) (Nat.zero_add _) ⟨by rw [Nw.lab_root _ hr],I3.2 (by omega)⟩ fun W4 f4 u4=>.nil ?_
  rw [M4 (f:=fun b=>(((nwOf n o).lab b:Nat):Int))] at f4
  refine .region (.mv O O (.add O O O (.an O O (.region (.add O O O (.mv O O (.nil ?_)))))))
  rw [wI (by omega),wI (by omega)]
  rw [if_pos hr] at hcs
  exact ⟨rfl,i+1,A5 O (A5 O (A5 O (A5 (by rw [hcs];rfl) (lkA O)))),⟨u4.below hW3 hhw,k8.upd u4 h8h,hlt,hupd' fb u4,f4⟩,by show B-(i+1)<B-i;omega⟩
 ·refine .neqT O O O (by omega) (.nil (.condT O (.sr (.mv O O (.mv O O (.mv O O (.mv O O (.ixB (i:=(nwOf n o).root i) un_I B0 O O O (by omega) ?_))))))))
  refine .ldF (E:=eInt .i64) (i:=(nwOf n o).root i) (by decide) B0 O O (Nat.zero_add _) fl (fil_get (by omega) (by omega)) fun e he=>?_
  obtain ⟨rfl,_⟩:=he
  refine .ixB (i:=i) un_I B0 O O O hlt ?_
  refine .storeF (E:=eInt .i64) (i:=i) (z:=(((nwOf n o).lab i:Nat):Int)) (by decide) B0 O O fl O (by rw [G8];exact hlt) (Nat.zero_add _) ⟨by rw [Nw.lab_of _ i],I3.2 (by omega)⟩ fun W4 f4 u4=>.nil ?_
  rw [M4 (f:=fun b=>(((nwOf n o).lab b:Nat):Int))] at f4
  refine .exit (.region (.add O O O (.mv O O (.nil ?_))))
  rw [wI (by omega)]
  rw [if_neg hr,Nat.add_zero] at hcs
  exact ⟨rfl,i+1,A5 O (A5 O (A5 O (A5 (by rw [hcs];rfl) (lkA O)))),⟨u4.below hW3 hhw,k8.upd u4 h8h,hlt,hupd' fb u4,f4⟩,by show B-(i+1)<B-i;omega⟩
end Go.Proofs.YtggegpiffjbngaaGreat
namespace Go.Kx
open Go Go.RowKit
theorem Els.append {α:Type} {E:ER α} {S:Nat->Prop} {w:World} {es fs:List Value} {l s:List α} (h:Els E S w es l) (h':Els E S w fs s):Els E S w (es++fs) (l++s):=by
 refine ⟨by rw [List.length_append,List.length_append,h.1,h'.1],fun i e x he hx=>?_⟩
 rw [List.getElem?_append] at he hx
 rw [h.1] at he
 split at he
 ·rename_i hi
  rw [if_pos hi] at hx
  exact h.2 i e x he hx
 ·rename_i hi
  rw [if_neg hi] at hx
  exact h'.2 _ e x he hx
section
variable {P:Program} {σ:Env} {w:World} {d:Option Tmp} {ty:TypeId} {pos:String} {af:Array Edge} {g:Option (Nat×Bool)} {α:Type} {E:ER α}
theorem As6 {tt t:TypeId} {x y:Operand} {z:Value} {by_ base:Nat} {X:Nat->Prop} {v u:Value} {l s:List α} {hsz:0<E.sz} (ht:P.underlying tt=some (.slice t)) (hi:infoOf P t=some (z,E.sz,by_)) (hzs:z.cells.size=E.sz) (hx:ev σ x=some v) (hy:ev σ y=some u)
  (hown:OwnL E t base X w v l) (hs:(RL E hsz).R X w u s) (hX:∀ k,X k->k<base) (hl:l.length<=1000000) (hl2:s.length<=1000000) (hby:by_<=100) (hbase:base<=w.heap.size) :
  Gv P ⟨d,.call { callee:=.builtin .append,args:=#[x,y],argTypes:=#[tt,tt] },ty,pos,af,g⟩ σ w fun v' w'=>OwnL E t base X w' v' (l++s)/\Below base w w':=by
 have hown0:=hown
 obtain ⟨es0,ho,hels⟩:=hown
 obtain ⟨es,he,a,c,rfl,hc,_,hcl,hcells⟩:=hs
 have hone:∀ u∈cellsOf es,one1 u=true:=by
  intro u hu
  obtain ⟨e,he',hu'⟩:=List.mem_flatMap.1 hu
  obtain ⟨i,hi'⟩:=List.mem_iff_getElem?.1 he'
  have hlt:i<s.length:=by rw [<-he.1];exact (List.getElem?_eq_some_iff.1 hi').1
  exact E.one (he.2 i e _ hi' (List.getElem?_eq_getElem hlt)) u hu'
 have fin:∀ v' w',w'.ownsRow base t E.sz v' (l.length+s.length) (cellsOf es0++cellsOf es)->w.grownBy w' v.ownBlock->OwnL E t base X w' v' (l++s)/\Below base w w':=by
  intro v' w' h1 h2
  have hb:Below base w w':=hown0.below h2 (Below.refl _ _) hbase
  have hk:Kp X w w':=fun k c t f hk h=>(hb.block k (hX k hk)).trans h
  have hno:∀ k,X k->v'.ownBlock≠some k:=fun k hk e=>by have:=(h1.lt k e).1;have:=hX k hk;omega
  refine ⟨⟨es0++es,?_,?_⟩,hb⟩
  ·rw [show cellsOf (es0++es)=cellsOf es0++cellsOf es by simp [cellsOf],List.length_append];exact h1
  ·refine Els.append ⟨hels.1,fun i e x he hx=>?_⟩ ⟨he.1,fun i e x he' hx=>?_⟩
   ·exact E.mono (fun k _ hk=>⟨hk,hno k hk⟩) (E.keep hk (E.mono (fun k _ hk=>hk.1) (hels.2 i e x he hx)))
   ·exact E.mono (fun k _ hk=>⟨hk,hno k hk⟩) (E.keep hk (he.2 i e x he' hx))
 have hbytes:(l.length+s.length)*by_<=140737488355328:=by
  have:(l.length+s.length)*by_<=2000000*100:=Nat.mul_le_mul (by omega) hby
  omega
 cases a with
 | some ad =>
  have hcell:∀ j u,(cellsOf es)[j]?=some u->w.cell? (ad.add j)=some u:=by
   intro j u hu
   have hpos:0<s.length:=by
    rcases Nat.eq_zero_or_pos s.length with h0 | h0
    ·have:es=[]:=List.length_eq_zero_iff.1 (by rw [he.1];exact h0)
     subst this
     simp [cellsOf] at hu
    ·exact h0
   obtain ⟨ad',h1,_,h2⟩:=hcells hpos
   cases h1
   exact (h2 j u hu).1
  exact (Aj2 (cellsOf es) ht hi hzs hsz hx hy ho hcl hcell hone (by omega) hbytes hbase).mono fun v' w' ⟨h1,h2⟩=>fin v' w' h1 h2
 | none =>
  have h0:s=[]:=by
   cases s with
   | nil=>rfl
   | cons z s=>obtain ⟨ad,h1,_⟩:=hcells (by simp);cases h1
  subst h0
  refine (g_app0 ht hi hx hy ho).gv.mono fun v' w' ⟨h1,h2⟩=>?_
  subst h1;subst h2
  exact ⟨by simpa using hown0,Below.refl _ _⟩
end
section
variable {P:Program} {σ:Env} {w:World} {d:Option Tmp} {ty:TypeId} {pos:String} {af:Array Edge} {g:Option (Nat×Bool)}
theorem v_sidx {xt:TypeId} {x ix:Operand} {k:IntKind} {i:Int} {s:ByteArray} {b:UInt8} (ht:P.underlying xt=some .string) (hx:ev σ x=some (.string s)) (hi:ev σ ix=some (.int k i)) (h0:0<=i) (hb:s[i.toNat]?=some b) :
  Vl P ⟨d,.index xt x ix,ty,pos,af,g⟩ σ w (.int .u8 b.toNat):=by
 refine ⟨(by intro _ h;cases h),fun ρ hρ=>?_⟩
 have h1:=hρ x _ (by simp [Op.operands]) hx
 have h2:=hρ ix _ (by simp [Op.operands]) hi
 simp [execOp,Instr.index,h1,h2,asIntOf,Sem.run_bind,run_underlying ht,Result.andThen_ok,h0,hb]
theorem g_sidx {xt:TypeId} {x ix:Operand} {k:IntKind} {n:Nat} {s:ByteArray} (ht:P.underlying xt=some .string) (hx:ev σ x=some (.string s)) (hi:ev σ ix=some (.int k (n:Nat))) (hn:n<=12) (hs:((List.range 13).all fun j=>(s[j]?).isSome)=true) :
  Gv P ⟨d,.index xt x ix,ty,pos,af,g⟩ σ w fun v w'=>w'=w/\∃ b:UInt8,v=.int .u8 b.toNat:=by
 have h1:=List.all_eq_true.1 hs n (List.mem_range.2 (by omega))
 obtain ⟨b,hb⟩:=Option.isSome_iff_exists.1 h1
 exact (v_sidx ht hx hi (by omega) (b:=b) (by simpa using hb)).gv.mono fun v w' ⟨h1,h2⟩=>⟨h2,b,h1⟩
theorem AS5 {k:IntKind} {t t':TypeId} {x:Operand} {g' i o:Nat} {S:Nat->Prop} {l:List Int} {z:Int} (ht:tyOf P t=some (false,1)) (hx:ev σ x=some (.pointer (some ⟨g',o,none⟩))) (ho:o=i*1) (hF:FP (eInt k) t' S w g' l) (hz:l[i]?=some z) :
  Gv P ⟨d,.load t x,ty,pos,af,g⟩ σ w fun v' w'=>Ext w w'/\Sp.ok (.inl (.int k z)) v' w' :=
 (ob_ldP (E:=eInt k) ht hx ho hF hz).mono fun v' w' ⟨e1,h⟩=>⟨e1,(h w' (Ext.refl _)).1⟩
end
def insAt (q:List Int) (j:Nat) (x:Int) (r:List Int):List Int:=q.take j++x::(q.drop j++r)
section
variable {q r:List Int} {x:Int} {j:Nat}
theorem AF4 (hj:j<=q.length):(insAt q j x r).length=q.length+1+r.length:=by unfold insAt;simp;omega
theorem BD4 (hj:j<=q.length):(insAt q j x r)[j]?=some x:=by
 unfold insAt
 rw [List.getElem?_append_right (by simp;omega)]
 simp [Nat.min_eq_left hj]
theorem Av9 {y:Int} (h:q[j]?=some y):(insAt q (j+1) x r)[j]?=some y:=by
 have hl:=(List.getElem?_eq_some_iff.1 h).1
 unfold insAt
 rw [List.getElem?_append_left (by simp;omega),List.getElem?_take,if_pos (Nat.lt_succ_self j)]
 exact h
theorem An3 {y:Int} (h:q[j]?=some y):((insAt q (j+1) x r).set (j+1) y).set j x=insAt q j x r:=by
 obtain ⟨hl,hy⟩:=List.getElem?_eq_some_iff.1 h
 unfold insAt
 have h1:q.take (j+1)=q.take j++[y]:=by rw [List.take_add_one,h];rfl
 have h2:q.drop j=y::q.drop (j+1):=by rw [<-hy];exact List.drop_eq_getElem_cons hl
 have h3:(q.take j).length=j:=by simp;omega
 rw [h1,h2]
 generalize q.take j=L at h3
 subst h3
 rw [List.append_assoc,List.set_append_right _ _ (by omega),List.set_append_right _ _ (by omega)]
 simp
theorem Ab5:insAt q q.length x r=q++x::r:=by unfold insAt;simp
end
end Go.Kx
namespace Go.Proofs.YtggegpiffjbngaaGreat
open Go Go.Kx Go.RowKit
theorem E_isNaN:Ent Tryz.prog 274:=A0 Tryz.func274 (by kernel_rfl) rfl
theorem isNaN_c {w:World} {a:Int}:CR Tryz.prog 274 #[.int .i64 a] w (Is (.bool false)):=by
 refine enter Tryz.func274 O Tryz.ntmps274 O (.beg (.go O (.neqF O O O O (.goE O ?_))))
 exact .plain [_] Tryz.results274 ⟨rfl,trivial⟩ ⟨Ext.refl _,rfl⟩
theorem BG4:Ent Tryz.prog 257:=A0 Tryz.func257 (by kernel_rfl) rfl
theorem BC9 {w:World} {a b:Int}:CR Tryz.prog 257 #[.int .i64 a,.int .i64 b] w (Is (.bool (decide (a<b)))):=by
 refine enter Tryz.func257 O Tryz.ntmps257 O (.beg (.go O ?_))
 refine .call _ O E_isNaN O isNaN_c fun v1 w1 e1 h1=>?_
 subst h1
 refine .go O (.lss O O O (.goE O ?_))
 exact .plain [_] Tryz.results257 ⟨rfl,trivial⟩ ⟨e1,rfl⟩
theorem E_isort:Ent Tryz.prog 251:=A0 Tryz.func251 (by kernel_rfl) rfl
set_option maxRecDepth 8000 in
theorem isort_c {w:World} {g cap:Nat} {p:List Int} {k:Int} (hF:FP (eInt .i64) 3 (fun _=>True) w g (p++[k])) (hp:p.Pairwise (·<·)) (hl:p.length<=1000) :
  Calls Tryz.prog 251 #[.slice (some ⟨g,0,none⟩) (p.length+1) cap,.int .i64 0,.int .i64 ((p.length+1:Nat):Int)] w fun e w'=>∃ v,e=.returned v/\∃ j,j<=p.length/\(∀ y∈p.drop j,k<y)/\(∀ y∈p.take j,y<=k)/\Chg (fun b=>b=g) w w'/\FP (eInt .i64) 3 (fun _=>True) w' g (insAt p j k []):=by
 refine enterG Tryz.func251 O Tryz.ntmps251 O (.beg (.go O (.inc (i:=0) O O O (by omega) (.goC O ?_))))
 refine .lp (α:=Nat×List Int) [0,1,2] O (fun y=>[(6,.int .i64 (y.1:Nat))]) (fun y W=>Chg (fun b=>b=g) w W/\FP (eInt .i64) 3 (fun _=>True) W g y.2/\((y.1<=p.length/\1<=y.1/\y.2=p++[k])\/(y.1=p.length+1/\∃ j,j<=p.length/\(∀ z∈p.drop j,k<z)/\(∀ z∈p.take j,z<=k)/\y.2=insAt p j k []))) (fun y=>p.length+1-y.1) (1,p++[k]) (lc1 O) ⟨Chg.refl _,hF,?_⟩ ?_
 ·cases p with
  | nil=>exact .inr ⟨rfl,0,Nat.le_refl _,by simp,by simp,rfl⟩
  | cons a p=>exact .inl ⟨by simp,Nat.le_refl _,rfl⟩
 clear hF
 rintro ⟨i,l⟩ W ⟨hC,hF,hI⟩
 replace hC:Chg (fun b=>b=g) w W:=hC
 replace hF:FP (eInt .i64) 3 (fun _=>True) W g l:=hF
 replace hI:(i<=p.length/\1<=i/\l=p++[k])\/(i=p.length+1/\∃ j,j<=p.length/\(∀ z∈p.drop j,k<z)/\(∀ z∈p.take j,z<=k)/\l=insAt p j k []):=hI
 refine .go O ?_
 rcases hI with ⟨hi,hi1,rfl⟩ | ⟨rfl,j,hj,h1,h2,rfl⟩
 rotate_left
 ·exact .lssF O O O (by omega) (.goE O (.plain [] Tryz.results251 trivial ⟨j,hj,h1,h2,hC,hF⟩))
 obtain ⟨q,x,r,hq,hpk,hqs,hqp⟩:∃ q x r,q.length=i/\p++[k]=insAt q i x r/\q.Pairwise (·<·)/\((i<p.length/\∀ y∈q,y<x)\/(i=p.length/\q=p/\x=k/\r=[])):=by
  rcases Nat.lt_or_ge i p.length with hlt | hge
  ·refine ⟨p.take i,p[i],p.drop (i+1)++[k],by simp;omega,?_,hp.sublist (List.take_sublist _ _),.inl ⟨hlt,fun y hy=>?_⟩⟩
   ·have h3:(p.take i).length=i:=by simp;omega
    have h4:insAt (p.take i) i p[i] (p.drop (i+1)++[k])=p.take i++p[i]::(p.drop (i+1)++[k]):=by
     have:=Ab5 (q:=p.take i) (x:=p[i]) (r:=p.drop (i+1)++[k])
     rw [h3] at this
     exact this
    rw [h4]
    have h5:p=p.take i++p[i]::p.drop (i+1):=by rw [<-List.drop_eq_getElem_cons hlt,List.take_append_drop]
    exact (congrArg (·++[k]) h5).trans (by rw [List.append_assoc];rfl)
   ·obtain ⟨a,ha,rfl⟩:=List.mem_take_iff_getElem.1 hy
    have ha':a<i:=by omega
    exact List.pairwise_iff_getElem.1 hp a i (by omega) hlt ha'
  ·have:i=p.length:=by omega
   subst this
   exact ⟨p,k,[],rfl,Ab5.symm,hp,.inr ⟨rfl,rfl,rfl,rfl⟩⟩
 have hfin:∀ {j:Nat} {W':World},j<=i->(∀ y∈q.drop j,x<y)->(j=0\/∀ y,q[j-1]?=some y->y<=x)->FP (eInt .i64) 3 (fun _=>True) W' g (insAt q j x r)->∃ l',FP (eInt .i64) 3 (fun _=>True) W' g l'/\((i+1<=p.length/\1<=i+1/\l'=p++[k])\/(i+1=p.length+1/\∃ j,j<=p.length/\(∀ z∈p.drop j,k<z)/\(∀ z∈p.take j,z<=k)/\l'=insAt p j k [])):=by
  intro j W' hj h1 h2 hF'
  rcases hqp with ⟨hlt,hqx⟩ | ⟨rfl,rfl,rfl,rfl⟩
  ·have hji:j=i:=by
    rcases Nat.lt_or_ge j i with h | h
    ·exfalso
     have h3:q[j]'(by omega)∈q.drop j:=by rw [List.drop_eq_getElem_cons (by omega)];exact List.mem_cons_self ..
     have:=h1 _ h3
     have:=hqx _ (List.getElem_mem (l:=q) (n:=j) (by omega))
     omega
    ·omega
   subst hji
   rw [<-hpk] at hF'
   exact ⟨_,hF',.inl ⟨by omega,by omega,rfl⟩⟩
  ·refine ⟨_,hF',.inr ⟨rfl,j,hj,h1,fun y hy=>?_,rfl⟩⟩
   obtain ⟨a,ha,rfl⟩:=List.mem_take_iff_getElem.1 hy
   rcases h2 with h2 | h2
   ·omega
   ·have hj1:j-1<q.length:=by omega
    have h3:=h2 _ (List.getElem?_eq_getElem hj1)
    rcases Nat.lt_or_ge a (j-1) with h | h
    ·have:=List.pairwise_iff_getElem.1 hp a (j-1) (by omega) hj1 h
     omega
    ·have:a=j-1:=by omega
     subst this
     exact h3
 rw [hpk] at hF
 have hr:q.length+1+r.length=p.length+1:=by
  have:=congrArg List.length hpk
  rw [AF4 (by omega)] at this
  simp at this
  omega
 refine .lssT O O O (by omega) (.goC O ?_)
 refine .lp (α:=Nat) [0,1,2,6] rfl (fun j=>[(7,.int .i64 (j:Nat))]) (fun j W'=>Chg (fun b=>b=g) w W'/\FP (eInt .i64) 3 (fun _=>True) W' g (insAt q j x r)/\j<=i/\∀ y∈q.drop j,x<y) (fun j=>j) i (lc1 rfl) ⟨hC,hF,Nat.le_refl _,by rw [List.drop_of_length_le (by omega)];intro y hy;cases hy⟩ ?_
 clear hF hC
 rintro j W' ⟨hC,hF,hj,hd⟩
 replace hC:Chg (fun b=>b=g) w W':=hC
 have hout:∀ {W2:World},Ext W' W2->(j=0\/∀ y,q[j-1]?=some y->y<=x)->∃ l',FP (eInt .i64) 3 (fun _=>True) W2 g l'/\((i+1<=p.length/\1<=i+1/\l'=p++[k])\/(i+1=p.length+1/\∃ j,j<=p.length/\(∀ z∈p.drop j,k<z)/\(∀ z∈p.take j,z<=k)/\l'=insAt p j k [])):=fun e h=>hfin hj hd h (hF.ext e)
 cases j with
 | zero =>
  refine .goC O ?_
  refine .par follows 13 [.inl _,.inl _,.inl (.bool false),.inl (.bool false),.inl undef,.inl undef,.inl undef,.inl undef,.inl undef,.inl undef,.inl undef,.inl undef,.inl undef] [[],[],[(16,0),(17,1)],[(18,2)],[(19,3)],[(19,3)],[(20,4),(21,5),(19,3)],[(22,6),(19,3)],[(19,3)],[(19,3)],[(25,9),(19,3)],[(24,8),(26,10),(19,3)],[(27,11),(19,3)]] (by kernel_rfl) ⟨
   fun w e=>(v_mv O).ob,
   fun w e=>(v_mv O).ob,
   fun w e=>((Aq1 O O).eq (by simp)).ob,
   fun w e=>(v_mv O).ob,
   fun w e=>rfl,
   fun w e=>rfl,
   fun w e=>rfl,
   fun w e=>rfl,
   fun w e=>rfl,
   fun w e=>rfl,
   fun w e=>rfl,
   fun w e=>rfl,
   fun w e=>rfl,trivial⟩ ?_
  intro W2 d2
  obtain ⟨l',hl',hI'⟩:=hout d2 (.inl rfl)
  exact .go O (.inc O O O (by omega) (.goN O (.mk (i+1,l') O (lc1 O) ⟨⟨hC.trans (Chg.ext d2),hl',hI'⟩,by show p.length+1-(i+1)<p.length+1-i;omega⟩)))
 | succ m =>
 have hmq:m<q.length:=by omega
 have hm:=List.getElem?_eq_getElem hmq
 generalize q[m]=y at hm
 have hg1:=BD4 (q:=q) (x:=x) (r:=r) (j:=m+1) (by omega)
 have hg2:=Av9 (x:=x) (r:=r) hm
 by_cases hxy:x<y
 rotate_left
 ·refine .goC O ?_
  refine .par follows 13 [.inl _,.inl _,.inl (.bool true),.inl (.bool true),.inl _,.inl _,.inl (.pointer (some ⟨g,0+(m+1)*1,none⟩)),.inl (.int .i64 x),.inl _,.inl _,.inl (.int .i64 (m:Nat)),.inl (.pointer (some ⟨g,0+m*1,none⟩)),.inl (.int .i64 y)] [[],[],[(16,0),(17,1)],[(18,2)],[(19,3)],[(19,3)],[(20,4),(21,5),(19,3)],[(22,6),(19,3)],[(19,3)],[(19,3)],[(25,9),(19,3)],[(24,8),(26,10),(19,3)],[(27,11),(19,3)]] (by kernel_rfl) ⟨
   fun w e=>(v_mv O).ob,
   fun w e=>(v_mv O).ob,
   fun w e=>((Aq1 O O).eq (by simp)).ob,
   fun w e=>(v_mv O).ob,
   fun w e=>(v_mv O).ob,
   fun w e=>(v_mv O).ob,
   fun w e=>(E2 (i:=m+1) un_I B0 O O (by omega)).ob,
   fun w e=>AS5 (i:=m+1) B0 O (Nat.zero_add _) (hF.ext e) hg1,
   fun w e=>(v_mv O).ob,
   fun w e=>(v_mv O).ob,
   fun w e=>((AB4 O O).eq (by rw [wI (by omega)];congr 1;omega)).ob,
   fun w e=>(E2 (i:=m) un_I B0 O O (by omega)).ob,
   fun w e=>AS5 (i:=m) B0 O (Nat.zero_add _) (hF.ext e) hg2,trivial⟩ ?_
  intro W2 d2'
  refine .go O (.call _ O BG4 O BC9 fun v3 W3 e3 h3=>?_)
  subst h3
  rw [decide_eq_false hxy]
  have d2:=d2'.trans e3
  obtain ⟨l',hl',hI'⟩:=hout d2 (.inr fun z hz=>by rw [Nat.add_sub_cancel,hm] at hz;cases hz;omega)
  exact .go O (.inc O O O (by omega) (.goN O (.mk (i+1,l') O (lc1 O) ⟨⟨hC.trans (Chg.ext d2),hl',hI'⟩,by show p.length+1-(i+1)<p.length+1-i;omega⟩)))
 refine .goC O ?_
 refine .par follows 13 [.inl _,.inl _,.inl (.bool true),.inl (.bool true),.inl _,.inl _,.inl (.pointer (some ⟨g,0+(m+1)*1,none⟩)),.inl (.int .i64 x),.inl _,.inl _,.inl (.int .i64 (m:Nat)),.inl (.pointer (some ⟨g,0+m*1,none⟩)),.inl (.int .i64 y)] [[],[],[(16,0),(17,1)],[(18,2)],[(19,3)],[(19,3)],[(20,4),(21,5),(19,3)],[(22,6),(19,3)],[(19,3)],[(19,3)],[(25,9),(19,3)],[(24,8),(26,10),(19,3)],[(27,11),(19,3)]] (by kernel_rfl) ⟨
  fun w e=>(v_mv O).ob,
  fun w e=>(v_mv O).ob,
  fun w e=>((Aq1 O O).eq (by simp)).ob,
  fun w e=>(v_mv O).ob,
  fun w e=>(v_mv O).ob,
  fun w e=>(v_mv O).ob,
  fun w e=>(E2 (i:=m+1) un_I B0 O O (by omega)).ob,
  fun w e=>AS5 (i:=m+1) B0 O (Nat.zero_add _) (hF.ext e) hg1,
  fun w e=>(v_mv O).ob,
  fun w e=>(v_mv O).ob,
  fun w e=>((AB4 O O).eq (by rw [wI (by omega)];congr 1;omega)).ob,
  fun w e=>(E2 (i:=m) un_I B0 O O (by omega)).ob,
  fun w e=>AS5 (i:=m) B0 O (Nat.zero_add _) (hF.ext e) hg2,trivial⟩ ?_
 intro W2 d2'
 refine .go O (.call _ O BG4 O BC9 fun v3 W3 e3 h3=>?_)
 subst h3
 rw [decide_eq_true hxy]
 have d2:=d2'.trans e3
 refine .goC O ?_
 have hF2:=hF.ext d2
 refine .heldT follows true (fun _=>True) [some _,some (.int .i64 ((m+1:Nat):Int)),some _,some (.int .i64 ((m+1:Nat):Int)),some (.int .i64 (m:Nat)),some _,some (.int .i64 ((m+1:Nat):Int)),some (.int .i64 (m:Nat)),some (.pointer (some ⟨g,0+m*1,none⟩)),none,some _,some (.int .i64 ((m+1:Nat):Int)),some (.pointer (some ⟨g,0+(m+1)*1,none⟩)),none,some (.pointer (some ⟨g,0+(m+1)*1,none⟩)),none,some (.pointer (some ⟨g,0+m*1,none⟩)),none]
   (.two 9 (.one 13 (.one 15 (.one 17 .done))) 13 (.one 9 (.one 15 (.one 17 .done)))) (by kernel_rfl) (by kernel_rfl)
   ⟨fun _ _=>v_mv rfl,fun _ _=>v_mv rfl,fun _ _=>v_mv rfl,fun _ _=>v_mv rfl,fun _ _=>(AB4 O O).eq (by rw [wI (by omega)];congr 1;omega),fun _ _=>v_mv rfl,fun _ _=>v_mv rfl,fun _ _=>(AB4 O O).eq (by rw [wI (by omega)];congr 1;omega),fun _ _=>E2 (i:=m) un_I B0 O O (by omega),fun _ _=>v_mv rfl,fun _ _=>v_mv rfl,fun _ _=>E2 (i:=m+1) un_I B0 O O (by omega),fun _ _=>E2 (i:=m+1) un_I B0 O O (by omega),fun _ _=>E2 (i:=m) un_I B0 O O (by omega),trivial⟩ ?_
 intro W3 e3 _
 obtain ⟨x9,h9,p9⟩:=(hF2.ext e3).at_ hg2
 obtain ⟨x13,h13,p13⟩:=(hF2.ext e3).at_ hg1
 have q9:PtrX W3 ⟨g,0+m*1,none⟩ x9:=by rw [Nat.zero_add];exact p9
 have q13:PtrX W3 ⟨g,0+(m+1)*1,none⟩ x13:=by rw [Nat.zero_add];exact p13
 refine .gv2 (.gv O trivial O (AB5 (E:=eInt .i64) B0 O q9 h9).gv ?_) (.gv O trivial O (AB5 (E:=eInt .i64) B0 O q13 h13).gv ?_)
 all_goals
  rintro _ _ ⟨rfl,rfl⟩
  refine .gv O trivial O (by first | exact (AB5 (E:=eInt .i64) B0 O q13 h13).gv | exact (AB5 (E:=eInt .i64) B0 O q9 h9).gv) ?_
  rintro _ _ ⟨rfl,rfl⟩
  refine .gv O trivial O (Aj1 (E:=eInt .i64) (i:=m+1) (by decide) B0 O O (hF2.ext e3) O (by rw [AF4 (by omega)];omega) (Nat.zero_add _) h9) ?_
  rintro _ W4 ⟨f4,u4⟩
  refine .gv O trivial O (Aj1 (E:=eInt .i64) (i:=m) (by decide) B0 O O f4 O (by rw [List.length_set,AF4 (by omega)];omega) (Nat.zero_add _) h13) ?_
  rintro _ W5 ⟨f5,u5⟩
  refine .nil (.inl O) ?_
  rw [An3 hm] at f5
  have hC5:Chg (fun b=>b=g) w W5:=(((hC.trans (Chg.ext d2)).trans (Chg.ext e3)).trans (Chg.upd u4 O)).trans (Chg.upd u5 O)
  refine kq.go O (.sub O O O ?_)
  rw [wI (by omega),show (((m+1:Nat):Int)-1)=((m:Nat):Int) by omega]
  refine .goN O (.mk m O (lc1 O) ⟨⟨hC5,f5,by omega,fun z hz=>?_⟩,Nat.lt_succ_self m⟩)
  have hdr:q.drop m=y::q.drop (m+1):=by
   obtain ⟨_,hy⟩:=List.getElem?_eq_some_iff.1 hm
   rw [<-hy];exact List.drop_eq_getElem_cons hmq
  rw [hdr] at hz
  rcases List.mem_cons.1 hz with rfl | hz
  ·exact hxy
  ·exact hd z hz
theorem E_pdq:Ent Tryz.prog 231:=A0 Tryz.func231 (by kernel_rfl) rfl
set_option maxRecDepth 8000 in
theorem pdq_c {w:World} {g cap:Nat} {p:List Int} {k r:Int} (hF:FP (eInt .i64) 3 (fun _=>True) w g (p++[k])) (hp:p.Pairwise (·<·)) (hl:p.length<=11) :
  Calls Tryz.prog 231 #[.slice (some ⟨g,0,none⟩) (p.length+1) cap,.int .i64 0,.int .i64 ((p.length+1:Nat):Int),.int .i64 r] w fun e w'=>∃ v,e=.returned v/\∃ j,j<=p.length/\(∀ y∈p.drop j,k<y)/\(∀ y∈p.take j,y<=k)/\Chg (fun b=>b=g) w w'/\FP (eInt .i64) 3 (fun _=>True) w' g (insAt p j k []):=by
 refine enterG Tryz.func231 O Tryz.ntmps231 O (.beg (.goC O ?_))
 refine .lp (α:=Unit) [0,1,2,3] O (fun _=>[]) (fun _ W=>W=w) (fun _=>0) () AD0 O ?_
 rintro ⟨⟩ W rfl
 refine .go O (.sub O O O ?_)
 rw [wI (by omega)]
 refine .go O (.leqT O O O (by omega) (.go O ?_))
 refine .callG _ O E_isort O (isort_c hF hp (by omega)) fun v W' h=>?_
 exact .goE O (.plain [] Tryz.results231 trivial h)
theorem E_Len64:Ent Tryz.prog 261:=A0 Tryz.func261 (by kernel_rfl) rfl
set_option maxRecDepth 8000 in
theorem Len64_c {w:World} {x:Nat} (hx:x<=12):CR Tryz.prog 261 #[.int .u64 (x:Nat)] w (fun v _=>∃ r,v=.int .i64 r):=by
 refine enter Tryz.func261 O Tryz.ntmps261 O (.beg (.go O ?_))
 refine .geqF O O O (by omega) (.go O (.geqF O O O (by omega) (.go O (.geqF O O O (by omega) (.go O (.cvt C1 AG7 O O ?_))))))
 have h8:IntKind.u8.wrap ((x:Nat):Int)=((x:Nat):Int):=by
  rcases x with _ | _ | _ | _ | _ | _ | _ | _ | _ | _ | _ | _ | _ | x
  all_goals first | rfl | omega
 rw [h8]
 refine .gv O O (g_sidx Az7 O O hx (by kernel_rfl)) ?_
 rintro v w' ⟨rfl,b,rfl⟩
 refine .cvt AG7 O9 O O (.add O O O (.goE O ?_))
 exact .plain [_] Tryz.results261 ⟨rfl,trivial⟩ ⟨Ext.refl _,_,rfl⟩
theorem E_Len:Ent Tryz.prog 232:=A0 Tryz.func232 (by kernel_rfl) rfl
theorem Len_c {w:World} {x:Nat} (hx:x<=12):CR Tryz.prog 232 #[.int .u64 (x:Nat)] w (fun v _=>∃ r,v=.int .i64 r):=by
 refine enter Tryz.func232 O Tryz.ntmps232 O (.beg (.go O ?_))
 refine .call _ O E_Len64 O (Len64_c hx) fun v1 w1 e1 ⟨r,h1⟩=>.goE O ?_
 exact .plain [_] Tryz.results232 ⟨rfl,trivial⟩ ⟨e1,r,h1⟩
theorem E_Sort:Ent Tryz.prog 174:=A0 Tryz.func174 (by kernel_rfl) rfl
set_option maxRecDepth 8000 in
theorem Sort_c {w:World} {g cap:Nat} {p:List Int} {k:Int} (hF:FP (eInt .i64) 3 (fun _=>True) w g (p++[k])) (hp:p.Pairwise (·<·)) (hl:p.length<=11) :
  Calls Tryz.prog 174 #[.slice (some ⟨g,0,none⟩) (p.length+1) cap] w fun e w'=>∃ v,e=.returned v/\∃ j,j<=p.length/\(∀ y∈p.drop j,k<y)/\(∀ y∈p.take j,y<=k)/\Chg (fun b=>b=g) w w'/\FP (eInt .i64) 3 (fun _=>True) w' g (insAt p j k []):=by
 refine enterG Tryz.func174 O Tryz.ntmps174 O (.beg (.go O (.len un_I O O (.go O (.cvt O9 Aq3 O O ?_)))))
 have h8:IntKind.u64.wrap ((p.length+1:Nat):Int)=((p.length+1:Nat):Int):=by
  have:p.length+1<=12:=by omega
  generalize p.length+1=x at this
  rcases x with _ | _ | _ | _ | _ | _ | _ | _ | _ | _ | _ | _ | _ | x
  all_goals first | rfl | omega
 rw [h8]
 refine .call _ O E_Len O (Len_c (by omega)) fun v1 w1 e1 h1=>?_
 obtain ⟨r,rfl⟩:=h1
 refine .callG _ O E_pdq O (pdq_c (hF.ext e1) hp hl) fun v W' h=>.goE O ?_
 obtain ⟨j,hj,h1,h2,hC,hF'⟩:=h
 exact .plain [] Tryz.results174 trivial ⟨j,hj,h1,h2,(Chg.ext e1).trans hC,hF'⟩
end Go.Proofs.YtggegpiffjbngaaGreat
namespace Go.Kx
open Go Go.RowKit
theorem FP.int {kk:IntKind} {t:TypeId} {S S':Nat->Prop} {w:World} {g:Nat} {l:List Int} (h:FP (eInt kk) t S w g l):FP (eInt kk) t S' w g l:=by
 obtain ⟨es,r,hb,he⟩:=h
 exact ⟨es,r,hb,he.1,fun i e x h1 h2=>he.2 i e x h1 h2⟩
end Go.Kx
namespace Go.Proofs.YtggegpiffjbngaaGreat
open Go Go.Kx Go.RowKit
theorem BD9 {l:List Int} (hp:l.Pairwise (·<·)) {i:Nat} {x y:Int} (h1:l[i]?=some x) (h2:l[i+1]?=some y):x<y:=by
 obtain ⟨a1,rfl⟩:=List.getElem?_eq_some_iff.1 h1
 obtain ⟨a2,rfl⟩:=List.getElem?_eq_some_iff.1 h2
 exact List.pairwise_iff_getElem.1 hp i (i+1) a1 a2 (Nat.lt_succ_self i)
theorem Ay3:Ent Tryz.prog 175:=A0 Tryz.func175 (by kernel_rfl) rfl
set_option maxRecDepth 8000 in
theorem Ay5 {S:Nat->Prop} {w:World} {v:Value} {l:List Int} (h:eI.R S w v l) (hp:l.Pairwise (·<·)) (hl:l.length<=1000):CR Tryz.prog 175 #[v] w (Is v):=by
 obtain ⟨a,c,hv,_⟩:=RL.len h
 refine enter Tryz.func175 O Tryz.ntmps175 O (.beg (.go O (.lenR un_I O O h ?_)))
 by_cases h2:l.length<2
 ·exact .lssT O O O (by omega) (.goE O (.plain [_] Tryz.results175 ⟨rfl,trivial⟩ ⟨Ext.refl _,rfl⟩))
 refine .lssF O O O (by omega) (.goC O ?_)
 refine .lp (α:=Nat) [0] O (fun k=>[(3,.int .i64 (k:Nat))]) (fun k W=>Ext w W/\1<=k/\k<=l.length) (fun k=>l.length-k) 1 (lc1 O) ⟨Ext.refl _,Nat.le_refl _,by omega⟩ ?_
 rintro k W ⟨hW,h1,hk⟩
 have hr:=ER.ext eI h hW
 refine .go O (.lenR un_I O O hr (.go O ?_))
 rcases Nat.lt_or_ge k l.length with hlt | hge
 rotate_left
 ·exact .lssF O O O (by omega) (.goE O (.plain [_] Tryz.results175 ⟨rfl,trivial⟩ ⟨hW,rfl⟩))
 obtain ⟨m,rfl⟩:∃ m,k=m+1:=⟨k-1,by omega⟩
 have hg1:=List.getElem?_eq_getElem hlt
 have hg2:=List.getElem?_eq_getElem (l:=l) (i:=m) (by omega)
 have hxy:=BD9 hp hg2 hg1
 generalize l[m+1]=x at hg1 hxy
 generalize l[m]=y at hg2 hxy
 refine .lssT O O O (by omega) (.goC O ?_)
 refine .par follows 9 [.inl _,.inl _,.inr (Ptr (eInt .i64) S x),.inl (.int .i64 x),.inl _,.inl _,.inl (.int .i64 (m:Nat)),.inr (Ptr (eInt .i64) S y),.inl (.int .i64 y)] [[],[],[(16,0),(17,1)],[(18,2)],[],[],[(21,5)],[(20,4),(22,6)],[(23,7)]] (by kernel_rfl) ⟨
  fun w e=>(v_mv O).ob,
  fun w e=>(v_mv O).ob,
  fun w e=>D5 (i:=m+1) un_I B0 O (ER.ext eI hr e) O hg1,
  fun w e x2 hx2=>U3 B0 O hx2,
  fun w e=>(v_mv O).ob,
  fun w e=>(v_mv O).ob,
  fun w e=>((AB4 O O).eq (by rw [wI (by omega)];congr 1;omega)).ob,
  fun w e=>D5 (i:=m) un_I B0 O (ER.ext eI hr e) O hg2,
  fun w e x7 hx7=>U3 B0 O hx7,trivial⟩ ?_
 intro W2 d2 y2 hy2 y7 hy7
 refine .eqlF O O O (by omega) (.go O (.inc O O O (by omega) (.goN O (.mk (m+2) O (lc1 O) ⟨⟨hW.trans d2,by omega,hlt⟩,by show l.length-(m+2)<l.length-(m+1);omega⟩))))
theorem E_Index:Ent Tryz.prog 162:=A0 Tryz.func162 (by kernel_rfl) rfl
set_option maxRecDepth 8000 in
theorem Index_c {S:Nat->Prop} {w:World} {v:Value} {l:List Int} {x:Int} (h:eI.R S w v l) (hl:l.length<=1000):CR Tryz.prog 162 #[v,.int .i64 x] w (fun v _=>∃ r:Int,v=.int .i64 r/\(0<=r<->x∈l)):=by
 refine enter Tryz.func162 O Tryz.ntmps162 O (.beg (.go O (.lenR un_I O O h (.goC O ?_))))
 refine .lp (α:=Nat) [0,1,7] O (fun k=>[(8,.int .i64 (k:Nat))]) (fun k W=>Ext w W/\k<=l.length/\x∉l.take k) (fun k=>l.length-k) 0 (lc1 O) ⟨Ext.refl _,Nat.zero_le _,by simp⟩ ?_
 rintro k W ⟨hW,hk,hn⟩
 have hr:=ER.ext eI h hW
 refine .go O ?_
 rcases Nat.lt_or_ge k l.length with hlt | hge
 rotate_left
 ·refine .lssF O O O (by omega) (.goE O (.plain [_] Tryz.results162 ⟨rfl,trivial⟩ ⟨hW,-1,rfl,?_⟩))
  rw [List.take_of_length_le hge] at hn
  exact ⟨fun h=>absurd h (by decide),fun h=>absurd h hn⟩
 have hg:=List.getElem?_eq_getElem hlt
 have htk:l.take (k+1)=l.take k++[l[k]]:=by rw [List.take_add_one,hg];rfl
 have hmem:=List.getElem_mem hlt
 generalize l[k]=y at hg htk hmem
 refine .lssT O O O (by omega) (.go O (.ixN (i:=k) un_I B0 O O hr O hg fun q hq=>.ldE (E:=eInt .i64) B0 O O hq fun e he=>?_))
 obtain ⟨rfl,_⟩:=he
 by_cases hxy:x=y
 ·subst hxy
  exact .eqlT O O O O (.goE O (.plain [_] Tryz.results162 ⟨rfl,trivial⟩ ⟨hW,k,rfl,fun _=>hmem,fun _=>by omega⟩))
 ·exact .eqlF O O O hxy (.go O (.inc O O O (by omega) (.goN O (.mk (k+1) O (lc1 O) ⟨⟨hW,hlt,by rw [htk];simp [hn,hxy]⟩,by show l.length-(k+1)<l.length-k;omega⟩))))
theorem AX8:Ent Tryz.prog 103:=A0 Tryz.func103 (by kernel_rfl) rfl
theorem AX9 {S:Nat->Prop} {w:World} {v:Value} {l:List Int} {x:Int} (h:eI.R S w v l) (hl:l.length<=1000):CR Tryz.prog 103 #[v,.int .i64 x] w (Is (.bool (decide (x∈l)))):=by
 refine enter Tryz.func103 O Tryz.ntmps103 O (.beg (.go O ?_))
 refine .call _ O E_Index O (Index_c h hl) fun v1 w1 e1 h1=>.go O ?_
 obtain ⟨r,rfl,hr⟩:=h1
 by_cases h0:0<=r
 ·exact .geqT O O O h0 (.goE O (.plain [_] Tryz.results103 ⟨rfl,trivial⟩ ⟨e1,by rw [decide_eq_true (hr.1 h0)];rfl⟩))
 ·exact .geqF O O O h0 (.goE O (.plain [_] Tryz.results103 ⟨rfl,trivial⟩ ⟨e1,by rw [decide_eq_false fun h=>h0 (hr.2 h)];rfl⟩))
theorem AQ4:Ent Tryz.prog 173:=A0 Tryz.func173 (by kernel_rfl) rfl
set_option maxRecDepth 8000 in
theorem AQ2 {S:Nat->Prop} {w:World} {v:Value} {l:List Int} (h:eI.R S w v l) (hp:l.Pairwise (·<·)) (h0:∀ x∈l,0<=x) (hl:l.length<=1000):CR Tryz.prog 173 #[v] w (Is (.bool true)):=by
 refine enter Tryz.func173 O Tryz.ntmps173 O (.beg (.go O (.lenR un_I O O h (.goC O ?_))))
 refine .lp (α:=Nat) [0,5,6] O (fun k=>[(7,.int .i64 (k:Nat))]) (fun k W=>Ext w W/\k<=l.length) (fun k=>l.length-k) 0 (lc1 O) ⟨Ext.refl _,Nat.zero_le _⟩ ?_
 rintro k W ⟨hW,hk⟩
 have hr:=ER.ext eI h hW
 refine .go O ?_
 rcases Nat.lt_or_ge k l.length with hlt | hge
 rotate_left
 ·exact .lssF O O O (by omega) (.goE O (.plain [_] Tryz.results173 ⟨rfl,trivial⟩ ⟨hW,rfl⟩))
 have hg:=List.getElem?_eq_getElem hlt
 have hx:=h0 _ (List.getElem_mem hlt)
 generalize l[k]=x at hg hx
 refine .lssT O O O (by omega) (.go O (.ixN (i:=k) un_I B0 O O hr O hg fun q hq=>.ldE (E:=eInt .i64) B0 O O hq fun e he=>.go O ?_))
 obtain ⟨rfl,_⟩:=he
 refine .lssF O O O (by omega) (.go O ?_)
 have hend:(fun k=>l.length-k) (k+1)<(fun k=>l.length-k) k:=by show l.length-(k+1)<l.length-k;omega
 cases k with
 | zero =>
  exact .gtrF O O O (by omega) (.go O (.inc O O O (by omega) (.goN O (.mk 1 O (lc1 O) ⟨⟨hW,hlt⟩,hend⟩))))
 | succ m =>
  have hg2:=List.getElem?_eq_getElem (l:=l) (i:=m) (by omega)
  have hxy:=BD9 hp hg2 hg
  generalize l[m]=y at hg2 hxy
  refine .gtrT O O O (by omega) (.go O (.sub O O O ?_))
  rw [wI (by omega),show (((m+1:Nat):Int)-1)=((m:Nat):Int) by omega]
  refine .go O (.ixN (i:=m) un_I B0 O O hr O hg2 fun q hq=>.go O (.ldE (E:=eInt .i64) B0 O O hq fun e he=>.go O ?_))
  obtain ⟨rfl,_⟩:=he
  exact .leqF O O O (by omega) (.go O (.inc O O O (by omega) (.goN O (.mk (m+2) O (lc1 O) ⟨⟨hW,hlt⟩,hend⟩))))
structure Ins (o:List Int) (k:Int) (u:List Int):Prop where
 inc:u.Pairwise (·<·)
 mem:∀ x,x∈u<->x=k\/x∈o
 len:u.length=o.length+1
theorem Au1:Ent Tryz.prog 112:=A0 Tryz.func112 (by kernel_rfl) rfl
set_option maxRecDepth 8000 in
theorem Au0 {S:Nat->Prop} {w:World} {va vb:Value} {o:List Int} {k:Int} (up:Up S w) (ha:eI.R S w va o) (hb:eI.R S w vb [k]) (hp:o.Pairwise (·<·)) (h0:∀ x∈o,0<=x) (hk:0<=k) (hko:k∉o) (hl:o.length<=11) :
  CR Tryz.prog 112 #[va,vb] w (Two (fun v W=>∃ u,Ins o k u/\eI.R S W v u) (Is (.int .i64 0))):=by
 refine enter Tryz.func112 O Tryz.ntmps112 O (.beg (.go O ?_))
 refine .call _ O AQ4 O (AQ2 ha hp h0 (by omega)) fun v1 w1 e1 h1=>?_
 subst h1
 refine .go O (.call _ O AQ4 O (AQ2 (ER.ext eI hb e1) (List.pairwise_singleton ..) (fun x hx=>by rw [List.mem_singleton.1 hx];exact hk) (by simp)) fun v2 w2 e2 h2=>?_)
 subst h2
 have x2:=e1.trans e2
 have z2:=x2.size
 have hX:∀ {W:World} {v:Value} {l:List Int},Ext w W->eI.R S w v l->eI.R (fun b=>S b/\b<w.heap.size) W v l:=fun e h=>ER.ext eI (ER.lt eI h) e
 refine .go O (.gv O O (As6 (E:=eInt .i64) (hsz:=by decide) (base:=w.heap.size) (X:=fun b=>S b/\b<w.heap.size) un_I AD4 O O O OwnL.nil (hX x2 ha) (fun b h=>h.2) (by simp) (by omega) (by decide) z2) ?_)
 rintro v3 w3 ⟨hO3,b3⟩
 rw [List.nil_append] at hO3
 have x3:Ext w w3:=Below.trans x2 b3
 refine .go O (.gv O O (As6 (E:=eInt .i64) (hsz:=by decide) (base:=w.heap.size) (X:=fun b=>S b/\b<w.heap.size) un_I AD4 O O O hO3 (hX x3 hb) (fun b h=>h.2) (by omega) (by simp) (by decide) x3.size) ?_)
 rintro v4 w4 ⟨hO4,b4⟩
 have x4:Ext w w4:=Below.trans x3 b4
 obtain ⟨g,cap,rfl,c1,c2,hg,hF⟩:=hO4.fp (by simp)
 have hlen:(o++[k]).length=o.length+1:=by simp
 rw [hlen] at c1 ⊢
 refine .go O (.callG _ O E_Sort O (Sort_c (hF.mono fun _ _ _=>trivial) hp hl) fun v5 w5 h5=>?_)
 obtain ⟨j,hj,hd,ht,hC,hF5⟩:=h5
 have hIns:Ins o k (insAt o j k []):=by
  refine ⟨?_,fun x=>?_,by rw [AF4 hj];rfl⟩
  ·unfold insAt
   rw [List.append_nil]
   refine List.pairwise_append.2 ⟨hp.sublist (List.take_sublist _ _),List.pairwise_cons.2 ⟨hd,hp.sublist (List.drop_sublist _ _)⟩,fun a ha b hb=>?_⟩
   have h1:=ht a ha
   have h2:a≠k:=fun e=>hko (e▸List.mem_of_mem_take ha)
   rcases List.mem_cons.1 hb with rfl | hb
   ·omega
   ·have:=hd b hb;omega
  ·unfold insAt
   rw [List.append_nil,List.mem_append,List.mem_cons]
   conv=>rhs;rw [<-List.take_append_drop j o,List.mem_append]
   constructor
   ·rintro (h | h | h)
    ·exact .inr (.inl h)
    ·exact .inl h
    ·exact .inr (.inr h)
   ·rintro (h | h | h)
    ·exact .inr (.inl h)
    ·exact .inl h
    ·exact .inr (.inr h)
 have x5:Ext w w5:=hC.below x4 x4.size fun b hb=>by rw [hb];exact hg
 have hR:=(hF5.int (S':=S)).toR (hsz:=by decide) (c:=cap) (up g hg) (by rw [hIns.len];exact c1) (by rw [hIns.len];omega)
 rw [hIns.len] at hR
 refine .go O (.call _ O Ay3 O (Ay5 hR hIns.inc (by rw [hIns.len];omega)) fun v6 w6 e6 h6=>?_)
 subst h6
 exact .goE O (.plain [_,_] Tryz.results112 ⟨rfl,rfl,trivial⟩ ⟨x5.trans e6,_,_,rfl,⟨_,hIns,ER.ext eI hR e6⟩,rfl⟩)
end Go.Proofs.YtggegpiffjbngaaGreat
namespace Go.Kx
open Go Go.RowKit
theorem Ar1 (P:Nat->Bool) (i:Nat):∀ d,∃ t,(List.range (i+d)).filter P=(List.range i).filter P++t
 | 0=>⟨[],by simp⟩
 | d+1=>by
  obtain ⟨t,ht⟩:=Ar1 P i d
  rw [show i+(d+1)=(i+d)+1 by omega,List.range_succ,List.filter_append,ht,List.append_assoc]
  exact ⟨_,rfl⟩
theorem rng_at {P:Nat->Bool} {r C:Nat} (hr:r<C) (hP:P r=true):((List.range C).filter P).getD ((List.range r).filter P).length 0=r/\((List.range r).filter P).length<((List.range C).filter P).length:=by
 obtain ⟨t,ht⟩:=Ar1 P (r+1) (C-(r+1))
 rw [show r+1+(C-(r+1))=C by omega,List.range_succ,List.filter_append] at ht
 have e:List.filter P [r]=[r]:=by simp [hP]
 rw [e] at ht
 rw [ht]
 constructor
 ·rw [List.getD_eq_getElem?_getD,List.append_assoc,List.getElem?_append_right (Nat.le_refl _)];simp
 ·simp
def Nw.refsTo (n:Nw) (b:Nat):List Nat:=(List.range b).filter fun r=>decide (n.root r=r)
theorem Nw.refsTo_len (n:Nw) (b:Nat):(n.refsTo b).length=n.cnt b:=rfl
theorem Nw.refsTo_succ (n:Nw) (b:Nat):n.refsTo (b+1)=n.refsTo b++if n.root b=b then [b] else []:=by
 unfold Nw.refsTo
 rw [List.range_succ,List.filter_append]
 by_cases h:n.root b=b
 ·simp [h]
 ·simp [h]
theorem Nw.cnt_mono (n:Nw) (a:Nat):∀ d,n.cnt a<=n.cnt (a+d)
 | 0=>Nat.le_refl _
 | d+1=>by have:=Nw.cnt_mono n a d;have:=n.cnt_succ (a+d);rw [show a+(d+1)=a+d+1 by omega];omega
theorem Nw.lab_cnt (n:Nw) (b:Nat):n.lab b=n.cnt b<->n.root b=b:=by
 refine ⟨fun h=>?_,fun h=>n.lab_root h⟩
 have hle:=Nw.root_le (n:=n) b
 rcases Nat.lt_or_ge (n.root b) b with hlt | hge
 ·exfalso
  have h1:n.lab b=n.cnt (n.root b):=rfl
  have h2:=n.cnt_succ (n.root b)
  rw [if_pos (Nw.root_root b)] at h2
  have h3:=n.cnt_mono (n.root b+1) (b-(n.root b+1))
  rw [show n.root b+1+(b-(n.root b+1))=b by omega] at h3
  omega
 ·omega
theorem Nw.refs_lab (n:Nw) {b:Nat} (hb:b<n.B):n.refs.getD (n.lab b) 0=n.root b/\n.lab b<n.refs.length:=by
 have hle:=Nw.root_le (n:=n) b
 exact rng_at (P:=fun r=>decide (n.root r=r)) (r:=n.root b) (C:=n.B) (by omega) (decide_eq_true (Nw.root_root b))
theorem Nw.mem_refs {n:Nw} {r:Nat}:r∈n.refs<->r<n.B/\n.root r=r:=by
 unfold Nw.refs
 rw [List.mem_filter,List.mem_range]
 simp
theorem Nw.lab_eq {n:Nw} {a b:Nat} (ha:a<n.B) (hb:b<n.B):n.lab a=n.lab b<->n.root a=n.root b:=by
 constructor
 ·intro h
  rw [<-(n.refs_lab ha).1,<-(n.refs_lab hb).1,h]
 ·intro h;unfold Nw.lab;rw [h]
end Go.Kx
namespace Go.Proofs.YtggegpiffjbngaaGreat
open Go Go.Kx Go.RowKit
theorem V8:Ent Tryz.prog 71:=A0 Tryz.func71 (by kernel_rfl) rfl
theorem U8 {S:Nat->Prop} {w:World} {vn vo:Value} {n:NtV} {o:List Int} (up:Up S w) (hn:eN.R S w vn n) (ho:eI.R S w vo o) :
  CR Tryz.prog 71 #[vn,vo] w (Two (eI.at S (if outE n o=0 then pInts (nwOf n o).refs else [])) (Is (.int .i64 (outE n o)))):=by
 have hvn:=shpA (E:=eN) O hn
 refine enter Tryz.func71 O Tryz.ntmps71 O ?_
 refine .sr (.box O O fun w1 b2 n1=>.asg O O (.an O O ?_))
 obtain ⟨e1,k2,hb2,hs1⟩:=n1
 refine .sr (.ldA ty_N O O k2 (eN.csz hn) (.mv O O ?_))
 rw [<-hvn]
 refine .call _ O AE5 O (AD2 (up.ext e1.size) (hn.ext e1) (ho.ext e1)) fun v2 w2 e2 h2=>?_
 obtain ⟨vl,ve,rfl,hl,he⟩:=h2
 replace he:ve=.int .i64 (outE n o):=he
 subst he
 have x2:=e1.trans e2
 refine .mv O O (.ext O O O (.ext O O O (.asg O O (.an O O (.seq (.sr (.mv O O ?_)))))))
 by_cases hE:outE n o=0
 rotate_left
 ·refine .neqT O O O hE (.nil (.condT O (.sr (.mv O O (.asg O O (.an O O (.ret ?_)))))))
  refine .plain [_,_] Tryz.results71 ⟨rfl,rfl,trivial⟩ ⟨x2,_,_,rfl,?_,rfl⟩
  rw [if_neg hE];exact RL.nil
 have ok:=K4 hE
 rw [if_pos hE] at hl ⊢
 have hB6:=ok.b6
 refine .neqF O O O hE (.nil (.condF O (.skip (.sr (.an O O ?_)))))
 have hlW:∀ {W:World},Below w2.heap.size w2 W->eI.R (fun k=>S k/\k<w2.heap.size) W vl (tabI (nwOf n o).B (nwOf n o).lab):=fun h=>eI.keep (fun k c t f hk hh=>(h.block k hk.2).trans hh) (ER.lt eI hl)
 refine .seq (.sr (.mv O O (.lenR un_I O O hl (.mv O O (.nil ?_)))))
 rw [O3]
 refine .block (.loop (α:=Nat×Value) (fun y=>[(8,y.2),(20,vl),(21,.int .i64 ((nwOf n o).B:Nat)),(22,.int .i64 (y.1:Nat))]) (fun y W=>Below w2.heap.size w2 W/\y.1<=(nwOf n o).B/\OwnL (eInt .i64) 3 w2.heap.size S W y.2 (pInts ((nwOf n o).refsTo y.1))) (fun y=>(nwOf n o).B-y.1) (0,.slice none 0 0) ?_ ?_ ?_)
 ·exact lkA rfl
 ·exact ⟨Below.refl _ _,Nat.zero_le _,OwnL.nil⟩
 rintro ⟨i,v⟩ W ⟨hW,hi,hown⟩
 replace hW:Below w2.heap.size w2 W:=hW
 replace hi:i<=(nwOf n o).B:=hi
 replace hown:OwnL (eInt .i64) 3 w2.heap.size S W v (pInts ((nwOf n o).refsTo i)):=hown
 refine .sr ?_
 rcases Nat.lt_or_ge i (nwOf n o).B with hlt | hge
 rotate_left
 ·refine .lssF O O O (by omega) (.nil (.seq (.condF O (.exit (.sr (.mv O O (.asg O O (.an O O (.ret ?_)))))))))
  have:i=(nwOf n o).B:=by omega
  subst this
  refine .plain [_,_] Tryz.results71 ⟨rfl,rfl,trivial⟩ ⟨x2.trans hW,_,_,rfl,?_,by rw [hE]⟩
  exact hown.toR (fun k hk=>up k (by have:=x2.size;omega)) (fun _ h=>h)
 refine .lssT O O O (by omega) (.nil (.seq (.condT O (.skip (.seq (.block (.sr (.mv O O (.ixN (i:=i) un_I B0 O O (hlW hW) O (X9 hlt) fun q hq=>.ldE (E:=eInt .i64) B0 O O hq fun e he=>.asg O O (.an O O ?_))))))))))
 obtain ⟨rfl,_⟩:=he
 have hvl:eI.R (fun k=>S k\/w2.heap.size<=k) W v (pInts ((nwOf n o).refsTo i)):=hown.toR (fun k hk=>.inr hk) (fun _ h=>.inl h)
 have hcl:=(nwOf n o).cnt_le i
 have hlb:=(nwOf n o).lab_cnt i
 have hrs:=(nwOf n o).refsTo_succ i
 have hlen:(pInts ((nwOf n o).refsTo i)).length=(nwOf n o).cnt i:=by simp [Nw.refsTo_len]
 refine .sr (.mv O O (.mv O O (.lenR un_I O O hvl ?_)))
 rw [hlen]
 by_cases hr:(nwOf n o).root i=i
 ·rw [if_pos hr] at hrs
  refine .eqlT O O O (by rw [hlb.2 hr]) (.nil (.condT O (.region (.mv O O (.mv O O (.bsl _ O O AO2 fun W1 by_ ny=>?_))))))
  obtain ⟨ey,ky,hby,hsy⟩:=ny
  have hW1:=hW.trans (ey.mono hW.size)
  refine .gv O O (AA0 (E:=eInt .i64) (base:=w2.heap.size) (n:=((i:Nat):Int)) (e:=.int .i64 (i:Nat)) (by decide) un_I AD4 O O O (hown.ext ey) ky ⟨rfl,I3.2 (by omega)⟩ (by rw [hlen];omega) (by decide) hW1.size) ?_
  rintro v8 W8 ⟨ho8,hg8⟩
  refine .an O O (.region (.add O O O (.mv O O (.nil ?_))))
  rw [wI (by omega)]
  refine ⟨rfl,(i+1,v8),lkA rfl,⟨(hown.ext ey).below hg8 hW1 hW1.size,hlt,?_⟩,by show (nwOf n o).B-(i+1)<(nwOf n o).B-i;omega⟩
  show OwnL (eInt .i64) 3 w2.heap.size S W8 v8 (pInts ((nwOf n o).refsTo (i+1)))
  rw [hrs]
  unfold pInts
  rw [List.map_append]
  exact ho8
 ·rw [if_neg hr,List.append_nil] at hrs
  refine .eqlF O O O (by intro e;exact hr (hlb.1 (by omega))) (.nil (.condF O (.skip (.region (.add O O O (.mv O O (.nil ?_)))))))
  rw [wI (by omega)]
  refine ⟨rfl,(i+1,v),lkA rfl,⟨hW,hlt,?_⟩,by show (nwOf n o).B-(i+1)<(nwOf n o).B-i;omega⟩
  show OwnL (eInt .i64) 3 w2.heap.size S W v (pInts ((nwOf n o).refsTo (i+1)))
  rw [hrs];exact hown
def busB (n:NtV) (a:Int):Prop:=0<=a/\a<n.b
open Classical in
noncomputable def conE (n:NtV) (o:List Int) (a b:Int):Int:=if outE n o≠0 then outE n o else if busB n a/\busB n b then 0 else 1
theorem conE_ok {n:NtV} {o:List Int} {a b:Int} (h:conE n o a b=0):outE n o=0/\busB n a/\busB n b:=by
 unfold conE at h
 split at h
 ·exact absurd h (by assumption)
 ·split at h
  ·exact ⟨Classical.not_not.1 (by assumption),by assumption⟩
  ·cases h
open Classical in
noncomputable def conB (n:NtV) (o:List Int) (a b:Int):Bool:=decide (conE n o a b=0/\(nwOf n o).root a.toNat=(nwOf n o).root b.toNat)
theorem AI8:Ent Tryz.prog 79:=A0 Tryz.func79 (by kernel_rfl) rfl
theorem AI3 {S:Nat->Prop} {w:World} {vn vo:Value} {n:NtV} {o:List Int} {a b:Int} (up:Up S w) (hn:eN.R S w vn n) (ho:eI.R S w vo o) :
  CR Tryz.prog 79 #[vn,vo,.int .i64 a,.int .i64 b] w (Two (Is (.bool (conB n o a b))) (Is (.int .i64 (conE n o a b)))):=by
 obtain ⟨s,rfl,hs,hb⟩:=hn
 have hn:eN.R S w (.agg #[.int .i64 n.b,s]) n:=⟨s,rfl,hs,hb⟩
 refine enter Tryz.func79 O Tryz.ntmps79 O ?_
 refine .sr (.box O O fun w1 b2 n1=>.asg O O (.an O O ?_))
 obtain ⟨e1,k2,hb2,hs1⟩:=n1
 refine .sr (.ldA ty_N O O k2 O (.mv O O ?_))
 refine .call _ O AE5 O (AD2 (up.ext e1.size) (hn.ext e1) (ho.ext e1)) fun v2 w2 e2 h2=>?_
 obtain ⟨vl,ve,rfl,hl,he⟩:=h2
 replace he:ve=.int .i64 (outE n o):=he
 subst he
 have x2:=e1.trans e2
 have k2:=k2.ext e2
 refine .mv O O (.ext O O O (.ext O O O (.asg O O (.an O O (.seq (.sr (.mv O O ?_)))))))
 have hno:conE n o a b≠0->conB n o a b=false:=fun h=>by unfold conB;exact decide_eq_false fun h'=>h h'.1
 by_cases hE:outE n o=0
 rotate_left
 ·have hc:conE n o a b=outE n o:=by unfold conE;rw [if_pos hE]
  refine .neqT O O O hE (.nil (.condT O (.sr (.mv O O (.asg O O (.an O O (.ret ?_)))))))
  exact .plain [_,_] Tryz.results79 ⟨rfl,rfl,trivial⟩ ⟨x2,_,_,rfl,by rw [hno (by rw [hc];exact hE)],by rw [hc];rfl⟩
 have ok:=K4 hE
 rw [if_pos hE] at hl
 have hbad:¬ (busB n a/\busB n b)->∀ {σ:Env},Leave Tryz.prog Tryz.f79 48 (fun v w'=>Ext w w'/\Two (Is (.bool (conB n o a b))) (Is (.int .i64 (conE n o a b))) v w') ((9,.int .i64 1)::(8,.bool false)::σ) [] w2:=fun h σ=>by
  have hc:conE n o a b=1:=by unfold conE;rw [if_neg (by simpa using hE),if_neg h]
  exact .plain [_,_] Tryz.results79 ⟨rfl,rfl,trivial⟩ ⟨x2,_,_,rfl,by rw [hno (by rw [hc];decide)],by rw [hc]⟩
 refine .neqF O O O hE (.nil (.condF O (.skip (.seq (.sr (.mv O O ?_))))))
 by_cases ha0:a<0
 ·refine .lssT O O O ha0 (.mv O O (.gs O O O O O (.gs O O O O O (.gs O O O O O (.gs O O O O O (.pick O O O (.mv O O (.gs O O O O O (.gs O O O O O (.pick O O O (.mv O O (.gs O O O O O (.gs O O O O O (.gs O O O O O (.gs O O O O O (.pick O O O (.nil (.condT O (.sr (.asg O O (.an O O (.ret ?_))))))))))))))))))))))
  exact hbad fun h=>by have:=h.1.1;omega
 refine .lssF O O O (by omega) (.mv O O (.gr O O O O (.mv O O (.gr O O O O (.fa H3 O O (.gr O O O O (.ld A8 O O k2 O (.gr O O O O ?_))))))))
 by_cases ha1:n.b<=a
 ·refine .geqT O O O ha1 (.pick O O O (.mv O O (.gs O O O O O (.gs O O O O O (.pick O O O (.mv O O (.gs O O O O O (.gs O O O O O (.gs O O O O O (.gs O O O O O (.pick O O O (.nil (.condT O (.sr (.asg O O (.an O O (.ret ?_)))))))))))))))))
  exact hbad fun h=>by have:=h.1.2;omega
 refine .geqF O O O (by omega) (.pick O O O (.mv O O (.gr O O O O (.mv O O (.gr O O O O ?_)))))
 by_cases hb0:b<0
 ·refine .lssT O O O hb0 (.pick O O O (.mv O O (.gs O O O O O (.gs O O O O O (.gs O O O O O (.gs O O O O O (.pick O O O (.nil (.condT O (.sr (.asg O O (.an O O (.ret ?_)))))))))))))
  exact hbad fun h=>by have:=h.2.1;omega
 refine .lssF O O O (by omega) (.pick O O O (.mv O O (.gr O O O O (.mv O O (.gr O O O O (.fa H3 O O (.gr O O O O (.ld A8 O O k2 O (.gr O O O O ?_)))))))))
 by_cases hb1:n.b<=b
 ·refine .geqT O O O hb1 (.pick O O O (.nil (.condT O (.sr (.asg O O (.an O O (.ret ?_)))))))
  exact hbad fun h=>by have:=h.2.2;omega
 refine .geqF O O O (by omega) (.pick O O O (.nil (.condF O (.skip (.seq ?_)))))
 have hc:conE n o a b=0:=by unfold conE;rw [if_neg (by simpa using hE),if_pos ⟨⟨by omega,by omega⟩,by omega,by omega⟩]
 obtain ⟨a',rfl⟩:∃ a':Nat,a=a':=⟨a.toNat,by omega⟩
 obtain ⟨b',rfl⟩:∃ b':Nat,b=b':=⟨b.toNat,by omega⟩
 have hnb:=ok.b
 have haB:a'<(nwOf n o).B:=by omega
 have hbB:b'<(nwOf n o).B:=by omega
 refine .par follows 9 [.inl vl,.inl (.int .i64 (a':Nat)),.inr (Ptr (eInt .i64) S ((nwOf n o).lab a':Nat)),.inl (.int .i64 ((nwOf n o).lab a':Nat)),.inl vl,.inl (.int .i64 (b':Nat)),.inr (Ptr (eInt .i64) S ((nwOf n o).lab b':Nat)),.inl (.int .i64 ((nwOf n o).lab b':Nat)),.inl (.bool (conB n o a' b'))]
  [[],[],[(39,0),(40,1)],[(41,2)],[],[],[(43,4),(44,5)],[(45,6)],[(42,3),(46,7)]] (by kernel_rfl) ⟨
  fun w e=>(v_mv O).ob,fun w e=>(v_mv O).ob,fun w e=>D5 (i:=a') un_I B0 O (ER.ext eI hl e) O (X9 haB),fun w e x hx=>U3 B0 O hx,
  fun w e=>(v_mv O).ob,fun w e=>(v_mv O).ob,fun w e=>D5 (i:=b') un_I B0 O (ER.ext eI hl e) O (X9 hbB),fun w e x hx=>U3 B0 O hx,
  fun w e=>((v_eql O O).eq (by
   have:=Nw.lab_eq haB hbB
   unfold conB
   by_cases h:(nwOf n o).root a'=(nwOf n o).root b'
   ·rw [decide_eq_true ⟨hc,h⟩,this.2 h];simp
   ·rw [decide_eq_false fun h'=>h h'.2]
    have h2:(nwOf n o).lab a'≠(nwOf n o).lab b':=fun e=>h (this.1 e)
    simp;omega)).ob,trivial⟩ ?_
 intro w3 e3 _ _ _ _
 refine .asg O O (.an O O (.ret ?_))
 exact .plain [_,_] Tryz.results79 ⟨rfl,rfl,trivial⟩ ⟨x2.trans e3,_,_,rfl,rfl,by rw [hc]⟩
end Go.Proofs.YtggegpiffjbngaaGreat
namespace Go.Kx
open Go Go.RowKit
def Nw.lmL (n:Nw) (l:List Nat):RM:=fun b c=>l.foldl (fun s k=>s+n.g k*(n.inc k b*n.inc k c)) 0
theorem Nw.lmL_snoc (n:Nw) (l:List Nat) (k b c:Nat):n.lmL (l++[k]) b c=n.lmL l b c+n.g k*(n.inc k b*n.inc k c):=by unfold Nw.lmL;rw [List.foldl_append];rfl
theorem Nw.lmL_free {n:Nw} {p:List Nat} (b c:Nat):∀ j,(∀ k,k<j->(n.g k=0<->k∈p))->n.lmL (freeTo p j) b c=sumN j fun k=>n.g k*(n.inc k b*n.inc k c)
 | 0,_=>rfl
 | j+1,h=>by
  have ih:=Nw.lmL_free (n:=n) (p:=p) b c j fun k hk=>h k (by omega)
  have hj:=h j (by omega)
  rw [Go.Proofs.YtggegpiffjbngaaGreat.L0]
  show _=sumN j _+_
  by_cases hg:n.g j=0
  ·rw [if_pos (hj.1 hg),List.append_nil,ih]
   dsimp only
   rw [hg,Rat.zero_mul,Rat.add_zero]
  ·rw [if_neg (fun h=>hg (hj.2 h)),Nw.lmL_snoc,ih]
def upE (f:RM) (i j:Nat) (y:Rat):RM:=fun b c=>if b=i then (if c=j then y else f i c) else f b c
theorem AN1 {f:RM} {i j b c:Nat} {y:Rat} (h:b≠i\/c≠j):upE f i j y b c=f b c:=by
 unfold upE
 by_cases hb:b=i
 ·subst hb
  rw [if_pos rfl,if_neg (by rcases h with h | h;exact absurd rfl h;exact h)]
 ·rw [if_neg hb]
theorem Nw.four (n:Nw) {k:Nat} (hne:n.F k≠n.T k) (f:RM) (b c:Nat) :
  upE (upE (upE (upE f (n.F k) (n.F k) (f (n.F k) (n.F k)+n.g k)) (n.F k) (n.T k) (f (n.F k) (n.T k)-n.g k)) (n.T k) (n.T k) (f (n.T k) (n.T k)+n.g k)) (n.T k) (n.F k) (f (n.T k) (n.F k)-n.g k) b c=f b c+n.g k*(n.inc k b*n.inc k c):=by
 unfold upE Nw.inc dl
 generalize n.F k=F at *
 generalize n.T k=T at *
 by_cases h1:b=F
 ·subst h1
  by_cases h2:c=b
  ·subst h2;simp [hne,Ne.symm hne];grind
  ·by_cases h3:c=T
   ·subst h3;simp [hne,Ne.symm hne];grind
   ·simp [hne,Ne.symm hne,h2,h3,Ne.symm h2,Ne.symm h3];grind
 ·by_cases h1':b=T
  ·subst h1'
   by_cases h2:c=b
   ·subst h2;simp [hne,Ne.symm hne];grind
   ·by_cases h3:c=F
    ·subst h3;simp [hne,Ne.symm hne];grind
    ·simp [hne,Ne.symm hne,h2,h3,Ne.symm h2,Ne.symm h3];grind
  ·simp [h1,h1',Ne.symm h1,Ne.symm h1'];grind
theorem Aq9 {g:Rat} {s:Rat} {L:Nat} (h:Rsz g L) (hL:1<=L) (hs:s=0\/s=1\/s = -1):Rsz (g*s) L:=by
 rcases hs with rfl | rfl | rfl
 ·rw [Rat.mul_zero];exact Rsz.zero hL
 ·rw [Rat.mul_one];exact h
 ·rw [show g*(-1) = -g by grind];exact h.neg
theorem Nw.inc_tri (n:Nw) (k b:Nat):n.inc k b=0\/n.inc k b=1\/n.inc k b = -1:=by
 unfold Nw.inc dl
 split<;>split<;>grind
theorem Nw.lmL_rsz (n:Nw) {L:Nat} (hL:1<=L) (hg:∀ k,Rsz (n.g k) L) (b c:Nat) (l:List Nat):Rsz (n.lmL l b c) (1+l.length*(L+1)):=by
 have key:∀ (m:Nat) (l:List Nat),l.length=m->Rsz (n.lmL l b c) (1+m*(L+1)):=by
  intro m
  induction m with
  | zero=>intro l hl;rw [List.length_eq_zero_iff.1 hl];exact Rsz.zero (by omega)
  | succ m ih =>
   intro l hl
   obtain ⟨l',k,rfl⟩:∃ l' k,l=l'++[k]:=⟨l.dropLast,l.getLast (by intro e;rw [e] at hl;cases hl),(List.dropLast_concat_getLast _).symm⟩
   rw [Nw.lmL_snoc]
   have h1:=ih l' (by simp at hl;exact hl)
   have h2:Rsz (n.g k*(n.inc k b*n.inc k c)) L:=Aq9 (hg k) hL (by
    rcases n.inc_tri k b with h | h | h<;>rcases n.inc_tri k c with h' | h' | h'<;>rw [h,h']<;>grind)
   refine (h1.add h2).mono ?_
   rw [Nat.add_mul];omega
 exact key _ l rfl
end Go.Kx
namespace Go.Proofs.YtggegpiffjbngaaGreat
open Go Go.Kx Go.RowKit
theorem nwOk.gsz {n:NtV} {o:List Int} (h:nwOk n o) (k:Nat):Rsz ((nwOf n o).g k) 1:=by
 show Rsz (if k∈oN o then (0:Rat) else ((n.ls.getD k ln0).x:Rat)⁻¹) 1
 have hx:1<=(n.ls.getD k ln0).x/\(n.ls.getD k ln0).x<=1000:=by
  rcases Nat.lt_or_ge k n.ls.length with hk | hk
  ·exact h.x k hk
  ·rw [List.getD_eq_getElem?_getD,List.getElem?_eq_none hk];decide
 split
 ·exact Rsz.zero (Nat.le_refl _)
 ·exact (Rsz.int _ (by omega) (Nat.le_refl _)).inv (Nat.le_refl _)
end Go.Proofs.YtggegpiffjbngaaGreat
namespace Go.Kx
open Go Go.RowKit
def Nw.gA (n:Nw):List (List QV):=tabM n.B n.B n.gm
def Nw.th (n:Nw) (b c:Nat):Rat:=rm (invM n.gA) c b
def Nw.hf (n:Nw) (k b:Nat):Rat:=n.fl (n.th b) k
end Go.Kx
namespace Go.Proofs.YtggegpiffjbngaaGreat
open Go Go.Kx Go.RowKit
section
variable {n:Nw}
theorem H2:n.gA.length=n.B:=A3 ..
theorem AF8 (hB:1<=n.B):colsOf n.gA=n.B:=by unfold Nw.gA;rw [AN8,if_neg (by omega)]
theorem rm_gA {i k:Nat} (hi:i<n.B) (hk:k<n.B):rm n.gA i k=n.gm i k:=by unfold Nw.gA;rw [AS2,if_pos ⟨hi,hk⟩]
theorem Ad9 (ok:n.Ok) (hB:1<=n.B):invertible n.gA:=by
 have hc:=AF8 hB
 rw [BD1 (by rw [hc,H2]),H2]
 have h1:=Aw2 n.gA
 rw [hc] at h1
 rcases Nat.eq_zero_or_pos (nullM n.gA).length with h0 | hp
 ·omega
 exfalso
 rw [AP6] at hp
 obtain ⟨hk,hkp⟩:=Aw5 hp
 rw [hc] at hk
 have hz:=Nw.ker0 (θ:=nv (redF n.gA) (redP n.gA) ((freeC n.gA).getD 0 0)) ok (fun b hb=>by
  have h2:=Av4 (m:=n.gA) (k:=(freeC n.gA).getD 0 0) (by rw [hc];exact hk) b
  rw [hc] at h2
  have h3:=Nw.gm_sum ok (nv (redF n.gA) (redP n.gA) ((freeC n.gA).getD 0 0)) hb
  have h4:sumN n.B (fun c=>rm n.gA b c*nv (redF n.gA) (redP n.gA) ((freeC n.gA).getD 0 0) c)=sumN n.B (fun c=>n.gm b c*nv (redF n.gA) (redP n.gA) ((freeC n.gA).getD 0 0) c):=A2 fun c hc'=>by rw [rm_gA hb hc']
  rw [<-h4,h2] at h3
  split
  ·rw [if_pos (by assumption)] at h3;exact h3.symm
  ·rw [if_neg (by assumption)] at h3;exact h3.symm) _ hk
 rw [nv_self (not_piv hkp)] at hz
 exact absurd hz (by decide)
theorem Ah2 (ok:n.Ok) (hB:1<=n.B) {b i:Nat} (hb:b<n.B) (hi:i<n.B):(if n.root i=i then n.th b i else n.lap (n.th b) i)=dl i b:=by
 have h:=Ab4 (Ad9 ok hB) (i:=i) (k:=b) (by rw [H2];exact hi) (by rw [H2];exact hb)
 rw [H2] at h
 rw [<-Nw.gm_sum ok (n.th b) hi]
 have e:sumN n.B (fun c=>n.gm i c*n.th b c)=sumN n.B (fun j=>rm n.gA i j*rm (invM n.gA) j b):=A2 fun c hc=>by rw [rm_gA hi hc];rfl
 rw [e,h];rfl
end
theorem As8 {n:NtV} {o:List Int} (h:nwOk n o):mk_ 21 (nwOf n o).gA:=AS6 fun b c hb hc=>by
 unfold Nw.gm
 split
 ·unfold dl
  split
  ·exact rsz1 (by decide)
  ·exact Rsz.zero (by decide)
 ·unfold Nw.Lm
  rw [<-Nw.lmL_free (p:=oN o) b c _ fun k hk=>h.g0 hk]
  refine ((nwOf n o).lmL_rsz (Nat.le_refl _) h.gsz b c _).mono ?_
  have:=Ab8 (oN o) (nwOf n o).M
  have:=h.m
  omega
theorem bd216:bd 21 6=87381:=by decide
theorem BA1 {n:NtV} {o:List Int} (h:nwOk n o) (b c:Nat):Rsz ((nwOf n o).th b c) 87381:=by
 have:=Ar9 (n:=6) (As8 h) (by decide) (by rw [H2];exact h.b6)
 rw [bd216] at this
 exact this.rsz (by decide) c b
theorem fl_rsz {n:NtV} {o:List Int} (h:nwOk n o) {θ:Nat->Rat} {L:Nat} (hθ:∀ c,Rsz (θ c) L) (k:Nat):Rsz ((nwOf n o).fl θ k) (2*L+2):=by
 unfold Nw.fl
 have h1:=(hθ ((nwOf n o).F k)).add (hθ ((nwOf n o).T k)).neg
 rw [<-Rat.sub_eq_add_neg] at h1
 exact ((h.gsz k).mul h1).mono (by omega)
theorem Ad8 {n:NtV} {o:List Int} (h:nwOk n o) (k b:Nat):Rsz ((nwOf n o).hf k b) 174764:=fl_rsz h (BA1 h b) k
end Go.Proofs.YtggegpiffjbngaaGreat
namespace Go.Kx
open Go Go.RowKit
section
variable {n:Nw}
theorem Nw.th_root (ok:n.Ok) {b c:Nat} (hb:b<n.B) (hr:n.root b=b) (hc:c<n.B):n.th b c=if n.root c=b then 1 else 0:=by
 refine Nw.uniq (φ:=fun c=>if n.root c=b then 1 else 0) ok (fun i hi=>?_) c hc
 have h:=Go.Proofs.YtggegpiffjbngaaGreat.Ah2 ok (by omega) hb hi
 split
 ·rename_i hri
  rw [if_pos hri] at h
  rw [h,hri];rfl
 ·rename_i hri
  rw [if_neg hri] at h
  rw [h,AD9 (a:=i) (b:=b) (fun e=>hri (by rw [e];exact hr))]
  symm
  unfold Nw.lap Nw.off
  refine D7 fun k hk=>?_
  unfold Nw.fl
  by_cases hg:n.g k=0
  ·rw [hg];grind
  ·dsimp only
   rw [Nw.root_line hk hg];grind
theorem Nw.hf_root (ok:n.Ok) {k b:Nat} (hk:k<n.M) (hb:b<n.B) (hr:n.root b=b):n.hf k b=0:=by
 unfold Nw.hf Nw.fl
 rw [Nw.th_root ok hb hr (ok.f k hk),Nw.th_root ok hb hr (ok.t k hk)]
 by_cases hg:n.g k=0
 ·rw [hg,Rat.zero_mul]
 ·rw [Nw.root_line hk hg];grind
theorem Nw.lap_th (ok:n.Ok) {b i:Nat} (hb:b<n.B) (hi:i<n.B):n.lap (n.th b) i=dl i b-dl i (n.root b):=by
 have hB:1<=n.B:=by omega
 have hsum:=Nw.off_clo (f:=n.fl (n.th b)) ok (Nw.clo_root (n:=n) (n.root i)) fun k _ hg=>Nw.fl_out hg
 by_cases hr:n.root b=b
 ·rw [hr]
  have:n.lap (n.th b) i=0:=by
   unfold Nw.lap Nw.off
   refine D7 fun k hk=>?_
   rw [show n.fl (n.th b) k=n.hf k b from rfl,Nw.hf_root ok hk hb hr,Rat.mul_zero]
  rw [this];grind
 by_cases hri:n.root i=i
 ·rw [hri] at hsum
  have e:sumN n.B (fun c=>if n.root c=i then n.off (n.fl (n.th b)) c else 0)=sumN n.B (fun c=>(if c=i then n.lap (n.th b) i else 0)+(if n.root c=i then dl c b else 0)):=A2 fun c hc=>by
   have h:=Go.Proofs.YtggegpiffjbngaaGreat.Ah2 ok hB hb hc
   by_cases hci:c=i
   ·subst hci
    rw [if_pos hri,if_pos rfl,if_pos hri,AD9 (a:=c) (b:=b) (fun e=>hr (by rw [<-e];exact hri))]
    show n.lap (n.th b) c=_
    grind
   ·rw [if_neg hci]
    by_cases hrc:n.root c=i
    ·have hcn:n.root c≠c:=fun e=>hci (by rw [<-hrc];exact e.symm)
     rw [if_neg hcn] at h
     rw [if_pos hrc,if_pos hrc]
     show n.lap (n.th b) c=_
     rw [h];grind
    ·rw [if_neg hrc,if_neg hrc];grind
  rw [e,AJ6,D8 (i:=i) (fun c _ hne=>if_neg hne),if_pos hi,if_pos rfl,D8 (i:=b) (fun c _ hne=>by rw [AD9 hne];split<;>rfl),if_pos hb,AL4] at hsum
  have hib:i≠b:=fun e=>hr (e▸hri)
  rw [AD9 hib]
  by_cases hrb:n.root b=i
  ·rw [if_pos hrb] at hsum
   rw [hrb,AL4];grind
  ·rw [if_neg hrb] at hsum
   rw [AD9 (Ne.symm hrb)];grind
 ·have h:=Go.Proofs.YtggegpiffjbngaaGreat.Ah2 ok hB hb hi
  rw [if_neg hri] at h
  rw [h,AD9 (a:=i) (b:=n.root b) (fun e=>hri (by rw [e];exact Nw.root_root b))]
  grind
end
end Go.Kx
namespace Go.Proofs.YtggegpiffjbngaaGreat
open Go Go.Kx Go.RowKit
theorem AX5:Ent Tryz.prog 138:=A0 Tryz.func138 (by kernel_rfl) rfl
theorem AV4 {S:Nat->Prop} {w:World} {n d:Int} (up:Up S w) (hn1 : -9223372036854775808<=n) (hn2:n<=9223372036854775807) (hd1 : -9223372036854775808<=d) (hd2:d<=9223372036854775807) (hd:d≠0) :
  CR Tryz.prog 138 #[.int .i64 n,.int .i64 d] w (Two (eQ.at S (qc (Rat.divInt n d))) (Is (.int .i64 0))):=by
 refine enter Tryz.func138 O Tryz.ntmps138 O ?_
 refine .sr (.alloc O C7 fun w1 b4 n1=>.an O O ?_)
 obtain ⟨e1,k4,hb4,hs1⟩:=n1
 have hS4:¬ Sx S w.heap.size w1.heap.size b4:=Sx.no (by omega) (by omega)
 have up1:Up (Sx S w.heap.size w1.heap.size) w1:=Sx.up up (Nat.le_refl _) e1.size
 refine .seq (.sr (.mv O O (.eqlF O O O hd (.nil (.condF O (.skip (.sr (.mv O O ?_))))))))
 refine .call _ O C6 O (C5 up1 hn1 hn2) fun v2 w2 e2 h2=>.mv O O ?_
 refine .call _ O C6 O (C5 (up1.ext e2.size) hd1 hd2) fun v3 w3 e3 h3=>?_
 refine .call _ O V9 O (AY8 (L:=2) (up1.ext (e2.trans e3).size) (Zv.of (ER.ext eZ h2 e3) (by omega)) (Zv.of h3 (by omega)) hd (by decide)) fun v5 w5 e5 h5=>?_
 have x5:=((e1.trans e2).trans e3).trans e5
 refine .storeA (E:=eQ) ty_Q O O (((k4.ext e2).ext e3).ext e5) O O h5 hS4 fun w6 k6 u6 h6=>.an O O (.ret ?_)
 exact .plain [_,_] Tryz.results138 ⟨⟨_,rfl,D9 (E:=eQ) ty_Q O O k6 h6⟩,rfl,trivial⟩ ⟨u6.below x5 (by omega),_,_,rfl,h6.out,rfl⟩
end Go.Proofs.YtggegpiffjbngaaGreat
namespace Go.Kx
open Go Go.RowKit
section
variable {n:Nw}
theorem Nw.fl_sub (θ φ:Nat->Rat) (k:Nat):n.fl (fun c=>θ c-φ c) k=n.fl θ k-n.fl φ k:=by unfold Nw.fl;grind
end
theorem OwnL.one {α:Type} {E:ER α} {t:TypeId} {base:Nat} {X:Nat->Prop} {w w':World} {b:Nat} {e:Value} {x:α} (hn:New w w' b t e.cells) (hb:base<=w.heap.size) (hs:e.cells.size=E.sz) (hx:E.R (fun k=>X k/\k≠b) w' e x):OwnL E t base X w' (.slice (some ⟨b,0,none⟩) 1 1) [x]:=by
 obtain ⟨_,hk,hb',_⟩:=hn
 have hc:cellsOf [e]=e.cells.toList:=by simp [cellsOf]
 refine ⟨[e],⟨by rw [hc];simp [hs],.inr ⟨b,1,_,rfl,by omega,hk,Nat.le_refl _,by decide,by simp [hs],by rw [hc,List.take_of_length_le (by simp [hs])]⟩⟩,rfl,fun i e' x' he hx'=>?_⟩
 have hi:i=0:=by
  cases i with
  | zero=>rfl
  | succ i=>simp at he
 subst hi
 simp at he hx'
 subst he;subst hx'
 exact E.mono (fun k _ h=>⟨h.1,fun e=>h.2 (by simpa [Value.ownBlock] using e.symm)⟩) hx
section
variable {n:Nw}
theorem Nw.lap_add (θ φ:Nat->Rat) (b:Nat):n.lap (fun c=>θ c+φ c) b=n.lap θ b+n.lap φ b:=by
 unfold Nw.lap Nw.off
 rw [<-AJ6]
 refine A2 fun k _=>?_
 unfold Nw.fl;grind
theorem Nw.lap_smul (θ:Nat->Rat) (y:Rat) (b:Nat):n.lap (fun c=>θ c*y) b=n.lap θ b*y:=by
 unfold Nw.lap Nw.off
 rw [<-N0]
 refine A2 fun k _=>?_
 unfold Nw.fl;grind
theorem Nw.lap_zero (b:Nat):n.lap (fun _=>0) b=0:=by
 unfold Nw.lap Nw.off
 refine D7 fun k _=>?_
 unfold Nw.fl;grind
theorem Nw.lap_lin (t:Nat->Nat->Rat) (y:Nat->Rat) (i:Nat):∀ m,n.lap (fun c=>sumN m fun b=>t b c*y b) i=sumN m fun b=>n.lap (t b) i*y b
 | 0=>Nw.lap_zero i
 | m+1=>by
  show n.lap (fun c=>(sumN m fun b=>t b c*y b)+t m c*y m) i=(sumN m fun b=>n.lap (t b) i*y b)+n.lap (t m) i*y m
  rw [Nw.lap_add,Nw.lap_lin t y i m,Nw.lap_smul]
def Nw.inj0 (n:Nw) (x:Nat->Rat) (b:Nat):Rat:=if n.root b=b then 0 else x b
def Nw.an (n:Nw) (x:Nat->Rat) (c:Nat):Rat:=sumN n.B fun b=>n.th b c*n.inj0 x b
theorem Nw.an_eq (ok:n.Ok) (x:Nat->Rat) {i:Nat} (hi:i<n.B):(if n.root i=i then n.an x i else n.lap (n.an x) i)=n.inj0 x i:=by
 have hB:1<=n.B:=by omega
 have key:∀ b,b<n.B->(if n.root i=i then n.th b i else n.lap (n.th b) i)=dl i b:=fun b hb=>Go.Proofs.YtggegpiffjbngaaGreat.Ah2 ok hB hb hi
 by_cases hr:n.root i=i
 ·rw [if_pos hr]
  unfold Nw.an
  rw [<-AH9 (n.inj0 x) hi]
  refine A2 fun b hb=>?_
  have:=key b hb
  rw [if_pos hr] at this
  rw [this,Rat.mul_comm]
 ·rw [if_neg hr]
  unfold Nw.an
  rw [Nw.lap_lin,<-AH9 (n.inj0 x) hi]
  refine A2 fun b hb=>?_
  have:=key b hb
  rw [if_neg hr] at this
  rw [this,Rat.mul_comm]
def Nw.bal (n:Nw) (x:Nat->Rat):Prop:=∀ r,r<n.B->n.root r=r->sumN n.B (fun b=>if n.root b=r then x b else 0)=0
theorem Nw.lap_an (ok:n.Ok) {x:Nat->Rat} (hb:n.bal x) {i:Nat} (hi:i<n.B):n.lap (n.an x) i=x i:=by
 have h0:∀ i,i<n.B->n.root i≠i->n.lap (n.an x) i=x i:=fun i hi hr=>by
  have:=n.an_eq ok x hi
  rw [if_neg hr] at this
  rw [this]
  unfold Nw.inj0
  rw [if_neg hr]
 by_cases hr:n.root i=i
 rotate_left
 ·exact h0 i hi hr
 have h1:=Nw.off_clo (n:=n) (f:=n.fl (n.an x)) (D:=fun b=>n.root b=i) ok (Nw.clo_root i) fun k _ hg=>Nw.fl_out hg
 have h2:=hb i hi hr
 have h3:sumN n.B (fun b=>(if n.root b=i then n.off (n.fl (n.an x)) b else 0)-(if n.root b=i then x b else 0))=0:=by
  rw [Y4,h1,h2];grind
 have h4:sumN n.B (fun b=>(if n.root b=i then n.off (n.fl (n.an x)) b else 0)-(if n.root b=i then x b else 0))=sumN n.B fun b=>(n.lap (n.an x) i-x i)*dl i b:=A2 fun b hb=>by
  by_cases e:i=b
  ·subst e
   rw [if_pos hr,if_pos hr,AL4]
   unfold Nw.lap;grind
  ·rw [AD9 e]
   by_cases h:n.root b=i
   ·rw [if_pos h,if_pos h]
    have:=h0 b hb (fun h'=>e (h.symm.trans h'))
    unfold Nw.lap at this
    rw [this];grind
   ·rw [if_neg h,if_neg h];grind
 have h5:=AH9 (n:=n.B) (a:=i) (fun _=>n.lap (n.an x) i-x i) hi
 have h6:=h4.symm.trans h3
 have h7:=h5.symm.trans h6
 grind
theorem Nw.bal_lab (x:Nat->Rat):n.bal x<->∀ j,j<n.B->sumN n.B (fun b=>if n.lab b=j then x b else 0)=0:=by
 have key:∀ r,r<n.B->n.root r=r->sumN n.B (fun b=>if n.lab b=n.lab r then x b else 0)=sumN n.B (fun b=>if n.root b=r then x b else 0):=fun r hr hrr=>A2 fun b hb=>by
  by_cases h:n.root b=r
  ·rw [if_pos h,if_pos ((Nw.lab_eq hb hr).2 (h.trans hrr.symm))]
  ·rw [if_neg h,if_neg fun h'=>h (((Nw.lab_eq hb hr).1 h').trans hrr)]
 constructor
 ·intro h j hj
  by_cases hex:∃ b,b<n.B/\n.lab b=j
  ·obtain ⟨b,hb,rfl⟩:=hex
   have hrb:n.root b<n.B:=Nat.lt_of_le_of_lt (Nw.root_le b) hb
   rw [n.lab_of b,key _ hrb (Nw.root_root b)]
   exact h _ hrb (Nw.root_root b)
  ·exact D7 fun b hb=>by rw [if_neg fun h=>hex ⟨b,hb,h⟩]
 ·intro h r hr hrr
  rw [<-key r hr hrr]
  exact h _ (Nat.lt_of_le_of_lt (n.lab_le r) hr)
theorem Nw.bal_congr {x y:Nat->Rat} (h:∀ b,b<n.B->x b=y b):n.bal x<->n.bal y:=by
 unfold Nw.bal
 have:∀ r,sumN n.B (fun b=>if n.root b=r then x b else 0)=sumN n.B (fun b=>if n.root b=r then y b else 0):=fun r=>A2 fun b hb=>by rw [h b hb]
 simp only [this]
def Nw.bl (n:Nw) (x:Nat->Rat) (b:Nat):Rat:=if n.root b=b then-sumN n.B (fun c=>if c≠b/\n.root c=b then x c else 0) else x b
end
theorem MB.new {t tq:TypeId} {S:Nat->Prop} {w w1 w2:World} {gb c b:Nat} {hs:List Nat} {M:List (List QV)} (h:MB t tq S w gb c hs M) (e:Ext w w1) (u:Upd w1 w2 b) (hb:w.heap.size<=b):MB t tq S w2 gb c hs M:=by
 have h1:=h.mono (S':=fun k=>S k/\k<w.heap.size) fun k hk hS=>⟨hS,hk⟩
 have hg:=h.out.lt
 have h2:=(h1.ext e).upd u (by omega) (fun hm=>by have:=h.lt hm;omega) fun hS=>by have:=hS.2;omega
 exact h2.mono fun k _ hS=>hS.1
theorem AC6 {B i j:Nat} {f:RM} {y:Rat} (hi:i<B):(tabM B B f).set i ((tab B (f i)).set j (qc y))=tabM B B (upE f i j y):=by
 rw [R7,Q0 hi]
 rfl
end Go.Kx
namespace Go.Proofs.YtggegpiffjbngaaGreat
open Go Go.Kx Go.RowKit
theorem AM0:Ent Tryz.prog 73:=A0 Tryz.func73 (by kernel_rfl) rfl
theorem AJ9 {S:Nat->Prop} {w:World} {vn vl vr:Value} {n:NtV} {o:List Int} (up:Up S w) (hn:eN.R S w vn n) (hl:eI.R S w vl (pInts (inL n o))) (hr:eI.R S w vr (pInts (nwOf n o).refs)) (ok:nwOk n o) :
  CR Tryz.prog 73 #[vn,vl,vr] w (eM.at S (tabM (nwOf n o).B (nwOf n o).B (nwOf n o).gm)):=by
 obtain ⟨s,rfl,hs,_⟩:=hn
 have hB6:=ok.b6
 have hM10:n.ls.length<=10:=ok.m
 have hll:=S4 n o
 have hnb:=ok.b
 refine enter Tryz.func73 O Tryz.ntmps73 O ?_
 refine .sr (.box O O fun w1 b3 n1=>.an O O ?_)
 obtain ⟨e1,k3,hb3,hs1⟩:=n1
 rw [hnb] at k3
 generalize hnw:nwOf n o=nw at *
 generalize hB:nw.B=B at *
 refine .sr (.fa H3 O O (.ld A8 O O k3 O (.fa H3 O O (.ld A8 O O k3 O ?_))))
 refine .call _ rfl Af3 O (AY4 (m:=[]) (L:=1) (up.ext e1.size) RL.nil (fun r hr=>by cases hr) (by decide) (by decide)) fun v2 w2 e2 h2=>.an O O ?_
 obtain ⟨gb,hs2,rfl,hgb,hge,hM⟩:=h2
 have hcB:cutN (B:Int)=B:=by unfold cutN;omega
 rw [hcB] at hM ⊢
 have hz:tabM B B (rm [])=tabM B B (nw.lmL []):=B7 fun i k _ _=>by unfold rm;rw [List.getD_nil,AI1];rfl
 rw [hz] at hM
 have x2:=e1.trans e2
 have hw1:=e1.size
 have hsW:∀ {W:World},Below w1.heap.size w2 W->eLs.R (fun k=>S k/\k<w.heap.size) W s n.ls:=fun h=>eLs.keep (fun k c t f hk hh=>(h.block k (by have:=hk.2;omega)).trans hh) (ER.ext eLs (ER.lt eLs hs) x2)
 have hlW:∀ {W:World},Below w1.heap.size w2 W->eI.R (fun k=>S k/\k<w.heap.size) W vl (pInts (inL n o)):=fun h=>eI.keep (fun k c t f hk hh=>(h.block k (by have:=hk.2;omega)).trans hh) (ER.ext eI (ER.lt eI hl) x2)
 have hrW:∀ {W:World},Below w1.heap.size w2 W->eI.R (fun k=>S k/\k<w.heap.size) W vr (pInts nw.refs):=fun h=>eI.keep (fun k c t f hk hh=>(h.block k (by have:=hk.2;omega)).trans hh) (ER.ext eI (ER.lt eI hr) x2)
 have k3:=k3.ext e2
 have hk3:∀ {W:World},Below w1.heap.size w2 W->Blk W b3 24 #[.int .i64 (B:Nat),s]:=fun h=>(h.block b3 (by omega)).trans k3
 have hhl:hs2.length=B:=by rw [hM.len,A3]
 have hhg:∀ i,i<B->hs2[i]?=some (hs2.getD i 0):=fun i hi=>A7 (by omega)
 have hhm:∀ i,i<B->w1.heap.size<=hs2.getD i 0:=fun i hi=>hge _ (E0 (by omega))
 have hw2:=e2.size
 refine .mid (α:=Unit) (fun _=>[(2,vr),(3,.pointer (some ⟨b3,0,none⟩)),(7,.slice (some ⟨gb,0,none⟩) B B)]) (fun _ W=>Below w1.heap.size w2 W/\MB 32 54 S W gb B hs2 (tabM B B (nw.lmL (inL n o)))) ?_ ?_
 ·refine .sr (.mv O O (.lenR un_I O O (hlW (Below.refl _ _)) (.mv O O (.nil ?_))))
  rw [show (pInts (inL n o)).length=(inL n o).length by simp]
  refine .block (.loop (α:=Nat) (fun i=>[(2,vr),(3,.pointer (some ⟨b3,0,none⟩)),(7,.slice (some ⟨gb,0,none⟩) B B),(21,vl),(22,.int .i64 ((inL n o).length:Nat)),(23,.int .i64 (i:Nat))]) (fun i W=>Below w1.heap.size w2 W/\i<=(inL n o).length/\MB 32 54 S W gb B hs2 (tabM B B (nw.lmL ((inL n o).take i)))) (fun i=>(inL n o).length-i) 0 ?_ ?_ ?_)
  ·exact lkA rfl
  ·exact ⟨Below.refl _ _,Nat.zero_le _,hM⟩
  rintro i W ⟨hW,hi,hM⟩
  have hhk:∀ j,j<B->hs2.getD j 0<W.heap.size:=fun j hj=>hM.lt (E0 (by omega))
  refine .sr ?_
  rcases Nat.lt_or_ge i (inL n o).length with hlt | hge'
  rotate_left
  ·refine .lssF O O O (by omega) (.nil (.seq (.condF O (.exit ?_))))
   have:i=(inL n o).length:=by omega
   subst this
   rw [List.take_of_length_le (Nat.le_refl _)] at hM
   exact ⟨rfl,(),lkA rfl,hW,hM⟩
  obtain ⟨hgk,hkM,hko⟩:=AF5 hlt
  refine .lssT O O O (by omega) (.nil (.seq (.condT O (.skip (.seq (.block (.sr (.ixN (i:=i) un_I B0 O O (hlW hW) O hgk fun q hq=>.ldE (E:=eInt .i64) B0 O O hq fun e he=>.an O O ?_))))))))
  obtain ⟨rfl,_⟩:=he
  have htk:(inL n o).take (i+1)=(inL n o).take i++[(inL n o).getD i 0]:=by rw [List.take_add_one,A7 (z:=0) hlt];rfl
  have hgl:n.ls[(inL n o).getD i 0]?=some (n.ls.getD ((inL n o).getD i 0) ln0):=A7 hkM
  have hkM':(inL n o).getD i 0<(nwOf n o).M:=hkM
  have hFI:=ok.fI _ hkM'
  have hTI:=ok.tI _ hkM'
  have hFB:=ok.f _ hkM'
  have hTB:=ok.t _ hkM'
  have hne:=ok.ne _ hkM'
  have hx:=ok.x _ hkM'
  have hgs:=ok.gsz ((inL n o).getD i 0)
  have hgv:(nwOf n o).g ((inL n o).getD i 0)=Rat.divInt 1 (n.ls.getD ((inL n o).getD i 0) ln0).x:=by
   show (if (inL n o).getD i 0∈oN o then (0:Rat) else ((n.ls.getD ((inL n o).getD i 0) ln0).x:Rat)⁻¹)=_
   rw [if_neg hko,Rat.divInt_eq_div,Rat.div_def,show ((1:Int):Rat)=1 from rfl,Rat.one_mul]
  rw [hnw] at hFI hTI hFB hTB hne hgs hgv
  rw [hB] at hFB hTB
  have hfs:∀ b c,Rsz (nw.lmL ((inL n o).take i) b c) 30:=fun b c=>(nw.lmL_rsz (Nat.le_refl _) (fun k=>by rw [<-hnw];exact ok.gsz k) b c _).mono (by rw [List.length_take];omega)
  generalize hk:(inL n o).getD i 0=k at *
  generalize hf:nw.lmL ((inL n o).take i)=f at *
  generalize hln:n.ls.getD k ln0=ln at *
  refine .sr (.fa F1 O O (.ld I2 O O (hk3 hW) O (.mv O O (.ixN (i:=k) H4 M6 O O (hsW hW) O hgl fun q hq=>.ldE (E:=eL) M6 O O hq fun vl' hvl=>.alloc O Ac6 fun W1 b10 n1'=>?_))))
  obtain ⟨f1,k10,hb10,hs1'⟩:=n1'
  refine .storeA (E:=eL) (S:=fun k=>k≠b10) (z:=ln) M6 O O k10 O O hvl (fun h=>h O) fun W2 k10 u2 hl2=>.nil ?_
  obtain ⟨rfl,_⟩:=hl2
  rw [hFI,hTI] at k10
  replace k10:Blk W2 b10 58 #[.int .i64 (nw.F k:Nat),.int .i64 (nw.T k:Nat),.int .i64 ln.x,.int .i64 ln.c]:=k10
  have hWs:=hW.size
  have hM:=hM.new f1 u2 (by omega)
  have hs2':=u2.size
  have hW2:Below w1.heap.size w2 W2:=u2.below (hW.trans (f1.mono (by omega))) (by omega)
  have upT:∀ {W':World},W2.heap.size<=W'.heap.size->Up (offM S gb hs2) W':=fun h k' hk'=>⟨up k' (by omega),by have:=hM.out.lt;omega,fun hm=>by have:=hM.lt hm;omega⟩
  refine .sr (.fa AF9 O O (.ld T9 O O k10 O ?_))
  refine .call _ O AX5 O (AV4 (upT (Nat.le_refl _)) (by decide) (by decide) (by omega) (by omega) (by omega)) fun v3 W3 e3 h3=>?_
  obtain ⟨vp,ve,rfl,hp,rfl⟩:=h3
  rw [<-hgv] at hp
  refine .mv O O (.ext O O O (.ext O O O (.alloc O C7 fun W4 b11 n4=>?_)))
  obtain ⟨e4,k11,hb11,hs4⟩:=n4
  have hs3:=e3.size
  refine .storeA (E:=eQ) (S:=fun k=>offM S gb hs2 k/\k<W3.heap.size) ty_Q O O k11 O O (ER.ext eQ (ER.lt eQ hp) e4) (fun h=>by have:=h.2;omega) fun W5 k11 u5 hp5=>.an O O ?_
  have hp5:eQ.R (offM S gb hs2) W5 vp (qc (nw.g k)):=eQ.mono (fun _ _ h=>h.1) hp5
  have hvp:=shpA (E:=eQ) O hp5
  have hM:=hM.new (e3.trans e4) u5 (by omega)
  have hs5:=u5.size
  have hW5:Below w1.heap.size w2 W5:=u5.below (hW2.trans ((e3.trans e4).mono (by omega))) (by omega)
  have k10:=(k10.ext (e3.trans e4)).upd u5 (show b10≠b11 by omega)
  have hrow0:=hM.row (nw.F k) _ _ (hhg _ hFB) (D4 hFB)
  refine .seq ?_
  refine .par follows 18 [.inl (.slice (some ⟨gb,0,none⟩) B B),.inl (.pointer (some ⟨b10,0,none⟩)),.inl (.int .i64 (nw.F k:Nat)),.inl (.pointer (some ⟨gb,0+(nw.F k)*1,none⟩)),.inl (slB B (hs2.getD (nw.F k) 0)),.inl (.pointer (some ⟨b10,0,none⟩)),.inl (.int .i64 (nw.F k:Nat)),.inl (.slice (some ⟨gb,0,none⟩) B B),.inl (.pointer (some ⟨b10,0,none⟩)),.inl (.int .i64 (nw.F k:Nat)),.inl (.pointer (some ⟨gb,0+(nw.F k)*1,none⟩)),.inl (slB B (hs2.getD (nw.F k) 0)),.inl (.pointer (some ⟨b10,0,none⟩)),.inl (.int .i64 (nw.F k:Nat)),.inl (.pointer (some ⟨hs2.getD (nw.F k) 0,0+(nw.F k)*4,none⟩)),.inr (eQ.at (offM S gb hs2) (qc (f (nw.F k) (nw.F k)))),.inl vp,.inr (eQ.at (offM S gb hs2) (qc (f (nw.F k) (nw.F k)+nw.g k)))]
   [[],[],[(39,1)],[(38,0),(40,2)],[(41,3)],[],[(43,5)],[],[],[(46,8)],[(45,7),(47,9)],[(48,10)],[],[(50,12)],[(49,11),(51,13)],[(52,14)],[],[(53,15),(54,16)]] (by kernel_rfl) ⟨
   fun w e=>(v_mv O).ob,fun w e=>(v_fa H9 O).ob,fun w e=>(v_ld A8 O (k10.ext e) O).ob,fun w e=>(E2 (i:=nw.F k) un_M ty_V O O hFB).ob,fun w e=>(v_ld ty_V O (hM.out.ext e) (hM.cell (hhg _ hFB))).ob,fun w e=>(v_fa H9 O).ob,fun w e=>(v_ld A8 O (k10.ext e) O).ob,
   fun w e=>(v_mv O).ob,fun w e=>(v_fa H9 O).ob,fun w e=>(v_ld A8 O (k10.ext e) O).ob,fun w e=>(E2 (i:=nw.F k) un_M ty_V O O hFB).ob,fun w e=>(v_ld ty_V O (hM.out.ext e) (hM.cell (hhg _ hFB))).ob,fun w e=>(v_fa H9 O).ob,fun w e=>(v_ld A8 O (k10.ext e) O).ob,
   fun w e=>(E2 (i:=nw.F k) un_V ty_Q O O hFB).ob,
   fun w e=>(U4 (E:=eQ) (i:=nw.F k) (by decide) ty_Q O (Nat.zero_add _) (hrow0.2.ext e) (by rw [E9 hFB])).mono fun v' w' h=>⟨h.1,fun w'' e'=>eQ.mono (fun _ _ h=>h.1) (h.2 w'' e')⟩,
   fun w e=>((C8 ty_Q O (k11.ext e) (eQ.csz hp5)).eq hvp.symm).ob,
   fun w e x hx=>by
    have:=Q6 (L:=30) (upT (by have:=e.size;omega)) hx (ER.ext eQ hp5 e) (hfs _ _).toOk (hgs.mono (by decide)).toOk (by decide) (by decide)
    rw [B5,B5] at this
    exact (A6 _ Q8 O this).ob (A9 _ _ _),trivial⟩ ?_
  intro X0 g0 _ _ y0 hy0
  refine .ixB (i:=nw.F k) un_V ty_Q O O O hFB (.storeF (E:=eQ) (i:=nw.F k) (by decide) ty_Q O O (hrow0.2.ext g0) O (by rw [A1];exact hFB) (Nat.zero_add _) (eQ.mono (fun k' _ h=>⟨h,fun e=>h.2.2 (e▸E0 (by omega))⟩) hy0) fun Y0 fy0 uy0=>.nil ?_)
  have hM:=(hM.ext g0).set (hhg _ hFB) (by rw [List.length_set,A1]) uy0 fy0
  rw [AC6 hFB] at hM
  have sx0:=g0.size
  have sy0:=uy0.size
  have lw0:=hhm _ hFB
  have lk0:=hhk _ hFB
  have hW5:Below w1.heap.size w2 Y0:=uy0.below (hW5.trans (g0.mono (by omega))) lw0
  have k10:=(k10.ext g0).upd uy0 (by omega)
  have k11:=(k11.ext g0).upd uy0 (by omega)
  have hp5:=(ER.ext eQ hp5 g0).upd uy0 (fun h=>h.2.2 (E0 (by omega)))
  have hrow1:=hM.row (nw.F k) _ _ (hhg _ hFB) (D4 hFB)
  refine .seq ?_
  refine .par follows 18 [.inl (.slice (some ⟨gb,0,none⟩) B B),.inl (.pointer (some ⟨b10,0,none⟩)),.inl (.int .i64 (nw.F k:Nat)),.inl (.pointer (some ⟨gb,0+(nw.F k)*1,none⟩)),.inl (slB B (hs2.getD (nw.F k) 0)),.inl (.pointer (some ⟨b10,1,none⟩)),.inl (.int .i64 (nw.T k:Nat)),.inl (.slice (some ⟨gb,0,none⟩) B B),.inl (.pointer (some ⟨b10,0,none⟩)),.inl (.int .i64 (nw.F k:Nat)),.inl (.pointer (some ⟨gb,0+(nw.F k)*1,none⟩)),.inl (slB B (hs2.getD (nw.F k) 0)),.inl (.pointer (some ⟨b10,1,none⟩)),.inl (.int .i64 (nw.T k:Nat)),.inl (.pointer (some ⟨hs2.getD (nw.F k) 0,0+(nw.T k)*4,none⟩)),.inr (eQ.at (offM S gb hs2) (qc (f (nw.F k) (nw.T k)))),.inl vp,.inr (eQ.at (offM S gb hs2) (qc (f (nw.F k) (nw.T k)-nw.g k)))]
   [[],[],[(58,1)],[(57,0),(59,2)],[(60,3)],[],[(62,5)],[],[],[(65,8)],[(64,7),(66,9)],[(67,10)],[],[(69,12)],[(68,11),(70,13)],[(71,14)],[],[(72,15),(73,16)]] (by kernel_rfl) ⟨
   fun w e=>(v_mv O).ob,fun w e=>(v_fa H9 O).ob,fun w e=>(v_ld A8 O (k10.ext e) O).ob,fun w e=>(E2 (i:=nw.F k) un_M ty_V O O hFB).ob,fun w e=>(v_ld ty_V O (hM.out.ext e) (hM.cell (hhg _ hFB))).ob,fun w e=>(v_fa H8 O).ob,fun w e=>(v_ld A8 O (k10.ext e) O).ob,
   fun w e=>(v_mv O).ob,fun w e=>(v_fa H9 O).ob,fun w e=>(v_ld A8 O (k10.ext e) O).ob,fun w e=>(E2 (i:=nw.F k) un_M ty_V O O hFB).ob,fun w e=>(v_ld ty_V O (hM.out.ext e) (hM.cell (hhg _ hFB))).ob,fun w e=>(v_fa H8 O).ob,fun w e=>(v_ld A8 O (k10.ext e) O).ob,
   fun w e=>(E2 (i:=nw.T k) un_V ty_Q O O hTB).ob,
   fun w e=>(U4 (E:=eQ) (i:=nw.T k) (by decide) ty_Q O (Nat.zero_add _) (hrow1.2.ext e) (by rw [E9 hTB,AN1 (.inr (Ne.symm hne))])).mono fun v' w' h=>⟨h.1,fun w'' e'=>eQ.mono (fun _ _ h=>h.1) (h.2 w'' e')⟩,
   fun w e=>((C8 ty_Q O (k11.ext e) (eQ.csz hp5)).eq hvp.symm).ob,
   fun w e x hx=>by
    have:=Q5 (L:=30) (upT (by have:=e.size;omega)) hx (ER.ext eQ hp5 e) (hfs _ _).toOk (hgs.mono (by decide)).toOk (by decide) (by decide)
    rw [B5,B5] at this
    exact (A6 _ N7 O this).ob (A9 _ _ _),trivial⟩ ?_
  intro X1 g1 _ _ y1 hy1
  refine .ixB (i:=nw.T k) un_V ty_Q O O O hTB (.storeF (E:=eQ) (i:=nw.T k) (by decide) ty_Q O O (hrow1.2.ext g1) O (by rw [A1];exact hTB) (Nat.zero_add _) (eQ.mono (fun k' _ h=>⟨h,fun e=>h.2.2 (e▸E0 (by omega))⟩) hy1) fun Y1 fy1 uy1=>.nil ?_)
  have hM:=(hM.ext g1).set (hhg _ hFB) (by rw [List.length_set,A1]) uy1 fy1
  rw [AC6 hFB] at hM
  have sx1:=g1.size
  have sy1:=uy1.size
  have lw1:=hhm _ hFB
  have lk1:=hhk _ hFB
  have hW5:Below w1.heap.size w2 Y1:=uy1.below (hW5.trans (g1.mono (by omega))) lw1
  have k10:=(k10.ext g1).upd uy1 (by omega)
  have k11:=(k11.ext g1).upd uy1 (by omega)
  have hp5:=(ER.ext eQ hp5 g1).upd uy1 (fun h=>h.2.2 (E0 (by omega)))
  have hrow2:=hM.row (nw.T k) _ _ (hhg _ hTB) (D4 hTB)
  refine .seq ?_
  refine .par follows 18 [.inl (.slice (some ⟨gb,0,none⟩) B B),.inl (.pointer (some ⟨b10,1,none⟩)),.inl (.int .i64 (nw.T k:Nat)),.inl (.pointer (some ⟨gb,0+(nw.T k)*1,none⟩)),.inl (slB B (hs2.getD (nw.T k) 0)),.inl (.pointer (some ⟨b10,1,none⟩)),.inl (.int .i64 (nw.T k:Nat)),.inl (.slice (some ⟨gb,0,none⟩) B B),.inl (.pointer (some ⟨b10,1,none⟩)),.inl (.int .i64 (nw.T k:Nat)),.inl (.pointer (some ⟨gb,0+(nw.T k)*1,none⟩)),.inl (slB B (hs2.getD (nw.T k) 0)),.inl (.pointer (some ⟨b10,1,none⟩)),.inl (.int .i64 (nw.T k:Nat)),.inl (.pointer (some ⟨hs2.getD (nw.T k) 0,0+(nw.T k)*4,none⟩)),.inr (eQ.at (offM S gb hs2) (qc (f (nw.T k) (nw.T k)))),.inl vp,.inr (eQ.at (offM S gb hs2) (qc (f (nw.T k) (nw.T k)+nw.g k)))]
   [[],[],[(77,1)],[(76,0),(78,2)],[(79,3)],[],[(81,5)],[],[],[(84,8)],[(83,7),(85,9)],[(86,10)],[],[(88,12)],[(87,11),(89,13)],[(90,14)],[],[(91,15),(92,16)]] (by kernel_rfl) ⟨
   fun w e=>(v_mv O).ob,fun w e=>(v_fa H8 O).ob,fun w e=>(v_ld A8 O (k10.ext e) O).ob,fun w e=>(E2 (i:=nw.T k) un_M ty_V O O hTB).ob,fun w e=>(v_ld ty_V O (hM.out.ext e) (hM.cell (hhg _ hTB))).ob,fun w e=>(v_fa H8 O).ob,fun w e=>(v_ld A8 O (k10.ext e) O).ob,
   fun w e=>(v_mv O).ob,fun w e=>(v_fa H8 O).ob,fun w e=>(v_ld A8 O (k10.ext e) O).ob,fun w e=>(E2 (i:=nw.T k) un_M ty_V O O hTB).ob,fun w e=>(v_ld ty_V O (hM.out.ext e) (hM.cell (hhg _ hTB))).ob,fun w e=>(v_fa H8 O).ob,fun w e=>(v_ld A8 O (k10.ext e) O).ob,
   fun w e=>(E2 (i:=nw.T k) un_V ty_Q O O hTB).ob,
   fun w e=>(U4 (E:=eQ) (i:=nw.T k) (by decide) ty_Q O (Nat.zero_add _) (hrow2.2.ext e) (by rw [E9 hTB,AN1 (.inl (Ne.symm hne)),AN1 (.inl (Ne.symm hne))])).mono fun v' w' h=>⟨h.1,fun w'' e'=>eQ.mono (fun _ _ h=>h.1) (h.2 w'' e')⟩,
   fun w e=>((C8 ty_Q O (k11.ext e) (eQ.csz hp5)).eq hvp.symm).ob,
   fun w e x hx=>by
    have:=Q6 (L:=30) (upT (by have:=e.size;omega)) hx (ER.ext eQ hp5 e) (hfs _ _).toOk (hgs.mono (by decide)).toOk (by decide) (by decide)
    rw [B5,B5] at this
    exact (A6 _ Q8 O this).ob (A9 _ _ _),trivial⟩ ?_
  intro X2 g2 _ _ y2 hy2
  refine .ixB (i:=nw.T k) un_V ty_Q O O O hTB (.storeF (E:=eQ) (i:=nw.T k) (by decide) ty_Q O O (hrow2.2.ext g2) O (by rw [A1];exact hTB) (Nat.zero_add _) (eQ.mono (fun k' _ h=>⟨h,fun e=>h.2.2 (e▸E0 (by omega))⟩) hy2) fun Y2 fy2 uy2=>.nil ?_)
  have hM:=(hM.ext g2).set (hhg _ hTB) (by rw [List.length_set,A1]) uy2 fy2
  rw [AC6 hTB] at hM
  have sx2:=g2.size
  have sy2:=uy2.size
  have lw2:=hhm _ hTB
  have lk2:=hhk _ hTB
  have hW5:Below w1.heap.size w2 Y2:=uy2.below (hW5.trans (g2.mono (by omega))) lw2
  have k10:=(k10.ext g2).upd uy2 (by omega)
  have k11:=(k11.ext g2).upd uy2 (by omega)
  have hp5:=(ER.ext eQ hp5 g2).upd uy2 (fun h=>h.2.2 (E0 (by omega)))
  have hrow3:=hM.row (nw.T k) _ _ (hhg _ hTB) (D4 hTB)
  refine .par follows 18 [.inl (.slice (some ⟨gb,0,none⟩) B B),.inl (.pointer (some ⟨b10,1,none⟩)),.inl (.int .i64 (nw.T k:Nat)),.inl (.pointer (some ⟨gb,0+(nw.T k)*1,none⟩)),.inl (slB B (hs2.getD (nw.T k) 0)),.inl (.pointer (some ⟨b10,0,none⟩)),.inl (.int .i64 (nw.F k:Nat)),.inl (.slice (some ⟨gb,0,none⟩) B B),.inl (.pointer (some ⟨b10,1,none⟩)),.inl (.int .i64 (nw.T k:Nat)),.inl (.pointer (some ⟨gb,0+(nw.T k)*1,none⟩)),.inl (slB B (hs2.getD (nw.T k) 0)),.inl (.pointer (some ⟨b10,0,none⟩)),.inl (.int .i64 (nw.F k:Nat)),.inl (.pointer (some ⟨hs2.getD (nw.T k) 0,0+(nw.F k)*4,none⟩)),.inr (eQ.at (offM S gb hs2) (qc (f (nw.T k) (nw.F k)))),.inl vp,.inr (eQ.at (offM S gb hs2) (qc (f (nw.T k) (nw.F k)-nw.g k)))]
   [[],[],[(96,1)],[(95,0),(97,2)],[(98,3)],[],[(100,5)],[],[],[(103,8)],[(102,7),(104,9)],[(105,10)],[],[(107,12)],[(106,11),(108,13)],[(109,14)],[],[(110,15),(111,16)]] (by kernel_rfl) ⟨
   fun w e=>(v_mv O).ob,fun w e=>(v_fa H8 O).ob,fun w e=>(v_ld A8 O (k10.ext e) O).ob,fun w e=>(E2 (i:=nw.T k) un_M ty_V O O hTB).ob,fun w e=>(v_ld ty_V O (hM.out.ext e) (hM.cell (hhg _ hTB))).ob,fun w e=>(v_fa H9 O).ob,fun w e=>(v_ld A8 O (k10.ext e) O).ob,
   fun w e=>(v_mv O).ob,fun w e=>(v_fa H8 O).ob,fun w e=>(v_ld A8 O (k10.ext e) O).ob,fun w e=>(E2 (i:=nw.T k) un_M ty_V O O hTB).ob,fun w e=>(v_ld ty_V O (hM.out.ext e) (hM.cell (hhg _ hTB))).ob,fun w e=>(v_fa H9 O).ob,fun w e=>(v_ld A8 O (k10.ext e) O).ob,
   fun w e=>(E2 (i:=nw.F k) un_V ty_Q O O hFB).ob,
   fun w e=>(U4 (E:=eQ) (i:=nw.F k) (by decide) ty_Q O (Nat.zero_add _) (hrow3.2.ext e) (by rw [E9 hFB,AN1 (.inr hne),AN1 (.inl (Ne.symm hne)),AN1 (.inl (Ne.symm hne))])).mono fun v' w' h=>⟨h.1,fun w'' e'=>eQ.mono (fun _ _ h=>h.1) (h.2 w'' e')⟩,
   fun w e=>((C8 ty_Q O (k11.ext e) (eQ.csz hp5)).eq hvp.symm).ob,
   fun w e x hx=>by
    have:=Q5 (L:=30) (upT (by have:=e.size;omega)) hx (ER.ext eQ hp5 e) (hfs _ _).toOk (hgs.mono (by decide)).toOk (by decide) (by decide)
    rw [B5,B5] at this
    exact (A6 _ N7 O this).ob (A9 _ _ _),trivial⟩ ?_
  intro X3 g3 _ _ y3 hy3
  refine .ixB (i:=nw.F k) un_V ty_Q O O O hFB (.storeF (E:=eQ) (i:=nw.F k) (by decide) ty_Q O O (hrow3.2.ext g3) O (by rw [A1];exact hFB) (Nat.zero_add _) (eQ.mono (fun k' _ h=>⟨h,fun e=>h.2.2 (e▸E0 (by omega))⟩) hy3) fun Y3 fy3 uy3=>.nil ?_)
  have hM:=(hM.ext g3).set (hhg _ hTB) (by rw [List.length_set,A1]) uy3 fy3
  rw [AC6 hTB] at hM
  have sx3:=g3.size
  have sy3:=uy3.size
  have lw3:=hhm _ hTB
  have lk3:=hhk _ hTB
  have hW5:Below w1.heap.size w2 Y3:=uy3.below (hW5.trans (g3.mono (by omega))) lw3
  have k10:=(k10.ext g3).upd uy3 (by omega)
  have k11:=(k11.ext g3).upd uy3 (by omega)
  have hp5:=(ER.ext eQ hp5 g3).upd uy3 (fun h=>h.2.2 (E0 (by omega)))
  have hfin:tabM B B (upE (upE (upE (upE f (nw.F k) (nw.F k) (f (nw.F k) (nw.F k)+nw.g k)) (nw.F k) (nw.T k) (f (nw.F k) (nw.T k)-nw.g k)) (nw.T k) (nw.T k) (f (nw.T k) (nw.T k)+nw.g k)) (nw.T k) (nw.F k) (f (nw.T k) (nw.F k)-nw.g k))=tabM B B (nw.lmL ((inL n o).take (i+1))):=B7 fun b c _ _=>by
   rw [htk,Nw.lmL_snoc,hf]
   exact nw.four hne f b c
  rw [hfin] at hM
  refine .region (.add O O O (.mv O O (.nil ?_)))
  rw [wI (by omega)]
  exact ⟨rfl,i+1,lkA rfl,⟨hW5,hlt,hM⟩,by show (inL n o).length-(i+1)<(inL n o).length-i;omega⟩
 rintro _ W ⟨hW,hM⟩
 have hMs:FB eV 32 S W gb _:=hM.toFB (fun k hk=>up k (by have:=hge k hk;omega)) (by omega)
 have hWs:=hW.size
 have hgl:=hMs.lt
 refine .sr (.fa H3 O O (.ld A8 O O (hk3 hW) O ?_))
 refine .call _ O AX4 O (AU7 (S:=fun k=>S k/\k≠gb) fun k hk=>⟨up k (by omega),by omega⟩) fun vu W1 f1 hu=>.an O O ?_
 rw [hcB] at hu
 have hW1:=hW.trans (f1.mono (by omega))
 have hf1:=f1.size
 generalize hF:(fun i=>fun b c=>if b∈nw.refs.take i then dl b c else nw.lmL (inL n o) b c:Nat->RM)=F
 have hF0:tabM B B (nw.lmL (inL n o))=tabM B B (F 0):=B7 fun b c _ _=>by rw [<-hF];simp
 rw [hF0] at hMs
 refine .seq (.sr (.mv O O (.lenR un_I O O (hrW hW1) (.mv O O (.nil ?_)))))
 rw [show (pInts nw.refs).length=nw.refs.length by simp]
 have hrl:nw.refs.length<=B:=by rw [<-hB];exact nw.cnt_le nw.B
 refine .block (.loop (α:=Nat) (fun i=>[(7,.slice (some ⟨gb,0,none⟩) B B),(13,vu),(118,vr),(119,.int .i64 (nw.refs.length:Nat)),(120,.int .i64 (i:Nat))]) (fun i W=>Below w1.heap.size w2 W/\i<=nw.refs.length/\eM.R (fun k=>S k/\k≠gb) W vu (tabM B B idn)/\FB eV 32 S W gb (tabM B B (F i))) (fun i=>nw.refs.length-i) 0 ?_ ?_ ?_)
 ·exact lkA rfl
 ·exact ⟨hW1,Nat.zero_le _,hu,hMs.ext f1⟩
 rintro i W ⟨hW,hi,hu,hMs⟩
 refine .sr ?_
 rcases Nat.lt_or_ge i nw.refs.length with hlt | hge'
 rotate_left
 ·refine .lssF O O O (by omega) (.nil (.seq (.condF O (.exit (.sr (.mv O O (.an O O (.ret ?_))))))))
  have:i=nw.refs.length:=by omega
  subst this
  refine .plain [_] Tryz.results73 ⟨rfl,trivial⟩ ⟨Below.trans x2 (hW.mono (by omega)),?_⟩
  have hfin:tabM B B (F nw.refs.length)=tabM B B nw.gm:=B7 fun b c hb _=>by
   rw [<-hF]
   dsimp only
   rw [List.take_of_length_le (Nat.le_refl _)]
   unfold Nw.gm
   by_cases hr:nw.root b=b
   ·rw [if_pos hr,if_pos (Nw.mem_refs.2 ⟨by omega,hr⟩)]
   ·rw [if_neg hr,if_neg fun h=>hr (Nw.mem_refs.1 h).2]
    unfold Nw.Lm
    rw [<-hnw]
    exact Nw.lmL_free (p:=oN o) b c _ fun k hk=>ok.g0 hk
  rw [hfin] at hMs
  have:=hMs.toR (hsz:=by decide) (c:=B) (up gb (by omega)) (by rw [A3];exact Nat.le_refl _) (by rw [A3];omega)
  rw [A3] at this
  exact this
 have hgr:(pInts nw.refs)[i]?=some ((nw.refs.getD i 0:Nat):Int):=by rw [List.getElem?_map,A7 (z:=0) hlt];rfl
 have hrB:nw.refs.getD i 0<B:=by rw [<-hB];exact (Nw.mem_refs.1 (E0 hlt)).1
 refine .lssT O O O (by omega) (.nil (.seq (.condT O (.skip (.seq (.block (.sr (.ixN (i:=i) un_I B0 O O (hrW hW) O hgr fun q hq=>.ldE (E:=eInt .i64) B0 O O hq fun e he=>.an O O ?_))))))))
 obtain ⟨rfl,_⟩:=he
 refine .region (.mv O O (.mv O O (.mv O O (.mv O O (.ixN (i:=nw.refs.getD i 0) un_M ty_V O O hu O (D4 hrB) fun q hq=>.ldE (E:=eV) ty_V O O hq fun vw hvw=>.ixB (i:=nw.refs.getD i 0) un_M ty_V O O O hrB ?_)))))
 refine .storeF (E:=eV) (i:=nw.refs.getD i 0) (by decide) ty_V O O hMs O (by rw [A3];exact hrB) (Nat.zero_add _) hvw fun W2 f2 u2=>.nil ?_
 rw [Q0 hrB] at f2
 have hstep:tabM B B (fun j k=>if j=nw.refs.getD i 0 then idn (nw.refs.getD i 0) k else F i j k)=tabM B B (F (i+1)):=B7 fun b c _ _=>by
  rw [<-hF]
  dsimp only
  rw [show nw.refs.take (i+1)=nw.refs.take i++[nw.refs.getD i 0] by rw [List.take_add_one,A7 (z:=0) hlt];rfl]
  by_cases e:b=nw.refs.getD i 0
  ·rw [if_pos e,if_pos (by rw [e];simp),e];rfl
  ·rw [if_neg e]
   by_cases h:b∈nw.refs.take i
   ·rw [if_pos h,if_pos (List.mem_append.2 (.inl h))]
   ·rw [if_neg h,if_neg fun h'=>by
     rcases List.mem_append.1 h' with h' | h'
     ·exact h h'
     ·exact e (List.mem_singleton.1 h')]
 rw [hstep] at f2
 refine .region (.add O O O (.mv O O (.nil ?_)))
 rw [wI (by omega)]
 exact ⟨rfl,i+1,lkA rfl,⟨u2.below hW hgb,hlt,ER.upd eM hu u2 (fun h=>h.2 O),f2⟩,by show nw.refs.length-(i+1)<nw.refs.length-i;omega⟩
end Go.Proofs.YtggegpiffjbngaaGreat
namespace Go.Kx
open Go Go.RowKit
theorem FB.new {α:Type} {E:ER α} {t:TypeId} {S:Nat->Prop} {w w1 w2:World} {g b:Nat} {l:List α} (h:FB E t S w g l) (e:Ext w w1) (u:Upd w1 w2 b) (hb:w.heap.size<=b):FB E t S w2 g l:=by
 have h1:=h.mono (S':=fun k=>S k/\k<w.heap.size) fun k hk hS=>⟨hS,hk⟩
 have hg:=h.lt
 have h2:=(h1.ext e).upd u (by omega) fun hS=>by have:=hS.2;omega
 exact h2.mono fun k _ hS=>hS.1
theorem AJ5 (n:Nat):tab n (fun _=>0)=List.replicate n q0:=by
 unfold tab
 simp [P3,List.map_const']
end Go.Kx
namespace Go.Proofs.YtggegpiffjbngaaGreat
open Go Go.Kx Go.RowKit
theorem g_on {n:NtV} {o:List Int} {k:Nat} (hko:k∉oN o):(nwOf n o).g k=((n.ls.getD k ln0).x:Rat)⁻¹:=by
 show (if k∈oN o then (0:Rat) else ((n.ls.getD k ln0).x:Rat)⁻¹)=_
 rw [if_neg hko]
theorem AS7 {n:NtV} {o:List Int} {k:Nat}:k∈inL n o<->k<n.ls.length/\k∉oN o:=by
 unfold inL freeTo
 rw [List.mem_filter,List.mem_range]
 simp
theorem BE2 {n:NtV} {o:List Int} (ok:nwOk n o) (θ:Nat->Rat):tab n.ls.length (fun k=>if k∈inL n o then (nwOf n o).fl θ k else 0)=tab n.ls.length ((nwOf n o).fl θ):=E7 fun k hk=>by
 by_cases h:k∈inL n o
 ·rw [if_pos h]
 ·rw [if_neg h,Nw.fl_out ((ok.g0 hk).2 (Classical.byContradiction fun h'=>h (AS7.2 ⟨hk,h'⟩)))]
theorem Ah4 {l:List Nat} {M i:Nat} {f:Nat->Rat} (hi:i<l.length):(tab M fun k=>if k∈l.take i then f k else 0).set (l.getD i 0) (qc (f (l.getD i 0)))=tab M fun k=>if k∈l.take (i+1) then f k else 0:=by
 rw [R7]
 refine E7 fun k _=>?_
 rw [show l.take (i+1)=l.take i++[l.getD i 0] by rw [List.take_add_one,A7 (z:=0) hi];rfl]
 by_cases e:k=l.getD i 0
 ·rw [if_pos e,if_pos (by rw [e];simp),e]
 ·rw [if_neg e]
  by_cases h:k∈l.take i
  ·rw [if_pos h,if_pos (List.mem_append.2 (.inl h))]
  ·rw [if_neg h,if_neg fun h'=>by
    rcases List.mem_append.1 h' with h' | h'
    ·exact h h'
    ·exact e (List.mem_singleton.1 h')]
theorem E_col:Ent Tryz.prog 74:=A0 Tryz.func74 (by kernel_rfl) rfl
theorem col_t {S T0:Nat->Prop} {w:World} {s vl vi x:Value} {n:NtV} {o:List Int} {m:List (List QV)} {L b b2 b6 b9:Nat} (up:Up S w) (upo:Up T0 w) (ok:nwOk n o) (k2:Blk w b2 24 #[x,s]) (hs:eLs.R S w s n.ls) (k6:Blk w b6 25 #[vl]) (hl:eI.R S w vl (pInts (inL n o)))
  (k9:Blk w b9 28 #[vi]) (hi:eM.R S w vi m) (hk:mk_ L m) (hL:1<=L) (hL2:L<=1000000000) :
  CR Tryz.prog 74 #[.int .i64 (b:Nat),.pointer (some ⟨b2,0,none⟩),.pointer (some ⟨b6,0,none⟩),.pointer (some ⟨b9,0,none⟩)] w (eV.at T0 (tab n.ls.length ((nwOf n o).fl fun c=>rm m c b))):=by
 have hM10:n.ls.length<=10:=ok.m
 have hll:=S4 n o
 generalize hθ:(fun c=>rm m c b)=θ
 refine enter Tryz.func74 O Tryz.ntmps74 O ?_
 refine .sr (.an O O (.sr (.fa F1 O O (.ld I2 O O k2 O (.lenR H4 O O hs ?_)))))
 refine .make_ _ _ un_V J0 O (by decide) O O O (Nat.le_refl _) (by omega) (by omega) fun w1 h n1=>.an O O ?_
 have f1:FB eQ 54 T0 w1 h (List.replicate n.ls.length q0):=FB.made n1 zq_R
 obtain ⟨e1,_,hh,hs1⟩:=n1
 rw [<-AJ5] at f1
 have hlW:∀ {W:World},Ext w W->eI.R S W vl (pInts (inL n o)):=fun e=>ER.ext eI hl e
 refine .seq (.sr (.ld ty_I O O (k6.ext e1) O (.lenR un_I O O (hlW e1) (.mv O O (.nil ?_)))))
 rw [show (pInts (inL n o)).length=(inL n o).length by simp]
 refine .block (.loop (α:=Nat) (fun i=>[(0,.int .i64 (b:Nat)),(1,.pointer (some ⟨b2,0,none⟩)),(2,.pointer (some ⟨b6,0,none⟩)),(3,.pointer (some ⟨b9,0,none⟩)),(6,slB n.ls.length h),(15,vl),(16,.int .i64 ((inL n o).length:Nat)),(17,.int .i64 (i:Nat))]) (fun i W=>Ext w W/\i<=(inL n o).length/\FB eQ 54 T0 W h (tab n.ls.length fun k=>if k∈(inL n o).take i then (nwOf n o).fl θ k else 0)) (fun i=>(inL n o).length-i) 0 ?_ ?_ ?_)
 ·exact lkA rfl
 ·exact ⟨e1,Nat.zero_le _,by simpa using f1⟩
 rintro i W ⟨hW,hi',fb⟩
 have hWs:=hW.size
 have hhl:=fb.lt
 refine .sr ?_
 rcases Nat.lt_or_ge i (inL n o).length with hlt | hge
 rotate_left
 ·refine .lssF O O O (by omega) (.nil (.seq (.condF O (.exit (.sr (.mv O O (.an O O (.ret ?_))))))))
  have:i=(inL n o).length:=by omega
  subst this
  rw [List.take_of_length_le (Nat.le_refl _),BE2 ok] at fb
  refine .plain [_] Tryz.results74 ⟨rfl,trivial⟩ ⟨hW,?_⟩
  have:=fb.toR (hsz:=by decide) (c:=n.ls.length) (upo h (by omega)) (by rw [A1];exact Nat.le_refl _) (by rw [A1];omega)
  rw [A1] at this
  exact this
 obtain ⟨hgk,hkM,hko⟩:=AF5 hlt
 refine .lssT O O O (by omega) (.nil (.seq (.condT O (.skip (.seq (.block (.sr (.ixN (i:=i) un_I B0 O O (hlW hW) O hgk fun q hq=>.ldE (E:=eInt .i64) B0 O O hq fun e he=>.an O O ?_))))))))
 obtain ⟨rfl,_⟩:=he
 have hset:=Ah4 (M:=n.ls.length) (f:=(nwOf n o).fl θ) hlt
 have hgl:n.ls[(inL n o).getD i 0]?=some (n.ls.getD ((inL n o).getD i 0) ln0):=A7 hkM
 have hFI:=ok.fI _ hkM
 have hTI:=ok.tI _ hkM
 have hx:=ok.x _ hkM
 have hgv:=g_on (n:=n) hko
 generalize hkk:(inL n o).getD i 0=k at hset hgl hFI hTI hx hgv hkM
 generalize hln:n.ls.getD k ln0=ln at hgl hFI hTI hx hgv
 refine .sr (.fa F1 O O (.ld I2 O O (k2.ext hW) O (.mv O O (.ixN (i:=k) H4 M6 O O (hs.ext hW) O hgl fun q hq=>.ldE (E:=eL) M6 O O hq fun vl' hvl=>.alloc O Ac6 fun W1 c9 n1'=>?_))))
 obtain ⟨g1,k9',hc9,hs1'⟩:=n1'
 refine .storeA (E:=eL) (S:=fun k=>k≠c9) (z:=ln) M6 O O k9' O O hvl (fun h=>h O) fun W2 k9' u2 hl2=>.nil ?_
 obtain ⟨rfl,_⟩:=hl2
 rw [hFI,hTI] at k9'
 replace k9':Blk W2 c9 58 #[.int .i64 ((nwOf n o).F k:Nat),.int .i64 ((nwOf n o).T k:Nat),.int .i64 ln.x,.int .i64 ln.c]:=k9'
 have x2:Ext W W2:=u2.below g1 (by omega)
 have hs2:=u2.size
 have fb:=fb.new g1 u2 (by omega)
 have hW2:=hW.trans x2
 have upO:∀ {W':World},W2.heap.size<=W'.heap.size->Up (fun k=>T0 k/\k≠h) W':=fun hs k' hk'=>⟨upo k' (by omega),by omega⟩
 have upT:∀ {W':World},W2.heap.size<=W'.heap.size->Up (fun k=>S k/\k≠h) W':=fun hs k' hk'=>⟨up k' (by omega),by omega⟩
 have hmi:∀ {W':World},Ext W2 W'->eM.R (fun k=>S k/\k≠h) W' vi m:=fun e=>ER.ext eM (eM.mono (fun k' _ hk'=>⟨hk'.1,by have:=hk'.2;omega⟩) (ER.ext eM (ER.lt eM hi) hW2)) e
 have hat:∀ c:Nat,rmI m c b=θ c:=fun c=>by rw [AS3,<-hθ]
 have hrz:∀ c,Rsz (θ c) L:=fun c=>by rw [<-hθ];exact hk.rsz hL c b
 refine .seq ?_
 refine .par follows 12 [.inl vi,.inl (.pointer (some ⟨c9,0,none⟩)),.inl (.int .i64 ((nwOf n o).F k:Nat)),.inl (.int .i64 (b:Nat)),.inr (eQ.at (fun k=>S k/\k≠h) (qc (θ ((nwOf n o).F k)))),.inl vi,.inl (.pointer (some ⟨c9,1,none⟩)),.inl (.int .i64 ((nwOf n o).T k:Nat)),.inl (.int .i64 (b:Nat)),.inr (eQ.at (fun k=>S k/\k≠h) (qc (θ ((nwOf n o).T k)))),.inr (eQ.at (fun k=>S k/\k≠h) (qc (θ ((nwOf n o).F k)-θ ((nwOf n o).T k)))),.inr (NewP W2.heap.size 54 zq.cells)]
  [[],[],[(27,1)],[],[(26,0),(28,2),(29,3)],[],[],[(32,6)],[],[(31,5),(33,7),(34,8)],[(30,4),(35,9)],[]] (by kernel_rfl) ⟨
  fun w e=>(v_ld ty_M O ((k9.ext hW2).ext e) O).ob,fun w e=>(v_fa H9 O).ob,fun w e=>(v_ld A8 O (k9'.ext e) O).ob,fun w e=>(v_mv O).ob,
  fun w e=>by
   have:=AC9 (i:=((nwOf n o).F k:Nat)) (k:=(b:Nat)) (upT e.size) (hmi e) hk hL (by omega)
   rw [hat] at this
   exact (A6 _ AE3 O this).ob (A9 _ _ _),
  fun w e=>(v_ld ty_M O ((k9.ext hW2).ext e) O).ob,fun w e=>(v_fa H8 O).ob,fun w e=>(v_ld A8 O (k9'.ext e) O).ob,fun w e=>(v_mv O).ob,
  fun w e=>by
   have:=AC9 (i:=((nwOf n o).T k:Nat)) (k:=(b:Nat)) (upT e.size) (hmi e) hk hL (by omega)
   rw [hat] at this
   exact (A6 _ AE3 O this).ob (A9 _ _ _),
  fun w e x hx y hy=>by
   have:=Q5 (L:=L) (upT e.size) hx hy (hrz _).toOk (hrz _).toOk hL (by omega)
   rw [B5,B5] at this
   exact (A6 _ N7 O this).ob (A9 _ _ _),
  fun w e=>O4 C7 e.size,trivial⟩ ?_
 rintro W3 g3 _ _ _ _ y10 hy10 _ ⟨c10,rfl,hc10,k10⟩
 have hy10':=AI5 hy10 k10 P8
 refine .storeA (E:=eQ) ty_Q O O k10 O O hy10' (fun h=>h.2 O) fun W4 k10 u4 hy=>.nil ?_
 have hs3:=g3.size
 have hs4:=u4.size
 have x4:Ext W2 W4:=u4.below g3 hc10
 have hy:eQ.R (fun k=>S k/\k≠h) W4 y10 _:=eQ.mono (fun _ _ h=>h.1) hy
 have hyv:=shpA (E:=eQ) O hy
 have fb:=fb.new g3 u4 hc10
 have hd:Rsz (θ ((nwOf n o).F k)-θ ((nwOf n o).T k)) (L+L+1):=by
  rw [Rat.sub_eq_add_neg]
  exact (hrz _).add (hrz _).neg
 have hx0:((ln.x:Int):Rat)≠0:=fun e=>by
  have:ln.x=0:=by exact_mod_cast e
  omega
 have hflv:(θ ((nwOf n o).F k)-θ ((nwOf n o).T k)) / ((ln.x:Int):Rat)=(nwOf n o).fl θ k:=by
  unfold Nw.fl
  rw [hgv,Rat.div_def,Rat.mul_comm]
 have hr1:Rsz ((ln.x:Int):Rat) (L+L+1):=Rsz.int _ (Nat.lt_of_lt_of_le (by omega:ln.x.natAbs<4294967296 ^ 1) (Nat.pow_le_pow_right (by decide) (by omega))) (by omega)
 refine .parL follows 10 [9] [.inl (slB n.ls.length h),.inl (.int .i64 (k:Nat)),.inl y10,.inl (.pointer (some ⟨c9,2,none⟩)),.inl (.int .i64 ln.x),.inr (eQ.at (fun k=>S k/\k≠h) (qc ((ln.x:Int):Rat))),.inr (Two (eQ.at (fun k=>T0 k/\k≠h) (qc ((nwOf n o).fl θ k))) (Is (.int .i64 0))),.inr (Two (eQ.at (fun k=>T0 k/\k≠h) (qc ((nwOf n o).fl θ k))) (Is (.int .i64 0))),.inr (eQ.at (fun k=>T0 k/\k≠h) (qc ((nwOf n o).fl θ k))),.inl (.int .i64 0)]
  [[],[],[],[],[(41,3)],[(42,4)],[(40,2),(43,5)],[(44,6)],[(37,7)],[(37,7)]] (by kernel_rfl) ⟨
  fun w e=>(v_mv O).ob,fun w e=>(v_mv O).ob,fun w e=>((C8 ty_Q O (k10.ext e) (eQ.csz hy)).eq hyv.symm).ob,fun w e=>(v_fa AF9 O).ob,fun w e=>(v_ld T9 O ((k9'.ext x4).ext e) O).ob,
  fun w e=>(A6 _ D3 O (D0 (upT (by have:=e.size;omega)) (by omega) (by omega))).ob (A9 _ _ _),
  fun w e x hx=>by
   have:=AA2 (L:=L+L+1) (upT (by have:=e.size;omega)) (upO (by have:=e.size;omega)) (ER.ext eQ hy e) hx hd.toOk hr1.toOk (by omega) (by omega) (by rw [B5];exact hx0)
   rw [B5,B5,hflv] at this
   exact (A6 _ AB3 O this).ob (K6 (A9 _ _ _) (R8 _)),
  fun w e x hx=>K2 (v_mv O) hx (K6 (A9 _ _ _) (R8 _)),
  fun w e x hx=>by
   obtain ⟨a,b,rfl,ha,hb⟩:=hx
   exact K2 (v_ex O O) ha (A9 _ _ _),
  fun w e x hx=>by
   obtain ⟨a,b,rfl,ha,hb⟩:=hx
   exact ((v_ex O O).eq hb).ob,trivial⟩ ?_
 intro W5 g5 _ _ _ _ _ _ y8 hy8
 refine .ixB (i:=k) un_V ty_Q O O O hkM (.storeF (E:=eQ) (i:=k) (by decide) ty_Q O O (fb.ext g5) O (by rw [A1];exact hkM) (Nat.zero_add _) hy8 fun W6 f6 u6=>.nil ?_)
 rw [hset] at f6
 refine .region (.add O O O (.mv O O (.nil ?_)))
 rw [wI (by omega)]
 exact ⟨rfl,i+1,lkA rfl,⟨u6.below ((hW2.trans x4).trans g5) (by omega),hlt,f6⟩,by show (inL n o).length-(i+1)<(inL n o).length-i;omega⟩
end Go.Proofs.YtggegpiffjbngaaGreat
namespace Go.Kx
open Go Go.RowKit
section
variable {P:Program} {σ:Env} {w:World} {ty:TypeId} {pos:String} {af:Array Edge}
end
theorem Ar3 {α:Type} {E:ER α} {hsz:0<E.sz} {S:Nat->Prop} {w:World} {v:Value} {l:List α} {i:Nat} {q:α} (h:(RL E hsz).R S w v l) (hq:l[i]?=some q):∃ ad c e,v=.slice (some ad) l.length c/\∀ W',Below w.heap.size w W'->PtrX W' (ad.add (i*E.sz)) e/\E.R (fun k=>S k/\k<w.heap.size) W' e q:=by
 obtain ⟨es,hE⟩:=RL.toEs h
 have hil:=(List.getElem?_eq_some_iff.1 hq).1
 obtain ⟨e,he⟩:∃ e,es[i]?=some e:=⟨_,List.getElem?_eq_getElem (by rw [hE.1.1];exact hil)⟩
 obtain ⟨ad,c,hv,hp⟩:=hE.at_ he
 have hr:=hE.1.2 i e q he hq
 refine ⟨ad,c,e,hv,fun W' hB=>⟨fun j u hu=>?_,E.keep (fun k c t f hk h=>(hB.block k hk.2).trans h) (ER.lt E hr)⟩⟩
 have h1:=hp j u hu
 have hl:=AL6 h1
 rw [AO0 (hB.block _ hl)]
 exact h1
theorem set_mid {α:Type} (l r:List α) (v x:α):(l++v::r).set l.length x=l++x::r:=by
 rw [List.set_append_right _ _ (Nat.le_refl _),Nat.sub_self,List.set_cons_zero]
theorem get_mid {α:Type} (l r:List α) (v:α):(l++v::r)[l.length]?=some v:=by
 rw [List.getElem?_append_right (Nat.le_refl _),Nat.sub_self];rfl
end Go.Kx
namespace Go.Proofs.YtggegpiffjbngaaGreat
open Go Go.Kx Go.RowKit
theorem Ak8:Ent Tryz.prog 78:=A0 Tryz.func78 (by kernel_rfl) rfl
theorem Ah0 {S:Nat->Prop} {w:World} {vc:Value} {B M:Nat} {g:RM} (up:Up S w) (hc:eM.R S w vc (tabM B M g)) (hB:B<=1000) (hM:M<=1000) :
  CR Tryz.prog 78 #[vc,.int .i64 (M:Nat)] w (eM.at S (tabM M B fun i c=>g c i)):=by
 have hcW:∀ {W:World},Below w.heap.size w W->eM.R (fun k=>S k/\k<w.heap.size) W vc (tabM B M g):=fun h=>eM.keep (fun k c t f hk hh=>(h.block k hk.2).trans hh) (ER.lt eM hc)
 refine enter Tryz.func78 O Tryz.ntmps78 O ?_
 refine .sr (.an O O (.sr (.mv O O ?_)))
 refine .make_ M M un_M AD3 O (by decide) O O O (Nat.le_refl _) (by omega) (by omega) fun w1 gb n1=>.an O O ?_
 obtain ⟨e1,k1,hgb,hs1⟩:=n1
 generalize hF:(fun i=>tab B fun c=>g c i)=F
 refine .seq (.sr (.mv O O (.len un_M O O (.mv O O (.nil ?_)))))
 refine .block (.loop (α:=List Value) (fun rs=>[(0,vc),(5,.slice (some ⟨gb,0,none⟩) M M),(12,.int .i64 (M:Nat)),(13,.int .i64 (rs.length:Nat))]) (fun rs W=>Below w.heap.size w W/\rs.length<=M/\Blk W gb 32 (cellsOf (rs++List.replicate (M-rs.length) nilV)).toArray/\Els eV (fun k=>S k/\k≠gb) W rs ((List.range rs.length).map F)) (fun rs=>M-rs.length) [] ?_ ?_ ?_)
 ·exact lkA rfl
 ·exact ⟨e1,Nat.zero_le _,k1,Els.nil⟩
 rintro rs W ⟨hW,hi,hO,hels⟩
 have hWs:=hW.size
 have hgl:=hO.lt
 refine .sr ?_
 rcases Nat.lt_or_ge rs.length M with hlt | hge
 rotate_left
 ·refine .lssF O O O (by omega) (.nil (.seq (.condF O (.exit (.sr (.mv O O (.an O O (.ret ?_))))))))
  have hl:rs.length=M:=by omega
  rw [hl,Nat.sub_self,List.replicate_zero,List.append_nil] at hO
  rw [hl] at hels
  refine .plain [_] Tryz.results78 ⟨rfl,trivial⟩ ⟨hW,?_⟩
  have hfb:FB eV 32 S W gb (tabM M B fun i c=>g c i):=⟨rs,hO,by unfold tabM;rw [hF];exact hels⟩
  have:=hfb.toR (hsz:=by decide) (c:=M) (up gb (by omega)) (by rw [A3];exact Nat.le_refl _) (by rw [A3];omega)
  rw [A3] at this
  exact this
 have hrep:rs++List.replicate (M-rs.length) nilV=rs++nilV::List.replicate (M-(rs.length+1)) nilV:=by rw [show M-rs.length=M-(rs.length+1)+1 by omega,List.replicate_succ]
 rw [hrep] at hO
 refine .lssT O O O (by omega) (.nil (.seq (.condT O (.skip (.seq (.block (.sr (.mv O O (.an O O (.sr (.mv O O (.lenR un_M O O (hcW hW) (.mv O O (.nil ?_))))))))))))))
 rw [A3]
 refine .block (.loop (α:=Nat×Value) (fun y=>[(0,vc),(5,.slice (some ⟨gb,0,none⟩) M M),(12,.int .i64 (M:Nat)),(13,.int .i64 (rs.length:Nat)),(6,.int .i64 (rs.length:Nat)),(16,vc),(17,.int .i64 (B:Nat)),(18,.int .i64 (y.1:Nat))])
  (fun y W'=>Below w.heap.size w W'/\W.heap.size<=W'.heap.size/\y.1<=B/\Blk W' gb 32 (cellsOf (rs++y.2::List.replicate (M-(rs.length+1)) nilV)).toArray/\Kp (fun k=>k<W.heap.size/\k≠gb) W W'/\OwnL eQ 54 W.heap.size (fun k=>S k/\k≠gb) W' y.2 (tab y.1 fun c=>g c rs.length)) (fun y=>B-y.1) (0,nilV) ?_ ?_ ?_)
 ·exact lkA rfl
 ·exact ⟨hW,Nat.le_refl _,Nat.zero_le _,hO,fun _ _ _ _ _ h=>h,OwnL.nil⟩
 rintro ⟨j,v⟩ W' ⟨hW',hsz,hj,hO,hK,hown⟩
 replace hW':Below w.heap.size w W':=hW'
 replace hj:j<=B:=hj
 replace hO:Blk W' gb 32 (cellsOf (rs++v::List.replicate (M-(rs.length+1)) nilV)).toArray:=hO
 replace hown:OwnL eQ 54 W.heap.size (fun k=>S k/\k≠gb) W' v (tab j fun c=>g c rs.length):=hown
 refine .sr ?_
 rcases Nat.lt_or_ge j B with hjl | hge
 rotate_left
 ·refine .lssF O O O (by omega) (.nil (.seq (.condF O (.exit (.region (.add O O O (.mv O O (.nil ?_))))))))
  rw [wI (by omega)]
  have:j=B:=by omega
  subst this
  refine ⟨rfl,rs++[v],A5 O (A5 O (A5 O (A5 (by rw [List.length_append];rfl) AD0))),⟨hW',by rw [List.length_append];exact hlt,?_,?_⟩,by rw [List.length_append];show M-(rs.length+1)<M-rs.length;omega⟩
  ·rw [List.length_append,List.append_assoc]
   exact hO
  ·rw [List.length_append]
   show Els eV _ W' (rs++[v]) ((List.range (rs.length+1)).map F)
   rw [List.range_succ,List.map_append]
   have h1:Els eV (fun k=>S k/\k≠gb) W' rs ((List.range rs.length).map F):=⟨hels.1,fun i e x he hx=>by
    have h2:=ER.lt eV (hels.2 i e x he hx)
    have h3:=eV.keep (fun k c t f hk hc=>hK k c t f ⟨hk.2,hk.1.2⟩ hc) h2
    exact eV.mono (fun k _ h=>h.1) h3⟩
   refine h1.snoc ?_
   rw [<-hF]
   exact hown.toR (fun k hk=>⟨up k (by omega),by omega⟩) (fun _ h=>h)
 refine .lssT O O O (by omega) (.nil (.seq (.condT O (.skip (.seq (.block (.sr ?_)))))))
 obtain ⟨adc,cc,ec,hvc,hrc⟩:=Ar3 (E:=eV) (i:=j) hc (D4 hjl)
 obtain ⟨hpc,hec⟩:=hrc w (Below.refl _ _)
 obtain ⟨ade,ce,ee,hve,hre⟩:=Ar3 (E:=eQ) (i:=rs.length) hec (E9 hlt)
 obtain ⟨esC,hEC⟩:=RL.toEs (hcW hW')
 rw [A1] at hve
 have hgc:∃ p,PtrX W' p ec:=⟨_,(hrc W' hW').1⟩
 rw [A3] at hvc
 subst hvc
 refine .gv O O (v_ixA (i:=j) (sz:=1) un_M ty_V O O hjl).gv ?_
 rintro _ _ ⟨rfl,rfl⟩
 refine .ldX (E:=eV) ty_V O O (hrc _ hW').1 (hrc _ hW').2 (.an O O ?_)
 subst hve
 have hesz:∀ {v:Value},v.cells.size=1->∀ e∈rs++v::List.replicate (M-(rs.length+1)) nilV,e.cells.size=1:=fun hv e he=>by
  rcases List.mem_append.1 he with h | h
  ·exact hels.sz e h
  ·rcases List.mem_cons.1 h with h | h
   ·rw [h];exact hv
   ·rw [(List.mem_replicate.1 h).2];rfl
 obtain ⟨av,cv,hvv⟩:=hown.slice
 have hv1:v.cells.size=1:=by rw [hvv];rfl
 have hcell:(cellsOf (rs++v::List.replicate (M-(rs.length+1)) nilV)).toArray[0+rs.length*1]?=some v:=by
  have:=C3 _ rs.length 0 v (hesz hv1) (get_mid _ _ _) (by decide)
  rw [List.getElem?_toArray,show 0+rs.length*1=rs.length*1+0 by omega,this,hvv];rfl
 have hee:∀ W',Below w.heap.size w W'->PtrX W' (ade.add (rs.length*4)) ee/\eQ.R (fun k=>(S k/\k<w.heap.size)/\k<w.heap.size) W' ee (qc (g j rs.length)):=hre
 refine .held follows true (fun W2=>Blk W2 gb 32 (cellsOf (rs++v::List.replicate (M-(rs.length+1)) nilV)).toArray/\Below w.heap.size w W2)
  [some (.slice (some ⟨gb,0,none⟩) M M),some (.int .i64 (rs.length:Nat)),some (.slice (some ⟨gb,0,none⟩) M M),some (.int .i64 (rs.length:Nat)),some (.pointer (some ⟨gb,0+rs.length*1,none⟩)),some v,some (.slice (some ade) M ce),some (.int .i64 (rs.length:Nat)),some (.pointer (some (ade.add (rs.length*4)))),some ee,none,none,none,none] (by kernel_rfl)
  ⟨fun _ _=>v_mv rfl,fun _ _=>v_mv rfl,fun _ _=>v_mv rfl,fun _ _=>v_mv rfl,fun _ _=>E2 (i:=rs.length) un_M ty_V O O hlt,fun _ h=>v_ld ty_V O h.1 hcell,fun _ _=>v_mv rfl,fun _ _=>v_mv rfl,fun _ _=>v_ixA (i:=rs.length) un_V ty_Q O O hlt,fun _ h=>AB5 (E:=eQ) ty_Q O (hee _ h.2).1 (hee _ h.2).2,trivial⟩ ?_
 intro W2 e2 _
 have hW2:Below w.heap.size w W2:=hW'.trans (e2.mono hW'.size)
 have hO:=hO.ext e2
 have hown:=hown.ext e2
 obtain ⟨_,hr2⟩:=hee W2 hW2
 have hr2':=hr2
 obtain ⟨s2,t2,rfl,_,_⟩:=hr2'
 refine .gv ⟨hO,hW2⟩ rfl (AP9 _ O Ao2) ?_
 rintro _ W3 ⟨b3,rfl,n3⟩
 obtain ⟨e3,k3,hb3,hs3⟩:=n3
 have hW3:Below w.heap.size w W3:=hW2.trans (e3.mono hW2.size)
 have hO:=hO.ext e3
 have hown:=hown.ext e3
 have hs2:=e2.size
 obtain ⟨es,ho1,_⟩:=id hown
 refine .gv ⟨hO,hW3⟩ rfl (AA0 (E:=eQ) (base:=W.heap.size) (by decide) un_V J0 O O O hown k3 (eQ.mono (fun k _ h=>⟨⟨h.1.1,by have:=h.2;omega⟩,fun e=>by have:=(ho1.lt k e).1;have:=h.2;omega⟩) (hr2.ext e3)) (by rw [A1];omega) (by decide) (by omega)) ?_
 rintro v4 W4 ⟨ho4,hg4⟩
 have hO4:=hown.gblk hg4 hO (by decide)
 have hlow4:Below w.heap.size w W4:=by
  have hK4:=hown.below (w0:=W3) hg4 (Below.refl _ _) (by omega)
  exact hW3.trans (hK4.mono (by omega))
 refine .gv ⟨hO4,hlow4⟩ rfl (E2 (i:=rs.length) un_M ty_V O O hlt).gv ?_
 rintro _ _ ⟨rfl,rfl⟩
 obtain ⟨a4,c4,hv4⟩:=ho4.slice
 have hv41:v4.cells.size=1:=by rw [hv4];rfl
 refine .gv ⟨hO4,hlow4⟩ rfl (AV0 (i:=rs.length) (by decide) ty_V O O hO4 (hesz hv1) hv41 (by rw [hv4];simp [one1,Value.cells]) (by simp) (Nat.zero_add _)) ?_
 rintro _ W5 ⟨hO5,u5⟩
 rw [set_mid] at hO5
 refine .nil (.inl O) ?_
 have hs4:=hg4.size
 have hs5:=u5.size
 refine .region (.add O O O (.mv O O (.nil ?_)))
 rw [wI (by omega)]
 refine ⟨rfl,(j+1,v4),lkA rfl,⟨u5.below hlow4 (by omega),by show W.heap.size<=W5.heap.size;omega,hjl,hO5,?_,?_⟩,by show B-(j+1)<B-j;omega⟩
 ·intro k c t f hk hc
  have h1:=hK k c t f hk hc
  have h2:=(e3.block k (by have:=(Array.getElem?_eq_some_iff.1 h1).1;omega)).trans ((e2.block k (Array.getElem?_eq_some_iff.1 h1).1).trans h1)
  have h3:=(hg4.block k (by have:=(Array.getElem?_eq_some_iff.1 h2).1;omega) (fun e=>by have:=(ho1.lt k e.symm).1;have:=hk.1;omega)).trans h2
  exact (u5.block k hk.2).trans h3
 ·have:=ho4.upd u5 hO4 (by decide) (fun h=>h.2 O)
  have e:tab (j+1) (fun c=>g c rs.length)=tab j (fun c=>g c rs.length)++[qc (g j rs.length)]:=by unfold tab;rw [List.range_succ,List.map_append];rfl
  show OwnL eQ 54 W.heap.size _ W5 v4 (tab (j+1) fun c=>g c rs.length)
  rw [e]
  exact this
theorem AR8:Ent Tryz.prog 19:=A0 Tryz.func19 (by kernel_rfl) rfl
theorem AQ9 {S T0:Nat->Prop} {w:World} {vn vo:Value} {n:NtV} {o:List Int} (up:Up S w) (upo:Up T0 w) (hn:eN.R S w vn n) (ho:eI.R S w vo o) :
  CR Tryz.prog 19 #[vn,vo] w (Two (eM.at T0 (if outE n o=0 then tabM n.ls.length (nwOf n o).B (nwOf n o).hf else [])) (Is (.int .i64 (outE n o)))):=by
 obtain ⟨s,rfl,hs,hb⟩:=hn
 have hn:eN.R S w (.agg #[.int .i64 n.b,s]) n:=⟨s,rfl,hs,hb⟩
 refine enter Tryz.func19 O Tryz.ntmps19 O ?_
 refine .sr (.box O O fun w1 b2 n1=>.asg O O (.an O O ?_))
 obtain ⟨e1,k2,hb2,hs1⟩:=n1
 refine .sr (.ldA ty_N O O k2 O (.mv O O ?_))
 refine .call _ O Z3 O (Y7 (up.ext e1.size) (hn.ext e1) (ho.ext e1)) fun v2 w2 e2 h2=>?_
 obtain ⟨vl,ve,rfl,hl,he⟩:=h2
 replace he:ve=.int .i64 (outE n o):=he
 subst he
 obtain ⟨al,cl,hvl,_⟩:=RL.len hl
 refine .mv O O (.ext O O O (.ext O O O (.alloc O Al6 fun w3 b6 n3=>?_)))
 obtain ⟨e3,k6,hb6,hs3⟩:=n3
 refine .store ty_I O O k6 (by rw [hvl];rfl) (by simp [Value.cells]) (by rw [hvl];simp [one1,Value.cells]) fun w4 k6 u4=>.an O O (.seq (.sr (.mv O O ?_)))
 replace k6:Blk w4 b6 25 #[vl]:=by rw [hvl] at k6 ⊢;exact k6
 have x2:=e1.trans e2
 have x24:Ext w2 w4:=u4.below e3 (by omega)
 have x4:=x2.trans x24
 by_cases hE:outE n o=0
 rotate_left
 ·refine .neqT O O O hE (.nil (.condT O (.sr (.mv O O (.asg O O (.an O O (.ret ?_)))))))
  refine .plain [_,_] Tryz.results19 ⟨rfl,rfl,trivial⟩ ⟨x4,_,_,rfl,?_,rfl⟩
  rw [if_neg hE];exact RL.nil
 have ok:=K4 hE
 rw [if_pos hE] at hl ⊢
 have hB1:=ok.b1
 have hB6:=ok.b6
 have hM10:n.ls.length<=10:=ok.m
 have hnb:=ok.b
 refine .neqF O O O hE (.nil (.condF O (.skip (.sr (.ldA ty_N O O (k2.ext (e2.trans x24)) O (.mv O O ?_))))))
 have hl4:=ER.ext eI hl x24
 refine .call _ O V8 O (U8 (up.ext x4.size) (hn.ext x4) (ho.ext x4)) fun v5 w5 e5 h5=>?_
 obtain ⟨vr,ve,rfl,hr,he⟩:=h5
 replace he:ve=.int .i64 (outE n o):=he
 subst he
 rw [if_pos hE] at hr
 have x5:=x4.trans e5
 refine .mv O O (.ext O O O (.ext O O O (.asg O O (.an O O (.seq (.sr (.mv O O (.neqF O O O hE (.nil (.condF O (.skip (.sr (.ldA ty_N O O ((k2.ext (e2.trans x24)).ext e5) O (.ld ty_I O O (k6.ext e5) O (.mv O O ?_)))))))))))))))
 have hl5:=ER.ext eI hl4 e5
 refine .call _ O AM0 O (AJ9 (up.ext x5.size) (hn.ext x5) hl5 hr ok) fun vA w6 e6 hA=>?_
 have x6:=x5.trans e6
 have hcA:colsOf (nwOf n o).gA=(nwOf n o).gA.length:=by rw [AF8 hB1,H2]
 refine .call _ O AR7 O (AQ8 (L:=21) (n:=6) (m:=(nwOf n o).gA) (up.ext x6.size) hA (As8 ok) (by decide) (by rw [H2];exact hB6) (by rw [hcA,H2];omega) (by decide) (by decide)) fun v7 w7 e7 h7=>?_
 obtain ⟨vi,ve,rfl,hi,he⟩:=h7
 replace he:ve=.int .i64 (if colsOf (nwOf n o).gA=(nwOf n o).gA.length then (if invertible (nwOf n o).gA then 0 else 8) else 13):=he
 have hinv:=Ad9 ok.ok hB1
 rw [if_pos hcA,if_pos hinv] at he
 subst he
 replace hi:eM.R S w7 vi (invM (nwOf n o).gA):=by rw [if_pos ⟨hcA,hinv⟩] at hi;exact hi
 obtain ⟨ai,ci,hvi,_⟩:=RL.len hi
 have x7:=x6.trans e7
 refine .mv O O (.ext O O O (.ext O O O (.alloc O Ay8 fun w8 b9 n8=>?_)))
 obtain ⟨e8,k9,hb9,hs8⟩:=n8
 refine .store ty_M O O k9 (by rw [hvi];rfl) (by simp [Value.cells]) (by rw [hvi];simp [one1,Value.cells]) fun w9 k9 u9=>.an O O (.seq (.sr (.mv O O (.neqF O O O O (.nil (.condF O (.skip (.sr (.mkf [] [_,_,_] O O O O (.an O O (.sr (.an O O ?_))))))))))))
 replace k9:Blk w9 b9 28 #[vi]:=by rw [hvi] at k9 ⊢;exact k9
 have x79:Ext w7 w9:=u9.below e8 (by omega)
 have x9:=x7.trans x79
 have x49:Ext w4 w9:=((e5.trans e6).trans e7).trans x79
 have k2:=(k2.ext (e2.trans x24)).ext x49
 have k6:=k6.ext x49
 have hs9:=x9.size
 have hsW:∀ {W:World},Ext w9 W->eLs.R (fun k=>S k/\k<w9.heap.size) W s n.ls:=fun e=>ER.ext eLs (ER.lt eLs (hs.ext x9)) e
 have hlW:∀ {W:World},Ext w9 W->eI.R (fun k=>S k/\k<w9.heap.size) W vl (pInts (inL n o)):=fun e=>ER.ext eI (ER.lt eI (ER.ext eI hl4 x49)) e
 have hiW:∀ {W:World},Ext w9 W->eM.R (fun k=>S k/\k<w9.heap.size) W vi (invM (nwOf n o).gA):=fun e=>ER.ext eM (ER.lt eM (ER.ext eM hi x79)) e
 have hik:mk_ 87381 (invM (nwOf n o).gA):=by
  have:=Ar9 (n:=6) (As8 ok) (by decide) (by rw [H2];exact hB6)
  rwa [bd216] at this
 rw [hnb] at k2
 generalize hG:(fun b=>tab n.ls.length ((nwOf n o).fl ((nwOf n o).th b)))=G
 have hGl:∀ b,(G b).length=n.ls.length:=fun b=>by rw [<-hG];exact A1 ..
 refine .mid (α:=Value) (fun v=>[(2,.pointer (some ⟨b2,0,none⟩)),(11,v)]) (fun v W=>Ext w9 W/\OwnL eV 32 w9.heap.size T0 W v ((List.range (nwOf n o).B).map G)) ?_ ?_
 ·refine .sr (.fa H3 O O (.ld A8 O O k2 O (.mv O O (.nil ?_))))
  refine .block (.loop (α:=Nat×Value) (fun y=>[(2,.pointer (some ⟨b2,0,none⟩)),(10,.func (.func 74) #[] #[.pointer (some ⟨b2,0,none⟩),.pointer (some ⟨b6,0,none⟩),.pointer (some ⟨b9,0,none⟩)]),(11,y.2),(44,.int .i64 ((nwOf n o).B:Nat)),(45,.int .i64 (y.1:Nat))]) (fun y W=>Ext w9 W/\y.1<=(nwOf n o).B/\OwnL eV 32 w9.heap.size T0 W y.2 ((List.range y.1).map G)) (fun y=>(nwOf n o).B-y.1) (0,.slice none 0 0) ?_ ?_ ?_)
  ·exact lkA rfl
  ·exact ⟨Ext.refl _,Nat.zero_le _,OwnL.nil⟩
  rintro ⟨b,v⟩ W ⟨hW,hbB,hown⟩
  replace hW:Ext w9 W:=hW
  replace hbB:b<=(nwOf n o).B:=hbB
  replace hown:OwnL eV 32 w9.heap.size T0 W v ((List.range b).map G):=hown
  have hWs:=hW.size
  refine .sr ?_
  rcases Nat.lt_or_ge b (nwOf n o).B with hlt | hge
  rotate_left
  ·refine .lssF O O O (by omega) (.nil (.seq (.condF O (.exit ?_))))
   have:b=(nwOf n o).B:=by omega
   subst this
   exact ⟨rfl,v,lkA rfl,hW,hown⟩
  obtain ⟨es,ho1,_⟩:=id hown
  have hT:∀ k,S k/\k<w9.heap.size->S k/\v.ownBlock≠some k:=fun k h=>⟨h.1,fun e=>by have:=(ho1.lt k e).1;have:=h.2;omega⟩
  have upO:Up (fun k=>T0 k/\v.ownBlock≠some k) W:=fun k hk=>⟨upo k (by omega),fun e=>by have:=(ho1.lt k e).2;omega⟩
  have upT:Up (fun k=>S k/\v.ownBlock≠some k) W:=fun k hk=>⟨up k (by omega),fun e=>by have:=(ho1.lt k e).2;omega⟩
  refine .lssT O O O (by omega) (.nil (.seq (.condT O (.skip (.seq (.block (.sr (.mv O O (.an O O (.region (.mv O O (.mv O O (.mv O O ?_)))))))))))))
  refine .callv [.int .i64 (b:Nat)] O O E_col O (col_t (S:=fun k=>S k/\v.ownBlock≠some k) (T0:=fun k=>T0 k/\v.ownBlock≠some k) (b:=b) upT upO ok (k2.ext hW) (eLs.mono (fun k _ h=>hT k h) (hsW hW)) (k6.ext hW) (eI.mono (fun k _ h=>hT k h) (hlW hW)) (k9.ext hW) (eM.mono (fun k _ h=>hT k h) (hiW hW)) hik (by decide) (by decide)) fun vc W1 f1 hc=>?_
  have hc:eV.R (fun k=>T0 k/\v.ownBlock≠some k) W1 vc (G b):=by rw [<-hG];exact hc
  obtain ⟨ac,cc,hvc,_⟩:=RL.len hc
  rw [hGl] at hvc
  subst hvc
  refine .bsl _ O O Ao3 fun W2 by_ ny=>?_
  obtain ⟨ey,ky,hby,hsy⟩:=ny
  have f2:=f1.trans ey
  have hW2:=hW.trans f2
  refine .gv O O (AA0 (E:=eV) (base:=w9.heap.size) (n:=G b) (e:=.slice ac n.ls.length cc) (by decide) un_M AD3 O O O (hown.ext f2) ky (ER.ext eV hc ey) (by simp;omega) (by decide) hW2.size) ?_
  rintro v8 W8 ⟨ho8,hg8⟩
  refine .an O O (.region (.add O O O (.mv O O (.nil ?_))))
  rw [wI (by omega)]
  refine ⟨rfl,(b+1,v8),lkA rfl,⟨(hown.ext f2).below hg8 hW2 hW2.size,hlt,?_⟩,by show (nwOf n o).B-(b+1)<(nwOf n o).B-b;omega⟩
  show OwnL eV 32 w9.heap.size T0 W8 v8 ((List.range (b+1)).map G)
  rw [List.range_succ,List.map_append]
  exact ho8
 rintro v W ⟨hW,hown⟩
 have hcol:eM.R T0 W v (tabM (nwOf n o).B n.ls.length fun b k=>(nwOf n o).hf k b):=by
  have:=hown.toR (S:=T0) (hsz:=by decide) (fun k hk=>upo k (by omega)) (fun _ h=>h)
  rw [<-hG] at this
  exact this
 have hWs:=hW.size
 refine .sr (.mv O O (.fa F1 O O (.ld I2 O O (k2.ext hW) O (.lenR H4 O O (hsW hW) ?_))))
 refine .call _ O Ak8 O (Ah0 (upo.ext (x9.trans hW).size) hcol (by omega) (by omega)) fun vt W1 f1 ht=>.asg O O (.an O O (.ret ?_))
 exact .plain [_,_] Tryz.results19 ⟨rfl,rfl,trivial⟩ ⟨(x9.trans hW).trans f1,_,_,rfl,ht,by rw [hE]⟩
theorem AR0 {S:Nat->Prop} {w:World} {vn vo:Value} {n:NtV} {o:List Int} (up:Up S w) (hn:eN.R S w vn n) (ho:eI.R S w vo o) :
  CR Tryz.prog 19 #[vn,vo] w (Two (eM.at S (if outE n o=0 then tabM n.ls.length (nwOf n o).B (nwOf n o).hf else [])) (Is (.int .i64 (outE n o)))):=AQ9 up up hn ho
open Classical in
noncomputable def btE (n:NtV) (o:List Int) (a b:Int):Int:=if conE n o a b≠0 then conE n o a b else if conB n o a b=true then 0 else 8
def btV (n:NtV) (o:List Int) (a b:Nat):List QV:=tab n.ls.length fun k=>(nwOf n o).hf k a-(nwOf n o).hf k b
theorem AR9:Ent Tryz.prog 20:=A0 Tryz.func20 (by kernel_rfl) rfl
theorem AR1 {S T0:Nat->Prop} {w:World} {vn vo:Value} {n:NtV} {o:List Int} {a b:Int} (up:Up S w) (upo:Up T0 w) (hn:eN.R S w vn n) (ho:eI.R S w vo o) :
  CR Tryz.prog 20 #[vn,vo,.int .i64 a,.int .i64 b] w (Two (eV.at T0 (if btE n o a b=0 then btV n o a.toNat b.toNat else [])) (Is (.int .i64 (btE n o a b)))):=by
 have hvn:=shpA (E:=eN) O hn
 refine enter Tryz.func20 O Tryz.ntmps20 O ?_
 refine .sr (.box O O fun w1 b4 n1=>.asg O O (.an O O ?_))
 obtain ⟨e1,k4,hb4,hs1⟩:=n1
 refine .sr (.ldA ty_N O O k4 (eN.csz hn) (.mv O O (.mv O O (.mv O O ?_))))
 rw [<-hvn]
 refine .call _ O AI8 O (AI3 (up.ext e1.size) (hn.ext e1) (ho.ext e1)) fun v2 w2 e2 h2=>?_
 obtain ⟨vb,ve,rfl,hb,he⟩:=h2
 replace hb:vb=.bool (conB n o a b):=hb
 replace he:ve=.int .i64 (conE n o a b):=he
 subst hb;subst he
 have x2:=e1.trans e2
 refine .mv O O (.ext O O O (.ext O O O (.asg O O (.an O O (.seq (.sr (.mv O O ?_)))))))
 by_cases hE:conE n o a b=0
 rotate_left
 ·have hb:btE n o a b=conE n o a b:=by unfold btE;rw [if_pos hE]
  refine .neqT O O O hE (.nil (.condT O (.sr (.mv O O (.asg O O (.an O O (.ret ?_)))))))
  refine .plain [_,_] Tryz.results20 ⟨rfl,rfl,trivial⟩ ⟨x2,_,_,rfl,?_,by rw [hb];rfl⟩
  rw [if_neg (by rw [hb];exact hE)];exact RL.nil
 refine .neqF O O O hE (.nil (.condF O (.skip (.seq (.sr (.mv O O (.not_ O O (.nil ?_))))))))
 by_cases hC:conB n o a b=true
 rotate_left
 ·have hb:btE n o a b=8:=by unfold btE;rw [if_neg (by simpa using hE),if_neg hC]
  rw [Bool.not_eq_true] at hC
  rw [hC]
  refine .condT O (.sr (.asg O O (.an O O (.ret ?_))))
  refine .plain [_,_] Tryz.results20 ⟨rfl,rfl,trivial⟩ ⟨x2,_,_,rfl,?_,by rw [hb]⟩
  rw [if_neg (by rw [hb];decide)];exact RL.nil
 have hb:btE n o a b=0:=by unfold btE;rw [if_neg (by simpa using hE),if_pos hC]
 rw [hC,if_pos hb]
 obtain ⟨hO,hA,hBb⟩:=conE_ok hE
 have ok:=K4 hO
 have hB6:=ok.b6
 have hM10:n.ls.length<=10:=ok.m
 have hnb:=ok.b
 obtain ⟨a',rfl⟩:∃ a':Nat,a=a':=⟨a.toNat,by have:=hA.1;omega⟩
 obtain ⟨b',rfl⟩:∃ b':Nat,b=b':=⟨b.toNat,by have:=hBb.1;omega⟩
 have haB:a'<(nwOf n o).B:=by have:=hA.2;omega
 have hbB:b'<(nwOf n o).B:=by have:=hBb.2;omega
 refine .condF O (.skip (.sr (.ldA ty_N O O (k4.ext e2) (eN.csz hn) (.mv O O ?_))))
 rw [<-hvn]
 refine .call _ O AR8 O (AR0 (up.ext x2.size) (hn.ext x2) (ho.ext x2)) fun v3 w3 e3 h3=>?_
 obtain ⟨vm,ve,rfl,hm,he⟩:=h3
 replace he:ve=.int .i64 (outE n o):=he
 subst he
 rw [if_pos hO] at hm
 have x3:=x2.trans e3
 refine .mv O O (.ext O O O (.ext O O O (.asg O O (.an O O (.seq (.sr (.mv O O (.neqF O O O hO (.nil (.condF O (.skip (.sr (.mv O O (.lenR un_M O O hm ?_))))))))))))))
 rw [A3]
 refine .make_ _ _ un_V J0 O (by decide) O O O (Nat.le_refl _) (by omega) (by omega) fun w4 h n4=>.an O O ?_
 have f4:FB eQ 54 T0 w4 h (List.replicate n.ls.length q0):=FB.made n4 zq_R
 obtain ⟨e4,_,hh,hs4⟩:=n4
 have hmW:∀ {W:World},Below w3.heap.size w3 W->eM.R (fun k=>S k/\k<w3.heap.size) W vm (tabM n.ls.length (nwOf n o).B (nwOf n o).hf):=fun hB=>eM.keep (fun k c t f hk hh=>(hB.block k hk.2).trans hh) (ER.lt eM hm)
 refine .seq (.sr (.mv O O (.lenR un_M O O (hmW e4) (.mv O O (.nil ?_)))))
 rw [A3]
 generalize hG:(fun k=>qc ((nwOf n o).hf k a'-(nwOf n o).hf k b'))=G
 refine .block (.loop (α:=Nat) (fun i=>[(2,.int .i64 (a':Nat)),(3,.int .i64 (b':Nat)),(13,slB n.ls.length h),(41,vm),(42,.int .i64 (n.ls.length:Nat)),(43,.int .i64 (i:Nat))]) (fun i W=>Below w3.heap.size w3 W/\i<=n.ls.length/\FB eQ 54 T0 W h (fil n.ls.length i G q0)) (fun i=>n.ls.length-i) 0 ?_ ?_ ?_)
 ·exact lkA rfl
 ·exact ⟨e4,Nat.zero_le _,by rw [J2];exact f4⟩
 rintro i W ⟨hW,hi,fb⟩
 have hWs:=hW.size
 have hhl:=fb.lt
 refine .sr ?_
 rcases Nat.lt_or_ge i n.ls.length with hlt | hge
 rotate_left
 ·refine .lssF O O O (by omega) (.nil (.seq (.condF O (.exit (.sr (.mv O O (.asg O O (.an O O (.ret ?_)))))))))
  have:i=n.ls.length:=by omega
  subst this
  rw [S6] at fb
  refine .plain [_,_] Tryz.results20 ⟨rfl,rfl,trivial⟩ ⟨x3.trans hW,_,_,rfl,?_,by rw [hb]⟩
  have:=fb.toR (hsz:=by decide) (c:=n.ls.length) (upo h (by have:=x3.size;omega)) (by simp) (by simp;omega)
  rw [List.length_map,List.length_range,<-hG] at this
  exact this
 refine .lssT O O O (by omega) (.nil (.seq (.condT O (.skip (.seq (.block (.sr (.mv O O (.ixN (i:=i) un_M ty_V O O (hmW hW) O (D4 hlt) fun q hq=>.ldE (E:=eV) ty_V O O hq fun vr hr=>.asg O O (.an O O ?_))))))))))
 have upO:∀ {W':World},Ext W W'->Up (fun k=>T0 k/\k≠h) W':=fun e k hk=>⟨upo k (by have:=e.size;have:=x3.size;omega),by have:=e.size;omega⟩
 have upT:∀ {W':World},Ext W W'->Up (fun k=>S k/\k≠h) W':=fun e k hk=>⟨up k (by have:=e.size;have:=x3.size;omega),by have:=e.size;omega⟩
 have hT:∀ k,S k/\k<w3.heap.size->S k/\k≠h:=fun k hk=>⟨hk.1,by have:=hk.2;omega⟩
 refine .par follows 11 [.inl (slB n.ls.length h),.inl (.int .i64 (i:Nat)),.inl vr,.inl (.int .i64 (a':Nat)),.inr (Ptr eQ (fun k=>S k/\k<w3.heap.size) (qc ((nwOf n o).hf i a'))),.inr (eQ.at (fun k=>S k/\k<w3.heap.size) (qc ((nwOf n o).hf i a'))),.inl vr,.inl (.int .i64 (b':Nat)),.inr (Ptr eQ (fun k=>S k/\k<w3.heap.size) (qc ((nwOf n o).hf i b'))),.inr (eQ.at (fun k=>S k/\k<w3.heap.size) (qc ((nwOf n o).hf i b'))),.inr (eQ.at (fun k=>T0 k/\k≠h) (G i))]
  [[],[],[],[],[(50,2),(51,3)],[(52,4)],[],[],[(54,6),(55,7)],[(56,8)],[(53,5),(57,9)]] (by kernel_rfl) ⟨
  fun w e=>(v_mv O).ob,fun w e=>(v_mv O).ob,fun w e=>(v_mv O).ob,fun w e=>(v_mv O).ob,
  fun w e=>D5 (i:=a') un_V ty_Q O (ER.ext eV hr e) O (E9 haB),fun w e x hx=>M0 ty_Q O hx,
  fun w e=>(v_mv O).ob,fun w e=>(v_mv O).ob,
  fun w e=>D5 (i:=b') un_V ty_Q O (ER.ext eV hr e) O (E9 hbB),fun w e x hx=>M0 ty_Q O hx,
  fun w e x hx y hy=>by
   have:=AV3 (L:=174764) (upT e) (upO e) (eQ.mono (fun k _ h=>hT k h) hx) (eQ.mono (fun k _ h=>hT k h) hy) (Ad8 ok i a').toOk (Ad8 ok i b').toOk (by decide) (by decide)
   rw [B5,B5] at this
   rw [<-hG]
   exact (A6 _ N7 O this).ob (A9 _ _ _),trivial⟩ ?_
 intro W1 f1 _ _ _ _ _ _ _ _ y hy
 refine .ixB (i:=i) un_V ty_Q O O O hlt (.storeF (E:=eQ) (i:=i) (by decide) ty_Q O O (fb.ext f1) O (by rw [G8];exact hlt) (Nat.zero_add _) hy fun W2 f2 u2=>.nil ?_)
 rw [M4] at f2
 refine .region (.add O O O (.mv O O (.nil ?_)))
 rw [wI (by omega)]
 exact ⟨rfl,i+1,lkA rfl,⟨u2.below (hW.trans (f1.mono hWs)) (by omega),hlt,f2⟩,by show n.ls.length-(i+1)<n.ls.length-i;omega⟩
theorem AR2 {S:Nat->Prop} {w:World} {vn vo:Value} {n:NtV} {o:List Int} {a b:Int} (up:Up S w) (hn:eN.R S w vn n) (ho:eI.R S w vo o) :
  CR Tryz.prog 20 #[vn,vo,.int .i64 a,.int .i64 b] w (Two (eV.at S (if btE n o a b=0 then btV n o a.toNat b.toNat else [])) (Is (.int .i64 (btE n o a b)))):=AR1 up up hn ho
open Classical in
noncomputable def sfE (n:NtV) (o:List Int) (l:Nat):Int:=if outE n o≠0 then outE n o else if (l:Int)<=n.b then 0 else 5
theorem BA8 {n:NtV} {o:List Int} {l:Nat} (h:sfE n o l=0):outE n o=0/\(l:Int)<=n.b:=by
 unfold sfE at h
 split at h
 ·exact absurd h (by assumption)
 ·split at h
  ·exact ⟨Classical.not_not.1 (by assumption),by assumption⟩
  ·cases h
end Go.Proofs.YtggegpiffjbngaaGreat
namespace Go.Kx
open Go Go.RowKit
def Nw.offM (n:Nw) (f:Nat->Rat) (b:Nat):Rat:=n.off (fun k=>if n.g k=0 then 0 else f k) b
end Go.Kx
namespace Go.Proofs.YtggegpiffjbngaaGreat
open Go Go.Kx Go.RowKit
end Go.Proofs.YtggegpiffjbngaaGreat
namespace Go.Kx
open Go Go.RowKit
section
variable {n:Nw}
end
def Nw.cut (n:Nw) (k:Nat):Nw:={ n with g:=fun j=>if j=k then 0 else n.g j }
section
variable {n:Nw} {k:Nat}
theorem Nw.cut_ok (ok:n.Ok):(n.cut k).Ok:=⟨ok.f,ok.t,fun j hj=>by
 show (0:Rat)<=if j=k then 0 else n.g j
 split
 ·exact Rat.le_refl
 ·exact ok.p j hj⟩
theorem Nw.cut_gk:(n.cut k).g k=0:=if_pos rfl
theorem Nw.cut_g {j:Nat} (h:j≠k):(n.cut k).g j=n.g j:=if_neg h
theorem Nw.cut_fl (θ:Nat->Rat) (j:Nat):(n.cut k).fl θ j=if j=k then 0 else n.fl θ j:=by
 show (if j=k then (0:Rat) else n.g j)*_=_
 by_cases h:j=k
 ·rw [if_pos h,if_pos h,Rat.zero_mul]
 ·rw [if_neg h,if_neg h];rfl
theorem Nw.cut_lap (hk:k<n.M) (θ:Nat->Rat) (i:Nat):(n.cut k).lap θ i=n.lap θ i-n.inc k i*n.fl θ k:=by
 show sumN n.M (fun j=>n.inc j i*(n.cut k).fl θ j)=sumN n.M (fun j=>n.inc j i*n.fl θ j)-_
 have h1:sumN n.M (fun j=>n.inc j i*(n.cut k).fl θ j)=sumN n.M (fun j=>n.inc j i*n.fl θ j-(n.inc k i*n.fl θ k)*dl k j):=A2 fun j _=>by
  rw [Nw.cut_fl]
  by_cases h:j=k
  ·subst h;rw [if_pos rfl,AL4];grind
  ·rw [if_neg h,AD9 (Ne.symm h)];grind
 rw [h1,Y4,AH9 (a:=k) (fun _=>n.inc k i*n.fl θ k) hk]
theorem Nw.lap_fl (ok:n.Ok) {θ φ:Nat->Rat} (h:∀ i,i<n.B->n.lap θ i=n.lap φ i) {l:Nat} (hl:l<n.M):n.fl θ l=n.fl φ l:=by
 have hr:=Nw.rigid (n:=n) (θ:=fun c=>θ c-φ c) ok (D:=fun _=>True) (fun _ _ _=>Iff.rfl) fun b hb _=>by
  rw [Nw.lap_sub,h b hb];grind
 have h1:n.fl (fun c=>θ c-φ c) l=0:=by
  by_cases hg:n.g l=0
  ·exact Nw.fl_out hg
  ·have:=hr l hl hg trivial
   unfold Nw.fl
   dsimp only
   rw [this];grind
 rw [Nw.fl_sub] at h1
 grind
theorem Nw.cut_root_n (ok:n.Ok) (b:Nat):n.root ((n.cut k).root b)=n.root b:=by
 have h:=Nw.root_const (n:=n.cut k) (θ:=fun b=>((n.root b:Nat):Rat)) (fun j hj hg=>by
  have hjk:j≠k:=fun e=>hg (by rw [e];exact Nw.cut_gk)
  rw [Nw.cut_g hjk] at hg
  exact congrArg _ (Nw.root_line (n:=n) hj hg)) b
 exact_mod_cast h
theorem Nw.cut_le (ok:n.Ok) (b:Nat):n.root b<=(n.cut k).root b:=by
 rw [<-Nw.cut_root_n (k:=k) ok b]
 exact Nw.root_le _
theorem Nw.cut_root (ok:n.Ok) (hb:(n.cut k).root (n.F k)=(n.cut k).root (n.T k)) (b:Nat):(n.cut k).root b=n.root b:=by
 have h:=Nw.root_const (n:=n) (θ:=fun b=>(((n.cut k).root b:Nat):Rat)) (fun j hj hg=>by
  by_cases hjk:j=k
  ·subst hjk;exact congrArg _ hb
  ·refine congrArg _ (Nw.root_line (n:=n.cut k) hj ?_)
   rw [Nw.cut_g hjk];exact hg) b
 have h2:(n.cut k).root (n.root b)=(n.cut k).root b:=by exact_mod_cast h
 have h3:=Nw.cut_le (k:=k) ok b
 have h4:=Nw.root_le (n:=n.cut k) (n.root b)
 omega
theorem AH1 {p q:Nat->Bool}:∀ l:List Nat,(∀ x∈l,p x=true->q x=true)->(l.filter p).length<=(l.filter q).length
 | [],_=>Nat.le_refl _
 | x::l,h=>by
  have ih:=AH1 l fun y hy=>h y (List.mem_cons_of_mem _ hy)
  have hx:=h x (List.mem_cons_self ..)
  by_cases hp:p x=true
  ·rw [List.filter_cons_of_pos hp,List.filter_cons_of_pos (hx hp)];simpa using ih
  ·rw [List.filter_cons_of_neg hp]
   by_cases hq:q x=true
   ·rw [List.filter_cons_of_pos hq];simp;omega
   ·rw [List.filter_cons_of_neg hq];exact ih
theorem AH0 {p q:Nat->Bool} {y:Nat}:∀ l:List Nat,(∀ x∈l,p x=true->q x=true)->y∈l->p y=false->q y=true->(l.filter p).length<(l.filter q).length
 | [],_,h,_,_=>by cases h
 | x::l,h,hy,h1,h2=>by
  have hx:=h x (List.mem_cons_self ..)
  have hl:=AH1 l fun z hz=>h z (List.mem_cons_of_mem _ hz)
  by_cases e:x=y
  ·subst e
   rw [List.filter_cons_of_neg (by rw [h1];decide),List.filter_cons_of_pos h2];simp;omega
  ·have hm:y∈l:=by
    rcases List.mem_cons.1 hy with h | h
    ·exact absurd h.symm e
    ·exact h
   have ih:=AH0 l (fun z hz=>h z (List.mem_cons_of_mem _ hz)) hm h1 h2
   by_cases hp:p x=true
   ·rw [List.filter_cons_of_pos hp,List.filter_cons_of_pos (hx hp)];simpa using ih
   ·rw [List.filter_cons_of_neg hp]
    by_cases hq:q x=true
    ·rw [List.filter_cons_of_pos hq];simp;omega
    ·rw [List.filter_cons_of_neg hq];exact ih
def Nw.brg (n:Nw) (k:Nat):Prop:=(n.cut k).root (n.F k)≠(n.cut k).root (n.T k)
theorem Nw.brg_cnt (ok:n.Ok) (hk:k<n.M) (hg:n.g k≠0):n.brg k<->n.refs.length<(n.cut k).refs.length:=by
 constructor
 ·intro h
  have hline:=Nw.root_line (n:=n) hk hg
  have h1:=Nw.cut_root_n (k:=k) ok (n.F k)
  have h2:=Nw.cut_root_n (k:=k) ok (n.T k)
  have hF:=ok.f k hk
  have hT:=ok.t k hk
  have lF:=Nw.root_le (n:=n.cut k) (n.F k)
  have lT:=Nw.root_le (n:=n.cut k) (n.T k)
  have rF:=Nw.root_root (n:=n.cut k) (n.F k)
  have rT:=Nw.root_root (n:=n.cut k) (n.T k)
  have a1:=Nw.root_le (n:=n) ((n.cut k).root (n.F k))
  have a2:=Nw.root_le (n:=n) ((n.cut k).root (n.T k))
  unfold Nw.brg at h
  show ((List.range n.B).filter _).length<((List.range n.B).filter _).length
  generalize (n.cut k).root (n.F k)=x at *
  generalize (n.cut k).root (n.T k)=y at *
  refine AH0 (y:=max x y) _ (fun r hr hp=>?_) (List.mem_range.2 (by omega)) ?_ ?_
  ·have hp:n.root r=r:=of_decide_eq_true hp
   refine decide_eq_true ?_
   have:=Nw.cut_le (k:=k) ok r
   have:=Nw.root_le (n:=n.cut k) r
   omega
  ·refine decide_eq_false fun e=>?_
   rcases Nat.le_total x y with h' | h'
   ·rw [Nat.max_eq_right h'] at e;omega
   ·rw [Nat.max_eq_left h'] at e;omega
  ·refine decide_eq_true ?_
   rcases Nat.le_total x y with h' | h'
   ·rw [Nat.max_eq_right h'];exact rT
   ·rw [Nat.max_eq_left h'];exact rF
 ·intro h hb
  have:(n.cut k).refs=n.refs:=List.filter_congr fun r _=>by rw [Nw.cut_root ok hb]
  rw [this] at h
  exact Nat.lt_irrefl _ h
theorem Nw.cut_bal (ok:n.Ok) (hb:¬ n.brg k) (x:Nat->Rat):(n.cut k).bal x<->n.bal x:=by
 have hb:(n.cut k).root (n.F k)=(n.cut k).root (n.T k):=Classical.not_not.1 hb
 unfold Nw.bal
 simp only [Nw.cut_root ok hb]
 exact Iff.rfl
def Nw.tr (n:Nw) (k c:Nat):Rat:=n.th (n.F k) c-n.th (n.T k) c
def Nw.bt (n:Nw) (k l:Nat):Rat:=n.hf l (n.F k)-n.hf l (n.T k)
theorem Nw.bt_fl (l:Nat):n.bt k l=n.fl (n.tr k) l:=(Nw.fl_sub _ _ l).symm
theorem At1 (a b:Nat):dl a b=dl b a:=by
 by_cases h:a=b
 ·subst h;rfl
 ·rw [AD9 h,AD9 (Ne.symm h)]
theorem Nw.lap_tr (ok:n.Ok) (hk:k<n.M) (hr:n.root (n.F k)=n.root (n.T k)) {i:Nat} (hi:i<n.B):n.lap (n.tr k) i=n.inc k i:=by
 have h1:=Nw.lap_th ok (ok.f k hk) hi
 have h2:=Nw.lap_th ok (ok.t k hk) hi
 have h3:n.lap (n.tr k) i=n.lap (n.th (n.F k)) i-n.lap (n.th (n.T k)) i:=Nw.lap_sub i
 rw [h3,h1,h2,hr,At1 i (n.F k),At1 i (n.T k)]
 unfold Nw.inc;grind
def Nw.rst (n:Nw) (k:Nat):Rat:=1-n.bt k k
theorem Nw.rst_ne (ok:n.Ok) (hk:k<n.M) (hg:n.g k≠0) (hb:¬ n.brg k):n.rst k≠0:=by
 have hb:(n.cut k).root (n.F k)=(n.cut k).root (n.T k):=Classical.not_not.1 hb
 intro h
 have h1:n.fl (n.tr k) k=1:=by
  unfold Nw.rst at h
  rw [Nw.bt_fl] at h
  grind
 have hr:=Nw.rigid (n:=n.cut k) (θ:=n.tr k) (Nw.cut_ok ok) (D:=fun _=>True) (fun _ _ _=>Iff.rfl) fun b hb' _=>by
  rw [Nw.cut_lap hk,Nw.lap_tr ok hk (Nw.root_line hk hg) hb',h1];grind
 have hc:=Nw.root_const (n:=n.cut k) (θ:=n.tr k) fun j hj hgj=>hr j hj hgj trivial
 have h2:n.tr k (n.F k)=n.tr k (n.T k):=by rw [<-hc (n.F k),<-hc (n.T k),hb]
 unfold Nw.fl at h1
 rw [h2] at h1
 have:(0:Rat)=1:=by rw [<-h1];grind
 exact absurd this (by decide)
def Nw.lo (n:Nw) (k l:Nat):Rat:=if l=k then -1 else n.bt k l / n.rst k
theorem Nw.lo_flow (ok:n.Ok) (hk:k<n.M) (hg:n.g k≠0) (hb:¬ n.brg k) {x:Nat->Rat} (hx:n.bal x) {l:Nat} (hl:l<n.M):(n.cut k).fl ((n.cut k).an x) l=n.fl (n.an x) l+n.lo k l*n.fl (n.an x) k:=by
 have hr:=Nw.rst_ne ok hk hg hb
 have hc:n.rst k*(n.rst k)⁻¹=1:=Rat.mul_inv_cancel _ hr
 generalize hcc:n.fl (n.an x) k*(n.rst k)⁻¹=c
 have hc1:c*n.rst k=n.fl (n.an x) k:=by rw [<-hcc,Rat.mul_assoc,Rat.inv_mul_cancel _ hr,Rat.mul_one]
 have h1:(n.cut k).fl ((n.cut k).an x) l=(n.cut k).fl (fun b=>n.an x b+n.tr k b*c) l:=Nw.lap_fl (Nw.cut_ok ok) (fun i hi=>by
  rw [Nw.lap_an (n:=n.cut k) (Nw.cut_ok ok) ((Nw.cut_bal ok hb x).2 hx) hi,Nw.cut_lap hk,Nw.lap_add,Nw.lap_smul,Nw.lap_tr ok hk (Nw.root_line hk hg) hi,Nw.lap_an ok hx hi]
  have e:n.fl (fun b=>n.an x b+n.tr k b*c) k=n.fl (n.an x) k+n.bt k k*c:=by rw [Nw.bt_fl];unfold Nw.fl;grind
  rw [e,<-hc1]
  unfold Nw.rst
  grind) hl
 rw [h1,Nw.cut_fl]
 by_cases hne:l=k
 ·subst hne
  rw [if_pos rfl]
  unfold Nw.lo
  rw [if_pos rfl];grind
 ·rw [if_neg hne]
  unfold Nw.lo
  rw [if_neg hne,Rat.div_def]
  have e:n.fl (fun b=>n.an x b+n.tr k b*c) l=n.fl (n.an x) l+n.bt k l*c:=by rw [Nw.bt_fl];unfold Nw.fl;grind
  rw [e,<-hcc]
  grind
end
section
variable {n m:Nw} {k:Nat}
def Nw.trk (n:Nw) (k:Nat):Prop:=n.g k≠0/\n.rootTo k (n.F k)≠n.rootTo k (n.T k)
instance (n:Nw) (k:Nat):Decidable (n.trk k):=inferInstanceAs (Decidable (_/\_))
def Nw.en (n:Nw) (j:Nat):Nat:=((List.range j).filter fun k=>decide (n.g k≠0)).length
end
end Go.Kx
namespace Go.Proofs.YtggegpiffjbngaaGreat
open Go Go.Kx Go.RowKit
theorem AG0:fldOf Tryz.prog 102 0=some 0:=by kernel_rfl
theorem ty_Br:tyOf Tryz.prog 102=some (true,4):=by kernel_rfl
theorem BF7 {a b c d:Value}:bldOf Tryz.prog 102 [(0,.agg #[a,b,c,d])]=some #[a,b,c,d]:=by kernel_rfl
@[reducible] def brV (f t x c:Int):Value:=.agg #[.int .i64 f,.int .i64 t,.int .i64 x,.int .i64 c]
def brE (f t b:Int):Int:=if b=f then 1 else if b=t then -1 else 0
theorem Al3:Ent Tryz.prog 161:=A0 Tryz.func161 (by kernel_rfl) rfl
theorem Aj8 {w:World} {f t x c b:Int}:CR Tryz.prog 161 #[brV f t x c,.int .i64 b] w (Is (.int .i64 (brE f t b))):=by
 refine enter Tryz.func161 O Tryz.ntmps161 O (.beg (.go O (.box O O fun w1 b2 n1=>?_)))
 obtain ⟨e1,k2,_,_⟩:=n1
 refine .go O (.fa AG0 O O (.fa H9 O O (.ld A8 O O k2 O ?_)))
 by_cases h:b=f
 ·refine .eqlT O O O h (.goE O ?_)
  exact .plain [_] Tryz.results161 ⟨rfl,trivial⟩ ⟨e1,by unfold brE;rw [if_pos h];rfl⟩
 refine .eqlF O O O h (.go O (.fa AG0 O O (.fa H8 O O (.ld A8 O O k2 O ?_))))
 by_cases h':b=t
 ·refine .eqlT O O O h' (.goE O ?_)
  exact .plain [_] Tryz.results161 ⟨rfl,trivial⟩ ⟨e1,by unfold brE;rw [if_neg h,if_pos h'];rfl⟩
 ·refine .eqlF O O O h' (.goE O ?_)
  exact .plain [_] Tryz.results161 ⟨rfl,trivial⟩ ⟨e1,by unfold brE;rw [if_neg h,if_neg h'];rfl⟩
theorem brE_mul (f t a b:Int):brE f t a*brE f t b=0\/brE f t a*brE f t b=1\/brE f t a*brE f t b = -1:=by
 unfold brE
 split<;>split<;>(try split)<;>(try split)<;>simp
theorem Ap5:Ent Tryz.prog 100:=A0 Tryz.func100 (by kernel_rfl) rfl
theorem Ao5 {S:Nat->Prop} {w:World} {f t x c a b:Int} (up:Up S w) (hx:1<=x) (hx2:x<=1000):CR Tryz.prog 100 #[brV f t x c,.int .i64 a,.int .i64 b] w (eQ.at S (qc (Rat.divInt (brE f t a*brE f t b) x))):=by
 have hm:=brE_mul f t a b
 refine enter Tryz.func100 O Tryz.ntmps100 O (.beg (.go O (.box O O fun w1 b3 n1=>.go O (.alloc O C7 fun w2 b6 n2=>.goC O ?_))))
 obtain ⟨e1,k3,hb3,hs1⟩:=n1
 obtain ⟨e2,k6,hb6,hs2⟩:=n2
 have x2:=e1.trans e2
 have hx2s:=x2.size
 have k3:=k3.ext e2
 have upT:∀ {W:World},w2.heap.size<=W.heap.size->Up (fun k=>S k/\k≠b6) W:=fun h k hk=>⟨up k (by omega),by omega⟩
 refine .parL follows 15 [13] [.inl (brV f t x c),.inl _,.inl (.int .i64 (brE f t a)),.inl (brV f t x c),.inl _,.inl (.int .i64 (brE f t b)),.inl (.int .i64 (brE f t a*brE f t b)),.inl (.pointer (some ⟨b3,0,none⟩)),.inl (.pointer (some ⟨b3,2,none⟩)),.inl (.int .i64 x),.inr (Two (eQ.at (fun k=>S k/\k≠b6) (qc (Rat.divInt (brE f t a*brE f t b) x))) (Is (.int .i64 0))),.inr (Two (eQ.at (fun k=>S k/\k≠b6) (qc (Rat.divInt (brE f t a*brE f t b) x))) (Is (.int .i64 0))),.inr (eQ.at (fun k=>S k/\k≠b6) (qc (Rat.divInt (brE f t a*brE f t b) x))),.inl (.int .i64 0),.inr (NewP w2.heap.size 54 zq.cells)] [[],[],[(10,0),(11,1)],[],[],[(13,3),(14,4)],[(12,2),(15,5)],[],[(17,7)],[(18,8)],[(16,6),(19,9)],[(20,10)],[(9,11)],[(9,11)],[]] (by kernel_rfl) ⟨
  fun w e=>(C8 ty_Br O (k3.ext e) O).ob,
  fun w e=>(v_mv O).ob,
  fun w e=>(A6 _ Al3 O Aj8).obIs,
  fun w e=>(C8 ty_Br O (k3.ext e) O).ob,
  fun w e=>(v_mv O).ob,
  fun w e=>(A6 _ Al3 O Aj8).obIs,
  fun w e=>((Az4 O O).eq (by rw [wI (by omega)])).ob,
  fun w e=>(v_fa AG0 O).ob,
  fun w e=>(v_fa AF9 O).ob,
  fun w e=>(v_ld T9 O (k3.ext e) O).ob,
  fun w e=>(A6 _ AX5 O (AV4 (upT e.size) (by omega) (by omega) (by omega) (by omega) (by omega))).ob (K6 (A9 _ _ _) (R8 _)),
  fun w e x10 hx10=>K2 (v_mv O) hx10 (K6 (A9 _ _ _) (R8 _)),
  fun w e x11 hx11=>by
   obtain ⟨p,q,rfl,hp,hq⟩:=hx11
   exact K2 (v_ex O O) hp (A9 _ _ _),
  fun w e x11 hx11=>by
   obtain ⟨p,q,rfl,hp,hq⟩:=hx11
   exact ((v_ex O O).eq hq).ob,
  fun w e=>O4 C7 e.size,trivial⟩ ?_
 rintro W3 g3 _ _ _ _ y hy _ ⟨b7,rfl,hb7,k7⟩
 have hy':=AI5 hy k7 P8
 refine .storeA (E:=eQ) ty_Q O O k7 O O hy' (fun h=>h.2 O) fun W4 k7 u4 hy=>?_
 have hs3:=g3.size
 have hs4:=u4.size
 have hy:eQ.R (fun k=>S k/\k≠b6) W4 y _:=eQ.mono (fun _ _ h=>h.1) hy
 have hyv:=shpA (E:=eQ) O hy
 have k6:=(k6.ext g3).upd u4 (by omega)
 have x4:Ext w W4:=u4.below (x2.trans g3) (by omega)
 refine .go O (.ldA ty_Q O O k7 (eQ.csz hy) ?_)
 rw [<-hyv]
 refine .storeA (E:=eQ) ty_Q O O k6 O O hy (fun h=>h.2 O) fun W5 k6 u5 hy=>.goE O ?_
 exact .cell Tryz.results100 O ty_Q O O k6 hy ⟨u5.below x4 (by omega),eQ.mono (fun _ _ h=>h.1) hy⟩
theorem Ay0:Ent Tryz.prog 101:=A0 Tryz.func101 (by kernel_rfl) rfl
theorem Ax5 {S T0:Nat->Prop} {w:World} {x c:Int} {f t L:Nat} {vθ:Value} {θ:List QV} (up:Up S w) (upo:Up T0 w) (hθ:eV.R S w vθ θ) (hk:vk L θ) (hf:f<θ.length) (ht:t<θ.length) (hx:1<=x) (hx2:x<=1000) (hL:1<=L) (hL2:L<=1000000000) :
  CR Tryz.prog 101 #[brV (f:Nat) (t:Nat) x c,vθ] w (eQ.at T0 (qc ((rv θ f-rv θ t) / ((x:Int):Rat)))):=by
 refine enter Tryz.func101 O Tryz.ntmps101 O (.beg (.go O (.box O O fun w1 b2 n1=>.go O (.alloc O C7 fun w2 b4 n2=>.goC O ?_))))
 obtain ⟨e1,k2,hb2,hs1⟩:=n1
 obtain ⟨e2,k4,hb4,hs2⟩:=n2
 have x2:=e1.trans e2
 have hx2s:=x2.size
 have k2:=k2.ext e2
 have upT:∀ {W:World},w2.heap.size<=W.heap.size->Up (fun k=>S k/\k≠b4) W:=fun h k hk=>⟨up k (by omega),by omega⟩
 have upoT:∀ {W:World},w2.heap.size<=W.heap.size->Up (fun k=>T0 k/\k≠b4) W:=fun h k hk=>⟨upo k (by omega),by omega⟩
 have hθ:eV.R (fun k=>S k/\k≠b4) w2 vθ θ:=eV.mono (fun k _ h=>⟨h.1,by have:=h.2;omega⟩) (ER.ext eV (ER.lt eV hθ) x2)
 have hgf:θ[f]?=some (θ.getD f q0):=A7 hf
 have hgt:θ[t]?=some (θ.getD t q0):=A7 ht
 have hqf:=hk.get hL f
 have hqt:=hk.get hL t
 have hx0:((x:Int):Rat)≠0:=fun e=>by
  have:x=0:=by exact_mod_cast e
  omega
 have hrz:∀ b,Rsz (rv θ b) L:=fun b=>hk.rsz hL b
 have hd:Rsz (rv θ f-rv θ t) (L+L+1):=by
  rw [Rat.sub_eq_add_neg]
  exact (hrz _).add (hrz _).neg
 have hr1:Rsz ((x:Int):Rat) (L+L+1):=Rsz.int _ (Nat.lt_of_lt_of_le (by omega:x.natAbs<4294967296 ^ 1) (Nat.pow_le_pow_right (by decide) (by omega))) (by omega)
 refine .parL follows 22 [20] [.inl _,.inl (.pointer (some ⟨b2,0,none⟩)),.inl (.pointer (some ⟨b2,0,none⟩)),.inl (.int .i64 (f:Nat)),.inr (Ptr eQ (fun k=>S k/\k≠b4) (θ.getD f q0)),.inr (eQ.at (fun k=>S k/\k≠b4) (θ.getD f q0)),.inl _,.inl (.pointer (some ⟨b2,0,none⟩)),.inl (.pointer (some ⟨b2,1,none⟩)),.inl (.int .i64 (t:Nat)),.inr (Ptr eQ (fun k=>S k/\k≠b4) (θ.getD t q0)),.inr (eQ.at (fun k=>S k/\k≠b4) (θ.getD t q0)),.inr (eQ.at (fun k=>S k/\k≠b4) (qc (rv θ f-rv θ t))),.inl (.pointer (some ⟨b2,0,none⟩)),.inl (.pointer (some ⟨b2,2,none⟩)),.inl (.int .i64 x),.inr (eQ.at (fun k=>S k/\k≠b4) (qc ((x:Int):Rat))),.inr (Two (eQ.at (fun k=>T0 k/\k≠b4) (qc ((rv θ f-rv θ t) / ((x:Int):Rat)))) (Is (.int .i64 0))),.inr (Two (eQ.at (fun k=>T0 k/\k≠b4) (qc ((rv θ f-rv θ t) / ((x:Int):Rat)))) (Is (.int .i64 0))),.inr (eQ.at (fun k=>T0 k/\k≠b4) (qc ((rv θ f-rv θ t) / ((x:Int):Rat)))),.inl (.int .i64 0),.inr (NewP w2.heap.size 54 zq.cells)] [[],[],[(9,1)],[(10,2)],[(8,0),(11,3)],[(12,4)],[],[],[(15,7)],[(16,8)],[(14,6),(17,9)],[(18,10)],[(13,5),(19,11)],[],[(21,13)],[(22,14)],[(23,15)],[(20,12),(24,16)],[(25,17)],[(7,18)],[(7,18)],[]] (by kernel_rfl) ⟨
  fun w e=>(v_mv O).ob,
  fun w e=>(v_fa AG0 O).ob,
  fun w e=>(v_fa H9 O).ob,
  fun w e=>(v_ld A8 O (k2.ext e) O).ob,
  fun w e=>D5 (i:=f) un_V ty_Q O (ER.ext eV hθ e) O hgf,
  fun w e x4 hx4=>M0 ty_Q O hx4,
  fun w e=>(v_mv O).ob,
  fun w e=>(v_fa AG0 O).ob,
  fun w e=>(v_fa H8 O).ob,
  fun w e=>(v_ld A8 O (k2.ext e) O).ob,
  fun w e=>D5 (i:=t) un_V ty_Q O (ER.ext eV hθ e) O hgt,
  fun w e x10 hx10=>M0 ty_Q O hx10,
  fun w e x5 hx5 x11 hx11=>(A6 _ N7 O (Q5 (L:=L) (upT e.size) hx5 hx11 hqf.1 hqt.1 hL (by omega))).ob (A9 _ _ _),
  fun w e=>(v_fa AG0 O).ob,
  fun w e=>(v_fa AF9 O).ob,
  fun w e=>(v_ld T9 O (k2.ext e) O).ob,
  fun w e=>(A6 _ D3 O (D0 (upT e.size) (by omega) (by omega))).ob (A9 _ _ _),
  fun w e x12 hx12 x16 hx16=>by
   have:=AA2 (L:=L+L+1) (upT e.size) (upoT e.size) hx12 hx16 hd.toOk hr1.toOk (by omega) (by omega) (by rw [B5];exact hx0)
   rw [B5,B5] at this
   exact (A6 _ AB3 O this).ob (K6 (A9 _ _ _) (R8 _)),
  fun w e x17 hx17=>K2 (v_mv O) hx17 (K6 (A9 _ _ _) (R8 _)),
  fun w e x18 hx18=>by
   obtain ⟨p,q,rfl,hp,hq⟩:=hx18
   exact K2 (v_ex O O) hp (A9 _ _ _),
  fun w e x18 hx18=>by
   obtain ⟨p,q,rfl,hp,hq⟩:=hx18
   exact ((v_ex O O).eq hq).ob,
  fun w e=>O4 C7 e.size,trivial⟩ ?_
 rintro W3 g3 _ _ _ _ _ _ _ _ _ _ _ _ _ _ _ _ y hy _ ⟨b5,rfl,hb5,k5⟩
 have hy':=AI5 hy k5 P8
 refine .storeA (E:=eQ) ty_Q O O k5 O O hy' (fun h=>h.2 O) fun W4 k5 u4 hy=>?_
 have hs3:=g3.size
 have hs4:=u4.size
 have hy:eQ.R (fun k=>T0 k/\k≠b4) W4 y _:=eQ.mono (fun _ _ h=>h.1) hy
 have hyv:=shpA (E:=eQ) O hy
 have k4:=(k4.ext g3).upd u4 (by omega)
 have x4:Ext w W4:=u4.below (x2.trans g3) (by omega)
 refine .go O (.ldA ty_Q O O k5 (eQ.csz hy) ?_)
 rw [<-hyv]
 refine .storeA (E:=eQ) ty_Q O O k4 O O hy (fun h=>h.2 O) fun W5 k4 u5 hy=>.goE O ?_
 exact .cell Tryz.results101 O ty_Q O O k4 hy ⟨u5.below x4 (by omega),eQ.mono (fun _ _ h=>h.1) hy⟩
theorem BB3 {S:Nat->Prop} {w W:World} {v:Value} {a:List QV} {B:Nat} (h:ResP S w.heap.size ((B:Nat):Int) a v W) (up:Up S w) (h1:1<=B) (h2:B<=60000):eV.R S W v (tab B (rv a)):=by
 rcases h with ⟨h,_⟩ | ⟨_,g,N,hN,hg,rfl,hf⟩
 ·omega
 ·have hNB:N=B:=by omega
  subst hNB
  have:=hf.toR (hsz:=by decide) (c:=N) (up g hg) (by rw [A1];exact Nat.le_refl _) (by rw [A1];omega)
  rw [A1] at this
  exact this
theorem vk_res {L B:Nat} {a:List QV} (h:vk L a) (hL:1<=L):vk L (tab B (rv a)):=AC2 fun k _=>h.rsz hL k
theorem AM5:Ent Tryz.prog 39:=A0 Tryz.func39 (by kernel_rfl) rfl
theorem AL1 {S T0:Nat->Prop} {w:World} {vn vo va:Value} {n:NtV} {o:List Int} {a:List QV} {L:Nat} (up:Up S w) (upo:Up T0 w) (hn:eN.R S w vn n) (ho:eI.R S w vo o) (ha:eV.R S w va a) (hka:vk L a) (hL1:1<=L) (hL:L<=1000000000) :
  CR Tryz.prog 39 #[vn,vo,va] w (Two (eV.at T0 (if sfE n o a.length=0 then tab n.ls.length ((nwOf n o).fl (rv a)) else [])) (Is (.int .i64 (sfE n o a.length)))):=by
 obtain ⟨s,rfl,hs,hb⟩:=hn
 have hn:eN.R S w (.agg #[.int .i64 n.b,s]) n:=⟨s,rfl,hs,hb⟩
 refine enter Tryz.func39 O Tryz.ntmps39 O (.beg (.go O (.box O O fun w1 b3 n1=>?_)))
 obtain ⟨e1,k3,hb3,hs1⟩:=n1
 refine .go O (.ldA ty_N O O k3 O (.go O ?_))
 refine .call _ O Z3 O (Y7 (up.ext e1.size) (hn.ext e1) (ho.ext e1)) fun v2 w2 e2 h2=>?_
 obtain ⟨vl,ve,rfl,hl,he⟩:=h2
 replace he:ve=.int .i64 (outE n o):=he
 subst he
 have x2:=e1.trans e2
 refine .go O ?_
 by_cases hE:outE n o=0
 rotate_left
 ·have hb:sfE n o a.length=outE n o:=by unfold sfE;rw [if_pos hE]
  refine .neqT O O O hE (.goE O ?_)
  refine .plain [_,_] Tryz.results39 ⟨rfl,rfl,trivial⟩ ⟨x2,_,_,rfl,?_,by rw [hb]⟩
  rw [if_neg (by rw [hb];exact hE)];exact RL.nil
 have ok:=K4 hE
 rw [if_pos hE] at hl
 have hB6:=ok.b6
 have hB1:=ok.b1
 have hM10:n.ls.length<=10:=ok.m
 have hnb:=ok.b
 have hll:=S4 n o
 have k3:=k3.ext e2
 rw [hnb] at k3
 obtain ⟨_,_,_,_,hal⟩:=RL.len ha
 refine .neqF O O O hE (.go O (.lenR un_V O O (ha.ext x2) (.go O (.fa H3 O O (.ld A8 O O k3 O ?_)))))
 by_cases hlen:(a.length:Int)<=n.b
 rotate_left
 ·have hb:sfE n o a.length=5:=by unfold sfE;rw [if_neg (by simpa using hE),if_neg hlen]
  refine .gtrT O O O (by omega) (.goE O ?_)
  refine .plain [_,_] Tryz.results39 ⟨rfl,rfl,trivial⟩ ⟨x2,_,_,rfl,?_,by rw [hb]⟩
  rw [if_neg (by rw [hb];decide)];exact RL.nil
 have hno:sfE n o a.length=0:=by unfold sfE;rw [if_neg (by simpa using hE),if_pos hlen]
 rw [if_pos hno]
 refine .gtrF O O O (by omega) (.go O (.fa H3 O O (.ld A8 O O k3 O ?_)))
 refine .call _ O P7 O (Z5 (up.ext x2.size) (ha.ext x2) hka hL1 (by omega)) fun v3 w3 e3 h3=>?_
 have h3:=BB3 (B:=(nwOf n o).B) h3 (up.ext x2.size) (by omega) (by omega)
 have x3:=x2.trans e3
 refine .go O (.fa F1 O O (.ld I2 O O (k3.ext e3) O (.lenR H4 O O (hs.ext x3) ?_)))
 refine .make_ _ _ un_V J0 O (by decide) O O O (Nat.le_refl _) (by omega) (by omega) fun w4 h n4=>?_
 have f4:FB eQ 54 T0 w4 h (List.replicate n.ls.length q0):=FB.made n4 zq_R
 obtain ⟨e4,_,hh,hs4⟩:=n4
 rw [<-AJ5] at f4
 have hs3:=x3.size
 have hl:=ER.ext eI hl e3
 have hs:=ER.ext eLs hs x3
 have k3:=k3.ext e3
 have h3:eV.R (fun k=>S k/\k≠h) w3 v3 _:=eV.mono (fun k _ h=>⟨h.1,by have:=h.2;omega⟩) (ER.lt eV h3)
 refine .go O (.lenR un_I O O (ER.ext eI hl e4) ?_)
 rw [show (pInts (inL n o)).length=(inL n o).length by simp]
 refine .goC O (.lp (α:=Nat) [3,10,11,36,37] O (fun i=>[(38,.int .i64 (i:Nat))]) (fun i W=>Ext w3 W/\i<=(inL n o).length/\FB eQ 54 T0 W h (tab n.ls.length fun k=>if k∈(inL n o).take i then (nwOf n o).fl (rv a) k else 0)) (fun i=>(inL n o).length-i) 0 (lc1 O) ⟨e4,Nat.zero_le _,by simpa using f4⟩ ?_)
 rintro i W ⟨hW,hi,fb⟩
 have hWs:=hW.size
 have hhl:=fb.lt
 refine .go O ?_
 rcases Nat.lt_or_ge i (inL n o).length with hlt | hge
 rotate_left
 ·refine .lssF O O O (by omega) (.goE O ?_)
  have:i=(inL n o).length:=by omega
  subst this
  rw [List.take_of_length_le (Nat.le_refl _),BE2 ok] at fb
  refine .plain [_,_] Tryz.results39 ⟨rfl,rfl,trivial⟩ ⟨x3.trans hW,_,_,rfl,?_,by rw [hno]⟩
  have:=fb.toR (hsz:=by decide) (c:=n.ls.length) (upo h (by omega)) (by rw [A1];exact Nat.le_refl _) (by rw [A1];omega)
  rw [A1] at this
  exact this
 obtain ⟨hgk,hkM,hko⟩:=AF5 hlt
 refine .lssT O O O (by omega) (.go O (.ixN (i:=i) un_I B0 O O (ER.ext eI hl hW) O hgk fun q hq=>.ldE (E:=eInt .i64) B0 O O hq fun e he=>?_))
 obtain ⟨rfl,_⟩:=he
 have hset:=Ah4 (M:=n.ls.length) (f:=(nwOf n o).fl (rv a)) hlt
 have hgl:n.ls[(inL n o).getD i 0]?=some (n.ls.getD ((inL n o).getD i 0) ln0):=A7 hkM
 have hFI:=ok.fI _ hkM
 have hTI:=ok.tI _ hkM
 have hF:=ok.f _ hkM
 have hT:=ok.t _ hkM
 have hx:=ok.x _ hkM
 have hgv:=g_on (n:=n) hko
 generalize hkk:(inL n o).getD i 0=k at hset hgl hFI hTI hx hgv hkM hF hT
 generalize hln:n.ls.getD k ln0=ln at hgl hFI hTI hx hgv
 refine .go O (.fa F1 O O (.ld I2 O O (k3.ext hW) O (.go O (.ixN (i:=k) H4 M6 O O (ER.ext eLs hs hW) O hgl fun q hq=>.ldE (E:=eL) M6 O O hq fun vl' hvl=>?_))))
 obtain ⟨rfl,_⟩:=hvl
 rw [hFI,hTI]
 refine .bld _ O O BF7 (.go O ?_)
 have hv:=Ax5 (w:=W) (S:=fun k=>S k/\k≠h) (T0:=fun k=>T0 k/\k≠h) (c:=ln.c) (fun k hk=>⟨up k (by omega),by omega⟩) (fun k hk=>⟨upo k (by omega),by omega⟩) (ER.ext eV h3 hW) (vk_res hka hL1) (by rw [A1];exact hF) (by rw [A1];exact hT) hx.1 hx.2 hL1 hL
 have hflv:(rv (tab (nwOf n o).B (rv a)) ((nwOf n o).F k)-rv (tab (nwOf n o).B (rv a)) ((nwOf n o).T k)) / ((ln.x:Int):Rat)=(nwOf n o).fl (rv a) k:=by
  unfold Nw.fl
  rw [P0,P0,if_pos hF,if_pos hT,hgv,Rat.div_def,Rat.mul_comm]
 rw [hflv] at hv
 refine .call _ O Ay0 O hv fun y W1 g1 hy=>?_
 have hs1':=g1.size
 refine .go O (.ixB (i:=k) un_V ty_Q O O O hkM (.storeF (E:=eQ) (i:=k) (by decide) ty_Q O O (fb.ext g1) O (by rw [A1];exact hkM) (Nat.zero_add _) hy fun W6 f6 u6=>?_))
 rw [hset] at f6
 exact .go O (.inc O O O (by omega) (.goN O (.mk (i+1) O (lc1 O) ⟨⟨u6.below (hW.trans g1) (by omega),hlt,f6⟩,by show (inL n o).length-(i+1)<(inL n o).length-i;omega⟩)))
end Go.Proofs.YtggegpiffjbngaaGreat
namespace Go.Kx
open Go Go.RowKit
section
variable {P:Program} {σ:Env} {w:World} {d:Option Tmp} {ty:TypeId} {pos:String} {af:Array Edge} {g:Option (Nat×Bool)}
theorem BE1 {f:FuncId} {fx:Operand} {xs:List Operand} {ts:Array TypeId} (fs cap vs:List Value) {R:Value->World->Prop} (hfx:ev σ fx=some (.func (.func f) fs.toArray cap.toArray)) (hf:Ent P f) (hx:xs.map (ev σ)=vs.map some)
  (hc:CR P f (fs++(vs++cap)).toArray w R) :
  Gv P ⟨d,.call { callee:=.value fx,args:=xs.toArray,argTypes:=ts },ty,pos,af,g⟩ σ w fun v w'=>Ext w w'/\R v w':=by
 refine ⟨(by intro _ h;cases h),fun ρ hρ=>.inr (.inr ?_)⟩
 have h1:=hρ fx _ (by simp [Op.operands,Call.operands]) hfx
 have h2:xs.map ρ=vs:=AA4 (σ:=σ) (fun x v hx'=>hρ x v (by simp [Op.operands,Call.operands,hx'])) hx
 refine ⟨f,(fs++(vs++cap)).toArray,w,?_,hc⟩
 simp [execOp,resolve,h1,h2,Deferred.ofValue,invoke,hf _ _]
theorem ob_make {t e:TypeId} {x y:Operand} {z:Value} {sz by_ B:Nat} (n c:Nat) {k k':IntKind} (ht:P.underlying t=some (.slice e)) (hi:infoOf P e=some (z,sz,by_)) (hzs:z.cells.size=sz) (hsz:0<sz)
  (hx:ev σ x=some (.int k (n:Int))) (hy:ev σ y=some (.int k' (c:Int))) (hnc:n<=c) (hby:by_*c<=281474976710656) (hc:c<=9223372036854775807) (hB:B<=w.heap.size) :
  Gv P ⟨d,.makeSlice t x y,ty,pos,af,g⟩ σ w fun v' w'=>Ext w w'/\Sp.ok (.inr fun v W=>∃ b,v=.slice (some ⟨b,0,none⟩) n c/\B<=b/\Blk W b e (cellsOf (List.replicate c z)).toArray) v' w' :=
 (BE0 n c ht hi hzs hsz hx hy hnc hby hc).mono fun v' w' ⟨b,hv,hn⟩=>⟨hn.1,fun w'' e=>⟨b,hv,by have:=hn.2.2.1;omega,hn.2.1.ext e⟩⟩
end
theorem FB.rep {α:Type} {E:ER α} {t:TypeId} {S:Nat->Prop} {w:World} {g c:Nat} {z:Value} {z0:α} (hb:Blk w g t (cellsOf (List.replicate c z)).toArray) (hz:E.R (fun k=>S k/\k≠g) w z z0):FB E t S w g (List.replicate c z0) :=
 ⟨List.replicate c z,hb,by simp,fun i e x he hx=>by
  rw [List.getElem?_replicate] at he hx
  split at he
  ·rename_i h;rw [if_pos h] at hx;cases he;cases hx;exact hz
  ·cases he⟩
def mixF (f q:RM) (r c:Nat):RM:=fun r' c'=>if r'<r\/(r'=r/\c'<c) then f r' c'+q r' c' else f r' c'
theorem Av6 (f q:RM) (r c:Nat):upE (mixF f q r c) r c (f r c+q r c)=mixF f q r (c+1):=by
 funext a b
 unfold upE mixF
 by_cases ha:a=r
 ·subst ha
  rw [if_pos rfl]
  by_cases hb:b=c
  ·subst hb
   rw [if_pos rfl,if_pos (.inr ⟨rfl,by omega⟩)]
  ·rw [if_neg hb]
   by_cases h:b<c
   ·rw [if_pos (.inr ⟨rfl,h⟩),if_pos (.inr ⟨rfl,by omega⟩)]
   ·rw [if_neg (by omega),if_neg (by omega)]
 ·rw [if_neg ha]
  by_cases h:a<r
  ·rw [if_pos (.inl h),if_pos (.inl h)]
  ·rw [if_neg (by omega),if_neg (by omega)]
theorem BC3 (B:Nat) (f q:RM) (r:Nat):tabM B B (mixF f q r B)=tabM B B (mixF f q (r+1) 0):=B7 fun a b _ hb=>by
 unfold mixF
 by_cases h:a<r+1
 ·rw [if_pos (by omega),if_pos (.inl h)]
 ·rw [if_neg (by omega),if_neg (by omega)]
theorem Av5 (B:Nat) (f q:RM):tabM B B (mixF f q 0 0)=tabM B B f:=B7 fun a b _ _=>by unfold mixF;rw [if_neg (by omega)]
theorem BC4 (B:Nat) (f q:RM):tabM B B (mixF f q B 0)=tabM B B fun r c=>f r c+q r c:=B7 fun a b ha _=>by unfold mixF;rw [if_pos (.inl ha)]
theorem mixF_at (f q:RM) (r c:Nat):mixF f q r c r c=f r c:=by unfold mixF;rw [if_neg (by omega)]
end Go.Kx
namespace Go.Proofs.YtggegpiffjbngaaGreat
open Go Go.Kx Go.RowKit
theorem At5 {n:Nw} {k b:Nat} (hne:n.F k≠n.T k):((brE (n.F k:Nat) (n.T k:Nat) (b:Nat):Int):Rat)=n.inc k b:=by
 unfold brE Nw.inc dl
 by_cases h1:n.F k=b
 ·rw [if_pos (by omega),if_pos h1,if_neg (by omega)];grind
 ·rw [if_neg (by omega),if_neg h1]
  by_cases h2:n.T k=b
  ·rw [if_pos (by omega),if_pos h2];grind
  ·rw [if_neg (by omega),if_neg h2];grind
theorem Ae5 {n:Nw} {k a b:Nat} {x:Int} (hne:n.F k≠n.T k) (hg:n.g k=((x:Int):Rat)⁻¹):Rat.divInt (brE (n.F k:Nat) (n.T k:Nat) (a:Nat)*brE (n.F k:Nat) (n.T k:Nat) (b:Nat)) x=n.g k*(n.inc k a*n.inc k b):=by
 rw [<-At5 hne,<-At5 hne,hg,Rat.divInt_eq_div,Rat.div_def,Rat.mul_comm,Rat.intCast_mul]
theorem E_Lap1:Ent Tryz.prog 99:=A0 Tryz.func99 (by kernel_rfl) rfl
set_option maxRecDepth 8000 in
theorem Lap1_c {S:Nat->Prop} {w:World} {b8 gb B:Nat} {hs:List Nat} {f q:RM} {F T x c:Int} (up:Up S w) (hM:MB 32 54 S w gb B hs (tabM B B f)) (k8:Blk w b8 28 #[slB B gb]) (h8:b8∉hs) (h8g:b8≠gb) (hB:B<=6)
  (hf:∀ r c,Rsz (f r c) 30) (hq:∀ a b:Nat,Rat.divInt (brE F T (a:Nat)*brE F T (b:Nat)) x=q a b) (hqs:∀ r c,Rsz (q r c) 30) (hx:1<=x) (hx2:x<=1000) :
  Calls Tryz.prog 99 #[.func (.func 100) #[brV F T x c] #[],.pointer (some ⟨b8,0,none⟩)] w fun e w'=>∃ v,e=.returned v/\(Chg (fun k=>k∈hs) w w'/\MB 32 54 S w' gb B hs (tabM B B fun r c=>f r c+q r c)):=by
 have hlen:hs.length=B:=by rw [hM.len,A3]
 have hhg:∀ i,i<B->hs[i]?=some (hs.getD i 0):=fun i hi=>A7 (by omega)
 have hgn:=hM.gn
 have hgl:=hM.out.lt
 have hlt0:∀ k∈hs,k<w.heap.size:=fun k hk=>hM.lt hk
 refine enterG Tryz.func99 O Tryz.ntmps99 O (.beg (.go O (.ld ty_M O O k8 O (.len un_M O O ?_))))
 refine .goC O (.lp (α:=Nat) [0,1,6] O (fun r=>[(7,.int .i64 (r:Nat))]) (fun r W=>r<=B/\Chg (fun k=>k∈hs) w W/\MB 32 54 S W gb B hs (tabM B B (mixF f q r 0))) (fun r=>B-r) 0 (lc1 O) ⟨Nat.zero_le _,Chg.refl _,by rw [Av5];exact hM⟩ ?_)
 rintro r W ⟨hr,hC,hM⟩
 refine .go O ?_
 rcases Nat.lt_or_ge r B with hrl | hge
 rotate_left
 ·refine .lssF O O O (by omega) (.goE O ?_)
  have:r=B:=by omega
  subst this
  rw [BC4] at hM
  exact .plain [] Tryz.results99 trivial ⟨hC,hM⟩
 refine .lssT O O O (by omega) (.go O (.ld ty_M O O (hC.blk k8 h8) O (.go O (.ixB (i:=r) un_M ty_V O O O hrl (.ld ty_V O O hM.out (hM.cell (hhg r hrl)) (.len un_V O O ?_))))))
 refine .goC O (.lp (α:=Nat) [0,1,3,6,7,14] O (fun c=>[(15,.int .i64 (c:Nat))]) (fun c W=>c<=B/\Chg (fun k=>k∈hs) w W/\MB 32 54 S W gb B hs (tabM B B (mixF f q r c))) (fun c=>B-c) 0 (lc1 O) ⟨Nat.zero_le _,hC,hM⟩ ?_)
 clear hM hC W
 rintro j W ⟨hj,hC,hM⟩
 refine .go O ?_
 rcases Nat.lt_or_ge j B with hjl | hge
 rotate_left
 ·have:j=B:=by omega
  subst this
  rw [BC3] at hM
  exact .lssF O O O (by omega) (.go O (.inc O O O (by omega) (.goN O (.mk (r+1) O (lc1 O) ⟨⟨hrl,hC,hM⟩,by show j-(r+1)<j-r;omega⟩))))
 have k8W:=hC.blk k8 h8
 have hrow:=hM.row r _ _ (hhg r hrl) (D4 hrl)
 have hCs:=hC.size
 have upT:∀ {W':World},W.heap.size<=W'.heap.size->Up (offM S gb hs) W':=fun h k' hk'=>⟨up k' (by omega),by omega,fun hm=>by have:=hlt0 k' hm;omega⟩
 refine .lssT O O O (by omega) (.goC O ?_)
 refine .par follows 17 [.inl (slB B gb),.inl (.int .i64 (r:Nat)),.inl (.pointer (some ⟨gb,0+r*1,none⟩)),.inl (slB B (hs.getD r 0)),.inl (.int .i64 (j:Nat)),.inl (slB B gb),.inl (.int .i64 (r:Nat)),.inl (.pointer (some ⟨gb,0+r*1,none⟩)),.inl (slB B (hs.getD r 0)),.inl (.int .i64 (j:Nat)),.inl (.pointer (some ⟨hs.getD r 0,0+j*4,none⟩)),.inr (eQ.at (offM S gb hs) (qc (f r j))),.inl _,.inl _,.inl _,.inr (eQ.at (offM S gb hs) (qc (q r j))),.inr (eQ.at (offM S gb hs) (qc (f r j+q r j)))] [[],[],[(18,0),(19,1)],[(20,2)],[],[],[],[(23,5),(24,6)],[(25,7)],[],[(26,8),(27,9)],[(28,10)],[],[],[],[(30,12),(31,13),(32,14)],[(29,11),(33,15)]] (by kernel_rfl) ⟨
  fun w e=>(v_ld ty_M O (k8W.ext e) O).ob,
  fun w e=>(v_mv O).ob,
  fun w e=>(E2 (i:=r) un_M ty_V O O hrl).ob,
  fun w e=>(v_ld ty_V O (hM.out.ext e) (hM.cell (hhg r hrl))).ob,
  fun w e=>(v_mv O).ob,
  fun w e=>(v_ld ty_M O (k8W.ext e) O).ob,
  fun w e=>(v_mv O).ob,
  fun w e=>(E2 (i:=r) un_M ty_V O O hrl).ob,
  fun w e=>(v_ld ty_V O (hM.out.ext e) (hM.cell (hhg r hrl))).ob,
  fun w e=>(v_mv O).ob,
  fun w e=>(E2 (i:=j) un_V ty_Q O O hjl).ob,
  fun w e=>(U4 (E:=eQ) (i:=j) (by decide) ty_Q O (Nat.zero_add _) (hrow.2.ext e) (by rw [E9 hjl,mixF_at])).mono fun v' w' h=>⟨h.1,fun w'' e'=>eQ.mono (fun _ _ h=>h.1) (h.2 w'' e')⟩,
  fun w e=>(v_mv O).ob,
  fun w e=>(v_mv O).ob,
  fun w e=>(v_mv O).ob,
  fun w e=>by
   have:=Ao5 (f:=F) (t:=T) (c:=c) (a:=(r:Nat)) (b:=(j:Nat)) (upT e.size) hx hx2
   rw [hq] at this
   exact (BE1 [brV F T x c] [] [.int .i64 (r:Nat),.int .i64 (j:Nat)] O Ap5 O this).ob (A9 _ _ _),
  fun w e x11 hx11 x15 hx15=>by
   have:=Q6 (L:=30) (upT e.size) hx11 hx15 (hf _ _).toOk (hqs _ _).toOk (by decide) (by decide)
   rw [B5,B5] at this
   exact (A6 _ Q8 O this).ob (A9 _ _ _),trivial⟩ ?_
 intro X0 g0 _ _ _ _ y0 hy0
 have sx0:=g0.size
 have hm:hs.getD r 0∈hs:=E0 (by omega)
 refine .ixB (i:=j) un_V ty_Q O O O hjl (.storeF (E:=eQ) (i:=j) (by decide) ty_Q O O (hrow.2.ext g0) O (by rw [A1];exact hjl) (Nat.zero_add _) (eQ.mono (fun k' _ h=>⟨h,fun e=>h.2.2 (e▸hm)⟩) hy0) fun Y0 fy0 uy0=>?_)
 have hM:=(hM.ext g0).set (hhg r hrl) (by rw [List.length_set,A1]) uy0 fy0
 rw [AC6 hrl,Av6] at hM
 exact .go O (.inc O O O (by omega) (.goN O (.mk (j+1) O (lc1 O) ⟨⟨hjl,hC.trans ((Chg.ext g0).trans (Chg.upd uy0 hm)),hM⟩,by show B-(j+1)<B-j;omega⟩)))
theorem AO9:Ent Tryz.prog 38:=A0 Tryz.func38 (by kernel_rfl) rfl
set_option maxRecDepth 8000 in
theorem AN6 {S:Nat->Prop} {w:World} {vn vo:Value} {n:NtV} {o:List Int} (up:Up S w) (hn:eN.R S w vn n) (ho:eI.R S w vo o) :
  CR Tryz.prog 38 #[vn,vo] w (Two (fun v W=>if outE n o=0 then MBat 32 54 S w.heap.size (nwOf n o).B (nwOf n o).B (tabM (nwOf n o).B (nwOf n o).B (nwOf n o).Lm) v W else v=.slice none 0 0) (Is (.int .i64 (outE n o)))):=by
 obtain ⟨s,rfl,hs,hb⟩:=hn
 have hn:eN.R S w (.agg #[.int .i64 n.b,s]) n:=⟨s,rfl,hs,hb⟩
 refine enter Tryz.func38 O Tryz.ntmps38 O (.beg (.go O (.box O O fun w1 b2 n1=>?_)))
 obtain ⟨e1,k2,hb2,hs1⟩:=n1
 refine .go O (.ldA ty_N O O k2 O (.go O ?_))
 refine .call _ O Z3 O (Y7 (up.ext e1.size) (hn.ext e1) (ho.ext e1)) fun v2 w2 e2 h2=>?_
 obtain ⟨vl,ve,rfl,hl,he⟩:=h2
 replace he:ve=.int .i64 (outE n o):=he
 subst he
 have x2:=e1.trans e2
 refine .go O ?_
 by_cases hE:outE n o=0
 rotate_left
 ·refine .neqT O O O hE (.goE O ?_)
  refine .plain [_,_] Tryz.results38 ⟨rfl,rfl,trivial⟩ ⟨x2,_,_,rfl,?_,rfl⟩
  show if outE n o=0 then _ else _
  rw [if_neg hE]
 have ok:=K4 hE
 rw [if_pos hE] at hl
 have hB6:=ok.b6
 have hB1:=ok.b1
 have hM10:n.ls.length<=10:=ok.m
 have hnb:=ok.b
 have hll:=S4 n o
 have k2:=k2.ext e2
 have hsx2:=x2.size
 rw [hnb] at k2
 refine .neqF O O O hE (.go O (.fa H3 O O (.ld A8 O O k2 O ?_)))
 generalize hBB:(nwOf n o).B=B at hB6 hB1 hnb k2
 refine .make_ _ _ un_M AD3 O (by decide) O O O (Nat.le_refl _) (by omega) (by omega) fun w3 gb n3=>.alloc O Ay8 fun w4 b8 n4=>?_
 obtain ⟨e3,kg,hgb,hs3⟩:=n3
 obtain ⟨e4,k8,hb8,hs4⟩:=n4
 refine .store ty_M O O k8 O (by simp [Value.cells]) (by simp [one1,Value.cells]) fun w5 k8 u5=>?_
 replace k8:Blk w5 b8 28 #[slB B gb]:=k8
 have hs5:=u5.size
 have y5:Ext w2 w5:=u5.below (e3.trans e4) (by omega)
 have k2V:=k2
 have k2:=k2.ext y5
 have kg:Blk w5 gb 32 (cellsOf (List.replicate B nilV)).toArray:=(kg.ext e4).upd u5 (by omega)
 refine .go O (.ld ty_M O O k8 O (.len un_M O O ?_))
 have hb2l:=(k2).lt
 have hup:∀ k,w.heap.size<=k->S k:=up
 refine .goC O (.cut (α:=List Nat) 1 [2,6,8,26] O (fun hs=>[(27,.int .i64 (hs.length:Nat))]) (fun hs W=>Ext w2 W/\Blk W b8 28 #[slB B gb]/\(∀ k∈hs,w5.heap.size<=k)/\MB 32 54 S W gb B hs (tabM B B fun _ _=>0)) O ?_ ?_)
 rotate_left
 ·refine .lp (α:=List Nat) [2,6,8,26] rfl (fun hs=>[(27,.int .i64 (hs.length:Nat))]) (fun hs W=>Ext w2 W/\Blk W b8 28 #[slB B gb]/\hs.length<=B/\Blk W gb 32 (cellsOf (hs.map (slB B)++List.replicate (B-hs.length) nilV)).toArray/\hs.Nodup/\(∀ k∈hs,w5.heap.size<=k)/\∀ (i h:Nat),hs[i]?=some h->FB eQ 54 (fun _=>False) W h (List.replicate B q0)) (fun hs=>B-hs.length) [] (lc1 rfl) ⟨y5,k8,Nat.zero_le _,kg,List.nodup_nil,(fun k hk=>by cases hk),(fun i h hh=>by cases hh)⟩ ?_
  rintro hs W ⟨hW,k8,hi,hO,hnd,hge,hrow⟩
  have hWs:=hW.size
  have hgl:=hO.lt
  refine .go O ?_
  rcases Nat.lt_or_ge hs.length B with hlt | hge'
  rotate_left
  ·refine .lssF O O O (by omega) (.goN O (.mk hs O (lc1 O) ⟨hW,k8,hge,?_⟩))
   have hl:hs.length=B:=by omega
   rw [hl,Nat.sub_self,List.replicate_zero,List.append_nil] at hO
   refine ⟨hO,hnd,fun hm=>by have:=hge gb hm;omega,by rw [A3];exact hl,fun i h r h1 h2=>?_⟩
   have hil:i<B:=by have:=(List.getElem?_eq_some_iff.1 h1).1;omega
   rw [D4 hil] at h2
   cases h2
   rw [AJ5]
   exact ⟨by simp,(hrow i h h1).mono fun _ _ h=>h.elim⟩
  refine .lssT O O O (by omega) (.goC O ?_)
  refine .par follows 5 [.inl (slB B gb),.inl (.int .i64 (hs.length:Nat)),.inl (.pointer (some ⟨b2,0,none⟩)),.inl (.int .i64 (B:Nat)),.inr (fun v W'=>∃ b,v=.slice (some ⟨b,0,none⟩) B B/\W.heap.size<=b/\Blk W' b 54 (cellsOf (List.replicate B zq)).toArray)] [[],[],[],[(32,2)],[(33,3)]] (by kernel_rfl) ⟨
   fun w e=>(v_ld ty_M O (k8.ext e) O).ob,
   fun w e=>(v_mv O).ob,
   fun w e=>(v_fa H3 O).ob,
   fun w e=>(v_ld A8 O ((k2V.ext hW).ext e) O).ob,
   fun w e=>ob_make B B un_V J0 O (by decide) O O (Nat.le_refl _) (by omega) (by omega) e.size,trivial⟩ ?_
  rintro W1 g1 _ ⟨h,rfl,hhW,kh⟩
  have hs1':=g1.size
  have hlW:∀ k∈hs,k<W.heap.size:=fun k hk=>by
   obtain ⟨i,hi⟩:=List.mem_iff_getElem?.1 hk
   exact (hrow i k hi).lt
  have hesz:∀ e∈hs.map (slB B)++List.replicate (B-hs.length) nilV,e.cells.size=1:=fun e he=>by
   rcases List.mem_append.1 he with h | h
   ·obtain ⟨_,_,rfl⟩:=List.mem_map.1 h;rfl
   ·rw [(List.mem_replicate.1 h).2];rfl
  have hset:(hs.map (slB B)++List.replicate (B-hs.length) nilV).set hs.length (slB B h)=(hs++[h]).map (slB B)++List.replicate (B-(hs.length+1)) nilV:=by
   have:=Aq6 (hs.map (slB B)) nilV (slB B h) (B-(hs.length+1))
   rw [List.length_map,show B-(hs.length+1)+1=B-hs.length by omega] at this
   rw [this,List.map_append];rfl
  refine .ixB (i:=hs.length) un_M ty_V O O O hlt ?_
  refine .gv O O (AV0 (i:=hs.length) (by decide) ty_V O O (hO.ext g1) hesz O (by simp [Value.cells,one1]) (by simp;omega) (Nat.zero_add _)) ?_
  rintro _ W2 ⟨hBg2,u2⟩
  replace hBg2:Blk W2 gb 32 (cellsOf ((hs.map (slB B)++List.replicate (B-hs.length) nilV).set hs.length (slB B h))).toArray:=hBg2
  rw [hset] at hBg2
  refine .go O (.inc O O O (by omega) (.goN O (.mk (hs++[h]) O (lc1 (by rw [List.length_append];rfl)) ⟨⟨u2.below (hW.trans g1) (by omega),(k8.ext g1).upd u2 (by omega),by rw [List.length_append];exact hlt,by rw [List.length_append];exact hBg2,?_,?_,?_⟩,by rw [List.length_append];show B-(hs.length+1)<B-hs.length;omega⟩)))
  ·exact List.nodup_append.2 ⟨hnd,by simp,fun a ha b hb=>by rw [List.mem_singleton.1 hb];have:=hlW a ha;omega⟩
  ·intro k hk
   rcases List.mem_append.1 hk with hk | hk
   ·exact hge k hk
   ·rw [List.mem_singleton.1 hk];have:=k8.lt;omega
  ·intro i x hx
   rcases Nat.lt_or_ge i hs.length with hil | hil
   ·rw [List.getElem?_append_left hil] at hx
    have:=hge x (List.mem_iff_getElem?.2 ⟨i,hx⟩)
    exact ((hrow i x hx).ext g1).upd u2 (by omega) fun h=>h
   ·rw [List.getElem?_append_right hil] at hx
    have:x=h:=by
     cases hj:i-hs.length with
     | zero=>rw [hj] at hx;simpa using hx.symm
     | succ j=>rw [hj] at hx;simp at hx
    subst this
    exact (FB.rep (S:=fun _=>False) kh zq_R).upd u2 (by omega) fun h=>h
 rintro hs0 W ⟨hW,k8,hge,hM⟩
 have hWs:=hW.size
 have hgl:=hM.out.lt
 refine .go O (.mkf [] [_] O O O O (.go O (.lenR un_I O O (ER.ext eI hl hW) ?_)))
 rw [show (pInts (inL n o)).length=(inL n o).length by simp]
 refine .goC O (.lp (α:=Nat) [2,8,10,38,39] O (fun i=>[(40,.int .i64 (i:Nat))]) (fun i W=>i<=(inL n o).length/\Ext w2 W/\Blk W b8 28 #[slB B gb]/\MB 32 54 S W gb B hs0 (tabM B B ((nwOf n o).lmL ((inL n o).take i)))) (fun i=>(inL n o).length-i) 0 (lc1 O) ⟨Nat.zero_le _,hW,k8,hM⟩ ?_)
 clear hW hM k8 hgl hWs W
 rintro i W ⟨hi,hW,k8,hM⟩
 have hWs:=hW.size
 refine .go O ?_
 rcases Nat.lt_or_ge i (inL n o).length with hlt | hge'
 rotate_left
 ·refine .lssF O O O (by omega) (.go O (.ld ty_M O O k8 O (.goE O ?_)))
  have:i=(inL n o).length:=by omega
  subst this
  refine .plain [_,_] Tryz.results38 ⟨rfl,rfl,trivial⟩ ⟨x2.trans hW,_,_,rfl,?_,by rw [hE]⟩
  show if outE n o=0 then _ else _
  rw [if_pos hE]
  have hfin:tabM B B ((nwOf n o).lmL ((inL n o).take (inL n o).length))=tabM B B (nwOf n o).Lm:=B7 fun b c _ _=>by
   rw [List.take_of_length_le (Nat.le_refl _)]
   exact Nw.lmL_free (p:=oN o) b c _ fun k hk=>ok.g0 hk
  rw [hfin] at hM
  exact ⟨gb,hs0,rfl,by omega,fun k hk=>by have:=hge k hk;omega,hM⟩
 obtain ⟨hgk,hkM,hko⟩:=AF5 hlt
 refine .lssT O O O (by omega) (.go O (.ixN (i:=i) un_I B0 O O (ER.ext eI hl hW) O hgk fun q hq=>.ldE (E:=eInt .i64) B0 O O hq fun e he=>?_))
 obtain ⟨rfl,_⟩:=he
 have hgl:n.ls[(inL n o).getD i 0]?=some (n.ls.getD ((inL n o).getD i 0) ln0):=A7 hkM
 have hFI:=ok.fI _ hkM
 have hTI:=ok.tI _ hkM
 have hne:=ok.ne _ hkM
 have hx:=ok.x _ hkM
 have hgv:=g_on (n:=n) hko
 have htk:(inL n o).take (i+1)=(inL n o).take i++[(inL n o).getD i 0]:=by rw [List.take_add_one,A7 (z:=0) hlt];rfl
 generalize hkk:(inL n o).getD i 0=k at hgl hFI hTI hx hgv hkM hne htk
 generalize hln:n.ls.getD k ln0=ln at hgl hFI hTI hx hgv
 refine .go O (.fa F1 O O (.ld I2 O O (k2V.ext hW) O (.go O (.ixN (i:=k) H4 M6 O O (ER.ext eLs hs (x2.trans hW)) O hgl fun q hq=>.ldE (E:=eL) M6 O O hq fun vl' hvl=>?_))))
 obtain ⟨rfl,_⟩:=hvl
 rw [hFI,hTI]
 refine .bld _ O O BF7 (.mkf [_] [] O O O O ?_)
 have hgs:=ok.gsz k
 have hq:∀ a b,Rsz ((nwOf n o).g k*((nwOf n o).inc k a*(nwOf n o).inc k b)) 30:=fun a b=>by
  refine (Aq9 hgs (Nat.le_refl _) ?_).mono (by decide)
  rcases (nwOf n o).inc_tri k a with h | h | h<;>rcases (nwOf n o).inc_tri k b with h' | h' | h'<;>rw [h,h']<;>grind
 have hfs:∀ r c,Rsz ((nwOf n o).lmL ((inL n o).take i) r c) 30:=fun r c=>((nwOf n o).lmL_rsz (Nat.le_refl _) (fun k=>ok.gsz k) r c _).mono (by
  rw [List.length_take]
  have:=Nat.mul_le_mul_right 2 (show min i (inL n o).length<=10 by omega)
  omega)
 have hcall:=Lap1_c (S:=S) (c:=ln.c) (up.ext (x2.trans hW).size) hM k8 (fun hm=>by have:=hge b8 hm;omega) (by omega) hB6 hfs (fun a b=>Ae5 hne hgv) hq hx.1 hx.2
 refine .callvG [_] O O E_Lap1 O hcall ?_
 rintro v W1 ⟨hC,hM1⟩
 have hnew:tabM B B (fun r c=>(nwOf n o).lmL ((inL n o).take i) r c+(nwOf n o).g k*((nwOf n o).inc k r*(nwOf n o).inc k c))=tabM B B ((nwOf n o).lmL ((inL n o).take (i+1))):=B7 fun b c _ _=>by rw [htk,Nw.lmL_snoc]
 rw [hnew] at hM1
 exact .go O (.inc O O O (by omega) (.goN O (.mk (i+1) O (lc1 O) ⟨⟨hlt,hC.below hW (by omega) (fun k hk=>by have:=hge k hk;omega),hC.blk k8 (fun hm=>by have:=hge b8 hm;omega),hM1⟩,by show (inL n o).length-(i+1)<(inL n o).length-i;omega⟩)))
end Go.Proofs.YtggegpiffjbngaaGreat
