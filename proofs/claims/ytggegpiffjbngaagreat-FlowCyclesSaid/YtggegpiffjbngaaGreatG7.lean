/-
  What the claim leans on.
-/
import Derived.Test.YtggegpiffjbngaaGreatG6
import Derived.Lib.SmallJoins
set_option linter.unusedVariables false
namespace Go.Proofs.YtggegpiffjbngaaGreat
open Go Go.Kx Go.RowKit
theorem E_cross:Ent Tryz.prog 166:=A0 Tryz.func166 (by kernel_rfl) rfl
theorem cross_c {S:Nat->Prop} {w:World} {v:Value} {l:LnV} {b:Int} (hl:eL.R S w v l):CR Tryz.prog 166 #[v,.int .i64 b] w (fun u _=>u=.tuple #[.int .i64 (if b=l.f then l.t else if b=l.t then l.f else 0),.int .i64 (if b=l.f then 1 else if b=l.t then -1 else 0)]):=by
 obtain ⟨rfl,_⟩:=hl
 refine enter Tryz.func166 O Tryz.ntmps166 O (.beg (.go O (.box O O fun w1 b2 n1=>?_)))
 obtain ⟨e1,k2,hb2,hs1⟩:=n1
 replace k2:Blk w1 b2 58 #[.int .i64 l.f,.int .i64 l.t,.int .i64 l.x,.int .i64 l.c]:=k2
 refine .go O (.fa T8 O O (.go O (.ld A7 O O k2 O (.go O ?_))))
 by_cases h1:b=l.f
 ·refine .eqlT O O O h1 (.go O (.fa T7 O O (.go O (.ld A7 O O k2 O (.goE O (.plain [_,_] Tryz.results166 ⟨rfl,rfl,trivial⟩ ⟨e1,?_⟩))))))
  rw [if_pos h1,if_pos h1];rfl
 refine .eqlF O O O h1 (.go O (.fa T7 O O (.go O (.ld A7 O O k2 O (.go O ?_)))))
 by_cases h2:b=l.t
 ·refine .eqlT O O O h2 (.go O (.fa T8 O O (.go O (.ld A7 O O k2 O (.goE O (.plain [_,_] Tryz.results166 ⟨rfl,rfl,trivial⟩ ⟨e1,?_⟩))))))
  rw [if_neg h1,if_neg h1,if_pos h2,if_pos h2];rfl
 ·refine .eqlF O O O h2 (.goE O (.plain [_,_] Tryz.results166 ⟨rfl,rfl,trivial⟩ ⟨e1,?_⟩))
  rw [if_neg h1,if_neg h1,if_neg h2,if_neg h2];rfl
def trI (M:Nat) (s:Nat->Int):List Int:=(List.range M).map s
theorem AM1 (M:Nat) (s:Nat->Int):(trI M s).length=M:=by simp [trI]
theorem Ae8 {M k:Nat} {s:Nat->Int} {v:Int}:(trI M s).set k v=trI M fun j=>if j=k then v else s j:=by
 refine List.ext_getElem? fun j=>?_
 unfold trI
 rw [List.getElem?_set,List.getElem?_map,List.getElem?_map]
 rcases Nat.lt_or_ge j M with h | h
 ·rw [List.getElem?_range h]
  by_cases e:k=j
  ·subst e
   rw [if_pos rfl,if_pos (by simpa using h)];simp
  ·rw [if_neg e];simp [Ne.symm e]
 ·rw [List.getElem?_eq_none (by simpa using h)]
  by_cases e:k=j
  ·subst e
   rw [if_pos rfl,if_neg (by simp;omega)];rfl
  ·rw [if_neg e];rfl
theorem AD0 {kk:IntKind} {t:TypeId} {S S':Nat->Prop} {w:World} {g:Nat} {l:List Int} (h:FB (eInt kk) t S w g l):FB (eInt kk) t S' w g l:=by
 obtain ⟨es,hb,he⟩:=h
 exact ⟨es,hb,he.1,fun i e x h1 h2=>he.2 i e x h1 h2⟩
structure SrJ (n:NtV) (L:List Nat) (to:Nat) (sl vl:Value) (b4 b5 b7 b9 b10 b11 tr:Nat) (s:Nat->Int) (W:World):Prop where
 k4:Blk W b4 24 #[.int .i64 n.b,sl]
 k5:Blk W b5 25 #[vl]
 k7:Blk W b7 3 #[.int .i64 (to:Nat)]
 k9:Blk W b9 25 #[.slice (some ⟨tr,0,none⟩) n.ls.length n.ls.length]
 k10:Blk W b10 157 #[.func (.func 165) #[] #[.pointer (some ⟨b7,0,none⟩),.pointer (some ⟨b9,0,none⟩),.pointer (some ⟨b5,0,none⟩),.pointer (some ⟨b4,0,none⟩),.pointer (some ⟨b11,0,none⟩)]]
 k11:Blk W b11 158 #[.func (.func 163) #[] #[.pointer (some ⟨b9,0,none⟩),.pointer (some ⟨b10,0,none⟩)]]
 hs:eLs.R (fun j=>j≠tr) W sl n.ls
 hl:eI.R (fun j=>j≠tr) W vl (pInts L)
 ft:FB (eInt .i64) 3 (fun _=>True) W tr (trI n.ls.length s)
 n4:b4≠tr
 n5:b5≠tr
 n7:b7≠tr
 n9:b9≠tr
 n10:b10≠tr
 n11:b11≠tr
theorem SrJ.chg {n:NtV} {L:List Nat} {to:Nat} {sl vl:Value} {b4 b5 b7 b9 b10 b11 tr:Nat} {s s':Nat->Int} {W W':World} (h:SrJ n L to sl vl b4 b5 b7 b9 b10 b11 tr s W) (c:Chg (fun j=>j=tr) W W') (f:FB (eInt .i64) 3 (fun _=>True) W' tr (trI n.ls.length s')):SrJ n L to sl vl b4 b5 b7 b9 b10 b11 tr s' W' :=
 ⟨c.blk h.k4 h.n4,c.blk h.k5 h.n5,c.blk h.k7 h.n7,c.blk h.k9 h.n9,c.blk h.k10 h.n10,c.blk h.k11 h.n11,eLs.keep (c.kp fun _ hk e=>hk e) h.hs,eI.keep (c.kp fun _ hk e=>hk e) h.hl,f,h.n4,h.n5,h.n7,h.n9,h.n10,h.n11⟩
def SrP (m:Nw) (M to bus l tr:Nat) (s1 s0:Nat->Int) (W:World) (v:Value) (W':World):Prop :=
 Chg (fun j=>j=tr) W W'/\∃ (found:Bool) (s':Nat->Int) (pv:Value),v=.tuple #[pv,.bool found]/\FB (eInt .i64) 3 (fun _=>True) W' tr (trI M s')/\(∀ j,(-1<=s' j/\s' j<=1)/\(m.g j=0->s' j=s1 j)) /\
  (found=true->∀ θ,m.pot s' θ=m.pot s1 θ+(θ bus-θ to))/\(found=false->s'=s0/\∃ D,m.clos l bus to D)
theorem Ae7:Ent Tryz.prog 163:=A0 Tryz.func163 (by kernel_rfl) rfl
theorem Ae6:Ent Tryz.prog 165:=A0 Tryz.func165 (by kernel_rfl) rfl
theorem At3:Ent Tryz.prog 164:=A0 Tryz.func164 (by kernel_rfl) rfl
theorem BD3:tyOf Tryz.prog 157=some (false,1):=by kernel_rfl
theorem BD2:tyOf Tryz.prog 158=some (false,1):=by kernel_rfl
theorem zero_bo:zeroOf Tryz.prog 4=some (.bool false):=by kernel_rfl
section
variable {n:NtV} {R:List Int} {L:List Nat} {to:Nat} {sl vl:Value} {b4 b5 b7 b9 b10 b11 tr:Nat}
theorem try_c {s:Nat->Int} {W:World} {k next:Nat} {sg:Int} (J:SrJ n L to sl vl b4 b5 b7 b9 b10 b11 tr s W) (hk:k<n.ls.length) (hM:n.ls.length<=10) (hsg : -1<=sg/\sg<=1) (hs0:s k=0) (hkg:(nwOf n R).g k≠0)
  (hv:∀ W2,SrJ n L to sl vl b4 b5 b7 b9 b10 b11 tr (fun j=>if j=k then sg else s j) W2->Calls Tryz.prog 165 #[.int .i64 (next:Nat),.int .i64 (k:Nat),.pointer (some ⟨b7,0,none⟩),.pointer (some ⟨b9,0,none⟩),.pointer (some ⟨b5,0,none⟩),.pointer (some ⟨b4,0,none⟩),.pointer (some ⟨b11,0,none⟩)] W2
   fun e W'=>∃ v,e=.returned v/\SrP (nwOf n R) n.ls.length to next k tr (fun j=>if j=k then sg else s j) (fun j=>if j=k then sg else s j) W2 v W') :
  Calls Tryz.prog 163 #[.int .i64 (k:Nat),.int .i64 (next:Nat),.int .i64 sg,.pointer (some ⟨b9,0,none⟩),.pointer (some ⟨b10,0,none⟩)] W
   fun e W'=>∃ v,e=.returned v/\SrP (nwOf n R) n.ls.length to next k tr (fun j=>if j=k then sg else s j) s W v W':=by
 refine enterG Tryz.func163 O Tryz.ntmps163 O ?_
 refine .sr (.box O O fun w1 bx n1=>.asg O O (.alloc O zero_bo fun w2 bf n2=>.nil ?_))
 obtain ⟨e1,kx,hbx,hs1⟩:=n1
 obtain ⟨e2,kf,hbf,hs2⟩:=n2
 replace kx:Blk w1 bx 3 #[.int .i64 (k:Nat)]:=kx
 replace kf:Blk w2 bf 4 #[.bool false]:=kf
 have x2:=e1.trans e2
 have ztr:=J.ft.lt
 have ze1:=e1.size
 have J2:=J.chg (Chg.ext x2) (J.ft.ext x2)
 have kx:=kx.ext e2
 refine .sr (.ld ty_I O O J2.k9 O (.ld A7 O O kx O (.mv O O (.ixB (i:=k) un_I A9 O O O hk (.storeF (E:=eInt .i64) (i:=k) (z:=sg) (by decide) A9 O O J2.ft O (by rw [AM1];exact hk) (Nat.zero_add _) ⟨rfl,H1.2 (by omega)⟩ fun w3 f3 u3=>.nil ?_)))))
 rw [Ae8] at f3
 have kx:=kx.upd u3 (by omega)
 have kf:=kf.upd u3 (by omega)
 have c3:Chg (fun j=>j=tr) W w3:=(Chg.ext x2).trans (Chg.upd u3 O)
 have J3:=J.chg c3 f3
 refine .seq (.regionD (g:=164) (cap:=[.pointer (some ⟨bf,0,none⟩),.pointer (some ⟨b9,0,none⟩),.pointer (some ⟨bx,0,none⟩)]) O O (v_mf [] [.pointer (some ⟨bf,0,none⟩),.pointer (some ⟨b9,0,none⟩),.pointer (some ⟨bx,0,none⟩)] O O O).gv ?_)
 rintro _ _ ⟨rfl,rfl⟩
 refine ⟨rfl,?_⟩
 refine .sr (.ld BD3 O O J3.k10 O (.mv O O (.ld A7 O O kx O (.callvG [.int .i64 (next:Nat),.int .i64 (k:Nat)] O O Ae6 O (hv _ J3) ?_))))
 rintro v w4 ⟨c4,found,s',pv,rfl,f4,hs',hT,hF⟩
 have zf:=kf.lt
 have zx:=kx.lt
 have kx:=c4.blk kx (by omega)
 have kf:=c4.blk kf (by omega)
 refine .ext O O O (.ext O O O (.asg O O (.store B7 O O kf O (by decide) (fun z hz=>by simp [Value.cells] at hz;subst hz;rfl) fun w5 kf u5=>.nil (.ret ?_))))
 replace kf:Blk w5 bf 4 #[.bool found]:=kf
 have ze2:=e2.size
 have kx:=kx.upd u5 (by omega)
 have f5:FB (eInt .i64) 3 (fun _=>True) w5 tr (trI n.ls.length s'):=AD0 ((AD0 (S':=fun j=>j≠bf) f4).upd u5 (by omega) fun h=>h O)
 have J4:=J3.chg c4 f4
 have k9:=J4.k9.upd u5 (by have:=J.k9.lt;omega)
 have c34:=c3.trans c4
 have c5:Chg (fun j=>j=tr) W w5:=⟨u5.os.trans c34.os,u5.tape.trans c34.tape,u5.output.trans c34.output,by have:=c34.size;have:=u5.size;omega,fun j hj hX=>(u5.block j (by omega)).trans (c34.block j hj hX)⟩
 refine Leave.dfr Tryz.func164 O Tryz.ntmps164 O Tryz.results164 At3 ?_
 refine .sr (.ld B7 O O kf O (.not_ O O (.nil ?_)))
 cases found with
 | true =>
  refine .condF O (.skip ⟨rfl,?_⟩)
  exact .plain [pv,.bool true] Tryz.results163 ⟨rfl,⟨_,rfl,F4 B7 (by rw [kf.cell];rfl)⟩,trivial⟩ ⟨c5,true,s',pv,rfl,f5,hs',hT,fun h=>by cases h⟩
 | false =>
  obtain ⟨hss,D,hD⟩:=hF rfl
  subst hss
  refine .condT O (.region (.ld ty_I O O k9 O (.ld A7 O O kx O (.ixB (i:=k) un_I A9 O O O hk (.storeF (E:=eInt .i64) (i:=k) (z:=0) (by decide) A9 O O f5 O (by rw [AM1];exact hk) (Nat.zero_add _) ⟨rfl,H1.2 (by omega)⟩ fun w6 f6 u6=>.nil ⟨rfl,?_⟩)))))
  rw [Ae8,show (fun j=>if j=k then (0:Int) else if j=k then sg else s j)=s from funext fun j=>by
   by_cases e:j=k
   ·subst e;rw [if_pos rfl,hs0]
   ·rw [if_neg e,if_neg e]] at f6
  have kf:=kf.upd u6 (by omega)
  have hsb:∀ j,(-1<=s j/\s j<=1)/\((nwOf n R).g j=0->s j=(fun j=>if j=k then sg else s j) j):=fun j=>by
   by_cases e:j=k
   ·subst e;exact ⟨by omega,fun h=>absurd h hkg⟩
   ·have:=(hs' j).1;simp only [if_neg e] at this;exact ⟨this,fun _=>(if_neg e).symm⟩
  exact .plain [pv,.bool false] Tryz.results163 ⟨rfl,⟨_,rfl,F4 B7 (by rw [kf.cell];rfl)⟩,trivial⟩ ⟨c5.trans (Chg.upd u6 rfl),false,s,pv,rfl,f6,hsb,(fun h=>by cases h),fun _=>⟨rfl,D,hD⟩⟩
def lst (M l:Nat):Int:=if l<M then (l:Int) else -1
set_option maxRecDepth 8000 in
theorem visit_c (ok:nwOk n R) (hto:to<(nwOf n R).B) (hL:∀ k,k∈L<->k<n.ls.length/\(nwOf n R).g k≠0) (hbr:∀ k,k∈L->(nwOf n R).brg k):∀ (d:Nat) {W:World} {s:Nat->Int} {bus l:Nat},(nwOf n R).msr l bus<d->SrJ n L to sl vl b4 b5 b7 b9 b10 b11 tr s W->bus<(nwOf n R).B->(nwOf n R).atb l bus->(nwOf n R).clr l bus s->(∀ j,-1<=s j/\s j<=1) ->
  Calls Tryz.prog 165 #[.int .i64 (bus:Nat),.int .i64 (lst n.ls.length l),.pointer (some ⟨b7,0,none⟩),.pointer (some ⟨b9,0,none⟩),.pointer (some ⟨b5,0,none⟩),.pointer (some ⟨b4,0,none⟩),.pointer (some ⟨b11,0,none⟩)] W
   fun e W'=>∃ v,e=.returned v/\SrP (nwOf n R) n.ls.length to bus l tr s s W v W':=by
 intro d
 induction d with
 | zero=>exact fun hd _ _ _ _ _=>absurd hd (Nat.not_lt_zero _)
 | succ d ih =>
 intro W s bus l hd J hB hat hclr hs
 have hM10:n.ls.length<=10:=ok.m
 have hB6:=ok.b6
 refine enterG Tryz.func165 O Tryz.ntmps165 O (.beg (.go O (.ld A7 O O J.k7 O (.go O ?_))))
 by_cases hbt:bus=to
 ·subst hbt
  exact .eqlT rfl rfl rfl rfl (.go rfl (.ld ty_I rfl rfl J.k9 rfl (.goE rfl (.plain [_,.bool true] Tryz.results165 ⟨rfl,rfl,trivial⟩ ⟨Chg.refl _,true,s,_,rfl,J.ft,(fun j=>⟨hs j,fun _=>rfl⟩),(fun _ θ=>by grind),fun h=>by cases h⟩))))
 refine .eqlF O O O (by omega) (.go O (.ld ty_I O O J.k5 O (.go O (.lenR un_I O O J.hl (.goC O ?_)))))
 rw [show (pInts L).length=L.length by simp]
 refine .lp (α:=Nat) [0,1,5,6,21,22] O (fun i=>[(23,.int .i64 (i:Nat))]) (fun i W'=>SrJ n L to sl vl b4 b5 b7 b9 b10 b11 tr s W'/\Chg (fun j=>j=tr) W W'/\i<=L.length/\∀ i',i'<i->∀ next,L.getD i' 0≠l->(nwOf n R).ends (L.getD i' 0) bus next->∃ D,(nwOf n R).clos (L.getD i' 0) next to D) (fun i=>L.length-i) 0 (lc1 O) ⟨J,Chg.refl _,Nat.zero_le _,fun i' h=>absurd h (Nat.not_lt_zero _)⟩ ?_
 rintro i W1 ⟨J1,hC,hi,hdone⟩
 replace J1:SrJ n L to sl vl b4 b5 b7 b9 b10 b11 tr s W1:=J1
 replace hC:Chg (fun j=>j=tr) W W1:=hC
 replace hi:i<=L.length:=hi
 replace hdone:∀ i',i'<i->∀ next,L.getD i' 0≠l->(nwOf n R).ends (L.getD i' 0) bus next->∃ D,(nwOf n R).clos (L.getD i' 0) next to D:=hdone
 refine .go O ?_
 rcases Nat.lt_or_ge i L.length with hlt | hge
 rotate_left
 ·refine .lssF rfl rfl rfl (by omega) (.goE rfl (.plain [_,.bool false] Tryz.results165 ⟨rfl,rfl,trivial⟩ ⟨hC,false,s,_,rfl,J1.ft,(fun j=>⟨hs j,fun _=>rfl⟩),(fun h=>by cases h),fun _=>⟨rfl,?_⟩⟩))
  refine Nw.clos_all hbt fun k next hk hg hkl he=>?_
  obtain ⟨i',hi',e⟩:=List.mem_iff_getElem.1 ((hL k).2 ⟨hk,hg⟩)
  have e2:L.getD i' 0=k:=by rw [List.getD_eq_getElem?_getD,List.getElem?_eq_getElem hi',e];rfl
  have:=hdone i' (by omega) next (by rw [e2];exact hkl) (by rw [e2];exact he)
  rw [e2] at this
  exact this
 have hgk:(pInts L)[i]?=some ((L.getD i 0:Nat):Int):=by
  unfold pInts
  rw [List.getElem?_map,A6 (z:=0) hlt];rfl
 have hmem:L.getD i 0∈L:=by rw [List.getD_eq_getElem?_getD,List.getElem?_eq_getElem hlt];exact List.getElem_mem _
 have hstep:∀ k,L.getD i 0=k->(∀ next,k≠l->(nwOf n R).ends k bus next->∃ D,(nwOf n R).clos k next to D)->∀ i',i'<i+1->∀ next,L.getD i' 0≠l->(nwOf n R).ends (L.getD i' 0) bus next->∃ D,(nwOf n R).clos (L.getD i' 0) next to D:=fun k hk h i' hi' next=>by
  by_cases e:i'=i
  ·subst e;rw [hk];exact h next
  ·exact hdone i' (by omega) next
 generalize L.getD i 0=k at hgk hmem hstep
 replace hstep:=hstep k rfl
 obtain ⟨hkM,hkg⟩:=(hL k).1 hmem
 have hkb:=hbr k hmem
 have hgl:n.ls[k]?=some (n.ls.getD k ln0):=A6 hkM
 have hF:=ok.fI k hkM
 have hT:=ok.tI k hkM
 have hFT:=ok.ne k hkM
 have h64:i<9223372036854775807:=by
  obtain ⟨_,_,_,_,hq⟩:=RL.len J.hl
  simp at hq
  omega
 refine .lssT O O O (by omega) (.go O (.ixN (i:=i) un_I A9 O O J1.hl O hgk fun q hq=>.ldE (E:=eInt .i64) A9 O O hq fun e he=>.go O ?_))
 obtain ⟨rfl,_⟩:=he
 refine .fa I8 O O (.go O (.ld O6 O O J1.k4 O (.go O (.ixN (i:=k) L5 Q7 O O J1.hs O hgl fun q2 hq2=>.go O (.ldE (E:=eL) Q7 O O hq2 fun vL hvL=>.go O ?_)))))
 refine .call _ O E_cross O (cross_c (b:=((bus:Nat):Int)) hvL) fun v2 W2 e2 h2=>?_
 subst h2
 rw [hF,hT]
 have J2:=J1.chg (Chg.ext e2) (J1.ft.ext e2)
 have hC2:=hC.trans (Chg.ext e2)
 have hinc:∀ {W3:World},Chg (fun j=>j=tr) W W3->SrJ n L to sl vl b4 b5 b7 b9 b10 b11 tr s W3->(∀ next,k≠l->(nwOf n R).ends k bus next->∃ D,(nwOf n R).clos k next to D)->(SrJ n L to sl vl b4 b5 b7 b9 b10 b11 tr s W3/\Chg (fun j=>j=tr) W W3/\i+1<=L.length/\∀ i',i'<i+1->∀ next,L.getD i' 0≠l->(nwOf n R).ends (L.getD i' 0) bus next->∃ D,(nwOf n R).clos (L.getD i' 0) next to D)/\L.length-(i+1)<L.length-i:=fun h1 h2 h3=>⟨⟨h2,h1,hlt,hstep h3⟩,by omega⟩
 refine .go O ?_
 by_cases hkl:k=l
 ·exact .eqlT O O O (by unfold lst;rw [if_pos (by omega),hkl]) (.go O (.inc O O O (by omega) (.goN O (.mk (i+1) O (lc1 O) (hinc hC2 J2 fun next h=>absurd hkl h)))))
 have hlst:((k:Nat):Int)≠lst n.ls.length l:=by
  unfold lst
  split<;>omega
 refine .eqlF O O O hlst (.go O ?_)
 have main:∀ (next:Nat) (sg:Int),(nwOf n R).ends k bus next->(-1<=sg/\sg<=1)->(∀ θ:Nat->Rat,(sg:Rat)*(θ ((nwOf n R).F k)-θ ((nwOf n R).T k))=θ bus-θ next) ->
   Calls Tryz.prog 163 #[.int .i64 (k:Nat),.int .i64 (next:Nat),.int .i64 sg,.pointer (some ⟨b9,0,none⟩),.pointer (some ⟨b10,0,none⟩)] W2 fun e W'=>∃ v,e=.returned v/\Chg (fun j=>j=tr) W W'/\∃ (found:Bool) (s':Nat->Int) (pv:Value),v=.tuple #[pv,.bool found]/\FB (eInt .i64) 3 (fun _=>True) W' tr (trI n.ls.length s')/\(∀ j,(-1<=s' j/\s' j<=1)/\((nwOf n R).g j=0->s' j=s j)) /\
    (found=true->∀ θ,(nwOf n R).pot s' θ=(nwOf n R).pot s θ+(θ bus-θ to))/\(found=false->s'=s/\SrJ n L to sl vl b4 b5 b7 b9 b10 b11 tr s W'/\∃ D,(nwOf n R).clos k next to D):=fun next sg he hsg hθ=>by
  have hs0:=Nw.clr_at hclr hkM hkg he hkl
  have hup:∀ j,j≠k->(fun j=>if j=k then sg else s j) j=s j:=fun j h=>if_neg h
  have hnB:next<(nwOf n R).B:=by
   rcases he with ⟨_,h⟩ | ⟨_,h⟩
   ·rw [<-h];exact ok.t k hkM
   ·rw [<-h];exact ok.f k hkM
  have hms:=Nw.msr_lt hkM hkg hkb he hat hkl hB
  refine (try_c (R:=R) J2 hkM hM10 hsg hs0 hkg fun W3 J3=>?_).mono ?_
  ·have:=ih (l:=k) (by omega) J3 hnB (Nw.ends_atb he) (Nw.clr_next hclr hup hkM hkg hkb he hat hkl) (fun j=>by
    by_cases e:j=k
    ·simp only [if_pos e];exact hsg
    ·simp only [if_neg e];exact hs j)
   rw [show lst n.ls.length k=((k:Nat):Int) from if_pos hkM] at this
   exact this
  ·rintro e W' ⟨v,rfl,hC',found,s',pv,rfl,f',hs',hT',hF'⟩
   refine ⟨_,rfl,hC2.trans hC',found,s',pv,rfl,f',fun j=>⟨(hs' j).1,fun h=>((hs' j).2 h).trans (if_neg fun e:j=k=>hkg (by rw [<-e];exact h))⟩,fun hf θ=>?_,fun hf=>?_⟩
   ·rw [hT' hf θ,Nw.pot_set hkM hup hs0 (if_pos O) θ,hθ];grind
   ·obtain ⟨rfl,hD⟩:=hF' hf
    exact ⟨rfl,J2.chg hC' f',hD⟩
 by_cases c1:((bus:Nat):Int)=(((nwOf n R).F k:Nat):Int)
 ·rw [if_pos c1,if_pos c1]
  have hbF:(nwOf n R).F k=bus:=by omega
  have he:(nwOf n R).ends k bus ((nwOf n R).T k):=.inl ⟨hbF,rfl⟩
  refine .eqlF O O O (by decide) (.go O (.ld BD2 O O J2.k11 O (.go O (.callvG [.int .i64 (k:Nat),.int .i64 ((nwOf n R).T k:Nat),.int .i64 1] O O Ae7 O (main _ 1 he (by decide) fun θ=>by rw [hbF,show ((1:Int):Rat)=1 from rfl];grind) ?_))))
  rintro v3 W3 ⟨hC3,found,s',pv,rfl,f',hs',hT',hF'⟩
  cases found with
  | true =>
   exact .goE rfl (.plain [pv,.bool true] Tryz.results165 ⟨rfl,rfl,trivial⟩ ⟨hC3,true,s',pv,rfl,f',hs',hT',fun h=>by cases h⟩)
  | false =>
   obtain ⟨rfl,J3,D,hD⟩:=hF' rfl
   have hx:∀ next,k≠l->(nwOf n R).ends k bus next->∃ D,(nwOf n R).clos k next to D:=fun next _ he'=>⟨D,by
    have:next=(nwOf n R).T k:=by rcases he' with ⟨h1,h2⟩ | ⟨h1,h2⟩<;>omega
    rw [this];exact hD⟩
   exact .go O (.inc O O O (by omega) (.goN O (.mk (i+1) O (lc1 O) (hinc hC3 J3 hx))))
 rw [if_neg c1,if_neg c1]
 by_cases c2:((bus:Nat):Int)=(((nwOf n R).T k:Nat):Int)
 ·rw [if_pos c2,if_pos c2]
  have hbF:(nwOf n R).T k=bus:=by omega
  have he:(nwOf n R).ends k bus ((nwOf n R).F k):=.inr ⟨hbF,rfl⟩
  refine .eqlF O O O (by decide) (.go O (.ld BD2 O O J2.k11 O (.go O (.callvG [.int .i64 (k:Nat),.int .i64 ((nwOf n R).F k:Nat),.int .i64 (-1)] O O Ae7 O (main _ (-1) he (by decide) fun θ=>by rw [hbF,show ((-1:Int):Rat) = -1 from rfl];grind) ?_))))
  rintro v3 W3 ⟨hC3,found,s',pv,rfl,f',hs',hT',hF'⟩
  cases found with
  | true =>
   exact .goE rfl (.plain [pv,.bool true] Tryz.results165 ⟨rfl,rfl,trivial⟩ ⟨hC3,true,s',pv,rfl,f',hs',hT',fun h=>by cases h⟩)
  | false =>
   obtain ⟨rfl,J3,D,hD⟩:=hF' rfl
   have hx:∀ next,k≠l->(nwOf n R).ends k bus next->∃ D,(nwOf n R).clos k next to D:=fun next _ he'=>⟨D,by
    have:next=(nwOf n R).F k:=by rcases he' with ⟨h1,h2⟩ | ⟨h1,h2⟩<;>omega
    rw [this];exact hD⟩
   exact .go O (.inc O O O (by omega) (.goN O (.mk (i+1) O (lc1 O) (hinc hC3 J3 hx))))
 rw [if_neg c2,if_neg c2]
 exact .eqlT rfl rfl rfl rfl (.go rfl (.inc rfl rfl rfl (by omega) (.goN rfl (.mk (i+1) rfl (lc1 rfl) (hinc hC2 J2 fun next _ he=>by rcases he with ⟨h,_⟩ | ⟨h,_⟩<;>omega)))))
end
open Go Go.Kx Go.RowKit
open Go Go.Kx Go.RowKit
theorem isV_t {w:World} {va vb:Value} {a b:List QV} (ha:eV.R (fun _=>True) w va a) (hb:eV.R (fun _=>True) w vb b) (h:a=b):CR Tryz.prog 22 #[va,vb] w (Is (.bool true)):=by
 have:=Aq6 ha hb
 rwa [P1 h] at this
end Go.Proofs.YtggegpiffjbngaaGreat
namespace Go.Kx
open Go Go.RowKit
theorem Nw.th_cand {n:Nw} (ok:n.Ok) (hB:1<=n.B) (cand:Nat->Nat->Rat) (h:∀ b,b<n.B->∀ i,i<n.B->(if n.root i=i then cand b i else n.lap (cand b) i)=dl i b) {b c:Nat} (hb:b<n.B) (hc:c<n.B):n.th b c=cand b c :=
 Nw.uniq ok (fun i hi=>by
  have h1:=Go.Proofs.YtggegpiffjbngaaGreat.th_eq ok hB hb hi
  have h2:=h b hb i hi
  split
  ·rw [if_pos (by assumption)] at h1 h2;rw [h1,h2]
  ·rw [if_neg (by assumption)] at h1 h2;rw [h1,h2]) c hc
theorem Nw.hf_cand {n:Nw} (ok:n.Ok) (hB:1<=n.B) (cand:Nat->Nat->Rat) (h:∀ b,b<n.B->∀ i,i<n.B->(if n.root i=i then cand b i else n.lap (cand b) i)=dl i b) {k b:Nat} (hk:k<n.M) (hb:b<n.B):n.hf k b=n.fl (cand b) k:=by
 unfold Nw.hf Nw.fl
 rw [Nw.th_cand ok hB cand h hb (ok.f k hk),Nw.th_cand ok hB cand h hb (ok.t k hk)]
def net3:NtV:=⟨3,[⟨0,1,10,100⟩,⟨1,2,5,50⟩,⟨0,2,10,70⟩]⟩
def cand3 (b c:Nat):Rat:=if b=0 then 1 else if c=0 then 0 else if b=c then 6 else 4
def outsB (m:Nat) (o:List Int):Bool:=(List.range o.length).all fun i=>decide (0<=o.getD i 0) && decide (o.getD i 0<m) && (decide (i=0) || decide (o.getD (i-1) 0<o.getD i 0))
theorem BF7 {n:NtV} {o:List Int} (h:outsB n.ls.length o=true):outsOk n o:=by
 unfold outsB at h
 rw [List.all_eq_true] at h
 intro i hi
 have:=h i (List.mem_range.2 hi)
 simp only [Bool.and_eq_true,Bool.or_eq_true,decide_eq_true_eq] at this
 exact ⟨this.1.1,this.1.2,fun h0=>by rcases this.2 with h | h;omega;exact h⟩
def chkB (n:NtV):Bool:=decide (1<=n.b) && decide (n.b<=6) && decide (n.ls.length<=10) && n.ls.all fun l=>(List.range 5).all fun i=>ck i n.b l
theorem outE_of {n:NtV} {o:List Int} (h:chkB n=true) (ho:outsB n.ls.length o=true):outE n o=0:=by
 unfold chkB at h
 simp only [Bool.and_eq_true,decide_eq_true_eq,List.all_eq_true] at h
 obtain ⟨⟨⟨h1,h2⟩,h3⟩,h4⟩:=h
 have hc:chkE n=0:=by
  unfold chkE
  rw [if_neg (by omega),if_neg (by omega),if_pos]
  exact fun i _ l hl j hj=>h4 l (List.mem_iff_getElem?.2 ⟨i,hl⟩) j (List.mem_range.2 hj)
 unfold outE
 rw [if_neg (by simpa using hc),if_pos (BF7 ho)]
end Go.Kx
namespace Go.Proofs.YtggegpiffjbngaaGreat
open Go Go.Kx Go.RowKit
theorem AS5:Tryz.prog.underlying 47=some (.slice 25):=by kernel_rfl
theorem Ai3:Ent Tryz.prog 15:=A0 Tryz.func15 (by kernel_rfl) rfl
theorem Ag3 {S:Nat->Prop} {w:World} {vn vl:Value} {n:NtV} {l:List (List Int)} (hn:eN.R S w vn n) (hl:eII.R S w vl l):CR Tryz.prog 15 #[vn,vl] w (fun v _=>∃ b,v=.bool b):=by
 obtain ⟨s,rfl,hs,_⟩:=hn
 obtain ⟨_,_,_,_,hll⟩:=RL.len hl
 refine enter Tryz.func15 O Tryz.ntmps15 O ?_
 refine .sr (.box O O fun w1 b2 n1=>.an O O (.seq (.sr (.an O O ?_))))
 obtain ⟨e1,k2,_,_⟩:=n1
 have hl:=hl.ext e1
 refine .block (.loop (α:=Nat) (fun i=>[(1,vl),(2,.pointer (some ⟨b2,0,none⟩)),(5,.int .i64 (i:Nat))]) (fun i W=>W=w1/\i<=l.length) (fun i=>l.length-i) 0 ?_ ?_ ?_)
 ·exact lkA rfl
 ·exact ⟨rfl,Nat.zero_le _⟩
 rintro i W ⟨rfl,hi⟩
 refine .seq (.sr (.mv O O (.mv O O (.lenR AS5 O O hl ?_))))
 rcases Nat.lt_or_ge i l.length with hlt | hge
 rotate_left
 ·refine .lssF O O O (by omega) (.nil (.condF O (.exit (.sr (.fa I8 O O (.ld O6 O O k2 O (.lenR L5 O O (hs.ext e1) (.gtr O O O (.an O O (.ret ?_))))))))))
  exact .plain [_] Tryz.results15 ⟨rfl,trivial⟩ ⟨e1,_,rfl⟩
 refine .lssT O O O (by omega) (.nil (.condT O (.skip (.seq (.block (.sr (.mv O O (.mv O O (.ixN (i:=i) AS5 ty_I O O hl O (List.getElem?_eq_getElem hlt) fun q hq=>.ldE (E:=eI) ty_I O O hq fun v hv=>.lenR un_I O O hv ?_)))))))))
 by_cases h:100<l[i].length
 ·refine .gtrT O O O (by omega) (.nil (.condT O (.sr (.an O O (.ret ?_)))))
  exact .plain [_] Tryz.results15 ⟨rfl,trivial⟩ ⟨e1,_,rfl⟩
 ·refine .gtrF O O O (by omega) (.nil (.condF O (.skip (.region (.mv O O (.add O O O (.an O O ?_)))))))
  rw [wI (by omega)]
  exact ⟨rfl,i+1,lkA rfl,⟨rfl,hlt⟩,by show l.length-(i+1)<l.length-i;omega⟩
theorem zero_N:zeroOf Tryz.prog 24=some (.agg #[.int .i64 0,.slice none 0 0]):=by kernel_rfl
theorem Ah5 {a b c d:Int}:bldOf Tryz.prog 58 [(0,.int .i64 a),(1,.int .i64 b),(2,.int .i64 c),(3,.int .i64 d)]=some #[.int .i64 a,.int .i64 b,.int .i64 c,.int .i64 d]:=by kernel_rfl
theorem bsl_Ls3 {a b c d a' b' c' d' a2 b2 c2 d2:Value}:bslOf Tryz.prog 22 3 [(0,.agg #[a,b,c,d]),(1,.agg #[a',b',c',d']),(2,.agg #[a2,b2,c2,d2])]=some (58,#[a,b,c,d,a',b',c',d',a2,b2,c2,d2]):=by kernel_rfl
theorem bld_N2 {b:Int} {a:Option Addr} {n c:Nat}:bldOf Tryz.prog 24 [(0,.int .i64 b),(1,.slice a n c)]=some #[.int .i64 b,.slice a n c]:=by kernel_rfl
theorem ln_R {S:Nat->Prop} {w:World} {a b c d:Int} (h:∀ x∈[a,b,c,d],-9223372036854775808<=x/\x<=9223372036854775807):eL.R S w (.agg #[.int .i64 a,.int .i64 b,.int .i64 c,.int .i64 d]) ⟨a,b,c,d⟩:=⟨rfl,H1.2 (h a (by simp)),H1.2 (h b (by simp)),H1.2 (h c (by simp)),H1.2 (h d (by simp))⟩
theorem ok3:outE net3 []=0:=outE_of (by decide) (by decide)
theorem BI4:∀ b,b<(nwOf net3 []).B->∀ i,i<(nwOf net3 []).B->(if (nwOf net3 []).root i=i then cand3 b i else (nwOf net3 []).lap (cand3 b) i)=dl i b:=by
 have:∀ b,b<3->∀ i,i<3->(if (nwOf net3 []).root i=i then cand3 b i else (nwOf net3 []).lap (cand3 b) i)=dl i b:=by decide +kernel
 exact this
def want3:List (List Int):=[[0,-3,-2],[0,2,-2],[0,-2,-3]]
theorem hf3:tabM 3 3 (nwOf net3 []).hf=want3.map fun l=>tab l.length fun k=>Rat.divInt (l.getD k 0) 5:=by
 have ok:=L9 ok3
 have h1:tabM 3 3 (nwOf net3 []).hf=tabM 3 3 fun k b=>(nwOf net3 []).fl (cand3 b) k:=C4 fun k b hk hb=>Nw.hf_cand ok.ok ok.b1 cand3 BI4 hk hb
 have h2:∀ k,k<3->∀ b,b<3->(nwOf net3 []).fl (cand3 b) k=Rat.divInt ((want3.getD k []).getD b 0) 5:=by decide +kernel
 rw [h1,show tabM 3 3 (fun k b=>(nwOf net3 []).fl (cand3 b) k)=tabM 3 3 fun k b=>Rat.divInt ((want3.getD k []).getD b 0) 5 from C4 fun k b hk hb=>h2 k hk b hb]
 rfl
theorem bsl_II1 {a:Option Addr} {n c:Nat}:bslOf Tryz.prog 47 1 [(0,.slice a n c)]=some (25,#[.slice a n c]):=by kernel_rfl
theorem sgn0:sgnR 0=0:=by decide
section
variable {n:NtV} {o:List Int}
theorem Ad0 (ok:nwOk n o) {k:Nat} (hk:k<n.ls.length):(nwOf n (pInts (inL n (pInts (trL n o))))).g k≠0<->k∈trL n o:=by
 rw [Ar0 (o:=o) hk fun h=>(X4.1 h).2.1]
 by_cases h:k∈trL n o
 ·rw [if_pos h];exact ⟨fun _=>h,fun _=>(X4.1 h).2.1⟩
 ·rw [if_neg h];exact ⟨fun h'=>absurd O h',fun h'=>absurd h' h⟩
theorem Aq2 (ok:nwOk n o) {k:Nat} (hk:k<n.ls.length):k∈trL n o<->(nwOf n o).trk k:=by
 rw [X4,S9]
 exact ⟨fun h=>h.2,fun h=>⟨⟨hk,fun h'=>h.1 ((ok.g0 hk).2 h')⟩,h⟩⟩
theorem Aj4 (ok:nwOk n o) {k:Nat} (hk:k<=n.ls.length):(nwOf n (pInts (inL n (pInts (trL n o))))).rootTo k=(nwOf n o).rootTo k:=by
 rw [Nw.rootTo_congr (n:=(nwOf n o).forest) (m:=nwOf n (pInts (inL n (pInts (trL n o))))) O O k fun j hj=>?_,Nw.forest_rootTo]
 rw [Ar0 (o:=o) (by omega) fun h=>(X4.1 h).2.1]
 show _=if (nwOf n o).trk j then (nwOf n o).g j else 0
 by_cases h:(nwOf n o).trk j
 ·rw [if_pos h,if_pos ((Aq2 ok (by omega)).2 h)]
 ·rw [if_neg h,if_neg fun h'=>h ((Aq2 ok (by omega)).1 h')]
theorem tre_trk (ok:nwOk n o) {k:Nat} (hk:k<n.ls.length) (hg:(nwOf n (pInts (inL n (pInts (trL n o))))).g k≠0):(nwOf n (pInts (inL n (pInts (trL n o))))).trk k:=by
 refine ⟨hg,?_⟩
 rw [Aj4 ok (Nat.le_of_lt hk)]
 exact ((Aq2 ok hk).1 ((Ad0 ok hk).1 hg)).2
theorem tre_brg (hO:outE n o=0) {k:Nat} (hk:k<n.ls.length) (h:k∈trL n o):(nwOf n (pInts (inL n (pInts (trL n o))))).brg k:=by
 have ok:=L9 hO
 have okm:=L9 (Ar1 (c:=trL n o) hO)
 exact Nw.trk_brg okm.ok (fun j hj hg=>tre_trk ok hj hg) hk ((Ad0 ok hk).2 h)
end
theorem zero_f2:zeroOf Tryz.prog 157=some .nilFunc:=by kernel_rfl
theorem zero_f3:zeroOf Tryz.prog 158=some .nilFunc:=by kernel_rfl
theorem BD6 (M:Nat):List.replicate M (0:Int)=trI M fun _=>0:=by
 unfold trI
 rw [List.map_const',List.length_range]
structure Trl (m:Nw) (s:Nat->Int) (a b:Nat):Prop where
 bd:∀ j,-1<=s j/\s j<=1
 of:∀ j,m.g j=0->s j=0
 pt:∀ θ,m.pot s θ=θ a-θ b
theorem BJ3:Ent Tryz.prog 104:=A0 Tryz.func104 (by kernel_rfl) rfl
set_option maxRecDepth 8000 in
theorem BE4 {w:World} {vn vl:Value} {n:NtV} {R:List Int} {L:List Nat} {a b:Nat} (hn:eN.R (fun _=>True) w vn n) (hl:eI.R (fun _=>True) w vl (pInts L)) (ok:nwOk n R) (hL:∀ k,k∈L<->k<n.ls.length/\(nwOf n R).g k≠0) (hbr:∀ k,k∈L->(nwOf n R).brg k) (ha:a<(nwOf n R).B) (hb':b<(nwOf n R).B) (hr:(nwOf n R).root a=(nwOf n R).root b) :
  CR Tryz.prog 104 #[vn,vl,.int .i64 (a:Nat),.int .i64 (b:Nat)] w (fun v W'=>∃ tr s,v=.slice (some ⟨tr,0,none⟩) n.ls.length n.ls.length/\w.heap.size<=tr/\FB (eInt .i64) 3 (fun _=>True) W' tr (trI n.ls.length s)/\Trl (nwOf n R) s a b):=by
 obtain ⟨s,rfl,hs,hb⟩:=hn
 obtain ⟨al,cl,rfl,_⟩:=RL.len hl
 have hM10:n.ls.length<=10:=ok.m
 refine enter Tryz.func104 O Tryz.ntmps104 O (.beg (.go O (.box O O fun w1 b4 n1=>.box O O fun w2 b5 n2=>.box O O fun w3 b7 n3=>?_)))
 obtain ⟨e1,k4,hb4,hs1⟩:=n1
 obtain ⟨e2,k5,hb5,hs2⟩:=n2
 obtain ⟨e3,k7,hb7,hs3⟩:=n3
 replace k4:Blk w1 b4 24 #[.int .i64 n.b,s]:=k4
 replace k5:Blk w2 b5 25 #[.slice al (pInts L).length cl]:=k5
 replace k7:Blk w3 b7 3 #[.int .i64 (b:Nat)]:=k7
 have x3:=(e1.trans e2).trans e3
 have k4:=k4.ext (e2.trans e3)
 have k5:=k5.ext e3
 refine .go O (.fa I8 O O (.go O (.ld O6 O O k4 O (.go O (.lenR L5 O O (hs.ext x3) (.go O (.make_ _ _ un_I AE5 O (by decide) O O O (Nat.le_refl _) (by omega) (by omega) fun w4 tr n4=>?_)))))))
 have f4:FB (eInt .i64) 3 (fun _=>True) w4 tr (List.replicate n.ls.length (0:Int)):=FB.made n4 ⟨rfl,H1.2 (by decide)⟩
 rw [BD6] at f4
 obtain ⟨e4,_,htr,hs4⟩:=n4
 refine .go O (.alloc O Ap3 fun w5 b9 n5=>?_)
 obtain ⟨e5,k9,hb9,hs5⟩:=n5
 refine .go O (.store ty_I O O k9 O (by simp [Value.cells]) (fun z hz=>by simp [Value.cells] at hz;subst hz;rfl) fun w6 k9' u6=>?_)
 have k9:Blk w6 b9 25 #[.slice (some ⟨tr,0,none⟩) n.ls.length n.ls.length]:=k9'
 have e45:=e4.trans e5
 have z6:=u6.size
 have k4:=(k4.ext e45).upd u6 (by omega)
 have k5:=(k5.ext e45).upd u6 (by omega)
 have k7:=(k7.ext e45).upd u6 (by omega)
 have f6:FB (eInt .i64) 3 (fun _=>True) w6 tr (trI n.ls.length fun _=>0):=AD0 ((AD0 (S':=fun j=>j≠b9) (f4.ext e5)).upd u6 (by omega) fun h=>h O)
 have x6:Ext w w6:=u6.below (x3.trans e45) (by omega)
 refine .go O (.alloc O zero_f2 fun w7 b10 n7=>?_)
 obtain ⟨e7,k10,hb10,hs7⟩:=n7
 refine .go O (.mkf [] [.pointer (some ⟨b9,0,none⟩),.pointer (some ⟨b10,0,none⟩)] O O O O (.go O (.alloc O zero_f3 fun w8 b11 n8=>?_)))
 obtain ⟨e8,k11,hb11,hs8⟩:=n8
 refine .go O (.store BD2 O O k11 O (by simp [Value.cells]) (fun z hz=>by simp [Value.cells] at hz;subst hz;rfl) fun w9 k11' u9=>?_)
 have k11:Blk w9 b11 158 #[.func (.func 163) #[] #[.pointer (some ⟨b9,0,none⟩),.pointer (some ⟨b10,0,none⟩)]]:=k11'
 have e78:=e7.trans e8
 have z9:=u9.size
 have k4:=(k4.ext e78).upd u9 (by omega)
 have k5:=(k5.ext e78).upd u9 (by omega)
 have k7:=(k7.ext e78).upd u9 (by omega)
 have k9:=(k9.ext e78).upd u9 (by omega)
 have k10:=(k10.ext e8).upd u9 (by omega)
 have f8:=f6.ext e78
 have f9:FB (eInt .i64) 3 (fun _=>True) w9 tr (trI n.ls.length fun _=>0):=AD0 ((AD0 (S':=fun j=>j≠b11) f8).upd u9 (by omega) fun h=>h O)
 have x9:Ext w w9:=u9.below (x6.trans e78) (by omega)
 refine .go O (.mkf [] [.pointer (some ⟨b7,0,none⟩),.pointer (some ⟨b9,0,none⟩),.pointer (some ⟨b5,0,none⟩),.pointer (some ⟨b4,0,none⟩),.pointer (some ⟨b11,0,none⟩)] O O O O (.go O (.store BD3 O O k10 O (by simp [Value.cells]) (fun z hz=>by simp [Value.cells] at hz;subst hz;rfl) fun w10 k10' u10=>?_)))
 have k10:Blk w10 b10 157 #[.func (.func 165) #[] #[.pointer (some ⟨b7,0,none⟩),.pointer (some ⟨b9,0,none⟩),.pointer (some ⟨b5,0,none⟩),.pointer (some ⟨b4,0,none⟩),.pointer (some ⟨b11,0,none⟩)]]:=k10'
 have f10:FB (eInt .i64) 3 (fun _=>True) w10 tr (trI n.ls.length fun _=>0):=AD0 ((AD0 (S':=fun j=>j≠b10) f9).upd u10 (by omega) fun h=>h O)
 have x10:Ext w w10:=u10.below x9 (by omega)
 have z10:=u10.size
 have J:SrJ n L b s (.slice al (pInts L).length cl) b4 b5 b7 b9 b10 b11 tr (fun _=>0) w10 :=
  ⟨k4.upd u10 (by omega),k5.upd u10 (by omega),k7.upd u10 (by omega),k9.upd u10 (by omega),k10,k11.upd u10 (by omega),ER.ext eLs (eLs.mono (fun j _ h=>by have:=h.2;omega) (ER.lt eLs hs)) x10,ER.ext eI (eI.mono (fun j _ h=>by have:=h.2;omega) (ER.lt eI hl)) x10,f10,by omega,by omega,by omega,by omega,by omega,by omega⟩
 have hv:=visit_c (R:=R) ok hb' hL hbr ((nwOf n R).msr n.ls.length a+1) (l:=n.ls.length) (bus:=a) (Nat.lt_succ_self _) J ha (.inl (Nat.le_refl _)) (fun _ _ _ _ _=>rfl) (fun _=>⟨by decide,by decide⟩)
 rw [show lst n.ls.length n.ls.length = -1 from if_neg (Nat.lt_irrefl _)] at hv
 refine .go O (.ld BD3 O O J.k10 O (.go O (.callvG [.int .i64 (a:Nat),.int .i64 (-1)] O O Ae6 O hv ?_)))
 rintro v11 w11 ⟨hC,found,s',pv,rfl,f',hs',hT,hF⟩
 have J':=J.chg hC f'
 have hfo:found=true:=by
  cases found with
  | true=>rfl
  | false =>
   obtain ⟨_,D,hD⟩:=hF rfl
   exact (Nw.clos_not (Nat.le_refl _) hr hD).elim
 have hp0:∀ θ,(nwOf n R).pot (fun _=>0) θ=0:=fun θ=>by
  unfold Nw.pot
  refine (A2 fun j _=>?_).trans (AQ1 _)
  rw [show ((0:Int):Rat)=0 from rfl,Rat.zero_mul]
 refine .go O (.ld ty_I O O J'.k9 O (.goE O (.plain [_] Tryz.results104 ⟨rfl,trivial⟩ ⟨hC.below x10 (by omega) (fun j hj=>by omega),tr,s',rfl,by omega,f',fun j=>(hs' j).1,fun j h=>(hs' j).2 h,fun θ=>?_⟩)))
 rw [hT hfo θ,hp0];grind
end Go.Proofs.YtggegpiffjbngaaGreat
namespace Go.Kx
open Go Go.RowKit
def eRaw:ER Value where
 sz:=1
 isA:=false
 R:=fun _ _ e x=>e=x/\∃ a n c,x=.slice a n c
 csz:=by rintro S w e x ⟨rfl,a,n,c,rfl⟩;rfl
 one:=by rintro S w e x ⟨rfl,a,n,c,rfl⟩ u hu;simp [Value.cells] at hu;subst hu;rfl
 shp:=by rintro S w e x ⟨rfl,a,n,c,rfl⟩;rfl
 keep:=fun _ h=>h
 mono:=fun _ h=>h
section
variable {α:Type} {E:ER α} {t:TypeId} {base:Nat} {X:Nat->Prop} {w w':World} {v:Value} {l:List α}
theorem OwnL.grown {ob:Option Nat} (h:OwnL E t base X w v l) (hg:w.grownBy w' ob) (hne:∀ b,v.ownBlock=some b->ob≠some b) (hE:∀ S w w' e x,E.R S w e x->E.R S w' e x):OwnL E t base X w' v l:=by
 obtain ⟨es,h1,h2⟩:=h
 refine ⟨es,⟨h1.1,?_⟩,⟨h2.1,fun i e x he hx=>hE _ _ _ _ _ (h2.2 i e x he hx)⟩⟩
 rcases h1.2 with hn | ⟨g,cap,cur,hv,hb,hg',rest⟩
 ·exact .inl hn
 ·have hB:Blk w g t cur:=hg'
  exact .inr ⟨g,cap,cur,hv,hb,(hg.block g hB.lt (fun e=>hne g (by rw [hv];rfl) e.symm)).trans hg',rest⟩
theorem OwnL.updN {b:Nat} (h:OwnL E t base X w v l) (hu:Upd w w' b) (hne:v.ownBlock≠some b) (hE:∀ S w w' e x,E.R S w e x->E.R S w' e x):OwnL E t base X w' v l:=by
 obtain ⟨es,h1,h2⟩:=h
 refine ⟨es,⟨h1.1,?_⟩,⟨h2.1,fun i e x he hx=>hE _ _ _ _ _ (h2.2 i e x he hx)⟩⟩
 rcases h1.2 with hn | ⟨g,cap,cur,hv,hb,hg',rest⟩
 ·exact .inl hn
 ·exact .inr ⟨g,cap,cur,hv,hb,(hu.block g (fun e=>hne (by rw [hv,<-e];rfl))).trans hg',rest⟩
theorem OwnL.blk (h:OwnL E t base X w v l) {b:Nat} (hb:v.ownBlock=some b):base<=b/\∃ cs,Blk w b t cs:=by
 obtain ⟨es,h1,h2⟩:=h
 rcases h1.2 with ⟨hn,_⟩ | ⟨g,cap,cur,hv,hb',hg',rest⟩
 ·rw [hn] at hb;cases hb
 ·rw [hv] at hb;cases hb;exact ⟨hb',cur,hg'⟩
end
section
variable {P:Program} {σ:Env} {w:World} {d:Option Tmp} {ty:TypeId} {pos:String} {af:Array Edge} {g:Option (Nat×Bool)} {α:Type} {E:ER α}
theorem BH2 {t t':TypeId} {x y:Operand} {base gg i o n cap:Nat} {a:Bool} {X:Nat->Prop} {u v:Value} {l:List α} {z:α} (hsz:0<E.sz) (ht:tyOf P t=some (a,n)) (hx:ev σ x=some (.pointer (some ⟨gg,o,none⟩))) (hy:ev σ y=some v) (h:OwnL E t' base X w u l) (hu:u=.slice (some ⟨gg,0,none⟩) l.length cap)
  (hn:E.sz=n) (hi:i<l.length) (ho:o=i*E.sz) (hz:E.R (fun k=>X k/\u.ownBlock≠some k) w v z) :
  Gv P ⟨d,.store t x y,ty,pos,af,g⟩ σ w fun _ w'=>OwnL E t' base X w' u (l.set i z)/\Upd w w' gg/\base<=gg:=by
 obtain ⟨es,h1,he⟩:=h
 have hcs:=E.csz hz
 subst ho
 have hl:=B0 es he.sz
 have hie:i<es.length:=by rw [he.1];exact hi
 rcases h1.2 with ⟨hv,_⟩ | ⟨g',cap',cur,hv,hb,hg,c1,c2,c3,c4⟩
 ·rw [hu] at hv;cases hv
 rw [hu] at hv
 cases hv
 have hB:Blk w gg t' (cellsOf es++cur.toList.drop (l.length*E.sz)).toArray:=by
  rw [<-c4,List.take_append_drop];exact hg
 have hle:i*E.sz+n<=(cellsOf es++cur.toList.drop (l.length*E.sz)).toArray.size:=by
  have:i*E.sz+n<=es.length*E.sz:=by rw [<-hn,<-Nat.succ_mul];exact Nat.mul_le_mul_right _ hie
  rw [List.size_toArray,List.length_append,hl];omega
 refine (J0 ht hx hy hB (by omega) hle (E.one hz)).mono ?_
 rintro _ w' ⟨hB',uu⟩
 rw [Ah0 hsz es _ i v he.sz hcs hie] at hB'
 have hset:=Els.set he i hz
 have hl':=B0 (es.set i v) hset.sz
 rw [List.length_set] at hl'
 refine ⟨⟨es.set i v,⟨by rw [hl',List.length_set,he.1],.inr ⟨gg,cap,_,by rw [hu,List.length_set],hb,hB',by rw [List.length_set];exact c1,c2,?_,?_⟩⟩,?_⟩,uu,hb⟩
 ·rw [<-c3,List.size_toArray,List.length_append,hl']
  have:(cellsOf es++cur.toList.drop (l.length*E.sz)).length=cur.toList.length:=by rw [<-c4,List.take_append_drop]
  rw [List.length_append,hl] at this
  rw [this,Array.length_toList]
 ·rw [List.length_set]
  show (cellsOf (es.set i v)++_).take _=_
  rw [List.take_append_of_le_length (by rw [hl',he.1];exact Nat.le_refl _),List.take_of_length_le (by rw [hl',he.1];exact Nat.le_refl _)]
 ·exact hset.keep (Kp.upd uu fun h=>h.2 (by rw [hu];rfl))
end
def Nw.mem (n:Nw) (i r:Nat):List Nat:=(List.range i).filter fun b=>decide (n.root b=r)
def Nw.memb (n:Nw) (i:Nat):List (List Nat):=(n.refsTo i).map (n.mem i)
theorem Nw.mem_succ (n:Nw) (i r:Nat):n.mem (i+1) r=n.mem i r++if n.root i=r then [i] else []:=by
 unfold Nw.mem
 rw [List.range_succ,List.filter_append]
 by_cases h:n.root i=r
 ·simp [h]
 ·simp [h]
theorem Nw.refsTo_mem {n:Nw} {i r:Nat}:r∈n.refsTo i<->r<i/\n.root r=r:=by
 unfold Nw.refsTo
 rw [List.mem_filter,List.mem_range]
 simp
theorem Nw.memb_len (n:Nw) (i:Nat):(n.memb i).length=n.cnt i:=by unfold Nw.memb;rw [List.length_map,Nw.refsTo_len]
theorem Nw.memb_get {n:Nw} {i k:Nat} (hk:k<n.cnt i):(n.memb i)[k]?=some (n.mem i ((n.refsTo i).getD k 0)):=by
 unfold Nw.memb
 rw [List.getElem?_map,Go.Proofs.YtggegpiffjbngaaGreat.A6 (z:=0) (by rw [Nw.refsTo_len];exact hk)];rfl
theorem Nw.refsTo_lab (n:Nw) {b i:Nat} (hb:b<i):(n.refsTo i).getD (n.lab b) 0=n.root b/\n.lab b<n.cnt i:=by
 have hle:=Nw.root_le (n:=n) b
 exact BE7 (P:=fun r=>decide (n.root r=r)) (r:=n.root b) (C:=i) (by omega) (decide_eq_true (Nw.root_root b))
theorem Nw.memb_new {n:Nw} {i:Nat} (h:n.root i=i):n.memb (i+1)=n.memb i++[[i]]:=by
 unfold Nw.memb
 rw [n.refsTo_succ,if_pos h,List.map_append]
 congr 1
 ·refine List.map_congr_left fun r hr=>?_
  have:=(Nw.refsTo_mem.1 hr).1
  rw [Nw.mem_succ,if_neg (by omega),List.append_nil]
 ·show [n.mem (i+1) i]=[[i]]
  rw [Nw.mem_succ,if_pos h]
  have:n.mem i i=[]:=by
   unfold Nw.mem
   rw [List.filter_eq_nil_iff]
   intro b hb
   have:=Nw.root_le (n:=n) b
   have:=List.mem_range.1 hb
   simp;omega
  rw [this];rfl
theorem Nw.refsTo_inj {n:Nw} {i a b:Nat} (ha:a<n.cnt i) (hb:b<n.cnt i) (h:(n.refsTo i).getD a 0=(n.refsTo i).getD b 0):a=b:=by
 have hnd:(n.refsTo i).Nodup:=List.Pairwise.filter _ List.nodup_range
 have ha':a<(n.refsTo i).length:=ha
 have hb':b<(n.refsTo i).length:=hb
 rw [List.getD_eq_getElem?_getD,List.getD_eq_getElem?_getD,List.getElem?_eq_getElem ha',List.getElem?_eq_getElem hb'] at h
 exact (List.getElem_inj hnd).1 h
theorem Nw.memb_old {n:Nw} {i:Nat} (h:n.root i≠i):n.memb (i+1)=(n.memb i).set (n.lab i) (n.mem i (n.root i)++[i]):=by
 have hlt:n.root i<i:=by have:=Nw.root_le (n:=n) i;omega
 have hl:n.lab i=n.lab (n.root i):=n.lab_of i
 obtain ⟨h1,h2⟩:=n.refsTo_lab (b:=n.root i) hlt
 rw [Nw.root_root] at h1
 rw [<-hl] at h1 h2
 have hr:n.refsTo (i+1)=n.refsTo i:=by rw [n.refsTo_succ,if_neg h,List.append_nil]
 apply List.ext_getElem?
 intro k
 have hlen:(n.memb (i+1)).length=n.cnt i:=by unfold Nw.memb;rw [List.length_map,hr,Nw.refsTo_len]
 rcases Nat.lt_or_ge k (n.cnt i) with hk | hk
 ·have hg:(n.memb (i+1))[k]?=some (n.mem (i+1) ((n.refsTo i).getD k 0)):=by
   unfold Nw.memb
   rw [hr,List.getElem?_map,Go.Proofs.YtggegpiffjbngaaGreat.A6 (z:=0) (by rw [Nw.refsTo_len];exact hk)];rfl
  rw [hg,Nw.mem_succ]
  by_cases e:n.lab i=k
  ·subst e
   rw [h1,if_pos rfl,List.getElem?_set_self (by rw [Nw.memb_len];exact h2)]
  ·rw [if_neg (fun e'=>e (Nw.refsTo_inj h2 hk (h1.trans e'))),List.append_nil,List.getElem?_set_ne e,Nw.memb_get hk]
 ·rw [List.getElem?_eq_none (by omega),List.getElem?_eq_none (by rw [List.length_set,Nw.memb_len];omega)]
end Go.Kx
namespace Go.Proofs.YtggegpiffjbngaaGreat
open Go Go.Kx Go.RowKit
theorem K6:Tryz.prog.underlying 47=some (.slice 25):=by kernel_rfl
theorem Aw6:infoOf Tryz.prog 25=some (.slice none 0 0,1,24):=by kernel_rfl
theorem bsl_IIn:bslOf Tryz.prog 47 1 [(0,.slice none 0 0)]=some (25,#[.slice none 0 0]):=by kernel_rfl
structure MbI (base:Nat) (W:World) (v:Value) (vs:List Value) (l:List (List Nat)):Prop where
 out:OwnL eRaw 25 base (fun _=>True) W v vs
 len:vs.length=l.length
 inn:∀ (i:Nat) (u:Value) (m:List Nat),vs[i]?=some u->l[i]?=some m->OwnL (eInt .i64) 3 base (fun _=>True) W u (pInts m)
 dis:∀ (i j:Nat) (u u':Value),i≠j->vs[i]?=some u->vs[j]?=some u'->∀ b,u.ownBlock=some b->u'.ownBlock≠some b
theorem BF0:∀ (S:Nat->Prop) (w w':World) (e x:Value),eRaw.R S w e x->eRaw.R S w' e x:=fun _ _ _ _ _ h=>h
theorem AN4:∀ (S:Nat->Prop) (w w':World) (e:Value) (x:Int),(eInt .i64).R S w e x->(eInt .i64).R S w' e x:=fun _ _ _ _ _ h=>h
theorem AG2 {base base':Nat} {X Y:Nat->Prop} {W:World} {v u:Value} {vs:List Value} {l:List Int} (h:OwnL eRaw 25 base X W v vs) (h':OwnL (eInt .i64) 3 base' Y W u l) {b:Nat} (hv:v.ownBlock=some b) (hu:u.ownBlock=some b):False:=by
 obtain ⟨_,c1,k1⟩:=h.blk hv
 obtain ⟨_,c2,k2⟩:=h'.blk hu
 have e1:W.heap[b]?=some (.cells c1 25 (0,0)):=k1
 have e2:W.heap[b]?=some (.cells c2 3 (0,0)):=k2
 rw [e1] at e2
 cases e2
theorem MbI.ext {base:Nat} {W W':World} {v:Value} {vs:List Value} {l:List (List Nat)} (h:MbI base W v vs l) (e:Ext W W'):MbI base W' v vs l :=
 ⟨h.out.ext e,h.len,fun i u m h1 h2=>(h.inn i u m h1 h2).ext e,h.dis⟩
theorem MbI.toR {base:Nat} {W:World} {v:Value} {vs:List Value} {l:List (List Nat)} {S:Nat->Prop} (h:MbI base W v vs l) (hS:∀ k,base<=k->S k):eII.R S W v (l.map pInts):=by
 have hr:(RL eRaw (by decide)).R S W v vs:=by
  obtain ⟨es,h1,h2⟩:=h.out
  have h3:OwnL eRaw 25 base (fun _=>False) W v vs:=⟨es,h1,h2⟩
  exact h3.toR hS (fun _ h=>h.elim)
 obtain ⟨es,he,hrow⟩:=hr
 have hes:es=vs:=List.ext_getElem? fun i=>by
  rcases Nat.lt_or_ge i es.length with hi | hi
  ·have h1:=List.getElem?_eq_getElem hi
   have h2:=List.getElem?_eq_getElem (l:=vs) (i:=i) (by rw [<-he.1];exact hi)
   have:=(he.2 i _ _ h1 h2).1
   rw [h1,h2,this]
  ·rw [List.getElem?_eq_none hi,List.getElem?_eq_none (by rw [<-he.1];exact hi)]
 subst hes
 refine ⟨es,⟨by rw [List.length_map];exact h.len,fun i e x h1 h2=>?_⟩,by rw [List.length_map,<-h.len];exact hrow⟩
 rw [List.getElem?_map] at h2
 cases hm:l[i]? with
 | none=>rw [hm] at h2;cases h2
 | some m =>
  rw [hm] at h2
  cases h2
  obtain ⟨es',h3,h4⟩:=h.inn i e m h1 hm
  have h5:OwnL (eInt .i64) 3 base (fun _=>False) W e (pInts m):=⟨es',h3,h4⟩
  exact h5.toR hS (fun _ h=>h.elim)
theorem AS2:Ent Tryz.prog 102:=A0 Tryz.func102 (by kernel_rfl) rfl
set_option maxRecDepth 8000 in
theorem AQ9 {S:Nat->Prop} {w:World} {vn vo:Value} {n:NtV} {o:List Int} (up:Up S w) (hn:eN.R S w vn n) (ho:eI.R S w vo o) :
  CR Tryz.prog 102 #[vn,vo] w (Two (eII.at S (if outE n o=0 then ((nwOf n o).memb (nwOf n o).B).map pInts else [])) (Is (.int .i64 (outE n o)))):=by
 obtain ⟨s,rfl,hs,hb⟩:=hn
 have hn:eN.R S w (.agg #[.int .i64 n.b,s]) n:=⟨s,rfl,hs,hb⟩
 refine enter Tryz.func102 O Tryz.ntmps102 O (.beg (.go O (.box O O fun w1 b2 n1=>?_)))
 obtain ⟨e1,k2,hb2,hs1⟩:=n1
 refine .go O (.ldA ty_N O O k2 O (.go O ?_))
 refine .call _ O Y3 O (X5 (up.ext e1.size) (hn.ext e1) (ho.ext e1)) fun v2 w2 e2 h2=>?_
 obtain ⟨vl,ve,rfl,hl,he⟩:=h2
 replace he:ve=.int .i64 (outE n o):=he
 subst he
 have x2:=e1.trans e2
 refine .go O ?_
 by_cases hE:outE n o=0
 rotate_left
 ·refine .neqT O O O hE (.goE O ?_)
  refine .plain [_,_] Tryz.results102 ⟨rfl,rfl,trivial⟩ ⟨x2,_,_,rfl,?_,rfl⟩
  rw [if_neg hE];exact RL.nil
 have ok:=L9 hE
 rw [if_pos hE] at hl ⊢
 have hB6:=ok.b6
 have hs2:=x2.size
 have hlW:∀ {W:World},Below w2.heap.size w2 W->eI.R (fun k=>S k/\k<w2.heap.size) W vl (tabI (nwOf n o).B (nwOf n o).lab):=fun h=>eI.keep (fun k c t f hk hh=>(h.block k hk.2).trans hh) (ER.lt eI hl)
 refine .neqF O O O hE (.go O (.lenR un_I O O hl ?_))
 rw [L6]
 refine .goC O (.lp (α:=Nat×Value×List Value) [20,21] rfl (fun y=>[(22,.int .i64 (y.1:Nat)),(8,y.2.1)]) (fun y W=>Below w2.heap.size w2 W/\y.1<=(nwOf n o).B/\MbI w2.heap.size W y.2.1 y.2.2 ((nwOf n o).memb y.1)) (fun y=>(nwOf n o).B-y.1) (0,.slice none 0 0,[]) (lc2 rfl rfl) ⟨Below.refl _ _,Nat.zero_le _,OwnL.nil,rfl,(fun i u m h=>by cases h),(fun i j u u' _ h=>by cases h)⟩ ?_)
 rintro ⟨i,v,vs⟩ W ⟨hW,hi,hm⟩
 replace hW:Below w2.heap.size w2 W:=hW
 replace hi:i<=(nwOf n o).B:=hi
 replace hm:MbI w2.heap.size W v vs ((nwOf n o).memb i):=hm
 refine .go O ?_
 rcases Nat.lt_or_ge i (nwOf n o).B with hlt | hge
 rotate_left
 ·refine .lssF O O O (by omega) (.goE O ?_)
  have:i=(nwOf n o).B:=by omega
  subst this
  exact .plain [_,_] Tryz.results102 ⟨rfl,rfl,trivial⟩ ⟨x2.trans hW,_,_,rfl,hm.toR fun k hk=>up k (by omega),by rw [hE]⟩
 refine .lssT O O O (by omega) (.go O (.ixN (i:=i) un_I A9 O O (hlW hW) O (U5 hlt) fun q hq=>.ldE (E:=eInt .i64) A9 O O hq fun e he=>?_))
 obtain ⟨rfl,_⟩:=he
 have hcl:=(nwOf n o).cnt_le i
 have hlb:=(nwOf n o).lab_cnt i
 have hlen:vs.length=(nwOf n o).cnt i:=by rw [hm.len,Nw.memb_len]
 refine .goZ 8 O (.cut (α:=Value×List Value×List (List Nat)) 1 [9,10,20,21,22] O (fun y=>[(8,y.1)]) (fun y W'=>Below w2.heap.size w2 W'/\MbI w2.heap.size W' y.1 y.2.1 y.2.2/\(nwOf n o).lab i<y.2.2.length/\y.2.2.length<=6/\∃ m,y.2.2[(nwOf n o).lab i]?=some m/\m.length<=6/\(nwOf n o).memb (i+1)=y.2.2.set ((nwOf n o).lab i) (m++[i])) O ?_ ?_)
 rotate_left
 ·refine .go O (.lenR K6 O O (hm.out.toR (S:=fun _=>True) (hsz:=by decide) (fun _ _=>trivial) (fun _ _=>trivial)) ?_)
  rw [hlen]
  by_cases hr:(nwOf n o).root i=i
  ·refine .eqlT O O O (by rw [hlb.2 hr]) (.go O (.bsl _ O O bsl_IIn fun W1 by_ ny=>?_))
   obtain ⟨ey,ky,hby,hsy⟩:=ny
   have hW1:=hW.trans (ey.mono hW.size)
   have hm1:=hm.ext ey
   refine .gv O O (AE8 (E:=eRaw) (base:=w2.heap.size) (n:=.slice none 0 0) (e:=.slice none 0 0) (by decide) K6 Aw6 O O O hm1.out ky ⟨rfl,none,0,0,rfl⟩ (by rw [hlen];omega) (by decide) hW1.size) ?_
   rintro v8 W8 ⟨ho8,hg8⟩
   refine .goN O (.mk (v8,vs++[.slice none 0 0],(nwOf n o).memb i++[[]]) O (lc1 O) ⟨hm1.out.below hg8 hW1 hW1.size,⟨ho8,by rw [List.length_append,List.length_append,hm.len];rfl,?_,?_⟩,?_,?_,[],?_,by decide,?_⟩)
   ·intro j u m h1 h2
    rcases Nat.lt_or_ge j vs.length with hj | hj
    ·rw [List.getElem?_append_left hj] at h1
     rw [List.getElem?_append_left (by rw [<-hm.len];exact hj)] at h2
     have hin:=hm1.inn j u m h1 h2
     exact hin.grown hg8 (fun b hb hv=>AG2 hm1.out hin hv hb) AN4
    ·rw [List.getElem?_append_right hj] at h1
     rw [List.getElem?_append_right (by rw [<-hm.len];exact hj),<-hm.len] at h2
     cases hk:j-vs.length with
     | zero=>rw [hk] at h1 h2;simp at h1 h2;subst h1;subst h2;exact OwnL.nil
     | succ k=>rw [hk] at h1;simp at h1
   ·intro a b u u' hab h1 h2 c hc
    have key:∀ {k:Nat} {x:Value},(vs++[Value.slice none 0 0])[k]?=some x->x.ownBlock=some c->vs[k]?=some x:=fun {k x} hx hxc=>by
     rcases Nat.lt_or_ge k vs.length with hk | hk
     ·rw [List.getElem?_append_left hk] at hx;exact hx
     ·rw [List.getElem?_append_right hk] at hx
      cases hkk:k-vs.length with
      | zero=>rw [hkk] at hx;simp at hx;subst hx;cases hxc
      | succ k'=>rw [hkk] at hx;simp at hx
    intro hc'
    exact hm.dis a b u u' hab (key h1 hc) (key h2 hc') c hc hc'
   ·show (nwOf n o).lab i<_
    rw [hlb.2 hr,List.length_append,Nw.memb_len];simp
   ·show _<=6
    rw [List.length_append,Nw.memb_len];simp;omega
   ·show (_++_)[(nwOf n o).lab i]?=_
    rw [hlb.2 hr,List.getElem?_append_right (by rw [Nw.memb_len];exact Nat.le_refl _),Nw.memb_len,Nat.sub_self];rfl
   ·show _=List.set _ _ _
    rw [Nw.memb_new hr,hlb.2 hr,List.set_append_right _ _ (by rw [Nw.memb_len];exact Nat.le_refl _),Nw.memb_len,Nat.sub_self];rfl
  ·have hlt':(nwOf n o).root i<i:=by have:=Nw.root_le (n:=nwOf n o) i;omega
   obtain ⟨h1,h2⟩:=(nwOf n o).refsTo_lab (b:=(nwOf n o).root i) hlt'
   rw [Nw.root_root,<-(nwOf n o).lab_of i] at h1
   rw [<-(nwOf n o).lab_of i] at h2
   refine .eqlF O O O (by intro e;exact hr (hlb.1 (by omega))) (.goN O (.mk (v,vs,(nwOf n o).memb i) rfl (lc1 rfl) ⟨hW,hm,?_,?_,(nwOf n o).mem i ((nwOf n o).root i),?_,?_,Nw.memb_old hr⟩))
   ·show _<((nwOf n o).memb i).length
    rw [Nw.memb_len];exact h2
   ·show ((nwOf n o).memb i).length<=6
    rw [Nw.memb_len];omega
   ·show ((nwOf n o).memb i)[_]?=_
    rw [Nw.memb_get h2,h1]
   ·have:=List.length_filter_le (fun b=>decide ((nwOf n o).root b=(nwOf n o).root i)) (List.range i)
    rw [List.length_range] at this
    exact Nat.le_trans this (by omega)
 clear hm hW hlen
 rintro ⟨v,vs,l⟩ W' ⟨hW,hm,hll,hl6,m,hmm,hm6,hst⟩
 replace hW:Below w2.heap.size w2 W':=hW
 replace hm:MbI w2.heap.size W' v vs l:=hm
 replace hll:(nwOf n o).lab i<l.length:=hll
 replace hl6:l.length<=6:=hl6
 replace hmm:l[(nwOf n o).lab i]?=some m:=hmm
 replace hst:(nwOf n o).memb (i+1)=l.set ((nwOf n o).lab i) (m++[i]):=hst
 have hvl:=hm.len
 have hvg:vs[(nwOf n o).lab i]?=some (vs.getD ((nwOf n o).lab i) (.slice none 0 0)):=A6 (by omega)
 generalize vs.getD ((nwOf n o).lab i) (.slice none 0 0)=u at hvg
 generalize hj:(nwOf n o).lab i=j at *
 have hin:=hm.inn j u m hvg hmm
 obtain ⟨g,cap,hv,hcap,_,hgb,hF⟩:=hm.out.fp (by omega)
 rw [hv]
 refine .go O (.ixB (i:=j) K6 ty_I O O O (by omega) (.ldP (E:=eRaw) (i:=j) ty_I O O (Nat.zero_add _) hF hvg fun e he=>.go O (.bsl _ O O Aa4 fun W1 by_ ny=>?_)))
 obtain ⟨rfl,a1,n1,c1,hu⟩:=he
 obtain ⟨ey,ky,hby,hsy⟩:=ny
 have hW1:=hW.trans (ey.mono hW.size)
 have hm1:=hm.ext ey
 have hin1:=hin.ext ey
 refine .gv O O (Ag5 (E:=eInt .i64) (base:=w2.heap.size) (n:=((i:Nat):Int)) (e:=.int .i64 (i:Nat)) (by decide) un_I AE5 O O O hin1 ky ⟨rfl,H1.2 (by omega)⟩ (by simp;omega) (by decide) hW1.size) ?_
 rintro v8 W8 ⟨ho8,hg8,hwh⟩
 have hout8:=hm1.out.grown hg8 (fun b hb hv=>AG2 hm1.out hin1 hb hv) BF0
 obtain ⟨a8,c8,hv8⟩:=ho8.slice
 refine .go O (.ixB (i:=j) K6 ty_I O O O (by omega) ?_)
 refine .gv O O (BH2 (E:=eRaw) (i:=j) (by decide) ty_I O O hout8 hv O (by omega) (Nat.zero_add _) (z:=v8) ⟨rfl,_,_,_,hv8⟩) ?_
 rintro _ W9 ⟨ho9,u9,hg9⟩
 have hvo:v.ownBlock=some g:=by rw [hv];rfl
 have hs8:W1.heap.size<=W8.heap.size:=hg8.size
 have hB8:Below w2.heap.size w2 W8:=hin1.below hg8 hW1 hW1.size
 refine .go O (.inc O O O (by omega) (.goN O (.mk (i+1,v,vs.set j v8) O (lc2 O (by rw [hv];rfl)) ⟨⟨u9.below hB8 hg9,hlt,?_⟩,by show (nwOf n o).B-(i+1)<(nwOf n o).B-i;omega⟩)))
 show MbI w2.heap.size W9 v (vs.set j v8) ((nwOf n o).memb (i+1))
 rw [hst]
 refine ⟨ho9,by rw [List.length_set,List.length_set];exact hvl,fun k x y h1 h2=>?_,fun a b x x' hab h1 h2 c hc hc'=>?_⟩
 ·by_cases e:j=k
  ·subst e
   rw [List.getElem?_set_self (by omega)] at h1 h2
   cases h1;cases h2
   have:pInts (m++[i])=pInts m++[((i:Nat):Int)]:=by unfold pInts;rw [List.map_append];rfl
   rw [this]
   exact ho8.updN u9 (fun h=>AG2 hout8 ho8 hvo h) AN4
  ·rw [List.getElem?_set_ne e] at h1 h2
   have h3:=hm1.inn k x y h1 h2
   have h4:=h3.grown hg8 (fun b hb hv=>hm.dis k j x _ (Ne.symm e) h1 hvg b hb hv) AN4
   exact h4.updN u9 (fun h=>AG2 hout8 h4 hvo h) AN4
 ·have old:∀ {k:Nat} {y:Value},vs[k]?=some y->y.ownBlock=some c->c<W1.heap.size:=fun {k y} hk hc=>by
   obtain ⟨z,hz⟩:∃ z,l[k]?=some z:=⟨_,List.getElem?_eq_getElem (by rw [<-hvl];exact (List.getElem?_eq_some_iff.1 hk).1)⟩
   obtain ⟨_,cs,hb⟩:=(hm1.inn k y z hk hz).blk hc
   exact hb.lt
  by_cases ea:j=a
  ·subst ea
   rw [List.getElem?_set_self (by omega)] at h1
   cases h1
   rw [List.getElem?_set_ne hab] at h2
   rcases hwh with h | h
   ·exact hm.dis j b _ x' hab hvg h2 c (h▸hc) hc'
   ·rw [h] at hc;cases hc;exact Nat.lt_irrefl _ (old h2 hc')
  ·rw [List.getElem?_set_ne ea] at h1
   by_cases eb:j=b
   ·subst eb
    rw [List.getElem?_set_self (by omega)] at h2
    cases h2
    rcases hwh with h | h
    ·exact hm.dis a j x _ (Ne.symm ea) h1 hvg c hc (h▸hc')
    ·rw [h] at hc';cases hc';exact Nat.lt_irrefl _ (old h1 hc)
   ·rw [List.getElem?_set_ne eb] at h2
    exact hm.dis a b x x' hab h1 h2 c hc hc'
end Go.Proofs.YtggegpiffjbngaaGreat
namespace Go.Kx
open Go Go.RowKit
section
variable {α:Type} {E:ER α} {t:TypeId} {S:Nat->Prop} {w w':World} {g:Nat} {l:List α}
end
theorem OwnL.lt' {β:Type} {F:ER β} {t':TypeId} {base:Nat} {X:Nat->Prop} {w:World} {v:Value} {b:List β} (h:OwnL F t' base X w v b) (k:Nat) (hk:v.ownBlock=some k):k<w.heap.size:=by
 obtain ⟨es,ho,_⟩:=h
 exact (ho.lt k hk).2
end Go.Kx
namespace Go.Proofs.YtggegpiffjbngaaGreat
open Go Go.Kx Go.RowKit
theorem BJ2 {α:Type} {E:ER α} {t:TypeId} {base:Nat} {X:Nat->Prop} {w:World} {v:Value} {l:List α} (h:OwnL E t base X w v l):OwnL E t base (fun k=>X k/\k<w.heap.size) w v l:=by
 obtain ⟨es,ho,he⟩:=h
 exact ⟨es,ho,he.1,fun i e x h1 h2=>E.mono (fun k hk hh=>⟨⟨hh.1,hk⟩,hh.2⟩) (he.2 i e x h1 h2)⟩
theorem BB6 {α:Type} {E:ER α} {t t':TypeId} {base b:Nat} {X X':Nat->Prop} {w w':World} {v:Value} {l:List α} {cs:Array Value} (h:OwnL E t base X w v l) (hu:Upd w w' b) (hb:Blk w b t' cs) (ht:t≠t') (hX:¬ X b) (hX':∀ k,X k->X' k):OwnL E t base X' w' v l:=by
 obtain ⟨es,ho,he⟩:=h.upd hu hb ht hX
 exact ⟨es,ho,he.1,fun i e x h1 h2=>E.mono (fun k hk hh=>⟨hX' k hh.1,hh.2⟩) (he.2 i e x h1 h2)⟩
def CycR (n:NtV) (o:List Int) (r:List Int):Prop:=∃ s:Nat->Int,r=trI n.ls.length s/\(∀ j,-1<=s j/\s j<=1)/\(∀ j,j<n.ls.length->(nwOf n o).g j=0->s j=0)/\∀ θ,(nwOf n o).pot s θ=0
def SrV (n:NtV) (m:Nw) (a b B:Nat):Value->World->Prop:=fun v W=>∃ tr s,v=.slice (some ⟨tr,0,none⟩) n.ls.length n.ls.length/\B<=tr/\FB (eInt .i64) 3 (fun _=>True) W tr (trI n.ls.length s)/\Trl m s a b
theorem SrV.st (n:NtV) (m:Nw) (a b B:Nat):St (SrV n m a b B):=fun _ _ _ e ⟨tr,s,h1,h2,h3,h4⟩=>⟨tr,s,h1,h2,h3.ext e,h4⟩
theorem BJ6:Ent Tryz.prog 42:=A0 Tryz.func42 (by kernel_rfl) rfl
set_option maxRecDepth 8000 in
theorem BJ7 {w:World} {vn vo:Value} {n:NtV} {o:List Int} (hn:eN.R (fun _=>True) w vn n) (ho:eI.R (fun _=>True) w vo o) :
  CR Tryz.prog 42 #[vn,vo] w (Two (fun v W=>∃ rows,eII.R (fun _=>True) W v rows/\rows.length<=10/\(outE n o=0->∀ r∈rows,CycR n o r)) (Is (.int .i64 (outE n o)))):=by
 obtain ⟨s,rfl,hs,hb⟩:=hn
 have hn:eN.R (fun _=>True) w (.agg #[.int .i64 n.b,s]) n:=⟨s,rfl,hs,hb⟩
 refine enter Tryz.func42 O Tryz.ntmps42 O (.beg (.go O (.box O O fun w1 b2 n1=>?_)))
 obtain ⟨e1,k2,hb2,hs1⟩:=n1
 replace k2:Blk w1 b2 24 #[.int .i64 n.b,s]:=k2
 refine .go O (.ldA ty_N O O k2 O (.go O ?_))
 refine .call _ O AB1 O (AA4 upT (hn.ext e1) (ho.ext e1)) fun v2 w2 e2 h2=>?_
 obtain ⟨vl,ve,rfl,hl,he⟩:=h2
 replace he:ve=.int .i64 (outE n o):=he
 subst he
 have x2:=e1.trans e2
 have k2:=k2.ext e2
 refine .go O ?_
 by_cases hO:outE n o=0
 rotate_left
 ·exact .neqT rfl rfl rfl hO (.goE rfl (.plain [_,_] Tryz.results42 ⟨rfl,rfl,trivial⟩ ⟨x2,_,_,rfl,⟨[],RL.nil,by simp,fun _ _ h=>by cases h⟩,rfl⟩))
 have ok:=L9 hO
 have hM10:n.ls.length<=10:=ok.m
 have hll:=AG5 n o
 have hnb:=ok.b
 have hB6:=ok.b6
 rw [if_pos hO] at hl
 refine .neqF O O O hO (.go O (.ldA ty_N O O k2 O (.go O ?_)))
 refine .call _ O E_Tree O (Tree_c upT (hn.ext x2) (ho.ext x2)) fun v3 w3 e3 h3=>?_
 obtain ⟨vt,ve,rfl,ht,he⟩:=h3
 replace he:ve=.int .i64 (outE n o):=he
 subst he
 rw [if_pos hO] at ht
 have x3:=x2.trans e3
 have k2:=k2.ext e3
 have hl:=ER.ext eI hl e3
 have z3:=x3.size
 have htl:(pInts (trL n o)).length<=10:=by
  have:(trL n o).length<=(inL n o).length:=List.length_filter_le ..
  simp;omega
 have okt:=L9 (Ar1 (c:=trL n o) hO)
 refine .go O (.neqF O O O hO (.go O (.lenR un_I O O hl (.goC O ?_))))
 rw [show (pInts (inL n o)).length=(inL n o).length by simp]
 refine .lp (α:=Nat×Value×List (List Int)) [2,8,31,32] rfl (fun y=>[(9,y.2.1),(33,.int .i64 (y.1:Nat))]) (fun y W=>Ext w3 W/\y.1<=(inL n o).length/\OwnL eI 25 w3.heap.size (fun _=>True) W y.2.1 y.2.2/\y.2.2.length<=y.1/\∀ r∈y.2.2,CycR n o r) (fun y=>(inL n o).length-y.1) (0,.slice none 0 0,[]) (lc2 rfl rfl) ⟨Ext.refl _,Nat.zero_le _,OwnL.nil,Nat.le_refl _,fun _ h=>by cases h⟩ ?_
 rintro ⟨i,v,rows⟩ W ⟨hW,hi,hown,hrl,hcyc⟩
 replace hW:Ext w3 W:=hW
 replace hi:i<=(inL n o).length:=hi
 replace hown:OwnL eI 25 w3.heap.size (fun _=>True) W v rows:=hown
 replace hrl:rows.length<=i:=hrl
 replace hcyc:∀ r∈rows,CycR n o r:=hcyc
 have hlW:=ER.ext eI hl hW
 have xW:=x3.trans hW
 have zW:=hW.size
 refine .go O ?_
 rcases Nat.lt_or_ge i (inL n o).length with hlt | hge
 rotate_left
 ·exact .lssF O O O (by omega) (.goE O (.plain [_,_] Tryz.results42 ⟨rfl,rfl,trivial⟩ ⟨xW,_,_,rfl,⟨rows,hown.toR (fun _ _=>trivial) (fun _ _=>trivial),by omega,fun _=>hcyc⟩,by rw [hO]⟩))
 obtain ⟨hgk,hkM,hko⟩:=AN5 hlt
 generalize (inL n o).getD i 0=k at hgk hkM hko
 have hgk0:=g_in2 ok hkM hko
 have htW:=ER.ext eI ht hW
 have k2:=k2.ext hW
 refine .lssT O O O (by omega) (.go O (.ixN (i:=i) un_I A9 O O hlW O hgk fun q hq=>.ldE (E:=eInt .i64) A9 O O hq fun e he=>.go O ?_))
 obtain ⟨rfl,_⟩:=he
 refine .call _ O Au0 O (Au1 htW (by omega)) fun v4 w4 e4 h4=>?_
 subst h4
 have hW4:=hW.trans e4
 by_cases hin:((k:Nat):Int)∈pInts (trL n o)
 ·rw [decide_eq_true hin]
  exact .go O (.inc O O O (by omega) (.goN O (.mk (i+1,v,rows) O (lc2 O O) ⟨⟨hW4,hlt,hown.ext e4,by show rows.length<=i+1;omega,hcyc⟩,by show (inL n o).length-(i+1)<(inL n o).length-i;omega⟩)))
 rw [decide_eq_false hin]
 have hkL:k∉trL n o:=fun h=>hin (List.mem_map.2 ⟨k,h,rfl⟩)
 have x4:=x3.trans hW4
 have k2:=k2.ext e4
 have hgl:n.ls[k]?=some (n.ls.getD k ln0):=A6 hkM
 have hFB:=ok.f k hkM
 have hTB:=ok.t k hkM
 have hF0:lnI (n.ls.getD k ln0) 0=(((nwOf n o).F k:Nat):Int):=ok.fI k hkM
 have hT0:lnI (n.ls.getD k ln0) 1=(((nwOf n o).T k:Nat):Int):=ok.tI k hkM
 have hroot:(nwOf n (pInts (inL n (pInts (trL n o))))).root ((nwOf n o).T k)=(nwOf n (pInts (inL n (pInts (trL n o))))).root ((nwOf n o).F k):=by
  have h1:∀ b,(nwOf n (pInts (inL n (pInts (trL n o))))).root b=(nwOf n o).root b:=fun b=>congrFun (Aj4 ok (Nat.le_refl _)) b
  rw [h1,h1]
  exact (Nw.root_line (n:=nwOf n o) hkM hgk0).symm
 have hSr:∀ {W':World},Ext w4 W'->CR Tryz.prog 104 #[.agg #[.int .i64 n.b,s],vt,.int .i64 ((nwOf n o).T k:Nat),.int .i64 ((nwOf n o).F k:Nat)] W' (SrV n (nwOf n (pInts (inL n (pInts (trL n o))))) ((nwOf n o).T k) ((nwOf n o).F k) w4.heap.size):=fun e =>
  (BE4 (L:=trL n o) (R:=pInts (inL n (pInts (trL n o)))) (hn.ext (x4.trans e)) (ER.ext eI ht (hW4.trans e)) okt (fun j=>⟨fun h=>⟨(S9.1 (X4.1 h).1).1,(Ad0 ok (S9.1 (X4.1 h).1).1).2 h⟩,fun h=>(Ad0 ok h.1).1 h.2⟩) (fun j h=>tre_brg hO (S9.1 (X4.1 h).1).1 h) hTB hFB hroot).mono fun u W'' _ ⟨tr,s',h1,h2,h3,h4⟩=>⟨tr,s',h1,by have:=e.size;omega,h3,h4⟩
 have hsW:∀ {W':World},Ext w4 W'->eLs.R (fun _=>True) W' s n.ls:=fun e=>ER.ext eLs hs (x4.trans e)
 refine .goC O ?_
 refine .par follows 14 [.inl (.agg #[.int .i64 n.b,s]),.inl _,.inl _,.inl s,.inl (.int .i64 (k:Nat)),.inr (Ptr eL (fun _=>True) (n.ls.getD k ln0)),.inr (Ptr (eInt .i64) (fun _=>True) ((nwOf n o).T k:Nat)),.inl (.int .i64 ((nwOf n o).T k:Nat)),.inl _,.inl s,.inl (.int .i64 (k:Nat)),.inr (Ptr eL (fun _=>True) (n.ls.getD k ln0)),.inr (Ptr (eInt .i64) (fun _=>True) ((nwOf n o).F k:Nat)),.inl (.int .i64 ((nwOf n o).F k:Nat))] [[],[],[],[(42,2)],[],[(43,3),(44,4)],[(45,5)],[(46,6)],[],[(48,8)],[],[(49,9),(50,10)],[(51,11)],[(52,12)]] (by kernel_rfl) ⟨
  fun w e=>(C3 ty_N O (k2.ext e) O).ob,
  fun w e=>(v_mv O).ob,
  fun w e=>(v_fa I8 O).ob,
  fun w e=>(v_ld O6 O (k2.ext e) O).ob,
  fun w e=>(v_mv O).ob,
  fun w e=>C6 (i:=k) L5 Q7 O (hsW e) O hgl,
  fun w e x5 hx5=>(by rw [<-hT0];exact AK1 T7 O hx5 (by decide)),
  fun w e x6 hx6=>N8 A7 O hx6,
  fun w e=>(v_fa I8 O).ob,
  fun w e=>(v_ld O6 O (k2.ext e) O).ob,
  fun w e=>(v_mv O).ob,
  fun w e=>C6 (i:=k) L5 Q7 O (hsW e) O hgl,
  fun w e x11 hx11=>(by rw [<-hF0];exact AK1 T8 O hx11 (by decide)),
  fun w e x12 hx12=>N8 A7 O hx12,trivial⟩ ?_
 intro w5 e5 y5 hy5 y6 hy6 y11 hy11 y12 hy12
 have hob:∀ j,v.ownBlock=some j->j<W.heap.size:=fun j h=>hown.lt' j h
 have z4:=e4.size
 have z5:=e5.size
 refine .go O (.call _ O BJ3 O (hSr e5) fun v6 w6 e6 h6=>?_)
 obtain ⟨tr,s',rfl,hBt,f6,T6⟩:=h6
 have z6:=e6.size
 have hown6:=(BJ2 hown).ext ((e4.trans e5).trans e6)
 have hW6:=(hW4.trans e5).trans e6
 obtain ⟨fe,hfb,_⟩:=id f6
 refine .go O (.ixB (i:=k) un_I A9 O O O hkM (.go O (.storeF (E:=eInt .i64) (i:=k) (z:=1) (by decide) A9 O O f6 O (by rw [AM1];exact hkM) (Nat.zero_add _) ⟨rfl,H1.2 (by decide)⟩ fun w7 f7 u7=>?_)))
 rw [Ae8] at f7
 have hown7:OwnL eI 25 w3.heap.size (fun _=>True) w7 v rows:=BB6 hown6 u7 hfb (by decide) (fun h=>by have:=h.2;omega) fun _ _=>trivial
 have hW7:Ext w3 w7:=u7.below hW6 (by omega)
 have hcr:CycR n o (trI n.ls.length fun j=>if j=k then 1 else s' j):=by
  have hk0:s' k=0:=T6.of k (Classical.not_not.1 fun h=>hkL ((Ad0 ok hkM).1 h))
  refine ⟨_,rfl,fun j=>?_,fun j hj hg=>?_,fun θ=>?_⟩
  ·by_cases e:j=k
   ·simp only [if_pos e];exact ⟨by decide,by decide⟩
   ·simp only [if_neg e];exact T6.bd j
  ·have e:j≠k:=fun e=>hgk0 (by rw [<-e];exact hg)
   simp only [if_neg e]
   exact T6.of j (Classical.not_not.1 fun h=>(X4.1 ((Ad0 ok hj).1 h)).2.1 hg)
  ·have hp:(nwOf n o).pot s' θ=θ ((nwOf n o).T k)-θ ((nwOf n o).F k):=T6.pt θ
   rw [Nw.pot_set (n:=nwOf n o) (s:=s') (v:=1) hkM (fun j h=>if_neg h) hk0 (if_pos O) θ,hp,show ((1:Int):Rat)=1 from rfl]
   grind
 generalize hr':(trI n.ls.length fun j=>if j=k then 1 else s' j)=r' at f7 hcr
 have hrl':r'.length=n.ls.length:=by rw [<-hr',AM1]
 refine .go O (.bsl _ O O bsl_II1 fun w8 b8 n8=>?_)
 obtain ⟨e8,k8,hb8,hs8⟩:=n8
 have z7:=u7.size
 have hel:eI.R (fun j=>True/\v.ownBlock≠some j) w8 (.slice (some ⟨tr,0,none⟩) n.ls.length n.ls.length) r':=by
  have:=(AD0 (S':=fun j=>True/\v.ownBlock≠some j) f7).toR (hsz:=by decide) (c:=n.ls.length) ⟨trivial,fun h=>by have:=hob _ h;omega⟩ (by omega) (by omega)
  rw [hrl'] at this
  exact ER.ext eI this e8
 refine .gv O O (AE8 (E:=eI) (base:=w3.heap.size) (n:=r') (e:=.slice (some ⟨tr,0,none⟩) n.ls.length n.ls.length) (by decide) AS5 Aw6 O O O (hown7.ext e8) k8 hel (by omega) (by decide) (hW7.trans e8).size) ?_
 rintro v9 w9 ⟨ho9,hg9⟩
 have hW9:Ext w3 w9:=OwnL.below (hown7.ext e8) hg9 (hW7.trans e8) (hW7.trans e8).size
 exact .go O (.inc O O O (by omega) (.goN O (.mk (i+1,v9,rows++[r']) O (lc2 O O) ⟨⟨hW9,hlt,ho9,by show (rows++[r']).length<=i+1;simp;omega,fun r hr=>(List.mem_append.1 hr).elim (hcyc r) fun h=>by rw [List.mem_singleton.1 h];exact hcr⟩,by show (inL n o).length-(i+1)<(inL n o).length-i;omega⟩)))
theorem bsl_IIo {a:Option Addr} {n c:Nat}:bslOf Tryz.prog 47 1 [(0,.slice a n c)]=some (25,#[.slice a n c]):=by kernel_rfl
def okV17 (r:List QV):Prop:=r.length<=20/\∀ q∈r,qok 4 q
theorem okV17.vk {W:World} {v:Value} {a:List QV} (h:okV17 a) (hr:eV.R (fun _=>True) W v a):vk 4 a:=eV_vk hr h.2 (by decide)
theorem Ai2:Ent Tryz.prog 24:=A0 Tryz.func24 (by kernel_rfl) rfl
set_option maxRecDepth 8000 in
theorem Ag2 {w:World} {vn vo v:Value} {n:NtV} {o:List Int} {l:List (List QV)} (hn:eN.R (fun _=>True) w vn n) (ho:eI.R (fun _=>True) w vo o) (h:eM.R (fun _=>True) w v l):CR Tryz.prog 24 #[vn,vo,v] w (Lng (∀ r∈l,okV17 r)):=by
 obtain ⟨s,rfl,hs,hb⟩:=hn
 have hn:eN.R (fun _=>True) w (.agg #[.int .i64 n.b,s]) n:=⟨s,rfl,hs,hb⟩
 obtain ⟨ao,co,hvo,_⟩:=RL.len ho
 obtain ⟨_,_,_,_,hl⟩:=RL.len h
 refine enter Tryz.func24 O Tryz.ntmps24 O (.beg (.go O (.box O O fun w1 b3 n1=>?_)))
 obtain ⟨e1,k3,hb3,hs1⟩:=n1
 have h:=ER.ext eM h e1
 have htrue:∀ {σ:Env},Kx.look σ 6=some (.bool true)->Leave Tryz.prog Tryz.f24 58 (fun v w'=>Ext w w'/\Lng (∀ r∈l,okV17 r) v w') σ [] w1:=by
  intro σ hl
  exact .plain [_] Tryz.results24 ⟨hl,trivial⟩ ⟨e1,true,rfl,fun h=>by cases h⟩
 refine .goC O (.lp (α:=Nat) [1,2,3] O (fun i=>[(7,.int .i64 (i:Nat))]) (fun i W=>W=w1/\i<=l.length/\∀ j r,j<i->l[j]?=some r->okV17 r) (fun i=>l.length-i) 0 (lc1 O) ⟨rfl,Nat.zero_le _,fun j r hj=>absurd hj (Nat.not_lt_zero _)⟩ ?_)
 rintro i W ⟨rfl,hi,hall⟩
 refine .go O (.lenR un_M O O h ?_)
 rcases Nat.lt_or_ge i l.length with hlt | hge
 rotate_left
 ·refine .lssF O O O (by omega) (.go O (.ldA ty_N O O k3 O (.go O (.bsl _ O O (by rw [hvo];exact bsl_IIo) fun w2 b5 n2=>?_))))
  have hll:eII.R (fun _=>True) w2 (.slice (some ⟨b5,0,none⟩) 1 1) [o]:=BH9 [vo] [o] n2 upT (by rw [hvo]) O (by decide) (Els.snoc Els.nil (ho.ext e1))
  refine .call _ O Ai3 O (Ag3 (hn.ext (e1.trans n2.1)) hll) fun v3 w3 e3 h3=>.goE O ?_
  obtain ⟨bl,rfl⟩:=h3
  refine .plain [_] Tryz.results24 ⟨rfl,trivial⟩ ⟨(e1.trans n2.1).trans e3,bl,rfl,fun _ r hr=>?_⟩
  obtain ⟨j,hj⟩:=List.mem_iff_getElem?.1 hr
  exact hall j r (by have:=Af9 hj;omega) hj
 have hyy:=List.getElem?_eq_getElem hlt
 generalize l[i]=r at hyy
 refine .lssT O O O (by omega) (.go O (.ixN (i:=i) un_M ty_V O O h O hyy fun p hp=>.ldE ty_V O O hp fun e he=>.lenR un_V O O he ?_))
 by_cases hr:r.length<=20
 rotate_left
 ·exact .gtrT O O O (by omega) (.goE O (htrue O))
 refine .gtrF O O O (by omega) (.goC O (.lp (α:=Nat) [1,2,3,7] O (fun k=>[(8,.int .i64 (k:Nat))]) (fun k W'=>W'=W/\k<=r.length/\∀ j q,j<k->r[j]?=some q->qok 4 q) (fun k=>r.length-k) 0 (lc1 O) ⟨rfl,Nat.zero_le _,fun j r hj=>absurd hj (Nat.not_lt_zero _)⟩ ?_))
 rintro k W' ⟨rfl,hk,hallk⟩
 refine .go O (.ixN (i:=i) un_M ty_V O O h O hyy fun p2 hp2=>.ldE ty_V O O hp2 fun e2 he2=>.lenR un_V O O he2 ?_)
 rcases Nat.lt_or_ge k r.length with hkl | hge
 rotate_left
 ·refine .lssF O O O (by omega) (.go O (.inc O O O (by omega) (.goN O (.mk (i+1) O (lc1 O) ⟨⟨rfl,hlt,fun j r' hj hr'=>?_⟩,by show l.length-(i+1)<l.length-i;omega⟩))))
  by_cases e:j=i
  ·subst e
   rw [hyy] at hr'
   cases hr'
   refine ⟨hr,fun q hq=>?_⟩
   obtain ⟨j',hj'⟩:=List.mem_iff_getElem?.1 hq
   exact hallk j' q (by have:=Af9 hj';omega) hj'
  ·exact hall j r' (by omega) hr'
 have hqq:=List.getElem?_eq_getElem hkl
 generalize r[k]=q at hqq
 refine .lssT O O O (by omega) (.go O (.ixN (i:=i) un_M ty_V O O h O hyy fun p3 hp3=>.ldE ty_V O O hp3 fun e3 he3=>.go O (.ixN (i:=k) un_V ty_Q O O he3 O hqq fun p4 hp4=>.faP S4 O O (.faP E0 O O (.ldE (E:=eW) ty_W O O hp4.qn.zw fun e4 he4=>.lenR un_W O O he4 ?_)))))
 by_cases hn4:q.num.w.length<=4
 rotate_left
 ·exact .gtrT O O O (by omega) (.goE O (htrue O))
 refine .gtrF O O O (by omega) (.go O (.ixN (i:=i) un_M ty_V O O h O hyy fun p5 hp5=>.go O (.ldE ty_V O O hp5 fun e5 he5=>.go O (.ixN (i:=k) un_V ty_Q O O he5 O hqq fun p6 hp6=>.go O (.faP S3 O O (.go O (.faP E0 O O (.go O (.ldE (E:=eW) ty_W O O hp6.qd.zw fun e6 he6=>.go O (.lenR un_W O O he6 (.go O ?_)))))))))))
 by_cases hd4:q.den.w.length<=4
 rotate_left
 ·exact .gtrT O O O (by omega) (.goE O (htrue O))
 refine .gtrF O O O (by omega) (.go O (.inc O O O (by omega) (.goN O (.mk (k+1) O (lc1 O) ⟨⟨rfl,hkl,fun j q' hj hq'=>?_⟩,by show r.length-(k+1)<r.length-k;omega⟩))))
 by_cases e:j=k
 ·subst e;rw [hqq] at hq';cases hq';exact ⟨hn4,hd4⟩
 ·exact hallk j q' (by omega) hq'
theorem Z5:Ent Tryz.prog 84:=A0 Tryz.func84 (by kernel_rfl) rfl
theorem Y9 {w:World}:CR Tryz.prog 84 #[] w (eN.at (fun _=>True) net3):=by
 refine enter Tryz.func84 O Tryz.ntmps84 O (.beg (.go O (.alloc O zero_N fun w1 b0 n1=>.go O (.bld _ O O Ah5 (.bld _ O O Ah5 (.bld _ O O Ah5 (.bsl _ O O bsl_Ls3 fun w2 b4 n2=>.bld _ O O bld_N2 ?_)))))))
 obtain ⟨e1,k0,hb0,hs1⟩:=n1
 have hl:eLs.R (fun k=>k≠b0) w2 (.slice (some ⟨b4,0,none⟩) 3 3) net3.ls:=As5 (E:=eL) [_,_,_] net3.ls n2 (fun k hk=>by omega) O O (by decide) (Els.snoc (Els.snoc (Els.snoc Els.nil (ln_R (by decide))) (ln_R (by decide))) (ln_R (by decide)))
 have hn:eN.R (fun k=>k≠b0) w2 (.agg #[.int .i64 3,.slice (some ⟨b4,0,none⟩) 3 3]) net3:=⟨_,rfl,hl,H1.2 (by decide)⟩
 refine .storeA (E:=eN) ty_N O O (k0.ext n2.1) O O hn (fun h=>h O) fun w3 k3 u3 h3=>.goE O ?_
 exact .cell (E:=eN) Tryz.results84 O ty_N O O k3 h3 ⟨u3.below (e1.trans n2.1) (by omega),eN.mono (fun _ _ _=>trivial) h3⟩
theorem U1:Ent Tryz.prog 85:=A0 Tryz.func85 (by kernel_rfl) rfl
theorem T4 {w:World} {vl:Value} {l:List Int} (hl:eI.R (fun _=>True) w vl l) (hn:l.length<=1000):CR Tryz.prog 85 #[vl] w (eV.at (fun _=>True) (intsV l)):=by
 refine enter Tryz.func85 O Tryz.ntmps85 O (.beg (.go O ?_))
 refine .call _ O Ah9 O (Af3 upT hl (by omega)) fun v1 w1 e1 h1=>.goE O ?_
 exact .plain [_] Tryz.results85 ⟨rfl,trivial⟩ ⟨e1,h1⟩
def balB (n:Nw) (x:Nat->Rat):Bool:=(List.range n.B).all fun r => !decide (n.root r=r) || decide (sumN n.B (fun b=>if n.root b=r then x b else 0)=0)
theorem An1 {n:Nw} {x:Nat->Rat}:balB n x=true<->n.bal x:=by
 unfold balB Nw.bal
 rw [List.all_eq_true]
 simp only [List.mem_range,Bool.or_eq_true,Bool.not_eq_true',decide_eq_false_iff_not,decide_eq_true_eq]
 exact ⟨fun h r hr hrr=>(h r hr).resolve_left fun h'=>h' hrr,fun h r hr=>by
  by_cases hrr:n.root r=r
  ·exact .inr (h r hr hrr)
  ·exact .inl hrr⟩
theorem At1 {n:Nw} (ok:n.Ok) {x cand:Nat->Rat} (h:∀ i,i<n.B->(if n.root i=i then cand i else n.lap cand i)=n.inj0 x i) {c:Nat} (hc:c<n.B):n.an x c=cand c :=
 Nw.uniq ok (fun i hi=>by
  have h1:=n.an_eq ok x hi
  have h2:=h i hi
  split
  ·rw [if_pos (by assumption)] at h1 h2;rw [h1,h2]
  ·rw [if_neg (by assumption)] at h1 h2;rw [h1,h2]) c hc
def inj3:Nat->Rat:=fun b=>((([6,0,-6]:List Int).getD b 0:Int):Rat)
def an3:Nat->Rat:=fun b=>((([0,-24,-36]:List Int).getD b 0:Int):Rat)
theorem Af0 {l:List Int} {b:Nat}:rv (intsV l) b=if b<l.length then ((l.getD b 0:Int):Rat) else 0:=N2 ..
theorem Ah8:anE net3 [] (intsV [6,0,-6])=0:=by
 refine BJ1 ok3 (by decide) ?_
 refine (Nw.bal_congr (y:=inj3) fun b hb=>?_).2 (An1.1 (by decide +kernel))
 rw [Af0,if_pos (show b<([6,0,-6]:List Int).length from hb)];rfl
theorem an3_no:anE net3 [] (intsV [1,0,-2])=10:=by
 have h1:sfE net3 [] (intsV [1,0,-2]).length=0:=by unfold sfE;rw [if_neg (by simpa using ok3),if_pos (by decide)]
 unfold anE
 rw [if_neg (by simpa using h1),if_neg]
 intro h
 have h2:=(Nw.bal_congr (y:=fun b=>((([1,0,-2]:List Int).getD b 0:Int):Rat)) fun b hb=>by rw [Af0,if_pos (show b<([1,0,-2]:List Int).length from hb)]).1 h
 have h3:=An1.2 h2
 exact absurd h3 (by decide +kernel)
theorem Ah7:∀ c,c<3->(nwOf net3 []).an (rv (intsV [6,0,-6])) c=an3 c:=fun c hc=>by
 have ok:=L9 ok3
 refine At1 ok.ok (fun i hi=>?_) hc
 have h1:∀ i,i<3->(if (nwOf net3 []).root i=i then an3 i else (nwOf net3 []).lap an3 i)=(nwOf net3 []).inj0 inj3 i:=by decide +kernel
 rw [h1 i hi]
 unfold Nw.inj0
 rw [Af0,if_pos (show i<([6,0,-6]:List Int).length from hi)];rfl
theorem an3_tab:tab (nwOf net3 []).B ((nwOf net3 []).an (rv (intsV [6,0,-6])))=intsV [0,-24,-36]:=E4 fun c hc=>Ah7 c hc
theorem fl3_tab:tab net3.ls.length ((nwOf net3 []).fl ((nwOf net3 []).an (rv (intsV [6,0,-6]))))=[qc (Rat.divInt 12 5),qc (Rat.divInt 12 5),qc (Rat.divInt 18 5)]:=by
 have h1:∀ k,k<3->(nwOf net3 []).fl ((nwOf net3 []).an (rv (intsV [6,0,-6]))) k=(nwOf net3 []).fl an3 k:=fun k hk=>by
  have ok:=L9 ok3
  unfold Nw.fl
  rw [Ah7 _ (ok.f k hk),Ah7 _ (ok.t k hk)]
 have h2:∀ k,k<3->(nwOf net3 []).fl an3 k=Rat.divInt (([12,12,18]:List Int).getD k 0) 5:=by decide +kernel
 rw [show tab net3.ls.length ((nwOf net3 []).fl ((nwOf net3 []).an (rv (intsV [6,0,-6]))))=tab 3 fun k=>Rat.divInt (([12,12,18]:List Int).getD k 0) 5 from E4 fun k hk=>by rw [h1 k hk,h2 k hk]]
 rfl
theorem bsl_V3 {x y z u x' y' z' u' x2 y2 z2 u2:Value}:bslOf Tryz.prog 32 3 [(0,.agg #[x,y,z,u]),(1,.agg #[x',y',z',u']),(2,.agg #[x2,y2,z2,u2])]=some (54,#[x,y,z,u,x',y',z',u',x2,y2,z2,u2]):=by kernel_rfl
theorem ob_V3 {w:World} {σ:Env} {d:Option Tmp} {ty:TypeId} {pos:String} {af:Array Edge} {g:Option (Nat×Bool)} {x y z:Operand} {u v t:Value} {a b c:QV} (hu:eQ.R (fun _=>True) w u a) (hv:eQ.R (fun _=>True) w v b) (ht:eQ.R (fun _=>True) w t c) (hx:ev σ x=some u:=by rfl) (hy:ev σ y=some v:=by rfl) (hz:ev σ z=some t:=by rfl) :
  Gv Tryz.prog ⟨d,.buildSlice 32 3 #[(0,x),(1,y),(2,z)],ty,pos,af,g⟩ σ w fun v' w'=>Ext w w'/\Sp.ok (.inr (eV.at (fun _=>True) [a,b,c])) v' w':=by
 have hu':=hu
 have hv':=hv
 have ht':=ht
 obtain ⟨s1,t1,rfl,_,_⟩:=hu'
 obtain ⟨s2,t2,rfl,_,_⟩:=hv'
 obtain ⟨s3,t3,rfl,_,_⟩:=ht'
 refine (AT9 (ps:=[(0,x),(1,y),(2,z)]) [(0,.agg #[.bool a.num.neg,s1,.bool a.den.neg,t1]),(1,.agg #[.bool b.num.neg,s2,.bool b.den.neg,t2]),(2,.agg #[.bool c.num.neg,s3,.bool c.den.neg,t3])] (by simp [evp,hx,hy,hz]) bsl_V3).mono fun v' w' ⟨b2,hv',n2⟩=>⟨n2.1,fun w'' e=>?_⟩
 rw [hv']
 exact ER.ext eV (As5 (E:=eQ) (hsz:=by decide) [_,_,_] [a,b,c] n2 upT O O (by decide) (Els.snoc (Els.snoc (Els.snoc Els.nil hu) hv) ht)) e
theorem ob_L3 {w:World} {σ:Env} {d:Option Tmp} {ty:TypeId} {pos:String} {af:Array Edge} {g:Option (Nat×Bool)} {m n k:Int} (h:∀ x∈[m,n,k],-9223372036854775808<=x/\x<=9223372036854775807) :
  Gv Tryz.prog ⟨d,.buildSlice 127 3 #[(0,.const (.int .i64 m)),(1,.const (.int .i64 n)),(2,.const (.int .i64 k))],ty,pos,af,g⟩ σ w fun v' w'=>Ext w w'/\Sp.ok (.inr (eI.at (fun _=>True) [m,n,k])) v' w' :=
 (AT9 (ps:=[(0,.const (.int .i64 m)),(1,.const (.int .i64 n)),(2,.const (.int .i64 k))]) _ O Ah1).mono fun v' w' ⟨b2,hv',n2⟩=>⟨n2.1,fun w'' e=>by
  rw [hv']
  exact ER.ext eI (Ag8 [m,n,k] 3 n2 upT O O h (by omega)) e⟩
theorem Au3 (l:List Int) (h:∀ n∈l,-9223372036854775808<=n/\n<=9223372036854775807):vk 2 (intsV l):=BC4 h
theorem AI7:Ent Tryz.prog 28:=A0 Tryz.func28 (by kernel_rfl) rfl
set_option maxRecDepth 8000 in
theorem AI2 {w:World}:CR Tryz.prog 28 #[] w (Is (.bool true)):=by
 have hk6:=Au3 [6,0,-6] (by decide)
 have hk1:=Au3 [1,0,-2] (by decide)
 refine enter Tryz.func28 O Tryz.ntmps28 O (.beg (.go O ?_))
 refine .call _ O Z5 O Y9 fun v1 w1 e1 h1=>.bsl _ O O Ah1 fun w2 b2 n2=>?_
 refine .call _ O U1 O (T4 (Ag8 [6,0,-6] 3 n2 upT O O (by decide) (by decide)) (by decide)) fun v3 w3 e3 h3=>?_
 refine .call _ O AI8 O (AI3 (o:=[]) upT (ER.ext eN h1 (n2.1.trans e3)) RL.nil h3 hk6 (by decide) (by decide)) fun v4 w4 e4 h4=>?_
 obtain ⟨va,ve,rfl,ha,he⟩:=h4
 replace he:ve=.int .i64 0:=by rw [he,Ah8]
 subst he
 rw [if_pos Ah8,an3_tab] at ha
 have x4:=((e1.trans n2.1).trans e3).trans e4
 refine .go O ?_
 refine .call _ O Z5 O Y9 fun v5 w5 e5 h5=>.bsl _ O O Ah1 fun w6 b6 n6=>?_
 refine .call _ O U1 O (T4 (Ag8 [6,0,-6] 3 n6 upT O O (by decide) (by decide)) (by decide)) fun v7 w7 e7 h7=>?_
 refine .call _ O AD2 O (AC3 (o:=[]) upT (ER.ext eN h5 (n6.1.trans e7)) RL.nil h7 hk6 (by decide) (by decide)) fun v8 w8 e8 h8=>?_
 obtain ⟨vf,ve,rfl,hf,he⟩:=h8
 replace he:ve=.int .i64 0:=by rw [he,Ah8]
 subst he
 rw [if_pos Ah8,fl3_tab] at hf
 have y8:=((e5.trans n6.1).trans e7).trans e8
 refine .go O ?_
 refine .call _ O Z5 O Y9 fun v9 w9 e9 h9=>.bsl _ O O Ah1 fun w10 b10 n10=>?_
 refine .call _ O U1 O (T4 (Ag8 [1,0,-2] 3 n10 upT O O (by decide) (by decide)) (by decide)) fun v11 w11 e11 h11=>?_
 refine .call _ O AD2 O (AC3 (o:=[]) upT (ER.ext eN h9 (n10.1.trans e11)) RL.nil h11 hk1 (by decide) (by decide)) fun v12 w12 e12 h12=>?_
 obtain ⟨vg,ve,rfl,hg,he⟩:=h12
 replace he:ve=.int .i64 10:=by rw [he,an3_no]
 subst he
 have y12:=((e9.trans n10.1).trans e11).trans e12
 refine .go O ?_
 refine .call _ O Ab1 O (AY5 (S:=fun _=>True) upT (by decide) (by decide)) fun vq w13 e13 hq=>.alloc O D2 fun w14 b7 n14=>?_
 obtain ⟨e14,k7,hb7,hs14⟩:=n14
 refine .storeA (E:=eQ) (S:=fun k=>k<w13.heap.size) ty_Q O O k7 O O (ER.ext eQ (eQ.mono (fun k _ h=>h.2) (ER.lt eQ hq)) e14) (fun h=>by omega) fun w15 k7 u15 hq=>.goC O ?_
 have hqv:=shpA (E:=eQ) O hq
 have hq:eQ.R (fun _=>True) w15 vq _:=eQ.mono (fun _ _ _=>trivial) hq
 have z15:Ext w12 w15:=u15.below (e13.trans e14) (by have:=e13.size;omega)
 have ha:=ER.ext eV ha ((y8.trans y12).trans z15)
 have hf:=ER.ext eV hf (y12.trans z15)
 refine .par follows 22 [.inl _,.inl (.bool true),.inl (.bool true),.inl _,.inl (.bool true),.inl (.bool true),.inl (.bool true),.inl _,.inl (.bool true),.inl (.bool true),.inl (.bool true),.inl _,.inr (eI.at (fun _=>True) [0,-24,-36]),.inr (eV.at (fun _=>True) (intsV [0,-24,-36])),.inl (.bool true),.inl (.bool true),.inl (.bool true),.inl _,.inl vq,.inl vq,.inr (eQ.at (fun _=>True) (qc (Rat.divInt 18 5))),.inr (eV.at (fun _=>True) [qc (Rat.divInt 12 5),qc (Rat.divInt 12 5),qc (Rat.divInt 18 5)])] [[],[(30,0)],[(31,1)],[(32,2)],[(33,3),(32,2)],[(32,2),(34,4)],[(35,5)],[(36,6)],[(37,7),(36,6)],[(36,6),(38,8)],[(39,9)],[(40,10)],[(40,10)],[(42,12),(40,10)],[(41,11),(43,13),(40,10)],[(40,10),(44,14)],[(45,15)],[(46,16)],[(46,16)],[(46,16)],[(46,16)],[(48,18),(49,19),(50,20),(46,16)]] (by kernel_rfl) ⟨
  fun w e=>(v_mv O).ob,
  fun w e=>((AY0 O O).eq (by rfl)).ob,
  fun w e=>(v_mv O).ob,
  fun w e=>(v_mv O).ob,
  fun w e=>((AY0 O O).eq (by rfl)).ob,
  fun w e=>(AL9 O O).ob,
  fun w e=>(v_mv O).ob,
  fun w e=>(v_mv O).ob,
  fun w e=>((AY0 O O).eq (by rfl)).ob,
  fun w e=>(AL9 O O).ob,
  fun w e=>(v_mv O).ob,
  fun w e=>(v_mv O).ob,
  fun w e=>ob_L3 (by decide),
  fun w e x12 hx12=>(A4 _ U1 O (T4 hx12 (by decide))).ob (A8 _ _ _),
  fun w e x13 hx13=>(A4 _ Ab0 O (isV_t (ER.ext eV ha e) hx13 O)).obIs,
  fun w e=>(AL9 O O).ob,
  fun w e=>(v_mv O).ob,
  fun w e=>(v_mv O).ob,
  fun w e=>((C3 ty_Q O (k7.ext e) (eQ.csz hq)).eq hqv.symm).ob,
  fun w e=>((C3 ty_Q O (k7.ext e) (eQ.csz hq)).eq hqv.symm).ob,
  fun w e=>(A4 _ Ab1 O (AY5 (S:=fun _=>True) upT (by decide) (by decide))).ob (A8 _ _ _),
  fun w e x20 hx20=>ob_V3 (ER.ext eQ hq e) (ER.ext eQ hq e) hx20,trivial⟩ ?_
 intro w16 e16 _ _ _ _ _ _ x21 hx21
 refine .go O (.call _ O Ab0 O (isV_t (ER.ext eV hf e16) hx21 O) fun v17 w17 e17 h17=>?_)
 subst h17
 exact .goE O (.plain [_] Tryz.results28 ⟨rfl,trivial⟩ ⟨((((x4.trans y8).trans y12).trans z15).trans e16).trans e17,rfl⟩)
end Go.Proofs.YtggegpiffjbngaaGreat
namespace Go.Kx
open Go Go.RowKit
section
variable {n:Nw}
def Nw.mem1 (n:Nw) (i r:Nat):List Nat:=(List.range i).filter fun c=>decide (c≠r/\n.root c=r)
theorem Nw.mem1_succ (n:Nw) (i r:Nat):n.mem1 (i+1) r=n.mem1 i r++if i≠r/\n.root i=r then [i] else []:=by
 unfold Nw.mem1
 rw [List.range_succ,List.filter_append]
 by_cases h:i≠r/\n.root i=r
 ·simp [h]
 ·rw [if_neg h];simp [h]
theorem Nw.mem_first {r:Nat} (h:n.root r=r):∀ d,n.mem (r+1+d) r=r::n.mem1 (r+1+d) r
 | 0=>by
  have e1:n.mem r r=[]:=by
   unfold Nw.mem
   rw [List.filter_eq_nil_iff]
   intro b hb
   have:=Nw.root_le (n:=n) b
   have:=List.mem_range.1 hb
   simp;omega
  have e2:n.mem1 r r=[]:=by
   unfold Nw.mem1
   rw [List.filter_eq_nil_iff]
   intro b hb
   have:=Nw.root_le (n:=n) b
   have:=List.mem_range.1 hb
   simp;omega
  rw [Nat.add_zero,Nw.mem_succ,Nw.mem1_succ,e1,e2,if_pos h,if_neg (by simp)];rfl
 | d+1=>by
  rw [show r+1+(d+1)=(r+1+d)+1 by omega,Nw.mem_succ,Nw.mem1_succ,Nw.mem_first h d]
  by_cases h':n.root (r+1+d)=r
  ·rw [if_pos h',if_pos ⟨by omega,h'⟩];rfl
  ·rw [if_neg h',if_neg fun h''=>h' h''.2];rfl
theorem Nw.mem_cons {B r:Nat} (h:n.root r=r) (hr:r<B):n.mem B r=r::n.mem1 B r:=by
 have:=Nw.mem_first (n:=n) h (B-(r+1))
 rwa [show r+1+(B-(r+1))=B by omega] at this
def lsum (x:Nat->Rat) (l:List Nat):Rat:=l.foldl (fun s b=>s+x b) 0
theorem AQ8 (x:Nat->Rat) (l:List Nat) (b:Nat):lsum x (l++[b])=lsum x l+x b:=by unfold lsum;rw [List.foldl_append];rfl
theorem AT7 (x:Nat->Rat) (p:Nat->Prop) [DecidablePred p]:∀ B,lsum x ((List.range B).filter fun c=>decide (p c))=sumN B fun c=>if p c then x c else 0
 | 0=>rfl
 | B+1=>by
  rw [List.range_succ,List.filter_append]
  have ih:=AT7 x p B
  show _=sumN B _+_
  by_cases h:p B
  ·rw [show List.filter (fun c=>decide (p c)) [B]=[B] by simp [h],AQ8,ih]
   dsimp only
   rw [if_pos h]
  ·rw [show List.filter (fun c=>decide (p c)) [B]=[] by simp [h],List.append_nil,ih]
   dsimp only
   rw [if_neg h,Rat.add_zero]
theorem Nw.bl_root (x:Nat->Rat) {r:Nat} (h:n.root r=r):n.bl x r = - lsum x (n.mem1 n.B r):=by
 unfold Nw.bl Nw.mem1
 rw [if_pos h,AT7]
theorem Al5 {x:Nat->Rat} {L:Nat} (hx:∀ b,Rsz (x b) L):∀ (m:Nat) (l:List Nat),l.length=m->Rsz (lsum x l) (1+m*(L+1))
 | 0,l,hl=>by rw [List.length_eq_zero_iff.1 hl];exact Rsz.zero (by omega)
 | m+1,l,hl=>by
  obtain ⟨l',k,rfl⟩:∃ l' k,l=l'++[k]:=⟨l.dropLast,l.getLast (by intro e;rw [e] at hl;cases hl),(List.dropLast_concat_getLast _).symm⟩
  rw [AQ8]
  have h1:=Al5 hx m l' (by simp at hl;exact hl)
  refine (h1.add (hx k)).mono ?_
  rw [Nat.add_mul];omega
end
end Go.Kx
namespace Go.Proofs.YtggegpiffjbngaaGreat
open Go Go.Kx Go.RowKit
open Classical in
noncomputable def blB (n:NtV) (o:List Int) (l:Nat):Bool:=decide (sfE n o l=0)
theorem AV9:Ent Tryz.prog 41:=A0 Tryz.func41 (by kernel_rfl) rfl
set_option maxRecDepth 8000 in
open Classical in
theorem AV3 {S:Nat->Prop} {w:World} {vn vo vx:Value} {n:NtV} {o:List Int} {x:List QV} {L:Nat} (up:Up S w) (hn:eN.R S w vn n) (ho:eI.R S w vo o) (hx:eV.R S w vx x) (hkx:vk L x) (hL1:1<=L) (hL:L<=1000000) :
  CR Tryz.prog 41 #[vn,vo,vx] w (Two (eV.at S (if sfE n o x.length=0 then tab (nwOf n o).B ((nwOf n o).bl (rv x)) else [])) (Is (.bool (blB n o x.length)))):=by
 obtain ⟨s,rfl,hs,hb⟩:=hn
 have hn:eN.R S w (.agg #[.int .i64 n.b,s]) n:=⟨s,rfl,hs,hb⟩
 refine enter Tryz.func41 O Tryz.ntmps41 O (.beg (.go O (.box O O fun w1 b3 n1=>?_)))
 obtain ⟨e1,k3,hb3,hs1⟩:=n1
 refine .go O (.ldA ty_N O O k3 O (.go O ?_))
 refine .call _ O AS2 O (AQ9 (up.ext e1.size) (hn.ext e1) (ho.ext e1)) fun v2 w2 e2 h2=>?_
 obtain ⟨vr,ve,rfl,hr,he⟩:=h2
 replace he:ve=.int .i64 (outE n o):=he
 subst he
 have x2:=e1.trans e2
 refine .go O ?_
 by_cases hE:outE n o=0
 rotate_left
 ·have hb:sfE n o x.length=outE n o:=by unfold sfE;rw [if_pos hE]
  refine .neqT O O O hE (.goE O ?_)
  refine .plain [_,_] Tryz.results41 ⟨rfl,rfl,trivial⟩ ⟨x2,_,_,rfl,?_,by unfold blB;rw [decide_eq_false fun h=>hE (hb.symm.trans h)]⟩
  rw [if_neg (by rw [hb];exact hE)];exact RL.nil
 have ok:=L9 hE
 rw [if_pos hE] at hr
 have hB6:=ok.b6
 have hB1:=ok.b1
 have hnb:=ok.b
 have k3:=k3.ext e2
 rw [hnb] at k3
 obtain ⟨_,_,_,_,hxl⟩:=RL.len hx
 refine .neqF O O O hE (.go O (.lenR un_V O O (hx.ext x2) (.go O (.fa I3 O O (.go O (.ld A7 O O k3 O (.go O ?_)))))))
 by_cases hlen:(x.length:Int)<=n.b
 rotate_left
 ·have hb:sfE n o x.length=5:=by unfold sfE;rw [if_neg (by simpa using hE),if_neg hlen]
  refine .gtrT O O O (by omega) (.goE O ?_)
  refine .plain [_,_] Tryz.results41 ⟨rfl,rfl,trivial⟩ ⟨x2,_,_,rfl,?_,by unfold blB;rw [decide_eq_false fun h=>by rw [hb] at h;exact absurd h (by decide)]⟩
  rw [if_neg (by rw [hb];decide)];exact RL.nil
 have hno:sfE n o x.length=0:=by unfold sfE;rw [if_neg (by simpa using hE),if_pos hlen]
 rw [if_pos hno]
 refine .gtrF O O O (by omega) (.go O (.fa I3 O O (.ld A7 O O k3 O ?_)))
 refine .call _ O O5 O (S5 (up.ext x2.size) (hx.ext x2) hkx hL1 (by omega)) fun v3 w3 e3 h3=>?_
 obtain ⟨h3,_⟩ | ⟨_,g,N3,hN3,hg,rfl,fb⟩:=h3
 ·have h3:((nwOf n o).B:Int)<1:=h3
  omega
 have hNB:N3=(nwOf n o).B:=by
  have hN3:(N3:Int)=min ((nwOf n o).B:Int) 65536:=hN3
  omega
 subst hNB
 have hs2:=x2.size
 have hs3:=e3.size
 have hgl:=fb.lt
 have hrT:∀ {W:World},Ext w2 W->eII.R S W vr (((nwOf n o).memb (nwOf n o).B).map pInts):=fun e=>ER.ext eII hr e
 generalize hBB:(nwOf n o).B=B at hB6 hB1 hnb k3 fb hrT
 have hcl:(nwOf n o).cnt B<=B:=(nwOf n o).cnt_le B
 have hml:(((nwOf n o).memb B).map pInts).length=(nwOf n o).cnt B:=by rw [List.length_map,Nw.memb_len]
 have hrf:(nwOf n o).refs=(nwOf n o).refsTo B:=by rw [<-hBB];rfl
 generalize hZ:(fun i b=>if b∈((nwOf n o).refsTo B).take i then (nwOf n o).bl (rv x) b else rv x b:Nat->Nat->Rat)=Z
 refine .goC O (.lp (α:=Nat) [3,8,10] O (fun i=>[(11,.int .i64 (i:Nat))]) (fun i W=>Ext w2 W/\i<=(nwOf n o).cnt B/\FB eQ 54 S W g (tab B (Z i))) (fun i=>(nwOf n o).cnt B-i) 0 (lc1 O) ⟨e3,Nat.zero_le _,by rw [<-hZ];simpa using fb⟩ ?_)
 clear fb
 rintro i W ⟨hW,hi,fb⟩
 have hWs:=hW.size
 have hgW:=fb.lt
 refine .go O (.lenR K6 O O (hrT hW) ?_)
 rw [hml]
 rcases Nat.lt_or_ge i ((nwOf n o).cnt B) with hlt | hge
 rotate_left
 ·have:i=(nwOf n o).cnt B:=by omega
  subst this
  have hfin:tab B (Z ((nwOf n o).cnt B))=tab B ((nwOf n o).bl (rv x)):=E4 fun b hb=>by
   rw [<-hZ]
   dsimp only
   rw [List.take_of_length_le (by rw [Nw.refsTo_len];exact Nat.le_refl _)]
   by_cases h:b∈(nwOf n o).refsTo B
   ·rw [if_pos h]
   ·rw [if_neg h]
    unfold Nw.bl
    rw [if_neg fun h'=>h (Nw.refsTo_mem.2 ⟨hb,h'⟩)]
  rw [hfin] at fb
  have hR:eV.R S W (slB B g) (tab B ((nwOf n o).bl (rv x))):=by
   have:=fb.toR (hsz:=by decide) (c:=B) (up g (by omega)) (by rw [A1];exact Nat.le_refl _) (by rw [A1];omega)
   rw [A1] at this
   exact this
  refine .lssF O O O (by omega) (.goC O ?_)
  refine .par follows 7 [.inl (slB B g),.inl (slB B g),.inl (.int .i64 (B:Nat)),.inl (.pointer (some ⟨b3,0,none⟩)),.inl (.int .i64 (B:Nat)),.inl (.bool true),.inl _] [[],[],[(148,1)],[],[(150,3)],[(149,2),(151,4)],[(147,0)]] (by kernel_rfl) ⟨
   fun w e=>(v_mv O).ob,
   fun w e=>(v_mv O).ob,
   fun w e=>(BC9 un_V O).ob,
   fun w e=>(v_fa I3 O).ob,
   fun w e=>(v_ld A7 O ((k3.ext hW).ext e) O).ob,
   fun w e=>((AY0 O O).eq (by simp)).ob,
   fun w e=>(v_as O).ob,trivial⟩ ?_
  intro W9 e9
  exact .goE O (.plain [_,_] Tryz.results41 ⟨rfl,rfl,trivial⟩ ⟨x2.trans (hW.trans e9),_,_,rfl,ER.ext eV hR e9,by unfold blB;rw [decide_eq_true hno]⟩)
 have hrB0:((nwOf n o).refsTo B).getD i 0∈(nwOf n o).refsTo B:=I5 (by rw [Nw.refsTo_len];exact hlt)
 obtain ⟨hrB,hrr⟩:=Nw.refsTo_mem.1 hrB0
 have hrow:(((nwOf n o).memb B).map pInts)[i]?=some (pInts ((nwOf n o).mem B (((nwOf n o).refsTo B).getD i 0))):=by rw [List.getElem?_map,Nw.memb_get hlt];rfl
 have htk:((nwOf n o).refsTo B).take (i+1)=((nwOf n o).refsTo B).take i++[((nwOf n o).refsTo B).getD i 0]:=by rw [List.take_add_one,A6 (z:=0) (by rw [Nw.refsTo_len];exact hlt)];rfl
 generalize hr0:((nwOf n o).refsTo B).getD i 0=r at hrB hrr hrow htk
 have hmc:=Nw.mem_cons (n:=nwOf n o) hrr hrB
 have hmB:∀ b∈(nwOf n o).mem B r,b<B:=fun b hb=>List.mem_range.1 (List.mem_filter.1 hb).1
 have hm6:((nwOf n o).mem B r).length<=6:=by
  have:=List.length_filter_le (fun b=>decide ((nwOf n o).root b=r)) (List.range B)
  rw [List.length_range] at this
  exact Nat.le_trans this hB6
 have hroot:∀ b∈(nwOf n o).mem1 B r,b≠r/\(nwOf n o).root b=r/\b<B:=fun b hb=>by
  obtain ⟨h1,h2⟩:=List.mem_filter.1 hb
  have:=of_decide_eq_true h2
  exact ⟨this.1,this.2,List.mem_range.1 h1⟩
 generalize hm:(nwOf n o).mem B r=m at hrow hmc hmB hm6
 have hml1:m.length=((nwOf n o).mem1 B r).length+1:=by rw [hmc];rfl
 have hm0:(pInts m)[0]?=some ((r:Nat):Int):=by rw [hmc];rfl
 have hpl:(pInts m).length=m.length:=by simp
 have hget:∀ k,k<m.length->(pInts m)[k]?=some ((m.getD k 0:Nat):Int):=fun k hk=>by
  unfold pInts
  rw [List.getElem?_map,A6 (z:=0) hk];rfl
 have hgB:∀ k,k<m.length->m.getD k 0<B:=fun k hk=>hmB _ (I5 hk)
 refine .lssT O O O (by omega) (.goC O (.cut (α:=Nat) 1 [3,8,10,11] O (fun k=>[(12,.int .i64 (k:Nat))]) (fun k W'=>W'=W) O ?_ ?_))
 rotate_left
 ·refine .lp (α:=Nat) [3,8,10,11] O (fun k=>[(12,.int .i64 (k:Nat))]) (fun k W'=>W'=W/\1<=k/\k<=m.length) (fun k=>m.length-k) 1 (lc1 O) ⟨rfl,Nat.le_refl _,by omega⟩ ?_
  rintro k W' ⟨hWe,hk1,hk⟩
  subst hWe
  refine .go O (.ixN (i:=i) K6 ty_I O O (hrT hW) O hrow fun p hp=>.ldE (E:=eI) ty_I O O hp fun e he=>.lenR un_I O O he ?_)
  rw [hpl]
  rcases Nat.lt_or_ge k m.length with hkl | hge
  rotate_left
  ·exact .lssF O O O (by omega) (.goN O (.mk k O (lc1 O) O))
  have hkB:=hgB k hkl
  refine .lssT O O O (by omega) (.go O (.ixN (i:=i) K6 ty_I O O (hrT hW) O hrow fun p1 hp1=>.ldE (E:=eI) ty_I O O hp1 fun f1 hf1=>.go O (.ixN (i:=k) un_I A9 O O hf1 O (hget k hkl) fun q1 hq1=>.ldE (E:=eInt .i64) A9 O O hq1 fun y1 hy1=>?_)))
  obtain ⟨rfl,_⟩:=hy1
  refine .lssF O O O (by omega) (.go O (.ixN (i:=i) K6 ty_I O O (hrT hW) O hrow fun p2 hp2=>.go O (.ldE (E:=eI) ty_I O O hp2 fun f2 hf2=>.go O (.ixN (i:=k) un_I A9 O O hf2 O (hget k hkl) fun q2 hq2=>.go O (.ldE (E:=eInt .i64) A9 O O hq2 fun y2 hy2=>.go O (.len un_V O O (.go O ?_)))))))
  obtain ⟨rfl,_⟩:=hy2
  refine .geqF O O O (by omega) (.go O (.ixN (i:=i) K6 ty_I O O (hrT hW) O hrow fun p3 hp3=>.go O (.ldE (E:=eI) ty_I O O hp3 fun f3 hf3=>.go O (.ixN (i:=0) un_I A9 O O hf3 O hm0 fun q3 hq3=>.go O (.ldE (E:=eInt .i64) A9 O O hq3 fun y3 hy3=>.go O ?_)))))
  obtain ⟨rfl,_⟩:=hy3
  refine .lssF O O O (by omega) (.go O (.ixN (i:=i) K6 ty_I O O (hrT hW) O hrow fun p4 hp4=>.go O (.ldE (E:=eI) ty_I O O hp4 fun f4 hf4=>.go O (.ixN (i:=0) un_I A9 O O hf4 O hm0 fun q4 hq4=>.go O (.ldE (E:=eInt .i64) A9 O O hq4 fun y4 hy4=>.go O (.len un_V O O (.go O ?_)))))))
  obtain ⟨rfl,_⟩:=hy4
  exact .geqF O O O (by omega) (.go O (.inc O O O (by omega) (.goN O (.mk (k+1) O (lc1 O) ⟨⟨rfl,by omega,hkl⟩,by show m.length-(k+1)<m.length-k;omega⟩))))
 rintro k0 W' hWe
 subst hWe
 refine .go O (.ixN (i:=i) K6 ty_I O O (hrT hW) O hrow fun p hp=>.ldE (E:=eI) ty_I O O hp fun e he=>.lenR un_I O O he ?_)
 rw [hpl]
 refine .eqlF O O O (by omega) (.go O (.ixN (i:=i) K6 ty_I O O (hrT hW) O hrow fun p3 hp3=>.go O (.ldE (E:=eI) ty_I O O hp3 fun f3 hf3=>.go O (.ixN (i:=0) un_I A9 O O hf3 O hm0 fun q3 hq3=>.go O (.ldE (E:=eInt .i64) A9 O O hq3 fun y3 hy3=>.go O ?_)))))
 obtain ⟨rfl,_⟩:=hy3
 refine .lssF O O O (by omega) (.go O (.ixN (i:=i) K6 ty_I O O (hrT hW) O hrow fun p4 hp4=>.go O (.ldE (E:=eI) ty_I O O hp4 fun f4 hf4=>.go O (.ixN (i:=0) un_I A9 O O hf4 O hm0 fun q4 hq4=>.go O (.ldE (E:=eInt .i64) A9 O O hq4 fun y4 hy4=>.go O (.len un_V O O (.go O ?_)))))))
 obtain ⟨rfl,_⟩:=hy4
 refine .geqF O O O (by omega) (.go O (.bld _ O O Aa6 (.alloc O D2 fun W1 b13 n13=>?_)))
 obtain ⟨g13,k13,hb13,hs13⟩:=n13
 have fb0:FB eQ 54 (fun k=>S k/\k≠b13) W1 g (tab B (Z i)):=(fb.mono (S':=fun k=>S k/\k≠b13) fun k hk h=>⟨h,by omega⟩).ext g13
 generalize hT:(fun k=>(S k/\k≠b13)/\k≠g)=T at fb0
 have hT':∀ k,T k<->(S k/\k≠b13)/\k≠g:=fun k=>by rw [<-hT]
 refine .storeA (E:=eQ) (S:=T) ty_Q O O k13 O O zq_R (fun h=>((hT' _).1 h).1.2 O) fun W2 k13 u13 hy0=>?_
 have hs2':=u13.size
 have fb2:=fb0.upd u13 (by omega) fun h=>h.2 rfl
 have hW2:Ext w2 W2:=u13.below (hW.trans g13) (by omega)
 have hxs:∀ b,Rsz (rv x b) L:=fun b=>hkx.rsz hL1 b
 generalize hpp:(fun k=>lsum (rv x) (((nwOf n o).mem1 B r).take (k-1)))=ps
 have hps:∀ k,Rsz (ps k) (1+6*(L+1)):=fun k=>by
  rw [<-hpp]
  refine (Al5 hxs _ _ O).mono ?_
  rw [List.length_take]
  have:=Nat.mul_le_mul_right (L+1) (show min (k-1) ((nwOf n o).mem1 B r).length<=6 by omega)
  omega
 have hZr:∀ b,b<B->(nwOf n o).root b=r->b≠r->Z i b=rv x b:=fun b hb h1 h2=>by
  rw [<-hZ]
  dsimp only
  rw [if_neg fun h=>h2 ?_]
  have:=(Nw.refsTo_mem.1 (List.mem_of_mem_take h)).2
  exact this.symm.trans h1
 have hp1:ps 1=0:=by rw [<-hpp];rfl
 refine .goC O (.cut (α:=Value×Nat) 1 [3,8,10,11,13] O (fun y=>[(14,.int .i64 (y.2:Nat))]) (fun y W'=>Ext w2 W'/\Blk W' b13 54 y.1.cells/\eQ.R T W' y.1 (qc (ps m.length))/\FB eQ 54 (fun k=>S k/\k≠b13) W' g (tab B (Z i))) O ?_ ?_)
 rotate_left
 ·refine .lp (α:=Nat×Value) [3,8,10,11,13] O (fun y=>[(14,.int .i64 (y.1:Nat))]) (fun y W'=>Ext w2 W'/\1<=y.1/\y.1<=m.length/\Blk W' b13 54 y.2.cells/\eQ.R T W' y.2 (qc (ps y.1))/\FB eQ 54 (fun k=>S k/\k≠b13) W' g (tab B (Z i))) (fun y=>m.length-y.1) (1,zq) (lc1 O) ⟨hW2,Nat.le_refl _,by show 1<=m.length;omega,k13,by show eQ.R T W2 zq (qc (ps 1));rw [hp1,S8];exact hy0,fb2⟩ ?_
  clear fb0 fb2 hW2 k13 hy0 hs2' u13 hs13 g13
  rintro ⟨k,y⟩ W3 ⟨hW3,hk1,hk,k13,hy,fb3⟩
  replace hW3:Ext w2 W3:=hW3
  replace hk1:1<=k:=hk1
  replace hk:k<=m.length:=hk
  replace k13:Blk W3 b13 54 y.cells:=k13
  replace hy:eQ.R T W3 y (qc (ps k)):=hy
  replace fb3:FB eQ 54 (fun k=>S k/\k≠b13) W3 g (tab B (Z i)):=fb3
  have hyv:=shpA (E:=eQ) O hy
  have h13l:=k13.lt
  have hgl3:=fb3.lt
  refine .go O (.ixN (i:=i) K6 ty_I O O (hrT hW3) O hrow fun p hp=>.ldE (E:=eI) ty_I O O hp fun e he=>.lenR un_I O O he ?_)
  rw [hpl]
  rcases Nat.lt_or_ge k m.length with hkl | hge
  rotate_left
  ·have:k=m.length:=by omega
   subst this
   exact .lssF O O O (by omega) (.goN O (.mk (y,m.length) O (lc1 O) ⟨hW3,k13,hy,fb3⟩))
  have hkB:=hgB k hkl
  have hmk:m.getD k 0=((nwOf n o).mem1 B r).getD (k-1) 0:=by
   rw [hmc]
   obtain ⟨k',rfl⟩:∃ k',k=k'+1:=⟨k-1,by omega⟩
   rfl
  obtain ⟨hk2,hk3,_⟩:=hroot _ (I5 (show k-1<((nwOf n o).mem1 B r).length by omega))
  rw [<-hmk] at hk2 hk3
  have hzk:=hZr _ hkB hk3 hk2
  have hpk:ps (k+1)=ps k+rv x (m.getD k 0):=by
   rw [<-hpp]
   dsimp only
   rw [show k+1-1=(k-1)+1 by omega,List.take_add_one,A6 (z:=0) (show k-1<((nwOf n o).mem1 B r).length by omega),<-hmk]
   exact AQ8 _ _ _
  have upT':∀ {W':World},W3.heap.size<=W'.heap.size->Up T W':=fun h j hj=>(hT' j).2 ⟨⟨up j (by have:=hW3.size;omega),by omega⟩,by omega⟩
  refine .lssT O O O (by omega) (.goC O ?_)
  refine .par follows 11 [.inl y,.inl (slB B g),.inl vr,.inl (.int .i64 (i:Nat)),.inr (Ptr eI S (pInts m)),.inr (eI.at S (pInts m)),.inl (.int .i64 (k:Nat)),.inr (Ptr (eInt .i64) S ((m.getD k 0:Nat):Int)),.inl (.int .i64 (m.getD k 0:Nat)),.inl (.pointer (some ⟨g,0+m.getD k 0*4,none⟩)),.inr (eQ.at T (qc (rv x (m.getD k 0))))] [[],[],[],[],[(127,2),(128,3)],[(129,4)],[],[(130,5),(131,6)],[(132,7)],[(126,1),(133,8)],[(134,9)]] (by kernel_rfl) ⟨
   fun w e=>((C3 ty_Q O (k13.ext e) (eQ.csz hy)).eq hyv.symm).ob,
   fun w e=>(v_mv O).ob,
   fun w e=>(v_mv O).ob,
   fun w e=>(v_mv O).ob,
   fun w e=>C6 (i:=i) K6 ty_I O (ER.ext eII (hrT hW3) e) O hrow,
   fun w e x4 hx4=>N9 ty_I O hx4,
   fun w e=>(v_mv O).ob,
   fun w e x5 hx5=>C6 (i:=k) un_I A9 O hx5 O (hget k hkl),
   fun w e x7 hx7=>N8 A9 O hx7,
   fun w e=>(M6 (i:=m.getD k 0) un_V ty_Q O O hkB).ob,
   fun w e=>(AK0 (E:=eQ) (i:=m.getD k 0) (by decide) ty_Q O (Nat.zero_add _) (fb3.ext e) (by rw [L0 hkB,hzk])).mono fun v' w' h=>by rw [<-hT];exact h,trivial⟩ ?_
  intro W4' e4' _ _ _ _ _ _ x10 hx10
  have hadd:=U8 (L:=1+6*(L+1)) (upT' e4'.size) (ER.ext eQ hy e4') hx10 (hps _).toOk ((hxs _).mono (by omega)).toOk (by omega) (by omega)
  rw [C9,C9,<-hpk] at hadd
  refine .call _ O V5 O hadd fun y4 W4 e4 hy4=>?_
  have e4:=e4'.trans e4
  have hs4:=e4.size
  refine .storeA (E:=eQ) (S:=T) ty_Q O O (k13.ext e4) O (eQ.csz hy) hy4 (fun h=>((hT' _).1 h).1.2 O) fun W5 k13 u5 hy5=>?_
  exact .go O (.inc O O O (by omega) (.goN O (.mk (k+1,y4) O (lc1 O) ⟨⟨u5.below (hW3.trans e4) (by omega),by show 1<=k+1;omega,hkl,k13,hy5,(fb3.ext e4).upd u5 (by omega) fun h=>h.2 rfl⟩,by show m.length-(k+1)<m.length-k;omega⟩)))
 clear fb0 fb2 hW2 k13 hy0 hs2' u13
 rintro ⟨y,k1⟩ W3 ⟨hW3,k13,hy,fb3⟩
 replace hW3:Ext w2 W3:=hW3
 replace k13:Blk W3 b13 54 y.cells:=k13
 replace hy:eQ.R T W3 y (qc (ps m.length)):=hy
 replace fb3:FB eQ 54 (fun k=>S k/\k≠b13) W3 g (tab B (Z i)):=fb3
 have hyv:=shpA (E:=eQ) O hy
 have h13l:=k13.lt
 have hgl3:=fb3.lt
 have hblr : - ps m.length=(nwOf n o).bl (rv x) r:=by
  rw [Nw.bl_root _ hrr,hBB,<-hpp]
  dsimp only
  rw [List.take_of_length_le (by omega)]
 have upT':∀ {W':World},W3.heap.size<=W'.heap.size->Up T W':=fun h j hj=>(hT' j).2 ⟨⟨up j (by have:=hW3.size;omega),by omega⟩,by omega⟩
 refine .goC O ?_
 refine .par follows 9 [.inl (slB B g),.inl vr,.inl (.int .i64 (i:Nat)),.inr (Ptr eI S (pInts m)),.inr (eI.at S (pInts m)),.inr (Ptr (eInt .i64) S ((r:Nat):Int)),.inl (.int .i64 (r:Nat)),.inl y,.inr (eQ.at T (qc ((nwOf n o).bl (rv x) r)))] [[],[],[],[(138,1),(139,2)],[(140,3)],[(141,4)],[(142,5)],[],[(144,7)]] (by kernel_rfl) ⟨
  fun w e=>(v_mv O).ob,
  fun w e=>(v_mv O).ob,
  fun w e=>(v_mv O).ob,
  fun w e=>C6 (i:=i) K6 ty_I O (ER.ext eII (hrT hW3) e) O hrow,
  fun w e x3 hx3=>N9 ty_I O hx3,
  fun w e x4 hx4=>C6 (i:=0) un_I A9 O hx4 O hm0,
  fun w e x5 hx5=>N8 A9 O hx5,
  fun w e=>((C3 ty_Q O (k13.ext e) (eQ.csz hy)).eq hyv.symm).ob,
  fun w e=>by
   have:=AK6 (L:=1+6*(L+1)) (upT' e.size) (ER.ext eQ hy e) (AH8 (hps _)) (by omega) (by omega)
   rw [C9,hblr] at this
   exact (A4 _ AL4 O this).ob (A8 _ _ _),trivial⟩ ?_
 intro W4 e4 _ _ _ _ _ _ y4 hy4
 have hs4:=e4.size
 have fb4:FB eQ 54 S W4 g (tab B (Z i)):=(fb3.ext e4).mono fun k _ h=>h.1
 refine .ixB (i:=r) un_V ty_Q O O O hrB (.storeF (E:=eQ) (i:=r) (by decide) ty_Q O O fb4 O (by rw [A1];exact hrB) (Nat.zero_add _) (eQ.mono (fun k _ h=>⟨((hT' k).1 h).1.1,((hT' k).1 h).2⟩) hy4) fun W5 f5 u5=>?_)
 have hstep:(tab B (Z i)).set r (qc ((nwOf n o).bl (rv x) r))=tab B (Z (i+1)):=by
  rw [X1]
  refine E4 fun b _=>?_
  rw [<-hZ]
  dsimp only
  rw [htk]
  by_cases e:b=r
  ·rw [if_pos e,if_pos (List.mem_append.2 (.inr (List.mem_singleton.2 e))),e]
  ·rw [if_neg e]
   by_cases h:b∈((nwOf n o).refsTo B).take i
   ·rw [if_pos h,if_pos (List.mem_append.2 (.inl h))]
   ·rw [if_neg h,if_neg fun h'=>(List.mem_append.1 h').elim h fun h'=>e (List.mem_singleton.1 h')]
 rw [hstep] at f5
 exact .go O (.inc O O O (by omega) (.goN O (.mk (i+1) O (lc1 O) ⟨⟨u5.below (hW3.trans e4) (by omega),hlt,f5⟩,by show (nwOf n o).cnt B-(i+1)<(nwOf n o).cnt B-i;omega⟩)))
end Go.Proofs.YtggegpiffjbngaaGreat
namespace Go.Kx
open Go Go.RowKit
theorem Leave.tt {P:Program} {fn:Func} {N:Nat} {σ:Env} {w W:World} {r:Nat} (hr:fn.results=#[.tmp r]) (hl:look σ r=some (.bool true)) (h:Ext w W):Leave P fn N (fun v w'=>Ext w w'/\Is (.bool true) v w') σ [] W:=.plain [_] hr ⟨hl,trivial⟩ ⟨h,rfl⟩
end Go.Kx
namespace Go.Proofs.YtggegpiffjbngaaGreat
open Go Go.Kx Go.RowKit
theorem bl_vk {n:NtV} {o:List Int} (ok:nwOk n o) {x:List QV} (h:vk 4 x):vk 40 (tab (nwOf n o).B ((nwOf n o).bl (rv x))):=Y6 fun b _=>by
 have hx:∀ b,Rsz (rv x b) 4:=fun b=>h.rsz (by decide) b
 unfold Nw.bl
 split
 ·refine ((AM4 (L:=4) fun c _=>?_).mono ?_).neg
  ·split
   ·exact hx c
   ·exact Rsz.zero (by decide)
  ·have:=ok.b6;omega
 ·exact (hx b).mono (by decide)
theorem bl_bal {n:NtV} {o:List Int} {x:Nat->Rat}:(nwOf n o).bal (rv (tab (nwOf n o).B ((nwOf n o).bl x))) :=
 (Nw.bal_congr fun b hb=>by rw [N2,if_pos hb]).2 (Nw.bl_bal x)
theorem bl_an {n:NtV} {o:List Int} {x:List QV} (hO:outE n o=0):anE n o (tab (nwOf n o).B ((nwOf n o).bl (rv x)))=0 :=
 BJ1 hO (by have:=(L9 hO).b;rw [A1];omega) bl_bal
theorem fl_vk {n:NtV} {o:List Int} (ok:nwOk n o) {x:List QV} {L:Nat} (h:vk L x) (hL1:1<=L) (hL:L<=9000):vk 1200000 (tab n.ls.length ((nwOf n o).fl ((nwOf n o).an (rv x)))):=Y6 fun k _ =>
 (fl_rsz ok (At0 ok hL1 (fun b=>h.rsz hL1 b)) k).mono (by omega)
theorem trI_get {M k:Nat} {s:Nat->Int} (h:k<M):(trI M s)[k]?=some (s k):=by unfold trI;rw [List.getElem?_map,List.getElem?_range h];rfl
theorem cyc_sum {n:NtV} {o:List Int} (ok:nwOk n o) {s:Nat->Int} (h1:∀ j,j<n.ls.length->(nwOf n o).g j=0->s j=0) (h2:∀ θ,(nwOf n o).pot s θ=0) (θ:Nat->Rat):sumN n.ls.length (fun j=>((s j*(n.ls.getD j ln0).x:Int):Rat)*(nwOf n o).fl θ j)=0:=by
 rw [<-h2 θ]
 show _=sumN n.ls.length _
 refine A2 fun j hj=>?_
 unfold Nw.fl
 by_cases hg:(nwOf n o).g j=0
 ·rw [h1 j hj hg,hg,Int.zero_mul,show ((0:Int):Rat)=0 from rfl];grind
 ·have hX:(((n.ls.getD j ln0).x:Int):Rat)*(nwOf n o).g j=1:=by
   have e:(nwOf n o).g j=if j∈oN o then (0:Rat) else ((n.ls.getD j ln0).x:Rat)⁻¹:=rfl
   rw [e] at hg ⊢
   by_cases ho:j∈oN o
   ·rw [if_pos ho] at hg;exact absurd O hg
   ·rw [if_neg ho]
    have hx:=ok.x j hj
    refine Rat.mul_inv_cancel _ fun h=>?_
    have:=Rat.intCast_inj.1 (h.trans Rat.intCast_zero.symm)
    omega
  rw [Rat.intCast_mul]
  generalize (((n.ls.getD j ln0).x:Int):Rat)=X at hX
  generalize (nwOf n o).g j=g at hX
  generalize θ ((nwOf n o).F j)-θ ((nwOf n o).T j)=d
  generalize ((s j:Int):Rat)=z
  have:z*X*(g*d)=z*(X*g)*d:=by grind
  rw [this,hX];grind
set_option maxRecDepth 8000 in
theorem AK2 {w:World} {vn vo vx:Value} {n:NtV} {o:List Int} {x:List QV} (hn:eN.R (fun _=>True) w vn n) (ho:eI.R (fun _=>True) w vo o) (hx:eV.R (fun _=>True) w vx x):CR Tryz.prog 7 #[vn,vo,vx] w (Is (.bool true)):=by
 obtain ⟨s,rfl,hs,hb⟩:=hn
 have hn:eN.R (fun _=>True) w (.agg #[.int .i64 n.b,s]) n:=⟨s,rfl,hs,hb⟩
 obtain ⟨ax,cx,hvx,_,hxl⟩:=RL.len hx
 refine enter Tryz.func7 O Tryz.ntmps7 O (.beg (.go O (.box O O fun w1 b3 n1=>?_)))
 obtain ⟨e1,k3,hb3,hs1⟩:=n1
 refine .go O (.ldA ty_N O O k3 O (.go O (.bsl _ O O (by rw [hvx];exact BI8) fun w2 b17 n2=>?_)))
 have hl:eM.R (fun _=>True) w2 (.slice (some ⟨b17,0,none⟩) 1 1) [x]:=BH9 [vx] [x] n2 upT (by rw [hvx]) O (by decide) (Els.snoc Els.nil (ER.ext eV hx e1))
 have x2:=e1.trans n2.1
 refine .call _ O Ai2 O (Ag2 (hn.ext x2) (ho.ext x2) hl) fun v3 w3 e3 h3=>?_
 obtain ⟨bl,rfl,hlong⟩:=h3
 have x3:=x2.trans e3
 clear hl
 cases bl with
 | true =>
  refine .go O (.call _ O AI7 O AI2 fun v4 w4 e4 h4=>?_)
  subst h4
  exact .goE O (.plain [_] Tryz.results7 ⟨rfl,trivial⟩ ⟨x3.trans e4,rfl⟩)
 | false =>
 refine .go O (.call _ O AI7 O AI2 fun v4 w4 e4 h4=>?_)
 subst h4
 have x4:=x3.trans e4
 have k3:=k3.ext ((n2.1.trans e3).trans e4)
 have hk:vk 4 x:=(hlong O x (by simp)).vk hx
 have hx20:x.length<=20:=(hlong O x (by simp)).1
 refine .go O (.ldA ty_N O O k3 O (.go O ?_))
 refine .call _ O AV9 O (AV3 upT (hn.ext x4) (ho.ext x4) (ER.ext eV hx x4) hk (by decide) (by decide)) fun v5 w5 e5 h5=>?_
 obtain ⟨vi,vb,rfl,hi,rfl⟩:=h5
 have x5:=x4.trans e5
 have k3:=k3.ext e5
 by_cases hS:sfE n o x.length=0
 rotate_left
 ·rw [show blB n o x.length=false by unfold blB;exact decide_eq_false hS]
  exact .goE O (.tt Tryz.results7 O x5)
 rw [show blB n o x.length=true by unfold blB;exact decide_eq_true hS]
 rw [if_pos hS] at hi
 obtain ⟨hO,hxb⟩:=Aq3 hS
 have ok:=L9 hO
 have hB6:=ok.b6
 have hB1:=ok.b1
 have hM10:n.ls.length<=10:=ok.m
 have hnb:=ok.b
 have hki:=bl_vk ok hk
 have han:=bl_an hO (x:=x)
 have hil:(tab (nwOf n o).B ((nwOf n o).bl (rv x))).length=(nwOf n o).B:=A1 ..
 generalize hxi:tab (nwOf n o).B ((nwOf n o).bl (rv x))=xi at hi hki han hil
 refine .go O (.ldA ty_N O O k3 O (.go O ?_))
 refine .call _ O AD2 O (AC3 upT (hn.ext x5) (ho.ext x5) hi hki (by decide) (by decide)) fun v6 w6 e6 h6=>?_
 obtain ⟨vf,ve,rfl,hf,he⟩:=h6
 replace he:ve=.int .i64 0:=by rw [he,han]
 subst he
 rw [if_pos han] at hf
 have x6:=x5.trans e6
 have k3:=k3.ext e6
 refine .go O (.ldA ty_N O O k3 O (.go O ?_))
 refine .call _ O BJ6 O (BJ7 (hn.ext x6) (ho.ext x6)) fun v7 w7 e7 h7=>?_
 obtain ⟨vc,ve,rfl,⟨rows,hrows,hrl,hcy⟩,he⟩:=h7
 replace he:ve=.int .i64 0:=by rw [he,hO]
 subst he
 replace hcy:=hcy hO
 have x7:=x6.trans e7
 have k3:=k3.ext e7
 have hkf:=fl_vk ok hki (by decide) (by decide)
 have hf:eV.R (fun _=>True) w7 vf (tab n.ls.length ((nwOf n o).fl ((nwOf n o).an (rv xi)))):=ER.ext eV hf e7
 have hfl:(tab n.ls.length ((nwOf n o).fl ((nwOf n o).an (rv xi)))).length=n.ls.length:=A1 ..
 generalize (nwOf n o).an (rv xi)=θ at hf hfl hkf
 refine .go O (.neqF O O O O (.go O (.neqF O O O O (.go O (.lenR un_V O O hf (.go O (.fa I8 O O (.go O (.ld O6 O O k3 O (.go O (.lenR L5 O O (hs.ext x7) (.go O ?_))))))))))))
 rw [hfl]
 refine .neqF O O O O (.goC O ?_)
 refine .lp (α:=Nat) [3,9,11] O (fun i=>[(13,.int .i64 (i:Nat))]) (fun i W=>Ext w7 W/\i<=rows.length) (fun i=>rows.length-i) 0 (lc1 O) ⟨Ext.refl _,Nat.zero_le _⟩ ?_
 rintro i W ⟨hW,hi2⟩
 replace hW:Ext w7 W:=hW
 replace hi2:i<=rows.length:=hi2
 have hrW:=ER.ext eII hrows hW
 have xW:=x7.trans hW
 have k3:=k3.ext hW
 have hfW:=ER.ext eV hf hW
 have hsW:=hs.ext xW
 refine .go O (.lenR AS5 O O hrW (.go O ?_))
 rcases Nat.lt_or_ge i rows.length with hlt | hge
 rotate_left
 ·exact .lssF O O O (by omega) (.goE O (.tt Tryz.results7 O xW))
 have hgr:=A6 (l:=rows) (z:=[]) hlt
 have hcr:=hcy _ (List.mem_iff_getElem?.2 ⟨i,hgr⟩)
 generalize rows.getD i []=r at hgr hcr
 obtain ⟨s',rfl,hbd,hof,hpt⟩:=hcr
 have hs0:=cyc_sum ok hof hpt θ
 refine .lssT O O O (by omega) (.go O (.ixN (i:=i) AS5 ty_I O O hrW O hgr fun q hq=>.go O (.ldE (E:=eI) ty_I O O hq fun vr hvr=>.go O (.lenR un_I O O hvr (.go O (.lenR un_V O O hfW (.go O ?_)))))))
 rw [AM1,hfl]
 refine .neqF O O O O (.go O (.bld _ O O Aa6 (.alloc O D2 fun W3 b n3=>?_)))
 obtain ⟨d3,kb,hb',zs3⟩:=n3
 generalize hf':(fun j=>((s' j*(n.ls.getD j ln0).x:Int):Rat)*(nwOf n o).fl θ j)=f at hs0
 have upT':∀ {W':World},W3.heap.size<=W'.heap.size->Up (fun k=>k≠b) W':=fun h k hk=>by omega
 have hrT:∀ {W':World},Ext W W'->eII.R (fun k=>k≠b) W' vc rows:=fun e=>ER.ext eII (eII.mono (fun k _ h=>by have:=h.2;omega) (ER.lt eII hrW)) e
 have hfT:∀ {W':World},Ext W W'->eV.R (fun k=>k≠b) W' vf (tab n.ls.length ((nwOf n o).fl θ)):=fun e=>ER.ext eV (eV.mono (fun k _ h=>by have:=h.2;omega) (ER.lt eV hfW)) e
 have hsT:∀ {W':World},Ext W W'->eLs.R (fun k=>k≠b) W' s n.ls:=fun e=>ER.ext eLs (eLs.mono (fun k _ h=>by have:=h.2;omega) (ER.lt eLs hsW)) e
 refine .storeA (E:=eQ) (S:=fun k=>k≠b) ty_Q O O kb O O zq_R (fun h=>h O) fun W4 kb u4 hq4=>?_
 have D4:Ext W W4:=u4.below d3 (by omega)
 have z4:W4.heap.size=W3.heap.size:=u4.size
 rw [show q0=qc (sumN 0 f) from by rw [<-S8];rfl] at hq4
 refine .goC O ?_
 refine .lp (α:=Nat×Value) [3,9,11,13,14] O (fun y=>[(15,.int .i64 (y.1:Nat))]) (fun y W'=>Ext W W'/\W4.heap.size<=W'.heap.size/\y.1<=n.ls.length/\Blk W' b 54 y.2.cells/\eQ.R (fun k=>k≠b) W' y.2 (qc (sumN y.1 f))) (fun y=>n.ls.length-y.1) (0,_) (lc1 O) ⟨D4,Nat.le_refl _,Nat.zero_le _,kb,hq4⟩ ?_
 clear kb hq4
 rintro ⟨c,q⟩ W5 ⟨hW5,z5,hc,kb,hq⟩
 replace hW5:Ext W W5:=hW5
 replace z5:W4.heap.size<=W5.heap.size:=z5
 replace hc:c<=n.ls.length:=hc
 replace kb:Blk W5 b 54 q.cells:=kb
 replace hq:eQ.R (fun k=>k≠b) W5 q (qc (sumN c f)):=hq
 have hqv:=shpA (E:=eQ) O hq
 refine .go O (.lenR un_V O O (hfT hW5) (.go O ?_))
 rw [hfl]
 rcases Nat.lt_or_ge c n.ls.length with hcl | hge
 rotate_left
 ·have:c=n.ls.length:=by omega
  subst this
  rw [hs0] at hq
  refine .lssF O O O (by omega) (.go O (.ldA ty_Q O O kb (eQ.csz hq) ?_))
  rw [<-hqv]
  have hsg:=R0 hq
  rw [C9,sgn0] at hsg
  refine .call _ O S1 O hsg fun v8 W8 e8 h8=>?_
  subst h8
  exact .go O (.neqF O O O O (.go O (.inc O O O (by omega) (.goN O (.mk (i+1) O (lc1 O) ⟨⟨hW.trans (hW5.trans e8),hlt⟩,by show rows.length-(i+1)<rows.length-i;omega⟩)))))
 have hgc:=trI_get (s:=s') hcl
 have hbc:=hbd c
 have hXc:=ok.x c hcl
 have hgl:n.ls[c]?=some (n.ls.getD c ln0):=A6 hcl
 have hgf:(tab n.ls.length ((nwOf n o).fl θ))[c]?=some (qc ((nwOf n o).fl θ c)):=L0 hcl
 have hy : -1000<=s' c*(n.ls.getD c ln0).x/\s' c*(n.ls.getD c ln0).x<=1000:=by
  have:s' c = -1\/s' c=0\/s' c=1:=by omega
  rcases this with h | h | h<;>rw [h]<;>omega
 have hstep:sumN (c+1) f=sumN c f+((s' c*(n.ls.getD c ln0).x:Int):Rat)*(nwOf n o).fl θ c:=by rw [<-hf'];rfl
 have hflz:∀ j,j<n.ls.length->Rsz ((nwOf n o).fl θ j) 1200000:=fun j hj=>by
  have:=hkf.rsz (by decide) j
  rw [N2,if_pos hj] at this
  exact this
 have hyz:∀ j,j<n.ls.length->Rsz ((s' j*(n.ls.getD j ln0).x:Int):Rat) 1:=fun j hj=>by
  have h1:=hbd j
  have h2:=ok.x j hj
  have h3:s' j = -1\/s' j=0\/s' j=1:=by omega
  refine Rsz.int _ ?_ (Nat.le_refl _)
  rcases h3 with h | h | h<;>rw [h]<;>omega
 have hmul:Rsz (((s' c*(n.ls.getD c ln0).x:Int):Rat)*(nwOf n o).fl θ c) 1200001:=((hyz c hcl).mul (hflz c hcl)).mono (by decide)
 have hsum:Rsz (sumN c f) (1+c*(1200001+1)):=AM4 fun j hj=>by rw [<-hf'];exact ((hyz j (by omega)).mul (hflz j (by omega))).mono (by decide)
 generalize hyy:s' c*(n.ls.getD c ln0).x=y at hy hstep hmul
 have hyzc:Rsz ((y:Int):Rat) 1:=by rw [<-hyy];exact hyz c hcl
 refine .lssT O O O (by omega) (.go O (.ixN (i:=i) AS5 ty_I O O (hrT hW5) O hgr fun q1 hq1=>.go O (.ldE (E:=eI) ty_I O O hq1 fun vr1 hvr1=>.go O (.ixN (i:=c) un_I A9 O O hvr1 O hgc fun q2 hq2=>.go O (.ldE (E:=eInt .i64) A9 O O hq2 fun e he=>?_)))))
 obtain ⟨rfl,_⟩:=he
 refine .go O (.lssF O O O (by omega) (.go O (.ixN (i:=i) AS5 ty_I O O (hrT hW5) O hgr fun q1 hq1=>.go O (.ldE (E:=eI) ty_I O O hq1 fun vr1 hvr1=>.go O (.ixN (i:=c) un_I A9 O O hvr1 O hgc fun q2 hq2=>.go O (.ldE (E:=eInt .i64) A9 O O hq2 fun e he=>.go O ?_))))))
 obtain ⟨rfl,_⟩:=he
 refine .gtrF O O O (by omega) (.goC O ?_)
 refine .par follows 21 [.inl q,.inl _,.inl _,.inr (Ptr eI (fun k=>k≠b) (trI n.ls.length s')),.inr (eI.at (fun k=>k≠b) (trI n.ls.length s')),.inl _,.inr (Ptr (eInt .i64) (fun k=>k≠b) (s' c)),.inl (.int .i64 (s' c)),.inl _,.inl s,.inl _,.inr (Ptr eL (fun k=>k≠b) (n.ls.getD c ln0)),.inr (Ptr (eInt .i64) (fun k=>k≠b) (n.ls.getD c ln0).x),.inl (.int .i64 (n.ls.getD c ln0).x),.inl (.int .i64 y),.inr (eQ.at (fun k=>k≠b) (qc ((y:Int):Rat))),.inl _,.inl _,.inr (Ptr eQ (fun k=>k≠b) (qc ((nwOf n o).fl θ c))),.inr (eQ.at (fun k=>k≠b) (qc ((nwOf n o).fl θ c))),.inr (eQ.at (fun k=>k≠b) (qc (((y:Int):Rat)*(nwOf n o).fl θ c)))] [[],[],[],[(102,1),(103,2)],[(104,3)],[],[(105,4),(106,5)],[(107,6)],[],[(109,8)],[],[(110,9),(111,10)],[(112,11)],[(113,12)],[(108,7),(114,13)],[(115,14)],[],[],[(117,16),(118,17)],[(119,18)],[(116,15),(120,19)]] (by kernel_rfl) ⟨
  fun w e=>((C3 ty_Q O (kb.ext e) (eQ.csz hq)).eq hqv.symm).ob,
  fun w e=>(v_mv O).ob,
  fun w e=>(v_mv O).ob,
  fun w e=>C6 (i:=i) AS5 ty_I O (hrT (hW5.trans e)) O hgr,
  fun w e x3 hx3=>N9 ty_I O hx3,
  fun w e=>(v_mv O).ob,
  fun w e x4 hx4=>C6 (i:=c) un_I A9 O hx4 O hgc,
  fun w e x6 hx6=>N8 A9 O hx6,
  fun w e=>(v_fa I8 O).ob,
  fun w e=>(v_ld O6 O ((k3.ext hW5).ext e) O).ob,
  fun w e=>(v_mv O).ob,
  fun w e=>C6 (i:=c) L5 Q7 O (hsT (hW5.trans e)) O hgl,
  fun w e x11 hx11=>AK1 AO1 O hx11 (by decide),
  fun w e x12 hx12=>N8 AB9 O hx12,
  fun w e=>((Au6 O O).eq (by rw [hyy,wI (by omega)])).ob,
  fun w e=>(A4 _ H7 O (H6 (upT' (by have:=e.size;omega)) (by omega) (by omega))).ob (A8 _ _ _),
  fun w e=>(v_mv O).ob,
  fun w e=>(v_mv O).ob,
  fun w e=>C6 (i:=c) un_V ty_Q O (hfT (hW5.trans e)) O hgf,
  fun w e x18 hx18=>N9 ty_Q O hx18,
  fun w e x15 hx15 x19 hx19=>(by have:=AK7 (L:=1200000) (upT' (by have:=e.size;omega)) hx15 hx19 (hyzc.toOk.mono (by decide)) (hflz c hcl).toOk (by decide) (by decide);rw [C9,C9] at this;exact (A4 _ AL5 O this).ob (A8 _ _ _)),trivial⟩ ?_
 intro W6 d6 y3 hy3 y4 hy4 y6 hy6 y11 hy11 y12 hy12 y15 hy15 y18 hy18 y19 hy19 y20 hy20
 have hadd:=U8 (L:=20000000) (upT' (by have:=d6.size;omega)) (ER.ext eQ hq d6) hy20 (hsum.toOk.mono (by omega)) (hmul.toOk.mono (by decide)) (by decide) (by decide)
 rw [C9,C9,<-hstep] at hadd
 refine .call _ O V5 O hadd fun y13 W6' d6' hy13=>?_
 refine .storeA (E:=eQ) (S:=fun k=>k≠b) ty_Q O O (kb.ext (d6.trans d6')) O (eQ.csz hq) hy13 (fun h=>h O) fun W7 kb u7 hq7=>?_
 exact .go O (.inc O O O (by omega) (.goN O (.mk (c+1,y13) O (lc1 O) ⟨⟨u7.below (hW5.trans (d6.trans d6')) (by omega),by have:=u7.size;have:=d6.size;have:=d6'.size;show W4.heap.size<=W7.heap.size;omega,hcl,kb,hq7⟩,by show n.ls.length-(c+1)<n.ls.length-c;omega⟩)))
end Go.Proofs.YtggegpiffjbngaaGreat
namespace Go.Kx
open Go Go.RowKit Go.ChangeShapes Go.WideShapes
section
variable {H:Type} {enc:TypeId×Value->H} {P:Program} {W:World}
def sh4 (P:Program) (t:TypeId):Option (List (TypeId×Nat)) :=
 match P.underlying t with
 | some (.struct fs)=>if fs.size=4 then some (fs.toList.map fun f=>(f.type,f.offset)) else none
 | _=>none
theorem BG0 {t ti tj:TypeId} (hs:sh4 P t=some [(ti,0),(ti,1),(tj,2),(tj,3)]) (hi:P.underlying ti=some (.int .i64)) (hj:P.underlying tj=some (.int .i64)) (hci:P.cellsOf ti=1) (hcj:P.cellsOf tj=1) (hct:P.cellsOf t=4):Opn enc P W eL t (fun _ _=>True):=by
 intro fuel cs x hx hfz
 unfold sh4 at hs
 split at hs
 ·rename_i fs hu
  split at hs
  ·rename_i hsz
   simp only [Option.some.injEq] at hs
   obtain ⟨l⟩:=fs
   match l,hsz with
   | [f0,f1,f2,f3],_ =>
    simp only [List.map_cons,List.map_nil,List.cons.injEq,Prod.mk.injEq,and_true] at hs
    obtain ⟨⟨h0,o0⟩,⟨h1,o1⟩,⟨h2,o2⟩,h3,o3⟩:=hs
    obtain ⟨y0,y1,y2,y3,n,rfl,hl,g0,g1,g2,g3⟩:=Joins.trod_struct4 hu hx
    rw [h0,o0,hci] at g0
    rw [h1,o1,hci] at g1
    rw [h2,o2,hcj] at g2
    rw [h3,o3,hcj] at g3
    rw [hct] at hl
    obtain ⟨c0,c1,c2,c3,rfl⟩:∃ c0 c1 c2 c3,cs=[c0,c1,c2,c3]:=by
     match cs,hl with
     | [c0,c1,c2,c3],_=>exact ⟨c0,c1,c2,c3,rfl⟩
    obtain ⟨n0,e0,_,w0⟩:=DataW.trod_int hi g0
    obtain ⟨n1,e1,_,w1⟩:=DataW.trod_int hi g1
    obtain ⟨n2,e2,_,w2⟩:=DataW.trod_int hj g2
    obtain ⟨n3,e3,_,w3⟩:=DataW.trod_int hj g3
    simp at e0 e1 e2 e3
    subst e0 e1 e2 e3
    exact ⟨.agg #[.int .i64 n0,.int .i64 n1,.int .i64 n2,.int .i64 n3],⟨n0,n1,n2,n3⟩,rfl,⟨rfl,AX0 w0,AX0 w1,AX0 w2,AX0 w3⟩,trivial⟩
  ·cases hs
 ·cases hs
theorem opn_N {t ti tl te:TypeId} (hs:sh2 P t=some ((ti,0),(tl,1))) (hi:P.underlying ti=some (.int .i64)) (hci:P.cellsOf ti=1) (hcl:P.cellsOf tl=1) (hct:P.cellsOf t=2) (hl:P.underlying tl=some (.slice te)) (hce:P.cellsOf te=4) (he:Opn enc P W eL te (fun _ _=>True)):Opn enc P W eN t (fun _ _=>True):=by
 intro fuel cs x hx hfz
 obtain ⟨y0,y1,n,rfl,hlen,h0,h1⟩:=AY4 hs hx
 rw [hci] at h0
 rw [hcl] at h1
 rw [hct] at hlen
 obtain ⟨c0,c1,rfl⟩:∃ c0 c1,cs=[c0,c1]:=by
  match cs,hlen with
  | [c0,c1],_=>exact ⟨c0,c1,rfl⟩
 obtain ⟨b,hb',_,hw⟩:=DataW.trod_int hi h0
 simp at hb'
 subst hb'
 obtain ⟨e,l,he',hR,_⟩:=(Opn.slice (Z:=fun _ _=>True) (E:=eL) (by decide) hl hce he) n _ _ h1 hfz.right
 obtain ⟨a,c,rfl,_⟩:=RL.len hR
 simp [Value.cells] at he'
 subst he'
 exact ⟨.agg #[.int .i64 b,.slice a l.length c],⟨b,l⟩,rfl,⟨_,rfl,hR,AX0 hw⟩,trivial⟩
end
end Go.Kx
namespace Go.Proofs.YtggegpiffjbngaaGreat
open Go Go.Kx Go.RowKit
section
variable {H:Type} {enc:TypeId×Value->H} {W:World}
theorem opnN:Opn enc Tryz.prog W eN 24 (fun _ _=>True):=opn_N (ti:=3) (tl:=22) (te:=58) (by kernel_rfl) AB7 (by kernel_rfl) (by kernel_rfl) (by kernel_rfl) L5 (by kernel_rfl) (BG0 (ti:=3) (tj:=2) (by kernel_rfl) AB7 AY2 (by kernel_rfl) (by kernel_rfl) (by kernel_rfl))
theorem opnH:Opn enc Tryz.prog W eI 25 (ZL fun _ _=>True):=Opn.slice (by decide) un_I (by kernel_rfl) (opn_int AB7)
end
end Go.Proofs.YtggegpiffjbngaaGreat
