/-
  What the claim leans on.
-/
import Derived.Test.YtggegpiffjbngaaGreatG7
set_option linter.unusedVariables false
namespace Go.Proofs.YtggegpiffjbngaaGreat
open Go Go.Kx Go.RowKit
theorem red_rz {m:List (List QV)} {L n C0:Nat} (ok:eOk L n C0 m) {i k:Nat} (hi:i<(redP m).length) (hk:k<colsOf m):Rsz (redF m i k) (bd L n):=red_rsz ok.k ok.l1 ok.mn i k (by have:=(Q5 m).len;omega) hk
theorem As8:Ent Tryz.prog 156:=A0 Tryz.func156 (by kernel_rfl) rfl
theorem Aq4 {S:Nat->Prop} {w:World} {vm:Value} {m:List (List QV)} {L n C0:Nat} (up:Up S w) (hm:eM.R S w vm m) (ok:eOk L n C0 m) :
  CR Tryz.prog 156 #[vm] w (eM.at S (nullM m)):=by
 have hnr:=ok.rows
 have hc:=ok.cols
 have hc1:=ok.c1
 have hbd:=ok.bd
 have he:=Q5 m
 have hpl:=he.len
 refine enter Tryz.func156 O Tryz.ntmps156 O ?_
 refine .sr (.an O O (.sr (.mv O O ?_)))
 refine .call _ O AL1 O (AJ7 up hm ok) fun v1 w1 e1 h1=>?_
 obtain ⟨vr,vp,rfl,hr,hp⟩:=h1
 refine .mv O O (.ext O O O (.ext O O O (.asg O O (.an O O (.sr (.mv O O ?_))))))
 refine .call _ O Z9 O (Z3 (hm.ext e1)) fun v2 w2 e2 h2=>.an O O (.sr (.an O O ?_))
 subst h2
 have x2:=e1.trans e2
 have hr2:eM.R (fun k=>S k/\k<w2.heap.size) w2 vr (redM m):=ER.lt eM (ER.ext eM hr e2)
 have hp2:eI.R (fun k=>S k/\k<w2.heap.size) w2 vp (pInts (redP m)):=ER.lt eI (ER.ext eI hp e2)
 have hrW:∀ {W:World},Ext w2 W->eM.R (fun k=>S k/\k<w2.heap.size) W vr (redM m):=fun e=>ER.ext eM hr2 e
 have hpW:∀ {W:World},Ext w2 W->eI.R (fun k=>S k/\k<w2.heap.size) W vp (pInts (redP m)):=fun e=>ER.ext eI hp2 e
 have hrl:(redM m).length=(redP m).length:=A4 ..
 have hs2:=x2.size
 have up2:=up.ext x2.size
 generalize hG:(fun k=>tab (colsOf m) (nv (redF m) (redP m) k))=G
 refine .mid (α:=Value) (fun o=>[(6,o)]) (fun o W=>Ext w2 W/\OwnL eV 32 w2.heap.size S W o ((freeTo (redP m) (colsOf m)).map G)) ?_ ?_
 ·refine .sr (.an O O ?_)
  refine .block (.loop (α:=Nat×Value) (fun y=>[(3,vr),(4,vp),(5,.int .i64 (colsOf m:Nat)),(6,y.2),(7,.int .i64 (y.1:Nat))]) (fun y W=>Ext w2 W/\y.1<=colsOf m/\OwnL eV 32 w2.heap.size S W y.2 ((freeTo (redP m) y.1).map G)) (fun y=>colsOf m-y.1) (0,.slice none 0 0) ?_ ?_ ?_)
  ·exact lkA rfl
  ·exact ⟨Ext.refl _,Nat.zero_le _,OwnL.nil⟩
  rintro ⟨k,o⟩ W ⟨hW,hk,ho⟩
  replace hW:Ext w2 W:=hW
  replace hk:k<=colsOf m:=hk
  replace ho:OwnL eV 32 w2.heap.size S W o ((freeTo (redP m) k).map G):=ho
  have hsW:=hW.size
  refine .seq (.sr (.mv O O (.mv O O ?_)))
  rcases Nat.lt_or_ge k (colsOf m) with hlt | hge
  rotate_left
  ·refine .lssF O O O (by omega) (.nil (.condF O (.exit ?_)))
   have:k=colsOf m:=by omega
   subst this
   exact ⟨rfl,o,lkA rfl,hW,ho⟩
  refine .lssT O O O (by omega) (.nil (.condT O (.skip (.seq (.block (.seq (.sr (.mv O O (.mv O O ?_)))))))))
  refine .call _ O Aj2 O (Af8 (hpW hW)) fun v3 W3 e3 h3=>.nil ?_
  subst h3
  have hW3:=hW.trans e3
  by_cases hkp:k∈redP m
  ·rw [decide_eq_true hkp]
   refine .condT O (.exit (.region (.mv O O (.add O O O (.an O O ?_)))))
   rw [wI (by omega)]
   refine ⟨rfl,(k+1,o),lkA rfl,⟨hW3,hlt,?_⟩,by show colsOf m-(k+1)<colsOf m-k;omega⟩
   show OwnL eV 32 w2.heap.size S W3 o ((freeTo (redP m) (k+1)).map G)
   rw [J3,if_pos hkp,List.append_nil]
   exact ho.ext e3
  rw [decide_eq_false hkp]
  refine .condF O (.skip (.sr (.mv O O (.mv O O ?_))))
  have ho3:=ho.ext e3
  have upU:Up (fun k'=>S k'/\o.ownBlock≠some k') W3:=fun k' hk'=>⟨up2 k' (by have:=hW3.size;omega),fun h=>by have:=ho3.lt' k' h;omega⟩
  refine .call _ O O2 O (AG4 (k:=(k:Nat)) upU (by omega)) fun vx W4 e4 h4=>.an O O ?_
  obtain ⟨g,cap,rfl,hcap,hcap2,hgB,fp⟩:=h4.fp (by rw [A1];omega)
  rw [A1] at hcap ⊢
  have hW4:=hW3.trans e4
  have ho4:=ho3.ext e4
  have hu0:tab (colsOf m) (uniR (k:Nat))=tab (colsOf m) (nvTo (redF m) (redP m) k 0):=E1 fun c _=>by
   unfold uniR nvTo
   show _=(if c=k then 1 else 0)-0
   by_cases e:c=k
   ·rw [if_pos (by omega),if_pos e];grind
   ·rw [if_neg (by omega),if_neg e];grind
  rw [hu0] at fp
  refine .mid (α:=Unit) (fun _=>[(3,vr),(4,vp),(5,.int .i64 (colsOf m:Nat)),(6,o),(7,.int .i64 (k:Nat)),(8,.slice (some ⟨g,0,none⟩) (colsOf m) cap)]) (fun _ W'=>Ext w2 W'/\Ext W3 W'/\FP eQ 54 (fun k'=>S k'/\o.ownBlock≠some k') W' g (tab (colsOf m) (nv (redF m) (redP m) k))) ?_ ?_
  ·refine .sr (.an O O ?_)
   refine .block (.loop (α:=Nat) (fun i=>[(3,vr),(4,vp),(5,.int .i64 (colsOf m:Nat)),(6,o),(7,.int .i64 (k:Nat)),(8,.slice (some ⟨g,0,none⟩) (colsOf m) cap),(9,.int .i64 (i:Nat))]) (fun i W'=>Ext w2 W'/\Ext W3 W'/\i<=(redP m).length/\FP eQ 54 (fun k'=>S k'/\o.ownBlock≠some k') W' g (tab (colsOf m) (nvTo (redF m) (redP m) k i))) (fun i=>(redP m).length-i) 0 ?_ ?_ ?_)
   ·exact lkA rfl
   ·exact ⟨hW4,e4,Nat.zero_le _,fp⟩
   rintro i W5 ⟨hW5,hX5,hi,fp⟩
   refine .seq (.sr (.mv O O (.mv O O (.lenR un_M O O (hrW hW5) ?_))))
   rw [hrl]
   rcases Nat.lt_or_ge i (redP m).length with hli | hgi
   rotate_left
   ·refine .lssF O O O (by omega) (.nil (.condF O (.exit ?_)))
    have:i=(redP m).length:=by omega
    subst this
    exact ⟨rfl,(),lkA rfl,hW5,hX5,fp⟩
   have hg:(pInts (redP m))[i]?=some (((redP m).getD i 0:Nat):Int):=by rw [List.getElem?_map,A9 (z:=0) hli];rfl
   have hrg:(redM m)[i]?=some (tab (colsOf m) (redF m i)):=C8 hli
   have hpi:=he.lt i hli
   have hT:∀ k',(S k'/\k'<w2.heap.size)->(S k'/\o.ownBlock≠some k')/\k'≠g:=fun k' h=>⟨⟨h.1,fun e=>by
    obtain ⟨es,ho1,_⟩:=id ho4
    have:=(ho1.lt k' e).1;have:=h.2;omega⟩,by have:=h.2;have:=hW3.size;omega⟩
   have upX:∀ {W':World},Ext W5 W'->Up (fun k'=>(S k'/\o.ownBlock≠some k')/\k'≠g) W':=fun e k' hk'=>⟨⟨up2 k' (by have:=hW5.size;have:=e.size;omega),fun h=>by have:=ho3.lt' k' h;have:=hX5.size;have:=e.size;omega⟩,by have:=e.size;have:=fp.lt;omega⟩
   refine .lssT O O O (by omega) (.nil (.condT O (.skip (.seq (.block ?_)))))
   refine .par follows 13 [.inl _,.inl _,.inl (.int .i64 (i:Nat)),.inr (Ptr (eInt .i64) (fun k=>S k/\k<w2.heap.size) (((redP m).getD i 0:Nat):Int)),.inl (.int .i64 (((redP m).getD i 0:Nat):Int)),.inl _,.inl (.int .i64 (i:Nat)),.inr (Ptr eV (fun k=>S k/\k<w2.heap.size) (tab (colsOf m) (redF m i))),.inr (eV.at (fun k=>S k/\k<w2.heap.size) (tab (colsOf m) (redF m i))),.inl (.int .i64 (k:Nat)),.inr (Ptr eQ (fun k=>S k/\k<w2.heap.size) (qc (redF m i k))),.inr (eQ.at (fun k=>S k/\k<w2.heap.size) (qc (redF m i k))),.inr (eQ.at (fun k'=>(S k'/\o.ownBlock≠some k')/\k'≠g) (qc (-(redF m i k))))] [[],[],[],[(35,1),(36,2)],[(37,3)],[],[],[(39,5),(40,6)],[(41,7)],[],[(42,8),(43,9)],[(44,10)],[(45,11)]] (by kernel_rfl) ⟨
    fun w e=>(v_mv O).ob,fun w e=>(v_mv O).ob,fun w e=>(v_mv O).ob,
    fun w e=>B5 (i:=i) un_I B6 O (hpW (hW5.trans e)) O hg,
    fun w e x hx=>G5 B6 O hx,
    fun w e=>(v_mv O).ob,fun w e=>(v_mv O).ob,
    fun w e=>B5 (i:=i) un_M ty_V O (hrW (hW5.trans e)) O hrg,
    fun w e x hx=>I5 ty_V O hx,
    fun w e=>(v_mv O).ob,
    fun w e x hx=>B5 (i:=k) un_V ty_Q O hx O (G3 hlt),
    fun w e x hx=>I5 ty_Q O hx,
    fun w e x hx=>by
     have:=AJ8 (L:=bd L n) (upX e) (eQ.mono (fun k' _ h=>hT k' h) hx) (red_rz ok hli hlt).toOk (As5 ok.l1 n) (by omega)
     rw [B3] at this
     exact (A2 _ AL2 O this).ob (A5 _ _ _),trivial⟩ ?_
   intro W6 e6 y3 _ y7 _ y8 _ y10 _ y11 _ y12 hy12
   refine .ixB (i:=(redP m).getD i 0) un_V ty_Q O O O hpi (.storeP (E:=eQ) (i:=(redP m).getD i 0) (by decide) ty_Q O O (fp.ext e6) O (by rw [A1];exact hpi) (Nat.zero_add _) hy12 fun W7 f7 u7=>.nil ?_)
   have hset:(tab (colsOf m) (nvTo (redF m) (redP m) k i)).set ((redP m).getD i 0) (qc (-(redF m i k)))=tab (colsOf m) (nvTo (redF m) (redP m) k (i+1)):=by
    rw [AM1,BL6 he hli hkp (F6 hli)]
   rw [hset] at f7
   refine .region (.mv O O (.add O O O (.an O O ?_)))
   rw [wI (by omega)]
   exact ⟨rfl,i+1,lkA rfl,⟨u7.below (hW5.trans e6) (by have:=hW3.size;omega),u7.below (hX5.trans e6) hgB,hli,f7⟩,by show (redP m).length-(i+1)<(redP m).length-i;omega⟩
  rintro _ W5 ⟨hW5,hX5,fp⟩
  have ho5:=ho3.lt_ hX5
  have hrow:eV.R (fun k'=>S k'/\o.ownBlock≠some k') W5 (.slice (some ⟨g,0,none⟩) (colsOf m) cap) (tab (colsOf m) (nv (redF m) (redP m) k)):=by
   have:=fp.toR (c:=cap) (hsz:=by decide) (upU g hgB) (by rw [A1];exact hcap) (by rw [A1];omega)
   rwa [A1] at this
  refine .region (.mv O O (.mv O O (.bsl _ O O As0 fun Wy by_ ny=>?_)))
  obtain ⟨ey,ky,hby,hsy⟩:=ny
  have hfl:(freeTo (redP m) k).length<=k:=by
   unfold freeTo
   have:=List.length_filter_le (fun k => !(decide (k∈redP m))) (List.range k)
   simpa using this
  refine .gv O O (J8 (E:=eV) (base:=w2.heap.size) (n:=tab (colsOf m) (nv (redF m) (redP m) k)) (e:=.slice (some ⟨g,0,none⟩) (colsOf m) cap) (by decide) un_M AG9 O O O (ho5.ext ey) ky (ER.ext eV hrow ey) (by simp;omega) (by decide) (by have:=ey.size;have:=hW5.size;omega)) ?_
  rintro v8 W8 ⟨ho8,hg8⟩
  refine .an O O (.region (.mv O O (.add O O O (.an O O ?_))))
  rw [wI (by omega)]
  refine ⟨rfl,(k+1,v8),lkA rfl,⟨(ho5.ext ey).below hg8 (hW5.trans ey) (by have:=ey.size;have:=hW5.size;omega),hlt,?_⟩,by show colsOf m-(k+1)<colsOf m-k;omega⟩
  show OwnL eV 32 w2.heap.size S W8 v8 ((freeTo (redP m) (k+1)).map G)
  rw [J3,if_neg hkp,List.map_append,<-hG]
  rw [<-hG] at ho8
  exact ho8
 rintro o W ⟨hW,ho⟩
 refine .sr (.mv O O (.an O O (.ret ?_)))
 refine .plain [_] Tryz.results156 ⟨rfl,trivial⟩ ⟨x2.trans hW,?_⟩
 unfold nullM freeC
 rw [hG]
 exact ho.toR (fun k hk=>up2 k hk) (fun _ h=>h)
open Go Go.Kx Go.RowKit
def wideR (m:List (List QV)) (b:List QV) (i:Nat):List QV:=tab (colsOf m) (rm m i)++[b.getD i q0]
def wideM (m:List (List QV)) (b:List QV):List (List QV):=(List.range (max m.length b.length)).map (wideR m b)
section
variable {m:List (List QV)} {b:List QV}
theorem AI9:(wideM m b).length=max m.length b.length:=by simp [wideM]
theorem Y9 (i:Nat):(wideR m b i).length=colsOf m+1:=by simp [wideR,A1]
theorem Am2 (i:Nat):(wideM m b).getD i []=if i<max m.length b.length then wideR m b i else []:=by
 unfold wideM
 rw [List.getD_eq_getElem?_getD,List.getElem?_map]
 by_cases h:i<max m.length b.length
 ·rw [if_pos h,List.getElem?_range h];rfl
 ·rw [if_neg h,List.getElem?_eq_none (by simpa using h)];rfl
theorem BQ8 (i k:Nat):rv (wideR m b i) k=if k<colsOf m+1 then augF m b i k else 0:=by
 by_cases h1:k<colsOf m
 ·rw [if_pos (by omega),Ai8 h1]
  have:rv (tab (colsOf m) (rm m i)) k=rm m i k:=by rw [M2,if_pos h1]
  rw [<-this]
  unfold rv wideR
  rw [List.getD_eq_getElem?_getD,List.getElem?_append_left (by rw [A1];exact h1),<-List.getD_eq_getElem?_getD]
 ·by_cases h2:k=colsOf m
  ·subst h2
   rw [if_pos (by omega),AW8]
   unfold rv wideR
   rw [List.getD_eq_getElem?_getD,List.getElem?_append_right (by rw [A1];omega),A1]
   simp
  ·rw [if_neg (by omega),AV7 (by rw [Y9];omega)]
theorem rm_wide (i k:Nat):rm (wideM m b) i k=rm (augM m b) i k:=by
 rw [BR0]
 unfold rm
 rw [Am2]
 by_cases h:i<max m.length b.length
 ·rw [if_pos h,BQ8];simp [h]
 ·rw [if_neg h,AV8,if_neg (by omega)]
theorem Am3:colsOf (wideM m b)=colsOf (augM m b):=by
 rw [Ai7]
 by_cases h:max m.length b.length=0
 ·rw [if_pos h]
  have:wideM m b=[]:=List.length_eq_zero_iff.1 (by rw [AI9];exact h)
  rw [this];rfl
 ·rw [if_neg h]
  refine Nat.le_antisymm (Ao8 fun r hr=>?_) ?_
  ·obtain ⟨i,_,rfl⟩:=List.mem_map.1 hr
   rw [Y9];exact Nat.le_refl _
  ·have:=BE3 (wideM m b) 0
   rwa [Am2,if_pos (by omega),Y9] at this
theorem BR3:redF (wideM m b)=redF (augM m b)/\redP (wideM m b)=redP (augM m b):=by
 have e:rm (wideM m b)=rm (augM m b):=by funext i k;exact rm_wide i k
 unfold redF redP
 rw [AI9,Am3,AH4,e]
 exact ⟨rfl,rfl⟩
theorem wide_mk {L:Nat} (hm:mk_ L m) (hb:vk L b) (hL:1<=L):mk_ L (wideM m b):=by
 intro r hr q hq
 obtain ⟨i,_,rfl⟩:=List.mem_map.1 hr
 rcases List.mem_append.1 hq with h | h
 ·exact X8 (fun k _=>hm.rsz hL i k) q h
 ·rw [List.mem_singleton.1 h];exact hb.get hL i
end
theorem As7:Ent Tryz.prog 154:=A0 Tryz.func154 (by kernel_rfl) rfl
theorem Aq3 {S:Nat->Prop} {w:World} {vm vb:Value} {m:List (List QV)} {b:List QV} {L:Nat} (up:Up S w) (hm:eM.R S w vm m) (hb:eV.R S w vb b) (hkm:mk_ L m) (hL:1<=L) (hL2:L<=1000000000) (hr:m.length<=1000) (hl:b.length<=1000) (hc:colsOf m<=1000) :
  CR Tryz.prog 154 #[vm,vb] w (eM.at S (wideM m b)):=by
 refine enter Tryz.func154 O Tryz.ntmps154 O ?_
 refine .sr (.an O O (.sr (.mv O O ?_)))
 refine .call _ O Z9 O (Z3 hm) fun v1 w1 e1 h1=>.an O O (.sr (.an O O ?_))
 subst h1
 have up1:=up.ext e1.size
 have hm1:∀ {W:World},Ext w1 W->eM.R (fun k=>S k/\k<w1.heap.size) W vm m:=fun e=>ER.ext eM (ER.lt eM (ER.ext eM hm e1)) e
 have hb1:∀ {W:World},Ext w1 W->eV.R (fun k=>S k/\k<w1.heap.size) W vb b:=fun e=>ER.ext eV (ER.lt eV (ER.ext eV hb e1)) e
 refine .seq (.sr (.an O O ?_))
 refine .block (.loop (α:=Nat×Value) (fun y=>[(0,vm),(1,vb),(5,.int .i64 (colsOf m:Nat)),(6,y.2),(7,.int .i64 (y.1:Nat))]) (fun y W=>Ext w1 W/\y.1<=max m.length b.length/\OwnL eV 32 w1.heap.size S W y.2 ((List.range y.1).map (wideR m b))) (fun y=>max m.length b.length-y.1) (0,.slice none 0 0) ?_ ?_ ?_)
 ·exact lkA rfl
 ·exact ⟨Ext.refl _,Nat.zero_le _,OwnL.nil⟩
 rintro ⟨i,o⟩ W ⟨hW,hi,ho⟩
 replace hW:Ext w1 W:=hW
 replace hi:i<=max m.length b.length:=hi
 replace ho:OwnL eV 32 w1.heap.size S W o ((List.range i).map (wideR m b)):=ho
 have hsW:=hW.size
 refine .mid (α:=Unit) (fun _=>[(0,vm),(1,vb),(5,.int .i64 (colsOf m:Nat)),(6,o),(7,.int .i64 (i:Nat))]) (fun _ W'=>W'=W/\i<max m.length b.length) ?_ ?_
 ·refine .sr (.mv O O (.mv O O (.lenR un_M O O (hm1 hW) ?_)))
  rcases Nat.lt_or_ge i m.length with h1 | h1
  ·refine .lssT O O O (by omega) (.mv O O (.gs O O O O O (.gs O O O O O (.gs O O O O O (.gs O O O O O (.pick O O O (.nil (.condT O (.skip ?_)))))))))
   exact ⟨rfl,(),lkA rfl,rfl,by omega⟩
  ·refine .lssF O O O (by omega) (.mv O O (.gr O O O O (.mv O O (.gr O O O O (.mv O O (.gr O O O O (.lenR un_V O O (hb1 hW) (.gr O O O O ?_))))))))
   rcases Nat.lt_or_ge i b.length with h2 | h2
   ·refine .lssT O O O (by omega) (.pick O O O (.nil (.condT O (.skip ?_))))
    exact ⟨rfl,(),lkA rfl,rfl,by omega⟩
   ·refine .lssF O O O (by omega) (.pick O O O (.nil (.condF O (.exit (.sr (.mv O O (.an O O (.ret ?_))))))))
    have:i=max m.length b.length:=by omega
    subst this
    exact .plain [_] Tryz.results154 ⟨rfl,trivial⟩ ⟨e1.trans hW,ho.toR (fun k hk=>up1 k hk) (fun _ h=>h)⟩
 rintro _ W' ⟨rfl,hlt⟩
 obtain ⟨es,ho1,ho2⟩:=id ho
 have hTu:∀ k',S k'/\k'<w1.heap.size->S k'/\o.ownBlock≠some k':=fun k' hk'=>⟨hk'.1,fun h=>by have:=(ho1.lt k' h).1;have:=hk'.2;omega⟩
 have upT':Up (fun k'=>S k'/\o.ownBlock≠some k') W':=fun k' hk'=>⟨up1 k' (by omega),fun h=>by have:=(ho1.lt k' h).2;omega⟩
 refine .seq (.block (.sr (.an O O ?_)))
 refine .mid (α:=Value) (fun x=>[(0,vm),(1,vb),(5,.int .i64 (colsOf m:Nat)),(6,o),(7,.int .i64 (i:Nat)),(8,x)]) (fun x W2=>Ext W' W2/\OwnL eQ 54 W'.heap.size (fun k'=>S k'/\o.ownBlock≠some k') W2 x (tab (colsOf m) (rm m i))) ?_ ?_
 ·refine .sr (.an O O ?_)
  generalize hg:(fun j=>qc (rm m i j))=g
  refine .block (.loop (α:=Nat×Value) (fun x=>[(0,vm),(1,vb),(5,.int .i64 (colsOf m:Nat)),(6,o),(7,.int .i64 (i:Nat)),(8,x.2),(9,.int .i64 (x.1:Nat))]) (fun x W2=>Ext W' W2/\x.1<=colsOf m/\OwnL eQ 54 W'.heap.size (fun k'=>S k'/\o.ownBlock≠some k') W2 x.2 ((List.range x.1).map g)) (fun x=>colsOf m-x.1) (0,.slice none 0 0) ?_ ?_ ?_)
  ·exact lkA rfl
  ·exact ⟨Ext.refl _,Nat.zero_le _,OwnL.nil⟩
  rintro ⟨j,x⟩ W2 ⟨hW2,hj,hx⟩
  replace hW2:Ext W' W2:=hW2
  replace hj:j<=colsOf m:=hj
  replace hx:OwnL eQ 54 W'.heap.size (fun k'=>S k'/\o.ownBlock≠some k') W2 x ((List.range j).map g):=hx
  have hsz2:=hW2.size
  refine .seq (.sr (.mv O O (.mv O O ?_)))
  by_cases hjl:j<colsOf m
  rotate_left
  ·refine .lssF O O O (by omega) (.nil (.condF O (.exit ?_)))
   have:j=colsOf m:=by omega
   subst this
   refine ⟨rfl,x,lkA rfl,hW2,?_⟩
   unfold tab
   rw [hg]
   exact hx
  obtain ⟨es',hx1,hx2⟩:=id hx
  have upX:Up (fun k'=>(S k'/\o.ownBlock≠some k')/\x.ownBlock≠some k') W2:=fun k' hk'=>⟨upT' k' (by omega),fun h=>by have:=(hx1.lt k' h).2;omega⟩
  refine .lssT O O O (by omega) (.nil (.condT O (.skip (.seq (.block (.region (.mv O O (.mv O O (.mv O O (.mv O O ?_))))))))))
  refine .call _ O AR2 O (AP4 (i:=(i:Nat)) (k:=(j:Nat)) upX (eM.mono (fun k' _ h=>⟨hTu k' h,fun e=>by have:=(hx1.lt k' e).1;have:=h.2;omega⟩) (hm1 (hW.trans hW2))) hkm hL hL2) fun v2 W3 e2 h2=>?_
  rw [AM3] at h2
  have hr':=h2
  obtain ⟨s2,t2,rfl,_,_⟩:=hr'
  refine .bsl _ O O T5 fun W4 b4 n4=>?_
  obtain ⟨e4,k4,hb4,hs4⟩:=n4
  have e24:=e2.trans e4
  have hW4:=hW2.trans e24
  refine .gv O O (J8 (E:=eQ) (base:=W'.heap.size) (by decide) un_V H4 O O O (hx.ext e24) k4 (h2.ext e4) (by simp;omega) (by decide) hW4.size) ?_
  rintro v5 W5 ⟨ho5,hg5⟩
  refine .an O O (.region (.mv O O (.add O O O (.an O O ?_))))
  rw [wI (by omega)]
  refine ⟨rfl,(j+1,v5),lkA rfl,⟨(hx.ext e24).below hg5 hW4 hW4.size,hjl,?_⟩,by show colsOf m-(j+1)<colsOf m-j;omega⟩
  show OwnL eQ 54 W'.heap.size (fun k'=>S k'/\o.ownBlock≠some k') W5 v5 ((List.range (j+1)).map g)
  rw [List.range_succ,List.map_append,<-hg]
  rw [<-hg] at ho5
  exact ho5
 rintro x W2 ⟨hW2,hx⟩
 obtain ⟨es',hx1,hx2⟩:=id hx
 have hsz2:=hW2.size
 have upX:Up (fun k'=>(S k'/\o.ownBlock≠some k')/\x.ownBlock≠some k') W2:=fun k' hk'=>⟨upT' k' (by omega),fun h=>by have:=(hx1.lt k' h).2;omega⟩
 refine .region (.mv O O (.mv O O (.mv O O (.mv O O ?_))))
 refine .call _ O I6 O (I3 (i:=(i:Nat)) (S:=fun k'=>(S k'/\o.ownBlock≠some k')/\x.ownBlock≠some k') (eV.mono (fun k' _ h=>⟨hTu k' h,fun e=>by have:=(hx1.lt k' e).1;have:=h.2;omega⟩) (hb1 (hW.trans hW2)))) fun v2 W3 e2 h2=>?_
 rw [M4] at h2
 have hr':=h2
 obtain ⟨s2,t2,rfl,_,_⟩:=hr'
 refine .bsl _ O O T5 fun W4 b4 n4=>?_
 obtain ⟨e4,k4,hb4,hs4⟩:=n4
 have e24:=e2.trans e4
 have hW4:=hW2.trans e24
 refine .gv O O (J8 (E:=eQ) (base:=W'.heap.size) (n:=b.getD i q0) (by decide) un_V H4 O O O (hx.ext e24) k4 (h2.ext e4) (by rw [A1];omega) (by decide) hW4.size) ?_
 rintro v5 W5 ⟨ho5,hg5⟩
 have hW5:Ext W' W5:=(hx.ext e24).below hg5 hW4 hW4.size
 have ho5r:=ho.lt_ hW5
 have hrow:eV.R (fun k'=>S k'/\o.ownBlock≠some k') W5 v5 (wideR m b i):=ho5.toR (fun k hk=>upT' k hk) (fun _ h=>h)
 obtain ⟨ar,cr,hvr,_⟩:=RL.len hrow
 rw [Y9] at hvr
 subst hvr
 refine .bsl _ O O As0 fun W6 b6 n6=>?_
 obtain ⟨e6,k6,hb6,hs6⟩:=n6
 have hW6:=hW.trans (hW5.trans e6)
 refine .gv O O (J8 (E:=eV) (base:=w1.heap.size) (n:=wideR m b i) (e:=.slice ar (colsOf m+1) cr) (by decide) un_M AG9 O O O (ho5r.ext e6) k6 (ER.ext eV hrow e6) (by simp;omega) (by decide) hW6.size) ?_
 rintro v7 W7 ⟨ho7,hg7⟩
 refine .an O O (.region (.mv O O (.add O O O (.an O O ?_))))
 rw [wI (by omega)]
 refine ⟨rfl,(i+1,v7),lkA rfl,⟨(ho5r.ext e6).below hg7 hW6 hW6.size,hlt,?_⟩,by show max m.length b.length-(i+1)<max m.length b.length-i;omega⟩
 show OwnL eV 32 w1.heap.size S W7 v7 ((List.range (i+1)).map (wideR m b))
 rw [List.range_succ,List.map_append]
 exact ho7
open Go Go.Kx Go.RowKit
theorem Al7:Ent Tryz.prog 91:=A0 Tryz.func91 (by kernel_rfl) rfl
theorem Ak4 {S:Nat->Prop} {w:World} {vm vb:Value} {m:List (List QV)} {b:List QV} {L n:Nat} (up:Up S w) (hm:eM.R S w vm m) (hb:eV.R S w vb b) (hkm:mk_ L m) (hkb:vk L b) (hL:1<=L) (hr:m.length<=100) (hl:b.length<=100) (hc:colsOf m<=90) (hmn:min (max m.length b.length) (colsOf m+1)<=n) (hbd:bd L n<=40000000) :
  CR Tryz.prog 91 #[vm,vb] w (Three (eV.at S (if solvable m b then solX m b else [])) (eM.at S (if solvable m b then nullM m else [])) (Is (.int .i64 (if solvable m b then 0 else 8)))):=by
 have hL2:L<=40000000:=Nat.le_trans (Z8 L (Nat.zero_le n)) hbd
 have hwc:=Am3 (m:=m) (b:=b)
 have hwl:=AI9 (m:=m) (b:=b)
 have hac:=Az1 m b
 obtain ⟨eF,eP⟩:=BR3 (m:=m) (b:=b)
 have okw:eOk L n 100 (wideM m b):=⟨wide_mk hkm hkb hL,hL,hbd,by rw [hwl,hwc];omega,by omega,by omega,Nat.le_refl _⟩
 have okm:eOk L n 100 m:=⟨hkm,hL,hbd,by omega,hr,by omega,Nat.le_refl _⟩
 have he:=Q5 (augM m b)
 refine enter Tryz.func91 O Tryz.ntmps91 O ?_
 refine .sr (.asg O O (.asg O O (.an O O (.sr (.mv O O ?_)))))
 refine .call _ O Z9 O (Z3 hm) fun v1 w1 e1 h1=>.an O O (.sr (.mv O O (.mv O O ?_)))
 subst h1
 refine .call _ O As7 O (Aq3 (up.ext e1.size) (hm.ext e1) (hb.ext e1) hkm hL (by omega) (by omega) (by omega) (by omega)) fun v2 w2 e2 h2=>?_
 have x2:=e1.trans e2
 refine .call _ O AL1 O (AJ7 (up.ext x2.size) h2 okw) fun v3 w3 e3 h3=>?_
 obtain ⟨vr,vp,rfl,hR,hP⟩:=h3
 have x3:=x2.trans e3
 have hRm:redM (wideM m b)=tabM (redP (augM m b)).length (colsOf (augM m b)) (redF (augM m b)):=by unfold redM;rw [eF,eP,hwc]
 rw [hRm] at hR
 rw [eP] at hP
 refine .mv O O (.ext O O O (.ext O O O (.asg O O (.an O O (.seq (.sr (.mv O O (.mv O O ?_))))))))
 refine .call _ O Aj2 O (Af8 hP) fun v4 w4 e4 h4=>.nil ?_
 subst h4
 have x4:=x3.trans e4
 by_cases hs:solvable m b
 rotate_left
 ·rw [decide_eq_true (Classical.not_not.1 hs)]
  refine .condT O (.sr (.asg O O (.asg O O (.an O O (.ret ?_)))))
  refine .plain [_,_,_] Tryz.results91 ⟨rfl,rfl,rfl,trivial⟩ ⟨x4,_,_,_,rfl,?_,?_,?_⟩
  ·rw [if_neg hs];exact RL.nil
  ·rw [if_neg hs];exact RL.nil
  ·show _=_
   rw [if_neg hs]
 rw [decide_eq_false hs]
 have hplt:∀ j,j<(redP (augM m b)).length->(redP (augM m b)).getD j 0<colsOf m:=fun j hj=>by
  have h1:=he.lt j hj
  have h2:(redP (augM m b)).getD j 0≠colsOf m:=fun e=>hs (e▸F6 hj)
  omega
 refine .condF O (.skip (.sr (.mv O O ?_)))
 refine .call _ O O2 O (AG4 (k := -1) (up.ext x4.size) (by omega)) fun vx w5 e5 h5=>.an O O ?_
 have x5:=x4.trans e5
 have hu0:tab (colsOf m) (uniR (-1))=tab (colsOf m) (partTo (redF (augM m b)) (redP (augM m b)) (colsOf m) 0):=E1 fun c _=>by
  unfold uniR partTo
  rw [if_neg (by omega)];rfl
 rw [hu0] at h5
 have hR4:eM.R (fun k=>S k/\k<w4.heap.size) w5 vr _:=ER.ext eM (ER.lt eM (ER.ext eM hR e4)) e5
 have hP4:eI.R (fun k=>S k/\k<w4.heap.size) w5 vp _:=ER.ext eI (ER.lt eI (ER.ext eI hP e4)) e5
 refine .mid (α:=Value) (fun x=>[(0,vm),(10,x)]) (fun x W=>Ext w4 W/\eV.R S W x (solX m b)) ?_ ?_
 ·rcases Nat.eq_zero_or_pos (colsOf m) with h0 | hpos
  ·have hp0:(redP (augM m b)).length=0:=Nat.eq_zero_of_not_pos fun h=>by have:=hplt 0 h;omega
   have hx0:solX m b=[]:=List.length_eq_zero_iff.1 (by rw [Av2];exact h0)
   rw [show tab (colsOf m) (partTo (redF (augM m b)) (redP (augM m b)) (colsOf m) 0)=[] from List.length_eq_zero_iff.1 (by rw [A1];exact h0)] at h5
   refine .sr (.an O O ?_)
   refine .block (.loop (α:=Unit) (fun _=>[(0,vm),(8,vr),(10,vx),(11,.int .i64 0)]) (fun _ W=>W=w5) (fun _=>0) () ?_ ?_ ?_)
   ·exact lkA rfl
   ·rfl
   rintro _ W rfl
   refine .seq (.sr (.mv O O (.mv O O (.lenR un_M O O hR4 ?_))))
   rw [A4,hp0]
   refine .lssF O O O (by decide) (.nil (.condF O (.exit ?_)))
   rw [hx0]
   exact ⟨rfl,vx,lkA rfl,e5,h5.toR (fun k hk=>up k (by have:=x4.size;omega)) (fun _ h=>h)⟩
  obtain ⟨g,cap,rfl,hcap,hcap2,hgB,fp⟩:=h5.fp (by rw [A1];exact hpos)
  rw [A1] at hcap ⊢
  refine .sr (.an O O ?_)
  refine .block (.loop (α:=Nat) (fun i=>[(0,vm),(7,.int .i64 (colsOf m:Nat)),(8,vr),(9,vp),(10,.slice (some ⟨g,0,none⟩) (colsOf m) cap),(11,.int .i64 (i:Nat))]) (fun i W=>Ext w4 W/\i<=(redP (augM m b)).length/\eM.R (fun k=>S k/\k<w4.heap.size) W vr (tabM (redP (augM m b)).length (colsOf (augM m b)) (redF (augM m b)))/\eI.R (fun k=>S k/\k<w4.heap.size) W vp (pInts (redP (augM m b)))/\FP eQ 54 S W g (tab (colsOf m) (partTo (redF (augM m b)) (redP (augM m b)) (colsOf m) i))) (fun i=>(redP (augM m b)).length-i) 0 ?_ ?_ ?_)
  ·exact lkA rfl
  ·exact ⟨e5,Nat.zero_le _,hR4,hP4,fp⟩
  rintro i W ⟨hW,hi,hRW,hPW,fp⟩
  refine .seq (.sr (.mv O O (.mv O O (.lenR un_M O O hRW ?_))))
  rw [A4]
  rcases Nat.lt_or_ge i (redP (augM m b)).length with hli | hgi
  rotate_left
  ·refine .lssF O O O (by have:=he.len;rw [AH4] at this;omega) (.nil (.condF O (.exit ?_)))
   have:i=(redP (augM m b)).length:=by omega
   subst this
   refine ⟨rfl,_,lkA rfl,hW,?_⟩
   have:=fp.toR (c:=cap) (hsz:=by decide) (up g (by have:=x4.size;omega)) (by rw [A1];exact hcap) (by rw [A1];omega)
   rw [A1] at this
   exact this
  have hli2:i<max m.length b.length:=by have:=he.len;rw [AH4] at this;omega
  have hacp:colsOf (augM m b)=colsOf m+1:=AW7 (by omega)
  have hg:(pInts (redP (augM m b)))[i]?=some (((redP (augM m b)).getD i 0:Nat):Int):=by rw [List.getElem?_map,A9 (z:=0) hli];rfl
  refine .lssT O O O (by omega) (.nil (.condT O (.skip (.seq (.block ?_)))))
  refine .par follows 12 [.inl _,.inl _,.inl (.int .i64 (i:Nat)),.inr (Ptr (eInt .i64) (fun k=>S k/\k<w4.heap.size) (((redP (augM m b)).getD i 0:Nat):Int)),.inl (.int .i64 (((redP (augM m b)).getD i 0:Nat):Int)),.inl _,.inl (.int .i64 (i:Nat)),.inr (Ptr eV (fun k=>S k/\k<w4.heap.size) (tab (colsOf (augM m b)) (redF (augM m b) i))),.inr (eV.at (fun k=>S k/\k<w4.heap.size) (tab (colsOf (augM m b)) (redF (augM m b) i))),.inl (.int .i64 (colsOf m:Nat)),.inr (Ptr eQ (fun k=>S k/\k<w4.heap.size) (qc (redF (augM m b) i (colsOf m)))),.inr (eQ.at (fun k=>S k/\k<w4.heap.size) (qc (redF (augM m b) i (colsOf m))))] [[],[],[],[(33,1),(34,2)],[(35,3)],[],[],[(37,5),(38,6)],[(39,7)],[],[(40,8),(41,9)],[(42,10)]] (by kernel_rfl) ⟨
   fun w e=>(v_mv O).ob,fun w e=>(v_mv O).ob,fun w e=>(v_mv O).ob,
   fun w e=>B5 (i:=i) un_I B6 O (ER.ext eI hPW e) O hg,
   fun w e x hx=>G5 B6 O hx,
   fun w e=>(v_mv O).ob,fun w e=>(v_mv O).ob,
   fun w e=>B5 (i:=i) un_M ty_V O (ER.ext eM hRW e) O (C8 hli),
   fun w e x hx=>I5 ty_V O hx,
   fun w e=>(v_mv O).ob,
   fun w e x hx=>B5 (i:=colsOf m) un_V ty_Q O hx O (G3 (by omega)),
   fun w e x hx=>I5 ty_Q O hx,trivial⟩ ?_
  intro W6 e6 y3 _ y7 _ y8 _ y10 _ y11 hy11
  have hg4:w4.heap.size<=g:=hgB
  refine .ixB (i:=(redP (augM m b)).getD i 0) un_V ty_Q O O O (hplt i hli) (.storeP (E:=eQ) (i:=(redP (augM m b)).getD i 0) (by decide) ty_Q O O (fp.ext e6) O (by rw [A1];exact hplt i hli) (Nat.zero_add _) (eQ.mono (fun k _ h=>⟨h.1,by have:=h.2;omega⟩) hy11) fun W7 f7 u7=>.nil ?_)
  rw [AM1,<-Aw4 he hli] at f7
  refine .region (.mv O O (.add O O O (.an O O ?_)))
  rw [wI (by have:=he.len;rw [AH4] at this;omega)]
  exact ⟨rfl,i+1,lkA rfl,⟨u7.below (hW.trans e6) hg4,hli,ER.upd eM (ER.ext eM hRW e6) u7 (fun h=>by have:=h.2;omega),ER.upd eI (ER.ext eI hPW e6) u7 (fun h=>by have:=h.2;omega),f7⟩,by show (redP (augM m b)).length-(i+1)<(redP (augM m b)).length-i;omega⟩
 rintro x W ⟨hW,hx⟩
 have xW:=x4.trans hW
 refine .sr (.mv O O (.mv O O ?_))
 refine .call _ O As8 O (Aq4 (up.ext xW.size) (hm.ext xW) okm) fun v7 w7 e7 h7=>.asg O O (.asg O O (.an O O (.ret ?_)))
 refine .plain [_,_,_] Tryz.results91 ⟨rfl,rfl,rfl,trivial⟩ ⟨xW.trans e7,_,_,_,rfl,?_,?_,?_⟩
 ·rw [if_pos hs];exact ER.ext eV hx e7
 ·rw [if_pos hs];exact h7
 ·show _=_
  rw [if_pos hs]
end Go.Proofs.YtggegpiffjbngaaGreat
namespace Go.Kx
open Go Go.RowKit
theorem Els.append {α:Type} {E:ER α} {S:Nat->Prop} {w:World} {es fs:List Value} {l s:List α} (h:Els E S w es l) (h':Els E S w fs s):Els E S w (es++fs) (l++s):=by
 refine ⟨by rw [List.length_append,List.length_append,h.1,h'.1],fun i e x he hx=>?_⟩
 rw [List.getElem?_append] at he hx
 rw [h.1] at he
 split at he
 ·rename_i hi
  rw [if_pos hi] at hx
  exact h.2 i e x he hx
 ·rename_i hi
  rw [if_neg hi] at hx
  exact h'.2 _ e x he hx
section
variable {P:Program} {σ:Env} {w:World} {d:Option Tmp} {ty:TypeId} {pos:String} {af:Array Edge} {g:Option (Nat×Bool)} {α:Type} {E:ER α}
theorem g_appLs {tt t:TypeId} {x y:Operand} {z:Value} {by_ base:Nat} {X:Nat->Prop} {v u:Value} {l s:List α} {hsz:0<E.sz} (ht:P.underlying tt=some (.slice t)) (hi:infoOf P t=some (z,E.sz,by_)) (hzs:z.cells.size=E.sz) (hx:ev σ x=some v) (hy:ev σ y=some u)
  (hown:OwnL E t base X w v l) (hs:(RL E hsz).R X w u s) (hX:∀ k,X k->k<base) (hl:l.length<=1000000) (hl2:s.length<=1000000) (hby:by_<=100) (hbase:base<=w.heap.size) :
  Gv P ⟨d,.call { callee:=.builtin .append,args:=#[x,y],argTypes:=#[tt,tt] },ty,pos,af,g⟩ σ w fun v' w'=>OwnL E t base X w' v' (l++s)/\Below base w w':=by
 have hown0:=hown
 obtain ⟨es0,ho,hels⟩:=hown
 obtain ⟨es,he,a,c,rfl,hc,_,hcl,hcells⟩:=hs
 have hone:∀ u∈cellsOf es,one1 u=true:=by
  intro u hu
  obtain ⟨e,he',hu'⟩:=List.mem_flatMap.1 hu
  obtain ⟨i,hi'⟩:=List.mem_iff_getElem?.1 he'
  have hlt:i<s.length:=by rw [<-he.1];exact (List.getElem?_eq_some_iff.1 hi').1
  exact E.one (he.2 i e _ hi' (List.getElem?_eq_getElem hlt)) u hu'
 have fin:∀ v' w',w'.ownsRow base t E.sz v' (l.length+s.length) (cellsOf es0++cellsOf es)->w.grownBy w' v.ownBlock->OwnL E t base X w' v' (l++s)/\Below base w w':=by
  intro v' w' h1 h2
  have hb:Below base w w':=hown0.below h2 (Below.refl _ _) hbase
  have hk:Kp X w w':=fun k c t f hk h=>(hb.block k (hX k hk)).trans h
  have hno:∀ k,X k->v'.ownBlock≠some k:=fun k hk e=>by have:=(h1.lt k e).1;have:=hX k hk;omega
  refine ⟨⟨es0++es,?_,?_⟩,hb⟩
  ·rw [show cellsOf (es0++es)=cellsOf es0++cellsOf es by simp [cellsOf],List.length_append];exact h1
  ·refine Els.append ⟨hels.1,fun i e x he hx=>?_⟩ ⟨he.1,fun i e x he' hx=>?_⟩
   ·exact E.mono (fun k _ hk=>⟨hk,hno k hk⟩) (E.keep hk (E.mono (fun k _ hk=>hk.1) (hels.2 i e x he hx)))
   ·exact E.mono (fun k _ hk=>⟨hk,hno k hk⟩) (E.keep hk (he.2 i e x he' hx))
 have hbytes:(l.length+s.length)*by_<=140737488355328:=by
  have:(l.length+s.length)*by_<=2000000*100:=Nat.mul_le_mul (by omega) hby
  omega
 cases a with
 | some ad =>
  have hcell:∀ j u,(cellsOf es)[j]?=some u->w.cell? (ad.add j)=some u:=by
   intro j u hu
   have hpos:0<s.length:=by
    rcases Nat.eq_zero_or_pos s.length with h0 | h0
    ·have:es=[]:=List.length_eq_zero_iff.1 (by rw [he.1];exact h0)
     subst this
     simp [cellsOf] at hu
    ·exact h0
   obtain ⟨ad',h1,_,h2⟩:=hcells hpos
   cases h1
   exact (h2 j u hu).1
  exact (AZ5 (cellsOf es) ht hi hzs hsz hx hy ho hcl hcell hone (by omega) hbytes hbase).mono fun v' w' ⟨h1,h2⟩=>fin v' w' h1 h2
 | none =>
  have h0:s=[]:=by
   cases s with
   | nil=>rfl
   | cons z s=>obtain ⟨ad,h1,_⟩:=hcells (by simp);cases h1
  subst h0
  refine (BD5 ht hi hx hy ho).gv.mono fun v' w' ⟨h1,h2⟩=>?_
  subst h1;subst h2
  exact ⟨by simpa using hown0,Below.refl _ _⟩
end
end Go.Kx
namespace Go.Proofs.YtggegpiffjbngaaGreat
open Go Go.Kx Go.RowKit
theorem Aa0:Ent Tryz.prog 89:=A0 Tryz.func89 (by kernel_rfl) rfl
set_option maxRecDepth 8000 in
theorem AY3 {S:Nat->Prop} {w:World} {va:Value} {a:List QV} {n L:Nat} (up:Up S w) (ha:eV.R S w va a) (hka:vk L a) (hL1:1<=L) (hL:L<=1000000000) (hn:n<=65536):CR Tryz.prog 89 #[va,.int .i64 (n:Nat)] w (fun v W=>OwnL eQ 54 w.heap.size S W v (tab n (rv a))):=by
 refine enter Tryz.func89 O Tryz.ntmps89 O (.beg (.goC O ?_))
 refine .lp (α:=Nat×Value) [0,1] O (fun y=>[(5,y.2),(6,.int .i64 (y.1:Nat))]) (fun y W=>Ext w W/\y.1<=n/\OwnL eQ 54 w.heap.size S W y.2 (tab y.1 (rv a))) (fun y=>n-y.1) (0,.slice none 0 0) (lc2 O O) ⟨Ext.refl _,Nat.zero_le _,OwnL.nil⟩ ?_
 rintro ⟨i,u⟩ W ⟨hW,hi,hU⟩
 replace hW:Ext w W:=hW
 replace hi:i<=n:=hi
 replace hU:OwnL eQ 54 w.heap.size S W u (tab i (rv a)):=hU
 have zW:=hW.size
 refine .go O ?_
 rcases Nat.lt_or_ge i n with hlt | hge
 rotate_left
 ·have:i=n:=by omega
  subst this
  exact .lssF O O O (by omega) (.goE O (.plain [_] Tryz.results89 ⟨rfl,trivial⟩ ⟨hW,hU⟩))
 obtain ⟨es,ho1,_⟩:=id hU
 have hub:∀ b,u.ownBlock=some b->w.heap.size<=b/\b<W.heap.size:=fun b h=>ho1.lt b h
 have haT:eV.R (fun k=>S k/\u.ownBlock≠some k) W va a:=ER.ext eV (eV.mono (fun k _ h=>⟨h.1,fun e=>by have:=(hub k e).1;have:=h.2;omega⟩) (ER.lt eV ha)) hW
 have hat:=I3 (i:=((i:Nat):Int)) haT
 rw [M4] at hat
 have hq:qok L (a.getD i q0):=(hka.get hL1 i).1
 refine .lssT O O O (by omega) (.go O (.lssT O O O (by omega) (.go O ?_)))
 refine .call _ O I6 O hat fun v1 W1 e1 h1=>?_
 have hW1:=hW.trans e1
 have z1:=e1.size
 refine .call _ O U4 O (U1 (fun k hk=>⟨up k (by omega),fun h=>by have:=(hub k h).2;omega⟩) h1 hq hL1 hL) fun v2 W2 e2 h2=>?_
 have hW2:=e1.trans e2
 have hq':=h2
 obtain ⟨s1,t1,rfl,_,_⟩:=hq'
 refine .bsl _ O O T5 fun W3 b3 n3=>?_
 obtain ⟨d3,k3,hb3,hs3⟩:=n3
 have D3:=hW2.trans d3
 have hW3:=hW.trans D3
 refine .gv O O (J8 (E:=eQ) (base:=w.heap.size) (n:=qc (qval (a.getD i q0))) (by decide) un_V H4 O O O (hU.ext D3) k3 (ER.ext eQ h2 d3) (by rw [A1];omega) (by decide) hW3.size) ?_
 rintro v4 W4 ⟨hO4,g4⟩
 have hW4:Ext w W4:=OwnL.below (hU.ext D3) g4 hW3 hW3.size
 exact .go O (.inc O O O (by omega) (.goN O (.mk (i+1,v4) O (lc2 O O) ⟨⟨hW4,hlt,by show OwnL _ _ _ _ W4 v4 (tab (i+1) (rv a));unfold tab;rw [List.range_succ,List.map_append];exact hO4⟩,by show n-(i+1)<n-i;omega⟩)))
theorem BA1:Ent Tryz.prog 130:=A0 Tryz.func130 (by kernel_rfl) rfl
set_option maxRecDepth 8000 in
theorem Av8 {S:Nat->Prop} {w:World} {va vb:Value} {a b:List QV} {L:Nat} (up:Up S w) (ha:eV.R S w va a) (hb:eV.R S w vb b) (hka:vk L a) (hkb:vk L b) (hL:1<=L) (hL2:L<=100000000) (hla:a.length<=100000000) (hlb:b.length<=100000000) :
  CR Tryz.prog 130 #[va,vb] w (eV.at S (tab (max b.length a.length) fun i=>rv a i-rv b i)):=by
 refine enter Tryz.func130 O Tryz.ntmps130 O (.beg (.go O ?_))
 refine .call _ O X4 O (U8 (n := -1) up (by decide) (by decide)) fun v1 w1 e1 h1=>.go O ?_
 have hq1:qk L (qc ((-1:Int):Rat)):=AA7 ((Rsz.int (L:=1) (-1) (by decide) (by decide)).mono hL)
 refine .call _ O Y8 O (Y5 (up.ext e1.size) h1 (ER.ext eV hb e1) (ER.ext eV ha e1) hq1 hkb hka hL hL2 hlb hla) fun v2 w2 e2 h2=>.goE O ?_
 refine .plain [_] Tryz.results130 ⟨rfl,trivial⟩ ⟨e1.trans e2,?_⟩
 have:(tab (max b.length a.length) fun i=>qval (qc ((-1:Int):Rat))*rv b i+rv a i)=tab (max b.length a.length) fun i=>rv a i-rv b i:=E1 fun i _=>by
  rw [B3,show (((-1:Int)):Rat) = -1 from rfl];grind
 rw [this] at h2
 exact h2
section
variable {S:Nat->Prop} {base g:Nat} {W W':World} {vs:List Value} {ls:List (List QV)}
theorem RwI.toFB {T:Nat->Prop} (h:RwI S base g W vs ls) (hne:∀ m∈ls,0<m.length) (hT:∀ k,base<=k->T k) (hS:∀ k,S k->T k):FB eV 32 T W g ls:=by
 obtain ⟨es,hb,he⟩:=h.out
 refine ⟨es,hb,by rw [he.1,h.len],fun i e m h1 h2=>?_⟩
 have hi:i<vs.length:=by rw [<-he.1];exact (List.getElem?_eq_some_iff.1 h1).1
 have h3:=List.getElem?_eq_getElem hi
 generalize vs[i]=u at h3
 have hu:u∈vs:=List.mem_iff_getElem?.2 ⟨i,h3⟩
 have h4:=(he.2 i e u h1 h3).1
 subst h4
 have ho:=h.inn i _ m h3 h2
 obtain ⟨g',cap,rfl,c1,c2,c3,hf⟩:=ho.fp (hne m (List.mem_iff_getElem?.2 ⟨i,h2⟩))
 exact (hf.mono (S':=fun k=>T k/\k≠g) fun k _ hk=>⟨hS k hk.1,hk.2.1⟩).toR (hsz:=by decide) ⟨hT g' c3,fun e=>h.ne_g hu (by rw [<-e];rfl)⟩ c1 (by omega)
end
theorem Ap6 (b c:Nat):uniR (b:Nat) c=dl b c:=by
 unfold uniR dl
 by_cases h:b=c
 ·subst h;simp
 ·have:¬ ((c:Int)=(b:Int)):=by omega
  simp [h,this]
theorem Aj0:Ent Tryz.prog 30:=A0 Tryz.func30 (by kernel_rfl) rfl
open Classical in
set_option maxRecDepth 8000 in
theorem Af6 {S:Nat->Prop} {w:World} {vn vo vx:Value} {n:NtV} {o:List Int} {x:List QV} {L:Nat} (up:Up S w) (hn:eN.R S w vn n) (ho:eI.R S w vo o) (hx:eV.R S w vx x) (hkx:vk L x) (hL1:1<=L) (hL:L<=9000) :
  CR Tryz.prog 30 #[vn,vo,vx] w (Two (eV.at S (if anE n o x=0 then tab (nwOf n o).B ((nwOf n o).an (rv x)) else [])) (Is (.int .i64 (anE n o x)))):=by
 obtain ⟨s,rfl,hs,hb⟩:=hn
 have hn:eN.R S w (.agg #[.int .i64 n.b,s]) n:=⟨s,rfl,hs,hb⟩
 refine enter Tryz.func30 O Tryz.ntmps30 O (.beg (.go O (.box O O fun w1 b3 n1=>?_)))
 obtain ⟨e1,k3,hb3,hs1⟩:=n1
 refine .go O (.ldA ty_N O O k3 O (.go O ?_))
 refine .call _ O AX4 O (AV9 (up.ext e1.size) (hn.ext e1) (ho.ext e1) (ER.ext eV hx e1) hkx hL1 (by omega)) fun v2 w2 e2 h2=>?_
 obtain ⟨vb,ve,rfl,rfl,rfl⟩:=h2
 have x2:=e1.trans e2
 refine .go O ?_
 by_cases hE:sfE n o x.length=0
 rotate_left
 ·have hb:anE n o x=sfE n o x.length:=by unfold anE;rw [if_pos hE]
  refine .neqT O O O hE (.goE O ?_)
  refine .plain [_,_] Tryz.results30 ⟨rfl,rfl,trivial⟩ ⟨x2,_,_,rfl,?_,by rw [hb]⟩
  rw [if_neg (by rw [hb];exact hE)];exact RL.nil
 by_cases hB:(nwOf n o).bal (rv x)
 rotate_left
 ·have hb:anE n o x=10:=by unfold anE;rw [if_neg (by simpa using hE),if_neg hB]
  rw [decide_eq_false fun h=>hB h.2]
  refine .neqF O O O hE (.goE O ?_)
  refine .plain [_,_] Tryz.results30 ⟨rfl,rfl,trivial⟩ ⟨x2,_,_,rfl,?_,by rw [hb]⟩
  rw [if_neg (by rw [hb];decide)];exact RL.nil
 have hno:anE n o x=0:=by unfold anE;rw [if_neg (by simpa using hE),if_pos hB]
 rw [decide_eq_true ⟨hE,hB⟩,if_pos hno]
 obtain ⟨hO,hxb⟩:=BQ6 hE
 have ok:=N1 hO
 have hB6:=ok.b6
 have hB1:=ok.b1
 have hnb:=ok.b
 refine .neqF O O O hE (.go O (.ldA ty_N O O (k3.ext e2) O (.go O ?_)))
 refine .call _ O Al3 O (Ak0 (up.ext x2.size) (hn.ext x2) (ho.ext x2)) fun v4 w4 e4 h4=>?_
 obtain ⟨vm,ve,rfl,hm,rfl⟩:=h4
 rw [if_pos hO] at hm
 obtain ⟨gb,vs,base,rfl,hz0,hgb,hR⟩:=hm
 have x4:=x2.trans e4
 have hs2:=x2.size
 have hs4:=e4.size
 have hF:FB eV 32 S w4 gb (tabM (nwOf n o).B (nwOf n o).B (nwOf n o).Lm):=by
  rw [<-Nw.tab_Lk ok.ok]
  refine hR.toFB (fun m hm=>?_) (fun k hk=>up k (by omega)) fun k hk=>hk
  unfold tabM at hm
  obtain ⟨i,_,rfl⟩:=List.mem_map.1 hm
  rw [A1];exact hB1
 have hglt:=hF.lt
 have hk3:=k3.lt
 clear hR
 have old:∀ {α:Type} (E:ER α) {v:Value} {y:α},E.R S w v y->E.R (fun k=>S k/\k≠gb) w4 v y:=fun E v y h=>E.mono (fun k _ h=>⟨h.1,by have:=h.2;omega⟩) (ER.ext E (ER.lt E h) x4)
 have k3:=k3.ext (e2.trans e4)
 refine .go O (.ldA ty_N O O k3 O (.go O ?_))
 refine .call _ O AH5 O (AG2 (S:=fun k=>S k/\k≠gb) (fun k hk=>⟨up k (by omega),by omega⟩) (old eN hn) (old eI ho)) fun v5 w5 e5 h5=>?_
 obtain ⟨vr,ve,rfl,hr,he⟩:=h5
 replace he:ve=.int .i64 (outE n o):=he
 subst he
 have hlb:labB n o=(nwOf n o).B:=by unfold labB;rw [if_pos hO]
 replace hr:eI.R (fun k=>S k/\k≠gb) w5 vr (pInts ((nwOf n o).refsTo (labB n o))):=hr
 rw [hlb] at hr
 replace hr:eI.R (fun k=>S k/\k≠gb) w5 vr (pInts (nwOf n o).refs):=hr
 have hs5:=e5.size
 have k3:=k3.ext e5
 refine .go O (.fa E5 O O (.go O (.ld A3 O O k3 O ?_)))
 rw [hnb]
 refine .call _ O Aa0 O (AY3 (S:=fun k=>S k/\k≠gb) (fun k hk=>⟨up k (by omega),by omega⟩) (ER.ext eV (old eV hx) e5) hkx hL1 (by omega) (by omega)) fun v6 w6 e6 h6=>?_
 have hs6:=e6.size
 have hV6:eV.R (fun k=>(S k/\k≠gb)/\k<w6.heap.size) w6 v6 (tab (nwOf n o).B (rv x)):=ER.lt eV (h6.toR (hsz:=by decide) (fun k hk=>⟨up k (by omega),by omega⟩) fun k hk=>hk)
 refine .gv O O (g_appLs (E:=eQ) (hsz:=by decide) (base:=w6.heap.size) (X:=fun k=>(S k/\k≠gb)/\k<w6.heap.size) un_V H4 O O O OwnL.nil hV6 (fun k h=>h.2) (by simp) (by rw [A1];omega) (by decide) (Nat.le_refl _)) ?_
 rintro v7 w7 ⟨hO7,b7⟩
 have e7:Ext w6 w7:=b7
 rw [List.nil_append] at hO7
 obtain ⟨gr,cap,rfl,hc1,hc2,hgr,fr⟩:=hO7.fp (by rw [A1];omega)
 rw [A1] at hc1
 rw [A1]
 have hs7:=e7.size
 have hgrl:=fr.lt
 have e57:=(e5.trans e6).trans e7
 have x7:=x4.trans e57
 have k3:=k3.ext (e6.trans e7)
 have hF:FB eV 32 (fun k=>S k/\k≠gr) w7 gb (tabM (nwOf n o).B (nwOf n o).B (nwOf n o).Lm):=(hF.mono (S':=fun k=>S k/\k≠gr) fun k hk h=>⟨h,by omega⟩).ext e57
 have fr:FP eQ 54 (fun k=>S k/\k≠gb) w7 gr (tab (nwOf n o).B (rv x)):=fr.mono fun k _ h=>h.1
 have hr:eI.R (fun k=>(S k/\k≠gb)/\k≠gr) w7 vr (pInts (nwOf n o).refs):=ER.ext eI (eI.mono (fun k _ h=>⟨h.1,by have:=h.2;omega⟩) (ER.lt eI hr)) (e6.trans e7)
 have hrW:∀ {W:World},Chg (fun k=>k=gb\/k=gr) w7 W->eI.R (fun k=>(S k/\k≠gb)/\k≠gr) W vr (pInts (nwOf n o).refs):=fun hC=>eI.keep (hC.kp fun k hk h=>h.elim (fun e=>hk.1.2 e) fun e=>hk.2 e) hr
 have hkW:∀ {W:World},Chg (fun k=>k=gb\/k=gr) w7 W->Blk W b3 24 #[.int .i64 n.b,s]:=fun hC=>hC.blk k3 fun h=>by have:=hb3;have:=e2.size;rcases h with h | h<;>omega
 rw [hnb] at hkW
 have hrl:(nwOf n o).refs.length<=(nwOf n o).B:=(nwOf n o).cnt_le (nwOf n o).B
 generalize hG:(fun i=>fun b c=>if b∈(nwOf n o).refs.take i then dl b c else (nwOf n o).Lm b c:Nat->RM)=G
 generalize hY:(fun i=>fun b=>if b∈(nwOf n o).refs.take i then 0 else rv x b:Nat->Nat->Rat)=Y
 refine .goC O ?_
 refine .lp (α:=Nat) [3,10,12,14] O (fun i=>[(15,.int .i64 (i:Nat))]) (fun i W=>i<=(nwOf n o).refs.length/\Chg (fun k=>k=gb\/k=gr) w7 W/\FB eV 32 (fun k=>S k/\k≠gr) W gb (tabM (nwOf n o).B (nwOf n o).B (G i))/\FP eQ 54 (fun k=>S k/\k≠gb) W gr (tab (nwOf n o).B (Y i))) (fun i=>(nwOf n o).refs.length-i) 0 (lc1 O) ⟨Nat.zero_le _,Chg.refl _,by rw [<-hG];simpa using hF,by rw [<-hY];simpa using fr⟩ ?_
 clear hF fr
 rintro i W ⟨hi,hC,hF,fr⟩
 have hCs:=hC.size
 refine .go O (.lenR un_I O O (hrW hC) (.go O ?_))
 rw [show (pInts (nwOf n o).refs).length=(nwOf n o).refs.length by simp]
 rcases Nat.lt_or_ge i (nwOf n o).refs.length with hlt | hge
 rotate_left
 ·have:i=(nwOf n o).refs.length:=by omega
  subst this
  have hmem:∀ b,b<(nwOf n o).B->(b∈(nwOf n o).refs.take (nwOf n o).refs.length<->(nwOf n o).root b=b):=fun b hb=>by
   rw [List.take_of_length_le (Nat.le_refl _),Nw.mem_refs]
   exact ⟨fun h=>h.2,fun h=>⟨hb,h⟩⟩
  have hA:tabM (nwOf n o).B (nwOf n o).B (G (nwOf n o).refs.length)=(nwOf n o).gA:=C9 fun b c hb _=>by
   rw [<-hG]
   unfold Nw.gm
   dsimp only
   by_cases h:(nwOf n o).root b=b
   ·rw [if_pos h,if_pos ((hmem b hb).2 h)]
   ·rw [if_neg h,if_neg fun h'=>h ((hmem b hb).1 h')]
  rw [hA] at hF
  have hRm:eM.R S W (slB (nwOf n o).B gb) (nwOf n o).gA:=by
   have:=(hF.mono (S':=S) fun k _ h=>h.1).toR (hsz:=by decide) (c:=(nwOf n o).B) (up gb (by omega)) (by rw [K7];exact Nat.le_refl _) (by rw [K7];omega)
   rw [K7] at this
   exact this
  have hRr:eV.R S W (.slice (some ⟨gr,0,none⟩) (nwOf n o).B cap) (tab (nwOf n o).B (Y (nwOf n o).refs.length)):=by
   have:=(fr.mono (S':=S) fun k _ h=>h.1).toR (hsz:=by decide) (c:=cap) (up gr (by omega)) (by rw [A1];exact hc1) (by rw [A1];omega)
   rw [A1] at this
   exact this
  have hxW:Ext w W:=hC.below x7 (by omega) (fun k hk=>by omega)
  obtain ⟨hsv,hsol⟩:=an_sol ok (r:=tab (nwOf n o).B (Y (nwOf n o).refs.length)) (x:=x) (A1 ..) fun b hb=>by
   rw [M2,if_pos hb,<-hY]
   unfold Nw.inj0
   dsimp only
   by_cases h:(nwOf n o).root b=b
   ·rw [if_pos h,if_pos ((hmem b hb).2 h)]
   ·rw [if_neg h,if_neg fun h'=>h ((hmem b hb).1 h')]
  have hkY:vk (max 21 L) (tab (nwOf n o).B (Y (nwOf n o).refs.length)):=X8 fun b _=>by
   rw [<-hY]
   dsimp only
   split
   ·exact Rsz.zero (by omega)
   ·exact (hkx.rsz hL1 b).mono (by omega)
  refine .lssF O O O (by omega) (.go O ?_)
  refine .call _ O Al7 O (Ak4 (L:=max 21 L) (n:=6) (up.ext hxW.size) hRm hRr ((BJ1 ok).mono (by omega)) hkY (by omega) (by rw [K7];omega) (by rw [A1];omega) (by rw [AN0 hB1];omega) (by rw [K7,A1];omega) (by rw [bd6];omega)) fun v7 w7' e7' h7=>?_
  obtain ⟨va,vz,ve,rfl,ha,_,rfl⟩:=h7
  rw [if_pos hsv] at ha
  rw [if_pos hsv]
  have k3W:=(hkW hC).ext e7'
  have hka:vk 600000 (solX (nwOf n o).gA (tab (nwOf n o).B (Y (nwOf n o).refs.length))):=by
   have h1:solX (nwOf n o).gA (tab (nwOf n o).B (Y (nwOf n o).refs.length))=tab (nwOf n o).B (rv (solX (nwOf n o).gA (tab (nwOf n o).B (Y (nwOf n o).refs.length)))):=by
    unfold solX
    rw [AN0 hB1]
    exact E1 fun k hk=>by rw [M2,if_pos hk]
   rw [h1,hsol]
   exact X8 fun c _=>(BV2 ok hL1 (fun b=>hkx.rsz hL1 b) c).mono (by omega)
  refine .go O (.fa E5 O O (.go O (.ld A3 O O k3W O ?_)))
  refine .call _ O Aa0 O (AY3 (n:=(nwOf n o).B) (up.ext (hxW.trans e7').size) ha hka (by decide) (by decide) (by omega)) fun v8 w8 e8 h8=>.goE O ?_
  have h8:=h8.toR (S:=S) (hsz:=by decide) (fun k hk=>up k (by have:=(hxW.trans e7').size;omega)) fun k hk=>hk
  rw [hsol] at h8
  exact .plain [_,_] Tryz.results30 ⟨rfl,rfl,trivial⟩ ⟨(hxW.trans e7').trans e8,_,_,rfl,h8,by rw [hno]⟩
 have hgr':(pInts (nwOf n o).refs)[i]?=some (((nwOf n o).refs.getD i 0:Nat):Int):=by rw [List.getElem?_map,A9 (z:=0) hlt];rfl
 have hrB:(nwOf n o).refs.getD i 0<(nwOf n o).B:=(Nw.mem_refs.1 (F6 hlt)).1
 have htk:(nwOf n o).refs.take (i+1)=(nwOf n o).refs.take i++[(nwOf n o).refs.getD i 0]:=by rw [List.take_add_one,A9 (z:=0) hlt];rfl
 generalize hb0:(nwOf n o).refs.getD i 0=b at hrB htk hgr'
 have hrC:=hrW hC
 have kC:=hkW hC
 refine .lssT O O O (by omega) (.goC O ?_)
 refine .par follows 12 [.inl _,.inl _,.inl _,.inr (Ptr (eInt .i64) (fun k=>(S k/\k≠gb)/\k≠gr) ((b:Nat):Int)),.inl (.int .i64 (b:Nat)),.inl _,.inl (.int .i64 ((nwOf n o).B:Nat)),.inl _,.inl _,.inr (Ptr (eInt .i64) (fun k=>(S k/\k≠gb)/\k≠gr) ((b:Nat):Int)),.inl (.int .i64 (b:Nat)),.inr (eV.at (fun k=>(S k/\k≠gr)/\k≠gb) (tab (nwOf n o).B (uniR (b:Nat))))] [[],[],[],[(55,1),(56,2)],[(57,3)],[],[(59,5)],[],[],[(61,7),(62,8)],[(63,9)],[(60,6),(64,10)]] (by kernel_rfl) ⟨
  fun w e=>(v_mv O).ob,
  fun w e=>(v_mv O).ob,
  fun w e=>(v_mv O).ob,
  fun w e=>B5 (i:=i) un_I B6 O (ER.ext eI hrC e) O hgr',
  fun w e x3 hx3=>G5 B6 O hx3,
  fun w e=>(v_fa E5 O).ob,
  fun w e=>(v_ld A3 O (kC.ext e) O).ob,
  fun w e=>(v_mv O).ob,
  fun w e=>(v_mv O).ob,
  fun w e=>B5 (i:=i) un_I B6 O (ER.ext eI hrC e) O hgr',
  fun w e x9 hx9=>G5 B6 O hx9,
  fun w e=>(A2 _ O2 O (Ac8 (S:=(fun k=>(S k/\k≠gr)/\k≠gb)) (fun k hk=>⟨⟨up k (by have:=e.size;omega),by have:=e.size;omega⟩,by have:=e.size;omega⟩) (by omega))).ob (A5 _ _ _),trivial⟩ ?_
 intro W1 e7' y3 hy3 y9 hy9 y11 hy11
 have hs7':=e7'.size
 refine .ixB (i:=b) un_M ty_V O O O hrB (.storeF (E:=eV) (i:=b) (by decide) ty_V O O (hF.ext e7') O (by rw [A4];exact hrB) (Nat.zero_add _) hy11 fun W2 f2 u2=>?_)
 have hs2':=u2.size
 have fr:=(fr.ext e7').upd u2 (by omega) fun h=>h.2 rfl
 have hC2:Chg (fun k=>k=gb\/k=gr) w7 W2:=(hC.trans (Chg.ext e7')).trans (Chg.upd u2 (.inl O))
 refine .go O (.ixN (i:=i) un_I B6 O O (hrW hC2) O hgr' fun q hq=>.ldE (E:=eInt .i64) B6 O O hq fun e he=>?_)
 obtain ⟨rfl,_⟩:=he
 refine .bld _ O O R9 (.ixB (i:=b) un_V ty_Q O O O hrB (.storeP (E:=eQ) (i:=b) (by decide) ty_Q O O fr O (by rw [A1];exact hrB) (Nat.zero_add _) (zq_R (S:=fun k=>(S k/\k≠gb)/\k≠gr)) fun W3 f3 u3=>?_))
 have f2:=f2.upd u3 (by omega) fun h=>h.2 rfl
 rw [M9 hrB] at f2
 rw [<-N6,AM1] at f3
 have hm:∀ b',b'∈(nwOf n o).refs.take (i+1)<->b'∈(nwOf n o).refs.take i\/b'=b:=fun b'=>by rw [htk,List.mem_append,List.mem_singleton]
 have hs1:tabM (nwOf n o).B (nwOf n o).B (fun j k=>if j=b then uniR (b:Nat) k else G i j k)=tabM (nwOf n o).B (nwOf n o).B (G (i+1)):=C9 fun j c _ _=>by
  rw [<-hG]
  dsimp only
  by_cases e:j=b
  ·rw [if_pos e,if_pos ((hm j).2 (.inr e)),e,Ap6]
  ·rw [if_neg e]
   by_cases h:j∈(nwOf n o).refs.take i
   ·rw [if_pos h,if_pos ((hm j).2 (.inl h))]
   ·rw [if_neg h,if_neg fun h'=>((hm j).1 h').elim h e]
 have hs2:(tab (nwOf n o).B fun j=>if j=b then 0 else Y i j)=tab (nwOf n o).B (Y (i+1)):=E1 fun j _=>by
  rw [<-hY]
  dsimp only
  by_cases e:j=b
  ·rw [if_pos e,if_pos ((hm j).2 (.inr e))]
  ·rw [if_neg e]
   by_cases h:j∈(nwOf n o).refs.take i
   ·rw [if_pos h,if_pos ((hm j).2 (.inl h))]
   ·rw [if_neg h,if_neg fun h'=>((hm j).1 h').elim h e]
 rw [hs1] at f2
 rw [hs2] at f3
 exact .go O (.inc O O O (by omega) (.goN O (.mk (i+1) O (lc1 O) ⟨⟨hlt,hC2.trans (Chg.upd u3 (.inr O)),f2,f3⟩,by show (nwOf n o).refs.length-(i+1)<(nwOf n o).refs.length-i;omega⟩)))
theorem Al4:Ent Tryz.prog 31:=A0 Tryz.func31 (by kernel_rfl) rfl
open Classical in
set_option maxRecDepth 8000 in
theorem Ak1 {S:Nat->Prop} {w:World} {vn vo vx:Value} {n:NtV} {o:List Int} {x:List QV} {L:Nat} (up:Up S w) (hn:eN.R S w vn n) (ho:eI.R S w vo o) (hx:eV.R S w vx x) (hkx:vk L x) (hL1:1<=L) (hL:L<=9000) :
  CR Tryz.prog 31 #[vn,vo,vx] w (Two (eV.at S (if anE n o x=0 then tab n.ls.length ((nwOf n o).fl ((nwOf n o).an (rv x))) else [])) (Is (.int .i64 (anE n o x)))):=by
 obtain ⟨s,rfl,hs,hb⟩:=hn
 have hn:eN.R S w (.agg #[.int .i64 n.b,s]) n:=⟨s,rfl,hs,hb⟩
 refine enter Tryz.func31 O Tryz.ntmps31 O (.beg (.go O (.box O O fun w1 b3 n1=>?_)))
 obtain ⟨e1,k3,hb3,hs1⟩:=n1
 refine .go O (.ldA ty_N O O k3 O (.go O ?_))
 refine .call _ O Aj0 O (Af6 (up.ext e1.size) (hn.ext e1) (ho.ext e1) (ER.ext eV hx e1) hkx hL1 hL) fun v2 w2 e2 h2=>?_
 obtain ⟨va,ve,rfl,ha,he⟩:=h2
 replace he:ve=.int .i64 (anE n o x):=he
 subst he
 have x2:=e1.trans e2
 refine .go O ?_
 by_cases hE:anE n o x=0
 rotate_left
 ·refine .neqT O O O hE (.goE O (.plain [_,_] Tryz.results31 ⟨rfl,rfl,trivial⟩ ⟨x2,_,_,rfl,?_,rfl⟩))
  rw [if_neg hE];exact RL.nil
 have hO:=(BQ6 (anE_ok hE).1).1
 have ok:=N1 hO
 have hnb:=ok.b
 rw [if_pos hE] at ha
 replace ha:eV.R S w2 va (tab (nwOf n o).B ((nwOf n o).an (rv x))):=ha
 have hka:vk 600000 (tab (nwOf n o).B ((nwOf n o).an (rv x))):=X8 fun c _=>(BV2 ok hL1 (fun b=>hkx.rsz hL1 b) c).mono (by omega)
 refine .neqF O O O hE (.go O (.ldA ty_N O O (k3.ext e2) O (.go O ?_)))
 have hc:=Af5 (L:=600000) (up.ext x2.size) (hn.ext x2) (ho.ext x2) ha hka (by decide) (by decide)
 have hsf:sfE n o (tab (nwOf n o).B ((nwOf n o).an (rv x))).length=0:=by unfold sfE;rw [A1,if_neg (by simpa using hO),if_pos (by omega)]
 rw [hsf,if_pos rfl] at hc
 refine .call _ O Ai9 O hc fun v4 w4 e4 h4=>?_
 obtain ⟨vf,ve,rfl,hf,rfl⟩:=h4
 refine .goE O (.plain [_,_] Tryz.results31 ⟨rfl,rfl,trivial⟩ ⟨x2.trans e4,_,_,rfl,?_,by rw [hE]⟩)
 rw [if_pos hE]
 have:tab n.ls.length ((nwOf n o).fl (rv (tab (nwOf n o).B ((nwOf n o).an (rv x)))))=tab n.ls.length ((nwOf n o).fl ((nwOf n o).an (rv x))):=E1 fun k hk=>by
  unfold Nw.fl
  rw [M2,if_pos (ok.f k hk),M2,if_pos (ok.t k hk)]
 rw [this] at hf
 exact hf
theorem Aj1:Ent Tryz.prog 69:=A0 Tryz.func69 (by kernel_rfl) rfl
set_option maxRecDepth 8000 in
theorem Af7 {S:Nat->Prop} {w:World} {vn vo:Value} {n:NtV} {o:List Int} {a b:Int} (up:Up S w) (hn:eN.R S w vn n) (ho:eI.R S w vo o) :
  CR Tryz.prog 69 #[vn,vo,.int .i64 a,.int .i64 b] w (Two (Is (.bool (conB n o a b))) (Is (.int .i64 (conE n o a b)))):=by
 obtain ⟨s,rfl,hs,hb⟩:=hn
 have hn:eN.R S w (.agg #[.int .i64 n.b,s]) n:=⟨s,rfl,hs,hb⟩
 refine enter Tryz.func69 O Tryz.ntmps69 O (.beg (.go O (.box O O fun w1 b3 n1=>.go O ?_)))
 obtain ⟨e1,k3,hb3,hs1⟩:=n1
 replace k3:Blk w1 b3 24 #[.int .i64 n.b,s]:=k3
 refine .ldA ty_N O O k3 O (.go O ?_)
 refine .call _ O AH6 O (AG3 (up.ext e1.size) (hn.ext e1) (ho.ext e1)) fun v3 w3 e3 h3=>?_
 obtain ⟨vl,ve,rfl,hl,he⟩:=h3
 replace he:ve=.int .i64 (outE n o):=he
 subst he
 have x3:=e1.trans e3
 have k3:=k3.ext e3
 have hno:∀ {p:Int},conE n o a b=p->p≠0->conB n o a b=false:=fun h hp=>by
  unfold conB
  exact decide_eq_false fun h'=>hp (h▸h'.1)
 refine .go O ?_
 by_cases hO:outE n o=0
 rotate_left
 ·have hce:conE n o a b=outE n o:=by unfold conE;rw [if_pos hO]
  refine .neqT O O O hO (.goE O (.plain [_,_] Tryz.results69 ⟨rfl,rfl,trivial⟩ ⟨x3,_,_,rfl,?_,by rw [hce]⟩))
  rw [hno hce hO]
 have ok:=N1 hO
 have hnb:=ok.b
 rw [if_pos hO] at hl
 have bad:¬ (busB n a/\busB n b)->conE n o a b=1:=fun h=>by unfold conE;rw [if_neg (by simpa using hO),if_neg h]
 have out1:¬ (busB n a/\busB n b)->∀ {W:World},Ext w W->Ext w W/\Two (Is (.bool (conB n o a b))) (Is (.int .i64 (conE n o a b))) (tup [.bool false,.int .i64 1]) W:=fun h W hx=>⟨hx,_,_,rfl,by rw [hno (bad h) (by decide)],by rw [bad h]⟩
 refine .neqF O O O hO (.go O ?_)
 by_cases ha0:a<0
 ·exact .lssT O O O ha0 (.goE O (.plain [_,_] Tryz.results69 ⟨rfl,rfl,trivial⟩ (out1 (fun h=>by have:=h.1.1;omega) x3)))
 refine .lssF O O O ha0 (.go O (.fa E5 O O (.go O (.ld A3 O O k3 O (.go O ?_)))))
 by_cases ha1:n.b<=a
 ·exact .geqT O O O ha1 (.goE O (.plain [_,_] Tryz.results69 ⟨rfl,rfl,trivial⟩ (out1 (fun h=>by have:=h.1.2;omega) x3)))
 refine .geqF O O O ha1 (.go O ?_)
 by_cases hb0:b<0
 ·exact .lssT O O O hb0 (.goE O (.plain [_,_] Tryz.results69 ⟨rfl,rfl,trivial⟩ (out1 (fun h=>by have:=h.2.1;omega) x3)))
 refine .lssF O O O hb0 (.go O (.fa E5 O O (.go O (.ld A3 O O k3 O (.go O ?_)))))
 by_cases hb1:n.b<=b
 ·exact .geqT O O O hb1 (.goE O (.plain [_,_] Tryz.results69 ⟨rfl,rfl,trivial⟩ (out1 (fun h=>by have:=h.2.2;omega) x3)))
 have hce:conE n o a b=0:=by unfold conE;rw [if_neg (by simpa using hO),if_pos ⟨⟨by omega,by omega⟩,by omega,by omega⟩]
 obtain ⟨a',rfl⟩:=Int.eq_ofNat_of_zero_le (show 0<=a by omega)
 obtain ⟨b',rfl⟩:=Int.eq_ofNat_of_zero_le (show 0<=b by omega)
 have hga:(tabI (nwOf n o).B (nwOf n o).lab)[a']?=some (((nwOf n o).lab a':Nat):Int):=P9 (by omega)
 have hgb:(tabI (nwOf n o).B (nwOf n o).lab)[b']?=some (((nwOf n o).lab b':Nat):Int):=P9 (by omega)
 have hle:=(nwOf n o).lab_eq (a:=a') (b:=b') (by omega) (by omega)
 have hcb:conB n o (a':Nat) (b':Nat)=decide ((((nwOf n o).lab a':Nat):Int)=(((nwOf n o).lab b':Nat):Int)):=by
  unfold conB
  have hq:(conE n o (a':Nat) (b':Nat)=0/\(nwOf n o).root ((a':Nat):Int).toNat=(nwOf n o).root ((b':Nat):Int).toNat)<->(((nwOf n o).lab a':Nat):Int)=(((nwOf n o).lab b':Nat):Int):=by
   constructor
   ·exact fun h=>by have:=hle.2 h.2;omega
   ·exact fun h=>⟨hce,hle.1 (by omega)⟩
  by_cases h:(((nwOf n o).lab a':Nat):Int)=(((nwOf n o).lab b':Nat):Int)
  ·rw [decide_eq_true h,decide_eq_true (hq.2 h)]
  ·rw [decide_eq_false h,decide_eq_false fun h'=>h (hq.1 h')]
 rw [hcb,hce]
 refine .geqF O O O hb1 (.goC O ?_)
 refine .par follows 8 [.inl _,.inl _,.inr (Ptr (eInt .i64) S (((nwOf n o).lab a':Nat):Int)),.inl (.int .i64 ((nwOf n o).lab a':Nat)),.inl _,.inl _,.inr (Ptr (eInt .i64) S (((nwOf n o).lab b':Nat):Int)),.inl (.int .i64 ((nwOf n o).lab b':Nat))] [[],[],[(39,0),(40,1)],[(41,2)],[],[],[(43,4),(44,5)],[(45,6)]] (by kernel_rfl) ⟨
  fun w e=>(v_mv O).ob,
  fun w e=>(v_mv O).ob,
  fun w e=>B5 (i:=a') un_I B6 O (ER.ext eI hl e) O hga,
  fun w e x2 hx2=>G5 A3 O hx2,
  fun w e=>(v_mv O).ob,
  fun w e=>(v_mv O).ob,
  fun w e=>B5 (i:=b') un_I B6 O (ER.ext eI hl e) O hgb,
  fun w e x6 hx6=>G5 A3 O hx6,trivial⟩ ?_
 intro W7 d7 y2 hy2 y6 hy6
 by_cases h:(((nwOf n o).lab a':Nat):Int)=(((nwOf n o).lab b':Nat):Int)
 ·rw [decide_eq_true h]
  exact .eqlT O O O h (.goE O (.plain [_,_] Tryz.results69 ⟨rfl,rfl,trivial⟩ ⟨x3.trans d7,_,_,rfl,rfl,rfl⟩))
 ·rw [decide_eq_false h]
  exact .eqlF O O O h (.goE O (.plain [_,_] Tryz.results69 ⟨rfl,rfl,trivial⟩ ⟨x3.trans d7,_,_,rfl,rfl,rfl⟩))
end Go.Proofs.YtggegpiffjbngaaGreat
namespace Go.Kx
open Go Go.RowKit
def Nw.cut (n:Nw) (k:Nat):Nw:={ n with g:=fun j=>if j=k then 0 else n.g j }
section
variable {n:Nw} {k:Nat}
def Nw.bt (n:Nw) (k l:Nat):Rat:=n.hf l (n.F k)-n.hf l (n.T k)
theorem BJ4 (a b:Nat):dl a b=dl b a:=by
 by_cases h:a=b
 ·subst h;rfl
 ·rw [BJ3 h,BJ3 (Ne.symm h)]
def Nw.rst (n:Nw) (k:Nat):Rat:=1-n.bt k k
def Nw.lo (n:Nw) (k l:Nat):Rat:=if l=k then -1 else n.bt k l / n.rst k
end
end Go.Kx
namespace Go.Proofs.YtggegpiffjbngaaGreat
open Go Go.Kx Go.RowKit
section
variable {n:NtV} {o:List Int} {a b:Nat}
def trX (B a b:Nat):List QV:=tab (max (tab B (uniR (b:Nat))).length (tab B (uniR (a:Nat))).length) fun i=>rv (tab B (uniR (a:Nat))) i-rv (tab B (uniR (b:Nat))) i
theorem BP6 {B c:Nat} (hc:c<B):rv (trX B a b) c=dl a c-dl b c:=by
 unfold trX
 rw [A1,A1,Nat.max_self,M2,if_pos hc,M2,if_pos hc,M2,if_pos hc,Ap6,Ap6]
theorem trX_len (B:Nat):(trX B a b).length=B:=by unfold trX;rw [A1,A1,A1,Nat.max_self]
theorem trX_vk (B:Nat):vk 3 (trX B a b):=X8 fun i _=>by
 have:=((Ae8 B a).rsz (Nat.le_refl _) i).add ((Ae8 B b).rsz (Nat.le_refl _) i).neg
 rw [<-Rat.sub_eq_add_neg] at this
 exact this
theorem trX_an (hO:outE n o=0) (ha:a<(nwOf n o).B) (hb:b<(nwOf n o).B) (hr:(nwOf n o).root a=(nwOf n o).root b):anE n o (trX (nwOf n o).B a b)=0:=by
 have ok:=N1 hO
 refine anE_of hO (by rw [trX_len,ok.b];exact Int.le_refl _) fun r hr' hrr=>?_
 have h1:sumN (nwOf n o).B (fun c=>if (nwOf n o).root c=r then rv (trX (nwOf n o).B a b) c else 0)=sumN (nwOf n o).B (fun c=>if (nwOf n o).root c=r then dl c a-dl c b else 0):=A6 fun c hc=>by
  rw [BP6 hc,BJ4 a c,BJ4 b c]
 rw [h1,sum_two ha hb (fun c=>(nwOf n o).root c=r),hr]
 split<;>grind
theorem trX_fl (hO:outE n o=0) (ha:a<(nwOf n o).B) (hb:b<(nwOf n o).B):tab n.ls.length ((nwOf n o).fl ((nwOf n o).an (rv (trX (nwOf n o).B a b))))=btV n o a b:=E1 fun k hk=>by
 have ok:=N1 hO
 rw [Nw.fl_an ok.ok _ hk]
 have h1:sumN (nwOf n o).B (fun c=>(nwOf n o).hf k c*rv (trX (nwOf n o).B a b) c)=sumN (nwOf n o).B (fun c=>(nwOf n o).hf k c*dl a c-(nwOf n o).hf k c*dl b c):=A6 fun c hc=>by
  rw [BP6 hc];grind
 rw [h1,AE6,AP1 _ ha,AP1 _ hb]
end
theorem AI8:Ent Tryz.prog 66:=A0 Tryz.func66 (by kernel_rfl) rfl
set_option maxRecDepth 8000 in
theorem AI6 {S:Nat->Prop} {w:World} {vn vo:Value} {n:NtV} {o:List Int} {a b:Nat} (up:Up S w) (hn:eN.R S w vn n) (ho:eI.R S w vo o) (hO:outE n o=0) (ha:a<(nwOf n o).B) (hb:b<(nwOf n o).B) (hr:(nwOf n o).root a=(nwOf n o).root b) :
  CR Tryz.prog 66 #[vn,vo,.int .i64 (a:Nat),.int .i64 (b:Nat)] w (eV.at S (btV n o a b)):=by
 obtain ⟨s,rfl,hs,hb'⟩:=hn
 have hn:eN.R S w (.agg #[.int .i64 n.b,s]) n:=⟨s,rfl,hs,hb'⟩
 have ok:=N1 hO
 have hnb:=ok.b
 have hB6:=ok.b6
 have hAn:=trX_an hO ha hb hr
 have hFl:=trX_fl hO ha hb
 have hvk:=trX_vk (a:=a) (b:=b) (nwOf n o).B
 refine enter Tryz.func66 O Tryz.ntmps66 O (.beg (.go O (.box O O fun w1 b4 n1=>?_)))
 obtain ⟨e1,k4,hb4,hs1⟩:=n1
 replace k4:Blk w1 b4 24 #[.int .i64 n.b,s]:=k4
 rw [hnb] at k4 hn
 have upX:∀ {W:World},Ext w1 W->Up S W:=fun e=>up.ext (e1.trans e).size
 have hn1:∀ {W:World},Ext w1 W->eN.R S W (.agg #[.int .i64 ((nwOf n o).B:Nat),s]) n:=fun e=>hn.ext (e1.trans e)
 have ho1:∀ {W:World},Ext w1 W->eI.R S W vo o:=fun e=>ER.ext eI ho (e1.trans e)
 have hunk:∀ c:Nat,vk 1 (tab (nwOf n o).B (uniR (c:Nat))):=fun c=>Ae8 _ _
 rw [hnb]
 refine .goC O ?_
 refine .par follows 16 [.inl (.agg #[.int .i64 ((nwOf n o).B:Nat),s]),.inl _,.inl _,.inl (.int .i64 ((nwOf n o).B:Nat)),.inl _,.inr (eV.at S (tab (nwOf n o).B (uniR (a:Nat)))),.inl _,.inl (.int .i64 ((nwOf n o).B:Nat)),.inl _,.inr (eV.at S (tab (nwOf n o).B (uniR (b:Nat)))),.inr (eV.at S (trX (nwOf n o).B a b)),.inr (Two (eV.at S (btV n o a b)) (Is (.int .i64 0))),.inr (Two (eV.at S (btV n o a b)) (Is (.int .i64 0))),.inr (eV.at S (btV n o a b)),.inl (.int .i64 0),.inr (eV.at S (btV n o a b))] [[],[],[],[(14,2)],[],[(15,3),(16,4)],[],[(18,6)],[],[(19,7),(20,8)],[(17,5),(21,9)],[(12,0),(13,1),(22,10)],[(23,11)],[(11,12)],[(11,12)],[(24,13)]] (by kernel_rfl) ⟨
  fun w e=>(B8 ty_N O (k4.ext e) O).ob,
  fun w e=>(v_mv O).ob,
  fun w e=>(v_fa E5 O).ob,
  fun w e=>(v_ld A3 O (k4.ext e) O).ob,
  fun w e=>(v_mv O).ob,
  fun w e=>(A2 _ O2 O (Ac8 (upX e) (by omega))).ob (A5 _ _ _),
  fun w e=>(v_fa E5 O).ob,
  fun w e=>(v_ld A3 O (k4.ext e) O).ob,
  fun w e=>(v_mv O).ob,
  fun w e=>(A2 _ O2 O (Ac8 (upX e) (by omega))).ob (A5 _ _ _),
  fun w e x5 hx5 x9 hx9=>(A2 _ BA1 O (Av8 (L:=1) (upX e) hx5 hx9 (hunk _) (hunk _) (by decide) (by decide) (by rw [A1];omega) (by rw [A1];omega))).ob (A5 _ _ _),
  fun w e x10 hx10=>(by have:=Ak1 (L:=3) (upX e) (hn1 e) (ho1 e) hx10 hvk (by decide) (by decide);rw [hAn,if_pos rfl,hFl] at this;exact (A2 _ Al4 O this).ob (AA6 (A5 _ _ _) (AN7 _))),
  fun w e x11 hx11=>L0 (v_mv O) hx11 (AA6 (A5 _ _ _) (AN7 _)),
  fun w e x12 hx12=>by
   obtain ⟨p1,q1,rfl,hp1,hq1⟩:=hx12
   exact L0 (v_ex O O) hp1 (A5 _ _ _),
  fun w e x12 hx12=>by
   obtain ⟨p1,q1,rfl,hp1,hq1⟩:=hx12
   exact ((v_ex O O).eq hq1).ob,
  fun w e x13 hx13=>L0 (v_as O) hx13 (A5 _ _ _),trivial⟩ ?_
 intro W5 d5 y5 hy5 y9 hy9 y10 hy10 y11 hy11 y12 hy12 y13 hy13 y15 hy15
 exact .goE O (.plain [_] Tryz.results66 ⟨rfl,trivial⟩ ⟨e1.trans d5,hy15⟩)
theorem Ac5:Ent Tryz.prog 17:=A0 Tryz.func17 (by kernel_rfl) rfl
def _root_.Go.Kx.Nw.Hd (n:Nw) (k b:Nat):Rat:=n.hf k b-n.hf k (n.root b)
theorem Nw.Hd_hf {n:Nw} (ok:n.Ok) {k b:Nat} (hk:k<n.M) (hb:b<n.B):n.Hd k b=n.hf k b:=by
 have hr:=Nw.root_root (n:=n) b
 have hlt:n.root b<n.B:=Nat.lt_of_le_of_lt (Nw.root_le b) hb
 unfold Nw.Hd
 rw [Nw.hf_root ok hk hlt hr];grind
set_option maxRecDepth 8000 in
theorem Ab7 {S:Nat->Prop} {w:World} {vn vo:Value} {n:NtV} {o:List Int} (up:Up S w) (hn:eN.R S w vn n) (ho:eI.R S w vo o) :
  CR Tryz.prog 17 #[vn,vo] w (Two (eM.at S (if outE n o=0 then tabM n.ls.length (nwOf n o).B (nwOf n o).hf else [])) (Is (.int .i64 (outE n o)))):=by
 obtain ⟨s,rfl,hs,hb'⟩:=hn
 have hn:eN.R S w (.agg #[.int .i64 n.b,s]) n:=⟨s,rfl,hs,hb'⟩
 refine enter Tryz.func17 O Tryz.ntmps17 O (.beg (.go O (.box O O fun w1 b2 n1=>?_)))
 obtain ⟨e1,k2,hb2,hs1⟩:=n1
 replace k2:Blk w1 b2 24 #[.int .i64 n.b,s]:=k2
 refine .go O (.ldA ty_N O O k2 O (.go O ?_))
 refine .call _ O AH6 O (AG3 (up.ext e1.size) (hn.ext e1) (ho.ext e1)) fun v2 w2 e2 h2=>?_
 obtain ⟨vl,ve,rfl,hl,he⟩:=h2
 replace he:ve=.int .i64 (outE n o):=he
 subst he
 have x2:=e1.trans e2
 have k2:=k2.ext e2
 refine .go O ?_
 by_cases hO:outE n o=0
 rotate_left
 ·refine .neqT O O O hO (.goE O (.plain [_,_] Tryz.results17 ⟨rfl,rfl,trivial⟩ ⟨x2,_,_,rfl,?_,rfl⟩))
  rw [if_neg hO];exact RL.nil
 have ok:=N1 hO
 have hnb:=ok.b
 have hB6:=ok.b6
 have hM10:n.ls.length<=10:=ok.m
 rw [if_pos hO] at hl
 refine .neqF O O O hO (.go O (.ldA ty_N O O k2 O (.go O ?_)))
 refine .call _ O AH5 O (AG2 (up.ext x2.size) (hn.ext x2) (ho.ext x2)) fun v3 w3 e3 h3=>?_
 obtain ⟨vr,ve,rfl,hr,he⟩:=h3
 replace he:ve=.int .i64 (outE n o):=he
 subst he
 have hlb:labB n o=(nwOf n o).B:=by unfold labB;rw [if_pos hO]
 replace hr:eI.R S w3 vr (pInts ((nwOf n o).refsTo (labB n o))):=hr
 rw [hlb] at hr
 replace hr:eI.R S w3 vr (pInts (nwOf n o).refs):=hr
 have hl:=ER.ext eI hl e3
 have x3:=x2.trans e3
 have k2:=k2.ext e3
 have z3:=x3.size
 refine .go O (.fa G7 O O (.go O (.ld K6 O O k2 O (.lenR K4 O O (hs.ext x3) ?_))))
 refine .make_ _ _ un_M AG9 O (by decide) O O O (Nat.le_refl _) (by omega) (by omega) fun w4 g n4=>?_
 have f4:FB eRaw 32 (fun _=>True) w4 g (List.replicate n.ls.length (Value.slice none 0 0)):=FB.made n4 ⟨rfl,none,0,0,rfl⟩
 obtain ⟨e4,_,hg,hs4⟩:=n4
 have r4:RwI S w3.heap.size g w4 _ (List.replicate n.ls.length []):=RwI.fresh f4
 have hz:List.replicate n.ls.length ([]:List QV)=tabM n.ls.length 0 (nwOf n o).Hd:=by
  refine List.ext_getElem (by simp [tabM]) fun j h1 h2=>?_
  simp [tabM,tab]
 rw [hz] at r4
 rw [hnb] at k2 hn
 have hgb:w3.heap.size<=g:=by omega
 refine .goC O ?_
 refine .lp (α:=Nat×List Value) [1,2,6,8,10] O (fun y=>[(11,.int .i64 (y.1:Nat))]) (fun y W=>Ext w3 W/\y.1<=(nwOf n o).B/\RwI S w3.heap.size g W y.2 (tabM n.ls.length y.1 (nwOf n o).Hd)) (fun y=>(nwOf n o).B-y.1) (0,_) (lc1 O) ⟨e4,Nat.zero_le _,r4⟩ ?_
 rintro ⟨k,vs⟩ W ⟨hW,hi,hR⟩
 replace hW:Ext w3 W:=hW
 replace hi:k<=(nwOf n o).B:=hi
 replace hR:RwI S w3.heap.size g W vs (tabM n.ls.length k (nwOf n o).Hd):=hR
 have k2W:∀ {W':World},Ext w3 W'->Blk W' b2 24 #[.int .i64 ((nwOf n o).B:Nat),s]:=fun e=>k2.ext e
 have zW:=hW.size
 refine .go O (.fa E5 O O (.go O (.ld A3 O O (k2W hW) O (.go O ?_))))
 rcases Nat.lt_or_ge k (nwOf n o).B with hlt | hge
 rotate_left
 ·have:k=(nwOf n o).B:=by omega
  subst this
  refine .lssF O O O (by omega) (.goE O (.plain [_,_] Tryz.results17 ⟨rfl,rfl,trivial⟩ ⟨x3.trans hW,_,_,rfl,?_,by rw [hO]⟩))
  rw [if_pos hO]
  have:=hR.toR (T:=S) (up g (by omega)) (fun k hk=>up k (by omega)) (fun k hk=>hk) (by rw [A4];omega)
  rw [A4] at this
  have he:tabM n.ls.length (nwOf n o).B (nwOf n o).Hd=tabM n.ls.length (nwOf n o).B (nwOf n o).hf:=C9 fun k b hk hb=>Nw.Hd_hf ok.ok hk hb
  rw [he] at this
  exact this
 obtain ⟨hra,hrl⟩:=(nwOf n o).refs_lab hlt
 have hgl:(tabI (nwOf n o).B (nwOf n o).lab)[k]?=some (((nwOf n o).lab k:Nat):Int):=P9 hlt
 have hgr:(pInts (nwOf n o).refs)[(nwOf n o).lab k]?=some (((nwOf n o).root k:Nat):Int):=by rw [List.getElem?_map,A9 (z:=0) hrl,hra];rfl
 have hrk:(nwOf n o).root k<(nwOf n o).B:=Nat.lt_of_le_of_lt (Nw.root_le k) hlt
 have hrr:(nwOf n o).root k=(nwOf n o).root ((nwOf n o).root k):=(Nw.root_root k).symm
 generalize hX:offV S g vs=X
 have upX:∀ {W':World},W.heap.size<=W'.heap.size->Up X W':=fun h=>by rw [<-hX];exact hR.up h fun j hj=>up j (by omega)
 have hlow:∀ j,S j->j<w3.heap.size->X j:=fun j h1 h2=>by rw [<-hX];exact hR.low hgb h2 h1
 have hnX:∀ {W':World},Ext w3 W'->eN.R X W' (.agg #[.int .i64 ((nwOf n o).B:Nat),s]) n:=fun e=>ER.ext eN (eN.mono (fun j _ h=>hlow j h.1 (by have:=h.2;omega)) (ER.lt eN hn)) (x3.trans e)
 have hoX:∀ {W':World},Ext w3 W'->eI.R X W' vo o:=fun e=>ER.ext eI (eI.mono (fun j _ h=>hlow j h.1 (by have:=h.2;omega)) (ER.lt eI ho)) (x3.trans e)
 have hlX:∀ {W':World},Ext w3 W'->eI.R X W' vl (tabI (nwOf n o).B (nwOf n o).lab):=fun e=>ER.ext eI (eI.mono (fun j _ h=>hlow j h.1 h.2) (ER.lt eI hl)) e
 have hrX:∀ {W':World},Ext w3 W'->eI.R X W' vr (pInts (nwOf n o).refs):=fun e=>ER.ext eI (eI.mono (fun j _ h=>hlow j h.1 h.2) (ER.lt eI hr)) e
 refine .lssT O O O (by omega) (.goC O ?_)
 refine .par follows 10 [.inl (.agg #[.int .i64 ((nwOf n o).B:Nat),s]),.inl _,.inl _,.inl _,.inl _,.inl _,.inr (Ptr (eInt .i64) X (((nwOf n o).lab k:Nat):Int)),.inl (.int .i64 ((nwOf n o).lab k:Nat)),.inr (Ptr (eInt .i64) X (((nwOf n o).root k:Nat):Int)),.inl (.int .i64 ((nwOf n o).root k:Nat))] [[],[],[],[],[],[],[(43,4),(44,5)],[(45,6)],[(42,3),(46,7)],[(47,8)]] (by kernel_rfl) ⟨
  fun w e=>(B8 ty_N O (k2W (hW.trans e)) O).ob,
  fun w e=>(v_mv O).ob,
  fun w e=>(v_mv O).ob,
  fun w e=>(v_mv O).ob,
  fun w e=>(v_mv O).ob,
  fun w e=>(v_mv O).ob,
  fun w e=>B5 (i:=k) un_I B6 O (hlX (hW.trans e)) O hgl,
  fun w e x6 hx6=>G5 B6 O hx6,
  fun w e=>B5 (i:=(nwOf n o).lab k) un_I B6 O (hrX (hW.trans e)) O hgr,
  fun w e x8 hx8=>G5 B6 O hx8,trivial⟩ ?_
 intro W4 d4 y6 hy6 y8 hy8
 refine .call _ O AI8 O (AI6 (upX d4.size) (hnX (hW.trans d4)) (hoX (hW.trans d4)) hO hlt hrk hrr) fun va W5 d5' ha=>?_
 have d5:=d4.trans d5'
 have hW6:=hW.trans d5
 have hR:=hR.ext d5
 replace ha:eV.R X W5 va (tab n.ls.length fun b=>(nwOf n o).Hd b k):=ha
 rw [<-hX] at ha
 have hmz:tabM n.ls.length k (nwOf n o).Hd=mixL n.ls.length 0 (fun b=>tab (k+1) ((nwOf n o).Hd b)) (fun b=>tab k ((nwOf n o).Hd b)):=by rw [Ao0];rfl
 have hma:mixL n.ls.length n.ls.length (fun b=>tab (k+1) ((nwOf n o).Hd b)) (fun b=>tab k ((nwOf n o).Hd b))=tabM n.ls.length (k+1) (nwOf n o).Hd:=by rw [Ax2];rfl
 rw [hmz] at hR
 refine .goC O ?_
 refine .lp (α:=Nat×List Value) [1,2,6,8,10,11,12] O (fun y=>[(13,.int .i64 (y.1:Nat))]) (fun y W'=>Ext w3 W'/\y.1<=n.ls.length/\RwI S w3.heap.size g W' y.2 (mixL n.ls.length y.1 (fun b=>tab (k+1) ((nwOf n o).Hd b)) (fun b=>tab k ((nwOf n o).Hd b)))/\eV.R (offV S g y.2) W' va (tab n.ls.length fun b=>(nwOf n o).Hd b k)) (fun y=>n.ls.length-y.1) (0,vs) (lc1 O) ⟨hW6,Nat.zero_le _,hR,ha⟩ ?_
 clear hR ha
 rintro ⟨b,us⟩ W7 ⟨hW7,hi7,hR,ha⟩
 replace hW7:Ext w3 W7:=hW7
 replace hi7:b<=n.ls.length:=hi7
 replace hR:RwI S w3.heap.size g W7 us (mixL n.ls.length b (fun b=>tab (k+1) ((nwOf n o).Hd b)) (fun b=>tab k ((nwOf n o).Hd b))):=hR
 replace ha:eV.R (offV S g us) W7 va (tab n.ls.length fun b=>(nwOf n o).Hd b k):=ha
 refine .go O (.len un_M O O (.go O ?_))
 rcases Nat.lt_or_ge b n.ls.length with hbl | hge
 rotate_left
 ·have:b=n.ls.length:=by omega
  subst this
  rw [hma] at hR
  exact .lssF O O O (by omega) (.go O (.inc O O O (by omega) (.goN O (.mk (k+1,us) O (lc1 O) ⟨⟨hW7,hlt,hR⟩,by show (nwOf n o).B-(k+1)<(nwOf n o).B-k;omega⟩))))
 have hvl:b<us.length:=by rw [hR.len,Ax0];exact hbl
 have hu:=List.getElem?_eq_getElem hvl
 generalize us[b]=u at hu
 have hum:u∈us:=List.mem_iff_getElem?.2 ⟨b,hu⟩
 have hm:=Ax1 (f:=fun b=>tab (k+1) ((nwOf n o).Hd b)) (g:=fun b=>tab k ((nwOf n o).Hd b)) hbl
 have hga:(tab n.ls.length fun b=>(nwOf n o).Hd b k).getD b q0=qc ((nwOf n o).Hd b k):=by
  rw [List.getD_eq_getElem?_getD,G3 hbl];rfl
 have htk:tab k ((nwOf n o).Hd b)++[qc ((nwOf n o).Hd b k)]=tab (k+1) ((nwOf n o).Hd b):=by
  unfold tab;rw [List.range_succ,List.map_append];rfl
 generalize qc ((nwOf n o).Hd b k)=q at hga htk
 have hAt:∀ {W':World},Ext W7 W'->CR Tryz.prog 67 #[va,.int .i64 (b:Nat)] W' (eQ.at (offV S g us) q):=fun e=>by
  have:=I3 (i:=((b:Nat):Int)) (ER.ext eV ha e)
  rw [M4,hga] at this
  exact this
 refine .lssT O O O (by omega) (.goC O ?_)
 refine .parL follows 10 [0,1] [.inl _,.inl _,.inl _,.inl _,.inl (.pointer (some ⟨g,0+b*1,none⟩)),.inl u,.inl _,.inl _,.inr (eQ.at (offV S g us) q),.inr (OneP (offV S g us) q)] [[],[],[],[],[(58,2),(59,3)],[(60,4)],[],[],[(62,6),(63,7)],[(64,8)]] (by kernel_rfl) ⟨
  fun w e=>(v_mv O).ob,
  fun w e=>(v_mv O).ob,
  fun w e=>(v_mv O).ob,
  fun w e=>(v_mv O).ob,
  fun w e=>(F4 (i:=b) un_M ty_V O O hbl).ob,
  fun w e=>(AD2 (E:=eRaw) (i:=b) (by decide) ty_V O (Nat.zero_add _) (hR.out.ext e) hu).mono fun v' w' ⟨e1,h⟩=>⟨e1,(h w' (Ext.refl _)).1⟩,
  fun w e=>(v_mv O).ob,
  fun w e=>(v_mv O).ob,
  fun w e=>(A2 _ I6 O (hAt e)).ob (A5 _ _ _),
  fun w e x8 hx8=>BD0 hx8,trivial⟩ ?_
 rintro W1 d1 y8 hy8 _ ⟨bb,e9,rfl,kb9,he9⟩
 have hW1:=hW7.trans d1
 have hR1:=hR.ext d1
 have hrow:=hR1.inn b u _ hu hm
 refine .gv O O (AC0 (E:=eQ) (base:=w3.heap.size) (n:=q) (e:=e9) (by decide) un_V H4 O O O hrow kb9 (eQ.mono (fun j _ h=>⟨h,h.2.2 u hum⟩) he9) (by rw [A1];omega) (by decide) hW1.size) ?_
 rintro v2 W2 ⟨hO2,g2,hob⟩
 have fb2:FB eRaw 32 (fun _=>True) W2 g us:=by
  obtain ⟨es,hb,he⟩:=hR1.out
  exact ⟨es,hrow.gblk g2 hb (by decide),he.1,fun i e x h1 h2=>he.2 i e x h1 h2⟩
 obtain ⟨a2,c2,hv2⟩:=hO2.slice
 refine .ixB (i:=b) un_M ty_V O O O hbl (.storeF (E:=eRaw) (i:=b) (z:=v2) (by decide) ty_V O O fb2 O hvl (Nat.zero_add _) ⟨rfl,_,_,_,hv2⟩ fun W3 fb3 u3=>?_)
 have hR3:=hR1.step hu hm hO2 g2 hob fb3 u3
 rw [htk,Aw9 (f:=fun b=>tab (k+1) ((nwOf n o).Hd b))] at hR3
 have ha3:=hR1.keep hu (ER.ext eV ha d1) g2 hob u3
 have hW3:Ext w3 W3:=u3.below (OwnL.below hrow g2 hW1 hW1.size) hgb
 exact .go O (.inc O O O (by omega) (.goN O (.mk (b+1,us.set b v2) O (lc1 O) ⟨⟨hW3,hbl,hR3,ha3⟩,by show n.ls.length-(b+1)<n.ls.length-b;omega⟩)))
theorem BO5:Ent Tryz.prog 18:=A0 Tryz.func18 (by kernel_rfl) rfl
set_option maxRecDepth 8000 in
theorem BO4 {S:Nat->Prop} {w:World} {vn vo:Value} {n:NtV} {o:List Int} {a b:Int} (up:Up S w) (hn:eN.R S w vn n) (ho:eI.R S w vo o) :
  CR Tryz.prog 18 #[vn,vo,.int .i64 a,.int .i64 b] w (Two (eV.at S (if btE n o a b=0 then btV n o a.toNat b.toNat else [])) (Is (.int .i64 (btE n o a b)))):=by
 obtain ⟨s,rfl,hs,hb'⟩:=hn
 have hn:eN.R S w (.agg #[.int .i64 n.b,s]) n:=⟨s,rfl,hs,hb'⟩
 refine enter Tryz.func18 O Tryz.ntmps18 O (.beg (.go O (.box O O fun w1 b4 n1=>?_)))
 obtain ⟨e1,k4,hb4,hs1⟩:=n1
 replace k4:Blk w1 b4 24 #[.int .i64 n.b,s]:=k4
 refine .go O (.ldA ty_N O O k4 O (.go O ?_))
 refine .call _ O S3 O (Q4 (hn.ext e1) (ho.ext e1)) fun v2 w2 e2 h2=>?_
 subst h2
 have x2:=e1.trans e2
 have k4:=k4.ext e2
 refine .go O ?_
 by_cases hO:outE n o=0
 rotate_left
 ·have hce:conE n o a b=outE n o:=by unfold conE;rw [if_pos hO]
  have hbe:btE n o a b=outE n o:=by unfold btE;rw [hce,if_pos hO]
  refine .neqT O O O hO (.goE O (.plain [_,_] Tryz.results18 ⟨rfl,rfl,trivial⟩ ⟨x2,_,_,rfl,?_,by rw [hbe]⟩))
  rw [if_neg (by rw [hbe];exact hO)];exact RL.nil
 refine .neqF O O O hO (.go O (.ldA ty_N O O k4 O (.go O ?_)))
 refine .call _ O Aj1 O (Af7 (up.ext x2.size) (hn.ext x2) (ho.ext x2)) fun v3 w3 e3 h3=>?_
 obtain ⟨vb,ve,rfl,hb,he⟩:=h3
 replace hb:vb=.bool (conB n o a b):=hb
 replace he:ve=.int .i64 (conE n o a b):=he
 subst hb he
 have x3:=x2.trans e3
 have k4:=k4.ext e3
 refine .go O ?_
 by_cases hE:conE n o a b=0
 rotate_left
 ·have hb:btE n o a b=conE n o a b:=by unfold btE;rw [if_pos hE]
  refine .neqT O O O hE (.goE O (.plain [_,_] Tryz.results18 ⟨rfl,rfl,trivial⟩ ⟨x3,_,_,rfl,?_,by rw [hb]⟩))
  rw [if_neg (by rw [hb];exact hE)];exact RL.nil
 by_cases hC:conB n o a b=true
 rotate_left
 ·have hb:btE n o a b=8:=by unfold btE;rw [if_neg (by simpa using hE),if_neg hC]
  rw [Bool.not_eq_true] at hC
  rw [hC]
  refine .neqF O O O hE (.goE O (.plain [_,_] Tryz.results18 ⟨rfl,rfl,trivial⟩ ⟨x3,_,_,rfl,?_,by rw [hb]⟩))
  rw [if_neg (by rw [hb];decide)];exact RL.nil
 have hb:btE n o a b=0:=by unfold btE;rw [if_neg (by simpa using hE),if_pos hC]
 rw [hC]
 obtain ⟨_,hA,hBb⟩:=BJ6 hE
 have hr:=(btE_ok hb).2
 have ok:=N1 hO
 have hnb:=ok.b
 obtain ⟨a',rfl⟩:∃ a':Nat,a=a':=⟨a.toNat,by have:=hA.1;omega⟩
 obtain ⟨b',rfl⟩:∃ b':Nat,b=b':=⟨b.toNat,by have:=hBb.1;omega⟩
 have haB:a'<(nwOf n o).B:=by have:=hA.2;omega
 have hbB:b'<(nwOf n o).B:=by have:=hBb.2;omega
 refine .neqF O O O hE (.go O (.ldA ty_N O O k4 O (.go O ?_)))
 refine .call _ O AI8 O (AI6 (up.ext x3.size) (hn.ext x3) (ho.ext x3) hO haB hbB hr) fun v5 w5 e5 h5=>?_
 refine .goE O (.plain [_,_] Tryz.results18 ⟨rfl,rfl,trivial⟩ ⟨x3.trans e5,_,_,rfl,?_,by rw [hb]⟩)
 rw [if_pos hb]
 exact h5
theorem E_ref18_Flows:Ent Tryz.prog 25:=A0 Tryz.func25 (by kernel_rfl) rfl
set_option maxRecDepth 8000 in
theorem ref18_Flows_c {S:Nat->Prop} {w:World} {vn vo vx:Value} {n:NtV} {o:List Int} {x:List QV} {L:Nat} (up:Up S w) (hn:eN.R S w vn n) (ho:eI.R S w vo o) (hx:eV.R S w vx x) (hkx:vk L x) (hL1:1<=L) (hL:L<=1000000) :
  CR Tryz.prog 25 #[vn,vo,vx] w (Two (eV.at S (if sfE n o x.length=0 then tab n.ls.length fun k=>sumN x.length fun b=>(nwOf n o).hf k b*rv x b else [])) (Is (.int .i64 (sfE n o x.length)))):=by
 obtain ⟨s,rfl,hs,hb'⟩:=hn
 have hn:eN.R S w (.agg #[.int .i64 n.b,s]) n:=⟨s,rfl,hs,hb'⟩
 refine enter Tryz.func25 O Tryz.ntmps25 O (.beg (.go O (.box O O fun w1 b3 n1=>?_)))
 obtain ⟨e1,k3,hb3,hs1⟩:=n1
 replace k3:Blk w1 b3 24 #[.int .i64 n.b,s]:=k3
 refine .go O (.ldA ty_N O O k3 O (.go O ?_))
 refine .call _ O Ac5 O (Ab7 (up.ext e1.size) (hn.ext e1) (ho.ext e1)) fun v2 w2 e2 h2=>?_
 obtain ⟨vm,ve,rfl,hm,he⟩:=h2
 replace he:ve=.int .i64 (outE n o):=he
 subst he
 have x2:=e1.trans e2
 have k3:=k3.ext e2
 refine .go O ?_
 by_cases hO:outE n o=0
 rotate_left
 ·have hsf:sfE n o x.length=outE n o:=by unfold sfE;rw [if_pos hO]
  refine .neqT O O O hO (.goE O (.plain [_,_] Tryz.results25 ⟨rfl,rfl,trivial⟩ ⟨x2,_,_,rfl,?_,by rw [hsf]⟩))
  rw [if_neg (by rw [hsf];exact hO)];exact RL.nil
 have ok:=N1 hO
 have hnb:=ok.b
 have hB6:=ok.b6
 have hM10:n.ls.length<=10:=ok.m
 rw [if_pos hO] at hm
 refine .neqF O O O hO (.go O (.lenR un_V O O (ER.ext eV hx x2) (.go O (.fa E5 O O (.go O (.ld A3 O O k3 O (.go O ?_)))))))
 by_cases hle:(x.length:Int)<=n.b
 rotate_left
 ·have hsf:sfE n o x.length=5:=by unfold sfE;rw [if_neg (by simpa using hO),if_neg hle]
  refine .gtrT O O O (by omega) (.goE O (.plain [_,_] Tryz.results25 ⟨rfl,rfl,trivial⟩ ⟨x2,_,_,rfl,?_,by rw [hsf]⟩))
  rw [if_neg (by rw [hsf];decide)];exact RL.nil
 have hsf:sfE n o x.length=0:=by unfold sfE;rw [if_neg (by simpa using hO),if_pos hle]
 rw [if_pos hsf,hsf]
 have hxB:x.length<=(nwOf n o).B:=by omega
 have z2:=x2.size
 generalize hf:(fun k b=>(nwOf n o).hf k b*rv x b)=f
 generalize hG:(fun k=>qc (sumN x.length fun b=>(nwOf n o).hf k b*rv x b))=G
 have hGf:∀ k,G k=qc (sumN x.length (f k)):=fun k=>by rw [<-hG,<-hf]
 have htab:tab n.ls.length (fun k=>sumN x.length fun b=>(nwOf n o).hf k b*rv x b)=(List.range n.ls.length).map G:=by rw [<-hG];rfl
 rw [htab]
 refine .gtrF O O O (by omega) (.goC O ?_)
 refine .lp (α:=Nat×Value) [2,8] O (fun y=>[(10,y.2),(11,.int .i64 (y.1:Nat))]) (fun y W=>Ext w2 W/\y.1<=n.ls.length/\OwnL eQ 54 w2.heap.size S W y.2 ((List.range y.1).map G)) (fun y=>n.ls.length-y.1) (0,.slice none 0 0) (lc2 O O) ⟨Ext.refl _,Nat.zero_le _,OwnL.nil⟩ ?_
 rintro ⟨i,u⟩ W ⟨hW,hi,hU⟩
 replace hW:Ext w2 W:=hW
 replace hi:i<=n.ls.length:=hi
 replace hU:OwnL eQ 54 w2.heap.size S W u ((List.range i).map G):=hU
 have zW:=hW.size
 refine .go O (.lenR un_M O O (ER.ext eM hm hW) (.go O ?_))
 rw [A4]
 rcases Nat.lt_or_ge i n.ls.length with hlt | hge
 rotate_left
 ·have:i=n.ls.length:=by omega
  subst this
  exact .lssF O O O (by omega) (.goE O (.plain [_,_] Tryz.results25 ⟨rfl,rfl,trivial⟩ ⟨x2.trans hW,_,_,rfl,hU.toR (fun k hk=>up k (by omega)) (fun k hk=>hk),rfl⟩))
 obtain ⟨es,ho1,_⟩:=id hU
 have hub:∀ k,u.ownBlock=some k->w2.heap.size<=k/\k<W.heap.size:=fun k e=>ho1.lt k e
 refine .lssT O O O (by omega) (.go O (.bld _ O O R9 (.alloc O C2 fun W3 b n3=>?_)))
 obtain ⟨d3,kb,hb',zs3⟩:=n3
 generalize hT:(fun k=>(S k/\u.ownBlock≠some k)/\k≠b)=T
 have hTb:¬ T b:=by rw [<-hT];exact fun h=>h.2 rfl
 have hTS:∀ k,T k->S k/\u.ownBlock≠some k:=fun k h=>by rw [<-hT] at h;exact h.1
 have zW3:W3.heap.size=b+1:=by omega
 have upT':∀ {W':World},W3.heap.size<=W'.heap.size->Up T W':=fun h k hk=>by rw [<-hT];exact ⟨⟨up k (by omega),fun e=>by have:=(hub k e).2;omega⟩,by omega⟩
 have hxT:∀ {W':World},Ext W W'->eV.R T W' vx x:=fun e=>ER.ext eV (eV.mono (S':=T) (fun k _ h=>by rw [<-hT];exact ⟨⟨h.1,fun e=>by have:=(hub k e).1;have:=h.2;omega⟩,by have:=h.2;omega⟩) (ER.lt eV hx)) (x2.trans (hW.trans e))
 have hmT:∀ {W':World},Ext W W'->eM.R T W' vm (tabM n.ls.length (nwOf n o).B (nwOf n o).hf):=fun e=>ER.ext eM (eM.mono (S':=T) (fun k _ h=>by rw [<-hT];exact ⟨⟨h.1,fun e=>by have:=(hub k e).1;have:=h.2;omega⟩,by have:=h.2;omega⟩) (ER.lt eM hm)) (hW.trans e)
 refine .storeA (E:=eQ) (S:=T) ty_Q O O kb O O zq_R hTb fun W4 kb u4 hq4=>?_
 have D4:Ext W W4:=u4.below d3 (by omega)
 have z4:W4.heap.size=W3.heap.size:=u4.size
 rw [show q0=qc (sumN 0 (f i)) from by rw [<-N6];rfl] at hq4
 refine .goC O ?_
 refine .lp (α:=Nat×Value) [2,8,10,11,12] O (fun y=>[(13,.int .i64 (y.1:Nat))]) (fun y W'=>Ext W W'/\W4.heap.size<=W'.heap.size/\y.1<=x.length/\Blk W' b 54 y.2.cells/\eQ.R T W' y.2 (qc (sumN y.1 (f i)))) (fun y=>x.length-y.1) (0,_) (lc1 O) ⟨D4,Nat.le_refl _,Nat.zero_le _,kb,hq4⟩ ?_
 clear kb hq4
 rintro ⟨c,q⟩ W5 ⟨hW5,z5,hc,kb,hq⟩
 replace hW5:Ext W W5:=hW5
 replace z5:W4.heap.size<=W5.heap.size:=z5
 replace hc:c<=x.length:=hc
 replace kb:Blk W5 b 54 q.cells:=kb
 replace hq:eQ.R T W5 q (qc (sumN c (f i))):=hq
 have hqv:=shpA (E:=eQ) O hq
 refine .go O (.lenR un_V O O (hxT hW5) (.go O ?_))
 rcases Nat.lt_or_ge c x.length with hcl | hge
 rotate_left
 ·have:c=x.length:=by omega
  subst this
  refine .lssF O O O (by omega) (.go O (.ldA ty_Q O O kb (eQ.csz hq) ?_))
  rw [<-hqv]
  rw [<-hGf] at hq
  have hq':=hq
  obtain ⟨s1,t1,rfl,_,_⟩:=hq'
  refine .bsl _ O O T5 fun W8 b8 n8=>?_
  obtain ⟨d8,k8,hb8,hs8⟩:=n8
  have D8:=hW5.trans d8
  have hW8:=hW.trans D8
  refine .gv O O (J8 (E:=eQ) (base:=w2.heap.size) (n:=G i) (by decide) un_V H4 O O O (hU.ext D8) k8 (eQ.mono (fun k _ h=>hTS k h) (ER.ext eQ hq d8)) (by simp;omega) (by decide) hW8.size) ?_
  rintro v9 W9 ⟨hO9,g9⟩
  have hW9:Ext w2 W9:=OwnL.below (hU.ext D8) g9 hW8 hW8.size
  exact .go O (.inc O O O (by omega) (.goN O (.mk (i+1,v9) O (lc2 O O) ⟨⟨hW9,hlt,by show OwnL _ _ _ _ W9 v9 ((List.range (i+1)).map G);rw [List.range_succ,List.map_append];exact hO9⟩,by show n.ls.length-(i+1)<n.ls.length-i;omega⟩)))
 have hgx:=A9 (l:=x) (z:=q0) hcl
 have hcB:c<(nwOf n o).B:=by omega
 have hgm:(tab (nwOf n o).B ((nwOf n o).hf i))[c]?=some (qc ((nwOf n o).hf i c)):=G3 hcB
 have hxc:=hkx.get hL1 c
 have hh:=Ag3 ok i c
 have hmul:Rsz ((nwOf n o).hf i c*qval (x.getD c q0)) (174764+L):=hh.mul hxc.2
 have hsum:Rsz (sumN c (f i)) (1+c*(174764+L+1)):=AJ5 fun k _=>by rw [<-hf];exact (Ag3 ok i k).mul (hkx.rsz hL1 k)
 have hbig:1+c*(174764+L+1)<=10000000:=by
  have:=Nat.mul_le_mul (show c<=6 by omega) (show 174764+L+1<=1200000 by omega)
  omega
 have hstep:sumN (c+1) (f i)=sumN c (f i)+(nwOf n o).hf i c*qval (x.getD c q0):=by rw [<-hf];rfl
 refine .lssT O O O (by omega) (.goC O ?_)
 refine .par follows 13 [.inl q,.inl _,.inl _,.inr (Ptr eV T (tab (nwOf n o).B ((nwOf n o).hf i))),.inr (eV.at T (tab (nwOf n o).B ((nwOf n o).hf i))),.inl _,.inr (Ptr eQ T (qc ((nwOf n o).hf i c))),.inr (eQ.at T (qc ((nwOf n o).hf i c))),.inl _,.inl _,.inr (Ptr eQ T (x.getD c q0)),.inr (eQ.at T (x.getD c q0)),.inr (eQ.at T (qc ((nwOf n o).hf i c*qval (x.getD c q0))))] [[],[],[],[(42,1),(43,2)],[(44,3)],[],[(45,4),(46,5)],[(47,6)],[],[],[(49,8),(50,9)],[(51,10)],[(48,7),(52,11)]] (by kernel_rfl) ⟨
  fun w e=>((B8 ty_Q O (kb.ext e) (eQ.csz hq)).eq hqv.symm).ob,
  fun w e=>(v_mv O).ob,
  fun w e=>(v_mv O).ob,
  fun w e=>B5 (i:=i) un_M ty_V O (hmT (hW5.trans e)) O (C8 hlt),
  fun w e x3 hx3=>I5 ty_V O hx3,
  fun w e=>(v_mv O).ob,
  fun w e x4 hx4=>B5 (i:=c) un_V ty_Q O hx4 O hgm,
  fun w e x6 hx6=>I5 ty_Q O hx6,
  fun w e=>(v_mv O).ob,
  fun w e=>(v_mv O).ob,
  fun w e=>B5 (i:=c) un_V ty_Q O (hxT (hW5.trans e)) O hgx,
  fun w e x10 hx10=>I5 ty_Q O hx10,
  fun w e x7 hx7 x11 hx11=>(by have:=AB7 (L:=174764+L) (upT' (by have:=e.size;omega)) hx7 hx11 (hh.toOk.mono (by omega)) (hxc.1.mono (by omega)) (by omega) (by omega);rw [B3] at this;exact (A2 _ AC7 O this).ob (A5 _ _ _)),trivial⟩ ?_
 intro W6 d6 y3 hy3 y4 hy4 y6 hy6 y7 hy7 y10 hy10 y11 hy11 y12 hy12
 have hadd:=U9 (L:=1+c*(174764+L+1)+(174764+L)) (upT' (by have:=d6.size;omega)) (ER.ext eQ hq d6) hy12 (hsum.toOk.mono (by omega)) (hmul.toOk.mono (by omega)) (by omega) (by omega)
 rw [B3,B3,<-hstep] at hadd
 refine .call _ O X5 O hadd fun y13 W6' d6' hy13=>?_
 refine .storeA (E:=eQ) ty_Q O O (kb.ext (d6.trans d6')) O (eQ.csz hq) hy13 hTb fun W7 kb u7 hq7=>?_
 exact .go O (.inc O O O (by omega) (.goN O (.mk (c+1,y13) O (lc1 O) ⟨⟨u7.below (hW5.trans (d6.trans d6')) (by omega),by have:=u7.size;have:=d6.size;have:=d6'.size;show W4.heap.size<=W7.heap.size;omega,hcl,kb,hq7⟩,by show x.length-(c+1)<x.length-c;omega⟩)))
end Go.Proofs.YtggegpiffjbngaaGreat
namespace Go.Kx
open Go Go.RowKit
section
variable {P:Program} {σ:Env} {w:World} {d:Option Tmp} {ty:TypeId} {pos:String} {af:Array Edge} {g:Option (Nat×Bool)} {S:Nat->Prop}
theorem BH5 {s:TypeId} {x:Operand} {i:Nat} {u:Value} {q:QV} (hf:fldOf P s i=some 0) (hx:ev σ x=some u) (hp:Ptr eQ S q u w):Gv P ⟨d,.fieldAddr s x i,ty,pos,af,g⟩ σ w fun v' w'=>Ext w w'/\Sp.ok (.inr (Ptr eZ S q.num)) v' w':=by
 obtain ⟨p,rfl,hp⟩:=hp
 exact L0 (Am8 hf hx) ⟨_,rfl,hp.qn⟩ (fun _ _ _ e ⟨p,h1,h2⟩=>⟨p,h1,h2.ext e⟩)
theorem BH6 {s:TypeId} {x:Operand} {i:Nat} {u:Value} {q:QV} (hf:fldOf P s i=some 2) (hx:ev σ x=some u) (hp:Ptr eQ S q u w):Gv P ⟨d,.fieldAddr s x i,ty,pos,af,g⟩ σ w fun v' w'=>Ext w w'/\Sp.ok (.inr (Ptr eZ S q.den)) v' w':=by
 obtain ⟨p,rfl,hp⟩:=hp
 exact L0 (Am8 hf hx) ⟨_,rfl,hp.qd⟩ (fun _ _ _ e ⟨p,h1,h2⟩=>⟨p,h1,h2.ext e⟩)
theorem BH3 {s:TypeId} {x:Operand} {i:Nat} {u:Value} {q:ZV} (hf:fldOf P s i=some 1) (hx:ev σ x=some u) (hp:Ptr eZ S q u w):Gv P ⟨d,.fieldAddr s x i,ty,pos,af,g⟩ σ w fun v' w'=>Ext w w'/\Sp.ok (.inr (Ptr eW S q.w)) v' w':=by
 obtain ⟨p,rfl,hp⟩:=hp
 exact L0 (Am8 hf hx) ⟨_,rfl,hp.zw⟩ (fun _ _ _ e ⟨p,h1,h2⟩=>⟨p,h1,h2.ext e⟩)
end
end Go.Kx
namespace Go.Proofs.YtggegpiffjbngaaGreat
open Go Go.Kx Go.RowKit
end Go.Proofs.YtggegpiffjbngaaGreat
namespace Go.Kx
open Go Go.RowKit
theorem PtrTo.zb {S:Nat->Prop} {w:World} {p:Addr} {z:ZV} (h:PtrTo eZ S w p z):PtrTo eBool S w p z.neg:=by
 obtain ⟨e,⟨s,rfl,_⟩,hS,hc⟩:=h
 refine ⟨.bool z.neg,rfl,hS,fun j u hu=>?_⟩
 match j with
 | 0=>exact hc 0 u (by simpa [Value.cells] using hu)
 | j+1=>simp [Value.cells] at hu
end Go.Kx
namespace Go.Proofs.YtggegpiffjbngaaGreat
open Go Go.Kx Go.RowKit
section
variable {S:Nat->Prop} {w:World} {σ:Env} {d:Option Tmp} {ty:TypeId} {pos:String} {af:Array Edge} {g:Option (Nat×Bool)}
theorem An8 {x:Operand} {u:Value} {z:ZV} (hx:ev σ x=some u) (hp:Ptr eZ S z u w):Gv Tryz.prog ⟨d,.load 4 x,ty,pos,af,g⟩ σ w fun v' w'=>Ext w w'/\Sp.ok (.inl (.bool z.neg)) v' w':=by
 obtain ⟨p,rfl,hp⟩:=hp
 exact (Ay3 (E:=eBool) B9 hx hp.zb).mono fun v' w' ⟨e1,h⟩=>by subst e1;exact ⟨Ext.refl _,h⟩
theorem BH4 {s:TypeId} {x:Operand} {i:Nat} {u:Value} {z:ZV} (hf:fldOf Tryz.prog s i=some 0) (hx:ev σ x=some u) (hp:Ptr eZ S z u w):Gv Tryz.prog ⟨d,.fieldAddr s x i,ty,pos,af,g⟩ σ w fun v' w'=>Ext w w'/\Sp.ok (.inr (Ptr eZ S z)) v' w':=by
 obtain ⟨p,rfl,hp⟩:=hp
 exact L0 (Am8 hf hx) ⟨_,rfl,by simpa [Addr.add] using hp⟩ (fun _ _ _ e ⟨p,h1,h2⟩=>⟨p,h1,h2.ext e⟩)
theorem BH7 {T:Nat->Prop} {x y:Operand} {u:Value} {z:ZV} (hx:eW.R T w u z.w) (hb:ev σ x=some (.bool z.neg)) (hy:ev σ y=some u):Gv Tryz.prog ⟨d,.build 52 #[(0,x),(1,y)],ty,pos,af,g⟩ σ w fun v' w'=>Ext w w'/\Sp.ok (.inr (eZ.at T z)) v' w':=by
 obtain ⟨p,c,hv,_⟩:=RL.len hx
 have hz:eZ.R T w (.agg #[.bool z.neg,u]) z:=⟨u,rfl,hx⟩
 subst hv
 exact L0 (Am9 (ps:=[(0,x),(1,y)]) [(0,.bool z.neg),(1,.slice p z.w.length c)] (by simp only [evp,hb,hy]) AQ8) hz (A5 _ _ _)
theorem ob_bldQ {T:Nat->Prop} {x y:Operand} {u v:Value} {q:QV} (hn:eZ.R T w u q.num) (hd:eZ.R T w v q.den) (hx:ev σ x=some u) (hy:ev σ y=some v):Gv Tryz.prog ⟨d,.build 54 #[(0,x),(1,y)],ty,pos,af,g⟩ σ w fun v' w'=>Ext w w'/\Sp.ok (.inr (eQ.at T q)) v' w':=by
 obtain ⟨s,rfl,hs⟩:=hn
 obtain ⟨t,rfl,ht⟩:=hd
 have hz:eQ.R T w (.agg #[.bool q.num.neg,s,.bool q.den.neg,t]) q:=⟨s,t,rfl,hs,ht⟩
 exact L0 (Am9 (ps:=[(0,x),(1,y)]) [(0,.agg #[.bool q.num.neg,s]),(1,.agg #[.bool q.den.neg,t])] (by simp only [evp,hx,hy]) AQ9) hz (A5 _ _ _)
end
theorem E_law17_Own:Ent Tryz.prog 26:=A0 Tryz.func26 (by kernel_rfl) rfl
set_option maxRecDepth 8000 in
theorem law17_Own_c {S:Nat->Prop} {w:World} {vl:Value} {l:List QV} (up:Up S w) (hl:eV.R S w vl l) (hk:∀ q∈l,qok 1000000000 q) (hln:l.length<=1000):CR Tryz.prog 26 #[vl] w (eV.at S l):=by
 have hl0:=ER.lt eV hl
 refine enter Tryz.func26 O Tryz.ntmps26 O (.beg (.goC O ?_))
 refine .lp (α:=Nat×Value) [0] O (fun y=>[(3,y.2),(4,.int .i64 (y.1:Nat))]) (fun y W=>Ext w W/\y.1<=l.length/\OwnL eQ 54 w.heap.size S W y.2 (l.take y.1)) (fun y=>l.length-y.1) (0,.slice none 0 0) (lc2 O O) ⟨Ext.refl _,Nat.zero_le _,OwnL.nil⟩ ?_
 rintro ⟨i,v⟩ W ⟨hW,hi,hO⟩
 replace hW:Ext w W:=hW
 replace hi:i<=l.length:=hi
 replace hO:OwnL eQ 54 w.heap.size S W v (l.take i):=hO
 have zW:=hW.size
 refine .go O (.lenR un_V O O (ER.ext eV hl hW) ?_)
 rcases Nat.lt_or_ge i l.length with hlt | hge
 rotate_left
 ·have:i=l.length:=by omega
  subst this
  rw [List.take_length] at hO
  exact .lssF O O O (by omega) (.goE O (.plain [_] Tryz.results26 ⟨rfl,trivial⟩ ⟨hW,hO.toR (fun k hk=>up k (by omega)) (fun _ h=>h)⟩))
 have hg:=List.getElem?_eq_getElem hlt
 have htk:l.take (i+1)=l.take i++[l[i]]:=by rw [List.take_add_one,hg];rfl
 have hq:=hk l[i] (List.getElem_mem hlt)
 generalize l[i]=q at hg htk hq
 obtain ⟨es,ho1,ho2⟩:=id hO
 generalize hT:(fun k=>S k/\v.ownBlock≠some k)=T
 have hTS:∀ k,T k->S k/\v.ownBlock≠some k:=fun k h=>by rw [<-hT] at h;exact h
 have upT':∀ {W':World},W.heap.size<=W'.heap.size->Up T W':=fun h k hk=>by rw [<-hT];exact ⟨up k (by omega),fun e=>by have:=(ho1.lt k e).2;omega⟩
 refine .lssT O O O (by omega) (.goC O ?_)
 refine .par follows 31 ((.inl _)::(.inl _)::(.inl _)::(.inr (Ptr eQ S q))::(.inr (Ptr eZ S q.num))::(.inr (Ptr eZ S q.num))::(.inl (.bool q.num.neg))::(.inl _)::(.inl _)::(.inr (Ptr eQ S q))::(.inr (Ptr eZ S q.num))::(.inr (Ptr eW S q.num.w))::(.inr (eW.at S q.num.w))::(.inr (eW.at T q.num.w))::(.inr (eZ.at T q.num))::(.inl _)::(.inl _)::(.inr (Ptr eQ S q))::(.inr (Ptr eZ S q.den))::(.inr (Ptr eZ S q.den))::(.inl (.bool q.den.neg))::(.inl _)::(.inl _)::(.inr (Ptr eQ S q))::(.inr (Ptr eZ S q.den))::(.inr (Ptr eW S q.den.w))::(.inr (eW.at S q.den.w))::(.inr (eW.at T q.den.w))::(.inr (eZ.at T q.den))::(.inr (eQ.at T q))::(.inr (OneP T q))::[]) ([]::[]::[]::[(12,1),(13,2)]::[(14,3)]::[(15,4)]::[(16,5)]::[]::[]::[(18,7),(19,8)]::[(20,9)]::[(21,10)]::[(22,11)]::[(23,12)]::[(17,6),(24,13)]::[]::[]::[(26,15),(27,16)]::[(28,17)]::[(29,18)]::[(30,19)]::[]::[]::[(32,21),(33,22)]::[(34,23)]::[(35,24)]::[(36,25)]::[(37,26)]::[(31,20),(38,27)]::[(25,14),(39,28)]::[(40,29)]::[]) (by kernel_rfl) ⟨
  fun w e=>(v_mv O).ob,
  fun w e=>(v_mv O).ob,
  fun w e=>(v_mv O).ob,
  fun w e=>B5 (i:=i) un_V ty_Q O (ER.ext eV hl (hW.trans e)) O hg,
  fun w e x3 hx3=>BH5 O7 O hx3,
  fun w e x4 hx4=>BH4 F0 O hx4,
  fun w e x5 hx5=>An8 O hx5,
  fun w e=>(v_mv O).ob,
  fun w e=>(v_mv O).ob,
  fun w e=>B5 (i:=i) un_V ty_Q O (ER.ext eV hl (hW.trans e)) O hg,
  fun w e x9 hx9=>BH5 O7 O hx9,
  fun w e x10 hx10=>BH3 D9 O hx10,
  fun w e x11 hx11=>I5 ty_W O hx11,
  fun w e x12 hx12=>(have hq1:=hq.1;Gv.ob ((BI9 un_W H3 O O hx12 (by omega)).mono fun v' w' ⟨h1,h2⟩=>⟨h2,h1.toR (S:=T) (fun k hk=>upT' e.size k hk)⟩) (A5 _ _ _)),
  fun w e x13 hx13=>BH7 hx13 O rfl,
  fun w e=>(v_mv O).ob,
  fun w e=>(v_mv O).ob,
  fun w e=>B5 (i:=i) un_V ty_Q O (ER.ext eV hl (hW.trans e)) O hg,
  fun w e x17 hx17=>BH6 O6 O hx17,
  fun w e x18 hx18=>BH4 F0 O hx18,
  fun w e x19 hx19=>An8 O hx19,
  fun w e=>(v_mv O).ob,
  fun w e=>(v_mv O).ob,
  fun w e=>B5 (i:=i) un_V ty_Q O (ER.ext eV hl (hW.trans e)) O hg,
  fun w e x23 hx23=>BH6 O6 O hx23,
  fun w e x24 hx24=>BH3 D9 O hx24,
  fun w e x25 hx25=>I5 ty_W O hx25,
  fun w e x26 hx26=>(have hq2:=hq.2;Gv.ob ((BI9 un_W H3 O O hx26 (by omega)).mono fun v' w' ⟨h1,h2⟩=>⟨h2,h1.toR (S:=T) (fun k hk=>upT' e.size k hk)⟩) (A5 _ _ _)),
  fun w e x27 hx27=>BH7 hx27 O rfl,
  fun w e x14 hx14 x28 hx28=>ob_bldQ hx14 hx28 O rfl,
  fun w e x29 hx29=>BD0 hx29,trivial⟩ ?_
 rintro W1 d1 _ _ _ _ _ _ _ _ _ _ _ _ _ _ _ _ _ _ _ _ _ _ _ _ _ _ _ _ _ _ _ _ _ _ _ _ _ _ _ ⟨bb,e9,rfl,kb9,he9⟩
 have hW1:=hW.trans d1
 refine .gv O O (J8 (E:=eQ) (base:=w.heap.size) (n:=q) (e:=e9) (by decide) un_V H4 O O O (hO.ext d1) kb9 (eQ.mono (fun k _ h=>hTS k h) he9) (by rw [List.length_take];omega) (by decide) hW1.size) ?_
 rintro v2 W2 ⟨hO2,g2⟩
 have hW2:Ext w W2:=OwnL.below (hO.ext d1) g2 hW1 hW1.size
 rw [<-htk] at hO2
 exact .go O (.inc O O O (by omega) (.goN O (.mk (i+1,v2) O (lc2 O O) ⟨⟨hW2,hlt,hO2⟩,by show l.length-(i+1)<l.length-i;omega⟩)))
end Go.Proofs.YtggegpiffjbngaaGreat
namespace Go.Kx
open Go Go.RowKit
def Sim (k:Value->Value->Prop) (w w':World):Prop:=∀ p u,Live w p u->∃ u',Live w' p u'/\k u u'
theorem Live.blk {w:World} {p:Addr} {u:Value} (h:Live w p u):∃ b off cs t f,p=⟨b,off,none⟩/\w.heap[b]?=some (.cells cs t f)/\cs[off]?=some u:=by
 obtain ⟨h1,_⟩:=h
 unfold World.cell? at h1
 split at h1
 ·rename_i c e f hh
  obtain ⟨b,off,spot⟩:=p
  cases spot with
  | none=>exact ⟨b,off,c,e,f,rfl,hh,by simpa using h1⟩
  | some s=>simp at h1
 ·cases h1
theorem heap_setCell {w:World} {b off:Nat} {v:Value} {cs:Array Value} {t:TypeId} {f:Nat×Nat} (h:w.heap[b]?=some (.cells cs t f)):(w.setCell ⟨b,off,none⟩ v).heap[b]?=some (.cells (cs.setIfInBounds off v) t f):=by
 unfold World.setCell
 simp [Array.getElem?_modify,h]
theorem AI7 {w:World} {b k off:Nat} {v:Value} (h:k≠b):(w.setCell ⟨b,off,none⟩ v).heap[k]?=w.heap[k]?:=by
 unfold World.setCell
 simp [Array.getElem?_modify,Ne.symm h]
theorem Live.inj {w:World} {p:Addr} {u v:Value} (h:Live w p u) (h':Live w p v):u=v:=by
 have h1:=h.1
 rw [h'.1] at h1
 exact (Option.some.inj h1).symm
theorem Live.setSelf {w:World} {p:Addr} {u v:Value} (h:Live w p u):Live (w.setCell p v) p v:=by
 obtain ⟨b,off,cs,t,f,rfl,hb,hc⟩:=h.blk
 have hset:=heap_setCell (w:=w) (off:=off) (v:=v) hb
 have hlt:=(Array.getElem?_eq_some_iff.1 hc).1
 refine ⟨?_,?_⟩
 ·unfold World.cell?
  simp [hset,hlt]
 ·have hfr:=h.2
  unfold World.frozen? at hfr ⊢
  simp [hb] at hfr
  simp [hset]
  exact hfr
theorem Live.setOther {w:World} {p q:Addr} {u x v:Value} (h:Live w p u) (hx:Live w q x) (hne:q≠p):Live (w.setCell p v) q x:=by
 obtain ⟨b,off,cs,t,f,rfl,hb,hc⟩:=h.blk
 obtain ⟨b',off',cs',t',f',rfl,hb',hc'⟩:=hx.blk
 have hfr:=hx.2
 by_cases e:b'=b
 ·subst e
  rw [hb] at hb'
  cases hb'
  have hset:=heap_setCell (w:=w) (off:=off) (v:=v) hb
  have e2:off≠off':=fun h=>hne (by rw [h])
  refine ⟨?_,?_⟩
  ·unfold World.cell?
   simp [hset,Array.getElem?_setIfInBounds_ne e2,hc']
  ·unfold World.frozen? at hfr ⊢
   simp [hb] at hfr
   simp [hset]
   exact hfr
 ·refine ⟨?_,?_⟩
  ·unfold World.cell?
   simp [AI7 e,hb',hc']
  ·unfold World.frozen? at hfr ⊢
   simp only [AI7 e]
   exact hfr
theorem BV3 {p:Addr} {i j:Nat} (h:i≠j):p.add i≠p.add j:=fun e=>by
 have:(p.add i).off=(p.add j).off:=by rw [e]
 unfold Addr.add at this
 by_cases hi:i=0<;>by_cases hj:j=0<;>simp [hi,hj] at this<;>omega
theorem Au4 {w:World} {p:Addr} {u v:Value} (h:Live w p u):Upd w (w.setCell p v) p.block:=by
 obtain ⟨b,off,cs,t,f,rfl,hb,hc⟩:=h.blk
 exact Upd.setCell w b off v
theorem Av4 {P:Program} {w:World} {p:Addr} {u v:Value} (h:Live w p u) (hv:one1 v=true):(store p v).run P w=.ok () (w.setCell p v):=by
 obtain ⟨h1,h2⟩:=h
 unfold store
 cases v<;>first | (simp [one1] at hv;done) | simp [Sem.run,h1,h2]
theorem AI5 {P:Program} {p:Addr}:∀ (vs:List Value) (i:Nat) (w:World),(∀ j v,vs[j]?=some v->∃ u,Live w (p.add (i+j)) u)->(∀ v∈vs,one1 v=true) ->
  ∃ w',(storeCells p vs i).run P w=.ok () w'/\(∀ q x,Live w q x->(∃ j v,vs[j]?=some v/\q=p.add (i+j)/\Live w' q v)\/((∀ j,j<vs.length->q≠p.add (i+j))/\Live w' q x))/\Upd w w' p.block
 | [],i,w,_,_=>⟨w,by simp [storeCells],fun q x h=>.inr ⟨fun j hj=>by simp at hj,h⟩,Upd.refl _ _⟩
 | v::vs,i,w,h,h1=>by
  obtain ⟨u,hu⟩:=h 0 v rfl
  rw [Nat.add_zero] at hu
  have hs:=Av4 (P:=P) (v:=v) hu (h1 v (by simp))
  obtain ⟨w',hr,hS,hU⟩:=AI5 (P:=P) (p:=p) vs (i+1) (w.setCell (p.add i) v) (fun j z hz=>by
   obtain ⟨u',hu'⟩:=h (j+1) z (by simpa using hz)
   rw [show i+1+j=i+(j+1) by omega]
   exact ⟨u',hu.setOther hu' (BV3 (by omega))⟩) (fun z hz=>h1 z (by simp [hz]))
  refine ⟨w',?_,fun q x hq=>?_,?_⟩
  ·simp only [storeCells,Sem.run_bind,hs,Result.andThen_ok,hr]
  ·by_cases e:q=p.add i
   ·left
    have hv:Live (w.setCell (p.add i) v) q v:=by rw [e];exact hu.setSelf
    rcases hS q v hv with ⟨j,z,_,hj,_⟩ | ⟨_,hl⟩
    ·exfalso
     rw [e] at hj
     exact BV3 (show i≠i+1+j by omega) hj
    ·exact ⟨0,v,rfl,by rw [Nat.add_zero];exact e,hl⟩
   ·rcases hS q x (hu.setOther hq e) with ⟨j,z,hz,hj,hl⟩ | ⟨hn,hl⟩
    ·exact .inl ⟨j+1,z,by simpa using hz,by rw [hj,show i+1+j=i+(j+1) by omega],hl⟩
    ·refine .inr ⟨fun j hj=>?_,hl⟩
     cases j with
     | zero=>rw [Nat.add_zero];exact e
     | succ j=>rw [show i+(j+1)=i+1+j by omega];exact hn j (by simpa using hj)
  ·have:=Au4 (v:=v) hu
   rw [G1] at this
   exact this.trans hU
theorem Aj9 {P:Program} {t:TypeId} {a:Bool} {n:Nat} {w:World} {p:Addr} {v:Value} {k:Value->Value->Prop} (hk:∀ u,k u u) (ht:tyOf P t=some (a,n)) (hn:v.cells.size=n) (h:∀ (j:Nat) (z:Value),v.cells[j]?=some z->∃ u,Live w (p.add j) u/\k u z) (h1:∀ u∈v.cells.toList,one1 u=true) :
  ∃ w',(storeVar t p v).run P w=.ok () w'/\Sim k w w'/\Upd w w' p.block:=by
 obtain ⟨w',hr,hS,hU⟩:=AI5 (P:=P) (p:=p) v.cells.toList 0 w (fun j z hz=>by
  obtain ⟨u,hu,_⟩:=h j z (by simpa using hz)
  rw [Nat.zero_add];exact ⟨u,hu⟩) h1
 refine ⟨w',?_,fun q x hq=>?_,hU⟩
 ·simp [storeVar,Sem.run_bind,(I1 ht w).2,hn,hr]
 ·rcases hS q x hq with ⟨j,z,hz,hj,hl⟩ | ⟨_,hl⟩
  ·obtain ⟨u,hu,hku⟩:=h j z (by simpa using hz)
   rw [Nat.zero_add] at hj
   rw [hj] at hq
   rw [hq.inj hu]
   exact ⟨z,hl,hku⟩
  ·exact ⟨x,hl,hk x⟩
section
variable {P:Program} {σ:Env} {w:World} {d:Option Tmp} {ty:TypeId} {pos:String} {af:Array Edge} {g:Option (Nat×Bool)}
theorem BT8 {t:TypeId} {x y:Operand} {p:Addr} {n:Nat} {a:Bool} {v:Value} {k:Value->Value->Prop} (hk:∀ u,k u u) (ht:tyOf P t=some (a,n)) (hx:ev σ x=some (.pointer (some p))) (hy:ev σ y=some v) (hn:v.cells.size=n)
  (h:∀ (j:Nat) (z:Value),v.cells[j]?=some z->∃ u,Live w (p.add j) u/\k u z) (h1:∀ u∈v.cells.toList,one1 u=true) :
  Gv P ⟨d,.store t x y,ty,pos,af,g⟩ σ w fun _ w'=>Sim k w w'/\Upd w w' p.block:=by
 refine ⟨(by intro _ h;cases h),fun ρ hρ=>.inr (.inl ?_)⟩
 have e1:=hρ x _ (by simp [Op.operands]) hx
 have e2:=hρ y _ (by simp [Op.operands]) hy
 obtain ⟨w',hr,hS,hu⟩:=Aj9 (P:=P) hk ht hn h h1
 exact ⟨w',by simp [execOp,e1,e2,Instr.storeAt,Instr.sureAddr,hr],hS,hu⟩
end
def eAny:ER Unit where
 sz:=1
 isA:=false
 R:=fun _ _ e _=>∃ n,e=.int .u32 n
 csz:=by rintro S w e x ⟨n,rfl⟩;rfl
 one:=by rintro S w e x ⟨n,rfl⟩ u hu;simp [Value.cells] at hu;subst hu;rfl
 shp:=by rintro S w e x ⟨n,rfl⟩;rfl
 keep:=fun _ h=>h
 mono:=fun _ h=>h
abbrev eWs:ER (List Unit):=RL eAny
def eQs:ER Unit where
 sz:=4
 isA:=true
 R:=fun S w e _=>∃ p s q t l1 l2,e=.agg #[.bool p,s,.bool q,t]/\eWs.R S w s l1/\eWs.R S w t l2
 csz:=by rintro S w e x ⟨p,s,q,t,l1,l2,rfl,_⟩;rfl
 one:=by
  rintro S w e x ⟨p,s,q,t,l1,l2,rfl,h1,h2⟩ u hu
  have hs:=eWs.shp h1
  have ht:=eWs.shp h2
  simp [Value.cells] at hu
  rcases hu with rfl | rfl | rfl | rfl
  ·rfl
  ·exact hs
  ·rfl
  ·exact ht
 shp:=by rintro S w e x ⟨p,s,q,t,l1,l2,rfl,_⟩;rfl
 keep:=fun hk ⟨p,s,q,t,l1,l2,h,h1,h2⟩=>⟨p,s,q,t,l1,l2,h,eWs.keep hk h1,eWs.keep hk h2⟩
 mono:=fun hk ⟨p,s,q,t,l1,l2,h,h1,h2⟩=>⟨p,s,q,t,l1,l2,h,eWs.mono hk h1,eWs.mono hk h2⟩
abbrev eVs:ER (List Unit):=RL eQs
abbrev eMs:ER (List (List Unit)):=RL eVs
def kd (w:World) (u u':Value):Prop:=u'=u\/((∃ m,u=.int .u32 m)/\∃ n,u'=.int .u32 n)\/((∃ p,u=.bool p)/\∃ q,u'=.bool q)\/((∃ l,eWs.R (fun _=>True) w u l)/\u'=.slice none 0 0)
theorem kd_refl {w:World} (u:Value):kd w u u:=.inl rfl
theorem AR7 {S:Nat->Prop} {w:World} {u:Value} {l:List Unit} (h:eWs.R S w u l):∃ a c,u=.slice a l.length c:=by
 obtain ⟨a,c,h,_⟩:=RL.len h
 exact ⟨a,c,h⟩
theorem BE1 {p:Nat->Value->Prop}:∀ n,(∀ i,i<n->∃ y,p i y)->∃ ys:List Value,ys.length=n/\∀ i y,ys[i]?=some y->p i y
 | 0,_=>⟨[],rfl,fun i y h=>by simp at h⟩
 | n+1,h=>by
  obtain ⟨ys,hl,hy⟩:=BE1 n fun i hi=>h i (by omega)
  obtain ⟨y,hp⟩:=h n (by omega)
  refine ⟨ys++[y],by simp [hl],fun i z hz=>?_⟩
  rcases Nat.lt_or_ge i ys.length with hi | hi
  ·rw [List.getElem?_append_left hi] at hz;exact hy i z hz
  ·rw [List.getElem?_append_right hi] at hz
   cases hk:i-ys.length with
   | zero=>rw [hk] at hz;simp at hz;subst hz;rw [show i=n by omega];exact hp
   | succ k=>rw [hk] at hz;simp at hz
def Cl {α:Type} (k:Value->Value->Prop) (E:ER α) (S:Nat->Prop) (w w':World):Prop :=
 ∀ (e:Value) (x:α),E.R S w e x->∀ cs:Array Value,cs.size=e.cells.size->(∀ (j:Nat) (u:Value),e.cells[j]?=some u->∃ u':Value,cs[j]?=some u'/\k u u')->∃ e':Value,e'.cells=cs/\E.R S w' e' x
theorem RL.sim {α:Type} {E:ER α} {hsz:0<E.sz} {S:Nat->Prop} {w w':World} {v:Value} {l:List α} (h:(RL E hsz).R S w v l) {k:Value->Value->Prop} (hS:Sim k w w') (hC:Cl k E S w w'):(RL E hsz).R S w' v l:=by
 obtain ⟨es,he,a,c,hv,h1,h2,h3,h4⟩:=h
 rcases Nat.eq_zero_or_pos l.length with h0 | hpos
 ·have:l=[]:=List.length_eq_zero_iff.1 h0
  subst this
  rw [hv];exact RL.nil
 obtain ⟨ad,ha,hSb,hc⟩:=h4 hpos
 have key:∀ i,i<l.length->∃ y:Value,(∀ x,l[i]?=some x->E.R S w' y x)/\∀ j u,y.cells[j]?=some u->Live w' (ad.add (i*E.sz+j)) u:=by
  intro i hi
  have hi':i<es.length:=by rw [he.1];exact hi
  have hee:es[i]?=some es[i]:=List.getElem?_eq_getElem hi'
  have hR:=he.2 i _ _ hee (List.getElem?_eq_getElem hi)
  have hs:=E.csz hR
  obtain ⟨cs,hl,hcs⟩:=BE1 (p:=fun j y=>Live w' (ad.add (i*E.sz+j)) y/\∀ u,es[i].cells[j]?=some u->k u y) E.sz fun j hj=>by
   obtain ⟨u,hu⟩:∃ u,es[i].cells[j]?=some u:=⟨_,Array.getElem?_eq_getElem (by rw [hs];exact hj)⟩
   have hg:=C5 es i j _ he.sz hee hj
   rw [hu] at hg
   obtain ⟨u',hl',hk⟩:=hS _ _ (hc _ u hg)
   exact ⟨u',hl',fun z hz=>by rw [hu] at hz;cases hz;exact hk⟩
  obtain ⟨e',hec,hR'⟩:=hC _ _ hR cs.toArray (by simp [hl,hs]) (fun j u hu=>by
   have hj:j<cs.length:=by
    rw [hl,<-hs]
    exact (Array.getElem?_eq_some_iff.1 hu).1
   refine ⟨cs[j],by simp [hj],(hcs j cs[j] (List.getElem?_eq_getElem hj)).2 u hu⟩)
  refine ⟨e',fun x hx=>?_,fun j u hu=>?_⟩
  ·rw [List.getElem?_eq_getElem hi] at hx;cases hx;exact hR'
  ·rw [hec] at hu
   exact (hcs j u (by simpa using hu)).1
 obtain ⟨es',hl',hes⟩:=BE1 l.length key
 have hels:Els E S w' es' l:=⟨hl',fun i e x h1 h2=>(hes i e h1).1 x h2⟩
 refine ⟨es',hels,a,c,hv,h1,h2,by rw [B7 _ hels.sz,hl'],fun _=>⟨ad,ha,hSb,fun j u hu=>?_⟩⟩
 have hjl:j<l.length*E.sz:=by
  rcases Nat.lt_or_ge j (l.length*E.sz) with h | h
  ·exact h
  ·rw [List.getElem?_eq_none (by rw [B7 _ hels.sz,hl'];exact h)] at hu;cases hu
 have hq:j / E.sz<l.length:=(Nat.div_lt_iff_lt_mul hsz).2 hjl
 have hr:j % E.sz<E.sz:=Nat.mod_lt _ hsz
 have hjd:(j / E.sz)*E.sz+j % E.sz=j:=by rw [Nat.mul_comm];exact Nat.div_add_mod j E.sz
 obtain ⟨y,hy⟩:∃ y,es'[j / E.sz]?=some y:=⟨_,List.getElem?_eq_getElem (by rw [hl'];exact hq)⟩
 have hg:=C5 es' (j / E.sz) (j % E.sz) y hels.sz hy hr
 rw [hjd,hu] at hg
 have:=(hes _ y hy).2 (j % E.sz) u hg.symm
 rw [hjd] at this
 exact this
theorem BS3 {e:Value} (h:one1 e=true):e.cells=#[e]:=by cases e<;>first | rfl | (simp [one1] at h)
theorem cl_any {S:Nat->Prop} {w w':World}:Cl (kd w) eAny S w w':=by
 rintro e x ⟨n,rfl⟩ cs hcs hk
 obtain ⟨u',hu',hkd⟩:=hk 0 _ rfl
 obtain ⟨l⟩:=cs
 match l,hcs with
 | [z],_ =>
  simp at hu'
  subst hu'
  rcases hkd with rfl | ⟨_,m,rfl⟩ | ⟨⟨_,h⟩,_⟩ | ⟨⟨_,h⟩,_⟩
  ·exact ⟨.int .u32 n,rfl,n,rfl⟩
  ·exact ⟨.int .u32 m,rfl,m,rfl⟩
  ·cases h
  ·obtain ⟨a,c,h⟩:=AR7 h
   cases h
theorem eWs.sim {S:Nat->Prop} {w w':World} {v:Value} {l:List Unit} (h:eWs.R S w v l) (hS:Sim (kd w) w w'):eWs.R S w' v l:=RL.sim h hS cl_any
theorem BI3 {w:World} {p:Bool} {u:Value} (h:kd w (.bool p) u):∃ q,u=.bool q:=by
 rcases h with rfl | ⟨⟨_,h⟩,_⟩ | ⟨_,h⟩ | ⟨⟨_,h⟩,_⟩
 ·exact ⟨_,rfl⟩
 ·cases h
 ·exact h
 ·obtain ⟨a,c,h⟩:=AR7 h
  cases h
theorem Ax6 {w:World} {a:Option Addr} {n c:Nat} {u:Value} (h:kd w (.slice a n c) u):u=.slice a n c\/((∃ l,eWs.R (fun _=>True) w (.slice a n c) l)/\u=.slice none 0 0):=by
 rcases h with rfl | ⟨⟨_,h⟩,_⟩ | ⟨⟨_,h⟩,_⟩ | h
 ·exact .inl rfl
 ·cases h
 ·cases h
 ·exact .inr h
theorem kd_ws {S:Nat->Prop} {w w':World} {s u:Value} {l:List Unit} (h:eWs.R S w s l) (hS:Sim (kd w) w w') (hk:kd w s u):∃ l',eWs.R S w' u l':=by
 have h':=eWs.sim h hS
 obtain ⟨a,c,rfl⟩:=AR7 h
 rcases Ax6 hk with rfl | ⟨_,rfl⟩
 ·exact ⟨l,h'⟩
 ·exact ⟨[],RL.nil⟩
theorem cl_q {S:Nat->Prop} {w w':World} (hS:Sim (kd w) w w'):Cl (kd w) eQs S w w':=by
 rintro e x ⟨p,s,q,t,l1,l2,rfl,h1,h2⟩ cs hcs hk
 obtain ⟨u0,g0,k0⟩:=hk 0 _ rfl
 obtain ⟨u1,g1,k1⟩:=hk 1 _ rfl
 obtain ⟨u2,g2,k2⟩:=hk 2 _ rfl
 obtain ⟨u3,g3,k3⟩:=hk 3 _ rfl
 obtain ⟨l⟩:=cs
 match l,hcs with
 | [z0,z1,z2,z3],_ =>
  simp at g0 g1 g2 g3
  subst g0 g1 g2 g3
  obtain ⟨p',rfl⟩:=BI3 k0
  obtain ⟨q',rfl⟩:=BI3 k2
  obtain ⟨m1,hm1⟩:=kd_ws h1 hS k1
  obtain ⟨m2,hm2⟩:=kd_ws h2 hS k3
  exact ⟨.agg #[.bool p',z1,.bool q',z3],rfl,p',z1,q',z3,m1,m2,rfl,hm1,hm2⟩
theorem eVs.sim {S:Nat->Prop} {w w':World} {v:Value} {l:List Unit} (h:eVs.R S w v l) (hS:Sim (kd w) w w'):eVs.R S w' v l:=RL.sim h hS (cl_q hS)
theorem BS6 {S S':Nat->Prop} {w:World} {v:Value} {l l':List Unit} (h:eVs.R S w v l) (h':eWs.R S' w v l'):l=[]:=by
 rcases Nat.eq_zero_or_pos l.length with h0 | hpos
 ·exact List.length_eq_zero_iff.1 h0
 exfalso
 obtain ⟨a1,c1,hv1⟩:=AR7 h'
 obtain ⟨es,he,a,c,hv,_,_,_,h4⟩:=h
 obtain ⟨es',he',a',c',hv',_,_,_,h4'⟩:=h'
 rw [hv] at hv'
 injection hv' with e1 e2 e3
 subst e1
 obtain ⟨ad,rfl,_,hc⟩:=h4 hpos
 obtain ⟨ad',ha',_,hc'⟩:=h4' (by omega)
 cases ha'
 obtain ⟨e,hee⟩:∃ e,es[0]?=some e:=⟨_,List.getElem?_eq_getElem (by rw [he.1];exact hpos)⟩
 obtain ⟨e',hee'⟩:∃ e,es'[0]?=some e:=⟨_,List.getElem?_eq_getElem (by rw [he'.1];omega)⟩
 obtain ⟨p,s,q,t,l1,l2,rfl,_⟩:=he.2 0 _ _ hee (List.getElem?_eq_getElem hpos)
 obtain ⟨n,rfl⟩:=he'.2 0 _ _ hee' (List.getElem?_eq_getElem (by omega))
 have g1:=C5 es 0 0 _ he.sz hee (by decide)
 have g2:=C5 es' 0 0 _ he'.sz hee' (by decide)
 have h1:=hc 0 _ g1
 have h2:=hc' 0 _ g2
 cases h1.inj h2
theorem cl_v {S:Nat->Prop} {w w':World} (hS:Sim (kd w) w w'):Cl (kd w) eVs S w w':=by
 rintro e l h cs hcs hk
 have h':=eVs.sim h hS
 obtain ⟨a,c,rfl,_⟩:=RL.len h
 obtain ⟨u',hu',hkd⟩:=hk 0 _ rfl
 obtain ⟨cl⟩:=cs
 match cl,hcs with
 | [z],_ =>
  simp at hu'
  subst hu'
  rcases Ax6 hkd with rfl | ⟨⟨l',hw⟩,rfl⟩
  ·exact ⟨_,rfl,h'⟩
  ·have:=BS6 h hw
   subst this
   exact ⟨_,rfl,RL.nil⟩
theorem eMs.sim {S:Nat->Prop} {w w':World} {v:Value} {l:List (List Unit)} (h:eMs.R S w v l) (hS:Sim (kd w) w w'):eMs.R S w' v l:=RL.sim h hS (cl_v hS)
theorem RL.weak {α β:Type} {E:ER α} {E':ER β} {hsz:0<E.sz} {hsz':0<E'.sz} {S:Nat->Prop} {w:World} {v:Value} {l:List α} (f:α->β) (h:(RL E hsz).R S w v l) (hs:E.sz=E'.sz) (hE:∀ e x,E.R S w e x->E'.R S w e (f x)):(RL E' hsz').R S w v (l.map f):=by
 obtain ⟨es,he,a,c,hv,h1,h2,h3,h4⟩:=h
 refine ⟨es,⟨by simp [he.1],fun i e y hx hy=>?_⟩,a,c,by simp [hv],by simp;exact h1,by simp;exact h2,by rw [h3];simp [hs],fun hn=>h4 (by simpa using hn)⟩
 rw [List.getElem?_map] at hy
 cases hl:l[i]? with
 | none=>rw [hl] at hy;cases hy
 | some x=>rw [hl] at hy;cases hy;exact hE _ _ (he.2 i e x hx hl)
theorem eW.shape {S:Nat->Prop} {w:World} {v:Value} {l:List Nat} (h:eW.R S w v l):eWs.R S w v (l.map fun _=>()):=RL.weak _ h O fun e x h=>⟨_,h.1⟩
theorem eQ.shape {S:Nat->Prop} {w:World} {v:Value} {q:QV} (h:eQ.R S w v q):eQs.R S w v ():=by
 obtain ⟨s,t,rfl,h1,h2⟩:=h
 exact ⟨_,s,_,t,_,_,rfl,eW.shape h1,eW.shape h2⟩
theorem eV.shape {S:Nat->Prop} {w:World} {v:Value} {l:List QV} (h:eV.R S w v l):eVs.R S w v (l.map fun _=>()):=RL.weak (E:=eQ) (E':=eQs) (fun _=>()) h O fun _ _ h=>eQ.shape h
theorem eM.shape {S:Nat->Prop} {w:World} {v:Value} {m:List (List QV)} (h:eM.R S w v m):eMs.R S w v (m.map fun l=>l.map fun _=>()):=RL.weak (E:=eV) (E':=eVs) _ h O fun _ _ h=>eV.shape h
def PtrL {α:Type} (E:ER α) (S:Nat->Prop) (w:World) (p:Addr) (x:α):Prop:=∃ e,E.R S w e x/\S p.block/\∀ j u,e.cells[j]?=some u->Live w (p.add j) u
theorem RL.atL {α:Type} {E:ER α} {hsz:0<E.sz} {S:Nat->Prop} {w:World} {v:Value} {l:List α} (h:(RL E hsz).R S w v l) {i:Nat} {x:α} (hi:l[i]?=some x):∃ ad c,v=.slice (some ad) l.length c/\PtrL E S w (ad.add (i*E.sz)) x:=by
 obtain ⟨es,h1,a,c,hv,h2,_,h3,h4⟩:=h
 have hlt:i<l.length:=(List.getElem?_eq_some_iff.1 hi).1
 obtain ⟨ad,ha,hS,hc⟩:=h4 (by omega)
 subst ha
 obtain ⟨e,he⟩:∃ e,es[i]?=some e:=⟨_,List.getElem?_eq_getElem (by rw [h1.1];exact hlt)⟩
 refine ⟨ad,c,hv,e,h1.2 i e x he hi,by rw [G1];exact hS,fun j u hu=>?_⟩
 rw [S1]
 refine hc _ u ?_
 have hj:j<E.sz:=by
  have hs:=h1.sz e (List.mem_iff_getElem?.2 ⟨i,he⟩)
  have:=(Array.getElem?_eq_some_iff.1 hu).1
  omega
 rw [C5 es i j e h1.sz he hj];exact hu
section
variable {P:Program} {ro:Option Nat} {N:Nat} {ds:List Deferred} {ops:Array Oper} {K:Env->World->Prop} {rest:List Oper} {σ:Env} {w:World} {d:Tmp} {ty:TypeId} {pos:String} {af:Array Edge} {α:Type} {E:ER α} {hsz:0<E.sz} {S:Nat->Prop} {v:Value} {l:List α}
theorem X9 {dd:Option Tmp} {gd:Option (Nat×Bool)} {t e:TypeId} {x ix:Operand} {k:IntKind} {i:Nat} {b:Bool} {sz n c:Nat} {ad:Addr} (ht:P.underlying t=some (.slice e)) (he:tyOf P e=some (b,sz)) (hx:ev σ x=some (.slice (some ad) n c))
  (hi:ev σ ix=some (.int k (i:Int))) (hlt:i<n):Vl P ⟨dd,.indexAddr t x ix,ty,pos,af,gd⟩ σ w (.pointer (some (ad.add (i*sz)))):=by
 refine ⟨(by intro _ h;cases h),fun ρ hρ=>?_⟩
 have h1:=hρ x _ (by simp [Op.operands]) hx
 have h2:=hρ ix _ (by simp [Op.operands]) hi
 have hlt':(i:Int)<(n:Int):=by omega
 simp [execOp,h1,h2,Instr.indexAt,asIntOf,run_underlying ht,(I1 he w).2]
 intro hh;omega
theorem WL.ixL {t e:TypeId} {x ix:Operand} {k:IntKind} {i:Nat} {b:Bool} {y:α} (ht:P.underlying t=some (.slice e)) (he:tyOf P e=some (b,E.sz)) (hd:Nat.blt d N=true) (hx:ev σ x=some v) (h:(RL E hsz).R S w v l)
  (hi:ev σ ix=some (.int k (i:Int))) (hy:l[i]?=some y) (kk:∀ p,PtrL E S w p y->WL P ro N ds ops K rest ((d,.pointer (some p))::σ) w) :
  WL P ro N ds ops K (⟨some d,.indexAddr t x ix,ty,pos,af,none⟩::rest) σ w:=by
 obtain ⟨ad,c,rfl,hp⟩:=RL.atL h hy
 exact WL.vl O hd (X9 ht he hx hi (List.getElem?_eq_some_iff.1 hy).1) (kk _ hp)
theorem WL.stL {t:TypeId} {x y:Operand} {p:Addr} {n:Nat} {a:Bool} {u:Value} {z:α} (ht:tyOf P t=some (a,n)) (hx:ev σ x=some (.pointer (some p))) (hy:ev σ y=some u) (hn:u.cells.size=n) (hp:PtrL E S w p z)
  (hk:∀ e:Value,E.R S w e z->∀ (j:Nat) (c:Value),u.cells[j]?=some c->∃ c0:Value,e.cells[j]?=some c0/\kd w c0 c) (h1:∀ c∈u.cells.toList,one1 c=true) (kk:∀ w',Sim (kd w) w w'->Chg S w w'->WL P ro N ds ops K rest σ w') :
  WL P ro N ds ops K (⟨none,.store t x y,ty,pos,af,none⟩::rest) σ w:=by
 obtain ⟨e,he,hS,hc⟩:=hp
 exact WL.gv O O (BT8 kd_refl ht hx hy hn (fun j c hj=>by
  obtain ⟨c0,h0,hkd⟩:=hk e he j c hj
  exact ⟨c0,hc j c0 h0,hkd⟩) h1) fun _ w' ⟨hs,hu⟩=>kk w' hs (Chg.upd hu hS)
end
end Go.Kx
namespace Go.Proofs.YtggegpiffjbngaaGreat
open Go Go.Kx Go.RowKit
section
variable {W W':World} {v va vb:Value} {n c n' c' L L':Nat} {a b m:List (List QV)} {x y:List QV}
end
end Go.Proofs.YtggegpiffjbngaaGreat
namespace Go.Kx
open Go Go.RowKit
theorem eMs.loc {S:Nat->Prop} {w:World} {v:Value} {rows:List (List Unit)} {row:List Unit} {i:Nat} (h:eMs.R S w v rows) (hi:rows[i]?=some row):∃ ad c vr,v=.slice (some ad) rows.length c/\w.cell? (ad.add (i*1))=some vr/\eVs.R S w vr row:=by
 obtain ⟨ad,c,hv,_,e,he,_,hc⟩:=RL.at_ h hi
 have h0:=eVs.shp he
 have hce:=BS3 (show one1 e=true from h0)
 exact ⟨ad,c,e,hv,by have:=hc 0 e (by rw [hce];rfl);rwa [show (ad.add (i*eVs.sz)).add 0=ad.add (i*1) from rfl] at this,he⟩
theorem eVs.loc {S:Nat->Prop} {w:World} {v:Value} {row:List Unit} {k:Nat} (h:eVs.R S w v row) (hk:row[k]?=some ()):∃ ad c s t l1 l2,v=.slice (some ad) row.length c/\PtrL eQs S w (ad.add (k*4)) ()/\w.cell? (((ad.add (k*4)).add 0).add 1)=some s/\eWs.R S w s l1/\w.cell? (((ad.add (k*4)).add 2).add 1)=some t/\eWs.R S w t l2:=by
 obtain ⟨ad,c,hv,hp⟩:=RL.atL h hk
 have hp':=hp
 obtain ⟨e,⟨b,s,d,t,l1,l2,rfl,h1,h2⟩,_,hc⟩:=hp'
 exact ⟨ad,c,s,t,l1,l2,hv,hp,by rw [S1];exact (hc 1 s O).1,h1,by rw [S1];exact (hc 3 t O).1,h2⟩
theorem BI2 {S:Nat->Prop} {w:World} {n:Int} (e:Value) (he:eAny.R S w e ()) (j:Nat) (c:Value) (hj:(Value.int .u32 n).cells[j]?=some c):∃ c0:Value,e.cells[j]?=some c0/\kd w c0 c:=by
 obtain ⟨m,rfl⟩:=he
 cases j with
 | zero=>exact ⟨.int .u32 m,rfl,.inr (.inl ⟨⟨m,rfl⟩,n,by simpa [Value.cells] using hj.symm⟩)⟩
 | succ j=>simp [Value.cells] at hj
theorem kd_rat {S:Nat->Prop} {w:World} (e:Value) (he:eQs.R S w e ()) (j:Nat) (c:Value) (hj:zq.cells[j]?=some c):∃ c0:Value,e.cells[j]?=some c0/\kd w c0 c:=by
 obtain ⟨b,s,d,t,l1,l2,rfl,h1,h2⟩:=he
 match j with
 | 0=>exact ⟨.bool b,rfl,.inr (.inr (.inl ⟨⟨b,rfl⟩,false,by simpa [Value.cells] using hj.symm⟩))⟩
 | 1=>exact ⟨s,rfl,.inr (.inr (.inr ⟨⟨l1,eWs.mono (fun _ _ _=>trivial) h1⟩,by simpa [Value.cells] using hj.symm⟩))⟩
 | 2=>exact ⟨.bool d,rfl,.inr (.inr (.inl ⟨⟨d,rfl⟩,false,by simpa [Value.cells] using hj.symm⟩))⟩
 | 3=>exact ⟨t,rfl,.inr (.inr (.inr ⟨⟨l2,eWs.mono (fun _ _ _=>trivial) h2⟩,by simpa [Value.cells] using hj.symm⟩))⟩
 | j+4=>simp [Value.cells] at hj
end Go.Kx
namespace Go.Proofs.YtggegpiffjbngaaGreat
open Go Go.Kx Go.RowKit
theorem E_law17_Spoil:Ent Tryz.prog 23:=A0 Tryz.func23 (by kernel_rfl) rfl
set_option maxRecDepth 8000 in
theorem law17_Spoil_c {S:Nat->Prop} {w:World} {v:Value} {rows:List (List Unit)} (h:eMs.R S w v rows):Calls Tryz.prog 23 #[v] w fun e w'=>∃ u,e=.returned u/\Chg S w w':=by
 obtain ⟨_,_,_,_,hrl⟩:=RL.len h
 refine enterG Tryz.func23 O Tryz.ntmps23 O (.beg (.goC O ?_))
 refine .lp (α:=Nat) [0] O (fun i=>[(2,.int .i64 (i:Nat))]) (fun i W=>Chg S w W/\eMs.R S W v rows/\i<=rows.length) (fun i=>rows.length-i) 0 (lc1 O) ⟨Chg.refl _,h,Nat.zero_le _⟩ ?_
 rintro i W ⟨hC,hM,hi⟩
 refine .go O (.lenR un_M O O hM ?_)
 rcases Nat.lt_or_ge i rows.length with hlt | hge
 rotate_left
 ·exact .lssF O O O (by omega) (.goE O (.plain [] Tryz.results23 trivial hC))
 have hgi:rows[i]?=some (rows.getD i []):=A9 hlt
 generalize rows.getD i []=row at hgi
 have hrow:row.length<=9223372036854775807:=by
  obtain ⟨_,_,_,_,_,hr⟩:=eMs.loc hM hgi
  obtain ⟨_,_,_,_,hl⟩:=RL.len hr
  exact hl
 refine .lssT O O O (by omega) (.goC O ?_)
 refine .lp (α:=Nat) [0,2] O (fun k=>[(3,.int .i64 (k:Nat))]) (fun k W=>Chg S w W/\eMs.R S W v rows/\k<=row.length) (fun k=>row.length-k) 0 (lc1 O) ⟨hC,hM,Nat.zero_le _⟩ ?_
 clear hC hM
 rintro k W ⟨hC,hM,hk⟩
 obtain ⟨ad,cm,vr,hv,hvr,hr⟩:=eMs.loc hM hgi
 refine .go O (.vl O O (X9 un_M ty_V (congrArg some hv) O hlt) ?_)
 refine .vl O O (AB4 ty_V O hvr) (.lenR un_V O O hr ?_)
 rcases Nat.lt_or_ge k row.length with hltk | hgek
 rotate_left
 ·exact .lssF O O O (by omega) (.go O (.inc O O O (by omega) (.goN O (.mk (i+1) O (lc1 O) ⟨⟨hC,hM,hlt⟩,by show rows.length-(i+1)<rows.length-i;omega⟩))))
 have hgk:row[k]?=some ():=List.getElem?_eq_getElem hltk
 refine .lssT O O O (by omega) (.goC O ?_)
 clear hv hvr hr
 refine .lp (α:=Nat) [0,2,3] O (fun j=>[(4,.int .i64 (j:Nat))]) (fun j W=>Chg S w W/\eMs.R S W v rows/\j<=9223372036854775807) (fun j=>9223372036854775807-j) 0 (lc1 O) ⟨hC,hM,Nat.zero_le _⟩ ?_
 clear hC hM
 rintro j W ⟨hC,hM,hj⟩
 have hM0:=hM
 obtain ⟨ad,cm,vr,hv,hvr,hr⟩:=eMs.loc hM hgi
 obtain ⟨ad2,cr,sv,tv,l1,l2,rfl,hq,hsc,hs,htc,ht⟩:=eVs.loc hr hgk
 obtain ⟨asl,csl,hsv,_,hsl⟩:=RL.len hs
 refine .go O (.vl O O (X9 un_M ty_V (congrArg some hv) O hlt) (.vl O O (AB4 ty_V O hvr) (.go O (.vl O O (X9 un_V ty_Q O O hltk) (.faP O7 O O (.faP D9 O O (.vl O O (AB4 ty_W O hsc) (.lenR un_W O O hs ?_))))))))
 rcases Nat.lt_or_ge j l1.length with hltj | hgej
 ·have hgj:l1[j]?=some ():=List.getElem?_eq_getElem hltj
  refine .lssT O O O (by omega) (.go O (.vl O O (X9 un_M ty_V (congrArg some hv) O hlt) (.vl O O (AB4 ty_V O hvr) (.go O (.vl O O (X9 un_V ty_Q O O hltk) (.faP O7 O O (.faP D9 O O (.vl O O (AB4 ty_W O hsc) (.go O (.ixL (i:=j) un_W A8 O O hs O hgj fun p3 hp3=>?_))))))))))
  refine .stL A8 O O O hp3 BI2 (by simp [Value.cells,one1]) fun W3 hsim hchg=>?_
  exact .go O (.inc O O O (by omega) (.goN O (.mk (j+1) O (lc1 O) ⟨⟨hC.trans hchg,eMs.sim hM0 hsim,by show j+1<=_;omega⟩,by show 9223372036854775807-(j+1)<9223372036854775807-j;omega⟩)))
 refine .lssF O O O (by omega) (.goC O ?_)
 clear hj hgej hv hvr hr hq hsc hs htc ht hsv hsl hM0
 refine .lp (α:=Nat) [0,2,3] O (fun j=>[(5,.int .i64 (j:Nat))]) (fun j W=>Chg S w W/\eMs.R S W v rows/\j<=9223372036854775807) (fun j=>9223372036854775807-j) 0 (lc1 O) ⟨hC,hM,Nat.zero_le _⟩ ?_
 clear hC hM
 rintro j W ⟨hC,hM,hj⟩
 have hM0:=hM
 obtain ⟨ad,cm,vr,hv,hvr,hr⟩:=eMs.loc hM hgi
 obtain ⟨ad2,cr,sv,tv,l1,l2,rfl,hq,hsc,hs,htc,ht⟩:=eVs.loc hr hgk
 obtain ⟨asl,csl,hsv,_,hsl⟩:=RL.len ht
 refine .go O (.vl O O (X9 un_M ty_V (congrArg some hv) O hlt) (.vl O O (AB4 ty_V O hvr) (.go O (.vl O O (X9 un_V ty_Q O O hltk) (.faP O6 O O (.faP D9 O O (.vl O O (AB4 ty_W O htc) (.lenR un_W O O ht ?_))))))))
 rcases Nat.lt_or_ge j l2.length with hltj | hgej
 ·have hgj:l2[j]?=some ():=List.getElem?_eq_getElem hltj
  refine .lssT O O O (by omega) (.go O (.vl O O (X9 un_M ty_V (congrArg some hv) O hlt) (.vl O O (AB4 ty_V O hvr) (.go O (.vl O O (X9 un_V ty_Q O O hltk) (.faP O6 O O (.faP D9 O O (.vl O O (AB4 ty_W O htc) (.go O (.ixL (i:=j) un_W A8 O O ht O hgj fun p3 hp3=>?_))))))))))
  refine .stL A8 O O O hp3 BI2 (by simp [Value.cells,one1]) fun W3 hsim hchg=>?_
  exact .go O (.inc O O O (by omega) (.goN O (.mk (j+1) O (lc1 O) ⟨⟨hC.trans hchg,eMs.sim hM0 hsim,by show j+1<=_;omega⟩,by show 9223372036854775807-(j+1)<9223372036854775807-j;omega⟩)))
 refine .lssF O O O (by omega) (.go O ?_)
 refine .vl O O (X9 un_M ty_V (congrArg some hv) O hlt) (.vl O O (AB4 ty_V O hvr) (.go O (.bld _ O O R9 (.vl O O (X9 un_V ty_Q O O hltk) ?_))))
 refine .stL (u:=zq) ty_Q O O O hq kd_rat (by simp [Value.cells,one1]) fun W3 hsim hchg=>?_
 exact .go O (.inc O O O (by omega) (.goN O (.mk (k+1) O (lc1 O) ⟨⟨hC.trans hchg,eMs.sim hM0 hsim,hltk⟩,by show row.length-(k+1)<row.length-k;omega⟩)))
theorem bsl_II1 {a:Option Addr} {n c:Nat}:bslOf Tryz.prog 47 1 [(0,.slice a n c)]=some (25,#[.slice a n c]):=by kernel_rfl
end Go.Proofs.YtggegpiffjbngaaGreat
