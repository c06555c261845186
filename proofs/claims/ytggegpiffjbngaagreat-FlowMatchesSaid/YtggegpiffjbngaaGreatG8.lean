/-
  What the claim leans on.
-/
import Derived.Test.YtggegpiffjbngaaGreatG7
import Derived.Lib.SmallJoins
set_option linter.unusedVariables false
namespace Go.Proofs.YtggegpiffjbngaaGreat
open Go Go.Kx Go.RowKit
def mixL {α:Type} (B b:Nat) (f g:Nat->α):List α:=(List.range B).map fun j=>if j<b then f j else g j
theorem BT5 {α:Type} (B b:Nat) (f g:Nat->α):(mixL B b f g).length=B:=by simp [mixL]
theorem BT6 {α:Type} {B b:Nat} {f g:Nat->α} (h:b<B):(mixL B b f g)[b]?=some (g b):=by
 unfold mixL
 rw [List.getElem?_map,List.getElem?_range h,Option.map_some,if_neg (Nat.lt_irrefl b)]
theorem BT4 {α:Type} {B b:Nat} {f g:Nat->α}:(mixL B b f g).set b (f b)=mixL B (b+1) f g:=by
 refine List.ext_getElem (by simp [mixL]) fun j h1 h2=>?_
 rw [List.getElem_set]
 by_cases e:b=j
 ·subst e;simp [mixL]
 ·rw [if_neg e]
  by_cases h:j<b
  ·simp [mixL,h,show j<b+1 by omega]
  ·simp [mixL,h,show ¬ j<b+1 by omega]
theorem BM3 {α:Type} (B:Nat) (f g:Nat->α):mixL B 0 f g=(List.range B).map g:=by
 unfold mixL
 exact List.map_congr_left fun j _=>if_neg (Nat.not_lt_zero j)
theorem BT7 {α:Type} (B:Nat) (f g:Nat->α):mixL B B f g=(List.range B).map f:=by
 unfold mixL
 exact List.map_congr_left fun j hj=>if_pos (List.mem_range.1 hj)
theorem BH3 {S:Nat->Prop} {w:World} {n:Nat} {k:Int} (up:Up S w) (hn:n<=65536):CR Tryz.prog 90 #[.int .i64 (n:Nat),.int .i64 k] w (eV.at S (tab n (uniR k))) :=
 (AG3 up hn).mono fun _ _ _ hv=>hv.toR (fun j hj=>up j hj) (fun _ h=>h)
theorem Al9:Ent Tryz.prog 35:=A0 Tryz.func35 (by kernel_rfl) rfl
set_option maxRecDepth 8000 in
theorem Ak6 {S:Nat->Prop} {w:World} {vn vo:Value} {n:NtV} {o:List Int} (up:Up S w) (hn:eN.R S w vn n) (ho:eI.R S w vo o) :
  CR Tryz.prog 35 #[vn,vo] w (Two (fun v W=>if outE n o=0 then ∃ g vs base,v=.slice (some ⟨g,0,none⟩) (nwOf n o).B (nwOf n o).B/\w.heap.size<=base/\base<=g/\RwI S base g W vs (tabM (nwOf n o).B (nwOf n o).B (nwOf n o).Lk) else v=.slice none 0 0) (Is (.int .i64 (outE n o)))):=by
 obtain ⟨s,rfl,hs,hb⟩:=hn
 have hn:eN.R S w (.agg #[.int .i64 n.b,s]) n:=⟨s,rfl,hs,hb⟩
 refine enter Tryz.func35 O Tryz.ntmps35 O (.beg (.go O (.box O O fun w1 b2 n1=>.go O ?_)))
 obtain ⟨e1,k2,hb2,hs1⟩:=n1
 replace k2:Blk w1 b2 24 #[.int .i64 n.b,s]:=k2
 refine .ldA ty_N O O k2 O (.go O ?_)
 refine .call _ O Y8 O (X9 (hn.ext e1) (ho.ext e1)) fun v3 w3 e3 h3=>?_
 subst h3
 have x3:=e1.trans e3
 have k2:=k2.ext e3
 refine .go O ?_
 by_cases hO:outE n o=0
 rotate_left
 ·refine .neqT O O O hO (.goE O (.plain [_,_] Tryz.results35 ⟨rfl,rfl,trivial⟩ ⟨x3,_,_,rfl,?_,rfl⟩))
  show if outE n o=0 then _ else _
  rw [if_neg hO]
 have ok:=V4 hO
 have hnb:=ok.b
 have hB6:=ok.b6
 have hM10:n.ls.length<=10:=ok.m
 rw [hnb] at k2 hn
 have z3:=x3.size
 refine .neqF O O O hO (.go O (.fa E9 O O (.go O (.ld A4 O O k2 O ?_))))
 refine .make_ _ _ un_M AK5 O (by decide) O O O (Nat.le_refl _) (by omega) (by omega) fun w4 g n4=>?_
 have f4:FB eRaw 32 (fun _=>True) w4 g (List.replicate (nwOf n o).B (Value.slice none 0 0)):=FB.made n4 ⟨rfl,none,0,0,rfl⟩
 obtain ⟨e4,_,hg,hs4⟩:=n4
 have r4:RwI S w3.heap.size g w4 _ (List.replicate (nwOf n o).B []):=RwI.fresh f4
 have hz:List.replicate (nwOf n o).B ([]:List QV)=tabM (nwOf n o).B 0 (nwOf n o).Lk:=by
  refine List.ext_getElem (by simp [tabM]) fun j h1 h2=>?_
  simp [tabM,tab]
 rw [hz] at r4
 have hgb:w3.heap.size<=g:=by omega
 refine .goC O ?_
 refine .lp (α:=Nat×List Value) [1,2,7] O (fun y=>[(8,.int .i64 (y.1:Nat))]) (fun y W=>Ext w3 W/\y.1<=(nwOf n o).B/\RwI S w3.heap.size g W y.2 (tabM (nwOf n o).B y.1 (nwOf n o).Lk)) (fun y=>(nwOf n o).B-y.1) (0,_) (lc1 O) ⟨e4,Nat.zero_le _,r4⟩ ?_
 rintro ⟨k,vs⟩ W ⟨hW,hi,hR⟩
 replace hW:Ext w3 W:=hW
 replace hi:k<=(nwOf n o).B:=hi
 replace hR:RwI S w3.heap.size g W vs (tabM (nwOf n o).B k (nwOf n o).Lk):=hR
 have k2W:∀ {W':World},Ext w3 W'->Blk W' b2 24 #[.int .i64 ((nwOf n o).B:Nat),s]:=fun e=>k2.ext e
 have zW:=hW.size
 refine .go O (.fa E9 O O (.go O (.ld A4 O O (k2W hW) O (.go O ?_))))
 rcases Nat.lt_or_ge k (nwOf n o).B with hlt | hge
 rotate_left
 ·have:k=(nwOf n o).B:=by omega
  subst this
  refine .lssF O O O (by omega) (.goE O (.plain [_,_] Tryz.results35 ⟨rfl,rfl,trivial⟩ ⟨x3.trans hW,_,_,rfl,?_,by rw [hO]⟩))
  show if outE n o=0 then _ else _
  rw [if_pos hO]
  exact ⟨g,vs,w3.heap.size,rfl,z3,hgb,hR⟩
 generalize hX:offV S g vs=X
 have upX:∀ {W':World},W.heap.size<=W'.heap.size->Up X W':=fun h=>by rw [<-hX];exact hR.up h fun j hj=>up j (by omega)
 have hlow:∀ j,S j->j<w.heap.size->X j:=fun j h1 h2=>by rw [<-hX];exact hR.low hgb (by omega) h1
 have hnX:∀ {W':World},Ext w3 W'->eN.R X W' (.agg #[.int .i64 ((nwOf n o).B:Nat),s]) n:=fun e=>ER.ext eN (eN.mono (fun j _ h=>hlow j h.1 h.2) (ER.lt eN hn)) (x3.trans e)
 have hoX:∀ {W':World},Ext w3 W'->eI.R X W' vo o:=fun e=>ER.ext eI (eI.mono (fun j _ h=>hlow j h.1 h.2) (ER.lt eI ho)) (x3.trans e)
 have hsf:sfE n o (tab (nwOf n o).B (uniR (k:Nat))).length=0:=by
  unfold sfE
  rw [A1,if_neg (by simpa using hO),if_pos (by omega)]
 have hfz:vk 4 (tab n.ls.length ((nwOf n o).fl (rv (tab (nwOf n o).B (uniR (k:Nat)))))):=O5 fun i _=>fl_rsz ok (fun c=>(BQ2 (nwOf n o).B k).rsz (Nat.le_refl _) c) i
 have hno:noE n o (tab n.ls.length ((nwOf n o).fl (rv (tab (nwOf n o).B (uniR (k:Nat)))))).length=0:=by
  unfold noE
  rw [A1,if_neg (by simpa using hO),if_pos (Nat.le_refl _)]
 generalize hfl:tab n.ls.length ((nwOf n o).fl (rv (tab (nwOf n o).B (uniR (k:Nat)))))=fv at hfz hno
 have hoff:(nwOf n o).offM (rv fv)=fun b=>(nwOf n o).Lk b k:=by funext b;rw [<-hfl];rfl
 refine .lssT O O O (by omega) (.goC O ?_)
 refine .par follows 11 [.inl (.agg #[.int .i64 ((nwOf n o).B:Nat),s]),.inl _,.inl _,.inl (.int .i64 ((nwOf n o).B:Nat)),.inl _,.inr (eV.at X (tab (nwOf n o).B (uniR (k:Nat)))),.inr (Two (eV.at X fv) (Is (.int .i64 0))),.inr (Two (eV.at X fv) (Is (.int .i64 0))),.inr (eV.at X fv),.inl (.int .i64 0),.inr (eV.at X fv)] [[],[],[],[(32,2)],[],[(33,3),(34,4)],[(30,0),(31,1),(35,5)],[(36,6)],[(29,7)],[(29,7)],[(37,8)]] (by kernel_rfl) ⟨
  fun w e=>(B9 ty_N O (k2W (hW.trans e)) O).ob,
  fun w e=>(v_mv O).ob,
  fun w e=>(v_fa E9 O).ob,
  fun w e=>(v_ld A4 O (k2W (hW.trans e)) O).ob,
  fun w e=>(v_mv O).ob,
  fun w e=>(A2 _ Z0 O (BH3 (upX e.size) (by omega))).ob (A3 _ _ _),
  fun w e x5 hx5=>(by have:=Ag3 (L:=1) (upX e.size) (hnX (hW.trans e)) (hoX (hW.trans e)) hx5 (BQ2 _ _) (by decide) (by decide);rw [hsf,if_pos rfl,hfl] at this;exact (A2 _ Aj4 O this).ob (Z8 (A3 _ _ _) (AN9 _))),
  fun w e x6 hx6=>L4 (v_mv O) hx6 (Z8 (A3 _ _ _) (AN9 _)),
  fun w e x7 hx7=>by
   obtain ⟨p1,q1,rfl,hp1,hq1⟩:=hx7
   exact L4 (v_ex O O) hp1 (A3 _ _ _),
  fun w e x7 hx7=>by
   obtain ⟨p1,q1,rfl,hp1,hq1⟩:=hx7
   exact ((v_ex O O).eq hq1).ob,
  fun w e x8 hx8=>L4 (v_as O) hx8 (A3 _ _ _),trivial⟩ ?_
 intro W5 d5 y5 hy5 y6 hy6 y7 hy7 y8 hy8 vf hvf
 have hW5:=hW.trans d5
 refine .go O (.ldA ty_N O O (k2W hW5) O (.go O ?_))
 have hoffc:=Aw3 (L:=4) (upX d5.size) (hnX hW5) (hoX hW5) hvf hfz (by decide) (by decide)
 rw [hno,if_pos rfl,hoff] at hoffc
 refine .call _ O BA2 O hoffc fun v6 W6 d6 h6=>?_
 obtain ⟨va,ve,rfl,ha,rfl⟩:=h6
 have hW6:=hW5.trans d6
 have hR:=(hR.ext d5).ext d6
 replace ha:eV.R X W6 va (tab (nwOf n o).B fun b=>(nwOf n o).Lk b k):=ha
 rw [<-hX] at ha
 have hmz:tabM (nwOf n o).B k (nwOf n o).Lk=mixL (nwOf n o).B 0 (fun b=>tab (k+1) ((nwOf n o).Lk b)) (fun b=>tab k ((nwOf n o).Lk b)):=by rw [BM3];rfl
 have hma:mixL (nwOf n o).B (nwOf n o).B (fun b=>tab (k+1) ((nwOf n o).Lk b)) (fun b=>tab k ((nwOf n o).Lk b))=tabM (nwOf n o).B (k+1) (nwOf n o).Lk:=by rw [BT7];rfl
 rw [hmz] at hR
 refine .goC O ?_
 refine .lp (α:=Nat×List Value) [1,2,7,8,11] O (fun y=>[(13,.int .i64 (y.1:Nat))]) (fun y W'=>Ext w3 W'/\y.1<=(nwOf n o).B/\RwI S w3.heap.size g W' y.2 (mixL (nwOf n o).B y.1 (fun b=>tab (k+1) ((nwOf n o).Lk b)) (fun b=>tab k ((nwOf n o).Lk b)))/\eV.R (offV S g y.2) W' va (tab (nwOf n o).B fun b=>(nwOf n o).Lk b k)) (fun y=>(nwOf n o).B-y.1) (0,vs) (lc1 O) ⟨hW6,Nat.zero_le _,hR,ha⟩ ?_
 clear hR ha
 rintro ⟨b,us⟩ W7 ⟨hW7,hi7,hR,ha⟩
 replace hW7:Ext w3 W7:=hW7
 replace hi7:b<=(nwOf n o).B:=hi7
 replace hR:RwI S w3.heap.size g W7 us (mixL (nwOf n o).B b (fun b=>tab (k+1) ((nwOf n o).Lk b)) (fun b=>tab k ((nwOf n o).Lk b))):=hR
 replace ha:eV.R (offV S g us) W7 va (tab (nwOf n o).B fun b=>(nwOf n o).Lk b k):=ha
 refine .go O (.fa E9 O O (.go O (.ld A4 O O (k2W hW7) O (.go O ?_))))
 rcases Nat.lt_or_ge b (nwOf n o).B with hbl | hge
 rotate_left
 ·have:b=(nwOf n o).B:=by omega
  subst this
  rw [hma] at hR
  exact .lssF O O O (by omega) (.go O (.inc O O O (by omega) (.goN O (.mk (k+1,us) O (lc1 O) ⟨⟨hW7,hlt,hR⟩,by show (nwOf n o).B-(k+1)<(nwOf n o).B-k;omega⟩))))
 have hvl:b<us.length:=by rw [hR.len,BT5];exact hbl
 have hu:=List.getElem?_eq_getElem hvl
 generalize us[b]=u at hu
 have hum:u∈us:=List.mem_iff_getElem?.2 ⟨b,hu⟩
 have hm:=BT6 (f:=fun b=>tab (k+1) ((nwOf n o).Lk b)) (g:=fun b=>tab k ((nwOf n o).Lk b)) hbl
 have hga:(tab (nwOf n o).B fun b=>(nwOf n o).Lk b k)[b]?=some (qc ((nwOf n o).Lk b k)):=K0 hbl
 have htk:tab k ((nwOf n o).Lk b)++[qc ((nwOf n o).Lk b k)]=tab (k+1) ((nwOf n o).Lk b):=by
  unfold tab;rw [List.range_succ,List.map_append];rfl
 generalize qc ((nwOf n o).Lk b k)=q at hga htk
 refine .lssT O O O (by omega) (.goC O ?_)
 refine .parL follows 11 [0,1] [.inl _,.inl _,.inl _,.inl _,.inl (.pointer (some ⟨g,0+b*1,none⟩)),.inl u,.inl _,.inl _,.inr (Ptr eQ (offV S g us) q),.inr (eQ.at (offV S g us) q),.inr (OneP (offV S g us) q)] [[],[],[],[],[(54,2),(55,3)],[(56,4)],[],[],[(58,6),(59,7)],[(60,8)],[(61,9)]] (by kernel_rfl) ⟨
  fun w e=>(v_mv O).ob,
  fun w e=>(v_mv O).ob,
  fun w e=>(v_mv O).ob,
  fun w e=>(v_mv O).ob,
  fun w e=>(J9 (i:=b) un_M ty_V O O hbl).ob,
  fun w e=>(AQ4 (E:=eRaw) (i:=b) (by decide) ty_V O (Nat.zero_add _) (hR.out.ext e) hu).mono fun v' w' ⟨e1,h⟩=>⟨e1,(h w' (Ext.refl _)).1⟩,
  fun w e=>(v_mv O).ob,
  fun w e=>(v_mv O).ob,
  fun w e=>B7 (i:=b) un_V ty_Q O (ER.ext eV ha e) O hga,
  fun w e x8 hx8=>J2 ty_Q O hx8,
  fun w e x9 hx9=>BT2 hx9,trivial⟩ ?_
 rintro W1 d1 y8 hy8 y9 hy9 _ ⟨bb,e9,rfl,kb9,he9⟩
 have hW1:=hW7.trans d1
 have hR1:=hR.ext d1
 have hrow:=hR1.inn b u _ hu hm
 refine .gv O O (AG7 (E:=eQ) (base:=w3.heap.size) (n:=q) (e:=e9) (by decide) un_V H0 O O O hrow kb9 (eQ.mono (fun j _ h=>⟨h,h.2.2 u hum⟩) he9) (by rw [A1];omega) (by decide) hW1.size) ?_
 rintro v2 W2 ⟨hO2,g2,hob⟩
 have fb2:FB eRaw 32 (fun _=>True) W2 g us:=by
  obtain ⟨es,hb,he⟩:=hR1.out
  exact ⟨es,hrow.gblk g2 hb (by decide),he.1,fun i e x h1 h2=>he.2 i e x h1 h2⟩
 obtain ⟨a2,c2,hv2⟩:=hO2.slice
 refine .ixB (i:=b) un_M ty_V O O O hbl (.storeF (E:=eRaw) (i:=b) (z:=v2) (by decide) ty_V O O fb2 O hvl (Nat.zero_add _) ⟨rfl,_,_,_,hv2⟩ fun W3 fb3 u3=>?_)
 have hR3:=hR1.step hu hm hO2 g2 hob fb3 u3
 rw [htk,BT4 (f:=fun b=>tab (k+1) ((nwOf n o).Lk b))] at hR3
 have ha3:=hR1.keep hu (ER.ext eV ha d1) g2 hob u3
 have hW3:Ext w3 W3:=u3.below (OwnL.below hrow g2 hW1 hW1.size) hgb
 exact .go O (.inc O O O (by omega) (.goN O (.mk (b+1,us.set b v2) O (lc1 O) ⟨⟨hW3,hbl,hR3,ha3⟩,by show (nwOf n o).B-(b+1)<(nwOf n o).B-b;omega⟩)))
end Go.Proofs.YtggegpiffjbngaaGreat
namespace Go.Kx
open Go Go.RowKit Go.Proofs.YtggegpiffjbngaaGreat
theorem An8 (f:Nat->Rat) (k:Nat):∀ B,k<B->sumN B (fun c=>f c*(if c=k then 1 else 0))=f k
 | B+1,h=>by
  show sumN B _+f B*(if B=k then 1 else 0)=f k
  by_cases e:B=k
  ·subst e
   rw [if_pos rfl,F4 fun c hc=>by rw [if_neg (by omega),Rat.mul_zero]]
   grind
  ·rw [if_neg e,An8 f k B (by omega)]
   grind
theorem Nw.Lk_Lm {n:Nw} (ok:n.Ok) {b k:Nat} (hk:k<n.B):n.Lk b k=n.Lm b k:=by
 unfold Nw.Lk
 rw [Nw.offM_fl ok (rv (tab n.B (uniR (k:Nat)))) _ (fun i hi=>by rw [H9,if_pos hi]) b,<-Nw.lap_sum ok]
 rw [<-An8 (fun c=>n.Lm b c) k n.B hk]
 exact A5 fun c hc=>by rw [rv_uni,if_pos hc]
theorem Nw.tab_Lk {n:Nw} (ok:n.Ok):tabM n.B n.B n.Lk=tabM n.B n.B n.Lm:=C8 fun b k _ hk=>Nw.Lk_Lm ok hk
open Go Go.RowKit
section
variable {α:Type} {E:ER α} {t:TypeId} {S:Nat->Prop} {w w':World} {g:Nat} {l:List α}
theorem FP.blk (h:FP E t S w g l):∃ cs,Blk w g t cs:=by obtain ⟨_,_,h,_⟩:=h;exact ⟨_,h⟩
theorem FP.grow {v v':Value} (h:FP E t (fun k=>S k/\v.ownBlock≠some k) w g l) (hg:w.grownBy w' v.ownBlock) (hw:v'.ownBlock=v.ownBlock\/v'.ownBlock=some w.heap.size) (hne:v.ownBlock≠some g):FP E t (fun k=>S k/\v'.ownBlock≠some k) w' g l:=by
 have h1:FP E t (fun k=>(S k/\v.ownBlock≠some k)/\k<w.heap.size) w g l:=h.mono fun k hk hs=>⟨hs,hk⟩
 have h2:=h1.chg (Chg.grown hg) hne fun k hk=>hk.1.2
 refine h2.mono fun k _ hk=>⟨hk.1.1,?_⟩
 rcases hw with e | e
 ·rw [e];exact hk.1.2
 ·rw [e];intro e';cases e';exact Nat.lt_irrefl _ hk.2
theorem OwnL.ne {β:Type} {F:ER β} {t':TypeId} {base:Nat} {X:Nat->Prop} {v:Value} {b:List β} {cs:Array Value} (h:OwnL F t' base X w v b) (hb:Blk w g t cs) (ht:t'≠t):v.ownBlock≠some g:=by
 obtain ⟨es,ho,_⟩:=h
 rcases ho.2 with ⟨rfl,_⟩ | ⟨g',cap,cur,rfl,_,hg,_⟩
 ·intro e;cases e
 ·intro e
  have:g'=g:=by simpa [Value.ownBlock] using e
  subst this
  have e1:w.heap[g']?=some (.cells cs t (0,0)):=hb
  rw [hg] at e1;cases e1;exact ht rfl
end
theorem OwnL.lt' {β:Type} {F:ER β} {t':TypeId} {base:Nat} {X:Nat->Prop} {w:World} {v:Value} {b:List β} (h:OwnL F t' base X w v b) (k:Nat) (hk:v.ownBlock=some k):k<w.heap.size:=by
 obtain ⟨es,ho,_⟩:=h
 exact (ho.lt k hk).2
theorem BL9 {f:RM} {col n i r:Nat} (h1:i<=r) (h2:r<i+n) (h3:f r col≠0) (h4:∀ k,i<=k->k<r->f k col=0):pivRow f col n i=some r:=by
 cases h:pivRow f col n i with
 | none=>exact absurd (AK4 h r h1 h2) h3
 | some r' =>
  obtain ⟨a1,a2,a3,a4⟩:=I5 h
  rcases Nat.lt_trichotomy r r' with e | e | e
  ·exact absurd (a4 r h1 e) h3
  ·rw [e]
  ·exact absurd (h4 r' a1 e) a3
theorem BL8 {f:RM} {col n i:Nat} (h4:∀ k,i<=k->k<i+n->f k col=0):pivRow f col n i=none:=by
 cases h:pivRow f col n i with
 | none=>rfl
 | some r' =>
  obtain ⟨a1,a2,a3,a4⟩:=I5 h
  exact absurd (h4 r' a1 a2) a3
end Go.Kx
namespace Go.Proofs.YtggegpiffjbngaaGreat
open Go Go.Kx Go.RowKit
theorem AL4:Ent Tryz.prog 153:=A0 Tryz.func153 (by kernel_rfl) rfl
theorem AJ7 {S:Nat->Prop} {w:World} {vm:Value} {m:List (List QV)} {L n C0:Nat} (up:Up S w) (hm:eM.R S w vm m) (ok:eOk L n C0 m) :
  CR Tryz.prog 153 #[vm] w (Two (eM.at S (redM m)) (eI.at S (pInts (redP m)))):=by
 have hnr:=ok.rows
 have hc:=ok.cols
 have hc1:=ok.c1
 have hLl:=ok.le
 refine enter Tryz.func153 O Tryz.ntmps153 O ?_
 refine .sr (.asg O O (.an O O (.sr (.mv O O ?_))))
 refine .call _ O Y9 O (Y1 hm) fun v1 w1 e1 h1=>.an O O ?_
 subst h1
 refine .sr (.mv O O (.mv O O (.lenR un_M O O (hm.ext e1) (.mv O O ?_))))
 refine .call _ O BA3 O (Aw4 (up.ext e1.size) (hm.ext e1) ok.k ok.l1 (by omega)) fun vr w2 e2 h2=>.an O O ?_
 have hcr:cutN (m.length:Int)=m.length:=by unfold cutN;omega
 have hcc:cutN (colsOf m:Int)=colsOf m:=by unfold cutN;omega
 rw [hcr,hcc] at h2
 have h2:=OwnL.base h2 e1.size
 have x2:=e1.trans e2
 refine .sr (.an O O (.sr (.an O O ?_)))
 generalize hN:m.length=N at *
 generalize hCc:colsOf m=C at *
 have hf:∀ i k,i<N->k<C->Rsz (rm m i k) L:=fun i k _ _=>ok.k.rsz ok.l1 i k
 rcases Nat.eq_zero_or_pos N with h0 | hpos
 ·have hm0:m=[]:=List.length_eq_zero_iff.1 (by omega)
  have hC0:C=0:=by rw [<-hCc,hm0];rfl
  have hp0:redP m=[]:=by rw [hm0];rfl
  have hr0:redM m=[]:=by rw [hm0];rfl
  subst hC0
  have hl0:tabM N 0 (rm m)=[]:=by rw [h0];rfl
  rw [hl0] at h2
  have hvr:eM.R S w2 vr []:=h2.toR (fun k hk=>up k hk) (fun _ h=>h)
  rw [hp0,hr0]
  refine .seq (.sr (.an O O ?_))
  refine .block (.loop (α:=Unit) (fun _=>[(4,.int .i64 ((0:Nat):Int)),(5,vr),(6,.slice none 0 0),(7,.int .i64 0),(8,.int .i64 0)]) (fun _ W=>W=w2) (fun _=>0) () ?_ ?_ ?_)
  ·exact lkA rfl
  ·rfl
  rintro _ W rfl
  refine .seq (.sr (.mv O O (.mv O O (.lssF O O O (by decide) (.nil (.condF O (.exit (.sr (.mv O O (.mv O O (.cut 0 0 un_M ty_V O O hvr O ⟨_,rfl⟩ (Nat.le_refl _) (Nat.zero_le _) fun v3 h3=>.mv O O (.asg O O (.an O O (.ret ?_))))))))))))))
  exact .plain [_,_] Tryz.results153 ⟨rfl,rfl,trivial⟩ ⟨x2,_,_,rfl,h3,RL.nil⟩
 obtain ⟨g,cap,rfl,hcap,hcap2,hgB,fp⟩:=h2.fp (by rw [A9];exact hpos)
 rw [A9] at hcap ⊢
 refine .mid (α:=Value) (fun u=>[(5,.slice (some ⟨g,0,none⟩) N cap),(6,u),(7,.int .i64 ((redP m).length:Nat))]) (fun u W=>Ext w W/\OwnL (eInt .i64) 3 w.heap.size (fun _=>False) W u (pInts (redP m))/\FP eV 32 S W g (tabM N C (redF m))) ?_ ?_
 ·refine .sr (.an O O ?_)
  refine .block (.loop (α:=Nat×Value) (fun y=>[(4,.int .i64 (C:Nat)),(5,.slice (some ⟨g,0,none⟩) N cap),(6,y.2),(7,.int .i64 ((elim N (rm m) y.1).2.length:Nat)),(8,.int .i64 (y.1:Nat))])
   (fun y W=>Ext w W/\y.1<=C/\OwnL (eInt .i64) 3 w.heap.size (fun _=>False) W y.2 (pInts (elim N (rm m) y.1).2)/\FP eV 32 (fun k=>S k/\y.2.ownBlock≠some k) W g (tabM N C (elim N (rm m) y.1).1)) (fun y=>C-y.1) (0,.slice none 0 0) ?_ ?_ ?_)
  ·exact lkA rfl
  ·exact ⟨x2,Nat.zero_le _,OwnL.nil,fp.mono fun k _ h=>⟨h,fun e=>by cases e⟩⟩
  rintro ⟨c,u⟩ W ⟨hW,hcC,ho,fp⟩
  replace hW:Ext w W:=hW
  replace hcC:c<=C:=hcC
  replace ho:OwnL (eInt .i64) 3 w.heap.size (fun _=>False) W u (pInts (elim N (rm m) c).2):=ho
  replace fp:FP eV 32 (fun k=>S k/\u.ownBlock≠some k) W g (tabM N C (elim N (rm m) c).1):=fp
  have hech:=R5 N (rm m) c
  have hql:=hech.len
  have hqc:=hech.len_c
  have hsg:=AF1 (C:=C) ok.l1 hf c hcC
  have hnext:elim N (rm m) (c+1)=estep N c (elim N (rm m) c):=rfl
  generalize hE:elim N (rm m) c=E at *
  obtain ⟨f,p⟩:=E
  simp only at ho fp hql hqc hsg
  have hsz:=hW.size
  refine .seq (.sr (.mv O O (.mv O O ?_)))
  rcases Nat.lt_or_ge c C with hlt | hge
  rotate_left
  ·refine .lssF O O O (by omega) (.nil (.condF O (.exit ?_)))
   have:c=C:=by omega
   subst this
   have e1':redP m=p:=by unfold redP;rw [hN,hCc,hE]
   have e2':redF m=f:=by unfold redF;rw [hN,hCc,hE]
   rw [e1',e2']
   exact ⟨rfl,u,lkA rfl,hW,ho,fp.mono fun k _ h=>h.1⟩
  refine .lssT O O O (by omega) (.nil (.condT O (.skip (.seq (.block (.sr (.mv O O (.an O O ?_))))))))
  have hugne:∀ {W':World} {l:List (List QV)} {S':Nat->Prop},OwnL (eInt .i64) 3 w.heap.size (fun _=>False) W' u (pInts p)->FP eV 32 S' W' g l->u.ownBlock≠some g:=fun h h'=>by
   obtain ⟨cs,hb⟩:=h'.blk
   exact h.ne hb (by decide)
  have hne:=hugne ho fp
  have hB:1<=bd L p.length:=At0 ok.l1 _
  have hBq:bd L p.length<=40000000:=by
   refine Nat.le_trans (U3 L ?_) ok.bd
   have:=ok.mn;omega
  refine .mid (α:=Nat) (fun r=>[(4,.int .i64 (C:Nat)),(5,.slice (some ⟨g,0,none⟩) N cap),(6,u),(7,.int .i64 (p.length:Nat)),(8,.int .i64 (c:Nat)),(9,.int .i64 (r:Nat))]) (fun r W'=>Ext W W'/\p.length<=r/\r<=N/\(∀ j,p.length<=j->j<r->f j c=0)/\(r<N->f r c≠0)) ?_ ?_
  ·refine .block (.loop (α:=Nat) (fun r=>[(4,.int .i64 (C:Nat)),(5,.slice (some ⟨g,0,none⟩) N cap),(6,u),(7,.int .i64 (p.length:Nat)),(8,.int .i64 (c:Nat)),(9,.int .i64 (r:Nat))]) (fun r W'=>Ext W W'/\p.length<=r/\r<=N/\(∀ j,p.length<=j->j<r->f j c=0)) (fun r=>N-r) p.length ?_ ?_ ?_)
   ·exact lkA rfl
   ·exact ⟨Ext.refl _,Nat.le_refl _,hql,fun j h1 h2=>by omega⟩
   rintro r W1 ⟨hW1,hr1,hr2,hz⟩
   refine .seq (.sr (.mv O O (.mv O O (.len un_M O O ?_))))
   rcases Nat.lt_or_ge r N with hlr | hgr
   rotate_left
   ·refine .lssF O O O (by omega) (.mv O O (.gs O O O O O (.gs O O O O O (.gs O O O O O (.gs O O O O O (.gs O O O O O (.gs O O O O O (.gs O O O O O (.gs O O O O O (.gs O O O O O (.pick O O O (.nil (.condF O (.exit ?_))))))))))))))
    exact ⟨rfl,r,lkA rfl,hW1,hr1,hr2,hz,fun h=>by omega⟩
   have fp1:=fp.ext hW1
   refine .lssT O O O (by omega) (.mv O O (.gr O O O O (.mv O O (.gr O O O O (.mv O O (.gr O O O O (.ixB (i:=r) un_M ty_V O O O hlr (.gr O O O O (.ldP (E:=eV) (i:=r) ty_V O O (Nat.zero_add _) fp1 (E2 hlr) fun er her=>.gr O O O O (.mv O O (.gr O O O O ?_)))))))))))
   refine .ixN (i:=c) un_V ty_Q O O her O (K0 hlt) fun pp hp=>.gr O O O O (.ldE ty_Q O O hp fun ex hex=>.gr O O O O ?_)
   refine .call _ O AH5 O (AG4 (L:=bd L p.length) (fun k hk=>⟨⟨up k (by have:=hW1.size;omega),fun h=>by have:=(ho.lt' k h);have:=hW1.size;omega⟩,by have:=fp.lt;have:=hW1.size;omega⟩) hex (hsg r c hlr hlt).toOk (by omega)) fun vs W2 e2 hvs=>.gr O O O O ?_
   subst hvs
   rw [<-An9,C1]
   by_cases hzr:f r c=0
   ·refine .eqlT O O O (Z5.2 hzr) (.pick O O O (.nil (.condT O (.skip (.block (.region (.mv O O (.add O O O (.an O O ?_)))))))))
    rw [wI (by omega)]
    refine ⟨rfl,r+1,lkA rfl,⟨hW1.trans e2,by omega,hlr,fun j h1 h2=>?_⟩,by show N-(r+1)<N-r;omega⟩
    by_cases e:j=r
    ·rw [e];exact hzr
    ·exact hz j h1 (by omega)
   ·refine .eqlF O O O (fun h=>hzr (Z5.1 h)) (.pick O O O (.nil (.condF O (.exit ?_))))
    exact ⟨rfl,r,lkA rfl,hW1.trans e2,hr1,hr2,hz,fun _=>hzr⟩
  rintro r W1 ⟨hW1,hr1,hr2,hz,hnz⟩
  have ho:=ho.ext hW1
  have fp:=fp.ext hW1
  have hW:=hW.trans hW1
  have hsz:=hW.size
  refine .seq (.sr (.mv O O (.mv O O (.len un_M O O ?_))))
  rcases Nat.lt_or_ge r N with hrn | hrn
  rotate_left
  ·refine .eqlT O O O (by omega) (.nil (.condT O (.exit (.region (.mv O O (.add O O O (.an O O ?_)))))))
   rw [wI (by omega)]
   have hst:elim N (rm m) (c+1)=(f,p):=by
    rw [hnext]
    unfold estep
    simp only
    rw [BL8 fun k h1 h2=>hz k h1 (by omega)]
   refine ⟨rfl,(c+1,u),?_,⟨hW,hlt,?_,?_⟩,by show C-(c+1)<C-c;omega⟩
   ·show ∀ t v,Kx.look [(4,Value.int .i64 (C:Nat)),(5,.slice (some ⟨g,0,none⟩) N cap),(6,u),(7,.int .i64 ((elim N (rm m) (c+1)).2.length:Nat)),(8,.int .i64 ((c+1:Nat):Int))] t=some v->_
    rw [hst]
    exact lkA rfl
   ·show OwnL (eInt .i64) 3 w.heap.size (fun _=>False) W1 u (pInts (elim N (rm m) (c+1)).2)
    rw [hst];exact ho
   ·show FP eV 32 (fun k=>S k/\u.ownBlock≠some k) W1 g (tabM N C (elim N (rm m) (c+1)).1)
    rw [hst];exact fp
  refine .eqlF O O O (by omega) (.nil (.condF O (.skip ?_)))
  have hqlt:p.length<N:=by omega
  have hpr:pivRow f c (N-p.length) p.length=some r:=BL9 hr1 (by omega) (hnz hrn) hz
  have hst:elim N (rm m) (c+1)=(clr (swp f r p.length) p.length c,p++[c]):=by
   rw [hnext]
   unfold estep
   simp only
   rw [hpr]
  refine .mid (α:=Unit) (fun _=>[(4,.int .i64 (C:Nat)),(5,.slice (some ⟨g,0,none⟩) N cap),(6,u),(7,.int .i64 (p.length:Nat)),(8,.int .i64 (c:Nat))]) (fun _ W'=>Ext w W'/\OwnL (eInt .i64) 3 w.heap.size (fun _=>False) W' u (pInts p)/\FP eV 32 (fun k=>S k/\u.ownBlock≠some k) W' g (tabM N C (swp f r p.length))) ?_ ?_
  ·refine .heldT follows true (fun _=>True) [some _,some (.int .i64 (p.length:Nat)),some _,some (.int .i64 (r:Nat)),some _,some (.int .i64 (r:Nat)),some (.pointer (some ⟨g,0+r*1,none⟩)),none,some _,some (.int .i64 (p.length:Nat)),some (.pointer (some ⟨g,0+p.length*1,none⟩)),none,some (.pointer (some ⟨g,0+p.length*1,none⟩)),none,some (.pointer (some ⟨g,0+r*1,none⟩)),none]
    (.two 7 (.one 11 (.one 13 (.one 15 .done))) 11 (.one 7 (.one 13 (.one 15 .done)))) (by kernel_rfl) (by kernel_rfl)
    ⟨fun _ _=>v_mv rfl,fun _ _=>v_mv rfl,fun _ _=>v_mv rfl,fun _ _=>v_mv rfl,fun _ _=>v_mv rfl,fun _ _=>v_mv rfl,fun _ _=>J9 (i:=r) un_M ty_V O O hrn,fun _ _=>v_mv rfl,fun _ _=>v_mv rfl,fun _ _=>J9 (i:=p.length) un_M ty_V O O hqlt,fun _ _=>J9 (i:=p.length) un_M ty_V O O hqlt,fun _ _=>J9 (i:=r) un_M ty_V O O hrn,trivial⟩ ?_
   intro W3 e3 _
   obtain ⟨x7,h7,p7⟩:=(fp.ext e3).at_ (E2 hrn)
   obtain ⟨x11,h11,p11⟩:=(fp.ext e3).at_ (E2 hqlt)
   have q7:PtrX W3 ⟨g,0+r*1,none⟩ x7:=by rw [Nat.zero_add];exact p7
   have q11:PtrX W3 ⟨g,0+p.length*1,none⟩ x11:=by rw [Nat.zero_add];exact p11
   refine .gv2 (.gv O trivial O (AJ1 (E:=eV) ty_V O q7 h7).gv ?_) (.gv O trivial O (AJ1 (E:=eV) ty_V O q11 h11).gv ?_)
   all_goals
    rintro _ _ ⟨rfl,rfl⟩
    refine .gv O trivial O (by first | exact (AJ1 (E:=eV) ty_V O q11 h11).gv | exact (AJ1 (E:=eV) ty_V O q7 h7).gv) ?_
    rintro _ _ ⟨rfl,rfl⟩
    refine .gv O trivial O (Ah3 (E:=eV) (i:=p.length) (by decide) ty_V O O (fp.ext e3) O (by rw [A9];exact hqlt) (Nat.zero_add _) h7) ?_
    rintro _ W4 ⟨f4,u4⟩
    refine .gv O trivial O (Ah3 (E:=eV) (i:=r) (by decide) ty_V O O f4 O (by rw [List.length_set,A9];exact hrn) (Nat.zero_add _) (ER.upd eV h11 u4 (fun h=>h.2 O))) ?_
    rintro _ W5 ⟨f5,u5⟩
    refine .nil (.inl O) ?_
    rw [M6 hqlt,M6 hrn] at f5
    have e5:tabM N C (fun j k=>if j=r then f p.length k else if j=p.length then f r k else f j k)=tabM N C (swp f r p.length):=C8 fun i k _ _=>by
     unfold swp
     by_cases e1:i=r
     ·rw [if_pos e1,if_pos e1]
     ·by_cases e2:i=p.length
      ·rw [if_neg e1,if_pos e2,if_neg e1,if_pos e2]
      ·rw [if_neg e1,if_neg e2,if_neg e1,if_neg e2]
    rw [e5] at f5
    obtain ⟨cs3,hb3⟩:=(fp.ext e3).blk
    obtain ⟨cs4,hb4⟩:=f4.blk
    exact ⟨rfl,(),lkA rfl,u5.below (u4.below (hW.trans e3) hgB) hgB,((ho.ext e3).upd u4 hb3 (by decide) (fun h=>h)).upd u5 hb4 (by decide) (fun h=>h),f5⟩
  rintro _ W2 ⟨hW2,ho,fp⟩
  have hss:=Aq0 (a:=r) (b:=p.length) hrn hqlt hsg
  have hsq:swp f r p.length p.length c=f r c:=by
   unfold swp
   by_cases e:p.length=r
   ·simp [e]
   ·simp [e]
  have hs0:swp f r p.length p.length c≠0:=by rw [hsq];exact hnz hrn
  generalize hs:swp f r p.length=s at *
  generalize hq:p.length=q at *
  have hgl:=fp.lt
  have upW:∀ {W':World},Ext W2 W'->Up (fun k=>(S k/\u.ownBlock≠some k)/\k≠g) W':=fun e k hk=>⟨⟨up k (by have:=hW2.size;have:=e.size;omega),fun h=>by have:=ho.lt' k h;have:=e.size;omega⟩,by have:=e.size;omega⟩
  have h1k:qk (bd L q) (qc ((1:Int):Rat)):=AE6 (Rsz.int 1 (Nat.lt_of_lt_of_le (by decide) (Nat.pow_le_pow_right (by decide) hB)) hB)
  have hki:qk (bd L q) (qc (s q c)⁻¹):=AE6 ((hss q c hqlt hlt).inv hB)
  have hkr:∀ i,i<N->vk (bd L q) (tab C (s i)):=fun i hi=>O5 fun k hk=>hss i k hi hk
  refine .seq ?_
  refine .par follows 16 [.inl _,.inl (.int .i64 (q:Nat)),.inr (eQ.at (fun k=>(S k/\u.ownBlock≠some k)/\k≠g) (qc ((1:Int):Rat))),.inl _,.inl (.int .i64 (q:Nat)),.inl (.pointer (some ⟨g,0+q*1,none⟩)),.inr (eV.at (fun k=>(S k/\u.ownBlock≠some k)/\k≠g) (tab C (s q))),.inl (.int .i64 (c:Nat)),.inr (Ptr eQ (fun k=>(S k/\u.ownBlock≠some k)/\k≠g) (qc (s q c))),.inr (eQ.at (fun k=>(S k/\u.ownBlock≠some k)/\k≠g) (qc (s q c))),.inr (eQ.at (fun k=>(S k/\u.ownBlock≠some k)/\k≠g) (qc (s q c)⁻¹)),.inl _,.inl (.int .i64 (q:Nat)),.inl (.pointer (some ⟨g,0+q*1,none⟩)),.inr (eV.at (fun k=>(S k/\u.ownBlock≠some k)/\k≠g) (tab C (s q))),.inr (eV.at (fun k=>(S k/\u.ownBlock≠some k)/\k≠g) (tab C fun k=>(s q c)⁻¹*s q k))]
   [[],[],[],[],[],[(62,3),(63,4)],[(64,5)],[],[(65,6),(66,7)],[(67,8)],[(61,2),(68,9)],[],[],[(70,11),(71,12)],[(72,13)],[(69,10),(73,14)]] (by kernel_rfl) ⟨
   fun w e=>(v_mv O).ob,fun w e=>(v_mv O).ob,
   fun w e=>(A2 _ X2 O (U9 (upW e) (by decide) (by decide))).ob (A3 _ _ _),
   fun w e=>(v_mv O).ob,fun w e=>(v_mv O).ob,
   fun w e=>(J9 (i:=q) un_M ty_V O O hqlt).ob,
   fun w e=>Ag8 (E:=eV) (i:=q) ty_V O (Nat.zero_add _) (fp.ext e) (E2 hqlt),
   fun w e=>(v_mv O).ob,
   fun w e x hx=>B7 (i:=c) un_V ty_Q O hx O (K0 hlt),
   fun w e x hx=>J2 ty_Q O hx,
   fun w e x hx y hy=>by
    have:=BC7 (upW e) hx hy h1k.1 (hss q c hqlt hlt).toOk hB (by omega) (by rw [C1];exact hs0)
    rw [C1,C1,show ((1:Int):Rat)*(s q c)⁻¹=(s q c)⁻¹ by simp] at this
    exact (A2 _ BG0 O this).ob (A3 _ _ _),
   fun w e=>(v_mv O).ob,fun w e=>(v_mv O).ob,
   fun w e=>(J9 (i:=q) un_M ty_V O O hqlt).ob,
   fun w e=>Ag8 (E:=eV) (i:=q) ty_V O (Nat.zero_add _) (fp.ext e) (E2 hqlt),
   fun w e x hx y hy=>by
    have:=Al2 (upW e) hx hy hki (hkr q hqlt) hB (by omega) (by rw [A1];omega)
    rw [A1,C1,D9 (g:=fun k=>(s q c)⁻¹*s q k) (fun k hk=>by rw [H9,if_pos hk])] at this
    exact (A2 _ Am5 O this).ob (A3 _ _ _),trivial⟩ ?_
  intro W3 e3 y2 _ y6 _ y8 _ y9 _ y10 _ y14 _ y15 hy15
  refine .ixB (i:=q) un_M ty_V O O O hqlt (.storeP (E:=eV) (i:=q) (by decide) ty_V O O (fp.ext e3) O (by rw [A9];exact hqlt) (Nat.zero_add _) hy15 fun W4 f4 u4=>.nil ?_)
  obtain ⟨cs3,hb3⟩:=(fp.ext e3).blk
  rw [M6 hqlt,<-Ai7] at f4
  have ho4:=(ho.ext e3).upd u4 hb3 (by decide) (fun h=>h)
  have hW4:Ext w W4:=u4.below (hW2.trans e3) hgB
  have hs4:W2.heap.size<=W4.heap.size:=by have:=u4.size;have:=e3.size;omega
  have hur:vk (bd L q+bd L q) (tab C fun k=>(s q c)⁻¹*s q k):=O5 fun k hk=>((hss q c hqlt hlt).inv hB).mul (hss q k hqlt hk)
  refine .mid (α:=Unit) (fun _=>[(4,.int .i64 (C:Nat)),(5,.slice (some ⟨g,0,none⟩) N cap),(6,u),(7,.int .i64 (q:Nat)),(8,.int .i64 (c:Nat))]) (fun _ W'=>Ext w W'/\OwnL (eInt .i64) 3 w.heap.size (fun _=>False) W' u (pInts p)/\FP eV 32 (fun k=>S k/\u.ownBlock≠some k) W' g (tabM N C (clr s q c))) ?_ ?_
  ·refine .sr (.an O O ?_)
   refine .block (.loop (α:=Nat) (fun i=>[(4,.int .i64 (C:Nat)),(5,.slice (some ⟨g,0,none⟩) N cap),(6,u),(7,.int .i64 (q:Nat)),(8,.int .i64 (c:Nat)),(10,.int .i64 (i:Nat))]) (fun i W'=>Ext w W'/\W2.heap.size<=W'.heap.size/\i<=N/\OwnL (eInt .i64) 3 w.heap.size (fun _=>False) W' u (pInts p)/\FP eV 32 (fun k=>S k/\u.ownBlock≠some k) W' g (tabM N C (clrTo s q c i))) (fun i=>N-i) 0 ?_ ?_ ?_)
   ·exact lkA rfl
   ·exact ⟨hW4,hs4,Nat.zero_le _,ho4,f4⟩
   rintro i Wa ⟨hWa,hsa,hi,hoa,fa⟩
   refine .seq (.sr (.mv O O (.mv O O (.len un_M O O ?_))))
   rcases Nat.lt_or_ge i N with hin | hin
   rotate_left
   ·refine .lssF O O O (by omega) (.nil (.condF O (.exit ?_)))
    have:i=N:=by omega
    subst this
    rw [Ap4] at fa
    exact ⟨rfl,(),lkA rfl,hWa,hoa,fa⟩
   refine .lssT O O O (by omega) (.nil (.condT O (.skip (.seq (.block (.sr (.mv O O (.mv O O ?_))))))))
   by_cases hiq:i=q
   ·refine .neqF O O O (by omega) (.nil (.condF O (.skip (.region (.mv O O (.add O O O (.an O O ?_)))))))
    rw [wI (by omega)]
    refine ⟨rfl,i+1,lkA rfl,⟨hWa,hsa,hin,hoa,?_⟩,by show N-(i+1)<N-i;omega⟩
    have:tabM N C (clrTo s q c (i+1))=tabM N C (clrTo s q c i):=C8 fun j k _ _=>by
     rw [AA2]
     by_cases ej:j=i
     ·simp only [ej,hiq,if_true];unfold clrTo;simp
     ·simp only [ej,if_false]
    rw [this];exact fa
   refine .neqT O O O (by omega) (.nil (.condT O ?_))
   have hrow:tab C (clrTo s q c i i)=tab C (s i):=D9 fun k _=>by unfold clrTo;rw [if_neg hiq,if_neg (by omega)]
   have hrq:tab C (clrTo s q c i q)=tab C fun k=>(s q c)⁻¹*s q k:=D9 fun k _=>by unfold clrTo;rw [if_pos rfl]
   have upa:∀ {W':World},Ext Wa W'->Up (fun k=>(S k/\u.ownBlock≠some k)/\k≠g) W':=fun e k hk=>⟨⟨up k (by have:=hWa.size;have:=e.size;omega),fun h=>by have:=hoa.lt' k h;have:=e.size;omega⟩,by have:=e.size;have:=fa.lt;omega⟩
   refine .par follows 19 [.inl _,.inl (.int .i64 (i:Nat)),.inl _,.inl (.int .i64 (i:Nat)),.inl (.pointer (some ⟨g,0+i*1,none⟩)),.inr (eV.at (fun k=>(S k/\u.ownBlock≠some k)/\k≠g) (tab C (s i))),.inl (.int .i64 (c:Nat)),.inr (Ptr eQ (fun k=>(S k/\u.ownBlock≠some k)/\k≠g) (qc (s i c))),.inr (eQ.at (fun k=>(S k/\u.ownBlock≠some k)/\k≠g) (qc (s i c))),.inr (eQ.at (fun k=>(S k/\u.ownBlock≠some k)/\k≠g) (qc (-(s i c)))),.inl _,.inl (.int .i64 (q:Nat)),.inl (.pointer (some ⟨g,0+q*1,none⟩)),.inr (eV.at (fun k=>(S k/\u.ownBlock≠some k)/\k≠g) (tab C fun k=>(s q c)⁻¹*s q k)),.inl _,.inl (.int .i64 (i:Nat)),.inl (.pointer (some ⟨g,0+i*1,none⟩)),.inr (eV.at (fun k=>(S k/\u.ownBlock≠some k)/\k≠g) (tab C (s i))),.inr (eV.at (fun k=>(S k/\u.ownBlock≠some k)/\k≠g) (tab C fun k => -(s i c)*((s q c)⁻¹*s q k)+s i k))]
    [[],[],[],[],[(87,2),(88,3)],[(89,4)],[],[(90,5),(91,6)],[(92,7)],[(93,8)],[],[],[(95,10),(96,11)],[(97,12)],[],[],[(99,14),(100,15)],[(101,16)],[(94,9),(98,13),(102,17)]] (by kernel_rfl) ⟨
    fun w e=>(v_mv O).ob,fun w e=>(v_mv O).ob,fun w e=>(v_mv O).ob,fun w e=>(v_mv O).ob,
    fun w e=>(J9 (i:=i) un_M ty_V O O hin).ob,
    fun w e=>hrow▸Ag8 (E:=eV) (i:=i) ty_V O (Nat.zero_add _) (fa.ext e) (E2 hin),
    fun w e=>(v_mv O).ob,
    fun w e x hx=>B7 (i:=c) un_V ty_Q O hx O (K0 hlt),
    fun w e x hx=>J2 ty_Q O hx,
    fun w e x hx=>by
     have:=AJ8 (L:=bd L q) (upa e) hx (hss i c hin hlt).toOk hB (by omega)
     rw [C1] at this
     exact (A2 _ AL5 O this).ob (A3 _ _ _),
    fun w e=>(v_mv O).ob,fun w e=>(v_mv O).ob,
    fun w e=>(J9 (i:=q) un_M ty_V O O hqlt).ob,
    fun w e=>hrq▸Ag8 (E:=eV) (i:=q) ty_V O (Nat.zero_add _) (fa.ext e) (E2 hqlt),
    fun w e=>(v_mv O).ob,fun w e=>(v_mv O).ob,
    fun w e=>(J9 (i:=i) un_M ty_V O O hin).ob,
    fun w e=>hrow▸Ag8 (E:=eV) (i:=i) ty_V O (Nat.zero_add _) (fa.ext e) (E2 hin),
    fun w e x hx y hy z hz=>by
     have:=AI1 (L:=bd L q+bd L q) (upa e) hx hy hz (AE6 ((hss i c hin hlt).neg.mono (by omega))) hur ((hkr i hin).mono (by omega)) (by omega) (by omega) (by rw [A1];omega) (by rw [A1];omega)
     rw [A1,A1,Nat.max_self,C1,D9 (g:=fun k => -(s i c)*((s q c)⁻¹*s q k)+s i k) (fun k hk=>by rw [H9,H9,if_pos hk,if_pos hk])] at this
     exact (A2 _ AI4 O this).ob (A3 _ _ _),trivial⟩ ?_
   intro Wb eb z5 _ z7 _ z8 _ z9 _ z13 _ z17 _ z18 hz18
   refine .ixB (i:=i) un_M ty_V O O O hin (.storeP (E:=eV) (i:=i) (by decide) ty_V O O (fa.ext eb) O (by rw [A9];exact hin) (Nat.zero_add _) hz18 fun Wc fc uc=>.nil ?_)
   obtain ⟨csb,hbb⟩:=(fa.ext eb).blk
   rw [M6 hin] at fc
   refine .region (.mv O O (.add O O O (.an O O ?_)))
   rw [wI (by omega)]
   refine ⟨rfl,i+1,lkA rfl,⟨uc.below (hWa.trans eb) hgB,by have:=uc.size;have:=eb.size;omega,hin,(hoa.ext eb).upd uc hbb (by decide) (fun h=>h),?_⟩,by show N-(i+1)<N-i;omega⟩
   rw [AA2]
   simp only [hiq,if_false]
   exact fc
  rintro _ Wx ⟨hWx,hox,fx⟩
  refine .sr (.mv O O (.mv O O (.bsl [(0,.int .i64 (c:Nat))] O O AR2 fun Wy by_ ny=>?_)))
  obtain ⟨ey,ky,hby,hsy⟩:=ny
  have hlen:(pInts p).length<=1000000000:=by simp;omega
  have hint:(eInt .i64).R (fun k=>False/\u.ownBlock≠some k) Wy (.int .i64 (c:Nat)) (c:Int):=⟨rfl,Int.le_trans (by decide:IntKind.min .i64<=0) (by omega),Int.le_trans (by omega:(c:Int)<=1000) (by decide)⟩
  refine .gv O O (AG7 (E:=eInt .i64) (base:=w.heap.size) (n:=(c:Int)) (e:=.int .i64 (c:Nat)) (by decide) un_I AD1 O O O (hox.ext ey) ky hint hlen (by decide) (by have:=ey.size;have:=hWx.size;omega)) ?_
  rintro vq Wz ⟨hoz,hgz,hwz⟩
  refine .an O O ?_
  refine .region (.mv O O (.add O O O (.an O O ?_)))
  rw [wI (by omega)]
  refine .region (.mv O O (.add O O O (.an O O ?_)))
  rw [wI (by omega)]
  have hlq:(p++[c]).length=q+1:=by simp [hq]
  refine ⟨rfl,(c+1,vq),?_,⟨(hox.ext ey).below hgz (hWx.trans ey) (by have:=ey.size;have:=hWx.size;omega),hlt,?_,?_⟩,by show C-(c+1)<C-c;omega⟩
  ·show ∀ t v,Kx.look [(4,Value.int .i64 (C:Nat)),(5,.slice (some ⟨g,0,none⟩) N cap),(6,vq),(7,.int .i64 ((elim N (rm m) (c+1)).2.length:Nat)),(8,.int .i64 ((c+1:Nat):Int))] t=some v->_
   rw [hst]
   simp only [hlq]
   exact lkA rfl
  ·show OwnL (eInt .i64) 3 w.heap.size (fun _=>False) Wz vq (pInts (elim N (rm m) (c+1)).2)
   rw [hst]
   show OwnL (eInt .i64) 3 w.heap.size (fun _=>False) Wz vq (pInts (p++[c]))
   rw [show pInts (p++[c])=pInts p++[(c:Int)] by simp]
   exact hoz
  ·show FP eV 32 (fun k=>S k/\vq.ownBlock≠some k) Wz g (tabM N C (elim N (rm m) (c+1)).1)
   rw [hst]
   exact (fx.ext ey).grow hgz hwz hne
 rintro u W ⟨hW,ho,fp⟩
 have hpl:(redP m).length<=N:=by have:=(M1 m).len;rwa [hN] at this
 have hMW:eM.R S W (.slice (some ⟨g,0,none⟩) N cap) (tabM N C (redF m)):=by
  have:=fp.toR (c:=cap) (hsz:=by decide) (up g hgB) (by rw [A9];exact hcap) (by rw [A9];omega)
  rwa [A9] at this
 refine .sr (.mv O O (.mv O O (.cut 0 (redP m).length un_M ty_V O O hMW O ⟨_,rfl⟩ (Nat.zero_le _) (by rw [A9];exact hpl) fun v3 h3=>.mv O O (.asg O O (.an O O (.ret ?_))))))
 rw [List.drop_zero,An6 hpl] at h3
 refine .plain [_,_] Tryz.results153 ⟨rfl,rfl,trivial⟩ ⟨hW,_,_,rfl,?_,ho.toR (fun k hk=>up k hk) (fun _ h=>h.elim)⟩
 unfold redM
 rw [hCc]
 exact h3
theorem red_rz {m:List (List QV)} {L n C0:Nat} (ok:eOk L n C0 m) {i k:Nat} (hi:i<(redP m).length) (hk:k<colsOf m):Rsz (redF m i k) (bd L n):=red_rsz ok.k ok.l1 ok.mn i k (by have:=(M1 m).len;omega) hk
theorem At6:Ent Tryz.prog 156:=A0 Tryz.func156 (by kernel_rfl) rfl
theorem Aq7 {S:Nat->Prop} {w:World} {vm:Value} {m:List (List QV)} {L n C0:Nat} (up:Up S w) (hm:eM.R S w vm m) (ok:eOk L n C0 m) :
  CR Tryz.prog 156 #[vm] w (eM.at S (nullM m)):=by
 have hnr:=ok.rows
 have hc:=ok.cols
 have hc1:=ok.c1
 have hbd:=ok.bd
 have he:=M1 m
 have hpl:=he.len
 refine enter Tryz.func156 O Tryz.ntmps156 O ?_
 refine .sr (.an O O (.sr (.mv O O ?_)))
 refine .call _ O AL4 O (AJ7 up hm ok) fun v1 w1 e1 h1=>?_
 obtain ⟨vr,vp,rfl,hr,hp⟩:=h1
 refine .mv O O (.ext O O O (.ext O O O (.asg O O (.an O O (.sr (.mv O O ?_))))))
 refine .call _ O Y9 O (Y1 (hm.ext e1)) fun v2 w2 e2 h2=>.an O O (.sr (.an O O ?_))
 subst h2
 have x2:=e1.trans e2
 have hr2:eM.R (fun k=>S k/\k<w2.heap.size) w2 vr (redM m):=ER.lt eM (ER.ext eM hr e2)
 have hp2:eI.R (fun k=>S k/\k<w2.heap.size) w2 vp (pInts (redP m)):=ER.lt eI (ER.ext eI hp e2)
 have hrW:∀ {W:World},Ext w2 W->eM.R (fun k=>S k/\k<w2.heap.size) W vr (redM m):=fun e=>ER.ext eM hr2 e
 have hpW:∀ {W:World},Ext w2 W->eI.R (fun k=>S k/\k<w2.heap.size) W vp (pInts (redP m)):=fun e=>ER.ext eI hp2 e
 have hrl:(redM m).length=(redP m).length:=A9 ..
 have hs2:=x2.size
 have up2:=up.ext x2.size
 generalize hG:(fun k=>tab (colsOf m) (nv (redF m) (redP m) k))=G
 refine .mid (α:=Value) (fun o=>[(6,o)]) (fun o W=>Ext w2 W/\OwnL eV 32 w2.heap.size S W o ((freeTo (redP m) (colsOf m)).map G)) ?_ ?_
 ·refine .sr (.an O O ?_)
  refine .block (.loop (α:=Nat×Value) (fun y=>[(3,vr),(4,vp),(5,.int .i64 (colsOf m:Nat)),(6,y.2),(7,.int .i64 (y.1:Nat))]) (fun y W=>Ext w2 W/\y.1<=colsOf m/\OwnL eV 32 w2.heap.size S W y.2 ((freeTo (redP m) y.1).map G)) (fun y=>colsOf m-y.1) (0,.slice none 0 0) ?_ ?_ ?_)
  ·exact lkA rfl
  ·exact ⟨Ext.refl _,Nat.zero_le _,OwnL.nil⟩
  rintro ⟨k,o⟩ W ⟨hW,hk,ho⟩
  replace hW:Ext w2 W:=hW
  replace hk:k<=colsOf m:=hk
  replace ho:OwnL eV 32 w2.heap.size S W o ((freeTo (redP m) k).map G):=ho
  have hsW:=hW.size
  refine .seq (.sr (.mv O O (.mv O O ?_)))
  rcases Nat.lt_or_ge k (colsOf m) with hlt | hge
  rotate_left
  ·refine .lssF O O O (by omega) (.nil (.condF O (.exit ?_)))
   have:k=colsOf m:=by omega
   subst this
   exact ⟨rfl,o,lkA rfl,hW,ho⟩
  refine .lssT O O O (by omega) (.nil (.condT O (.skip (.seq (.block (.seq (.sr (.mv O O (.mv O O ?_)))))))))
  refine .call _ O Aj6 O (Ag5 (hpW hW)) fun v3 W3 e3 h3=>.nil ?_
  subst h3
  have hW3:=hW.trans e3
  by_cases hkp:k∈redP m
  ·rw [decide_eq_true hkp]
   refine .condT O (.exit (.region (.mv O O (.add O O O (.an O O ?_)))))
   rw [wI (by omega)]
   refine ⟨rfl,(k+1,o),lkA rfl,⟨hW3,hlt,?_⟩,by show colsOf m-(k+1)<colsOf m-k;omega⟩
   show OwnL eV 32 w2.heap.size S W3 o ((freeTo (redP m) (k+1)).map G)
   rw [I6,if_pos hkp,List.append_nil]
   exact ho.ext e3
  rw [decide_eq_false hkp]
  refine .condF O (.skip (.sr (.mv O O (.mv O O ?_))))
  have ho3:=ho.ext e3
  have upU:Up (fun k'=>S k'/\o.ownBlock≠some k') W3:=fun k' hk'=>⟨up2 k' (by have:=hW3.size;omega),fun h=>by have:=ho3.lt' k' h;omega⟩
  refine .call _ O Z0 O (AG3 (k:=(k:Nat)) upU (by omega)) fun vx W4 e4 h4=>.an O O ?_
  obtain ⟨g,cap,rfl,hcap,hcap2,hgB,fp⟩:=h4.fp (by rw [A1];omega)
  rw [A1] at hcap ⊢
  have hW4:=hW3.trans e4
  have ho4:=ho3.ext e4
  have hu0:tab (colsOf m) (uniR (k:Nat))=tab (colsOf m) (nvTo (redF m) (redP m) k 0):=D9 fun c _=>by
   unfold uniR nvTo
   show _=(if c=k then 1 else 0)-0
   by_cases e:c=k
   ·rw [if_pos (by omega),if_pos e];grind
   ·rw [if_neg (by omega),if_neg e];grind
  rw [hu0] at fp
  refine .mid (α:=Unit) (fun _=>[(3,vr),(4,vp),(5,.int .i64 (colsOf m:Nat)),(6,o),(7,.int .i64 (k:Nat)),(8,.slice (some ⟨g,0,none⟩) (colsOf m) cap)]) (fun _ W'=>Ext w2 W'/\Ext W3 W'/\FP eQ 54 (fun k'=>S k'/\o.ownBlock≠some k') W' g (tab (colsOf m) (nv (redF m) (redP m) k))) ?_ ?_
  ·refine .sr (.an O O ?_)
   refine .block (.loop (α:=Nat) (fun i=>[(3,vr),(4,vp),(5,.int .i64 (colsOf m:Nat)),(6,o),(7,.int .i64 (k:Nat)),(8,.slice (some ⟨g,0,none⟩) (colsOf m) cap),(9,.int .i64 (i:Nat))]) (fun i W'=>Ext w2 W'/\Ext W3 W'/\i<=(redP m).length/\FP eQ 54 (fun k'=>S k'/\o.ownBlock≠some k') W' g (tab (colsOf m) (nvTo (redF m) (redP m) k i))) (fun i=>(redP m).length-i) 0 ?_ ?_ ?_)
   ·exact lkA rfl
   ·exact ⟨hW4,e4,Nat.zero_le _,fp⟩
   rintro i W5 ⟨hW5,hX5,hi,fp⟩
   refine .seq (.sr (.mv O O (.mv O O (.lenR un_M O O (hrW hW5) ?_))))
   rw [hrl]
   rcases Nat.lt_or_ge i (redP m).length with hli | hgi
   rotate_left
   ·refine .lssF O O O (by omega) (.nil (.condF O (.exit ?_)))
    have:i=(redP m).length:=by omega
    subst this
    exact ⟨rfl,(),lkA rfl,hW5,hX5,fp⟩
   have hg:(pInts (redP m))[i]?=some (((redP m).getD i 0:Nat):Int):=by rw [List.getElem?_map,A6 (z:=0) hli];rfl
   have hrg:(redM m)[i]?=some (tab (colsOf m) (redF m i)):=E2 hli
   have hpi:=he.lt i hli
   have hT:∀ k',(S k'/\k'<w2.heap.size)->(S k'/\o.ownBlock≠some k')/\k'≠g:=fun k' h=>⟨⟨h.1,fun e=>by
    obtain ⟨es,ho1,_⟩:=id ho4
    have:=(ho1.lt k' e).1;have:=h.2;omega⟩,by have:=h.2;have:=hW3.size;omega⟩
   have upX:∀ {W':World},Ext W5 W'->Up (fun k'=>(S k'/\o.ownBlock≠some k')/\k'≠g) W':=fun e k' hk'=>⟨⟨up2 k' (by have:=hW5.size;have:=e.size;omega),fun h=>by have:=ho3.lt' k' h;have:=hX5.size;have:=e.size;omega⟩,by have:=e.size;have:=fp.lt;omega⟩
   refine .lssT O O O (by omega) (.nil (.condT O (.skip (.seq (.block ?_)))))
   refine .par follows 13 [.inl _,.inl _,.inl (.int .i64 (i:Nat)),.inr (Ptr (eInt .i64) (fun k=>S k/\k<w2.heap.size) (((redP m).getD i 0:Nat):Int)),.inl (.int .i64 (((redP m).getD i 0:Nat):Int)),.inl _,.inl (.int .i64 (i:Nat)),.inr (Ptr eV (fun k=>S k/\k<w2.heap.size) (tab (colsOf m) (redF m i))),.inr (eV.at (fun k=>S k/\k<w2.heap.size) (tab (colsOf m) (redF m i))),.inl (.int .i64 (k:Nat)),.inr (Ptr eQ (fun k=>S k/\k<w2.heap.size) (qc (redF m i k))),.inr (eQ.at (fun k=>S k/\k<w2.heap.size) (qc (redF m i k))),.inr (eQ.at (fun k'=>(S k'/\o.ownBlock≠some k')/\k'≠g) (qc (-(redF m i k))))] [[],[],[],[(35,1),(36,2)],[(37,3)],[],[],[(39,5),(40,6)],[(41,7)],[],[(42,8),(43,9)],[(44,10)],[(45,11)]] (by kernel_rfl) ⟨
    fun w e=>(v_mv O).ob,fun w e=>(v_mv O).ob,fun w e=>(v_mv O).ob,
    fun w e=>B7 (i:=i) un_I B6 O (hpW (hW5.trans e)) O hg,
    fun w e x hx=>H7 B6 O hx,
    fun w e=>(v_mv O).ob,fun w e=>(v_mv O).ob,
    fun w e=>B7 (i:=i) un_M ty_V O (hrW (hW5.trans e)) O hrg,
    fun w e x hx=>J2 ty_V O hx,
    fun w e=>(v_mv O).ob,
    fun w e x hx=>B7 (i:=k) un_V ty_Q O hx O (K0 hlt),
    fun w e x hx=>J2 ty_Q O hx,
    fun w e x hx=>by
     have:=AJ8 (L:=bd L n) (upX e) (eQ.mono (fun k' _ h=>hT k' h) hx) (red_rz ok hli hlt).toOk (At0 ok.l1 n) (by omega)
     rw [C1] at this
     exact (A2 _ AL5 O this).ob (A3 _ _ _),trivial⟩ ?_
   intro W6 e6 y3 _ y7 _ y8 _ y10 _ y11 _ y12 hy12
   refine .ixB (i:=(redP m).getD i 0) un_V ty_Q O O O hpi (.storeP (E:=eQ) (i:=(redP m).getD i 0) (by decide) ty_Q O O (fp.ext e6) O (by rw [A1];exact hpi) (Nat.zero_add _) hy12 fun W7 f7 u7=>.nil ?_)
   have hset:(tab (colsOf m) (nvTo (redF m) (redP m) k i)).set ((redP m).getD i 0) (qc (-(redF m i k)))=tab (colsOf m) (nvTo (redF m) (redP m) k (i+1)):=by
    rw [T8,Ao5 he hli hkp (L5 hli)]
   rw [hset] at f7
   refine .region (.mv O O (.add O O O (.an O O ?_)))
   rw [wI (by omega)]
   exact ⟨rfl,i+1,lkA rfl,⟨u7.below (hW5.trans e6) (by have:=hW3.size;omega),u7.below (hX5.trans e6) hgB,hli,f7⟩,by show (redP m).length-(i+1)<(redP m).length-i;omega⟩
  rintro _ W5 ⟨hW5,hX5,fp⟩
  have ho5:=ho3.lt_ hX5
  have hrow:eV.R (fun k'=>S k'/\o.ownBlock≠some k') W5 (.slice (some ⟨g,0,none⟩) (colsOf m) cap) (tab (colsOf m) (nv (redF m) (redP m) k)):=by
   have:=fp.toR (c:=cap) (hsz:=by decide) (upU g hgB) (by rw [A1];exact hcap) (by rw [A1];omega)
   rwa [A1] at this
  refine .region (.mv O O (.mv O O (.bsl _ O O Ai9 fun Wy by_ ny=>?_)))
  obtain ⟨ey,ky,hby,hsy⟩:=ny
  have hfl:(freeTo (redP m) k).length<=k:=by
   unfold freeTo
   have:=List.length_filter_le (fun k => !(decide (k∈redP m))) (List.range k)
   simpa using this
  refine .gv O O (L1 (E:=eV) (base:=w2.heap.size) (n:=tab (colsOf m) (nv (redF m) (redP m) k)) (e:=.slice (some ⟨g,0,none⟩) (colsOf m) cap) (by decide) un_M AK5 O O O (ho5.ext ey) ky (ER.ext eV hrow ey) (by simp;omega) (by decide) (by have:=ey.size;have:=hW5.size;omega)) ?_
  rintro v8 W8 ⟨ho8,hg8⟩
  refine .an O O (.region (.mv O O (.add O O O (.an O O ?_))))
  rw [wI (by omega)]
  refine ⟨rfl,(k+1,v8),lkA rfl,⟨(ho5.ext ey).below hg8 (hW5.trans ey) (by have:=ey.size;have:=hW5.size;omega),hlt,?_⟩,by show colsOf m-(k+1)<colsOf m-k;omega⟩
  show OwnL eV 32 w2.heap.size S W8 v8 ((freeTo (redP m) (k+1)).map G)
  rw [I6,if_neg hkp,List.map_append,<-hG]
  rw [<-hG] at ho8
  exact ho8
 rintro o W ⟨hW,ho⟩
 refine .sr (.mv O O (.an O O (.ret ?_)))
 refine .plain [_] Tryz.results156 ⟨rfl,trivial⟩ ⟨x2.trans hW,?_⟩
 unfold nullM freeC
 rw [hG]
 exact ho.toR (fun k hk=>up2 k hk) (fun _ h=>h)
def wideR (m:List (List QV)) (b:List QV) (i:Nat):List QV:=tab (colsOf m) (rm m i)++[b.getD i q0]
def wideM (m:List (List QV)) (b:List QV):List (List QV):=(List.range (max m.length b.length)).map (wideR m b)
section
variable {m:List (List QV)} {b:List QV}
theorem AI6:(wideM m b).length=max m.length b.length:=by simp [wideM]
theorem X6 (i:Nat):(wideR m b i).length=colsOf m+1:=by simp [wideR,A1]
theorem Am8 (i:Nat):(wideM m b).getD i []=if i<max m.length b.length then wideR m b i else []:=by
 unfold wideM
 rw [List.getD_eq_getElem?_getD,List.getElem?_map]
 by_cases h:i<max m.length b.length
 ·rw [if_pos h,List.getElem?_range h];rfl
 ·rw [if_neg h,List.getElem?_eq_none (by simpa using h)];rfl
theorem BR3 (i k:Nat):rv (wideR m b i) k=if k<colsOf m+1 then augF m b i k else 0:=by
 by_cases h1:k<colsOf m
 ·rw [if_pos (by omega),Aj2 h1]
  have:rv (tab (colsOf m) (rm m i)) k=rm m i k:=by rw [H9,if_pos h1]
  rw [<-this]
  unfold rv wideR
  rw [List.getD_eq_getElem?_getD,List.getElem?_append_left (by rw [A1];exact h1),<-List.getD_eq_getElem?_getD]
 ·by_cases h2:k=colsOf m
  ·subst h2
   rw [if_pos (by omega),AX8]
   unfold rv wideR
   rw [List.getD_eq_getElem?_getD,List.getElem?_append_right (by rw [A1];omega),A1]
   simp
  ·rw [if_neg (by omega),AP9 (by rw [X6];omega)]
theorem rm_wide (i k:Nat):rm (wideM m b) i k=rm (augM m b) i k:=by
 rw [BR5]
 unfold rm
 rw [Am8]
 by_cases h:i<max m.length b.length
 ·rw [if_pos h,BR3];simp [h]
 ·rw [if_neg h,AJ4,if_neg (by omega)]
theorem Am9:colsOf (wideM m b)=colsOf (augM m b):=by
 rw [AV3]
 by_cases h:max m.length b.length=0
 ·rw [if_pos h]
  have:wideM m b=[]:=List.length_eq_zero_iff.1 (by rw [AI6];exact h)
  rw [this];rfl
 ·rw [if_neg h]
  refine Nat.le_antisymm (AX5 fun r hr=>?_) ?_
  ·obtain ⟨i,_,rfl⟩:=List.mem_map.1 hr
   rw [X6];exact Nat.le_refl _
  ·have:=BF1 (wideM m b) 0
   rwa [Am8,if_pos (by omega),X6] at this
theorem BR9:redF (wideM m b)=redF (augM m b)/\redP (wideM m b)=redP (augM m b):=by
 have e:rm (wideM m b)=rm (augM m b):=by funext i k;exact rm_wide i k
 unfold redF redP
 rw [AI6,Am9,U4,e]
 exact ⟨rfl,rfl⟩
theorem wide_mk {L:Nat} (hm:mk_ L m) (hb:vk L b) (hL:1<=L):mk_ L (wideM m b):=by
 intro r hr q hq
 obtain ⟨i,_,rfl⟩:=List.mem_map.1 hr
 rcases List.mem_append.1 hq with h | h
 ·exact O5 (fun k _=>hm.rsz hL i k) q h
 ·rw [List.mem_singleton.1 h];exact hb.get hL i
end
theorem At5:Ent Tryz.prog 154:=A0 Tryz.func154 (by kernel_rfl) rfl
theorem Aq6 {S:Nat->Prop} {w:World} {vm vb:Value} {m:List (List QV)} {b:List QV} {L:Nat} (up:Up S w) (hm:eM.R S w vm m) (hb:eV.R S w vb b) (hkm:mk_ L m) (hL:1<=L) (hL2:L<=1000000000) (hr:m.length<=1000) (hl:b.length<=1000) (hc:colsOf m<=1000) :
  CR Tryz.prog 154 #[vm,vb] w (eM.at S (wideM m b)):=by
 refine enter Tryz.func154 O Tryz.ntmps154 O ?_
 refine .sr (.an O O (.sr (.mv O O ?_)))
 refine .call _ O Y9 O (Y1 hm) fun v1 w1 e1 h1=>.an O O (.sr (.an O O ?_))
 subst h1
 have up1:=up.ext e1.size
 have hm1:∀ {W:World},Ext w1 W->eM.R (fun k=>S k/\k<w1.heap.size) W vm m:=fun e=>ER.ext eM (ER.lt eM (ER.ext eM hm e1)) e
 have hb1:∀ {W:World},Ext w1 W->eV.R (fun k=>S k/\k<w1.heap.size) W vb b:=fun e=>ER.ext eV (ER.lt eV (ER.ext eV hb e1)) e
 refine .seq (.sr (.an O O ?_))
 refine .block (.loop (α:=Nat×Value) (fun y=>[(0,vm),(1,vb),(5,.int .i64 (colsOf m:Nat)),(6,y.2),(7,.int .i64 (y.1:Nat))]) (fun y W=>Ext w1 W/\y.1<=max m.length b.length/\OwnL eV 32 w1.heap.size S W y.2 ((List.range y.1).map (wideR m b))) (fun y=>max m.length b.length-y.1) (0,.slice none 0 0) ?_ ?_ ?_)
 ·exact lkA rfl
 ·exact ⟨Ext.refl _,Nat.zero_le _,OwnL.nil⟩
 rintro ⟨i,o⟩ W ⟨hW,hi,ho⟩
 replace hW:Ext w1 W:=hW
 replace hi:i<=max m.length b.length:=hi
 replace ho:OwnL eV 32 w1.heap.size S W o ((List.range i).map (wideR m b)):=ho
 have hsW:=hW.size
 refine .mid (α:=Unit) (fun _=>[(0,vm),(1,vb),(5,.int .i64 (colsOf m:Nat)),(6,o),(7,.int .i64 (i:Nat))]) (fun _ W'=>W'=W/\i<max m.length b.length) ?_ ?_
 ·refine .sr (.mv O O (.mv O O (.lenR un_M O O (hm1 hW) ?_)))
  rcases Nat.lt_or_ge i m.length with h1 | h1
  ·refine .lssT O O O (by omega) (.mv O O (.gs O O O O O (.gs O O O O O (.gs O O O O O (.gs O O O O O (.pick O O O (.nil (.condT O (.skip ?_)))))))))
   exact ⟨rfl,(),lkA rfl,rfl,by omega⟩
  ·refine .lssF O O O (by omega) (.mv O O (.gr O O O O (.mv O O (.gr O O O O (.mv O O (.gr O O O O (.lenR un_V O O (hb1 hW) (.gr O O O O ?_))))))))
   rcases Nat.lt_or_ge i b.length with h2 | h2
   ·refine .lssT O O O (by omega) (.pick O O O (.nil (.condT O (.skip ?_))))
    exact ⟨rfl,(),lkA rfl,rfl,by omega⟩
   ·refine .lssF O O O (by omega) (.pick O O O (.nil (.condF O (.exit (.sr (.mv O O (.an O O (.ret ?_))))))))
    have:i=max m.length b.length:=by omega
    subst this
    exact .plain [_] Tryz.results154 ⟨rfl,trivial⟩ ⟨e1.trans hW,ho.toR (fun k hk=>up1 k hk) (fun _ h=>h)⟩
 rintro _ W' ⟨rfl,hlt⟩
 obtain ⟨es,ho1,ho2⟩:=id ho
 have hTu:∀ k',S k'/\k'<w1.heap.size->S k'/\o.ownBlock≠some k':=fun k' hk'=>⟨hk'.1,fun h=>by have:=(ho1.lt k' h).1;have:=hk'.2;omega⟩
 have upT':Up (fun k'=>S k'/\o.ownBlock≠some k') W':=fun k' hk'=>⟨up1 k' (by omega),fun h=>by have:=(ho1.lt k' h).2;omega⟩
 refine .seq (.block (.sr (.an O O ?_)))
 refine .mid (α:=Value) (fun x=>[(0,vm),(1,vb),(5,.int .i64 (colsOf m:Nat)),(6,o),(7,.int .i64 (i:Nat)),(8,x)]) (fun x W2=>Ext W' W2/\OwnL eQ 54 W'.heap.size (fun k'=>S k'/\o.ownBlock≠some k') W2 x (tab (colsOf m) (rm m i))) ?_ ?_
 ·refine .sr (.an O O ?_)
  generalize hg:(fun j=>qc (rm m i j))=g
  refine .block (.loop (α:=Nat×Value) (fun x=>[(0,vm),(1,vb),(5,.int .i64 (colsOf m:Nat)),(6,o),(7,.int .i64 (i:Nat)),(8,x.2),(9,.int .i64 (x.1:Nat))]) (fun x W2=>Ext W' W2/\x.1<=colsOf m/\OwnL eQ 54 W'.heap.size (fun k'=>S k'/\o.ownBlock≠some k') W2 x.2 ((List.range x.1).map g)) (fun x=>colsOf m-x.1) (0,.slice none 0 0) ?_ ?_ ?_)
  ·exact lkA rfl
  ·exact ⟨Ext.refl _,Nat.zero_le _,OwnL.nil⟩
  rintro ⟨j,x⟩ W2 ⟨hW2,hj,hx⟩
  replace hW2:Ext W' W2:=hW2
  replace hj:j<=colsOf m:=hj
  replace hx:OwnL eQ 54 W'.heap.size (fun k'=>S k'/\o.ownBlock≠some k') W2 x ((List.range j).map g):=hx
  have hsz2:=hW2.size
  refine .seq (.sr (.mv O O (.mv O O ?_)))
  by_cases hjl:j<colsOf m
  rotate_left
  ·refine .lssF O O O (by omega) (.nil (.condF O (.exit ?_)))
   have:j=colsOf m:=by omega
   subst this
   refine ⟨rfl,x,lkA rfl,hW2,?_⟩
   unfold tab
   rw [hg]
   exact hx
  obtain ⟨es',hx1,hx2⟩:=id hx
  have upX:Up (fun k'=>(S k'/\o.ownBlock≠some k')/\x.ownBlock≠some k') W2:=fun k' hk'=>⟨upT' k' (by omega),fun h=>by have:=(hx1.lt k' h).2;omega⟩
  refine .lssT O O O (by omega) (.nil (.condT O (.skip (.seq (.block (.region (.mv O O (.mv O O (.mv O O (.mv O O ?_))))))))))
  refine .call _ O AR9 O (AQ2 (i:=(i:Nat)) (k:=(j:Nat)) upX (eM.mono (fun k' _ h=>⟨hTu k' h,fun e=>by have:=(hx1.lt k' e).1;have:=h.2;omega⟩) (hm1 (hW.trans hW2))) hkm hL hL2) fun v2 W3 e2 h2=>?_
  rw [Ad2] at h2
  have hr':=h2
  obtain ⟨s2,t2,rfl,_,_⟩:=hr'
  refine .bsl _ O O AA3 fun W4 b4 n4=>?_
  obtain ⟨e4,k4,hb4,hs4⟩:=n4
  have e24:=e2.trans e4
  have hW4:=hW2.trans e24
  refine .gv O O (L1 (E:=eQ) (base:=W'.heap.size) (by decide) un_V H0 O O O (hx.ext e24) k4 (h2.ext e4) (by simp;omega) (by decide) hW4.size) ?_
  rintro v5 W5 ⟨ho5,hg5⟩
  refine .an O O (.region (.mv O O (.add O O O (.an O O ?_))))
  rw [wI (by omega)]
  refine ⟨rfl,(j+1,v5),lkA rfl,⟨(hx.ext e24).below hg5 hW4 hW4.size,hjl,?_⟩,by show colsOf m-(j+1)<colsOf m-j;omega⟩
  show OwnL eQ 54 W'.heap.size (fun k'=>S k'/\o.ownBlock≠some k') W5 v5 ((List.range (j+1)).map g)
  rw [List.range_succ,List.map_append,<-hg]
  rw [<-hg] at ho5
  exact ho5
 rintro x W2 ⟨hW2,hx⟩
 obtain ⟨es',hx1,hx2⟩:=id hx
 have hsz2:=hW2.size
 have upX:Up (fun k'=>(S k'/\o.ownBlock≠some k')/\x.ownBlock≠some k') W2:=fun k' hk'=>⟨upT' k' (by omega),fun h=>by have:=(hx1.lt k' h).2;omega⟩
 refine .region (.mv O O (.mv O O (.mv O O (.mv O O ?_))))
 refine .call _ O J6 O (J0 (i:=(i:Nat)) (S:=fun k'=>(S k'/\o.ownBlock≠some k')/\x.ownBlock≠some k') (eV.mono (fun k' _ h=>⟨hTu k' h,fun e=>by have:=(hx1.lt k' e).1;have:=h.2;omega⟩) (hb1 (hW.trans hW2)))) fun v2 W3 e2 h2=>?_
 rw [O1] at h2
 have hr':=h2
 obtain ⟨s2,t2,rfl,_,_⟩:=hr'
 refine .bsl _ O O AA3 fun W4 b4 n4=>?_
 obtain ⟨e4,k4,hb4,hs4⟩:=n4
 have e24:=e2.trans e4
 have hW4:=hW2.trans e24
 refine .gv O O (L1 (E:=eQ) (base:=W'.heap.size) (n:=b.getD i q0) (by decide) un_V H0 O O O (hx.ext e24) k4 (h2.ext e4) (by rw [A1];omega) (by decide) hW4.size) ?_
 rintro v5 W5 ⟨ho5,hg5⟩
 have hW5:Ext W' W5:=(hx.ext e24).below hg5 hW4 hW4.size
 have ho5r:=ho.lt_ hW5
 have hrow:eV.R (fun k'=>S k'/\o.ownBlock≠some k') W5 v5 (wideR m b i):=ho5.toR (fun k hk=>upT' k hk) (fun _ h=>h)
 obtain ⟨ar,cr,hvr,_⟩:=RL.len hrow
 rw [X6] at hvr
 subst hvr
 refine .bsl _ O O Ai9 fun W6 b6 n6=>?_
 obtain ⟨e6,k6,hb6,hs6⟩:=n6
 have hW6:=hW.trans (hW5.trans e6)
 refine .gv O O (L1 (E:=eV) (base:=w1.heap.size) (n:=wideR m b i) (e:=.slice ar (colsOf m+1) cr) (by decide) un_M AK5 O O O (ho5r.ext e6) k6 (ER.ext eV hrow e6) (by simp;omega) (by decide) hW6.size) ?_
 rintro v7 W7 ⟨ho7,hg7⟩
 refine .an O O (.region (.mv O O (.add O O O (.an O O ?_))))
 rw [wI (by omega)]
 refine ⟨rfl,(i+1,v7),lkA rfl,⟨(ho5r.ext e6).below hg7 hW6 hW6.size,hlt,?_⟩,by show max m.length b.length-(i+1)<max m.length b.length-i;omega⟩
 show OwnL eV 32 w1.heap.size S W7 v7 ((List.range (i+1)).map (wideR m b))
 rw [List.range_succ,List.map_append]
 exact ho7
theorem Am3:Ent Tryz.prog 91:=A0 Tryz.func91 (by kernel_rfl) rfl
theorem Al0 {S:Nat->Prop} {w:World} {vm vb:Value} {m:List (List QV)} {b:List QV} {L n:Nat} (up:Up S w) (hm:eM.R S w vm m) (hb:eV.R S w vb b) (hkm:mk_ L m) (hkb:vk L b) (hL:1<=L) (hr:m.length<=100) (hl:b.length<=100) (hc:colsOf m<=90) (hmn:min (max m.length b.length) (colsOf m+1)<=n) (hbd:bd L n<=40000000) :
  CR Tryz.prog 91 #[vm,vb] w (Three (eV.at S (if solvable m b then solX m b else [])) (eM.at S (if solvable m b then nullM m else [])) (Is (.int .i64 (if solvable m b then 0 else 8)))):=by
 have hL2:L<=40000000:=Nat.le_trans (U3 L (Nat.zero_le n)) hbd
 have hwc:=Am9 (m:=m) (b:=b)
 have hwl:=AI6 (m:=m) (b:=b)
 have hac:=AL0 m b
 obtain ⟨eF,eP⟩:=BR9 (m:=m) (b:=b)
 have okw:eOk L n 100 (wideM m b):=⟨wide_mk hkm hkb hL,hL,hbd,by rw [hwl,hwc];omega,by omega,by omega,Nat.le_refl _⟩
 have okm:eOk L n 100 m:=⟨hkm,hL,hbd,by omega,hr,by omega,Nat.le_refl _⟩
 have he:=M1 (augM m b)
 refine enter Tryz.func91 O Tryz.ntmps91 O ?_
 refine .sr (.asg O O (.asg O O (.an O O (.sr (.mv O O ?_)))))
 refine .call _ O Y9 O (Y1 hm) fun v1 w1 e1 h1=>.an O O (.sr (.mv O O (.mv O O ?_)))
 subst h1
 refine .call _ O At5 O (Aq6 (up.ext e1.size) (hm.ext e1) (hb.ext e1) hkm hL (by omega) (by omega) (by omega) (by omega)) fun v2 w2 e2 h2=>?_
 have x2:=e1.trans e2
 refine .call _ O AL4 O (AJ7 (up.ext x2.size) h2 okw) fun v3 w3 e3 h3=>?_
 obtain ⟨vr,vp,rfl,hR,hP⟩:=h3
 have x3:=x2.trans e3
 have hRm:redM (wideM m b)=tabM (redP (augM m b)).length (colsOf (augM m b)) (redF (augM m b)):=by unfold redM;rw [eF,eP,hwc]
 rw [hRm] at hR
 rw [eP] at hP
 refine .mv O O (.ext O O O (.ext O O O (.asg O O (.an O O (.seq (.sr (.mv O O (.mv O O ?_))))))))
 refine .call _ O Aj6 O (Ag5 hP) fun v4 w4 e4 h4=>.nil ?_
 subst h4
 have x4:=x3.trans e4
 by_cases hs:solvable m b
 rotate_left
 ·rw [decide_eq_true (Classical.not_not.1 hs)]
  refine .condT O (.sr (.asg O O (.asg O O (.an O O (.ret ?_)))))
  refine .plain [_,_,_] Tryz.results91 ⟨rfl,rfl,rfl,trivial⟩ ⟨x4,_,_,_,rfl,?_,?_,?_⟩
  ·rw [if_neg hs];exact RL.nil
  ·rw [if_neg hs];exact RL.nil
  ·show _=_
   rw [if_neg hs]
 rw [decide_eq_false hs]
 have hplt:∀ j,j<(redP (augM m b)).length->(redP (augM m b)).getD j 0<colsOf m:=fun j hj=>by
  have h1:=he.lt j hj
  have h2:(redP (augM m b)).getD j 0≠colsOf m:=fun e=>hs (e▸L5 hj)
  omega
 refine .condF O (.skip (.sr (.mv O O ?_)))
 refine .call _ O Z0 O (AG3 (k := -1) (up.ext x4.size) (by omega)) fun vx w5 e5 h5=>.an O O ?_
 have x5:=x4.trans e5
 have hu0:tab (colsOf m) (uniR (-1))=tab (colsOf m) (partTo (redF (augM m b)) (redP (augM m b)) (colsOf m) 0):=D9 fun c _=>by
  unfold uniR partTo
  rw [if_neg (by omega)];rfl
 rw [hu0] at h5
 have hR4:eM.R (fun k=>S k/\k<w4.heap.size) w5 vr _:=ER.ext eM (ER.lt eM (ER.ext eM hR e4)) e5
 have hP4:eI.R (fun k=>S k/\k<w4.heap.size) w5 vp _:=ER.ext eI (ER.lt eI (ER.ext eI hP e4)) e5
 refine .mid (α:=Value) (fun x=>[(0,vm),(10,x)]) (fun x W=>Ext w4 W/\eV.R S W x (solX m b)) ?_ ?_
 ·rcases Nat.eq_zero_or_pos (colsOf m) with h0 | hpos
  ·have hp0:(redP (augM m b)).length=0:=Nat.eq_zero_of_not_pos fun h=>by have:=hplt 0 h;omega
   have hx0:solX m b=[]:=List.length_eq_zero_iff.1 (by rw [Aw0];exact h0)
   rw [show tab (colsOf m) (partTo (redF (augM m b)) (redP (augM m b)) (colsOf m) 0)=[] from List.length_eq_zero_iff.1 (by rw [A1];exact h0)] at h5
   refine .sr (.an O O ?_)
   refine .block (.loop (α:=Unit) (fun _=>[(0,vm),(8,vr),(10,vx),(11,.int .i64 0)]) (fun _ W=>W=w5) (fun _=>0) () ?_ ?_ ?_)
   ·exact lkA rfl
   ·rfl
   rintro _ W rfl
   refine .seq (.sr (.mv O O (.mv O O (.lenR un_M O O hR4 ?_))))
   rw [A9,hp0]
   refine .lssF O O O (by decide) (.nil (.condF O (.exit ?_)))
   rw [hx0]
   exact ⟨rfl,vx,lkA rfl,e5,h5.toR (fun k hk=>up k (by have:=x4.size;omega)) (fun _ h=>h)⟩
  obtain ⟨g,cap,rfl,hcap,hcap2,hgB,fp⟩:=h5.fp (by rw [A1];exact hpos)
  rw [A1] at hcap ⊢
  refine .sr (.an O O ?_)
  refine .block (.loop (α:=Nat) (fun i=>[(0,vm),(7,.int .i64 (colsOf m:Nat)),(8,vr),(9,vp),(10,.slice (some ⟨g,0,none⟩) (colsOf m) cap),(11,.int .i64 (i:Nat))]) (fun i W=>Ext w4 W/\i<=(redP (augM m b)).length/\eM.R (fun k=>S k/\k<w4.heap.size) W vr (tabM (redP (augM m b)).length (colsOf (augM m b)) (redF (augM m b)))/\eI.R (fun k=>S k/\k<w4.heap.size) W vp (pInts (redP (augM m b)))/\FP eQ 54 S W g (tab (colsOf m) (partTo (redF (augM m b)) (redP (augM m b)) (colsOf m) i))) (fun i=>(redP (augM m b)).length-i) 0 ?_ ?_ ?_)
  ·exact lkA rfl
  ·exact ⟨e5,Nat.zero_le _,hR4,hP4,fp⟩
  rintro i W ⟨hW,hi,hRW,hPW,fp⟩
  refine .seq (.sr (.mv O O (.mv O O (.lenR un_M O O hRW ?_))))
  rw [A9]
  rcases Nat.lt_or_ge i (redP (augM m b)).length with hli | hgi
  rotate_left
  ·refine .lssF O O O (by have:=he.len;rw [U4] at this;omega) (.nil (.condF O (.exit ?_)))
   have:i=(redP (augM m b)).length:=by omega
   subst this
   refine ⟨rfl,_,lkA rfl,hW,?_⟩
   have:=fp.toR (c:=cap) (hsz:=by decide) (up g (by have:=x4.size;omega)) (by rw [A1];exact hcap) (by rw [A1];omega)
   rw [A1] at this
   exact this
  have hli2:i<max m.length b.length:=by have:=he.len;rw [U4] at this;omega
  have hacp:colsOf (augM m b)=colsOf m+1:=AX7 (by omega)
  have hg:(pInts (redP (augM m b)))[i]?=some (((redP (augM m b)).getD i 0:Nat):Int):=by rw [List.getElem?_map,A6 (z:=0) hli];rfl
  refine .lssT O O O (by omega) (.nil (.condT O (.skip (.seq (.block ?_)))))
  refine .par follows 12 [.inl _,.inl _,.inl (.int .i64 (i:Nat)),.inr (Ptr (eInt .i64) (fun k=>S k/\k<w4.heap.size) (((redP (augM m b)).getD i 0:Nat):Int)),.inl (.int .i64 (((redP (augM m b)).getD i 0:Nat):Int)),.inl _,.inl (.int .i64 (i:Nat)),.inr (Ptr eV (fun k=>S k/\k<w4.heap.size) (tab (colsOf (augM m b)) (redF (augM m b) i))),.inr (eV.at (fun k=>S k/\k<w4.heap.size) (tab (colsOf (augM m b)) (redF (augM m b) i))),.inl (.int .i64 (colsOf m:Nat)),.inr (Ptr eQ (fun k=>S k/\k<w4.heap.size) (qc (redF (augM m b) i (colsOf m)))),.inr (eQ.at (fun k=>S k/\k<w4.heap.size) (qc (redF (augM m b) i (colsOf m))))] [[],[],[],[(33,1),(34,2)],[(35,3)],[],[],[(37,5),(38,6)],[(39,7)],[],[(40,8),(41,9)],[(42,10)]] (by kernel_rfl) ⟨
   fun w e=>(v_mv O).ob,fun w e=>(v_mv O).ob,fun w e=>(v_mv O).ob,
   fun w e=>B7 (i:=i) un_I B6 O (ER.ext eI hPW e) O hg,
   fun w e x hx=>H7 B6 O hx,
   fun w e=>(v_mv O).ob,fun w e=>(v_mv O).ob,
   fun w e=>B7 (i:=i) un_M ty_V O (ER.ext eM hRW e) O (E2 hli),
   fun w e x hx=>J2 ty_V O hx,
   fun w e=>(v_mv O).ob,
   fun w e x hx=>B7 (i:=colsOf m) un_V ty_Q O hx O (K0 (by omega)),
   fun w e x hx=>J2 ty_Q O hx,trivial⟩ ?_
  intro W6 e6 y3 _ y7 _ y8 _ y10 _ y11 hy11
  have hg4:w4.heap.size<=g:=hgB
  refine .ixB (i:=(redP (augM m b)).getD i 0) un_V ty_Q O O O (hplt i hli) (.storeP (E:=eQ) (i:=(redP (augM m b)).getD i 0) (by decide) ty_Q O O (fp.ext e6) O (by rw [A1];exact hplt i hli) (Nat.zero_add _) (eQ.mono (fun k _ h=>⟨h.1,by have:=h.2;omega⟩) hy11) fun W7 f7 u7=>.nil ?_)
  rw [T8,<-Aa0 he hli] at f7
  refine .region (.mv O O (.add O O O (.an O O ?_)))
  rw [wI (by have:=he.len;rw [U4] at this;omega)]
  exact ⟨rfl,i+1,lkA rfl,⟨u7.below (hW.trans e6) hg4,hli,ER.upd eM (ER.ext eM hRW e6) u7 (fun h=>by have:=h.2;omega),ER.upd eI (ER.ext eI hPW e6) u7 (fun h=>by have:=h.2;omega),f7⟩,by show (redP (augM m b)).length-(i+1)<(redP (augM m b)).length-i;omega⟩
 rintro x W ⟨hW,hx⟩
 have xW:=x4.trans hW
 refine .sr (.mv O O (.mv O O ?_))
 refine .call _ O At6 O (Aq7 (up.ext xW.size) (hm.ext xW) okm) fun v7 w7 e7 h7=>.asg O O (.asg O O (.an O O (.ret ?_)))
 refine .plain [_,_,_] Tryz.results91 ⟨rfl,rfl,rfl,trivial⟩ ⟨xW.trans e7,_,_,_,rfl,?_,?_,?_⟩
 ·rw [if_pos hs];exact ER.ext eV hx e7
 ·rw [if_pos hs];exact h7
 ·show _=_
  rw [if_pos hs]
end Go.Proofs.YtggegpiffjbngaaGreat
namespace Go.Kx
open Go Go.RowKit
theorem Els.append {α:Type} {E:ER α} {S:Nat->Prop} {w:World} {es fs:List Value} {l s:List α} (h:Els E S w es l) (h':Els E S w fs s):Els E S w (es++fs) (l++s):=by
 refine ⟨by rw [List.length_append,List.length_append,h.1,h'.1],fun i e x he hx=>?_⟩
 rw [List.getElem?_append] at he hx
 rw [h.1] at he
 split at he
 ·rename_i hi
  rw [if_pos hi] at hx
  exact h.2 i e x he hx
 ·rename_i hi
  rw [if_neg hi] at hx
  exact h'.2 _ e x he hx
section
variable {P:Program} {σ:Env} {w:World} {d:Option Tmp} {ty:TypeId} {pos:String} {af:Array Edge} {g:Option (Nat×Bool)} {α:Type} {E:ER α}
theorem g_appLs {tt t:TypeId} {x y:Operand} {z:Value} {by_ base:Nat} {X:Nat->Prop} {v u:Value} {l s:List α} {hsz:0<E.sz} (ht:P.underlying tt=some (.slice t)) (hi:infoOf P t=some (z,E.sz,by_)) (hzs:z.cells.size=E.sz) (hx:ev σ x=some v) (hy:ev σ y=some u)
  (hown:OwnL E t base X w v l) (hs:(RL E hsz).R X w u s) (hX:∀ k,X k->k<base) (hl:l.length<=1000000) (hl2:s.length<=1000000) (hby:by_<=100) (hbase:base<=w.heap.size) :
  Gv P ⟨d,.call { callee:=.builtin .append,args:=#[x,y],argTypes:=#[tt,tt] },ty,pos,af,g⟩ σ w fun v' w'=>OwnL E t base X w' v' (l++s)/\Below base w w':=by
 have hown0:=hown
 obtain ⟨es0,ho,hels⟩:=hown
 obtain ⟨es,he,a,c,rfl,hc,_,hcl,hcells⟩:=hs
 have hone:∀ u∈cellsOf es,one1 u=true:=by
  intro u hu
  obtain ⟨e,he',hu'⟩:=List.mem_flatMap.1 hu
  obtain ⟨i,hi'⟩:=List.mem_iff_getElem?.1 he'
  have hlt:i<s.length:=by rw [<-he.1];exact (List.getElem?_eq_some_iff.1 hi').1
  exact E.one (he.2 i e _ hi' (List.getElem?_eq_getElem hlt)) u hu'
 have fin:∀ v' w',w'.ownsRow base t E.sz v' (l.length+s.length) (cellsOf es0++cellsOf es)->w.grownBy w' v.ownBlock->OwnL E t base X w' v' (l++s)/\Below base w w':=by
  intro v' w' h1 h2
  have hb:Below base w w':=hown0.below h2 (Below.refl _ _) hbase
  have hk:Kp X w w':=fun k c t f hk h=>(hb.block k (hX k hk)).trans h
  have hno:∀ k,X k->v'.ownBlock≠some k:=fun k hk e=>by have:=(h1.lt k e).1;have:=hX k hk;omega
  refine ⟨⟨es0++es,?_,?_⟩,hb⟩
  ·rw [show cellsOf (es0++es)=cellsOf es0++cellsOf es by simp [cellsOf],List.length_append];exact h1
  ·refine Els.append ⟨hels.1,fun i e x he hx=>?_⟩ ⟨he.1,fun i e x he' hx=>?_⟩
   ·exact E.mono (fun k _ hk=>⟨hk,hno k hk⟩) (E.keep hk (E.mono (fun k _ hk=>hk.1) (hels.2 i e x he hx)))
   ·exact E.mono (fun k _ hk=>⟨hk,hno k hk⟩) (E.keep hk (he.2 i e x he' hx))
 have hbytes:(l.length+s.length)*by_<=140737488355328:=by
  have:(l.length+s.length)*by_<=2000000*100:=Nat.mul_le_mul (by omega) hby
  omega
 cases a with
 | some ad =>
  have hcell:∀ j u,(cellsOf es)[j]?=some u->w.cell? (ad.add j)=some u:=by
   intro j u hu
   have hpos:0<s.length:=by
    rcases Nat.eq_zero_or_pos s.length with h0 | h0
    ·have:es=[]:=List.length_eq_zero_iff.1 (by rw [he.1];exact h0)
     subst this
     simp [cellsOf] at hu
    ·exact h0
   obtain ⟨ad',h1,_,h2⟩:=hcells hpos
   cases h1
   exact (h2 j u hu).1
  exact (Aa6 (cellsOf es) ht hi hzs hsz hx hy ho hcl hcell hone (by omega) hbytes hbase).mono fun v' w' ⟨h1,h2⟩=>fin v' w' h1 h2
 | none =>
  have h0:s=[]:=by
   cases s with
   | nil=>rfl
   | cons z s=>obtain ⟨ad,h1,_⟩:=hcells (by simp);cases h1
  subst h0
  refine (BD7 ht hi hx hy ho).gv.mono fun v' w' ⟨h1,h2⟩=>?_
  subst h1;subst h2
  exact ⟨by simpa using hown0,Below.refl _ _⟩
end
end Go.Kx
namespace Go.Proofs.YtggegpiffjbngaaGreat
open Go Go.Kx Go.RowKit
theorem Ab0:Ent Tryz.prog 89:=A0 Tryz.func89 (by kernel_rfl) rfl
set_option maxRecDepth 8000 in
theorem AZ2 {S:Nat->Prop} {w:World} {va:Value} {a:List QV} {n L:Nat} (up:Up S w) (ha:eV.R S w va a) (hka:vk L a) (hL1:1<=L) (hL:L<=1000000000) (hn:n<=65536):CR Tryz.prog 89 #[va,.int .i64 (n:Nat)] w (fun v W=>OwnL eQ 54 w.heap.size S W v (tab n (rv a))):=by
 refine enter Tryz.func89 O Tryz.ntmps89 O (.beg (.goC O ?_))
 refine .lp (α:=Nat×Value) [0,1] O (fun y=>[(5,y.2),(6,.int .i64 (y.1:Nat))]) (fun y W=>Ext w W/\y.1<=n/\OwnL eQ 54 w.heap.size S W y.2 (tab y.1 (rv a))) (fun y=>n-y.1) (0,.slice none 0 0) (lc2 O O) ⟨Ext.refl _,Nat.zero_le _,OwnL.nil⟩ ?_
 rintro ⟨i,u⟩ W ⟨hW,hi,hU⟩
 replace hW:Ext w W:=hW
 replace hi:i<=n:=hi
 replace hU:OwnL eQ 54 w.heap.size S W u (tab i (rv a)):=hU
 have zW:=hW.size
 refine .go O ?_
 rcases Nat.lt_or_ge i n with hlt | hge
 rotate_left
 ·have:i=n:=by omega
  subst this
  exact .lssF O O O (by omega) (.goE O (.plain [_] Tryz.results89 ⟨rfl,trivial⟩ ⟨hW,hU⟩))
 obtain ⟨es,ho1,_⟩:=id hU
 have hub:∀ b,u.ownBlock=some b->w.heap.size<=b/\b<W.heap.size:=fun b h=>ho1.lt b h
 have haT:eV.R (fun k=>S k/\u.ownBlock≠some k) W va a:=ER.ext eV (eV.mono (fun k _ h=>⟨h.1,fun e=>by have:=(hub k e).1;have:=h.2;omega⟩) (ER.lt eV ha)) hW
 have hat:=J0 (i:=((i:Nat):Int)) haT
 rw [O1] at hat
 have hq:qok L (a.getD i q0):=(hka.get hL1 i).1
 refine .lssT O O O (by omega) (.go O (.lssT O O O (by omega) (.go O ?_)))
 refine .call _ O J6 O hat fun v1 W1 e1 h1=>?_
 have hW1:=hW.trans e1
 have z1:=e1.size
 refine .call _ O U5 O (T9 (fun k hk=>⟨up k (by omega),fun h=>by have:=(hub k h).2;omega⟩) h1 hq hL1 hL) fun v2 W2 e2 h2=>?_
 have hW2:=e1.trans e2
 have hq':=h2
 obtain ⟨s1,t1,rfl,_,_⟩:=hq'
 refine .bsl _ O O AA3 fun W3 b3 n3=>?_
 obtain ⟨d3,k3,hb3,hs3⟩:=n3
 have D3:=hW2.trans d3
 have hW3:=hW.trans D3
 refine .gv O O (L1 (E:=eQ) (base:=w.heap.size) (n:=qc (qval (a.getD i q0))) (by decide) un_V H0 O O O (hU.ext D3) k3 (ER.ext eQ h2 d3) (by rw [A1];omega) (by decide) hW3.size) ?_
 rintro v4 W4 ⟨hO4,g4⟩
 have hW4:Ext w W4:=OwnL.below (hU.ext D3) g4 hW3 hW3.size
 exact .go O (.inc O O O (by omega) (.goN O (.mk (i+1,v4) O (lc2 O O) ⟨⟨hW4,hlt,by show OwnL _ _ _ _ W4 v4 (tab (i+1) (rv a));unfold tab;rw [List.range_succ,List.map_append];exact hO4⟩,by show n-(i+1)<n-i;omega⟩)))
section
variable {S:Nat->Prop} {base g:Nat} {W W':World} {vs:List Value} {ls:List (List QV)}
theorem RwI.toFB {T:Nat->Prop} (h:RwI S base g W vs ls) (hne:∀ m∈ls,0<m.length) (hT:∀ k,base<=k->T k) (hS:∀ k,S k->T k):FB eV 32 T W g ls:=by
 obtain ⟨es,hb,he⟩:=h.out
 refine ⟨es,hb,by rw [he.1,h.len],fun i e m h1 h2=>?_⟩
 have hi:i<vs.length:=by rw [<-he.1];exact (List.getElem?_eq_some_iff.1 h1).1
 have h3:=List.getElem?_eq_getElem hi
 generalize vs[i]=u at h3
 have hu:u∈vs:=List.mem_iff_getElem?.2 ⟨i,h3⟩
 have h4:=(he.2 i e u h1 h3).1
 subst h4
 have ho:=h.inn i _ m h3 h2
 obtain ⟨g',cap,rfl,c1,c2,c3,hf⟩:=ho.fp (hne m (List.mem_iff_getElem?.2 ⟨i,h2⟩))
 exact (hf.mono (S':=fun k=>T k/\k≠g) fun k _ hk=>⟨hS k hk.1,hk.2.1⟩).toR (hsz:=by decide) ⟨hT g' c3,fun e=>h.ne_g hu (by rw [<-e];rfl)⟩ c1 (by omega)
end
theorem uniR_dl (b c:Nat):uniR (b:Nat) c=dl b c:=by
 unfold uniR dl
 by_cases h:b=c
 ·subst h;simp
 ·have:¬ ((c:Int)=(b:Int)):=by omega
  simp [h,this]
theorem AL3:Ent Tryz.prog 30:=A0 Tryz.func30 (by kernel_rfl) rfl
open Classical in
set_option maxRecDepth 8000 in
theorem AJ6 {S:Nat->Prop} {w:World} {vn vo vx:Value} {n:NtV} {o:List Int} {x:List QV} {L:Nat} (up:Up S w) (hn:eN.R S w vn n) (ho:eI.R S w vo o) (hx:eV.R S w vx x) (hkx:vk L x) (hL1:1<=L) (hL:L<=9000) :
  CR Tryz.prog 30 #[vn,vo,vx] w (Two (eV.at S (if anE n o x=0 then tab (nwOf n o).B ((nwOf n o).an (rv x)) else [])) (Is (.int .i64 (anE n o x)))):=by
 obtain ⟨s,rfl,hs,hb⟩:=hn
 have hn:eN.R S w (.agg #[.int .i64 n.b,s]) n:=⟨s,rfl,hs,hb⟩
 refine enter Tryz.func30 O Tryz.ntmps30 O (.beg (.go O (.box O O fun w1 b3 n1=>?_)))
 obtain ⟨e1,k3,hb3,hs1⟩:=n1
 refine .go O (.ldA ty_N O O k3 O (.go O ?_))
 refine .call _ O AF6 O (AE5 (up.ext e1.size) (hn.ext e1) (ho.ext e1) (ER.ext eV hx e1) hkx hL1 (by omega)) fun v2 w2 e2 h2=>?_
 obtain ⟨vb,ve,rfl,rfl,rfl⟩:=h2
 have x2:=e1.trans e2
 refine .go O ?_
 by_cases hE:sfE n o x.length=0
 rotate_left
 ·have hb:anE n o x=sfE n o x.length:=by unfold anE;rw [if_pos hE]
  refine .neqT O O O hE (.goE O ?_)
  refine .plain [_,_] Tryz.results30 ⟨rfl,rfl,trivial⟩ ⟨x2,_,_,rfl,?_,by rw [hb]⟩
  rw [if_neg (by rw [hb];exact hE)];exact RL.nil
 by_cases hB:(nwOf n o).bal (rv x)
 rotate_left
 ·have hb:anE n o x=10:=by unfold anE;rw [if_neg (by simpa using hE),if_neg hB]
  rw [decide_eq_false fun h=>hB h.2]
  refine .neqF O O O hE (.goE O ?_)
  refine .plain [_,_] Tryz.results30 ⟨rfl,rfl,trivial⟩ ⟨x2,_,_,rfl,?_,by rw [hb]⟩
  rw [if_neg (by rw [hb];decide)];exact RL.nil
 have hno:anE n o x=0:=by unfold anE;rw [if_neg (by simpa using hE),if_pos hB]
 rw [decide_eq_true ⟨hE,hB⟩,if_pos hno]
 obtain ⟨hO,hxb⟩:=Aq1 hE
 have ok:=V4 hO
 have hB6:=ok.b6
 have hB1:=ok.b1
 have hnb:=ok.b
 refine .neqF O O O hE (.go O (.ldA ty_N O O (k3.ext e2) O (.go O ?_)))
 refine .call _ O Al9 O (Ak6 (up.ext x2.size) (hn.ext x2) (ho.ext x2)) fun v4 w4 e4 h4=>?_
 obtain ⟨vm,ve,rfl,hm,rfl⟩:=h4
 rw [if_pos hO] at hm
 obtain ⟨gb,vs,base,rfl,hz0,hgb,hR⟩:=hm
 have x4:=x2.trans e4
 have hs2:=x2.size
 have hs4:=e4.size
 have hF:FB eV 32 S w4 gb (tabM (nwOf n o).B (nwOf n o).B (nwOf n o).Lm):=by
  rw [<-Nw.tab_Lk ok.ok]
  refine hR.toFB (fun m hm=>?_) (fun k hk=>up k (by omega)) fun k hk=>hk
  unfold tabM at hm
  obtain ⟨i,_,rfl⟩:=List.mem_map.1 hm
  rw [A1];exact hB1
 have hglt:=hF.lt
 have hk3:=k3.lt
 clear hR
 have old:∀ {α:Type} (E:ER α) {v:Value} {y:α},E.R S w v y->E.R (fun k=>S k/\k≠gb) w4 v y:=fun E v y h=>E.mono (fun k _ h=>⟨h.1,by have:=h.2;omega⟩) (ER.ext E (ER.lt E h) x4)
 have k3:=k3.ext (e2.trans e4)
 refine .go O (.ldA ty_N O O k3 O (.go O ?_))
 refine .call _ O AV7 O (AT7 (S:=fun k=>S k/\k≠gb) (fun k hk=>⟨up k (by omega),by omega⟩) (old eN hn) (old eI ho)) fun v5 w5 e5 h5=>?_
 obtain ⟨vr,ve,rfl,hr,he⟩:=h5
 replace he:ve=.int .i64 (outE n o):=he
 subst he
 have hlb:labB n o=(nwOf n o).B:=by unfold labB;rw [if_pos hO]
 replace hr:eI.R (fun k=>S k/\k≠gb) w5 vr (pInts ((nwOf n o).refsTo (labB n o))):=hr
 rw [hlb] at hr
 replace hr:eI.R (fun k=>S k/\k≠gb) w5 vr (pInts (nwOf n o).refs):=hr
 have hs5:=e5.size
 have k3:=k3.ext e5
 refine .go O (.fa E9 O O (.go O (.ld A4 O O k3 O ?_)))
 rw [hnb]
 refine .call _ O Ab0 O (AZ2 (S:=fun k=>S k/\k≠gb) (fun k hk=>⟨up k (by omega),by omega⟩) (ER.ext eV (old eV hx) e5) hkx hL1 (by omega) (by omega)) fun v6 w6 e6 h6=>?_
 have hs6:=e6.size
 have hV6:eV.R (fun k=>(S k/\k≠gb)/\k<w6.heap.size) w6 v6 (tab (nwOf n o).B (rv x)):=ER.lt eV (h6.toR (hsz:=by decide) (fun k hk=>⟨up k (by omega),by omega⟩) fun k hk=>hk)
 refine .gv O O (g_appLs (E:=eQ) (hsz:=by decide) (base:=w6.heap.size) (X:=fun k=>(S k/\k≠gb)/\k<w6.heap.size) un_V H0 O O O OwnL.nil hV6 (fun k h=>h.2) (by simp) (by rw [A1];omega) (by decide) (Nat.le_refl _)) ?_
 rintro v7 w7 ⟨hO7,b7⟩
 have e7:Ext w6 w7:=b7
 rw [List.nil_append] at hO7
 obtain ⟨gr,cap,rfl,hc1,hc2,hgr,fr⟩:=hO7.fp (by rw [A1];omega)
 rw [A1] at hc1
 rw [A1]
 have hs7:=e7.size
 have hgrl:=fr.lt
 have e57:=(e5.trans e6).trans e7
 have x7:=x4.trans e57
 have k3:=k3.ext (e6.trans e7)
 have hF:FB eV 32 (fun k=>S k/\k≠gr) w7 gb (tabM (nwOf n o).B (nwOf n o).B (nwOf n o).Lm):=(hF.mono (S':=fun k=>S k/\k≠gr) fun k hk h=>⟨h,by omega⟩).ext e57
 have fr:FP eQ 54 (fun k=>S k/\k≠gb) w7 gr (tab (nwOf n o).B (rv x)):=fr.mono fun k _ h=>h.1
 have hr:eI.R (fun k=>(S k/\k≠gb)/\k≠gr) w7 vr (pInts (nwOf n o).refs):=ER.ext eI (eI.mono (fun k _ h=>⟨h.1,by have:=h.2;omega⟩) (ER.lt eI hr)) (e6.trans e7)
 have hrW:∀ {W:World},Chg (fun k=>k=gb\/k=gr) w7 W->eI.R (fun k=>(S k/\k≠gb)/\k≠gr) W vr (pInts (nwOf n o).refs):=fun hC=>eI.keep (hC.kp fun k hk h=>h.elim (fun e=>hk.1.2 e) fun e=>hk.2 e) hr
 have hkW:∀ {W:World},Chg (fun k=>k=gb\/k=gr) w7 W->Blk W b3 24 #[.int .i64 n.b,s]:=fun hC=>hC.blk k3 fun h=>by have:=hb3;have:=e2.size;rcases h with h | h<;>omega
 rw [hnb] at hkW
 have hrl:(nwOf n o).refs.length<=(nwOf n o).B:=(nwOf n o).cnt_le (nwOf n o).B
 generalize hG:(fun i=>fun b c=>if b∈(nwOf n o).refs.take i then dl b c else (nwOf n o).Lm b c:Nat->RM)=G
 generalize hY:(fun i=>fun b=>if b∈(nwOf n o).refs.take i then 0 else rv x b:Nat->Nat->Rat)=Y
 refine .goC O ?_
 refine .lp (α:=Nat) [3,10,12,14] O (fun i=>[(15,.int .i64 (i:Nat))]) (fun i W=>i<=(nwOf n o).refs.length/\Chg (fun k=>k=gb\/k=gr) w7 W/\FB eV 32 (fun k=>S k/\k≠gr) W gb (tabM (nwOf n o).B (nwOf n o).B (G i))/\FP eQ 54 (fun k=>S k/\k≠gb) W gr (tab (nwOf n o).B (Y i))) (fun i=>(nwOf n o).refs.length-i) 0 (lc1 O) ⟨Nat.zero_le _,Chg.refl _,by rw [<-hG];simpa using hF,by rw [<-hY];simpa using fr⟩ ?_
 clear hF fr
 rintro i W ⟨hi,hC,hF,fr⟩
 have hCs:=hC.size
 refine .go O (.lenR un_I O O (hrW hC) (.go O ?_))
 rw [show (pInts (nwOf n o).refs).length=(nwOf n o).refs.length by simp]
 rcases Nat.lt_or_ge i (nwOf n o).refs.length with hlt | hge
 rotate_left
 ·have:i=(nwOf n o).refs.length:=by omega
  subst this
  have hmem:∀ b,b<(nwOf n o).B->(b∈(nwOf n o).refs.take (nwOf n o).refs.length<->(nwOf n o).root b=b):=fun b hb=>by
   rw [List.take_of_length_le (Nat.le_refl _),Nw.mem_refs]
   exact ⟨fun h=>h.2,fun h=>⟨hb,h⟩⟩
  have hA:tabM (nwOf n o).B (nwOf n o).B (G (nwOf n o).refs.length)=(nwOf n o).gA:=C8 fun b c hb _=>by
   rw [<-hG]
   unfold Nw.gm
   dsimp only
   by_cases h:(nwOf n o).root b=b
   ·rw [if_pos h,if_pos ((hmem b hb).2 h)]
   ·rw [if_neg h,if_neg fun h'=>h ((hmem b hb).1 h')]
  rw [hA] at hF
  have hRm:eM.R S W (slB (nwOf n o).B gb) (nwOf n o).gA:=by
   have:=(hF.mono (S':=S) fun k _ h=>h.1).toR (hsz:=by decide) (c:=(nwOf n o).B) (up gb (by omega)) (by rw [J3];exact Nat.le_refl _) (by rw [J3];omega)
   rw [J3] at this
   exact this
  have hRr:eV.R S W (.slice (some ⟨gr,0,none⟩) (nwOf n o).B cap) (tab (nwOf n o).B (Y (nwOf n o).refs.length)):=by
   have:=(fr.mono (S':=S) fun k _ h=>h.1).toR (hsz:=by decide) (c:=cap) (up gr (by omega)) (by rw [A1];exact hc1) (by rw [A1];omega)
   rw [A1] at this
   exact this
  have hxW:Ext w W:=hC.below x7 (by omega) (fun k hk=>by omega)
  obtain ⟨hsv,hsol⟩:=BW3 ok (r:=tab (nwOf n o).B (Y (nwOf n o).refs.length)) (x:=x) (A1 ..) fun b hb=>by
   rw [H9,if_pos hb,<-hY]
   unfold Nw.inj0
   dsimp only
   by_cases h:(nwOf n o).root b=b
   ·rw [if_pos h,if_pos ((hmem b hb).2 h)]
   ·rw [if_neg h,if_neg fun h'=>h ((hmem b hb).1 h')]
  have hkY:vk (max 21 L) (tab (nwOf n o).B (Y (nwOf n o).refs.length)):=O5 fun b _=>by
   rw [<-hY]
   dsimp only
   split
   ·exact Rsz.zero (by omega)
   ·exact (hkx.rsz hL1 b).mono (by omega)
  refine .lssF O O O (by omega) (.go O ?_)
  refine .call _ O Am3 O (Al0 (L:=max 21 L) (n:=6) (up.ext hxW.size) hRm hRr ((BV3 ok).mono (by omega)) hkY (by omega) (by rw [J3];omega) (by rw [A1];omega) (by rw [AG8 hB1];omega) (by rw [J3,A1];omega) (by rw [bd6];omega)) fun v7 w7' e7' h7=>?_
  obtain ⟨va,vz,ve,rfl,ha,_,rfl⟩:=h7
  rw [if_pos hsv] at ha
  rw [if_pos hsv]
  have k3W:=(hkW hC).ext e7'
  have hka:vk 600000 (solX (nwOf n o).gA (tab (nwOf n o).B (Y (nwOf n o).refs.length))):=by
   have h1:solX (nwOf n o).gA (tab (nwOf n o).B (Y (nwOf n o).refs.length))=tab (nwOf n o).B (rv (solX (nwOf n o).gA (tab (nwOf n o).B (Y (nwOf n o).refs.length)))):=by
    unfold solX
    rw [AG8 hB1]
    exact D9 fun k hk=>by rw [H9,if_pos hk]
   rw [h1,hsol]
   exact O5 fun c _=>(At2 ok hL1 (fun b=>hkx.rsz hL1 b) c).mono (by omega)
  refine .go O (.fa E9 O O (.go O (.ld A4 O O k3W O ?_)))
  refine .call _ O Ab0 O (AZ2 (n:=(nwOf n o).B) (up.ext (hxW.trans e7').size) ha hka (by decide) (by decide) (by omega)) fun v8 w8 e8 h8=>.goE O ?_
  have h8:=h8.toR (S:=S) (hsz:=by decide) (fun k hk=>up k (by have:=(hxW.trans e7').size;omega)) fun k hk=>hk
  rw [hsol] at h8
  exact .plain [_,_] Tryz.results30 ⟨rfl,rfl,trivial⟩ ⟨(hxW.trans e7').trans e8,_,_,rfl,h8,by rw [hno]⟩
 have hgr':(pInts (nwOf n o).refs)[i]?=some (((nwOf n o).refs.getD i 0:Nat):Int):=by rw [List.getElem?_map,A6 (z:=0) hlt];rfl
 have hrB:(nwOf n o).refs.getD i 0<(nwOf n o).B:=(Nw.mem_refs.1 (L5 hlt)).1
 have htk:(nwOf n o).refs.take (i+1)=(nwOf n o).refs.take i++[(nwOf n o).refs.getD i 0]:=by rw [List.take_add_one,A6 (z:=0) hlt];rfl
 generalize hb0:(nwOf n o).refs.getD i 0=b at hrB htk hgr'
 have hrC:=hrW hC
 have kC:=hkW hC
 refine .lssT O O O (by omega) (.goC O ?_)
 refine .par follows 12 [.inl _,.inl _,.inl _,.inr (Ptr (eInt .i64) (fun k=>(S k/\k≠gb)/\k≠gr) ((b:Nat):Int)),.inl (.int .i64 (b:Nat)),.inl _,.inl (.int .i64 ((nwOf n o).B:Nat)),.inl _,.inl _,.inr (Ptr (eInt .i64) (fun k=>(S k/\k≠gb)/\k≠gr) ((b:Nat):Int)),.inl (.int .i64 (b:Nat)),.inr (eV.at (fun k=>(S k/\k≠gr)/\k≠gb) (tab (nwOf n o).B (uniR (b:Nat))))] [[],[],[],[(55,1),(56,2)],[(57,3)],[],[(59,5)],[],[],[(61,7),(62,8)],[(63,9)],[(60,6),(64,10)]] (by kernel_rfl) ⟨
  fun w e=>(v_mv O).ob,
  fun w e=>(v_mv O).ob,
  fun w e=>(v_mv O).ob,
  fun w e=>B7 (i:=i) un_I B6 O (ER.ext eI hrC e) O hgr',
  fun w e x3 hx3=>H7 B6 O hx3,
  fun w e=>(v_fa E9 O).ob,
  fun w e=>(v_ld A4 O (kC.ext e) O).ob,
  fun w e=>(v_mv O).ob,
  fun w e=>(v_mv O).ob,
  fun w e=>B7 (i:=i) un_I B6 O (ER.ext eI hrC e) O hgr',
  fun w e x9 hx9=>H7 B6 O hx9,
  fun w e=>(A2 _ Z0 O (BH3 (S:=(fun k=>(S k/\k≠gr)/\k≠gb)) (fun k hk=>⟨⟨up k (by have:=e.size;omega),by have:=e.size;omega⟩,by have:=e.size;omega⟩) (by omega))).ob (A3 _ _ _),trivial⟩ ?_
 intro W1 e7' y3 hy3 y9 hy9 y11 hy11
 have hs7':=e7'.size
 refine .ixB (i:=b) un_M ty_V O O O hrB (.storeF (E:=eV) (i:=b) (by decide) ty_V O O (hF.ext e7') O (by rw [A9];exact hrB) (Nat.zero_add _) hy11 fun W2 f2 u2=>?_)
 have hs2':=u2.size
 have fr:=(fr.ext e7').upd u2 (by omega) fun h=>h.2 rfl
 have hC2:Chg (fun k=>k=gb\/k=gr) w7 W2:=(hC.trans (Chg.ext e7')).trans (Chg.upd u2 (.inl O))
 refine .go O (.ixN (i:=i) un_I B6 O O (hrW hC2) O hgr' fun q hq=>.ldE (E:=eInt .i64) B6 O O hq fun e he=>?_)
 obtain ⟨rfl,_⟩:=he
 refine .bld _ O O S8 (.ixB (i:=b) un_V ty_Q O O O hrB (.storeP (E:=eQ) (i:=b) (by decide) ty_Q O O fr O (by rw [A1];exact hrB) (Nat.zero_add _) (zq_R (S:=fun k=>(S k/\k≠gb)/\k≠gr)) fun W3 f3 u3=>?_))
 have f2:=f2.upd u3 (by omega) fun h=>h.2 rfl
 rw [M6 hrB] at f2
 rw [<-N2,T8] at f3
 have hm:∀ b',b'∈(nwOf n o).refs.take (i+1)<->b'∈(nwOf n o).refs.take i\/b'=b:=fun b'=>by rw [htk,List.mem_append,List.mem_singleton]
 have hs1:tabM (nwOf n o).B (nwOf n o).B (fun j k=>if j=b then uniR (b:Nat) k else G i j k)=tabM (nwOf n o).B (nwOf n o).B (G (i+1)):=C8 fun j c _ _=>by
  rw [<-hG]
  dsimp only
  by_cases e:j=b
  ·rw [if_pos e,if_pos ((hm j).2 (.inr e)),e,uniR_dl]
  ·rw [if_neg e]
   by_cases h:j∈(nwOf n o).refs.take i
   ·rw [if_pos h,if_pos ((hm j).2 (.inl h))]
   ·rw [if_neg h,if_neg fun h'=>((hm j).1 h').elim h e]
 have hs2:(tab (nwOf n o).B fun j=>if j=b then 0 else Y i j)=tab (nwOf n o).B (Y (i+1)):=D9 fun j _=>by
  rw [<-hY]
  dsimp only
  by_cases e:j=b
  ·rw [if_pos e,if_pos ((hm j).2 (.inr e))]
  ·rw [if_neg e]
   by_cases h:j∈(nwOf n o).refs.take i
   ·rw [if_pos h,if_pos ((hm j).2 (.inl h))]
   ·rw [if_neg h,if_neg fun h'=>((hm j).1 h').elim h e]
 rw [hs1] at f2
 rw [hs2] at f3
 exact .go O (.inc O O O (by omega) (.goN O (.mk (i+1) O (lc1 O) ⟨⟨hlt,hC2.trans (Chg.upd u3 (.inr O)),f2,f3⟩,by show (nwOf n o).refs.length-(i+1)<(nwOf n o).refs.length-i;omega⟩)))
theorem Am0:Ent Tryz.prog 31:=A0 Tryz.func31 (by kernel_rfl) rfl
open Classical in
set_option maxRecDepth 8000 in
theorem Ak7 {S:Nat->Prop} {w:World} {vn vo vx:Value} {n:NtV} {o:List Int} {x:List QV} {L:Nat} (up:Up S w) (hn:eN.R S w vn n) (ho:eI.R S w vo o) (hx:eV.R S w vx x) (hkx:vk L x) (hL1:1<=L) (hL:L<=9000) :
  CR Tryz.prog 31 #[vn,vo,vx] w (Two (eV.at S (if anE n o x=0 then tab n.ls.length ((nwOf n o).fl ((nwOf n o).an (rv x))) else [])) (Is (.int .i64 (anE n o x)))):=by
 obtain ⟨s,rfl,hs,hb⟩:=hn
 have hn:eN.R S w (.agg #[.int .i64 n.b,s]) n:=⟨s,rfl,hs,hb⟩
 refine enter Tryz.func31 O Tryz.ntmps31 O (.beg (.go O (.box O O fun w1 b3 n1=>?_)))
 obtain ⟨e1,k3,hb3,hs1⟩:=n1
 refine .go O (.ldA ty_N O O k3 O (.go O ?_))
 refine .call _ O AL3 O (AJ6 (up.ext e1.size) (hn.ext e1) (ho.ext e1) (ER.ext eV hx e1) hkx hL1 hL) fun v2 w2 e2 h2=>?_
 obtain ⟨va,ve,rfl,ha,he⟩:=h2
 replace he:ve=.int .i64 (anE n o x):=he
 subst he
 have x2:=e1.trans e2
 refine .go O ?_
 by_cases hE:anE n o x=0
 rotate_left
 ·refine .neqT O O O hE (.goE O (.plain [_,_] Tryz.results31 ⟨rfl,rfl,trivial⟩ ⟨x2,_,_,rfl,?_,rfl⟩))
  rw [if_neg hE];exact RL.nil
 have hO:=(Aq1 (BW4 hE).1).1
 have ok:=V4 hO
 have hnb:=ok.b
 rw [if_pos hE] at ha
 replace ha:eV.R S w2 va (tab (nwOf n o).B ((nwOf n o).an (rv x))):=ha
 have hka:vk 600000 (tab (nwOf n o).B ((nwOf n o).an (rv x))):=O5 fun c _=>(At2 ok hL1 (fun b=>hkx.rsz hL1 b) c).mono (by omega)
 refine .neqF O O O hE (.go O (.ldA ty_N O O (k3.ext e2) O (.go O ?_)))
 have hc:=Ag3 (L:=600000) (up.ext x2.size) (hn.ext x2) (ho.ext x2) ha hka (by decide) (by decide)
 have hsf:sfE n o (tab (nwOf n o).B ((nwOf n o).an (rv x))).length=0:=by unfold sfE;rw [A1,if_neg (by simpa using hO),if_pos (by omega)]
 rw [hsf,if_pos rfl] at hc
 refine .call _ O Aj4 O hc fun v4 w4 e4 h4=>?_
 obtain ⟨vf,ve,rfl,hf,rfl⟩:=h4
 refine .goE O (.plain [_,_] Tryz.results31 ⟨rfl,rfl,trivial⟩ ⟨x2.trans e4,_,_,rfl,?_,by rw [hE]⟩)
 rw [if_pos hE]
 have:tab n.ls.length ((nwOf n o).fl (rv (tab (nwOf n o).B ((nwOf n o).an (rv x)))))=tab n.ls.length ((nwOf n o).fl ((nwOf n o).an (rv x))):=D9 fun k hk=>by
  unfold Nw.fl
  rw [H9,if_pos (ok.f k hk),H9,if_pos (ok.t k hk)]
 rw [this] at hf
 exact hf
end Go.Proofs.YtggegpiffjbngaaGreat
namespace Go.Kx
open Go Go.RowKit
section
variable {P:Program} {σ:Env} {w:World} {d:Option Tmp} {ty:TypeId} {pos:String} {af:Array Edge} {g:Option (Nat×Bool)} {S:Nat->Prop}
theorem BI4 {s:TypeId} {x:Operand} {i:Nat} {u:Value} {q:QV} (hf:fldOf P s i=some 0) (hx:ev σ x=some u) (hp:Ptr eQ S q u w):Gv P ⟨d,.fieldAddr s x i,ty,pos,af,g⟩ σ w fun v' w'=>Ext w w'/\Sp.ok (.inr (Ptr eZ S q.num)) v' w':=by
 obtain ⟨p,rfl,hp⟩:=hp
 exact L4 (An3 hf hx) ⟨_,rfl,hp.qn⟩ (fun _ _ _ e ⟨p,h1,h2⟩=>⟨p,h1,h2.ext e⟩)
theorem BI5 {s:TypeId} {x:Operand} {i:Nat} {u:Value} {q:QV} (hf:fldOf P s i=some 2) (hx:ev σ x=some u) (hp:Ptr eQ S q u w):Gv P ⟨d,.fieldAddr s x i,ty,pos,af,g⟩ σ w fun v' w'=>Ext w w'/\Sp.ok (.inr (Ptr eZ S q.den)) v' w':=by
 obtain ⟨p,rfl,hp⟩:=hp
 exact L4 (An3 hf hx) ⟨_,rfl,hp.qd⟩ (fun _ _ _ e ⟨p,h1,h2⟩=>⟨p,h1,h2.ext e⟩)
theorem BI2 {s:TypeId} {x:Operand} {i:Nat} {u:Value} {q:ZV} (hf:fldOf P s i=some 1) (hx:ev σ x=some u) (hp:Ptr eZ S q u w):Gv P ⟨d,.fieldAddr s x i,ty,pos,af,g⟩ σ w fun v' w'=>Ext w w'/\Sp.ok (.inr (Ptr eW S q.w)) v' w':=by
 obtain ⟨p,rfl,hp⟩:=hp
 exact L4 (An3 hf hx) ⟨_,rfl,hp.zw⟩ (fun _ _ _ e ⟨p,h1,h2⟩=>⟨p,h1,h2.ext e⟩)
end
end Go.Kx
namespace Go.Proofs.YtggegpiffjbngaaGreat
open Go Go.Kx Go.RowKit
end Go.Proofs.YtggegpiffjbngaaGreat
namespace Go.Kx
open Go Go.RowKit
theorem PtrTo.zb {S:Nat->Prop} {w:World} {p:Addr} {z:ZV} (h:PtrTo eZ S w p z):PtrTo eBool S w p z.neg:=by
 obtain ⟨e,⟨s,rfl,_⟩,hS,hc⟩:=h
 refine ⟨.bool z.neg,rfl,hS,fun j u hu=>?_⟩
 match j with
 | 0=>exact hc 0 u (by simpa [Value.cells] using hu)
 | j+1=>simp [Value.cells] at hu
end Go.Kx
namespace Go.Proofs.YtggegpiffjbngaaGreat
open Go Go.Kx Go.RowKit
section
variable {S:Nat->Prop} {w:World} {σ:Env} {d:Option Tmp} {ty:TypeId} {pos:String} {af:Array Edge} {g:Option (Nat×Bool)}
theorem Ao3 {x:Operand} {u:Value} {z:ZV} (hx:ev σ x=some u) (hp:Ptr eZ S z u w):Gv Tryz.prog ⟨d,.load 4 x,ty,pos,af,g⟩ σ w fun v' w'=>Ext w w'/\Sp.ok (.inl (.bool z.neg)) v' w':=by
 obtain ⟨p,rfl,hp⟩:=hp
 exact (Ay5 (E:=eBool) B3 hx hp.zb).mono fun v' w' ⟨e1,h⟩=>by subst e1;exact ⟨Ext.refl _,h⟩
theorem BI3 {s:TypeId} {x:Operand} {i:Nat} {u:Value} {z:ZV} (hf:fldOf Tryz.prog s i=some 0) (hx:ev σ x=some u) (hp:Ptr eZ S z u w):Gv Tryz.prog ⟨d,.fieldAddr s x i,ty,pos,af,g⟩ σ w fun v' w'=>Ext w w'/\Sp.ok (.inr (Ptr eZ S z)) v' w':=by
 obtain ⟨p,rfl,hp⟩:=hp
 exact L4 (An3 hf hx) ⟨_,rfl,by simpa [Addr.add] using hp⟩ (fun _ _ _ e ⟨p,h1,h2⟩=>⟨p,h1,h2.ext e⟩)
theorem BI6 {T:Nat->Prop} {x y:Operand} {u:Value} {z:ZV} (hx:eW.R T w u z.w) (hb:ev σ x=some (.bool z.neg)) (hy:ev σ y=some u):Gv Tryz.prog ⟨d,.build 52 #[(0,x),(1,y)],ty,pos,af,g⟩ σ w fun v' w'=>Ext w w'/\Sp.ok (.inr (eZ.at T z)) v' w':=by
 obtain ⟨p,c,hv,_⟩:=RL.len hx
 have hz:eZ.R T w (.agg #[.bool z.neg,u]) z:=⟨u,rfl,hx⟩
 subst hv
 exact L4 (An4 (ps:=[(0,x),(1,y)]) [(0,.bool z.neg),(1,.slice p z.w.length c)] (by simp only [evp,hb,hy]) AR4) hz (A3 _ _ _)
theorem ob_bldQ {T:Nat->Prop} {x y:Operand} {u v:Value} {q:QV} (hn:eZ.R T w u q.num) (hd:eZ.R T w v q.den) (hx:ev σ x=some u) (hy:ev σ y=some v):Gv Tryz.prog ⟨d,.build 54 #[(0,x),(1,y)],ty,pos,af,g⟩ σ w fun v' w'=>Ext w w'/\Sp.ok (.inr (eQ.at T q)) v' w':=by
 obtain ⟨s,rfl,hs⟩:=hn
 obtain ⟨t,rfl,ht⟩:=hd
 have hz:eQ.R T w (.agg #[.bool q.num.neg,s,.bool q.den.neg,t]) q:=⟨s,t,rfl,hs,ht⟩
 exact L4 (An4 (ps:=[(0,x),(1,y)]) [(0,.agg #[.bool q.num.neg,s]),(1,.agg #[.bool q.den.neg,t])] (by simp only [evp,hx,hy]) AR5) hz (A3 _ _ _)
end
theorem BB2:Ent Tryz.prog 26:=A0 Tryz.func26 (by kernel_rfl) rfl
set_option maxRecDepth 8000 in
theorem Ax4 {S:Nat->Prop} {w:World} {vl:Value} {l:List QV} (up:Up S w) (hl:eV.R S w vl l) (hk:∀ q∈l,qok 1000000000 q) (hln:l.length<=1000):CR Tryz.prog 26 #[vl] w (eV.at S l):=by
 have hl0:=ER.lt eV hl
 refine enter Tryz.func26 O Tryz.ntmps26 O (.beg (.goC O ?_))
 refine .lp (α:=Nat×Value) [0] O (fun y=>[(3,y.2),(4,.int .i64 (y.1:Nat))]) (fun y W=>Ext w W/\y.1<=l.length/\OwnL eQ 54 w.heap.size S W y.2 (l.take y.1)) (fun y=>l.length-y.1) (0,.slice none 0 0) (lc2 O O) ⟨Ext.refl _,Nat.zero_le _,OwnL.nil⟩ ?_
 rintro ⟨i,v⟩ W ⟨hW,hi,hO⟩
 replace hW:Ext w W:=hW
 replace hi:i<=l.length:=hi
 replace hO:OwnL eQ 54 w.heap.size S W v (l.take i):=hO
 have zW:=hW.size
 refine .go O (.lenR un_V O O (ER.ext eV hl hW) ?_)
 rcases Nat.lt_or_ge i l.length with hlt | hge
 rotate_left
 ·have:i=l.length:=by omega
  subst this
  rw [List.take_length] at hO
  exact .lssF O O O (by omega) (.goE O (.plain [_] Tryz.results26 ⟨rfl,trivial⟩ ⟨hW,hO.toR (fun k hk=>up k (by omega)) (fun _ h=>h)⟩))
 have hg:=List.getElem?_eq_getElem hlt
 have htk:l.take (i+1)=l.take i++[l[i]]:=by rw [List.take_add_one,hg];rfl
 have hq:=hk l[i] (List.getElem_mem hlt)
 generalize l[i]=q at hg htk hq
 obtain ⟨es,ho1,ho2⟩:=id hO
 generalize hT:(fun k=>S k/\v.ownBlock≠some k)=T
 have hTS:∀ k,T k->S k/\v.ownBlock≠some k:=fun k h=>by rw [<-hT] at h;exact h
 have upT':∀ {W':World},W.heap.size<=W'.heap.size->Up T W':=fun h k hk=>by rw [<-hT];exact ⟨up k (by omega),fun e=>by have:=(ho1.lt k e).2;omega⟩
 refine .lssT O O O (by omega) (.goC O ?_)
 refine .par follows 31 ((.inl _)::(.inl _)::(.inl _)::(.inr (Ptr eQ S q))::(.inr (Ptr eZ S q.num))::(.inr (Ptr eZ S q.num))::(.inl (.bool q.num.neg))::(.inl _)::(.inl _)::(.inr (Ptr eQ S q))::(.inr (Ptr eZ S q.num))::(.inr (Ptr eW S q.num.w))::(.inr (eW.at S q.num.w))::(.inr (eW.at T q.num.w))::(.inr (eZ.at T q.num))::(.inl _)::(.inl _)::(.inr (Ptr eQ S q))::(.inr (Ptr eZ S q.den))::(.inr (Ptr eZ S q.den))::(.inl (.bool q.den.neg))::(.inl _)::(.inl _)::(.inr (Ptr eQ S q))::(.inr (Ptr eZ S q.den))::(.inr (Ptr eW S q.den.w))::(.inr (eW.at S q.den.w))::(.inr (eW.at T q.den.w))::(.inr (eZ.at T q.den))::(.inr (eQ.at T q))::(.inr (OneP T q))::[]) ([]::[]::[]::[(12,1),(13,2)]::[(14,3)]::[(15,4)]::[(16,5)]::[]::[]::[(18,7),(19,8)]::[(20,9)]::[(21,10)]::[(22,11)]::[(23,12)]::[(17,6),(24,13)]::[]::[]::[(26,15),(27,16)]::[(28,17)]::[(29,18)]::[(30,19)]::[]::[]::[(32,21),(33,22)]::[(34,23)]::[(35,24)]::[(36,25)]::[(37,26)]::[(31,20),(38,27)]::[(25,14),(39,28)]::[(40,29)]::[]) (by kernel_rfl) ⟨
  fun w e=>(v_mv O).ob,
  fun w e=>(v_mv O).ob,
  fun w e=>(v_mv O).ob,
  fun w e=>B7 (i:=i) un_V ty_Q O (ER.ext eV hl (hW.trans e)) O hg,
  fun w e x3 hx3=>BI4 O7 O hx3,
  fun w e x4 hx4=>BI3 F0 O hx4,
  fun w e x5 hx5=>Ao3 O hx5,
  fun w e=>(v_mv O).ob,
  fun w e=>(v_mv O).ob,
  fun w e=>B7 (i:=i) un_V ty_Q O (ER.ext eV hl (hW.trans e)) O hg,
  fun w e x9 hx9=>BI4 O7 O hx9,
  fun w e x10 hx10=>BI2 E0 O hx10,
  fun w e x11 hx11=>J2 ty_W O hx11,
  fun w e x12 hx12=>(have hq1:=hq.1;Gv.ob ((BJ7 un_W G9 O O hx12 (by omega)).mono fun v' w' ⟨h1,h2⟩=>⟨h2,h1.toR (S:=T) (fun k hk=>upT' e.size k hk)⟩) (A3 _ _ _)),
  fun w e x13 hx13=>BI6 hx13 O rfl,
  fun w e=>(v_mv O).ob,
  fun w e=>(v_mv O).ob,
  fun w e=>B7 (i:=i) un_V ty_Q O (ER.ext eV hl (hW.trans e)) O hg,
  fun w e x17 hx17=>BI5 O6 O hx17,
  fun w e x18 hx18=>BI3 F0 O hx18,
  fun w e x19 hx19=>Ao3 O hx19,
  fun w e=>(v_mv O).ob,
  fun w e=>(v_mv O).ob,
  fun w e=>B7 (i:=i) un_V ty_Q O (ER.ext eV hl (hW.trans e)) O hg,
  fun w e x23 hx23=>BI5 O6 O hx23,
  fun w e x24 hx24=>BI2 E0 O hx24,
  fun w e x25 hx25=>J2 ty_W O hx25,
  fun w e x26 hx26=>(have hq2:=hq.2;Gv.ob ((BJ7 un_W G9 O O hx26 (by omega)).mono fun v' w' ⟨h1,h2⟩=>⟨h2,h1.toR (S:=T) (fun k hk=>upT' e.size k hk)⟩) (A3 _ _ _)),
  fun w e x27 hx27=>BI6 hx27 O rfl,
  fun w e x14 hx14 x28 hx28=>ob_bldQ hx14 hx28 O rfl,
  fun w e x29 hx29=>BT2 hx29,trivial⟩ ?_
 rintro W1 d1 _ _ _ _ _ _ _ _ _ _ _ _ _ _ _ _ _ _ _ _ _ _ _ _ _ _ _ _ _ _ _ _ _ _ _ _ _ _ _ ⟨bb,e9,rfl,kb9,he9⟩
 have hW1:=hW.trans d1
 refine .gv O O (L1 (E:=eQ) (base:=w.heap.size) (n:=q) (e:=e9) (by decide) un_V H0 O O O (hO.ext d1) kb9 (eQ.mono (fun k _ h=>hTS k h) he9) (by rw [List.length_take];omega) (by decide) hW1.size) ?_
 rintro v2 W2 ⟨hO2,g2⟩
 have hW2:Ext w W2:=OwnL.below (hO.ext d1) g2 hW1 hW1.size
 rw [<-htk] at hO2
 exact .go O (.inc O O O (by omega) (.goN O (.mk (i+1,v2) O (lc2 O O) ⟨⟨hW2,hlt,hO2⟩,by show l.length-(i+1)<l.length-i;omega⟩)))
end Go.Proofs.YtggegpiffjbngaaGreat
namespace Go.Kx
open Go Go.RowKit
def Sim (k:Value->Value->Prop) (w w':World):Prop:=∀ p u,Live w p u->∃ u',Live w' p u'/\k u u'
theorem Live.blk {w:World} {p:Addr} {u:Value} (h:Live w p u):∃ b off cs t f,p=⟨b,off,none⟩/\w.heap[b]?=some (.cells cs t f)/\cs[off]?=some u:=by
 obtain ⟨h1,_⟩:=h
 unfold World.cell? at h1
 split at h1
 ·rename_i c e f hh
  obtain ⟨b,off,spot⟩:=p
  cases spot with
  | none=>exact ⟨b,off,c,e,f,rfl,hh,by simpa using h1⟩
  | some s=>simp at h1
 ·cases h1
theorem heap_setCell {w:World} {b off:Nat} {v:Value} {cs:Array Value} {t:TypeId} {f:Nat×Nat} (h:w.heap[b]?=some (.cells cs t f)):(w.setCell ⟨b,off,none⟩ v).heap[b]?=some (.cells (cs.setIfInBounds off v) t f):=by
 unfold World.setCell
 simp [Array.getElem?_modify,h]
theorem AI2 {w:World} {b k off:Nat} {v:Value} (h:k≠b):(w.setCell ⟨b,off,none⟩ v).heap[k]?=w.heap[k]?:=by
 unfold World.setCell
 simp [Array.getElem?_modify,Ne.symm h]
theorem Live.inj {w:World} {p:Addr} {u v:Value} (h:Live w p u) (h':Live w p v):u=v:=by
 have h1:=h.1
 rw [h'.1] at h1
 exact (Option.some.inj h1).symm
theorem Live.setSelf {w:World} {p:Addr} {u v:Value} (h:Live w p u):Live (w.setCell p v) p v:=by
 obtain ⟨b,off,cs,t,f,rfl,hb,hc⟩:=h.blk
 have hset:=heap_setCell (w:=w) (off:=off) (v:=v) hb
 have hlt:=(Array.getElem?_eq_some_iff.1 hc).1
 refine ⟨?_,?_⟩
 ·unfold World.cell?
  simp [hset,hlt]
 ·have hfr:=h.2
  unfold World.frozen? at hfr ⊢
  simp [hb] at hfr
  simp [hset]
  exact hfr
theorem Live.setOther {w:World} {p q:Addr} {u x v:Value} (h:Live w p u) (hx:Live w q x) (hne:q≠p):Live (w.setCell p v) q x:=by
 obtain ⟨b,off,cs,t,f,rfl,hb,hc⟩:=h.blk
 obtain ⟨b',off',cs',t',f',rfl,hb',hc'⟩:=hx.blk
 have hfr:=hx.2
 by_cases e:b'=b
 ·subst e
  rw [hb] at hb'
  cases hb'
  have hset:=heap_setCell (w:=w) (off:=off) (v:=v) hb
  have e2:off≠off':=fun h=>hne (by rw [h])
  refine ⟨?_,?_⟩
  ·unfold World.cell?
   simp [hset,Array.getElem?_setIfInBounds_ne e2,hc']
  ·unfold World.frozen? at hfr ⊢
   simp [hb] at hfr
   simp [hset]
   exact hfr
 ·refine ⟨?_,?_⟩
  ·unfold World.cell?
   simp [AI2 e,hb',hc']
  ·unfold World.frozen? at hfr ⊢
   simp only [AI2 e]
   exact hfr
theorem BW5 {p:Addr} {i j:Nat} (h:i≠j):p.add i≠p.add j:=fun e=>by
 have:(p.add i).off=(p.add j).off:=by rw [e]
 unfold Addr.add at this
 by_cases hi:i=0<;>by_cases hj:j=0<;>simp [hi,hj] at this<;>omega
theorem Av3 {w:World} {p:Addr} {u v:Value} (h:Live w p u):Upd w (w.setCell p v) p.block:=by
 obtain ⟨b,off,cs,t,f,rfl,hb,hc⟩:=h.blk
 exact Upd.setCell w b off v
theorem Aw1 {P:Program} {w:World} {p:Addr} {u v:Value} (h:Live w p u) (hv:one1 v=true):(store p v).run P w=.ok () (w.setCell p v):=by
 obtain ⟨h1,h2⟩:=h
 unfold store
 cases v<;>first | (simp [one1] at hv;done) | simp [Sem.run,h1,h2]
theorem AI0 {P:Program} {p:Addr}:∀ (vs:List Value) (i:Nat) (w:World),(∀ j v,vs[j]?=some v->∃ u,Live w (p.add (i+j)) u)->(∀ v∈vs,one1 v=true) ->
  ∃ w',(storeCells p vs i).run P w=.ok () w'/\(∀ q x,Live w q x->(∃ j v,vs[j]?=some v/\q=p.add (i+j)/\Live w' q v)\/((∀ j,j<vs.length->q≠p.add (i+j))/\Live w' q x))/\Upd w w' p.block
 | [],i,w,_,_=>⟨w,by simp [storeCells],fun q x h=>.inr ⟨fun j hj=>by simp at hj,h⟩,Upd.refl _ _⟩
 | v::vs,i,w,h,h1=>by
  obtain ⟨u,hu⟩:=h 0 v rfl
  rw [Nat.add_zero] at hu
  have hs:=Aw1 (P:=P) (v:=v) hu (h1 v (by simp))
  obtain ⟨w',hr,hS,hU⟩:=AI0 (P:=P) (p:=p) vs (i+1) (w.setCell (p.add i) v) (fun j z hz=>by
   obtain ⟨u',hu'⟩:=h (j+1) z (by simpa using hz)
   rw [show i+1+j=i+(j+1) by omega]
   exact ⟨u',hu.setOther hu' (BW5 (by omega))⟩) (fun z hz=>h1 z (by simp [hz]))
  refine ⟨w',?_,fun q x hq=>?_,?_⟩
  ·simp only [storeCells,Sem.run_bind,hs,Result.andThen_ok,hr]
  ·by_cases e:q=p.add i
   ·left
    have hv:Live (w.setCell (p.add i) v) q v:=by rw [e];exact hu.setSelf
    rcases hS q v hv with ⟨j,z,_,hj,_⟩ | ⟨_,hl⟩
    ·exfalso
     rw [e] at hj
     exact BW5 (show i≠i+1+j by omega) hj
    ·exact ⟨0,v,rfl,by rw [Nat.add_zero];exact e,hl⟩
   ·rcases hS q x (hu.setOther hq e) with ⟨j,z,hz,hj,hl⟩ | ⟨hn,hl⟩
    ·exact .inl ⟨j+1,z,by simpa using hz,by rw [hj,show i+1+j=i+(j+1) by omega],hl⟩
    ·refine .inr ⟨fun j hj=>?_,hl⟩
     cases j with
     | zero=>rw [Nat.add_zero];exact e
     | succ j=>rw [show i+(j+1)=i+1+j by omega];exact hn j (by simpa using hj)
  ·have:=Av3 (v:=v) hu
   rw [G0] at this
   exact this.trans hU
theorem Ak5 {P:Program} {t:TypeId} {a:Bool} {n:Nat} {w:World} {p:Addr} {v:Value} {k:Value->Value->Prop} (hk:∀ u,k u u) (ht:tyOf P t=some (a,n)) (hn:v.cells.size=n) (h:∀ (j:Nat) (z:Value),v.cells[j]?=some z->∃ u,Live w (p.add j) u/\k u z) (h1:∀ u∈v.cells.toList,one1 u=true) :
  ∃ w',(storeVar t p v).run P w=.ok () w'/\Sim k w w'/\Upd w w' p.block:=by
 obtain ⟨w',hr,hS,hU⟩:=AI0 (P:=P) (p:=p) v.cells.toList 0 w (fun j z hz=>by
  obtain ⟨u,hu,_⟩:=h j z (by simpa using hz)
  rw [Nat.zero_add];exact ⟨u,hu⟩) h1
 refine ⟨w',?_,fun q x hq=>?_,hU⟩
 ·simp [storeVar,Sem.run_bind,(G4 ht w).2,hn,hr]
 ·rcases hS q x hq with ⟨j,z,hz,hj,hl⟩ | ⟨_,hl⟩
  ·obtain ⟨u,hu,hku⟩:=h j z (by simpa using hz)
   rw [Nat.zero_add] at hj
   rw [hj] at hq
   rw [hq.inj hu]
   exact ⟨z,hl,hku⟩
  ·exact ⟨x,hl,hk x⟩
section
variable {P:Program} {σ:Env} {w:World} {d:Option Tmp} {ty:TypeId} {pos:String} {af:Array Edge} {g:Option (Nat×Bool)}
theorem BV0 {t:TypeId} {x y:Operand} {p:Addr} {n:Nat} {a:Bool} {v:Value} {k:Value->Value->Prop} (hk:∀ u,k u u) (ht:tyOf P t=some (a,n)) (hx:ev σ x=some (.pointer (some p))) (hy:ev σ y=some v) (hn:v.cells.size=n)
  (h:∀ (j:Nat) (z:Value),v.cells[j]?=some z->∃ u,Live w (p.add j) u/\k u z) (h1:∀ u∈v.cells.toList,one1 u=true) :
  Gv P ⟨d,.store t x y,ty,pos,af,g⟩ σ w fun _ w'=>Sim k w w'/\Upd w w' p.block:=by
 refine ⟨(by intro _ h;cases h),fun ρ hρ=>.inr (.inl ?_)⟩
 have e1:=hρ x _ (by simp [Op.operands]) hx
 have e2:=hρ y _ (by simp [Op.operands]) hy
 obtain ⟨w',hr,hS,hu⟩:=Ak5 (P:=P) hk ht hn h h1
 exact ⟨w',by simp [execOp,e1,e2,Instr.storeAt,Instr.sureAddr,hr],hS,hu⟩
end
def eAny:ER Unit where
 sz:=1
 isA:=false
 R:=fun _ _ e _=>∃ n,e=.int .u32 n
 csz:=by rintro S w e x ⟨n,rfl⟩;rfl
 one:=by rintro S w e x ⟨n,rfl⟩ u hu;simp [Value.cells] at hu;subst hu;rfl
 shp:=by rintro S w e x ⟨n,rfl⟩;rfl
 keep:=fun _ h=>h
 mono:=fun _ h=>h
abbrev eWs:ER (List Unit):=RL eAny
def eQs:ER Unit where
 sz:=4
 isA:=true
 R:=fun S w e _=>∃ p s q t l1 l2,e=.agg #[.bool p,s,.bool q,t]/\eWs.R S w s l1/\eWs.R S w t l2
 csz:=by rintro S w e x ⟨p,s,q,t,l1,l2,rfl,_⟩;rfl
 one:=by
  rintro S w e x ⟨p,s,q,t,l1,l2,rfl,h1,h2⟩ u hu
  have hs:=eWs.shp h1
  have ht:=eWs.shp h2
  simp [Value.cells] at hu
  rcases hu with rfl | rfl | rfl | rfl
  ·rfl
  ·exact hs
  ·rfl
  ·exact ht
 shp:=by rintro S w e x ⟨p,s,q,t,l1,l2,rfl,_⟩;rfl
 keep:=fun hk ⟨p,s,q,t,l1,l2,h,h1,h2⟩=>⟨p,s,q,t,l1,l2,h,eWs.keep hk h1,eWs.keep hk h2⟩
 mono:=fun hk ⟨p,s,q,t,l1,l2,h,h1,h2⟩=>⟨p,s,q,t,l1,l2,h,eWs.mono hk h1,eWs.mono hk h2⟩
abbrev eVs:ER (List Unit):=RL eQs
abbrev eMs:ER (List (List Unit)):=RL eVs
def kd (w:World) (u u':Value):Prop:=u'=u\/((∃ m,u=.int .u32 m)/\∃ n,u'=.int .u32 n)\/((∃ p,u=.bool p)/\∃ q,u'=.bool q)\/((∃ l,eWs.R (fun _=>True) w u l)/\u'=.slice none 0 0)
theorem kd_refl {w:World} (u:Value):kd w u u:=.inl rfl
theorem AS2 {S:Nat->Prop} {w:World} {u:Value} {l:List Unit} (h:eWs.R S w u l):∃ a c,u=.slice a l.length c:=by
 obtain ⟨a,c,h,_⟩:=RL.len h
 exact ⟨a,c,h⟩
theorem BE6 {p:Nat->Value->Prop}:∀ n,(∀ i,i<n->∃ y,p i y)->∃ ys:List Value,ys.length=n/\∀ i y,ys[i]?=some y->p i y
 | 0,_=>⟨[],rfl,fun i y h=>by simp at h⟩
 | n+1,h=>by
  obtain ⟨ys,hl,hy⟩:=BE6 n fun i hi=>h i (by omega)
  obtain ⟨y,hp⟩:=h n (by omega)
  refine ⟨ys++[y],by simp [hl],fun i z hz=>?_⟩
  rcases Nat.lt_or_ge i ys.length with hi | hi
  ·rw [List.getElem?_append_left hi] at hz;exact hy i z hz
  ·rw [List.getElem?_append_right hi] at hz
   cases hk:i-ys.length with
   | zero=>rw [hk] at hz;simp at hz;subst hz;rw [show i=n by omega];exact hp
   | succ k=>rw [hk] at hz;simp at hz
def Cl {α:Type} (k:Value->Value->Prop) (E:ER α) (S:Nat->Prop) (w w':World):Prop :=
 ∀ (e:Value) (x:α),E.R S w e x->∀ cs:Array Value,cs.size=e.cells.size->(∀ (j:Nat) (u:Value),e.cells[j]?=some u->∃ u':Value,cs[j]?=some u'/\k u u')->∃ e':Value,e'.cells=cs/\E.R S w' e' x
theorem RL.sim {α:Type} {E:ER α} {hsz:0<E.sz} {S:Nat->Prop} {w w':World} {v:Value} {l:List α} (h:(RL E hsz).R S w v l) {k:Value->Value->Prop} (hS:Sim k w w') (hC:Cl k E S w w'):(RL E hsz).R S w' v l:=by
 obtain ⟨es,he,a,c,hv,h1,h2,h3,h4⟩:=h
 rcases Nat.eq_zero_or_pos l.length with h0 | hpos
 ·have:l=[]:=List.length_eq_zero_iff.1 h0
  subst this
  rw [hv];exact RL.nil
 obtain ⟨ad,ha,hSb,hc⟩:=h4 hpos
 have key:∀ i,i<l.length->∃ y:Value,(∀ x,l[i]?=some x->E.R S w' y x)/\∀ j u,y.cells[j]?=some u->Live w' (ad.add (i*E.sz+j)) u:=by
  intro i hi
  have hi':i<es.length:=by rw [he.1];exact hi
  have hee:es[i]?=some es[i]:=List.getElem?_eq_getElem hi'
  have hR:=he.2 i _ _ hee (List.getElem?_eq_getElem hi)
  have hs:=E.csz hR
  obtain ⟨cs,hl,hcs⟩:=BE6 (p:=fun j y=>Live w' (ad.add (i*E.sz+j)) y/\∀ u,es[i].cells[j]?=some u->k u y) E.sz fun j hj=>by
   obtain ⟨u,hu⟩:∃ u,es[i].cells[j]?=some u:=⟨_,Array.getElem?_eq_getElem (by rw [hs];exact hj)⟩
   have hg:=C7 es i j _ he.sz hee hj
   rw [hu] at hg
   obtain ⟨u',hl',hk⟩:=hS _ _ (hc _ u hg)
   exact ⟨u',hl',fun z hz=>by rw [hu] at hz;cases hz;exact hk⟩
  obtain ⟨e',hec,hR'⟩:=hC _ _ hR cs.toArray (by simp [hl,hs]) (fun j u hu=>by
   have hj:j<cs.length:=by
    rw [hl,<-hs]
    exact (Array.getElem?_eq_some_iff.1 hu).1
   refine ⟨cs[j],by simp [hj],(hcs j cs[j] (List.getElem?_eq_getElem hj)).2 u hu⟩)
  refine ⟨e',fun x hx=>?_,fun j u hu=>?_⟩
  ·rw [List.getElem?_eq_getElem hi] at hx;cases hx;exact hR'
  ·rw [hec] at hu
   exact (hcs j u (by simpa using hu)).1
 obtain ⟨es',hl',hes⟩:=BE6 l.length key
 have hels:Els E S w' es' l:=⟨hl',fun i e x h1 h2=>(hes i e h1).1 x h2⟩
 refine ⟨es',hels,a,c,hv,h1,h2,by rw [B5 _ hels.sz,hl'],fun _=>⟨ad,ha,hSb,fun j u hu=>?_⟩⟩
 have hjl:j<l.length*E.sz:=by
  rcases Nat.lt_or_ge j (l.length*E.sz) with h | h
  ·exact h
  ·rw [List.getElem?_eq_none (by rw [B5 _ hels.sz,hl'];exact h)] at hu;cases hu
 have hq:j / E.sz<l.length:=(Nat.div_lt_iff_lt_mul hsz).2 hjl
 have hr:j % E.sz<E.sz:=Nat.mod_lt _ hsz
 have hjd:(j / E.sz)*E.sz+j % E.sz=j:=by rw [Nat.mul_comm];exact Nat.div_add_mod j E.sz
 obtain ⟨y,hy⟩:∃ y,es'[j / E.sz]?=some y:=⟨_,List.getElem?_eq_getElem (by rw [hl'];exact hq)⟩
 have hg:=C7 es' (j / E.sz) (j % E.sz) y hels.sz hy hr
 rw [hjd,hu] at hg
 have:=(hes _ y hy).2 (j % E.sz) u hg.symm
 rw [hjd] at this
 exact this
theorem BT0 {e:Value} (h:one1 e=true):e.cells=#[e]:=by cases e<;>first | rfl | (simp [one1] at h)
theorem cl_any {S:Nat->Prop} {w w':World}:Cl (kd w) eAny S w w':=by
 rintro e x ⟨n,rfl⟩ cs hcs hk
 obtain ⟨u',hu',hkd⟩:=hk 0 _ rfl
 obtain ⟨l⟩:=cs
 match l,hcs with
 | [z],_ =>
  simp at hu'
  subst hu'
  rcases hkd with rfl | ⟨_,m,rfl⟩ | ⟨⟨_,h⟩,_⟩ | ⟨⟨_,h⟩,_⟩
  ·exact ⟨.int .u32 n,rfl,n,rfl⟩
  ·exact ⟨.int .u32 m,rfl,m,rfl⟩
  ·cases h
  ·obtain ⟨a,c,h⟩:=AS2 h
   cases h
theorem eWs.sim {S:Nat->Prop} {w w':World} {v:Value} {l:List Unit} (h:eWs.R S w v l) (hS:Sim (kd w) w w'):eWs.R S w' v l:=RL.sim h hS cl_any
theorem BJ2 {w:World} {p:Bool} {u:Value} (h:kd w (.bool p) u):∃ q,u=.bool q:=by
 rcases h with rfl | ⟨⟨_,h⟩,_⟩ | ⟨_,h⟩ | ⟨⟨_,h⟩,_⟩
 ·exact ⟨_,rfl⟩
 ·cases h
 ·exact h
 ·obtain ⟨a,c,h⟩:=AS2 h
  cases h
theorem Ax7 {w:World} {a:Option Addr} {n c:Nat} {u:Value} (h:kd w (.slice a n c) u):u=.slice a n c\/((∃ l,eWs.R (fun _=>True) w (.slice a n c) l)/\u=.slice none 0 0):=by
 rcases h with rfl | ⟨⟨_,h⟩,_⟩ | ⟨⟨_,h⟩,_⟩ | h
 ·exact .inl rfl
 ·cases h
 ·cases h
 ·exact .inr h
theorem kd_ws {S:Nat->Prop} {w w':World} {s u:Value} {l:List Unit} (h:eWs.R S w s l) (hS:Sim (kd w) w w') (hk:kd w s u):∃ l',eWs.R S w' u l':=by
 have h':=eWs.sim h hS
 obtain ⟨a,c,rfl⟩:=AS2 h
 rcases Ax7 hk with rfl | ⟨_,rfl⟩
 ·exact ⟨l,h'⟩
 ·exact ⟨[],RL.nil⟩
theorem cl_q {S:Nat->Prop} {w w':World} (hS:Sim (kd w) w w'):Cl (kd w) eQs S w w':=by
 rintro e x ⟨p,s,q,t,l1,l2,rfl,h1,h2⟩ cs hcs hk
 obtain ⟨u0,g0,k0⟩:=hk 0 _ rfl
 obtain ⟨u1,g1,k1⟩:=hk 1 _ rfl
 obtain ⟨u2,g2,k2⟩:=hk 2 _ rfl
 obtain ⟨u3,g3,k3⟩:=hk 3 _ rfl
 obtain ⟨l⟩:=cs
 match l,hcs with
 | [z0,z1,z2,z3],_ =>
  simp at g0 g1 g2 g3
  subst g0 g1 g2 g3
  obtain ⟨p',rfl⟩:=BJ2 k0
  obtain ⟨q',rfl⟩:=BJ2 k2
  obtain ⟨m1,hm1⟩:=kd_ws h1 hS k1
  obtain ⟨m2,hm2⟩:=kd_ws h2 hS k3
  exact ⟨.agg #[.bool p',z1,.bool q',z3],rfl,p',z1,q',z3,m1,m2,rfl,hm1,hm2⟩
theorem eVs.sim {S:Nat->Prop} {w w':World} {v:Value} {l:List Unit} (h:eVs.R S w v l) (hS:Sim (kd w) w w'):eVs.R S w' v l:=RL.sim h hS (cl_q hS)
theorem BT3 {S S':Nat->Prop} {w:World} {v:Value} {l l':List Unit} (h:eVs.R S w v l) (h':eWs.R S' w v l'):l=[]:=by
 rcases Nat.eq_zero_or_pos l.length with h0 | hpos
 ·exact List.length_eq_zero_iff.1 h0
 exfalso
 obtain ⟨a1,c1,hv1⟩:=AS2 h'
 obtain ⟨es,he,a,c,hv,_,_,_,h4⟩:=h
 obtain ⟨es',he',a',c',hv',_,_,_,h4'⟩:=h'
 rw [hv] at hv'
 injection hv' with e1 e2 e3
 subst e1
 obtain ⟨ad,rfl,_,hc⟩:=h4 hpos
 obtain ⟨ad',ha',_,hc'⟩:=h4' (by omega)
 cases ha'
 obtain ⟨e,hee⟩:∃ e,es[0]?=some e:=⟨_,List.getElem?_eq_getElem (by rw [he.1];exact hpos)⟩
 obtain ⟨e',hee'⟩:∃ e,es'[0]?=some e:=⟨_,List.getElem?_eq_getElem (by rw [he'.1];omega)⟩
 obtain ⟨p,s,q,t,l1,l2,rfl,_⟩:=he.2 0 _ _ hee (List.getElem?_eq_getElem hpos)
 obtain ⟨n,rfl⟩:=he'.2 0 _ _ hee' (List.getElem?_eq_getElem (by omega))
 have g1:=C7 es 0 0 _ he.sz hee (by decide)
 have g2:=C7 es' 0 0 _ he'.sz hee' (by decide)
 have h1:=hc 0 _ g1
 have h2:=hc' 0 _ g2
 cases h1.inj h2
theorem cl_v {S:Nat->Prop} {w w':World} (hS:Sim (kd w) w w'):Cl (kd w) eVs S w w':=by
 rintro e l h cs hcs hk
 have h':=eVs.sim h hS
 obtain ⟨a,c,rfl,_⟩:=RL.len h
 obtain ⟨u',hu',hkd⟩:=hk 0 _ rfl
 obtain ⟨cl⟩:=cs
 match cl,hcs with
 | [z],_ =>
  simp at hu'
  subst hu'
  rcases Ax7 hkd with rfl | ⟨⟨l',hw⟩,rfl⟩
  ·exact ⟨_,rfl,h'⟩
  ·have:=BT3 h hw
   subst this
   exact ⟨_,rfl,RL.nil⟩
theorem eMs.sim {S:Nat->Prop} {w w':World} {v:Value} {l:List (List Unit)} (h:eMs.R S w v l) (hS:Sim (kd w) w w'):eMs.R S w' v l:=RL.sim h hS (cl_v hS)
theorem RL.weak {α β:Type} {E:ER α} {E':ER β} {hsz:0<E.sz} {hsz':0<E'.sz} {S:Nat->Prop} {w:World} {v:Value} {l:List α} (f:α->β) (h:(RL E hsz).R S w v l) (hs:E.sz=E'.sz) (hE:∀ e x,E.R S w e x->E'.R S w e (f x)):(RL E' hsz').R S w v (l.map f):=by
 obtain ⟨es,he,a,c,hv,h1,h2,h3,h4⟩:=h
 refine ⟨es,⟨by simp [he.1],fun i e y hx hy=>?_⟩,a,c,by simp [hv],by simp;exact h1,by simp;exact h2,by rw [h3];simp [hs],fun hn=>h4 (by simpa using hn)⟩
 rw [List.getElem?_map] at hy
 cases hl:l[i]? with
 | none=>rw [hl] at hy;cases hy
 | some x=>rw [hl] at hy;cases hy;exact hE _ _ (he.2 i e x hx hl)
theorem eW.shape {S:Nat->Prop} {w:World} {v:Value} {l:List Nat} (h:eW.R S w v l):eWs.R S w v (l.map fun _=>()):=RL.weak _ h O fun e x h=>⟨_,h.1⟩
theorem eQ.shape {S:Nat->Prop} {w:World} {v:Value} {q:QV} (h:eQ.R S w v q):eQs.R S w v ():=by
 obtain ⟨s,t,rfl,h1,h2⟩:=h
 exact ⟨_,s,_,t,_,_,rfl,eW.shape h1,eW.shape h2⟩
theorem eV.shape {S:Nat->Prop} {w:World} {v:Value} {l:List QV} (h:eV.R S w v l):eVs.R S w v (l.map fun _=>()):=RL.weak (E:=eQ) (E':=eQs) (fun _=>()) h O fun _ _ h=>eQ.shape h
theorem eM.shape {S:Nat->Prop} {w:World} {v:Value} {m:List (List QV)} (h:eM.R S w v m):eMs.R S w v (m.map fun l=>l.map fun _=>()):=RL.weak (E:=eV) (E':=eVs) _ h O fun _ _ h=>eV.shape h
def PtrL {α:Type} (E:ER α) (S:Nat->Prop) (w:World) (p:Addr) (x:α):Prop:=∃ e,E.R S w e x/\S p.block/\∀ j u,e.cells[j]?=some u->Live w (p.add j) u
theorem RL.atL {α:Type} {E:ER α} {hsz:0<E.sz} {S:Nat->Prop} {w:World} {v:Value} {l:List α} (h:(RL E hsz).R S w v l) {i:Nat} {x:α} (hi:l[i]?=some x):∃ ad c,v=.slice (some ad) l.length c/\PtrL E S w (ad.add (i*E.sz)) x:=by
 obtain ⟨es,h1,a,c,hv,h2,_,h3,h4⟩:=h
 have hlt:i<l.length:=(List.getElem?_eq_some_iff.1 hi).1
 obtain ⟨ad,ha,hS,hc⟩:=h4 (by omega)
 subst ha
 obtain ⟨e,he⟩:∃ e,es[i]?=some e:=⟨_,List.getElem?_eq_getElem (by rw [h1.1];exact hlt)⟩
 refine ⟨ad,c,hv,e,h1.2 i e x he hi,by rw [G0];exact hS,fun j u hu=>?_⟩
 rw [R7]
 refine hc _ u ?_
 have hj:j<E.sz:=by
  have hs:=h1.sz e (List.mem_iff_getElem?.2 ⟨i,he⟩)
  have:=(Array.getElem?_eq_some_iff.1 hu).1
  omega
 rw [C7 es i j e h1.sz he hj];exact hu
section
variable {P:Program} {ro:Option Nat} {N:Nat} {ds:List Deferred} {ops:Array Oper} {K:Env->World->Prop} {rest:List Oper} {σ:Env} {w:World} {d:Tmp} {ty:TypeId} {pos:String} {af:Array Edge} {α:Type} {E:ER α} {hsz:0<E.sz} {S:Nat->Prop} {v:Value} {l:List α}
theorem X4 {dd:Option Tmp} {gd:Option (Nat×Bool)} {t e:TypeId} {x ix:Operand} {k:IntKind} {i:Nat} {b:Bool} {sz n c:Nat} {ad:Addr} (ht:P.underlying t=some (.slice e)) (he:tyOf P e=some (b,sz)) (hx:ev σ x=some (.slice (some ad) n c))
  (hi:ev σ ix=some (.int k (i:Int))) (hlt:i<n):Vl P ⟨dd,.indexAddr t x ix,ty,pos,af,gd⟩ σ w (.pointer (some (ad.add (i*sz)))):=by
 refine ⟨(by intro _ h;cases h),fun ρ hρ=>?_⟩
 have h1:=hρ x _ (by simp [Op.operands]) hx
 have h2:=hρ ix _ (by simp [Op.operands]) hi
 have hlt':(i:Int)<(n:Int):=by omega
 simp [execOp,h1,h2,Instr.indexAt,asIntOf,run_underlying ht,(G4 he w).2]
 intro hh;omega
theorem WL.ixL {t e:TypeId} {x ix:Operand} {k:IntKind} {i:Nat} {b:Bool} {y:α} (ht:P.underlying t=some (.slice e)) (he:tyOf P e=some (b,E.sz)) (hd:Nat.blt d N=true) (hx:ev σ x=some v) (h:(RL E hsz).R S w v l)
  (hi:ev σ ix=some (.int k (i:Int))) (hy:l[i]?=some y) (kk:∀ p,PtrL E S w p y->WL P ro N ds ops K rest ((d,.pointer (some p))::σ) w) :
  WL P ro N ds ops K (⟨some d,.indexAddr t x ix,ty,pos,af,none⟩::rest) σ w:=by
 obtain ⟨ad,c,rfl,hp⟩:=RL.atL h hy
 exact WL.vl O hd (X4 ht he hx hi (List.getElem?_eq_some_iff.1 hy).1) (kk _ hp)
theorem WL.stL {t:TypeId} {x y:Operand} {p:Addr} {n:Nat} {a:Bool} {u:Value} {z:α} (ht:tyOf P t=some (a,n)) (hx:ev σ x=some (.pointer (some p))) (hy:ev σ y=some u) (hn:u.cells.size=n) (hp:PtrL E S w p z)
  (hk:∀ e:Value,E.R S w e z->∀ (j:Nat) (c:Value),u.cells[j]?=some c->∃ c0:Value,e.cells[j]?=some c0/\kd w c0 c) (h1:∀ c∈u.cells.toList,one1 c=true) (kk:∀ w',Sim (kd w) w w'->Chg S w w'->WL P ro N ds ops K rest σ w') :
  WL P ro N ds ops K (⟨none,.store t x y,ty,pos,af,none⟩::rest) σ w:=by
 obtain ⟨e,he,hS,hc⟩:=hp
 exact WL.gv O O (BV0 kd_refl ht hx hy hn (fun j c hj=>by
  obtain ⟨c0,h0,hkd⟩:=hk e he j c hj
  exact ⟨c0,hc j c0 h0,hkd⟩) h1) fun _ w' ⟨hs,hu⟩=>kk w' hs (Chg.upd hu hS)
end
end Go.Kx
namespace Go.Proofs.YtggegpiffjbngaaGreat
open Go Go.Kx Go.RowKit
section
variable {W W':World} {v va vb:Value} {n c n' c' L L':Nat} {a b m:List (List QV)} {x y:List QV}
end
end Go.Proofs.YtggegpiffjbngaaGreat
namespace Go.Kx
open Go Go.RowKit
theorem eMs.loc {S:Nat->Prop} {w:World} {v:Value} {rows:List (List Unit)} {row:List Unit} {i:Nat} (h:eMs.R S w v rows) (hi:rows[i]?=some row):∃ ad c vr,v=.slice (some ad) rows.length c/\w.cell? (ad.add (i*1))=some vr/\eVs.R S w vr row:=by
 obtain ⟨ad,c,hv,_,e,he,_,hc⟩:=RL.at_ h hi
 have h0:=eVs.shp he
 have hce:=BT0 (show one1 e=true from h0)
 exact ⟨ad,c,e,hv,by have:=hc 0 e (by rw [hce];rfl);rwa [show (ad.add (i*eVs.sz)).add 0=ad.add (i*1) from rfl] at this,he⟩
theorem eVs.loc {S:Nat->Prop} {w:World} {v:Value} {row:List Unit} {k:Nat} (h:eVs.R S w v row) (hk:row[k]?=some ()):∃ ad c s t l1 l2,v=.slice (some ad) row.length c/\PtrL eQs S w (ad.add (k*4)) ()/\w.cell? (((ad.add (k*4)).add 0).add 1)=some s/\eWs.R S w s l1/\w.cell? (((ad.add (k*4)).add 2).add 1)=some t/\eWs.R S w t l2:=by
 obtain ⟨ad,c,hv,hp⟩:=RL.atL h hk
 have hp':=hp
 obtain ⟨e,⟨b,s,d,t,l1,l2,rfl,h1,h2⟩,_,hc⟩:=hp'
 exact ⟨ad,c,s,t,l1,l2,hv,hp,by rw [R7];exact (hc 1 s O).1,h1,by rw [R7];exact (hc 3 t O).1,h2⟩
theorem BJ1 {S:Nat->Prop} {w:World} {n:Int} (e:Value) (he:eAny.R S w e ()) (j:Nat) (c:Value) (hj:(Value.int .u32 n).cells[j]?=some c):∃ c0:Value,e.cells[j]?=some c0/\kd w c0 c:=by
 obtain ⟨m,rfl⟩:=he
 cases j with
 | zero=>exact ⟨.int .u32 m,rfl,.inr (.inl ⟨⟨m,rfl⟩,n,by simpa [Value.cells] using hj.symm⟩)⟩
 | succ j=>simp [Value.cells] at hj
theorem kd_rat {S:Nat->Prop} {w:World} (e:Value) (he:eQs.R S w e ()) (j:Nat) (c:Value) (hj:zq.cells[j]?=some c):∃ c0:Value,e.cells[j]?=some c0/\kd w c0 c:=by
 obtain ⟨b,s,d,t,l1,l2,rfl,h1,h2⟩:=he
 match j with
 | 0=>exact ⟨.bool b,rfl,.inr (.inr (.inl ⟨⟨b,rfl⟩,false,by simpa [Value.cells] using hj.symm⟩))⟩
 | 1=>exact ⟨s,rfl,.inr (.inr (.inr ⟨⟨l1,eWs.mono (fun _ _ _=>trivial) h1⟩,by simpa [Value.cells] using hj.symm⟩))⟩
 | 2=>exact ⟨.bool d,rfl,.inr (.inr (.inl ⟨⟨d,rfl⟩,false,by simpa [Value.cells] using hj.symm⟩))⟩
 | 3=>exact ⟨t,rfl,.inr (.inr (.inr ⟨⟨l2,eWs.mono (fun _ _ _=>trivial) h2⟩,by simpa [Value.cells] using hj.symm⟩))⟩
 | j+4=>simp [Value.cells] at hj
end Go.Kx
namespace Go.Proofs.YtggegpiffjbngaaGreat
open Go Go.Kx Go.RowKit
theorem Am6:Ent Tryz.prog 23:=A0 Tryz.func23 (by kernel_rfl) rfl
set_option maxRecDepth 8000 in
theorem Al3 {S:Nat->Prop} {w:World} {v:Value} {rows:List (List Unit)} (h:eMs.R S w v rows):Calls Tryz.prog 23 #[v] w fun e w'=>∃ u,e=.returned u/\Chg S w w':=by
 obtain ⟨_,_,_,_,hrl⟩:=RL.len h
 refine enterG Tryz.func23 O Tryz.ntmps23 O (.beg (.goC O ?_))
 refine .lp (α:=Nat) [0] O (fun i=>[(2,.int .i64 (i:Nat))]) (fun i W=>Chg S w W/\eMs.R S W v rows/\i<=rows.length) (fun i=>rows.length-i) 0 (lc1 O) ⟨Chg.refl _,h,Nat.zero_le _⟩ ?_
 rintro i W ⟨hC,hM,hi⟩
 refine .go O (.lenR un_M O O hM ?_)
 rcases Nat.lt_or_ge i rows.length with hlt | hge
 rotate_left
 ·exact .lssF O O O (by omega) (.goE O (.plain [] Tryz.results23 trivial hC))
 have hgi:rows[i]?=some (rows.getD i []):=A6 hlt
 generalize rows.getD i []=row at hgi
 have hrow:row.length<=9223372036854775807:=by
  obtain ⟨_,_,_,_,_,hr⟩:=eMs.loc hM hgi
  obtain ⟨_,_,_,_,hl⟩:=RL.len hr
  exact hl
 refine .lssT O O O (by omega) (.goC O ?_)
 refine .lp (α:=Nat) [0,2] O (fun k=>[(3,.int .i64 (k:Nat))]) (fun k W=>Chg S w W/\eMs.R S W v rows/\k<=row.length) (fun k=>row.length-k) 0 (lc1 O) ⟨hC,hM,Nat.zero_le _⟩ ?_
 clear hC hM
 rintro k W ⟨hC,hM,hk⟩
 obtain ⟨ad,cm,vr,hv,hvr,hr⟩:=eMs.loc hM hgi
 refine .go O (.vl O O (X4 un_M ty_V (congrArg some hv) O hlt) ?_)
 refine .vl O O (AB0 ty_V O hvr) (.lenR un_V O O hr ?_)
 rcases Nat.lt_or_ge k row.length with hltk | hgek
 rotate_left
 ·exact .lssF O O O (by omega) (.go O (.inc O O O (by omega) (.goN O (.mk (i+1) O (lc1 O) ⟨⟨hC,hM,hlt⟩,by show rows.length-(i+1)<rows.length-i;omega⟩))))
 have hgk:row[k]?=some ():=List.getElem?_eq_getElem hltk
 refine .lssT O O O (by omega) (.goC O ?_)
 clear hv hvr hr
 refine .lp (α:=Nat) [0,2,3] O (fun j=>[(4,.int .i64 (j:Nat))]) (fun j W=>Chg S w W/\eMs.R S W v rows/\j<=9223372036854775807) (fun j=>9223372036854775807-j) 0 (lc1 O) ⟨hC,hM,Nat.zero_le _⟩ ?_
 clear hC hM
 rintro j W ⟨hC,hM,hj⟩
 have hM0:=hM
 obtain ⟨ad,cm,vr,hv,hvr,hr⟩:=eMs.loc hM hgi
 obtain ⟨ad2,cr,sv,tv,l1,l2,rfl,hq,hsc,hs,htc,ht⟩:=eVs.loc hr hgk
 obtain ⟨asl,csl,hsv,_,hsl⟩:=RL.len hs
 refine .go O (.vl O O (X4 un_M ty_V (congrArg some hv) O hlt) (.vl O O (AB0 ty_V O hvr) (.go O (.vl O O (X4 un_V ty_Q O O hltk) (.faP O7 O O (.faP E0 O O (.vl O O (AB0 ty_W O hsc) (.lenR un_W O O hs ?_))))))))
 rcases Nat.lt_or_ge j l1.length with hltj | hgej
 ·have hgj:l1[j]?=some ():=List.getElem?_eq_getElem hltj
  refine .lssT O O O (by omega) (.go O (.vl O O (X4 un_M ty_V (congrArg some hv) O hlt) (.vl O O (AB0 ty_V O hvr) (.go O (.vl O O (X4 un_V ty_Q O O hltk) (.faP O7 O O (.faP E0 O O (.vl O O (AB0 ty_W O hsc) (.go O (.ixL (i:=j) un_W A7 O O hs O hgj fun p3 hp3=>?_))))))))))
  refine .stL A7 O O O hp3 BJ1 (by simp [Value.cells,one1]) fun W3 hsim hchg=>?_
  exact .go O (.inc O O O (by omega) (.goN O (.mk (j+1) O (lc1 O) ⟨⟨hC.trans hchg,eMs.sim hM0 hsim,by show j+1<=_;omega⟩,by show 9223372036854775807-(j+1)<9223372036854775807-j;omega⟩)))
 refine .lssF O O O (by omega) (.goC O ?_)
 clear hj hgej hv hvr hr hq hsc hs htc ht hsv hsl hM0
 refine .lp (α:=Nat) [0,2,3] O (fun j=>[(5,.int .i64 (j:Nat))]) (fun j W=>Chg S w W/\eMs.R S W v rows/\j<=9223372036854775807) (fun j=>9223372036854775807-j) 0 (lc1 O) ⟨hC,hM,Nat.zero_le _⟩ ?_
 clear hC hM
 rintro j W ⟨hC,hM,hj⟩
 have hM0:=hM
 obtain ⟨ad,cm,vr,hv,hvr,hr⟩:=eMs.loc hM hgi
 obtain ⟨ad2,cr,sv,tv,l1,l2,rfl,hq,hsc,hs,htc,ht⟩:=eVs.loc hr hgk
 obtain ⟨asl,csl,hsv,_,hsl⟩:=RL.len ht
 refine .go O (.vl O O (X4 un_M ty_V (congrArg some hv) O hlt) (.vl O O (AB0 ty_V O hvr) (.go O (.vl O O (X4 un_V ty_Q O O hltk) (.faP O6 O O (.faP E0 O O (.vl O O (AB0 ty_W O htc) (.lenR un_W O O ht ?_))))))))
 rcases Nat.lt_or_ge j l2.length with hltj | hgej
 ·have hgj:l2[j]?=some ():=List.getElem?_eq_getElem hltj
  refine .lssT O O O (by omega) (.go O (.vl O O (X4 un_M ty_V (congrArg some hv) O hlt) (.vl O O (AB0 ty_V O hvr) (.go O (.vl O O (X4 un_V ty_Q O O hltk) (.faP O6 O O (.faP E0 O O (.vl O O (AB0 ty_W O htc) (.go O (.ixL (i:=j) un_W A7 O O ht O hgj fun p3 hp3=>?_))))))))))
  refine .stL A7 O O O hp3 BJ1 (by simp [Value.cells,one1]) fun W3 hsim hchg=>?_
  exact .go O (.inc O O O (by omega) (.goN O (.mk (j+1) O (lc1 O) ⟨⟨hC.trans hchg,eMs.sim hM0 hsim,by show j+1<=_;omega⟩,by show 9223372036854775807-(j+1)<9223372036854775807-j;omega⟩)))
 refine .lssF O O O (by omega) (.go O ?_)
 refine .vl O O (X4 un_M ty_V (congrArg some hv) O hlt) (.vl O O (AB0 ty_V O hvr) (.go O (.bld _ O O S8 (.vl O O (X4 un_V ty_Q O O hltk) ?_))))
 refine .stL (u:=zq) ty_Q O O O hq kd_rat (by simp [Value.cells,one1]) fun W3 hsim hchg=>?_
 exact .go O (.inc O O O (by omega) (.goN O (.mk (k+1) O (lc1 O) ⟨⟨hC.trans hchg,eMs.sim hM0 hsim,hltk⟩,by show row.length-(k+1)<row.length-k;omega⟩)))
set_option maxRecDepth 8000 in
theorem AN5 {w:World} {vn vo vx:Value} {n:NtV} {o:List Int} {x:List QV} (hn:eN.R (fun _=>True) w vn n) (ho:eI.R (fun _=>True) w vo o) (hx:eV.R (fun _=>True) w vx x):CR Tryz.prog 5 #[vn,vo,vx] w (Is (.bool true)):=by
 obtain ⟨s,rfl,hs,hb⟩:=hn
 have hn:eN.R (fun _=>True) w (.agg #[.int .i64 n.b,s]) n:=⟨s,rfl,hs,hb⟩
 obtain ⟨ax,cx,hvx,_,hxl⟩:=RL.len hx
 refine enter Tryz.func5 O Tryz.ntmps5 O (.beg (.go O (.box O O fun w1 b3 n1=>?_)))
 obtain ⟨e1,k3,hb3,hs1⟩:=n1
 refine .go O (.ldA ty_N O O k3 O (.go O (.bsl _ O O (by rw [hvx];exact Ai9) fun w2 b17 n2=>?_)))
 have hl:eM.R (fun _=>True) w2 (.slice (some ⟨b17,0,none⟩) 1 1) [x]:=BE8 [vx] [x] n2 upT (by rw [hvx]) O (by decide) (Els.snoc Els.nil (ER.ext eV hx e1))
 have x2:=e1.trans n2.1
 refine .call _ O Au0 O (Ar7 (hn.ext x2) (ho.ext x2) hl) fun v3 w3 e3 h3=>?_
 obtain ⟨bl,rfl,hlong⟩:=h3
 have x3:=x2.trans e3
 clear hl
 cases bl with
 | true =>
  refine .go O (.call _ O AP0 O AO4 fun v4 w4 e4 h4=>?_)
  subst h4
  exact .goE O (.plain [_] Tryz.results5 ⟨rfl,trivial⟩ ⟨x3.trans e4,rfl⟩)
 | false =>
 have k3:=k3.ext (n2.1.trans e3)
 have hk:vk 4 x:=(hlong O x (by simp)).vk hx
 have hx20:x.length<=20:=(hlong O x (by simp)).1
 have hqk:∀ q∈x,qok 1000000000 q:=fun q hq=>((hlong O x (by simp)).2 q hq).mono (by decide)
 refine .go O (.ldA ty_N O O k3 O (.go O ?_))
 refine .call _ O AF6 O (AE5 (L:=4) upT (hn.ext x3) (ho.ext x3) (ER.ext eV hx x3) hk (by decide) (by decide)) fun v4 w4 e4 h4=>?_
 obtain ⟨vb,ve,rfl,rfl,rfl⟩:=h4
 have x4:=x3.trans e4
 have k3:=k3.ext e4
 refine .go O (.ldA ty_N O O k3 O (.go O ?_))
 refine .call _ O AL3 O (AJ6 (L:=4) upT (hn.ext x4) (ho.ext x4) (ER.ext eV hx x4) hk (by decide) (by decide)) fun v5 w5 e5 h5=>?_
 obtain ⟨va,ve,rfl,han,rfl⟩:=h5
 have x5:=x4.trans e5
 have k3:=k3.ext e5
 refine .go O (.ldA ty_N O O k3 O (.go O ?_))
 refine .call _ O Am0 O (Ak7 (L:=4) upT (hn.ext x5) (ho.ext x5) (ER.ext eV hx x5) hk (by decide) (by decide)) fun v6 w6 e6 h6=>?_
 obtain ⟨vf,ve,rfl,hfl,rfl⟩:=h6
 have x6:=x5.trans e6
 have k3:=k3.ext e6
 refine .go O (.call _ O BB2 O (Ax4 upT (ER.ext eV hx x6) hqk (by omega)) fun vi w7 e7 hi=>?_)
 have x7:=x6.trans e7
 have k3:=k3.ext e7
 have han:=ER.ext eV han (e6.trans e7)
 have hfl:=ER.ext eV hfl e7
 have hn7:=hn.ext x7
 have ho7:=ho.ext x7
 have hx7:=ER.ext eV hx x7
 refine .goC O ?_
 refine .lp (α:=Nat) [1,2,3,7,8,9,10,11,12,13] O (fun r=>[(14,.int .i64 (r:Nat))]) (fun r W=>Ext w7 W/\r<=2) (fun r=>2-r) 0 (lc1 O) ⟨Ext.refl _,Nat.zero_le _⟩ ?_
 rintro r W ⟨hW,hr⟩
 have zW:=hW.size
 refine .go O ?_
 rcases Nat.lt_or_ge r 2 with hlt | hge
 rotate_left
 ·refine .lssF O O O (by omega) (.go O (.call _ O AP0 O AO4 fun v8 w8 e8 h8=>?_))
  subst h8
  exact .goE O (.plain [_] Tryz.results5 ⟨rfl,trivial⟩ ⟨(x7.trans hW).trans e8,rfl⟩)
 refine .lssT O O O (by omega) (.go O (.ldA ty_N O O (k3.ext hW) O (.go O ?_)))
 refine .call _ O AI5 O (AI3 (L:=4) upT (hn7.ext hW) (ho7.ext hW) (ER.ext eV hi hW) hk (by decide) (by decide)) fun v8 W1 d1 h8=>?_
 obtain ⟨vb2,ve,rfl,rfl,rfl⟩:=h8
 have hW1:=hW.trans d1
 refine .go O (.ldA ty_N O O (k3.ext hW1) O (.go O ?_))
 refine .call _ O AD9 O (AO6 (S:=fun _=>True) (T0:=fun k=>w7.heap.size<=k) (L:=4) upT (fun k hk=>by have:=hW1.size;omega) (hn7.ext hW1) (ho7.ext hW1) (ER.ext eV hi hW1) hk (by decide) (by decide)) fun v9 W2 d2 h9=>?_
 obtain ⟨va2,ve,rfl,ha2,rfl⟩:=h9
 have hW2:=hW1.trans d2
 refine .go O (.ldA ty_N O O (k3.ext hW2) O (.go O ?_))
 refine .call _ O AH8 O (AU7 (S:=fun _=>True) (T0:=fun k=>w7.heap.size<=k) (L:=4) upT (fun k hk=>by have:=hW2.size;omega) (hn7.ext hW2) (ho7.ext hW2) (ER.ext eV hi hW2) hk (by decide) (by decide)) fun v10 W3 d3 h10=>?_
 obtain ⟨vf2,ve,rfl,hf2,rfl⟩:=h10
 have hW3:=hW2.trans d3
 have ha3:=ER.ext eV ha2 d3
 refine .go O (.neqB T7 O O O ?_)
 rw [bne_self_eq_false]
 refine .go O (.neqF O O O O (.go O (.neqF O O O O (.go O (.neqF O O O O (.go O ?_))))))
 refine .call _ O AA5 O (Ax8 (eV.mono (fun _ _ _=>trivial) ha3) (ER.ext eV han hW3) O) fun v11 W4 d4 h11=>?_
 subst h11
 refine .go O (.call _ O AA5 O (Ax8 (ER.ext eV (eV.mono (fun _ _ _=>trivial) hf2) d4) (ER.ext eV hfl (hW3.trans d4)) O) fun v12 W5 d5 h12=>?_)
 subst h12
 have dd:=d4.trans d5
 have hW5:=hW3.trans dd
 refine .go O (.call _ O AA5 O (Ax8 (ER.ext eV hi hW5) (ER.ext eV hx7 hW5) O) fun v13 W6 d6 h13=>?_)
 subst h13
 have d36:=dd.trans d6
 have hW6:=hW5.trans d6
 have ha6:=ER.ext eV ha3 d36
 have hf6:=ER.ext eV hf2 d36
 obtain ⟨_,_,hva,_,_⟩:=RL.len ha6
 obtain ⟨_,_,hvf,_,_⟩:=RL.len hf6
 refine .go O (.bsl _ O O (by rw [hva,hvf];exact bsl_M2) fun W9 b9 n9=>?_)
 have hbc:eM.R (fun k=>w7.heap.size<=k) W9 (.slice (some ⟨b9,0,none⟩) 2 2) [_,_]:=BE8 [va2,vf2] [_,_] n9 (fun k hk=>by have:=hW6.size;omega) (by rw [hva,hvf]) O (by decide) (Els.snoc (Els.snoc Els.nil ha6) hf6)
 have hW9:=hW6.trans n9.1
 refine .go O (.callG _ O Am6 O (Al3 (eM.shape hbc)) fun v16 W10 hC10=>?_)
 have hW10:Ext w7 W10:=Chg.below hC10 hW9 hW9.size fun k hk=>hk
 exact .go O (.inc O O O (by omega) (.goN O (.mk (r+1) O (lc1 O) ⟨⟨hW10,hlt⟩,by show 2-(r+1)<2-r;omega⟩)))
end Go.Proofs.YtggegpiffjbngaaGreat
namespace Go.Kx
open Go Go.RowKit Go.ChangeShapes Go.WideShapes
section
variable {H:Type} {enc:TypeId×Value->H} {P:Program} {W:World}
def sh4 (P:Program) (t:TypeId):Option (List (TypeId×Nat)) :=
 match P.underlying t with
 | some (.struct fs)=>if fs.size=4 then some (fs.toList.map fun f=>(f.type,f.offset)) else none
 | _=>none
theorem BS9 {t ti tj:TypeId} (hs:sh4 P t=some [(ti,0),(ti,1),(tj,2),(tj,3)]) (hi:P.underlying ti=some (.int .i64)) (hj:P.underlying tj=some (.int .i64)) (hci:P.cellsOf ti=1) (hcj:P.cellsOf tj=1) (hct:P.cellsOf t=4):Opn enc P W eL t (fun _ _=>True):=by
 intro fuel cs x hx hfz
 unfold sh4 at hs
 split at hs
 ·rename_i fs hu
  split at hs
  ·rename_i hsz
   simp only [Option.some.injEq] at hs
   obtain ⟨l⟩:=fs
   match l,hsz with
   | [f0,f1,f2,f3],_ =>
    simp only [List.map_cons,List.map_nil,List.cons.injEq,Prod.mk.injEq,and_true] at hs
    obtain ⟨⟨h0,o0⟩,⟨h1,o1⟩,⟨h2,o2⟩,h3,o3⟩:=hs
    obtain ⟨y0,y1,y2,y3,n,rfl,hl,g0,g1,g2,g3⟩:=Joins.trod_struct4 hu hx
    rw [h0,o0,hci] at g0
    rw [h1,o1,hci] at g1
    rw [h2,o2,hcj] at g2
    rw [h3,o3,hcj] at g3
    rw [hct] at hl
    obtain ⟨c0,c1,c2,c3,rfl⟩:∃ c0 c1 c2 c3,cs=[c0,c1,c2,c3]:=by
     match cs,hl with
     | [c0,c1,c2,c3],_=>exact ⟨c0,c1,c2,c3,rfl⟩
    obtain ⟨n0,e0,_,w0⟩:=DataW.trod_int hi g0
    obtain ⟨n1,e1,_,w1⟩:=DataW.trod_int hi g1
    obtain ⟨n2,e2,_,w2⟩:=DataW.trod_int hj g2
    obtain ⟨n3,e3,_,w3⟩:=DataW.trod_int hj g3
    simp at e0 e1 e2 e3
    subst e0 e1 e2 e3
    exact ⟨.agg #[.int .i64 n0,.int .i64 n1,.int .i64 n2,.int .i64 n3],⟨n0,n1,n2,n3⟩,rfl,⟨rfl,Ae3 w0,Ae3 w1,Ae3 w2,Ae3 w3⟩,trivial⟩
  ·cases hs
 ·cases hs
theorem opn_N {t ti tl te:TypeId} (hs:sh2 P t=some ((ti,0),(tl,1))) (hi:P.underlying ti=some (.int .i64)) (hci:P.cellsOf ti=1) (hcl:P.cellsOf tl=1) (hct:P.cellsOf t=2) (hl:P.underlying tl=some (.slice te)) (hce:P.cellsOf te=4) (he:Opn enc P W eL te (fun _ _=>True)):Opn enc P W eN t (fun _ _=>True):=by
 intro fuel cs x hx hfz
 obtain ⟨y0,y1,n,rfl,hlen,h0,h1⟩:=Af9 hs hx
 rw [hci] at h0
 rw [hcl] at h1
 rw [hct] at hlen
 obtain ⟨c0,c1,rfl⟩:∃ c0 c1,cs=[c0,c1]:=by
  match cs,hlen with
  | [c0,c1],_=>exact ⟨c0,c1,rfl⟩
 obtain ⟨b,hb',_,hw⟩:=DataW.trod_int hi h0
 simp at hb'
 subst hb'
 obtain ⟨e,l,he',hR,_⟩:=(Opn.slice (Z:=fun _ _=>True) (E:=eL) (by decide) hl hce he) n _ _ h1 hfz.right
 obtain ⟨a,c,rfl,_⟩:=RL.len hR
 simp [Value.cells] at he'
 subst he'
 exact ⟨.agg #[.int .i64 b,.slice a l.length c],⟨b,l⟩,rfl,⟨_,rfl,hR,Ae3 hw⟩,trivial⟩
end
end Go.Kx
namespace Go.Proofs.YtggegpiffjbngaaGreat
open Go Go.Kx Go.RowKit
section
variable {H:Type} {enc:TypeId×Value->H} {W:World}
theorem opnN:Opn enc Tryz.prog W eN 24 (fun _ _=>True):=opn_N (ti:=3) (tl:=22) (te:=58) (by kernel_rfl) AG2 (by kernel_rfl) (by kernel_rfl) (by kernel_rfl) K2 (by kernel_rfl) (BS9 (ti:=3) (tj:=2) (by kernel_rfl) AG2 Af4 (by kernel_rfl) (by kernel_rfl) (by kernel_rfl))
theorem opnH:Opn enc Tryz.prog W eI 25 (ZL fun _ _=>True):=Opn.slice (by decide) un_I (by kernel_rfl) (opn_int AG2)
end
end Go.Proofs.YtggegpiffjbngaaGreat
