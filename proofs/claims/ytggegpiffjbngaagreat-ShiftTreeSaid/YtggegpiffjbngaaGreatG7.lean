/-
  What the claim leans on.
-/
import Derived.Test.YtggegpiffjbngaaGreatG6
import Derived.Lib.SmallJoins
set_option linter.unusedVariables false
namespace Go.Kx
open Go Go.RowKit
theorem Nw.th_cand {n:Nw} (ok:n.Ok) (hB:1<=n.B) (cand:Nat->Nat->Rat) (h:∀ b,b<n.B->∀ i,i<n.B->(if n.root i=i then cand b i else n.lap (cand b) i)=dl i b) {b c:Nat} (hb:b<n.B) (hc:c<n.B):n.th b c=cand b c :=
 Nw.uniq ok (fun i hi=>by
  have h1:=Go.Proofs.YtggegpiffjbngaaGreat.Ar4 ok hB hb hi
  have h2:=h b hb i hi
  split
  ·rw [if_pos (by assumption)] at h1 h2;rw [h1,h2]
  ·rw [if_neg (by assumption)] at h1 h2;rw [h1,h2]) c hc
theorem Nw.hf_cand {n:Nw} (ok:n.Ok) (hB:1<=n.B) (cand:Nat->Nat->Rat) (h:∀ b,b<n.B->∀ i,i<n.B->(if n.root i=i then cand b i else n.lap (cand b) i)=dl i b) {k b:Nat} (hk:k<n.M) (hb:b<n.B):n.hf k b=n.fl (cand b) k:=by
 unfold Nw.hf Nw.fl
 rw [Nw.th_cand ok hB cand h hb (ok.f k hk),Nw.th_cand ok hB cand h hb (ok.t k hk)]
def net3:NtV:=⟨3,[⟨0,1,10,100⟩,⟨1,2,5,50⟩,⟨0,2,10,70⟩]⟩
def cand3 (b c:Nat):Rat:=if b=0 then 1 else if c=0 then 0 else if b=c then 6 else 4
def outsB (m:Nat) (o:List Int):Bool:=(List.range o.length).all fun i=>decide (0<=o.getD i 0) && decide (o.getD i 0<m) && (decide (i=0) || decide (o.getD (i-1) 0<o.getD i 0))
theorem BB7 {n:NtV} {o:List Int} (h:outsB n.ls.length o=true):outsOk n o:=by
 unfold outsB at h
 rw [List.all_eq_true] at h
 intro i hi
 have:=h i (List.mem_range.2 hi)
 simp only [Bool.and_eq_true,Bool.or_eq_true,decide_eq_true_eq] at this
 exact ⟨this.1.1,this.1.2,fun h0=>by rcases this.2 with h | h;omega;exact h⟩
def chkB (n:NtV):Bool:=decide (1<=n.b) && decide (n.b<=6) && decide (n.ls.length<=10) && n.ls.all fun l=>(List.range 5).all fun i=>ck i n.b l
theorem outE_of {n:NtV} {o:List Int} (h:chkB n=true) (ho:outsB n.ls.length o=true):outE n o=0:=by
 unfold chkB at h
 simp only [Bool.and_eq_true,decide_eq_true_eq,List.all_eq_true] at h
 obtain ⟨⟨⟨h1,h2⟩,h3⟩,h4⟩:=h
 have hc:chkE n=0:=by
  unfold chkE
  rw [if_neg (by omega),if_neg (by omega),if_pos]
  exact fun i _ l hl j hj=>h4 l (List.mem_iff_getElem?.2 ⟨i,hl⟩) j (List.mem_range.2 hj)
 unfold outE
 rw [if_neg (by simpa using hc),if_pos (BB7 ho)]
end Go.Kx
namespace Go.Proofs.YtggegpiffjbngaaGreat
open Go Go.Kx Go.RowKit
theorem un_II:Tryz.prog.underlying 47=some (.slice 25):=by kernel_rfl
theorem Ae8:Ent Tryz.prog 15:=A0 Tryz.func15 (by kernel_rfl) rfl
theorem Ad1 {S:Nat->Prop} {w:World} {vn vl:Value} {n:NtV} {l:List (List Int)} (hn:eN.R S w vn n) (hl:eII.R S w vl l):CR Tryz.prog 15 #[vn,vl] w (fun v _=>∃ b,v=.bool b):=by
 obtain ⟨s,rfl,hs,_⟩:=hn
 obtain ⟨_,_,_,_,hll⟩:=RL.len hl
 refine enter Tryz.func15 O Tryz.ntmps15 O ?_
 refine .sr (.box O O fun w1 b2 n1=>.an O O (.seq (.sr (.an O O ?_))))
 obtain ⟨e1,k2,_,_⟩:=n1
 have hl:=hl.ext e1
 refine .block (.loop (α:=Nat) (fun i=>[(1,vl),(2,.pointer (some ⟨b2,0,none⟩)),(5,.int .i64 (i:Nat))]) (fun i W=>W=w1/\i<=l.length) (fun i=>l.length-i) 0 ?_ ?_ ?_)
 ·exact lkA rfl
 ·exact ⟨rfl,Nat.zero_le _⟩
 rintro i W ⟨rfl,hi⟩
 refine .seq (.sr (.mv O O (.mv O O (.lenR un_II O O hl ?_))))
 rcases Nat.lt_or_ge i l.length with hlt | hge
 rotate_left
 ·refine .lssF O O O (by omega) (.nil (.condF O (.exit (.sr (.fa K8 O O (.ld Q8 O O k2 O (.lenR O9 O O (hs.ext e1) (.gtr O O O (.an O O (.ret ?_))))))))))
  exact .plain [_] Tryz.results15 ⟨rfl,trivial⟩ ⟨e1,_,rfl⟩
 refine .lssT O O O (by omega) (.nil (.condT O (.skip (.seq (.block (.sr (.mv O O (.mv O O (.ixN (i:=i) un_II ty_I O O hl O (List.getElem?_eq_getElem hlt) fun q hq=>.ldE (E:=eI) ty_I O O hq fun v hv=>.lenR un_I O O hv ?_)))))))))
 by_cases h:100<l[i].length
 ·refine .gtrT O O O (by omega) (.nil (.condT O (.sr (.an O O (.ret ?_)))))
  exact .plain [_] Tryz.results15 ⟨rfl,trivial⟩ ⟨e1,_,rfl⟩
 ·refine .gtrF O O O (by omega) (.nil (.condF O (.skip (.region (.mv O O (.add O O O (.an O O ?_)))))))
  rw [wI (by omega)]
  exact ⟨rfl,i+1,lkA rfl,⟨rfl,hlt⟩,by show l.length-(i+1)<l.length-i;omega⟩
theorem zero_N:zeroOf Tryz.prog 24=some (.agg #[.int .i64 0,.slice none 0 0]):=by kernel_rfl
theorem Ae1 {a b c d:Int}:bldOf Tryz.prog 58 [(0,.int .i64 a),(1,.int .i64 b),(2,.int .i64 c),(3,.int .i64 d)]=some #[.int .i64 a,.int .i64 b,.int .i64 c,.int .i64 d]:=by kernel_rfl
theorem bsl_Ls3 {a b c d a' b' c' d' a2 b2 c2 d2:Value}:bslOf Tryz.prog 22 3 [(0,.agg #[a,b,c,d]),(1,.agg #[a',b',c',d']),(2,.agg #[a2,b2,c2,d2])]=some (58,#[a,b,c,d,a',b',c',d',a2,b2,c2,d2]):=by kernel_rfl
theorem bld_N2 {b:Int} {a:Option Addr} {n c:Nat}:bldOf Tryz.prog 24 [(0,.int .i64 b),(1,.slice a n c)]=some #[.int .i64 b,.slice a n c]:=by kernel_rfl
theorem ln_R {S:Nat->Prop} {w:World} {a b c d:Int} (h:∀ x∈[a,b,c,d],-9223372036854775808<=x/\x<=9223372036854775807):eL.R S w (.agg #[.int .i64 a,.int .i64 b,.int .i64 c,.int .i64 d]) ⟨a,b,c,d⟩:=⟨rfl,I3.2 (h a (by simp)),I3.2 (h b (by simp)),I3.2 (h c (by simp)),I3.2 (h d (by simp))⟩
theorem AG6:Ent Tryz.prog 62:=A0 Tryz.func62 (by kernel_rfl) rfl
theorem AG0 {w:World}:CR Tryz.prog 62 #[] w (eN.at (fun _=>True) net3):=by
 refine enter Tryz.func62 O Tryz.ntmps62 O ?_
 refine .sr (.alloc O zero_N fun w1 b0 n1=>.nil (.sr (.bld _ O O Ae1 (.bld _ O O Ae1 (.bld _ O O Ae1 (.bsl _ O O bsl_Ls3 fun w2 b4 n2=>.bld _ O O bld_N2 ?_))))))
 obtain ⟨e1,k0,hb0,hs1⟩:=n1
 have hl:eLs.R (fun k=>k≠b0) w2 (.slice (some ⟨b4,0,none⟩) 3 3) net3.ls:=Ao4 (E:=eL) [_,_,_] net3.ls n2 (fun k hk=>by omega) O O (by decide) (Els.snoc (Els.snoc (Els.snoc Els.nil (ln_R (by decide))) (ln_R (by decide))) (ln_R (by decide)))
 have hn:eN.R (fun k=>k≠b0) w2 (.agg #[.int .i64 3,.slice (some ⟨b4,0,none⟩) 3 3]) net3:=⟨_,rfl,hl,I3.2 (by decide)⟩
 refine .storeA (E:=eN) ty_N O O (k0.ext n2.1) O O hn (fun h=>h O) fun w3 k3 u3 h3=>.nil (.ret ?_)
 exact .cell (E:=eN) Tryz.results62 O ty_N O O k3 h3 ⟨u3.below (e1.trans n2.1) (by omega),eN.mono (fun _ _ _=>trivial) h3⟩
theorem N1:Ent Tryz.prog 63:=A0 Tryz.func63 (by kernel_rfl) rfl
theorem M5 {w:World} {vl:Value} {l:List Int} (hl:eI.R (fun _=>True) w vl l) (hn:l.length<=1000) (hr:∀ x∈l,-9223372036854775808<=x/\x<=9223372036854775807):CR Tryz.prog 63 #[vl] w (eV.at (fun _=>True) (tab l.length fun k=>Rat.divInt (l.getD k 0) 5)):=by
 have hlW:∀ {W:World},Below w.heap.size w W->eI.R (fun k=>k<w.heap.size) W vl l:=fun h=>eI.keep (fun k c t f hk hh=>(h.block k hk).trans hh) (eI.mono (fun k _ h=>h.2) (ER.lt eI hl))
 refine enter Tryz.func63 O Tryz.ntmps63 O ?_
 refine .sr (.an O O (.sr (.an O O (.seq (.sr (.an O O ?_))))))
 generalize hG:(fun k=>qc (Rat.divInt (l.getD k 0) 5))=G
 refine .block (.loop (α:=Nat×Value) (fun y=>[(0,vl),(3,y.2),(4,.int .i64 (y.1:Nat))]) (fun y W=>Ext w W/\y.1<=l.length/\OwnL eQ 54 w.heap.size (fun _=>True) W y.2 ((List.range y.1).map G)) (fun y=>l.length-y.1) (0,.slice none 0 0) ?_ ?_ ?_)
 ·exact lkA rfl
 ·exact ⟨Ext.refl _,Nat.zero_le _,OwnL.nil⟩
 rintro ⟨i,v⟩ W ⟨hW,hi,hown⟩
 replace hW:Ext w W:=hW
 replace hi:i<=l.length:=hi
 replace hown:OwnL eQ 54 w.heap.size (fun _=>True) W v ((List.range i).map G):=hown
 refine .seq (.sr (.mv O O (.mv O O (.lenR un_L O O (hlW hW) ?_))))
 rcases Nat.lt_or_ge i l.length with hlt | hge
 rotate_left
 ·refine .lssF O O O (by omega) (.nil (.condF O (.exit (.sr (.mv O O (.an O O (.ret ?_)))))))
  have:i=l.length:=by omega
  subst this
  refine .plain [_] Tryz.results63 ⟨rfl,trivial⟩ ⟨hW,?_⟩
  have:=hown.toR (S:=fun _=>True) (hsz:=by decide) (fun _ _=>trivial) (fun _ h=>h)
  rw [<-hG] at this
  exact this
 have hg:l[i]?=some (l.getD i 0):=A8 hlt
 have hrx:=hr _ (List.mem_iff_getElem?.2 ⟨i,hg⟩)
 obtain ⟨es,ho1,_⟩:=id hown
 have upT':Up (fun k=>True/\v.ownBlock≠some k) W:=fun k hk=>⟨trivial,fun e=>by have:=(ho1.lt k e).2;omega⟩
 refine .lssT O O O (by omega) (.nil (.condT O (.skip (.seq (.block (.region (.mv O O (.mv O O (.mv O O (.ixN (i:=i) un_L AB0 O O (hlW hW) O hg fun q hq=>.ldE (E:=eInt .i64) AB0 O O hq fun e he=>?_))))))))))
 obtain ⟨rfl,_⟩:=he
 refine .call _ O Ap5 O (Am6 upT' hrx (by decide)) fun v2 W2 e2 h2=>?_
 have h2':=h2
 obtain ⟨s2,t2,rfl,_,_⟩:=h2'
 refine .bsl _ O O Ao9 fun W4 b4 n4=>?_
 obtain ⟨e4,k4,hb4,hs4⟩:=n4
 have e24:=e2.trans e4
 have hW4:=hW.trans e24
 refine .gv O O (Z5 (E:=eQ) (base:=w.heap.size) (n:=G i) (by decide) un_V Z3 O O O (hown.ext e24) k4 (by rw [<-hG];exact h2.ext e4) (by simp;omega) (by decide) hW4.size) ?_
 rintro v5 W5 ⟨ho5,hg5⟩
 refine .an O O (.region (.mv O O (.add O O O (.an O O ?_))))
 rw [wI (by omega)]
 refine ⟨rfl,(i+1,v5),lkA rfl,⟨(hown.ext e24).below hg5 hW4 hW4.size,hlt,?_⟩,by show l.length-(i+1)<l.length-i;omega⟩
 show OwnL eQ 54 w.heap.size (fun _=>True) W5 v5 ((List.range (i+1)).map G)
 rw [List.range_succ,List.map_append]
 exact ho5
theorem Ae7:Ent Tryz.prog 49:=A0 Tryz.func49 (by kernel_rfl) rfl
theorem Ad0 {S:Nat->Prop} {w:World} {vn vo:Value} {n:NtV} {o:List Int} (up:Up S w) (hn:eN.R S w vn n) (ho:eI.R S w vo o) (hE:outE n o=0) :
  CR Tryz.prog 49 #[vn,vo] w (Two (eM.at S (tabM n.ls.length (nwOf n o).B (nwOf n o).hf)) (Is (.bool true))):=by
 obtain ⟨s,rfl,hs,hb⟩:=hn
 have hn:eN.R S w (.agg #[.int .i64 n.b,s]) n:=⟨s,rfl,hs,hb⟩
 have ok:=P2 hE
 have hM10:n.ls.length<=10:=ok.m
 have hnb:=ok.b
 refine enter Tryz.func49 O Tryz.ntmps49 O ?_
 refine .sr (.box O O fun w1 b2 n1=>.asg O O (.an O O ?_))
 obtain ⟨e1,k2,hb2,hs1⟩:=n1
 refine .sr (.ldA ty_N O O k2 O (.mv O O ?_))
 refine .call _ O Q2 O (P8 (up.ext e1.size) (hn.ext e1) (ho.ext e1)) fun v2 w2 e2 h2=>?_
 obtain ⟨vm,ve,rfl,hm,he⟩:=h2
 replace he:ve=.int .i64 (outE n o):=he
 subst he
 rw [if_pos hE] at hm
 have x2:=e1.trans e2
 have k2:=k2.ext e2
 refine .mv O O (.ext O O O (.ext O O O (.asg O O (.an O O (.seq (.sr (.mv O O (.neqF O O O hE (.mv O O (.gr O O O O (.mv O O (.gr O O O O (.lenR un_M O O hm (.gr O O O O (.fa K8 O O (.gr O O O O (.ld Q8 O O k2 O (.gr O O O O (.lenR O9 O O (hs.ext x2) (.gr O O O O ?_))))))))))))))))))))
 rw [A4]
 refine .neqF O O O O (.pick O O O (.nil (.condF O (.skip (.seq (.sr (.an O O ?_)))))))
 refine .block (.loop (α:=Nat) (fun i=>[(2,.pointer (some ⟨b2,0,none⟩)),(6,vm),(8,.int .i64 (i:Nat))]) (fun i W=>Ext w2 W/\i<=n.ls.length) (fun i=>n.ls.length-i) 0 ?_ ?_ ?_)
 ·exact lkA rfl
 ·exact ⟨Ext.refl _,Nat.zero_le _⟩
 rintro i W ⟨hW,hi⟩
 refine .seq (.sr (.mv O O (.mv O O (.lenR un_M O O (ER.ext eM hm hW) ?_))))
 rw [A4]
 rcases Nat.lt_or_ge i n.ls.length with hlt | hge
 rotate_left
 ·refine .lssF O O O (by omega) (.nil (.condF O (.exit (.sr (.mv O O (.asg O O (.an O O (.ret ?_))))))))
  exact .plain [_,_] Tryz.results49 ⟨rfl,rfl,trivial⟩ ⟨x2.trans hW,_,_,rfl,ER.ext eM hm hW,rfl⟩
 refine .lssT O O O (by omega) (.nil (.condT O (.skip (.seq (.block (.seq ?_))))))
 refine .par follows 7 [.inl _,.inl _,.inr (Ptr eV S (tab (nwOf n o).B ((nwOf n o).hf i))),.inr (eV.at S (tab (nwOf n o).B ((nwOf n o).hf i))),.inl (.int .i64 ((nwOf n o).B:Nat)),.inl _,.inl (.int .i64 ((nwOf n o).B:Nat))] [[],[],[(31,0),(32,1)],[(33,2)],[(34,3)],[],[(36,5)]] (by kernel_rfl) ⟨
  fun w e=>(v_mv O).ob,
  fun w e=>(v_mv O).ob,
  fun w e=>E5 (i:=i) un_M ty_V O (ER.ext eM hm (hW.trans e)) O (D5 hlt),
  fun w e x2 hx2=>T1 ty_V O hx2,
  fun w e x3 hx3=>((Az3 un_V O hx3).eq (by rw [A5])).ob,
  fun w e=>(v_fa Q1 O).ob,
  fun w e=>by rw [<-hnb];exact (v_ld A7 O ((k2.ext hW).ext e) O).ob,trivial⟩ ?_
 intro W1 f1 _ _ _ _
 refine .neqF O O O O (.nil (.condF O (.skip (.region (.mv O O (.add O O O (.an O O ?_)))))))
 rw [wI (by omega)]
 exact ⟨rfl,i+1,lkA rfl,⟨hW.trans f1,hlt⟩,by show n.ls.length-(i+1)<n.ls.length-i;omega⟩
theorem ok3:outE net3 []=0:=outE_of (by decide) (by decide)
theorem AX5:∀ b,b<(nwOf net3 []).B->∀ i,i<(nwOf net3 []).B->(if (nwOf net3 []).root i=i then cand3 b i else (nwOf net3 []).lap (cand3 b) i)=dl i b:=by
 have:∀ b,b<3->∀ i,i<3->(if (nwOf net3 []).root i=i then cand3 b i else (nwOf net3 []).lap (cand3 b) i)=dl i b:=by decide +kernel
 exact this
def want3:List (List Int):=[[0,-3,-2],[0,2,-2],[0,-2,-3]]
theorem hf3:tabM 3 3 (nwOf net3 []).hf=want3.map fun l=>tab l.length fun k=>Rat.divInt (l.getD k 0) 5:=by
 have ok:=P2 ok3
 have h1:tabM 3 3 (nwOf net3 []).hf=tabM 3 3 fun k b=>(nwOf net3 []).fl (cand3 b) k:=D6 fun k b hk hb=>Nw.hf_cand ok.ok ok.b1 cand3 AX5 hk hb
 have h2:∀ k,k<3->∀ b,b<3->(nwOf net3 []).fl (cand3 b) k=Rat.divInt ((want3.getD k []).getD b 0) 5:=by decide +kernel
 rw [h1,show tabM 3 3 (fun k b=>(nwOf net3 []).fl (cand3 b) k)=tabM 3 3 fun k b=>Rat.divInt ((want3.getD k []).getD b 0) 5 from D6 fun k b hk hb=>h2 k hk b hb]
 rfl
theorem bt3:btE net3 [] 1 2=0/\btV net3 [] 1 2=tab 3 fun k=>Rat.divInt (([-1,4,1]:List Int).getD k 0) 5:=by
 have ok:=P2 ok3
 have hc:conE net3 [] 1 2=0:=by unfold conE;rw [if_neg (by simpa using ok3),if_pos ⟨⟨by decide,by decide⟩,by decide,by decide⟩]
 have hb:conB net3 [] 1 2=true:=by unfold conB;exact decide_eq_true ⟨hc,by decide +kernel⟩
 refine ⟨by unfold btE;rw [if_neg (by simpa using hc),if_pos hb],?_⟩
 have h2:∀ k,k<3->(nwOf net3 []).fl (cand3 1) k-(nwOf net3 []).fl (cand3 2) k=Rat.divInt (([-1,4,1]:List Int).getD k 0) 5:=by decide +kernel
 unfold btV
 exact L0 fun k hk=>by
  rw [Nw.hf_cand ok.ok ok.b1 cand3 AX5 hk (by decide),Nw.hf_cand ok.ok ok.b1 cand3 AX5 hk (by decide)]
  exact h2 k hk
theorem bsl_M3 {a a' a2:Option Addr} {n c n' c' n2 c2:Nat}:bslOf Tryz.prog 28 3 [(0,.slice a n c),(1,.slice a' n' c'),(2,.slice a2 n2 c2)]=some (32,#[.slice a n c,.slice a' n' c',.slice a2 n2 c2]):=by kernel_rfl
theorem U5:Ent Tryz.prog 16:=A0 Tryz.func16 (by kernel_rfl) rfl
theorem T6 {w:World}:CR Tryz.prog 16 #[] w (Is (.bool true)):=by
 refine enter Tryz.func16 O Tryz.ntmps16 O ?_
 refine .sr (.an O O (.sr ?_))
 refine .call _ O AG6 O AG0 fun v1 w1 e1 h1=>?_
 refine .call _ O Q2 O (P8 (o:=[]) upT h1 RL.nil) fun v2 w2 e2 h2=>?_
 obtain ⟨vm,ve,rfl,hm,he⟩:=h2
 replace he:ve=.int .i64 0:=by rw [he,ok3]
 subst he
 rw [if_pos ok3] at hm
 replace hm:eM.R (fun _=>True) w2 vm (tabM 3 3 (nwOf net3 []).hf):=hm
 rw [hf3] at hm
 refine .mv O O (.ext O O O (.ext O O O (.asg O O (.an O O (.sr ?_)))))
 refine .call _ O AG6 O AG0 fun v3 w3 e3 h3=>?_
 refine .call _ O AS6 O (AS0 (o:=[]) (a:=1) (b:=2) upT h3 RL.nil) fun v4 w4 e4 h4=>?_
 obtain ⟨vf,ve,rfl,hf,he⟩:=h4
 replace he:ve=.int .i64 0:=by rw [he,bt3.1]
 subst he
 rw [if_pos bt3.1] at hf
 replace hf:eV.R (fun _=>True) w4 vf (btV net3 [] 1 2):=hf
 rw [bt3.2] at hf
 have y4:=e3.trans e4
 have x4:=(e1.trans e2).trans y4
 refine .mv O O (.ext O O O (.ext O O O (.asg O O (.an O O (.sr (.mv O O (.eqlT O O O O (.mv O O (.gr O O O O (.mv O O (.gr O O O O (.eqlT O O O O (.pick O O O (.mv O O (.gr O O O O (.mv O O (.gr O O O O ?_)))))))))))))))))
 refine .bsl _ O O Ad9 fun w5 b5 n5=>.gr O O O O ?_
 refine .call _ O N1 O (M5 (Ad5 [0,-3,-2] 3 n5 upT O O (by decide) (by decide)) (by decide) (by decide)) fun v6 w6 e6 h6=>.gr O O O O ?_
 refine .bsl _ O O Ad9 fun w7 b7 n7=>.gr O O O O ?_
 refine .call _ O N1 O (M5 (Ad5 [0,2,-2] 3 n7 upT O O (by decide) (by decide)) (by decide) (by decide)) fun v8 w8 e8 h8=>.gr O O O O ?_
 refine .bsl _ O O Ad9 fun w9 b9 n9=>.gr O O O O ?_
 refine .call _ O N1 O (M5 (Ad5 [0,-2,-3] 3 n9 upT O O (by decide) (by decide)) (by decide) (by decide)) fun v10 w10 e10 h10=>.gr O O O O ?_
 have e68:=n7.1.trans e8
 have e810:=n9.1.trans e10
 have h6:=ER.ext eV h6 (e68.trans e810)
 have h8:=ER.ext eV h8 e810
 obtain ⟨a6,c6,hv6,_⟩:=RL.len h6
 obtain ⟨a8,c8,hv8,_⟩:=RL.len h8
 obtain ⟨a10,c10,hv10,_⟩:=RL.len h10
 rw [A5] at hv6 hv8 hv10
 subst hv6 hv8 hv10
 refine .bsl _ O O bsl_M3 fun w11 b11 n11=>.gr O O O O ?_
 have y11:=(((n5.1.trans e6).trans e68).trans e810).trans n11.1
 have hw:eM.R (fun _=>True) w11 (.slice (some ⟨b11,0,none⟩) 3 3) (want3.map fun l=>tab l.length fun k=>Rat.divInt (l.getD k 0) 5):=BE1 [_,_,_] _ n11 upT O O (by decide) (Els.snoc (Els.snoc (Els.snoc Els.nil h6) h8) h10)
 refine .call _ O Ap4 O (isM_t (ER.ext eM hm (y4.trans y11)) hw O) fun v12 w12 e12 h12=>?_
 subst h12
 refine .pick O O O (.mv O O (.gr O O O O (.mv O O (.gr O O O O ?_))))
 refine .bsl _ O O Ad9 fun w13 b13 n13=>.gr O O O O ?_
 refine .call _ O N1 O (M5 (Ad5 [-1,4,1] 3 n13 upT O O (by decide) (by decide)) (by decide) (by decide)) fun v14 w14 e14 h14=>.gr O O O O ?_
 have y14:=(y11.trans e12).trans (n13.1.trans e14)
 refine .call _ O AX8 O (isV_t (ER.ext eV hf y14) h14 O) fun v15 w15 e15 h15=>?_
 subst h15
 refine .pick O O O (.an O O (.ret ?_))
 exact .plain [_] Tryz.results16 ⟨rfl,trivial⟩ ⟨(x4.trans y14).trans e15,rfl⟩
theorem bsl_II1 {a:Option Addr} {n c:Nat}:bslOf Tryz.prog 47 1 [(0,.slice a n c)]=some (25,#[.slice a n c]):=by kernel_rfl
theorem sgn0:sgnR 0=0:=by decide
section
variable {n:NtV} {o:List Int}
theorem Az9 (ok:nwOk n o) {k:Nat} (hk:k<n.ls.length):(nwOf n (pInts (inL n (pInts (trL n o))))).g k≠0<->k∈trL n o:=by
 rw [An0 (o:=o) hk fun h=>(AE2.1 h).2.1]
 by_cases h:k∈trL n o
 ·rw [if_pos h];exact ⟨fun _=>h,fun _=>(AE2.1 h).2.1⟩
 ·rw [if_neg h];exact ⟨fun h'=>absurd O h',fun h'=>absurd h' h⟩
theorem Ab5 (ok:nwOk n o) {k:Nat} (hk:k<n.ls.length):k∈trL n o<->(nwOf n o).trk k:=by
 rw [AE2,Z1]
 exact ⟨fun h=>h.2,fun h=>⟨⟨hk,fun h'=>h.1 ((ok.g0 hk).2 h')⟩,h⟩⟩
theorem Az8 (ok:nwOk n o) {k:Nat} (hk:k<=n.ls.length):(nwOf n (pInts (inL n (pInts (trL n o))))).rootTo k=(nwOf n o).rootTo k:=by
 rw [Nw.rootTo_congr (n:=(nwOf n o).forest) (m:=nwOf n (pInts (inL n (pInts (trL n o))))) O O k fun j hj=>?_,Nw.forest_rootTo]
 rw [An0 (o:=o) (by omega) fun h=>(AE2.1 h).2.1]
 show _=if (nwOf n o).trk j then (nwOf n o).g j else 0
 by_cases h:(nwOf n o).trk j
 ·rw [if_pos h,if_pos ((Ab5 ok (by omega)).2 h)]
 ·rw [if_neg h,if_neg fun h'=>h ((Ab5 ok (by omega)).1 h')]
theorem tre_trk (ok:nwOk n o) {k:Nat} (hk:k<n.ls.length) (hg:(nwOf n (pInts (inL n (pInts (trL n o))))).g k≠0):(nwOf n (pInts (inL n (pInts (trL n o))))).trk k:=by
 refine ⟨hg,?_⟩
 rw [Az8 ok (Nat.le_of_lt hk)]
 exact ((Ab5 ok hk).1 ((Az9 ok hk).1 hg)).2
theorem Ar3 (hO:outE n o=0) {k:Nat} (hk:k<n.ls.length) (h:k∈trL n o):(nwOf n (pInts (inL n (pInts (trL n o))))).brg k:=by
 have ok:=P2 hO
 have okm:=P2 (Ac4 (c:=trL n o) hO)
 exact Nw.trk_brg okm.ok (fun j hj hg=>tre_trk ok hj hg) hk ((Az9 ok hk).2 h)
theorem tre_brL (hO:outE n o=0):brL n (pInts (inL n (pInts (trL n o))))=trL n o:=by
 have ok:=P2 hO
 show (inL n (pInts (inL n (pInts (trL n o))))).filter _=(inL n o).filter _
 show ((List.range n.ls.length).filter _).filter _=((List.range n.ls.length).filter _).filter _
 rw [List.filter_filter,List.filter_filter]
 refine List.filter_congr fun k hk=>?_
 have hk:=List.mem_range.1 hk
 have h1:=AU8 (c:=trL n o) hk
 by_cases h:k∈trL n o
 ·have h2:=Z1.1 (AE2.1 h).1
  rw [decide_eq_true (Ar3 hO hk h),decide_eq_true (AE2.1 h).2,decide_eq_false (fun h'=>h1.1 h' h),decide_eq_false h2.2]
 ·have h3:¬ (k∉oN o/\(nwOf n o).trk k):=fun h'=>h ((Ab5 ok hk).2 h'.2)
  rw [decide_eq_true (h1.2 h)]
  by_cases h4:k∈oN o
  ·rw [decide_eq_true h4];simp
  ·rw [decide_eq_false fun h'=>h3 ⟨h4,h'⟩];simp
theorem tre_hf (hO:outE n o=0) {k b:Nat} (hk:k<n.ls.length) (hb:b<(nwOf n o).B):absR ((nwOf n (pInts (inL n (pInts (trL n o))))).hf k b)=0\/absR ((nwOf n (pInts (inL n (pInts (trL n o))))).hf k b)=1:=by
 have okm:=P2 (Ac4 (c:=trL n o) hO)
 by_cases hg:(nwOf n (pInts (inL n (pInts (trL n o))))).g k=0
 ·left
  unfold Nw.hf
  rw [Nw.fl_out hg];decide
 ·have h:=(Az9 (P2 hO) hk).1 hg
  rcases Nw.hf_brg okm.ok hk hg (Ar3 hO hk h) hb with h | h | h<;>rw [h]<;>decide
end
set_option maxRecDepth 8000 in
theorem AK6 {w:World} {vn vo:Value} {n:NtV} {o:List Int} (hn:eN.R (fun _=>True) w vn n) (ho:eI.R (fun _=>True) w vo o):CR Tryz.prog 8 #[vn,vo] w (Is (.bool true)):=by
 obtain ⟨s,rfl,hs,hb⟩:=hn
 have hn:eN.R (fun _=>True) w (.agg #[.int .i64 n.b,s]) n:=⟨s,rfl,hs,hb⟩
 obtain ⟨ao,co,hvo,_⟩:=RL.len ho
 refine enter Tryz.func8 O Tryz.ntmps8 O (.beg (.go O (.box O O fun w1 b2 n1=>?_)))
 obtain ⟨e1,k2,hb2,hs1⟩:=n1
 replace k2:Blk w1 b2 24 #[.int .i64 n.b,s]:=k2
 refine .go O (.ldA ty_N O O k2 O (.go O (.bsl _ O O (by rw [hvo];exact bsl_II1) fun w2 b17 n2=>?_)))
 have hl:eII.R (fun _=>True) w2 (.slice (some ⟨b17,0,none⟩) 1 1) [o]:=BE1 [vo] [o] n2 upT (by rw [hvo]) O (by decide) (Els.snoc Els.nil (ho.ext e1))
 have x2:=e1.trans n2.1
 refine .call _ O Ae8 O (Ad1 (hn.ext x2) hl) fun v3 w3 e3 h3=>?_
 obtain ⟨bl,rfl⟩:=h3
 have x3:=x2.trans e3
 have k2:=k2.ext (n2.1.trans e3)
 clear hl
 cases bl with
 | true =>
  refine .go O (.call _ O U5 O T6 fun v4 w4 e4 h4=>?_)
  subst h4
  exact .goE O (.plain [_] Tryz.results8 ⟨rfl,trivial⟩ ⟨x3.trans e4,rfl⟩)
 | false =>
 refine .go O (.call _ O U5 O T6 fun v4 w4 e4 h4=>?_)
 subst h4
 have x4:=x3.trans e4
 have k2:=k2.ext e4
 refine .go O (.ldA ty_N O O k2 O (.go O ?_))
 refine .call _ O AX9 O (AV1 (hn.ext x4) (ho.ext x4)) fun v5 w5 e5 h5=>?_
 subst h5
 have x5:=x4.trans e5
 have k2:=k2.ext e5
 refine .go O ?_
 by_cases hO:outE n o=0
 rotate_left
 ·refine .neqT O O O hO (.go O (.call _ O U5 O T6 fun v6 w6 e6 h6=>?_))
  subst h6
  exact .goE O (.plain [_] Tryz.results8 ⟨rfl,trivial⟩ ⟨x5.trans e6,rfl⟩)
 have ok:=P2 hO
 have hM10:n.ls.length<=10:=ok.m
 have hB6:=ok.b6
 have hnb:=ok.b
 refine .neqF O O O hO (.go O (.ldA ty_N O O k2 O (.go O ?_)))
 refine .call _ O E_Tree O (Tree_c upT (hn.ext x5) (ho.ext x5)) fun v6 w6 e6 h6=>?_
 obtain ⟨vl,ve,rfl,hl,he⟩:=h6
 rw [hO] at he hl
 replace he:ve=.int .i64 0:=he
 subst he
 rw [if_pos rfl] at hl
 have x6:=x5.trans e6
 have k2:=k2.ext e6
 have hOr:=Ac4 (c:=trL n o) hO
 have hbr:=tre_brL hO
 have hhf:=fun k b=>tre_hf (k:=k) (b:=b) hO
 have hRi:inL n (pInts (trL n o))=freeTo (trL n o) n.ls.length:=by unfold inL;rw [AV0]
 rw [hRi] at hOr hbr hhf
 have hll:(trL n o).length<=10:=Nat.le_trans (List.length_filter_le ..) (Nat.le_trans (Z4 n o) hM10)
 have hpl:(pInts (trL n o)).length=(trL n o).length:=by simp
 generalize hL:trL n o=L at hl hOr hbr hhf hll hpl
 clear hL hRi
 have hgl:∀ {k:Nat},k<L.length->(pInts L)[k]?=some ((L.getD k 0:Nat):Int):=fun {k} hk=>by
  unfold pInts
  rw [List.getElem?_map,A8 (z:=0) hk];rfl
 refine .go O (.neqF O O O O (.goC O ?_))
 refine .lp (α:=Nat×Value) [2,5] O (fun y=>[(7,y.2),(8,.int .i64 (y.1:Nat))]) (fun y W=>Ext w6 W/\y.1<=n.ls.length/\OwnL (eInt .i64) 3 w6.heap.size (fun _=>True) W y.2 (pInts (freeTo L y.1))) (fun y=>n.ls.length-y.1) (0,.slice none 0 0) (lc2 O O) ⟨Ext.refl _,Nat.zero_le _,OwnL.nil⟩ ?_
 rintro ⟨i,v⟩ W ⟨hW,hi,hown⟩
 replace hW:Ext w6 W:=hW
 replace hi:i<=n.ls.length:=hi
 replace hown:OwnL (eInt .i64) 3 w6.heap.size (fun _=>True) W v (pInts (freeTo L i)):=hown
 have xW:=x6.trans hW
 have k2:=k2.ext hW
 have hlW:=ER.ext eI hl hW
 have hfl:(freeTo L i).length<=i:=AN5 _ _
 refine .go O (.fa K8 O O (.go O (.ld Q8 O O k2 O (.go O (.lenR O9 O O (hs.ext xW) (.go O ?_))))))
 rcases Nat.lt_or_ge i n.ls.length with hlt | hge
 ·refine .lssT O O O (by omega) (.goC O ?_)
  refine .lp (α:=Nat×Bool) [2,5,7,8] O (fun y=>[(9,.bool y.2),(10,.int .i64 (y.1:Nat))]) (fun y W'=>Ext W W'/\y.1<=L.length/\y.2=decide (i∈L.take y.1)) (fun y=>L.length-y.1) (0,false) (lc2 O O) ⟨Ext.refl _,Nat.zero_le _,by simp⟩ ?_
  rintro ⟨k,b⟩ W1 ⟨hW1,hk,hin⟩
  replace hW1:Ext W W1:=hW1
  replace hk:k<=L.length:=hk
  replace hin:b=decide (i∈L.take k):=hin
  have hl1:=ER.ext eI hlW hW1
  refine .go O (.lenR un_I O O hl1 (.go O ?_))
  rw [hpl]
  rcases Nat.lt_or_ge k L.length with hklt | hkge
  ·have htk:∀ j,j∈L.take (k+1)<->j∈L.take k\/j=L.getD k 0:=fun j=>by
    rw [List.take_add_one,A8 (z:=0) hklt,List.mem_append];simp
   refine .lssT O O O (by omega) ?_
   cases b with
   | true =>
    have hin:=of_decide_eq_true hin.symm
    exact .go O (.inc O O O (by omega) (.goN O (.mk (k+1,true) O (lc2 O O) ⟨⟨hW1,hklt,(decide_eq_true ((htk i).2 (.inl hin))).symm⟩,by show L.length-(k+1)<L.length-k;omega⟩)))
   | false =>
    have hin:=of_decide_eq_false hin.symm
    refine .go O (.ixN (i:=k) un_I B4 O O hl1 O (hgl hklt) fun q hq=>.go O (.ldE (E:=eInt .i64) B4 O O hq fun e he=>.go O ?_))
    obtain ⟨rfl,_⟩:=he
    by_cases e:i=L.getD k 0
    ·exact .eqlT O O O (by omega) (.go O (.inc O O O (by omega) (.goN O (.mk (k+1,true) O (lc2 O O) ⟨⟨hW1,hklt,(decide_eq_true ((htk i).2 (.inr e))).symm⟩,by show L.length-(k+1)<L.length-k;omega⟩))))
    ·exact .eqlF O O O (by omega) (.go O (.inc O O O (by omega) (.goN O (.mk (k+1,false) O (lc2 O O) ⟨⟨hW1,hklt,(decide_eq_false (fun h=>((htk i).1 h).elim hin e)).symm⟩,by show L.length-(k+1)<L.length-k;omega⟩))))
  rw [List.take_of_length_le hkge] at hin
  have hfs:freeTo L (i+1)=freeTo L i++if b=true then [] else [i]:=by
   show (List.range (i+1)).filter _=(List.range i).filter _++_
   rw [List.range_succ,List.filter_append,hin]
   by_cases h:i∈L
   ·rw [List.filter_cons_of_neg (by simpa using h),if_pos (decide_eq_true h)];rfl
   ·rw [List.filter_cons_of_pos (by simpa using h),if_neg (by simpa using h)];rfl
  have hWW:=hW.trans hW1
  refine .lssF O O O (by omega) ?_
  cases b with
  | true =>
   rw [if_pos rfl,List.append_nil] at hfs
   refine .go O (.inc O O O (by omega) (.goN O (.mk (i+1,v) O (lc2 O O) ⟨⟨hWW,hlt,?_⟩,by show n.ls.length-(i+1)<n.ls.length-i;omega⟩)))
   show OwnL (eInt .i64) 3 w6.heap.size (fun _=>True) W1 v (pInts (freeTo L (i+1)))
   rw [hfs]
   exact hown.ext hW1
  | false =>
   rw [if_neg (by decide)] at hfs
   refine .go O (.bsl _ O O AI6 fun W7 b7 n7=>?_)
   obtain ⟨d7,k7,hb7,hs7⟩:=n7
   have d17:=hW1.trans d7
   have hW7:=hW.trans d17
   refine .gv O O (Z5 (E:=eInt .i64) (base:=w6.heap.size) (n:=((i:Nat):Int)) (e:=.int .i64 (i:Nat)) (by decide) un_I T7 O O O (hown.ext d17) k7 ⟨rfl,I3.2 (by omega)⟩ (by simp;omega) (by decide) hW7.size) ?_
   rintro v8 W8 ⟨ho8,hg8⟩
   have hW8:Ext w6 W8:=OwnL.below (hown.ext d17) hg8 hW7 hW7.size
   refine .go O (.inc O O O (by omega) (.goN O (.mk (i+1,v8) O (lc2 O O) ⟨⟨hW8,hlt,?_⟩,by show n.ls.length-(i+1)<n.ls.length-i;omega⟩)))
   show OwnL (eInt .i64) 3 w6.heap.size (fun _=>True) W8 v8 (pInts (freeTo L (i+1)))
   rw [hfs]
   unfold pInts
   rw [List.map_append]
   exact ho8
 have:i=n.ls.length:=by omega
 subst this
 have hr:eI.R (fun _=>True) W v (pInts (freeTo L n.ls.length)):=hown.toR (fun _ _=>trivial) (fun _ h=>h)
 generalize pInts (freeTo L n.ls.length)=R at hr hOr hbr hhf
 clear hown
 have okr:=P2 hOr
 refine .lssF O O O (by omega) (.go O (.ldA ty_N O O k2 O (.go O ?_)))
 refine .call _ O Ae7 O (Ad0 upT (hn.ext xW) hr hOr) fun v7 w7 e7 h7=>?_
 obtain ⟨vm,vt,rfl,hm,rfl⟩:=h7
 have x7:=xW.trans e7
 have k2:=k2.ext e7
 refine .go O (.ldA ty_N O O k2 O (.go O ?_))
 refine .call _ O Ay2 O (Ay5 upT (hn.ext x7) (ER.ext eI hr e7)) fun v8 w8 e8 h8=>?_
 obtain ⟨vb,ve,rfl,hbs,he⟩:=h8
 rw [hOr] at he hbs
 replace he:ve=.int .i64 0:=he
 subst he
 rw [if_pos rfl,hbr] at hbs
 have x8:=x7.trans e8
 have hm:eM.R (fun _=>True) w8 vm (tabM n.ls.length (nwOf n o).B (nwOf n R).hf):=ER.ext eM hm e8
 refine .go O (.neqF O O O O (.go O (.lenR un_I O O hbs (.go O (.lenR un_I O O (ER.ext eI hlW (e7.trans e8)) (.go O ?_))))))
 refine .neqF O O O O (.goC O ?_)
 refine .lp (α:=Nat) [11] O (fun i=>[(15,.int .i64 (i:Nat))]) (fun i W=>Ext w8 W/\i<=n.ls.length) (fun i=>n.ls.length-i) 0 (lc1 O) ⟨Ext.refl _,Nat.zero_le _⟩ ?_
 rintro i W1 ⟨hW1,hi⟩
 replace hW1:Ext w8 W1:=hW1
 replace hi:i<=n.ls.length:=hi
 have hm1:=ER.ext eM hm hW1
 refine .go O (.lenR un_M O O hm1 (.go O ?_))
 rw [A4]
 rcases Nat.lt_or_ge i n.ls.length with hlt | hge
 rotate_left
 ·exact .lssF O O O (by omega) (.goE O (.plain [_] Tryz.results8 ⟨rfl,trivial⟩ ⟨x8.trans hW1,rfl⟩))
 have hrow:(tabM n.ls.length (nwOf n o).B (nwOf n R).hf)[i]?=some (tab (nwOf n o).B ((nwOf n R).hf i)):=D5 hlt
 refine .lssT O O O (by omega) (.goC O ?_)
 refine .lp (α:=Nat) [11,15] O (fun b=>[(16,.int .i64 (b:Nat))]) (fun b W'=>Ext W1 W'/\b<=(nwOf n o).B) (fun b=>(nwOf n o).B-b) 0 (lc1 O) ⟨Ext.refl _,Nat.zero_le _⟩ ?_
 rintro b W2 ⟨hW2,hbl⟩
 replace hW2:Ext W1 W2:=hW2
 replace hbl:b<=(nwOf n o).B:=hbl
 have hm2:=ER.ext eM hm1 hW2
 refine .go O (.ixN (i:=i) un_M ty_V O O hm2 O hrow fun q hq=>.ldE (E:=eV) ty_V O O hq fun vr hvr=>.lenR un_V O O hvr (.go O ?_))
 rw [A5]
 rcases Nat.lt_or_ge b (nwOf n o).B with hbt | hbge
 rotate_left
 ·exact .lssF O O O (by omega) (.go O (.inc O O O (by omega) (.goN O (.mk (i+1) O (lc1 O) ⟨⟨hW1.trans hW2,hlt⟩,by show n.ls.length-(i+1)<n.ls.length-i;omega⟩))))
 have hcell:(tab (nwOf n o).B ((nwOf n R).hf i))[b]?=some (qc ((nwOf n R).hf i b)):=I0 hbt
 refine .lssT O O O (by omega) (.go O (.ixN (i:=i) un_M ty_V O O hm2 O hrow fun q2 hq2=>.ldE (E:=eV) ty_V O O hq2 fun vr2 hvr2=>.go O (.ixN (i:=b) un_V ty_Q O O hvr2 O hcell fun q3 hq3=>.ldE (E:=eQ) ty_Q O O hq3 fun vq hvq=>?_)))
 refine .call _ O Aq0 O (Ao2 (L:=174764) upT hvq (AF8 (An4 okr i b)) (by decide) (by decide)) fun va W3 d3 ha=>?_
 rw [B9] at ha
 refine .go O (.alloc O D4 fun W4 bq n4=>?_)
 obtain ⟨d4,kb,hbq,zs4⟩:=n4
 have z3:=d4.size
 have haT:eQ.R (fun k=>k≠bq) W4 va (qc (absR ((nwOf n R).hf i b))):=ER.ext eQ (eQ.mono (fun k _ h=>by have:=h.2;omega) (ER.lt eQ ha)) d4
 refine .storeA (E:=eQ) (S:=fun k=>k≠bq) ty_Q O O kb O O haT (fun h=>h O) fun W5 kb u5 ha5=>?_
 have hd5:Ext W2 W5:=u5.below (d3.trans d4) (by have:=d3.size;omega)
 have hva:=shpA (E:=eQ) O ha5
 have hnext:∀ {W':World},Ext W5 W'->Ext W1 W':=fun h=>hW2.trans (hd5.trans h)
 have ha5:eQ.R (fun _=>True) W5 va (qc (absR ((nwOf n R).hf i b))):=eQ.mono (fun _ _ _=>trivial) ha5
 refine .goC O ?_
 rcases hhf i b hlt hbt with h0 | h0
 ·rw [h0] at ha5
  refine .par follows 6 [.inl va,.inl (.int .i64 0),.inl (.bool false),.inl (.bool false),.inl undef,.inl undef] [[],[(117,0)],[(118,1)],[(119,2)],[(120,3)],[(120,3)]] (by kernel_rfl) ⟨
   fun w e=>((B8 ty_Q O (kb.ext e) (eQ.csz ha5)).eq (by rw [<-hva])).ob,
   fun w e=>(by have:=P3 (ER.ext eQ ha5 e);rw [B9,sgn0] at this;exact (A1 _ P7 O this).obIs),
   fun w e=>((Ag1 O O).eq (by rfl)).ob,
   fun w e=>(v_mv O).ob,
   fun w e=>rfl,
   fun w e=>rfl,trivial⟩ ?_
  intro W6 d6 
  exact .go O (.inc O O O (by omega) (.goN O (.mk (b+1) O (lc1 O) ⟨⟨hnext d6,hbt⟩,by show (nwOf n o).B-(b+1)<(nwOf n o).B-b;omega⟩)))
 rw [h0] at ha5
 refine .par follows 6 [.inl va,.inl (.int .i64 1),.inl (.bool true),.inl (.bool true),.inl va,.inr (eQ.at (fun _=>True) (qc ((1:Int):Rat)))] [[],[(117,0)],[(118,1)],[(119,2)],[(120,3)],[(120,3)]] (by kernel_rfl) ⟨
  fun w e=>((B8 ty_Q O (kb.ext e) (eQ.csz ha5)).eq (by rw [<-hva])).ob,
  fun w e=>(by have:=P3 (ER.ext eQ ha5 e);rw [B9,show sgnR 1=1 from by decide] at this;exact (A1 _ P7 O this).obIs),
  fun w e=>((Ag1 O O).eq (by rfl)).ob,
  fun w e=>(v_mv O).ob,
  fun w e=>((B8 ty_Q O (kb.ext e) (eQ.csz ha5)).eq (by rw [<-hva])).ob,
  fun w e=>(A1 _ H6 O (H5 upT (by decide) (by decide))).ob (A6 _ _ _),trivial⟩ ?_
 intro W6 d6 y5 hy5
 have heq:=Ad3 (L:=1) upT (ER.ext eQ ha5 d6) hy5 (rsz1 (L:=1) (Nat.le_refl _)).toOk (rsz1 (L:=1) (Nat.le_refl _)).toOk (by decide) (by decide)
 rw [B9,B9,decide_eq_true (show (1:Rat)=((1:Int):Rat) from rfl)] at heq
 refine .go O (.call _ O Ae9 O heq fun v7 W7 d7 h7=>?_)
 subst h7
 exact .go O (.inc O O O (by omega) (.goN O (.mk (b+1) O (lc1 O) ⟨⟨hnext (d6.trans d7),hbt⟩,by show (nwOf n o).B-(b+1)<(nwOf n o).B-b;omega⟩)))
end Go.Proofs.YtggegpiffjbngaaGreat
namespace Go.Kx
open Go Go.RowKit Go.ChangeShapes Go.WideShapes
section
variable {H:Type} {enc:TypeId×Value->H} {P:Program} {W:World}
def sh4 (P:Program) (t:TypeId):Option (List (TypeId×Nat)) :=
 match P.underlying t with
 | some (.struct fs)=>if fs.size=4 then some (fs.toList.map fun f=>(f.type,f.offset)) else none
 | _=>none
theorem BC0 {t ti tj:TypeId} (hs:sh4 P t=some [(ti,0),(ti,1),(tj,2),(tj,3)]) (hi:P.underlying ti=some (.int .i64)) (hj:P.underlying tj=some (.int .i64)) (hci:P.cellsOf ti=1) (hcj:P.cellsOf tj=1) (hct:P.cellsOf t=4):Opn enc P W eL t (fun _ _=>True):=by
 intro fuel cs x hx hfz
 unfold sh4 at hs
 split at hs
 ·rename_i fs hu
  split at hs
  ·rename_i hsz
   simp only [Option.some.injEq] at hs
   obtain ⟨l⟩:=fs
   match l,hsz with
   | [f0,f1,f2,f3],_ =>
    simp only [List.map_cons,List.map_nil,List.cons.injEq,Prod.mk.injEq,and_true] at hs
    obtain ⟨⟨h0,o0⟩,⟨h1,o1⟩,⟨h2,o2⟩,h3,o3⟩:=hs
    obtain ⟨y0,y1,y2,y3,n,rfl,hl,g0,g1,g2,g3⟩:=Joins.trod_struct4 hu hx
    rw [h0,o0,hci] at g0
    rw [h1,o1,hci] at g1
    rw [h2,o2,hcj] at g2
    rw [h3,o3,hcj] at g3
    rw [hct] at hl
    obtain ⟨c0,c1,c2,c3,rfl⟩:∃ c0 c1 c2 c3,cs=[c0,c1,c2,c3]:=by
     match cs,hl with
     | [c0,c1,c2,c3],_=>exact ⟨c0,c1,c2,c3,rfl⟩
    obtain ⟨n0,e0,_,w0⟩:=DataW.trod_int hi g0
    obtain ⟨n1,e1,_,w1⟩:=DataW.trod_int hi g1
    obtain ⟨n2,e2,_,w2⟩:=DataW.trod_int hj g2
    obtain ⟨n3,e3,_,w3⟩:=DataW.trod_int hj g3
    simp at e0 e1 e2 e3
    subst e0 e1 e2 e3
    exact ⟨.agg #[.int .i64 n0,.int .i64 n1,.int .i64 n2,.int .i64 n3],⟨n0,n1,n2,n3⟩,rfl,⟨rfl,AZ4 w0,AZ4 w1,AZ4 w2,AZ4 w3⟩,trivial⟩
  ·cases hs
 ·cases hs
theorem opn_N {t ti tl te:TypeId} (hs:sh2 P t=some ((ti,0),(tl,1))) (hi:P.underlying ti=some (.int .i64)) (hci:P.cellsOf ti=1) (hcl:P.cellsOf tl=1) (hct:P.cellsOf t=2) (hl:P.underlying tl=some (.slice te)) (hce:P.cellsOf te=4) (he:Opn enc P W eL te (fun _ _=>True)):Opn enc P W eN t (fun _ _=>True):=by
 intro fuel cs x hx hfz
 obtain ⟨y0,y1,n,rfl,hlen,h0,h1⟩:=BA6 hs hx
 rw [hci] at h0
 rw [hcl] at h1
 rw [hct] at hlen
 obtain ⟨c0,c1,rfl⟩:∃ c0 c1,cs=[c0,c1]:=by
  match cs,hlen with
  | [c0,c1],_=>exact ⟨c0,c1,rfl⟩
 obtain ⟨b,hb',_,hw⟩:=DataW.trod_int hi h0
 simp at hb'
 subst hb'
 obtain ⟨e,l,he',hR,_⟩:=(Opn.slice (Z:=fun _ _=>True) (E:=eL) (by decide) hl hce he) n _ _ h1 hfz.right
 obtain ⟨a,c,rfl,_⟩:=RL.len hR
 simp [Value.cells] at he'
 subst he'
 exact ⟨.agg #[.int .i64 b,.slice a l.length c],⟨b,l⟩,rfl,⟨_,rfl,hR,AZ4 hw⟩,trivial⟩
end
end Go.Kx
namespace Go.Proofs.YtggegpiffjbngaaGreat
open Go Go.Kx Go.RowKit
section
variable {H:Type} {enc:TypeId×Value->H} {W:World}
theorem opnN:Opn enc Tryz.prog W eN 24 (fun _ _=>True):=opn_N (ti:=3) (tl:=22) (te:=58) (by kernel_rfl) Q7 (by kernel_rfl) (by kernel_rfl) (by kernel_rfl) O9 (by kernel_rfl) (BC0 (ti:=3) (tj:=2) (by kernel_rfl) Q7 AU4 (by kernel_rfl) (by kernel_rfl) (by kernel_rfl))
theorem opnH:Opn enc Tryz.prog W eI 25 (ZL fun _ _=>True):=Opn.slice (by decide) un_I (by kernel_rfl) (opn_int Q7)
end
end Go.Proofs.YtggegpiffjbngaaGreat
