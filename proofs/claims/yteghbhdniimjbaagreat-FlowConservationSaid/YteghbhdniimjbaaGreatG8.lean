/-
  Networks: linear flows, their bound, the angles of given flows whole.IsCanonical, frac.IsCanonical, pylonref14.Has; law 17: FlowConservation What is handed in, opened: networks.
-/
import Derived.Test.YteghbhdniimjbaaGreatG7
import Derived.Lib.SmallJoins
set_option linter.unusedVariables false
namespace Go.Kx
open Go Go.RowKit
section
variable {n:Nw}
theorem Nw.offM_fl (ok:n.Ok) (θ f:Nat→Rat) (hf:∀ k,k<n.M→f k=n.fl θ k) (b:Nat):n.offM f b=n.lap θ b:=by
 unfold Nw.offM Nw.lap Nw.off
 refine A2 fun k hk=>?_
 dsimp only
 by_cases hg:n.g k=0
 ·rw [if_pos hg,Nw.fl_out hg]
 ·rw [if_neg hg,hf k hk]
end
end Go.Kx

namespace Go.Proofs.YteghbhdniimjbaaGreat
open Go Go.Kx Go.RowKit
theorem E_whole_IsCanonical:Ent Tryz.prog 138:=A0 Tryz.func138 (by kernel_rfl) rfl
theorem whole_IsCanonical_c {S:Nat→Prop} {w:World} {va:Value} {m:Int} (ha:eZ.R S w va (zc m)):CR Tryz.prog 138 #[va] w (Is (.bool true)):=by
 obtain ⟨s,rfl,hs⟩:=ha
 obtain ⟨_,_,_,_,hl⟩:=RL.len hs
 refine enter Tryz.func138 rfl Tryz.ntmps138 rfl (.beg (.go rfl (.box rfl rfl fun w1 b1 n1=>?_)))
 obtain ⟨e1,k1,_,_⟩:=n1
 have hs:=ER.ext eW hs e1
 refine .go rfl (.fa C9 rfl rfl (.ld ty_W rfl rfl k1 rfl (.lenR un_W rfl rfl hs ?_)))
 by_cases h0:(zc m).w.length=0
 ·have hm:m=0:=by
   have:=Ao0.1 (List.length_eq_zero_iff.1 h0)
   omega
  subst hm
  refine .eqlT rfl rfl rfl (by omega) (.go rfl (.fa G7 rfl rfl (.lc C3 rfl rfl k1 rfl (.goE rfl (.tt Tryz.results138 rfl e1)))))
 have hlt:(zc m).w.length-1<(zc m).w.length:=by omega
 have hg:(zc m).w[(zc m).w.length-1]?=some ((zc m).w[(zc m).w.length-1]):=List.getElem?_eq_getElem hlt
 have hne:(zc m).w[(zc m).w.length-1]≠0:=can_wds m.natAbs _ (by rw [List.getLast?_eq_getElem?];exact hg)
 generalize (zc m).w[(zc m).w.length-1]=d at hg hne
 refine .eqlF rfl rfl rfl (by omega) (.go rfl (.fa C9 rfl rfl (.ld ty_W rfl rfl k1 rfl (.fa C9 rfl rfl (.ld ty_W rfl rfl k1 rfl (.lenR un_W rfl rfl hs (.sub rfl rfl rfl ?_)))))))
 rw [wI (by omega),show (((zc m).w.length:Nat):Int)-1=(((zc m).w.length-1:Nat):Int) by omega]
 refine .ixN (i:=(zc m).w.length-1) un_W A4 rfl rfl hs rfl hg fun q hq=>.ldE (E:=eU32) A4 rfl rfl hq fun e he=>?_
 obtain ⟨rfl,_⟩:=he
 exact .neqT rfl rfl rfl (by omega) (.goE rfl (.tt Tryz.results138 rfl e1))
theorem gcd_num_den (r:Rat):Nat.gcd r.num.natAbs r.den=1:=r.reduced
theorem E_frac_IsCanonical:Ent Tryz.prog 70:=A0 Tryz.func70 (by kernel_rfl) rfl
theorem frac_IsCanonical_c {S:Nat→Prop} {w:World} {va:Value} {r:Rat} {L:Nat} (up:Up S w) (ha:eQ.R S w va (qc r)) (hr:Rsz r L) (hL:L≤1000000000000):CR Tryz.prog 70 #[va] w (Is (.bool true)):=by
 obtain ⟨s,t,rfl,hn,hd⟩:=O2 ha
 have hqk:=hr.toOk
 refine enter Tryz.func70 rfl Tryz.ntmps70 rfl (.beg (.go rfl (.box rfl rfl fun w1 b1 n1=>?_)))
 obtain ⟨e1,k1,hb1,hs1⟩:=n1
 have hS1:∀ {W:World},Ext w1 W→eZ.R S W (.agg #[.bool (qc r).num.neg,s]) (zc r.num):=fun e=>ER.ext eZ hn (e1.trans e)
 have ldn:∀ (j:Nat) (u:Value),[Value.bool (qc r).num.neg,s][j]?=some u→(#[Value.bool (qc r).num.neg,s,.bool (qc r).den.neg,t]:Array Value)[0+j]?=some u:=Ad3
 have ldd:∀ (j:Nat) (u:Value),[Value.bool (qc r).den.neg,t][j]?=some u→(#[Value.bool (qc r).num.neg,s,.bool (qc r).den.neg,t]:Array Value)[2+j]?=some u:=AJ3
 have hdz:∃ m:Int,(qc r).den=zc m∧(r.den=1→m=0)∧(r.den≠1→m=r.den):=by
  by_cases h1:r.den=1
  ·refine ⟨0,?_,fun _=>rfl,fun h=>absurd h1 h⟩
   show (if r.den=1 then _ else _)=_
   rw [if_pos h1,zc_zero]
  ·refine ⟨r.den,?_,fun h=>absurd h h1,fun _=>rfl⟩
   show (if r.den=1 then _ else _)=_
   rw [if_neg h1]
 obtain ⟨m,hdm,hm1,hm2⟩:=hdz
 have hdl:(qc r).den.w.length≤L:=hqk.2
 generalize (qc r).den=D at *
 subst hdm
 refine .go rfl (.fa P6 rfl rfl (.ldN [.bool (qc r).num.neg,s] ty_Z rfl rfl k1 ldn ?_))
 refine .call _ rfl E_whole_IsCanonical rfl (whole_IsCanonical_c (hS1 (Ext.refl _))) fun v2 w2 e2 h2=>?_
 subst h2
 refine .go rfl (.fa P5 rfl rfl (.go rfl (.ldN [.bool (zc m).neg,t] ty_Z rfl rfl (k1.ext e2) ldd (.go rfl ?_))))
 refine .call _ rfl E_whole_IsCanonical rfl (whole_IsCanonical_c (ER.ext eZ hd (e1.trans e2))) fun v3 w3 e3 h3=>?_
 subst h3
 have y3:=e2.trans e3
 have hdw:=hd
 obtain ⟨t',ht',hdw⟩:=hdw
 cases ht'
 refine .go rfl (.fa P5 rfl rfl (.fa C9 rfl rfl (.lc ty_W rfl rfl (k1.ext y3) rfl (.lenR un_W rfl rfl (ER.ext eW hdw (e1.trans y3)) ?_))))
 by_cases h1:r.den=1
 ·have:=hm1 h1
  subst this
  exact .eqlT rfl rfl rfl (by rw [zc_zero];rfl) (.goE rfl (.tt Tryz.results70 rfl (e1.trans y3)))
 have hmd:=hm2 h1
 have hdp:1<r.den:=by have:=r.den_pos;omega
 refine .eqlF rfl rfl rfl (by
  intro h
  have:(zc m).w=[]:=List.length_eq_zero_iff.1 (by omega)
  have:=Ao0.1 this
  omega) (.go rfl ?_)
 refine .call _ rfl C8 rfl (C7 (n:=1) (up.ext (e1.trans y3).size) (by decide) (by decide)) fun vo w4 e4 ho=>.alloc rfl B7 fun w5 b3 n5=>?_
 obtain ⟨e5,k3,hb3,hs5⟩:=n5
 have hz3:=(e1.trans y3).size
 have hs4:=e4.size
 refine .storeA (E:=eZ) (S:=fun k=>S k∧k<w4.heap.size) ty_Z rfl rfl k3 rfl rfl (ER.ext eZ (ER.lt eZ ho) e5) (fun h=>by have:=h.2;omega) fun w6 k3 u6 ho=>.goC rfl ?_
 have hov:=shpA (E:=eZ) rfl ho
 have ho:eZ.R S w6 vo (zc 1):=eZ.mono (fun _ _ h=>h.1) ho
 have y6:Ext w3 w6:=u6.below (e4.trans e5) (by omega)
 have x6:Ext w w6:=(e1.trans y3).trans y6
 have k1:=k1.ext (y3.trans y6)
 have hn:=ER.ext eZ hn x6
 have hd:=ER.ext eZ hd x6
 have hc1:cmpI (zval (zc m)) (zval (zc 1))=1:=by
  rw [E3,E3,hmd]
  unfold cmpI
  rw [if_neg (by omega),if_pos (by omega)]
 have hc0:cmpI (zval (zc 1)) (zval (zc 1))=0:=by
  unfold cmpI
  rw [if_neg (by omega),if_neg (by omega)]
 have hgcd:(Nat.gcd (val (qc r).num.w) (val (zc m).w):Nat)=1:=by
  show Nat.gcd (val (wds _)) (val (wds _))=1
  rw [B5,B5,hmd,Int.natAbs_natCast]
  exact gcd_num_den r
 have hlen:(zc r.num).w.length≤1000000000000∧(zc m).w.length≤1000000000000:=⟨Nat.le_trans hqk.1 hL,Nat.le_trans hdl hL⟩
 refine .par follows 12 [.inl (.pointer (some ⟨b1,2,none⟩)),.inl (.agg #[.bool (zc m).neg,t]),.inl vo,.inl (.int .i64 1),.inl (.bool true),.inl (.bool true),.inl (.pointer (some ⟨b1,0,none⟩)),.inl (.agg #[.bool (qc r).num.neg,s]),.inl (.pointer (some ⟨b1,2,none⟩)),.inl (.agg #[.bool (zc m).neg,t]),.inr (eZ.at S (zc 1)),.inl vo] [[],[(20,0)],[],[(21,1),(22,2)],[(23,3)],[(24,4)],[(25,5)],[(26,6),(25,5)],[(25,5)],[(28,8),(25,5)],[(27,7),(29,9),(25,5)],[(25,5)]] (by kernel_rfl) ⟨
  fun w e=>(v_fa P5 rfl).ob,
  fun w e=>(AB9 [.bool (zc m).neg,t] ty_Z rfl (k1.ext e) ldd).ob,
  fun w e=>((C0 ty_Z rfl (k3.ext e) (eZ.csz ho)).eq hov.symm).ob,
  fun w e=>by
  have:=Ah6 (ER.ext eZ hd e) (ER.ext eZ ho e)
  rw [hc1] at this
  exact (A3 _ Am1 rfl this).obIs,
  fun w e=>((v_gtr rfl rfl).eq (by rfl)).ob,
  fun w e=>(v_mv rfl).ob,
  fun w e=>(v_fa P6 rfl).ob,
  fun w e=>(AB9 [.bool (qc r).num.neg,s] ty_Z rfl (k1.ext e) ldn).ob,
  fun w e=>(v_fa P5 rfl).ob,
  fun w e=>(AB9 [.bool (zc m).neg,t] ty_Z rfl (k1.ext e) ldd).ob,
  fun w e=>by
  have:=Ah5 (up.ext (x6.trans e).size) (ER.ext eZ hn e) (ER.ext eZ hd e) hlen.1 hlen.2
  rw [hgcd] at this
  exact (A3 _ Am0 rfl this).ob (A8 _ _ _),
  fun w e=>((C0 ty_Z rfl (k3.ext e) (eZ.csz ho)).eq hov.symm).ob,trivial⟩ ?_
 intro W7 e7 x10 hx10
 have hcc:=Ah6 hx10 (ER.ext eZ ho e7)
 rw [hc0] at hcc
 refine .go rfl (.call _ rfl Am1 rfl hcc fun v8 W8 e8 h8=>?_)
 subst h8
 exact .go rfl (.eqlT rfl rfl rfl rfl (.goE rfl (.tt Tryz.results70 rfl ((x6.trans e7).trans e8))))
theorem E_ref14_Has:Ent Tryz.prog 69:=A0 Tryz.func69 (by kernel_rfl) rfl
theorem ref14_Has_c {S:Nat→Prop} {w:World} {vl:Value} {l:List Int} {k:Int} (hl:eI.R S w vl l):CR Tryz.prog 69 #[vl,.int .i64 k] w (Is (.bool (decide (k∈l)))):=by
 obtain ⟨_,_,_,_,hll⟩:=RL.len hl
 refine enter Tryz.func69 rfl Tryz.ntmps69 rfl (.beg ?_)
 refine .goC rfl (.lp (α:=Nat) [0,1] rfl (fun i=>[(5,.int .i64 (i:Nat))]) (fun i W=>W=w∧i≤l.length∧∀ j,j<i→l[j]?≠some k) (fun i=>l.length-i) 0 (lc1 rfl) ⟨rfl,Nat.zero_le _,fun j hj=>absurd hj (Nat.not_lt_zero _)⟩ ?_)
 rintro i W ⟨hWe,hi,hall⟩
 subst hWe
 refine .go rfl (.lenR un_I rfl rfl hl ?_)
 rcases Nat.lt_or_ge i l.length with hlt | hge
 rotate_left
 ·refine .lssF rfl rfl rfl (by omega) (.goE rfl ?_)
  refine .plain [_] Tryz.results69 ⟨rfl,trivial⟩ ⟨Ext.refl _,?_⟩
  rw [decide_eq_false];rfl
  intro hm
  obtain ⟨j,hj⟩:=List.mem_iff_getElem?.1 hm
  exact hall j (by have:=(List.getElem?_eq_some_iff.1 hj).1;omega) hj
 have hg:=List.getElem?_eq_getElem hlt
 generalize l[i]=y at hg
 refine .lssT rfl rfl rfl (by omega) (.go rfl (.ixN (i:=i) un_I B9 rfl rfl hl rfl hg fun q hq=>.ldE (E:=eInt .i64) B9 rfl rfl hq fun e he=>.go rfl ?_))
 obtain ⟨rfl,_⟩:=he
 by_cases hy:y=k
 ·refine .eqlT rfl rfl rfl hy (.goE rfl ?_)
  refine .plain [_] Tryz.results69 ⟨rfl,trivial⟩ ⟨Ext.refl _,?_⟩
  rw [decide_eq_true (List.mem_iff_getElem?.2 ⟨i,by rw [hg,hy]⟩)];rfl
 refine .eqlF rfl rfl rfl hy (.go rfl (.inc rfl rfl rfl (by omega) (.goN rfl (.mk (i+1) rfl (lc1 rfl) ⟨⟨rfl,hlt,fun j hj=>?_⟩,by show l.length-(i+1)<l.length-i;omega⟩))))
 by_cases e:j=i
 ·subst e;rw [hg];intro h;cases h;exact hy rfl
 ·exact hall j (by omega)
set_option maxRecDepth 8000 in
theorem law17_FlowConservation_c {w:World} {vn vo vx:Value} {n:NtV} {o:List Int} {x:List QV} (hn:eN.R (fun _=>True) w vn n) (ho:eI.R (fun _=>True) w vo o) (hx:eV.R (fun _=>True) w vx x):CR Tryz.prog 12 #[vn,vo,vx] w (Is (.bool true)):=by
 obtain ⟨s,rfl,hs,hb⟩:=hn
 have hn:eN.R (fun _=>True) w (.agg #[.int .i64 n.b,s]) n:=⟨s,rfl,hs,hb⟩
 obtain ⟨ax,cx,hvx,_,hxl⟩:=RL.len hx
 refine enter Tryz.func12 rfl Tryz.ntmps12 rfl (.beg (.go rfl (.box rfl rfl fun w1 b3 n1=>?_)))
 obtain ⟨e1,k3,hb3,hs1⟩:=n1
 refine .go rfl (.ldA ty_N rfl rfl k3 rfl (.go rfl (.bsl _ rfl rfl (by rw [hvx];exact bsl_M1) fun w2 b17 n2=>?_)))
 have hl:eM.R (fun _=>True) w2 (.slice (some ⟨b17,0,none⟩) 1 1) [x]:=eS_new [vx] [x] n2 upT (by rw [hvx]) rfl (by decide) (Els.snoc Els.nil (ER.ext eV hx e1))
 have x2:=e1.trans n2.1
 refine .call _ rfl E_law17_Long rfl (law17_Long_c (hn.ext x2) (ho.ext x2) hl) fun v3 w3 e3 h3=>?_
 obtain ⟨bl,rfl,hlong⟩:=h3
 have x3:=x2.trans e3
 clear hl
 cases bl with
 | true =>
  refine .go rfl (.call _ rfl E_law17_awake rfl law17_awake_c fun v4 w4 e4 h4=>?_)
  subst h4
  exact .goE rfl (.plain [_] Tryz.results12 ⟨rfl,trivial⟩ ⟨x3.trans e4,rfl⟩)
 | false =>
 refine .go rfl (.call _ rfl E_law17_awake rfl law17_awake_c fun v4 w4 e4 h4=>?_)
 subst h4
 have x4:=x3.trans e4
 have k3:=k3.ext ((n2.1.trans e3).trans e4)
 have hk:vk 4 x:=(hlong rfl x (by simp)).vk hx
 have hx20:x.length≤20:=(hlong rfl x (by simp)).1
 refine .go rfl (.ldA ty_N rfl rfl k3 rfl (.go rfl ?_))
 refine .call _ rfl Az4 rfl (Az3 upT (hn.ext x4) (ho.ext x4) (ER.ext eV hx x4) hk (by decide) (by decide)) fun v5 w5 e5 h5=>?_
 obtain ⟨vi,vb,rfl,hi,rfl⟩:=h5
 have x5:=x4.trans e5
 have k3:=k3.ext e5
 by_cases hS:sfE n o x.length=0
 rotate_left
 ·rw [show blB n o x.length=false by unfold blB;exact decide_eq_false hS]
  refine .go rfl (.ldA ty_N rfl rfl k3 rfl (.go rfl ?_))
  refine .call _ rfl Ar1 rfl (Ap4 (hn.ext x5) (ho.ext x5)) fun v6 w6 e6 h6=>?_
  subst h6
  by_cases hO:outE n o=0
  rotate_left
  ·exact .neqT rfl rfl rfl hO (.goE rfl (.tt Tryz.results12 rfl (x5.trans e6)))
  have hlen:¬ (x.length:Int)≤n.b:=fun h=>hS (by unfold sfE;rw [if_neg (by simpa using hO),if_pos h])
  exact .neqF rfl rfl rfl hO (.go rfl (.lenR un_V rfl rfl (ER.ext eV hx (x5.trans e6)) (.go rfl (.fa I8 rfl rfl (.go rfl (.ld A7 rfl rfl (k3.ext e6) rfl (.go rfl (.gtrT rfl rfl rfl (by omega) (.goE rfl (.tt Tryz.results12 rfl (x5.trans e6)))))))))))
 rw [show blB n o x.length=true by unfold blB;exact decide_eq_true hS]
 rw [if_pos hS] at hi
 obtain ⟨hO,hxb⟩:=BB4 hS
 have ok:=U6 hO
 have hB6:=ok.b6
 have hB1:=ok.b1
 have hM10:n.ls.length≤10:=ok.m
 have hnb:=ok.b
 have hki:=bl_vk ok hk
 have han:=bl_an hO (x:=x)
 have hil:(tab (nwOf n o).B ((nwOf n o).bl (rv x))).length=(nwOf n o).B:=A1 ..
 generalize hxi:tab (nwOf n o).B ((nwOf n o).bl (rv x))=xi at hi hki han hil
 have hbal:(nwOf n o).bal (rv xi):=by rw [←hxi];exact bl_bal
 have hki':=hki
 refine .go rfl (.ldA ty_N rfl rfl k3 rfl (.go rfl ?_))
 refine .call _ rfl AG7 rfl (AG2 upT (hn.ext x5) (ho.ext x5) hi hki (by decide) (by decide)) fun v6 w6 e6 h6=>?_
 obtain ⟨va,ve,rfl,ha,he⟩:=h6
 replace he:ve=.int .i64 0:=by rw [he,han]
 subst he
 rw [if_pos han] at ha
 have x6:=x5.trans e6
 refine .go rfl (.ldA ty_N rfl rfl (k3.ext e6) rfl (.go rfl ?_))
 refine .call _ rfl AN0 rfl (AL5 upT (hn.ext x6) (ho.ext x6) (ER.ext eV hi e6) hki (by decide) (by decide)) fun v7 w7 e7 h7=>?_
 obtain ⟨vf,ve,rfl,hf,he⟩:=h7
 replace he:ve=.int .i64 0:=by rw [he,han]
 subst he
 rw [if_pos han] at hf
 have x7:=x6.trans e7
 have y7:=e6.trans e7
 have hkf:=fl_vk ok hki (by decide) (by decide)
 have hka:=an_vk ok hki (by decide) (by decide)
 have hfs:∀ k,k<n.ls.length→Rsz ((nwOf n o).fl ((nwOf n o).an (rv xi)) k) 1200000:=fun k hk=>by
  have:=hkf.rsz (by decide) k
  rwa [P1,if_pos hk] at this
 generalize hθ:(nwOf n o).an (rv xi)=θ at ha hf hkf hka hfs
 have hlap:∀ b,b<(nwOf n o).B→(nwOf n o).lap θ b=rv xi b:=fun b hb=>by rw [←hθ];exact Nw.lap_an ok.ok hbal hb
 have hroot0:∀ b,b<(nwOf n o).B→(nwOf n o).root b=b→θ b=0:=fun b hb hr=>by
  have:=(nwOf n o).an_eq ok.ok (rv xi) hb
  rw [if_pos hr] at this
  rw [←hθ,this]
  unfold Nw.inj0
  rw [if_pos hr]
 refine .go rfl (.ldA ty_N rfl rfl (k3.ext y7) rfl (.go rfl ?_))
 refine .call _ rfl AM9 rfl (AL4 upT (hn.ext x7) (ho.ext x7) (ER.ext eV ha e7) hka (by decide) (by decide)) fun v8 w8 e8 h8=>?_
 obtain ⟨vg,ve,rfl,hg,he⟩:=h8
 have hsa:sfE n o (tab (nwOf n o).B θ).length=0:=by unfold sfE;rw [if_neg (by simpa using hO),if_pos (by rw [A1];omega)]
 replace he:ve=.int .i64 0:=by rw [he,hsa]
 subst he
 have hfl:tab n.ls.length ((nwOf n o).fl (rv (tab (nwOf n o).B θ)))=tab n.ls.length ((nwOf n o).fl θ):=D6 fun k hk=>by
  unfold Nw.fl
  rw [P1,P1,if_pos (ok.f k hk),if_pos (ok.t k hk)]
 rw [if_pos hsa,hfl] at hg
 have x8:=x7.trans e8
 have y8:=y7.trans e8
 refine .go rfl (.ldA ty_N rfl rfl (k3.ext y8) rfl (.go rfl ?_))
 refine .call _ rfl Av0 rfl (Au2 upT (hn.ext x8) (ho.ext x8) (ER.ext eV hf e8) hkf (by decide) (by decide)) fun v9 w9 e9 h9=>?_
 obtain ⟨vq,ve,rfl,hq,he⟩:=h9
 have hno:noE n o (tab n.ls.length ((nwOf n o).fl θ)).length=0:=by unfold noE;rw [if_neg (by simpa using hO),if_pos (by rw [A1];exact Nat.le_refl _)]
 replace he:ve=.int .i64 0:=by rw [he,hno]
 subst he
 have hoff:tab (nwOf n o).B ((nwOf n o).offM (rv (tab n.ls.length ((nwOf n o).fl θ))))=tab (nwOf n o).B (rv xi):=D6 fun b hb=>by rw [←hlap b hb];exact Nw.offM_fl ok.ok θ _ (fun k hk=>by rw [P1,if_pos (show k<n.ls.length from hk)]) b
 rw [if_pos hno,hoff] at hq
 have x9:=x8.trans e9
 have y9:=y8.trans e9
 refine .go rfl (.ldA ty_N rfl rfl (k3.ext y9) rfl (.go rfl ?_))
 refine .call _ rfl Aa5 rfl (AZ9 upT (hn.ext x9) (ho.ext x9)) fun v10 w10 e10 h10=>?_
 obtain ⟨vr,ve,rfl,hr,he⟩:=h10
 replace he:ve=.int .i64 0:=by rw [he,hO]
 subst he
 rw [if_pos hO] at hr
 have x10:=x9.trans e10
 have y10:=y9.trans e10
 have k3:=k3.ext y10
 have ha:=ER.ext eV ha (((e7.trans e8).trans e9).trans e10)
 have hf:=ER.ext eV hf ((e8.trans e9).trans e10)
 have hg:=ER.ext eV hg (e9.trans e10)
 have hq:=ER.ext eV hq e10
 have hi:=ER.ext eV hi y10
 refine .go rfl (.neqF rfl rfl rfl rfl (.go rfl (.neqF rfl rfl rfl rfl (.go rfl (.neqF rfl rfl rfl rfl (.go rfl (.neqF rfl rfl rfl rfl (.go rfl (.neqF rfl rfl rfl rfl (.go rfl (.lenR un_V rfl rfl ha (.go rfl (.fa I8 rfl rfl (.go rfl (.ld A7 rfl rfl k3 rfl (.go rfl ?_))))))))))))))))
 rw [A1]
 refine .neqF rfl rfl rfl (by show _=n.b;omega) (.go rfl (.lenR un_V rfl rfl hf (.go rfl (.fa R7 rfl rfl (.go rfl (.ld AB4 rfl rfl k3 rfl (.go rfl (.lenR Y8 rfl rfl (hs.ext x10) (.go rfl ?_)))))))))
 rw [A1]
 refine .neqF rfl rfl rfl rfl (.go rfl ?_)
 refine .call _ rfl AY8 rfl (isV_t hg hf rfl) fun v11 w11 e11 h11=>?_
 subst h11
 have hkq:vk 40 (tab (nwOf n o).B (rv xi)):=S7 fun b _=>hki.rsz (by decide) b
 have h12:=vec_Equal_c (L:=40) upT (ER.ext eV hq e11) (ER.ext eV hi e11) (by rw [A1];omega) (by omega) hkq hki (by decide) (by decide)
 rw [eqV_t fun k=>by
  rw [P1]
  by_cases hk:k<(nwOf n o).B
  ·rw [if_pos hk]
  ·rw [if_neg hk,AA2 (by omega)]] at h12
 refine .go rfl (.call _ rfl E_vec_Equal rfl h12 fun v12 w12 e12 h12=>?_)
 subst h12
 have y12:=e11.trans e12
 refine .go rfl (.lenR un_V rfl rfl (ER.ext eV hq y12) (.go rfl (.fa I8 rfl rfl (.go rfl (.ld A7 rfl rfl (k3.ext y12) rfl (.go rfl ?_))))))
 rw [A1]
 have x12:=x10.trans y12
 have ha:=ER.ext eV ha y12
 have hf:=ER.ext eV hf y12
 have hr:=ER.ext eI hr y12
 have hrl:(pInts (nwOf n o).refs).length=(nwOf n o).refs.length:=by simp
 have hrl6:(nwOf n o).refs.length≤(nwOf n o).B:=(nwOf n o).cnt_le (nwOf n o).B
 refine .neqF rfl rfl rfl (by show _=n.b;omega) (.goC rfl (.lp (α:=Nat) [1,9,11,17] rfl (fun i=>[(19,.int .i64 (i:Nat))]) (fun i W=>Ext w12 W∧i≤(nwOf n o).refs.length) (fun i=>(nwOf n o).refs.length-i) 0 (lc1 rfl) ⟨Ext.refl _,Nat.zero_le _⟩ ?_))
 rintro i W ⟨hW,hiR⟩
 refine .go rfl (.lenR un_I rfl rfl (ER.ext eI hr hW) ?_)
 rw [hrl]
 rcases Nat.lt_or_ge i (nwOf n o).refs.length with hlt | hge
 rotate_left
 ·refine .lssF rfl rfl rfl (by omega) (.goC rfl (.lp (α:=Nat) [1,11] rfl (fun i=>[(20,.int .i64 (i:Nat))]) (fun i W'=>Ext W W'∧i≤n.ls.length) (fun i=>n.ls.length-i) 0 (lc1 rfl) ⟨Ext.refl _,Nat.zero_le _⟩ ?_))
  rintro k W' ⟨hW',hkM⟩
  have hfW:=ER.ext eV hf (hW.trans hW')
  refine .go rfl (.lenR un_V rfl rfl hfW ?_)
  rw [A1]
  rcases Nat.lt_or_ge k n.ls.length with hkl | hge
  rotate_left
  ·exact .lssF rfl rfl rfl (by omega) (.goE rfl (.tt Tryz.results12 rfl (x12.trans (hW.trans hW'))))
  refine .lssT rfl rfl rfl (by omega) (.go rfl ?_)
  refine .call _ rfl E_ref14_Has rfl (ref14_Has_c (ho.ext (x12.trans (hW.trans hW')))) fun v13 W1 f1 h13=>?_
  subst h13
  have hfW:=ER.ext eV hfW f1
  have hfin:∀ {W2:World} {v:Value},Ext W1 W2→eQ.R (fun _=>True) W2 v (qc ((nwOf n o).fl θ k))→CR Tryz.prog 70 #[v] W2 (Is (.bool true)):=fun _ h=>frac_IsCanonical_c upT h (hfs k hkl) (by decide)
  by_cases hm:((k:Nat):Int)∈o
  ·have h0:(nwOf n o).fl θ k=0:=by
    refine Nw.fl_out ((ok.g0 hkl).2 ?_)
    unfold oN
    exact List.mem_map.2 ⟨_,hm,by simp⟩
   rw [decide_eq_true hm]
   refine .go rfl (.ixN (i:=k) un_V ty_Q rfl rfl hfW rfl (K0 hkl) fun q hq=>.go rfl (.ldE (E:=eQ) ty_Q rfl rfl hq fun y hy=>.go rfl ?_))
   refine .call _ rfl V7 rfl (U7 hy) fun v14 W2 f2 h14=>?_
   subst h14
   rw [D9,h0]
   refine .go rfl (.neqF rfl rfl rfl (by decide) (.go rfl (.ixN (i:=k) un_V ty_Q rfl rfl (ER.ext eV hfW f2) rfl (K0 hkl) fun q2 hq2=>.go rfl (.ldE (E:=eQ) ty_Q rfl rfl hq2 fun y2 hy2=>.go rfl ?_))))
   refine .call _ rfl E_frac_IsCanonical rfl (hfin f2 hy2) fun v15 W3 f3 h15=>?_
   subst h15
   exact .go rfl (.inc rfl rfl rfl (by omega) (.goN rfl (.mk (k+1) rfl (lc1 rfl) ⟨⟨((hW'.trans f1).trans f2).trans f3,hkl⟩,by show n.ls.length-(k+1)<n.ls.length-k;omega⟩)))
  ·rw [decide_eq_false hm]
   refine .go rfl (.ixN (i:=k) un_V ty_Q rfl rfl hfW rfl (K0 hkl) fun q2 hq2=>.go rfl (.ldE (E:=eQ) ty_Q rfl rfl hq2 fun y2 hy2=>.go rfl ?_))
   refine .call _ rfl E_frac_IsCanonical rfl (hfin (Ext.refl _) hy2) fun v15 W3 f3 h15=>?_
   subst h15
   exact .go rfl (.inc rfl rfl rfl (by omega) (.goN rfl (.mk (k+1) rfl (lc1 rfl) ⟨⟨(hW'.trans f1).trans f3,hkl⟩,by show n.ls.length-(k+1)<n.ls.length-k;omega⟩)))
 obtain ⟨hrB,hrr⟩:=Nw.mem_refs.1 (I4 hlt)
 have hgr:(pInts (nwOf n o).refs)[i]?=some (((nwOf n o).refs.getD i 0:Nat):Int):=by
  unfold pInts
  rw [List.getElem?_map,A6 (z:=0) hlt];rfl
 have hz:=hroot0 _ hrB hrr
 generalize (nwOf n o).refs.getD i 0=r at *
 have hrW:=ER.ext eI hr hW
 refine .lssT rfl rfl rfl (by omega) (.go rfl (.ixN (i:=i) un_I B9 rfl rfl hrW rfl hgr fun q hq=>.ldE (E:=eInt .i64) B9 rfl rfl hq fun e he=>?_))
 obtain ⟨rfl,_⟩:=he
 refine .lssF rfl rfl rfl (by omega) (.go rfl (.ixN (i:=i) un_I B9 rfl rfl hrW rfl hgr fun q2 hq2=>.go rfl (.ldE (E:=eInt .i64) B9 rfl rfl hq2 fun e2 he2=>.go rfl (.lenR un_V rfl rfl (ER.ext eV ha hW) (.go rfl ?_)))))
 obtain ⟨rfl,_⟩:=he2
 rw [A1]
 refine .geqF rfl rfl rfl (by omega) (.go rfl (.ixN (i:=i) un_I B9 rfl rfl hrW rfl hgr fun q3 hq3=>.go rfl (.ldE (E:=eInt .i64) B9 rfl rfl hq3 fun e3 he3=>.go rfl ?_)))
 obtain ⟨rfl,_⟩:=he3
 refine .ixN (i:=r) un_V ty_Q rfl rfl (ER.ext eV ha hW) rfl (K0 hrB) fun q4 hq4=>.go rfl (.ldE (E:=eQ) ty_Q rfl rfl hq4 fun y hy=>.go rfl ?_)
 refine .call _ rfl V7 rfl (U7 hy) fun v14 W2 f2 h14=>?_
 subst h14
 rw [D9,hz]
 exact .go rfl (.neqF rfl rfl rfl (by decide) (.go rfl (.inc rfl rfl rfl (by omega) (.goN rfl (.mk (i+1) rfl (lc1 rfl) ⟨⟨hW.trans f2,hlt⟩,by show (nwOf n o).refs.length-(i+1)<(nwOf n o).refs.length-i;omega⟩)))))
end Go.Proofs.YteghbhdniimjbaaGreat

namespace Go.Kx
open Go Go.RowKit Go.ChangeShapes Go.WideShapes
section
variable {H:Type} {enc:TypeId×Value→H} {P:Program} {W:World}
def sh4 (P:Program) (t:TypeId):Option (List (TypeId×Nat)) :=
 match P.underlying t with
 | some (.struct fs)=>if fs.size=4 then some (fs.toList.map fun f=>(f.type,f.offset)) else none
 | _=>none
theorem opn_int4 {t ti tj:TypeId} (hs:sh4 P t=some [(ti,0),(ti,1),(tj,2),(tj,3)]) (hi:P.underlying ti=some (.int .i64)) (hj:P.underlying tj=some (.int .i64)) (hci:P.cellsOf ti=1) (hcj:P.cellsOf tj=1) (hct:P.cellsOf t=4):Opn enc P W eL t (fun _ _=>True):=by
 intro fuel cs x hx
 unfold sh4 at hs
 split at hs
 ·rename_i fs hu
  split at hs
  ·rename_i hsz
   simp only [Option.some.injEq] at hs
   obtain ⟨l⟩:=fs
   match l,hsz with
   | [f0,f1,f2,f3],_ =>
    simp only [List.map_cons,List.map_nil,List.cons.injEq,Prod.mk.injEq,and_true] at hs
    obtain ⟨⟨h0,o0⟩,⟨h1,o1⟩,⟨h2,o2⟩,h3,o3⟩:=hs
    obtain ⟨y0,y1,y2,y3,n,rfl,hl,g0,g1,g2,g3⟩:=Joins.trod_struct4 hu hx
    rw [h0,o0,hci] at g0
    rw [h1,o1,hci] at g1
    rw [h2,o2,hcj] at g2
    rw [h3,o3,hcj] at g3
    rw [hct] at hl
    obtain ⟨c0,c1,c2,c3,rfl⟩:∃ c0 c1 c2 c3,cs=[c0,c1,c2,c3]:=by
     match cs,hl with
     | [c0,c1,c2,c3],_=>exact ⟨c0,c1,c2,c3,rfl⟩
    obtain ⟨n0,e0,_,w0⟩:=DataW.trod_int hi g0
    obtain ⟨n1,e1,_,w1⟩:=DataW.trod_int hi g1
    obtain ⟨n2,e2,_,w2⟩:=DataW.trod_int hj g2
    obtain ⟨n3,e3,_,w3⟩:=DataW.trod_int hj g3
    simp at e0 e1 e2 e3
    subst e0 e1 e2 e3
    exact ⟨.agg #[.int .i64 n0,.int .i64 n1,.int .i64 n2,.int .i64 n3],⟨n0,n1,n2,n3⟩,rfl,⟨rfl,wf_bd w0,wf_bd w1,wf_bd w2,wf_bd w3⟩,trivial⟩
  ·cases hs
 ·cases hs
theorem opn_N {t ti tl te:TypeId} (hs:sh2 P t=some ((ti,0),(tl,1))) (hi:P.underlying ti=some (.int .i64)) (hci:P.cellsOf ti=1) (hcl:P.cellsOf tl=1) (hct:P.cellsOf t=2) (hl:P.underlying tl=some (.slice te)) (hce:P.cellsOf te=4) (he:Opn enc P W eL te (fun _ _=>True)):Opn enc P W eN t (fun _ _=>True):=by
 intro fuel cs x hx
 obtain ⟨y0,y1,n,rfl,hlen,h0,h1⟩:=Ai7 hs hx
 rw [hci] at h0
 rw [hcl] at h1
 rw [hct] at hlen
 obtain ⟨c0,c1,rfl⟩:∃ c0 c1,cs=[c0,c1]:=by
  match cs,hlen with
  | [c0,c1],_=>exact ⟨c0,c1,rfl⟩
 obtain ⟨b,hb',_,hw⟩:=DataW.trod_int hi h0
 simp at hb'
 subst hb'
 obtain ⟨e,l,he',hR,_⟩:=(Opn.slice (Z:=fun _ _=>True) (E:=eL) (by decide) hl hce he) n _ _ h1
 obtain ⟨a,c,rfl,_⟩:=RL.len hR
 simp [Value.cells] at he'
 subst he'
 exact ⟨.agg #[.int .i64 b,.slice a l.length c],⟨b,l⟩,rfl,⟨_,rfl,hR,wf_bd hw⟩,trivial⟩
end
end Go.Kx
namespace Go.Proofs.YteghbhdniimjbaaGreat
open Go Go.Kx Go.RowKit
section
variable {H:Type} {enc:TypeId×Value→H} {W:World}
theorem opnN:Opn enc Tryz.prog W eN 40 (fun _ _=>True):=opn_N (ti:=3) (tl:=38) (te:=60) (by kernel_rfl) AN8 (by kernel_rfl) (by kernel_rfl) (by kernel_rfl) Y8 (by kernel_rfl) (opn_int4 (ti:=3) (tj:=2) (by kernel_rfl) AN8 Ad2 (by kernel_rfl) (by kernel_rfl) (by kernel_rfl))
theorem opnH:Opn enc Tryz.prog W eI 41 (ZL fun _ _=>True):=Opn.slice (by decide) un_I (by kernel_rfl) (opn_int AN8)
end
end Go.Proofs.YteghbhdniimjbaaGreat
