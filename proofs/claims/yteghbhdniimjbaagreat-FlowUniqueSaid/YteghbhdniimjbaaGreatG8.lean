/-
  Networks: linear flows, their bound, the angles of given flows law 17: FlowUnique What is handed in, opened: networks.
-/
import Derived.Test.YteghbhdniimjbaaGreatG7
import Derived.Lib.SmallJoins
set_option linter.unusedVariables false
namespace Go.Kx
open Go Go.RowKit
section
variable {n:Nw}
/-- what angles send out is balanced -/
theorem Nw.lap_bal (ok:n.Ok) (θ:Nat→Rat):n.bal (n.lap θ):=fun r _ _ =>
 Nw.off_clo (n:=n) (f:=n.fl θ) (D:=fun b=>n.root b=r) ok (Nw.clo_root r) fun k _ hg=>Nw.fl_out hg
/-- and its angles are the given ones, but for those of the reference buses -/
theorem Nw.an_lap (ok:n.Ok) (θ:Nat→Rat) {b:Nat} (hb:b<n.B):n.an (n.lap θ) b=θ b-θ (n.root b):=by
 refine Nw.uniq (θ:=n.an (n.lap θ)) (φ:=fun b=>θ b-θ (n.root b)) ok (fun i hi=>?_) b hb
 have h:=n.an_eq ok (n.lap θ) hi
 unfold Nw.inj0 at h
 by_cases hr:n.root i=i
 ·rw [if_pos hr]
  rw [if_pos hr,if_pos hr] at h
  rw [h,hr];grind
 ·rw [if_neg hr]
  rw [if_neg hr,if_neg hr] at h
  rw [h,Nw.lap_sub]
  have h0:n.lap (fun b=>θ (n.root b)) i=0:=by
   unfold Nw.lap Nw.off
   refine E4 fun k hk=>?_
   by_cases hg:n.g k=0
   ·rw [Nw.fl_out hg,Rat.mul_zero]
   ·unfold Nw.fl
    dsimp only
    rw [Nw.Av7 hk hg];grind
  rw [h0];grind
theorem Nw.offM_fl (ok:n.Ok) (θ f:Nat→Rat) (hf:∀ k,k<n.M→f k=n.fl θ k) (b:Nat):n.offM f b=n.lap θ b:=by
 unfold Nw.offM Nw.lap Nw.off
 refine A2 fun k hk=>?_
 dsimp only
 by_cases hg:n.g k=0
 ·rw [if_pos hg,Nw.fl_out hg]
 ·rw [if_neg hg,hf k hk]
end
end Go.Kx

namespace Go.Proofs.YteghbhdniimjbaaGreat
open Go Go.Kx Go.RowKit
set_option maxRecDepth 8000 in
theorem law17_FlowUnique_c {w:World} {vn vo vx:Value} {n:NtV} {o:List Int} {x:List QV} (hn:eN.R (fun _=>True) w vn n) (ho:eI.R (fun _=>True) w vo o) (hx:eV.R (fun _=>True) w vx x):CR Tryz.prog 4 #[vn,vo,vx] w (Is (.bool true)):=by
 obtain ⟨s,rfl,hs,hb⟩:=hn
 have hn:eN.R (fun _=>True) w (.agg #[.int .i64 n.b,s]) n:=⟨s,rfl,hs,hb⟩
 obtain ⟨ax,cx,hvx,_,hxl⟩:=RL.len hx
 refine enter Tryz.func4 rfl Tryz.ntmps4 rfl (.beg (.go rfl (.box rfl rfl fun w1 b3 n1=>?_)))
 obtain ⟨e1,k3,hb3,hs1⟩:=n1
 refine .go rfl (.ldA ty_N rfl rfl k3 rfl (.go rfl (.bsl _ rfl rfl (by rw [hvx];exact bsl_M1) fun w2 b17 n2=>?_)))
 have hl:eM.R (fun _=>True) w2 (.slice (some ⟨b17,0,none⟩) 1 1) [x]:=eS_new [vx] [x] n2 upT (by rw [hvx]) rfl (by decide) (Els.snoc Els.nil (ER.ext eV hx e1))
 have x2:=e1.trans n2.1
 refine .call _ rfl E_law17_Long rfl (law17_Long_c (hn.ext x2) (ho.ext x2) hl) fun v3 w3 e3 h3=>?_
 obtain ⟨bl,rfl,hlong⟩:=h3
 have x3:=x2.trans e3
 clear hl
 cases bl with
 | true =>
  refine .go rfl (.call _ rfl E_law17_awake rfl law17_awake_c fun v4 w4 e4 h4=>?_)
  subst h4
  exact .goE rfl (.plain [_] Tryz.results4 ⟨rfl,trivial⟩ ⟨x3.trans e4,rfl⟩)
 | false =>
 refine .go rfl (.call _ rfl E_law17_awake rfl law17_awake_c fun v4 w4 e4 h4=>?_)
 subst h4
 have x4:=x3.trans e4
 have k3:=k3.ext ((n2.1.trans e3).trans e4)
 have hk:vk 4 x:=(hlong rfl x (by simp)).vk hx
 have hx20:x.length≤20:=(hlong rfl x (by simp)).1
 refine .go rfl (.ldA ty_N rfl rfl k3 rfl (.go rfl ?_))
 refine .call _ rfl AM9 rfl (AL4 upT (hn.ext x4) (ho.ext x4) (ER.ext eV hx x4) hk (by decide) (by decide)) fun v5 w5 e5 h5=>?_
 obtain ⟨vf,ve,rfl,hf,rfl⟩:=h5
 have x5:=x4.trans e5
 have k3:=k3.ext e5
 refine .go rfl ?_
 by_cases hS:sfE n o x.length=0
 rotate_left
 ·rw [if_neg hS] at hf
  exact .neqT rfl rfl rfl hS (.go rfl (.lenR un_V rfl rfl hf (.eqlT rfl rfl rfl rfl (.goE rfl (.tt Tryz.results4 rfl x5)))))
 rw [if_pos hS] at hf
 obtain ⟨hO,hxb⟩:=BB4 hS
 have ok:=U6 hO
 have hB6:=ok.b6
 have hB1:=ok.b1
 have hM10:n.ls.length≤10:=ok.m
 have hnb:=ok.b
 generalize hθ:rv x=θ at hf
 have hθs:∀ b,Rsz (θ b) 4:=fun b=>by rw [←hθ];exact hk.rsz (by decide) b
 have hkf:vk 10 (tab n.ls.length ((nwOf n o).fl θ)):=S7 fun k _=>fl_rsz ok hθs k
 have hno:noE n o (tab n.ls.length ((nwOf n o).fl θ)).length=0:=by unfold noE;rw [if_neg (by simpa using hO),if_pos (by rw [A1];exact Nat.le_refl _)]
 have hoff:tab (nwOf n o).B ((nwOf n o).offM (rv (tab n.ls.length ((nwOf n o).fl θ))))=tab (nwOf n o).B ((nwOf n o).lap θ):=D6 fun b _=>Nw.offM_fl ok.ok θ _ (fun k hk=>by rw [P1,if_pos (show k<n.ls.length from hk)]) b
 refine .neqF rfl rfl rfl hS (.go rfl (.ldA ty_N rfl rfl k3 rfl (.go rfl ?_)))
 refine .call _ rfl Av0 rfl (Au2 upT (hn.ext x5) (ho.ext x5) hf hkf (by decide) (by decide)) fun v6 w6 e6 h6=>?_
 obtain ⟨vg,ve,rfl,hg,he⟩:=h6
 replace he:ve=.int .i64 0:=by rw [he,hno]
 subst he
 rw [if_pos hno,hoff] at hg
 have hkg:vk 120 (tab (nwOf n o).B ((nwOf n o).lap θ)):=by
  rw [←hoff]
  refine S7 fun b _=>?_
  unfold Nw.offM Nw.off
  refine (AW3 (L:=10) fun k _=>?_).mono (by have:(nwOf n o).M≤10:=ok.m;omega)
  rw [Rat.mul_comm]
  refine Ad7 ?_ (by decide) ((nwOf n o).inc_tri k b)
  dsimp only
  split
  ·exact Rsz.zero (by decide)
  ·exact hkf.rsz (by decide) k
 have hgl:(tab (nwOf n o).B ((nwOf n o).lap θ)).length=(nwOf n o).B:=A1 ..
 have hbal:(nwOf n o).bal (rv (tab (nwOf n o).B ((nwOf n o).lap θ))):=(Nw.bal_congr fun b hb=>by rw [P1,if_pos hb]).2 (Nw.lap_bal ok.ok θ)
 have hang:∀ b,b<(nwOf n o).B→(nwOf n o).an (rv (tab (nwOf n o).B ((nwOf n o).lap θ))) b=θ b-θ ((nwOf n o).root b):=fun b hb=>by
  rw [←Nw.an_lap ok.ok θ hb]
  unfold Nw.an
  refine A2 fun c hc=>?_
  unfold Nw.inj0
  rw [P1,if_pos hc]
 generalize hxg:tab (nwOf n o).B ((nwOf n o).lap θ)=xg at hg hkg hgl hbal hang
 have hsg:sfE n o xg.length=0:=by unfold sfE;rw [if_neg (by simpa using hO),if_pos (by rw [hgl];omega)]
 have han:anE n o xg=0:=BG0 hO (by rw [hgl];omega) hbal
 have x6:=x5.trans e6
 refine .go rfl (.ldA ty_N rfl rfl (k3.ext e6) rfl (.go rfl ?_))
 refine .call _ rfl AU3 rfl (AT8 upT (hn.ext x6) (ho.ext x6) hg hkg (by decide) (by decide)) fun v7 w7 e7 h7=>?_
 obtain ⟨vb,ve,rfl,hvb,he⟩:=h7
 replace hvb:vb=.bool true:=by rw [hvb];simp [hsg,hbal]
 replace he:ve=.int .i64 0:=by rw [he,hsg]
 subst hvb he
 have x7:=x6.trans e7
 have y7:=e6.trans e7
 refine .go rfl (.ldA ty_N rfl rfl (k3.ext y7) rfl (.go rfl ?_))
 refine .call _ rfl AG7 rfl (AG2 upT (hn.ext x7) (ho.ext x7) (ER.ext eV hg e7) hkg (by decide) (by decide)) fun v8 w8 e8 h8=>?_
 obtain ⟨va,ve,rfl,ha,he⟩:=h8
 replace he:ve=.int .i64 0:=by rw [he,han]
 subst he
 rw [if_pos han] at ha
 have hka:=an_vk ok hkg (by decide) (by decide)
 have x8:=x7.trans e8
 have y8:=y7.trans e8
 refine .go rfl (.ldA ty_N rfl rfl (k3.ext y8) rfl (.go rfl ?_))
 refine .call _ rfl AD7 rfl (AC9 upT (hn.ext x8) (ho.ext x8)) fun v9 w9 e9 h9=>?_
 obtain ⟨vl,ve,rfl,hl,he⟩:=h9
 replace he:ve=.int .i64 0:=by rw [he,hO]
 subst he
 rw [if_pos hO] at hl
 have x9:=x8.trans e9
 have y9:=y8.trans e9
 refine .go rfl (.ldA ty_N rfl rfl (k3.ext y9) rfl (.go rfl ?_))
 refine .call _ rfl Aa5 rfl (AZ9 upT (hn.ext x9) (ho.ext x9)) fun v10 w10 e10 h10=>?_
 obtain ⟨vr,ve,rfl,hr,he⟩:=h10
 replace he:ve=.int .i64 0:=by rw [he,hO]
 subst he
 rw [if_pos hO] at hr
 have x10:=x9.trans e10
 have k3:=k3.ext (y9.trans e10)
 have ha:=ER.ext eV ha (e9.trans e10)
 have hl:=ER.ext eI hl e10
 refine .go rfl (.neqF rfl rfl rfl rfl (.go rfl (.neqF rfl rfl rfl rfl (.go rfl (.neqF rfl rfl rfl rfl (.go rfl (.neqF rfl rfl rfl rfl (.go rfl (.neqF rfl rfl rfl rfl (.go rfl (.lenR un_V rfl rfl ha (.go rfl (.fa I8 rfl rfl (.go rfl (.ld A7 rfl rfl k3 rfl (.go rfl ?_))))))))))))))))
 rw [A1]
 refine .neqF rfl rfl rfl (by show _=n.b;omega) (.go rfl (.lenR un_I rfl rfl hl (.go rfl (.fa I8 rfl rfl (.go rfl (.ld A7 rfl rfl k3 rfl (.go rfl ?_)))))))
 rw [L8]
 rw [hnb] at k3
 refine .neqF rfl rfl rfl (by show _=n.b;omega) (.go rfl (.fa I8 rfl rfl (.ld A7 rfl rfl k3 rfl ?_)))
 refine .call _ rfl O4 rfl (M3 upT (ER.ext eV hx x10) hk (by decide) (by decide)) fun v11 w11 e11 h11=>?_
 have h11:=BB9 (B:=(nwOf n o).B) h11 upT hB1 (by omega)
 rw [hθ] at h11
 have x11:=x10.trans e11
 have k3:=k3.ext e11
 have ha:=ER.ext eV ha e11
 have hl:=ER.ext eI hl e11
 have hr:=ER.ext eI hr e11
 refine .goC rfl (.lp (α:=Nat) [3,13,15,17,19] rfl (fun b=>[(20,.int .i64 (b:Nat))]) (fun b W=>Ext w11 W∧b≤(nwOf n o).B) (fun b=>(nwOf n o).B-b) 0 (lc1 rfl) ⟨Ext.refl _,Nat.zero_le _⟩ ?_)
 rintro b W ⟨hW,hbB⟩
 refine .go rfl (.fa I8 rfl rfl (.ld A7 rfl rfl (k3.ext hW) rfl ?_))
 rcases Nat.lt_or_ge b (nwOf n o).B with hlt | hge
 rotate_left
 ·exact .lssF rfl rfl rfl (by show ¬ (_:Int)<((nwOf n o).B:Nat);omega) (.goE rfl (.tt Tryz.results4 rfl (x11.trans hW)))
 obtain ⟨hra,hrl⟩:=(nwOf n o).refs_lab hlt
 have hrB:(nwOf n o).root b<(nwOf n o).B:=Nat.lt_of_le_of_lt (Nw.root_le b) hlt
 have hgr:(pInts (nwOf n o).refs)[(nwOf n o).lab b]?=some (((nwOf n o).root b:Nat):Int):=by
  unfold pInts
  rw [List.getElem?_map,A6 (z:=0) hrl,hra];rfl
 have hpl:(pInts (nwOf n o).refs).length=(nwOf n o).refs.length:=by simp
 have hal:=hang b hlt
 have hsub:Rsz (θ b-θ ((nwOf n o).root b)) 10:=by
  rw [Rat.sub_eq_add_neg]
  exact ((hθs _).add (hθs _).neg).mono (by decide)
 refine .lssT rfl rfl rfl (by show (_:Int)<((nwOf n o).B:Nat);omega) (.goC rfl ?_)
 refine .par follows 56 ((.inl _)::(.inl _)::(.inr (Ptr (eInt .i64) (fun _=>True) (((nwOf n o).lab b:Nat):Int)))::(.inl (.int .i64 ((nwOf n o).lab b:Nat)))::(.inl (.bool false))::(.inl (.bool false))::(.inl _)::(.inl _)::(.inr (Ptr (eInt .i64) (fun _=>True) (((nwOf n o).lab b:Nat):Int)))::(.inl (.int .i64 ((nwOf n o).lab b:Nat)))::(.inl _)::(.inl (.int .i64 ((nwOf n o).refs.length:Nat)))::(.inl (.bool false))::(.inl (.bool false))::(.inl (.bool false))::(.inl _)::(.inl _)::(.inl _)::(.inr (Ptr (eInt .i64) (fun _=>True) (((nwOf n o).lab b:Nat):Int)))::(.inl (.int .i64 ((nwOf n o).lab b:Nat)))::(.inr (Ptr (eInt .i64) (fun _=>True) (((nwOf n o).root b:Nat):Int)))::(.inl (.int .i64 ((nwOf n o).root b:Nat)))::(.inl (.bool false))::(.inl (.bool false))::(.inl (.bool false))::(.inl _)::(.inl _)::(.inl _)::(.inr (Ptr (eInt .i64) (fun _=>True) (((nwOf n o).lab b:Nat):Int)))::(.inl (.int .i64 ((nwOf n o).lab b:Nat)))::(.inr (Ptr (eInt .i64) (fun _=>True) (((nwOf n o).root b:Nat):Int)))::(.inl (.int .i64 ((nwOf n o).root b:Nat)))::(.inl (.pointer (some ⟨b3,0,none⟩)))::(.inl (.int .i64 ((nwOf n o).B:Nat)))::(.inl (.bool false))::(.inl (.bool false))::(.inl (.bool false))::(.inl _)::(.inl _)::(.inr (Ptr eQ (fun _=>True) (qc ((nwOf n o).an (rv xg) b))))::(.inr (eQ.at (fun _=>True) (qc ((nwOf n o).an (rv xg) b))))::(.inl _)::(.inl _)::(.inr (Ptr eQ (fun _=>True) (qc (θ b))))::(.inr (eQ.at (fun _=>True) (qc (θ b))))::(.inl _)::(.inl _)::(.inl _)::(.inl _)::(.inr (Ptr (eInt .i64) (fun _=>True) (((nwOf n o).lab b:Nat):Int)))::(.inl (.int .i64 ((nwOf n o).lab b:Nat)))::(.inr (Ptr (eInt .i64) (fun _=>True) (((nwOf n o).root b:Nat):Int)))::(.inl (.int .i64 ((nwOf n o).root b:Nat)))::(.inr (Ptr eQ (fun _=>True) (qc (θ ((nwOf n o).root b)))))::(.inr (eQ.at (fun _=>True) (qc (θ ((nwOf n o).root b)))))::(.inr (eQ.at (fun _=>True) (qc (θ b-θ ((nwOf n o).root b)))))::[]) ([]::[]::[(122,0),(123,1)]::[(124,2)]::[(125,3)]::[(126,4)]::[(127,5)]::[(127,5)]::[(128,6),(129,7),(127,5)]::[(130,8),(127,5)]::[(127,5)]::[(132,10),(127,5)]::[(131,9),(133,11),(127,5)]::[(127,5),(134,12)]::[(135,13)]::[(136,14)]::[(136,14)]::[(136,14)]::[(138,16),(139,17),(136,14)]::[(140,18),(136,14)]::[(137,15),(141,19),(136,14)]::[(142,20),(136,14)]::[(143,21),(136,14)]::[(136,14),(144,22)]::[(145,23)]::[(146,24)]::[(146,24)]::[(146,24)]::[(148,26),(149,27),(146,24)]::[(150,28),(146,24)]::[(147,25),(151,29),(146,24)]::[(152,30),(146,24)]::[(146,24)]::[(154,32),(146,24)]::[(153,31),(155,33),(146,24)]::[(146,24),(156,34)]::[(157,35)]::[(158,36)]::[(158,36)]::[(159,37),(160,38),(158,36)]::[(161,39),(158,36)]::[(158,36)]::[(158,36)]::[(163,41),(164,42),(158,36)]::[(165,43),(158,36)]::[(158,36)]::[(158,36)]::[(158,36)]::[(158,36)]::[(169,47),(170,48),(158,36)]::[(171,49),(158,36)]::[(168,46),(172,50),(158,36)]::[(173,51),(158,36)]::[(167,45),(174,52),(158,36)]::[(175,53),(158,36)]::[(166,44),(176,54),(158,36)]::[]) (by kernel_rfl) ⟨
  fun w e=>(v_mv rfl).ob,
  fun w e=>(v_mv rfl).ob,
  fun w e=>E5 (i:=b) un_I B9 rfl (ER.ext eI hl (hW.trans e)) rfl (AC2 hlt),
  fun w e x2 hx2=>AO5 B9 rfl hx2,
  fun w e=>((BA3 rfl rfl).eq (by rw [decide_eq_false (by omega)])).ob,
  fun w e=>(v_mv rfl).ob,
  fun w e=>(v_mv rfl).ob,
  fun w e=>(v_mv rfl).ob,
  fun w e=>E5 (i:=b) un_I B9 rfl (ER.ext eI hl (hW.trans e)) rfl (AC2 hlt),
  fun w e x8 hx8=>AO5 B9 rfl hx8,
  fun w e=>(v_mv rfl).ob,
  fun w e=>((v_lenR un_I rfl (ER.ext eI hr (hW.trans e))).eq (by rw [hpl])).ob,
  fun w e=>((v_geq rfl rfl).eq (by rw [decide_eq_false (by omega)])).ob,
  fun w e=>(Ar9 rfl rfl).ob,
  fun w e=>(v_mv rfl).ob,
  fun w e=>(v_mv rfl).ob,
  fun w e=>(v_mv rfl).ob,
  fun w e=>(v_mv rfl).ob,
  fun w e=>E5 (i:=b) un_I B9 rfl (ER.ext eI hl (hW.trans e)) rfl (AC2 hlt),
  fun w e x18 hx18=>AO5 B9 rfl hx18,
  fun w e=>E5 (i:=(nwOf n o).lab b) un_I B9 rfl (ER.ext eI hr (hW.trans e)) rfl hgr,
  fun w e x20 hx20=>AO5 B9 rfl hx20,
  fun w e=>((BA3 rfl rfl).eq (by rw [decide_eq_false (by omega)])).ob,
  fun w e=>(Ar9 rfl rfl).ob,
  fun w e=>(v_mv rfl).ob,
  fun w e=>(v_mv rfl).ob,
  fun w e=>(v_mv rfl).ob,
  fun w e=>(v_mv rfl).ob,
  fun w e=>E5 (i:=b) un_I B9 rfl (ER.ext eI hl (hW.trans e)) rfl (AC2 hlt),
  fun w e x28 hx28=>AO5 B9 rfl hx28,
  fun w e=>E5 (i:=(nwOf n o).lab b) un_I B9 rfl (ER.ext eI hr (hW.trans e)) rfl hgr,
  fun w e x30 hx30=>AO5 B9 rfl hx30,
  fun w e=>(v_fa I8 rfl).ob,
  fun w e=>(v_ld A7 rfl ((k3.ext hW).ext e) rfl).ob,
  fun w e=>((v_geq rfl rfl).eq (by rw [decide_eq_false (by omega)])).ob,
  fun w e=>(Ar9 rfl rfl).ob,
  fun w e=>(v_mv rfl).ob,
  fun w e=>(v_mv rfl).ob,
  fun w e=>(v_mv rfl).ob,
  fun w e=>E5 (i:=b) un_V ty_Q rfl (ER.ext eV ha (hW.trans e)) rfl (K0 hlt),
  fun w e x39 hx39=>N4 ty_Q rfl hx39,
  fun w e=>(v_mv rfl).ob,
  fun w e=>(v_mv rfl).ob,
  fun w e=>E5 (i:=b) un_V ty_Q rfl (ER.ext eV h11 (hW.trans e)) rfl (K0 hlt),
  fun w e x43 hx43=>N4 ty_Q rfl hx43,
  fun w e=>(v_mv rfl).ob,
  fun w e=>(v_mv rfl).ob,
  fun w e=>(v_mv rfl).ob,
  fun w e=>(v_mv rfl).ob,
  fun w e=>E5 (i:=b) un_I B9 rfl (ER.ext eI hl (hW.trans e)) rfl (AC2 hlt),
  fun w e x49 hx49=>AO5 B9 rfl hx49,
  fun w e=>E5 (i:=(nwOf n o).lab b) un_I B9 rfl (ER.ext eI hr (hW.trans e)) rfl hgr,
  fun w e x51 hx51=>AO5 B9 rfl hx51,
  fun w e=>E5 (i:=(nwOf n o).root b) un_V ty_Q rfl (ER.ext eV h11 (hW.trans e)) rfl (K0 hrB),
  fun w e x53 hx53=>N4 ty_Q rfl hx53,
  fun w e x44 hx44 x54 hx54=>by
  have:=AX1 (L:=4) upT hx44 hx54 (hθs _).toOk (hθs _).toOk (by decide) (by decide)
  rw [D9,D9] at this
  exact (A3 _ AZ0 rfl this).ob (A8 _ _ _),trivial⟩ ?_
 intro W4 e4 x2 hx2 x8 hx8 x18 hx18 x20 hx20 x28 hx28 x30 hx30 x39 hx39 x40 hx40 x43 hx43 x44 hx44 x49 hx49 x51 hx51 x53 hx53 x54 hx54 x55 hx55
 have heq:=frac_Equal_c (L:=600000) upT hx40 hx55 (by rw [hal];exact (hsub.mono (by decide)).toOk) (hsub.mono (by decide)).toOk (by decide) (by decide)
 rw [D9,D9,decide_eq_true hal] at heq
 refine .go rfl (.call _ rfl E_frac_Equal rfl heq fun v5 W5 e5 h5=>?_)
 subst h5
 exact .go rfl (.inc rfl rfl rfl (by omega) (.goN rfl (.mk (b+1) rfl (lc1 rfl) ⟨⟨(hW.trans e4).trans e5,hlt⟩,by show (nwOf n o).B-(b+1)<(nwOf n o).B-b;omega⟩)))
end Go.Proofs.YteghbhdniimjbaaGreat

namespace Go.Kx
open Go Go.RowKit Go.ChangeShapes Go.WideShapes
section
variable {H:Type} {enc:TypeId×Value→H} {P:Program} {W:World}
def sh4 (P:Program) (t:TypeId):Option (List (TypeId×Nat)) :=
 match P.underlying t with
 | some (.struct fs)=>if fs.size=4 then some (fs.toList.map fun f=>(f.type,f.offset)) else none
 | _=>none
theorem opn_int4 {t ti tj:TypeId} (hs:sh4 P t=some [(ti,0),(ti,1),(tj,2),(tj,3)]) (hi:P.underlying ti=some (.int .i64)) (hj:P.underlying tj=some (.int .i64)) (hci:P.cellsOf ti=1) (hcj:P.cellsOf tj=1) (hct:P.cellsOf t=4):Opn enc P W eL t (fun _ _=>True):=by
 intro fuel cs x hx
 unfold sh4 at hs
 split at hs
 ·rename_i fs hu
  split at hs
  ·rename_i hsz
   simp only [Option.some.injEq] at hs
   obtain ⟨l⟩:=fs
   match l,hsz with
   | [f0,f1,f2,f3],_ =>
    simp only [List.map_cons,List.map_nil,List.cons.injEq,Prod.mk.injEq,and_true] at hs
    obtain ⟨⟨h0,o0⟩,⟨h1,o1⟩,⟨h2,o2⟩,h3,o3⟩:=hs
    obtain ⟨y0,y1,y2,y3,n,rfl,hl,g0,g1,g2,g3⟩:=Joins.trod_struct4 hu hx
    rw [h0,o0,hci] at g0
    rw [h1,o1,hci] at g1
    rw [h2,o2,hcj] at g2
    rw [h3,o3,hcj] at g3
    rw [hct] at hl
    obtain ⟨c0,c1,c2,c3,rfl⟩:∃ c0 c1 c2 c3,cs=[c0,c1,c2,c3]:=by
     match cs,hl with
     | [c0,c1,c2,c3],_=>exact ⟨c0,c1,c2,c3,rfl⟩
    obtain ⟨n0,e0,_,w0⟩:=DataW.trod_int hi g0
    obtain ⟨n1,e1,_,w1⟩:=DataW.trod_int hi g1
    obtain ⟨n2,e2,_,w2⟩:=DataW.trod_int hj g2
    obtain ⟨n3,e3,_,w3⟩:=DataW.trod_int hj g3
    simp at e0 e1 e2 e3
    subst e0 e1 e2 e3
    exact ⟨.agg #[.int .i64 n0,.int .i64 n1,.int .i64 n2,.int .i64 n3],⟨n0,n1,n2,n3⟩,rfl,⟨rfl,wf_bd w0,wf_bd w1,wf_bd w2,wf_bd w3⟩,trivial⟩
  ·cases hs
 ·cases hs
theorem opn_N {t ti tl te:TypeId} (hs:sh2 P t=some ((ti,0),(tl,1))) (hi:P.underlying ti=some (.int .i64)) (hci:P.cellsOf ti=1) (hcl:P.cellsOf tl=1) (hct:P.cellsOf t=2) (hl:P.underlying tl=some (.slice te)) (hce:P.cellsOf te=4) (he:Opn enc P W eL te (fun _ _=>True)):Opn enc P W eN t (fun _ _=>True):=by
 intro fuel cs x hx
 obtain ⟨y0,y1,n,rfl,hlen,h0,h1⟩:=Ai7 hs hx
 rw [hci] at h0
 rw [hcl] at h1
 rw [hct] at hlen
 obtain ⟨c0,c1,rfl⟩:∃ c0 c1,cs=[c0,c1]:=by
  match cs,hlen with
  | [c0,c1],_=>exact ⟨c0,c1,rfl⟩
 obtain ⟨b,hb',_,hw⟩:=DataW.trod_int hi h0
 simp at hb'
 subst hb'
 obtain ⟨e,l,he',hR,_⟩:=(Opn.slice (Z:=fun _ _=>True) (E:=eL) (by decide) hl hce he) n _ _ h1
 obtain ⟨a,c,rfl,_⟩:=RL.len hR
 simp [Value.cells] at he'
 subst he'
 exact ⟨.agg #[.int .i64 b,.slice a l.length c],⟨b,l⟩,rfl,⟨_,rfl,hR,wf_bd hw⟩,trivial⟩
end
end Go.Kx
namespace Go.Proofs.YteghbhdniimjbaaGreat
open Go Go.Kx Go.RowKit
section
variable {H:Type} {enc:TypeId×Value→H} {W:World}
theorem opnN:Opn enc Tryz.prog W eN 40 (fun _ _=>True):=opn_N (ti:=3) (tl:=38) (te:=60) (by kernel_rfl) AN8 (by kernel_rfl) (by kernel_rfl) (by kernel_rfl) Y8 (by kernel_rfl) (opn_int4 (ti:=3) (tj:=2) (by kernel_rfl) AN8 Ad2 (by kernel_rfl) (by kernel_rfl) (by kernel_rfl))
theorem opnH:Opn enc Tryz.prog W eI 41 (ZL fun _ _=>True):=Opn.slice (by decide) un_I (by kernel_rfl) (opn_int AN8)
end
end Go.Proofs.YteghbhdniimjbaaGreat
