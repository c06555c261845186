/-
  Package shift: equations Package shift: a column of factors Package right: inject, In Package shift: transpose The equations of a network have one solution: plain. Package shift: Factors, Between, Flows What shift factors satisfy: plain. Shift factors are small: plain. Package right: Flows, Feasible node.Trade, right.Pays law 05: the numbers of the examples law 05: alive; SolveExamples law 18: Long, three, fifths, told, awake Package flow: NetOutflow Package flow: a line in service Package flow: Laplacian Networks: the angles and flows of injections Package flow: Balanced, Angles, Flows law 17: Long, three, ints, awake Elements that the call changes in place, in a row with room behind it. Rows of rows that grow: slices as they are, in a row of the call's own. Package island: Members law 17: Balance law 17: common facts of the laws law 38: Long, circle, row, awake law 38: RightFewer vec.Dot, node.Trade, right.Pays for longer numbers; node.Rent law 38: total law 33: Long What all rights are paid law 05: what the walks of the laws share law 38: RightTotal Package node: element, sum, Split, Prices law 38: RightRevenueAdequacy What is handed in, opened: networks. What is handed in, opened, with its bulk: vectors whose numbers hold no more words than the whole; rights.
-/
import Derived.Test.YtfilidfomgfnhaaGreatG5
import Derived.Lib.SmallJoins
import Derived.Test.YtfilidfomgfnhaaGreatRows
import Derived.Deep.Strs
set_option linter.unusedVariables false
namespace Go.Kx
open Go Go.RowKit
theorem MB.new {t tq:TypeId} {S:Nat→Prop} {w w1 w2:World} {gb c b:Nat} {hs:List Nat} {M:List (List QV)} (h:MB t tq S w gb c hs M) (e:Ext w w1) (u:Upd w1 w2 b) (hb:w.heap.size≤b):MB t tq S w2 gb c hs M:=by
 have h1:=h.mono (S':=fun k=>S k∧k<w.heap.size) fun k hk hS=>⟨hS,hk⟩
 have hg:=h.out.lt
 have h2:=(h1.ext e).upd u (by omega) (fun hm=>by have:=h.lt hm;omega) fun hS=>by have:=hS.2;omega
 exact h2.mono fun k _ hS=>hS.1
theorem AF8 {B i j:Nat} {f:RM} {y:Rat} (hi:i<B):(tabM B B f).set i ((tab B (f i)).set j (qc y))=tabM B B (upE f i j y):=by
 rw [AN1,V3 hi]
 rfl
end Go.Kx
namespace Go.Proofs.YtfilidfomgfnhaaGreat
open Go Go.Kx Go.RowKit
theorem AI0:Ent Tryz.prog 85:=A0 Tryz.func85 (by kernel_rfl) rfl
theorem AG2 {S:Nat→Prop} {w:World} {vn vl vr:Value} {n:NtV} {o:List Int} (up:Up S w) (hn:eN.R S w vn n) (hl:eI.R S w vl (pInts (inL n o))) (hr:eI.R S w vr (pInts (nwOf n o).refs)) (ok:nwOk n o) :
  CR Tryz.prog 85 #[vn,vl,vr] w (eM.at S (tabM (nwOf n o).B (nwOf n o).B (nwOf n o).gm)):=by
 obtain ⟨s,rfl,hs,_⟩:=hn
 have hB6:=ok.b6
 have hM10:n.ls.length≤10:=ok.m
 have hll:=AN5 n o
 have hnb:=ok.b
 refine enter Tryz.func85 rfl Tryz.ntmps85 rfl ?_
 refine .seq (.region (.box rfl rfl fun w1 b3 n1=>.asg rfl rfl (.nil ?_)))
 obtain ⟨e1,k3,hb3,hs1⟩:=n1
 rw [hnb] at k3
 generalize hnw:nwOf n o=nw at *
 generalize hB:nw.B=B at *
 refine .seq (.region (.fa P3 rfl rfl (.ld B0 rfl rfl k3 rfl (.fa P3 rfl rfl (.ld B0 rfl rfl k3 rfl ?_)))))
 refine .call _ rfl Ab2 rfl (AT7 (m:=[]) (L:=1) (up.ext e1.size) RL.nil (fun r hr=>by cases hr) (by decide) (by decide)) fun v2 w2 e2 h2=>.asg rfl rfl (.nil ?_)
 obtain ⟨gb,hs2,rfl,hgb,hge,hM⟩:=h2
 have hcB:cutN (B:Int)=B:=by unfold cutN;omega
 rw [hcB] at hM ⊢
 have hz:tabM B B (rm [])=tabM B B (nw.lmL []):=E8 fun i k _ _=>by unfold rm;rw [List.getD_nil,AY0];rfl
 rw [hz] at hM
 have x2:=e1.trans e2
 have hw1:=e1.size
 have hsW:∀ {W:World},Below w1.heap.size w2 W→eLs.R (fun k=>S k∧k<w.heap.size) W s n.ls:=fun h=>eLs.keep (fun k c t f hk hh=>(h.block k (by have:=hk.2;omega)).trans hh) (ER.ext eLs (ER.lt eLs hs) x2)
 have hlW:∀ {W:World},Below w1.heap.size w2 W→eI.R (fun k=>S k∧k<w.heap.size) W vl (pInts (inL n o)):=fun h=>eI.keep (fun k c t f hk hh=>(h.block k (by have:=hk.2;omega)).trans hh) (ER.ext eI (ER.lt eI hl) x2)
 have hrW:∀ {W:World},Below w1.heap.size w2 W→eI.R (fun k=>S k∧k<w.heap.size) W vr (pInts nw.refs):=fun h=>eI.keep (fun k c t f hk hh=>(h.block k (by have:=hk.2;omega)).trans hh) (ER.ext eI (ER.lt eI hr) x2)
 have k3:=k3.ext e2
 have hk3:∀ {W:World},Below w1.heap.size w2 W→Blk W b3 24 #[.int .i64 (B:Nat),s]:=fun h=>(h.block b3 (by omega)).trans k3
 have hhl:hs2.length=B:=by rw [hM.len,A5]
 have hhg:∀ i,i<B→hs2[i]?=some (hs2.getD i 0):=fun i hi=>A9 (by omega)
 have hhm:∀ i,i<B→w1.heap.size≤hs2.getD i 0:=fun i hi=>hge _ (F3 (by omega))
 have hw2:=e2.size
 refine .mid (α:=Unit) (fun _=>[(2,vr),(3,.pointer (some ⟨b3,0,none⟩)),(7,.slice (some ⟨gb,0,none⟩) B B)]) (fun _ W=>Below w1.heap.size w2 W∧MB 32 55 S W gb B hs2 (tabM B B (nw.lmL (inL n o)))) ?_ ?_
 ·refine .seq (.region (.mv rfl rfl (.lenR un_I rfl rfl (hlW (Below.refl _ _)) (.mv rfl rfl (.nil ?_)))))
  rw [show (pInts (inL n o)).length=(inL n o).length by simp]
  refine .block (.loop (α:=Nat) (fun i=>[(2,vr),(3,.pointer (some ⟨b3,0,none⟩)),(7,.slice (some ⟨gb,0,none⟩) B B),(21,vl),(22,.int .i64 ((inL n o).length:Nat)),(23,.int .i64 (i:Nat))]) (fun i W=>Below w1.heap.size w2 W∧i≤(inL n o).length∧MB 32 55 S W gb B hs2 (tabM B B (nw.lmL ((inL n o).take i)))) (fun i=>(inL n o).length-i) 0 ?_ ?_ ?_)
  ·exact lkA rfl
  ·exact ⟨Below.refl _ _,Nat.zero_le _,hM⟩
  rintro i W ⟨hW,hi,hM⟩
  have hhk:∀ j,j<B→hs2.getD j 0<W.heap.size:=fun j hj=>hM.lt (F3 (by omega))
  refine .seq (.region ?_)
  rcases Nat.lt_or_ge i (inL n o).length with hlt | hge'
  rotate_left
  ·refine .lssF rfl rfl rfl (by omega) (.nil (.seq (.condF rfl (.exit ?_))))
   have:i=(inL n o).length:=by omega
   subst this
   rw [List.take_of_length_le (Nat.le_refl _)] at hM
   exact ⟨rfl,(),lkA rfl,hW,hM⟩
  obtain ⟨hgk,hkM,hko⟩:=AZ6 hlt
  refine .lssT rfl rfl rfl (by omega) (.nil (.seq (.condT rfl (.skip (.seq (.block (.seq (.region (.ixN (i:=i) un_I E2 rfl rfl (hlW hW) rfl hgk fun q hq=>.ldE (E:=eInt .i64) E2 rfl rfl hq fun e he=>.asg rfl rfl (.nil ?_))))))))))
  obtain ⟨rfl,_⟩:=he
  have htk:(inL n o).take (i+1)=(inL n o).take i++[(inL n o).getD i 0]:=by rw [List.take_add_one,A9 (z:=0) hlt];rfl
  have hgl:n.ls[(inL n o).getD i 0]?=some (n.ls.getD ((inL n o).getD i 0) ln0):=A9 hkM
  have hkM':(inL n o).getD i 0<(nwOf n o).M:=hkM
  have hFI:=ok.fI _ hkM'
  have hTI:=ok.tI _ hkM'
  have hFB:=ok.f _ hkM'
  have hTB:=ok.t _ hkM'
  have hne:=ok.ne _ hkM'
  have hx:=ok.x _ hkM'
  have hgs:=ok.gsz ((inL n o).getD i 0)
  have hgv:(nwOf n o).g ((inL n o).getD i 0)=Rat.divInt 1 (n.ls.getD ((inL n o).getD i 0) ln0).x:=by
   show (if (inL n o).getD i 0∈oN o then (0:Rat) else ((n.ls.getD ((inL n o).getD i 0) ln0).x:Rat)⁻¹)=_
   rw [if_neg hko,Rat.divInt_eq_div,Rat.div_def,show ((1:Int):Rat)=1 from rfl,Rat.one_mul]
  rw [hnw] at hFI hTI hFB hTB hne hgs hgv
  rw [hB] at hFB hTB
  have hfs:∀ b c,Rsz (nw.lmL ((inL n o).take i) b c) 30:=fun b c=>(nw.lmL_rsz (Nat.le_refl _) (fun k=>by rw [←hnw];exact ok.gsz k) b c _).mono (by rw [List.length_take];omega)
  generalize hk:(inL n o).getD i 0=k at *
  generalize hf:nw.lmL ((inL n o).take i)=f at *
  generalize hln:n.ls.getD k ln0=ln at *
  refine .seq (.region (.fa L5 rfl rfl (.ld Q5 rfl rfl (hk3 hW) rfl (.mv rfl rfl (.ixN (i:=k) O5 S2 rfl rfl (hsW hW) rfl hgl fun q hq=>.ldE (E:=eL) S2 rfl rfl hq fun vl' hvl=>.alloc rfl AX3 fun W1 b10 n1'=>?_)))))
  obtain ⟨f1,k10,hb10,hs1'⟩:=n1'
  refine .storeA (E:=eL) (S:=fun k=>k≠b10) (z:=ln) S2 rfl rfl k10 rfl rfl hvl (fun h=>h rfl) fun W2 k10 u2 hl2=>.nil ?_
  obtain ⟨rfl,_⟩:=hl2
  rw [hFI,hTI] at k10
  replace k10:Blk W2 b10 80 #[.int .i64 (nw.F k:Nat),.int .i64 (nw.T k:Nat),.int .i64 ln.x,.int .i64 ln.c]:=k10
  have hWs:=hW.size
  have hM:=hM.new f1 u2 (by omega)
  have hs2':=u2.size
  have hW2:Below w1.heap.size w2 W2:=u2.below (hW.trans (f1.mono (by omega))) (by omega)
  have upT:∀ {W':World},W2.heap.size≤W'.heap.size→Up (offM S gb hs2) W':=fun h k' hk'=>⟨up k' (by omega),by have:=hM.out.lt;omega,fun hm=>by have:=hM.lt hm;omega⟩
  refine .seq (.region (.fa AN8 rfl rfl (.ld L1 rfl rfl k10 rfl ?_)))
  refine .call _ rfl Ak9 rfl (Aj4 (upT (Nat.le_refl _)) (by decide) (by decide) (by omega) (by omega) (by omega)) fun v3 W3 e3 h3=>?_
  obtain ⟨vp,ve,rfl,hp,rfl⟩:=h3
  rw [←hgv] at hp
  refine .mv rfl rfl (.ext rfl rfl rfl (.ext rfl rfl rfl (.alloc rfl B7 fun W4 b11 n4=>?_)))
  obtain ⟨e4,k11,hb11,hs4⟩:=n4
  have hs3:=e3.size
  refine .storeA (E:=eQ) (S:=fun k=>offM S gb hs2 k∧k<W3.heap.size) ty_Q rfl rfl k11 rfl rfl (ER.ext eQ (ER.lt eQ hp) e4) (fun h=>by have:=h.2;omega) fun W5 k11 u5 hp5=>.asg rfl rfl (.nil ?_)
  have hp5:eQ.R (offM S gb hs2) W5 vp (qc (nw.g k)):=eQ.mono (fun _ _ h=>h.1) hp5
  have hvp:=shpA (E:=eQ) rfl hp5
  have hM:=hM.new (e3.trans e4) u5 (by omega)
  have hs5:=u5.size
  have hW5:Below w1.heap.size w2 W5:=u5.below (hW2.trans ((e3.trans e4).mono (by omega))) (by omega)
  have k10:=(k10.ext (e3.trans e4)).upd u5 (show b10≠b11 by omega)
  have hrow0:=hM.row (nw.F k) _ _ (hhg _ hFB) (E7 hFB)
  refine .seq ?_
  refine .par follows 18 [.inl (.slice (some ⟨gb,0,none⟩) B B),.inl (.pointer (some ⟨b10,0,none⟩)),.inl (.int .i64 (nw.F k:Nat)),.inl (.pointer (some ⟨gb,0+(nw.F k)*1,none⟩)),.inl (slB B (hs2.getD (nw.F k) 0)),.inl (.pointer (some ⟨b10,0,none⟩)),.inl (.int .i64 (nw.F k:Nat)),.inl (.slice (some ⟨gb,0,none⟩) B B),.inl (.pointer (some ⟨b10,0,none⟩)),.inl (.int .i64 (nw.F k:Nat)),.inl (.pointer (some ⟨gb,0+(nw.F k)*1,none⟩)),.inl (slB B (hs2.getD (nw.F k) 0)),.inl (.pointer (some ⟨b10,0,none⟩)),.inl (.int .i64 (nw.F k:Nat)),.inl (.pointer (some ⟨hs2.getD (nw.F k) 0,0+(nw.F k)*4,none⟩)),.inr (eQ.at (offM S gb hs2) (qc (f (nw.F k) (nw.F k)))),.inl vp,.inr (eQ.at (offM S gb hs2) (qc (f (nw.F k) (nw.F k)+nw.g k)))]
   [[],[],[(39,1)],[(38,0),(40,2)],[(41,3)],[],[(43,5)],[],[],[(46,8)],[(45,7),(47,9)],[(48,10)],[],[(50,12)],[(49,11),(51,13)],[(52,14)],[],[(53,15),(54,16)]] (by kernel_rfl) ⟨
   fun w e=>(v_mv rfl).ob,fun w e=>(v_fa K9 rfl).ob,fun w e=>(v_ld B0 rfl (k10.ext e) rfl).ob,fun w e=>(H0 (i:=nw.F k) un_M ty_V rfl rfl hFB).ob,fun w e=>(v_ld ty_V rfl (hM.out.ext e) (hM.cell (hhg _ hFB))).ob,fun w e=>(v_fa K9 rfl).ob,fun w e=>(v_ld B0 rfl (k10.ext e) rfl).ob,
   fun w e=>(v_mv rfl).ob,fun w e=>(v_fa K9 rfl).ob,fun w e=>(v_ld B0 rfl (k10.ext e) rfl).ob,fun w e=>(H0 (i:=nw.F k) un_M ty_V rfl rfl hFB).ob,fun w e=>(v_ld ty_V rfl (hM.out.ext e) (hM.cell (hhg _ hFB))).ob,fun w e=>(v_fa K9 rfl).ob,fun w e=>(v_ld B0 rfl (k10.ext e) rfl).ob,
   fun w e=>(H0 (i:=nw.F k) un_V ty_Q rfl rfl hFB).ob,
   fun w e=>(X8 (E:=eQ) (i:=nw.F k) (by decide) ty_Q rfl (Nat.zero_add _) (hrow0.2.ext e) (by rw [G1 hFB])).mono fun v' w' h=>⟨h.1,fun w'' e'=>eQ.mono (fun _ _ h=>h.1) (h.2 w'' e')⟩,
   fun w e=>((B8 ty_Q rfl (k11.ext e) (eQ.csz hp5)).eq hvp.symm).ob,
   fun w e x hx=>by
    have:=L4 (L:=30) (upT (by have:=e.size;omega)) hx (ER.ext eQ hp5 e) (hfs _ _).toOk (hgs.mono (by decide)).toOk (by decide) (by decide)
    rw [A8,A8] at this
    exact (A2 _ I3 rfl this).ob (A6 _ _ _),trivial⟩ ?_
  intro X0 g0 _ _ y0 hy0
  refine .ixB (i:=nw.F k) un_V ty_Q rfl rfl rfl hFB (.storeF (E:=eQ) (i:=nw.F k) (by decide) ty_Q rfl rfl (hrow0.2.ext g0) rfl (by rw [A1];exact hFB) (Nat.zero_add _) (eQ.mono (fun k' _ h=>⟨h,fun e=>h.2.2 (e▸F3 (by omega))⟩) hy0) fun Y0 fy0 uy0=>.nil ?_)
  have hM:=(hM.ext g0).set (hhg _ hFB) (by rw [List.length_set,A1]) uy0 fy0
  rw [AF8 hFB] at hM
  have sx0:=g0.size
  have sy0:=uy0.size
  have lw0:=hhm _ hFB
  have lk0:=hhk _ hFB
  have hW5:Below w1.heap.size w2 Y0:=uy0.below (hW5.trans (g0.mono (by omega))) lw0
  have k10:=(k10.ext g0).upd uy0 (by omega)
  have k11:=(k11.ext g0).upd uy0 (by omega)
  have hp5:=(ER.ext eQ hp5 g0).upd uy0 (fun h=>h.2.2 (F3 (by omega)))
  have hrow1:=hM.row (nw.F k) _ _ (hhg _ hFB) (E7 hFB)
  refine .seq ?_
  refine .par follows 18 [.inl (.slice (some ⟨gb,0,none⟩) B B),.inl (.pointer (some ⟨b10,0,none⟩)),.inl (.int .i64 (nw.F k:Nat)),.inl (.pointer (some ⟨gb,0+(nw.F k)*1,none⟩)),.inl (slB B (hs2.getD (nw.F k) 0)),.inl (.pointer (some ⟨b10,1,none⟩)),.inl (.int .i64 (nw.T k:Nat)),.inl (.slice (some ⟨gb,0,none⟩) B B),.inl (.pointer (some ⟨b10,0,none⟩)),.inl (.int .i64 (nw.F k:Nat)),.inl (.pointer (some ⟨gb,0+(nw.F k)*1,none⟩)),.inl (slB B (hs2.getD (nw.F k) 0)),.inl (.pointer (some ⟨b10,1,none⟩)),.inl (.int .i64 (nw.T k:Nat)),.inl (.pointer (some ⟨hs2.getD (nw.F k) 0,0+(nw.T k)*4,none⟩)),.inr (eQ.at (offM S gb hs2) (qc (f (nw.F k) (nw.T k)))),.inl vp,.inr (eQ.at (offM S gb hs2) (qc (f (nw.F k) (nw.T k)-nw.g k)))]
   [[],[],[(58,1)],[(57,0),(59,2)],[(60,3)],[],[(62,5)],[],[],[(65,8)],[(64,7),(66,9)],[(67,10)],[],[(69,12)],[(68,11),(70,13)],[(71,14)],[],[(72,15),(73,16)]] (by kernel_rfl) ⟨
   fun w e=>(v_mv rfl).ob,fun w e=>(v_fa K9 rfl).ob,fun w e=>(v_ld B0 rfl (k10.ext e) rfl).ob,fun w e=>(H0 (i:=nw.F k) un_M ty_V rfl rfl hFB).ob,fun w e=>(v_ld ty_V rfl (hM.out.ext e) (hM.cell (hhg _ hFB))).ob,fun w e=>(v_fa K8 rfl).ob,fun w e=>(v_ld B0 rfl (k10.ext e) rfl).ob,
   fun w e=>(v_mv rfl).ob,fun w e=>(v_fa K9 rfl).ob,fun w e=>(v_ld B0 rfl (k10.ext e) rfl).ob,fun w e=>(H0 (i:=nw.F k) un_M ty_V rfl rfl hFB).ob,fun w e=>(v_ld ty_V rfl (hM.out.ext e) (hM.cell (hhg _ hFB))).ob,fun w e=>(v_fa K8 rfl).ob,fun w e=>(v_ld B0 rfl (k10.ext e) rfl).ob,
   fun w e=>(H0 (i:=nw.T k) un_V ty_Q rfl rfl hTB).ob,
   fun w e=>(X8 (E:=eQ) (i:=nw.T k) (by decide) ty_Q rfl (Nat.zero_add _) (hrow1.2.ext e) (by rw [G1 hTB,AJ1 (.inr (Ne.symm hne))])).mono fun v' w' h=>⟨h.1,fun w'' e'=>eQ.mono (fun _ _ h=>h.1) (h.2 w'' e')⟩,
   fun w e=>((B8 ty_Q rfl (k11.ext e) (eQ.csz hp5)).eq hvp.symm).ob,
   fun w e x hx=>by
    have:=Q9 (L:=30) (upT (by have:=e.size;omega)) hx (ER.ext eQ hp5 e) (hfs _ _).toOk (hgs.mono (by decide)).toOk (by decide) (by decide)
    rw [A8,A8] at this
    exact (A2 _ R6 rfl this).ob (A6 _ _ _),trivial⟩ ?_
  intro X1 g1 _ _ y1 hy1
  refine .ixB (i:=nw.T k) un_V ty_Q rfl rfl rfl hTB (.storeF (E:=eQ) (i:=nw.T k) (by decide) ty_Q rfl rfl (hrow1.2.ext g1) rfl (by rw [A1];exact hTB) (Nat.zero_add _) (eQ.mono (fun k' _ h=>⟨h,fun e=>h.2.2 (e▸F3 (by omega))⟩) hy1) fun Y1 fy1 uy1=>.nil ?_)
  have hM:=(hM.ext g1).set (hhg _ hFB) (by rw [List.length_set,A1]) uy1 fy1
  rw [AF8 hFB] at hM
  have sx1:=g1.size
  have sy1:=uy1.size
  have lw1:=hhm _ hFB
  have lk1:=hhk _ hFB
  have hW5:Below w1.heap.size w2 Y1:=uy1.below (hW5.trans (g1.mono (by omega))) lw1
  have k10:=(k10.ext g1).upd uy1 (by omega)
  have k11:=(k11.ext g1).upd uy1 (by omega)
  have hp5:=(ER.ext eQ hp5 g1).upd uy1 (fun h=>h.2.2 (F3 (by omega)))
  have hrow2:=hM.row (nw.T k) _ _ (hhg _ hTB) (E7 hTB)
  refine .seq ?_
  refine .par follows 18 [.inl (.slice (some ⟨gb,0,none⟩) B B),.inl (.pointer (some ⟨b10,1,none⟩)),.inl (.int .i64 (nw.T k:Nat)),.inl (.pointer (some ⟨gb,0+(nw.T k)*1,none⟩)),.inl (slB B (hs2.getD (nw.T k) 0)),.inl (.pointer (some ⟨b10,1,none⟩)),.inl (.int .i64 (nw.T k:Nat)),.inl (.slice (some ⟨gb,0,none⟩) B B),.inl (.pointer (some ⟨b10,1,none⟩)),.inl (.int .i64 (nw.T k:Nat)),.inl (.pointer (some ⟨gb,0+(nw.T k)*1,none⟩)),.inl (slB B (hs2.getD (nw.T k) 0)),.inl (.pointer (some ⟨b10,1,none⟩)),.inl (.int .i64 (nw.T k:Nat)),.inl (.pointer (some ⟨hs2.getD (nw.T k) 0,0+(nw.T k)*4,none⟩)),.inr (eQ.at (offM S gb hs2) (qc (f (nw.T k) (nw.T k)))),.inl vp,.inr (eQ.at (offM S gb hs2) (qc (f (nw.T k) (nw.T k)+nw.g k)))]
   [[],[],[(77,1)],[(76,0),(78,2)],[(79,3)],[],[(81,5)],[],[],[(84,8)],[(83,7),(85,9)],[(86,10)],[],[(88,12)],[(87,11),(89,13)],[(90,14)],[],[(91,15),(92,16)]] (by kernel_rfl) ⟨
   fun w e=>(v_mv rfl).ob,fun w e=>(v_fa K8 rfl).ob,fun w e=>(v_ld B0 rfl (k10.ext e) rfl).ob,fun w e=>(H0 (i:=nw.T k) un_M ty_V rfl rfl hTB).ob,fun w e=>(v_ld ty_V rfl (hM.out.ext e) (hM.cell (hhg _ hTB))).ob,fun w e=>(v_fa K8 rfl).ob,fun w e=>(v_ld B0 rfl (k10.ext e) rfl).ob,
   fun w e=>(v_mv rfl).ob,fun w e=>(v_fa K8 rfl).ob,fun w e=>(v_ld B0 rfl (k10.ext e) rfl).ob,fun w e=>(H0 (i:=nw.T k) un_M ty_V rfl rfl hTB).ob,fun w e=>(v_ld ty_V rfl (hM.out.ext e) (hM.cell (hhg _ hTB))).ob,fun w e=>(v_fa K8 rfl).ob,fun w e=>(v_ld B0 rfl (k10.ext e) rfl).ob,
   fun w e=>(H0 (i:=nw.T k) un_V ty_Q rfl rfl hTB).ob,
   fun w e=>(X8 (E:=eQ) (i:=nw.T k) (by decide) ty_Q rfl (Nat.zero_add _) (hrow2.2.ext e) (by rw [G1 hTB,AJ1 (.inl (Ne.symm hne)),AJ1 (.inl (Ne.symm hne))])).mono fun v' w' h=>⟨h.1,fun w'' e'=>eQ.mono (fun _ _ h=>h.1) (h.2 w'' e')⟩,
   fun w e=>((B8 ty_Q rfl (k11.ext e) (eQ.csz hp5)).eq hvp.symm).ob,
   fun w e x hx=>by
    have:=L4 (L:=30) (upT (by have:=e.size;omega)) hx (ER.ext eQ hp5 e) (hfs _ _).toOk (hgs.mono (by decide)).toOk (by decide) (by decide)
    rw [A8,A8] at this
    exact (A2 _ I3 rfl this).ob (A6 _ _ _),trivial⟩ ?_
  intro X2 g2 _ _ y2 hy2
  refine .ixB (i:=nw.T k) un_V ty_Q rfl rfl rfl hTB (.storeF (E:=eQ) (i:=nw.T k) (by decide) ty_Q rfl rfl (hrow2.2.ext g2) rfl (by rw [A1];exact hTB) (Nat.zero_add _) (eQ.mono (fun k' _ h=>⟨h,fun e=>h.2.2 (e▸F3 (by omega))⟩) hy2) fun Y2 fy2 uy2=>.nil ?_)
  have hM:=(hM.ext g2).set (hhg _ hTB) (by rw [List.length_set,A1]) uy2 fy2
  rw [AF8 hTB] at hM
  have sx2:=g2.size
  have sy2:=uy2.size
  have lw2:=hhm _ hTB
  have lk2:=hhk _ hTB
  have hW5:Below w1.heap.size w2 Y2:=uy2.below (hW5.trans (g2.mono (by omega))) lw2
  have k10:=(k10.ext g2).upd uy2 (by omega)
  have k11:=(k11.ext g2).upd uy2 (by omega)
  have hp5:=(ER.ext eQ hp5 g2).upd uy2 (fun h=>h.2.2 (F3 (by omega)))
  have hrow3:=hM.row (nw.T k) _ _ (hhg _ hTB) (E7 hTB)
  refine .par follows 18 [.inl (.slice (some ⟨gb,0,none⟩) B B),.inl (.pointer (some ⟨b10,1,none⟩)),.inl (.int .i64 (nw.T k:Nat)),.inl (.pointer (some ⟨gb,0+(nw.T k)*1,none⟩)),.inl (slB B (hs2.getD (nw.T k) 0)),.inl (.pointer (some ⟨b10,0,none⟩)),.inl (.int .i64 (nw.F k:Nat)),.inl (.slice (some ⟨gb,0,none⟩) B B),.inl (.pointer (some ⟨b10,1,none⟩)),.inl (.int .i64 (nw.T k:Nat)),.inl (.pointer (some ⟨gb,0+(nw.T k)*1,none⟩)),.inl (slB B (hs2.getD (nw.T k) 0)),.inl (.pointer (some ⟨b10,0,none⟩)),.inl (.int .i64 (nw.F k:Nat)),.inl (.pointer (some ⟨hs2.getD (nw.T k) 0,0+(nw.F k)*4,none⟩)),.inr (eQ.at (offM S gb hs2) (qc (f (nw.T k) (nw.F k)))),.inl vp,.inr (eQ.at (offM S gb hs2) (qc (f (nw.T k) (nw.F k)-nw.g k)))]
   [[],[],[(96,1)],[(95,0),(97,2)],[(98,3)],[],[(100,5)],[],[],[(103,8)],[(102,7),(104,9)],[(105,10)],[],[(107,12)],[(106,11),(108,13)],[(109,14)],[],[(110,15),(111,16)]] (by kernel_rfl) ⟨
   fun w e=>(v_mv rfl).ob,fun w e=>(v_fa K8 rfl).ob,fun w e=>(v_ld B0 rfl (k10.ext e) rfl).ob,fun w e=>(H0 (i:=nw.T k) un_M ty_V rfl rfl hTB).ob,fun w e=>(v_ld ty_V rfl (hM.out.ext e) (hM.cell (hhg _ hTB))).ob,fun w e=>(v_fa K9 rfl).ob,fun w e=>(v_ld B0 rfl (k10.ext e) rfl).ob,
   fun w e=>(v_mv rfl).ob,fun w e=>(v_fa K8 rfl).ob,fun w e=>(v_ld B0 rfl (k10.ext e) rfl).ob,fun w e=>(H0 (i:=nw.T k) un_M ty_V rfl rfl hTB).ob,fun w e=>(v_ld ty_V rfl (hM.out.ext e) (hM.cell (hhg _ hTB))).ob,fun w e=>(v_fa K9 rfl).ob,fun w e=>(v_ld B0 rfl (k10.ext e) rfl).ob,
   fun w e=>(H0 (i:=nw.F k) un_V ty_Q rfl rfl hFB).ob,
   fun w e=>(X8 (E:=eQ) (i:=nw.F k) (by decide) ty_Q rfl (Nat.zero_add _) (hrow3.2.ext e) (by rw [G1 hFB,AJ1 (.inr hne),AJ1 (.inl (Ne.symm hne)),AJ1 (.inl (Ne.symm hne))])).mono fun v' w' h=>⟨h.1,fun w'' e'=>eQ.mono (fun _ _ h=>h.1) (h.2 w'' e')⟩,
   fun w e=>((B8 ty_Q rfl (k11.ext e) (eQ.csz hp5)).eq hvp.symm).ob,
   fun w e x hx=>by
    have:=Q9 (L:=30) (upT (by have:=e.size;omega)) hx (ER.ext eQ hp5 e) (hfs _ _).toOk (hgs.mono (by decide)).toOk (by decide) (by decide)
    rw [A8,A8] at this
    exact (A2 _ R6 rfl this).ob (A6 _ _ _),trivial⟩ ?_
  intro X3 g3 _ _ y3 hy3
  refine .ixB (i:=nw.F k) un_V ty_Q rfl rfl rfl hFB (.storeF (E:=eQ) (i:=nw.F k) (by decide) ty_Q rfl rfl (hrow3.2.ext g3) rfl (by rw [A1];exact hFB) (Nat.zero_add _) (eQ.mono (fun k' _ h=>⟨h,fun e=>h.2.2 (e▸F3 (by omega))⟩) hy3) fun Y3 fy3 uy3=>.nil ?_)
  have hM:=(hM.ext g3).set (hhg _ hTB) (by rw [List.length_set,A1]) uy3 fy3
  rw [AF8 hTB] at hM
  have sx3:=g3.size
  have sy3:=uy3.size
  have lw3:=hhm _ hTB
  have lk3:=hhk _ hTB
  have hW5:Below w1.heap.size w2 Y3:=uy3.below (hW5.trans (g3.mono (by omega))) lw3
  have k10:=(k10.ext g3).upd uy3 (by omega)
  have k11:=(k11.ext g3).upd uy3 (by omega)
  have hp5:=(ER.ext eQ hp5 g3).upd uy3 (fun h=>h.2.2 (F3 (by omega)))
  have hfin:tabM B B (upE (upE (upE (upE f (nw.F k) (nw.F k) (f (nw.F k) (nw.F k)+nw.g k)) (nw.F k) (nw.T k) (f (nw.F k) (nw.T k)-nw.g k)) (nw.T k) (nw.T k) (f (nw.T k) (nw.T k)+nw.g k)) (nw.T k) (nw.F k) (f (nw.T k) (nw.F k)-nw.g k))=tabM B B (nw.lmL ((inL n o).take (i+1))):=E8 fun b c _ _=>by
   rw [htk,Nw.lmL_snoc,hf]
   exact nw.four hne f b c
  rw [hfin] at hM
  refine .region (.add rfl rfl rfl (.mv rfl rfl (.nil ?_)))
  rw [wI (by omega)]
  exact ⟨rfl,i+1,lkA rfl,⟨hW5,hlt,hM⟩,by show (inL n o).length-(i+1)<(inL n o).length-i;omega⟩
 rintro _ W ⟨hW,hM⟩
 have hMs:FB eV 32 S W gb _:=hM.toFB (fun k hk=>up k (by have:=hge k hk;omega)) (by omega)
 have hWs:=hW.size
 have hgl:=hMs.lt
 refine .seq (.region (.fa P3 rfl rfl (.ld B0 rfl rfl (hk3 hW) rfl ?_)))
 refine .call _ rfl AS5 rfl (AQ2 (S:=fun k=>S k∧k≠gb) fun k hk=>⟨up k (by omega),by omega⟩) fun vu W1 f1 hu=>.asg rfl rfl (.nil ?_)
 rw [hcB] at hu
 have hW1:=hW.trans (f1.mono (by omega))
 have hf1:=f1.size
 generalize hF:(fun i=>fun b c=>if b∈nw.refs.take i then dl b c else nw.lmL (inL n o) b c:Nat→RM)=F
 have hF0:tabM B B (nw.lmL (inL n o))=tabM B B (F 0):=E8 fun b c _ _=>by rw [←hF];simp
 rw [hF0] at hMs
 refine .seq (.seq (.region (.mv rfl rfl (.lenR un_I rfl rfl (hrW hW1) (.mv rfl rfl (.nil ?_))))))
 rw [show (pInts nw.refs).length=nw.refs.length by simp]
 have hrl:nw.refs.length≤B:=by rw [←hB];exact nw.cnt_le nw.B
 refine .block (.loop (α:=Nat) (fun i=>[(7,.slice (some ⟨gb,0,none⟩) B B),(13,vu),(118,vr),(119,.int .i64 (nw.refs.length:Nat)),(120,.int .i64 (i:Nat))]) (fun i W=>Below w1.heap.size w2 W∧i≤nw.refs.length∧eM.R (fun k=>S k∧k≠gb) W vu (tabM B B idn)∧FB eV 32 S W gb (tabM B B (F i))) (fun i=>nw.refs.length-i) 0 ?_ ?_ ?_)
 ·exact lkA rfl
 ·exact ⟨hW1,Nat.zero_le _,hu,hMs.ext f1⟩
 rintro i W ⟨hW,hi,hu,hMs⟩
 refine .seq (.region ?_)
 rcases Nat.lt_or_ge i nw.refs.length with hlt | hge'
 rotate_left
 ·refine .lssF rfl rfl rfl (by omega) (.nil (.seq (.condF rfl (.exit (.seq (.region (.mv rfl rfl (.asg rfl rfl (.nil (.ret ?_))))))))))
  have:i=nw.refs.length:=by omega
  subst this
  refine .plain [_] Tryz.results85 ⟨rfl,trivial⟩ ⟨Below.trans x2 (hW.mono (by omega)),?_⟩
  have hfin:tabM B B (F nw.refs.length)=tabM B B nw.gm:=E8 fun b c hb _=>by
   rw [←hF]
   dsimp only
   rw [List.take_of_length_le (Nat.le_refl _)]
   unfold Nw.gm
   by_cases hr:nw.root b=b
   ·rw [if_pos hr,if_pos (Nw.mem_refs.2 ⟨by omega,hr⟩)]
   ·rw [if_neg hr,if_neg fun h=>hr (Nw.mem_refs.1 h).2]
    unfold Nw.Lm
    rw [←hnw]
    exact Nw.lmL_free (p:=oN o) b c _ fun k hk=>ok.g0 hk
  rw [hfin] at hMs
  have:=hMs.toR (hsz:=by decide) (c:=B) (up gb (by omega)) (by rw [A5];exact Nat.le_refl _) (by rw [A5];omega)
  rw [A5] at this
  exact this
 have hgr:(pInts nw.refs)[i]?=some ((nw.refs.getD i 0:Nat):Int):=by rw [List.getElem?_map,A9 (z:=0) hlt];rfl
 have hrB:nw.refs.getD i 0<B:=by rw [←hB];exact (Nw.mem_refs.1 (F3 hlt)).1
 refine .lssT rfl rfl rfl (by omega) (.nil (.seq (.condT rfl (.skip (.seq (.block (.seq (.region (.ixN (i:=i) un_I E2 rfl rfl (hrW hW) rfl hgr fun q hq=>.ldE (E:=eInt .i64) E2 rfl rfl hq fun e he=>.asg rfl rfl (.nil ?_))))))))))
 obtain ⟨rfl,_⟩:=he
 refine .region (.mv rfl rfl (.mv rfl rfl (.mv rfl rfl (.mv rfl rfl (.ixN (i:=nw.refs.getD i 0) un_M ty_V rfl rfl hu rfl (E7 hrB) fun q hq=>.ldE (E:=eV) ty_V rfl rfl hq fun vw hvw=>.ixB (i:=nw.refs.getD i 0) un_M ty_V rfl rfl rfl hrB ?_)))))
 refine .storeF (E:=eV) (i:=nw.refs.getD i 0) (by decide) ty_V rfl rfl hMs rfl (by rw [A5];exact hrB) (Nat.zero_add _) hvw fun W2 f2 u2=>.nil ?_
 rw [V3 hrB] at f2
 have hstep:tabM B B (fun j k=>if j=nw.refs.getD i 0 then idn (nw.refs.getD i 0) k else F i j k)=tabM B B (F (i+1)):=E8 fun b c _ _=>by
  rw [←hF]
  dsimp only
  rw [show nw.refs.take (i+1)=nw.refs.take i++[nw.refs.getD i 0] by rw [List.take_add_one,A9 (z:=0) hlt];rfl]
  by_cases e:b=nw.refs.getD i 0
  ·rw [if_pos e,if_pos (by rw [e];simp),e];rfl
  ·rw [if_neg e]
   by_cases h:b∈nw.refs.take i
   ·rw [if_pos h,if_pos (List.mem_append.2 (.inl h))]
   ·rw [if_neg h,if_neg fun h'=>by
     rcases List.mem_append.1 h' with h' | h'
     ·exact h h'
     ·exact e (List.mem_singleton.1 h')]
 rw [hstep] at f2
 refine .region (.add rfl rfl rfl (.mv rfl rfl (.nil ?_)))
 rw [wI (by omega)]
 exact ⟨rfl,i+1,lkA rfl,⟨u2.below hW hgb,hlt,ER.upd eM hu u2 (fun h=>h.2 rfl),f2⟩,by show nw.refs.length-(i+1)<nw.refs.length-i;omega⟩
end Go.Proofs.YtfilidfomgfnhaaGreat

namespace Go.Kx
open Go Go.RowKit
theorem FB.new {α:Type} {E:ER α} {t:TypeId} {S:Nat→Prop} {w w1 w2:World} {g b:Nat} {l:List α} (h:FB E t S w g l) (e:Ext w w1) (u:Upd w1 w2 b) (hb:w.heap.size≤b):FB E t S w2 g l:=by
 have h1:=h.mono (S':=fun k=>S k∧k<w.heap.size) fun k hk hS=>⟨hS,hk⟩
 have hg:=h.lt
 have h2:=(h1.ext e).upd u (by omega) fun hS=>by have:=hS.2;omega
 exact h2.mono fun k _ hS=>hS.1
theorem Ad9 (n:Nat):tab n (fun _=>0)=List.replicate n q0:=by
 unfold tab
 simp [O2,List.map_const']
end Go.Kx
namespace Go.Proofs.YtfilidfomgfnhaaGreat
open Go Go.Kx Go.RowKit
theorem g_on {n:NtV} {o:List Int} {k:Nat} (hko:k∉oN o):(nwOf n o).g k=((n.ls.getD k ln0).x:Rat)⁻¹:=by
 show (if k∈oN o then (0:Rat) else ((n.ls.getD k ln0).x:Rat)⁻¹)=_
 rw [if_neg hko]
theorem mem_inL {n:NtV} {o:List Int} {k:Nat}:k∈inL n o↔k<n.ls.length∧k∉oN o:=by
 unfold inL freeTo
 rw [List.mem_filter,List.mem_range]
 simp
theorem fl_tab {n:NtV} {o:List Int} (ok:nwOk n o) (θ:Nat→Rat):tab n.ls.length (fun k=>if k∈inL n o then (nwOf n o).fl θ k else 0)=tab n.ls.length ((nwOf n o).fl θ):=F6 fun k hk=>by
 by_cases h:k∈inL n o
 ·rw [if_pos h]
 ·rw [if_neg h,Nw.fl_out ((ok.g0 hk).2 (Classical.byContradiction fun h'=>h (mem_inL.2 ⟨hk,h'⟩)))]
theorem As6 {l:List Nat} {M i:Nat} {f:Nat→Rat} (hi:i<l.length):(tab M fun k=>if k∈l.take i then f k else 0).set (l.getD i 0) (qc (f (l.getD i 0)))=tab M fun k=>if k∈l.take (i+1) then f k else 0:=by
 rw [AN1]
 refine F6 fun k _=>?_
 rw [show l.take (i+1)=l.take i++[l.getD i 0] by rw [List.take_add_one,A9 (z:=0) hi];rfl]
 by_cases e:k=l.getD i 0
 ·rw [if_pos e,if_pos (by rw [e];simp),e]
 ·rw [if_neg e]
  by_cases h:k∈l.take i
  ·rw [if_pos h,if_pos (List.mem_append.2 (.inl h))]
  ·rw [if_neg h,if_neg fun h'=>by
    rcases List.mem_append.1 h' with h' | h'
    ·exact h h'
    ·exact e (List.mem_singleton.1 h')]
theorem E_col:Ent Tryz.prog 86:=A0 Tryz.func86 (by kernel_rfl) rfl
theorem col_c {S:Nat→Prop} {w:World} {s vl vi x:Value} {n:NtV} {o:List Int} {m:List (List QV)} {L b b2 b6 b9:Nat} (up:Up S w) (ok:nwOk n o) (k2:Blk w b2 24 #[x,s]) (hs:eLs.R S w s n.ls) (k6:Blk w b6 25 #[vl]) (hl:eI.R S w vl (pInts (inL n o)))
  (k9:Blk w b9 28 #[vi]) (hi:eM.R S w vi m) (hk:mk_ L m) (hL:1≤L) (hL2:L≤1000000000) :
  CR Tryz.prog 86 #[.int .i64 (b:Nat),.pointer (some ⟨b2,0,none⟩),.pointer (some ⟨b6,0,none⟩),.pointer (some ⟨b9,0,none⟩)] w (eV.at S (tab n.ls.length ((nwOf n o).fl fun c=>rm m c b))):=by
 have hM10:n.ls.length≤10:=ok.m
 have hll:=AN5 n o
 generalize hθ:(fun c=>rm m c b)=θ
 refine enter Tryz.func86 rfl Tryz.ntmps86 rfl ?_
 refine .seq (.region (.asg rfl rfl (.nil (.seq (.region (.fa L5 rfl rfl (.ld Q5 rfl rfl k2 rfl (.lenR O5 rfl rfl hs ?_))))))))
 refine .make_ _ _ un_V K4 rfl (by decide) rfl rfl rfl (Nat.le_refl _) (by omega) (by omega) fun w1 h n1=>.asg rfl rfl (.nil ?_)
 have f1:FB eQ 55 S w1 h (List.replicate n.ls.length q0):=FB.made n1 zq_R
 obtain ⟨e1,_,hh,hs1⟩:=n1
 rw [←Ad9] at f1
 have hlW:∀ {W:World},Ext w W→eI.R S W vl (pInts (inL n o)):=fun e=>ER.ext eI hl e
 refine .seq (.seq (.region (.ld ty_I rfl rfl (k6.ext e1) rfl (.lenR un_I rfl rfl (hlW e1) (.mv rfl rfl (.nil ?_))))))
 rw [show (pInts (inL n o)).length=(inL n o).length by simp]
 refine .block (.loop (α:=Nat) (fun i=>[(0,.int .i64 (b:Nat)),(1,.pointer (some ⟨b2,0,none⟩)),(2,.pointer (some ⟨b6,0,none⟩)),(3,.pointer (some ⟨b9,0,none⟩)),(6,slB n.ls.length h),(15,vl),(16,.int .i64 ((inL n o).length:Nat)),(17,.int .i64 (i:Nat))]) (fun i W=>Ext w W∧i≤(inL n o).length∧FB eQ 55 S W h (tab n.ls.length fun k=>if k∈(inL n o).take i then (nwOf n o).fl θ k else 0)) (fun i=>(inL n o).length-i) 0 ?_ ?_ ?_)
 ·exact lkA rfl
 ·exact ⟨e1,Nat.zero_le _,by simpa using f1⟩
 rintro i W ⟨hW,hi',fb⟩
 have hWs:=hW.size
 have hhl:=fb.lt
 refine .seq (.region ?_)
 rcases Nat.lt_or_ge i (inL n o).length with hlt | hge
 rotate_left
 ·refine .lssF rfl rfl rfl (by omega) (.nil (.seq (.condF rfl (.exit (.seq (.region (.mv rfl rfl (.asg rfl rfl (.nil (.ret ?_))))))))))
  have:i=(inL n o).length:=by omega
  subst this
  rw [List.take_of_length_le (Nat.le_refl _),fl_tab ok] at fb
  refine .plain [_] Tryz.results86 ⟨rfl,trivial⟩ ⟨hW,?_⟩
  have:=fb.toR (hsz:=by decide) (c:=n.ls.length) (up h (by omega)) (by rw [A1];exact Nat.le_refl _) (by rw [A1];omega)
  rw [A1] at this
  exact this
 obtain ⟨hgk,hkM,hko⟩:=AZ6 hlt
 refine .lssT rfl rfl rfl (by omega) (.nil (.seq (.condT rfl (.skip (.seq (.block (.seq (.region (.ixN (i:=i) un_I E2 rfl rfl (hlW hW) rfl hgk fun q hq=>.ldE (E:=eInt .i64) E2 rfl rfl hq fun e he=>.asg rfl rfl (.nil ?_))))))))))
 obtain ⟨rfl,_⟩:=he
 have hset:=As6 (M:=n.ls.length) (f:=(nwOf n o).fl θ) hlt
 have hgl:n.ls[(inL n o).getD i 0]?=some (n.ls.getD ((inL n o).getD i 0) ln0):=A9 hkM
 have hFI:=ok.fI _ hkM
 have hTI:=ok.tI _ hkM
 have hx:=ok.x _ hkM
 have hgv:=g_on (n:=n) hko
 generalize hkk:(inL n o).getD i 0=k at hset hgl hFI hTI hx hgv hkM
 generalize hln:n.ls.getD k ln0=ln at hgl hFI hTI hx hgv
 refine .seq (.region (.fa L5 rfl rfl (.ld Q5 rfl rfl (k2.ext hW) rfl (.mv rfl rfl (.ixN (i:=k) O5 S2 rfl rfl (hs.ext hW) rfl hgl fun q hq=>.ldE (E:=eL) S2 rfl rfl hq fun vl' hvl=>.alloc rfl AX3 fun W1 c9 n1'=>?_)))))
 obtain ⟨g1,k9',hc9,hs1'⟩:=n1'
 refine .storeA (E:=eL) (S:=fun k=>k≠c9) (z:=ln) S2 rfl rfl k9' rfl rfl hvl (fun h=>h rfl) fun W2 k9' u2 hl2=>.nil ?_
 obtain ⟨rfl,_⟩:=hl2
 rw [hFI,hTI] at k9'
 replace k9':Blk W2 c9 80 #[.int .i64 ((nwOf n o).F k:Nat),.int .i64 ((nwOf n o).T k:Nat),.int .i64 ln.x,.int .i64 ln.c]:=k9'
 have x2:Ext W W2:=u2.below g1 (by omega)
 have hs2:=u2.size
 have fb:=fb.new g1 u2 (by omega)
 have hW2:=hW.trans x2
 have upT:∀ {W':World},W2.heap.size≤W'.heap.size→Up (fun k=>S k∧k≠h) W':=fun hs k' hk'=>⟨up k' (by omega),by omega⟩
 have hmi:∀ {W':World},Ext W2 W'→eM.R (fun k=>S k∧k≠h) W' vi m:=fun e=>ER.ext eM (eM.mono (fun k' _ hk'=>⟨hk'.1,by have:=hk'.2;omega⟩) (ER.ext eM (ER.lt eM hi) hW2)) e
 have hat:∀ c:Nat,rmI m c b=θ c:=fun c=>by rw [AN2,←hθ]
 have hrz:∀ c,Rsz (θ c) L:=fun c=>by rw [←hθ];exact hk.rsz hL c b
 refine .seq ?_
 refine .par follows 12 [.inl vi,.inl (.pointer (some ⟨c9,0,none⟩)),.inl (.int .i64 ((nwOf n o).F k:Nat)),.inl (.int .i64 (b:Nat)),.inr (eQ.at (fun k=>S k∧k≠h) (qc (θ ((nwOf n o).F k)))),.inl vi,.inl (.pointer (some ⟨c9,1,none⟩)),.inl (.int .i64 ((nwOf n o).T k:Nat)),.inl (.int .i64 (b:Nat)),.inr (eQ.at (fun k=>S k∧k≠h) (qc (θ ((nwOf n o).T k)))),.inr (eQ.at (fun k=>S k∧k≠h) (qc (θ ((nwOf n o).F k)-θ ((nwOf n o).T k)))),.inr (NewP W2.heap.size 55 zq.cells)]
  [[],[],[(27,1)],[],[(26,0),(28,2),(29,3)],[],[],[(32,6)],[],[(31,5),(33,7),(34,8)],[(30,4),(35,9)],[]] (by kernel_rfl) ⟨
  fun w e=>(v_ld ty_M rfl ((k9.ext hW2).ext e) rfl).ob,fun w e=>(v_fa K9 rfl).ob,fun w e=>(v_ld B0 rfl (k9'.ext e) rfl).ob,fun w e=>(v_mv rfl).ob,
  fun w e=>by
   have:=AA7 (i:=((nwOf n o).F k:Nat)) (k:=(b:Nat)) (upT e.size) (hmi e) hk hL (by omega)
   rw [hat] at this
   exact (A2 _ AC2 rfl this).ob (A6 _ _ _),
  fun w e=>(v_ld ty_M rfl ((k9.ext hW2).ext e) rfl).ob,fun w e=>(v_fa K8 rfl).ob,fun w e=>(v_ld B0 rfl (k9'.ext e) rfl).ob,fun w e=>(v_mv rfl).ob,
  fun w e=>by
   have:=AA7 (i:=((nwOf n o).T k:Nat)) (k:=(b:Nat)) (upT e.size) (hmi e) hk hL (by omega)
   rw [hat] at this
   exact (A2 _ AC2 rfl this).ob (A6 _ _ _),
  fun w e x hx y hy=>by
   have:=Q9 (L:=L) (upT e.size) hx hy (hrz _).toOk (hrz _).toOk hL (by omega)
   rw [A8,A8] at this
   exact (A2 _ R6 rfl this).ob (A6 _ _ _),
  fun w e=>AA4 B7 e.size,trivial⟩ ?_
 rintro W3 g3 _ _ _ _ y10 hy10 _ ⟨c10,rfl,hc10,k10⟩
 have hy10':=Aa1 hy10 k10 AC4
 refine .storeA (E:=eQ) ty_Q rfl rfl k10 rfl rfl hy10' (fun h=>h.2 rfl) fun W4 k10 u4 hy=>.nil ?_
 have hs3:=g3.size
 have hs4:=u4.size
 have x4:Ext W2 W4:=u4.below g3 hc10
 have hy:eQ.R (fun k=>S k∧k≠h) W4 y10 _:=eQ.mono (fun _ _ h=>h.1) hy
 have hyv:=shpA (E:=eQ) rfl hy
 have fb:=fb.new g3 u4 hc10
 have hd:Rsz (θ ((nwOf n o).F k)-θ ((nwOf n o).T k)) (L+L+1):=by
  rw [Rat.sub_eq_add_neg]
  exact (hrz _).add (hrz _).neg
 have hx0:((ln.x:Int):Rat)≠0:=fun e=>by
  have:ln.x=0:=by exact_mod_cast e
  omega
 have hflv:(θ ((nwOf n o).F k)-θ ((nwOf n o).T k)) / ((ln.x:Int):Rat)=(nwOf n o).fl θ k:=by
  unfold Nw.fl
  rw [hgv,Rat.div_def,Rat.mul_comm]
 have hr1:Rsz ((ln.x:Int):Rat) (L+L+1):=Rsz.int _ (Nat.lt_of_lt_of_le (by omega:ln.x.natAbs<4294967296 ^ 1) (Nat.pow_le_pow_right (by decide) (by omega))) (by omega)
 refine .parL follows 10 [9] [.inl (slB n.ls.length h),.inl (.int .i64 (k:Nat)),.inl y10,.inl (.pointer (some ⟨c9,2,none⟩)),.inl (.int .i64 ln.x),.inr (eQ.at (fun k=>S k∧k≠h) (qc ((ln.x:Int):Rat))),.inr (Two (eQ.at (fun k=>S k∧k≠h) (qc ((nwOf n o).fl θ k))) (Is (.int .i64 0))),.inr (Two (eQ.at (fun k=>S k∧k≠h) (qc ((nwOf n o).fl θ k))) (Is (.int .i64 0))),.inr (eQ.at (fun k=>S k∧k≠h) (qc ((nwOf n o).fl θ k))),.inl (.int .i64 0)]
  [[],[],[],[],[(41,3)],[(42,4)],[(40,2),(43,5)],[(44,6)],[(37,7)],[(37,7)]] (by kernel_rfl) ⟨
  fun w e=>(v_mv rfl).ob,fun w e=>(v_mv rfl).ob,fun w e=>((B8 ty_Q rfl (k10.ext e) (eQ.csz hy)).eq hyv.symm).ob,fun w e=>(v_fa AN8 rfl).ob,fun w e=>(v_ld L1 rfl ((k9'.ext x4).ext e) rfl).ob,
  fun w e=>(A2 _ C1 rfl (C0 (upT (by have:=e.size;omega)) (by omega) (by omega))).ob (A6 _ _ _),
  fun w e x hx=>by
   have:=AR2 (L:=L+L+1) (upT (by have:=e.size;omega)) (ER.ext eQ hy e) hx hd.toOk hr1.toOk (by omega) (by omega) (by rw [A8];exact hx0)
   rw [A8,A8,hflv] at this
   exact (A2 _ AS6 rfl this).ob (T5 (A6 _ _ _) (AF9 _)),
  fun w e x hx=>L9 (v_mv rfl) hx (T5 (A6 _ _ _) (AF9 _)),
  fun w e x hx=>by
   obtain ⟨a,b,rfl,ha,hb⟩:=hx
   exact L9 (v_ex rfl rfl) ha (A6 _ _ _),
  fun w e x hx=>by
   obtain ⟨a,b,rfl,ha,hb⟩:=hx
   exact ((v_ex rfl rfl).eq hb).ob,trivial⟩ ?_
 intro W5 g5 _ _ _ _ _ _ y8 hy8
 refine .ixB (i:=k) un_V ty_Q rfl rfl rfl hkM (.storeF (E:=eQ) (i:=k) (by decide) ty_Q rfl rfl (fb.ext g5) rfl (by rw [A1];exact hkM) (Nat.zero_add _) hy8 fun W6 f6 u6=>.nil ?_)
 rw [hset] at f6
 refine .region (.add rfl rfl rfl (.mv rfl rfl (.nil ?_)))
 rw [wI (by omega)]
 exact ⟨rfl,i+1,lkA rfl,⟨u6.below ((hW2.trans x4).trans g5) (by omega),hlt,f6⟩,by show (inL n o).length-(i+1)<(inL n o).length-i;omega⟩
end Go.Proofs.YtfilidfomgfnhaaGreat

namespace Go.Kx
open Go Go.RowKit
/-- an end of a right: a bus, and a whole quantity -/
def eEn:ER (Int×Int) where
 sz:=5
 isA:=true
 R:=fun S w v x=>∃ s t,v=.agg #[.int .i64 x.1,.bool (qc ((x.2:Int):Rat)).num.neg,s,.bool (qc ((x.2:Int):Rat)).den.neg,t]∧eQ.R S w (.agg #[.bool (qc ((x.2:Int):Rat)).num.neg,s,.bool (qc ((x.2:Int):Rat)).den.neg,t]) (qc ((x.2:Int):Rat))∧inI x.1
 csz:=by rintro S w e x ⟨s,t,rfl,_⟩;rfl
 one:=by
  rintro S w e x ⟨s,t,rfl,h,_⟩ u hu
  have ho:=eQ.one h
  simp only [Value.cells,List.mem_cons] at hu
  rcases hu with rfl | hu
  ·rfl
  ·exact ho u (by simpa [Value.cells] using hu)
 shp:=by rintro S w e x ⟨s,t,rfl,_⟩;rfl
 keep:=fun hk ⟨s,t,h1,h2,h3⟩=>⟨s,t,h1,eQ.keep hk h2,h3⟩
 mono:=fun hk ⟨s,t,h1,h2,h3⟩=>⟨s,t,h1,eQ.mono hk h2,h3⟩
abbrev eEns:ER (List (Int×Int)):=RL eEn
/-- what the ends bring to a bus -/
def enS (z:Nat→Int) (l:List (Int×Int)) (b:Nat):Int:=l.foldl (fun s t=>s+if t.1=(b:Int) then t.2 else 0) (z b)
theorem AR5 (z:Nat→Int) (l:List (Int×Int)) (t:Int×Int) (b:Nat):enS z (l++[t]) b=enS z l b+if t.1=(b:Int) then t.2 else 0:=by unfold enS;rw [List.foldl_append];rfl
theorem Aw5 {z:Nat→Int} {M C:Nat} (hz:∀ b,(z b).natAbs≤C):∀ (m:Nat) (l:List (Int×Int)),l.length=m→(∀ t∈l,t.2.natAbs≤M)→∀ b,(enS z l b).natAbs≤C+m*M
 | 0,l,hl,_,b=>by rw [List.length_eq_zero_iff.1 hl];simpa [enS] using hz b
 | m+1,l,hl,h,b=>by
  obtain ⟨l',k,rfl⟩:∃ l' k,l=l'++[k]:=⟨l.dropLast,l.getLast (by intro e;rw [e] at hl;cases hl),(List.dropLast_concat_getLast _).symm⟩
  rw [AR5]
  have h1:=Aw5 hz m l' (by simp at hl;exact hl) (fun t ht=>h t (by simp [ht])) b
  have h2:=h k (by simp)
  rw [Nat.succ_mul]
  split<;>omega
theorem V6 {n:Int} (h:n.natAbs≤1208925819614629174706176):Rsz ((n:Int):Rat) 3:=Rsz.int _ (by
 have:(4294967296:Nat) ^ 3=79228162514264337593543950336:=by decide
 omega) (by decide)
/-- the injections of rights -/
def rtS (l:List RtV) (b:Nat):Int:=l.foldl (fun s r=>s+(if r.f=(b:Int) then r.q else 0)-(if r.t=(b:Int) then r.q else 0)) 0
theorem AP8 (l:List RtV) (r:RtV) (b:Nat):rtS (l++[r]) b=rtS l b+(if r.f=(b:Int) then r.q else 0)-(if r.t=(b:Int) then r.q else 0):=by unfold rtS;rw [List.foldl_append];rfl
theorem rtS_two (z:Nat→Int) (r:RtV) (b:Nat):enS z [(r.f,r.q),(r.t,-r.q)] b=z b+(if r.f=(b:Int) then r.q else 0)-(if r.t=(b:Int) then r.q else 0):=by
 show z b+(if r.f=(b:Int) then r.q else 0)+(if r.t=(b:Int) then -r.q else 0)=_
 split<;>split<;>omega
theorem At4 {l:List RtV} {M:Nat} (h:∀ r∈l,r.q.natAbs≤M) (b:Nat):(rtS l b).natAbs≤l.length*(2*M):=by
 have key:∀ (m:Nat) (l:List RtV),l.length=m→(∀ r∈l,r.q.natAbs≤M)→(rtS l b).natAbs≤m*(2*M):=by
  intro m
  induction m with
  | zero=>intro l hl _;rw [List.length_eq_zero_iff.1 hl];simp [rtS]
  | succ m ih =>
   intro l hl h
   obtain ⟨l',k,rfl⟩:∃ l' k,l=l'++[k]:=⟨l.dropLast,l.getLast (by intro e;rw [e] at hl;cases hl),(List.dropLast_concat_getLast _).symm⟩
   rw [AP8]
   have h1:=ih l' (by simp at hl;exact hl) fun r hr=>h r (by simp [hr])
   have h2:=h k (by simp)
   rw [Nat.succ_mul]
   split<;>split<;>omega
 exact key _ l rfl h
end Go.Kx
namespace Go.Proofs.YtfilidfomgfnhaaGreat
open Go Go.Kx Go.RowKit
theorem As3:tyOf Tryz.prog 127=some (true,5):=by kernel_rfl
theorem As1:Tryz.prog.underlying 185=some (.slice 127):=by kernel_rfl
theorem zero_En:zeroOf Tryz.prog 127=some (.agg #[.int .i64 0,.bool false,.slice none 0 0,.bool false,.slice none 0 0]):=by kernel_rfl
theorem AZ8:fldOf Tryz.prog 127 0=some 0:=by kernel_rfl
theorem fld_En1:fldOf Tryz.prog 127 1=some 1:=by kernel_rfl
theorem Ax9 {a:Int} {x y z u:Value}:bldOf Tryz.prog 127 [(0,.int .i64 a),(1,.agg #[x,y,z,u])]=some #[.int .i64 a,x,y,z,u]:=by kernel_rfl
theorem bsl_En2 {a x y z u a' x' y' z' u':Value}:bslOf Tryz.prog 185 2 [(0,.agg #[a,x,y,z,u]),(1,.agg #[a',x',y',z',u'])]=some (127,#[a,x,y,z,u,a',x',y',z',u']):=by kernel_rfl
theorem Aw2 {a x y z u:Value}:∀ (j:Nat) (v:Value),[x,y,z,u][j]?=some v→(#[a,x,y,z,u]:Array Value)[0+1+j]?=some v:=by
 intro j v h
 match j with
 | 0=>exact h
 | 1=>exact h
 | 2=>exact h
 | 3=>exact h
 | j+4=>simp at h
theorem Ay2:Ent Tryz.prog 124:=A0 Tryz.func124 (by kernel_rfl) rfl
set_option maxRecDepth 8000 in
theorem Av5 {S T:Nat→Prop} {w:World} {ve:Value} {l:List (Int×Int)} {z:Nat→Int} {g B C M:Nat} (up:Up S w) (hT:∀ k,T k→S k∧k≠g) (fb:FB eQ 55 S w g (tab B fun b=>((z b:Int):Rat))) (he:eEns.R T w ve l) (hB:B≤6) (hl2:l.length≤2)
  (hz:∀ b,(z b).natAbs≤C) (hm:∀ t∈l,t.2.natAbs≤M) (hC:C+2*M≤1208925819614629174706176) :
  Calls Tryz.prog 124 #[slB B g,ve] w fun e w'=>∃ v,e=.returned v∧(Chg (fun k=>k=g) w w'∧FB eQ 55 S w' g (tab B fun b=>((enS z l b:Int):Rat))):=by
 have hgl:=fb.lt
 refine enterG Tryz.func124 rfl Tryz.ntmps124 rfl (.beg (.go rfl (.lenR As1 rfl rfl he ?_)))
 refine .goC rfl (.lp (α:=Nat) [0,6,7] rfl (fun i=>[(8,.int .i64 (i:Nat))]) (fun i W=>i≤l.length∧Chg (fun k=>k=g) w W∧FB eQ 55 S W g (tab B fun b=>((enS z (l.take i) b:Int):Rat))) (fun i=>l.length-i) 0 (lc1 rfl) ⟨Nat.zero_le _,Chg.refl _,fb⟩ ?_)
 clear fb
 rintro i W ⟨hi,hC0,fb⟩
 have hCs:=hC0.size
 refine .go rfl ?_
 rcases Nat.lt_or_ge i l.length with hlt | hge
 rotate_left
 ·refine .lssF rfl rfl rfl (by omega) (.goE rfl ?_)
  have:i=l.length:=by omega
  subst this
  rw [List.take_of_length_le (Nat.le_refl _)] at fb
  exact .plain [] Tryz.results124 trivial ⟨hC0,fb⟩
 have hg:=List.getElem?_eq_getElem hlt
 have htk:l.take (i+1)=l.take i++[l[i]]:=by rw [List.take_add_one,hg];rfl
 have hmt:=hm l[i] (List.getElem_mem hlt)
 generalize l[i]=t at hg htk hmt
 have heW:eEns.R T W ve l:=eEns.keep (hC0.kp fun k hk h=>(hT k hk).2 h) he
 have hzi:∀ b,(enS z (l.take i) b).natAbs≤C+1*M:=fun b=>by
  have:=Aw5 hz _ (l.take i) rfl (fun t ht=>hm t (List.mem_of_mem_take ht)) b
  have h2:=Nat.mul_le_mul_right M (show (l.take i).length≤1 by rw [List.length_take];omega)
  omega
 refine .lssT rfl rfl rfl (by omega) (.go rfl (.ixN (i:=i) As1 As3 rfl rfl heW rfl hg fun q hq=>.ldE (E:=eEn) As3 rfl rfl hq fun vt ht=>.alloc rfl zero_En fun W1 c n1=>?_))
 obtain ⟨g1,kc,hc,hs1⟩:=n1
 refine .storeA (E:=eEn) (S:=fun k=>T k∧k<W.heap.size) (z:=t) As3 rfl rfl kc rfl rfl (ER.ext eEn (ER.lt eEn ht) g1) (fun h=>by have:=h.2;omega) fun W2 kc u2 ht=>?_
 obtain ⟨s1,s2,rfl,hqt,hib⟩:=ht
 have hqt:eQ.R (fun k=>S k∧k≠g) W2 _ _:=eQ.mono (fun k _ h=>hT k h.1) hqt
 have hs2:=u2.size
 have fb2:=fb.new g1 u2 (by omega)
 have hC2:Chg (fun k=>k=g) w W2:=hC0.trans ((Chg.ext (u2.below g1 (by omega):Ext W W2)))
 refine .go rfl (.fa AZ8 rfl rfl (.lc B0 rfl rfl kc rfl (.go rfl (.len un_V rfl rfl ?_))))
 refine .call _ rfl R5 rfl Q8 fun v3 W3 e3 h3=>?_
 subst h3
 have hs3:=e3.size
 have fb3:=fb2.ext e3
 have hC3:=hC2.trans (Chg.ext e3)
 have kc:=kc.ext e3
 have hqt:=ER.ext eQ hqt e3
 by_cases hb:0≤t.1∧t.1<(B:Nat)
 rotate_left
 ·rw [decide_eq_false hb]
  have hsame:(tab B fun b=>((enS z (l.take i) b:Int):Rat))=tab B fun b=>((enS z (l.take (i+1)) b:Int):Rat):=F6 fun b hbB=>by rw [htk,AR5,if_neg (by omega),Int.add_zero]
  rw [hsame] at fb3
  exact .go rfl (.inc rfl rfl rfl (by omega) (.goN rfl (.mk (i+1) rfl (lc1 rfl) ⟨⟨hlt,hC3,fb3⟩,by show l.length-(i+1)<l.length-i;omega⟩)))
 rw [decide_eq_true hb]
 obtain ⟨b,hb1⟩:∃ b:Nat,t.1=b:=⟨t.1.toNat,by omega⟩
 rw [hb1] at kc
 have hbB:b<B:=by omega
 have upT:∀ {W':World},W3.heap.size≤W'.heap.size→Up (fun k=>S k∧k≠g) W':=fun h k hk=>⟨up k (by omega),by have:=fb3.lt;omega⟩
 generalize hzz:(fun b=>enS z (l.take i) b)=zi at *
 have hzi:∀ b,(zi b).natAbs≤C+1*M:=fun b=>by rw [←hzz];exact hzi b
 have fb3:FB eQ 55 S W3 g (tab B fun b=>((zi b:Int):Rat)):=by rw [←hzz];exact fb3
 refine .goC rfl ?_
 refine .par follows 11 [.inl (slB B g),.inl (.pointer (some ⟨c,0,none⟩)),.inl (.int .i64 (b:Nat)),.inl (slB B g),.inl (.pointer (some ⟨c,0,none⟩)),.inl (.int .i64 (b:Nat)),.inl (.pointer (some ⟨g,0+b*4,none⟩)),.inr (eQ.at (fun k=>S k∧k≠g) (qc ((zi b:Int):Rat))),.inl (.pointer (some ⟨c,0+1,none⟩)),.inl (.agg #[.bool (qc ((t.2:Int):Rat)).num.neg,s1,.bool (qc ((t.2:Int):Rat)).den.neg,s2]),.inr (eQ.at (fun k=>S k∧k≠g) (qc ((zi b+t.2:Int):Rat)))] [[],[],[(18,1)],[],[],[(21,4)],[(20,3),(22,5)],[(23,6)],[],[(25,8)],[(24,7),(26,9)]] (by kernel_rfl) ⟨
  fun w e=>(v_mv rfl).ob,
  fun w e=>(v_fa AZ8 rfl).ob,
  fun w e=>(v_ld B0 rfl (kc.ext e) rfl).ob,
  fun w e=>(v_mv rfl).ob,
  fun w e=>(v_fa AZ8 rfl).ob,
  fun w e=>(v_ld B0 rfl (kc.ext e) rfl).ob,
  fun w e=>(H0 (i:=b) un_V ty_Q rfl rfl hbB).ob,
  fun w e=>X8 (E:=eQ) (i:=b) (by decide) ty_Q rfl (Nat.zero_add _) (fb3.ext e) (G1 hbB),
  fun w e=>(v_fa fld_En1 rfl).ob,
  fun w e=>(Z1 _ ty_Q rfl (kc.ext e) Aw2).ob,
  fun w e x7 hx7=>by
  have:=L4 (L:=3) (upT e.size) hx7 (ER.ext eQ hqt e) (V6 (by have:=hzi b;omega)).toOk (V6 (by omega)).toOk (by decide) (by decide)
  rw [A8,A8,←Rat.intCast_add] at this
  exact (A2 _ I3 rfl this).ob (A6 _ _ _),trivial⟩ ?_
 intro W4 e4 _ _ y4 hy4
 refine .ixB (i:=b) un_V ty_Q rfl rfl rfl hbB (.storeF (E:=eQ) (i:=b) (by decide) ty_Q rfl rfl (fb3.ext e4) rfl (by rw [A1];exact hbB) (Nat.zero_add _) hy4 fun W5 f5 u5=>?_)
 have hstep:(tab B fun b=>((zi b:Int):Rat)).set b (qc ((zi b+t.2:Int):Rat))=tab B fun b=>((enS z (l.take (i+1)) b:Int):Rat):=by
  rw [AN1]
  refine F6 fun j _=>?_
  rw [htk,AR5,hb1]
  have hzj:enS z (l.take i) j=zi j:=by rw [←hzz]
  rw [hzj]
  by_cases e:j=b
  ·rw [if_pos e,if_pos (by omega),e]
  ·rw [if_neg e,if_neg (by omega),Int.add_zero]
 rw [hstep] at f5
 exact .go rfl (.inc rfl rfl rfl (by omega) (.goN rfl (.mk (i+1) rfl (lc1 rfl) ⟨⟨hlt,(hC3.trans (Chg.ext e4)).trans (Chg.upd u5 rfl),f5⟩,by show l.length-(i+1)<l.length-i;omega⟩)))
def cut6 (b:Int):Nat:=(min b 6).toNat
theorem ob_En2 {S:Nat→Prop} {w:World} {σ:Env} {d:Option Tmp} {ty:TypeId} {pos:String} {af:Array Edge} {g:Option (Nat×Bool)} {x y:Operand} {u v:Value} {a b:Int×Int} (up:Up S w) (hu:eEn.R S w u a) (hv:eEn.R S w v b) (hx:ev σ x=some u:=by rfl) (hy:ev σ y=some v:=by rfl) :
  Gv Tryz.prog ⟨d,.buildSlice 185 2 #[(0,x),(1,y)],ty,pos,af,g⟩ σ w fun v' w'=>Ext w w'∧Sp.ok (.inr (eEns.at S [a,b])) v' w':=by
 have hu':=hu
 have hv':=hv
 obtain ⟨s,t,rfl,_,_⟩:=hu'
 obtain ⟨s',t',rfl,_,_⟩:=hv'
 refine (AQ6 (ps:=[(0,x),(1,y)]) [(0,.agg #[.int .i64 a.1,.bool (qc ((a.2:Int):Rat)).num.neg,s,.bool (qc ((a.2:Int):Rat)).den.neg,t]),(1,.agg #[.int .i64 b.1,.bool (qc ((b.2:Int):Rat)).num.neg,s',.bool (qc ((b.2:Int):Rat)).den.neg,t'])] (by simp [evp,hx,hy]) bsl_En2).mono fun v' w' ⟨b2,hv',n2⟩=>⟨n2.1,fun w'' e=>?_⟩
 rw [hv']
 exact ER.ext eEns (AJ9 (E:=eEn) (hsz:=by decide) [_,_] [a,b] n2 up rfl rfl (by decide) (Els.snoc (Els.snoc Els.nil hu) hv)) e
theorem Ak7:Ent Tryz.prog 57:=A0 Tryz.func57 (by kernel_rfl) rfl
set_option maxRecDepth 8000 in
theorem Ai6 {S:Nat→Prop} {w:World} {vl:Value} {l:List RtV} {b:Int} (up:Up S w) (hl:eRts.R S w vl l) (hl30:l.length≤30):CR Tryz.prog 57 #[vl,.int .i64 b] w (eV.at S (tab (cut6 b) fun k=>((rtS l k:Int):Rat))):=by
 refine enter Tryz.func57 rfl Tryz.ntmps57 rfl (.beg (.go rfl ?_))
 by_cases hb:b<1
 ·refine .lssT rfl rfl rfl hb (.goE rfl ?_)
  refine .plain [_] Tryz.results57 ⟨rfl,trivial⟩ ⟨Ext.refl _,?_⟩
  rw [show cut6 b=0 by unfold cut6;omega]
  exact RL.nil
 have hc6:cut6 b≤6∧1≤cut6 b:=by unfold cut6;omega
 refine .lssF rfl rfl rfl hb (.go rfl (.min_ rfl rfl rfl ?_))
 rw [show min b 6=((cut6 b:Nat):Int) by unfold cut6;omega]
 generalize cut6 b=B at hc6
 refine .make_ _ _ un_V K4 rfl (by decide) rfl rfl rfl (Nat.le_refl _) (by omega) (by omega) fun w3 g n3=>?_
 have f3:FB eQ 55 S w3 g (List.replicate B q0):=FB.made n3 zq_R
 obtain ⟨e3,_,hh,hs3⟩:=n3
 rw [←Ad9] at f3
 refine .go rfl (.lenR K2 rfl rfl (ER.ext eRts hl e3) ?_)
 refine .goC rfl (.lp (α:=Nat) [5,14,15] rfl (fun i=>[(16,.int .i64 (i:Nat))]) (fun i W=>Ext w W∧i≤l.length∧FB eQ 55 S W g (tab B fun k=>((rtS (l.take i) k:Int):Rat))) (fun i=>l.length-i) 0 (lc1 rfl) ⟨e3,Nat.zero_le _,f3⟩ ?_)
 rintro i W ⟨hW,hi,fb⟩
 have hWs:=hW.size
 have hgl:=fb.lt
 refine .go rfl ?_
 rcases Nat.lt_or_ge i l.length with hlt | hge
 rotate_left
 ·refine .lssF rfl rfl rfl (by omega) (.goE rfl ?_)
  have:i=l.length:=by omega
  subst this
  rw [List.take_of_length_le (Nat.le_refl _)] at fb
  refine .plain [_] Tryz.results57 ⟨rfl,trivial⟩ ⟨hW,?_⟩
  have:=fb.toR (hsz:=by decide) (c:=B) (up g (by omega)) (by rw [A1];exact Nat.le_refl _) (by rw [A1];omega)
  rw [A1] at this
  exact this
 have hg:=List.getElem?_eq_getElem hlt
 have htk:l.take (i+1)=l.take i++[l[i]]:=by rw [List.take_add_one,hg];rfl
 refine .lssT rfl rfl rfl (by omega) (.go rfl (.ixN (i:=i) K2 Q4 rfl rfl (ER.ext eRts hl hW) rfl hg fun q hq=>.ldE (E:=eRt) Q4 rfl rfl hq fun vr hr=>.alloc rfl AF3 fun W1 c n1=>?_))
 obtain ⟨g1,kc,hc,hs1⟩:=n1
 refine .storeA (E:=eRt) (S:=fun k=>k≠c) Q4 rfl rfl kc rfl rfl hr (fun h=>h rfl) fun W2 kc u2 hr=>?_
 obtain ⟨rfl,i1,i2,i3⟩:=hr
 have hqb:∀ r∈l.take i,r.q.natAbs≤9223372036854775808:=fun r hr=>by
  obtain ⟨j,hj⟩:=List.mem_iff_getElem?.1 (List.mem_of_mem_take hr)
  obtain ⟨ad,cc,_,_,e,he,_⟩:=RL.at_ hl hj
  have:=F0.1 he.2.2.2
  omega
 have i3':=F0.1 i3
 generalize l[i]=r at *
 have hs2:=u2.size
 have x2:Ext W W2:=u2.below g1 (by omega)
 have fb2:=fb.new g1 u2 (by omega)
 refine .go rfl (.fa AH3 rfl rfl (.lc L1 rfl rfl kc rfl ?_))
 have upT:∀ {W':World},W2.heap.size≤W'.heap.size→Up (fun k=>S k∧k≠g) W':=fun h k hk=>⟨up k (by omega),by omega⟩
 refine .call _ rfl C1 rfl (C0 (upT (Nat.le_refl _)) (by omega) (by omega)) fun vq W3 e3' hq3=>.alloc rfl B7 fun W4 b8 n4=>?_
 obtain ⟨e4,k8,hb8,hs4⟩:=n4
 have hs3':=e3'.size
 refine .storeA (E:=eQ) (S:=fun k=>(S k∧k≠g)∧k<W3.heap.size) ty_Q rfl rfl k8 rfl rfl (ER.ext eQ (ER.lt eQ hq3) e4) (fun h=>by have:=h.2;omega) fun W5 k8 u5 hq5=>?_
 have hs5:=u5.size
 have hq5:eQ.R (fun k=>S k∧k≠g) W5 vq _:=eQ.mono (fun _ _ h=>h.1) hq5
 have hqv:=shpA (E:=eQ) rfl hq5
 have x5:Ext W2 W5:=u5.below (e3'.trans e4) (by omega)
 have fb5:=fb2.new (e3'.trans e4) u5 (by omega)
 have kc:=kc.ext x5
 obtain ⟨s1,s2,hvq,hw1,hw2⟩:=id hq5
 refine .goC rfl ?_
 refine .par follows 11 [.inl (slB B g),.inl (.pointer (some ⟨c,0,none⟩)),.inl (.int .i64 r.f),.inl vq,.inl (.agg #[.int .i64 r.f,.bool (qc ((r.q:Int):Rat)).num.neg,s1,.bool (qc ((r.q:Int):Rat)).den.neg,s2]),.inl (.pointer (some ⟨c,1,none⟩)),.inl (.int .i64 r.t),.inl vq,.inr (eQ.at (fun k=>S k∧k≠g) (qc (((-r.q:Int)):Rat))),.inr (eEn.at (fun k=>S k∧k≠g) (r.t,-r.q)),.inr (eEns.at (fun k=>S k∧k≠g) [(r.f,r.q),(r.t,-r.q)])] [[],[],[(24,1)],[],[(25,2),(26,3)],[],[(28,5)],[],[(30,7)],[(29,6),(31,8)],[(27,4),(32,9)]] (by kernel_rfl) ⟨
  fun w e=>(v_mv rfl).ob,
  fun w e=>(v_fa AH5 rfl).ob,
  fun w e=>(v_ld B0 rfl (kc.ext e) rfl).ob,
  fun w e=>((B8 ty_Q rfl (k8.ext e) (eQ.csz hq5)).eq hqv.symm).ob,
  fun w e=>(AV2 _ (by rw [hvq];rfl) Ax9).ob,
  fun w e=>(v_fa AH4 rfl).ob,
  fun w e=>(v_ld B0 rfl (kc.ext e) rfl).ob,
  fun w e=>((B8 ty_Q rfl (k8.ext e) (eQ.csz hq5)).eq hqv.symm).ob,
  fun w e=>by
  have:=AE6 (L:=3) (upT (by have:=e.size;omega)) (ER.ext eQ hq5 e) (O6 (V6 (by omega))) (by decide) (by decide)
  rw [A8,←Rat.intCast_neg] at this
  exact (A2 _ AF2 rfl this).ob (A6 _ _ _),
  fun w e x8 hx8=>by
  obtain ⟨p1,p2,rfl,hp1,hp2⟩:=hx8
  exact L9 (AV2 _ rfl Ax9) (show eEn.R _ _ _ _ from ⟨p1,p2,rfl,⟨p1,p2,rfl,hp1,hp2⟩,i2⟩) (A6 _ _ _),
  fun w e x9 hx9=>ob_En2 (upT (by have:=e.size;omega)) ⟨s1,s2,rfl,by rw [←hvq];exact ER.ext eQ hq5 e,i1⟩ hx9,trivial⟩ ?_
 intro W6 e6 _ _ _ _ ve hve
 have hs6:=e6.size
 have fb6:=fb5.ext e6
 have hbd:∀ k,(rtS (l.take i) k).natAbs≤30*(2*9223372036854775808):=fun k=>Nat.le_trans (At4 hqb k) (Nat.mul_le_mul_right _ (show (l.take i).length≤30 by rw [List.length_take];omega))
 have hcall:=Av5 (S:=S) (T:=fun k=>S k∧k≠g) (up.ext (by omega)) (fun _ h=>h) fb6 hve hc6.1 (by simp) hbd (M:=9223372036854775808) (by intro t ht;simp at ht;rcases ht with rfl | rfl<;>simp<;>omega) (by decide)
 refine .callG [_,_] rfl Ay2 rfl hcall ?_
 rintro v W7 ⟨hC7,fb7⟩
 have hstep:(tab B fun k=>((enS (fun k=>rtS (l.take i) k) [(r.f,r.q),(r.t,-r.q)] k:Int):Rat))=tab B fun k=>((rtS (l.take (i+1)) k:Int):Rat):=F6 fun k _=>by rw [rtS_two,htk,AP8]
 have fb7:FB eQ 55 S W7 g (tab B fun k=>((rtS (l.take (i+1)) k:Int):Rat)):=by rw [←hstep];exact fb7
 exact .go rfl (.inc rfl rfl rfl (by omega) (.goN rfl (.mk (i+1) rfl (lc1 rfl) ⟨⟨hC7.below (hW.trans (x2.trans (x5.trans e6))) (by omega) (fun k hk=>by omega),hlt,fb7⟩,by show l.length-(i+1)<l.length-i;omega⟩)))
end Go.Proofs.YtfilidfomgfnhaaGreat

namespace Go.Kx
open Go Go.RowKit
section
variable {P:Program} {σ:Env} {w:World} {ty:TypeId} {pos:String} {af:Array Edge}
end
/-- an element of a row, wherever the world goes on -/
theorem Am5 {α:Type} {E:ER α} {hsz:0<E.sz} {S:Nat→Prop} {w:World} {v:Value} {l:List α} {i:Nat} {q:α} (h:(RL E hsz).R S w v l) (hq:l[i]?=some q):∃ ad c e,v=.slice (some ad) l.length c∧∀ W',Below w.heap.size w W'→PtrX W' (ad.add (i*E.sz)) e∧E.R (fun k=>S k∧k<w.heap.size) W' e q:=by
 obtain ⟨es,hE⟩:=RL.toEs h
 have hil:=(List.getElem?_eq_some_iff.1 hq).1
 obtain ⟨e,he⟩:∃ e,es[i]?=some e:=⟨_,List.getElem?_eq_getElem (by rw [hE.1.1];exact hil)⟩
 obtain ⟨ad,c,hv,hp⟩:=hE.at_ he
 have hr:=hE.1.2 i e q he hq
 refine ⟨ad,c,e,hv,fun W' hB=>⟨fun j u hu=>?_,E.keep (fun k c t f hk h=>(hB.block k hk.2).trans h) (ER.lt E hr)⟩⟩
 have h1:=hp j u hu
 have hl:=AH7 h1
 rw [AK1 (hB.block _ hl)]
 exact h1
theorem set_mid {α:Type} (l r:List α) (v x:α):(l++v::r).set l.length x=l++x::r:=by
 rw [List.set_append_right _ _ (Nat.le_refl _),Nat.sub_self,List.set_cons_zero]
theorem get_mid {α:Type} (l r:List α) (v:α):(l++v::r)[l.length]?=some v:=by
 rw [List.getElem?_append_right (Nat.le_refl _),Nat.sub_self];rfl
end Go.Kx
namespace Go.Proofs.YtfilidfomgfnhaaGreat
open Go Go.Kx Go.RowKit
theorem Ag9:Ent Tryz.prog 90:=A0 Tryz.func90 (by kernel_rfl) rfl
theorem Ad6 {S:Nat→Prop} {w:World} {vc:Value} {B M:Nat} {g:RM} (up:Up S w) (hc:eM.R S w vc (tabM B M g)) (hB:B≤1000) (hM:M≤1000) :
  CR Tryz.prog 90 #[vc,.int .i64 (M:Nat)] w (eM.at S (tabM M B fun i c=>g c i)):=by
 have hcW:∀ {W:World},Below w.heap.size w W→eM.R (fun k=>S k∧k<w.heap.size) W vc (tabM B M g):=fun h=>eM.keep (fun k c t f hk hh=>(h.block k hk.2).trans hh) (ER.lt eM hc)
 refine enter Tryz.func90 rfl Tryz.ntmps90 rfl ?_
 refine .seq (.region (.asg rfl rfl (.nil (.seq (.region (.mv rfl rfl ?_))))))
 refine .make_ M M un_M AZ5 rfl (by decide) rfl rfl rfl (Nat.le_refl _) (by omega) (by omega) fun w1 gb n1=>.asg rfl rfl (.nil ?_)
 obtain ⟨e1,k1,hgb,hs1⟩:=n1
 generalize hF:(fun i=>tab B fun c=>g c i)=F
 refine .seq (.seq (.region (.mv rfl rfl (.len un_M rfl rfl (.mv rfl rfl (.nil ?_))))))
 refine .block (.loop (α:=List Value) (fun rs=>[(0,vc),(5,.slice (some ⟨gb,0,none⟩) M M),(12,.int .i64 (M:Nat)),(13,.int .i64 (rs.length:Nat))]) (fun rs W=>Below w.heap.size w W∧rs.length≤M∧Blk W gb 32 (cellsOf (rs++List.replicate (M-rs.length) nilV)).toArray∧Els eV (fun k=>S k∧k≠gb) W rs ((List.range rs.length).map F)) (fun rs=>M-rs.length) [] ?_ ?_ ?_)
 ·exact lkA rfl
 ·exact ⟨e1,Nat.zero_le _,k1,Els.nil⟩
 rintro rs W ⟨hW,hi,hO,hels⟩
 have hWs:=hW.size
 have hgl:=hO.lt
 refine .seq (.region ?_)
 rcases Nat.lt_or_ge rs.length M with hlt | hge
 rotate_left
 ·refine .lssF rfl rfl rfl (by omega) (.nil (.seq (.condF rfl (.exit (.seq (.region (.mv rfl rfl (.asg rfl rfl (.nil (.ret ?_))))))))))
  have hl:rs.length=M:=by omega
  rw [hl,Nat.sub_self,List.replicate_zero,List.append_nil] at hO
  rw [hl] at hels
  refine .plain [_] Tryz.results90 ⟨rfl,trivial⟩ ⟨hW,?_⟩
  have hfb:FB eV 32 S W gb (tabM M B fun i c=>g c i):=⟨rs,hO,by unfold tabM;rw [hF];exact hels⟩
  have:=hfb.toR (hsz:=by decide) (c:=M) (up gb (by omega)) (by rw [A5];exact Nat.le_refl _) (by rw [A5];omega)
  rw [A5] at this
  exact this
 have hrep:rs++List.replicate (M-rs.length) nilV=rs++nilV::List.replicate (M-(rs.length+1)) nilV:=by rw [show M-rs.length=M-(rs.length+1)+1 by omega,List.replicate_succ]
 rw [hrep] at hO
 refine .lssT rfl rfl rfl (by omega) (.nil (.seq (.condT rfl (.skip (.seq (.block (.seq (.region (.mv rfl rfl (.asg rfl rfl (.nil (.seq (.region (.mv rfl rfl (.lenR un_M rfl rfl (hcW hW) (.mv rfl rfl (.nil ?_)))))))))))))))))
 rw [A5]
 refine .block (.loop (α:=Nat×Value) (fun y=>[(0,vc),(5,.slice (some ⟨gb,0,none⟩) M M),(12,.int .i64 (M:Nat)),(13,.int .i64 (rs.length:Nat)),(6,.int .i64 (rs.length:Nat)),(16,vc),(17,.int .i64 (B:Nat)),(18,.int .i64 (y.1:Nat))])
  (fun y W'=>Below w.heap.size w W'∧W.heap.size≤W'.heap.size∧y.1≤B∧Blk W' gb 32 (cellsOf (rs++y.2::List.replicate (M-(rs.length+1)) nilV)).toArray∧Kp (fun k=>k<W.heap.size∧k≠gb) W W'∧OwnL eQ 55 W.heap.size (fun k=>S k∧k≠gb) W' y.2 (tab y.1 fun c=>g c rs.length)) (fun y=>B-y.1) (0,nilV) ?_ ?_ ?_)
 ·exact lkA rfl
 ·exact ⟨hW,Nat.le_refl _,Nat.zero_le _,hO,fun _ _ _ _ _ h=>h,OwnL.nil⟩
 rintro ⟨j,v⟩ W' ⟨hW',hsz,hj,hO,hK,hown⟩
 replace hW':Below w.heap.size w W':=hW'
 replace hj:j≤B:=hj
 replace hO:Blk W' gb 32 (cellsOf (rs++v::List.replicate (M-(rs.length+1)) nilV)).toArray:=hO
 replace hown:OwnL eQ 55 W.heap.size (fun k=>S k∧k≠gb) W' v (tab j fun c=>g c rs.length):=hown
 refine .seq (.region ?_)
 rcases Nat.lt_or_ge j B with hjl | hge
 rotate_left
 ·refine .lssF rfl rfl rfl (by omega) (.nil (.seq (.condF rfl (.exit (.region (.add rfl rfl rfl (.mv rfl rfl (.nil ?_))))))))
  rw [wI (by omega)]
  have:j=B:=by omega
  subst this
  refine ⟨rfl,rs++[v],A3 rfl (A3 rfl (A3 rfl (A3 (by rw [List.length_append];rfl) AG9))),⟨hW',by rw [List.length_append];exact hlt,?_,?_⟩,by rw [List.length_append];show M-(rs.length+1)<M-rs.length;omega⟩
  ·rw [List.length_append,List.append_assoc]
   exact hO
  ·rw [List.length_append]
   show Els eV _ W' (rs++[v]) ((List.range (rs.length+1)).map F)
   rw [List.range_succ,List.map_append]
   have h1:Els eV (fun k=>S k∧k≠gb) W' rs ((List.range rs.length).map F):=⟨hels.1,fun i e x he hx=>by
    have h2:=ER.lt eV (hels.2 i e x he hx)
    have h3:=eV.keep (fun k c t f hk hc=>hK k c t f ⟨hk.2,hk.1.2⟩ hc) h2
    exact eV.mono (fun k _ h=>h.1) h3⟩
   refine h1.snoc ?_
   rw [←hF]
   exact hown.toR (fun k hk=>⟨up k (by omega),by omega⟩) (fun _ h=>h)
 refine .lssT rfl rfl rfl (by omega) (.nil (.seq (.condT rfl (.skip (.seq (.block (.seq (.region ?_))))))))
 obtain ⟨adc,cc,ec,hvc,hrc⟩:=Am5 (E:=eV) (i:=j) hc (E7 hjl)
 obtain ⟨hpc,hec⟩:=hrc w (Below.refl _ _)
 obtain ⟨ade,ce,ee,hve,hre⟩:=Am5 (E:=eQ) (i:=rs.length) hec (G1 hlt)
 obtain ⟨esC,hEC⟩:=RL.toEs (hcW hW')
 rw [A1] at hve
 have hgc:∃ p,PtrX W' p ec:=⟨_,(hrc W' hW').1⟩
 rw [A5] at hvc
 subst hvc
 refine .gv rfl rfl (v_ixA (i:=j) (sz:=1) un_M ty_V rfl rfl hjl).gv ?_
 rintro _ _ ⟨rfl,rfl⟩
 refine .ldX (E:=eV) ty_V rfl rfl (hrc _ hW').1 (hrc _ hW').2 (.asg rfl rfl (.nil ?_))
 subst hve
 have hesz:∀ {v:Value},v.cells.size=1→∀ e∈rs++v::List.replicate (M-(rs.length+1)) nilV,e.cells.size=1:=fun hv e he=>by
  rcases List.mem_append.1 he with h | h
  ·exact hels.sz e h
  ·rcases List.mem_cons.1 h with h | h
   ·rw [h];exact hv
   ·rw [(List.mem_replicate.1 h).2];rfl
 obtain ⟨av,cv,hvv⟩:=hown.slice
 have hv1:v.cells.size=1:=by rw [hvv];rfl
 have hcell:(cellsOf (rs++v::List.replicate (M-(rs.length+1)) nilV)).toArray[0+rs.length*1]?=some v:=by
  have:=C7 _ rs.length 0 v (hesz hv1) (get_mid _ _ _) (by decide)
  rw [List.getElem?_toArray,show 0+rs.length*1=rs.length*1+0 by omega,this,hvv];rfl
 have hee:∀ W',Below w.heap.size w W'→PtrX W' (ade.add (rs.length*4)) ee∧eQ.R (fun k=>(S k∧k<w.heap.size)∧k<w.heap.size) W' ee (qc (g j rs.length)):=hre
 refine .held follows true (fun W2=>Blk W2 gb 32 (cellsOf (rs++v::List.replicate (M-(rs.length+1)) nilV)).toArray∧Below w.heap.size w W2)
  [some (.slice (some ⟨gb,0,none⟩) M M),some (.int .i64 (rs.length:Nat)),some (.slice (some ⟨gb,0,none⟩) M M),some (.int .i64 (rs.length:Nat)),some (.pointer (some ⟨gb,0+rs.length*1,none⟩)),some v,some (.slice (some ade) M ce),some (.int .i64 (rs.length:Nat)),some (.pointer (some (ade.add (rs.length*4)))),some ee,none,none,none,none] (by kernel_rfl)
  ⟨fun _ _=>v_mv rfl,fun _ _=>v_mv rfl,fun _ _=>v_mv rfl,fun _ _=>v_mv rfl,fun _ _=>H0 (i:=rs.length) un_M ty_V rfl rfl hlt,fun _ h=>v_ld ty_V rfl h.1 hcell,fun _ _=>v_mv rfl,fun _ _=>v_mv rfl,fun _ _=>v_ixA (i:=rs.length) un_V ty_Q rfl rfl hlt,fun _ h=>AP0 (E:=eQ) ty_Q rfl (hee _ h.2).1 (hee _ h.2).2,trivial⟩ ?_
 intro W2 e2 _
 have hW2:Below w.heap.size w W2:=hW'.trans (e2.mono hW'.size)
 have hO:=hO.ext e2
 have hown:=hown.ext e2
 obtain ⟨_,hr2⟩:=hee W2 hW2
 have hr2':=hr2
 obtain ⟨s2,t2,rfl,_,_⟩:=hr2'
 refine .gv ⟨hO,hW2⟩ rfl (AQ6 _ rfl Ax5) ?_
 rintro _ W3 ⟨b3,rfl,n3⟩
 obtain ⟨e3,k3,hb3,hs3⟩:=n3
 have hW3:Below w.heap.size w W3:=hW2.trans (e3.mono hW2.size)
 have hO:=hO.ext e3
 have hown:=hown.ext e3
 have hs2:=e2.size
 obtain ⟨es,ho1,_⟩:=id hown
 refine .gv ⟨hO,hW3⟩ rfl (AQ8 (E:=eQ) (base:=W.heap.size) (by decide) un_V K4 rfl rfl rfl hown k3 (eQ.mono (fun k _ h=>⟨⟨h.1.1,by have:=h.2;omega⟩,fun e=>by have:=(ho1.lt k e).1;have:=h.2;omega⟩) (hr2.ext e3)) (by rw [A1];omega) (by decide) (by omega)) ?_
 rintro v4 W4 ⟨ho4,hg4⟩
 have hO4:=hown.gblk hg4 hO (by decide)
 have hlow4:Below w.heap.size w W4:=by
  have hK4:=hown.below (w0:=W3) hg4 (Below.refl _ _) (by omega)
  exact hW3.trans (hK4.mono (by omega))
 refine .gv ⟨hO4,hlow4⟩ rfl (H0 (i:=rs.length) un_M ty_V rfl rfl hlt).gv ?_
 rintro _ _ ⟨rfl,rfl⟩
 obtain ⟨a4,c4,hv4⟩:=ho4.slice
 have hv41:v4.cells.size=1:=by rw [hv4];rfl
 refine .gv ⟨hO4,hlow4⟩ rfl (Af1 (i:=rs.length) (by decide) ty_V rfl rfl hO4 (hesz hv1) hv41 (by rw [hv4];simp [one1,Value.cells]) (by simp) (Nat.zero_add _)) ?_
 rintro _ W5 ⟨hO5,u5⟩
 rw [set_mid] at hO5
 refine .nil (.inl rfl) ?_
 have hs4:=hg4.size
 have hs5:=u5.size
 refine .region (.add rfl rfl rfl (.mv rfl rfl (.nil ?_)))
 rw [wI (by omega)]
 refine ⟨rfl,(j+1,v4),lkA rfl,⟨u5.below hlow4 (by omega),by show W.heap.size≤W5.heap.size;omega,hjl,hO5,?_,?_⟩,by show B-(j+1)<B-j;omega⟩
 ·intro k c t f hk hc
  have h1:=hK k c t f hk hc
  have h2:=(e3.block k (by have:=(Array.getElem?_eq_some_iff.1 h1).1;omega)).trans ((e2.block k (Array.getElem?_eq_some_iff.1 h1).1).trans h1)
  have h3:=(hg4.block k (by have:=(Array.getElem?_eq_some_iff.1 h2).1;omega) (fun e=>by have:=(ho1.lt k e.symm).1;have:=hk.1;omega)).trans h2
  exact (u5.block k hk.2).trans h3
 ·have:=ho4.upd u5 hO4 (by decide) (fun h=>h.2 rfl)
  have e:tab (j+1) (fun c=>g c rs.length)=tab j (fun c=>g c rs.length)++[qc (g j rs.length)]:=by unfold tab;rw [List.range_succ,List.map_append];rfl
  show OwnL eQ 55 W.heap.size _ W5 v4 (tab (j+1) fun c=>g c rs.length)
  rw [e]
  exact this
end Go.Proofs.YtfilidfomgfnhaaGreat

namespace Go.Kx
open Go Go.RowKit
def Nw.gA (n:Nw):List (List QV):=tabM n.B n.B n.gm
/-- the angles if 1 is put in at bus b -/
def Nw.th (n:Nw) (b c:Nat):Rat:=rm (invM n.gA) c b
/-- the factors -/
def Nw.hf (n:Nw) (k b:Nat):Rat:=n.fl (n.th b) k
end Go.Kx
namespace Go.Proofs.YtfilidfomgfnhaaGreat
open Go Go.Kx Go.RowKit
section
variable {n:Nw}
theorem T8:n.gA.length=n.B:=A5 ..
theorem An7 (hB:1≤n.B):colsOf n.gA=n.B:=by unfold Nw.gA;rw [AX0,if_neg (by omega)]
theorem rm_gA {i k:Nat} (hi:i<n.B) (hk:k<n.B):rm n.gA i k=n.gm i k:=by unfold Nw.gA;rw [AG4,if_pos ⟨hi,hk⟩]
theorem Aw1 (ok:n.Ok) (hB:1≤n.B):invertible n.gA:=by
 have hc:=An7 hB
 rw [Av4 (by rw [hc,T8]),T8]
 have h1:=Ap2 n.gA
 rw [hc] at h1
 rcases Nat.eq_zero_or_pos (nullM n.gA).length with h0 | hp
 ·omega
 exfalso
 rw [AL4] at hp
 obtain ⟨hk,hkp⟩:=Ap5 hp
 rw [hc] at hk
 have hz:=Nw.ker0 (θ:=nv (redF n.gA) (redP n.gA) ((freeC n.gA).getD 0 0)) ok (fun b hb=>by
  have h2:=Ao5 (m:=n.gA) (k:=(freeC n.gA).getD 0 0) (by rw [hc];exact hk) b
  rw [hc] at h2
  have h3:=Nw.gm_sum ok (nv (redF n.gA) (redP n.gA) ((freeC n.gA).getD 0 0)) hb
  have h4:sumN n.B (fun c=>rm n.gA b c*nv (redF n.gA) (redP n.gA) ((freeC n.gA).getD 0 0) c)=sumN n.B (fun c=>n.gm b c*nv (redF n.gA) (redP n.gA) ((freeC n.gA).getD 0 0) c):=A7 fun c hc'=>by rw [rm_gA hb hc']
  rw [←h4,h2] at h3
  split
  ·rw [if_pos (by assumption)] at h3;exact h3.symm
  ·rw [if_neg (by assumption)] at h3;exact h3.symm) _ hk
 rw [nv_self (not_piv hkp)] at hz
 exact absurd hz (by decide)
/-- what the angles satisfy -/
theorem th_eq (ok:n.Ok) (hB:1≤n.B) {b i:Nat} (hb:b<n.B) (hi:i<n.B):(if n.root i=i then n.th b i else n.lap (n.th b) i)=dl i b:=by
 have h:=Ao9 (Aw1 ok hB) (i:=i) (k:=b) (by rw [T8];exact hi) (by rw [T8];exact hb)
 rw [T8] at h
 rw [←Nw.gm_sum ok (n.th b) hi]
 have e:sumN n.B (fun c=>n.gm i c*n.th b c)=sumN n.B (fun j=>rm n.gA i j*rm (invM n.gA) j b):=A7 fun c hc=>by rw [rm_gA hi hc];rfl
 rw [e,h];rfl
end
theorem Aw0 {n:NtV} {o:List Int} (h:nwOk n o):mk_ 21 (nwOf n o).gA:=AN3 fun b c hb hc=>by
 unfold Nw.gm
 split
 ·unfold dl
  split
  ·exact rsz1 (by decide)
  ·exact Rsz.zero (by decide)
 ·unfold Nw.Lm
  rw [←Nw.lmL_free (p:=oN o) b c _ fun k hk=>h.g0 hk]
  refine ((nwOf n o).lmL_rsz (Nat.le_refl _) h.gsz b c _).mono ?_
  have:=AW7 (oN o) (nwOf n o).M
  have:=h.m
  omega
theorem bd216:bd 21 6=87381:=by decide
theorem th_rsz {n:NtV} {o:List Int} (h:nwOk n o) (b c:Nat):Rsz ((nwOf n o).th b c) 87381:=by
 have:=An2 (n:=6) (Aw0 h) (by decide) (by rw [T8];exact h.b6)
 rw [bd216] at this
 exact this.rsz (by decide) c b
theorem fl_rsz {n:NtV} {o:List Int} (h:nwOk n o) {θ:Nat→Rat} {L:Nat} (hθ:∀ c,Rsz (θ c) L) (k:Nat):Rsz ((nwOf n o).fl θ k) (2*L+2):=by
 unfold Nw.fl
 have h1:=(hθ ((nwOf n o).F k)).add (hθ ((nwOf n o).T k)).neg
 rw [←Rat.sub_eq_add_neg] at h1
 exact ((h.gsz k).mul h1).mono (by omega)
theorem Aj2 {n:NtV} {o:List Int} (h:nwOk n o) (k b:Nat):Rsz ((nwOf n o).hf k b) 174764:=fl_rsz h (th_rsz h b) k
end Go.Proofs.YtfilidfomgfnhaaGreat

namespace Go.Proofs.YtfilidfomgfnhaaGreat
open Go Go.Kx Go.RowKit
theorem hf_mk {n:NtV} {o:List Int} (h:nwOk n o) (M B:Nat):mk_ 174764 (tabM M B (nwOf n o).hf):=AN3 fun k b _ _=>Aj2 h k b
theorem Z4:Ent Tryz.prog 19:=A0 Tryz.func19 (by kernel_rfl) rfl
theorem Z3 {S:Nat→Prop} {w:World} {vn vo:Value} {n:NtV} {o:List Int} (up:Up S w) (hn:eN.R S w vn n) (ho:eI.R S w vo o) :
  CR Tryz.prog 19 #[vn,vo] w (Two (eM.at S (if outE n o=0 then tabM n.ls.length (nwOf n o).B (nwOf n o).hf else [])) (Is (.int .i64 (outE n o)))):=by
 obtain ⟨s,rfl,hs,hb⟩:=hn
 have hn:eN.R S w (.agg #[.int .i64 n.b,s]) n:=⟨s,rfl,hs,hb⟩
 refine enter Tryz.func19 rfl Tryz.ntmps19 rfl ?_
 refine .seq (.region (.box rfl rfl fun w1 b2 n1=>.asg rfl rfl (.asg rfl rfl (.nil ?_))))
 obtain ⟨e1,k2,hb2,hs1⟩:=n1
 refine .seq (.region (.ldA ty_N rfl rfl k2 rfl (.mv rfl rfl ?_)))
 refine .call _ rfl Ah1 rfl (Ae5 (up.ext e1.size) (hn.ext e1) (ho.ext e1)) fun v2 w2 e2 h2=>?_
 obtain ⟨vl,ve,rfl,hl,he⟩:=h2
 replace he:ve=.int .i64 (outE n o):=he
 subst he
 obtain ⟨al,cl,hvl,_⟩:=RL.len hl
 refine .mv rfl rfl (.ext rfl rfl rfl (.ext rfl rfl rfl (.alloc rfl Ah5 fun w3 b6 n3=>?_)))
 obtain ⟨e3,k6,hb6,hs3⟩:=n3
 refine .store ty_I rfl rfl k6 (by rw [hvl];rfl) (by simp [Value.cells]) (by rw [hvl];simp [one1,Value.cells]) fun w4 k6 u4=>.asg rfl rfl (.nil (.seq (.seq (.region (.mv rfl rfl ?_)))))
 replace k6:Blk w4 b6 25 #[vl]:=by rw [hvl] at k6 ⊢;exact k6
 have x2:=e1.trans e2
 have x24:Ext w2 w4:=u4.below e3 (by omega)
 have x4:=x2.trans x24
 by_cases hE:outE n o=0
 rotate_left
 ·refine .neqT rfl rfl rfl hE (.nil (.condT rfl (.seq (.region (.mv rfl rfl (.asg rfl rfl (.asg rfl rfl (.nil (.ret ?_)))))))))
  refine .plain [_,_] Tryz.results19 ⟨rfl,rfl,trivial⟩ ⟨x4,_,_,rfl,?_,rfl⟩
  rw [if_neg hE];exact RL.nil
 have ok:=AG7 hE
 rw [if_pos hE] at hl ⊢
 have hB1:=ok.b1
 have hB6:=ok.b6
 have hM10:n.ls.length≤10:=ok.m
 have hnb:=ok.b
 refine .neqF rfl rfl rfl hE (.nil (.condF rfl (.skip (.seq (.region (.ldA ty_N rfl rfl (k2.ext (e2.trans x24)) rfl (.mv rfl rfl ?_)))))))
 have hl4:=ER.ext eI hl x24
 refine .call _ rfl AU9 rfl (AU1 (up.ext x4.size) (hn.ext x4) (ho.ext x4)) fun v5 w5 e5 h5=>?_
 obtain ⟨vr,ve,rfl,hr,he⟩:=h5
 replace he:ve=.int .i64 (outE n o):=he
 subst he
 rw [if_pos hE] at hr
 have x5:=x4.trans e5
 refine .mv rfl rfl (.ext rfl rfl rfl (.ext rfl rfl rfl (.asg rfl rfl (.asg rfl rfl (.nil (.seq (.seq (.region (.mv rfl rfl (.neqF rfl rfl rfl hE (.nil (.condF rfl (.skip (.seq (.region (.ldA ty_N rfl rfl ((k2.ext (e2.trans x24)).ext e5) rfl (.ld ty_I rfl rfl (k6.ext e5) rfl (.mv rfl rfl ?_))))))))))))))))))
 have hl5:=ER.ext eI hl4 e5
 refine .call _ rfl AI0 rfl (AG2 (up.ext x5.size) (hn.ext x5) hl5 hr ok) fun vA w6 e6 hA=>?_
 have x6:=x5.trans e6
 have hcA:colsOf (nwOf n o).gA=(nwOf n o).gA.length:=by rw [An7 hB1,T8]
 refine .call _ rfl AM8 rfl (AM3 (L:=21) (n:=6) (m:=(nwOf n o).gA) (up.ext x6.size) hA (Aw0 ok) (by decide) (by rw [T8];exact hB6) (by rw [hcA,T8];omega) (by decide) (by decide)) fun v7 w7 e7 h7=>?_
 obtain ⟨vi,ve,rfl,hi,he⟩:=h7
 replace he:ve=.int .i64 (if colsOf (nwOf n o).gA=(nwOf n o).gA.length then (if invertible (nwOf n o).gA then 0 else 8) else 13):=he
 have hinv:=Aw1 ok.ok hB1
 rw [if_pos hcA,if_pos hinv] at he
 subst he
 replace hi:eM.R S w7 vi (invM (nwOf n o).gA):=by rw [if_pos ⟨hcA,hinv⟩] at hi;exact hi
 obtain ⟨ai,ci,hvi,_⟩:=RL.len hi
 have x7:=x6.trans e7
 refine .mv rfl rfl (.ext rfl rfl rfl (.ext rfl rfl rfl (.alloc rfl zero_M fun w8 b9 n8=>?_)))
 obtain ⟨e8,k9,hb9,hs8⟩:=n8
 refine .store ty_M rfl rfl k9 (by rw [hvi];rfl) (by simp [Value.cells]) (by rw [hvi];simp [one1,Value.cells]) fun w9 k9 u9=>.asg rfl rfl (.nil (.seq (.seq (.region (.mv rfl rfl (.neqF rfl rfl rfl rfl (.nil (.condF rfl (.skip (.seq (.region (.mkf [] [_,_,_] rfl rfl rfl rfl (.asg rfl rfl (.nil (.seq (.region (.asg rfl rfl (.nil ?_))))))))))))))))))
 replace k9:Blk w9 b9 28 #[vi]:=by rw [hvi] at k9 ⊢;exact k9
 have x79:Ext w7 w9:=u9.below e8 (by omega)
 have x9:=x7.trans x79
 have x49:Ext w4 w9:=((e5.trans e6).trans e7).trans x79
 have k2:=(k2.ext (e2.trans x24)).ext x49
 have k6:=k6.ext x49
 have hs9:=x9.size
 have hsW:∀ {W:World},Ext w9 W→eLs.R (fun k=>S k∧k<w9.heap.size) W s n.ls:=fun e=>ER.ext eLs (ER.lt eLs (hs.ext x9)) e
 have hlW:∀ {W:World},Ext w9 W→eI.R (fun k=>S k∧k<w9.heap.size) W vl (pInts (inL n o)):=fun e=>ER.ext eI (ER.lt eI (ER.ext eI hl4 x49)) e
 have hiW:∀ {W:World},Ext w9 W→eM.R (fun k=>S k∧k<w9.heap.size) W vi (invM (nwOf n o).gA):=fun e=>ER.ext eM (ER.lt eM (ER.ext eM hi x79)) e
 have hik:mk_ 87381 (invM (nwOf n o).gA):=by
  have:=An2 (n:=6) (Aw0 ok) (by decide) (by rw [T8];exact hB6)
  rwa [bd216] at this
 rw [hnb] at k2
 generalize hG:(fun b=>tab n.ls.length ((nwOf n o).fl ((nwOf n o).th b)))=G
 have hGl:∀ b,(G b).length=n.ls.length:=fun b=>by rw [←hG];exact A1 ..
 refine .mid (α:=Value) (fun v=>[(2,.pointer (some ⟨b2,0,none⟩)),(11,v)]) (fun v W=>Ext w9 W∧OwnL eV 32 w9.heap.size S W v ((List.range (nwOf n o).B).map G)) ?_ ?_
 ·refine .seq (.region (.fa P3 rfl rfl (.ld B0 rfl rfl k2 rfl (.mv rfl rfl (.nil ?_)))))
  refine .block (.loop (α:=Nat×Value) (fun y=>[(2,.pointer (some ⟨b2,0,none⟩)),(10,.func (.func 86) #[] #[.pointer (some ⟨b2,0,none⟩),.pointer (some ⟨b6,0,none⟩),.pointer (some ⟨b9,0,none⟩)]),(11,y.2),(44,.int .i64 ((nwOf n o).B:Nat)),(45,.int .i64 (y.1:Nat))]) (fun y W=>Ext w9 W∧y.1≤(nwOf n o).B∧OwnL eV 32 w9.heap.size S W y.2 ((List.range y.1).map G)) (fun y=>(nwOf n o).B-y.1) (0,.slice none 0 0) ?_ ?_ ?_)
  ·exact lkA rfl
  ·exact ⟨Ext.refl _,Nat.zero_le _,OwnL.nil⟩
  rintro ⟨b,v⟩ W ⟨hW,hbB,hown⟩
  replace hW:Ext w9 W:=hW
  replace hbB:b≤(nwOf n o).B:=hbB
  replace hown:OwnL eV 32 w9.heap.size S W v ((List.range b).map G):=hown
  have hWs:=hW.size
  refine .seq (.region ?_)
  rcases Nat.lt_or_ge b (nwOf n o).B with hlt | hge
  rotate_left
  ·refine .lssF rfl rfl rfl (by omega) (.nil (.seq (.condF rfl (.exit ?_))))
   have:b=(nwOf n o).B:=by omega
   subst this
   exact ⟨rfl,v,lkA rfl,hW,hown⟩
  obtain ⟨es,ho1,_⟩:=id hown
  have hT:∀ k,S k∧k<w9.heap.size→S k∧v.ownBlock≠some k:=fun k h=>⟨h.1,fun e=>by have:=(ho1.lt k e).1;have:=h.2;omega⟩
  have upT:Up (fun k=>S k∧v.ownBlock≠some k) W:=fun k hk=>⟨up k (by omega),fun e=>by have:=(ho1.lt k e).2;omega⟩
  refine .lssT rfl rfl rfl (by omega) (.nil (.seq (.condT rfl (.skip (.seq (.block (.seq (.region (.mv rfl rfl (.asg rfl rfl (.nil (.region (.mv rfl rfl (.mv rfl rfl (.mv rfl rfl ?_)))))))))))))))
  refine .callv [.int .i64 (b:Nat)] rfl rfl E_col rfl (col_c (S:=fun k=>S k∧v.ownBlock≠some k) (b:=b) upT ok (k2.ext hW) (eLs.mono (fun k _ h=>hT k h) (hsW hW)) (k6.ext hW) (eI.mono (fun k _ h=>hT k h) (hlW hW)) (k9.ext hW) (eM.mono (fun k _ h=>hT k h) (hiW hW)) hik (by decide) (by decide)) fun vc W1 f1 hc=>?_
  have hc:eV.R (fun k=>S k∧v.ownBlock≠some k) W1 vc (G b):=by rw [←hG];exact hc
  obtain ⟨ac,cc,hvc,_⟩:=RL.len hc
  rw [hGl] at hvc
  subst hvc
  refine .bsl _ rfl rfl bsl_M1 fun W2 by_ ny=>?_
  obtain ⟨ey,ky,hby,hsy⟩:=ny
  have f2:=f1.trans ey
  have hW2:=hW.trans f2
  refine .gv rfl rfl (AQ8 (E:=eV) (base:=w9.heap.size) (n:=G b) (e:=.slice ac n.ls.length cc) (by decide) un_M AZ5 rfl rfl rfl (hown.ext f2) ky (ER.ext eV hc ey) (by simp;omega) (by decide) hW2.size) ?_
  rintro v8 W8 ⟨ho8,hg8⟩
  refine .asg rfl rfl (.nil (.region (.add rfl rfl rfl (.mv rfl rfl (.nil ?_)))))
  rw [wI (by omega)]
  refine ⟨rfl,(b+1,v8),lkA rfl,⟨(hown.ext f2).below hg8 hW2 hW2.size,hlt,?_⟩,by show (nwOf n o).B-(b+1)<(nwOf n o).B-b;omega⟩
  show OwnL eV 32 w9.heap.size S W8 v8 ((List.range (b+1)).map G)
  rw [List.range_succ,List.map_append]
  exact ho8
 rintro v W ⟨hW,hown⟩
 have hcol:eM.R S W v (tabM (nwOf n o).B n.ls.length fun b k=>(nwOf n o).hf k b):=by
  have:=hown.toR (S:=S) (hsz:=by decide) (fun k hk=>up k (by omega)) (fun _ h=>h)
  rw [←hG] at this
  exact this
 have hWs:=hW.size
 refine .seq (.region (.mv rfl rfl (.fa L5 rfl rfl (.ld Q5 rfl rfl (k2.ext hW) rfl (.lenR O5 rfl rfl (hsW hW) ?_)))))
 refine .call _ rfl Ag9 rfl (Ad6 (up.ext (x9.trans hW).size) hcol (by omega) (by omega)) fun vt W1 f1 ht=>.asg rfl rfl (.asg rfl rfl (.nil (.ret ?_)))
 exact .plain [_,_] Tryz.results19 ⟨rfl,rfl,trivial⟩ ⟨(x9.trans hW).trans f1,_,_,rfl,ht,by rw [hE]⟩
open Classical in
noncomputable def sfE (n:NtV) (o:List Int) (l:Nat):Int:=if outE n o≠0 then outE n o else if (l:Int)≤n.b then 0 else 5
theorem AU6:Ent Tryz.prog 27:=A0 Tryz.func27 (by kernel_rfl) rfl
theorem AT1 {S T0:Nat→Prop} {w:World} {vn vo vx:Value} {n:NtV} {o:List Int} {x:List QV} {L:Nat} (up:Up S w) (upo:Up T0 w) (hn:eN.R S w vn n) (ho:eI.R S w vo o) (hx:eV.R S w vx x) (hkx:vk L x) (hL1:1≤L) (hL:L≤1000000) :
  CR Tryz.prog 27 #[vn,vo,vx] w (Two (eV.at T0 (if sfE n o x.length=0 then tab n.ls.length fun k=>sumN x.length fun b=>(nwOf n o).hf k b*rv x b else [])) (Is (.int .i64 (sfE n o x.length)))):=by
 obtain ⟨s,rfl,hs,hb⟩:=hn
 have hn:eN.R S w (.agg #[.int .i64 n.b,s]) n:=⟨s,rfl,hs,hb⟩
 refine enter Tryz.func27 rfl Tryz.ntmps27 rfl ?_
 refine .seq (.region (.box rfl rfl fun w1 b3 n1=>.asg rfl rfl (.asg rfl rfl (.nil ?_))))
 obtain ⟨e1,k3,hb3,hs1⟩:=n1
 refine .seq (.region (.ldA ty_N rfl rfl k3 rfl (.mv rfl rfl ?_)))
 refine .call _ rfl Z4 rfl (Z3 (up.ext e1.size) (hn.ext e1) (ho.ext e1)) fun v2 w2 e2 h2=>?_
 obtain ⟨vm,ve,rfl,hm,he⟩:=h2
 replace he:ve=.int .i64 (outE n o):=he
 subst he
 have x2:=e1.trans e2
 refine .mv rfl rfl (.ext rfl rfl rfl (.ext rfl rfl rfl (.asg rfl rfl (.asg rfl rfl (.nil (.seq (.seq (.region (.mv rfl rfl ?_)))))))))
 by_cases hE:outE n o=0
 rotate_left
 ·have hb:sfE n o x.length=outE n o:=by unfold sfE;rw [if_pos hE]
  refine .neqT rfl rfl rfl hE (.nil (.condT rfl (.seq (.region (.mv rfl rfl (.asg rfl rfl (.asg rfl rfl (.nil (.ret ?_)))))))))
  refine .plain [_,_] Tryz.results27 ⟨rfl,rfl,trivial⟩ ⟨x2,_,_,rfl,?_,by rw [hb];rfl⟩
  rw [if_neg (by rw [hb];exact hE)];exact RL.nil
 have ok:=AG7 hE
 rw [if_pos hE] at hm
 have hB6:=ok.b6
 have hM10:n.ls.length≤10:=ok.m
 have hnb:=ok.b
 refine .neqF rfl rfl rfl hE (.nil (.condF rfl (.skip (.seq (.seq (.region (.mv rfl rfl (.lenR un_V rfl rfl (hx.ext x2) (.fa P3 rfl rfl (.ld B0 rfl rfl (k3.ext e2) rfl ?_))))))))))
 by_cases hl:(x.length:Int)≤n.b
 rotate_left
 ·have hb:sfE n o x.length=5:=by unfold sfE;rw [if_neg (by simpa using hE),if_neg hl]
  refine .gtrT rfl rfl rfl (by omega) (.nil (.condT rfl (.seq (.region (.asg rfl rfl (.asg rfl rfl (.nil (.ret ?_))))))))
  refine .plain [_,_] Tryz.results27 ⟨rfl,rfl,trivial⟩ ⟨x2,_,_,rfl,?_,by rw [hb]⟩
  rw [if_neg (by rw [hb];decide)];exact RL.nil
 have hb:sfE n o x.length=0:=by unfold sfE;rw [if_neg (by simpa using hE),if_pos hl]
 rw [if_pos hb]
 refine .gtrF rfl rfl rfl (by omega) (.nil (.condF rfl (.skip (.seq (.region (.mv rfl rfl (.mv rfl rfl ?_)))))))
 refine .call _ rfl Ab3 rfl (AZ0 (L:=1000000) (upo.ext x2.size) hm (hx.ext x2) ((hf_mk ok _ _).mono (by decide)) (hkx.mono hL) (by decide) (by decide) (by rw [A5];omega) (by omega)) fun v3 w3 e3 h3=>.asg rfl rfl (.asg rfl rfl (.nil (.ret ?_)))
 refine .plain [_,_] Tryz.results27 ⟨rfl,rfl,trivial⟩ ⟨x2.trans e3,_,_,rfl,?_,by rw [hb]⟩
 have e:(tab (tabM n.ls.length (nwOf n o).B (nwOf n o).hf).length fun i=>sumN x.length fun k=>rm (tabM n.ls.length (nwOf n o).B (nwOf n o).hf) i k*rv x k)=tab n.ls.length fun k=>sumN x.length fun b=>(nwOf n o).hf k b*rv x b:=by
  rw [A5]
  exact F6 fun k hk=>A7 fun b hb=>by rw [AG4,if_pos ⟨hk,by omega⟩]
 rw [e] at h3
 exact h3
theorem AT2 {S:Nat→Prop} {w:World} {vn vo vx:Value} {n:NtV} {o:List Int} {x:List QV} {L:Nat} (up:Up S w) (hn:eN.R S w vn n) (ho:eI.R S w vo o) (hx:eV.R S w vx x) (hkx:vk L x) (hL1:1≤L) (hL:L≤1000000) :
  CR Tryz.prog 27 #[vn,vo,vx] w (Two (eV.at S (if sfE n o x.length=0 then tab n.ls.length fun k=>sumN x.length fun b=>(nwOf n o).hf k b*rv x b else [])) (Is (.int .i64 (sfE n o x.length)))):=AT1 up up hn ho hx hkx hL1 hL
end Go.Proofs.YtfilidfomgfnhaaGreat

namespace Go.Kx
open Go Go.RowKit
section
variable {n:Nw}
end
end Go.Kx

namespace Go.Kx
open Go Go.RowKit
section
variable {n:Nw}
end
theorem cmp_le {x y:Rat} (h:x≤y):cmpR x y≤0:=by
 unfold cmpR
 split
 ·decide
 ·rw [if_neg (Rat.not_lt.2 h)];decide
/-- a slice of one, to be appended to -/
theorem OwnL.one {α:Type} {E:ER α} {t:TypeId} {base:Nat} {X:Nat→Prop} {w w':World} {b:Nat} {e:Value} {x:α} (hn:New w w' b t e.cells) (hb:base≤w.heap.size) (hs:e.cells.size=E.sz) (hx:E.R (fun k=>X k∧k≠b) w' e x):OwnL E t base X w' (.slice (some ⟨b,0,none⟩) 1 1) [x]:=by
 obtain ⟨_,hk,hb',_⟩:=hn
 have hc:cellsOf [e]=e.cells.toList:=by simp [cellsOf]
 refine ⟨[e],⟨by rw [hc];simp [hs],.inr ⟨b,1,_,rfl,by omega,hk,Nat.le_refl _,by decide,by simp [hs],by rw [hc,List.take_of_length_le (by simp [hs])]⟩⟩,rfl,fun i e' x' he hx'=>?_⟩
 have hi:i=0:=by
  cases i with
  | zero=>rfl
  | succ i=>simp at he
 subst hi
 simp at he hx'
 subst he;subst hx'
 exact E.mono (fun k _ h=>⟨h.1,fun e=>h.2 (by simpa [Value.ownBlock] using e.symm)⟩) hx
end Go.Kx

namespace Go.Proofs.YtfilidfomgfnhaaGreat
open Go Go.Kx Go.RowKit
open Classical in
noncomputable def rfE (n:NtV) (o:List Int) (l:List RtV):Int:=if outE n o≠0 then outE n o else if rtE l n.b≠0 then rtE l n.b else if ∃ r∈l,(nwOf n o).root r.f.toNat≠(nwOf n o).root r.t.toNat then 10 else 0
theorem AP9 {n:NtV} {o:List Int} {l:List RtV} (h:rfE n o l=0):outE n o=0∧rtE l n.b=0∧∀ r∈l,(nwOf n o).root r.f.toNat=(nwOf n o).root r.t.toNat:=by
 unfold rfE at h
 split at h
 ·exact absurd h (by assumption)
 ·split at h
  ·exact absurd h (by assumption)
  ·split at h
   ·cases h
   ·rename_i h1 h2 h3
    exact ⟨Classical.not_not.1 h1,Classical.not_not.1 h2,fun r hr=>Classical.byContradiction fun h=>h3 ⟨r,hr,h⟩⟩
/-- the flows of rights -/
noncomputable def rfV (n:NtV) (o:List Int) (l:List RtV) (k:Nat):Rat:=sumN (nwOf n o).B fun b=>(nwOf n o).hf k b*((rtS l b:Int):Rat)
theorem At3 {l:List RtV} {b:Int} (h:rtE l b=0) (k:Nat):(rtS l k).natAbs≤16000000:=by
 obtain ⟨h8,hall⟩:=AY2 h
 have h1:=At4 (M:=1000000) (fun r hr=>by have:=hall r hr;unfold rtOk at this;omega) k
 have:=Nat.mul_le_mul_right (2*1000000) h8
 omega
theorem AY3 {n:NtV} {o:List Int} {l:List RtV} (ok:nwOk n o) (h:rtE l n.b=0) (M:Nat):vk 1100000 (tab M (rfV n o l)):=Q0 fun k _=>by
 unfold rfV
 refine (Q6 (L:=180000) fun b _=>((Aj2 ok k b).mul (V6 (by have:=At3 h b;omega))).mono (by decide)).mono (by have:=ok.b6;omega)
theorem K7:Ent Tryz.prog 53:=A0 Tryz.func53 (by kernel_rfl) rfl
set_option maxRecDepth 8000 in
theorem K6 {S:Nat→Prop} {w:World} {vn vo vl:Value} {n:NtV} {o:List Int} {l:List RtV} (up:Up S w) (hn:eN.R S w vn n) (ho:eI.R S w vo o) (hl:eRts.R S w vl l) :
  CR Tryz.prog 53 #[vn,vo,vl] w (Two (eV.at S (if rfE n o l=0 then tab n.ls.length (rfV n o l) else [])) (Is (.int .i64 (rfE n o l)))):=by
 obtain ⟨s,rfl,hs,hb⟩:=hn
 have hn:eN.R S w (.agg #[.int .i64 n.b,s]) n:=⟨s,rfl,hs,hb⟩
 refine enter Tryz.func53 rfl Tryz.ntmps53 rfl (.beg (.go rfl (.box rfl rfl fun w1 b3 n1=>?_)))
 obtain ⟨e1,k3,hb3,hs1⟩:=n1
 refine .go rfl (.ldA ty_N rfl rfl k3 rfl (.go rfl ?_))
 refine .call _ rfl AS3 rfl (AQ1 (hn.ext e1) (ho.ext e1)) fun v2 w2 e2 h2=>?_
 subst h2
 have x2:=e1.trans e2
 refine .go rfl ?_
 by_cases hE:outE n o=0
 rotate_left
 ·have hb:rfE n o l=outE n o:=by unfold rfE;rw [if_pos hE]
  refine .neqT rfl rfl rfl hE (.goE rfl ?_)
  refine .plain [_,_] Tryz.results53 ⟨rfl,rfl,trivial⟩ ⟨x2,_,_,rfl,?_,by rw [hb]⟩
  rw [if_neg (by rw [hb];exact hE)];exact RL.nil
 have ok:=AG7 hE
 have hB6:=ok.b6
 have hB1:=ok.b1
 have hM10:n.ls.length≤10:=ok.m
 have hnb:=ok.b
 refine .neqF rfl rfl rfl hE (.go rfl (.fa P3 rfl rfl (.lc B0 rfl rfl (k3.ext e2) rfl ?_)))
 refine .call _ rfl AU7 rfl (AT4 (ER.ext eRts hl x2)) fun v3 w3 e3 h3=>?_
 obtain ⟨vp,ve,rfl,⟨ip,rfl⟩,rfl⟩:=h3
 have x3:=x2.trans e3
 refine .go rfl ?_
 by_cases hR:rtE l n.b=0
 rotate_left
 ·have hb:rfE n o l=rtE l n.b:=by unfold rfE;rw [if_neg (by simpa using hE),if_pos hR]
  refine .neqT rfl rfl rfl hR (.goE rfl ?_)
  refine .plain [_,_] Tryz.results53 ⟨rfl,rfl,trivial⟩ ⟨x3,_,_,rfl,?_,by rw [hb]⟩
  rw [if_neg (by rw [hb];exact hR)];exact RL.nil
 obtain ⟨hl8,hall⟩:=AY2 hR
 have k3:=k3.ext (e2.trans e3)
 refine .neqF rfl rfl rfl hR (.go rfl (.ldA ty_N rfl rfl k3 rfl (.go rfl ?_)))
 refine .call _ rfl AC3 rfl (AA8 (up.ext x3.size) (hn.ext x3) (ho.ext x3)) fun v4 w4 e4 h4=>?_
 obtain ⟨vi,ve,rfl,hi,he⟩:=h4
 replace he:ve=.int .i64 (outE n o):=he
 subst he
 rw [if_pos hE] at hi
 have x4:=x3.trans e4
 have hl4:=ER.ext eRts hl x4
 refine .go rfl (.neqF rfl rfl rfl hE (.go rfl (.lenR K2 rfl rfl hl4 ?_)))
 refine .goC rfl (.lp (α:=Nat) [1,2,3,11,40,41] rfl (fun i=>[(42,.int .i64 (i:Nat))]) (fun i W=>Ext w4 W∧i≤l.length∧∀ j r,j<i→l[j]?=some r→(nwOf n o).root r.f.toNat=(nwOf n o).root r.t.toNat) (fun i=>l.length-i) 0 (lc1 rfl) ⟨Ext.refl _,Nat.zero_le _,fun j r hj=>absurd hj (Nat.not_lt_zero _)⟩ ?_)
 rintro i W ⟨hW,hil,hroot⟩
 have hWs:=hW.size
 have k3W:=k3.ext (e4.trans hW)
 refine .go rfl ?_
 rcases Nat.lt_or_ge i l.length with hlt | hge
 rotate_left
 ·have hrf:rfE n o l=0:=by
   unfold rfE
   rw [if_neg (by simpa using hE),if_neg (by simpa using hR),if_neg]
   rintro ⟨r,hr,hne⟩
   obtain ⟨j,hj⟩:=List.mem_iff_getElem?.1 hr
   exact hne (hroot j r (by have:=(List.getElem?_eq_some_iff.1 hj).1;omega) hj)
  rw [if_pos hrf]
  have hc6:cut6 n.b=(nwOf n o).B:=by unfold cut6;omega
  have hkz:vk 3 (tab (nwOf n o).B fun k=>((rtS l k:Int):Rat)):=Q0 fun k _=>V6 (by have:=At3 hR k;omega)
  have hsf:sfE n o (tab (nwOf n o).B fun k=>((rtS l k:Int):Rat)).length=0:=by unfold sfE;rw [if_neg (by simpa using hE),if_pos (by rw [A1];omega)]
  have hres:(tab n.ls.length fun k=>sumN (tab (nwOf n o).B fun k=>((rtS l k:Int):Rat)).length fun b=>(nwOf n o).hf k b*rv (tab (nwOf n o).B fun k=>((rtS l k:Int):Rat)) b)=tab n.ls.length (rfV n o l):=F6 fun k _=>by
   unfold rfV
   rw [A1]
   exact A7 fun b hb=>by rw [J3,if_pos hb]
  have xW:=x4.trans hW
  refine .lssF rfl rfl rfl (by omega) (.goC rfl ?_)
  refine .par follows 9 [.inl (.agg #[.int .i64 n.b,s]),.inl _,.inl _,.inl (.pointer (some ⟨b3,0,none⟩)),.inl (.int .i64 n.b),.inr (eV.at S (tab (nwOf n o).B fun k=>((rtS l k:Int):Rat))),.inr (Two (eV.at S (tab n.ls.length (rfV n o l))) (Is (.int .i64 0))),.inr (eV.at S (tab n.ls.length (rfV n o l))),.inl (.int .i64 0)] [[],[],[],[],[(61,3)],[(60,2),(62,4)],[(58,0),(59,1),(63,5)],[(64,6)],[(64,6)]] (by kernel_rfl) ⟨
   fun w e=>(B8 ty_N rfl (k3W.ext e) rfl).ob,
   fun w e=>(v_mv rfl).ob,
   fun w e=>(v_mv rfl).ob,
   fun w e=>(v_fa P3 rfl).ob,
   fun w e=>(v_ld B0 rfl (k3W.ext e) rfl).ob,
   fun w e=>by
   have:=Ai6 (b:=n.b) (up.ext (xW.trans e).size) (ER.ext eRts hl (xW.trans e)) (by omega)
   rw [hc6] at this
   exact (A2 _ Ak7 rfl this).ob (A6 _ _ _),
   fun w e x5 hx5=>by
   have:=AT2 (up.ext (xW.trans e).size) (hn.ext (xW.trans e)) (ho.ext (xW.trans e)) hx5 hkz (by decide) (by decide)
   rw [if_pos hsf,hres,hsf] at this
   exact (A2 _ AU6 rfl this).ob (T5 (A6 _ _ _) (AF9 _)),
   fun w e x6 hx6=>by
   obtain ⟨p,q,rfl,hp,hq⟩:=hx6
   exact L9 (v_ex rfl rfl) hp (A6 _ _ _),
   fun w e x6 hx6=>by
   obtain ⟨p,q,rfl,hp,hq⟩:=hx6
   exact ((v_ex rfl rfl).eq hq).ob,trivial⟩ ?_
  intro W1 f1 _ _ _ _ y hy
  exact .goE rfl (.plain [_,_] Tryz.results53 ⟨rfl,rfl,trivial⟩ ⟨xW.trans f1,_,_,rfl,hy,by rw [hrf]⟩)
 have hg:=List.getElem?_eq_getElem hlt
 have hrk:=hall l[i] (List.getElem_mem hlt)
 have hmem:=List.getElem_mem hlt
 refine .lssT rfl rfl rfl (by omega) (.go rfl (.ixN (i:=i) K2 Q4 rfl rfl (ER.ext eRts hl4 hW) rfl hg fun q hq=>.ldE (E:=eRt) Q4 rfl rfl hq fun vr hr=>.alloc rfl AF3 fun W1 c n1=>?_))
 obtain ⟨g1,kc,hc,hs1'⟩:=n1
 refine .storeA (E:=eRt) (S:=fun k=>k≠c) Q4 rfl rfl kc rfl rfl hr (fun h=>h rfl) fun W2 kc u2 hr=>.goC rfl ?_
 obtain ⟨rfl,_⟩:=hr
 generalize l[i]=r at *
 have x2:Ext w4 W2:=u2.below (hW.trans g1) (by omega)
 obtain ⟨h1,h2,h3,h4,_,_⟩:=hrk
 obtain ⟨f,hf⟩:∃ f:Nat,r.f=f:=⟨r.f.toNat,by omega⟩
 obtain ⟨t,ht⟩:∃ t:Nat,r.t=t:=⟨r.t.toNat,by omega⟩
 have hfB:f<(nwOf n o).B:=by omega
 have htB:t<(nwOf n o).B:=by omega
 rw [hf,ht] at kc
 have hle:=Nw.lab_eq hfB htB
 refine .par follows 10 [.inl _,.inl (.pointer (some ⟨c,0,none⟩)),.inl (.int .i64 (f:Nat)),.inr (Ptr (eInt .i64) S (((nwOf n o).lab f:Nat):Int)),.inl (.int .i64 ((nwOf n o).lab f:Nat)),.inl _,.inl (.pointer (some ⟨c,1,none⟩)),.inl (.int .i64 (t:Nat)),.inr (Ptr (eInt .i64) S (((nwOf n o).lab t:Nat):Int)),.inl (.int .i64 ((nwOf n o).lab t:Nat))] [[],[],[(47,1)],[(46,0),(48,2)],[(49,3)],[],[],[(52,6)],[(51,5),(53,7)],[(54,8)]] (by kernel_rfl) ⟨
  fun w e=>(v_mv rfl).ob,
  fun w e=>(v_fa AH5 rfl).ob,
  fun w e=>(v_ld B0 rfl (kc.ext e) rfl).ob,
  fun w e=>E0 (i:=f) un_I E2 rfl (ER.ext eI hi (x2.trans e)) rfl (AA2 hfB),
  fun w e x3 hx3=>AJ7 E2 rfl hx3,
  fun w e=>(v_mv rfl).ob,
  fun w e=>(v_fa AH4 rfl).ob,
  fun w e=>(v_ld B0 rfl (kc.ext e) rfl).ob,
  fun w e=>E0 (i:=t) un_I E2 rfl (ER.ext eI hi (x2.trans e)) rfl (AA2 htB),
  fun w e x8 hx8=>AJ7 E2 rfl hx8,trivial⟩ ?_
 intro W3 f3 _ _ _ _
 have hru:(nwOf n o).root r.f.toNat=(nwOf n o).root f∧(nwOf n o).root r.t.toNat=(nwOf n o).root t:=by rw [hf,ht];exact ⟨rfl,rfl⟩
 by_cases hrt:(nwOf n o).root f=(nwOf n o).root t
 ·refine .neqF rfl rfl rfl (by rw [hle.2 hrt]) (.go rfl (.inc rfl rfl rfl (by omega) (.goN rfl (.mk (i+1) rfl (lc1 rfl) ⟨⟨x2.trans f3,hlt,fun j r' hj hr'=>?_⟩,by show l.length-(i+1)<l.length-i;omega⟩))))
  by_cases e:j=i
  ·subst e;rw [hg] at hr';cases hr';rw [hru.1,hru.2];exact hrt
  ·exact hroot j r' (by omega) hr'
 ·have hrf:rfE n o l=10:=by
   unfold rfE
   rw [if_neg (by simpa using hE),if_neg (by simpa using hR),if_pos ⟨r,hmem,by rw [hru.1,hru.2];exact hrt⟩]
  refine .neqT rfl rfl rfl (by intro h;exact hrt (hle.1 (by omega))) (.goE rfl ?_)
  refine .plain [_,_] Tryz.results53 ⟨rfl,rfl,trivial⟩ ⟨x4.trans (x2.trans f3),_,_,rfl,?_,by rw [hrf]⟩
  rw [if_neg (by rw [hrf];decide)];exact RL.nil
noncomputable def feE (n:NtV) (o:List Int) (l:List RtV):Int:=if rfE n o l=10 then 0 else rfE n o l
def feP (n:NtV) (o:List Int) (l:List RtV):Prop:=rfE n o l=0∧∀ k,k<n.ls.length→absR (rfV n o l k)≤(((n.ls.getD k ln0).c:Int):Rat)
theorem An9 {x y:Rat}:¬ 0<cmpR x y↔x≤y:=by
 unfold cmpR
 constructor
 ·intro h
  split at h
  ·rename_i h';exact Rat.le_of_lt h'
  ·split at h
   ·exact absurd (by decide) h
   ·rename_i h1 h2;exact Rat.not_lt.1 h2
 ·intro h
  split
  ·decide
  ·split
   ·rename_i h2;exact absurd h2 (Rat.not_lt.2 h)
   ·decide
theorem K0:Ent Tryz.prog 61:=A0 Tryz.func61 (by kernel_rfl) rfl
set_option maxRecDepth 8000 in
open Classical in
theorem J7 {S:Nat→Prop} {w:World} {vn vo vl:Value} {n:NtV} {o:List Int} {l:List RtV} (up:Up S w) (hn:eN.R S w vn n) (ho:eI.R S w vo o) (hl:eRts.R S w vl l) :
  CR Tryz.prog 61 #[vn,vo,vl] w (Two (Is (.bool (decide (feP n o l)))) (Is (.int .i64 (feE n o l)))):=by
 obtain ⟨s,rfl,hs,hb⟩:=hn
 have hn:eN.R S w (.agg #[.int .i64 n.b,s]) n:=⟨s,rfl,hs,hb⟩
 refine enter Tryz.func61 rfl Tryz.ntmps61 rfl (.beg (.go rfl (.box rfl rfl fun w1 b3 n1=>?_)))
 obtain ⟨e1,k3,hb3,hs1⟩:=n1
 refine .go rfl (.ldA ty_N rfl rfl k3 rfl (.go rfl ?_))
 refine .call _ rfl K7 rfl (K6 (up.ext e1.size) (hn.ext e1) (ho.ext e1) (ER.ext eRts hl e1)) fun v2 w2 e2 h2=>?_
 obtain ⟨vf,ve,rfl,hf,rfl⟩:=h2
 have x2:=e1.trans e2
 refine .go rfl ?_
 by_cases h10:rfE n o l=10
 ·refine .eqlT rfl rfl rfl h10 (.goE rfl ?_)
  refine .plain [_,_] Tryz.results61 ⟨rfl,rfl,trivial⟩ ⟨x2,_,_,rfl,?_,by unfold feE;rw [if_pos h10]⟩
  rw [decide_eq_false fun h=>by have:=h.1;omega]
 refine .eqlF rfl rfl rfl h10 (.go rfl ?_)
 have hfe:feE n o l=rfE n o l:=by unfold feE;rw [if_neg h10]
 by_cases h0:rfE n o l=0
 rotate_left
 ·refine .neqT rfl rfl rfl h0 (.goE rfl ?_)
  refine .plain [_,_] Tryz.results61 ⟨rfl,rfl,trivial⟩ ⟨x2,_,_,rfl,?_,by rw [hfe]⟩
  rw [decide_eq_false fun h=>h0 h.1]
 rw [if_pos h0] at hf
 obtain ⟨hE,hR,_⟩:=AP9 h0
 have ok:=AG7 hE
 have hM10:n.ls.length≤10:=ok.m
 have k3:=k3.ext e2
 refine .neqF rfl rfl rfl h0 (.go rfl (.lenR un_V rfl rfl hf ?_))
 rw [A1]
 refine .goC rfl (.lp (α:=Nat) [3,24,25] rfl (fun i=>[(26,.int .i64 (i:Nat))]) (fun i W=>Ext w2 W∧i≤n.ls.length∧∀ j,j<i→absR (rfV n o l j)≤(((n.ls.getD j ln0).c:Int):Rat)) (fun i=>n.ls.length-i) 0 (lc1 rfl) ⟨Ext.refl _,Nat.zero_le _,fun j hj=>absurd hj (Nat.not_lt_zero _)⟩ ?_)
 rintro i W ⟨hW,hi,hall⟩
 have hWs:=hW.size
 refine .go rfl ?_
 rcases Nat.lt_or_ge i n.ls.length with hlt | hge
 rotate_left
 ·refine .lssF rfl rfl rfl (by omega) (.goE rfl ?_)
  refine .plain [_,_] Tryz.results61 ⟨rfl,rfl,trivial⟩ ⟨x2.trans hW,_,_,rfl,?_,by rw [hfe,h0]⟩
  rw [decide_eq_true ⟨h0,fun k hk=>hall k (by omega)⟩]
 refine .lssT rfl rfl rfl (by omega) (.go rfl (.ixN (i:=i) un_V ty_Q rfl rfl (ER.ext eV hf hW) rfl (G1 hlt) fun q hq=>.ldE (E:=eQ) ty_Q rfl rfl hq fun y hy=>.alloc rfl B7 fun W1 c n1=>.go rfl ?_))
 obtain ⟨g1,kc,hc,hs1'⟩:=n1
 refine .storeA (E:=eQ) (S:=fun k=>S k∧k<W.heap.size) ty_Q rfl rfl kc rfl rfl (ER.ext eQ (ER.lt eQ hy) g1) (fun h=>by have:=h.2;omega) fun W2 kc u2 hy=>.goC rfl ?_
 have hyv:=shpA (E:=eQ) rfl hy
 have hy:eQ.R S W2 y _:=eQ.mono (fun _ _ h=>h.1) hy
 have xw2:Ext w2 W2:=u2.below (hW.trans g1) (by omega)
 have hgl:n.ls[i]?=some (n.ls.getD i ln0):=A9 hlt
 have hcc:=ok.c i hlt
 generalize hln:n.ls.getD i ln0=ln at hgl hcc
 have hrz:Rsz (rfV n o l i) 1100000:=by
  have:=(AY3 ok hR n.ls.length).rsz (by decide) i
  rwa [J3,if_pos hlt] at this
 have hra:Rsz (absR (rfV n o l i)) 1100000:=by
  unfold absR
  split
  ·exact hrz.neg
  ·exact hrz
 have hxw:=x2.trans xw2
 refine .par follows 8 [.inl y,.inr (eQ.at S (qc (absR (rfV n o l i)))),.inl (.pointer (some ⟨b3,0+1,none⟩)),.inl s,.inl _,.inr (Ptr eL S ln),.inr (Ptr (eInt .i64) S ln.c),.inl (.int .i64 ln.c)] [[],[(31,0)],[],[(33,2)],[],[(34,3),(35,4)],[(36,5)],[(37,6)]] (by kernel_rfl) ⟨
  fun w e=>((B8 ty_Q rfl (kc.ext e) (eQ.csz hy)).eq hyv.symm).ob,
  fun w e=>by
  have:=AR3 (L:=1100000) (up.ext (hxw.trans e).size) (ER.ext eQ hy e) (O6 hrz) (by decide) (by decide)
  rw [A8] at this
  exact (A2 _ AS7 rfl this).ob (A6 _ _ _),
  fun w e=>(v_fa L5 rfl).ob,
  fun w e=>(v_ld Q5 rfl (k3.ext (xw2.trans e)) rfl).ob,
  fun w e=>(v_mv rfl).ob,
  fun w e=>E0 (i:=i) O5 S2 rfl (hs.ext (hxw.trans e)) rfl hgl,
  fun w e x5 hx5=>AY5 AN7 rfl hx5 (by decide),
  fun w e x6 hx6=>AJ7 L1 rfl hx6,trivial⟩ ?_
 intro W3' f3' x1 hx1 _ _ _ _
 refine .call _ rfl C1 rfl (C0 (up.ext (hxw.trans f3').size) (by omega) (by omega)) fun x8 W3 f3 hx8=>?_
 have hx1:=ER.ext eQ hx1 f3
 have f3:=f3'.trans f3
 have hcm:=Y6 (L:=1100000) (up.ext (hxw.trans f3).size) hx1 hx8 hra.toOk ((V6 (n:=ln.c) (by omega)).mono (by decide)).toOk (by decide) (by decide)
 rw [A8,A8] at hcm
 refine .call _ rfl Z0 rfl hcm fun v4 W4 f4 h4=>?_
 subst h4
 by_cases hle:absR (rfV n o l i)≤((ln.c:Int):Rat)
 ·refine .gtrF rfl rfl rfl (An9.2 hle) (.go rfl (.inc rfl rfl rfl (by omega) (.goN rfl (.mk (i+1) rfl (lc1 rfl) ⟨⟨(xw2.trans f3).trans f4,hlt,fun j hj=>?_⟩,by show n.ls.length-(i+1)<n.ls.length-i;omega⟩))))
  by_cases e:j=i
  ·subst e;rw [hln];exact hle
  ·exact hall j (by omega)
 ·refine .gtrT rfl rfl rfl (Classical.not_not.1 fun h=>hle (An9.1 h)) (.goE rfl ?_)
  refine .plain [_,_] Tryz.results61 ⟨rfl,rfl,trivial⟩ ⟨(hxw.trans f3).trans f4,_,_,rfl,?_,by rw [hfe,h0]⟩
  rw [decide_eq_false fun h=>hle (by have:=h.2 i hlt;rwa [hln] at this)]
end Go.Proofs.YtfilidfomgfnhaaGreat

namespace Go.Proofs.YtfilidfomgfnhaaGreat
open Go Go.Kx Go.RowKit
def inR (m:Nat) (a:Int):Prop:=0≤a∧a<m
open Classical in
noncomputable def trE (m:Nat) (f t:Int):Int:=if inR m f∧inR m t then 0 else 1
theorem AI1:Ent Tryz.prog 116:=A0 Tryz.func116 (by kernel_rfl) rfl
set_option maxRecDepth 8000 in
theorem AY6 {S:Nat→Prop} {w:World} {vp vq:Value} {p:List QV} {q:QV} {f t:Int} {L:Nat} (up:Up S w) (hp:eV.R S w vp p) (hq:eQ.R S w vq q) (hkp:vk L p) (hkq:qk L q) (hL1:1≤L) (hL:L≤1000000) :
  CR Tryz.prog 116 #[vp,.int .i64 f,.int .i64 t,vq] w (Two (eQ.at S (if trE p.length f t=0 then qc (qval q*(rv p t.toNat-rv p f.toNat)) else q0)) (Is (.int .i64 (trE p.length f t)))):=by
 have hvq:=shpA rfl hq
 refine enter Tryz.func116 rfl Tryz.ntmps116 rfl (.beg (.go rfl (.box rfl rfl fun w1 b7 n1=>.alloc rfl B7 fun w2 b8 n2=>?_)))
 obtain ⟨e1,k7,hb7,hs1⟩:=n1
 obtain ⟨e2,k8,hb8,hs2⟩:=n2
 have x2:=e1.trans e2
 have k7:=k7.ext e2
 have hx2:=x2.size
 have hp2:eV.R (fun k=>S k∧k≠b8) w2 vp p:=eV.mono (fun k _ h=>⟨h.1,by have:=h.2;omega⟩) (ER.ext eV (ER.lt eV hp) x2)
 have hq2:eQ.R (fun k=>S k∧k≠b8) w2 vq q:=eQ.mono (fun k _ h=>⟨h.1,by have:=h.2;omega⟩) (ER.ext eQ (ER.lt eQ hq) x2)
 have upT:∀ {W:World},w2.heap.size≤W.heap.size→Up (fun k=>S k∧k≠b8) W:=fun h k hk=>⟨up k (by omega),by omega⟩
 have hbad:∀ {W:World} {σ:Env},¬ (inR p.length f∧inR p.length t)→Ext w W→(∃ z,Kx.look σ 8=some (.pointer (some ⟨b8,0,none⟩))∧Blk W b8 55 zq.cells∧z=zq)→Kx.look σ 9=some (.int .i64 1)→Leave Tryz.prog Tryz.f116 40 (fun v w'=>Ext w w'∧Two (eQ.at S (if trE p.length f t=0 then qc (qval q*(rv p t.toNat-rv p f.toNat)) else q0)) (Is (.int .i64 (trE p.length f t))) v w') σ [] W:=fun {W σ} hn hx ⟨_,h8,hk,_⟩ h9=>by
  have he:trE p.length f t=1:=by unfold trE;rw [if_neg hn]
  refine .plain [zq,_] Tryz.results116 ⟨⟨_,h8,?_⟩,h9,trivial⟩ ⟨hx,_,_,rfl,?_,by rw [he]⟩
  ·exact E5 (cs:=zq.cells.toList) ty_Q fun j u hu=>by
    rw [I6,Nat.zero_add,hk.cell]
    simpa using hu
  ·rw [if_neg (by rw [he];decide)];exact zq_R
 obtain ⟨_,_,_,_,hpl⟩:=RL.len hp
 have hst:∀ {σ:Env} {N':Nat},True:=trivial
 refine .go rfl ?_
 by_cases h0:f<0
 ·refine .lssT rfl rfl rfl h0 (.go rfl (.bld _ rfl rfl L6 (.storeA (E:=eQ) (S:=fun k=>k≠b8) ty_Q rfl rfl k8 rfl rfl zq_R (fun h=>h rfl) fun w3 k8 u3 _=>.goE rfl ?_)))
  exact hbad (fun h=>by have:=h.1.1;omega) (u3.below x2 (by omega)) ⟨zq,rfl,k8,rfl⟩ rfl
 refine .lssF rfl rfl rfl h0 (.go rfl (.lenR un_V rfl rfl hp2 (.go rfl ?_)))
 by_cases h1:(p.length:Int)≤f
 ·refine .geqT rfl rfl rfl h1 (.go rfl (.bld _ rfl rfl L6 (.storeA (E:=eQ) (S:=fun k=>k≠b8) ty_Q rfl rfl k8 rfl rfl zq_R (fun h=>h rfl) fun w3 k8 u3 _=>.goE rfl ?_)))
  exact hbad (fun h=>by have:=h.1.2;omega) (u3.below x2 (by omega)) ⟨zq,rfl,k8,rfl⟩ rfl
 refine .geqF rfl rfl rfl h1 (.go rfl ?_)
 by_cases h2:t<0
 ·refine .lssT rfl rfl rfl h2 (.go rfl (.bld _ rfl rfl L6 (.storeA (E:=eQ) (S:=fun k=>k≠b8) ty_Q rfl rfl k8 rfl rfl zq_R (fun h=>h rfl) fun w3 k8 u3 _=>.goE rfl ?_)))
  exact hbad (fun h=>by have:=h.2.1;omega) (u3.below x2 (by omega)) ⟨zq,rfl,k8,rfl⟩ rfl
 refine .lssF rfl rfl rfl h2 (.go rfl (.lenR un_V rfl rfl hp2 (.go rfl ?_)))
 by_cases h3:(p.length:Int)≤t
 ·refine .geqT rfl rfl rfl h3 (.go rfl (.bld _ rfl rfl L6 (.storeA (E:=eQ) (S:=fun k=>k≠b8) ty_Q rfl rfl k8 rfl rfl zq_R (fun h=>h rfl) fun w3 k8 u3 _=>.goE rfl ?_)))
  exact hbad (fun h=>by have:=h.2.2;omega) (u3.below x2 (by omega)) ⟨zq,rfl,k8,rfl⟩ rfl
 obtain ⟨f',rfl⟩:∃ f':Nat,f=f':=⟨f.toNat,by omega⟩
 obtain ⟨t',rfl⟩:∃ t':Nat,t=t':=⟨t.toNat,by omega⟩
 have hok:trE p.length f' t'=0:=by unfold trE;rw [if_pos ⟨⟨by omega,by omega⟩,by omega,by omega⟩]
 rw [if_pos hok]
 show WL _ _ _ _ _ _ _ _ _
 have hgf:p[f']?=some (p.getD f' q0):=A9 (by omega)
 have hgt:p[t']?=some (p.getD t' q0):=A9 (by omega)
 have hkf:=hkp.get hL1 f'
 have hkt:=hkp.get hL1 t'
 have hsub:Rsz (rv p t'-rv p f') (2*L+1):=by
  rw [Rat.sub_eq_add_neg]
  exact ((hkp.rsz hL1 t').add (hkp.rsz hL1 f').neg).mono (by omega)
 refine .geqF rfl rfl rfl h3 (.goC rfl ?_)
 refine .par follows 10 [.inl vq,.inl _,.inl _,.inr (Ptr eQ (fun k=>S k∧k≠b8) (p.getD t' q0)),.inr (eQ.at (fun k=>S k∧k≠b8) (p.getD t' q0)),.inl _,.inl _,.inr (Ptr eQ (fun k=>S k∧k≠b8) (p.getD f' q0)),.inr (eQ.at (fun k=>S k∧k≠b8) (p.getD f' q0)),.inr (eQ.at (fun k=>S k∧k≠b8) (qc (rv p t'-rv p f')))] [[],[],[],[(30,1),(31,2)],[(32,3)],[],[],[(34,5),(35,6)],[(36,7)],[(33,4),(37,8)]] (by kernel_rfl) ⟨
  fun w e=>((B8 ty_Q rfl (k7.ext e) (eQ.csz hq)).eq hvq.symm).ob,
  fun w e=>(v_mv rfl).ob,
  fun w e=>(v_mv rfl).ob,
  fun w e=>E0 (i:=t') un_V ty_Q rfl (ER.ext eV hp2 e) rfl hgt,
  fun w e x3 hx3=>J5 ty_Q rfl hx3,
  fun w e=>(v_mv rfl).ob,
  fun w e=>(v_mv rfl).ob,
  fun w e=>E0 (i:=f') un_V ty_Q rfl (ER.ext eV hp2 e) rfl hgf,
  fun w e x7 hx7=>J5 ty_Q rfl hx7,
  fun w e x4 hx4 x8 hx8=>(A2 _ R6 rfl (Q9 (L:=L) (upT e.size) hx4 hx8 hkt.1 hkf.1 hL1 (by omega))).ob (A6 _ _ _),trivial⟩ ?_
 intro W3 f3 _ _ _ _ _ _ _ _ x9 hx9
 have hmul:=N8 (L:=2*L+1) (upT f3.size) (ER.ext eQ hq2 f3) hx9 (hkq.1.mono (by omega)) hsub.toOk (by omega) (by omega)
 rw [A8] at hmul
 refine .call _ rfl L7 rfl hmul fun v4 W4 f4 h4=>?_
 have hs4:=(f3.trans f4).size
 refine .storeA (E:=eQ) ty_Q rfl rfl (k8.ext (f3.trans f4)) rfl rfl h4 (fun h=>h.2 rfl) fun W5 k8 u5 h5=>.goE rfl ?_
 have hv5:=shpA (E:=eQ) rfl h5
 refine .plain [v4,_] Tryz.results116 ⟨⟨_,rfl,?_⟩,rfl,trivial⟩ ⟨u5.below ((x2.trans f3).trans f4) (by omega),_,_,rfl,eQ.mono (fun _ _ h=>h.1) h5,by rw [hok]⟩
 rw [hv5]
 refine E5 (cs:=v4.cells.toList) (by rw [Array.length_toList,eQ.csz h5];exact ty_Q) fun j u hu=>?_
 rw [I6,Nat.zero_add,k8.cell]
 simpa using hu
open Classical in
noncomputable def paE (l:List RtV) (m:Nat):Int:=if ∀ r∈l,inR m r.f∧inR m r.t then 0 else 1
/-- what the i-th right is paid -/
def paR (p:Nat→Rat) (r:RtV):Rat:=((r.q:Int):Rat)*(p r.t.toNat-p r.f.toNat)
def paV (l:List RtV) (p:Nat→Rat) (i:Nat):Rat:=paR p (l.getD i ⟨0,0,0⟩)
theorem Y8:Ent Tryz.prog 49:=A0 Tryz.func49 (by kernel_rfl) rfl
set_option maxRecDepth 8000 in
theorem AG5 {S:Nat→Prop} {w:World} {vl vp:Value} {l:List RtV} {p:List QV} {L:Nat} (up:Up S w) (hl:eRts.R S w vl l) (hp:eV.R S w vp p) (hkp:vk L p) (hL3:3≤L) (hL:L≤1000000) (hl30:l.length≤1000) :
  CR Tryz.prog 49 #[vl,vp] w (Two (eV.at S (if paE l p.length=0 then tab l.length (paV l (rv p)) else [])) (Is (.int .i64 (paE l p.length)))):=by
 refine enter Tryz.func49 rfl Tryz.ntmps49 rfl (.beg (.go rfl (.lenR K2 rfl rfl hl ?_)))
 refine .make_ _ _ un_V K4 rfl (by decide) rfl rfl rfl (Nat.le_refl _) (by omega) (by omega) fun w3 g n3=>?_
 have f3:FB eQ 55 S w3 g (List.replicate l.length q0):=FB.made n3 zq_R
 obtain ⟨e3,_,hh,hs3⟩:=n3
 generalize hG:(fun i=>qc (paV l (rv p) i))=G
 refine .go rfl (.lenR K2 rfl rfl (ER.ext eRts hl e3) ?_)
 refine .goC rfl (.lp (α:=Nat) [1,6,14,15] rfl (fun i=>[(16,.int .i64 (i:Nat))]) (fun i W=>Ext w W∧i≤l.length∧FB eQ 55 S W g (fil l.length i G q0)∧∀ j r,j<i→l[j]?=some r→inR p.length r.f∧inR p.length r.t) (fun i=>l.length-i) 0 (lc1 rfl) ⟨e3,Nat.zero_le _,by rw [H7];exact f3,fun j r hj=>absurd hj (Nat.not_lt_zero _)⟩ ?_)
 rintro i W ⟨hW,hi,fb,hall⟩
 have hWs:=hW.size
 have hgl:=fb.lt
 refine .go rfl ?_
 rcases Nat.lt_or_ge i l.length with hlt | hge
 rotate_left
 ·refine .lssF rfl rfl rfl (by omega) (.goE rfl ?_)
  have:i=l.length:=by omega
  subst this
  have hpe:paE l p.length=0:=by
   unfold paE
   rw [if_pos]
   intro r hr
   obtain ⟨j,hj⟩:=List.mem_iff_getElem?.1 hr
   exact hall j r (List.getElem?_eq_some_iff.1 hj).1 hj
  rw [N2] at fb
  refine .plain [_,_] Tryz.results49 ⟨rfl,rfl,trivial⟩ ⟨hW,_,_,rfl,?_,by rw [hpe]⟩
  rw [if_pos hpe]
  have:=fb.toR (hsz:=by decide) (c:=l.length) (up g (by omega)) (by simp) (by simp;omega)
  rw [List.length_map,List.length_range,←hG] at this
  exact this
 have hg:=List.getElem?_eq_getElem hlt
 have hgd:l.getD i ⟨0,0,0⟩=l[i]:=by rw [List.getD_eq_getElem?_getD,hg];rfl
 have hmem:=List.getElem_mem hlt
 have hGi:G i=qc (((l[i].q:Int):Rat)*(rv p l[i].t.toNat-rv p l[i].f.toNat)):=by rw [←hG];show qc (paR (rv p) (l.getD i ⟨0,0,0⟩))=_;rw [hgd];rfl
 refine .lssT rfl rfl rfl (by omega) (.go rfl (.ixN (i:=i) K2 Q4 rfl rfl (ER.ext eRts hl hW) rfl hg fun q hq=>.ldE (E:=eRt) Q4 rfl rfl hq fun vr hr=>.alloc rfl AF3 fun W1 c n1=>.go rfl ?_))
 obtain ⟨g1,kc,hc,hs1⟩:=n1
 refine .storeA (E:=eRt) (S:=fun k=>k≠c) Q4 rfl rfl kc rfl rfl hr (fun h=>h rfl) fun W2 kc u2 hr=>.goC rfl ?_
 obtain ⟨rfl,i1,i2,i3⟩:=hr
 have i3':=F0.1 i3
 generalize l[i]=r at *
 have hs2:=u2.size
 have x2:Ext w W2:=u2.below (hW.trans g1) (by omega)
 have fb2:=fb.new g1 u2 (by omega)
 have upT:∀ {W':World},W2.heap.size≤W'.heap.size→Up (fun k=>S k∧k≠g) W':=fun h k hk=>⟨up k (by omega),by omega⟩
 have hpT:∀ {W':World},Ext w W'→eV.R (fun k=>S k∧k≠g) W' vp p:=fun e=>ER.ext eV (eV.mono (fun k _ h=>⟨h.1,by have:=h.2;omega⟩) (ER.lt eV hp)) e
 generalize hres:(if trE p.length r.f r.t=0 then qc (((r.q:Int):Rat)*(rv p r.t.toNat-rv p r.f.toNat)) else q0)=res
 refine .parL follows 13 [11] [.inl vp,.inl (.pointer (some ⟨c,0,none⟩)),.inl (.int .i64 r.f),.inl (.pointer (some ⟨c,1,none⟩)),.inl (.int .i64 r.t),.inl (.pointer (some ⟨c,2,none⟩)),.inl (.int .i64 r.q),.inr (eQ.at (fun k=>S k∧k≠g) (qc ((r.q:Int):Rat))),.inr (Two (eQ.at (fun k=>S k∧k≠g) res) (Is (.int .i64 (trE p.length r.f r.t)))),.inr (Two (eQ.at (fun k=>S k∧k≠g) res) (Is (.int .i64 (trE p.length r.f r.t)))),.inr (eQ.at (fun k=>S k∧k≠g) res),.inl (.int .i64 (trE p.length r.f r.t)),.inr (NewP W2.heap.size 55 zq.cells)] [[],[],[(23,1)],[],[(25,3)],[],[(27,5)],[(28,6)],[(22,0),(24,2),(26,4),(29,7)],[(30,8)],[(21,9)],[(21,9)],[]] (by kernel_rfl) ⟨
  fun w e=>(v_mv rfl).ob,
  fun w e=>(v_fa AH5 rfl).ob,
  fun w e=>(v_ld B0 rfl (kc.ext e) rfl).ob,
  fun w e=>(v_fa AH4 rfl).ob,
  fun w e=>(v_ld B0 rfl (kc.ext e) rfl).ob,
  fun w e=>(v_fa AH3 rfl).ob,
  fun w e=>(v_ld L1 rfl (kc.ext e) rfl).ob,
  fun w e=>(A2 _ C1 rfl (C0 (upT e.size) (by omega) (by omega))).ob (A6 _ _ _),
  fun w e x7 hx7=>by
  have:=AY6 (f:=r.f) (t:=r.t) (L:=L) (upT e.size) (hpT (x2.trans e)) hx7 hkp (O6 ((V6 (by omega)).mono hL3)) (by omega) hL
  rw [A8,hres] at this
  exact (A2 _ AI1 rfl this).ob (T5 (A6 _ _ _) (AF9 _)),
  fun w e x8 hx8=>L9 (v_mv rfl) hx8 (T5 (A6 _ _ _) (AF9 _)),
  fun w e x9 hx9=>by
  obtain ⟨p1,q1,rfl,hp1,hq1⟩:=hx9
  exact L9 (v_ex rfl rfl) hp1 (A6 _ _ _),
  fun w e x9 hx9=>by
  obtain ⟨p1,q1,rfl,hp1,hq1⟩:=hx9
  exact ((v_ex rfl rfl).eq hq1).ob,
  fun w e=>AA4 B7 e.size,trivial⟩ ?_
 rintro W3 g3 _ _ _ _ _ _ y hy _ ⟨b9,rfl,hb9,k9⟩
 have hy':=Aa1 hy k9 AC4
 have hs3':=g3.size
 refine .storeA (E:=eQ) ty_Q rfl rfl k9 rfl rfl hy' (fun h=>h.2 rfl) fun W4 k9 u4 hy=>.go rfl ?_
 have hs4:=u4.size
 have hy:eQ.R (fun k=>S k∧k≠g) W4 y _:=eQ.mono (fun _ _ h=>h.1) hy
 have hyv:=shpA (E:=eQ) rfl hy
 have x4:Ext w W4:=u4.below (x2.trans g3) (by omega)
 have fb4:=fb2.new g3 u4 (by omega)
 by_cases hin:inR p.length r.f∧inR p.length r.t
 rotate_left
 ·have h1:trE p.length r.f r.t=1:=by unfold trE;rw [if_neg hin]
  have hpe:paE l p.length=1:=by unfold paE;rw [if_neg fun h=>hin (h r hmem)]
  refine .neqT rfl rfl rfl (by rw [h1];decide) (.goE rfl ?_)
  refine .plain [_,_] Tryz.results49 ⟨rfl,rfl,trivial⟩ ⟨x4,_,_,rfl,?_,by rw [hpe,h1]⟩
  rw [if_neg (by rw [hpe];decide)];exact RL.nil
 have h1:trE p.length r.f r.t=0:=by unfold trE;rw [if_pos hin]
 rw [if_pos h1,←hGi] at hres
 refine .neqF rfl rfl rfl h1 (.go rfl (.ldA ty_Q rfl rfl k9 (eQ.csz hy) ?_))
 rw [←hyv]
 refine .ixB (i:=i) un_V ty_Q rfl rfl rfl hlt (.storeF (E:=eQ) (i:=i) (by decide) ty_Q rfl rfl fb4 rfl (by rw [D6];exact hlt) (Nat.zero_add _) hy fun W5 f5 u5=>?_)
 rw [←hres,I9] at f5
 refine .go rfl (.inc rfl rfl rfl (by omega) (.goN rfl (.mk (i+1) rfl (lc1 rfl) ⟨⟨u5.below x4 (by omega),hlt,f5,fun j r' hj hr'=>?_⟩,by show l.length-(i+1)<l.length-i;omega⟩)))
 by_cases e:j=i
 ·subst e;rw [hg] at hr';cases hr';exact hin
 ·exact hall j r' (by omega) hr'
end Go.Proofs.YtfilidfomgfnhaaGreat

namespace Go.Proofs.YtfilidfomgfnhaaGreat
open Go Go.Kx Go.RowKit
end Go.Proofs.YtfilidfomgfnhaaGreat

namespace Go.Proofs.YtfilidfomgfnhaaGreat
open Go Go.Kx Go.RowKit
end Go.Proofs.YtfilidfomgfnhaaGreat

namespace Go.Kx
open Go Go.RowKit
/-- angles are known by the equations -/
theorem Nw.th_cand {n:Nw} (ok:n.Ok) (hB:1≤n.B) (cand:Nat→Nat→Rat) (h:∀ b,b<n.B→∀ i,i<n.B→(if n.root i=i then cand b i else n.lap (cand b) i)=dl i b) {b c:Nat} (hb:b<n.B) (hc:c<n.B):n.th b c=cand b c :=
 Nw.uniq ok (fun i hi=>by
  have h1:=Go.Proofs.YtfilidfomgfnhaaGreat.th_eq ok hB hb hi
  have h2:=h b hb i hi
  split
  ·rw [if_pos (by assumption)] at h1 h2;rw [h1,h2]
  ·rw [if_neg (by assumption)] at h1 h2;rw [h1,h2]) c hc
theorem Nw.hf_cand {n:Nw} (ok:n.Ok) (hB:1≤n.B) (cand:Nat→Nat→Rat) (h:∀ b,b<n.B→∀ i,i<n.B→(if n.root i=i then cand b i else n.lap (cand b) i)=dl i b) {k b:Nat} (hk:k<n.M) (hb:b<n.B):n.hf k b=n.fl (cand b) k:=by
 unfold Nw.hf Nw.fl
 rw [Nw.th_cand ok hB cand h hb (ok.f k hk),Nw.th_cand ok hB cand h hb (ok.t k hk)]
def outsB (m:Nat) (o:List Int):Bool:=(List.range o.length).all fun i=>decide (0≤o.getD i 0) && decide (o.getD i 0<m) && (decide (i=0) || decide (o.getD (i-1) 0<o.getD i 0))
theorem Au4 {n:NtV} {o:List Int} (h:outsB n.ls.length o=true):outsOk n o:=by
 unfold outsB at h
 rw [List.all_eq_true] at h
 intro i hi
 have:=h i (List.mem_range.2 hi)
 simp only [Bool.and_eq_true,Bool.or_eq_true,decide_eq_true_eq] at this
 exact ⟨this.1.1,this.1.2,fun h0=>by rcases this.2 with h | h;omega;exact h⟩
def chkB (n:NtV):Bool:=decide (1≤n.b) && decide (n.b≤6) && decide (n.ls.length≤10) && n.ls.all fun l=>(List.range 5).all fun i=>ck i n.b l
theorem Am8 {n:NtV} {o:List Int} (h:chkB n=true) (ho:outsB n.ls.length o=true):outE n o=0:=by
 unfold chkB at h
 simp only [Bool.and_eq_true,decide_eq_true_eq,List.all_eq_true] at h
 obtain ⟨⟨⟨h1,h2⟩,h3⟩,h4⟩:=h
 have hc:chkE n=0:=by
  unfold chkE
  rw [if_neg (by omega),if_neg (by omega),if_pos]
  exact fun i _ l hl j hj=>h4 l (List.mem_iff_getElem?.2 ⟨i,hl⟩) j (List.mem_range.2 hj)
 unfold outE
 rw [if_neg (by simpa using hc),if_pos (Au4 ho)]
end Go.Kx
namespace Go.Proofs.YtfilidfomgfnhaaGreat
open Go Go.Kx Go.RowKit
theorem zero_N:zeroOf Tryz.prog 24=some (.agg #[.int .i64 0,.slice none 0 0]):=by kernel_rfl
theorem Aa7 {a b c d:Int}:bldOf Tryz.prog 80 [(0,.int .i64 a),(1,.int .i64 b),(2,.int .i64 c),(3,.int .i64 d)]=some #[.int .i64 a,.int .i64 b,.int .i64 c,.int .i64 d]:=by kernel_rfl
theorem bsl_Ls3 {a b c d a' b' c' d' a2 b2 c2 d2:Value}:bslOf Tryz.prog 22 3 [(0,.agg #[a,b,c,d]),(1,.agg #[a',b',c',d']),(2,.agg #[a2,b2,c2,d2])]=some (80,#[a,b,c,d,a',b',c',d',a2,b2,c2,d2]):=by kernel_rfl
theorem bld_N2 {b:Int} {a:Option Addr} {n c:Nat}:bldOf Tryz.prog 24 [(0,.int .i64 b),(1,.slice a n c)]=some #[.int .i64 b,.slice a n c]:=by kernel_rfl
theorem ln_R {S:Nat→Prop} {w:World} {a b c d:Int} (h:∀ x∈[a,b,c,d],-9223372036854775808≤x∧x≤9223372036854775807):eL.R S w (.agg #[.int .i64 a,.int .i64 b,.int .i64 c,.int .i64 d]) ⟨a,b,c,d⟩:=⟨rfl,F0.2 (h a (by simp)),F0.2 (h b (by simp)),F0.2 (h c (by simp)),F0.2 (h d (by simp))⟩
end Go.Proofs.YtfilidfomgfnhaaGreat

namespace Go.Kx
open Go Go.RowKit
/-- what flows out, by lines in service -/
def Nw.offM (n:Nw) (f:Nat→Rat) (b:Nat):Rat:=n.off (fun k=>if n.g k=0 then 0 else f k) b
end Go.Kx
namespace Go.Proofs.YtfilidfomgfnhaaGreat
open Go Go.Kx Go.RowKit
end Go.Proofs.YtfilidfomgfnhaaGreat

namespace Go.Proofs.YtfilidfomgfnhaaGreat
open Go Go.Kx Go.RowKit
theorem resP_R {S:Nat→Prop} {w W:World} {v:Value} {a:List QV} {B:Nat} (h:ResP S w.heap.size ((B:Nat):Int) a v W) (up:Up S w) (h1:1≤B) (h2:B≤60000):eV.R S W v (tab B (rv a)):=by
 rcases h with ⟨h,_⟩ | ⟨_,g,N,hN,hg,rfl,hf⟩
 ·omega
 ·have hNB:N=B:=by omega
  subst hNB
  have:=hf.toR (hsz:=by decide) (c:=N) (up g hg) (by rw [A1];exact Nat.le_refl _) (by rw [A1];omega)
  rw [A1] at this
  exact this
end Go.Proofs.YtfilidfomgfnhaaGreat

namespace Go.Kx
open Go Go.RowKit
section
variable {P:Program} {σ:Env} {w:World} {d:Option Tmp} {ty:TypeId} {pos:String} {af:Array Edge} {g:Option (Nat×Bool)}
end
end Go.Kx
namespace Go.Proofs.YtfilidfomgfnhaaGreat
open Go Go.Kx Go.RowKit
end Go.Proofs.YtfilidfomgfnhaaGreat

namespace Go.Kx
open Go Go.RowKit
section
variable {n:Nw}
/-- injections but for the reference buses -/
def Nw.inj0 (n:Nw) (x:Nat→Rat) (b:Nat):Rat:=if n.root b=b then 0 else x b
/-- the angles of injections -/
def Nw.an (n:Nw) (x:Nat→Rat) (c:Nat):Rat:=sumN n.B fun b=>n.th b c*n.inj0 x b
/-- the reference bus takes the surplus -/
def Nw.bl (n:Nw) (x:Nat→Rat) (b:Nat):Rat:=if n.root b=b then-sumN n.B (fun c=>if c≠b∧n.root c=b then x c else 0) else x b
end
end Go.Kx

namespace Go.Proofs.YtfilidfomgfnhaaGreat
open Go Go.Kx Go.RowKit
end Go.Proofs.YtfilidfomgfnhaaGreat

namespace Go.Proofs.YtfilidfomgfnhaaGreat
open Go Go.Kx Go.RowKit
theorem vk_ints (l:List Int) (h:∀ n∈l,-9223372036854775808≤n∧n≤9223372036854775807):vk 2 (intsV l):=Ac7 h
end Go.Proofs.YtfilidfomgfnhaaGreat

namespace Go.Kx
open Go Go.RowKit
section
variable {α:Type} {E:ER α} {t:TypeId} {S X:Nat→Prop} {w w':World} {g:Nat} {l:List α}
end
section
variable {P:Program} {ro:Option Nat} {N:Nat} {ds:List Deferred} {ops:Array Oper} {K:Env→World→Prop} {rest:List Oper} {σ:Env} {w:World} {d:Tmp} {ty:TypeId} {pos:String} {af:Array Edge} {α:Type} {E:ER α} {S:Nat→Prop}
end
end Go.Kx

namespace Go.Kx
open Go Go.RowKit
section
variable {α:Type} {E:ER α} {t:TypeId} {base:Nat} {X:Nat→Prop} {w w':World} {v:Value} {l:List α}
end
section
variable {P:Program} {σ:Env} {w:World} {d:Option Tmp} {ty:TypeId} {pos:String} {af:Array Edge} {g:Option (Nat×Bool)} {α:Type} {E:ER α}
end
def Nw.mem (n:Nw) (i r:Nat):List Nat:=(List.range i).filter fun b=>decide (n.root b=r)
theorem Nw.mem_succ (n:Nw) (i r:Nat):n.mem (i+1) r=n.mem i r++if n.root i=r then [i] else []:=by
 unfold Nw.mem
 rw [List.range_succ,List.filter_append]
 by_cases h:n.root i=r
 ·simp [h]
 ·simp [h]
end Go.Kx

namespace Go.Proofs.YtfilidfomgfnhaaGreat
open Go Go.Kx Go.RowKit
end Go.Proofs.YtfilidfomgfnhaaGreat

namespace Go.Kx
open Go Go.RowKit
section
variable {n:Nw}
def Nw.mem1 (n:Nw) (i r:Nat):List Nat:=(List.range i).filter fun c=>decide (c≠r∧n.root c=r)
theorem Nw.mem1_succ (n:Nw) (i r:Nat):n.mem1 (i+1) r=n.mem1 i r++if i≠r∧n.root i=r then [i] else []:=by
 unfold Nw.mem1
 rw [List.range_succ,List.filter_append]
 by_cases h:i≠r∧n.root i=r
 ·simp [h]
 ·rw [if_neg h];simp [h]
theorem Nw.mem_first {r:Nat} (h:n.root r=r):∀ d,n.mem (r+1+d) r=r::n.mem1 (r+1+d) r
 | 0=>by
  have e1:n.mem r r=[]:=by
   unfold Nw.mem
   rw [List.filter_eq_nil_iff]
   intro b hb
   have:=Nw.root_le (n:=n) b
   have:=List.mem_range.1 hb
   simp;omega
  have e2:n.mem1 r r=[]:=by
   unfold Nw.mem1
   rw [List.filter_eq_nil_iff]
   intro b hb
   have:=Nw.root_le (n:=n) b
   have:=List.mem_range.1 hb
   simp;omega
  rw [Nat.add_zero,Nw.mem_succ,Nw.mem1_succ,e1,e2,if_pos h,if_neg (by simp)];rfl
 | d+1=>by
  rw [show r+1+(d+1)=(r+1+d)+1 by omega,Nw.mem_succ,Nw.mem1_succ,Nw.mem_first h d]
  by_cases h':n.root (r+1+d)=r
  ·rw [if_pos h',if_pos ⟨by omega,h'⟩];rfl
  ·rw [if_neg h',if_neg fun h''=>h' h''.2];rfl
theorem Nw.mem_cons {B r:Nat} (h:n.root r=r) (hr:r<B):n.mem B r=r::n.mem1 B r:=by
 have:=Nw.mem_first (n:=n) h (B-(r+1))
 rwa [show r+1+(B-(r+1))=B by omega] at this
end
end Go.Kx
namespace Go.Proofs.YtfilidfomgfnhaaGreat
open Go Go.Kx Go.RowKit
end Go.Proofs.YtfilidfomgfnhaaGreat

namespace Go.Kx
open Go Go.RowKit
theorem Leave.tt {P:Program} {fn:Func} {N:Nat} {σ:Env} {w W:World} {r:Nat} (hr:fn.results=#[.tmp r]) (hl:look σ r=some (.bool true)) (h:Ext w W):Leave P fn N (fun v w'=>Ext w w'∧Is (.bool true) v w') σ [] W:=.plain [_] hr ⟨hl,trivial⟩ ⟨h,rfl⟩
end Go.Kx
namespace Go.Proofs.YtfilidfomgfnhaaGreat
open Go Go.Kx Go.RowKit
theorem eqV_t {a b:List QV} (h:∀ k,rv a k=rv b k):decide (eqV a b)=true:=decide_eq_true h
end Go.Proofs.YtfilidfomgfnhaaGreat

namespace Go.Proofs.YtfilidfomgfnhaaGreat
open Go Go.Kx Go.RowKit
theorem Ab5:Ent Tryz.prog 46:=A0 Tryz.func46 (by kernel_rfl) rfl
theorem AZ3 {S:Nat→Prop} {w:World} {vn vo vl:Value} {n:NtV} {o:List Int} {l:List RtV} (hn:eN.R S w vn n) (ho:eI.R S w vo o) (hl:eRts.R S w vl l):CR Tryz.prog 46 #[vn,vo,vl] w (Lng (l.length≤30)):=by
 obtain ⟨s,rfl,hs,hb⟩:=hn
 refine enter Tryz.func46 rfl Tryz.ntmps46 rfl (.beg (.go rfl (.box rfl rfl fun w1 b3 n1=>?_)))
 obtain ⟨e1,k3,hb3,hs1⟩:=n1
 have htr:∀ {σ:Env},Kx.look σ 6=some (.bool true)→Leave Tryz.prog Tryz.f46 21 (fun v w'=>Ext w w'∧Lng (l.length≤30) v w') σ [] w1:=fun h=>.plain [_] Tryz.results46 ⟨h,trivial⟩ ⟨e1,true,rfl,fun h=>by cases h⟩
 refine .go rfl (.fa L5 rfl rfl (.lc Q5 rfl rfl k3 rfl (.lenR O5 rfl rfl (hs.ext e1) ?_)))
 by_cases h1:30<n.ls.length
 ·exact .gtrT rfl rfl rfl (by omega) (.goE rfl (htr rfl))
 refine .gtrF rfl rfl rfl (by omega) (.go rfl (.lenR un_I rfl rfl (ho.ext e1) (.go rfl ?_)))
 by_cases h2:30<o.length
 ·exact .gtrT rfl rfl rfl (by omega) (.goE rfl (htr rfl))
 refine .gtrF rfl rfl rfl (by omega) (.go rfl (.lenR K2 rfl rfl (ER.ext eRts hl e1) (.go rfl ?_)))
 by_cases h3:30<l.length
 ·exact .gtrT rfl rfl rfl (by omega) (.goE rfl (htr rfl))
 ·refine .gtrF rfl rfl rfl (by omega) (.goE rfl ?_)
  exact .plain [_] Tryz.results46 ⟨rfl,trivial⟩ ⟨e1,false,rfl,fun _=>by omega⟩
def netc:NtV:=⟨3,[⟨0,1,1,10⟩,⟨1,2,1,10⟩,⟨0,2,1,10⟩]⟩
theorem H8:Ent Tryz.prog 113:=A0 Tryz.func113 (by kernel_rfl) rfl
theorem H4 {w:World}:CR Tryz.prog 113 #[] w (eN.at (fun _=>True) netc):=by
 refine enter Tryz.func113 rfl Tryz.ntmps113 rfl (.beg (.go rfl (.alloc rfl zero_N fun w1 b0 n1=>.go rfl (.bld _ rfl rfl Aa7 (.bld _ rfl rfl Aa7 (.bld _ rfl rfl Aa7 (.bsl _ rfl rfl bsl_Ls3 fun w2 b4 n2=>.bld _ rfl rfl bld_N2 ?_)))))))
 obtain ⟨e1,k0,hb0,hs1⟩:=n1
 have hl:eLs.R (fun k=>k≠b0) w2 (.slice (some ⟨b4,0,none⟩) 3 3) netc.ls:=AJ9 (E:=eL) [_,_,_] netc.ls n2 (fun k hk=>by omega) rfl rfl (by decide) (Els.snoc (Els.snoc (Els.snoc Els.nil (ln_R (by decide))) (ln_R (by decide))) (ln_R (by decide)))
 have hn:eN.R (fun k=>k≠b0) w2 (.agg #[.int .i64 3,.slice (some ⟨b4,0,none⟩) 3 3]) netc:=⟨_,rfl,hl,F0.2 (by decide)⟩
 refine .storeA (E:=eN) ty_N rfl rfl (k0.ext n2.1) rfl rfl hn (fun h=>h rfl) fun w3 k3 u3 h3=>.goE rfl ?_
 exact .cell (E:=eN) Tryz.results113 rfl ty_N rfl rfl k3 h3 ⟨u3.below (e1.trans n2.1) (by omega),eN.mono (fun _ _ _=>trivial) h3⟩
theorem S9:Ent Tryz.prog 115:=A0 Tryz.func115 (by kernel_rfl) rfl
theorem S4 {w:World} {va vl:Value} {a:List QV} {l:List Int} {L:Nat} (ha:eV.R (fun _=>True) w va a) (hl:eI.R (fun _=>True) w vl l) (hka:vk L a) (hL1:2≤L) (hL:L≤10000000000) (hd:∀ x∈l,-9223372036854775808≤x∧x≤9223372036854775807) (hlen:a.length=l.length) (hl3:l.length≤1000) (he:∀ k,k<l.length→rv a k=((l.getD k 0:Int):Rat)):CR Tryz.prog 115 #[va,vl] w (Is (.bool true)):=by
 refine enter Tryz.func115 rfl Tryz.ntmps115 rfl (.beg (.go rfl (.lenR un_V rfl rfl ha (.go rfl (.lenR un_L rfl rfl hl ?_)))))
 refine .eqlT rfl rfl rfl (by omega) (.go rfl ?_)
 refine .call _ rfl R4 rfl (Q3 upT hl (by omega)) fun v2 w2 e2 h2=>.go rfl ?_
 have h3:=Ac9 (L:=L) upT (ER.ext eV ha e2) h2 (by omega) (by rw [A1];omega) hka ((Ac7 hd).mono hL1) (by omega) hL
 rw [eqV_t fun k=>by
  rw [J3]
  by_cases hk:k<l.length
  ·rw [if_pos hk,he k hk]
  ·rw [if_neg hk,AE2 (by omega)]] at h3
 refine .call _ rfl Ag8 rfl h3 fun v4 w4 e4 h4=>?_
 subst h4
 exact .goE rfl (.tt Tryz.results115 rfl (e2.trans e4))
/-! the examples -/
def candc (b c:Nat):Rat:=if b=0 then 1 else if c=0 then 0 else if b=c then Rat.divInt 2 3 else Rat.divInt 1 3
theorem okc:outE netc []=0:=Am8 (by decide) (by decide)
theorem okc3:outE netc [0,1,2]=0:=Am8 (by decide) (by decide)
theorem Ax0:∀ b,b<(nwOf netc []).B→∀ i,i<(nwOf netc []).B→(if (nwOf netc []).root i=i then candc b i else (nwOf netc []).lap (candc b) i)=dl i b:=by
 have:∀ b,b<3→∀ i,i<3→(if (nwOf netc []).root i=i then candc b i else (nwOf netc []).lap (candc b) i)=dl i b:=by decide +kernel
 exact this
theorem Am4 (l:List RtV) {k:Nat} (hk:k<3):rfV netc [] l k=sumN 3 fun b=>(nwOf netc []).fl (candc b) k*((rtS l b:Int):Rat):=by
 have ok:=AG7 okc
 unfold rfV
 exact A7 fun b hb=>by rw [Nw.hf_cand ok.ok ok.b1 candc Ax0 hk hb]
def rtB (b:Int) (l:List RtV):Bool:=decide (l.length≤8) && l.all fun r=>decide (0≤r.f) && decide (r.f<b) && decide (0≤r.t) && decide (r.t<b) && decide (0≤r.q) && decide (r.q≤1000000)
theorem At5 {l:List RtV} {b:Int} (h:rtB b l=true):rtE l b=0:=by
 unfold rtB at h
 simp only [Bool.and_eq_true,decide_eq_true_eq,List.all_eq_true] at h
 unfold rtE
 rw [if_neg (by omega),if_pos]
 intro r hr
 have:=h.2 r hr
 exact ⟨this.1.1.1.1.1,this.1.1.1.1.2,this.1.1.1.2,this.1.1.2,this.1.2,this.2⟩
theorem At7 {n:NtV} {o:List Int} {l:List RtV} (h1:outE n o=0) (h2:rtB n.b l=true) (h3:(l.all fun r=>decide ((nwOf n o).root r.f.toNat=(nwOf n o).root r.t.toNat))=true):rfE n o l=0:=by
 unfold rfE
 rw [if_neg (by simpa using h1),if_neg (by simpa using At5 h2),if_neg]
 rintro ⟨r,hr,hne⟩
 exact hne (of_decide_eq_true (List.all_eq_true.1 h3 r hr))
theorem rfE_not {n:NtV} {o:List Int} {l:List RtV} (h1:outE n o=0) (h2:rtB n.b l=true) (h3:(l.all fun r=>decide ((nwOf n o).root r.f.toNat=(nwOf n o).root r.t.toNat))=false):rfE n o l=10:=by
 unfold rfE
 rw [if_neg (by simpa using h1),if_neg (by simpa using At5 h2),if_pos]
 apply Classical.byContradiction
 intro h
 rw [Bool.eq_false_iff] at h3
 refine h3 (List.all_eq_true.2 fun r hr=>decide_eq_true (Classical.byContradiction fun hne=>h ⟨r,hr,hne⟩))
theorem rc1:rfE netc [] [⟨0,2,12⟩]=0:=At7 okc (by decide) (by decide +kernel)
theorem rc2:rfE netc [] [⟨0,2,18⟩]=0:=At7 okc (by decide) (by decide +kernel)
theorem rc3:rfE netc [0,1,2] [⟨0,2,12⟩]=10:=rfE_not okc3 (by decide) (by decide +kernel)
theorem rv1:∀ k,k<3→rfV netc [] [⟨0,2,12⟩] k=((([4,4,8]:List Int).getD k 0:Int):Rat):=fun k hk=>by
 have h:∀ k,k<3→(sumN 3 fun b=>(nwOf netc []).fl (candc b) k*((rtS [⟨0,2,12⟩] b:Int):Rat))=((([4,4,8]:List Int).getD k 0:Int):Rat):=by decide +kernel
 rw [Am4 _ hk,h k hk]
theorem rv2:∀ k,k<3→rfV netc [] [⟨0,2,18⟩] k=((([6,6,12]:List Int).getD k 0:Int):Rat):=fun k hk=>by
 have h:∀ k,k<3→(sumN 3 fun b=>(nwOf netc []).fl (candc b) k*((rtS [⟨0,2,18⟩] b:Int):Rat))=((([6,6,12]:List Int).getD k 0:Int):Rat):=by decide +kernel
 rw [Am4 _ hk,h k hk]
theorem fe1:feP netc [] [⟨0,2,12⟩]:=⟨rc1,fun k hk=>by
 rw [rv1 k hk]
 have h:∀ k,k<3→absR ((([4,4,8]:List Int).getD k 0:Int):Rat)≤(((netc.ls.getD k ln0).c:Int):Rat):=by decide +kernel
 exact h k hk⟩
theorem fe2:¬ feP netc [] [⟨0,2,18⟩]:=fun h=>by
 have h1:=h.2 2 (by decide)
 rw [rv2 2 (by decide)] at h1
 exact absurd h1 (by decide +kernel)
theorem fe3:¬ feP netc [0,1,2] [⟨0,2,12⟩]:=fun h=>by have:=h.1;rw [rc3] at this;cases this
theorem Ak5 {a b c:Int}:bldOf Tryz.prog 59 [(0,.int .i64 a),(1,.int .i64 b),(2,.int .i64 c)]=some #[.int .i64 a,.int .i64 b,.int .i64 c]:=by kernel_rfl
theorem Aa3 {a b c:Value}:bslOf Tryz.prog 57 1 [(0,.agg #[a,b,c])]=some (59,#[a,b,c]):=by kernel_rfl
theorem Ax7 {x y z:Int}:bslOf Tryz.prog 25 3 [(0,.int .i64 x),(1,.int .i64 y),(2,.int .i64 z)]=some (3,#[.int .i64 x,.int .i64 y,.int .i64 z]):=by kernel_rfl
theorem rt_R {S:Nat→Prop} {w:World} {a b c:Int} (h:∀ x∈[a,b,c],-9223372036854775808≤x∧x≤9223372036854775807):eRt.R S w (.agg #[.int .i64 a,.int .i64 b,.int .i64 c]) ⟨a,b,c⟩:=⟨rfl,F0.2 (h a (by simp)),F0.2 (h b (by simp)),F0.2 (h c (by simp))⟩
theorem pa_of {l:List RtV} {m:Nat} (h:(l.all fun r=>decide (0≤r.f∧r.f<(m:Int)) && decide (0≤r.t∧r.t<(m:Int)))=true):paE l m=0:=by
 unfold paE
 rw [if_pos]
 intro r hr
 have:=List.all_eq_true.1 h r hr
 simp only [Bool.and_eq_true,decide_eq_true_eq] at this
 exact ⟨this.1,this.2⟩
theorem U4:Ent Tryz.prog 48:=A0 Tryz.func48 (by kernel_rfl) rfl
set_option maxRecDepth 8000 in
open Classical in
theorem AU0 {w:World}:CR Tryz.prog 48 #[] w (Is (.bool true)):=by
 refine enter Tryz.func48 rfl Tryz.ntmps48 rfl (.beg (.go rfl (.bld _ rfl rfl Ak5 (.bsl _ rfl rfl Aa3 fun w1 b1 n1=>.bld _ rfl rfl Ak5 (.bsl _ rfl rfl Aa3 fun w2 b2 n2=>.bld _ rfl rfl Ak5 (.bsl _ rfl rfl Aa3 fun w3 b3 n3=>.go rfl ?_))))))
 have y3:=(n1.1.trans n2.1).trans n3.1
 have h1:eRts.R (fun _=>True) w3 (.slice (some ⟨b1,0,none⟩) 1 1) [⟨0,2,12⟩]:=ER.ext eRts (AJ9 (E:=eRt) (hsz:=by decide) [_] [⟨0,2,12⟩] n1 upT rfl rfl (by decide) (Els.snoc Els.nil (rt_R (by decide)))) (n2.1.trans n3.1)
 have h2:eRts.R (fun _=>True) w3 (.slice (some ⟨b2,0,none⟩) 1 1) [⟨0,2,18⟩]:=ER.ext eRts (AJ9 (E:=eRt) (hsz:=by decide) [_] [⟨0,2,18⟩] n2 upT rfl rfl (by decide) (Els.snoc Els.nil (rt_R (by decide)))) n3.1
 have h3:eRts.R (fun _=>True) w3 (.slice (some ⟨b3,0,none⟩) 1 1) [⟨2,0,12⟩]:=AJ9 (E:=eRt) (hsz:=by decide) [_] [⟨2,0,12⟩] n3 upT rfl rfl (by decide) (Els.snoc Els.nil (rt_R (by decide)))
 have okc':=AG7 okc
 refine .call _ rfl H8 rfl H4 fun v4 w4 e4 h4=>.go rfl ?_
 refine .call _ rfl K7 rfl (K6 (o:=[]) upT h4 RL.nil (ER.ext eRts h1 e4)) fun v5 w5 e5 h5=>?_
 obtain ⟨va,ve,rfl,ha,he⟩:=h5
 replace he:ve=.int .i64 0:=by rw [he,rc1]
 subst he
 rw [if_pos rc1] at ha
 have z5:=e4.trans e5
 refine .go rfl (.call _ rfl H8 rfl H4 fun v6 w6 e6 h6=>.go rfl ?_)
 refine .call _ rfl K7 rfl (K6 (o:=[]) upT h6 RL.nil (ER.ext eRts h2 (z5.trans e6))) fun v7 w7 e7 h7=>?_
 obtain ⟨vb,ve,rfl,hb,he⟩:=h7
 replace he:ve=.int .i64 0:=by rw [he,rc2]
 subst he
 rw [if_pos rc2] at hb
 have z7:=(z5.trans e6).trans e7
 refine .go rfl (.call _ rfl H8 rfl H4 fun v8 w8 e8 h8=>.go rfl ?_)
 refine .call _ rfl K0 rfl (J7 (o:=[]) upT h8 RL.nil (ER.ext eRts h1 (z7.trans e8))) fun v9 w9 e9 h9=>?_
 obtain ⟨vc,ve,rfl,hc,he⟩:=h9
 replace hc:vc=.bool true:=by rw [hc,decide_eq_true fe1]
 replace he:ve=.int .i64 0:=by rw [he];unfold feE;rw [rc1];rfl
 subst hc he
 have z9:=(z7.trans e8).trans e9
 refine .go rfl (.call _ rfl H8 rfl H4 fun v10 w10 e10 h10=>.go rfl ?_)
 refine .call _ rfl K0 rfl (J7 (o:=[]) upT h10 RL.nil (ER.ext eRts h2 (z9.trans e10))) fun v11 w11 e11 h11=>?_
 obtain ⟨vd,ve,rfl,hd,he⟩:=h11
 replace hd:vd=.bool false:=by rw [hd,decide_eq_false fe2]
 replace he:ve=.int .i64 0:=by rw [he];unfold feE;rw [rc2];rfl
 subst hd he
 have z11:=(z9.trans e10).trans e11
 refine .go rfl (.bsl _ rfl rfl Aa4 fun w12 b12 n12=>?_)
 refine .call _ rfl R4 rfl (Q3 upT (AB4 [20,25,30] 3 n12 upT rfl rfl (by decide) (by decide)) (by decide)) fun v13 w13 e13 h13=>?_
 have hkp:vk 3 (tab ([20,25,30]:List Int).length fun k=>((([20,25,30]:List Int).getD k 0:Int):Rat)):=(vk_ints [20,25,30] (by decide)).mono (by decide)
 have hrp:∀ k,k<3→rv (tab ([20,25,30]:List Int).length fun k=>((([20,25,30]:List Int).getD k 0:Int):Rat)) k=((([20,25,30]:List Int).getD k 0:Int):Rat):=fun k hk=>by rw [J3,if_pos (show k<([20,25,30]:List Int).length from hk)]
 have z13:=(z11.trans n12.1).trans e13
 have hpa1:paE [⟨0,2,12⟩] (tab ([20,25,30]:List Int).length fun k=>((([20,25,30]:List Int).getD k 0:Int):Rat)).length=0:=by rw [A1];exact pa_of (by decide)
 have hpa2:paE [⟨2,0,12⟩] (tab ([20,25,30]:List Int).length fun k=>((([20,25,30]:List Int).getD k 0:Int):Rat)).length=0:=by rw [A1];exact pa_of (by decide)
 refine .call _ rfl Y8 rfl (AG5 upT (ER.ext eRts h1 z13) h13 hkp (by decide) (by decide) (by decide)) fun v14 w14 e14 h14=>?_
 obtain ⟨vp,ve,rfl,hp,he⟩:=h14
 replace he:ve=.int .i64 0:=by rw [he,hpa1]
 subst he
 rw [if_pos hpa1] at hp
 have z14:=z13.trans e14
 refine .go rfl (.bsl _ rfl rfl Aa4 fun w15 b15 n15=>?_)
 refine .call _ rfl R4 rfl (Q3 upT (AB4 [20,25,30] 3 n15 upT rfl rfl (by decide) (by decide)) (by decide)) fun v16 w16 e16 h16=>?_
 have z16:=(z14.trans n15.1).trans e16
 refine .call _ rfl Y8 rfl (AG5 upT (ER.ext eRts h3 z16) h16 hkp (by decide) (by decide) (by decide)) fun v17 w17 e17 h17=>?_
 obtain ⟨vr,ve,rfl,hr,he⟩:=h17
 replace he:ve=.int .i64 0:=by rw [he,hpa2]
 subst he
 rw [if_pos hpa2] at hr
 have z17:=z16.trans e17
 refine .go rfl (.call _ rfl H8 rfl H4 fun v18 w18 e18 h18=>.bsl _ rfl rfl Ax7 fun w19 b19 n19=>.go rfl ?_)
 have z19:=(z17.trans e18).trans n19.1
 refine .call _ rfl K7 rfl (K6 upT (ER.ext eN h18 n19.1) (AB4 [0,1,2] 3 n19 upT rfl rfl (by decide) (by decide)) (ER.ext eRts h1 z19)) fun v20 w20 e20 h20=>?_
 obtain ⟨vs,ve,rfl,hs,he⟩:=h20
 replace he:ve=.int .i64 10:=by rw [he,rc3]
 subst he
 have z20:=z19.trans e20
 refine .go rfl (.call _ rfl H8 rfl H4 fun v21 w21 e21 h21=>.bsl _ rfl rfl Ax7 fun w22 b22 n22=>.go rfl ?_)
 have z22:=(z20.trans e21).trans n22.1
 refine .call _ rfl K0 rfl (J7 upT (ER.ext eN h21 n22.1) (AB4 [0,1,2] 3 n22 upT rfl rfl (by decide) (by decide)) (ER.ext eRts h1 z22)) fun v23 w23 e23 h23=>?_
 obtain ⟨vt,ve,rfl,ht,he⟩:=h23
 replace ht:vt=.bool false:=by rw [ht,decide_eq_false fe3]
 replace he:ve=.int .i64 0:=by rw [he];unfold feE;rw [if_pos rc3]
 subst ht he
 have z23:=z22.trans e23
 have x23:=y3.trans z23
 have c5:Ext w5 w23:=((((((((((((e6.trans e7).trans e8).trans e9).trans e10).trans e11).trans n12.1).trans e13).trans e14).trans n15.1).trans e16).trans e17).trans (((((e18.trans n19.1).trans e20).trans e21).trans n22.1).trans e23))
 have c7:Ext w7 w23:=((((((((((e8.trans e9).trans e10).trans e11).trans n12.1).trans e13).trans e14).trans n15.1).trans e16).trans e17).trans (((((e18.trans n19.1).trans e20).trans e21).trans n22.1).trans e23))
 have c14:Ext w14 w23:=((n15.1.trans e16).trans e17).trans (((((e18.trans n19.1).trans e20).trans e21).trans n22.1).trans e23)
 have c17:Ext w17 w23:=((((e18.trans n19.1).trans e20).trans e21).trans n22.1).trans e23
 have hkr:=AY3 (l:=[⟨0,2,12⟩]) okc' (AP9 rc1).2.1 3
 have hkr2:=AY3 (l:=[⟨0,2,18⟩]) okc' (AP9 rc2).2.1 3
 have pv1:paV [⟨0,2,12⟩] (rv (tab ([20,25,30]:List Int).length fun k=>((([20,25,30]:List Int).getD k 0:Int):Rat))) 0=((120:Int):Rat):=by
  show ((12:Int):Rat)*(rv _ 2-rv _ 0)=_
  rw [hrp 2 (by decide),hrp 0 (by decide)]
  decide +kernel
 have pv2:paV [⟨2,0,12⟩] (rv (tab ([20,25,30]:List Int).length fun k=>((([20,25,30]:List Int).getD k 0:Int):Rat))) 0=((-120:Int):Rat):=by
  show ((12:Int):Rat)*(rv _ 0-rv _ 2)=_
  rw [hrp 2 (by decide),hrp 0 (by decide)]
  decide +kernel
 have hkp1:vk 3 (tab ([⟨0,2,12⟩]:List RtV).length (paV [⟨0,2,12⟩] (rv (tab ([20,25,30]:List Int).length fun k=>((([20,25,30]:List Int).getD k 0:Int):Rat))))):=Q0 fun k hk=>by
  have:k=0:=Nat.lt_one_iff.1 hk
  subst this
  rw [pv1];exact V6 (by decide)
 have hkp2:vk 3 (tab ([⟨2,0,12⟩]:List RtV).length (paV [⟨2,0,12⟩] (rv (tab ([20,25,30]:List Int).length fun k=>((([20,25,30]:List Int).getD k 0:Int):Rat))))):=Q0 fun k hk=>by
  have:k=0:=Nat.lt_one_iff.1 hk
  subst this
  rw [pv2];exact V6 (by decide)
 refine .go rfl (.eqlT rfl rfl rfl rfl (.go rfl (.bsl _ rfl rfl Aa4 fun w24 b24 n24=>.go rfl ?_)))
 refine .call _ rfl S9 rfl (S4 (ER.ext eV ha (c5.trans n24.1)) (AB4 [4,4,8] 3 n24 upT rfl rfl (by decide) (by decide)) hkr (by decide) (by decide) (by decide) (A1 ..) (by decide) (fun k hk=>by rw [J3,if_pos (show k<netc.ls.length from hk)];exact rv1 k hk)) fun v25 w25 e25 h25=>?_
 subst h25
 have d25:=n24.1.trans e25
 refine .go rfl (.eqlT rfl rfl rfl rfl (.go rfl (.bsl _ rfl rfl Aa4 fun w26 b26 n26=>.go rfl ?_)))
 refine .call _ rfl S9 rfl (S4 (ER.ext eV hb ((c7.trans d25).trans n26.1)) (AB4 [6,6,12] 3 n26 upT rfl rfl (by decide) (by decide)) hkr2 (by decide) (by decide) (by decide) (A1 ..) (by decide) (fun k hk=>by rw [J3,if_pos (show k<netc.ls.length from hk)];exact rv2 k hk)) fun v27 w27 e27 h27=>?_
 subst h27
 have d27:=(d25.trans n26.1).trans e27
 refine .go rfl (.eqlT rfl rfl rfl rfl (.go rfl (.eqlT rfl rfl rfl rfl (.go rfl (.eqlT rfl rfl rfl rfl (.go rfl (.bsl _ rfl rfl Ax6 fun w28 b28 n28=>.go rfl ?_)))))))
 refine .call _ rfl S9 rfl (S4 (ER.ext eV hp ((c14.trans d27).trans n28.1)) (AB4 [120] 1 n28 upT rfl rfl (by decide) (by decide)) hkp1 (by decide) (by decide) (by decide) (A1 ..) (by decide) (fun k hk=>by
  have:k=0:=Nat.lt_one_iff.1 hk
  subst this
  rw [J3,if_pos (by decide)];exact pv1)) fun v29 w29 e29 h29=>?_
 subst h29
 have d29:=(d27.trans n28.1).trans e29
 refine .go rfl (.eqlT rfl rfl rfl rfl (.go rfl (.bsl _ rfl rfl Ax6 fun w30 b30 n30=>.go rfl ?_)))
 refine .call _ rfl S9 rfl (S4 (ER.ext eV hr ((c17.trans d29).trans n30.1)) (AB4 [-120] 1 n30 upT rfl rfl (by decide) (by decide)) hkp2 (by decide) (by decide) (by decide) (A1 ..) (by decide) (fun k hk=>by
  have:k=0:=Nat.lt_one_iff.1 hk
  subst this
  rw [J3,if_pos (by decide)];exact pv2)) fun v31 w31 e31 h31=>?_
 subst h31
 have d31:=(d29.trans n30.1).trans e31
 exact .go rfl (.eqlT rfl rfl rfl rfl (.go rfl (.eqlT rfl rfl rfl rfl (.goE rfl (.tt Tryz.results48 rfl (x23.trans d31))))))
end Go.Proofs.YtfilidfomgfnhaaGreat

namespace Go.Kx
open Go Go.RowKit
theorem Ao8 {α:Type} {P:List α→Prop} (h0:P []) (h1:∀ l x,P l→P (l++[x])) (l:List α):P l:=by
 have key:∀ (m:Nat) (l:List α),l.length=m→P l:=by
  intro m
  induction m with
  | zero=>intro l hl;rw [List.length_eq_zero_iff.1 hl];exact h0
  | succ m ih =>
   intro l hl
   obtain ⟨l',k,rfl⟩:∃ l' k,l=l'++[k]:=⟨l.dropLast,l.getLast (by intro e;rw [e] at hl;cases hl),(List.dropLast_concat_getLast _).symm⟩
   exact h1 _ _ (ih l' (by simp at hl;exact hl))
 exact key _ l rfl
end Go.Kx
namespace Go.Proofs.YtfilidfomgfnhaaGreat
open Go Go.Kx Go.RowKit
end Go.Proofs.YtfilidfomgfnhaaGreat

namespace Go.Proofs.YtfilidfomgfnhaaGreat
open Go Go.Kx Go.RowKit
theorem Ah9 {S:Nat→Prop} {w:World} {va vb:Value} {a b:List QV} {L:Nat} (up:Up S w) (ha:eV.R S w va a) (hb:eV.R S w vb b) (hl:min a.length b.length≤1000) (hka:vk L a) (hkb:vk L b) (hL:1≤L) (hL2:L≤2000000) :
  CR Tryz.prog 62 #[va,vb] w (eQ.at S (qc (sumN (min a.length b.length) fun k=>rv a k*rv b k))):=AV0 up ha hb hl hka hkb hL hL2
theorem AT5 {S:Nat→Prop} {w:World} {vp vq:Value} {p:List QV} {q:QV} {f t:Int} {L:Nat} (up:Up S w) (hp:eV.R S w vp p) (hq:eQ.R S w vq q) (hkp:vk L p) (hkq:qk L q) (hL1:1≤L) (hL:L≤30000000) :
  CR Tryz.prog 116 #[vp,.int .i64 f,.int .i64 t,vq] w (Two (eQ.at S (if trE p.length f t=0 then qc (qval q*(rv p t.toNat-rv p f.toNat)) else q0)) (Is (.int .i64 (trE p.length f t)))):=by
 have hvq:=shpA rfl hq
 refine enter Tryz.func116 rfl Tryz.ntmps116 rfl (.beg (.go rfl (.box rfl rfl fun w1 b7 n1=>.alloc rfl B7 fun w2 b8 n2=>?_)))
 obtain ⟨e1,k7,hb7,hs1⟩:=n1
 obtain ⟨e2,k8,hb8,hs2⟩:=n2
 have x2:=e1.trans e2
 have k7:=k7.ext e2
 have hx2:=x2.size
 have hp2:eV.R (fun k=>S k∧k≠b8) w2 vp p:=eV.mono (fun k _ h=>⟨h.1,by have:=h.2;omega⟩) (ER.ext eV (ER.lt eV hp) x2)
 have hq2:eQ.R (fun k=>S k∧k≠b8) w2 vq q:=eQ.mono (fun k _ h=>⟨h.1,by have:=h.2;omega⟩) (ER.ext eQ (ER.lt eQ hq) x2)
 have upT:∀ {W:World},w2.heap.size≤W.heap.size→Up (fun k=>S k∧k≠b8) W:=fun h k hk=>⟨up k (by omega),by omega⟩
 have hbad:∀ {W:World} {σ:Env},¬ (inR p.length f∧inR p.length t)→Ext w W→(∃ z,Kx.look σ 8=some (.pointer (some ⟨b8,0,none⟩))∧Blk W b8 55 zq.cells∧z=zq)→Kx.look σ 9=some (.int .i64 1)→Leave Tryz.prog Tryz.f116 40 (fun v w'=>Ext w w'∧Two (eQ.at S (if trE p.length f t=0 then qc (qval q*(rv p t.toNat-rv p f.toNat)) else q0)) (Is (.int .i64 (trE p.length f t))) v w') σ [] W:=fun {W σ} hn hx ⟨_,h8,hk,_⟩ h9=>by
  have he:trE p.length f t=1:=by unfold trE;rw [if_neg hn]
  refine .plain [zq,_] Tryz.results116 ⟨⟨_,h8,?_⟩,h9,trivial⟩ ⟨hx,_,_,rfl,?_,by rw [he]⟩
  ·exact E5 (cs:=zq.cells.toList) ty_Q fun j u hu=>by
    rw [I6,Nat.zero_add,hk.cell]
    simpa using hu
  ·rw [if_neg (by rw [he];decide)];exact zq_R
 obtain ⟨_,_,_,_,hpl⟩:=RL.len hp
 have hst:∀ {σ:Env} {N':Nat},True:=trivial
 refine .go rfl ?_
 by_cases h0:f<0
 ·refine .lssT rfl rfl rfl h0 (.go rfl (.bld _ rfl rfl L6 (.storeA (E:=eQ) (S:=fun k=>k≠b8) ty_Q rfl rfl k8 rfl rfl zq_R (fun h=>h rfl) fun w3 k8 u3 _=>.goE rfl ?_)))
  exact hbad (fun h=>by have:=h.1.1;omega) (u3.below x2 (by omega)) ⟨zq,rfl,k8,rfl⟩ rfl
 refine .lssF rfl rfl rfl h0 (.go rfl (.lenR un_V rfl rfl hp2 (.go rfl ?_)))
 by_cases h1:(p.length:Int)≤f
 ·refine .geqT rfl rfl rfl h1 (.go rfl (.bld _ rfl rfl L6 (.storeA (E:=eQ) (S:=fun k=>k≠b8) ty_Q rfl rfl k8 rfl rfl zq_R (fun h=>h rfl) fun w3 k8 u3 _=>.goE rfl ?_)))
  exact hbad (fun h=>by have:=h.1.2;omega) (u3.below x2 (by omega)) ⟨zq,rfl,k8,rfl⟩ rfl
 refine .geqF rfl rfl rfl h1 (.go rfl ?_)
 by_cases h2:t<0
 ·refine .lssT rfl rfl rfl h2 (.go rfl (.bld _ rfl rfl L6 (.storeA (E:=eQ) (S:=fun k=>k≠b8) ty_Q rfl rfl k8 rfl rfl zq_R (fun h=>h rfl) fun w3 k8 u3 _=>.goE rfl ?_)))
  exact hbad (fun h=>by have:=h.2.1;omega) (u3.below x2 (by omega)) ⟨zq,rfl,k8,rfl⟩ rfl
 refine .lssF rfl rfl rfl h2 (.go rfl (.lenR un_V rfl rfl hp2 (.go rfl ?_)))
 by_cases h3:(p.length:Int)≤t
 ·refine .geqT rfl rfl rfl h3 (.go rfl (.bld _ rfl rfl L6 (.storeA (E:=eQ) (S:=fun k=>k≠b8) ty_Q rfl rfl k8 rfl rfl zq_R (fun h=>h rfl) fun w3 k8 u3 _=>.goE rfl ?_)))
  exact hbad (fun h=>by have:=h.2.2;omega) (u3.below x2 (by omega)) ⟨zq,rfl,k8,rfl⟩ rfl
 obtain ⟨f',rfl⟩:∃ f':Nat,f=f':=⟨f.toNat,by omega⟩
 obtain ⟨t',rfl⟩:∃ t':Nat,t=t':=⟨t.toNat,by omega⟩
 have hok:trE p.length f' t'=0:=by unfold trE;rw [if_pos ⟨⟨by omega,by omega⟩,by omega,by omega⟩]
 rw [if_pos hok]
 show WL _ _ _ _ _ _ _ _ _
 have hgf:p[f']?=some (p.getD f' q0):=A9 (by omega)
 have hgt:p[t']?=some (p.getD t' q0):=A9 (by omega)
 have hkf:=hkp.get hL1 f'
 have hkt:=hkp.get hL1 t'
 have hsub:Rsz (rv p t'-rv p f') (2*L+1):=by
  rw [Rat.sub_eq_add_neg]
  exact ((hkp.rsz hL1 t').add (hkp.rsz hL1 f').neg).mono (by omega)
 refine .geqF rfl rfl rfl h3 (.goC rfl ?_)
 refine .par follows 10 [.inl vq,.inl _,.inl _,.inr (Ptr eQ (fun k=>S k∧k≠b8) (p.getD t' q0)),.inr (eQ.at (fun k=>S k∧k≠b8) (p.getD t' q0)),.inl _,.inl _,.inr (Ptr eQ (fun k=>S k∧k≠b8) (p.getD f' q0)),.inr (eQ.at (fun k=>S k∧k≠b8) (p.getD f' q0)),.inr (eQ.at (fun k=>S k∧k≠b8) (qc (rv p t'-rv p f')))] [[],[],[],[(30,1),(31,2)],[(32,3)],[],[],[(34,5),(35,6)],[(36,7)],[(33,4),(37,8)]] (by kernel_rfl) ⟨
  fun w e=>((B8 ty_Q rfl (k7.ext e) (eQ.csz hq)).eq hvq.symm).ob,
  fun w e=>(v_mv rfl).ob,
  fun w e=>(v_mv rfl).ob,
  fun w e=>E0 (i:=t') un_V ty_Q rfl (ER.ext eV hp2 e) rfl hgt,
  fun w e x3 hx3=>J5 ty_Q rfl hx3,
  fun w e=>(v_mv rfl).ob,
  fun w e=>(v_mv rfl).ob,
  fun w e=>E0 (i:=f') un_V ty_Q rfl (ER.ext eV hp2 e) rfl hgf,
  fun w e x7 hx7=>J5 ty_Q rfl hx7,
  fun w e x4 hx4 x8 hx8=>(A2 _ R6 rfl (Q9 (L:=L) (upT e.size) hx4 hx8 hkt.1 hkf.1 hL1 (by omega))).ob (A6 _ _ _),trivial⟩ ?_
 intro W3 f3 _ _ _ _ _ _ _ _ x9 hx9
 have hmul:=N8 (L:=2*L+1) (upT f3.size) (ER.ext eQ hq2 f3) hx9 (hkq.1.mono (by omega)) hsub.toOk (by omega) (by omega)
 rw [A8] at hmul
 refine .call _ rfl L7 rfl hmul fun v4 W4 f4 h4=>?_
 have hs4:=(f3.trans f4).size
 refine .storeA (E:=eQ) ty_Q rfl rfl (k8.ext (f3.trans f4)) rfl rfl h4 (fun h=>h.2 rfl) fun W5 k8 u5 h5=>.goE rfl ?_
 have hv5:=shpA (E:=eQ) rfl h5
 refine .plain [v4,_] Tryz.results116 ⟨⟨_,rfl,?_⟩,rfl,trivial⟩ ⟨u5.below ((x2.trans f3).trans f4) (by omega),_,_,rfl,eQ.mono (fun _ _ h=>h.1) h5,by rw [hok]⟩
 rw [hv5]
 refine E5 (cs:=v4.cells.toList) (by rw [Array.length_toList,eQ.csz h5];exact ty_Q) fun j u hu=>?_
 rw [I6,Nat.zero_add,k8.cell]
 simpa using hu
set_option maxRecDepth 8000 in
theorem AT3 {S:Nat→Prop} {w:World} {vl vp:Value} {l:List RtV} {p:List QV} {L:Nat} (up:Up S w) (hl:eRts.R S w vl l) (hp:eV.R S w vp p) (hkp:vk L p) (hL3:3≤L) (hL:L≤30000000) (hl30:l.length≤1000) :
  CR Tryz.prog 49 #[vl,vp] w (Two (eV.at S (if paE l p.length=0 then tab l.length (paV l (rv p)) else [])) (Is (.int .i64 (paE l p.length)))):=by
 refine enter Tryz.func49 rfl Tryz.ntmps49 rfl (.beg (.go rfl (.lenR K2 rfl rfl hl ?_)))
 refine .make_ _ _ un_V K4 rfl (by decide) rfl rfl rfl (Nat.le_refl _) (by omega) (by omega) fun w3 g n3=>?_
 have f3:FB eQ 55 S w3 g (List.replicate l.length q0):=FB.made n3 zq_R
 obtain ⟨e3,_,hh,hs3⟩:=n3
 generalize hG:(fun i=>qc (paV l (rv p) i))=G
 refine .go rfl (.lenR K2 rfl rfl (ER.ext eRts hl e3) ?_)
 refine .goC rfl (.lp (α:=Nat) [1,6,14,15] rfl (fun i=>[(16,.int .i64 (i:Nat))]) (fun i W=>Ext w W∧i≤l.length∧FB eQ 55 S W g (fil l.length i G q0)∧∀ j r,j<i→l[j]?=some r→inR p.length r.f∧inR p.length r.t) (fun i=>l.length-i) 0 (lc1 rfl) ⟨e3,Nat.zero_le _,by rw [H7];exact f3,fun j r hj=>absurd hj (Nat.not_lt_zero _)⟩ ?_)
 rintro i W ⟨hW,hi,fb,hall⟩
 have hWs:=hW.size
 have hgl:=fb.lt
 refine .go rfl ?_
 rcases Nat.lt_or_ge i l.length with hlt | hge
 rotate_left
 ·refine .lssF rfl rfl rfl (by omega) (.goE rfl ?_)
  have:i=l.length:=by omega
  subst this
  have hpe:paE l p.length=0:=by
   unfold paE
   rw [if_pos]
   intro r hr
   obtain ⟨j,hj⟩:=List.mem_iff_getElem?.1 hr
   exact hall j r (List.getElem?_eq_some_iff.1 hj).1 hj
  rw [N2] at fb
  refine .plain [_,_] Tryz.results49 ⟨rfl,rfl,trivial⟩ ⟨hW,_,_,rfl,?_,by rw [hpe]⟩
  rw [if_pos hpe]
  have:=fb.toR (hsz:=by decide) (c:=l.length) (up g (by omega)) (by simp) (by simp;omega)
  rw [List.length_map,List.length_range,←hG] at this
  exact this
 have hg:=List.getElem?_eq_getElem hlt
 have hgd:l.getD i ⟨0,0,0⟩=l[i]:=by rw [List.getD_eq_getElem?_getD,hg];rfl
 have hmem:=List.getElem_mem hlt
 have hGi:G i=qc (((l[i].q:Int):Rat)*(rv p l[i].t.toNat-rv p l[i].f.toNat)):=by rw [←hG];show qc (paR (rv p) (l.getD i ⟨0,0,0⟩))=_;rw [hgd];rfl
 refine .lssT rfl rfl rfl (by omega) (.go rfl (.ixN (i:=i) K2 Q4 rfl rfl (ER.ext eRts hl hW) rfl hg fun q hq=>.ldE (E:=eRt) Q4 rfl rfl hq fun vr hr=>.alloc rfl AF3 fun W1 c n1=>.go rfl ?_))
 obtain ⟨g1,kc,hc,hs1⟩:=n1
 refine .storeA (E:=eRt) (S:=fun k=>k≠c) Q4 rfl rfl kc rfl rfl hr (fun h=>h rfl) fun W2 kc u2 hr=>.goC rfl ?_
 obtain ⟨rfl,i1,i2,i3⟩:=hr
 have i3':=F0.1 i3
 generalize l[i]=r at *
 have hs2:=u2.size
 have x2:Ext w W2:=u2.below (hW.trans g1) (by omega)
 have fb2:=fb.new g1 u2 (by omega)
 have upT:∀ {W':World},W2.heap.size≤W'.heap.size→Up (fun k=>S k∧k≠g) W':=fun h k hk=>⟨up k (by omega),by omega⟩
 have hpT:∀ {W':World},Ext w W'→eV.R (fun k=>S k∧k≠g) W' vp p:=fun e=>ER.ext eV (eV.mono (fun k _ h=>⟨h.1,by have:=h.2;omega⟩) (ER.lt eV hp)) e
 generalize hres:(if trE p.length r.f r.t=0 then qc (((r.q:Int):Rat)*(rv p r.t.toNat-rv p r.f.toNat)) else q0)=res
 refine .parL follows 13 [11] [.inl vp,.inl (.pointer (some ⟨c,0,none⟩)),.inl (.int .i64 r.f),.inl (.pointer (some ⟨c,1,none⟩)),.inl (.int .i64 r.t),.inl (.pointer (some ⟨c,2,none⟩)),.inl (.int .i64 r.q),.inr (eQ.at (fun k=>S k∧k≠g) (qc ((r.q:Int):Rat))),.inr (Two (eQ.at (fun k=>S k∧k≠g) res) (Is (.int .i64 (trE p.length r.f r.t)))),.inr (Two (eQ.at (fun k=>S k∧k≠g) res) (Is (.int .i64 (trE p.length r.f r.t)))),.inr (eQ.at (fun k=>S k∧k≠g) res),.inl (.int .i64 (trE p.length r.f r.t)),.inr (NewP W2.heap.size 55 zq.cells)] [[],[],[(23,1)],[],[(25,3)],[],[(27,5)],[(28,6)],[(22,0),(24,2),(26,4),(29,7)],[(30,8)],[(21,9)],[(21,9)],[]] (by kernel_rfl) ⟨
  fun w e=>(v_mv rfl).ob,
  fun w e=>(v_fa AH5 rfl).ob,
  fun w e=>(v_ld B0 rfl (kc.ext e) rfl).ob,
  fun w e=>(v_fa AH4 rfl).ob,
  fun w e=>(v_ld B0 rfl (kc.ext e) rfl).ob,
  fun w e=>(v_fa AH3 rfl).ob,
  fun w e=>(v_ld L1 rfl (kc.ext e) rfl).ob,
  fun w e=>(A2 _ C1 rfl (C0 (upT e.size) (by omega) (by omega))).ob (A6 _ _ _),
  fun w e x7 hx7=>by
  have:=AT5 (f:=r.f) (t:=r.t) (L:=L) (upT e.size) (hpT (x2.trans e)) hx7 hkp (O6 ((V6 (by omega)).mono hL3)) (by omega) hL
  rw [A8,hres] at this
  exact (A2 _ AI1 rfl this).ob (T5 (A6 _ _ _) (AF9 _)),
  fun w e x8 hx8=>L9 (v_mv rfl) hx8 (T5 (A6 _ _ _) (AF9 _)),
  fun w e x9 hx9=>by
  obtain ⟨p1,q1,rfl,hp1,hq1⟩:=hx9
  exact L9 (v_ex rfl rfl) hp1 (A6 _ _ _),
  fun w e x9 hx9=>by
  obtain ⟨p1,q1,rfl,hp1,hq1⟩:=hx9
  exact ((v_ex rfl rfl).eq hq1).ob,
  fun w e=>AA4 B7 e.size,trivial⟩ ?_
 rintro W3 g3 _ _ _ _ _ _ y hy _ ⟨b9,rfl,hb9,k9⟩
 have hy':=Aa1 hy k9 AC4
 have hs3':=g3.size
 refine .storeA (E:=eQ) ty_Q rfl rfl k9 rfl rfl hy' (fun h=>h.2 rfl) fun W4 k9 u4 hy=>.go rfl ?_
 have hs4:=u4.size
 have hy:eQ.R (fun k=>S k∧k≠g) W4 y _:=eQ.mono (fun _ _ h=>h.1) hy
 have hyv:=shpA (E:=eQ) rfl hy
 have x4:Ext w W4:=u4.below (x2.trans g3) (by omega)
 have fb4:=fb2.new g3 u4 (by omega)
 by_cases hin:inR p.length r.f∧inR p.length r.t
 rotate_left
 ·have h1:trE p.length r.f r.t=1:=by unfold trE;rw [if_neg hin]
  have hpe:paE l p.length=1:=by unfold paE;rw [if_neg fun h=>hin (h r hmem)]
  refine .neqT rfl rfl rfl (by rw [h1];decide) (.goE rfl ?_)
  refine .plain [_,_] Tryz.results49 ⟨rfl,rfl,trivial⟩ ⟨x4,_,_,rfl,?_,by rw [hpe,h1]⟩
  rw [if_neg (by rw [hpe];decide)];exact RL.nil
 have h1:trE p.length r.f r.t=0:=by unfold trE;rw [if_pos hin]
 rw [if_pos h1,←hGi] at hres
 refine .neqF rfl rfl rfl h1 (.go rfl (.ldA ty_Q rfl rfl k9 (eQ.csz hy) ?_))
 rw [←hyv]
 refine .ixB (i:=i) un_V ty_Q rfl rfl rfl hlt (.storeF (E:=eQ) (i:=i) (by decide) ty_Q rfl rfl fb4 rfl (by rw [D6];exact hlt) (Nat.zero_add _) hy fun W5 f5 u5=>?_)
 rw [←hres,I9] at f5
 refine .go rfl (.inc rfl rfl rfl (by omega) (.goN rfl (.mk (i+1) rfl (lc1 rfl) ⟨⟨u5.below x4 (by omega),hlt,f5,fun j r' hj hr'=>?_⟩,by show l.length-(i+1)<l.length-i;omega⟩)))
 by_cases e:j=i
 ·subst e;rw [hg] at hr';cases hr';exact hin
 ·exact hall j r' (by omega) hr'
end Go.Proofs.YtfilidfomgfnhaaGreat

namespace Go.Proofs.YtfilidfomgfnhaaGreat
open Go Go.Kx Go.RowKit
theorem AD8:Ent Tryz.prog 55:=A0 Tryz.func55 (by kernel_rfl) rfl
set_option maxRecDepth 8000 in
theorem AT9 {w:World} {v:Value} {l:List QV} {L:Nat} (h:eV.R (fun _=>True) w v l) (hk:vk L l) (hL1:1≤L) (hL:L≤100000000000) (hsz:∀ i,i≤l.length→Rsz (sumN i (rv l)) L):CR Tryz.prog 55 #[v] w (eQ.at (fun _=>True) (qc (sumN l.length (rv l)))):=by
 obtain ⟨_,_,_,_,hll⟩:=RL.len h
 refine enter Tryz.func55 rfl Tryz.ntmps55 rfl (.beg (.go rfl (.alloc rfl B7 fun w1 b2 n1=>.go rfl (.bld _ rfl rfl L6 (.alloc rfl B7 fun w2 b3 n2=>?_)))))
 obtain ⟨e1,k2,hb2,hs1⟩:=n1
 obtain ⟨e2,k3,hb3,hs2⟩:=n2
 have x2:=e1.trans e2
 have z1:=e1.size
 have z2:=e2.size
 have k2:=k2.ext e2
 refine .storeA (E:=eQ) (S:=fun k=>k≠b3∧k≠b2) ty_Q rfl rfl k3 rfl rfl zq_R (fun h=>h.1 rfl) fun w3 k3 u3 h3=>?_
 have x3:Ext w w3:=u3.below x2 (by omega)
 have hvW:∀ {W:World},Ext w W→eV.R (fun k=>k≠b3∧k≠b2) W v l:=fun e=>ER.ext eV (eV.mono (fun k _ h=>by have:=h.2;omega) (ER.lt eV h)) e
 have k2:=k2.upd u3 (by omega)
 have z3:=u3.size
 refine .goC rfl (.cut (α:=Value×Nat) 1 [0,2,3] rfl (fun y=>[(4,.int .i64 (y.2:Nat))]) (fun y W=>Ext w W∧Blk W b2 55 zq.cells∧Blk W b3 55 y.1.cells∧eQ.R (fun k=>k≠b3∧k≠b2) W y.1 (qc (sumN l.length (rv l)))) rfl ?_ ?_)
 rotate_left
 ·refine .lp (α:=Nat×Value) [0,2,3] rfl (fun y=>[(4,.int .i64 (y.1:Nat))]) (fun y W=>Ext w W∧y.1≤l.length∧Blk W b2 55 zq.cells∧Blk W b3 55 y.2.cells∧eQ.R (fun k=>k≠b3∧k≠b2) W y.2 (qc (sumN y.1 (rv l)))) (fun y=>l.length-y.1) (0,zq) (lc1 rfl) ⟨x3,Nat.zero_le _,k2,k3,by show eQ.R _ w3 zq (qc 0);rw [O2];exact h3⟩ ?_
  rintro ⟨i,y⟩ W ⟨hW,hi,k2,k3,hy⟩
  replace hW:Ext w W:=hW
  replace hi:i≤l.length:=hi
  replace k2:Blk W b2 55 zq.cells:=k2
  replace k3:Blk W b3 55 y.cells:=k3
  replace hy:eQ.R (fun k=>k≠b3∧k≠b2) W y (qc (sumN i (rv l))):=hy
  have hyv:=shpA (E:=eQ) rfl hy
  have l2:=k2.lt
  have l3:=k3.lt
  refine .go rfl (.lenR un_V rfl rfl (hvW hW) ?_)
  rcases Nat.lt_or_ge i l.length with hlt | hge
  rotate_left
  ·have:i=l.length:=by omega
   subst this
   exact .lssF rfl rfl rfl (by omega) (.goN rfl (.mk (y,l.length) rfl (lc1 rfl) ⟨hW,k2,k3,hy⟩))
  have hg:l[i]?=some (l.getD i q0):=A9 hlt
  have upT':∀ {W':World},W.heap.size≤W'.heap.size→Up (fun k=>k≠b3∧k≠b2) W':=fun h k hk=>by omega
  refine .lssT rfl rfl rfl (by omega) (.goC rfl ?_)
  refine .par follows 5 [.inl y,.inl _,.inl _,.inr (Ptr eQ (fun k=>k≠b3∧k≠b2) (l.getD i q0)),.inr (eQ.at (fun k=>k≠b3∧k≠b2) (l.getD i q0))] [[],[],[],[(13,1),(14,2)],[(15,3)]] (by kernel_rfl) ⟨
   fun w e=>((B8 ty_Q rfl (k3.ext e) (eQ.csz hy)).eq hyv.symm).ob,
   fun w e=>(v_mv rfl).ob,
   fun w e=>(v_mv rfl).ob,
   fun w e=>E0 (i:=i) un_V ty_Q rfl (hvW (hW.trans e)) rfl hg,
   fun w e x3 hx3=>J5 ty_Q rfl hx3,trivial⟩ ?_
  intro W4' e4' x3 hx3 x4 hx4
  have hadd:=L4 (L:=L) (upT' e4'.size) (ER.ext eQ hy e4') hx4 (hsz i hi).toOk (hk.get (by omega) i).1 hL1 hL
  rw [A8] at hadd
  refine .call _ rfl I3 rfl hadd fun y4 W4 e4 hy4=>?_
  have e4:=e4'.trans e4
  have hs4:=e4.size
  refine .storeA (E:=eQ) (S:=fun k=>k≠b3∧k≠b2) ty_Q rfl rfl (k3.ext e4) rfl (eQ.csz hy) hy4 (fun h=>h.1 rfl) fun W5 k3 u5 hy5=>?_
  exact .go rfl (.inc rfl rfl rfl (by omega) (.goN rfl (.mk (i+1,y4) rfl (lc1 rfl) ⟨⟨u5.below (hW.trans e4) (by omega),hlt,(k2.ext e4).upd u5 (by omega),k3,hy5⟩,by show l.length-(i+1)<l.length-i;omega⟩)))
 rintro ⟨y,i0⟩ W ⟨hW,k2,k3,hy⟩
 replace hW:Ext w W:=hW
 replace k2:Blk W b2 55 zq.cells:=k2
 replace k3:Blk W b3 55 y.cells:=k3
 replace hy:eQ.R (fun k=>k≠b3∧k≠b2) W y (qc (sumN l.length (rv l))):=hy
 have hyv:=shpA (E:=eQ) rfl hy
 refine .go rfl (.ldA ty_Q rfl rfl k3 (eQ.csz hy) ?_)
 rw [←hyv]
 refine .storeA (E:=eQ) ty_Q rfl rfl k2 rfl rfl hy (fun h=>h.2 rfl) fun W6 k2 u6 h6=>.goE rfl ?_
 exact .cell (E:=eQ) Tryz.results55 rfl ty_Q rfl rfl k2 h6 ⟨u6.below hW (by omega),eQ.mono (fun _ _ _=>trivial) h6⟩
end Go.Proofs.YtfilidfomgfnhaaGreat

namespace Go.Kx
open Go Go.RowKit
section
variable {P:Program} {σ:Env} {w:World} {d:Option Tmp} {ty:TypeId} {pos:String} {af:Array Edge} {g:Option (Nat×Bool)} {S:Nat→Prop}
theorem ob_faQn {s:TypeId} {x:Operand} {i:Nat} {u:Value} {q:QV} (hf:fldOf P s i=some 0) (hx:ev σ x=some u) (hp:Ptr eQ S q u w):Gv P ⟨d,.fieldAddr s x i,ty,pos,af,g⟩ σ w fun v' w'=>Ext w w'∧Sp.ok (.inr (Ptr eZ S q.num)) v' w':=by
 obtain ⟨p,rfl,hp⟩:=hp
 exact L9 (Al5 hf hx) ⟨_,rfl,hp.qn⟩ (fun _ _ _ e ⟨p,h1,h2⟩=>⟨p,h1,h2.ext e⟩)
theorem ob_faQd {s:TypeId} {x:Operand} {i:Nat} {u:Value} {q:QV} (hf:fldOf P s i=some 2) (hx:ev σ x=some u) (hp:Ptr eQ S q u w):Gv P ⟨d,.fieldAddr s x i,ty,pos,af,g⟩ σ w fun v' w'=>Ext w w'∧Sp.ok (.inr (Ptr eZ S q.den)) v' w':=by
 obtain ⟨p,rfl,hp⟩:=hp
 exact L9 (Al5 hf hx) ⟨_,rfl,hp.qd⟩ (fun _ _ _ e ⟨p,h1,h2⟩=>⟨p,h1,h2.ext e⟩)
theorem Am9 {s:TypeId} {x:Operand} {i:Nat} {u:Value} {q:ZV} (hf:fldOf P s i=some 1) (hx:ev σ x=some u) (hp:Ptr eZ S q u w):Gv P ⟨d,.fieldAddr s x i,ty,pos,af,g⟩ σ w fun v' w'=>Ext w w'∧Sp.ok (.inr (Ptr eW S q.w)) v' w':=by
 obtain ⟨p,rfl,hp⟩:=hp
 exact L9 (Al5 hf hx) ⟨_,rfl,hp.zw⟩ (fun _ _ _ e ⟨p,h1,h2⟩=>⟨p,h1,h2.ext e⟩)
end
end Go.Kx
namespace Go.Proofs.YtfilidfomgfnhaaGreat
open Go Go.Kx Go.RowKit
theorem Ab6:Ent Tryz.prog 47:=A0 Tryz.func47 (by kernel_rfl) rfl
set_option maxRecDepth 8000 in
theorem AZ4 {w:World} {v:Value} {l:List (List QV)} (h:eM.R (fun _=>True) w v l):CR Tryz.prog 47 #[v] w (fun v _=>∃ b,v=.bool b):=by
 obtain ⟨_,_,_,_,hl⟩:=RL.len h
 refine enter Tryz.func47 rfl Tryz.ntmps47 rfl (.beg ?_)
 refine .goC rfl (.lp (α:=Nat×Int) [0] rfl (fun y=>[(3,.int .i64 y.2),(4,.int .i64 (y.1:Nat))]) (fun y W=>Ext w W∧y.1≤l.length) (fun y=>l.length-y.1) (0,0) (lc2 rfl rfl) ⟨Ext.refl _,Nat.zero_le _⟩ ?_)
 rintro ⟨i,z⟩ W ⟨hW,hi⟩
 replace hW:Ext w W:=hW
 replace hi:i≤l.length:=hi
 refine .go rfl (.lenR un_M rfl rfl (ER.ext eM h hW) ?_)
 rcases Nat.lt_or_ge i l.length with hlt | hge
 rotate_left
 ·exact .lssF rfl rfl rfl (by omega) (.goE rfl (.plain [_] Tryz.results47 ⟨rfl,trivial⟩ ⟨hW,_,rfl⟩))
 have hyy:=List.getElem?_eq_getElem hlt
 generalize l[i]=r at hyy
 refine .lssT rfl rfl rfl (by omega) (.go rfl (.ixN (i:=i) un_M ty_V rfl rfl (ER.ext eM h hW) rfl hyy fun p hp=>.ldE ty_V rfl rfl hp fun e he=>.lenR un_V rfl rfl he ?_))
 by_cases hr:40<r.length
 ·exact .gtrT rfl rfl rfl (by omega) (.goE rfl (.plain [_] Tryz.results47 ⟨rfl,trivial⟩ ⟨hW,_,rfl⟩))
 refine .gtrF rfl rfl rfl (by omega) (.goC rfl (.lp (α:=Nat×Int) [0,4] rfl (fun y=>[(3,.int .i64 y.2),(5,.int .i64 (y.1:Nat))]) (fun y W'=>Ext w W'∧y.1≤r.length) (fun y=>r.length-y.1) (0,z) (lc2 rfl rfl) ⟨hW,Nat.zero_le _⟩ ?_))
 rintro ⟨k,z'⟩ W' ⟨hW',hk⟩
 replace hW':Ext w W':=hW'
 replace hk:k≤r.length:=hk
 refine .go rfl (.ixN (i:=i) un_M ty_V rfl rfl (ER.ext eM h hW') rfl hyy fun p2 hp2=>.ldE ty_V rfl rfl hp2 fun e2 he2=>.lenR un_V rfl rfl he2 ?_)
 rcases Nat.lt_or_ge k r.length with hkl | hge
 rotate_left
 ·refine .lssF rfl rfl rfl (by omega) (.go rfl ?_)
  by_cases hz:400<z'
  ·exact .gtrT rfl rfl rfl hz (.goE rfl (.plain [_] Tryz.results47 ⟨rfl,trivial⟩ ⟨hW',_,rfl⟩))
  ·exact .gtrF rfl rfl rfl hz (.go rfl (.inc rfl rfl rfl (by omega) (.goN rfl (.mk (i+1,z') rfl (lc2 rfl rfl) ⟨⟨hW',hlt⟩,by show l.length-(i+1)<l.length-i;omega⟩))))
 have hqq:=List.getElem?_eq_getElem hkl
 generalize r[k]=q at hqq
 refine .lssT rfl rfl rfl (by omega) (.goC rfl ?_)
 refine .par follows 25 [.inl _,.inl _,.inl _,.inl _,.inr (Ptr eV (fun _=>True) r),.inr (eV.at (fun _=>True) r),.inl _,.inr (Ptr eQ (fun _=>True) q),.inr (Ptr eZ (fun _=>True) q.num),.inr (Ptr eW (fun _=>True) q.num.w),.inr (eW.at (fun _=>True) q.num.w),.inl (.int .i64 (q.num.w.length:Nat)),.inl _,.inl _,.inl _,.inl _,.inr (Ptr eV (fun _=>True) r),.inr (eV.at (fun _=>True) r),.inl _,.inr (Ptr eQ (fun _=>True) q),.inr (Ptr eZ (fun _=>True) q.den),.inr (Ptr eW (fun _=>True) q.den.w),.inr (eW.at (fun _=>True) q.den.w),.inl (.int .i64 (q.den.w.length:Nat)),.inl _] [[],[(27,0)],[],[],[(29,2),(30,3)],[(31,4)],[],[(32,5),(33,6)],[(34,7)],[(35,8)],[(36,9)],[(37,10)],[(38,11)],[(28,1),(39,12)],[],[],[(41,14),(42,15)],[(43,16)],[],[(44,17),(45,18)],[(46,19)],[(47,20)],[(48,21)],[(49,22)],[(50,23)]] (by kernel_rfl) ⟨
  fun w e=>(v_mv rfl).ob,
  fun w e=>(AV3 rfl rfl).ob,
  fun w e=>(v_mv rfl).ob,
  fun w e=>(v_mv rfl).ob,
  fun w e=>E0 (i:=i) un_M ty_V rfl (ER.ext eM h (hW'.trans e)) rfl hyy,
  fun w e x4 hx4=>J5 ty_V rfl hx4,
  fun w e=>(v_mv rfl).ob,
  fun w e x5 hx5=>E0 (i:=k) un_V ty_Q rfl hx5 rfl hqq,
  fun w e x7 hx7=>ob_faQn Y7 rfl hx7,
  fun w e x8 hx8=>Am9 H6 rfl hx8,
  fun w e x9 hx9=>J5 ty_W rfl hx9,
  fun w e x10 hx10=>(Ai2 un_W rfl hx10).ob,
  fun w e=>(As0 rfl rfl).ob,
  fun w e=>(AV3 rfl rfl).ob,
  fun w e=>(v_mv rfl).ob,
  fun w e=>(v_mv rfl).ob,
  fun w e=>E0 (i:=i) un_M ty_V rfl (ER.ext eM h (hW'.trans e)) rfl hyy,
  fun w e x16 hx16=>J5 ty_V rfl hx16,
  fun w e=>(v_mv rfl).ob,
  fun w e x17 hx17=>E0 (i:=k) un_V ty_Q rfl hx17 rfl hqq,
  fun w e x19 hx19=>ob_faQd AB1 rfl hx19,
  fun w e x20 hx20=>Am9 H6 rfl hx20,
  fun w e x21 hx21=>J5 ty_W rfl hx21,
  fun w e x22 hx22=>(Ai2 un_W rfl hx22).ob,
  fun w e=>(As0 rfl rfl).ob,trivial⟩ ?_
 intro W4 e4 _ _ _ _ _ _ _ _ _ _ _ _ _ _ _ _ _ _ _ _ _ _ _ _
 exact .add rfl rfl rfl (.go rfl (.inc rfl rfl rfl (by omega) (.goN rfl (.mk (k+1,_) rfl (lc2 rfl rfl) ⟨⟨hW'.trans e4,hkl⟩,by show r.length-(k+1)<r.length-k;omega⟩))))
end Go.Proofs.YtfilidfomgfnhaaGreat

namespace Go.Kx
open Go Go.RowKit Go.Proofs.YtfilidfomgfnhaaGreat
theorem pay_one {p:Nat→Rat} {m:Nat} {r:RtV} (h:inR m r.f∧inR m r.t):sumN m (fun b=>p b*(((if r.f=(b:Int) then r.q else 0)-(if r.t=(b:Int) then r.q else 0):Int):Rat)) = - paR p r:=by
 obtain ⟨⟨f0,f1⟩,t0,t1⟩:=h
 have hf:=AP5 (n:=m) (a:=r.f.toNat) (fun b=>p b*((r.q:Int):Rat)) (by omega)
 have ht:=AP5 (n:=m) (a:=r.t.toNat) (fun b=>p b*((r.q:Int):Rat)) (by omega)
 have key:sumN m (fun b=>p b*(((if r.f=(b:Int) then r.q else 0)-(if r.t=(b:Int) then r.q else 0):Int):Rat))=sumN m (fun b=>(p b*((r.q:Int):Rat))*dl r.f.toNat b-(p b*((r.q:Int):Rat))*dl r.t.toNat b):=A7 fun b _=>by
  have e1:(if r.f=(b:Int) then r.q else 0:Int)=if r.f.toNat=b then r.q else 0:=by
   by_cases e:r.f=(b:Int)
   ·rw [if_pos e,if_pos (by omega)]
   ·rw [if_neg e,if_neg (by omega)]
  have e2:(if r.t=(b:Int) then r.q else 0:Int)=if r.t.toNat=b then r.q else 0:=by
   by_cases e:r.t=(b:Int)
   ·rw [if_pos e,if_pos (by omega)]
   ·rw [if_neg e,if_neg (by omega)]
  rw [e1,e2,Rat.intCast_sub]
  by_cases h1:r.f.toNat=b<;>by_cases h2:r.t.toNat=b
  ·rw [if_pos h1,if_pos h2,h1,h2,AN9];grind
  ·rw [if_pos h1,if_neg h2,h1,AN9,Af4 h2,Rat.intCast_zero];grind
  ·rw [if_neg h1,if_pos h2,h2,AN9,Af4 h1,Rat.intCast_zero];grind
  ·rw [if_neg h1,if_neg h2,Af4 h1,Af4 h2,Rat.intCast_zero];grind
 rw [key,V5,hf,ht]
 unfold paR;grind
theorem AW0 {p:Nat→Rat} {m:Nat} (l:List RtV):(∀ r∈l,inR m r.f∧inR m r.t)→sumN l.length (paV l p) = - sumN m (fun b=>p b*((rtS l b:Int):Rat)):=by
 refine Ao8 (P:=fun l=>(∀ r∈l,inR m r.f∧inR m r.t)→sumN l.length (paV l p) = - sumN m (fun b=>p b*((rtS l b:Int):Rat))) ?_ ?_ l
 ·intro _
  have h0:sumN m (fun b=>p b*((rtS [] b:Int):Rat))=0:=L2 fun b _=>by
   show p b*(((0:Int)):Rat)=0
   rw [Rat.intCast_zero,Rat.mul_zero]
  rw [h0]
  show (0:Rat) = -0
  grind
 ·intro l r ih h
  have ih:=ih fun q hq=>h q (by simp [hq])
  have h1:=pay_one (p:=p) (h r (by simp))
  have hs:sumN m (fun b=>p b*((rtS (l++[r]) b:Int):Rat))=sumN m (fun b=>p b*((rtS l b:Int):Rat))+sumN m (fun b=>p b*(((if r.f=(b:Int) then r.q else 0)-(if r.t=(b:Int) then r.q else 0):Int):Rat)):=by
   rw [←AP6]
   refine A7 fun b _=>?_
   rw [AP8,show rtS l b+(if r.f=(b:Int) then r.q else 0)-(if r.t=(b:Int) then r.q else 0)=rtS l b+((if r.f=(b:Int) then r.q else 0)-(if r.t=(b:Int) then r.q else 0)) by omega,Rat.intCast_add,Rat.mul_add]
  rw [hs,h1,List.length_append,List.length_singleton]
  show sumN l.length (paV (l++[r]) p)+paV (l++[r]) p l.length=_
  have h2:sumN l.length (paV (l++[r]) p)=sumN l.length (paV l p):=A7 fun i hi=>by
   unfold paV
   rw [List.getD_eq_getElem?_getD,List.getElem?_append_left hi,←List.getD_eq_getElem?_getD]
  have h3:paV (l++[r]) p l.length=paR p r:=by
   unfold paV
   rw [List.getD_eq_getElem?_getD,List.getElem?_append_right (Nat.le_refl _),Nat.sub_self];rfl
  rw [h2,h3,ih];grind
end Go.Kx

namespace Go.Proofs.YtfilidfomgfnhaaGreat
open Go Go.Kx Go.RowKit
section
variable {W W':World} {v va vb:Value} {n c n' c' L L':Nat} {a b m:List (List QV)} {x y:List QV}
theorem eqQW {x y:QV} (hx:eQ.R (fun _=>True) W va x) (hy:eQ.R (fun _=>True) W vb y) (hkx:qok L x) (hky:qok L y) (h1:1≤L:=by decide) (h2:L≤100000000000:=by decide) (he:qval x=qval y):CR Tryz.prog 50 #[va,vb] W (Is (.bool true)):=by
 have:=AZ7 upT hx hy hkx hky h1 h2
 rwa [decide_eq_true he] at this
end
end Go.Proofs.YtfilidfomgfnhaaGreat

namespace Go.Proofs.YtfilidfomgfnhaaGreat
open Go Go.Kx Go.RowKit
theorem rts_q {S:Nat→Prop} {w:World} {v:Value} {l:List RtV} (h:eRts.R S w v l):∀ r∈l,r.q.natAbs≤1208925819614629174706176:=by
 intro r hr
 obtain ⟨i,hi⟩:=List.mem_iff_getElem?.1 hr
 obtain ⟨ad,cc,_,_,e,he,_⟩:=RL.at_ h hi
 have:=F0.1 he.2.2.2
 omega
theorem paV_rsz {l:List RtV} {p:List QV} {L:Nat} (h:∀ r∈l,r.q.natAbs≤1208925819614629174706176) (hk:vk L p) (hL:1≤L) (i:Nat):Rsz (paV l (rv p) i) (2*L+4):=by
 unfold paV paR
 have hq:(l.getD i ⟨0,0,0⟩).q.natAbs≤1208925819614629174706176:=by
  rw [List.getD_eq_getElem?_getD]
  cases hi:l[i]? with
  | none=>simp
  | some r=>exact h r (List.mem_iff_getElem?.2 ⟨i,hi⟩)
 have h1:=V6 hq
 have h2:=(hk.rsz hL (l.getD i ⟨0,0,0⟩).t.toNat).add (hk.rsz hL (l.getD i ⟨0,0,0⟩).f.toNat).neg
 have:=h1.mul h2
 rw [Rat.sub_eq_add_neg]
 exact this.mono (by omega)
theorem AX9 {m:Nat} {f g:Nat→Rat} {L:Nat} (hf:∀ k,k<m→Rsz (f k) L) (hg:∀ k,k<m→Rsz (g k) L):Rsz (sumN m fun k=>f k*g k) (1+m*(L+L+1)):=Q6 fun k hk=>(hf k hk).mul (hg k hk)
end Go.Proofs.YtfilidfomgfnhaaGreat

namespace Go.Proofs.YtfilidfomgfnhaaGreat
open Go Go.Kx Go.RowKit
theorem AC1:Ent Tryz.prog 186:=A0 Tryz.func186 (by kernel_rfl) rfl
theorem AA5 {S:Nat→Prop} {w:World} {va:Value} {a:List QV} {i:Nat} (ha:eV.R S w va a) (hi:i<1000000):CR Tryz.prog 186 #[va,.int .i64 (i:Nat)] w (eQ.at S (a.getD i q0)):=by
 have ha0:=ER.lt eV ha
 refine enter Tryz.func186 rfl Tryz.ntmps186 rfl (.beg (.go rfl (.alloc rfl B7 fun w1 b4 n1=>.go rfl (.lssF rfl rfl rfl (by omega) (.go rfl ?_)))))
 obtain ⟨e1,k4,hb4,hs1⟩:=n1
 have ha1:eV.R (fun k=>S k∧k<w.heap.size) w1 va a:=ER.ext eV ha0 e1
 have hno:¬ (S b4∧b4<w.heap.size):=fun h=>by omega
 refine .lenR un_V rfl rfl ha1 (.go rfl ?_)
 by_cases hlt:i<a.length
 ·have hg:a[i]?=some (a.getD i q0):=A9 hlt
  refine .geqF rfl rfl rfl (by omega) (.go rfl (.ixN (i:=i) un_V ty_Q rfl rfl ha1 rfl hg fun p hp=>.ldE ty_Q rfl rfl hp fun e he=>?_))
  refine .storeA (E:=eQ) ty_Q rfl rfl k4 rfl rfl he hno fun w5 k5 u5 h5=>.goE rfl ?_
  exact .cell (E:=eQ) Tryz.results186 rfl ty_Q rfl rfl k5 h5 ⟨u5.below e1 (by omega),eQ.mono (fun _ _ h=>h.1) h5⟩
 ·refine .geqT rfl rfl rfl (by omega) (.go rfl (.bld _ rfl rfl L6 ?_))
  have hq:a.getD i q0=q0:=by rw [List.getD_eq_getElem?_getD,List.getElem?_eq_none (by omega)];rfl
  rw [hq]
  refine .storeA (E:=eQ) (S:=fun k=>S k∧k<w.heap.size) ty_Q rfl rfl k4 rfl rfl zq_R hno fun w5 k5 u5 h5=>.goE rfl ?_
  exact .cell (E:=eQ) Tryz.results186 rfl ty_Q rfl rfl k5 h5 ⟨u5.below e1 (by omega),eQ.mono (fun _ _ h=>h.1) h5⟩
theorem Ak8:Ent Tryz.prog 187:=A0 Tryz.func187 (by kernel_rfl) rfl
set_option maxRecDepth 8000 in
theorem Ai8 {S:Nat→Prop} {w:World} {f:FuncId} {cap:Array Value} {n L:Nat} {g:Nat→Rat} (up:Up S w) (hf:Ent Tryz.prog f) (hn:n≤1000000) (hL:L≤100000000000) (hL1:1≤L)
  (hcall:∀ {T:Nat→Prop} {W:World} (k:Nat),Up T W→Ext w W→k<n→CR Tryz.prog f (#[.int .i64 (k:Nat)]++cap) W (eQ.at T (qc (g k)))) (hg:∀ k,k<n→Rsz (g k) L) (hs:∀ k,k≤n→Rsz (sumN k g) L) :
  CR Tryz.prog 187 #[.int .i64 (n:Nat),.func (.func f) #[] cap] w (eQ.at S (qc (sumN n g))):=by
 refine enter Tryz.func187 rfl Tryz.ntmps187 rfl (.beg (.go rfl (.alloc rfl B7 fun w1 b4 n1=>.go rfl (.bld _ rfl rfl L6 (.alloc rfl B7 fun w2 b5 n2=>?_)))))
 obtain ⟨e1,k4,hb4,hs1⟩:=n1
 obtain ⟨e2,k5,hb5,hs2⟩:=n2
 have x2:=e1.trans e2
 have k4:=k4.ext e2
 have z1:=e1.size
 refine .storeA (E:=eQ) (S:=fun k=>(S k∧k≠b4)∧k≠b5) ty_Q rfl rfl k5 rfl rfl zq_R (fun h=>h.2 rfl) fun w3 k5 u3 h3=>?_
 have x3:Ext w w3:=u3.below x2 (by omega)
 have k4:=k4.upd u3 (by omega)
 refine .goC rfl (.lp (α:=Nat×Value) [1,4,5,8] rfl (fun y=>[(9,.int .i64 (y.1:Nat))]) (fun y W=>Ext w W∧y.1≤n∧Blk W b4 55 zq.cells∧Blk W b5 55 y.2.cells∧eQ.R (fun k=>(S k∧k≠b4)∧k≠b5) W y.2 (qc (sumN y.1 g))) (fun y=>n-y.1) (0,zq) (lc1 rfl) ⟨x3,Nat.zero_le _,k4,k5,by show eQ.R _ w3 zq (qc 0);rw [O2];exact h3⟩ ?_)
 rintro ⟨i,y⟩ W ⟨hW,hi,k4,k5,hy⟩
 replace hW:Ext w W:=hW
 replace hi:i≤n:=hi
 replace k4:Blk W b4 55 zq.cells:=k4
 replace k5:Blk W b5 55 y.cells:=k5
 replace hy:eQ.R (fun k=>(S k∧k≠b4)∧k≠b5) W y (qc (sumN i g)):=hy
 have hyv:=shpA (E:=eQ) rfl hy
 have l4:=k4.lt
 have l5:=k5.lt
 have upT:∀ {W':World},W.heap.size≤W'.heap.size→Up (fun k=>(S k∧k≠b4)∧k≠b5) W':=fun h k hk=>⟨⟨up k (by have:=hW.size;omega),by omega⟩,by omega⟩
 refine .go rfl ?_
 rcases Nat.lt_or_ge i n with hlt | hge
 rotate_left
 ·have:i=n:=by omega
  subst this
  refine .lssF rfl rfl rfl (by omega) (.go rfl (.ldA ty_Q rfl rfl k5 (eQ.csz hy) ?_))
  rw [←hyv]
  refine .storeA (E:=eQ) ty_Q rfl rfl k4 rfl rfl hy (fun h=>h.1.2 rfl) fun W6 k4 u6 h6=>.goE rfl ?_
  exact .cell (E:=eQ) Tryz.results187 rfl ty_Q rfl rfl k4 h6 ⟨u6.below hW (by omega),eQ.mono (fun _ _ h=>h.1.1) h6⟩
 refine .lssT rfl rfl rfl (by omega) (.goC rfl ?_)
 refine .par follows 4 [.inl y,.inl _,.inl _,.inr (eQ.at (fun k=>(S k∧k≠b4)∧k≠b5) (qc (g i)))] [[],[],[],[(13,1),(14,2)]] (by kernel_rfl) ⟨
  fun w e=>((B8 ty_Q rfl (k5.ext e) (eQ.csz hy)).eq hyv.symm).ob,
  fun w e=>(v_mv rfl).ob,
  fun w e=>(v_mv rfl).ob,
  fun w e=>(Y5 [.int .i64 (i:Nat)] rfl hf rfl (hcall i (upT e.size) (hW.trans e) hlt)).ob (A6 _ _ _),trivial⟩ ?_
 intro W4 e4 y3 hy3
 have hadd:=L4 (L:=L) (upT e4.size) (ER.ext eQ hy e4) hy3 (hs i hi).toOk (hg i hlt).toOk hL1 hL
 rw [A8,A8] at hadd
 refine .call _ rfl I3 rfl hadd fun y4 W5 e5 hy4=>?_
 have e45:=e4.trans e5
 have z45:=e45.size
 refine .storeA (E:=eQ) ty_Q rfl rfl (k5.ext e45) rfl (eQ.csz hy) hy4 (fun h=>h.2 rfl) fun W6 k5 u6 hy6=>?_
 exact .go rfl (.inc rfl rfl rfl (by omega) (.goN rfl (.mk (i+1,y4) rfl (lc1 rfl) ⟨⟨u6.below (hW.trans e45) (by omega),hlt,(k4.ext e45).upd u6 (by omega),k5,hy6⟩,by show n-(i+1)<n-i;omega⟩)))
theorem Ay4:Ent Tryz.prog 188:=A0 Tryz.func188 (by kernel_rfl) rfl
theorem Ay1 {S:Nat→Prop} {w:World} {vl vf:Value} {l:List QV} {m:List (List QV)} {p1 p2 p3 k b L:Nat} (up:Up S w) (k1:Blk w p1 32 #[vl]) (k2:Blk w p2 28 #[vf]) (k3:Blk w p3 3 #[.int .i64 (b:Nat)]) (hl:eV.R (fun _=>True) w vl l) (hm:eM.R (fun _=>True) w vf m) (hkl:k<l.length) (hkm:k<m.length) (hb:b<1000000) (hvl:vk L l) (hvm:mk_ L m) (hL1:1≤L) (hL:L≤10000000000) :
  CR Tryz.prog 188 #[.int .i64 (k:Nat),.pointer (some ⟨p1,0,none⟩),.pointer (some ⟨p2,0,none⟩),.pointer (some ⟨p3,0,none⟩)] w (eQ.at S (qc (rv l k*rm m k b))):=by
 refine enter Tryz.func188 rfl Tryz.ntmps188 rfl (.beg (.go rfl (.alloc rfl B7 fun w1 b5 n1=>.goC rfl ?_)))
 obtain ⟨e5,k5,hb5,hs1⟩:=n1
 have k1:=k1.ext e5
 have k2:=k2.ext e5
 have k3:=k3.ext e5
 have hgl:l[k]?=some (l.getD k q0):=A9 hkl
 have hgm:m[k]?=some (m.getD k []):=A9 hkm
 have hq1:=hvl.get hL1 k
 have hq2:=(hvm.get k).get hL1 b
 refine .par follows 10 [.inl vl,.inl _,.inr (Ptr eQ (fun _=>True) (l.getD k q0)),.inr (eQ.at (fun _=>True) (l.getD k q0)),.inl vf,.inl _,.inr (Ptr eV (fun _=>True) (m.getD k [])),.inr (eV.at (fun _=>True) (m.getD k [])),.inl (.int .i64 (b:Nat)),.inr (eQ.at (fun _=>True) ((m.getD k []).getD b q0))] [[],[],[(6,0),(7,1)],[(8,2)],[],[],[(10,4),(11,5)],[(12,6)],[],[(13,7),(14,8)]] (by kernel_rfl) ⟨
  fun w e=>(v_ld ty_V rfl (k1.ext e) rfl).ob,
  fun w e=>(v_mv rfl).ob,
  fun w e=>E0 (i:=k) un_V ty_Q rfl (ER.ext eV hl (e5.trans e)) rfl hgl,
  fun w e x2 hx2=>J5 ty_Q rfl hx2,
  fun w e=>(v_ld ty_M rfl (k2.ext e) rfl).ob,
  fun w e=>(v_mv rfl).ob,
  fun w e=>E0 (i:=k) un_M ty_V rfl (ER.ext eM hm (e5.trans e)) rfl hgm,
  fun w e x6 hx6=>J5 ty_V rfl hx6,
  fun w e=>(v_ld B0 rfl (k3.ext e) rfl).ob,
  fun w e x7 hx7=>(A2 _ AC1 rfl (AA5 hx7 hb)).ob (A6 _ _ _),trivial⟩ ?_
 intro W4 e4 y2 hy2 y3 hy3 y6 hy6 y7 hy7 y9 hy9
 have z4:=e4.size
 have hmul:=AR1 (S:=fun _=>True) (T0:=fun k=>S k∧k≠b5) (L:=L) (fun _ _=>trivial) (fun k hk=>⟨up k (by have:=e5.size;omega),by omega⟩:Up (fun k=>S k∧k≠b5) W4) hy3 hy9 hq1.1 hq2.1 hL1 (by omega)
 refine .call _ rfl L7 rfl hmul fun y5 W5 e6 hy5=>?_
 have z5:=e6.size
 refine .storeA (E:=eQ) ty_Q rfl rfl ((k5.ext e4).ext e6) rfl rfl hy5 (fun h=>h.2 rfl) fun W6 k6 u6 h6=>.goE rfl ?_
 exact .cell (E:=eQ) Tryz.results188 rfl ty_Q rfl rfl k6 h6 ⟨u6.below ((e5.trans e4).trans e6) (by omega),eQ.mono (fun _ _ h=>h.1) h6⟩
theorem Ab0:Ent Tryz.prog 126:=A0 Tryz.func126 (by kernel_rfl) rfl
set_option maxRecDepth 8000 in
theorem AY7 {w:World} {vi vb vf vl:Value} {B M L:Nat} {lab:Nat→Nat} {base l:List QV} {m:List (List QV)} (hi:eI.R (fun _=>True) w vi (tabI B lab)) (hbs:eV.R (fun _=>True) w vb base) (hm:eM.R (fun _=>True) w vf m) (hl:eV.R (fun _=>True) w vl l) (hB:B≤1000) (hlab:∀ b,b<B→lab b<1000000) (hM:M≤1000) (hml:m.length=M) (hll:l.length=M) (hkb:vk L base) (hkl:vk L l) (hkm:mk_ L m) (hL1:1≤L) (hL:L≤10000000) :
  CR Tryz.prog 126 #[vi,vb,vf,vl] w (Two (eV.at (fun _=>True) (tab B fun b=>rv base (lab b))) (eV.at (fun _=>True) (tab B fun b => - sumN M fun k=>rv l k*rm m k b))):=by
 obtain ⟨am,cm,rfl,_,_⟩:=RL.len hm
 obtain ⟨al,cl,rfl,_,_⟩:=RL.len hl
 refine enter Tryz.func126 rfl Tryz.ntmps126 rfl (.beg (.go rfl (.box rfl rfl fun w1 b6 n1=>.go rfl (.box rfl rfl fun w2 b7 n2=>.go rfl (.lenR un_I rfl rfl (ER.ext eI hi (n1.1.trans n2.1)) ?_)))))
 obtain ⟨e1,k6,hb6,hs1⟩:=n1
 obtain ⟨e2,k7,hb7,hs2⟩:=n2
 have x2:=e1.trans e2
 have k6:=k6.ext e2
 rw [G2]
 refine .make_ _ _ un_V K4 rfl (by decide) rfl rfl rfl (Nat.le_refl _) (by omega) (by omega) fun w3 g8 n3=>?_
 have f8:FB eQ 55 (fun _=>True) w3 g8 (List.replicate B q0):=FB.made n3 zq_R
 obtain ⟨e3,_,hg8,hs3⟩:=n3
 have x3:=x2.trans e3
 refine .go rfl (.lenR un_I rfl rfl (ER.ext eI hi x3) ?_)
 rw [G2]
 refine .make_ _ _ un_V K4 rfl (by decide) rfl rfl rfl (Nat.le_refl _) (by omega) (by omega) fun w4 g9 n4=>?_
 have f9:FB eQ 55 (fun k=>k≠g8) w4 g9 (List.replicate B q0):=FB.made n4 zq_R
 obtain ⟨e4,_,hg9,hs4⟩:=n4
 have f8:FB eQ 55 (fun k=>k≠g9) w4 g8 (List.replicate B q0):=(f8.mono (S':=fun k=>k≠g9) fun k hk _=>by omega).ext e4
 have x4:=x3.trans e4
 have k6b:=k6
 have k7b:=k7
 have k6:=(k6.ext e3).ext e4
 have k7:=(k7.ext e3).ext e4
 have h89:g8≠g9:=by omega
 refine .go rfl (.ld ty_M rfl rfl k6 rfl (.lenR un_M rfl rfl (ER.ext eM hm x4) (.ld ty_V rfl rfl k7 rfl (.lenR un_V rfl rfl (ER.ext eV hl x4) (.min_ rfl rfl rfl ?_)))))
 rw [hml,hll,show min (M:Int) (M:Int)=(M:Int) by omega]
 refine .go rfl (.lenR un_I rfl rfl (ER.ext eI hi x4) ?_)
 rw [G2]
 generalize hG8:(fun b=>qc (rv base (lab b)))=G8
 generalize hG9:(fun b=>qc (- sumN M fun k=>rv l k*rm m k b))=G9
 have hs:∀ b k,k≤M→Rsz (sumN k fun k=>rv l k*rm m k b) (1+M*(L+L+1)):=fun b k hk=>(Q6 fun j _=>(hkl.rsz hL1 j).mul ((hkm.get j).rsz hL1 b)).mono (by
  have:=Nat.mul_le_mul_right (L+L+1) hk
  omega)
 have hbig:1+M*(L+L+1)≤100000000000:=by
  have:M*(L+L+1)≤1000*20000001:=Nat.mul_le_mul hM (by omega)
  omega
 have hg1:∀ b k,k<M→Rsz (rv l k*rm m k b) (1+M*(L+L+1)):=fun b k hk=>((hkl.rsz hL1 k).mul ((hkm.get k).rsz hL1 b)).mono (by
  have:=Nat.mul_le_mul_right (L+L+1) (show 1≤M by omega)
  omega)
 refine .goC rfl (.lp (α:=Nat) [1,6,7,8,9,10,24,25] rfl (fun i=>[(26,.int .i64 (i:Nat))]) (fun i W=>Ext w2 W∧i≤B∧FB eQ 55 (fun k=>k≠g9) W g8 (fil B i G8 q0)∧FB eQ 55 (fun k=>k≠g8) W g9 (fil B i G9 q0)) (fun i=>B-i) 0 (lc1 rfl) ⟨e3.trans e4,Nat.zero_le _,by rw [H7];exact f8,by rw [H7];exact f9⟩ ?_)
 clear f8 f9 k6 k7
 rintro i W ⟨hW,hiB,f8,f9⟩
 have zW:=hW.size
 have l8:=f8.lt
 have l9:=f9.lt
 refine .go rfl ?_
 rcases Nat.lt_or_ge i B with hlt | hge
 rotate_left
 ·have:i=B:=by omega
  subst this
  rw [N2] at f8 f9
  have r8:=f8.toR (hsz:=by decide) (c:=i) h89 (by simp) (by simp;omega)
  have r9:=f9.toR (hsz:=by decide) (c:=i) (Ne.symm h89) (by simp) (by simp;omega)
  rw [List.length_map,List.length_range] at r8 r9
  refine .lssF rfl rfl rfl (by omega) (.goE rfl (.plain [_,_] Tryz.results126 ⟨rfl,rfl,trivial⟩ ⟨x2.trans hW,_,_,rfl,?_,?_⟩))
  ·rw [←hG8] at r8;exact eV.mono (fun _ _ _=>trivial) r8
  ·rw [←hG9] at r9;exact eV.mono (fun _ _ _=>trivial) r9
 have hgi:(tabI B lab)[i]?=some ((lab i:Nat):Int):=AA2 hlt
 have hli:=hlab i hlt
 refine .lssT rfl rfl rfl (by omega) (.go rfl (.ixN (i:=i) un_I E2 rfl rfl (ER.ext eI hi (x2.trans hW)) rfl hgi fun q hq=>.ldE (E:=eInt .i64) E2 rfl rfl hq fun e he=>.alloc rfl AO4 fun W1 c n1'=>?_))
 obtain ⟨rfl,_⟩:=he
 obtain ⟨d1,kc,hc,zs1⟩:=n1'
 refine .store (v:=.int .i64 (i:Nat)) B0 rfl rfl kc rfl (by simp [Value.cells]) (by simp [Value.cells,one1]) fun W2 kc' u2=>.goC rfl ?_
 have kc:Blk W2 c 3 #[.int .i64 (i:Nat)]:=kc'
 have y2:Ext w2 W2:=u2.below (hW.trans d1) (by omega)
 have f8:=FB.new f8 d1 u2 (by omega)
 have f9:=FB.new f9 d1 u2 (by omega)
 have k6:=k6b.ext y2
 have k7:=k7b.ext y2
 have zW2:W2.heap.size=W1.heap.size:=u2.size
 have upG:∀ {W':World},W2.heap.size≤W'.heap.size→Up (fun k=>k≠g8∧k≠g9) W':=fun h k hk=>by omega
 refine .par follows 6 [.inl _,.inl (.int .i64 (i:Nat)),.inl _,.inl _,.inr (eQ.at (fun _=>True) (base.getD (lab i) q0)),.inr (eQ.at (fun k=>k≠g8∧k≠g9) (G8 i))] [[],[],[],[],[(33,2),(34,3)],[(35,4)]] (by kernel_rfl) ⟨
  fun w e=>(v_mv rfl).ob,
  fun w e=>(v_ld B0 rfl (kc.ext e) rfl).ob,
  fun w e=>(v_mv rfl).ob,
  fun w e=>(v_mv rfl).ob,
  fun w e=>(A2 _ AC1 rfl (AA5 (ER.ext eV hbs ((x2.trans y2).trans e)) hli)).ob (A6 _ _ _),
  fun w e x4 hx4=>(by have:=N9 (S:=fun _=>True) (T0:=(fun k=>k≠g8∧k≠g9)) (fun _ _=>trivial) (upG e.size) hx4 (hkb.get hL1 (lab i)).1 hL1 (by omega);rw [show qc (qval (base.getD (lab i) q0))=G8 i by rw [←hG8];rfl] at this;exact (A2 _ H9 rfl this).ob (A6 _ _ _)),trivial⟩ ?_
 intro W3 d3 y4 hy4 y5 hy5
 have z3:=d3.size
 refine .ixB (i:=i) un_V ty_Q rfl rfl rfl hlt (.storeF (E:=eQ) (i:=i) (z:=G8 i) (by decide) ty_Q rfl rfl (f8.ext d3) rfl (by rw [D6];exact hlt) (Nat.zero_add _) (eQ.mono (fun k _ h=>⟨h.2,h.1⟩) hy5) fun W5 f8' u5=>.goC rfl ?_)
 rw [I9] at f8'
 have f9:=(f9.ext d3).upd u5 (Ne.symm h89) (fun h=>h rfl)
 have y5':Ext w2 W5:=u5.below (y2.trans d3) (by omega)
 have kc:=(kc.ext d3).upd u5 (by omega)
 have k6:=(k6.ext d3).upd u5 (by omega)
 have k7:=(k7.ext d3).upd u5 (by omega)
 have zW5:=u5.size
 have upG:∀ {W':World},W5.heap.size≤W'.heap.size→Up (fun k=>k≠g8∧k≠g9) W':=fun h k hk=>by omega
 refine .par follows 6 [.inl _,.inl (.int .i64 (i:Nat)),.inl _,.inl (.func (.func 188) #[] #[.pointer (some ⟨b7,0,none⟩),.pointer (some ⟨b6,0,none⟩),.pointer (some ⟨c,0,none⟩)]),.inr (eQ.at (fun k=>k≠g8∧k≠g9) (qc (sumN M fun k=>rv l k*rm m k i))),.inr (eQ.at (fun k=>k≠g8∧k≠g9) (G9 i))] [[],[],[],[],[(40,2),(41,3)],[(42,4)]] (by kernel_rfl) ⟨
  fun w e=>(v_mv rfl).ob,
  fun w e=>(v_ld B0 rfl (kc.ext e) rfl).ob,
  fun w e=>(v_mv rfl).ob,
  fun w e=>(v_mf [] [_,_,_] rfl rfl rfl).ob,
  fun w e=>(A2 _ Ak8 rfl (Ai8 (L:=1+M*(L+L+1)) (g:=fun k=>rv l k*rm m k i) (upG e.size) Ay4 (by omega) hbig (by omega) (fun k up e' hk=>by simpa using Ay1 (L:=L) up ((k7.ext e).ext e') ((k6.ext e).ext e') ((kc.ext e).ext e') (ER.ext eV hl (((x2.trans y5').trans e).trans e')) (ER.ext eM hm (((x2.trans y5').trans e).trans e')) (by omega) (by omega) (by omega) hkl hkm hL1 (by omega)) (hg1 i) (hs i))).ob (A6 _ _ _),
  fun w e x4 hx4=>(by have:=AE6 (L:=1+M*(L+L+1)) (upG e.size) hx4 (O6 (hs i M (Nat.le_refl _))) (by omega) hbig;rw [A8,show qc (- sumN M fun k=>rv l k*rm m k i)=G9 i by rw [←hG9]] at this;exact (A2 _ AF2 rfl this).ob (A6 _ _ _)),trivial⟩ ?_
 intro W6 d6 z4 hz4 z5 hz5
 have z6:=d6.size
 refine .ixB (i:=i) un_V ty_Q rfl rfl rfl hlt (.storeF (E:=eQ) (i:=i) (z:=G9 i) (by decide) ty_Q rfl rfl (f9.ext d6) rfl (by rw [D6];exact hlt) (Nat.zero_add _) hz5 fun W8 f9' u8=>?_)
 rw [I9] at f9'
 have f8:=(f8'.ext d6).upd u8 h89 (fun h=>h rfl)
 exact .go rfl (.inc rfl rfl rfl (by omega) (.goN rfl (.mk (i+1) rfl (lc1 rfl) ⟨⟨u8.below (y5'.trans d6) (by omega),hlt,f8,f9'⟩,by show B-(i+1)<B-i;omega⟩)))
theorem AU8:Ent Tryz.prog 60:=A0 Tryz.func60 (by kernel_rfl) rfl
set_option maxRecDepth 8000 in
theorem AT6 {w:World} {vi vb vf vl:Value} {B M L:Nat} {lab:Nat→Nat} {base l:List QV} {m:List (List QV)} (hi:eI.R (fun _=>True) w vi (tabI B lab)) (hbs:eV.R (fun _=>True) w vb base) (hm:eM.R (fun _=>True) w vf m) (hl:eV.R (fun _=>True) w vl l) (hB:B≤1000) (hlab:∀ b,b<B→lab b<1000000) (hM:M≤1000) (hml:m.length=M) (hll:l.length=M) (hkb:vk L base) (hkl:vk L l) (hkm:mk_ L m) (hL1:1≤L) (hL:L≤10000000) :
  CR Tryz.prog 60 #[vi,vb,vf,vl] w (eV.at (fun _=>True) (tab B fun b=>rv base (lab b)-sumN M fun k=>rv l k*rm m k b)):=by
 refine enter Tryz.func60 rfl Tryz.ntmps60 rfl (.beg (.go rfl ?_))
 refine .call _ rfl Ab0 rfl (AY7 hi hbs hm hl hB hlab hM hml hll hkb hkl hkm hL1 hL) fun v1 w1 e1 h1=>?_
 obtain ⟨va,vj,rfl,ha,hj⟩:=h1
 refine .go rfl (.lenR un_I rfl rfl (ER.ext eI hi e1) ?_)
 rw [G2]
 refine .make_ _ _ un_V K4 rfl (by decide) rfl rfl rfl (Nat.le_refl _) (by omega) (by omega) fun w2 g n2=>?_
 have f2:FB eQ 55 (fun _=>True) w2 g (List.replicate B q0):=FB.made n2 zq_R
 obtain ⟨e2,_,hg,hs2⟩:=n2
 have x2:=e1.trans e2
 generalize hG:(fun b=>qc (rv base (lab b)-sumN M fun k=>rv l k*rm m k b))=G
 have ha:eV.R (fun k=>k≠g) w1 va _:=eV.mono (fun k _ h=>by have:=h.2;omega) (ER.lt eV ha)
 have hj:eV.R (fun k=>k≠g) w1 vj _:=eV.mono (fun k _ h=>by have:=h.2;omega) (ER.lt eV hj)
 refine .go rfl (.len un_V rfl rfl ?_)
 refine .goC rfl (.lp (α:=Nat) [9,10,11,25] rfl (fun i=>[(26,.int .i64 (i:Nat))]) (fun i W=>Ext w1 W∧i≤B∧FB eQ 55 (fun _=>True) W g (fil B i G q0)) (fun i=>B-i) 0 (lc1 rfl) ⟨e2,Nat.zero_le _,by rw [H7];exact f2⟩ ?_)
 rintro i W ⟨hW,hiB,fb⟩
 have zW:=hW.size
 have lg:=fb.lt
 refine .go rfl ?_
 rcases Nat.lt_or_ge i B with hlt | hge
 rotate_left
 ·have:i=B:=by omega
  subst this
  rw [N2] at fb
  have r:=fb.toR (hsz:=by decide) (c:=i) trivial (by simp) (by simp;omega)
  rw [List.length_map,List.length_range] at r
  refine .lssF rfl rfl rfl (by omega) (.goE rfl (.plain [_] Tryz.results60 ⟨rfl,trivial⟩ ⟨e1.trans hW,?_⟩))
  rw [←hG] at r;exact r
 have hs:Rsz (sumN M fun k=>rv l k*rm m k i) (1+M*(L+L+1)):=Q6 fun j _=>(hkl.rsz hL1 j).mul ((hkm.get j).rsz hL1 i)
 have hbig:1+M*(L+L+1)+L≤100000000000:=by
  have:M*(L+L+1)≤1000*20000001:=Nat.mul_le_mul hM (by omega)
  omega
 have hb1:Rsz (rv base (lab i)) (1+M*(L+L+1)+L):=(hkb.rsz hL1 _).mono (by omega)
 have hb2:Rsz (- sumN M fun k=>rv l k*rm m k i) (1+M*(L+L+1)+L):=(Rsz.neg hs).mono (by omega)
 refine .lssT rfl rfl rfl (by omega) (.goC rfl ?_)
 refine .par follows 11 [.inl _,.inl _,.inl _,.inl _,.inr (Ptr eQ (fun k=>k≠g) (qc (rv base (lab i)))),.inr (eQ.at (fun k=>k≠g) (qc (rv base (lab i)))),.inl _,.inl _,.inr (Ptr eQ (fun k=>k≠g) (qc (- sumN M fun k=>rv l k*rm m k i))),.inr (eQ.at (fun k=>k≠g) (qc (- sumN M fun k=>rv l k*rm m k i))),.inr (eQ.at (fun k=>k≠g) (G i))] [[],[],[],[],[(31,2),(32,3)],[(33,4)],[],[],[(35,6),(36,7)],[(37,8)],[(34,5),(38,9)]] (by kernel_rfl) ⟨
  fun w e=>(v_mv rfl).ob,
  fun w e=>(v_mv rfl).ob,
  fun w e=>(v_mv rfl).ob,
  fun w e=>(v_mv rfl).ob,
  fun w e=>E0 (i:=i) un_V ty_Q rfl (ER.ext eV ha (hW.trans e)) rfl (G1 hlt),
  fun w e x4 hx4=>J5 ty_Q rfl hx4,
  fun w e=>(v_mv rfl).ob,
  fun w e=>(v_mv rfl).ob,
  fun w e=>E0 (i:=i) un_V ty_Q rfl (ER.ext eV hj (hW.trans e)) rfl (G1 hlt),
  fun w e x8 hx8=>J5 ty_Q rfl hx8,
  fun w e x5 hx5 x9 hx9=>(by have:=L4 (L:=1+M*(L+L+1)+L) (fun k hk=>by have:=e.size;omega) hx5 hx9 hb1.toOk hb2.toOk (by omega) hbig;rw [A8,A8,show qc (rv base (lab i) + - sumN M fun k=>rv l k*rm m k i)=G i by rw [←hG,←Rat.sub_eq_add_neg]] at this;exact (A2 _ I3 rfl this).ob (A6 _ _ _)),trivial⟩ ?_
 intro W3 d3 y4 hy4 y5 hy5 y8 hy8 y9 hy9 y10 hy10
 have z3:=d3.size
 refine .ixB (i:=i) un_V ty_Q rfl rfl rfl hlt (.storeF (E:=eQ) (i:=i) (z:=G i) (by decide) ty_Q rfl rfl (fb.ext d3) rfl (by rw [D6];exact hlt) (Nat.zero_add _) (eQ.mono (fun k _ h=>⟨trivial,h⟩) hy10) fun W5 f5 u5=>?_)
 rw [I9] at f5
 exact .go rfl (.inc rfl rfl rfl (by omega) (.goN rfl (.mk (i+1) rfl (lc1 rfl) ⟨⟨u5.below (hW.trans d3) (by omega),hlt,f5⟩,by show B-(i+1)<B-i;omega⟩)))
end Go.Proofs.YtfilidfomgfnhaaGreat

namespace Go.Kx
open Go Go.RowKit Go.Proofs.YtfilidfomgfnhaaGreat
theorem Au1 {p:Nat→Rat} {l:List RtV} (h:∀ r∈l,p r.f.toNat=p r.t.toNat) (i:Nat):paV l p i=0:=by
 unfold paV paR
 rw [List.getD_eq_getElem?_getD]
 cases hi:l[i]? with
 | none=>show ((0:Int):Rat)*_=0;rw [Rat.intCast_zero,Rat.zero_mul]
 | some r =>
  show ((r.q:Int):Rat)*(p r.t.toNat-p r.f.toNat)=0
  rw [h r (List.mem_iff_getElem?.2 ⟨i,hi⟩),Rat.sub_self,Rat.mul_zero]
/-- all payments are the line prices times the flows -/
theorem pay_rev {n:NtV} {o:List Int} {l:List RtV} (ok:nwOk n o) (hr:rfE n o l=0) (φ:Nat→Rat) (y:Nat→Rat) {p:Nat→Rat} (hp:∀ b,b<(nwOf n o).B→p b=φ ((nwOf n o).lab b)-sumN n.ls.length fun k=>y k*(nwOf n o).hf k b) :
  sumN l.length (paV l p)=sumN n.ls.length fun k=>y k*rfV n o l k:=by
 obtain ⟨_,hR,hroot⟩:=AP9 hr
 have hall:=(AY2 hR).2
 have hin:∀ r∈l,inR (nwOf n o).B r.f∧inR (nwOf n o).B r.t:=fun r hm=>by
  obtain ⟨h1,h2,h3,h4,_⟩:=hall r hm
  have hb:=ok.b
  exact ⟨⟨h1,by omega⟩,h3,by omega⟩
 have h0:sumN (nwOf n o).B (fun b=>φ ((nwOf n o).lab b)*((rtS l b:Int):Rat))=0:=by
  have h1:=AW0 (p:=fun b=>φ ((nwOf n o).lab b)) (m:=(nwOf n o).B) l hin
  rw [L2 fun i _=>Au1 (fun r hm=>by
   obtain ⟨⟨h1,h2⟩,h3,h4⟩:=hin r hm
   show φ _=φ _
   rw [(Nw.lab_eq (n:=nwOf n o) (by omega) (by omega)).2 (hroot r hm)]) i] at h1
  have h2:sumN (nwOf n o).B (fun b=>φ ((nwOf n o).lab b)*((rtS l b:Int):Rat)) = - 0:=by rw [h1];grind
  rw [h2];rfl
 rw [AW0 (m:=(nwOf n o).B) l hin]
 have hs:sumN (nwOf n o).B (fun b=>p b*((rtS l b:Int):Rat))=sumN (nwOf n o).B (fun b=>φ ((nwOf n o).lab b)*((rtS l b:Int):Rat))-sumN (nwOf n o).B (fun b=>sumN n.ls.length fun k=>y k*((nwOf n o).hf k b*((rtS l b:Int):Rat))):=by
  rw [←V5]
  refine A7 fun b hb=>?_
  rw [hp b hb,Rat.sub_eq_add_neg,Rat.add_mul]
  have:(sumN n.ls.length fun k=>y k*(nwOf n o).hf k b)*((rtS l b:Int):Rat)=sumN n.ls.length fun k=>y k*((nwOf n o).hf k b*((rtS l b:Int):Rat)):=by
   rw [Rat.mul_comm,←Q7]
   exact A7 fun k _=>by grind
  rw [←this];grind
 rw [hs,h0,V4]
 have hk:sumN n.ls.length (fun k=>sumN (nwOf n o).B fun b=>y k*((nwOf n o).hf k b*((rtS l b:Int):Rat)))=sumN n.ls.length fun k=>y k*rfV n o l k:=A7 fun k _=>by
  unfold rfV
  rw [Q7]
 rw [hk];grind
theorem Ai9 {a b c:Rat} (h:absR b≤c):a*b≤absR a*c:=by
 have h2:b≤c ∧ -b≤c:=by
  unfold absR at h
  split at h
  ·rename_i hn;exact ⟨Rat.le_trans (Rat.le_of_lt (by grind)) h,h⟩
  ·rename_i hn;exact ⟨h,by grind⟩
 unfold absR
 split
 ·rename_i hn
  have:=Rat.mul_le_mul_of_nonneg_left h2.2 (show 0 ≤ -a by grind)
  grind
 ·rename_i hn
  have:=Rat.mul_le_mul_of_nonneg_left h2.1 (show 0≤a by grind)
  grind
theorem sum_cap {M:Nat} {y f c:Nat→Rat} (h:∀ k,k<M→absR (f k)≤c k):sumN M (fun k=>y k*f k)≤sumN M fun k=>absR (y k)*c k:=Al9 fun k hk=>Ai9 (h k hk)
theorem Rsz.absR' {r:Rat} {L:Nat} (h:Rsz r L):Rsz (absR r) L:=by
 unfold absR
 split
 ·exact h.neg
 ·exact h
end Go.Kx
namespace Go.Proofs.YtfilidfomgfnhaaGreat
open Go Go.Kx Go.RowKit
theorem resP_R0 {S:Nat→Prop} {w W:World} {v:Value} {a:List QV} {M:Nat} (h:ResP S w.heap.size ((M:Nat):Int) a v W) (up:Up S w) (h2:M≤60000):eV.R S W v (tab M (rv a)):=by
 rcases Nat.eq_zero_or_pos M with h0 | hp
 ·subst h0
  rcases h with ⟨_,rfl⟩ | ⟨h,_⟩
  ·exact RL.nil
  ·omega
 ·exact resP_R h up hp h2
set_option maxRecDepth 8000 in
theorem P2 {w:World} {vn vo vl vb vp:Value} {n:NtV} {o:List Int} {l:List RtV} {base p:List QV} (hn:eN.R (fun _=>True) w vn n) (ho:eI.R (fun _=>True) w vo o) (hl:eRts.R (fun _=>True) w vl l) (hbs:eV.R (fun _=>True) w vb base) (hkb:vk 1048576 base) (hp:eV.R (fun _=>True) w vp p) (hkp:vk 1048576 p) :
  CR Tryz.prog 11 #[vn,vo,vl,vb,vp] w (Is (.bool true)):=by
 obtain ⟨s,rfl,hs,hb⟩:=hn
 have hn:eN.R (fun _=>True) w (.agg #[.int .i64 n.b,s]) n:=⟨s,rfl,hs,hb⟩
 obtain ⟨_,_,hvb,_,_⟩:=RL.len hbs
 obtain ⟨_,_,hvp,_,_⟩:=RL.len hp
 have haw:∀ {W:World},CR Tryz.prog 48 #[] W (Is (.bool true)):=AU0
 refine enter Tryz.func11 rfl Tryz.ntmps11 rfl (.beg (.go rfl (.box rfl rfl fun w1 b5 n1=>.go rfl ?_)))
 obtain ⟨e1,k5,hb5,hs1⟩:=n1
 refine .ldA ty_N rfl rfl k5 rfl (.go rfl ?_)
 refine .call _ rfl Ab5 rfl (AZ3 (hn.ext e1) (ho.ext e1) (ER.ext eRts hl e1)) fun v3 w3 e3 h3=>?_
 obtain ⟨bl,rfl,hl30⟩:=h3
 have x3:=e1.trans e3
 cases bl with
 | true =>
  refine .go rfl (.call _ rfl U4 rfl haw fun v4 w4 e4 h4=>?_)
  subst h4
  exact .goE rfl (.tt Tryz.results11 rfl (x3.trans e4))
 | false =>
 replace hl30:l.length≤30:=hl30 rfl
 refine .go rfl (.bsl _ rfl rfl (by rw [hvb,hvp];exact bsl_M2) fun w4 b31 n4=>?_)
 have hm:eM.R (fun _=>True) w4 (.slice (some ⟨b31,0,none⟩) 2 2) [base,p]:=eS_new [vb,vp] [base,p] n4 upT (by rw [hvb,hvp]) rfl (by decide) (Els.snoc (Els.snoc Els.nil (ER.ext eV hbs x3)) (ER.ext eV hp x3))
 have x4:=x3.trans n4.1
 refine .go rfl (.call _ rfl Ab6 rfl (AZ4 hm) fun v5 w5 e5 h5=>?_)
 obtain ⟨bl2,rfl⟩:=h5
 have x5:=x4.trans e5
 have k5:=((k5.ext e3).ext n4.1).ext e5
 cases bl2 with
 | true =>
  refine .go rfl (.call _ rfl U4 rfl haw fun v6 w6 e6 h6=>?_)
  subst h6
  exact .goE rfl (.tt Tryz.results11 rfl (x5.trans e6))
 | false =>
 refine .go rfl (.call _ rfl U4 rfl haw fun v6 w6 e6 h6=>?_)
 subst h6
 have x6:=x5.trans e6
 have k5:=k5.ext e6
 refine .go rfl (.ldA ty_N rfl rfl k5 rfl (.go rfl ?_))
 refine .call _ rfl K7 rfl (K6 upT (hn.ext x6) (ho.ext x6) (ER.ext eRts hl x6)) fun v7 w7 e7 h7=>?_
 obtain ⟨vf,ve,rfl,hf,rfl⟩:=h7
 have x7:=x6.trans e7
 have k5:=k5.ext e7
 refine .go rfl ?_
 by_cases hR:rfE n o l=0
 rotate_left
 ·rw [if_neg hR] at hf
  exact .neqT rfl rfl rfl hR (.go rfl (.lenR un_V rfl rfl hf (.eqlT rfl rfl rfl rfl (.goE rfl (.tt Tryz.results11 rfl x7)))))
 rw [if_pos hR] at hf
 obtain ⟨hO,hRt,hroot⟩:=AP9 hR
 have ok:=AG7 hO
 have hB6:=ok.b6
 have hM10:n.ls.length≤10:=ok.m
 have hnb:=ok.b
 refine .neqF rfl rfl rfl (by omega) (.go rfl (.ldA ty_N rfl rfl k5 rfl (.go rfl ?_)))
 refine .call _ rfl AC3 rfl (AA8 upT (hn.ext x7) (ho.ext x7)) fun v8 w8 e8 h8=>?_
 obtain ⟨vi,ve,rfl,hi,he⟩:=h8
 replace he:ve=.int .i64 0:=by rw [he,hO]
 subst he
 rw [if_pos hO] at hi
 have x8:=x7.trans e8
 have k5:=k5.ext e8
 refine .go rfl (.ldA ty_N rfl rfl k5 rfl (.go rfl ?_))
 refine .call _ rfl Z4 rfl (Z3 upT (hn.ext x8) (ho.ext x8)) fun v9 w9 e9 h9=>?_
 obtain ⟨vh,ve,rfl,hh,he⟩:=h9
 replace he:ve=.int .i64 0:=by rw [he,hO]
 subst he
 rw [if_pos hO] at hh
 have x9:=x8.trans e9
 have k5:=k5.ext e9
 refine .go rfl (.neqF rfl rfl rfl rfl (.go rfl (.neqF rfl rfl rfl rfl (.go rfl (.fa L5 rfl rfl (.ld Q5 rfl rfl k5 rfl (.lenR O5 rfl rfl (hs.ext x9) ?_)))))))
 refine .call _ rfl Aa9 rfl (AX6 upT (ER.ext eV hp x9) hkp (by decide) (by decide)) fun v10 w10 e10 h10=>?_
 have h10:=resP_R0 (M:=n.ls.length) h10 upT (by omega)
 have x10:=x9.trans e10
 have k5:=k5.ext e10
 have hky:vk 1048576 (tab n.ls.length (rv p)):=Q0 fun k _=>hkp.rsz (by decide) k
 have hlab:∀ b,b<(nwOf n o).B→(nwOf n o).lab b<1000000:=fun b hb=>by have:=(nwOf n o).lab_le b;omega
 refine .go rfl ?_
 refine .call _ rfl AU8 rfl (AT6 (L:=1048576) (M:=n.ls.length) (B:=(nwOf n o).B) (ER.ext eI hi (e9.trans e10)) (ER.ext eV hbs x10) (ER.ext eM hh e10) h10 (by omega) hlab (by omega) (A5 ..) (A1 ..) hkb hky ((hf_mk ok _ _).mono (by decide)) (by decide) (by decide)) fun v11 w11 e11 h11=>?_
 have x11:=x10.trans e11
 have k5:=k5.ext e11
 generalize hP:(fun b=>rv base ((nwOf n o).lab b)-sumN n.ls.length fun k=>rv (tab n.ls.length (rv p)) k*rm (tabM n.ls.length (nwOf n o).B (nwOf n o).hf) k b)=P at h11
 have hPv:∀ b,b<(nwOf n o).B→P b=rv base ((nwOf n o).lab b)-sumN n.ls.length fun k=>rv p k*(nwOf n o).hf k b:=fun b hb=>by
  rw [←hP]
  show _-_=_-_
  congr 1
  exact A7 fun k hk=>by rw [J3,if_pos hk,AG4,if_pos ⟨hk,hb⟩]
 have hPz:∀ b,b<(nwOf n o).B→Rsz (P b) 23000000:=fun b hb=>by
  rw [hPv b hb,Rat.sub_eq_add_neg]
  have h1:=hkb.rsz (by decide) ((nwOf n o).lab b)
  have h2:=AX9 (m:=n.ls.length) (f:=rv p) (g:=fun k=>(nwOf n o).hf k b) (L:=1048576) (fun k _=>hkp.rsz (by decide) k) (fun k _=>(Aj2 ok k b).mono (by decide))
  refine (h1.add (Rsz.neg h2)).mono ?_
  have:=Nat.mul_le_mul_right (1048576+1048576+1) hM10
  omega
 have hkP:vk 23000000 (tab (nwOf n o).B P):=Q0 fun b hb=>hPz b hb
 refine .go rfl ?_
 refine .call _ rfl Y8 rfl (AT3 (L:=23000000) upT (ER.ext eRts hl x11) h11 hkP (by decide) (by decide) (by omega)) fun v12 w12 e12 h12=>?_
 obtain ⟨va,ve,rfl,ha,rfl⟩:=h12
 rw [A1] at ha
 have hE:paE l (nwOf n o).B=0:=by
  unfold paE
  rw [if_pos]
  intro r hr
  obtain ⟨h1,h2,h3,h4,_⟩:=(AY2 hRt).2 r hr
  exact ⟨⟨h1,by omega⟩,h3,by omega⟩
 rw [A1,hE]
 rw [if_pos hE] at ha
 have x12:=x11.trans e12
 have k5:=k5.ext e12
 refine .go rfl (.ldA ty_N rfl rfl k5 rfl (.go rfl ?_))
 refine .call _ rfl K0 rfl (J7 upT (hn.ext x12) (ho.ext x12) (ER.ext eRts hl x12)) fun v13 w13 e13 h13=>?_
 obtain ⟨vis,ve,rfl,rfl,rfl⟩:=h13
 have hfe:feE n o l=0:=by unfold feE;rw [if_neg (by rw [hR];decide),hR]
 rw [hfe]
 have x13:=x12.trans e13
 have k5:=k5.ext e13
 have hq:=rts_q hl
 have hs1:∀ i,Rsz (paV l (rv (tab (nwOf n o).B P)) i) 46000004:=fun i=>paV_rsz hq hkP (by decide) i
 have hs2:∀ i,i≤l.length→Rsz (sumN i (paV l (rv (tab (nwOf n o).B P)))) 2000000000:=fun i hi=>(Q6 fun k _=>hs1 k).mono (by omega)
 have hrv:∀ i,i≤l.length→sumN i (rv (tab l.length (paV l (rv (tab (nwOf n o).B P)))))=sumN i (paV l (rv (tab (nwOf n o).B P))):=fun i hi=>A7 fun k hk=>by rw [J3,if_pos (by omega)]
 have htot:∀ {W:World},Ext w12 W→CR Tryz.prog 55 #[va] W (eQ.at (fun _=>True) (qc (sumN l.length (paV l (rv (tab (nwOf n o).B P)))))):=fun e=>by
  have:=AT9 (L:=2000000000) (ER.ext eV ha e) (Q0 fun k _=>(hs1 k).mono (by decide)) (by decide) (by decide) fun i hi=>by rw [A1] at hi;rw [hrv i hi];exact hs2 i hi
  rw [A1,hrv _ (Nat.le_refl _)] at this
  exact this
 have hsum:sumN l.length (paV l (rv (tab (nwOf n o).B P)))=sumN n.ls.length fun k=>rv p k*rfV n o l k:=pay_rev ok hR (rv base) (rv p) fun b hb=>by rw [J3,if_pos hb,hPv b hb]
 have hdotv:sumN (min (tab n.ls.length (rv p)).length (tab n.ls.length (rfV n o l)).length) (fun k=>rv (tab n.ls.length (rv p)) k*rv (tab n.ls.length (rfV n o l)) k)=sumN n.ls.length fun k=>rv p k*rfV n o l k:=by
  rw [A1,A1,Nat.min_self]
  exact A7 fun k hk=>by rw [J3,J3,if_pos hk,if_pos hk]
 refine .go rfl (.neqF rfl rfl rfl rfl (.go rfl (.neqF rfl rfl rfl rfl (.go rfl ?_))))
 refine .call _ rfl AD8 rfl (htot e13) fun v14 w14 e14 h14=>.go rfl ?_
 have hfl:=ER.ext eV hf ((((((e8.trans e9).trans e10).trans e11).trans e12).trans e13).trans e14)
 have hyl:=ER.ext eV h10 (((e11.trans e12).trans e13).trans e14)
 refine .call _ rfl AX2 rfl (Ah9 (L:=1100000) upT hyl hfl (by rw [A1];omega) (hky.mono (by decide)) (AY3 ok hRt _) (by decide) (by decide)) fun v15 w15 e15 h15=>.go rfl ?_
 rw [hdotv] at h15
 have hrz:Rsz (sumN n.ls.length fun k=>rv p k*rfV n o l k) 2000000000:=hsum▸hs2 _ (Nat.le_refl _)
 refine .call _ rfl Ab7 rfl (eqQW (L:=2000000000) (ER.ext eQ h14 e15) h15 (hs2 _ (Nat.le_refl _)).toOk hrz.toOk (he:=by rw [A8,A8,hsum])) fun v16 w16 e16 h16=>?_
 subst h16
 have x16:=((x13.trans e14).trans e15).trans e16
 have k5:=((k5.ext e14).ext e15).ext e16
 by_cases hF:feP n o l
 rotate_left
 ·rw [show ∀ i:Decidable (feP n o l),@decide _ i=false from fun i=>@decide_eq_false _ i hF]
  exact .goE rfl (.tt Tryz.results11 rfl x16)
 rw [show ∀ i:Decidable (feP n o l),@decide _ i=true from fun i=>@decide_eq_true _ i hF]
 refine .go rfl (.bld _ rfl rfl L6 (.alloc rfl B7 fun w17 b22 n17=>?_))
 obtain ⟨e17,k22,hb22,hs17⟩:=n17
 refine .storeA (E:=eQ) (S:=fun k=>k≠b22) ty_Q rfl rfl k22 rfl rfl zq_R (fun h=>h rfl) fun w18 k22 u18 h18=>?_
 have x18:Ext w16 w18:=u18.below e17 (by omega)
 have k5':∀ {W:World},Ext w16 W→Blk W b5 24 #[.int .i64 n.b,s]:=fun e=>k5.ext e
 have hyl16:=ER.ext eV hyl (e15.trans e16)
 have hn16:=hs.ext x16
 have ha16:=ER.ext eV ha ((((e13.trans e14).trans e15).trans e16))
 generalize hC:(fun k=>absR (rv p k)*(((n.ls.getD k ln0).c:Int):Rat))=C
 have hCz:∀ k,k<n.ls.length→Rsz (C k) 1048579:=fun k hk=>by
  rw [←hC]
  have hc3:Rsz (((n.ls.getD k ln0).c:Int):Rat) 3:=V6 (by have:=ok.c k hk;omega)
  have hm:=(Rsz.absR' (hkp.rsz (by decide) k)).mul hc3
  refine hm.mono ?_
  simp
 have hCs:∀ k,k≤n.ls.length→Rsz (sumN k C) 2000000000:=fun k hk=>(Q6 fun j hj=>hCz j (by omega)).mono (by
  have:=Nat.mul_le_mul_right (1048579+1) (Nat.le_trans hk hM10)
  omega)
 have hle:sumN n.ls.length (fun k=>rv p k*rfV n o l k)≤sumN n.ls.length C:=by
  rw [←hC]
  exact sum_cap fun k hk=>hF.2 k hk
 refine .goC rfl (.lp (α:=Nat×Value) [4,5,18,22] rfl (fun y=>[(23,.int .i64 (y.1:Nat))]) (fun y W=>Ext w16 W∧y.1≤n.ls.length∧Blk W b22 55 y.2.cells∧eQ.R (fun k=>k≠b22) W y.2 (qc (sumN y.1 C))) (fun y=>n.ls.length-y.1) (0,zq) (lc1 rfl) ⟨x18,Nat.zero_le _,k22,by show eQ.R _ w18 zq (qc 0);rw [O2];exact h18⟩ ?_)
 clear k22 h18
 rintro ⟨i,y⟩ W ⟨hW,hi',k22,hy⟩
 replace hW:Ext w16 W:=hW
 replace hi':i≤n.ls.length:=hi'
 replace k22:Blk W b22 55 y.cells:=k22
 replace hy:eQ.R (fun k=>k≠b22) W y (qc (sumN i C)):=hy
 have hyv:=shpA (E:=eQ) rfl hy
 have l22:=k22.lt
 have k5:=k5' hW
 refine .go rfl (.fa L5 rfl rfl (.ld Q5 rfl rfl k5 rfl (.lenR O5 rfl rfl (hn16.ext hW) ?_)))
 rcases Nat.lt_or_ge i n.ls.length with hlt | hge
 rotate_left
 ·have:i=n.ls.length:=by omega
  subst this
  refine .lssF rfl rfl rfl (by omega) (.goC rfl ?_)
  refine .par follows 3 [.inl _,.inr (eQ.at (fun _=>True) (qc (sumN l.length (paV l (rv (tab (nwOf n o).B P)))))),.inl y] [[],[(132,0)],[]] (by kernel_rfl) ⟨
   fun w e=>(v_mv rfl).ob,
   fun w e=>(A2 _ AD8 rfl (htot (((((e13.trans e14).trans e15).trans e16).trans hW).trans e))).ob (A6 _ _ _),
   fun w e=>((B8 ty_Q rfl (k22.ext e) (eQ.csz hy)).eq hyv.symm).ob,trivial⟩ ?_
  intro W3 d3 y1 hy1
  have hcm:=Y6 (L:=2000000000) upT hy1 (ER.ext eQ (eQ.mono (S':=fun _=>True) (fun _ _ _=>trivial) hy) d3) (hs2 _ (Nat.le_refl _)).toOk (hCs _ (Nat.le_refl _)).toOk (by decide) (by decide)
  rw [A8,A8] at hcm
  refine .call _ rfl Z0 rfl hcm fun v4 W4 d4 h4=>?_
  subst h4
  exact .leqT rfl rfl rfl (cmp_le (by rw [hsum];exact hle)) (.goE rfl (.tt Tryz.results11 rfl (((x16.trans hW).trans d3).trans d4)))
 have hgl:n.ls[i]?=some (n.ls.getD i ln0):=A9 hlt
 have hCi:C i=absR (rv p i)*(((n.ls.getD i ln0).c:Int):Rat):=by rw [←hC]
 have hcc:=ok.c i hlt
 have hz1:=hkp.rsz (by decide) i
 have hz2:=hCz i hlt
 rw [hCi] at hz2
 generalize n.ls.getD i ln0=ln at hgl hCi hcc hz2
 have hrc:Rsz ((ln.c:Int):Rat) 3:=V6 (by omega)
 refine .lssT rfl rfl rfl (by omega) (.goC rfl ?_)
 refine .par follows 14 [.inl y,.inl _,.inl _,.inr (Ptr eQ (fun _=>True) (qc (rv p i))),.inr (eQ.at (fun _=>True) (qc (rv p i))),.inr (eQ.at (fun _=>True) (qc (absR (rv p i)))),.inl _,.inl s,.inl _,.inr (Ptr eL (fun _=>True) ln),.inr (Ptr (eInt .i64) (fun _=>True) ln.c),.inl (.int .i64 ln.c),.inr (eQ.at (fun _=>True) (qc ((ln.c:Int):Rat))),.inr (eQ.at (fun _=>True) (qc (C i)))] [[],[],[],[(118,1),(119,2)],[(120,3)],[(121,4)],[],[(123,6)],[],[(124,7),(125,8)],[(126,9)],[(127,10)],[(128,11)],[(122,5),(129,12)]] (by kernel_rfl) ⟨
  fun w e=>((B8 ty_Q rfl (k22.ext e) (eQ.csz hy)).eq hyv.symm).ob,
  fun w e=>(v_mv rfl).ob,
  fun w e=>(v_mv rfl).ob,
  fun w e=>E0 (i:=i) un_V ty_Q rfl (ER.ext eV hyl16 (hW.trans e)) rfl (G1 hlt),
  fun w e x3 hx3=>J5 ty_Q rfl hx3,
  fun w e x4 hx4=>(by have:=AR3 (L:=1048576) upT hx4 (O6 hz1) (by decide) (by decide);rw [A8] at this;exact (A2 _ AS7 rfl this).ob (A6 _ _ _)),
  fun w e=>(v_fa L5 rfl).ob,
  fun w e=>(v_ld Q5 rfl (k5.ext e) rfl).ob,
  fun w e=>(v_mv rfl).ob,
  fun w e=>E0 (i:=i) O5 S2 rfl (hn16.ext (hW.trans e)) rfl hgl,
  fun w e x9 hx9=>AY5 AN7 rfl hx9 (by decide),
  fun w e x10 hx10=>AJ7 L1 rfl hx10,
  fun w e=>(A2 _ C1 rfl (C0 upT (by omega) (by omega))).ob (A6 _ _ _),
  fun w e x5 hx5 x12 hx12=>(by have:=N8 (L:=1048576) upT hx5 hx12 (Rsz.absR' hz1).toOk (hrc.mono (by decide)).toOk (by decide) (by decide);rw [A8,A8,←hCi] at this;exact (A2 _ L7 rfl this).ob (A6 _ _ _)),trivial⟩ ?_
 intro W3 d3 y3 hy3 y4 hy4 y5 hy5 y9 hy9 y10 hy10 y12 hy12 y13 hy13
 have d35:=d3
 have z35:=d35.size
 have hadd:=AE7 (S:=fun _=>True) (T0:=fun k=>k≠b22) (L:=2000000000) (w:=W3) (fun _ _=>trivial) (fun k hk=>by omega) (ER.ext eQ (eQ.mono (S':=fun _=>True) (fun _ _ _=>trivial) hy) d35) hy13 (hCs i hi').toOk (hCz i hlt |>.mono (by decide)).toOk (by decide) (by decide)
 rw [A8,A8] at hadd
 refine .call _ rfl I3 rfl hadd fun y14 W6 d6 hy14=>?_
 have d36:=d35.trans d6
 refine .storeA (E:=eQ) ty_Q rfl rfl (k22.ext d36) rfl (eQ.csz hy) hy14 (fun h=>h rfl) fun W7 k7 u7 hy7=>?_
 have z16:=hW.size
 exact .go rfl (.inc rfl rfl rfl (by omega) (.goN rfl (.mk (i+1,y14) rfl (lc1 rfl) ⟨⟨u7.below (hW.trans d36) (by omega),hlt,k7,hy7⟩,by show n.ls.length-(i+1)<n.ls.length-i;omega⟩)))
end Go.Proofs.YtfilidfomgfnhaaGreat

namespace Go.Kx
open Go Go.RowKit Go.ChangeShapes Go.WideShapes
section
variable {H:Type} {enc:TypeId×Value→H} {P:Program} {W:World}
def sh4 (P:Program) (t:TypeId):Option (List (TypeId×Nat)) :=
 match P.underlying t with
 | some (.struct fs)=>if fs.size=4 then some (fs.toList.map fun f=>(f.type,f.offset)) else none
 | _=>none
theorem Au7 {t ti tj:TypeId} (hs:sh4 P t=some [(ti,0),(ti,1),(tj,2),(tj,3)]) (hi:P.underlying ti=some (.int .i64)) (hj:P.underlying tj=some (.int .i64)) (hci:P.cellsOf ti=1) (hcj:P.cellsOf tj=1) (hct:P.cellsOf t=4):Opn enc P W eL t (fun _ _=>True):=by
 intro fuel cs x hx hfz
 unfold sh4 at hs
 split at hs
 ·rename_i fs hu
  split at hs
  ·rename_i hsz
   simp only [Option.some.injEq] at hs
   obtain ⟨l⟩:=fs
   match l,hsz with
   | [f0,f1,f2,f3],_ =>
    simp only [List.map_cons,List.map_nil,List.cons.injEq,Prod.mk.injEq,and_true] at hs
    obtain ⟨⟨h0,o0⟩,⟨h1,o1⟩,⟨h2,o2⟩,h3,o3⟩:=hs
    obtain ⟨y0,y1,y2,y3,n,rfl,hl,g0,g1,g2,g3⟩:=Joins.trod_struct4 hu hx
    rw [h0,o0,hci] at g0
    rw [h1,o1,hci] at g1
    rw [h2,o2,hcj] at g2
    rw [h3,o3,hcj] at g3
    rw [hct] at hl
    obtain ⟨c0,c1,c2,c3,rfl⟩:∃ c0 c1 c2 c3,cs=[c0,c1,c2,c3]:=by
     match cs,hl with
     | [c0,c1,c2,c3],_=>exact ⟨c0,c1,c2,c3,rfl⟩
    obtain ⟨n0,e0,_,w0⟩:=DataW.trod_int hi g0
    obtain ⟨n1,e1,_,w1⟩:=DataW.trod_int hi g1
    obtain ⟨n2,e2,_,w2⟩:=DataW.trod_int hj g2
    obtain ⟨n3,e3,_,w3⟩:=DataW.trod_int hj g3
    simp at e0 e1 e2 e3
    subst e0 e1 e2 e3
    exact ⟨.agg #[.int .i64 n0,.int .i64 n1,.int .i64 n2,.int .i64 n3],⟨n0,n1,n2,n3⟩,rfl,⟨rfl,AD3 w0,AD3 w1,AD3 w2,AD3 w3⟩,trivial⟩
  ·cases hs
 ·cases hs
theorem opn_N {t ti tl te:TypeId} (hs:sh2 P t=some ((ti,0),(tl,1))) (hi:P.underlying ti=some (.int .i64)) (hci:P.cellsOf ti=1) (hcl:P.cellsOf tl=1) (hct:P.cellsOf t=2) (hl:P.underlying tl=some (.slice te)) (hce:P.cellsOf te=4) (he:Opn enc P W eL te (fun _ _=>True)):Opn enc P W eN t (fun _ _=>True):=by
 intro fuel cs x hx hfz
 obtain ⟨y0,y1,n,rfl,hlen,h0,h1⟩:=AP7 hs hx
 rw [hci] at h0
 rw [hcl] at h1
 rw [hct] at hlen
 obtain ⟨c0,c1,rfl⟩:∃ c0 c1,cs=[c0,c1]:=by
  match cs,hlen with
  | [c0,c1],_=>exact ⟨c0,c1,rfl⟩
 obtain ⟨b,hb',_,hw⟩:=DataW.trod_int hi h0
 simp at hb'
 subst hb'
 obtain ⟨e,l,he',hR,_⟩:=(Opn.slice (Z:=fun _ _=>True) (E:=eL) (by decide) hl hce he) n _ _ h1 hfz.right
 obtain ⟨a,c,rfl,_⟩:=RL.len hR
 simp [Value.cells] at he'
 subst he'
 exact ⟨.agg #[.int .i64 b,.slice a l.length c],⟨b,l⟩,rfl,⟨_,rfl,hR,AD3 hw⟩,trivial⟩
end
end Go.Kx
namespace Go.Proofs.YtfilidfomgfnhaaGreat
open Go Go.Kx Go.RowKit
section
variable {H:Type} {enc:TypeId×Value→H} {W:World}
theorem opnN:Opn enc Tryz.prog W eN 24 (fun _ _=>True):=opn_N (ti:=3) (tl:=22) (te:=80) (by kernel_rfl) AJ2 (by kernel_rfl) (by kernel_rfl) (by kernel_rfl) O5 (by kernel_rfl) (Au7 (ti:=3) (tj:=2) (by kernel_rfl) AJ2 AP2 (by kernel_rfl) (by kernel_rfl) (by kernel_rfl))
theorem opnH:Opn enc Tryz.prog W eI 25 (ZL fun _ _=>True):=Opn.slice (by decide) un_I (by kernel_rfl) (opn_int AJ2)
end
end Go.Proofs.YtfilidfomgfnhaaGreat

namespace Go.Proofs.YtfilidfomgfnhaaGreat
open Go Go.Kx Go.ChangeShapes Go.WideShapes Go.ChangeAt Go.RowKit
theorem Ax1 {H:Type} (d:DataW H):1≤Rows.uptoBulk d:=by
 cases d with
 | lit l=>cases l<;>simp [Rows.uptoBulk]
 | _=>simp [Rows.uptoBulk]
theorem Ax3 {H:Type} (l:List (DataW H)):l.length≤Rows.uptoBulkAll l:=by
 induction l with
 | nil=>simp
 | cons x r ih =>
  have:=Ax1 x
  simp only [Rows.uptoBulkAll,List.length_cons];omega
theorem Ax2 {H:Type} {d:DataW H} {l:List (DataW H)} (h:d∈l):Rows.uptoBulk d≤Rows.uptoBulkAll l:=by
 induction l with
 | nil=>cases h
 | cons x r ih =>
  simp only [Rows.uptoBulkAll]
  rcases List.mem_cons.1 h with rfl | h
  ·omega
  ·have:=ih h;omega
section
variable {H:Type} {enc:TypeId×Value→H} {W:World}
theorem opn_Zb {P:Program} {t tb tw te:TypeId} (hs:sh2 P t=some ((tb,0),(tw,1))) (hb:P.underlying tb=some .bool) (hcb:P.cellsOf tb=1) (hcw:P.cellsOf tw=1) (hct:P.cellsOf t=2) (hw:P.underlying tw=some (.slice te)) (hce:P.cellsOf te=1) (he:P.underlying te=some (.int .u32)) :
  Opn enc P W eZ t (fun d z=>z.w.length≤Rows.uptoBulk d):=by
 intro fuel cs x hx hfz
 obtain ⟨y0,y1,n,rfl,hl,h0,h1⟩:=AP7 hs hx
 rw [hcb] at h0
 rw [hcw] at h1
 rw [hct] at hl
 obtain ⟨c0,c1,rfl⟩:∃ c0 c1,cs=[c0,c1]:=by
  match cs,hl with
  | [c0,c1],_=>exact ⟨c0,c1,rfl⟩
 obtain ⟨b,hb',_⟩:=DataW.trod_bool hb h0
 simp at hb'
 subst hb'
 obtain ⟨e,l,he',hR,hz⟩:=(Opn.slice (Z:=fun _ _=>True) (E:=eU32) (by decide) hw hce (opn_u32 he)) n _ _ h1 hfz.right
 obtain ⟨a,c,rfl,_⟩:=RL.len hR
 simp [Value.cells] at he'
 subst he'
 refine ⟨.agg #[.bool b,.slice a l.length c],⟨b,l⟩,rfl,⟨_,rfl,hR⟩,?_⟩
 show l.length≤Rows.uptoBulk (.agg [y0.1,y1.1])
 simp only [Rows.uptoBulk,Rows.uptoBulkAll]
 rcases hz with ⟨_,rfl⟩ | ⟨el,sp,he,hl',_⟩
 ·simp
 ·have:=Ax3 el
  rw [he]
  simp only [Rows.uptoBulk]
  omega
theorem opn_Qb {P:Program} {t tz:TypeId} (hs:sh2 P t=some ((tz,0),(tz,2))) (hcz:P.cellsOf tz=2) (hct:P.cellsOf t=4) (hz:Opn enc P W eZ tz (fun d z=>z.w.length≤Rows.uptoBulk d)):Opn enc P W eQ t (fun d q=>qok (Rows.uptoBulk d) q):=by
 intro fuel cs x hx hfz
 obtain ⟨y0,y1,n,rfl,hl,h0,h1⟩:=AP7 hs hx
 rw [hcz] at h0 h1
 rw [hct] at hl
 obtain ⟨c0,c1,c2,c3,rfl⟩:∃ c0 c1 c2 c3,cs=[c0,c1,c2,c3]:=by
  match cs,hl with
  | [c0,c1,c2,c3],_=>exact ⟨c0,c1,c2,c3,rfl⟩
 obtain ⟨e,z,he,⟨s,rfl,hs⟩,hb⟩:=hz n _ _ h0 hfz.left
 obtain ⟨e',z',he',⟨s',rfl,hs'⟩,hb'⟩:=hz n _ _ h1 hfz.right
 simp [Value.cells] at he he'
 obtain ⟨rfl,rfl⟩:=he
 obtain ⟨rfl,rfl⟩:=he'
 refine ⟨_,⟨z,z'⟩,rfl,⟨s,s',rfl,hs,hs'⟩,?_⟩
 show z.w.length≤_∧z'.w.length≤_
 simp only [Rows.uptoBulk,Rows.uptoBulkAll]
 omega
theorem opnVb:Opn enc Tryz.prog W eV 32 (fun d l=>∀ q∈l,qok (Rows.uptoBulk d) q) :=
 (Opn.slice (by decide) un_V (by kernel_rfl) (opn_Qb (tz:=53) (by kernel_rfl) (by kernel_rfl) (by kernel_rfl) (opn_Zb (tb:=4) (tw:=51) (te:=60) (by kernel_rfl) AF5 (by kernel_rfl) (by kernel_rfl) (by kernel_rfl) un_W (by kernel_rfl) C6))).mono fun d l hz=>by
  intro q hq
  rcases hz with ⟨_,rfl⟩ | ⟨elems,spare,rfl,hl,hz⟩
  ·cases hq
  ·obtain ⟨i,hi⟩:=List.mem_iff_getElem?.1 hq
   have hlt:=Aj0 hi
   obtain ⟨d',hd'⟩:∃ d',elems[i]?=some d':=⟨_,List.getElem?_eq_getElem (by rw [hl];exact hlt)⟩
   have h1:=Ax2 (List.mem_iff_getElem?.2 ⟨i,hd'⟩)
   have h2:=hz i d' q hd' hi
   simp only [Rows.uptoBulk]
   exact ⟨Nat.le_trans h2.1 (by omega),Nat.le_trans h2.2 (by omega)⟩
theorem Ae4 {v:Value} {l:List QV} {b:Nat} {S:Nat→Prop} (h:eV.R S W v l) (hz:∀ q∈l,qok b q) (hb:b≤1048576):vk 1048576 l :=
 eV_vk h (fun q hq=>⟨Nat.le_trans (hz q hq).1 hb,Nat.le_trans (hz q hq).2 hb⟩) (by decide)
def sh3 (P:Program) (t:TypeId):Option (List (TypeId×Nat)) :=
 match P.underlying t with
 | some (.struct fs)=>if fs.size=3 then some (fs.toList.map fun f=>(f.type,f.offset)) else none
 | _=>none
theorem Au8 {P:Program} {t ti tj:TypeId} (hs:sh3 P t=some [(ti,0),(ti,1),(tj,2)]) (hi:P.underlying ti=some (.int .i64)) (hj:P.underlying tj=some (.int .i64)) (hci:P.cellsOf ti=1) (hcj:P.cellsOf tj=1) (hct:P.cellsOf t=3):Opn enc P W eRt t (fun _ _=>True):=by
 intro fuel cs x hx hfz
 unfold sh3 at hs
 split at hs
 ·rename_i fs hu
  split at hs
  ·rename_i hsz
   simp only [Option.some.injEq] at hs
   obtain ⟨l⟩:=fs
   match l,hsz with
   | [f0,f1,f2],_ =>
    simp only [List.map_cons,List.map_nil,List.cons.injEq,Prod.mk.injEq,and_true] at hs
    obtain ⟨⟨h0,o0⟩,⟨h1,o1⟩,h2,o2⟩:=hs
    obtain ⟨y0,y1,y2,n,rfl,hl,g0,g1,g2⟩:=Deep.trod_struct3 hu hx
    rw [h0,o0,hci] at g0
    rw [h1,o1,hci] at g1
    rw [h2,o2,hcj] at g2
    rw [hct] at hl
    obtain ⟨c0,c1,c2,rfl⟩:∃ c0 c1 c2,cs=[c0,c1,c2]:=by
     match cs,hl with
     | [c0,c1,c2],_=>exact ⟨c0,c1,c2,rfl⟩
    obtain ⟨n0,e0,_,w0⟩:=DataW.trod_int hi g0
    obtain ⟨n1,e1,_,w1⟩:=DataW.trod_int hi g1
    obtain ⟨n2,e2,_,w2⟩:=DataW.trod_int hj g2
    simp at e0 e1 e2
    subst e0 e1 e2
    exact ⟨.agg #[.int .i64 n0,.int .i64 n1,.int .i64 n2],⟨n0,n1,n2⟩,rfl,⟨rfl,AD3 w0,AD3 w1,AD3 w2⟩,trivial⟩
  ·cases hs
 ·cases hs
theorem opnRt:Opn enc Tryz.prog W eRt 59 (fun _ _=>True):=Au8 (ti:=3) (tj:=2) (by kernel_rfl) AJ2 AP2 (by kernel_rfl) (by kernel_rfl) (by kernel_rfl)
theorem opnR:Opn enc Tryz.prog W eRts 57 (fun _ _=>True):=(Opn.slice (by decide) K2 (by kernel_rfl) opnRt).mono fun _ _ _=>trivial
end
end Go.Proofs.YtfilidfomgfnhaaGreat
