/-
  Networks: linear flows, their bound, the angles of given flows frac.Max; law 17: FlowBound What is handed in, opened: networks.
-/
import Derived.Test.YteghbhdniimjbaaGreatG7
import Derived.Lib.SmallJoins
set_option linter.unusedVariables false
namespace Go.Kx
open Go Go.RowKit
section
variable {n:Nw}
def max0 (r:Rat):Rat:=if 0<r then r else 0
theorem Nw.fl_bound (ok:n.Ok) {x:Nat→Rat} (hb:n.bal x) {k:Nat} (hk:k<n.M):n.fl (n.an x) k≤sumN n.B (fun b=>max0 (x b)) ∧-n.fl (n.an x) k≤sumN n.B (fun b=>max0 (x b)):=by
 refine Nw.bound ok hk _ fun D _=>sumN_le fun b hb'=>?_
 rw [Nw.lap_an ok hb hb']
 unfold max0
 by_cases hD:D b
 ·rw [if_pos hD]
  split
  ·exact Rat.le_refl
  ·rename_i h;exact Rat.not_lt.1 h
 ·rw [if_neg hD]
  split
  ·rename_i h;exact Rat.le_of_lt h
  ·exact Rat.le_refl
end
end Go.Kx

namespace Go.Kx
open Go Go.RowKit
def maxR (a b:Rat):Rat:=if a<b then b else a
theorem max0_maxR (r:Rat):maxR r 0=max0 r:=by
 unfold maxR max0
 by_cases h:r<0
 ·rw [if_pos h,if_neg (by grind)]
 ·rw [if_neg h]
  by_cases h':0<r
  ·rw [if_pos h']
  ·rw [if_neg h'];grind
end Go.Kx
namespace Go.Proofs.YteghbhdniimjbaaGreat
open Go Go.Kx Go.RowKit
theorem cmp_pos {x y:Rat}:0<cmpR x y↔y<x:=by
 unfold cmpR
 split
 ·grind
 ·split<;>grind
theorem E_frac_Max:Ent Tryz.prog 51:=A0 Tryz.func51 (by kernel_rfl) rfl
theorem frac_Max_c {S:Nat→Prop} {w:World} {va vb:Value} {a b:QV} {L:Nat} (up:Up S w) (ha:eQ.R S w va a) (hb:eQ.R S w vb b) (hla:qok L a) (hlb:qok L b) (hL:1≤L) (hL2:L≤100000000000) :
  CR Tryz.prog 51 #[va,vb] w (eQ.at S (qc (maxR (qval a) (qval b)))):=by
 have hva:=shpA rfl ha
 have hvb:=shpA rfl hb
 refine enter Tryz.func51 rfl Tryz.ntmps51 rfl (.beg (.go rfl (.box rfl rfl fun w1 b2 n1=>.box rfl rfl fun w2 b3 n2=>.alloc rfl C6 fun w3 b4 n3=>?_)))
 obtain ⟨e1,k2,hb2,hs1⟩:=n1
 obtain ⟨e2,k3,hb3,hs2⟩:=n2
 obtain ⟨e3,k4,hb4,hs3⟩:=n3
 have x3:=(e1.trans e2).trans e3
 have k2:=k2.ext (e2.trans e3)
 have k3:=k3.ext e3
 have ha:=eQ.mono (S':=fun k=>S k∧k≠b4) (fun k _ h=>⟨h.1,by have:=h.2;omega⟩) (ER.ext eQ (ER.lt eQ ha) x3)
 have hb:=eQ.mono (S':=fun k=>S k∧k≠b4) (fun k _ h=>⟨h.1,by have:=h.2;omega⟩) (ER.ext eQ (ER.lt eQ hb) x3)
 have upT:∀ {W:World},w3.heap.size≤W.heap.size→Up (fun k=>S k∧k≠b4) W:=fun h k hk=>⟨up k (by omega),by omega⟩
 refine .go rfl (.ldA ty_Q rfl rfl k3 (eQ.csz hb) (.ldA ty_Q rfl rfl k2 (eQ.csz ha) ?_))
 rw [←hva,←hvb]
 refine .call _ rfl AZ3 rfl (AX4 (upT (Nat.le_refl _)) hb ha hlb hla hL hL2) fun v4 w4 e4 h4=>?_
 subst h4
 have hs4:=e4.size
 by_cases h:qval a<qval b
 ·refine .gtrT rfl rfl rfl (cmp_pos.2 h) (.go rfl (.ldA ty_Q rfl rfl (k3.ext e4) (eQ.csz hb) ?_))
  rw [←hvb]
  refine .call _ rfl K8 rfl (K5 (upT e4.size) (ER.ext eQ hb e4) hlb hL (by omega)) fun v5 w5 e5 h5=>?_
  have hs5:=e5.size
  refine .storeA (E:=eQ) ty_Q rfl rfl (k4.ext (e4.trans e5)) rfl rfl h5 (fun h=>h.2 rfl) fun w6 k6 u6 h6=>.goE rfl ?_
  exact .cell Tryz.results51 rfl ty_Q rfl rfl k6 h6 ⟨u6.below ((x3.trans e4).trans e5) (by omega),by unfold maxR;rw [if_pos h];exact eQ.mono (fun _ _ h=>h.1) h6⟩
 ·refine .gtrF rfl rfl rfl (by have:=fun h'=>h (cmp_pos.1 h');omega) (.go rfl (.ldA ty_Q rfl rfl (k2.ext e4) (eQ.csz ha) ?_))
  rw [←hva]
  refine .call _ rfl K8 rfl (K5 (upT e4.size) (ER.ext eQ ha e4) hla hL (by omega)) fun v5 w5 e5 h5=>?_
  have hs5:=e5.size
  refine .storeA (E:=eQ) ty_Q rfl rfl (k4.ext (e4.trans e5)) rfl rfl h5 (fun h=>h.2 rfl) fun w6 k6 u6 h6=>.goE rfl ?_
  exact .cell Tryz.results51 rfl ty_Q rfl rfl k6 h6 ⟨u6.below ((x3.trans e4).trans e5) (by omega),by unfold maxR;rw [if_neg h];exact eQ.mono (fun _ _ h=>h.1) h6⟩
set_option maxRecDepth 8000 in
theorem law17_FlowBound_c {w:World} {vn vo vx:Value} {n:NtV} {o:List Int} {x:List QV} (hn:eN.R (fun _=>True) w vn n) (ho:eI.R (fun _=>True) w vo o) (hx:eV.R (fun _=>True) w vx x):CR Tryz.prog 7 #[vn,vo,vx] w (Is (.bool true)):=by
 obtain ⟨s,rfl,hs,hb⟩:=hn
 have hn:eN.R (fun _=>True) w (.agg #[.int .i64 n.b,s]) n:=⟨s,rfl,hs,hb⟩
 obtain ⟨ax,cx,hvx,_,hxl⟩:=RL.len hx
 refine enter Tryz.func7 rfl Tryz.ntmps7 rfl (.beg (.go rfl (.box rfl rfl fun w1 b3 n1=>?_)))
 obtain ⟨e1,k3,hb3,hs1⟩:=n1
 refine .go rfl (.ldA ty_N rfl rfl k3 rfl (.go rfl (.bsl _ rfl rfl (by rw [hvx];exact bsl_M1) fun w2 b17 n2=>?_)))
 have hl:eM.R (fun _=>True) w2 (.slice (some ⟨b17,0,none⟩) 1 1) [x]:=eS_new [vx] [x] n2 upT (by rw [hvx]) rfl (by decide) (Els.snoc Els.nil (ER.ext eV hx e1))
 have x2:=e1.trans n2.1
 refine .call _ rfl E_law17_Long rfl (law17_Long_c (hn.ext x2) (ho.ext x2) hl) fun v3 w3 e3 h3=>?_
 obtain ⟨bl,rfl,hlong⟩:=h3
 have x3:=x2.trans e3
 clear hl
 cases bl with
 | true =>
  refine .go rfl (.call _ rfl E_law17_awake rfl law17_awake_c fun v4 w4 e4 h4=>?_)
  subst h4
  exact .goE rfl (.plain [_] Tryz.results7 ⟨rfl,trivial⟩ ⟨x3.trans e4,rfl⟩)
 | false =>
 refine .go rfl (.call _ rfl E_law17_awake rfl law17_awake_c fun v4 w4 e4 h4=>?_)
 subst h4
 have x4:=x3.trans e4
 have k3:=k3.ext ((n2.1.trans e3).trans e4)
 have hk:vk 4 x:=(hlong rfl x (by simp)).vk hx
 have hx20:x.length≤20:=(hlong rfl x (by simp)).1
 refine .go rfl (.ldA ty_N rfl rfl k3 rfl (.go rfl ?_))
 refine .call _ rfl Az4 rfl (Az3 upT (hn.ext x4) (ho.ext x4) (ER.ext eV hx x4) hk (by decide) (by decide)) fun v5 w5 e5 h5=>?_
 obtain ⟨vi,vb,rfl,hi,rfl⟩:=h5
 have x5:=x4.trans e5
 have k3:=k3.ext e5
 by_cases hS:sfE n o x.length=0
 rotate_left
 ·rw [show blB n o x.length=false by unfold blB;exact decide_eq_false hS]
  exact .goE rfl (.tt Tryz.results7 rfl x5)
 rw [show blB n o x.length=true by unfold blB;exact decide_eq_true hS]
 rw [if_pos hS] at hi
 obtain ⟨hO,hxb⟩:=BB4 hS
 have ok:=U6 hO
 have hB6:=ok.b6
 have hB1:=ok.b1
 have hM10:n.ls.length≤10:=ok.m
 have hnb:=ok.b
 have hki:=bl_vk ok hk
 have han:=bl_an hO (x:=x)
 have hil:(tab (nwOf n o).B ((nwOf n o).bl (rv x))).length=(nwOf n o).B:=A1 ..
 generalize hxi:tab (nwOf n o).B ((nwOf n o).bl (rv x))=xi at hi hki han hil
 refine .go rfl (.ldA ty_N rfl rfl k3 rfl (.go rfl ?_))
 refine .call _ rfl AN0 rfl (AL5 upT (hn.ext x5) (ho.ext x5) hi hki (by decide) (by decide)) fun v7 w7 e7 h7=>?_
 obtain ⟨vf,ve,rfl,hf,he⟩:=h7
 replace he:ve=.int .i64 0:=by rw [he,han]
 subst he
 rw [if_pos han] at hf
 have x7:=x5.trans e7
 have hi:=ER.ext eV hi e7
 have hkf:=fl_vk ok hki (by decide) (by decide)
 have hbal:(nwOf n o).bal (rv xi):=by rw [←hxi];exact bl_bal
 refine .go rfl (.bld _ rfl rfl Ag0 (.alloc rfl C6 fun w8 b11 n8=>?_))
 obtain ⟨e8,k11,hb11,hs8⟩:=n8
 refine .storeA (E:=eQ) (S:=fun k=>k≠b11) ty_Q rfl rfl k11 rfl rfl zq_R (fun h=>h rfl) fun w9 k11 u9 hy0=>?_
 have hs9:=u9.size
 have y9:Ext w7 w9:=u9.below e8 (by omega)
 have hiB:∀ {W:World},Ext w7 W→eV.R (fun k=>k≠b11) W vi xi:=fun e=>ER.ext eV (eV.mono (fun k _ h=>by have:=h.2;omega) (ER.lt eV hi)) e
 have hfB:∀ {W:World},Ext w7 W→eV.R (fun k=>k≠b11) W vf _:=fun e=>ER.ext eV (eV.mono (fun k _ h=>by have:=h.2;omega) (ER.lt eV hf)) e
 generalize hpp:(fun i=>sumN i fun b=>max0 (rv xi b))=ps
 have hxs:∀ b,Rsz (rv xi b) 40:=fun b=>hki.rsz (by decide) b
 have hms:∀ b,Rsz (max0 (rv xi b)) 40:=fun b=>by
  unfold max0
  split
  ·exact hxs b
  ·exact Rsz.zero (by decide)
 have hps:∀ i,i≤6→Rsz (ps i) 300:=fun i hi=>by
  rw [←hpp]
  refine (AW3 (L:=40) fun b _=>hms b).mono (by omega)
 refine .goC rfl (.cut (α:=Value×Nat) 1 [7,9,10,11] rfl (fun y=>[(12,.int .i64 (y.2:Nat))]) (fun y W=>Ext w7 W∧Blk W b11 32 y.1.cells∧eQ.R (fun k=>k≠b11) W y.1 (qc (ps (nwOf n o).B))) rfl ?_ ?_)
 rotate_left
 ·refine .lp (α:=Nat×Value) [7,9,10,11] rfl (fun y=>[(12,.int .i64 (y.1:Nat))]) (fun y W=>Ext w7 W∧y.1≤(nwOf n o).B∧Blk W b11 32 y.2.cells∧eQ.R (fun k=>k≠b11) W y.2 (qc (ps y.1))) (fun y=>(nwOf n o).B-y.1) (0,zq) (lc1 rfl) ⟨y9,Nat.zero_le _,k11,by rw [←hpp];show eQ.R _ w9 zq (qc 0);rw [U5];exact hy0⟩ ?_
  clear k11 hy0 hs9 u9
  rintro ⟨i,y⟩ W ⟨hW,hil',k11,hy⟩
  replace hW:Ext w7 W:=hW
  replace hil':i≤(nwOf n o).B:=hil'
  replace k11:Blk W b11 32 y.cells:=k11
  replace hy:eQ.R (fun k=>k≠b11) W y (qc (ps i)):=hy
  have hyv:=shpA (E:=eQ) rfl hy
  have h11:=k11.lt
  refine .go rfl (.lenR un_V rfl rfl (hiB hW) ?_)
  rw [hil]
  rcases Nat.lt_or_ge i (nwOf n o).B with hlt | hge
  rotate_left
  ·have:i=(nwOf n o).B:=by omega
   subst this
   exact .lssF rfl rfl rfl (by omega) (.goN rfl (.mk (y,(nwOf n o).B) rfl (lc1 rfl) ⟨hW,k11,hy⟩))
  have hxi':xi[i]?=some (xi.getD i q0):=A6 (by omega)
  have hpi:ps (i+1)=ps i+max0 (rv xi i):=by rw [←hpp];rfl
  have upT':∀ {W':World},W.heap.size≤W'.heap.size→Up (fun k=>k≠b11) W':=fun h k hk=>by omega
  refine .lssT rfl rfl rfl (by omega) (.goC rfl ?_)
  refine .par follows 7 [.inl y,.inl _,.inl _,.inr (Ptr eQ (fun k=>k≠b11) (xi.getD i q0)),.inr (eQ.at (fun k=>k≠b11) (xi.getD i q0)),.inl zq,.inr (eQ.at (fun k=>k≠b11) (qc (max0 (rv xi i))))] [[],[],[],[(48,1),(49,2)],[(50,3)],[],[(51,4),(52,5)]] (by kernel_rfl) ⟨
   fun w e=>((C0 ty_Q rfl (k11.ext e) (eQ.csz hy)).eq hyv.symm).ob,
   fun w e=>(v_mv rfl).ob,
   fun w e=>(v_mv rfl).ob,
   fun w e=>E5 (i:=i) un_V ty_Q rfl (hiB (hW.trans e)) rfl hxi',
   fun w e x3 hx3=>N4 ty_Q rfl hx3,
   fun w e=>(As2 _ rfl Ag0).ob,
   fun w e x4 hx4=>by
   have:=frac_Max_c (L:=40) (upT' e.size) hx4 (zq_R (w:=w)) (hki.get (by decide) i).1 (by rw [←U5];exact (Rsz.zero (by decide)).toOk) (by decide) (by decide)
   rw [At2,max0_maxR] at this
   exact (A3 _ E_frac_Max rfl this).ob (A8 _ _ _),trivial⟩ ?_
  intro W4' e4' _ _ _ _ x6 hx6
  have hadd:=T0 (L:=300) (upT' e4'.size) (ER.ext eQ hy e4') hx6 (hps i (by omega)).toOk ((hms i).mono (by decide)).toOk (by decide) (by decide)
  rw [D9,D9,←hpi] at hadd
  refine .call _ rfl T6 rfl hadd fun y4 W4 e4 hy4=>?_
  have e4:=e4'.trans e4
  have hs4:=e4.size
  refine .storeA (E:=eQ) (S:=fun k=>k≠b11) ty_Q rfl rfl (k11.ext e4) rfl (eQ.csz hy) hy4 (fun h=>h rfl) fun W5 k11 u5 hy5=>?_
  exact .go rfl (.inc rfl rfl rfl (by omega) (.goN rfl (.mk (i+1,y4) rfl (lc1 rfl) ⟨⟨u5.below (hW.trans e4) (by omega),hlt,k11,hy5⟩,by show (nwOf n o).B-(i+1)<(nwOf n o).B-i;omega⟩)))
 clear k11 hy0 hs9 u9 y9
 rintro ⟨y,i0⟩ W ⟨hW,k11,hy⟩
 replace hW:Ext w7 W:=hW
 replace k11:Blk W b11 32 y.cells:=k11
 replace hy:eQ.R (fun k=>k≠b11) W y (qc (ps (nwOf n o).B)):=hy
 have hyv:=shpA (E:=eQ) rfl hy
 refine .goC rfl (.lp (α:=Nat) [9,10,11] rfl (fun i=>[(13,.int .i64 (i:Nat))]) (fun i W'=>Ext W W'∧i≤n.ls.length) (fun i=>n.ls.length-i) 0 (lc1 rfl) ⟨Ext.refl _,Nat.zero_le _⟩ ?_)
 rintro i W' ⟨hW',hi'⟩
 refine .go rfl (.lenR un_V rfl rfl (hfB (hW.trans hW')) ?_)
 rw [A1]
 rcases Nat.lt_or_ge i n.ls.length with hlt | hge
 rotate_left
 ·refine .lssF rfl rfl rfl (by omega) (.go rfl (.eqlT rfl rfl rfl rfl (.goE rfl (.tt Tryz.results7 rfl ((x7.trans hW).trans hW')))))
 have hbd:=Nw.fl_bound ok.ok hbal (k:=i) hlt
 have hle:absR ((nwOf n o).fl ((nwOf n o).an (rv xi)) i)≤ps (nwOf n o).B:=by rw [←hpp];exact abs_le1 hbd
 have hrf:Rsz ((nwOf n o).fl ((nwOf n o).an (rv xi)) i) 1200000:=by
  have:=hkf.rsz (by decide) i
  rwa [P1,if_pos hlt] at this
 have hra:Rsz (absR ((nwOf n o).fl ((nwOf n o).an (rv xi)) i)) 1200000:=by
  unfold absR
  split
  ·exact hrf.neg
  ·exact hrf
 have hgf:(tab n.ls.length ((nwOf n o).fl ((nwOf n o).an (rv xi))))[i]?=some (qc ((nwOf n o).fl ((nwOf n o).an (rv xi)) i)):=K0 hlt
 have hcm:=cmp_le hle
 refine .lssT rfl rfl rfl (by omega) (.goC rfl ?_)
 refine .par follows 6 [.inl _,.inl _,.inr (Ptr eQ (fun k=>k≠b11) (qc ((nwOf n o).fl ((nwOf n o).an (rv xi)) i))),.inr (eQ.at (fun k=>k≠b11) (qc ((nwOf n o).fl ((nwOf n o).an (rv xi)) i))),.inr (eQ.at (fun k=>k≠b11) (qc (absR ((nwOf n o).fl ((nwOf n o).an (rv xi)) i)))),.inl y] [[],[],[(61,0),(62,1)],[(63,2)],[(64,3)],[]] (by kernel_rfl) ⟨
  fun w e=>(v_mv rfl).ob,
  fun w e=>(v_mv rfl).ob,
  fun w e=>E5 (i:=i) un_V ty_Q rfl (hfB ((hW.trans hW').trans e)) rfl hgf,
  fun w e x2 hx2=>N4 ty_Q rfl hx2,
  fun w e x3 hx3=>by
  have:=frac_Abs_c (L:=1200000) (fun k hk=>by have:=k11.lt;have:=hW'.size;have:=e.size;omega) hx3 (AC7 hrf) (by decide) (by decide)
  rw [D9] at this
  exact (A3 _ E_frac_Abs rfl this).ob (A8 _ _ _),
  fun w e=>((C0 ty_Q rfl ((k11.ext hW').ext e) (eQ.csz hy)).eq hyv.symm).ob,trivial⟩ ?_
 intro W4 e4 _ _ _ _ x4 hx4
 have hc:=AX4 (L:=1200000) (fun k hk=>by have:=k11.lt;have:=hW'.size;have:=e4.size;omega) hx4 (ER.ext eQ hy (hW'.trans e4)) hra.toOk ((hps _ hB6).mono (by decide)).toOk (by decide) (by decide)
 rw [D9,D9] at hc
 refine .call _ rfl AZ3 rfl hc fun v5 W5 e5 h5=>?_
 subst h5
 exact .gtrF rfl rfl rfl (by omega) (.go rfl (.inc rfl rfl rfl (by omega) (.goN rfl (.mk (i+1) rfl (lc1 rfl) ⟨⟨(hW'.trans e4).trans e5,hlt⟩,by show n.ls.length-(i+1)<n.ls.length-i;omega⟩))))
end Go.Proofs.YteghbhdniimjbaaGreat

namespace Go.Kx
open Go Go.RowKit Go.ChangeShapes Go.WideShapes
section
variable {H:Type} {enc:TypeId×Value→H} {P:Program} {W:World}
def sh4 (P:Program) (t:TypeId):Option (List (TypeId×Nat)) :=
 match P.underlying t with
 | some (.struct fs)=>if fs.size=4 then some (fs.toList.map fun f=>(f.type,f.offset)) else none
 | _=>none
theorem opn_int4 {t ti tj:TypeId} (hs:sh4 P t=some [(ti,0),(ti,1),(tj,2),(tj,3)]) (hi:P.underlying ti=some (.int .i64)) (hj:P.underlying tj=some (.int .i64)) (hci:P.cellsOf ti=1) (hcj:P.cellsOf tj=1) (hct:P.cellsOf t=4):Opn enc P W eL t (fun _ _=>True):=by
 intro fuel cs x hx
 unfold sh4 at hs
 split at hs
 ·rename_i fs hu
  split at hs
  ·rename_i hsz
   simp only [Option.some.injEq] at hs
   obtain ⟨l⟩:=fs
   match l,hsz with
   | [f0,f1,f2,f3],_ =>
    simp only [List.map_cons,List.map_nil,List.cons.injEq,Prod.mk.injEq,and_true] at hs
    obtain ⟨⟨h0,o0⟩,⟨h1,o1⟩,⟨h2,o2⟩,h3,o3⟩:=hs
    obtain ⟨y0,y1,y2,y3,n,rfl,hl,g0,g1,g2,g3⟩:=Joins.trod_struct4 hu hx
    rw [h0,o0,hci] at g0
    rw [h1,o1,hci] at g1
    rw [h2,o2,hcj] at g2
    rw [h3,o3,hcj] at g3
    rw [hct] at hl
    obtain ⟨c0,c1,c2,c3,rfl⟩:∃ c0 c1 c2 c3,cs=[c0,c1,c2,c3]:=by
     match cs,hl with
     | [c0,c1,c2,c3],_=>exact ⟨c0,c1,c2,c3,rfl⟩
    obtain ⟨n0,e0,_,w0⟩:=DataW.trod_int hi g0
    obtain ⟨n1,e1,_,w1⟩:=DataW.trod_int hi g1
    obtain ⟨n2,e2,_,w2⟩:=DataW.trod_int hj g2
    obtain ⟨n3,e3,_,w3⟩:=DataW.trod_int hj g3
    simp at e0 e1 e2 e3
    subst e0 e1 e2 e3
    exact ⟨.agg #[.int .i64 n0,.int .i64 n1,.int .i64 n2,.int .i64 n3],⟨n0,n1,n2,n3⟩,rfl,⟨rfl,wf_bd w0,wf_bd w1,wf_bd w2,wf_bd w3⟩,trivial⟩
  ·cases hs
 ·cases hs
theorem opn_N {t ti tl te:TypeId} (hs:sh2 P t=some ((ti,0),(tl,1))) (hi:P.underlying ti=some (.int .i64)) (hci:P.cellsOf ti=1) (hcl:P.cellsOf tl=1) (hct:P.cellsOf t=2) (hl:P.underlying tl=some (.slice te)) (hce:P.cellsOf te=4) (he:Opn enc P W eL te (fun _ _=>True)):Opn enc P W eN t (fun _ _=>True):=by
 intro fuel cs x hx
 obtain ⟨y0,y1,n,rfl,hlen,h0,h1⟩:=Ai7 hs hx
 rw [hci] at h0
 rw [hcl] at h1
 rw [hct] at hlen
 obtain ⟨c0,c1,rfl⟩:∃ c0 c1,cs=[c0,c1]:=by
  match cs,hlen with
  | [c0,c1],_=>exact ⟨c0,c1,rfl⟩
 obtain ⟨b,hb',_,hw⟩:=DataW.trod_int hi h0
 simp at hb'
 subst hb'
 obtain ⟨e,l,he',hR,_⟩:=(Opn.slice (Z:=fun _ _=>True) (E:=eL) (by decide) hl hce he) n _ _ h1
 obtain ⟨a,c,rfl,_⟩:=RL.len hR
 simp [Value.cells] at he'
 subst he'
 exact ⟨.agg #[.int .i64 b,.slice a l.length c],⟨b,l⟩,rfl,⟨_,rfl,hR,wf_bd hw⟩,trivial⟩
end
end Go.Kx
namespace Go.Proofs.YteghbhdniimjbaaGreat
open Go Go.Kx Go.RowKit
section
variable {H:Type} {enc:TypeId×Value→H} {W:World}
theorem opnN:Opn enc Tryz.prog W eN 40 (fun _ _=>True):=opn_N (ti:=3) (tl:=38) (te:=60) (by kernel_rfl) AN8 (by kernel_rfl) (by kernel_rfl) (by kernel_rfl) Y8 (by kernel_rfl) (opn_int4 (ti:=3) (tj:=2) (by kernel_rfl) AN8 Ad2 (by kernel_rfl) (by kernel_rfl) (by kernel_rfl))
theorem opnH:Opn enc Tryz.prog W eI 41 (ZL fun _ _=>True):=Opn.slice (by decide) un_I (by kernel_rfl) (opn_int AN8)
end
end Go.Proofs.YteghbhdniimjbaaGreat
