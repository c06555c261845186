/-
  law 17: FlowExamples
-/
import Derived.Test.YtfilidfomgfnhaaGreatG6
set_option linter.unusedVariables false
namespace Go.Proofs.YtfilidfomgfnhaaGreat
open Go Go.Kx Go.RowKit
theorem BA5:tyOf Tryz.prog 49=some (true,5):=by kernel_rfl
theorem un_Ce:Tryz.prog.underlying 50=some (.slice 49):=by kernel_rfl
theorem zero_Ce:zeroOf Tryz.prog 49=some (.agg #[.int .i64 0,.slice none 0 0,.slice none 0 0,.slice none 0 0,.int .i64 0]):=by kernel_rfl
theorem AU4:fldOf Tryz.prog 49 0=some 0:=by kernel_rfl
theorem Au2:fldOf Tryz.prog 49 1=some 2:=by kernel_rfl
theorem Au1:fldOf Tryz.prog 49 2=some 3:=by kernel_rfl
theorem Au0:fldOf Tryz.prog 49 3=some 4:=by kernel_rfl
theorem ty_Er:tyOf Tryz.prog 29=some (false,1):=by kernel_rfl
theorem bld_N6:bldOf Tryz.prog 24 [(0,.int .i64 6)]=some #[.int .i64 6,.slice none 0 0]:=by kernel_rfl
theorem bld_Ce {b s:Value} {a a':Option Addr} {n c n' c':Nat} {e:Int}:bldOf Tryz.prog 49 [(0,.agg #[b,s]),(1,.slice a n c),(2,.slice a' n' c'),(3,.int .i64 e)]=some #[b,s,.slice a n c,.slice a' n' c',.int .i64 e]:=by kernel_rfl
theorem bsl_Cs9 {a0 b0 c0 d0 e0 a1 b1 c1 d1 e1 a2 b2 c2 d2 e2 a3 b3 c3 d3 e3 a4 b4 c4 d4 e4 a5 b5 c5 d5 e5 a6 b6 c6 d6 e6 a7 b7 c7 d7 e7 a8 b8 c8 d8 e8:Value}:bslOf Tryz.prog 50 9 [(0,.agg #[a0,b0,c0,d0,e0]),(1,.agg #[a1,b1,c1,d1,e1]),(2,.agg #[a2,b2,c2,d2,e2]),(3,.agg #[a3,b3,c3,d3,e3]),(4,.agg #[a4,b4,c4,d4,e4]),(5,.agg #[a5,b5,c5,d5,e5]),(6,.agg #[a6,b6,c6,d6,e6]),(7,.agg #[a7,b7,c7,d7,e7]),(8,.agg #[a8,b8,c8,d8,e8])]=some (49,#[a0,b0,c0,d0,e0,a1,b1,c1,d1,e1,a2,b2,c2,d2,e2,a3,b3,c3,d3,e3,a4,b4,c4,d4,e4,a5,b5,c5,d5,e5,a6,b6,c6,d6,e6,a7,b7,c7,d7,e7,a8,b8,c8,d8,e8]):=by kernel_rfl
theorem AL6 {w:World} {σ:Env} {d:Option Tmp} {ty:TypeId} {pos:String} {af:Array Edge} {g:Option (Nat×Bool)} {x y z:Operand} {u v t:Value} {n:NtV} {o:List Int} {l:List QV} {e:Int} (hu:eN.R (fun _=>True) w u n) (hv:eI.R (fun _=>True) w v o) (ht:eV.R (fun _=>True) w t l) (hx:ev σ x=some u:=by rfl) (hy:ev σ y=some v:=by rfl) (hz:ev σ z=some t:=by rfl) :
  Gv Tryz.prog ⟨d,.build 49 #[(0,x),(1,y),(2,z),(3,.const (.int .i64 e))],ty,pos,af,g⟩ σ w fun v' w'=>Ext w w'∧Sp.ok (.inr (eC.at (fun _=>True) ⟨n,o,l,e⟩)) v' w':=by
 obtain ⟨s,rfl,hs,hb⟩:=hu
 have hv':=hv
 have ht':=ht
 obtain ⟨a1,c1,rfl,_⟩:=RL.len hv'
 obtain ⟨a2,c2,rfl,_⟩:=RL.len ht'
 refine (AW0 (ps:=[(0,x),(1,y),(2,z),(3,.const (.int .i64 e))]) [(0,.agg #[.int .i64 n.b,s]),(1,.slice a1 o.length c1),(2,.slice a2 l.length c2),(3,.int .i64 e)] (by simp only [evp,hx,hy,hz];rfl) bld_Ce).gv.mono fun v' w' ⟨e1,e2⟩=>?_
 subst e1
 subst e2
 exact ⟨Ext.refl _,fun w'' e=>ER.ext eC (show eC.R (fun _=>True) _ _ _ from ⟨s,_,_,rfl,hs,hb,hv,ht⟩) e⟩
theorem K6 {w:World} {σ:Env} {d:Option Tmp} {ty:TypeId} {pos:String} {af:Array Edge} {g:Option (Nat×Bool)} {t te:TypeId} {n:Nat} {ps:List (Nat×Operand)} (vs:List (Nat×Value)) (l:List Int) (hv:evp σ ps=some vs) (hc:bslOf Tryz.prog t n vs=some (te,(l.map iv).toArray)) (hr:∀ x∈l,-9223372036854775808≤x∧x≤9223372036854775807) (hn:l.length=n) (hm:n≤1000) :
  Gv Tryz.prog ⟨d,.buildSlice t n ps.toArray,ty,pos,af,g⟩ σ w fun v' w'=>Ext w w'∧Sp.ok (.inr (eI.at (fun _=>True) l)) v' w' :=
 (AH4 (ps:=ps) _ hv hc).mono fun v' w' ⟨b2,hv',n2⟩=>⟨n2.1,fun w'' e=>by
  rw [hv']
  exact ER.ext eI (AJ2 l n n2 upT rfl hn hr (by omega)) e⟩
theorem ob_Cs9 {w:World} {σ:Env} {d:Option Tmp} {ty:TypeId} {pos:String} {af:Array Edge} {g:Option (Nat×Bool)} {x0 x1 x2 x3 x4 x5 x6 x7 x8:Operand} {u0 u1 u2 u3 u4 u5 u6 u7 u8:Value} {c0 c1 c2 c3 c4 c5 c6 c7 c8:CsV} (h0:eC.R (fun _=>True) w u0 c0) (h1:eC.R (fun _=>True) w u1 c1) (h2:eC.R (fun _=>True) w u2 c2) (h3:eC.R (fun _=>True) w u3 c3) (h4:eC.R (fun _=>True) w u4 c4) (h5:eC.R (fun _=>True) w u5 c5) (h6:eC.R (fun _=>True) w u6 c6) (h7:eC.R (fun _=>True) w u7 c7) (h8:eC.R (fun _=>True) w u8 c8) (e0:ev σ x0=some u0:=by rfl) (e1:ev σ x1=some u1:=by rfl) (e2:ev σ x2=some u2:=by rfl) (e3:ev σ x3=some u3:=by rfl) (e4:ev σ x4=some u4:=by rfl) (e5:ev σ x5=some u5:=by rfl) (e6:ev σ x6=some u6:=by rfl) (e7:ev σ x7=some u7:=by rfl) (e8:ev σ x8=some u8:=by rfl) :
  Gv Tryz.prog ⟨d,.buildSlice 50 9 #[(0,x0),(1,x1),(2,x2),(3,x3),(4,x4),(5,x5),(6,x6),(7,x7),(8,x8)],ty,pos,af,g⟩ σ w fun v' w'=>Ext w w'∧Sp.ok (.inr (eCs.at (fun _=>True) [c0,c1,c2,c3,c4,c5,c6,c7,c8])) v' w':=by
 have k0:=h0
 obtain ⟨s0,v0,y0,rfl,_,_,_,_⟩:=k0
 have k1:=h1
 obtain ⟨s1,v1,y1,rfl,_,_,_,_⟩:=k1
 have k2:=h2
 obtain ⟨s2,v2,y2,rfl,_,_,_,_⟩:=k2
 have k3:=h3
 obtain ⟨s3,v3,y3,rfl,_,_,_,_⟩:=k3
 have k4:=h4
 obtain ⟨s4,v4,y4,rfl,_,_,_,_⟩:=k4
 have k5:=h5
 obtain ⟨s5,v5,y5,rfl,_,_,_,_⟩:=k5
 have k6:=h6
 obtain ⟨s6,v6,y6,rfl,_,_,_,_⟩:=k6
 have k7:=h7
 obtain ⟨s7,v7,y7,rfl,_,_,_,_⟩:=k7
 have k8:=h8
 obtain ⟨s8,v8,y8,rfl,_,_,_,_⟩:=k8
 refine (AH4 (ps:=[(0,x0),(1,x1),(2,x2),(3,x3),(4,x4),(5,x5),(6,x6),(7,x7),(8,x8)]) [(0,.agg #[.int .i64 c0.n.b,s0,v0,y0,.int .i64 c0.e]),(1,.agg #[.int .i64 c1.n.b,s1,v1,y1,.int .i64 c1.e]),(2,.agg #[.int .i64 c2.n.b,s2,v2,y2,.int .i64 c2.e]),(3,.agg #[.int .i64 c3.n.b,s3,v3,y3,.int .i64 c3.e]),(4,.agg #[.int .i64 c4.n.b,s4,v4,y4,.int .i64 c4.e]),(5,.agg #[.int .i64 c5.n.b,s5,v5,y5,.int .i64 c5.e]),(6,.agg #[.int .i64 c6.n.b,s6,v6,y6,.int .i64 c6.e]),(7,.agg #[.int .i64 c7.n.b,s7,v7,y7,.int .i64 c7.e]),(8,.agg #[.int .i64 c8.n.b,s8,v8,y8,.int .i64 c8.e])] (by simp [evp,e0,e1,e2,e3,e4,e5,e6,e7,e8]) bsl_Cs9).mono fun v' w' ⟨b2,hv',n2⟩=>⟨n2.1,fun w'' e=>?_⟩
 rw [hv']
 exact ER.ext eCs (Af2 (E:=eC) (hsz:=by decide) [_,_,_,_,_,_,_,_,_] [c0,c1,c2,c3,c4,c5,c6,c7,c8] n2 upT rfl rfl (by decide) (Els.snoc (Els.snoc (Els.snoc (Els.snoc (Els.snoc (Els.snoc (Els.snoc (Els.snoc (Els.snoc Els.nil h0) h1) h2) h3) h4) h5) h6) h7) h8)) e
theorem f12 {W:World} {vn vo vx:Value} (hn:eN.R (fun _=>True) W vn net3) (ho:eI.R (fun _=>True) W vo []) (hx:eV.R (fun _=>True) W vx (intsV [0,0,0,0])):CR Tryz.prog 41 #[vn,vo,vx] W (Two (eV.at (fun _=>True) []) (Is (.int .i64 5))):=by
 have:=V9 (L:=2) upT hn ho hx (H0 _ (by decide)) (by decide) (by decide)
 rw [Ai1,if_neg (by decide)] at this
 exact this
theorem f13 {W:World} {vn vo vx:Value} (hn:eN.R (fun _=>True) W vn net3) (ho:eI.R (fun _=>True) W vo []) (hx:eV.R (fun _=>True) W vx (intsV [0,0,0,0])):CR Tryz.prog 42 #[vn,vo,vx] W (Two (eV.at (fun _=>True) []) (Is (.int .i64 5))):=by
 have:=V7 (L:=2) upT hn ho hx (H0 _ (by decide)) (by decide) (by decide)
 rw [BD0,if_neg (by decide)] at this
 exact this
theorem f14 {W:World} {vn vo vx:Value} (hn:eN.R (fun _=>True) W vn net3) (ho:eI.R (fun _=>True) W vo []) (hx:eV.R (fun _=>True) W vx (intsV [0,0,0,0])):CR Tryz.prog 34 #[vn,vo,vx] W (Two (Is (.bool false)) (Is (.int .i64 5))):=by
 have:=R8 (L:=2) upT hn ho hx (H0 _ (by decide)) (by decide) (by decide)
 rw [Ai1,show ∀ i:Decidable ((5:Int)=0∧(nwOf net3 []).bal (rv (intsV [0,0,0,0]))),@decide _ i=false from fun i=>@decide_eq_false _ i fun h=>by cases h.1] at this
 exact this
theorem f15 {W:World} {vn vo vx:Value} (hn:eN.R (fun _=>True) W vn net3) (ho:eI.R (fun _=>True) W vo [0,2]) (hx:eV.R (fun _=>True) W vx (intsV [0,3,-3])):CR Tryz.prog 34 #[vn,vo,vx] W (Two (Is (.bool true)) (Is (.int .i64 0))):=by
 have:=R8 (L:=2) upT hn ho hx (H0 _ (by decide)) (by decide) (by decide)
 rw [sf3_02,show ∀ i:Decidable ((0:Int)=0∧(nwOf net3 [0,2]).bal (rv (intsV [0,3,-3]))),@decide _ i=true from fun i=>@decide_eq_true _ i ⟨rfl,bal3_02⟩] at this
 exact this
theorem f16 {W:World} {vn vo vx:Value} (hn:eN.R (fun _=>True) W vn net3) (ho:eI.R (fun _=>True) W vo [0]) (hx:eV.R (fun _=>True) W vx (intsV [50,20])):CR Tryz.prog 41 #[vn,vo,vx] W (Two (eV.at (fun _=>True) (intsV [0,4,5])) (Is (.int .i64 0))):=by
 have:=V9 (L:=2) upT hn ho hx (H0 _ (by decide)) (by decide) (by decide)
 rw [sf3_0,if_pos rfl,fa3] at this
 exact this
theorem f17 {W:World} {vn vo vx:Value} (hn:eN.R (fun _=>True) W vn net3) (ho:eI.R (fun _=>True) W vo [0]) (hx:eV.R (fun _=>True) W vx (intsV [9,4])):CR Tryz.prog 42 #[vn,vo,vx] W (Two (eV.at (fun _=>True) (intsV [0,4,-4])) (Is (.int .i64 0))):=by
 have:=V7 (L:=2) upT hn ho hx (H0 _ (by decide)) (by decide) (by decide)
 rw [no3_0,if_pos rfl,of3] at this
 exact this
theorem f18 {W:World} {vn vo vx:Value} (hn:eN.R (fun _=>True) W vn net3) (ho:eI.R (fun _=>True) W vo [2]) (hx:eV.R (fun _=>True) W vx th3):CR Tryz.prog 36 #[vn,vo,vx] W (Two (eV.at (fun _=>True) [qc (Rat.divInt 1 3),qc (Rat.divInt 1 3),q0]) (Is (.int .i64 0))):=by
 have:=S8 (L:=3) upT hn ho hx vk_th3 (by decide) (by decide)
 rw [anE_t,if_pos rfl,fl_t] at this
 exact this
set_option maxRecDepth 8000 in
theorem AD9 {w:World}:CR Tryz.prog 8 #[] w (Is (.bool true)):=by
 refine enter Tryz.func8 rfl Tryz.ntmps8 rfl (.beg (.go rfl ?_))
 refine .call _ rfl Ab0 rfl Aa2 fun v1 w1 e1 h1=>?_
 subst h1
 refine .go rfl (.call _ rfl P9 rfl P6 fun vn w2 e2 hn=>.alloc rfl Az3 fun w3 b1 n3=>?_)
 obtain ⟨e3,k1,hb1,hs3⟩:=n3
 refine .storeA (E:=eN) (S:=fun k=>k<w2.heap.size) ty_N rfl rfl k1 rfl rfl (ER.ext eN (eN.mono (fun k _ h=>h.2) (ER.lt eN hn)) e3) (fun h=>by omega) fun w4 k1 u4 hn=>.goC rfl ?_
 have hnv:=shpA (E:=eN) rfl hn
 have hn:eN.R (fun _=>True) w4 vn net3:=eN.mono (fun _ _ _=>trivial) hn
 have x4:Ext w w4:=e1.trans (u4.below (e2.trans e3) (by have:=e2.size;omega))
 refine .par follows 41 ((.inl (.agg #[.int .i64 0,.slice none 0 0]))::(.inr (eI.at (fun _=>True) [1]))::(.inr (eI.at (fun _=>True) [1,2]))::(.inr (eV.at (fun _=>True) (intsV [1,2])))::(.inr (eC.at (fun _=>True) (cases17.getD 0 ⟨netE,[],[],0⟩)))::(.inl vn)::(.inr (eI.at (fun _=>True) [3]))::(.inr (eI.at (fun _=>True) [1,2,3,4]))::(.inr (eV.at (fun _=>True) (intsV [1,2,3,4])))::(.inr (eC.at (fun _=>True) (cases17.getD 1 ⟨netE,[],[],0⟩)))::(.inl vn)::(.inr (eI.at (fun _=>True) [0,0,0,0]))::(.inr (eV.at (fun _=>True) (intsV [0,0,0,0])))::(.inr (eC.at (fun _=>True) (cases17.getD 2 ⟨netE,[],[],0⟩)))::(.inl vn)::(.inr (eI.at (fun _=>True) [1,2,3,4]))::(.inr (eV.at (fun _=>True) (intsV [1,2,3,4])))::(.inr (eC.at (fun _=>True) (cases17.getD 3 ⟨netE,[],[],0⟩)))::(.inl vn)::(.inr (eI.at (fun _=>True) [1]))::(.inr (eV.at (fun _=>True) (intsV [1])))::(.inr (eC.at (fun _=>True) (cases17.getD 4 ⟨netE,[],[],0⟩)))::(.inl vn)::(.inr (eI.at (fun _=>True) [1,-1]))::(.inr (eV.at (fun _=>True) (intsV [1,-1])))::(.inr (eC.at (fun _=>True) (cases17.getD 5 ⟨netE,[],[],0⟩)))::(.inl vn)::(.inr (eI.at (fun _=>True) [0,2]))::(.inr (eI.at (fun _=>True) [1,-1]))::(.inr (eV.at (fun _=>True) (intsV [1,-1])))::(.inr (eC.at (fun _=>True) (cases17.getD 6 ⟨netE,[],[],0⟩)))::(.inl vn)::(.inr (eI.at (fun _=>True) [0,1,2]))::(.inr (eC.at (fun _=>True) (cases17.getD 7 ⟨netE,[],[],0⟩)))::(.inl (.agg #[.int .i64 6,.slice none 0 0]))::(.inr (eI.at (fun _=>True) [0,0,0,0,0,1]))::(.inr (eV.at (fun _=>True) (intsV [0,0,0,0,0,1])))::(.inr (eC.at (fun _=>True) (cases17.getD 8 ⟨netE,[],[],0⟩)))::(.inr (eCs.at (fun _=>True) cases17))::(.inl (.int .i64 (cases17.length:Nat)))::(.inl _)::[]) ([]::[]::[]::[(27,2)]::[(25,0),(26,1),(28,3)]::[]::[]::[]::[(32,7)]::[(30,5),(31,6),(33,8)]::[]::[]::[(36,11)]::[(35,10),(37,12)]::[]::[]::[(40,15)]::[(39,14),(41,16)]::[]::[]::[(44,19)]::[(43,18),(45,20)]::[]::[]::[(48,23)]::[(47,22),(49,24)]::[]::[]::[]::[(53,28)]::[(51,26),(52,27),(54,29)]::[]::[]::[(56,31),(57,32)]::[]::[]::[(60,35)]::[(59,34),(61,36)]::[(29,4),(34,9),(38,13),(42,17),(46,21),(50,25),(55,30),(58,33),(62,37)]::[(63,38)]::[]::[]) (by kernel_rfl) ⟨
  fun w e=>(AW0 [] rfl bld_N0).ob,
  fun w e=>K6 (te:=3) (ps:=[(0,.const (.int .i64 (1)))]) [(0,.int .i64 (1))] [1] rfl (by kernel_rfl) (by decide) (by decide) (by decide),
  fun w e=>K6 (te:=2) (ps:=[(0,.const (.int .i64 (1))),(1,.const (.int .i64 (2)))]) [(0,.int .i64 (1)),(1,.int .i64 (2))] [1,2] rfl (by kernel_rfl) (by decide) (by decide) (by decide),
  fun w e x2 hx2=>(A1 _ B4 rfl (B3 hx2 (by decide))).ob (A5 _ _ _),
  fun w e x1 hx1 x3 hx3=>AL6 (n:=netE) ⟨_,rfl,RL.nil,J9.2 (by decide)⟩ hx1 hx3,
  fun w e=>((B7 ty_N rfl (k1.ext e) (eN.csz hn)).eq hnv.symm).ob,
  fun w e=>K6 (te:=3) (ps:=[(0,.const (.int .i64 (3)))]) [(0,.int .i64 (3))] [3] rfl (by kernel_rfl) (by decide) (by decide) (by decide),
  fun w e=>K6 (te:=2) (ps:=[(0,.const (.int .i64 (1))),(1,.const (.int .i64 (2))),(2,.const (.int .i64 (3))),(3,.const (.int .i64 (4)))]) [(0,.int .i64 (1)),(1,.int .i64 (2)),(2,.int .i64 (3)),(3,.int .i64 (4))] [1,2,3,4] rfl (by kernel_rfl) (by decide) (by decide) (by decide),
  fun w e x7 hx7=>(A1 _ B4 rfl (B3 hx7 (by decide))).ob (A5 _ _ _),
  fun w e x6 hx6 x8 hx8=>AL6 (hn.ext e) hx6 hx8,
  fun w e=>((B7 ty_N rfl (k1.ext e) (eN.csz hn)).eq hnv.symm).ob,
  fun w e=>K6 (te:=2) (ps:=[(0,.const (.int .i64 (0))),(1,.const (.int .i64 (0))),(2,.const (.int .i64 (0))),(3,.const (.int .i64 (0)))]) [(0,.int .i64 (0)),(1,.int .i64 (0)),(2,.int .i64 (0)),(3,.int .i64 (0))] [0,0,0,0] rfl (by kernel_rfl) (by decide) (by decide) (by decide),
  fun w e x11 hx11=>(A1 _ B4 rfl (B3 hx11 (by decide))).ob (A5 _ _ _),
  fun w e x12 hx12=>AL6 (hn.ext e) RL.nil hx12,
  fun w e=>((B7 ty_N rfl (k1.ext e) (eN.csz hn)).eq hnv.symm).ob,
  fun w e=>K6 (te:=2) (ps:=[(0,.const (.int .i64 (1))),(1,.const (.int .i64 (2))),(2,.const (.int .i64 (3))),(3,.const (.int .i64 (4)))]) [(0,.int .i64 (1)),(1,.int .i64 (2)),(2,.int .i64 (3)),(3,.int .i64 (4))] [1,2,3,4] rfl (by kernel_rfl) (by decide) (by decide) (by decide),
  fun w e x15 hx15=>(A1 _ B4 rfl (B3 hx15 (by decide))).ob (A5 _ _ _),
  fun w e x16 hx16=>AL6 (hn.ext e) RL.nil hx16,
  fun w e=>((B7 ty_N rfl (k1.ext e) (eN.csz hn)).eq hnv.symm).ob,
  fun w e=>K6 (te:=2) (ps:=[(0,.const (.int .i64 (1)))]) [(0,.int .i64 (1))] [1] rfl (by kernel_rfl) (by decide) (by decide) (by decide),
  fun w e x19 hx19=>(A1 _ B4 rfl (B3 hx19 (by decide))).ob (A5 _ _ _),
  fun w e x20 hx20=>AL6 (hn.ext e) RL.nil hx20,
  fun w e=>((B7 ty_N rfl (k1.ext e) (eN.csz hn)).eq hnv.symm).ob,
  fun w e=>K6 (te:=2) (ps:=[(0,.const (.int .i64 (1))),(1,.const (.int .i64 (-1)))]) [(0,.int .i64 (1)),(1,.int .i64 (-1))] [1,-1] rfl (by kernel_rfl) (by decide) (by decide) (by decide),
  fun w e x23 hx23=>(A1 _ B4 rfl (B3 hx23 (by decide))).ob (A5 _ _ _),
  fun w e x24 hx24=>AL6 (hn.ext e) RL.nil hx24,
  fun w e=>((B7 ty_N rfl (k1.ext e) (eN.csz hn)).eq hnv.symm).ob,
  fun w e=>K6 (te:=3) (ps:=[(0,.const (.int .i64 (0))),(1,.const (.int .i64 (2)))]) [(0,.int .i64 (0)),(1,.int .i64 (2))] [0,2] rfl (by kernel_rfl) (by decide) (by decide) (by decide),
  fun w e=>K6 (te:=2) (ps:=[(0,.const (.int .i64 (1))),(1,.const (.int .i64 (-1)))]) [(0,.int .i64 (1)),(1,.int .i64 (-1))] [1,-1] rfl (by kernel_rfl) (by decide) (by decide) (by decide),
  fun w e x28 hx28=>(A1 _ B4 rfl (B3 hx28 (by decide))).ob (A5 _ _ _),
  fun w e x27 hx27 x29 hx29=>AL6 (hn.ext e) hx27 hx29,
  fun w e=>((B7 ty_N rfl (k1.ext e) (eN.csz hn)).eq hnv.symm).ob,
  fun w e=>K6 (te:=3) (ps:=[(0,.const (.int .i64 (0))),(1,.const (.int .i64 (1))),(2,.const (.int .i64 (2)))]) [(0,.int .i64 (0)),(1,.int .i64 (1)),(2,.int .i64 (2))] [0,1,2] rfl (by kernel_rfl) (by decide) (by decide) (by decide),
  fun w e x32 hx32=>AL6 (hn.ext e) hx32 RL.nil,
  fun w e=>(AW0 [(0,.int .i64 6)] rfl bld_N6).ob,
  fun w e=>K6 (te:=2) (ps:=[(0,.const (.int .i64 (0))),(1,.const (.int .i64 (0))),(2,.const (.int .i64 (0))),(3,.const (.int .i64 (0))),(4,.const (.int .i64 (0))),(5,.const (.int .i64 (1)))]) [(0,.int .i64 (0)),(1,.int .i64 (0)),(2,.int .i64 (0)),(3,.int .i64 (0)),(4,.int .i64 (0)),(5,.int .i64 (1))] [0,0,0,0,0,1] rfl (by kernel_rfl) (by decide) (by decide) (by decide),
  fun w e x35 hx35=>(A1 _ B4 rfl (B3 hx35 (by decide))).ob (A5 _ _ _),
  fun w e x36 hx36=>AL6 (n:=net6) ⟨_,rfl,RL.nil,J9.2 (by decide)⟩ RL.nil hx36,
  fun w e x4 hx4 x9 hx9 x13 hx13 x17 hx17 x21 hx21 x25 hx25 x30 hx30 x33 hx33 x37 hx37=>ob_Cs9 hx4 hx9 hx13 hx17 hx21 hx25 hx30 hx33 hx37,
  fun w e x38 hx38=>(BA2 un_Ce rfl hx38).ob,
  fun w e=>(v_mv rfl).ob,trivial⟩ ?_
 intro w5 e5 _ _ _ _ _ _ _ _ _ _ _ _ _ _ _ _ _ _ _ _ _ _ _ _ _ _ _ _ _ _ _ _ _ _ _ _ _ _ _ _ _ _ _ _ _ _ _ _ _ _ _ _ _ _ _ _ _ _ y38 hy38
 have x5:=x4.trans e5
 have k1:=k1.ext e5
 have hn:=hn.ext e5
 refine .goC rfl ?_
 refine .lp (α:=Nat) [1,63,64] rfl (fun i=>[(65,.int .i64 (i:Nat))]) (fun i W=>Ext w5 W∧i≤cases17.length) (fun i=>cases17.length-i) 0 (lc1 rfl) ⟨Ext.refl _,Nat.zero_le _⟩ ?_
 rintro i W ⟨hW,hi⟩
 replace hW:Ext w5 W:=hW
 have zW:=hW.size
 have h9:cases17.length=9:=rfl
 refine .go rfl ?_
 rcases Nat.lt_or_ge i cases17.length with hlt | hge
 ·have hg:cases17[i]?=some (cases17.getD i ⟨netE,[],[],0⟩):=A7 hlt
  generalize cases17.getD i ⟨netE,[],[],0⟩=c at hg
  have hc:=List.mem_iff_getElem?.2 ⟨i,hg⟩
  have hce:=cs_e hc
  obtain ⟨hck,hcB,hcl⟩:=cs_k hc
  refine .lssT rfl rfl rfl (by omega) (.go rfl (.ixN (i:=i) un_Ce BA5 rfl rfl (ER.ext eCs hy38 hW) rfl hg fun q hq=>.ldE (E:=eC) BA5 rfl rfl hq fun vc hvc=>.alloc rfl zero_Ce fun W1 b3 n1'=>?_))
  obtain ⟨d1,k3,hb3,hs1⟩:=n1'
  refine .storeA (E:=eC) (S:=fun k=>k<W.heap.size) BA5 rfl rfl k3 rfl rfl (ER.ext eC (eC.mono (fun k _ h=>h.2) (ER.lt eC hvc)) d1) (fun h=>by omega) fun W2 k3 u2 hc2=>?_
  obtain ⟨s,u,y,rfl,hs,hb,ho,hx⟩:=hc2
  replace k3:Blk W2 b3 49 #[.int .i64 c.n.b,s,u,y,.int .i64 c.e]:=k3
  have hcn:eN.R (fun _=>True) W2 (.agg #[.int .i64 c.n.b,s]) c.n:=⟨s,rfl,eLs.mono (fun _ _ _=>trivial) hs,hb⟩
  have hs:eLs.R (fun _=>True) W2 s c.n.ls:=eLs.mono (fun _ _ _=>trivial) hs
  have ho:eI.R (fun _=>True) W2 u c.o:=eI.mono (fun _ _ _=>trivial) ho
  have hx:eV.R (fun _=>True) W2 y c.x:=eV.mono (fun _ _ _=>trivial) hx
  have hW2:Ext w5 W2:=u2.below (hW.trans d1) (by omega)
  have hcc:∀ j t,[Value.int .i64 c.n.b,s][j]?=some t→(#[.int .i64 c.n.b,s,u,y,.int .i64 c.e]:Array Value)[0+j]?=some t:=by
   intro j t h
   match j with
   | 0=>exact h
   | 1=>exact h
   | j+2=>simp at h
  refine .go rfl (.fa AU4 rfl rfl (.go rfl (.ldN [.int .i64 c.n.b,s] ty_N rfl rfl k3 hcc (.go rfl (.fa Au2 rfl rfl (.go rfl (.ld ty_I rfl rfl k3 rfl (.go rfl (.fa Au1 rfl rfl (.go rfl (.ld ty_V rfl rfl k3 rfl (.go rfl ?_))))))))))))
  refine .call _ rfl Z0 rfl (Y5 (L:=2) upT hcn ho hx hck (by decide) (by decide)) fun v3 W3 d3 h3=>?_
  obtain ⟨va,ve,rfl,ha,he⟩:=h3
  replace he:ve=.int .i64 c.e:=by rw [he,hce]
  subst he
  rw [hce] at ha
  have k3:=k3.ext d3
  refine .go rfl (.fa AU4 rfl rfl (.go rfl (.ldN [.int .i64 c.n.b,s] ty_N rfl rfl k3 hcc (.go rfl (.fa Au2 rfl rfl (.go rfl (.ld ty_I rfl rfl k3 rfl (.go rfl (.fa Au1 rfl rfl (.go rfl (.ld ty_V rfl rfl k3 rfl (.go rfl ?_))))))))))))
  refine .call _ rfl T4 rfl (S8 (L:=2) upT (hcn.ext d3) (ER.ext eI ho d3) (ER.ext eV hx d3) hck (by decide) (by decide)) fun v4 W4 d4 h4=>?_
  obtain ⟨vf,ve,rfl,hf,he⟩:=h4
  replace he:ve=.int .i64 c.e:=by rw [he,hce]
  subst he
  rw [hce] at hf
  have k3:=k3.ext d4
  have ha:=ER.ext eV ha d4
  have hs4:=eLs.ext (eLs.ext hs d3) d4
  have hW4:Ext w5 W4:=(hW2.trans d3).trans d4
  refine .go rfl (.fa Au0 rfl rfl (.go rfl (.ld ty_Er rfl rfl k3 rfl (.go rfl (.neqF rfl rfl rfl rfl (.go rfl (.fa Au0 rfl rfl (.go rfl (.ld ty_Er rfl rfl k3 rfl (.go rfl (.neqF rfl rfl rfl rfl (.go rfl ?_))))))))))))
  by_cases he:c.e=0
  ·rw [if_pos he] at ha hf
   refine .neqF rfl rfl rfl he (.go rfl (.eqlT rfl rfl rfl he (.go rfl (.lenR un_V rfl rfl ha (.go rfl (.fa AU4 rfl rfl (.go rfl (.fa K8 rfl rfl (.go rfl (.ld A8 rfl rfl k3 rfl (.go rfl (.neqF rfl rfl rfl (by rw [A2];exact hcB he) (.go rfl (.lenR un_V rfl rfl hf (.go rfl (.fa AU4 rfl rfl (.go rfl (.fa R9 rfl rfl (.go rfl (.ld AC6 rfl rfl k3 rfl (.go rfl (.lenR Z6 rfl rfl hs4 (.go rfl (.neqF rfl rfl rfl (by rw [A2]) (.go rfl ?_)))))))))))))))))))))))))
   exact .inc rfl rfl rfl (by omega) (.goN rfl (.mk (i+1) rfl (lc1 rfl) ⟨⟨hW4,hlt⟩,by show cases17.length-(i+1)<cases17.length-i;omega⟩))
  ·rw [if_neg he] at ha hf
   refine .neqT rfl rfl rfl he (.go rfl (.lenR un_V rfl rfl ha (.go rfl (.lenR un_V rfl rfl hf (.go rfl (.add rfl rfl rfl (.go rfl (.neqF rfl rfl rfl (by decide) (.go rfl (.eqlF rfl rfl rfl he (.go rfl ?_)))))))))))
   exact .inc rfl rfl rfl (by omega) (.goN rfl (.mk (i+1) rfl (lc1 rfl) ⟨⟨hW4,hlt⟩,by show cases17.length-(i+1)<cases17.length-i;omega⟩))
 refine .lssF rfl rfl rfl (by omega) (.goC rfl ?_)
 have k1:=k1.ext hW
 have hn:=hn.ext hW
 have x5:=x5.trans hW
 refine .par follows 8 [.inl vn,.inr (eI.at (fun _=>True) [0,0,0,0]),.inr (eV.at (fun _=>True) (intsV [0,0,0,0])),.inr (Two (eV.at (fun _=>True) []) (Is (.int .i64 5))),.inr (Two (eV.at (fun _=>True) []) (Is (.int .i64 5))),.inr (eV.at (fun _=>True) []),.inl (.int .i64 5),.inr (eV.at (fun _=>True) [])] [[],[],[(135,1)],[(134,0),(136,2)],[(137,3)],[(133,4)],[(133,4)],[(138,5)]] (by kernel_rfl) ⟨
  fun w e=>((B7 ty_N rfl (k1.ext e) (eN.csz hn)).eq hnv.symm).ob,
  fun w e=>K6 (te:=2) (ps:=[(0,.const (.int .i64 (0))),(1,.const (.int .i64 (0))),(2,.const (.int .i64 (0))),(3,.const (.int .i64 (0)))]) [(0,.int .i64 (0)),(1,.int .i64 (0)),(2,.int .i64 (0)),(3,.int .i64 (0))] [0,0,0,0] rfl (by kernel_rfl) (by decide) (by decide) (by decide),
  fun w e x1 hx1=>(A1 _ B4 rfl (B3 hx1 (by decide))).ob (A5 _ _ _),
  fun w e x2 hx2=>(A1 _ N8 rfl (f12 (hn.ext e) RL.nil hx2)).ob (H4 (A5 _ _ _) (I8 _)),
  fun w e x3 hx3=>H1 (v_mv rfl) hx3 (H4 (A5 _ _ _) (I8 _)),
  fun w e x4 hx4=>by
   obtain ⟨p1,q1,rfl,hp1,hq1⟩:=hx4
   exact H1 (v_ex rfl rfl) hp1 (A5 _ _ _),
  fun w e x4 hx4=>by
   obtain ⟨p1,q1,rfl,hp1,hq1⟩:=hx4
   exact ((v_ex rfl rfl).eq hq1).ob,
  fun w e x5 hx5=>H1 (v_as rfl) hx5 (A5 _ _ _),trivial⟩ ?_
 intro P12 p12 y1 hy1 y2 hy2 y3 hy3 y4 hy4 y5 hy5 h120 h12
 have k1:=k1.ext p12
 have hn:=hn.ext p12
 have x5:=x5.trans p12
 refine .goC rfl ?_
 refine .par follows 8 [.inl vn,.inr (eI.at (fun _=>True) [0,0,0,0]),.inr (eV.at (fun _=>True) (intsV [0,0,0,0])),.inr (Two (eV.at (fun _=>True) []) (Is (.int .i64 5))),.inr (Two (eV.at (fun _=>True) []) (Is (.int .i64 5))),.inr (eV.at (fun _=>True) []),.inl (.int .i64 5),.inr (eV.at (fun _=>True) [])] [[],[],[(142,1)],[(141,0),(143,2)],[(144,3)],[(140,4)],[(140,4)],[(145,5)]] (by kernel_rfl) ⟨
  fun w e=>((B7 ty_N rfl (k1.ext e) (eN.csz hn)).eq hnv.symm).ob,
  fun w e=>K6 (te:=2) (ps:=[(0,.const (.int .i64 (0))),(1,.const (.int .i64 (0))),(2,.const (.int .i64 (0))),(3,.const (.int .i64 (0)))]) [(0,.int .i64 (0)),(1,.int .i64 (0)),(2,.int .i64 (0)),(3,.int .i64 (0))] [0,0,0,0] rfl (by kernel_rfl) (by decide) (by decide) (by decide),
  fun w e x1 hx1=>(A1 _ B4 rfl (B3 hx1 (by decide))).ob (A5 _ _ _),
  fun w e x2 hx2=>(A1 _ X7 rfl (f13 (hn.ext e) RL.nil hx2)).ob (H4 (A5 _ _ _) (I8 _)),
  fun w e x3 hx3=>H1 (v_mv rfl) hx3 (H4 (A5 _ _ _) (I8 _)),
  fun w e x4 hx4=>by
   obtain ⟨p1,q1,rfl,hp1,hq1⟩:=hx4
   exact H1 (v_ex rfl rfl) hp1 (A5 _ _ _),
  fun w e x4 hx4=>by
   obtain ⟨p1,q1,rfl,hp1,hq1⟩:=hx4
   exact ((v_ex rfl rfl).eq hq1).ob,
  fun w e x5 hx5=>H1 (v_as rfl) hx5 (A5 _ _ _),trivial⟩ ?_
 intro P13 p13 y1 hy1 y2 hy2 y3 hy3 y4 hy4 y5 hy5 h130 h13
 have k1:=k1.ext p13
 have hn:=hn.ext p13
 have x5:=x5.trans p13
 refine .goC rfl ?_
 refine .par follows 8 [.inl vn,.inr (eI.at (fun _=>True) [0,0,0,0]),.inr (eV.at (fun _=>True) (intsV [0,0,0,0])),.inr (Two (Is (.bool false)) (Is (.int .i64 5))),.inr (Two (Is (.bool false)) (Is (.int .i64 5))),.inl (.bool false),.inl (.int .i64 5),.inl (.bool false)] [[],[],[(149,1)],[(148,0),(150,2)],[(151,3)],[(147,4)],[(147,4)],[(152,5)]] (by kernel_rfl) ⟨
  fun w e=>((B7 ty_N rfl (k1.ext e) (eN.csz hn)).eq hnv.symm).ob,
  fun w e=>K6 (te:=2) (ps:=[(0,.const (.int .i64 (0))),(1,.const (.int .i64 (0))),(2,.const (.int .i64 (0))),(3,.const (.int .i64 (0)))]) [(0,.int .i64 (0)),(1,.int .i64 (0)),(2,.int .i64 (0)),(3,.int .i64 (0))] [0,0,0,0] rfl (by kernel_rfl) (by decide) (by decide) (by decide),
  fun w e x1 hx1=>(A1 _ B4 rfl (B3 hx1 (by decide))).ob (A5 _ _ _),
  fun w e x2 hx2=>(A1 _ S1 rfl (f14 (hn.ext e) RL.nil hx2)).ob (H4 (I8 _) (I8 _)),
  fun w e x3 hx3=>H1 (v_mv rfl) hx3 (H4 (I8 _) (I8 _)),
  fun w e x4 hx4=>by
   obtain ⟨p1,q1,rfl,hp1,hq1⟩:=hx4
   exact ((v_ex rfl rfl).eq hp1).ob,
  fun w e x4 hx4=>by
   obtain ⟨p1,q1,rfl,hp1,hq1⟩:=hx4
   exact ((v_ex rfl rfl).eq hq1).ob,
  fun w e=>(v_as rfl).ob,trivial⟩ ?_
 intro P14 p14 y1 hy1 y2 hy2 y3 hy3 y4 hy4
 have k1:=k1.ext p14
 have hn:=hn.ext p14
 have x5:=x5.trans p14
 refine .goC rfl ?_
 refine .par follows 9 [.inl vn,.inr (eI.at (fun _=>True) [0,2]),.inr (eI.at (fun _=>True) [0,3,-3]),.inr (eV.at (fun _=>True) (intsV [0,3,-3])),.inr (Two (Is (.bool true)) (Is (.int .i64 0))),.inr (Two (Is (.bool true)) (Is (.int .i64 0))),.inl (.bool true),.inl (.int .i64 0),.inl (.bool true)] [[],[],[],[(157,2)],[(155,0),(156,1),(158,3)],[(159,4)],[(154,5)],[(154,5)],[(160,6)]] (by kernel_rfl) ⟨
  fun w e=>((B7 ty_N rfl (k1.ext e) (eN.csz hn)).eq hnv.symm).ob,
  fun w e=>K6 (te:=3) (ps:=[(0,.const (.int .i64 (0))),(1,.const (.int .i64 (2)))]) [(0,.int .i64 (0)),(1,.int .i64 (2))] [0,2] rfl (by kernel_rfl) (by decide) (by decide) (by decide),
  fun w e=>K6 (te:=2) (ps:=[(0,.const (.int .i64 (0))),(1,.const (.int .i64 (3))),(2,.const (.int .i64 (-3)))]) [(0,.int .i64 (0)),(1,.int .i64 (3)),(2,.int .i64 (-3))] [0,3,-3] rfl (by kernel_rfl) (by decide) (by decide) (by decide),
  fun w e x2 hx2=>(A1 _ B4 rfl (B3 hx2 (by decide))).ob (A5 _ _ _),
  fun w e x1 hx1 x3 hx3=>(A1 _ S1 rfl (f15 (hn.ext e) hx1 hx3)).ob (H4 (I8 _) (I8 _)),
  fun w e x4 hx4=>H1 (v_mv rfl) hx4 (H4 (I8 _) (I8 _)),
  fun w e x5 hx5=>by
   obtain ⟨p1,q1,rfl,hp1,hq1⟩:=hx5
   exact ((v_ex rfl rfl).eq hp1).ob,
  fun w e x5 hx5=>by
   obtain ⟨p1,q1,rfl,hp1,hq1⟩:=hx5
   exact ((v_ex rfl rfl).eq hq1).ob,
  fun w e=>(v_as rfl).ob,trivial⟩ ?_
 intro P15 p15 y1 hy1 y2 hy2 y3 hy3 y4 hy4 y5 hy5
 have k1:=k1.ext p15
 have hn:=hn.ext p15
 have x5:=x5.trans p15
 refine .goC rfl ?_
 refine .par follows 9 [.inl vn,.inr (eI.at (fun _=>True) [0]),.inr (eI.at (fun _=>True) [50,20]),.inr (eV.at (fun _=>True) (intsV [50,20])),.inr (Two (eV.at (fun _=>True) (intsV [0,4,5])) (Is (.int .i64 0))),.inr (Two (eV.at (fun _=>True) (intsV [0,4,5])) (Is (.int .i64 0))),.inr (eV.at (fun _=>True) (intsV [0,4,5])),.inl (.int .i64 0),.inr (eV.at (fun _=>True) (intsV [0,4,5]))] [[],[],[],[(165,2)],[(163,0),(164,1),(166,3)],[(167,4)],[(162,5)],[(162,5)],[(168,6)]] (by kernel_rfl) ⟨
  fun w e=>((B7 ty_N rfl (k1.ext e) (eN.csz hn)).eq hnv.symm).ob,
  fun w e=>K6 (te:=3) (ps:=[(0,.const (.int .i64 (0)))]) [(0,.int .i64 (0))] [0] rfl (by kernel_rfl) (by decide) (by decide) (by decide),
  fun w e=>K6 (te:=2) (ps:=[(0,.const (.int .i64 (50))),(1,.const (.int .i64 (20)))]) [(0,.int .i64 (50)),(1,.int .i64 (20))] [50,20] rfl (by kernel_rfl) (by decide) (by decide) (by decide),
  fun w e x2 hx2=>(A1 _ B4 rfl (B3 hx2 (by decide))).ob (A5 _ _ _),
  fun w e x1 hx1 x3 hx3=>(A1 _ N8 rfl (f16 (hn.ext e) hx1 hx3)).ob (H4 (A5 _ _ _) (I8 _)),
  fun w e x4 hx4=>H1 (v_mv rfl) hx4 (H4 (A5 _ _ _) (I8 _)),
  fun w e x5 hx5=>by
   obtain ⟨p1,q1,rfl,hp1,hq1⟩:=hx5
   exact H1 (v_ex rfl rfl) hp1 (A5 _ _ _),
  fun w e x5 hx5=>by
   obtain ⟨p1,q1,rfl,hp1,hq1⟩:=hx5
   exact ((v_ex rfl rfl).eq hq1).ob,
  fun w e x6 hx6=>H1 (v_as rfl) hx6 (A5 _ _ _),trivial⟩ ?_
 intro P16 p16 y1 hy1 y2 hy2 y3 hy3 y4 hy4 y5 hy5 y6 hy6 h160 h16
 have k1:=k1.ext p16
 have hn:=hn.ext p16
 have x5:=x5.trans p16
 refine .goC rfl ?_
 refine .par follows 9 [.inl vn,.inr (eI.at (fun _=>True) [0]),.inr (eI.at (fun _=>True) [9,4]),.inr (eV.at (fun _=>True) (intsV [9,4])),.inr (Two (eV.at (fun _=>True) (intsV [0,4,-4])) (Is (.int .i64 0))),.inr (Two (eV.at (fun _=>True) (intsV [0,4,-4])) (Is (.int .i64 0))),.inr (eV.at (fun _=>True) (intsV [0,4,-4])),.inl (.int .i64 0),.inr (eV.at (fun _=>True) (intsV [0,4,-4]))] [[],[],[],[(173,2)],[(171,0),(172,1),(174,3)],[(175,4)],[(170,5)],[(170,5)],[(176,6)]] (by kernel_rfl) ⟨
  fun w e=>((B7 ty_N rfl (k1.ext e) (eN.csz hn)).eq hnv.symm).ob,
  fun w e=>K6 (te:=3) (ps:=[(0,.const (.int .i64 (0)))]) [(0,.int .i64 (0))] [0] rfl (by kernel_rfl) (by decide) (by decide) (by decide),
  fun w e=>K6 (te:=2) (ps:=[(0,.const (.int .i64 (9))),(1,.const (.int .i64 (4)))]) [(0,.int .i64 (9)),(1,.int .i64 (4))] [9,4] rfl (by kernel_rfl) (by decide) (by decide) (by decide),
  fun w e x2 hx2=>(A1 _ B4 rfl (B3 hx2 (by decide))).ob (A5 _ _ _),
  fun w e x1 hx1 x3 hx3=>(A1 _ X7 rfl (f17 (hn.ext e) hx1 hx3)).ob (H4 (A5 _ _ _) (I8 _)),
  fun w e x4 hx4=>H1 (v_mv rfl) hx4 (H4 (A5 _ _ _) (I8 _)),
  fun w e x5 hx5=>by
   obtain ⟨p1,q1,rfl,hp1,hq1⟩:=hx5
   exact H1 (v_ex rfl rfl) hp1 (A5 _ _ _),
  fun w e x5 hx5=>by
   obtain ⟨p1,q1,rfl,hp1,hq1⟩:=hx5
   exact ((v_ex rfl rfl).eq hq1).ob,
  fun w e x6 hx6=>H1 (v_as rfl) hx6 (A5 _ _ _),trivial⟩ ?_
 intro P17 p17 y1 hy1 y2 hy2 y3 hy3 y4 hy4 y5 hy5 y6 hy6 h170 h17
 have k1:=k1.ext p17
 have hn:=hn.ext p17
 have x5:=x5.trans p17
 refine .goC rfl ?_
 refine .par follows 11 [.inl vn,.inr (eI.at (fun _=>True) [2]),.inr (eQ.at (fun _=>True) (qc (Rat.divInt (1) 3))),.inl zq,.inr (eQ.at (fun _=>True) (qc (Rat.divInt (-1) 3))),.inr (eV.at (fun _=>True) th3),.inr (Two (eV.at (fun _=>True) [qc (Rat.divInt 1 3),qc (Rat.divInt 1 3),q0]) (Is (.int .i64 0))),.inr (Two (eV.at (fun _=>True) [qc (Rat.divInt 1 3),qc (Rat.divInt 1 3),q0]) (Is (.int .i64 0))),.inr (eV.at (fun _=>True) [qc (Rat.divInt 1 3),qc (Rat.divInt 1 3),q0]),.inl (.int .i64 0),.inr (eV.at (fun _=>True) [qc (Rat.divInt 1 3),qc (Rat.divInt 1 3),q0])] [[],[],[],[],[],[(181,2),(182,3),(183,4)],[(179,0),(180,1),(184,5)],[(185,6)],[(178,7)],[(178,7)],[(186,8)]] (by kernel_rfl) ⟨
  fun w e=>((B7 ty_N rfl (k1.ext e) (eN.csz hn)).eq hnv.symm).ob,
  fun w e=>K6 (te:=3) (ps:=[(0,.const (.int .i64 (2)))]) [(0,.int .i64 (2))] [2] rfl (by kernel_rfl) (by decide) (by decide) (by decide),
  fun w e=>(A1 _ P0 rfl (O4 (S:=fun _=>True) upT (by decide) (by decide))).ob (A5 _ _ _),
  fun w e=>(AW0 [] rfl AY9).ob,
  fun w e=>(A1 _ P0 rfl (O4 (S:=fun _=>True) upT (by decide) (by decide))).ob (A5 _ _ _),
  fun w e x2 hx2 x4 hx4=>BC9 hx2 zq_R hx4,
  fun w e x1 hx1 x5 hx5=>(A1 _ T4 rfl (f18 (hn.ext e) hx1 hx5)).ob (H4 (A5 _ _ _) (I8 _)),
  fun w e x6 hx6=>H1 (v_mv rfl) hx6 (H4 (A5 _ _ _) (I8 _)),
  fun w e x7 hx7=>by
   obtain ⟨p1,q1,rfl,hp1,hq1⟩:=hx7
   exact H1 (v_ex rfl rfl) hp1 (A5 _ _ _),
  fun w e x7 hx7=>by
   obtain ⟨p1,q1,rfl,hp1,hq1⟩:=hx7
   exact ((v_ex rfl rfl).eq hq1).ob,
  fun w e x8 hx8=>H1 (v_as rfl) hx8 (A5 _ _ _),trivial⟩ ?_
 intro P18 p18 y1 hy1 y2 hy2 y4 hy4 y5 hy5 y6 hy6 y7 hy7 y8 hy8 h180 h18
 have k1:=k1.ext p18
 have hn:=hn.ext p18
 have x5:=x5.trans p18
 refine .go rfl ?_
 have h16:=ER.ext eV h16 (p17.trans p18)
 have h17:=ER.ext eV h17 p18
 refine .eqlT rfl rfl rfl rfl (.go rfl (.eqlT rfl rfl rfl rfl (.go rfl (.eqlT rfl rfl rfl rfl (.go rfl (.eqlT rfl rfl rfl rfl (.go rfl (.eqlT rfl rfl rfl rfl (.go rfl ?_)))))))))
 refine .bsl _ rfl rfl AP5 fun W1 c1 n1=>?_
 refine .go rfl (.call _ rfl B4 rfl (B3 (AJ2 [0,4,5] 3 n1 upT rfl rfl (by decide) (by decide)) (by decide)) fun u2 W2 d2 g2=>?_)
 refine .go rfl (.call _ rfl U5 rfl (Aj7 (ER.ext eV h16 (n1.1.trans d2)) g2 rfl) fun u3 W3 d3 g3=>?_)
 subst g3
 refine .go rfl (.eqlT rfl rfl rfl rfl (.go rfl ?_))
 refine .bsl _ rfl rfl AP5 fun W4 c4 n4=>?_
 refine .go rfl (.call _ rfl B4 rfl (B3 (AJ2 [0,4,-4] 3 n4 upT rfl rfl (by decide) (by decide)) (by decide)) fun u5 W5 d5 g5=>?_)
 refine .go rfl (.call _ rfl U5 rfl (Aj7 (ER.ext eV h17 ((((n1.1.trans d2).trans d3).trans n4.1).trans d5)) g5 rfl) fun u6 W6 d6 g6=>?_)
 subst g6
 have y6:=((((n1.1.trans d2).trans d3).trans n4.1).trans d5).trans d6
 refine .go rfl (.eqlT rfl rfl rfl rfl (.go rfl ?_))
 refine .call _ rfl P0 rfl (O4 (S:=fun _=>True) upT (by decide) (by decide)) fun u7 W7 d7 g7=>.go rfl ?_
 refine .call _ rfl P0 rfl (O4 (S:=fun _=>True) upT (by decide) (by decide)) fun u8 W8 d8 g8=>.go rfl ?_
 refine .bld _ rfl rfl AY9 (.go rfl ?_)
 refine .gv rfl rfl (BC9 (ER.ext eQ g7 d8) g8 zq_R) ?_
 rintro v9 W9 ⟨d9,g9⟩
 replace g9:eV.R (fun _=>True) W9 v9 _:=g9 W9 (Ext.refl _)
 refine .go rfl (.call _ rfl U5 rfl (Aj7 (ER.ext eV h18 (((y6.trans d7).trans d8).trans d9)) g9 rfl) fun u10 W10 d10 g10=>?_)
 subst g10
 exact .goE rfl (.plain [_] Tryz.results8 ⟨rfl,trivial⟩ ⟨((((x5.trans y6).trans d7).trans d8).trans d9).trans d10,rfl⟩)
end Go.Proofs.YtfilidfomgfnhaaGreat
