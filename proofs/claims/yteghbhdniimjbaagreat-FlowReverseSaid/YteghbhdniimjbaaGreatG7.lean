/-
  law 18: Long, three, fifths, told, awake law 17: Long, three, ints, awake Elements that the call changes in place, in a row with room behind it. Rows of rows that grow: slices as they are, in a row of the call's own. Package island: Members law 17: Balance law 17: common facts of the laws append(l, s...): the elements of another slice. Networks: lines scaled or turned round; lines of the call's own, changed in place law 14 and law 17: Long bounds the lines Answers of the call's own: FromAngles, Flows; slices.Clone of lines; net.Reverse law 17: FlowReverse What is handed in, opened: networks.
-/
import Derived.Test.YteghbhdniimjbaaGreatG6
import Derived.Lib.SmallJoins
set_option linter.unusedVariables false
namespace Go.Kx
open Go Go.RowKit
/-- angles are known by the equations -/
theorem Nw.th_cand {n:Nw} (ok:n.Ok) (hB:1≤n.B) (cand:Nat→Nat→Rat) (h:∀ b,b<n.B→∀ i,i<n.B→(if n.root i=i then cand b i else n.lap (cand b) i)=dl i b) {b c:Nat} (hb:b<n.B) (hc:c<n.B):n.th b c=cand b c :=
 Nw.uniq ok (fun i hi=>by
  have h1:=Go.Proofs.YteghbhdniimjbaaGreat.th_eq ok hB hb hi
  have h2:=h b hb i hi
  split
  ·rw [if_pos (by assumption)] at h1 h2;rw [h1,h2]
  ·rw [if_neg (by assumption)] at h1 h2;rw [h1,h2]) c hc
theorem Nw.hf_cand {n:Nw} (ok:n.Ok) (hB:1≤n.B) (cand:Nat→Nat→Rat) (h:∀ b,b<n.B→∀ i,i<n.B→(if n.root i=i then cand b i else n.lap (cand b) i)=dl i b) {k b:Nat} (hk:k<n.M) (hb:b<n.B):n.hf k b=n.fl (cand b) k:=by
 unfold Nw.hf Nw.fl
 rw [Nw.th_cand ok hB cand h hb (ok.f k hk),Nw.th_cand ok hB cand h hb (ok.t k hk)]
def net3:NtV:=⟨3,[⟨0,1,10,100⟩,⟨1,2,5,50⟩,⟨0,2,10,70⟩]⟩
def cand3 (b c:Nat):Rat:=if b=0 then 1 else if c=0 then 0 else if b=c then 6 else 4
def outsB (m:Nat) (o:List Int):Bool:=(List.range o.length).all fun i=>decide (0≤o.getD i 0) && decide (o.getD i 0<m) && (decide (i=0) || decide (o.getD (i-1) 0<o.getD i 0))
theorem BE6 {n:NtV} {o:List Int} (h:outsB n.ls.length o=true):outsOk n o:=by
 unfold outsB at h
 rw [List.all_eq_true] at h
 intro i hi
 have:=h i (List.mem_range.2 hi)
 simp only [Bool.and_eq_true,Bool.or_eq_true,decide_eq_true_eq] at this
 exact ⟨this.1.1,this.1.2,fun h0=>by rcases this.2 with h | h;omega;exact h⟩
def chkB (n:NtV):Bool:=decide (1≤n.b) && decide (n.b≤6) && decide (n.ls.length≤10) && n.ls.all fun l=>(List.range 5).all fun i=>ck i n.b l
theorem outE_of {n:NtV} {o:List Int} (h:chkB n=true) (ho:outsB n.ls.length o=true):outE n o=0:=by
 unfold chkB at h
 simp only [Bool.and_eq_true,decide_eq_true_eq,List.all_eq_true] at h
 obtain ⟨⟨⟨h1,h2⟩,h3⟩,h4⟩:=h
 have hc:chkE n=0:=by
  unfold chkE
  rw [if_neg (by omega),if_neg (by omega),if_pos]
  exact fun i _ l hl j hj=>h4 l (List.mem_iff_getElem?.2 ⟨i,hl⟩) j (List.mem_range.2 hj)
 unfold outE
 rw [if_neg (by simpa using hc),if_pos (BE6 ho)]
end Go.Kx
namespace Go.Proofs.YteghbhdniimjbaaGreat
open Go Go.Kx Go.RowKit
theorem un_II:Tryz.prog.underlying 132=some (.slice 41):=by kernel_rfl
theorem Ah9:Ent Tryz.prog 105:=A0 Tryz.func105 (by kernel_rfl) rfl
theorem Af8 {S:Nat→Prop} {w:World} {vn vl:Value} {n:NtV} {l:List (List Int)} (hn:eN.R S w vn n) (hl:eII.R S w vl l):CR Tryz.prog 105 #[vn,vl] w (fun v _=>∃ b,v=.bool b):=by
 obtain ⟨s,rfl,hs,_⟩:=hn
 obtain ⟨_,_,_,_,hll⟩:=RL.len hl
 refine enter Tryz.func105 rfl Tryz.ntmps105 rfl ?_
 refine .seq (.region (.box rfl rfl fun w1 b2 n1=>.asg rfl rfl (.nil (.seq (.seq (.region (.asg rfl rfl (.nil ?_))))))))
 obtain ⟨e1,k2,_,_⟩:=n1
 have hl:=hl.ext e1
 refine .block (.loop (α:=Nat) (fun i=>[(1,vl),(2,.pointer (some ⟨b2,0,none⟩)),(5,.int .i64 (i:Nat))]) (fun i W=>W=w1∧i≤l.length) (fun i=>l.length-i) 0 ?_ ?_ ?_)
 ·exact lkA rfl
 ·exact ⟨rfl,Nat.zero_le _⟩
 rintro i W ⟨rfl,hi⟩
 refine .seq (.seq (.region (.mv rfl rfl (.mv rfl rfl (.lenR un_II rfl rfl hl ?_)))))
 rcases Nat.lt_or_ge i l.length with hlt | hge
 rotate_left
 ·refine .lssF rfl rfl rfl (by omega) (.nil (.condF rfl (.exit (.seq (.region (.fa I5 rfl rfl (.ld M8 rfl rfl k2 rfl (.lenR L0 rfl rfl (hs.ext e1) (.gtr rfl rfl rfl (.asg rfl rfl (.nil (.ret ?_))))))))))))
  exact .plain [_] Tryz.results105 ⟨rfl,trivial⟩ ⟨e1,_,rfl⟩
 refine .lssT rfl rfl rfl (by omega) (.nil (.condT rfl (.skip (.seq (.block (.seq (.region (.mv rfl rfl (.mv rfl rfl (.ixN (i:=i) un_II ty_I rfl rfl hl rfl (List.getElem?_eq_getElem hlt) fun q hq=>.ldE (E:=eI) ty_I rfl rfl hq fun v hv=>.lenR un_I rfl rfl hv ?_))))))))))
 by_cases h:100<l[i].length
 ·refine .gtrT rfl rfl rfl (by omega) (.nil (.condT rfl (.seq (.region (.asg rfl rfl (.nil (.ret ?_)))))))
  exact .plain [_] Tryz.results105 ⟨rfl,trivial⟩ ⟨e1,_,rfl⟩
 ·refine .gtrF rfl rfl rfl (by omega) (.nil (.condF rfl (.skip (.region (.mv rfl rfl (.add rfl rfl rfl (.asg rfl rfl (.nil ?_))))))))
  rw [wI (by omega)]
  exact ⟨rfl,i+1,lkA rfl,⟨rfl,hlt⟩,by show l.length-(i+1)<l.length-i;omega⟩
theorem Ae2:zeroOf Tryz.prog 40=some (.agg #[.int .i64 0,.slice none 0 0]):=by kernel_rfl
theorem Ah0 {a b c d:Int}:bldOf Tryz.prog 60 [(0,.int .i64 a),(1,.int .i64 b),(2,.int .i64 c),(3,.int .i64 d)]=some #[.int .i64 a,.int .i64 b,.int .i64 c,.int .i64 d]:=by kernel_rfl
theorem bsl_Ls3 {a b c d a' b' c' d' a2 b2 c2 d2:Value}:bslOf Tryz.prog 38 3 [(0,.agg #[a,b,c,d]),(1,.agg #[a',b',c',d']),(2,.agg #[a2,b2,c2,d2])]=some (60,#[a,b,c,d,a',b',c',d',a2,b2,c2,d2]):=by kernel_rfl
theorem BI3 {b:Int} {a:Option Addr} {n c:Nat}:bldOf Tryz.prog 40 [(0,.int .i64 b),(1,.slice a n c)]=some #[.int .i64 b,.slice a n c]:=by kernel_rfl
theorem ln_R {S:Nat→Prop} {w:World} {a b c d:Int} (h:∀ x∈[a,b,c,d],-9223372036854775808≤x∧x≤9223372036854775807):eL.R S w (.agg #[.int .i64 a,.int .i64 b,.int .i64 c,.int .i64 d]) ⟨a,b,c,d⟩:=⟨rfl,K3.2 (h a (by simp)),K3.2 (h b (by simp)),K3.2 (h c (by simp)),K3.2 (h d (by simp))⟩
theorem ok3:outE net3 []=0:=outE_of (by decide) (by decide)
theorem BH8:∀ b,b<(nwOf net3 []).B→∀ i,i<(nwOf net3 []).B→(if (nwOf net3 []).root i=i then cand3 b i else (nwOf net3 []).lap (cand3 b) i)=dl i b:=by
 have:∀ b,b<3→∀ i,i<3→(if (nwOf net3 []).root i=i then cand3 b i else (nwOf net3 []).lap (cand3 b) i)=dl i b:=by decide +kernel
 exact this
def want3:List (List Int):=[[0,-3,-2],[0,2,-2],[0,-2,-3]]
theorem hf3:tabM 3 3 (nwOf net3 []).hf=want3.map fun l=>tab l.length fun k=>Rat.divInt (l.getD k 0) 5:=by
 have ok:=Q5 ok3
 have h1:tabM 3 3 (nwOf net3 []).hf=tabM 3 3 fun k b=>(nwOf net3 []).fl (cand3 b) k:=C5 fun k b hk hb=>Nw.hf_cand ok.ok ok.b1 cand3 BH8 hk hb
 have h2:∀ k,k<3→∀ b,b<3→(nwOf net3 []).fl (cand3 b) k=Rat.divInt ((want3.getD k []).getD b 0) 5:=by decide +kernel
 rw [h1,show tabM 3 3 (fun k b=>(nwOf net3 []).fl (cand3 b) k)=tabM 3 3 fun k b=>Rat.divInt ((want3.getD k []).getD b 0) 5 from C5 fun k b hk hb=>h2 k hk b hb]
 rfl
end Go.Proofs.YteghbhdniimjbaaGreat

namespace Go.Proofs.YteghbhdniimjbaaGreat
open Go Go.Kx Go.RowKit
theorem bsl_IIo {a:Option Addr} {n c:Nat}:bslOf Tryz.prog 132 1 [(0,.slice a n c)]=some (41,#[.slice a n c]):=by kernel_rfl
def okV17 (r:List QV):Prop:=r.length≤20∧∀ q∈r,qok 4 q
theorem okV17.vk {W:World} {v:Value} {a:List QV} (h:okV17 a) (hr:eV.R (fun _=>True) W v a):vk 4 a:=eV_vk hr h.2 (by decide)
theorem Ah8:Ent Tryz.prog 32:=A0 Tryz.func32 (by kernel_rfl) rfl
set_option maxRecDepth 8000 in
theorem Af7 {w:World} {vn vo v:Value} {n:NtV} {o:List Int} {l:List (List QV)} (hn:eN.R (fun _=>True) w vn n) (ho:eI.R (fun _=>True) w vo o) (h:eM.R (fun _=>True) w v l):CR Tryz.prog 32 #[vn,vo,v] w (Lng (∀ r∈l,okV17 r)):=by
 obtain ⟨s,rfl,hs,hb⟩:=hn
 have hn:eN.R (fun _=>True) w (.agg #[.int .i64 n.b,s]) n:=⟨s,rfl,hs,hb⟩
 obtain ⟨ao,co,hvo,_⟩:=RL.len ho
 obtain ⟨_,_,_,_,hl⟩:=RL.len h
 refine enter Tryz.func32 rfl Tryz.ntmps32 rfl (.beg (.go rfl (.box rfl rfl fun w1 b3 n1=>?_)))
 obtain ⟨e1,k3,hb3,hs1⟩:=n1
 have h:=ER.ext eM h e1
 have htrue:∀ {σ:Env},Kx.look σ 6=some (.bool true)→Leave Tryz.prog Tryz.f32 58 (fun v w'=>Ext w w'∧Lng (∀ r∈l,okV17 r) v w') σ [] w1:=by
  intro σ hl
  exact .plain [_] Tryz.results32 ⟨hl,trivial⟩ ⟨e1,true,rfl,fun h=>by cases h⟩
 refine .goC rfl (.lp (α:=Nat) [1,2,3] rfl (fun i=>[(7,.int .i64 (i:Nat))]) (fun i W=>W=w1∧i≤l.length∧∀ j r,j<i→l[j]?=some r→okV17 r) (fun i=>l.length-i) 0 (lc1 rfl) ⟨rfl,Nat.zero_le _,fun j r hj=>absurd hj (Nat.not_lt_zero _)⟩ ?_)
 rintro i W ⟨rfl,hi,hall⟩
 refine .go rfl (.lenR un_M rfl rfl h ?_)
 rcases Nat.lt_or_ge i l.length with hlt | hge
 rotate_left
 ·refine .lssF rfl rfl rfl (by omega) (.go rfl (.ldA ty_N rfl rfl k3 rfl (.go rfl (.bsl _ rfl rfl (by rw [hvo];exact bsl_IIo) fun w2 b5 n2=>?_))))
  have hll:eII.R (fun _=>True) w2 (.slice (some ⟨b5,0,none⟩) 1 1) [o]:=BH4 [vo] [o] n2 upT (by rw [hvo]) rfl (by decide) (Els.snoc Els.nil (ho.ext e1))
  refine .call _ rfl Ah9 rfl (Af8 (hn.ext (e1.trans n2.1)) hll) fun v3 w3 e3 h3=>.goE rfl ?_
  obtain ⟨bl,rfl⟩:=h3
  refine .plain [_] Tryz.results32 ⟨rfl,trivial⟩ ⟨(e1.trans n2.1).trans e3,bl,rfl,fun _ r hr=>?_⟩
  obtain ⟨j,hj⟩:=List.mem_iff_getElem?.1 hr
  exact hall j r (by have:=Af4 hj;omega) hj
 have hyy:=List.getElem?_eq_getElem hlt
 generalize l[i]=r at hyy
 refine .lssT rfl rfl rfl (by omega) (.go rfl (.ixN (i:=i) un_M ty_V rfl rfl h rfl hyy fun p hp=>.ldE ty_V rfl rfl hp fun e he=>.lenR un_V rfl rfl he ?_))
 by_cases hr:r.length≤20
 rotate_left
 ·exact .gtrT rfl rfl rfl (by omega) (.goE rfl (htrue rfl))
 refine .gtrF rfl rfl rfl (by omega) (.goC rfl (.lp (α:=Nat) [1,2,3,7] rfl (fun k=>[(8,.int .i64 (k:Nat))]) (fun k W'=>W'=W∧k≤r.length∧∀ j q,j<k→r[j]?=some q→qok 4 q) (fun k=>r.length-k) 0 (lc1 rfl) ⟨rfl,Nat.zero_le _,fun j r hj=>absurd hj (Nat.not_lt_zero _)⟩ ?_))
 rintro k W' ⟨rfl,hk,hallk⟩
 refine .go rfl (.ixN (i:=i) un_M ty_V rfl rfl h rfl hyy fun p2 hp2=>.ldE ty_V rfl rfl hp2 fun e2 he2=>.lenR un_V rfl rfl he2 ?_)
 rcases Nat.lt_or_ge k r.length with hkl | hge
 rotate_left
 ·refine .lssF rfl rfl rfl (by omega) (.go rfl (.inc rfl rfl rfl (by omega) (.goN rfl (.mk (i+1) rfl (lc1 rfl) ⟨⟨rfl,hlt,fun j r' hj hr'=>?_⟩,by show l.length-(i+1)<l.length-i;omega⟩))))
  by_cases e:j=i
  ·subst e
   rw [hyy] at hr'
   cases hr'
   refine ⟨hr,fun q hq=>?_⟩
   obtain ⟨j',hj'⟩:=List.mem_iff_getElem?.1 hq
   exact hallk j' q (by have:=Af4 hj';omega) hj'
  ·exact hall j r' (by omega) hr'
 have hqq:=List.getElem?_eq_getElem hkl
 generalize r[k]=q at hqq
 refine .lssT rfl rfl rfl (by omega) (.go rfl (.ixN (i:=i) un_M ty_V rfl rfl h rfl hyy fun p3 hp3=>.ldE ty_V rfl rfl hp3 fun e3 he3=>.go rfl (.ixN (i:=k) un_V ty_Q rfl rfl he3 rfl hqq fun p4 hp4=>.faP R7 rfl rfl (.faP D3 rfl rfl (.ldE (E:=eW) ty_W rfl rfl hp4.qn.zw fun e4 he4=>.lenR un_W rfl rfl he4 ?_)))))
 by_cases hn4:q.num.w.length≤4
 rotate_left
 ·exact .gtrT rfl rfl rfl (by omega) (.goE rfl (htrue rfl))
 refine .gtrF rfl rfl rfl (by omega) (.go rfl (.ixN (i:=i) un_M ty_V rfl rfl h rfl hyy fun p5 hp5=>.go rfl (.ldE ty_V rfl rfl hp5 fun e5 he5=>.go rfl (.ixN (i:=k) un_V ty_Q rfl rfl he5 rfl hqq fun p6 hp6=>.go rfl (.faP R6 rfl rfl (.go rfl (.faP D3 rfl rfl (.go rfl (.ldE (E:=eW) ty_W rfl rfl hp6.qd.zw fun e6 he6=>.go rfl (.lenR un_W rfl rfl he6 (.go rfl ?_)))))))))))
 by_cases hd4:q.den.w.length≤4
 rotate_left
 ·exact .gtrT rfl rfl rfl (by omega) (.goE rfl (htrue rfl))
 refine .gtrF rfl rfl rfl (by omega) (.go rfl (.inc rfl rfl rfl (by omega) (.goN rfl (.mk (k+1) rfl (lc1 rfl) ⟨⟨rfl,hkl,fun j q' hj hq'=>?_⟩,by show r.length-(k+1)<r.length-k;omega⟩))))
 by_cases e:j=k
 ·subst e;rw [hqq] at hq';cases hq';exact ⟨hn4,hd4⟩
 ·exact hallk j q' (by omega) hq'
theorem Y3:Ent Tryz.prog 106:=A0 Tryz.func106 (by kernel_rfl) rfl
theorem X6 {w:World}:CR Tryz.prog 106 #[] w (eN.at (fun _=>True) net3):=by
 refine enter Tryz.func106 rfl Tryz.ntmps106 rfl (.beg (.go rfl (.alloc rfl Ae2 fun w1 b0 n1=>.go rfl (.bld _ rfl rfl Ah0 (.bld _ rfl rfl Ah0 (.bld _ rfl rfl Ah0 (.bsl _ rfl rfl bsl_Ls3 fun w2 b4 n2=>.bld _ rfl rfl BI3 ?_)))))))
 obtain ⟨e1,k0,hb0,hs1⟩:=n1
 have hl:eLs.R (fun k=>k≠b0) w2 (.slice (some ⟨b4,0,none⟩) 3 3) net3.ls:=Ar8 (E:=eL) [_,_,_] net3.ls n2 (fun k hk=>by omega) rfl rfl (by decide) (Els.snoc (Els.snoc (Els.snoc Els.nil (ln_R (by decide))) (ln_R (by decide))) (ln_R (by decide)))
 have hn:eN.R (fun k=>k≠b0) w2 (.agg #[.int .i64 3,.slice (some ⟨b4,0,none⟩) 3 3]) net3:=⟨_,rfl,hl,K3.2 (by decide)⟩
 refine .storeA (E:=eN) ty_N rfl rfl (k0.ext n2.1) rfl rfl hn (fun h=>h rfl) fun w3 k3 u3 h3=>.goE rfl ?_
 exact .cell (E:=eN) Tryz.results106 rfl ty_N rfl rfl k3 h3 ⟨u3.below (e1.trans n2.1) (by omega),eN.mono (fun _ _ _=>trivial) h3⟩
theorem S8:Ent Tryz.prog 107:=A0 Tryz.func107 (by kernel_rfl) rfl
theorem S4 {w:World} {vl:Value} {l:List Int} (hl:eI.R (fun _=>True) w vl l) (hn:l.length≤1000):CR Tryz.prog 107 #[vl] w (eV.at (fun _=>True) (intsV l)):=by
 refine enter Tryz.func107 rfl Tryz.ntmps107 rfl (.beg (.go rfl ?_))
 refine .call _ rfl Ah5 rfl (Ae9 upT hl (by omega)) fun v1 w1 e1 h1=>.goE rfl ?_
 exact .plain [_] Tryz.results107 ⟨rfl,trivial⟩ ⟨e1,h1⟩
/-! the examples -/
def balB (n:Nw) (x:Nat→Rat):Bool:=(List.range n.B).all fun r => !decide (n.root r=r) || decide (sumN n.B (fun b=>if n.root b=r then x b else 0)=0)
theorem Am8 {n:Nw} {x:Nat→Rat}:balB n x=true↔n.bal x:=by
 unfold balB Nw.bal
 rw [List.all_eq_true]
 simp only [List.mem_range,Bool.or_eq_true,Bool.not_eq_true',decide_eq_false_iff_not,decide_eq_true_eq]
 exact ⟨fun h r hr hrr=>(h r hr).resolve_left fun h'=>h' hrr,fun h r hr=>by
  by_cases hrr:n.root r=r
  ·exact .inr (h r hr hrr)
  ·exact .inl hrr⟩
theorem As7 {n:Nw} (ok:n.Ok) {x cand:Nat→Rat} (h:∀ i,i<n.B→(if n.root i=i then cand i else n.lap cand i)=n.inj0 x i) {c:Nat} (hc:c<n.B):n.an x c=cand c :=
 Nw.uniq ok (fun i hi=>by
  have h1:=n.an_eq ok x hi
  have h2:=h i hi
  split
  ·rw [if_pos (by assumption)] at h1 h2;rw [h1,h2]
  ·rw [if_neg (by assumption)] at h1 h2;rw [h1,h2]) c hc
def inj3:Nat→Rat:=fun b=>((([6,0,-6]:List Int).getD b 0:Int):Rat)
def an3:Nat→Rat:=fun b=>((([0,-24,-36]:List Int).getD b 0:Int):Rat)
theorem Ae5 {l:List Int} {b:Nat}:rv (intsV l) b=if b<l.length then ((l.getD b 0:Int):Rat) else 0:=J1 ..
theorem Ah4:anE net3 [] (intsV [6,0,-6])=0:=by
 refine As6 ok3 (by decide) ?_
 refine (Nw.bal_congr (y:=inj3) fun b hb=>?_).2 (Am8.1 (by decide +kernel))
 rw [Ae5,if_pos (show b<([6,0,-6]:List Int).length from hb)];rfl
theorem an3_no:anE net3 [] (intsV [1,0,-2])=10:=by
 have h1:sfE net3 [] (intsV [1,0,-2]).length=0:=by unfold sfE;rw [if_neg (by simpa using ok3),if_pos (by decide)]
 unfold anE
 rw [if_neg (by simpa using h1),if_neg]
 intro h
 have h2:=(Nw.bal_congr (y:=fun b=>((([1,0,-2]:List Int).getD b 0:Int):Rat)) fun b hb=>by rw [Ae5,if_pos (show b<([1,0,-2]:List Int).length from hb)]).1 h
 have h3:=Am8.2 h2
 exact absurd h3 (by decide +kernel)
theorem Ah3:∀ c,c<3→(nwOf net3 []).an (rv (intsV [6,0,-6])) c=an3 c:=fun c hc=>by
 have ok:=Q5 ok3
 refine As7 ok.ok (fun i hi=>?_) hc
 have h1:∀ i,i<3→(if (nwOf net3 []).root i=i then an3 i else (nwOf net3 []).lap an3 i)=(nwOf net3 []).inj0 inj3 i:=by decide +kernel
 rw [h1 i hi]
 unfold Nw.inj0
 rw [Ae5,if_pos (show i<([6,0,-6]:List Int).length from hi)];rfl
theorem an3_tab:tab (nwOf net3 []).B ((nwOf net3 []).an (rv (intsV [6,0,-6])))=intsV [0,-24,-36]:=D6 fun c hc=>Ah3 c hc
theorem fl3_tab:tab net3.ls.length ((nwOf net3 []).fl ((nwOf net3 []).an (rv (intsV [6,0,-6]))))=[qc (Rat.divInt 12 5),qc (Rat.divInt 12 5),qc (Rat.divInt 18 5)]:=by
 have h1:∀ k,k<3→(nwOf net3 []).fl ((nwOf net3 []).an (rv (intsV [6,0,-6]))) k=(nwOf net3 []).fl an3 k:=fun k hk=>by
  have ok:=Q5 ok3
  unfold Nw.fl
  rw [Ah3 _ (ok.f k hk),Ah3 _ (ok.t k hk)]
 have h2:∀ k,k<3→(nwOf net3 []).fl an3 k=Rat.divInt (([12,12,18]:List Int).getD k 0) 5:=by decide +kernel
 rw [show tab net3.ls.length ((nwOf net3 []).fl ((nwOf net3 []).an (rv (intsV [6,0,-6]))))=tab 3 fun k=>Rat.divInt (([12,12,18]:List Int).getD k 0) 5 from D6 fun k hk=>by rw [h1 k hk,h2 k hk]]
 rfl
theorem bsl_V3 {x y z u x' y' z' u' x2 y2 z2 u2:Value}:bslOf Tryz.prog 42 3 [(0,.agg #[x,y,z,u]),(1,.agg #[x',y',z',u']),(2,.agg #[x2,y2,z2,u2])]=some (32,#[x,y,z,u,x',y',z',u',x2,y2,z2,u2]):=by kernel_rfl
theorem ob_V3 {w:World} {σ:Env} {d:Option Tmp} {ty:TypeId} {pos:String} {af:Array Edge} {g:Option (Nat×Bool)} {x y z:Operand} {u v t:Value} {a b c:QV} (hu:eQ.R (fun _=>True) w u a) (hv:eQ.R (fun _=>True) w v b) (ht:eQ.R (fun _=>True) w t c) (hx:ev σ x=some u:=by rfl) (hy:ev σ y=some v:=by rfl) (hz:ev σ z=some t:=by rfl) :
  Gv Tryz.prog ⟨d,.buildSlice 42 3 #[(0,x),(1,y),(2,z)],ty,pos,af,g⟩ σ w fun v' w'=>Ext w w'∧Sp.ok (.inr (eV.at (fun _=>True) [a,b,c])) v' w':=by
 have hu':=hu
 have hv':=hv
 have ht':=ht
 obtain ⟨s1,t1,rfl,_,_⟩:=hu'
 obtain ⟨s2,t2,rfl,_,_⟩:=hv'
 obtain ⟨s3,t3,rfl,_,_⟩:=ht'
 refine (AS2 (ps:=[(0,x),(1,y),(2,z)]) [(0,.agg #[.bool a.num.neg,s1,.bool a.den.neg,t1]),(1,.agg #[.bool b.num.neg,s2,.bool b.den.neg,t2]),(2,.agg #[.bool c.num.neg,s3,.bool c.den.neg,t3])] (by simp [evp,hx,hy,hz]) bsl_V3).mono fun v' w' ⟨b2,hv',n2⟩=>⟨n2.1,fun w'' e=>?_⟩
 rw [hv']
 exact ER.ext eV (Ar8 (E:=eQ) (hsz:=by decide) [_,_,_] [a,b,c] n2 upT rfl rfl (by decide) (Els.snoc (Els.snoc (Els.snoc Els.nil hu) hv) ht)) e
theorem ob_L3 {w:World} {σ:Env} {d:Option Tmp} {ty:TypeId} {pos:String} {af:Array Edge} {g:Option (Nat×Bool)} {m n k:Int} (h:∀ x∈[m,n,k],-9223372036854775808≤x∧x≤9223372036854775807) :
  Gv Tryz.prog ⟨d,.buildSlice 103 3 #[(0,.const (.int .i64 m)),(1,.const (.int .i64 n)),(2,.const (.int .i64 k))],ty,pos,af,g⟩ σ w fun v' w'=>Ext w w'∧Sp.ok (.inr (eI.at (fun _=>True) [m,n,k])) v' w' :=
 (AS2 (ps:=[(0,.const (.int .i64 m)),(1,.const (.int .i64 n)),(2,.const (.int .i64 k))]) _ rfl Ag4).mono fun v' w' ⟨b2,hv',n2⟩=>⟨n2.1,fun w'' e=>by
  rw [hv']
  exact ER.ext eI (Ag2 [m,n,k] 3 n2 upT rfl rfl h (by omega)) e⟩
theorem At7 (l:List Int) (h:∀ n∈l,-9223372036854775808≤n∧n≤9223372036854775807):vk 2 (intsV l):=BB9 h
theorem AH4:Ent Tryz.prog 33:=A0 Tryz.func33 (by kernel_rfl) rfl
set_option maxRecDepth 8000 in
theorem AG9 {w:World}:CR Tryz.prog 33 #[] w (Is (.bool true)):=by
 have hk6:=At7 [6,0,-6] (by decide)
 have hk1:=At7 [1,0,-2] (by decide)
 refine enter Tryz.func33 rfl Tryz.ntmps33 rfl (.beg (.go rfl ?_))
 refine .call _ rfl Y3 rfl X6 fun v1 w1 e1 h1=>.bsl _ rfl rfl Ag4 fun w2 b2 n2=>?_
 refine .call _ rfl S8 rfl (S4 (Ag2 [6,0,-6] 3 n2 upT rfl rfl (by decide) (by decide)) (by decide)) fun v3 w3 e3 h3=>?_
 refine .call _ rfl Y5 rfl (X8 (o:=[]) upT (ER.ext eN h1 (n2.1.trans e3)) RL.nil h3 hk6 (by decide) (by decide)) fun v4 w4 e4 h4=>?_
 obtain ⟨va,ve,rfl,ha,he⟩:=h4
 replace he:ve=.int .i64 0:=by rw [he,Ah4]
 subst he
 rw [if_pos Ah4,an3_tab] at ha
 have x4:=((e1.trans n2.1).trans e3).trans e4
 refine .go rfl ?_
 refine .call _ rfl Y3 rfl X6 fun v5 w5 e5 h5=>.bsl _ rfl rfl Ag4 fun w6 b6 n6=>?_
 refine .call _ rfl S8 rfl (S4 (Ag2 [6,0,-6] 3 n6 upT rfl rfl (by decide) (by decide)) (by decide)) fun v7 w7 e7 h7=>?_
 refine .call _ rfl S9 rfl (AA7 (o:=[]) upT (ER.ext eN h5 (n6.1.trans e7)) RL.nil h7 hk6 (by decide) (by decide)) fun v8 w8 e8 h8=>?_
 obtain ⟨vf,ve,rfl,hf,he⟩:=h8
 replace he:ve=.int .i64 0:=by rw [he,Ah4]
 subst he
 rw [if_pos Ah4,fl3_tab] at hf
 have y8:=((e5.trans n6.1).trans e7).trans e8
 refine .go rfl ?_
 refine .call _ rfl Y3 rfl X6 fun v9 w9 e9 h9=>.bsl _ rfl rfl Ag4 fun w10 b10 n10=>?_
 refine .call _ rfl S8 rfl (S4 (Ag2 [1,0,-2] 3 n10 upT rfl rfl (by decide) (by decide)) (by decide)) fun v11 w11 e11 h11=>?_
 refine .call _ rfl S9 rfl (AA7 (o:=[]) upT (ER.ext eN h9 (n10.1.trans e11)) RL.nil h11 hk1 (by decide) (by decide)) fun v12 w12 e12 h12=>?_
 obtain ⟨vg,ve,rfl,hg,he⟩:=h12
 replace he:ve=.int .i64 10:=by rw [he,an3_no]
 subst he
 have y12:=((e9.trans n10.1).trans e11).trans e12
 refine .go rfl ?_
 refine .call _ rfl AZ7 rfl (AX2 (S:=fun _=>True) upT (by decide) (by decide)) fun vq w13 e13 hq=>.alloc rfl C9 fun w14 b7 n14=>?_
 obtain ⟨e14,k7,hb7,hs14⟩:=n14
 refine .storeA (E:=eQ) (S:=fun k=>k<w13.heap.size) ty_Q rfl rfl k7 rfl rfl (ER.ext eQ (eQ.mono (fun k _ h=>h.2) (ER.lt eQ hq)) e14) (fun h=>by omega) fun w15 k7 u15 hq=>.goC rfl ?_
 have hqv:=shpA (E:=eQ) rfl hq
 have hq:eQ.R (fun _=>True) w15 vq _:=eQ.mono (fun _ _ _=>trivial) hq
 have z15:Ext w12 w15:=u15.below (e13.trans e14) (by have:=e13.size;omega)
 have ha:=ER.ext eV ha ((y8.trans y12).trans z15)
 have hf:=ER.ext eV hf (y12.trans z15)
 refine .par follows 22 [.inl _,.inl (.bool true),.inl (.bool true),.inl _,.inl (.bool true),.inl (.bool true),.inl (.bool true),.inl _,.inl (.bool true),.inl (.bool true),.inl (.bool true),.inl _,.inr (eI.at (fun _=>True) [0,-24,-36]),.inr (eV.at (fun _=>True) (intsV [0,-24,-36])),.inl (.bool true),.inl (.bool true),.inl (.bool true),.inl _,.inl vq,.inl vq,.inr (eQ.at (fun _=>True) (qc (Rat.divInt 18 5))),.inr (eV.at (fun _=>True) [qc (Rat.divInt 12 5),qc (Rat.divInt 12 5),qc (Rat.divInt 18 5)])] [[],[(30,0)],[(31,1)],[(32,2)],[(33,3),(32,2)],[(32,2),(34,4)],[(35,5)],[(36,6)],[(37,7),(36,6)],[(36,6),(38,8)],[(39,9)],[(40,10)],[(40,10)],[(42,12),(40,10)],[(41,11),(43,13),(40,10)],[(40,10),(44,14)],[(45,15)],[(46,16)],[(46,16)],[(46,16)],[(46,16)],[(48,18),(49,19),(50,20),(46,16)]] (by kernel_rfl) ⟨
  fun w e=>(v_mv rfl).ob,
  fun w e=>((Ab9 rfl rfl).eq (by rfl)).ob,
  fun w e=>(v_mv rfl).ob,
  fun w e=>(v_mv rfl).ob,
  fun w e=>((Ab9 rfl rfl).eq (by rfl)).ob,
  fun w e=>(AJ8 rfl rfl).ob,
  fun w e=>(v_mv rfl).ob,
  fun w e=>(v_mv rfl).ob,
  fun w e=>((Ab9 rfl rfl).eq (by rfl)).ob,
  fun w e=>(AJ8 rfl rfl).ob,
  fun w e=>(v_mv rfl).ob,
  fun w e=>(v_mv rfl).ob,
  fun w e=>ob_L3 (by decide),
  fun w e x12 hx12=>(A3 _ S8 rfl (S4 hx12 (by decide))).ob (A8 _ _ _),
  fun w e x13 hx13=>(A3 _ AZ6 rfl (isV_t (ER.ext eV ha e) hx13 rfl)).obIs,
  fun w e=>(AJ8 rfl rfl).ob,
  fun w e=>(v_mv rfl).ob,
  fun w e=>(v_mv rfl).ob,
  fun w e=>((C0 ty_Q rfl (k7.ext e) (eQ.csz hq)).eq hqv.symm).ob,
  fun w e=>((C0 ty_Q rfl (k7.ext e) (eQ.csz hq)).eq hqv.symm).ob,
  fun w e=>(A3 _ AZ7 rfl (AX2 (S:=fun _=>True) upT (by decide) (by decide))).ob (A8 _ _ _),
  fun w e x20 hx20=>ob_V3 (ER.ext eQ hq e) (ER.ext eQ hq e) hx20,trivial⟩ ?_
 intro w16 e16 _ _ _ _ _ _ x21 hx21
 refine .go rfl (.call _ rfl AZ6 rfl (isV_t (ER.ext eV hf e16) hx21 rfl) fun v17 w17 e17 h17=>?_)
 subst h17
 exact .goE rfl (.plain [_] Tryz.results33 ⟨rfl,trivial⟩ ⟨((((x4.trans y8).trans y12).trans z15).trans e16).trans e17,rfl⟩)
end Go.Proofs.YteghbhdniimjbaaGreat

namespace Go.Kx
open Go Go.RowKit
/-- the block g begins with the elements l; their own memory is S's, and not g -/
def FP {α:Type} (E:ER α) (t:TypeId) (S:Nat→Prop) (w:World) (g:Nat) (l:List α):Prop :=
 ∃ es rest,Blk w g t (cellsOf es++rest).toArray∧Els E (fun k=>S k∧k≠g) w es l
theorem Ag3 {sz:Nat} (hsz:0<sz) (es rest:List Value) (i:Nat) (v:Value) (hs:∀ e∈es,e.cells.size=sz) (hv:v.cells.size=sz) (hi:i<es.length) :
  wrt (cellsOf es++rest).toArray (i*sz) v.cells.toList=(cellsOf (es.set i v)++rest).toArray:=by
 have h0:=V5 hsz es i v hs hv hi
 have hs':∀ e∈es.set i v,e.cells.size=sz:=fun e he=>by
  rcases List.mem_or_eq_of_mem_set he with h | h
  ·exact hs e h
  ·rw [h];exact hv
 have hl:=A9 es hs
 have hl':=A9 (es.set i v) hs'
 rw [List.length_set] at hl'
 have hle:i*sz+sz≤es.length*sz:=by rw [←Nat.succ_mul];exact Nat.mul_le_mul_right _ hi
 apply Array.ext_getElem?
 intro j
 rw [AE3 _ _ _ _ (by simp only [Array.length_toList,hv,List.size_toArray,List.length_append,hl];omega)]
 have h1:(wrt (cellsOf es).toArray (i*sz) v.cells.toList)[j]?=(cellsOf (es.set i v)).toArray[j]?:=by rw [h0]
 rw [AE3 _ _ _ _ (by simp only [Array.length_toList,hv,List.size_toArray,hl];exact hle)] at h1
 simp only [Array.length_toList,hv,List.getElem?_toArray,Array.getElem?_toList] at h1 ⊢
 rcases Nat.lt_or_ge j (es.length*sz) with hj | hj
 ·rw [List.getElem?_append_left (by omega),List.getElem?_append_left (by omega)];exact h1
 ·rw [if_neg (by omega),List.getElem?_append_right (by omega),List.getElem?_append_right (by omega),hl,hl']
section
variable {α:Type} {E:ER α} {t:TypeId} {S X:Nat→Prop} {w w':World} {g:Nat} {l:List α}
theorem FP.at_ {i:Nat} {x:α} (h:FP E t S w g l) (hx:l[i]?=some x):∃ e,E.R (fun k=>S k∧k≠g) w e x∧PtrX w ⟨g,i*E.sz,none⟩ e:=by
 obtain ⟨es,r,hb,he⟩:=h
 have hlt:i<l.length:=(List.getElem?_eq_some_iff.1 hx).1
 obtain ⟨e,hee⟩:∃ e,es[i]?=some e:=⟨_,List.getElem?_eq_getElem (by rw [he.1];exact hlt)⟩
 refine ⟨e,he.2 i e x hee hx,fun j u hu=>?_⟩
 have hj:j<E.sz:=by
  have hs:=he.sz e (List.mem_iff_getElem?.2 ⟨i,hee⟩)
  rcases Nat.lt_or_ge j e.cells.size with h | h
  ·omega
  ·rw [Array.getElem?_eq_none h] at hu;cases hu
 have hg:=D0 es i j e he.sz hee hj
 rw [hu] at hg
 rw [J9,hb.cell,List.getElem?_toArray,List.getElem?_append_left (List.getElem?_eq_some_iff.1 hg).1]
 exact hg
/-- a row that was appended to -/
theorem OwnL.fp {base:Nat} {v:Value} (h:OwnL E t base X w v l) (hne:0<l.length):∃ g cap,v=.slice (some ⟨g,0,none⟩) l.length cap∧l.length≤cap∧cap≤9223372036854775807∧base≤g∧FP E t X w g l:=by
 obtain ⟨es,ho,he⟩:=h
 rcases ho.2 with ⟨_,h0⟩ | ⟨g,cap,cur,hv,hb,hg,h1,h2,h3,h4⟩
 ·omega
 ·subst hv
  refine ⟨g,cap,rfl,h1,by simpa [maxLen] using h2,hb,es,cur.toList.drop (l.length*E.sz),?_,he.1,fun i e x hi hx=>E.mono (fun k _ hk=>⟨hk.1,fun e=>hk.2 (by rw [e];rfl)⟩) (he.2 i e x hi hx)⟩
  rw [←h4,List.take_append_drop]
  exact hg
end
section
variable {P:Program} {ro:Option Nat} {N:Nat} {ds:List Deferred} {ops:Array Oper} {K:Env→World→Prop} {rest:List Oper} {σ:Env} {w:World} {d:Tmp} {ty:TypeId} {pos:String} {af:Array Edge} {α:Type} {E:ER α} {S:Nat→Prop}
theorem WL.ldP {t t':TypeId} {x:Operand} {g i o:Nat} {l:List α} {z:α} (ht:tyOf P t=some (E.isA,E.sz)) (hd:Nat.blt d N=true) (hx:ev σ x=some (.pointer (some ⟨g,o,none⟩))) (ho:o=i*E.sz) (hF:FP E t' S w g l) (hz:l[i]?=some z)
  (k:∀ e,E.R (fun k=>S k∧k≠g) w e z→WL P ro N ds ops K rest ((d,e)::σ) w):WL P ro N ds ops K (⟨some d,.load t x,ty,pos,af,none⟩::rest) σ w:=by
 subst ho
 obtain ⟨e,h1,h2⟩:=hF.at_ hz
 exact .ldX ht hd hx h2 h1 (k e h1)
end
end Go.Kx

namespace Go.Kx
open Go Go.RowKit
/-- a slice as it is -/
def eRaw:ER Value where
 sz:=1
 isA:=false
 R:=fun _ _ e x=>e=x∧∃ a n c,x=.slice a n c
 csz:=by rintro S w e x ⟨rfl,a,n,c,rfl⟩;rfl
 one:=by rintro S w e x ⟨rfl,a,n,c,rfl⟩ u hu;simp [Value.cells] at hu;subst hu;rfl
 shp:=by rintro S w e x ⟨rfl,a,n,c,rfl⟩;rfl
 keep:=fun _ h=>h
 mono:=fun _ h=>h
section
variable {α:Type} {E:ER α} {t:TypeId} {base:Nat} {X:Nat→Prop} {w w':World} {v:Value} {l:List α}
theorem OwnL.grown {ob:Option Nat} (h:OwnL E t base X w v l) (hg:w.grownBy w' ob) (hne:∀ b,v.ownBlock=some b→ob≠some b) (hE:∀ S w w' e x,E.R S w e x→E.R S w' e x):OwnL E t base X w' v l:=by
 obtain ⟨es,h1,h2⟩:=h
 refine ⟨es,⟨h1.1,?_⟩,⟨h2.1,fun i e x he hx=>hE _ _ _ _ _ (h2.2 i e x he hx)⟩⟩
 rcases h1.2 with hn | ⟨g,cap,cur,hv,hb,hg',rest⟩
 ·exact .inl hn
 ·have hB:Blk w g t cur:=hg'
  exact .inr ⟨g,cap,cur,hv,hb,(hg.block g hB.lt (fun e=>hne g (by rw [hv];rfl) e.symm)).trans hg',rest⟩
theorem OwnL.updN {b:Nat} (h:OwnL E t base X w v l) (hu:Upd w w' b) (hne:v.ownBlock≠some b) (hE:∀ S w w' e x,E.R S w e x→E.R S w' e x):OwnL E t base X w' v l:=by
 obtain ⟨es,h1,h2⟩:=h
 refine ⟨es,⟨h1.1,?_⟩,⟨h2.1,fun i e x he hx=>hE _ _ _ _ _ (h2.2 i e x he hx)⟩⟩
 rcases h1.2 with hn | ⟨g,cap,cur,hv,hb,hg',rest⟩
 ·exact .inl hn
 ·exact .inr ⟨g,cap,cur,hv,hb,(hu.block g (fun e=>hne (by rw [hv,←e];rfl))).trans hg',rest⟩
theorem OwnL.blk (h:OwnL E t base X w v l) {b:Nat} (hb:v.ownBlock=some b):base≤b∧∃ cs,Blk w b t cs:=by
 obtain ⟨es,h1,h2⟩:=h
 rcases h1.2 with ⟨hn,_⟩ | ⟨g,cap,cur,hv,hb',hg',rest⟩
 ·rw [hn] at hb;cases hb
 ·rw [hv] at hb;cases hb;exact ⟨hb',cur,hg'⟩
end
section
variable {P:Program} {σ:Env} {w:World} {d:Option Tmp} {ty:TypeId} {pos:String} {af:Array Edge} {g:Option (Nat×Bool)} {α:Type} {E:ER α}
/-- an element is changed in place; the row stays the call's own -/
theorem BG4 {t t':TypeId} {x y:Operand} {base gg i o n cap:Nat} {a:Bool} {X:Nat→Prop} {u v:Value} {l:List α} {z:α} (hsz:0<E.sz) (ht:tyOf P t=some (a,n)) (hx:ev σ x=some (.pointer (some ⟨gg,o,none⟩))) (hy:ev σ y=some v) (h:OwnL E t' base X w u l) (hu:u=.slice (some ⟨gg,0,none⟩) l.length cap)
  (hn:E.sz=n) (hi:i<l.length) (ho:o=i*E.sz) (hz:E.R (fun k=>X k∧u.ownBlock≠some k) w v z) :
  Gv P ⟨d,.store t x y,ty,pos,af,g⟩ σ w fun _ w'=>OwnL E t' base X w' u (l.set i z)∧Upd w w' gg∧base≤gg:=by
 obtain ⟨es,h1,he⟩:=h
 have hcs:=E.csz hz
 subst ho
 have hl:=A9 es he.sz
 have hie:i<es.length:=by rw [he.1];exact hi
 rcases h1.2 with ⟨hv,_⟩ | ⟨g',cap',cur,hv,hb,hg,c1,c2,c3,c4⟩
 ·rw [hu] at hv;cases hv
 rw [hu] at hv
 cases hv
 have hB:Blk w gg t' (cellsOf es++cur.toList.drop (l.length*E.sz)).toArray:=by
  rw [←c4,List.take_append_drop];exact hg
 have hle:i*E.sz+n≤(cellsOf es++cur.toList.drop (l.length*E.sz)).toArray.size:=by
  have:i*E.sz+n≤es.length*E.sz:=by rw [←hn,←Nat.succ_mul];exact Nat.mul_le_mul_right _ hie
  rw [List.size_toArray,List.length_append,hl];omega
 refine (H8 ht hx hy hB (by omega) hle (E.one hz)).mono ?_
 rintro _ w' ⟨hB',uu⟩
 rw [Ag3 hsz es _ i v he.sz hcs hie] at hB'
 have hset:=Els.set he i hz
 have hl':=A9 (es.set i v) hset.sz
 rw [List.length_set] at hl'
 refine ⟨⟨es.set i v,⟨by rw [hl',List.length_set,he.1],.inr ⟨gg,cap,_,by rw [hu,List.length_set],hb,hB',by rw [List.length_set];exact c1,c2,?_,?_⟩⟩,?_⟩,uu,hb⟩
 ·rw [←c3,List.size_toArray,List.length_append,hl']
  have:(cellsOf es++cur.toList.drop (l.length*E.sz)).length=cur.toList.length:=by rw [←c4,List.take_append_drop]
  rw [List.length_append,hl] at this
  rw [this,Array.length_toList]
 ·rw [List.length_set]
  show (cellsOf (es.set i v)++_).take _=_
  rw [List.take_append_of_le_length (by rw [hl',he.1];exact Nat.le_refl _),List.take_of_length_le (by rw [hl',he.1];exact Nat.le_refl _)]
 ·exact hset.keep (Kp.upd uu fun h=>h.2 (by rw [hu];rfl))
end
/-! the buses of the islands -/
def Nw.mem (n:Nw) (i r:Nat):List Nat:=(List.range i).filter fun b=>decide (n.root b=r)
def Nw.memb (n:Nw) (i:Nat):List (List Nat):=(n.refsTo i).map (n.mem i)
theorem Nw.mem_succ (n:Nw) (i r:Nat):n.mem (i+1) r=n.mem i r++if n.root i=r then [i] else []:=by
 unfold Nw.mem
 rw [List.range_succ,List.filter_append]
 by_cases h:n.root i=r
 ·simp [h]
 ·simp [h]
theorem Nw.refsTo_mem {n:Nw} {i r:Nat}:r∈n.refsTo i↔r<i∧n.root r=r:=by
 unfold Nw.refsTo
 rw [List.mem_filter,List.mem_range]
 simp
theorem Nw.memb_len (n:Nw) (i:Nat):(n.memb i).length=n.cnt i:=by unfold Nw.memb;rw [List.length_map,Nw.refsTo_len]
theorem Nw.memb_get {n:Nw} {i k:Nat} (hk:k<n.cnt i):(n.memb i)[k]?=some (n.mem i ((n.refsTo i).getD k 0)):=by
 unfold Nw.memb
 rw [List.getElem?_map,Go.Proofs.YteghbhdniimjbaaGreat.A6 (z:=0) (by rw [Nw.refsTo_len];exact hk)];rfl
theorem Nw.refsTo_lab (n:Nw) {b i:Nat} (hb:b<i):(n.refsTo i).getD (n.lab b) 0=n.root b∧n.lab b<n.cnt i:=by
 have hle:=Nw.root_le (n:=n) b
 exact BD8 (P:=fun r=>decide (n.root r=r)) (r:=n.root b) (C:=i) (by omega) (decide_eq_true (Nw.root_root b))
/-- a bus that begins an island -/
theorem Nw.memb_new {n:Nw} {i:Nat} (h:n.root i=i):n.memb (i+1)=n.memb i++[[i]]:=by
 unfold Nw.memb
 rw [n.refsTo_succ,if_pos h,List.map_append]
 congr 1
 ·refine List.map_congr_left fun r hr=>?_
  have:=(Nw.refsTo_mem.1 hr).1
  rw [Nw.mem_succ,if_neg (by omega),List.append_nil]
 ·show [n.mem (i+1) i]=[[i]]
  rw [Nw.mem_succ,if_pos h]
  have:n.mem i i=[]:=by
   unfold Nw.mem
   rw [List.filter_eq_nil_iff]
   intro b hb
   have:=Nw.root_le (n:=n) b
   have:=List.mem_range.1 hb
   simp;omega
  rw [this];rfl
theorem Nw.refsTo_inj {n:Nw} {i a b:Nat} (ha:a<n.cnt i) (hb:b<n.cnt i) (h:(n.refsTo i).getD a 0=(n.refsTo i).getD b 0):a=b:=by
 have hnd:(n.refsTo i).Nodup:=List.Pairwise.filter _ List.nodup_range
 have ha':a<(n.refsTo i).length:=ha
 have hb':b<(n.refsTo i).length:=hb
 rw [List.getD_eq_getElem?_getD,List.getD_eq_getElem?_getD,List.getElem?_eq_getElem ha',List.getElem?_eq_getElem hb'] at h
 exact (List.getElem_inj hnd).1 h
theorem Nw.memb_old {n:Nw} {i:Nat} (h:n.root i≠i):n.memb (i+1)=(n.memb i).set (n.lab i) (n.mem i (n.root i)++[i]):=by
 have hlt:n.root i<i:=by have:=Nw.root_le (n:=n) i;omega
 have hl:n.lab i=n.lab (n.root i):=n.lab_of i
 obtain ⟨h1,h2⟩:=n.refsTo_lab (b:=n.root i) hlt
 rw [Nw.root_root] at h1
 rw [←hl] at h1 h2
 have hr:n.refsTo (i+1)=n.refsTo i:=by rw [n.refsTo_succ,if_neg h,List.append_nil]
 apply List.ext_getElem?
 intro k
 have hlen:(n.memb (i+1)).length=n.cnt i:=by unfold Nw.memb;rw [List.length_map,hr,Nw.refsTo_len]
 rcases Nat.lt_or_ge k (n.cnt i) with hk | hk
 ·have hg:(n.memb (i+1))[k]?=some (n.mem (i+1) ((n.refsTo i).getD k 0)):=by
   unfold Nw.memb
   rw [hr,List.getElem?_map,Go.Proofs.YteghbhdniimjbaaGreat.A6 (z:=0) (by rw [Nw.refsTo_len];exact hk)];rfl
  rw [hg,Nw.mem_succ]
  by_cases e:n.lab i=k
  ·subst e
   rw [h1,if_pos rfl,List.getElem?_set_self (by rw [Nw.memb_len];exact h2)]
  ·rw [if_neg (fun e'=>e (Nw.refsTo_inj h2 hk (h1.trans e'))),List.append_nil,List.getElem?_set_ne e,Nw.memb_get hk]
 ·rw [List.getElem?_eq_none (by omega),List.getElem?_eq_none (by rw [List.length_set,Nw.memb_len];omega)]
end Go.Kx

namespace Go.Proofs.YteghbhdniimjbaaGreat
open Go Go.Kx Go.RowKit
theorem L1:Tryz.prog.underlying 132=some (.slice 41):=by kernel_rfl
theorem info_IL:infoOf Tryz.prog 41=some (.slice none 0 0,1,24):=by kernel_rfl
theorem bsl_IIn:bslOf Tryz.prog 132 1 [(0,.slice none 0 0)]=some (41,#[.slice none 0 0]):=by kernel_rfl
structure MbI (base:Nat) (W:World) (v:Value) (vs:List Value) (l:List (List Nat)):Prop where
 out:OwnL eRaw 41 base (fun _=>True) W v vs
 len:vs.length=l.length
 inn:∀ (i:Nat) (u:Value) (m:List Nat),vs[i]?=some u→l[i]?=some m→OwnL (eInt .i64) 3 base (fun _=>True) W u (pInts m)
 dis:∀ (i j:Nat) (u u':Value),i≠j→vs[i]?=some u→vs[j]?=some u'→∀ b,u.ownBlock=some b→u'.ownBlock≠some b
theorem BE0:∀ (S:Nat→Prop) (w w':World) (e x:Value),eRaw.R S w e x→eRaw.R S w' e x:=fun _ _ _ _ _ h=>h
theorem AL4:∀ (S:Nat→Prop) (w w':World) (e:Value) (x:Int),(eInt .i64).R S w e x→(eInt .i64).R S w' e x:=fun _ _ _ _ _ h=>h
/-- by their types -/
theorem AF0 {base base':Nat} {X Y:Nat→Prop} {W:World} {v u:Value} {vs:List Value} {l:List Int} (h:OwnL eRaw 41 base X W v vs) (h':OwnL (eInt .i64) 3 base' Y W u l) {b:Nat} (hv:v.ownBlock=some b) (hu:u.ownBlock=some b):False:=by
 obtain ⟨_,c1,k1⟩:=h.blk hv
 obtain ⟨_,c2,k2⟩:=h'.blk hu
 have e1:W.heap[b]?=some (.cells c1 41 (0,0)):=k1
 have e2:W.heap[b]?=some (.cells c2 3 (0,0)):=k2
 rw [e1] at e2
 cases e2
theorem MbI.ext {base:Nat} {W W':World} {v:Value} {vs:List Value} {l:List (List Nat)} (h:MbI base W v vs l) (e:Ext W W'):MbI base W' v vs l :=
 ⟨h.out.ext e,h.len,fun i u m h1 h2=>(h.inn i u m h1 h2).ext e,h.dis⟩
theorem MbI.toR {base:Nat} {W:World} {v:Value} {vs:List Value} {l:List (List Nat)} {S:Nat→Prop} (h:MbI base W v vs l) (hS:∀ k,base≤k→S k):eII.R S W v (l.map pInts):=by
 have hr:(RL eRaw (by decide)).R S W v vs:=by
  obtain ⟨es,h1,h2⟩:=h.out
  have h3:OwnL eRaw 41 base (fun _=>False) W v vs:=⟨es,h1,h2⟩
  exact h3.toR hS (fun _ h=>h.elim)
 obtain ⟨es,he,hrow⟩:=hr
 have hes:es=vs:=List.ext_getElem? fun i=>by
  rcases Nat.lt_or_ge i es.length with hi | hi
  ·have h1:=List.getElem?_eq_getElem hi
   have h2:=List.getElem?_eq_getElem (l:=vs) (i:=i) (by rw [←he.1];exact hi)
   have:=(he.2 i _ _ h1 h2).1
   rw [h1,h2,this]
  ·rw [List.getElem?_eq_none hi,List.getElem?_eq_none (by rw [←he.1];exact hi)]
 subst hes
 refine ⟨es,⟨by rw [List.length_map];exact h.len,fun i e x h1 h2=>?_⟩,by rw [List.length_map,←h.len];exact hrow⟩
 rw [List.getElem?_map] at h2
 cases hm:l[i]? with
 | none=>rw [hm] at h2;cases h2
 | some m =>
  rw [hm] at h2
  cases h2
  obtain ⟨es',h3,h4⟩:=h.inn i e m h1 hm
  have h5:OwnL (eInt .i64) 3 base (fun _=>False) W e (pInts m):=⟨es',h3,h4⟩
  exact h5.toR hS (fun _ h=>h.elim)
theorem AQ1:Ent Tryz.prog 118:=A0 Tryz.func118 (by kernel_rfl) rfl
set_option maxRecDepth 8000 in
theorem AO7 {S:Nat→Prop} {w:World} {vn vo:Value} {n:NtV} {o:List Int} (up:Up S w) (hn:eN.R S w vn n) (ho:eI.R S w vo o) :
  CR Tryz.prog 118 #[vn,vo] w (Two (eII.at S (if outE n o=0 then ((nwOf n o).memb (nwOf n o).B).map pInts else [])) (Is (.int .i64 (outE n o)))):=by
 obtain ⟨s,rfl,hs,hb⟩:=hn
 have hn:eN.R S w (.agg #[.int .i64 n.b,s]) n:=⟨s,rfl,hs,hb⟩
 refine enter Tryz.func118 rfl Tryz.ntmps118 rfl (.beg (.go rfl (.box rfl rfl fun w1 b2 n1=>?_)))
 obtain ⟨e1,k2,hb2,hs1⟩:=n1
 refine .go rfl (.ldA ty_N rfl rfl k2 rfl (.go rfl ?_))
 refine .call _ rfl AE2 rfl (AD4 (up.ext e1.size) (hn.ext e1) (ho.ext e1)) fun v2 w2 e2 h2=>?_
 obtain ⟨vl,ve,rfl,hl,he⟩:=h2
 replace he:ve=.int .i64 (outE n o):=he
 subst he
 have x2:=e1.trans e2
 refine .go rfl ?_
 by_cases hE:outE n o=0
 rotate_left
 ·refine .neqT rfl rfl rfl hE (.goE rfl ?_)
  refine .plain [_,_] Tryz.results118 ⟨rfl,rfl,trivial⟩ ⟨x2,_,_,rfl,?_,rfl⟩
  rw [if_neg hE];exact RL.nil
 have ok:=Q5 hE
 rw [if_pos hE] at hl ⊢
 have hB6:=ok.b6
 have hs2:=x2.size
 have hlW:∀ {W:World},Below w2.heap.size w2 W→eI.R (fun k=>S k∧k<w2.heap.size) W vl (tabI (nwOf n o).B (nwOf n o).lab):=fun h=>eI.keep (fun k c t f hk hh=>(h.block k hk.2).trans hh) (ER.lt eI hl)
 refine .neqF rfl rfl rfl hE (.go rfl (.lenR un_I rfl rfl hl ?_))
 rw [M0]
 refine .goC rfl (.lp (α:=Nat×Value×List Value) [20,21] rfl (fun y=>[(22,.int .i64 (y.1:Nat)),(8,y.2.1)]) (fun y W=>Below w2.heap.size w2 W∧y.1≤(nwOf n o).B∧MbI w2.heap.size W y.2.1 y.2.2 ((nwOf n o).memb y.1)) (fun y=>(nwOf n o).B-y.1) (0,.slice none 0 0,[]) (lc2 rfl rfl) ⟨Below.refl _ _,Nat.zero_le _,OwnL.nil,rfl,(fun i u m h=>by cases h),(fun i j u u' _ h=>by cases h)⟩ ?_)
 rintro ⟨i,v,vs⟩ W ⟨hW,hi,hm⟩
 replace hW:Below w2.heap.size w2 W:=hW
 replace hi:i≤(nwOf n o).B:=hi
 replace hm:MbI w2.heap.size W v vs ((nwOf n o).memb i):=hm
 refine .go rfl ?_
 rcases Nat.lt_or_ge i (nwOf n o).B with hlt | hge
 rotate_left
 ·refine .lssF rfl rfl rfl (by omega) (.goE rfl ?_)
  have:i=(nwOf n o).B:=by omega
  subst this
  exact .plain [_,_] Tryz.results118 ⟨rfl,rfl,trivial⟩ ⟨x2.trans hW,_,_,rfl,hm.toR fun k hk=>up k (by omega),by rw [hE]⟩
 refine .lssT rfl rfl rfl (by omega) (.go rfl (.ixN (i:=i) un_I B9 rfl rfl (hlW hW) rfl (AC6 hlt) fun q hq=>.ldE (E:=eInt .i64) B9 rfl rfl hq fun e he=>?_))
 obtain ⟨rfl,_⟩:=he
 have hcl:=(nwOf n o).cnt_le i
 have hlb:=(nwOf n o).lab_cnt i
 have hlen:vs.length=(nwOf n o).cnt i:=by rw [hm.len,Nw.memb_len]
 refine .goZ 8 rfl (.cut (α:=Value×List Value×List (List Nat)) 1 [9,10,20,21,22] rfl (fun y=>[(8,y.1)]) (fun y W'=>Below w2.heap.size w2 W'∧MbI w2.heap.size W' y.1 y.2.1 y.2.2∧(nwOf n o).lab i<y.2.2.length∧y.2.2.length≤6∧∃ m,y.2.2[(nwOf n o).lab i]?=some m∧m.length≤6∧(nwOf n o).memb (i+1)=y.2.2.set ((nwOf n o).lab i) (m++[i])) rfl ?_ ?_)
 rotate_left
 ·refine .go rfl (.lenR L1 rfl rfl (hm.out.toR (S:=fun _=>True) (hsz:=by decide) (fun _ _=>trivial) (fun _ _=>trivial)) ?_)
  rw [hlen]
  by_cases hr:(nwOf n o).root i=i
  ·refine .eqlT rfl rfl rfl (by rw [hlb.2 hr]) (.go rfl (.bsl _ rfl rfl bsl_IIn fun W1 by_ ny=>?_))
   obtain ⟨ey,ky,hby,hsy⟩:=ny
   have hW1:=hW.trans (ey.mono hW.size)
   have hm1:=hm.ext ey
   refine .gv rfl rfl (AP0 (E:=eRaw) (base:=w2.heap.size) (n:=.slice none 0 0) (e:=.slice none 0 0) (by decide) L1 info_IL rfl rfl rfl hm1.out ky ⟨rfl,none,0,0,rfl⟩ (by rw [hlen];omega) (by decide) hW1.size) ?_
   rintro v8 W8 ⟨ho8,hg8⟩
   refine .goN rfl (.mk (v8,vs++[.slice none 0 0],(nwOf n o).memb i++[[]]) rfl (lc1 rfl) ⟨hm1.out.below hg8 hW1 hW1.size,⟨ho8,by rw [List.length_append,List.length_append,hm.len];rfl,?_,?_⟩,?_,?_,[],?_,by decide,?_⟩)
   ·intro j u m h1 h2
    rcases Nat.lt_or_ge j vs.length with hj | hj
    ·rw [List.getElem?_append_left hj] at h1
     rw [List.getElem?_append_left (by rw [←hm.len];exact hj)] at h2
     have hin:=hm1.inn j u m h1 h2
     exact hin.grown hg8 (fun b hb hv=>AF0 hm1.out hin hv hb) AL4
    ·rw [List.getElem?_append_right hj] at h1
     rw [List.getElem?_append_right (by rw [←hm.len];exact hj),←hm.len] at h2
     cases hk:j-vs.length with
     | zero=>rw [hk] at h1 h2;simp at h1 h2;subst h1;subst h2;exact OwnL.nil
     | succ k=>rw [hk] at h1;simp at h1
   ·intro a b u u' hab h1 h2 c hc
    have key:∀ {k:Nat} {x:Value},(vs++[Value.slice none 0 0])[k]?=some x→x.ownBlock=some c→vs[k]?=some x:=fun {k x} hx hxc=>by
     rcases Nat.lt_or_ge k vs.length with hk | hk
     ·rw [List.getElem?_append_left hk] at hx;exact hx
     ·rw [List.getElem?_append_right hk] at hx
      cases hkk:k-vs.length with
      | zero=>rw [hkk] at hx;simp at hx;subst hx;cases hxc
      | succ k'=>rw [hkk] at hx;simp at hx
    intro hc'
    exact hm.dis a b u u' hab (key h1 hc) (key h2 hc') c hc hc'
   ·show (nwOf n o).lab i<_
    rw [hlb.2 hr,List.length_append,Nw.memb_len];simp
   ·show _≤6
    rw [List.length_append,Nw.memb_len];simp;omega
   ·show (_++_)[(nwOf n o).lab i]?=_
    rw [hlb.2 hr,List.getElem?_append_right (by rw [Nw.memb_len];exact Nat.le_refl _),Nw.memb_len,Nat.sub_self];rfl
   ·show _=List.set _ _ _
    rw [Nw.memb_new hr,hlb.2 hr,List.set_append_right _ _ (by rw [Nw.memb_len];exact Nat.le_refl _),Nw.memb_len,Nat.sub_self];rfl
  ·have hlt':(nwOf n o).root i<i:=by have:=Nw.root_le (n:=nwOf n o) i;omega
   obtain ⟨h1,h2⟩:=(nwOf n o).refsTo_lab (b:=(nwOf n o).root i) hlt'
   rw [Nw.root_root,←(nwOf n o).lab_of i] at h1
   rw [←(nwOf n o).lab_of i] at h2
   refine .eqlF rfl rfl rfl (by intro e;exact hr (hlb.1 (by omega))) (.goN rfl (.mk (v,vs,(nwOf n o).memb i) rfl (lc1 rfl) ⟨hW,hm,?_,?_,(nwOf n o).mem i ((nwOf n o).root i),?_,?_,Nw.memb_old hr⟩))
   ·show _<((nwOf n o).memb i).length
    rw [Nw.memb_len];exact h2
   ·show ((nwOf n o).memb i).length≤6
    rw [Nw.memb_len];omega
   ·show ((nwOf n o).memb i)[_]?=_
    rw [Nw.memb_get h2,h1]
   ·have:=List.length_filter_le (fun b=>decide ((nwOf n o).root b=(nwOf n o).root i)) (List.range i)
    rw [List.length_range] at this
    exact Nat.le_trans this (by omega)
 clear hm hW hlen
 rintro ⟨v,vs,l⟩ W' ⟨hW,hm,hll,hl6,m,hmm,hm6,hst⟩
 replace hW:Below w2.heap.size w2 W':=hW
 replace hm:MbI w2.heap.size W' v vs l:=hm
 replace hll:(nwOf n o).lab i<l.length:=hll
 replace hl6:l.length≤6:=hl6
 replace hmm:l[(nwOf n o).lab i]?=some m:=hmm
 replace hst:(nwOf n o).memb (i+1)=l.set ((nwOf n o).lab i) (m++[i]):=hst
 have hvl:=hm.len
 have hvg:vs[(nwOf n o).lab i]?=some (vs.getD ((nwOf n o).lab i) (.slice none 0 0)):=A6 (by omega)
 generalize vs.getD ((nwOf n o).lab i) (.slice none 0 0)=u at hvg
 generalize hj:(nwOf n o).lab i=j at *
 have hin:=hm.inn j u m hvg hmm
 obtain ⟨g,cap,hv,hcap,_,hgb,hF⟩:=hm.out.fp (by omega)
 rw [hv]
 refine .go rfl (.ixB (i:=j) L1 ty_I rfl rfl rfl (by omega) (.ldP (E:=eRaw) (i:=j) ty_I rfl rfl (Nat.zero_add _) hF hvg fun e he=>.go rfl (.bsl _ rfl rfl Ag5 fun W1 by_ ny=>?_)))
 obtain ⟨rfl,a1,n1,c1,hu⟩:=he
 obtain ⟨ey,ky,hby,hsy⟩:=ny
 have hW1:=hW.trans (ey.mono hW.size)
 have hm1:=hm.ext ey
 have hin1:=hin.ext ey
 refine .gv rfl rfl (Ag0 (E:=eInt .i64) (base:=w2.heap.size) (n:=((i:Nat):Int)) (e:=.int .i64 (i:Nat)) (by decide) un_I AO8 rfl rfl rfl hin1 ky ⟨rfl,K3.2 (by omega)⟩ (by simp;omega) (by decide) hW1.size) ?_
 rintro v8 W8 ⟨ho8,hg8,hwh⟩
 have hout8:=hm1.out.grown hg8 (fun b hb hv=>AF0 hm1.out hin1 hb hv) BE0
 obtain ⟨a8,c8,hv8⟩:=ho8.slice
 refine .go rfl (.ixB (i:=j) L1 ty_I rfl rfl rfl (by omega) ?_)
 refine .gv rfl rfl (BG4 (E:=eRaw) (i:=j) (by decide) ty_I rfl rfl hout8 hv rfl (by omega) (Nat.zero_add _) (z:=v8) ⟨rfl,_,_,_,hv8⟩) ?_
 rintro _ W9 ⟨ho9,u9,hg9⟩
 have hvo:v.ownBlock=some g:=by rw [hv];rfl
 have hs8:W1.heap.size≤W8.heap.size:=hg8.size
 have hB8:Below w2.heap.size w2 W8:=hin1.below hg8 hW1 hW1.size
 refine .go rfl (.inc rfl rfl rfl (by omega) (.goN rfl (.mk (i+1,v,vs.set j v8) rfl (lc2 rfl (by rw [hv];rfl)) ⟨⟨u9.below hB8 hg9,hlt,?_⟩,by show (nwOf n o).B-(i+1)<(nwOf n o).B-i;omega⟩)))
 show MbI w2.heap.size W9 v (vs.set j v8) ((nwOf n o).memb (i+1))
 rw [hst]
 refine ⟨ho9,by rw [List.length_set,List.length_set];exact hvl,fun k x y h1 h2=>?_,fun a b x x' hab h1 h2 c hc hc'=>?_⟩
 ·by_cases e:j=k
  ·subst e
   rw [List.getElem?_set_self (by omega)] at h1 h2
   cases h1;cases h2
   have:pInts (m++[i])=pInts m++[((i:Nat):Int)]:=by unfold pInts;rw [List.map_append];rfl
   rw [this]
   exact ho8.updN u9 (fun h=>AF0 hout8 ho8 hvo h) AL4
  ·rw [List.getElem?_set_ne e] at h1 h2
   have h3:=hm1.inn k x y h1 h2
   have h4:=h3.grown hg8 (fun b hb hv=>hm.dis k j x _ (Ne.symm e) h1 hvg b hb hv) AL4
   exact h4.updN u9 (fun h=>AF0 hout8 h4 hvo h) AL4
 ·have old:∀ {k:Nat} {y:Value},vs[k]?=some y→y.ownBlock=some c→c<W1.heap.size:=fun {k y} hk hc=>by
   obtain ⟨z,hz⟩:∃ z,l[k]?=some z:=⟨_,List.getElem?_eq_getElem (by rw [←hvl];exact (List.getElem?_eq_some_iff.1 hk).1)⟩
   obtain ⟨_,cs,hb⟩:=(hm1.inn k y z hk hz).blk hc
   exact hb.lt
  by_cases ea:j=a
  ·subst ea
   rw [List.getElem?_set_self (by omega)] at h1
   cases h1
   rw [List.getElem?_set_ne hab] at h2
   rcases hwh with h | h
   ·exact hm.dis j b _ x' hab hvg h2 c (h▸hc) hc'
   ·rw [h] at hc;cases hc;exact Nat.lt_irrefl _ (old h2 hc')
  ·rw [List.getElem?_set_ne ea] at h1
   by_cases eb:j=b
   ·subst eb
    rw [List.getElem?_set_self (by omega)] at h2
    cases h2
    rcases hwh with h | h
    ·exact hm.dis a j x _ (Ne.symm ea) h1 hvg c hc (h▸hc')
    ·rw [h] at hc';cases hc';exact Nat.lt_irrefl _ (old h1 hc)
   ·rw [List.getElem?_set_ne eb] at h2
    exact hm.dis a b x x' hab h1 h2 c hc hc'
end Go.Proofs.YteghbhdniimjbaaGreat

namespace Go.Kx
open Go Go.RowKit
section
variable {n:Nw}
def Nw.mem1 (n:Nw) (i r:Nat):List Nat:=(List.range i).filter fun c=>decide (c≠r∧n.root c=r)
theorem Nw.mem1_succ (n:Nw) (i r:Nat):n.mem1 (i+1) r=n.mem1 i r++if i≠r∧n.root i=r then [i] else []:=by
 unfold Nw.mem1
 rw [List.range_succ,List.filter_append]
 by_cases h:i≠r∧n.root i=r
 ·simp [h]
 ·rw [if_neg h];simp [h]
theorem Nw.mem_first {r:Nat} (h:n.root r=r):∀ d,n.mem (r+1+d) r=r::n.mem1 (r+1+d) r
 | 0=>by
  have e1:n.mem r r=[]:=by
   unfold Nw.mem
   rw [List.filter_eq_nil_iff]
   intro b hb
   have:=Nw.root_le (n:=n) b
   have:=List.mem_range.1 hb
   simp;omega
  have e2:n.mem1 r r=[]:=by
   unfold Nw.mem1
   rw [List.filter_eq_nil_iff]
   intro b hb
   have:=Nw.root_le (n:=n) b
   have:=List.mem_range.1 hb
   simp;omega
  rw [Nat.add_zero,Nw.mem_succ,Nw.mem1_succ,e1,e2,if_pos h,if_neg (by simp)];rfl
 | d+1=>by
  rw [show r+1+(d+1)=(r+1+d)+1 by omega,Nw.mem_succ,Nw.mem1_succ,Nw.mem_first h d]
  by_cases h':n.root (r+1+d)=r
  ·rw [if_pos h',if_pos ⟨by omega,h'⟩];rfl
  ·rw [if_neg h',if_neg fun h''=>h' h''.2];rfl
theorem Nw.mem_cons {B r:Nat} (h:n.root r=r) (hr:r<B):n.mem B r=r::n.mem1 B r:=by
 have:=Nw.mem_first (n:=n) h (B-(r+1))
 rwa [show r+1+(B-(r+1))=B by omega] at this
def lsum (x:Nat→Rat) (l:List Nat):Rat:=l.foldl (fun s b=>s+x b) 0
theorem AO6 (x:Nat→Rat) (l:List Nat) (b:Nat):lsum x (l++[b])=lsum x l+x b:=by unfold lsum;rw [List.foldl_append];rfl
theorem AS0 (x:Nat→Rat) (p:Nat→Prop) [DecidablePred p]:∀ B,lsum x ((List.range B).filter fun c=>decide (p c))=sumN B fun c=>if p c then x c else 0
 | 0=>rfl
 | B+1=>by
  rw [List.range_succ,List.filter_append]
  have ih:=AS0 x p B
  show _=sumN B _+_
  by_cases h:p B
  ·rw [show List.filter (fun c=>decide (p c)) [B]=[B] by simp [h],AO6,ih]
   dsimp only
   rw [if_pos h]
  ·rw [show List.filter (fun c=>decide (p c)) [B]=[] by simp [h],List.append_nil,ih]
   dsimp only
   rw [if_neg h,Rat.add_zero]
theorem Nw.bl_root (x:Nat→Rat) {r:Nat} (h:n.root r=r):n.bl x r = - lsum x (n.mem1 n.B r):=by
 unfold Nw.bl Nw.mem1
 rw [if_pos h,AS0]
theorem Al0 {x:Nat→Rat} {L:Nat} (hx:∀ b,Rsz (x b) L):∀ (m:Nat) (l:List Nat),l.length=m→Rsz (lsum x l) (1+m*(L+1))
 | 0,l,hl=>by rw [List.length_eq_zero_iff.1 hl];exact Rsz.zero (by omega)
 | m+1,l,hl=>by
  obtain ⟨l',k,rfl⟩:∃ l' k,l=l'++[k]:=⟨l.dropLast,l.getLast (by intro e;rw [e] at hl;cases hl),(List.dropLast_concat_getLast _).symm⟩
  rw [AO6]
  have h1:=Al0 hx m l' (by simp at hl;exact hl)
  refine (h1.add (hx k)).mono ?_
  rw [Nat.add_mul];omega
end
end Go.Kx
namespace Go.Proofs.YteghbhdniimjbaaGreat
open Go Go.Kx Go.RowKit
open Classical in
noncomputable def blB (n:NtV) (o:List Int) (l:Nat):Bool:=decide (sfE n o l=0)
theorem AU6:Ent Tryz.prog 43:=A0 Tryz.func43 (by kernel_rfl) rfl
set_option maxRecDepth 8000 in
open Classical in
theorem AU0 {S:Nat→Prop} {w:World} {vn vo vx:Value} {n:NtV} {o:List Int} {x:List QV} {L:Nat} (up:Up S w) (hn:eN.R S w vn n) (ho:eI.R S w vo o) (hx:eV.R S w vx x) (hkx:vk L x) (hL1:1≤L) (hL:L≤1000000) :
  CR Tryz.prog 43 #[vn,vo,vx] w (Two (eV.at S (if sfE n o x.length=0 then tab (nwOf n o).B ((nwOf n o).bl (rv x)) else [])) (Is (.bool (blB n o x.length)))):=by
 obtain ⟨s,rfl,hs,hb⟩:=hn
 have hn:eN.R S w (.agg #[.int .i64 n.b,s]) n:=⟨s,rfl,hs,hb⟩
 refine enter Tryz.func43 rfl Tryz.ntmps43 rfl (.beg (.go rfl (.box rfl rfl fun w1 b3 n1=>?_)))
 obtain ⟨e1,k3,hb3,hs1⟩:=n1
 refine .go rfl (.ldA ty_N rfl rfl k3 rfl (.go rfl ?_))
 refine .call _ rfl AQ1 rfl (AO7 (up.ext e1.size) (hn.ext e1) (ho.ext e1)) fun v2 w2 e2 h2=>?_
 obtain ⟨vr,ve,rfl,hr,he⟩:=h2
 replace he:ve=.int .i64 (outE n o):=he
 subst he
 have x2:=e1.trans e2
 refine .go rfl ?_
 by_cases hE:outE n o=0
 rotate_left
 ·have hb:sfE n o x.length=outE n o:=by unfold sfE;rw [if_pos hE]
  refine .neqT rfl rfl rfl hE (.goE rfl ?_)
  refine .plain [_,_] Tryz.results43 ⟨rfl,rfl,trivial⟩ ⟨x2,_,_,rfl,?_,by unfold blB;rw [decide_eq_false fun h=>hE (hb.symm.trans h)]⟩
  rw [if_neg (by rw [hb];exact hE)];exact RL.nil
 have ok:=Q5 hE
 rw [if_pos hE] at hr
 have hB6:=ok.b6
 have hB1:=ok.b1
 have hnb:=ok.b
 have k3:=k3.ext e2
 rw [hnb] at k3
 obtain ⟨_,_,_,_,hxl⟩:=RL.len hx
 refine .neqF rfl rfl rfl hE (.go rfl (.lenR un_V rfl rfl (hx.ext x2) (.go rfl (.fa H9 rfl rfl (.go rfl (.ld A7 rfl rfl k3 rfl (.go rfl ?_)))))))
 by_cases hlen:(x.length:Int)≤n.b
 rotate_left
 ·have hb:sfE n o x.length=5:=by unfold sfE;rw [if_neg (by simpa using hE),if_neg hlen]
  refine .gtrT rfl rfl rfl (by omega) (.goE rfl ?_)
  refine .plain [_,_] Tryz.results43 ⟨rfl,rfl,trivial⟩ ⟨x2,_,_,rfl,?_,by unfold blB;rw [decide_eq_false fun h=>by rw [hb] at h;exact absurd h (by decide)]⟩
  rw [if_neg (by rw [hb];decide)];exact RL.nil
 have hno:sfE n o x.length=0:=by unfold sfE;rw [if_neg (by simpa using hE),if_pos hlen]
 rw [if_pos hno]
 refine .gtrF rfl rfl rfl (by omega) (.go rfl (.fa H9 rfl rfl (.ld A7 rfl rfl k3 rfl ?_)))
 refine .call _ rfl K7 rfl (K1 (up.ext x2.size) (hx.ext x2) hkx hL1 (by omega)) fun v3 w3 e3 h3=>?_
 obtain ⟨h3,_⟩ | ⟨_,g,N3,hN3,hg,rfl,fb⟩:=h3
 ·have h3:((nwOf n o).B:Int)<1:=h3
  omega
 have hNB:N3=(nwOf n o).B:=by
  have hN3:(N3:Int)=min ((nwOf n o).B:Int) 65536:=hN3
  omega
 subst hNB
 have hs2:=x2.size
 have hs3:=e3.size
 have hgl:=fb.lt
 have hrT:∀ {W:World},Ext w2 W→eII.R S W vr (((nwOf n o).memb (nwOf n o).B).map pInts):=fun e=>ER.ext eII hr e
 generalize hBB:(nwOf n o).B=B at hB6 hB1 hnb k3 fb hrT
 have hcl:(nwOf n o).cnt B≤B:=(nwOf n o).cnt_le B
 have hml:(((nwOf n o).memb B).map pInts).length=(nwOf n o).cnt B:=by rw [List.length_map,Nw.memb_len]
 have hrf:(nwOf n o).refs=(nwOf n o).refsTo B:=by rw [←hBB];rfl
 generalize hZ:(fun i b=>if b∈((nwOf n o).refsTo B).take i then (nwOf n o).bl (rv x) b else rv x b:Nat→Nat→Rat)=Z
 refine .goC rfl (.lp (α:=Nat) [3,8,10] rfl (fun i=>[(11,.int .i64 (i:Nat))]) (fun i W=>Ext w2 W∧i≤(nwOf n o).cnt B∧FB eQ 32 S W g (tab B (Z i))) (fun i=>(nwOf n o).cnt B-i) 0 (lc1 rfl) ⟨e3,Nat.zero_le _,by rw [←hZ];simpa using fb⟩ ?_)
 clear fb
 rintro i W ⟨hW,hi,fb⟩
 have hWs:=hW.size
 have hgW:=fb.lt
 refine .go rfl (.lenR L1 rfl rfl (hrT hW) ?_)
 rw [hml]
 rcases Nat.lt_or_ge i ((nwOf n o).cnt B) with hlt | hge
 rotate_left
 ·have:i=(nwOf n o).cnt B:=by omega
  subst this
  have hfin:tab B (Z ((nwOf n o).cnt B))=tab B ((nwOf n o).bl (rv x)):=D6 fun b hb=>by
   rw [←hZ]
   dsimp only
   rw [List.take_of_length_le (by rw [Nw.refsTo_len];exact Nat.le_refl _)]
   by_cases h:b∈(nwOf n o).refsTo B
   ·rw [if_pos h]
   ·rw [if_neg h]
    unfold Nw.bl
    rw [if_neg fun h'=>h (Nw.refsTo_mem.2 ⟨hb,h'⟩)]
  rw [hfin] at fb
  have hR:eV.R S W (slB B g) (tab B ((nwOf n o).bl (rv x))):=by
   have:=fb.toR (hsz:=by decide) (c:=B) (up g (by omega)) (by rw [A1];exact Nat.le_refl _) (by rw [A1];omega)
   rw [A1] at this
   exact this
  refine .lssF rfl rfl rfl (by omega) (.goC rfl ?_)
  refine .par follows 7 [.inl (slB B g),.inl (slB B g),.inl (.int .i64 (B:Nat)),.inl (.pointer (some ⟨b3,0,none⟩)),.inl (.int .i64 (B:Nat)),.inl (.bool true),.inl _] [[],[],[(148,1)],[],[(150,3)],[(149,2),(151,4)],[(147,0)]] (by kernel_rfl) ⟨
   fun w e=>(v_mv rfl).ob,
   fun w e=>(v_mv rfl).ob,
   fun w e=>(BC5 un_V rfl).ob,
   fun w e=>(v_fa H9 rfl).ob,
   fun w e=>(v_ld A7 rfl ((k3.ext hW).ext e) rfl).ob,
   fun w e=>((Ab9 rfl rfl).eq (by simp)).ob,
   fun w e=>(v_as rfl).ob,trivial⟩ ?_
  intro W9 e9
  exact .goE rfl (.plain [_,_] Tryz.results43 ⟨rfl,rfl,trivial⟩ ⟨x2.trans (hW.trans e9),_,_,rfl,ER.ext eV hR e9,by unfold blB;rw [decide_eq_true hno]⟩)
 have hrB0:((nwOf n o).refsTo B).getD i 0∈(nwOf n o).refsTo B:=I7 (by rw [Nw.refsTo_len];exact hlt)
 obtain ⟨hrB,hrr⟩:=Nw.refsTo_mem.1 hrB0
 have hrow:(((nwOf n o).memb B).map pInts)[i]?=some (pInts ((nwOf n o).mem B (((nwOf n o).refsTo B).getD i 0))):=by rw [List.getElem?_map,Nw.memb_get hlt];rfl
 have htk:((nwOf n o).refsTo B).take (i+1)=((nwOf n o).refsTo B).take i++[((nwOf n o).refsTo B).getD i 0]:=by rw [List.take_add_one,A6 (z:=0) (by rw [Nw.refsTo_len];exact hlt)];rfl
 generalize hr0:((nwOf n o).refsTo B).getD i 0=r at hrB hrr hrow htk
 have hmc:=Nw.mem_cons (n:=nwOf n o) hrr hrB
 have hmB:∀ b∈(nwOf n o).mem B r,b<B:=fun b hb=>List.mem_range.1 (List.mem_filter.1 hb).1
 have hm6:((nwOf n o).mem B r).length≤6:=by
  have:=List.length_filter_le (fun b=>decide ((nwOf n o).root b=r)) (List.range B)
  rw [List.length_range] at this
  exact Nat.le_trans this hB6
 have hroot:∀ b∈(nwOf n o).mem1 B r,b≠r∧(nwOf n o).root b=r∧b<B:=fun b hb=>by
  obtain ⟨h1,h2⟩:=List.mem_filter.1 hb
  have:=of_decide_eq_true h2
  exact ⟨this.1,this.2,List.mem_range.1 h1⟩
 generalize hm:(nwOf n o).mem B r=m at hrow hmc hmB hm6
 have hml1:m.length=((nwOf n o).mem1 B r).length+1:=by rw [hmc];rfl
 have hm0:(pInts m)[0]?=some ((r:Nat):Int):=by rw [hmc];rfl
 have hpl:(pInts m).length=m.length:=by simp
 have hget:∀ k,k<m.length→(pInts m)[k]?=some ((m.getD k 0:Nat):Int):=fun k hk=>by
  unfold pInts
  rw [List.getElem?_map,A6 (z:=0) hk];rfl
 have hgB:∀ k,k<m.length→m.getD k 0<B:=fun k hk=>hmB _ (I7 hk)
 refine .lssT rfl rfl rfl (by omega) (.goC rfl (.cut (α:=Nat) 1 [3,8,10,11] rfl (fun k=>[(12,.int .i64 (k:Nat))]) (fun k W'=>W'=W) rfl ?_ ?_))
 rotate_left
 ·refine .lp (α:=Nat) [3,8,10,11] rfl (fun k=>[(12,.int .i64 (k:Nat))]) (fun k W'=>W'=W∧1≤k∧k≤m.length) (fun k=>m.length-k) 1 (lc1 rfl) ⟨rfl,Nat.le_refl _,by omega⟩ ?_
  rintro k W' ⟨hWe,hk1,hk⟩
  subst hWe
  refine .go rfl (.ixN (i:=i) L1 ty_I rfl rfl (hrT hW) rfl hrow fun p hp=>.ldE (E:=eI) ty_I rfl rfl hp fun e he=>.lenR un_I rfl rfl he ?_)
  rw [hpl]
  rcases Nat.lt_or_ge k m.length with hkl | hge
  rotate_left
  ·exact .lssF rfl rfl rfl (by omega) (.goN rfl (.mk k rfl (lc1 rfl) rfl))
  have hkB:=hgB k hkl
  refine .lssT rfl rfl rfl (by omega) (.go rfl (.ixN (i:=i) L1 ty_I rfl rfl (hrT hW) rfl hrow fun p1 hp1=>.ldE (E:=eI) ty_I rfl rfl hp1 fun f1 hf1=>.go rfl (.ixN (i:=k) un_I B9 rfl rfl hf1 rfl (hget k hkl) fun q1 hq1=>.ldE (E:=eInt .i64) B9 rfl rfl hq1 fun y1 hy1=>?_)))
  obtain ⟨rfl,_⟩:=hy1
  refine .lssF rfl rfl rfl (by omega) (.go rfl (.ixN (i:=i) L1 ty_I rfl rfl (hrT hW) rfl hrow fun p2 hp2=>.go rfl (.ldE (E:=eI) ty_I rfl rfl hp2 fun f2 hf2=>.go rfl (.ixN (i:=k) un_I B9 rfl rfl hf2 rfl (hget k hkl) fun q2 hq2=>.go rfl (.ldE (E:=eInt .i64) B9 rfl rfl hq2 fun y2 hy2=>.go rfl (.len un_V rfl rfl (.go rfl ?_)))))))
  obtain ⟨rfl,_⟩:=hy2
  refine .geqF rfl rfl rfl (by omega) (.go rfl (.ixN (i:=i) L1 ty_I rfl rfl (hrT hW) rfl hrow fun p3 hp3=>.go rfl (.ldE (E:=eI) ty_I rfl rfl hp3 fun f3 hf3=>.go rfl (.ixN (i:=0) un_I B9 rfl rfl hf3 rfl hm0 fun q3 hq3=>.go rfl (.ldE (E:=eInt .i64) B9 rfl rfl hq3 fun y3 hy3=>.go rfl ?_)))))
  obtain ⟨rfl,_⟩:=hy3
  refine .lssF rfl rfl rfl (by omega) (.go rfl (.ixN (i:=i) L1 ty_I rfl rfl (hrT hW) rfl hrow fun p4 hp4=>.go rfl (.ldE (E:=eI) ty_I rfl rfl hp4 fun f4 hf4=>.go rfl (.ixN (i:=0) un_I B9 rfl rfl hf4 rfl hm0 fun q4 hq4=>.go rfl (.ldE (E:=eInt .i64) B9 rfl rfl hq4 fun y4 hy4=>.go rfl (.len un_V rfl rfl (.go rfl ?_)))))))
  obtain ⟨rfl,_⟩:=hy4
  exact .geqF rfl rfl rfl (by omega) (.go rfl (.inc rfl rfl rfl (by omega) (.goN rfl (.mk (k+1) rfl (lc1 rfl) ⟨⟨rfl,by omega,hkl⟩,by show m.length-(k+1)<m.length-k;omega⟩))))
 rintro k0 W' hWe
 subst hWe
 refine .go rfl (.ixN (i:=i) L1 ty_I rfl rfl (hrT hW) rfl hrow fun p hp=>.ldE (E:=eI) ty_I rfl rfl hp fun e he=>.lenR un_I rfl rfl he ?_)
 rw [hpl]
 refine .eqlF rfl rfl rfl (by omega) (.go rfl (.ixN (i:=i) L1 ty_I rfl rfl (hrT hW) rfl hrow fun p3 hp3=>.go rfl (.ldE (E:=eI) ty_I rfl rfl hp3 fun f3 hf3=>.go rfl (.ixN (i:=0) un_I B9 rfl rfl hf3 rfl hm0 fun q3 hq3=>.go rfl (.ldE (E:=eInt .i64) B9 rfl rfl hq3 fun y3 hy3=>.go rfl ?_)))))
 obtain ⟨rfl,_⟩:=hy3
 refine .lssF rfl rfl rfl (by omega) (.go rfl (.ixN (i:=i) L1 ty_I rfl rfl (hrT hW) rfl hrow fun p4 hp4=>.go rfl (.ldE (E:=eI) ty_I rfl rfl hp4 fun f4 hf4=>.go rfl (.ixN (i:=0) un_I B9 rfl rfl hf4 rfl hm0 fun q4 hq4=>.go rfl (.ldE (E:=eInt .i64) B9 rfl rfl hq4 fun y4 hy4=>.go rfl (.len un_V rfl rfl (.go rfl ?_)))))))
 obtain ⟨rfl,_⟩:=hy4
 refine .geqF rfl rfl rfl (by omega) (.go rfl (.bld _ rfl rfl Ag9 (.alloc rfl C9 fun W1 b13 n13=>?_)))
 obtain ⟨g13,k13,hb13,hs13⟩:=n13
 have fb0:FB eQ 32 (fun k=>S k∧k≠b13) W1 g (tab B (Z i)):=(fb.mono (S':=fun k=>S k∧k≠b13) fun k hk h=>⟨h,by omega⟩).ext g13
 generalize hT:(fun k=>(S k∧k≠b13)∧k≠g)=T at fb0
 have hT':∀ k,T k↔(S k∧k≠b13)∧k≠g:=fun k=>by rw [←hT]
 refine .storeA (E:=eQ) (S:=T) ty_Q rfl rfl k13 rfl rfl zq_R (fun h=>((hT' _).1 h).1.2 rfl) fun W2 k13 u13 hy0=>?_
 have hs2':=u13.size
 have fb2:=fb0.upd u13 (by omega) fun h=>h.2 rfl
 have hW2:Ext w2 W2:=u13.below (hW.trans g13) (by omega)
 have hxs:∀ b,Rsz (rv x b) L:=fun b=>hkx.rsz hL1 b
 generalize hpp:(fun k=>lsum (rv x) (((nwOf n o).mem1 B r).take (k-1)))=ps
 have hps:∀ k,Rsz (ps k) (1+6*(L+1)):=fun k=>by
  rw [←hpp]
  refine (Al0 hxs _ _ rfl).mono ?_
  rw [List.length_take]
  have:=Nat.mul_le_mul_right (L+1) (show min (k-1) ((nwOf n o).mem1 B r).length≤6 by omega)
  omega
 have hZr:∀ b,b<B→(nwOf n o).root b=r→b≠r→Z i b=rv x b:=fun b hb h1 h2=>by
  rw [←hZ]
  dsimp only
  rw [if_neg fun h=>h2 ?_]
  have:=(Nw.refsTo_mem.1 (List.mem_of_mem_take h)).2
  exact this.symm.trans h1
 have hp1:ps 1=0:=by rw [←hpp];rfl
 refine .goC rfl (.cut (α:=Value×Nat) 1 [3,8,10,11,13] rfl (fun y=>[(14,.int .i64 (y.2:Nat))]) (fun y W'=>Ext w2 W'∧Blk W' b13 32 y.1.cells∧eQ.R T W' y.1 (qc (ps m.length))∧FB eQ 32 (fun k=>S k∧k≠b13) W' g (tab B (Z i))) rfl ?_ ?_)
 rotate_left
 ·refine .lp (α:=Nat×Value) [3,8,10,11,13] rfl (fun y=>[(14,.int .i64 (y.1:Nat))]) (fun y W'=>Ext w2 W'∧1≤y.1∧y.1≤m.length∧Blk W' b13 32 y.2.cells∧eQ.R T W' y.2 (qc (ps y.1))∧FB eQ 32 (fun k=>S k∧k≠b13) W' g (tab B (Z i))) (fun y=>m.length-y.1) (1,zq) (lc1 rfl) ⟨hW2,Nat.le_refl _,by show 1≤m.length;omega,k13,by show eQ.R T W2 zq (qc (ps 1));rw [hp1,U8];exact hy0,fb2⟩ ?_
  clear fb0 fb2 hW2 k13 hy0 hs2' u13 hs13 g13
  rintro ⟨k,y⟩ W3 ⟨hW3,hk1,hk,k13,hy,fb3⟩
  replace hW3:Ext w2 W3:=hW3
  replace hk1:1≤k:=hk1
  replace hk:k≤m.length:=hk
  replace k13:Blk W3 b13 32 y.cells:=k13
  replace hy:eQ.R T W3 y (qc (ps k)):=hy
  replace fb3:FB eQ 32 (fun k=>S k∧k≠b13) W3 g (tab B (Z i)):=fb3
  have hyv:=shpA (E:=eQ) rfl hy
  have h13l:=k13.lt
  have hgl3:=fb3.lt
  refine .go rfl (.ixN (i:=i) L1 ty_I rfl rfl (hrT hW3) rfl hrow fun p hp=>.ldE (E:=eI) ty_I rfl rfl hp fun e he=>.lenR un_I rfl rfl he ?_)
  rw [hpl]
  rcases Nat.lt_or_ge k m.length with hkl | hge
  rotate_left
  ·have:k=m.length:=by omega
   subst this
   exact .lssF rfl rfl rfl (by omega) (.goN rfl (.mk (y,m.length) rfl (lc1 rfl) ⟨hW3,k13,hy,fb3⟩))
  have hkB:=hgB k hkl
  have hmk:m.getD k 0=((nwOf n o).mem1 B r).getD (k-1) 0:=by
   rw [hmc]
   obtain ⟨k',rfl⟩:∃ k',k=k'+1:=⟨k-1,by omega⟩
   rfl
  obtain ⟨hk2,hk3,_⟩:=hroot _ (I7 (show k-1<((nwOf n o).mem1 B r).length by omega))
  rw [←hmk] at hk2 hk3
  have hzk:=hZr _ hkB hk3 hk2
  have hpk:ps (k+1)=ps k+rv x (m.getD k 0):=by
   rw [←hpp]
   dsimp only
   rw [show k+1-1=(k-1)+1 by omega,List.take_add_one,A6 (z:=0) (show k-1<((nwOf n o).mem1 B r).length by omega),←hmk]
   exact AO6 _ _ _
  have upT':∀ {W':World},W3.heap.size≤W'.heap.size→Up T W':=fun h j hj=>(hT' j).2 ⟨⟨up j (by have:=hW3.size;omega),by omega⟩,by omega⟩
  refine .lssT rfl rfl rfl (by omega) (.goC rfl ?_)
  refine .par follows 11 [.inl y,.inl (slB B g),.inl vr,.inl (.int .i64 (i:Nat)),.inr (Ptr eI S (pInts m)),.inr (eI.at S (pInts m)),.inl (.int .i64 (k:Nat)),.inr (Ptr (eInt .i64) S ((m.getD k 0:Nat):Int)),.inl (.int .i64 (m.getD k 0:Nat)),.inl (.pointer (some ⟨g,0+m.getD k 0*4,none⟩)),.inr (eQ.at T (qc (rv x (m.getD k 0))))] [[],[],[],[],[(127,2),(128,3)],[(129,4)],[],[(130,5),(131,6)],[(132,7)],[(126,1),(133,8)],[(134,9)]] (by kernel_rfl) ⟨
   fun w e=>((C0 ty_Q rfl (k13.ext e) (eQ.csz hy)).eq hyv.symm).ob,
   fun w e=>(v_mv rfl).ob,
   fun w e=>(v_mv rfl).ob,
   fun w e=>(v_mv rfl).ob,
   fun w e=>E8 (i:=i) L1 ty_I rfl (ER.ext eII (hrT hW3) e) rfl hrow,
   fun w e x4 hx4=>R5 ty_I rfl hx4,
   fun w e=>(v_mv rfl).ob,
   fun w e x5 hx5=>E8 (i:=k) un_I B9 rfl hx5 rfl (hget k hkl),
   fun w e x7 hx7=>AO5 B9 rfl hx7,
   fun w e=>(L4 (i:=m.getD k 0) un_V ty_Q rfl rfl hkB).ob,
   fun w e=>(AI6 (E:=eQ) (i:=m.getD k 0) (by decide) ty_Q rfl (Nat.zero_add _) (fb3.ext e) (by rw [L5 hkB,hzk])).mono fun v' w' h=>by rw [←hT];exact h,trivial⟩ ?_
  intro W4' e4' _ _ _ _ _ _ x10 hx10
  have hadd:=AA6 (L:=1+6*(L+1)) (upT' e4'.size) (ER.ext eQ hy e4') hx10 (hps _).toOk ((hxs _).mono (by omega)).toOk (by omega) (by omega)
  rw [E1,E1,←hpk] at hadd
  refine .call _ rfl AB8 rfl hadd fun y4 W4 e4 hy4=>?_
  have e4:=e4'.trans e4
  have hs4:=e4.size
  refine .storeA (E:=eQ) (S:=T) ty_Q rfl rfl (k13.ext e4) rfl (eQ.csz hy) hy4 (fun h=>((hT' _).1 h).1.2 rfl) fun W5 k13 u5 hy5=>?_
  exact .go rfl (.inc rfl rfl rfl (by omega) (.goN rfl (.mk (k+1,y4) rfl (lc1 rfl) ⟨⟨u5.below (hW3.trans e4) (by omega),by show 1≤k+1;omega,hkl,k13,hy5,(fb3.ext e4).upd u5 (by omega) fun h=>h.2 rfl⟩,by show m.length-(k+1)<m.length-k;omega⟩)))
 clear fb0 fb2 hW2 k13 hy0 hs2' u13
 rintro ⟨y,k1⟩ W3 ⟨hW3,k13,hy,fb3⟩
 replace hW3:Ext w2 W3:=hW3
 replace k13:Blk W3 b13 32 y.cells:=k13
 replace hy:eQ.R T W3 y (qc (ps m.length)):=hy
 replace fb3:FB eQ 32 (fun k=>S k∧k≠b13) W3 g (tab B (Z i)):=fb3
 have hyv:=shpA (E:=eQ) rfl hy
 have h13l:=k13.lt
 have hgl3:=fb3.lt
 have hblr : - ps m.length=(nwOf n o).bl (rv x) r:=by
  rw [Nw.bl_root _ hrr,hBB,←hpp]
  dsimp only
  rw [List.take_of_length_le (by omega)]
 have upT':∀ {W':World},W3.heap.size≤W'.heap.size→Up T W':=fun h j hj=>(hT' j).2 ⟨⟨up j (by have:=hW3.size;omega),by omega⟩,by omega⟩
 refine .goC rfl ?_
 refine .par follows 9 [.inl (slB B g),.inl vr,.inl (.int .i64 (i:Nat)),.inr (Ptr eI S (pInts m)),.inr (eI.at S (pInts m)),.inr (Ptr (eInt .i64) S ((r:Nat):Int)),.inl (.int .i64 (r:Nat)),.inl y,.inr (eQ.at T (qc ((nwOf n o).bl (rv x) r)))] [[],[],[],[(138,1),(139,2)],[(140,3)],[(141,4)],[(142,5)],[],[(144,7)]] (by kernel_rfl) ⟨
  fun w e=>(v_mv rfl).ob,
  fun w e=>(v_mv rfl).ob,
  fun w e=>(v_mv rfl).ob,
  fun w e=>E8 (i:=i) L1 ty_I rfl (ER.ext eII (hrT hW3) e) rfl hrow,
  fun w e x3 hx3=>R5 ty_I rfl hx3,
  fun w e x4 hx4=>E8 (i:=0) un_I B9 rfl hx4 rfl hm0,
  fun w e x5 hx5=>AO5 B9 rfl hx5,
  fun w e=>((C0 ty_Q rfl (k13.ext e) (eQ.csz hy)).eq hyv.symm).ob,
  fun w e=>by
   have:=AA5 (L:=1+6*(L+1)) (upT' e.size) (ER.ext eQ hy e) (AD1 (hps _)) (by omega) (by omega)
   rw [E1,hblr] at this
   exact (A3 _ AB7 rfl this).ob (A8 _ _ _),trivial⟩ ?_
 intro W4 e4 _ _ _ _ _ _ y4 hy4
 have hs4:=e4.size
 have fb4:FB eQ 32 S W4 g (tab B (Z i)):=(fb3.ext e4).mono fun k _ h=>h.1
 refine .ixB (i:=r) un_V ty_Q rfl rfl rfl hrB (.storeF (E:=eQ) (i:=r) (by decide) ty_Q rfl rfl fb4 rfl (by rw [A1];exact hrB) (Nat.zero_add _) (eQ.mono (fun k _ h=>⟨((hT' k).1 h).1.1,((hT' k).1 h).2⟩) hy4) fun W5 f5 u5=>?_)
 have hstep:(tab B (Z i)).set r (qc ((nwOf n o).bl (rv x) r))=tab B (Z (i+1)):=by
  rw [R9]
  refine D6 fun b _=>?_
  rw [←hZ]
  dsimp only
  rw [htk]
  by_cases e:b=r
  ·rw [if_pos e,if_pos (List.mem_append.2 (.inr (List.mem_singleton.2 e))),e]
  ·rw [if_neg e]
   by_cases h:b∈((nwOf n o).refsTo B).take i
   ·rw [if_pos h,if_pos (List.mem_append.2 (.inl h))]
   ·rw [if_neg h,if_neg fun h'=>(List.mem_append.1 h').elim h fun h'=>e (List.mem_singleton.1 h')]
 rw [hstep] at f5
 exact .go rfl (.inc rfl rfl rfl (by omega) (.goN rfl (.mk (i+1) rfl (lc1 rfl) ⟨⟨u5.below (hW3.trans e4) (by omega),hlt,f5⟩,by show (nwOf n o).cnt B-(i+1)<(nwOf n o).cnt B-i;omega⟩)))
end Go.Proofs.YteghbhdniimjbaaGreat

namespace Go.Kx
open Go Go.RowKit
theorem Leave.tt {P:Program} {fn:Func} {N:Nat} {σ:Env} {w W:World} {r:Nat} (hr:fn.results=#[.tmp r]) (hl:look σ r=some (.bool true)) (h:Ext w W):Leave P fn N (fun v w'=>Ext w w'∧Is (.bool true) v w') σ [] W:=.plain [_] hr ⟨hl,trivial⟩ ⟨h,rfl⟩
end Go.Kx
namespace Go.Proofs.YteghbhdniimjbaaGreat
open Go Go.Kx Go.RowKit
theorem bl_vk {n:NtV} {o:List Int} (ok:nwOk n o) {x:List QV} (h:vk 4 x):vk 40 (tab (nwOf n o).B ((nwOf n o).bl (rv x))):=T4 fun b _=>by
 have hx:∀ b,Rsz (rv x b) 4:=fun b=>h.rsz (by decide) b
 unfold Nw.bl
 split
 ·refine ((AX0 (L:=4) fun c _=>?_).mono ?_).neg
  ·split
   ·exact hx c
   ·exact Rsz.zero (by decide)
  ·have:=ok.b6;omega
 ·exact (hx b).mono (by decide)
theorem bl_bal {n:NtV} {o:List Int} {x:Nat→Rat}:(nwOf n o).bal (rv (tab (nwOf n o).B ((nwOf n o).bl x))) :=
 (Nw.bal_congr fun b hb=>by rw [J1,if_pos hb]).2 (Nw.bl_bal x)
theorem bl_an {n:NtV} {o:List Int} {x:List QV} (hO:outE n o=0):anE n o (tab (nwOf n o).B ((nwOf n o).bl (rv x)))=0 :=
 As6 hO (by have:=(Q5 hO).b;rw [A1];omega) bl_bal
theorem fl_vk {n:NtV} {o:List Int} (ok:nwOk n o) {x:List QV} {L:Nat} (h:vk L x) (hL1:1≤L) (hL:L≤9000):vk 1200000 (tab n.ls.length ((nwOf n o).fl ((nwOf n o).an (rv x)))):=T4 fun k _ =>
 (fl_rsz ok (Ah2 ok hL1 (fun b=>h.rsz hL1 b)) k).mono (by omega)
theorem eqV_t {a b:List QV} (h:∀ k,rv a k=rv b k):decide (eqV a b)=true:=decide_eq_true h
end Go.Proofs.YteghbhdniimjbaaGreat

namespace Go.Kx
open Go Go.RowKit
theorem Els.append {α:Type} {E:ER α} {S:Nat→Prop} {w:World} {es fs:List Value} {l s:List α} (h:Els E S w es l) (h':Els E S w fs s):Els E S w (es++fs) (l++s):=by
 refine ⟨by rw [List.length_append,List.length_append,h.1,h'.1],fun i e x he hx=>?_⟩
 rw [List.getElem?_append] at he hx
 rw [h.1] at he
 split at he
 ·rename_i hi
  rw [if_pos hi] at hx
  exact h.2 i e x he hx
 ·rename_i hi
  rw [if_neg hi] at hx
  exact h'.2 _ e x he hx
section
variable {P:Program} {σ:Env} {w:World} {d:Option Tmp} {ty:TypeId} {pos:String} {af:Array Edge} {g:Option (Nat×Bool)} {α:Type} {E:ER α}
theorem g_appLs {tt t:TypeId} {x y:Operand} {z:Value} {by_ base:Nat} {X:Nat→Prop} {v u:Value} {l s:List α} {hsz:0<E.sz} (ht:P.underlying tt=some (.slice t)) (hi:infoOf P t=some (z,E.sz,by_)) (hzs:z.cells.size=E.sz) (hx:ev σ x=some v) (hy:ev σ y=some u)
  (hown:OwnL E t base X w v l) (hs:(RL E hsz).R X w u s) (hX:∀ k,X k→k<base) (hl:l.length≤1000000) (hl2:s.length≤1000000) (hby:by_≤100) (hbase:base≤w.heap.size) :
  Gv P ⟨d,.call { callee:=.builtin .append,args:=#[x,y],argTypes:=#[tt,tt] },ty,pos,af,g⟩ σ w fun v' w'=>OwnL E t base X w' v' (l++s)∧Below base w w':=by
 have hown0:=hown
 obtain ⟨es0,ho,hels⟩:=hown
 obtain ⟨es,he,a,c,rfl,hc,_,hcl,hcells⟩:=hs
 have hone:∀ u∈cellsOf es,one1 u=true:=by
  intro u hu
  obtain ⟨e,he',hu'⟩:=List.mem_flatMap.1 hu
  obtain ⟨i,hi'⟩:=List.mem_iff_getElem?.1 he'
  have hlt:i<s.length:=by rw [←he.1];exact (List.getElem?_eq_some_iff.1 hi').1
  exact E.one (he.2 i e _ hi' (List.getElem?_eq_getElem hlt)) u hu'
 have fin:∀ v' w',w'.ownsRow base t E.sz v' (l.length+s.length) (cellsOf es0++cellsOf es)→w.grownBy w' v.ownBlock→OwnL E t base X w' v' (l++s)∧Below base w w':=by
  intro v' w' h1 h2
  have hb:Below base w w':=hown0.below h2 (Below.refl _ _) hbase
  have hk:Kp X w w':=fun k c t f hk h=>(hb.block k (hX k hk)).trans h
  have hno:∀ k,X k→v'.ownBlock≠some k:=fun k hk e=>by have:=(h1.lt k e).1;have:=hX k hk;omega
  refine ⟨⟨es0++es,?_,?_⟩,hb⟩
  ·rw [show cellsOf (es0++es)=cellsOf es0++cellsOf es by simp [cellsOf],List.length_append];exact h1
  ·refine Els.append ⟨hels.1,fun i e x he hx=>?_⟩ ⟨he.1,fun i e x he' hx=>?_⟩
   ·exact E.mono (fun k _ hk=>⟨hk,hno k hk⟩) (E.keep hk (E.mono (fun k _ hk=>hk.1) (hels.2 i e x he hx)))
   ·exact E.mono (fun k _ hk=>⟨hk,hno k hk⟩) (E.keep hk (he.2 i e x he' hx))
 have hbytes:(l.length+s.length)*by_≤140737488355328:=by
  have:(l.length+s.length)*by_≤2000000*100:=Nat.mul_le_mul (by omega) hby
  omega
 cases a with
 | some ad =>
  have hcell:∀ j u,(cellsOf es)[j]?=some u→w.cell? (ad.add j)=some u:=by
   intro j u hu
   have hpos:0<s.length:=by
    rcases Nat.eq_zero_or_pos s.length with h0 | h0
    ·have:es=[]:=List.length_eq_zero_iff.1 (by rw [he.1];exact h0)
     subst this
     simp [cellsOf] at hu
    ·exact h0
   obtain ⟨ad',h1,_,h2⟩:=hcells hpos
   cases h1
   exact h2 j u hu
  exact (AX7 (cellsOf es) ht hi hzs hsz hx hy ho hcl hcell hone (by omega) hbytes hbase).mono fun v' w' ⟨h1,h2⟩=>fin v' w' h1 h2
 | none =>
  have h0:s=[]:=by
   cases s with
   | nil=>rfl
   | cons z s=>obtain ⟨ad,h1,_⟩:=hcells (by simp);cases h1
  subst h0
  refine (BG7 ht hi hx hy ho).gv.mono fun v' w' ⟨h1,h2⟩=>?_
  subst h1;subst h2
  exact ⟨by simpa using hown0,Below.refl _ _⟩
end
end Go.Kx

namespace Go.Kx
open Go Go.RowKit
/-- the same network but for turned lines, and c times the reactances -/
structure Nw.Sim (c:Rat) (n m:Nw):Prop where
 eb:m.B=n.B
 em:m.M=n.M
 eg:∀ k,k<n.M→m.g k*c=n.g k
 ee:∀ k,k<n.M→(m.F k=n.F k∧m.T k=n.T k)∨(m.F k=n.T k∧m.T k=n.F k)
 c0:c≠0
section
variable {n m:Nw} {c:Rat}
theorem Nw.Sim.g0 (h:Nw.Sim c n m) {k:Nat} (hk:k<n.M):m.g k=0↔n.g k=0:=by
 have h1:=h.eg k hk
 constructor
 ·intro h2;rw [h2,Rat.zero_mul] at h1;exact h1.symm
 ·intro h2
  rw [h2] at h1
  rcases Rat.mul_eq_zero.1 h1 with h3 | h3
  ·exact h3
  ·exact absurd h3 h.c0
theorem Nw.Sim.rootTo (h:Nw.Sim c n m):∀ j,j≤n.M→∀ b,m.rootTo j b=n.rootTo j b
 | 0,_,b=>rfl
 | j+1,hj,b=>by
  have ih:=Nw.Sim.rootTo h j (by omega)
  unfold Nw.rootTo
  by_cases hg:n.g j=0
  ·rw [if_pos hg,if_pos ((h.g0 (by omega)).2 hg),ih]
  ·rw [if_neg hg,if_neg fun h'=>hg ((h.g0 (by omega)).1 h')]
   simp only [ih]
   rcases h.ee j (by omega) with ⟨h1,h2⟩ | ⟨h1,h2⟩
   ·rw [h1,h2]
   ·rw [h1,h2,Nat.max_comm,Nat.min_comm]
theorem Nw.Sim.root (h:Nw.Sim c n m) (b:Nat):m.root b=n.root b:=by
 unfold Nw.root
 rw [h.em]
 exact h.rootTo _ (Nat.le_refl _) b
theorem Nw.Sim.fl1 (h:Nw.Sim c n m) {k:Nat} (hk:k<n.M) (h1:m.F k=n.F k) (h2:m.T k=n.T k) (θ:Nat→Rat):m.fl (fun b=>θ b*c) k=n.fl θ k:=by
 unfold Nw.fl
 rw [h1,h2,←h.eg k hk];grind
theorem Nw.Sim.fl2 (h:Nw.Sim c n m) {k:Nat} (hk:k<n.M) (h1:m.F k=n.T k) (h2:m.T k=n.F k) (θ:Nat→Rat):m.fl (fun b=>θ b*c) k = - n.fl θ k:=by
 unfold Nw.fl
 rw [h1,h2,←h.eg k hk];grind
theorem Nw.Sim.lap (h:Nw.Sim c n m) (θ:Nat→Rat) (b:Nat):m.lap (fun b=>θ b*c) b=n.lap θ b:=by
 unfold Nw.lap Nw.off
 rw [h.em]
 refine A2 fun k hk=>?_
 rcases h.ee k hk with ⟨h1,h2⟩ | ⟨h1,h2⟩
 ·rw [h.fl1 hk h1 h2]
  unfold Nw.inc
  rw [h1,h2]
 ·rw [h.fl2 hk h1 h2]
  unfold Nw.inc
  rw [h1,h2];grind
theorem Nw.Sim.an (h:Nw.Sim c n m) (okn:n.Ok) (okm:m.Ok) (x:Nat→Rat) {b:Nat} (hb:b<n.B):m.an x b=n.an x b*c:=by
 refine Nw.uniq (θ:=m.an x) (φ:=fun b=>n.an x b*c) okm (fun i hi=>?_) b (by rw [h.eb];exact hb)
 have h1:=m.an_eq okm x hi
 have h2:=n.an_eq okn x (by rw [←h.eb];exact hi)
 have hr:=h.root i
 unfold Nw.inj0 at h1 h2
 rw [hr] at h1 ⊢
 by_cases e:n.root i=i
 ·rw [if_pos e]
  rw [if_pos e,if_pos e] at h1 h2
  rw [h1,h2,Rat.zero_mul]
 ·rw [if_neg e]
  rw [if_neg e,if_neg e] at h1 h2
  rw [h1,h.lap,h2]
theorem Nw.Sim.flan1 (h:Nw.Sim c n m) (okn:n.Ok) (okm:m.Ok) (x:Nat→Rat) {k:Nat} (hk:k<n.M) (h1:m.F k=n.F k) (h2:m.T k=n.T k):m.fl (m.an x) k=n.fl (n.an x) k:=by
 rw [←h.fl1 hk h1 h2 (n.an x)]
 unfold Nw.fl
 rw [h1,h2,h.an okn okm x (okn.f k hk),h.an okn okm x (okn.t k hk)]
theorem Nw.Sim.flan2 (h:Nw.Sim c n m) (okn:n.Ok) (okm:m.Ok) (x:Nat→Rat) {k:Nat} (hk:k<n.M) (h1:m.F k=n.T k) (h2:m.T k=n.F k):m.fl (m.an x) k = - n.fl (n.an x) k:=by
 rw [←h.fl2 hk h1 h2 (n.an x)]
 unfold Nw.fl
 rw [h1,h2,h.an okn okm x (okn.f k hk),h.an okn okm x (okn.t k hk)]
theorem Nw.Sim.bal (h:Nw.Sim c n m) {x:Nat→Rat} (hb:n.bal x):m.bal x:=by
 intro r hr hrr
 rw [h.root] at hrr
 rw [h.eb] at hr ⊢
 have:sumN n.B (fun b=>if m.root b=r then x b else 0)=sumN n.B (fun b=>if n.root b=r then x b else 0):=A2 fun b _=>by rw [h.root]
 rw [this]
 exact hb r hr hrr
end
/-! lines in a block -/
def lnC (y:LnV):List Value:=[.int .i64 y.f,.int .i64 y.t,.int .i64 y.x,.int .i64 y.c]
def flL (l:List LnV):List Value:=l.flatMap lnC
def mkL (y:LnV):Value:=.agg #[.int .i64 y.f,.int .i64 y.t,.int .i64 y.x,.int .i64 y.c]
def okL (y:LnV):Prop:=inI y.f∧inI y.t∧inI y.x∧inI y.c
theorem Aw6 {j:Nat} {v:Value} {y y':LnV} (hj:j<4) (hy:(lnC y).set j v=lnC y'):∀ (l:List LnV) (i:Nat),l[i]?=some y→(flL l).set (i*4+j) v=flL (l.set i y')
 | [],i,h=>by simp at h
 | a::l,0,h=>by
  have:a=y:=by simpa using h
  subst this
  show (lnC a++flL l).set (0*4+j) v=lnC y'++flL l
  rw [List.set_append_left _ _ (by show 0*4+j<4;omega),Nat.zero_mul,Nat.zero_add,hy]
 | a::l,i+1,h=>by
  show (lnC a++flL l).set ((i+1)*4+j) v=lnC a++flL (l.set i y')
  rw [List.set_append_right _ _ (by show 4≤(i+1)*4+j;omega),←Aw6 hj hy l i (by simpa using h)]
  congr 2
  show (i+1)*4+j-4=i*4+j
  omega
theorem S6:∀ l:List LnV,(flL l).length=l.length*4
 | []=>rfl
 | a::l=>by
  show (lnC a++flL l).length=(l.length+1)*4
  rw [List.length_append,S6 l]
  show 4+_=_
  omega
theorem AF7 (l:List LnV):cellsOf (l.map mkL)=flL l:=by
 unfold cellsOf flL
 rw [List.flatMap_map];rfl
theorem BB7 {l:List LnV} {rest:List Value} {i j:Nat} {v:Value} {y y':LnV} (hj:j<4) (hy:(lnC y).set j v=lnC y') (h:l[i]?=some y):wrt (flL l++rest).toArray (i*4+j) [v]=(flL (l.set i y')++rest).toArray:=by
 have hi:i<l.length:=(List.getElem?_eq_some_iff.1 h).1
 show (flL l++rest).toArray.setIfInBounds (i*4+j) v=_
 rw [List.setIfInBounds_toArray,List.set_append_left _ _ (by rw [S6];omega),Aw6 hj hy l i h]
section
variable {t:TypeId} {base:Nat} {X:Nat→Prop} {w:World} {v:Value} {l:List LnV}
theorem Aq5 {es:List Value} {S:Nat→Prop} (he:Els eL S w es l):es=l.map mkL∧∀ y∈l,okL y:=by
 constructor
 ·apply List.ext_getElem?
  intro i
  rw [List.getElem?_map]
  rcases Nat.lt_or_ge i l.length with h | h
  ·rw [List.getElem?_eq_getElem h]
   have h':i<es.length:=by rw [he.1];exact h
   rw [List.getElem?_eq_getElem h']
   exact congrArg some (he.2 i _ _ (List.getElem?_eq_getElem h') (List.getElem?_eq_getElem h)).1
  ·rw [List.getElem?_eq_none h,List.getElem?_eq_none (by rw [he.1];exact h)];rfl
 ·intro y hy
  obtain ⟨i,hi⟩:=List.mem_iff_getElem?.1 hy
  have h:i<l.length:=(List.getElem?_eq_some_iff.1 hi).1
  have h':i<es.length:=by rw [he.1];exact h
  exact (he.2 i _ _ (List.getElem?_eq_getElem h') hi).2
theorem BH1 {S:Nat→Prop} (h:∀ y∈l,okL y):Els eL S w (l.map mkL) l:=by
 refine ⟨List.length_map ..,fun i e x he hx=>?_⟩
 rw [List.getElem?_map,hx] at he
 cases he
 exact ⟨rfl,h x (List.mem_iff_getElem?.2 ⟨i,hx⟩)⟩
theorem OwnL.lines (h:OwnL eL t base X w v l) (hne:0<l.length):∃ g cap rest,v=.slice (some ⟨g,0,none⟩) l.length cap∧base≤g∧Blk w g t (flL l++rest).toArray ∧
  ∀ l' w',l'.length=l.length→(∀ y∈l',okL y)→Blk w' g t (flL l'++rest).toArray→OwnL eL t base X w' v l':=by
 obtain ⟨es,h1,he⟩:=h
 obtain ⟨rfl,hok⟩:=Aq5 he
 rcases h1.2 with ⟨hv,hz⟩ | ⟨g,cap,cur,hv,hb,hg,c1,c2,c3,c4⟩
 ·exfalso;omega
 have hB:Blk w g t (flL l++cur.toList.drop (l.length*4)).toArray:=by
  rw [←AF7,←c4]
  show Blk w g t (List.take (l.length*4) cur.toList++_).toArray
  rw [List.take_append_drop];exact hg
 refine ⟨g,cap,cur.toList.drop (l.length*4),hv,hb,hB,fun l' w' hl hok' hB'=>?_⟩
 have hcz:cur.toList.length=(flL l++cur.toList.drop (l.length*4)).length:=by
  rw [←AF7,←c4]
  show _=(List.take (l.length*4) cur.toList++_).length
  rw [List.take_append_drop]
 rw [List.length_append,S6] at hcz
 refine ⟨l'.map mkL,⟨?_,.inr ⟨g,cap,_,by rw [hl];exact hv,hb,hB',by rw [hl];exact c1,c2,?_,?_⟩⟩,BH1 hok'⟩
 ·rw [AF7,S6];rfl
 ·rw [←c3,List.size_toArray,List.length_append,S6,hl,←hcz,Array.length_toList]
 ·rw [AF7]
  show (flL l'++_).take (l'.length*4)=_
  rw [List.take_append_of_le_length (by rw [S6];exact Nat.le_refl _),List.take_of_length_le (by rw [S6];exact Nat.le_refl _)]
theorem OwnL.reX {base':Nat} {X':Nat→Prop} (h:OwnL eL t base X w v l) (hb:base'≤base):OwnL eL t base' X' w v l:=by
 obtain ⟨es,h1,he⟩:=h
 obtain ⟨rfl,hok⟩:=Aq5 he
 refine ⟨_,⟨h1.1,?_⟩,BH1 hok⟩
 rcases h1.2 with hn | ⟨g,cap,cur,hv,hb',rest⟩
 ·exact .inl hn
 ·exact .inr ⟨g,cap,cur,hv,Nat.le_trans hb hb',rest⟩
end
section
variable {P:Program} {σ:Env} {w:World} {d:Option Tmp} {ty:TypeId} {pos:String} {af:Array Edge} {g:Option (Nat×Bool)}
end
theorem BE7 {n m:NtV} {o:List Int} (hl:m.ls.length=n.ls.length) (hn:outE n o=0) (hm:chkE m=0):outE m o=0:=by
 unfold outE at hn ⊢
 rw [if_neg (by simpa using hm)]
 by_cases hc:chkE n=0
 ·rw [if_neg (by simpa using hc)] at hn
  by_cases ho:outsOk n o
  ·rw [if_pos]
   unfold outsOk at ho ⊢
   rw [hl];exact ho
  ·rw [if_neg ho] at hn;cases hn
 ·rw [if_pos hc] at hn;exact absurd hn hc
end Go.Kx

namespace Go.Proofs.YteghbhdniimjbaaGreat
open Go Go.Kx Go.RowKit
end Go.Proofs.YteghbhdniimjbaaGreat

namespace Go.Kx
open Go Go.RowKit
def NewV (t:TypeId) (B:Nat) (S:Nat→Prop) (l:List QV):Value→World→Prop:=fun v W=>∃ h,B≤h∧v=.slice (some ⟨h,0,none⟩) l.length l.length∧FB eQ t S W h l
section
variable {P:Program} {σ:Env} {w:World} {d:Option Tmp} {ty:TypeId} {pos:String} {af:Array Edge} {g:Option (Nat×Bool)}
theorem BC6 {t e:TypeId} {x ix:Operand} {k:IntKind} {i:Nat} {b:Bool} {sz n c:Nat} {ad:Addr} (ht:P.underlying t=some (.slice e)) (he:tyOf P e=some (b,sz)) (hx:ev σ x=some (.slice (some ad) n c))
  (hi:ev σ ix=some (.int k (i:Int))) (hlt:i<n):Vl P ⟨d,.indexAddr t x ix,ty,pos,af,g⟩ σ w (.pointer (some (ad.add (i*sz)))):=by
 refine ⟨(by intro _ h;cases h),fun ρ hρ=>?_⟩
 have h1:=hρ x _ (by simp [Op.operands]) hx
 have h2:=hρ ix _ (by simp [Op.operands]) hi
 have hlt':(i:Int)<(n:Int):=by omega
 simp [execOp,h1,h2,Instr.indexAt,asIntOf,run_underlying ht,(F4 he w).2]
 intro hh;omega
end
theorem PtrTo.v_ldI {P:Program} {σ:Env} {w:World} {d:Option Tmp} {ty:TypeId} {pos:String} {af:Array Edge} {g:Option (Nat×Bool)} {t:TypeId} {x:Operand} {p:Addr} {y:Int} {S:Nat→Prop} (ht:tyOf P t=some (false,1)) (hx:ev σ x=some (.pointer (some p))) (hp:PtrTo (eInt .i64) S w p y):Vl P ⟨d,.load t x,ty,pos,af,g⟩ σ w (.int .i64 y):=by
 obtain ⟨e,he,_,hc⟩:=hp
 have:e=.int .i64 y:=he.1
 subst this
 exact AQ6 (E:=eInt .i64) (S:=S) ht hx hc he
/-! a line turned round -/
def rvL (l:LnV):LnV:=⟨l.t,l.f,l.x,l.c⟩
def rvN (n:NtV) (k:Nat):NtV:=⟨n.b,n.ls.set k (rvL (n.ls.getD k ln0))⟩
open Classical in
noncomputable def rvE (n:NtV) (k:Int):Int:=if chkE n≠0 then chkE n else if k<0∨(n.ls.length:Int)≤k then 1 else 0
theorem Am3 {n:NtV} (h:chkE n=0):n.ls.length≤10∧chkOk n:=by
 unfold chkE at h
 by_cases h1:n.b<1∨6<n.b
 ·rw [if_pos h1] at h;cases h
 rw [if_neg h1] at h
 by_cases h2:10<n.ls.length
 ·rw [if_pos h2] at h;cases h
 rw [if_neg h2] at h
 by_cases h3:chkOk n
 ·exact ⟨by omega,h3⟩
 ·rw [if_neg h3] at h;cases h
theorem rvN_chk {n:NtV} {k:Nat} (h:chkE n=0) (hk:k<n.ls.length):chkE (rvN n k)=0:=by
 have hc:=(Am3 h).2
 unfold chkE at h ⊢
 have hl:(rvN n k).ls.length=n.ls.length:=List.length_set
 rw [hl]
 show (if n.b<1∨6<n.b then (1:Int) else _)=0
 by_cases h1:n.b<1∨6<n.b
 ·rw [if_pos h1] at h;cases h
 rw [if_neg h1] at h ⊢
 by_cases h2:10<n.ls.length
 ·rw [if_pos h2] at h;cases h
 rw [if_neg h2,if_pos]
 intro i hi l hl'
 replace hl':(n.ls.set k (rvL (n.ls.getD k ln0)))[i]?=some l:=hl'
 by_cases e:k=i
 ·subst e
  rw [List.getElem?_set_self hk] at hl'
  cases hl'
  have h3:=hc k hk _ (Go.Proofs.YteghbhdniimjbaaGreat.A6 (z:=ln0) hk)
  generalize n.ls.getD k ln0=y at h3
  intro i hi
  match i with
  | 0=>exact h3 1 (by decide)
  | 1=>exact h3 0 (by decide)
  | 2 =>
   have:=h3 2 (by decide)
   simp [ck] at this
   simp [ck,rvL]
   exact fun h=>this h.symm
  | 3=>exact h3 3 (by decide)
  | 4=>exact h3 4 (by decide)
 ·rw [List.getElem?_set_ne e] at hl'
  exact hc i (List.getElem?_eq_some_iff.1 hl').1 l hl'
theorem AU9 {n:NtV} {j:Nat} (hj:j<n.ls.length) (k:Nat):(rvN n j).ls.getD k ln0=if k=j then rvL (n.ls.getD j ln0) else n.ls.getD k ln0:=by
 show (n.ls.set j _).getD k ln0=_
 by_cases e:k=j
 ·subst e
  rw [if_pos rfl,List.getD_eq_getElem?_getD,List.getElem?_set_self hj];rfl
 ·rw [if_neg e,List.getD_eq_getElem?_getD,List.getElem?_set_ne (fun h=>e h.symm),←List.getD_eq_getElem?_getD]
theorem Ae6 {n:NtV} {o:List Int} {j:Nat} (hj:j<n.ls.length):Nw.Sim 1 (nwOf n o) (nwOf (rvN n j) o) where
 eb:=rfl
 em:=List.length_set
 c0:=by decide
 eg:=fun k _=>by
  show (if k∈oN o then 0 else ((((rvN n j).ls.getD k ln0).x:Int):Rat)⁻¹)*1=if k∈oN o then 0 else (((n.ls.getD k ln0).x:Int):Rat)⁻¹
  rw [AU9 hj,Rat.mul_one]
  by_cases e:k=j
  ·subst e;rw [if_pos rfl];rfl
  ·rw [if_neg e]
 ee:=fun k _=>by
  show (((rvN n j).ls.getD k ln0).f.toNat=(n.ls.getD k ln0).f.toNat∧((rvN n j).ls.getD k ln0).t.toNat=(n.ls.getD k ln0).t.toNat)∨(((rvN n j).ls.getD k ln0).f.toNat=(n.ls.getD k ln0).t.toNat∧((rvN n j).ls.getD k ln0).t.toNat=(n.ls.getD k ln0).f.toNat)
  rw [AU9 hj]
  by_cases e:k=j
  ·subst e;rw [if_pos rfl];exact .inr ⟨rfl,rfl⟩
  ·rw [if_neg e];exact .inl ⟨rfl,rfl⟩
theorem BD6 {n:NtV} {o:List Int} {j:Nat} (hj:j<n.ls.length) (h1:(nwOf n o).Ok) (h2:(nwOf (rvN n j) o).Ok) (x:Nat→Rat) {k:Nat} (hk:k<n.ls.length):(nwOf (rvN n j) o).fl ((nwOf (rvN n j) o).an x) k=if k=j then-(nwOf n o).fl ((nwOf n o).an x) k else (nwOf n o).fl ((nwOf n o).an x) k:=by
 have hF:(nwOf (rvN n j) o).F k=if k=j then (nwOf n o).T k else (nwOf n o).F k:=by
  show ((rvN n j).ls.getD k ln0).f.toNat=_
  rw [AU9 hj]
  by_cases e:k=j
  ·subst e;rw [if_pos rfl,if_pos rfl];rfl
  ·rw [if_neg e,if_neg e];rfl
 have hT:(nwOf (rvN n j) o).T k=if k=j then (nwOf n o).F k else (nwOf n o).T k:=by
  show ((rvN n j).ls.getD k ln0).t.toNat=_
  rw [AU9 hj]
  by_cases e:k=j
  ·subst e;rw [if_pos rfl,if_pos rfl];rfl
  ·rw [if_neg e,if_neg e];rfl
 by_cases e:k=j
 ·rw [if_pos e] at hF hT ⊢
  exact (Ae6 hj).flan2 h1 h2 x hk hF hT
 ·rw [if_neg e] at hF hT ⊢
  exact (Ae6 hj).flan1 h1 h2 x hk hF hT
theorem rvN_set (n:NtV) (k:Nat) {y:LnV} (h:n.ls[k]?=some y):(n.ls.set k ⟨y.t,y.t,y.x,y.c⟩).set k ⟨y.t,y.f,y.x,y.c⟩=(rvN n k).ls:=by
 show _=n.ls.set k (rvL (n.ls.getD k ln0))
 rw [List.set_set,List.getD_eq_getElem?_getD,h];rfl
end Go.Kx
namespace Go.Proofs.YteghbhdniimjbaaGreat
open Go Go.Kx Go.RowKit
theorem BF9:infoOf Tryz.prog 60=some (.agg #[.int .i64 0,.int .i64 0,.int .i64 0,.int .i64 0],4,32):=by kernel_rfl
set_option maxRecDepth 8000 in
theorem AI9 {S:Nat→Prop} {w:World} {vn vo va:Value} {n:NtV} {o:List Int} {a:List QV} {L:Nat} (up:Up S w) (hn:eN.R S w vn n) (ho:eI.R S w vo o) (ha:eV.R S w va a) (hka:vk L a) (hL1:1≤L) (hL:L≤1000000000) (hno0:sfE n o a.length=0) :
  CR Tryz.prog 34 #[vn,vo,va] w (Two (NewV 32 w.heap.size S (tab n.ls.length ((nwOf n o).fl (rv a)))) (Is (.int .i64 0))):=by
 obtain ⟨s,rfl,hs,hb⟩:=hn
 have hn:eN.R S w (.agg #[.int .i64 n.b,s]) n:=⟨s,rfl,hs,hb⟩
 refine enter Tryz.func34 rfl Tryz.ntmps34 rfl (.beg (.go rfl (.box rfl rfl fun w1 b3 n1=>?_)))
 obtain ⟨e1,k3,hb3,hs1⟩:=n1
 refine .go rfl (.ldA ty_N rfl rfl k3 rfl (.go rfl ?_))
 refine .call _ rfl AN1 rfl (AL2 (up.ext e1.size) (hn.ext e1) (ho.ext e1)) fun v2 w2 e2 h2=>?_
 obtain ⟨vl,ve,rfl,hl,he⟩:=h2
 replace he:ve=.int .i64 (outE n o):=he
 subst he
 have x2:=e1.trans e2
 refine .go rfl ?_
 by_cases hE:outE n o=0
 rotate_left
 ·have hb:sfE n o a.length=outE n o:=by unfold sfE;rw [if_pos hE]
  exact (hE (hb▸hno0)).elim
 have ok:=Q5 hE
 rw [if_pos hE] at hl
 have hB6:=ok.b6
 have hB1:=ok.b1
 have hM10:n.ls.length≤10:=ok.m
 have hnb:=ok.b
 have hll:=AL5 n o
 have k3:=k3.ext e2
 rw [hnb] at k3
 obtain ⟨_,_,_,_,hal⟩:=RL.len ha
 refine .neqF rfl rfl rfl hE (.go rfl (.lenR un_V rfl rfl (ha.ext x2) (.go rfl (.fa H9 rfl rfl (.ld A7 rfl rfl k3 rfl ?_)))))
 by_cases hlen:(a.length:Int)≤n.b
 rotate_left
 ·have hb:sfE n o a.length=5:=by unfold sfE;rw [if_neg (by simpa using hE),if_neg hlen]
  exact absurd hno0 (by rw [hb];decide)
 have hno:sfE n o a.length=0:=by unfold sfE;rw [if_neg (by simpa using hE),if_pos hlen]
 refine .gtrF rfl rfl rfl (by omega) (.go rfl (.fa H9 rfl rfl (.ld A7 rfl rfl k3 rfl ?_)))
 refine .call _ rfl K7 rfl (K1 (up.ext x2.size) (ha.ext x2) hka hL1 (by omega)) fun v3 w3 e3 h3=>?_
 have h3:=Aq1 (B:=(nwOf n o).B) h3 (up.ext x2.size) (by omega) (by omega)
 have x3:=x2.trans e3
 refine .go rfl (.fa I5 rfl rfl (.ld M8 rfl rfl (k3.ext e3) rfl (.lenR L0 rfl rfl (hs.ext x3) ?_)))
 refine .make_ _ _ un_V P0 rfl (by decide) rfl rfl rfl (Nat.le_refl _) (by omega) (by omega) fun w4 h n4=>?_
 have f4:FB eQ 32 S w4 h (List.replicate n.ls.length q0):=FB.made n4 zq_R
 obtain ⟨e4,_,hh,hs4⟩:=n4
 rw [←AK1] at f4
 have hs3:=x3.size
 have hl:=ER.ext eI hl e3
 have hs:=ER.ext eLs hs x3
 have k3:=k3.ext e3
 have h3:eV.R (fun k=>S k∧k≠h) w3 v3 _:=eV.mono (fun k _ h=>⟨h.1,by have:=h.2;omega⟩) (ER.lt eV h3)
 refine .go rfl (.lenR un_I rfl rfl (ER.ext eI hl e4) ?_)
 rw [show (pInts (inL n o)).length=(inL n o).length by simp]
 refine .goC rfl (.lp (α:=Nat) [3,10,11,36,37] rfl (fun i=>[(38,.int .i64 (i:Nat))]) (fun i W=>Ext w3 W∧i≤(inL n o).length∧FB eQ 32 S W h (tab n.ls.length fun k=>if k∈(inL n o).take i then (nwOf n o).fl (rv a) k else 0)) (fun i=>(inL n o).length-i) 0 (lc1 rfl) ⟨e4,Nat.zero_le _,by simpa using f4⟩ ?_)
 rintro i W ⟨hW,hi,fb⟩
 have hWs:=hW.size
 have hhl:=fb.lt
 refine .go rfl ?_
 rcases Nat.lt_or_ge i (inL n o).length with hlt | hge
 rotate_left
 ·refine .lssF rfl rfl rfl (by omega) (.goE rfl ?_)
  have:i=(inL n o).length:=by omega
  subst this
  rw [List.take_of_length_le (Nat.le_refl _),BG8 ok] at fb
  exact .plain [_,_] Tryz.results34 ⟨rfl,rfl,trivial⟩ ⟨x3.trans hW,_,_,rfl,⟨h,by omega,by rw [A1],fb⟩,rfl⟩
 obtain ⟨hgk,hkM,hko⟩:=AV1 hlt
 refine .lssT rfl rfl rfl (by omega) (.go rfl (.ixN (i:=i) un_I B9 rfl rfl (ER.ext eI hl hW) rfl hgk fun q hq=>.ldE (E:=eInt .i64) B9 rfl rfl hq fun e he=>?_))
 obtain ⟨rfl,_⟩:=he
 have hset:=Aj5 (M:=n.ls.length) (f:=(nwOf n o).fl (rv a)) hlt
 have hgl:n.ls[(inL n o).getD i 0]?=some (n.ls.getD ((inL n o).getD i 0) ln0):=A6 hkM
 have hFI:=ok.fI _ hkM
 have hTI:=ok.tI _ hkM
 have hF:=ok.f _ hkM
 have hT:=ok.t _ hkM
 have hx:=ok.x _ hkM
 have hgv:=g_on (n:=n) hko
 generalize hkk:(inL n o).getD i 0=k at hset hgl hFI hTI hx hgv hkM hF hT
 generalize hln:n.ls.getD k ln0=ln at hgl hFI hTI hx hgv
 refine .go rfl (.fa I5 rfl rfl (.ld M8 rfl rfl (k3.ext hW) rfl (.go rfl (.ixN (i:=k) L0 R8 rfl rfl (ER.ext eLs hs hW) rfl hgl fun q hq=>.ldE (E:=eL) R8 rfl rfl hq fun vl' hvl=>?_))))
 obtain ⟨rfl,_⟩:=hvl
 rw [hFI,hTI]
 refine .bld _ rfl rfl As5 (.go rfl ?_)
 have hv:=Ad7 (w:=W) (S:=fun k=>S k∧k≠h) (c:=ln.c) (fun k hk=>⟨up k (by omega),by omega⟩) (ER.ext eV h3 hW) (BB8 hka hL1) (by rw [A1];exact hF) (by rw [A1];exact hT) hx.1 hx.2 hL1 hL
 have hflv:(rv (tab (nwOf n o).B (rv a)) ((nwOf n o).F k)-rv (tab (nwOf n o).B (rv a)) ((nwOf n o).T k)) / ((ln.x:Int):Rat)=(nwOf n o).fl (rv a) k:=by
  unfold Nw.fl
  rw [J1,J1,if_pos hF,if_pos hT,hgv,Rat.div_def,Rat.mul_comm]
 rw [hflv] at hv
 refine .call _ rfl Ae1 rfl hv fun y W1 g1 hy=>?_
 have hs1':=g1.size
 refine .go rfl (.ixB (i:=k) un_V ty_Q rfl rfl rfl hkM (.storeF (E:=eQ) (i:=k) (by decide) ty_Q rfl rfl (fb.ext g1) rfl (by rw [A1];exact hkM) (Nat.zero_add _) hy fun W6 f6 u6=>?_))
 rw [hset] at f6
 exact .go rfl (.inc rfl rfl rfl (by omega) (.goN rfl (.mk (i+1) rfl (lc1 rfl) ⟨⟨u6.below (hW.trans g1) (by omega),hlt,f6⟩,by show (inL n o).length-(i+1)<(inL n o).length-i;omega⟩)))
set_option maxRecDepth 8000 in
theorem Aa7 {S:Nat→Prop} {w:World} {vn vo vx:Value} {n:NtV} {o:List Int} {x:List QV} {L:Nat} (up:Up S w) (hn:eN.R S w vn n) (ho:eI.R S w vo o) (hx:eV.R S w vx x) (hkx:vk L x) (hL1:1≤L) (hL:L≤9000) (hE:anE n o x=0) :
  CR Tryz.prog 44 #[vn,vo,vx] w (Two (NewV 32 w.heap.size S (tab n.ls.length ((nwOf n o).fl ((nwOf n o).an (rv x))))) (Is (.int .i64 0))):=by
 obtain ⟨s,rfl,hs,hb⟩:=hn
 have hn:eN.R S w (.agg #[.int .i64 n.b,s]) n:=⟨s,rfl,hs,hb⟩
 refine enter Tryz.func44 rfl Tryz.ntmps44 rfl (.beg (.go rfl (.box rfl rfl fun w1 b3 n1=>?_)))
 obtain ⟨e1,k3,hb3,hs1⟩:=n1
 refine .go rfl (.ldA ty_N rfl rfl k3 rfl (.go rfl ?_))
 refine .call _ rfl Y5 rfl (X8 (up.ext e1.size) (hn.ext e1) (ho.ext e1) (ER.ext eV hx e1) hkx hL1 hL) fun v2 w2 e2 h2=>?_
 obtain ⟨va,ve,rfl,ha,rfl⟩:=h2
 have x2:=e1.trans e2
 refine .go rfl ?_
 rw [if_pos hE] at ha
 obtain ⟨hS,_⟩:=BI5 hE
 obtain ⟨hO,_⟩:=Ae4 hS
 have ok:=Q5 hO
 have hB6:=ok.b6
 have hnb:=ok.b
 have hka:vk 600000 (tab (nwOf n o).B ((nwOf n o).an (rv x))):=T4 fun c _=>(Ah2 ok hL1 (fun b=>hkx.rsz hL1 b) c).mono (by omega)
 have hsf:sfE n o (tab (nwOf n o).B ((nwOf n o).an (rv x))).length=0:=by unfold sfE;rw [if_neg (by simpa using hO),if_pos (by rw [A1];omega)]
 refine .neqF rfl rfl rfl hE (.go rfl (.ldA ty_N rfl rfl (k3.ext e2) rfl (.go rfl ?_)))
 refine .call _ rfl X1 rfl (AI9 (up.ext x2.size) (hn.ext x2) (ho.ext x2) ha hka (by decide) (by decide) hsf) fun v3 w3 e3 h3=>?_
 obtain ⟨vf,ve,rfl,hf,rfl⟩:=h3
 have hfl:tab n.ls.length ((nwOf n o).fl (rv (tab (nwOf n o).B ((nwOf n o).an (rv x)))))=tab n.ls.length ((nwOf n o).fl ((nwOf n o).an (rv x))):=D6 fun k hk=>by
  unfold Nw.fl
  rw [J1,J1,if_pos (ok.f k hk),if_pos (ok.t k hk)]
 rw [hfl] at hf
 obtain ⟨h,hB,hv,fb⟩:=hf
 exact .goE rfl (.plain [_,_] Tryz.results44 ⟨rfl,rfl,trivial⟩ ⟨x2.trans e3,_,_,rfl,⟨h,by have:=x2.size;omega,hv,fb⟩,rfl⟩)
theorem bsl_Ls0:bslOf Tryz.prog 38 0 []=some (60,#[]):=by kernel_rfl
theorem As4:bldOf Tryz.prog 40 []=some #[.int .i64 0,.slice none 0 0]:=by kernel_rfl
theorem E_clone:Ent Tryz.prog 130:=A0 Tryz.func130 (by kernel_rfl) rfl
theorem clone_c {S:Nat→Prop} {w:World} {v:Value} {ls:List LnV} {base:Nat} (hs:eLs.R S w v ls) (hl:ls.length≤1000000) (hbase:base≤w.heap.size):CR Tryz.prog 130 #[v] w (fun u W=>OwnL eL 60 base (fun _=>False) W u ls):=by
 obtain ⟨a,c,rfl,_,_⟩:=RL.len hs
 refine enter Tryz.func130 rfl Tryz.ntmps130 rfl (.beg (.go rfl (.eqNil L0 rfl rfl rfl ?_)))
 cases a with
 | none =>
  have h0:ls=[]:=by
   cases ls with
   | nil=>rfl
   | cons y ys =>
    obtain ⟨ad,c',h,_⟩:=RL.at_ (i:=0) (x:=y) hs rfl
    cases h
  subst h0
  exact .goE rfl (.plain [_] Tryz.results130 ⟨rfl,trivial⟩ ⟨Ext.refl _,OwnL.nil⟩)
 | some ad =>
  refine .go rfl (.bsl _ rfl rfl bsl_Ls0 fun w1 b n1=>.go rfl ?_)
  have hown:OwnL eL 60 w.heap.size (fun k=>k<w.heap.size) w1 (.slice (some ⟨b,0,none⟩) 0 0) []:=OwnL.made (E:=eL) (c:=0) (z:=.agg #[.int .i64 0,.int .i64 0,.int .i64 0,.int .i64 0]) rfl n1 (Nat.le_refl _) (by decide)
  refine .gv rfl rfl (g_appLs (E:=eL) (base:=w.heap.size) (X:=fun k=>k<w.heap.size) L0 BF9 rfl rfl rfl hown (ER.ext eLs (eLs.mono (fun k _ h=>h.2) (ER.lt eLs hs)) n1.1) (fun k h=>h) (Nat.zero_le _) hl (by decide) n1.1.size) ?_
  rintro v2 W2 ⟨h2,hB⟩
  exact .goE rfl (.plain [_] Tryz.results130 ⟨rfl,trivial⟩ ⟨Below.trans n1.1 hB,OwnL.reX h2 hbase⟩)
theorem Ab3:Ent Tryz.prog 54:=A0 Tryz.func54 (by kernel_rfl) rfl
set_option maxRecDepth 8000 in
theorem Aa5 {S:Nat→Prop} {w:World} {vn:Value} {n:NtV} {k:Int} (up:Up S w) (hn:eN.R S w vn n):CR Tryz.prog 54 #[vn,.int .i64 k] w (Two (eN.at S (if rvE n k=0 then rvN n k.toNat else ⟨0,[]⟩)) (Is (.int .i64 (rvE n k)))):=by
 obtain ⟨s,rfl,hs,hb⟩:=hn
 have hn:eN.R S w (.agg #[.int .i64 n.b,s]) n:=⟨s,rfl,hs,hb⟩
 refine enter Tryz.func54 rfl Tryz.ntmps54 rfl (.beg (.go rfl (.box rfl rfl fun w1 b2 n1=>.go rfl (.alloc rfl Ae2 fun w2 b4 n2=>?_))))
 obtain ⟨e1,k2,hb2,hs1⟩:=n1
 obtain ⟨e2,k4,hb4,hs2⟩:=n2
 have x2:=e1.trans e2
 have z1:=e1.size
 refine .go rfl (.ldA ty_N rfl rfl (k2.ext e2) rfl ?_)
 refine .call _ rfl AT3 rfl (AR8 (hn.ext x2)) fun v3 w3 e3 h3=>?_
 subst h3
 have x3:=x2.trans e3
 have z3:=x3.size
 have z23:=e3.size
 have k2:=k2.ext (e2.trans e3)
 have k4:=k4.ext e3
 have hz:∀ {W:World},eN.R (fun k=>S k∧k≠b4) W (.agg #[.int .i64 0,.slice none 0 0]) ⟨0,[]⟩:=⟨_,rfl,RL.nil,K3.2 (by decide)⟩
 refine .go rfl ?_
 by_cases hE:chkE n=0
 rotate_left
 ·have he:rvE n k=chkE n:=by unfold rvE;rw [if_pos hE]
  refine .neqT rfl rfl rfl hE (.go rfl (.bld _ rfl rfl As4 (.go rfl (.storeA (E:=eN) ty_N rfl rfl k4 rfl rfl hz (fun h=>h.2 rfl) fun w4 k4' u4 h4=>.goE rfl ?_))))
  refine .plain [_,_] Tryz.results54 ⟨⟨_,rfl,C2 (E:=eN) ty_N rfl rfl k4' h4⟩,rfl,trivial⟩ ⟨u4.below x3 (by omega),_,_,rfl,?_,by rw [he]⟩
  rw [if_neg (by rw [he];exact hE)];exact eN.mono (fun _ _ h=>h.1) h4
 refine .neqF rfl rfl rfl hE (.go rfl ?_)
 by_cases h0:k<0
 ·have he:rvE n k=1:=by unfold rvE;rw [if_neg (by simpa using hE),if_pos (.inl h0)]
  refine .lssT rfl rfl rfl h0 (.go rfl (.bld _ rfl rfl As4 (.storeA (E:=eN) ty_N rfl rfl k4 rfl rfl hz (fun h=>h.2 rfl) fun w4 k4' u4 h4=>.goE rfl ?_)))
  refine .plain [_,_] Tryz.results54 ⟨⟨_,rfl,C2 (E:=eN) ty_N rfl rfl k4' h4⟩,rfl,trivial⟩ ⟨u4.below x3 (by omega),_,_,rfl,?_,by rw [he]⟩
  rw [if_neg (by rw [he];decide)];exact eN.mono (fun _ _ h=>h.1) h4
 refine .lssF rfl rfl rfl h0 (.go rfl (.fa I5 rfl rfl (.go rfl (.ld M8 rfl rfl k2 rfl (.go rfl (.lenR L0 rfl rfl (hs.ext x3) (.go rfl ?_)))))))
 by_cases h1:(n.ls.length:Int)≤k
 ·have he:rvE n k=1:=by unfold rvE;rw [if_neg (by simpa using hE),if_pos (.inr h1)]
  refine .geqT rfl rfl rfl h1 (.go rfl (.bld _ rfl rfl As4 (.storeA (E:=eN) ty_N rfl rfl k4 rfl rfl hz (fun h=>h.2 rfl) fun w4 k4' u4 h4=>.goE rfl ?_)))
  refine .plain [_,_] Tryz.results54 ⟨⟨_,rfl,C2 (E:=eN) ty_N rfl rfl k4' h4⟩,rfl,trivial⟩ ⟨u4.below x3 (by omega),_,_,rfl,?_,by rw [he]⟩
  rw [if_neg (by rw [he];decide)];exact eN.mono (fun _ _ h=>h.1) h4
 have he:rvE n k=0:=by unfold rvE;rw [if_neg (by simpa using hE),if_neg (by omega)]
 rw [if_pos he,he]
 obtain ⟨j,rfl⟩:=Int.eq_ofNat_of_zero_le (show 0≤k by omega)
 rw [show (j:Int).toNat=j from Int.toNat_natCast j]
 have hj:j<n.ls.length:=by omega
 have hlen:=(Am3 hE).1
 refine .geqF rfl rfl rfl h1 (.goC rfl ?_)
 refine .par follows 7 [.inl (.pointer (some ⟨b2,0,none⟩)),.inl (.int .i64 n.b),.inl (.pointer (some ⟨b2,0+1,none⟩)),.inl s,.inr (fun v w=>OwnL eL 60 w3.heap.size (fun _=>False) w v n.ls),.inr (fun v w=>∃ u,v=.agg #[.int .i64 n.b,u]∧OwnL eL 60 w3.heap.size (fun _=>False) w u n.ls),.inr (NewP w3.heap.size 40 #[.int .i64 0,.slice none 0 0])] [[],[(24,0)],[],[(26,2)],[(27,3)],[(25,1),(28,4)],[]] (by kernel_rfl) ⟨
  fun w e=>(v_fa H9 rfl).ob,
  fun w e=>(v_ld A7 rfl (k2.ext e) rfl).ob,
  fun w e=>(v_fa I5 rfl).ob,
  fun w e=>(v_ld M8 rfl (k2.ext e) rfl).ob,
  fun w e=>(A3 _ E_clone rfl (clone_c (base:=w3.heap.size) (hs.ext (x3.trans e)) (by omega) e.size)).ob (fun _ _ _ e h=>h.ext e),
  fun w e x4 hx4=>by
  obtain ⟨a4,c4,hv4⟩:=hx4.slice
  exact Z2 (Au3 _ rfl (by rw [hv4];exact BI3)) ⟨x4,by rw [hv4],hx4⟩ (fun _ _ _ e h=>by obtain ⟨u,h1,h2⟩:=h;exact ⟨u,h1,h2.ext e⟩),
  fun w e=>AD3 Ae2 e.size,trivial⟩ ?_
 rintro w5 e5 x4' hx4' x5' hx5' x6' ⟨b7,rfl,hb7,k7⟩
 obtain ⟨u,rfl,hu⟩:=hx5'
 obtain ⟨au,cu,hus⟩:=hu.slice
 have k7o:=k7
 refine .store ty_N rfl rfl k7 rfl (by decide) (fun z hz=>by rw [hus] at hz;simp [Value.cells] at hz;rcases hz with rfl | rfl<;>rfl) fun w6 k7' u6=>?_
 have k7:Blk w6 b7 40 #[.int .i64 n.b,u]:=k7'
 have hu:OwnL eL 60 w3.heap.size (fun _=>False) w6 u n.ls:=hu.upd u6 k7o (by decide) (fun h=>h)
 have hB6:Ext w3 w6:=u6.below e5 hb7
 have k2:=k2.ext hB6
 have k4:=k4.ext hB6
 have z2:=k2.lt
 have hgl:n.ls[j]?=some (n.ls.getD j ln0):=A6 hj
 generalize hyy:n.ls.getD j ln0=y at hgl
 obtain ⟨ad,cs,rfl,_,hp⟩:=RL.at_ hs hgl
 obtain ⟨g,cap,rest,rfl,hbg,hB,put⟩:=hu.lines (by omega)
 have hokl:∀ z∈n.ls,okL z:=by
  obtain ⟨es,_,he⟩:=hu
  exact (Aq5 he).2
 have hoky:=hokl y (List.mem_iff_getElem?.2 ⟨j,hgl⟩)
 have hgb:g≠b7:=fun h=>by
  subst h
  have h1:w6.heap[g]?=some (.cells _ _ (0,0)):=hB
  have h2:w6.heap[g]?=some (.cells _ _ (0,0)):=k7
  have h3:=Option.some.inj (h1.symm.trans h2)
  injection h3 with _ h4
  exact absurd h4 (by decide)
 have hb2g:b2≠g:=by omega
 have hb4g:b4≠g:=by omega
 refine .goC rfl ?_
 refine .heldT follows true (fun W=>Ext w W∧Blk W b7 40 #[.int .i64 n.b,.slice (some ⟨g,0,none⟩) n.ls.length cap]∧Blk W b2 40 #[.int .i64 n.b,.slice (some ad) n.ls.length cs]) [some (.pointer (some ⟨b7,0+1,none⟩)),some (.slice (some ⟨g,0,none⟩) n.ls.length cap),some (.int .i64 (j:Nat)),some (.pointer (some ⟨b7,0+1,none⟩)),some (.slice (some ⟨g,0,none⟩) n.ls.length cap),some (.int .i64 (j:Nat)),some (.pointer (some ⟨b2,0+1,none⟩)),some (.slice (some ad) n.ls.length cs),some (.int .i64 (j:Nat)),some (.pointer (some (ad.add (j*4)))),some (.pointer (some ((ad.add (j*4)).add 1))),some (.int .i64 y.t),some (.pointer (some ⟨b2,0+1,none⟩)),some (.slice (some ad) n.ls.length cs),some (.int .i64 (j:Nat)),some (.pointer (some (ad.add (j*4)))),some (.pointer (some ((ad.add (j*4)).add 0))),some (.int .i64 y.f),none,none,none,none,none,none]
  (.one 18 (.one 19 (.one 20 (.one 21 (.one 22 (.one 23 .done)))))) (by kernel_rfl) (by kernel_rfl)
  ⟨fun _ _=>v_fa I5 rfl,fun _ h=>v_ld M8 rfl h.2.1 rfl,fun _ _=>v_mv rfl,fun _ _=>v_fa I5 rfl,fun _ h=>v_ld M8 rfl h.2.1 rfl,fun _ _=>v_mv rfl,fun _ _=>v_fa I5 rfl,fun _ h=>v_ld M8 rfl h.2.2 rfl,fun _ _=>v_mv rfl,fun _ _=>BC6 (i:=j) L0 R8 rfl rfl hj,fun _ _=>Au2 AA8 rfl,fun _ h=>PtrTo.v_ldI A7 rfl ((hp.ext h.1).ln 1 (by decide)),fun _ _=>v_fa I5 rfl,fun _ h=>v_ld M8 rfl h.2.2 rfl,fun _ _=>v_mv rfl,fun _ _=>BC6 (i:=j) L0 R8 rfl rfl hj,fun _ _=>Au2 AA9 rfl,fun _ h=>PtrTo.v_ldI A7 rfl ((hp.ext h.1).ln 0 (by decide)),trivial⟩ ?_
 intro w7 e7 _
 have x7:=(x3.trans hB6).trans e7
 have k7:=k7.ext e7
 have k2:=k2.ext e7
 have hB:=hB.ext e7
 refine .gv rfl ⟨x7,k7,k2⟩ rfl (L4 (i:=j) L0 R8 rfl rfl hj).gv ?_
 rintro _ _ ⟨rfl,rfl⟩
 refine .gv rfl ⟨x7,k7,k2⟩ rfl (v_fa AA9 rfl).gv ?_
 rintro _ _ ⟨rfl,rfl⟩
 refine .gv rfl ⟨x7,k7,k2⟩ rfl (H8 (v:=.int .i64 y.t) A7 rfl rfl hB rfl (by rw [List.size_toArray,List.length_append,S6];show 0+j*4+0+1≤_;omega) (fun z hz=>by simp [Value.cells] at hz;subst hz;rfl)) ?_
 rintro _ w8 ⟨hB8,u8⟩
 have hB8:Blk w8 g 60 (wrt (flL n.ls++rest).toArray (j*4+0) [.int .i64 y.t]):=by
  have:0+j*4+0=j*4+0:=by omega
  rw [←this];exact hB8
 rw [BB7 (y':=⟨y.t,y.t,y.x,y.c⟩) (by decide) rfl hgl] at hB8
 have x8:Ext w w8:=u8.below x7 (by omega)
 have k7:=k7.upd u8 hgb.symm
 have k2:=k2.upd u8 hb2g
 refine .gv rfl ⟨x8,k7,k2⟩ rfl (L4 (i:=j) L0 R8 rfl rfl hj).gv ?_
 rintro _ _ ⟨rfl,rfl⟩
 refine .gv rfl ⟨x8,k7,k2⟩ rfl (v_fa AA8 rfl).gv ?_
 rintro _ _ ⟨rfl,rfl⟩
 refine .gv rfl ⟨x8,k7,k2⟩ rfl (H8 (v:=.int .i64 y.f) A7 rfl rfl hB8 rfl (by rw [List.size_toArray,List.length_append,S6,List.length_set];show 0+j*4+1+1≤_;omega) (fun z hz=>by simp [Value.cells] at hz;subst hz;rfl)) ?_
 rintro _ w9 ⟨hB9,u9⟩
 have hB9:Blk w9 g 60 (wrt (flL (n.ls.set j ⟨y.t,y.t,y.x,y.c⟩)++rest).toArray (j*4+1) [.int .i64 y.f]):=by
  have:0+j*4+1=j*4+1:=by omega
  rw [←this];exact hB9
 rw [BB7 (y:=⟨y.t,y.t,y.x,y.c⟩) (y':=⟨y.t,y.f,y.x,y.c⟩) (by decide) rfl (List.getElem?_set_self hj),rvN_set n j hgl] at hB9
 have x9:Ext w w9:=u9.below x8 (by omega)
 have k7:=k7.upd u9 hgb.symm
 have k4:=((k4.ext e7).upd u8 hb4g).upd u9 hb4g
 have hrl:(rvN n j).ls.length=n.ls.length:=List.length_set
 have hO:=put (rvN n j).ls w9 hrl (fun z hz=>by
  rcases List.mem_or_eq_of_mem_set (show z∈n.ls.set j (rvL (n.ls.getD j ln0)) from hz) with h | h
  ·exact hokl z h
  ·rw [h,hyy];exact ⟨hoky.2.1,hoky.1,hoky.2.2⟩) hB9
 refine .nil (.inl rfl) ?_
 have hm:eN.R (fun k=>S k∧k≠b4) w9 (.agg #[.int .i64 n.b,.slice (some ⟨g,0,none⟩) n.ls.length cap]) (rvN n j):=⟨_,rfl,hO.toR (fun k hk=>⟨up k (by omega),by omega⟩) (fun _ h=>h.elim),hb⟩
 refine .go rfl (.ldA ty_N rfl rfl k7 rfl (.storeA (E:=eN) ty_N rfl rfl k4 rfl rfl hm (fun h=>h.2 rfl) fun w10 k4' u10 h10=>.goE rfl ?_))
 exact .plain [_,_] Tryz.results54 ⟨⟨_,rfl,C2 (E:=eN) ty_N rfl rfl k4' h10⟩,rfl,trivial⟩ ⟨u10.below x9 (by omega),_,_,rfl,eN.mono (fun _ _ h=>h.1) h10,rfl⟩
end Go.Proofs.YteghbhdniimjbaaGreat

namespace Go.Proofs.YteghbhdniimjbaaGreat
open Go Go.Kx Go.RowKit
set_option maxRecDepth 8000 in
theorem AG0 {w:World} {vn vo vx:Value} {n:NtV} {o:List Int} {x:List QV} {k:Int} (hn:eN.R (fun _=>True) w vn n) (ho:eI.R (fun _=>True) w vo o) (hx:eV.R (fun _=>True) w vx x):CR Tryz.prog 8 #[vn,vo,vx,.int .i64 k] w (Is (.bool true)):=by
 obtain ⟨s,rfl,hs,hb⟩:=hn
 have hn:eN.R (fun _=>True) w (.agg #[.int .i64 n.b,s]) n:=⟨s,rfl,hs,hb⟩
 obtain ⟨ax,cx,hvx,_,hxl⟩:=RL.len hx
 refine enter Tryz.func8 rfl Tryz.ntmps8 rfl (.beg (.go rfl (.box rfl rfl fun w1 b3 n1=>?_)))
 obtain ⟨e1,k3,hb3,hs1⟩:=n1
 refine .go rfl (.ldA ty_N rfl rfl k3 rfl (.go rfl (.bsl _ rfl rfl (by rw [hvx];exact BI2) fun w2 b17 n2=>?_)))
 have hl:eM.R (fun _=>True) w2 (.slice (some ⟨b17,0,none⟩) 1 1) [x]:=BH4 [vx] [x] n2 upT (by rw [hvx]) rfl (by decide) (Els.snoc Els.nil (ER.ext eV hx e1))
 have x2:=e1.trans n2.1
 refine .call _ rfl Ah8 rfl (Af7 (hn.ext x2) (ho.ext x2) hl) fun v3 w3 e3 h3=>?_
 obtain ⟨bl,rfl,hlong⟩:=h3
 have x3:=x2.trans e3
 clear hl
 cases bl with
 | true =>
  refine .go rfl (.call _ rfl AH4 rfl AG9 fun v4 w4 e4 h4=>?_)
  subst h4
  exact .goE rfl (.plain [_] Tryz.results8 ⟨rfl,trivial⟩ ⟨x3.trans e4,rfl⟩)
 | false =>
 refine .go rfl (.call _ rfl AH4 rfl AG9 fun v4 w4 e4 h4=>?_)
 subst h4
 have x4:=x3.trans e4
 have k3:=k3.ext ((n2.1.trans e3).trans e4)
 have hk:vk 4 x:=(hlong rfl x (by simp)).vk hx
 have hx20:x.length≤20:=(hlong rfl x (by simp)).1
 refine .go rfl (.ldA ty_N rfl rfl k3 rfl (.go rfl ?_))
 refine .call _ rfl AU6 rfl (AU0 upT (hn.ext x4) (ho.ext x4) (ER.ext eV hx x4) hk (by decide) (by decide)) fun v5 w5 e5 h5=>?_
 obtain ⟨vi,vb,rfl,hi,rfl⟩:=h5
 have x5:=x4.trans e5
 have k3:=k3.ext e5
 refine .go rfl (.ldA ty_N rfl rfl k3 rfl (.go rfl ?_))
 refine .call _ rfl Ab3 rfl (Aa5 (k:=k) upT (hn.ext x5)) fun v6 w6 e6 h6=>?_
 obtain ⟨vm,ve,rfl,hm,rfl⟩:=h6
 have x6:=x5.trans e6
 refine .go rfl (.alloc rfl Ae2 fun w7 b11 n7=>?_)
 obtain ⟨e7,k11,hb11,hs7⟩:=n7
 have hm7:=ER.ext eN (ER.lt eN hm) e7
 refine .storeA (E:=eN) ty_N rfl rfl k11 rfl rfl hm7 (fun h=>by have:=h.2;omega) fun w8 k11 u8 hm8=>?_
 have x8:Ext w w8:=u8.below (x6.trans e7) (by have:=x6.size;omega)
 have y8:Ext w5 w8:=u8.below (e6.trans e7) (by have:=e6.size;omega)
 have hm8:eN.R (fun _=>True) w8 vm _:=eN.mono (fun _ _ _=>trivial) hm8
 by_cases hS:sfE n o x.length=0
 rotate_left
 ·rw [show blB n o x.length=false by unfold blB;exact decide_eq_false hS]
  exact .goE rfl (.tt Tryz.results8 rfl x8)
 rw [show blB n o x.length=true by unfold blB;exact decide_eq_true hS]
 rw [if_pos hS] at hi
 obtain ⟨hO,hxb⟩:=Ae4 hS
 have ok:=Q5 hO
 have hB6:=ok.b6
 have hB1:=ok.b1
 have hM10:n.ls.length≤10:=ok.m
 have hnb:=ok.b
 have hki:=bl_vk ok hk
 have han:=bl_an hO (x:=x)
 have hil:(tab (nwOf n o).B ((nwOf n o).bl (rv x))).length=(nwOf n o).B:=A1 ..
 have hblr:(nwOf n o).bal (rv (tab (nwOf n o).B ((nwOf n o).bl (rv x)))):=bl_bal
 generalize hxi:tab (nwOf n o).B ((nwOf n o).bl (rv x))=xi at hi hki han hil hblr
 refine .go rfl ?_
 by_cases hE:rvE n k=0
 rotate_left
 ·exact .neqT rfl rfl rfl hE (.goE rfl (.tt Tryz.results8 rfl x8))
 rw [if_pos hE] at hm8
 have hkk:chkE n=0∧0≤k∧k<n.ls.length:=by
  unfold rvE at hE
  by_cases h1:chkE n=0
  ·rw [if_neg (by simpa using h1)] at hE
   by_cases h2:k<0∨(n.ls.length:Int)≤k
   ·rw [if_pos h2] at hE;cases hE
   ·exact ⟨h1,by omega,by omega⟩
  ·rw [if_pos h1] at hE;exact absurd hE h1
 obtain ⟨hck,hk0,hkl⟩:=hkk
 obtain ⟨j,rfl⟩:=Int.eq_ofNat_of_zero_le hk0
 rw [show (j:Int).toNat=j from Int.toNat_natCast j] at hm8
 have hj:j<n.ls.length:=by omega
 have hrl:(rvN n j).ls.length=n.ls.length:=List.length_set
 have hOm:outE (rvN n j) o=0:=BE7 hrl hO (rvN_chk hck hj)
 have okm:=Q5 hOm
 have hanm:anE (rvN n j) o xi=0:=As6 hOm (by rw [hil];show _≤n.b;omega) ((Ae6 hj).bal hblr)
 have hi:=ER.ext eV hi y8
 have k3:=k3.ext y8
 refine .neqF rfl rfl rfl hE (.go rfl (.ldA ty_N rfl rfl k3 rfl (.go rfl ?_)))
 refine .call _ rfl S9 rfl (AA7 upT (hn.ext x8) (ho.ext x8) hi hki (by decide) (by decide)) fun v9 w9 e9 h9=>?_
 obtain ⟨vf,ve,rfl,hf,he⟩:=h9
 replace he:ve=.int .i64 0:=by rw [he,han]
 subst he
 rw [if_pos han] at hf
 have hmv:=shpA (E:=eN) rfl hm8
 refine .go rfl (.ldA ty_N rfl rfl (k11.ext e9) (eN.csz hm8) (.go rfl ?_))
 rw [←hmv]
 refine .call _ rfl S9 rfl (Aa7 upT (ER.ext eN hm8 e9) (ho.ext (x8.trans e9)) (ER.ext eV hi e9) hki (by decide) (by decide) hanm) fun v10 w10 e10 h10=>?_
 obtain ⟨vh,ve,rfl,hh,he⟩:=h10
 subst he
 obtain ⟨h,hhB,hhv,fb⟩:=hh
 rw [A1,hrl] at hhv
 subst hhv
 rw [hrl] at fb
 have hf9:eV.R (fun k=>k<w9.heap.size) w9 vf _:=eV.mono (fun _ _ h=>h.2) (ER.lt eV hf)
 have x10:=(x8.trans e9).trans e10
 have z9:=(x8.trans e9).size
 have hfl:(tab n.ls.length ((nwOf n o).fl ((nwOf n o).an (rv xi)))).length=n.ls.length:=A1 ..
 refine .go rfl (.neqF rfl rfl rfl rfl (.go rfl (.neqF rfl rfl rfl rfl (.go rfl (.lenR un_V rfl rfl (ER.ext eV hf e10) (.go rfl (.fa I5 rfl rfl (.go rfl (.ld M8 rfl rfl (k3.ext (e9.trans e10)) rfl (.go rfl (.lenR L0 rfl rfl (hs.ext x10) (.go rfl ?_))))))))))))
 rw [hfl]
 have hhR:=fb.toR (hsz:=by decide) (c:=n.ls.length) trivial (by rw [A1];exact Nat.le_refl _) (by rw [A1];omega)
 have hhl:(tab n.ls.length ((nwOf (rvN n j) o).fl ((nwOf (rvN n j) o).an (rv xi)))).length=n.ls.length:=A1 ..
 rw [hhl] at hhR
 refine .neqF rfl rfl rfl rfl (.go rfl (.lenR un_V rfl rfl hhR (.go rfl (.lenR un_V rfl rfl (ER.ext eV hf e10) (.go rfl ?_)))))
 rw [hfl,hhl]
 refine .neqF rfl rfl rfl rfl (.go rfl (.ixB (i:=j) un_V ty_Q rfl rfl rfl hj ?_))
 obtain ⟨e,hee,pe⟩:=fb.at_ (by decide) (L5 hj)
 have pe:PtrX w10 ⟨h,0+j*4,none⟩ e:=by rw [Nat.zero_add];exact pe
 refine .vl rfl rfl (AQ6 (E:=eQ) ty_Q rfl pe hee) ?_
 have hkm:=fl_vk okm hki (by decide) (by decide)
 rw [hrl] at hkm
 have hrz:Rsz ((nwOf (rvN n j) o).fl ((nwOf (rvN n j) o).an (rv xi)) j) 1200000:=by
  have:=hkm.rsz (by decide) j
  rw [J1,if_pos hj] at this
  exact this
 have z10:=fb.lt
 refine .call _ rfl AB7 rfl (AA5 (S:=fun k=>True∧k≠h) (L:=1200000) (fun k hk=>⟨trivial,by omega⟩) hee (AD1 hrz) (by decide) (by decide)) fun y w11 e11 hy=>?_
 rw [E1] at hy
 refine .go rfl (.ixB (i:=j) un_V ty_Q rfl rfl rfl hj (.storeF (E:=eQ) (i:=j) (by decide) ty_Q rfl rfl (fb.ext e11) rfl (by rw [A1];exact hj) (Nat.zero_add _) hy fun w12 f12 u12=>.go rfl ?_))
 rw [R9] at f12
 have hlist:(tab n.ls.length fun k=>if k=j then-(nwOf (rvN n j) o).fl ((nwOf (rvN n j) o).an (rv xi)) j else (nwOf (rvN n j) o).fl ((nwOf (rvN n j) o).an (rv xi)) k)=tab n.ls.length ((nwOf n o).fl ((nwOf n o).an (rv xi))):=D6 fun k hk=>by
  by_cases e:k=j
  ·subst e
   rw [if_pos rfl,BD6 hj ok.ok okm.ok (rv xi) hk,if_pos rfl];grind
  ·rw [if_neg e,BD6 hj ok.ok okm.ok (rv xi) hk,if_neg e]
 rw [hlist] at f12
 have hh:=f12.toR (hsz:=by decide) (c:=n.ls.length) trivial (by rw [A1];exact Nat.le_refl _) (by rw [A1];omega)
 rw [A1] at hh
 have hf12:eV.R (fun _=>True) w12 vf (tab n.ls.length ((nwOf n o).fl ((nwOf n o).an (rv xi)))):=eV.mono (fun _ _ _=>trivial) (eV.keep (Kp.upd u12 (fun hk=>by omega)) (ER.ext eV hf9 (e10.trans e11)))
 have hkf:=fl_vk ok hki (by decide) (by decide)
 have heq:=Aj0 upT hf12 hh (by rw [A1];omega) (by rw [A1];omega) hkf hkf (by decide) (by decide)
 rw [eqV_t fun k=>rfl] at heq
 refine .call _ rfl An6 rfl heq fun v13 w13 e13 h13=>?_
 subst h13
 have x12:Ext w w12:=u12.below (x10.trans e11) (by omega)
 exact .goE rfl (.tt Tryz.results8 rfl (x12.trans e13))
end Go.Proofs.YteghbhdniimjbaaGreat

namespace Go.Kx
open Go Go.RowKit Go.ChangeShapes Go.WideShapes
section
variable {H:Type} {enc:TypeId×Value→H} {P:Program} {W:World}
def sh4 (P:Program) (t:TypeId):Option (List (TypeId×Nat)) :=
 match P.underlying t with
 | some (.struct fs)=>if fs.size=4 then some (fs.toList.map fun f=>(f.type,f.offset)) else none
 | _=>none
theorem BF0 {t ti tj:TypeId} (hs:sh4 P t=some [(ti,0),(ti,1),(tj,2),(tj,3)]) (hi:P.underlying ti=some (.int .i64)) (hj:P.underlying tj=some (.int .i64)) (hci:P.cellsOf ti=1) (hcj:P.cellsOf tj=1) (hct:P.cellsOf t=4):Opn enc P W eL t (fun _ _=>True):=by
 intro fuel cs x hx
 unfold sh4 at hs
 split at hs
 ·rename_i fs hu
  split at hs
  ·rename_i hsz
   simp only [Option.some.injEq] at hs
   obtain ⟨l⟩:=fs
   match l,hsz with
   | [f0,f1,f2,f3],_ =>
    simp only [List.map_cons,List.map_nil,List.cons.injEq,Prod.mk.injEq,and_true] at hs
    obtain ⟨⟨h0,o0⟩,⟨h1,o1⟩,⟨h2,o2⟩,h3,o3⟩:=hs
    obtain ⟨y0,y1,y2,y3,n,rfl,hl,g0,g1,g2,g3⟩:=Joins.trod_struct4 hu hx
    rw [h0,o0,hci] at g0
    rw [h1,o1,hci] at g1
    rw [h2,o2,hcj] at g2
    rw [h3,o3,hcj] at g3
    rw [hct] at hl
    obtain ⟨c0,c1,c2,c3,rfl⟩:∃ c0 c1 c2 c3,cs=[c0,c1,c2,c3]:=by
     match cs,hl with
     | [c0,c1,c2,c3],_=>exact ⟨c0,c1,c2,c3,rfl⟩
    obtain ⟨n0,e0,_,w0⟩:=DataW.trod_int hi g0
    obtain ⟨n1,e1,_,w1⟩:=DataW.trod_int hi g1
    obtain ⟨n2,e2,_,w2⟩:=DataW.trod_int hj g2
    obtain ⟨n3,e3,_,w3⟩:=DataW.trod_int hj g3
    simp at e0 e1 e2 e3
    subst e0 e1 e2 e3
    exact ⟨.agg #[.int .i64 n0,.int .i64 n1,.int .i64 n2,.int .i64 n3],⟨n0,n1,n2,n3⟩,rfl,⟨rfl,AQ4 w0,AQ4 w1,AQ4 w2,AQ4 w3⟩,trivial⟩
  ·cases hs
 ·cases hs
theorem opn_N {t ti tl te:TypeId} (hs:sh2 P t=some ((ti,0),(tl,1))) (hi:P.underlying ti=some (.int .i64)) (hci:P.cellsOf ti=1) (hcl:P.cellsOf tl=1) (hct:P.cellsOf t=2) (hl:P.underlying tl=some (.slice te)) (hce:P.cellsOf te=4) (he:Opn enc P W eL te (fun _ _=>True)):Opn enc P W eN t (fun _ _=>True):=by
 intro fuel cs x hx
 obtain ⟨y0,y1,n,rfl,hlen,h0,h1⟩:=AX1 hs hx
 rw [hci] at h0
 rw [hcl] at h1
 rw [hct] at hlen
 obtain ⟨c0,c1,rfl⟩:∃ c0 c1,cs=[c0,c1]:=by
  match cs,hlen with
  | [c0,c1],_=>exact ⟨c0,c1,rfl⟩
 obtain ⟨b,hb',_,hw⟩:=DataW.trod_int hi h0
 simp at hb'
 subst hb'
 obtain ⟨e,l,he',hR,_⟩:=(Opn.slice (Z:=fun _ _=>True) (E:=eL) (by decide) hl hce he) n _ _ h1
 obtain ⟨a,c,rfl,_⟩:=RL.len hR
 simp [Value.cells] at he'
 subst he'
 exact ⟨.agg #[.int .i64 b,.slice a l.length c],⟨b,l⟩,rfl,⟨_,rfl,hR,AQ4 hw⟩,trivial⟩
end
end Go.Kx
namespace Go.Proofs.YteghbhdniimjbaaGreat
open Go Go.Kx Go.RowKit
section
variable {H:Type} {enc:TypeId×Value→H} {W:World}
theorem opnN:Opn enc Tryz.prog W eN 40 (fun _ _=>True):=opn_N (ti:=3) (tl:=38) (te:=60) (by kernel_rfl) AA2 (by kernel_rfl) (by kernel_rfl) (by kernel_rfl) L0 (by kernel_rfl) (BF0 (ti:=3) (tj:=2) (by kernel_rfl) AA2 AW9 (by kernel_rfl) (by kernel_rfl) (by kernel_rfl))
theorem opnH:Opn enc Tryz.prog W eI 41 (ZL fun _ _=>True):=Opn.slice (by decide) un_I (by kernel_rfl) (opn_int AA2)
end
end Go.Proofs.YteghbhdniimjbaaGreat
