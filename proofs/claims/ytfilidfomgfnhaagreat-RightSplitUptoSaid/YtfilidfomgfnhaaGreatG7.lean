/-
  law 38: Long, circle, row, awake law 38: RightFewer vec.Dot, node.Trade, right.Pays for longer numbers; node.Rent law 38: total law 33: Long What all rights are paid law 05: what the walks of the laws share append(l, s...): the elements of another slice. As Ko, with plans that let three operations come first. law 38: RightTotal ref02.Same, ref33.SameRow; law 38: RightSplit What is handed in, opened: networks. What is handed in, opened, with its bulk: vectors whose numbers hold no more words than the whole; rights.
-/
import Derived.Test.YtfilidfomgfnhaaGreatG6
import Derived.Lib.SmallJoins
import Derived.Test.YtfilidfomgfnhaaGreatRows
import Derived.Deep.Strs
set_option linter.unusedVariables false
namespace Go.Proofs.YtfilidfomgfnhaaGreat
open Go Go.Kx Go.RowKit
theorem Ai7:Ent Tryz.prog 46:=A0 Tryz.func46 (by kernel_rfl) rfl
theorem Ag4 {S:Nat→Prop} {w:World} {vn vo vl:Value} {n:NtV} {o:List Int} {l:List RtV} (hn:eN.R S w vn n) (ho:eI.R S w vo o) (hl:eRts.R S w vl l):CR Tryz.prog 46 #[vn,vo,vl] w (Lng (l.length≤30)):=by
 obtain ⟨s,rfl,hs,hb⟩:=hn
 refine enter Tryz.func46 rfl Tryz.ntmps46 rfl (.beg (.go rfl (.box rfl rfl fun w1 b3 n1=>?_)))
 obtain ⟨e1,k3,hb3,hs1⟩:=n1
 have htr:∀ {σ:Env},Kx.look σ 6=some (.bool true)→Leave Tryz.prog Tryz.f46 21 (fun v w'=>Ext w w'∧Lng (l.length≤30) v w') σ [] w1:=fun h=>.plain [_] Tryz.results46 ⟨h,trivial⟩ ⟨e1,true,rfl,fun h=>by cases h⟩
 refine .go rfl (.fa S6 rfl rfl (.lc AD0 rfl rfl k3 rfl (.lenR X4 rfl rfl (hs.ext e1) ?_)))
 by_cases h1:30<n.ls.length
 ·exact .gtrT rfl rfl rfl (by omega) (.goE rfl (htr rfl))
 refine .gtrF rfl rfl rfl (by omega) (.go rfl (.lenR un_I rfl rfl (ho.ext e1) (.go rfl ?_)))
 by_cases h2:30<o.length
 ·exact .gtrT rfl rfl rfl (by omega) (.goE rfl (htr rfl))
 refine .gtrF rfl rfl rfl (by omega) (.go rfl (.lenR H4 rfl rfl (ER.ext eRts hl e1) (.go rfl ?_)))
 by_cases h3:30<l.length
 ·exact .gtrT rfl rfl rfl (by omega) (.goE rfl (htr rfl))
 ·refine .gtrF rfl rfl rfl (by omega) (.goE rfl ?_)
  exact .plain [_] Tryz.results46 ⟨rfl,trivial⟩ ⟨e1,false,rfl,fun _=>by omega⟩
def netc:NtV:=⟨3,[⟨0,1,1,10⟩,⟨1,2,1,10⟩,⟨0,2,1,10⟩]⟩
theorem J2:Ent Tryz.prog 113:=A0 Tryz.func113 (by kernel_rfl) rfl
theorem J1 {w:World}:CR Tryz.prog 113 #[] w (eN.at (fun _=>True) netc):=by
 refine enter Tryz.func113 rfl Tryz.ntmps113 rfl (.beg (.go rfl (.alloc rfl zero_N fun w1 b0 n1=>.go rfl (.bld _ rfl rfl Ah8 (.bld _ rfl rfl Ah8 (.bld _ rfl rfl Ah8 (.bsl _ rfl rfl bsl_Ls3 fun w2 b4 n2=>.bld _ rfl rfl bld_N2 ?_)))))))
 obtain ⟨e1,k0,hb0,hs1⟩:=n1
 have hl:eLs.R (fun k=>k≠b0) w2 (.slice (some ⟨b4,0,none⟩) 3 3) netc.ls:=AF3 (E:=eL) [_,_,_] netc.ls n2 (fun k hk=>by omega) rfl rfl (by decide) (Els.snoc (Els.snoc (Els.snoc Els.nil (ln_R (by decide))) (ln_R (by decide))) (ln_R (by decide)))
 have hn:eN.R (fun k=>k≠b0) w2 (.agg #[.int .i64 3,.slice (some ⟨b4,0,none⟩) 3 3]) netc:=⟨_,rfl,hl,B7.2 (by decide)⟩
 refine .storeA (E:=eN) ty_N rfl rfl (k0.ext n2.1) rfl rfl hn (fun h=>h rfl) fun w3 k3 u3 h3=>.goE rfl ?_
 exact .cell (E:=eN) Tryz.results113 rfl ty_N rfl rfl k3 h3 ⟨u3.below (e1.trans n2.1) (by omega),eN.mono (fun _ _ _=>trivial) h3⟩
theorem Y5:Ent Tryz.prog 115:=A0 Tryz.func115 (by kernel_rfl) rfl
theorem X6 {w:World} {va vl:Value} {a:List QV} {l:List Int} {L:Nat} (ha:eV.R (fun _=>True) w va a) (hl:eI.R (fun _=>True) w vl l) (hka:vk L a) (hL1:2≤L) (hL:L≤10000000000) (hd:∀ x∈l,-9223372036854775808≤x∧x≤9223372036854775807) (hlen:a.length=l.length) (hl3:l.length≤1000) (he:∀ k,k<l.length→rv a k=((l.getD k 0:Int):Rat)):CR Tryz.prog 115 #[va,vl] w (Is (.bool true)):=by
 refine enter Tryz.func115 rfl Tryz.ntmps115 rfl (.beg (.go rfl (.lenR un_V rfl rfl ha (.go rfl (.lenR un_L rfl rfl hl ?_)))))
 refine .eqlT rfl rfl rfl (by omega) (.go rfl ?_)
 refine .call _ rfl U9 rfl (T7 upT hl (by omega)) fun v2 w2 e2 h2=>.go rfl ?_
 have h3:=Ak1 (L:=L) upT (ER.ext eV ha e2) h2 (by omega) (by rw [A3];omega) hka ((Aj9 hd).mono hL1) (by omega) hL
 rw [eqV_t fun k=>by
  rw [S4]
  by_cases hk:k<l.length
  ·rw [if_pos hk,he k hk]
  ·rw [if_neg hk,AP3 (by omega)]] at h3
 refine .call _ rfl Ao7 rfl h3 fun v4 w4 e4 h4=>?_
 subst h4
 exact .goE rfl (.tt Tryz.results115 rfl (e2.trans e4))
/-! the examples -/
def candc (b c:Nat):Rat:=if b=0 then 1 else if c=0 then 0 else if b=c then Rat.divInt 2 3 else Rat.divInt 1 3
theorem okc:outE netc []=0:=Av8 (by decide) (by decide)
theorem okc3:outE netc [0,1,2]=0:=Av8 (by decide) (by decide)
theorem BH5:∀ b,b<(nwOf netc []).B→∀ i,i<(nwOf netc []).B→(if (nwOf netc []).root i=i then candc b i else (nwOf netc []).lap (candc b) i)=dl i b:=by
 have:∀ b,b<3→∀ i,i<3→(if (nwOf netc []).root i=i then candc b i else (nwOf netc []).lap (candc b) i)=dl i b:=by decide +kernel
 exact this
theorem Av4 (l:List RtV) {k:Nat} (hk:k<3):rfV netc [] l k=sumN 3 fun b=>(nwOf netc []).fl (candc b) k*((rtS l b:Int):Rat):=by
 have ok:=AM7 okc
 unfold rfV
 exact B5 fun b hb=>by rw [Nw.hf_cand ok.ok ok.b1 candc BH5 hk hb]
def rtB (b:Int) (l:List RtV):Bool:=decide (l.length≤8) && l.all fun r=>decide (0≤r.f) && decide (r.f<b) && decide (0≤r.t) && decide (r.t<b) && decide (0≤r.q) && decide (r.q≤1000000)
theorem BD5 {l:List RtV} {b:Int} (h:rtB b l=true):rtE l b=0:=by
 unfold rtB at h
 simp only [Bool.and_eq_true,decide_eq_true_eq,List.all_eq_true] at h
 unfold rtE
 rw [if_neg (by omega),if_pos]
 intro r hr
 have:=h.2 r hr
 exact ⟨this.1.1.1.1.1,this.1.1.1.1.2,this.1.1.1.2,this.1.1.2,this.1.2,this.2⟩
theorem BD7 {n:NtV} {o:List Int} {l:List RtV} (h1:outE n o=0) (h2:rtB n.b l=true) (h3:(l.all fun r=>decide ((nwOf n o).root r.f.toNat=(nwOf n o).root r.t.toNat))=true):rfE n o l=0:=by
 unfold rfE
 rw [if_neg (by simpa using h1),if_neg (by simpa using BD5 h2),if_neg]
 rintro ⟨r,hr,hne⟩
 exact hne (of_decide_eq_true (List.all_eq_true.1 h3 r hr))
theorem rfE_not {n:NtV} {o:List Int} {l:List RtV} (h1:outE n o=0) (h2:rtB n.b l=true) (h3:(l.all fun r=>decide ((nwOf n o).root r.f.toNat=(nwOf n o).root r.t.toNat))=false):rfE n o l=10:=by
 unfold rfE
 rw [if_neg (by simpa using h1),if_neg (by simpa using BD5 h2),if_pos]
 apply Classical.byContradiction
 intro h
 rw [Bool.eq_false_iff] at h3
 refine h3 (List.all_eq_true.2 fun r hr=>decide_eq_true (Classical.byContradiction fun hne=>h ⟨r,hr,hne⟩))
theorem rc1:rfE netc [] [⟨0,2,12⟩]=0:=BD7 okc (by decide) (by decide +kernel)
theorem rc2:rfE netc [] [⟨0,2,18⟩]=0:=BD7 okc (by decide) (by decide +kernel)
theorem rc3:rfE netc [0,1,2] [⟨0,2,12⟩]=10:=rfE_not okc3 (by decide) (by decide +kernel)
theorem rv1:∀ k,k<3→rfV netc [] [⟨0,2,12⟩] k=((([4,4,8]:List Int).getD k 0:Int):Rat):=fun k hk=>by
 have h:∀ k,k<3→(sumN 3 fun b=>(nwOf netc []).fl (candc b) k*((rtS [⟨0,2,12⟩] b:Int):Rat))=((([4,4,8]:List Int).getD k 0:Int):Rat):=by decide +kernel
 rw [Av4 _ hk,h k hk]
theorem rv2:∀ k,k<3→rfV netc [] [⟨0,2,18⟩] k=((([6,6,12]:List Int).getD k 0:Int):Rat):=fun k hk=>by
 have h:∀ k,k<3→(sumN 3 fun b=>(nwOf netc []).fl (candc b) k*((rtS [⟨0,2,18⟩] b:Int):Rat))=((([6,6,12]:List Int).getD k 0:Int):Rat):=by decide +kernel
 rw [Av4 _ hk,h k hk]
theorem fe1:feP netc [] [⟨0,2,12⟩]:=⟨rc1,fun k hk=>by
 rw [rv1 k hk]
 have h:∀ k,k<3→absR ((([4,4,8]:List Int).getD k 0:Int):Rat)≤(((netc.ls.getD k ln0).c:Int):Rat):=by decide +kernel
 exact h k hk⟩
theorem fe2:¬ feP netc [] [⟨0,2,18⟩]:=fun h=>by
 have h1:=h.2 2 (by decide)
 rw [rv2 2 (by decide)] at h1
 exact absurd h1 (by decide +kernel)
theorem fe3:¬ feP netc [0,1,2] [⟨0,2,12⟩]:=fun h=>by have:=h.1;rw [rc3] at this;cases this
theorem At2 {a b c:Int}:bldOf Tryz.prog 59 [(0,.int .i64 a),(1,.int .i64 b),(2,.int .i64 c)]=some #[.int .i64 a,.int .i64 b,.int .i64 c]:=by kernel_rfl
theorem Ah5 {a b c:Value}:bslOf Tryz.prog 57 1 [(0,.agg #[a,b,c])]=some (59,#[a,b,c]):=by kernel_rfl
theorem BI4 {x y z:Int}:bslOf Tryz.prog 25 3 [(0,.int .i64 x),(1,.int .i64 y),(2,.int .i64 z)]=some (3,#[.int .i64 x,.int .i64 y,.int .i64 z]):=by kernel_rfl
theorem rt_R {S:Nat→Prop} {w:World} {a b c:Int} (h:∀ x∈[a,b,c],-9223372036854775808≤x∧x≤9223372036854775807):eRt.R S w (.agg #[.int .i64 a,.int .i64 b,.int .i64 c]) ⟨a,b,c⟩:=⟨rfl,B7.2 (h a (by simp)),B7.2 (h b (by simp)),B7.2 (h c (by simp))⟩
theorem pa_of {l:List RtV} {m:Nat} (h:(l.all fun r=>decide (0≤r.f∧r.f<(m:Int)) && decide (0≤r.t∧r.t<(m:Int)))=true):paE l m=0:=by
 unfold paE
 rw [if_pos]
 intro r hr
 have:=List.all_eq_true.1 h r hr
 simp only [Bool.and_eq_true,decide_eq_true_eq] at this
 exact ⟨this.1,this.2⟩
theorem L8:Ent Tryz.prog 48:=A0 Tryz.func48 (by kernel_rfl) rfl
set_option maxRecDepth 8000 in
open Classical in
theorem Ab6 {w:World}:CR Tryz.prog 48 #[] w (Is (.bool true)):=by
 refine enter Tryz.func48 rfl Tryz.ntmps48 rfl (.beg (.go rfl (.bld _ rfl rfl At2 (.bsl _ rfl rfl Ah5 fun w1 b1 n1=>.bld _ rfl rfl At2 (.bsl _ rfl rfl Ah5 fun w2 b2 n2=>.bld _ rfl rfl At2 (.bsl _ rfl rfl Ah5 fun w3 b3 n3=>.go rfl ?_))))))
 have y3:=(n1.1.trans n2.1).trans n3.1
 have h1:eRts.R (fun _=>True) w3 (.slice (some ⟨b1,0,none⟩) 1 1) [⟨0,2,12⟩]:=ER.ext eRts (AF3 (E:=eRt) (hsz:=by decide) [_] [⟨0,2,12⟩] n1 upT rfl rfl (by decide) (Els.snoc Els.nil (rt_R (by decide)))) (n2.1.trans n3.1)
 have h2:eRts.R (fun _=>True) w3 (.slice (some ⟨b2,0,none⟩) 1 1) [⟨0,2,18⟩]:=ER.ext eRts (AF3 (E:=eRt) (hsz:=by decide) [_] [⟨0,2,18⟩] n2 upT rfl rfl (by decide) (Els.snoc Els.nil (rt_R (by decide)))) n3.1
 have h3:eRts.R (fun _=>True) w3 (.slice (some ⟨b3,0,none⟩) 1 1) [⟨2,0,12⟩]:=AF3 (E:=eRt) (hsz:=by decide) [_] [⟨2,0,12⟩] n3 upT rfl rfl (by decide) (Els.snoc Els.nil (rt_R (by decide)))
 have okc':=AM7 okc
 refine .call _ rfl J2 rfl J1 fun v4 w4 e4 h4=>.go rfl ?_
 refine .call _ rfl G8 rfl (G6 (o:=[]) upT h4 RL.nil (ER.ext eRts h1 e4)) fun v5 w5 e5 h5=>?_
 obtain ⟨va,ve,rfl,ha,he⟩:=h5
 replace he:ve=.int .i64 0:=by rw [he,rc1]
 subst he
 rw [if_pos rc1] at ha
 have z5:=e4.trans e5
 refine .go rfl (.call _ rfl J2 rfl J1 fun v6 w6 e6 h6=>.go rfl ?_)
 refine .call _ rfl G8 rfl (G6 (o:=[]) upT h6 RL.nil (ER.ext eRts h2 (z5.trans e6))) fun v7 w7 e7 h7=>?_
 obtain ⟨vb,ve,rfl,hb,he⟩:=h7
 replace he:ve=.int .i64 0:=by rw [he,rc2]
 subst he
 rw [if_pos rc2] at hb
 have z7:=(z5.trans e6).trans e7
 refine .go rfl (.call _ rfl J2 rfl J1 fun v8 w8 e8 h8=>.go rfl ?_)
 refine .call _ rfl P8 rfl (P0 (o:=[]) upT h8 RL.nil (ER.ext eRts h1 (z7.trans e8))) fun v9 w9 e9 h9=>?_
 obtain ⟨vc,ve,rfl,hc,he⟩:=h9
 replace hc:vc=.bool true:=by rw [hc,decide_eq_true fe1]
 replace he:ve=.int .i64 0:=by rw [he];unfold feE;rw [rc1];rfl
 subst hc he
 have z9:=(z7.trans e8).trans e9
 refine .go rfl (.call _ rfl J2 rfl J1 fun v10 w10 e10 h10=>.go rfl ?_)
 refine .call _ rfl P8 rfl (P0 (o:=[]) upT h10 RL.nil (ER.ext eRts h2 (z9.trans e10))) fun v11 w11 e11 h11=>?_
 obtain ⟨vd,ve,rfl,hd,he⟩:=h11
 replace hd:vd=.bool false:=by rw [hd,decide_eq_false fe2]
 replace he:ve=.int .i64 0:=by rw [he];unfold feE;rw [rc2];rfl
 subst hd he
 have z11:=(z9.trans e10).trans e11
 refine .go rfl (.bsl _ rfl rfl Ah6 fun w12 b12 n12=>?_)
 refine .call _ rfl U9 rfl (T7 upT (AF2 [20,25,30] 3 n12 upT rfl rfl (by decide) (by decide)) (by decide)) fun v13 w13 e13 h13=>?_
 have hkp:vk 3 (tab ([20,25,30]:List Int).length fun k=>((([20,25,30]:List Int).getD k 0:Int):Rat)):=(vk_ints [20,25,30] (by decide)).mono (by decide)
 have hrp:∀ k,k<3→rv (tab ([20,25,30]:List Int).length fun k=>((([20,25,30]:List Int).getD k 0:Int):Rat)) k=((([20,25,30]:List Int).getD k 0:Int):Rat):=fun k hk=>by rw [S4,if_pos (show k<([20,25,30]:List Int).length from hk)]
 have z13:=(z11.trans n12.1).trans e13
 have hpa1:paE [⟨0,2,12⟩] (tab ([20,25,30]:List Int).length fun k=>((([20,25,30]:List Int).getD k 0:Int):Rat)).length=0:=by rw [A3];exact pa_of (by decide)
 have hpa2:paE [⟨2,0,12⟩] (tab ([20,25,30]:List Int).length fun k=>((([20,25,30]:List Int).getD k 0:Int):Rat)).length=0:=by rw [A3];exact pa_of (by decide)
 refine .call _ rfl AC6 rfl (AM3 upT (ER.ext eRts h1 z13) h13 hkp (by decide) (by decide) (by decide)) fun v14 w14 e14 h14=>?_
 obtain ⟨vp,ve,rfl,hp,he⟩:=h14
 replace he:ve=.int .i64 0:=by rw [he,hpa1]
 subst he
 rw [if_pos hpa1] at hp
 have z14:=z13.trans e14
 refine .go rfl (.bsl _ rfl rfl Ah6 fun w15 b15 n15=>?_)
 refine .call _ rfl U9 rfl (T7 upT (AF2 [20,25,30] 3 n15 upT rfl rfl (by decide) (by decide)) (by decide)) fun v16 w16 e16 h16=>?_
 have z16:=(z14.trans n15.1).trans e16
 refine .call _ rfl AC6 rfl (AM3 upT (ER.ext eRts h3 z16) h16 hkp (by decide) (by decide) (by decide)) fun v17 w17 e17 h17=>?_
 obtain ⟨vr,ve,rfl,hr,he⟩:=h17
 replace he:ve=.int .i64 0:=by rw [he,hpa2]
 subst he
 rw [if_pos hpa2] at hr
 have z17:=z16.trans e17
 refine .go rfl (.call _ rfl J2 rfl J1 fun v18 w18 e18 h18=>.bsl _ rfl rfl BI4 fun w19 b19 n19=>.go rfl ?_)
 have z19:=(z17.trans e18).trans n19.1
 refine .call _ rfl G8 rfl (G6 upT (ER.ext eN h18 n19.1) (AF2 [0,1,2] 3 n19 upT rfl rfl (by decide) (by decide)) (ER.ext eRts h1 z19)) fun v20 w20 e20 h20=>?_
 obtain ⟨vs,ve,rfl,hs,he⟩:=h20
 replace he:ve=.int .i64 10:=by rw [he,rc3]
 subst he
 have z20:=z19.trans e20
 refine .go rfl (.call _ rfl J2 rfl J1 fun v21 w21 e21 h21=>.bsl _ rfl rfl BI4 fun w22 b22 n22=>.go rfl ?_)
 have z22:=(z20.trans e21).trans n22.1
 refine .call _ rfl P8 rfl (P0 upT (ER.ext eN h21 n22.1) (AF2 [0,1,2] 3 n22 upT rfl rfl (by decide) (by decide)) (ER.ext eRts h1 z22)) fun v23 w23 e23 h23=>?_
 obtain ⟨vt,ve,rfl,ht,he⟩:=h23
 replace ht:vt=.bool false:=by rw [ht,decide_eq_false fe3]
 replace he:ve=.int .i64 0:=by rw [he];unfold feE;rw [if_pos rc3]
 subst ht he
 have z23:=z22.trans e23
 have x23:=y3.trans z23
 have c5:Ext w5 w23:=((((((((((((e6.trans e7).trans e8).trans e9).trans e10).trans e11).trans n12.1).trans e13).trans e14).trans n15.1).trans e16).trans e17).trans (((((e18.trans n19.1).trans e20).trans e21).trans n22.1).trans e23))
 have c7:Ext w7 w23:=((((((((((e8.trans e9).trans e10).trans e11).trans n12.1).trans e13).trans e14).trans n15.1).trans e16).trans e17).trans (((((e18.trans n19.1).trans e20).trans e21).trans n22.1).trans e23))
 have c14:Ext w14 w23:=((n15.1.trans e16).trans e17).trans (((((e18.trans n19.1).trans e20).trans e21).trans n22.1).trans e23)
 have c17:Ext w17 w23:=((((e18.trans n19.1).trans e20).trans e21).trans n22.1).trans e23
 have hkr:=Af2 (l:=[⟨0,2,12⟩]) okc' (Af3 rc1).2.1 3
 have hkr2:=Af2 (l:=[⟨0,2,18⟩]) okc' (Af3 rc2).2.1 3
 have pv1:paV [⟨0,2,12⟩] (rv (tab ([20,25,30]:List Int).length fun k=>((([20,25,30]:List Int).getD k 0:Int):Rat))) 0=((120:Int):Rat):=by
  show ((12:Int):Rat)*(rv _ 2-rv _ 0)=_
  rw [hrp 2 (by decide),hrp 0 (by decide)]
  decide +kernel
 have pv2:paV [⟨2,0,12⟩] (rv (tab ([20,25,30]:List Int).length fun k=>((([20,25,30]:List Int).getD k 0:Int):Rat))) 0=((-120:Int):Rat):=by
  show ((12:Int):Rat)*(rv _ 0-rv _ 2)=_
  rw [hrp 2 (by decide),hrp 0 (by decide)]
  decide +kernel
 have hkp1:vk 3 (tab ([⟨0,2,12⟩]:List RtV).length (paV [⟨0,2,12⟩] (rv (tab ([20,25,30]:List Int).length fun k=>((([20,25,30]:List Int).getD k 0:Int):Rat))))):=AD4 fun k hk=>by
  have:k=0:=Nat.lt_one_iff.1 hk
  subst this
  rw [pv1];exact AE1 (by decide)
 have hkp2:vk 3 (tab ([⟨2,0,12⟩]:List RtV).length (paV [⟨2,0,12⟩] (rv (tab ([20,25,30]:List Int).length fun k=>((([20,25,30]:List Int).getD k 0:Int):Rat))))):=AD4 fun k hk=>by
  have:k=0:=Nat.lt_one_iff.1 hk
  subst this
  rw [pv2];exact AE1 (by decide)
 refine .go rfl (.eqlT rfl rfl rfl rfl (.go rfl (.bsl _ rfl rfl Ah6 fun w24 b24 n24=>.go rfl ?_)))
 refine .call _ rfl Y5 rfl (X6 (ER.ext eV ha (c5.trans n24.1)) (AF2 [4,4,8] 3 n24 upT rfl rfl (by decide) (by decide)) hkr (by decide) (by decide) (by decide) (A3 ..) (by decide) (fun k hk=>by rw [S4,if_pos (show k<netc.ls.length from hk)];exact rv1 k hk)) fun v25 w25 e25 h25=>?_
 subst h25
 have d25:=n24.1.trans e25
 refine .go rfl (.eqlT rfl rfl rfl rfl (.go rfl (.bsl _ rfl rfl Ah6 fun w26 b26 n26=>.go rfl ?_)))
 refine .call _ rfl Y5 rfl (X6 (ER.ext eV hb ((c7.trans d25).trans n26.1)) (AF2 [6,6,12] 3 n26 upT rfl rfl (by decide) (by decide)) hkr2 (by decide) (by decide) (by decide) (A3 ..) (by decide) (fun k hk=>by rw [S4,if_pos (show k<netc.ls.length from hk)];exact rv2 k hk)) fun v27 w27 e27 h27=>?_
 subst h27
 have d27:=(d25.trans n26.1).trans e27
 refine .go rfl (.eqlT rfl rfl rfl rfl (.go rfl (.eqlT rfl rfl rfl rfl (.go rfl (.eqlT rfl rfl rfl rfl (.go rfl (.bsl _ rfl rfl BI3 fun w28 b28 n28=>.go rfl ?_)))))))
 refine .call _ rfl Y5 rfl (X6 (ER.ext eV hp ((c14.trans d27).trans n28.1)) (AF2 [120] 1 n28 upT rfl rfl (by decide) (by decide)) hkp1 (by decide) (by decide) (by decide) (A3 ..) (by decide) (fun k hk=>by
  have:k=0:=Nat.lt_one_iff.1 hk
  subst this
  rw [S4,if_pos (by decide)];exact pv1)) fun v29 w29 e29 h29=>?_
 subst h29
 have d29:=(d27.trans n28.1).trans e29
 refine .go rfl (.eqlT rfl rfl rfl rfl (.go rfl (.bsl _ rfl rfl BI3 fun w30 b30 n30=>.go rfl ?_)))
 refine .call _ rfl Y5 rfl (X6 (ER.ext eV hr ((c17.trans d29).trans n30.1)) (AF2 [-120] 1 n30 upT rfl rfl (by decide) (by decide)) hkp2 (by decide) (by decide) (by decide) (A3 ..) (by decide) (fun k hk=>by
  have:k=0:=Nat.lt_one_iff.1 hk
  subst this
  rw [S4,if_pos (by decide)];exact pv2)) fun v31 w31 e31 h31=>?_
 subst h31
 have d31:=(d29.trans n30.1).trans e31
 exact .go rfl (.eqlT rfl rfl rfl rfl (.go rfl (.eqlT rfl rfl rfl rfl (.goE rfl (.tt Tryz.results48 rfl (x23.trans d31))))))
end Go.Proofs.YtfilidfomgfnhaaGreat

namespace Go.Kx
open Go Go.RowKit
end Go.Kx
namespace Go.Proofs.YtfilidfomgfnhaaGreat
open Go Go.Kx Go.RowKit
theorem AG7:infoOf Tryz.prog 59=some (.agg #[.int .i64 0,.int .i64 0,.int .i64 0],3,24):=by kernel_rfl
end Go.Proofs.YtfilidfomgfnhaaGreat

namespace Go.Proofs.YtfilidfomgfnhaaGreat
open Go Go.Kx Go.RowKit
theorem Ab2 {S:Nat→Prop} {w:World} {vp vq:Value} {p:List QV} {q:QV} {f t:Int} {L:Nat} (up:Up S w) (hp:eV.R S w vp p) (hq:eQ.R S w vq q) (hkp:vk L p) (hkq:qk L q) (hL1:1≤L) (hL:L≤2000000) :
  CR Tryz.prog 116 #[vp,.int .i64 f,.int .i64 t,vq] w (Two (eQ.at S (if trE p.length f t=0 then qc (qval q*(rv p t.toNat-rv p f.toNat)) else q0)) (Is (.int .i64 (trE p.length f t)))):=by
 have hvq:=shpA rfl hq
 refine enter Tryz.func116 rfl Tryz.ntmps116 rfl (.beg (.go rfl (.box rfl rfl fun w1 b7 n1=>.alloc rfl C5 fun w2 b8 n2=>?_)))
 obtain ⟨e1,k7,hb7,hs1⟩:=n1
 obtain ⟨e2,k8,hb8,hs2⟩:=n2
 have x2:=e1.trans e2
 have k7:=k7.ext e2
 have hx2:=x2.size
 have hp2:eV.R (fun k=>S k∧k≠b8) w2 vp p:=eV.mono (fun k _ h=>⟨h.1,by have:=h.2;omega⟩) (ER.ext eV (ER.lt eV hp) x2)
 have hq2:eQ.R (fun k=>S k∧k≠b8) w2 vq q:=eQ.mono (fun k _ h=>⟨h.1,by have:=h.2;omega⟩) (ER.ext eQ (ER.lt eQ hq) x2)
 have upT:∀ {W:World},w2.heap.size≤W.heap.size→Up (fun k=>S k∧k≠b8) W:=fun h k hk=>⟨up k (by omega),by omega⟩
 have hbad:∀ {W:World} {σ:Env},¬ (inR p.length f∧inR p.length t)→Ext w W→(∃ z,Kx.look σ 8=some (.pointer (some ⟨b8,0,none⟩))∧Blk W b8 55 zq.cells∧z=zq)→Kx.look σ 9=some (.int .i64 1)→Leave Tryz.prog Tryz.f116 40 (fun v w'=>Ext w w'∧Two (eQ.at S (if trE p.length f t=0 then qc (qval q*(rv p t.toNat-rv p f.toNat)) else q0)) (Is (.int .i64 (trE p.length f t))) v w') σ [] W:=fun {W σ} hn hx ⟨_,h8,hk,_⟩ h9=>by
  have he:trE p.length f t=1:=by unfold trE;rw [if_neg hn]
  refine .plain [zq,_] Tryz.results116 ⟨⟨_,h8,?_⟩,h9,trivial⟩ ⟨hx,_,_,rfl,?_,by rw [he]⟩
  ·exact F2 (cs:=zq.cells.toList) ty_Q fun j u hu=>by
    rw [I7,Nat.zero_add,hk.cell]
    simpa using hu
  ·rw [if_neg (by rw [he];decide)];exact zq_R
 obtain ⟨_,_,_,_,hpl⟩:=RL.len hp
 have hst:∀ {σ:Env} {N':Nat},True:=trivial
 refine .go rfl ?_
 by_cases h0:f<0
 ·refine .lssT rfl rfl rfl h0 (.go rfl (.bld _ rfl rfl U8 (.storeA (E:=eQ) (S:=fun k=>k≠b8) ty_Q rfl rfl k8 rfl rfl zq_R (fun h=>h rfl) fun w3 k8 u3 _=>.goE rfl ?_)))
  exact hbad (fun h=>by have:=h.1.1;omega) (u3.below x2 (by omega)) ⟨zq,rfl,k8,rfl⟩ rfl
 refine .lssF rfl rfl rfl h0 (.go rfl (.lenR un_V rfl rfl hp2 (.go rfl ?_)))
 by_cases h1:(p.length:Int)≤f
 ·refine .geqT rfl rfl rfl h1 (.go rfl (.bld _ rfl rfl U8 (.storeA (E:=eQ) (S:=fun k=>k≠b8) ty_Q rfl rfl k8 rfl rfl zq_R (fun h=>h rfl) fun w3 k8 u3 _=>.goE rfl ?_)))
  exact hbad (fun h=>by have:=h.1.2;omega) (u3.below x2 (by omega)) ⟨zq,rfl,k8,rfl⟩ rfl
 refine .geqF rfl rfl rfl h1 (.go rfl ?_)
 by_cases h2:t<0
 ·refine .lssT rfl rfl rfl h2 (.go rfl (.bld _ rfl rfl U8 (.storeA (E:=eQ) (S:=fun k=>k≠b8) ty_Q rfl rfl k8 rfl rfl zq_R (fun h=>h rfl) fun w3 k8 u3 _=>.goE rfl ?_)))
  exact hbad (fun h=>by have:=h.2.1;omega) (u3.below x2 (by omega)) ⟨zq,rfl,k8,rfl⟩ rfl
 refine .lssF rfl rfl rfl h2 (.go rfl (.lenR un_V rfl rfl hp2 (.go rfl ?_)))
 by_cases h3:(p.length:Int)≤t
 ·refine .geqT rfl rfl rfl h3 (.go rfl (.bld _ rfl rfl U8 (.storeA (E:=eQ) (S:=fun k=>k≠b8) ty_Q rfl rfl k8 rfl rfl zq_R (fun h=>h rfl) fun w3 k8 u3 _=>.goE rfl ?_)))
  exact hbad (fun h=>by have:=h.2.2;omega) (u3.below x2 (by omega)) ⟨zq,rfl,k8,rfl⟩ rfl
 obtain ⟨f',rfl⟩:∃ f':Nat,f=f':=⟨f.toNat,by omega⟩
 obtain ⟨t',rfl⟩:∃ t':Nat,t=t':=⟨t.toNat,by omega⟩
 have hok:trE p.length f' t'=0:=by unfold trE;rw [if_pos ⟨⟨by omega,by omega⟩,by omega,by omega⟩]
 rw [if_pos hok]
 show WL _ _ _ _ _ _ _ _ _
 have hgf:p[f']?=some (p.getD f' q0):=B4 (by omega)
 have hgt:p[t']?=some (p.getD t' q0):=B4 (by omega)
 have hkf:=hkp.get hL1 f'
 have hkt:=hkp.get hL1 t'
 have hsub:Rsz (rv p t'-rv p f') (2*L+1):=by
  rw [Rat.sub_eq_add_neg]
  exact ((hkp.rsz hL1 t').add (hkp.rsz hL1 f').neg).mono (by omega)
 refine .geqF rfl rfl rfl h3 (.goC rfl ?_)
 refine .par follows 10 [.inl vq,.inl _,.inl _,.inr (Ptr eQ (fun k=>S k∧k≠b8) (p.getD t' q0)),.inr (eQ.at (fun k=>S k∧k≠b8) (p.getD t' q0)),.inl _,.inl _,.inr (Ptr eQ (fun k=>S k∧k≠b8) (p.getD f' q0)),.inr (eQ.at (fun k=>S k∧k≠b8) (p.getD f' q0)),.inr (eQ.at (fun k=>S k∧k≠b8) (qc (rv p t'-rv p f')))] [[],[],[],[(30,1),(31,2)],[(32,3)],[],[],[(34,5),(35,6)],[(36,7)],[(33,4),(37,8)]] (by kernel_rfl) ⟨
  fun w e=>((B3 ty_Q rfl (k7.ext e) (eQ.csz hq)).eq hvq.symm).ob,
  fun w e=>(v_mv rfl).ob,
  fun w e=>(v_mv rfl).ob,
  fun w e=>D8 (i:=t') un_V ty_Q rfl (ER.ext eV hp2 e) rfl hgt,
  fun w e x3 hx3=>K5 ty_Q rfl hx3,
  fun w e=>(v_mv rfl).ob,
  fun w e=>(v_mv rfl).ob,
  fun w e=>D8 (i:=f') un_V ty_Q rfl (ER.ext eV hp2 e) rfl hgf,
  fun w e x7 hx7=>K5 ty_Q rfl hx7,
  fun w e x4 hx4 x8 hx8=>(A1 _ V4 rfl (U4 (L:=L) (upT e.size) hx4 hx8 hkt.1 hkf.1 hL1 (by omega))).ob (A6 _ _ _),trivial⟩ ?_
 intro W3 f3 _ _ _ _ _ _ _ _ x9 hx9
 have hmul:=U5 (L:=2*L+1) (upT f3.size) (ER.ext eQ hq2 f3) hx9 (hkq.1.mono (by omega)) hsub.toOk (by omega) (by omega)
 rw [A8] at hmul
 refine .call _ rfl V5 rfl hmul fun v4 W4 f4 h4=>?_
 have hs4:=(f3.trans f4).size
 refine .storeA (E:=eQ) ty_Q rfl rfl (k8.ext (f3.trans f4)) rfl rfl h4 (fun h=>h.2 rfl) fun W5 k8 u5 h5=>.goE rfl ?_
 have hv5:=shpA (E:=eQ) rfl h5
 refine .plain [v4,_] Tryz.results116 ⟨⟨_,rfl,?_⟩,rfl,trivial⟩ ⟨u5.below ((x2.trans f3).trans f4) (by omega),_,_,rfl,eQ.mono (fun _ _ h=>h.1) h5,by rw [hok]⟩
 rw [hv5]
 refine F2 (cs:=v4.cells.toList) (by rw [Array.length_toList,eQ.csz h5];exact ty_Q) fun j u hu=>?_
 rw [I7,Nat.zero_add,k8.cell]
 simpa using hu
set_option maxRecDepth 8000 in
theorem Ab0 {S:Nat→Prop} {w:World} {vl vp:Value} {l:List RtV} {p:List QV} {L:Nat} (up:Up S w) (hl:eRts.R S w vl l) (hp:eV.R S w vp p) (hkp:vk L p) (hL3:3≤L) (hL:L≤2000000) (hl30:l.length≤1000) :
  CR Tryz.prog 49 #[vl,vp] w (Two (eV.at S (if paE l p.length=0 then tab l.length (paV l (rv p)) else [])) (Is (.int .i64 (paE l p.length)))):=by
 refine enter Tryz.func49 rfl Tryz.ntmps49 rfl (.beg (.go rfl (.lenR H4 rfl rfl hl ?_)))
 refine .make_ _ _ un_V S5 rfl (by decide) rfl rfl rfl (Nat.le_refl _) (by omega) (by omega) fun w3 g n3=>?_
 have f3:FB eQ 55 S w3 g (List.replicate l.length q0):=FB.made n3 zq_R
 obtain ⟨e3,_,hh,hs3⟩:=n3
 generalize hG:(fun i=>qc (paV l (rv p) i))=G
 refine .go rfl (.lenR H4 rfl rfl (ER.ext eRts hl e3) ?_)
 refine .goC rfl (.lp (α:=Nat) [1,6,14,15] rfl (fun i=>[(16,.int .i64 (i:Nat))]) (fun i W=>Ext w W∧i≤l.length∧FB eQ 55 S W g (fil l.length i G q0)∧∀ j r,j<i→l[j]?=some r→inR p.length r.f∧inR p.length r.t) (fun i=>l.length-i) 0 (lc1 rfl) ⟨e3,Nat.zero_le _,by rw [O2];exact f3,fun j r hj=>absurd hj (Nat.not_lt_zero _)⟩ ?_)
 rintro i W ⟨hW,hi,fb,hall⟩
 have hWs:=hW.size
 have hgl:=fb.lt
 refine .go rfl ?_
 rcases Nat.lt_or_ge i l.length with hlt | hge
 rotate_left
 ·refine .lssF rfl rfl rfl (by omega) (.goE rfl ?_)
  have:i=l.length:=by omega
  subst this
  have hpe:paE l p.length=0:=by
   unfold paE
   rw [if_pos]
   intro r hr
   obtain ⟨j,hj⟩:=List.mem_iff_getElem?.1 hr
   exact hall j r (List.getElem?_eq_some_iff.1 hj).1 hj
  rw [T4] at fb
  refine .plain [_,_] Tryz.results49 ⟨rfl,rfl,trivial⟩ ⟨hW,_,_,rfl,?_,by rw [hpe]⟩
  rw [if_pos hpe]
  have:=fb.toR (hsz:=by decide) (c:=l.length) (up g (by omega)) (by simp) (by simp;omega)
  rw [List.length_map,List.length_range,←hG] at this
  exact this
 have hg:=List.getElem?_eq_getElem hlt
 have hgd:l.getD i ⟨0,0,0⟩=l[i]:=by rw [List.getD_eq_getElem?_getD,hg];rfl
 have hmem:=List.getElem_mem hlt
 have hGi:G i=qc (((l[i].q:Int):Rat)*(rv p l[i].t.toNat-rv p l[i].f.toNat)):=by rw [←hG];show qc (paR (rv p) (l.getD i ⟨0,0,0⟩))=_;rw [hgd];rfl
 refine .lssT rfl rfl rfl (by omega) (.go rfl (.ixN (i:=i) H4 E0 rfl rfl (ER.ext eRts hl hW) rfl hg fun q hq=>.ldE (E:=eRt) E0 rfl rfl hq fun vr hr=>.alloc rfl G0 fun W1 c n1=>.go rfl ?_))
 obtain ⟨g1,kc,hc,hs1⟩:=n1
 refine .storeA (E:=eRt) (S:=fun k=>k≠c) E0 rfl rfl kc rfl rfl hr (fun h=>h rfl) fun W2 kc u2 hr=>.goC rfl ?_
 obtain ⟨rfl,i1,i2,i3⟩:=hr
 have i3':=B7.1 i3
 generalize l[i]=r at *
 have hs2:=u2.size
 have x2:Ext w W2:=u2.below (hW.trans g1) (by omega)
 have fb2:=fb.new g1 u2 (by omega)
 have upT:∀ {W':World},W2.heap.size≤W'.heap.size→Up (fun k=>S k∧k≠g) W':=fun h k hk=>⟨up k (by omega),by omega⟩
 have hpT:∀ {W':World},Ext w W'→eV.R (fun k=>S k∧k≠g) W' vp p:=fun e=>ER.ext eV (eV.mono (fun k _ h=>⟨h.1,by have:=h.2;omega⟩) (ER.lt eV hp)) e
 generalize hres:(if trE p.length r.f r.t=0 then qc (((r.q:Int):Rat)*(rv p r.t.toNat-rv p r.f.toNat)) else q0)=res
 refine .parL follows 13 [11] [.inl vp,.inl (.pointer (some ⟨c,0,none⟩)),.inl (.int .i64 r.f),.inl (.pointer (some ⟨c,1,none⟩)),.inl (.int .i64 r.t),.inl (.pointer (some ⟨c,2,none⟩)),.inl (.int .i64 r.q),.inr (eQ.at (fun k=>S k∧k≠g) (qc ((r.q:Int):Rat))),.inr (Two (eQ.at (fun k=>S k∧k≠g) res) (Is (.int .i64 (trE p.length r.f r.t)))),.inr (Two (eQ.at (fun k=>S k∧k≠g) res) (Is (.int .i64 (trE p.length r.f r.t)))),.inr (eQ.at (fun k=>S k∧k≠g) res),.inl (.int .i64 (trE p.length r.f r.t)),.inr (NewP W2.heap.size 55 zq.cells)] [[],[],[(23,1)],[],[(25,3)],[],[(27,5)],[(28,6)],[(22,0),(24,2),(26,4),(29,7)],[(30,8)],[(21,9)],[(21,9)],[]] (by kernel_rfl) ⟨
  fun w e=>(v_mv rfl).ob,
  fun w e=>(v_fa AC2 rfl).ob,
  fun w e=>(v_ld A5 rfl (kc.ext e) rfl).ob,
  fun w e=>(v_fa AC1 rfl).ob,
  fun w e=>(v_ld A5 rfl (kc.ext e) rfl).ob,
  fun w e=>(v_fa L9 rfl).ob,
  fun w e=>(v_ld I4 rfl (kc.ext e) rfl).ob,
  fun w e=>(A1 _ D5 rfl (D3 (upT e.size) (by omega) (by omega))).ob (A6 _ _ _),
  fun w e x7 hx7=>by
  have:=Ab2 (f:=r.f) (t:=r.t) (L:=L) (upT e.size) (hpT (x2.trans e)) hx7 hkp (S8 ((AE1 (by omega)).mono hL3)) (by omega) hL
  rw [A8,hres] at this
  exact (A1 _ AN9 rfl this).ob (Y8 (A6 _ _ _) (AL7 _)),
  fun w e x8 hx8=>M4 (v_mv rfl) hx8 (Y8 (A6 _ _ _) (AL7 _)),
  fun w e x9 hx9=>by
  obtain ⟨p1,q1,rfl,hp1,hq1⟩:=hx9
  exact M4 (v_ex rfl rfl) hp1 (A6 _ _ _),
  fun w e x9 hx9=>by
  obtain ⟨p1,q1,rfl,hp1,hq1⟩:=hx9
  exact ((v_ex rfl rfl).eq hq1).ob,
  fun w e=>AE4 C5 e.size,trivial⟩ ?_
 rintro W3 g3 _ _ _ _ _ _ y hy _ ⟨b9,rfl,hb9,k9⟩
 have hy':=Ah2 hy k9 AF8
 have hs3':=g3.size
 refine .storeA (E:=eQ) ty_Q rfl rfl k9 rfl rfl hy' (fun h=>h.2 rfl) fun W4 k9 u4 hy=>.go rfl ?_
 have hs4:=u4.size
 have hy:eQ.R (fun k=>S k∧k≠g) W4 y _:=eQ.mono (fun _ _ h=>h.1) hy
 have hyv:=shpA (E:=eQ) rfl hy
 have x4:Ext w W4:=u4.below (x2.trans g3) (by omega)
 have fb4:=fb2.new g3 u4 (by omega)
 by_cases hin:inR p.length r.f∧inR p.length r.t
 rotate_left
 ·have h1:trE p.length r.f r.t=1:=by unfold trE;rw [if_neg hin]
  have hpe:paE l p.length=1:=by unfold paE;rw [if_neg fun h=>hin (h r hmem)]
  refine .neqT rfl rfl rfl (by rw [h1];decide) (.goE rfl ?_)
  refine .plain [_,_] Tryz.results49 ⟨rfl,rfl,trivial⟩ ⟨x4,_,_,rfl,?_,by rw [hpe,h1]⟩
  rw [if_neg (by rw [hpe];decide)];exact RL.nil
 have h1:trE p.length r.f r.t=0:=by unfold trE;rw [if_pos hin]
 rw [if_pos h1,←hGi] at hres
 refine .neqF rfl rfl rfl h1 (.go rfl (.ldA ty_Q rfl rfl k9 (eQ.csz hy) ?_))
 rw [←hyv]
 refine .ixB (i:=i) un_V ty_Q rfl rfl rfl hlt (.storeF (E:=eQ) (i:=i) (by decide) ty_Q rfl rfl fb4 rfl (by rw [I5];exact hlt) (Nat.zero_add _) hy fun W5 f5 u5=>?_)
 rw [←hres,Q8] at f5
 refine .go rfl (.inc rfl rfl rfl (by omega) (.goN rfl (.mk (i+1) rfl (lc1 rfl) ⟨⟨u5.below x4 (by omega),hlt,f5,fun j r' hj hr'=>?_⟩,by show l.length-(i+1)<l.length-i;omega⟩)))
 by_cases e:j=i
 ·subst e;rw [hg] at hr';cases hr';exact hin
 ·exact hall j r' (by omega) hr'
end Go.Proofs.YtfilidfomgfnhaaGreat

namespace Go.Proofs.YtfilidfomgfnhaaGreat
open Go Go.Kx Go.RowKit
end Go.Proofs.YtfilidfomgfnhaaGreat

namespace Go.Kx
open Go Go.RowKit
section
variable {P:Program} {σ:Env} {w:World} {d:Option Tmp} {ty:TypeId} {pos:String} {af:Array Edge} {g:Option (Nat×Bool)} {S:Nat→Prop}
theorem ob_faQn {s:TypeId} {x:Operand} {i:Nat} {u:Value} {q:QV} (hf:fldOf P s i=some 0) (hx:ev σ x=some u) (hp:Ptr eQ S q u w):Gv P ⟨d,.fieldAddr s x i,ty,pos,af,g⟩ σ w fun v' w'=>Ext w w'∧Sp.ok (.inr (Ptr eZ S q.num)) v' w':=by
 obtain ⟨p,rfl,hp⟩:=hp
 exact M4 (Au7 hf hx) ⟨_,rfl,hp.qn⟩ (fun _ _ _ e ⟨p,h1,h2⟩=>⟨p,h1,h2.ext e⟩)
theorem ob_faQd {s:TypeId} {x:Operand} {i:Nat} {u:Value} {q:QV} (hf:fldOf P s i=some 2) (hx:ev σ x=some u) (hp:Ptr eQ S q u w):Gv P ⟨d,.fieldAddr s x i,ty,pos,af,g⟩ σ w fun v' w'=>Ext w w'∧Sp.ok (.inr (Ptr eZ S q.den)) v' w':=by
 obtain ⟨p,rfl,hp⟩:=hp
 exact M4 (Au7 hf hx) ⟨_,rfl,hp.qd⟩ (fun _ _ _ e ⟨p,h1,h2⟩=>⟨p,h1,h2.ext e⟩)
theorem Av9 {s:TypeId} {x:Operand} {i:Nat} {u:Value} {q:ZV} (hf:fldOf P s i=some 1) (hx:ev σ x=some u) (hp:Ptr eZ S q u w):Gv P ⟨d,.fieldAddr s x i,ty,pos,af,g⟩ σ w fun v' w'=>Ext w w'∧Sp.ok (.inr (Ptr eW S q.w)) v' w':=by
 obtain ⟨p,rfl,hp⟩:=hp
 exact M4 (Au7 hf hx) ⟨_,rfl,hp.zw⟩ (fun _ _ _ e ⟨p,h1,h2⟩=>⟨p,h1,h2.ext e⟩)
end
end Go.Kx
namespace Go.Proofs.YtfilidfomgfnhaaGreat
open Go Go.Kx Go.RowKit
theorem Ai8:Ent Tryz.prog 47:=A0 Tryz.func47 (by kernel_rfl) rfl
set_option maxRecDepth 8000 in
theorem Ag5 {w:World} {v:Value} {l:List (List QV)} (h:eM.R (fun _=>True) w v l):CR Tryz.prog 47 #[v] w (fun v _=>∃ b,v=.bool b):=by
 obtain ⟨_,_,_,_,hl⟩:=RL.len h
 refine enter Tryz.func47 rfl Tryz.ntmps47 rfl (.beg ?_)
 refine .goC rfl (.lp (α:=Nat×Int) [0] rfl (fun y=>[(3,.int .i64 y.2),(4,.int .i64 (y.1:Nat))]) (fun y W=>Ext w W∧y.1≤l.length) (fun y=>l.length-y.1) (0,0) (lc2 rfl rfl) ⟨Ext.refl _,Nat.zero_le _⟩ ?_)
 rintro ⟨i,z⟩ W ⟨hW,hi⟩
 replace hW:Ext w W:=hW
 replace hi:i≤l.length:=hi
 refine .go rfl (.lenR un_M rfl rfl (ER.ext eM h hW) ?_)
 rcases Nat.lt_or_ge i l.length with hlt | hge
 rotate_left
 ·exact .lssF rfl rfl rfl (by omega) (.goE rfl (.plain [_] Tryz.results47 ⟨rfl,trivial⟩ ⟨hW,_,rfl⟩))
 have hyy:=List.getElem?_eq_getElem hlt
 generalize l[i]=r at hyy
 refine .lssT rfl rfl rfl (by omega) (.go rfl (.ixN (i:=i) un_M ty_V rfl rfl (ER.ext eM h hW) rfl hyy fun p hp=>.ldE ty_V rfl rfl hp fun e he=>.lenR un_V rfl rfl he ?_))
 by_cases hr:40<r.length
 ·exact .gtrT rfl rfl rfl (by omega) (.goE rfl (.plain [_] Tryz.results47 ⟨rfl,trivial⟩ ⟨hW,_,rfl⟩))
 refine .gtrF rfl rfl rfl (by omega) (.goC rfl (.lp (α:=Nat×Int) [0,4] rfl (fun y=>[(3,.int .i64 y.2),(5,.int .i64 (y.1:Nat))]) (fun y W'=>Ext w W'∧y.1≤r.length) (fun y=>r.length-y.1) (0,z) (lc2 rfl rfl) ⟨hW,Nat.zero_le _⟩ ?_))
 rintro ⟨k,z'⟩ W' ⟨hW',hk⟩
 replace hW':Ext w W':=hW'
 replace hk:k≤r.length:=hk
 refine .go rfl (.ixN (i:=i) un_M ty_V rfl rfl (ER.ext eM h hW') rfl hyy fun p2 hp2=>.ldE ty_V rfl rfl hp2 fun e2 he2=>.lenR un_V rfl rfl he2 ?_)
 rcases Nat.lt_or_ge k r.length with hkl | hge
 rotate_left
 ·refine .lssF rfl rfl rfl (by omega) (.go rfl ?_)
  by_cases hz:400<z'
  ·exact .gtrT rfl rfl rfl hz (.goE rfl (.plain [_] Tryz.results47 ⟨rfl,trivial⟩ ⟨hW',_,rfl⟩))
  ·exact .gtrF rfl rfl rfl hz (.go rfl (.inc rfl rfl rfl (by omega) (.goN rfl (.mk (i+1,z') rfl (lc2 rfl rfl) ⟨⟨hW',hlt⟩,by show l.length-(i+1)<l.length-i;omega⟩))))
 have hqq:=List.getElem?_eq_getElem hkl
 generalize r[k]=q at hqq
 refine .lssT rfl rfl rfl (by omega) (.goC rfl ?_)
 refine .par follows 25 [.inl _,.inl _,.inl _,.inl _,.inr (Ptr eV (fun _=>True) r),.inr (eV.at (fun _=>True) r),.inl _,.inr (Ptr eQ (fun _=>True) q),.inr (Ptr eZ (fun _=>True) q.num),.inr (Ptr eW (fun _=>True) q.num.w),.inr (eW.at (fun _=>True) q.num.w),.inl (.int .i64 (q.num.w.length:Nat)),.inl _,.inl _,.inl _,.inl _,.inr (Ptr eV (fun _=>True) r),.inr (eV.at (fun _=>True) r),.inl _,.inr (Ptr eQ (fun _=>True) q),.inr (Ptr eZ (fun _=>True) q.den),.inr (Ptr eW (fun _=>True) q.den.w),.inr (eW.at (fun _=>True) q.den.w),.inl (.int .i64 (q.den.w.length:Nat)),.inl _] [[],[(27,0)],[],[],[(29,2),(30,3)],[(31,4)],[],[(32,5),(33,6)],[(34,7)],[(35,8)],[(36,9)],[(37,10)],[(38,11)],[(28,1),(39,12)],[],[],[(41,14),(42,15)],[(43,16)],[],[(44,17),(45,18)],[(46,19)],[(47,20)],[(48,21)],[(49,22)],[(50,23)]] (by kernel_rfl) ⟨
  fun w e=>(v_mv rfl).ob,
  fun w e=>(Ac7 rfl rfl).ob,
  fun w e=>(v_mv rfl).ob,
  fun w e=>(v_mv rfl).ob,
  fun w e=>D8 (i:=i) un_M ty_V rfl (ER.ext eM h (hW'.trans e)) rfl hyy,
  fun w e x4 hx4=>K5 ty_V rfl hx4,
  fun w e=>(v_mv rfl).ob,
  fun w e x5 hx5=>D8 (i:=k) un_V ty_Q rfl hx5 rfl hqq,
  fun w e x7 hx7=>ob_faQn P5 rfl hx7,
  fun w e x8 hx8=>Av9 D0 rfl hx8,
  fun w e x9 hx9=>K5 ty_W rfl hx9,
  fun w e x10 hx10=>(Ae7 un_W rfl hx10).ob,
  fun w e=>(BB8 rfl rfl).ob,
  fun w e=>(Ac7 rfl rfl).ob,
  fun w e=>(v_mv rfl).ob,
  fun w e=>(v_mv rfl).ob,
  fun w e=>D8 (i:=i) un_M ty_V rfl (ER.ext eM h (hW'.trans e)) rfl hyy,
  fun w e x16 hx16=>K5 ty_V rfl hx16,
  fun w e=>(v_mv rfl).ob,
  fun w e x17 hx17=>D8 (i:=k) un_V ty_Q rfl hx17 rfl hqq,
  fun w e x19 hx19=>ob_faQd P4 rfl hx19,
  fun w e x20 hx20=>Av9 D0 rfl hx20,
  fun w e x21 hx21=>K5 ty_W rfl hx21,
  fun w e x22 hx22=>(Ae7 un_W rfl hx22).ob,
  fun w e=>(BB8 rfl rfl).ob,trivial⟩ ?_
 intro W4 e4 _ _ _ _ _ _ _ _ _ _ _ _ _ _ _ _ _ _ _ _ _ _ _ _
 exact .add rfl rfl rfl (.go rfl (.inc rfl rfl rfl (by omega) (.goN rfl (.mk (k+1,_) rfl (lc2 rfl rfl) ⟨⟨hW'.trans e4,hkl⟩,by show r.length-(k+1)<r.length-k;omega⟩))))
end Go.Proofs.YtfilidfomgfnhaaGreat

namespace Go.Kx
open Go Go.RowKit Go.Proofs.YtfilidfomgfnhaaGreat
end Go.Kx

namespace Go.Proofs.YtfilidfomgfnhaaGreat
open Go Go.Kx Go.RowKit
section
variable {W W':World} {v va vb:Value} {n c n' c' L L':Nat} {a b m:List (List QV)} {x y:List QV}
theorem eqQW {x y:QV} (hx:eQ.R (fun _=>True) W va x) (hy:eQ.R (fun _=>True) W vb y) (hkx:qok L x) (hky:qok L y) (h1:1≤L:=by decide) (h2:L≤100000000000:=by decide) (he:qval x=qval y):CR Tryz.prog 50 #[va,vb] W (Is (.bool true)):=by
 have:=Ag8 upT hx hy hkx hky h1 h2
 rwa [decide_eq_true he] at this
end
end Go.Proofs.YtfilidfomgfnhaaGreat

namespace Go.Kx
open Go Go.RowKit
theorem Els.append {α:Type} {E:ER α} {S:Nat→Prop} {w:World} {es fs:List Value} {l s:List α} (h:Els E S w es l) (h':Els E S w fs s):Els E S w (es++fs) (l++s):=by
 refine ⟨by rw [List.length_append,List.length_append,h.1,h'.1],fun i e x he hx=>?_⟩
 rw [List.getElem?_append] at he hx
 rw [h.1] at he
 split at he
 ·rename_i hi
  rw [if_pos hi] at hx
  exact h.2 i e x he hx
 ·rename_i hi
  rw [if_neg hi] at hx
  exact h'.2 _ e x he hx
section
variable {P:Program} {σ:Env} {w:World} {d:Option Tmp} {ty:TypeId} {pos:String} {af:Array Edge} {g:Option (Nat×Bool)} {α:Type} {E:ER α}
end
end Go.Kx

namespace Go.Kx
open Go Go.RowKit
inductive SchU where
 | done
 | one (i:Nat) (n:SchU)
 | two (i:Nat) (n:SchU) (j:Nat) (m:SchU)
 | three (i:Nat) (n:SchU) (j:Nat) (m:SchU) (k:Nat) (l:SchU)
def wlU (P:Program) (ro:Option Nat) (ops:List Oper) (fl:Bool) (I:World→Prop) (Q:Exit→Act→World→Prop):SchU→Act→World→Prop
 | .done,a,w=>(fl=true∨I w)∧Q .normal a w
 | .one i n,a,w=>I w∧∃ o,ops[i]?=some o∧o.wpIn (wf ro) 0 P a w (wlU P ro ops fl I Q n) Q
 | .two i n j m,a,w=>I w∧(∃ o,ops[i]?=some o∧o.wpIn (wf ro) 0 P a w (wlU P ro ops fl I Q n) Q)∧(∃ o,ops[j]?=some o∧o.wpIn (wf ro) 0 P a w (wlU P ro ops fl I Q m) Q)
 | .three i n j m k l,a,w=>I w∧(∃ o,ops[i]?=some o∧o.wpIn (wf ro) 0 P a w (wlU P ro ops fl I Q n) Q)∧(∃ o,ops[j]?=some o∧o.wpIn (wf ro) 0 P a w (wlU P ro ops fl I Q m) Q)∧(∃ o,ops[k]?=some o∧o.wpIn (wf ro) 0 P a w (wlU P ro ops fl I Q l) Q)
structure WLU (P:Program) (ro:Option Nat) (N:Nat) (ds:List Deferred) (ops:List Oper) (fl:Bool) (I:World→Prop) (K:Env→World→Prop) (s:SchU) (σ:Env) (w:World):Prop where
 out:∀ a,Agr N σ ds a→wlU P ro ops fl I (fun e a w=>e=.normal∧∃ σ',Agr N σ' ds a∧K σ' w) s a w
section
variable {P:Program} {ro:Option Nat} {N:Nat} {ds:List Deferred} {ops:List Oper} {fl:Bool} {I:World→Prop} {K:Env→World→Prop} {σ:Env} {w:World} {n m:SchU} {i j:Nat}
theorem WLU.nil (hI:fl=true∨I w) (h:K σ w):WLU P ro N ds ops fl I K .done σ w:=⟨fun a ha=>⟨hI,rfl,σ,ha,h⟩⟩
theorem WLU.gv {o:Oper} {R:Value→World→Prop} (ho:ops[i]?=some o) (hI:I w) (hd:dOk N o.dst=true) (h:Gv P o σ w R) (k:∀ v w',R v w'→WLU P ro N ds ops fl I K n (putE o.dst v σ) w'):WLU P ro N ds ops fl I K (.one i n) σ w :=
 ⟨fun a ha=>⟨hI,o,ho,h.wp (fun x v _ hx=>ha.ev hx) fun v w' hr=>(k v w' hr).out _ (ha.put hd v)⟩⟩
theorem WLU.gv2 (h1:WLU P ro N ds ops fl I K (.one i n) σ w) (h2:WLU P ro N ds ops fl I K (.one j m) σ w):WLU P ro N ds ops fl I K (.two i n j m) σ w :=
 ⟨fun a ha=>⟨(h1.out a ha).1,(h1.out a ha).2,(h2.out a ha).2⟩⟩
theorem WLU.gv3 {k:Nat} {l:SchU} (h1:WLU P ro N ds ops fl I K (.one i n) σ w) (h2:WLU P ro N ds ops fl I K (.one j m) σ w) (h3:WLU P ro N ds ops fl I K (.one k l) σ w):WLU P ro N ds ops fl I K (.three i n j m k l) σ w :=
 ⟨fun a ha=>⟨(h1.out a ha).1,(h1.out a ha).2,(h2.out a ha).2,(h3.out a ha).2⟩⟩
end
def schOkU (ops:List Oper):List Nat→SchU→Bool
 | rem,.done=>rem.isEmpty
 | rem,.one i n => !rem.isEmpty && rem.all (fun k=>Nat.beq k i || waitB ops rem k) && schOkU ops (rem.filter fun k => !(Nat.beq k i)) n
 | rem,.two i n j m => !rem.isEmpty && rem.all (fun k=>Nat.beq k i || Nat.beq k j || waitB ops rem k) && schOkU ops (rem.filter fun k => !(Nat.beq k i)) n && schOkU ops (rem.filter fun k => !(Nat.beq k j)) m
 | rem,.three i n j m l p => !rem.isEmpty && rem.all (fun k=>Nat.beq k i || Nat.beq k j || Nat.beq k l || waitB ops rem k) && schOkU ops (rem.filter fun k => !(Nat.beq k i)) n && schOkU ops (rem.filter fun k => !(Nat.beq k j)) m && schOkU ops (rem.filter fun k => !(Nat.beq k l)) p
theorem wlU_I {P:Program} {ro:Option Nat} {ops:List Oper} {fl:Bool} {I:World→Prop} {Q:Exit→Act→World→Prop} {s:SchU} {a:Act} {w:World} (h:wlU P ro ops fl I Q s a w) (hl:fl=true→s≠.done):I w:=by
 cases s with
 | done=>exact h.1.resolve_left fun e=>hl e rfl
 | one _ _=>exact h.1
 | two _ _ _ _=>exact h.1
 | three _ _ _ _ _ _=>exact h.1
theorem Ax7 {P:Program} {ro:Option Nat} {ops:List Oper} {fl:Bool} {I:World→Prop} {Q:Exit→Act→World→Prop} {s:SchU} {a:Act} {w:World} {rem:List Nat} {i:Nat} {o:Oper} (hok:schOkU ops rem s=true) (h:wlU P ro ops fl I Q s a w)
  (hi:i∈rem) (hr:∀ j,j∈rem→reachB ops 3 i j=false) (ho:ops[i]?=some o):∃ s',o.wpIn (wf ro) 0 P a w (wlU P ro ops fl I Q s') Q∧schOkU ops (rem.filter fun k => !(Nat.beq k i)) s'=true:=by
 have hnw:waitB ops rem i=false:=by
  cases hw:waitB ops rem i with
  | false=>rfl
  | true =>
   obtain ⟨j,hj,hjr⟩:=List.any_eq_true.1 hw
   rw [hr j hj] at hjr;cases hjr
 cases s with
 | done=>simp only [schOkU,List.isEmpty_iff] at hok;rw [hok] at hi;cases hi
 | one k n =>
  simp only [schOkU,Bool.and_eq_true,List.all_eq_true,Bool.or_eq_true] at hok
  have:=hok.1.2 i hi
  rw [hnw] at this
  have e:i=k:=Nat.eq_of_beq_eq_true (this.resolve_right (by simp))
  subst e
  obtain ⟨_,o',ho',hw⟩:=h
  rw [ho] at ho';cases ho'
  exact ⟨n,hw,hok.2⟩
 | two k n l m =>
  simp only [schOkU,Bool.and_eq_true,List.all_eq_true,Bool.or_eq_true] at hok
  have:=hok.1.1.2 i hi
  rw [hnw] at this
  rcases this.resolve_right (by simp) with e | e
  ·have e:=Nat.eq_of_beq_eq_true e
   subst e
   obtain ⟨_,⟨o',ho',hw⟩,_⟩:=h
   rw [ho] at ho';cases ho'
   exact ⟨n,hw,hok.1.2⟩
  ·have e:=Nat.eq_of_beq_eq_true e
   subst e
   obtain ⟨_,_,o',ho',hw⟩:=h
   rw [ho] at ho';cases ho'
   exact ⟨m,hw,hok.2⟩
 | three k n l m p r =>
  simp only [schOkU,Bool.and_eq_true,List.all_eq_true,Bool.or_eq_true] at hok
  have:=hok.1.1.1.2 i hi
  rw [hnw] at this
  rcases this.resolve_right (by simp) with (e | e) | e
  ·have e:=Nat.eq_of_beq_eq_true e
   subst e
   obtain ⟨_,⟨o',ho',hw⟩,_⟩:=h
   rw [ho] at ho';cases ho'
   exact ⟨n,hw,hok.1.1.2⟩
  ·have e:=Nat.eq_of_beq_eq_true e
   subst e
   obtain ⟨_,_,⟨o',ho',hw⟩,_⟩:=h
   rw [ho] at ho';cases ho'
   exact ⟨m,hw,hok.1.2⟩
  ·have e:=Nat.eq_of_beq_eq_true e
   subst e
   obtain ⟨_,_,_,o',ho',hw⟩:=h
   rw [ho] at ho';cases ho'
   exact ⟨r,hw,hok.2⟩
structure InvU (P:Program) (ro:Option Nat) (N:Nat) (fl:Bool) (I:World→Prop) (Q:Exit→Act→World→Prop) (ops:List Oper) (hv:List (Option Value)) (a0:Act) (listed:Array Bool) (a a':Act) (q:List Nat×SchU) (w:World):Prop where
 sub:∀ i,i∈q.1→i<ops.length∧isH hv i=false
 ok:schOkU ops q.1 q.2=true
 tl:∀ i,i<ops.length→isH hv i=false→(isL listed i↔¬ i∈q.1)
 wp:wlU P ro ops fl I Q q.2 a' w
 sz:a.tmps.size=N
 sz':a'.tmps.size=N
 df:a.defers=a'.defers
 hval:∀ (i:Nat) (o:Oper) (t:Tmp) (v:Value),ops[i]?=some o→hv[i]?=some (some v)→o.dst=some t→a'.tmps.getD t undef=v
 pend:∀ (i:Nat) (o:Oper) (t:Tmp),ops[i]?=some o→isH hv i=true→¬ isL listed i→o.dst=some t→a.tmps.getD t undef=a0.tmps.getD t undef
 same:∀ t,(∀ (i:Nat) (o:Oper),ops[i]?=some o→isH hv i=true→¬ isL listed i→o.dst≠some t)→a.tmps.getD t undef=a'.tmps.getD t undef
 old:∀ t,(∀ (i:Nat) (o:Oper),ops[i]?=some o→o.dst=some t→isH hv i=false∧¬ isL listed i)→a'.tmps.getD t undef=a0.tmps.getD t undef
 shut:∀ (i:Nat) (o:Oper),ops[i]?=some o→isL listed i→∀ j,edgeTo o j=true→isL listed j
section
variable {P:Program} {ro:Option Nat} {N:Nat} {ds:List Deferred} {ops:List Oper} {I:World→Prop} {K:Env→World→Prop} {σ0:Env} {w0:World} {hv:List (Option Value)} {a0:Act} {Q:Exit→Act→World→Prop}
theorem Ay4 {fl:Bool} (hchk:okHeldT ops N fl hv=true) (ha0:Agr N σ0 ds a0) (hob:hObs P I (hEnv ops hv σ0) ops hv) (hQ:∀ e a w,Q e a w→e=.normal) :
  ∀ (fuel:Nat) (listed:Array Bool) (a a':Act) (q:List Nat×SchU) (w:World),listed.size=ops.length→cnt listed ops.length≤fuel→InvU P ro N fl I Q ops hv a0 listed a a' q w →
   wpAnyIn (wf ro) 0 P .any ops.toArray Q fuel listed a w:=by
 simp only [okHeldT,Bool.and_eq_true,List.all_eq_true] at hchk
 obtain ⟨⟨⟨⟨hfl,hlen0⟩,hback⟩,hnd0⟩,hall⟩:=hchk
 have hlen:hv.length=ops.length:=Nat.eq_of_beq_eq_true hlen0
 have hnd:=G7 hnd0
 have hback':∀ (i:Nat) (o:Oper),ops[i]?=some o→∀ j,edgeTo o j=true→j<i:=by
  intro i o hi j hj
  have:=hback (o,i) (by rw [List.mem_zipIdx_iff_getElem?];exact hi)
  obtain ⟨e,he,hb,rfl⟩:=F9.1 hj
  simp only [okBack,Array.all_eq_true',Bool.or_eq_true,Bool.not_eq_true',Nat.blt_eq] at this
  rcases this e he with h | h
  ·rw [hb] at h;cases h
  ·exact h
 have allL:∀ listed:Array Bool,listed.size=ops.length→Region.ready .any ops.toArray listed=[]→∀ i,i<ops.length→isL listed i:=by
  intro listed hsz hr i
  induction i using Nat.strongRecOn with
  | _ i ih =>
   intro hi
   by_cases hh:isL listed i
   ·exact hh
   ·have:i∈Region.ready .any ops.toArray listed:=by
     refine F0.2 ⟨by simpa using hi,(C1 (by omega)).2 hh,fun o ho j hj=>?_⟩
     have:=hback' i o (by simpa using ho) j hj
     exact ih j this (by omega)
    rw [hr] at this;cases this
 have done:∀ listed a a' q w,(∀ i,i<ops.length→isL listed i)→InvU P ro N fl I Q ops hv a0 listed a a' q w→Q .normal a w:=by
  intro listed a a' q w hl hI
  have hq:q.1=[]:=List.eq_nil_iff_forall_not_mem.2 fun i hi=>by
   obtain ⟨h1,h2⟩:=hI.sub i hi
   exact (hI.tl i h1 h2).1 (hl i h1) hi
  have hwp:=hI.wp
  have hok:=hI.ok
  rw [hq] at hok
  have hdn:q.2=.done:=by
   cases hs:q.2 with
   | done=>rfl
   | one _ _=>rw [hs] at hok;simp [schOkU] at hok
   | two _ _ _ _=>rw [hs] at hok;simp [schOkU] at hok
   | three _ _ _ _ _ _=>rw [hs] at hok;simp [schOkU] at hok
  rw [hdn] at hwp
  have haa:a=a':=by
   have ht:a.tmps=a'.tmps:=by
    apply Array.ext
    ·rw [hI.sz,hI.sz']
    ·intro i h1 h2
     have:=hI.same i (fun j o ho _ hn=>absurd (hl j (by
      rcases Nat.lt_or_ge j ops.length with h | h
      ·exact h
      ·rw [List.getElem?_eq_none h] at ho;cases ho)) hn)
     simpa [Array.getD_eq_getD_getElem?,h1,h2] using this
   cases a;cases a'
   simp only at ht
   have hd:=hI.df
   simp only at hd
   rw [ht,hd]
  rw [haa];exact hwp.2
 intro fuel
 induction fuel with
 | zero =>
  intro listed a a' q w hsz hc hI
  have hl:∀ i,i<ops.length→isL listed i:=by
   intro i hi
   have:=AA8 listed ops.length (by omega) i hi
   by_cases hh:isL listed i
   ·exact hh
   ·have:=(C1 (by omega:i<listed.size)).2 hh
    simp_all
  refine ⟨?_,done listed a a' q w hl hI⟩
  refine List.eq_nil_iff_forall_not_mem.2 fun i hi=>?_
  obtain ⟨h1,h2,_⟩:=F0.1 hi
  have h1':i<ops.length:=by simpa using h1
  exact (C1 (by omega)).1 h2 (hl i h1')
 | succ fuel ih =>
  intro listed a a' q w hsz hc hI
  refine ⟨fun hr=>done listed a a' q w (allL listed hsz hr) hI,fun i hi=>?_⟩
  obtain ⟨hin,hun,hed⟩:=F0.1 hi
  have hin':i<ops.length:=by simpa using hin
  have hunl:¬ isL listed i:=(C1 (by omega)).1 hun
  obtain ⟨o,ho⟩:∃ o,ops[i]?=some o:=⟨_,List.getElem?_eq_getElem hin'⟩
  have hed':∀ j,edgeTo o j=true→isL listed j:=hed o (by simpa using ho)
  have hsz':(listed.setIfInBounds i true).size=ops.length:=by simpa using hsz
  have hcnt:cnt (listed.setIfInBounds i true) ops.length≤fuel:=by
   have:=P6 listed i hun ops.length hin'
   omega
  have hset:∀ j,isL (listed.setIfInBounds i true) j↔(i=j∨isL listed j):=fun j=>G4 (by omega)
  have hreach:∀ j,reachB ops 3 i j=true→isL listed j:=fun j hj=>J8 hI.shut 3 i j o ho hed' hj
  have hshut':∀ (j:Nat) (oj:Oper),ops[j]?=some oj→isL (listed.setIfInBounds i true) j→∀ k,edgeTo oj k=true→isL (listed.setIfInBounds i true) k:=by
   intro j oj hoj hlj k hk
   rw [hset] at hlj ⊢
   by_cases e:i=j
   ·subst e
    rw [ho] at hoj;cases hoj
    exact .inr (hed' k hk)
   ·exact .inr (hI.shut j oj hoj (hlj.resolve_left e) k hk)
  have hck:=hall (o,i) (by rw [List.mem_zipIdx_iff_getElem?];exact ho)
  simp only at hck
  obtain ⟨⟨⟨hdk,hgd⟩,hop⟩,hcls⟩:=hck
  have hgn:o.guard=none:=by
   cases hg:o.guard with
   | none=>rfl
   | some g=>rw [hg] at hgd;cases hgd
  have hnd':∀ c,o.op≠.defer c:=fun c e=>by rw [e] at hop;cases hop
  have hns:∀ cs b,o.op≠.select cs b:=fun cs b e=>by rw [e] at hop;cases hop
  have hw:Region.wanted o (yielded ops.toArray a.tmps)=true:=by simp [Region.wanted,hgn]
  unfold wpOpIn
  simp only [List.getElem?_toArray,ho]
  rw [if_pos hw]
  cases hH:isH hv i with
  | true =>
   rw [hH] at hcls
   simp only [cond_true,Bool.and_eq_true,List.all_eq_true] at hcls
   obtain ⟨hds,hrd⟩:=hcls
   obtain ⟨t0,ht0⟩:=Option.isSome_iff_exists.1 hds
   obtain ⟨v,hvv⟩:=AX5 hH
   have htN:t0<N:=by simpa [ht0,dOk,Nat.blt_eq] using hdk
   have hV:=AN0 hob i o v ho hvv w (wlU_I hI.wp fun hft hnil=>by
    subst hft
    refine hunl (Y9 (by simpa using hfl) hI.shut (fun j hj hHj=>(hI.tl j hj hHj).2 ?_) i hin')
    have hok:=hI.ok
    rw [hnil] at hok
    simp only [schOkU,List.isEmpty_iff] at hok
    rw [hok];simp)
   have hopn:∀ x u,x∈o.op.operands→ev (hEnv ops hv σ0) x=some u→a.eval x=u:=by
    intro x u hx hu
    cases x with
    | const c=>simpa [Kx.ev,Act.eval] using hu
    | global g=>simpa [Kx.ev,Act.eval] using hu
    | func f=>simpa [Kx.ev,Act.eval] using hu
    | tmp t =>
     have hmem:t∈tmpsOf o:=by
      unfold tmpsOf
      rw [List.mem_filterMap]
      exact ⟨.tmp t,by simpa using hx,rfl⟩
     have hc:=hrd t hmem
     show a.tmps.getD t undef=u
     rcases AA3 ops hv σ0 t u hu with ⟨j,oj,hoj,hvj,hdj⟩ | ⟨hl0,hno⟩
     ·have hc1:=hc (oj,j) (by rw [List.mem_zipIdx_iff_getElem?];exact hoj)
      have hHj:isH hv j=true:=by unfold isH;rw [hvj];rfl
      simp only [Bool.or_eq_true,hHj,cond_true] at hc1
      have hlj:isL listed j:=by
       rcases hc1 with h1 | h1
       ·simp [hdj] at h1
       ·exact hreach j h1
      rw [hI.same t (fun k ok hok _ hnl hdk'=>?_),hI.hval j oj t u hoj hvj hdj]
      have:=K0 hnd hoj hok hdj hdk'
      subst this;exact hnl hlj
     ·have h1:a.tmps.getD t undef=a'.tmps.getD t undef:=hI.same t (fun k ok hok hHk _ hdk'=>hno k ok hok hHk hdk')
      rw [h1,hI.old t (fun k ok hok hdk'=>?_),ha0.slot t u hl0]
      have hHk:isH hv k=false:=by
       cases hh:isH hv k with
       | false=>rfl
       | true=>exact absurd hdk' (hno k ok hok hh)
      refine ⟨hHk,fun hlk=>?_⟩
      have hc1:=hc (ok,k) (by rw [List.mem_zipIdx_iff_getElem?];exact hok)
      simp only [Bool.or_eq_true,hHk,cond_false] at hc1
      rcases hc1 with h1 | h1
      ·simp [hdk'] at h1
      ·exact hunl (J8 hI.shut 3 k i ok hok (fun j hj=>hI.shut k ok hok hlk j hj) h1)
   refine hV.gv.wp hopn ?_
   rintro v' w' ⟨rfl,rfl⟩
   have hp:=fun t=>K2 (v:=v') (t:=t) (d:=o.dst) hI.sz
   refine ih _ _ a' q _ hsz' hcnt ⟨hI.sub,hI.ok,fun j hj hHj=>?_,hI.wp,(hp t0).1,hI.sz',(hp t0).2.1.trans hI.df,hI.hval,fun j oj t hoj hHj hnl hdj=>?_,fun t hno=>?_,fun t hno=>?_,hshut'⟩
   ·rw [hset]
    constructor
    ·rintro (e | e)
     ·subst e;rw [hH] at hHj;cases hHj
     ·exact (hI.tl j hj hHj).1 e
    ·exact fun h=>.inr ((hI.tl j hj hHj).2 h)
   ·rw [hset] at hnl
    have hne:o.dst≠some t:=fun e=>hnl (.inl (K0 hnd ho hoj e hdj))
    rw [(hp t).2.2.1 hne]
    exact hI.pend j oj t hoj hHj (fun h=>hnl (.inr h)) hdj
   ·by_cases e:o.dst=some t
    ·rw [ht0] at e;cases e
     rw [(hp t0).2.2.2 ht0 htN,hI.hval i o t0 v' ho hvv ht0]
    ·rw [(hp t).2.2.1 e]
     refine hI.same t fun j oj hoj hHj hnl hdj=>?_
     refine hno j oj hoj hHj (fun h=>?_) hdj
     rw [hset] at h
     rcases h with h | h
     ·subst h;rw [ho] at hoj;cases hoj;exact e hdj
     ·exact hnl h
   ·refine hI.old t fun j oj hoj hdj=>?_
    obtain ⟨h1,h2⟩:=hno j oj hoj hdj
    exact ⟨h1,fun h=>h2 ((hset j).2 (.inr h))⟩
  | false =>
   rw [hH] at hcls
   simp only [cond_false,List.all_eq_true] at hcls
   have hrd:=hcls
   have hirem:i∈q.1:=Classical.byContradiction fun h=>hunl ((hI.tl i hin' hH).2 h)
   have hnor:∀ j,j∈q.1→reachB ops 3 i j=false:=by
    intro j hj
    cases hr:reachB ops 3 i j with
    | false=>rfl
    | true =>
     obtain ⟨h1,h2⟩:=hI.sub j hj
     exact absurd hj ((hI.tl j h1 h2).1 (hreach j hr))
   obtain ⟨sch,hwp,hok2⟩:=Ax7 hI.ok hI.wp hirem hnor ho
   refine Q5 hnd' hns (fun x hx=>?_) hQ (fun dd v w' hnx=>?_) hwp
   ·cases x with
    | const c=>rfl
    | global g=>rfl
    | func f=>rfl
    | tmp t =>
     have hmem:t∈tmpsOf o:=by
      unfold tmpsOf
      rw [List.mem_filterMap]
      exact ⟨.tmp t,by simpa using hx,rfl⟩
     refine hI.same t fun j oj hoj hHj hnl hdj=>hnl ?_
     have hc1:=hrd t hmem (oj,j) (by rw [List.mem_zipIdx_iff_getElem?];exact hoj)
     simp only [Bool.or_eq_true,hHj] at hc1
     rcases hc1 with (h1 | h1) | h1
     ·simp [hdj] at h1
     ·simp at h1
     ·exact hreach j h1
   ·have hsa:({ a with defers:=dd++a.defers }:Act).tmps.size=N:=hI.sz
    have hsa':({ a' with defers:=dd++a'.defers }:Act).tmps.size=N:=hI.sz'
    have hp:=fun t=>K2 (v:=v) (t:=t) (d:=o.dst) hsa
    have hp':=fun t=>K2 (v:=v) (t:=t) (d:=o.dst) hsa'
    have hnoH:∀ (j:Nat) (oj:Oper) (t:Tmp),ops[j]?=some oj→isH hv j=true→oj.dst=some t→o.dst≠some t:=by
     intro j oj t hoj hHj hdj e
     have:=K0 hnd ho hoj e hdj
     subst this;rw [hH] at hHj;cases hHj
    refine ih _ _ _ (q.1.filter (fun k => !(Nat.beq k i)),sch) _ hsz' hcnt ⟨fun j hj=>hI.sub j (List.mem_filter.1 hj).1,hok2,fun j hj hHj=>?_,hnx,(hp 0).1,(hp' 0).1,?_,fun j oj t u hoj hvj hdj=>?_,fun j oj t hoj hHj hnl hdj=>?_,fun t hno=>?_,fun t hno=>?_,hshut'⟩
    ·rw [hset]
     constructor
     ·rintro (e | e) hm
      ·subst e
       simpa using (List.mem_filter.1 hm).2
      ·exact (hI.tl j hj hHj).1 e (List.mem_filter.1 hm).1
     ·intro h
      by_cases e:i=j
      ·exact .inl e
      ·refine .inr ((hI.tl j hj hHj).2 fun hm=>h (List.mem_filter.2 ⟨hm,?_⟩))
       simp only [Bool.not_eq_true']
       exact AC5 (fun e'=>e e'.symm)
    ·rw [(hp 0).2.1,(hp' 0).2.1]
     show dd++a.defers=dd++a'.defers
     rw [hI.df]
    ·have hHj:isH hv j=true:=by unfold isH;rw [hvj];rfl
     rw [(hp' t).2.2.1 (hnoH j oj t hoj hHj hdj)]
     exact hI.hval j oj t u hoj hvj hdj
    ·rw [(hp t).2.2.1 (hnoH j oj t hoj hHj hdj)]
     exact hI.pend j oj t hoj hHj (fun h=>hnl ((hset j).2 (.inr h))) hdj
    ·by_cases e:o.dst=some t
     ·have htN:t<N:=by simpa [e,dOk,Nat.blt_eq] using hdk
      rw [(hp t).2.2.2 e htN,(hp' t).2.2.2 e htN]
     ·rw [(hp t).2.2.1 e,(hp' t).2.2.1 e]
      refine hI.same t fun j oj hoj hHj hnl hdj=>hno j oj hoj hHj (fun h=>?_) hdj
      rw [hset] at h
      rcases h with h | h
      ·subst h;rw [hH] at hHj;cases hHj
      ·exact hnl h
    ·have e:o.dst≠some t:=fun e=>(hno i o ho e).2 ((hset i).2 (.inl rfl))
     rw [(hp' t).2.2.1 e]
     refine hI.old t fun j oj hoj hdj=>?_
     obtain ⟨h1,h2⟩:=hno j oj hoj hdj
     exact ⟨h1,fun h=>h2 ((hset j).2 (.inr h))⟩
/-- **a region that draws its order: reads beside what follows a plan.** 'hv': of each operation the value that it reads ('some v'), or 'none': it is of the chain. -/
theorem WC.heldU {Q:Pst} {id:Nat} (hm:P.follows .mixedOrders=true) (fl:Bool) (I:World→Prop) (hv:List (Option Value)) (sch:SchU) (hchk:okHeldT ops N fl hv=true) (hsc:schOkU ops (tIdx ops hv) sch=true) (hob:hObs P I (hEnv ops hv σ0) ops hv)
  (hT:∀ w,Ext w0 w→w.heap=w0.heap→WLU P ro N ds ops fl I (fun σ w=>Q .normal σ ds w) sch (hEnv ops hv σ0) w):WC P ro N Q (.region id ops.toArray true) σ0 ds w0:=by
 refine ⟨fun a ha=>?_⟩
 have main:(Code.region id ops.toArray true).wpIn (wf ro) 0 P (fun e a w=>e=.normal∧∃ σ',Agr N σ' ds a∧Q .normal σ' ds w) a w0:=by
  refine wpIn_region_draw fun t=>?_
  simp only [Region.schedule,hm,Bool.true_or,if_true]
  refine wpAnyIn_sound ops.toArray.size t _ a _ ?_
  have hfalse:∀ i,¬ isL (Array.replicate ops.toArray.size false) i:=by
   intro i
   unfold isL
   by_cases hi:i<ops.length<;>simp [hi]
  have hc:=hchk
  simp only [okHeldT,Bool.and_eq_true,List.all_eq_true] at hc
  obtain ⟨⟨⟨⟨hfl,hlen0⟩,hback⟩,hnd0⟩,hall⟩:=hc
  have hdk:∀ o∈ops,dOk N o.dst=true:=by
   intro o ho
   obtain ⟨i,hi⟩:=List.mem_iff_getElem?.1 ho
   exact (hall (o,i) (by rw [List.mem_zipIdx_iff_getElem?];exact hi)).1.1.1
  have hag:=AE8 (N:=N) (ds:=ds) ops hv σ0 a hdk ha
  have hdrew:Ext w0 { w0 with drawn:=w0.drawn+1 }:=(Below.refl _ w0).drew
  refine Ay4 hchk ha hob (fun e a w h=>h.1) _ _ a (hAct ops hv a) (tIdx ops hv,sch) _ (by simp) (by simpa using cnt_le _ _) ⟨fun i hi=>AL5.1 hi,hsc,fun i h1 h2=>⟨fun h=>absurd h (hfalse i),fun h=>absurd (AL5.2 ⟨h1,h2⟩) h⟩,(hT _ hdrew rfl).out _ hag,ha.size,hag.size,by rw [ha.defs,hag.defs],
   fun i o t v ho hvi hd=>AE7 ops hv a ha.size (G7 hnd0) i o t v ho hvi hd ?_,fun i o t _ _ _ _=>?_,fun t hno=>?_,fun t hno=>?_,fun i o _ hl=>absurd hl (hfalse i)⟩
  ·have:=hdk o (List.mem_iff_getElem?.2 ⟨i,ho⟩)
   simpa [hd,dOk,Nat.blt_eq] using this
  ·rfl
  ·exact (J9 ops hv a t ha.size (fun i o ho hi=>hno i o ho hi (hfalse i))).symm
  ·exact J9 ops hv a t ha.size (fun i o ho hi hd=>by have:=(hno i o ho hd).1;rw [hi] at this;cases this)
 refine wpIn_mono main ?_
 rintro e a' w' ⟨rfl,σ',hag,hk⟩
 exact ⟨σ',ds,hag,hk⟩
end
end Go.Kx

namespace Go.Proofs.YtfilidfomgfnhaaGreat
open Go Go.Kx Go.RowKit
theorem paV_rsz {l:List RtV} {p:List QV} {L:Nat} (h:∀ r∈l,r.q.natAbs≤1208925819614629174706176) (hk:vk L p) (hL:1≤L) (i:Nat):Rsz (paV l (rv p) i) (2*L+4):=by
 unfold paV paR
 have hq:(l.getD i ⟨0,0,0⟩).q.natAbs≤1208925819614629174706176:=by
  rw [List.getD_eq_getElem?_getD]
  cases hi:l[i]? with
  | none=>simp
  | some r=>exact h r (List.mem_iff_getElem?.2 ⟨i,hi⟩)
 have h1:=AE1 hq
 have h2:=(hk.rsz hL (l.getD i ⟨0,0,0⟩).t.toNat).add (hk.rsz hL (l.getD i ⟨0,0,0⟩).f.toNat).neg
 have:=h1.mul h2
 rw [Rat.sub_eq_add_neg]
 exact this.mono (by omega)
end Go.Proofs.YtfilidfomgfnhaaGreat

namespace Go.Kx
open Go Go.RowKit
section
variable {P:Program} {σ:Env} {w:World} {d:Option Tmp} {ty:TypeId} {pos:String} {af:Array Edge} {g:Option (Nat×Bool)} {α:Type} {E:ER α}
/-- append(l, s...) where the elements lie in no block -/
theorem AH1 {tt t:TypeId} {x y:Operand} {z:Value} {by_ base:Nat} {S:Nat→Prop} {v u:Value} {l s:List α} {hsz:0<E.sz} (hE:∀ S S' w w' e x,E.R S w e x→E.R S' w' e x) (ht:P.underlying tt=some (.slice t)) (hi:infoOf P t=some (z,E.sz,by_)) (hzs:z.cells.size=E.sz) (hx:ev σ x=some v) (hy:ev σ y=some u)
  (hown:OwnL E t base (fun _=>False) w v l) (hs:(RL E hsz).R S w u s) (hl:l.length≤1000000) (hl2:s.length≤1000000) (hby:by_≤100) (hbase:base≤w.heap.size) :
  Gv P ⟨d,.call { callee:=.builtin .append,args:=#[x,y],argTypes:=#[tt,tt] },ty,pos,af,g⟩ σ w fun v' w'=>OwnL E t base (fun _=>False) w' v' (l++s)∧w.grownBy w' v.ownBlock:=by
 have hown0:=hown
 obtain ⟨es0,ho,hels⟩:=hown
 obtain ⟨es,he,a,c,rfl,hc,_,hcl,hcells⟩:=hs
 have hone:∀ u∈cellsOf es,one1 u=true:=by
  intro u hu
  obtain ⟨e,he',hu'⟩:=List.mem_flatMap.1 hu
  obtain ⟨i,hi'⟩:=List.mem_iff_getElem?.1 he'
  have hlt:i<s.length:=by rw [←he.1];exact (List.getElem?_eq_some_iff.1 hi').1
  exact E.one (he.2 i e _ hi' (List.getElem?_eq_getElem hlt)) u hu'
 have fin:∀ v' w',w'.ownsRow base t E.sz v' (l.length+s.length) (cellsOf es0++cellsOf es)→w.grownBy w' v.ownBlock→OwnL E t base (fun _=>False) w' v' (l++s)∧w.grownBy w' v.ownBlock:=by
  intro v' w' h1 h2
  refine ⟨⟨es0++es,?_,?_⟩,h2⟩
  ·rw [show cellsOf (es0++es)=cellsOf es0++cellsOf es by simp [cellsOf],List.length_append];exact h1
  ·exact Els.append ⟨hels.1,fun i e x he hx=>hE _ _ _ _ _ _ (hels.2 i e x he hx)⟩ ⟨he.1,fun i e x he' hx=>hE _ _ _ _ _ _ (he.2 i e x he' hx)⟩
 have hbytes:(l.length+s.length)*by_≤140737488355328:=by
  have:(l.length+s.length)*by_≤2000000*100:=Nat.mul_le_mul (by omega) hby
  omega
 cases a with
 | some ad =>
  have hcell:∀ j u,(cellsOf es)[j]?=some u→w.cell? (ad.add j)=some u:=by
   intro j u hu
   have hpos:0<s.length:=by
    rcases Nat.eq_zero_or_pos s.length with h0 | h0
    ·have:es=[]:=List.length_eq_zero_iff.1 (by rw [he.1];exact h0)
     subst this
     simp [cellsOf] at hu
    ·exact h0
   obtain ⟨ad',h1,_,h2⟩:=hcells hpos
   cases h1
   exact (h2 j u hu).1
  exact (AY1 (cellsOf es) ht hi hzs hsz hx hy ho hcl hcell hone (by omega) hbytes hbase).mono fun v' w' ⟨h1,h2⟩=>fin v' w' h1 h2
 | none =>
  have h0:s=[]:=by
   cases s with
   | nil=>rfl
   | cons z s=>obtain ⟨ad,h1,_⟩:=hcells (by simp);cases h1
  subst h0
  refine (BG3 ht hi hx hy ho).gv.mono fun v' w' ⟨h1,h2⟩=>?_
  subst h1;subst h2
  exact ⟨by simpa using hown0,⟨rfl,rfl,rfl,Nat.le_refl _,fun _ _ _=>rfl⟩⟩
end
theorem BD3 (l:List RtV) (f t q:Int) (b:Nat):rtS (l++[⟨f,t,q⟩,⟨t,f,q⟩]) b=rtS l b:=by
 rw [show l++[(⟨f,t,q⟩:RtV),⟨t,f,q⟩]=(l++[⟨f,t,q⟩])++[⟨t,f,q⟩] by simp,AM2,AM2]
 show rtS l b+(if f=(b:Int) then q else 0)-(if t=(b:Int) then q else 0)+(if t=(b:Int) then q else 0)-(if f=(b:Int) then q else 0)=_
 omega
end Go.Kx
namespace Go.Proofs.YtfilidfomgfnhaaGreat
open Go Go.Kx Go.RowKit
theorem Ai1:Ent Tryz.prog 123:=A0 Tryz.func123 (by kernel_rfl) rfl
theorem Af5 {S:Nat→Prop} {w:World} {va vb:Value} {x y:QV} {L:Nat} (up:Up S w) (ha:eQ.R S w va x) (hb:eQ.R S w vb y) (hka:qok L x) (hkb:qok L y) (h1:1≤L) (hL:L≤1000000000):CR Tryz.prog 123 #[va,vb] w (Is (.bool (same (qc (qval x)) (qc (qval y))))):=by
 have hva:=shpA (E:=eQ) rfl ha
 have hvb:=shpA (E:=eQ) rfl hb
 refine enter Tryz.func123 rfl Tryz.ntmps123 rfl (.beg (.go rfl (.box rfl rfl fun w1 b2 n1=>.go rfl (.box rfl rfl fun w2 b3 n2=>.goC rfl ?_))))
 obtain ⟨e1,k2,hb2,hs1⟩:=n1
 obtain ⟨e2,k3,hb3,hs2⟩:=n2
 have x2:=e1.trans e2
 have k2:=k2.ext e2
 have up2:=up.ext x2.size
 refine .par follows 3 [.inl va,.inr (eQ.at S (qc (qval x))),.inl vb] [[],[(5,0)],[]] (by kernel_rfl) ⟨
  fun w e=>((B3 ty_Q rfl (k2.ext e) (eQ.csz ha)).eq hva.symm).ob,
  fun w e=>(A1 _ AI3 rfl (AH8 (up2.ext e.size) (ER.ext eQ ha (x2.trans e)) hka h1 hL)).ob (A6 _ _ _),
  fun w e=>((B3 ty_Q rfl (k3.ext e) (eQ.csz hb)).eq hvb.symm).ob,trivial⟩ ?_
 intro w3 e3 y1 hy1
 refine .call _ rfl AI3 rfl (AH8 (up2.ext e3.size) (ER.ext eQ hb (x2.trans e3)) hkb h1 hL) fun v4 w4 e4 h4=>?_
 refine .call _ rfl At6 rfl (Ar2 (ER.ext eQ hy1 e4) h4) fun v5 w5 e5 h5=>?_
 subst h5
 exact .goE rfl (.plain [_] Tryz.results123 ⟨rfl,trivial⟩ ⟨(x2.trans e3).trans (e4.trans e5),rfl⟩)
theorem Aq8 {α:Type} (x:α):same x x=true:=by unfold same;simp
theorem AU5:Ent Tryz.prog 54:=A0 Tryz.func54 (by kernel_rfl) rfl
set_option maxRecDepth 8000 in
theorem AT8 {S:Nat→Prop} {w:World} {va vb:Value} {l:List QV} {L:Nat} (up:Up S w) (ha:eV.R S w va l) (hb:eV.R S w vb l) (hk:vk L l) (h1:1≤L) (hL:L≤1000000000):CR Tryz.prog 54 #[va,vb] w (Is (.bool true)):=by
 obtain ⟨_,_,_,_,hll⟩:=RL.len ha
 refine enter Tryz.func54 rfl Tryz.ntmps54 rfl (.beg (.go rfl (.lenR un_V rfl rfl ha (.go rfl (.lenR un_V rfl rfl hb (.neqF rfl rfl rfl (by simp) (.goC rfl ?_)))))))
 refine .lp (α:=Nat) [0,1] rfl (fun i=>[(5,.int .i64 (i:Nat))]) (fun i W=>Ext w W∧i≤l.length) (fun i=>l.length-i) 0 (lc1 rfl) ⟨Ext.refl _,Nat.zero_le _⟩ ?_
 rintro i W ⟨hW,hi⟩
 refine .go rfl (.lenR un_V rfl rfl (ER.ext eV ha hW) ?_)
 rcases Nat.lt_or_ge i l.length with hlt | hge
 rotate_left
 ·exact .lssF rfl rfl rfl (by omega) (.goE rfl (.tt Tryz.results54 rfl hW))
 have hg:l[i]?=some (l.getD i q0):=B4 hlt
 have upW:=up.ext hW.size
 refine .lssT rfl rfl rfl (by omega) (.goC rfl ?_)
 refine .par follows 8 [.inl _,.inl _,.inr (Ptr eQ S (l.getD i q0)),.inr (eQ.at S (l.getD i q0)),.inl _,.inl _,.inr (Ptr eQ S (l.getD i q0)),.inr (eQ.at S (l.getD i q0))] [[],[],[(17,0),(18,1)],[(19,2)],[],[],[(21,4),(22,5)],[(23,6)]] (by kernel_rfl) ⟨
  fun w e=>(v_mv rfl).ob,
  fun w e=>(v_mv rfl).ob,
  fun w e=>D8 (i:=i) un_V ty_Q rfl (ER.ext eV ha (hW.trans e)) rfl hg,
  fun w e x2 hx2=>K5 ty_Q rfl hx2,
  fun w e=>(v_mv rfl).ob,
  fun w e=>(v_mv rfl).ob,
  fun w e=>D8 (i:=i) un_V ty_Q rfl (ER.ext eV hb (hW.trans e)) rfl hg,
  fun w e x6 hx6=>K5 ty_Q rfl hx6,trivial⟩ ?_
 intro W4 e4 y2 hy2 y3 hy3 y6 hy6 y7 hy7
 have hsm:=Af5 (upW.ext e4.size) hy3 hy7 (hk.get h1 i).1 (hk.get h1 i).1 h1 hL
 rw [Aq8] at hsm
 refine .call _ rfl Ai1 rfl hsm fun v5 W5 e5 h5=>?_
 subst h5
 exact .go rfl (.inc rfl rfl rfl (by omega) (.goN rfl (.mk (i+1) rfl (lc1 rfl) ⟨⟨hW.trans (e4.trans e5),hlt⟩,by show l.length-(i+1)<l.length-i;omega⟩)))
theorem Ax0:bslOf Tryz.prog 57 0 []=some (59,#[]):=by kernel_rfl
theorem Ah4 {a b c d e f:Value}:bslOf Tryz.prog 57 2 [(0,.agg #[a,b,c]),(1,.agg #[d,e,f])]=some (59,#[a,b,c,d,e,f]):=by kernel_rfl
theorem bsl_Rt4 {a b c d e f g h i j k l:Value}:bslOf Tryz.prog 57 4 [(0,.agg #[a,b,c]),(1,.agg #[d,e,f]),(2,.agg #[g,h,i]),(3,.agg #[j,k,l])]=some (59,#[a,b,c,d,e,f,g,h,i,j,k,l]):=by kernel_rfl
theorem AA7 (S S':Nat→Prop) (w w':World) (e:Value) (x:RtV) (h:eRt.R S w e x):eRt.R S' w' e x:=h
theorem BD8 {n:NtV} {o:List Int} {l:List RtV} {f t q:Int} (h:rfE n o (l++[⟨f,t,q⟩,⟨t,f,q⟩])=0) (h':rfE n o l=0):tab n.ls.length (rfV n o (l++[⟨f,t,q⟩,⟨t,f,q⟩]))=tab n.ls.length (rfV n o l):=G9 fun k _=>by
 unfold rfV
 exact B5 fun b _=>by rw [BD3]
set_option maxRecDepth 8000 in
theorem AJ7 {w:World} {vn vo vl v1 vp:Value} {n:NtV} {o:List Int} {l:List RtV} {one:RtV} {part:Int} {p:List QV} (hn:eN.R (fun _=>True) w vn n) (ho:eI.R (fun _=>True) w vo o) (hl:eRts.R (fun _=>True) w vl l) (h1:eRt.R (fun _=>True) w v1 one) (hpt:IntKind.u32.min≤part∧part≤IntKind.u32.max) (hp:eV.R (fun _=>True) w vp p) (hk:vk 1048576 p) :
  CR Tryz.prog 9 #[vn,vo,vl,v1,.int .u32 part,vp] w (Is (.bool true)):=by
 obtain ⟨s,rfl,hs,hb⟩:=hn
 have hn:eN.R (fun _=>True) w (.agg #[.int .i64 n.b,s]) n:=⟨s,rfl,hs,hb⟩
 obtain ⟨f,t,q⟩:=one
 obtain ⟨rfl,i1,i2,i3⟩:=h1
 replace i1:=B7.1 i1
 replace i2:=B7.1 i2
 replace i3:=B7.1 i3
 dsimp only at i1 i2 i3
 replace hpt:0≤part∧part≤4294967295:=hpt
 obtain ⟨_,_,hvx,_,hxl⟩:=RL.len hp
 have haw:∀ {W:World},CR Tryz.prog 48 #[] W (Is (.bool true)):=Ab6
 refine enter Tryz.func9 rfl Tryz.ntmps9 rfl (.beg (.go rfl (.box rfl rfl fun w1 b6 n1=>.go rfl (.box rfl rfl fun w2 b9 n2=>.go rfl ?_))))
 obtain ⟨e1,k6,hb6,hs1⟩:=n1
 obtain ⟨e2,k9,hb9,hs2⟩:=n2
 have x2:=e1.trans e2
 have k6:=k6.ext e2
 replace k9:Blk w2 b9 59 #[.int .i64 f,.int .i64 t,.int .i64 q]:=k9
 have hend:∀ {W:World},Ext w2 W→CR Tryz.prog 48 #[] W (Is (.bool true)):=fun _=>haw
 refine .ldA ty_N rfl rfl k6 rfl (.go rfl ?_)
 refine .call _ rfl Ai7 rfl (Ag4 (hn.ext x2) (ho.ext x2) (ER.ext eRts hl x2)) fun v3 w3 e3 h3=>?_
 obtain ⟨bl,rfl,hl30⟩:=h3
 have x3:=x2.trans e3
 cases bl with
 | true =>
  refine .go rfl (.call _ rfl L8 rfl haw fun v4 w4 e4 h4=>?_)
  subst h4
  exact .goE rfl (.tt Tryz.results9 rfl (x3.trans e4))
 | false =>
 replace hl30:=hl30 rfl
 refine .go rfl (.bsl _ rfl rfl (by rw [hvx];exact BI2) fun w4 b28 n4=>?_)
 have hm:eM.R (fun _=>True) w4 (.slice (some ⟨b28,0,none⟩) 1 1) [p]:=eS_new [vp] [p] n4 upT (by rw [hvx]) rfl (by decide) (Els.snoc Els.nil (ER.ext eV hp x3))
 have x4:=x3.trans n4.1
 refine .go rfl (.call _ rfl Ai8 rfl (Ag5 hm) fun v5 w5 e5 h5=>?_)
 obtain ⟨bl2,rfl⟩:=h5
 have x5:=x4.trans e5
 have k9:=((k9.ext e3).ext n4.1).ext e5
 have k6:=((k6.ext e3).ext n4.1).ext e5
 cases bl2 with
 | true =>
  refine .go rfl (.call _ rfl L8 rfl haw fun v6 w6 e6 h6=>?_)
  subst h6
  exact .goE rfl (.tt Tryz.results9 rfl (x5.trans e6))
 | false =>
 refine .go rfl (.fa L9 rfl rfl (.go rfl (.ld I4 rfl rfl k9 rfl (.go rfl ?_))))
 by_cases hq0:q<0
 ·refine .lssT rfl rfl rfl hq0 (.go rfl (.call _ rfl L8 rfl haw fun v6 w6 e6 h6=>?_))
  subst h6
  exact .goE rfl (.tt Tryz.results9 rfl (x5.trans e6))
 refine .lssF rfl rfl rfl hq0 (.go rfl (.fa L9 rfl rfl (.go rfl (.ld I4 rfl rfl k9 rfl (.go rfl ?_)))))
 by_cases hq1:1000000<q
 ·refine .gtrT rfl rfl rfl hq1 (.go rfl (.call _ rfl L8 rfl haw fun v6 w6 e6 h6=>?_))
  subst h6
  exact .goE rfl (.tt Tryz.results9 rfl (x5.trans e6))
 refine .gtrF rfl rfl rfl hq1 (.go rfl (.call _ rfl L8 rfl haw fun v6 w6 e6 h6=>?_))
 subst h6
 have x6:=x5.trans e6
 have k9:=k9.ext e6
 have k6:=k6.ext e6
 refine .goC rfl (.cut (α:=Nat×Nat×Nat) 0 [1,2,4,5,6,9] rfl (fun y=>[(13,.pointer (some ⟨y.1,0,none⟩)),(14,.pointer (some ⟨y.2.1,0,none⟩)),(15,.pointer (some ⟨y.2.2,0,none⟩))]) (fun y W=>Ext w6 W∧Blk W y.1 59 #[.int .i64 f,.int .i64 t,.int .i64 q]∧Blk W y.2.1 59 #[.int .i64 f,.int .i64 t,.int .i64 q]∧Blk W y.2.2 59 #[.int .i64 f,.int .i64 t,.int .i64 q]∧w6.heap.size≤y.1∧w6.heap.size≤y.2.1∧w6.heap.size≤y.2.2∧y.1≠y.2.1∧y.1≠y.2.2∧y.2.1≠y.2.2) rfl ?_ ?_)
 rotate_left
 ·refine .heldU follows true (fun W=>Blk W b9 59 #[.int .i64 f,.int .i64 t,.int .i64 q]) [some (.agg #[.int .i64 f,.int .i64 t,.int .i64 q]),some (.agg #[.int .i64 f,.int .i64 t,.int .i64 q]),some (.agg #[.int .i64 f,.int .i64 t,.int .i64 q]),none,none,none,none,none,none]
   (.three 3 (.two 4 (.one 5 (.one 6 (.one 7 (.one 8 .done)))) 5 (.one 4 (.one 6 (.one 7 (.one 8 .done))))) 4 (.two 3 (.one 5 (.one 6 (.one 7 (.one 8 .done)))) 5 (.one 3 (.one 6 (.one 7 (.one 8 .done))))) 5 (.two 3 (.one 4 (.one 6 (.one 7 (.one 8 .done)))) 4 (.one 3 (.one 6 (.one 7 (.one 8 .done)))))) (by kernel_rfl) (by kernel_rfl)
   ⟨fun _ h=>B3 E0 rfl h rfl,fun _ h=>B3 E0 rfl h rfl,fun _ h=>B3 E0 rfl h rfl,trivial⟩ ?_
  intro w7 e7 _
  have k9:=k9.ext e7
  refine .gv3 ?_ ?_ ?_
  ·refine .gv rfl k9 rfl (I1 G0) ?_
   rintro _ W0 ⟨a,rfl,d0,ka,ha,za⟩
   have k91:=k9.ext d0
   refine .gv2 ?_ ?_
   ·refine .gv rfl k91 rfl (I1 G0) ?_
    rintro _ W1 ⟨b,rfl,d1,kb,hb,zb⟩
    have k92:=k91.ext d1
    refine .gv rfl k92 rfl (I1 G0) ?_
    rintro _ W2 ⟨c,rfl,d2,kc,hc,zc⟩
    have k93:=k92.ext d2
    have y7:=((e7.trans d0).trans d1).trans d2
    have ka:Blk W2 a 59 #[.int .i64 0,.int .i64 0,.int .i64 0]:=((ka).ext d1).ext d2
    have kb:Blk W2 b 59 #[.int .i64 0,.int .i64 0,.int .i64 0]:=(kb).ext d2
    have kc:Blk W2 c 59 #[.int .i64 0,.int .i64 0,.int .i64 0]:=kc
    have z7:=e7.size
    have zk:=k9.lt
    refine .gv rfl k93 rfl (C3 (v:=.agg #[.int .i64 f,.int .i64 t,.int .i64 q]) E0 rfl rfl ka rfl (by decide) (by simp [Value.cells,one1])) ?_
    rintro _ V0 ⟨ka',u0⟩
    have kb0:=(kb).upd u0 (show b≠a by omega)
    have kc0:=(kc).upd u0 (show c≠a by omega)
    have k9v0:=(k93).upd u0 (show b9≠a by omega)
    have av:Blk V0 a 59 #[.int .i64 f,.int .i64 t,.int .i64 q]:=ka'
    have yb0:Ext w6 V0:=u0.below y7 (by omega)
    refine .gv rfl k9v0 rfl (C3 (v:=.agg #[.int .i64 f,.int .i64 t,.int .i64 q]) E0 rfl rfl kb0 rfl (by decide) (by simp [Value.cells,one1])) ?_
    rintro _ V1 ⟨kb',u1⟩
    have ka1:=(av).upd u1 (show a≠b by omega)
    have kc1:=(kc0).upd u1 (show c≠b by omega)
    have k9v1:=(k9v0).upd u1 (show b9≠b by omega)
    have bv:Blk V1 b 59 #[.int .i64 f,.int .i64 t,.int .i64 q]:=kb'
    have yb1:Ext w6 V1:=u1.below yb0 (by omega)
    refine .gv rfl k9v1 rfl (C3 (v:=.agg #[.int .i64 f,.int .i64 t,.int .i64 q]) E0 rfl rfl kc1 rfl (by decide) (by simp [Value.cells,one1])) ?_
    rintro _ V2 ⟨kc',u2⟩
    have ka2:=(ka1).upd u2 (show a≠c by omega)
    have kb2:=(bv).upd u2 (show b≠c by omega)
    have k9v2:=(k9v1).upd u2 (show b9≠c by omega)
    have cv:Blk V2 c 59 #[.int .i64 f,.int .i64 t,.int .i64 q]:=kc'
    have yb2:Ext w6 V2:=u2.below yb1 (by omega)
    exact .nil (.inl rfl) (.goN rfl (.mk (a,b,c) rfl (lc3 rfl rfl rfl) ⟨yb2,ka2,kb2,cv,by show _≤a;omega,by show _≤b;omega,by show _≤c;omega,by show a≠b;omega,by show a≠c;omega,by show b≠c;omega⟩))
   ·refine .gv rfl k91 rfl (I1 G0) ?_
    rintro _ W1 ⟨c,rfl,d1,kc,hc,zc⟩
    have k92:=k91.ext d1
    refine .gv rfl k92 rfl (I1 G0) ?_
    rintro _ W2 ⟨b,rfl,d2,kb,hb,zb⟩
    have k93:=k92.ext d2
    have y7:=((e7.trans d0).trans d1).trans d2
    have ka:Blk W2 a 59 #[.int .i64 0,.int .i64 0,.int .i64 0]:=((ka).ext d1).ext d2
    have kc:Blk W2 c 59 #[.int .i64 0,.int .i64 0,.int .i64 0]:=(kc).ext d2
    have kb:Blk W2 b 59 #[.int .i64 0,.int .i64 0,.int .i64 0]:=kb
    have z7:=e7.size
    have zk:=k9.lt
    refine .gv rfl k93 rfl (C3 (v:=.agg #[.int .i64 f,.int .i64 t,.int .i64 q]) E0 rfl rfl ka rfl (by decide) (by simp [Value.cells,one1])) ?_
    rintro _ V0 ⟨ka',u0⟩
    have kb0:=(kb).upd u0 (show b≠a by omega)
    have kc0:=(kc).upd u0 (show c≠a by omega)
    have k9v0:=(k93).upd u0 (show b9≠a by omega)
    have av:Blk V0 a 59 #[.int .i64 f,.int .i64 t,.int .i64 q]:=ka'
    have yb0:Ext w6 V0:=u0.below y7 (by omega)
    refine .gv rfl k9v0 rfl (C3 (v:=.agg #[.int .i64 f,.int .i64 t,.int .i64 q]) E0 rfl rfl kb0 rfl (by decide) (by simp [Value.cells,one1])) ?_
    rintro _ V1 ⟨kb',u1⟩
    have ka1:=(av).upd u1 (show a≠b by omega)
    have kc1:=(kc0).upd u1 (show c≠b by omega)
    have k9v1:=(k9v0).upd u1 (show b9≠b by omega)
    have bv:Blk V1 b 59 #[.int .i64 f,.int .i64 t,.int .i64 q]:=kb'
    have yb1:Ext w6 V1:=u1.below yb0 (by omega)
    refine .gv rfl k9v1 rfl (C3 (v:=.agg #[.int .i64 f,.int .i64 t,.int .i64 q]) E0 rfl rfl kc1 rfl (by decide) (by simp [Value.cells,one1])) ?_
    rintro _ V2 ⟨kc',u2⟩
    have ka2:=(ka1).upd u2 (show a≠c by omega)
    have kb2:=(bv).upd u2 (show b≠c by omega)
    have k9v2:=(k9v1).upd u2 (show b9≠c by omega)
    have cv:Blk V2 c 59 #[.int .i64 f,.int .i64 t,.int .i64 q]:=kc'
    have yb2:Ext w6 V2:=u2.below yb1 (by omega)
    exact .nil (.inl rfl) (.goN rfl (.mk (a,b,c) rfl (lc3 rfl rfl rfl) ⟨yb2,ka2,kb2,cv,by show _≤a;omega,by show _≤b;omega,by show _≤c;omega,by show a≠b;omega,by show a≠c;omega,by show b≠c;omega⟩))
  ·refine .gv rfl k9 rfl (I1 G0) ?_
   rintro _ W0 ⟨b,rfl,d0,kb,hb,zb⟩
   have k91:=k9.ext d0
   refine .gv2 ?_ ?_
   ·refine .gv rfl k91 rfl (I1 G0) ?_
    rintro _ W1 ⟨a,rfl,d1,ka,ha,za⟩
    have k92:=k91.ext d1
    refine .gv rfl k92 rfl (I1 G0) ?_
    rintro _ W2 ⟨c,rfl,d2,kc,hc,zc⟩
    have k93:=k92.ext d2
    have y7:=((e7.trans d0).trans d1).trans d2
    have kb:Blk W2 b 59 #[.int .i64 0,.int .i64 0,.int .i64 0]:=((kb).ext d1).ext d2
    have ka:Blk W2 a 59 #[.int .i64 0,.int .i64 0,.int .i64 0]:=(ka).ext d2
    have kc:Blk W2 c 59 #[.int .i64 0,.int .i64 0,.int .i64 0]:=kc
    have z7:=e7.size
    have zk:=k9.lt
    refine .gv rfl k93 rfl (C3 (v:=.agg #[.int .i64 f,.int .i64 t,.int .i64 q]) E0 rfl rfl ka rfl (by decide) (by simp [Value.cells,one1])) ?_
    rintro _ V0 ⟨ka',u0⟩
    have kb0:=(kb).upd u0 (show b≠a by omega)
    have kc0:=(kc).upd u0 (show c≠a by omega)
    have k9v0:=(k93).upd u0 (show b9≠a by omega)
    have av:Blk V0 a 59 #[.int .i64 f,.int .i64 t,.int .i64 q]:=ka'
    have yb0:Ext w6 V0:=u0.below y7 (by omega)
    refine .gv rfl k9v0 rfl (C3 (v:=.agg #[.int .i64 f,.int .i64 t,.int .i64 q]) E0 rfl rfl kb0 rfl (by decide) (by simp [Value.cells,one1])) ?_
    rintro _ V1 ⟨kb',u1⟩
    have ka1:=(av).upd u1 (show a≠b by omega)
    have kc1:=(kc0).upd u1 (show c≠b by omega)
    have k9v1:=(k9v0).upd u1 (show b9≠b by omega)
    have bv:Blk V1 b 59 #[.int .i64 f,.int .i64 t,.int .i64 q]:=kb'
    have yb1:Ext w6 V1:=u1.below yb0 (by omega)
    refine .gv rfl k9v1 rfl (C3 (v:=.agg #[.int .i64 f,.int .i64 t,.int .i64 q]) E0 rfl rfl kc1 rfl (by decide) (by simp [Value.cells,one1])) ?_
    rintro _ V2 ⟨kc',u2⟩
    have ka2:=(ka1).upd u2 (show a≠c by omega)
    have kb2:=(bv).upd u2 (show b≠c by omega)
    have k9v2:=(k9v1).upd u2 (show b9≠c by omega)
    have cv:Blk V2 c 59 #[.int .i64 f,.int .i64 t,.int .i64 q]:=kc'
    have yb2:Ext w6 V2:=u2.below yb1 (by omega)
    exact .nil (.inl rfl) (.goN rfl (.mk (a,b,c) rfl (lc3 rfl rfl rfl) ⟨yb2,ka2,kb2,cv,by show _≤a;omega,by show _≤b;omega,by show _≤c;omega,by show a≠b;omega,by show a≠c;omega,by show b≠c;omega⟩))
   ·refine .gv rfl k91 rfl (I1 G0) ?_
    rintro _ W1 ⟨c,rfl,d1,kc,hc,zc⟩
    have k92:=k91.ext d1
    refine .gv rfl k92 rfl (I1 G0) ?_
    rintro _ W2 ⟨a,rfl,d2,ka,ha,za⟩
    have k93:=k92.ext d2
    have y7:=((e7.trans d0).trans d1).trans d2
    have kb:Blk W2 b 59 #[.int .i64 0,.int .i64 0,.int .i64 0]:=((kb).ext d1).ext d2
    have kc:Blk W2 c 59 #[.int .i64 0,.int .i64 0,.int .i64 0]:=(kc).ext d2
    have ka:Blk W2 a 59 #[.int .i64 0,.int .i64 0,.int .i64 0]:=ka
    have z7:=e7.size
    have zk:=k9.lt
    refine .gv rfl k93 rfl (C3 (v:=.agg #[.int .i64 f,.int .i64 t,.int .i64 q]) E0 rfl rfl ka rfl (by decide) (by simp [Value.cells,one1])) ?_
    rintro _ V0 ⟨ka',u0⟩
    have kb0:=(kb).upd u0 (show b≠a by omega)
    have kc0:=(kc).upd u0 (show c≠a by omega)
    have k9v0:=(k93).upd u0 (show b9≠a by omega)
    have av:Blk V0 a 59 #[.int .i64 f,.int .i64 t,.int .i64 q]:=ka'
    have yb0:Ext w6 V0:=u0.below y7 (by omega)
    refine .gv rfl k9v0 rfl (C3 (v:=.agg #[.int .i64 f,.int .i64 t,.int .i64 q]) E0 rfl rfl kb0 rfl (by decide) (by simp [Value.cells,one1])) ?_
    rintro _ V1 ⟨kb',u1⟩
    have ka1:=(av).upd u1 (show a≠b by omega)
    have kc1:=(kc0).upd u1 (show c≠b by omega)
    have k9v1:=(k9v0).upd u1 (show b9≠b by omega)
    have bv:Blk V1 b 59 #[.int .i64 f,.int .i64 t,.int .i64 q]:=kb'
    have yb1:Ext w6 V1:=u1.below yb0 (by omega)
    refine .gv rfl k9v1 rfl (C3 (v:=.agg #[.int .i64 f,.int .i64 t,.int .i64 q]) E0 rfl rfl kc1 rfl (by decide) (by simp [Value.cells,one1])) ?_
    rintro _ V2 ⟨kc',u2⟩
    have ka2:=(ka1).upd u2 (show a≠c by omega)
    have kb2:=(bv).upd u2 (show b≠c by omega)
    have k9v2:=(k9v1).upd u2 (show b9≠c by omega)
    have cv:Blk V2 c 59 #[.int .i64 f,.int .i64 t,.int .i64 q]:=kc'
    have yb2:Ext w6 V2:=u2.below yb1 (by omega)
    exact .nil (.inl rfl) (.goN rfl (.mk (a,b,c) rfl (lc3 rfl rfl rfl) ⟨yb2,ka2,kb2,cv,by show _≤a;omega,by show _≤b;omega,by show _≤c;omega,by show a≠b;omega,by show a≠c;omega,by show b≠c;omega⟩))
  ·refine .gv rfl k9 rfl (I1 G0) ?_
   rintro _ W0 ⟨c,rfl,d0,kc,hc,zc⟩
   have k91:=k9.ext d0
   refine .gv2 ?_ ?_
   ·refine .gv rfl k91 rfl (I1 G0) ?_
    rintro _ W1 ⟨a,rfl,d1,ka,ha,za⟩
    have k92:=k91.ext d1
    refine .gv rfl k92 rfl (I1 G0) ?_
    rintro _ W2 ⟨b,rfl,d2,kb,hb,zb⟩
    have k93:=k92.ext d2
    have y7:=((e7.trans d0).trans d1).trans d2
    have kc:Blk W2 c 59 #[.int .i64 0,.int .i64 0,.int .i64 0]:=((kc).ext d1).ext d2
    have ka:Blk W2 a 59 #[.int .i64 0,.int .i64 0,.int .i64 0]:=(ka).ext d2
    have kb:Blk W2 b 59 #[.int .i64 0,.int .i64 0,.int .i64 0]:=kb
    have z7:=e7.size
    have zk:=k9.lt
    refine .gv rfl k93 rfl (C3 (v:=.agg #[.int .i64 f,.int .i64 t,.int .i64 q]) E0 rfl rfl ka rfl (by decide) (by simp [Value.cells,one1])) ?_
    rintro _ V0 ⟨ka',u0⟩
    have kb0:=(kb).upd u0 (show b≠a by omega)
    have kc0:=(kc).upd u0 (show c≠a by omega)
    have k9v0:=(k93).upd u0 (show b9≠a by omega)
    have av:Blk V0 a 59 #[.int .i64 f,.int .i64 t,.int .i64 q]:=ka'
    have yb0:Ext w6 V0:=u0.below y7 (by omega)
    refine .gv rfl k9v0 rfl (C3 (v:=.agg #[.int .i64 f,.int .i64 t,.int .i64 q]) E0 rfl rfl kb0 rfl (by decide) (by simp [Value.cells,one1])) ?_
    rintro _ V1 ⟨kb',u1⟩
    have ka1:=(av).upd u1 (show a≠b by omega)
    have kc1:=(kc0).upd u1 (show c≠b by omega)
    have k9v1:=(k9v0).upd u1 (show b9≠b by omega)
    have bv:Blk V1 b 59 #[.int .i64 f,.int .i64 t,.int .i64 q]:=kb'
    have yb1:Ext w6 V1:=u1.below yb0 (by omega)
    refine .gv rfl k9v1 rfl (C3 (v:=.agg #[.int .i64 f,.int .i64 t,.int .i64 q]) E0 rfl rfl kc1 rfl (by decide) (by simp [Value.cells,one1])) ?_
    rintro _ V2 ⟨kc',u2⟩
    have ka2:=(ka1).upd u2 (show a≠c by omega)
    have kb2:=(bv).upd u2 (show b≠c by omega)
    have k9v2:=(k9v1).upd u2 (show b9≠c by omega)
    have cv:Blk V2 c 59 #[.int .i64 f,.int .i64 t,.int .i64 q]:=kc'
    have yb2:Ext w6 V2:=u2.below yb1 (by omega)
    exact .nil (.inl rfl) (.goN rfl (.mk (a,b,c) rfl (lc3 rfl rfl rfl) ⟨yb2,ka2,kb2,cv,by show _≤a;omega,by show _≤b;omega,by show _≤c;omega,by show a≠b;omega,by show a≠c;omega,by show b≠c;omega⟩))
   ·refine .gv rfl k91 rfl (I1 G0) ?_
    rintro _ W1 ⟨b,rfl,d1,kb,hb,zb⟩
    have k92:=k91.ext d1
    refine .gv rfl k92 rfl (I1 G0) ?_
    rintro _ W2 ⟨a,rfl,d2,ka,ha,za⟩
    have k93:=k92.ext d2
    have y7:=((e7.trans d0).trans d1).trans d2
    have kc:Blk W2 c 59 #[.int .i64 0,.int .i64 0,.int .i64 0]:=((kc).ext d1).ext d2
    have kb:Blk W2 b 59 #[.int .i64 0,.int .i64 0,.int .i64 0]:=(kb).ext d2
    have ka:Blk W2 a 59 #[.int .i64 0,.int .i64 0,.int .i64 0]:=ka
    have z7:=e7.size
    have zk:=k9.lt
    refine .gv rfl k93 rfl (C3 (v:=.agg #[.int .i64 f,.int .i64 t,.int .i64 q]) E0 rfl rfl ka rfl (by decide) (by simp [Value.cells,one1])) ?_
    rintro _ V0 ⟨ka',u0⟩
    have kb0:=(kb).upd u0 (show b≠a by omega)
    have kc0:=(kc).upd u0 (show c≠a by omega)
    have k9v0:=(k93).upd u0 (show b9≠a by omega)
    have av:Blk V0 a 59 #[.int .i64 f,.int .i64 t,.int .i64 q]:=ka'
    have yb0:Ext w6 V0:=u0.below y7 (by omega)
    refine .gv rfl k9v0 rfl (C3 (v:=.agg #[.int .i64 f,.int .i64 t,.int .i64 q]) E0 rfl rfl kb0 rfl (by decide) (by simp [Value.cells,one1])) ?_
    rintro _ V1 ⟨kb',u1⟩
    have ka1:=(av).upd u1 (show a≠b by omega)
    have kc1:=(kc0).upd u1 (show c≠b by omega)
    have k9v1:=(k9v0).upd u1 (show b9≠b by omega)
    have bv:Blk V1 b 59 #[.int .i64 f,.int .i64 t,.int .i64 q]:=kb'
    have yb1:Ext w6 V1:=u1.below yb0 (by omega)
    refine .gv rfl k9v1 rfl (C3 (v:=.agg #[.int .i64 f,.int .i64 t,.int .i64 q]) E0 rfl rfl kc1 rfl (by decide) (by simp [Value.cells,one1])) ?_
    rintro _ V2 ⟨kc',u2⟩
    have ka2:=(ka1).upd u2 (show a≠c by omega)
    have kb2:=(bv).upd u2 (show b≠c by omega)
    have k9v2:=(k9v1).upd u2 (show b9≠c by omega)
    have cv:Blk V2 c 59 #[.int .i64 f,.int .i64 t,.int .i64 q]:=kc'
    have yb2:Ext w6 V2:=u2.below yb1 (by omega)
    exact .nil (.inl rfl) (.goN rfl (.mk (a,b,c) rfl (lc3 rfl rfl rfl) ⟨yb2,ka2,kb2,cv,by show _≤a;omega,by show _≤b;omega,by show _≤c;omega,by show a≠b;omega,by show a≠c;omega,by show b≠c;omega⟩))
 rintro ⟨a,b,c⟩ w7 ⟨x67,ka,kb,kc,ha,hb2,hc,nab,nac,nbc⟩
 replace x67:Ext w6 w7:=x67
 replace ka:Blk w7 a 59 #[.int .i64 f,.int .i64 t,.int .i64 q]:=ka
 replace kb:Blk w7 b 59 #[.int .i64 f,.int .i64 t,.int .i64 q]:=kb
 replace kc:Blk w7 c 59 #[.int .i64 f,.int .i64 t,.int .i64 q]:=kc
 replace ha:w6.heap.size≤a:=ha
 replace hb2:w6.heap.size≤b:=hb2
 replace hc:w6.heap.size≤c:=hc
 replace nab:a≠b:=nab
 replace nac:a≠c:=nac
 replace nbc:b≠c:=nbc
 have z9:=k9.lt
 have z6:=k6.lt
 have x7:=x6.trans x67
 have k9:=k9.ext x67
 have k6:=k6.ext x67
 refine .go rfl (.cvt C4 AJ3 rfl rfl ?_)
 rw [wI (n:=part) (by omega)]
 refine .fa L9 rfl rfl (.ld I4 rfl rfl k9 rfl (.add rfl rfl rfl ?_))
 rw [wI (n:=q+1) (by omega)]
 have hqa0:0≤part.tmod (q+1):=Int.tmod_nonneg _ (by omega)
 have hqa1:part.tmod (q+1)<q+1:=Int.tmod_lt_of_pos _ (by omega)
 refine .rem rfl rfl rfl (by omega) (.fa L9 rfl rfl ?_)
 generalize part.tmod (q+1)=qa at hqa0 hqa1
 refine .store (v:=.int .i64 qa) I4 rfl rfl ka rfl (by simp) (by simp [Value.cells,one1]) fun w8 ka' u8=>?_
 have ka:Blk w8 a 59 #[.int .i64 f,.int .i64 t,.int .i64 qa]:=ka'
 have kb:=kb.upd u8 (Ne.symm nab)
 have kc:=kc.upd u8 (Ne.symm nac)
 have k9:=k9.upd u8 (show b9≠a by omega)
 have k6:=k6.upd u8 (show b6≠a by omega)
 have x68:Ext w6 w8:=u8.below x67 ha
 refine .go rfl (.fa L9 rfl rfl (.ld I4 rfl rfl k9 rfl (.fa L9 rfl rfl (.ld I4 rfl rfl ka rfl (.sub rfl rfl rfl ?_)))))
 rw [wI (n:=q-qa) (by omega)]
 refine .fa L9 rfl rfl (.store (v:=.int .i64 (q-qa)) I4 rfl rfl kb rfl (by simp) (by simp [Value.cells,one1]) fun w9 kb' u9=>?_)
 have kb:Blk w9 b 59 #[.int .i64 f,.int .i64 t,.int .i64 (q-qa)]:=kb'
 have ka:=ka.upd u9 nab
 have kc:=kc.upd u9 (Ne.symm nbc)
 have k9:=k9.upd u9 (show b9≠b by omega)
 have k6:=k6.upd u9 (show b6≠b by omega)
 have x69:Ext w6 w9:=u9.below x68 hb2
 refine .goC rfl ?_
 refine .heldT follows true (fun W=>Blk W b9 59 #[.int .i64 f,.int .i64 t,.int .i64 q]) [some (.pointer (some ⟨b9,1,none⟩)),some (.int .i64 t),some (.pointer (some ⟨b9,0,none⟩)),some (.int .i64 f),some (.pointer (some ⟨c,0,none⟩)),none,some (.pointer (some ⟨c,1,none⟩)),none] (.one 5 (.one 7 .done)) (by kernel_rfl) (by kernel_rfl)
  ⟨fun _ _=>v_fa AC1 rfl,fun _ h=>v_ld A5 rfl h rfl,fun _ _=>v_fa AC2 rfl,fun _ h=>v_ld A5 rfl h rfl,fun _ _=>v_fa AC2 rfl,fun _ _=>v_fa AC1 rfl,trivial⟩ ?_
 intro wA eA _
 have k9:=k9.ext eA
 refine .gv rfl k9 rfl (C3 (v:=.int .i64 t) A5 rfl rfl (kc.ext eA) rfl (by simp) (by simp [Value.cells,one1])) ?_
 rintro _ wB ⟨kc',uB⟩
 have kc:Blk wB c 59 #[.int .i64 t,.int .i64 t,.int .i64 q]:=kc'
 have k9:=k9.upd uB (show b9≠c by omega)
 refine .gv rfl k9 rfl (C3 (v:=.int .i64 f) A5 rfl rfl kc rfl (by simp) (by simp [Value.cells,one1])) ?_
 rintro _ wC ⟨kc',uC⟩
 have kc:Blk wC c 59 #[.int .i64 t,.int .i64 f,.int .i64 q]:=kc'
 have k9:=k9.upd uC (show b9≠c by omega)
 have k6:=((k6.ext eA).upd uB (show b6≠c by omega)).upd uC (show b6≠c by omega)
 have ka:=((ka.ext eA).upd uB nac).upd uC nac
 have kb:=((kb.ext eA).upd uB nbc).upd uC nbc
 have xC:Ext w wC:=x6.trans (uC.below (uB.below (x69.trans eA) hc) hc)
 refine .nil (.inl rfl) ?_
 refine .go rfl (.ldA E0 rfl rfl k9 rfl (.ldA E0 rfl rfl ka rfl (.ldA E0 rfl rfl kb rfl (.ldA E0 rfl rfl kc rfl (.bsl _ rfl rfl bsl_Rt4 fun wD b73 nD=>.go rfl ?_)))))
 have iq:inI q:=B7.2 (by omega)
 have rR:∀ {S:Nat→Prop} {W:World} {a b c:Int},inI a→inI b→inI c→eRt.R S W (.agg #[.int .i64 a,.int .i64 b,.int .i64 c]) ⟨a,b,c⟩:=fun h1 h2 h3=>⟨rfl,h1,h2,h3⟩
 have r4:eRts.R (fun _=>True) wD (.slice (some ⟨b73,0,none⟩) 4 4) [⟨f,t,q⟩,⟨f,t,qa⟩,⟨f,t,q-qa⟩,⟨t,f,q⟩]:=AF3 (E:=eRt) (hsz:=by decide) [.agg #[.int .i64 f,.int .i64 t,.int .i64 q],.agg #[.int .i64 f,.int .i64 t,.int .i64 qa],.agg #[.int .i64 f,.int .i64 t,.int .i64 (q-qa)],.agg #[.int .i64 t,.int .i64 f,.int .i64 q]] [⟨f,t,q⟩,⟨f,t,qa⟩,⟨f,t,q-qa⟩,⟨t,f,q⟩] nD upT rfl rfl (by decide)
  (Els.snoc (Els.snoc (Els.snoc (Els.snoc Els.nil (rR (B7.2 i1) (B7.2 i2) iq)) (rR (B7.2 i1) (B7.2 i2) (B7.2 (by omega)))) (rR (B7.2 i1) (B7.2 i2) (B7.2 (by omega)))) (rR (B7.2 i2) (B7.2 i1) iq))
 have xD:=xC.trans nD.1
 refine .call _ rfl AC6 rfl (Ab0 (L:=1048576) upT r4 (ER.ext eV hp xD) hk (by decide) (by decide) (by simp)) fun v11 w11 e11 h11=>?_
 obtain ⟨va,ve,rfl,hva,rfl⟩:=h11
 have x11:=xD.trans e11
 have e13:=nD.1.trans e11
 have k9:=k9.ext e13
 have k6:=k6.ext e13
 have kc:=kc.ext e13
 refine .go rfl ?_
 by_cases hE:paE [⟨f,t,q⟩,⟨f,t,qa⟩,⟨f,t,q-qa⟩,⟨t,f,q⟩] p.length=0
 rotate_left
 ·exact .neqT rfl rfl rfl hE (.goE rfl (.tt Tryz.results9 rfl x11))
 rw [if_pos hE] at hva
 have hq4:∀ r∈([⟨f,t,q⟩,⟨f,t,qa⟩,⟨f,t,q-qa⟩,⟨t,f,q⟩]:List RtV),r.q.natAbs≤1208925819614629174706176:=by
  intro r hr
  simp only [List.mem_cons,List.mem_nil_iff,or_false] at hr
  rcases hr with rfl | rfl | rfl | rfl
  ·show q.natAbs≤_;omega
  ·show qa.natAbs≤_;omega
  ·show (q-qa).natAbs≤_;omega
  ·show q.natAbs≤_;omega
 have hz:∀ i,Rsz (paV [⟨f,t,q⟩,⟨f,t,qa⟩,⟨f,t,q-qa⟩,⟨t,f,q⟩] (rv p) i) 2097156:=fun i=>paV_rsz hq4 hk (by decide) i
 have hP1:paV [⟨f,t,q⟩,⟨f,t,qa⟩,⟨f,t,q-qa⟩,⟨t,f,q⟩] (rv p) 0=paV [⟨f,t,q⟩,⟨f,t,qa⟩,⟨f,t,q-qa⟩,⟨t,f,q⟩] (rv p) 1+paV [⟨f,t,q⟩,⟨f,t,qa⟩,⟨f,t,q-qa⟩,⟨t,f,q⟩] (rv p) 2:=by
  show ((q:Int):Rat)*_=((qa:Int):Rat)*_+((q-qa:Int):Rat)*_
  rw [Rat.intCast_sub]
  generalize rv p t.toNat-rv p f.toNat=y
  grind
 have hP3:paV [⟨f,t,q⟩,⟨f,t,qa⟩,⟨f,t,q-qa⟩,⟨t,f,q⟩] (rv p) 3 = - paV [⟨f,t,q⟩,⟨f,t,qa⟩,⟨f,t,q-qa⟩,⟨t,f,q⟩] (rv p) 0:=by
  show ((q:Int):Rat)*(rv p f.toNat-rv p t.toNat) = -(((q:Int):Rat)*(rv p t.toNat-rv p f.toNat))
  grind
 replace hva:eV.R (fun _=>True) w11 va (tab 4 (paV [⟨f,t,q⟩,⟨f,t,qa⟩,⟨f,t,q-qa⟩,⟨t,f,q⟩] (rv p))):=hva
 generalize paV [⟨f,t,q⟩,⟨f,t,qa⟩,⟨f,t,q-qa⟩,⟨t,f,q⟩] (rv p)=P at hz hP1 hP3 hva
 have hg:∀ i,i<4→(tab 4 P)[i]?=some (qc (P i)):=fun i hi=>J5 hi
 have hsum:Rsz (P 1+P 2) 10000000:=((hz 1).add (hz 2)).mono (by decide)
 have hneg:Rsz (- P 0) 10000000:=(hz 0).neg.mono (by decide)
 have hz':∀ i,Rsz (P i) 10000000:=fun i=>(hz i).mono (by decide)
 refine .neqF rfl rfl rfl (by omega) (.goC rfl ?_)
 refine .par follows 25 [.inl _,.inl (.int .i64 4),.inl (.bool false),.inl (.bool false),.inl _,.inr (Ptr eQ (fun _=>True) (qc (P 0))),.inr (eQ.at (fun _=>True) (qc (P 0))),.inl _,.inr (Ptr eQ (fun _=>True) (qc (P 1))),.inr (eQ.at (fun _=>True) (qc (P 1))),.inl _,.inr (Ptr eQ (fun _=>True) (qc (P 2))),.inr (eQ.at (fun _=>True) (qc (P 2))),.inr (eQ.at (fun _=>True) (qc (P 1+P 2))),.inl (.bool true),.inl (.bool false),.inl (.bool false),.inl (.bool false),.inl _,.inr (Ptr eQ (fun _=>True) (qc (P 3))),.inr (eQ.at (fun _=>True) (qc (P 3))),.inl _,.inr (Ptr eQ (fun _=>True) (qc (P 0))),.inr (eQ.at (fun _=>True) (qc (P 0))),.inr (eQ.at (fun _=>True) (qc (- P 0)))] [[],[(80,0)],[(81,1)],[(82,2)],[(83,3)],[(84,4),(83,3)],[(85,5),(83,3)],[(83,3)],[(87,7),(83,3)],[(88,8),(83,3)],[(83,3)],[(90,10),(83,3)],[(91,11),(83,3)],[(89,9),(92,12),(83,3)],[(86,6),(93,13),(83,3)],[(94,14),(83,3)],[(83,3),(95,15)],[(96,16)],[(97,17)],[(98,18),(97,17)],[(99,19),(97,17)],[(97,17)],[(101,21),(97,17)],[(102,22),(97,17)],[(103,23),(97,17)]] (by kernel_rfl) ⟨
  fun w e=>(v_mv rfl).ob,
  fun w e=>(Ae7 un_V rfl (ER.ext eV hva e)).ob,
  fun w e=>((Au3 (m:=4) (n:=4) rfl rfl).eq rfl).ob,
  fun w e=>(v_mv rfl).ob,
  fun w e=>(v_mv rfl).ob,
  fun w e=>D8 (i:=0) un_V ty_Q rfl (ER.ext eV hva e) rfl (hg 0 (by decide)),
  fun w e x5 hx5=>K5 ty_Q rfl hx5,
  fun w e=>(v_mv rfl).ob,
  fun w e=>D8 (i:=1) un_V ty_Q rfl (ER.ext eV hva e) rfl (hg 1 (by decide)),
  fun w e x8 hx8=>K5 ty_Q rfl hx8,
  fun w e=>(v_mv rfl).ob,
  fun w e=>D8 (i:=2) un_V ty_Q rfl (ER.ext eV hva e) rfl (hg 2 (by decide)),
  fun w e x11 hx11=>K5 ty_Q rfl hx11,
  fun w e x9 hx9 x12 hx12=>(by have:=U6 (L:=10000000) upT hx9 hx12 (hz' 1).toOk (hz' 2).toOk (by decide) (by decide);rw [A8,A8] at this;exact (A1 _ Q3 rfl this).ob (A6 _ _ _)),
  fun w e x6 hx6 x13 hx13=>(A1 _ AO1 rfl (eqQW (L:=10000000) hx6 hx13 (hz' 0).toOk hsum.toOk (he:=by rw [A8,A8,hP1]))).obIs,
  fun w e=>((AW8 (b:=true) rfl).eq rfl).ob,
  fun w e=>(Ae6 rfl rfl).ob,
  fun w e=>(v_mv rfl).ob,
  fun w e=>(v_mv rfl).ob,
  fun w e=>D8 (i:=3) un_V ty_Q rfl (ER.ext eV hva e) rfl (hg 3 (by decide)),
  fun w e x19 hx19=>K5 ty_Q rfl hx19,
  fun w e=>(v_mv rfl).ob,
  fun w e=>D8 (i:=0) un_V ty_Q rfl (ER.ext eV hva e) rfl (hg 0 (by decide)),
  fun w e x22 hx22=>K5 ty_Q rfl hx22,
  fun w e x23 hx23=>(by have:=AK0 (L:=10000000) upT hx23 (S8 (hz' 0)) (by decide) (by decide);rw [A8] at this;exact (A1 _ AK7 rfl this).ob (A6 _ _ _)),trivial⟩ ?_
 intro w12 e12 y5 hy5 y6 hy6 y8 hy8 y9 hy9 y11 hy11 y12 hy12 y13 hy13 y19 hy19 y20 hy20 y22 hy22 y23 hy23 y24 hy24
 have x12:=x11.trans e12
 refine .go rfl (.call _ rfl AO1 rfl (eqQW (L:=10000000) hy20 hy24 (hz' 3).toOk hneg.toOk (he:=by rw [A8,A8,hP3])) fun v13 w13 e13' h13=>?_)
 subst h13
 have x13:=x12.trans e13'
 have k9:=(k9.ext e12).ext e13'
 have k6:=(k6.ext e12).ext e13'
 have kc:=(kc.ext e12).ext e13'
 refine .go rfl (.ldA ty_N rfl rfl k6 rfl (.go rfl ?_))
 refine .call _ rfl G8 rfl (G6 upT (hn.ext x13) (ho.ext x13) (ER.ext eRts hl x13)) fun v14 w14 e14 h14=>?_
 obtain ⟨vf,ve,rfl,hf,rfl⟩:=h14
 have x14:=x13.trans e14
 have k9:=k9.ext e14
 have k6:=k6.ext e14
 have kc:=kc.ext e14
 have hl14:=ER.ext eRts hl x14
 have hn14:=hn.ext x14
 have ho14:=ho.ext x14
 obtain ⟨al,cl,hvl,_⟩:=RL.len hl
 refine .goC rfl (.cut (α:=Value) 0 [18,19] rfl (fun y=>[(20,y),(21,.int .i64 (rfE n o (l++[⟨f,t,q⟩,⟨t,f,q⟩])))]) (fun y W=>Ext w14 W∧eV.R (fun _=>True) W y (if rfE n o (l++[⟨f,t,q⟩,⟨t,f,q⟩])=0 then tab n.ls.length (rfV n o (l++[⟨f,t,q⟩,⟨t,f,q⟩])) else [])) rfl ?_ ?_)
 rotate_left
 ·refine .heldT follows true (fun W=>Blk W b6 24 #[.int .i64 n.b,s]∧Blk W b9 59 #[.int .i64 f,.int .i64 t,.int .i64 q]∧Blk W c 59 #[.int .i64 t,.int .i64 f,.int .i64 q])
   [some (.agg #[.int .i64 n.b,s]),some vo,none,some vl,none,some (.agg #[.int .i64 f,.int .i64 t,.int .i64 q]),some (.agg #[.int .i64 t,.int .i64 f,.int .i64 q]),none,none,none,none,none,none,none,none]
   (.two 2 (.two 4 (.one 7 (.one 8 (.one 9 (.one 10 (.two 11 (.two 12 (.one 13 (.one 14 .done)) 13 (.one 12 (.one 14 .done))) 12 (.one 11 (.one 13 (.one 14 .done)))))))) 7 (.one 4 (.one 8 (.one 9 (.one 10 (.two 11 (.two 12 (.one 13 (.one 14 .done)) 13 (.one 12 (.one 14 .done))) 12 (.one 11 (.one 13 (.one 14 .done))))))))) 7 (.one 2 (.one 4 (.one 8 (.one 9 (.one 10 (.two 11 (.two 12 (.one 13 (.one 14 .done)) 13 (.one 12 (.one 14 .done))) 12 (.one 11 (.one 13 (.one 14 .done)))))))))) (by kernel_rfl) (by kernel_rfl) ⟨fun _ h=>B3 ty_N rfl h.1 rfl,fun _ _=>v_mv rfl,fun _ _=>v_mv rfl,fun _ h=>B3 E0 rfl h.2.1 rfl,fun _ h=>B3 E0 rfl h.2.2 rfl,trivial⟩ ?_
  intro X0 d0 _
  have hI:Blk X0 b6 24 #[.int .i64 n.b,s]∧Blk X0 b9 59 #[.int .i64 f,.int .i64 t,.int .i64 q]∧Blk X0 c 59 #[.int .i64 t,.int .i64 f,.int .i64 q]:=⟨k6.ext d0,k9.ext d0,kc.ext d0⟩
  have zX:=d0.size
  have z6':=hI.1.lt
  have z9':=hI.2.1.lt
  have zc':=hI.2.2.lt
  have hlX:eRts.R (fun _=>True) X0 vl l:=ER.ext eRts hl14 d0
  have ho2:=ho14.ext d0
  have hn2:=hn14.ext d0
  have hIe:∀ {W W':World},(Blk W b6 24 #[.int .i64 n.b,s]∧Blk W b9 59 #[.int .i64 f,.int .i64 t,.int .i64 q]∧Blk W c 59 #[.int .i64 t,.int .i64 f,.int .i64 q])→Ext W W'→(Blk W' b6 24 #[.int .i64 n.b,s]∧Blk W' b9 59 #[.int .i64 f,.int .i64 t,.int .i64 q]∧Blk W' c 59 #[.int .i64 t,.int .i64 f,.int .i64 q]):=fun h e=>⟨h.1.ext e,h.2.1.ext e,h.2.2.ext e⟩
  have hIb:∀ {W:World},Below X0.heap.size X0 W→(Blk W b6 24 #[.int .i64 n.b,s]∧Blk W b9 59 #[.int .i64 f,.int .i64 t,.int .i64 q]∧Blk W c 59 #[.int .i64 t,.int .i64 f,.int .i64 q]):=fun e=>hIe hI e
  have r2:∀ {w w':World} {b7:Nat},New w w' b7 59 #[.int .i64 f,.int .i64 t,.int .i64 q,.int .i64 t,.int .i64 f,.int .i64 q]→eRts.R (fun _=>True) w' (.slice (some ⟨b7,0,none⟩) 2 2) [⟨f,t,q⟩,⟨t,f,q⟩]:=fun n=>AF3 (E:=eRt) (hsz:=by decide) [.agg #[.int .i64 f,.int .i64 t,.int .i64 q],.agg #[.int .i64 t,.int .i64 f,.int .i64 q]] [⟨f,t,q⟩,⟨t,f,q⟩] n upT rfl rfl (by decide) (Els.snoc (Els.snoc Els.nil (rR (B7.2 i1) (B7.2 i2) iq)) (rR (B7.2 i2) (B7.2 i1) iq))
  have r7b:∀ {w w':World} {b7:Nat},New w w' b7 59 #[.int .i64 f,.int .i64 t,.int .i64 q,.int .i64 t,.int .i64 f,.int .i64 q]→eRts.R (fun k=>k=b7) w' (.slice (some ⟨b7,0,none⟩) 2 2) [⟨f,t,q⟩,⟨t,f,q⟩]:=fun n=>RL.ofBlk (E:=eRt) (es:=[.agg #[.int .i64 f,.int .i64 t,.int .i64 q],.agg #[.int .i64 t,.int .i64 f,.int .i64 q]]) n.2.1 rfl (Els.snoc (Els.snoc Els.nil (rR (B7.2 i1) (B7.2 i2) iq)) (rR (B7.2 i2) (B7.2 i1) iq)) (fun j u hu=>by simpa [cellsOf,Value.cells] using hu) (by simp) (by simp)
  have keepB:∀ {w w':World} {b7:Nat} {v:Value} {x:List RtV},eRts.R (fun k=>k=b7) w v x→w'.heap[b7]?=w.heap[b7]?→eRts.R (fun k=>k=b7) w' v x:=fun h e=>eRts.keep (fun k c t f hk hh=>by subst hk;exact e.trans hh) h
  refine .gv2 ?_ ?_
  ·refine .gv rfl hI rfl (AA6 _ rfl Ax0) ?_
   rintro _ W2 ⟨b2,rfl,n2⟩
   have o2:OwnL eRt 59 X0.heap.size (fun _=>False) W2 (.slice (some ⟨b2,0,none⟩) 0 0) []:=OwnL.made (E:=eRt) (c:=0) (z:=.agg #[.int .i64 0,.int .i64 0,.int .i64 0]) rfl n2 (Nat.le_refl _) (by decide)
   have y2:Ext X0 W2:=n2.1
   refine .gv2 ?_ ?_
   ·refine .gv rfl (hIb y2) rfl (AH1 (E:=eRt) (base:=X0.heap.size) AA7 H4 AG7 rfl rfl rfl o2 (ER.ext eRts hlX y2) (by show 0≤_;omega) (by omega) (by decide) (y2).size) ?_
    rintro v4 W4 ⟨h4,g4⟩
    have y4:Below X0.heap.size X0 W4:=OwnL.below o2 g4 y2 y2.size
    refine .gv rfl (hIb y4) rfl (AA6 _ rfl Ah4) ?_
    rintro _ W7 ⟨b7,rfl,n7⟩
    have y7:Below X0.heap.size X0 W7:=y4.trans (n7.1.mono y4.size)
    refine .gv rfl (hIb y7) rfl (AH1 (E:=eRt) (base:=X0.heap.size) AA7 H4 AG7 rfl rfl rfl (h4.ext n7.1) (r2 n7) (by simp;omega) (by simp) (by decide) (y7).size) ?_
    rintro v8 W8 ⟨h8,g8⟩
    have y8:Below X0.heap.size X0 W8:=OwnL.below (h4.ext n7.1) g8 y7 (y7).size
    have r8:eRts.R (fun _=>True) W8 v8 (l++[⟨f,t,q⟩,⟨t,f,q⟩]):=h8.toR (fun _ _=>trivial) (fun _ _=>trivial)
    refine .gv rfl (hIb y8) rfl (A1 _ G8 rfl (G6 upT (hn2.ext y8) (ho2.ext y8) r8)) ?_
    rintro _ W9 ⟨e9,vf2,ve2,rfl,hf2,rfl⟩
    have y9:Ext X0 W9:=y8.trans (e9.mono y8.size)
    refine .gv rfl (hIb y9) rfl (v_mv rfl).gv ?_
    rintro _ _ ⟨rfl,rfl⟩
    refine .gv2 ?_ ?_
    ·refine .gv rfl (hIb y9) rfl (v_ex rfl rfl).gv ?_
     rintro _ _ ⟨rfl,rfl⟩
     refine .gv2 ?_ ?_
     ·refine .gv rfl (hIb y9) rfl (v_ex rfl rfl).gv ?_
      rintro _ _ ⟨rfl,rfl⟩
      refine .gv rfl (hIb y9) rfl (v_as rfl).gv ?_
      rintro _ _ ⟨rfl,rfl⟩
      refine .gv rfl (hIb y9) rfl (v_as rfl).gv ?_
      rintro _ _ ⟨rfl,rfl⟩
      exact .nil (.inl rfl) (.goN rfl (.mk _ rfl (lc2 rfl rfl) ⟨d0.trans y9,hf2⟩))
     ·refine .gv rfl (hIb y9) rfl (v_as rfl).gv ?_
      rintro _ _ ⟨rfl,rfl⟩
      refine .gv rfl (hIb y9) rfl (v_ex rfl rfl).gv ?_
      rintro _ _ ⟨rfl,rfl⟩
      refine .gv rfl (hIb y9) rfl (v_as rfl).gv ?_
      rintro _ _ ⟨rfl,rfl⟩
      exact .nil (.inl rfl) (.goN rfl (.mk _ rfl (lc2 rfl rfl) ⟨d0.trans y9,hf2⟩))
    ·refine .gv rfl (hIb y9) rfl (v_ex rfl rfl).gv ?_
     rintro _ _ ⟨rfl,rfl⟩
     refine .gv rfl (hIb y9) rfl (v_ex rfl rfl).gv ?_
     rintro _ _ ⟨rfl,rfl⟩
     refine .gv rfl (hIb y9) rfl (v_as rfl).gv ?_
     rintro _ _ ⟨rfl,rfl⟩
     refine .gv rfl (hIb y9) rfl (v_as rfl).gv ?_
     rintro _ _ ⟨rfl,rfl⟩
     exact .nil (.inl rfl) (.goN rfl (.mk _ rfl (lc2 rfl rfl) ⟨d0.trans y9,hf2⟩))
   ·refine .gv rfl (hIb y2) rfl (AA6 _ rfl Ah4) ?_
    rintro _ W7 ⟨b7,rfl,n7⟩
    have y7:Ext X0 W7:=y2.trans n7.1
    have hb72:b7≠b2:=by have:=n7.2.2.1;have:=n2.2.2.2;omega
    refine .gv rfl (hIb y7) rfl (AH1 (E:=eRt) (base:=X0.heap.size) AA7 H4 AG7 rfl rfl rfl (o2.ext n7.1) (ER.ext eRts hlX y7) (by show 0≤_;omega) (by omega) (by decide) (y7).size) ?_
    rintro v4 W4 ⟨h4,g4⟩
    have y4:Below X0.heap.size X0 W4:=OwnL.below (o2.ext n7.1) g4 y7 y7.size
    have k74:eRts.R (fun k=>k=b7) W4 (.slice (some ⟨b7,0,none⟩) 2 2) [⟨f,t,q⟩,⟨t,f,q⟩]:=keepB (r7b n7) (g4.block b7 n7.2.1.lt (fun e=>hb72 (by simpa [Value.ownBlock] using e)))
    refine .gv rfl (hIb y4) rfl (AH1 (E:=eRt) (base:=X0.heap.size) AA7 H4 AG7 rfl rfl rfl h4 k74 (by simp;omega) (by simp) (by decide) (y4).size) ?_
    rintro v8 W8 ⟨h8,g8⟩
    have y8:Below X0.heap.size X0 W8:=OwnL.below h4 g8 y4 (y4).size
    have r8:eRts.R (fun _=>True) W8 v8 (l++[⟨f,t,q⟩,⟨t,f,q⟩]):=h8.toR (fun _ _=>trivial) (fun _ _=>trivial)
    refine .gv rfl (hIb y8) rfl (A1 _ G8 rfl (G6 upT (hn2.ext y8) (ho2.ext y8) r8)) ?_
    rintro _ W9 ⟨e9,vf2,ve2,rfl,hf2,rfl⟩
    have y9:Ext X0 W9:=y8.trans (e9.mono y8.size)
    refine .gv rfl (hIb y9) rfl (v_mv rfl).gv ?_
    rintro _ _ ⟨rfl,rfl⟩
    refine .gv2 ?_ ?_
    ·refine .gv rfl (hIb y9) rfl (v_ex rfl rfl).gv ?_
     rintro _ _ ⟨rfl,rfl⟩
     refine .gv2 ?_ ?_
     ·refine .gv rfl (hIb y9) rfl (v_ex rfl rfl).gv ?_
      rintro _ _ ⟨rfl,rfl⟩
      refine .gv rfl (hIb y9) rfl (v_as rfl).gv ?_
      rintro _ _ ⟨rfl,rfl⟩
      refine .gv rfl (hIb y9) rfl (v_as rfl).gv ?_
      rintro _ _ ⟨rfl,rfl⟩
      exact .nil (.inl rfl) (.goN rfl (.mk _ rfl (lc2 rfl rfl) ⟨d0.trans y9,hf2⟩))
     ·refine .gv rfl (hIb y9) rfl (v_as rfl).gv ?_
      rintro _ _ ⟨rfl,rfl⟩
      refine .gv rfl (hIb y9) rfl (v_ex rfl rfl).gv ?_
      rintro _ _ ⟨rfl,rfl⟩
      refine .gv rfl (hIb y9) rfl (v_as rfl).gv ?_
      rintro _ _ ⟨rfl,rfl⟩
      exact .nil (.inl rfl) (.goN rfl (.mk _ rfl (lc2 rfl rfl) ⟨d0.trans y9,hf2⟩))
    ·refine .gv rfl (hIb y9) rfl (v_ex rfl rfl).gv ?_
     rintro _ _ ⟨rfl,rfl⟩
     refine .gv rfl (hIb y9) rfl (v_ex rfl rfl).gv ?_
     rintro _ _ ⟨rfl,rfl⟩
     refine .gv rfl (hIb y9) rfl (v_as rfl).gv ?_
     rintro _ _ ⟨rfl,rfl⟩
     refine .gv rfl (hIb y9) rfl (v_as rfl).gv ?_
     rintro _ _ ⟨rfl,rfl⟩
     exact .nil (.inl rfl) (.goN rfl (.mk _ rfl (lc2 rfl rfl) ⟨d0.trans y9,hf2⟩))
  ·refine .gv rfl hI rfl (AA6 _ rfl Ah4) ?_
   rintro _ W7 ⟨b7,rfl,n7⟩
   have y7:Ext X0 W7:=n7.1
   refine .gv rfl (hIb y7) rfl (AA6 _ rfl Ax0) ?_
   rintro _ W2 ⟨b2,rfl,n2⟩
   have o2:OwnL eRt 59 X0.heap.size (fun _=>False) W2 (.slice (some ⟨b2,0,none⟩) 0 0) []:=OwnL.made (E:=eRt) (c:=0) (z:=.agg #[.int .i64 0,.int .i64 0,.int .i64 0]) rfl n2 y7.size (by decide)
   have y2:Ext X0 W2:=y7.trans n2.1
   have hb72:b7≠b2:=by have:=n2.2.2.1;have:=n7.2.2.2;omega
   refine .gv rfl (hIb y2) rfl (AH1 (E:=eRt) (base:=X0.heap.size) AA7 H4 AG7 rfl rfl rfl o2 (ER.ext eRts hlX y2) (by show 0≤_;omega) (by omega) (by decide) (y2).size) ?_
   rintro v4 W4 ⟨h4,g4⟩
   have y4:Below X0.heap.size X0 W4:=OwnL.below o2 g4 y2 y2.size
   have k74:eRts.R (fun k=>k=b7) W4 (.slice (some ⟨b7,0,none⟩) 2 2) [⟨f,t,q⟩,⟨t,f,q⟩]:=keepB (ER.ext eRts (r7b n7) n2.1) (g4.block b7 (n7.2.1.ext n2.1).lt (fun e=>hb72 (by simpa [Value.ownBlock] using e)))
   refine .gv rfl (hIb y4) rfl (AH1 (E:=eRt) (base:=X0.heap.size) AA7 H4 AG7 rfl rfl rfl h4 k74 (by simp;omega) (by simp) (by decide) (y4).size) ?_
   rintro v8 W8 ⟨h8,g8⟩
   have y8:Below X0.heap.size X0 W8:=OwnL.below h4 g8 y4 (y4).size
   have r8:eRts.R (fun _=>True) W8 v8 (l++[⟨f,t,q⟩,⟨t,f,q⟩]):=h8.toR (fun _ _=>trivial) (fun _ _=>trivial)
   refine .gv rfl (hIb y8) rfl (A1 _ G8 rfl (G6 upT (hn2.ext y8) (ho2.ext y8) r8)) ?_
   rintro _ W9 ⟨e9,vf2,ve2,rfl,hf2,rfl⟩
   have y9:Ext X0 W9:=y8.trans (e9.mono y8.size)
   refine .gv rfl (hIb y9) rfl (v_mv rfl).gv ?_
   rintro _ _ ⟨rfl,rfl⟩
   refine .gv2 ?_ ?_
   ·refine .gv rfl (hIb y9) rfl (v_ex rfl rfl).gv ?_
    rintro _ _ ⟨rfl,rfl⟩
    refine .gv2 ?_ ?_
    ·refine .gv rfl (hIb y9) rfl (v_ex rfl rfl).gv ?_
     rintro _ _ ⟨rfl,rfl⟩
     refine .gv rfl (hIb y9) rfl (v_as rfl).gv ?_
     rintro _ _ ⟨rfl,rfl⟩
     refine .gv rfl (hIb y9) rfl (v_as rfl).gv ?_
     rintro _ _ ⟨rfl,rfl⟩
     exact .nil (.inl rfl) (.goN rfl (.mk _ rfl (lc2 rfl rfl) ⟨d0.trans y9,hf2⟩))
    ·refine .gv rfl (hIb y9) rfl (v_as rfl).gv ?_
     rintro _ _ ⟨rfl,rfl⟩
     refine .gv rfl (hIb y9) rfl (v_ex rfl rfl).gv ?_
     rintro _ _ ⟨rfl,rfl⟩
     refine .gv rfl (hIb y9) rfl (v_as rfl).gv ?_
     rintro _ _ ⟨rfl,rfl⟩
     exact .nil (.inl rfl) (.goN rfl (.mk _ rfl (lc2 rfl rfl) ⟨d0.trans y9,hf2⟩))
   ·refine .gv rfl (hIb y9) rfl (v_ex rfl rfl).gv ?_
    rintro _ _ ⟨rfl,rfl⟩
    refine .gv rfl (hIb y9) rfl (v_ex rfl rfl).gv ?_
    rintro _ _ ⟨rfl,rfl⟩
    refine .gv rfl (hIb y9) rfl (v_as rfl).gv ?_
    rintro _ _ ⟨rfl,rfl⟩
    refine .gv rfl (hIb y9) rfl (v_as rfl).gv ?_
    rintro _ _ ⟨rfl,rfl⟩
    exact .nil (.inl rfl) (.goN rfl (.mk _ rfl (lc2 rfl rfl) ⟨d0.trans y9,hf2⟩))
 rintro vg w15 ⟨x15,hg15⟩
 replace x15:Ext w14 w15:=x15
 replace hg15:eV.R (fun _=>True) w15 vg (if rfE n o (l++[⟨f,t,q⟩,⟨t,f,q⟩])=0 then tab n.ls.length (rfV n o (l++[⟨f,t,q⟩,⟨t,f,q⟩])) else []):=hg15
 refine .go rfl ?_
 by_cases hF:rfE n o l=0
 rotate_left
 ·exact .neqT rfl rfl rfl hF (.goE rfl (.tt Tryz.results9 rfl (x14.trans x15)))
 refine .neqF rfl rfl rfl (by omega) (.go rfl ?_)
 by_cases hG:rfE n o (l++[⟨f,t,q⟩,⟨t,f,q⟩])=0
 rotate_left
 ·exact .neqT rfl rfl rfl hG (.goE rfl (.tt Tryz.results9 rfl (x14.trans x15)))
 refine .neqF rfl rfl rfl (by omega) (.go rfl ?_)
 rw [if_pos hG,BD8 hG hF] at hg15
 rw [if_pos hF] at hf
 obtain ⟨hO,hR,_⟩:=Af3 hF
 refine .call _ rfl AU5 rfl (AT8 (L:=1100000) upT (ER.ext eV hf x15) hg15 (Af2 (AM7 hO) hR _) (by decide) (by decide)) fun v16 w16 e16 h16=>?_
 subst h16
 exact .goE rfl (.tt Tryz.results9 rfl ((x14.trans x15).trans e16))
end Go.Proofs.YtfilidfomgfnhaaGreat

namespace Go.Kx
open Go Go.RowKit Go.ChangeShapes Go.WideShapes
section
variable {H:Type} {enc:TypeId×Value→H} {P:Program} {W:World}
def sh4 (P:Program) (t:TypeId):Option (List (TypeId×Nat)) :=
 match P.underlying t with
 | some (.struct fs)=>if fs.size=4 then some (fs.toList.map fun f=>(f.type,f.offset)) else none
 | _=>none
theorem BE7 {t ti tj:TypeId} (hs:sh4 P t=some [(ti,0),(ti,1),(tj,2),(tj,3)]) (hi:P.underlying ti=some (.int .i64)) (hj:P.underlying tj=some (.int .i64)) (hci:P.cellsOf ti=1) (hcj:P.cellsOf tj=1) (hct:P.cellsOf t=4):Opn enc P W eL t (fun _ _=>True):=by
 intro fuel cs x hx hfz
 unfold sh4 at hs
 split at hs
 ·rename_i fs hu
  split at hs
  ·rename_i hsz
   simp only [Option.some.injEq] at hs
   obtain ⟨l⟩:=fs
   match l,hsz with
   | [f0,f1,f2,f3],_ =>
    simp only [List.map_cons,List.map_nil,List.cons.injEq,Prod.mk.injEq,and_true] at hs
    obtain ⟨⟨h0,o0⟩,⟨h1,o1⟩,⟨h2,o2⟩,h3,o3⟩:=hs
    obtain ⟨y0,y1,y2,y3,n,rfl,hl,g0,g1,g2,g3⟩:=Joins.trod_struct4 hu hx
    rw [h0,o0,hci] at g0
    rw [h1,o1,hci] at g1
    rw [h2,o2,hcj] at g2
    rw [h3,o3,hcj] at g3
    rw [hct] at hl
    obtain ⟨c0,c1,c2,c3,rfl⟩:∃ c0 c1 c2 c3,cs=[c0,c1,c2,c3]:=by
     match cs,hl with
     | [c0,c1,c2,c3],_=>exact ⟨c0,c1,c2,c3,rfl⟩
    obtain ⟨n0,e0,_,w0⟩:=DataW.trod_int hi g0
    obtain ⟨n1,e1,_,w1⟩:=DataW.trod_int hi g1
    obtain ⟨n2,e2,_,w2⟩:=DataW.trod_int hj g2
    obtain ⟨n3,e3,_,w3⟩:=DataW.trod_int hj g3
    simp at e0 e1 e2 e3
    subst e0 e1 e2 e3
    exact ⟨.agg #[.int .i64 n0,.int .i64 n1,.int .i64 n2,.int .i64 n3],⟨n0,n1,n2,n3⟩,rfl,⟨rfl,AD2 w0,AD2 w1,AD2 w2,AD2 w3⟩,trivial⟩
  ·cases hs
 ·cases hs
theorem opn_N {t ti tl te:TypeId} (hs:sh2 P t=some ((ti,0),(tl,1))) (hi:P.underlying ti=some (.int .i64)) (hci:P.cellsOf ti=1) (hcl:P.cellsOf tl=1) (hct:P.cellsOf t=2) (hl:P.underlying tl=some (.slice te)) (hce:P.cellsOf te=4) (he:Opn enc P W eL te (fun _ _=>True)):Opn enc P W eN t (fun _ _=>True):=by
 intro fuel cs x hx hfz
 obtain ⟨y0,y1,n,rfl,hlen,h0,h1⟩:=AX1 hs hx
 rw [hci] at h0
 rw [hcl] at h1
 rw [hct] at hlen
 obtain ⟨c0,c1,rfl⟩:∃ c0 c1,cs=[c0,c1]:=by
  match cs,hlen with
  | [c0,c1],_=>exact ⟨c0,c1,rfl⟩
 obtain ⟨b,hb',_,hw⟩:=DataW.trod_int hi h0
 simp at hb'
 subst hb'
 obtain ⟨e,l,he',hR,_⟩:=(Opn.slice (Z:=fun _ _=>True) (E:=eL) (by decide) hl hce he) n _ _ h1 hfz.right
 obtain ⟨a,c,rfl,_⟩:=RL.len hR
 simp [Value.cells] at he'
 subst he'
 exact ⟨.agg #[.int .i64 b,.slice a l.length c],⟨b,l⟩,rfl,⟨_,rfl,hR,AD2 hw⟩,trivial⟩
end
end Go.Kx
namespace Go.Proofs.YtfilidfomgfnhaaGreat
open Go Go.Kx Go.RowKit
section
variable {H:Type} {enc:TypeId×Value→H} {W:World}
theorem opnN:Opn enc Tryz.prog W eN 24 (fun _ _=>True):=opn_N (ti:=3) (tl:=22) (te:=80) (by kernel_rfl) Y7 (by kernel_rfl) (by kernel_rfl) (by kernel_rfl) X4 (by kernel_rfl) (BE7 (ti:=3) (tj:=2) (by kernel_rfl) Y7 AJ3 (by kernel_rfl) (by kernel_rfl) (by kernel_rfl))
theorem opnH:Opn enc Tryz.prog W eI 25 (ZL fun _ _=>True):=Opn.slice (by decide) un_I (by kernel_rfl) (opn_int Y7)
end
end Go.Proofs.YtfilidfomgfnhaaGreat

namespace Go.Proofs.YtfilidfomgfnhaaGreat
open Go Go.Kx Go.ChangeShapes Go.WideShapes Go.ChangeAt Go.RowKit
theorem BH6 {H:Type} (d:DataW H):1≤Rows.uptoBulk d:=by
 cases d with
 | lit l=>cases l<;>simp [Rows.uptoBulk]
 | _=>simp [Rows.uptoBulk]
theorem BH8 {H:Type} (l:List (DataW H)):l.length≤Rows.uptoBulkAll l:=by
 induction l with
 | nil=>simp
 | cons x r ih =>
  have:=BH6 x
  simp only [Rows.uptoBulkAll,List.length_cons];omega
theorem BH7 {H:Type} {d:DataW H} {l:List (DataW H)} (h:d∈l):Rows.uptoBulk d≤Rows.uptoBulkAll l:=by
 induction l with
 | nil=>cases h
 | cons x r ih =>
  simp only [Rows.uptoBulkAll]
  rcases List.mem_cons.1 h with rfl | h
  ·omega
  ·have:=ih h;omega
section
variable {H:Type} {enc:TypeId×Value→H} {W:World}
theorem opn_Zb {P:Program} {t tb tw te:TypeId} (hs:sh2 P t=some ((tb,0),(tw,1))) (hb:P.underlying tb=some .bool) (hcb:P.cellsOf tb=1) (hcw:P.cellsOf tw=1) (hct:P.cellsOf t=2) (hw:P.underlying tw=some (.slice te)) (hce:P.cellsOf te=1) (he:P.underlying te=some (.int .u32)) :
  Opn enc P W eZ t (fun d z=>z.w.length≤Rows.uptoBulk d):=by
 intro fuel cs x hx hfz
 obtain ⟨y0,y1,n,rfl,hl,h0,h1⟩:=AX1 hs hx
 rw [hcb] at h0
 rw [hcw] at h1
 rw [hct] at hl
 obtain ⟨c0,c1,rfl⟩:∃ c0 c1,cs=[c0,c1]:=by
  match cs,hl with
  | [c0,c1],_=>exact ⟨c0,c1,rfl⟩
 obtain ⟨b,hb',_⟩:=DataW.trod_bool hb h0
 simp at hb'
 subst hb'
 obtain ⟨e,l,he',hR,hz⟩:=(Opn.slice (Z:=fun _ _=>True) (E:=eU32) (by decide) hw hce (opn_u32 he)) n _ _ h1 hfz.right
 obtain ⟨a,c,rfl,_⟩:=RL.len hR
 simp [Value.cells] at he'
 subst he'
 refine ⟨.agg #[.bool b,.slice a l.length c],⟨b,l⟩,rfl,⟨_,rfl,hR⟩,?_⟩
 show l.length≤Rows.uptoBulk (.agg [y0.1,y1.1])
 simp only [Rows.uptoBulk,Rows.uptoBulkAll]
 rcases hz with ⟨_,rfl⟩ | ⟨el,sp,he,hl',_⟩
 ·simp
 ·have:=BH8 el
  rw [he]
  simp only [Rows.uptoBulk]
  omega
theorem opn_Qb {P:Program} {t tz:TypeId} (hs:sh2 P t=some ((tz,0),(tz,2))) (hcz:P.cellsOf tz=2) (hct:P.cellsOf t=4) (hz:Opn enc P W eZ tz (fun d z=>z.w.length≤Rows.uptoBulk d)):Opn enc P W eQ t (fun d q=>qok (Rows.uptoBulk d) q):=by
 intro fuel cs x hx hfz
 obtain ⟨y0,y1,n,rfl,hl,h0,h1⟩:=AX1 hs hx
 rw [hcz] at h0 h1
 rw [hct] at hl
 obtain ⟨c0,c1,c2,c3,rfl⟩:∃ c0 c1 c2 c3,cs=[c0,c1,c2,c3]:=by
  match cs,hl with
  | [c0,c1,c2,c3],_=>exact ⟨c0,c1,c2,c3,rfl⟩
 obtain ⟨e,z,he,⟨s,rfl,hs⟩,hb⟩:=hz n _ _ h0 hfz.left
 obtain ⟨e',z',he',⟨s',rfl,hs'⟩,hb'⟩:=hz n _ _ h1 hfz.right
 simp [Value.cells] at he he'
 obtain ⟨rfl,rfl⟩:=he
 obtain ⟨rfl,rfl⟩:=he'
 refine ⟨_,⟨z,z'⟩,rfl,⟨s,s',rfl,hs,hs'⟩,?_⟩
 show z.w.length≤_∧z'.w.length≤_
 simp only [Rows.uptoBulk,Rows.uptoBulkAll]
 omega
theorem opnVb:Opn enc Tryz.prog W eV 32 (fun d l=>∀ q∈l,qok (Rows.uptoBulk d) q) :=
 (Opn.slice (by decide) un_V (by kernel_rfl) (opn_Qb (tz:=53) (by kernel_rfl) (by kernel_rfl) (by kernel_rfl) (opn_Zb (tb:=4) (tw:=51) (te:=60) (by kernel_rfl) AB7 (by kernel_rfl) (by kernel_rfl) (by kernel_rfl) un_W (by kernel_rfl) C4))).mono fun d l hz=>by
  intro q hq
  rcases hz with ⟨_,rfl⟩ | ⟨elems,spare,rfl,hl,hz⟩
  ·cases hq
  ·obtain ⟨i,hi⟩:=List.mem_iff_getElem?.1 hq
   have hlt:=Ar6 hi
   obtain ⟨d',hd'⟩:∃ d',elems[i]?=some d':=⟨_,List.getElem?_eq_getElem (by rw [hl];exact hlt)⟩
   have h1:=BH7 (List.mem_iff_getElem?.2 ⟨i,hd'⟩)
   have h2:=hz i d' q hd' hi
   simp only [Rows.uptoBulk]
   exact ⟨Nat.le_trans h2.1 (by omega),Nat.le_trans h2.2 (by omega)⟩
theorem BE9 {v:Value} {l:List QV} {b:Nat} {S:Nat→Prop} (h:eV.R S W v l) (hz:∀ q∈l,qok b q) (hb:b≤1048576):vk 1048576 l :=
 eV_vk h (fun q hq=>⟨Nat.le_trans (hz q hq).1 hb,Nat.le_trans (hz q hq).2 hb⟩) (by decide)
def sh3 (P:Program) (t:TypeId):Option (List (TypeId×Nat)) :=
 match P.underlying t with
 | some (.struct fs)=>if fs.size=3 then some (fs.toList.map fun f=>(f.type,f.offset)) else none
 | _=>none
theorem BE8 {P:Program} {t ti tj:TypeId} (hs:sh3 P t=some [(ti,0),(ti,1),(tj,2)]) (hi:P.underlying ti=some (.int .i64)) (hj:P.underlying tj=some (.int .i64)) (hci:P.cellsOf ti=1) (hcj:P.cellsOf tj=1) (hct:P.cellsOf t=3):Opn enc P W eRt t (fun _ _=>True):=by
 intro fuel cs x hx hfz
 unfold sh3 at hs
 split at hs
 ·rename_i fs hu
  split at hs
  ·rename_i hsz
   simp only [Option.some.injEq] at hs
   obtain ⟨l⟩:=fs
   match l,hsz with
   | [f0,f1,f2],_ =>
    simp only [List.map_cons,List.map_nil,List.cons.injEq,Prod.mk.injEq,and_true] at hs
    obtain ⟨⟨h0,o0⟩,⟨h1,o1⟩,h2,o2⟩:=hs
    obtain ⟨y0,y1,y2,n,rfl,hl,g0,g1,g2⟩:=Deep.trod_struct3 hu hx
    rw [h0,o0,hci] at g0
    rw [h1,o1,hci] at g1
    rw [h2,o2,hcj] at g2
    rw [hct] at hl
    obtain ⟨c0,c1,c2,rfl⟩:∃ c0 c1 c2,cs=[c0,c1,c2]:=by
     match cs,hl with
     | [c0,c1,c2],_=>exact ⟨c0,c1,c2,rfl⟩
    obtain ⟨n0,e0,_,w0⟩:=DataW.trod_int hi g0
    obtain ⟨n1,e1,_,w1⟩:=DataW.trod_int hi g1
    obtain ⟨n2,e2,_,w2⟩:=DataW.trod_int hj g2
    simp at e0 e1 e2
    subst e0 e1 e2
    exact ⟨.agg #[.int .i64 n0,.int .i64 n1,.int .i64 n2],⟨n0,n1,n2⟩,rfl,⟨rfl,AD2 w0,AD2 w1,AD2 w2⟩,trivial⟩
  ·cases hs
 ·cases hs
theorem opnRt:Opn enc Tryz.prog W eRt 59 (fun _ _=>True):=BE8 (ti:=3) (tj:=2) (by kernel_rfl) Y7 AJ3 (by kernel_rfl) (by kernel_rfl) (by kernel_rfl)
theorem opnR:Opn enc Tryz.prog W eRts 57 (fun _ _=>True):=(Opn.slice (by decide) H4 (by kernel_rfl) opnRt).mono fun _ _ _=>trivial
end
end Go.Proofs.YtfilidfomgfnhaaGreat
