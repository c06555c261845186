/-
  What the claim leans on.
-/
import Derived.Test.YtggegpiffjbngaaGreatG5
set_option linter.unusedVariables false
namespace Go.Proofs.YtggegpiffjbngaaGreat
open Go Go.Kx Go.RowKit
theorem Aa1:Ent Tryz.prog 201:=A0 Tryz.func201 (by kernel_rfl) rfl
theorem AY4 {S:Nat->Prop} {w:World} (up:Up S w):CR Tryz.prog 201 #[] w (eZ.at S (zc 1)):=by
 refine enter Tryz.func201 O Tryz.ntmps201 O ?_
 refine .sr (.alloc O C6 fun w1 b1 n1=>.nil ?_)
 obtain ⟨e1,k1,hb1,hs1⟩:=n1
 have hS:¬ Sx S w.heap.size w1.heap.size b1:=Sx.no (by omega) (by omega)
 have up1:Up (Sx S w.heap.size w1.heap.size) w1:=Sx.up up (Nat.le_refl _) e1.size
 refine .sr (.call _ O AA1 O (Z5 up1 (by decide) (by decide)) fun v2 w2 e2 h2=>?_)
 refine .storeA (E:=eZ) ty_Z O O (k1.ext e2) O O h2 hS fun w5 k5 u5 h5=>.nil (.ret ?_)
 exact .cell Tryz.results201 O ty_Z O O k5 h5 ⟨u5.below (e1.trans e2) (by omega),h5.out⟩
theorem J4:Ent Tryz.prog 144:=A0 Tryz.func144 (by kernel_rfl) rfl
theorem J0 {S:Nat->Prop} {w:World} {v:Value} {q:QV} {L:Nat} (up:Up S w) (h:eQ.R S w v q) (hl:qok L q) (hL:L<=1000000000):CR Tryz.prog 144 #[v] w (eZ.at S (zc (pd q))):=by
 obtain ⟨s,t,rfl,hn,hd⟩:=V6 h
 refine enter Tryz.func144 O Tryz.ntmps144 O ?_
 refine .sr (.box O O fun w1 b1 n1=>.alloc O C6 fun w2 b2 n2=>.nil ?_)
 obtain ⟨e1,k1,hb1,hs1⟩:=n1
 obtain ⟨e2,k2,hb2,hs2⟩:=n2
 have x2:=e1.trans e2
 have k1:=k1.ext e2
 have hS:¬ Sx S w.heap.size w2.heap.size b2:=Sx.no (by omega) (by omega)
 have up2:Up (Sx S w.heap.size w2.heap.size) w2:=Sx.up up (Nat.le_refl _) x2.size
 have hd2:=(ER.par eZ hd w2.heap.size).ext x2
 refine .seq (.sr (.fa O6 O O (.ldN [.bool q.den.neg,t] ty_Z O O k1 Ac9 ?_)))
 refine .call _ O J5 O (J1 up2 hd2 (Nat.le_trans hl.2 hL)) fun v3 w3 e3 h3=>?_
 subst h3
 have hp:zval q.den≠0->pd q=(val q.den.w:Nat):=by
  intro h0
  have:=K8 q.den
  unfold pd;rw [if_neg h0];split<;>omega
 by_cases h0:zval q.den=0
 ·refine .eqlT O O O (by rw [h0];rfl) (.nil (.condT O (.sr ?_)))
  refine .call _ O Aa1 O (AY4 (up2.ext e3.size)) fun v4 w4 e4 h4=>?_
  refine .storeA (E:=eZ) ty_Z O O ((k2.ext e3).ext e4) O O h4 hS fun w5 k5 u5 h5=>.nil (.ret ?_)
  exact .cell Tryz.results144 O ty_Z O O k5 h5 ⟨u5.below ((x2.trans e3).trans e4) (by omega),by rw [show pd q=1 by unfold pd;rw [if_pos h0]];exact h5.out⟩
 ·refine .eqlF O O O (fun h=>h0 (Int.sign_eq_zero_iff_zero.1 h)) (.nil (.condF O (.skip (.sr (.fa O6 O O (.ldN [.bool q.den.neg,t] ty_Z O O (k1.ext e3) Ac9 ?_))))))
  refine .call _ O BA6 O (Aw3 (up2.ext e3.size) (ER.ext eZ hd2 e3) (Nat.le_trans hl.2 hL)) fun v4 w4 e4 h4=>?_
  refine .storeA (E:=eZ) ty_Z O O ((k2.ext e3).ext e4) O O h4 hS fun w5 k5 u5 h5=>.nil (.ret ?_)
  exact .cell Tryz.results144 O ty_Z O O k5 h5 ⟨u5.below ((x2.trans e3).trans e4) (by omega),by rw [hp h0];exact h5.out⟩
theorem L1:Ent Tryz.prog 143:=A0 Tryz.func143 (by kernel_rfl) rfl
theorem K9 {S:Nat->Prop} {w:World} {v:Value} {q:QV} {L:Nat} (up:Up S w) (h:eQ.R S w v q) (hl:qok L q) (hL:L<=1000000000):CR Tryz.prog 143 #[v] w (eZ.at S (zc (pn q))):=by
 obtain ⟨s,t,rfl,hn,hd⟩:=V6 h
 refine enter Tryz.func143 O Tryz.ntmps143 O ?_
 refine .sr (.box O O fun w1 b1 n1=>.alloc O C6 fun w2 b2 n2=>.nil ?_)
 obtain ⟨e1,k1,hb1,hs1⟩:=n1
 obtain ⟨e2,k2,hb2,hs2⟩:=n2
 have x2:=e1.trans e2
 have k1:=k1.ext e2
 have hS:¬ Sx S w.heap.size w2.heap.size b2:=Sx.no (by omega) (by omega)
 have up2:Up (Sx S w.heap.size w2.heap.size) w2:=Sx.up up (Nat.le_refl _) x2.size
 have hd2:=(ER.par eZ hd w2.heap.size).ext x2
 have hn2:=(ER.par eZ hn w2.heap.size).ext x2
 refine .seq (.sr (.fa O6 O O (.ldN [.bool q.den.neg,t] ty_Z O O k1 Ac9 ?_)))
 refine .call _ O J5 O (J1 up2 hd2 (Nat.le_trans hl.2 hL)) fun v3 w3 e3 h3=>?_
 subst h3
 by_cases h0:zval q.den<0
 ·refine .lssT O O O (by rw [Int.sign_eq_neg_one_of_neg h0];decide) (.nil (.condT O (.sr (.fa O7 O O (.ldN [.bool q.num.neg,s] ty_Z O O (k1.ext e3) BB8 ?_)))))
  refine .call _ O Aa5 O (AY8 (up2.ext e3.size) (ER.ext eZ hn2 e3) (Nat.le_trans hl.1 hL)) fun v4 w4 e4 h4=>?_
  refine .storeA (E:=eZ) ty_Z O O ((k2.ext e3).ext e4) O O h4 hS fun w5 k5 u5 h5=>.nil (.ret ?_)
  exact .cell Tryz.results143 O ty_Z O O k5 h5 ⟨u5.below ((x2.trans e3).trans e4) (by omega),by rw [show pn q = -zval q.num by unfold pn;rw [if_pos h0]];exact h5.out⟩
 ·refine .lssF O O O (fun h=>h0 (Int.sign_neg_iff.1 h)) (.nil (.condF O (.skip (.sr (.fa O7 O O (.ldN [.bool q.num.neg,s] ty_Z O O (k1.ext e3) BB8 ?_))))))
  refine .call _ O AO2 O (AN8 (up2.ext e3.size) (ER.ext eZ hn2 e3) (Nat.le_trans hl.1 (by omega))) fun v4 w4 e4 h4=>?_
  refine .storeA (E:=eZ) ty_Z O O ((k2.ext e3).ext e4) O O h4 hS fun w5 k5 u5 h5=>.nil (.ret ?_)
  exact .cell Tryz.results143 O ty_Z O O k5 h5 ⟨u5.below ((x2.trans e3).trans e4) (by omega),by rw [show pn q=zval q.num by unfold pn;rw [if_neg h0]];exact h5.out⟩
theorem AA0:Ent Tryz.prog 145:=A0 Tryz.func145 (by kernel_rfl) rfl
theorem Z4 {S:Nat->Prop} {w:World} {va vb:Value} {a b:ZV} {L:Nat} (up:Up S w) (ha:eZ.R S w va a) (hb:eZ.R S w vb b) (hla:a.w.length<=L) (hlb:b.w.length<=L) (hL:L<=1000000000) (hb0:0<zval b):CR Tryz.prog 145 #[va,vb] w (eQ.at S (qc (Rat.divInt (zval a) (zval b)))):=by
 have hda:=AK9 ha
 have hdb:=AK9 hb
 have hqc:=AW0 (n:=zval a) hb0
 have hga:=K8 a
 have hgb:=K8 b
 have hBp:0<val b.w:=by omega
 have hla1:=T8 hda hla
 have hlb1:=T8 hdb hlb
 rw [hga] at hla1
 rw [hgb] at hlb1
 rw [hga,hgb] at hqc
 have hg1:Nat.gcd (val a.w) (val b.w)<=val b.w:=Nat.gcd_le_right _ hBp
 have hg0:0<Nat.gcd (val a.w) (val b.w):=Nat.gcd_pos_of_pos_right _ hBp
 generalize hgg:Nat.gcd (val a.w) (val b.w)=g at *
 obtain ⟨s,rfl,hs⟩:=ha
 obtain ⟨t,rfl,ht⟩:=hb
 have ha:eZ.R S w (.agg #[.bool a.neg,s]) a:=⟨s,rfl,hs⟩
 have hb:eZ.R S w (.agg #[.bool b.neg,t]) b:=⟨t,rfl,ht⟩
 refine enter Tryz.func145 O Tryz.ntmps145 O ?_
 refine .sr (.box O O fun w1 b2 n1=>.box O O fun w2 b3 n2=>.alloc O C2 fun w3 b4 n3=>.nil ?_)
 obtain ⟨e1,k2,hb2,hs1⟩:=n1
 obtain ⟨e2,k3,hb3,hs2⟩:=n2
 obtain ⟨e3,k4,hb4,hs3⟩:=n3
 have x3:=(e1.trans e2).trans e3
 have k2:=(k2.ext e2).ext e3
 have k3:=k3.ext e3
 have hS4:¬ Sx S w.heap.size w3.heap.size b4:=Sx.no (by omega) (by omega)
 have up3:Up (Sx S w.heap.size w3.heap.size) w3:=Sx.up up (Nat.le_refl _) x3.size
 have ha3:=(ER.par eZ ha w3.heap.size).ext x3
 have hb3':=(ER.par eZ hb w3.heap.size).ext x3
 have hout:∀ {W:World} {v:Value} {z:QV},eQ.R (Sx S w.heap.size w3.heap.size) W v z->eQ.R S W v z:=fun h=>h.out
 generalize hT:Sx S w.heap.size w3.heap.size=T at *
 refine .sr (.ldA ty_Z O O k2 O (.ldA ty_Z O O k3 O ?_))
 refine .call _ O BA3 O (Aw0 up3 ha3 hb3' (by omega) (by omega)) fun v4 w4 e4 h4=>?_
 rw [hgg] at h4
 obtain ⟨s4,rfl,hs4⟩:=h4
 have h4:eZ.R T w4 (.agg #[.bool (zc (g:Nat)).neg,s4]) (zc (g:Nat)):=⟨s4,rfl,hs4⟩
 refine .alloc O C6 fun w5 b5 n5=>?_
 obtain ⟨e5,k5,hb5,hs5⟩:=n5
 refine .storeA (E:=eZ) ty_Z O O k5 O O (ER.ext eZ (ER.lt eZ h4) e5) (fun h=>by have:=h.2;omega) fun w6 k5 u6 _=>.nil ?_
 have e46:Ext w4 w6:=u6.below e5 (by omega)
 have e36:=e4.trans e46
 have up6:=up3.ext e36.size
 have lg:(zc (g:Nat)).w.length<=1000000000:=Nat.le_trans (O5 (L:=L) (by rw [Int.natAbs_natCast];exact Nat.lt_of_le_of_lt hg1 hlb1)) hL
 have hgz:zval (zc ((g:Nat):Int))=(g:Int):=B0 _
 refine .sr (.ldA ty_Z O O (k2.ext e36) O (.ldA ty_Z O O k5 O ?_))
 refine .call _ O Aa6 O (AY9 up6 (ER.ext eZ ha3 e36) (ER.ext eZ h4 e46) (by omega) lg (by rw [hgz];omega)) fun v7 w7 e7 h7=>?_
 obtain ⟨vq,vr,_,rfl,hq,hr,rfl⟩:=h7
 rw [hgz] at hq hr
 obtain ⟨sq,rfl,hsq⟩:=hq
 have hq:eZ.R T w7 (.agg #[.bool (zc (zval a / (g:Nat))).neg,sq]) (zc (zval a / (g:Nat))):=⟨sq,rfl,hsq⟩
 refine .mv O O (.ext O O O (.ext O O O (.ext O O O (.alloc O C6 fun w8 b6 n8=>.alloc O C6 fun w9 b7 n9=>?_))))
 obtain ⟨e8,k6,hb6,hs8⟩:=n8
 obtain ⟨e9,k7,hb7,hs9⟩:=n9
 have e79:=e8.trans e9
 refine .storeA (E:=eZ) ty_Z O O (k6.ext e9) O O (ER.ext eZ (ER.lt eZ hq) e79) (fun h=>by have:=h.2;omega) fun w10 k6 u10 _=>?_
 have e710:Ext w7 w10:=u10.below e79 (by omega)
 refine .storeA (E:=eZ) ty_Z O O (k7.upd u10 (by omega)) O O (ER.ext eZ (ER.lt eZ hr) e710) (fun h=>by have:=h.2;omega) fun w11 k7 u11 _=>.an O O ?_
 have e711:Ext w7 w11:=u11.below e710 (by omega)
 have k6:=k6.upd u11 (by omega)
 have e611:=e7.trans e711
 have up11:=up6.ext e611.size
 have k5:=k5.ext e611
 have e311:=e36.trans e611
 refine .sr (.ldA ty_Z O O (k3.ext e311) O (.ldA ty_Z O O k5 O ?_))
 refine .call _ O Aa6 O (AY9 up11 (ER.ext eZ hb3' e311) (ER.ext eZ (ER.ext eZ h4 e46) e611) (by omega) lg (by rw [hgz];omega)) fun v12 w12 e12 h12=>?_
 obtain ⟨vd,ve,_,rfl,hd,he,rfl⟩:=h12
 rw [hgz] at hd he
 obtain ⟨sd,rfl,hsd⟩:=hd
 have hd:eZ.R T w12 (.agg #[.bool (zc (zval b / (g:Nat))).neg,sd]) (zc (zval b / (g:Nat))):=⟨sd,rfl,hsd⟩
 refine .mv O O (.ext O O O (.ext O O O (.ext O O O (.alloc O C6 fun w13 b9 n13=>.alloc O C6 fun w14 b10 n14=>?_))))
 obtain ⟨e13,k9,hb9,hs13⟩:=n13
 obtain ⟨e14,k10,hb10,hs14⟩:=n14
 have e1214:=e13.trans e14
 refine .storeA (E:=eZ) ty_Z O O (k9.ext e14) O O (ER.ext eZ (ER.lt eZ hd) e1214) (fun h=>by have:=h.2;omega) fun w15 k9 u15 _=>?_
 have e1215:Ext w12 w15:=u15.below e1214 (by omega)
 refine .storeA (E:=eZ) ty_Z O O (k10.upd u15 (by omega)) O O (ER.ext eZ (ER.lt eZ he) e1215) (fun h=>by have:=h.2;omega) fun w16 k10 u16 _=>.an O O ?_
 have e1216:Ext w12 w16:=u16.below e1215 (by omega)
 have k9:=k9.upd u16 (by omega)
 have e1116:=e12.trans e1216
 have k6:=k6.ext e1116
 have up16:=up11.ext e1116.size
 have hd:=ER.ext eZ hd e1216
 have hq:=ER.ext eZ hq (e711.trans e1116)
 have hdl:(zc (zval b / (g:Nat))).w.length<=1000000000:=Nat.le_trans (O5 (L:=L) (Nat.lt_of_le_of_lt (Int.natAbs_ediv_le_natAbs _ _) (by rw [hgb];exact hlb1))) hL
 have e316:=e311.trans e1116
 have k4:=k4.ext e316
 refine .seq (.seq ?_)
 refine .par follows 4 [.inl (.agg #[.bool (zc (zval b / (g:Nat))).neg,sd]),.inr (eZ.at T (zc 1)),.inl (.int .i64 (cmpI (zval (zc (zval b / (g:Nat)))) (zval (zc 1)))),.inl (.bool (cmpI (zval (zc (zval b / (g:Nat)))) (zval (zc 1)) == 0))] [[],[],[(29,0),(30,1)],[(31,2)]] (by kernel_rfl) ⟨
  fun w e=>(B8 ty_Z O (k9.ext e) O).ob,fun w e=>(A2 _ Aa1 O (AY4 (up16.ext e.size))).ob (A5 _ _ _),
  fun w e x hx=>A2 _ BA4 O (Aw1 (up16.ext e.size) (ER.ext eZ hd e) hx hdl (Nat.le_trans (O5 (L:=1) (by decide)) (by omega))),fun w e=>(BP3 O O).ob,trivial⟩ ?_
 intro w17 e17 x1 hx1
 rw [B0,B0]
 have k4:=k4.ext e17
 have k6:=k6.ext e17
 have k9:=k9.ext e17
 obtain ⟨sq',he1,hsq'⟩:=ER.ext eZ hq e17
 obtain ⟨sd',he2,hsd'⟩:=ER.ext eZ hd e17
 injection he1 with he1
 injection he2 with he2
 simp at he1 he2
 subst he1
 subst he2
 have hxx:=x3.trans (e316.trans e17)
 by_cases h1:zval b / (g:Nat)=1
 ·rw [show (cmpI (zval b / (g:Nat)) 1 == 0)=true by rw [h1];decide]
  rw [if_pos h1] at hqc
  have hfin:eQ.R T w17 (.agg #[.bool (zc (zval a / (g:Nat))).neg,sq,.bool false,.slice none 0 0]) (qc (Rat.divInt (zval a) (zval b))):=by
   rw [hqc];exact ⟨sq,.slice none 0 0,rfl,hsq',RL.nil⟩
  refine .nil (.condT O (.sr (.ldA ty_Z O O k6 O (.bld [(0,.agg #[.bool (zc (zval a / (g:Nat))).neg,sq])] O O As3 ?_))))
  refine .storeA (E:=eQ) ty_Q O O k4 O O hfin hS4 fun w18 k18 u18 h18=>.nil (.ret ?_)
  exact .cell Tryz.results145 O ty_Q O O k18 h18 ⟨u18.below hxx (by omega),hout h18⟩
 ·rw [show (cmpI (zval b / (g:Nat)) 1 == 0)=false by unfold cmpI;split<;>(try split)<;>first | rfl | omega]
  rw [if_neg h1] at hqc
  have hfin:eQ.R T w17 (.agg #[.bool (zc (zval a / (g:Nat))).neg,sq,.bool (zc (zval b / (g:Nat))).neg,sd]) (qc (Rat.divInt (zval a) (zval b))):=by
   rw [hqc];exact ⟨sq,sd,rfl,hsq',hsd'⟩
  refine .nil (.condF O (.skip (.sr (.ldA ty_Z O O k6 O (.ldA ty_Z O O k9 O (.bld [(0,.agg #[.bool (zc (zval a / (g:Nat))).neg,sq]),(1,.agg #[.bool (zc (zval b / (g:Nat))).neg,sd])] O O AQ9 ?_))))))
  refine .storeA (E:=eQ) ty_Q O O k4 O O hfin hS4 fun w18 k18 u18 h18=>.nil (.ret ?_)
  exact .cell Tryz.results145 O ty_Q O O k18 h18 ⟨u18.below hxx (by omega),hout h18⟩
end Go.Proofs.YtggegpiffjbngaaGreat
namespace Go.Kx
theorem AK2 {L m n:Nat} {x y:Int} (h1:x.natAbs<L ^ m) (h2:y.natAbs<L ^ n):(x*y).natAbs<L ^ (m+n):=by
 rw [Int.natAbs_mul,Nat.pow_add];exact Nat.mul_lt_mul'' h1 h2
theorem BR5 {m:Nat} {x y:Int} (h1:x.natAbs<4294967296 ^ m) (h2:y.natAbs<4294967296 ^ m):(x+y).natAbs<4294967296 ^ (m+1):=by
 have:=Int.natAbs_add_le x y
 rw [Nat.pow_succ];omega
end Go.Kx
namespace Go.Proofs.YtggegpiffjbngaaGreat
open Go Go.Kx Go.RowKit
theorem zl {n:Int} {L K:Nat} (h:n.natAbs<4294967296 ^ L) (hL:L<=K):(zc n).w.length<=K:=Nat.le_trans (O5 h) hL
theorem AC3 {S:Nat->Prop} {w:World} {v:Value} {q:QV} (h:eQ.R S w v q):dig q.num.w/\dig q.den.w:=by
 obtain ⟨s,t,_,h1,h2⟩:=h
 exact ⟨F1 h1,F1 h2⟩
theorem U4:Ent Tryz.prog 149:=A0 Tryz.func149 (by kernel_rfl) rfl
theorem U1 {S:Nat->Prop} {w:World} {v:Value} {q:QV} {L:Nat} (up:Up S w) (h:eQ.R S w v q) (hl:qok L q) (h1:1<=L) (hL:L<=1000000000):CR Tryz.prog 149 #[v] w (eQ.at S (qc (qval q))):=by
 obtain ⟨hd1,hd2⟩:=AC3 h
 have hln:=AT1 hd1 hl
 have hld:=AZ0 hd2 hl h1
 have hpp:=L3 q
 obtain ⟨s,t,rfl,hs,ht⟩:=h
 have h:eQ.R S w (.agg #[.bool q.num.neg,s,.bool q.den.neg,t]) q:=⟨s,t,rfl,hs,ht⟩
 refine enter Tryz.func149 O Tryz.ntmps149 O ?_
 refine .sr (.box O O fun w1 b1 n1=>.alloc O C2 fun w2 b2 n2=>.nil ?_)
 obtain ⟨e1,k1,hb1,hs1⟩:=n1
 obtain ⟨e2,k2,hb2,hs2⟩:=n2
 have x2:=e1.trans e2
 have k1:=k1.ext e2
 have hS:¬ Sx S w.heap.size w2.heap.size b2:=Sx.no (by omega) (by omega)
 have up2:Up (Sx S w.heap.size w2.heap.size) w2:=Sx.up up (Nat.le_refl _) x2.size
 have h2:=(ER.par eQ h w2.heap.size).ext x2
 have hout:∀ {W:World} {v:Value} {z:QV},eQ.R (Sx S w.heap.size w2.heap.size) W v z->eQ.R S W v z:=fun h=>h.out
 generalize hT:Sx S w.heap.size w2.heap.size=T at *
 refine .seq ?_
 refine .par follows 5 [.inl _,.inr (eZ.at T (zc (pn q))),.inl _,.inr (eZ.at T (zc (pd q))),.inr (eQ.at T (qc (Rat.divInt (zval (zc (pn q))) (zval (zc (pd q))))))] [[],[(3,0)],[],[(5,2)],[(4,1),(6,3)]] (by kernel_rfl) ⟨
  fun w e=>(B8 ty_Q O (k1.ext e) O).ob,fun w e=>(A2 _ L1 O (K9 (up2.ext e.size) (ER.ext eQ h2 e) hl hL)).ob (A5 _ _ _),
  fun w e=>(B8 ty_Q O (k1.ext e) O).ob,fun w e=>(A2 _ J4 O (J0 (up2.ext e.size) (ER.ext eQ h2 e) hl hL)).ob (A5 _ _ _),
  fun w e x hx y hy=>(A2 _ AA0 O (Z4 (up2.ext e.size) hx hy (zl hln (Nat.le_refl _)) (zl hld (Nat.le_refl _)) hL (by rw [B0];exact hpp))).ob (A5 _ _ _),trivial⟩ ?_
 intro w3 e3 x hx y hy z hz
 rw [B0,B0] at hz
 refine .storeA (E:=eQ) ty_Q O O (k2.ext e3) O O hz hS fun w4 k4 u4 h4=>.nil (.ret ?_)
 exact .cell Tryz.results149 O ty_Q O O k4 h4 ⟨u4.below (x2.trans e3) (by omega),hout h4⟩
theorem AL2:Ent Tryz.prog 160:=A0 Tryz.func160 (by kernel_rfl) rfl
theorem AJ8 {S:Nat->Prop} {w:World} {v:Value} {q:QV} {L:Nat} (up:Up S w) (h:eQ.R S w v q) (hl:qok L q) (h1:1<=L) (hL:L<=1000000000):CR Tryz.prog 160 #[v] w (eQ.at S (qc (-qval q))):=by
 obtain ⟨hd1,hd2⟩:=AC3 h
 have hln:=AT1 hd1 hl
 have hld:=AZ0 hd2 hl h1
 have hpp:=L3 q
 obtain ⟨s,t,rfl,hs,ht⟩:=h
 have h:eQ.R S w (.agg #[.bool q.num.neg,s,.bool q.den.neg,t]) q:=⟨s,t,rfl,hs,ht⟩
 refine enter Tryz.func160 O Tryz.ntmps160 O ?_
 refine .sr (.box O O fun w1 b1 n1=>.alloc O C2 fun w2 b2 n2=>.nil ?_)
 obtain ⟨e1,k1,hb1,hs1⟩:=n1
 obtain ⟨e2,k2,hb2,hs2⟩:=n2
 have x2:=e1.trans e2
 have k1:=k1.ext e2
 have hS:¬ Sx S w.heap.size w2.heap.size b2:=Sx.no (by omega) (by omega)
 have up2:Up (Sx S w.heap.size w2.heap.size) w2:=Sx.up up (Nat.le_refl _) x2.size
 have h2:=(ER.par eQ h w2.heap.size).ext x2
 have hout:∀ {W:World} {v:Value} {z:QV},eQ.R (Sx S w.heap.size w2.heap.size) W v z->eQ.R S W v z:=fun h=>h.out
 generalize hT:Sx S w.heap.size w2.heap.size=T at *
 refine .seq ?_
 refine .par follows 6 [.inl _,.inr (eZ.at T (zc (pn q))),.inr (eZ.at T (zc (-zval (zc (pn q))))),.inl _,.inr (eZ.at T (zc (pd q))),.inr (eQ.at T (qc (Rat.divInt (zval (zc (-zval (zc (pn q))))) (zval (zc (pd q))))))] [[],[(3,0)],[(4,1)],[],[(6,3)],[(5,2),(7,4)]] (by kernel_rfl) ⟨
  fun w e=>(B8 ty_Q O (k1.ext e) O).ob,fun w e=>(A2 _ L1 O (K9 (up2.ext e.size) (ER.ext eQ h2 e) hl hL)).ob (A5 _ _ _),
  fun w e x hx=>(A2 _ Aa5 O (AY8 (up2.ext e.size) hx (zl hln hL))).ob (A5 _ _ _),
  fun w e=>(B8 ty_Q O (k1.ext e) O).ob,fun w e=>(A2 _ J4 O (J0 (up2.ext e.size) (ER.ext eQ h2 e) hl hL)).ob (A5 _ _ _),
  fun w e x hx y hy=>(A2 _ AA0 O (Z4 (up2.ext e.size) hx hy (zl (by rw [B0,Int.natAbs_neg];exact hln) (Nat.le_refl _)) (zl hld (Nat.le_refl _)) hL (by rw [B0];exact hpp))).ob (A5 _ _ _),trivial⟩ ?_
 intro w3 e3 x hx y hy z hz u hu
 rw [B0,B0,B0,<-Rat.neg_divInt] at hu
 refine .storeA (E:=eQ) ty_Q O O (k2.ext e3) O O hu hS fun w4 k4 u4 h4=>.nil (.ret ?_)
 exact .cell Tryz.results160 O ty_Q O O k4 h4 ⟨u4.below (x2.trans e3) (by omega),hout h4⟩
theorem AH7:Ent Tryz.prog 88:=A0 Tryz.func88 (by kernel_rfl) rfl
theorem AG5 {S:Nat->Prop} {w:World} {v:Value} {q:QV} {L:Nat} (up:Up S w) (h:eQ.R S w v q) (hl:qok L q) (hL:L<=1000000000):CR Tryz.prog 88 #[v] w (Is (.int .i64 (pn q).sign)):=by
 obtain ⟨hd1,hd2⟩:=AC3 h
 have hln:=AT1 hd1 hl
 obtain ⟨s,t,rfl,hs,ht⟩:=h
 have h:eQ.R S w (.agg #[.bool q.num.neg,s,.bool q.den.neg,t]) q:=⟨s,t,rfl,hs,ht⟩
 refine enter Tryz.func88 O Tryz.ntmps88 O ?_
 refine .sr (.box O O fun w1 b1 n1=>.an O O ?_)
 obtain ⟨e1,k1,hb1,hs1⟩:=n1
 refine .sr (.ldA ty_Q O O k1 O ?_)
 refine .call _ O L1 O (K9 (up.ext e1.size) (ER.ext eQ h e1) hl hL) fun v2 w2 e2 h2=>?_
 refine .call _ O J5 O (J1 ((up.ext e1.size).ext e2.size) h2 (zl hln hL)) fun v3 w3 e3 h3=>?_
 subst h3
 refine .an O O (.ret ?_)
 exact .plain [_] Tryz.results88 ⟨rfl,trivial⟩ ⟨(e1.trans e2).trans e3,isI (by rw [B0])⟩
theorem AC7:Ent Tryz.prog 82:=A0 Tryz.func82 (by kernel_rfl) rfl
theorem AB7 {S:Nat->Prop} {w:World} {va vb:Value} {a b:QV} {L:Nat} (up:Up S w) (ha:eQ.R S w va a) (hb:eQ.R S w vb b) (hla:qok L a) (hlb:qok L b) (h1:1<=L) (hL:L<=400000000):CR Tryz.prog 82 #[va,vb] w (eQ.at S (qc (qval a*qval b))):=by
 obtain ⟨da1,da2⟩:=AC3 ha
 obtain ⟨db1,db2⟩:=AC3 hb
 have lna:=AT1 da1 hla
 have lda:=AZ0 da2 hla h1
 have lnb:=AT1 db1 hlb
 have ldb:=AZ0 db2 hlb h1
 have ppa:=L3 a
 have ppb:=L3 b
 have hpp:=Int.mul_pos ppa ppb
 have hL9:L<=1000000000:=by omega
 obtain ⟨s,t,rfl,hs,ht⟩:=ha
 have ha:eQ.R S w (.agg #[.bool a.num.neg,s,.bool a.den.neg,t]) a:=⟨s,t,rfl,hs,ht⟩
 obtain ⟨s',t',rfl,hs',ht'⟩:=hb
 have hb:eQ.R S w (.agg #[.bool b.num.neg,s',.bool b.den.neg,t']) b:=⟨s',t',rfl,hs',ht'⟩
 refine enter Tryz.func82 O Tryz.ntmps82 O ?_
 refine .sr (.box O O fun w1 b2 n1=>.box O O fun w2 b3 n2=>.alloc O C2 fun w3 b4 n3=>.nil ?_)
 obtain ⟨e1,k2,hb2,hs1⟩:=n1
 obtain ⟨e2,k3,hb3,hs2⟩:=n2
 obtain ⟨e3,k4,hb4,hs3⟩:=n3
 have x3:=(e1.trans e2).trans e3
 have k2:=(k2.ext e2).ext e3
 have k3:=k3.ext e3
 have hS4:¬ Sx S w.heap.size w3.heap.size b4:=Sx.no (by omega) (by omega)
 have up3:Up (Sx S w.heap.size w3.heap.size) w3:=Sx.up up (Nat.le_refl _) x3.size
 have ha3:=(ER.par eQ ha w3.heap.size).ext x3
 have hb3':=(ER.par eQ hb w3.heap.size).ext x3
 have hout:∀ {W:World} {v:Value} {z:QV},eQ.R (Sx S w.heap.size w3.heap.size) W v z->eQ.R S W v z:=fun h=>h.out
 generalize hT:Sx S w.heap.size w3.heap.size=T at *
 refine .seq ?_
 refine .par follows 11 [.inl _,.inr (eZ.at T (zc (pn a))),.inl _,.inr (eZ.at T (zc (pn b))),.inr (eZ.at T (zc (zval (zc (pn a))*zval (zc (pn b))))),.inl _,.inr (eZ.at T (zc (pd a))),.inl _,.inr (eZ.at T (zc (pd b))),.inr (eZ.at T (zc (zval (zc (pd a))*zval (zc (pd b))))),
   .inr (eQ.at T (qc (Rat.divInt (zval (zc (zval (zc (pn a))*zval (zc (pn b))))) (zval (zc (zval (zc (pd a))*zval (zc (pd b))))))))]
   [[],[(5,0)],[],[(7,2)],[(6,1),(8,3)],[],[(10,5)],[],[(12,7)],[(11,6),(13,8)],[(9,4),(14,9)]] (by kernel_rfl) ⟨
  fun w e=>(B8 ty_Q O (k2.ext e) O).ob,fun w e=>(A2 _ L1 O (K9 (up3.ext e.size) (ER.ext eQ ha3 e) hla hL9)).ob (A5 _ _ _),
  fun w e=>(B8 ty_Q O (k3.ext e) O).ob,fun w e=>(A2 _ L1 O (K9 (up3.ext e.size) (ER.ext eQ hb3' e) hlb hL9)).ob (A5 _ _ _),
  fun w e x hx y hy=>(A2 _ X6 O (V3 (up3.ext e.size) hx hy (zl lna hL9) (zl lnb hL9))).ob (A5 _ _ _),
  fun w e=>(B8 ty_Q O (k2.ext e) O).ob,fun w e=>(A2 _ J4 O (J0 (up3.ext e.size) (ER.ext eQ ha3 e) hla hL9)).ob (A5 _ _ _),
  fun w e=>(B8 ty_Q O (k3.ext e) O).ob,fun w e=>(A2 _ J4 O (J0 (up3.ext e.size) (ER.ext eQ hb3' e) hlb hL9)).ob (A5 _ _ _),
  fun w e x hx y hy=>(A2 _ X6 O (V3 (up3.ext e.size) hx hy (zl lda hL9) (zl ldb hL9))).ob (A5 _ _ _),
  fun w e x hx y hy=>(A2 _ AA0 O (Z4 (up3.ext e.size) hx hy (zl (by rw [B0,B0];exact AK2 lna lnb) (Nat.le_refl _)) (zl (by rw [B0,B0];exact AK2 lda ldb) (Nat.le_refl _)) (by omega) (by rw [B0,B0,B0];exact hpp))).ob (A5 _ _ _),trivial⟩ ?_
 intro w4 e4 x1 _ x2 _ x3' _ x4 _ x5 _ x6 _ z hz
 rw [B0,B0,B0,B0,B0,B0,<-Rat.divInt_mul_divInt] at hz
 refine .storeA (E:=eQ) ty_Q O O (k4.ext e4) O O hz hS4 fun w5 k5 u5 h5=>.nil (.ret ?_)
 exact .cell Tryz.results82 O ty_Q O O k5 h5 ⟨u5.below (x3.trans e4) (by omega),hout h5⟩
theorem X5:Ent Tryz.prog 81:=A0 Tryz.func81 (by kernel_rfl) rfl
theorem U9 {S:Nat->Prop} {w:World} {va vb:Value} {a b:QV} {L:Nat} (up:Up S w) (ha:eQ.R S w va a) (hb:eQ.R S w vb b) (hla:qok L a) (hlb:qok L b) (h1:1<=L) (hL:L<=400000000):CR Tryz.prog 81 #[va,vb] w (eQ.at S (qc (qval a+qval b))):=by
 obtain ⟨da1,da2⟩:=AC3 ha
 obtain ⟨db1,db2⟩:=AC3 hb
 have lna:=AT1 da1 hla
 have lda:=AZ0 da2 hla h1
 have lnb:=AT1 db1 hlb
 have ldb:=AZ0 db2 hlb h1
 have ppa:=L3 a
 have ppb:=L3 b
 have hpp:=Int.mul_pos ppa ppb
 have hL9:L<=1000000000:=by omega
 obtain ⟨s,t,rfl,hs,ht⟩:=ha
 have ha:eQ.R S w (.agg #[.bool a.num.neg,s,.bool a.den.neg,t]) a:=⟨s,t,rfl,hs,ht⟩
 obtain ⟨s',t',rfl,hs',ht'⟩:=hb
 have hb:eQ.R S w (.agg #[.bool b.num.neg,s',.bool b.den.neg,t']) b:=⟨s',t',rfl,hs',ht'⟩
 refine enter Tryz.func81 O Tryz.ntmps81 O ?_
 refine .sr (.box O O fun w1 b2 n1=>.box O O fun w2 b3 n2=>.alloc O C2 fun w3 b4 n3=>.nil ?_)
 obtain ⟨e1,k2,hb2,hs1⟩:=n1
 obtain ⟨e2,k3,hb3,hs2⟩:=n2
 obtain ⟨e3,k4,hb4,hs3⟩:=n3
 have x3:=(e1.trans e2).trans e3
 have k2:=(k2.ext e2).ext e3
 have k3:=k3.ext e3
 have hS4:¬ Sx S w.heap.size w3.heap.size b4:=Sx.no (by omega) (by omega)
 have up3:Up (Sx S w.heap.size w3.heap.size) w3:=Sx.up up (Nat.le_refl _) x3.size
 have ha3:=(ER.par eQ ha w3.heap.size).ext x3
 have hb3':=(ER.par eQ hb w3.heap.size).ext x3
 have hout:∀ {W:World} {v:Value} {z:QV},eQ.R (Sx S w.heap.size w3.heap.size) W v z->eQ.R S W v z:=fun h=>h.out
 generalize hT:Sx S w.heap.size w3.heap.size=T at *
 refine .seq ?_
 refine .parF follows 12 [.inl _,.inr (eZ.at T (zc (pn a))),.inl _,.inr (eZ.at T (zc (pd b))),.inr (eZ.at T (zc (zval (zc (pn a))*zval (zc (pd b))))),.inl _,.inr (eZ.at T (zc (pn b))),.inl _,.inr (eZ.at T (zc (pd a))),.inr (eZ.at T (zc (zval (zc (pn b))*zval (zc (pd a))))),
   .inr (NewP w3.heap.size 52 #[.bool false,.slice none 0 0]),.inr (NewP w3.heap.size 52 #[.bool false,.slice none 0 0])]
   [[],[(7,0)],[],[(9,2)],[(8,1),(10,3)],[],[(12,5)],[],[(14,7)],[(13,6),(15,8)],[],[]] (by kernel_rfl) ⟨
  fun w e=>(B8 ty_Q O (k2.ext e) O).ob,fun w e=>(A2 _ L1 O (K9 (up3.ext e.size) (ER.ext eQ ha3 e) hla hL9)).ob (A5 _ _ _),
  fun w e=>(B8 ty_Q O (k3.ext e) O).ob,fun w e=>(A2 _ J4 O (J0 (up3.ext e.size) (ER.ext eQ hb3' e) hlb hL9)).ob (A5 _ _ _),
  fun w e x hx y hy=>(A2 _ X6 O (V3 (up3.ext e.size) hx hy (zl lna hL9) (zl ldb hL9))).ob (A5 _ _ _),
  fun w e=>(B8 ty_Q O (k3.ext e) O).ob,fun w e=>(A2 _ L1 O (K9 (up3.ext e.size) (ER.ext eQ hb3' e) hlb hL9)).ob (A5 _ _ _),
  fun w e=>(B8 ty_Q O (k2.ext e) O).ob,fun w e=>(A2 _ J4 O (J0 (up3.ext e.size) (ER.ext eQ ha3 e) hla hL9)).ob (A5 _ _ _),
  fun w e x hx y hy=>(A2 _ X6 O (V3 (up3.ext e.size) hx hy (zl lnb hL9) (zl lda hL9))).ob (A5 _ _ _),
  fun w e=>AE8 C6 e.size,fun w e=>AE8 C6 e.size,trivial⟩
  ⟨fun h=>(by cases h),fun h=>(by cases h),fun h=>(by cases h),fun h=>(by cases h),fun h=>(by cases h),fun h=>(by cases h),fun h=>(by cases h),fun h=>(by cases h),fun h=>(by cases h),fun h=>(by cases h),
   fun _=>⟨_,_,_,rfl,rfl,C6,rfl,Nat.le_refl _⟩,fun _=>⟨_,_,_,rfl,rfl,C6,rfl,Nat.le_refl _⟩,trivial⟩ ?_
 rintro w4 e4 x1-x2-v11 h11 x4-x5-v16 h16 _ ⟨b5,rfl,hb5,k5⟩ _ ⟨b6,rfl,hb6,k6⟩ hA
 have hne:b6≠b5:=by
  intro e
  subst e
  exact hA 5 6 _ _ (by decide) ⟨_,List.mem_of_getElem? (i:=10) rfl,rfl,rfl⟩ ⟨_,List.mem_of_getElem? (i:=11) rfl,rfl,rfl⟩ rfl O rfl
 rw [B0,B0] at h11 h16
 have h16':=Ar6 (Ar6 h16 k5 AR6) k6 AR6
 have h11':=Ar6 (Ar6 h11 k5 AR6) k6 AR6
 refine .storeA (E:=eZ) ty_Z O O k5 O O h11' (fun h=>h.1.2 O) fun w5 k5 u5 h11=>?_
 refine .storeA (E:=eZ) ty_Z O O (k6.upd u5 hne) O O (ER.upd eZ h16' u5 (fun h=>h.1.2 O)) (fun h=>h.2 O) fun w6 k6 u6 h16=>.nil ?_
 have h11:=ER.upd eZ h11 u6 (fun h=>h.2 O)
 have k5:=k5.upd u6 (Ne.symm hne)
 have e36:Ext w3 w6:=u6.below (u5.below e4 hb5) hb6
 have x6:=x3.trans e36
 have k2:=k2.ext e36
 have k3:=k3.ext e36
 have k4:=k4.ext e36
 have up6:=up3.ext e36.size
 have ha6:=ER.ext eQ ha3 e36
 have hb6':=ER.ext eQ hb3' e36
 have h11:eZ.R T w6 v11 (zc (pn a*pd b)):=ER.mono eZ (fun _ _ h=>h.1.1) h11
 have h16:eZ.R T w6 v16 (zc (pn b*pd a)):=ER.mono eZ (fun _ _ h=>h.1.1) h16
 obtain ⟨s11,rfl,hs11⟩:=h11
 have h11:eZ.R T w6 (.agg #[.bool (zc (pn a*pd b)).neg,s11]) (zc (pn a*pd b)):=⟨s11,rfl,hs11⟩
 obtain ⟨s16,rfl,hs16⟩:=h16
 have h16:eZ.R T w6 (.agg #[.bool (zc (pn b*pd a)).neg,s16]) (zc (pn b*pd a)):=⟨s16,rfl,hs16⟩
 refine .seq ?_
 have m1:=AK2 lna ldb
 have m2:=AK2 lnb lda
 have m3:=AK2 lda ldb
 have m4:=BR5 m1 m2
 have m5:4294967296 ^ (L+L)<=4294967296 ^ (L+L+1):=Nat.pow_le_pow_right (by decide) (by omega)
 refine .par follows 9 [.inl (.agg #[.bool (zc (pn a*pd b)).neg,s11]),.inl (.agg #[.bool (zc (pn b*pd a)).neg,s16]),.inr (eZ.at T (zc (zval (zc (pn a*pd b))+zval (zc (pn b*pd a))))),.inl _,.inr (eZ.at T (zc (pd a))),.inl _,.inr (eZ.at T (zc (pd b))),.inr (eZ.at T (zc (zval (zc (pd a))*zval (zc (pd b))))),
   .inr (eQ.at T (qc (Rat.divInt (zval (zc (zval (zc (pn a*pd b))+zval (zc (pn b*pd a))))) (zval (zc (zval (zc (pd a))*zval (zc (pd b))))))))]
   [[],[],[(17,0),(18,1)],[],[(20,3)],[],[(22,5)],[(21,4),(23,6)],[(19,2),(24,7)]] (by kernel_rfl) ⟨
  fun w e=>(B8 ty_Z O (k5.ext e) O).ob,fun w e=>(B8 ty_Z O (k6.ext e) O).ob,
  fun w e=>(A2 _ BA5 O (Aw2 (up6.ext e.size) (ER.ext eZ h11 e) (ER.ext eZ h16 e) (zl m1 (by omega)) (zl m2 (by omega)))).ob (A5 _ _ _),
  fun w e=>(B8 ty_Q O (k2.ext e) O).ob,fun w e=>(A2 _ J4 O (J0 (up6.ext e.size) (ER.ext eQ ha6 e) hla hL9)).ob (A5 _ _ _),
  fun w e=>(B8 ty_Q O (k3.ext e) O).ob,fun w e=>(A2 _ J4 O (J0 (up6.ext e.size) (ER.ext eQ hb6' e) hlb hL9)).ob (A5 _ _ _),
  fun w e x hx y hy=>(A2 _ X6 O (V3 (up6.ext e.size) hx hy (zl lda hL9) (zl ldb hL9))).ob (A5 _ _ _),
  fun w e x hx y hy=>(A2 _ AA0 O (Z4 (L:=L+L+1) (up6.ext e.size) hx hy (zl (by rw [B0,B0];exact m4) (Nat.le_refl _)) (zl (by rw [B0,B0];exact m3) (by omega)) (by omega) (by rw [B0,B0,B0];exact hpp))).ob (A5 _ _ _),trivial⟩ ?_
 intro w7 e7 x1 _ x2 _ x3' _ x4 _ z hz
 rw [B0,B0,B0,B0,B0,B0,<-Rat.divInt_add_divInt _ _ (by omega) (by omega)] at hz
 refine .storeA (E:=eQ) ty_Q O O (k4.ext e7) O O hz hS4 fun w8 k8 u8 h8=>.nil (.ret ?_)
 exact .cell Tryz.results81 O ty_Q O O k8 h8 ⟨u8.below (x6.trans e7) (by omega),hout h8⟩
end Go.Proofs.YtggegpiffjbngaaGreat
namespace Go.Kx
open Go Go.RowKit
@[reducible] def NewE {α:Type} (E:ER α) (T:Nat->Prop) (B:Nat) (t:TypeId) (n:α):Value->World->Prop:=fun v W=>∃ b e,v=.slice (some ⟨b,0,none⟩) 1 1/\B<=b/\Blk W b t e.cells/\E.R T W e n
theorem ob_bslE {P:Program} {σ:Env} {w:World} {d:Option Tmp} {ty:TypeId} {pos:String} {af:Array Edge} {g:Option (Nat×Bool)} {α:Type} {E:ER α} {T:Nat->Prop} {n:α} {t te:TypeId} {B:Nat} {ps:List (Nat×Operand)} {x:Value} (hv:evp σ ps=some [(0,x)]) (hc:bslOf P t 1 [(0,x)]=some (te,x.cells)) (hx:E.R T w x n) (hB:B<=w.heap.size) :
  Gv P ⟨d,.buildSlice t 1 ps.toArray,ty,pos,af,g⟩ σ w fun v' w'=>Ext w w'/\Sp.ok (.inr (NewE E T B te n)) v' w' :=
 (AT8 _ hv hc).mono fun v' w' ⟨b,hv,hn⟩=>⟨hn.1,fun w'' e=>⟨b,x,hv,by have:=hn.2.2.1;omega,hn.2.1.ext e,E.ext (E.ext hx hn.1) e⟩⟩
def atI (a:List QV) (i:Int):QV:=if i<0 then q0 else a.getD i.toNat q0
theorem M4 (a:List QV) (i:Nat):atI a i=a.getD i q0:=by
 unfold atI;rw [if_neg (by omega)];simp
end Go.Kx
namespace Go.Proofs.YtggegpiffjbngaaGreat
open Go Go.Kx Go.RowKit
theorem Aa2:Ent Tryz.prog 97:=A0 Tryz.func97 (by kernel_rfl) rfl
theorem AY5 {S:Nat->Prop} {w:World} {va vb:Value} {a b:QV} {L:Nat} (up:Up S w) (ha:eQ.R S w va a) (hb:eQ.R S w vb b) (hla:qok L a) (hlb:qk L b) (h1:1<=L) (hL:L<=400000000):CR Tryz.prog 97 #[va,vb] w (eQ.at S (qc (qval a-qval b))):=by
 obtain ⟨s,t,rfl,hs,ht⟩:=ha
 have ha:eQ.R S w (.agg #[.bool a.num.neg,s,.bool a.den.neg,t]) a:=⟨s,t,rfl,hs,ht⟩
 obtain ⟨s',t',rfl,hs',ht'⟩:=hb
 have hb:eQ.R S w (.agg #[.bool b.num.neg,s',.bool b.den.neg,t']) b:=⟨s',t',rfl,hs',ht'⟩
 refine enter Tryz.func97 O Tryz.ntmps97 O ?_
 refine .sr (.box O O fun w1 b2 n1=>.box O O fun w2 b3 n2=>.alloc O C2 fun w3 b4 n3=>.nil ?_)
 obtain ⟨e1,k2,hb2,hs1⟩:=n1
 obtain ⟨e2,k3,hb3,hs2⟩:=n2
 obtain ⟨e3,k4,hb4,hs3⟩:=n3
 have x3:=(e1.trans e2).trans e3
 have k2:=(k2.ext e2).ext e3
 have k3:=k3.ext e3
 have hS4:¬ Sx S w.heap.size w3.heap.size b4:=Sx.no (by omega) (by omega)
 have up3:Up (Sx S w.heap.size w3.heap.size) w3:=Sx.up up (Nat.le_refl _) x3.size
 have ha3:=(ER.par eQ ha w3.heap.size).ext x3
 have hb3':=(ER.par eQ hb w3.heap.size).ext x3
 have hout:∀ {W:World} {v:Value} {z:QV},eQ.R (Sx S w.heap.size w3.heap.size) W v z->eQ.R S W v z:=fun h=>h.out
 generalize hT:Sx S w.heap.size w3.heap.size=T at *
 refine .seq ?_
 refine .par follows 4 [.inl (.agg #[.bool a.num.neg,s,.bool a.den.neg,t]),.inl (.agg #[.bool b.num.neg,s',.bool b.den.neg,t']),.inr (eQ.at T (qc (-qval b))),.inr (eQ.at T (qc (qval a+qval (qc (-qval b)))))] [[],[],[(6,1)],[(5,0),(7,2)]] (by kernel_rfl) ⟨
  fun w e=>(B8 ty_Q O (k2.ext e) O).ob,fun w e=>(B8 ty_Q O (k3.ext e) O).ob,
  fun w e=>(A2 _ AL2 O (AJ8 (up3.ext e.size) (ER.ext eQ hb3' e) hlb.1 h1 (by omega))).ob (A5 _ _ _),
  fun w e x hx=>(A2 _ X5 O (U9 (up3.ext e.size) (ER.ext eQ ha3 e) hx hla (Rsz.toOk hlb.2.neg) h1 hL)).ob (A5 _ _ _),trivial⟩ ?_
 intro w4 e4 x _ z hz
 rw [B3,<-Rat.sub_eq_add_neg] at hz
 refine .storeA (E:=eQ) ty_Q O O (k4.ext e4) O O hz hS4 fun w5 k5 u5 h5=>.nil (.ret ?_)
 exact .cell Tryz.results97 O ty_Q O O k5 h5 ⟨u5.below (x3.trans e4) (by omega),hout h5⟩
theorem I6:Ent Tryz.prog 67:=A0 Tryz.func67 (by kernel_rfl) rfl
theorem I3 {S:Nat->Prop} {w:World} {v:Value} {a:List QV} {i:Int} (h:eV.R S w v a):CR Tryz.prog 67 #[v,.int .i64 i] w (eQ.at S (atI a i)):=by
 refine enter Tryz.func67 O Tryz.ntmps67 O ?_
 refine .sr (.alloc O C2 fun w1 b4 n1=>.nil ?_)
 obtain ⟨e1,k4,hb4,hs1⟩:=n1
 have hS4:¬ Sx S w.heap.size w1.heap.size b4:=Sx.no (by omega) (by omega)
 have h1:=(ER.par eV h w1.heap.size).ext e1
 refine .seq (.sr (.mv O O ?_))
 by_cases h0:0<=i
 ·refine .geqT O O O h0 (.mv O O (.gr O O O O (.mv O O (.gr O O O O (.mv O O (.gr O O O O (.lenR un_V O O h1 (.gr O O O O ?_))))))))
  by_cases hl:i<a.length
  ·refine .lssT O O O hl (.pick O O O (.nil (.condT O (.sr (.mv O O (.mv O O ?_))))))
   obtain ⟨j,rfl⟩:∃ j:Nat,i=j:=⟨i.toNat,by omega⟩
   refine .ixN (i:=j) un_V ty_Q O O h1 O (A9 (z:=q0) (by omega)) fun p hp=>.ldE ty_Q O O hp fun e he=>?_
   refine .storeA (E:=eQ) ty_Q O O k4 O O he hS4 fun w5 k5 u5 h5=>.nil (.ret ?_)
   exact .cell Tryz.results67 O ty_Q O O k5 h5 ⟨u5.below e1 (by omega),by rw [M4];exact h5.out⟩
  ·refine .lssF O O O hl (.pick O O O (.nil (.condF O (.skip (.sr (.bld [] O O R9 ?_))))))
   have hq:eQ.R (Sx S w.heap.size w1.heap.size) w1 (.agg #[.bool false,.slice none 0 0,.bool false,.slice none 0 0]) q0:=⟨_,_,rfl,RL.nil,RL.nil⟩
   refine .storeA (E:=eQ) ty_Q O O k4 O O hq hS4 fun w5 k5 u5 h5=>.nil (.ret ?_)
   refine .cell Tryz.results67 O ty_Q O O k5 h5 ⟨u5.below e1 (by omega),?_⟩
   rw [show atI a i=q0 by unfold atI;rw [if_neg (by omega),List.getD_eq_getElem?_getD,List.getElem?_eq_none (by omega)];rfl]
   exact h5.out
 ·refine .geqF O O O h0 (.mv O O (.gs O O O O O (.gs O O O O O (.gs O O O O O (.gs O O O O O (.pick O O O (.nil (.condF O (.skip (.sr (.bld [] O O R9 ?_)))))))))))
  have hq:eQ.R (Sx S w.heap.size w1.heap.size) w1 (.agg #[.bool false,.slice none 0 0,.bool false,.slice none 0 0]) q0:=⟨_,_,rfl,RL.nil,RL.nil⟩
  refine .storeA (E:=eQ) ty_Q O O k4 O O hq hS4 fun w5 k5 u5 h5=>.nil (.ret ?_)
  refine .cell Tryz.results67 O ty_Q O O k5 h5 ⟨u5.below e1 (by omega),?_⟩
  rw [show atI a i=q0 by unfold atI;rw [if_pos (by omega)]]
  exact h5.out
theorem bslE_V {x y z u:Value}:bslOf Tryz.prog 32 1 [(0,.agg #[x,y,z,u])]=some (54,(Value.agg #[x,y,z,u]).cells):=by kernel_rfl
theorem Y8:Ent Tryz.prog 184:=A0 Tryz.func184 (by kernel_rfl) rfl
theorem Y5 {S:Nat->Prop} {w:World} {vk_ va vb:Value} {k:QV} {a b:List QV} {L:Nat} (up:Up S w) (hk:eQ.R S w vk_ k) (ha:eV.R S w va a) (hb:eV.R S w vb b) (hkk:qk L k) (hka:vk L a) (hkb:vk L b) (hL:1<=L) (hL2:L<=100000000) (hla:a.length<=100000000) (hlb:b.length<=100000000) :
  CR Tryz.prog 184 #[vk_,va,vb] w (eV.at S (tab (max a.length b.length) fun i=>qval k*rv a i+rv b i)):=by
 obtain ⟨s,t,rfl,hs,ht⟩:=hk
 have hk:eQ.R S w (.agg #[.bool k.num.neg,s,.bool k.den.neg,t]) k:=⟨s,t,rfl,hs,ht⟩
 refine enter Tryz.func184 O Tryz.ntmps184 O ?_
 refine .sr (.box O O fun w1 b3 n1=>.an O O (.sr (.an O O (.seq (.sr (.an O O ?_))))))
 obtain ⟨e1,k3,hb3,hs1⟩:=n1
 have hB1:∀ {W:World},Ext w1 W->Kp (fun k=>S k/\k<w1.heap.size) w1 W:=fun hB k c t f hk h=>(hB.block k hk.2).trans h
 have hK:∀ {W:World},Ext w1 W->eQ.R (fun k=>S k/\k<w1.heap.size) W (.agg #[.bool k.num.neg,s,.bool k.den.neg,t]) k:=fun hB=>eQ.keep (hB1 hB) (ER.lt eQ (ER.ext eQ hk e1))
 have hA:∀ {W:World},Ext w1 W->eV.R (fun k=>S k/\k<w1.heap.size) W va a:=fun hB=>eV.keep (hB1 hB) (ER.lt eV (ER.ext eV ha e1))
 have hBb:∀ {W:World},Ext w1 W->eV.R (fun k=>S k/\k<w1.heap.size) W vb b:=fun hB=>eV.keep (hB1 hB) (ER.lt eV (ER.ext eV hb e1))
 have up1:=up.ext e1.size
 generalize hf:(fun i=>qc (qval k*rv a i+rv b i))=f
 generalize hM:max a.length b.length=M
 refine .block (.loop (α:=Nat×Value) (fun x=>[(1,va),(2,vb),(3,.pointer (some ⟨b3,0,none⟩)),(7,x.2),(8,.int .i64 (x.1:Nat))]) (fun x W=>Ext w1 W/\x.1<=M/\OwnL eQ 54 w1.heap.size S W x.2 ((List.range x.1).map f)) (fun x=>M-x.1) (0,.slice none 0 0) ?_ ?_ ?_)
 ·exact lkA rfl
 ·exact ⟨Ext.refl _,Nat.zero_le _,OwnL.nil⟩
 ·rintro ⟨i,u⟩ W ⟨hB,hi,ho⟩
  replace hB:Ext w1 W:=hB
  replace hi:i<=M:=hi
  replace ho:OwnL eQ 54 w1.heap.size S W u ((List.range i).map f):=ho
  refine .weak [(1,va),(2,vb),(3,.pointer (some ⟨b3,0,none⟩)),(7,u),(8,.int .i64 (i:Nat))] (fun t v h=>h) ?_
  have hsz:=hB.size
  have fin:i=M->Ext w W/\eV.at S (tab M fun i=>qval k*rv a i+rv b i) u W:=by
   intro h
   subst h
   refine ⟨e1.trans hB,?_⟩
   unfold tab
   rw [hf]
   exact ho.toR (fun k hk=>up1 k hk) (fun _ h=>h)
  refine .mid (α:=Unit) (fun _=>[(1,va),(2,vb),(3,.pointer (some ⟨b3,0,none⟩)),(7,u),(8,.int .i64 (i:Nat))]) (fun _ W'=>W'=W/\i<M) ?_ ?_
  ·refine .sr (.mv O O (.mv O O (.lenR un_V O O (hA hB) ?_)))
   by_cases h1:i<a.length
   ·refine .lssT O O O (by omega) (.mv O O (.gs O O O O O (.gs O O O O O (.gs O O O O O (.gs O O O O O (.pick O O O (.nil (.condT O (.skip ?_)))))))))
    exact ⟨rfl,(),lkA rfl,rfl,by omega⟩
   ·refine .lssF O O O (by omega) (.mv O O (.gr O O O O (.mv O O (.gr O O O O (.mv O O (.gr O O O O (.lenR un_V O O (hBb hB) (.gr O O O O ?_))))))))
    by_cases h2:i<b.length
    ·refine .lssT O O O (by omega) (.pick O O O (.nil (.condT O (.skip ?_))))
     exact ⟨rfl,(),lkA rfl,rfl,by omega⟩
    ·refine .lssF O O O (by omega) (.pick O O O (.nil (.condF O (.exit (.sr (.mv O O (.an O O (.ret ?_))))))))
     exact .plain [_] Tryz.results184 ⟨rfl,trivial⟩ (fin (by omega))
  ·rintro _ W' ⟨hWW,hlt⟩
   have hWW:=hWW.symm
   subst hWW
   obtain ⟨es,ho1,ho2⟩:=id ho
   have hTu:∀ k',S k'/\k'<w1.heap.size->S k'/\u.ownBlock≠some k':=fun k' hk'=>⟨hk'.1,fun h=>by have:=(ho1.lt k' h).1;have:=hk'.2;omega⟩
   have hKT:=eQ.mono (fun k' _ h=>hTu k' h) (hK hB)
   have hAT:=eV.mono (fun k' _ h=>hTu k' h) (hA hB)
   have hBT:=eV.mono (fun k' _ h=>hTu k' h) (hBb hB)
   have upT:Up (fun k'=>S k'/\u.ownBlock≠some k') W:=fun k' hk'=>⟨up1 k' (by omega),fun h=>by have:=(ho1.lt k' h).2;omega⟩
   generalize hT:(fun k'=>S k'/\u.ownBlock≠some k')=T at *
   have k3W:=k3.ext hB
   have hai:=(hka.get hL i).1
   have hbi:=(hkb.get hL i).1
   have hm2:Rsz (qval k*qval (atI a i)) (L+L):=by rw [M4];exact hkk.2.mul (hka.get hL i).2
   refine .seq (.block ?_)
   refine .par follows 11 [.inl u,.inl (.agg #[.bool k.num.neg,s,.bool k.den.neg,t]),.inl va,.inl (.int .i64 (i:Nat)),.inr (eQ.at T (atI a i)),.inr (eQ.at T (qc (qval k*qval (atI a i)))),.inl vb,.inl (.int .i64 (i:Nat)),.inr (eQ.at T (atI b i)),.inr (eQ.at T (qc (qval (qc (qval k*qval (atI a i)))+qval (atI b i)))),.inr (NewE eQ T W.heap.size 54 (qc (qval (qc (qval k*qval (atI a i)))+qval (atI b i))))]
     [[],[],[],[],[(23,2),(24,3)],[(22,1),(25,4)],[],[],[(27,6),(28,7)],[(26,5),(29,8)],[(30,9)]] (by kernel_rfl) ⟨
    fun w e=>(v_mv O).ob,fun w e=>(B8 ty_Q O (k3W.ext e) O).ob,fun w e=>(v_mv O).ob,fun w e=>(v_mv O).ob,
    fun w e=>(A2 _ I6 O (I3 (ER.ext eV hAT e))).ob (A5 _ _ _),
    fun w e x hx=>(A2 _ AC7 O (AB7 (L:=L) (upT.ext e.size) (ER.ext eQ hKT e) hx hkk.1 (by rw [M4];exact hai) hL (by omega))).ob (A5 _ _ _),
    fun w e=>(v_mv O).ob,fun w e=>(v_mv O).ob,
    fun w e=>(A2 _ I6 O (I3 (ER.ext eV hBT e))).ob (A5 _ _ _),
    fun w e x hx y hy=>(A2 _ X5 O (U9 (L:=L+L) (upT.ext e.size) hx hy hm2.toOk (by rw [M4];exact hbi.mono (by omega)) (by omega) (by omega))).ob (A5 _ _ _),
    fun w e x hx=>by
     obtain ⟨p1,p2,rfl,hp1,hp2⟩:=hx
     exact ob_bslE (E:=eQ) (T:=T) O bslE_V ⟨p1,p2,rfl,hp1,hp2⟩ e.size,trivial⟩ ?_
   rintro W2 e2 x1-x2-x3-x4-_ ⟨b5,e5,rfl,hb5,k5,h5⟩
   rw [B3,M4,M4] at h5
   have hB2:=hB.trans e2
   subst hT
   refine .gv O O (J8 (E:=eQ) (base:=w1.heap.size) (by decide) un_V H4 O O O (ho.ext e2) k5 h5 (by simp;omega) (by decide) hB2.size) ?_
   rintro v4 W4 ⟨ho4,hg4⟩
   refine .an O O (.region (.mv O O (.add O O O (.an O O ?_))))
   rw [wI (by omega)]
   refine ⟨rfl,(i+1,v4),lkA rfl,⟨(ho.ext e2).below hg4 hB2 hB2.size,hlt,?_⟩,by show M-(i+1)<M-i;omega⟩
   show OwnL eQ 54 w1.heap.size S W4 v4 ((List.range (i+1)).map f)
   rw [List.range_succ,List.map_append,<-hf]
   rw [<-hf] at ho4
   exact ho4
theorem Al9:Ent Tryz.prog 212:=A0 Tryz.func212 (by kernel_rfl) rfl
theorem Ak6 {S:Nat->Prop} {w:World} {vk_ va:Value} {k:QV} {a:List QV} {L:Nat} (up:Up S w) (hk:eQ.R S w vk_ k) (ha:eV.R S w va a) (hkk:qk L k) (hka:vk L a) (hL:1<=L) (hL2:L<=100000000) (hla:a.length<=100000000) :
  CR Tryz.prog 212 #[vk_,va] w (eV.at S (tab a.length fun i=>qval k*rv a i)):=by
 obtain ⟨s,t,rfl,hs,ht⟩:=hk
 have hk:eQ.R S w (.agg #[.bool k.num.neg,s,.bool k.den.neg,t]) k:=⟨s,t,rfl,hs,ht⟩
 refine enter Tryz.func212 O Tryz.ntmps212 O ?_
 refine .sr (.box O O fun w1 b2 n1=>.an O O ?_)
 obtain ⟨e1,k2,hb2,hs1⟩:=n1
 refine .sr (.ldA ty_Q O O k2 O (.mv O O ?_))
 refine .call _ O Y8 O (Y5 (b:=[]) (up.ext e1.size) (ER.ext eQ hk e1) (ER.ext eV ha e1) RL.nil hkk hka BB5 hL hL2 hla (by simp)) fun v2 w2 e2 h2=>.an O O (.ret ?_)
 refine .plain [_] Tryz.results212 ⟨rfl,trivial⟩ ⟨e1.trans e2,?_⟩
 have:(fun i=>qval k*rv a i+rv [] i)=fun i=>qval k*rv a i:=by
  funext i;rw [AV8,Rat.add_zero]
 rw [this,show max a.length ([]:List QV).length=a.length by simp] at h2
 exact h2
end Go.Proofs.YtggegpiffjbngaaGreat
namespace Go.Kx
theorem rmI_atI (m:List (List QV)) (i:Nat) (k:Int):qval (atI (m.getD i []) k)=rmI m i k:=by
 unfold rmI atI
 by_cases h:k<0
 ·rw [if_pos h,if_pos (.inr h)];exact Aq5
 ·rw [if_neg h,if_neg (by omega)];simp [rm,rv]
end Go.Kx
namespace Go.Proofs.YtggegpiffjbngaaGreat
open Go Go.Kx Go.RowKit
theorem AR2:Ent Tryz.prog 214:=A0 Tryz.func214 (by kernel_rfl) rfl
theorem AP4 {S:Nat->Prop} {w:World} {vm:Value} {m:List (List QV)} {i k:Int} {L:Nat} (up:Up S w) (hm:eM.R S w vm m) (hk:mk_ L m) (hL:1<=L) (hL2:L<=1000000000):CR Tryz.prog 214 #[vm,.int .i64 i,.int .i64 k] w (eQ.at S (qc (rmI m i k))):=by
 refine enter Tryz.func214 O Tryz.ntmps214 O ?_
 refine .sr (.alloc O C2 fun w1 b6 n1=>.nil ?_)
 obtain ⟨e1,k6,hb6,hs1⟩:=n1
 have hS:¬ Sx S w.heap.size w1.heap.size b6:=Sx.no (by omega) (by omega)
 have up1:Up (Sx S w.heap.size w1.heap.size) w1:=Sx.up up (Nat.le_refl _) e1.size
 have h1:=(ER.par eM hm w1.heap.size).ext e1
 have hout:∀ {W:World} {v:Value} {z:QV},eQ.R (Sx S w.heap.size w1.heap.size) W v z->eQ.R S W v z:=fun h=>h.out
 generalize hT:Sx S w.heap.size w1.heap.size=T at *
 have hq:eQ.R T w1 (.agg #[.bool false,.slice none 0 0,.bool false,.slice none 0 0]) (qc 0):=by rw [N6];exact ⟨_,_,rfl,RL.nil,RL.nil⟩
 refine .seq (.sr (.mv O O ?_))
 by_cases h0:i<0
 ·refine .lssT O O O h0 (.mv O O (.gs O O O O O (.gs O O O O O (.gs O O O O O (.gs O O O O O (.pick O O O (.nil (.condT O (.sr (.bld [] O O R9 ?_))))))))))
  refine .storeA (E:=eQ) ty_Q O O k6 O O hq hS fun w5 k5 u5 h5=>.nil (.ret ?_)
  refine .cell Tryz.results214 O ty_Q O O k5 h5 ⟨u5.below e1 (by omega),?_⟩
  rw [show rmI m i k=0 by unfold rmI;rw [if_pos (.inl h0)]]
  exact hout h5
 ·refine .lssF O O O h0 (.mv O O (.gr O O O O (.mv O O (.gr O O O O (.mv O O (.gr O O O O (.lenR un_M O O h1 (.gr O O O O ?_))))))))
  by_cases hl:(m.length:Int)<=i
  ·refine .geqT O O O hl (.pick O O O (.nil (.condT O (.sr (.bld [] O O R9 ?_)))))
   refine .storeA (E:=eQ) ty_Q O O k6 O O hq hS fun w5 k5 u5 h5=>.nil (.ret ?_)
   refine .cell Tryz.results214 O ty_Q O O k5 h5 ⟨u5.below e1 (by omega),?_⟩
   rw [show rmI m i k=0 by unfold rmI;split;rfl;exact Aq2 (by omega)]
   exact hout h5
  ·refine .geqF O O O hl (.pick O O O (.nil (.condF O (.skip (.sr (.mv O O (.mv O O ?_)))))))
   obtain ⟨j,rfl⟩:∃ j:Nat,i=j:=⟨i.toNat,by omega⟩
   refine .ixN (i:=j) un_M ty_V O O h1 O (A9 (z:=[]) (by omega)) fun p hp=>.ldE ty_V O O hp fun e he=>.mv O O ?_
   refine .call _ O I6 O (I3 he) fun v2 w2 e2 h2=>?_
   have hqa:qok L (atI (m.getD j []) k):=by
    unfold atI;split
    ·exact (BH1 hL).1
    ·exact ((hk.get j).get hL _).1
   refine .call _ O U4 O (U1 (up1.ext e2.size) h2 hqa hL hL2) fun v3 w3 e3 h3=>?_
   rw [rmI_atI] at h3
   refine .storeA (E:=eQ) ty_Q O O ((k6.ext e2).ext e3) O O h3 hS fun w5 k5 u5 h5=>.nil (.ret ?_)
   exact .cell Tryz.results214 O ty_Q O O k5 h5 ⟨u5.below ((e1.trans e2).trans e3) (by omega),hout h5⟩
theorem Al8:Ent Tryz.prog 267:=A0 Tryz.func267 (by kernel_rfl) rfl
theorem BR2 {S:Nat->Prop} {w:World} {vk_ va vb:Value} {k:QV} {a:List (List QV)} {i j:Int} {L:Nat} (up:Up S w) (hk:eQ.R S w vk_ k) (ha:eM.R S w va a) (hka:mk_ L a) (hL:1<=L) (hL2:L<=1000000000) :
  CR Tryz.prog 267 #[.int .u8 1,vk_,va,vb,.int .i64 i,.int .i64 j] w (eQ.at S (qc (rmI a j i))):=by
 obtain ⟨s,t,rfl,hs,ht⟩:=hk
 refine enter Tryz.func267 O Tryz.ntmps267 O ?_
 refine .sr (.box O O fun w1 b7 n1=>.alloc O C2 fun w2 b12 n2=>.nil ?_)
 obtain ⟨e1,k7,hb7,hs1⟩:=n1
 obtain ⟨e2,k12,hb12,hs2⟩:=n2
 have x2:=e1.trans e2
 have hS:¬ Sx S w.heap.size w2.heap.size b12:=Sx.no (by omega) (by omega)
 have up2:Up (Sx S w.heap.size w2.heap.size) w2:=Sx.up up (Nat.le_refl _) x2.size
 have ha2:=(ER.par eM ha w2.heap.size).ext x2
 refine .seq (.sr (.mv O O (.nil (.block (.sr (.eqlT O O O O (.an O O (.condT O (.sr (.mv O O (.mv O O (.mv O O ?_))))))))))))
 refine .call _ O AR2 O (AP4 up2 ha2 hka hL hL2) fun v3 w3 e3 h3=>?_
 refine .storeA (E:=eQ) ty_Q O O (k12.ext e3) O O h3 hS fun w5 k5 u5 h5=>.nil (.ret ?_)
 exact .cell Tryz.results267 O ty_Q O O k5 h5 ⟨u5.below (x2.trans e3) (by omega),h5.out⟩
theorem Af9 {S:Nat->Prop} {w:World} {vk_ va vb:Value} {k:QV} {a:List (List QV)} {i j:Int} {L:Nat} (up:Up S w) (hk:eQ.R S w vk_ k) (ha:eM.R S w va a) (hkk:qk L k) (hka:mk_ L a) (hL:1<=L) (hL2:L<=100000000) :
  CR Tryz.prog 267 #[.int .u8 0,vk_,va,vb,.int .i64 i,.int .i64 j] w (eQ.at S (qc (qval k*rmI a i j))):=by
 obtain ⟨s,t,rfl,hs,ht⟩:=hk
 have hk:eQ.R S w (.agg #[.bool k.num.neg,s,.bool k.den.neg,t]) k:=⟨s,t,rfl,hs,ht⟩
 refine enter Tryz.func267 O Tryz.ntmps267 O ?_
 refine .sr (.box O O fun w1 b7 n1=>.alloc O C2 fun w2 b12 n2=>.nil ?_)
 obtain ⟨e1,k7,hb7,hs1⟩:=n1
 obtain ⟨e2,k12,hb12,hs2⟩:=n2
 have x2:=e1.trans e2
 have k7:=k7.ext e2
 have hS:¬ Sx S w.heap.size w2.heap.size b12:=Sx.no (by omega) (by omega)
 have up2:Up (Sx S w.heap.size w2.heap.size) w2:=Sx.up up (Nat.le_refl _) x2.size
 have ha2:=(ER.par eM ha w2.heap.size).ext x2
 have hk2:=(ER.par eQ hk w2.heap.size).ext x2
 have hout:∀ {W:World} {v:Value} {z:QV},eQ.R (Sx S w.heap.size w2.heap.size) W v z->eQ.R S W v z:=fun h=>h.out
 generalize hT:Sx S w.heap.size w2.heap.size=T at *
 have hr:qok L (qc (rmI a i j)):=by
  unfold rmI;split
  ·exact (Rsz.zero hL).toOk
  ·exact (hka.rsz hL _ _).toOk
 refine .seq (.sr (.mv O O (.nil (.block (.sr (.eqlF O O O (by decide) (.an O O (.condF O (.sr (.eqlF O O O (by decide) (.an O O (.condF O (.sr (.eqlF O O O (by decide) (.an O O (.condF O (.skip (.seq ?_))))))))))))))))))
 refine .par follows 6 [.inl (.agg #[.bool k.num.neg,s,.bool k.den.neg,t]),.inl va,.inl (.int .i64 i),.inl (.int .i64 j),.inr (eQ.at T (qc (rmI a i j))),.inr (eQ.at T (qc (qval k*qval (qc (rmI a i j)))))] [[],[],[],[],[(61,1),(62,2),(63,3)],[(60,0),(64,4)]] (by kernel_rfl) ⟨
  fun w e=>(B8 ty_Q O (k7.ext e) O).ob,fun w e=>(v_mv O).ob,fun w e=>(v_mv O).ob,fun w e=>(v_mv O).ob,
  fun w e=>(A2 _ AR2 O (AP4 (up2.ext e.size) (ER.ext eM ha2 e) hka hL (by omega))).ob (A5 _ _ _),
  fun w e x hx=>(A2 _ AC7 O (AB7 (up2.ext e.size) (ER.ext eQ hk2 e) hx hkk.1 hr hL (by omega))).ob (A5 _ _ _),trivial⟩ ?_
 rintro w3 e3 x-z hz
 rw [B3] at hz
 refine .storeA (E:=eQ) ty_Q O O (k12.ext e3) O O hz hS fun w5 k5 u5 h5=>.nil (.ret ?_)
 exact .cell Tryz.results267 O ty_Q O O k5 h5 ⟨u5.below (x2.trans e3) (by omega),hout h5⟩
theorem BS0 {w:World} {v:Value} {t:TypeId} {sz n B B':Nat} {xs:List Value} (h:w.ownsRow B t sz v n xs) (hB:B'<=B):w.ownsRow B' t sz v n xs:=by
 refine ⟨h.1,?_⟩
 rcases h.2 with h | ⟨g,cap,cur,h1,h2,h3⟩
 ·exact .inl h
 ·exact .inr ⟨g,cap,cur,h1,Nat.le_trans hB h2,h3⟩
theorem OwnL.base {α:Type} {E:ER α} {t:TypeId} {B B':Nat} {X:Nat->Prop} {w:World} {v:Value} {l:List α} (h:OwnL E t B X w v l) (hB:B'<=B):OwnL E t B' X w v l:=by
 obtain ⟨es,h1,h2⟩:=h
 exact ⟨es,BS0 h1 hB,h2⟩
theorem As9:Ent Tryz.prog 245:=A0 Tryz.func245 (by kernel_rfl) rfl
theorem Ak5 {S:Nat->Prop} {w:World} {r c:Nat} {kind:Int} {vk_ va vb:Value} {k:QV} {a b:List (List QV)} {f:Nat->Nat->Rat} (up:Up S w) (hk:eQ.R S w vk_ k) (ha:eM.R S w va a) (hb:eM.R S w vb b) (hr:r<=100000000) (hc:c<=100000000)
  (hf:∀ {T:Nat->Prop} {W:World} {i j:Nat},Up T W->eQ.R T W vk_ k->eM.R T W va a->eM.R T W vb b->i<r->j<c->CR Tryz.prog 267 #[.int .u8 kind,vk_,va,vb,.int .i64 i,.int .i64 j] W (eQ.at T (qc (f i j)))) :
  CR Tryz.prog 245 #[.int .i64 r,.int .i64 c,.int .u8 kind,vk_,va,vb] w (fun v W=>OwnL eV 32 w.heap.size S W v (tabM r c f)):=by
 obtain ⟨s,t,rfl,hs,ht⟩:=hk
 have hk:eQ.R S w (.agg #[.bool k.num.neg,s,.bool k.den.neg,t]) k:=⟨s,t,rfl,hs,ht⟩
 refine enter Tryz.func245 O Tryz.ntmps245 O ?_
 refine .sr (.box O O fun w1 b9 n1=>.an O O (.sr (.an O O (.seq (.sr (.an O O ?_))))))
 obtain ⟨e1,k9,hb9,hs1⟩:=n1
 have hB1:∀ {W:World},Ext w1 W->Kp (fun k=>S k/\k<w1.heap.size) w1 W:=fun hB k c t f hk h=>(hB.block k hk.2).trans h
 have hK:∀ {W:World},Ext w1 W->eQ.R (fun k=>S k/\k<w1.heap.size) W (.agg #[.bool k.num.neg,s,.bool k.den.neg,t]) k:=fun hB=>eQ.keep (hB1 hB) (ER.lt eQ (ER.ext eQ hk e1))
 have hA:∀ {W:World},Ext w1 W->eM.R (fun k=>S k/\k<w1.heap.size) W va a:=fun hB=>eM.keep (hB1 hB) (ER.lt eM (ER.ext eM ha e1))
 have hBb:∀ {W:World},Ext w1 W->eM.R (fun k=>S k/\k<w1.heap.size) W vb b:=fun hB=>eM.keep (hB1 hB) (ER.lt eM (ER.ext eM hb e1))
 have up1:=up.ext e1.size
 generalize hG:(fun i=>tab c (f i))=G
 refine .block (.loop (α:=Nat×Value) (fun x=>[(0,.int .i64 (r:Nat)),(1,.int .i64 (c:Nat)),(2,.int .u8 kind),(4,va),(5,vb),(9,.pointer (some ⟨b9,0,none⟩)),(13,x.2),(14,.int .i64 (x.1:Nat))]) (fun x W=>Ext w1 W/\x.1<=r/\OwnL eV 32 w1.heap.size S W x.2 ((List.range x.1).map G)) (fun x=>r-x.1) (0,.slice none 0 0) ?_ ?_ ?_)
 ·exact lkA rfl
 ·exact ⟨Ext.refl _,Nat.zero_le _,OwnL.nil⟩
 ·rintro ⟨i,u⟩ W ⟨hB,hi,ho⟩
  replace hB:Ext w1 W:=hB
  replace hi:i<=r:=hi
  replace ho:OwnL eV 32 w1.heap.size S W u ((List.range i).map G):=ho
  refine .weak [(0,.int .i64 (r:Nat)),(1,.int .i64 (c:Nat)),(2,.int .u8 kind),(4,va),(5,vb),(9,.pointer (some ⟨b9,0,none⟩)),(13,u),(14,.int .i64 (i:Nat))] (fun t v h=>h) ?_
  have hsz:=hB.size
  refine .seq (.sr (.mv O O (.mv O O ?_)))
  by_cases hlt:i<r
  ·refine .lssT O O O (by omega) (.nil (.condT O (.skip (.seq (.block (.sr (.an O O ?_)))))))
   obtain ⟨es,ho1,ho2⟩:=id ho
   have hTu:∀ k',S k'/\k'<w1.heap.size->S k'/\u.ownBlock≠some k':=fun k' hk'=>⟨hk'.1,fun h=>by have:=(ho1.lt k' h).1;have:=hk'.2;omega⟩
   have upT:Up (fun k'=>S k'/\u.ownBlock≠some k') W:=fun k' hk'=>⟨up1 k' (by omega),fun h=>by have:=(ho1.lt k' h).2;omega⟩
   refine .mid (α:=Value) (fun x=>[(0,.int .i64 (r:Nat)),(1,.int .i64 (c:Nat)),(2,.int .u8 kind),(4,va),(5,vb),(9,.pointer (some ⟨b9,0,none⟩)),(13,u),(14,.int .i64 (i:Nat)),(15,x)]) (fun x W'=>Ext W W'/\eV.R (fun k'=>S k'/\u.ownBlock≠some k') W' x (tab c (f i))) ?_ ?_
   ·refine .sr (.an O O ?_)
    generalize hg:(fun j=>qc (f i j))=g
    refine .block (.loop (α:=Nat×Value) (fun x=>[(0,.int .i64 (r:Nat)),(1,.int .i64 (c:Nat)),(2,.int .u8 kind),(4,va),(5,vb),(9,.pointer (some ⟨b9,0,none⟩)),(13,u),(14,.int .i64 (i:Nat)),(15,x.2),(16,.int .i64 (x.1:Nat))]) (fun x W'=>Ext W W'/\x.1<=c/\OwnL eQ 54 W.heap.size (fun k'=>S k'/\u.ownBlock≠some k') W' x.2 ((List.range x.1).map g)) (fun x=>c-x.1) (0,.slice none 0 0) ?_ ?_ ?_)
    ·exact lkA rfl
    ·exact ⟨Ext.refl _,Nat.zero_le _,OwnL.nil⟩
    ·rintro ⟨j,x⟩ W' ⟨hW,hj,hx⟩
     replace hW:Ext W W':=hW
     replace hj:j<=c:=hj
     replace hx:OwnL eQ 54 W.heap.size (fun k'=>S k'/\u.ownBlock≠some k') W' x ((List.range j).map g):=hx
     refine .weak [(0,.int .i64 (r:Nat)),(1,.int .i64 (c:Nat)),(2,.int .u8 kind),(4,va),(5,vb),(9,.pointer (some ⟨b9,0,none⟩)),(13,u),(14,.int .i64 (i:Nat)),(15,x),(16,.int .i64 (j:Nat))] (fun t v h=>h) ?_
     have hsz':=hW.size
     have hBW:=hB.trans hW
     refine .seq (.sr (.mv O O (.mv O O ?_)))
     by_cases hjl:j<c
     ·refine .lssT O O O (by omega) (.nil (.condT O (.skip (.seq (.block (.region (.mv O O (.mv O O (.ldA ty_Q O O (k9.ext hBW) O (.mv O O (.mv O O (.mv O O (.mv O O ?_)))))))))))))
      obtain ⟨es',hx1,hx2⟩:=id hx
      have hTx:∀ k',S k'/\k'<w1.heap.size->(S k'/\u.ownBlock≠some k')/\x.ownBlock≠some k':=fun k' hk'=>⟨hTu k' hk',fun h=>by have:=(hx1.lt k' h).1;have:=hk'.2;omega⟩
      have upX:Up (fun k'=>(S k'/\u.ownBlock≠some k')/\x.ownBlock≠some k') W':=fun k' hk'=>⟨upT k' (by omega),fun h=>by have:=(hx1.lt k' h).2;omega⟩
      refine .call _ O Al8 O (hf upX (eQ.mono (fun k' _ h=>hTx k' h) (hK hBW)) (eM.mono (fun k' _ h=>hTx k' h) (hA hBW)) (eM.mono (fun k' _ h=>hTx k' h) (hBb hBW)) hlt hjl) fun v2 W2 e2 h2=>?_
      have hr':=h2
      obtain ⟨s2,t2,rfl,_,_⟩:=hr'
      refine .bsl _ O O T5 fun W3 b3 n3=>?_
      obtain ⟨e3,k3,hb3,hs3⟩:=n3
      have e23:=e2.trans e3
      have hW3:=hW.trans e23
      refine .gv O O (J8 (E:=eQ) (base:=W.heap.size) (by decide) un_V H4 O O O (hx.ext e23) k3 (h2.ext e3) (by simp;omega) (by decide) hW3.size) ?_
      rintro v4 W4 ⟨ho4,hg4⟩
      refine .an O O (.region (.mv O O (.add O O O (.an O O ?_))))
      rw [wI (by omega)]
      refine ⟨rfl,(j+1,v4),lkA rfl,⟨(hx.ext e23).below hg4 hW3 hW3.size,hjl,?_⟩,by show c-(j+1)<c-j;omega⟩
      show OwnL eQ 54 W.heap.size (fun k'=>S k'/\u.ownBlock≠some k') W4 v4 ((List.range (j+1)).map g)
      rw [List.range_succ,List.map_append,<-hg]
      rw [<-hg] at ho4
      exact ho4
     ·refine .lssF O O O (by omega) (.nil (.condF O (.exit ?_)))
      have:j=c:=by omega
      subst this
      refine ⟨rfl,x,lkA rfl,hW,?_⟩
      unfold tab
      rw [hg]
      exact hx.toR (fun k hk=>upT k hk) (fun _ h=>h)
   ·rintro x W' ⟨hW,hx⟩
    have hBW:=hB.trans hW
    obtain ⟨ar,cr,hvr,_⟩:=RL.len hx
    rw [A1] at hvr
    subst hvr
    refine .region (.mv O O (.mv O O (.bsl _ O O As0 fun W3 b3 n3=>?_)))
    obtain ⟨e3,k3,hb3,hs3⟩:=n3
    have e23:=hW.trans e3
    have hB3:=hB.trans e23
    refine .gv O O (J8 (E:=eV) (base:=w1.heap.size) (n:=tab c (f i)) (e:=.slice ar c cr) (by decide) un_M AG9 O O O (ho.ext e23) k3 (ER.ext eV hx e3) (by simp;omega) (by decide) hB3.size) ?_
    rintro v4 W4 ⟨ho4,hg4⟩
    refine .an O O (.region (.mv O O (.add O O O (.an O O ?_))))
    rw [wI (by omega)]
    refine ⟨rfl,(i+1,v4),lkA rfl,⟨(ho.ext e23).below hg4 hB3 hB3.size,hlt,?_⟩,by show r-(i+1)<r-i;omega⟩
    show OwnL eV 32 w1.heap.size S W4 v4 ((List.range (i+1)).map G)
    rw [List.range_succ,List.map_append,<-hG]
    rw [<-hG] at ho4
    exact ho4
  ·refine .lssF O O O (by omega) (.nil (.condF O (.exit (.sr (.mv O O (.an O O (.ret ?_)))))))
   have:i=r:=by omega
   subst this
   refine .plain [_] Tryz.results245 ⟨rfl,trivial⟩ ⟨e1.trans hB,?_⟩
   unfold tabM
   rw [hG]
   exact OwnL.base ho e1.size
end Go.Proofs.YtggegpiffjbngaaGreat
namespace Go.Kx
open Go Go.RowKit
section
variable {P:Program} {σ:Env} {w:World} {d:Option Tmp} {ty:TypeId} {pos:String} {af:Array Edge} {g:Option (Nat×Bool)}
theorem BI9 {S:Nat->Prop} {t e:TypeId} {x y:Operand} {u:Value} {s:List Nat} (ht:P.underlying t=some (.slice e)) (hi:infoOf P e=some (.int .u32 0,1,4)) (hx:ev σ x=some (.slice none 0 0)) (hy:ev σ y=some u)
  (hs:eW.R S w u s) (hl2:s.length<=1000000000000) :
  Gv P ⟨d,.call { callee:=.builtin .append,args:=#[x,y],argTypes:=#[t,t] },ty,pos,af,g⟩ σ w fun v' w'=>OwnW e w.heap.size w' v' s/\Ext w w':=by
 have hds:dig s:=F1 hs
 have hown:OwnW e w.heap.size w (.slice none 0 0) []:=⟨⟨rfl,.inl ⟨rfl,rfl⟩⟩,fun x hx=>by cases hx⟩
 obtain ⟨es,he,a,c,rfl,hc,_,hcl,hcells⟩:=hs
 have hes:es=s.map wv:=by
  apply List.ext_getElem?
  intro i
  rw [List.getElem?_map]
  cases hi:s[i]? with
  | none=>rw [List.getElem?_eq_none (by rw [he.1];exact List.getElem?_eq_none_iff.1 hi)];rfl
  | some z =>
   have hlt:i<s.length:=(List.getElem?_eq_some_iff.1 hi).1
   have hee:=List.getElem?_eq_getElem (show i<es.length by rw [he.1];exact hlt)
   obtain ⟨h1,_⟩:=he.2 i _ z hee hi
   rw [hee,h1];rfl
 subst hes
 rw [F8 wv (fun _=>rfl)] at hcells hcl
 have hone:∀ u∈s.map wv,one1 u=true:=by
  intro u hu
  obtain ⟨z,_,rfl⟩:=List.mem_map.1 hu
  rfl
 cases a with
 | some ad =>
  have hcell:∀ j u,(s.map wv)[j]?=some u->w.cell? (ad.add j)=some u:=by
   intro j u hu
   have hpos:0<s.length:=by
    cases s with
    | nil=>simp at hu
    | cons z s=>simp
   obtain ⟨ad',h1,_,h2⟩:=hcells hpos
   cases h1
   exact (h2 j u hu).1
  exact (AZ5 (s.map wv) ht hi O (by decide) hx hy hown.1 (by simp) hcell hone (by simp;omega) (by simp;omega) (Nat.le_refl _)).mono fun v' w' ⟨h1,h2⟩=>⟨⟨by simpa using h1,hds⟩,hown.below h2 (Below.refl _ _) (Nat.le_refl _)⟩
 | none =>
  have h0:s=[]:=by
   cases s with
   | nil=>rfl
   | cons z s=>obtain ⟨ad,h1,_⟩:=hcells (by simp);cases h1
  subst h0
  refine (BD5 ht hi hx hy hown.1).gv.mono fun v' w' ⟨h1,h2⟩=>?_
  subst h1;subst h2
  exact ⟨hown,Below.refl _ _⟩
end
end Go.Kx
namespace Go.Proofs.YtggegpiffjbngaaGreat
open Go Go.Kx Go.RowKit
end Go.Proofs.YtggegpiffjbngaaGreat
namespace Go.Kx
end Go.Kx
namespace Go.Proofs.YtggegpiffjbngaaGreat
open Go Go.Kx Go.RowKit
end Go.Proofs.YtggegpiffjbngaaGreat
namespace Go.Kx
open Go Go.RowKit
end Go.Kx
namespace Go.Proofs.YtggegpiffjbngaaGreat
open Go Go.Kx Go.RowKit
section
variable {W W':World} {v va vb:Value} {n c n' c' L L':Nat} {a b m:List (List QV)} {x y:List QV}
theorem upT {W:World}:Up (fun _=>True) W:=fun _ _=>trivial
end
theorem BU4 {α:Type} {E:ER α} {hsz:0<E.sz} {S:Nat->Prop} {w w':World} {b:Nat} {t:TypeId} {cs:Array Value} {n:Nat} (vs:List Value) (ls:List (List α)) (hn:New w w' b t cs) (up:Up S w) (hcs:cs=vs.toArray) (hl:ls.length=n) (hm:n<=1000) (h:Els (RL E hsz) S w vs ls) :
  (RL (RL E hsz) (show 0<1 by decide)).R S w' (.slice (some ⟨b,0,none⟩) n n) ls:=by
 subst hl
 refine RL.ofBlk (es:=vs) hn.2.1 (up b (by have:=hn.2.2.1;omega)) (h.ext hn.1) (fun j u hu=>?_) (Nat.le_refl _) (by omega)
 rw [hcs]
 have hv:∀ v∈vs,v.cells=#[v]:=by
  intro v hv
  obtain ⟨i,hi⟩:=List.mem_iff_getElem?.1 hv
  have hlt:=Aq8 hi
  obtain ⟨a,c,rfl,_⟩:=RL.len (h.2 i v _ hi (List.getElem?_eq_getElem (by rw [<-h.1];exact hlt)))
  rfl
 have:cellsOf vs=vs:=by
  clear h hcs hu
  induction vs with
  | nil=>rfl
  | cons v vs ih=>rw [cellsOf,List.flatMap_cons,hv v (by simp),<-cellsOf,ih fun u hu=>hv u (by simp [hu])];rfl
 rw [this] at hu
 simpa using hu
theorem BF2:Ent Tryz.prog 86:=A0 Tryz.func86 (by kernel_rfl) rfl
theorem BC6 {S:Nat->Prop} {w:World} {n d:Int} (up:Up S w) (hn : -9223372036854775808<=n/\n<=9223372036854775807) (hd:0<d/\d<=9223372036854775807):CR Tryz.prog 86 #[.int .i64 n,.int .i64 d] w (eQ.at S (qc (Rat.divInt n d))):=by
 refine enter Tryz.func86 O Tryz.ntmps86 O ?_
 refine .sr (.alloc O C2 fun w1 b4 n1=>.nil (.sr (.mv O O ?_)))
 obtain ⟨e1,k4,hb4,hs1⟩:=n1
 have hS4:¬ Sx S w.heap.size w1.heap.size b4:=Sx.no (by omega) (by omega)
 have up1:Up (Sx S w.heap.size w1.heap.size) w1:=Sx.up up (Nat.le_refl _) e1.size
 refine .call _ O AA1 O (Z5 up1 hn.1 hn.2) fun v2 w2 e2 h2=>.mv O O ?_
 refine .call _ O AA1 O (Z5 (up1.ext e2.size) (by omega) hd.2) fun v3 w3 e3 h3=>?_
 obtain ⟨s,rfl,hs⟩:=ER.ext eZ h2 e3
 obtain ⟨t,rfl,ht⟩:=h3
 refine .bld _ O O AQ9 ?_
 have hq:eQ.R (Sx S w.heap.size w1.heap.size) w3 (.agg #[.bool (zc n).neg,s,.bool (zc d).neg,t]) ⟨zc n,zc d⟩:=⟨s,t,rfl,hs,ht⟩
 have hok:qok 2 ⟨zc n,zc d⟩:=⟨O5 (by omega),O5 (by omega)⟩
 have hv:qval ⟨zc n,zc d⟩=Rat.divInt n d:=by
  unfold qval pn pd
  simp only [B0]
  rw [if_neg (by omega),if_neg (by omega),if_neg (by omega)]
 refine .call _ O U4 O (U1 (up1.ext (e2.trans e3).size) hq hok (by decide) (by decide)) fun v4 w4 e4 h4=>?_
 rw [hv] at h4
 refine .storeA (E:=eQ) ty_Q O O (((k4.ext e2).ext e3).ext e4) O O h4 hS4 fun w5 k5 u5 h5=>.nil (.ret ?_)
 exact .cell Tryz.results86 O ty_Q O O k5 h5 ⟨u5.below (((e1.trans e2).trans e3).trans e4) (by omega),h5.out⟩
section
variable {m:List (List QV)} {b:List QV}
theorem BR0 (i k:Nat):rm (augM m b) i k=if i<max m.length b.length/\k<colsOf m+1 then augF m b i k else 0:=AS9 ..
theorem AW7 (h:0<max m.length b.length):colsOf (augM m b)=colsOf m+1:=by rw [Ai7,if_neg (by omega)]
theorem BK1 (h:0<max m.length b.length):Ech (max m.length b.length) (colsOf m+1) (redF (augM m b)) (redP (augM m b)):=by
 have:=Q5 (augM m b)
 rwa [AH4,AW7 h] at this
theorem BG9 (m:List (List QV)):Req m.length (colsOf m) (rm m) (redF m):=AU0 _ _ _ _
theorem BK0 (h:0<max m.length b.length):Req (max m.length b.length) (colsOf m+1) (augF m b) (redF (augM m b)):=by
 have:=BG9 (augM m b)
 rw [AH4,AW7 h] at this
 have e:∀ i k,i<max m.length b.length->k<colsOf m+1->augF m b i k=rm (augM m b) i k:=fun i k hi hk=>by rw [BR0,if_pos ⟨hi,hk⟩]
 exact ⟨fun i hi=>(this.1 i hi).of_eq e,fun i hi=>(this.2 i hi).congr fun k hk=>e i k hi hk⟩
theorem aug_nil (h:max m.length b.length=0):redP (augM m b)=[]:=by
 have:=(Q5 (augM m b)).len
 rw [AH4] at this
 exact List.length_eq_zero_iff.1 (by omega)
theorem Ai8 {i k:Nat} (h:k<colsOf m):augF m b i k=rm m i k:=by unfold augF;rw [if_pos h]
theorem AW8 {i:Nat}:augF m b i (colsOf m)=rv b i:=by unfold augF;rw [if_neg (Nat.lt_irrefl _)]
theorem rv_solX (k:Nat):rv (solX m b) k=if k<colsOf m then partF (redF (augM m b)) (redP (augM m b)) (colsOf m) k else 0:=M2 ..
theorem Av2:(solX m b).length=colsOf m:=A1 ..
theorem rv_big {i:Nat} (h:max m.length b.length<=i):rv b i=0:=AV7 (by omega)
theorem rm_big {i k:Nat} (h:max m.length b.length<=i):rm m i k=0:=Aq2 (by omega)
theorem sol_eq (hs:solvable m b) (i:Nat):sumN (colsOf m) (fun k=>rm m i k*rv (solX m b) k)=rv b i:=by
 rcases Nat.lt_or_ge i (max m.length b.length) with hi | hi
 ·have h0:0<max m.length b.length:=by omega
  have:=sol_of (BK1 h0) (BK0 h0) (fun j hj e=>hs (e▸F6 hj)) i hi
  rw [AW8] at this
  rw [<-this]
  exact A6 fun k hk=>by rw [rv_solX,if_pos hk,Ai8 hk]
 ·rw [rv_big hi,E9 fun k _=>by rw [rm_big hi,Rat.zero_mul]]
theorem solv_of {y:Nat->Rat} (hy:∀ i,sumN (colsOf m) (fun k=>rm m i k*y k)=rv b i):solvable m b:=by
 intro hC
 by_cases h0:max m.length b.length=0
 ·rw [aug_nil h0] at hC;cases hC
 ·have h0:0<max m.length b.length:=by omega
  obtain ⟨j,hj,hjC⟩:=Ax3 hC
  obtain ⟨t,ht1,ht2⟩:=no_sol (BK1 h0) (BK0 h0) hj hjC
  have:=sol_no (A:=augF m b) (x:=y) (fun i _=>by
   rw [AW8,<-hy i]
   exact A6 fun k hk=>by rw [Ai8 hk]) ht1
  rw [this] at ht2
  exact absurd ht2 (by decide)
theorem AZ2:(nullM m).length=(freeC m).length:=by unfold nullM;simp
theorem BM2 (m:List (List QV)):(nullM m).length+(redP m).length=colsOf m:=by rw [AZ2];exact (Q5 m).free_len
theorem BM4 {k:Nat}:k∈freeC m<->k<colsOf m/\k∉redP m:=by
 unfold freeC freeTo
 rw [List.mem_filter,List.mem_range]
 simp
theorem BM5 {i:Nat} (hi:i<(freeC m).length):(freeC m).getD i 0<colsOf m/\(freeC m).getD i 0∉redP m:=BM4.1 (F6 hi)
theorem not_piv {p:List Nat} {k:Nat} (h:k∉p):∀ j,j<p.length->p.getD j 0≠k:=fun _ hj e=>h (e▸F6 hj)
theorem BL7 {k:Nat} (hk:k<colsOf m) (i:Nat):sumN (colsOf m) (fun c=>rm m i c*nv (redF m) (redP m) k c)=0:=by
 rcases Nat.lt_or_ge i m.length with hi | hi
 ·exact Spn.dot0 ((BG9 m).2 i hi) fun j hj=>nv_null (Q5 m) hk hj
 ·exact E9 fun c _=>by rw [Aq2 hi,Rat.zero_mul]
theorem red_rsz {L n:Nat} (hk:mk_ L m) (hL:1<=L) (hn:min m.length (colsOf m)<=n) (i k:Nat) (hi:i<m.length) (hc:k<colsOf m):Rsz (redF m i k) (bd L n) :=
 (AK8 hL (fun i k _ _=>hk.rsz hL i k) (colsOf m) (Nat.le_refl _) i k hi hc).mono (Z8 L (Nat.le_trans (by have h1:=(Q5 m).len_c;have h2:=(Q5 m).len;unfold redP at h1 h2;omega) hn))
end
theorem rsz1 {L:Nat} (hL:1<=L):Rsz 1 L:=by
 have:=Rsz.int 1 (L:=L) (Nat.lt_of_lt_of_le (by decide) (Nat.pow_le_pow_right (by decide) hL)) hL
 simpa using this
section
variable {m:List (List QV)} {b:List QV}
theorem inv_p (hc:colsOf m=m.length):(invE m).2=redP m:=by
 unfold invE redP
 rw [hc]
 exact (Ay4 (C:=m.length) (fun i k _ hk=>by unfold invF;rw [if_pos hk]) _ (Nat.le_refl _)).2
theorem BT2 (hc:colsOf m=m.length):invertible m<->(redP m).length=m.length:=by
 unfold invertible
 rw [inv_p hc]
 have:=(Q5 m).len
 omega
theorem BI5 (h:invertible m) {i k:Nat} (hi:i<m.length) (hk:k<m.length):(invE m).1 i k=idR i k:=by
 have he:Ech m.length m.length (invE m).1 (invE m).2:=R7 ..
 have hl:(invE m).2.length=m.length:=by have:=he.len;unfold invertible at h;omega
 have:=he.one i k hi (by omega)
 rw [he.full hl k hk] at this
 exact this
theorem BQ9 {i k:Nat} (hi:i<m.length) (hk:k<m.length):rm (invM m) i k=(invE m).1 i (m.length+k):=by
 unfold invM
 rw [AS9,if_pos ⟨hi,hk⟩]
theorem BI7 {i k:Nat}:invF m i (m.length+k)=idR i k:=by
 unfold invF
 rw [if_neg (by omega),Nat.add_sub_cancel_left]
theorem BI6 {i k:Nat} (h:k<m.length):invF m i k=rm m i k:=by unfold invF;rw [if_pos h]
theorem BQ2 {n:Nat} (t:Nat->Rat) {k:Nat} (hk:k<n):sumN n (fun j=>t j*idR j k)=t k:=by
 rw [G9 (i:=k) (fun j hj hne=>by unfold idR;rw [if_neg hne,Rat.mul_zero]),if_pos hk]
 unfold idR
 rw [if_pos rfl,Rat.mul_one]
theorem Ao4 (h:invertible m) {i k:Nat} (hi:i<m.length) (hk:k<m.length):sumN m.length (fun j=>rm m i j*rm (invM m) j k)=idR i k:=by
 obtain ⟨t,ht⟩:=(AU0 m.length (m.length+m.length) (invF m) m.length).2 i hi
 have h1:∀ j,j<m.length->rm m i j=t j:=fun j hj=>by
  have:=ht j (by omega)
  rw [BI6 hj] at this
  rw [this,<-BQ2 t hj]
  exact A6 fun l hl=>by rw [<-BI5 h hl hj];rfl
 have h2:=ht (m.length+k) (by omega)
 rw [BI7] at h2
 rw [h2]
 exact A6 fun j hj=>by rw [h1 j hj,BQ9 hj hk];rfl
theorem BT3 (h:invertible m) {i k:Nat} (hi:i<m.length) (hk:k<m.length):sumN m.length (fun j=>rm (invM m) i j*rm m j k)=idR i k:=by
 obtain ⟨t,ht⟩:=(AU0 m.length (m.length+m.length) (invF m) m.length).1 i hi
 have h1:∀ j,j<m.length->rm (invM m) i j=t j:=fun j hj=>by
  have:=ht (m.length+j) (by omega)
  rw [BQ9 hi hj]
  refine Eq.trans this ?_
  rw [<-BQ2 t hj]
  exact A6 fun l hl=>by rw [BI7]
 have h2:=ht k (by omega)
 rw [<-BI5 h hi hk]
 refine Eq.trans ?_ h2.symm
 exact A6 fun j hj=>by rw [h1 j hj,BI6 hk]
theorem BI4 {L n:Nat} (hk:mk_ L m) (hL:1<=L) (hn:m.length<=n):mk_ (bd L n) (invM m):=by
 refine Ad0 fun i k hi hk'=>?_
 have h1:=AK8 (C:=m.length+m.length) (f:=invF m) hL (fun i k _ _=>by
  unfold invF
  split
  ·exact hk.rsz hL i k
  ·unfold idR
   split
   ·exact rsz1 hL
   ·exact Rsz.zero hL) m.length (by omega) i (m.length+k) hi (by omega)
 exact h1.mono (Z8 L (Nat.le_trans (R7 m.length (invF m) m.length).len hn))
theorem BT1 (hc:colsOf m=m.length) (h:invertible m) (hb:∀ i,m.length<=i->rv b i=0):solvable m b:=by
 refine solv_of (y:=fun k=>sumN m.length fun j=>rm (invM m) k j*rv b j) fun i=>?_
 rw [hc]
 rcases Nat.lt_or_ge i m.length with hi | hi
 ·have h1:sumN m.length (fun k=>rm m i k*sumN m.length fun j=>rm (invM m) k j*rv b j)=sumN m.length fun j=>idR i j*rv b j:=by
   rw [A6 (g:=fun k=>sumN m.length fun j=>rm m i k*rm (invM m) k j*rv b j) fun k _=>by rw [<-Q0];exact A6 fun j _=>by rw [Rat.mul_assoc]]
   rw [P1]
   exact A6 fun j hj=>by rw [S9,Ao4 h hi hj]
  rw [h1,G9 (i:=i) (fun j hj hne=>by unfold idR;rw [if_neg (fun e=>hne e.symm),Rat.zero_mul]),if_pos hi]
  unfold idR
  rw [if_pos rfl,Rat.one_mul]
 ·rw [hb i hi]
  exact E9 fun k _=>by rw [Aq2 hi,Rat.zero_mul]
theorem inv_sol (hc:colsOf m=m.length) (h:invertible m) (hs:solvable m b) {i:Nat} (hi:i<m.length):sumN m.length (fun j=>rm (invM m) i j*rv b j)=rv (solX m b) i:=by
 rw [A6 (g:=fun j=>sumN m.length fun k=>rm (invM m) i j*rm m j k*rv (solX m b) k) fun j _=>by rw [<-sol_eq hs j,hc,<-Q0];exact A6 fun k _=>by rw [Rat.mul_assoc]]
 rw [P1,A6 (g:=fun k=>idR i k*rv (solX m b) k) fun k hk=>by rw [S9,BT3 h hi hk]]
 rw [G9 (i:=i) (fun j hj hne=>by unfold idR;rw [if_neg (fun e=>hne e.symm),Rat.zero_mul]),if_pos hi]
 unfold idR
 rw [if_pos rfl,Rat.one_mul]
end
theorem J3 (p:List Nat) (i:Nat):freeTo p (i+1)=freeTo p i++if i∈p then [] else [i]:=by
 unfold freeTo
 rw [List.range_succ,List.filter_append]
 by_cases h:i∈p<;>simp [h]
theorem Ag8 (p:List Nat) (i:Nat):∀ d,∃ t,freeTo p (i+d)=freeTo p i++t
 | 0=>⟨[],(List.append_nil _).symm⟩
 | d+1=>by
  obtain ⟨t,ht⟩:=Ag8 p i d
  exact ⟨t++if i+d∈p then [] else [i+d],by rw [<-Nat.add_assoc,J3,ht,List.append_assoc]⟩
theorem BM3 {p:List Nat} {i C:Nat} (hi:i<C) (hp:i∉p):(freeTo p C).getD (freeTo p i).length 0=i/\(freeTo p i).length<(freeTo p C).length:=by
 obtain ⟨t,ht⟩:=Ag8 p (i+1) (C-(i+1))
 rw [show i+1+(C-(i+1))=C by omega,J3,if_neg hp] at ht
 rw [ht]
 constructor
 ·simp [List.getD_eq_getElem?_getD]
 ·simp
section
variable {m:List (List QV)} {b z:List QV}
end
end Go.Proofs.YtggegpiffjbngaaGreat
namespace Go.Kx
open Go Go.RowKit
def oN (o:List Int):List Nat:=o.map Int.toNat
def inL (n:NtV) (o:List Int):List Nat:=freeTo (oN o) n.ls.length
theorem AW2 {n:NtV} {o:List Int} (h:outsOk n o):∀ d i,i+d<o.length->o.getD i 0+d<=o.getD (i+d) 0
 | 0,i,_=>by simp
 | d+1,i,hd=>by
  have h1:=AW2 h d i (by omega)
  have h2:=(h (i+(d+1)) hd).2.2 (by omega)
  rw [show i+(d+1)-1=i+d by omega] at h2
  omega
theorem Aq7 {n:NtV} {o:List Int} (h:outsOk n o) {k:Nat}:k∈oN o<->∃ i,i<o.length/\o.getD i 0=k:=by
 unfold oN
 rw [List.mem_map]
 constructor
 ·rintro ⟨x,hx,rfl⟩
  obtain ⟨i,hi⟩:=List.mem_iff_getElem?.1 hx
  have hlt:=(List.getElem?_eq_some_iff.1 hi).1
  have e:o.getD i 0=x:=by rw [List.getD_eq_getElem?_getD,hi];rfl
  have:=h i hlt
  exact ⟨i,hlt,by omega⟩
 ·rintro ⟨i,hi,e⟩
  exact ⟨o.getD i 0,by rw [List.getD_eq_getElem?_getD,List.getElem?_eq_getElem hi];exact List.getElem_mem hi,by omega⟩
end Go.Kx
namespace Go.Proofs.YtggegpiffjbngaaGreat
open Go Go.Kx Go.RowKit
theorem Aw6 {n:NtV} {o:List Int} (h:chkE n≠0):outE n o=chkE n:=by unfold outE;rw [if_pos h]
theorem BH2 {n:NtV} {o:List Int} (h:outE n o=0):chkE n=0/\outsOk n o:=by
 unfold outE at h
 split at h
 ·exact absurd h (by assumption)
 ·split at h
  ·exact ⟨Classical.not_not.1 (by assumption),by assumption⟩
  ·cases h
theorem BJ8 {n:NtV} (h:chkE n=0):1<=n.b/\n.b<=6/\n.ls.length<=10/\chkOk n:=by
 unfold chkE at h
 split at h
 ·cases h
 ·split at h
  ·cases h
  ·split at h
   ·exact ⟨by omega,by omega,by omega,by assumption⟩
   ·cases h
theorem BF4:Ent Tryz.prog 47:=A0 Tryz.func47 (by kernel_rfl) rfl
theorem BD1 {S:Nat->Prop} {w:World} {vn vo:Value} {n:NtV} {o:List Int} (hn:eN.R S w vn n) (ho:eI.R S w vo o):CR Tryz.prog 47 #[vn,vo] w (Is (.int .i64 (outE n o))):=by
 obtain ⟨s,rfl,hs,hb⟩:=hn
 have hn:eN.R S w (.agg #[.int .i64 n.b,s]) n:=⟨s,rfl,hs,hb⟩
 obtain ⟨_,_,_,_,hll⟩:=RL.len ho
 obtain ⟨_,_,_,_,hls⟩:=RL.len hs
 refine enter Tryz.func47 O Tryz.ntmps47 O ?_
 refine .sr (.box O O fun w1 b2 n1=>.an O O ?_)
 obtain ⟨e1,k2,hb2,hs1⟩:=n1
 refine .seq (.sr (.ldA ty_N O O k2 O ?_))
 refine .call _ O BA9 O (Aw8 (hn.ext e1)) fun v2 w2 e2 h2=>.an O O ?_
 subst h2
 have x2:=e1.trans e2
 refine .sr (.mv O O ?_)
 by_cases hc:chkE n=0
 rotate_left
 ·refine .neqT O O O hc (.nil (.condT O (.sr (.mv O O (.an O O (.ret ?_))))))
  exact .plain [_] Tryz.results47 ⟨rfl,trivial⟩ ⟨x2,by rw [Aw6 hc];rfl⟩
 have hE:outsOk n o->outE n o=0:=fun h=>by unfold outE;rw [if_neg (by simpa using hc),if_pos h]
 have hE1:¬ outsOk n o->outE n o=1:=fun h=>by unfold outE;rw [if_neg (by simpa using hc),if_neg h]
 refine .neqF O O O hc (.nil (.condF O (.skip ?_)))
 have k2:=k2.ext e2
 have hs:=hs.ext x2
 have ho:=ho.ext x2
 refine .seq (.sr (.mv O O (.lenR un_I O O ho (.mv O O (.nil ?_)))))
 refine .block (.loop (α:=Nat) (fun i=>[(1,vo),(2,.pointer (some ⟨b2,0,none⟩)),(13,vo),(14,.int .i64 (o.length:Nat)),(15,.int .i64 (i:Nat))]) (fun i W=>W=w2/\i<=o.length/\∀ j,j<i->0<=o.getD j 0/\o.getD j 0<n.ls.length/\(0<j->o.getD (j-1) 0<o.getD j 0)) (fun i=>o.length-i) 0 ?_ ?_ ?_)
 ·exact lkA rfl
 ·exact ⟨rfl,Nat.zero_le _,fun j hj=>absurd hj (Nat.not_lt_zero _)⟩
 rintro i W ⟨rfl,hi,hall⟩
 refine .sr ?_
 rcases Nat.lt_or_ge i o.length with hlt | hge
 rotate_left
 ·refine .lssF O O O (by omega) (.nil (.seq (.condF O (.exit (.sr (.an O O (.ret ?_)))))))
  exact .plain [_] Tryz.results47 ⟨rfl,trivial⟩ ⟨x2,by rw [hE fun j hj=>hall j (by omega)];rfl⟩
 have hg:o[i]?=some (o.getD i 0):=A9 hlt
 refine .lssT O O O (by omega) (.nil (.seq (.condT O (.skip (.seq (.block (.sr (.mv O O (.ixN (i:=i) un_I B6 O O ho O hg fun q hq=>.ldE (E:=eInt .i64) B6 O O hq fun e he=>.asg O O (.an O O (.sr (.mv O O ?_))))))))))))
 obtain ⟨rfl,_⟩:=he
 have hbad:∀ {σ:Env},¬ (0<=o.getD i 0/\o.getD i 0<n.ls.length/\(0<i->o.getD (i-1) 0<o.getD i 0))->Leave Tryz.prog Tryz.f47 43 (fun v w'=>Ext w w'/\Is (.int .i64 (outE n o)) v w') ((4,.int .i64 1)::σ) [] W:=fun h=>.plain [_] Tryz.results47 ⟨rfl,trivial⟩ ⟨x2,by rw [hE1 fun h'=>h (h' i hlt)];rfl⟩
 by_cases h0:o.getD i 0<0
 ·refine .lssT O O O h0 (.mv O O (.gs O O O O O (.gs O O O O O (.gs O O O O O (.gs O O O O O (.gs O O O O O (.pick O O O (.mv O O (.gs O O O O O (.gs O O O O O (.gs O O O O O ?_)))))))))))
  refine .gu O O O O (.gu O O O O (.gu O O O O (.gu O O O O (.gu O O O O (.gu O O O O (.gu O O O O (.gs O O O O O (.pick O O O (.nil (.condT O (.sr (.an O O (.ret ?_)))))))))))))
  exact hbad (by omega)
 refine .lssF O O O (by omega) (.mv O O (.gr O O O O (.mv O O (.gr O O O O (.fa G7 O O (.gr O O O O (.ld K6 O O k2 O (.gr O O O O (.lenR K4 O O hs (.gr O O O O ?_))))))))))
 by_cases h1:(n.ls.length:Int)<=o.getD i 0
 ·refine .geqT O O O h1 (.pick O O O (.mv O O (.gs O O O O O (.gs O O O O O (.gs O O O O O ?_)))))
  refine .gu O O O O (.gu O O O O (.gu O O O O (.gu O O O O (.gu O O O O (.gu O O O O (.gu O O O O (.gs O O O O O (.pick O O O (.nil (.condT O (.sr (.an O O (.ret ?_)))))))))))))
  exact hbad (by omega)
 refine .geqF O O O (by omega) (.pick O O O (.mv O O (.gr O O O O (.mv O O (.gr O O O O ?_)))))
 have hnext:∀ {σ:Env},(0<i->o.getD (i-1) 0<o.getD i 0)->Kx.look σ 1=some vo->Kx.look σ 2=some (.pointer (some ⟨b2,0,none⟩))->Kx.look σ 13=some vo->Kx.look σ 14=some (.int .i64 (o.length:Nat))->∃ i':Nat,(∀ t v,Kx.look [(1,vo),(2,.pointer (some ⟨b2,0,none⟩)),(13,vo),(14,.int .i64 (o.length:Nat)),(15,.int .i64 (i':Nat))] t=some v->Kx.look ((15,.int .i64 ((i:Int)+1))::σ) t=some v)/\(W=W/\i'<=o.length/\∀ j,j<i'->0<=o.getD j 0/\o.getD j 0<n.ls.length/\(0<j->o.getD (j-1) 0<o.getD j 0))/\o.length-i'<o.length-i:=by
  intro σ hlast a1 a2 a3 a4
  refine ⟨i+1,A7 a1 (A7 a2 (A7 a3 (A7 a4 (lkA O)))),⟨rfl,hlt,fun j hj=>?_⟩,by omega⟩
  by_cases e:j=i
  ·subst e;exact ⟨by omega,by omega,hlast⟩
  ·exact hall j (by omega)
 by_cases hi0:0<i
 ·have hg':o[i-1]?=some (o.getD (i-1) 0):=A9 (by omega)
  refine .gtrT O O O (by omega) (.gr O O O O (.mv O O (.gr O O O O (.mv O O (.gr O O O O (.mv O O (.gr O O O O (.mv O O (.gr O O O O (.sub O O O ?_))))))))))
  rw [wI (by omega),show (i:Int)-1=((i-1:Nat):Int) by omega]
  refine .gr O O O O (.ixN (i:=i-1) un_I B6 O O ho O hg' fun q hq=>.gr O O O O (.ldE (E:=eInt .i64) B6 O O hq fun e he=>?_))
  obtain ⟨rfl,_⟩:=he
  by_cases hle:o.getD i 0<=o.getD (i-1) 0
  ·refine .gr O O O O (.leqT O O O hle (.gr O O O O (.pick O O O (.pick O O O (.nil (.condT O (.sr (.an O O (.ret ?_)))))))))
   exact hbad (fun h=>by have:=h.2.2 hi0;omega)
  ·refine .gr O O O O (.leqF O O O (by omega) (.gr O O O O (.pick O O O (.pick O O O (.nil (.condF O (.skip (.region (.add O O O (.mv O O (.nil ?_)))))))))))
   rw [wI (by omega)]
   exact ⟨rfl,hnext (fun _=>by omega) O O O rfl⟩
 ·refine .gtrF O O O (by omega) (.gr O O O O (.mv O O (.gs O O O O O (.gs O O O O O (.gs O O O O O (.gs O O O O O (.gs O O O O O (.gs O O O O O (.gs O O O O O (.gr O O O O (.pick O O O (.pick O O O (.nil (.condF O (.skip (.region (.add O O O (.mv O O (.nil ?_)))))))))))))))))))
  rw [wI (by omega)]
  exact ⟨rfl,hnext (fun h=>absurd h hi0) O O O rfl⟩
theorem Ac7:Ent Tryz.prog 132:=A0 Tryz.func132 (by kernel_rfl) rfl
theorem Ab9 {w:World} {vn vo:Value} {x y:Value} (hn:vn=.agg #[x,y]) {a:Option Addr} {m c:Nat} (ho:vo=.slice a m c):CR Tryz.prog 132 #[vn,vo] w (fun v w'=>∃ b1 b2,v=.func (.func 185) #[] #[.pointer (some ⟨b1,0,none⟩),.pointer (some ⟨b2,0,none⟩)] /\
  Blk w' b1 24 #[x,y]/\Blk w' b2 25 #[vo]/\w.heap.size<=b1/\w.heap.size<=b2):=by
 subst hn;subst ho
 refine enter Tryz.func132 O Tryz.ntmps132 O ?_
 refine .sr (.box O O fun w1 b1 n1=>.box O O fun w2 b2 n2=>.an O O ?_)
 obtain ⟨e1,k1,hb1,hs1⟩:=n1
 obtain ⟨e2,k2,hb2,hs2⟩:=n2
 refine .sr (.mkf [] [_,_] O O O O (.an O O (.ret ?_)))
 exact .plain [_] Tryz.results132 ⟨rfl,trivial⟩ ⟨e1.trans e2,b1,b2,rfl,k1.ext e2,k2,by omega,by have:=e1.size;omega⟩
theorem BV4:Ent Tryz.prog 185:=A0 Tryz.func185 (by kernel_rfl) rfl
theorem BT4 {S:Nat->Prop} {n:NtV} {o:List Int} {s vo x:Value} {b1 b2:Nat} (hok:outsOk n o) (hl:n.ls.length<=10):Iter Tryz.prog 185 #[.pointer (some ⟨b1,0,none⟩),.pointer (some ⟨b2,0,none⟩)] (inL n o).length
  (fun k=>[.int .i64 ((inL n o).getD k 0:Nat)]) (fun W=>Blk W b1 24 #[x,s]/\Blk W b2 25 #[vo]/\eLs.R S W s n.ls/\eI.R S W vo o):=by
 intro l J X stJ stX hF hy W hJ
 have hF0:=hF 0 W hJ
 refine enterG Tryz.func185 O Tryz.ntmps185 O ?_
 refine .sr (.an O O (.sr (.fa G7 O O (.ld K6 O O hF0.1 O (.lenR K4 O O hF0.2.2.1 (.mv O O (.nil ?_)))))))
 refine .block (.loop (α:=Nat×Nat) (fun y=>[(9,.int .i64 (y.1:Nat)),(8,.int .i64 (n.ls.length:Nat)),(4,.int .i64 (y.2:Nat)),(0,.func (.yield l) #[] #[]),(1,.pointer (some ⟨b1,0,none⟩)),(2,.pointer (some ⟨b2,0,none⟩))])
  (fun y W=>J (freeTo (oN o) y.1).length W/\y.1<=n.ls.length/\y.2<=o.length/\(∀ i,i<y.2->o.getD i 0<y.1)/\(y.2<o.length->(y.1:Int)<=o.getD y.2 0)) (fun y=>n.ls.length-y.1) (0,0) ?_ ?_ ?_)
 ·exact lkA rfl
 ·exact ⟨hJ,Nat.zero_le _,Nat.zero_le _,fun i hi=>absurd hi (Nat.not_lt_zero _),fun h=>(hok 0 h).1⟩
 rintro ⟨k,nx⟩ W ⟨hJ,hk,hnx,hlo,hhi⟩
 replace hJ:J (freeTo (oN o) k).length W:=hJ
 replace hk:k<=n.ls.length:=hk
 replace hnx:nx<=o.length:=hnx
 replace hlo:∀ i,i<nx->o.getD i 0<k:=hlo
 replace hhi:nx<o.length->(k:Int)<=o.getD nx 0:=hhi
 obtain ⟨hB1,hB2,hA,hB⟩:=hF _ W hJ
 obtain ⟨_,_,_,_,hll⟩:=RL.len hB
 refine .sr ?_
 rcases Nat.lt_or_ge k n.ls.length with hlt | hge
 rotate_left
 ·refine .lssF O O O (by omega) (.nil (.seq (.condF O (.exit ?_))))
  refine .plain [] Tryz.results185 trivial ?_
  have:k=n.ls.length:=by omega
  subst this;exact .inl hJ
 refine .lssT O O O (by omega) (.nil (.seq (.condT O (.skip (.seq (.block (.sr (.mv O O (.an O O ?_)))))))))
 refine .mid (α:=Unit) (fun _=>[(9,.int .i64 (k:Nat)),(8,.int .i64 (n.ls.length:Nat)),(4,.int .i64 (nx:Nat)),(5,.int .i64 (k:Nat)),(0,.func (.yield l) #[] #[]),(1,.pointer (some ⟨b1,0,none⟩)),(2,.pointer (some ⟨b2,0,none⟩))]) (fun _ W'=>W'=W/\k∉oN o) ?_ ?_
 ·refine .sr (.mv O O (.ld ty_I O O hB2 O (.lenR un_I O O hB ?_)))
  rcases Nat.lt_or_ge nx o.length with hn1 | hn1
  ·have hg:o[nx]?=some (o.getD nx 0):=A9 hn1
   refine .lssT O O O (by omega) (.mv O O (.gr O O O O (.ld ty_I O O hB2 O (.gr O O O O (.mv O O (.gr O O O O (.ixN (i:=nx) un_I B6 O O hB O hg fun q hq=>.gr O O O O (.ldE (E:=eInt .i64) B6 O O hq fun e he=>.gr O O O O (.mv O O (.gr O O O O ?_))))))))))
   obtain ⟨rfl,_⟩:=he
   have:=hhi hn1
   by_cases he:o.getD nx 0=k
   ·refine .eqlT O O O he (.pick O O O (.nil (.condT O (.sr (.mv O O (.add O O O (.an O O (.exit (.region (.add O O O (.mv O O (.nil ?_))))))))))))
    rw [wI (by omega),wI (by omega)]
    refine ⟨rfl,(k+1,nx+1),lkA rfl,⟨?_,hlt,hn1,fun i hi=>?_,fun h=>?_⟩,by show n.ls.length-(k+1)<n.ls.length-k;omega⟩
    ·show J (freeTo (oN o) (k+1)).length W
     rw [J3,if_pos ((Aq7 hok).2 ⟨nx,hn1,he⟩),List.append_nil]
     exact hJ
    ·show o.getD i 0<((k+1:Nat):Int)
     by_cases e:i=nx
     ·subst e;omega
     ·have:=hlo i (by have:i<nx+1:=hi;omega);omega
    ·show ((k+1:Nat):Int)<=o.getD (nx+1) 0
     have:=AW2 hok 1 nx h
     omega
   ·refine .eqlF O O O he (.pick O O O (.nil (.condF O (.skip ?_))))
    refine ⟨rfl,(),lkA rfl,rfl,fun hm=>?_⟩
    obtain ⟨i,hi,e⟩:=(Aq7 hok).1 hm
    rcases Nat.lt_or_ge i nx with h | h
    ·have:=hlo i h;omega
    ·have:=AW2 hok (i-nx) nx (by omega)
     rw [show nx+(i-nx)=i by omega] at this
     omega
  ·refine .lssF O O O (by omega) (.mv O O (.gs O O O O O (.gs O O O O O (.gs O O O O O (.gs O O O O O (.gs O O O O O (.gs O O O O O (.pick O O O (.nil (.condF O (.skip ?_)))))))))))
   refine ⟨rfl,(),lkA rfl,rfl,fun hm=>?_⟩
   obtain ⟨i,hi,e⟩:=(Aq7 hok).1 hm
   have:=hlo i (by omega)
   omega
 rintro _ _ ⟨rfl,hno⟩
 obtain ⟨hat,hatl⟩:=BM3 (C:=n.ls.length) hlt hno
 have hy':=hy (freeTo (oN o) k).length _ hatl hJ
 dsimp only at hy'
 rw [show (inL n o).getD (freeTo (oN o) k).length 0=k from hat] at hy'
 refine .sr (.mv O O (.mv O O ?_))
 refine .yld (l:=l) [.int .i64 (k:Nat)] (R:=fun v w'=>(v=.bool true/\J ((freeTo (oN o) k).length+1) w')\/(v=.bool false/\X w')) O O O ?_ ?_
 ·refine YieldAt.mono hy' ?_
  rintro e W' (⟨rfl,h⟩ | ⟨rfl,h⟩)
  ·exact ⟨_,rfl,.inl ⟨rfl,h⟩⟩
  ·exact ⟨_,rfl,.inr ⟨rfl,h⟩⟩
 rintro v w' (⟨rfl,h⟩ | ⟨rfl,h⟩)
 ·refine .not_ O O (.nil (.condF O (.skip (.region (.add O O O (.mv O O (.nil ?_)))))))
  rw [wI (by omega)]
  refine ⟨rfl,(k+1,nx),lkA rfl,⟨?_,hlt,hnx,fun i hi=>?_,fun hn1=>?_⟩,by show n.ls.length-(k+1)<n.ls.length-k;omega⟩
  ·show J (freeTo (oN o) (k+1)).length w'
   rw [J3,if_neg hno,List.length_append]
   exact h
  ·show o.getD i 0<((k+1:Nat):Int)
   have:=hlo i hi;omega
  ·show ((k+1:Nat):Int)<=o.getD nx 0
   have h1:=hhi hn1
   have h2:o.getD nx 0≠k:=fun e=>hno ((Aq7 hok).2 ⟨nx,hn1,e⟩)
   omega
 ·refine .not_ O O (.nil (.condT O (.ret ?_)))
  exact .plain [] Tryz.results185 trivial (.inr h)
theorem AW4 (p:List Nat) (i:Nat):(freeTo p i).length<=i:=by
 unfold freeTo
 have:=List.length_filter_le (fun k => !(decide (k∈p))) (List.range i)
 simpa using this
theorem AT5 (n:NtV) (o:List Int):(inL n o).length<=n.ls.length:=AW4 _ _
structure InJ (w:World) (S:Nat->Prop) (b7 b1 b2:Nat) (x s vo:Value) (n:NtV) (o:List Int) (k:Nat) (W:World):Prop where
 low:Below w.heap.size w W
 k1:Blk W b1 24 #[x,s]
 k2:Blk W b2 25 #[vo]
 acc:∃ v,Blk W b7 25 #[v]/\OwnL (eInt .i64) 3 w.heap.size (fun k=>S k/\k≠b7) W v (pInts ((inL n o).take k))
theorem InJ.sft {w0:World} {S:Nat->Prop} {b7 b1 b2:Nat} {x s vo:Value} {n:NtV} {o:List Int} {k D:Nat} {W W':World} (h:InJ w0 S b7 b1 b2 x s vo n o k W) (hs:Sft D W W') (hD:w0.heap.size<=D):InJ w0 S b7 b1 b2 x s vo n o k W':=by
 obtain ⟨v,h1,h2⟩:=h.acc
 exact ⟨h.low.trans (hs.below.mono hD),hs.cells.blk trivial h.k1,hs.cells.blk trivial h.k2,v,hs.cells.blk trivial h1,h2.kp hs.cells⟩
theorem BB2:zeroOf Tryz.prog 25=some (.slice none 0 0):=by kernel_rfl
theorem BA8:Ent Tryz.prog 70:=A0 Tryz.func70 (by kernel_rfl) rfl
theorem Aw7 {S:Nat->Prop} {w:World} {vn vo:Value} {n:NtV} {o:List Int} (up:Up S w) (hn:eN.R S w vn n) (ho:eI.R S w vo o):CR Tryz.prog 70 #[vn,vo] w (Two (eI.at S (if outE n o=0 then pInts (inL n o) else [])) (Is (.int .i64 (outE n o)))):=by
 obtain ⟨s,rfl,hs,hb⟩:=hn
 have hn:eN.R S w (.agg #[.int .i64 n.b,s]) n:=⟨s,rfl,hs,hb⟩
 obtain ⟨ao,co,hvo,_⟩:=RL.len ho
 refine enter Tryz.func70 O Tryz.ntmps70 O ?_
 refine .sr (.box O O fun w1 b2 n1=>.asg O O (.an O O ?_))
 obtain ⟨e1,k2,hb2,hs1⟩:=n1
 refine .seq (.sr (.ldA ty_N O O k2 O (.mv O O ?_)))
 refine .call _ O BF4 O (BD1 (hn.ext e1) (ho.ext e1)) fun v2 w2 e2 h2=>.an O O ?_
 subst h2
 have x2:=e1.trans e2
 refine .sr (.mv O O ?_)
 by_cases hE:outE n o=0
 rotate_left
 ·refine .neqT O O O hE (.nil (.condT O (.sr (.mv O O (.asg O O (.an O O (.ret ?_)))))))
  refine .plain [_,_] Tryz.results70 ⟨rfl,rfl,trivial⟩ ⟨x2,_,_,rfl,?_,rfl⟩
  rw [if_neg hE];exact RL.nil
 rw [if_pos hE]
 obtain ⟨hc,hok⟩:=BH2 hE
 obtain ⟨_,_,hl10,_⟩:=BJ8 hc
 refine .neqF O O O hE (.nil (.condF O (.skip ?_)))
 refine .sr (.alloc O BB2 fun w3 b7 n3=>.nil ?_)
 obtain ⟨e3,k7,hb7,hs3⟩:=n3
 have x3:=x2.trans e3
 refine .seq (.sr (.ldA ty_N O O ((k2.ext e2).ext e3) O (.mv O O ?_)))
 refine .call _ O Ac7 O (Ab9 O hvo) fun v4 w4 e4 h4=>.nil ?_
 obtain ⟨p1,p2,rfl,kp1,kp2,hp1,hp2⟩:=h4
 have x4:=x3.trans e4
 have hs4:=e4.size
 have hs2:=e2.size
 have hsL:∀ {W:World},Below w.heap.size w W->eLs.R (fun k=>S k/\k<w.heap.size) W s n.ls:=fun hB=>eLs.keep (fun k c t f hk h=>(hB.block k hk.2).trans h) (ER.lt eLs hs)
 have hoL:∀ {W:World},Below w.heap.size w W->eI.R (fun k=>S k/\k<w.heap.size) W vo o:=fun hB=>eI.keep (fun k c t f hk h=>(hB.block k hk.2).trans h) (ER.lt eI ho)
 refine .block (.range (BT4 (S:=fun k=>S k/\k<w.heap.size) (n:=n) (o:=o) (s:=s) (vo:=vo) (x:=.int .i64 n.b) hok hl10) O BV4 (fun k=>rfl) (by decide)
  (InJ w S b7 p1 p2 (.int .i64 n.b) s vo n o) (fun _ _=>False) (fun k W W' h hs=>h.sft hs x4.size) (fun _ _ _ h _=>h.elim) (fun k W h=>⟨h.k1,h.k2,hsL h.low,hoL h.low⟩) ?_ ?_ ?_ (fun _ _ h=>h.elim))
 ·refine ⟨x4,kp1,kp2,_,k7.ext e4,?_⟩
  rw [List.take_zero];exact OwnL.nil
 ·intro l k W hk hJ
  refine .region (.an O O ⟨rfl,rfl,fun W hJ hsz=>?_⟩)
  obtain ⟨hlow,kp1,kp2,v,k7,hown⟩:=hJ
  have hlw:=hlow.size
  refine .block (.region (.ld ty_I O O k7 O (.mv O O (.bsl _ O O AQ6 fun W1 by_ ny=>?_))))
  obtain ⟨ey,ky,hby,hsy⟩:=ny
  have hlow1:=hlow.trans (ey.mono hlw)
  have hkl:=AT5 n o
  refine .gv O O (J8 (E:=eInt .i64) (base:=w.heap.size) (n:=(((inL n o).getD k 0:Nat):Int)) (e:=.int .i64 (((inL n o).getD k 0:Nat):Int)) (by decide) un_I AD5 O O O (hown.ext ey) ky ⟨rfl,by
    have:(inL n o).getD k 0<n.ls.length:=by
     have hm:(inL n o).getD k 0∈inL n o:=F6 hk
     unfold inL freeTo at hm
     exact List.mem_range.1 (List.mem_filter.1 hm).1
    exact K5.2 (by omega)⟩ (by simp;omega) (by decide) hlow1.size) ?_
  rintro v8 W8 ⟨ho8,hg8⟩
  have hown1:=hown.ext ey
  have k78:=hown1.gblk hg8 (k7.ext ey) (by decide)
  have kp18:=hown1.gblk hg8 (kp1.ext ey) (by decide)
  have kp28:=hown1.gblk hg8 (kp2.ext ey) (by decide)
  have hlow8:=hown1.below hg8 hlow1 hlow1.size
  obtain ⟨a8,c8,hv8⟩:=ho8.slice
  refine .store ty_I O O k78 (by rw [hv8];rfl) (by simp) (by rw [hv8];simp [one1,Value.cells]) fun W9 k9 u9=>.nil ?_
  refine ⟨((Oth.ext ey).trans (hown1.oth hg8)).trans (Oth.upd u9 k78),u9.below hlow8 (by omega),kp18.upd u9 (by omega),kp28.upd u9 (by omega),v8,by rw [hv8] at k9 ⊢;exact k9,?_⟩
  have:=ho8.upd u9 k78 (by decide) (fun h=>h.2 O)
  have htk:pInts ((inL n o).take (k+1))=pInts ((inL n o).take k)++[(((inL n o).getD k 0:Nat):Int)]:=by
   unfold pInts
   rw [List.take_add_one,A9 (z:=0) hk,List.map_append]
   rfl
  rw [htk]
  exact this
 ·intro W hJ hD
  obtain ⟨hlow,kp1,kp2,v,k7,hown⟩:=hJ
  refine .sr (.ld ty_I O O k7 O (.asg O O (.an O O (.ret ?_))))
  refine .mark [_,_] Tryz.results70 hD ⟨rfl,rfl,trivial⟩ ⟨AA4 hlow x4.size,_,_,rfl,?_,by rw [hE]⟩
  rw [List.take_of_length_le (Nat.le_refl _)] at hown
  exact (hown.kp (Kp.put hD O)).toR up (fun _ h=>h.1)
end Go.Proofs.YtggegpiffjbngaaGreat
namespace Go.Kx
def dl (a b:Nat):Rat:=if a=b then 1 else 0
theorem dl_self (a:Nat):dl a a=1:=if_pos rfl
theorem BJ3 {a b:Nat} (h:a≠b):dl a b=0:=if_neg h
theorem AP1 {n a:Nat} (f:Nat->Rat) (h:a<n):sumN n (fun b=>f b*dl a b)=f a:=by
 rw [G9 (i:=a) (fun k _ hne=>by rw [BJ3 (Ne.symm hne),Rat.mul_zero]),if_pos h,dl_self,Rat.mul_one]
theorem rat_sq (x:Rat):0<=x*x:=by
 rcases Rat.le_total (a:=0) (b:=x) with h | h
 ·exact Rat.mul_nonneg h h
 ·have h2:0 <= -x:=by grind
  have:=Rat.mul_nonneg h2 h2
  grind
theorem rat_sq0 {x:Rat} (h:x*x=0):x=0:=by
 rcases Rat.mul_eq_zero.1 h with h | h<;>exact h
theorem Av0 {n:Nat} {f:Nat->Rat} (h:∀ k,k<n->0<=f k):0<=sumN n f:=by
 induction n with
 | zero=>exact Rat.le_refl
 | succ n ih =>
  have h1:=ih fun k hk=>h k (by omega)
  have h2:=h n (by omega)
  unfold sumN
  grind
theorem sumN_le {n:Nat} {f g:Nat->Rat} (h:∀ k,k<n->f k<=g k):sumN n f<=sumN n g:=by
 have:=Av0 (n:=n) (f:=fun k=>g k-f k) fun k hk=>by have:=h k hk;grind
 rw [AE6] at this
 grind
theorem BK6 {n:Nat} {f:Nat->Rat} (h:∀ k,k<n->0<=f k) {j:Nat} (hj:j<n):f j<=sumN n f:=by
 have h1:sumN n (fun k=>if k=j then f j else 0)=f j:=by
  rw [G9 (i:=j) (fun k _ hne=>if_neg hne),if_pos hj,if_pos rfl]
 rw [<-h1]
 refine sumN_le fun k hk=>?_
 have:=h k hk
 by_cases e:k=j
 ·subst e;rw [if_pos rfl];exact Rat.le_refl
 ·rw [if_neg e];exact this
theorem BK7 {n:Nat} {f:Nat->Rat} (h:∀ k,k<n->0<=f k) (h0:sumN n f=0) {j:Nat} (hj:j<n):f j=0:=by
 have h1:=BK6 h hj
 have h2:=h j hj
 rw [h0] at h1
 exact Rat.le_antisymm h1 h2
structure Nw where
 B:Nat
 M:Nat
 F:Nat->Nat
 T:Nat->Nat
 g:Nat->Rat
structure Nw.Ok (n:Nw):Prop where
 f:∀ k,k<n.M->n.F k<n.B
 t:∀ k,k<n.M->n.T k<n.B
 p:∀ k,k<n.M->0<=n.g k
namespace Nw
section
variable (n:Nw)
def inc (k b:Nat):Rat:=dl (n.F k) b-dl (n.T k) b
def fl (θ:Nat->Rat) (k:Nat):Rat:=n.g k*(θ (n.F k)-θ (n.T k))
def off (f:Nat->Rat) (b:Nat):Rat:=sumN n.M fun k=>n.inc k b*f k
def lap (θ:Nat->Rat) (b:Nat):Rat:=n.off (n.fl θ) b
def Lm (b c:Nat):Rat:=sumN n.M fun k=>n.g k*(n.inc k b*n.inc k c)
def clo (D:Nat->Prop):Prop:=∀ k,k<n.M->n.g k≠0->(D (n.F k)<->D (n.T k))
def rootTo:Nat->Nat->Nat
 | 0,b=>b
 | j+1,b=>if n.g j=0 then rootTo j b else if rootTo j b=max (rootTo j (n.F j)) (rootTo j (n.T j)) then min (rootTo j (n.F j)) (rootTo j (n.T j)) else rootTo j b
def root (b:Nat):Nat:=n.rootTo n.M b
def gm (b c:Nat):Rat:=if n.root b=b then dl b c else n.Lm b c
end
section
variable {n:Nw} {θ φ f:Nat->Rat}
theorem BG4 (ok:n.Ok) {k:Nat} (hk:k<n.M) (φ:Nat->Rat):sumN n.B (fun b=>φ b*n.inc k b)=φ (n.F k)-φ (n.T k):=by
 have e:sumN n.B (fun b=>φ b*n.inc k b)=sumN n.B (fun b=>φ b*dl (n.F k) b-φ b*dl (n.T k) b):=A6 fun b _=>by unfold inc;grind
 rw [e,AE6,AP1 φ (ok.f k hk),AP1 φ (ok.t k hk)]
theorem green (ok:n.Ok) (φ f:Nat->Rat):sumN n.B (fun b=>φ b*n.off f b)=sumN n.M fun k=>(φ (n.F k)-φ (n.T k))*f k:=by
 have e:sumN n.B (fun b=>φ b*n.off f b)=sumN n.B (fun b=>sumN n.M fun k=>φ b*n.inc k b*f k):=A6 fun b _=>by
  unfold off
  rw [<-Q0]
  exact A6 fun k _=>by grind
 rw [e,P1]
 refine A6 fun k hk=>?_
 rw [S9,BG4 ok hk]
theorem lap_sum (ok:n.Ok) (θ:Nat->Rat) (b:Nat):sumN n.B (fun c=>n.Lm b c*θ c)=n.lap θ b:=by
 have e:sumN n.B (fun c=>n.Lm b c*θ c)=sumN n.B (fun c=>sumN n.M fun k=>n.g k*n.inc k b*(θ c*n.inc k c)):=A6 fun c _=>by
  unfold Lm
  rw [<-S9]
  exact A6 fun k _=>by grind
 rw [e,P1]
 unfold lap off
 refine A6 fun k hk=>?_
 rw [Q0,BG4 ok hk]
 unfold fl
 grind
theorem rigid (ok:n.Ok) {D:Nat->Prop} (hD:n.clo D) (h:∀ b,b<n.B->D b->θ b*n.lap θ b=0):∀ k,k<n.M->n.g k≠0->D (n.F k)->θ (n.F k)=θ (n.T k):=by
 classical
 have e:=green ok (fun b=>if D b then θ b else 0) (n.fl θ)
 have e0:sumN n.B (fun b=>(if D b then θ b else 0)*n.off (n.fl θ) b)=0:=E9 fun b hb=>by
  by_cases hd:D b
  ·rw [if_pos hd];exact h b hb hd
  ·rw [if_neg hd,Rat.zero_mul]
 rw [e0] at e
 have hterm:∀ k,k<n.M->((if D (n.F k) then θ (n.F k) else 0)-(if D (n.T k) then θ (n.T k) else 0))*n.fl θ k=if D (n.F k) then n.g k*((θ (n.F k)-θ (n.T k))*(θ (n.F k)-θ (n.T k))) else 0:=by
  intro k hk
  by_cases hg:n.g k=0
  ·unfold fl
   rw [hg]
   split<;>grind
  ·have:=hD k hk hg
   by_cases hd:D (n.F k)
   ·rw [if_pos hd,if_pos (this.1 hd),if_pos hd]
    unfold fl
    grind
   ·rw [if_neg hd,if_neg (fun x=>hd (this.2 x)),if_neg hd]
    grind
 intro k hk hg hd
 have hn:∀ k,k<n.M->0<=((if D (n.F k) then θ (n.F k) else 0)-(if D (n.T k) then θ (n.T k) else 0))*n.fl θ k:=fun k hk=>by
  rw [hterm k hk]
  split
  ·exact Rat.mul_nonneg (ok.p k hk) (rat_sq _)
  ·exact Rat.le_refl
 have h0:=BK7 hn e.symm hk
 rw [hterm k hk,if_pos hd] at h0
 rcases Rat.mul_eq_zero.1 h0 with h0 | h0
 ·exact absurd h0 hg
 ·have:=rat_sq0 h0
  grind
theorem BG7 {θ:Nat->Rat}:∀ j,(∀ k,k<j->n.g k≠0->θ (n.F k)=θ (n.T k))->∀ b,θ (n.rootTo j b)=θ b
 | 0,_,b=>rfl
 | j+1,h,b=>by
  have ih:=BG7 j fun k hk=>h k (by omega)
  unfold rootTo
  split
  ·exact ih b
  ·rename_i hg
   split
   ·rename_i e
    have h1:=h j (by omega) hg
    have hF:=ih (n.F j)
    have hT:=ih (n.T j)
    have hb:=ih b
    have h2:θ (max (n.rootTo j (n.F j)) (n.rootTo j (n.T j)))=θ (n.F j):=by
     rcases Nat.le_total (n.rootTo j (n.F j)) (n.rootTo j (n.T j)) with h | h
     ·rw [Nat.max_eq_right h,hT,h1]
     ·rw [Nat.max_eq_left h,hF]
    have h3:θ (min (n.rootTo j (n.F j)) (n.rootTo j (n.T j)))=θ (n.F j):=by
     rcases Nat.le_total (n.rootTo j (n.F j)) (n.rootTo j (n.T j)) with h | h
     ·rw [Nat.min_eq_left h,hF]
     ·rw [Nat.min_eq_right h,hT,h1]
    rw [h3,<-h2,<-e,hb]
   ·exact ih b
theorem An6:∀ j b,n.rootTo j b<=b
 | 0,b=>Nat.le_refl b
 | j+1,b=>by
  have ih:=An6 j
  have:=ih b
  unfold rootTo
  split
  ·exact this
  ·split
   ·rename_i e;omega
   ·exact this
theorem AX9:∀ j b,n.rootTo j (n.rootTo j b)=n.rootTo j b
 | 0,b=>rfl
 | j+1,b=>by
  have ih:=AX9 j
  have ib:=ih b
  have iF:=ih (n.F j)
  have iT:=ih (n.T j)
  by_cases hg:n.g j=0
  ·have e:∀ b,n.rootTo (j+1) b=n.rootTo j b:=fun b=>by rw [rootTo,if_pos hg]
   rw [e,e];exact ib
  ·have e:∀ b,n.rootTo (j+1) b=if n.rootTo j b=max (n.rootTo j (n.F j)) (n.rootTo j (n.T j)) then min (n.rootTo j (n.F j)) (n.rootTo j (n.T j)) else n.rootTo j b:=fun b=>by rw [rootTo,if_neg hg]
   rw [e b]
   split
   ·rw [e]
    rcases Nat.le_total (n.rootTo j (n.F j)) (n.rootTo j (n.T j)) with h | h
    ·rw [Nat.min_eq_left h,Nat.max_eq_right h,iF]
     split
     ·rfl
     ·rfl
    ·rw [Nat.min_eq_right h,Nat.max_eq_left h,iT]
     split
     ·rfl
     ·rfl
   ·rename_i hne
    rw [e,ib,if_neg hne]
theorem AY0:∀ j k,k<j->n.g k≠0->n.rootTo j (n.F k)=n.rootTo j (n.T k)
 | 0,k,h,_=>absurd h (Nat.not_lt_zero _)
 | j+1,k,h,hg=>by
  by_cases e:k=j
  ·subst e
   rw [rootTo,rootTo,if_neg hg,if_neg hg]
   rcases Nat.le_total (n.rootTo k (n.F k)) (n.rootTo k (n.T k)) with h | h
   ·rw [Nat.max_eq_right h,Nat.min_eq_left h]
    rw [if_pos rfl]
    split
    ·rfl
    ·rfl
   ·rw [Nat.max_eq_left h,Nat.min_eq_right h]
    rw [if_pos rfl]
    split
    ·rfl
    ·rfl
  ·have ih:=AY0 j k (by omega) hg
   rw [rootTo,rootTo,ih]
theorem root_le (b:Nat):n.root b<=b:=An6 _ b
theorem root_root (b:Nat):n.root (n.root b)=n.root b:=AX9 _ b
theorem root_line {k:Nat} (hk:k<n.M) (hg:n.g k≠0):n.root (n.F k)=n.root (n.T k):=AY0 _ k hk hg
theorem root_const (h:∀ k,k<n.M->n.g k≠0->θ (n.F k)=θ (n.T k)) (b:Nat):θ (n.root b)=θ b:=BG7 _ h b
theorem fl_out {k:Nat} (h:n.g k=0):n.fl θ k=0:=by unfold fl;rw [h,Rat.zero_mul]
theorem ker0 (ok:n.Ok) (h:∀ b,b<n.B->if n.root b=b then θ b=0 else n.lap θ b=0):∀ b,b<n.B->θ b=0:=by
 have hr:=rigid (θ:=θ) ok (D:=fun _=>True) (fun _ _ _=>Iff.rfl) fun b hb _=>by
  have:=h b hb
  split at this
  ·rw [this,Rat.zero_mul]
  ·rw [this,Rat.mul_zero]
 intro b hb
 rw [<-root_const (fun k hk hg=>hr k hk hg trivial) b]
 have hle:=root_le (n:=n) b
 have:=h (n.root b) (by omega)
 rw [if_pos (root_root b)] at this
 exact this
theorem gm_sum (ok:n.Ok) (θ:Nat->Rat) {b:Nat} (hb:b<n.B):sumN n.B (fun c=>n.gm b c*θ c)=if n.root b=b then θ b else n.lap θ b:=by
 unfold gm
 split
 ·rw [<-AP1 θ hb]
  exact A6 fun c _=>by grind
 ·exact lap_sum ok θ b
theorem lap_sub (b:Nat):n.lap (fun c=>θ c-φ c) b=n.lap θ b-n.lap φ b:=by
 unfold lap off
 rw [<-AE6]
 exact A6 fun k _=>by unfold fl;grind
theorem uniq (ok:n.Ok) (h:∀ b,b<n.B->if n.root b=b then θ b=φ b else n.lap θ b=n.lap φ b):∀ b,b<n.B->θ b=φ b:=by
 intro b hb
 have:=ker0 (θ:=fun c=>θ c-φ c) ok (fun b hb=>by
  have:=h b hb
  split at this
  ·rw [if_pos (by assumption),this];grind
  ·rw [if_neg (by assumption),lap_sub,this];grind) b hb
 grind
end
end Nw
open Go Go.RowKit
def ln0:LnV:=⟨0,0,1,0⟩
def nwOf (n:NtV) (o:List Int):Nw where
 B:=n.b.toNat
 M:=n.ls.length
 F:=fun k=>(n.ls.getD k ln0).f.toNat
 T:=fun k=>(n.ls.getD k ln0).t.toNat
 g:=fun k=>if k∈oN o then 0 else ((n.ls.getD k ln0).x:Rat)⁻¹
def tabI (n:Nat) (p:Nat->Nat):List Int:=(List.range n).map fun b=>((p b:Nat):Int)
theorem N0 (n:Nat) (p:Nat->Nat):(tabI n p).length=n:=by simp [tabI]
theorem P9 {n i:Nat} {p:Nat->Nat} (h:i<n):(tabI n p)[i]?=some ((p i:Nat):Int):=by unfold tabI;rw [List.getElem?_map,List.getElem?_range h];rfl
theorem BQ1 {n i v:Nat} {p:Nat->Nat}:(tabI n p).set i ((v:Nat):Int)=tabI n fun b=>if b=i then v else p b:=by
 apply List.ext_getElem?
 intro j
 rw [List.getElem?_set]
 unfold tabI
 rw [List.length_map,List.length_range,List.getElem?_map,List.getElem?_map]
 by_cases hj:i=j
 ·subst hj
  rw [if_pos rfl]
  by_cases h:i<n
  ·rw [if_pos h,List.getElem?_range h];simp
  ·rw [if_neg h,List.getElem?_eq_none (by simpa using h)];rfl
 ·rw [if_neg hj]
  by_cases h:j<n
  ·rw [List.getElem?_range h];simp [Ne.symm hj]
  ·rw [List.getElem?_eq_none (by simpa using h)];rfl
def Clm (B:Nat) (p R:Nat->Nat):Prop:=∀ b,b<B->p b<=b/\(p b=b->R b=b)/\(p b≠b->R b=R (p b))
def Nw.stepR (n:Nw) (R:Nat->Nat) (k:Nat):Nat->Nat:=fun b=>if R b=max (R (n.F k)) (R (n.T k)) then min (R (n.F k)) (R (n.T k)) else R b
def Nw.rootF (n:Nw) (l:List Nat):Nat->Nat:=l.foldl n.stepR id
theorem Nw.rootF_snoc (n:Nw) (l:List Nat) (k:Nat):n.rootF (l++[k])=n.stepR (n.rootF l) k:=by unfold Nw.rootF;rw [List.foldl_append];rfl
theorem Nw.rootF_free {n:Nw} {p:List Nat}:∀ j,(∀ k,k<j->(n.g k=0<->k∈p))->n.rootTo j=n.rootF (freeTo p j)
 | 0,_=>rfl
 | j+1,h=>by
  have ih:=Nw.rootF_free j fun k hk=>h k (by omega)
  have hj:=h j (by omega)
  rw [Go.Proofs.YtggegpiffjbngaaGreat.J3]
  funext b
  rw [Nw.rootTo]
  by_cases hg:n.g j=0
  ·rw [if_pos hg,if_pos (hj.1 hg),List.append_nil,ih]
  ·rw [if_neg hg,if_neg (fun h=>hg (hj.2 h)),Nw.rootF_snoc,<-ih];rfl
structure Idm (R:Nat->Nat):Prop where
 rr:∀ b,R (R b)=R b
 le:∀ b,R b<=b
theorem Idm.step {n:Nw} {R:Nat->Nat} (h:Idm R) (k:Nat):Idm (n.stepR R k):=by
 have hF:=h.rr (n.F k)
 have hT:=h.rr (n.T k)
 unfold Nw.stepR
 generalize R (n.F k)=a at *
 generalize R (n.T k)=c at *
 have hm:R (min a c)=min a c:=by
  rcases Nat.le_total a c with h | h
  ·rw [Nat.min_eq_left h,hF]
  ·rw [Nat.min_eq_right h,hT]
 refine ⟨fun b=>?_,fun b=>?_⟩
 ·by_cases hb:R b=max a c
  ·rw [if_pos hb,hm]
   split
   ·rfl
   ·rfl
  ·rw [if_neg hb,h.rr,if_neg hb]
 ·have:=h.le b
  split
  ·omega
  ·exact this
theorem Nw.rootF_idm (n:Nw) (l:List Nat):Idm (n.rootF l):=by
 unfold Nw.rootF
 have:∀ (l:List Nat) (R:Nat->Nat),Idm R->Idm (l.foldl n.stepR R):=by
  intro l
  induction l with
  | nil=>exact fun R h=>h
  | cons k l ih=>exact fun R h=>ih _ (h.step k)
 exact this l id ⟨fun _=>rfl,fun b=>Nat.le_refl b⟩
theorem Clm.step {n:Nw} {B k:Nat} {p R:Nat->Nat} (h:Clm B p R) (hi:Idm R):Clm B (fun b=>if b=max (R (n.F k)) (R (n.T k)) then min (R (n.F k)) (R (n.T k)) else p b) (n.stepR R k):=by
 have iF:=hi.rr (n.F k)
 have iT:=hi.rr (n.T k)
 unfold Nw.stepR
 generalize R (n.F k)=a at *
 generalize R (n.T k)=c at *
 have hM:R (max a c)=max a c:=by
  rcases Nat.le_total a c with h | h
  ·rw [Nat.max_eq_right h,iT]
  ·rw [Nat.max_eq_left h,iF]
 have hm:R (min a c)=min a c:=by
  rcases Nat.le_total a c with h | h
  ·rw [Nat.min_eq_left h,iF]
  ·rw [Nat.min_eq_right h,iT]
 intro b hb
 obtain ⟨h1,h2,h3⟩:=h b hb
 dsimp only
 by_cases hbM:b=max a c
 ·subst hbM
  rw [if_pos rfl]
  refine ⟨by omega,fun h=>?_,fun h=>?_⟩
  ·rw [hM,if_pos rfl];exact h
  ·rw [hM,hm,if_pos rfl,if_neg h]
 ·rw [if_neg hbM]
  refine ⟨h1,fun h=>?_,fun h=>?_⟩
  ·rw [h2 h,if_neg hbM]
  ·rw [h3 h]
def Nw.lab (n:Nw) (b:Nat):Nat:=((List.range (n.root b)).filter fun r=>decide (n.root r=r)).length
def Nw.refs (n:Nw):List Nat:=(List.range n.B).filter fun r=>decide (n.root r=r)
def Nw.cnt (n:Nw) (b:Nat):Nat:=((List.range b).filter fun r=>decide (n.root r=r)).length
theorem Nw.cnt_succ (n:Nw) (b:Nat):n.cnt (b+1)=n.cnt b+if n.root b=b then 1 else 0:=by
 unfold Nw.cnt
 rw [List.range_succ,List.filter_append,List.length_append]
 by_cases h:n.root b=b
 ·simp [h]
 ·simp [h]
theorem Nw.cnt_le (n:Nw) (b:Nat):n.cnt b<=b:=by
 unfold Nw.cnt
 have:=List.length_filter_le (fun r=>decide (n.root r=r)) (List.range b)
 simpa using this
theorem Nw.lab_root (n:Nw) {b:Nat} (h:n.root b=b):n.lab b=n.cnt b:=by unfold Nw.lab Nw.cnt;rw [h]
theorem Nw.lab_of (n:Nw) (b:Nat):n.lab b=n.lab (n.root b):=by unfold Nw.lab;rw [Nw.root_root]
theorem Nw.lab_le (n:Nw) (b:Nat):n.lab b<=b:=Nat.le_trans (n.cnt_le _) (Nw.root_le b)
def lnI (l:LnV):Nat->Int
 | 0=>l.f
 | 1=>l.t
 | 2=>l.x
 | _=>l.c
theorem PtrTo.ln {S:Nat->Prop} {w:World} {p:Addr} {l:LnV} (h:PtrTo eL S w p l) (i:Nat) (hi:i<4):PtrTo (eInt .i64) S w (p.add i) (lnI l i):=by
 obtain ⟨e,⟨rfl,h1,h2,h3,h4⟩,hS,hc⟩:=h
 refine ⟨.int .i64 (lnI l i),⟨rfl,?_⟩,by rw [G1];exact hS,fun j u hu=>?_⟩
 ·match i with
  | 0=>exact h1
  | 1=>exact h2
  | 2=>exact h3
  | 3=>exact h4
 ·have hj:j=0:=by
   cases j with
   | zero=>rfl
   | succ j=>simp [Value.cells] at hu
  subst hj
  rw [S1]
  refine hc _ u ?_
  match i with
  | 0=>simpa [Value.cells,lnI] using hu
  | 1=>simpa [Value.cells,lnI] using hu
  | 2=>simpa [Value.cells,lnI] using hu
  | 3=>simpa [Value.cells,lnI] using hu
section
variable {P:Program} {σ:Env} {w:World} {d:Option Tmp} {ty:TypeId} {pos:String} {af:Array Edge} {g:Option (Nat×Bool)} {S:Nat->Prop}
theorem BS4 {s:TypeId} {x:Operand} {i off:Nat} {u:Value} {l:LnV} (hf:fldOf P s i=some off) (hx:ev σ x=some u) (hp:Ptr eL S l u w) (ho:off<4):Gv P ⟨d,.fieldAddr s x i,ty,pos,af,g⟩ σ w fun v' w'=>Ext w w'/\Sp.ok (.inr (Ptr (eInt .i64) S (lnI l off))) v' w':=by
 obtain ⟨p,rfl,hp⟩:=hp
 exact L0 (Am8 hf hx) ⟨_,rfl,hp.ln off ho⟩ (fun _ _ _ e ⟨p,h1,h2⟩=>⟨p,h1,h2.ext e⟩)
end
section
variable {P:Program} {ro:Option Nat} {N:Nat} {ds:List Deferred} {ops:Array Oper} {K:Env->World->Prop} {rest:List Oper} {σ:Env} {w:World} {d:Tmp} {ty:TypeId} {pos:String} {af:Array Edge} {S:Nat->Prop}
end
end Go.Kx
namespace Go.Proofs.YtggegpiffjbngaaGreat
open Go Go.Kx Go.RowKit
structure nwOk (n:NtV) (o:List Int):Prop where
 b:n.b=((nwOf n o).B:Nat)
 b1:1<=(nwOf n o).B
 b6:(nwOf n o).B<=6
 m:(nwOf n o).M<=10
 fI:∀ k,k<(nwOf n o).M->(n.ls.getD k ln0).f=((nwOf n o).F k:Nat)
 tI:∀ k,k<(nwOf n o).M->(n.ls.getD k ln0).t=((nwOf n o).T k:Nat)
 f:∀ k,k<(nwOf n o).M->(nwOf n o).F k<(nwOf n o).B
 t:∀ k,k<(nwOf n o).M->(nwOf n o).T k<(nwOf n o).B
 ne:∀ k,k<(nwOf n o).M->(nwOf n o).F k≠(nwOf n o).T k
 x:∀ k,k<(nwOf n o).M->1<=(n.ls.getD k ln0).x/\(n.ls.getD k ln0).x<=1000
 c:∀ k,k<(nwOf n o).M->0<=(n.ls.getD k ln0).c/\(n.ls.getD k ln0).c<=1000000
 outs:outsOk n o
theorem N1 {n:NtV} {o:List Int} (h:outE n o=0):nwOk n o:=by
 obtain ⟨hc,ho⟩:=BH2 h
 obtain ⟨h1,h6,h10,hck⟩:=BJ8 hc
 have hB:n.b=((n.b.toNat:Nat):Int):=by omega
 have hl:∀ k,k<n.ls.length->∀ i,i<5->ck i n.b (n.ls.getD k ln0)=true:=fun k hk=>hck k hk _ (A9 hk)
 refine ⟨hB,by show 1<=n.b.toNat;omega,by show n.b.toNat<=6;omega,h10,fun k hk=>?_,fun k hk=>?_,fun k hk=>?_,fun k hk=>?_,fun k hk=>?_,fun k hk=>?_,fun k hk=>?_,ho⟩
 all_goals
  have c0:=hl k hk 0 (by decide)
  have c1:=hl k hk 1 (by decide)
  have c2:=hl k hk 2 (by decide)
  have c3:=hl k hk 3 (by decide)
  have c4:=hl k hk 4 (by decide)
  simp [ck] at c0 c1 c2 c3 c4
 ·show (n.ls.getD k ln0).f=(((n.ls.getD k ln0).f.toNat:Nat):Int)
  simp;omega
 ·show (n.ls.getD k ln0).t=(((n.ls.getD k ln0).t.toNat:Nat):Int)
  simp;omega
 ·show (n.ls.getD k ln0).f.toNat<n.b.toNat
  simp;omega
 ·show (n.ls.getD k ln0).t.toNat<n.b.toNat
  simp;omega
 ·show (n.ls.getD k ln0).f.toNat≠(n.ls.getD k ln0).t.toNat
  simp;omega
 ·simpa using c3
 ·simpa using c4
theorem nwOk.g0 {n:NtV} {o:List Int} (h:nwOk n o) {k:Nat} (hk:k<(nwOf n o).M):(nwOf n o).g k=0<->k∈oN o:=by
 show (if k∈oN o then (0:Rat) else ((n.ls.getD k ln0).x:Rat)⁻¹)=0<->_
 constructor
 ·intro h0
  by_cases hm:k∈oN o
  ·exact hm
  ·rw [if_neg hm] at h0
   have hx:=(h.x k hk).1
   have hne:((n.ls.getD k ln0).x:Rat)≠0:=fun e=>by
    have:(n.ls.getD k ln0).x=0:=by exact_mod_cast e
    omega
   have h2:=Rat.mul_inv_cancel _ hne
   rw [h0,Rat.mul_zero] at h2
   exact absurd h2 (by decide)
 ·intro hm;rw [if_pos hm]
theorem nwOk.ok {n:NtV} {o:List Int} (h:nwOk n o):(nwOf n o).Ok:=by
 refine ⟨h.f,h.t,fun k hk=>?_⟩
 show (0:Rat)<=if k∈oN o then (0:Rat) else ((n.ls.getD k ln0).x:Rat)⁻¹
 split
 ·exact Rat.le_refl
 ·have hx:=(h.x k hk).1
  exact Rat.le_of_lt (Rat.inv_pos.2 (by exact_mod_cast (by omega:0<(n.ls.getD k ln0).x)))
theorem BF7:Ent Tryz.prog 120:=A0 Tryz.func120 (by kernel_rfl) rfl
theorem BE0 {w:World} {b8 g B b:Nat} {p R:Nat->Nat} (k8:Blk w b8 25 #[.slice (some ⟨g,0,none⟩) B B]) (hf:FB (eInt .i64) 3 (fun _=>True) w g (tabI B p)) (hp:Clm B p R) (hb:b<B) :
  CR Tryz.prog 120 #[.int .i64 (b:Nat),.pointer (some ⟨b8,0,none⟩)] w (Is (.int .i64 (R b:Nat))):=by
 refine enter Tryz.func120 O Tryz.ntmps120 O ?_
 refine .sr (.an O O (.scope (.seq (.label (.seq ?_)))))
 refine .block (.loop (α:=Nat) (fun x=>[(0,.int .i64 (x:Nat)),(1,.pointer (some ⟨b8,0,none⟩))]) (fun x W=>W=w/\x<B/\R x=R b) (fun x=>x) b ?_ ?_ ?_)
 ·exact lkA rfl
 ·exact ⟨rfl,hb,rfl⟩
 rintro x W ⟨rfl,hx,hR⟩
 obtain ⟨h1,h2,h3⟩:=hp x hx
 refine .block (.sr (.ld ty_I O O k8 O (.mv O O (.ixB (i:=x) un_I B6 O O O hx (.ldF (E:=eInt .i64) (i:=x) (by decide) B6 O O (Nat.zero_add _) hf (P9 hx) fun e he=>.an O O (.sr (.mv O O (.nil ?_))))))))
 obtain ⟨rfl,_⟩:=he
 refine .block (.sr (.mv O O ?_))
 by_cases hpx:p x=x
 ·refine .eqlT O O O (by omega) (.an O O (.condT O (.exit (.sr (.mv O O (.an O O (.ret ?_)))))))
  exact .plain [_] Tryz.results120 ⟨rfl,trivial⟩ ⟨Ext.refl _,by rw [<-hR,h2 hpx];rfl⟩
 ·refine .eqlF O O O (by omega) (.an O O (.condF O (.region (.mv O O (.an O O ?_)))))
  exact ⟨rfl,p x,lkA rfl,⟨rfl,by omega,by rw [<-h3 hpx];exact hR⟩,by omega⟩
theorem Ad2 {n:NtV} {o:List Int} {i:Nat} (hi:i<(inL n o).length):(pInts (inL n o))[i]?=some (((inL n o).getD i 0:Nat):Int)/\(inL n o).getD i 0<n.ls.length/\(inL n o).getD i 0∉oN o:=by
 have key:∀ k,k∈inL n o->k<n.ls.length/\k∉oN o:=fun k hk=>by
  unfold inL freeTo at hk
  rw [List.mem_filter] at hk
  exact ⟨List.mem_range.1 hk.1,by simpa using hk.2⟩
 obtain ⟨h1,h2⟩:=key _ (F6 hi)
 exact ⟨by rw [List.getElem?_map,A9 (z:=0) hi];rfl,h1,h2⟩
theorem BJ2 {B i j:Nat} {f:Nat->Int} (hj:j<B) (hi:j<i):(fil B i f 0)[j]?=some (f j):=by
 unfold fil
 rw [List.getElem?_map,List.getElem?_range hj]
 simp [hi]
theorem Aa8:Ent Tryz.prog 55:=A0 Tryz.func55 (by kernel_rfl) rfl
theorem AZ4 {S:Nat->Prop} {w:World} {vn vo:Value} {n:NtV} {o:List Int} (up:Up S w) (hn:eN.R S w vn n) (ho:eI.R S w vo o) :
  CR Tryz.prog 55 #[vn,vo] w (Two (eI.at S (if outE n o=0 then tabI (nwOf n o).B (nwOf n o).lab else [])) (Is (.int .i64 (outE n o)))):=by
 obtain ⟨s,rfl,hs,hb⟩:=hn
 have hn:eN.R S w (.agg #[.int .i64 n.b,s]) n:=⟨s,rfl,hs,hb⟩
 refine enter Tryz.func55 O Tryz.ntmps55 O ?_
 refine .sr (.box O O fun w1 b2 n1=>.asg O O (.an O O ?_))
 obtain ⟨e1,k2,hb2,hs1⟩:=n1
 refine .sr (.ldA ty_N O O k2 O (.mv O O ?_))
 refine .call _ O BA8 O (Aw7 (up.ext e1.size) (hn.ext e1) (ho.ext e1)) fun v2 w2 e2 h2=>?_
 obtain ⟨vl,ve,rfl,hl,he⟩:=h2
 replace he:ve=.int .i64 (outE n o):=he
 subst he
 have x2:=e1.trans e2
 refine .mv O O (.ext O O O (.ext O O O (.asg O O (.an O O (.seq (.sr (.mv O O ?_)))))))
 by_cases hE:outE n o=0
 rotate_left
 ·refine .neqT O O O hE (.nil (.condT O (.sr (.mv O O (.asg O O (.an O O (.ret ?_)))))))
  refine .plain [_,_] Tryz.results55 ⟨rfl,rfl,trivial⟩ ⟨x2,_,_,rfl,?_,rfl⟩
  rw [if_neg hE];exact RL.nil
 have ok:=N1 hE
 rw [if_pos hE] at hl ⊢
 have hB6:=ok.b6
 have hM10:n.ls.length<=10:=ok.m
 have hll:=AT5 n o
 generalize hB:(nwOf n o).B=B at *
 refine .neqF O O O hE (.nil (.condF O (.skip ?_)))
 have k2:=k2.ext e2
 have hnb:=ok.b
 rw [hB] at hnb
 rw [hnb] at k2
 refine .sr (.fa E5 O O (.ld A3 O O k2 O ?_))
 refine .make_ B B un_I AD5 O (by decide) O O O (Nat.le_refl _) (by omega) (by omega) fun w3 g n3=>?_
 have f3:FB (eInt .i64) 3 (fun _=>True) w3 g (List.replicate B 0):=FB.made n3 ⟨rfl,by decide⟩
 obtain ⟨e3,_,hg3,hs3⟩:=n3
 refine .alloc O BB2 fun w4 b8 n4=>?_
 obtain ⟨e4,k8,hb8,hs4⟩:=n4
 refine .store ty_I O O k8 O (by simp [Value.cells]) (by simp [one1,Value.cells]) fun w5 k8 u5=>.nil ?_
 replace k8:Blk w5 b8 25 #[.slice (some ⟨g,0,none⟩) B B]:=k8
 have hs2:=e2.size
 have hs5:=u5.size
 have x4:=x2.trans (e3.trans e4)
 have x5:Ext w w5:=u5.below x4 (by omega)
 have x25:Ext w2 w5:=u5.below (e3.trans e4) (by omega)
 have k2:=k2.ext x25
 have hl:=ER.ext eI (ER.lt eI hl) x25
 have hsL:=ER.ext eLs (ER.lt eLs hs) x5
 have hupd:∀ {W W':World} {l:List Int} {b:Nat},FB (eInt .i64) 3 (fun _=>True) W g l->Upd W W' b->g≠b->FB (eInt .i64) 3 (fun _=>True) W' g l:=fun hf u hne=>by
  obtain ⟨es,hb,he⟩:=hf
  exact ⟨es,hb.upd u hne,he.1,fun i e x h1 h2=>he.2 i e x h1 h2⟩
 have f5:=hupd (f3.ext e4) u5 (by omega)
 have hgw:w2.heap.size<=g:=by omega
 have hg8:g≠b8:=by omega
 have hg2:b2≠g:=by omega
 have hw25:w2.heap.size<=w5.heap.size:=by omega
 refine .mid (α:=Unit) (fun _=>[(2,.pointer (some ⟨b2,0,none⟩)),(6,vl),(8,.pointer (some ⟨b8,0,none⟩))]) (fun _ W=>Below w2.heap.size w5 W/\Blk W b8 25 #[.slice (some ⟨g,0,none⟩) B B]/\FB (eInt .i64) 3 (fun _=>True) W g (tabI B id)) ?_ ?_
 ·refine .sr (.ld ty_I O O k8 O (.len un_I O O (.mv O O (.nil ?_))))
  refine .block (.loop (α:=Nat) (fun i=>[(2,.pointer (some ⟨b2,0,none⟩)),(6,vl),(8,.pointer (some ⟨b8,0,none⟩)),(32,.int .i64 (B:Nat)),(33,.int .i64 (i:Nat))]) (fun i W=>Below w2.heap.size w5 W/\Blk W b8 25 #[.slice (some ⟨g,0,none⟩) B B]/\i<=B/\FB (eInt .i64) 3 (fun _=>True) W g (fil B i (fun b=>((b:Nat):Int)) 0)) (fun i=>B-i) 0 ?_ ?_ ?_)
  ·exact lkA rfl
  ·refine ⟨Below.refl _ _,k8,Nat.zero_le _,?_⟩
   rw [V5];exact f5
  rintro i W ⟨hW,k8,hi,fb⟩
  refine .sr ?_
  rcases Nat.lt_or_ge i B with hlt | hge
  rotate_left
  ·refine .lssF O O O (by omega) (.nil (.seq (.condF O (.exit ?_))))
   have:i=B:=by omega
   subst this
   refine ⟨rfl,(),lkA rfl,hW,k8,?_⟩
   rw [AC1] at fb
   exact fb
  refine .lssT O O O (by omega) (.nil (.seq (.condT O (.skip (.seq (.block (.sr (.mv O O (.an O O (.region (.ld ty_I O O k8 O (.mv O O (.mv O O (.ixB (i:=i) un_I B6 O O O hlt ?_))))))))))))))
  refine .storeF (E:=eInt .i64) (i:=i) (z:=((i:Nat):Int)) (by decide) B6 O O fb O (by rw [J9];exact hlt) (Nat.zero_add _) ⟨rfl,K5.2 (by omega)⟩ fun W1 f1 u1=>.nil ?_
  refine .region (.add O O O (.mv O O (.nil ?_)))
  rw [wI (by omega)]
  rw [U3] at f1
  exact ⟨rfl,i+1,lkA rfl,⟨u1.below hW hgw,k8.upd u1 hg8.symm,hlt,f1⟩,by show B-(i+1)<B-i;omega⟩
 rintro _ W0 ⟨hW0,k8,fb0⟩
 have hk2:∀ {W:World},Below w2.heap.size w5 W->Blk W b2 24 #[.int .i64 (B:Nat),s]:=fun h=>(h.block b2 (by omega)).trans k2
 have hlW:∀ {W:World},Below w2.heap.size w5 W->eI.R (fun k=>S k/\k<w2.heap.size) W vl (pInts (inL n o)):=fun h=>eI.keep (fun k c t f hk hh=>(h.block k hk.2).trans hh) hl
 have hsW:∀ {W:World},Below w2.heap.size w5 W->eLs.R (fun k=>S k/\k<w.heap.size) W s n.ls:=fun h=>eLs.keep (fun k c t f hk hh=>(h.block k (by have:=hk.2;have:=x2.size;omega)).trans hh) hsL
 refine .sr (.mkf [] [_] O O O O (.an O O ?_))
 refine .mid (α:=Nat->Nat) (fun _=>[(2,.pointer (some ⟨b2,0,none⟩)),(8,.pointer (some ⟨b8,0,none⟩)),(10,.func (.func 120) #[] #[.pointer (some ⟨b8,0,none⟩)])]) (fun p W=>Below w2.heap.size w5 W/\Blk W b8 25 #[.slice (some ⟨g,0,none⟩) B B]/\FB (eInt .i64) 3 (fun _=>True) W g (tabI B p)/\Clm B p ((nwOf n o).rootF (inL n o))) ?_ ?_
 ·refine .sr (.mv O O (.lenR un_I O O (hlW hW0) (.mv O O (.nil ?_))))
  rw [show (pInts (inL n o)).length=(inL n o).length by simp]
  refine .block (.loop (α:=Nat×(Nat->Nat)) (fun y=>[(2,.pointer (some ⟨b2,0,none⟩)),(8,.pointer (some ⟨b8,0,none⟩)),(10,.func (.func 120) #[] #[.pointer (some ⟨b8,0,none⟩)]),(42,vl),(43,.int .i64 ((inL n o).length:Nat)),(44,.int .i64 (y.1:Nat))])
   (fun y W=>Below w2.heap.size w5 W/\Blk W b8 25 #[.slice (some ⟨g,0,none⟩) B B]/\y.1<=(inL n o).length/\FB (eInt .i64) 3 (fun _=>True) W g (tabI B y.2)/\Clm B y.2 ((nwOf n o).rootF ((inL n o).take y.1))) (fun y=>(inL n o).length-y.1) (0,id) ?_ ?_ ?_)
  ·exact lkA rfl
  ·exact ⟨hW0,k8,Nat.zero_le _,fb0,fun b _=>⟨Nat.le_refl _,fun _=>rfl,fun h=>absurd O h⟩⟩
  rintro ⟨i,p⟩ W ⟨hW,k8,hi,fb,hc⟩
  replace hW:Below w2.heap.size w5 W:=hW
  replace hi:i<=(inL n o).length:=hi
  replace fb:FB (eInt .i64) 3 (fun _=>True) W g (tabI B p):=fb
  replace hc:Clm B p ((nwOf n o).rootF ((inL n o).take i)):=hc
  refine .sr ?_
  rcases Nat.lt_or_ge i (inL n o).length with hlt | hge
  rotate_left
  ·refine .lssF O O O (by omega) (.nil (.seq (.condF O (.exit ?_))))
   have:i=(inL n o).length:=by omega
   subst this
   rw [List.take_of_length_le (Nat.le_refl _)] at hc
   exact ⟨rfl,p,lkA rfl,hW,k8,fb,hc⟩
  obtain ⟨hgk,hkM,hko⟩:=Ad2 hlt
  refine .lssT O O O (by omega) (.nil (.seq (.condT O (.skip (.seq (.block (.sr (.ixN (i:=i) un_I B6 O O (hlW hW) O hgk fun q hq=>.ldE (E:=eInt .i64) B6 O O hq fun e he=>.an O O ?_))))))))
  obtain ⟨rfl,_⟩:=he
  have htk:(inL n o).take (i+1)=(inL n o).take i++[(inL n o).getD i 0]:=by rw [List.take_add_one,A9 (z:=0) hlt];rfl
  have hFB:=ok.f _ hkM
  have hTB:=ok.t _ hkM
  have hFI:=ok.fI _ hkM
  have hTI:=ok.tI _ hkM
  have hgl:n.ls[(inL n o).getD i 0]?=some (n.ls.getD ((inL n o).getD i 0) ln0):=A9 hkM
  have hidm:=(nwOf n o).rootF_idm ((inL n o).take i)
  generalize hR:(nwOf n o).rootF ((inL n o).take i)=R at hc hidm
  generalize hk:(inL n o).getD i 0=k at hgl hFB hTB hFI hTI hkM hko htk
  rw [hB] at hFB hTB
  have hlF:=hidm.le ((nwOf n o).F k)
  have hlT:=hidm.le ((nwOf n o).T k)
  refine .seq ?_
  refine .par follows 16 [.inl (.func (.func 120) #[] #[.pointer (some ⟨b8,0,none⟩)]),.inl (.pointer (some ⟨b2,1,none⟩)),.inl s,.inl (.int .i64 (k:Nat)),.inr (Ptr eL (fun k=>S k/\k<w.heap.size) (n.ls.getD k ln0)),.inr (Ptr (eInt .i64) (fun k=>S k/\k<w.heap.size) (n.ls.getD k ln0).f),.inl (.int .i64 ((nwOf n o).F k:Nat)),.inl (.int .i64 (R ((nwOf n o).F k):Nat)),
   .inl (.func (.func 120) #[] #[.pointer (some ⟨b8,0,none⟩)]),.inl (.pointer (some ⟨b2,1,none⟩)),.inl s,.inl (.int .i64 (k:Nat)),.inr (Ptr eL (fun k=>S k/\k<w.heap.size) (n.ls.getD k ln0)),.inr (Ptr (eInt .i64) (fun k=>S k/\k<w.heap.size) (n.ls.getD k ln0).t),.inl (.int .i64 ((nwOf n o).T k:Nat)),.inl (.int .i64 (R ((nwOf n o).T k):Nat))]
   [[],[],[(49,1)],[],[(50,2),(51,3)],[(52,4)],[(53,5)],[(48,0),(54,6)],[],[],[(57,9)],[],[(58,10),(59,11)],[(60,12)],[(61,13)],[(56,8),(62,14)]] (by kernel_rfl) ⟨
   fun w e=>(v_mv O).ob,fun w e=>(v_fa G7 O).ob,fun w e=>(v_ld K6 O ((hk2 hW).ext e) O).ob,fun w e=>(v_mv O).ob,
   fun w e=>B5 (i:=k) K4 M8 O (ER.ext eLs (hsW hW) e) O hgl,fun w e x hx=>BS4 H2 O hx (by decide),fun w e x hx=>by rw [<-hFI];exact G5 B6 O hx,
   fun w e=>Gv.obIs (AM9 [.int .i64 ((nwOf n o).F k:Nat)] O BF7 O (BE0 (k8.ext e) (fb.ext e) hc hFB)),
   fun w e=>(v_mv O).ob,fun w e=>(v_fa G7 O).ob,fun w e=>(v_ld K6 O ((hk2 hW).ext e) O).ob,fun w e=>(v_mv O).ob,
   fun w e=>B5 (i:=k) K4 M8 O (ER.ext eLs (hsW hW) e) O hgl,fun w e x hx=>BS4 H1 O hx (by decide),fun w e x hx=>by rw [<-hTI];exact G5 B6 O hx,
   fun w e=>Gv.obIs (AM9 [.int .i64 ((nwOf n o).T k:Nat)] O BF7 O (BE0 (k8.ext e) (fb.ext e) hc hTB)),trivial⟩ ?_
  intro W1 f1 _ _ _ _ _ _ _ _
  refine .asg O O (.an O O (.region (.ld ty_I O O (k8.ext f1) O (.mv O O (.mv O O (.max_ O O O (.mv O O (.mv O O (.min_ O O O ?_)))))))))
  rw [show max ((R ((nwOf n o).F k):Nat):Int) (R ((nwOf n o).T k):Nat)=((max (R ((nwOf n o).F k)) (R ((nwOf n o).T k)):Nat):Int) by omega,show min ((R ((nwOf n o).F k):Nat):Int) (R ((nwOf n o).T k):Nat)=((min (R ((nwOf n o).F k)) (R ((nwOf n o).T k)):Nat):Int) by omega]
  refine .ixB (i:=max (R ((nwOf n o).F k)) (R ((nwOf n o).T k))) un_I B6 O O O (by omega) ?_
  refine .storeF (E:=eInt .i64) (i:=max (R ((nwOf n o).F k)) (R ((nwOf n o).T k))) (z:=((min (R ((nwOf n o).F k)) (R ((nwOf n o).T k)):Nat):Int)) (by decide) B6 O O (fb.ext f1) O (by rw [N0];omega) (Nat.zero_add _) ⟨rfl,K5.2 (by omega)⟩ fun W2 f2 u2=>.nil ?_
  rw [BQ1] at f2
  have hW1:=hW.trans (f1.mono (by have:=hW.size;omega))
  refine .region (.add O O O (.mv O O (.nil ?_)))
  rw [wI (by omega)]
  refine ⟨rfl,(i+1,_),lkA rfl,⟨u2.below hW1 hgw,(k8.ext f1).upd u2 hg8.symm,hlt,f2,?_⟩,by show (inL n o).length-(i+1)<(inL n o).length-i;omega⟩
  show Clm B _ ((nwOf n o).rootF ((inL n o).take (i+1)))
  rw [htk,Nw.rootF_snoc,hR]
  exact hc.step hidm
 rintro p W1 ⟨hW1,k8,fb,hc⟩
 rw [show (nwOf n o).rootF (inL n o)=(nwOf n o).root by
  funext b
  unfold Nw.root
  rw [Nw.rootF_free (p:=oN o) _ fun k hk=>ok.g0 hk];rfl] at hc
 have hW1s:=hW1.size
 refine .sr (.fa E5 O O (.ld A3 O O (hk2 hW1) O ?_))
 refine .make_ B B un_I AD5 O (by decide) O O O (Nat.le_refl _) (by omega) (by omega) fun W2 h n2=>?_
 have f2:FB (eInt .i64) 3 (fun _=>True) W2 h (List.replicate B 0):=FB.made n2 ⟨rfl,by decide⟩
 obtain ⟨e2',_,hh2,hs2'⟩:=n2
 refine .an O O (.sr (.an O O ?_))
 have hgh:g≠h:=by have:=fb.lt;omega
 have k8:=k8.ext e2'
 have h8h:b8≠h:=by have:=hW1s;omega
 have fb:=fb.ext e2'
 have hW2:=hW1.trans (e2'.mono (by omega))
 have hhw:w2.heap.size<=h:=by omega
 have hupd':∀ {W W':World} {l:List Int},FB (eInt .i64) 3 (fun _=>True) W g l->Upd W W' h->FB (eInt .i64) 3 (fun _=>True) W' g l:=fun hf u=>hupd hf u hgh
 refine .seq (.sr (.mv O O (.len un_I O O (.mv O O (.nil ?_)))))
 refine .block (.loop (α:=Nat) (fun i=>[(8,.pointer (some ⟨b8,0,none⟩)),(10,.func (.func 120) #[] #[.pointer (some ⟨b8,0,none⟩)]),(15,.slice (some ⟨h,0,none⟩) B B),(16,.int .i64 ((nwOf n o).cnt i:Nat)),(77,.int .i64 (B:Nat)),(78,.int .i64 (i:Nat))])
  (fun i W=>Below w2.heap.size w5 W/\Blk W b8 25 #[.slice (some ⟨g,0,none⟩) B B]/\i<=B/\FB (eInt .i64) 3 (fun _=>True) W g (tabI B p)/\FB (eInt .i64) 3 (fun _=>True) W h (fil B i (fun b=>(((nwOf n o).lab b:Nat):Int)) 0)) (fun i=>B-i) 0 ?_ ?_ ?_)
 ·exact lkA rfl
 ·refine ⟨hW2,k8,Nat.zero_le _,fb,?_⟩
  rw [V5];exact f2
 rintro i W ⟨hW,k8,hi,fb,fl⟩
 refine .sr ?_
 rcases Nat.lt_or_ge i B with hlt | hge
 rotate_left
 ·refine .lssF O O O (by omega) (.nil (.seq (.condF O (.exit (.sr (.mv O O (.asg O O (.an O O (.ret ?_)))))))))
  have:i=B:=by omega
  subst this
  refine .plain [_,_] Tryz.results55 ⟨rfl,rfl,trivial⟩ ⟨Below.trans x5 (hW.mono (by omega)),_,_,rfl,?_,by rw [hE]⟩
  rw [AC1] at fl
  have fl':FB (eInt .i64) 3 S W h (tabI i (nwOf n o).lab):=by
   obtain ⟨es,hb,he⟩:=fl
   exact ⟨es,hb,he.1,fun i e x h1 h2=>he.2 i e x h1 h2⟩
  have:=fl'.toR (hsz:=by decide) (c:=i) (up h (by omega)) (by rw [N0];omega) (by rw [N0];omega)
  rw [N0] at this
  exact this
 refine .lssT O O O (by omega) (.nil (.seq (.condT O (.skip (.seq (.block (.sr (.mv O O (.an O O (.seq (.sr (.mv O O (.mv O O ?_)))))))))))))
 refine .callv [.int .i64 (i:Nat)] O O BF7 O (BE0 k8 fb hc hlt) fun v3 W3 e3 h3=>.an O O (.sr (.mv O O (.mv O O ?_)))
 subst h3
 have hrl:=Nw.root_le (n:=nwOf n o) i
 have hlb:=Nw.lab_le (nwOf n o) i
 have hcl:=Nw.cnt_le (nwOf n o) i
 have hcs:=Nw.cnt_succ (nwOf n o) i
 have hW3:=hW.trans (e3.mono (by have:=hW.size;omega))
 have k8:=k8.ext e3
 have fb:=fb.ext e3
 have fl:=fl.ext e3
 by_cases hr:(nwOf n o).root i=i
 ·refine .neqF O O O (by omega) (.nil (.condF O (.skip (.sr (.mv O O (.mv O O (.mv O O (.ixB (i:=i) un_I B6 O O O hlt ?_))))))))
  refine .storeF (E:=eInt .i64) (i:=i) (z:=(((nwOf n o).lab i:Nat):Int)) (by decide) B6 O O fl O (by rw [J9];exact hlt) (Nat.zero_add _) ⟨by rw [Nw.lab_root _ hr],K5.2 (by omega)⟩ fun W4 f4 u4=>.nil ?_
  rw [U3 (f:=fun b=>(((nwOf n o).lab b:Nat):Int))] at f4
  refine .region (.mv O O (.add O O O (.an O O (.region (.add O O O (.mv O O (.nil ?_)))))))
  rw [wI (by omega),wI (by omega)]
  rw [if_pos hr] at hcs
  exact ⟨rfl,i+1,A7 O (A7 O (A7 O (A7 (by rw [hcs];rfl) (lkA O)))),⟨u4.below hW3 hhw,k8.upd u4 h8h,hlt,hupd' fb u4,f4⟩,by show B-(i+1)<B-i;omega⟩
 ·refine .neqT O O O (by omega) (.nil (.condT O (.sr (.mv O O (.mv O O (.mv O O (.mv O O (.ixB (i:=(nwOf n o).root i) un_I B6 O O O (by omega) ?_))))))))
  refine .ldF (E:=eInt .i64) (i:=(nwOf n o).root i) (by decide) B6 O O (Nat.zero_add _) fl (BJ2 (by omega) (by omega)) fun e he=>?_
  obtain ⟨rfl,_⟩:=he
  refine .ixB (i:=i) un_I B6 O O O hlt ?_
  refine .storeF (E:=eInt .i64) (i:=i) (z:=(((nwOf n o).lab i:Nat):Int)) (by decide) B6 O O fl O (by rw [J9];exact hlt) (Nat.zero_add _) ⟨by rw [Nw.lab_of _ i],K5.2 (by omega)⟩ fun W4 f4 u4=>.nil ?_
  rw [U3 (f:=fun b=>(((nwOf n o).lab b:Nat):Int))] at f4
  refine .exit (.region (.add O O O (.mv O O (.nil ?_))))
  rw [wI (by omega)]
  rw [if_neg hr,Nat.add_zero] at hcs
  exact ⟨rfl,i+1,A7 O (A7 O (A7 O (A7 (by rw [hcs];rfl) (lkA O)))),⟨u4.below hW3 hhw,k8.upd u4 h8h,hlt,hupd' fb u4,f4⟩,by show B-(i+1)<B-i;omega⟩
end Go.Proofs.YtggegpiffjbngaaGreat
namespace Go.Kx
open Go Go.RowKit
theorem BG8 (P:Nat->Bool) (i:Nat):∀ d,∃ t,(List.range (i+d)).filter P=(List.range i).filter P++t
 | 0=>⟨[],by simp⟩
 | d+1=>by
  obtain ⟨t,ht⟩:=BG8 P i d
  rw [show i+(d+1)=(i+d)+1 by omega,List.range_succ,List.filter_append,ht,List.append_assoc]
  exact ⟨_,rfl⟩
theorem rng_at {P:Nat->Bool} {r C:Nat} (hr:r<C) (hP:P r=true):((List.range C).filter P).getD ((List.range r).filter P).length 0=r/\((List.range r).filter P).length<((List.range C).filter P).length:=by
 obtain ⟨t,ht⟩:=BG8 P (r+1) (C-(r+1))
 rw [show r+1+(C-(r+1))=C by omega,List.range_succ,List.filter_append] at ht
 have e:List.filter P [r]=[r]:=by simp [hP]
 rw [e] at ht
 rw [ht]
 constructor
 ·rw [List.getD_eq_getElem?_getD,List.append_assoc,List.getElem?_append_right (Nat.le_refl _)];simp
 ·simp
def Nw.refsTo (n:Nw) (b:Nat):List Nat:=(List.range b).filter fun r=>decide (n.root r=r)
theorem Nw.refsTo_len (n:Nw) (b:Nat):(n.refsTo b).length=n.cnt b:=rfl
theorem Nw.refsTo_succ (n:Nw) (b:Nat):n.refsTo (b+1)=n.refsTo b++if n.root b=b then [b] else []:=by
 unfold Nw.refsTo
 rw [List.range_succ,List.filter_append]
 by_cases h:n.root b=b
 ·simp [h]
 ·simp [h]
theorem Nw.cnt_mono (n:Nw) (a:Nat):∀ d,n.cnt a<=n.cnt (a+d)
 | 0=>Nat.le_refl _
 | d+1=>by have:=Nw.cnt_mono n a d;have:=n.cnt_succ (a+d);rw [show a+(d+1)=a+d+1 by omega];omega
theorem Nw.lab_cnt (n:Nw) (b:Nat):n.lab b=n.cnt b<->n.root b=b:=by
 refine ⟨fun h=>?_,fun h=>n.lab_root h⟩
 have hle:=Nw.root_le (n:=n) b
 rcases Nat.lt_or_ge (n.root b) b with hlt | hge
 ·exfalso
  have h1:n.lab b=n.cnt (n.root b):=rfl
  have h2:=n.cnt_succ (n.root b)
  rw [if_pos (Nw.root_root b)] at h2
  have h3:=n.cnt_mono (n.root b+1) (b-(n.root b+1))
  rw [show n.root b+1+(b-(n.root b+1))=b by omega] at h3
  omega
 ·omega
theorem Nw.refs_lab (n:Nw) {b:Nat} (hb:b<n.B):n.refs.getD (n.lab b) 0=n.root b/\n.lab b<n.refs.length:=by
 have hle:=Nw.root_le (n:=n) b
 exact rng_at (P:=fun r=>decide (n.root r=r)) (r:=n.root b) (C:=n.B) (by omega) (decide_eq_true (Nw.root_root b))
theorem Nw.mem_refs {n:Nw} {r:Nat}:r∈n.refs<->r<n.B/\n.root r=r:=by
 unfold Nw.refs
 rw [List.mem_filter,List.mem_range]
 simp
theorem Nw.lab_eq {n:Nw} {a b:Nat} (ha:a<n.B) (hb:b<n.B):n.lab a=n.lab b<->n.root a=n.root b:=by
 constructor
 ·intro h
  rw [<-(n.refs_lab ha).1,<-(n.refs_lab hb).1,h]
 ·intro h;unfold Nw.lab;rw [h]
end Go.Kx
namespace Go.Proofs.YtggegpiffjbngaaGreat
open Go Go.Kx Go.RowKit
theorem Am0:Ent Tryz.prog 71:=A0 Tryz.func71 (by kernel_rfl) rfl
theorem Ak9 {S:Nat->Prop} {w:World} {vn vo:Value} {n:NtV} {o:List Int} (up:Up S w) (hn:eN.R S w vn n) (ho:eI.R S w vo o) :
  CR Tryz.prog 71 #[vn,vo] w (Two (eI.at S (if outE n o=0 then pInts (nwOf n o).refs else [])) (Is (.int .i64 (outE n o)))):=by
 have hvn:=shpA (E:=eN) O hn
 refine enter Tryz.func71 O Tryz.ntmps71 O ?_
 refine .sr (.box O O fun w1 b2 n1=>.asg O O (.an O O ?_))
 obtain ⟨e1,k2,hb2,hs1⟩:=n1
 refine .sr (.ldA ty_N O O k2 (eN.csz hn) (.mv O O ?_))
 rw [<-hvn]
 refine .call _ O Aa8 O (AZ4 (up.ext e1.size) (hn.ext e1) (ho.ext e1)) fun v2 w2 e2 h2=>?_
 obtain ⟨vl,ve,rfl,hl,he⟩:=h2
 replace he:ve=.int .i64 (outE n o):=he
 subst he
 have x2:=e1.trans e2
 refine .mv O O (.ext O O O (.ext O O O (.asg O O (.an O O (.seq (.sr (.mv O O ?_)))))))
 by_cases hE:outE n o=0
 rotate_left
 ·refine .neqT O O O hE (.nil (.condT O (.sr (.mv O O (.asg O O (.an O O (.ret ?_)))))))
  refine .plain [_,_] Tryz.results71 ⟨rfl,rfl,trivial⟩ ⟨x2,_,_,rfl,?_,rfl⟩
  rw [if_neg hE];exact RL.nil
 have ok:=N1 hE
 rw [if_pos hE] at hl ⊢
 have hB6:=ok.b6
 refine .neqF O O O hE (.nil (.condF O (.skip (.sr (.an O O ?_)))))
 have hlW:∀ {W:World},Below w2.heap.size w2 W->eI.R (fun k=>S k/\k<w2.heap.size) W vl (tabI (nwOf n o).B (nwOf n o).lab):=fun h=>eI.keep (fun k c t f hk hh=>(h.block k hk.2).trans hh) (ER.lt eI hl)
 refine .seq (.sr (.mv O O (.lenR un_I O O hl (.mv O O (.nil ?_)))))
 rw [N0]
 refine .block (.loop (α:=Nat×Value) (fun y=>[(8,y.2),(20,vl),(21,.int .i64 ((nwOf n o).B:Nat)),(22,.int .i64 (y.1:Nat))]) (fun y W=>Below w2.heap.size w2 W/\y.1<=(nwOf n o).B/\OwnL (eInt .i64) 3 w2.heap.size S W y.2 (pInts ((nwOf n o).refsTo y.1))) (fun y=>(nwOf n o).B-y.1) (0,.slice none 0 0) ?_ ?_ ?_)
 ·exact lkA rfl
 ·exact ⟨Below.refl _ _,Nat.zero_le _,OwnL.nil⟩
 rintro ⟨i,v⟩ W ⟨hW,hi,hown⟩
 replace hW:Below w2.heap.size w2 W:=hW
 replace hi:i<=(nwOf n o).B:=hi
 replace hown:OwnL (eInt .i64) 3 w2.heap.size S W v (pInts ((nwOf n o).refsTo i)):=hown
 refine .sr ?_
 rcases Nat.lt_or_ge i (nwOf n o).B with hlt | hge
 rotate_left
 ·refine .lssF O O O (by omega) (.nil (.seq (.condF O (.exit (.sr (.mv O O (.asg O O (.an O O (.ret ?_)))))))))
  have:i=(nwOf n o).B:=by omega
  subst this
  refine .plain [_,_] Tryz.results71 ⟨rfl,rfl,trivial⟩ ⟨x2.trans hW,_,_,rfl,?_,by rw [hE]⟩
  exact hown.toR (fun k hk=>up k (by have:=x2.size;omega)) (fun _ h=>h)
 refine .lssT O O O (by omega) (.nil (.seq (.condT O (.skip (.seq (.block (.sr (.mv O O (.ixN (i:=i) un_I B6 O O (hlW hW) O (P9 hlt) fun q hq=>.ldE (E:=eInt .i64) B6 O O hq fun e he=>.asg O O (.an O O ?_))))))))))
 obtain ⟨rfl,_⟩:=he
 have hvl:eI.R (fun k=>S k\/w2.heap.size<=k) W v (pInts ((nwOf n o).refsTo i)):=hown.toR (fun k hk=>.inr hk) (fun _ h=>.inl h)
 have hcl:=(nwOf n o).cnt_le i
 have hlb:=(nwOf n o).lab_cnt i
 have hrs:=(nwOf n o).refsTo_succ i
 have hlen:(pInts ((nwOf n o).refsTo i)).length=(nwOf n o).cnt i:=by simp [Nw.refsTo_len]
 refine .sr (.mv O O (.mv O O (.lenR un_I O O hvl ?_)))
 rw [hlen]
 by_cases hr:(nwOf n o).root i=i
 ·rw [if_pos hr] at hrs
  refine .eqlT O O O (by rw [hlb.2 hr]) (.nil (.condT O (.region (.mv O O (.mv O O (.bsl _ O O AQ6 fun W1 by_ ny=>?_))))))
  obtain ⟨ey,ky,hby,hsy⟩:=ny
  have hW1:=hW.trans (ey.mono hW.size)
  refine .gv O O (J8 (E:=eInt .i64) (base:=w2.heap.size) (n:=((i:Nat):Int)) (e:=.int .i64 (i:Nat)) (by decide) un_I AD5 O O O (hown.ext ey) ky ⟨rfl,K5.2 (by omega)⟩ (by rw [hlen];omega) (by decide) hW1.size) ?_
  rintro v8 W8 ⟨ho8,hg8⟩
  refine .an O O (.region (.add O O O (.mv O O (.nil ?_))))
  rw [wI (by omega)]
  refine ⟨rfl,(i+1,v8),lkA rfl,⟨(hown.ext ey).below hg8 hW1 hW1.size,hlt,?_⟩,by show (nwOf n o).B-(i+1)<(nwOf n o).B-i;omega⟩
  show OwnL (eInt .i64) 3 w2.heap.size S W8 v8 (pInts ((nwOf n o).refsTo (i+1)))
  rw [hrs]
  unfold pInts
  rw [List.map_append]
  exact ho8
 ·rw [if_neg hr,List.append_nil] at hrs
  refine .eqlF O O O (by intro e;exact hr (hlb.1 (by omega))) (.nil (.condF O (.skip (.region (.add O O O (.mv O O (.nil ?_)))))))
  rw [wI (by omega)]
  refine ⟨rfl,(i+1,v),lkA rfl,⟨hW,hlt,?_⟩,by show (nwOf n o).B-(i+1)<(nwOf n o).B-i;omega⟩
  show OwnL (eInt .i64) 3 w2.heap.size S W v (pInts ((nwOf n o).refsTo (i+1)))
  rw [hrs];exact hown
def busB (n:NtV) (a:Int):Prop:=0<=a/\a<n.b
open Classical in
noncomputable def conE (n:NtV) (o:List Int) (a b:Int):Int:=if outE n o≠0 then outE n o else if busB n a/\busB n b then 0 else 1
theorem BJ6 {n:NtV} {o:List Int} {a b:Int} (h:conE n o a b=0):outE n o=0/\busB n a/\busB n b:=by
 unfold conE at h
 split at h
 ·exact absurd h (by assumption)
 ·split at h
  ·exact ⟨Classical.not_not.1 (by assumption),by assumption⟩
  ·cases h
open Classical in
noncomputable def conB (n:NtV) (o:List Int) (a b:Int):Bool:=decide (conE n o a b=0/\(nwOf n o).root a.toNat=(nwOf n o).root b.toNat)
theorem AR4:Ent Tryz.prog 79:=A0 Tryz.func79 (by kernel_rfl) rfl
theorem AP7 {S:Nat->Prop} {w:World} {vn vo:Value} {n:NtV} {o:List Int} {a b:Int} (up:Up S w) (hn:eN.R S w vn n) (ho:eI.R S w vo o) :
  CR Tryz.prog 79 #[vn,vo,.int .i64 a,.int .i64 b] w (Two (Is (.bool (conB n o a b))) (Is (.int .i64 (conE n o a b)))):=by
 obtain ⟨s,rfl,hs,hb⟩:=hn
 have hn:eN.R S w (.agg #[.int .i64 n.b,s]) n:=⟨s,rfl,hs,hb⟩
 refine enter Tryz.func79 O Tryz.ntmps79 O ?_
 refine .sr (.box O O fun w1 b2 n1=>.asg O O (.an O O ?_))
 obtain ⟨e1,k2,hb2,hs1⟩:=n1
 refine .sr (.ldA ty_N O O k2 O (.mv O O ?_))
 refine .call _ O Aa8 O (AZ4 (up.ext e1.size) (hn.ext e1) (ho.ext e1)) fun v2 w2 e2 h2=>?_
 obtain ⟨vl,ve,rfl,hl,he⟩:=h2
 replace he:ve=.int .i64 (outE n o):=he
 subst he
 have x2:=e1.trans e2
 have k2:=k2.ext e2
 refine .mv O O (.ext O O O (.ext O O O (.asg O O (.an O O (.seq (.sr (.mv O O ?_)))))))
 have hno:conE n o a b≠0->conB n o a b=false:=fun h=>by unfold conB;exact decide_eq_false fun h'=>h h'.1
 by_cases hE:outE n o=0
 rotate_left
 ·have hc:conE n o a b=outE n o:=by unfold conE;rw [if_pos hE]
  refine .neqT O O O hE (.nil (.condT O (.sr (.mv O O (.asg O O (.an O O (.ret ?_)))))))
  exact .plain [_,_] Tryz.results79 ⟨rfl,rfl,trivial⟩ ⟨x2,_,_,rfl,by rw [hno (by rw [hc];exact hE)],by rw [hc];rfl⟩
 have ok:=N1 hE
 rw [if_pos hE] at hl
 have hbad:¬ (busB n a/\busB n b)->∀ {σ:Env},Leave Tryz.prog Tryz.f79 48 (fun v w'=>Ext w w'/\Two (Is (.bool (conB n o a b))) (Is (.int .i64 (conE n o a b))) v w') ((9,.int .i64 1)::(8,.bool false)::σ) [] w2:=fun h σ=>by
  have hc:conE n o a b=1:=by unfold conE;rw [if_neg (by simpa using hE),if_neg h]
  exact .plain [_,_] Tryz.results79 ⟨rfl,rfl,trivial⟩ ⟨x2,_,_,rfl,by rw [hno (by rw [hc];decide)],by rw [hc]⟩
 refine .neqF O O O hE (.nil (.condF O (.skip (.seq (.sr (.mv O O ?_))))))
 by_cases ha0:a<0
 ·refine .lssT O O O ha0 (.mv O O (.gs O O O O O (.gs O O O O O (.gs O O O O O (.gs O O O O O (.pick O O O (.mv O O (.gs O O O O O (.gs O O O O O (.pick O O O (.mv O O (.gs O O O O O (.gs O O O O O (.gs O O O O O (.gs O O O O O (.pick O O O (.nil (.condT O (.sr (.asg O O (.an O O (.ret ?_))))))))))))))))))))))
  exact hbad fun h=>by have:=h.1.1;omega
 refine .lssF O O O (by omega) (.mv O O (.gr O O O O (.mv O O (.gr O O O O (.fa E5 O O (.gr O O O O (.ld A3 O O k2 O (.gr O O O O ?_))))))))
 by_cases ha1:n.b<=a
 ·refine .geqT O O O ha1 (.pick O O O (.mv O O (.gs O O O O O (.gs O O O O O (.pick O O O (.mv O O (.gs O O O O O (.gs O O O O O (.gs O O O O O (.gs O O O O O (.pick O O O (.nil (.condT O (.sr (.asg O O (.an O O (.ret ?_)))))))))))))))))
  exact hbad fun h=>by have:=h.1.2;omega
 refine .geqF O O O (by omega) (.pick O O O (.mv O O (.gr O O O O (.mv O O (.gr O O O O ?_)))))
 by_cases hb0:b<0
 ·refine .lssT O O O hb0 (.pick O O O (.mv O O (.gs O O O O O (.gs O O O O O (.gs O O O O O (.gs O O O O O (.pick O O O (.nil (.condT O (.sr (.asg O O (.an O O (.ret ?_)))))))))))))
  exact hbad fun h=>by have:=h.2.1;omega
 refine .lssF O O O (by omega) (.pick O O O (.mv O O (.gr O O O O (.mv O O (.gr O O O O (.fa E5 O O (.gr O O O O (.ld A3 O O k2 O (.gr O O O O ?_)))))))))
 by_cases hb1:n.b<=b
 ·refine .geqT O O O hb1 (.pick O O O (.nil (.condT O (.sr (.asg O O (.an O O (.ret ?_)))))))
  exact hbad fun h=>by have:=h.2.2;omega
 refine .geqF O O O (by omega) (.pick O O O (.nil (.condF O (.skip (.seq ?_)))))
 have hc:conE n o a b=0:=by unfold conE;rw [if_neg (by simpa using hE),if_pos ⟨⟨by omega,by omega⟩,by omega,by omega⟩]
 obtain ⟨a',rfl⟩:∃ a':Nat,a=a':=⟨a.toNat,by omega⟩
 obtain ⟨b',rfl⟩:∃ b':Nat,b=b':=⟨b.toNat,by omega⟩
 have hnb:=ok.b
 have haB:a'<(nwOf n o).B:=by omega
 have hbB:b'<(nwOf n o).B:=by omega
 refine .par follows 9 [.inl vl,.inl (.int .i64 (a':Nat)),.inr (Ptr (eInt .i64) S ((nwOf n o).lab a':Nat)),.inl (.int .i64 ((nwOf n o).lab a':Nat)),.inl vl,.inl (.int .i64 (b':Nat)),.inr (Ptr (eInt .i64) S ((nwOf n o).lab b':Nat)),.inl (.int .i64 ((nwOf n o).lab b':Nat)),.inl (.bool (conB n o a' b'))]
  [[],[],[(39,0),(40,1)],[(41,2)],[],[],[(43,4),(44,5)],[(45,6)],[(42,3),(46,7)]] (by kernel_rfl) ⟨
  fun w e=>(v_mv O).ob,fun w e=>(v_mv O).ob,fun w e=>B5 (i:=a') un_I B6 O (ER.ext eI hl e) O (P9 haB),fun w e x hx=>G5 B6 O hx,
  fun w e=>(v_mv O).ob,fun w e=>(v_mv O).ob,fun w e=>B5 (i:=b') un_I B6 O (ER.ext eI hl e) O (P9 hbB),fun w e x hx=>G5 B6 O hx,
  fun w e=>((BP3 O O).eq (by
   have:=Nw.lab_eq haB hbB
   unfold conB
   by_cases h:(nwOf n o).root a'=(nwOf n o).root b'
   ·rw [decide_eq_true ⟨hc,h⟩,this.2 h];simp
   ·rw [decide_eq_false fun h'=>h h'.2]
    have h2:(nwOf n o).lab a'≠(nwOf n o).lab b':=fun e=>h (this.1 e)
    simp;omega)).ob,trivial⟩ ?_
 intro w3 e3 _ _ _ _
 refine .asg O O (.an O O (.ret ?_))
 exact .plain [_,_] Tryz.results79 ⟨rfl,rfl,trivial⟩ ⟨x2.trans e3,_,_,rfl,rfl,by rw [hc]⟩
end Go.Proofs.YtggegpiffjbngaaGreat
namespace Go.Kx
open Go Go.RowKit
def eRaw:ER Value where
 sz:=1
 isA:=false
 R:=fun _ _ e x=>e=x/\∃ a n c,x=.slice a n c
 csz:=by rintro S w e x ⟨rfl,a,n,c,rfl⟩;rfl
 one:=by rintro S w e x ⟨rfl,a,n,c,rfl⟩ u hu;simp [Value.cells] at hu;subst hu;rfl
 shp:=by rintro S w e x ⟨rfl,a,n,c,rfl⟩;rfl
 keep:=fun _ h=>h
 mono:=fun _ h=>h
section
variable {α:Type} {E:ER α} {t:TypeId} {base:Nat} {X:Nat->Prop} {w w':World} {v:Value} {l:List α}
theorem OwnL.blk (h:OwnL E t base X w v l) {b:Nat} (hb:v.ownBlock=some b):base<=b/\∃ cs,Blk w b t cs:=by
 obtain ⟨es,h1,h2⟩:=h
 rcases h1.2 with ⟨hn,_⟩ | ⟨g,cap,cur,hv,hb',hg',rest⟩
 ·rw [hn] at hb;cases hb
 ·rw [hv] at hb;cases hb;exact ⟨hb',cur,hg'⟩
end
section
variable {P:Program} {σ:Env} {w:World} {d:Option Tmp} {ty:TypeId} {pos:String} {af:Array Edge} {g:Option (Nat×Bool)} {α:Type} {E:ER α}
end
def Nw.mem (n:Nw) (i r:Nat):List Nat:=(List.range i).filter fun b=>decide (n.root b=r)
theorem Nw.mem_succ (n:Nw) (i r:Nat):n.mem (i+1) r=n.mem i r++if n.root i=r then [i] else []:=by
 unfold Nw.mem
 rw [List.range_succ,List.filter_append]
 by_cases h:n.root i=r
 ·simp [h]
 ·simp [h]
end Go.Kx
namespace Go.Proofs.YtggegpiffjbngaaGreat
open Go Go.Kx Go.RowKit
theorem Ap8:Tryz.prog.underlying 47=some (.slice 25):=by kernel_rfl
theorem info_IL:infoOf Tryz.prog 25=some (.slice none 0 0,1,24):=by kernel_rfl
end Go.Proofs.YtggegpiffjbngaaGreat
namespace Go.Kx
open Go Go.RowKit
section
variable {α:Type} {E:ER α} {t:TypeId} {base:Nat} {X X':Nat->Prop} {w w':World} {v:Value} {l:List α}
theorem OwnL.grownX {ob:Option Nat} (h:OwnL E t base X w v l) (hg:w.grownBy w' ob) (hne:∀ b,v.ownBlock=some b->ob≠some b) (hX:∀ k,X k->k<w.heap.size->ob≠some k/\X' k):OwnL E t base X' w' v l:=by
 obtain ⟨es,h1,h2⟩:=h
 refine ⟨es,⟨h1.1,?_⟩,⟨h2.1,fun i e x he hx=>?_⟩⟩
 ·rcases h1.2 with hn | ⟨g,cap,cur,hv,hb,hg',rest⟩
  ·exact .inl hn
  ·have hB:Blk w g t cur:=hg'
   exact .inr ⟨g,cap,cur,hv,hb,(hg.block g hB.lt (fun e=>hne g (by rw [hv];rfl) e.symm)).trans hg',rest⟩
 ·have h3:=ER.lt E (h2.2 i e x he hx)
  have h4:=E.keep (w':=w') (fun k c t f hS hk=>(hg.block k hS.2 (fun e=>(hX k hS.1.1 hS.2).1 e.symm)).trans hk) h3
  exact E.mono (fun k _ hS=>⟨(hX k hS.1.1 hS.2).2,hS.1.2⟩) h4
theorem OwnL.updX {b:Nat} (h:OwnL E t base X w v l) (hu:Upd w w' b) (hne:v.ownBlock≠some b) (hX:∀ k,X k->v.ownBlock≠some k->k≠b/\X' k):OwnL E t base X' w' v l:=by
 obtain ⟨es,h1,h2⟩:=h
 refine ⟨es,⟨h1.1,?_⟩,⟨h2.1,fun i e x he hx=>?_⟩⟩
 ·rcases h1.2 with hn | ⟨g,cap,cur,hv,hb,hg',rest⟩
  ·exact .inl hn
  ·exact .inr ⟨g,cap,cur,hv,hb,(hu.block g (fun e=>hne (by rw [hv,<-e];rfl))).trans hg',rest⟩
 ·have h4:=E.keep (Kp.upd hu (fun hS=>(hX b hS.1 hS.2).1 O)) (h2.2 i e x he hx)
  exact E.mono (fun k _ hS=>⟨(hX k hS.1 hS.2).2,hS.2⟩) h4
theorem OwnL.own_lt (h:OwnL E t base X w v l) {b:Nat} (hb:v.ownBlock=some b):base<=b/\b<w.heap.size:=by
 obtain ⟨es,h1,_⟩:=h
 exact h1.lt b hb
end
end Go.Kx
namespace Go.Proofs.YtggegpiffjbngaaGreat
open Go Go.Kx Go.RowKit
def offV (S:Nat->Prop) (g:Nat) (vs:List Value):Nat->Prop:=fun k=>S k/\k≠g/\∀ u∈vs,u.ownBlock≠some k
structure RwI (S:Nat->Prop) (base g:Nat) (W:World) (vs:List Value) (ls:List (List QV)):Prop where
 out:FB eRaw 32 (fun _=>True) W g vs
 len:vs.length=ls.length
 inn:∀ (i:Nat) (u:Value) (m:List QV),vs[i]?=some u->ls[i]?=some m->OwnL eQ 54 base (offV S g vs) W u m
 dis:∀ (i j:Nat) (u u':Value),i≠j->vs[i]?=some u->vs[j]?=some u'->∀ b,u.ownBlock=some b->u'.ownBlock≠some b
section
variable {S:Nat->Prop} {base g:Nat} {W W':World} {vs:List Value} {ls:List (List QV)}
theorem RwI.ext (h:RwI S base g W vs ls) (e:Ext W W'):RwI S base g W' vs ls:=⟨h.out.ext e,h.len,fun i u m h1 h2=>(h.inn i u m h1 h2).ext e,h.dis⟩
theorem RwI.ls_get (h:RwI S base g W vs ls) {i:Nat} {u:Value} (hi:vs[i]?=some u):∃ m,ls[i]?=some m:=by
 have h1:=(List.getElem?_eq_some_iff.1 hi).1
 rw [h.len] at h1
 exact ⟨_,List.getElem?_eq_getElem h1⟩
theorem RwI.own_lt (h:RwI S base g W vs ls) {u:Value} (hu:u∈vs) {b:Nat} (hb:u.ownBlock=some b):base<=b/\b<W.heap.size:=by
 obtain ⟨i,hi⟩:=List.mem_iff_getElem?.1 hu
 obtain ⟨m,hm⟩:=h.ls_get hi
 exact (h.inn i u m hi hm).own_lt hb
theorem RwI.ne_g (h:RwI S base g W vs ls) {u:Value} (hu:u∈vs):u.ownBlock≠some g:=fun hb=>by
 obtain ⟨i,hi⟩:=List.mem_iff_getElem?.1 hu
 obtain ⟨m,hm⟩:=h.ls_get hi
 obtain ⟨_,c1,k1⟩:=(h.inn i u m hi hm).blk hb
 obtain ⟨es,k2,_⟩:=h.out
 have e1:W.heap[g]?=some (.cells c1 54 (0,0)):=k1
 have e2:W.heap[g]?=some (.cells (cellsOf es).toArray 32 (0,0)):=k2
 rw [e1] at e2
 cases e2
theorem RwI.fresh {n:Nat} (f:FB eRaw 32 (fun _=>True) W g (List.replicate n (.slice none 0 0))):RwI S base g W (List.replicate n (.slice none 0 0)) (List.replicate n []):=by
 refine ⟨f,by simp,fun i u m h1 h2=>?_,fun i j u u' _ h1 _ b hb=>?_⟩
 ·rw [List.getElem?_replicate] at h1 h2
  split at h1
  ·rw [if_pos (by assumption)] at h2
   cases h1;cases h2
   exact OwnL.nil
  ·cases h1
 ·rw [List.getElem?_replicate] at h1
  split at h1
  ·cases h1;cases hb
  ·cases h1
theorem RwI.step {W'':World} {i:Nat} {u v':Value} {m:List QV} {x:QV} (h:RwI S base g W vs ls) (hi:vs[i]?=some u) (hm:ls[i]?=some m) (hv:OwnL eQ 54 base (offV S g vs) W' v' (m++[x])) (hg:W.grownBy W' u.ownBlock) (hob:v'.ownBlock=u.ownBlock\/v'.ownBlock=some W.heap.size)
  (fb:FB eRaw 32 (fun _=>True) W'' g (vs.set i v')) (hu:Upd W' W'' g):RwI S base g W'' (vs.set i v') (ls.set i (m++[x])):=by
 have hgl:=h.out.lt
 have hum:u∈vs:=List.mem_iff_getElem?.2 ⟨i,hi⟩
 have hil:=(List.getElem?_eq_some_iff.1 hi).1
 have hvg:v'.ownBlock≠some g:=fun e=>by
  rcases hob with h1 | h1
  ·rw [h1] at e;exact h.ne_g hum e
  ·rw [h1] at e;cases e;omega
 have mem:∀ u',u'∈vs.set i v'->u'=v'\/u'∈vs:=fun u' hu'=>by
  rcases List.mem_or_eq_of_mem_set hu' with h1 | h1
  ·exact .inr h1
  ·exact .inl h1
 have old:∀ (j:Nat) (u':Value) (b:Nat),j≠i->vs[j]?=some u'->v'.ownBlock=some b->u'.ownBlock≠some b:=fun j u' b hj h1 hb hb'=>by
  rcases hob with h2 | h2
  ·rw [h2] at hb;exact h.dis i j u u' (fun e=>hj e.symm) hi h1 b hb hb'
  ·rw [h2] at hb;cases hb
   have:=(h.own_lt (List.mem_iff_getElem?.2 ⟨j,h1⟩) hb').2
   omega
 refine ⟨fb,by rw [List.length_set,List.length_set,h.len],fun j u' m' h1 h2=>?_,fun j k u1 u2 hjk h1 h2 b hb=>?_⟩
 ·by_cases e:j=i
  ·subst e
   rw [List.getElem?_set_self hil] at h1
   rw [List.getElem?_set_self (by rw [<-h.len];exact hil)] at h2
   cases h1;cases h2
   refine hv.updX hu hvg fun k hk hne=>⟨hk.2.1,hk.1,hk.2.1,fun u' hu'=>?_⟩
   rcases mem u' hu' with rfl | h3
   ·exact hne
   ·exact hk.2.2 u' h3
  ·rw [List.getElem?_set_ne (fun h=>e h.symm)] at h1 h2
   have hum':u'∈vs:=List.mem_iff_getElem?.2 ⟨j,h1⟩
   have hj:=h.inn j u' m' h1 h2
   have hj':OwnL eQ 54 base (offV S g (vs.set i v')) W' u' m':=hj.grownX hg (fun b hb hb'=>h.dis i j u u' (fun e'=>e e'.symm) hi h1 b hb' hb) fun k hk hkl=>⟨hk.2.2 u hum,hk.1,hk.2.1,fun u2 hu2=>by
    rcases mem u2 hu2 with rfl | h3
    ·rcases hob with h4 | h4
     ·rw [h4];exact hk.2.2 u hum
     ·rw [h4];intro e';cases e';omega
    ·exact hk.2.2 u2 h3⟩
   exact hj'.updX hu (h.ne_g hum') fun k hk _=>⟨hk.2.1,hk⟩
 ·by_cases ej:j=i
  ·subst ej
   rw [List.getElem?_set_self hil] at h1
   cases h1
   rw [List.getElem?_set_ne hjk] at h2
   exact old k u2 b (fun e=>hjk e.symm) h2 hb
  ·rw [List.getElem?_set_ne (fun h=>ej h.symm)] at h1
   by_cases ek:k=i
   ·subst ek
    rw [List.getElem?_set_self hil] at h2
    cases h2
    intro hb'
    exact old j u1 b ej h1 hb' hb
   ·rw [List.getElem?_set_ne (fun h=>ek h.symm)] at h2
    exact h.dis j k u1 u2 hjk h1 h2 b hb
theorem RwI.toR {T:Nat->Prop} (h:RwI S base g W vs ls) (hg:T g) (hT:∀ k,base<=k->T k) (hS:∀ k,S k->T k) (hl:ls.length<=1000):eM.R T W (.slice (some ⟨g,0,none⟩) ls.length ls.length) ls:=by
 have ho:FB eRaw 32 T W g vs:=by
  obtain ⟨es,hb,he⟩:=h.out
  exact ⟨es,hb,he.1,fun i e x h1 h2=>he.2 i e x h1 h2⟩
 have hr:=ho.toR (hsz:=by decide) (c:=ls.length) hg (by rw [h.len];exact Nat.le_refl _) (by rw [h.len];omega)
 rw [h.len] at hr
 obtain ⟨es,he,hrow⟩:=hr
 have hes:es=vs:=List.ext_getElem? fun i=>by
  rcases Nat.lt_or_ge i es.length with hi | hi
  ·have h1:=List.getElem?_eq_getElem hi
   have h2:=List.getElem?_eq_getElem (l:=vs) (i:=i) (by rw [<-he.1];exact hi)
   have:=(he.2 i _ _ h1 h2).1
   rw [h1,h2,this]
  ·rw [List.getElem?_eq_none hi,List.getElem?_eq_none (by rw [<-he.1];exact hi)]
 subst hes
 refine ⟨es,⟨h.len,fun i e x h1 h2=>?_⟩,by rw [h.len] at hrow;exact hrow⟩
 exact (h.inn i e x h1 h2).toR hT fun k hk=>hS k hk.1
end
end Go.Proofs.YtggegpiffjbngaaGreat
namespace Go.Kx
open Go Go.RowKit
def Nw.lmL (n:Nw) (l:List Nat):RM:=fun b c=>l.foldl (fun s k=>s+n.g k*(n.inc k b*n.inc k c)) 0
theorem Nw.lmL_snoc (n:Nw) (l:List Nat) (k b c:Nat):n.lmL (l++[k]) b c=n.lmL l b c+n.g k*(n.inc k b*n.inc k c):=by unfold Nw.lmL;rw [List.foldl_append];rfl
theorem Nw.lmL_free {n:Nw} {p:List Nat} (b c:Nat):∀ j,(∀ k,k<j->(n.g k=0<->k∈p))->n.lmL (freeTo p j) b c=sumN j fun k=>n.g k*(n.inc k b*n.inc k c)
 | 0,_=>rfl
 | j+1,h=>by
  have ih:=Nw.lmL_free (n:=n) (p:=p) b c j fun k hk=>h k (by omega)
  have hj:=h j (by omega)
  rw [Go.Proofs.YtggegpiffjbngaaGreat.J3]
  show _=sumN j _+_
  by_cases hg:n.g j=0
  ·rw [if_pos (hj.1 hg),List.append_nil,ih]
   dsimp only
   rw [hg,Rat.zero_mul,Rat.add_zero]
  ·rw [if_neg (fun h=>hg (hj.2 h)),Nw.lmL_snoc,ih]
def upE (f:RM) (i j:Nat) (y:Rat):RM:=fun b c=>if b=i then (if c=j then y else f i c) else f b c
theorem AV4 {f:RM} {i j b c:Nat} {y:Rat} (h:b≠i\/c≠j):upE f i j y b c=f b c:=by
 unfold upE
 by_cases hb:b=i
 ·subst hb
  rw [if_pos rfl,if_neg (by rcases h with h | h;exact absurd rfl h;exact h)]
 ·rw [if_neg hb]
theorem Nw.four (n:Nw) {k:Nat} (hne:n.F k≠n.T k) (f:RM) (b c:Nat) :
  upE (upE (upE (upE f (n.F k) (n.F k) (f (n.F k) (n.F k)+n.g k)) (n.F k) (n.T k) (f (n.F k) (n.T k)-n.g k)) (n.T k) (n.T k) (f (n.T k) (n.T k)+n.g k)) (n.T k) (n.F k) (f (n.T k) (n.F k)-n.g k) b c=f b c+n.g k*(n.inc k b*n.inc k c):=by
 unfold upE Nw.inc dl
 generalize n.F k=F at *
 generalize n.T k=T at *
 by_cases h1:b=F
 ·subst h1
  by_cases h2:c=b
  ·subst h2;simp [hne,Ne.symm hne];grind
  ·by_cases h3:c=T
   ·subst h3;simp [hne,Ne.symm hne];grind
   ·simp [hne,Ne.symm hne,h2,h3,Ne.symm h2,Ne.symm h3];grind
 ·by_cases h1':b=T
  ·subst h1'
   by_cases h2:c=b
   ·subst h2;simp [hne,Ne.symm hne];grind
   ·by_cases h3:c=F
    ·subst h3;simp [hne,Ne.symm hne];grind
    ·simp [hne,Ne.symm hne,h2,h3,Ne.symm h2,Ne.symm h3];grind
  ·simp [h1,h1',Ne.symm h1,Ne.symm h1'];grind
theorem rsz_tri {g:Rat} {s:Rat} {L:Nat} (h:Rsz g L) (hL:1<=L) (hs:s=0\/s=1\/s = -1):Rsz (g*s) L:=by
 rcases hs with rfl | rfl | rfl
 ·rw [Rat.mul_zero];exact Rsz.zero hL
 ·rw [Rat.mul_one];exact h
 ·rw [show g*(-1) = -g by grind];exact h.neg
theorem Nw.inc_tri (n:Nw) (k b:Nat):n.inc k b=0\/n.inc k b=1\/n.inc k b = -1:=by
 unfold Nw.inc dl
 split<;>split<;>grind
theorem Nw.lmL_rsz (n:Nw) {L:Nat} (hL:1<=L) (hg:∀ k,Rsz (n.g k) L) (b c:Nat) (l:List Nat):Rsz (n.lmL l b c) (1+l.length*(L+1)):=by
 have key:∀ (m:Nat) (l:List Nat),l.length=m->Rsz (n.lmL l b c) (1+m*(L+1)):=by
  intro m
  induction m with
  | zero=>intro l hl;rw [List.length_eq_zero_iff.1 hl];exact Rsz.zero (by omega)
  | succ m ih =>
   intro l hl
   obtain ⟨l',k,rfl⟩:∃ l' k,l=l'++[k]:=⟨l.dropLast,l.getLast (by intro e;rw [e] at hl;cases hl),(List.dropLast_concat_getLast _).symm⟩
   rw [Nw.lmL_snoc]
   have h1:=ih l' (by simp at hl;exact hl)
   have h2:Rsz (n.g k*(n.inc k b*n.inc k c)) L:=rsz_tri (hg k) hL (by
    rcases n.inc_tri k b with h | h | h<;>rcases n.inc_tri k c with h' | h' | h'<;>rw [h,h']<;>grind)
   refine (h1.add h2).mono ?_
   rw [Nat.add_mul];omega
 exact key _ l rfl
end Go.Kx
namespace Go.Proofs.YtggegpiffjbngaaGreat
open Go Go.Kx Go.RowKit
theorem nwOk.gsz {n:NtV} {o:List Int} (h:nwOk n o) (k:Nat):Rsz ((nwOf n o).g k) 1:=by
 show Rsz (if k∈oN o then (0:Rat) else ((n.ls.getD k ln0).x:Rat)⁻¹) 1
 have hx:1<=(n.ls.getD k ln0).x/\(n.ls.getD k ln0).x<=1000:=by
  rcases Nat.lt_or_ge k n.ls.length with hk | hk
  ·exact h.x k hk
  ·rw [List.getD_eq_getElem?_getD,List.getElem?_eq_none hk];decide
 split
 ·exact Rsz.zero (Nat.le_refl _)
 ·exact (Rsz.int _ (by omega) (Nat.le_refl _)).inv (Nat.le_refl _)
theorem BF5:Ent Tryz.prog 138:=A0 Tryz.func138 (by kernel_rfl) rfl
theorem BD6 {S:Nat->Prop} {w:World} {n d:Int} (up:Up S w) (hn1 : -9223372036854775808<=n) (hn2:n<=9223372036854775807) (hd1 : -9223372036854775808<=d) (hd2:d<=9223372036854775807) (hd:d≠0) :
  CR Tryz.prog 138 #[.int .i64 n,.int .i64 d] w (Two (eQ.at S (qc (Rat.divInt n d))) (Is (.int .i64 0))):=by
 refine enter Tryz.func138 O Tryz.ntmps138 O ?_
 refine .sr (.alloc O C2 fun w1 b4 n1=>.an O O ?_)
 obtain ⟨e1,k4,hb4,hs1⟩:=n1
 have hS4:¬ Sx S w.heap.size w1.heap.size b4:=Sx.no (by omega) (by omega)
 have up1:Up (Sx S w.heap.size w1.heap.size) w1:=Sx.up up (Nat.le_refl _) e1.size
 refine .seq (.sr (.mv O O (.eqlF O O O hd (.nil (.condF O (.skip (.sr (.mv O O ?_))))))))
 refine .call _ O E4 O (E3 up1 hn1 hn2) fun v2 w2 e2 h2=>.mv O O ?_
 refine .call _ O E4 O (E3 (up1.ext e2.size) hd1 hd2) fun v3 w3 e3 h3=>?_
 refine .call _ O AE1 O (Al0 (L:=2) (up1.ext (e2.trans e3).size) (Zv.of (ER.ext eZ h2 e3) (by omega)) (Zv.of h3 (by omega)) hd (by decide)) fun v5 w5 e5 h5=>?_
 have x5:=((e1.trans e2).trans e3).trans e5
 refine .storeA (E:=eQ) ty_Q O O (((k4.ext e2).ext e3).ext e5) O O h5 hS4 fun w6 k6 u6 h6=>.an O O (.ret ?_)
 exact .plain [_,_] Tryz.results138 ⟨⟨_,rfl,E2 (E:=eQ) ty_Q O O k6 h6⟩,rfl,trivial⟩ ⟨u6.below x5 (by omega),_,_,rfl,h6.out,rfl⟩
end Go.Proofs.YtggegpiffjbngaaGreat
namespace Go.Kx
open Go Go.RowKit
theorem MB.new {t tq:TypeId} {S:Nat->Prop} {w w1 w2:World} {gb c b:Nat} {hs:List Nat} {M:List (List QV)} (h:MB t tq S w gb c hs M) (e:Ext w w1) (u:Upd w1 w2 b) (hb:w.heap.size<=b):MB t tq S w2 gb c hs M:=by
 have h1:=h.mono (S':=fun k=>S k/\k<w.heap.size) fun k hk hS=>⟨hS,hk⟩
 have hg:=h.out.lt
 have h2:=(h1.ext e).upd u (by omega) (fun hm=>by have:=h.lt hm;omega) fun hS=>by have:=hS.2;omega
 exact h2.mono fun k _ hS=>hS.1
theorem AS3 {B i j:Nat} {f:RM} {y:Rat} (hi:i<B):(tabM B B f).set i ((tab B (f i)).set j (qc y))=tabM B B (upE f i j y):=by
 rw [AM1,M9 hi]
 rfl
end Go.Kx
namespace Go.Proofs.YtggegpiffjbngaaGreat
open Go Go.Kx Go.RowKit
theorem AU6:Ent Tryz.prog 73:=A0 Tryz.func73 (by kernel_rfl) rfl
theorem AS5 {S:Nat->Prop} {w:World} {vn vl vr:Value} {n:NtV} {o:List Int} (up:Up S w) (hn:eN.R S w vn n) (hl:eI.R S w vl (pInts (inL n o))) (hr:eI.R S w vr (pInts (nwOf n o).refs)) (ok:nwOk n o) :
  CR Tryz.prog 73 #[vn,vl,vr] w (eM.at S (tabM (nwOf n o).B (nwOf n o).B (nwOf n o).gm)):=by
 obtain ⟨s,rfl,hs,_⟩:=hn
 have hB6:=ok.b6
 have hM10:n.ls.length<=10:=ok.m
 have hll:=AT5 n o
 have hnb:=ok.b
 refine enter Tryz.func73 O Tryz.ntmps73 O ?_
 refine .sr (.box O O fun w1 b3 n1=>.an O O ?_)
 obtain ⟨e1,k3,hb3,hs1⟩:=n1
 rw [hnb] at k3
 generalize hnw:nwOf n o=nw at *
 generalize hB:nw.B=B at *
 refine .sr (.fa E5 O O (.ld A3 O O k3 O (.fa E5 O O (.ld A3 O O k3 O ?_))))
 refine .call _ rfl At1 O (Ak7 (m:=[]) (L:=1) (up.ext e1.size) RL.nil (fun r hr=>by cases hr) (by decide) (by decide)) fun v2 w2 e2 h2=>.an O O ?_
 obtain ⟨gb,hs2,rfl,hgb,hge,hM⟩:=h2
 have hcB:cutN (B:Int)=B:=by unfold cutN;omega
 rw [hcB] at hM ⊢
 have hz:tabM B B (rm [])=tabM B B (nw.lmL []):=C9 fun i k _ _=>by unfold rm;rw [List.getD_nil,AV8];rfl
 rw [hz] at hM
 have x2:=e1.trans e2
 have hw1:=e1.size
 have hsW:∀ {W:World},Below w1.heap.size w2 W->eLs.R (fun k=>S k/\k<w.heap.size) W s n.ls:=fun h=>eLs.keep (fun k c t f hk hh=>(h.block k (by have:=hk.2;omega)).trans hh) (ER.ext eLs (ER.lt eLs hs) x2)
 have hlW:∀ {W:World},Below w1.heap.size w2 W->eI.R (fun k=>S k/\k<w.heap.size) W vl (pInts (inL n o)):=fun h=>eI.keep (fun k c t f hk hh=>(h.block k (by have:=hk.2;omega)).trans hh) (ER.ext eI (ER.lt eI hl) x2)
 have hrW:∀ {W:World},Below w1.heap.size w2 W->eI.R (fun k=>S k/\k<w.heap.size) W vr (pInts nw.refs):=fun h=>eI.keep (fun k c t f hk hh=>(h.block k (by have:=hk.2;omega)).trans hh) (ER.ext eI (ER.lt eI hr) x2)
 have k3:=k3.ext e2
 have hk3:∀ {W:World},Below w1.heap.size w2 W->Blk W b3 24 #[.int .i64 (B:Nat),s]:=fun h=>(h.block b3 (by omega)).trans k3
 have hhl:hs2.length=B:=by rw [hM.len,A4]
 have hhg:∀ i,i<B->hs2[i]?=some (hs2.getD i 0):=fun i hi=>A9 (by omega)
 have hhm:∀ i,i<B->w1.heap.size<=hs2.getD i 0:=fun i hi=>hge _ (F6 (by omega))
 have hw2:=e2.size
 refine .mid (α:=Unit) (fun _=>[(2,vr),(3,.pointer (some ⟨b3,0,none⟩)),(7,.slice (some ⟨gb,0,none⟩) B B)]) (fun _ W=>Below w1.heap.size w2 W/\MB 32 54 S W gb B hs2 (tabM B B (nw.lmL (inL n o)))) ?_ ?_
 ·refine .sr (.mv O O (.lenR un_I O O (hlW (Below.refl _ _)) (.mv O O (.nil ?_))))
  rw [show (pInts (inL n o)).length=(inL n o).length by simp]
  refine .block (.loop (α:=Nat) (fun i=>[(2,vr),(3,.pointer (some ⟨b3,0,none⟩)),(7,.slice (some ⟨gb,0,none⟩) B B),(21,vl),(22,.int .i64 ((inL n o).length:Nat)),(23,.int .i64 (i:Nat))]) (fun i W=>Below w1.heap.size w2 W/\i<=(inL n o).length/\MB 32 54 S W gb B hs2 (tabM B B (nw.lmL ((inL n o).take i)))) (fun i=>(inL n o).length-i) 0 ?_ ?_ ?_)
  ·exact lkA rfl
  ·exact ⟨Below.refl _ _,Nat.zero_le _,hM⟩
  rintro i W ⟨hW,hi,hM⟩
  have hhk:∀ j,j<B->hs2.getD j 0<W.heap.size:=fun j hj=>hM.lt (F6 (by omega))
  refine .sr ?_
  rcases Nat.lt_or_ge i (inL n o).length with hlt | hge'
  rotate_left
  ·refine .lssF O O O (by omega) (.nil (.seq (.condF O (.exit ?_))))
   have:i=(inL n o).length:=by omega
   subst this
   rw [List.take_of_length_le (Nat.le_refl _)] at hM
   exact ⟨rfl,(),lkA rfl,hW,hM⟩
  obtain ⟨hgk,hkM,hko⟩:=Ad2 hlt
  refine .lssT O O O (by omega) (.nil (.seq (.condT O (.skip (.seq (.block (.sr (.ixN (i:=i) un_I B6 O O (hlW hW) O hgk fun q hq=>.ldE (E:=eInt .i64) B6 O O hq fun e he=>.an O O ?_))))))))
  obtain ⟨rfl,_⟩:=he
  have htk:(inL n o).take (i+1)=(inL n o).take i++[(inL n o).getD i 0]:=by rw [List.take_add_one,A9 (z:=0) hlt];rfl
  have hgl:n.ls[(inL n o).getD i 0]?=some (n.ls.getD ((inL n o).getD i 0) ln0):=A9 hkM
  have hkM':(inL n o).getD i 0<(nwOf n o).M:=hkM
  have hFI:=ok.fI _ hkM'
  have hTI:=ok.tI _ hkM'
  have hFB:=ok.f _ hkM'
  have hTB:=ok.t _ hkM'
  have hne:=ok.ne _ hkM'
  have hx:=ok.x _ hkM'
  have hgs:=ok.gsz ((inL n o).getD i 0)
  have hgv:(nwOf n o).g ((inL n o).getD i 0)=Rat.divInt 1 (n.ls.getD ((inL n o).getD i 0) ln0).x:=by
   show (if (inL n o).getD i 0∈oN o then (0:Rat) else ((n.ls.getD ((inL n o).getD i 0) ln0).x:Rat)⁻¹)=_
   rw [if_neg hko,Rat.divInt_eq_div,Rat.div_def,show ((1:Int):Rat)=1 from rfl,Rat.one_mul]
  rw [hnw] at hFI hTI hFB hTB hne hgs hgv
  rw [hB] at hFB hTB
  have hfs:∀ b c,Rsz (nw.lmL ((inL n o).take i) b c) 30:=fun b c=>(nw.lmL_rsz (Nat.le_refl _) (fun k=>by rw [<-hnw];exact ok.gsz k) b c _).mono (by rw [List.length_take];omega)
  generalize hk:(inL n o).getD i 0=k at *
  generalize hf:nw.lmL ((inL n o).take i)=f at *
  generalize hln:n.ls.getD k ln0=ln at *
  refine .sr (.fa G7 O O (.ld K6 O O (hk3 hW) O (.mv O O (.ixN (i:=k) K4 M8 O O (hsW hW) O hgl fun q hq=>.ldE (E:=eL) M8 O O hq fun vl' hvl=>.alloc O AL6 fun W1 b10 n1'=>?_))))
  obtain ⟨f1,k10,hb10,hs1'⟩:=n1'
  refine .storeA (E:=eL) (S:=fun k=>k≠b10) (z:=ln) M8 O O k10 O O hvl (fun h=>h O) fun W2 k10 u2 hl2=>.nil ?_
  obtain ⟨rfl,_⟩:=hl2
  rw [hFI,hTI] at k10
  replace k10:Blk W2 b10 58 #[.int .i64 (nw.F k:Nat),.int .i64 (nw.T k:Nat),.int .i64 ln.x,.int .i64 ln.c]:=k10
  have hWs:=hW.size
  have hM:=hM.new f1 u2 (by omega)
  have hs2':=u2.size
  have hW2:Below w1.heap.size w2 W2:=u2.below (hW.trans (f1.mono (by omega))) (by omega)
  have upT:∀ {W':World},W2.heap.size<=W'.heap.size->Up (offM S gb hs2) W':=fun h k' hk'=>⟨up k' (by omega),by have:=hM.out.lt;omega,fun hm=>by have:=hM.lt hm;omega⟩
  refine .sr (.fa AH1 O O (.ld S8 O O k10 O ?_))
  refine .call _ O BF5 O (BD6 (upT (Nat.le_refl _)) (by decide) (by decide) (by omega) (by omega) (by omega)) fun v3 W3 e3 h3=>?_
  obtain ⟨vp,ve,rfl,hp,rfl⟩:=h3
  rw [<-hgv] at hp
  refine .mv O O (.ext O O O (.ext O O O (.alloc O C2 fun W4 b11 n4=>?_)))
  obtain ⟨e4,k11,hb11,hs4⟩:=n4
  have hs3:=e3.size
  refine .storeA (E:=eQ) (S:=fun k=>offM S gb hs2 k/\k<W3.heap.size) ty_Q O O k11 O O (ER.ext eQ (ER.lt eQ hp) e4) (fun h=>by have:=h.2;omega) fun W5 k11 u5 hp5=>.an O O ?_
  have hp5:eQ.R (offM S gb hs2) W5 vp (qc (nw.g k)):=eQ.mono (fun _ _ h=>h.1) hp5
  have hvp:=shpA (E:=eQ) O hp5
  have hM:=hM.new (e3.trans e4) u5 (by omega)
  have hs5:=u5.size
  have hW5:Below w1.heap.size w2 W5:=u5.below (hW2.trans ((e3.trans e4).mono (by omega))) (by omega)
  have k10:=(k10.ext (e3.trans e4)).upd u5 (show b10≠b11 by omega)
  have hrow0:=hM.row (nw.F k) _ _ (hhg _ hFB) (C8 hFB)
  refine .seq ?_
  refine .par follows 18 [.inl (.slice (some ⟨gb,0,none⟩) B B),.inl (.pointer (some ⟨b10,0,none⟩)),.inl (.int .i64 (nw.F k:Nat)),.inl (.pointer (some ⟨gb,0+(nw.F k)*1,none⟩)),.inl (slB B (hs2.getD (nw.F k) 0)),.inl (.pointer (some ⟨b10,0,none⟩)),.inl (.int .i64 (nw.F k:Nat)),.inl (.slice (some ⟨gb,0,none⟩) B B),.inl (.pointer (some ⟨b10,0,none⟩)),.inl (.int .i64 (nw.F k:Nat)),.inl (.pointer (some ⟨gb,0+(nw.F k)*1,none⟩)),.inl (slB B (hs2.getD (nw.F k) 0)),.inl (.pointer (some ⟨b10,0,none⟩)),.inl (.int .i64 (nw.F k:Nat)),.inl (.pointer (some ⟨hs2.getD (nw.F k) 0,0+(nw.F k)*4,none⟩)),.inr (eQ.at (offM S gb hs2) (qc (f (nw.F k) (nw.F k)))),.inl vp,.inr (eQ.at (offM S gb hs2) (qc (f (nw.F k) (nw.F k)+nw.g k)))]
   [[],[],[(39,1)],[(38,0),(40,2)],[(41,3)],[],[(43,5)],[],[],[(46,8)],[(45,7),(47,9)],[(48,10)],[],[(50,12)],[(49,11),(51,13)],[(52,14)],[],[(53,15),(54,16)]] (by kernel_rfl) ⟨
   fun w e=>(v_mv O).ob,fun w e=>(v_fa H2 O).ob,fun w e=>(v_ld A3 O (k10.ext e) O).ob,fun w e=>(F4 (i:=nw.F k) un_M ty_V O O hFB).ob,fun w e=>(v_ld ty_V O (hM.out.ext e) (hM.cell (hhg _ hFB))).ob,fun w e=>(v_fa H2 O).ob,fun w e=>(v_ld A3 O (k10.ext e) O).ob,
   fun w e=>(v_mv O).ob,fun w e=>(v_fa H2 O).ob,fun w e=>(v_ld A3 O (k10.ext e) O).ob,fun w e=>(F4 (i:=nw.F k) un_M ty_V O O hFB).ob,fun w e=>(v_ld ty_V O (hM.out.ext e) (hM.cell (hhg _ hFB))).ob,fun w e=>(v_fa H2 O).ob,fun w e=>(v_ld A3 O (k10.ext e) O).ob,
   fun w e=>(F4 (i:=nw.F k) un_V ty_Q O O hFB).ob,
   fun w e=>(AD2 (E:=eQ) (i:=nw.F k) (by decide) ty_Q O (Nat.zero_add _) (hrow0.2.ext e) (by rw [G3 hFB])).mono fun v' w' h=>⟨h.1,fun w'' e'=>eQ.mono (fun _ _ h=>h.1) (h.2 w'' e')⟩,
   fun w e=>((B8 ty_Q O (k11.ext e) (eQ.csz hp5)).eq hvp.symm).ob,
   fun w e x hx=>by
    have:=AQ3 (L:=30) (upT (by have:=e.size;omega)) hx (ER.ext eQ hp5 e) (hfs _ _).toOk (hgs.mono (by decide)).toOk (by decide) (by decide)
    rw [B3,B3] at this
    exact (A2 _ AI2 O this).ob (A5 _ _ _),trivial⟩ ?_
  intro X0 g0 _ _ y0 hy0
  refine .ixB (i:=nw.F k) un_V ty_Q O O O hFB (.storeF (E:=eQ) (i:=nw.F k) (by decide) ty_Q O O (hrow0.2.ext g0) O (by rw [A1];exact hFB) (Nat.zero_add _) (eQ.mono (fun k' _ h=>⟨h,fun e=>h.2.2 (e▸F6 (by omega))⟩) hy0) fun Y0 fy0 uy0=>.nil ?_)
  have hM:=(hM.ext g0).set (hhg _ hFB) (by rw [List.length_set,A1]) uy0 fy0
  rw [AS3 hFB] at hM
  have sx0:=g0.size
  have sy0:=uy0.size
  have lw0:=hhm _ hFB
  have lk0:=hhk _ hFB
  have hW5:Below w1.heap.size w2 Y0:=uy0.below (hW5.trans (g0.mono (by omega))) lw0
  have k10:=(k10.ext g0).upd uy0 (by omega)
  have k11:=(k11.ext g0).upd uy0 (by omega)
  have hp5:=(ER.ext eQ hp5 g0).upd uy0 (fun h=>h.2.2 (F6 (by omega)))
  have hrow1:=hM.row (nw.F k) _ _ (hhg _ hFB) (C8 hFB)
  refine .seq ?_
  refine .par follows 18 [.inl (.slice (some ⟨gb,0,none⟩) B B),.inl (.pointer (some ⟨b10,0,none⟩)),.inl (.int .i64 (nw.F k:Nat)),.inl (.pointer (some ⟨gb,0+(nw.F k)*1,none⟩)),.inl (slB B (hs2.getD (nw.F k) 0)),.inl (.pointer (some ⟨b10,1,none⟩)),.inl (.int .i64 (nw.T k:Nat)),.inl (.slice (some ⟨gb,0,none⟩) B B),.inl (.pointer (some ⟨b10,0,none⟩)),.inl (.int .i64 (nw.F k:Nat)),.inl (.pointer (some ⟨gb,0+(nw.F k)*1,none⟩)),.inl (slB B (hs2.getD (nw.F k) 0)),.inl (.pointer (some ⟨b10,1,none⟩)),.inl (.int .i64 (nw.T k:Nat)),.inl (.pointer (some ⟨hs2.getD (nw.F k) 0,0+(nw.T k)*4,none⟩)),.inr (eQ.at (offM S gb hs2) (qc (f (nw.F k) (nw.T k)))),.inl vp,.inr (eQ.at (offM S gb hs2) (qc (f (nw.F k) (nw.T k)-nw.g k)))]
   [[],[],[(58,1)],[(57,0),(59,2)],[(60,3)],[],[(62,5)],[],[],[(65,8)],[(64,7),(66,9)],[(67,10)],[],[(69,12)],[(68,11),(70,13)],[(71,14)],[],[(72,15),(73,16)]] (by kernel_rfl) ⟨
   fun w e=>(v_mv O).ob,fun w e=>(v_fa H2 O).ob,fun w e=>(v_ld A3 O (k10.ext e) O).ob,fun w e=>(F4 (i:=nw.F k) un_M ty_V O O hFB).ob,fun w e=>(v_ld ty_V O (hM.out.ext e) (hM.cell (hhg _ hFB))).ob,fun w e=>(v_fa H1 O).ob,fun w e=>(v_ld A3 O (k10.ext e) O).ob,
   fun w e=>(v_mv O).ob,fun w e=>(v_fa H2 O).ob,fun w e=>(v_ld A3 O (k10.ext e) O).ob,fun w e=>(F4 (i:=nw.F k) un_M ty_V O O hFB).ob,fun w e=>(v_ld ty_V O (hM.out.ext e) (hM.cell (hhg _ hFB))).ob,fun w e=>(v_fa H1 O).ob,fun w e=>(v_ld A3 O (k10.ext e) O).ob,
   fun w e=>(F4 (i:=nw.T k) un_V ty_Q O O hTB).ob,
   fun w e=>(AD2 (E:=eQ) (i:=nw.T k) (by decide) ty_Q O (Nat.zero_add _) (hrow1.2.ext e) (by rw [G3 hTB,AV4 (.inr (Ne.symm hne))])).mono fun v' w' h=>⟨h.1,fun w'' e'=>eQ.mono (fun _ _ h=>h.1) (h.2 w'' e')⟩,
   fun w e=>((B8 ty_Q O (k11.ext e) (eQ.csz hp5)).eq hvp.symm).ob,
   fun w e x hx=>by
    have:=AQ1 (L:=30) (upT (by have:=e.size;omega)) hx (ER.ext eQ hp5 e) (hfs _ _).toOk (hgs.mono (by decide)).toOk (by decide) (by decide)
    rw [B3,B3] at this
    exact (A2 _ AI1 O this).ob (A5 _ _ _),trivial⟩ ?_
  intro X1 g1 _ _ y1 hy1
  refine .ixB (i:=nw.T k) un_V ty_Q O O O hTB (.storeF (E:=eQ) (i:=nw.T k) (by decide) ty_Q O O (hrow1.2.ext g1) O (by rw [A1];exact hTB) (Nat.zero_add _) (eQ.mono (fun k' _ h=>⟨h,fun e=>h.2.2 (e▸F6 (by omega))⟩) hy1) fun Y1 fy1 uy1=>.nil ?_)
  have hM:=(hM.ext g1).set (hhg _ hFB) (by rw [List.length_set,A1]) uy1 fy1
  rw [AS3 hFB] at hM
  have sx1:=g1.size
  have sy1:=uy1.size
  have lw1:=hhm _ hFB
  have lk1:=hhk _ hFB
  have hW5:Below w1.heap.size w2 Y1:=uy1.below (hW5.trans (g1.mono (by omega))) lw1
  have k10:=(k10.ext g1).upd uy1 (by omega)
  have k11:=(k11.ext g1).upd uy1 (by omega)
  have hp5:=(ER.ext eQ hp5 g1).upd uy1 (fun h=>h.2.2 (F6 (by omega)))
  have hrow2:=hM.row (nw.T k) _ _ (hhg _ hTB) (C8 hTB)
  refine .seq ?_
  refine .par follows 18 [.inl (.slice (some ⟨gb,0,none⟩) B B),.inl (.pointer (some ⟨b10,1,none⟩)),.inl (.int .i64 (nw.T k:Nat)),.inl (.pointer (some ⟨gb,0+(nw.T k)*1,none⟩)),.inl (slB B (hs2.getD (nw.T k) 0)),.inl (.pointer (some ⟨b10,1,none⟩)),.inl (.int .i64 (nw.T k:Nat)),.inl (.slice (some ⟨gb,0,none⟩) B B),.inl (.pointer (some ⟨b10,1,none⟩)),.inl (.int .i64 (nw.T k:Nat)),.inl (.pointer (some ⟨gb,0+(nw.T k)*1,none⟩)),.inl (slB B (hs2.getD (nw.T k) 0)),.inl (.pointer (some ⟨b10,1,none⟩)),.inl (.int .i64 (nw.T k:Nat)),.inl (.pointer (some ⟨hs2.getD (nw.T k) 0,0+(nw.T k)*4,none⟩)),.inr (eQ.at (offM S gb hs2) (qc (f (nw.T k) (nw.T k)))),.inl vp,.inr (eQ.at (offM S gb hs2) (qc (f (nw.T k) (nw.T k)+nw.g k)))]
   [[],[],[(77,1)],[(76,0),(78,2)],[(79,3)],[],[(81,5)],[],[],[(84,8)],[(83,7),(85,9)],[(86,10)],[],[(88,12)],[(87,11),(89,13)],[(90,14)],[],[(91,15),(92,16)]] (by kernel_rfl) ⟨
   fun w e=>(v_mv O).ob,fun w e=>(v_fa H1 O).ob,fun w e=>(v_ld A3 O (k10.ext e) O).ob,fun w e=>(F4 (i:=nw.T k) un_M ty_V O O hTB).ob,fun w e=>(v_ld ty_V O (hM.out.ext e) (hM.cell (hhg _ hTB))).ob,fun w e=>(v_fa H1 O).ob,fun w e=>(v_ld A3 O (k10.ext e) O).ob,
   fun w e=>(v_mv O).ob,fun w e=>(v_fa H1 O).ob,fun w e=>(v_ld A3 O (k10.ext e) O).ob,fun w e=>(F4 (i:=nw.T k) un_M ty_V O O hTB).ob,fun w e=>(v_ld ty_V O (hM.out.ext e) (hM.cell (hhg _ hTB))).ob,fun w e=>(v_fa H1 O).ob,fun w e=>(v_ld A3 O (k10.ext e) O).ob,
   fun w e=>(F4 (i:=nw.T k) un_V ty_Q O O hTB).ob,
   fun w e=>(AD2 (E:=eQ) (i:=nw.T k) (by decide) ty_Q O (Nat.zero_add _) (hrow2.2.ext e) (by rw [G3 hTB,AV4 (.inl (Ne.symm hne)),AV4 (.inl (Ne.symm hne))])).mono fun v' w' h=>⟨h.1,fun w'' e'=>eQ.mono (fun _ _ h=>h.1) (h.2 w'' e')⟩,
   fun w e=>((B8 ty_Q O (k11.ext e) (eQ.csz hp5)).eq hvp.symm).ob,
   fun w e x hx=>by
    have:=AQ3 (L:=30) (upT (by have:=e.size;omega)) hx (ER.ext eQ hp5 e) (hfs _ _).toOk (hgs.mono (by decide)).toOk (by decide) (by decide)
    rw [B3,B3] at this
    exact (A2 _ AI2 O this).ob (A5 _ _ _),trivial⟩ ?_
  intro X2 g2 _ _ y2 hy2
  refine .ixB (i:=nw.T k) un_V ty_Q O O O hTB (.storeF (E:=eQ) (i:=nw.T k) (by decide) ty_Q O O (hrow2.2.ext g2) O (by rw [A1];exact hTB) (Nat.zero_add _) (eQ.mono (fun k' _ h=>⟨h,fun e=>h.2.2 (e▸F6 (by omega))⟩) hy2) fun Y2 fy2 uy2=>.nil ?_)
  have hM:=(hM.ext g2).set (hhg _ hTB) (by rw [List.length_set,A1]) uy2 fy2
  rw [AS3 hTB] at hM
  have sx2:=g2.size
  have sy2:=uy2.size
  have lw2:=hhm _ hTB
  have lk2:=hhk _ hTB
  have hW5:Below w1.heap.size w2 Y2:=uy2.below (hW5.trans (g2.mono (by omega))) lw2
  have k10:=(k10.ext g2).upd uy2 (by omega)
  have k11:=(k11.ext g2).upd uy2 (by omega)
  have hp5:=(ER.ext eQ hp5 g2).upd uy2 (fun h=>h.2.2 (F6 (by omega)))
  have hrow3:=hM.row (nw.T k) _ _ (hhg _ hTB) (C8 hTB)
  refine .par follows 18 [.inl (.slice (some ⟨gb,0,none⟩) B B),.inl (.pointer (some ⟨b10,1,none⟩)),.inl (.int .i64 (nw.T k:Nat)),.inl (.pointer (some ⟨gb,0+(nw.T k)*1,none⟩)),.inl (slB B (hs2.getD (nw.T k) 0)),.inl (.pointer (some ⟨b10,0,none⟩)),.inl (.int .i64 (nw.F k:Nat)),.inl (.slice (some ⟨gb,0,none⟩) B B),.inl (.pointer (some ⟨b10,1,none⟩)),.inl (.int .i64 (nw.T k:Nat)),.inl (.pointer (some ⟨gb,0+(nw.T k)*1,none⟩)),.inl (slB B (hs2.getD (nw.T k) 0)),.inl (.pointer (some ⟨b10,0,none⟩)),.inl (.int .i64 (nw.F k:Nat)),.inl (.pointer (some ⟨hs2.getD (nw.T k) 0,0+(nw.F k)*4,none⟩)),.inr (eQ.at (offM S gb hs2) (qc (f (nw.T k) (nw.F k)))),.inl vp,.inr (eQ.at (offM S gb hs2) (qc (f (nw.T k) (nw.F k)-nw.g k)))]
   [[],[],[(96,1)],[(95,0),(97,2)],[(98,3)],[],[(100,5)],[],[],[(103,8)],[(102,7),(104,9)],[(105,10)],[],[(107,12)],[(106,11),(108,13)],[(109,14)],[],[(110,15),(111,16)]] (by kernel_rfl) ⟨
   fun w e=>(v_mv O).ob,fun w e=>(v_fa H1 O).ob,fun w e=>(v_ld A3 O (k10.ext e) O).ob,fun w e=>(F4 (i:=nw.T k) un_M ty_V O O hTB).ob,fun w e=>(v_ld ty_V O (hM.out.ext e) (hM.cell (hhg _ hTB))).ob,fun w e=>(v_fa H2 O).ob,fun w e=>(v_ld A3 O (k10.ext e) O).ob,
   fun w e=>(v_mv O).ob,fun w e=>(v_fa H1 O).ob,fun w e=>(v_ld A3 O (k10.ext e) O).ob,fun w e=>(F4 (i:=nw.T k) un_M ty_V O O hTB).ob,fun w e=>(v_ld ty_V O (hM.out.ext e) (hM.cell (hhg _ hTB))).ob,fun w e=>(v_fa H2 O).ob,fun w e=>(v_ld A3 O (k10.ext e) O).ob,
   fun w e=>(F4 (i:=nw.F k) un_V ty_Q O O hFB).ob,
   fun w e=>(AD2 (E:=eQ) (i:=nw.F k) (by decide) ty_Q O (Nat.zero_add _) (hrow3.2.ext e) (by rw [G3 hFB,AV4 (.inr hne),AV4 (.inl (Ne.symm hne)),AV4 (.inl (Ne.symm hne))])).mono fun v' w' h=>⟨h.1,fun w'' e'=>eQ.mono (fun _ _ h=>h.1) (h.2 w'' e')⟩,
   fun w e=>((B8 ty_Q O (k11.ext e) (eQ.csz hp5)).eq hvp.symm).ob,
   fun w e x hx=>by
    have:=AQ1 (L:=30) (upT (by have:=e.size;omega)) hx (ER.ext eQ hp5 e) (hfs _ _).toOk (hgs.mono (by decide)).toOk (by decide) (by decide)
    rw [B3,B3] at this
    exact (A2 _ AI1 O this).ob (A5 _ _ _),trivial⟩ ?_
  intro X3 g3 _ _ y3 hy3
  refine .ixB (i:=nw.F k) un_V ty_Q O O O hFB (.storeF (E:=eQ) (i:=nw.F k) (by decide) ty_Q O O (hrow3.2.ext g3) O (by rw [A1];exact hFB) (Nat.zero_add _) (eQ.mono (fun k' _ h=>⟨h,fun e=>h.2.2 (e▸F6 (by omega))⟩) hy3) fun Y3 fy3 uy3=>.nil ?_)
  have hM:=(hM.ext g3).set (hhg _ hTB) (by rw [List.length_set,A1]) uy3 fy3
  rw [AS3 hTB] at hM
  have sx3:=g3.size
  have sy3:=uy3.size
  have lw3:=hhm _ hTB
  have lk3:=hhk _ hTB
  have hW5:Below w1.heap.size w2 Y3:=uy3.below (hW5.trans (g3.mono (by omega))) lw3
  have k10:=(k10.ext g3).upd uy3 (by omega)
  have k11:=(k11.ext g3).upd uy3 (by omega)
  have hp5:=(ER.ext eQ hp5 g3).upd uy3 (fun h=>h.2.2 (F6 (by omega)))
  have hfin:tabM B B (upE (upE (upE (upE f (nw.F k) (nw.F k) (f (nw.F k) (nw.F k)+nw.g k)) (nw.F k) (nw.T k) (f (nw.F k) (nw.T k)-nw.g k)) (nw.T k) (nw.T k) (f (nw.T k) (nw.T k)+nw.g k)) (nw.T k) (nw.F k) (f (nw.T k) (nw.F k)-nw.g k))=tabM B B (nw.lmL ((inL n o).take (i+1))):=C9 fun b c _ _=>by
   rw [htk,Nw.lmL_snoc,hf]
   exact nw.four hne f b c
  rw [hfin] at hM
  refine .region (.add O O O (.mv O O (.nil ?_)))
  rw [wI (by omega)]
  exact ⟨rfl,i+1,lkA rfl,⟨hW5,hlt,hM⟩,by show (inL n o).length-(i+1)<(inL n o).length-i;omega⟩
 rintro _ W ⟨hW,hM⟩
 have hMs:FB eV 32 S W gb _:=hM.toFB (fun k hk=>up k (by have:=hge k hk;omega)) (by omega)
 have hWs:=hW.size
 have hgl:=hMs.lt
 refine .sr (.fa E5 O O (.ld A3 O O (hk3 hW) O ?_))
 refine .call _ O Aj5 O (Ag2 (S:=fun k=>S k/\k≠gb) fun k hk=>⟨up k (by omega),by omega⟩) fun vu W1 f1 hu=>.an O O ?_
 rw [hcB] at hu
 have hW1:=hW.trans (f1.mono (by omega))
 have hf1:=f1.size
 generalize hF:(fun i=>fun b c=>if b∈nw.refs.take i then dl b c else nw.lmL (inL n o) b c:Nat->RM)=F
 have hF0:tabM B B (nw.lmL (inL n o))=tabM B B (F 0):=C9 fun b c _ _=>by rw [<-hF];simp
 rw [hF0] at hMs
 refine .seq (.sr (.mv O O (.lenR un_I O O (hrW hW1) (.mv O O (.nil ?_)))))
 rw [show (pInts nw.refs).length=nw.refs.length by simp]
 have hrl:nw.refs.length<=B:=by rw [<-hB];exact nw.cnt_le nw.B
 refine .block (.loop (α:=Nat) (fun i=>[(7,.slice (some ⟨gb,0,none⟩) B B),(13,vu),(118,vr),(119,.int .i64 (nw.refs.length:Nat)),(120,.int .i64 (i:Nat))]) (fun i W=>Below w1.heap.size w2 W/\i<=nw.refs.length/\eM.R (fun k=>S k/\k≠gb) W vu (tabM B B idn)/\FB eV 32 S W gb (tabM B B (F i))) (fun i=>nw.refs.length-i) 0 ?_ ?_ ?_)
 ·exact lkA rfl
 ·exact ⟨hW1,Nat.zero_le _,hu,hMs.ext f1⟩
 rintro i W ⟨hW,hi,hu,hMs⟩
 refine .sr ?_
 rcases Nat.lt_or_ge i nw.refs.length with hlt | hge'
 rotate_left
 ·refine .lssF O O O (by omega) (.nil (.seq (.condF O (.exit (.sr (.mv O O (.an O O (.ret ?_))))))))
  have:i=nw.refs.length:=by omega
  subst this
  refine .plain [_] Tryz.results73 ⟨rfl,trivial⟩ ⟨Below.trans x2 (hW.mono (by omega)),?_⟩
  have hfin:tabM B B (F nw.refs.length)=tabM B B nw.gm:=C9 fun b c hb _=>by
   rw [<-hF]
   dsimp only
   rw [List.take_of_length_le (Nat.le_refl _)]
   unfold Nw.gm
   by_cases hr:nw.root b=b
   ·rw [if_pos hr,if_pos (Nw.mem_refs.2 ⟨by omega,hr⟩)]
   ·rw [if_neg hr,if_neg fun h=>hr (Nw.mem_refs.1 h).2]
    unfold Nw.Lm
    rw [<-hnw]
    exact Nw.lmL_free (p:=oN o) b c _ fun k hk=>ok.g0 hk
  rw [hfin] at hMs
  have:=hMs.toR (hsz:=by decide) (c:=B) (up gb (by omega)) (by rw [A4];exact Nat.le_refl _) (by rw [A4];omega)
  rw [A4] at this
  exact this
 have hgr:(pInts nw.refs)[i]?=some ((nw.refs.getD i 0:Nat):Int):=by rw [List.getElem?_map,A9 (z:=0) hlt];rfl
 have hrB:nw.refs.getD i 0<B:=by rw [<-hB];exact (Nw.mem_refs.1 (F6 hlt)).1
 refine .lssT O O O (by omega) (.nil (.seq (.condT O (.skip (.seq (.block (.sr (.ixN (i:=i) un_I B6 O O (hrW hW) O hgr fun q hq=>.ldE (E:=eInt .i64) B6 O O hq fun e he=>.an O O ?_))))))))
 obtain ⟨rfl,_⟩:=he
 refine .region (.mv O O (.mv O O (.mv O O (.mv O O (.ixN (i:=nw.refs.getD i 0) un_M ty_V O O hu O (C8 hrB) fun q hq=>.ldE (E:=eV) ty_V O O hq fun vw hvw=>.ixB (i:=nw.refs.getD i 0) un_M ty_V O O O hrB ?_)))))
 refine .storeF (E:=eV) (i:=nw.refs.getD i 0) (by decide) ty_V O O hMs O (by rw [A4];exact hrB) (Nat.zero_add _) hvw fun W2 f2 u2=>.nil ?_
 rw [M9 hrB] at f2
 have hstep:tabM B B (fun j k=>if j=nw.refs.getD i 0 then idn (nw.refs.getD i 0) k else F i j k)=tabM B B (F (i+1)):=C9 fun b c _ _=>by
  rw [<-hF]
  dsimp only
  rw [show nw.refs.take (i+1)=nw.refs.take i++[nw.refs.getD i 0] by rw [List.take_add_one,A9 (z:=0) hlt];rfl]
  by_cases e:b=nw.refs.getD i 0
  ·rw [if_pos e,if_pos (by rw [e];simp),e];rfl
  ·rw [if_neg e]
   by_cases h:b∈nw.refs.take i
   ·rw [if_pos h,if_pos (List.mem_append.2 (.inl h))]
   ·rw [if_neg h,if_neg fun h'=>by
     rcases List.mem_append.1 h' with h' | h'
     ·exact h h'
     ·exact e (List.mem_singleton.1 h')]
 rw [hstep] at f2
 refine .region (.add O O O (.mv O O (.nil ?_)))
 rw [wI (by omega)]
 exact ⟨rfl,i+1,lkA rfl,⟨u2.below hW hgb,hlt,ER.upd eM hu u2 (fun h=>h.2 O),f2⟩,by show nw.refs.length-(i+1)<nw.refs.length-i;omega⟩
end Go.Proofs.YtggegpiffjbngaaGreat
namespace Go.Kx
open Go Go.RowKit
theorem FB.new {α:Type} {E:ER α} {t:TypeId} {S:Nat->Prop} {w w1 w2:World} {g b:Nat} {l:List α} (h:FB E t S w g l) (e:Ext w w1) (u:Upd w1 w2 b) (hb:w.heap.size<=b):FB E t S w2 g l:=by
 have h1:=h.mono (S':=fun k=>S k/\k<w.heap.size) fun k hk hS=>⟨hS,hk⟩
 have hg:=h.lt
 have h2:=(h1.ext e).upd u (by omega) fun hS=>by have:=hS.2;omega
 exact h2.mono fun k _ hS=>hS.1
theorem BP9 (n:Nat):tab n (fun _=>0)=List.replicate n q0:=by
 unfold tab
 simp [N6,List.map_const']
end Go.Kx
namespace Go.Proofs.YtggegpiffjbngaaGreat
open Go Go.Kx Go.RowKit
theorem g_on {n:NtV} {o:List Int} {k:Nat} (hko:k∉oN o):(nwOf n o).g k=((n.ls.getD k ln0).x:Rat)⁻¹:=by
 show (if k∈oN o then (0:Rat) else ((n.ls.getD k ln0).x:Rat)⁻¹)=_
 rw [if_neg hko]
theorem mem_inL {n:NtV} {o:List Int} {k:Nat}:k∈inL n o<->k<n.ls.length/\k∉oN o:=by
 unfold inL freeTo
 rw [List.mem_filter,List.mem_range]
 simp
theorem fl_tab {n:NtV} {o:List Int} (ok:nwOk n o) (θ:Nat->Rat):tab n.ls.length (fun k=>if k∈inL n o then (nwOf n o).fl θ k else 0)=tab n.ls.length ((nwOf n o).fl θ):=E1 fun k hk=>by
 by_cases h:k∈inL n o
 ·rw [if_pos h]
 ·rw [if_neg h,Nw.fl_out ((ok.g0 hk).2 (Classical.byContradiction fun h'=>h (mem_inL.2 ⟨hk,h'⟩)))]
theorem BP8 {l:List Nat} {M i:Nat} {f:Nat->Rat} (hi:i<l.length):(tab M fun k=>if k∈l.take i then f k else 0).set (l.getD i 0) (qc (f (l.getD i 0)))=tab M fun k=>if k∈l.take (i+1) then f k else 0:=by
 rw [AM1]
 refine E1 fun k _=>?_
 rw [show l.take (i+1)=l.take i++[l.getD i 0] by rw [List.take_add_one,A9 (z:=0) hi];rfl]
 by_cases e:k=l.getD i 0
 ·rw [if_pos e,if_pos (by rw [e];simp),e]
 ·rw [if_neg e]
  by_cases h:k∈l.take i
  ·rw [if_pos h,if_pos (List.mem_append.2 (.inl h))]
  ·rw [if_neg h,if_neg fun h'=>by
    rcases List.mem_append.1 h' with h' | h'
    ·exact h h'
    ·exact e (List.mem_singleton.1 h')]
theorem E_col:Ent Tryz.prog 74:=A0 Tryz.func74 (by kernel_rfl) rfl
theorem col_t {S T0:Nat->Prop} {w:World} {s vl vi x:Value} {n:NtV} {o:List Int} {m:List (List QV)} {L b b2 b6 b9:Nat} (up:Up S w) (upo:Up T0 w) (ok:nwOk n o) (k2:Blk w b2 24 #[x,s]) (hs:eLs.R S w s n.ls) (k6:Blk w b6 25 #[vl]) (hl:eI.R S w vl (pInts (inL n o)))
  (k9:Blk w b9 28 #[vi]) (hi:eM.R S w vi m) (hk:mk_ L m) (hL:1<=L) (hL2:L<=1000000000) :
  CR Tryz.prog 74 #[.int .i64 (b:Nat),.pointer (some ⟨b2,0,none⟩),.pointer (some ⟨b6,0,none⟩),.pointer (some ⟨b9,0,none⟩)] w (eV.at T0 (tab n.ls.length ((nwOf n o).fl fun c=>rm m c b))):=by
 have hM10:n.ls.length<=10:=ok.m
 have hll:=AT5 n o
 generalize hθ:(fun c=>rm m c b)=θ
 refine enter Tryz.func74 O Tryz.ntmps74 O ?_
 refine .sr (.an O O (.sr (.fa G7 O O (.ld K6 O O k2 O (.lenR K4 O O hs ?_)))))
 refine .make_ _ _ un_V H4 O (by decide) O O O (Nat.le_refl _) (by omega) (by omega) fun w1 h n1=>.an O O ?_
 have f1:FB eQ 54 T0 w1 h (List.replicate n.ls.length q0):=FB.made n1 zq_R
 obtain ⟨e1,_,hh,hs1⟩:=n1
 rw [<-BP9] at f1
 have hlW:∀ {W:World},Ext w W->eI.R S W vl (pInts (inL n o)):=fun e=>ER.ext eI hl e
 refine .seq (.sr (.ld ty_I O O (k6.ext e1) O (.lenR un_I O O (hlW e1) (.mv O O (.nil ?_)))))
 rw [show (pInts (inL n o)).length=(inL n o).length by simp]
 refine .block (.loop (α:=Nat) (fun i=>[(0,.int .i64 (b:Nat)),(1,.pointer (some ⟨b2,0,none⟩)),(2,.pointer (some ⟨b6,0,none⟩)),(3,.pointer (some ⟨b9,0,none⟩)),(6,slB n.ls.length h),(15,vl),(16,.int .i64 ((inL n o).length:Nat)),(17,.int .i64 (i:Nat))]) (fun i W=>Ext w W/\i<=(inL n o).length/\FB eQ 54 T0 W h (tab n.ls.length fun k=>if k∈(inL n o).take i then (nwOf n o).fl θ k else 0)) (fun i=>(inL n o).length-i) 0 ?_ ?_ ?_)
 ·exact lkA rfl
 ·exact ⟨e1,Nat.zero_le _,by simpa using f1⟩
 rintro i W ⟨hW,hi',fb⟩
 have hWs:=hW.size
 have hhl:=fb.lt
 refine .sr ?_
 rcases Nat.lt_or_ge i (inL n o).length with hlt | hge
 rotate_left
 ·refine .lssF O O O (by omega) (.nil (.seq (.condF O (.exit (.sr (.mv O O (.an O O (.ret ?_))))))))
  have:i=(inL n o).length:=by omega
  subst this
  rw [List.take_of_length_le (Nat.le_refl _),fl_tab ok] at fb
  refine .plain [_] Tryz.results74 ⟨rfl,trivial⟩ ⟨hW,?_⟩
  have:=fb.toR (hsz:=by decide) (c:=n.ls.length) (upo h (by omega)) (by rw [A1];exact Nat.le_refl _) (by rw [A1];omega)
  rw [A1] at this
  exact this
 obtain ⟨hgk,hkM,hko⟩:=Ad2 hlt
 refine .lssT O O O (by omega) (.nil (.seq (.condT O (.skip (.seq (.block (.sr (.ixN (i:=i) un_I B6 O O (hlW hW) O hgk fun q hq=>.ldE (E:=eInt .i64) B6 O O hq fun e he=>.an O O ?_))))))))
 obtain ⟨rfl,_⟩:=he
 have hset:=BP8 (M:=n.ls.length) (f:=(nwOf n o).fl θ) hlt
 have hgl:n.ls[(inL n o).getD i 0]?=some (n.ls.getD ((inL n o).getD i 0) ln0):=A9 hkM
 have hFI:=ok.fI _ hkM
 have hTI:=ok.tI _ hkM
 have hx:=ok.x _ hkM
 have hgv:=g_on (n:=n) hko
 generalize hkk:(inL n o).getD i 0=k at hset hgl hFI hTI hx hgv hkM
 generalize hln:n.ls.getD k ln0=ln at hgl hFI hTI hx hgv
 refine .sr (.fa G7 O O (.ld K6 O O (k2.ext hW) O (.mv O O (.ixN (i:=k) K4 M8 O O (hs.ext hW) O hgl fun q hq=>.ldE (E:=eL) M8 O O hq fun vl' hvl=>.alloc O AL6 fun W1 c9 n1'=>?_))))
 obtain ⟨g1,k9',hc9,hs1'⟩:=n1'
 refine .storeA (E:=eL) (S:=fun k=>k≠c9) (z:=ln) M8 O O k9' O O hvl (fun h=>h O) fun W2 k9' u2 hl2=>.nil ?_
 obtain ⟨rfl,_⟩:=hl2
 rw [hFI,hTI] at k9'
 replace k9':Blk W2 c9 58 #[.int .i64 ((nwOf n o).F k:Nat),.int .i64 ((nwOf n o).T k:Nat),.int .i64 ln.x,.int .i64 ln.c]:=k9'
 have x2:Ext W W2:=u2.below g1 (by omega)
 have hs2:=u2.size
 have fb:=fb.new g1 u2 (by omega)
 have hW2:=hW.trans x2
 have upO:∀ {W':World},W2.heap.size<=W'.heap.size->Up (fun k=>T0 k/\k≠h) W':=fun hs k' hk'=>⟨upo k' (by omega),by omega⟩
 have upT:∀ {W':World},W2.heap.size<=W'.heap.size->Up (fun k=>S k/\k≠h) W':=fun hs k' hk'=>⟨up k' (by omega),by omega⟩
 have hmi:∀ {W':World},Ext W2 W'->eM.R (fun k=>S k/\k≠h) W' vi m:=fun e=>ER.ext eM (eM.mono (fun k' _ hk'=>⟨hk'.1,by have:=hk'.2;omega⟩) (ER.ext eM (ER.lt eM hi) hW2)) e
 have hat:∀ c:Nat,rmI m c b=θ c:=fun c=>by rw [AM3,<-hθ]
 have hrz:∀ c,Rsz (θ c) L:=fun c=>by rw [<-hθ];exact hk.rsz hL c b
 refine .seq ?_
 refine .par follows 12 [.inl vi,.inl (.pointer (some ⟨c9,0,none⟩)),.inl (.int .i64 ((nwOf n o).F k:Nat)),.inl (.int .i64 (b:Nat)),.inr (eQ.at (fun k=>S k/\k≠h) (qc (θ ((nwOf n o).F k)))),.inl vi,.inl (.pointer (some ⟨c9,1,none⟩)),.inl (.int .i64 ((nwOf n o).T k:Nat)),.inl (.int .i64 (b:Nat)),.inr (eQ.at (fun k=>S k/\k≠h) (qc (θ ((nwOf n o).T k)))),.inr (eQ.at (fun k=>S k/\k≠h) (qc (θ ((nwOf n o).F k)-θ ((nwOf n o).T k)))),.inr (NewP W2.heap.size 54 zq.cells)]
  [[],[],[(27,1)],[],[(26,0),(28,2),(29,3)],[],[],[(32,6)],[],[(31,5),(33,7),(34,8)],[(30,4),(35,9)],[]] (by kernel_rfl) ⟨
  fun w e=>(v_ld ty_M O ((k9.ext hW2).ext e) O).ob,fun w e=>(v_fa H2 O).ob,fun w e=>(v_ld A3 O (k9'.ext e) O).ob,fun w e=>(v_mv O).ob,
  fun w e=>by
   have:=AK4 (i:=((nwOf n o).F k:Nat)) (k:=(b:Nat)) (upT e.size) (hmi e) hk hL (by omega)
   rw [hat] at this
   exact (A2 _ AL5 O this).ob (A5 _ _ _),
  fun w e=>(v_ld ty_M O ((k9.ext hW2).ext e) O).ob,fun w e=>(v_fa H1 O).ob,fun w e=>(v_ld A3 O (k9'.ext e) O).ob,fun w e=>(v_mv O).ob,
  fun w e=>by
   have:=AK4 (i:=((nwOf n o).T k:Nat)) (k:=(b:Nat)) (upT e.size) (hmi e) hk hL (by omega)
   rw [hat] at this
   exact (A2 _ AL5 O this).ob (A5 _ _ _),
  fun w e x hx y hy=>by
   have:=AQ1 (L:=L) (upT e.size) hx hy (hrz _).toOk (hrz _).toOk hL (by omega)
   rw [B3,B3] at this
   exact (A2 _ AI1 O this).ob (A5 _ _ _),
  fun w e=>AE8 C2 e.size,trivial⟩ ?_
 rintro W3 g3 _ _ _ _ y10 hy10 _ ⟨c10,rfl,hc10,k10⟩
 have hy10':=BU5 hy10 k10 Am1
 refine .storeA (E:=eQ) ty_Q O O k10 O O hy10' (fun h=>h.2 O) fun W4 k10 u4 hy=>.nil ?_
 have hs3:=g3.size
 have hs4:=u4.size
 have x4:Ext W2 W4:=u4.below g3 hc10
 have hy:eQ.R (fun k=>S k/\k≠h) W4 y10 _:=eQ.mono (fun _ _ h=>h.1) hy
 have hyv:=shpA (E:=eQ) O hy
 have fb:=fb.new g3 u4 hc10
 have hd:Rsz (θ ((nwOf n o).F k)-θ ((nwOf n o).T k)) (L+L+1):=by
  rw [Rat.sub_eq_add_neg]
  exact (hrz _).add (hrz _).neg
 have hx0:((ln.x:Int):Rat)≠0:=fun e=>by
  have:ln.x=0:=by exact_mod_cast e
  omega
 have hflv:(θ ((nwOf n o).F k)-θ ((nwOf n o).T k)) / ((ln.x:Int):Rat)=(nwOf n o).fl θ k:=by
  unfold Nw.fl
  rw [hgv,Rat.div_def,Rat.mul_comm]
 have hr1:Rsz ((ln.x:Int):Rat) (L+L+1):=Rsz.int _ (Nat.lt_of_lt_of_le (by omega:ln.x.natAbs<4294967296 ^ 1) (Nat.pow_le_pow_right (by decide) (by omega))) (by omega)
 refine .parL follows 10 [9] [.inl (slB n.ls.length h),.inl (.int .i64 (k:Nat)),.inl y10,.inl (.pointer (some ⟨c9,2,none⟩)),.inl (.int .i64 ln.x),.inr (eQ.at (fun k=>S k/\k≠h) (qc ((ln.x:Int):Rat))),.inr (Two (eQ.at (fun k=>T0 k/\k≠h) (qc ((nwOf n o).fl θ k))) (Is (.int .i64 0))),.inr (Two (eQ.at (fun k=>T0 k/\k≠h) (qc ((nwOf n o).fl θ k))) (Is (.int .i64 0))),.inr (eQ.at (fun k=>T0 k/\k≠h) (qc ((nwOf n o).fl θ k))),.inl (.int .i64 0)]
  [[],[],[],[],[(41,3)],[(42,4)],[(40,2),(43,5)],[(44,6)],[(37,7)],[(37,7)]] (by kernel_rfl) ⟨
  fun w e=>(v_mv O).ob,fun w e=>(v_mv O).ob,fun w e=>((B8 ty_Q O (k10.ext e) (eQ.csz hy)).eq hyv.symm).ob,fun w e=>(v_fa AH1 O).ob,fun w e=>(v_ld S8 O ((k9'.ext x4).ext e) O).ob,
  fun w e=>(A2 _ O4 O (N9 (upT (by have:=e.size;omega)) (by omega) (by omega))).ob (A5 _ _ _),
  fun w e x hx=>by
   have:=Ah0 (L:=L+L+1) (upT (by have:=e.size;omega)) (upO (by have:=e.size;omega)) (ER.ext eQ hy e) hx hd.toOk hr1.toOk (by omega) (by omega) (by rw [B3];exact hx0)
   rw [B3,B3,hflv] at this
   exact (A2 _ Aj6 O this).ob (AA6 (A5 _ _ _) (AN7 _)),
  fun w e x hx=>L0 (v_mv O) hx (AA6 (A5 _ _ _) (AN7 _)),
  fun w e x hx=>by
   obtain ⟨a,b,rfl,ha,hb⟩:=hx
   exact L0 (v_ex O O) ha (A5 _ _ _),
  fun w e x hx=>by
   obtain ⟨a,b,rfl,ha,hb⟩:=hx
   exact ((v_ex O O).eq hb).ob,trivial⟩ ?_
 intro W5 g5 _ _ _ _ _ _ y8 hy8
 refine .ixB (i:=k) un_V ty_Q O O O hkM (.storeF (E:=eQ) (i:=k) (by decide) ty_Q O O (fb.ext g5) O (by rw [A1];exact hkM) (Nat.zero_add _) hy8 fun W6 f6 u6=>.nil ?_)
 rw [hset] at f6
 refine .region (.add O O O (.mv O O (.nil ?_)))
 rw [wI (by omega)]
 exact ⟨rfl,i+1,lkA rfl,⟨u6.below ((hW2.trans x4).trans g5) (by omega),hlt,f6⟩,by show (inL n o).length-(i+1)<(inL n o).length-i;omega⟩
end Go.Proofs.YtggegpiffjbngaaGreat
namespace Go.Kx
open Go Go.RowKit
section
variable {P:Program} {σ:Env} {w:World} {ty:TypeId} {pos:String} {af:Array Edge}
end
theorem BH0 {α:Type} {E:ER α} {hsz:0<E.sz} {S:Nat->Prop} {w:World} {v:Value} {l:List α} {i:Nat} {q:α} (h:(RL E hsz).R S w v l) (hq:l[i]?=some q):∃ ad c e,v=.slice (some ad) l.length c/\∀ W',Below w.heap.size w W'->PtrX W' (ad.add (i*E.sz)) e/\E.R (fun k=>S k/\k<w.heap.size) W' e q:=by
 obtain ⟨es,hE⟩:=RL.toEs h
 have hil:=(List.getElem?_eq_some_iff.1 hq).1
 obtain ⟨e,he⟩:∃ e,es[i]?=some e:=⟨_,List.getElem?_eq_getElem (by rw [hE.1.1];exact hil)⟩
 obtain ⟨ad,c,hv,hp⟩:=hE.at_ he
 have hr:=hE.1.2 i e q he hq
 refine ⟨ad,c,e,hv,fun W' hB=>⟨fun j u hu=>?_,E.keep (fun k c t f hk h=>(hB.block k hk.2).trans h) (ER.lt E hr)⟩⟩
 have h1:=hp j u hu
 have hl:=AU4 h1
 rw [AN2 (hB.block _ hl)]
 exact h1
theorem set_mid {α:Type} (l r:List α) (v x:α):(l++v::r).set l.length x=l++x::r:=by
 rw [List.set_append_right _ _ (Nat.le_refl _),Nat.sub_self,List.set_cons_zero]
theorem get_mid {α:Type} (l r:List α) (v:α):(l++v::r)[l.length]?=some v:=by
 rw [List.getElem?_append_right (Nat.le_refl _),Nat.sub_self];rfl
end Go.Kx
namespace Go.Proofs.YtggegpiffjbngaaGreat
open Go Go.Kx Go.RowKit
theorem Az8:Ent Tryz.prog 78:=A0 Tryz.func78 (by kernel_rfl) rfl
theorem Au6 {S:Nat->Prop} {w:World} {vc:Value} {B M:Nat} {g:RM} (up:Up S w) (hc:eM.R S w vc (tabM B M g)) (hB:B<=1000) (hM:M<=1000) :
  CR Tryz.prog 78 #[vc,.int .i64 (M:Nat)] w (eM.at S (tabM M B fun i c=>g c i)):=by
 have hcW:∀ {W:World},Below w.heap.size w W->eM.R (fun k=>S k/\k<w.heap.size) W vc (tabM B M g):=fun h=>eM.keep (fun k c t f hk hh=>(h.block k hk.2).trans hh) (ER.lt eM hc)
 refine enter Tryz.func78 O Tryz.ntmps78 O ?_
 refine .sr (.an O O (.sr (.mv O O ?_)))
 refine .make_ M M un_M AG9 O (by decide) O O O (Nat.le_refl _) (by omega) (by omega) fun w1 gb n1=>.an O O ?_
 obtain ⟨e1,k1,hgb,hs1⟩:=n1
 generalize hF:(fun i=>tab B fun c=>g c i)=F
 refine .seq (.sr (.mv O O (.len un_M O O (.mv O O (.nil ?_)))))
 refine .block (.loop (α:=List Value) (fun rs=>[(0,vc),(5,.slice (some ⟨gb,0,none⟩) M M),(12,.int .i64 (M:Nat)),(13,.int .i64 (rs.length:Nat))]) (fun rs W=>Below w.heap.size w W/\rs.length<=M/\Blk W gb 32 (cellsOf (rs++List.replicate (M-rs.length) nilV)).toArray/\Els eV (fun k=>S k/\k≠gb) W rs ((List.range rs.length).map F)) (fun rs=>M-rs.length) [] ?_ ?_ ?_)
 ·exact lkA rfl
 ·exact ⟨e1,Nat.zero_le _,k1,Els.nil⟩
 rintro rs W ⟨hW,hi,hO,hels⟩
 have hWs:=hW.size
 have hgl:=hO.lt
 refine .sr ?_
 rcases Nat.lt_or_ge rs.length M with hlt | hge
 rotate_left
 ·refine .lssF O O O (by omega) (.nil (.seq (.condF O (.exit (.sr (.mv O O (.an O O (.ret ?_))))))))
  have hl:rs.length=M:=by omega
  rw [hl,Nat.sub_self,List.replicate_zero,List.append_nil] at hO
  rw [hl] at hels
  refine .plain [_] Tryz.results78 ⟨rfl,trivial⟩ ⟨hW,?_⟩
  have hfb:FB eV 32 S W gb (tabM M B fun i c=>g c i):=⟨rs,hO,by unfold tabM;rw [hF];exact hels⟩
  have:=hfb.toR (hsz:=by decide) (c:=M) (up gb (by omega)) (by rw [A4];exact Nat.le_refl _) (by rw [A4];omega)
  rw [A4] at this
  exact this
 have hrep:rs++List.replicate (M-rs.length) nilV=rs++nilV::List.replicate (M-(rs.length+1)) nilV:=by rw [show M-rs.length=M-(rs.length+1)+1 by omega,List.replicate_succ]
 rw [hrep] at hO
 refine .lssT O O O (by omega) (.nil (.seq (.condT O (.skip (.seq (.block (.sr (.mv O O (.an O O (.sr (.mv O O (.lenR un_M O O (hcW hW) (.mv O O (.nil ?_))))))))))))))
 rw [A4]
 refine .block (.loop (α:=Nat×Value) (fun y=>[(0,vc),(5,.slice (some ⟨gb,0,none⟩) M M),(12,.int .i64 (M:Nat)),(13,.int .i64 (rs.length:Nat)),(6,.int .i64 (rs.length:Nat)),(16,vc),(17,.int .i64 (B:Nat)),(18,.int .i64 (y.1:Nat))])
  (fun y W'=>Below w.heap.size w W'/\W.heap.size<=W'.heap.size/\y.1<=B/\Blk W' gb 32 (cellsOf (rs++y.2::List.replicate (M-(rs.length+1)) nilV)).toArray/\Kp (fun k=>k<W.heap.size/\k≠gb) W W'/\OwnL eQ 54 W.heap.size (fun k=>S k/\k≠gb) W' y.2 (tab y.1 fun c=>g c rs.length)) (fun y=>B-y.1) (0,nilV) ?_ ?_ ?_)
 ·exact lkA rfl
 ·exact ⟨hW,Nat.le_refl _,Nat.zero_le _,hO,fun _ _ _ _ _ h=>h,OwnL.nil⟩
 rintro ⟨j,v⟩ W' ⟨hW',hsz,hj,hO,hK,hown⟩
 replace hW':Below w.heap.size w W':=hW'
 replace hj:j<=B:=hj
 replace hO:Blk W' gb 32 (cellsOf (rs++v::List.replicate (M-(rs.length+1)) nilV)).toArray:=hO
 replace hown:OwnL eQ 54 W.heap.size (fun k=>S k/\k≠gb) W' v (tab j fun c=>g c rs.length):=hown
 refine .sr ?_
 rcases Nat.lt_or_ge j B with hjl | hge
 rotate_left
 ·refine .lssF O O O (by omega) (.nil (.seq (.condF O (.exit (.region (.add O O O (.mv O O (.nil ?_))))))))
  rw [wI (by omega)]
  have:j=B:=by omega
  subst this
  refine ⟨rfl,rs++[v],A7 O (A7 O (A7 O (A7 (by rw [List.length_append];rfl) AT4))),⟨hW',by rw [List.length_append];exact hlt,?_,?_⟩,by rw [List.length_append];show M-(rs.length+1)<M-rs.length;omega⟩
  ·rw [List.length_append,List.append_assoc]
   exact hO
  ·rw [List.length_append]
   show Els eV _ W' (rs++[v]) ((List.range (rs.length+1)).map F)
   rw [List.range_succ,List.map_append]
   have h1:Els eV (fun k=>S k/\k≠gb) W' rs ((List.range rs.length).map F):=⟨hels.1,fun i e x he hx=>by
    have h2:=ER.lt eV (hels.2 i e x he hx)
    have h3:=eV.keep (fun k c t f hk hc=>hK k c t f ⟨hk.2,hk.1.2⟩ hc) h2
    exact eV.mono (fun k _ h=>h.1) h3⟩
   refine h1.snoc ?_
   rw [<-hF]
   exact hown.toR (fun k hk=>⟨up k (by omega),by omega⟩) (fun _ h=>h)
 refine .lssT O O O (by omega) (.nil (.seq (.condT O (.skip (.seq (.block (.sr ?_)))))))
 obtain ⟨adc,cc,ec,hvc,hrc⟩:=BH0 (E:=eV) (i:=j) hc (C8 hjl)
 obtain ⟨hpc,hec⟩:=hrc w (Below.refl _ _)
 obtain ⟨ade,ce,ee,hve,hre⟩:=BH0 (E:=eQ) (i:=rs.length) hec (G3 hlt)
 obtain ⟨esC,hEC⟩:=RL.toEs (hcW hW')
 rw [A1] at hve
 have hgc:∃ p,PtrX W' p ec:=⟨_,(hrc W' hW').1⟩
 rw [A4] at hvc
 subst hvc
 refine .gv O O (BG1 (i:=j) (sz:=1) un_M ty_V O O hjl).gv ?_
 rintro _ _ ⟨rfl,rfl⟩
 refine .ldX (E:=eV) ty_V O O (hrc _ hW').1 (hrc _ hW').2 (.an O O ?_)
 subst hve
 have hesz:∀ {v:Value},v.cells.size=1->∀ e∈rs++v::List.replicate (M-(rs.length+1)) nilV,e.cells.size=1:=fun hv e he=>by
  rcases List.mem_append.1 he with h | h
  ·exact hels.sz e h
  ·rcases List.mem_cons.1 h with h | h
   ·rw [h];exact hv
   ·rw [(List.mem_replicate.1 h).2];rfl
 obtain ⟨av,cv,hvv⟩:=hown.slice
 have hv1:v.cells.size=1:=by rw [hvv];rfl
 have hcell:(cellsOf (rs++v::List.replicate (M-(rs.length+1)) nilV)).toArray[0+rs.length*1]?=some v:=by
  have:=C5 _ rs.length 0 v (hesz hv1) (get_mid _ _ _) (by decide)
  rw [List.getElem?_toArray,show 0+rs.length*1=rs.length*1+0 by omega,this,hvv];rfl
 have hee:∀ W',Below w.heap.size w W'->PtrX W' (ade.add (rs.length*4)) ee/\eQ.R (fun k=>(S k/\k<w.heap.size)/\k<w.heap.size) W' ee (qc (g j rs.length)):=hre
 refine .held follows true (fun W2=>Blk W2 gb 32 (cellsOf (rs++v::List.replicate (M-(rs.length+1)) nilV)).toArray/\Below w.heap.size w W2)
  [some (.slice (some ⟨gb,0,none⟩) M M),some (.int .i64 (rs.length:Nat)),some (.slice (some ⟨gb,0,none⟩) M M),some (.int .i64 (rs.length:Nat)),some (.pointer (some ⟨gb,0+rs.length*1,none⟩)),some v,some (.slice (some ade) M ce),some (.int .i64 (rs.length:Nat)),some (.pointer (some (ade.add (rs.length*4)))),some ee,none,none,none,none] (by kernel_rfl)
  ⟨fun _ _=>v_mv rfl,fun _ _=>v_mv rfl,fun _ _=>v_mv rfl,fun _ _=>v_mv rfl,fun _ _=>F4 (i:=rs.length) un_M ty_V O O hlt,fun _ h=>v_ld ty_V O h.1 hcell,fun _ _=>v_mv rfl,fun _ _=>v_mv rfl,fun _ _=>BG1 (i:=rs.length) un_V ty_Q O O hlt,fun _ h=>AI4 (E:=eQ) ty_Q O (hee _ h.2).1 (hee _ h.2).2,trivial⟩ ?_
 intro W2 e2 _
 have hW2:Below w.heap.size w W2:=hW'.trans (e2.mono hW'.size)
 have hO:=hO.ext e2
 have hown:=hown.ext e2
 obtain ⟨_,hr2⟩:=hee W2 hW2
 have hr2':=hr2
 obtain ⟨s2,t2,rfl,_,_⟩:=hr2'
 refine .gv ⟨hO,hW2⟩ rfl (AT8 _ O T5) ?_
 rintro _ W3 ⟨b3,rfl,n3⟩
 obtain ⟨e3,k3,hb3,hs3⟩:=n3
 have hW3:Below w.heap.size w W3:=hW2.trans (e3.mono hW2.size)
 have hO:=hO.ext e3
 have hown:=hown.ext e3
 have hs2:=e2.size
 obtain ⟨es,ho1,_⟩:=id hown
 refine .gv ⟨hO,hW3⟩ rfl (J8 (E:=eQ) (base:=W.heap.size) (by decide) un_V H4 O O O hown k3 (eQ.mono (fun k _ h=>⟨⟨h.1.1,by have:=h.2;omega⟩,fun e=>by have:=(ho1.lt k e).1;have:=h.2;omega⟩) (hr2.ext e3)) (by rw [A1];omega) (by decide) (by omega)) ?_
 rintro v4 W4 ⟨ho4,hg4⟩
 have hO4:=hown.gblk hg4 hO (by decide)
 have hlow4:Below w.heap.size w W4:=by
  have hK4:=hown.below (w0:=W3) hg4 (Below.refl _ _) (by omega)
  exact hW3.trans (hK4.mono (by omega))
 refine .gv ⟨hO4,hlow4⟩ rfl (F4 (i:=rs.length) un_M ty_V O O hlt).gv ?_
 rintro _ _ ⟨rfl,rfl⟩
 obtain ⟨a4,c4,hv4⟩:=ho4.slice
 have hv41:v4.cells.size=1:=by rw [hv4];rfl
 refine .gv ⟨hO4,hlow4⟩ rfl (Ay2 (i:=rs.length) (by decide) ty_V O O hO4 (hesz hv1) hv41 (by rw [hv4];simp [one1,Value.cells]) (by simp) (Nat.zero_add _)) ?_
 rintro _ W5 ⟨hO5,u5⟩
 rw [set_mid] at hO5
 refine .nil (.inl O) ?_
 have hs4:=hg4.size
 have hs5:=u5.size
 refine .region (.add O O O (.mv O O (.nil ?_)))
 rw [wI (by omega)]
 refine ⟨rfl,(j+1,v4),lkA rfl,⟨u5.below hlow4 (by omega),by show W.heap.size<=W5.heap.size;omega,hjl,hO5,?_,?_⟩,by show B-(j+1)<B-j;omega⟩
 ·intro k c t f hk hc
  have h1:=hK k c t f hk hc
  have h2:=(e3.block k (by have:=(Array.getElem?_eq_some_iff.1 h1).1;omega)).trans ((e2.block k (Array.getElem?_eq_some_iff.1 h1).1).trans h1)
  have h3:=(hg4.block k (by have:=(Array.getElem?_eq_some_iff.1 h2).1;omega) (fun e=>by have:=(ho1.lt k e.symm).1;have:=hk.1;omega)).trans h2
  exact (u5.block k hk.2).trans h3
 ·have:=ho4.upd u5 hO4 (by decide) (fun h=>h.2 O)
  have e:tab (j+1) (fun c=>g c rs.length)=tab j (fun c=>g c rs.length)++[qc (g j rs.length)]:=by unfold tab;rw [List.range_succ,List.map_append];rfl
  show OwnL eQ 54 W.heap.size _ W5 v4 (tab (j+1) fun c=>g c rs.length)
  rw [e]
  exact this
end Go.Proofs.YtggegpiffjbngaaGreat
namespace Go.Kx
open Go Go.RowKit
def Nw.gA (n:Nw):List (List QV):=tabM n.B n.B n.gm
def Nw.th (n:Nw) (b c:Nat):Rat:=rm (invM n.gA) c b
def Nw.hf (n:Nw) (k b:Nat):Rat:=n.fl (n.th b) k
end Go.Kx
namespace Go.Proofs.YtggegpiffjbngaaGreat
open Go Go.Kx Go.RowKit
section
variable {n:Nw}
theorem K7:n.gA.length=n.B:=A4 ..
theorem AN0 (hB:1<=n.B):colsOf n.gA=n.B:=by unfold Nw.gA;rw [AW6,if_neg (by omega)]
theorem rm_gA {i k:Nat} (hi:i<n.B) (hk:k<n.B):rm n.gA i k=n.gm i k:=by unfold Nw.gA;rw [AS9,if_pos ⟨hi,hk⟩]
theorem Ar4 (ok:n.Ok) (hB:1<=n.B):invertible n.gA:=by
 have hc:=AN0 hB
 rw [BT2 (by rw [hc,K7]),K7]
 have h1:=BM2 n.gA
 rw [hc] at h1
 rcases Nat.eq_zero_or_pos (nullM n.gA).length with h0 | hp
 ·omega
 exfalso
 rw [AZ2] at hp
 obtain ⟨hk,hkp⟩:=BM5 hp
 rw [hc] at hk
 have hz:=Nw.ker0 (θ:=nv (redF n.gA) (redP n.gA) ((freeC n.gA).getD 0 0)) ok (fun b hb=>by
  have h2:=BL7 (m:=n.gA) (k:=(freeC n.gA).getD 0 0) (by rw [hc];exact hk) b
  rw [hc] at h2
  have h3:=Nw.gm_sum ok (nv (redF n.gA) (redP n.gA) ((freeC n.gA).getD 0 0)) hb
  have h4:sumN n.B (fun c=>rm n.gA b c*nv (redF n.gA) (redP n.gA) ((freeC n.gA).getD 0 0) c)=sumN n.B (fun c=>n.gm b c*nv (redF n.gA) (redP n.gA) ((freeC n.gA).getD 0 0) c):=A6 fun c hc'=>by rw [rm_gA hb hc']
  rw [<-h4,h2] at h3
  split
  ·rw [if_pos (by assumption)] at h3;exact h3.symm
  ·rw [if_neg (by assumption)] at h3;exact h3.symm) _ hk
 rw [nv_self (not_piv hkp)] at hz
 exact absurd hz (by decide)
theorem th_eq (ok:n.Ok) (hB:1<=n.B) {b i:Nat} (hb:b<n.B) (hi:i<n.B):(if n.root i=i then n.th b i else n.lap (n.th b) i)=dl i b:=by
 have h:=Ao4 (Ar4 ok hB) (i:=i) (k:=b) (by rw [K7];exact hi) (by rw [K7];exact hb)
 rw [K7] at h
 rw [<-Nw.gm_sum ok (n.th b) hi]
 have e:sumN n.B (fun c=>n.gm i c*n.th b c)=sumN n.B (fun j=>rm n.gA i j*rm (invM n.gA) j b):=A6 fun c hc=>by rw [rm_gA hi hc];rfl
 rw [e,h];rfl
end
theorem BJ1 {n:NtV} {o:List Int} (h:nwOk n o):mk_ 21 (nwOf n o).gA:=Ad0 fun b c hb hc=>by
 unfold Nw.gm
 split
 ·unfold dl
  split
  ·exact rsz1 (by decide)
  ·exact Rsz.zero (by decide)
 ·unfold Nw.Lm
  rw [<-Nw.lmL_free (p:=oN o) b c _ fun k hk=>h.g0 hk]
  refine ((nwOf n o).lmL_rsz (Nat.le_refl _) h.gsz b c _).mono ?_
  have:=AW4 (oN o) (nwOf n o).M
  have:=h.m
  omega
theorem bd216:bd 21 6=87381:=by decide
theorem BP7 {n:NtV} {o:List Int} (h:nwOk n o) (b c:Nat):Rsz ((nwOf n o).th b c) 87381:=by
 have:=BI4 (n:=6) (BJ1 h) (by decide) (by rw [K7];exact h.b6)
 rw [bd216] at this
 exact this.rsz (by decide) c b
theorem BU0 {n:NtV} {o:List Int} (h:nwOk n o) {θ:Nat->Rat} {L:Nat} (hθ:∀ c,Rsz (θ c) L) (k:Nat):Rsz ((nwOf n o).fl θ k) (2*L+2):=by
 unfold Nw.fl
 have h1:=(hθ ((nwOf n o).F k)).add (hθ ((nwOf n o).T k)).neg
 rw [<-Rat.sub_eq_add_neg] at h1
 exact ((h.gsz k).mul h1).mono (by omega)
theorem Ag3 {n:NtV} {o:List Int} (h:nwOk n o) (k b:Nat):Rsz ((nwOf n o).hf k b) 174764:=BU0 h (BP7 h b) k
end Go.Proofs.YtggegpiffjbngaaGreat
