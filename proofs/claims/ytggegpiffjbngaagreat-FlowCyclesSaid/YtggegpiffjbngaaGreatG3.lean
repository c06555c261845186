/-
  What the claim leans on.
-/
import Derived.Test.YtggegpiffjbngaaGreatG2
set_option linter.unusedVariables false
namespace Go.Proofs.YtggegpiffjbngaaGreat
open Go Go.Kx Go.RowKit
theorem sg_add (b:Bool) (m n:Nat):sg b (m+n)=sg b m+sg b n:=by cases b<;>simp [sg]<;>omega
theorem BE3 (b:Bool) (m n:Nat) (h:n<=m):sg b (m-n)=sg b m+sg (!b) n:=by cases b<;>simp [sg]<;>omega
theorem Ad1 (b:Bool) (n:Nat):(sg b n).natAbs=n:=by cases b<;>simp [sg]
theorem AO5 {m n:Nat}:cmpN m n<0<->m<n:=by unfold cmpN;split<;>(try split)<;>omega
theorem Y1:Ent Tryz.prog 250:=A0 Tryz.func250 (by kernel_rfl) rfl
theorem V6 {S:Nat->Prop} {w:World} {va vb:Value} {m n:Nat} {p q:Bool} (up:Up S w) (ha:eW.R S w va (wds m)) (hb:eW.R S w vb (wds n)) (hla:(wds m).length<=1099511627776) (hlb:(wds n).length<=1099511627776) :
  CR Tryz.prog 250 #[.bool p,va,.bool q,vb] w (eZ.at S (zc (sg p m+sg q n))):=by
 refine enter Tryz.func250 O Tryz.ntmps250 O ?_
 refine .sr (.alloc O B8 fun w1 b1 n1=>.nil ?_)
 obtain ⟨e1,k1,hb1,hs1⟩:=n1
 have hS:¬ Sx S w.heap.size w1.heap.size b1:=Sx.no (by omega) (by omega)
 have up1:Up (Sx S w.heap.size w1.heap.size) w1:=Sx.up up (Nat.le_refl _) e1.size
 have ha1:=(ha.par w1.heap.size).ext e1
 have hb1':=(hb.par w1.heap.size).ext e1
 refine .seq (.sr (.mv O O (.mv O O (.eqlB AB8 O O O (.nil ?_)))))
 by_cases hpq:p=q
 ·subst hpq
  refine .condT (by rw [beq_self_eq_true];rfl) (.sr (.mv O O (.mv O O (.mv O O ?_))))
  refine .call _ O AB0 O (Z8 up1 ha1 hb1' hla hlb) fun v2 w2 e2 h2=>?_
  obtain ⟨r,hr,hv,hl⟩:=h2
  refine .call _ O F8 O (F5 (up1.ext e2.size) hr) fun v3 w3 e3 h3=>?_
  refine .storeA ty_Z O O ((k1.ext e2).ext e3) O O h3 hS fun w4 k4 u4 h4=>.nil (.ret ?_)
  refine .cell Tryz.results250 O ty_Z O O k4 h4 ⟨u4.below ((e1.trans e2).trans e3) (by omega),?_⟩
  rw [<-sg_add,show m+n=val r by rw [hv,B4,B4]]
  exact h4.out
 ·have hq:q = !p:=by cases p<;>cases q<;>simp_all
  subst hq
  refine .condF (by cases p<;>rfl) (.skip (.seq (.sr (.mv O O (.mv rfl rfl ?_)))))
  refine .call _ O R8 O (Q5 ha1 hb1') fun v2 w2 e2 h2=>?_
  subst h2
  have ha2:=ha1.ext e2
  have hb2:=hb1'.ext e2
  have up2:=up1.ext e2.size
  by_cases hlt:m<n
  ·refine .lssT O O O (AO5.2 hlt) (.nil (.condT O (.sr (.mv O O (.mv O O (.mv O O ?_))))))
   refine .call _ O P5 O (O8 up2 hb2 ha2 hlb hla (by rw [B4,B4];omega)) fun v3 w3 e3 h3=>?_
   obtain ⟨r,hr,hv,hl⟩:=h3
   refine .call _ O F8 O (F5 (up2.ext e3.size) hr) fun v4 w4 e4 h4=>?_
   refine .storeA ty_Z O O (((k1.ext e2).ext e3).ext e4) O O h4 hS fun w5 k5 u5 h5=>.nil (.ret ?_)
   refine .cell Tryz.results250 O ty_Z O O k5 h5 ⟨u5.below (((e1.trans e2).trans e3).trans e4) (by omega),?_⟩
   rw [show sg p m+sg (!p) n=sg (!p) (val r) by
    rw [hv,B4,B4,BE3 _ _ _ (by omega),Bool.not_not,Int.add_comm]]
   exact h5.out
  ·refine .lssF O O O (fun h=>hlt (AO5.1 h)) (.nil (.condF O (.skip (.sr (.mv O O (.mv O O (.mv O O ?_)))))))
   refine .call _ O P5 O (O8 up2 ha2 hb2 hla hlb (by rw [B4,B4];omega)) fun v3 w3 e3 h3=>?_
   obtain ⟨r,hr,hv,hl⟩:=h3
   refine .call _ O F8 O (F5 (up2.ext e3.size) hr) fun v4 w4 e4 h4=>?_
   refine .storeA ty_Z O O (((k1.ext e2).ext e3).ext e4) O O h4 hS fun w5 k5 u5 h5=>.nil (.ret ?_)
   refine .cell Tryz.results250 O ty_Z O O k5 h5 ⟨u5.below (((e1.trans e2).trans e3).trans e4) (by omega),?_⟩
   rw [show sg p m+sg (!p) n=sg p (val r) by
    rw [hv,B4,B4,BE3 _ _ _ (by omega)]]
   exact h5.out
theorem AG6 {n:Int}:i64ok n=true <-> -9223372036854775808<=n/\n<=9223372036854775807:=by simp [i64ok]
theorem An6:Ent Tryz.prog 220:=A0 Tryz.func220 (by kernel_rfl) rfl
theorem Ai9 {S:Nat->Prop} {w:World} {va vb:Value} {x y:ZV} (up:Up S w) (ha:eZ.R S w va x) (hb:eZ.R S w vb y) (hla:x.w.length<=1099511627776) (hlb:y.w.length<=1099511627776) :
  CR Tryz.prog 220 #[va,vb] w (eZ.at S (zc (zval x+zval y))):=by
 obtain ⟨sa,rfl,hsa⟩:=ha
 obtain ⟨sb,rfl,hsb⟩:=hb
 have hda:dig x.w:=E1 hsa
 have hdb:dig y.w:=E1 hsb
 refine enter Tryz.func220 O Tryz.ntmps220 O ?_
 refine .sr (.box O O fun w1 b1 n1=>.box O O fun w2 b2 n2=>.alloc O B8 fun w3 b3 n3=>.nil ?_)
 obtain ⟨e1,k1,hb1,hs1⟩:=n1
 obtain ⟨e2,k2,hb2,hs2⟩:=n2
 obtain ⟨e3,k3,hb3,hs3⟩:=n3
 have x3:=(e1.trans e2).trans e3
 have k1:=(k1.ext e2).ext e3
 have k2:=k2.ext e3
 have hS:¬ Sx S w.heap.size w3.heap.size b3:=Sx.no (by omega) (by omega)
 have up3:Up (Sx S w.heap.size w3.heap.size) w3:=Sx.up up (Nat.le_refl _) x3.size
 have hsa3:=(hsa.par w3.heap.size).ext x3
 have hsb3:=(hsb.par w3.heap.size).ext x3
 refine .sr (.ldA ty_Z O O k1 O ?_)
 refine .call _ O H4 O (H2 (z:=x) ⟨sa,rfl,hsa3⟩) fun v4 w4 e4 h4=>?_
 subst h4
 refine .mv O O (.ext O O O (.ext O O O (.asg O O (.an O O ?_))))
 refine .sr (.ldA ty_Z O O (k2.ext e4) O ?_)
 refine .call _ O H4 O (H2 (z:=y) ⟨sb,rfl,hsb3.ext e4⟩) fun v5 w5 e5 h5=>?_
 subst h5
 refine .mv O O (.ext O O O (.ext O O O (.asg O O (.an O O ?_))))
 have x35:=e4.trans e5
 have x5:=x3.trans x35
 have up5:=up3.ext x35.size
 refine .mid (α:=Unit) (fun _=>[(2,.pointer (some ⟨b1,0,none⟩)),(3,.pointer (some ⟨b2,0,none⟩)),(4,.pointer (some ⟨b3,0,none⟩))]) (fun _ W=>W=w5) ?_ ?_
 ·refine .sr (.mv O O (.mv O O ?_))
  cases hx:i64ok (zval x) with
  | false =>
   refine .gs O O O O O (.pick O O O (.nil (.condF O (.skip ?_))))
   exact ⟨rfl,(),lkA rfl,rfl⟩
  | true =>
   have hx':=AG6.1 hx
   refine .gr O O O O (.mv O O (.pick O O O (.nil ?_)))
   cases hy:i64ok (zval y) with
   | false =>
    refine .condF O (.skip ?_)
    exact ⟨rfl,(),lkA rfl,rfl⟩
   | true =>
    have hy':=AG6.1 hy
    have ex:i64v (zval x)=zval x:=by rw [i64v,hx];rfl
    have ey:i64v (zval y)=zval y:=by rw [i64v,hy];rfl
    rw [ex,ey]
    refine .condT O (.sr (.mv O O (.mv O O (.add O O O (.an O O ?_)))))
    refine .sr (.mv O O (.mv O O (.xor_ O O O (.mv O O (.mv O O (.xor_ O O O (.and_ O O O (.geq O O O (.nil ?_)))))))))
    refine .cond O (fun hc=>?_) (fun hc=>.skip ⟨rfl,(),lkA rfl,rfl⟩)
    have hsum:=add_ok hx'.1 hx'.2 hy'.1 hy'.2 (of_decide_eq_true hc)
    refine .sr (.mv O O ?_)
    have hr : -9223372036854775808<=IntKind.i64.wrap (zval x+zval y)/\IntKind.i64.wrap (zval x+zval y)<=9223372036854775807:=by rw [IntKind.wrap_i64];omega
    refine .call _ O C8 O (C7 up5 hr.1 hr.2) fun v6 w6 e6 h6=>?_
    refine .storeA ty_Z O O ((k3.ext x35).ext e6) O O h6 hS fun w7 k7 u7 h7=>.nil (.ret ?_)
    refine .cell Tryz.results220 O ty_Z O O k7 h7 ⟨u7.below (x5.trans e6) (by omega),?_⟩
    rw [hsum] at h7
    exact h7.out
 ·rintro _ _ rfl
  have hsa5:=hsa3.ext x35
  have hsb5:=hsb3.ext x35
  have k1:=k1.ext x35
  have k2:=k2.ext x35
  refine .seq ?_
  refine .par follows 11 [.inl _,.inl _,.inl _,.inl _,.inr (eW.at (Sx S w.heap.size w3.heap.size) (wds (val x.w))),.inl _,.inl _,.inl _,.inl _,.inr (eW.at (Sx S w.heap.size w3.heap.size) (wds (val y.w))),.inr (eZ.at (Sx S w.heap.size w3.heap.size) (zc (sg x.neg (val x.w)+sg y.neg (val y.w))))]
   [[],[(37,0)],[],[(39,2)],[(40,3)],[],[(42,5)],[],[(44,7)],[(45,8)],[(38,1),(41,4),(43,6),(46,9)]] (by kernel_rfl) ⟨
   fun w e=>(v_fa G6 O).ob,
   fun w e=>(v_ld B7 O (k1.ext e) O).ob,
   fun w e=>(v_fa E0 O).ob,
   fun w e=>(v_ld ty_W O (k1.ext e) O).ob,
   fun w e=>(A4 _ C0 O (by rw [<-E9 hda];exact B9 (hsa5.ext e))).ob (A8 _ _ _),
   fun w e=>(v_fa G6 O).ob,
   fun w e=>(v_ld B7 O (k2.ext e) O).ob,
   fun w e=>(v_fa E0 O).ob,
   fun w e=>(v_ld ty_W O (k2.ext e) O).ob,
   fun w e=>(A4 _ C0 O (by rw [<-E9 hdb];exact B9 (hsb5.ext e))).ob (A8 _ _ _),
   fun w e x4 hx4 x9 hx9=>(A4 _ Y1 O (V6 (up5.ext e.size) hx4 hx9 (Nat.le_trans (E2 hda) hla) (Nat.le_trans (E2 hdb) hlb))).ob (A8 _ _ _),trivial⟩ ?_
  intro w6 e6 x4 hx4 x9 hx9 x10 hx10
  refine .storeA ty_Z O O ((k3.ext x35).ext e6) O O hx10 hS fun w7 k7 u7 h7=>.nil (.ret ?_)
  refine .cell Tryz.results220 O ty_Z O O k7 h7 ⟨u7.below (x5.trans e6) (by omega),h7.out⟩
theorem An4:Ent Tryz.prog 222:=A0 Tryz.func222 (by kernel_rfl) rfl
theorem Ai7 {S:Nat->Prop} {w:World} {va vb:Value} {x y:ZV} (up:Up S w) (ha:eZ.R S w va x) (hb:eZ.R S w vb y) (hla:x.w.length<=1099511627776) (hlb:y.w.length<=1099511627776) :
  CR Tryz.prog 222 #[va,vb] w (eZ.at S (zc (zval x-zval y))):=by
 obtain ⟨sa,rfl,hsa⟩:=ha
 obtain ⟨sb,rfl,hsb⟩:=hb
 have hda:dig x.w:=E1 hsa
 have hdb:dig y.w:=E1 hsb
 refine enter Tryz.func222 O Tryz.ntmps222 O ?_
 refine .sr (.box O O fun w1 b1 n1=>.box O O fun w2 b2 n2=>.alloc O B8 fun w3 b3 n3=>.nil ?_)
 obtain ⟨e1,k1,hb1,hs1⟩:=n1
 obtain ⟨e2,k2,hb2,hs2⟩:=n2
 obtain ⟨e3,k3,hb3,hs3⟩:=n3
 have x3:=(e1.trans e2).trans e3
 have k1:=(k1.ext e2).ext e3
 have k2:=k2.ext e3
 have hS:¬ Sx S w.heap.size w3.heap.size b3:=Sx.no (by omega) (by omega)
 have up3:Up (Sx S w.heap.size w3.heap.size) w3:=Sx.up up (Nat.le_refl _) x3.size
 have hsa3:=(hsa.par w3.heap.size).ext x3
 have hsb3:=(hsb.par w3.heap.size).ext x3
 refine .sr (.ldA ty_Z O O k1 O ?_)
 refine .call _ O H4 O (H2 (z:=x) ⟨sa,rfl,hsa3⟩) fun v4 w4 e4 h4=>?_
 subst h4
 refine .mv O O (.ext O O O (.ext O O O (.asg O O (.an O O ?_))))
 refine .sr (.ldA ty_Z O O (k2.ext e4) O ?_)
 refine .call _ O H4 O (H2 (z:=y) ⟨sb,rfl,hsb3.ext e4⟩) fun v5 w5 e5 h5=>?_
 subst h5
 refine .mv O O (.ext O O O (.ext O O O (.asg O O (.an O O ?_))))
 have x35:=e4.trans e5
 have x5:=x3.trans x35
 have up5:=up3.ext x35.size
 refine .mid (α:=Unit) (fun _=>[(2,.pointer (some ⟨b1,0,none⟩)),(3,.pointer (some ⟨b2,0,none⟩)),(4,.pointer (some ⟨b3,0,none⟩))]) (fun _ W=>W=w5) ?_ ?_
 ·refine .sr (.mv O O (.mv O O ?_))
  cases hx:i64ok (zval x) with
  | false =>
   refine .gs O O O O O (.pick O O O (.nil (.condF O (.skip ?_))))
   exact ⟨rfl,(),lkA rfl,rfl⟩
  | true =>
   have hx':=AG6.1 hx
   refine .gr O O O O (.mv O O (.pick O O O (.nil ?_)))
   cases hy:i64ok (zval y) with
   | false =>
    refine .condF O (.skip ?_)
    exact ⟨rfl,(),lkA rfl,rfl⟩
   | true =>
    have hy':=AG6.1 hy
    have ex:i64v (zval x)=zval x:=by rw [i64v,hx];rfl
    have ey:i64v (zval y)=zval y:=by rw [i64v,hy];rfl
    rw [ex,ey]
    refine .condT O (.sr (.mv O O (.mv O O (.sub O O O (.an O O ?_)))))
    refine .sr (.mv O O (.mv O O (.xor_ O O O (.mv O O (.mv O O (.xor_ O O O (.and_ O O O (.geq O O O (.nil ?_)))))))))
    refine .cond O (fun hc=>?_) (fun hc=>.skip ⟨rfl,(),lkA rfl,rfl⟩)
    have hsum:=sub_ok hx'.1 hx'.2 hy'.1 hy'.2 (of_decide_eq_true hc)
    refine .sr (.mv O O ?_)
    have hr : -9223372036854775808<=IntKind.i64.wrap (zval x-zval y)/\IntKind.i64.wrap (zval x-zval y)<=9223372036854775807:=by rw [IntKind.wrap_i64];omega
    refine .call _ O C8 O (C7 up5 hr.1 hr.2) fun v6 w6 e6 h6=>?_
    refine .storeA ty_Z O O ((k3.ext x35).ext e6) O O h6 hS fun w7 k7 u7 h7=>.nil (.ret ?_)
    refine .cell Tryz.results222 O ty_Z O O k7 h7 ⟨u7.below (x5.trans e6) (by omega),?_⟩
    rw [hsum] at h7
    exact h7.out
 ·rintro _ _ rfl
  have hsa5:=hsa3.ext x35
  have hsb5:=hsb3.ext x35
  have k1:=k1.ext x35
  have k2:=k2.ext x35
  refine .seq ?_
  refine .par follows 12 [.inl _,.inl _,.inl _,.inl _,.inr (eW.at (Sx S w.heap.size w3.heap.size) (wds (val x.w))),.inl _,.inl _,.inl _,.inl _,.inl _,.inr (eW.at (Sx S w.heap.size w3.heap.size) (wds (val y.w))),.inr (eZ.at (Sx S w.heap.size w3.heap.size) (zc (sg x.neg (val x.w)+sg (!y.neg) (val y.w))))]
   [[],[(37,0)],[],[(39,2)],[(40,3)],[],[(42,5)],[(43,6)],[],[(45,8)],[(46,9)],[(38,1),(41,4),(44,7),(47,10)]] (by kernel_rfl) ⟨
   fun w e=>(v_fa G6 O).ob,
   fun w e=>(v_ld B7 O (k1.ext e) O).ob,
   fun w e=>(v_fa E0 O).ob,
   fun w e=>(v_ld ty_W O (k1.ext e) O).ob,
   fun w e=>(A4 _ C0 O (by rw [<-E9 hda];exact B9 (hsa5.ext e))).ob (A8 _ _ _),
   fun w e=>(v_fa G6 O).ob,
   fun w e=>(v_ld B7 O (k2.ext e) O).ob,
   fun w e=>(Ac7 O).ob,
   fun w e=>(v_fa E0 O).ob,
   fun w e=>(v_ld ty_W O (k2.ext e) O).ob,
   fun w e=>(A4 _ C0 O (by rw [<-E9 hdb];exact B9 (hsb5.ext e))).ob (A8 _ _ _),
   fun w e x4 hx4 x9 hx9=>(A4 _ Y1 O (V6 (up5.ext e.size) hx4 hx9 (Nat.le_trans (E2 hda) hla) (Nat.le_trans (E2 hdb) hlb))).ob (A8 _ _ _),trivial⟩ ?_
  intro w6 e6 x4 hx4 x9 hx9 x10 hx10
  refine .storeA ty_Z O O ((k3.ext x35).ext e6) O O hx10 hS fun w7 k7 u7 h7=>.nil (.ret ?_)
  refine .cell Tryz.results222 O ty_Z O O k7 h7 ⟨u7.below (x5.trans e6) (by omega),?_⟩
  rw [show zval x-zval y=sg x.neg (val x.w)+sg (!y.neg) (val y.w) by unfold zval sg;cases x.neg<;>cases y.neg<;>simp<;>omega]
  exact h7.out
theorem sg_mul (a b:Bool) (m n:Nat):sg (a != b) (m*n)=sg a m*sg b n:=by
 cases a<;>cases b<;>simp [sg,Int.natCast_mul,Int.neg_mul,Int.mul_neg]
theorem F9:Ent Tryz.prog 126:=A0 Tryz.func126 (by kernel_rfl) rfl
theorem F6 {S:Nat->Prop} {w:World} {va vb:Value} {x y:ZV} (up:Up S w) (ha:eZ.R S w va x) (hb:eZ.R S w vb y) (hla:x.w.length<=1099511627776) (hlb:y.w.length<=1099511627776) :
  CR Tryz.prog 126 #[va,vb] w (eZ.at S (zc (zval x*zval y))):=by
 obtain ⟨sa,rfl,hsa⟩:=ha
 obtain ⟨sb,rfl,hsb⟩:=hb
 have hda:dig x.w:=E1 hsa
 have hdb:dig y.w:=E1 hsb
 have hla':=Nat.le_trans (E2 hda) hla
 have hlb':=Nat.le_trans (E2 hdb) hlb
 refine enter Tryz.func126 O Tryz.ntmps126 O ?_
 refine .sr (.box O O fun w1 b1 n1=>.box O O fun w2 b2 n2=>.alloc O B8 fun w3 b3 n3=>.nil ?_)
 obtain ⟨e1,k1,hb1,hs1⟩:=n1
 obtain ⟨e2,k2,hb2,hs2⟩:=n2
 obtain ⟨e3,k3,hb3,hs3⟩:=n3
 have x3:=(e1.trans e2).trans e3
 have k1:=(k1.ext e2).ext e3
 have k2:=k2.ext e3
 have hS:¬ Sx S w.heap.size w3.heap.size b3:=Sx.no (by omega) (by omega)
 have up3:Up (Sx S w.heap.size w3.heap.size) w3:=Sx.up up (Nat.le_refl _) x3.size
 have hsa3:=(hsa.par w3.heap.size).ext x3
 have hsb3:=(hsb.par w3.heap.size).ext x3
 generalize hT:Sx S w.heap.size w3.heap.size=T at *
 have hprod:zval x*zval y=sg (x.neg != y.neg) (val x.w*val y.w):=by rw [sg_mul];rfl
 refine .seq ?_
 refine .par follows 7 [.inl _,.inl _,.inr (eW.at T (wds (val x.w))),.inl _,.inl _,.inr (eW.at T (wds (val y.w))),.inr (eW.at T (wds (val x.w)))] [[],[(7,0)],[(8,1)],[],[(10,3)],[(11,4)],[(9,2)]] (by kernel_rfl) ⟨
  fun w e=>(v_fa E0 O).ob,
  fun w e=>(v_ld ty_W O (k1.ext e) O).ob,
  fun w e=>(A4 _ C0 O (by rw [<-E9 hda];exact B9 (hsa3.ext e))).ob (A8 _ _ _),
  fun w e=>(v_fa E0 O).ob,
  fun w e=>(v_ld ty_W O (k2.ext e) O).ob,
  fun w e=>(A4 _ C0 O (by rw [<-E9 hdb];exact B9 (hsb3.ext e))).ob (A8 _ _ _),
  fun w e x2 hx2=>Aw0 O hx2 (A8 _ _ _),trivial⟩ ?_
 intro w4 e4 u2 hu2 u5 hu5 u6 hu6
 refine .an O O ?_
 have x4:=x3.trans e4
 have up4:=up3.ext e4.size
 have k1:=k1.ext e4
 have k2:=k2.ext e4
 have k3:=k3.ext e4
 have hla1:=AJ2 hu6
 have hlb1:=AJ2 hu5
 refine .mid (α:=Unit) (fun _=>[(2,.pointer (some ⟨b1,0,none⟩)),(3,.pointer (some ⟨b2,0,none⟩)),(4,.pointer (some ⟨b3,0,none⟩)),(5,u6),(6,u5)]) (fun _ W=>W=w4) ?_ ?_
 ·refine .sr (.mv O O (.lenR un_W O O hu6 ?_))
  by_cases h1:(wds (val x.w)).length<=1
  ·refine .leqT O O O (by omega) (.mv O O (.gr O O O O (.mv O O (.gr O O O O (.lenR un_W O O hu5 (.gr O O O O ?_))))))
   by_cases h2:(wds (val y.w)).length<=1
   ·refine .leqT O O O (by omega) (.pick O O O (.nil (.condT O (.seq ?_))))
    have hxl:val x.w<4294967296:=by
     have h3:=AD5 (val x.w)
     have h4:4294967296 ^ (wds (val x.w)).length<=4294967296 ^ 1:=Nat.pow_le_pow_right (by omega) h1
     omega
    have hyl:val y.w<4294967296:=by
     have h3:=AD5 (val y.w)
     have h4:4294967296 ^ (wds (val y.w)).length<=4294967296 ^ 1:=Nat.pow_le_pow_right (by omega) h2
     omega
    have hxy:val x.w*val y.w<=4294967295*4294967295:=Nat.mul_le_mul (by omega) (by omega)
    refine .par follows 11 [.inl _,.inl _,.inl _,.inl _,.inl _,.inl _,.inl (.int .u64 (val x.w:Nat)),.inl _,.inl (.int .u64 (val y.w:Nat)),.inl (.int .u64 ((val x.w*val y.w:Nat):Int)),.inr (eZ.at T (zc (sg (x.neg != y.neg) (val x.w*val y.w))))]
     [[],[(21,0)],[],[(23,2)],[(22,1),(24,3)],[],[(26,5)],[],[(28,7)],[(27,6),(29,8)],[(25,4),(30,9)]] (by kernel_rfl) ⟨
     fun w e=>(v_fa G6 O).ob,
     fun w e=>(v_ld B7 O (k1.ext e) O).ob,
     fun w e=>(v_fa G6 O).ob,
     fun w e=>(v_ld B7 O (k2.ext e) O).ob,
     fun w e=>(Ap9 AB8 O O).ob,
     fun w e=>(v_mv O).ob,
     fun w e=>(A4 _ K1 O (by have:=J5 (hu6.ext e) (by omega);rw [B4] at this;exact this)).obIs,
     fun w e=>(v_mv O).ob,
     fun w e=>(A4 _ K1 O (by have:=J5 (hu5.ext e) (by omega);rw [B4] at this;exact this)).obIs,
     fun w e=>((Au6 O O).eq (by rw [<-Int.natCast_mul,wU (by omega)])).ob,
     fun w e=>(A4 _ I7 O (I6 (up4.ext e.size) (by omega))).ob (A8 _ _ _),trivial⟩ ?_
    intro w5 e5 x10 hx10
    refine .storeA ty_Z O O (k3.ext e5) O O hx10 hS fun w6 k6 u6 h6=>.nil (.ret ?_)
    refine .cell Tryz.results126 O ty_Z O O k6 h6 ⟨u6.below (x4.trans e5) (by omega),?_⟩
    subst hT
    rw [hprod]
    exact h6.out
   ·refine .leqF O O O (by omega) (.pick O O O (.nil (.condF O (.skip ?_))))
    exact ⟨rfl,(),lkA rfl,rfl⟩
  ·refine .leqF O O O (by omega) (.mv O O (.gs O O O O O (.gs O O O O O (.gs O O O O O (.pick O O O (.nil (.condF O (.skip ?_))))))))
   exact ⟨rfl,(),lkA rfl,rfl⟩
 ·rintro _ _ rfl
  refine .seq ?_
  refine .par follows 9 [.inl _,.inl _,.inl _,.inl _,.inl _,.inl _,.inl _,.inr (Wv T (val x.w*val y.w) (1099511627776+1099511627776)),.inr (eZ.at T (zc (sg (x.neg != y.neg) (val x.w*val y.w))))] [[],[(32,0)],[],[(34,2)],[(33,1),(35,3)],[],[],[(37,5),(38,6)],[(36,4),(39,7)]] (by kernel_rfl) ⟨
   fun w e=>(v_fa G6 O).ob,
   fun w e=>(v_ld B7 O (k1.ext e) O).ob,
   fun w e=>(v_fa G6 O).ob,
   fun w e=>(v_ld B7 O (k2.ext e) O).ob,
   fun w e=>(Ap9 AB8 O O).ob,
   fun w e=>(v_mv O).ob,
   fun w e=>(v_mv O).ob,
   fun w e=>(A4 _ AR9 O ((AP7 (up4.ext e.size) (hu6.ext e) (hu5.ext e) hla' hlb').mono fun v w' _ ⟨r,h1,h2,h3⟩=>⟨r,h1,by rw [h2,B4,B4],by omega⟩)).ob (st_wv _ _ _),
   fun w e x7 hx7=>(A4 _ F8 rfl (by obtain ⟨r,h1,h2,h3⟩:=hx7;have:=F5 (neg:=x.neg != y.neg) (up4.ext e.size) h1;rw [h2] at this;exact this)).ob (A8 _ _ _),trivial⟩ ?_
  intro w5 e5 x7 hx7 x8 hx8
  refine .storeA ty_Z O O (k3.ext e5) O O hx8 hS fun w6 k6 u6 h6=>.nil (.ret ?_)
  refine .cell Tryz.results126 O ty_Z O O k6 h6 ⟨u6.below (x4.trans e5) (by omega),?_⟩
  subst hT
  rw [hprod]
  exact h6.out
open Go Go.Kx Go.RowKit
theorem Am7 {S:Nat->Prop} {w:World} {es:List Value} {l:List Nat} (h:Els eU32 S w es l):es=l.map wv:=by
 apply List.ext_getElem?
 intro i
 rw [List.getElem?_map]
 rcases Nat.lt_or_ge i l.length with hi | hi
 ·have hi':i<es.length:=by rw [h.1];exact hi
  have:=h.2 i es[i] l[i] (List.getElem?_eq_getElem hi') (List.getElem?_eq_getElem hi)
  rw [List.getElem?_eq_getElem hi',List.getElem?_eq_getElem hi,Option.map_some]
  exact congrArg some this.1
 ·rw [List.getElem?_eq_none hi,List.getElem?_eq_none (by rw [h.1];exact hi)];rfl
theorem Clone_o {S:Nat->Prop} {w:World} {v:Value} {l:List Nat} (h:eW.R S w v l) (hl:l.length<=1099511627776):CR Tryz.prog 177 #[v] w (fun v' w'=>OwnW 91 w.heap.size w' v' l):=by
 have hdl:dig l:=E1 h
 refine enter Tryz.func177 O Tryz.ntmps177 O ?_
 refine .sr (.an O O ?_)
 obtain ⟨es,he,a,c,rfl,hc,hm,hlen,hcell⟩:=h
 have hes:=Am7 he
 subst hes
 refine .seq (.sr (.mv O O (.eqNil un_W O O O (.nil ?_))))
 cases a with
 | none =>
  refine .condT O (.sr (.an O O (.ret ?_)))
  have:l=[]:=by
   cases l with
   | nil=>rfl
   | cons x l=>obtain ⟨ad,h,_⟩:=hcell (by simp);cases h
  subst this
  exact .plain [_] Tryz.results177 ⟨rfl,trivial⟩ ⟨.refl _,⟨rfl,.inl ⟨rfl,rfl⟩⟩,by simp [dig]⟩
 | some ad =>
  refine .condF O (.skip (.sr ?_))
  refine .bsl _ O O BI6 fun w1 b1 n1=>?_
  obtain ⟨e1,k1,hb1,hs1⟩:=n1
  have hcell1:∀ j u,(cellsOf (l.map wv))[j]?=some u->w1.cell? (ad.add j)=some u:=by
   intro j u hu
   rcases Nat.eq_zero_or_pos l.length with h0 | h0
   ·rw [h0,Nat.zero_mul] at hlen
    have:cellsOf (l.map wv)=[]:=List.length_eq_zero_iff.1 hlen
    rw [this] at hu;simp at hu
   ·obtain ⟨ad',h1,_,h2⟩:=hcell h0
    cases h1
    have:=(h2 j u hu).1
    have hlt:=AW5 this
    exact (AR4 (p:=ad.add j) (e1.block _ hlt)).trans this
  have hown:w1.ownsRow w.heap.size 91 1 (.slice (some ⟨b1,0,none⟩) 0 0) 0 []:=⟨rfl,.inr ⟨b1,0,#[],rfl,by omega,k1,Nat.le_refl _,Nat.zero_le _,rfl,rfl⟩⟩
  rw [E7 wv (fun _=>rfl)] at hcell1 hlen
  have hon:∀ u∈l.map wv,one1 u=true:=by
   intro u hu
   obtain ⟨x,_,rfl⟩:=List.mem_map.1 hu
   rfl
  refine .mv O O ?_
  refine .gv O O (Ad9 (l.map wv) un_W H0 O (by decide) O O hown hlen hcell1 hon (by omega) (by omega) (by omega)) ?_
  rintro v2 w2 ⟨ho,hg⟩
  refine .an O O (.ret ?_)
  have hx:Ext w w2:=Below.grown e1 hg e1.size (fun k hk=>by simp [Value.ownBlock] at hk;omega)
  simp only [List.nil_append,Nat.zero_add] at ho
  exact .plain [_] Tryz.results177 ⟨rfl,trivial⟩ ⟨hx,ho,hdl⟩
theorem prt_Z1 {x y:Value} (hy:one1 y=true):prtOf Tryz.prog 52 #[x,y] 1=some y:=by kernel_rfl
theorem AA9:Ent Tryz.prog 182:=A0 Tryz.func182 (by kernel_rfl) rfl
theorem Z7 {S T0:Nat->Prop} {w:World} {va vb:Value} {m n:Nat} (up:Up S w) (upo:Up T0 w) (ha:eW.R S w va (wds m)) (hb:eW.R S w vb (wds n)) (hla:(wds m).length<=1099511627776) (hn:0<n) :
  CR Tryz.prog 182 #[va,vb] w (Two (Wv T0 (m / n) ((wds m).length+1)) (Wv S (m % n) ((wds m).length+1))):=by
 refine enter Tryz.func182 O Tryz.ntmps182 O ?_
 refine .sr (.asg O O (.an O O ?_))
 refine .seq (.block (.sr (.mv O O (.mv O O ?_))))
 refine .call _ O R8 O (Q5 ha hb) fun v1 w1 e1 h1=>?_
 subst h1
 have ha1:=ha.ext e1
 have hb1:=hb.ext e1
 have up1:=up.ext e1.size
 have upo1:=upo.ext e1.size
 by_cases hlt:m<n
 ·refine .lssT O O O (AO5.2 hlt) (.an O O (.condT O (.sr (.mv O O ?_))))
  refine .call _ O AW6 O (Ai5 up1 ha1 hla) fun v2 w2 e2 h2=>.asg O O (.an O O (.ret ?_))
  refine .plain [_,_] Tryz.results182 ⟨rfl,rfl,trivial⟩ ⟨e1.trans e2,_,_,rfl,⟨[],RL.nil,?_,by simp⟩,⟨_,h2,?_,by omega⟩⟩
  ·rw [Nat.div_eq_of_lt hlt];rfl
  ·rw [B4,Nat.mod_eq_of_lt hlt]
 have hle:(wds n).length<=(wds m).length:=Z9 (by omega)
 have hn1:1<=(wds n).length:=by
  have:=O9 (n:=n) (by omega)
  have:=List.length_pos_iff.2 this
  omega
 refine .lssF O O O (fun h=>hlt (AO5.1 h)) (.an O O (.condF O (.sr (.mv O O (.lenR un_W O O ha1 ?_)))))
 by_cases h2:(wds m).length<=2
 ·refine .leqT O O O (by omega) (.an O O (.condT O (.sr (.mv O O ?_))))
  have hm64:m<18446744073709551616:=by
   have h3:=AD5 m
   have h4:4294967296 ^ (wds m).length<=4294967296 ^ 2:=Nat.pow_le_pow_right (by omega) h2
   omega
  refine .call _ O K1 O (J5 ha1 h2) fun v2 w2 e2 h2'=>?_
  subst h2'
  refine .mv O O (.call _ O K1 O (J5 (hb1.ext e2) (by omega)) fun v3 w3 e3 h3=>?_)
  subst h3
  rw [B4,B4]
  refine .asg O O (.an O O (.seq ?_))
  have x3:=(e1.trans e2).trans e3
  have up3:=up.ext x3.size
  have upo3:=upo.ext x3.size
  have hq:m / n<18446744073709551616:=Nat.lt_of_le_of_lt (Nat.div_le_self _ _) hm64
  have hr:m % n<18446744073709551616:=Nat.lt_of_le_of_lt (Nat.mod_le _ _) hm64
  have hfd:∀ {S:Nat->Prop} {σ:Env} {W:World} {d:Option Tmp} {ty:TypeId} {pos:String} {af:Array Edge} {x:Operand} {u:Value} {k:Nat},ev σ x=some u->eZ.R S W u (zc (sg false k))->Gv Tryz.prog ⟨d,.field 52 x 1,ty,pos,af,none⟩ σ W fun v' w'=>Ext W w'/\Sp.ok (.inr (eW.at S (wds k))) v' w':=by
   intro S σ W d ty pos af x u k hx hz
   obtain ⟨s,rfl,hs⟩:=hz
   have hk:(zc (sg false k)).w=wds k:=by simp [zc,sg]
   rw [hk] at hs
   exact AA3 (v_fd hx (prt_Z1 (eW.shp hs))) hs (A8 _ _ _)
  refine .par follows 11 [.inl _,.inl _,.inl (.int .u64 ((m / n:Nat):Int)),.inr (eZ.at T0 (zc (sg false (m / n)))),.inr (eW.at T0 (wds (m / n))),.inl _,.inl _,.inl (.int .u64 ((m % n:Nat):Int)),.inr (eZ.at S (zc (sg false (m % n)))),.inr (eW.at S (wds (m % n))),.inr (eW.at T0 (wds (m / n)))] [[],[],[(24,0),(25,1)],[(26,2)],[(27,3)],[],[],[(29,5),(30,6)],[(31,7)],[(32,8)],[(28,4)]] (by kernel_rfl) ⟨
   fun w e=>(v_mv O).ob,
   fun w e=>(v_mv O).ob,
   fun w e=>((AX9 O O (by omega)).eq (by rw [M9,O7,Nat.mod_eq_of_lt hq])).ob,
   fun w e=>(A4 _ I7 O (I6 (upo3.ext e.size) hq)).ob (A8 _ _ _),
   fun w e x3 hx3=>hfd O hx3,
   fun w e=>(v_mv O).ob,
   fun w e=>(v_mv O).ob,
   fun w e=>((AX8 O O (by omega)).eq (by rw [M8])).ob,
   fun w e=>(A4 _ I7 O (I6 (up3.ext e.size) hr)).ob (A8 _ _ _),
   fun w e x8 hx8=>hfd O hx8,
   fun w e x4 hx4=>Aw0 O hx4 (A8 _ _ _),trivial⟩ ?_
  intro w4 e4 _ _ _ _ _ _ u9 hu9 u10 hu10
  refine .an O O (.ret ?_)
  exact .plain [_,_] Tryz.results182 ⟨rfl,rfl,trivial⟩ ⟨x3.trans e4,_,_,rfl,⟨_,hu10,B4 _,Nat.le_succ_of_le (Z9 (Nat.div_le_self _ _))⟩,⟨_,hu9,B4 _,Nat.le_succ_of_le (Z9 (Nat.mod_le _ _))⟩⟩
 refine .leqF O O O (by omega) (.an O O (.condF O (.sr (.mv O O (.lenR un_W O O hb1 ?_)))))
 by_cases h3:(wds n).length=1
 ·refine .eqlT O O O (by omega) (.an O O (.condT O (.sr (.mv O O ?_))))
  refine .call _ O AW6 O (Clone_o ha1 hla) fun v2 w2 e2 o2=>.an O O ?_
  obtain ⟨g,cap,rfl,hc1,hc2,hg,ob⟩:=o2.ob (by intro h;rw [h] at h2;simp at h2)
  have hn32:n<4294967296:=by
   have h4:=AD5 n
   rw [h3] at h4;omega
  have hwn:wds n=[n]:=AQ0 hn32 (by omega)
  refine .sr (.mv O O (.mv O O ?_))
  have hb2:=hb1.ext e2
  rw [hwn] at hb2
  refine .ix un_W A3 O O hb2 O (by decide) (y:=n) O fun p hp=>.ldE A3 O O hp fun e he=>?_
  obtain ⟨rfl,_⟩:=he
  refine .cvt C1 C2 O O ?_
  rw [wU (n:=(n:Int)) (by omega)]
  refine .callG _ O AR8 O (AP6 ob hn hn32 hla) ?_
  rintro _ w3 ⟨rfl,u3,V,obV,hlV,hvV⟩
  rw [B4] at hvV ⊢
  refine .an O O (.sr (.mv O O (.mv O O (.cvt C2 C1 O O ?_))))
  have hmn:m % n<4294967296:=Nat.lt_trans (Nat.mod_lt _ hn) hn32
  rw [I0,Nat.mod_eq_of_lt hmn]
  refine .bsl _ O O AC7 fun w4 b4 n4=>.asg O O (.an O O (.ret ?_))
  obtain ⟨e4,k4,hb4,hs4⟩:=n4
  have hx3:Ext w w3:=u3.below (e1.trans e2) (by have:=e1.size;omega)
  have hR:=(obV.ext e4).toR0 (S:=T0) (c:=cap) (upo g (by have:=e1.size;omega)) (by omega) (by omega)
  rw [hlV] at hR
  have hR2:eW.R S w4 (.slice (some ⟨b4,0,none⟩) 1 1) [m % n]:=AZ5 (l:=[m % n]) (t:=91) k4 (up b4 (by have:=hx3.size;omega)) (by simp [dig,hmn]) (Nat.le_refl 1) (by simp)
  exact .plain [_,_] Tryz.results182 ⟨rfl,rfl,trivial⟩ ⟨hx3.trans e4,_,_,rfl,⟨V,hR,hvV,by omega⟩,⟨_,hR2,by simp [val],by simp⟩⟩
 refine .eqlF O O O (by omega) (.an O O (.condF O (.skip (.sr (.mv O O (.mv O O ?_))))))
 have htop:0<(wds n).getD ((wds n).length-2+1) 0:=by
  have hc:=can_wds n
  have h5:(wds n)[(wds n).length-1]?=some ((wds n).getD ((wds n).length-2+1) 0):=by
   rw [show (wds n).length-2+1=(wds n).length-1 by omega]
   exact B6 (by omega)
  have:=hc _ (by rw [List.getLast?_eq_getElem?];exact h5)
  omega
 refine .call _ O AV5 O (AU8 (m:=(wds n).length-2) up1 upo1 ha1 hb1 hla (by omega) hle htop) fun v2 w2 e2 h2=>?_
 obtain ⟨q,r,rfl,hq,hr⟩:=h2
 rw [B4,B4] at hq hr
 refine .ext O O O (.ext O O O (.asg O O (.an O O (.ret ?_))))
 exact .plain [_,_] Tryz.results182 ⟨rfl,rfl,trivial⟩ ⟨e1.trans e2,_,_,rfl,hq,hr⟩
theorem AP9 {S:Nat->Prop} {w:World} {va vb:Value} {m n:Nat} (up:Up S w) (ha:eW.R S w va (wds m)) (hb:eW.R S w vb (wds n)) (hla:(wds m).length<=1099511627776) (hn:0<n) :
  CR Tryz.prog 182 #[va,vb] w (Two (Wv S (m / n) ((wds m).length+1)) (Wv S (m % n) ((wds m).length+1))):=Z7 up up ha hb hla hn
open Go Go.Kx Go.RowKit
theorem D3 {P:Program} {w:World} {t t':TypeId} {b n:Nat} {α:Type} {E:ER α} {S:Nat->Prop} {v:Value} {z:α} (ht:tyOf P t=some (true,n)) (hA:E.isA=true) (hn:E.sz=n) (hb:Blk w b t' v.cells) (hz:E.R S w v z):(loadVar t ⟨b,0,none⟩).run P w=.ok v w:=by
 have hsz:=E.csz hz
 have:=K2 (P:=P) (w:=w) (p:=⟨b,0,none⟩) (cs:=v.cells.toList) (t:=t) (by rw [ht];simp;omega) (fun j u hu=>by rw [I9,hb.cell];simpa using hu)
 rw [this]
 have hv:=shpA hA hz
 simp only [Array.toArray_toList]
 rw [<-hv]
theorem AU0 {a b q r:Int} (hb:b≠0) (h:a=b*q+r) (h0:0<=r) (h1:r<b.natAbs):a / b=q/\a % b=r:=by
 subst h
 have hz:r / b=0:=by
  rcases Int.lt_or_gt_of_ne hb with h | h
  ·have:r / b = -(r / -b):=by rw [Int.ediv_neg,Int.neg_neg]
   rw [this,Int.ediv_eq_zero_of_lt h0 (by omega)];rfl
  ·exact Int.ediv_eq_zero_of_lt h0 (by omega)
 have hm:r % b=r:=by
  have:=Int.emod_def r b
  rw [hz] at this;omega
 constructor
 ·rw [Int.add_comm,Int.add_mul_ediv_left _ _ hb,hz];omega
 ·rw [Int.add_comm,Int.add_mul_emod_self_left,hm]
theorem AC5 {p q:Bool} {A B:Nat} (hB:0<B) (h:p=false\/A % B=0):sg p A / sg q B=sg (p != q) (A / B)/\sg p A % sg q B=sg false (A % B):=by
 have hd:=Nat.div_add_mod A B
 have hm:=Nat.mod_lt A hB
 generalize A / B=d at *
 generalize A % B=m at *
 subst hd
 refine AU0 (by cases q<;>simp [sg]<;>omega) ?_ (Int.natCast_nonneg m) (by rw [Ad1];show (m:Int)<(B:Int);omega)
 cases p with
 | false=>cases q<;>simp [sg,Int.natCast_mul,Int.neg_mul,Int.mul_neg]
 | true =>
  have hm0:m=0:=h.resolve_left (by simp)
  subst hm0
  cases q<;>simp [sg,Int.natCast_mul,Int.neg_mul,Int.mul_neg]
theorem AZ6 {q:Bool} {A B:Nat} (hB:0<B) (h:0<A % B):sg true A / sg q B=sg (true != q) (A / B+1)/\sg true A % sg q B=sg false (B-A % B):=by
 have hd:=Nat.div_add_mod A B
 have hm:=Nat.mod_lt A hB
 generalize A / B=d at *
 generalize A % B=m at *
 subst hd
 refine AU0 (by cases q<;>simp [sg]<;>omega) ?_ (Int.natCast_nonneg _) (by rw [Ad1];show ((B-m:Nat):Int)<(B:Int);omega)
 have e:((B:Int)*((d:Int)+1))=(B:Int)*d+B:=by rw [Int.mul_add,Int.mul_one]
 have e2:((B-m:Nat):Int)=(B:Int)-m:=by omega
 cases q<;>simp [sg,Int.natCast_mul,Int.neg_mul,Int.mul_neg,e,e2]<;>omega
theorem AF3:Ent Tryz.prog 218:=A0 Tryz.func218 (by kernel_rfl) rfl
theorem AD4 {S T0:Nat->Prop} {w:World} {va vb:Value} {x y:ZV} (up:Up S w) (upo:Up T0 w) (ha:eZ.R S w va x) (hb:eZ.R S w vb y) (hla:x.w.length<=1000000000000) (hlb:y.w.length<=1000000000000) (hy:zval y≠0) :
  CR Tryz.prog 218 #[va,vb] w (Three (eZ.at T0 (zc (zval x / zval y))) (eZ.at S (zc (zval x % zval y))) (Is (.int .i64 0))):=by
 obtain ⟨sa,rfl,hsa⟩:=ha
 obtain ⟨sb,rfl,hsb⟩:=hb
 have hda:dig x.w:=E1 hsa
 have hdb:dig y.w:=E1 hsb
 have hla':=Nat.le_trans (E2 hda) hla
 have hlb':=Nat.le_trans (E2 hdb) hlb
 have hy0:0<val y.w:=by
  rcases Nat.eq_zero_or_pos (val y.w) with h | h
  ·exact absurd (by unfold zval sg;rw [h];simp) hy
  ·exact h
 refine enter Tryz.func218 O Tryz.ntmps218 O ?_
 refine .sr (.box O O fun w1 b1 n1=>.box O O fun w2 b2 n2=>.alloc O B8 fun w3 b3 n3=>.alloc O B8 fun w4 b4 n4=>.an O O ?_)
 obtain ⟨e1,k1,hb1,hs1⟩:=n1
 obtain ⟨e2,k2,hb2,hs2⟩:=n2
 obtain ⟨e3,k3,hb3,hs3⟩:=n3
 obtain ⟨e4,k4,hb4,hs4⟩:=n4
 have x4:=((e1.trans e2).trans e3).trans e4
 have k1:=((k1.ext e2).ext e3).ext e4
 have k2:=(k2.ext e3).ext e4
 have k3:=k3.ext e4
 have hS3:¬ Sx T0 w.heap.size w4.heap.size b3:=Sx.no (by omega) (by omega)
 have hU4:¬ Sx T0 w.heap.size w4.heap.size b4:=Sx.no (by omega) (by omega)
 have upo4:Up (Sx T0 w.heap.size w4.heap.size) w4:=Sx.up upo (Nat.le_refl _) x4.size
 have houo:∀ {W:World} {v:Value} {z:ZV},eZ.R (Sx T0 w.heap.size w4.heap.size) W v z->eZ.R T0 W v z:=fun h=>h.out
 have hST3:¬ Sx S w.heap.size w4.heap.size b3:=Sx.no (by omega) (by omega)
 have hS4:¬ Sx S w.heap.size w4.heap.size b4:=Sx.no (by omega) (by omega)
 have up4:Up (Sx S w.heap.size w4.heap.size) w4:=Sx.up up (Nat.le_refl _) x4.size
 have hsa4:=(hsa.par w4.heap.size).ext x4
 have hsb4:=(hsb.par w4.heap.size).ext x4
 have hout:∀ {W:World} {v:Value} {z:ZV},eZ.R (Sx S w.heap.size w4.heap.size) W v z->eZ.R S W v z:=fun h=>h.out
 generalize hT:Sx S w.heap.size w4.heap.size=T at *
 generalize hU:Sx T0 w.heap.size w4.heap.size=U at *
 refine .seq ?_
 refine .par follows 7 [.inl _,.inl _,.inr (eW.at T (wds (val x.w))),.inl _,.inl _,.inr (eW.at T (wds (val y.w))),.inr (eW.at T (wds (val x.w)))] [[],[(11,0)],[(12,1)],[],[(14,3)],[(15,4)],[(13,2)]] (by kernel_rfl) ⟨
  fun w e=>(v_fa E0 O).ob,
  fun w e=>(v_ld ty_W O (k1.ext e) O).ob,
  fun w e=>(A4 _ C0 O (by rw [<-E9 hda];exact B9 (hsa4.ext e))).ob (A8 _ _ _),
  fun w e=>(v_fa E0 O).ob,
  fun w e=>(v_ld ty_W O (k2.ext e) O).ob,
  fun w e=>(A4 _ C0 O (by rw [<-E9 hdb];exact B9 (hsb4.ext e))).ob (A8 _ _ _),
  fun w e x2 hx2=>Aw0 O hx2 (A8 _ _ _),trivial⟩ ?_
 intro w5 e5 u2 hu2 u5 hu5 u6 hu6
 refine .an O O ?_
 have x5:=x4.trans e5
 have up5:=up4.ext e5.size
 have upo5:=upo4.ext e5.size
 have hne:(wds (val y.w)).length≠0:=by
  have:=List.length_pos_iff.2 (O9 (n:=val y.w) (by omega));omega
 refine .seq (.sr (.mv O O (.lenR un_W O O hu5 (.eqlF O O O (by omega) (.nil (.condF O (.skip ?_)))))))
 refine .sr (.mv O O (.mv O O ?_))
 refine .call _ O AA9 O (Z7 up5 upo5 hu6 hu5 (by omega) hy0) fun v6 w6 e6 h6=>?_
 obtain ⟨vq,vr,rfl,⟨q,hq,hqv,hql⟩,⟨r,hr,hrv,hrl⟩⟩:=h6
 refine .mv O O (.ext O O O (.ext O O O (.asg O O (.an O O ?_))))
 have hrd:dig r:=E1 hr
 refine .sr (.mv O O ?_)
 refine .call _ O C0 O (B9 hr) fun vt w7 e7 ht=>.an O O ?_
 rw [E9 hrd,hrv] at ht
 have e67:=e6.trans e7
 have x7:=x5.trans e67
 have up7:=up5.ext e67.size
 have upo7:=upo5.ext e67.size
 have hq7:=hq.ext e7
 have k1:=(k1.ext e5).ext e67
 have k2:=(k2.ext e5).ext e67
 have k3:=(k3.ext e5).ext e67
 have k4:=(k4.ext e5).ext e67
 have hu57:=hu5.ext e67
 have hl7:=AJ2 ht
 have hrl':(wds (val x.w % val y.w)).length<=(wds (val y.w)).length:=Z9 (Nat.le_of_lt (Nat.mod_lt _ hy0))
 refine .mid (α:=Value×Value) (fun z=>[(2,.pointer (some ⟨b1,0,none⟩)),(3,.pointer (some ⟨b2,0,none⟩)),(4,.pointer (some ⟨b3,0,none⟩)),(5,.pointer (some ⟨b4,0,none⟩)),(9,z.1),(10,z.2)])
  (fun z W=>Ext w7 W/\∃ q r,eW.R U W z.1 q/\eW.R T W z.2 r/\zval x / zval y=sg (x.neg != y.neg) (val q)/\zval x % zval y=sg false (val r)) ?_ ?_
 ·refine .sr (.fa G6 O O (.ld B7 O O k1 O (.mv O O ?_)))
  cases hn:x.neg with
  | false =>
   refine .gs O O O O O (.gs O O O O O (.gs O O O O O (.pick O O O (.nil (.condF O (.skip ?_))))))
   obtain ⟨d1,d2⟩:=AC5 (p:=false) (q:=y.neg) (A:=val x.w) hy0 (.inl rfl)
   refine ⟨rfl,(vq,vt),lkA rfl,.refl _,q,_,hq7,ht,?_,?_⟩
   ·unfold zval;rw [hn,hqv];exact d1
   ·unfold zval;rw [hn,B4];exact d2
  | true =>
   refine .gr O O O O (.mv O O (.gr O O O O (.lenR un_W O O ht (.gr O O O O ?_))))
   rcases Nat.eq_zero_or_pos (val x.w % val y.w) with h0 | h0
   ·have h0':(wds (val x.w % val y.w)).length=0:=by rw [h0,G0];rfl
    refine .gtrF O O O (by omega) (.pick O O O (.nil (.condF O (.skip ?_))))
    obtain ⟨d1,d2⟩:=AC5 (p:=true) (q:=y.neg) (A:=val x.w) hy0 (.inr h0)
    refine ⟨rfl,(vq,vt),lkA rfl,.refl _,q,_,hq7,ht,?_,?_⟩
    ·unfold zval;rw [hn,hqv];exact d1
    ·unfold zval;rw [hn,B4];exact d2
   ·have h0':=List.length_pos_iff.2 (O9 (n:=val x.w % val y.w) (by omega))
    refine .gtrT O O O (by omega) (.pick O O O (.nil (.condT O (.sr (.mv O O ?_)))))
    refine .bsl _ O O AC7 fun w8 b8 n8=>?_
    obtain ⟨e8,k8,hb8,hs8⟩:=n8
    have h1:eW.R U w8 (.slice (some ⟨b8,0,none⟩) 1 1) [1]:=AZ5 (l:=[1]) (t:=91) k8 (upo7 b8 (by omega)) (by simp [dig]) (Nat.le_refl 1) (by simp)
    refine .call _ O AB0 O (Z8 (upo7.ext e8.size) (hq7.ext e8) h1 (by omega) (by simp)) fun v9 w9 e9 h9=>.an O O (.region (.mv O O (.mv O O ?_)))
    obtain ⟨q',hq',hqv',hql'⟩:=h9
    have e79:=e8.trans e9
    refine .call _ O P5 O (O8 (up7.ext e79.size) (hu57.ext e79) (ht.ext e79) (by omega) (by omega) (by rw [B4,B4];exact Nat.le_of_lt (Nat.mod_lt _ hy0))) fun v10 w10 e10 h10=>.an O O ?_
    obtain ⟨r',hr',hrv',hrl''⟩:=h10
    obtain ⟨d1,d2⟩:=AZ6 (q:=y.neg) (A:=val x.w) hy0 h0
    refine ⟨rfl,(v9,v10),lkA rfl,e79.trans e10,q',r',hq'.ext e10,hr',?_,?_⟩
    ·unfold zval;rw [hn,hqv',hqv];simp only [val];rw [Nat.mul_zero,Nat.add_zero];exact d1
    ·unfold zval;rw [hn,hrv',B4,B4];exact d2
 ·rintro ⟨vq,vr⟩ W ⟨e8,q,r,hq,hr,hdq,hdr⟩
  replace hq:eW.R U W vq q:=hq
  replace hr:eW.R T W vr r:=hr
  have k1:=k1.ext e8
  have k2:=k2.ext e8
  have up8:=up7.ext e8.size
  have upo8:=upo7.ext e8.size
  refine .sr (.fa G6 O O (.ld B7 O O k1 O (.fa G6 O O (.ld B7 O O k2 O (.neqB AB8 O O O (.mv O O ?_))))))
  refine .call _ O F8 O (F5 upo8 hq) fun v9 w9 e9 h9=>.mv O O ?_
  refine .call _ O F8 O (F5 (up8.ext e9.size) (hr.ext e9)) fun v10 w10 e10 h10=>?_
  have e910:=e9.trans e10
  have k3:=(k3.ext e8).ext e910
  have k4:=(k4.ext e8).ext e910
  refine .storeA ty_Z O O k3 O O (h9.ext e10) hS3 fun w11 k11 u11 h11=>?_
  have hne34:b4≠b3:=by omega
  refine .storeA ty_Z O O (k4.upd u11 hne34) O O (h10.upd u11 hST3) hS4 fun w12 k12 u12 h12=>.an O O (.ret ?_)
  have h11':=h11.upd u12 hU4
  have k11':=k11.upd u12 (Ne.symm hne34)
  rw [hdq,hdr]
  refine .plain [_,_,_] Tryz.results218 ⟨⟨_,rfl,D3 (E:=eZ) ty_Z O O k11' h11'⟩,⟨_,rfl,D3 (E:=eZ) ty_Z O O k12 h12⟩,rfl,trivial⟩ ⟨?_,_,_,_,rfl,houo h11',hout h12,rfl⟩
  exact u12.below (u11.below (((x7.trans e8).trans e910)) (by omega)) (by omega)
theorem An5:Ent Tryz.prog 128:=A0 Tryz.func128 (by kernel_rfl) rfl
theorem Ai8 {S:Nat->Prop} {w:World} {va vb:Value} {x y:ZV} (up:Up S w) (ha:eZ.R S w va x) (hb:eZ.R S w vb y) (hla:x.w.length<=1000000000000) (hlb:y.w.length<=1000000000000) :
  CR Tryz.prog 128 #[va,vb] w (eZ.at S (zc (Nat.gcd (val x.w) (val y.w):Nat))):=by
 obtain ⟨sa,rfl,hsa⟩:=ha
 obtain ⟨sb,rfl,hsb⟩:=hb
 have hda:dig x.w:=E1 hsa
 have hdb:dig y.w:=E1 hsb
 have hla':=Nat.le_trans (E2 hda) hla
 have hlb':=Nat.le_trans (E2 hdb) hlb
 refine enter Tryz.func128 O Tryz.ntmps128 O ?_
 refine .sr (.box O O fun w1 b1 n1=>.box O O fun w2 b2 n2=>.alloc O B8 fun w3 b3 n3=>.nil ?_)
 obtain ⟨e1,k1,hb1,hs1⟩:=n1
 obtain ⟨e2,k2,hb2,hs2⟩:=n2
 obtain ⟨e3,k3,hb3,hs3⟩:=n3
 have x3:=(e1.trans e2).trans e3
 have k1:=(k1.ext e2).ext e3
 have k2:=k2.ext e3
 have hS:¬ Sx S w.heap.size w3.heap.size b3:=Sx.no (by omega) (by omega)
 have up3:Up (Sx S w.heap.size w3.heap.size) w3:=Sx.up up (Nat.le_refl _) x3.size
 have hsa3:=(hsa.par w3.heap.size).ext x3
 have hsb3:=(hsb.par w3.heap.size).ext x3
 have hout:∀ {W:World} {v:Value} {z:ZV},eZ.R (Sx S w.heap.size w3.heap.size) W v z->eZ.R S W v z:=fun h=>h.out
 generalize hT:Sx S w.heap.size w3.heap.size=T at *
 refine .seq ?_
 refine .par follows 7 [.inl _,.inl _,.inr (eW.at T (wds (val x.w))),.inl _,.inl _,.inr (eW.at T (wds (val y.w))),.inr (eW.at T (wds (val x.w)))] [[],[(11,0)],[(12,1)],[],[(14,3)],[(15,4)],[(13,2)]] (by kernel_rfl) ⟨
  fun w e=>(v_fa E0 O).ob,
  fun w e=>(v_ld ty_W O (k1.ext e) O).ob,
  fun w e=>(A4 _ C0 O (by rw [<-E9 hda];exact B9 (hsa3.ext e))).ob (A8 _ _ _),
  fun w e=>(v_fa E0 O).ob,
  fun w e=>(v_ld ty_W O (k2.ext e) O).ob,
  fun w e=>(A4 _ C0 O (by rw [<-E9 hdb];exact B9 (hsb3.ext e))).ob (A8 _ _ _),
  fun w e x2 hx2=>Aw0 O hx2 (A8 _ _ _),trivial⟩ ?_
 intro w4 e4 u2 hu2 u5 hu5 u6 hu6
 refine .an O O ?_
 have x4:=x3.trans e4
 have up4:=up3.ext e4.size
 have k4:=k3.ext e4
 generalize hG:Nat.gcd (val x.w) (val y.w)=G at *
 refine .mid (α:=Value×Value) (fun z=>[(4,.pointer (some ⟨b3,0,none⟩)),(5,z.1),(6,z.2)]) (fun z W=>Ext w4 W/\∃ m n,eW.R T W z.1 (wds m)/\eW.R T W z.2 (wds n)/\Nat.gcd m n=G/\(wds m).length<=1000000000000/\(n=0\/((wds m).length<=2/\(wds n).length<=2))) ?_ ?_
 ·refine .block (.loop (α:=Nat×Nat×Value×Value) (fun z=>[(4,.pointer (some ⟨b3,0,none⟩)),(5,z.2.2.1),(6,z.2.2.2)]) (fun z W=>Ext w4 W/\eW.R T W z.2.2.1 (wds z.1)/\eW.R T W z.2.2.2 (wds z.2.1)/\Nat.gcd z.1 z.2.1=G/\(wds z.1).length<=1000000000000/\(wds z.2.1).length<=1000000000000) (fun z=>z.2.1) (val x.w,val y.w,u6,u5) ?_ ?_ ?_)
  ·exact lkA rfl
  ·exact ⟨.refl _,hu6,hu5,hG,hla',hlb'⟩
  ·rintro ⟨m,n,v5,v6⟩ W ⟨hW,h5,h6,hg,hl5,hl6⟩
   replace h5:eW.R T W v5 (wds m):=h5
   replace h6:eW.R T W v6 (wds n):=h6
   replace hg:Nat.gcd m n=G:=hg
   replace hl5:(wds m).length<=1000000000000:=hl5
   replace hl6:(wds n).length<=1000000000000:=hl6
   refine .mid (α:=Unit) (fun _=>[(4,.pointer (some ⟨b3,0,none⟩)),(5,v5),(6,v6)]) (fun _ W'=>W'=W/\0<n) ?_ ?_
   ·refine .sr (.mv O O (.lenR un_W O O h6 ?_))
    rcases Nat.eq_zero_or_pos n with hn | hn
    ·subst hn
     rw [G0]
     refine .gtrF O O O (by decide) (.mv O O ?_)
     refine .gs O O O O O (.gs O O O O O (.gs O O O O O (.gs O O O O O ?_)))
     refine .gu O O O O (.gu O O O O (.gu O O O O (.gs O O O O O (.pick O O O (.nil (.condF O (.exit ?_)))))))
     exact ⟨rfl,(v5,v6),lkA rfl,hW,m,0,h5,h6,hg,hl5,.inl rfl⟩
    ·have hn0:=List.length_pos_iff.2 (O9 (n:=n) (by omega))
     refine .gtrT O O O (by omega) (.mv O O (.gr O O O O (.mv O O (.gr O O O O (.lenR un_W O O h5 (.gr O O O O ?_))))))
     by_cases hm2:2<(wds m).length
     ·refine .gtrT O O O (by omega) (.gr O O O O (.mv O O (.gs O O O O O (.gs O O O O O (.gs O O O O O (.gr O O O O (.pick O O O (.pick O O O (.nil (.condT O (.skip ?_)))))))))))
      exact ⟨rfl,(),lkA rfl,rfl,hn⟩
     ·refine .gtrF O O O (by omega) (.gr O O O O (.mv O O (.gr O O O O (.mv O O (.gr O O O O (.lenR un_W O O h6 (.gr O O O O ?_)))))))
      by_cases hn2:2<(wds n).length
      ·refine .gtrT O O O (by omega) (.gr O O O O (.pick O O O (.pick O O O (.nil (.condT O (.skip ?_))))))
       exact ⟨rfl,(),lkA rfl,rfl,hn⟩
      ·refine .gtrF O O O (by omega) (.gr O O O O (.pick O O O (.pick O O O (.nil (.condF O (.exit ?_))))))
       exact ⟨rfl,(v5,v6),lkA rfl,hW,m,n,h5,h6,hg,hl5,.inr ⟨by omega,by omega⟩⟩
   ·rintro _ W' ⟨rfl,hn⟩
    refine .block (.sr (.mv O O (.mv O O ?_)))
    refine .call _ O AA9 O (AP9 (up4.ext hW.size) h5 h6 (by omega) hn) fun v7 w7 e7 h7=>?_
    obtain ⟨vq,vr,rfl,_,⟨r,hr,hrv,hrl⟩⟩:=h7
    refine .mv O O (.ext O O O (.ext O O O (.asg O O (.an O O (.region (.mv O O (.mv O O ?_)))))))
    have hrd:dig r:=E1 hr
    refine .call _ O C0 O (B9 hr) fun vt w8 e8 ht=>.asg O O (.an O O ?_)
    rw [E9 hrd,hrv] at ht
    have hlt:=Nat.mod_lt m hn
    refine ⟨rfl,(n,m % n,v6,vt),lkA rfl,⟨(hW.trans e7).trans e8,(h6.ext e7).ext e8,ht,?_,hl6,?_⟩,hlt⟩
    ·show Nat.gcd n (m % n)=G
     rw [<-hg,Nat.gcd_comm m n,Nat.gcd_rec n m,Nat.gcd_comm]
    ·exact Nat.le_trans (Z9 (Nat.le_of_lt hlt)) hl6
 ·rintro ⟨v5,v6⟩ W ⟨hW,m,n,h5,h6,hg,hl5,hend⟩
  replace h5:eW.R T W v5 (wds m):=h5
  replace h6:eW.R T W v6 (wds n):=h6
  have upW:=up4.ext hW.size
  have xW:=x4.trans hW
  have kW:=k4.ext hW
  refine .seq (.sr (.mv O O (.lenR un_W O O h6 ?_)))
  rcases Nat.eq_zero_or_pos n with hn | hn
  ·subst hn
   rw [G0]
   refine .eqlT O O O O (.nil (.condT O (.sr (.mv O O ?_))))
   refine .call _ O AW6 O (Ai5 upW h5 (by omega)) fun v7 w7 e7 h7=>?_
   refine .call _ O F8 O (F5 (upW.ext e7.size) h7) fun v8 w8 e8 h8=>?_
   refine .storeA ty_Z O O ((kW.ext e7).ext e8) O O h8 hS fun w9 k9 u9 h9=>.nil (.ret ?_)
   refine .cell Tryz.results128 O ty_Z O O k9 h9 ⟨u9.below ((xW.trans e7).trans e8) (by omega),?_⟩
   rw [B4] at h9
   rw [<-hg,Nat.gcd_zero_right]
   exact hout h9
  ·have hn0:=List.length_pos_iff.2 (O9 (n:=n) (by omega))
   obtain ⟨hm2,hn2⟩:=hend.resolve_left (by omega)
   have hm64:m<18446744073709551616:=by
    have h3:=AD5 m
    have h4:4294967296 ^ (wds m).length<=4294967296 ^ 2:=Nat.pow_le_pow_right (by omega) hm2
    omega
   have hn64:n<18446744073709551616:=by
    have h3:=AD5 n
    have h4:4294967296 ^ (wds n).length<=4294967296 ^ 2:=Nat.pow_le_pow_right (by omega) hn2
    omega
   refine .eqlF O O O (by omega) (.nil (.condF O (.skip (.sr (.mv O O ?_)))))
   refine .call _ O K1 O (J5 h5 hm2) fun v7 w7 e7 h7=>?_
   subst h7
   refine .mv O O (.call _ O K1 O (J5 (h6.ext e7) hn2) fun v8 w8 e8 h8=>?_)
   subst h8
   rw [B4,B4]
   refine .asg O O (.an O O ?_)
   have x8:=(xW.trans e7).trans e8
   have up8:=(upW.ext e7.size).ext e8.size
   have k8:=(kW.ext e7).ext e8
   refine .mid (α:=Unit) (fun _=>[(4,.pointer (some ⟨b3,0,none⟩)),(9,.int .u64 (G:Nat))]) (fun _ W'=>Ext w8 W'/\G<18446744073709551616) ?_ ?_
   ·refine .block (.loop (α:=Nat×Nat) (fun z=>[(4,.pointer (some ⟨b3,0,none⟩)),(9,.int .u64 (z.1:Nat)),(10,.int .u64 (z.2:Nat))]) (fun z W'=>Ext w8 W'/\Nat.gcd z.1 z.2=G/\z.1<18446744073709551616/\z.2<18446744073709551616) (fun z=>z.2) (m,n) ?_ ?_ ?_)
    ·exact lkA rfl
    ·exact ⟨.refl _,hg,hm64,hn64⟩
    ·rintro ⟨m,n⟩ W' ⟨hW',hg,hm,hn⟩
     replace hg:Nat.gcd m n=G:=hg
     replace hm:m<18446744073709551616:=hm
     replace hn:n<18446744073709551616:=hn
     rcases Nat.eq_zero_or_pos n with h0 | h0
     ·subst h0
      refine .seq (.sr (.mv O O (.gtrF O O O (by show ¬ (0:Int)<((0:Nat):Int);omega) (.nil (.condF O (.exit ?_))))))
      rw [Nat.gcd_zero_right] at hg
      subst hg
      exact ⟨rfl,(),lkA rfl,hW',hm⟩
     ·refine .seq (.sr (.mv O O (.gtrT O O O (by show (0:Int)<(n:Int);omega) (.nil (.condT O (.skip (.block ?_)))))))
      refine .par follows 5 [.inl (.int .u64 (n:Nat)),.inl (.int .u64 (m:Nat)),.inl (.int .u64 (n:Nat)),.inl (.int .u64 ((m % n:Nat):Int)),.inl (.int .u64 (n:Nat))] [[],[],[],[(52,1),(53,2)],[(51,0)]] (by kernel_rfl) ⟨
       fun w e=>(v_mv O).ob,
       fun w e=>(v_mv O).ob,
       fun w e=>(v_mv O).ob,
       fun w e=>((AX8 O O (by omega)).eq (by rw [M8])).ob,
       fun w e=>(v_as O).ob,trivial⟩ ?_
      intro w9 e9
      refine .an O O ?_
      have hlt:=Nat.mod_lt m h0
      refine ⟨rfl,(n,m % n),lkA rfl,⟨hW'.trans e9,?_,hn,Nat.lt_trans hlt hn⟩,hlt⟩
      show Nat.gcd n (m % n)=G
      rw [<-hg,Nat.gcd_comm m n,Nat.gcd_rec n m,Nat.gcd_comm]
   ·rintro _ W' ⟨hW',hG64⟩
    refine .sr (.mv O O ?_)
    refine .call _ O I7 O (I6 (neg:=false) (up8.ext hW'.size) hG64) fun v9 w9 e9 h9=>?_
    refine .storeA ty_Z O O ((k8.ext hW').ext e9) O O h9 hS fun w10 k10 u10 h10=>.nil (.ret ?_)
    exact .cell Tryz.results128 O ty_Z O O k10 h10 ⟨u10.below ((x8.trans hW').trans e9) (by omega),hout h10⟩
end Go.Proofs.YtggegpiffjbngaaGreat
namespace Go.Kx
open Go Go.RowKit
section
variable {P:Program} {σ:Env} {w:World} {d:Option Tmp} {ty:TypeId} {pos:String} {af:Array Edge} {g:Option (Nat×Bool)}
def MapAt (w:World) (r:Nat) (es:Array MapEntry) (c:Nat):Prop:=w.heap[r]?=some (.map es c)
theorem MapAt.ext {w w':World} {r:Nat} {es:Array MapEntry} {c:Nat} (h:MapAt w r es c) (e:Ext w w'):MapAt w' r es c:=(e.block r (Array.getElem?_eq_some_iff.1 h).1).trans h
theorem g_mkmap {t:TypeId}:Gv P ⟨d,.makeMap t none,ty,pos,af,g⟩ σ w fun v' w'=>v'=.map (some w.heap.size)/\Ext w w'/\MapAt w' w.heap.size #[] 0:=by
 refine ⟨(by intro _ h;cases h),fun ρ hρ=>.inl ⟨_,_,?_,rfl,U4 w (.map #[] 0),World.alloc_heap_new w _⟩⟩
 simp [execOp,Instr.makeMap]
theorem Aw8 {t kt et:TypeId} {m k x:Operand} {r:Nat} {es:Array MapEntry} {c:Nat} {kk:IntKind} {n:Int} {v:Value} (ht:P.underlying t=some (.map kt et)) (hk:P.underlying kt=some (.int kk)) (hm:ev σ m=some (.map (some r))) (hn:ev σ k=some (.int kk n)) (hx:ev σ x=some v)
  (hr:MapAt w r es c) (hf:Instr.findNow (.int kk) (.int kk n) es.toList 0=some none) :
  Gv P ⟨d,.insert t m k x,ty,pos,af,g⟩ σ w fun _ w'=>w'=w.putObj r (.map (es.push { key:=.int kk n,val:=v,born:=c }) (c+1)):=by
 refine ⟨(by intro _ h;cases h),fun ρ hρ=>.inr (.inl ⟨_,?_,rfl⟩)⟩
 have e1:=hρ m _ (by simp [Op.operands]) hm
 have e2:=hρ k _ (by simp [Op.operands]) hn
 have e3:=hρ x _ (by simp [Op.operands]) hx
 have hr':w.heap[r]?=some (.map es c):=hr
 have hck:(Instr.checkKey false 10000 kt (.int kk n)).run P w=.ok () w:=by
  unfold Instr.checkKey
  simp [run_underlying hk]
 have hfk:(Instr.findKey kt (.int kk n) es.toList).run P w=.ok none w:=by
  unfold Instr.findKey
  simp [run_underlying hk,hf]
 have hget:(getObj r).run P w=.ok (.map es c) w:=by simp [getObj,Sem.run,hr']
 have hset:∀ o,(setObj r o).run P w=.ok () (w.putObj r o):=fun o=>by simp [setObj,Sem.run,hr',World.putObj]
 simp [execOp,e1,e2,e3,Instr.mapUpdate,run_underlying ht,hget,hck,hfk,hset]
theorem MapAt.put {r:Nat} {es es':Array MapEntry} {c c':Nat} (h:MapAt w r es c):MapAt (w.putObj r (.map es' c')) r es' c':=World.putObj_heap_same (Array.getElem?_eq_some_iff.1 h).1
theorem AG1 {B r:Nat} {w0:World} {o:Obj} (h:Below B w0 w) (hr:B<=r):Below B w0 (w.putObj r o):=M2 h hr
theorem v_lkp {t kt et:TypeId} {m k:Operand} {r:Nat} {es:Array MapEntry} {c:Nat} {kk:IntKind} {n:Int} {i:Nat} {v:Value} (ht:P.underlying t=some (.map kt et)) (hk:P.underlying kt=some (.int kk)) (hm:ev σ m=some (.map (some r))) (hn:ev σ k=some (.int kk n))
  (hr:MapAt w r es c) (hf:Instr.findNow (.int kk) (.int kk n) es.toList 0=some (some (i,v))):Vl P ⟨d,.lookup t m k false,ty,pos,af,g⟩ σ w v:=by
 refine ⟨(by intro _ h;cases h),fun ρ hρ=>?_⟩
 have e1:=hρ m _ (by simp [Op.operands]) hm
 have e2:=hρ k _ (by simp [Op.operands]) hn
 have hr':w.heap[r]?=some (.map es c):=hr
 have hck:∀ b,(Instr.checkKey b 10000 kt (.int kk n)).run P w=.ok () w:=by
  intro b
  unfold Instr.checkKey
  simp [run_underlying hk]
 have hfk:(Instr.findKey kt (.int kk n) es.toList).run P w=.ok (some (i,v)) w:=by
  unfold Instr.findKey
  simp [run_underlying hk,hf]
 have hget:(getObj r).run P w=.ok (.map es c) w:=by simp [getObj,Sem.run,hr']
 simp [execOp,e1,e2,Instr.lookup,run_underlying ht,hget,hck,hfk]
end
@[reducible] def Zv (S:Nat->Prop) (n:Int) (L:Nat):Value->World->Prop:=fun v w=>∃ z,eZ.R S w v z/\zval z=n/\z.w.length<=L
theorem Aj9 (S:Nat->Prop) (n:Int) (L:Nat):St (Zv S n L):=fun _ _ _ e ⟨z,h1,h2⟩=>⟨z,h1.ext e,h2⟩
theorem Zv.of {S:Nat->Prop} {n:Int} {L:Nat} {v:Value} {w:World} (h:eZ.R S w v (zc n)) (hl:n.natAbs<4294967296 ^ L):Zv S n L v w:=⟨_,h,F1 n,M3 hl⟩
theorem Zv.lt {S:Nat->Prop} {n:Int} {L:Nat} {v:Value} {w:World} (h:Zv S n L v w):n.natAbs<4294967296 ^ L:=by
 obtain ⟨z,⟨s,_,hs⟩,rfl,hl⟩:=h
 exact P8 (E1 hs) hl
theorem Zv.out {S:Nat->Prop} {B C:Nat} {n:Int} {L:Nat} {v:Value} {w:World} (h:Zv (Sx S B C) n L v w):Zv S n L v w:=by
 obtain ⟨z,h1,h2⟩:=h
 exact ⟨z,h1.out,h2⟩
theorem Zv.ext {S:Nat->Prop} {n:Int} {L:Nat} {v:Value} {w w':World} (h:Zv S n L v w) (e:Ext w w'):Zv S n L v w':=Aj9 S n L _ _ _ e h
theorem Zv.agg {S:Nat->Prop} {n:Int} {L:Nat} {v:Value} {w:World} (h:Zv S n L v w):∃ b s,v=.agg #[.bool b,s]:=by
 obtain ⟨z,⟨s,rfl,_⟩,_⟩:=h
 exact ⟨_,_,rfl⟩
def eZn (L:Nat):ER Int where
 sz:=2
 isA:=true
 R:=fun S w v n=>Zv S n L v w
 csz:=by rintro S w e x ⟨z,h,_⟩;exact eZ.csz h
 one:=by rintro S w e x ⟨z,h,_⟩;exact eZ.one h
 shp:=by rintro S w e x ⟨z,h,_⟩;exact eZ.shp h
 keep:=fun hk ⟨z,h1,h2⟩=>⟨z,eZ.keep hk h1,h2⟩
 mono:=fun hk ⟨z,h1,h2⟩=>⟨z,eZ.mono hk h1,h2⟩
end Go.Kx
namespace Go.Proofs.YtggegpiffjbngaaGreat
open Go Go.Kx Go.RowKit
theorem R6 {S:Nat->Prop} {w:World} {v:Value} {q:QV} (h:eQ.R S w v q):∃ s t,v=.agg #[.bool q.num.neg,s,.bool q.den.neg,t]/\eZ.R S w (.agg #[.bool q.num.neg,s]) q.num/\eZ.R S w (.agg #[.bool q.den.neg,t]) q.den:=by
 obtain ⟨s,t,hv,h1,h2⟩:=h
 exact ⟨s,t,hv,⟨s,rfl,h1⟩,⟨t,rfl,h2⟩⟩
theorem AF1 {S:Nat->Prop} {w:World} {v:Value} {z:ZV} (h:eZ.R S w v z):dig z.w:=by
 obtain ⟨s,_,hs⟩:=h
 exact E1 hs
theorem AD1:Ent Tryz.prog 123:=A0 Tryz.func123 (by kernel_rfl) rfl
theorem AC2 {S:Nat->Prop} {w:World} {v:Value} {q:QV} {L:Nat} (up:Up S w) (h:eQ.R S w v q) (hl:qok L q) (hL:1<=L) (hL2:L<=1000000000000):CR Tryz.prog 123 #[v] w (Two (Zv S (pn q) L) (Zv S (pd q) L)):=by
 obtain ⟨s,t,rfl,hn,hd⟩:=R6 h
 have hdn:=AF1 hn
 have hdd:=AF1 hd
 refine enter Tryz.func123 O Tryz.ntmps123 O ?_
 refine .sr (.box O O fun w1 b1 n1=>.alloc O B8 fun w2 b2 n2=>.alloc O B8 fun w3 b3 n3=>.nil ?_)
 obtain ⟨e1,k1,hb1,hs1⟩:=n1
 obtain ⟨e2,k2,hb2,hs2⟩:=n2
 obtain ⟨e3,k3,hb3,hs3⟩:=n3
 have x3:=(e1.trans e2).trans e3
 have k1:=(k1.ext e2).ext e3
 have k2:=k2.ext e3
 have hS2:¬ Sx S w.heap.size w3.heap.size b2:=Sx.no (by omega) (by omega)
 have hS3:¬ Sx S w.heap.size w3.heap.size b3:=Sx.no (by omega) (by omega)
 have up3:Up (Sx S w.heap.size w3.heap.size) w3:=Sx.up up (Nat.le_refl _) x3.size
 have hn3:=(hn.par w3.heap.size).ext x3
 have hd3:=(hd.par w3.heap.size).ext x3
 have hne23:b3≠b2:=by omega
 have hne21:b1≠b2:=by omega
 have hout:∀ {W:World} {v:Value} {n:Int},(eZn L).R (Sx S w.heap.size w3.heap.size) W v n->Zv S n L v W:=fun h=>Zv.out h
 generalize hT:Sx S w.heap.size w3.heap.size=T at *
 have fin2:∀ {σ:Env} {W:World} {u v:Value} {m n:Int},Ext w W->Blk W b2 52 u.cells->Blk W b3 52 v.cells->(eZn L).R T W u m->(eZn L).R T W v n->m=pn q->n=pd q->Kx.look σ 2=some (.pointer (some ⟨b2,0,none⟩))->Kx.look σ 3=some (.pointer (some ⟨b3,0,none⟩)) ->
   Leave Tryz.prog Tryz.f123 24 (fun v w'=>Ext w w'/\Two (Zv S (pn q) L) (Zv S (pd q) L) v w') σ [] W:=by
  intro σ W u v m n hx hb hb' hu hv hm hn h2 h3
  subst hm;subst hn
  exact .plain [_,_] Tryz.results123 ⟨⟨_,h2,D3 (E:=eZn L) ty_Z O O hb hu⟩,⟨_,h3,D3 (E:=eZn L) ty_Z O O hb' hv⟩,trivial⟩ ⟨hx,u,v,rfl,hout hu,hout hv⟩
 refine .seq (.sr (.fa S3 O O (.ldN [.bool q.den.neg,t] ty_Z rfl rfl k1 (by intro j u hu;match j with | 0=>exact hu | 1=>exact hu | j+2=>simp at hu) ?_)))
 refine .call _ O O4 O (M4 hd3) fun v4 w4 e4 h4=>.nil ?_
 subst h4
 have hn4:=hn3.ext e4
 have hd4:=hd3.ext e4
 have k1:=k1.ext e4
 have k2:=k2.ext e4
 have k3:=k3.ext e4
 have x4:=x3.trans e4
 have up4:=up3.ext e4.size
 refine .block (.sr ?_)
 by_cases h0:zval q.den=0
 ·refine .eqlT O O O (by rw [h0];rfl) (.an O O (.condT O (.seq ?_)))
  refine .par follows 3 [.inl _,.inl (.agg #[.bool q.num.neg,s]),.inr (eZ.at T (zc 1))] [[],[(9,0)],[]] (by kernel_rfl) ⟨
   fun w e=>(v_fa S4 O).ob,
   fun w e=>(AM0 [.bool q.num.neg,s] ty_Z rfl (k1.ext e) (by intro j u hu;match j with | 0=>exact hu | 1=>exact hu | j+2=>simp at hu)).ob,
   fun w e=>(A4 _ C8 O (C7 (n:=1) (up4.ext e.size) (by omega) (by omega))).ob (A8 _ _ _),trivial⟩ ?_
  intro w5 e5 x2 hx2
  have hA:(eZn L).R T w5 (.agg #[.bool q.num.neg,s]) (zval q.num):=⟨q.num,hn4.ext e5,rfl,hl.1⟩
  have h1:(eZn L).R T w5 x2 1:=Zv.of hx2 (by have:4294967296 ^ 1<=4294967296 ^ L:=Nat.pow_le_pow_right (by omega) hL;show 1<_;omega)
  refine .storeA (E:=eZn L) ty_Z O O (k2.ext e5) O O hA hS2 fun w6 k6 u6 h6=>?_
  refine .storeA (E:=eZn L) ty_Z O O ((k3.ext e5).upd u6 hne23) O O (h1.upd u6 hS2) hS3 fun w7 k7 u7 h7=>.nil (.ret ?_)
  refine fin2 (u7.below (u6.below (x4.trans e5) (by omega)) (by omega)) (k6.upd u7 (Ne.symm hne23)) k7 (h6.upd u7 hS3) h7 ?_ ?_ O rfl
  ·unfold pn;rw [h0];simp
  ·unfold pd;rw [h0];simp
 ·have hs0:(zval q.den).sign≠0:=fun h=>h0 (Int.sign_eq_zero_iff_zero.1 h)
  refine .eqlF O O O hs0 (.an O O (.condF O (.sr ?_)))
  by_cases h1:zval q.den<0
  ·refine .eqlT O O O (Int.sign_eq_neg_one_of_neg h1) (.an O O (.condT O (.seq ?_)))
   refine .held follows true (fun W=>Blk W b1 54 #[.bool q.num.neg,s,.bool q.den.neg,t]) [some _,some (.agg #[.bool q.num.neg,s]),none,some _,some (.agg #[.bool q.den.neg,t]),none,none,none] (by kernel_rfl) ⟨
    fun _ _=>v_fa S4 rfl,
    fun _ h=>AM0 [.bool q.num.neg,s] ty_Z rfl h (by intro j u hu;match j with | 0=>exact hu | 1=>exact hu | j+2=>simp at hu),
    fun _ _=>v_fa S3 rfl,
    fun _ h=>AM0 [.bool q.den.neg,t] ty_Z rfl h (by intro j u hu;match j with | 0=>exact hu | 1=>exact hu | j+2=>simp at hu),trivial⟩ ?_
   intro w5 e5 _
   refine .gv (k1.ext e5) O (A4 _ R9 O (Q6 (up4.ext e5.size) (hn4.ext e5) (Nat.le_trans hl.1 (by omega)))) ?_
   rintro vn w6 ⟨e6,hvn⟩
   have e56:=e5.trans e6
   refine .gv (k1.ext e56) O (A4 _ R9 O (Q6 (up4.ext e56.size) (hd4.ext e56) (Nat.le_trans hl.2 (by omega)))) ?_
   rintro vd w7 ⟨e7,hvd⟩
   have e57:=e56.trans e7
   have hA:(eZn L).R T w7 vn (-zval q.num):=Zv.of (hvn.ext e7) (by have:=P8 hdn hl.1;omega)
   have hB:(eZn L).R T w7 vd (-zval q.den):=Zv.of hvd (by have:=P8 hdd hl.2;omega)
   have hca:=(eZn L).csz hA
   have hcb:=(eZn L).csz hB
   refine .gv (k1.ext e57) O (J0 ty_Z O O (k2.ext e57) hca (Nat.le_refl _) ((eZn L).one hA)) ?_
   rintro _ w8 ⟨k8,u8⟩
   rw [AF6 _ _ (by rw [Array.length_toList,hca];rfl)] at k8
   refine .gv ((k1.ext e57).upd u8 hne21) O (J0 ty_Z O O ((k3.ext e57).upd u8 hne23) hcb (Nat.le_refl _) ((eZn L).one hB)) ?_
   rintro _ w9 ⟨k9,u9⟩
   rw [AF6 _ _ (by rw [Array.length_toList,hcb];rfl)] at k9
   refine .nil (.inl O) (.ret ?_)
   simp only [Array.toArray_toList] at k8 k9
   refine fin2 (u9.below (u8.below (x4.trans e57) (by omega)) (by omega)) (k8.upd u9 (Ne.symm hne23)) k9 ((hA.upd u8 hS2).upd u9 hS3) ((hB.upd u8 hS2).upd u9 hS3) ?_ ?_ O rfl
   ·unfold pn;rw [if_pos h1]
   ·unfold pd;rw [if_neg h0,if_pos h1]
  ·have hs1:(zval q.den).sign ≠ -1:=by rw [Int.sign_eq_one_of_pos (by omega)];decide
   refine .eqlF O O O hs1 (.an O O (.condF O (.skip (.seq ?_))))
   refine .held follows true (fun W=>Blk W b1 54 #[.bool q.num.neg,s,.bool q.den.neg,t]) [some _,some (.agg #[.bool q.num.neg,s]),some _,some (.agg #[.bool q.den.neg,t]),none,none] (by kernel_rfl) ⟨
    fun _ _=>v_fa S4 rfl,
    fun _ h=>AM0 [.bool q.num.neg,s] ty_Z rfl h (by intro j u hu;match j with | 0=>exact hu | 1=>exact hu | j+2=>simp at hu),
    fun _ _=>v_fa S3 rfl,
    fun _ h=>AM0 [.bool q.den.neg,t] ty_Z rfl h (by intro j u hu;match j with | 0=>exact hu | 1=>exact hu | j+2=>simp at hu),trivial⟩ ?_
   intro w7 e57 _
   have hA:(eZn L).R T w7 (.agg #[.bool q.num.neg,s]) (zval q.num):=⟨q.num,hn4.ext e57,rfl,hl.1⟩
   have hB:(eZn L).R T w7 (.agg #[.bool q.den.neg,t]) (zval q.den):=⟨q.den,hd4.ext e57,rfl,hl.2⟩
   have hca:=(eZn L).csz hA
   have hcb:=(eZn L).csz hB
   refine .gv (k1.ext e57) O (J0 ty_Z O O (k2.ext e57) hca (Nat.le_refl _) ((eZn L).one hA)) ?_
   rintro _ w8 ⟨k8,u8⟩
   rw [AF6 _ _ (by rw [Array.length_toList,hca];rfl)] at k8
   refine .gv ((k1.ext e57).upd u8 hne21) O (J0 ty_Z O O ((k3.ext e57).upd u8 hne23) hcb (Nat.le_refl _) ((eZn L).one hB)) ?_
   rintro _ w9 ⟨k9,u9⟩
   rw [AF6 _ _ (by rw [Array.length_toList,hcb];rfl)] at k9
   refine .nil (.inl O) (.ret ?_)
   simp only [Array.toArray_toList] at k8 k9
   refine fin2 (u9.below (u8.below (x4.trans e57) (by omega)) (by omega)) (k8.upd u9 (Ne.symm hne23)) k9 ((hA.upd u8 hS2).upd u9 hS3) ((hB.upd u8 hS2).upd u9 hS3) ?_ ?_ O rfl
   ·unfold pn;rw [if_neg h1]
   ·unfold pd;rw [if_neg h0,if_neg h1]
def shortB (q:QV):Bool:=decide (-2147483648<zval q.num/\zval q.num<2147483648 /\ -2147483648<zval q.den/\zval q.den<2147483648)
def shortV (q:QV):Value:=if shortB q then .tuple #[.int .i64 (pn q),.int .i64 (pd q),.bool true] else .tuple #[.int .i64 0,.int .i64 0,.bool false]
theorem D6:Ent Tryz.prog 105:=A0 Tryz.func105 (by kernel_rfl) rfl
theorem D5 {S:Nat->Prop} {w:World} {v:Value} {q:QV} (h:eQ.R S w v q):CR Tryz.prog 105 #[v] w (Is (shortV q)):=by
 obtain ⟨s,t,rfl,hn,hd⟩:=R6 h
 refine enter Tryz.func105 O Tryz.ntmps105 O ?_
 refine .sr (.box O O fun w1 b1 n1=>.asg O O (.asg O O (.an O O ?_)))
 obtain ⟨e1,k1,hb1,hs1⟩:=n1
 refine .sr (.fa S4 O O (.ldN [.bool q.num.neg,s] ty_Z rfl rfl k1 (by intro j u hu;match j with | 0=>exact hu | 1=>exact hu | j+2=>simp at hu) ?_))
 refine .call _ O H4 O (H2 (hn.ext e1)) fun v2 w2 e2 h2=>?_
 subst h2
 refine .mv O O (.ext O O O (.ext O O O (.asg O O (.an O O ?_))))
 have x2:=e1.trans e2
 refine .sr (.fa S3 O O (.ldN [.bool q.den.neg,t] ty_Z rfl rfl (k1.ext e2) (by intro j u hu;match j with | 0=>exact hu | 1=>exact hu | j+2=>simp at hu) ?_))
 refine .call _ O H4 O (H2 (hd.ext x2)) fun v3 w3 e3 h3=>?_
 subst h3
 refine .mv O O (.ext O O O (.ext O O O (.asg O O (.an O O ?_))))
 have x3:=x2.trans e3
 have hF:∀ {W:World},shortB q=false->Is (shortV q) (tup [.int .i64 0,.int .i64 0,.bool false]) W:=by
  intro W h;unfold shortV;rw [h];rfl
 refine .seq (.sr (.mv O O (.not_ O O (.mv O O ?_))))
 by_cases hno:i64ok (zval q.num)=true
 ·rw [hno]
  refine .gr O O O O (.mv O O (.gr O O O O (.not_ O O (.pick O O O (.mv O O ?_)))))
  by_cases hdo:i64ok (zval q.den)=true
  ·rw [hdo]
   have en:i64v (zval q.num)=zval q.num:=by rw [i64v,hno];rfl
   have ed:i64v (zval q.den)=zval q.den:=by rw [i64v,hdo];rfl
   rw [en,ed]
   refine .gr O O O O (.mv O O (.gr O O O O ?_))
   by_cases h1:zval q.num <= -2147483648
   ·refine .leqT O O O h1 (.pick O O O (.mv O O (.gs O O O O O (.gs O O O O O (.pick O O O (.mv O O (.gs O O O O O (.gs O O O O O (.pick O O O (.mv O O (.gs O O O O O (.gs O O O O O (.pick O O O (.nil (.condT O (.sr (.asg O O (.asg O O (.an O O (.ret ?_))))))))))))))))))))
    exact .plain [_,_,_] Tryz.results105 ⟨rfl,rfl,rfl,trivial⟩ ⟨x3,hF (by simp [shortB];omega)⟩
   refine .leqF O O O h1 (.pick O O O (.mv O O (.gr O O O O (.mv O O (.gr O O O O ?_)))))
   by_cases h2:2147483648<=zval q.num
   ·refine .geqT O O O h2 (.pick O O O (.mv O O (.gs O O O O O (.gs O O O O O (.pick O O O (.mv O O (.gs O O O O O (.gs O O O O O (.pick O O O (.nil (.condT O (.sr (.asg O O (.asg O O (.an O O (.ret ?_))))))))))))))))
    exact .plain [_,_,_] Tryz.results105 ⟨rfl,rfl,rfl,trivial⟩ ⟨x3,hF (by simp [shortB];omega)⟩
   refine .geqF O O O h2 (.pick O O O (.mv O O (.gr O O O O (.mv O O (.gr O O O O ?_)))))
   by_cases h3:zval q.den <= -2147483648
   ·refine .leqT O O O h3 (.pick O O O (.mv O O (.gs O O O O O (.gs O O O O O (.pick O O O (.nil (.condT O (.sr (.asg O O (.asg O O (.an O O (.ret ?_))))))))))))
    exact .plain [_,_,_] Tryz.results105 ⟨rfl,rfl,rfl,trivial⟩ ⟨x3,hF (by simp [shortB];omega)⟩
   refine .leqF O O O h3 (.pick O O O (.mv O O (.gr O O O O (.mv O O (.gr O O O O ?_)))))
   by_cases h4:2147483648<=zval q.den
   ·refine .geqT O O O h4 (.pick O O O (.nil (.condT O (.sr (.asg O O (.asg O O (.an O O (.ret ?_))))))))
    exact .plain [_,_,_] Tryz.results105 ⟨rfl,rfl,rfl,trivial⟩ ⟨x3,hF (by simp [shortB];omega)⟩
   refine .geqF O O O h4 (.pick O O O (.nil (.condF O (.skip ?_))))
   have hb:shortB q=true:=by simp [shortB];omega
   have hT:∀ {W:World} {m n:Int},m=pn q->n=pd q->Is (shortV q) (tup [.int .i64 m,.int .i64 n,.bool true]) W:=by
    intro W m n hm hn;subst hm;subst hn;unfold shortV;rw [hb];rfl
   refine .mid (α:=Unit) (fun _=>[(2,.int .i64 (pn q)),(3,.int .i64 (pd q))]) (fun _ W=>W=w3) ?_ ?_
   ·refine .block (.sr (.mv O O ?_))
    by_cases h0:zval q.den=0
    ·refine .eqlT O O O h0 (.an O O (.condT O (.region (.an O O ?_))))
     have e1:pn q=zval q.num:=by unfold pn;rw [if_neg (by omega)]
     have e2:pd q=1:=by unfold pd;rw [if_pos h0]
     rw [e1,e2]
     exact ⟨rfl,(),lkA rfl,rfl⟩
    ·refine .eqlF O O O h0 (.an O O (.condF O (.sr (.mv O O ?_))))
     by_cases h5:zval q.den<0
     ·refine .lssT O O O h5 (.an O O (.condT O (.region (.mv O O (.neg O O (.mv O O (.neg O O (.asg O O (.an O O ?_))))))))) 
      have e1:pn q = -zval q.num:=by unfold pn;rw [if_pos h5]
      have e2:pd q = -zval q.den:=by unfold pd;rw [if_neg h0,if_pos h5]
      rw [e1,e2,wI (n:=0-zval q.num) (by omega),wI (n:=0-zval q.den) (by omega),Int.zero_sub,Int.zero_sub]
      exact ⟨rfl,(),lkA rfl,rfl⟩
     ·refine .lssF O O O h5 (.an O O (.condF O (.skip ?_)))
      have e1:pn q=zval q.num:=by unfold pn;rw [if_neg h5]
      have e2:pd q=zval q.den:=by unfold pd;rw [if_neg h0,if_neg h5]
      rw [e1,e2]
      exact ⟨rfl,(),lkA rfl,rfl⟩
   ·rintro _ _ rfl
    refine .sr (.mv O O (.mv O O (.asg O O (.asg O O (.an O O (.ret ?_))))))
    exact .plain [_,_,_] Tryz.results105 ⟨rfl,rfl,rfl,trivial⟩ ⟨x3,hT O rfl⟩
  ·have hdo':i64ok (zval q.den)=false:=by simpa using hdo
   rw [hdo']
   refine .gs O O O O O (.gs O O O O O (.pick O O O (.mv O O (.gs O O O O O (.gs O O O O O (.pick O O O (.mv O O (.gs O O O O O (.gs O O O O O (.pick O O O (.mv O O (.gs O O O O O (.gs O O O O O (.pick O O O (.nil (.condT O (.sr (.asg O O (.asg O O (.an O O (.ret ?_)))))))))))))))))))))
   exact .plain [_,_,_] Tryz.results105 ⟨rfl,rfl,rfl,trivial⟩ ⟨x3,hF (by simp [i64ok] at hdo';simp [shortB];omega)⟩
 ·have hno':i64ok (zval q.num)=false:=by simpa using hno
  rw [hno']
  refine .gs O O O O O (.gs O O O O O (.pick O O O (.mv O O (.gs O O O O O (.gs O O O O O (.pick O O O (.mv O O (.gs O O O O O (.gs O O O O O (.pick O O O (.mv O O (.gs O O O O O (.gs O O O O O (.pick O O O (.mv O O (.gs O O O O O (.gs O O O O O (.pick O O O (.nil (.condT O (.sr (.asg O O (.asg O O (.an O O (.ret ?_)))))))))))))))))))))))))
  exact .plain [_,_,_] Tryz.results105 ⟨rfl,rfl,rfl,trivial⟩ ⟨x3,hF (by simp [i64ok] at hno';simp [shortB];omega)⟩
theorem Aj6 {n g:Int} (h:g∣n):n.tdiv g=n / g:=Int.tdiv_eq_ediv_of_dvd h
theorem X7 (n g:Int):(n / g).natAbs<=n.natAbs:=Int.natAbs_ediv_le_natAbs n g
theorem K5:Ent Tryz.prog 106:=A0 Tryz.func106 (by kernel_rfl) rfl
theorem K3 {S:Nat->Prop} {w:World} {n d:Int} (up:Up S w) (hd:0<d) (hd2:d<=9223372036854775807) (hn1 : -9223372036854775807<=n) (hn2:n<=9223372036854775807) :
  CR Tryz.prog 106 #[.int .i64 n,.int .i64 d] w (eQ.at S (qc (Rat.divInt n d))):=by
 have hdvd1:((Nat.gcd n.natAbs d.natAbs:Nat):Int)∣n:=Int.ofNat_dvd_left.2 (Nat.gcd_dvd_left _ _)
 have hdvd2:((Nat.gcd n.natAbs d.natAbs:Nat):Int)∣d:=Int.ofNat_dvd_left.2 (Nat.gcd_dvd_right _ _)
 have hG0:0<Nat.gcd n.natAbs d.natAbs:=Nat.gcd_pos_of_pos_right _ (by omega)
 have hGd:Nat.gcd n.natAbs d.natAbs<=d.natAbs:=Nat.gcd_le_right _ (by omega)
 have hqc:=AQ5 (n:=n) hd
 refine enter Tryz.func106 O Tryz.ntmps106 O ?_
 refine .sr (.alloc O D2 fun w1 b1 n1=>.nil ?_)
 obtain ⟨e1,k1,hb1,hs1⟩:=n1
 have hS:¬ Sx S w.heap.size w1.heap.size b1:=Sx.no (by omega) (by omega)
 have up1:Up (Sx S w.heap.size w1.heap.size) w1:=Sx.up up (Nat.le_refl _) e1.size
 have hout:∀ {W:World} {v:Value} {z:QV},eQ.R (Sx S w.heap.size w1.heap.size) W v z->eQ.R S W v z:=fun h=>h.out
 generalize hT:Sx S w.heap.size w1.heap.size=T at *
 refine .sr (.mv O O (.mv O O (.asg O O (.an O O ?_))))
 refine .mid (α:=Int) (fun m=>[(0,.int .i64 n),(1,.int .i64 d),(4,.pointer (some ⟨b1,0,none⟩)),(5,.int .i64 m)]) (fun m W=>Ext w1 W/\m.natAbs=Nat.gcd n.natAbs d.natAbs) ?_ ?_
 ·refine .block (.loop (α:=Int×Int) (fun x=>[(0,.int .i64 n),(1,.int .i64 d),(4,.pointer (some ⟨b1,0,none⟩)),(5,.int .i64 x.1),(6,.int .i64 x.2)]) (fun x W=>Ext w1 W/\Nat.gcd x.1.natAbs x.2.natAbs=Nat.gcd n.natAbs d.natAbs) (fun x=>x.2.natAbs) (n,d) ?_ ?_ ?_)
  ·exact lkA rfl
  ·exact ⟨.refl _,rfl⟩
  ·rintro ⟨p,q⟩ W ⟨hW,hg⟩
   replace hg:Nat.gcd p.natAbs q.natAbs=Nat.gcd n.natAbs d.natAbs:=hg
   by_cases hq:q=0
   ·subst hq
    refine .seq (.sr (.mv O O (.neqF O O O O (.nil (.condF O (.exit ?_))))))
    refine ⟨rfl,p,lkA rfl,hW,?_⟩
    rw [<-hg];simp
   ·refine .seq (.sr (.mv O O (.neqT O O O hq (.nil (.condT O (.skip (.block ?_)))))))
    refine .par follows 5 [.inl (.int .i64 q),.inl (.int .i64 p),.inl (.int .i64 q),.inl (.int .i64 (p.tmod q)),.inl (.int .i64 q)] [[],[],[],[(12,1),(13,2)],[(11,0)]] (by kernel_rfl) ⟨
     fun w e=>(v_mv O).ob,
     fun w e=>(v_mv O).ob,
     fun w e=>(v_mv O).ob,
     fun w e=>(AX8 O O hq).ob,
     fun w e=>(v_as O).ob,trivial⟩ ?_
    intro w2 e2
    refine .an O O ?_
    have hmod:(p.tmod q).natAbs=p.natAbs % q.natAbs:=Int.natAbs_tmod p q
    refine ⟨rfl,(q,p.tmod q),lkA rfl,⟨hW.trans e2,?_⟩,?_⟩
    ·show Nat.gcd q.natAbs (p.tmod q).natAbs=_
     rw [hmod,<-hg,Nat.gcd_comm p.natAbs,Nat.gcd_rec q.natAbs p.natAbs,Nat.gcd_comm]
    ·show (p.tmod q).natAbs<q.natAbs
     rw [hmod];exact Nat.mod_lt _ (by omega)
 ·rintro m W ⟨hW,hm⟩
  generalize hG:Nat.gcd n.natAbs d.natAbs=G at *
  refine .mid (α:=Unit) (fun _=>[(0,.int .i64 n),(1,.int .i64 d),(4,.pointer (some ⟨b1,0,none⟩)),(5,.int .i64 (G:Nat))]) (fun _ W'=>W'=W) ?_ ?_
  ·refine .sr (.mv O O ?_)
   by_cases h0:m<0
   ·refine .lssT O O O h0 (.nil (.condT O (.region (.mv O O (.neg O O ?_)))))
    rw [wI (n:=0-m) (by omega),show 0-m=(G:Int) by omega]
    exact .an O O ⟨rfl,(),lkA rfl,rfl⟩
   ·refine .lssF O O O h0 (.nil (.condF O (.skip ?_)))
    have:m=(G:Int):=by omega
    subst this
    exact ⟨rfl,(),lkA rfl,rfl⟩
  ·rintro _ _ rfl
   have upW:=up1.ext hW.size
   have kW:=k1.ext hW
   have hr1:IntKind.i64.wrap (n.tdiv (G:Int))=n / (G:Int):=by
    rw [Aj6 hdvd1]
    have:=X7 n G
    exact wI (by omega)
   have hr2:IntKind.i64.wrap (d.tdiv (G:Int))=d / (G:Int):=by
    rw [Aj6 hdvd2]
    have:=X7 d G
    exact wI (by omega)
   have hb1:=X7 n G
   have hb2:=X7 d G
   have hdG:G*(d / (G:Int))=d:=Int.mul_ediv_cancel' hdvd2
   refine .seq (.sr (.mv O O (.mv O O ?_)))
   by_cases hGd':(G:Int)=d
   ·refine .eqlT O O O hGd' (.nil (.condT O (.sr (.mv O O (.mv O O (.quo O O O (by omega) ?_))))))
    rw [hr1]
    refine .call _ O C8 O (C7 upW (by omega) (by omega)) fun v2 w2 e2 h2=>?_
    obtain ⟨s,rfl,hs⟩:=h2
    refine .bld _ O O Ah4 ?_
    have hq:eQ.R T w2 (.agg #[.bool (zc (n / (G:Int))).neg,s,.bool false,.slice none 0 0]) (qc (Rat.divInt n d)):=by
     rw [hqc,if_pos (by rw [hGd'];exact Int.ediv_self (by omega))]
     exact ⟨s,_,rfl,hs,RL.nil⟩
    refine .storeA (E:=eQ) ty_Q O O (kW.ext e2) O O hq hS fun w3 k3 u3 h3=>.nil (.ret ?_)
    exact .cell Tryz.results106 O ty_Q O O k3 h3 ⟨u3.below ((e1.trans hW).trans e2) (by omega),hout h3⟩
   ·refine .eqlF O O O hGd' (.nil (.condF O (.skip (.seq ?_))))
    have hne1:¬ d / (G:Int)=1:=fun h=>hGd' (by rw [h,Int.mul_one] at hdG;exact hdG)
    refine .par follows 9 [.inl _,.inl _,.inl (.int .i64 (n / (G:Int))),.inr (eZ.at T (zc (n / (G:Int)))),.inl _,.inl _,.inl (.int .i64 (d / (G:Int))),.inr (eZ.at T (zc (d / (G:Int)))),.inr (eQ.at T (qc (Rat.divInt n d)))] [[],[],[(27,0),(28,1)],[(29,2)],[],[],[(31,4),(32,5)],[(33,6)],[(30,3),(34,7)]] (by kernel_rfl) ⟨
     fun w e=>(v_mv O).ob,
     fun w e=>(v_mv O).ob,
     fun w e=>((AX9 O O (by omega)).eq (by rw [hr1])).ob,
     fun w e=>(A4 _ C8 O (C7 (upW.ext e.size) (by omega) (by omega))).ob (A8 _ _ _),
     fun w e=>(v_mv O).ob,
     fun w e=>(v_mv O).ob,
     fun w e=>((AX9 O O (by omega)).eq (by rw [hr2])).ob,
     fun w e=>(A4 _ C8 O (C7 (upW.ext e.size) (by omega) (by omega))).ob (A8 _ _ _),
     fun w e x3 hx3 x7 hx7=>by
      obtain ⟨s,rfl,hs⟩:=hx3
      obtain ⟨t,rfl,ht⟩:=hx7
      refine AA3 (BD0 _ O Aa5) ?_ (A8 _ _ _)
      rw [hqc,if_neg hne1]
      exact ⟨s,t,rfl,hs,ht⟩,trivial⟩ ?_
    intro w2 e2 x3 hx3 x7 hx7 x8 hx8
    refine .storeA (E:=eQ) ty_Q O O (kW.ext e2) O O hx8 hS fun w3 k3 u3 h3=>.nil (.ret ?_)
    exact .cell Tryz.results106 O ty_Q O O k3 h3 ⟨u3.below ((e1.trans hW).trans e2) (by omega),hout h3⟩
theorem Ap1 {m n:Int} (hn:n≠0):zval (zc ((Nat.gcd m.natAbs n.natAbs:Nat):Int))≠0:=by
 rw [F1]
 have:=Nat.gcd_pos_of_pos_right m.natAbs (show 0<n.natAbs by omega)
 omega
theorem Z6:Ent Tryz.prog 168:=A0 Tryz.func168 (by kernel_rfl) rfl
theorem Z0 {S T0:Nat->Prop} {w:World} {vm vn:Value} {m n:Int} {L:Nat} (up:Up S w) (upo:Up T0 w) (hm:Zv S m L vm w) (hn:Zv S n L vn w) (hn0:n≠0) (hL:L<=1000000000000) :
  CR Tryz.prog 168 #[vm,vn] w (eQ.at T0 (qc (Rat.divInt m n))):=by
 replace hm:(eZn L).R S w vm m:=hm
 replace hn:(eZn L).R S w vn n:=hn
 refine enter Tryz.func168 O Tryz.ntmps168 O ?_
 refine .sr (.box O O fun w1 b2 n1=>.box O O fun w2 b3 n2=>.alloc O D2 fun w3 b4 n3=>.nil ?_)
 obtain ⟨e1,k2,hb2,hs1⟩:=n1
 obtain ⟨e2,k3,hb3,hs2⟩:=n2
 obtain ⟨e3,k4,hb4,hs3⟩:=n3
 have x3:=(e1.trans e2).trans e3
 have k2:=(k2.ext e2).ext e3
 have k3:=k3.ext e3
 have hS2:¬ Sx S w.heap.size w3.heap.size b2:=Sx.no (by omega) (by omega)
 have hS3:¬ Sx S w.heap.size w3.heap.size b3:=Sx.no (by omega) (by omega)
 have hS4:¬ Sx S w.heap.size w3.heap.size b4:=Sx.no (by omega) (by omega)
 have up3:Up (Sx S w.heap.size w3.heap.size) w3:=Sx.up up (Nat.le_refl _) x3.size
 have hm3:=(hm.par w3.heap.size).ext x3
 have hn3:=(hn.par w3.heap.size).ext x3
 have hU2:¬ Sx T0 w.heap.size w3.heap.size b2:=Sx.no (by omega) (by omega)
 have hU3:¬ Sx T0 w.heap.size w3.heap.size b3:=Sx.no (by omega) (by omega)
 have hU4:¬ Sx T0 w.heap.size w3.heap.size b4:=Sx.no (by omega) (by omega)
 have upo3:Up (Sx T0 w.heap.size w3.heap.size) w3:=Sx.up upo (Nat.le_refl _) x3.size
 have hout:∀ {W:World} {v:Value} {z:QV},eQ.R (Sx T0 w.heap.size w3.heap.size) W v z->eQ.R T0 W v z:=fun h=>h.out
 have hne32:b3≠b2:=by omega
 have hne42:b4≠b2:=by omega
 have hne43:b4≠b3:=by omega
 have hw2:w.heap.size<=b2:=by omega
 have hw3:w.heap.size<=b3:=by omega
 have hw4:w.heap.size<=b4:=by omega
 have hc2:b2<w3.heap.size:=by omega
 have hc3:b3<w3.heap.size:=by omega
 have hc4:b4<w3.heap.size:=by omega
 clear hb2 hb3 hb4
 generalize hT:Sx S w.heap.size w3.heap.size=T at *
 generalize hU:Sx T0 w.heap.size w3.heap.size=U at *
 refine .mid (α:=(Value×Int)×(Value×Int)) (fun _=>[(2,.pointer (some ⟨b2,0,none⟩)),(3,.pointer (some ⟨b3,0,none⟩)),(4,.pointer (some ⟨b4,0,none⟩))])
  (fun x W=>Below w.heap.size w W/\w3.heap.size<=W.heap.size/\Blk W b2 52 x.1.1.cells/\Blk W b3 52 x.2.1.cells/\Blk W b4 54 #[.bool false,.slice none 0 0,.bool false,.slice none 0 0]/\(eZn L).R T W x.1.1 x.1.2/\(eZn L).R T W x.2.1 x.2.2/\0<x.2.2/\Rat.divInt x.1.2 x.2.2=Rat.divInt m n) ?_ ?_
 ·obtain ⟨zn,hzn,hznv,hznl⟩:=hn3
  obtain ⟨zm,hzm,hzmv,hzml⟩:=hm3
  have hvn:=shpA O hzn
  have hvm:=shpA O hzm
  refine .sr (.ldA ty_Z O O k3 (eZ.csz hzn) ?_)
  rw [<-hvn]
  refine .call _ O O4 O (M4 hzn) fun v4 w4 e4 h4=>?_
  subst h4
  rw [hznv]
  have x4:=x3.trans e4
  have k2:=k2.ext e4
  have k3:=k3.ext e4
  have k4:=k4.ext e4
  have up4:=up3.ext e4.size
  have hzn4:=hzn.ext e4
  have hzm4:=hzm.ext e4
  have hdn:=AF1 hzn
  have hdm:=AF1 hzm
  by_cases h0:n<0
  ·refine .lssT O O O (by rw [Int.sign_eq_neg_one_of_neg h0];decide) (.nil (.condT O ?_))
   refine .par follows 4 [.inl vm,.inr (eZ.at T (zc (-zval zm))),.inl vn,.inr (eZ.at T (zc (-zval zn)))] [[],[(11,0)],[],[(13,2)]] (by kernel_rfl) ⟨
    fun w e=>((C3 ty_Z O (k2.ext e) (eZ.csz hzm)).eq hvm.symm).ob,
    fun w e=>(A4 _ R9 O (Q6 (up4.ext e.size) (hzm4.ext e) (by omega))).ob (A8 _ _ _),
    fun w e=>((C3 ty_Z O (k3.ext e) (eZ.csz hzn)).eq hvn.symm).ob,
    fun w e=>(A4 _ R9 O (Q6 (up4.ext e.size) (hzn4.ext e) (by omega))).ob (A8 _ _ _),trivial⟩ ?_
   intro w5 e5 x1 hx1 x3' hx3
   have hA:(eZn L).R T w5 x1 (-m):=by rw [<-hzmv];exact Zv.of hx1 (by have:=P8 hdm hzml;omega)
   have hB:(eZn L).R T w5 x3' (-n):=by rw [<-hznv];exact Zv.of hx3 (by have:=P8 hdn hznl;omega)
   refine .storeA (E:=eZn L) ty_Z O O (k2.ext e5) O (eZ.csz hzm) hA hS2 fun w6 k6 u6 h6=>?_
   refine .storeA (E:=eZn L) ty_Z O O ((k3.ext e5).upd u6 hne32) O (eZ.csz hzn) (hB.upd u6 hS2) hS3 fun w7 k7 u7 h7=>.nil ?_
   refine ⟨rfl,((x1,-m),(x3',-n)),lkA rfl,u7.below (u6.below (x4.trans e5) hw2) hw3,?_,k6.upd u7 (Ne.symm hne32),k7,((k4.ext e5).upd u6 hne42).upd u7 hne43,h6.upd u7 hS3,h7,by show 0 < -n;omega,Rat.neg_divInt_neg m n⟩
   rw [u7.size,u6.size];exact (e4.trans e5).size
  ·refine .lssF O O O (by rw [Int.sign_eq_one_of_pos (by omega)];decide) (.nil (.condF O (.skip ?_)))
   exact ⟨rfl,((vm,m),(vn,n)),lkA rfl,x4,e4.size,k2,k3,k4,⟨zm,hzm4,hzmv,hzml⟩,⟨zn,hzn4,hznv,hznl⟩,by show 0<n;omega,rfl⟩
 ·rintro ⟨⟨um,m'⟩,⟨un,n'⟩⟩ W ⟨hB,hsz,k2,k3,k4,hm,hn,hpos,hdiv⟩
  replace hm:(eZn L).R T W um m':=hm
  replace hn:(eZn L).R T W un n':=hn
  replace hpos:0<n':=hpos
  replace hdiv:Rat.divInt m' n'=Rat.divInt m n:=hdiv
  rw [<-hdiv]
  replace k2:Blk W b2 52 um.cells:=k2
  replace k3:Blk W b3 52 un.cells:=k3
  have upW:=up3.ext hsz
  have upoW:=upo3.ext hsz
  obtain ⟨zn,hzn,hznv,hznl⟩:=hn
  obtain ⟨zm,hzm,hzmv,hzml⟩:=hm
  have hvn:=shpA O hzn
  have hvm:=shpA O hzm
  have hdn:=AF1 hzn
  have hdm:=AF1 hzm
  refine .sr (.ldA ty_Z O O k2 (eZ.csz hzm) (.ldA ty_Z O O k3 (eZ.csz hzn) ?_))
  rw [<-hvn,<-hvm]
  refine .call _ O An5 O (Ai8 upW hzm hzn (by omega) (by omega)) fun vg w5 e5 h5=>?_
  have hgv:Nat.gcd (val zm.w) (val zn.w)=Nat.gcd m'.natAbs n'.natAbs:=by rw [<-H8,<-H8,hzmv,hznv]
  rw [hgv] at h5
  have hgl:(zc ((Nat.gcd m'.natAbs n'.natAbs:Nat):Int)).w.length<=L:=by
   refine M3 ?_
   have h1:=Nat.gcd_le_right m'.natAbs (show 0<n'.natAbs by omega)
   have h2:=P8 hdn hznl
   rw [hznv] at h2
   simp only [Int.natAbs_natCast]
   omega
  refine .alloc O B8 fun w6 b5 n6=>?_
  obtain ⟨e6,k6,hb5,hs6⟩:=n6
  have e56:=e5.trans e6
  have hS5':¬ Sx T w5.heap.size w6.heap.size b5:=Sx.no (by omega) (by omega)
  have h5':=(h5.par w6.heap.size).ext e6
  have hzm6:=((hzm.ext e5).par w6.heap.size).ext e6
  have hzn6:=((hzn.ext e5).par w6.heap.size).ext e6
  have hS2':¬ Sx T w5.heap.size w6.heap.size b2:=fun h=>hS2 h.1
  have hS3':¬ Sx T w5.heap.size w6.heap.size b3:=fun h=>hS3 h.1
  have hU2':¬ Sx U w5.heap.size w6.heap.size b2:=fun h=>hU2 h.1
  have hU3':¬ Sx U w5.heap.size w6.heap.size b3:=fun h=>hU3 h.1
  have hU4':¬ Sx U w5.heap.size w6.heap.size b4:=fun h=>hU4 h.1
  have upo6:Up (Sx U w5.heap.size w6.heap.size) w6:=Sx.up (upoW.ext e5.size) (Nat.le_refl _) e6.size
  have hout':∀ {W:World} {v:Value} {z:QV},eQ.R (Sx U w5.heap.size w6.heap.size) W v z->eQ.R T0 W v z:=fun h=>hout h.out
  have up6:Up (Sx T w5.heap.size w6.heap.size) w6:=Sx.up (upW.ext e5.size) (Nat.le_refl _) e6.size
  have hB6:Below w.heap.size w w6:=hB.trans (e56.mono hB.size)
  have hn52:b5≠b2:=by have:=e5.size;omega
  have hn53:b5≠b3:=by have:=e5.size;omega
  have hn54:b5≠b4:=by have:=e5.size;omega
  have hw5:w.heap.size<=b5:=by have:=hB.size;have:=e5.size;omega
  generalize hT2:Sx T w5.heap.size w6.heap.size=T2 at *
  generalize hUU:Sx U w5.heap.size w6.heap.size=U2 at *
  refine .storeA ty_Z O O k6 O O h5' hS5' fun w7 k7 u7 h7=>.nil ?_
  have up7:Up T2 w7:=up6.ext (by rw [u7.size];exact Nat.le_refl _)
  have upo7:Up U2 w7:=upo6.ext (by rw [u7.size];exact Nat.le_refl _)
  have hB7:=u7.below hB6 hw5
  have hzm7:=hzm6.upd u7 hS5'
  have hzn7:=hzn6.upd u7 hS5'
  have k2:=(k2.ext e56).upd u7 (Ne.symm hn52)
  have k3:=(k3.ext e56).upd u7 (Ne.symm hn53)
  have k4:=(k4.ext e56).upd u7 (Ne.symm hn54)
  have hvg:=shpA O h7
  have hg0:=Ap1 (m:=m') (n:=n') (by omega)
  generalize hG:Nat.gcd m'.natAbs n'.natAbs=G at *
  refine .sr (.ldA ty_Z O O k2 (eZ.csz hzm) (.ldA ty_Z O O k7 (eZ.csz h7) ?_))
  rw [<-hvm,<-hvg]
  refine .call _ O AF3 O (AD4 up7 upo7 hzm7 h7 (by omega) (by omega) hg0) fun v8 w8 e8 h8=>?_
  obtain ⟨qm,rm,_,rfl,hqm,_,rfl⟩:=h8
  refine .mv O O (.ext O O O (.ext O O O (.ext O O O ?_)))
  rw [hzmv,F1] at hqm
  refine .storeA (E:=eZ) ty_Z O O (k2.ext e8) O (eZ.csz hzm) hqm hU2' fun w9 k9 u9 h9=>.nil ?_
  have up9:Up T2 w9:=(up7.ext e8.size).ext (by rw [u9.size];exact Nat.le_refl _)
  have upo9:Up U2 w9:=(upo7.ext e8.size).ext (by rw [u9.size];exact Nat.le_refl _)
  have hB9:Below w.heap.size w w9:=u9.below (hB7.trans (e8.mono hB7.size)) hw2
  have k3:=(k3.ext e8).upd u9 hne32
  have k5:=(k7.ext e8).upd u9 hn52
  have k4:=(k4.ext e8).upd u9 hne42
  have hg9:=(h7.ext e8).upd u9 hS2'
  have hzn9:=(hzn7.ext e8).upd u9 hS2'
  refine .sr (.ldA ty_Z O O k3 (eZ.csz hzn) (.ldA ty_Z O O k5 (eZ.csz h7) ?_))
  rw [<-hvn,<-hvg]
  refine .call _ O AF3 O (AD4 up9 upo9 hzn9 hg9 (by omega) (by omega) hg0) fun v10 w10 e10 h10=>?_
  obtain ⟨qn,rn,_,rfl,hqn,_,rfl⟩:=h10
  refine .mv O O (.ext O O O (.ext O O O (.ext O O O ?_)))
  rw [hznv,F1] at hqn
  refine .storeA (E:=eZ) ty_Z O O (k3.ext e10) O (eZ.csz hzn) hqn hU3' fun w11 k11 u11 h11=>.nil ?_
  have hB11:Below w.heap.size w w11:=u11.below (hB9.trans (e10.mono hB9.size)) hw3
  have k9:=(k9.ext e10).upd u11 (Ne.symm hne32)
  have k4:=(k4.ext e10).upd u11 hne43
  have h9:=(h9.ext e10).upd u11 hU3'
  have hqc:=AQ5 (n:=m') hpos
  rw [hG] at hqc
  have hvqm:=shpA O h9
  have hvqn:=shpA O h11
  refine .mid (α:=Value) (fun _=>[(2,.pointer (some ⟨b2,0,none⟩)),(3,.pointer (some ⟨b3,0,none⟩)),(4,.pointer (some ⟨b4,0,none⟩))])
   (fun x W=>Below w.heap.size w W/\Blk W b2 52 qm.cells/\Blk W b3 52 x.cells/\Blk W b4 54 #[.bool false,.slice none 0 0,.bool false,.slice none 0 0]/\eZ.R U2 W qm (zc (m' / (G:Int)))/\eZ.R U2 W x (if n' / (G:Int)=1 then ⟨false,[]⟩ else zc (n' / (G:Int)))) ?_ ?_
  ·refine .sr (.ldA ty_Z O O k11 (eZ.csz h11) ?_)
   rw [<-hvqn]
   refine .call _ O H4 O (H2 h11) fun v12 w12 e12 h12=>?_
   subst h12
   refine .mv O O (.ext O O O (.ext O O O (.asg O O (.an O O ?_))))
   rw [F1]
   have hB12:Below w.heap.size w w12:=hB11.trans (e12.mono hB11.size)
   refine .sr (.mv O O (.mv O O ?_))
   have hno:∀ {σ:Env},(∀ t v,Kx.look [(2,.pointer (some ⟨b2,0,none⟩)),(3,.pointer (some ⟨b3,0,none⟩)),(4,.pointer (some ⟨b4,0,none⟩))] t=some v->Kx.look σ t=some v)->n' / (G:Int)≠1->(([]:List Deferred)=[]/\∃ x:Value,(∀ t v,Kx.look [(2,.pointer (some ⟨b2,0,none⟩)),(3,.pointer (some ⟨b3,0,none⟩)),(4,.pointer (some ⟨b4,0,none⟩))] t=some v->Kx.look σ t=some v) /\
     Below w.heap.size w w12/\Blk w12 b2 52 qm.cells/\Blk w12 b3 52 x.cells/\Blk w12 b4 54 #[.bool false,.slice none 0 0,.bool false,.slice none 0 0]/\eZ.R U2 w12 qm (zc (m' / (G:Int)))/\eZ.R U2 w12 x (if n' / (G:Int)=1 then ⟨false,[]⟩ else zc (n' / (G:Int)))):=by
    intro σ hσ h1
    refine ⟨rfl,qn,hσ,hB12,k9.ext e12,k11.ext e12,k4.ext e12,h9.ext e12,?_⟩
    rw [if_neg h1];exact h11.ext e12
   cases hok:i64ok (n' / (G:Int)) with
   | false =>
    refine .gs O O O O O (.gs O O O O O (.pick O O O (.nil (.condF O (.skip (hno (lkA O) ?_))))))
    intro h;rw [h] at hok;simp [i64ok] at hok
   | true =>
    have ev':i64v (n' / (G:Int))=n' / (G:Int):=by rw [i64v,hok];rfl
    rw [ev']
    by_cases h1:n' / (G:Int)=1
    ·refine .gr O O O O (.mv O O (.gr O O O O (.eqlT O O O h1 (.pick O O O (.nil (.condT O (.region (.bld _ O O As9 ?_))))))))
     have hz:eZ.R U2 w12 (.agg #[.bool false,.slice none 0 0]) ⟨false,[]⟩:=⟨_,rfl,RL.nil⟩
     refine .storeA (E:=eZ) ty_Z O O (k11.ext e12) O (eZ.csz h11) hz hU3' fun w13 k13 u13 h13=>.nil ?_
     refine ⟨rfl,_,lkA rfl,u13.below hB12 hw3,(k9.ext e12).upd u13 (Ne.symm hne32),k13,(k4.ext e12).upd u13 hne43,(h9.ext e12).upd u13 hU3',?_⟩
     rw [if_pos h1];exact h13
    ·refine .gr O O O O (.mv O O (.gr O O O O (.eqlF O O O h1 (.pick O O O (.nil (.condF O (.skip (hno (lkA O) h1)))))))) 
  ·rintro x W ⟨hB12,k2,k3,k4,hA,hC⟩
   obtain ⟨s,rfl,hs⟩:=hA
   obtain ⟨t,rfl,ht⟩:=hC
   refine .sr (.ldA ty_Z O O k2 O (.ldA ty_Z O O k3 O (.bld _ O O Aa5 ?_)))
   have hq:eQ.R U2 W (.agg #[.bool (zc (m' / (G:Int))).neg,s,.bool (if n' / (G:Int)=1 then (⟨false,[]⟩:ZV) else zc (n' / (G:Int))).neg,t]) (qc (Rat.divInt m' n')):=by
    rw [hqc]
    exact ⟨s,t,rfl,hs,ht⟩
   refine .storeA (E:=eQ) ty_Q O O k4 O O hq hU4' fun w13 k13 u13 h13=>.nil (.ret ?_)
   exact .cell Tryz.results168 O ty_Q O O k13 h13 ⟨u13.below hB12 hw4,hout' h13⟩
theorem Ab8 {S:Nat->Prop} {w:World} {vm vn:Value} {m n:Int} {L:Nat} (up:Up S w) (hm:Zv S m L vm w) (hn:Zv S n L vn w) (hn0:n≠0) (hL:L<=1000000000000) :
  CR Tryz.prog 168 #[vm,vn] w (eQ.at S (qc (Rat.divInt m n))):=Z0 up up hm hn hn0 hL
theorem Aj3:Tryz.prog.underlying 166=some (.map 5 165):=by kernel_rfl
theorem Ah3 {f:FuncId}:bldOf Tryz.prog 165 [(0,.func (.func f) #[] #[])]=some #[.func (.func f) #[] #[]]:=by kernel_rfl
theorem prt_op {f:FuncId}:prtOf Tryz.prog 165 #[.func (.func f) #[] #[]] 0=some (.func (.func f) #[] #[]):=by kernel_rfl
abbrev opE (k:Int) (f c:Nat):MapEntry:={ key:=.int .u8 k,val:=.agg #[.func (.func f) #[] #[]],born:=c }
def opTab:Array MapEntry:=#[opE 43 219 0,opE 45 221 1,opE 42 223 2,opE 47 224 3]
@[reducible] def IsTab:Value->World->Prop:=fun v w=>∃ r,v=.map (some r)/\MapAt w r opTab 4
theorem st_tab:St IsTab:=fun _ _ _ e ⟨r,h1,h2⟩=>⟨r,h1,h2.ext e⟩
theorem AP3:Ent Tryz.prog 169:=A0 Tryz.func169 (by kernel_rfl) rfl
theorem AN9 {w:World}:CR Tryz.prog 169 #[] w IsTab:=by
 refine enter Tryz.func169 O Tryz.ntmps169 O ?_
 refine .sr (.an O O (.sr ?_))
 refine .gv O O g_mkmap ?_
 rintro _ w1 ⟨rfl,e1,m1⟩
 refine .bld _ O O Ah3 (.gv O O (Aw8 Aj3 AY1 O O O m1 O) ?_)
 rintro _ _ rfl
 have m2:=m1.put (es':=#[].push (opE 43 219 0)) (c':=1)
 have x2:=AG1 (o:=.map (#[].push (opE 43 219 0)) 1) e1 (Nat.le_refl _)
 refine .bld _ O O Ah3 (.gv O O (Aw8 Aj3 AY1 O O O m2 O) ?_)
 rintro _ _ rfl
 have m3:=m2.put (es':=(#[].push (opE 43 219 0)).push (opE 45 221 1)) (c':=2)
 have x3:=AG1 (o:=.map ((#[].push (opE 43 219 0)).push (opE 45 221 1)) 2) x2 (Nat.le_refl _)
 refine .bld _ O O Ah3 (.gv O O (Aw8 Aj3 AY1 O O O m3 O) ?_)
 rintro _ _ rfl
 have m4:=m3.put (es':=((#[].push (opE 43 219 0)).push (opE 45 221 1)).push (opE 42 223 2)) (c':=3)
 have x4:=AG1 (o:=.map (((#[].push (opE 43 219 0)).push (opE 45 221 1)).push (opE 42 223 2)) 3) x3 (Nat.le_refl _)
 refine .bld _ O O Ah3 (.gv O O (Aw8 Aj3 AY1 O O O m4 O) ?_)
 rintro _ _ rfl
 have m5:=m4.put (es':=opTab) (c':=4)
 have x5:=AG1 (o:=.map opTab 4) x4 (Nat.le_refl _)
 refine .mv O O (.an O O (.ret ?_))
 exact .plain [_] Tryz.results169 ⟨rfl,trivial⟩ ⟨x5,_,rfl,m5⟩
theorem D9:Ent Tryz.prog 107:=A0 Tryz.func107 (by kernel_rfl) rfl
theorem K4 {S T0:Nat->Prop} {w:World} {va vb:Value} {a b:QV} {L:Nat} {k:Int} {i:Nat} {f:FuncId} {N D:Int} (up:Up S w) (upo:Up T0 w) (ha:eQ.R S w va a) (hb:eQ.R S w vb b) (hla:qok L a) (hlb:qok L b) (hL:1<=L) (hL2:L<=100000000000)
  (hE:Ent Tryz.prog f) (hf:Instr.findNow (.int .u8) (.int .u8 k) opTab.toList 0=some (some (i,.agg #[.func (.func f) #[] #[]])))
  (hop:∀ {T:Nat->Prop} {W:World} {u1 u2 u3 u4:Value},Up T W->Zv T (pn a) L u1 W->Zv T (pd a) L u2 W->Zv T (pn b) L u3 W->Zv T (pd b) L u4 W->CR Tryz.prog f #[u1,u2,u3,u4] W (Two (Zv T N (2*L+1)) (Zv T D (2*L+1)))) (hD:D≠0) :
  CR Tryz.prog 107 #[.int .u8 k,va,vb] w (eQ.at T0 (qc (Rat.divInt N D))):=by
 have hva:=shpA O ha
 have hvb:=shpA O hb
 refine enter Tryz.func107 O Tryz.ntmps107 O ?_
 refine .sr (.box O O fun w1 b4 n1=>.box O O fun w2 b5 n2=>.alloc O D2 fun w3 b6 n3=>.nil ?_)
 obtain ⟨e1,k4,hb4,hs1⟩:=n1
 obtain ⟨e2,k5,hb5,hs2⟩:=n2
 obtain ⟨e3,k6,hb6,hs3⟩:=n3
 have x3:=(e1.trans e2).trans e3
 have k4:=(k4.ext e2).ext e3
 have k5:=k5.ext e3
 have hU6:¬ Sx T0 w.heap.size w3.heap.size b6:=Sx.no (by omega) (by omega)
 have hS5:¬ Sx S w.heap.size w3.heap.size b5:=Sx.no (by omega) (by omega)
 have up3:Up (Sx S w.heap.size w3.heap.size) w3:=Sx.up up (Nat.le_refl _) x3.size
 have ha3:=(ha.par w3.heap.size).ext x3
 have hb3:=(hb.par w3.heap.size).ext x3
 have upo3:Up (Sx T0 w.heap.size w3.heap.size) w3:=Sx.up upo (Nat.le_refl _) x3.size
 have hout:∀ {W:World} {v:Value} {z:QV},eQ.R (Sx T0 w.heap.size w3.heap.size) W v z->eQ.R T0 W v z:=fun h=>h.out
 have hw6:w.heap.size<=b6:=by omega
 have hc6:b6<w3.heap.size:=by omega
 have hc5:b5<w3.heap.size:=by omega
 generalize hT:Sx S w.heap.size w3.heap.size=T at *
 generalize hU:Sx T0 w.heap.size w3.heap.size=U at *
 refine .sr (.ldA ty_Q O O k4 (eQ.csz ha) ?_)
 rw [<-hva]
 refine .call _ O AD1 O (AC2 up3 ha3 hla hL (by omega)) fun v4 w4 e4 h4=>?_
 obtain ⟨u1,u2,rfl,h1,h2⟩:=h4
 replace h1:(eZn L).R T w4 u1 (pn a):=h1
 replace h2:(eZn L).R T w4 u2 (pd a):=h2
 refine .mv O O (.ext O O O (.ext O O O (.alloc O B8 fun w5 b7 n5=>.alloc O B8 fun w6 b8 n6=>?_)))
 obtain ⟨e5,k7,hb7,hs5⟩:=n5
 obtain ⟨e6,k8,hb8,hs6⟩:=n6
 have e56:=e5.trans e6
 have k7:=k7.ext e6
 have hs4:=e4.size
 have hS7:¬ Sx T w4.heap.size w6.heap.size b7:=Sx.no (by omega) (by omega)
 have hS8:¬ Sx T w4.heap.size w6.heap.size b8:=Sx.no (by omega) (by omega)
 have h16:=(h1.par w6.heap.size).ext e56
 have h26:=(h2.par w6.heap.size).ext e56
 have hb6':=((hb3.ext e4).par w6.heap.size).ext e56
 have up6:Up (Sx T w4.heap.size w6.heap.size) w6:=Sx.up (up3.ext e4.size) (Nat.le_refl _) e56.size
 have hS5:¬ Sx T w4.heap.size w6.heap.size b5:=fun h=>hS5 h.1
 have hc7:b7<w6.heap.size:=by omega
 have hc8:b8<w6.heap.size:=by omega
 have hn78:b8≠b7:=by omega
 have hw7:w.heap.size<=b7:=by have:=x3.size;omega
 have hw8:w.heap.size<=b8:=by have:=x3.size;omega
 have hn57:b5≠b7:=by omega
 have hn58:b5≠b8:=by omega
 have hn67:b6≠b7:=by omega
 have hn68:b6≠b8:=by omega
 generalize hT2:Sx T w4.heap.size w6.heap.size=T2 at *
 refine .storeA (E:=eZn L) ty_Z O O k7 O O h16 hS7 fun w7 k7 u7 h17=>?_
 refine .storeA (E:=eZn L) ty_Z O O (k8.upd u7 hn78) O O (h26.upd u7 hS7) hS8 fun w8 k8 u8 h28=>.nil ?_
 have h18:=h17.upd u8 hS8
 have k7:=k7.upd u8 (Ne.symm hn78)
 have x6:=(x3.trans e4).trans e56
 have x8:Ext w w8:=u8.below (u7.below x6 hw7) hw8
 have k5:=(((k5.ext e4).ext e56).upd u7 hn57).upd u8 hn58
 have k6:=(((k6.ext e4).ext e56).upd u7 hn67).upd u8 hn68
 have hb8':=(hb6'.upd u7 hS7).upd u8 hS8
 have up8:Up T2 w8:=up6.ext (by rw [u8.size,u7.size];exact Nat.le_refl _)
 have upo8:Up U w8:=((upo3.ext e4.size).ext e56.size).ext (by rw [u8.size,u7.size];exact Nat.le_refl _)
 have hs8:w8.heap.size=w6.heap.size:=by rw [u8.size,u7.size]
 refine .sr (.ldA ty_Q O O k5 (eQ.csz hb) ?_)
 rw [<-hvb]
 refine .call _ O AD1 O (AC2 up8 hb8' hlb hL (by omega)) fun v9 w9 e9 h9=>?_
 obtain ⟨u3,u4,rfl,h3,h4⟩:=h9
 replace h3:(eZn L).R T2 w9 u3 (pn b):=h3
 replace h4:(eZn L).R T2 w9 u4 (pd b):=h4
 refine .mv O O (.ext O O O (.ext O O O (.alloc O B8 fun w10 b9 n10=>.alloc O B8 fun w11 b10 n11=>?_)))
 obtain ⟨e10,k9,hb9,hs10⟩:=n10
 obtain ⟨e11,k10,hb10,hs11⟩:=n11
 have e1011:=e10.trans e11
 have k9:=k9.ext e11
 have hs9:=e9.size
 have hS9:¬ Sx T2 w9.heap.size w11.heap.size b9:=Sx.no (by omega) (by omega)
 have hS10:¬ Sx T2 w9.heap.size w11.heap.size b10:=Sx.no (by omega) (by omega)
 have h1':=((h18.ext e9).par w11.heap.size).ext e1011
 have h2':=((h28.ext e9).par w11.heap.size).ext e1011
 have h3':=(h3.par w11.heap.size).ext e1011
 have h4':=(h4.par w11.heap.size).ext e1011
 have up11:Up (Sx T2 w9.heap.size w11.heap.size) w11:=Sx.up (up8.ext e9.size) (Nat.le_refl _) e1011.size
 have hn910:b10≠b9:=by omega
 have hw9:w.heap.size<=b9:=by have:=x8.size;omega
 have hw10:w.heap.size<=b10:=by have:=x8.size;omega
 have n79:b7≠b9:=by omega
 have n710:b7≠b10:=by omega
 have n89:b8≠b9:=by omega
 have n810:b8≠b10:=by omega
 have n69:b6≠b9:=by omega
 have n610:b6≠b10:=by omega
 generalize hT3:Sx T2 w9.heap.size w11.heap.size=T3 at *
 refine .storeA (E:=eZn L) ty_Z O O k9 O O h3' hS9 fun w12 k9 u12 h312=>?_
 refine .storeA (E:=eZn L) ty_Z O O (k10.upd u12 hn910) O O (h4'.upd u12 hS9) hS10 fun w13 k10 u13 h413=>.nil ?_
 have h313:=h312.upd u13 hS10
 have k9:=k9.upd u13 (Ne.symm hn910)
 have x11:=(x8.trans e9).trans e1011
 have x13:Ext w w13:=u13.below (u12.below x11 hw9) hw10
 have h113:=(h1'.upd u12 hS9).upd u13 hS10
 have h213:=(h2'.upd u12 hS9).upd u13 hS10
 have k7:=(((k7.ext e9).ext e1011).upd u12 n79).upd u13 n710
 have k8:=(((k8.ext e9).ext e1011).upd u12 n89).upd u13 n810
 have k6:=(((k6.ext e9).ext e1011).upd u12 n69).upd u13 n610
 have up13:Up T3 w13:=up11.ext (by rw [u13.size,u12.size];exact Nat.le_refl _)
 have upo13:Up U w13:=((upo8.ext e9.size).ext e1011.size).ext (by rw [u13.size,u12.size];exact Nat.le_refl _)
 have hv1:=shpA (E:=eZn L) O h113
 have hv2:=shpA (E:=eZn L) O h213
 have hv3:=shpA (E:=eZn L) O h313
 have hv4:=shpA (E:=eZn L) O h413
 refine .seq ?_
 refine .par follows 12 [.inr IsTab,.inl (.int .u8 k),.inl (.agg #[.func (.func f) #[] #[]]),.inl (.func (.func f) #[] #[]),.inl u1,.inl u2,.inl u3,.inl u4,.inr (Two (Zv T3 N (2*L+1)) (Zv T3 D (2*L+1))),.inr (Zv T3 N (2*L+1)),.inr (Zv T3 D (2*L+1)),.inr (eQ.at U (qc (Rat.divInt N D)))]
  [[],[],[(21,0),(22,1)],[(23,2)],[],[],[],[],[(24,3),(25,4),(26,5),(27,6),(28,7)],[(29,8)],[(29,8)],[(30,9),(31,10)]] (by kernel_rfl) ⟨
  fun w e=>(A4 [] AP3 O AN9).ob st_tab,
  fun w e=>(v_mv O).ob,
  fun w e x0 hx0=>by
   obtain ⟨r,rfl,hr⟩:=hx0
   exact (v_lkp Aj3 AY1 O O hr hf).ob,
  fun w e=>(v_fd O prt_op).ob,
  fun w e=>((C3 ty_Z O (k7.ext e) ((eZn L).csz h113)).eq hv1.symm).ob,
  fun w e=>((C3 ty_Z O (k8.ext e) ((eZn L).csz h213)).eq hv2.symm).ob,
  fun w e=>((C3 ty_Z O (k9.ext e) ((eZn L).csz h313)).eq hv3.symm).ob,
  fun w e=>((C3 ty_Z O (k10.ext e) ((eZn L).csz h413)).eq hv4.symm).ob,
  fun w e=>(AG8 [u1,u2,u3,u4] O hE O (by simpa using hop (up13.ext e.size) (Zv.ext h113 e) (Zv.ext h213 e) (Zv.ext h313 e) (Zv.ext h413 e))).ob (AC0 (Aj9 _ _ _) (Aj9 _ _ _)),
  fun w e x8 hx8=>by
   obtain ⟨p,q,rfl,hp,hq⟩:=hx8
   exact AA3 (v_ex O O) hp (Aj9 _ _ _),
  fun w e x8 hx8=>by
   obtain ⟨p,q,rfl,hp,hq⟩:=hx8
   exact AA3 (v_ex O O) hq (Aj9 _ _ _),
  fun w e x9 hx9 x10 hx10=>(A4 _ Z6 O (Z0 (up13.ext e.size) (upo13.ext e.size) hx9 hx10 hD (by omega))).ob (A8 _ _ _),trivial⟩ ?_
 intro w14 e14 x0 hx0 x8 hx8 x9 hx9 x10 hx10 x11 hx11
 refine .storeA (E:=eQ) ty_Q O O (k6.ext e14) O O hx11 hU6 fun w15 k15 u15 h15=>.nil (.ret ?_)
 exact .cell Tryz.results107 O ty_Q O O k15 h15 ⟨u15.below (x13.trans e14) hw6,hout h15⟩
theorem O0 {m n:Int} {L:Nat} (hm:m.natAbs<4294967296 ^ L) (hn:n.natAbs<4294967296 ^ L):(m*n).natAbs<4294967296 ^ (2*L):=by
 rw [Int.natAbs_mul,show 2*L=L+L by omega,Nat.pow_add]
 exact Nat.mul_lt_mul'' hm hn
theorem sum_lt {m n:Int} {L:Nat} (hm:m.natAbs<4294967296 ^ L) (hn:n.natAbs<4294967296 ^ L):(m+n).natAbs<4294967296 ^ (L+1):=by
 have:=Int.natAbs_add_le m n
 rw [Nat.pow_succ];omega
theorem dif_lt {m n:Int} {L:Nat} (hm:m.natAbs<4294967296 ^ L) (hn:n.natAbs<4294967296 ^ L):(m-n).natAbs<4294967296 ^ (L+1):=by
 have:=Int.natAbs_sub_le m n
 rw [Nat.pow_succ];omega
theorem Ac9 {m:Int} {L M:Nat} (h:m.natAbs<4294967296 ^ L) (hl:L<=M):m.natAbs<4294967296 ^ M:=Nat.lt_of_lt_of_le h (Nat.pow_le_pow_right (by omega) hl)
theorem E_op1:Ent Tryz.prog 219:=A0 Tryz.func219 (by kernel_rfl) rfl
theorem op1_c {S:Nat->Prop} {w:World} {u1 u2 u3 u4:Value} {m1 m2 m3 m4:Int} {L:Nat} (hL2:L<=100000000000) (up:Up S w) (h1:Zv S m1 L u1 w) (h2:Zv S m2 L u2 w) (h3:Zv S m3 L u3 w) (h4:Zv S m4 L u4 w) :
  CR Tryz.prog 219 #[u1,u2,u3,u4] w (Two (Zv S (m1*m4+m3*m2) (2*L+1)) (Zv S (m2*m4) (2*L+1))):=by
 have l1:=h1.lt
 have l2:=h2.lt
 have l3:=h3.lt
 have l4:=h4.lt
 obtain ⟨z1,h1,rfl,hl1⟩:=h1
 obtain ⟨z2,h2,rfl,hl2⟩:=h2
 obtain ⟨z3,h3,rfl,hl3⟩:=h3
 obtain ⟨z4,h4,rfl,hl4⟩:=h4
 have hv1:=shpA O h1
 have hv2:=shpA O h2
 have hv3:=shpA O h3
 have hv4:=shpA O h4
 refine enter Tryz.func219 O Tryz.ntmps219 O ?_
 refine .sr (.box O O fun w1 b4 n1=>.box O O fun w2 b5 n2=>.box O O fun w3 b6 n3=>.box O O fun w4 b7 n4=>.alloc O B8 fun w5 b8 n5=>.alloc O B8 fun w6 b9 n6=>.nil ?_)
 obtain ⟨e1,k4,hb4,hs1⟩:=n1
 obtain ⟨e2,k5,hb5,hs2⟩:=n2
 obtain ⟨e3,k6,hb6,hs3⟩:=n3
 obtain ⟨e4,k7,hb7,hs4⟩:=n4
 obtain ⟨e5,k8,hb8,hs5⟩:=n5
 obtain ⟨e6,k9,hb9,hs6⟩:=n6
 have e56:=e5.trans e6
 have e46:=e4.trans e56
 have e36:=e3.trans e46
 have e26:=e2.trans e36
 have x6:=e1.trans e26
 have k4:=k4.ext e26
 have k5:=k5.ext e36
 have k6:=k6.ext e46
 have k7:=k7.ext e56
 have k8:=k8.ext e6
 have hS8:¬ Sx S w.heap.size w6.heap.size b8:=Sx.no (by omega) (by omega)
 have hS9:¬ Sx S w.heap.size w6.heap.size b9:=Sx.no (by omega) (by omega)
 have up6:Up (Sx S w.heap.size w6.heap.size) w6:=Sx.up up (Nat.le_refl _) x6.size
 have h1:=(h1.par w6.heap.size).ext x6
 have h2:=(h2.par w6.heap.size).ext x6
 have h3:=(h3.par w6.heap.size).ext x6
 have h4:=(h4.par w6.heap.size).ext x6
 have hout:∀ {W:World} {v:Value} {n:Int},(eZn (2*L+1)).R (Sx S w.heap.size w6.heap.size) W v n->Zv S n (2*L+1) v W:=fun h=>Zv.out h
 have hn89:b9≠b8:=by omega
 have hw8:w.heap.size<=b8:=by omega
 have hw9:w.heap.size<=b9:=by omega
 generalize hT:Sx S w.heap.size w6.heap.size=T at *
 refine .seq ?_
 refine .par follows 9 [.inl u1,.inl u4,.inr (eZ.at T (zc (zval z1*zval z4))),.inl u3,.inl u2,.inr (eZ.at T (zc (zval z3*zval z2))),.inr (eZ.at T (zc (zval z1*zval z4+zval z3*zval z2))),.inl u2,.inl u4] [[],[],[(10,0),(11,1)],[],[],[(13,3),(14,4)],[(12,2),(15,5)],[],[]] (by kernel_rfl) ⟨
  fun w e=>((C3 ty_Z O (k4.ext e) (eZ.csz h1)).eq hv1.symm).ob,
  fun w e=>((C3 ty_Z O (k7.ext e) (eZ.csz h4)).eq hv4.symm).ob,
  fun w e=>(A4 _ F9 O (F6 (up6.ext e.size) (h1.ext e) (h4.ext e) (by omega) (by omega))).ob (A8 _ _ _),
  fun w e=>((C3 ty_Z O (k6.ext e) (eZ.csz h3)).eq hv3.symm).ob,
  fun w e=>((C3 ty_Z O (k5.ext e) (eZ.csz h2)).eq hv2.symm).ob,
  fun w e=>(A4 _ F9 O (F6 (up6.ext e.size) (h3.ext e) (h2.ext e) (by omega) (by omega))).ob (A8 _ _ _),
  fun w e x2 hx2 x5 hx5=>(A4 _ An6 O (by
   have:=Ai9 (up6.ext e.size) hx2 hx5 (Nat.le_trans (M3 (O0 l1 l4)) (by omega)) (Nat.le_trans (M3 (O0 l3 l2)) (by omega))
   rw [F1,F1] at this
   exact this)).ob (A8 _ _ _),
  fun w e=>((C3 ty_Z O (k5.ext e) (eZ.csz h2)).eq hv2.symm).ob,
  fun w e=>((C3 ty_Z O (k7.ext e) (eZ.csz h4)).eq hv4.symm).ob,trivial⟩ ?_
 intro w7 e7 x2 hx2 x5 hx5 x6' hx6
 refine .call _ O F9 O (F6 (up6.ext e7.size) (h2.ext e7) (h4.ext e7) (by omega) (by omega)) fun v8 w8 e8 h8=>?_
 have e78:=e7.trans e8
 have hA:(eZn (2*L+1)).R T w8 x6' (zval z1*zval z4+zval z3*zval z2):=Zv.of (hx6.ext e8) (sum_lt (O0 l1 l4) (O0 l3 l2))
 have hB:(eZn (2*L+1)).R T w8 v8 (zval z2*zval z4):=Zv.of h8 (Ac9 (O0 l2 l4) (by omega))
 refine .storeA (E:=eZn (2*L+1)) ty_Z O O (k8.ext e78) O O hA hS8 fun w9 k8' u9 h9=>?_
 refine .storeA (E:=eZn (2*L+1)) ty_Z O O ((k9.ext e78).upd u9 hn89) O O (hB.upd u9 hS8) hS9 fun w10 k10 u10 h10=>.nil (.ret ?_)
 exact .plain [_,_] Tryz.results219 ⟨⟨_,rfl,D3 (E:=eZn (2*L+1)) ty_Z O O (k8'.upd u10 (Ne.symm hn89)) (h9.upd u10 hS9)⟩,⟨_,rfl,D3 (E:=eZn (2*L+1)) ty_Z O O k10 h10⟩,trivial⟩ ⟨u10.below (u9.below (x6.trans e78) hw8) hw9,_,_,rfl,hout (h9.upd u10 hS9),hout h10⟩
theorem E_op3:Ent Tryz.prog 223:=A0 Tryz.func223 (by kernel_rfl) rfl
theorem op3_c {S:Nat->Prop} {w:World} {u1 u2 u3 u4:Value} {m1 m2 m3 m4:Int} {L:Nat} (hL2:L<=100000000000) (up:Up S w) (h1:Zv S m1 L u1 w) (h2:Zv S m2 L u2 w) (h3:Zv S m3 L u3 w) (h4:Zv S m4 L u4 w) :
  CR Tryz.prog 223 #[u1,u2,u3,u4] w (Two (Zv S (m1*m3) (2*L+1)) (Zv S (m2*m4) (2*L+1))):=by
 have l1:=h1.lt
 have l2:=h2.lt
 have l3:=h3.lt
 have l4:=h4.lt
 obtain ⟨z1,h1,rfl,hl1⟩:=h1
 obtain ⟨z2,h2,rfl,hl2⟩:=h2
 obtain ⟨z3,h3,rfl,hl3⟩:=h3
 obtain ⟨z4,h4,rfl,hl4⟩:=h4
 have hv1:=shpA O h1
 have hv2:=shpA O h2
 have hv3:=shpA O h3
 have hv4:=shpA O h4
 refine enter Tryz.func223 O Tryz.ntmps223 O ?_
 refine .sr (.box O O fun w1 b4 n1=>.box O O fun w2 b5 n2=>.box O O fun w3 b6 n3=>.box O O fun w4 b7 n4=>.alloc O B8 fun w5 b8 n5=>.alloc O B8 fun w6 b9 n6=>.nil ?_)
 obtain ⟨e1,k4,hb4,hs1⟩:=n1
 obtain ⟨e2,k5,hb5,hs2⟩:=n2
 obtain ⟨e3,k6,hb6,hs3⟩:=n3
 obtain ⟨e4,k7,hb7,hs4⟩:=n4
 obtain ⟨e5,k8,hb8,hs5⟩:=n5
 obtain ⟨e6,k9,hb9,hs6⟩:=n6
 have e56:=e5.trans e6
 have e46:=e4.trans e56
 have e36:=e3.trans e46
 have e26:=e2.trans e36
 have x6:=e1.trans e26
 have k4:=k4.ext e26
 have k5:=k5.ext e36
 have k6:=k6.ext e46
 have k7:=k7.ext e56
 have k8:=k8.ext e6
 have hS8:¬ Sx S w.heap.size w6.heap.size b8:=Sx.no (by omega) (by omega)
 have hS9:¬ Sx S w.heap.size w6.heap.size b9:=Sx.no (by omega) (by omega)
 have up6:Up (Sx S w.heap.size w6.heap.size) w6:=Sx.up up (Nat.le_refl _) x6.size
 have h1:=(h1.par w6.heap.size).ext x6
 have h2:=(h2.par w6.heap.size).ext x6
 have h3:=(h3.par w6.heap.size).ext x6
 have h4:=(h4.par w6.heap.size).ext x6
 have hout:∀ {W:World} {v:Value} {n:Int},(eZn (2*L+1)).R (Sx S w.heap.size w6.heap.size) W v n->Zv S n (2*L+1) v W:=fun h=>Zv.out h
 have hn89:b9≠b8:=by omega
 have hw8:w.heap.size<=b8:=by omega
 have hw9:w.heap.size<=b9:=by omega
 generalize hT:Sx S w.heap.size w6.heap.size=T at *
 refine .seq ?_
 refine .par follows 5 [.inl u1,.inl u3,.inr (eZ.at T (zc (zval z1*zval z3))),.inl u2,.inl u4] [[],[],[(10,0),(11,1)],[],[]] (by kernel_rfl) ⟨
  fun w e=>((C3 ty_Z O (k4.ext e) (eZ.csz h1)).eq hv1.symm).ob,
  fun w e=>((C3 ty_Z O (k6.ext e) (eZ.csz h3)).eq hv3.symm).ob,
  fun w e=>(A4 _ F9 O (F6 (up6.ext e.size) (h1.ext e) (h3.ext e) (by omega) (by omega))).ob (A8 _ _ _),
  fun w e=>((C3 ty_Z O (k5.ext e) (eZ.csz h2)).eq hv2.symm).ob,
  fun w e=>((C3 ty_Z O (k7.ext e) (eZ.csz h4)).eq hv4.symm).ob,trivial⟩ ?_
 intro w7 e7 x2 hx2
 refine .call _ O F9 O (F6 (up6.ext e7.size) (h2.ext e7) (h4.ext e7) (by omega) (by omega)) fun v8 w8 e8 h8=>?_
 have e78:=e7.trans e8
 have hA:(eZn (2*L+1)).R T w8 x2 (zval z1*zval z3):=Zv.of (hx2.ext e8) (Ac9 (O0 l1 l3) (by omega))
 have hB:(eZn (2*L+1)).R T w8 v8 (zval z2*zval z4):=Zv.of h8 (Ac9 (O0 l2 l4) (by omega))
 refine .storeA (E:=eZn (2*L+1)) ty_Z O O (k8.ext e78) O O hA hS8 fun w9 k8' u9 h9=>?_
 refine .storeA (E:=eZn (2*L+1)) ty_Z O O ((k9.ext e78).upd u9 hn89) O O (hB.upd u9 hS8) hS9 fun w10 k10 u10 h10=>.nil (.ret ?_)
 exact .plain [_,_] Tryz.results223 ⟨⟨_,rfl,D3 (E:=eZn (2*L+1)) ty_Z O O (k8'.upd u10 (Ne.symm hn89)) (h9.upd u10 hS9)⟩,⟨_,rfl,D3 (E:=eZn (2*L+1)) ty_Z O O k10 h10⟩,trivial⟩ ⟨u10.below (u9.below (x6.trans e78) hw8) hw9,_,_,rfl,hout (h9.upd u10 hS9),hout h10⟩
theorem S6 {q:QV} (h:shortB q=true) : -2147483648<pn q/\pn q<2147483648/\0<pd q/\pd q<2147483648:=by
 simp only [shortB,decide_eq_true_eq] at h
 have:=P3 q
 unfold pn pd at *
 refine ⟨?_,?_,?_,?_⟩<;>split<;>(try split)<;>omega
theorem N5 {x y:Int} (h1 : -2147483648<x) (h2:x<2147483648) (h3 : -2147483648<y) (h4:y<2147483648) : -4611686014132420609<=x*y/\x*y<=4611686014132420609:=by
 have h:(x*y).natAbs<=2147483647*2147483647:=by
  rw [Int.natAbs_mul]
  exact Nat.mul_le_mul (by omega) (by omega)
 omega
theorem V5:Ent Tryz.prog 43:=A0 Tryz.func43 (by kernel_rfl) rfl
theorem As2 {S T0:Nat->Prop} {w:World} {va vb:Value} {a b:QV} {L:Nat} (up:Up S w) (upo:Up T0 w) (ha:eQ.R S w va a) (hb:eQ.R S w vb b) (hla:qok L a) (hlb:qok L b) (hL:1<=L) (hL2:L<=100000000000) :
  CR Tryz.prog 43 #[va,vb] w (eQ.at T0 (qc (qval a+qval b))):=by
 have hva:=shpA O ha
 have hvb:=shpA O hb
 have hpa:=P3 a
 have hpb:=P3 b
 have hpp:0<pd a*pd b:=Int.mul_pos hpa hpb
 have hval:qval a+qval b=Rat.divInt (pn a*pd b+pn b*pd a) (pd a*pd b):=by
  unfold qval
  rw [Rat.divInt_add_divInt _ _ (by omega) (by omega)]
 rw [hval]
 refine enter Tryz.func43 O Tryz.ntmps43 O ?_
 refine .sr (.box O O fun w1 b2 n1=>.box O O fun w2 b3 n2=>.alloc O D2 fun w3 b4 n3=>.nil ?_)
 obtain ⟨e1,k2,hb2,hs1⟩:=n1
 obtain ⟨e2,k3,hb3,hs2⟩:=n2
 obtain ⟨e3,k4,hb4,hs3⟩:=n3
 have x3:=(e1.trans e2).trans e3
 have k2:=(k2.ext e2).ext e3
 have k3:=k3.ext e3
 have hU4:¬ Sx T0 w.heap.size w3.heap.size b4:=Sx.no (by omega) (by omega)
 have upo3:Up (Sx T0 w.heap.size w3.heap.size) w3:=Sx.up upo (Nat.le_refl _) x3.size
 have up3:Up (Sx S w.heap.size w3.heap.size) w3:=Sx.up up (Nat.le_refl _) x3.size
 have ha3:=(ha.par w3.heap.size).ext x3
 have hb3':=(hb.par w3.heap.size).ext x3
 have hout:∀ {W:World} {v:Value} {z:QV},eQ.R (Sx T0 w.heap.size w3.heap.size) W v z->eQ.R T0 W v z:=fun h=>h.out
 have hw4:w.heap.size<=b4:=by omega
 generalize hT:Sx S w.heap.size w3.heap.size=T at *
 generalize hU:Sx T0 w.heap.size w3.heap.size=U at *
 refine .sr (.ldA ty_Q O O k2 (eQ.csz ha) ?_)
 rw [<-hva]
 refine .call _ O D6 O (D5 ha3) fun v4 w4 e4 h4=>?_
 subst h4
 have k2:=k2.ext e4
 have k3:=k3.ext e4
 have k4:=k4.ext e4
 have ha4:=ha3.ext e4
 have hb4':=hb3'.ext e4
 have up4:=up3.ext e4.size
 have upo4:=upo3.ext e4.size
 have x4:=x3.trans e4
 have slow:∀ {W:World},Ext w4 W->CR Tryz.prog 107 #[.int .u8 43,va,vb] W (eQ.at U (qc (Rat.divInt (pn a*pd b+pn b*pd a) (pd a*pd b)))):=fun e =>
  K4 (up4.ext e.size) (upo4.ext e.size) (ha4.ext e) (hb4'.ext e) hla hlb hL hL2 E_op1 O (fun u h1 h2 h3 h4=>op1_c hL2 u h1 h2 h3 h4) (by omega)
 unfold shortV
 cases hsa:shortB a with
 | false =>
  refine .mv O O (.ext O O O (.ext O O O (.ext O O O (.asg O O (.asg O O (.an O O ?_))))))
  refine .sr (.ldA ty_Q O O k3 (eQ.csz hb) ?_)
  rw [<-hvb]
  refine .call _ O D6 O (D5 hb4') fun v5 w5 e5 h5=>?_
  subst h5
  obtain ⟨y1,y2,y3,hy⟩:∃ y1 y2 y3,shortV b=.tuple #[y1,y2,y3]:=by unfold shortV;split<;>exact ⟨_,_,_,rfl⟩
  rw [hy]
  refine .mv O O (.ext O O O (.ext O O O (.ext O O O (.asg O O (.asg O O (.an O O ?_))))))
  refine .seq (.sr (.mv O O (.mv O O (.gs O O O O O (.pick O O O (.nil (.condF O (.skip ?_))))))))
  refine .sr (.ldA ty_Q O O (k2.ext e5) (eQ.csz ha) (.ldA ty_Q O O (k3.ext e5) (eQ.csz hb) ?_))
  rw [<-hva,<-hvb]
  refine .call _ O D9 O (slow e5) fun v6 w6 e6 h6=>?_
  refine .storeA (E:=eQ) ty_Q O O ((k4.ext e5).ext e6) O O h6 hU4 fun w7 k7 u7 h7=>.nil (.ret ?_)
  exact .cell Tryz.results43 O ty_Q O O k7 h7 ⟨u7.below ((x4.trans e5).trans e6) hw4,hout h7⟩
 | true =>
  refine .mv O O (.ext O O O (.ext O O O (.ext O O O (.asg O O (.asg O O (.an O O ?_))))))
  refine .sr (.ldA ty_Q O O k3 (eQ.csz hb) ?_)
  rw [<-hvb]
  refine .call _ O D6 O (D5 hb4') fun v5 w5 e5 h5=>?_
  subst h5
  unfold shortV
  cases hsb:shortB b with
  | false =>
   refine .mv O O (.ext O O O (.ext O O O (.ext O O O (.asg O O (.asg O O (.an O O ?_))))))
   refine .seq (.sr (.mv O O (.mv O O (.gr O O O O (.mv O O (.pick O O O (.nil (.condF O (.skip ?_)))))))))
   refine .sr (.ldA ty_Q O O (k2.ext e5) (eQ.csz ha) (.ldA ty_Q O O (k3.ext e5) (eQ.csz hb) ?_))
   rw [<-hva,<-hvb]
   refine .call _ O D9 O (slow e5) fun v6 w6 e6 h6=>?_
   refine .storeA (E:=eQ) ty_Q O O ((k4.ext e5).ext e6) O O h6 hU4 fun w7 k7 u7 h7=>.nil (.ret ?_)
   exact .cell Tryz.results43 O ty_Q O O k7 h7 ⟨u7.below ((x4.trans e5).trans e6) hw4,hout h7⟩
  | true =>
   have ba:=S6 hsa
   have bb:=S6 hsb
   refine .mv O O (.ext O O O (.ext O O O (.ext O O O (.asg O O (.asg O O (.an O O ?_))))))
   refine .seq (.sr (.mv O O (.mv O O (.gr O O O O (.mv O O (.pick O O O (.nil (.condT O (.sr ?_)))))))))
   generalize pn a=an at *
   generalize pn b=bn at *
   generalize pd a=ad at *
   generalize pd b=bd at *
   have m1:=N5 (x:=an) (y:=bd) (by omega) (by omega) (by omega) (by omega)
   have m2:=N5 (x:=bn) (y:=ad) (by omega) (by omega) (by omega) (by omega)
   have m3:=N5 (x:=ad) (y:=bd) (by omega) (by omega) (by omega) (by omega)
   have m4:=N5 (x:=an) (y:=bn) (by omega) (by omega) (by omega) (by omega)
   refine .mv O O (.mv O O (.mul O O O (.mv O O (.mv O O (.mul O O O (.add O O O (.mv O O (.mv O O (.mul O O O ?_)))))))))
   rw [wI (n:=an*bd) (by omega),wI (n:=bn*ad) (by omega),wI (n:=ad*bd) (by omega),wI (n:=an*bd+bn*ad) (by omega)]
   refine .call _ O K5 O (K3 (upo4.ext e5.size) hpp (by omega) (by omega) (by omega)) fun v6 w6 e6 h6=>?_
   refine .storeA (E:=eQ) ty_Q O O ((k4.ext e5).ext e6) O O h6 hU4 fun w7 k7 u7 h7=>.nil (.ret ?_)
   exact .cell Tryz.results43 O ty_Q O O k7 h7 ⟨u7.below ((x4.trans e5).trans e6) hw4,hout h7⟩
theorem U8 {S:Nat->Prop} {w:World} {va vb:Value} {a b:QV} {L:Nat} (up:Up S w) (ha:eQ.R S w va a) (hb:eQ.R S w vb b) (hla:qok L a) (hlb:qok L b) (hL:1<=L) (hL2:L<=100000000000) :
  CR Tryz.prog 43 #[va,vb] w (eQ.at S (qc (qval a+qval b))):=As2 up up ha hb hla hlb hL hL2
theorem AL5:Ent Tryz.prog 44:=A0 Tryz.func44 (by kernel_rfl) rfl
theorem As0 {S T0:Nat->Prop} {w:World} {va vb:Value} {a b:QV} {L:Nat} (up:Up S w) (upo:Up T0 w) (ha:eQ.R S w va a) (hb:eQ.R S w vb b) (hla:qok L a) (hlb:qok L b) (hL:1<=L) (hL2:L<=100000000000) :
  CR Tryz.prog 44 #[va,vb] w (eQ.at T0 (qc (qval a*qval b))):=by
 have hva:=shpA O ha
 have hvb:=shpA O hb
 have hpa:=P3 a
 have hpb:=P3 b
 have hpp:0<pd a*pd b:=Int.mul_pos hpa hpb
 have hval:qval a*qval b=Rat.divInt (pn a*pn b) (pd a*pd b):=by
  unfold qval
  rw [Rat.divInt_mul_divInt]
 rw [hval]
 refine enter Tryz.func44 O Tryz.ntmps44 O ?_
 refine .sr (.box O O fun w1 b2 n1=>.box O O fun w2 b3 n2=>.alloc O D2 fun w3 b4 n3=>.nil ?_)
 obtain ⟨e1,k2,hb2,hs1⟩:=n1
 obtain ⟨e2,k3,hb3,hs2⟩:=n2
 obtain ⟨e3,k4,hb4,hs3⟩:=n3
 have x3:=(e1.trans e2).trans e3
 have k2:=(k2.ext e2).ext e3
 have k3:=k3.ext e3
 have hU4:¬ Sx T0 w.heap.size w3.heap.size b4:=Sx.no (by omega) (by omega)
 have upo3:Up (Sx T0 w.heap.size w3.heap.size) w3:=Sx.up upo (Nat.le_refl _) x3.size
 have up3:Up (Sx S w.heap.size w3.heap.size) w3:=Sx.up up (Nat.le_refl _) x3.size
 have ha3:=(ha.par w3.heap.size).ext x3
 have hb3':=(hb.par w3.heap.size).ext x3
 have hout:∀ {W:World} {v:Value} {z:QV},eQ.R (Sx T0 w.heap.size w3.heap.size) W v z->eQ.R T0 W v z:=fun h=>h.out
 have hw4:w.heap.size<=b4:=by omega
 generalize hT:Sx S w.heap.size w3.heap.size=T at *
 generalize hU:Sx T0 w.heap.size w3.heap.size=U at *
 refine .sr (.ldA ty_Q O O k2 (eQ.csz ha) ?_)
 rw [<-hva]
 refine .call _ O D6 O (D5 ha3) fun v4 w4 e4 h4=>?_
 subst h4
 have k2:=k2.ext e4
 have k3:=k3.ext e4
 have k4:=k4.ext e4
 have ha4:=ha3.ext e4
 have hb4':=hb3'.ext e4
 have up4:=up3.ext e4.size
 have upo4:=upo3.ext e4.size
 have x4:=x3.trans e4
 have slow:∀ {W:World},Ext w4 W->CR Tryz.prog 107 #[.int .u8 42,va,vb] W (eQ.at U (qc (Rat.divInt (pn a*pn b) (pd a*pd b)))):=fun e =>
  K4 (up4.ext e.size) (upo4.ext e.size) (ha4.ext e) (hb4'.ext e) hla hlb hL hL2 E_op3 O (fun u h1 h2 h3 h4=>op3_c hL2 u h1 h2 h3 h4) (by omega)
 unfold shortV
 cases hsa:shortB a with
 | false =>
  refine .mv O O (.ext O O O (.ext O O O (.ext O O O (.asg O O (.asg O O (.an O O ?_))))))
  refine .sr (.ldA ty_Q O O k3 (eQ.csz hb) ?_)
  rw [<-hvb]
  refine .call _ O D6 O (D5 hb4') fun v5 w5 e5 h5=>?_
  subst h5
  obtain ⟨y1,y2,y3,hy⟩:∃ y1 y2 y3,shortV b=.tuple #[y1,y2,y3]:=by unfold shortV;split<;>exact ⟨_,_,_,rfl⟩
  rw [hy]
  refine .mv O O (.ext O O O (.ext O O O (.ext O O O (.asg O O (.asg O O (.an O O ?_))))))
  refine .seq (.sr (.mv O O (.mv O O (.gs O O O O O (.pick O O O (.nil (.condF O (.skip ?_))))))))
  refine .sr (.ldA ty_Q O O (k2.ext e5) (eQ.csz ha) (.ldA ty_Q O O (k3.ext e5) (eQ.csz hb) ?_))
  rw [<-hva,<-hvb]
  refine .call _ O D9 O (slow e5) fun v6 w6 e6 h6=>?_
  refine .storeA (E:=eQ) ty_Q O O ((k4.ext e5).ext e6) O O h6 hU4 fun w7 k7 u7 h7=>.nil (.ret ?_)
  exact .cell Tryz.results44 O ty_Q O O k7 h7 ⟨u7.below ((x4.trans e5).trans e6) hw4,hout h7⟩
 | true =>
  refine .mv O O (.ext O O O (.ext O O O (.ext O O O (.asg O O (.asg O O (.an O O ?_))))))
  refine .sr (.ldA ty_Q O O k3 (eQ.csz hb) ?_)
  rw [<-hvb]
  refine .call _ O D6 O (D5 hb4') fun v5 w5 e5 h5=>?_
  subst h5
  unfold shortV
  cases hsb:shortB b with
  | false =>
   refine .mv O O (.ext O O O (.ext O O O (.ext O O O (.asg O O (.asg O O (.an O O ?_))))))
   refine .seq (.sr (.mv O O (.mv O O (.gr O O O O (.mv O O (.pick O O O (.nil (.condF O (.skip ?_)))))))))
   refine .sr (.ldA ty_Q O O (k2.ext e5) (eQ.csz ha) (.ldA ty_Q O O (k3.ext e5) (eQ.csz hb) ?_))
   rw [<-hva,<-hvb]
   refine .call _ O D9 O (slow e5) fun v6 w6 e6 h6=>?_
   refine .storeA (E:=eQ) ty_Q O O ((k4.ext e5).ext e6) O O h6 hU4 fun w7 k7 u7 h7=>.nil (.ret ?_)
   exact .cell Tryz.results44 O ty_Q O O k7 h7 ⟨u7.below ((x4.trans e5).trans e6) hw4,hout h7⟩
  | true =>
   have ba:=S6 hsa
   have bb:=S6 hsb
   refine .mv O O (.ext O O O (.ext O O O (.ext O O O (.asg O O (.asg O O (.an O O ?_))))))
   refine .seq (.sr (.mv O O (.mv O O (.gr O O O O (.mv O O (.pick O O O (.nil (.condT O (.sr ?_)))))))))
   generalize pn a=an at *
   generalize pn b=bn at *
   generalize pd a=ad at *
   generalize pd b=bd at *
   have m1:=N5 (x:=an) (y:=bd) (by omega) (by omega) (by omega) (by omega)
   have m2:=N5 (x:=bn) (y:=ad) (by omega) (by omega) (by omega) (by omega)
   have m3:=N5 (x:=ad) (y:=bd) (by omega) (by omega) (by omega) (by omega)
   have m4:=N5 (x:=an) (y:=bn) (by omega) (by omega) (by omega) (by omega)
   refine .mv O O (.mv O O (.mul O O O (.mv O O (.mv O O (.mul O O O ?_)))))
   rw [wI (n:=an*bn) (by omega),wI (n:=ad*bd) (by omega)]
   refine .call _ O K5 O (K3 (upo4.ext e5.size) hpp (by omega) (by omega) (by omega)) fun v6 w6 e6 h6=>?_
   refine .storeA (E:=eQ) ty_Q O O ((k4.ext e5).ext e6) O O h6 hU4 fun w7 k7 u7 h7=>.nil (.ret ?_)
   exact .cell Tryz.results44 O ty_Q O O k7 h7 ⟨u7.below ((x4.trans e5).trans e6) hw4,hout h7⟩
theorem AK7 {S:Nat->Prop} {w:World} {va vb:Value} {a b:QV} {L:Nat} (up:Up S w) (ha:eQ.R S w va a) (hb:eQ.R S w vb b) (hla:qok L a) (hlb:qok L b) (hL:1<=L) (hL2:L<=100000000000) :
  CR Tryz.prog 44 #[va,vb] w (eQ.at S (qc (qval a*qval b))):=As0 up up ha hb hla hlb hL hL2
theorem E_op2:Ent Tryz.prog 221:=A0 Tryz.func221 (by kernel_rfl) rfl
theorem op2_c {S:Nat->Prop} {w:World} {u1 u2 u3 u4:Value} {m1 m2 m3 m4:Int} {L:Nat} (hL2:L<=100000000000) (up:Up S w) (h1:Zv S m1 L u1 w) (h2:Zv S m2 L u2 w) (h3:Zv S m3 L u3 w) (h4:Zv S m4 L u4 w) :
  CR Tryz.prog 221 #[u1,u2,u3,u4] w (Two (Zv S (m1*m4-m3*m2) (2*L+1)) (Zv S (m2*m4) (2*L+1))):=by
 have l1:=h1.lt
 have l2:=h2.lt
 have l3:=h3.lt
 have l4:=h4.lt
 obtain ⟨z1,h1,rfl,hl1⟩:=h1
 obtain ⟨z2,h2,rfl,hl2⟩:=h2
 obtain ⟨z3,h3,rfl,hl3⟩:=h3
 obtain ⟨z4,h4,rfl,hl4⟩:=h4
 have hv1:=shpA O h1
 have hv2:=shpA O h2
 have hv3:=shpA O h3
 have hv4:=shpA O h4
 refine enter Tryz.func221 O Tryz.ntmps221 O ?_
 refine .sr (.box O O fun w1 b4 n1=>.box O O fun w2 b5 n2=>.box O O fun w3 b6 n3=>.box O O fun w4 b7 n4=>.alloc O B8 fun w5 b8 n5=>.alloc O B8 fun w6 b9 n6=>.nil ?_)
 obtain ⟨e1,k4,hb4,hs1⟩:=n1
 obtain ⟨e2,k5,hb5,hs2⟩:=n2
 obtain ⟨e3,k6,hb6,hs3⟩:=n3
 obtain ⟨e4,k7,hb7,hs4⟩:=n4
 obtain ⟨e5,k8,hb8,hs5⟩:=n5
 obtain ⟨e6,k9,hb9,hs6⟩:=n6
 have e56:=e5.trans e6
 have e46:=e4.trans e56
 have e36:=e3.trans e46
 have e26:=e2.trans e36
 have x6:=e1.trans e26
 have k4:=k4.ext e26
 have k5:=k5.ext e36
 have k6:=k6.ext e46
 have k7:=k7.ext e56
 have k8:=k8.ext e6
 have hS8:¬ Sx S w.heap.size w6.heap.size b8:=Sx.no (by omega) (by omega)
 have hS9:¬ Sx S w.heap.size w6.heap.size b9:=Sx.no (by omega) (by omega)
 have up6:Up (Sx S w.heap.size w6.heap.size) w6:=Sx.up up (Nat.le_refl _) x6.size
 have h1:=(h1.par w6.heap.size).ext x6
 have h2:=(h2.par w6.heap.size).ext x6
 have h3:=(h3.par w6.heap.size).ext x6
 have h4:=(h4.par w6.heap.size).ext x6
 have hout:∀ {W:World} {v:Value} {n:Int},(eZn (2*L+1)).R (Sx S w.heap.size w6.heap.size) W v n->Zv S n (2*L+1) v W:=fun h=>Zv.out h
 have hn89:b9≠b8:=by omega
 have hw8:w.heap.size<=b8:=by omega
 have hw9:w.heap.size<=b9:=by omega
 generalize hT:Sx S w.heap.size w6.heap.size=T at *
 refine .seq ?_
 refine .par follows 9 [.inl u1,.inl u4,.inr (eZ.at T (zc (zval z1*zval z4))),.inl u3,.inl u2,.inr (eZ.at T (zc (zval z3*zval z2))),.inr (eZ.at T (zc (zval z1*zval z4-zval z3*zval z2))),.inl u2,.inl u4] [[],[],[(10,0),(11,1)],[],[],[(13,3),(14,4)],[(12,2),(15,5)],[],[]] (by kernel_rfl) ⟨
  fun w e=>((C3 ty_Z O (k4.ext e) (eZ.csz h1)).eq hv1.symm).ob,
  fun w e=>((C3 ty_Z O (k7.ext e) (eZ.csz h4)).eq hv4.symm).ob,
  fun w e=>(A4 _ F9 O (F6 (up6.ext e.size) (h1.ext e) (h4.ext e) (by omega) (by omega))).ob (A8 _ _ _),
  fun w e=>((C3 ty_Z O (k6.ext e) (eZ.csz h3)).eq hv3.symm).ob,
  fun w e=>((C3 ty_Z O (k5.ext e) (eZ.csz h2)).eq hv2.symm).ob,
  fun w e=>(A4 _ F9 O (F6 (up6.ext e.size) (h3.ext e) (h2.ext e) (by omega) (by omega))).ob (A8 _ _ _),
  fun w e x2 hx2 x5 hx5=>(A4 _ An4 O (by
   have:=Ai7 (up6.ext e.size) hx2 hx5 (Nat.le_trans (M3 (O0 l1 l4)) (by omega)) (Nat.le_trans (M3 (O0 l3 l2)) (by omega))
   rw [F1,F1] at this
   exact this)).ob (A8 _ _ _),
  fun w e=>((C3 ty_Z O (k5.ext e) (eZ.csz h2)).eq hv2.symm).ob,
  fun w e=>((C3 ty_Z O (k7.ext e) (eZ.csz h4)).eq hv4.symm).ob,trivial⟩ ?_
 intro w7 e7 x2 hx2 x5 hx5 x6' hx6
 refine .call _ O F9 O (F6 (up6.ext e7.size) (h2.ext e7) (h4.ext e7) (by omega) (by omega)) fun v8 w8 e8 h8=>?_
 have e78:=e7.trans e8
 have hA:(eZn (2*L+1)).R T w8 x6' (zval z1*zval z4-zval z3*zval z2):=Zv.of (hx6.ext e8) (dif_lt (O0 l1 l4) (O0 l3 l2))
 have hB:(eZn (2*L+1)).R T w8 v8 (zval z2*zval z4):=Zv.of h8 (Ac9 (O0 l2 l4) (by omega))
 refine .storeA (E:=eZn (2*L+1)) ty_Z O O (k8.ext e78) O O hA hS8 fun w9 k8' u9 h9=>?_
 refine .storeA (E:=eZn (2*L+1)) ty_Z O O ((k9.ext e78).upd u9 hn89) O O (hB.upd u9 hS8) hS9 fun w10 k10 u10 h10=>.nil (.ret ?_)
 exact .plain [_,_] Tryz.results221 ⟨⟨_,rfl,D3 (E:=eZn (2*L+1)) ty_Z O O (k8'.upd u10 (Ne.symm hn89)) (h9.upd u10 hS9)⟩,⟨_,rfl,D3 (E:=eZn (2*L+1)) ty_Z O O k10 h10⟩,trivial⟩ ⟨u10.below (u9.below (x6.trans e78) hw8) hw9,_,_,rfl,hout (h9.upd u10 hS9),hout h10⟩
theorem At6:Ent Tryz.prog 75:=A0 Tryz.func75 (by kernel_rfl) rfl
theorem Ar7 {S T0:Nat->Prop} {w:World} {va vb:Value} {a b:QV} {L:Nat} (up:Up S w) (upo:Up T0 w) (ha:eQ.R S w va a) (hb:eQ.R S w vb b) (hla:qok L a) (hlb:qok L b) (hL:1<=L) (hL2:L<=100000000000) :
  CR Tryz.prog 75 #[va,vb] w (eQ.at T0 (qc (qval a-qval b))):=by
 have hva:=shpA O ha
 have hvb:=shpA O hb
 have hpa:=P3 a
 have hpb:=P3 b
 have hpp:0<pd a*pd b:=Int.mul_pos hpa hpb
 have hval:qval a-qval b=Rat.divInt (pn a*pd b-pn b*pd a) (pd a*pd b):=by
  unfold qval
  rw [Rat.divInt_sub_divInt _ _ (by omega) (by omega)]
 rw [hval]
 refine enter Tryz.func75 O Tryz.ntmps75 O ?_
 refine .sr (.box O O fun w1 b2 n1=>.box O O fun w2 b3 n2=>.alloc O D2 fun w3 b4 n3=>.nil ?_)
 obtain ⟨e1,k2,hb2,hs1⟩:=n1
 obtain ⟨e2,k3,hb3,hs2⟩:=n2
 obtain ⟨e3,k4,hb4,hs3⟩:=n3
 have x3:=(e1.trans e2).trans e3
 have k2:=(k2.ext e2).ext e3
 have k3:=k3.ext e3
 have hU4:¬ Sx T0 w.heap.size w3.heap.size b4:=Sx.no (by omega) (by omega)
 have upo3:Up (Sx T0 w.heap.size w3.heap.size) w3:=Sx.up upo (Nat.le_refl _) x3.size
 have up3:Up (Sx S w.heap.size w3.heap.size) w3:=Sx.up up (Nat.le_refl _) x3.size
 have ha3:=(ha.par w3.heap.size).ext x3
 have hb3':=(hb.par w3.heap.size).ext x3
 have hout:∀ {W:World} {v:Value} {z:QV},eQ.R (Sx T0 w.heap.size w3.heap.size) W v z->eQ.R T0 W v z:=fun h=>h.out
 have hw4:w.heap.size<=b4:=by omega
 generalize hT:Sx S w.heap.size w3.heap.size=T at *
 generalize hU:Sx T0 w.heap.size w3.heap.size=U at *
 refine .sr (.ldA ty_Q O O k2 (eQ.csz ha) ?_)
 rw [<-hva]
 refine .call _ O D6 O (D5 ha3) fun v4 w4 e4 h4=>?_
 subst h4
 have k2:=k2.ext e4
 have k3:=k3.ext e4
 have k4:=k4.ext e4
 have ha4:=ha3.ext e4
 have hb4':=hb3'.ext e4
 have up4:=up3.ext e4.size
 have upo4:=upo3.ext e4.size
 have x4:=x3.trans e4
 have slow:∀ {W:World},Ext w4 W->CR Tryz.prog 107 #[.int .u8 45,va,vb] W (eQ.at U (qc (Rat.divInt (pn a*pd b-pn b*pd a) (pd a*pd b)))):=fun e =>
  K4 (up4.ext e.size) (upo4.ext e.size) (ha4.ext e) (hb4'.ext e) hla hlb hL hL2 E_op2 O (fun u h1 h2 h3 h4=>op2_c hL2 u h1 h2 h3 h4) (by omega)
 unfold shortV
 cases hsa:shortB a with
 | false =>
  refine .mv O O (.ext O O O (.ext O O O (.ext O O O (.asg O O (.asg O O (.an O O ?_))))))
  refine .sr (.ldA ty_Q O O k3 (eQ.csz hb) ?_)
  rw [<-hvb]
  refine .call _ O D6 O (D5 hb4') fun v5 w5 e5 h5=>?_
  subst h5
  obtain ⟨y1,y2,y3,hy⟩:∃ y1 y2 y3,shortV b=.tuple #[y1,y2,y3]:=by unfold shortV;split<;>exact ⟨_,_,_,rfl⟩
  rw [hy]
  refine .mv O O (.ext O O O (.ext O O O (.ext O O O (.asg O O (.asg O O (.an O O ?_))))))
  refine .seq (.sr (.mv O O (.mv O O (.gs O O O O O (.pick O O O (.nil (.condF O (.skip ?_))))))))
  refine .sr (.ldA ty_Q O O (k2.ext e5) (eQ.csz ha) (.ldA ty_Q O O (k3.ext e5) (eQ.csz hb) ?_))
  rw [<-hva,<-hvb]
  refine .call _ O D9 O (slow e5) fun v6 w6 e6 h6=>?_
  refine .storeA (E:=eQ) ty_Q O O ((k4.ext e5).ext e6) O O h6 hU4 fun w7 k7 u7 h7=>.nil (.ret ?_)
  exact .cell Tryz.results75 O ty_Q O O k7 h7 ⟨u7.below ((x4.trans e5).trans e6) hw4,hout h7⟩
 | true =>
  refine .mv O O (.ext O O O (.ext O O O (.ext O O O (.asg O O (.asg O O (.an O O ?_))))))
  refine .sr (.ldA ty_Q O O k3 (eQ.csz hb) ?_)
  rw [<-hvb]
  refine .call _ O D6 O (D5 hb4') fun v5 w5 e5 h5=>?_
  subst h5
  unfold shortV
  cases hsb:shortB b with
  | false =>
   refine .mv O O (.ext O O O (.ext O O O (.ext O O O (.asg O O (.asg O O (.an O O ?_))))))
   refine .seq (.sr (.mv O O (.mv O O (.gr O O O O (.mv O O (.pick O O O (.nil (.condF O (.skip ?_)))))))))
   refine .sr (.ldA ty_Q O O (k2.ext e5) (eQ.csz ha) (.ldA ty_Q O O (k3.ext e5) (eQ.csz hb) ?_))
   rw [<-hva,<-hvb]
   refine .call _ O D9 O (slow e5) fun v6 w6 e6 h6=>?_
   refine .storeA (E:=eQ) ty_Q O O ((k4.ext e5).ext e6) O O h6 hU4 fun w7 k7 u7 h7=>.nil (.ret ?_)
   exact .cell Tryz.results75 O ty_Q O O k7 h7 ⟨u7.below ((x4.trans e5).trans e6) hw4,hout h7⟩
  | true =>
   have ba:=S6 hsa
   have bb:=S6 hsb
   refine .mv O O (.ext O O O (.ext O O O (.ext O O O (.asg O O (.asg O O (.an O O ?_))))))
   refine .seq (.sr (.mv O O (.mv O O (.gr O O O O (.mv O O (.pick O O O (.nil (.condT O (.sr ?_)))))))))
   generalize pn a=an at *
   generalize pn b=bn at *
   generalize pd a=ad at *
   generalize pd b=bd at *
   have m1:=N5 (x:=an) (y:=bd) (by omega) (by omega) (by omega) (by omega)
   have m2:=N5 (x:=bn) (y:=ad) (by omega) (by omega) (by omega) (by omega)
   have m3:=N5 (x:=ad) (y:=bd) (by omega) (by omega) (by omega) (by omega)
   have m4:=N5 (x:=an) (y:=bn) (by omega) (by omega) (by omega) (by omega)
   refine .mv O O (.mv O O (.mul O O O (.mv O O (.mv O O (.mul O O O (.sub O O O (.mv O O (.mv O O (.mul O O O ?_)))))))))
   rw [wI (n:=an*bd) (by omega),wI (n:=bn*ad) (by omega),wI (n:=ad*bd) (by omega),wI (n:=an*bd-bn*ad) (by omega)]
   refine .call _ O K5 O (K3 (upo4.ext e5.size) hpp (by omega) (by omega) (by omega)) fun v6 w6 e6 h6=>?_
   refine .storeA (E:=eQ) ty_Q O O ((k4.ext e5).ext e6) O O h6 hU4 fun w7 k7 u7 h7=>.nil (.ret ?_)
   exact .cell Tryz.results75 O ty_Q O O k7 h7 ⟨u7.below ((x4.trans e5).trans e6) hw4,hout h7⟩
theorem Ar8 {S:Nat->Prop} {w:World} {va vb:Value} {a b:QV} {L:Nat} (up:Up S w) (ha:eQ.R S w va a) (hb:eQ.R S w vb b) (hla:qok L a) (hlb:qok L b) (hL:1<=L) (hL2:L<=100000000000) :
  CR Tryz.prog 75 #[va,vb] w (eQ.at S (qc (qval a-qval b))):=Ar7 up up ha hb hla hlb hL hL2
theorem H7:Ent Tryz.prog 45:=A0 Tryz.func45 (by kernel_rfl) rfl
theorem H6 {S:Nat->Prop} {w:World} {n:Int} (up:Up S w) (h1 : -9223372036854775808<=n) (h2:n<=9223372036854775807):CR Tryz.prog 45 #[.int .i64 n] w (eQ.at S (qc (n:Rat))):=by
 refine enter Tryz.func45 O Tryz.ntmps45 O ?_
 refine .sr (.alloc O D2 fun w1 b1 n1=>.nil ?_)
 obtain ⟨e1,k1,hb1,hs1⟩:=n1
 have hS:¬ Sx S w.heap.size w1.heap.size b1:=Sx.no (by omega) (by omega)
 have up1:Up (Sx S w.heap.size w1.heap.size) w1:=Sx.up up (Nat.le_refl _) e1.size
 refine .sr (.mv O O ?_)
 refine .call _ O C8 O (C7 up1 h1 h2) fun v2 w2 e2 h2=>?_
 obtain ⟨s,rfl,hs⟩:=h2
 refine .bld _ O O Ah4 ?_
 have hq:eQ.R (Sx S w.heap.size w1.heap.size) w2 (.agg #[.bool (zc n).neg,s,.bool false,.slice none 0 0]) (qc (n:Rat)):=by
  rw [BF1]
  exact ⟨s,_,rfl,hs,RL.nil⟩
 refine .storeA (E:=eQ) ty_Q O O (k1.ext e2) O O hq hS fun w3 k3 u3 h3=>.nil (.ret ?_)
 exact .cell Tryz.results45 O ty_Q O O k3 h3 ⟨u3.below (e1.trans e2) (by omega),h3.out⟩
theorem P7:Ent Tryz.prog 113:=A0 Tryz.func113 (by kernel_rfl) rfl
theorem AA7 {S T0:Nat->Prop} {w:World} {va:Value} {a:QV} {L:Nat} (up:Up S w) (upo:Up T0 w) (ha:eQ.R S w va a) (hla:qok L a) (hL:1<=L) (hL2:L<=1000000000000):CR Tryz.prog 113 #[va] w (eQ.at T0 (qc (qval a))):=by
 have hva:=shpA O ha
 have hpa:=P3 a
 refine enter Tryz.func113 O Tryz.ntmps113 O ?_
 refine .sr (.box O O fun w1 b1 n1=>.alloc O D2 fun w2 b2 n2=>.nil ?_)
 obtain ⟨e1,k1,hb1,hs1⟩:=n1
 obtain ⟨e2,k2,hb2,hs2⟩:=n2
 have x2:=e1.trans e2
 have k1:=k1.ext e2
 have hS:¬ Sx T0 w.heap.size w2.heap.size b2:=Sx.no (by omega) (by omega)
 have upo2:Up (Sx T0 w.heap.size w2.heap.size) w2:=Sx.up upo (Nat.le_refl _) x2.size
 have up2:Up (Sx S w.heap.size w2.heap.size) w2:=Sx.up up (Nat.le_refl _) x2.size
 have ha2:=(ha.par w2.heap.size).ext x2
 have hout:∀ {W:World} {v:Value} {z:QV},eQ.R (Sx T0 w.heap.size w2.heap.size) W v z->eQ.R T0 W v z:=fun h=>h.out
 generalize hT:Sx S w.heap.size w2.heap.size=T at *
 generalize hU:Sx T0 w.heap.size w2.heap.size=U at *
 refine .seq (.sr (.ldA ty_Q O O k1 (eQ.csz ha) ?_))
 rw [<-hva]
 refine .call _ O D6 O (D5 ha2) fun v3 w3 e3 h3=>?_
 subst h3
 unfold shortV
 cases hsa:shortB a with
 | true =>
  have ba:=S6 hsa
  refine .mv O O (.ext O O O (.ext O O O (.ext O O O (.asg O O (.asg O O (.an O O ?_))))))
  refine .sr (.mv O O (.nil (.condT O (.sr (.mv O O (.mv O O ?_))))))
  refine .call _ O K5 O (K3 (upo2.ext e3.size) hpa (by omega) (by omega) (by omega)) fun v4 w4 e4 h4=>?_
  refine .storeA (E:=eQ) ty_Q O O ((k2.ext e3).ext e4) O O h4 hS fun w5 k5 u5 h5=>.nil (.ret ?_)
  exact .cell Tryz.results113 O ty_Q O O k5 h5 ⟨u5.below ((x2.trans e3).trans e4) (by omega),hout h5⟩
 | false =>
  refine .mv O O (.ext O O O (.ext O O O (.ext O O O (.asg O O (.asg O O (.an O O ?_))))))
  refine .sr (.mv O O (.nil (.condF O (.skip ?_))))
  refine .sr (.ldA ty_Q O O (k1.ext e3) (eQ.csz ha) ?_)
  rw [<-hva]
  refine .call _ O AD1 O (AC2 (up2.ext e3.size) (ha2.ext e3) hla hL hL2) fun v4 w4 e4 h4=>?_
  obtain ⟨u1,u2,rfl,h1,h2⟩:=h4
  refine .ext O O O (.ext O O O ?_)
  refine .call _ O Z6 O (Z0 ((up2.ext e3.size).ext e4.size) ((upo2.ext e3.size).ext e4.size) h1 h2 (by omega) hL2) fun v5 w5 e5 h5=>?_
  refine .storeA (E:=eQ) ty_Q O O (((k2.ext e3).ext e4).ext e5) O O h5 hS fun w6 k6 u6 h6=>.nil (.ret ?_)
  exact .cell Tryz.results113 O ty_Q O O k6 h6 ⟨u6.below (((x2.trans e3).trans e4).trans e5) (by omega),hout h6⟩
theorem AA8 {S:Nat->Prop} {w:World} {va:Value} {a:QV} {L:Nat} (up:Up S w) (ha:eQ.R S w va a) (hla:qok L a) (hL:1<=L) (hL2:L<=1000000000000):CR Tryz.prog 113 #[va] w (eQ.at S (qc (qval a))):=AA7 up up ha hla hL hL2
theorem S1:Ent Tryz.prog 46:=A0 Tryz.func46 (by kernel_rfl) rfl
theorem R0 {S:Nat->Prop} {w:World} {va:Value} {a:QV} (ha:eQ.R S w va a):CR Tryz.prog 46 #[va] w (Is (.int .i64 (sgnR (qval a)))):=by
 rw [Ay3]
 obtain ⟨s,t,rfl,hn,hd⟩:=R6 ha
 refine enter Tryz.func46 O Tryz.ntmps46 O ?_
 refine .sr (.box O O fun w1 b1 n1=>.an O O ?_)
 obtain ⟨e1,k1,hb1,hs1⟩:=n1
 refine .seq (.sr (.fa S3 O O (.ldN [.bool a.den.neg,t] ty_Z rfl rfl k1 (by intro j u hu;match j with | 0=>exact hu | 1=>exact hu | j+2=>simp at hu) ?_)))
 refine .call _ O O4 O (M4 (hd.ext e1)) fun v2 w2 e2 h2=>?_
 subst h2
 have x2:=e1.trans e2
 by_cases h0:zval a.den<0
 ·refine .lssT O O O (by rw [Int.sign_eq_neg_one_of_neg h0];decide) (.nil (.condT O (.sr ?_)))
  refine .fa S4 O O (.ldN [.bool a.num.neg,s] ty_Z rfl rfl (k1.ext e2) (by intro j u hu;match j with | 0=>exact hu | 1=>exact hu | j+2=>simp at hu) ?_)
  refine .call _ O O4 O (M4 (hn.ext x2)) fun v3 w3 e3 h3=>?_
  subst h3
  refine .neg O O (.an O O (.ret ?_))
  have hp:pn a = -zval a.num:=by unfold pn;rw [if_pos h0]
  refine .plain [_] Tryz.results46 ⟨rfl,trivial⟩ ⟨x2.trans e3,isI ?_⟩
  rw [hp,Int.sign_neg]
  have : -1<=(zval a.num).sign/\(zval a.num).sign<=1:=by
   rcases Int.lt_trichotomy (zval a.num) 0 with h | h | h
   ·rw [Int.sign_eq_neg_one_of_neg h];decide
   ·rw [h];decide
   ·rw [Int.sign_eq_one_of_pos h];decide
  rw [wI (by omega),Int.zero_sub]
 ·have hs:¬ (zval a.den).sign<0:=fun h=>h0 (Int.sign_neg_iff.1 h)
  refine .lssF O O O hs (.nil (.condF O (.skip (.sr ?_))))
  refine .fa S4 O O (.ldN [.bool a.num.neg,s] ty_Z rfl rfl (k1.ext e2) (by intro j u hu;match j with | 0=>exact hu | 1=>exact hu | j+2=>simp at hu) ?_)
  refine .call _ O O4 O (M4 (hn.ext x2)) fun v3 w3 e3 h3=>?_
  subst h3
  refine .an O O (.ret ?_)
  have hp:pn a=zval a.num:=by unfold pn;rw [if_neg h0]
  exact .plain [_] Tryz.results46 ⟨rfl,trivial⟩ ⟨x2.trans e3,isI (by rw [hp])⟩
end Go.Proofs.YtggegpiffjbngaaGreat
namespace Go.Kx
open Go Go.RowKit
theorem Ah6 {P:Program} (w:World) (base:Nat) (t ty e:TypeId) (i:TypeInfo) (z:Value) (ht:P.underlying t=some (.slice e)) (hi:P.info? e=some i) (hz:i.zero=some z)
  (hzs:z.cells.size=i.size) (hsz:0<i.size) (v:Value) (n:Nat) (xs:List Value) (hown:w.ownsRow base e i.size v n xs)
  (a:Addr) (m c:Nat) (news:List Value) (hl:news.length=m*i.size) (hnews:∀ j u,news[j]?=some u->w.cell? (a.add j)=some u) (h1:∀ u∈news,u.oneCell'=true)
  (h63:n+m<=maxLen) (hbytes:(n+m)*i.bytes<=140737488355328) (hm:m≠0) (v':Value) (w':World) (hr':(Builtin.append_ #[t,t] ty #[v,.slice (some a) m c]).run P w=.ok v' w') :
  v'.ownBlock=v.ownBlock\/v'.ownBlock=some w.heap.size:=by
 have hsmall:n+m<=9223372036854775807:=by simp only [maxLen] at h63;omega
 rcases hown.2 with ⟨rfl,rfl⟩ | ⟨g,cap,cur,rfl,hbg,hg,hnc,hcm,hcs,htake⟩
 ·have hr:=run_append_nil (P:=P) w t ty e i z ht hi hz a m c news hl hnews (by omega) (by omega) (by have hb:=hbytes;simp only [Nat.zero_add] at hb;omega)
  rw [hr] at hr'
  cases hr'
  exact .inr (by simp [Value.ownBlock])
 ·by_cases hroom:n+m<=cap
  ·have hfit:n*i.size+news.length<=cur.size:=by rw [hl,hcs,<-Nat.add_mul];exact Nat.mul_le_mul_right _ hroom
   have hr:=run_append_room (P:=P) w t ty e i ht hi g n cap cur hg a m c news hl hnews h1 hroom hfit
   rw [hr] at hr'
   cases hr'
   exact .inl (by simp [Value.ownBlock])
  ·have holds:∀ j u,xs[j]?=some u->w.cell? ((⟨g,0,none⟩:Addr).add j)=some u:=hown.cells (g:=g) rfl
   have hr:=run_append_grow (P:=P) w t ty e i z ht hi hz ⟨g,0,none⟩ n cap xs hown.1 holds a m c news hl hnews (by omega) (by omega) (growslice_fits (by omega) hbytes)
   rw [hr] at hr'
   cases hr'
   exact .inr (by simp [Value.ownBlock])
def OwnL {α:Type} (E:ER α) (t:TypeId) (base:Nat) (X:Nat->Prop) (w:World) (v:Value) (l:List α):Prop :=
 ∃ es,w.ownsRow base t E.sz v l.length (cellsOf es)/\Els E (fun k=>X k/\v.ownBlock≠some k) w es l
section
variable {α:Type} {E:ER α} {t:TypeId} {base:Nat} {X:Nat->Prop} {w w':World} {v:Value} {l:List α}
theorem AE4 {n:Nat} {xs:List Value} {sz:Nat} (h:w.ownsRow base t sz v n xs) (hk:∀ k cs,base<=k->Blk w k t cs->Blk w' k t cs):w'.ownsRow base t sz v n xs:=by
 refine ⟨h.1,?_⟩
 rcases h.2 with hn | ⟨g,cap,cur,hv,hb,hg,rest⟩
 ·exact .inl hn
 ·exact .inr ⟨g,cap,cur,hv,hb,hk g cur hb hg,rest⟩
theorem OwnL.kp (h:OwnL E t base X w v l) (hk:Kp (fun _=>True) w w'):OwnL E t base X w' v l:=by
 obtain ⟨es,h1,h2⟩:=h
 exact ⟨es,AE4 h1 fun k cs _ hb=>hk.blk trivial hb,h2.keep fun k c t f _ hc=>hk k c t f trivial hc⟩
theorem OwnL.ext (h:OwnL E t base X w v l) (e:Ext w w'):OwnL E t base X w' v l:=h.kp (Kp.ext e)
theorem OwnL.upd {t':TypeId} {b:Nat} {cs:Array Value} (h:OwnL E t base X w v l) (hu:Upd w w' b) (hb:Blk w b t' cs) (ht:t≠t') (hX:¬ X b):OwnL E t base X w' v l:=by
 obtain ⟨es,h1,h2⟩:=h
 refine ⟨es,AE4 h1 fun k c _ hk=>hk.upd hu fun e=>?_,h2.keep (Kp.upd hu fun h=>hX h.1)⟩
 subst e
 have e1:w.heap[k]?=some (.cells c t (0,0)):=hk
 have e2:w.heap[k]?=some (.cells cs t' (0,0)):=hb
 rw [e1] at e2;cases e2;exact ht rfl
theorem BF5 {n sz:Nat} {xs:List Value} {t':TypeId} {b:Nat} {cs:Array Value} (h:w.ownsRow base t sz v n xs) (hg:w.grownBy w' v.ownBlock) (hb:Blk w b t' cs) (ht:t≠t'):Blk w' b t' cs:=by
 refine (hg.block b hb.lt fun e=>?_).trans hb
 rcases h.2 with ⟨rfl,_⟩ | ⟨g,cap,cur,rfl,_,hgg,_⟩
 ·simp [Value.ownBlock] at e
 ·have:b=g:=by simpa [Value.ownBlock] using e
  subst this
  have h2:w.heap[b]?=some (.cells cs t' (0,0)):=hb
  rw [hgg] at h2;cases h2;exact ht rfl
theorem OwnL.gblk {t':TypeId} {b:Nat} {cs:Array Value} (h:OwnL E t base X w v l) (hg:w.grownBy w' v.ownBlock) (hb:Blk w b t' cs) (ht:t≠t'):Blk w' b t' cs:=by
 obtain ⟨es,h1,_⟩:=h
 exact BF5 h1 hg hb ht
theorem OwnL.below {w0:World} (h:OwnL E t base X w v l) (hg:w.grownBy w' v.ownBlock) (hb:Below base w0 w) (hB:base<=w.heap.size):Below base w0 w':=by
 obtain ⟨es,h1,_⟩:=h
 exact hb.grown hg hB fun k hk=>(h1.lt k hk).1
theorem OwnL.oth (h:OwnL E t base X w v l) (hg:w.grownBy w' v.ownBlock):Oth w w':=by
 obtain ⟨es,h1,_⟩:=h
 exact Oth.grown hg h1
theorem OwnL.nil:OwnL E t base X w (.slice none 0 0) ([]:List α):=⟨[],⟨by simp,.inl ⟨rfl,rfl⟩⟩,Els.nil⟩
theorem OwnL.made {b c:Nat} {z:Value} (hz:z.cells.size=E.sz) (hn:New w w' b t (cellsOf (List.replicate c z)).toArray) (hb:base<=w.heap.size) (hc:c<=9223372036854775807):OwnL E t base X w' (.slice (some ⟨b,0,none⟩) 0 c) ([]:List α):=by
 obtain ⟨_,hk,hb',_⟩:=hn
 refine ⟨[],⟨by simp [cellsOf],.inr ⟨b,c,_,rfl,by omega,hk,Nat.zero_le _,by simpa [maxLen] using hc,?_,by simp⟩⟩,Els.nil⟩
 rw [List.size_toArray,B0 (sz:=E.sz) _ (fun e he=>by rw [(List.mem_replicate.1 he).2];exact hz)]
 simp
theorem OwnL.toR {S:Nat->Prop} {hsz:0<E.sz} (h:OwnL E t base X w v l) (hS:∀ k,base<=k->S k) (hX:∀ k,X k->S k):(RL E hsz).R S w v l:=by
 obtain ⟨es,h1,h2⟩:=h
 exact RL.ofOwn h1 O ⟨h2.1,fun i e x he hx=>E.mono (fun k _ hk=>hX k hk.1) (h2.2 i e x he hx)⟩ hS
theorem OwnL.slice (h:OwnL E t base X w v l):∃ a c,v=.slice a l.length c:=by
 obtain ⟨es,h1,_⟩:=h
 rcases h1.2 with ⟨rfl,h0⟩ | ⟨g,cap,cur,rfl,_⟩
 ·exact ⟨none,0,by rw [h0]⟩
 ·exact ⟨_,_,rfl⟩
end
section
variable {P:Program} {σ:Env} {w:World} {d:Option Tmp} {ty:TypeId} {pos:String} {af:Array Edge} {g:Option (Nat×Bool)} {α:Type} {E:ER α}
theorem Ag5 {tt t:TypeId} {x y:Operand} {z:Value} {by_ base b:Nat} {X:Nat->Prop} {v e:Value} {l:List α} {n:α} (hsz:0<E.sz) (ht:P.underlying tt=some (.slice t)) (hi:infoOf P t=some (z,E.sz,by_)) (hzs:z.cells.size=E.sz) (hx:ev σ x=some v) (hy:ev σ y=some (.slice (some ⟨b,0,none⟩) 1 1))
  (hown:OwnL E t base X w v l) {t':TypeId} (hb:Blk w b t' e.cells) (he:E.R (fun k=>X k/\v.ownBlock≠some k) w e n) (hl:l.length<=1000000000) (hby:by_<=100) (hbase:base<=w.heap.size) :
  Gv P ⟨d,.call { callee:=.builtin .append,args:=#[x,y],argTypes:=#[tt,tt] },ty,pos,af,g⟩ σ w fun v' w'=>OwnL E t base X w' v' (l++[n])/\w.grownBy w' v.ownBlock/\(v'.ownBlock=v.ownBlock\/v'.ownBlock=some w.heap.size):=by
 obtain ⟨es,ho,hels⟩:=hown
 obtain ⟨i,hi0,hi1,hi2,hi3⟩:=O1 hi
 refine ⟨(by intro _ h;cases h),fun ρ hρ=>.inl ?_⟩
 have e1:=hρ x _ (by simp [Op.operands,Call.operands]) hx
 have e2:=hρ y _ (by simp [Op.operands,Call.operands]) hy
 have hcs:=E.csz he
 have hl':e.cells.toList.length=1*E.sz:=by simpa using hcs
 have hnews:∀ j u,e.cells.toList[j]?=some u->w.cell? ((⟨b,0,none⟩:Addr).add j)=some u:=by
  intro j u hu
  rw [I9,Nat.zero_add,hb.cell]
  simpa using hu
 have hone:∀ u∈e.cells.toList,u.oneCell'=true:=fun u hu=>AT3 (E.one he u hu)
 have hbytes:(l.length+1)*by_<=140737488355328:=by
  have:(l.length+1)*by_<=1000000001*100:=Nat.mul_le_mul (by omega) hby
  omega
 obtain ⟨v',w',hr,h2,h3,_⟩:=run_append_own (P:=P) w base tt ty t i z E.sz by_ ht hi0 hi1 hi2 hi3 hzs hsz v l.length (cellsOf es) ho ⟨b,0,none⟩ 1 1 e.cells.toList hl' hnews hone (by simp only [maxLen];omega) hbytes hbase
 have hw:=Ah6 (P:=P) w base tt ty t i z ht hi0 hi1 (by rw [hi2];exact hzs) (by rw [hi2];exact hsz) v l.length (cellsOf es) (by rw [hi2];exact ho) ⟨b,0,none⟩ 1 1 e.cells.toList (by rw [hi2];exact hl') hnews hone (by simp only [maxLen];omega) (by rw [hi3];exact hbytes) (by omega) v' w' hr
 refine ⟨v',w',by simp [execOp,resolve,invoke,builtin,e1,e2,hr],⟨es++[e],?_,?_⟩,h3,hw⟩
 ·have:cellsOf (es++[e])=cellsOf es++e.cells.toList:=by simp [cellsOf]
  rw [this,List.length_append];exact h2
 ·have hkeep:Kp (fun k=>X k/\v.ownBlock≠some k) w w':=fun k c t f hk hc=>(h3.block k (Array.getElem?_eq_some_iff.1 hc).1 (fun e=>hk.2 e.symm)).trans hc
  have hmono:∀ {y:α} {u:Value},E.R (fun k=>X k/\v.ownBlock≠some k) w u y->E.R (fun k=>X k/\v'.ownBlock≠some k) w' u y:=by
   intro y u hu
   have h1:=E.lt hu
   have h2:E.R (fun k=>(X k/\v.ownBlock≠some k)/\k<w.heap.size) w' u y:=E.keep (fun k c t f hk hc=>hkeep k c t f hk.1 hc) h1
   refine E.mono (fun k _ hk=>⟨hk.1.1,?_⟩) h2
   rcases hw with h | h
   ·rw [h];exact hk.1.2
   ·rw [h];intro e;cases e;exact Nat.lt_irrefl _ hk.2
  exact Els.snoc ⟨hels.1,fun i e x he hx=>hmono (hels.2 i e x he hx)⟩ (hmono he)
theorem AE8 {tt t:TypeId} {x y:Operand} {z:Value} {by_ base b:Nat} {X:Nat->Prop} {v e:Value} {l:List α} {n:α} (hsz:0<E.sz) (ht:P.underlying tt=some (.slice t)) (hi:infoOf P t=some (z,E.sz,by_)) (hzs:z.cells.size=E.sz) (hx:ev σ x=some v) (hy:ev σ y=some (.slice (some ⟨b,0,none⟩) 1 1))
  (hown:OwnL E t base X w v l) {t':TypeId} (hb:Blk w b t' e.cells) (he:E.R (fun k=>X k/\v.ownBlock≠some k) w e n) (hl:l.length<=1000000000) (hby:by_<=100) (hbase:base<=w.heap.size) :
  Gv P ⟨d,.call { callee:=.builtin .append,args:=#[x,y],argTypes:=#[tt,tt] },ty,pos,af,g⟩ σ w fun v' w'=>OwnL E t base X w' v' (l++[n])/\w.grownBy w' v.ownBlock :=
 (Ag5 hsz ht hi hzs hx hy hown hb he hl hby hbase).mono fun _ _ h=>⟨h.1,h.2.1⟩
end
def EsR {α:Type} (E:ER α) (S:Nat->Prop) (w:World) (v:Value) (es:List Value) (l:List α):Prop:=Els E S w es l/\Row S w E.sz v l.length (cellsOf es)
def PtrX (w:World) (p:Addr) (e:Value):Prop:=∀ (j:Nat) (u:Value),e.cells[j]?=some u->w.cell? (p.add j)=some u
section
variable {α:Type} {E:ER α} {S:Nat->Prop} {w w':World} {v:Value} {es:List Value} {l:List α}
theorem RL.toEs {hsz:0<E.sz} (h:(RL E hsz).R S w v l):∃ es,EsR E S w v es l:=h
theorem EsR.toR {hsz:0<E.sz} (h:EsR E S w v es l):(RL E hsz).R S w v l:=⟨es,h⟩
theorem EsR.keep (h:EsR E S w v es l) (hk:Kp S w w'):EsR E S w' v es l:=⟨h.1.keep hk,h.2.keep hk⟩
theorem EsR.ext (h:EsR E S w v es l) (e:Ext w w'):EsR E S w' v es l:=h.keep (Kp.ext e)
theorem EsR.mono {S':Nat->Prop} (hsz:0<E.sz) (h:EsR E S w v es l) (hk:∀ k,k<w.heap.size->S k->S' k):EsR E S' w v es l:=⟨⟨h.1.1,fun i e x he hx=>E.mono hk (h.1.2 i e x he hx)⟩,h.2.mono hsz hk⟩
theorem EsR.get {z:Value} {x:α} (h:EsR E S w v es l) (hz:E.R S w z x) (k:Nat):E.R S w (es.getD k z) (l.getD k x):=by
 rw [List.getD_eq_getElem?_getD,List.getD_eq_getElem?_getD]
 rcases Nat.lt_or_ge k l.length with hk | hk
 ·have hk':k<es.length:=by rw [h.1.1];exact hk
  rw [List.getElem?_eq_getElem hk,List.getElem?_eq_getElem hk']
  exact h.1.2 k _ _ (List.getElem?_eq_getElem hk') (List.getElem?_eq_getElem hk)
 ·rw [List.getElem?_eq_none hk,List.getElem?_eq_none (by rw [h.1.1];exact hk)]
  exact hz
theorem EsR.at_ (h:EsR E S w v es l) {i:Nat} {e:Value} (hi:es[i]?=some e):∃ ad c,v=.slice (some ad) l.length c/\PtrX w (ad.add (i*E.sz)) e:=by
 obtain ⟨h1,a,c,hv,h2,_,h3,h4⟩:=h
 have hlt:i<l.length:=by
  rcases Nat.lt_or_ge i es.length with h | h
  ·rw [<-h1.1];exact h
  ·rw [List.getElem?_eq_none h] at hi;cases hi
 obtain ⟨ad,ha,hS,hc⟩:=h4 (by omega)
 subst ha
 refine ⟨ad,c,hv,fun j u hu=>?_⟩
 rw [X9]
 refine (hc _ u ?_).1
 have hj:j<E.sz:=by
  have hs:=h1.sz e (List.mem_iff_getElem?.2 ⟨i,hi⟩)
  rcases Nat.lt_or_ge j e.cells.size with h | h
  ·omega
  ·rw [Array.getElem?_eq_none h] at hu;cases hu
 rw [D0 es i j e h1.sz hi hj];exact hu
end
section
variable {P:Program} {ro:Option Nat} {N:Nat} {ds:List Deferred} {ops:Array Oper} {K:Env->World->Prop} {rest:List Oper} {σ:Env} {w:World} {d:Tmp} {ty:TypeId} {pos:String} {af:Array Edge} {α:Type} {E:ER α} {S:Nat->Prop} {v:Value} {es:List Value} {l:List α}
theorem g_ixX {dd:Option Tmp} {gd:Option (Nat×Bool)} {t e:TypeId} {x ix:Operand} {k:IntKind} {i:Nat} {b:Bool} {y:Value} (ht:P.underlying t=some (.slice e)) (he:tyOf P e=some (b,E.sz)) (hx:ev σ x=some v) (h:EsR E S w v es l)
  (hi:ev σ ix=some (.int k (i:Int))) (hy:es[i]?=some y) :
  Gv P ⟨dd,.indexAddr t x ix,ty,pos,af,gd⟩ σ w fun v' w'=>w'=w/\∃ p,v'=.pointer (some p)/\PtrX w p y:=by
 refine ⟨(by intro _ h;cases h),fun ρ hρ=>.inl ?_⟩
 obtain ⟨ad,c,hv,hp⟩:=h.at_ hy
 have h1:=hρ x _ (by simp [Op.operands]) hx
 have h2:=hρ ix _ (by simp [Op.operands]) hi
 have hlt:i<l.length:=by
  rcases Nat.lt_or_ge i es.length with h' | h'
  ·rw [<-h.1.1];exact h'
  ·rw [List.getElem?_eq_none h'] at hy;cases hy
 refine ⟨_,w,?_,rfl,_,rfl,hp⟩
 simp [execOp,h1,h2,hv,Instr.indexAt,asIntOf,run_underlying ht,(G1 he w).2]
 intro hh;omega
theorem WL.ixX {t e:TypeId} {x ix:Operand} {k:IntKind} {i:Nat} {b:Bool} {y:Value} (ht:P.underlying t=some (.slice e)) (he:tyOf P e=some (b,E.sz)) (hd:Nat.blt d N=true) (hx:ev σ x=some v) (h:EsR E S w v es l)
  (hi:ev σ ix=some (.int k (i:Int))) (hy:es[i]?=some y) (kk:∀ p,PtrX w p y->WL P ro N ds ops K rest ((d,.pointer (some p))::σ) w) :
  WL P ro N ds ops K (⟨some d,.indexAddr t x ix,ty,pos,af,none⟩::rest) σ w :=
 WL.gv O hd (g_ixX ht he hx h hi hy) fun v' w' ⟨e1,p,e2,hp⟩=>by subst e1;subst e2;exact kk p hp
theorem Ac8 {dd:Option Tmp} {gd:Option (Nat×Bool)} {t:TypeId} {x:Operand} {p:Addr} {y:Value} {n:α} (ht:tyOf P t=some (E.isA,E.sz)) (hx:ev σ x=some (.pointer (some p))) (hp:PtrX w p y) (hy:E.R S w y n) :
  Vl P ⟨dd,.load t x,ty,pos,af,gd⟩ σ w y:=by
 have hs:=E.shp hy
 have hcs:=E.csz hy
 cases hA:E.isA with
 | true =>
  rw [hA] at hs ht
  simp only [cond_true] at hs
  have:=v_ldPN (P:=P) (d:=dd) (ty:=ty) (pos:=pos) (af:=af) (g:=gd) (cs:=y.cells.toList) (by rw [ht];simp [hcs]) hx (fun j u hu=>hp j u (by simpa using hu))
  rw [hs]
  simpa [Value.cells] using this
 | false =>
  rw [hA] at hs ht
  simp only [cond_false] at hs
  have hc1:y.cells=#[y]:=by
   clear hp hy hcs
   cases y<;>first | rfl | (simp [one1] at hs)
  have h0:y.cells[0]?=some y:=by rw [hc1];rfl
  have:=hp 0 y h0
  rw [show p.add 0=p from rfl] at this
  exact Au7 ht hx this
theorem WL.ldX {t:TypeId} {x:Operand} {p:Addr} {y:Value} {n:α} (ht:tyOf P t=some (E.isA,E.sz)) (hd:Nat.blt d N=true) (hx:ev σ x=some (.pointer (some p))) (hp:PtrX w p y) (hy:E.R S w y n) (k:WL P ro N ds ops K rest ((d,y)::σ) w) :
  WL P ro N ds ops K (⟨some d,.load t x,ty,pos,af,none⟩::rest) σ w:=WL.vl O hd (Ac8 ht hx hp hy) k
end
abbrev zq:Value:=.agg #[.bool false,.slice none 0 0,.bool false,.slice none 0 0]
theorem zq_R {S:Nat->Prop} {w:World}:eQ.R S w zq q0:=⟨_,_,rfl,RL.nil,RL.nil⟩
abbrev nilV:Value:=.slice none 0 0
theorem Ar2 {S:Nat->Prop} {w:World}:eV.R S w nilV []:=RL.nil
end Go.Kx
namespace Go.Proofs.YtggegpiffjbngaaGreat
open Go Go.Kx Go.RowKit
theorem An7:Ent Tryz.prog 210:=A0 Tryz.func210 (by kernel_rfl) rfl
theorem Aj0 {w:World} {va vb:Value} {n n' c c':Nat} {a a':Option Addr} (ha:va=.slice a n c) (hb:vb=.slice a' n' c'):CR Tryz.prog 210 #[va,vb] w (fun v w'=>∃ b1 b2,v=.func (.func 244) #[] #[.pointer (some ⟨b1,0,none⟩),.pointer (some ⟨b2,0,none⟩)] /\
  Blk w' b1 32 #[va]/\Blk w' b2 32 #[vb]/\w.heap.size<=b1/\w.heap.size<=b2):=by
 subst ha;subst hb
 refine enter Tryz.func210 O Tryz.ntmps210 O ?_
 refine .sr ?_
 refine .box O O fun w1 b1 n1=>?_
 obtain ⟨e1,k1,hb1,hs1⟩:=n1
 refine .box O O fun w2 b2 n2=>.an O O ?_
 obtain ⟨e2,k2,hb2,hs2⟩:=n2
 refine .sr ?_
 refine .mkf [] [_,_] O O O O (.an O O (.ret ?_))
 exact .plain [_] Tryz.results210 ⟨rfl,trivial⟩ ⟨e1.trans e2,b1,b2,rfl,k1.ext e2,k2,by omega,by have:=e1.size;omega⟩
theorem A6 {α:Type} {l:List α} {k:Nat} {z:α} (h:k<l.length):l[k]?=some (l.getD k z):=by
 rw [List.getD_eq_getElem?_getD,List.getElem?_eq_getElem h];rfl
theorem Q9 {α:Type} {l:List α} {k:Nat} {z:α} (h:l.length<=k):l.getD k z=z:=by
 rw [List.getD_eq_getElem?_getD,List.getElem?_eq_none h];rfl
theorem BB7:Ent Tryz.prog 244:=A0 Tryz.func244 (by kernel_rfl) rfl
theorem Ax8 {S:Nat->Prop} {a b:List QV} {esa esb:List Value} {va vb:Value} {b1 b2:Nat} (hla:a.length<=9223372036854775806) (hlb:b.length<=9223372036854775806):Iter Tryz.prog 244 #[.pointer (some ⟨b1,0,none⟩),.pointer (some ⟨b2,0,none⟩)] (max a.length b.length)
  (fun k=>[esa.getD k zq,esb.getD k zq]) (fun W=>Blk W b1 32 #[va]/\Blk W b2 32 #[vb]/\EsR eQ S W va esa a/\EsR eQ S W vb esb b):=by
 intro l J X stJ stX hF hy W hJ
 have hF0:=hF 0 W hJ
 refine enterG Tryz.func244 O Tryz.ntmps244 O ?_
 refine .sr (.ld ty_V O O hF0.1 O (.lenR un_V O O (hF0.2.2.1.toR (hsz:=by decide)) (.ld ty_V O O hF0.2.1 O (.lenR un_V O O (hF0.2.2.2.toR (hsz:=by decide)) (.max_ O O O (.mv O O (.nil ?_)))))))
 refine .block (.loop (α:=Nat) (fun k=>[(12,.int .i64 (k:Nat)),(11,.int .i64 ((max a.length b.length:Nat):Int)),(0,.func (.yield l) #[] #[]),(1,.pointer (some ⟨b1,0,none⟩)),(2,.pointer (some ⟨b2,0,none⟩))]) (fun k W=>J k W/\k<=max a.length b.length) (fun k=>max a.length b.length-k) 0 ?_ ?_ ?_)
 ·refine A5 O (A5 ?_ (lkA O))
  show some (Value.int .i64 (max (a.length:Int) (b.length:Int)))=_
  rw [show (max (a.length:Int) (b.length:Int))=((max a.length b.length:Nat):Int) by omega]
 ·exact ⟨hJ,Nat.zero_le _⟩
 ·rintro k W ⟨hJ,hk⟩
  have hF:=hF k W hJ
  obtain ⟨hB1,hB2,hA,hB⟩:=hF
  by_cases hlt:k<max a.length b.length
  ·refine .sr (.lssT O O O (by omega) (.nil (.seq (.condT O (.skip ?_)))))
   refine .seq (.block (.sr (.mv O O (.an O O (.sr (.alloc O D2 fun w1 c5 n1=>.alloc O D2 fun w2 c6 n2=>.nil ?_))))))
   obtain ⟨e1,k5,hc5,hs1⟩:=n1
   obtain ⟨e2,k6,hc6,hs2⟩:=n2
   have x2:=e1.trans e2
   have k5:=k5.ext e2
   have hxa:=ER.lt eQ (hA.get zq_R k)
   have hxb:=ER.lt eQ (hB.get zq_R k)
   have hva:=shpA O hxa
   have hvb:=shpA O hxb
   refine .mid (α:=Unit) (fun _=>[(5,.pointer (some ⟨c5,0,none⟩)),(6,.pointer (some ⟨c6,0,none⟩)),(4,.int .i64 (k:Nat)),(12,.int .i64 (k:Nat)),(11,.int .i64 ((max a.length b.length:Nat):Int)),(0,.func (.yield l) #[] #[]),(1,.pointer (some ⟨b1,0,none⟩)),(2,.pointer (some ⟨b2,0,none⟩))])
    (fun _ W'=>Ext W W'/\Blk W' c5 54 (esa.getD k zq).cells/\Blk W' c6 54 zq.cells) ?_ ?_
   ·refine .sr (.mv O O (.ld ty_V O O (hB1.ext x2) O (.lenR un_V O O ((hA.ext x2).toR (hsz:=by decide)) ?_)))
    by_cases hlt:k<a.length
    ·refine .lssT O O O (by omega) (.nil (.condT O (.region (.ld ty_V O O (hB1.ext x2) O (.mv O O ?_)))))
     refine .ixX un_V ty_Q O O (hA.ext x2) O (A6 (z:=zq) (by rw [hA.1.1];exact hlt)) fun p hp=>.ldX (E:=eQ) ty_Q O O hp (hxa.ext x2) ?_
     refine .storeA (E:=eQ) ty_Q O O k5 O O (hxa.ext x2) (fun h=>by have:=h.2;omega) fun w3 k3 u3 h3=>.nil ⟨rfl,(),?_,u3.below x2 (by omega),k3,k6.upd u3 (by omega)⟩
     exact lkA rfl
    ·refine .lssF O O O (by omega) (.nil (.condF O (.skip ⟨rfl,(),?_,x2,?_,k6⟩)))
     ·exact lkA rfl
     ·rw [Q9 (by rw [hA.1.1];omega)];exact k5
   ·rintro _ W' ⟨x3,k5,k6⟩
    refine .mid (α:=Unit) (fun _=>[(5,.pointer (some ⟨c5,0,none⟩)),(6,.pointer (some ⟨c6,0,none⟩)),(12,.int .i64 (k:Nat)),(11,.int .i64 ((max a.length b.length:Nat):Int)),(0,.func (.yield l) #[] #[]),(1,.pointer (some ⟨b1,0,none⟩)),(2,.pointer (some ⟨b2,0,none⟩))])
     (fun _ W'=>Ext W W'/\Blk W' c5 54 (esa.getD k zq).cells/\Blk W' c6 54 (esb.getD k zq).cells) ?_ ?_
    ·refine .sr (.mv O O (.ld ty_V O O (hB2.ext x3) O (.lenR un_V O O ((hB.ext x3).toR (hsz:=by decide)) ?_)))
     by_cases hlt:k<b.length
     ·refine .lssT O O O (by omega) (.nil (.condT O (.region (.ld ty_V O O (hB2.ext x3) O (.mv O O ?_)))))
      refine .ixX un_V ty_Q O O (hB.ext x3) O (A6 (z:=zq) (by rw [hB.1.1];exact hlt)) fun p hp=>.ldX (E:=eQ) ty_Q O O hp (hxb.ext x3) ?_
      refine .storeA (E:=eQ) ty_Q O O k6 O O (hxb.ext x3) (fun h=>by have:=h.2;omega) fun w3 k3 u3 h3=>.nil ⟨rfl,(),?_,u3.below x3 (by omega),k5.upd u3 (by omega),k3⟩
      exact lkA rfl
     ·refine .lssF O O O (by omega) (.nil (.condF O (.skip ⟨rfl,(),?_,x3,k5,?_⟩)))
      ·exact lkA rfl
      ·rw [Q9 (by rw [hB.1.1];omega)];exact k6
    ·rintro _ W'' ⟨x4,k5,k6⟩
     refine .sr (.mv O O (.ldA ty_Q O O k5 (eQ.csz hxa) (.ldA ty_Q O O k6 (eQ.csz hxb) ?_)))
     rw [<-hva,<-hvb]
     refine .yld (l:=l) [esa.getD k zq,esb.getD k zq] (R:=fun v w'=>(v=.bool true/\J (k+1) w')\/(v=.bool false/\X w')) O O O ?_ ?_
     ·refine YieldAt.mono (hy k _ hlt (stJ _ _ _ hJ x4)) ?_
      rintro e W' (⟨rfl,h⟩ | ⟨rfl,h⟩)
      ·exact ⟨_,rfl,.inl ⟨rfl,h⟩⟩
      ·exact ⟨_,rfl,.inr ⟨rfl,h⟩⟩
     ·rintro v w' (⟨rfl,h⟩ | ⟨rfl,h⟩)
      ·refine .not_ O O (.nil (.condF O (.skip (.region (.add O O O (.mv O O (.nil ?_)))))))
       rw [wI (by omega)]
       exact ⟨rfl,k+1,lkA rfl,⟨h,by omega⟩,by omega⟩
      ·refine .not_ O O (.nil (.condT O (.ret ?_)))
       exact .plain [] Tryz.results244 trivial (.inr h)
  ·refine .sr (.lssF O O O (by omega) (.nil (.seq (.condF O (.exit ?_)))))
   refine .plain [] Tryz.results244 trivial ?_
   have:k=max a.length b.length:=by omega
   subst this;exact .inl hJ
end Go.Proofs.YtggegpiffjbngaaGreat
namespace Go.Kx
open Go Go.RowKit
theorem WC.rangeA {P:Program} {N:Nat} {Q:Pst} {σ:Env} {ds:List Deferred} {w:World} {g:Operand} {ps:List Tmp} {assign body:Code} {gf:FuncId} {lb:Array Value} {n:Nat} {xs:Nat->List Value} {F:World->Prop}
  (hit:Iter P gf lb n xs F) (hg:ev σ g=some (.func (.func gf) #[] lb)) (hE:Ent P gf) (hps:∀ k,(xs k).length=ps.length) (hpN:∀ p∈ps,p<N)
  (J:Nat->World->Prop) (Jx:Code->World->Prop) (stJ:∀ k W W',J k W->Sft w.heap.size W W'->J k W') (stX:∀ c W W',Jx c W->Sft w.heap.size W W'->Jx c W') (hF:∀ k W,J k W->F W) (h0:J 0 w)
  (hbody:∀ l k W,k<n->J k W->w.heap.size<=W.heap.size->WC P (some l) N (thn (fun σ1 ds1 W1=>ds1=[]/\Ext W W1/\∀ W2,Sft w.heap.size W1 W2->W2.heap.size=W1.heap.size->WC P (some l) N (rnd (J (k+1)) Jx W2) body σ1 [] W2) (fun _ _ _ _=>False)) assign (penv ps (xs k) σ) [] W)
  (hdone:∀ W,J n W->W.heap[w.heap.size]?=some (.deferred (some []))->Q .normal σ ({ target:=.collected w.heap.size,args:=#[] }::ds) W)
  (hjump:∀ c W,Jx c W->W.heap[w.heap.size]?=some (.deferred (some []))->WC P none N Q c σ ({ target:=.collected w.heap.size,args:=#[] }::ds) W) :
  WC P none N Q (.rangeFunc g ps.toArray assign body) σ ds w:=by
 refine ⟨fun a ha=>wpIn_rangeFunc fun fn _=>?_⟩
 have hev:=ha.ev hg
 let rec0:Loop:={ state:=.ready,pending:=none,fn:=fn,tmps:=a.tmps,params:=ps.toArray,assign:=assign,body:=body,defers:=w.heap.size }
 refine ⟨w.heap.size+1,[{ target:=.collected w.heap.size,args:=#[] }],(w.alloc (.deferred (some []))).alloc (.loop rec0),{ target:=.fn (.func gf) lb,args:=#[.func (.yield (w.heap.size+1)) #[] #[]] },(w.alloc (.deferred (some []))).alloc (.loop rec0),gf,#[.func (.yield (w.heap.size+1)) #[] #[]]++lb,(w.alloc (.deferred (some []))).alloc (.loop rec0),
  run_enterLoop_outer fn a.tmps ps.toArray assign body,?_,fun _ _=>trivial,?_,(fun h=>(by cases h)),?_⟩
 ·simp only [resolve];rw [hev];simp [Deferred.ofValue,rec0];rfl
 ·simp [invoke,hE _ _]
 let l:=w.heap.size+1
 let D:=w.heap.size
 have hne:D≠l:=by show w.heap.size≠w.heap.size+1;omega
 let Jt:Nat->World->Prop:=fun k W=>J k W/\W.heap[l]?=some (.loop rec0)/\W.heap[D]?=some (.deferred (some []))
 let Xt:World->Prop:=fun W=>∃ c,Jx c W/\W.heap[l]?=some (.loop { rec0 with state:=.done,pending:=some c })/\W.heap[D]?=some (.deferred (some []))
 have hlt:∀ {W:World} {o:Obj},W.heap[l]?=some o->l<W.heap.size:=fun h=>(Array.getElem?_eq_some_iff.1 h).1
 have hlt':∀ {W:World} {o:Obj},W.heap[D]?=some o->D<W.heap.size:=fun h=>(Array.getElem?_eq_some_iff.1 h).1
 have hstart:Jt 0 ((w.alloc (.deferred (some []))).alloc (.loop rec0)):=by
  have e1:=U4 w (.deferred (some []))
  have e2:=U4 (w.alloc (.deferred (some []))) (.loop rec0)
  refine ⟨stJ 0 _ _ h0 (Sft.ext (e1.trans e2) (Nat.le_refl _)),?_,?_⟩
  ·have:=World.alloc_heap_new (w.alloc (.deferred (some []))) (.loop rec0)
   rwa [World.size_alloc] at this
  ·exact (e2.block D (by rw [World.size_alloc];show w.heap.size<w.heap.size+1;omega)).trans (World.alloc_heap_new w _)
 have hcall:=hit l Jt Xt
  (fun k W W' ⟨h1,h2,h3⟩ e=>⟨stJ k W W' h1 (Sft.ext e (Nat.le_of_lt (hlt' h3))),(e.block l (hlt h2)).trans h2,(e.block D (hlt' h3)).trans h3⟩)
  (fun W W' ⟨c,h1,h2,h3⟩ e=>⟨c,stX c W W' h1 (Sft.ext e (Nat.le_of_lt (hlt' h3))),(e.block l (hlt h2)).trans h2,(e.block D (hlt' h3)).trans h3⟩)
  (fun k W h=>hF k W h.1)
  (fun k W hk ⟨hJ,hl,hD⟩=>by
   refine ⟨fn,(ps.zip (xs k)).foldl (fun t p=>t.setIfInBounds p.1 p.2) a.tmps,assign,body,?_,?_⟩
   ·have:=run_yield (P:=P) (w:=W) (l:=l) (r:=rec0) (args:=(xs k).toArray) hl (by simp [rec0,hps])
    rw [this]
    simp [rec0]
   ·refine roundIn_of_wpIn trivial ?_
    have hag:Agr N (penv ps (xs k) σ) [] { tmps:=(ps.zip (xs k)).foldl (fun t p=>t.setIfInBounds p.1 p.2) a.tmps,defers:=[] } :=
     AL1 ps (xs k) σ a.tmps hpN ⟨ha.size,rfl,ha.slot⟩
    refine wpIn_mono ((hbody l k W hk hJ (Nat.le_of_lt (hlt' hD))).out _ hag) ?_
    rintro e a₁ w₁ ⟨σ1,ds1,hag1,hq⟩
    cases e with
    | normal =>
     obtain ⟨rfl,hx1,hb⟩:=hq
     have hl:=(Oth.ext hx1) l _ hl rfl
     have hD:=(Oth.ext hx1) D _ hD rfl
     have hput:(w₁.putObj l (.loop { rec0 with state:=.busy })).heap[l]?=some (.loop { rec0 with state:=.busy }):=World.putObj_heap_same (hlt hl)
     have hputD:(w₁.putObj l (.loop { rec0 with state:=.busy })).heap[D]?=some (.deferred (some [])):=by rw [World.putObj_heap_other hne];exact hD
     refine ⟨_,run_beginRound hl rfl,wpIn_mono ((hb _ (Sft.put (show D<=l by show w.heap.size<=w.heap.size+1;omega) hl O) (World.putObj_size ..)).out a₁ hag1) ?_⟩
     have hend:∀ (W':World) (j:Option Code),Oth (w₁.putObj l (.loop { rec0 with state:=.busy })) W' ->
       (Instr.endRound l j).run P W'=.ok (.bool j.isNone) (W'.putObj l (.loop { rec0 with state:=if j.isNone then .ready else .done,pending:=j })) /\
       Sft D W' (W'.putObj l (.loop { rec0 with state:=if j.isNone then .ready else .done,pending:=j })) /\
       (W'.putObj l (.loop { rec0 with state:=if j.isNone then .ready else .done,pending:=j })).heap[l]?=some (.loop { rec0 with state:=if j.isNone then .ready else .done,pending:=j }) /\
       (W'.putObj l (.loop { rec0 with state:=if j.isNone then .ready else .done,pending:=j })).heap[D]?=some (.deferred (some [])):=by
      intro W' j ho
      have h1:=ho l _ hput rfl
      have h2:=ho D _ hputD rfl
      refine ⟨run_endRound (r:={ rec0 with state:=.busy }) j h1,Sft.put (show D<=l by show w.heap.size<=w.heap.size+1;omega) h1 rfl,World.putObj_heap_same (hlt h1),?_⟩
      rw [World.putObj_heap_other hne];exact h2
     rintro e2 a₂ w₂ ⟨σ2,ds2,hag2,hq2⟩
     cases e2 with
     | normal =>
      obtain ⟨ho,hj⟩:=hq2
      obtain ⟨h1,h2,h3,h4⟩:=hend w₂ none ho
      exact ⟨_,_,h1,.inl ⟨rfl,stJ _ _ _ hj h2,h3,h4⟩⟩
     | ret =>
      obtain ⟨ho,hj⟩:=hq2
      obtain ⟨h1,h2,h3,h4⟩:=hend w₂ (some .ret) ho
      exact ⟨_,_,h1,.inr ⟨rfl,.ret,stX _ _ _ hj h2,h3,h4⟩⟩
     | exit id =>
      obtain ⟨ho,hj⟩:=hq2
      obtain ⟨h1,h2,h3,h4⟩:=hend w₂ (some (.exit id)) ho
      exact ⟨_,_,h1,.inr ⟨rfl,.exit id,stX _ _ _ hj h2,h3,h4⟩⟩
     | _=>exact hq2.elim
    | _=>exact hq.elim)
  _ hstart
 refine AL0.2 (hcall.mono ?_)
 have hag':Agr N σ ({ target:=.collected w.heap.size,args:=#[] }::ds) { tmps:=a.tmps,defers:=[{ target:=.collected w.heap.size,args:=#[] }]++a.defers }:=⟨ha.size,by rw [ha.defs];rfl,ha.slot⟩
 rintro e W ⟨v,rfl,hres⟩
 rcases hres with ⟨hJ,hl,hD⟩ | ⟨c,hX,hl,hD⟩
 ·refine ⟨none,_,run_endLoop hl (by simp [rec0]),?_⟩
  refine ⟨σ,_,hag',hdone _ (stJ _ _ _ hJ (Sft.put (show D<=l by show w.heap.size<=w.heap.size+1;omega) hl O)) ?_⟩
  rw [World.putObj_heap_other hne];exact hD
 ·refine ⟨some c,_,run_endLoop hl (by simp),?_⟩
  refine (hjump c _ (stX _ _ _ hX (Sft.put (show D<=l by show w.heap.size<=w.heap.size+1;omega) hl O)) ?_).out _ hag'
  rw [World.putObj_heap_other hne];exact hD
def FB {α:Type} (E:ER α) (t:TypeId) (S:Nat->Prop) (w:World) (g:Nat) (l:List α):Prop :=
 ∃ es,Blk w g t (cellsOf es).toArray/\Els E (fun k=>S k/\k≠g) w es l
theorem X8 {sz:Nat} (hsz:0<sz) (es:List Value) (i:Nat) (v:Value) (hs:∀ e∈es,e.cells.size=sz) (hv:v.cells.size=sz) (hi:i<es.length) :
  wrt (cellsOf es).toArray (i*sz) v.cells.toList=(cellsOf (es.set i v)).toArray:=by
 have hs':∀ e∈es.set i v,e.cells.size=sz:=fun e he=>by
  rcases List.mem_or_eq_of_mem_set he with h | h
  ·exact hs e h
  ·rw [h];exact hv
 have hl:=B0 es hs
 have hl':=B0 (es.set i v) hs'
 rw [List.length_set] at hl'
 have hle:i*sz+sz<=es.length*sz:=by rw [<-Nat.succ_mul];exact Nat.mul_le_mul_right _ hi
 apply Array.ext_getElem?
 intro j
 rw [AF5 _ _ _ _ (by simp only [Array.length_toList,hv,List.size_toArray,hl];exact hle)]
 simp only [Array.length_toList,hv,List.getElem?_toArray,Array.getElem?_toList]
 rcases Nat.lt_or_ge j (es.length*sz) with hj | hj
 ·have hq:j / sz<es.length:=(Nat.div_lt_iff_lt_mul hsz).2 hj
  have hr:j % sz<sz:=Nat.mod_lt _ hsz
  have hjd:(j / sz)*sz+j % sz=j:=by rw [Nat.mul_comm];exact Nat.div_add_mod j sz
  by_cases he:j / sz=i
  ·have h1:i*sz<=j/\j<i*sz+sz:=by rw [he] at hjd;omega
   rw [if_pos h1]
   have h2:(es.set i v)[i]?=some v:=by rw [List.getElem?_set_self hi]
   have:=D0 (es.set i v) i (j % sz) v hs' h2 hr
   rw [he] at hjd
   rw [hjd] at this
   rw [this]
   congr 1;omega
  ·have h1:¬ (i*sz<=j/\j<i*sz+sz):=by
    intro ⟨ha,hb⟩
    apply he
    have h3:i<=j / sz:=(Nat.le_div_iff_mul_le hsz).2 ha
    have h4:j / sz<i+1:=(Nat.div_lt_iff_lt_mul hsz).2 (by rw [Nat.succ_mul];exact hb)
    omega
   rw [if_neg h1]
   obtain ⟨e,hee⟩:∃ e,es[j / sz]?=some e:=⟨_,List.getElem?_eq_getElem hq⟩
   have g1:=D0 es (j / sz) (j % sz) e hs hee hr
   have g2:=D0 (es.set i v) (j / sz) (j % sz) e hs' (by rw [List.getElem?_set_ne (fun h=>he h.symm)];exact hee) hr
   rw [hjd] at g1 g2
   rw [g1,g2]
 ·rw [if_neg (by omega),List.getElem?_eq_none (by omega),List.getElem?_eq_none (by omega)]
section
variable {α:Type} {E:ER α} {t:TypeId} {S:Nat->Prop} {w w':World} {g:Nat} {l:List α}
theorem FB.lt (h:FB E t S w g l):g<w.heap.size:=by obtain ⟨es,hb,_⟩:=h;exact hb.lt
theorem FB.kp (h:FB E t S w g l) (hk:Kp (fun _=>True) w w'):FB E t S w' g l:=by
 obtain ⟨es,hb,he⟩:=h
 exact ⟨es,hk.blk trivial hb,he.keep fun k c t f _ hc=>hk k c t f trivial hc⟩
theorem FB.ext (h:FB E t S w g l) (e:Ext w w'):FB E t S w' g l:=h.kp (Kp.ext e)
theorem FB.upd {b:Nat} (h:FB E t S w g l) (u:Upd w w' b) (hne:g≠b) (hS:¬ S b):FB E t S w' g l:=by
 obtain ⟨es,hb,he⟩:=h
 exact ⟨es,hb.upd u hne,he.keep (Kp.upd u fun h=>hS h.1)⟩
theorem FB.mono {S':Nat->Prop} (h:FB E t S w g l) (hk:∀ k,k<w.heap.size->S k->S' k):FB E t S' w g l:=by
 obtain ⟨es,hb,he⟩:=h
 exact ⟨es,hb,he.1,fun i e x h1 h2=>E.mono (fun k hl hh=>⟨hk k hl hh.1,hh.2⟩) (he.2 i e x h1 h2)⟩
theorem FB.made {c:Nat} {z:Value} {z0:α} (hn:New w w' g t (cellsOf (List.replicate c z)).toArray) (hz:E.R (fun k=>S k/\k≠g) w' z z0):FB E t S w' g (List.replicate c z0):=by
 refine ⟨List.replicate c z,hn.2.1,by simp,fun i e x he hx=>?_⟩
 have h1:e=z:=by
  have:=List.mem_iff_getElem?.2 ⟨i,he⟩
  exact (List.mem_replicate.1 this).2
 have h2:x=z0:=by
  have:=List.mem_iff_getElem?.2 ⟨i,hx⟩
  exact (List.mem_replicate.1 this).2
 subst h1;subst h2;exact hz
theorem FB.toR {hsz:0<E.sz} {c:Nat} (h:FB E t S w g l) (hS:S g) (hc:l.length<=c) (hm:l.length<=9223372036854775807):(RL E hsz).R S w (.slice (some ⟨g,0,none⟩) l.length c) l:=by
 obtain ⟨es,hb,he⟩:=h
 exact RL.ofBlk hb hS ⟨he.1,fun i e x h1 h2=>E.mono (fun k _ hh=>hh.1) (he.2 i e x h1 h2)⟩ (fun j u hu=>by rw [List.getElem?_toArray];exact hu) hc hm
end
section
variable {P:Program} {ro:Option Nat} {N:Nat} {ds:List Deferred} {ops:Array Oper} {K:Env->World->Prop} {rest:List Oper} {σ:Env} {w:World} {d:Tmp} {ty:TypeId} {pos:String} {af:Array Edge} {α:Type} {E:ER α} {S:Nat->Prop}
theorem AA6 {dd:Option Tmp} {gd:Option (Nat×Bool)} {t t':TypeId} {x y:Operand} {g i o n:Nat} {a:Bool} {l:List α} {v:Value} {z:α} (hsz:0<E.sz) (ht:tyOf P t=some (a,n)) (hx:ev σ x=some (.pointer (some ⟨g,o,none⟩))) (hy:ev σ y=some v) (hb:FB E t' S w g l)
  (hn:E.sz=n) (hi:i<l.length) (ho:o=i*E.sz) (hz:E.R (fun k=>S k/\k≠g) w v z) :
  Gv P ⟨dd,.store t x y,ty,pos,af,gd⟩ σ w fun _ w'=>FB E t' S w' g (l.set i z)/\Upd w w' g:=by
 obtain ⟨es,hB,he⟩:=hb
 have hcs:=E.csz hz
 subst ho
 have hl:=B0 es he.sz
 have hie:i<es.length:=by rw [he.1];exact hi
 have hle:i*E.sz+n<=(cellsOf es).toArray.size:=by
  rw [List.size_toArray,hl,<-hn,<-Nat.succ_mul];exact Nat.mul_le_mul_right _ hie
 refine (J0 ht hx hy hB (by omega) hle (E.one hz)).mono ?_
 rintro _ w' ⟨hB',u⟩
 rw [X8 hsz es i v he.sz hcs hie] at hB'
 refine ⟨⟨es.set i v,hB',?_⟩,u⟩
 have:=Els.set he i hz
 exact this.keep (Kp.upd u fun h=>h.2 O)
theorem WL.storeF {t t':TypeId} {x y:Operand} {g i o n:Nat} {a:Bool} {l:List α} {v:Value} {z:α} (hsz:0<E.sz) (ht:tyOf P t=some (a,n)) (hx:ev σ x=some (.pointer (some ⟨g,o,none⟩))) (hy:ev σ y=some v) (hb:FB E t' S w g l)
  (hn:E.sz=n) (hi:i<l.length) (ho:o=i*E.sz) (hz:E.R (fun k=>S k/\k≠g) w v z) (k:∀ w',FB E t' S w' g (l.set i z)->Upd w w' g->WL P ro N ds ops K rest σ w') :
  WL P ro N ds ops K (⟨none,.store t x y,ty,pos,af,none⟩::rest) σ w :=
 WL.gv O O (AA6 hsz ht hx hy hb hn hi ho hz) fun _ w' ⟨h1,h2⟩=>k w' h1 h2
end
def fil {α:Type} (n i:Nat) (f:Nat->α) (z:α):List α:=(List.range n).map fun j=>if j<i then f j else z
theorem R4 {α:Type} (n:Nat) (f:Nat->α) (z:α):fil n 0 f z=List.replicate n z:=by
 unfold fil
 simp [List.map_const']
theorem AO2 {α:Type} (n:Nat) (f:Nat->α) (z:α):fil n n f z=(List.range n).map f:=by
 unfold fil
 apply List.map_congr_left
 intro j hj
 rw [if_pos (List.mem_range.1 hj)]
theorem L4 {α:Type} (n i:Nat) (f:Nat->α) (z:α):(fil n i f z).length=n:=by simp [fil]
theorem X6 {α:Type} (n i:Nat) (f:Nat->α) (z:α):(fil n i f z).set i (f i)=fil n (i+1) f z:=by
 apply List.ext_getElem?
 intro j
 unfold fil
 rw [List.getElem?_set]
 by_cases hj:i=j
 ·subst hj
  by_cases h:i<n
  ·simp [h]
  ·simp [h]
 ·rw [if_neg hj,List.getElem?_map,List.getElem?_map]
  by_cases h:j<n
  ·simp only [List.getElem?_range h,Option.map_some]
   by_cases h1:j<i
   ·simp [h1,show j<i+1 by omega]
   ·simp [h1,show ¬ j<i+1 by omega]
  ·rw [List.getElem?_eq_none (by simpa using h)];rfl
def qk (L:Nat) (q:QV):Prop:=qok L q/\Rsz (qval q) L
theorem qk.mono {q:QV} {L M:Nat} (h:qk L q) (hl:L<=M):qk M q:=⟨h.1.mono hl,h.2.mono hl⟩
theorem AH8 {r:Rat} {L:Nat} (h:Rsz r L):qk L (qc r):=⟨h.toOk,by rw [C9];exact h⟩
theorem qk_q0 {L:Nat} (hL:1<=L):qk L q0:=by rw [<-S8];exact AH8 (Rsz.zero hL)
def vk (L:Nat) (a:List QV):Prop:=∀ q∈a,qk L q
def mk_ (L:Nat) (m:List (List QV)):Prop:=∀ r∈m,vk L r
theorem vk.mono {a:List QV} {L M:Nat} (h:vk L a) (hl:L<=M):vk M a:=fun q hq=>(h q hq).mono hl
theorem mk_.mono {a:List (List QV)} {L M:Nat} (h:mk_ L a) (hl:L<=M):mk_ M a:=fun q hq=>(h q hq).mono hl
theorem U6 {α:Type} {P:α->Prop} {l:List α} {z:α} (h:∀ x∈l,P x) (hz:P z) (k:Nat):P (l.getD k z):=by
 rw [List.getD_eq_getElem?_getD]
 cases hk:l[k]? with
 | none=>exact hz
 | some x=>exact h x (List.mem_iff_getElem?.2 ⟨k,hk⟩)
theorem vk.get {a:List QV} {L:Nat} (h:vk L a) (hL:1<=L) (k:Nat):qk L (a.getD k q0):=U6 h (qk_q0 hL) k
theorem Ap6 {L:Nat}:vk L []:=fun q hq=>by cases hq
theorem mk_.get {a:List (List QV)} {L:Nat} (h:mk_ L a) (k:Nat):vk L (a.getD k []):=U6 h Ap6 k
def rv (a:List QV) (k:Nat):Rat:=qval (a.getD k q0)
def rm (m:List (List QV)) (i k:Nat):Rat:=rv (m.getD i []) k
theorem AQ3 {a:List QV} {k:Nat} (h:a.length<=k):rv a k=0:=by
 unfold rv
 rw [List.getD_eq_getElem?_getD,List.getElem?_eq_none h];exact Av9
theorem AQ4 (k:Nat):rv [] k=0:=AQ3 (Nat.zero_le _)
theorem Aq5 {m:List (List QV)} {i k:Nat} (h:m.length<=i):rm m i k=0:=by
 unfold rm
 rw [List.getD_eq_getElem?_getD,List.getElem?_eq_none h];exact AQ4 k
theorem vk.rsz {a:List QV} {L:Nat} (h:vk L a) (hL:1<=L) (k:Nat):Rsz (rv a k) L:=(h.get hL k).2
theorem mk_.rsz {m:List (List QV)} {L:Nat} (h:mk_ L m) (hL:1<=L) (i k:Nat):Rsz (rm m i k) L:=(h.get i).rsz hL k
def tab (n:Nat) (f:Nat->Rat):List QV:=(List.range n).map fun k=>qc (f k)
def tabM (n c:Nat) (f:Nat->Nat->Rat):List (List QV):=(List.range n).map fun i=>tab c (f i)
theorem A1 (n:Nat) (f:Nat->Rat):(tab n f).length=n:=by simp [tab]
theorem B3 (n c:Nat) (f:Nat->Nat->Rat):(tabM n c f).length=n:=by simp [tabM]
theorem N2 (n:Nat) (f:Nat->Rat) (k:Nat):rv (tab n f) k=if k<n then f k else 0:=by
 unfold rv tab
 by_cases h:k<n
 ·rw [if_pos h,List.getD_eq_getElem?_getD,List.getElem?_map,List.getElem?_range h]
  exact C9 _
 ·rw [if_neg h,List.getD_eq_getElem?_getD,List.getElem?_eq_none (by simpa using h)]
  exact Av9
theorem Az7 (n c:Nat) (f:Nat->Nat->Rat) (i:Nat):(tabM n c f).getD i []=if i<n then tab c (f i) else []:=by
 unfold tabM
 by_cases h:i<n
 ·rw [if_pos h,List.getD_eq_getElem?_getD,List.getElem?_map,List.getElem?_range h];rfl
 ·rw [if_neg h,List.getD_eq_getElem?_getD,List.getElem?_eq_none (by simpa using h)];rfl
theorem Af2 (n c:Nat) (f:Nat->Nat->Rat) (i k:Nat):rm (tabM n c f) i k=if i<n/\k<c then f i k else 0:=by
 unfold rm
 rw [Az7]
 by_cases h:i<n
 ·rw [if_pos h,N2];simp [h]
 ·rw [if_neg h,AQ4,if_neg (by omega)]
theorem Y6 {n L:Nat} {f:Nat->Rat} (h:∀ k,k<n->Rsz (f k) L):vk L (tab n f):=by
 intro q hq
 obtain ⟨k,hk,rfl⟩:=List.mem_map.1 hq
 exact AH8 (h k (List.mem_range.1 hk))
theorem Af7 {n c L:Nat} {f:Nat->Nat->Rat} (h:∀ i k,i<n->k<c->Rsz (f i k) L):mk_ L (tabM n c f):=by
 intro r hr
 obtain ⟨i,hi,rfl⟩:=List.mem_map.1 hr
 exact Y6 fun k hk=>h i k (List.mem_range.1 hi) hk
def sumN:Nat->(Nat->Rat)->Rat
 | 0,_=>0
 | n+1,f=>sumN n f+f n
theorem A2 {n:Nat} {f g:Nat->Rat} (h:∀ k,k<n->f k=g k):sumN n f=sumN n g:=by
 induction n with
 | zero=>rfl
 | succ n ih=>rw [sumN,sumN,ih fun k hk=>h k (by omega),h n (by omega)]
theorem AQ1 (n:Nat):sumN n (fun _=>0)=0:=by
 induction n with
 | zero=>rfl
 | succ n ih=>rw [sumN,ih];grind
theorem F3 {n:Nat} {f:Nat->Rat} (h:∀ k,k<n->f k=0):sumN n f=0:=by rw [A2 h,AQ1]
theorem AD9 (n:Nat) (f g:Nat->Rat):sumN n (fun k=>f k+g k)=sumN n f+sumN n g:=by
 induction n with
 | zero=>simp only [sumN];grind
 | succ n ih=>rw [sumN,sumN,sumN,ih];grind
theorem N0 (n:Nat) (c:Rat) (f:Nat->Rat):sumN n (fun k=>c*f k)=c*sumN n f:=by
 induction n with
 | zero=>simp [sumN]
 | succ n ih=>rw [sumN,sumN,ih];grind
theorem P0 (n:Nat) (c:Rat) (f:Nat->Rat):sumN n (fun k=>f k*c)=sumN n f*c:=by
 induction n with
 | zero=>simp [sumN]
 | succ n ih=>rw [sumN,sumN,ih];grind
theorem L7 (m n:Nat) (f:Nat->Nat->Rat):sumN m (fun i=>sumN n (fun k=>f i k))=sumN n (fun k=>sumN m (fun i=>f i k)):=by
 induction m with
 | zero=>simp [sumN,AQ1]
 | succ m ih=>simp only [sumN];rw [ih,<-AD9]
theorem sumN_ext {n m:Nat} {f:Nat->Rat} (hnm:n<=m) (h:∀ k,n<=k->k<m->f k=0):sumN m f=sumN n f:=by
 induction m with
 | zero=>rw [show n=0 by omega]
 | succ m ih =>
  by_cases e:n=m+1
  ·rw [e]
  ·rw [sumN,ih (by omega) fun k h1 h2=>h k h1 (by omega),h m (by omega) (by omega)]
   grind
theorem F0 {n i:Nat} {f:Nat->Rat} (h:∀ k,k<n->k≠i->f k=0):sumN n f=if i<n then f i else 0:=by
 induction n with
 | zero=>simp [sumN]
 | succ n ih =>
  rw [sumN,ih fun k h1 h2=>h k (by omega) h2]
  by_cases h1:i<n
  ·rw [if_pos h1,if_pos (by omega),h n (by omega) (by omega)];grind
  ·rw [if_neg h1]
   by_cases h2:i=n
   ·subst h2;rw [if_pos (by omega)];grind
   ·rw [if_neg (by omega),h n (by omega) (fun e=>h2 e.symm)];grind
theorem AM4 {n L:Nat} {f:Nat->Rat} (h:∀ k,k<n->Rsz (f k) L):Rsz (sumN n f) (1+n*(L+1)):=by
 induction n with
 | zero=>exact Rsz.zero (by omega)
 | succ n ih =>
  rw [sumN]
  exact ((ih fun k hk=>h k (by omega)).add (h n (by omega))).mono (by rw [Nat.succ_mul];omega)
end Go.Kx
namespace Go.Proofs.YtggegpiffjbngaaGreat
open Go Go.Kx Go.RowKit
theorem ty_F2:tyOf Tryz.prog 55=some (false,1):=by kernel_rfl
theorem BI7 {x y z u:Value}:bslOf Tryz.prog 32 1 [(0,.agg #[x,y,z,u])]=some (54,#[x,y,z,u]):=by kernel_rfl
structure CmbJ (w0:World) (S:Nat->Prop) (b5 b7 p1 p2:Nat) (fv va vb:Value) (L:Nat->List QV) (k:Nat) (W:World):Prop where
 low:Below w0.heap.size w0 W
 f:Blk W b5 55 #[fv]
 k1:Blk W p1 32 #[va]
 k2:Blk W p2 32 #[vb]
 acc:∃ v,Blk W b7 32 #[v]/\OwnL eQ 54 w0.heap.size (fun k=>S k/\k≠b7) W v (L k)
theorem CmbJ.sft {w0:World} {S:Nat->Prop} {b5 b7 p1 p2:Nat} {fv va vb:Value} {L:Nat->List QV} {k D:Nat} {W W':World} (h:CmbJ w0 S b5 b7 p1 p2 fv va vb L k W) (hs:Sft D W W') (hD:w0.heap.size<=D):CmbJ w0 S b5 b7 p1 p2 fv va vb L k W':=by
 obtain ⟨v,h1,h2⟩:=h.acc
 exact ⟨h.low.trans (hs.below.mono hD),hs.cells.blk trivial h.f,hs.cells.blk trivial h.k1,hs.cells.blk trivial h.k2,v,hs.cells.blk trivial h1,h2.kp hs.cells⟩
theorem Ac1:Ent Tryz.prog 236:=A0 Tryz.func236 (by kernel_rfl) rfl
theorem Ab3 {S:Nat->Prop} {w:World} {va vb:Value} {a b:List QV} {f:FuncId} {cap:Array Value} {g:Nat->QV} (up:Up S w) (ha:eV.R S w va a) (hb:eV.R S w vb b) (hla:a.length<=1000000000) (hlb:b.length<=1000000000) (hE:Ent Tryz.prog f)
  (hf:∀ (W:World) (T:Nat->Prop) (i:Nat) (x y:Value),Below w.heap.size w W->(∀ k,S k->k<w.heap.size->T k)->Up T W->i<max a.length b.length->eQ.R T W x (a.getD i q0)->eQ.R T W y (b.getD i q0)->CR Tryz.prog f ([x,y].toArray++cap) W (eQ.at T (g i))) :
  CR Tryz.prog 236 #[va,vb,.func (.func f) #[] cap] w (eV.at S ((List.range (max a.length b.length)).map g)):=by
 obtain ⟨aa,ca,hva,_⟩:=RL.len ha
 obtain ⟨ab,cb,hvb,_⟩:=RL.len hb
 obtain ⟨esa,hA⟩:=RL.toEs ha
 obtain ⟨esb,hB⟩:=RL.toEs hb
 have hA0:=hA.mono (S':=fun k=>S k/\k<w.heap.size) (by decide) (fun k hk hs=>⟨hs,hk⟩)
 have hB0:=hB.mono (S':=fun k=>S k/\k<w.heap.size) (by decide) (fun k hk hs=>⟨hs,hk⟩)
 have hAB:∀ {W:World},Below w.heap.size w W->EsR eQ (fun k=>S k/\k<w.heap.size) W va esa a/\EsR eQ (fun k=>S k/\k<w.heap.size) W vb esb b:=fun hL=>⟨hA0.keep (fun k c t f hk h=>(hL.block k hk.2).trans h),hB0.keep (fun k c t f hk h=>(hL.block k hk.2).trans h)⟩
 generalize hfv:Value.func (.func f) #[] cap=fv
 have hfv1:fv.cells=#[fv]:=by rw [<-hfv];rfl
 have hfv2:one1 fv=true:=by rw [<-hfv];rfl
 refine enter Tryz.func236 O Tryz.ntmps236 O ?_
 refine .sr (.box O O fun w1 b5 n1=>.an O O ?_)
 obtain ⟨e1,k5,hb5,hs1⟩:=n1
 rw [hfv1] at k5
 refine .sr (.mv O O (.lenR un_V O O (ha.ext e1) (.mv O O (.lenR un_V O O (hb.ext e1) (.max_ O O O ?_)))))
 rw [show (max (a.length:Int) (b.length:Int))=((max a.length b.length:Nat):Int) by omega]
 refine .make_ 0 _ un_V S2 O (by decide) O O O (Nat.zero_le _) (by omega) (by omega) fun w2 b2 n2=>?_
 have o2:∀ {X:Nat->Prop},OwnL eQ 54 w.heap.size X w2 (.slice (some ⟨b2,0,none⟩) 0 (max a.length b.length)) []:=fun {X}=>OwnL.made (by rfl) n2 (by omega) (by omega)
 obtain ⟨e2,k2,hb2,hs2⟩:=n2
 refine .alloc O Ap2 fun w3 b7 n3=>?_
 obtain ⟨e3,k7,hb7,hs3⟩:=n3
 refine .store ty_V O O k7 O (by simp [Value.cells]) (by simp [one1,Value.cells]) fun w4 k7' u4=>.nil ?_
 have x3:=(e1.trans e2).trans e3
 have x4:Ext w w4:=u4.below x3 (by omega)
 have k5:=((k5.ext e2).ext e3).upd u4 (show b5≠b7 by omega)
 have o4:=((o2 (X:=fun k=>S k/\k≠b7)).ext e3).upd u4 k7 (by decide) (fun h=>h.2 O)
 refine .seq (.sr (.mv O O (.mv O O ?_)))
 refine .call _ O An7 O (Aj0 hva hvb) fun v5 w5 e5 h5=>.nil ?_
 obtain ⟨p1,p2,rfl,kp1,kp2,hp1,hp2⟩:=h5
 have x5:=x4.trans e5
 have hs4:w4.heap.size=w3.heap.size:=u4.size
 have hs5:=e5.size
 refine .block (.rangeA (Ax8 (S:=fun k=>S k/\k<w.heap.size) (a:=a) (b:=b) (esa:=esa) (esb:=esb) (va:=va) (vb:=vb) (by omega) (by omega)) O BB7 (fun k=>rfl) (by decide)
  (CmbJ w S b5 b7 p1 p2 fv va vb fun k=>(List.range k).map g) (fun _ _=>False) (fun k W W' h hs=>h.sft hs x5.size) (fun _ _ _ h _=>h.elim) (fun k W h=>⟨h.k1,h.k2,hAB h.low⟩) ?_ ?_ ?_ (fun _ _ h=>h.elim))
 ·exact ⟨x5,k5.ext e5,kp1,kp2,_,k7'.ext e5,o4.ext e5⟩
 ·intro l k W hk hJ hsz
  obtain ⟨hA1,hB1⟩:=hAB hJ.low
  have hxa:=hA1.get zq_R k
  have hxb:=hB1.get zq_R k
  have hva':=shpA O hxa
  have hvb':=shpA O hxb
  have hlw:=hJ.low.size
  obtain ⟨hlow,hf5,hp15,hp25,v,h7,ho⟩:=hJ
  have hown:∀ k,v.ownBlock=some k->k<W.heap.size:=by
   obtain ⟨es,ho1,ho2⟩:=ho
   exact fun k hk=>(ho1.lt k hk).2
  refine .sr (.alloc O D2 fun W1 c8 n8=>?_)
  obtain ⟨e8,k8,hc8,hs8⟩:=n8
  refine .storeA (E:=eQ) ty_Q O O k8 O O (hxa.ext e8) (fun h=>by have:=h.2;omega) fun W2 k8 u8 _=>.nil ?_
  have x8:Ext W W2:=u8.below e8 (by omega)
  refine .region (.alloc O D2 fun W3 c9 n9=>?_)
  obtain ⟨e9,k9,hc9,hs9⟩:=n9
  have hs8':=u8.size
  refine .storeA (E:=eQ) ty_Q O O k9 O O ((hxb.ext x8).ext e9) (fun h=>by have:=h.2;omega) fun W4 k9 u9 _=>.nil ?_
  have x9:Ext W W4:=u9.below (x8.trans e9) (by omega)
  have k8:=(k8.ext e9).upd u9 (show c8≠c9 by omega)
  refine ⟨rfl,x9,fun W5 hsf hsz5=>?_⟩
  have k8:=hsf.cells.blk trivial k8
  have k9:=hsf.cells.blk trivial k9
  clear hxa hxb hA1 hB1
  have hlow:Below w.heap.size w W5:=(hlow.trans (x9.mono hlw)).trans (hsf.below.mono x5.size)
  have hf5:=hsf.cells.blk trivial (hf5.ext x9)
  have hp15:=hsf.cells.blk trivial (hp15.ext x9)
  have hp25:=hsf.cells.blk trivial (hp25.ext x9)
  have h7:=hsf.cells.blk trivial (h7.ext x9)
  have ho:=(ho.ext x9).kp hsf.cells
  obtain ⟨hA1,hB1⟩:=hAB hlow
  have hxa:=hA1.get zq_R k
  have hxb:=hB1.get zq_R k
  have hlw5:=hlow.size
  have hb7lt:=h7.lt
  obtain ⟨ao,co,hvo⟩:=ho.slice
  refine .block (.held follows true (fun W'=>Blk W' b7 32 #[v]/\Blk W' b5 55 #[fv]/\Blk W' c8 54 (esa.getD k zq).cells/\Blk W' c9 54 (esb.getD k zq).cells)
   [some v,some fv,some (esa.getD k zq),some (esb.getD k zq),none,none,none,none] (by kernel_rfl)
   ⟨fun _ h=>v_ld ty_V O h.1 rfl,fun _ h=>v_ld ty_F2 O h.2.1 rfl,fun _ h=>(C3 ty_Q O h.2.2.1 (eQ.csz hxa)).eq hva'.symm,fun _ h=>(C3 ty_Q O h.2.2.2 (eQ.csz hxb)).eq hvb'.symm,trivial⟩ ?_)
  intro W6 e6 hh6
  have hlow6:Below w.heap.size w W6:=hlow.trans (e6.mono hlow.size)
  have h7:=h7.ext e6
  have hf5:=hf5.ext e6
  have hp15:=hp15.ext e6
  have hp25:=hp25.ext e6
  have k8:=k8.ext e6
  have k9:=k9.ext e6
  have ho:=ho.ext e6
  have hxa:=hxa.ext e6
  have hxb:=hxb.ext e6
  have hs6:=e6.size
  obtain ⟨es,ho1,ho2⟩:=id ho
  have hT0:∀ k,S k->k<w.heap.size->(S k/\k≠b7)/\v.ownBlock≠some k:=fun k hk hlt=>⟨⟨hk,by omega⟩,fun h=>by have:=(ho1.lt k h).1;omega⟩
  have hcall:=hf W6 (fun k=>(S k/\k≠b7)/\v.ownBlock≠some k) k (esa.getD k zq) (esb.getD k zq) hlow6 hT0 (fun k hk=>⟨⟨up k (by omega),by omega⟩,fun h=>by have:=(ho1.lt k h).2;omega⟩) hk
   (eQ.mono (fun k _ hk=>hT0 k hk.1 hk.2) hxa) (eQ.mono (fun k _ hk=>hT0 k hk.1 hk.2) hxb)
  subst hfv
  refine .gv ⟨h7,hf5,k8,k9⟩ rfl (AG8 [_,_] O hE O hcall) ?_
  rintro vr W7 ⟨e7,hr⟩
  have hr':=hr
  obtain ⟨s,t,rfl,_,_⟩:=hr'
  refine .gv ⟨h7.ext e7,hf5.ext e7,k8.ext e7,k9.ext e7⟩ rfl (AT9 _ O BI7) ?_
  rintro _ W8 ⟨b8,rfl,n8⟩
  obtain ⟨e8,kb8,hb8,hs8⟩:=n8
  have e78:=e7.trans e8
  have hlow8:Below w.heap.size w W8:=hlow6.trans (e78.mono hlow6.size)
  have ho8:=ho.ext e78
  refine .gv ⟨h7.ext e78,hf5.ext e78,k8.ext e78,k9.ext e78⟩ rfl (AE8 (base:=w.heap.size) (by decide) un_V S2 O O O ho8 kb8 (hr.ext e8) (by simp;omega) (by decide) hlow8.size) ?_
  rintro v9 W9 ⟨ho9,hg9⟩
  have h79:=ho8.gblk hg9 (h7.ext e78) (by decide)
  have hf9:=ho8.gblk hg9 (hf5.ext e78) (by decide)
  have hp19:=ho8.gblk hg9 (hp15.ext e78) (by decide)
  have hp29:=ho8.gblk hg9 (hp25.ext e78) (by decide)
  have hlow9:=ho8.below hg9 hlow8 hlow8.size
  have oth9:Oth W5 W9:=((Oth.ext e6).trans (Oth.ext e78)).trans (ho8.oth hg9)
  obtain ⟨a9,c9',hv9⟩:=ho9.slice
  have hg8:Blk W9 c8 54 (esa.getD k zq).cells:=(hg9.block c8 (k8.ext e78).lt (fun e=>by have:=hown _ e.symm;omega)).trans (k8.ext e78)
  have hg9':Blk W9 c9 54 (esb.getD k zq).cells:=(hg9.block c9 (k9.ext e78).lt (fun e=>by have:=hown _ e.symm;omega)).trans (k9.ext e78)
  refine .gv ⟨h79,hf9,hg8,hg9'⟩ rfl (J0 ty_V O O h79 (by rw [hv9];rfl) (by simp) (by rw [hv9];simp [one1,Value.cells])) ?_
  rintro _ W10 ⟨k10,u10⟩
  refine .nil (.inl O) ?_
  have k10:Blk W10 b7 32 #[v9]:=by rw [hv9] at k10 ⊢;exact k10
  refine ⟨oth9.trans (Oth.upd u10 h79),u10.below hlow9 (by omega),hf9.upd u10 (by omega),hp19.upd u10 (by omega),hp29.upd u10 (by omega),v9,k10,?_⟩
  have:=ho9.upd u10 h79 (by decide) (fun h=>h.2 O)
  rw [List.range_succ,List.map_append]
  exact this
 ·intro W hJ hD
  obtain ⟨hlow,hf5,hp15,hp25,v,h7,ho⟩:=hJ
  refine .sr (.ld ty_V O O h7 O (.an O O (.ret ?_)))
  refine .mark [_] Tryz.results236 hD ⟨rfl,trivial⟩ ⟨M2 hlow x5.size,(ho.kp (Kp.put hD O)).toR up (fun k hk=>hk.1)⟩
theorem Ai4:Ent Tryz.prog 237:=A0 Tryz.func237 (by kernel_rfl) rfl
theorem Ai6 {S:Nat->Prop} {w:World} {vq vx vy:Value} {q x y:QV} {b:Nat} {L:Nat} (up:Up S w) (hb:Blk w b 54 vq.cells) (hq:eQ.R S w vq q) (hx:eQ.R S w vx x) (hy:eQ.R S w vy y) (hkq:qk L q) (hkx:qk L x) (hky:qk L y) (hL:1<=L) (hL2:L<=10000000000) :
  CR Tryz.prog 237 #[vx,vy,.pointer (some ⟨b,0,none⟩)] w (eQ.at S (qc (qval q*qval x+qval y))):=by
 have hvq:=shpA O hq
 have hvx:=shpA O hx
 have hvy:=shpA O hy
 refine enter Tryz.func237 O Tryz.ntmps237 O ?_
 refine .sr (.box O O fun w1 b3 n1=>.box O O fun w2 b4 n2=>.alloc O D2 fun w3 b5 n3=>.nil ?_)
 obtain ⟨e1,k3,hb3,hs1⟩:=n1
 obtain ⟨e2,k4,hb4,hs2⟩:=n2
 obtain ⟨e3,k5,hb5,hs3⟩:=n3
 have x3:=(e1.trans e2).trans e3
 have k3:=(k3.ext e2).ext e3
 have k4:=k4.ext e3
 have hb:=hb.ext x3
 have hS5:¬ Sx S w.heap.size w3.heap.size b5:=Sx.no (by omega) (by omega)
 have up3:Up (Sx S w.heap.size w3.heap.size) w3:=Sx.up up (Nat.le_refl _) x3.size
 have hq3:=(hq.par w3.heap.size).ext x3
 have hx3:=(hx.par w3.heap.size).ext x3
 have hy3:=(hy.par w3.heap.size).ext x3
 refine .seq (.held follows true (fun W=>Blk W b 54 vq.cells/\Blk W b3 54 vx.cells/\Blk W b4 54 vy.cells)
  [some vq,some vx,none,some vy,none,none] (by kernel_rfl) ⟨fun _ h=>(C3 ty_Q O h.1 (eQ.csz hq)).eq hvq.symm,fun _ h=>(C3 ty_Q O h.2.1 (eQ.csz hx)).eq hvx.symm,fun _ h=>(C3 ty_Q O h.2.2 (eQ.csz hy)).eq hvy.symm,trivial⟩ ?_)
 intro w4 e4 _
 refine .gv ⟨hb.ext e4,k3.ext e4,k4.ext e4⟩ rfl (A4 _ AL5 O (AK7 (up3.ext e4.size) (hq3.ext e4) (hx3.ext e4) hkq.1 hkx.1 hL (by omega))) ?_
 rintro v5 w5 ⟨e5,h5⟩
 have e45:=e4.trans e5
 have hkm:qk (L+L) (qc (qval q*qval x)):=AH8 (hkq.2.mul hkx.2)
 refine .gv ⟨hb.ext e45,k3.ext e45,k4.ext e45⟩ rfl (A4 _ V5 O (U8 (up3.ext e45.size) h5 (hy3.ext e45) hkm.1 (hky.1.mono (by omega)) (by omega) (by omega))) ?_
 rintro v6 w6 ⟨e6,h6⟩
 rw [C9] at h6
 have e46:=e45.trans e6
 have hc6:=eQ.csz h6
 refine .gv ⟨hb.ext e46,k3.ext e46,k4.ext e46⟩ rfl (J0 ty_Q O O (k5.ext e46) hc6 (Nat.le_refl _) (eQ.one h6)) ?_
 rintro _ w7 ⟨k7,u7⟩
 rw [AF6 _ _ (by rw [Array.length_toList,hc6];rfl)] at k7
 simp only [Array.toArray_toList] at k7
 refine .nil (.inl O) (.ret ?_)
 have h7:=h6.upd u7 hS5
 exact .cell Tryz.results237 O ty_Q O O k7 h7 ⟨u7.below (x3.trans e46) (by omega),h7.out⟩
theorem AV6:Ent Tryz.prog 190:=A0 Tryz.func190 (by kernel_rfl) rfl
theorem AU9 {S:Nat->Prop} {w:World} {vq va vb:Value} {q:QV} {a b:List QV} {L:Nat} (up:Up S w) (hq:eQ.R S w vq q) (ha:eV.R S w va a) (hb:eV.R S w vb b) (hla:a.length<=1000000000) (hlb:b.length<=1000000000) (hkq:qk L q) (hka:vk L a) (hkb:vk L b) (hL:1<=L) (hL2:L<=10000000000) :
  CR Tryz.prog 190 #[vq,va,vb] w (eV.at S (tab (max a.length b.length) fun k=>qval q*rv a k+rv b k)):=by
 have hlq:=ER.lt eQ hq
 refine enter Tryz.func190 O Tryz.ntmps190 O ?_
 refine .sr (.box O O fun w1 b3 n1=>.an O O ?_)
 obtain ⟨e1,k3,hb3,hs1⟩:=n1
 refine .sr (.mv O O (.mv O O (.mkf [] [_] O O O O ?_)))
 refine .call _ O Ac1 O (Ab3 (g:=fun k=>qc (qval q*rv a k+rv b k)) (up.ext e1.size) (ha.ext e1) (hb.ext e1) hla hlb Ai4 fun W T i x y hB hT hup hi hx hy=>?_) fun v1 w2 e2 h1=>.an O O (.ret ?_)
 ·refine Ai6 hup ((hB.block b3 k3.lt).trans k3) ?_ hx hy hkq (hka.get hL i) (hkb.get hL i) hL hL2
  have hq1:eQ.R (fun k=>S k/\k<w.heap.size) W vq q:=eQ.keep (fun k c t f hk h=>((e1.trans (hB.mono (Nat.le_refl _))).block k hk.2).trans h) hlq
  exact eQ.mono (fun k _ hk=>hT k hk.1 (by have:=e1.size;omega)) hq1
 ·exact .plain [_] Tryz.results190 ⟨rfl,trivial⟩ ⟨e1.trans e2,h1⟩
theorem AW8:zeroOf Tryz.prog 3=some (.int .i64 0):=by kernel_rfl
def eqV (a b:List QV):Prop:=∀ k,rv a k=rv b k
noncomputable instance (a b:List QV):Decidable (eqV a b):=Classical.propDecidable _
theorem un_L:Tryz.prog.underlying 127=some (.slice 2):=by kernel_rfl
abbrev eI:ER (List Int):=RL (eInt .i64)
theorem eInt_bd {S:Nat->Prop} {w:World} {v:Value} {n:Int} (h:(eInt .i64).R S w v n):v=.int .i64 n /\ -9223372036854775808<=n/\n<=9223372036854775807:=by
 obtain ⟨h1,h2,h3⟩:=h
 exact ⟨h1,h2,h3⟩
theorem O5:Ent Tryz.prog 92:=A0 Tryz.func92 (by kernel_rfl) rfl
@[reducible] def ResP (S:Nat->Prop) (B:Nat) (n:Int) (a:List QV):Value->World->Prop:=fun v w =>
 (n<1/\v=.slice none 0 0)\/(1<=n/\∃ g N:Nat,(N:Int)=min n 65536/\B<=g/\v=.slice (some ⟨g,0,none⟩) N N/\FB eQ 54 S w g (tab N (rv a)))
theorem AL6 {S T0:Nat->Prop} {w:World} {va:Value} {a:List QV} {n:Int} {L:Nat} (up:Up S w) (upo:Up T0 w) (ha:eV.R S w va a) (hka:vk L a) (hL:1<=L) (hL2:L<=10000000000) :
  CR Tryz.prog 92 #[va,.int .i64 n] w (ResP T0 w.heap.size n a):=by
 have ha0:=ER.lt eV ha
 have hA:∀ {W:World},Below w.heap.size w W->eV.R (fun k=>S k/\k<w.heap.size) W va a:=fun hB=>eV.keep (fun k c t f hk h=>(hB.block k hk.2).trans h) ha0
 obtain ⟨al,cl,hvl,_,hla⟩:=RL.len ha
 refine enter Tryz.func92 O Tryz.ntmps92 O ?_
 refine .sr (.an O O (.seq (.sr (.mv O O ?_))))
 by_cases hn:n<1
 ·refine .lssT O O O hn (.nil (.condT O (.sr (.an O O (.ret ?_)))))
  exact .plain [_] Tryz.results92 ⟨rfl,trivial⟩ ⟨.refl _,.inl ⟨hn,rfl⟩⟩
 refine .lssF O O O hn (.nil (.condF O (.skip ?_)))
 refine .sr (.mv O O (.min_ O O O ?_))
 obtain ⟨N,hN⟩:∃ N:Nat,(N:Int)=min n 65536:=⟨(min n 65536).toNat,by omega⟩
 rw [<-hN]
 have hN1:N<=65536:=by omega
 refine .make_ _ _ un_V S2 O (by decide) O O O (Nat.le_refl _) (by omega) (by omega) fun w1 g n1=>.an O O ?_
 have f1:FB eQ 54 T0 w1 g (List.replicate N q0):=FB.made n1 zq_R
 obtain ⟨e1,k1,hg,hs1⟩:=n1
 generalize hf:(fun k=>qc (rv a k))=f
 refine .mid (α:=Unit) (fun _=>[(5,.slice (some ⟨g,0,none⟩) N N)]) (fun _ W=>Below w.heap.size w W/\FB eQ 54 T0 W g ((List.range N).map f)) ?_ ?_
 ·refine .sr (.mv O O (.lenR un_V O O (hA e1) (.mv O O (.len un_V O O (.min_ O O O (.mv O O (.nil ?_)))))))
  rw [show (min (a.length:Int) (N:Int))=((min a.length N:Nat):Int) by omega]
  generalize hM:min a.length N=M
  refine .block (.loop (α:=Nat) (fun i=>[(5,.slice (some ⟨g,0,none⟩) N N),(0,va),(16,.int .i64 (M:Nat)),(17,.int .i64 (i:Nat))])
   (fun i W=>Below w.heap.size w W/\i<=M/\FB eQ 54 T0 W g (fil N i f q0)) (fun i=>M-i) 0 ?_ ?_ ?_)
  ·exact lkA rfl
  ·exact ⟨e1,Nat.zero_le _,by rw [R4];exact f1⟩
  ·rintro i W ⟨hB,hi,hF⟩
   have hsz:=hB.size
   have hgl:=hF.lt
   by_cases hlt:i<M
   ·refine .sr (.lssT O O O (by omega) (.nil (.seq (.condT O (.skip (.seq (.block (.sr (.mv O O ?_)))))))))
    refine .an O O (.region (.mv O O (.mv O O (.mv O O (.mv O O ?_)))))
    refine .ixN (i:=i) un_V ty_Q O O (hA hB) O (A6 (z:=q0) (by omega)) fun p hp=>.ldE ty_Q O O hp fun e he=>?_
    refine .call _ O P7 O (AA7 (S:=fun k=>S k/\k≠g) (T0:=fun k=>T0 k/\k≠g) (fun k hk=>⟨up k (by omega),by omega⟩) (fun k hk=>⟨upo k (by omega),by omega⟩) (eQ.mono (fun k _ hk=>⟨hk.1,by have:=hk.2;omega⟩) he) (hka.get hL i).1 hL (by omega)) fun v2 W2 e2 h2=>?_
    refine .ixB (i:=i) un_V ty_Q O O O (by omega) ?_
    have hF2:=hF.ext e2
    refine .storeF (E:=eQ) (i:=i) (z:=f i) (by decide) ty_Q O O hF2 O (by rw [L4];omega) (Nat.zero_add _) (by rw [<-hf];exact h2) fun W3 hF3 u3=>.nil ?_
    rw [X6] at hF3
    refine .region (.add O O O (.mv O O (.nil ?_)))
    rw [wI (by omega)]
    exact ⟨rfl,i+1,lkA rfl,⟨u3.below (hB.trans (e2.mono hsz)) (by omega),hlt,hF3⟩,by show M-(i+1)<M-i;omega⟩
   ·refine .sr (.lssF O O O (by omega) (.nil (.seq (.condF O (.exit ?_)))))
    have:i=M:=by omega
    subst this
    have hfe:fil N i f q0=(List.range N).map f:=by
     unfold fil
     apply List.map_congr_left
     intro j hj
     by_cases h:j<i
     ·rw [if_pos h]
     ·rw [if_neg h,<-hf]
      have:=List.mem_range.1 hj
      show q0=qc (rv a j)
      rw [AQ3 (by omega),S8]
    rw [hfe] at hF
    exact ⟨rfl,(),lkA rfl,hB,hF⟩
 ·rintro _ W ⟨hB,hF⟩
  refine .sr (.mv O O (.an O O (.ret ?_)))
  refine .plain [_] Tryz.results92 ⟨rfl,trivial⟩ ⟨hB,.inr ⟨by omega,g,N,hN,by omega,rfl,?_⟩⟩
  unfold tab
  rw [hf];exact hF
theorem S5 {S:Nat->Prop} {w:World} {va:Value} {a:List QV} {n:Int} {L:Nat} (up:Up S w) (ha:eV.R S w va a) (hka:vk L a) (hL:1<=L) (hL2:L<=10000000000) :
  CR Tryz.prog 92 #[va,.int .i64 n] w (ResP S w.heap.size n a):=AL6 up up ha hka hL hL2
def uni (k:Int) (j:Nat):Rat:=if (j:Int)=k then 1 else 0
theorem At2:Ent Tryz.prog 93:=A0 Tryz.func93 (by kernel_rfl) rfl
theorem Ap7 {S:Nat->Prop} {w:World} {n k:Int} (up:Up S w):CR Tryz.prog 93 #[.int .i64 n,.int .i64 k] w (eV.at S (tab (min n 65536).toNat (uni k))):=by
 refine enter Tryz.func93 O Tryz.ntmps93 O ?_
 refine .sr (.an O O (.sr (.mv O O ?_)))
 refine .call _ O O5 O (S5 (S:=S) (a:=[]) (L:=1) up RL.nil Ap6 (Nat.le_refl _) (by omega)) fun v1 w1 e1 h1=>.an O O ?_
 rcases h1 with ⟨hn,rfl⟩ | ⟨hn,g,N,hN,hg,rfl,hF⟩
 ·have h0:(min n 65536).toNat=0:=by omega
  refine .seq (.sr (.mv O O ?_))
  by_cases hk:0<=k
  ·refine .geqT O O O hk (.mv O O (.gr O O O O (.mv O O (.gr O O O O (.mv O O (.gr O O O O (.len un_V O O (.gr O O O O ?_))))))))
   refine .lssF O O O (by omega) (.pick O O O (.nil (.condF O (.skip (.sr (.mv O O (.an O O (.ret ?_))))))))
   exact .plain [_] Tryz.results93 ⟨rfl,trivial⟩ ⟨e1,by rw [h0];exact RL.nil⟩
  ·refine .geqF O O O hk (.mv O O (.gs O O O O O (.gs O O O O O (.gs O O O O O (.gs O O O O O (.pick O O O (.nil (.condF O (.skip (.sr (.mv O O (.an O O (.ret ?_)))))))))))))
   exact .plain [_] Tryz.results93 ⟨rfl,trivial⟩ ⟨e1,by rw [h0];exact RL.nil⟩
 ·have h0:(min n 65536).toNat=N:=by omega
  rw [h0]
  have hs1:=e1.size
  have hgl:=hF.lt
  have hzero:∀ j,rv [] j=0:=AQ4
  have hno:(¬ 0<=k\/¬ k<(N:Int))->tab N (rv [])=tab N (uni k):=by
   intro h
   unfold tab
   apply List.map_congr_left
   intro j hj
   have:=List.mem_range.1 hj
   rw [AQ4];unfold uni;rw [if_neg (by omega)]
  refine .seq (.sr (.mv O O ?_))
  have hend:∀ {W:World} {l:List QV},FB eQ 54 S W g l->l=tab N (uni k)->eV.at S (tab N (uni k)) (.slice (some ⟨g,0,none⟩) N N) W:=by
   intro W l hF hl
   subst hl
   have:=hF.toR (c:=N) (hsz:=by decide) (up g (by omega)) (by rw [A1];exact Nat.le_refl _) (by rw [A1];omega)
   rw [A1] at this;exact this
  by_cases hk:0<=k
  ·refine .geqT O O O hk (.mv O O (.gr O O O O (.mv O O (.gr O O O O (.mv O O (.gr O O O O (.len un_V O O (.gr O O O O ?_))))))))
   by_cases hk2:k<(N:Int)
   ·obtain ⟨i,rfl⟩:∃ i:Nat,k=i:=⟨k.toNat,by omega⟩
    refine .lssT O O O hk2 (.pick O O O (.nil (.condT O (.region (.mv O O (.mv O O ?_))))))
    refine .call _ O H7 O (H6 (n:=1) (S:=fun k=>S k/\k≠g) (fun k hk=>⟨up k (by omega),by omega⟩) (by omega) (by omega)) fun v2 W2 e2 h2=>?_
    refine .ixB (i:=i) un_V ty_Q O O O (by omega) ?_
    refine .storeF (E:=eQ) (i:=i) (by decide) ty_Q O O (hF.ext e2) O (by rw [A1];omega) (Nat.zero_add _) h2 fun W3 hF3 u3=>.nil ?_
    refine .sr (.mv O O (.an O O (.ret ?_)))
    refine .plain [_] Tryz.results93 ⟨rfl,trivial⟩ ⟨u3.below (e1.trans e2) (by omega),hend hF3 ?_⟩
    apply List.ext_getElem?
    intro j
    rw [List.getElem?_set]
    unfold tab
    by_cases hj:i=j
    ·subst hj
     rw [if_pos rfl,if_pos (by simp;omega),List.getElem?_map,List.getElem?_range (by omega)]
     simp [uni]
    ·rw [if_neg hj,List.getElem?_map,List.getElem?_map]
     by_cases hjN:j<N
     ·simp only [List.getElem?_range hjN,Option.map_some]
      rw [AQ4];unfold uni;rw [if_neg (by omega)]
     ·rw [List.getElem?_eq_none (by simpa using hjN)];rfl
   ·refine .lssF O O O hk2 (.pick O O O (.nil (.condF O (.skip (.sr (.mv O O (.an O O (.ret ?_))))))))
    exact .plain [_] Tryz.results93 ⟨rfl,trivial⟩ ⟨e1,hend hF (hno (.inr hk2))⟩
  ·refine .geqF O O O hk (.mv O O (.gs O O O O O (.gs O O O O O (.gs O O O O O (.gs O O O O O (.pick O O O (.nil (.condF O (.skip (.sr (.mv O O (.an O O (.ret ?_)))))))))))))
   exact .plain [_] Tryz.results93 ⟨rfl,trivial⟩ ⟨e1,hend hF (hno (.inl hk))⟩
end Go.Proofs.YtggegpiffjbngaaGreat
