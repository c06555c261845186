/-
  whole: divWords, signedSum, Add, Sub, Mul, Cmp whole: divWords, DivMod, GCD whole: DivMod, GCD Maps with integer keys: made, filled, read. Values of integers by their number alone. frac: parts, short frac: ratio, reduce frac: operations, calculate frac: the closures of the table, Add, Sub, Mul frac: FromInt64, Canonical, Sign, sign, Cmp, Equal Rows of the call's own with any elements; elements of a slice, exactly. The elements of a slice, exactly: which values lie there. vec: pairs A range over a function whose loop variables lie in memory. Elements that the call changes in place. Vectors and matrices of rationals: plain. vec: combine, Add, AddScaled vec: Add, AddScaled vec: Dot, Compare, Equal vec: Compare, Equal vec: Resize, Unit, FromInts
-/
import Derived.Test.YtfilidfomgfnhaaGreatG2
set_option linter.unusedVariables false
namespace Go.Proofs.YtfilidfomgfnhaaGreat
open Go Go.Kx Go.RowKit
theorem sg_add (b:Bool) (m n:Nat):sg b (m+n)=sg b m+sg b n:=by cases b<;>simp [sg]<;>omega
theorem Aw9 (b:Bool) (m n:Nat) (h:n≤m):sg b (m-n)=sg b m+sg (!b) n:=by cases b<;>simp [sg]<;>omega
theorem AY8 (b:Bool) (n:Nat):(sg b n).natAbs=n:=by cases b<;>simp [sg]
theorem AJ8 {m n:Nat}:cmpN m n<0↔m<n:=by unfold cmpN;split<;>(try split)<;>omega
theorem S4:Ent Tryz.prog 267:=A0 Tryz.func267 (by kernel_rfl) rfl
theorem R6 {S:Nat→Prop} {w:World} {va vb:Value} {m n:Nat} {p q:Bool} (up:Up S w) (ha:eW.R S w va (wds m)) (hb:eW.R S w vb (wds n)) (hla:(wds m).length≤1099511627776) (hlb:(wds n).length≤1099511627776) :
  CR Tryz.prog 267 #[.bool p,va,.bool q,vb] w (eZ.at S (zc (sg p m+sg q n))):=by
 refine enter Tryz.func267 rfl Tryz.ntmps267 rfl ?_
 refine .seq (.region (.alloc rfl B4 fun w1 b1 n1=>.nil ?_))
 obtain ⟨e1,k1,hb1,hs1⟩:=n1
 have hS:¬ Sx S w.heap.size w1.heap.size b1:=Sx.no (by omega) (by omega)
 have up1:Up (Sx S w.heap.size w1.heap.size) w1:=Sx.up up (Nat.le_refl _) e1.size
 have ha1:=(ha.par w1.heap.size).ext e1
 have hb1':=(hb.par w1.heap.size).ext e1
 refine .seq (.seq (.region (.mv rfl rfl (.mv rfl rfl (.eqlB AD0 rfl rfl rfl (.nil ?_))))))
 by_cases hpq:p=q
 ·subst hpq
  refine .condT (by rw [beq_self_eq_true];rfl) (.seq (.region (.mv rfl rfl (.mv rfl rfl (.mv rfl rfl ?_)))))
  refine .call _ rfl V8 rfl (U5 up1 ha1 hb1' hla hlb) fun v2 w2 e2 h2=>?_
  obtain ⟨r,hr,hv,hl⟩:=h2
  refine .call _ rfl F1 rfl (E8 (up1.ext e2.size) hr) fun v3 w3 e3 h3=>?_
  refine .storeA ty_Z rfl rfl ((k1.ext e2).ext e3) rfl rfl h3 hS fun w4 k4 u4 h4=>.nil (.ret ?_)
  refine .cell Tryz.results267 rfl ty_Z rfl rfl k4 h4 ⟨u4.below ((e1.trans e2).trans e3) (by omega),?_⟩
  rw [←sg_add,show m+n=val r by rw [hv,A8,A8]]
  exact h4.out
 ·have hq:q = !p:=by cases p<;>cases q<;>simp_all
  subst hq
  refine .condF (by cases p<;>rfl) (.skip (.seq (.seq (.region (.mv rfl rfl (.mv rfl rfl ?_))))))
  refine .call _ rfl P5 rfl (O6 ha1 hb1') fun v2 w2 e2 h2=>?_
  subst h2
  have ha2:=ha1.ext e2
  have hb2:=hb1'.ext e2
  have up2:=up1.ext e2.size
  by_cases hlt:m<n
  ·refine .lssT rfl rfl rfl (AJ8.2 hlt) (.nil (.condT rfl (.seq (.region (.mv rfl rfl (.mv rfl rfl (.mv rfl rfl ?_)))))))
   refine .call _ rfl N9 rfl (N2 up2 hb2 ha2 hlb hla (by rw [A8,A8];omega)) fun v3 w3 e3 h3=>?_
   obtain ⟨r,hr,hv,hl⟩:=h3
   refine .call _ rfl F1 rfl (E8 (up2.ext e3.size) hr) fun v4 w4 e4 h4=>?_
   refine .storeA ty_Z rfl rfl (((k1.ext e2).ext e3).ext e4) rfl rfl h4 hS fun w5 k5 u5 h5=>.nil (.ret ?_)
   refine .cell Tryz.results267 rfl ty_Z rfl rfl k5 h5 ⟨u5.below (((e1.trans e2).trans e3).trans e4) (by omega),?_⟩
   rw [show sg p m+sg (!p) n=sg (!p) (val r) by
    rw [hv,A8,A8,Aw9 _ _ _ (by omega),Bool.not_not,Int.add_comm]]
   exact h5.out
  ·refine .lssF rfl rfl rfl (fun h=>hlt (AJ8.1 h)) (.nil (.condF rfl (.skip (.seq (.region (.mv rfl rfl (.mv rfl rfl (.mv rfl rfl ?_))))))))
   refine .call _ rfl N9 rfl (N2 up2 ha2 hb2 hla hlb (by rw [A8,A8];omega)) fun v3 w3 e3 h3=>?_
   obtain ⟨r,hr,hv,hl⟩:=h3
   refine .call _ rfl F1 rfl (E8 (up2.ext e3.size) hr) fun v4 w4 e4 h4=>?_
   refine .storeA ty_Z rfl rfl (((k1.ext e2).ext e3).ext e4) rfl rfl h4 hS fun w5 k5 u5 h5=>.nil (.ret ?_)
   refine .cell Tryz.results267 rfl ty_Z rfl rfl k5 h5 ⟨u5.below (((e1.trans e2).trans e3).trans e4) (by omega),?_⟩
   rw [show sg p m+sg (!p) n=sg p (val r) by
    rw [hv,A8,A8,Aw9 _ _ _ (by omega)]]
   exact h5.out
theorem AD7 {n:Int}:i64ok n=true ↔ -9223372036854775808≤n∧n≤9223372036854775807:=by simp [i64ok]
theorem Ai0:Ent Tryz.prog 239:=A0 Tryz.func239 (by kernel_rfl) rfl
theorem Ae1 {S:Nat→Prop} {w:World} {va vb:Value} {x y:ZV} (up:Up S w) (ha:eZ.R S w va x) (hb:eZ.R S w vb y) (hla:x.w.length≤1099511627776) (hlb:y.w.length≤1099511627776) :
  CR Tryz.prog 239 #[va,vb] w (eZ.at S (zc (zval x+zval y))):=by
 obtain ⟨sa,rfl,hsa⟩:=ha
 obtain ⟨sb,rfl,hsb⟩:=hb
 have hda:dig x.w:=D5 hsa
 have hdb:dig y.w:=D5 hsb
 refine enter Tryz.func239 rfl Tryz.ntmps239 rfl ?_
 refine .seq (.region (.box rfl rfl fun w1 b1 n1=>.box rfl rfl fun w2 b2 n2=>.alloc rfl B4 fun w3 b3 n3=>.nil ?_))
 obtain ⟨e1,k1,hb1,hs1⟩:=n1
 obtain ⟨e2,k2,hb2,hs2⟩:=n2
 obtain ⟨e3,k3,hb3,hs3⟩:=n3
 have x3:=(e1.trans e2).trans e3
 have k1:=(k1.ext e2).ext e3
 have k2:=k2.ext e3
 have hS:¬ Sx S w.heap.size w3.heap.size b3:=Sx.no (by omega) (by omega)
 have up3:Up (Sx S w.heap.size w3.heap.size) w3:=Sx.up up (Nat.le_refl _) x3.size
 have hsa3:=(hsa.par w3.heap.size).ext x3
 have hsb3:=(hsb.par w3.heap.size).ext x3
 refine .seq (.region (.ldA ty_Z rfl rfl k1 rfl ?_))
 refine .call _ rfl H0 rfl (G8 (z:=x) ⟨sa,rfl,hsa3⟩) fun v4 w4 e4 h4=>?_
 subst h4
 refine .mv rfl rfl (.ext rfl rfl rfl (.ext rfl rfl rfl (.asg rfl rfl (.asg rfl rfl (.nil ?_)))))
 refine .seq (.region (.ldA ty_Z rfl rfl (k2.ext e4) rfl ?_))
 refine .call _ rfl H0 rfl (G8 (z:=y) ⟨sb,rfl,hsb3.ext e4⟩) fun v5 w5 e5 h5=>?_
 subst h5
 refine .mv rfl rfl (.ext rfl rfl rfl (.ext rfl rfl rfl (.asg rfl rfl (.asg rfl rfl (.nil ?_)))))
 have x35:=e4.trans e5
 have x5:=x3.trans x35
 have up5:=up3.ext x35.size
 refine .mid (α:=Unit) (fun _=>[(2,.pointer (some ⟨b1,0,none⟩)),(3,.pointer (some ⟨b2,0,none⟩)),(4,.pointer (some ⟨b3,0,none⟩))]) (fun _ W=>W=w5) ?_ ?_
 ·refine .seq (.region (.mv rfl rfl (.mv rfl rfl ?_)))
  cases hx:i64ok (zval x) with
  | false =>
   refine .gs rfl rfl rfl rfl rfl (.pick rfl rfl rfl (.nil (.condF rfl (.skip ?_))))
   exact ⟨rfl,(),lkA rfl,rfl⟩
  | true =>
   have hx':=AD7.1 hx
   refine .gr rfl rfl rfl rfl (.mv rfl rfl (.pick rfl rfl rfl (.nil ?_)))
   cases hy:i64ok (zval y) with
   | false =>
    refine .condF rfl (.skip ?_)
    exact ⟨rfl,(),lkA rfl,rfl⟩
   | true =>
    have hy':=AD7.1 hy
    have ex:i64v (zval x)=zval x:=by rw [i64v,hx];rfl
    have ey:i64v (zval y)=zval y:=by rw [i64v,hy];rfl
    rw [ex,ey]
    refine .condT rfl (.seq (.region (.mv rfl rfl (.mv rfl rfl (.add rfl rfl rfl (.asg rfl rfl (.nil ?_)))))))
    refine .seq (.region (.mv rfl rfl (.mv rfl rfl (.xor_ rfl rfl rfl (.mv rfl rfl (.mv rfl rfl (.xor_ rfl rfl rfl (.and_ rfl rfl rfl (.geq rfl rfl rfl (.nil ?_))))))))))
    refine .cond rfl (fun hc=>?_) (fun hc=>.skip ⟨rfl,(),lkA rfl,rfl⟩)
    have hsum:=add_ok hx'.1 hx'.2 hy'.1 hy'.2 (of_decide_eq_true hc)
    refine .seq (.region (.mv rfl rfl ?_))
    have hr : -9223372036854775808≤IntKind.i64.wrap (zval x+zval y)∧IntKind.i64.wrap (zval x+zval y)≤9223372036854775807:=by rw [IntKind.wrap_i64];omega
    refine .call _ rfl C5 rfl (C3 up5 hr.1 hr.2) fun v6 w6 e6 h6=>?_
    refine .storeA ty_Z rfl rfl ((k3.ext x35).ext e6) rfl rfl h6 hS fun w7 k7 u7 h7=>.nil (.ret ?_)
    refine .cell Tryz.results239 rfl ty_Z rfl rfl k7 h7 ⟨u7.below (x5.trans e6) (by omega),?_⟩
    rw [hsum] at h7
    exact h7.out
 ·rintro _ _ rfl
  have hsa5:=hsa3.ext x35
  have hsb5:=hsb3.ext x35
  have k1:=k1.ext x35
  have k2:=k2.ext x35
  refine .seq ?_
  refine .par follows 11 [.inl _,.inl _,.inl _,.inl _,.inr (eW.at (Sx S w.heap.size w3.heap.size) (wds (val x.w))),.inl _,.inl _,.inl _,.inl _,.inr (eW.at (Sx S w.heap.size w3.heap.size) (wds (val y.w))),.inr (eZ.at (Sx S w.heap.size w3.heap.size) (zc (sg x.neg (val x.w)+sg y.neg (val y.w))))]
   [[],[(37,0)],[],[(39,2)],[(40,3)],[],[(42,5)],[],[(44,7)],[(45,8)],[(38,1),(41,4),(43,6),(46,9)]] (by kernel_rfl) ⟨
   fun w e=>(v_fa G1 rfl).ob,
   fun w e=>(v_ld E0 rfl (k1.ext e) rfl).ob,
   fun w e=>(v_fa D9 rfl).ob,
   fun w e=>(v_ld ty_W rfl (k1.ext e) rfl).ob,
   fun w e=>(A1 _ B6 rfl (by rw [←E5 hda];exact B5 (hsa5.ext e))).ob (A6 _ _ _),
   fun w e=>(v_fa G1 rfl).ob,
   fun w e=>(v_ld E0 rfl (k2.ext e) rfl).ob,
   fun w e=>(v_fa D9 rfl).ob,
   fun w e=>(v_ld ty_W rfl (k2.ext e) rfl).ob,
   fun w e=>(A1 _ B6 rfl (by rw [←E5 hdb];exact B5 (hsb5.ext e))).ob (A6 _ _ _),
   fun w e x4 hx4 x9 hx9=>(A1 _ S4 rfl (R6 (up5.ext e.size) hx4 hx9 (Nat.le_trans (D6 hda) hla) (Nat.le_trans (D6 hdb) hlb))).ob (A6 _ _ _),trivial⟩ ?_
  intro w6 e6 x4 hx4 x9 hx9 x10 hx10
  refine .storeA ty_Z rfl rfl ((k3.ext x35).ext e6) rfl rfl hx10 hS fun w7 k7 u7 h7=>.nil (.ret ?_)
  refine .cell Tryz.results239 rfl ty_Z rfl rfl k7 h7 ⟨u7.below (x5.trans e6) (by omega),h7.out⟩
theorem Ah8:Ent Tryz.prog 241:=A0 Tryz.func241 (by kernel_rfl) rfl
theorem Ad9 {S:Nat→Prop} {w:World} {va vb:Value} {x y:ZV} (up:Up S w) (ha:eZ.R S w va x) (hb:eZ.R S w vb y) (hla:x.w.length≤1099511627776) (hlb:y.w.length≤1099511627776) :
  CR Tryz.prog 241 #[va,vb] w (eZ.at S (zc (zval x-zval y))):=by
 obtain ⟨sa,rfl,hsa⟩:=ha
 obtain ⟨sb,rfl,hsb⟩:=hb
 have hda:dig x.w:=D5 hsa
 have hdb:dig y.w:=D5 hsb
 refine enter Tryz.func241 rfl Tryz.ntmps241 rfl ?_
 refine .seq (.region (.box rfl rfl fun w1 b1 n1=>.box rfl rfl fun w2 b2 n2=>.alloc rfl B4 fun w3 b3 n3=>.nil ?_))
 obtain ⟨e1,k1,hb1,hs1⟩:=n1
 obtain ⟨e2,k2,hb2,hs2⟩:=n2
 obtain ⟨e3,k3,hb3,hs3⟩:=n3
 have x3:=(e1.trans e2).trans e3
 have k1:=(k1.ext e2).ext e3
 have k2:=k2.ext e3
 have hS:¬ Sx S w.heap.size w3.heap.size b3:=Sx.no (by omega) (by omega)
 have up3:Up (Sx S w.heap.size w3.heap.size) w3:=Sx.up up (Nat.le_refl _) x3.size
 have hsa3:=(hsa.par w3.heap.size).ext x3
 have hsb3:=(hsb.par w3.heap.size).ext x3
 refine .seq (.region (.ldA ty_Z rfl rfl k1 rfl ?_))
 refine .call _ rfl H0 rfl (G8 (z:=x) ⟨sa,rfl,hsa3⟩) fun v4 w4 e4 h4=>?_
 subst h4
 refine .mv rfl rfl (.ext rfl rfl rfl (.ext rfl rfl rfl (.asg rfl rfl (.asg rfl rfl (.nil ?_)))))
 refine .seq (.region (.ldA ty_Z rfl rfl (k2.ext e4) rfl ?_))
 refine .call _ rfl H0 rfl (G8 (z:=y) ⟨sb,rfl,hsb3.ext e4⟩) fun v5 w5 e5 h5=>?_
 subst h5
 refine .mv rfl rfl (.ext rfl rfl rfl (.ext rfl rfl rfl (.asg rfl rfl (.asg rfl rfl (.nil ?_)))))
 have x35:=e4.trans e5
 have x5:=x3.trans x35
 have up5:=up3.ext x35.size
 refine .mid (α:=Unit) (fun _=>[(2,.pointer (some ⟨b1,0,none⟩)),(3,.pointer (some ⟨b2,0,none⟩)),(4,.pointer (some ⟨b3,0,none⟩))]) (fun _ W=>W=w5) ?_ ?_
 ·refine .seq (.region (.mv rfl rfl (.mv rfl rfl ?_)))
  cases hx:i64ok (zval x) with
  | false =>
   refine .gs rfl rfl rfl rfl rfl (.pick rfl rfl rfl (.nil (.condF rfl (.skip ?_))))
   exact ⟨rfl,(),lkA rfl,rfl⟩
  | true =>
   have hx':=AD7.1 hx
   refine .gr rfl rfl rfl rfl (.mv rfl rfl (.pick rfl rfl rfl (.nil ?_)))
   cases hy:i64ok (zval y) with
   | false =>
    refine .condF rfl (.skip ?_)
    exact ⟨rfl,(),lkA rfl,rfl⟩
   | true =>
    have hy':=AD7.1 hy
    have ex:i64v (zval x)=zval x:=by rw [i64v,hx];rfl
    have ey:i64v (zval y)=zval y:=by rw [i64v,hy];rfl
    rw [ex,ey]
    refine .condT rfl (.seq (.region (.mv rfl rfl (.mv rfl rfl (.sub rfl rfl rfl (.asg rfl rfl (.nil ?_)))))))
    refine .seq (.region (.mv rfl rfl (.mv rfl rfl (.xor_ rfl rfl rfl (.mv rfl rfl (.mv rfl rfl (.xor_ rfl rfl rfl (.and_ rfl rfl rfl (.geq rfl rfl rfl (.nil ?_))))))))))
    refine .cond rfl (fun hc=>?_) (fun hc=>.skip ⟨rfl,(),lkA rfl,rfl⟩)
    have hsum:=sub_ok hx'.1 hx'.2 hy'.1 hy'.2 (of_decide_eq_true hc)
    refine .seq (.region (.mv rfl rfl ?_))
    have hr : -9223372036854775808≤IntKind.i64.wrap (zval x-zval y)∧IntKind.i64.wrap (zval x-zval y)≤9223372036854775807:=by rw [IntKind.wrap_i64];omega
    refine .call _ rfl C5 rfl (C3 up5 hr.1 hr.2) fun v6 w6 e6 h6=>?_
    refine .storeA ty_Z rfl rfl ((k3.ext x35).ext e6) rfl rfl h6 hS fun w7 k7 u7 h7=>.nil (.ret ?_)
    refine .cell Tryz.results241 rfl ty_Z rfl rfl k7 h7 ⟨u7.below (x5.trans e6) (by omega),?_⟩
    rw [hsum] at h7
    exact h7.out
 ·rintro _ _ rfl
  have hsa5:=hsa3.ext x35
  have hsb5:=hsb3.ext x35
  have k1:=k1.ext x35
  have k2:=k2.ext x35
  refine .seq ?_
  refine .par follows 12 [.inl _,.inl _,.inl _,.inl _,.inr (eW.at (Sx S w.heap.size w3.heap.size) (wds (val x.w))),.inl _,.inl _,.inl _,.inl _,.inl _,.inr (eW.at (Sx S w.heap.size w3.heap.size) (wds (val y.w))),.inr (eZ.at (Sx S w.heap.size w3.heap.size) (zc (sg x.neg (val x.w)+sg (!y.neg) (val y.w))))]
   [[],[(37,0)],[],[(39,2)],[(40,3)],[],[(42,5)],[(43,6)],[],[(45,8)],[(46,9)],[(38,1),(41,4),(44,7),(47,10)]] (by kernel_rfl) ⟨
   fun w e=>(v_fa G1 rfl).ob,
   fun w e=>(v_ld E0 rfl (k1.ext e) rfl).ob,
   fun w e=>(v_fa D9 rfl).ob,
   fun w e=>(v_ld ty_W rfl (k1.ext e) rfl).ob,
   fun w e=>(A1 _ B6 rfl (by rw [←E5 hda];exact B5 (hsa5.ext e))).ob (A6 _ _ _),
   fun w e=>(v_fa G1 rfl).ob,
   fun w e=>(v_ld E0 rfl (k2.ext e) rfl).ob,
   fun w e=>(AY4 rfl).ob,
   fun w e=>(v_fa D9 rfl).ob,
   fun w e=>(v_ld ty_W rfl (k2.ext e) rfl).ob,
   fun w e=>(A1 _ B6 rfl (by rw [←E5 hdb];exact B5 (hsb5.ext e))).ob (A6 _ _ _),
   fun w e x4 hx4 x9 hx9=>(A1 _ S4 rfl (R6 (up5.ext e.size) hx4 hx9 (Nat.le_trans (D6 hda) hla) (Nat.le_trans (D6 hdb) hlb))).ob (A6 _ _ _),trivial⟩ ?_
  intro w6 e6 x4 hx4 x9 hx9 x10 hx10
  refine .storeA ty_Z rfl rfl ((k3.ext x35).ext e6) rfl rfl hx10 hS fun w7 k7 u7 h7=>.nil (.ret ?_)
  refine .cell Tryz.results241 rfl ty_Z rfl rfl k7 h7 ⟨u7.below (x5.trans e6) (by omega),?_⟩
  rw [show zval x-zval y=sg x.neg (val x.w)+sg (!y.neg) (val y.w) by unfold zval sg;cases x.neg<;>cases y.neg<;>simp<;>omega]
  exact h7.out
theorem sg_mul (a b:Bool) (m n:Nat):sg (a != b) (m*n)=sg a m*sg b n:=by
 cases a<;>cases b<;>simp [sg,Int.natCast_mul,Int.neg_mul,Int.mul_neg]
theorem F2:Ent Tryz.prog 135:=A0 Tryz.func135 (by kernel_rfl) rfl
theorem E9 {S:Nat→Prop} {w:World} {va vb:Value} {x y:ZV} (up:Up S w) (ha:eZ.R S w va x) (hb:eZ.R S w vb y) (hla:x.w.length≤1099511627776) (hlb:y.w.length≤1099511627776) :
  CR Tryz.prog 135 #[va,vb] w (eZ.at S (zc (zval x*zval y))):=by
 obtain ⟨sa,rfl,hsa⟩:=ha
 obtain ⟨sb,rfl,hsb⟩:=hb
 have hda:dig x.w:=D5 hsa
 have hdb:dig y.w:=D5 hsb
 have hla':=Nat.le_trans (D6 hda) hla
 have hlb':=Nat.le_trans (D6 hdb) hlb
 refine enter Tryz.func135 rfl Tryz.ntmps135 rfl ?_
 refine .seq (.region (.box rfl rfl fun w1 b1 n1=>.box rfl rfl fun w2 b2 n2=>.alloc rfl B4 fun w3 b3 n3=>.nil ?_))
 obtain ⟨e1,k1,hb1,hs1⟩:=n1
 obtain ⟨e2,k2,hb2,hs2⟩:=n2
 obtain ⟨e3,k3,hb3,hs3⟩:=n3
 have x3:=(e1.trans e2).trans e3
 have k1:=(k1.ext e2).ext e3
 have k2:=k2.ext e3
 have hS:¬ Sx S w.heap.size w3.heap.size b3:=Sx.no (by omega) (by omega)
 have up3:Up (Sx S w.heap.size w3.heap.size) w3:=Sx.up up (Nat.le_refl _) x3.size
 have hsa3:=(hsa.par w3.heap.size).ext x3
 have hsb3:=(hsb.par w3.heap.size).ext x3
 generalize hT:Sx S w.heap.size w3.heap.size=T at *
 have hprod:zval x*zval y=sg (x.neg != y.neg) (val x.w*val y.w):=by rw [sg_mul];rfl
 refine .seq ?_
 refine .par follows 7 [.inl _,.inl _,.inr (eW.at T (wds (val x.w))),.inl _,.inl _,.inr (eW.at T (wds (val y.w))),.inr (eW.at T (wds (val x.w)))] [[],[(7,0)],[(8,1)],[],[(10,3)],[(11,4)],[(9,2)]] (by kernel_rfl) ⟨
  fun w e=>(v_fa D9 rfl).ob,
  fun w e=>(v_ld ty_W rfl (k1.ext e) rfl).ob,
  fun w e=>(A1 _ B6 rfl (by rw [←E5 hda];exact B5 (hsa3.ext e))).ob (A6 _ _ _),
  fun w e=>(v_fa D9 rfl).ob,
  fun w e=>(v_ld ty_W rfl (k2.ext e) rfl).ob,
  fun w e=>(A1 _ B6 rfl (by rw [←E5 hdb];exact B5 (hsb3.ext e))).ob (A6 _ _ _),
  fun w e x2 hx2=>Ap8 rfl hx2 (A6 _ _ _),trivial⟩ ?_
 intro w4 e4 u2 hu2 u5 hu5 u6 hu6
 refine .asg rfl rfl (.nil ?_)
 have x4:=x3.trans e4
 have up4:=up3.ext e4.size
 have k1:=k1.ext e4
 have k2:=k2.ext e4
 have k3:=k3.ext e4
 have hla1:=AF9 hu6
 have hlb1:=AF9 hu5
 refine .mid (α:=Unit) (fun _=>[(2,.pointer (some ⟨b1,0,none⟩)),(3,.pointer (some ⟨b2,0,none⟩)),(4,.pointer (some ⟨b3,0,none⟩)),(5,u6),(6,u5)]) (fun _ W=>W=w4) ?_ ?_
 ·refine .seq (.region (.mv rfl rfl (.lenR un_W rfl rfl hu6 ?_)))
  by_cases h1:(wds (val x.w)).length≤1
  ·refine .leqT rfl rfl rfl (by omega) (.mv rfl rfl (.gr rfl rfl rfl rfl (.mv rfl rfl (.gr rfl rfl rfl rfl (.lenR un_W rfl rfl hu5 (.gr rfl rfl rfl rfl ?_))))))
   by_cases h2:(wds (val y.w)).length≤1
   ·refine .leqT rfl rfl rfl (by omega) (.pick rfl rfl rfl (.nil (.condT rfl (.seq ?_))))
    have hxl:val x.w<4294967296:=by
     have h3:=AA7 (val x.w)
     have h4:4294967296 ^ (wds (val x.w)).length≤4294967296 ^ 1:=Nat.pow_le_pow_right (by omega) h1
     omega
    have hyl:val y.w<4294967296:=by
     have h3:=AA7 (val y.w)
     have h4:4294967296 ^ (wds (val y.w)).length≤4294967296 ^ 1:=Nat.pow_le_pow_right (by omega) h2
     omega
    have hxy:val x.w*val y.w≤4294967295*4294967295:=Nat.mul_le_mul (by omega) (by omega)
    refine .par follows 11 [.inl _,.inl _,.inl _,.inl _,.inl _,.inl _,.inl (.int .u64 (val x.w:Nat)),.inl _,.inl (.int .u64 (val y.w:Nat)),.inl (.int .u64 ((val x.w*val y.w:Nat):Int)),.inr (eZ.at T (zc (sg (x.neg != y.neg) (val x.w*val y.w))))]
     [[],[(21,0)],[],[(23,2)],[(22,1),(24,3)],[],[(26,5)],[],[(28,7)],[(27,6),(29,8)],[(25,4),(30,9)]] (by kernel_rfl) ⟨
     fun w e=>(v_fa G1 rfl).ob,
     fun w e=>(v_ld E0 rfl (k1.ext e) rfl).ob,
     fun w e=>(v_fa G1 rfl).ob,
     fun w e=>(v_ld E0 rfl (k2.ext e) rfl).ob,
     fun w e=>(Aj9 AD0 rfl rfl).ob,
     fun w e=>(v_mv rfl).ob,
     fun w e=>(A1 _ J7 rfl (by have:=I9 (hu6.ext e) (by omega);rw [A8] at this;exact this)).obIs,
     fun w e=>(v_mv rfl).ob,
     fun w e=>(A1 _ J7 rfl (by have:=I9 (hu5.ext e) (by omega);rw [A8] at this;exact this)).obIs,
     fun w e=>((v_mul rfl rfl).eq (by rw [←Int.natCast_mul,wU (by omega)])).ob,
     fun w e=>(A1 _ I6 rfl (I3 (up4.ext e.size) (by omega))).ob (A6 _ _ _),trivial⟩ ?_
    intro w5 e5 x10 hx10
    refine .storeA ty_Z rfl rfl (k3.ext e5) rfl rfl hx10 hS fun w6 k6 u6 h6=>.nil (.ret ?_)
    refine .cell Tryz.results135 rfl ty_Z rfl rfl k6 h6 ⟨u6.below (x4.trans e5) (by omega),?_⟩
    subst hT
    rw [hprod]
    exact h6.out
   ·refine .leqF rfl rfl rfl (by omega) (.pick rfl rfl rfl (.nil (.condF rfl (.skip ?_))))
    exact ⟨rfl,(),lkA rfl,rfl⟩
  ·refine .leqF rfl rfl rfl (by omega) (.mv rfl rfl (.gs rfl rfl rfl rfl rfl (.gs rfl rfl rfl rfl rfl (.gs rfl rfl rfl rfl rfl (.pick rfl rfl rfl (.nil (.condF rfl (.skip ?_))))))))
   exact ⟨rfl,(),lkA rfl,rfl⟩
 ·rintro _ _ rfl
  refine .seq ?_
  refine .par follows 9 [.inl _,.inl _,.inl _,.inl _,.inl _,.inl _,.inl _,.inr (Wv T (val x.w*val y.w) (1099511627776+1099511627776)),.inr (eZ.at T (zc (sg (x.neg != y.neg) (val x.w*val y.w))))] [[],[(32,0)],[],[(34,2)],[(33,1),(35,3)],[],[],[(37,5),(38,6)],[(36,4),(39,7)]] (by kernel_rfl) ⟨
   fun w e=>(v_fa G1 rfl).ob,
   fun w e=>(v_ld E0 rfl (k1.ext e) rfl).ob,
   fun w e=>(v_fa G1 rfl).ob,
   fun w e=>(v_ld E0 rfl (k2.ext e) rfl).ob,
   fun w e=>(Aj9 AD0 rfl rfl).ob,
   fun w e=>(v_mv rfl).ob,
   fun w e=>(v_mv rfl).ob,
   fun w e=>(A1 _ AM8 rfl ((AK9 (up4.ext e.size) (hu6.ext e) (hu5.ext e) hla' hlb').mono fun v w' _ ⟨r,h1,h2,h3⟩=>⟨r,h1,by rw [h2,A8,A8],by omega⟩)).ob (st_wv _ _ _),
   fun w e x7 hx7=>(A1 _ F1 rfl (by obtain ⟨r,h1,h2,h3⟩:=hx7;have:=E8 (neg:=x.neg != y.neg) (up4.ext e.size) h1;rw [h2] at this;exact this)).ob (A6 _ _ _),trivial⟩ ?_
  intro w5 e5 x7 hx7 x8 hx8
  refine .storeA ty_Z rfl rfl (k3.ext e5) rfl rfl hx8 hS fun w6 k6 u6 h6=>.nil (.ret ?_)
  refine .cell Tryz.results135 rfl ty_Z rfl rfl k6 h6 ⟨u6.below (x4.trans e5) (by omega),?_⟩
  subst hT
  rw [hprod]
  exact h6.out
end Go.Proofs.YtfilidfomgfnhaaGreat

namespace Go.Proofs.YtfilidfomgfnhaaGreat
open Go Go.Kx Go.RowKit
theorem Ah3 {S:Nat→Prop} {w:World} {es:List Value} {l:List Nat} (h:Els eU32 S w es l):es=l.map wv:=by
 apply List.ext_getElem?
 intro i
 rw [List.getElem?_map]
 rcases Nat.lt_or_ge i l.length with hi | hi
 ·have hi':i<es.length:=by rw [h.1];exact hi
  have:=h.2 i es[i] l[i] (List.getElem?_eq_getElem hi') (List.getElem?_eq_getElem hi)
  rw [List.getElem?_eq_getElem hi',List.getElem?_eq_getElem hi,Option.map_some]
  exact congrArg some this.1
 ·rw [List.getElem?_eq_none hi,List.getElem?_eq_none (by rw [h.1];exact hi)];rfl
theorem Clone_o {S:Nat→Prop} {w:World} {v:Value} {l:List Nat} (h:eW.R S w v l) (hl:l.length≤1099511627776):CR Tryz.prog 183 #[v] w (fun v' w'=>OwnW 60 w.heap.size w' v' l):=by
 have hdl:dig l:=D5 h
 refine enter Tryz.func183 rfl Tryz.ntmps183 rfl ?_
 refine .seq (.region (.asg rfl rfl (.nil ?_)))
 obtain ⟨es,he,a,c,rfl,hc,hm,hlen,hcell⟩:=h
 have hes:=Ah3 he
 subst hes
 refine .seq (.seq (.region (.mv rfl rfl (.eqNil un_W rfl rfl rfl (.nil ?_)))))
 cases a with
 | none =>
  refine .condT rfl (.seq (.region (.asg rfl rfl (.nil (.ret ?_)))))
  have:l=[]:=by
   cases l with
   | nil=>rfl
   | cons x l=>obtain ⟨ad,h,_⟩:=hcell (by simp);cases h
  subst this
  exact .plain [_] Tryz.results183 ⟨rfl,trivial⟩ ⟨.refl _,⟨rfl,.inl ⟨rfl,rfl⟩⟩,by simp [dig]⟩
 | some ad =>
  refine .condF rfl (.skip (.seq (.region ?_)))
  refine .bsl _ rfl rfl BA9 fun w1 b1 n1=>?_
  obtain ⟨e1,k1,hb1,hs1⟩:=n1
  have hcell1:∀ j u,(cellsOf (l.map wv))[j]?=some u→w1.cell? (ad.add j)=some u:=by
   intro j u hu
   rcases Nat.eq_zero_or_pos l.length with h0 | h0
   ·rw [h0,Nat.zero_mul] at hlen
    have:cellsOf (l.map wv)=[]:=List.length_eq_zero_iff.1 hlen
    rw [this] at hu;simp at hu
   ·obtain ⟨ad',h1,_,h2⟩:=hcell h0
    cases h1
    have:=(h2 j u hu).1
    have hlt:=AJ9 this
    exact (AE3 (p:=ad.add j) (e1.block _ hlt)).trans this
  have hown:w1.ownsRow w.heap.size 60 1 (.slice (some ⟨b1,0,none⟩) 0 0) 0 []:=⟨rfl,.inr ⟨b1,0,#[],rfl,by omega,k1,Nat.le_refl _,Nat.zero_le _,rfl,rfl⟩⟩
  rw [E3 wv (fun _=>rfl)] at hcell1 hlen
  have hon:∀ u∈l.map wv,one1 u=true:=by
   intro u hu
   obtain ⟨x,_,rfl⟩:=List.mem_map.1 hu
   rfl
  refine .mv rfl rfl ?_
  refine .gv rfl rfl (AZ8 (l.map wv) un_W G7 rfl (by decide) rfl rfl hown hlen hcell1 hon (by omega) (by omega) (by omega)) ?_
  rintro v2 w2 ⟨ho,hg⟩
  refine .asg rfl rfl (.nil (.ret ?_))
  have hx:Ext w w2:=Below.grown e1 hg e1.size (fun k hk=>by simp [Value.ownBlock] at hk;omega)
  simp only [List.nil_append,Nat.zero_add] at ho
  exact .plain [_] Tryz.results183 ⟨rfl,trivial⟩ ⟨hx,ho,hdl⟩
theorem prt_Z1 {x y:Value} (hy:one1 y=true):prtOf Tryz.prog 53 #[x,y] 1=some y:=by kernel_rfl
theorem V7:Ent Tryz.prog 264:=A0 Tryz.func264 (by kernel_rfl) rfl
theorem U4 {S T0:Nat→Prop} {w:World} {va vb:Value} {m n:Nat} (up:Up S w) (upo:Up T0 w) (ha:eW.R S w va (wds m)) (hb:eW.R S w vb (wds n)) (hla:(wds m).length≤1099511627776) (hn:0<n) :
  CR Tryz.prog 264 #[va,vb] w (Two (Wv T0 (m / n) ((wds m).length+1)) (Wv S (m % n) ((wds m).length+1))):=by
 refine enter Tryz.func264 rfl Tryz.ntmps264 rfl ?_
 refine .seq (.region (.asg rfl rfl (.asg rfl rfl (.nil ?_))))
 refine .seq (.block (.seq (.region (.mv rfl rfl (.mv rfl rfl ?_)))))
 refine .call _ rfl P5 rfl (O6 ha hb) fun v1 w1 e1 h1=>?_
 subst h1
 have ha1:=ha.ext e1
 have hb1:=hb.ext e1
 have up1:=up.ext e1.size
 have upo1:=upo.ext e1.size
 by_cases hlt:m<n
 ·refine .lssT rfl rfl rfl (AJ8.2 hlt) (.asg rfl rfl (.nil (.condT rfl (.seq (.region (.mv rfl rfl ?_))))))
  refine .call _ rfl AR9 rfl (Ad7 up1 ha1 hla) fun v2 w2 e2 h2=>.asg rfl rfl (.asg rfl rfl (.nil (.ret ?_)))
  refine .plain [_,_] Tryz.results264 ⟨rfl,rfl,trivial⟩ ⟨e1.trans e2,_,_,rfl,⟨[],RL.nil,?_,by simp⟩,⟨_,h2,?_,by omega⟩⟩
  ·rw [Nat.div_eq_of_lt hlt];rfl
  ·rw [A8,Nat.mod_eq_of_lt hlt]
 have hle:(wds n).length≤(wds m).length:=U6 (by omega)
 have hn1:1≤(wds n).length:=by
  have:=N3 (n:=n) (by omega)
  have:=List.length_pos_iff.2 this
  omega
 refine .lssF rfl rfl rfl (fun h=>hlt (AJ8.1 h)) (.asg rfl rfl (.nil (.condF rfl (.seq (.region (.mv rfl rfl (.lenR un_W rfl rfl ha1 ?_)))))))
 by_cases h2:(wds m).length≤2
 ·refine .leqT rfl rfl rfl (by omega) (.asg rfl rfl (.nil (.condT rfl (.seq (.region (.mv rfl rfl ?_))))))
  have hm64:m<18446744073709551616:=by
   have h3:=AA7 m
   have h4:4294967296 ^ (wds m).length≤4294967296 ^ 2:=Nat.pow_le_pow_right (by omega) h2
   omega
  refine .call _ rfl J7 rfl (I9 ha1 h2) fun v2 w2 e2 h2'=>?_
  subst h2'
  refine .mv rfl rfl (.call _ rfl J7 rfl (I9 (hb1.ext e2) (by omega)) fun v3 w3 e3 h3=>?_)
  subst h3
  rw [A8,A8]
  refine .asg rfl rfl (.asg rfl rfl (.nil (.seq ?_)))
  have x3:=(e1.trans e2).trans e3
  have up3:=up.ext x3.size
  have upo3:=upo.ext x3.size
  have hq:m / n<18446744073709551616:=Nat.lt_of_le_of_lt (Nat.div_le_self _ _) hm64
  have hr:m % n<18446744073709551616:=Nat.lt_of_le_of_lt (Nat.mod_le _ _) hm64
  have hfd:∀ {S:Nat→Prop} {σ:Env} {W:World} {d:Option Tmp} {ty:TypeId} {pos:String} {af:Array Edge} {x:Operand} {u:Value} {k:Nat},ev σ x=some u→eZ.R S W u (zc (sg false k))→Gv Tryz.prog ⟨d,.field 53 x 1,ty,pos,af,none⟩ σ W fun v' w'=>Ext W w'∧Sp.ok (.inr (eW.at S (wds k))) v' w':=by
   intro S σ W d ty pos af x u k hx hz
   obtain ⟨s,rfl,hs⟩:=hz
   have hk:(zc (sg false k)).w=wds k:=by simp [zc,sg]
   rw [hk] at hs
   exact K4 (v_fd hx (prt_Z1 (eW.shp hs))) hs (A6 _ _ _)
  refine .par follows 11 [.inl _,.inl _,.inl (.int .u64 ((m / n:Nat):Int)),.inr (eZ.at T0 (zc (sg false (m / n)))),.inr (eW.at T0 (wds (m / n))),.inl _,.inl _,.inl (.int .u64 ((m % n:Nat):Int)),.inr (eZ.at S (zc (sg false (m % n)))),.inr (eW.at S (wds (m % n))),.inr (eW.at T0 (wds (m / n)))] [[],[],[(24,0),(25,1)],[(26,2)],[(27,3)],[],[],[(29,5),(30,6)],[(31,7)],[(32,8)],[(28,4)]] (by kernel_rfl) ⟨
   fun w e=>(v_mv rfl).ob,
   fun w e=>(v_mv rfl).ob,
   fun w e=>((AS9 rfl rfl (by omega)).eq (by rw [M1,N1,Nat.mod_eq_of_lt hq])).ob,
   fun w e=>(A1 _ I6 rfl (I3 (upo3.ext e.size) hq)).ob (A6 _ _ _),
   fun w e x3 hx3=>hfd rfl hx3,
   fun w e=>(v_mv rfl).ob,
   fun w e=>(v_mv rfl).ob,
   fun w e=>((AS8 rfl rfl (by omega)).eq (by rw [M0])).ob,
   fun w e=>(A1 _ I6 rfl (I3 (up3.ext e.size) hr)).ob (A6 _ _ _),
   fun w e x8 hx8=>hfd rfl hx8,
   fun w e x4 hx4=>Ap8 rfl hx4 (A6 _ _ _),trivial⟩ ?_
  intro w4 e4 _ _ _ _ _ _ u9 hu9 u10 hu10
  refine .asg rfl rfl (.nil (.ret ?_))
  exact .plain [_,_] Tryz.results264 ⟨rfl,rfl,trivial⟩ ⟨x3.trans e4,_,_,rfl,⟨_,hu10,A8 _,Nat.le_succ_of_le (U6 (Nat.div_le_self _ _))⟩,⟨_,hu9,A8 _,Nat.le_succ_of_le (U6 (Nat.mod_le _ _))⟩⟩
 refine .leqF rfl rfl rfl (by omega) (.asg rfl rfl (.nil (.condF rfl (.seq (.region (.mv rfl rfl (.lenR un_W rfl rfl hb1 ?_)))))))
 by_cases h3:(wds n).length=1
 ·refine .eqlT rfl rfl rfl (by omega) (.asg rfl rfl (.nil (.condT rfl (.seq (.region (.mv rfl rfl ?_))))))
  refine .call _ rfl AR9 rfl (Clone_o ha1 hla) fun v2 w2 e2 o2=>.asg rfl rfl (.nil ?_)
  obtain ⟨g,cap,rfl,hc1,hc2,hg,ob⟩:=o2.ob (by intro h;rw [h] at h2;simp at h2)
  have hn32:n<4294967296:=by
   have h4:=AA7 n
   rw [h3] at h4;omega
  have hwn:wds n=[n]:=AL2 hn32 (by omega)
  refine .seq (.region (.mv rfl rfl (.mv rfl rfl ?_)))
  have hb2:=hb1.ext e2
  rw [hwn] at hb2
  refine .ix un_W A3 rfl rfl hb2 rfl (by decide) (y:=n) rfl fun p hp=>.ldE A3 rfl rfl hp fun e he=>?_
  obtain ⟨rfl,_⟩:=he
  refine .cvt B9 C0 rfl rfl ?_
  rw [wU (n:=(n:Int)) (by omega)]
  refine .callG _ rfl AM7 rfl (AK8 ob hn hn32 hla) ?_
  rintro _ w3 ⟨rfl,u3,V,obV,hlV,hvV⟩
  rw [A8] at hvV ⊢
  refine .asg rfl rfl (.nil (.seq (.region (.mv rfl rfl (.mv rfl rfl (.cvt C0 B9 rfl rfl ?_))))))
  have hmn:m % n<4294967296:=Nat.lt_trans (Nat.mod_lt _ hn) hn32
  rw [H7,Nat.mod_eq_of_lt hmn]
  refine .bsl _ rfl rfl Z3 fun w4 b4 n4=>.asg rfl rfl (.asg rfl rfl (.nil (.ret ?_)))
  obtain ⟨e4,k4,hb4,hs4⟩:=n4
  have hx3:Ext w w3:=u3.below (e1.trans e2) (by have:=e1.size;omega)
  have hR:=(obV.ext e4).toR0 (S:=T0) (c:=cap) (upo g (by have:=e1.size;omega)) (by omega) (by omega)
  rw [hlV] at hR
  have hR2:eW.R S w4 (.slice (some ⟨b4,0,none⟩) 1 1) [m % n]:=AV0 (l:=[m % n]) (t:=60) k4 (up b4 (by have:=hx3.size;omega)) (by simp [dig,hmn]) (Nat.le_refl 1) (by simp)
  exact .plain [_,_] Tryz.results264 ⟨rfl,rfl,trivial⟩ ⟨hx3.trans e4,_,_,rfl,⟨V,hR,hvV,by omega⟩,⟨_,hR2,by simp [val],by simp⟩⟩
 refine .eqlF rfl rfl rfl (by omega) (.asg rfl rfl (.nil (.condF rfl (.skip (.seq (.region (.mv rfl rfl (.mv rfl rfl ?_))))))))
 have htop:0<(wds n).getD ((wds n).length-2+1) 0:=by
  have hc:=can_wds n
  have h5:(wds n)[(wds n).length-1]?=some ((wds n).getD ((wds n).length-2+1) 0):=by
   rw [show (wds n).length-2+1=(wds n).length-1 by omega]
   exact B2 (by omega)
  have:=hc _ (by rw [List.getLast?_eq_getElem?];exact h5)
  omega
 refine .call _ rfl AQ1 rfl (AP5 (m:=(wds n).length-2) up1 upo1 ha1 hb1 hla (by omega) hle htop) fun v2 w2 e2 h2=>?_
 obtain ⟨q,r,rfl,hq,hr⟩:=h2
 rw [A8,A8] at hq hr
 refine .ext rfl rfl rfl (.ext rfl rfl rfl (.asg rfl rfl (.asg rfl rfl (.nil (.ret ?_)))))
 exact .plain [_,_] Tryz.results264 ⟨rfl,rfl,trivial⟩ ⟨e1.trans e2,_,_,rfl,hq,hr⟩
theorem AL1 {S:Nat→Prop} {w:World} {va vb:Value} {m n:Nat} (up:Up S w) (ha:eW.R S w va (wds m)) (hb:eW.R S w vb (wds n)) (hla:(wds m).length≤1099511627776) (hn:0<n) :
  CR Tryz.prog 264 #[va,vb] w (Two (Wv S (m / n) ((wds m).length+1)) (Wv S (m % n) ((wds m).length+1))):=U4 up up ha hb hla hn
end Go.Proofs.YtfilidfomgfnhaaGreat

namespace Go.Proofs.YtfilidfomgfnhaaGreat
open Go Go.Kx Go.RowKit
/-- a result that lies in a cell -/
theorem C6 {P:Program} {w:World} {t t':TypeId} {b n:Nat} {α:Type} {E:ER α} {S:Nat→Prop} {v:Value} {z:α} (ht:tyOf P t=some (true,n)) (hA:E.isA=true) (hn:E.sz=n) (hb:Blk w b t' v.cells) (hz:E.R S w v z):(loadVar t ⟨b,0,none⟩).run P w=.ok v w:=by
 have hsz:=E.csz hz
 have:=J8 (P:=P) (w:=w) (p:=⟨b,0,none⟩) (cs:=v.cells.toList) (t:=t) (by rw [ht];simp;omega) (fun j u hu=>by rw [J6,hb.cell];simpa using hu)
 rw [this]
 have hv:=shpA hA hz
 simp only [Array.toArray_toList]
 rw [←hv]
theorem AO6 {a b q r:Int} (hb:b≠0) (h:a=b*q+r) (h0:0≤r) (h1:r<b.natAbs):a / b=q∧a % b=r:=by
 subst h
 have hz:r / b=0:=by
  rcases Int.lt_or_gt_of_ne hb with h | h
  ·have:r / b = -(r / -b):=by rw [Int.ediv_neg,Int.neg_neg]
   rw [this,Int.ediv_eq_zero_of_lt h0 (by omega)];rfl
  ·exact Int.ediv_eq_zero_of_lt h0 (by omega)
 have hm:r % b=r:=by
  have:=Int.emod_def r b
  rw [hz] at this;omega
 constructor
 ·rw [Int.add_comm,Int.add_mul_ediv_left _ _ hb,hz];omega
 ·rw [Int.add_comm,Int.add_mul_emod_self_left,hm]
/-- the Euclidean quotient and rest by magnitudes -/
theorem Z2 {p q:Bool} {A B:Nat} (hB:0<B) (h:p=false∨A % B=0):sg p A / sg q B=sg (p != q) (A / B)∧sg p A % sg q B=sg false (A % B):=by
 have hd:=Nat.div_add_mod A B
 have hm:=Nat.mod_lt A hB
 generalize A / B=d at *
 generalize A % B=m at *
 subst hd
 refine AO6 (by cases q<;>simp [sg]<;>omega) ?_ (Int.natCast_nonneg m) (by rw [AY8];show (m:Int)<(B:Int);omega)
 cases p with
 | false=>cases q<;>simp [sg,Int.natCast_mul,Int.neg_mul,Int.mul_neg]
 | true =>
  have hm0:m=0:=h.resolve_left (by simp)
  subst hm0
  cases q<;>simp [sg,Int.natCast_mul,Int.neg_mul,Int.mul_neg]
theorem AV1 {q:Bool} {A B:Nat} (hB:0<B) (h:0<A % B):sg true A / sg q B=sg (true != q) (A / B+1)∧sg true A % sg q B=sg false (B-A % B):=by
 have hd:=Nat.div_add_mod A B
 have hm:=Nat.mod_lt A hB
 generalize A / B=d at *
 generalize A % B=m at *
 subst hd
 refine AO6 (by cases q<;>simp [sg]<;>omega) ?_ (Int.natCast_nonneg _) (by rw [AY8];show ((B-m:Nat):Int)<(B:Int);omega)
 have e:((B:Int)*((d:Int)+1))=(B:Int)*d+B:=by rw [Int.mul_add,Int.mul_one]
 have e2:((B-m:Nat):Int)=(B:Int)-m:=by omega
 cases q<;>simp [sg,Int.natCast_mul,Int.neg_mul,Int.mul_neg,e,e2]<;>omega
theorem AC6:Ent Tryz.prog 237:=A0 Tryz.func237 (by kernel_rfl) rfl
theorem AA6 {S T0:Nat→Prop} {w:World} {va vb:Value} {x y:ZV} (up:Up S w) (upo:Up T0 w) (ha:eZ.R S w va x) (hb:eZ.R S w vb y) (hla:x.w.length≤1000000000000) (hlb:y.w.length≤1000000000000) (hy:zval y≠0) :
  CR Tryz.prog 237 #[va,vb] w (Three (eZ.at T0 (zc (zval x / zval y))) (eZ.at S (zc (zval x % zval y))) (Is (.int .i64 0))):=by
 obtain ⟨sa,rfl,hsa⟩:=ha
 obtain ⟨sb,rfl,hsb⟩:=hb
 have hda:dig x.w:=D5 hsa
 have hdb:dig y.w:=D5 hsb
 have hla':=Nat.le_trans (D6 hda) hla
 have hlb':=Nat.le_trans (D6 hdb) hlb
 have hy0:0<val y.w:=by
  rcases Nat.eq_zero_or_pos (val y.w) with h | h
  ·exact absurd (by unfold zval sg;rw [h];simp) hy
  ·exact h
 refine enter Tryz.func237 rfl Tryz.ntmps237 rfl ?_
 refine .seq (.region (.box rfl rfl fun w1 b1 n1=>.box rfl rfl fun w2 b2 n2=>.alloc rfl B4 fun w3 b3 n3=>.alloc rfl B4 fun w4 b4 n4=>.asg rfl rfl (.nil ?_)))
 obtain ⟨e1,k1,hb1,hs1⟩:=n1
 obtain ⟨e2,k2,hb2,hs2⟩:=n2
 obtain ⟨e3,k3,hb3,hs3⟩:=n3
 obtain ⟨e4,k4,hb4,hs4⟩:=n4
 have x4:=((e1.trans e2).trans e3).trans e4
 have k1:=((k1.ext e2).ext e3).ext e4
 have k2:=(k2.ext e3).ext e4
 have k3:=k3.ext e4
 have hS3:¬ Sx T0 w.heap.size w4.heap.size b3:=Sx.no (by omega) (by omega)
 have hU4:¬ Sx T0 w.heap.size w4.heap.size b4:=Sx.no (by omega) (by omega)
 have upo4:Up (Sx T0 w.heap.size w4.heap.size) w4:=Sx.up upo (Nat.le_refl _) x4.size
 have houo:∀ {W:World} {v:Value} {z:ZV},eZ.R (Sx T0 w.heap.size w4.heap.size) W v z→eZ.R T0 W v z:=fun h=>h.out
 have hST3:¬ Sx S w.heap.size w4.heap.size b3:=Sx.no (by omega) (by omega)
 have hS4:¬ Sx S w.heap.size w4.heap.size b4:=Sx.no (by omega) (by omega)
 have up4:Up (Sx S w.heap.size w4.heap.size) w4:=Sx.up up (Nat.le_refl _) x4.size
 have hsa4:=(hsa.par w4.heap.size).ext x4
 have hsb4:=(hsb.par w4.heap.size).ext x4
 have hout:∀ {W:World} {v:Value} {z:ZV},eZ.R (Sx S w.heap.size w4.heap.size) W v z→eZ.R S W v z:=fun h=>h.out
 generalize hT:Sx S w.heap.size w4.heap.size=T at *
 generalize hU:Sx T0 w.heap.size w4.heap.size=U at *
 refine .seq ?_
 refine .par follows 7 [.inl _,.inl _,.inr (eW.at T (wds (val x.w))),.inl _,.inl _,.inr (eW.at T (wds (val y.w))),.inr (eW.at T (wds (val x.w)))] [[],[(11,0)],[(12,1)],[],[(14,3)],[(15,4)],[(13,2)]] (by kernel_rfl) ⟨
  fun w e=>(v_fa D9 rfl).ob,
  fun w e=>(v_ld ty_W rfl (k1.ext e) rfl).ob,
  fun w e=>(A1 _ B6 rfl (by rw [←E5 hda];exact B5 (hsa4.ext e))).ob (A6 _ _ _),
  fun w e=>(v_fa D9 rfl).ob,
  fun w e=>(v_ld ty_W rfl (k2.ext e) rfl).ob,
  fun w e=>(A1 _ B6 rfl (by rw [←E5 hdb];exact B5 (hsb4.ext e))).ob (A6 _ _ _),
  fun w e x2 hx2=>Ap8 rfl hx2 (A6 _ _ _),trivial⟩ ?_
 intro w5 e5 u2 hu2 u5 hu5 u6 hu6
 refine .asg rfl rfl (.nil ?_)
 have x5:=x4.trans e5
 have up5:=up4.ext e5.size
 have upo5:=upo4.ext e5.size
 have hne:(wds (val y.w)).length≠0:=by
  have:=List.length_pos_iff.2 (N3 (n:=val y.w) (by omega));omega
 refine .seq (.seq (.region (.mv rfl rfl (.lenR un_W rfl rfl hu5 (.eqlF rfl rfl rfl (by omega) (.nil (.condF rfl (.skip ?_))))))))
 refine .seq (.region (.mv rfl rfl (.mv rfl rfl ?_)))
 refine .call _ rfl V7 rfl (U4 up5 upo5 hu6 hu5 (by omega) hy0) fun v6 w6 e6 h6=>?_
 obtain ⟨vq,vr,rfl,⟨q,hq,hqv,hql⟩,⟨r,hr,hrv,hrl⟩⟩:=h6
 refine .mv rfl rfl (.ext rfl rfl rfl (.ext rfl rfl rfl (.asg rfl rfl (.asg rfl rfl (.nil ?_)))))
 have hrd:dig r:=D5 hr
 refine .seq (.region (.mv rfl rfl ?_))
 refine .call _ rfl B6 rfl (B5 hr) fun vt w7 e7 ht=>.asg rfl rfl (.nil ?_)
 rw [E5 hrd,hrv] at ht
 have e67:=e6.trans e7
 have x7:=x5.trans e67
 have up7:=up5.ext e67.size
 have upo7:=upo5.ext e67.size
 have hq7:=hq.ext e7
 have k1:=(k1.ext e5).ext e67
 have k2:=(k2.ext e5).ext e67
 have k3:=(k3.ext e5).ext e67
 have k4:=(k4.ext e5).ext e67
 have hu57:=hu5.ext e67
 have hl7:=AF9 ht
 have hrl':(wds (val x.w % val y.w)).length≤(wds (val y.w)).length:=U6 (Nat.le_of_lt (Nat.mod_lt _ hy0))
 refine .mid (α:=Value×Value) (fun z=>[(2,.pointer (some ⟨b1,0,none⟩)),(3,.pointer (some ⟨b2,0,none⟩)),(4,.pointer (some ⟨b3,0,none⟩)),(5,.pointer (some ⟨b4,0,none⟩)),(9,z.1),(10,z.2)])
  (fun z W=>Ext w7 W∧∃ q r,eW.R U W z.1 q∧eW.R T W z.2 r∧zval x / zval y=sg (x.neg != y.neg) (val q)∧zval x % zval y=sg false (val r)) ?_ ?_
 ·refine .seq (.region (.fa G1 rfl rfl (.ld E0 rfl rfl k1 rfl (.mv rfl rfl ?_))))
  cases hn:x.neg with
  | false =>
   refine .gs rfl rfl rfl rfl rfl (.gs rfl rfl rfl rfl rfl (.gs rfl rfl rfl rfl rfl (.pick rfl rfl rfl (.nil (.condF rfl (.skip ?_))))))
   obtain ⟨d1,d2⟩:=Z2 (p:=false) (q:=y.neg) (A:=val x.w) hy0 (.inl rfl)
   refine ⟨rfl,(vq,vt),lkA rfl,.refl _,q,_,hq7,ht,?_,?_⟩
   ·unfold zval;rw [hn,hqv];exact d1
   ·unfold zval;rw [hn,A8];exact d2
  | true =>
   refine .gr rfl rfl rfl rfl (.mv rfl rfl (.gr rfl rfl rfl rfl (.lenR un_W rfl rfl ht (.gr rfl rfl rfl rfl ?_))))
   rcases Nat.eq_zero_or_pos (val x.w % val y.w) with h0 | h0
   ·have h0':(wds (val x.w % val y.w)).length=0:=by rw [h0,F3];rfl
    refine .gtrF rfl rfl rfl (by omega) (.pick rfl rfl rfl (.nil (.condF rfl (.skip ?_))))
    obtain ⟨d1,d2⟩:=Z2 (p:=true) (q:=y.neg) (A:=val x.w) hy0 (.inr h0)
    refine ⟨rfl,(vq,vt),lkA rfl,.refl _,q,_,hq7,ht,?_,?_⟩
    ·unfold zval;rw [hn,hqv];exact d1
    ·unfold zval;rw [hn,A8];exact d2
   ·have h0':=List.length_pos_iff.2 (N3 (n:=val x.w % val y.w) (by omega))
    refine .gtrT rfl rfl rfl (by omega) (.pick rfl rfl rfl (.nil (.condT rfl (.seq (.region (.mv rfl rfl ?_))))))
    refine .bsl _ rfl rfl Z3 fun w8 b8 n8=>?_
    obtain ⟨e8,k8,hb8,hs8⟩:=n8
    have h1:eW.R U w8 (.slice (some ⟨b8,0,none⟩) 1 1) [1]:=AV0 (l:=[1]) (t:=60) k8 (upo7 b8 (by omega)) (by simp [dig]) (Nat.le_refl 1) (by simp)
    refine .call _ rfl V8 rfl (U5 (upo7.ext e8.size) (hq7.ext e8) h1 (by omega) (by simp)) fun v9 w9 e9 h9=>.asg rfl rfl (.nil (.region (.mv rfl rfl (.mv rfl rfl ?_))))
    obtain ⟨q',hq',hqv',hql'⟩:=h9
    have e79:=e8.trans e9
    refine .call _ rfl N9 rfl (N2 (up7.ext e79.size) (hu57.ext e79) (ht.ext e79) (by omega) (by omega) (by rw [A8,A8];exact Nat.le_of_lt (Nat.mod_lt _ hy0))) fun v10 w10 e10 h10=>.asg rfl rfl (.nil ?_)
    obtain ⟨r',hr',hrv',hrl''⟩:=h10
    obtain ⟨d1,d2⟩:=AV1 (q:=y.neg) (A:=val x.w) hy0 h0
    refine ⟨rfl,(v9,v10),lkA rfl,e79.trans e10,q',r',hq'.ext e10,hr',?_,?_⟩
    ·unfold zval;rw [hn,hqv',hqv];simp only [val];rw [Nat.mul_zero,Nat.add_zero];exact d1
    ·unfold zval;rw [hn,hrv',A8,A8];exact d2
 ·rintro ⟨vq,vr⟩ W ⟨e8,q,r,hq,hr,hdq,hdr⟩
  replace hq:eW.R U W vq q:=hq
  replace hr:eW.R T W vr r:=hr
  have k1:=k1.ext e8
  have k2:=k2.ext e8
  have up8:=up7.ext e8.size
  have upo8:=upo7.ext e8.size
  refine .seq (.region (.fa G1 rfl rfl (.ld E0 rfl rfl k1 rfl (.fa G1 rfl rfl (.ld E0 rfl rfl k2 rfl (.neqB AD0 rfl rfl rfl (.mv rfl rfl ?_)))))))
  refine .call _ rfl F1 rfl (E8 upo8 hq) fun v9 w9 e9 h9=>.mv rfl rfl ?_
  refine .call _ rfl F1 rfl (E8 (up8.ext e9.size) (hr.ext e9)) fun v10 w10 e10 h10=>?_
  have e910:=e9.trans e10
  have k3:=(k3.ext e8).ext e910
  have k4:=(k4.ext e8).ext e910
  refine .storeA ty_Z rfl rfl k3 rfl rfl (h9.ext e10) hS3 fun w11 k11 u11 h11=>?_
  have hne34:b4≠b3:=by omega
  refine .storeA ty_Z rfl rfl (k4.upd u11 hne34) rfl rfl (h10.upd u11 hST3) hS4 fun w12 k12 u12 h12=>.asg rfl rfl (.nil (.ret ?_))
  have h11':=h11.upd u12 hU4
  have k11':=k11.upd u12 (Ne.symm hne34)
  rw [hdq,hdr]
  refine .plain [_,_,_] Tryz.results237 ⟨⟨_,rfl,C6 (E:=eZ) ty_Z rfl rfl k11' h11'⟩,⟨_,rfl,C6 (E:=eZ) ty_Z rfl rfl k12 h12⟩,rfl,trivial⟩ ⟨?_,_,_,_,rfl,houo h11',hout h12,rfl⟩
  exact u12.below (u11.below (((x7.trans e8).trans e910)) (by omega)) (by omega)
theorem Ah9:Ent Tryz.prog 236:=A0 Tryz.func236 (by kernel_rfl) rfl
theorem Ae0 {S:Nat→Prop} {w:World} {va vb:Value} {x y:ZV} (up:Up S w) (ha:eZ.R S w va x) (hb:eZ.R S w vb y) (hla:x.w.length≤1000000000000) (hlb:y.w.length≤1000000000000) :
  CR Tryz.prog 236 #[va,vb] w (eZ.at S (zc (Nat.gcd (val x.w) (val y.w):Nat))):=by
 obtain ⟨sa,rfl,hsa⟩:=ha
 obtain ⟨sb,rfl,hsb⟩:=hb
 have hda:dig x.w:=D5 hsa
 have hdb:dig y.w:=D5 hsb
 have hla':=Nat.le_trans (D6 hda) hla
 have hlb':=Nat.le_trans (D6 hdb) hlb
 refine enter Tryz.func236 rfl Tryz.ntmps236 rfl ?_
 refine .seq (.region (.box rfl rfl fun w1 b1 n1=>.box rfl rfl fun w2 b2 n2=>.alloc rfl B4 fun w3 b3 n3=>.nil ?_))
 obtain ⟨e1,k1,hb1,hs1⟩:=n1
 obtain ⟨e2,k2,hb2,hs2⟩:=n2
 obtain ⟨e3,k3,hb3,hs3⟩:=n3
 have x3:=(e1.trans e2).trans e3
 have k1:=(k1.ext e2).ext e3
 have k2:=k2.ext e3
 have hS:¬ Sx S w.heap.size w3.heap.size b3:=Sx.no (by omega) (by omega)
 have up3:Up (Sx S w.heap.size w3.heap.size) w3:=Sx.up up (Nat.le_refl _) x3.size
 have hsa3:=(hsa.par w3.heap.size).ext x3
 have hsb3:=(hsb.par w3.heap.size).ext x3
 have hout:∀ {W:World} {v:Value} {z:ZV},eZ.R (Sx S w.heap.size w3.heap.size) W v z→eZ.R S W v z:=fun h=>h.out
 generalize hT:Sx S w.heap.size w3.heap.size=T at *
 refine .seq ?_
 refine .par follows 7 [.inl _,.inl _,.inr (eW.at T (wds (val x.w))),.inl _,.inl _,.inr (eW.at T (wds (val y.w))),.inr (eW.at T (wds (val x.w)))] [[],[(11,0)],[(12,1)],[],[(14,3)],[(15,4)],[(13,2)]] (by kernel_rfl) ⟨
  fun w e=>(v_fa D9 rfl).ob,
  fun w e=>(v_ld ty_W rfl (k1.ext e) rfl).ob,
  fun w e=>(A1 _ B6 rfl (by rw [←E5 hda];exact B5 (hsa3.ext e))).ob (A6 _ _ _),
  fun w e=>(v_fa D9 rfl).ob,
  fun w e=>(v_ld ty_W rfl (k2.ext e) rfl).ob,
  fun w e=>(A1 _ B6 rfl (by rw [←E5 hdb];exact B5 (hsb3.ext e))).ob (A6 _ _ _),
  fun w e x2 hx2=>Ap8 rfl hx2 (A6 _ _ _),trivial⟩ ?_
 intro w4 e4 u2 hu2 u5 hu5 u6 hu6
 refine .asg rfl rfl (.nil ?_)
 have x4:=x3.trans e4
 have up4:=up3.ext e4.size
 have k4:=k3.ext e4
 generalize hG:Nat.gcd (val x.w) (val y.w)=G at *
 refine .mid (α:=Value×Value) (fun z=>[(4,.pointer (some ⟨b3,0,none⟩)),(5,z.1),(6,z.2)]) (fun z W=>Ext w4 W∧∃ m n,eW.R T W z.1 (wds m)∧eW.R T W z.2 (wds n)∧Nat.gcd m n=G∧(wds m).length≤1000000000000∧(n=0∨((wds m).length≤2∧(wds n).length≤2))) ?_ ?_
 ·refine .block (.loop (α:=Nat×Nat×Value×Value) (fun z=>[(4,.pointer (some ⟨b3,0,none⟩)),(5,z.2.2.1),(6,z.2.2.2)]) (fun z W=>Ext w4 W∧eW.R T W z.2.2.1 (wds z.1)∧eW.R T W z.2.2.2 (wds z.2.1)∧Nat.gcd z.1 z.2.1=G∧(wds z.1).length≤1000000000000∧(wds z.2.1).length≤1000000000000) (fun z=>z.2.1) (val x.w,val y.w,u6,u5) ?_ ?_ ?_)
  ·exact lkA rfl
  ·exact ⟨.refl _,hu6,hu5,hG,hla',hlb'⟩
  ·rintro ⟨m,n,v5,v6⟩ W ⟨hW,h5,h6,hg,hl5,hl6⟩
   replace h5:eW.R T W v5 (wds m):=h5
   replace h6:eW.R T W v6 (wds n):=h6
   replace hg:Nat.gcd m n=G:=hg
   replace hl5:(wds m).length≤1000000000000:=hl5
   replace hl6:(wds n).length≤1000000000000:=hl6
   refine .mid (α:=Unit) (fun _=>[(4,.pointer (some ⟨b3,0,none⟩)),(5,v5),(6,v6)]) (fun _ W'=>W'=W∧0<n) ?_ ?_
   ·refine .seq (.region (.mv rfl rfl (.lenR un_W rfl rfl h6 ?_)))
    rcases Nat.eq_zero_or_pos n with hn | hn
    ·subst hn
     rw [F3]
     refine .gtrF rfl rfl rfl (by decide) (.mv rfl rfl ?_)
     refine .gs rfl rfl rfl rfl rfl (.gs rfl rfl rfl rfl rfl (.gs rfl rfl rfl rfl rfl (.gs rfl rfl rfl rfl rfl ?_)))
     refine .gu rfl rfl rfl rfl (.gu rfl rfl rfl rfl (.gu rfl rfl rfl rfl (.gs rfl rfl rfl rfl rfl (.pick rfl rfl rfl (.nil (.condF rfl (.exit ?_)))))))
     exact ⟨rfl,(v5,v6),lkA rfl,hW,m,0,h5,h6,hg,hl5,.inl rfl⟩
    ·have hn0:=List.length_pos_iff.2 (N3 (n:=n) (by omega))
     refine .gtrT rfl rfl rfl (by omega) (.mv rfl rfl (.gr rfl rfl rfl rfl (.mv rfl rfl (.gr rfl rfl rfl rfl (.lenR un_W rfl rfl h5 (.gr rfl rfl rfl rfl ?_))))))
     by_cases hm2:2<(wds m).length
     ·refine .gtrT rfl rfl rfl (by omega) (.gr rfl rfl rfl rfl (.mv rfl rfl (.gs rfl rfl rfl rfl rfl (.gs rfl rfl rfl rfl rfl (.gs rfl rfl rfl rfl rfl (.gr rfl rfl rfl rfl (.pick rfl rfl rfl (.pick rfl rfl rfl (.nil (.condT rfl (.skip ?_)))))))))))
      exact ⟨rfl,(),lkA rfl,rfl,hn⟩
     ·refine .gtrF rfl rfl rfl (by omega) (.gr rfl rfl rfl rfl (.mv rfl rfl (.gr rfl rfl rfl rfl (.mv rfl rfl (.gr rfl rfl rfl rfl (.lenR un_W rfl rfl h6 (.gr rfl rfl rfl rfl ?_)))))))
      by_cases hn2:2<(wds n).length
      ·refine .gtrT rfl rfl rfl (by omega) (.gr rfl rfl rfl rfl (.pick rfl rfl rfl (.pick rfl rfl rfl (.nil (.condT rfl (.skip ?_))))))
       exact ⟨rfl,(),lkA rfl,rfl,hn⟩
      ·refine .gtrF rfl rfl rfl (by omega) (.gr rfl rfl rfl rfl (.pick rfl rfl rfl (.pick rfl rfl rfl (.nil (.condF rfl (.exit ?_))))))
       exact ⟨rfl,(v5,v6),lkA rfl,hW,m,n,h5,h6,hg,hl5,.inr ⟨by omega,by omega⟩⟩
   ·rintro _ W' ⟨rfl,hn⟩
    refine .block (.seq (.region (.mv rfl rfl (.mv rfl rfl ?_))))
    refine .call _ rfl V7 rfl (AL1 (up4.ext hW.size) h5 h6 (by omega) hn) fun v7 w7 e7 h7=>?_
    obtain ⟨vq,vr,rfl,_,⟨r,hr,hrv,hrl⟩⟩:=h7
    refine .mv rfl rfl (.ext rfl rfl rfl (.ext rfl rfl rfl (.asg rfl rfl (.asg rfl rfl (.nil (.region (.mv rfl rfl (.mv rfl rfl ?_))))))))
    have hrd:dig r:=D5 hr
    refine .call _ rfl B6 rfl (B5 hr) fun vt w8 e8 ht=>.asg rfl rfl (.asg rfl rfl (.nil ?_))
    rw [E5 hrd,hrv] at ht
    have hlt:=Nat.mod_lt m hn
    refine ⟨rfl,(n,m % n,v6,vt),lkA rfl,⟨(hW.trans e7).trans e8,(h6.ext e7).ext e8,ht,?_,hl6,?_⟩,hlt⟩
    ·show Nat.gcd n (m % n)=G
     rw [←hg,Nat.gcd_comm m n,Nat.gcd_rec n m,Nat.gcd_comm]
    ·exact Nat.le_trans (U6 (Nat.le_of_lt hlt)) hl6
 ·rintro ⟨v5,v6⟩ W ⟨hW,m,n,h5,h6,hg,hl5,hend⟩
  replace h5:eW.R T W v5 (wds m):=h5
  replace h6:eW.R T W v6 (wds n):=h6
  have upW:=up4.ext hW.size
  have xW:=x4.trans hW
  have kW:=k4.ext hW
  refine .seq (.seq (.region (.mv rfl rfl (.lenR un_W rfl rfl h6 ?_))))
  rcases Nat.eq_zero_or_pos n with hn | hn
  ·subst hn
   rw [F3]
   refine .eqlT rfl rfl rfl rfl (.nil (.condT rfl (.seq (.region (.mv rfl rfl ?_)))))
   refine .call _ rfl AR9 rfl (Ad7 upW h5 (by omega)) fun v7 w7 e7 h7=>?_
   refine .call _ rfl F1 rfl (E8 (upW.ext e7.size) h7) fun v8 w8 e8 h8=>?_
   refine .storeA ty_Z rfl rfl ((kW.ext e7).ext e8) rfl rfl h8 hS fun w9 k9 u9 h9=>.nil (.ret ?_)
   refine .cell Tryz.results236 rfl ty_Z rfl rfl k9 h9 ⟨u9.below ((xW.trans e7).trans e8) (by omega),?_⟩
   rw [A8] at h9
   rw [←hg,Nat.gcd_zero_right]
   exact hout h9
  ·have hn0:=List.length_pos_iff.2 (N3 (n:=n) (by omega))
   obtain ⟨hm2,hn2⟩:=hend.resolve_left (by omega)
   have hm64:m<18446744073709551616:=by
    have h3:=AA7 m
    have h4:4294967296 ^ (wds m).length≤4294967296 ^ 2:=Nat.pow_le_pow_right (by omega) hm2
    omega
   have hn64:n<18446744073709551616:=by
    have h3:=AA7 n
    have h4:4294967296 ^ (wds n).length≤4294967296 ^ 2:=Nat.pow_le_pow_right (by omega) hn2
    omega
   refine .eqlF rfl rfl rfl (by omega) (.nil (.condF rfl (.skip (.seq (.region (.mv rfl rfl ?_))))))
   refine .call _ rfl J7 rfl (I9 h5 hm2) fun v7 w7 e7 h7=>?_
   subst h7
   refine .mv rfl rfl (.call _ rfl J7 rfl (I9 (h6.ext e7) hn2) fun v8 w8 e8 h8=>?_)
   subst h8
   rw [A8,A8]
   refine .asg rfl rfl (.asg rfl rfl (.nil ?_))
   have x8:=(xW.trans e7).trans e8
   have up8:=(upW.ext e7.size).ext e8.size
   have k8:=(kW.ext e7).ext e8
   refine .mid (α:=Unit) (fun _=>[(4,.pointer (some ⟨b3,0,none⟩)),(9,.int .u64 (G:Nat))]) (fun _ W'=>Ext w8 W'∧G<18446744073709551616) ?_ ?_
   ·refine .block (.loop (α:=Nat×Nat) (fun z=>[(4,.pointer (some ⟨b3,0,none⟩)),(9,.int .u64 (z.1:Nat)),(10,.int .u64 (z.2:Nat))]) (fun z W'=>Ext w8 W'∧Nat.gcd z.1 z.2=G∧z.1<18446744073709551616∧z.2<18446744073709551616) (fun z=>z.2) (m,n) ?_ ?_ ?_)
    ·exact lkA rfl
    ·exact ⟨.refl _,hg,hm64,hn64⟩
    ·rintro ⟨m,n⟩ W' ⟨hW',hg,hm,hn⟩
     replace hg:Nat.gcd m n=G:=hg
     replace hm:m<18446744073709551616:=hm
     replace hn:n<18446744073709551616:=hn
     rcases Nat.eq_zero_or_pos n with h0 | h0
     ·subst h0
      refine .seq (.seq (.region (.mv rfl rfl (.gtrF rfl rfl rfl (by show ¬ (0:Int)<((0:Nat):Int);omega) (.nil (.condF rfl (.exit ?_)))))))
      rw [Nat.gcd_zero_right] at hg
      subst hg
      exact ⟨rfl,(),lkA rfl,hW',hm⟩
     ·refine .seq (.seq (.region (.mv rfl rfl (.gtrT rfl rfl rfl (by show (0:Int)<(n:Int);omega) (.nil (.condT rfl (.skip (.block ?_))))))))
      refine .par follows 5 [.inl (.int .u64 (n:Nat)),.inl (.int .u64 (m:Nat)),.inl (.int .u64 (n:Nat)),.inl (.int .u64 ((m % n:Nat):Int)),.inl (.int .u64 (n:Nat))] [[],[],[],[(52,1),(53,2)],[(51,0)]] (by kernel_rfl) ⟨
       fun w e=>(v_mv rfl).ob,
       fun w e=>(v_mv rfl).ob,
       fun w e=>(v_mv rfl).ob,
       fun w e=>((AS8 rfl rfl (by omega)).eq (by rw [M0])).ob,
       fun w e=>(v_as rfl).ob,trivial⟩ ?_
      intro w9 e9
      refine .asg rfl rfl (.nil ?_)
      have hlt:=Nat.mod_lt m h0
      refine ⟨rfl,(n,m % n),lkA rfl,⟨hW'.trans e9,?_,hn,Nat.lt_trans hlt hn⟩,hlt⟩
      show Nat.gcd n (m % n)=G
      rw [←hg,Nat.gcd_comm m n,Nat.gcd_rec n m,Nat.gcd_comm]
   ·rintro _ W' ⟨hW',hG64⟩
    refine .seq (.region (.mv rfl rfl ?_))
    refine .call _ rfl I6 rfl (I3 (neg:=false) (up8.ext hW'.size) hG64) fun v9 w9 e9 h9=>?_
    refine .storeA ty_Z rfl rfl ((k8.ext hW').ext e9) rfl rfl h9 hS fun w10 k10 u10 h10=>.nil (.ret ?_)
    exact .cell Tryz.results236 rfl ty_Z rfl rfl k10 h10 ⟨u10.below ((x8.trans hW').trans e9) (by omega),hout h10⟩
end Go.Proofs.YtfilidfomgfnhaaGreat

namespace Go.Kx
open Go Go.RowKit
section
variable {P:Program} {σ:Env} {w:World} {d:Option Tmp} {ty:TypeId} {pos:String} {af:Array Edge} {g:Option (Nat×Bool)}
def MapAt (w:World) (r:Nat) (es:Array MapEntry) (c:Nat):Prop:=w.heap[r]?=some (.map es c)
theorem MapAt.ext {w w':World} {r:Nat} {es:Array MapEntry} {c:Nat} (h:MapAt w r es c) (e:Ext w w'):MapAt w' r es c:=(e.block r (Array.getElem?_eq_some_iff.1 h).1).trans h
theorem g_mkmap {t:TypeId}:Gv P ⟨d,.makeMap t none,ty,pos,af,g⟩ σ w fun v' w'=>v'=.map (some w.heap.size)∧Ext w w'∧MapAt w' w.heap.size #[] 0:=by
 refine ⟨(by intro _ h;cases h),fun ρ hρ=>.inl ⟨_,_,?_,rfl,Q4 w (.map #[] 0),World.alloc_heap_new w _⟩⟩
 simp [execOp,Instr.makeMap]
theorem Aq2 {t kt et:TypeId} {m k x:Operand} {r:Nat} {es:Array MapEntry} {c:Nat} {kk:IntKind} {n:Int} {v:Value} (ht:P.underlying t=some (.map kt et)) (hk:P.underlying kt=some (.int kk)) (hm:ev σ m=some (.map (some r))) (hn:ev σ k=some (.int kk n)) (hx:ev σ x=some v)
  (hr:MapAt w r es c) (hf:Instr.findNow (.int kk) (.int kk n) es.toList 0=some none) :
  Gv P ⟨d,.insert t m k x,ty,pos,af,g⟩ σ w fun _ w'=>w'=w.putObj r (.map (es.push { key:=.int kk n,val:=v,born:=c }) (c+1)):=by
 refine ⟨(by intro _ h;cases h),fun ρ hρ=>.inr (.inl ⟨_,?_,rfl⟩)⟩
 have e1:=hρ m _ (by simp [Op.operands]) hm
 have e2:=hρ k _ (by simp [Op.operands]) hn
 have e3:=hρ x _ (by simp [Op.operands]) hx
 have hr':w.heap[r]?=some (.map es c):=hr
 have hck:(Instr.checkKey false 10000 kt (.int kk n)).run P w=.ok () w:=by
  unfold Instr.checkKey
  simp [run_underlying hk]
 have hfk:(Instr.findKey kt (.int kk n) es.toList).run P w=.ok none w:=by
  unfold Instr.findKey
  simp [run_underlying hk,hf]
 have hget:(getObj r).run P w=.ok (.map es c) w:=by simp [getObj,Sem.run,hr']
 have hset:∀ o,(setObj r o).run P w=.ok () (w.putObj r o):=fun o=>by simp [setObj,Sem.run,hr',World.putObj]
 simp [execOp,e1,e2,e3,Instr.mapUpdate,run_underlying ht,hget,hck,hfk,hset]
theorem MapAt.put {r:Nat} {es es':Array MapEntry} {c c':Nat} (h:MapAt w r es c):MapAt (w.putObj r (.map es' c')) r es' c':=World.putObj_heap_same (Array.getElem?_eq_some_iff.1 h).1
theorem AD4 {B r:Nat} {w0:World} {o:Obj} (h:Below B w0 w) (hr:B≤r):Below B w0 (w.putObj r o):=Q3 h hr
/-- the entry is there -/
theorem v_lkp {t kt et:TypeId} {m k:Operand} {r:Nat} {es:Array MapEntry} {c:Nat} {kk:IntKind} {n:Int} {i:Nat} {v:Value} (ht:P.underlying t=some (.map kt et)) (hk:P.underlying kt=some (.int kk)) (hm:ev σ m=some (.map (some r))) (hn:ev σ k=some (.int kk n))
  (hr:MapAt w r es c) (hf:Instr.findNow (.int kk) (.int kk n) es.toList 0=some (some (i,v))):Vl P ⟨d,.lookup t m k false,ty,pos,af,g⟩ σ w v:=by
 refine ⟨(by intro _ h;cases h),fun ρ hρ=>?_⟩
 have e1:=hρ m _ (by simp [Op.operands]) hm
 have e2:=hρ k _ (by simp [Op.operands]) hn
 have hr':w.heap[r]?=some (.map es c):=hr
 have hck:∀ b,(Instr.checkKey b 10000 kt (.int kk n)).run P w=.ok () w:=by
  intro b
  unfold Instr.checkKey
  simp [run_underlying hk]
 have hfk:(Instr.findKey kt (.int kk n) es.toList).run P w=.ok (some (i,v)) w:=by
  unfold Instr.findKey
  simp [run_underlying hk,hf]
 have hget:(getObj r).run P w=.ok (.map es c) w:=by simp [getObj,Sem.run,hr']
 simp [execOp,e1,e2,Instr.lookup,run_underlying ht,hget,hck,hfk]
end
/-- an integer of a value -/
@[reducible] def Zv (S:Nat→Prop) (n:Int) (L:Nat):Value→World→Prop:=fun v w=>∃ z,eZ.R S w v z∧zval z=n∧z.w.length≤L
theorem Af1 (S:Nat→Prop) (n:Int) (L:Nat):St (Zv S n L):=fun _ _ _ e ⟨z,h1,h2⟩=>⟨z,h1.ext e,h2⟩
theorem Zv.of {S:Nat→Prop} {n:Int} {L:Nat} {v:Value} {w:World} (h:eZ.R S w v (zc n)) (hl:n.natAbs<4294967296 ^ L):Zv S n L v w:=⟨_,h,E6 n,L6 hl⟩
theorem Zv.lt {S:Nat→Prop} {n:Int} {L:Nat} {v:Value} {w:World} (h:Zv S n L v w):n.natAbs<4294967296 ^ L:=by
 obtain ⟨z,⟨s,_,hs⟩,rfl,hl⟩:=h
 exact O1 (D5 hs) hl
theorem Zv.out {S:Nat→Prop} {B C:Nat} {n:Int} {L:Nat} {v:Value} {w:World} (h:Zv (Sx S B C) n L v w):Zv S n L v w:=by
 obtain ⟨z,h1,h2⟩:=h
 exact ⟨z,h1.out,h2⟩
theorem Zv.ext {S:Nat→Prop} {n:Int} {L:Nat} {v:Value} {w w':World} (h:Zv S n L v w) (e:Ext w w'):Zv S n L v w':=Af1 S n L _ _ _ e h
theorem Zv.agg {S:Nat→Prop} {n:Int} {L:Nat} {v:Value} {w:World} (h:Zv S n L v w):∃ b s,v=.agg #[.bool b,s]:=by
 obtain ⟨z,⟨s,rfl,_⟩,_⟩:=h
 exact ⟨_,_,rfl⟩
/-- integers by their number alone -/
def eZn (L:Nat):ER Int where
 sz:=2
 isA:=true
 R:=fun S w v n=>Zv S n L v w
 csz:=by rintro S w e x ⟨z,h,_⟩;exact eZ.csz h
 one:=by rintro S w e x ⟨z,h,_⟩;exact eZ.one h
 shp:=by rintro S w e x ⟨z,h,_⟩;exact eZ.shp h
 keep:=fun hk ⟨z,h1,h2⟩=>⟨z,eZ.keep hk h1,h2⟩
 mono:=fun hk ⟨z,h1,h2⟩=>⟨z,eZ.mono hk h1,h2⟩
end Go.Kx

namespace Go.Proofs.YtfilidfomgfnhaaGreat
open Go Go.Kx Go.RowKit
/-- the two integers of a rational -/
theorem P3 {S:Nat→Prop} {w:World} {v:Value} {q:QV} (h:eQ.R S w v q):∃ s t,v=.agg #[.bool q.num.neg,s,.bool q.den.neg,t]∧eZ.R S w (.agg #[.bool q.num.neg,s]) q.num∧eZ.R S w (.agg #[.bool q.den.neg,t]) q.den:=by
 obtain ⟨s,t,hv,h1,h2⟩:=h
 exact ⟨s,t,hv,⟨s,rfl,h1⟩,⟨t,rfl,h2⟩⟩
theorem AC2 {S:Nat→Prop} {w:World} {v:Value} {z:ZV} (h:eZ.R S w v z):dig z.w:=by
 obtain ⟨s,_,hs⟩:=h
 exact D5 hs
theorem Z8:Ent Tryz.prog 131:=A0 Tryz.func131 (by kernel_rfl) rfl
theorem Y9 {S:Nat→Prop} {w:World} {v:Value} {q:QV} {L:Nat} (up:Up S w) (h:eQ.R S w v q) (hl:qok L q) (hL:1≤L) (hL2:L≤1000000000000):CR Tryz.prog 131 #[v] w (Two (Zv S (pn q) L) (Zv S (pd q) L)):=by
 obtain ⟨s,t,rfl,hn,hd⟩:=P3 h
 have hdn:=AC2 hn
 have hdd:=AC2 hd
 refine enter Tryz.func131 rfl Tryz.ntmps131 rfl ?_
 refine .seq (.region (.box rfl rfl fun w1 b1 n1=>.alloc rfl B4 fun w2 b2 n2=>.alloc rfl B4 fun w3 b3 n3=>.nil ?_))
 obtain ⟨e1,k1,hb1,hs1⟩:=n1
 obtain ⟨e2,k2,hb2,hs2⟩:=n2
 obtain ⟨e3,k3,hb3,hs3⟩:=n3
 have x3:=(e1.trans e2).trans e3
 have k1:=(k1.ext e2).ext e3
 have k2:=k2.ext e3
 have hS2:¬ Sx S w.heap.size w3.heap.size b2:=Sx.no (by omega) (by omega)
 have hS3:¬ Sx S w.heap.size w3.heap.size b3:=Sx.no (by omega) (by omega)
 have up3:Up (Sx S w.heap.size w3.heap.size) w3:=Sx.up up (Nat.le_refl _) x3.size
 have hn3:=(hn.par w3.heap.size).ext x3
 have hd3:=(hd.par w3.heap.size).ext x3
 have hne23:b3≠b2:=by omega
 have hne21:b1≠b2:=by omega
 have hout:∀ {W:World} {v:Value} {n:Int},(eZn L).R (Sx S w.heap.size w3.heap.size) W v n→Zv S n L v W:=fun h=>Zv.out h
 generalize hT:Sx S w.heap.size w3.heap.size=T at *
 have fin2:∀ {σ:Env} {W:World} {u v:Value} {m n:Int},Ext w W→Blk W b2 53 u.cells→Blk W b3 53 v.cells→(eZn L).R T W u m→(eZn L).R T W v n→m=pn q→n=pd q→Kx.look σ 2=some (.pointer (some ⟨b2,0,none⟩))→Kx.look σ 3=some (.pointer (some ⟨b3,0,none⟩)) →
   Leave Tryz.prog Tryz.f131 24 (fun v w'=>Ext w w'∧Two (Zv S (pn q) L) (Zv S (pd q) L) v w') σ [] W:=by
  intro σ W u v m n hx hb hb' hu hv hm hn h2 h3
  subst hm;subst hn
  exact .plain [_,_] Tryz.results131 ⟨⟨_,h2,C6 (E:=eZn L) ty_Z rfl rfl hb hu⟩,⟨_,h3,C6 (E:=eZn L) ty_Z rfl rfl hb' hv⟩,trivial⟩ ⟨hx,u,v,rfl,hout hu,hout hv⟩
 refine .seq (.seq (.region (.fa Q7 rfl rfl (.ldN [.bool q.den.neg,t] ty_Z rfl rfl k1 (by intro j u hu;match j with | 0=>exact hu | 1=>exact hu | j+2=>simp at hu) ?_))))
 refine .call _ rfl N0 rfl (L7 hd3) fun v4 w4 e4 h4=>.nil ?_
 subst h4
 have hn4:=hn3.ext e4
 have hd4:=hd3.ext e4
 have k1:=k1.ext e4
 have k2:=k2.ext e4
 have k3:=k3.ext e4
 have x4:=x3.trans e4
 have up4:=up3.ext e4.size
 refine .block (.seq (.region ?_))
 by_cases h0:zval q.den=0
 ·refine .eqlT rfl rfl rfl (by rw [h0];rfl) (.asg rfl rfl (.nil (.condT rfl (.seq ?_))))
  refine .par follows 3 [.inl _,.inl (.agg #[.bool q.num.neg,s]),.inr (eZ.at T (zc 1))] [[],[(9,0)],[]] (by kernel_rfl) ⟨
   fun w e=>(v_fa Q8 rfl).ob,
   fun w e=>(AI0 [.bool q.num.neg,s] ty_Z rfl (k1.ext e) (by intro j u hu;match j with | 0=>exact hu | 1=>exact hu | j+2=>simp at hu)).ob,
   fun w e=>(A1 _ C5 rfl (C3 (n:=1) (up4.ext e.size) (by omega) (by omega))).ob (A6 _ _ _),trivial⟩ ?_
  intro w5 e5 x2 hx2
  have hA:(eZn L).R T w5 (.agg #[.bool q.num.neg,s]) (zval q.num):=⟨q.num,hn4.ext e5,rfl,hl.1⟩
  have h1:(eZn L).R T w5 x2 1:=Zv.of hx2 (by have:4294967296 ^ 1≤4294967296 ^ L:=Nat.pow_le_pow_right (by omega) hL;show 1<_;omega)
  refine .storeA (E:=eZn L) ty_Z rfl rfl (k2.ext e5) rfl rfl hA hS2 fun w6 k6 u6 h6=>?_
  refine .storeA (E:=eZn L) ty_Z rfl rfl ((k3.ext e5).upd u6 hne23) rfl rfl (h1.upd u6 hS2) hS3 fun w7 k7 u7 h7=>.nil (.ret ?_)
  refine fin2 (u7.below (u6.below (x4.trans e5) (by omega)) (by omega)) (k6.upd u7 (Ne.symm hne23)) k7 (h6.upd u7 hS3) h7 ?_ ?_ rfl rfl
  ·unfold pn;rw [h0];simp
  ·unfold pd;rw [h0];simp
 ·have hs0:(zval q.den).sign≠0:=fun h=>h0 (Int.sign_eq_zero_iff_zero.1 h)
  refine .eqlF rfl rfl rfl hs0 (.asg rfl rfl (.nil (.condF rfl (.seq (.region ?_)))))
  by_cases h1:zval q.den<0
  ·refine .eqlT rfl rfl rfl (Int.sign_eq_neg_one_of_neg h1) (.asg rfl rfl (.nil (.condT rfl (.seq ?_))))
   refine .held follows true (fun W=>Blk W b1 55 #[.bool q.num.neg,s,.bool q.den.neg,t]) [some _,some (.agg #[.bool q.num.neg,s]),none,some _,some (.agg #[.bool q.den.neg,t]),none,none,none] (by kernel_rfl) ⟨
    fun _ _=>v_fa Q8 rfl,
    fun _ h=>AI0 [.bool q.num.neg,s] ty_Z rfl h (by intro j u hu;match j with | 0=>exact hu | 1=>exact hu | j+2=>simp at hu),
    fun _ _=>v_fa Q7 rfl,
    fun _ h=>AI0 [.bool q.den.neg,t] ty_Z rfl h (by intro j u hu;match j with | 0=>exact hu | 1=>exact hu | j+2=>simp at hu),trivial⟩ ?_
   intro w5 e5 _
   refine .gv (k1.ext e5) rfl (A1 _ P6 rfl (O7 (up4.ext e5.size) (hn4.ext e5) (Nat.le_trans hl.1 (by omega)))) ?_
   rintro vn w6 ⟨e6,hvn⟩
   have e56:=e5.trans e6
   refine .gv (k1.ext e56) rfl (A1 _ P6 rfl (O7 (up4.ext e56.size) (hd4.ext e56) (Nat.le_trans hl.2 (by omega)))) ?_
   rintro vd w7 ⟨e7,hvd⟩
   have e57:=e56.trans e7
   have hA:(eZn L).R T w7 vn (-zval q.num):=Zv.of (hvn.ext e7) (by have:=O1 hdn hl.1;omega)
   have hB:(eZn L).R T w7 vd (-zval q.den):=Zv.of hvd (by have:=O1 hdd hl.2;omega)
   have hca:=(eZn L).csz hA
   have hcb:=(eZn L).csz hB
   refine .gv (k1.ext e57) rfl (I8 ty_Z rfl rfl (k2.ext e57) hca (Nat.le_refl _) ((eZn L).one hA)) ?_
   rintro _ w8 ⟨k8,u8⟩
   rw [X5 _ _ (by rw [Array.length_toList,hca];rfl)] at k8
   refine .gv ((k1.ext e57).upd u8 hne21) rfl (I8 ty_Z rfl rfl ((k3.ext e57).upd u8 hne23) hcb (Nat.le_refl _) ((eZn L).one hB)) ?_
   rintro _ w9 ⟨k9,u9⟩
   rw [X5 _ _ (by rw [Array.length_toList,hcb];rfl)] at k9
   refine .nil (.inl rfl) (.ret ?_)
   simp only [Array.toArray_toList] at k8 k9
   refine fin2 (u9.below (u8.below (x4.trans e57) (by omega)) (by omega)) (k8.upd u9 (Ne.symm hne23)) k9 ((hA.upd u8 hS2).upd u9 hS3) ((hB.upd u8 hS2).upd u9 hS3) ?_ ?_ rfl rfl
   ·unfold pn;rw [if_pos h1]
   ·unfold pd;rw [if_neg h0,if_pos h1]
  ·have hs1:(zval q.den).sign ≠ -1:=by rw [Int.sign_eq_one_of_pos (by omega)];decide
   refine .eqlF rfl rfl rfl hs1 (.asg rfl rfl (.nil (.condF rfl (.skip (.seq ?_)))))
   refine .held follows true (fun W=>Blk W b1 55 #[.bool q.num.neg,s,.bool q.den.neg,t]) [some _,some (.agg #[.bool q.num.neg,s]),some _,some (.agg #[.bool q.den.neg,t]),none,none] (by kernel_rfl) ⟨
    fun _ _=>v_fa Q8 rfl,
    fun _ h=>AI0 [.bool q.num.neg,s] ty_Z rfl h (by intro j u hu;match j with | 0=>exact hu | 1=>exact hu | j+2=>simp at hu),
    fun _ _=>v_fa Q7 rfl,
    fun _ h=>AI0 [.bool q.den.neg,t] ty_Z rfl h (by intro j u hu;match j with | 0=>exact hu | 1=>exact hu | j+2=>simp at hu),trivial⟩ ?_
   intro w7 e57 _
   have hA:(eZn L).R T w7 (.agg #[.bool q.num.neg,s]) (zval q.num):=⟨q.num,hn4.ext e57,rfl,hl.1⟩
   have hB:(eZn L).R T w7 (.agg #[.bool q.den.neg,t]) (zval q.den):=⟨q.den,hd4.ext e57,rfl,hl.2⟩
   have hca:=(eZn L).csz hA
   have hcb:=(eZn L).csz hB
   refine .gv (k1.ext e57) rfl (I8 ty_Z rfl rfl (k2.ext e57) hca (Nat.le_refl _) ((eZn L).one hA)) ?_
   rintro _ w8 ⟨k8,u8⟩
   rw [X5 _ _ (by rw [Array.length_toList,hca];rfl)] at k8
   refine .gv ((k1.ext e57).upd u8 hne21) rfl (I8 ty_Z rfl rfl ((k3.ext e57).upd u8 hne23) hcb (Nat.le_refl _) ((eZn L).one hB)) ?_
   rintro _ w9 ⟨k9,u9⟩
   rw [X5 _ _ (by rw [Array.length_toList,hcb];rfl)] at k9
   refine .nil (.inl rfl) (.ret ?_)
   simp only [Array.toArray_toList] at k8 k9
   refine fin2 (u9.below (u8.below (x4.trans e57) (by omega)) (by omega)) (k8.upd u9 (Ne.symm hne23)) k9 ((hA.upd u8 hS2).upd u9 hS3) ((hB.upd u8 hS2).upd u9 hS3) ?_ ?_ rfl rfl
   ·unfold pn;rw [if_neg h1]
   ·unfold pd;rw [if_neg h0,if_neg h1]
def shortB (q:QV):Bool:=decide (-2147483648<zval q.num∧zval q.num<2147483648 ∧ -2147483648<zval q.den∧zval q.den<2147483648)
def shortV (q:QV):Value:=if shortB q then .tuple #[.int .i64 (pn q),.int .i64 (pd q),.bool true] else .tuple #[.int .i64 0,.int .i64 0,.bool false]
theorem C9:Ent Tryz.prog 117:=A0 Tryz.func117 (by kernel_rfl) rfl
theorem C8 {S:Nat→Prop} {w:World} {v:Value} {q:QV} (h:eQ.R S w v q):CR Tryz.prog 117 #[v] w (Is (shortV q)):=by
 obtain ⟨s,t,rfl,hn,hd⟩:=P3 h
 refine enter Tryz.func117 rfl Tryz.ntmps117 rfl ?_
 refine .seq (.region (.box rfl rfl fun w1 b1 n1=>.asg rfl rfl (.asg rfl rfl (.asg rfl rfl (.nil ?_)))))
 obtain ⟨e1,k1,hb1,hs1⟩:=n1
 refine .seq (.region (.fa Q8 rfl rfl (.ldN [.bool q.num.neg,s] ty_Z rfl rfl k1 (by intro j u hu;match j with | 0=>exact hu | 1=>exact hu | j+2=>simp at hu) ?_)))
 refine .call _ rfl H0 rfl (G8 (hn.ext e1)) fun v2 w2 e2 h2=>?_
 subst h2
 refine .mv rfl rfl (.ext rfl rfl rfl (.ext rfl rfl rfl (.asg rfl rfl (.asg rfl rfl (.nil ?_)))))
 have x2:=e1.trans e2
 refine .seq (.region (.fa Q7 rfl rfl (.ldN [.bool q.den.neg,t] ty_Z rfl rfl (k1.ext e2) (by intro j u hu;match j with | 0=>exact hu | 1=>exact hu | j+2=>simp at hu) ?_)))
 refine .call _ rfl H0 rfl (G8 (hd.ext x2)) fun v3 w3 e3 h3=>?_
 subst h3
 refine .mv rfl rfl (.ext rfl rfl rfl (.ext rfl rfl rfl (.asg rfl rfl (.asg rfl rfl (.nil ?_)))))
 have x3:=x2.trans e3
 have hF:∀ {W:World},shortB q=false→Is (shortV q) (tup [.int .i64 0,.int .i64 0,.bool false]) W:=by
  intro W h;unfold shortV;rw [h];rfl
 refine .seq (.seq (.region (.mv rfl rfl (.not_ rfl rfl (.mv rfl rfl ?_)))))
 by_cases hno:i64ok (zval q.num)=true
 ·rw [hno]
  refine .gr rfl rfl rfl rfl (.mv rfl rfl (.gr rfl rfl rfl rfl (.not_ rfl rfl (.pick rfl rfl rfl (.mv rfl rfl ?_)))))
  by_cases hdo:i64ok (zval q.den)=true
  ·rw [hdo]
   have en:i64v (zval q.num)=zval q.num:=by rw [i64v,hno];rfl
   have ed:i64v (zval q.den)=zval q.den:=by rw [i64v,hdo];rfl
   rw [en,ed]
   refine .gr rfl rfl rfl rfl (.mv rfl rfl (.gr rfl rfl rfl rfl ?_))
   by_cases h1:zval q.num ≤ -2147483648
   ·refine .leqT rfl rfl rfl h1 (.pick rfl rfl rfl (.mv rfl rfl (.gs rfl rfl rfl rfl rfl (.gs rfl rfl rfl rfl rfl (.pick rfl rfl rfl (.mv rfl rfl (.gs rfl rfl rfl rfl rfl (.gs rfl rfl rfl rfl rfl (.pick rfl rfl rfl (.mv rfl rfl (.gs rfl rfl rfl rfl rfl (.gs rfl rfl rfl rfl rfl (.pick rfl rfl rfl (.nil (.condT rfl (.seq (.region (.asg rfl rfl (.asg rfl rfl (.asg rfl rfl (.nil (.ret ?_))))))))))))))))))))))
    exact .plain [_,_,_] Tryz.results117 ⟨rfl,rfl,rfl,trivial⟩ ⟨x3,hF (by simp [shortB];omega)⟩
   refine .leqF rfl rfl rfl h1 (.pick rfl rfl rfl (.mv rfl rfl (.gr rfl rfl rfl rfl (.mv rfl rfl (.gr rfl rfl rfl rfl ?_)))))
   by_cases h2:2147483648≤zval q.num
   ·refine .geqT rfl rfl rfl h2 (.pick rfl rfl rfl (.mv rfl rfl (.gs rfl rfl rfl rfl rfl (.gs rfl rfl rfl rfl rfl (.pick rfl rfl rfl (.mv rfl rfl (.gs rfl rfl rfl rfl rfl (.gs rfl rfl rfl rfl rfl (.pick rfl rfl rfl (.nil (.condT rfl (.seq (.region (.asg rfl rfl (.asg rfl rfl (.asg rfl rfl (.nil (.ret ?_))))))))))))))))))
    exact .plain [_,_,_] Tryz.results117 ⟨rfl,rfl,rfl,trivial⟩ ⟨x3,hF (by simp [shortB];omega)⟩
   refine .geqF rfl rfl rfl h2 (.pick rfl rfl rfl (.mv rfl rfl (.gr rfl rfl rfl rfl (.mv rfl rfl (.gr rfl rfl rfl rfl ?_)))))
   by_cases h3:zval q.den ≤ -2147483648
   ·refine .leqT rfl rfl rfl h3 (.pick rfl rfl rfl (.mv rfl rfl (.gs rfl rfl rfl rfl rfl (.gs rfl rfl rfl rfl rfl (.pick rfl rfl rfl (.nil (.condT rfl (.seq (.region (.asg rfl rfl (.asg rfl rfl (.asg rfl rfl (.nil (.ret ?_))))))))))))))
    exact .plain [_,_,_] Tryz.results117 ⟨rfl,rfl,rfl,trivial⟩ ⟨x3,hF (by simp [shortB];omega)⟩
   refine .leqF rfl rfl rfl h3 (.pick rfl rfl rfl (.mv rfl rfl (.gr rfl rfl rfl rfl (.mv rfl rfl (.gr rfl rfl rfl rfl ?_)))))
   by_cases h4:2147483648≤zval q.den
   ·refine .geqT rfl rfl rfl h4 (.pick rfl rfl rfl (.nil (.condT rfl (.seq (.region (.asg rfl rfl (.asg rfl rfl (.asg rfl rfl (.nil (.ret ?_))))))))))
    exact .plain [_,_,_] Tryz.results117 ⟨rfl,rfl,rfl,trivial⟩ ⟨x3,hF (by simp [shortB];omega)⟩
   refine .geqF rfl rfl rfl h4 (.pick rfl rfl rfl (.nil (.condF rfl (.skip ?_))))
   have hb:shortB q=true:=by simp [shortB];omega
   have hT:∀ {W:World} {m n:Int},m=pn q→n=pd q→Is (shortV q) (tup [.int .i64 m,.int .i64 n,.bool true]) W:=by
    intro W m n hm hn;subst hm;subst hn;unfold shortV;rw [hb];rfl
   refine .mid (α:=Unit) (fun _=>[(2,.int .i64 (pn q)),(3,.int .i64 (pd q))]) (fun _ W=>W=w3) ?_ ?_
   ·refine .block (.seq (.region (.mv rfl rfl ?_)))
    by_cases h0:zval q.den=0
    ·refine .eqlT rfl rfl rfl h0 (.asg rfl rfl (.nil (.condT rfl (.region (.asg rfl rfl (.nil ?_))))))
     have e1:pn q=zval q.num:=by unfold pn;rw [if_neg (by omega)]
     have e2:pd q=1:=by unfold pd;rw [if_pos h0]
     rw [e1,e2]
     exact ⟨rfl,(),lkA rfl,rfl⟩
    ·refine .eqlF rfl rfl rfl h0 (.asg rfl rfl (.nil (.condF rfl (.seq (.region (.mv rfl rfl ?_))))))
     by_cases h5:zval q.den<0
     ·refine .lssT rfl rfl rfl h5 (.asg rfl rfl (.nil (.condT rfl (.region (.mv rfl rfl (.neg rfl rfl (.mv rfl rfl (.neg rfl rfl (.asg rfl rfl (.asg rfl rfl (.nil ?_))))))))))) 
      have e1:pn q = -zval q.num:=by unfold pn;rw [if_pos h5]
      have e2:pd q = -zval q.den:=by unfold pd;rw [if_neg h0,if_pos h5]
      rw [e1,e2,wI (n:=0-zval q.num) (by omega),wI (n:=0-zval q.den) (by omega),Int.zero_sub,Int.zero_sub]
      exact ⟨rfl,(),lkA rfl,rfl⟩
     ·refine .lssF rfl rfl rfl h5 (.asg rfl rfl (.nil (.condF rfl (.skip ?_))))
      have e1:pn q=zval q.num:=by unfold pn;rw [if_neg h5]
      have e2:pd q=zval q.den:=by unfold pd;rw [if_neg h0,if_neg h5]
      rw [e1,e2]
      exact ⟨rfl,(),lkA rfl,rfl⟩
   ·rintro _ _ rfl
    refine .seq (.region (.mv rfl rfl (.mv rfl rfl (.asg rfl rfl (.asg rfl rfl (.asg rfl rfl (.nil (.ret ?_))))))))
    exact .plain [_,_,_] Tryz.results117 ⟨rfl,rfl,rfl,trivial⟩ ⟨x3,hT rfl rfl⟩
  ·have hdo':i64ok (zval q.den)=false:=by simpa using hdo
   rw [hdo']
   refine .gs rfl rfl rfl rfl rfl (.gs rfl rfl rfl rfl rfl (.pick rfl rfl rfl (.mv rfl rfl (.gs rfl rfl rfl rfl rfl (.gs rfl rfl rfl rfl rfl (.pick rfl rfl rfl (.mv rfl rfl (.gs rfl rfl rfl rfl rfl (.gs rfl rfl rfl rfl rfl (.pick rfl rfl rfl (.mv rfl rfl (.gs rfl rfl rfl rfl rfl (.gs rfl rfl rfl rfl rfl (.pick rfl rfl rfl (.nil (.condT rfl (.seq (.region (.asg rfl rfl (.asg rfl rfl (.asg rfl rfl (.nil (.ret ?_)))))))))))))))))))))))
   exact .plain [_,_,_] Tryz.results117 ⟨rfl,rfl,rfl,trivial⟩ ⟨x3,hF (by simp [i64ok] at hdo';simp [shortB];omega)⟩
 ·have hno':i64ok (zval q.num)=false:=by simpa using hno
  rw [hno']
  refine .gs rfl rfl rfl rfl rfl (.gs rfl rfl rfl rfl rfl (.pick rfl rfl rfl (.mv rfl rfl (.gs rfl rfl rfl rfl rfl (.gs rfl rfl rfl rfl rfl (.pick rfl rfl rfl (.mv rfl rfl (.gs rfl rfl rfl rfl rfl (.gs rfl rfl rfl rfl rfl (.pick rfl rfl rfl (.mv rfl rfl (.gs rfl rfl rfl rfl rfl (.gs rfl rfl rfl rfl rfl (.pick rfl rfl rfl (.mv rfl rfl (.gs rfl rfl rfl rfl rfl (.gs rfl rfl rfl rfl rfl (.pick rfl rfl rfl (.nil (.condT rfl (.seq (.region (.asg rfl rfl (.asg rfl rfl (.asg rfl rfl (.nil (.ret ?_)))))))))))))))))))))))))))
  exact .plain [_,_,_] Tryz.results117 ⟨rfl,rfl,rfl,trivial⟩ ⟨x3,hF (by simp [i64ok] at hno';simp [shortB];omega)⟩
end Go.Proofs.YtfilidfomgfnhaaGreat

namespace Go.Proofs.YtfilidfomgfnhaaGreat
open Go Go.Kx Go.RowKit
theorem Ae7 {n g:Int} (h:g∣n):n.tdiv g=n / g:=Int.tdiv_eq_ediv_of_dvd h
theorem S3 (n g:Int):(n / g).natAbs≤n.natAbs:=Int.natAbs_ediv_le_natAbs n g
theorem K2:Ent Tryz.prog 118:=A0 Tryz.func118 (by kernel_rfl) rfl
theorem J9 {S:Nat→Prop} {w:World} {n d:Int} (up:Up S w) (hd:0<d) (hd2:d≤9223372036854775807) (hn1 : -9223372036854775807≤n) (hn2:n≤9223372036854775807) :
  CR Tryz.prog 118 #[.int .i64 n,.int .i64 d] w (eQ.at S (qc (Rat.divInt n d))):=by
 have hdvd1:((Nat.gcd n.natAbs d.natAbs:Nat):Int)∣n:=Int.ofNat_dvd_left.2 (Nat.gcd_dvd_left _ _)
 have hdvd2:((Nat.gcd n.natAbs d.natAbs:Nat):Int)∣d:=Int.ofNat_dvd_left.2 (Nat.gcd_dvd_right _ _)
 have hG0:0<Nat.gcd n.natAbs d.natAbs:=Nat.gcd_pos_of_pos_right _ (by omega)
 have hGd:Nat.gcd n.natAbs d.natAbs≤d.natAbs:=Nat.gcd_le_right _ (by omega)
 have hqc:=AL7 (n:=n) hd
 refine enter Tryz.func118 rfl Tryz.ntmps118 rfl ?_
 refine .seq (.region (.alloc rfl D2 fun w1 b1 n1=>.nil ?_))
 obtain ⟨e1,k1,hb1,hs1⟩:=n1
 have hS:¬ Sx S w.heap.size w1.heap.size b1:=Sx.no (by omega) (by omega)
 have up1:Up (Sx S w.heap.size w1.heap.size) w1:=Sx.up up (Nat.le_refl _) e1.size
 have hout:∀ {W:World} {v:Value} {z:QV},eQ.R (Sx S w.heap.size w1.heap.size) W v z→eQ.R S W v z:=fun h=>h.out
 generalize hT:Sx S w.heap.size w1.heap.size=T at *
 refine .seq (.region (.mv rfl rfl (.mv rfl rfl (.asg rfl rfl (.asg rfl rfl (.nil ?_))))))
 refine .mid (α:=Int) (fun m=>[(0,.int .i64 n),(1,.int .i64 d),(4,.pointer (some ⟨b1,0,none⟩)),(5,.int .i64 m)]) (fun m W=>Ext w1 W∧m.natAbs=Nat.gcd n.natAbs d.natAbs) ?_ ?_
 ·refine .block (.loop (α:=Int×Int) (fun x=>[(0,.int .i64 n),(1,.int .i64 d),(4,.pointer (some ⟨b1,0,none⟩)),(5,.int .i64 x.1),(6,.int .i64 x.2)]) (fun x W=>Ext w1 W∧Nat.gcd x.1.natAbs x.2.natAbs=Nat.gcd n.natAbs d.natAbs) (fun x=>x.2.natAbs) (n,d) ?_ ?_ ?_)
  ·exact lkA rfl
  ·exact ⟨.refl _,rfl⟩
  ·rintro ⟨p,q⟩ W ⟨hW,hg⟩
   replace hg:Nat.gcd p.natAbs q.natAbs=Nat.gcd n.natAbs d.natAbs:=hg
   by_cases hq:q=0
   ·subst hq
    refine .seq (.seq (.region (.mv rfl rfl (.neqF rfl rfl rfl rfl (.nil (.condF rfl (.exit ?_)))))))
    refine ⟨rfl,p,lkA rfl,hW,?_⟩
    rw [←hg];simp
   ·refine .seq (.seq (.region (.mv rfl rfl (.neqT rfl rfl rfl hq (.nil (.condT rfl (.skip (.block ?_))))))))
    refine .par follows 5 [.inl (.int .i64 q),.inl (.int .i64 p),.inl (.int .i64 q),.inl (.int .i64 (p.tmod q)),.inl (.int .i64 q)] [[],[],[],[(12,1),(13,2)],[(11,0)]] (by kernel_rfl) ⟨
     fun w e=>(v_mv rfl).ob,
     fun w e=>(v_mv rfl).ob,
     fun w e=>(v_mv rfl).ob,
     fun w e=>(AS8 rfl rfl hq).ob,
     fun w e=>(v_as rfl).ob,trivial⟩ ?_
    intro w2 e2
    refine .asg rfl rfl (.nil ?_)
    have hmod:(p.tmod q).natAbs=p.natAbs % q.natAbs:=Int.natAbs_tmod p q
    refine ⟨rfl,(q,p.tmod q),lkA rfl,⟨hW.trans e2,?_⟩,?_⟩
    ·show Nat.gcd q.natAbs (p.tmod q).natAbs=_
     rw [hmod,←hg,Nat.gcd_comm p.natAbs,Nat.gcd_rec q.natAbs p.natAbs,Nat.gcd_comm]
    ·show (p.tmod q).natAbs<q.natAbs
     rw [hmod];exact Nat.mod_lt _ (by omega)
 ·rintro m W ⟨hW,hm⟩
  generalize hG:Nat.gcd n.natAbs d.natAbs=G at *
  refine .mid (α:=Unit) (fun _=>[(0,.int .i64 n),(1,.int .i64 d),(4,.pointer (some ⟨b1,0,none⟩)),(5,.int .i64 (G:Nat))]) (fun _ W'=>W'=W) ?_ ?_
  ·refine .seq (.region (.mv rfl rfl ?_))
   by_cases h0:m<0
   ·refine .lssT rfl rfl rfl h0 (.nil (.condT rfl (.region (.mv rfl rfl (.neg rfl rfl ?_)))))
    rw [wI (n:=0-m) (by omega),show 0-m=(G:Int) by omega]
    exact .asg rfl rfl (.nil ⟨rfl,(),lkA rfl,rfl⟩)
   ·refine .lssF rfl rfl rfl h0 (.nil (.condF rfl (.skip ?_)))
    have:m=(G:Int):=by omega
    subst this
    exact ⟨rfl,(),lkA rfl,rfl⟩
  ·rintro _ _ rfl
   have upW:=up1.ext hW.size
   have kW:=k1.ext hW
   have hr1:IntKind.i64.wrap (n.tdiv (G:Int))=n / (G:Int):=by
    rw [Ae7 hdvd1]
    have:=S3 n G
    exact wI (by omega)
   have hr2:IntKind.i64.wrap (d.tdiv (G:Int))=d / (G:Int):=by
    rw [Ae7 hdvd2]
    have:=S3 d G
    exact wI (by omega)
   have hb1:=S3 n G
   have hb2:=S3 d G
   have hdG:G*(d / (G:Int))=d:=Int.mul_ediv_cancel' hdvd2
   refine .seq (.seq (.region (.mv rfl rfl (.mv rfl rfl ?_))))
   by_cases hGd':(G:Int)=d
   ·refine .eqlT rfl rfl rfl hGd' (.nil (.condT rfl (.seq (.region (.mv rfl rfl (.mv rfl rfl (.quo rfl rfl rfl (by omega) ?_)))))))
    rw [hr1]
    refine .call _ rfl C5 rfl (C3 upW (by omega) (by omega)) fun v2 w2 e2 h2=>?_
    obtain ⟨s,rfl,hs⟩:=h2
    refine .bld _ rfl rfl An1 ?_
    have hq:eQ.R T w2 (.agg #[.bool (zc (n / (G:Int))).neg,s,.bool false,.slice none 0 0]) (qc (Rat.divInt n d)):=by
     rw [hqc,if_pos (by rw [hGd'];exact Int.ediv_self (by omega))]
     exact ⟨s,_,rfl,hs,RL.nil⟩
    refine .storeA (E:=eQ) ty_Q rfl rfl (kW.ext e2) rfl rfl hq hS fun w3 k3 u3 h3=>.nil (.ret ?_)
    exact .cell Tryz.results118 rfl ty_Q rfl rfl k3 h3 ⟨u3.below ((e1.trans hW).trans e2) (by omega),hout h3⟩
   ·refine .eqlF rfl rfl rfl hGd' (.nil (.condF rfl (.skip (.seq ?_))))
    have hne1:¬ d / (G:Int)=1:=fun h=>hGd' (by rw [h,Int.mul_one] at hdG;exact hdG)
    refine .par follows 9 [.inl _,.inl _,.inl (.int .i64 (n / (G:Int))),.inr (eZ.at T (zc (n / (G:Int)))),.inl _,.inl _,.inl (.int .i64 (d / (G:Int))),.inr (eZ.at T (zc (d / (G:Int)))),.inr (eQ.at T (qc (Rat.divInt n d)))] [[],[],[(27,0),(28,1)],[(29,2)],[],[],[(31,4),(32,5)],[(33,6)],[(30,3),(34,7)]] (by kernel_rfl) ⟨
     fun w e=>(v_mv rfl).ob,
     fun w e=>(v_mv rfl).ob,
     fun w e=>((AS9 rfl rfl (by omega)).eq (by rw [hr1])).ob,
     fun w e=>(A1 _ C5 rfl (C3 (upW.ext e.size) (by omega) (by omega))).ob (A6 _ _ _),
     fun w e=>(v_mv rfl).ob,
     fun w e=>(v_mv rfl).ob,
     fun w e=>((AS9 rfl rfl (by omega)).eq (by rw [hr2])).ob,
     fun w e=>(A1 _ C5 rfl (C3 (upW.ext e.size) (by omega) (by omega))).ob (A6 _ _ _),
     fun w e x3 hx3 x7 hx7=>by
      obtain ⟨s,rfl,hs⟩:=hx3
      obtain ⟨t,rfl,ht⟩:=hx7
      refine K4 (AT1 _ rfl AW0) ?_ (A6 _ _ _)
      rw [hqc,if_neg hne1]
      exact ⟨s,t,rfl,hs,ht⟩,trivial⟩ ?_
    intro w2 e2 x3 hx3 x7 hx7 x8 hx8
    refine .storeA (E:=eQ) ty_Q rfl rfl (kW.ext e2) rfl rfl hx8 hS fun w3 k3 u3 h3=>.nil (.ret ?_)
    exact .cell Tryz.results118 rfl ty_Q rfl rfl k3 h3 ⟨u3.below ((e1.trans hW).trans e2) (by omega),hout h3⟩
theorem Aj4 {m n:Int} (hn:n≠0):zval (zc ((Nat.gcd m.natAbs n.natAbs:Nat):Int))≠0:=by
 rw [E6]
 have:=Nat.gcd_pos_of_pos_right m.natAbs (show 0<n.natAbs by omega)
 omega
theorem U3:Ent Tryz.prog 180:=A0 Tryz.func180 (by kernel_rfl) rfl
theorem T6 {S T0:Nat→Prop} {w:World} {vm vn:Value} {m n:Int} {L:Nat} (up:Up S w) (upo:Up T0 w) (hm:Zv S m L vm w) (hn:Zv S n L vn w) (hn0:n≠0) (hL:L≤1000000000000) :
  CR Tryz.prog 180 #[vm,vn] w (eQ.at T0 (qc (Rat.divInt m n))):=by
 replace hm:(eZn L).R S w vm m:=hm
 replace hn:(eZn L).R S w vn n:=hn
 refine enter Tryz.func180 rfl Tryz.ntmps180 rfl ?_
 refine .seq (.region (.box rfl rfl fun w1 b2 n1=>.box rfl rfl fun w2 b3 n2=>.alloc rfl D2 fun w3 b4 n3=>.nil ?_))
 obtain ⟨e1,k2,hb2,hs1⟩:=n1
 obtain ⟨e2,k3,hb3,hs2⟩:=n2
 obtain ⟨e3,k4,hb4,hs3⟩:=n3
 have x3:=(e1.trans e2).trans e3
 have k2:=(k2.ext e2).ext e3
 have k3:=k3.ext e3
 have hS2:¬ Sx S w.heap.size w3.heap.size b2:=Sx.no (by omega) (by omega)
 have hS3:¬ Sx S w.heap.size w3.heap.size b3:=Sx.no (by omega) (by omega)
 have hS4:¬ Sx S w.heap.size w3.heap.size b4:=Sx.no (by omega) (by omega)
 have up3:Up (Sx S w.heap.size w3.heap.size) w3:=Sx.up up (Nat.le_refl _) x3.size
 have hm3:=(hm.par w3.heap.size).ext x3
 have hn3:=(hn.par w3.heap.size).ext x3
 have hU2:¬ Sx T0 w.heap.size w3.heap.size b2:=Sx.no (by omega) (by omega)
 have hU3:¬ Sx T0 w.heap.size w3.heap.size b3:=Sx.no (by omega) (by omega)
 have hU4:¬ Sx T0 w.heap.size w3.heap.size b4:=Sx.no (by omega) (by omega)
 have upo3:Up (Sx T0 w.heap.size w3.heap.size) w3:=Sx.up upo (Nat.le_refl _) x3.size
 have hout:∀ {W:World} {v:Value} {z:QV},eQ.R (Sx T0 w.heap.size w3.heap.size) W v z→eQ.R T0 W v z:=fun h=>h.out
 have hne32:b3≠b2:=by omega
 have hne42:b4≠b2:=by omega
 have hne43:b4≠b3:=by omega
 have hw2:w.heap.size≤b2:=by omega
 have hw3:w.heap.size≤b3:=by omega
 have hw4:w.heap.size≤b4:=by omega
 have hc2:b2<w3.heap.size:=by omega
 have hc3:b3<w3.heap.size:=by omega
 have hc4:b4<w3.heap.size:=by omega
 clear hb2 hb3 hb4
 generalize hT:Sx S w.heap.size w3.heap.size=T at *
 generalize hU:Sx T0 w.heap.size w3.heap.size=U at *
 refine .mid (α:=(Value×Int)×(Value×Int)) (fun _=>[(2,.pointer (some ⟨b2,0,none⟩)),(3,.pointer (some ⟨b3,0,none⟩)),(4,.pointer (some ⟨b4,0,none⟩))])
  (fun x W=>Below w.heap.size w W∧w3.heap.size≤W.heap.size∧Blk W b2 53 x.1.1.cells∧Blk W b3 53 x.2.1.cells∧Blk W b4 55 #[.bool false,.slice none 0 0,.bool false,.slice none 0 0]∧(eZn L).R T W x.1.1 x.1.2∧(eZn L).R T W x.2.1 x.2.2∧0<x.2.2∧Rat.divInt x.1.2 x.2.2=Rat.divInt m n) ?_ ?_
 ·obtain ⟨zn,hzn,hznv,hznl⟩:=hn3
  obtain ⟨zm,hzm,hzmv,hzml⟩:=hm3
  have hvn:=shpA rfl hzn
  have hvm:=shpA rfl hzm
  refine .seq (.region (.ldA ty_Z rfl rfl k3 (eZ.csz hzn) ?_))
  rw [←hvn]
  refine .call _ rfl N0 rfl (L7 hzn) fun v4 w4 e4 h4=>?_
  subst h4
  rw [hznv]
  have x4:=x3.trans e4
  have k2:=k2.ext e4
  have k3:=k3.ext e4
  have k4:=k4.ext e4
  have up4:=up3.ext e4.size
  have hzn4:=hzn.ext e4
  have hzm4:=hzm.ext e4
  have hdn:=AC2 hzn
  have hdm:=AC2 hzm
  by_cases h0:n<0
  ·refine .lssT rfl rfl rfl (by rw [Int.sign_eq_neg_one_of_neg h0];decide) (.nil (.condT rfl ?_))
   refine .par follows 4 [.inl vm,.inr (eZ.at T (zc (-zval zm))),.inl vn,.inr (eZ.at T (zc (-zval zn)))] [[],[(11,0)],[],[(13,2)]] (by kernel_rfl) ⟨
    fun w e=>((B3 ty_Z rfl (k2.ext e) (eZ.csz hzm)).eq hvm.symm).ob,
    fun w e=>(A1 _ P6 rfl (O7 (up4.ext e.size) (hzm4.ext e) (by omega))).ob (A6 _ _ _),
    fun w e=>((B3 ty_Z rfl (k3.ext e) (eZ.csz hzn)).eq hvn.symm).ob,
    fun w e=>(A1 _ P6 rfl (O7 (up4.ext e.size) (hzn4.ext e) (by omega))).ob (A6 _ _ _),trivial⟩ ?_
   intro w5 e5 x1 hx1 x3' hx3
   have hA:(eZn L).R T w5 x1 (-m):=by rw [←hzmv];exact Zv.of hx1 (by have:=O1 hdm hzml;omega)
   have hB:(eZn L).R T w5 x3' (-n):=by rw [←hznv];exact Zv.of hx3 (by have:=O1 hdn hznl;omega)
   refine .storeA (E:=eZn L) ty_Z rfl rfl (k2.ext e5) rfl (eZ.csz hzm) hA hS2 fun w6 k6 u6 h6=>?_
   refine .storeA (E:=eZn L) ty_Z rfl rfl ((k3.ext e5).upd u6 hne32) rfl (eZ.csz hzn) (hB.upd u6 hS2) hS3 fun w7 k7 u7 h7=>.nil ?_
   refine ⟨rfl,((x1,-m),(x3',-n)),lkA rfl,u7.below (u6.below (x4.trans e5) hw2) hw3,?_,k6.upd u7 (Ne.symm hne32),k7,((k4.ext e5).upd u6 hne42).upd u7 hne43,h6.upd u7 hS3,h7,by show 0 < -n;omega,Rat.neg_divInt_neg m n⟩
   rw [u7.size,u6.size];exact (e4.trans e5).size
  ·refine .lssF rfl rfl rfl (by rw [Int.sign_eq_one_of_pos (by omega)];decide) (.nil (.condF rfl (.skip ?_)))
   exact ⟨rfl,((vm,m),(vn,n)),lkA rfl,x4,e4.size,k2,k3,k4,⟨zm,hzm4,hzmv,hzml⟩,⟨zn,hzn4,hznv,hznl⟩,by show 0<n;omega,rfl⟩
 ·rintro ⟨⟨um,m'⟩,⟨un,n'⟩⟩ W ⟨hB,hsz,k2,k3,k4,hm,hn,hpos,hdiv⟩
  replace hm:(eZn L).R T W um m':=hm
  replace hn:(eZn L).R T W un n':=hn
  replace hpos:0<n':=hpos
  replace hdiv:Rat.divInt m' n'=Rat.divInt m n:=hdiv
  rw [←hdiv]
  replace k2:Blk W b2 53 um.cells:=k2
  replace k3:Blk W b3 53 un.cells:=k3
  have upW:=up3.ext hsz
  have upoW:=upo3.ext hsz
  obtain ⟨zn,hzn,hznv,hznl⟩:=hn
  obtain ⟨zm,hzm,hzmv,hzml⟩:=hm
  have hvn:=shpA rfl hzn
  have hvm:=shpA rfl hzm
  have hdn:=AC2 hzn
  have hdm:=AC2 hzm
  refine .seq (.region (.ldA ty_Z rfl rfl k2 (eZ.csz hzm) (.ldA ty_Z rfl rfl k3 (eZ.csz hzn) ?_)))
  rw [←hvn,←hvm]
  refine .call _ rfl Ah9 rfl (Ae0 upW hzm hzn (by omega) (by omega)) fun vg w5 e5 h5=>?_
  have hgv:Nat.gcd (val zm.w) (val zn.w)=Nat.gcd m'.natAbs n'.natAbs:=by rw [←H5,←H5,hzmv,hznv]
  rw [hgv] at h5
  have hgl:(zc ((Nat.gcd m'.natAbs n'.natAbs:Nat):Int)).w.length≤L:=by
   refine L6 ?_
   have h1:=Nat.gcd_le_right m'.natAbs (show 0<n'.natAbs by omega)
   have h2:=O1 hdn hznl
   rw [hznv] at h2
   simp only [Int.natAbs_natCast]
   omega
  refine .alloc rfl B4 fun w6 b5 n6=>?_
  obtain ⟨e6,k6,hb5,hs6⟩:=n6
  have e56:=e5.trans e6
  have hS5':¬ Sx T w5.heap.size w6.heap.size b5:=Sx.no (by omega) (by omega)
  have h5':=(h5.par w6.heap.size).ext e6
  have hzm6:=((hzm.ext e5).par w6.heap.size).ext e6
  have hzn6:=((hzn.ext e5).par w6.heap.size).ext e6
  have hS2':¬ Sx T w5.heap.size w6.heap.size b2:=fun h=>hS2 h.1
  have hS3':¬ Sx T w5.heap.size w6.heap.size b3:=fun h=>hS3 h.1
  have hU2':¬ Sx U w5.heap.size w6.heap.size b2:=fun h=>hU2 h.1
  have hU3':¬ Sx U w5.heap.size w6.heap.size b3:=fun h=>hU3 h.1
  have hU4':¬ Sx U w5.heap.size w6.heap.size b4:=fun h=>hU4 h.1
  have upo6:Up (Sx U w5.heap.size w6.heap.size) w6:=Sx.up (upoW.ext e5.size) (Nat.le_refl _) e6.size
  have hout':∀ {W:World} {v:Value} {z:QV},eQ.R (Sx U w5.heap.size w6.heap.size) W v z→eQ.R T0 W v z:=fun h=>hout h.out
  have up6:Up (Sx T w5.heap.size w6.heap.size) w6:=Sx.up (upW.ext e5.size) (Nat.le_refl _) e6.size
  have hB6:Below w.heap.size w w6:=hB.trans (e56.mono hB.size)
  have hn52:b5≠b2:=by have:=e5.size;omega
  have hn53:b5≠b3:=by have:=e5.size;omega
  have hn54:b5≠b4:=by have:=e5.size;omega
  have hw5:w.heap.size≤b5:=by have:=hB.size;have:=e5.size;omega
  generalize hT2:Sx T w5.heap.size w6.heap.size=T2 at *
  generalize hUU:Sx U w5.heap.size w6.heap.size=U2 at *
  refine .storeA ty_Z rfl rfl k6 rfl rfl h5' hS5' fun w7 k7 u7 h7=>.nil ?_
  have up7:Up T2 w7:=up6.ext (by rw [u7.size];exact Nat.le_refl _)
  have upo7:Up U2 w7:=upo6.ext (by rw [u7.size];exact Nat.le_refl _)
  have hB7:=u7.below hB6 hw5
  have hzm7:=hzm6.upd u7 hS5'
  have hzn7:=hzn6.upd u7 hS5'
  have k2:=(k2.ext e56).upd u7 (Ne.symm hn52)
  have k3:=(k3.ext e56).upd u7 (Ne.symm hn53)
  have k4:=(k4.ext e56).upd u7 (Ne.symm hn54)
  have hvg:=shpA rfl h7
  have hg0:=Aj4 (m:=m') (n:=n') (by omega)
  generalize hG:Nat.gcd m'.natAbs n'.natAbs=G at *
  refine .seq (.region (.ldA ty_Z rfl rfl k2 (eZ.csz hzm) (.ldA ty_Z rfl rfl k7 (eZ.csz h7) ?_)))
  rw [←hvm,←hvg]
  refine .call _ rfl AC6 rfl (AA6 up7 upo7 hzm7 h7 (by omega) (by omega) hg0) fun v8 w8 e8 h8=>?_
  obtain ⟨qm,rm,_,rfl,hqm,_,rfl⟩:=h8
  refine .mv rfl rfl (.ext rfl rfl rfl (.ext rfl rfl rfl (.ext rfl rfl rfl ?_)))
  rw [hzmv,E6] at hqm
  refine .storeA (E:=eZ) ty_Z rfl rfl (k2.ext e8) rfl (eZ.csz hzm) hqm hU2' fun w9 k9 u9 h9=>.nil ?_
  have up9:Up T2 w9:=(up7.ext e8.size).ext (by rw [u9.size];exact Nat.le_refl _)
  have upo9:Up U2 w9:=(upo7.ext e8.size).ext (by rw [u9.size];exact Nat.le_refl _)
  have hB9:Below w.heap.size w w9:=u9.below (hB7.trans (e8.mono hB7.size)) hw2
  have k3:=(k3.ext e8).upd u9 hne32
  have k5:=(k7.ext e8).upd u9 hn52
  have k4:=(k4.ext e8).upd u9 hne42
  have hg9:=(h7.ext e8).upd u9 hS2'
  have hzn9:=(hzn7.ext e8).upd u9 hS2'
  refine .seq (.region (.ldA ty_Z rfl rfl k3 (eZ.csz hzn) (.ldA ty_Z rfl rfl k5 (eZ.csz h7) ?_)))
  rw [←hvn,←hvg]
  refine .call _ rfl AC6 rfl (AA6 up9 upo9 hzn9 hg9 (by omega) (by omega) hg0) fun v10 w10 e10 h10=>?_
  obtain ⟨qn,rn,_,rfl,hqn,_,rfl⟩:=h10
  refine .mv rfl rfl (.ext rfl rfl rfl (.ext rfl rfl rfl (.ext rfl rfl rfl ?_)))
  rw [hznv,E6] at hqn
  refine .storeA (E:=eZ) ty_Z rfl rfl (k3.ext e10) rfl (eZ.csz hzn) hqn hU3' fun w11 k11 u11 h11=>.nil ?_
  have hB11:Below w.heap.size w w11:=u11.below (hB9.trans (e10.mono hB9.size)) hw3
  have k9:=(k9.ext e10).upd u11 (Ne.symm hne32)
  have k4:=(k4.ext e10).upd u11 hne43
  have h9:=(h9.ext e10).upd u11 hU3'
  have hqc:=AL7 (n:=m') hpos
  rw [hG] at hqc
  have hvqm:=shpA rfl h9
  have hvqn:=shpA rfl h11
  refine .mid (α:=Value) (fun _=>[(2,.pointer (some ⟨b2,0,none⟩)),(3,.pointer (some ⟨b3,0,none⟩)),(4,.pointer (some ⟨b4,0,none⟩))])
   (fun x W=>Below w.heap.size w W∧Blk W b2 53 qm.cells∧Blk W b3 53 x.cells∧Blk W b4 55 #[.bool false,.slice none 0 0,.bool false,.slice none 0 0]∧eZ.R U2 W qm (zc (m' / (G:Int)))∧eZ.R U2 W x (if n' / (G:Int)=1 then ⟨false,[]⟩ else zc (n' / (G:Int)))) ?_ ?_
  ·refine .seq (.region (.ldA ty_Z rfl rfl k11 (eZ.csz h11) ?_))
   rw [←hvqn]
   refine .call _ rfl H0 rfl (G8 h11) fun v12 w12 e12 h12=>?_
   subst h12
   refine .mv rfl rfl (.ext rfl rfl rfl (.ext rfl rfl rfl (.asg rfl rfl (.asg rfl rfl (.nil ?_)))))
   rw [E6]
   have hB12:Below w.heap.size w w12:=hB11.trans (e12.mono hB11.size)
   refine .seq (.region (.mv rfl rfl (.mv rfl rfl ?_)))
   have hno:∀ {σ:Env},(∀ t v,Kx.look [(2,.pointer (some ⟨b2,0,none⟩)),(3,.pointer (some ⟨b3,0,none⟩)),(4,.pointer (some ⟨b4,0,none⟩))] t=some v→Kx.look σ t=some v)→n' / (G:Int)≠1→(([]:List Deferred)=[]∧∃ x:Value,(∀ t v,Kx.look [(2,.pointer (some ⟨b2,0,none⟩)),(3,.pointer (some ⟨b3,0,none⟩)),(4,.pointer (some ⟨b4,0,none⟩))] t=some v→Kx.look σ t=some v) ∧
     Below w.heap.size w w12∧Blk w12 b2 53 qm.cells∧Blk w12 b3 53 x.cells∧Blk w12 b4 55 #[.bool false,.slice none 0 0,.bool false,.slice none 0 0]∧eZ.R U2 w12 qm (zc (m' / (G:Int)))∧eZ.R U2 w12 x (if n' / (G:Int)=1 then ⟨false,[]⟩ else zc (n' / (G:Int)))):=by
    intro σ hσ h1
    refine ⟨rfl,qn,hσ,hB12,k9.ext e12,k11.ext e12,k4.ext e12,h9.ext e12,?_⟩
    rw [if_neg h1];exact h11.ext e12
   cases hok:i64ok (n' / (G:Int)) with
   | false =>
    refine .gs rfl rfl rfl rfl rfl (.gs rfl rfl rfl rfl rfl (.pick rfl rfl rfl (.nil (.condF rfl (.skip (hno (lkA rfl) ?_))))))
    intro h;rw [h] at hok;simp [i64ok] at hok
   | true =>
    have ev':i64v (n' / (G:Int))=n' / (G:Int):=by rw [i64v,hok];rfl
    rw [ev']
    by_cases h1:n' / (G:Int)=1
    ·refine .gr rfl rfl rfl rfl (.mv rfl rfl (.gr rfl rfl rfl rfl (.eqlT rfl rfl rfl h1 (.pick rfl rfl rfl (.nil (.condT rfl (.region (.bld _ rfl rfl An0 ?_))))))))
     have hz:eZ.R U2 w12 (.agg #[.bool false,.slice none 0 0]) ⟨false,[]⟩:=⟨_,rfl,RL.nil⟩
     refine .storeA (E:=eZ) ty_Z rfl rfl (k11.ext e12) rfl (eZ.csz h11) hz hU3' fun w13 k13 u13 h13=>.nil ?_
     refine ⟨rfl,_,lkA rfl,u13.below hB12 hw3,(k9.ext e12).upd u13 (Ne.symm hne32),k13,(k4.ext e12).upd u13 hne43,(h9.ext e12).upd u13 hU3',?_⟩
     rw [if_pos h1];exact h13
    ·refine .gr rfl rfl rfl rfl (.mv rfl rfl (.gr rfl rfl rfl rfl (.eqlF rfl rfl rfl h1 (.pick rfl rfl rfl (.nil (.condF rfl (.skip (hno (lkA rfl) h1)))))))) 
  ·rintro x W ⟨hB12,k2,k3,k4,hA,hC⟩
   obtain ⟨s,rfl,hs⟩:=hA
   obtain ⟨t,rfl,ht⟩:=hC
   refine .seq (.region (.ldA ty_Z rfl rfl k2 rfl (.ldA ty_Z rfl rfl k3 rfl (.bld _ rfl rfl AW0 ?_))))
   have hq:eQ.R U2 W (.agg #[.bool (zc (m' / (G:Int))).neg,s,.bool (if n' / (G:Int)=1 then (⟨false,[]⟩:ZV) else zc (n' / (G:Int))).neg,t]) (qc (Rat.divInt m' n')):=by
    rw [hqc]
    exact ⟨s,t,rfl,hs,ht⟩
   refine .storeA (E:=eQ) ty_Q rfl rfl k4 rfl rfl hq hU4' fun w13 k13 u13 h13=>.nil (.ret ?_)
   exact .cell Tryz.results180 rfl ty_Q rfl rfl k13 h13 ⟨u13.below hB12 hw4,hout' h13⟩
theorem AX4 {S:Nat→Prop} {w:World} {vm vn:Value} {m n:Int} {L:Nat} (up:Up S w) (hm:Zv S m L vm w) (hn:Zv S n L vn w) (hn0:n≠0) (hL:L≤1000000000000) :
  CR Tryz.prog 180 #[vm,vn] w (eQ.at S (qc (Rat.divInt m n))):=T6 up up hm hn hn0 hL
end Go.Proofs.YtfilidfomgfnhaaGreat

namespace Go.Proofs.YtfilidfomgfnhaaGreat
open Go Go.Kx Go.RowKit
theorem Ae4:Tryz.prog.underlying 180=some (.map 5 179):=by kernel_rfl
theorem Ac8 {f:FuncId}:bldOf Tryz.prog 179 [(0,.func (.func f) #[] #[])]=some #[.func (.func f) #[] #[]]:=by kernel_rfl
theorem prt_op {f:FuncId}:prtOf Tryz.prog 179 #[.func (.func f) #[] #[]] 0=some (.func (.func f) #[] #[]):=by kernel_rfl
abbrev opE (k:Int) (f c:Nat):MapEntry:={ key:=.int .u8 k,val:=.agg #[.func (.func f) #[] #[]],born:=c }
def opTab:Array MapEntry:=#[opE 43 238 0,opE 45 240 1,opE 42 242 2,opE 47 243 3]
@[reducible] def IsTab:Value→World→Prop:=fun v w=>∃ r,v=.map (some r)∧MapAt w r opTab 4
theorem st_tab:St IsTab:=fun _ _ _ e ⟨r,h1,h2⟩=>⟨r,h1,h2.ext e⟩
theorem AK7:Ent Tryz.prog 181:=A0 Tryz.func181 (by kernel_rfl) rfl
theorem AJ7 {w:World}:CR Tryz.prog 181 #[] w IsTab:=by
 refine enter Tryz.func181 rfl Tryz.ntmps181 rfl ?_
 refine .seq (.region (.asg rfl rfl (.nil (.seq (.region ?_)))))
 refine .gv rfl rfl g_mkmap ?_
 rintro _ w1 ⟨rfl,e1,m1⟩
 refine .bld _ rfl rfl Ac8 (.gv rfl rfl (Aq2 Ae4 AT2 rfl rfl rfl m1 rfl) ?_)
 rintro _ _ rfl
 have m2:=m1.put (es':=#[].push (opE 43 238 0)) (c':=1)
 have x2:=AD4 (o:=.map (#[].push (opE 43 238 0)) 1) e1 (Nat.le_refl _)
 refine .bld _ rfl rfl Ac8 (.gv rfl rfl (Aq2 Ae4 AT2 rfl rfl rfl m2 rfl) ?_)
 rintro _ _ rfl
 have m3:=m2.put (es':=(#[].push (opE 43 238 0)).push (opE 45 240 1)) (c':=2)
 have x3:=AD4 (o:=.map ((#[].push (opE 43 238 0)).push (opE 45 240 1)) 2) x2 (Nat.le_refl _)
 refine .bld _ rfl rfl Ac8 (.gv rfl rfl (Aq2 Ae4 AT2 rfl rfl rfl m3 rfl) ?_)
 rintro _ _ rfl
 have m4:=m3.put (es':=((#[].push (opE 43 238 0)).push (opE 45 240 1)).push (opE 42 242 2)) (c':=3)
 have x4:=AD4 (o:=.map (((#[].push (opE 43 238 0)).push (opE 45 240 1)).push (opE 42 242 2)) 3) x3 (Nat.le_refl _)
 refine .bld _ rfl rfl Ac8 (.gv rfl rfl (Aq2 Ae4 AT2 rfl rfl rfl m4 rfl) ?_)
 rintro _ _ rfl
 have m5:=m4.put (es':=opTab) (c':=4)
 have x5:=AD4 (o:=.map opTab 4) x4 (Nat.le_refl _)
 refine .mv rfl rfl (.asg rfl rfl (.nil (.ret ?_)))
 exact .plain [_] Tryz.results181 ⟨rfl,trivial⟩ ⟨x5,_,rfl,m5⟩
theorem D4:Ent Tryz.prog 119:=A0 Tryz.func119 (by kernel_rfl) rfl
theorem K0 {S T0:Nat→Prop} {w:World} {va vb:Value} {a b:QV} {L:Nat} {k:Int} {i:Nat} {f:FuncId} {N D:Int} (up:Up S w) (upo:Up T0 w) (ha:eQ.R S w va a) (hb:eQ.R S w vb b) (hla:qok L a) (hlb:qok L b) (hL:1≤L) (hL2:L≤100000000000)
  (hE:Ent Tryz.prog f) (hf:Instr.findNow (.int .u8) (.int .u8 k) opTab.toList 0=some (some (i,.agg #[.func (.func f) #[] #[]])))
  (hop:∀ {T:Nat→Prop} {W:World} {u1 u2 u3 u4:Value},Up T W→Zv T (pn a) L u1 W→Zv T (pd a) L u2 W→Zv T (pn b) L u3 W→Zv T (pd b) L u4 W→CR Tryz.prog f #[u1,u2,u3,u4] W (Two (Zv T N (2*L+1)) (Zv T D (2*L+1)))) (hD:D≠0) :
  CR Tryz.prog 119 #[.int .u8 k,va,vb] w (eQ.at T0 (qc (Rat.divInt N D))):=by
 have hva:=shpA rfl ha
 have hvb:=shpA rfl hb
 refine enter Tryz.func119 rfl Tryz.ntmps119 rfl ?_
 refine .seq (.region (.box rfl rfl fun w1 b4 n1=>.box rfl rfl fun w2 b5 n2=>.alloc rfl D2 fun w3 b6 n3=>.nil ?_))
 obtain ⟨e1,k4,hb4,hs1⟩:=n1
 obtain ⟨e2,k5,hb5,hs2⟩:=n2
 obtain ⟨e3,k6,hb6,hs3⟩:=n3
 have x3:=(e1.trans e2).trans e3
 have k4:=(k4.ext e2).ext e3
 have k5:=k5.ext e3
 have hU6:¬ Sx T0 w.heap.size w3.heap.size b6:=Sx.no (by omega) (by omega)
 have hS5:¬ Sx S w.heap.size w3.heap.size b5:=Sx.no (by omega) (by omega)
 have up3:Up (Sx S w.heap.size w3.heap.size) w3:=Sx.up up (Nat.le_refl _) x3.size
 have ha3:=(ha.par w3.heap.size).ext x3
 have hb3:=(hb.par w3.heap.size).ext x3
 have upo3:Up (Sx T0 w.heap.size w3.heap.size) w3:=Sx.up upo (Nat.le_refl _) x3.size
 have hout:∀ {W:World} {v:Value} {z:QV},eQ.R (Sx T0 w.heap.size w3.heap.size) W v z→eQ.R T0 W v z:=fun h=>h.out
 have hw6:w.heap.size≤b6:=by omega
 have hc6:b6<w3.heap.size:=by omega
 have hc5:b5<w3.heap.size:=by omega
 generalize hT:Sx S w.heap.size w3.heap.size=T at *
 generalize hU:Sx T0 w.heap.size w3.heap.size=U at *
 refine .seq (.region (.ldA ty_Q rfl rfl k4 (eQ.csz ha) ?_))
 rw [←hva]
 refine .call _ rfl Z8 rfl (Y9 up3 ha3 hla hL (by omega)) fun v4 w4 e4 h4=>?_
 obtain ⟨u1,u2,rfl,h1,h2⟩:=h4
 replace h1:(eZn L).R T w4 u1 (pn a):=h1
 replace h2:(eZn L).R T w4 u2 (pd a):=h2
 refine .mv rfl rfl (.ext rfl rfl rfl (.ext rfl rfl rfl (.alloc rfl B4 fun w5 b7 n5=>.alloc rfl B4 fun w6 b8 n6=>?_)))
 obtain ⟨e5,k7,hb7,hs5⟩:=n5
 obtain ⟨e6,k8,hb8,hs6⟩:=n6
 have e56:=e5.trans e6
 have k7:=k7.ext e6
 have hs4:=e4.size
 have hS7:¬ Sx T w4.heap.size w6.heap.size b7:=Sx.no (by omega) (by omega)
 have hS8:¬ Sx T w4.heap.size w6.heap.size b8:=Sx.no (by omega) (by omega)
 have h16:=(h1.par w6.heap.size).ext e56
 have h26:=(h2.par w6.heap.size).ext e56
 have hb6':=((hb3.ext e4).par w6.heap.size).ext e56
 have up6:Up (Sx T w4.heap.size w6.heap.size) w6:=Sx.up (up3.ext e4.size) (Nat.le_refl _) e56.size
 have hS5:¬ Sx T w4.heap.size w6.heap.size b5:=fun h=>hS5 h.1
 have hc7:b7<w6.heap.size:=by omega
 have hc8:b8<w6.heap.size:=by omega
 have hn78:b8≠b7:=by omega
 have hw7:w.heap.size≤b7:=by have:=x3.size;omega
 have hw8:w.heap.size≤b8:=by have:=x3.size;omega
 have hn57:b5≠b7:=by omega
 have hn58:b5≠b8:=by omega
 have hn67:b6≠b7:=by omega
 have hn68:b6≠b8:=by omega
 generalize hT2:Sx T w4.heap.size w6.heap.size=T2 at *
 refine .storeA (E:=eZn L) ty_Z rfl rfl k7 rfl rfl h16 hS7 fun w7 k7 u7 h17=>?_
 refine .storeA (E:=eZn L) ty_Z rfl rfl (k8.upd u7 hn78) rfl rfl (h26.upd u7 hS7) hS8 fun w8 k8 u8 h28=>.nil ?_
 have h18:=h17.upd u8 hS8
 have k7:=k7.upd u8 (Ne.symm hn78)
 have x6:=(x3.trans e4).trans e56
 have x8:Ext w w8:=u8.below (u7.below x6 hw7) hw8
 have k5:=(((k5.ext e4).ext e56).upd u7 hn57).upd u8 hn58
 have k6:=(((k6.ext e4).ext e56).upd u7 hn67).upd u8 hn68
 have hb8':=(hb6'.upd u7 hS7).upd u8 hS8
 have up8:Up T2 w8:=up6.ext (by rw [u8.size,u7.size];exact Nat.le_refl _)
 have upo8:Up U w8:=((upo3.ext e4.size).ext e56.size).ext (by rw [u8.size,u7.size];exact Nat.le_refl _)
 have hs8:w8.heap.size=w6.heap.size:=by rw [u8.size,u7.size]
 refine .seq (.region (.ldA ty_Q rfl rfl k5 (eQ.csz hb) ?_))
 rw [←hvb]
 refine .call _ rfl Z8 rfl (Y9 up8 hb8' hlb hL (by omega)) fun v9 w9 e9 h9=>?_
 obtain ⟨u3,u4,rfl,h3,h4⟩:=h9
 replace h3:(eZn L).R T2 w9 u3 (pn b):=h3
 replace h4:(eZn L).R T2 w9 u4 (pd b):=h4
 refine .mv rfl rfl (.ext rfl rfl rfl (.ext rfl rfl rfl (.alloc rfl B4 fun w10 b9 n10=>.alloc rfl B4 fun w11 b10 n11=>?_)))
 obtain ⟨e10,k9,hb9,hs10⟩:=n10
 obtain ⟨e11,k10,hb10,hs11⟩:=n11
 have e1011:=e10.trans e11
 have k9:=k9.ext e11
 have hs9:=e9.size
 have hS9:¬ Sx T2 w9.heap.size w11.heap.size b9:=Sx.no (by omega) (by omega)
 have hS10:¬ Sx T2 w9.heap.size w11.heap.size b10:=Sx.no (by omega) (by omega)
 have h1':=((h18.ext e9).par w11.heap.size).ext e1011
 have h2':=((h28.ext e9).par w11.heap.size).ext e1011
 have h3':=(h3.par w11.heap.size).ext e1011
 have h4':=(h4.par w11.heap.size).ext e1011
 have up11:Up (Sx T2 w9.heap.size w11.heap.size) w11:=Sx.up (up8.ext e9.size) (Nat.le_refl _) e1011.size
 have hn910:b10≠b9:=by omega
 have hw9:w.heap.size≤b9:=by have:=x8.size;omega
 have hw10:w.heap.size≤b10:=by have:=x8.size;omega
 have n79:b7≠b9:=by omega
 have n710:b7≠b10:=by omega
 have n89:b8≠b9:=by omega
 have n810:b8≠b10:=by omega
 have n69:b6≠b9:=by omega
 have n610:b6≠b10:=by omega
 generalize hT3:Sx T2 w9.heap.size w11.heap.size=T3 at *
 refine .storeA (E:=eZn L) ty_Z rfl rfl k9 rfl rfl h3' hS9 fun w12 k9 u12 h312=>?_
 refine .storeA (E:=eZn L) ty_Z rfl rfl (k10.upd u12 hn910) rfl rfl (h4'.upd u12 hS9) hS10 fun w13 k10 u13 h413=>.nil ?_
 have h313:=h312.upd u13 hS10
 have k9:=k9.upd u13 (Ne.symm hn910)
 have x11:=(x8.trans e9).trans e1011
 have x13:Ext w w13:=u13.below (u12.below x11 hw9) hw10
 have h113:=(h1'.upd u12 hS9).upd u13 hS10
 have h213:=(h2'.upd u12 hS9).upd u13 hS10
 have k7:=(((k7.ext e9).ext e1011).upd u12 n79).upd u13 n710
 have k8:=(((k8.ext e9).ext e1011).upd u12 n89).upd u13 n810
 have k6:=(((k6.ext e9).ext e1011).upd u12 n69).upd u13 n610
 have up13:Up T3 w13:=up11.ext (by rw [u13.size,u12.size];exact Nat.le_refl _)
 have upo13:Up U w13:=((upo8.ext e9.size).ext e1011.size).ext (by rw [u13.size,u12.size];exact Nat.le_refl _)
 have hv1:=shpA (E:=eZn L) rfl h113
 have hv2:=shpA (E:=eZn L) rfl h213
 have hv3:=shpA (E:=eZn L) rfl h313
 have hv4:=shpA (E:=eZn L) rfl h413
 refine .seq ?_
 refine .par follows 12 [.inr IsTab,.inl (.int .u8 k),.inl (.agg #[.func (.func f) #[] #[]]),.inl (.func (.func f) #[] #[]),.inl u1,.inl u2,.inl u3,.inl u4,.inr (Two (Zv T3 N (2*L+1)) (Zv T3 D (2*L+1))),.inr (Zv T3 N (2*L+1)),.inr (Zv T3 D (2*L+1)),.inr (eQ.at U (qc (Rat.divInt N D)))]
  [[],[],[(21,0),(22,1)],[(23,2)],[],[],[],[],[(24,3),(25,4),(26,5),(27,6),(28,7)],[(29,8)],[(29,8)],[(30,9),(31,10)]] (by kernel_rfl) ⟨
  fun w e=>(A1 [] AK7 rfl AJ7).ob st_tab,
  fun w e=>(v_mv rfl).ob,
  fun w e x0 hx0=>by
   obtain ⟨r,rfl,hr⟩:=hx0
   exact (v_lkp Ae4 AT2 rfl rfl hr hf).ob,
  fun w e=>(v_fd rfl prt_op).ob,
  fun w e=>((B3 ty_Z rfl (k7.ext e) ((eZn L).csz h113)).eq hv1.symm).ob,
  fun w e=>((B3 ty_Z rfl (k8.ext e) ((eZn L).csz h213)).eq hv2.symm).ob,
  fun w e=>((B3 ty_Z rfl (k9.ext e) ((eZn L).csz h313)).eq hv3.symm).ob,
  fun w e=>((B3 ty_Z rfl (k10.ext e) ((eZn L).csz h413)).eq hv4.symm).ob,
  fun w e=>(AD9 [u1,u2,u3,u4] rfl hE rfl (by simpa using hop (up13.ext e.size) (Zv.ext h113 e) (Zv.ext h213 e) (Zv.ext h313 e) (Zv.ext h413 e))).ob (N4 (Af1 _ _ _) (Af1 _ _ _)),
  fun w e x8 hx8=>by
   obtain ⟨p,q,rfl,hp,hq⟩:=hx8
   exact K4 (v_ex rfl rfl) hp (Af1 _ _ _),
  fun w e x8 hx8=>by
   obtain ⟨p,q,rfl,hp,hq⟩:=hx8
   exact K4 (v_ex rfl rfl) hq (Af1 _ _ _),
  fun w e x9 hx9 x10 hx10=>(A1 _ U3 rfl (T6 (up13.ext e.size) (upo13.ext e.size) hx9 hx10 hD (by omega))).ob (A6 _ _ _),trivial⟩ ?_
 intro w14 e14 x0 hx0 x8 hx8 x9 hx9 x10 hx10 x11 hx11
 refine .storeA (E:=eQ) ty_Q rfl rfl (k6.ext e14) rfl rfl hx11 hU6 fun w15 k15 u15 h15=>.nil (.ret ?_)
 exact .cell Tryz.results119 rfl ty_Q rfl rfl k15 h15 ⟨u15.below (x13.trans e14) hw6,hout h15⟩
end Go.Proofs.YtfilidfomgfnhaaGreat

namespace Go.Proofs.YtfilidfomgfnhaaGreat
open Go Go.Kx Go.RowKit
theorem M6 {m n:Int} {L:Nat} (hm:m.natAbs<4294967296 ^ L) (hn:n.natAbs<4294967296 ^ L):(m*n).natAbs<4294967296 ^ (2*L):=by
 rw [Int.natAbs_mul,show 2*L=L+L by omega,Nat.pow_add]
 exact Nat.mul_lt_mul'' hm hn
theorem sum_lt {m n:Int} {L:Nat} (hm:m.natAbs<4294967296 ^ L) (hn:n.natAbs<4294967296 ^ L):(m+n).natAbs<4294967296 ^ (L+1):=by
 have:=Int.natAbs_add_le m n
 rw [Nat.pow_succ];omega
theorem dif_lt {m n:Int} {L:Nat} (hm:m.natAbs<4294967296 ^ L) (hn:n.natAbs<4294967296 ^ L):(m-n).natAbs<4294967296 ^ (L+1):=by
 have:=Int.natAbs_sub_le m n
 rw [Nat.pow_succ];omega
theorem AY5 {m:Int} {L M:Nat} (h:m.natAbs<4294967296 ^ L) (hl:L≤M):m.natAbs<4294967296 ^ M:=Nat.lt_of_lt_of_le h (Nat.pow_le_pow_right (by omega) hl)
theorem E_op1:Ent Tryz.prog 238:=A0 Tryz.func238 (by kernel_rfl) rfl
theorem op1_c {S:Nat→Prop} {w:World} {u1 u2 u3 u4:Value} {m1 m2 m3 m4:Int} {L:Nat} (hL2:L≤100000000000) (up:Up S w) (h1:Zv S m1 L u1 w) (h2:Zv S m2 L u2 w) (h3:Zv S m3 L u3 w) (h4:Zv S m4 L u4 w) :
  CR Tryz.prog 238 #[u1,u2,u3,u4] w (Two (Zv S (m1*m4+m3*m2) (2*L+1)) (Zv S (m2*m4) (2*L+1))):=by
 have l1:=h1.lt
 have l2:=h2.lt
 have l3:=h3.lt
 have l4:=h4.lt
 obtain ⟨z1,h1,rfl,hl1⟩:=h1
 obtain ⟨z2,h2,rfl,hl2⟩:=h2
 obtain ⟨z3,h3,rfl,hl3⟩:=h3
 obtain ⟨z4,h4,rfl,hl4⟩:=h4
 have hv1:=shpA rfl h1
 have hv2:=shpA rfl h2
 have hv3:=shpA rfl h3
 have hv4:=shpA rfl h4
 refine enter Tryz.func238 rfl Tryz.ntmps238 rfl ?_
 refine .seq (.region (.box rfl rfl fun w1 b4 n1=>.box rfl rfl fun w2 b5 n2=>.box rfl rfl fun w3 b6 n3=>.box rfl rfl fun w4 b7 n4=>.alloc rfl B4 fun w5 b8 n5=>.alloc rfl B4 fun w6 b9 n6=>.nil ?_))
 obtain ⟨e1,k4,hb4,hs1⟩:=n1
 obtain ⟨e2,k5,hb5,hs2⟩:=n2
 obtain ⟨e3,k6,hb6,hs3⟩:=n3
 obtain ⟨e4,k7,hb7,hs4⟩:=n4
 obtain ⟨e5,k8,hb8,hs5⟩:=n5
 obtain ⟨e6,k9,hb9,hs6⟩:=n6
 have e56:=e5.trans e6
 have e46:=e4.trans e56
 have e36:=e3.trans e46
 have e26:=e2.trans e36
 have x6:=e1.trans e26
 have k4:=k4.ext e26
 have k5:=k5.ext e36
 have k6:=k6.ext e46
 have k7:=k7.ext e56
 have k8:=k8.ext e6
 have hS8:¬ Sx S w.heap.size w6.heap.size b8:=Sx.no (by omega) (by omega)
 have hS9:¬ Sx S w.heap.size w6.heap.size b9:=Sx.no (by omega) (by omega)
 have up6:Up (Sx S w.heap.size w6.heap.size) w6:=Sx.up up (Nat.le_refl _) x6.size
 have h1:=(h1.par w6.heap.size).ext x6
 have h2:=(h2.par w6.heap.size).ext x6
 have h3:=(h3.par w6.heap.size).ext x6
 have h4:=(h4.par w6.heap.size).ext x6
 have hout:∀ {W:World} {v:Value} {n:Int},(eZn (2*L+1)).R (Sx S w.heap.size w6.heap.size) W v n→Zv S n (2*L+1) v W:=fun h=>Zv.out h
 have hn89:b9≠b8:=by omega
 have hw8:w.heap.size≤b8:=by omega
 have hw9:w.heap.size≤b9:=by omega
 generalize hT:Sx S w.heap.size w6.heap.size=T at *
 refine .seq ?_
 refine .par follows 9 [.inl u1,.inl u4,.inr (eZ.at T (zc (zval z1*zval z4))),.inl u3,.inl u2,.inr (eZ.at T (zc (zval z3*zval z2))),.inr (eZ.at T (zc (zval z1*zval z4+zval z3*zval z2))),.inl u2,.inl u4] [[],[],[(10,0),(11,1)],[],[],[(13,3),(14,4)],[(12,2),(15,5)],[],[]] (by kernel_rfl) ⟨
  fun w e=>((B3 ty_Z rfl (k4.ext e) (eZ.csz h1)).eq hv1.symm).ob,
  fun w e=>((B3 ty_Z rfl (k7.ext e) (eZ.csz h4)).eq hv4.symm).ob,
  fun w e=>(A1 _ F2 rfl (E9 (up6.ext e.size) (h1.ext e) (h4.ext e) (by omega) (by omega))).ob (A6 _ _ _),
  fun w e=>((B3 ty_Z rfl (k6.ext e) (eZ.csz h3)).eq hv3.symm).ob,
  fun w e=>((B3 ty_Z rfl (k5.ext e) (eZ.csz h2)).eq hv2.symm).ob,
  fun w e=>(A1 _ F2 rfl (E9 (up6.ext e.size) (h3.ext e) (h2.ext e) (by omega) (by omega))).ob (A6 _ _ _),
  fun w e x2 hx2 x5 hx5=>(A1 _ Ai0 rfl (by
   have:=Ae1 (up6.ext e.size) hx2 hx5 (Nat.le_trans (L6 (M6 l1 l4)) (by omega)) (Nat.le_trans (L6 (M6 l3 l2)) (by omega))
   rw [E6,E6] at this
   exact this)).ob (A6 _ _ _),
  fun w e=>((B3 ty_Z rfl (k5.ext e) (eZ.csz h2)).eq hv2.symm).ob,
  fun w e=>((B3 ty_Z rfl (k7.ext e) (eZ.csz h4)).eq hv4.symm).ob,trivial⟩ ?_
 intro w7 e7 x2 hx2 x5 hx5 x6' hx6
 refine .call _ rfl F2 rfl (E9 (up6.ext e7.size) (h2.ext e7) (h4.ext e7) (by omega) (by omega)) fun v8 w8 e8 h8=>?_
 have e78:=e7.trans e8
 have hA:(eZn (2*L+1)).R T w8 x6' (zval z1*zval z4+zval z3*zval z2):=Zv.of (hx6.ext e8) (sum_lt (M6 l1 l4) (M6 l3 l2))
 have hB:(eZn (2*L+1)).R T w8 v8 (zval z2*zval z4):=Zv.of h8 (AY5 (M6 l2 l4) (by omega))
 refine .storeA (E:=eZn (2*L+1)) ty_Z rfl rfl (k8.ext e78) rfl rfl hA hS8 fun w9 k8' u9 h9=>?_
 refine .storeA (E:=eZn (2*L+1)) ty_Z rfl rfl ((k9.ext e78).upd u9 hn89) rfl rfl (hB.upd u9 hS8) hS9 fun w10 k10 u10 h10=>.nil (.ret ?_)
 exact .plain [_,_] Tryz.results238 ⟨⟨_,rfl,C6 (E:=eZn (2*L+1)) ty_Z rfl rfl (k8'.upd u10 (Ne.symm hn89)) (h9.upd u10 hS9)⟩,⟨_,rfl,C6 (E:=eZn (2*L+1)) ty_Z rfl rfl k10 h10⟩,trivial⟩ ⟨u10.below (u9.below (x6.trans e78) hw8) hw9,_,_,rfl,hout (h9.upd u10 hS9),hout h10⟩
theorem E_op3:Ent Tryz.prog 242:=A0 Tryz.func242 (by kernel_rfl) rfl
theorem op3_c {S:Nat→Prop} {w:World} {u1 u2 u3 u4:Value} {m1 m2 m3 m4:Int} {L:Nat} (hL2:L≤100000000000) (up:Up S w) (h1:Zv S m1 L u1 w) (h2:Zv S m2 L u2 w) (h3:Zv S m3 L u3 w) (h4:Zv S m4 L u4 w) :
  CR Tryz.prog 242 #[u1,u2,u3,u4] w (Two (Zv S (m1*m3) (2*L+1)) (Zv S (m2*m4) (2*L+1))):=by
 have l1:=h1.lt
 have l2:=h2.lt
 have l3:=h3.lt
 have l4:=h4.lt
 obtain ⟨z1,h1,rfl,hl1⟩:=h1
 obtain ⟨z2,h2,rfl,hl2⟩:=h2
 obtain ⟨z3,h3,rfl,hl3⟩:=h3
 obtain ⟨z4,h4,rfl,hl4⟩:=h4
 have hv1:=shpA rfl h1
 have hv2:=shpA rfl h2
 have hv3:=shpA rfl h3
 have hv4:=shpA rfl h4
 refine enter Tryz.func242 rfl Tryz.ntmps242 rfl ?_
 refine .seq (.region (.box rfl rfl fun w1 b4 n1=>.box rfl rfl fun w2 b5 n2=>.box rfl rfl fun w3 b6 n3=>.box rfl rfl fun w4 b7 n4=>.alloc rfl B4 fun w5 b8 n5=>.alloc rfl B4 fun w6 b9 n6=>.nil ?_))
 obtain ⟨e1,k4,hb4,hs1⟩:=n1
 obtain ⟨e2,k5,hb5,hs2⟩:=n2
 obtain ⟨e3,k6,hb6,hs3⟩:=n3
 obtain ⟨e4,k7,hb7,hs4⟩:=n4
 obtain ⟨e5,k8,hb8,hs5⟩:=n5
 obtain ⟨e6,k9,hb9,hs6⟩:=n6
 have e56:=e5.trans e6
 have e46:=e4.trans e56
 have e36:=e3.trans e46
 have e26:=e2.trans e36
 have x6:=e1.trans e26
 have k4:=k4.ext e26
 have k5:=k5.ext e36
 have k6:=k6.ext e46
 have k7:=k7.ext e56
 have k8:=k8.ext e6
 have hS8:¬ Sx S w.heap.size w6.heap.size b8:=Sx.no (by omega) (by omega)
 have hS9:¬ Sx S w.heap.size w6.heap.size b9:=Sx.no (by omega) (by omega)
 have up6:Up (Sx S w.heap.size w6.heap.size) w6:=Sx.up up (Nat.le_refl _) x6.size
 have h1:=(h1.par w6.heap.size).ext x6
 have h2:=(h2.par w6.heap.size).ext x6
 have h3:=(h3.par w6.heap.size).ext x6
 have h4:=(h4.par w6.heap.size).ext x6
 have hout:∀ {W:World} {v:Value} {n:Int},(eZn (2*L+1)).R (Sx S w.heap.size w6.heap.size) W v n→Zv S n (2*L+1) v W:=fun h=>Zv.out h
 have hn89:b9≠b8:=by omega
 have hw8:w.heap.size≤b8:=by omega
 have hw9:w.heap.size≤b9:=by omega
 generalize hT:Sx S w.heap.size w6.heap.size=T at *
 refine .seq ?_
 refine .par follows 5 [.inl u1,.inl u3,.inr (eZ.at T (zc (zval z1*zval z3))),.inl u2,.inl u4] [[],[],[(10,0),(11,1)],[],[]] (by kernel_rfl) ⟨
  fun w e=>((B3 ty_Z rfl (k4.ext e) (eZ.csz h1)).eq hv1.symm).ob,
  fun w e=>((B3 ty_Z rfl (k6.ext e) (eZ.csz h3)).eq hv3.symm).ob,
  fun w e=>(A1 _ F2 rfl (E9 (up6.ext e.size) (h1.ext e) (h3.ext e) (by omega) (by omega))).ob (A6 _ _ _),
  fun w e=>((B3 ty_Z rfl (k5.ext e) (eZ.csz h2)).eq hv2.symm).ob,
  fun w e=>((B3 ty_Z rfl (k7.ext e) (eZ.csz h4)).eq hv4.symm).ob,trivial⟩ ?_
 intro w7 e7 x2 hx2
 refine .call _ rfl F2 rfl (E9 (up6.ext e7.size) (h2.ext e7) (h4.ext e7) (by omega) (by omega)) fun v8 w8 e8 h8=>?_
 have e78:=e7.trans e8
 have hA:(eZn (2*L+1)).R T w8 x2 (zval z1*zval z3):=Zv.of (hx2.ext e8) (AY5 (M6 l1 l3) (by omega))
 have hB:(eZn (2*L+1)).R T w8 v8 (zval z2*zval z4):=Zv.of h8 (AY5 (M6 l2 l4) (by omega))
 refine .storeA (E:=eZn (2*L+1)) ty_Z rfl rfl (k8.ext e78) rfl rfl hA hS8 fun w9 k8' u9 h9=>?_
 refine .storeA (E:=eZn (2*L+1)) ty_Z rfl rfl ((k9.ext e78).upd u9 hn89) rfl rfl (hB.upd u9 hS8) hS9 fun w10 k10 u10 h10=>.nil (.ret ?_)
 exact .plain [_,_] Tryz.results242 ⟨⟨_,rfl,C6 (E:=eZn (2*L+1)) ty_Z rfl rfl (k8'.upd u10 (Ne.symm hn89)) (h9.upd u10 hS9)⟩,⟨_,rfl,C6 (E:=eZn (2*L+1)) ty_Z rfl rfl k10 h10⟩,trivial⟩ ⟨u10.below (u9.below (x6.trans e78) hw8) hw9,_,_,rfl,hout (h9.upd u10 hS9),hout h10⟩
theorem P9 {q:QV} (h:shortB q=true) : -2147483648<pn q∧pn q<2147483648∧0<pd q∧pd q<2147483648:=by
 simp only [shortB,decide_eq_true_eq] at h
 have:=N7 q
 unfold pn pd at *
 refine ⟨?_,?_,?_,?_⟩<;>split<;>(try split)<;>omega
theorem M4 {x y:Int} (h1 : -2147483648<x) (h2:x<2147483648) (h3 : -2147483648<y) (h4:y<2147483648) : -4611686014132420609≤x*y∧x*y≤4611686014132420609:=by
 have h:(x*y).natAbs≤2147483647*2147483647:=by
  rw [Int.natAbs_mul]
  exact Nat.mul_le_mul (by omega) (by omega)
 omega
theorem AA0:Ent Tryz.prog 51:=A0 Tryz.func51 (by kernel_rfl) rfl
theorem AU6 {S T0:Nat→Prop} {w:World} {va vb:Value} {a b:QV} {L:Nat} (up:Up S w) (upo:Up T0 w) (ha:eQ.R S w va a) (hb:eQ.R S w vb b) (hla:qok L a) (hlb:qok L b) (hL:1≤L) (hL2:L≤100000000000) :
  CR Tryz.prog 51 #[va,vb] w (eQ.at T0 (qc (qval a+qval b))):=by
 have hva:=shpA rfl ha
 have hvb:=shpA rfl hb
 have hpa:=N7 a
 have hpb:=N7 b
 have hpp:0<pd a*pd b:=Int.mul_pos hpa hpb
 have hval:qval a+qval b=Rat.divInt (pn a*pd b+pn b*pd a) (pd a*pd b):=by
  unfold qval
  rw [Rat.divInt_add_divInt _ _ (by omega) (by omega)]
 rw [hval]
 refine enter Tryz.func51 rfl Tryz.ntmps51 rfl ?_
 refine .seq (.region (.box rfl rfl fun w1 b2 n1=>.box rfl rfl fun w2 b3 n2=>.alloc rfl D2 fun w3 b4 n3=>.nil ?_))
 obtain ⟨e1,k2,hb2,hs1⟩:=n1
 obtain ⟨e2,k3,hb3,hs2⟩:=n2
 obtain ⟨e3,k4,hb4,hs3⟩:=n3
 have x3:=(e1.trans e2).trans e3
 have k2:=(k2.ext e2).ext e3
 have k3:=k3.ext e3
 have hU4:¬ Sx T0 w.heap.size w3.heap.size b4:=Sx.no (by omega) (by omega)
 have upo3:Up (Sx T0 w.heap.size w3.heap.size) w3:=Sx.up upo (Nat.le_refl _) x3.size
 have up3:Up (Sx S w.heap.size w3.heap.size) w3:=Sx.up up (Nat.le_refl _) x3.size
 have ha3:=(ha.par w3.heap.size).ext x3
 have hb3':=(hb.par w3.heap.size).ext x3
 have hout:∀ {W:World} {v:Value} {z:QV},eQ.R (Sx T0 w.heap.size w3.heap.size) W v z→eQ.R T0 W v z:=fun h=>h.out
 have hw4:w.heap.size≤b4:=by omega
 generalize hT:Sx S w.heap.size w3.heap.size=T at *
 generalize hU:Sx T0 w.heap.size w3.heap.size=U at *
 refine .seq (.region (.ldA ty_Q rfl rfl k2 (eQ.csz ha) ?_))
 rw [←hva]
 refine .call _ rfl C9 rfl (C8 ha3) fun v4 w4 e4 h4=>?_
 subst h4
 have k2:=k2.ext e4
 have k3:=k3.ext e4
 have k4:=k4.ext e4
 have ha4:=ha3.ext e4
 have hb4':=hb3'.ext e4
 have up4:=up3.ext e4.size
 have upo4:=upo3.ext e4.size
 have x4:=x3.trans e4
 have slow:∀ {W:World},Ext w4 W→CR Tryz.prog 119 #[.int .u8 43,va,vb] W (eQ.at U (qc (Rat.divInt (pn a*pd b+pn b*pd a) (pd a*pd b)))):=fun e =>
  K0 (up4.ext e.size) (upo4.ext e.size) (ha4.ext e) (hb4'.ext e) hla hlb hL hL2 E_op1 rfl (fun u h1 h2 h3 h4=>op1_c hL2 u h1 h2 h3 h4) (by omega)
 unfold shortV
 cases hsa:shortB a with
 | false =>
  refine .mv rfl rfl (.ext rfl rfl rfl (.ext rfl rfl rfl (.ext rfl rfl rfl (.asg rfl rfl (.asg rfl rfl (.asg rfl rfl (.nil ?_)))))))
  refine .seq (.region (.ldA ty_Q rfl rfl k3 (eQ.csz hb) ?_))
  rw [←hvb]
  refine .call _ rfl C9 rfl (C8 hb4') fun v5 w5 e5 h5=>?_
  subst h5
  obtain ⟨y1,y2,y3,hy⟩:∃ y1 y2 y3,shortV b=.tuple #[y1,y2,y3]:=by unfold shortV;split<;>exact ⟨_,_,_,rfl⟩
  rw [hy]
  refine .mv rfl rfl (.ext rfl rfl rfl (.ext rfl rfl rfl (.ext rfl rfl rfl (.asg rfl rfl (.asg rfl rfl (.asg rfl rfl (.nil ?_)))))))
  refine .seq (.seq (.region (.mv rfl rfl (.mv rfl rfl (.gs rfl rfl rfl rfl rfl (.pick rfl rfl rfl (.nil (.condF rfl (.skip ?_)))))))))
  refine .seq (.region (.ldA ty_Q rfl rfl (k2.ext e5) (eQ.csz ha) (.ldA ty_Q rfl rfl (k3.ext e5) (eQ.csz hb) ?_)))
  rw [←hva,←hvb]
  refine .call _ rfl D4 rfl (slow e5) fun v6 w6 e6 h6=>?_
  refine .storeA (E:=eQ) ty_Q rfl rfl ((k4.ext e5).ext e6) rfl rfl h6 hU4 fun w7 k7 u7 h7=>.nil (.ret ?_)
  exact .cell Tryz.results51 rfl ty_Q rfl rfl k7 h7 ⟨u7.below ((x4.trans e5).trans e6) hw4,hout h7⟩
 | true =>
  refine .mv rfl rfl (.ext rfl rfl rfl (.ext rfl rfl rfl (.ext rfl rfl rfl (.asg rfl rfl (.asg rfl rfl (.asg rfl rfl (.nil ?_)))))))
  refine .seq (.region (.ldA ty_Q rfl rfl k3 (eQ.csz hb) ?_))
  rw [←hvb]
  refine .call _ rfl C9 rfl (C8 hb4') fun v5 w5 e5 h5=>?_
  subst h5
  unfold shortV
  cases hsb:shortB b with
  | false =>
   refine .mv rfl rfl (.ext rfl rfl rfl (.ext rfl rfl rfl (.ext rfl rfl rfl (.asg rfl rfl (.asg rfl rfl (.asg rfl rfl (.nil ?_)))))))
   refine .seq (.seq (.region (.mv rfl rfl (.mv rfl rfl (.gr rfl rfl rfl rfl (.mv rfl rfl (.pick rfl rfl rfl (.nil (.condF rfl (.skip ?_))))))))))
   refine .seq (.region (.ldA ty_Q rfl rfl (k2.ext e5) (eQ.csz ha) (.ldA ty_Q rfl rfl (k3.ext e5) (eQ.csz hb) ?_)))
   rw [←hva,←hvb]
   refine .call _ rfl D4 rfl (slow e5) fun v6 w6 e6 h6=>?_
   refine .storeA (E:=eQ) ty_Q rfl rfl ((k4.ext e5).ext e6) rfl rfl h6 hU4 fun w7 k7 u7 h7=>.nil (.ret ?_)
   exact .cell Tryz.results51 rfl ty_Q rfl rfl k7 h7 ⟨u7.below ((x4.trans e5).trans e6) hw4,hout h7⟩
  | true =>
   have ba:=P9 hsa
   have bb:=P9 hsb
   refine .mv rfl rfl (.ext rfl rfl rfl (.ext rfl rfl rfl (.ext rfl rfl rfl (.asg rfl rfl (.asg rfl rfl (.asg rfl rfl (.nil ?_)))))))
   refine .seq (.seq (.region (.mv rfl rfl (.mv rfl rfl (.gr rfl rfl rfl rfl (.mv rfl rfl (.pick rfl rfl rfl (.nil (.condT rfl (.seq (.region ?_)))))))))))
   generalize pn a=an at *
   generalize pn b=bn at *
   generalize pd a=ad at *
   generalize pd b=bd at *
   have m1:=M4 (x:=an) (y:=bd) (by omega) (by omega) (by omega) (by omega)
   have m2:=M4 (x:=bn) (y:=ad) (by omega) (by omega) (by omega) (by omega)
   have m3:=M4 (x:=ad) (y:=bd) (by omega) (by omega) (by omega) (by omega)
   have m4:=M4 (x:=an) (y:=bn) (by omega) (by omega) (by omega) (by omega)
   refine .mv rfl rfl (.mv rfl rfl (.mul rfl rfl rfl (.mv rfl rfl (.mv rfl rfl (.mul rfl rfl rfl (.add rfl rfl rfl (.mv rfl rfl (.mv rfl rfl (.mul rfl rfl rfl ?_)))))))))
   rw [wI (n:=an*bd) (by omega),wI (n:=bn*ad) (by omega),wI (n:=ad*bd) (by omega),wI (n:=an*bd+bn*ad) (by omega)]
   refine .call _ rfl K2 rfl (J9 (upo4.ext e5.size) hpp (by omega) (by omega) (by omega)) fun v6 w6 e6 h6=>?_
   refine .storeA (E:=eQ) ty_Q rfl rfl ((k4.ext e5).ext e6) rfl rfl h6 hU4 fun w7 k7 u7 h7=>.nil (.ret ?_)
   exact .cell Tryz.results51 rfl ty_Q rfl rfl k7 h7 ⟨u7.below ((x4.trans e5).trans e6) hw4,hout h7⟩
theorem AH0 {S:Nat→Prop} {w:World} {va vb:Value} {a b:QV} {L:Nat} (up:Up S w) (ha:eQ.R S w va a) (hb:eQ.R S w vb b) (hla:qok L a) (hlb:qok L b) (hL:1≤L) (hL2:L≤100000000000) :
  CR Tryz.prog 51 #[va,vb] w (eQ.at S (qc (qval a+qval b))):=AU6 up up ha hb hla hlb hL hL2
theorem AH7:Ent Tryz.prog 63:=A0 Tryz.func63 (by kernel_rfl) rfl
theorem Am0 {S T0:Nat→Prop} {w:World} {va vb:Value} {a b:QV} {L:Nat} (up:Up S w) (upo:Up T0 w) (ha:eQ.R S w va a) (hb:eQ.R S w vb b) (hla:qok L a) (hlb:qok L b) (hL:1≤L) (hL2:L≤100000000000) :
  CR Tryz.prog 63 #[va,vb] w (eQ.at T0 (qc (qval a*qval b))):=by
 have hva:=shpA rfl ha
 have hvb:=shpA rfl hb
 have hpa:=N7 a
 have hpb:=N7 b
 have hpp:0<pd a*pd b:=Int.mul_pos hpa hpb
 have hval:qval a*qval b=Rat.divInt (pn a*pn b) (pd a*pd b):=by
  unfold qval
  rw [Rat.divInt_mul_divInt]
 rw [hval]
 refine enter Tryz.func63 rfl Tryz.ntmps63 rfl ?_
 refine .seq (.region (.box rfl rfl fun w1 b2 n1=>.box rfl rfl fun w2 b3 n2=>.alloc rfl D2 fun w3 b4 n3=>.nil ?_))
 obtain ⟨e1,k2,hb2,hs1⟩:=n1
 obtain ⟨e2,k3,hb3,hs2⟩:=n2
 obtain ⟨e3,k4,hb4,hs3⟩:=n3
 have x3:=(e1.trans e2).trans e3
 have k2:=(k2.ext e2).ext e3
 have k3:=k3.ext e3
 have hU4:¬ Sx T0 w.heap.size w3.heap.size b4:=Sx.no (by omega) (by omega)
 have upo3:Up (Sx T0 w.heap.size w3.heap.size) w3:=Sx.up upo (Nat.le_refl _) x3.size
 have up3:Up (Sx S w.heap.size w3.heap.size) w3:=Sx.up up (Nat.le_refl _) x3.size
 have ha3:=(ha.par w3.heap.size).ext x3
 have hb3':=(hb.par w3.heap.size).ext x3
 have hout:∀ {W:World} {v:Value} {z:QV},eQ.R (Sx T0 w.heap.size w3.heap.size) W v z→eQ.R T0 W v z:=fun h=>h.out
 have hw4:w.heap.size≤b4:=by omega
 generalize hT:Sx S w.heap.size w3.heap.size=T at *
 generalize hU:Sx T0 w.heap.size w3.heap.size=U at *
 refine .seq (.region (.ldA ty_Q rfl rfl k2 (eQ.csz ha) ?_))
 rw [←hva]
 refine .call _ rfl C9 rfl (C8 ha3) fun v4 w4 e4 h4=>?_
 subst h4
 have k2:=k2.ext e4
 have k3:=k3.ext e4
 have k4:=k4.ext e4
 have ha4:=ha3.ext e4
 have hb4':=hb3'.ext e4
 have up4:=up3.ext e4.size
 have upo4:=upo3.ext e4.size
 have x4:=x3.trans e4
 have slow:∀ {W:World},Ext w4 W→CR Tryz.prog 119 #[.int .u8 42,va,vb] W (eQ.at U (qc (Rat.divInt (pn a*pn b) (pd a*pd b)))):=fun e =>
  K0 (up4.ext e.size) (upo4.ext e.size) (ha4.ext e) (hb4'.ext e) hla hlb hL hL2 E_op3 rfl (fun u h1 h2 h3 h4=>op3_c hL2 u h1 h2 h3 h4) (by omega)
 unfold shortV
 cases hsa:shortB a with
 | false =>
  refine .mv rfl rfl (.ext rfl rfl rfl (.ext rfl rfl rfl (.ext rfl rfl rfl (.asg rfl rfl (.asg rfl rfl (.asg rfl rfl (.nil ?_)))))))
  refine .seq (.region (.ldA ty_Q rfl rfl k3 (eQ.csz hb) ?_))
  rw [←hvb]
  refine .call _ rfl C9 rfl (C8 hb4') fun v5 w5 e5 h5=>?_
  subst h5
  obtain ⟨y1,y2,y3,hy⟩:∃ y1 y2 y3,shortV b=.tuple #[y1,y2,y3]:=by unfold shortV;split<;>exact ⟨_,_,_,rfl⟩
  rw [hy]
  refine .mv rfl rfl (.ext rfl rfl rfl (.ext rfl rfl rfl (.ext rfl rfl rfl (.asg rfl rfl (.asg rfl rfl (.asg rfl rfl (.nil ?_)))))))
  refine .seq (.seq (.region (.mv rfl rfl (.mv rfl rfl (.gs rfl rfl rfl rfl rfl (.pick rfl rfl rfl (.nil (.condF rfl (.skip ?_)))))))))
  refine .seq (.region (.ldA ty_Q rfl rfl (k2.ext e5) (eQ.csz ha) (.ldA ty_Q rfl rfl (k3.ext e5) (eQ.csz hb) ?_)))
  rw [←hva,←hvb]
  refine .call _ rfl D4 rfl (slow e5) fun v6 w6 e6 h6=>?_
  refine .storeA (E:=eQ) ty_Q rfl rfl ((k4.ext e5).ext e6) rfl rfl h6 hU4 fun w7 k7 u7 h7=>.nil (.ret ?_)
  exact .cell Tryz.results63 rfl ty_Q rfl rfl k7 h7 ⟨u7.below ((x4.trans e5).trans e6) hw4,hout h7⟩
 | true =>
  refine .mv rfl rfl (.ext rfl rfl rfl (.ext rfl rfl rfl (.ext rfl rfl rfl (.asg rfl rfl (.asg rfl rfl (.asg rfl rfl (.nil ?_)))))))
  refine .seq (.region (.ldA ty_Q rfl rfl k3 (eQ.csz hb) ?_))
  rw [←hvb]
  refine .call _ rfl C9 rfl (C8 hb4') fun v5 w5 e5 h5=>?_
  subst h5
  unfold shortV
  cases hsb:shortB b with
  | false =>
   refine .mv rfl rfl (.ext rfl rfl rfl (.ext rfl rfl rfl (.ext rfl rfl rfl (.asg rfl rfl (.asg rfl rfl (.asg rfl rfl (.nil ?_)))))))
   refine .seq (.seq (.region (.mv rfl rfl (.mv rfl rfl (.gr rfl rfl rfl rfl (.mv rfl rfl (.pick rfl rfl rfl (.nil (.condF rfl (.skip ?_))))))))))
   refine .seq (.region (.ldA ty_Q rfl rfl (k2.ext e5) (eQ.csz ha) (.ldA ty_Q rfl rfl (k3.ext e5) (eQ.csz hb) ?_)))
   rw [←hva,←hvb]
   refine .call _ rfl D4 rfl (slow e5) fun v6 w6 e6 h6=>?_
   refine .storeA (E:=eQ) ty_Q rfl rfl ((k4.ext e5).ext e6) rfl rfl h6 hU4 fun w7 k7 u7 h7=>.nil (.ret ?_)
   exact .cell Tryz.results63 rfl ty_Q rfl rfl k7 h7 ⟨u7.below ((x4.trans e5).trans e6) hw4,hout h7⟩
  | true =>
   have ba:=P9 hsa
   have bb:=P9 hsb
   refine .mv rfl rfl (.ext rfl rfl rfl (.ext rfl rfl rfl (.ext rfl rfl rfl (.asg rfl rfl (.asg rfl rfl (.asg rfl rfl (.nil ?_)))))))
   refine .seq (.seq (.region (.mv rfl rfl (.mv rfl rfl (.gr rfl rfl rfl rfl (.mv rfl rfl (.pick rfl rfl rfl (.nil (.condT rfl (.seq (.region ?_)))))))))))
   generalize pn a=an at *
   generalize pn b=bn at *
   generalize pd a=ad at *
   generalize pd b=bd at *
   have m1:=M4 (x:=an) (y:=bd) (by omega) (by omega) (by omega) (by omega)
   have m2:=M4 (x:=bn) (y:=ad) (by omega) (by omega) (by omega) (by omega)
   have m3:=M4 (x:=ad) (y:=bd) (by omega) (by omega) (by omega) (by omega)
   have m4:=M4 (x:=an) (y:=bn) (by omega) (by omega) (by omega) (by omega)
   refine .mv rfl rfl (.mv rfl rfl (.mul rfl rfl rfl (.mv rfl rfl (.mv rfl rfl (.mul rfl rfl rfl ?_)))))
   rw [wI (n:=an*bn) (by omega),wI (n:=ad*bd) (by omega)]
   refine .call _ rfl K2 rfl (J9 (upo4.ext e5.size) hpp (by omega) (by omega) (by omega)) fun v6 w6 e6 h6=>?_
   refine .storeA (E:=eQ) ty_Q rfl rfl ((k4.ext e5).ext e6) rfl rfl h6 hU4 fun w7 k7 u7 h7=>.nil (.ret ?_)
   exact .cell Tryz.results63 rfl ty_Q rfl rfl k7 h7 ⟨u7.below ((x4.trans e5).trans e6) hw4,hout h7⟩
theorem AG9 {S:Nat→Prop} {w:World} {va vb:Value} {a b:QV} {L:Nat} (up:Up S w) (ha:eQ.R S w va a) (hb:eQ.R S w vb b) (hla:qok L a) (hlb:qok L b) (hL:1≤L) (hL2:L≤100000000000) :
  CR Tryz.prog 63 #[va,vb] w (eQ.at S (qc (qval a*qval b))):=Am0 up up ha hb hla hlb hL hL2
theorem E_op2:Ent Tryz.prog 240:=A0 Tryz.func240 (by kernel_rfl) rfl
theorem op2_c {S:Nat→Prop} {w:World} {u1 u2 u3 u4:Value} {m1 m2 m3 m4:Int} {L:Nat} (hL2:L≤100000000000) (up:Up S w) (h1:Zv S m1 L u1 w) (h2:Zv S m2 L u2 w) (h3:Zv S m3 L u3 w) (h4:Zv S m4 L u4 w) :
  CR Tryz.prog 240 #[u1,u2,u3,u4] w (Two (Zv S (m1*m4-m3*m2) (2*L+1)) (Zv S (m2*m4) (2*L+1))):=by
 have l1:=h1.lt
 have l2:=h2.lt
 have l3:=h3.lt
 have l4:=h4.lt
 obtain ⟨z1,h1,rfl,hl1⟩:=h1
 obtain ⟨z2,h2,rfl,hl2⟩:=h2
 obtain ⟨z3,h3,rfl,hl3⟩:=h3
 obtain ⟨z4,h4,rfl,hl4⟩:=h4
 have hv1:=shpA rfl h1
 have hv2:=shpA rfl h2
 have hv3:=shpA rfl h3
 have hv4:=shpA rfl h4
 refine enter Tryz.func240 rfl Tryz.ntmps240 rfl ?_
 refine .seq (.region (.box rfl rfl fun w1 b4 n1=>.box rfl rfl fun w2 b5 n2=>.box rfl rfl fun w3 b6 n3=>.box rfl rfl fun w4 b7 n4=>.alloc rfl B4 fun w5 b8 n5=>.alloc rfl B4 fun w6 b9 n6=>.nil ?_))
 obtain ⟨e1,k4,hb4,hs1⟩:=n1
 obtain ⟨e2,k5,hb5,hs2⟩:=n2
 obtain ⟨e3,k6,hb6,hs3⟩:=n3
 obtain ⟨e4,k7,hb7,hs4⟩:=n4
 obtain ⟨e5,k8,hb8,hs5⟩:=n5
 obtain ⟨e6,k9,hb9,hs6⟩:=n6
 have e56:=e5.trans e6
 have e46:=e4.trans e56
 have e36:=e3.trans e46
 have e26:=e2.trans e36
 have x6:=e1.trans e26
 have k4:=k4.ext e26
 have k5:=k5.ext e36
 have k6:=k6.ext e46
 have k7:=k7.ext e56
 have k8:=k8.ext e6
 have hS8:¬ Sx S w.heap.size w6.heap.size b8:=Sx.no (by omega) (by omega)
 have hS9:¬ Sx S w.heap.size w6.heap.size b9:=Sx.no (by omega) (by omega)
 have up6:Up (Sx S w.heap.size w6.heap.size) w6:=Sx.up up (Nat.le_refl _) x6.size
 have h1:=(h1.par w6.heap.size).ext x6
 have h2:=(h2.par w6.heap.size).ext x6
 have h3:=(h3.par w6.heap.size).ext x6
 have h4:=(h4.par w6.heap.size).ext x6
 have hout:∀ {W:World} {v:Value} {n:Int},(eZn (2*L+1)).R (Sx S w.heap.size w6.heap.size) W v n→Zv S n (2*L+1) v W:=fun h=>Zv.out h
 have hn89:b9≠b8:=by omega
 have hw8:w.heap.size≤b8:=by omega
 have hw9:w.heap.size≤b9:=by omega
 generalize hT:Sx S w.heap.size w6.heap.size=T at *
 refine .seq ?_
 refine .par follows 9 [.inl u1,.inl u4,.inr (eZ.at T (zc (zval z1*zval z4))),.inl u3,.inl u2,.inr (eZ.at T (zc (zval z3*zval z2))),.inr (eZ.at T (zc (zval z1*zval z4-zval z3*zval z2))),.inl u2,.inl u4] [[],[],[(10,0),(11,1)],[],[],[(13,3),(14,4)],[(12,2),(15,5)],[],[]] (by kernel_rfl) ⟨
  fun w e=>((B3 ty_Z rfl (k4.ext e) (eZ.csz h1)).eq hv1.symm).ob,
  fun w e=>((B3 ty_Z rfl (k7.ext e) (eZ.csz h4)).eq hv4.symm).ob,
  fun w e=>(A1 _ F2 rfl (E9 (up6.ext e.size) (h1.ext e) (h4.ext e) (by omega) (by omega))).ob (A6 _ _ _),
  fun w e=>((B3 ty_Z rfl (k6.ext e) (eZ.csz h3)).eq hv3.symm).ob,
  fun w e=>((B3 ty_Z rfl (k5.ext e) (eZ.csz h2)).eq hv2.symm).ob,
  fun w e=>(A1 _ F2 rfl (E9 (up6.ext e.size) (h3.ext e) (h2.ext e) (by omega) (by omega))).ob (A6 _ _ _),
  fun w e x2 hx2 x5 hx5=>(A1 _ Ah8 rfl (by
   have:=Ad9 (up6.ext e.size) hx2 hx5 (Nat.le_trans (L6 (M6 l1 l4)) (by omega)) (Nat.le_trans (L6 (M6 l3 l2)) (by omega))
   rw [E6,E6] at this
   exact this)).ob (A6 _ _ _),
  fun w e=>((B3 ty_Z rfl (k5.ext e) (eZ.csz h2)).eq hv2.symm).ob,
  fun w e=>((B3 ty_Z rfl (k7.ext e) (eZ.csz h4)).eq hv4.symm).ob,trivial⟩ ?_
 intro w7 e7 x2 hx2 x5 hx5 x6' hx6
 refine .call _ rfl F2 rfl (E9 (up6.ext e7.size) (h2.ext e7) (h4.ext e7) (by omega) (by omega)) fun v8 w8 e8 h8=>?_
 have e78:=e7.trans e8
 have hA:(eZn (2*L+1)).R T w8 x6' (zval z1*zval z4-zval z3*zval z2):=Zv.of (hx6.ext e8) (dif_lt (M6 l1 l4) (M6 l3 l2))
 have hB:(eZn (2*L+1)).R T w8 v8 (zval z2*zval z4):=Zv.of h8 (AY5 (M6 l2 l4) (by omega))
 refine .storeA (E:=eZn (2*L+1)) ty_Z rfl rfl (k8.ext e78) rfl rfl hA hS8 fun w9 k8' u9 h9=>?_
 refine .storeA (E:=eZn (2*L+1)) ty_Z rfl rfl ((k9.ext e78).upd u9 hn89) rfl rfl (hB.upd u9 hS8) hS9 fun w10 k10 u10 h10=>.nil (.ret ?_)
 exact .plain [_,_] Tryz.results240 ⟨⟨_,rfl,C6 (E:=eZn (2*L+1)) ty_Z rfl rfl (k8'.upd u10 (Ne.symm hn89)) (h9.upd u10 hS9)⟩,⟨_,rfl,C6 (E:=eZn (2*L+1)) ty_Z rfl rfl k10 h10⟩,trivial⟩ ⟨u10.below (u9.below (x6.trans e78) hw8) hw9,_,_,rfl,hout (h9.upd u10 hS9),hout h10⟩
theorem Z9:Ent Tryz.prog 87:=A0 Tryz.func87 (by kernel_rfl) rfl
theorem Al7 {S T0:Nat→Prop} {w:World} {va vb:Value} {a b:QV} {L:Nat} (up:Up S w) (upo:Up T0 w) (ha:eQ.R S w va a) (hb:eQ.R S w vb b) (hla:qok L a) (hlb:qok L b) (hL:1≤L) (hL2:L≤100000000000) :
  CR Tryz.prog 87 #[va,vb] w (eQ.at T0 (qc (qval a-qval b))):=by
 have hva:=shpA rfl ha
 have hvb:=shpA rfl hb
 have hpa:=N7 a
 have hpb:=N7 b
 have hpp:0<pd a*pd b:=Int.mul_pos hpa hpb
 have hval:qval a-qval b=Rat.divInt (pn a*pd b-pn b*pd a) (pd a*pd b):=by
  unfold qval
  rw [Rat.divInt_sub_divInt _ _ (by omega) (by omega)]
 rw [hval]
 refine enter Tryz.func87 rfl Tryz.ntmps87 rfl ?_
 refine .seq (.region (.box rfl rfl fun w1 b2 n1=>.box rfl rfl fun w2 b3 n2=>.alloc rfl D2 fun w3 b4 n3=>.nil ?_))
 obtain ⟨e1,k2,hb2,hs1⟩:=n1
 obtain ⟨e2,k3,hb3,hs2⟩:=n2
 obtain ⟨e3,k4,hb4,hs3⟩:=n3
 have x3:=(e1.trans e2).trans e3
 have k2:=(k2.ext e2).ext e3
 have k3:=k3.ext e3
 have hU4:¬ Sx T0 w.heap.size w3.heap.size b4:=Sx.no (by omega) (by omega)
 have upo3:Up (Sx T0 w.heap.size w3.heap.size) w3:=Sx.up upo (Nat.le_refl _) x3.size
 have up3:Up (Sx S w.heap.size w3.heap.size) w3:=Sx.up up (Nat.le_refl _) x3.size
 have ha3:=(ha.par w3.heap.size).ext x3
 have hb3':=(hb.par w3.heap.size).ext x3
 have hout:∀ {W:World} {v:Value} {z:QV},eQ.R (Sx T0 w.heap.size w3.heap.size) W v z→eQ.R T0 W v z:=fun h=>h.out
 have hw4:w.heap.size≤b4:=by omega
 generalize hT:Sx S w.heap.size w3.heap.size=T at *
 generalize hU:Sx T0 w.heap.size w3.heap.size=U at *
 refine .seq (.region (.ldA ty_Q rfl rfl k2 (eQ.csz ha) ?_))
 rw [←hva]
 refine .call _ rfl C9 rfl (C8 ha3) fun v4 w4 e4 h4=>?_
 subst h4
 have k2:=k2.ext e4
 have k3:=k3.ext e4
 have k4:=k4.ext e4
 have ha4:=ha3.ext e4
 have hb4':=hb3'.ext e4
 have up4:=up3.ext e4.size
 have upo4:=upo3.ext e4.size
 have x4:=x3.trans e4
 have slow:∀ {W:World},Ext w4 W→CR Tryz.prog 119 #[.int .u8 45,va,vb] W (eQ.at U (qc (Rat.divInt (pn a*pd b-pn b*pd a) (pd a*pd b)))):=fun e =>
  K0 (up4.ext e.size) (upo4.ext e.size) (ha4.ext e) (hb4'.ext e) hla hlb hL hL2 E_op2 rfl (fun u h1 h2 h3 h4=>op2_c hL2 u h1 h2 h3 h4) (by omega)
 unfold shortV
 cases hsa:shortB a with
 | false =>
  refine .mv rfl rfl (.ext rfl rfl rfl (.ext rfl rfl rfl (.ext rfl rfl rfl (.asg rfl rfl (.asg rfl rfl (.asg rfl rfl (.nil ?_)))))))
  refine .seq (.region (.ldA ty_Q rfl rfl k3 (eQ.csz hb) ?_))
  rw [←hvb]
  refine .call _ rfl C9 rfl (C8 hb4') fun v5 w5 e5 h5=>?_
  subst h5
  obtain ⟨y1,y2,y3,hy⟩:∃ y1 y2 y3,shortV b=.tuple #[y1,y2,y3]:=by unfold shortV;split<;>exact ⟨_,_,_,rfl⟩
  rw [hy]
  refine .mv rfl rfl (.ext rfl rfl rfl (.ext rfl rfl rfl (.ext rfl rfl rfl (.asg rfl rfl (.asg rfl rfl (.asg rfl rfl (.nil ?_)))))))
  refine .seq (.seq (.region (.mv rfl rfl (.mv rfl rfl (.gs rfl rfl rfl rfl rfl (.pick rfl rfl rfl (.nil (.condF rfl (.skip ?_)))))))))
  refine .seq (.region (.ldA ty_Q rfl rfl (k2.ext e5) (eQ.csz ha) (.ldA ty_Q rfl rfl (k3.ext e5) (eQ.csz hb) ?_)))
  rw [←hva,←hvb]
  refine .call _ rfl D4 rfl (slow e5) fun v6 w6 e6 h6=>?_
  refine .storeA (E:=eQ) ty_Q rfl rfl ((k4.ext e5).ext e6) rfl rfl h6 hU4 fun w7 k7 u7 h7=>.nil (.ret ?_)
  exact .cell Tryz.results87 rfl ty_Q rfl rfl k7 h7 ⟨u7.below ((x4.trans e5).trans e6) hw4,hout h7⟩
 | true =>
  refine .mv rfl rfl (.ext rfl rfl rfl (.ext rfl rfl rfl (.ext rfl rfl rfl (.asg rfl rfl (.asg rfl rfl (.asg rfl rfl (.nil ?_)))))))
  refine .seq (.region (.ldA ty_Q rfl rfl k3 (eQ.csz hb) ?_))
  rw [←hvb]
  refine .call _ rfl C9 rfl (C8 hb4') fun v5 w5 e5 h5=>?_
  subst h5
  unfold shortV
  cases hsb:shortB b with
  | false =>
   refine .mv rfl rfl (.ext rfl rfl rfl (.ext rfl rfl rfl (.ext rfl rfl rfl (.asg rfl rfl (.asg rfl rfl (.asg rfl rfl (.nil ?_)))))))
   refine .seq (.seq (.region (.mv rfl rfl (.mv rfl rfl (.gr rfl rfl rfl rfl (.mv rfl rfl (.pick rfl rfl rfl (.nil (.condF rfl (.skip ?_))))))))))
   refine .seq (.region (.ldA ty_Q rfl rfl (k2.ext e5) (eQ.csz ha) (.ldA ty_Q rfl rfl (k3.ext e5) (eQ.csz hb) ?_)))
   rw [←hva,←hvb]
   refine .call _ rfl D4 rfl (slow e5) fun v6 w6 e6 h6=>?_
   refine .storeA (E:=eQ) ty_Q rfl rfl ((k4.ext e5).ext e6) rfl rfl h6 hU4 fun w7 k7 u7 h7=>.nil (.ret ?_)
   exact .cell Tryz.results87 rfl ty_Q rfl rfl k7 h7 ⟨u7.below ((x4.trans e5).trans e6) hw4,hout h7⟩
  | true =>
   have ba:=P9 hsa
   have bb:=P9 hsb
   refine .mv rfl rfl (.ext rfl rfl rfl (.ext rfl rfl rfl (.ext rfl rfl rfl (.asg rfl rfl (.asg rfl rfl (.asg rfl rfl (.nil ?_)))))))
   refine .seq (.seq (.region (.mv rfl rfl (.mv rfl rfl (.gr rfl rfl rfl rfl (.mv rfl rfl (.pick rfl rfl rfl (.nil (.condT rfl (.seq (.region ?_)))))))))))
   generalize pn a=an at *
   generalize pn b=bn at *
   generalize pd a=ad at *
   generalize pd b=bd at *
   have m1:=M4 (x:=an) (y:=bd) (by omega) (by omega) (by omega) (by omega)
   have m2:=M4 (x:=bn) (y:=ad) (by omega) (by omega) (by omega) (by omega)
   have m3:=M4 (x:=ad) (y:=bd) (by omega) (by omega) (by omega) (by omega)
   have m4:=M4 (x:=an) (y:=bn) (by omega) (by omega) (by omega) (by omega)
   refine .mv rfl rfl (.mv rfl rfl (.mul rfl rfl rfl (.mv rfl rfl (.mv rfl rfl (.mul rfl rfl rfl (.sub rfl rfl rfl (.mv rfl rfl (.mv rfl rfl (.mul rfl rfl rfl ?_)))))))))
   rw [wI (n:=an*bd) (by omega),wI (n:=bn*ad) (by omega),wI (n:=ad*bd) (by omega),wI (n:=an*bd-bn*ad) (by omega)]
   refine .call _ rfl K2 rfl (J9 (upo4.ext e5.size) hpp (by omega) (by omega) (by omega)) fun v6 w6 e6 h6=>?_
   refine .storeA (E:=eQ) ty_Q rfl rfl ((k4.ext e5).ext e6) rfl rfl h6 hU4 fun w7 k7 u7 h7=>.nil (.ret ?_)
   exact .cell Tryz.results87 rfl ty_Q rfl rfl k7 h7 ⟨u7.below ((x4.trans e5).trans e6) hw4,hout h7⟩
theorem Z0 {S:Nat→Prop} {w:World} {va vb:Value} {a b:QV} {L:Nat} (up:Up S w) (ha:eQ.R S w va a) (hb:eQ.R S w vb b) (hla:qok L a) (hlb:qok L b) (hL:1≤L) (hL2:L≤100000000000) :
  CR Tryz.prog 87 #[va,vb] w (eQ.at S (qc (qval a-qval b))):=Al7 up up ha hb hla hlb hL hL2
end Go.Proofs.YtfilidfomgfnhaaGreat

namespace Go.Proofs.YtfilidfomgfnhaaGreat
open Go Go.Kx Go.RowKit
theorem K3:Ent Tryz.prog 65:=A0 Tryz.func65 (by kernel_rfl) rfl
theorem K1 {S:Nat→Prop} {w:World} {n:Int} (up:Up S w) (h1 : -9223372036854775808≤n) (h2:n≤9223372036854775807):CR Tryz.prog 65 #[.int .i64 n] w (eQ.at S (qc (n:Rat))):=by
 refine enter Tryz.func65 rfl Tryz.ntmps65 rfl ?_
 refine .seq (.region (.alloc rfl D2 fun w1 b1 n1=>.nil ?_))
 obtain ⟨e1,k1,hb1,hs1⟩:=n1
 have hS:¬ Sx S w.heap.size w1.heap.size b1:=Sx.no (by omega) (by omega)
 have up1:Up (Sx S w.heap.size w1.heap.size) w1:=Sx.up up (Nat.le_refl _) e1.size
 refine .seq (.region (.mv rfl rfl ?_))
 refine .call _ rfl C5 rfl (C3 up1 h1 h2) fun v2 w2 e2 h2=>?_
 obtain ⟨s,rfl,hs⟩:=h2
 refine .bld _ rfl rfl An1 ?_
 have hq:eQ.R (Sx S w.heap.size w1.heap.size) w2 (.agg #[.bool (zc n).neg,s,.bool false,.slice none 0 0]) (qc (n:Rat)):=by
  rw [qc_int]
  exact ⟨s,_,rfl,hs,RL.nil⟩
 refine .storeA (E:=eQ) ty_Q rfl rfl (k1.ext e2) rfl rfl hq hS fun w3 k3 u3 h3=>.nil (.ret ?_)
 exact .cell Tryz.results65 rfl ty_Q rfl rfl k3 h3 ⟨u3.below (e1.trans e2) (by omega),h3.out⟩
theorem V9:Ent Tryz.prog 120:=A0 Tryz.func120 (by kernel_rfl) rfl
theorem AM2 {S T0:Nat→Prop} {w:World} {va:Value} {a:QV} {L:Nat} (up:Up S w) (upo:Up T0 w) (ha:eQ.R S w va a) (hla:qok L a) (hL:1≤L) (hL2:L≤1000000000000):CR Tryz.prog 120 #[va] w (eQ.at T0 (qc (qval a))):=by
 have hva:=shpA rfl ha
 have hpa:=N7 a
 refine enter Tryz.func120 rfl Tryz.ntmps120 rfl ?_
 refine .seq (.region (.box rfl rfl fun w1 b1 n1=>.alloc rfl D2 fun w2 b2 n2=>.nil ?_))
 obtain ⟨e1,k1,hb1,hs1⟩:=n1
 obtain ⟨e2,k2,hb2,hs2⟩:=n2
 have x2:=e1.trans e2
 have k1:=k1.ext e2
 have hS:¬ Sx T0 w.heap.size w2.heap.size b2:=Sx.no (by omega) (by omega)
 have upo2:Up (Sx T0 w.heap.size w2.heap.size) w2:=Sx.up upo (Nat.le_refl _) x2.size
 have up2:Up (Sx S w.heap.size w2.heap.size) w2:=Sx.up up (Nat.le_refl _) x2.size
 have ha2:=(ha.par w2.heap.size).ext x2
 have hout:∀ {W:World} {v:Value} {z:QV},eQ.R (Sx T0 w.heap.size w2.heap.size) W v z→eQ.R T0 W v z:=fun h=>h.out
 generalize hT:Sx S w.heap.size w2.heap.size=T at *
 generalize hU:Sx T0 w.heap.size w2.heap.size=U at *
 refine .seq (.seq (.region (.ldA ty_Q rfl rfl k1 (eQ.csz ha) ?_)))
 rw [←hva]
 refine .call _ rfl C9 rfl (C8 ha2) fun v3 w3 e3 h3=>?_
 subst h3
 unfold shortV
 cases hsa:shortB a with
 | true =>
  have ba:=P9 hsa
  refine .mv rfl rfl (.ext rfl rfl rfl (.ext rfl rfl rfl (.ext rfl rfl rfl (.asg rfl rfl (.asg rfl rfl (.asg rfl rfl (.nil ?_)))))))
  refine .seq (.region (.mv rfl rfl (.nil (.condT rfl (.seq (.region (.mv rfl rfl (.mv rfl rfl ?_))))))))
  refine .call _ rfl K2 rfl (J9 (upo2.ext e3.size) hpa (by omega) (by omega) (by omega)) fun v4 w4 e4 h4=>?_
  refine .storeA (E:=eQ) ty_Q rfl rfl ((k2.ext e3).ext e4) rfl rfl h4 hS fun w5 k5 u5 h5=>.nil (.ret ?_)
  exact .cell Tryz.results120 rfl ty_Q rfl rfl k5 h5 ⟨u5.below ((x2.trans e3).trans e4) (by omega),hout h5⟩
 | false =>
  refine .mv rfl rfl (.ext rfl rfl rfl (.ext rfl rfl rfl (.ext rfl rfl rfl (.asg rfl rfl (.asg rfl rfl (.asg rfl rfl (.nil ?_)))))))
  refine .seq (.region (.mv rfl rfl (.nil (.condF rfl (.skip ?_)))))
  refine .seq (.region (.ldA ty_Q rfl rfl (k1.ext e3) (eQ.csz ha) ?_))
  rw [←hva]
  refine .call _ rfl Z8 rfl (Y9 (up2.ext e3.size) (ha2.ext e3) hla hL hL2) fun v4 w4 e4 h4=>?_
  obtain ⟨u1,u2,rfl,h1,h2⟩:=h4
  refine .ext rfl rfl rfl (.ext rfl rfl rfl ?_)
  refine .call _ rfl U3 rfl (T6 ((up2.ext e3.size).ext e4.size) ((upo2.ext e3.size).ext e4.size) h1 h2 (by omega) hL2) fun v5 w5 e5 h5=>?_
  refine .storeA (E:=eQ) ty_Q rfl rfl (((k2.ext e3).ext e4).ext e5) rfl rfl h5 hS fun w6 k6 u6 h6=>.nil (.ret ?_)
  exact .cell Tryz.results120 rfl ty_Q rfl rfl k6 h6 ⟨u6.below (((x2.trans e3).trans e4).trans e5) (by omega),hout h6⟩
theorem V6 {S:Nat→Prop} {w:World} {va:Value} {a:QV} {L:Nat} (up:Up S w) (ha:eQ.R S w va a) (hla:qok L a) (hL:1≤L) (hL2:L≤1000000000000):CR Tryz.prog 120 #[va] w (eQ.at S (qc (qval a))):=AM2 up up ha hla hL hL2
theorem P7:Ent Tryz.prog 69:=A0 Tryz.func69 (by kernel_rfl) rfl
theorem P1 {S:Nat→Prop} {w:World} {va:Value} {a:QV} (ha:eQ.R S w va a):CR Tryz.prog 69 #[va] w (Is (.int .i64 (sgnR (qval a)))):=by
 rw [Ar4]
 obtain ⟨s,t,rfl,hn,hd⟩:=P3 ha
 refine enter Tryz.func69 rfl Tryz.ntmps69 rfl ?_
 refine .seq (.region (.box rfl rfl fun w1 b1 n1=>.asg rfl rfl (.nil ?_)))
 obtain ⟨e1,k1,hb1,hs1⟩:=n1
 refine .seq (.seq (.region (.fa Q7 rfl rfl (.ldN [.bool a.den.neg,t] ty_Z rfl rfl k1 (by intro j u hu;match j with | 0=>exact hu | 1=>exact hu | j+2=>simp at hu) ?_))))
 refine .call _ rfl N0 rfl (L7 (hd.ext e1)) fun v2 w2 e2 h2=>?_
 subst h2
 have x2:=e1.trans e2
 by_cases h0:zval a.den<0
 ·refine .lssT rfl rfl rfl (by rw [Int.sign_eq_neg_one_of_neg h0];decide) (.nil (.condT rfl (.seq (.region ?_))))
  refine .fa Q8 rfl rfl (.ldN [.bool a.num.neg,s] ty_Z rfl rfl (k1.ext e2) (by intro j u hu;match j with | 0=>exact hu | 1=>exact hu | j+2=>simp at hu) ?_)
  refine .call _ rfl N0 rfl (L7 (hn.ext x2)) fun v3 w3 e3 h3=>?_
  subst h3
  refine .neg rfl rfl (.asg rfl rfl (.nil (.ret ?_)))
  have hp:pn a = -zval a.num:=by unfold pn;rw [if_pos h0]
  refine .plain [_] Tryz.results69 ⟨rfl,trivial⟩ ⟨x2.trans e3,isI ?_⟩
  rw [hp,Int.sign_neg]
  have : -1≤(zval a.num).sign∧(zval a.num).sign≤1:=by
   rcases Int.lt_trichotomy (zval a.num) 0 with h | h | h
   ·rw [Int.sign_eq_neg_one_of_neg h];decide
   ·rw [h];decide
   ·rw [Int.sign_eq_one_of_pos h];decide
  rw [wI (by omega),Int.zero_sub]
 ·have hs:¬ (zval a.den).sign<0:=fun h=>h0 (Int.sign_neg_iff.1 h)
  refine .lssF rfl rfl rfl hs (.nil (.condF rfl (.skip (.seq (.region ?_)))))
  refine .fa Q8 rfl rfl (.ldN [.bool a.num.neg,s] ty_Z rfl rfl (k1.ext e2) (by intro j u hu;match j with | 0=>exact hu | 1=>exact hu | j+2=>simp at hu) ?_)
  refine .call _ rfl N0 rfl (L7 (hn.ext x2)) fun v3 w3 e3 h3=>?_
  subst h3
  refine .asg rfl rfl (.nil (.ret ?_))
  have hp:pn a=zval a.num:=by unfold pn;rw [if_neg h0]
  exact .plain [_] Tryz.results69 ⟨rfl,trivial⟩ ⟨x2.trans e3,isI (by rw [hp])⟩
end Go.Proofs.YtfilidfomgfnhaaGreat

namespace Go.Kx
open Go Go.RowKit
/-- where an append leaves its row -/
theorem Ad0 {P:Program} (w:World) (base:Nat) (t ty e:TypeId) (i:TypeInfo) (z:Value) (ht:P.underlying t=some (.slice e)) (hi:P.info? e=some i) (hz:i.zero=some z)
  (hzs:z.cells.size=i.size) (hsz:0<i.size) (v:Value) (n:Nat) (xs:List Value) (hown:w.ownsRow base e i.size v n xs)
  (a:Addr) (m c:Nat) (news:List Value) (hl:news.length=m*i.size) (hnews:∀ j u,news[j]?=some u→w.cell? (a.add j)=some u) (h1:∀ u∈news,u.oneCell'=true)
  (h63:n+m≤maxLen) (hbytes:(n+m)*i.bytes≤140737488355328) (hm:m≠0) (v':Value) (w':World) (hr':(Builtin.append_ #[t,t] ty #[v,.slice (some a) m c]).run P w=.ok v' w') :
  v'.ownBlock=v.ownBlock∨v'.ownBlock=some w.heap.size:=by
 have hsmall:n+m≤9223372036854775807:=by simp only [maxLen] at h63;omega
 rcases hown.2 with ⟨rfl,rfl⟩ | ⟨g,cap,cur,rfl,hbg,hg,hnc,hcm,hcs,htake⟩
 ·have hr:=run_append_nil (P:=P) w t ty e i z ht hi hz a m c news hl hnews (by omega) (by omega) (by have hb:=hbytes;simp only [Nat.zero_add] at hb;omega)
  rw [hr] at hr'
  cases hr'
  exact .inr (by simp [Value.ownBlock])
 ·by_cases hroom:n+m≤cap
  ·have hfit:n*i.size+news.length≤cur.size:=by rw [hl,hcs,←Nat.add_mul];exact Nat.mul_le_mul_right _ hroom
   have hr:=run_append_room (P:=P) w t ty e i ht hi g n cap cur hg a m c news hl hnews h1 hroom hfit
   rw [hr] at hr'
   cases hr'
   exact .inl (by simp [Value.ownBlock])
  ·have holds:∀ j u,xs[j]?=some u→w.cell? ((⟨g,0,none⟩:Addr).add j)=some u:=hown.cells (g:=g) rfl
   have hr:=run_append_grow (P:=P) w t ty e i z ht hi hz ⟨g,0,none⟩ n cap xs hown.1 holds a m c news hl hnews (by omega) (by omega) (growslice_fits (by omega) hbytes)
   rw [hr] at hr'
   cases hr'
   exact .inr (by simp [Value.ownBlock])
/-- the elements l lie in a row of the call's own; their own memory is X's, and not the row -/
def OwnL {α:Type} (E:ER α) (t:TypeId) (base:Nat) (X:Nat→Prop) (w:World) (v:Value) (l:List α):Prop :=
 ∃ es,w.ownsRow base t E.sz v l.length (cellsOf es)∧Els E (fun k=>X k∧v.ownBlock≠some k) w es l
section
variable {α:Type} {E:ER α} {t:TypeId} {base:Nat} {X:Nat→Prop} {w w':World} {v:Value} {l:List α}
theorem AB6 {n:Nat} {xs:List Value} {sz:Nat} (h:w.ownsRow base t sz v n xs) (hk:∀ k cs,base≤k→Blk w k t cs→Blk w' k t cs):w'.ownsRow base t sz v n xs:=by
 refine ⟨h.1,?_⟩
 rcases h.2 with hn | ⟨g,cap,cur,hv,hb,hg,rest⟩
 ·exact .inl hn
 ·exact .inr ⟨g,cap,cur,hv,hb,hk g cur hb hg,rest⟩
theorem OwnL.kp (h:OwnL E t base X w v l) (hk:Kp (fun _=>True) w w'):OwnL E t base X w' v l:=by
 obtain ⟨es,h1,h2⟩:=h
 exact ⟨es,AB6 h1 fun k cs _ hb=>hk.blk trivial hb,h2.keep fun k c t f _ hc=>hk k c t f trivial hc⟩
theorem OwnL.ext (h:OwnL E t base X w v l) (e:Ext w w'):OwnL E t base X w' v l:=h.kp (Kp.ext e)
theorem OwnL.upd {t':TypeId} {b:Nat} {cs:Array Value} (h:OwnL E t base X w v l) (hu:Upd w w' b) (hb:Blk w b t' cs) (ht:t≠t') (hX:¬ X b):OwnL E t base X w' v l:=by
 obtain ⟨es,h1,h2⟩:=h
 refine ⟨es,AB6 h1 fun k c _ hk=>hk.upd hu fun e=>?_,h2.keep (Kp.upd hu fun h=>hX h.1)⟩
 subst e
 have e1:w.heap[k]?=some (.cells c t (0,0)):=hk
 have e2:w.heap[k]?=some (.cells cs t' (0,0)):=hb
 rw [e1] at e2;cases e2;exact ht rfl
theorem Ax5 {n sz:Nat} {xs:List Value} {t':TypeId} {b:Nat} {cs:Array Value} (h:w.ownsRow base t sz v n xs) (hg:w.grownBy w' v.ownBlock) (hb:Blk w b t' cs) (ht:t≠t'):Blk w' b t' cs:=by
 refine (hg.block b hb.lt fun e=>?_).trans hb
 rcases h.2 with ⟨rfl,_⟩ | ⟨g,cap,cur,rfl,_,hgg,_⟩
 ·simp [Value.ownBlock] at e
 ·have:b=g:=by simpa [Value.ownBlock] using e
  subst this
  have h2:w.heap[b]?=some (.cells cs t' (0,0)):=hb
  rw [hgg] at h2;cases h2;exact ht rfl
theorem OwnL.gblk {t':TypeId} {b:Nat} {cs:Array Value} (h:OwnL E t base X w v l) (hg:w.grownBy w' v.ownBlock) (hb:Blk w b t' cs) (ht:t≠t'):Blk w' b t' cs:=by
 obtain ⟨es,h1,_⟩:=h
 exact Ax5 h1 hg hb ht
theorem OwnL.below {w0:World} (h:OwnL E t base X w v l) (hg:w.grownBy w' v.ownBlock) (hb:Below base w0 w) (hB:base≤w.heap.size):Below base w0 w':=by
 obtain ⟨es,h1,_⟩:=h
 exact hb.grown hg hB fun k hk=>(h1.lt k hk).1
theorem OwnL.oth (h:OwnL E t base X w v l) (hg:w.grownBy w' v.ownBlock):Oth w w':=by
 obtain ⟨es,h1,_⟩:=h
 exact Oth.grown hg h1
theorem OwnL.nil:OwnL E t base X w (.slice none 0 0) ([]:List α):=⟨[],⟨by simp,.inl ⟨rfl,rfl⟩⟩,Els.nil⟩
theorem OwnL.made {b c:Nat} {z:Value} (hz:z.cells.size=E.sz) (hn:New w w' b t (cellsOf (List.replicate c z)).toArray) (hb:base≤w.heap.size) (hc:c≤9223372036854775807):OwnL E t base X w' (.slice (some ⟨b,0,none⟩) 0 c) ([]:List α):=by
 obtain ⟨_,hk,hb',_⟩:=hn
 refine ⟨[],⟨by simp [cellsOf],.inr ⟨b,c,_,rfl,by omega,hk,Nat.zero_le _,by simpa [maxLen] using hc,?_,by simp⟩⟩,Els.nil⟩
 rw [List.size_toArray,C1 (sz:=E.sz) _ (fun e he=>by rw [(List.mem_replicate.1 he).2];exact hz)]
 simp
theorem OwnL.toR {S:Nat→Prop} {hsz:0<E.sz} (h:OwnL E t base X w v l) (hS:∀ k,base≤k→S k) (hX:∀ k,X k→S k):(RL E hsz).R S w v l:=by
 obtain ⟨es,h1,h2⟩:=h
 exact RL.ofOwn h1 rfl ⟨h2.1,fun i e x he hx=>E.mono (fun k _ hk=>hX k hk.1) (h2.2 i e x he hx)⟩ hS
theorem OwnL.slice (h:OwnL E t base X w v l):∃ a c,v=.slice a l.length c:=by
 obtain ⟨es,h1,_⟩:=h
 rcases h1.2 with ⟨rfl,h0⟩ | ⟨g,cap,cur,rfl,_⟩
 ·exact ⟨none,0,by rw [h0]⟩
 ·exact ⟨_,_,rfl⟩
end
section
variable {P:Program} {σ:Env} {w:World} {d:Option Tmp} {ty:TypeId} {pos:String} {af:Array Edge} {g:Option (Nat×Bool)} {α:Type} {E:ER α}
/-- append(l, x): the new element lies alone in the block b -/
theorem Aq3 {tt t:TypeId} {x y:Operand} {z:Value} {by_ base b:Nat} {X:Nat→Prop} {v e:Value} {l:List α} {n:α} (hsz:0<E.sz) (ht:P.underlying tt=some (.slice t)) (hi:infoOf P t=some (z,E.sz,by_)) (hzs:z.cells.size=E.sz) (hx:ev σ x=some v) (hy:ev σ y=some (.slice (some ⟨b,0,none⟩) 1 1))
  (hown:OwnL E t base X w v l) {t':TypeId} (hb:Blk w b t' e.cells) (he:E.R (fun k=>X k∧v.ownBlock≠some k) w e n) (hl:l.length≤1000000000) (hby:by_≤100) (hbase:base≤w.heap.size) :
  Gv P ⟨d,.call { callee:=.builtin .append,args:=#[x,y],argTypes:=#[tt,tt] },ty,pos,af,g⟩ σ w fun v' w'=>OwnL E t base X w' v' (l++[n])∧w.grownBy w' v.ownBlock∧(v'.ownBlock=v.ownBlock∨v'.ownBlock=some w.heap.size):=by
 obtain ⟨es,ho,hels⟩:=hown
 obtain ⟨i,hi0,hi1,hi2,hi3⟩:=M7 hi
 refine ⟨(by intro _ h;cases h),fun ρ hρ=>.inl ?_⟩
 have e1:=hρ x _ (by simp [Op.operands,Call.operands]) hx
 have e2:=hρ y _ (by simp [Op.operands,Call.operands]) hy
 have hcs:=E.csz he
 have hl':e.cells.toList.length=1*E.sz:=by simpa using hcs
 have hnews:∀ j u,e.cells.toList[j]?=some u→w.cell? ((⟨b,0,none⟩:Addr).add j)=some u:=by
  intro j u hu
  rw [J6,Nat.zero_add,hb.cell]
  simpa using hu
 have hone:∀ u∈e.cells.toList,u.oneCell'=true:=fun u hu=>AO1 (E.one he u hu)
 have hbytes:(l.length+1)*by_≤140737488355328:=by
  have:(l.length+1)*by_≤1000000001*100:=Nat.mul_le_mul (by omega) hby
  omega
 obtain ⟨v',w',hr,h2,h3,_⟩:=run_append_own (P:=P) w base tt ty t i z E.sz by_ ht hi0 hi1 hi2 hi3 hzs hsz v l.length (cellsOf es) ho ⟨b,0,none⟩ 1 1 e.cells.toList hl' hnews hone (by simp only [maxLen];omega) hbytes hbase
 have hw:=Ad0 (P:=P) w base tt ty t i z ht hi0 hi1 (by rw [hi2];exact hzs) (by rw [hi2];exact hsz) v l.length (cellsOf es) (by rw [hi2];exact ho) ⟨b,0,none⟩ 1 1 e.cells.toList (by rw [hi2];exact hl') hnews hone (by simp only [maxLen];omega) (by rw [hi3];exact hbytes) (by omega) v' w' hr
 refine ⟨v',w',by simp [execOp,resolve,invoke,builtin,e1,e2,hr],⟨es++[e],?_,?_⟩,h3,hw⟩
 ·have:cellsOf (es++[e])=cellsOf es++e.cells.toList:=by simp [cellsOf]
  rw [this,List.length_append];exact h2
 ·have hkeep:Kp (fun k=>X k∧v.ownBlock≠some k) w w':=fun k c t f hk hc=>(h3.block k (Array.getElem?_eq_some_iff.1 hc).1 (fun e=>hk.2 e.symm)).trans hc
  have hmono:∀ {y:α} {u:Value},E.R (fun k=>X k∧v.ownBlock≠some k) w u y→E.R (fun k=>X k∧v'.ownBlock≠some k) w' u y:=by
   intro y u hu
   have h1:=E.lt hu
   have h2:E.R (fun k=>(X k∧v.ownBlock≠some k)∧k<w.heap.size) w' u y:=E.keep (fun k c t f hk hc=>hkeep k c t f hk.1 hc) h1
   refine E.mono (fun k _ hk=>⟨hk.1.1,?_⟩) h2
   rcases hw with h | h
   ·rw [h];exact hk.1.2
   ·rw [h];intro e;cases e;exact Nat.lt_irrefl _ hk.2
  exact Els.snoc ⟨hels.1,fun i e x he hx=>hmono (hels.2 i e x he hx)⟩ (hmono he)
theorem AM1 {tt t:TypeId} {x y:Operand} {z:Value} {by_ base b:Nat} {X:Nat→Prop} {v e:Value} {l:List α} {n:α} (hsz:0<E.sz) (ht:P.underlying tt=some (.slice t)) (hi:infoOf P t=some (z,E.sz,by_)) (hzs:z.cells.size=E.sz) (hx:ev σ x=some v) (hy:ev σ y=some (.slice (some ⟨b,0,none⟩) 1 1))
  (hown:OwnL E t base X w v l) {t':TypeId} (hb:Blk w b t' e.cells) (he:E.R (fun k=>X k∧v.ownBlock≠some k) w e n) (hl:l.length≤1000000000) (hby:by_≤100) (hbase:base≤w.heap.size) :
  Gv P ⟨d,.call { callee:=.builtin .append,args:=#[x,y],argTypes:=#[tt,tt] },ty,pos,af,g⟩ σ w fun v' w'=>OwnL E t base X w' v' (l++[n])∧w.grownBy w' v.ownBlock :=
 (Aq3 hsz ht hi hzs hx hy hown hb he hl hby hbase).mono fun _ _ h=>⟨h.1,h.2.1⟩
end
end Go.Kx

namespace Go.Kx
open Go Go.RowKit
def EsR {α:Type} (E:ER α) (S:Nat→Prop) (w:World) (v:Value) (es:List Value) (l:List α):Prop:=Els E S w es l∧Row S w E.sz v l.length (cellsOf es)
def PtrX (w:World) (p:Addr) (e:Value):Prop:=∀ (j:Nat) (u:Value),e.cells[j]?=some u→w.cell? (p.add j)=some u
section
variable {α:Type} {E:ER α} {S:Nat→Prop} {w w':World} {v:Value} {es:List Value} {l:List α}
theorem RL.toEs {hsz:0<E.sz} (h:(RL E hsz).R S w v l):∃ es,EsR E S w v es l:=h
theorem EsR.toR {hsz:0<E.sz} (h:EsR E S w v es l):(RL E hsz).R S w v l:=⟨es,h⟩
theorem EsR.keep (h:EsR E S w v es l) (hk:Kp S w w'):EsR E S w' v es l:=⟨h.1.keep hk,h.2.keep hk⟩
theorem EsR.ext (h:EsR E S w v es l) (e:Ext w w'):EsR E S w' v es l:=h.keep (Kp.ext e)
theorem EsR.mono {S':Nat→Prop} (hsz:0<E.sz) (h:EsR E S w v es l) (hk:∀ k,k<w.heap.size→S k→S' k):EsR E S' w v es l:=⟨⟨h.1.1,fun i e x he hx=>E.mono hk (h.1.2 i e x he hx)⟩,h.2.mono hsz hk⟩
theorem EsR.get {z:Value} {x:α} (h:EsR E S w v es l) (hz:E.R S w z x) (k:Nat):E.R S w (es.getD k z) (l.getD k x):=by
 rw [List.getD_eq_getElem?_getD,List.getD_eq_getElem?_getD]
 rcases Nat.lt_or_ge k l.length with hk | hk
 ·have hk':k<es.length:=by rw [h.1.1];exact hk
  rw [List.getElem?_eq_getElem hk,List.getElem?_eq_getElem hk']
  exact h.1.2 k _ _ (List.getElem?_eq_getElem hk') (List.getElem?_eq_getElem hk)
 ·rw [List.getElem?_eq_none hk,List.getElem?_eq_none (by rw [h.1.1];exact hk)]
  exact hz
theorem EsR.at_ (h:EsR E S w v es l) {i:Nat} {e:Value} (hi:es[i]?=some e):∃ ad c,v=.slice (some ad) l.length c∧PtrX w (ad.add (i*E.sz)) e:=by
 obtain ⟨h1,a,c,hv,h2,_,h3,h4⟩:=h
 have hlt:i<l.length:=by
  rcases Nat.lt_or_ge i es.length with h | h
  ·rw [←h1.1];exact h
  ·rw [List.getElem?_eq_none h] at hi;cases hi
 obtain ⟨ad,ha,hS,hc⟩:=h4 (by omega)
 subst ha
 refine ⟨ad,c,hv,fun j u hu=>?_⟩
 rw [AK2]
 refine (hc _ u ?_).1
 have hj:j<E.sz:=by
  have hs:=h1.sz e (List.mem_iff_getElem?.2 ⟨i,hi⟩)
  rcases Nat.lt_or_ge j e.cells.size with h | h
  ·omega
  ·rw [Array.getElem?_eq_none h] at hu;cases hu
 rw [D1 es i j e h1.sz hi hj];exact hu
end
section
variable {P:Program} {ro:Option Nat} {N:Nat} {ds:List Deferred} {ops:Array Oper} {K:Env→World→Prop} {rest:List Oper} {σ:Env} {w:World} {d:Tmp} {ty:TypeId} {pos:String} {af:Array Edge} {α:Type} {E:ER α} {S:Nat→Prop} {v:Value} {es:List Value} {l:List α}
theorem g_ixX {dd:Option Tmp} {gd:Option (Nat×Bool)} {t e:TypeId} {x ix:Operand} {k:IntKind} {i:Nat} {b:Bool} {y:Value} (ht:P.underlying t=some (.slice e)) (he:tyOf P e=some (b,E.sz)) (hx:ev σ x=some v) (h:EsR E S w v es l)
  (hi:ev σ ix=some (.int k (i:Int))) (hy:es[i]?=some y) :
  Gv P ⟨dd,.indexAddr t x ix,ty,pos,af,gd⟩ σ w fun v' w'=>w'=w∧∃ p,v'=.pointer (some p)∧PtrX w p y:=by
 refine ⟨(by intro _ h;cases h),fun ρ hρ=>.inl ?_⟩
 obtain ⟨ad,c,hv,hp⟩:=h.at_ hy
 have h1:=hρ x _ (by simp [Op.operands]) hx
 have h2:=hρ ix _ (by simp [Op.operands]) hi
 have hlt:i<l.length:=by
  rcases Nat.lt_or_ge i es.length with h' | h'
  ·rw [←h.1.1];exact h'
  ·rw [List.getElem?_eq_none h'] at hy;cases hy
 refine ⟨_,w,?_,rfl,_,rfl,hp⟩
 simp [execOp,h1,h2,hv,Instr.indexAt,asIntOf,run_underlying ht,(H3 he w).2]
 intro hh;omega
theorem WL.ixX {t e:TypeId} {x ix:Operand} {k:IntKind} {i:Nat} {b:Bool} {y:Value} (ht:P.underlying t=some (.slice e)) (he:tyOf P e=some (b,E.sz)) (hd:Nat.blt d N=true) (hx:ev σ x=some v) (h:EsR E S w v es l)
  (hi:ev σ ix=some (.int k (i:Int))) (hy:es[i]?=some y) (kk:∀ p,PtrX w p y→WL P ro N ds ops K rest ((d,.pointer (some p))::σ) w) :
  WL P ro N ds ops K (⟨some d,.indexAddr t x ix,ty,pos,af,none⟩::rest) σ w :=
 WL.gv rfl hd (g_ixX ht he hx h hi hy) fun v' w' ⟨e1,p,e2,hp⟩=>by subst e1;subst e2;exact kk p hp
theorem AT0 {dd:Option Tmp} {gd:Option (Nat×Bool)} {t:TypeId} {x:Operand} {p:Addr} {y:Value} {n:α} (ht:tyOf P t=some (E.isA,E.sz)) (hx:ev σ x=some (.pointer (some p))) (hp:PtrX w p y) (hy:E.R S w y n) :
  Vl P ⟨dd,.load t x,ty,pos,af,gd⟩ σ w y:=by
 have hs:=E.shp hy
 have hcs:=E.csz hy
 cases hA:E.isA with
 | true =>
  rw [hA] at hs ht
  simp only [cond_true] at hs
  have:=v_ldPN (P:=P) (d:=dd) (ty:=ty) (pos:=pos) (af:=af) (g:=gd) (cs:=y.cells.toList) (by rw [ht];simp [hcs]) hx (fun j u hu=>hp j u (by simpa using hu))
  rw [hs]
  simpa [Value.cells] using this
 | false =>
  rw [hA] at hs ht
  simp only [cond_false] at hs
  have hc1:y.cells=#[y]:=by
   clear hp hy hcs
   cases y<;>first | rfl | (simp [one1] at hs)
  have h0:y.cells[0]?=some y:=by rw [hc1];rfl
  have:=hp 0 y h0
  rw [show p.add 0=p from rfl] at this
  exact Ao4 ht hx this
theorem WL.ldX {t:TypeId} {x:Operand} {p:Addr} {y:Value} {n:α} (ht:tyOf P t=some (E.isA,E.sz)) (hd:Nat.blt d N=true) (hx:ev σ x=some (.pointer (some p))) (hp:PtrX w p y) (hy:E.R S w y n) (k:WL P ro N ds ops K rest ((d,y)::σ) w) :
  WL P ro N ds ops K (⟨some d,.load t x,ty,pos,af,none⟩::rest) σ w:=WL.vl rfl hd (AT0 ht hx hp hy) k
end
/-- the zero of the rationals, as a value -/
abbrev zq:Value:=.agg #[.bool false,.slice none 0 0,.bool false,.slice none 0 0]
theorem zq_R {S:Nat→Prop} {w:World}:eQ.R S w zq q0:=⟨_,_,rfl,RL.nil,RL.nil⟩
abbrev nilV:Value:=.slice none 0 0
theorem Ay2 {S:Nat→Prop} {w:World}:eV.R S w nilV []:=RL.nil
end Go.Kx

namespace Go.Proofs.YtfilidfomgfnhaaGreat
open Go Go.Kx Go.RowKit
theorem AO7:Ent Tryz.prog 128:=A0 Tryz.func128 (by kernel_rfl) rfl
theorem AN2 {w:World} {va vb:Value} {n n' c c':Nat} {a a':Option Addr} (ha:va=.slice a n c) (hb:vb=.slice a' n' c'):CR Tryz.prog 128 #[va,vb] w (fun v w'=>∃ b1 b2,v=.func (.func 189) #[] #[.pointer (some ⟨b1,0,none⟩),.pointer (some ⟨b2,0,none⟩)] ∧
  Blk w' b1 32 #[va]∧Blk w' b2 32 #[vb]∧w.heap.size≤b1∧w.heap.size≤b2):=by
 subst ha;subst hb
 refine enter Tryz.func128 rfl Tryz.ntmps128 rfl ?_
 refine .seq (.region ?_)
 refine .box rfl rfl fun w1 b1 n1=>?_
 obtain ⟨e1,k1,hb1,hs1⟩:=n1
 refine .box rfl rfl fun w2 b2 n2=>.asg rfl rfl (.nil ?_)
 obtain ⟨e2,k2,hb2,hs2⟩:=n2
 refine .seq (.region ?_)
 refine .mkf [] [_,_] rfl rfl rfl rfl (.asg rfl rfl (.nil (.ret ?_)))
 exact .plain [_] Tryz.results128 ⟨rfl,trivial⟩ ⟨e1.trans e2,b1,b2,rfl,k1.ext e2,k2,by omega,by have:=e1.size;omega⟩
theorem A9 {α:Type} {l:List α} {k:Nat} {z:α} (h:k<l.length):l[k]?=some (l.getD k z):=by
 rw [List.getD_eq_getElem?_getD,List.getElem?_eq_getElem h];rfl
theorem Q6 {α:Type} {l:List α} {k:Nat} {z:α} (h:l.length≤k):l.getD k z=z:=by
 rw [List.getD_eq_getElem?_getD,List.getElem?_eq_none h];rfl
theorem Aa2:Ent Tryz.prog 189:=A0 Tryz.func189 (by kernel_rfl) rfl
theorem AY1 {S:Nat→Prop} {a b:List QV} {esa esb:List Value} {va vb:Value} {b1 b2:Nat} (hla:a.length≤9223372036854775806) (hlb:b.length≤9223372036854775806):Iter Tryz.prog 189 #[.pointer (some ⟨b1,0,none⟩),.pointer (some ⟨b2,0,none⟩)] (max a.length b.length)
  (fun k=>[esa.getD k zq,esb.getD k zq]) (fun W=>Blk W b1 32 #[va]∧Blk W b2 32 #[vb]∧EsR eQ S W va esa a∧EsR eQ S W vb esb b):=by
 intro l J X stJ stX hF hy W hJ
 have hF0:=hF 0 W hJ
 refine enterG Tryz.func189 rfl Tryz.ntmps189 rfl ?_
 refine .seq (.region (.ld ty_V rfl rfl hF0.1 rfl (.lenR un_V rfl rfl (hF0.2.2.1.toR (hsz:=by decide)) (.ld ty_V rfl rfl hF0.2.1 rfl (.lenR un_V rfl rfl (hF0.2.2.2.toR (hsz:=by decide)) (.max_ rfl rfl rfl (.mv rfl rfl (.nil ?_))))))))
 refine .block (.loop (α:=Nat) (fun k=>[(12,.int .i64 (k:Nat)),(11,.int .i64 ((max a.length b.length:Nat):Int)),(0,.func (.yield l) #[] #[]),(1,.pointer (some ⟨b1,0,none⟩)),(2,.pointer (some ⟨b2,0,none⟩))]) (fun k W=>J k W∧k≤max a.length b.length) (fun k=>max a.length b.length-k) 0 ?_ ?_ ?_)
 ·refine A2 rfl (A2 ?_ (lkA rfl))
  show some (Value.int .i64 (max (a.length:Int) (b.length:Int)))=_
  rw [show (max (a.length:Int) (b.length:Int))=((max a.length b.length:Nat):Int) by omega]
 ·exact ⟨hJ,Nat.zero_le _⟩
 ·rintro k W ⟨hJ,hk⟩
  have hF:=hF k W hJ
  obtain ⟨hB1,hB2,hA,hB⟩:=hF
  by_cases hlt:k<max a.length b.length
  ·refine .seq (.region (.lssT rfl rfl rfl (by omega) (.nil (.seq (.condT rfl (.skip ?_))))))
   refine .seq (.block (.seq (.region (.mv rfl rfl (.asg rfl rfl (.nil (.seq (.region (.alloc rfl D2 fun w1 c5 n1=>.alloc rfl D2 fun w2 c6 n2=>.nil ?_)))))))))
   obtain ⟨e1,k5,hc5,hs1⟩:=n1
   obtain ⟨e2,k6,hc6,hs2⟩:=n2
   have x2:=e1.trans e2
   have k5:=k5.ext e2
   have hxa:=ER.lt eQ (hA.get zq_R k)
   have hxb:=ER.lt eQ (hB.get zq_R k)
   have hva:=shpA rfl hxa
   have hvb:=shpA rfl hxb
   refine .mid (α:=Unit) (fun _=>[(5,.pointer (some ⟨c5,0,none⟩)),(6,.pointer (some ⟨c6,0,none⟩)),(4,.int .i64 (k:Nat)),(12,.int .i64 (k:Nat)),(11,.int .i64 ((max a.length b.length:Nat):Int)),(0,.func (.yield l) #[] #[]),(1,.pointer (some ⟨b1,0,none⟩)),(2,.pointer (some ⟨b2,0,none⟩))])
    (fun _ W'=>Ext W W'∧Blk W' c5 55 (esa.getD k zq).cells∧Blk W' c6 55 zq.cells) ?_ ?_
   ·refine .seq (.region (.mv rfl rfl (.ld ty_V rfl rfl (hB1.ext x2) rfl (.lenR un_V rfl rfl ((hA.ext x2).toR (hsz:=by decide)) ?_))))
    by_cases hlt:k<a.length
    ·refine .lssT rfl rfl rfl (by omega) (.nil (.condT rfl (.region (.ld ty_V rfl rfl (hB1.ext x2) rfl (.mv rfl rfl ?_)))))
     refine .ixX un_V ty_Q rfl rfl (hA.ext x2) rfl (A9 (z:=zq) (by rw [hA.1.1];exact hlt)) fun p hp=>.ldX (E:=eQ) ty_Q rfl rfl hp (hxa.ext x2) ?_
     refine .storeA (E:=eQ) ty_Q rfl rfl k5 rfl rfl (hxa.ext x2) (fun h=>by have:=h.2;omega) fun w3 k3 u3 h3=>.nil ⟨rfl,(),?_,u3.below x2 (by omega),k3,k6.upd u3 (by omega)⟩
     exact lkA rfl
    ·refine .lssF rfl rfl rfl (by omega) (.nil (.condF rfl (.skip ⟨rfl,(),?_,x2,?_,k6⟩)))
     ·exact lkA rfl
     ·rw [Q6 (by rw [hA.1.1];omega)];exact k5
   ·rintro _ W' ⟨x3,k5,k6⟩
    refine .mid (α:=Unit) (fun _=>[(5,.pointer (some ⟨c5,0,none⟩)),(6,.pointer (some ⟨c6,0,none⟩)),(12,.int .i64 (k:Nat)),(11,.int .i64 ((max a.length b.length:Nat):Int)),(0,.func (.yield l) #[] #[]),(1,.pointer (some ⟨b1,0,none⟩)),(2,.pointer (some ⟨b2,0,none⟩))])
     (fun _ W'=>Ext W W'∧Blk W' c5 55 (esa.getD k zq).cells∧Blk W' c6 55 (esb.getD k zq).cells) ?_ ?_
    ·refine .seq (.region (.mv rfl rfl (.ld ty_V rfl rfl (hB2.ext x3) rfl (.lenR un_V rfl rfl ((hB.ext x3).toR (hsz:=by decide)) ?_))))
     by_cases hlt:k<b.length
     ·refine .lssT rfl rfl rfl (by omega) (.nil (.condT rfl (.region (.ld ty_V rfl rfl (hB2.ext x3) rfl (.mv rfl rfl ?_)))))
      refine .ixX un_V ty_Q rfl rfl (hB.ext x3) rfl (A9 (z:=zq) (by rw [hB.1.1];exact hlt)) fun p hp=>.ldX (E:=eQ) ty_Q rfl rfl hp (hxb.ext x3) ?_
      refine .storeA (E:=eQ) ty_Q rfl rfl k6 rfl rfl (hxb.ext x3) (fun h=>by have:=h.2;omega) fun w3 k3 u3 h3=>.nil ⟨rfl,(),?_,u3.below x3 (by omega),k5.upd u3 (by omega),k3⟩
      exact lkA rfl
     ·refine .lssF rfl rfl rfl (by omega) (.nil (.condF rfl (.skip ⟨rfl,(),?_,x3,k5,?_⟩)))
      ·exact lkA rfl
      ·rw [Q6 (by rw [hB.1.1];omega)];exact k6
    ·rintro _ W'' ⟨x4,k5,k6⟩
     refine .seq (.region (.mv rfl rfl (.ldA ty_Q rfl rfl k5 (eQ.csz hxa) (.ldA ty_Q rfl rfl k6 (eQ.csz hxb) ?_))))
     rw [←hva,←hvb]
     refine .yld (l:=l) [esa.getD k zq,esb.getD k zq] (R:=fun v w'=>(v=.bool true∧J (k+1) w')∨(v=.bool false∧X w')) rfl rfl rfl ?_ ?_
     ·refine YieldAt.mono (hy k _ hlt (stJ _ _ _ hJ x4)) ?_
      rintro e W' (⟨rfl,h⟩ | ⟨rfl,h⟩)
      ·exact ⟨_,rfl,.inl ⟨rfl,h⟩⟩
      ·exact ⟨_,rfl,.inr ⟨rfl,h⟩⟩
     ·rintro v w' (⟨rfl,h⟩ | ⟨rfl,h⟩)
      ·refine .not_ rfl rfl (.nil (.condF rfl (.skip (.region (.add rfl rfl rfl (.mv rfl rfl (.nil ?_)))))))
       rw [wI (by omega)]
       exact ⟨rfl,k+1,lkA rfl,⟨h,by omega⟩,by omega⟩
      ·refine .not_ rfl rfl (.nil (.condT rfl (.ret ?_)))
       exact .plain [] Tryz.results189 trivial (.inr h)
  ·refine .seq (.region (.lssF rfl rfl rfl (by omega) (.nil (.seq (.condF rfl (.exit ?_))))))
   refine .plain [] Tryz.results189 trivial ?_
   have:k=max a.length b.length:=by omega
   subst this;exact .inl hJ
end Go.Proofs.YtfilidfomgfnhaaGreat

namespace Go.Kx
open Go Go.RowKit
theorem WC.rangeA {P:Program} {N:Nat} {Q:Pst} {σ:Env} {ds:List Deferred} {w:World} {g:Operand} {ps:List Tmp} {assign body:Code} {gf:FuncId} {lb:Array Value} {n:Nat} {xs:Nat→List Value} {F:World→Prop}
  (hit:Iter P gf lb n xs F) (hg:ev σ g=some (.func (.func gf) #[] lb)) (hE:Ent P gf) (hps:∀ k,(xs k).length=ps.length) (hpN:∀ p∈ps,p<N)
  (J:Nat→World→Prop) (Jx:Code→World→Prop) (stJ:∀ k W W',J k W→Sft w.heap.size W W'→J k W') (stX:∀ c W W',Jx c W→Sft w.heap.size W W'→Jx c W') (hF:∀ k W,J k W→F W) (h0:J 0 w)
  (hbody:∀ l k W,k<n→J k W→w.heap.size≤W.heap.size→WC P (some l) N (thn (fun σ1 ds1 W1=>ds1=[]∧Ext W W1∧∀ W2,Sft w.heap.size W1 W2→W2.heap.size=W1.heap.size→WC P (some l) N (rnd (J (k+1)) Jx W2) body σ1 [] W2) (fun _ _ _ _=>False)) assign (penv ps (xs k) σ) [] W)
  (hdone:∀ W,J n W→W.heap[w.heap.size]?=some (.deferred (some []))→Q .normal σ ({ target:=.collected w.heap.size,args:=#[] }::ds) W)
  (hjump:∀ c W,Jx c W→W.heap[w.heap.size]?=some (.deferred (some []))→WC P none N Q c σ ({ target:=.collected w.heap.size,args:=#[] }::ds) W) :
  WC P none N Q (.rangeFunc g ps.toArray assign body) σ ds w:=by
 refine ⟨fun a ha=>wpIn_rangeFunc fun fn _=>?_⟩
 have hev:=ha.ev hg
 let rec0:Loop:={ state:=.ready,pending:=none,fn:=fn,tmps:=a.tmps,params:=ps.toArray,assign:=assign,body:=body,defers:=w.heap.size }
 refine ⟨w.heap.size+1,[{ target:=.collected w.heap.size,args:=#[] }],(w.alloc (.deferred (some []))).alloc (.loop rec0),{ target:=.fn (.func gf) lb,args:=#[.func (.yield (w.heap.size+1)) #[] #[]] },(w.alloc (.deferred (some []))).alloc (.loop rec0),gf,#[.func (.yield (w.heap.size+1)) #[] #[]]++lb,(w.alloc (.deferred (some []))).alloc (.loop rec0),
  run_enterLoop_outer fn a.tmps ps.toArray assign body,?_,fun _ _=>trivial,?_,(fun h=>(by cases h)),?_⟩
 ·simp only [resolve];rw [hev];simp [Deferred.ofValue,rec0];rfl
 ·simp [invoke,hE _ _]
 let l:=w.heap.size+1
 let D:=w.heap.size
 have hne:D≠l:=by show w.heap.size≠w.heap.size+1;omega
 let Jt:Nat→World→Prop:=fun k W=>J k W∧W.heap[l]?=some (.loop rec0)∧W.heap[D]?=some (.deferred (some []))
 let Xt:World→Prop:=fun W=>∃ c,Jx c W∧W.heap[l]?=some (.loop { rec0 with state:=.done,pending:=some c })∧W.heap[D]?=some (.deferred (some []))
 have hlt:∀ {W:World} {o:Obj},W.heap[l]?=some o→l<W.heap.size:=fun h=>(Array.getElem?_eq_some_iff.1 h).1
 have hlt':∀ {W:World} {o:Obj},W.heap[D]?=some o→D<W.heap.size:=fun h=>(Array.getElem?_eq_some_iff.1 h).1
 have hstart:Jt 0 ((w.alloc (.deferred (some []))).alloc (.loop rec0)):=by
  have e1:=Q4 w (.deferred (some []))
  have e2:=Q4 (w.alloc (.deferred (some []))) (.loop rec0)
  refine ⟨stJ 0 _ _ h0 (Sft.ext (e1.trans e2) (Nat.le_refl _)),?_,?_⟩
  ·have:=World.alloc_heap_new (w.alloc (.deferred (some []))) (.loop rec0)
   rwa [World.size_alloc] at this
  ·exact (e2.block D (by rw [World.size_alloc];show w.heap.size<w.heap.size+1;omega)).trans (World.alloc_heap_new w _)
 have hcall:=hit l Jt Xt
  (fun k W W' ⟨h1,h2,h3⟩ e=>⟨stJ k W W' h1 (Sft.ext e (Nat.le_of_lt (hlt' h3))),(e.block l (hlt h2)).trans h2,(e.block D (hlt' h3)).trans h3⟩)
  (fun W W' ⟨c,h1,h2,h3⟩ e=>⟨c,stX c W W' h1 (Sft.ext e (Nat.le_of_lt (hlt' h3))),(e.block l (hlt h2)).trans h2,(e.block D (hlt' h3)).trans h3⟩)
  (fun k W h=>hF k W h.1)
  (fun k W hk ⟨hJ,hl,hD⟩=>by
   refine ⟨fn,(ps.zip (xs k)).foldl (fun t p=>t.setIfInBounds p.1 p.2) a.tmps,assign,body,?_,?_⟩
   ·have:=run_yield (P:=P) (w:=W) (l:=l) (r:=rec0) (args:=(xs k).toArray) hl (by simp [rec0,hps])
    rw [this]
    simp [rec0]
   ·refine roundIn_of_wpIn trivial ?_
    have hag:Agr N (penv ps (xs k) σ) [] { tmps:=(ps.zip (xs k)).foldl (fun t p=>t.setIfInBounds p.1 p.2) a.tmps,defers:=[] } :=
     AH4 ps (xs k) σ a.tmps hpN ⟨ha.size,rfl,ha.slot⟩
    refine wpIn_mono ((hbody l k W hk hJ (Nat.le_of_lt (hlt' hD))).out _ hag) ?_
    rintro e a₁ w₁ ⟨σ1,ds1,hag1,hq⟩
    cases e with
    | normal =>
     obtain ⟨rfl,hx1,hb⟩:=hq
     have hl:=(Oth.ext hx1) l _ hl rfl
     have hD:=(Oth.ext hx1) D _ hD rfl
     have hput:(w₁.putObj l (.loop { rec0 with state:=.busy })).heap[l]?=some (.loop { rec0 with state:=.busy }):=World.putObj_heap_same (hlt hl)
     have hputD:(w₁.putObj l (.loop { rec0 with state:=.busy })).heap[D]?=some (.deferred (some [])):=by rw [World.putObj_heap_other hne];exact hD
     refine ⟨_,run_beginRound hl rfl,wpIn_mono ((hb _ (Sft.put (show D≤l by show w.heap.size≤w.heap.size+1;omega) hl rfl) (World.putObj_size ..)).out a₁ hag1) ?_⟩
     have hend:∀ (W':World) (j:Option Code),Oth (w₁.putObj l (.loop { rec0 with state:=.busy })) W' →
       (Instr.endRound l j).run P W'=.ok (.bool j.isNone) (W'.putObj l (.loop { rec0 with state:=if j.isNone then .ready else .done,pending:=j })) ∧
       Sft D W' (W'.putObj l (.loop { rec0 with state:=if j.isNone then .ready else .done,pending:=j })) ∧
       (W'.putObj l (.loop { rec0 with state:=if j.isNone then .ready else .done,pending:=j })).heap[l]?=some (.loop { rec0 with state:=if j.isNone then .ready else .done,pending:=j }) ∧
       (W'.putObj l (.loop { rec0 with state:=if j.isNone then .ready else .done,pending:=j })).heap[D]?=some (.deferred (some [])):=by
      intro W' j ho
      have h1:=ho l _ hput rfl
      have h2:=ho D _ hputD rfl
      refine ⟨run_endRound (r:={ rec0 with state:=.busy }) j h1,Sft.put (show D≤l by show w.heap.size≤w.heap.size+1;omega) h1 rfl,World.putObj_heap_same (hlt h1),?_⟩
      rw [World.putObj_heap_other hne];exact h2
     rintro e2 a₂ w₂ ⟨σ2,ds2,hag2,hq2⟩
     cases e2 with
     | normal =>
      obtain ⟨ho,hj⟩:=hq2
      obtain ⟨h1,h2,h3,h4⟩:=hend w₂ none ho
      exact ⟨_,_,h1,.inl ⟨rfl,stJ _ _ _ hj h2,h3,h4⟩⟩
     | ret =>
      obtain ⟨ho,hj⟩:=hq2
      obtain ⟨h1,h2,h3,h4⟩:=hend w₂ (some .ret) ho
      exact ⟨_,_,h1,.inr ⟨rfl,.ret,stX _ _ _ hj h2,h3,h4⟩⟩
     | exit id =>
      obtain ⟨ho,hj⟩:=hq2
      obtain ⟨h1,h2,h3,h4⟩:=hend w₂ (some (.exit id)) ho
      exact ⟨_,_,h1,.inr ⟨rfl,.exit id,stX _ _ _ hj h2,h3,h4⟩⟩
     | _=>exact hq2.elim
    | _=>exact hq.elim)
  _ hstart
 refine AH3.2 (hcall.mono ?_)
 have hag':Agr N σ ({ target:=.collected w.heap.size,args:=#[] }::ds) { tmps:=a.tmps,defers:=[{ target:=.collected w.heap.size,args:=#[] }]++a.defers }:=⟨ha.size,by rw [ha.defs];rfl,ha.slot⟩
 rintro e W ⟨v,rfl,hres⟩
 rcases hres with ⟨hJ,hl,hD⟩ | ⟨c,hX,hl,hD⟩
 ·refine ⟨none,_,run_endLoop hl (by simp [rec0]),?_⟩
  refine ⟨σ,_,hag',hdone _ (stJ _ _ _ hJ (Sft.put (show D≤l by show w.heap.size≤w.heap.size+1;omega) hl rfl)) ?_⟩
  rw [World.putObj_heap_other hne];exact hD
 ·refine ⟨some c,_,run_endLoop hl (by simp),?_⟩
  refine (hjump c _ (stX _ _ _ hX (Sft.put (show D≤l by show w.heap.size≤w.heap.size+1;omega) hl rfl)) ?_).out _ hag'
  rw [World.putObj_heap_other hne];exact hD
end Go.Kx

namespace Go.Kx
open Go Go.RowKit
/-- the block g holds the elements l; their own memory is S's, and not g -/
def FB {α:Type} (E:ER α) (t:TypeId) (S:Nat→Prop) (w:World) (g:Nat) (l:List α):Prop :=
 ∃ es,Blk w g t (cellsOf es).toArray∧Els E (fun k=>S k∧k≠g) w es l
theorem AC4 {sz:Nat} (hsz:0<sz) (es:List Value) (i:Nat) (v:Value) (hs:∀ e∈es,e.cells.size=sz) (hv:v.cells.size=sz) (hi:i<es.length) :
  wrt (cellsOf es).toArray (i*sz) v.cells.toList=(cellsOf (es.set i v)).toArray:=by
 have hs':∀ e∈es.set i v,e.cells.size=sz:=fun e he=>by
  rcases List.mem_or_eq_of_mem_set he with h | h
  ·exact hs e h
  ·rw [h];exact hv
 have hl:=C1 es hs
 have hl':=C1 (es.set i v) hs'
 rw [List.length_set] at hl'
 have hle:i*sz+sz≤es.length*sz:=by rw [←Nat.succ_mul];exact Nat.mul_le_mul_right _ hi
 apply Array.ext_getElem?
 intro j
 rw [AQ6 _ _ _ _ (by simp only [Array.length_toList,hv,List.size_toArray,hl];exact hle)]
 simp only [Array.length_toList,hv,List.getElem?_toArray,Array.getElem?_toList]
 rcases Nat.lt_or_ge j (es.length*sz) with hj | hj
 ·have hq:j / sz<es.length:=(Nat.div_lt_iff_lt_mul hsz).2 hj
  have hr:j % sz<sz:=Nat.mod_lt _ hsz
  have hjd:(j / sz)*sz+j % sz=j:=by rw [Nat.mul_comm];exact Nat.div_add_mod j sz
  by_cases he:j / sz=i
  ·have h1:i*sz≤j∧j<i*sz+sz:=by rw [he] at hjd;omega
   rw [if_pos h1]
   have h2:(es.set i v)[i]?=some v:=by rw [List.getElem?_set_self hi]
   have:=D1 (es.set i v) i (j % sz) v hs' h2 hr
   rw [he] at hjd
   rw [hjd] at this
   rw [this]
   congr 1;omega
  ·have h1:¬ (i*sz≤j∧j<i*sz+sz):=by
    intro ⟨ha,hb⟩
    apply he
    have h3:i≤j / sz:=(Nat.le_div_iff_mul_le hsz).2 ha
    have h4:j / sz<i+1:=(Nat.div_lt_iff_lt_mul hsz).2 (by rw [Nat.succ_mul];exact hb)
    omega
   rw [if_neg h1]
   obtain ⟨e,hee⟩:∃ e,es[j / sz]?=some e:=⟨_,List.getElem?_eq_getElem hq⟩
   have g1:=D1 es (j / sz) (j % sz) e hs hee hr
   have g2:=D1 (es.set i v) (j / sz) (j % sz) e hs' (by rw [List.getElem?_set_ne (fun h=>he h.symm)];exact hee) hr
   rw [hjd] at g1 g2
   rw [g1,g2]
 ·rw [if_neg (by omega),List.getElem?_eq_none (by omega),List.getElem?_eq_none (by omega)]
section
variable {α:Type} {E:ER α} {t:TypeId} {S:Nat→Prop} {w w':World} {g:Nat} {l:List α}
theorem FB.lt (h:FB E t S w g l):g<w.heap.size:=by obtain ⟨es,hb,_⟩:=h;exact hb.lt
theorem FB.kp (h:FB E t S w g l) (hk:Kp (fun _=>True) w w'):FB E t S w' g l:=by
 obtain ⟨es,hb,he⟩:=h
 exact ⟨es,hk.blk trivial hb,he.keep fun k c t f _ hc=>hk k c t f trivial hc⟩
theorem FB.ext (h:FB E t S w g l) (e:Ext w w'):FB E t S w' g l:=h.kp (Kp.ext e)
theorem FB.upd {b:Nat} (h:FB E t S w g l) (u:Upd w w' b) (hne:g≠b) (hS:¬ S b):FB E t S w' g l:=by
 obtain ⟨es,hb,he⟩:=h
 exact ⟨es,hb.upd u hne,he.keep (Kp.upd u fun h=>hS h.1)⟩
theorem FB.mono {S':Nat→Prop} (h:FB E t S w g l) (hk:∀ k,k<w.heap.size→S k→S' k):FB E t S' w g l:=by
 obtain ⟨es,hb,he⟩:=h
 exact ⟨es,hb,he.1,fun i e x h1 h2=>E.mono (fun k hl hh=>⟨hk k hl hh.1,hh.2⟩) (he.2 i e x h1 h2)⟩
theorem FB.made {c:Nat} {z:Value} {z0:α} (hn:New w w' g t (cellsOf (List.replicate c z)).toArray) (hz:E.R (fun k=>S k∧k≠g) w' z z0):FB E t S w' g (List.replicate c z0):=by
 refine ⟨List.replicate c z,hn.2.1,by simp,fun i e x he hx=>?_⟩
 have h1:e=z:=by
  have:=List.mem_iff_getElem?.2 ⟨i,he⟩
  exact (List.mem_replicate.1 this).2
 have h2:x=z0:=by
  have:=List.mem_iff_getElem?.2 ⟨i,hx⟩
  exact (List.mem_replicate.1 this).2
 subst h1;subst h2;exact hz
theorem FB.toR {hsz:0<E.sz} {c:Nat} (h:FB E t S w g l) (hS:S g) (hc:l.length≤c) (hm:l.length≤9223372036854775807):(RL E hsz).R S w (.slice (some ⟨g,0,none⟩) l.length c) l:=by
 obtain ⟨es,hb,he⟩:=h
 exact RL.ofBlk hb hS ⟨he.1,fun i e x h1 h2=>E.mono (fun k _ hh=>hh.1) (he.2 i e x h1 h2)⟩ (fun j u hu=>by rw [List.getElem?_toArray];exact hu) hc hm
end
section
variable {P:Program} {ro:Option Nat} {N:Nat} {ds:List Deferred} {ops:Array Oper} {K:Env→World→Prop} {rest:List Oper} {σ:Env} {w:World} {d:Tmp} {ty:TypeId} {pos:String} {af:Array Edge} {α:Type} {E:ER α} {S:Nat→Prop}
theorem V5 {dd:Option Tmp} {gd:Option (Nat×Bool)} {t t':TypeId} {x y:Operand} {g i o n:Nat} {a:Bool} {l:List α} {v:Value} {z:α} (hsz:0<E.sz) (ht:tyOf P t=some (a,n)) (hx:ev σ x=some (.pointer (some ⟨g,o,none⟩))) (hy:ev σ y=some v) (hb:FB E t' S w g l)
  (hn:E.sz=n) (hi:i<l.length) (ho:o=i*E.sz) (hz:E.R (fun k=>S k∧k≠g) w v z) :
  Gv P ⟨dd,.store t x y,ty,pos,af,gd⟩ σ w fun _ w'=>FB E t' S w' g (l.set i z)∧Upd w w' g:=by
 obtain ⟨es,hB,he⟩:=hb
 have hcs:=E.csz hz
 subst ho
 have hl:=C1 es he.sz
 have hie:i<es.length:=by rw [he.1];exact hi
 have hle:i*E.sz+n≤(cellsOf es).toArray.size:=by
  rw [List.size_toArray,hl,←hn,←Nat.succ_mul];exact Nat.mul_le_mul_right _ hie
 refine (I8 ht hx hy hB (by omega) hle (E.one hz)).mono ?_
 rintro _ w' ⟨hB',u⟩
 rw [AC4 hsz es i v he.sz hcs hie] at hB'
 refine ⟨⟨es.set i v,hB',?_⟩,u⟩
 have:=Els.set he i hz
 exact this.keep (Kp.upd u fun h=>h.2 rfl)
theorem WL.storeF {t t':TypeId} {x y:Operand} {g i o n:Nat} {a:Bool} {l:List α} {v:Value} {z:α} (hsz:0<E.sz) (ht:tyOf P t=some (a,n)) (hx:ev σ x=some (.pointer (some ⟨g,o,none⟩))) (hy:ev σ y=some v) (hb:FB E t' S w g l)
  (hn:E.sz=n) (hi:i<l.length) (ho:o=i*E.sz) (hz:E.R (fun k=>S k∧k≠g) w v z) (k:∀ w',FB E t' S w' g (l.set i z)→Upd w w' g→WL P ro N ds ops K rest σ w') :
  WL P ro N ds ops K (⟨none,.store t x y,ty,pos,af,none⟩::rest) σ w :=
 WL.gv rfl rfl (V5 hsz ht hx hy hb hn hi ho hz) fun _ w' ⟨h1,h2⟩=>k w' h1 h2
end
/-- filled up to i -/
def fil {α:Type} (n i:Nat) (f:Nat→α) (z:α):List α:=(List.range n).map fun j=>if j<i then f j else z
theorem R0 {α:Type} (n:Nat) (f:Nat→α) (z:α):fil n 0 f z=List.replicate n z:=by
 unfold fil
 simp [List.map_const']
theorem Z1 {α:Type} (n:Nat) (f:Nat→α) (z:α):fil n n f z=(List.range n).map f:=by
 unfold fil
 apply List.map_congr_left
 intro j hj
 rw [if_pos (List.mem_range.1 hj)]
theorem J5 {α:Type} (n i:Nat) (f:Nat→α) (z:α):(fil n i f z).length=n:=by simp [fil]
theorem S2 {α:Type} (n i:Nat) (f:Nat→α) (z:α):(fil n i f z).set i (f i)=fil n (i+1) f z:=by
 apply List.ext_getElem?
 intro j
 unfold fil
 rw [List.getElem?_set]
 by_cases hj:i=j
 ·subst hj
  by_cases h:i<n
  ·simp [h]
  ·simp [h]
 ·rw [if_neg hj,List.getElem?_map,List.getElem?_map]
  by_cases h:j<n
  ·simp only [List.getElem?_range h,Option.map_some]
   by_cases h1:j<i
   ·simp [h1,show j<i+1 by omega]
   ·simp [h1,show ¬ j<i+1 by omega]
  ·rw [List.getElem?_eq_none (by simpa using h)];rfl
end Go.Kx

namespace Go.Kx
/-- a rational whose words and value are small -/
def qk (L:Nat) (q:QV):Prop:=qok L q∧Rsz (qval q) L
theorem qk.mono {q:QV} {L M:Nat} (h:qk L q) (hl:L≤M):qk M q:=⟨h.1.mono hl,h.2.mono hl⟩
theorem AF0 {r:Rat} {L:Nat} (h:Rsz r L):qk L (qc r):=⟨h.toOk,by rw [C4];exact h⟩
theorem Ax3 {L:Nat} (hL:1≤L):qk L q0:=by rw [←AD3];exact AF0 (Rsz.zero hL)
def vk (L:Nat) (a:List QV):Prop:=∀ q∈a,qk L q
def mk_ (L:Nat) (m:List (List QV)):Prop:=∀ r∈m,vk L r
theorem vk.mono {a:List QV} {L M:Nat} (h:vk L a) (hl:L≤M):vk M a:=fun q hq=>(h q hq).mono hl
theorem mk_.mono {a:List (List QV)} {L M:Nat} (h:mk_ L a) (hl:L≤M):mk_ M a:=fun q hq=>(h q hq).mono hl
theorem P0 {α:Type} {P:α→Prop} {l:List α} {z:α} (h:∀ x∈l,P x) (hz:P z) (k:Nat):P (l.getD k z):=by
 rw [List.getD_eq_getElem?_getD]
 cases hk:l[k]? with
 | none=>exact hz
 | some x=>exact h x (List.mem_iff_getElem?.2 ⟨k,hk⟩)
theorem vk.get {a:List QV} {L:Nat} (h:vk L a) (hL:1≤L) (k:Nat):qk L (a.getD k q0):=P0 h (Ax3 hL) k
theorem Av1 {L:Nat}:vk L []:=fun q hq=>by cases hq
theorem mk_.get {a:List (List QV)} {L:Nat} (h:mk_ L a) (k:Nat):vk L (a.getD k []):=P0 h Av1 k
/-- element k -/
def rv (a:List QV) (k:Nat):Rat:=qval (a.getD k q0)
def rm (m:List (List QV)) (i k:Nat):Rat:=rv (m.getD i []) k
theorem Ak3 {a:List QV} {k:Nat} (h:a.length≤k):rv a k=0:=by
 unfold rv
 rw [List.getD_eq_getElem?_getD,List.getElem?_eq_none h];exact Ap6
theorem Ab0 (k:Nat):rv [] k=0:=Ak3 (Nat.zero_le _)
theorem rm_out {m:List (List QV)} {i k:Nat} (h:m.length≤i):rm m i k=0:=by
 unfold rm
 rw [List.getD_eq_getElem?_getD,List.getElem?_eq_none h];exact Ab0 k
theorem vk.rsz {a:List QV} {L:Nat} (h:vk L a) (hL:1≤L) (k:Nat):Rsz (rv a k) L:=(h.get hL k).2
theorem mk_.rsz {m:List (List QV)} {L:Nat} (h:mk_ L m) (hL:1≤L) (i k:Nat):Rsz (rm m i k) L:=(h.get i).rsz hL k
/-- the vector of n elements f -/
def tab (n:Nat) (f:Nat→Rat):List QV:=(List.range n).map fun k=>qc (f k)
def tabM (n c:Nat) (f:Nat→Nat→Rat):List (List QV):=(List.range n).map fun i=>tab c (f i)
theorem A5 (n:Nat) (f:Nat→Rat):(tab n f).length=n:=by simp [tab]
theorem A4 (n c:Nat) (f:Nat→Nat→Rat):(tabM n c f).length=n:=by simp [tabM]
theorem AT4 (n:Nat) (f:Nat→Rat) (k:Nat):rv (tab n f) k=if k<n then f k else 0:=by
 unfold rv tab
 by_cases h:k<n
 ·rw [if_pos h,List.getD_eq_getElem?_getD,List.getElem?_map,List.getElem?_range h]
  exact C4 _
 ·rw [if_neg h,List.getD_eq_getElem?_getD,List.getElem?_eq_none (by simpa using h)]
  exact Ap6
theorem As2 (n c:Nat) (f:Nat→Nat→Rat) (i:Nat):(tabM n c f).getD i []=if i<n then tab c (f i) else []:=by
 unfold tabM
 by_cases h:i<n
 ·rw [if_pos h,List.getD_eq_getElem?_getD,List.getElem?_map,List.getElem?_range h];rfl
 ·rw [if_neg h,List.getD_eq_getElem?_getD,List.getElem?_eq_none (by simpa using h)];rfl
theorem AQ9 (n c:Nat) (f:Nat→Nat→Rat) (i k:Nat):rm (tabM n c f) i k=if i<n∧k<c then f i k else 0:=by
 unfold rm
 rw [As2]
 by_cases h:i<n
 ·rw [if_pos h,AT4];simp [h]
 ·rw [if_neg h,Ab0,if_neg (by omega)]
theorem Aa5 {n L:Nat} {f:Nat→Rat} (h:∀ k,k<n→Rsz (f k) L):vk L (tab n f):=by
 intro q hq
 obtain ⟨k,hk,rfl⟩:=List.mem_map.1 hq
 exact AF0 (h k (List.mem_range.1 hk))
theorem AR2 {n c L:Nat} {f:Nat→Nat→Rat} (h:∀ i k,i<n→k<c→Rsz (f i k) L):mk_ L (tabM n c f):=by
 intro r hr
 obtain ⟨i,hi,rfl⟩:=List.mem_map.1 hr
 exact Aa5 fun k hk=>h i k (List.mem_range.1 hi) hk
/-- a sum of n terms -/
def sumN:Nat→(Nat→Rat)→Rat
 | 0,_=>0
 | n+1,f=>sumN n f+f n
theorem B0 {n:Nat} {f g:Nat→Rat} (h:∀ k,k<n→f k=g k):sumN n f=sumN n g:=by
 induction n with
 | zero=>rfl
 | succ n ih=>rw [sumN,sumN,ih fun k hk=>h k (by omega),h n (by omega)]
theorem AY7 (n:Nat):sumN n (fun _=>0)=0:=by
 induction n with
 | zero=>rfl
 | succ n ih=>rw [sumN,ih];grind
theorem Q5 {n:Nat} {f:Nat→Rat} (h:∀ k,k<n→f k=0):sumN n f=0:=by rw [B0 h,AY7]
theorem Af0 (n:Nat) (f g:Nat→Rat):sumN n (fun k=>f k+g k)=sumN n f+sumN n g:=by
 induction n with
 | zero=>simp only [sumN];grind
 | succ n ih=>rw [sumN,sumN,sumN,ih];grind
theorem AB3 (n:Nat) (c:Rat) (f:Nat→Rat):sumN n (fun k=>c*f k)=c*sumN n f:=by
 induction n with
 | zero=>simp [sumN]
 | succ n ih=>rw [sumN,sumN,ih];grind
theorem AL5 (n:Nat) (c:Rat) (f:Nat→Rat):sumN n (fun k=>f k*c)=sumN n f*c:=by
 induction n with
 | zero=>simp [sumN]
 | succ n ih=>rw [sumN,sumN,ih];grind
theorem AD2 (m n:Nat) (f:Nat→Nat→Rat):sumN m (fun i=>sumN n (fun k=>f i k))=sumN n (fun k=>sumN m (fun i=>f i k)):=by
 induction m with
 | zero=>simp [sumN,AY7]
 | succ m ih=>simp only [sumN];rw [ih,←Af0]
/-- terms beyond n that are 0 -/
theorem Aw7 {n m:Nat} {f:Nat→Rat} (hnm:n≤m) (h:∀ k,n≤k→k<m→f k=0):sumN m f=sumN n f:=by
 induction m with
 | zero=>rw [show n=0 by omega]
 | succ m ih =>
  by_cases e:n=m+1
  ·rw [e]
  ·rw [sumN,ih (by omega) fun k h1 h2=>h k h1 (by omega),h m (by omega) (by omega)]
   grind
theorem J2 {n i:Nat} {f:Nat→Rat} (h:∀ k,k<n→k≠i→f k=0):sumN n f=if i<n then f i else 0:=by
 induction n with
 | zero=>simp [sumN]
 | succ n ih =>
  rw [sumN,ih fun k h1 h2=>h k (by omega) h2]
  by_cases h1:i<n
  ·rw [if_pos h1,if_pos (by omega),h n (by omega) (by omega)];grind
  ·rw [if_neg h1]
   by_cases h2:i=n
   ·subst h2;rw [if_pos (by omega)];grind
   ·rw [if_neg (by omega),h n (by omega) (fun e=>h2 e.symm)];grind
theorem Aw6 {n L:Nat} {f:Nat→Rat} (h:∀ k,k<n→Rsz (f k) L):Rsz (sumN n f) (1+n*(L+1)):=by
 induction n with
 | zero=>exact Rsz.zero (by omega)
 | succ n ih =>
  rw [sumN]
  exact ((ih fun k hk=>h k (by omega)).add (h n (by omega))).mono (by rw [Nat.succ_mul];omega)
end Go.Kx

namespace Go.Proofs.YtfilidfomgfnhaaGreat
open Go Go.Kx Go.RowKit
theorem ty_F2:tyOf Tryz.prog 65=some (false,1):=by kernel_rfl
theorem Am8 {x y z u:Value}:bslOf Tryz.prog 32 1 [(0,.agg #[x,y,z,u])]=some (55,#[x,y,z,u]):=by kernel_rfl
/-- elements on their way into a row -/
structure CmbJ (w0:World) (S:Nat→Prop) (b5 b7 p1 p2:Nat) (fv va vb:Value) (L:Nat→List QV) (k:Nat) (W:World):Prop where
 low:Below w0.heap.size w0 W
 f:Blk W b5 65 #[fv]
 k1:Blk W p1 32 #[va]
 k2:Blk W p2 32 #[vb]
 acc:∃ v,Blk W b7 32 #[v]∧OwnL eQ 55 w0.heap.size (fun k=>S k∧k≠b7) W v (L k)
theorem CmbJ.sft {w0:World} {S:Nat→Prop} {b5 b7 p1 p2:Nat} {fv va vb:Value} {L:Nat→List QV} {k D:Nat} {W W':World} (h:CmbJ w0 S b5 b7 p1 p2 fv va vb L k W) (hs:Sft D W W') (hD:w0.heap.size≤D):CmbJ w0 S b5 b7 p1 p2 fv va vb L k W':=by
 obtain ⟨v,h1,h2⟩:=h.acc
 exact ⟨h.low.trans (hs.below.mono hD),hs.cells.blk trivial h.f,hs.cells.blk trivial h.k1,hs.cells.blk trivial h.k2,v,hs.cells.blk trivial h1,h2.kp hs.cells⟩
theorem AX6:Ent Tryz.prog 253:=A0 Tryz.func253 (by kernel_rfl) rfl
theorem AW6 {S:Nat→Prop} {w:World} {va vb:Value} {a b:List QV} {f:FuncId} {cap:Array Value} {g:Nat→QV} (up:Up S w) (ha:eV.R S w va a) (hb:eV.R S w vb b) (hla:a.length≤1000000000) (hlb:b.length≤1000000000) (hE:Ent Tryz.prog f)
  (hf:∀ (W:World) (T:Nat→Prop) (i:Nat) (x y:Value),Below w.heap.size w W→(∀ k,S k→k<w.heap.size→T k)→Up T W→i<max a.length b.length→eQ.R T W x (a.getD i q0)→eQ.R T W y (b.getD i q0)→CR Tryz.prog f ([x,y].toArray++cap) W (eQ.at T (g i))) :
  CR Tryz.prog 253 #[va,vb,.func (.func f) #[] cap] w (eV.at S ((List.range (max a.length b.length)).map g)):=by
 obtain ⟨aa,ca,hva,_⟩:=RL.len ha
 obtain ⟨ab,cb,hvb,_⟩:=RL.len hb
 obtain ⟨esa,hA⟩:=RL.toEs ha
 obtain ⟨esb,hB⟩:=RL.toEs hb
 have hA0:=hA.mono (S':=fun k=>S k∧k<w.heap.size) (by decide) (fun k hk hs=>⟨hs,hk⟩)
 have hB0:=hB.mono (S':=fun k=>S k∧k<w.heap.size) (by decide) (fun k hk hs=>⟨hs,hk⟩)
 have hAB:∀ {W:World},Below w.heap.size w W→EsR eQ (fun k=>S k∧k<w.heap.size) W va esa a∧EsR eQ (fun k=>S k∧k<w.heap.size) W vb esb b:=fun hL=>⟨hA0.keep (fun k c t f hk h=>(hL.block k hk.2).trans h),hB0.keep (fun k c t f hk h=>(hL.block k hk.2).trans h)⟩
 generalize hfv:Value.func (.func f) #[] cap=fv
 have hfv1:fv.cells=#[fv]:=by rw [←hfv];rfl
 have hfv2:one1 fv=true:=by rw [←hfv];rfl
 refine enter Tryz.func253 rfl Tryz.ntmps253 rfl ?_
 refine .seq (.region (.box rfl rfl fun w1 b5 n1=>.asg rfl rfl (.nil ?_)))
 obtain ⟨e1,k5,hb5,hs1⟩:=n1
 rw [hfv1] at k5
 refine .seq (.region (.mv rfl rfl (.lenR un_V rfl rfl (ha.ext e1) (.mv rfl rfl (.lenR un_V rfl rfl (hb.ext e1) (.max_ rfl rfl rfl ?_))))))
 rw [show (max (a.length:Int) (b.length:Int))=((max a.length b.length:Nat):Int) by omega]
 refine .make_ 0 _ un_V T4 rfl (by decide) rfl rfl rfl (Nat.zero_le _) (by omega) (by omega) fun w2 b2 n2=>?_
 have o2:∀ {X:Nat→Prop},OwnL eQ 55 w.heap.size X w2 (.slice (some ⟨b2,0,none⟩) 0 (max a.length b.length)) []:=fun {X}=>OwnL.made (by rfl) n2 (by omega) (by omega)
 obtain ⟨e2,k2,hb2,hs2⟩:=n2
 refine .alloc rfl zero_V fun w3 b7 n3=>?_
 obtain ⟨e3,k7,hb7,hs3⟩:=n3
 refine .store ty_V rfl rfl k7 rfl (by simp [Value.cells]) (by simp [one1,Value.cells]) fun w4 k7' u4=>.nil ?_
 have x3:=(e1.trans e2).trans e3
 have x4:Ext w w4:=u4.below x3 (by omega)
 have k5:=((k5.ext e2).ext e3).upd u4 (show b5≠b7 by omega)
 have o4:=((o2 (X:=fun k=>S k∧k≠b7)).ext e3).upd u4 k7 (by decide) (fun h=>h.2 rfl)
 refine .seq (.seq (.region (.mv rfl rfl (.mv rfl rfl ?_))))
 refine .call _ rfl AO7 rfl (AN2 hva hvb) fun v5 w5 e5 h5=>.nil ?_
 obtain ⟨p1,p2,rfl,kp1,kp2,hp1,hp2⟩:=h5
 have x5:=x4.trans e5
 have hs4:w4.heap.size=w3.heap.size:=u4.size
 have hs5:=e5.size
 refine .block (.rangeA (AY1 (S:=fun k=>S k∧k<w.heap.size) (a:=a) (b:=b) (esa:=esa) (esb:=esb) (va:=va) (vb:=vb) (by omega) (by omega)) rfl Aa2 (fun k=>rfl) (by decide)
  (CmbJ w S b5 b7 p1 p2 fv va vb fun k=>(List.range k).map g) (fun _ _=>False) (fun k W W' h hs=>h.sft hs x5.size) (fun _ _ _ h _=>h.elim) (fun k W h=>⟨h.k1,h.k2,hAB h.low⟩) ?_ ?_ ?_ (fun _ _ h=>h.elim))
 ·exact ⟨x5,k5.ext e5,kp1,kp2,_,k7'.ext e5,o4.ext e5⟩
 ·intro l k W hk hJ hsz
  obtain ⟨hA1,hB1⟩:=hAB hJ.low
  have hxa:=hA1.get zq_R k
  have hxb:=hB1.get zq_R k
  have hva':=shpA rfl hxa
  have hvb':=shpA rfl hxb
  have hlw:=hJ.low.size
  obtain ⟨hlow,hf5,hp15,hp25,v,h7,ho⟩:=hJ
  have hown:∀ k,v.ownBlock=some k→k<W.heap.size:=by
   obtain ⟨es,ho1,ho2⟩:=ho
   exact fun k hk=>(ho1.lt k hk).2
  refine .seq (.region (.alloc rfl D2 fun W1 c8 n8=>?_))
  obtain ⟨e8,k8,hc8,hs8⟩:=n8
  refine .storeA (E:=eQ) ty_Q rfl rfl k8 rfl rfl (hxa.ext e8) (fun h=>by have:=h.2;omega) fun W2 k8 u8 _=>.nil ?_
  have x8:Ext W W2:=u8.below e8 (by omega)
  refine .region (.alloc rfl D2 fun W3 c9 n9=>?_)
  obtain ⟨e9,k9,hc9,hs9⟩:=n9
  have hs8':=u8.size
  refine .storeA (E:=eQ) ty_Q rfl rfl k9 rfl rfl ((hxb.ext x8).ext e9) (fun h=>by have:=h.2;omega) fun W4 k9 u9 _=>.nil ?_
  have x9:Ext W W4:=u9.below (x8.trans e9) (by omega)
  have k8:=(k8.ext e9).upd u9 (show c8≠c9 by omega)
  refine ⟨rfl,x9,fun W5 hsf hsz5=>?_⟩
  have k8:=hsf.cells.blk trivial k8
  have k9:=hsf.cells.blk trivial k9
  clear hxa hxb hA1 hB1
  have hlow:Below w.heap.size w W5:=(hlow.trans (x9.mono hlw)).trans (hsf.below.mono x5.size)
  have hf5:=hsf.cells.blk trivial (hf5.ext x9)
  have hp15:=hsf.cells.blk trivial (hp15.ext x9)
  have hp25:=hsf.cells.blk trivial (hp25.ext x9)
  have h7:=hsf.cells.blk trivial (h7.ext x9)
  have ho:=(ho.ext x9).kp hsf.cells
  obtain ⟨hA1,hB1⟩:=hAB hlow
  have hxa:=hA1.get zq_R k
  have hxb:=hB1.get zq_R k
  have hlw5:=hlow.size
  have hb7lt:=h7.lt
  obtain ⟨ao,co,hvo⟩:=ho.slice
  refine .block (.held follows true (fun W'=>Blk W' b7 32 #[v]∧Blk W' b5 65 #[fv]∧Blk W' c8 55 (esa.getD k zq).cells∧Blk W' c9 55 (esb.getD k zq).cells)
   [some v,some fv,some (esa.getD k zq),some (esb.getD k zq),none,none,none,none] (by kernel_rfl)
   ⟨fun _ h=>v_ld ty_V rfl h.1 rfl,fun _ h=>v_ld ty_F2 rfl h.2.1 rfl,fun _ h=>(B3 ty_Q rfl h.2.2.1 (eQ.csz hxa)).eq hva'.symm,fun _ h=>(B3 ty_Q rfl h.2.2.2 (eQ.csz hxb)).eq hvb'.symm,trivial⟩ ?_)
  intro W6 e6 hh6
  have hlow6:Below w.heap.size w W6:=hlow.trans (e6.mono hlow.size)
  have h7:=h7.ext e6
  have hf5:=hf5.ext e6
  have hp15:=hp15.ext e6
  have hp25:=hp25.ext e6
  have k8:=k8.ext e6
  have k9:=k9.ext e6
  have ho:=ho.ext e6
  have hxa:=hxa.ext e6
  have hxb:=hxb.ext e6
  have hs6:=e6.size
  obtain ⟨es,ho1,ho2⟩:=id ho
  have hT0:∀ k,S k→k<w.heap.size→(S k∧k≠b7)∧v.ownBlock≠some k:=fun k hk hlt=>⟨⟨hk,by omega⟩,fun h=>by have:=(ho1.lt k h).1;omega⟩
  have hcall:=hf W6 (fun k=>(S k∧k≠b7)∧v.ownBlock≠some k) k (esa.getD k zq) (esb.getD k zq) hlow6 hT0 (fun k hk=>⟨⟨up k (by omega),by omega⟩,fun h=>by have:=(ho1.lt k h).2;omega⟩) hk
   (eQ.mono (fun k _ hk=>hT0 k hk.1 hk.2) hxa) (eQ.mono (fun k _ hk=>hT0 k hk.1 hk.2) hxb)
  subst hfv
  refine .gv ⟨h7,hf5,k8,k9⟩ rfl (AD9 [_,_] rfl hE rfl hcall) ?_
  rintro vr W7 ⟨e7,hr⟩
  have hr':=hr
  obtain ⟨s,t,rfl,_,_⟩:=hr'
  refine .gv ⟨h7.ext e7,hf5.ext e7,k8.ext e7,k9.ext e7⟩ rfl (AJ6 _ rfl Am8) ?_
  rintro _ W8 ⟨b8,rfl,n8⟩
  obtain ⟨e8,kb8,hb8,hs8⟩:=n8
  have e78:=e7.trans e8
  have hlow8:Below w.heap.size w W8:=hlow6.trans (e78.mono hlow6.size)
  have ho8:=ho.ext e78
  refine .gv ⟨h7.ext e78,hf5.ext e78,k8.ext e78,k9.ext e78⟩ rfl (AM1 (base:=w.heap.size) (by decide) un_V T4 rfl rfl rfl ho8 kb8 (hr.ext e8) (by simp;omega) (by decide) hlow8.size) ?_
  rintro v9 W9 ⟨ho9,hg9⟩
  have h79:=ho8.gblk hg9 (h7.ext e78) (by decide)
  have hf9:=ho8.gblk hg9 (hf5.ext e78) (by decide)
  have hp19:=ho8.gblk hg9 (hp15.ext e78) (by decide)
  have hp29:=ho8.gblk hg9 (hp25.ext e78) (by decide)
  have hlow9:=ho8.below hg9 hlow8 hlow8.size
  have oth9:Oth W5 W9:=((Oth.ext e6).trans (Oth.ext e78)).trans (ho8.oth hg9)
  obtain ⟨a9,c9',hv9⟩:=ho9.slice
  have hg8:Blk W9 c8 55 (esa.getD k zq).cells:=(hg9.block c8 (k8.ext e78).lt (fun e=>by have:=hown _ e.symm;omega)).trans (k8.ext e78)
  have hg9':Blk W9 c9 55 (esb.getD k zq).cells:=(hg9.block c9 (k9.ext e78).lt (fun e=>by have:=hown _ e.symm;omega)).trans (k9.ext e78)
  refine .gv ⟨h79,hf9,hg8,hg9'⟩ rfl (I8 ty_V rfl rfl h79 (by rw [hv9];rfl) (by simp) (by rw [hv9];simp [one1,Value.cells])) ?_
  rintro _ W10 ⟨k10,u10⟩
  refine .nil (.inl rfl) ?_
  have k10:Blk W10 b7 32 #[v9]:=by rw [hv9] at k10 ⊢;exact k10
  refine ⟨oth9.trans (Oth.upd u10 h79),u10.below hlow9 (by omega),hf9.upd u10 (by omega),hp19.upd u10 (by omega),hp29.upd u10 (by omega),v9,k10,?_⟩
  have:=ho9.upd u10 h79 (by decide) (fun h=>h.2 rfl)
  rw [List.range_succ,List.map_append]
  exact this
 ·intro W hJ hD
  obtain ⟨hlow,hf5,hp15,hp25,v,h7,ho⟩:=hJ
  refine .seq (.region (.ld ty_V rfl rfl h7 rfl (.asg rfl rfl (.nil (.ret ?_)))))
  refine .mark [_] Tryz.results253 hD ⟨rfl,trivial⟩ ⟨Q3 hlow x5.size,(ho.kp (Kp.put hD rfl)).toR up (fun k hk=>hk.1)⟩
end Go.Proofs.YtfilidfomgfnhaaGreat

namespace Go.Proofs.YtfilidfomgfnhaaGreat
open Go Go.Kx Go.RowKit
theorem Ad6:Ent Tryz.prog 254:=A0 Tryz.func254 (by kernel_rfl) rfl
theorem Ad8 {S:Nat→Prop} {w:World} {vq vx vy:Value} {q x y:QV} {b:Nat} {L:Nat} (up:Up S w) (hb:Blk w b 55 vq.cells) (hq:eQ.R S w vq q) (hx:eQ.R S w vx x) (hy:eQ.R S w vy y) (hkq:qk L q) (hkx:qk L x) (hky:qk L y) (hL:1≤L) (hL2:L≤10000000000) :
  CR Tryz.prog 254 #[vx,vy,.pointer (some ⟨b,0,none⟩)] w (eQ.at S (qc (qval q*qval x+qval y))):=by
 have hvq:=shpA rfl hq
 have hvx:=shpA rfl hx
 have hvy:=shpA rfl hy
 refine enter Tryz.func254 rfl Tryz.ntmps254 rfl ?_
 refine .seq (.region (.box rfl rfl fun w1 b3 n1=>.box rfl rfl fun w2 b4 n2=>.alloc rfl D2 fun w3 b5 n3=>.nil ?_))
 obtain ⟨e1,k3,hb3,hs1⟩:=n1
 obtain ⟨e2,k4,hb4,hs2⟩:=n2
 obtain ⟨e3,k5,hb5,hs3⟩:=n3
 have x3:=(e1.trans e2).trans e3
 have k3:=(k3.ext e2).ext e3
 have k4:=k4.ext e3
 have hb:=hb.ext x3
 have hS5:¬ Sx S w.heap.size w3.heap.size b5:=Sx.no (by omega) (by omega)
 have up3:Up (Sx S w.heap.size w3.heap.size) w3:=Sx.up up (Nat.le_refl _) x3.size
 have hq3:=(hq.par w3.heap.size).ext x3
 have hx3:=(hx.par w3.heap.size).ext x3
 have hy3:=(hy.par w3.heap.size).ext x3
 refine .seq (.held follows true (fun W=>Blk W b 55 vq.cells∧Blk W b3 55 vx.cells∧Blk W b4 55 vy.cells)
  [some vq,some vx,none,some vy,none,none] (by kernel_rfl) ⟨fun _ h=>(B3 ty_Q rfl h.1 (eQ.csz hq)).eq hvq.symm,fun _ h=>(B3 ty_Q rfl h.2.1 (eQ.csz hx)).eq hvx.symm,fun _ h=>(B3 ty_Q rfl h.2.2 (eQ.csz hy)).eq hvy.symm,trivial⟩ ?_)
 intro w4 e4 _
 refine .gv ⟨hb.ext e4,k3.ext e4,k4.ext e4⟩ rfl (A1 _ AH7 rfl (AG9 (up3.ext e4.size) (hq3.ext e4) (hx3.ext e4) hkq.1 hkx.1 hL (by omega))) ?_
 rintro v5 w5 ⟨e5,h5⟩
 have e45:=e4.trans e5
 have hkm:qk (L+L) (qc (qval q*qval x)):=AF0 (hkq.2.mul hkx.2)
 refine .gv ⟨hb.ext e45,k3.ext e45,k4.ext e45⟩ rfl (A1 _ AA0 rfl (AH0 (up3.ext e45.size) h5 (hy3.ext e45) hkm.1 (hky.1.mono (by omega)) (by omega) (by omega))) ?_
 rintro v6 w6 ⟨e6,h6⟩
 rw [C4] at h6
 have e46:=e45.trans e6
 have hc6:=eQ.csz h6
 refine .gv ⟨hb.ext e46,k3.ext e46,k4.ext e46⟩ rfl (I8 ty_Q rfl rfl (k5.ext e46) hc6 (Nat.le_refl _) (eQ.one h6)) ?_
 rintro _ w7 ⟨k7,u7⟩
 rw [X5 _ _ (by rw [Array.length_toList,hc6];rfl)] at k7
 simp only [Array.toArray_toList] at k7
 refine .nil (.inl rfl) (.ret ?_)
 have h7:=h6.upd u7 hS5
 exact .cell Tryz.results254 rfl ty_Q rfl rfl k7 h7 ⟨u7.below (x3.trans e46) (by omega),h7.out⟩
theorem AQ2:Ent Tryz.prog 210:=A0 Tryz.func210 (by kernel_rfl) rfl
theorem AP6 {S:Nat→Prop} {w:World} {vq va vb:Value} {q:QV} {a b:List QV} {L:Nat} (up:Up S w) (hq:eQ.R S w vq q) (ha:eV.R S w va a) (hb:eV.R S w vb b) (hla:a.length≤1000000000) (hlb:b.length≤1000000000) (hkq:qk L q) (hka:vk L a) (hkb:vk L b) (hL:1≤L) (hL2:L≤10000000000) :
  CR Tryz.prog 210 #[vq,va,vb] w (eV.at S (tab (max a.length b.length) fun k=>qval q*rv a k+rv b k)):=by
 have hlq:=ER.lt eQ hq
 refine enter Tryz.func210 rfl Tryz.ntmps210 rfl ?_
 refine .seq (.region (.box rfl rfl fun w1 b3 n1=>.asg rfl rfl (.nil ?_)))
 obtain ⟨e1,k3,hb3,hs1⟩:=n1
 refine .seq (.region (.mv rfl rfl (.mv rfl rfl (.mkf [] [_] rfl rfl rfl rfl ?_))))
 refine .call _ rfl AX6 rfl (AW6 (g:=fun k=>qc (qval q*rv a k+rv b k)) (up.ext e1.size) (ha.ext e1) (hb.ext e1) hla hlb Ad6 fun W T i x y hB hT hup hi hx hy=>?_) fun v1 w2 e2 h1=>.asg rfl rfl (.nil (.ret ?_))
 ·refine Ad8 hup ((hB.block b3 k3.lt).trans k3) ?_ hx hy hkq (hka.get hL i) (hkb.get hL i) hL hL2
  have hq1:eQ.R (fun k=>S k∧k<w.heap.size) W vq q:=eQ.keep (fun k c t f hk h=>((e1.trans (hB.mono (Nat.le_refl _))).block k hk.2).trans h) hlq
  exact eQ.mono (fun k _ hk=>hT k hk.1 (by have:=e1.size;omega)) hq1
 ·exact .plain [_] Tryz.results210 ⟨rfl,trivial⟩ ⟨e1.trans e2,h1⟩
end Go.Proofs.YtfilidfomgfnhaaGreat

namespace Go.Proofs.YtfilidfomgfnhaaGreat
open Go Go.Kx Go.RowKit
theorem ty_FD:tyOf Tryz.prog 131=some (false,1):=by kernel_rfl
theorem zero_FD:zeroOf Tryz.prog 131=some .nilFunc:=by kernel_rfl
theorem Ay1 {P:Program} {σ:Env} {w:World} {d:Option Tmp} {ty:TypeId} {pos:String} {af:Array Edge} {gd:Option (Nat×Bool)} {α:Type} {E:ER α} {hsz:0<E.sz} {S:Nat→Prop} {v:Value} {l:List α} {t e:TypeId} {x:Operand} {b:Bool} {lo hi:Option Operand} (L H:Nat) (ht:P.underlying t=some (.slice e)) (he:tyOf P e=some (b,E.sz)) (hx:ev σ x=some v) (h:(RL E hsz).R S w v l)
  (hlo:match lo with | none=>L=0 | some y=>∃ k,ev σ y=some (.int k (L:Int))) (hhi:match hi with | none=>H=l.length | some y=>∃ k,ev σ y=some (.int k (H:Int))) (h1:L≤H) (h2:H≤l.length) :
  Gv P ⟨d,.slice t x lo hi none,ty,pos,af,gd⟩ σ w fun v' w'=>Ext w w'∧Sp.ok (.inr ((RL E hsz).at S ((l.take H).drop L))) v' w' :=
 (Az4 lo hi L H ht he hx h hlo hhi h1 h2).mono fun v' w' ⟨e1,hp⟩=>by subst e1;exact ⟨Ext.refl _,fun w'' e=>ER.ext _ hp e⟩
theorem E_Dot1:Ent Tryz.prog 127:=A0 Tryz.func127 (by kernel_rfl) rfl
theorem Dot1_c {S:Nat→Prop} {w:World} {vs vx vy:Value} {x y:QV} {r:Rat} {b:Nat} {L:Nat} (up:Up S w) (hSb:¬ S b) (hb:Blk w b 55 vs.cells) (hs:eQ.R S w vs (qc r)) (hx:eQ.R (fun _=>True) w vx x) (hy:eQ.R (fun _=>True) w vy y) (hks:qk L (qc r)) (hkx:qk L x) (hky:qk L y) (hL:1≤L) (hL2:L≤10000000000) :
  Calls Tryz.prog 127 #[vx,vy,.pointer (some ⟨b,0,none⟩)] w fun e w'=>∃ v,e=.returned v∧∃ w1 vs',Ext w w1∧Upd w1 w' b∧Blk w' b 55 vs'.cells∧eQ.R S w' vs' (qc (r+qval x*qval y)):=by
 have hvs:=shpA rfl hs
 have hvx:=shpA rfl hx
 have hvy:=shpA rfl hy
 refine enterG Tryz.func127 rfl Tryz.ntmps127 rfl ?_
 refine .seq (.region (.box rfl rfl fun w1 b3 n1=>.box rfl rfl fun w2 b4 n2=>.nil ?_))
 obtain ⟨e1,k3,hb3,hs1⟩:=n1
 obtain ⟨e2,k4,hb4,hs2⟩:=n2
 have x2:=e1.trans e2
 have k3:=k3.ext e2
 have hbl:=hb.lt
 refine .seq (.region (.ldA ty_Q rfl rfl k3 (eQ.csz hx) ?_))
 rw [←hvx]
 refine .call _ rfl P7 rfl (P1 (hx.ext x2)) fun v3 w3 e3 h3=>?_
 subst h3
 have x3:=x2.trans e3
 have skip:∀ {W:World},Ext w W→qval x*qval y=0→∃ w1 vs',Ext w w1∧Upd w1 W b∧Blk W b 55 vs'.cells∧eQ.R S W vs' (qc (r+qval x*qval y)):=by
  intro W hW h0
  refine ⟨W,vs,hW,Upd.refl _ _,hb.ext hW,?_⟩
  rw [h0,Rat.add_zero];exact hs.ext hW
 by_cases h0:qval x=0
 ·refine .neqF rfl rfl rfl (N5.2 h0) (.mv rfl rfl (.gs rfl rfl rfl rfl rfl (.gs rfl rfl rfl rfl rfl (.gs rfl rfl rfl rfl rfl (.pick rfl rfl rfl (.nil (.condF rfl (.skip ?_))))))))
  exact .plain [] Tryz.results127 trivial (skip x3 (by rw [h0,Rat.zero_mul]))
 ·refine .neqT rfl rfl rfl (fun h=>h0 (N5.1 h)) (.mv rfl rfl (.gr rfl rfl rfl rfl (.ldA ty_Q rfl rfl (k4.ext e3) (eQ.csz hy) ?_)))
  rw [←hvy]
  refine .gr rfl rfl rfl rfl (.call _ rfl P7 rfl (P1 (hy.ext x3)) fun v4 w4 e4 h4=>?_)
  subst h4
  have x4:=x3.trans e4
  have e34:=e3.trans e4
  by_cases h1:qval y=0
  ·refine .gr rfl rfl rfl rfl (.neqF rfl rfl rfl (N5.2 h1) (.pick rfl rfl rfl (.nil (.condF rfl (.skip ?_)))))
   exact .plain [] Tryz.results127 trivial (skip x4 (by rw [h1,Rat.mul_zero]))
  ·refine .gr rfl rfl rfl rfl (.neqT rfl rfl rfl (fun h=>h1 (N5.1 h)) (.pick rfl rfl rfl (.nil (.condT rfl ?_))))
   have k3:=k3.ext e34
   have k4:=k4.ext e34
   have hb:=hb.ext x4
   have up4:=up.ext x4.size
   refine .held follows true (fun W=>Blk W b 55 vs.cells∧Blk W b3 55 vx.cells∧Blk W b4 55 vy.cells)
    [some vs,some vx,some vy,none,none,none] (by kernel_rfl) ⟨fun _ h=>(B3 ty_Q rfl h.1 (eQ.csz hs)).eq hvs.symm,fun _ h=>(B3 ty_Q rfl h.2.1 (eQ.csz hx)).eq hvx.symm,fun _ h=>(B3 ty_Q rfl h.2.2 (eQ.csz hy)).eq hvy.symm,trivial⟩ ?_
   intro w5 e5 _
   have x5:=x4.trans e5
   refine .gv ⟨hb.ext e5,k3.ext e5,k4.ext e5⟩ rfl (A1 _ AH7 rfl (AG9 (fun _ _=>trivial) (hx.ext x5) (hy.ext x5) hkx.1 hky.1 hL (by omega))) ?_
   rintro v6 w6 ⟨e6,h6⟩
   have e56:=e5.trans e6
   have x6:=x5.trans e6
   have hkm:qk (L+L) (qc (qval x*qval y)):=AF0 (hkx.2.mul hky.2)
   refine .gv ⟨hb.ext e56,k3.ext e56,k4.ext e56⟩ rfl (A1 _ AA0 rfl (AU6 (S:=fun _=>True) (fun _ _=>trivial) (up4.ext e56.size) (eQ.mono (fun _ _ _=>trivial) (hs.ext x6)) h6 (hks.1.mono (by omega)) hkm.1 (by omega) (by omega))) ?_
   rintro v7 w7 ⟨e7,h7⟩
   rw [C4,C4] at h7
   have e57:=e56.trans e7
   have hc7:=eQ.csz h7
   refine .gv ⟨hb.ext e57,k3.ext e57,k4.ext e57⟩ rfl (I8 ty_Q rfl rfl (hb.ext e57) hc7 (by rw [eQ.csz hs];exact Nat.le_refl _) (eQ.one h7)) ?_
   rintro _ w8 ⟨k8,u8⟩
   rw [X5 _ _ (by rw [Array.length_toList,hc7,eQ.csz hs])] at k8
   simp only [Array.toArray_toList] at k8
   refine .nil (.inl rfl) ?_
   exact .plain [] Tryz.results127 trivial ⟨w7,v7,x6.trans e7,u8,k8,h7.upd u8 hSb⟩
/-- a sum on its way -/
structure DotJ (w0:World) (S:Nat→Prop) (b5 b6 p1 p2:Nat) (va vb:Value) (f:Nat→Rat) (k:Nat) (W:World):Prop where
 low:Below w0.heap.size w0 W
 fn:Blk W b6 131 #[.func (.func 127) #[] #[.pointer (some ⟨b5,0,none⟩)]]
 k1:Blk W p1 32 #[va]
 k2:Blk W p2 32 #[vb]
 acc:∃ vs,Blk W b5 55 vs.cells∧eQ.R (fun k=>S k∧k≠b5) W vs (qc (f k))
 out:∃ vz,Blk W (b5-1) 55 vz∧vz.size=4
theorem DotJ.sft {w0:World} {S:Nat→Prop} {b5 b6 p1 p2:Nat} {va vb:Value} {f:Nat→Rat} {k D:Nat} {W W':World} (h:DotJ w0 S b5 b6 p1 p2 va vb f k W) (hs:Sft D W W') (hD:w0.heap.size≤D):DotJ w0 S b5 b6 p1 p2 va vb f k W':=by
 obtain ⟨v,h1,h2⟩:=h.acc
 obtain ⟨vz,h3,h4⟩:=h.out
 exact ⟨h.low.trans (hs.below.mono hD),hs.cells.blk trivial h.fn,hs.cells.blk trivial h.k1,hs.cells.blk trivial h.k2,⟨v,hs.cells.blk trivial h1,eQ.keep (fun k c t f _ hc=>hs.cells k c t f trivial hc) h2⟩,vz,hs.cells.blk trivial h3,h4⟩
theorem Ap1 {a:List QV} {n k:Nat} (h:k<n):rv ((a.take n).drop 0) k=rv a k:=by
 unfold rv
 rw [List.drop_zero,List.getD_eq_getElem?_getD,List.getD_eq_getElem?_getD,List.getElem?_take,if_pos h]
theorem Au2:Ent Tryz.prog 62:=A0 Tryz.func62 (by kernel_rfl) rfl
theorem Ar0 {S T0:Nat→Prop} {w:World} {va vb:Value} {a b:List QV} {L:Nat} (upo:Up T0 w) (ha:eV.R S w va a) (hb:eV.R S w vb b) (hl:min a.length b.length≤1000) (hka:vk L a) (hkb:vk L b) (hL:1≤L) (hL2:L≤2000000) :
  CR Tryz.prog 62 #[va,vb] w (eQ.at T0 (qc (sumN (min a.length b.length) fun k=>rv a k*rv b k))):=by
 refine enter Tryz.func62 rfl Tryz.ntmps62 rfl ?_
 refine .seq (.region (.alloc rfl D2 fun w1 b4 n1=>.nil (.seq (.region (.alloc rfl D2 fun w2 b5 n2=>.nil (.seq (.region (.mkf [] [_] rfl rfl rfl rfl (.alloc rfl zero_FD fun w3 b6 n3=>?_)))))))))
 obtain ⟨e1,k4,hb4,hs1⟩:=n1
 obtain ⟨e2,k5,hb5,hs2⟩:=n2
 obtain ⟨e3,k6,hb6,hs3⟩:=n3
 refine .store ty_FD rfl rfl k6 rfl (by simp [Value.cells]) (by simp [one1,Value.cells]) fun w4 k6 u4=>.nil ?_
 have x3:=(e1.trans e2).trans e3
 have x4:Ext w w4:=u4.below x3 (by omega)
 have k4:=((k4.ext e2).ext e3).upd u4 (show b4≠b6 by omega)
 have k5:=(k5.ext e3).upd u4 (show b5≠b6 by omega)
 refine .seq (.region (.mv rfl rfl (.lenR un_V rfl rfl (ha.ext x4) (.mv rfl rfl (.lenR un_V rfl rfl (hb.ext x4) (.min_ rfl rfl rfl (.asg rfl rfl (.nil ?_))))))))
 rw [show (min (a.length:Int) (b.length:Int))=((min a.length b.length:Nat):Int) by omega]
 generalize hn:min a.length b.length=n at *
 refine .seq (.seq ?_)
 have ha0:=ER.lt eV ha
 have hb0:=ER.lt eV hb
 generalize hS0:(fun k=>S k∧k<w.heap.size)=S0 at *
 have hS0':∀ k,S0 k→S k∧k<w.heap.size:=fun k h=>by rw [←hS0] at h;exact h
 refine .par follows 6 [.inl _,.inl _,.inr (eV.at S0 ((a.take n).drop 0)),.inl _,.inl _,.inr (eV.at S0 ((b.take n).drop 0))] [[],[],[(16,0),(17,1)],[],[],[(19,3),(20,4)]] (by kernel_rfl) ⟨
  fun w e=>(v_mv rfl).ob,fun w e=>(v_mv rfl).ob,
  fun w e=>Ay1 0 n un_V ty_Q rfl ((ER.ext eV ha0 x4).ext e) rfl ⟨_,rfl⟩ (Nat.zero_le _) (by omega),
  fun w e=>(v_mv rfl).ob,fun w e=>(v_mv rfl).ob,
  fun w e=>Ay1 0 n un_V ty_Q rfl ((ER.ext eV hb0 x4).ext e) rfl ⟨_,rfl⟩ (Nat.zero_le _) (by omega),trivial⟩ ?_
 intro w5 e5 va' ha' vb' hb'
 have la:((a.take n).drop 0).length=n:=by simp;omega
 have lb:((b.take n).drop 0).length=n:=by simp;omega
 obtain ⟨aa,ca,hva,_⟩:=RL.len ha'
 obtain ⟨ab,cb,hvb,_⟩:=RL.len hb'
 refine .call _ rfl AO7 rfl (AN2 hva hvb) fun v6 w6 e6 h6=>.nil ?_
 obtain ⟨p1,p2,rfl,kp1,kp2,hp1,hp2⟩:=h6
 have x5:=x4.trans e5
 have x6:=x5.trans e6
 have e46:=e5.trans e6
 have hs4:w4.heap.size=w3.heap.size:=u4.size
 have hs5:=e5.size
 have hs6:=e6.size
 obtain ⟨esa,hA⟩:=RL.toEs ha'
 obtain ⟨esb,hB⟩:=RL.toEs hb'
 have hAB:∀ {W:World},Below w.heap.size w W→EsR eQ S0 W va' esa ((a.take n).drop 0)∧EsR eQ S0 W vb' esb ((b.take n).drop 0):=fun hL =>
  ⟨hA.keep (fun k c t f hk h=>((hL.block k (hS0' k hk).2).trans (x5.block k (hS0' k hk).2).symm).trans h),hB.keep (fun k c t f hk h=>((hL.block k (hS0' k hk).2).trans (x5.block k (hS0' k hk).2).symm).trans h)⟩
 have hfk:∀ k,k≤n→Rsz (sumN k fun k=>rv a k*rv b k) (1+k*(L+L+1)):=fun k hk=>Aw6 fun j hj=>(hka.rsz hL j).mul (hkb.rsz hL j)
 refine .block (.rangeA (AY1 (S:=S0) (a:=(a.take n).drop 0) (b:=(b.take n).drop 0) (esa:=esa) (esb:=esb) (va:=va') (vb:=vb') (by omega) (by omega)) rfl Aa2 (fun k=>rfl) (by decide)
  (DotJ w (fun k=>T0 k∧k≠b4) b5 b6 p1 p2 va' vb' fun k=>sumN k fun k=>rv a k*rv b k) (fun _ _=>False) (fun k W W' h hs=>h.sft hs x6.size) (fun _ _ _ h _=>h.elim) (fun k W h=>⟨h.k1,h.k2,hAB h.low⟩) ?_ ?_ ?_ (fun _ _ h=>h.elim))
 ·refine ⟨x6,k6.ext e46,kp1,kp2,⟨zq,k5.ext e46,?_⟩,zq.cells,?_,rfl⟩
  ·show eQ.R _ _ zq (qc 0)
   rw [AD3];exact zq_R
  ·rw [show b5-1=b4 by omega];exact k4.ext e46
 ·intro l k W hk hJ hsz
  rw [la,lb,Nat.max_self] at hk
  obtain ⟨hA1,hB1⟩:=hAB hJ.low
  have hxa:=hA1.get zq_R k
  have hxb:=hB1.get zq_R k
  have hva':=shpA rfl hxa
  have hvb':=shpA rfl hxb
  have hlw:=hJ.low.size
  refine .seq (.region (.alloc rfl D2 fun W1 c8 n8=>?_))
  obtain ⟨e8,k8,hc8,hs8⟩:=n8
  refine .storeA (E:=eQ) ty_Q rfl rfl k8 rfl rfl (hxa.ext e8) (fun h=>by have:=(hS0' _ h).2;omega) fun W2 k8 u8 _=>.nil ?_
  have x8:Ext W W2:=u8.below e8 (by omega)
  refine .region (.alloc rfl D2 fun W3 c9 n9=>?_)
  obtain ⟨e9,k9,hc9,hs9⟩:=n9
  have hs8':=u8.size
  refine .storeA (E:=eQ) ty_Q rfl rfl k9 rfl rfl ((hxb.ext x8).ext e9) (fun h=>by have:=(hS0' _ h).2;omega) fun W4 k9 u9 _=>.nil ?_
  have x9:Ext W W4:=u9.below (x8.trans e9) (by omega)
  have k8:=(k8.ext e9).upd u9 (show c8≠c9 by omega)
  refine ⟨rfl,x9,fun W5 hsf hsz5=>?_⟩
  have hJ5:=(hJ.sft (Sft.ext x9 hsz) x6.size).sft hsf x6.size
  have k8:=hsf.cells.blk trivial k8
  have k9:=hsf.cells.blk trivial k9
  clear hJ hxa hxb hA1 hB1
  obtain ⟨hlow,hfn,hp15,hp25,⟨vs,h5,hs⟩,vz,h4,hvz⟩:=hJ5
  obtain ⟨hA1,hB1⟩:=hAB hlow
  have hxa:=hA1.get zq_R k
  have hxb:=hB1.get zq_R k
  have hlw5:=hlow.size
  have hb5lt:=h5.lt
  refine .block (.region (.ld ty_FD rfl rfl hfn rfl (.ldA ty_Q rfl rfl k8 (eQ.csz hxa) (.ldA ty_Q rfl rfl k9 (eQ.csz hxb) ?_))))
  rw [←hva',←hvb']
  have hr:=hfk k (by omega)
  have hbig:1+k*(L+L+1)≤5000000000:=by
   have:k*(L+L+1)≤1000*4000001:=Nat.mul_le_mul (by omega) (by omega)
   omega
  have hbig1:L≤1+k*(L+L+1)+L:=by omega
  have hcall:=Dot1_c (S:=fun k=>(T0 k∧k≠b4)∧k≠b5) (L:=1+k*(L+L+1)+L) (fun k hk=>⟨⟨upo k (by omega),by omega⟩,by omega⟩) (fun h=>h.2 rfl) h5 hs (eQ.mono (fun _ _ _=>trivial) hxa) (eQ.mono (fun _ _ _=>trivial) hxb) ((AF0 hr).mono (by omega))
   (P0 (P:=qk _) (fun q hq=>(hka q (List.mem_of_mem_take (List.mem_of_mem_drop hq))).mono hbig1) (Ax3 (by omega)) k) (P0 (P:=qk _) (fun q hq=>(hkb q (List.mem_of_mem_take (List.mem_of_mem_drop hq))).mono hbig1) (Ax3 (by omega)) k) (by omega) (by omega)
  refine .callvG [_,_] rfl rfl E_Dot1 rfl hcall ?_
  rintro vr W7 ⟨W6,vs',e7,u7,k7,hr7⟩
  refine .nil ?_
  have hlow6:Below w.heap.size w W6:=hlow.trans (e7.mono hlow.size)
  have hlow7:Below w.heap.size w W7:=u7.below hlow6 (by omega)
  refine ⟨(Oth.ext e7).trans (Oth.upd u7 (h5.ext e7)),hlow7,(hfn.ext e7).upd u7 (by omega),(hp15.ext e7).upd u7 (by omega),(hp25.ext e7).upd u7 (by omega),⟨vs',k7,?_⟩,vz,(h4.ext e7).upd u7 (by omega),hvz⟩
  have e1:qval (((a.take n).drop 0).getD k q0)=rv a k:=Ap1 hk
  have e2:qval (((b.take n).drop 0).getD k q0)=rv b k:=Ap1 hk
  rw [e1,e2] at hr7
  exact hr7
 ·intro W hJ hD
  rw [la,lb,Nat.max_self] at hJ
  obtain ⟨hlow,hfn,hp15,hp25,⟨vs,h5,hs⟩,vz,h4,hvz⟩:=hJ
  have hb45:b5-1=b4:=by omega
  rw [hb45] at h4
  have hlws:=hlow.size
  have hvs:=shpA rfl hs
  refine .seq (.region (.ldA ty_Q rfl rfl h5 (eQ.csz hs) ?_))
  rw [←hvs]
  refine .storeA (E:=eQ) ty_Q rfl rfl h4 rfl hvz hs (fun h=>h.1.2 rfl) fun W2 k2 u2 h2=>.nil (.ret ?_)
  have hD2:=(Oth.upd u2 h4) _ _ hD rfl
  refine .mark [_] Tryz.results62 hD2 ⟨⟨_,rfl,C6 (E:=eQ) ty_Q rfl rfl ((Kp.put (S:=fun _=>True) hD2 rfl).blk trivial k2) (eQ.keep (Kp.put hD2 rfl) h2)⟩,trivial⟩ ⟨Q3 (u2.below hlow (by omega)) x6.size,?_⟩
  exact eQ.mono (fun k _ hk=>hk.1.1) (eQ.keep (Kp.put hD2 rfl) h2)
end Go.Proofs.YtfilidfomgfnhaaGreat

namespace Go.Proofs.YtfilidfomgfnhaaGreat
open Go Go.Kx Go.RowKit
theorem Au7:zeroOf Tryz.prog 3=some (.int .i64 0):=by kernel_rfl
def eqV (a b:List QV):Prop:=∀ k,rv a k=rv b k
noncomputable instance (a b:List QV):Decidable (eqV a b):=Classical.propDecidable _
end Go.Proofs.YtfilidfomgfnhaaGreat

namespace Go.Proofs.YtfilidfomgfnhaaGreat
open Go Go.Kx Go.RowKit
theorem un_L:Tryz.prog.underlying 106=some (.slice 2):=by kernel_rfl
abbrev eI:ER (List Int):=RL (eInt .i64)
end Go.Proofs.YtfilidfomgfnhaaGreat
