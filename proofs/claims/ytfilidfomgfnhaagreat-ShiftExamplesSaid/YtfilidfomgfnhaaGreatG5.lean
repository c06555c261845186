/-
  Package net: Check, Outs Loops that leave marks, the leaving behind several marks, a slice with three indexes. solve: Reduce, Rank, visit solve: augmented solve: particular solve: NullSpace solve: Solve, Certificate solve: Inverse solve: Det Solutions of linear equations: plain. law 04: small, alive law 04: alive The laws' Long: whatever is not long is small. The laws' Long for vectors and matrices Numbers by digits of sixteen bits: plain. The references: add, sub, times, cmp of magnitudes The references: times, sub, cmp, small, back, mul The references: back, mul The references: div The references: Sign, Neg, Abs, Add, Mul, Cmp of integers The references: Gcd, Div, Cmp of integers Regions that draw their order, with cells of their own that are known apart (printed by mkkv.py) The references: rational numbers: one, den, num, over, Least, Add, Mul, Neg, Sub, Sign, Cmp The references: rational numbers: Least, Add, Mul, Neg, Sub, Sign, Cmp The references: ref02 Sub, Cmp; vectors: At, Combine, Add, Scale, Dot The references: vectors: Combine, Add, Scale, Dot The references: matrices: At, row, place, made The references: matrices: place of a product, made, Mul, Turn, Beside The references: matrices: Mul, Turn, Beside, Times, Add The references: matrices: Add, Scale, Left The references: matrices: Left mat.Scale The laws' own copies: Own The laws' own copies: vectors and matrices Matrices with their bounds; the algebra of matrices: plain. law 04: MatRing law 05: long, tall; the references Of, Ints; vec.Sign law 05: what the answers of package solve satisfy; plain. law 05: what inverses and determinants satisfy; plain. law 05: every solution; plain. Package net: Outs, In Potentials on a network: plain. Package island: Of
-/
import Derived.Test.YtfilidfomgfnhaaGreatG4
set_option linter.unusedVariables false
namespace Go.Kx
open Go Go.RowKit
/-- a struct that holds a function -/
def eF:ER FuncId where
 sz:=1
 isA:=true
 R:=fun _ _ v f=>v=.agg #[.func (.func f) #[] #[]]
 csz:=by rintro S w e x rfl;rfl
 one:=by rintro S w e x rfl u hu;simp [Value.cells] at hu;subst hu;rfl
 shp:=by rintro S w e x rfl;rfl
 keep:=fun _ h=>h
 mono:=fun _ h=>h
abbrev eFs:ER (List FuncId):=RL eF
def ck (i:Nat) (b:Int) (l:LnV):Bool:=match i with
 | 0=>decide (0≤l.f) && decide (l.f<b)
 | 1=>decide (0≤l.t) && decide (l.t<b)
 | 2 => !(l.f == l.t)
 | 3=>decide (1≤l.x) && decide (l.x≤1000)
 | _=>decide (0≤l.c) && decide (l.c≤1000000)
def ckAll (b:Int) (l:LnV):Prop:=∀ i,i<5→ck i b l=true
def chkOk (n:NtV):Prop:=∀ i,i<n.ls.length→∀ l,n.ls[i]?=some l→ckAll n.b l
def outsOk (n:NtV) (o:List Int):Prop:=∀ i,i<o.length→0≤o.getD i 0∧o.getD i 0<n.ls.length∧(0<i→o.getD (i-1) 0<o.getD i 0)
open Classical in
noncomputable def chkE (n:NtV):Int:=if n.b<1∨6<n.b then 1 else if 10<n.ls.length then 5 else if chkOk n then 0 else 1
open Classical in
noncomputable def outE (n:NtV) (o:List Int):Int:=if chkE n≠0 then chkE n else if outsOk n o then 0 else 1
end Go.Kx
namespace Go.Proofs.YtfilidfomgfnhaaGreat
open Go Go.Kx Go.RowKit
theorem ty_N:tyOf Tryz.prog 24=some (true,2):=by kernel_rfl
theorem AA2:tyOf Tryz.prog 80=some (true,4):=by kernel_rfl
theorem AB1:tyOf Tryz.prog 22=some (false,1):=by kernel_rfl
theorem U9:Tryz.prog.underlying 22=some (.slice 80):=by kernel_rfl
theorem Aa3:zeroOf Tryz.prog 80=some (.agg #[.int .i64 0,.int .i64 0,.int .i64 0,.int .i64 0]):=by kernel_rfl
theorem P8:fldOf Tryz.prog 24 0=some 0:=by kernel_rfl
theorem Q9:fldOf Tryz.prog 24 1=some 1:=by kernel_rfl
theorem K9:fldOf Tryz.prog 80 0=some 0:=by kernel_rfl
theorem K8:fldOf Tryz.prog 80 1=some 1:=by kernel_rfl
theorem AR5:fldOf Tryz.prog 80 2=some 2:=by kernel_rfl
theorem Aq6:fldOf Tryz.prog 80 3=some 3:=by kernel_rfl
theorem un_Cs:Tryz.prog.underlying 197=some (.slice 201):=by kernel_rfl
theorem Aw1:tyOf Tryz.prog 201=some (true,1):=by kernel_rfl
theorem zero_Ck:zeroOf Tryz.prog 201=some (.agg #[.nilFunc]):=by kernel_rfl
theorem fld_Ck0:fldOf Tryz.prog 201 0=some 0:=by kernel_rfl
theorem ty_FCk:tyOf Tryz.prog 199=some (false,1):=by kernel_rfl
theorem AW1 {f:FuncId}:bldOf Tryz.prog 201 [(0,.func (.func f) #[] #[])]=some #[.func (.func f) #[] #[]]:=by kernel_rfl
theorem bsl_Ck5 {a b c d e:Value}:bslOf Tryz.prog 197 5 [(0,.agg #[a]),(1,.agg #[b]),(2,.agg #[c]),(3,.agg #[d]),(4,.agg #[e])]=some (201,#[a,b,c,d,e]):=by kernel_rfl
theorem AP3:Ent Tryz.prog 246:=A0 Tryz.func246 (by kernel_rfl) rfl
theorem AO3 {S:Nat→Prop} {w:World} {vn:Value} {n:NtV} {b:Int} (hn:eN.R S w vn n):CR Tryz.prog 246 #[vn,.int .i64 b] w (Is (.bool (decide (0≤b) && decide (b<n.b)))):=by
 obtain ⟨s,rfl,hs,_⟩:=hn
 refine enter Tryz.func246 rfl Tryz.ntmps246 rfl ?_
 refine .seq (.region (.box rfl rfl fun w1 b2 n1=>.asg rfl rfl (.nil ?_)))
 obtain ⟨e1,k2,_,_⟩:=n1
 refine .seq (.region (.mv rfl rfl ?_))
 by_cases h0:0≤b
 ·refine .leqT rfl rfl rfl h0 (.mv rfl rfl (.gr rfl rfl rfl rfl (.mv rfl rfl (.gr rfl rfl rfl rfl (.fa P8 rfl rfl (.gr rfl rfl rfl rfl (.ld A7 rfl rfl k2 rfl (.gr rfl rfl rfl rfl ?_))))))))
  rw [decide_eq_true h0]
  by_cases h1:b<n.b
  ·refine .lssT rfl rfl rfl h1 (.pick rfl rfl rfl (.asg rfl rfl (.nil (.ret ?_))))
   exact .plain [_] Tryz.results246 ⟨rfl,trivial⟩ ⟨e1,by rw [decide_eq_true h1]<;>rfl⟩
  ·refine .lssF rfl rfl rfl (by omega) (.pick rfl rfl rfl (.asg rfl rfl (.nil (.ret ?_))))
   exact .plain [_] Tryz.results246 ⟨rfl,trivial⟩ ⟨e1,by rw [decide_eq_false h1]<;>rfl⟩
 ·refine .leqF rfl rfl rfl (by omega) (.mv rfl rfl (.gs rfl rfl rfl rfl rfl (.gs rfl rfl rfl rfl rfl (.gs rfl rfl rfl rfl rfl (.gs rfl rfl rfl rfl rfl (.pick rfl rfl rfl (.asg rfl rfl (.nil (.ret ?_)))))))))
  exact .plain [_] Tryz.results246 ⟨rfl,trivial⟩ ⟨e1,by rw [decide_eq_false h0]<;>rfl⟩
section
variable {S:Nat→Prop} {w:World} {vn vl:Value} {n:NtV} {l:LnV}
theorem E_ck1:Ent Tryz.prog 245:=A0 Tryz.func245 (by kernel_rfl) rfl
theorem ck1_c (hn:eN.R S w vn n) (hl:eL.R S w vl l):CR Tryz.prog 245 #[vn,vl] w (Is (.bool (ck 0 n.b l))):=by
 have hvn:=shpA rfl hn
 obtain ⟨rfl,_⟩:=hl
 refine enter Tryz.func245 rfl Tryz.ntmps245 rfl ?_
 refine .seq (.region (.box rfl rfl fun w1 b2 n1=>.box rfl rfl fun w2 b3 n2=>.asg rfl rfl (.nil ?_)))
 obtain ⟨e1,k2,_,_⟩:=n1
 obtain ⟨e2,k3,_,_⟩:=n2
 refine .seq (.region (.ldA ty_N rfl rfl (k2.ext e2) (eN.csz hn) (.fa K9 rfl rfl (.ld A7 rfl rfl k3 rfl ?_))))
 rw [←hvn]
 refine .call _ rfl AP3 rfl (AO3 (hn.ext (e1.trans e2))) fun v3 w3 e3 h3=>.asg rfl rfl (.nil (.ret ?_))
 exact .plain [_] Tryz.results245 ⟨rfl,trivial⟩ ⟨(e1.trans e2).trans e3,h3⟩
theorem E_ck2:Ent Tryz.prog 247:=A0 Tryz.func247 (by kernel_rfl) rfl
theorem ck2_c (hn:eN.R S w vn n) (hl:eL.R S w vl l):CR Tryz.prog 247 #[vn,vl] w (Is (.bool (ck 1 n.b l))):=by
 have hvn:=shpA rfl hn
 obtain ⟨rfl,_⟩:=hl
 refine enter Tryz.func247 rfl Tryz.ntmps247 rfl ?_
 refine .seq (.region (.box rfl rfl fun w1 b2 n1=>.box rfl rfl fun w2 b3 n2=>.asg rfl rfl (.nil ?_)))
 obtain ⟨e1,k2,_,_⟩:=n1
 obtain ⟨e2,k3,_,_⟩:=n2
 refine .seq (.region (.ldA ty_N rfl rfl (k2.ext e2) (eN.csz hn) (.fa K8 rfl rfl (.ld A7 rfl rfl k3 rfl ?_))))
 rw [←hvn]
 refine .call _ rfl AP3 rfl (AO3 (hn.ext (e1.trans e2))) fun v3 w3 e3 h3=>.asg rfl rfl (.nil (.ret ?_))
 exact .plain [_] Tryz.results247 ⟨rfl,trivial⟩ ⟨(e1.trans e2).trans e3,h3⟩
theorem E_ck3:Ent Tryz.prog 248:=A0 Tryz.func248 (by kernel_rfl) rfl
theorem ck3_c (hl:eL.R S w vl l):CR Tryz.prog 248 #[vn,vl] w (Is (.bool (ck 2 n.b l))):=by
 obtain ⟨rfl,_⟩:=hl
 refine enter Tryz.func248 rfl Tryz.ntmps248 rfl ?_
 refine .seq (.region (.box rfl rfl fun w1 b2 n1=>.box rfl rfl fun w2 b3 n2=>.asg rfl rfl (.nil ?_)))
 obtain ⟨e1,k2,_,_⟩:=n1
 obtain ⟨e2,k3,_,_⟩:=n2
 refine .seq (.region (.fa K9 rfl rfl (.ld A7 rfl rfl k3 rfl (.fa K8 rfl rfl (.ld A7 rfl rfl k3 rfl (.neq rfl rfl rfl (.asg rfl rfl (.nil (.ret ?_)))))))))
 exact .plain [_] Tryz.results248 ⟨rfl,trivial⟩ ⟨e1.trans e2,rfl⟩
theorem E_ck4:Ent Tryz.prog 249:=A0 Tryz.func249 (by kernel_rfl) rfl
theorem ck4_c (hl:eL.R S w vl l):CR Tryz.prog 249 #[vn,vl] w (Is (.bool (ck 3 n.b l))):=by
 obtain ⟨rfl,_⟩:=hl
 refine enter Tryz.func249 rfl Tryz.ntmps249 rfl ?_
 refine .seq (.region (.box rfl rfl fun w1 b2 n1=>.box rfl rfl fun w2 b3 n2=>.asg rfl rfl (.nil ?_)))
 obtain ⟨e1,k2,_,_⟩:=n1
 obtain ⟨e2,k3,_,_⟩:=n2
 refine .seq (.region (.fa AR5 rfl rfl (.ld AB0 rfl rfl k3 rfl ?_)))
 by_cases h0:1≤l.x
 ·refine .leqT rfl rfl rfl h0 (.mv rfl rfl (.gr rfl rfl rfl rfl (.fa AR5 rfl rfl (.gr rfl rfl rfl rfl (.ld AB0 rfl rfl k3 rfl (.gr rfl rfl rfl rfl ?_))))))
  by_cases h1:l.x≤1000
  ·refine .leqT rfl rfl rfl h1 (.pick rfl rfl rfl (.asg rfl rfl (.nil (.ret ?_))))
   exact .plain [_] Tryz.results249 ⟨rfl,trivial⟩ ⟨e1.trans e2,by unfold ck;rw [decide_eq_true h0,decide_eq_true h1]<;>rfl⟩
  ·refine .leqF rfl rfl rfl (by omega) (.pick rfl rfl rfl (.asg rfl rfl (.nil (.ret ?_))))
   exact .plain [_] Tryz.results249 ⟨rfl,trivial⟩ ⟨e1.trans e2,by unfold ck;rw [decide_eq_true h0,decide_eq_false h1]<;>rfl⟩
 ·refine .leqF rfl rfl rfl (by omega) (.mv rfl rfl (.gs rfl rfl rfl rfl rfl (.gs rfl rfl rfl rfl rfl (.gs rfl rfl rfl rfl rfl (.pick rfl rfl rfl (.asg rfl rfl (.nil (.ret ?_))))))))
  exact .plain [_] Tryz.results249 ⟨rfl,trivial⟩ ⟨e1.trans e2,by unfold ck;rw [decide_eq_false h0]<;>rfl⟩
theorem E_ck5:Ent Tryz.prog 250:=A0 Tryz.func250 (by kernel_rfl) rfl
theorem ck5_c (hl:eL.R S w vl l):CR Tryz.prog 250 #[vn,vl] w (Is (.bool (ck 4 n.b l))):=by
 obtain ⟨rfl,_⟩:=hl
 refine enter Tryz.func250 rfl Tryz.ntmps250 rfl ?_
 refine .seq (.region (.box rfl rfl fun w1 b2 n1=>.box rfl rfl fun w2 b3 n2=>.asg rfl rfl (.nil ?_)))
 obtain ⟨e1,k2,_,_⟩:=n1
 obtain ⟨e2,k3,_,_⟩:=n2
 refine .seq (.region (.fa Aq6 rfl rfl (.ld AB0 rfl rfl k3 rfl ?_)))
 by_cases h0:0≤l.c
 ·refine .leqT rfl rfl rfl h0 (.mv rfl rfl (.gr rfl rfl rfl rfl (.fa Aq6 rfl rfl (.gr rfl rfl rfl rfl (.ld AB0 rfl rfl k3 rfl (.gr rfl rfl rfl rfl ?_))))))
  by_cases h1:l.c≤1000000
  ·refine .leqT rfl rfl rfl h1 (.pick rfl rfl rfl (.asg rfl rfl (.nil (.ret ?_))))
   exact .plain [_] Tryz.results250 ⟨rfl,trivial⟩ ⟨e1.trans e2,by unfold ck;rw [decide_eq_true h0,decide_eq_true h1]<;>rfl⟩
  ·refine .leqF rfl rfl rfl (by omega) (.pick rfl rfl rfl (.asg rfl rfl (.nil (.ret ?_))))
   exact .plain [_] Tryz.results250 ⟨rfl,trivial⟩ ⟨e1.trans e2,by unfold ck;rw [decide_eq_true h0,decide_eq_false h1]<;>rfl⟩
 ·refine .leqF rfl rfl rfl (by omega) (.mv rfl rfl (.gs rfl rfl rfl rfl rfl (.gs rfl rfl rfl rfl rfl (.gs rfl rfl rfl rfl rfl (.pick rfl rfl rfl (.asg rfl rfl (.nil (.ret ?_))))))))
  exact .plain [_] Tryz.results250 ⟨rfl,trivial⟩ ⟨e1.trans e2,by unfold ck;rw [decide_eq_false h0]<;>rfl⟩
end
def ckFs:List FuncId:=[245,247,248,249,250]
theorem ckFs_c {S:Nat→Prop} {w:World} {vn vl:Value} {n:NtV} {l:LnV} (hn:eN.R S w vn n) (hl:eL.R S w vl l) {i:Nat} {f:FuncId} (hf:ckFs[i]?=some f):Ent Tryz.prog f∧CR Tryz.prog f #[vn,vl] w (Is (.bool (ck i n.b l))):=by
 match i with
 | 0=>cases hf;exact ⟨E_ck1,ck1_c hn hl⟩
 | 1=>cases hf;exact ⟨E_ck2,ck2_c hn hl⟩
 | 2=>cases hf;exact ⟨E_ck3,ck3_c hl⟩
 | 3=>cases hf;exact ⟨E_ck4,ck4_c hl⟩
 | 4=>cases hf;exact ⟨E_ck5,ck5_c hl⟩
 | i+5=>simp [ckFs] at hf
theorem Ad2:Ent Tryz.prog 199:=A0 Tryz.func199 (by kernel_rfl) rfl
theorem Ab8 {w:World}:CR Tryz.prog 199 #[] w (eFs.at (fun _=>True) ckFs):=by
 refine enter Tryz.func199 rfl Tryz.ntmps199 rfl ?_
 refine .seq (.region (.asg rfl rfl (.nil ?_)))
 refine .seq (.region (.bld _ rfl rfl AW1 (.bld _ rfl rfl AW1 (.bld _ rfl rfl AW1 (.bld _ rfl rfl AW1 (.bld _ rfl rfl AW1 (.bsl _ rfl rfl bsl_Ck5 fun w1 b1 n1=>.asg rfl rfl (.nil (.ret ?_)))))))))
 refine .plain [_] Tryz.results199 ⟨rfl,trivial⟩ ⟨n1.1,?_⟩
 exact Am3 (E:=eF) [.agg #[.func (.func 245) #[] #[]],.agg #[.func (.func 247) #[] #[]],.agg #[.func (.func 248) #[] #[]],.agg #[.func (.func 249) #[] #[]],.agg #[.func (.func 250) #[] #[]]] ckFs n1 (fun _ _=>trivial) rfl rfl (by decide) (Els.snoc (Els.snoc (Els.snoc (Els.snoc (Els.snoc Els.nil rfl) rfl) rfl) rfl) rfl)
theorem Aj2:Ent Tryz.prog 139:=A0 Tryz.func139 (by kernel_rfl) rfl
theorem Ag1 {S:Nat→Prop} {w:World} {vn:Value} {n:NtV} (hn:eN.R S w vn n):CR Tryz.prog 139 #[vn] w (Is (.int .i64 (chkE n))):=by
 obtain ⟨s,rfl,hs,hb⟩:=hn
 have hn:eN.R S w (.agg #[.int .i64 n.b,s]) n:=⟨s,rfl,hs,hb⟩
 obtain ⟨_,_,_,_,hll⟩:=RL.len hs
 refine enter Tryz.func139 rfl Tryz.ntmps139 rfl ?_
 refine .seq (.region (.box rfl rfl fun w1 b1 n1=>.asg rfl rfl (.nil ?_)))
 obtain ⟨e1,k1,hb1,hs1⟩:=n1
 have hB:n.b<1∨6<n.b→chkE n=1:=fun h=>by unfold chkE;rw [if_pos h]
 refine .scope (.seq (.seq (.region (.fa P8 rfl rfl (.ld A7 rfl rfl k1 rfl ?_)))))
 by_cases h1:n.b<1
 ·refine .lssT rfl rfl rfl h1 (.mv rfl rfl (.gs rfl rfl rfl rfl rfl (.gs rfl rfl rfl rfl rfl (.gs rfl rfl rfl rfl rfl (.pick rfl rfl rfl (.nil (.condT rfl (.seq (.region (.asg rfl rfl (.nil (.ret ?_))))))))))))
  exact .plain [_] Tryz.results139 ⟨rfl,trivial⟩ ⟨e1,by rw [hB (.inl h1)];rfl⟩
 refine .lssF rfl rfl rfl (by omega) (.mv rfl rfl (.gr rfl rfl rfl rfl (.fa P8 rfl rfl (.gr rfl rfl rfl rfl (.ld A7 rfl rfl k1 rfl (.gr rfl rfl rfl rfl ?_))))))
 by_cases h6:6<n.b
 ·refine .gtrT rfl rfl rfl h6 (.pick rfl rfl rfl (.nil (.condT rfl (.seq (.region (.asg rfl rfl (.nil (.ret ?_))))))))
  exact .plain [_] Tryz.results139 ⟨rfl,trivial⟩ ⟨e1,by rw [hB (.inr h6)];rfl⟩
 refine .gtrF rfl rfl rfl (by omega) (.pick rfl rfl rfl (.nil (.condF rfl (.skip (.seq (.seq (.region (.fa Q9 rfl rfl (.ld AB1 rfl rfl k1 rfl (.lenR U9 rfl rfl (hs.ext e1) ?_))))))))))
 by_cases h10:10<n.ls.length
 ·refine .gtrT rfl rfl rfl (by omega) (.nil (.condT rfl (.seq (.region (.asg rfl rfl (.nil (.ret ?_)))))))
  exact .plain [_] Tryz.results139 ⟨rfl,trivial⟩ ⟨e1,by unfold chkE;rw [if_neg (by omega),if_pos h10]<;>rfl⟩
 have hE:chkOk n→chkE n=0:=fun h=>by unfold chkE;rw [if_neg (by omega),if_neg h10,if_pos h]
 have hE1:¬ chkOk n→chkE n=1:=fun h=>by unfold chkE;rw [if_neg (by omega),if_neg h10,if_neg h]
 refine .gtrF rfl rfl rfl (by omega) (.nil (.condF rfl (.skip (.seq (.region (.asg rfl rfl (.nil (.seq (.region ?_)))))))))
 refine .call _ rfl Ad2 rfl Ab8 fun va w2 e2 hF=>.asg rfl rfl (.nil (.seq (.label ?_)))
 have x2:=e1.trans e2
 have k1:=k1.ext e2
 refine .seq (.seq (.region (.fa Q9 rfl rfl (.ld AB1 rfl rfl k1 rfl (.lenR U9 rfl rfl (hs.ext x2) (.mv rfl rfl (.nil ?_)))))))
 have hret:∀ {W:World} {σ:Env} {e:Int},Ext w W→chkE n=e→Leave Tryz.prog Tryz.f139 44 (fun v w'=>Ext w w'∧Is (.int .i64 (chkE n)) v w') ((2,.int .i64 e)::σ) [] W:=fun hW he=>.plain [_] Tryz.results139 ⟨rfl,trivial⟩ ⟨hW,by rw [he];rfl⟩
 refine .block (.loop (α:=Nat) (fun i=>[(1,.pointer (some ⟨b1,0,none⟩)),(3,.int .i64 0),(4,va),(23,s),(24,.int .i64 (n.ls.length:Nat)),(25,.int .i64 (i:Nat))]) (fun i W=>Ext w2 W∧i≤n.ls.length∧∀ j,j<i→∀ l,n.ls[j]?=some l→ckAll n.b l) (fun i=>n.ls.length-i) 0 ?_ ?_ ?_)
 ·exact lkA rfl
 ·exact ⟨Ext.refl _,Nat.zero_le _,fun j hj=>absurd hj (Nat.not_lt_zero _)⟩
 rintro i W ⟨hW,hi,hall⟩
 refine .seq (.region ?_)
 rcases Nat.lt_or_ge i n.ls.length with hlt | hge
 rotate_left
 ·refine .lssF rfl rfl rfl (by omega) (.nil (.seq (.condF rfl (.exit (.seq (.region (.mv rfl rfl (.asg rfl rfl (.nil ?_)))))))))
  exact .ret (hret (x2.trans hW) (hE fun j hj l hl=>hall j (by omega) l hl))
 refine .lssT rfl rfl rfl (by omega) (.nil (.seq (.condT rfl (.skip (.seq (.block (.seq (.region ?_))))))))
 have hy:n.ls[i]?=some n.ls[i]:=List.getElem?_eq_getElem hlt
 refine .ixN (i:=i) U9 AA2 rfl rfl (hs.ext (x2.trans hW)) rfl hy fun p hp=>.ldE (E:=eL) AA2 rfl rfl hp fun vl hl=>?_
 refine .alloc rfl Aa3 fun W1 b6 n1=>?_
 obtain ⟨f1,k6,hb6,hs1'⟩:=n1
 refine .storeA (E:=eL) (S:=fun k=>k≠b6) (z:=n.ls[i]) AA2 rfl rfl k6 rfl rfl hl (fun h=>h rfl) fun W2 k6 u6 hl6=>.nil ?_
 have f2:Ext W W2:=u6.below f1 (by omega)
 have hW2:=hW.trans f2
 have hvl:=shpA (E:=eL) rfl hl6
 refine .seq (.region (.mv rfl rfl (.lenR un_Cs rfl rfl (ER.ext eFs hF hW2) (.mv rfl rfl (.nil ?_)))))
 refine .block (.loop (α:=Nat) (fun j=>[(1,.pointer (some ⟨b1,0,none⟩)),(3,.int .i64 0),(4,va),(23,s),(24,.int .i64 (n.ls.length:Nat)),(25,.int .i64 (i:Nat)),(6,.pointer (some ⟨b6,0,none⟩)),(29,va),(30,.int .i64 5),(31,.int .i64 (j:Nat))]) (fun j W'=>Ext W2 W'∧j≤5∧∀ c,c<j→ck c n.b n.ls[i]=true) (fun j=>5-j) 0 ?_ ?_ ?_)
 ·exact lkA rfl
 ·exact ⟨Ext.refl _,Nat.zero_le _,fun j hj=>absurd hj (Nat.not_lt_zero _)⟩
 rintro j W3 ⟨hW3,hj,hck⟩
 refine .seq (.region ?_)
 rcases Nat.lt_or_ge j 5 with hjl | hge
 rotate_left
 ·refine .lssF rfl rfl rfl (by omega) (.nil (.seq (.condF rfl (.exit ?_))))
  have:j=5:=by omega
  subst this
  have hc:ckAll n.b n.ls[i]:=hck
  refine .region (.add rfl rfl rfl (.mv rfl rfl (.nil ?_)))
  rw [wI (by omega)]
  refine ⟨rfl,i+1,lkA rfl,⟨hW2.trans hW3,hlt,fun j' hj' l' hl'=>?_⟩,by show n.ls.length-(i+1)<n.ls.length-i;omega⟩
  by_cases e:j'=i
  ·rw [e,hy] at hl';cases hl';exact hc
  ·exact hall j' (by omega) l' hl'
 refine .lssT rfl rfl rfl (by omega) (.nil (.seq (.condT rfl (.skip (.seq (.block (.seq (.region ?_))))))))
 obtain ⟨f,hf⟩:∃ f,ckFs[j]?=some f:=⟨_,List.getElem?_eq_getElem (by exact hjl)⟩
 refine .ixN (i:=j) un_Cs Aw1 rfl rfl (ER.ext eFs hF (hW2.trans hW3)) rfl hf fun p hp=>.ldE (E:=eF) Aw1 rfl rfl hp fun vf hvf=>?_
 replace hvf:vf=.agg #[.func (.func f) #[] #[]]:=hvf
 subst hvf
 refine .alloc rfl zero_Ck fun W4 b8 n4=>?_
 obtain ⟨f4,k8,hb8,hs4⟩:=n4
 refine .store Aw1 rfl rfl k8 rfl (by simp [Value.cells]) (by simp [one1,Value.cells]) fun W5 k8 u5=>.nil ?_
 have f5:Ext W3 W5:=u5.below f4 (by omega)
 have hW5:=hW3.trans f5
 have xW5:=x2.trans (hW2.trans hW5)
 obtain ⟨hEf,hcf⟩:=ckFs_c (hn.ext xW5) (ER.ext eL (S:=fun k=>k≠b6) hl6 hW5) hf
 refine .seq (.region (.fa fld_Ck0 rfl rfl (.ld ty_FCk rfl rfl k8 rfl (.ldA ty_N rfl rfl (k1.ext (hW2.trans hW5)) rfl (.ldA AA2 rfl rfl (k6.ext hW5) (eL.csz hl6) ?_)))))
 rw [←hvl]
 refine .callv [_,_] rfl rfl hEf rfl hcf fun v6 W6 e6 h6=>?_
 subst h6
 by_cases hc:ck j n.b n.ls[i]=true
 ·rw [hc]
  refine .not_ rfl rfl (.nil (.condF rfl (.skip (.region (.add rfl rfl rfl (.mv rfl rfl (.nil ?_)))))))
  rw [wI (by omega)]
  refine ⟨rfl,j+1,lkA rfl,⟨hW5.trans e6,hjl,fun c hc'=>?_⟩,by show 5-(j+1)<5-j;omega⟩
  by_cases e:c=j
  ·subst e;exact hc
  ·exact hck c (by omega)
 ·rw [Bool.not_eq_true] at hc
  rw [hc]
  refine .not_ rfl rfl (.nil (.condT rfl (.seq (.region (.asg rfl rfl (.nil (.exit (.seq (.region (.mv rfl rfl (.asg rfl rfl (.nil ?_))))))))))))
  refine .ret (hret (xW5.trans e6) (hE1 fun h=>?_))
  have:=h i hlt _ hy j hjl
  rw [hc] at this
  cases this
end Go.Proofs.YtfilidfomgfnhaaGreat

namespace Go.Kx
open Go Go.RowKit
section
variable {P:Program} {ro:Option Nat} {N:Nat} {Q:Pst} {σ:Env} {ds:List Deferred} {w:World}
end
section
variable {P:Program} {ro:Option Nat} {N:Nat} {ds:List Deferred} {ops:Array Oper} {K:Env→World→Prop} {rest:List Oper} {σ:Env} {w:World} {d:Tmp} {ty:TypeId} {pos:String} {af:Array Edge}
theorem RL.first {α:Type} {E:ER α} {hsz:0<E.sz} {S:Nat→Prop} {a:Option Addr} {n c H c':Nat} {l:List α} (h:(RL E hsz).R S w (.slice a n c) l) (hH:H≤l.length) (hc:H≤c'):(RL E hsz).R S w (.slice a H c') (l.take H):=by
 have h1:=RL.sub h rfl 0 H (Nat.zero_le _) hH
 obtain ⟨es,he,a',c'',hv,h3,h4,h5,h6⟩:=h1
 have hl:((l.take H).drop 0).length=H:=by simp;omega
 rw [List.drop_zero] at *
 refine ⟨es,he,a,c',by rw [show (l.take H).length=H by simp;omega],by rw [show (l.take H).length=H by simp;omega];exact hc,h4,h5,fun hn=>?_⟩
 obtain ⟨ad,ha,hS,hcl⟩:=h6 hn
 refine ⟨ad,?_,hS,hcl⟩
 simp only [Nat.sub_zero,Nat.zero_mul] at hv
 injection hv with e1 e2 e3
 rw [←ha,←e1]
 obtain ⟨_,_,_,hv2,hcc,_⟩:=h
 split
 ·rfl
 ·cases a with
  | none=>rfl
  | some x=>rfl
end
/-! a matrix with a new row h at i that is still being filled -/
def FBx (t:TypeId) (S:Nat→Prop) (w:World) (gb h i:Nat) (hv:Value) (l:List (List QV)):Prop :=
 ∃ es,Blk w gb t (cellsOf es).toArray∧es.length=l.length∧(∀ e∈es,e.cells.size=1)∧es[i]?=some hv∧∀ (j:Nat) (e:Value) (x:List QV),j≠i→es[j]?=some e→l[j]?=some x→eV.R (fun k=>(S k∧k≠gb)∧k≠h) w e x
section
variable {t:TypeId} {S:Nat→Prop} {w w':World} {gb h i:Nat} {hv:Value} {l:List (List QV)}
theorem FBx.keep (hF:FBx t S w gb h i hv l) (hk:Kp (fun k=>k≠h) w w') (hg:gb≠h):FBx t S w' gb h i hv l:=by
 obtain ⟨es,h1,h2,h3,h4,h5⟩:=hF
 exact ⟨es,hk.blk hg h1,h2,h3,h4,fun j e x hj he hx=>eV.keep (fun k c t f hh hc=>hk k c t f hh.2 hc) (h5 j e x hj he hx)⟩
theorem FBx.ptr (hF:FBx t S w gb h i hv l) (h1:hv.cells=#[hv]):w.cell? ⟨gb,0+i*1,none⟩=some hv:=by
 obtain ⟨es,hb,h2,h3,h4,h5⟩:=hF
 have:=D1 es i 0 hv h3 h4 (by decide)
 rw [hb.cell,List.getElem?_toArray,show 0+i*1=i*1+0 by omega,this,h1];rfl
theorem FBx.done {r:List QV} (hF:FBx t S w gb h i hv l) (hr:eV.R (fun k=>S k∧k≠gb) w hv r):FB eV t S w gb (l.set i r):=by
 obtain ⟨es,h1,h2,h3,h4,h5⟩:=hF
 refine ⟨es,h1,by simp [h2],fun j e x he hx=>?_⟩
 by_cases hj:j=i
 ·subst hj
  rw [h4] at he;cases he
  rw [List.getElem?_set_self (by rw [←h2];exact (List.getElem?_eq_some_iff.1 h4).1)] at hx
  cases hx;exact hr
 ·rw [List.getElem?_set_ne (fun e=>hj e.symm)] at hx
  exact eV.mono (fun k _ hk=>hk.1) (h5 j e x hj he hx)
/-- the store of the new row's slice -/
theorem FBx.start {P:Program} {σ:Env} {ty:TypeId} {pos:String} {af:Array Edge} {dd:Option Tmp} {gd:Option (Nat×Bool)} {tt:TypeId} {x y:Operand} {w1:World} {tq:TypeId} {cs:Array Value} {n c:Nat} (ht:tyOf P tt=some (false,1)) (hF:FB eV t S w gb l) (hn:New w w1 h tq cs) (hi:i<l.length)
  (hx:ev σ x=some (.pointer (some ⟨gb,0+i*1,none⟩))) (hy:ev σ y=some (.slice (some ⟨h,0,none⟩) n c)) :
  Gv P ⟨dd,.store tt x y,ty,pos,af,gd⟩ σ w1 fun _ w'=>FBx t S w' gb h i (.slice (some ⟨h,0,none⟩) n c) l∧Upd w1 w' gb∧Blk w' h tq cs∧gb≠h:=by
 obtain ⟨e1,k1,hh,hs⟩:=hn
 have hlt:=hF.lt
 obtain ⟨es,hb,hels⟩:=hF
 have hesz:=hels.sz
 have hle:i*1+1≤(cellsOf es).toArray.size:=by
  rw [List.size_toArray,C1 es hesz,hels.1];show i*1+1≤l.length*1;omega
 refine (I8 (n:=1) ht (by rw [hx,Nat.zero_add]) hy (hb.ext e1) rfl hle (by simp [one1,Value.cells])).mono ?_
 rintro _ w2 ⟨hB',u⟩
 have hset:=AC4 (sz:=1) (by decide) es i (.slice (some ⟨h,0,none⟩) n c) hesz rfl (by rw [hels.1];exact hi)
 have hne:gb≠h:=by omega
 rw [hset] at hB'
 refine ⟨⟨es.set i (.slice (some ⟨h,0,none⟩) n c),hB',by simp [hels.1],fun e he=>?_,?_,fun j e x hj he hx'=>?_⟩,u,k1.upd u (fun e=>hne e.symm),hne⟩
 ·rcases List.mem_or_eq_of_mem_set he with h' | h'
  ·exact hesz e h'
  ·rw [h'];rfl
 ·rw [List.getElem?_set_self (by rw [hels.1];exact hi)]
 ·rw [List.getElem?_set_ne (fun e=>hj e.symm)] at he
  have h1:=ER.lt eV (hels.2 j e x he hx')
  have h2:=(ER.ext eV h1 e1).upd u (fun hh=>hh.1.2 rfl)
  exact eV.mono (fun k _ hk=>⟨hk.1,by have:=hk.2;omega⟩) h2
end
end Go.Kx

namespace Go.Kx
open Go Go.RowKit
/-- the reduced form of a matrix and its pivots -/
def redF (m:List (List QV)):RM:=(elim m.length (rm m) (colsOf m)).1
def redP (m:List (List QV)):List Nat:=(elim m.length (rm m) (colsOf m)).2
theorem Ab3 (m:List (List QV)):Ech m.length (colsOf m) (redF m) (redP m):=P2 _ _ _
end Go.Kx
namespace Go.Proofs.YtfilidfomgfnhaaGreat
open Go Go.Kx Go.RowKit
theorem E_ign1:Ent Tryz.prog 211:=A0 Tryz.func211 (by kernel_rfl) rfl
theorem E_ign2:Ent Tryz.prog 212:=A0 Tryz.func212 (by kernel_rfl) rfl
theorem evs_ign {M:Nat} {S0:Nat→Prop}:Evs Tryz.prog 211 212 #[] #[] M S0 (fun _=>False) (fun _ _ _ _=>True) where
 entE:=E_ign1
 entS:=E_ign2
 mono:=fun _ _=>trivial
 chg:=fun _ _=>trivial
 exch:=fun {Z j d W} _ _=>by
  refine enterG Tryz.func211 rfl Tryz.ntmps211 rfl ?_
  exact .skip (.plain [] Tryz.results211 trivial ⟨Chg.refl _,trivial⟩)
 scal:=fun {Z j d W v q} _ _ _ _ _=>by
  refine enterG Tryz.func212 rfl Tryz.ntmps212 rfl ?_
  refine .region (.box rfl rfl fun w1 b1 n1=>.nil ?_)
  exact .plain [] Tryz.results212 trivial ⟨Chg.ext n1.1,trivial⟩
theorem ty_I:tyOf Tryz.prog 25=some (false,1):=by kernel_rfl
end Go.Proofs.YtfilidfomgfnhaaGreat

namespace Go.Kx
open Go Go.RowKit
end Go.Kx
namespace Go.Proofs.YtfilidfomgfnhaaGreat
open Go Go.Kx Go.RowKit
end Go.Proofs.YtfilidfomgfnhaaGreat

namespace Go.Kx
open Go Go.RowKit
theorem Aa1 (n c:Nat) (f:RM):colsOf (tabM n c f)=if n=0 then 0 else c:=by
 by_cases h0:n=0
 ·subst h0;rfl
 ·rw [if_neg h0]
  refine Nat.le_antisymm (At7 fun r hr=>?_) ?_
  ·obtain ⟨i,_,rfl⟩:=List.mem_map.1 hr
   rw [A5];exact Nat.le_refl _
  ·have:=Am4 (m:=tabM n c f) (r:=tab c (f 0)) (List.mem_map.2 ⟨0,List.mem_range.2 (by omega),rfl⟩)
   rwa [A5] at this
end Go.Kx
namespace Go.Proofs.YtfilidfomgfnhaaGreat
open Go Go.Kx Go.RowKit
theorem F6 {p:List Nat} {j:Nat} (h:j<p.length):p.getD j 0∈p:=List.mem_iff_getElem?.2 ⟨j,A9 h⟩
end Go.Proofs.YtfilidfomgfnhaaGreat

namespace Go.Kx
open Go Go.RowKit
def freeTo (p:List Nat) (i:Nat):List Nat:=(List.range i).filter fun k => !(decide (k∈p))
def freeC (m:List (List QV)):List Nat:=freeTo (redP m) (colsOf m)
/-- the basis of the null space -/
def nullM (m:List (List QV)):List (List QV):=(freeC m).map fun k=>tab (colsOf m) (nv (redF m) (redP m) k)
end Go.Kx
namespace Go.Proofs.YtfilidfomgfnhaaGreat
open Go Go.Kx Go.RowKit
end Go.Proofs.YtfilidfomgfnhaaGreat

namespace Go.Proofs.YtfilidfomgfnhaaGreat
open Go Go.Kx Go.RowKit
end Go.Proofs.YtfilidfomgfnhaaGreat

namespace Go.Kx
open Go Go.RowKit
/-- the matrix beside the unit matrix -/
def invF (m:List (List QV)):RM:=fun i k=>if k<m.length then rm m i k else idR i (k-m.length)
def invE (m:List (List QV)):RM×List Nat:=elim m.length (invF m) m.length
def invM (m:List (List QV)):List (List QV):=tabM m.length m.length fun i k=>(invE m).1 i (m.length+k)
abbrev invertible (m:List (List QV)):Prop:=¬ (invE m).2.length<m.length
theorem Aw4 (n c:Nat) (f:Nat→Rat):(tab (n+c) f).drop n=tab c fun k=>f (n+k):=by
 apply List.ext_getElem?
 intro j
 rw [List.getElem?_drop]
 by_cases h:j<c
 ·rw [I7 (by omega),I7 h]
 ·rw [List.getElem?_eq_none (by rw [A5];omega),List.getElem?_eq_none (by rw [A5];omega)]
end Go.Kx
namespace Go.Proofs.YtfilidfomgfnhaaGreat
open Go Go.Kx Go.RowKit
theorem AQ4:Ent Tryz.prog 84:=A0 Tryz.func84 (by kernel_rfl) rfl
theorem AP9 {S:Nat→Prop} {w:World} {vm:Value} {m:List (List QV)} {L n:Nat} (up:Up S w) (hm:eM.R S w vm m) (hkm:mk_ L m) (hL:1≤L) (hr:m.length≤n) (hc:colsOf m≤90) (hn:n≤100) (hbd:bd L n≤40000000) :
  CR Tryz.prog 84 #[vm] w (Two (eM.at S (if colsOf m=m.length∧invertible m then invM m else [])) (Is (.int .i64 (if colsOf m=m.length then (if invertible m then 0 else 8) else 13)))):=by
 have hL2:L≤40000000:=Nat.le_trans (AK1 L (Nat.zero_le n)) hbd
 have hm0:=ER.lt eM hm
 have hMW:∀ {W:World},Below w.heap.size w W→eM.R S W vm m:=fun hB=>eM.mono (fun k _ hk=>hk.1) (eM.keep (fun k c t f hk h=>(hB.block k hk.2).trans h) hm0)
 generalize hRp:Two (eM.at S (if colsOf m=m.length∧invertible m then invM m else [])) (Is (.int .i64 (if colsOf m=m.length then (if invertible m then 0 else 8) else 13)))=Rp
 obtain ⟨N,hN⟩:∃ N,m.length=N:=⟨_,rfl⟩
 rw [hN] at hr
 generalize hG:(fun i=>tab N (idR i))=G
 refine enter Tryz.func84 rfl Tryz.ntmps84 rfl ?_
 refine .seq (.region (.asg rfl rfl (.asg rfl rfl (.nil (.seq (.region (.mv rfl rfl (.lenR un_M rfl rfl hm ?_))))))))
 rw [hN]
 refine .asg rfl rfl (.nil (.seq (.seq (.region (.mv rfl rfl ?_)))))
 refine .call _ rfl AH5 rfl (AG5 hm) fun v0 w0 e0 h0=>?_
 subst h0
 refine .mv rfl rfl ?_
 by_cases hsq:colsOf m=N
 rotate_left
 ·refine .neqT rfl rfl rfl (by intro e;exact hsq (by omega)) (.nil (.condT rfl (.seq (.region (.asg rfl rfl (.asg rfl rfl (.nil (.ret ?_))))))))
  refine .plain [_,_] Tryz.results84 ⟨rfl,rfl,trivial⟩ ⟨e0,?_⟩
  rw [←hRp]
  refine ⟨_,_,rfl,?_,?_⟩
  ·rw [if_neg (fun h=>hsq (h.1.trans hN))];exact RL.nil
  ·show _=_
   rw [if_neg (fun h=>hsq (h.trans hN))]
 have hsq':colsOf m=m.length:=hsq.trans hN.symm
 refine .neqF rfl rfl rfl (by rw [hsq]) (.nil (.condF rfl (.skip (.seq (.region (.mv rfl rfl ?_))))))
 refine .make_ _ _ un_M Ac2 rfl (by decide) rfl rfl rfl (Nat.le_refl _) (by omega) (by omega) fun w1 gu n1=>.asg rfl rfl (.nil ?_)
 have f1:FB eV 32 S w1 gu (List.replicate N []):=FB.made n1 RL.nil
 obtain ⟨e1,_,hgu,hs1⟩:=n1
 have x1:=e0.trans e1
 have hs0:=e0.size
 refine .mid (α:=Unit) (fun _=>[(0,vm),(4,.int .i64 (N:Nat)),(5,.slice (some ⟨gu,0,none⟩) N N)]) (fun _ W=>Below w.heap.size w W∧FB eV 32 S W gu ((List.range N).map G)) ?_ ?_
 ·refine .seq (.region (.mv rfl rfl (.len un_M rfl rfl (.mv rfl rfl (.nil ?_)))))
  refine .block (.loop (α:=Nat) (fun i=>[(0,vm),(4,.int .i64 (N:Nat)),(5,.slice (some ⟨gu,0,none⟩) N N),(19,.int .i64 (N:Nat)),(20,.int .i64 (i:Nat))])
   (fun i W=>Below w.heap.size w W∧i≤N∧FB eV 32 S W gu (fil N i G [])) (fun i=>N-i) 0 ?_ ?_ ?_)
  ·exact lkA rfl
  ·exact ⟨x1,Nat.zero_le _,by rw [R0];exact f1⟩
  ·rintro i W ⟨hB,hi,hF⟩
   have hsz:=hB.size
   have hgl:=hF.lt
   rcases Nat.lt_or_ge i N with hlt | hge
   rotate_left
   ·refine .seq (.region (.lssF rfl rfl rfl (by omega) (.nil (.seq (.condF rfl (.exit ?_))))))
    have:i=N:=by omega
    subst this
    rw [Z1] at hF
    exact ⟨rfl,(),lkA rfl,hB,hF⟩
   refine .seq (.region (.lssT rfl rfl rfl (by omega) (.nil (.seq (.condT rfl (.skip (.seq (.block (.seq (.region (.mv rfl rfl (.asg rfl rfl (.nil (.seq (.region (.mv rfl rfl (.mv rfl rfl (.mv rfl rfl ?_))))))))))))))))))
   refine .make_ _ _ un_V T4 rfl (by decide) rfl rfl rfl (Nat.le_refl _) (by omega) (by omega) fun W1 h n2=>?_
   have hn2:=n2
   have fh:FB eQ 55 (fun k=>S k∧k≠gu) W1 h (List.replicate N q0):=FB.made n2 zq_R
   obtain ⟨e2,k2,hh,hs2⟩:=n2
   refine .ixB (i:=i) un_M ty_V rfl rfl rfl hlt ?_
   refine .gv rfl rfl (FBx.start (i:=i) ty_V hF hn2 (by rw [J5];exact hlt) rfl rfl) ?_
   rintro _ W2 ⟨hx2,u2,kh2,hne⟩
   refine .nil ?_
   have hB2:Below w.heap.size w W2:=u2.below (hB.trans (e2.mono hsz)) (by omega)
   have hs2':=u2.size
   have fh2:=fh.upd u2 (fun e=>hne e.symm) (fun hh'=>hh'.2 rfl)
   refine .par follows 6 [.inl _,.inl (.int .i64 (i:Nat)),.inl _,.inl (.slice (some ⟨h,0,none⟩) N N),.inl (.int .i64 (i:Nat)),.inr (eQ.at (fun k=>(S k∧k≠gu)∧k≠h) (qc ((1:Int):Rat)))]
    [[],[],[(28,0),(29,1)],[(30,2)],[],[]] (by kernel_rfl) ⟨
    fun w e=>(v_mv rfl).ob,fun w e=>(v_mv rfl).ob,fun w e=>(H2 (i:=i) un_M ty_V rfl rfl hlt).ob,
    fun w e=>(Ao4 ty_V rfl ((hx2.keep (Kp.ext e) hne).ptr rfl)).ob,
    fun w e=>(v_mv rfl).ob,
    fun w e=>(A1 _ K3 rfl (K1 (fun k hk=>⟨⟨up k (by have:=e.size;omega),by have:=e.size;omega⟩,by have:=e.size;omega⟩) (by decide) (by decide))).ob (A6 _ _ _),trivial⟩ ?_
   intro W3 e3 x5 h5
   refine .ixB (i:=i) un_V ty_Q rfl rfl rfl hlt ?_
   refine .storeF (E:=eQ) (i:=i) (by decide) ty_Q rfl rfl (fh2.ext e3) rfl (by simp;exact hlt) (Nat.zero_add _) h5 fun W4 f4 u4=>.nil ?_
   have hunit:(List.replicate N q0).set i (qc ((1:Int):Rat))=G i:=by
    have h0:List.replicate N q0=tab N fun _=>0:=by
     unfold tab;simp only [AD3];rw [List.map_const',List.length_range]
    rw [h0,Aa8,←hG]
    refine I4 fun k _=>?_
    unfold idR
    by_cases e:k=i
    ·rw [if_pos e,if_pos e.symm];simp
    ·rw [if_neg e,if_neg (fun e2=>e e2.symm)]
   rw [hunit] at f4
   refine .region (.add rfl rfl rfl (.mv rfl rfl (.nil ?_)))
   rw [wI (by omega)]
   have hx4:=(hx2.keep (Kp.ext e3) hne).keep (Kp.upd u4 (fun hc=>hc rfl)) hne
   have hrow:eV.R (fun k=>S k∧k≠gu) W4 (.slice (some ⟨h,0,none⟩) N N) (G i):=by
    have hGl:(G i).length=N:=by rw [←hG];exact A5 ..
    have:=f4.toR (c:=N) (hsz:=by decide) ⟨up h (by omega),by omega⟩ (by rw [hGl];exact Nat.le_refl _) (by rw [hGl];omega)
    rwa [hGl] at this
   have hF4:=hx4.done hrow
   rw [S2] at hF4
   exact ⟨rfl,i+1,lkA rfl,⟨u4.below (hB2.trans (e3.mono hB2.size)) (by omega),hlt,hF4⟩,by show N-(i+1)<N-i;omega⟩
 rintro _ W ⟨hB,hF⟩
 have hsz:=hB.size
 have hU:(List.range N).map G=tabM N N idR:=by rw [←hG];rfl
 rw [hU] at hF
 have hR:=hF.toR (c:=N) (hsz:=by decide) (up gu (by omega)) (by rw [A4];exact Nat.le_refl _) (by rw [A4];omega)
 rw [A4] at hR
 have hcU:colsOf (tabM N N idR)=N:=by rw [Aa1];split<;>omega
 have hkU:mk_ L (tabM N N idR):=AR2 fun i k _ _=>by
  unfold idR
  split
  ·have:=Rsz.int 1 (L:=L) (Nat.lt_of_lt_of_le (by decide) (Nat.pow_le_pow_right (by decide) hL)) hL
   simpa using this
  ·exact Rsz.zero hL
 have upW:=up.ext hsz
 refine .seq (.region (.mv rfl rfl (.mv rfl rfl ?_)))
 refine .call _ rfl Ad5 rfl (AX1 (L:=L) upW (hMW hB) hR hkm hkU hL (by omega) (by omega) (by rw [A4];omega) (by omega) (by rw [hcU];omega)) fun v2 w2 e2 h2=>.asg rfl rfl (.nil ?_)
 rw [hN,A4,Nat.max_self,hsq,hcU] at h2
 obtain ⟨gb,rfl,hgb,hF2⟩:=h2
 have hcat:tabM N (N+N) (catM m (tabM N N idR))=tabM N (N+N) (invF m):=C7 fun i k hi hk=>by
  unfold catM invF
  rw [hsq,hN]
  by_cases h:k<N
  ·rw [if_pos h,if_pos h]
  ·rw [if_neg h,if_neg h,AQ9,if_pos ⟨hi,by omega⟩]
 rw [hcat] at hF2
 have x2:=hB.trans (e2.mono hsz)
 have hgl2:=hF2.lt
 have hs2:=e2.size
 refine .seq (.seq (.region (.mv rfl rfl (.mv rfl rfl ?_))))
 refine .call _ rfl AQ3 rfl AP8 fun v3 w3 e3 h3=>?_
 subst h3
 have hs3:=e3.size
 have hszF:∀ i k,i<N→k<N+N→Rsz (invF m i k) L:=fun i k _ _=>by
  unfold invF
  split
  ·exact hkm.rsz hL i k
  ·unfold idR
   split
   ·have:=Rsz.int 1 (L:=L) (Nat.lt_of_lt_of_le (by decide) (Nat.pow_le_pow_right (by decide) hL)) hL
    simpa using this
   ·exact Rsz.zero hL
 have hcall:=AI5 (X:=fun _=>False) (cols:=N) (cap:=N) (L:=L) (M:=40000000) (upW.ext (by omega)) (hF2.ext e3) (Nat.le_refl _) (by omega) (by omega) (by omega) hL hszF (Nat.le_trans (AK1 L (by omega)) hbd) (Nat.le_refl _) (up gb (by omega)) (fun _ h=>h.elim) evs_ign trivial
 refine .callG _ rfl AK3 rfl hcall ?_
 rintro v4 w4 ⟨c4,h4,f4,-⟩
 have x3:=x2.trans (e3.mono (by omega))
 have x4:Ext w w4:=c4.below x3 (by omega) (fun k hk=>by rcases hk with rfl | hk;omega;exact hk.elim)
 have hs4:=c4.size
 refine .lenR un_I rfl rfl h4 (.mv rfl rfl ?_)
 have hE:elim N (invF m) N=invE m:=by unfold invE;rw [hN]
 rw [hE] at f4
 rw [show (pInts (elim N (invF m) N).2).length=(invE m).2.length by rw [hE];simp]
 by_cases hinv:(invE m).2.length<N
 ·refine .lssT rfl rfl rfl (by omega) (.nil (.condT rfl (.seq (.region (.asg rfl rfl (.asg rfl rfl (.nil (.ret ?_))))))))
  refine .plain [_,_] Tryz.results84 ⟨rfl,rfl,trivial⟩ ⟨x4,?_⟩
  rw [←hRp]
  refine ⟨_,_,rfl,?_,?_⟩
  ·rw [if_neg (fun h=>h.2 (hN.symm▸hinv))];exact RL.nil
  ·show _=_
   rw [if_pos hsq',if_neg (fun h=>h (hN.symm▸hinv))]
 refine .lssF rfl rfl rfl (by omega) (.nil (.condF rfl (.skip ?_)))
 generalize hR2:(fun i=>tab N fun k=>(invE m).1 i (N+k))=R2
 refine .mid (α:=Unit) (fun _=>[(7,.slice (some ⟨gb,0,none⟩) N N)]) (fun _ W=>Below w.heap.size w W∧FB eV 32 S W gb ((List.range N).map R2)) ?_ ?_
 ·refine .seq (.region (.mv rfl rfl (.len un_M rfl rfl (.mv rfl rfl (.nil ?_)))))
  refine .block (.loop (α:=Nat) (fun i=>[(4,.int .i64 (N:Nat)),(7,.slice (some ⟨gb,0,none⟩) N N),(46,.slice (some ⟨gb,0,none⟩) N N),(47,.int .i64 (N:Nat)),(48,.int .i64 (i:Nat))])
   (fun i W=>Below w.heap.size w W∧i≤N∧FB eV 32 S W gb ((List.range N).map fun j=>if j<i then R2 j else tab (N+N) ((invE m).1 j))) (fun i=>N-i) 0 ?_ ?_ ?_)
  ·exact lkA rfl
  ·exact ⟨x4,Nat.zero_le _,by simpa [tabM] using f4⟩
  ·rintro i W ⟨hB,hi,hF⟩
   have hsz:=hB.size
   rcases Nat.lt_or_ge i N with hlt | hge
   rotate_left
   ·refine .seq (.region (.lssF rfl rfl rfl (by omega) (.nil (.seq (.condF rfl (.exit ?_))))))
    have:i=N:=by omega
    subst this
    have he:(List.range i).map (fun j=>if j<i then R2 j else tab (i+i) ((invE m).1 j))=(List.range i).map R2:=List.map_congr_left fun j hj=>by rw [if_pos (List.mem_range.1 hj)]
    rw [he] at hF
    exact ⟨rfl,(),lkA rfl,hB,hF⟩
   refine .seq (.region (.lssT rfl rfl rfl (by omega) (.nil (.seq (.condT rfl (.skip (.seq (.block (.seq (.region (.mv rfl rfl (.ixB (i:=i) un_M ty_V rfl rfl rfl hlt ?_))))))))))))
   have hrow:((List.range N).map fun j=>if j<i then R2 j else tab (N+N) ((invE m).1 j))[i]?=some (tab (N+N) ((invE m).1 i)):=by
    rw [List.getElem?_map,List.getElem?_range hlt];simp
   refine .ldF (E:=eV) (i:=i) (by decide) ty_V rfl rfl (Nat.zero_add _) hF hrow fun er her=>.asg rfl rfl (.asg rfl rfl (.nil (.region (.mv rfl rfl (.mv rfl rfl (.mv rfl rfl (.mv rfl rfl ?_)))))))
   refine .gv rfl rfl (Az4 (E:=eQ) (hsz:=by decide) (some _) none N (N+N) un_V ty_Q rfl her ⟨.i64,rfl⟩ (A5 _ _).symm (by omega) (by rw [A5];exact Nat.le_refl _)) ?_
   rintro v5 _ ⟨rfl,h5⟩
   rw [List.take_of_length_le (by rw [A5];exact Nat.le_refl _),Aw4] at h5
   refine .ixB (i:=i) un_M ty_V rfl rfl rfl hlt ?_
   refine .storeF (E:=eV) (i:=i) (by decide) ty_V rfl rfl hF rfl (by simp;exact hlt) (Nat.zero_add _) h5 fun W3 f3 u3=>.nil ?_
   refine .region (.add rfl rfl rfl (.mv rfl rfl (.nil ?_)))
   rw [wI (by omega)]
   refine ⟨rfl,i+1,lkA rfl,⟨u3.below hB (by omega),hlt,?_⟩,by show N-(i+1)<N-i;omega⟩
   have he:((List.range N).map fun j=>if j<i then R2 j else tab (N+N) ((invE m).1 j)).set i (tab N fun k=>(invE m).1 i (N+k))=(List.range N).map fun j=>if j<i+1 then R2 j else tab (N+N) ((invE m).1 j):=by
    apply List.ext_getElem?
    intro j
    rw [List.getElem?_set]
    by_cases e:i=j
    ·subst e
     simp [hlt,←hR2]
    ·rw [if_neg e,List.getElem?_map,List.getElem?_map]
     by_cases hj:j<N
     ·simp only [List.getElem?_range hj,Option.map_some]
      by_cases h1:j<i
      ·rw [if_pos h1,if_pos (by omega)]
      ·rw [if_neg h1,if_neg (by omega)]
     ·rw [List.getElem?_eq_none (by simpa using hj)];rfl
   rw [he] at f3
   exact f3
 ·rintro _ W ⟨hB,hF⟩
  have hsz:=hB.size
  refine .seq (.region (.mv rfl rfl (.asg rfl rfl (.asg rfl rfl (.nil (.ret ?_))))))
  have hI:(List.range N).map R2=invM m:=by unfold invM;rw [hN,←hR2];rfl
  rw [hI] at hF
  have hl:(invM m).length=N:=by unfold invM;rw [A4,hN]
  have:=hF.toR (c:=N) (hsz:=by decide) (up gb (by omega)) (by rw [hl];exact Nat.le_refl _) (by rw [hl];omega)
  rw [hl] at this
  refine .plain [_,_] Tryz.results84 ⟨rfl,rfl,trivial⟩ ⟨hB,?_⟩
  rw [←hRp]
  refine ⟨_,_,rfl,?_,?_⟩
  ·rw [if_pos ⟨hsq',fun h=>hinv (hN▸h)⟩];exact this
  ·show _=_
   rw [if_pos hsq',if_pos (fun h=>hinv (hN▸h))]
end Go.Proofs.YtfilidfomgfnhaaGreat

namespace Go.Proofs.YtfilidfomgfnhaaGreat
open Go Go.Kx Go.RowKit
end Go.Proofs.YtfilidfomgfnhaaGreat

namespace Go.Kx
section
variable {n N C CA:Nat} {g A:RM} {p:List Nat}
end
theorem Az9 {n:Nat} {f:RM}:∀ c,elimD n f c≠0
 | 0=>by show (1:Rat)≠0;decide
 | c+1=>by
  have ih:=Az9 (n:=n) (f:=f) c
  have e2:elimD n f (c+1)=estepD n c (elim n f c) (elimD n f c):=rfl
  rw [e2]
  unfold estepD
  split
  ·exact ih
  ·rename_i r hr
   obtain ⟨_,_,h3,_⟩:=J3 hr
   refine fun h=>?_
   rcases Rat.mul_eq_zero.1 h with h | h
   ·split at h
    ·exact ih h
    ·exact ih (by grind)
   ·exact h3 h
theorem Ech.nodup {n c:Nat} {g:RM} {p:List Nat} (h:Ech n c g p):p.Nodup:=by
 rw [List.nodup_iff_pairwise_ne,List.pairwise_iff_getElem]
 intro i j hi hj hij
 have:=h.mono hij hj
 rw [List.getD_eq_getElem?_getD,List.getD_eq_getElem?_getD,List.getElem?_eq_getElem hi,List.getElem?_eq_getElem hj] at this
 simp at this
 omega
/-- free columns and pivots are all the columns -/
theorem AU3 {p:List Nat} (hn:p.Nodup):∀ i,(freeTo p i).length+p.countP (fun k=>decide (k<i))=i
 | 0=>by unfold freeTo;simp
 | i+1=>by
  have ih:=AU3 hn i
  have h1:(freeTo p (i+1)).length=(freeTo p i).length+if i∈p then 0 else 1:=by
   unfold freeTo
   rw [List.range_succ,List.filter_append,List.length_append]
   by_cases h:i∈p<;>simp [h]
  have h2:p.countP (fun k=>decide (k<i+1))=p.countP (fun k=>decide (k<i))+if i∈p then 1 else 0:=by
   clear ih h1
   induction p with
   | nil=>simp
   | cons x p ihp =>
    have hx:=List.nodup_cons.1 hn
    rw [List.countP_cons,List.countP_cons,ihp hx.2]
    by_cases e:x=i
    ·subst e
     simp [hx.1]
    ·have h3:(i∈x::p)↔i∈p:=by simp [show ¬ i=x from fun h=>e h.symm]
     simp only [h3]
     by_cases h4:x<i
     ·simp [h4,show x<i+1 by omega];omega
     ·simp [h4,show ¬ x<i+1 by omega]
  rw [h1,h2]
  by_cases h:i∈p
  ·simp only [h,if_true];omega
  ·simp only [h,if_false];omega
theorem Ech.free_len {n C:Nat} {g:RM} {p:List Nat} (h:Ech n C g p):(freeTo p C).length+p.length=C:=by
 have:=AU3 h.nodup C
 have h1:p.countP (fun k=>decide (k<C))=p.length:=by
  rw [List.countP_eq_length]
  intro k hk
  obtain ⟨j,hj⟩:=List.mem_iff_getElem?.1 hk
  have hl:j<p.length:=(List.getElem?_eq_some_iff.1 hj).1
  have:=h.lt j hl
  rw [List.getD_eq_getElem?_getD,hj] at this
  simpa using this
 omega
end Go.Kx

namespace Go.Kx
open Go Go.RowKit
abbrev iv (n:Int):Value:=.int .i64 n
end Go.Kx
namespace Go.Proofs.YtfilidfomgfnhaaGreat
open Go Go.Kx Go.RowKit
theorem Z4 {x y z:Int}:bslOf Tryz.prog 106 3 [(0,.int .i64 x),(1,.int .i64 y),(2,.int .i64 z)]=some (2,#[.int .i64 x,.int .i64 y,.int .i64 z]):=by kernel_rfl
theorem T7 {S:Nat→Prop} {w w':World} {b:Nat} {t:TypeId} {cs:Array Value} (l:List Int) (n:Nat) (hn:New w w' b t cs) (up:Up S w) (hcs:cs=(l.map iv).toArray) (hl:l.length=n) (hd:∀ x∈l,-9223372036854775808≤x∧x≤9223372036854775807) (hm:n≤1000) :
  eI.R S w' (.slice (some ⟨b,0,none⟩) n n) l:=by
 subst hl
 refine RL.ofBlk (es:=l.map iv) hn.2.1 (up b (by have:=hn.2.2.1;omega)) ⟨by simp,fun i e x he hx=>?_⟩ (fun j u hu=>?_) (Nat.le_refl _) (by omega)
 ·rw [List.getElem?_map,hx] at he
  simp at he
  have:=hd x (List.mem_iff_getElem?.2 ⟨i,hx⟩)
  exact ⟨he.symm,this.1,this.2⟩
 ·rw [E3 iv (fun _=>rfl)] at hu
  rw [hcs];simpa using hu
end Go.Proofs.YtfilidfomgfnhaaGreat

namespace Go.Proofs.YtfilidfomgfnhaaGreat
open Go Go.Kx Go.RowKit
end Go.Proofs.YtfilidfomgfnhaaGreat

namespace Go.Kx
open Go Go.RowKit
section
variable {P:Program} {σ:Env} {w:World} {d:Option Tmp} {ty:TypeId} {pos:String} {af:Array Edge} {g:Option (Nat×Bool)}
theorem v_faP {s:TypeId} {x:Operand} {i off:Nat} {p:Addr} (hf:fldOf P s i=some off) (hx:ev σ x=some (.pointer (some p))):Vl P ⟨d,.fieldAddr s x i,ty,pos,af,g⟩ σ w (.pointer (some (p.add off))):=by
 refine ⟨(by intro _ h;cases h),fun ρ hρ=>?_⟩
 have h1:=hρ x _ (by simp [Op.operands]) hx
 unfold fldOf at hf
 split at hf
 ·rename_i fs hfs
  split at hf
  ·rename_i f hff
   split at hf
   ·rename_i j hj
    cases hz:Nat.beq j.size 0 with
    | true=>rw [hz] at hf;cases hf
    | false =>
     rw [hz] at hf
     simp only [cond_false,Option.some.injEq] at hf
     have hz':j.size≠0:=fun e=>by rw [e] at hz;cases hz
     simp [execOp,h1,Instr.fieldAt,run_underlying hfs,hff,Instr.sureAddr,fieldPlace,sizeOf,typeInfo,hj,hz',hf]
   ·cases hf
  ·cases hf
 ·cases hf
end
theorem PtrTo.qn {S:Nat→Prop} {w:World} {p:Addr} {q:QV} (h:PtrTo eQ S w p q):PtrTo eZ S w (p.add 0) q.num:=by
 obtain ⟨e,⟨s,t,rfl,hs,ht⟩,h2,h3⟩:=h
 refine ⟨.agg #[.bool q.num.neg,s],⟨s,rfl,hs⟩,by rw [H4];exact h2,fun j u hu=>?_⟩
 rw [AK2]
 refine h3 _ u ?_
 match j with
 | 0=>simpa [Value.cells] using hu
 | 1=>simpa [Value.cells] using hu
 | j+2=>simp [Value.cells] at hu
section
variable {P:Program} {ro:Option Nat} {N:Nat} {ds:List Deferred} {ops:Array Oper} {K:Env→World→Prop} {rest:List Oper} {σ:Env} {w:World} {d:Tmp} {ty:TypeId} {pos:String} {af:Array Edge}
end
section
variable {P:Program} {σ:Env} {w:World} {d:Option Tmp} {ty:TypeId} {pos:String} {af:Array Edge} {g:Option (Nat×Bool)} {S:Nat→Prop}
end
end Go.Kx
namespace Go.Proofs.YtfilidfomgfnhaaGreat
open Go Go.Kx Go.RowKit
end Go.Proofs.YtfilidfomgfnhaaGreat

namespace Go.Proofs.YtfilidfomgfnhaaGreat
open Go Go.Kx Go.RowKit
theorem Ay3 {α:Type} {l:List α} {j:Nat} {x:α} (h:l[j]?=some x):j<l.length:=by
 rcases Nat.lt_or_ge j l.length with h' | h'
 ·exact h'
 ·rw [List.getElem?_eq_none h'] at h;cases h
theorem eV_vk {S:Nat→Prop} {w:World} {v:Value} {a:List QV} {L:Nat} (h:eV.R S w v a) (hk:∀ q∈a,qok L q) (hL:1≤L):vk L a:=by
 intro q hq
 obtain ⟨i,hi⟩:=List.mem_iff_getElem?.1 hq
 obtain ⟨es,he,_⟩:=h
 have hlt:=Ay3 hi
 obtain ⟨s,t,_,hn,hd⟩:=he.2 i _ q (List.getElem?_eq_getElem (by rw [he.1];exact hlt)) hi
 exact ⟨hk q hq,Ax2 (D5 hn) (D5 hd) (hk q hq) hL⟩
def okV (r:List QV):Prop:=r.length≤20∧∀ q∈r,qok 6 q
end Go.Proofs.YtfilidfomgfnhaaGreat

namespace Go.Kx
def hds (n:Nat):List Nat:=if h:n=0 then [] else n % 65536::hds (n / 65536)
 decreasing_by omega
theorem J4:hds 0=[]:=by unfold hds;simp
theorem AD8 {n:Nat} (h:n≠0):hds n=n % 65536::hds (n / 65536):=by rw [hds];simp [h]
theorem D0 (n:Nat):valH (hds n)=n:=by
 induction n using Nat.strongRecOn with
 | ind n ih =>
  by_cases h:n=0
  ·subst h;rw [J4];rfl
  ·rw [AD8 h,valH,ih _ (by omega)];omega
theorem AV4 (n:Nat):digH (hds n):=by
 induction n using Nat.strongRecOn with
 | ind n ih =>
  by_cases h:n=0
  ·subst h;rw [J4];intro x hx;cases hx
  ·rw [AD8 h]
   intro x hx
   rcases List.mem_cons.1 hx with rfl | hx
   ·omega
   ·exact ih _ (by omega) x hx
theorem AA1:∀ {l:List Nat},can l→l≠[]→valH l≠0
 | [],_,h=>absurd rfl h
 | [x],hc,_=>by
  have:=hc x (by simp)
  simp only [valH];omega
 | x::y::r,hc,_=>by
  have ih:=AA1 (l:=y::r) (fun u hu=>hc u (by simpa [List.getLast?_cons_cons] using hu)) (by simp)
  rw [valH];omega
theorem AU0:∀ {l:List Nat},digH l→can l→hds (valH l)=l
 | [],_,_=>J4
 | x::r,hd,hc=>by
  have hx:=hd x (by simp)
  have hr:can r:=by
   intro u hu
   apply hc u
   cases r with
   | nil=>simp at hu
   | cons y r=>simpa [List.getLast?_cons_cons] using hu
  have ih:=AU0 (l:=r) (fun z hz=>hd z (by simp [hz])) hr
  have h0:valH (x::r)≠0:=AA1 hc (by simp)
  rw [AD8 h0,valH]
  rw [show (x+65536*valH r) % 65536=x by omega,show (x+65536*valH r) / 65536=valH r by omega,ih]
theorem trimH {l:List Nat} (h:digH l):trimL l=hds (valH l):=by
 rw [←AG1,AU0 (AH1 h) (AE4 l)]
theorem X9 {l:List Nat} (h:digH l):valH l<65536 ^ l.length:=by
 induction l with
 | nil=>simp [valH]
 | cons x l ih =>
  have hx:=h x (by simp)
  have:=ih fun z hz=>h z (by simp [hz])
  rw [valH,List.length_cons,Nat.pow_succ];omega
theorem L1 {n L:Nat} (h:n<65536 ^ L):(hds n).length≤L:=by
 induction L generalizing n with
 | zero=>rw [show n=0 by simpa using h,J4];simp
 | succ L ih =>
  by_cases h0:n=0
  ·rw [h0,J4];simp
  ·rw [AD8 h0,List.length_cons]
   have:=ih (n:=n / 65536) (by rw [Nat.pow_succ] at h;exact (Nat.div_lt_iff_lt_mul (by omega)).2 h)
   omega
theorem AU1 (n:Nat):n<65536 ^ (hds n).length:=by
 have:=X9 (AV4 n)
 rwa [D0] at this
theorem N8 {n:Nat}:hds n=[]↔n=0:=by
 constructor
 ·intro h
  by_cases h0:n=0
  ·exact h0
  ·rw [AD8 h0] at h;cases h
 ·rintro rfl;exact J4
theorem AC9 (l:List Nat) (x:Nat):valH (l++[x])=valH l+65536 ^ l.length*x:=by rw [AA9];simp [valH]
theorem J1 (l:List Nat) (k:Nat):valH (l.take (k+1))=valH (l.take k)+65536 ^ k*l.getD k 0:=by
 rcases Nat.lt_or_ge k l.length with h | h
 ·rw [List.take_succ_eq_append_getElem h,AC9,List.length_take,Nat.min_eq_left (by omega)]
  simp [List.getD_eq_getElem?_getD,List.getElem?_eq_getElem h]
 ·rw [List.take_of_length_le (by omega),List.take_of_length_le h]
  simp [List.getD_eq_getElem?_getD,List.getElem?_eq_none h]
theorem U8 {l:List Nat} {k:Nat} (h:k<l.length):valH (l.drop k)=l.getD k 0+65536*valH (l.drop (k+1)):=by
 rw [List.drop_eq_getElem_cons h,valH]
 simp [List.getD_eq_getElem?_getD,List.getElem?_eq_getElem h]
theorem L5 {l:List Nat} (h:digH l) (k:Nat):l.getD k 0<65536:=by
 rw [List.getD_eq_getElem?_getD]
 cases hk:l[k]? with
 | none=>simp
 | some x=>exact h x (List.mem_iff_getElem?.2 ⟨k,hk⟩)
theorem At6 {l:List Nat} {x:Nat} (h:digH l) (hx:x<65536):digH (l++[x]):=by
 intro y hy
 rcases List.mem_append.1 hy with h' | h'
 ·exact h y h'
 ·simp at h';omega
theorem Ah2 {l r:List Nat} (h:digH l) (h':digH r):digH (l++r):=by
 intro y hy
 rcases List.mem_append.1 hy with h1 | h1
 ·exact h y h1
 ·exact h' y h1
/-- beyond the end nothing is left -/
theorem O2 {l:List Nat} {k:Nat} (h:l.length≤k):valH (l.take k)=valH l:=by rw [List.take_of_length_le h]
theorem M8 {m n:Nat} (h:m≤n):(hds m).length≤(hds n).length:=L1 (Nat.lt_of_le_of_lt h (AU1 n))
end Go.Kx

namespace Go.Kx
open Go Go.RowKit
theorem tmod16 (m:Nat):((m:Int).tmod 65536)=((m % 65536:Nat):Int):=M0 m 65536
theorem tdiv16 (m:Nat):((m:Int).tdiv 65536)=((m / 65536:Nat):Int):=M1 m 65536
/-- digits of the call's own -/
def OwnH (t:TypeId) (base:Nat) (w:World) (v:Value) (r:List Nat):Prop:=w.ownsRow base t 1 v r.length (r.map hvv)∧digH r
section
variable {t:TypeId} {base:Nat} {w w':World} {v:Value} {r:List Nat}
theorem OwnH.ext (h:OwnH t base w v r) (e:Ext w w'):OwnH t base w' v r:=⟨AB6 h.1 fun k cs _ hb=>hb.ext e,h.2⟩
theorem OwnH.below {w0:World} (h:OwnH t base w v r) (hg:w.grownBy w' v.ownBlock) (hb:Below base w0 w) (hB:base≤w.heap.size):Below base w0 w':=hb.grown hg hB fun k hk=>(h.1.lt k hk).1
theorem OwnH.nil:OwnH t base w (.slice none 0 0) []:=⟨⟨rfl,.inl ⟨rfl,rfl⟩⟩,fun x hx=>by cases hx⟩
theorem OwnH.toR {S:Nat→Prop} (h:OwnH t base w v r) (hS:∀ k,base≤k→S k):eHs.R S w v r:=by
 refine RL.ofOwn (E:=eH) (es:=r.map hvv) (base:=base) (t:=t) (n:=r.length) ?_ rfl ⟨by simp,fun i e x he hx=>?_⟩ hS
 ·rw [E3 hvv (fun _=>rfl)];exact h.1
 ·rw [List.getElem?_map,hx] at he
  simp at he
  exact ⟨he.symm,h.2 x (List.mem_iff_getElem?.2 ⟨i,hx⟩)⟩
theorem OwnH.lit {b:Nat} {l:List Nat} (hn:New w w' b t (l.map hvv).toArray) (hB:base≤w.heap.size) (hd:digH l) (hl:l.length≤1000):OwnH t base w' (.slice (some ⟨b,0,none⟩) l.length l.length) l:=by
 obtain ⟨_,hk,hb,_⟩:=hn
 exact ⟨⟨by simp,.inr ⟨b,l.length,_,rfl,by omega,hk,Nat.le_refl _,by simp [maxLen];omega,by simp,by simp [List.take_of_length_le]⟩⟩,hd⟩
end
section
variable {P:Program} {σ:Env} {w:World} {d:Option Tmp} {ty:TypeId} {pos:String} {af:Array Edge} {g:Option (Nat×Bool)}
theorem Al6 {t e:TypeId} {x y:Operand} {base b:Nat} {v:Value} {r:List Nat} {n:Nat} (ht:P.underlying t=some (.slice e)) (hi:infoOf P e=some (.int .i64 0,1,8)) (hx:ev σ x=some v) (hy:ev σ y=some (.slice (some ⟨b,0,none⟩) 1 1))
  (hown:OwnH e base w v r) (hb:Blk w b e #[hvv n]) (hn:n<65536) (hl:r.length≤1099511627776) (hbase:base≤w.heap.size) :
  Gv P ⟨d,.call { callee:=.builtin .append,args:=#[x,y],argTypes:=#[t,t] },ty,pos,af,g⟩ σ w fun v' w'=>OwnH e base w' v' (r++[n])∧w.grownBy w' v.ownBlock:=by
 refine (AZ8 [hvv n] ht hi rfl (by decide) hx hy hown.1 rfl (fun j u hu=>?_) (fun u hu=>?_) (by omega) (by omega) hbase).mono ?_
 ·cases j with
  | zero=>simp at hu;subst hu;rw [J6,hb.cell];rfl
  | succ j=>simp at hu
 ·simp at hu;subst hu;rfl
 ·rintro v' w' ⟨h1,h2⟩
  exact ⟨⟨by simpa using h1,At6 hown.2 hn⟩,h2⟩
/-- append(r, s...) -/
theorem g_appHs {S:Nat→Prop} {t e:TypeId} {x y:Operand} {base:Nat} {v u:Value} {r s:List Nat} (ht:P.underlying t=some (.slice e)) (hi:infoOf P e=some (.int .i64 0,1,8)) (hx:ev σ x=some v) (hy:ev σ y=some u)
  (hown:OwnH e base w v r) (hs:eHs.R S w u s) (hl:r.length≤1000) (hl2:s.length≤1099511627776) (hbase:base≤w.heap.size) :
  Gv P ⟨d,.call { callee:=.builtin .append,args:=#[x,y],argTypes:=#[t,t] },ty,pos,af,g⟩ σ w fun v' w'=>OwnH e base w' v' (r++s)∧Below base w w':=by
 have hds:=R4 hs
 obtain ⟨es,he,a,c,rfl,hc,_,hcl,hcells⟩:=hs
 have hes:es=s.map hvv:=by
  apply List.ext_getElem?
  intro i
  rw [List.getElem?_map]
  cases hi:s[i]? with
  | none=>rw [List.getElem?_eq_none (by rw [he.1];exact List.getElem?_eq_none_iff.1 hi)];rfl
  | some z =>
   have hlt:i<s.length:=(List.getElem?_eq_some_iff.1 hi).1
   have hee:=List.getElem?_eq_getElem (show i<es.length by rw [he.1];exact hlt)
   obtain ⟨h1,_⟩:=he.2 i _ z hee hi
   rw [hee,h1];rfl
 subst hes
 rw [E3 hvv (fun _=>rfl)] at hcells hcl
 have hone:∀ u∈s.map hvv,one1 u=true:=by
  intro u hu
  obtain ⟨z,_,rfl⟩:=List.mem_map.1 hu
  rfl
 have fin:∀ v' w',w'.ownsRow base e 1 v' (r.length+s.length) (r.map hvv++s.map hvv)→w.grownBy w' v.ownBlock→OwnH e base w' v' (r++s)∧Below base w w':=by
  intro v' w' h1 h2
  exact ⟨⟨by simpa using h1,Ah2 hown.2 hds⟩,hown.below h2 (Below.refl _ _) hbase⟩
 cases a with
 | some ad =>
  have hcell:∀ j u,(s.map hvv)[j]?=some u→w.cell? (ad.add j)=some u:=by
   intro j u hu
   have hpos:0<s.length:=by
    cases s with
    | nil=>simp at hu
    | cons z s=>simp
   obtain ⟨ad',h1,_,h2⟩:=hcells hpos
   cases h1
   exact (h2 j u hu).1
  exact (AZ8 (s.map hvv) ht hi rfl (by decide) hx hy hown.1 (by simp) hcell hone (by omega) (by omega) hbase).mono fun v' w' ⟨h1,h2⟩=>fin v' w' h1 h2
 | none =>
  have h0:s=[]:=by
   cases s with
   | nil=>rfl
   | cons z s=>obtain ⟨ad,h1,_⟩:=hcells (by simp);cases h1
  subst h0
  refine (g_app0 ht hi hx hy hown.1).gv.mono fun v' w' ⟨h1,h2⟩=>?_
  subst h1;subst h2
  exact ⟨by simpa using hown,Below.refl _ _⟩
end
end Go.Kx
namespace Go.Proofs.YtfilidfomgfnhaaGreat
open Go Go.Kx Go.RowKit
theorem AM4 {x:Int}:bslOf Tryz.prog 25 1 [(0,.int .i64 x)]=some (3,#[.int .i64 x]):=by kernel_rfl
theorem bsl_H3 {x y z:Int}:bslOf Tryz.prog 25 3 [(0,.int .i64 x),(1,.int .i64 y),(2,.int .i64 z)]=some (3,#[.int .i64 x,.int .i64 y,.int .i64 z]):=by kernel_rfl
theorem Ai5:Ent Tryz.prog 225:=A0 Tryz.func225 (by kernel_rfl) rfl
theorem Af4 {S:Nat→Prop} {w:World} {va vb:Value} {a b:List Nat} (up:Up S w) (ha:eHs.R S w va a) (hb:eHs.R S w vb b) (hla:a.length≤100000000000) (hlb:b.length≤100000000000):CR Tryz.prog 225 #[va,vb] w (eHs.at S (hds (valH a+valH b))):=by
 have hda:=R4 ha
 have hdb:=R4 hb
 have hA:∀ {W:World},Below w.heap.size w W→eHs.R (fun k=>S k∧k<w.heap.size) W va a:=fun hB=>eHs.keep (fun k c t f hk h=>(hB.block k hk.2).trans h) (ER.lt eHs ha)
 have hBb:∀ {W:World},Below w.heap.size w W→eHs.R (fun k=>S k∧k<w.heap.size) W vb b:=fun hB=>eHs.keep (fun k c t f hk h=>(hB.block k hk.2).trans h) (ER.lt eHs hb)
 refine enter Tryz.func225 rfl Tryz.ntmps225 rfl ?_
 refine .seq (.region (.asg rfl rfl (.nil (.seq (.region (.asg rfl rfl (.nil (.seq (.region (.asg rfl rfl (.nil (.seq (.seq (.region (.asg rfl rfl (.nil ?_))))))))))))))))
 refine .block (.loop (α:=Nat×Value×List Nat×Nat) (fun x=>[(0,va),(1,vb),(5,x.2.1),(6,.int .i64 (x.2.2.2:Nat)),(7,.int .i64 (x.1:Nat))])
  (fun x W=>Below w.heap.size w W∧x.1≤max a.length b.length+1∧x.2.2.1.length=x.1∧OwnH 3 w.heap.size W x.2.1 x.2.2.1∧x.2.2.2≤1∧(max a.length b.length<x.1→x.2.2.2=0)∧valH x.2.2.1+65536 ^ x.1*x.2.2.2=valH (a.take x.1)+valH (b.take x.1))
  (fun x=>2*(max a.length b.length-x.1)+x.2.2.2) (0,.slice none 0 0,[],0) ?_ ?_ ?_)
 ·exact lkA rfl
 ·exact ⟨Below.refl _ _,Nat.zero_le _,rfl,OwnH.nil,Nat.zero_le _,fun _=>rfl,by simp [valH]⟩
 ·rintro ⟨i,u,r,c⟩ W ⟨hB,hi,hr,ho,hc,hc0,hv⟩
  replace hB:Below w.heap.size w W:=hB
  replace hi:i≤max a.length b.length+1:=hi
  replace hr:r.length=i:=hr
  replace ho:OwnH 3 w.heap.size W u r:=ho
  replace hc:c≤1:=hc
  replace hc0:max a.length b.length<i→c=0:=hc0
  replace hv:valH r+65536 ^ i*c=valH (a.take i)+valH (b.take i):=hv
  have hxa:=L5 hda i
  have hxb:=L5 hdb i
  have round:∀ {σ:Env},(i<max a.length b.length∨0<c)→Kx.look σ 0=some va→Kx.look σ 1=some vb→Kx.look σ 5=some u→Kx.look σ 6=some (.int .i64 (c:Nat))→Kx.look σ 7=some (.int .i64 (i:Nat))→True:=fun _ _ _ _ _ _=>trivial
  refine .mid (α:=Unit) (fun _=>[(0,va),(1,vb),(5,u),(6,.int .i64 (c:Nat)),(7,.int .i64 (i:Nat))]) (fun _ W'=>W'=W∧(i<max a.length b.length∨0<c)) ?_ ?_
  ·have hend:¬ (i<max a.length b.length∨0<c)→valH r=valH a+valH b:=by
    intro hn
    have h0:c=0:=by omega
    rw [h0,Nat.mul_zero,Nat.add_zero,O2 (by omega),O2 (by omega)] at hv
    exact hv
   refine .seq (.region (.mv rfl rfl (.mv rfl rfl (.lenR un_H rfl rfl (hA hB) ?_))))
   by_cases h1:i<a.length
   ·refine .lssT rfl rfl rfl (by omega) (.mv rfl rfl (.gs rfl rfl rfl rfl rfl (.gs rfl rfl rfl rfl rfl (.gs rfl rfl rfl rfl rfl (.gs rfl rfl rfl rfl rfl (.pick rfl rfl rfl (.mv rfl rfl (.gs rfl rfl rfl rfl rfl (.gs rfl rfl rfl rfl rfl (.pick rfl rfl rfl (.nil (.condT rfl (.skip ?_)))))))))))))
    exact ⟨rfl,(),lkA rfl,rfl,by omega⟩
   ·refine .lssF rfl rfl rfl (by omega) (.mv rfl rfl (.gr rfl rfl rfl rfl (.mv rfl rfl (.gr rfl rfl rfl rfl (.mv rfl rfl (.gr rfl rfl rfl rfl (.lenR un_H rfl rfl (hBb hB) (.gr rfl rfl rfl rfl ?_))))))))
    by_cases h2:i<b.length
    ·refine .lssT rfl rfl rfl (by omega) (.pick rfl rfl rfl (.mv rfl rfl (.gs rfl rfl rfl rfl rfl (.gs rfl rfl rfl rfl rfl (.pick rfl rfl rfl (.nil (.condT rfl (.skip ?_))))))))
     exact ⟨rfl,(),lkA rfl,rfl,by omega⟩
    ·refine .lssF rfl rfl rfl (by omega) (.pick rfl rfl rfl (.mv rfl rfl (.gr rfl rfl rfl rfl (.mv rfl rfl (.gr rfl rfl rfl rfl ?_)))))
     by_cases h3:0<c
     ·refine .gtrT rfl rfl rfl (show (0:Int)<((c:Nat):Int) by omega) (.pick rfl rfl rfl (.nil (.condT rfl (.skip ?_))))
      exact ⟨rfl,(),lkA rfl,rfl,.inr h3⟩
     ·refine .gtrF rfl rfl rfl (show ¬ (0:Int)<((c:Nat):Int) by omega) (.pick rfl rfl rfl (.nil (.condF rfl (.exit (.seq (.region (.mv rfl rfl ?_)))))))
      refine .call _ rfl E4 rfl (E2 (ho.toR up)) fun v2 W2 e2 h2=>.asg rfl rfl (.nil (.ret ?_))
      refine .plain [_] Tryz.results225 ⟨rfl,trivial⟩ ⟨hB.trans (e2.mono hB.size),?_⟩
      rw [←hend (by omega),←trimH ho.2];exact h2
  ·rintro _ W' ⟨rfl,hgo⟩
   refine .seq (.block (.seq (.region (.mv rfl rfl (.mv rfl rfl ?_)))))
   refine .call _ rfl F7 rfl (F5 (hA hB)) fun v3 W3 e3 h3=>.mv rfl rfl (.mv rfl rfl ?_)
   subst h3
   have hB3:Below w.heap.size w W3:=hB.trans (e3.mono hB.size)
   refine .call _ rfl F7 rfl (F5 (hBb hB3)) fun v4 W4 e4 h4=>?_
   subst h4
   refine .add rfl rfl rfl (.mv rfl rfl (.add rfl rfl rfl (.asg rfl rfl (.nil ?_))))
   rw [wI (n:=((a.getD i 0:Nat):Int)+((b.getD i 0:Nat):Int)) (by omega),wI (by omega),show ((a.getD i 0:Nat):Int)+((b.getD i 0:Nat):Int)+(c:Int)=((a.getD i 0+b.getD i 0+c:Nat):Int) by omega]
   generalize hm:a.getD i 0+b.getD i 0+c=m at *
   refine .seq (.region (.mv rfl rfl (.mv rfl rfl (.rem rfl rfl rfl (by decide) ?_))))
   rw [tmod16]
   refine .bsl _ rfl rfl AM4 fun W5 b5 n5=>?_
   obtain ⟨e5,k5,hb5,hs5⟩:=n5
   have e35:=(e3.trans e4).trans e5
   have hB5:Below w.heap.size w W5:=hB.trans (e35.mono hB.size)
   refine .gv rfl rfl (Al6 (base:=w.heap.size) un_H V4 rfl rfl (ho.ext e35) k5 (by omega) (by omega) hB5.size) ?_
   rintro v6 W6 ⟨ho6,hg6⟩
   refine .asg rfl rfl (.nil (.region (.mv rfl rfl (.quo rfl rfl rfl (by decide) (.asg rfl rfl (.nil ?_))))))
   rw [tdiv16,wI (by omega)]
   refine .region (.mv rfl rfl (.add rfl rfl rfl (.asg rfl rfl (.nil ?_))))
   rw [wI (by omega)]
   have hget:max a.length b.length≤i→m / 65536=0:=by
    intro h
    have h1:a.getD i 0=0:=Q6 (by omega)
    have h2:b.getD i 0=0:=Q6 (by omega)
    omega
   refine ⟨rfl,(i+1,v6,_,m / 65536),lkA rfl,⟨(ho.ext e35).below hg6 hB5 hB5.size,by show i+1≤_;omega,by show (r++[_]).length=_;simp [hr],ho6,by show m / 65536≤1;omega,fun h=>hget (by have h':max a.length b.length<i+1:=h;omega),?_⟩,?_⟩
   ·show valH (r++[m % 65536])+65536 ^ (i+1)*(m / 65536)=valH (a.take (i+1))+valH (b.take (i+1))
    rw [AC9,J1,J1,hr]
    have hdm:=Nat.div_add_mod m 65536
    generalize m / 65536=q at *
    generalize m % 65536=z at *
    have:65536 ^ i*z+65536 ^ (i+1)*q=65536 ^ i*(a.getD i 0+b.getD i 0+c):=by
     rw [hm,←hdm,Nat.pow_succ];grind
    rw [Nat.mul_add,Nat.mul_add] at this
    omega
   ·show 2*(max a.length b.length-(i+1))+m / 65536<2*(max a.length b.length-i)+c
    rcases Nat.lt_or_ge i (max a.length b.length) with h | h
    ·omega
    ·have:=hget h;omega
end Go.Proofs.YtfilidfomgfnhaaGreat

namespace Go.Kx
theorem AG2 (l:List Nat) (i:Nat):valH l=valH (l.take i)+65536 ^ i*valH (l.drop i):=by
 rcases Nat.lt_or_ge i l.length with h | h
 ·have:valH l=valH (l.take i++l.drop i):=by rw [List.take_append_drop]
  rw [this,AA9,List.length_take,Nat.min_eq_left (by omega)]
 ·rw [List.take_of_length_le h,List.drop_eq_nil_of_le h];simp [valH]
theorem AS6 (l:List Nat) (i:Nat):valH (l.drop i)=l.getD i 0+65536*valH (l.drop (i+1)):=by
 rcases Nat.lt_or_ge i l.length with h | h
 ·exact U8 h
 ·rw [List.drop_eq_nil_of_le h,List.drop_eq_nil_of_le (by omega),List.getD_eq_getElem?_getD,List.getElem?_eq_none h];rfl
theorem At5 {l:List Nat} (h:digH l) (i:Nat):digH (l.take i):=fun x hx=>h x (List.mem_of_mem_take hx)
theorem AH9 {l:List Nat} (h:digH l) (i:Nat):valH (l.take i)<65536 ^ i:=by
 have h1:=X9 (At5 h i)
 refine Nat.lt_of_lt_of_le h1 (Nat.pow_le_pow_right (by omega) ?_)
 simp;omega
end Go.Kx
namespace Go.Proofs.YtfilidfomgfnhaaGreat
open Go Go.Kx Go.RowKit
theorem AF4:Ent Tryz.prog 259:=A0 Tryz.func259 (by kernel_rfl) rfl
theorem AE8 {S:Nat→Prop} {w:World} {vb:Value} {b:List Nat} {n:Nat} (up:Up S w) (hb:eHs.R S w vb b) (hlb:b.length≤100000000000) (hn:n≤65536):CR Tryz.prog 259 #[vb,.int .i64 n] w (eHs.at S (hds (valH b*n))):=by
 have hdb:=R4 hb
 have hB0:∀ {W:World},Below w.heap.size w W→eHs.R (fun k=>S k∧k<w.heap.size) W vb b:=fun hB=>eHs.keep (fun k c t f hk h=>(hB.block k hk.2).trans h) (ER.lt eHs hb)
 refine enter Tryz.func259 rfl Tryz.ntmps259 rfl ?_
 refine .seq (.region (.asg rfl rfl (.nil (.seq (.region (.asg rfl rfl (.nil (.seq (.region (.asg rfl rfl (.nil (.seq (.seq (.region (.asg rfl rfl (.nil ?_))))))))))))))))
 refine .block (.loop (α:=Nat×Value×List Nat×Nat) (fun x=>[(0,vb),(1,.int .i64 (n:Nat)),(5,x.2.1),(6,.int .i64 (x.2.2.2:Nat)),(7,.int .i64 (x.1:Nat))])
  (fun x W=>Below w.heap.size w W∧x.1≤b.length+2∧x.2.2.1.length=x.1∧OwnH 3 w.heap.size W x.2.1 x.2.2.1∧x.2.2.2≤65536∧(b.length<x.1→x.2.2.2≤1)∧(b.length+1<x.1→x.2.2.2=0)∧valH x.2.2.1+65536 ^ x.1*x.2.2.2=valH (b.take x.1)*n)
  (fun x=>100000*(b.length-x.1)+x.2.2.2) (0,.slice none 0 0,[],0) ?_ ?_ ?_)
 ·exact lkA rfl
 ·exact ⟨Below.refl _ _,Nat.zero_le _,rfl,OwnH.nil,Nat.zero_le _,fun _=>Nat.zero_le _,fun _=>rfl,by simp [valH]⟩
 ·rintro ⟨i,u,r,c⟩ W ⟨hB,hi,hr,ho,hc,hc1,hc0,hv⟩
  replace hB:Below w.heap.size w W:=hB
  replace hi:i≤b.length+2:=hi
  replace hr:r.length=i:=hr
  replace ho:OwnH 3 w.heap.size W u r:=ho
  replace hc:c≤65536:=hc
  replace hc1:b.length<i→c≤1:=hc1
  replace hc0:b.length+1<i→c=0:=hc0
  replace hv:valH r+65536 ^ i*c=valH (b.take i)*n:=hv
  have hxb:=L5 hdb i
  refine .mid (α:=Unit) (fun _=>[(0,vb),(1,.int .i64 (n:Nat)),(5,u),(6,.int .i64 (c:Nat)),(7,.int .i64 (i:Nat))]) (fun _ W'=>W'=W∧(i<b.length∨0<c)) ?_ ?_
  ·refine .seq (.region (.mv rfl rfl (.mv rfl rfl (.lenR un_H rfl rfl (hB0 hB) ?_))))
   by_cases h1:i<b.length
   ·refine .lssT rfl rfl rfl (by omega) (.mv rfl rfl (.gs rfl rfl rfl rfl rfl (.gs rfl rfl rfl rfl rfl (.pick rfl rfl rfl (.nil (.condT rfl (.skip ?_)))))))
    exact ⟨rfl,(),lkA rfl,rfl,.inl h1⟩
   ·refine .lssF rfl rfl rfl (by omega) (.mv rfl rfl (.gr rfl rfl rfl rfl (.mv rfl rfl (.gr rfl rfl rfl rfl ?_))))
    by_cases h3:0<c
    ·refine .gtrT rfl rfl rfl (show (0:Int)<((c:Nat):Int) by omega) (.pick rfl rfl rfl (.nil (.condT rfl (.skip ?_))))
     exact ⟨rfl,(),lkA rfl,rfl,.inr h3⟩
    ·refine .gtrF rfl rfl rfl (show ¬ (0:Int)<((c:Nat):Int) by omega) (.pick rfl rfl rfl (.nil (.condF rfl (.exit (.seq (.region (.mv rfl rfl ?_)))))))
     refine .call _ rfl E4 rfl (E2 (ho.toR up)) fun v2 W2 e2 h2=>.asg rfl rfl (.nil (.ret ?_))
     refine .plain [_] Tryz.results259 ⟨rfl,trivial⟩ ⟨hB.trans (e2.mono hB.size),?_⟩
     have h0:c=0:=by omega
     rw [h0,Nat.mul_zero,Nat.add_zero,O2 (by omega)] at hv
     rw [←hv,←trimH ho.2];exact h2
  ·rintro _ W' ⟨rfl,hgo⟩
   refine .seq (.block (.seq (.region (.mv rfl rfl (.mv rfl rfl ?_)))))
   refine .call _ rfl F7 rfl (F5 (hB0 hB)) fun v3 W3 e3 h3=>?_
   subst h3
   refine .mv rfl rfl (.mul rfl rfl rfl (.mv rfl rfl (.add rfl rfl rfl (.asg rfl rfl (.nil ?_)))))
   have hmul:b.getD i 0*n≤65535*65536:=Nat.mul_le_mul (by omega) hn
   rw [←Int.natCast_mul,wI (n:=((b.getD i 0*n:Nat):Int)) (by omega),←Int.natCast_add,wI (by omega)]
   generalize hm:b.getD i 0*n+c=m at *
   refine .seq (.region (.mv rfl rfl (.mv rfl rfl (.rem rfl rfl rfl (by decide) ?_))))
   rw [tmod16]
   refine .bsl _ rfl rfl AM4 fun W5 b5 n5=>?_
   obtain ⟨e5,k5,hb5,hs5⟩:=n5
   have e35:=e3.trans e5
   have hB5:Below w.heap.size w W5:=hB.trans (e35.mono hB.size)
   refine .gv rfl rfl (Al6 (base:=w.heap.size) un_H V4 rfl rfl (ho.ext e35) k5 (by omega) (by omega) hB5.size) ?_
   rintro v6 W6 ⟨ho6,hg6⟩
   refine .asg rfl rfl (.nil (.region (.mv rfl rfl (.quo rfl rfl rfl (by decide) (.asg rfl rfl (.nil ?_))))))
   rw [tdiv16,wI (by omega)]
   refine .region (.mv rfl rfl (.add rfl rfl rfl (.asg rfl rfl (.nil ?_))))
   rw [wI (by omega)]
   have hget:b.length≤i→m=c:=by
    intro h
    have h2:b.getD i 0=0:=Q6 h
    rw [h2] at hm;omega
   refine ⟨rfl,(i+1,v6,_,m / 65536),lkA rfl,⟨(ho.ext e35).below hg6 hB5 hB5.size,?_,by show (r++[_]).length=_;simp [hr],ho6,by show m / 65536≤65536;omega,?_,?_,?_⟩,?_⟩
   ·show i+1≤b.length+2
    rcases hgo with h | h
    ·omega
    ·by_cases hh:b.length+1<i
     ·have:=hc0 hh;omega
     ·omega
   ·intro h
    have h':b.length<i+1:=h
    have:=hget (by omega)
    show m / 65536≤1
    omega
   ·intro h
    have h':b.length+1<i+1:=h
    have h1:=hget (by omega)
    have h2:=hc1 (by omega)
    show m / 65536=0
    omega
   ·show valH (r++[m % 65536])+65536 ^ (i+1)*(m / 65536)=valH (b.take (i+1))*n
    rw [AC9,J1,hr,Nat.add_mul,←hv]
    have hdm:=Nat.div_add_mod m 65536
    generalize m / 65536=q at *
    generalize m % 65536=z at *
    have:65536 ^ i*z+65536 ^ (i+1)*q=65536 ^ i*(b.getD i 0*n+c):=by
     rw [hm,←hdm,Nat.pow_succ];grind
    rw [Nat.mul_add,←Nat.mul_assoc] at this
    omega
   ·show 100000*(b.length-(i+1))+m / 65536<100000*(b.length-i)+c
    rcases Nat.lt_or_ge i b.length with h | h
    ·omega
    ·have:=hget h;omega
theorem AO9:Ent Tryz.prog 227:=A0 Tryz.func227 (by kernel_rfl) rfl
theorem AN6 {S:Nat→Prop} {w:World} {va vb:Value} {a b:List Nat} (up:Up S w) (ha:eHs.R S w va a) (hb:eHs.R S w vb b) (hla:a.length≤100000000000) (hab:valH b≤valH a):CR Tryz.prog 227 #[va,vb] w (eHs.at S (hds (valH a-valH b))):=by
 have hda:=R4 ha
 have hdb:=R4 hb
 have hA:∀ {W:World},Below w.heap.size w W→eHs.R (fun k=>S k∧k<w.heap.size) W va a:=fun hB=>eHs.keep (fun k c t f hk h=>(hB.block k hk.2).trans h) (ER.lt eHs ha)
 have hBb:∀ {W:World},Below w.heap.size w W→eHs.R (fun k=>S k∧k<w.heap.size) W vb b:=fun hB=>eHs.keep (fun k c t f hk h=>(hB.block k hk.2).trans h) (ER.lt eHs hb)
 refine enter Tryz.func227 rfl Tryz.ntmps227 rfl ?_
 refine .seq (.region (.asg rfl rfl (.nil (.seq (.region (.asg rfl rfl (.nil (.seq (.region (.asg rfl rfl (.nil (.seq (.seq (.region (.asg rfl rfl (.nil ?_))))))))))))))))
 refine .block (.loop (α:=Nat×Value×List Nat×Nat) (fun x=>[(0,va),(1,vb),(5,x.2.1),(6,.int .i64 (x.2.2.2:Nat)),(7,.int .i64 (x.1:Nat))])
  (fun x W=>Below w.heap.size w W∧x.1≤a.length∧x.2.2.1.length=x.1∧OwnH 3 w.heap.size W x.2.1 x.2.2.1∧x.2.2.2≤1∧valH x.2.2.1+valH (b.take x.1)=valH (a.take x.1)+65536 ^ x.1*x.2.2.2)
  (fun x=>a.length-x.1) (0,.slice none 0 0,[],0) ?_ ?_ ?_)
 ·exact lkA rfl
 ·exact ⟨Below.refl _ _,Nat.zero_le _,rfl,OwnH.nil,Nat.zero_le _,by simp [valH]⟩
 ·rintro ⟨i,u,r,c⟩ W ⟨hB,hi,hr,ho,hc,hv⟩
  replace hB:Below w.heap.size w W:=hB
  replace hi:i≤a.length:=hi
  replace hr:r.length=i:=hr
  replace ho:OwnH 3 w.heap.size W u r:=ho
  replace hc:c≤1:=hc
  replace hv:valH r+valH (b.take i)=valH (a.take i)+65536 ^ i*c:=hv
  have hxa:=L5 hda i
  have hxb:=L5 hdb i
  refine .weak [(0,va),(1,vb),(5,u),(6,.int .i64 (c:Nat)),(7,.int .i64 (i:Nat))] (fun t v h=>h) ?_
  refine .seq (.seq (.region (.mv rfl rfl (.mv rfl rfl (.lenR un_H rfl rfl (hA hB) ?_)))))
  by_cases hlt:i<a.length
  ·refine .lssT rfl rfl rfl (by omega) (.nil (.condT rfl (.skip (.seq (.block (.seq (.region (.mv rfl rfl (.mv rfl rfl ?_)))))))))
   refine .call _ rfl F7 rfl (F5 (hA hB)) fun v3 W3 e3 h3=>.mv rfl rfl (.mv rfl rfl ?_)
   subst h3
   have hB3:Below w.heap.size w W3:=hB.trans (e3.mono hB.size)
   refine .call _ rfl F7 rfl (F5 (hBb hB3)) fun v4 W4 e4 h4=>?_
   subst h4
   refine .sub rfl rfl rfl (.mv rfl rfl (.sub rfl rfl rfl (.asg rfl rfl (.nil ?_))))
   rw [wI (n:=((a.getD i 0:Nat):Int)-((b.getD i 0:Nat):Int)) (by omega),wI (by omega)]
   have e34:=e3.trans e4
   refine .seq (.region (.asg rfl rfl (.nil ?_)))
   generalize hx:a.getD i 0=x at *
   generalize hy:b.getD i 0=y at *
   refine .mid (α:=Nat×Nat) (fun p=>[(0,va),(1,vb),(5,u),(6,.int .i64 (p.2:Nat)),(7,.int .i64 (i:Nat)),(8,.int .i64 (p.1:Nat))]) (fun p W'=>W'=W4∧p.1<65536∧p.2≤1∧p.1+y+c=x+65536*p.2) ?_ ?_
   ·refine .seq (.region (.mv rfl rfl ?_))
    by_cases h0:(x:Int)-(y:Int)-(c:Int)<0
    ·refine .lssT rfl rfl rfl h0 (.nil (.condT rfl (.seq (.region (.mv rfl rfl (.add rfl rfl rfl (.asg rfl rfl (.nil (.region (.asg rfl rfl (.nil ?_)))))))))))
     rw [wI (by omega),show (x:Int)-(y:Int)-(c:Int)+65536=((x+65536-y-c:Nat):Int) by omega]
     exact ⟨rfl,(x+65536-y-c,1),lkA rfl,rfl,by show x+65536-y-c<65536;omega,Nat.le_refl _,by show x+65536-y-c+y+c=x+65536*1;omega⟩
    ·refine .lssF rfl rfl rfl h0 (.nil (.condF rfl (.skip ?_)))
     rw [show (x:Int)-(y:Int)-(c:Int)=((x-y-c:Nat):Int) by omega]
     exact ⟨rfl,(x-y-c,0),lkA rfl,rfl,by show x-y-c<65536;omega,Nat.zero_le _,by show x-y-c+y+c=x+65536*0;omega⟩
   ·rintro ⟨z,l⟩ W' ⟨rfl,hz,hl,hzl⟩
    replace hz:z<65536:=hz
    replace hl:l≤1:=hl
    replace hzl:z+y+c=x+65536*l:=hzl
    refine .region (.mv rfl rfl (.mv rfl rfl (.bsl _ rfl rfl AM4 fun W5 b5 n5=>?_)))
    obtain ⟨e5,k5,hb5,hs5⟩:=n5
    have e35:=e34.trans e5
    have hB5:Below w.heap.size w W5:=hB.trans (e35.mono hB.size)
    refine .gv rfl rfl (Al6 (base:=w.heap.size) un_H V4 rfl rfl (ho.ext e35) k5 hz (by omega) hB5.size) ?_
    rintro v6 W6 ⟨ho6,hg6⟩
    refine .asg rfl rfl (.nil (.region (.mv rfl rfl (.add rfl rfl rfl (.asg rfl rfl (.nil ?_))))))
    rw [wI (by omega)]
    refine ⟨rfl,(i+1,v6,_,l),lkA rfl,⟨(ho.ext e35).below hg6 hB5 hB5.size,hlt,by show (r++[_]).length=_;simp [hr],ho6,hl,?_⟩,by show a.length-(i+1)<a.length-i;omega⟩
    show valH (r++[z])+valH (b.take (i+1))=valH (a.take (i+1))+65536 ^ (i+1)*l
    rw [AC9,J1,J1,hr,hx,hy,Nat.pow_succ]
    have:65536 ^ i*(z+y+c)=65536 ^ i*(x+65536*l):=by rw [hzl]
    rw [Nat.mul_add,Nat.mul_add,Nat.mul_add,←Nat.mul_assoc] at this
    omega
  ·refine .lssF rfl rfl rfl (by omega) (.nil (.condF rfl (.exit (.seq (.region (.mv rfl rfl ?_))))))
   refine .call _ rfl E4 rfl (E2 (ho.toR up)) fun v2 W2 e2 h2=>.asg rfl rfl (.nil (.ret ?_))
   refine .plain [_] Tryz.results227 ⟨rfl,trivial⟩ ⟨hB.trans (e2.mono hB.size),?_⟩
   have hie:i=a.length:=by omega
   subst hie
   rw [O2 (l:=a) (Nat.le_refl _)] at hv
   have h1:=X9 hda
   have h2':=X9 ho.2
   rw [hr] at h2'
   have h3:=AG2 b a.length
   have hp:0<65536 ^ a.length:=Nat.pow_pos (by omega)
   have h4:valH (b.drop a.length)=0:=by
    rcases Nat.eq_zero_or_pos (valH (b.drop a.length)) with h | h
    ·exact h
    ·have:65536 ^ a.length*1≤65536 ^ a.length*valH (b.drop a.length):=Nat.mul_le_mul_left _ h
     omega
   rw [h4,Nat.mul_zero,Nat.add_zero] at h3
   have h5:c=0:=by
    rcases Nat.eq_zero_or_pos c with h | h
    ·exact h
    ·have:c=1:=by omega
     rw [this,Nat.mul_one] at hv
     omega
   rw [h5,Nat.mul_zero,Nat.add_zero,←h3] at hv
   rw [show valH a-valH b=valH r by omega,←trimH ho.2];exact h2
theorem AP1:Ent Tryz.prog 226:=A0 Tryz.func226 (by kernel_rfl) rfl
theorem AN8 {S:Nat→Prop} {w:World} {va vb:Value} {a b:List Nat} (ha:eHs.R S w va a) (hb:eHs.R S w vb b) (hla:a.length≤100000000000) (hlb:b.length≤100000000000):CR Tryz.prog 226 #[va,vb] w (Is (.int .i64 (cmpN (valH a) (valH b)))):=by
 have hda:=R4 ha
 have hdb:=R4 hb
 refine enter Tryz.func226 rfl Tryz.ntmps226 rfl ?_
 refine .seq (.region (.asg rfl rfl (.nil (.seq (.seq (.region (.mv rfl rfl (.lenR un_H rfl rfl ha (.mv rfl rfl (.lenR un_H rfl rfl hb (.max_ rfl rfl rfl (.sub rfl rfl rfl (.asg rfl rfl (.nil ?_))))))))))))))
 rw [wI (by omega),show max (a.length:Int) (b.length:Int)-1=((max a.length b.length:Nat):Int)-1 by omega]
 refine .block (.loop (α:=Nat) (fun j=>[(0,va),(1,vb),(5,.int .i64 ((j:Nat)-1:Int))]) (fun j W=>Ext w W∧j≤max a.length b.length∧valH (a.drop j)=valH (b.drop j)) (fun j=>j) (max a.length b.length) ?_ ?_ ?_)
 ·exact lkA rfl
 ·exact ⟨.refl _,Nat.le_refl _,by rw [List.drop_eq_nil_of_le (by omega),List.drop_eq_nil_of_le (by omega)]⟩
 ·rintro j W ⟨hW,hj,heq⟩
  refine .seq (.seq (.region (.mv rfl rfl ?_)))
  cases j with
  | zero =>
   refine .geqF rfl rfl rfl (by simp) (.nil (.condF rfl (.exit (.seq (.region (.asg rfl rfl (.nil (.ret ?_))))))))
   refine .plain [_] Tryz.results226 ⟨rfl,trivial⟩ ⟨hW,isI ?_⟩
   simp at heq
   unfold cmpN;rw [heq];simp
  | succ i =>
   rw [show (((i+1:Nat):Int)-1)=(i:Int) by omega]
   have ea:=AG2 a i
   have eb:=AG2 b i
   have da:=AS6 a i
   have db:=AS6 b i
   have ta:=AH9 hda i
   have tb:=AH9 hdb i
   have hp:0<65536 ^ i:=Nat.pow_pos (by omega)
   refine .geqT rfl rfl rfl (by omega) (.nil (.condT rfl (.skip (.seq (.block (.seq (.seq (.region (.mv rfl rfl (.mv rfl rfl ?_))))))))))
   refine .call _ rfl F7 rfl (F5 (ha.ext hW)) fun v3 W3 e3 h3=>.mv rfl rfl (.mv rfl rfl ?_)
   subst h3
   have hW3:=hW.trans e3
   refine .call _ rfl F7 rfl (F5 (hb.ext hW3)) fun v4 W4 e4 h4=>?_
   subst h4
   have hW4:=hW3.trans e4
   by_cases h1:a.getD i 0<b.getD i 0
   ·refine .lssT rfl rfl rfl (by omega) (.nil (.condT rfl (.seq (.region (.asg rfl rfl (.nil (.ret ?_)))))))
    refine .plain [_] Tryz.results226 ⟨rfl,trivial⟩ ⟨hW4,isI ?_⟩
    have hlt:valH (a.drop i)+1≤valH (b.drop i):=by omega
    have hm:65536 ^ i*(valH (a.drop i)+1)≤65536 ^ i*valH (b.drop i):=Nat.mul_le_mul_left _ hlt
    rw [Nat.mul_add,Nat.mul_one] at hm
    unfold cmpN;rw [if_pos (by omega)]
   ·refine .lssF rfl rfl rfl (by omega) (.nil (.condF rfl (.skip (.seq (.region (.mv rfl rfl (.mv rfl rfl ?_)))))))
    refine .call _ rfl F7 rfl (F5 (ha.ext hW4)) fun v5 W5 e5 h5=>.mv rfl rfl (.mv rfl rfl ?_)
    subst h5
    have hW5:=hW4.trans e5
    refine .call _ rfl F7 rfl (F5 (hb.ext hW5)) fun v6 W6 e6 h6=>?_
    subst h6
    have hW6:=hW5.trans e6
    by_cases h2:b.getD i 0<a.getD i 0
    ·refine .gtrT rfl rfl rfl (by omega) (.nil (.condT rfl (.seq (.region (.asg rfl rfl (.nil (.ret ?_)))))))
     refine .plain [_] Tryz.results226 ⟨rfl,trivial⟩ ⟨hW6,isI ?_⟩
     have hlt:valH (b.drop i)+1≤valH (a.drop i):=by omega
     have hm:65536 ^ i*(valH (b.drop i)+1)≤65536 ^ i*valH (a.drop i):=Nat.mul_le_mul_left _ hlt
     rw [Nat.mul_add,Nat.mul_one] at hm
     unfold cmpN;rw [if_neg (by omega),if_pos (by omega)]
    ·refine .gtrF rfl rfl rfl (by omega) (.nil (.condF rfl (.skip (.region (.mv rfl rfl (.sub rfl rfl rfl (.asg rfl rfl (.nil ?_))))))))
     rw [wI (by omega)]
     exact ⟨rfl,i,lkA rfl,⟨hW6,by omega,by omega⟩,by show i<i+1;omega⟩
theorem O5:Ent Tryz.prog 258:=A0 Tryz.func258 (by kernel_rfl) rfl
theorem O3 {S:Nat→Prop} {w:World} {va:Value} {a:List Nat} (ha:eHs.R S w va a) (hla:a.length≤3):CR Tryz.prog 258 #[va] w (Is (.int .i64 (valH a))):=by
 have hda:=R4 ha
 refine enter Tryz.func258 rfl Tryz.ntmps258 rfl ?_
 refine .seq (.region (.asg rfl rfl (.nil (.seq (.region (.asg rfl rfl (.nil (.seq (.seq (.region (.mv rfl rfl (.lenR un_H rfl rfl ha (.sub rfl rfl rfl (.asg rfl rfl (.nil ?_)))))))))))))))
 rw [wI (by omega)]
 refine .block (.loop (α:=Nat) (fun j=>[(0,va),(3,.int .i64 (valH (a.drop j):Nat)),(4,.int .i64 ((j:Nat)-1:Int))]) (fun j W=>W=w∧j≤a.length) (fun j=>j) a.length ?_ ?_ ?_)
 ·refine A2 rfl (A2 ?_ (lkA rfl))
  rw [List.drop_eq_nil_of_le (Nat.le_refl _)];rfl
 ·exact ⟨rfl,Nat.le_refl _⟩
 ·rintro j W ⟨rfl,hj⟩
  refine .seq (.seq (.region (.mv rfl rfl ?_)))
  cases j with
  | zero =>
   refine .geqF rfl rfl rfl (by simp) (.nil (.condF rfl (.exit (.seq (.region (.mv rfl rfl (.asg rfl rfl (.nil (.ret ?_)))))))))
   exact .plain [_] Tryz.results258 ⟨rfl,trivial⟩ ⟨.refl _,rfl⟩
  | succ i =>
   rw [show (((i+1:Nat):Int)-1)=(i:Int) by omega]
   have hx:=L5 hda i
   have hlt:=X9 (show digH (a.drop (i+1)) from fun x hx=>hda x (List.mem_of_mem_drop hx))
   have hlen:(a.drop (i+1)).length≤2:=by simp;omega
   have hpw:65536 ^ (a.drop (i+1)).length≤65536 ^ 2:=Nat.pow_le_pow_right (by omega) hlen
   have hd:=U8 (l:=a) (k:=i) (by omega)
   refine .geqT rfl rfl rfl (by omega) (.nil (.condT rfl (.skip (.seq (.block (.region (.mv rfl rfl (.mul rfl rfl rfl (.mv rfl rfl (.mv rfl rfl ?_))))))))))
   refine .ixN (i:=i) un_H A7 rfl rfl ha rfl (B2 (by omega)) fun p hp=>.ldE A7 rfl rfl hp fun e he=>?_
   obtain ⟨rfl,_⟩:=he
   refine .add rfl rfl rfl (.asg rfl rfl (.nil (.region (.mv rfl rfl (.sub rfl rfl rfl (.asg rfl rfl (.nil ?_)))))))
   rw [wI (n:=((valH (a.drop (i+1)):Nat):Int)*65536) (by omega),wI (n:=((valH (a.drop (i+1)):Nat):Int)*65536+_) (by omega),wI (n:=(i:Int)-1) (by omega)]
   refine ⟨rfl,i,A2 rfl (A2 ?_ (lkA rfl)),⟨rfl,by omega⟩,by show i<i+1;omega⟩
   show some (Value.int .i64 (((valH (a.drop (i+1)):Nat):Int)*65536+((a.getD i 0:Nat):Int)))=_
   rw [hd]
   congr 2;omega
end Go.Proofs.YtfilidfomgfnhaaGreat

namespace Go.Kx
end Go.Kx
namespace Go.Proofs.YtfilidfomgfnhaaGreat
open Go Go.Kx Go.RowKit
theorem AK5:Ent Tryz.prog 257:=A0 Tryz.func257 (by kernel_rfl) rfl
theorem AI8 {S:Nat→Prop} {w:World} {v:Nat} (up:Up S w) (hv:v<281474976710656):CR Tryz.prog 257 #[.int .i64 v] w (eHs.at S (hds v)):=by
 refine enter Tryz.func257 rfl Tryz.ntmps257 rfl ?_
 refine .seq (.region (.asg rfl rfl (.nil (.seq (.region (.mv rfl rfl (.rem rfl rfl rfl (by decide) (.mv rfl rfl (.quo rfl rfl rfl (by decide) ?_)))))))))
 rw [tmod16,tdiv16,wI (by omega)]
 refine .rem rfl rfl rfl (by decide) (.mv rfl rfl (.quo rfl rfl rfl (by decide) ?_))
 rw [tmod16,tdiv16,wI (by omega)]
 refine .quo rfl rfl rfl (by decide) ?_
 rw [tdiv16,wI (by omega)]
 refine .bsl _ rfl rfl bsl_H3 fun w1 b1 n1=>?_
 have hd:digH [v % 65536,v / 65536 % 65536,v / 65536 / 65536]:=by
  intro x hx
  simp at hx
  omega
 have ho:OwnH 3 w.heap.size w1 (.slice (some ⟨b1,0,none⟩) 3 3) [v % 65536,v / 65536 % 65536,v / 65536 / 65536]:=OwnH.lit (l:=[v % 65536,v / 65536 % 65536,v / 65536 / 65536]) n1 (Nat.le_refl _) hd (by simp)
 have hval:valH [v % 65536,v / 65536 % 65536,v / 65536 / 65536]=v:=by simp only [valH];omega
 refine .call _ rfl E4 rfl (E2 (ho.toR up)) fun v2 w2 e2 h2=>.asg rfl rfl (.nil (.ret ?_))
 rw [trimH hd,hval] at h2
 exact .plain [_] Tryz.results257 ⟨rfl,trivial⟩ ⟨n1.1.trans e2,h2⟩
end Go.Proofs.YtfilidfomgfnhaaGreat

namespace Go.Kx
theorem hds_ge {n:Nat} (h:n≠0):65536 ^ ((hds n).length-1)≤n:=by
 induction n using Nat.strongRecOn with
 | ind n ih =>
  rw [AD8 h,List.length_cons,Nat.add_sub_cancel]
  by_cases h1:n / 65536=0
  ·rw [h1,J4];simp;omega
  ·have:=ih (n / 65536) (by omega) h1
   have hl:(hds (n / 65536)).length≠0:=fun e=>h1 (N8.1 (List.length_eq_zero_iff.1 e))
   obtain ⟨m,hm⟩:∃ m,(hds (n / 65536)).length=m+1:=⟨_,(Nat.succ_pred_eq_of_ne_zero hl).symm⟩
   rw [hm] at this ⊢
   rw [Nat.add_sub_cancel] at this
   rw [Nat.pow_succ]
   have:=Nat.mul_le_mul_right 65536 this
   omega
theorem AE7 {l:List Nat} {i q:Nat} (h:i<l.length):valH ((l.set i q).drop i)=q+65536*valH (l.drop (i+1)):=by
 rw [U8 (by simpa using h)]
 have h1:(l.set i q).getD i 0=q:=by rw [List.getD_eq_getElem?_getD,List.getElem?_set_self h];rfl
 have h2:(l.set i q).drop (i+1)=l.drop (i+1):=by rw [List.drop_set];simp
 rw [h1,h2]
/-- one step of a long division -/
theorem Ah0 {D d x R Q:Nat} (hd:0<d) (hQ:Q=D / d) (hR:R=D % d):(x+65536*D) / d=(x+65536*R) / d+65536*Q∧(x+65536*D) % d=(x+65536*R) % d:=by
 have h1:=Nat.div_add_mod D d
 rw [←hQ,←hR] at h1
 have h2:x+65536*D=(x+65536*R)+d*(65536*Q):=by
  rw [←h1,Nat.mul_add]
  have:65536*(d*Q)=d*(65536*Q):=by rw [←Nat.mul_assoc,Nat.mul_comm 65536 d,Nat.mul_assoc]
  omega
 rw [h2,Nat.add_mul_div_left _ _ hd,Nat.add_mul_mod_self_left]
 exact ⟨rfl,rfl⟩
end Go.Kx
namespace Go.Proofs.YtfilidfomgfnhaaGreat
open Go Go.Kx Go.RowKit
theorem Ao6 {P:Program} {σ:Env} {w:World} {dd:Option Tmp} {ty:TypeId} {pos:String} {af:Array Edge} {gd:Option (Nat×Bool)} {t e:TypeId} {x ix:Operand} {k:IntKind} {i:Nat} {b:Bool} {sz n c:Nat} {ad:Addr} (ht:P.underlying t=some (.slice e)) (he:tyOf P e=some (b,sz)) (hx:ev σ x=some (.slice (some ad) n c))
  (hi:ev σ ix=some (.int k (i:Int))) (hlt:i<n):Vl P ⟨dd,.indexAddr t x ix,ty,pos,af,gd⟩ σ w (.pointer (some (ad.add (i*sz)))):=by
 refine ⟨(by intro _ h;cases h),fun ρ hρ=>?_⟩
 have h1:=hρ x _ (by simp [Op.operands]) hx
 have h2:=hρ ix _ (by simp [Op.operands]) hi
 simp [execOp,h1,h2,Instr.indexAt,asIntOf,run_underlying ht,(H3 he w).2]
 intro hh;omega
theorem zero_H {S:Nat→Prop} {w:World}:eH.R S w (.int .i64 0) 0:=⟨rfl,by decide⟩
theorem Aq9 {S:Nat→Prop} {w:World} {t:TypeId} {g:Nat} {l:List Nat} (h:FB eH t S w g l):digH l:=by
 intro x hx
 obtain ⟨es,_,he⟩:=h
 obtain ⟨i,hi⟩:=List.mem_iff_getElem?.1 hx
 have hlt:i<l.length:=(List.getElem?_eq_some_iff.1 hi).1
 exact (he.2 i _ x (List.getElem?_eq_getElem (by rw [he.1];exact hlt)) hi).2
theorem AP0:Ent Tryz.prog 260:=A0 Tryz.func260 (by kernel_rfl) rfl
theorem AN7 {S:Nat→Prop} {w:World} {va vb:Value} {m d:Nat} (up:Up S w) (ha:eHs.R S w va (hds m)) (hb:eHs.R S w vb (hds d)) (hla:(hds m).length≤10000000000) (hlb:(hds d).length≤10000000000) (hd:d≠0) :
  CR Tryz.prog 260 #[va,vb] w (Two (eHs.at S (hds (m / d))) (eHs.at S (hds (m % d)))):=by
 have hda:=AV4 m
 have hdb:=AV4 d
 have hva:=D0 m
 have hvb:=D0 d
 have hbne:(hds d).length≠0:=fun e=>hd (N8.1 (List.length_eq_zero_iff.1 e))
 have hbge:=hds_ge hd
 have hblt:=AU1 d
 generalize hds m=a at *
 generalize hds d=b at *
 have hA:∀ {W:World},Below w.heap.size w W→eHs.R (fun k=>S k∧k<w.heap.size) W va a:=fun hB=>eHs.keep (fun k c t f hk h=>(hB.block k hk.2).trans h) (ER.lt eHs ha)
 have hBb:∀ {W:World},Below w.heap.size w W→eHs.R (fun k=>S k∧k<w.heap.size) W vb b:=fun hB=>eHs.keep (fun k c t f hk h=>(hB.block k hk.2).trans h) (ER.lt eHs hb)
 refine enter Tryz.func260 rfl Tryz.ntmps260 rfl ?_
 refine .seq (.region (.asg rfl rfl (.asg rfl rfl (.nil ?_))))
 refine .mid (α:=Unit) (fun _=>[(0,va),(1,vb)]) (fun _ W=>W=w∧(3<a.length∨3<b.length)) ?_ ?_
 ·refine .seq (.region (.mv rfl rfl (.lenR un_H rfl rfl ha ?_)))
  by_cases h1:a.length≤3
  ·refine .leqT rfl rfl rfl (by omega) (.mv rfl rfl (.gr rfl rfl rfl rfl (.mv rfl rfl (.gr rfl rfl rfl rfl (.lenR un_H rfl rfl hb (.gr rfl rfl rfl rfl ?_))))))
   by_cases h2:b.length≤3
   ·refine .leqT rfl rfl rfl (by omega) (.pick rfl rfl rfl (.nil (.condT rfl (.seq (.region (.mv rfl rfl ?_))))))
    refine .call _ rfl O5 rfl (O3 ha h1) fun v1 w1 e1 r1=>.mv rfl rfl ?_
    subst r1
    refine .call _ rfl O5 rfl (O3 (hb.ext e1) h2) fun v2 w2 e2 r2=>?_
    subst r2
    rw [hva,hvb]
    have x2:=e1.trans e2
    have hm3:m<281474976710656:=by
     have:=X9 hda
     have hp:65536 ^ a.length≤65536 ^ 3:=Nat.pow_le_pow_right (by omega) h1
     omega
    have hdle:m / d≤m:=Nat.div_le_self _ _
    have hmlt:m % d≤m:=Nat.mod_le _ _
    refine .quo rfl rfl rfl (by omega) ?_
    rw [M1,wI (by have h0:(0:Int)≤((m / d:Nat):Int):=Int.natCast_nonneg _;omega)]
    refine .call _ rfl AK5 rfl (AI8 (up.ext x2.size) (by omega)) fun v3 w3 e3 r3=>.mv rfl rfl ?_
    have x3:=x2.trans e3
    refine .call _ rfl O5 rfl (O3 (ha.ext x3) h1) fun v4 w4 e4 r4=>.mv rfl rfl ?_
    subst r4
    have x4:=x3.trans e4
    refine .call _ rfl O5 rfl (O3 (hb.ext x4) h2) fun v5 w5 e5 r5=>?_
    subst r5
    rw [hva,hvb]
    have x5:=x4.trans e5
    refine .rem rfl rfl rfl (by omega) ?_
    rw [M0]
    refine .call _ rfl AK5 rfl (AI8 (up.ext x5.size) (by omega)) fun v6 w6 e6 r6=>.asg rfl rfl (.asg rfl rfl (.nil (.ret ?_)))
    exact .plain [_,_] Tryz.results260 ⟨rfl,rfl,trivial⟩ ⟨x5.trans e6,v3,v6,rfl,ER.ext eHs (ER.ext eHs (ER.ext eHs r3 e4) e5) e6,r6⟩
   ·refine .leqF rfl rfl rfl (by omega) (.pick rfl rfl rfl (.nil (.condF rfl (.skip ?_))))
    exact ⟨rfl,(),lkA rfl,rfl,by omega⟩
  ·refine .leqF rfl rfl rfl (by omega) (.mv rfl rfl (.gs rfl rfl rfl rfl rfl (.gs rfl rfl rfl rfl rfl (.gs rfl rfl rfl rfl rfl (.pick rfl rfl rfl (.nil (.condF rfl (.skip ?_))))))))
   exact ⟨rfl,(),lkA rfl,rfl,by omega⟩
 rintro _ W ⟨hWw,hbig⟩
 have hWw:=hWw.symm
 subst hWw
 refine .seq (.region (.mv rfl rfl (.lenR un_H rfl rfl ha ?_)))
 refine .make_ _ _ un_H V4 rfl (by decide) rfl rfl rfl (Nat.le_refl _) (by omega) (by omega) fun w1 g n1=>.asg rfl rfl (.nil ?_)
 have f1:FB eH 3 S w1 g (List.replicate a.length 0):=FB.made n1 zero_H
 obtain ⟨e1,k1,hg,hs1⟩:=n1
 have hout:∀ {W2:World} {l:List Nat},FB eH 3 S W2 g l→l.length=a.length→eHs.R S W2 (.slice (some ⟨g,0,none⟩) a.length a.length) l:=by
  intro W2 l hF hl
  have:=hF.toR (c:=a.length) (hsz:=by decide) (up g (by omega)) (by omega) (by omega)
  rwa [hl] at this
 refine .seq (.seq (.region (.mv rfl rfl (.lenR un_H rfl rfl (hBb e1) ?_))))
 by_cases hb1:b.length=1
 ·refine .eqlT rfl rfl rfl (by omega) (.nil (.condT rfl (.seq (.region (.asg rfl rfl (.nil ?_))))))
  have hb0:b.getD 0 0=d:=by
   match b,hb1 with
   | [x],_=>simpa [valH] using hvb
  have hd16:d<65536:=by rw [hb1] at hblt;simpa using hblt
  have hgetb:=B2 (l:=b) (k:=0) (by omega)
  rw [hb0] at hgetb
  refine .mid (α:=List Nat×Nat) (fun p=>[(6,.slice (some ⟨g,0,none⟩) a.length a.length),(7,.int .i64 (p.2:Nat))]) (fun p W=>Below w.heap.size w W∧FB eH 3 S W g p.1∧p.1.length=a.length∧valH p.1=m / d∧p.2=m % d) ?_ ?_
  ·refine .seq (.region (.mv rfl rfl (.lenR un_H rfl rfl (hA e1) (.sub rfl rfl rfl (.asg rfl rfl (.nil ?_))))))
   rw [wI (by omega)]
   refine .block (.loop (α:=Nat×List Nat×Nat) (fun x=>[(0,va),(1,vb),(6,.slice (some ⟨g,0,none⟩) a.length a.length),(7,.int .i64 (x.2.2:Nat)),(8,.int .i64 ((x.1:Nat)-1:Int))])
    (fun x W=>Below w.heap.size w W∧x.1≤a.length∧FB eH 3 S W g x.2.1∧x.2.1.length=a.length∧valH (x.2.1.drop x.1)=valH (a.drop x.1) / d∧x.2.2=valH (a.drop x.1) % d) (fun x=>x.1) (a.length,List.replicate a.length 0,0) ?_ ?_ ?_)
   ·exact lkA rfl
   ·refine ⟨e1,Nat.le_refl _,f1,by simp,?_,?_⟩
    ·show valH ((List.replicate a.length 0).drop a.length)=_
     rw [List.drop_eq_nil_of_le (by simp),List.drop_eq_nil_of_le (Nat.le_refl _)];simp [valH]
    ·show 0=_
     rw [List.drop_eq_nil_of_le (Nat.le_refl _)];simp [valH]
   ·rintro ⟨j,l,r⟩ W ⟨hB,hj,hF,hl,hq,hr⟩
    replace hB:Below w.heap.size w W:=hB
    replace hj:j≤a.length:=hj
    replace hF:FB eH 3 S W g l:=hF
    replace hl:l.length=a.length:=hl
    replace hq:valH (l.drop j)=valH (a.drop j) / d:=hq
    replace hr:r=valH (a.drop j) % d:=hr
    refine .weak [(0,va),(1,vb),(6,.slice (some ⟨g,0,none⟩) a.length a.length),(7,.int .i64 (r:Nat)),(8,.int .i64 ((j:Nat)-1:Int))] (fun t v h=>h) ?_
    have hsz:=hB.size
    have hgl:=hF.lt
    have hrd:r<d:=by rw [hr];exact Nat.mod_lt _ (by omega)
    refine .seq (.seq (.region (.mv rfl rfl ?_)))
    cases j with
    | zero =>
     refine .geqF rfl rfl rfl (by simp) (.nil (.condF rfl (.exit ?_)))
     rw [List.drop_zero,List.drop_zero,hva] at hq
     rw [List.drop_zero,hva] at hr
     exact ⟨rfl,(l,r),lkA rfl,hB,hF,hl,hq,hr⟩
    | succ i =>
     rw [show (((i+1:Nat):Int)-1)=(i:Int) by omega]
     have hx:=L5 hda i
     have hget:=B2 (l:=a) (k:=i) (by omega)
     have hdr:=U8 (l:=a) (k:=i) (by omega)
     have hst:=Ah0 (D:=valH (a.drop (i+1))) (x:=a.getD i 0) (by omega:0<d) hq hr
     rw [←hdr] at hst
     generalize a.getD i 0=x at *
     refine .geqT rfl rfl rfl (by omega) (.nil (.condT rfl (.skip (.seq (.block (.seq (.region (.mv rfl rfl (.mul rfl rfl rfl (.mv rfl rfl (.mv rfl rfl ?_)))))))))))
     refine .ixN (i:=i) un_H A7 rfl rfl (hA hB) rfl hget fun p hp=>.ldE A7 rfl rfl hp fun e he=>?_
     obtain ⟨rfl,_⟩:=he
     refine .add rfl rfl rfl (.asg rfl rfl (.nil ?_))
     rw [wI (n:=(r:Int)*65536) (by omega),wI (by omega),show (r:Int)*65536+(x:Int)=((x+65536*r:Nat):Int) by omega]
     generalize hy:x+65536*r=y at *
     have hyq:y / d<65536:=by
      rw [Nat.div_lt_iff_lt_mul (by omega)]
      have:65536*(r+1)≤65536*d:=Nat.mul_le_mul_left _ hrd
      omega
     have hyr:y % d<d:=Nat.mod_lt _ (by omega)
     obtain ⟨ad,cb,hvbs,_,hpt⟩:=RL.at_ (hBb hB) hgetb
     obtain ⟨eb,⟨rfl,_⟩,hadS,hadc⟩:=hpt
     have hcell:W.cell? (ad.add (0*1))=some (.int .i64 (d:Nat)):=hadc 0 _ rfl
     rw [H4] at hadS
     have hkeep:∀ {W':World},W'.heap[ad.block]?=W.heap[ad.block]?→W'.cell? (ad.add (0*1))=some (.int .i64 (d:Nat)):=fun h=>(AE3 (p:=ad.add (0*1)) (by rw [H4];exact h)).trans hcell
     refine .held follows false (fun W'=>W'.cell? (ad.add (0*1))=some (.int .i64 (d:Nat))) [some _,some _,some _,some vb,some (.pointer (some (ad.add (0*1)))),some (.int .i64 (d:Nat)),some (.int .i64 ((y / d:Nat):Int)),some _,some vb,some (.pointer (some (ad.add (0*1)))),some (.int .i64 (d:Nat)),some (.int .i64 ((y % d:Nat):Int)),none,none,none] (by kernel_rfl) ⟨
      fun _ _=>v_mv rfl,fun _ _=>v_mv rfl,fun _ _=>v_mv rfl,fun _ _=>v_mv rfl,
      fun _ _=>Ao6 (i:=0) un_H A7 (by rw [←hvbs];rfl) rfl (by omega),fun _ h=>Ao4 A7 rfl h,fun _ _=>(AS9 rfl rfl (by omega)).eq (by rw [M1,wI (by have h0:(0:Int)≤((y / d:Nat):Int):=Int.natCast_nonneg _;omega)]),
      fun _ _=>v_mv rfl,fun _ _=>v_mv rfl,
      fun _ _=>Ao6 (i:=0) un_H A7 (by rw [←hvbs];rfl) rfl (by omega),fun _ h=>Ao4 A7 rfl h,fun _ _=>(AS8 rfl rfl (by omega)).eq (by rw [M0]),trivial⟩ ?_
     intro W1 e1 hh1
     have hB1:Below w.heap.size w W1:=hB.trans (e1.mono hsz)
     have hI1:=hkeep (W':=W1) (by rw [hh1])
     refine .gv hI1 rfl (H2 (i:=i) un_H A7 rfl rfl (by omega)).gv ?_
     rintro _ W1' ⟨rfl,hW1'⟩
     have hW1':=hW1'.symm
     subst hW1'
     refine .gv hI1 rfl (V5 (E:=eH) (i:=i) (z:=y / d) (by decide) A7 rfl rfl (hF.ext e1) rfl (by omega) (Nat.zero_add _) ⟨rfl,hyq⟩) ?_
     rintro _ W2 ⟨hF2,u2⟩
     have hI2:=hkeep (W':=W2) (by rw [u2.block ad.block (by have:=hadS.2;omega),hh1])
     refine .gv hI2 rfl (v_as rfl).gv ?_
     rintro _ W2' ⟨rfl,hW2'⟩
     have hW2':=hW2'.symm
     subst hW2'
     refine .nil (.inr hI2) ?_
     refine .region (.mv rfl rfl (.sub rfl rfl rfl (.asg rfl rfl (.nil ?_))))
     rw [wI (by omega)]
     refine ⟨rfl,(i,l.set i (y / d),y % d),lkA rfl,⟨u2.below hB1 (by omega),by show i≤a.length;omega,hF2,by show (l.set i _).length=_;simpa using hl,?_,hst.2.symm⟩,by show i<i+1;omega⟩
     show valH ((l.set i (y / d)).drop i)=valH (a.drop i) / d
     rw [AE7 (by omega),hst.1]
  ·rintro ⟨l,r⟩ W ⟨hB,hF,hl,hq,hr⟩
   replace hF:FB eH 3 S W g l:=hF
   replace hl:l.length=a.length:=hl
   replace hq:valH l=m / d:=hq
   replace hr:r=m % d:=hr
   have hrd:r<d:=by rw [hr];exact Nat.mod_lt _ (by omega)
   refine .seq (.region (.mv rfl rfl ?_))
   refine .call _ rfl E4 rfl (E2 (hout hF hl)) fun v2 W2 e2 h2=>.mv rfl rfl (.bsl _ rfl rfl AM4 fun W3 b3 n3=>?_)
   have hB2:Below w.heap.size w W2:=hB.trans (e2.mono hB.size)
   rw [trimH (Aq9 hF),hq] at h2
   have hdr:digH [r]:=by intro x hx;simp at hx;omega
   have ho3:OwnH 3 W2.heap.size W3 (.slice (some ⟨b3,0,none⟩) 1 1) [r]:=OwnH.lit (l:=[r]) n3 (Nat.le_refl _) hdr (by simp)
   refine .call _ rfl E4 rfl (E2 (S:=S) (ho3.toR (fun k hk=>up k (by have:=hB2.size;omega)))) fun v4 W4 e4 h4=>.asg rfl rfl (.asg rfl rfl (.nil (.ret ?_)))
   rw [trimH hdr,show valH [r]=m % d by simp [valH,hr]] at h4
   have e24:=n3.1.trans e4
   exact .plain [_,_] Tryz.results260 ⟨rfl,rfl,trivial⟩ ⟨hB2.trans (e24.mono hB2.size),v2,v4,rfl,ER.ext eHs h2 e24,h4⟩
 ·refine .eqlF rfl rfl rfl (by omega) (.nil (.condF rfl (.skip (.seq (.region (.asg rfl rfl (.nil ?_)))))))
  have hb2:2≤b.length:=by omega
  refine .mid (α:=List Nat×Value) (fun p=>[(6,.slice (some ⟨g,0,none⟩) a.length a.length),(9,p.2)]) (fun p W=>Below w.heap.size w W∧FB eH 3 S W g p.1∧p.1.length=a.length∧valH p.1=m / d∧eHs.R (fun k=>S k∧k≠g) W p.2 (hds (m % d))) ?_ ?_
  ·refine .seq (.region (.mv rfl rfl (.lenR un_H rfl rfl (hA e1) (.sub rfl rfl rfl (.asg rfl rfl (.nil ?_))))))
   rw [wI (by omega)]
   refine .block (.loop (α:=Nat×List Nat×Value) (fun x=>[(0,va),(1,vb),(6,.slice (some ⟨g,0,none⟩) a.length a.length),(9,x.2.2),(10,.int .i64 ((x.1:Nat)-1:Int))])
    (fun x W=>Below w.heap.size w W∧x.1≤a.length∧FB eH 3 S W g x.2.1∧x.2.1.length=a.length∧valH (x.2.1.drop x.1)=valH (a.drop x.1) / d∧eHs.R (fun k=>S k∧k≠g) W x.2.2 (hds (valH (a.drop x.1) % d))) (fun x=>x.1) (a.length,List.replicate a.length 0,.slice none 0 0) ?_ ?_ ?_)
   ·exact lkA rfl
   ·refine ⟨e1,Nat.le_refl _,f1,by simp,?_,?_⟩
    ·show valH ((List.replicate a.length 0).drop a.length)=_
     rw [List.drop_eq_nil_of_le (by simp),List.drop_eq_nil_of_le (Nat.le_refl _)];simp [valH]
    ·show eHs.R _ _ _ (hds (valH (a.drop a.length) % d))
     rw [List.drop_eq_nil_of_le (Nat.le_refl _),valH,Nat.zero_mod,J4];exact RL.nil
   ·rintro ⟨j,l,u⟩ W ⟨hB,hj,hF,hl,hq,hu⟩
    replace hB:Below w.heap.size w W:=hB
    replace hj:j≤a.length:=hj
    replace hF:FB eH 3 S W g l:=hF
    replace hl:l.length=a.length:=hl
    replace hq:valH (l.drop j)=valH (a.drop j) / d:=hq
    replace hu:eHs.R (fun k=>S k∧k≠g) W u (hds (valH (a.drop j) % d)):=hu
    refine .weak [(0,va),(1,vb),(6,.slice (some ⟨g,0,none⟩) a.length a.length),(9,u),(10,.int .i64 ((j:Nat)-1:Int))] (fun t v h=>h) ?_
    have hsz:=hB.size
    have hgl:=hF.lt
    refine .seq (.seq (.region (.mv rfl rfl ?_)))
    cases j with
    | zero =>
     refine .geqF rfl rfl rfl (by simp) (.nil (.condF rfl (.exit ?_)))
     rw [List.drop_zero,List.drop_zero,hva] at hq
     rw [List.drop_zero,hva] at hu
     exact ⟨rfl,(l,u),lkA rfl,hB,hF,hl,hq,hu⟩
    | succ i =>
     rw [show (((i+1:Nat):Int)-1)=(i:Int) by omega]
     have hx:=L5 hda i
     have hget:=B2 (l:=a) (k:=i) (by omega)
     have hdr:=U8 (l:=a) (k:=i) (by omega)
     have hst:=Ah0 (D:=valH (a.drop (i+1))) (x:=a.getD i 0) (by omega:0<d) hq rfl
     rw [←hdr] at hst
     generalize a.getD i 0=x at *
     have hR:valH (a.drop (i+1)) % d<d:=Nat.mod_lt _ (by omega)
     generalize hRR:valH (a.drop (i+1)) % d=R at *
     have hRl:(hds R).length≤b.length:=L1 (Nat.lt_trans hR hblt)
     have upT:∀ {W':World},Below w.heap.size w W'→g<W'.heap.size→Up (fun k=>S k∧k≠g) W':=fun hB' hg' k hk=>⟨up k (by have:=hB'.size;omega),by omega⟩
     refine .geqT rfl rfl rfl (by omega) (.nil (.condT rfl (.skip (.seq (.block (.seq (.region (.mv rfl rfl (.mv rfl rfl ?_)))))))))
     refine .ixN (i:=i) un_H A7 rfl rfl (hA hB) rfl hget fun p hp=>.ldE A7 rfl rfl hp fun e he=>?_
     obtain ⟨rfl,_⟩:=he
     refine .bsl _ rfl rfl AM4 fun W1 b1 n1=>.mv rfl rfl ?_
     have ho1:OwnH 3 W.heap.size W1 (.slice (some ⟨b1,0,none⟩) 1 1) [x]:=OwnH.lit (l:=[x]) n1 (Nat.le_refl _) (by intro y hy;simp at hy;omega) (by simp)
     refine .gv rfl rfl (g_appHs (base:=W.heap.size) un_H V4 rfl rfl ho1 (hu.ext n1.1) (by simp) (by omega) n1.1.size) ?_
     rintro v2 W2 ⟨ho2,hB2⟩
     have e2:Ext W W2:=Below.trans n1.1 hB2
     have hs2:=e2.size
     have hu2:eHs.R (fun k=>S k∧k≠g) W2 v2 ([x]++hds R):=ho2.toR (fun k hk=>⟨up k (by omega),by omega⟩)
     refine .call _ rfl E4 rfl (E2 hu2) fun v3 W3 e3 h3=>.asg rfl rfl (.nil (.seq (.region (.asg rfl rfl (.asg rfl rfl (.nil ?_))))))
     have hv3:valH ([x]++hds R)=x+65536*R:=by show valH (x::hds R)=_;rw [valH,D0]
     rw [trimH (R4 hu2),hv3] at h3
     have e23:=e2.trans e3
     have hs3:=e23.size
     have hB3:Below w.heap.size w W3:=hB.trans (e23.mono hsz)
     generalize hy:x+65536*R=y at *
     have hyd:y<65536*d:=by
      have:65536*(R+1)≤65536*d:=Nat.mul_le_mul_left _ hR
      omega
     have hylen:(hds y).length≤b.length+1:=L1 (by rw [Nat.pow_succ];omega)
     refine .mid (α:=Nat) (fun hi=>[(0,va),(1,vb),(6,.slice (some ⟨g,0,none⟩) a.length a.length),(9,v3),(10,.int .i64 (i:Nat)),(11,.int .i64 0),(12,.int .i64 (hi:Nat))]) (fun hi W'=>W'=W3∧1≤hi∧hi≤65536∧y<hi*d) ?_ ?_
     ·refine .seq (.region (.mv rfl rfl (.lenR un_H rfl rfl h3 (.mv rfl rfl (.lenR un_H rfl rfl (hBb hB3) ?_)))))
      by_cases hll:(hds y).length<b.length
      ·refine .lssT rfl rfl rfl (by omega) (.nil (.condT rfl (.region (.asg rfl rfl (.nil ?_)))))
       refine ⟨rfl,1,lkA rfl,rfl,Nat.le_refl _,by omega,?_⟩
       have h1:=AU1 y
       have h2:65536 ^ (hds y).length≤65536 ^ (b.length-1):=Nat.pow_le_pow_right (by omega) (by omega)
       omega
      ·refine .lssF rfl rfl rfl (by omega) (.nil (.condF rfl (.skip ?_)))
       exact ⟨rfl,65536,lkA rfl,rfl,by omega,Nat.le_refl _,hyd⟩
     ·rintro hi0 W3' ⟨hW3',hi1,hi2,hyhi⟩
      have hW3':=hW3'.symm
      subst hW3'
      refine .mid (α:=Nat) (fun lo=>[(0,va),(1,vb),(6,.slice (some ⟨g,0,none⟩) a.length a.length),(9,v3),(10,.int .i64 (i:Nat)),(11,.int .i64 (lo:Nat))]) (fun lo W'=>Ext W3 W'∧lo<65536∧lo=y / d) ?_ ?_
      ·refine .block (.loop (α:=Nat×Nat) (fun z=>[(0,va),(1,vb),(6,.slice (some ⟨g,0,none⟩) a.length a.length),(9,v3),(10,.int .i64 (i:Nat)),(11,.int .i64 (z.1:Nat)),(12,.int .i64 (z.2:Nat))]) (fun z W'=>Ext W3 W'∧z.1<z.2∧z.2≤65536∧z.1*d≤y∧y<z.2*d) (fun z=>z.2-z.1) (0,hi0) ?_ ?_ ?_)
       ·exact lkA rfl
       ·exact ⟨.refl _,hi1,hi2,by show 0*d≤y;omega,hyhi⟩
       ·rintro ⟨lo,hi⟩ W4 ⟨e4,hlh,hh,hlo,hhi⟩
        replace e4:Ext W3 W4:=e4
        replace hlh:lo<hi:=hlh
        replace hh:hi≤65536:=hh
        replace hlo:lo*d≤y:=hlo
        replace hhi:y<hi*d:=hhi
        refine .weak [(0,va),(1,vb),(6,.slice (some ⟨g,0,none⟩) a.length a.length),(9,v3),(10,.int .i64 (i:Nat)),(11,.int .i64 (lo:Nat)),(12,.int .i64 (hi:Nat))] (fun t v h=>h) ?_
        have hB4:Below w.heap.size w W4:=hB3.trans (e4.mono hB3.size)
        have hs4:=e4.size
        refine .seq (.seq (.region (.mv rfl rfl (.mv rfl rfl (.sub rfl rfl rfl ?_)))))
        rw [wI (by omega)]
        by_cases hgo:lo+1<hi
        ·refine .gtrT rfl rfl rfl (by omega) (.nil (.condT rfl (.skip (.block (.seq (.region (.mv rfl rfl (.mv rfl rfl (.add rfl rfl rfl (.quo rfl rfl rfl (by decide) (.asg rfl rfl (.nil ?_))))))))))))
         rw [wI (n:=(lo:Int)+(hi:Int)) (by omega),show ((lo:Int)+(hi:Int)).tdiv 2=(((lo+hi) / 2:Nat):Int) by rw [←Int.natCast_add];exact M1 (lo+hi) 2,wI (by omega)]
         generalize hmid:(lo+hi) / 2=mid at *
         refine .seq (.region (.mv rfl rfl (.mv rfl rfl ?_)))
         have hbT:eHs.R (fun k=>S k∧k≠g) W4 vb b:=eHs.mono (fun k _ hk=>⟨hk.1,by have:=hk.2;omega⟩) (hBb hB4)
         refine .call _ rfl AF4 rfl (AE8 (upT hB4 (by omega)) hbT (by omega) (show mid≤65536 by omega)) fun v5 W5 e5 h5=>.mv rfl rfl ?_
         rw [hvb] at h5
         have hml:(hds (d*mid)).length≤b.length+1:=L1 (by
          rw [Nat.pow_succ]
          have:d*mid≤d*65536:=Nat.mul_le_mul_left _ (by omega)
          omega)
         refine .call _ rfl AP1 rfl (AN8 h5 ((h3.ext e4).ext e5) (by omega) (by omega)) fun v6 W6 e6 h6=>?_
         subst h6
         rw [D0,D0,Nat.mul_comm d mid]
         have e46:=(e4.trans e5).trans e6
         by_cases hc:mid*d≤y
         ·refine .leqT rfl rfl rfl (by unfold cmpN;split<;>(try split)<;>omega) (.nil (.condT rfl (.region (.mv rfl rfl (.asg rfl rfl (.nil ?_))))))
          exact ⟨rfl,(mid,hi),lkA rfl,⟨e46,by show mid<hi;omega,hh,hc,hhi⟩,by show hi-mid<hi-lo;omega⟩
         ·refine .leqF rfl rfl rfl (by unfold cmpN;rw [if_neg (by omega),if_pos (by omega)];decide) (.nil (.condF rfl (.region (.mv rfl rfl (.asg rfl rfl (.nil ?_))))))
          exact ⟨rfl,(lo,mid),lkA rfl,⟨e46,by show lo<mid;omega,by show mid≤65536;omega,hlo,by show y<mid*d;omega⟩,by show mid-lo<hi-lo;omega⟩
        ·refine .gtrF rfl rfl rfl (by omega) (.nil (.condF rfl (.exit ?_)))
         refine ⟨rfl,lo,lkA rfl,e4,by show lo<65536;omega,?_⟩
         have h1:hi=lo+1:=by omega
         rw [h1] at hhi
         symm
         exact (Nat.div_eq_iff (by omega)).2 ⟨by omega,by rw [Nat.add_mul] at hhi;omega⟩
      ·rintro lo W4 ⟨e4,hlo,hlod⟩
       have hB4:Below w.heap.size w W4:=hB3.trans (e4.mono hB3.size)
       have hs4:=e4.size
       have hbT:eHs.R (fun k=>S k∧k≠g) W4 vb b:=eHs.mono (fun k _ hk=>⟨hk.1,by have:=hk.2;omega⟩) (hBb hB4)
       refine .region (.mv rfl rfl (.mv rfl rfl (.mv rfl rfl (.mv rfl rfl (.mv rfl rfl (.mv rfl rfl ?_))))))
       refine .call _ rfl AF4 rfl (AE8 (upT hB4 (by omega)) hbT (by omega) (show lo≤65536 by omega)) fun v5 W5 e5 h5=>?_
       rw [hvb] at h5
       have e45:=e4.trans e5
       have hB5:Below w.heap.size w W5:=hB3.trans (e45.mono hB3.size)
       have hs5:=e5.size
       have hdl:d*lo≤y:=by rw [hlod];exact Nat.mul_div_le y d
       refine .call _ rfl AO9 rfl (AN6 (upT hB5 (by omega)) (h3.ext e45) h5 (by omega) (by rw [D0,D0];exact hdl)) fun v6 W6 e6 h6=>?_
       rw [D0,D0] at h6
       have hmod:y-d*lo=y % d:=by rw [hlod];have:=Nat.div_add_mod y d;omega
       rw [hmod] at h6
       have e36:=e45.trans e6
       have hB6:Below w.heap.size w W6:=hB3.trans (e36.mono hB3.size)
       have eW6:=e23.trans e36
       refine .ixB (i:=i) un_H A7 rfl rfl rfl (by omega) ?_
       refine .storeF (E:=eH) (i:=i) (z:=lo) (by decide) A7 rfl rfl (hF.ext eW6) rfl (by omega) (Nat.zero_add _) ⟨rfl,hlo⟩ fun W7 hF7 u7=>.asg rfl rfl (.nil ?_)
       refine .region (.mv rfl rfl (.sub rfl rfl rfl (.asg rfl rfl (.nil ?_))))
       rw [wI (by omega)]
       refine ⟨rfl,(i,l.set i lo,v6),lkA rfl,⟨u7.below hB6 (by omega),by show i≤a.length;omega,hF7,by show (l.set i _).length=_;simpa using hl,?_,?_⟩,by show i<i+1;omega⟩
       ·show valH ((l.set i lo).drop i)=valH (a.drop i) / d
        rw [AE7 (by omega),hst.1,hlod]
       ·show eHs.R _ W7 v6 (hds (valH (a.drop i) % d))
        rw [hst.2]
        exact ER.upd eHs h6 u7 (fun h=>h.2 rfl)
  ·rintro ⟨l,u⟩ W ⟨hB,hF,hl,hq,hu⟩
   replace hF:FB eH 3 S W g l:=hF
   replace hl:l.length=a.length:=hl
   replace hq:valH l=m / d:=hq
   replace hu:eHs.R (fun k=>S k∧k≠g) W u (hds (m % d)):=hu
   refine .seq (.region (.mv rfl rfl ?_))
   refine .call _ rfl E4 rfl (E2 (hout hF hl)) fun v2 W2 e2 h2=>.mv rfl rfl (.asg rfl rfl (.asg rfl rfl (.nil (.ret ?_))))
   rw [trimH (Aq9 hF),hq] at h2
   exact .plain [_,_] Tryz.results260 ⟨rfl,rfl,trivial⟩ ⟨hB.trans (e2.mono hB.size),v2,u,rfl,h2,eHs.mono (fun k _ hk=>hk.1) (ER.ext eHs hu e2)⟩
end Go.Proofs.YtfilidfomgfnhaaGreat

namespace Go.Kx
theorem sg_neg (n:Bool) (v:Nat):sg (!n) v = -(sg n v):=by cases n<;>simp [sg]
theorem AO5 {A B K:Nat} (h1:(hds A).length≤K) (h2:(hds B).length≤K):(hds (A+B)).length≤K+1:=by
 have a1:=AU1 A
 have a2:=AU1 B
 have b1:65536 ^ (hds A).length≤65536 ^ K:=Nat.pow_le_pow_right (by omega) h1
 have b2:65536 ^ (hds B).length≤65536 ^ K:=Nat.pow_le_pow_right (by omega) h2
 exact L1 (by rw [Nat.pow_succ];omega)
theorem sign_sg {n:Bool} {v:Nat} (h:v≠0):(sg n v).sign=if n then -1 else 1:=by
 cases n
 ·simp only [sg,Bool.false_eq_true,if_false];rw [Int.sign_eq_one_of_pos (by omega)]
 ·simp only [sg,if_true];rw [Int.sign_eq_neg_one_of_neg (by omega)]
theorem X4 (z:ZV):zval z=sg z.neg (val z.w):=rfl
theorem Al4 {l:List Nat} {L:Nat} (h:l.length≤L):(hds (val l)).length≤2*L∨¬ dig l:=by
 by_cases hd:dig l
 ·left
  have h1:=X9 (AV3 hd)
  rw [AS5,AG8] at h1
  have:=L1 h1
  omega
 ·exact .inr hd
end Go.Kx
namespace Go.Proofs.YtfilidfomgfnhaaGreat
open Go Go.Kx Go.RowKit
/-- the digits of an integer's words -/
theorem H8 {S:Nat→Prop} {w:World} {v:Value} {l:List Nat} (up:Up S w) (h:eW.R S w v l) (hl:l.length≤1000000000):CR Tryz.prog 218 #[v] w (eHs.at S (hds (val l))):=by
 have:=AB5 up h (by omega)
 rwa [trimH (AV3 (D5 h)),AS5] at this
theorem AB9 {S:Nat→Prop} {w:World} {v:Value} {l:List Nat} (h:eW.R S w v l) (hl:l.length≤1000000000):(hds (val l)).length≤2000000000:=by
 rcases Al4 hl with h' | h'
 ·exact h'
 ·exact absurd (D5 h) h'
theorem I0:Ent Tryz.prog 166:=A0 Tryz.func166 (by kernel_rfl) rfl
theorem H9 {S:Nat→Prop} {w:World} {v:Value} {a:ZV} (up:Up S w) (h:eZ.R S w v a) (hl:a.w.length≤1000000000):CR Tryz.prog 166 #[v] w (Is (.int .i64 (zval a).sign)):=by
 obtain ⟨s,rfl,hs⟩:=h
 refine enter Tryz.func166 rfl Tryz.ntmps166 rfl ?_
 refine .seq (.region (.box rfl rfl fun w1 b1 n1=>.asg rfl rfl (.nil ?_)))
 obtain ⟨e1,k1,hb1,hs1⟩:=n1
 refine .seq (.seq (.region (.fa D9 rfl rfl (.ld ty_W rfl rfl k1 rfl ?_))))
 refine .call _ rfl D3 rfl (H8 (up.ext e1.size) (hs.ext e1) hl) fun v2 w2 e2 h2=>.lenR un_H rfl rfl h2 ?_
 have x2:=e1.trans e2
 by_cases h0:val a.w=0
 ·rw [h0,J4]
  refine .eqlT rfl rfl rfl rfl (.nil (.condT rfl (.seq (.region (.asg rfl rfl (.nil (.ret ?_)))))))
  refine .plain [_] Tryz.results166 ⟨rfl,trivial⟩ ⟨x2,isI ?_⟩
  rw [X4,h0];cases a.neg<;>rfl
 ·have hne:(hds (val a.w)).length≠0:=fun e=>h0 (N8.1 (List.length_eq_zero_iff.1 e))
  refine .eqlF rfl rfl rfl (by omega) (.nil (.condF rfl (.skip ?_)))
  refine .seq (.seq (.region (.fa G1 rfl rfl (.ld E0 rfl rfl (k1.ext e2) rfl (.nil ?_)))))
  have hz:(zval a).sign=if a.neg then -1 else 1:=by rw [X4];exact sign_sg h0
  cases hn:a.neg with
  | true =>
   rw [hn] at hz
   refine .condT rfl (.seq (.region (.asg rfl rfl (.nil (.ret ?_)))))
   exact .plain [_] Tryz.results166 ⟨rfl,trivial⟩ ⟨x2,isI (by rw [hz];rfl)⟩
  | false =>
   rw [hn] at hz
   refine .condF rfl (.skip (.seq (.region (.asg rfl rfl (.nil (.ret ?_))))))
   exact .plain [_] Tryz.results166 ⟨rfl,trivial⟩ ⟨x2,isI (by rw [hz];rfl)⟩
theorem Ai6:Ent Tryz.prog 219:=A0 Tryz.func219 (by kernel_rfl) rfl
theorem Af5 {S:Nat→Prop} {w:World} {v:Value} {a:ZV} (up:Up S w) (h:eZ.R S w v a) (hl:a.w.length≤1000000000):CR Tryz.prog 219 #[v] w (eZ.at S (zc (-zval a))):=by
 obtain ⟨s,rfl,hs⟩:=h
 refine enter Tryz.func219 rfl Tryz.ntmps219 rfl ?_
 refine .seq (.region (.box rfl rfl fun w1 b1 n1=>.alloc rfl B4 fun w2 b2 n2=>.nil ?_))
 obtain ⟨e1,k1,hb1,hs1⟩:=n1
 obtain ⟨e2,k2,hb2,hs2⟩:=n2
 have x2:=e1.trans e2
 have k1:=k1.ext e2
 have hS2:¬ Sx S w.heap.size w2.heap.size b2:=Sx.no (by omega) (by omega)
 have up2:Up (Sx S w.heap.size w2.heap.size) w2:=Sx.up up (Nat.le_refl _) x2.size
 have hs2':=(ER.par eW hs w2.heap.size).ext x2
 refine .seq ?_
 refine .par follows 6 [.inl _,.inl (.bool a.neg),.inl _,.inl _,.inl s,.inr (eHs.at (Sx S w.heap.size w2.heap.size) (hds (val a.w)))] [[],[(3,0)],[(4,1)],[],[(6,3)],[(7,4)]] (by kernel_rfl) ⟨
  fun w e=>(v_fa G1 rfl).ob,fun w e=>(v_ld E0 rfl (k1.ext e) rfl).ob,fun w e=>(AY4 rfl).ob,fun w e=>(v_fa D9 rfl).ob,fun w e=>(v_ld ty_W rfl (k1.ext e) rfl).ob,
  fun w e=>(A1 _ D3 rfl (H8 (up2.ext e.size) (hs2'.ext e) hl)).ob (A6 _ _ _),trivial⟩ ?_
 intro w3 e3 x5 hx5
 have hlen:=AB9 hs hl
 refine .call _ rfl O0 rfl (N6 (up2.ext e3.size) hx5 (by omega)) fun v4 w4 e4 h4=>?_
 rw [D0,sg_neg,←X4] at h4
 refine .storeA (E:=eZ) ty_Z rfl rfl ((k2.ext e3).ext e4) rfl rfl h4 hS2 fun w5 k5 u5 h5=>.nil (.ret ?_)
 exact .cell Tryz.results219 rfl ty_Z rfl rfl k5 h5 ⟨u5.below ((x2.trans e3).trans e4) (by omega),h5.out⟩
theorem Ai9:Ent Tryz.prog 221:=A0 Tryz.func221 (by kernel_rfl) rfl
theorem Af8 {S:Nat→Prop} {w:World} {v:Value} {a:ZV} (up:Up S w) (h:eZ.R S w v a) (hl:a.w.length≤1000000000):CR Tryz.prog 221 #[v] w (eZ.at S (zc (val a.w))):=by
 obtain ⟨s,rfl,hs⟩:=h
 refine enter Tryz.func221 rfl Tryz.ntmps221 rfl ?_
 refine .seq (.region (.box rfl rfl fun w1 b1 n1=>.alloc rfl B4 fun w2 b2 n2=>.nil ?_))
 obtain ⟨e1,k1,hb1,hs1⟩:=n1
 obtain ⟨e2,k2,hb2,hs2⟩:=n2
 have x2:=e1.trans e2
 have k1:=k1.ext e2
 have hS2:¬ Sx S w.heap.size w2.heap.size b2:=Sx.no (by omega) (by omega)
 have up2:Up (Sx S w.heap.size w2.heap.size) w2:=Sx.up up (Nat.le_refl _) x2.size
 have hs2':=(ER.par eW hs w2.heap.size).ext x2
 refine .seq (.region (.fa D9 rfl rfl (.ld ty_W rfl rfl k1 rfl ?_)))
 refine .call _ rfl D3 rfl (H8 up2 hs2' hl) fun v3 w3 e3 h3=>?_
 have hlen:=AB9 hs hl
 refine .call _ rfl O0 rfl (N6 (up2.ext e3.size) h3 (by omega)) fun v4 w4 e4 h4=>?_
 rw [D0] at h4
 refine .storeA (E:=eZ) ty_Z rfl rfl ((k2.ext e3).ext e4) rfl rfl h4 hS2 fun w5 k5 u5 h5=>.nil (.ret ?_)
 exact .cell Tryz.results221 rfl ty_Z rfl rfl k5 h5 ⟨u5.below ((x2.trans e3).trans e4) (by omega),h5.out⟩
end Go.Proofs.YtfilidfomgfnhaaGreat

namespace Go.Kx
theorem Az2 (a b:Nat):Nat.gcd b (a % b)=Nat.gcd a b:=by rw [Nat.gcd_comm b (a % b),←Nat.gcd_rec,Nat.gcd_comm]
theorem At8 {a b:ZV} (hs:(zval a).sign=(zval b).sign):cmpI (zval a) (zval b)=if (zval a).sign<0 then 0-cmpN (val a.w) (val b.w) else cmpN (val a.w) (val b.w):=by
 have h1:=H5 a
 have h2:=H5 b
 generalize zval a=x at *
 generalize zval b=y at *
 rw [←h1,←h2]
 rcases Int.lt_trichotomy x 0 with h | h | h
 ·have e:=Int.sign_eq_neg_one_of_neg h
  rw [e] at hs ⊢
  have hy:y<0:=Int.sign_eq_neg_one_iff_neg.1 hs.symm
  rw [if_pos (by decide)]
  unfold cmpI cmpN
  split<;>split<;>(try split)<;>(try split)<;>omega
 ·subst h
  rw [Int.sign_zero] at hs ⊢
  have hy:y=0:=Int.sign_eq_zero_iff_zero.1 hs.symm
  subst hy
  decide
 ·have e:=Int.sign_eq_one_of_pos h
  rw [e] at hs ⊢
  have hy:0<y:=Int.sign_eq_one_iff_pos.1 hs.symm
  rw [if_neg (by decide)]
  unfold cmpI cmpN
  split<;>split<;>(try split)<;>(try split)<;>omega
theorem cmpI_ne {x y:Int} (hs:x.sign≠y.sign):cmpI x y=if x.sign<y.sign then -1 else 1:=by
 have hx:=Int.lt_trichotomy x 0
 have hy:=Int.lt_trichotomy y 0
 unfold cmpI
 rcases hx with h | h | h<;>rcases hy with h' | h' | h'<;>first
  | (rw [Int.sign_eq_neg_one_of_neg h,Int.sign_eq_neg_one_of_neg h'] at hs;exact absurd rfl hs)
  | (rw [Int.sign_eq_one_of_pos h,Int.sign_eq_one_of_pos h'] at hs;exact absurd rfl hs)
  | (rw [h,h'] at hs;exact absurd rfl hs)
  | (simp only [h,h',Int.sign_eq_neg_one_of_neg,Int.sign_eq_one_of_pos,Int.sign_zero];(try split)<;>(try split)<;>(try simp_all)<;>omega)
end Go.Kx
namespace Go.Proofs.YtfilidfomgfnhaaGreat
open Go Go.Kx Go.RowKit
theorem Ai7:Ent Tryz.prog 222:=A0 Tryz.func222 (by kernel_rfl) rfl
theorem Af6 {S:Nat→Prop} {w:World} {va vb:Value} {a b:ZV} (up:Up S w) (ha:eZ.R S w va a) (hb:eZ.R S w vb b) (hla:a.w.length≤1000000000) (hlb:b.w.length≤1000000000):CR Tryz.prog 222 #[va,vb] w (eZ.at S (zc (Nat.gcd (val a.w) (val b.w):Nat))):=by
 obtain ⟨s,rfl,hs⟩:=ha
 obtain ⟨t,rfl,ht⟩:=hb
 refine enter Tryz.func222 rfl Tryz.ntmps222 rfl ?_
 refine .seq (.region (.box rfl rfl fun w1 b2 n1=>.box rfl rfl fun w2 b3 n2=>.alloc rfl B4 fun w3 b4 n3=>.nil ?_))
 obtain ⟨e1,k2,hb2,hs1⟩:=n1
 obtain ⟨e2,k3,hb3,hs2⟩:=n2
 obtain ⟨e3,k4,hb4,hs3⟩:=n3
 have x3:=(e1.trans e2).trans e3
 have k2:=(k2.ext e2).ext e3
 have k3:=k3.ext e3
 have hS4:¬ Sx S w.heap.size w3.heap.size b4:=Sx.no (by omega) (by omega)
 have up3:Up (Sx S w.heap.size w3.heap.size) w3:=Sx.up up (Nat.le_refl _) x3.size
 have hs':=(ER.par eW hs w3.heap.size).ext x3
 have ht':=(ER.par eW ht w3.heap.size).ext x3
 have l1:=AB9 hs hla
 have l2:=AB9 ht hlb
 have hout:∀ {W:World} {v:Value} {z:ZV},eZ.R (Sx S w.heap.size w3.heap.size) W v z→eZ.R S W v z:=fun h=>h.out
 generalize hT:Sx S w.heap.size w3.heap.size=T at *
 refine .seq ?_
 refine .par follows 6 [.inl _,.inl s,.inr (eHs.at T (hds (val a.w))),.inl _,.inl t,.inr (eHs.at T (hds (val b.w)))] [[],[(9,0)],[(10,1)],[],[(12,3)],[(13,4)]] (by kernel_rfl) ⟨
  fun w e=>(v_fa D9 rfl).ob,fun w e=>(v_ld ty_W rfl (k2.ext e) rfl).ob,fun w e=>(A1 _ D3 rfl (H8 (up3.ext e.size) (hs'.ext e) hla)).ob (A6 _ _ _),
  fun w e=>(v_fa D9 rfl).ob,fun w e=>(v_ld ty_W rfl (k3.ext e) rfl).ob,fun w e=>(A1 _ D3 rfl (H8 (up3.ext e.size) (ht'.ext e) hlb)).ob (A6 _ _ _),trivial⟩ ?_
 intro w4 e4 x hx y hy
 refine .asg rfl rfl (.asg rfl rfl (.nil ?_))
 generalize val a.w=A at *
 generalize val b.w=B at *
 refine .mid (α:=Value) (fun p=>[(4,.pointer (some ⟨b4,0,none⟩)),(5,p)]) (fun p W=>Ext w4 W∧eHs.R T W p (hds (Nat.gcd A B))) ?_ ?_
 ·refine .block (.loop (α:=(Nat×Nat)×Value×Value) (fun p=>[(4,.pointer (some ⟨b4,0,none⟩)),(5,p.2.1),(6,p.2.2)])
   (fun p W=>Ext w4 W∧eHs.R T W p.2.1 (hds p.1.1)∧eHs.R T W p.2.2 (hds p.1.2)∧(hds p.1.1).length≤2000000000∧(hds p.1.2).length≤2000000000∧Nat.gcd p.1.1 p.1.2=Nat.gcd A B) (fun p=>p.1.2) ((A,B),x,y) ?_ ?_ ?_)
  ·exact lkA rfl
  ·exact ⟨.refl _,hx,hy,l1,l2,rfl⟩
  ·rintro ⟨⟨m,n⟩,u,v⟩ W ⟨hW,hu,hv,hm,hn,hg⟩
   replace hW:Ext w4 W:=hW
   replace hu:eHs.R T W u (hds m):=hu
   replace hv:eHs.R T W v (hds n):=hv
   replace hm:(hds m).length≤2000000000:=hm
   replace hn:(hds n).length≤2000000000:=hn
   replace hg:Nat.gcd m n=Nat.gcd A B:=hg
   refine .weak [(4,.pointer (some ⟨b4,0,none⟩)),(5,u),(6,v)] (fun t v h=>h) ?_
   refine .seq (.seq (.region (.mv rfl rfl (.lenR un_H rfl rfl hv ?_))))
   by_cases h0:n=0
   ·subst h0
    rw [J4]
    refine .gtrF rfl rfl rfl (by simp) (.nil (.condF rfl (.exit ?_)))
    rw [Nat.gcd_zero_right] at hg
    exact ⟨rfl,u,lkA rfl,hW,hg▸hu⟩
   ·have hne:(hds n).length≠0:=fun e=>h0 (N8.1 (List.length_eq_zero_iff.1 e))
    refine .gtrT rfl rfl rfl (by omega) (.nil (.condT rfl (.skip (.block (.seq (.region (.mv rfl rfl (.mv rfl rfl ?_))))))))
    refine .call _ rfl AP0 rfl (AN7 ((up3.ext e4.size).ext hW.size) hu hv (by omega) (by omega) h0) fun z W2 f2 h2=>?_
    obtain ⟨vq,vr,rfl,hq,hr⟩:=h2
    refine .mv rfl rfl (.ext rfl rfl rfl (.ext rfl rfl rfl (.asg rfl rfl (.asg rfl rfl (.nil ?_)))))
    refine .region (.mv rfl rfl (.mv rfl rfl (.asg rfl rfl (.asg rfl rfl (.nil ?_)))))
    have hlt:m % n<n:=Nat.mod_lt _ (by omega)
    exact ⟨rfl,((n,m % n),v,vr),lkA rfl,⟨hW.trans f2,ER.ext eHs hv f2,hr,hn,Nat.le_trans (M8 (Nat.le_of_lt hlt)) hn,(Az2 m n).trans hg⟩,hlt⟩
 ·rintro u W ⟨hW,hu⟩
  have e5:=e4.trans hW
  have lg:(hds (Nat.gcd A B)).length≤2000000001:=by
   have h1:Nat.gcd A B≤A+B:=by
    rcases Nat.eq_zero_or_pos A with h | h
    ·subst h;rw [Nat.gcd_zero_left];omega
    ·have:=Nat.gcd_le_left B h;omega
   exact Nat.le_trans (M8 h1) (AO5 l1 l2)
  refine .seq (.region (.mv rfl rfl ?_))
  refine .call _ rfl O0 rfl (N6 (up3.ext e5.size) hu (by omega)) fun v6 w6 e6 h6=>?_
  rw [D0] at h6
  have e56:=e5.trans e6
  refine .storeA (E:=eZ) ty_Z rfl rfl (k4.ext e56) rfl rfl h6 hS4 fun w7 k7 u7 h7=>.nil (.ret ?_)
  exact .cell Tryz.results222 rfl ty_Z rfl rfl k7 h7 ⟨u7.below (x3.trans e56) (by omega),hout h7⟩
theorem AP2:Ent Tryz.prog 223:=A0 Tryz.func223 (by kernel_rfl) rfl
theorem AN9 {S:Nat→Prop} {w:World} {va vb:Value} {a b:ZV} (up:Up S w) (ha:eZ.R S w va a) (hb:eZ.R S w vb b) (hla:a.w.length≤1000000000) (hlb:b.w.length≤1000000000) (hb0:zval b≠0) :
  CR Tryz.prog 223 #[va,vb] w (Three (eZ.at S (zc (zval a / zval b))) (eZ.at S (zc (zval a % zval b))) (Is (.int .i64 0))):=by
 obtain ⟨s,rfl,hs⟩:=ha
 obtain ⟨t,rfl,ht⟩:=hb
 refine enter Tryz.func223 rfl Tryz.ntmps223 rfl ?_
 refine .seq (.region (.box rfl rfl fun w1 b2 n1=>.box rfl rfl fun w2 b3 n2=>.alloc rfl B4 fun w3 b4 n3=>.alloc rfl B4 fun w4 b5 n4=>.asg rfl rfl (.nil ?_)))
 obtain ⟨e1,k2,hb2,hs1⟩:=n1
 obtain ⟨e2,k3,hb3,hs2⟩:=n2
 obtain ⟨e3,k4,hb4,hs3⟩:=n3
 obtain ⟨e4,k5,hb5,hs4⟩:=n4
 have x4:=((e1.trans e2).trans e3).trans e4
 have k2:=((k2.ext e2).ext e3).ext e4
 have k3:=(k3.ext e3).ext e4
 have k4:=k4.ext e4
 have hS4:¬ Sx S w.heap.size w4.heap.size b4:=Sx.no (by omega) (by omega)
 have hS5:¬ Sx S w.heap.size w4.heap.size b5:=Sx.no (by omega) (by omega)
 have hne:b5≠b4:=by omega
 have up4:Up (Sx S w.heap.size w4.heap.size) w4:=Sx.up up (Nat.le_refl _) x4.size
 have hs':=(ER.par eW hs w4.heap.size).ext x4
 have ht':=(ER.par eW ht w4.heap.size).ext x4
 have l1:=AB9 hs hla
 have l2:=AB9 ht hlb
 have hout:∀ {W:World} {v:Value} {z:ZV},eZ.R (Sx S w.heap.size w4.heap.size) W v z→eZ.R S W v z:=fun h=>h.out
 generalize hT:Sx S w.heap.size w4.heap.size=T at *
 refine .seq ?_
 refine .par follows 6 [.inl _,.inl s,.inr (eHs.at T (hds (val a.w))),.inl _,.inl t,.inr (eHs.at T (hds (val b.w)))] [[],[(11,0)],[(12,1)],[],[(14,3)],[(15,4)]] (by kernel_rfl) ⟨
  fun w e=>(v_fa D9 rfl).ob,fun w e=>(v_ld ty_W rfl (k2.ext e) rfl).ob,fun w e=>(A1 _ D3 rfl (H8 (up4.ext e.size) (hs'.ext e) hla)).ob (A6 _ _ _),
  fun w e=>(v_fa D9 rfl).ob,fun w e=>(v_ld ty_W rfl (k3.ext e) rfl).ob,fun w e=>(A1 _ D3 rfl (H8 (up4.ext e.size) (ht'.ext e) hlb)).ob (A6 _ _ _),trivial⟩ ?_
 intro w5 e5 x hx y hy
 refine .asg rfl rfl (.asg rfl rfl (.nil ?_))
 have hB0:0<val b.w:=by
  rcases Nat.eq_zero_or_pos (val b.w) with h | h
  ·exact absurd (by unfold zval sg;rw [h];simp) hb0
  ·exact h
 have eva:=X4 a
 have evb:=X4 b
 generalize val a.w=A at *
 generalize val b.w=B at *
 have hne0:(hds B).length≠0:=fun e=>by have:=N8.1 (List.length_eq_zero_iff.1 e);omega
 refine .seq (.seq (.region (.mv rfl rfl (.lenR un_H rfl rfl hy (.eqlF rfl rfl rfl (by omega) (.nil (.condF rfl (.skip ?_))))))))
 have up5:=up4.ext e5.size
 refine .seq (.region (.mv rfl rfl (.mv rfl rfl ?_)))
 refine .call _ rfl AP0 rfl (AN7 up5 hx hy (by omega) (by omega) (by omega)) fun z w6 e6 h6=>?_
 obtain ⟨vq,vr,rfl,hq,hr⟩:=h6
 refine .mv rfl rfl (.ext rfl rfl rfl (.ext rfl rfl rfl (.asg rfl rfl (.asg rfl rfl (.nil ?_)))))
 have e56:=e5.trans e6
 have x6:=x4.trans e56
 have up6:=up5.ext e6.size
 have k2:=k2.ext e56
 have k3:=k3.ext e56
 have k4:=k4.ext e56
 have k5:=k5.ext e56
 have hy6:=ER.ext eHs hy e6
 have lq:(hds (A / B)).length≤2000000000:=Nat.le_trans (M8 (Nat.div_le_self _ _)) l1
 have lr:(hds (A % B)).length≤2000000000:=Nat.le_trans (M8 (Nat.mod_le _ _)) l1
 refine .mid (α:=(Nat×Nat)×Value×Value) (fun z=>[(2,.pointer (some ⟨b2,0,none⟩)),(3,.pointer (some ⟨b3,0,none⟩)),(4,.pointer (some ⟨b4,0,none⟩)),(5,.pointer (some ⟨b5,0,none⟩)),(9,z.2.1),(10,z.2.2)])
  (fun z W=>Ext w6 W∧eHs.R T W z.2.1 (hds z.1.1)∧eHs.R T W z.2.2 (hds z.1.2)∧(hds z.1.1).length≤2000000002∧(hds z.1.2).length≤2000000002∧zval a / zval b=sg (a.neg != b.neg) z.1.1∧zval a % zval b=sg false z.1.2) ?_ ?_
 ·refine .seq (.region (.fa G1 rfl rfl (.ld E0 rfl rfl k2 rfl (.mv rfl rfl ?_))))
  cases hn:a.neg with
  | false =>
   refine .gs rfl rfl rfl rfl rfl (.gs rfl rfl rfl rfl rfl (.gs rfl rfl rfl rfl rfl (.pick rfl rfl rfl (.nil (.condF rfl (.skip ?_))))))
   obtain ⟨d1,d2⟩:=Z2 (p:=false) (q:=b.neg) (A:=A) hB0 (.inl rfl)
   refine ⟨rfl,((A / B,A % B),vq,vr),lkA rfl,.refl _,hq,hr,Nat.le_trans lq (by omega),Nat.le_trans lr (by omega),?_,?_⟩
   ·rw [eva,evb,hn];exact d1
   ·rw [eva,evb,hn];exact d2
  | true =>
   refine .gr rfl rfl rfl rfl (.mv rfl rfl (.gr rfl rfl rfl rfl (.lenR un_H rfl rfl hr (.gr rfl rfl rfl rfl ?_))))
   by_cases h0:A % B=0
   ·rw [h0,J4]
    refine .gtrF rfl rfl rfl (by simp) (.pick rfl rfl rfl (.nil (.condF rfl (.skip ?_))))
    obtain ⟨d1,d2⟩:=Z2 (p:=true) (q:=b.neg) (A:=A) hB0 (.inr h0)
    refine ⟨rfl,((A / B,A % B),vq,vr),lkA rfl,.refl _,hq,hr,Nat.le_trans lq (by omega),Nat.le_trans lr (by omega),?_,?_⟩
    ·rw [eva,evb,hn];exact d1
    ·rw [eva,evb,hn];exact d2
   ·have hne:(hds (A % B)).length≠0:=fun e=>h0 (N8.1 (List.length_eq_zero_iff.1 e))
    refine .gtrT rfl rfl rfl (by omega) (.pick rfl rfl rfl (.nil (.condT rfl (.seq (.region (.mv rfl rfl (.bsl _ rfl rfl AM4 fun w7 b7 n7=>?_)))))))
    have hd1:digH [1]:=by intro x hx;simp at hx;omega
    have ho:OwnH 3 w6.heap.size w7 (.slice (some ⟨b7,0,none⟩) 1 1) [1]:=OwnH.lit (l:=[1]) n7 (Nat.le_refl _) hd1 (by simp)
    obtain ⟨e7,_,_,_⟩:=n7
    refine .call _ rfl Ai5 rfl (Af4 (S:=T) (up6.ext e7.size) (ER.ext eHs hq e7) (ho.toR up6) (by omega) (by simp)) fun v8 w8 e8 h8=>.asg rfl rfl (.nil ?_)
    rw [D0,show valH [1]=1 by rfl] at h8
    have e78:=e7.trans e8
    refine .region (.mv rfl rfl (.mv rfl rfl ?_))
    have hm:=Nat.mod_lt A hB0
    refine .call _ rfl AO9 rfl (AN6 (S:=T) (up6.ext e78.size) (ER.ext eHs hy6 e78) (ER.ext eHs hr e78) (by omega) (by rw [D0,D0];omega)) fun v9 w9 e9 h9=>.asg rfl rfl (.nil ?_)
    rw [D0,D0] at h9
    obtain ⟨d1,d2⟩:=AV1 (q:=b.neg) (A:=A) hB0 (by omega)
    refine ⟨rfl,((A / B+1,B-A % B),v8,v9),lkA rfl,e78.trans e9,ER.ext eHs h8 e9,h9,?_,?_,?_,?_⟩
    ·exact Nat.le_trans (AO5 lq (B:=1) (Nat.le_trans (L1 (L:=1) (by decide)) (by omega))) (by omega)
    ·exact Nat.le_trans (M8 (Nat.sub_le _ _)) (by omega)
    ·rw [eva,evb,hn];exact d1
    ·rw [eva,evb,hn];exact d2
 ·rintro ⟨⟨q,r⟩,vq,vr⟩ W ⟨hW,hq,hr,lq,lr,d1,d2⟩
  replace hW:Ext w6 W:=hW
  replace hq:eHs.R T W vq (hds q):=hq
  replace hr:eHs.R T W vr (hds r):=hr
  replace lq:(hds q).length≤2000000002:=lq
  replace lr:(hds r).length≤2000000002:=lr
  replace d1:zval a / zval b=sg (a.neg != b.neg) q:=d1
  replace d2:zval a % zval b=sg false r:=d2
  refine .weak [(2,.pointer (some ⟨b2,0,none⟩)),(3,.pointer (some ⟨b3,0,none⟩)),(4,.pointer (some ⟨b4,0,none⟩)),(5,.pointer (some ⟨b5,0,none⟩)),(9,vq),(10,vr)] (fun t v h=>h) ?_
  have k2:=k2.ext hW
  have k3:=k3.ext hW
  have k4:=k4.ext hW
  have k5:=k5.ext hW
  have upW:=up6.ext hW.size
  refine .seq (.region (.fa G1 rfl rfl (.ld E0 rfl rfl k2 rfl (.fa G1 rfl rfl (.ld E0 rfl rfl k3 rfl (.neqB AD0 rfl rfl rfl (.mv rfl rfl ?_)))))))
  refine .call _ rfl O0 rfl (N6 upW hq (by omega)) fun v7 w7 e7 h7=>.mv rfl rfl ?_
  rw [D0,←d1] at h7
  refine .call _ rfl O0 rfl (N6 (upW.ext e7.size) (ER.ext eHs hr e7) (by omega)) fun v8 w8 e8 h8=>?_
  rw [D0,←d2] at h8
  have e78:=e7.trans e8
  refine .storeA (E:=eZ) ty_Z rfl rfl (k4.ext e78) rfl rfl (ER.ext eZ h7 e8) hS4 fun w9 k9 u9 h9=>?_
  refine .storeA (E:=eZ) ty_Z rfl rfl ((k5.ext e78).upd u9 hne) rfl rfl (ER.upd eZ h8 u9 hS4) hS5 fun w10 k10 u10 h10=>.asg rfl rfl (.nil (.ret ?_))
  exact .plain [_,_,_] Tryz.results223 ⟨⟨_,rfl,C6 (E:=eZ) ty_Z rfl rfl (k9.upd u10 (Ne.symm hne)) (ER.upd eZ h9 u10 hS5)⟩,⟨_,rfl,C6 (E:=eZ) ty_Z rfl rfl k10 h10⟩,rfl,trivial⟩
   ⟨u10.below (u9.below ((x6.trans hW).trans e78) (by omega)) (by omega),_,_,_,rfl,hout (ER.upd eZ h9 u10 hS5),hout h10,rfl⟩
theorem Ai8:Ent Tryz.prog 224:=A0 Tryz.func224 (by kernel_rfl) rfl
theorem Af7 {S:Nat→Prop} {w:World} {va vb:Value} {a b:ZV} (up:Up S w) (ha:eZ.R S w va a) (hb:eZ.R S w vb b) (hla:a.w.length≤1000000000) (hlb:b.w.length≤1000000000):CR Tryz.prog 224 #[va,vb] w (Is (.int .i64 (cmpI (zval a) (zval b)))):=by
 have ha0:=ha
 have hb0:=hb
 obtain ⟨s,rfl,hs⟩:=ha
 obtain ⟨t,rfl,ht⟩:=hb
 refine enter Tryz.func224 rfl Tryz.ntmps224 rfl ?_
 refine .seq (.region (.box rfl rfl fun w1 b2 n1=>.box rfl rfl fun w2 b3 n2=>.asg rfl rfl (.nil ?_)))
 obtain ⟨e1,k2,hb2,hs1⟩:=n1
 obtain ⟨e2,k3,hb3,hs2⟩:=n2
 have x2:=e1.trans e2
 have k2:=k2.ext e2
 have up2:=up.ext x2.size
 have ha2:=ER.ext eZ ha0 x2
 have hb2':=ER.ext eZ hb0 x2
 have eva:=X4 a
 have evb:=X4 b
 refine .seq (.seq ?_)
 refine .par follows 5 [.inl (.agg #[.bool a.neg,s]),.inl (.int .i64 (zval a).sign),.inl (.agg #[.bool b.neg,t]),.inl (.int .i64 (zval b).sign),.inl (.bool ((zval a).sign != (zval b).sign))] [[],[(6,0)],[],[(8,2)],[(7,1),(9,3)]] (by kernel_rfl) ⟨
  fun w e=>(B3 ty_Z rfl (k2.ext e) rfl).ob,fun w e=>A1 _ I0 rfl (H9 (up2.ext e.size) (ER.ext eZ ha2 e) hla),
  fun w e=>(B3 ty_Z rfl (k3.ext e) rfl).ob,fun w e=>A1 _ I0 rfl (H9 (up2.ext e.size) (ER.ext eZ hb2' e) hlb),fun w e=>(Av4 rfl rfl).ob,trivial⟩ ?_
 intro w3 e3
 have x3:=x2.trans e3
 have up3:=up2.ext e3.size
 have k2:=k2.ext e3
 have k3:=k3.ext e3
 have ha3:=ER.ext eZ ha2 e3
 have hb3:=ER.ext eZ hb2' e3
 by_cases hsg:(zval a).sign=(zval b).sign
 ·rw [show ((zval a).sign != (zval b).sign)=false by simpa using hsg]
  refine .nil (.condF rfl (.skip (.seq ?_)))
  have hs':=ER.ext eW hs x3
  have ht':=ER.ext eW ht x3
  have l1:=AB9 hs hla
  have l2:=AB9 ht hlb
  have hc:=At8 hsg
  refine .par follows 7 [.inl _,.inl s,.inr (eHs.at S (hds (val a.w))),.inl _,.inl t,.inr (eHs.at S (hds (val b.w))),.inl (.int .i64 (cmpN (valH (hds (val a.w))) (valH (hds (val b.w)))))] [[],[(16,0)],[(17,1)],[],[(19,3)],[(20,4)],[(18,2),(21,5)]] (by kernel_rfl) ⟨
   fun w e=>(v_fa D9 rfl).ob,fun w e=>(v_ld ty_W rfl (k2.ext e) rfl).ob,fun w e=>(A1 _ D3 rfl (H8 (up3.ext e.size) (hs'.ext e) hla)).ob (A6 _ _ _),
   fun w e=>(v_fa D9 rfl).ob,fun w e=>(v_ld ty_W rfl (k3.ext e) rfl).ob,fun w e=>(A1 _ D3 rfl (H8 (up3.ext e.size) (ht'.ext e) hlb)).ob (A6 _ _ _),
   fun w e x hx y hy=>A1 _ AP1 rfl (AN8 hx hy (by omega) (by omega)),trivial⟩ ?_
  intro w4 e4 x hx y hy
  rw [D0,D0]
  refine .asg rfl rfl (.nil (.seq (.seq (.region (.ldA ty_Z rfl rfl (k2.ext e4) rfl ?_)))))
  refine .call _ rfl I0 rfl (H9 (up3.ext e4.size) (ER.ext eZ ha3 e4) hla) fun v5 w5 e5 h5=>?_
  subst h5
  have x5:=(x3.trans e4).trans e5
  by_cases hn:(zval a).sign<0
  ·rw [if_pos hn] at hc
   refine .lssT rfl rfl rfl hn (.nil (.condT rfl (.seq (.region (.mv rfl rfl (.neg rfl rfl (.asg rfl rfl (.nil (.ret ?_)))))))))
   exact .plain [_] Tryz.results224 ⟨rfl,trivial⟩ ⟨x5,isI (by rw [hc,wI (by unfold cmpN;split<;>(try split)<;>omega)])⟩
  ·rw [if_neg hn] at hc
   refine .lssF rfl rfl rfl hn (.nil (.condF rfl (.skip (.seq (.region (.mv rfl rfl (.asg rfl rfl (.nil (.ret ?_)))))))))
   exact .plain [_] Tryz.results224 ⟨rfl,trivial⟩ ⟨x5,isI (by rw [hc])⟩
 ·rw [show ((zval a).sign != (zval b).sign)=true by simpa using hsg]
  refine .nil (.condT rfl (.seq (.seq ?_)))
  have hc:=cmpI_ne hsg
  refine .par follows 5 [.inl (.agg #[.bool a.neg,s]),.inl (.int .i64 (zval a).sign),.inl (.agg #[.bool b.neg,t]),.inl (.int .i64 (zval b).sign),.inl (.bool (decide ((zval a).sign<(zval b).sign)))] [[],[(11,0)],[],[(13,2)],[(12,1),(14,3)]] (by kernel_rfl) ⟨
   fun w e=>(B3 ty_Z rfl (k2.ext e) rfl).ob,fun w e=>A1 _ I0 rfl (H9 (up3.ext e.size) (ER.ext eZ ha3 e) hla),
   fun w e=>(B3 ty_Z rfl (k3.ext e) rfl).ob,fun w e=>A1 _ I0 rfl (H9 (up3.ext e.size) (ER.ext eZ hb3 e) hlb),fun w e=>(Av5 rfl rfl).ob,trivial⟩ ?_
  intro w4 e4
  by_cases hn:(zval a).sign<(zval b).sign
  ·rw [if_pos hn] at hc
   rw [show decide ((zval a).sign<(zval b).sign)=true by simpa using hn]
   refine .nil (.condT rfl (.seq (.region (.asg rfl rfl (.nil (.ret ?_))))))
   exact .plain [_] Tryz.results224 ⟨rfl,trivial⟩ ⟨x3.trans e4,isI (by rw [hc])⟩
  ·rw [if_neg hn] at hc
   rw [show decide ((zval a).sign<(zval b).sign)=false by simpa using hn]
   refine .nil (.condF rfl (.skip (.seq (.region (.asg rfl rfl (.nil (.ret ?_)))))))
   exact .plain [_] Tryz.results224 ⟨rfl,trivial⟩ ⟨x3.trans e4,isI (by rw [hc])⟩
end Go.Proofs.YtfilidfomgfnhaaGreat

namespace Go.Kx
open Go Go.RowKit
section
variable {P:Program} {ro:Option Nat} {N:Nat} {ds:List Deferred} {ops:List Oper} {K:Env→World→Prop} {σ0:Env} {w0:World} {h:Nat} {sp:List Sp} {deps:List (List (Tmp×Nat))} {a0:Act}
section
variable {Q:Exit→Act→World→Prop}
end
end
end Go.Kx

namespace Go.Proofs.YtfilidfomgfnhaaGreat
open Go Go.Kx Go.RowKit
theorem AO8:Ent Tryz.prog 220:=A0 Tryz.func220 (by kernel_rfl) rfl
theorem AN5 {S:Nat→Prop} {w:World} (up:Up S w):CR Tryz.prog 220 #[] w (eZ.at S (zc 1)):=by
 refine enter Tryz.func220 rfl Tryz.ntmps220 rfl ?_
 refine .seq (.region (.alloc rfl B4 fun w1 b1 n1=>.nil ?_))
 obtain ⟨e1,k1,hb1,hs1⟩:=n1
 have hS:¬ Sx S w.heap.size w1.heap.size b1:=Sx.no (by omega) (by omega)
 have up1:Up (Sx S w.heap.size w1.heap.size) w1:=Sx.up up (Nat.le_refl _) e1.size
 refine .seq (.region (.call _ rfl Z6 rfl (Y5 up1 (by decide) (by decide)) fun v2 w2 e2 h2=>?_))
 refine .storeA (E:=eZ) ty_Z rfl rfl (k1.ext e2) rfl rfl h2 hS fun w5 k5 u5 h5=>.nil (.ret ?_)
 exact .cell Tryz.results220 rfl ty_Z rfl rfl k5 h5 ⟨u5.below (e1.trans e2) (by omega),h5.out⟩
theorem Ai4:Ent Tryz.prog 163:=A0 Tryz.func163 (by kernel_rfl) rfl
theorem Af3 {S:Nat→Prop} {w:World} {v:Value} {q:QV} {L:Nat} (up:Up S w) (h:eQ.R S w v q) (hl:qok L q) (hL:L≤1000000000):CR Tryz.prog 163 #[v] w (eZ.at S (zc (pd q))):=by
 obtain ⟨s,t,rfl,hn,hd⟩:=P3 h
 refine enter Tryz.func163 rfl Tryz.ntmps163 rfl ?_
 refine .seq (.region (.box rfl rfl fun w1 b1 n1=>.alloc rfl B4 fun w2 b2 n2=>.nil ?_))
 obtain ⟨e1,k1,hb1,hs1⟩:=n1
 obtain ⟨e2,k2,hb2,hs2⟩:=n2
 have x2:=e1.trans e2
 have k1:=k1.ext e2
 have hS:¬ Sx S w.heap.size w2.heap.size b2:=Sx.no (by omega) (by omega)
 have up2:Up (Sx S w.heap.size w2.heap.size) w2:=Sx.up up (Nat.le_refl _) x2.size
 have hd2:=(ER.par eZ hd w2.heap.size).ext x2
 refine .seq (.seq (.region (.fa Q7 rfl rfl (.ldN [.bool q.den.neg,t] ty_Z rfl rfl k1 AQ7 ?_))))
 refine .call _ rfl I0 rfl (H9 up2 hd2 (Nat.le_trans hl.2 hL)) fun v3 w3 e3 h3=>?_
 subst h3
 have hp:zval q.den≠0→pd q=(val q.den.w:Nat):=by
  intro h0
  have:=H5 q.den
  unfold pd;rw [if_neg h0];split<;>omega
 by_cases h0:zval q.den=0
 ·refine .eqlT rfl rfl rfl (by rw [h0];rfl) (.nil (.condT rfl (.seq (.region ?_))))
  refine .call _ rfl AO8 rfl (AN5 (up2.ext e3.size)) fun v4 w4 e4 h4=>?_
  refine .storeA (E:=eZ) ty_Z rfl rfl ((k2.ext e3).ext e4) rfl rfl h4 hS fun w5 k5 u5 h5=>.nil (.ret ?_)
  exact .cell Tryz.results163 rfl ty_Z rfl rfl k5 h5 ⟨u5.below ((x2.trans e3).trans e4) (by omega),by rw [show pd q=1 by unfold pd;rw [if_pos h0]];exact h5.out⟩
 ·refine .eqlF rfl rfl rfl (fun h=>h0 (Int.sign_eq_zero_iff_zero.1 h)) (.nil (.condF rfl (.skip (.seq (.region (.fa Q7 rfl rfl (.ldN [.bool q.den.neg,t] ty_Z rfl rfl (k1.ext e3) AQ7 ?_)))))))
  refine .call _ rfl Ai9 rfl (Af8 (up2.ext e3.size) (ER.ext eZ hd2 e3) (Nat.le_trans hl.2 hL)) fun v4 w4 e4 h4=>?_
  refine .storeA (E:=eZ) ty_Z rfl rfl ((k2.ext e3).ext e4) rfl rfl h4 hS fun w5 k5 u5 h5=>.nil (.ret ?_)
  exact .cell Tryz.results163 rfl ty_Z rfl rfl k5 h5 ⟨u5.below ((x2.trans e3).trans e4) (by omega),by rw [hp h0];exact h5.out⟩
theorem Ai3:Ent Tryz.prog 162:=A0 Tryz.func162 (by kernel_rfl) rfl
theorem Af2 {S:Nat→Prop} {w:World} {v:Value} {q:QV} {L:Nat} (up:Up S w) (h:eQ.R S w v q) (hl:qok L q) (hL:L≤1000000000):CR Tryz.prog 162 #[v] w (eZ.at S (zc (pn q))):=by
 obtain ⟨s,t,rfl,hn,hd⟩:=P3 h
 refine enter Tryz.func162 rfl Tryz.ntmps162 rfl ?_
 refine .seq (.region (.box rfl rfl fun w1 b1 n1=>.alloc rfl B4 fun w2 b2 n2=>.nil ?_))
 obtain ⟨e1,k1,hb1,hs1⟩:=n1
 obtain ⟨e2,k2,hb2,hs2⟩:=n2
 have x2:=e1.trans e2
 have k1:=k1.ext e2
 have hS:¬ Sx S w.heap.size w2.heap.size b2:=Sx.no (by omega) (by omega)
 have up2:Up (Sx S w.heap.size w2.heap.size) w2:=Sx.up up (Nat.le_refl _) x2.size
 have hd2:=(ER.par eZ hd w2.heap.size).ext x2
 have hn2:=(ER.par eZ hn w2.heap.size).ext x2
 refine .seq (.seq (.region (.fa Q7 rfl rfl (.ldN [.bool q.den.neg,t] ty_Z rfl rfl k1 AQ7 ?_))))
 refine .call _ rfl I0 rfl (H9 up2 hd2 (Nat.le_trans hl.2 hL)) fun v3 w3 e3 h3=>?_
 subst h3
 by_cases h0:zval q.den<0
 ·refine .lssT rfl rfl rfl (by rw [Int.sign_eq_neg_one_of_neg h0];decide) (.nil (.condT rfl (.seq (.region (.fa Q8 rfl rfl (.ldN [.bool q.num.neg,s] ty_Z rfl rfl (k1.ext e3) Ak1 ?_))))))
  refine .call _ rfl Ai6 rfl (Af5 (up2.ext e3.size) (ER.ext eZ hn2 e3) (Nat.le_trans hl.1 hL)) fun v4 w4 e4 h4=>?_
  refine .storeA (E:=eZ) ty_Z rfl rfl ((k2.ext e3).ext e4) rfl rfl h4 hS fun w5 k5 u5 h5=>.nil (.ret ?_)
  exact .cell Tryz.results162 rfl ty_Z rfl rfl k5 h5 ⟨u5.below ((x2.trans e3).trans e4) (by omega),by rw [show pn q = -zval q.num by unfold pn;rw [if_pos h0]];exact h5.out⟩
 ·refine .lssF rfl rfl rfl (fun h=>h0 (Int.sign_neg_iff.1 h)) (.nil (.condF rfl (.skip (.seq (.region (.fa Q8 rfl rfl (.ldN [.bool q.num.neg,s] ty_Z rfl rfl (k1.ext e3) Ak1 ?_)))))))
  refine .call _ rfl AF5 rfl (AE9 (up2.ext e3.size) (ER.ext eZ hn2 e3) (Nat.le_trans hl.1 (by omega))) fun v4 w4 e4 h4=>?_
  refine .storeA (E:=eZ) ty_Z rfl rfl ((k2.ext e3).ext e4) rfl rfl h4 hS fun w5 k5 u5 h5=>.nil (.ret ?_)
  exact .cell Tryz.results162 rfl ty_Z rfl rfl k5 h5 ⟨u5.below ((x2.trans e3).trans e4) (by omega),by rw [show pn q=zval q.num by unfold pn;rw [if_neg h0]];exact h5.out⟩
theorem Ad1:Ent Tryz.prog 164:=A0 Tryz.func164 (by kernel_rfl) rfl
theorem Ab2 {S:Nat→Prop} {w:World} {va vb:Value} {a b:ZV} {L:Nat} (up:Up S w) (ha:eZ.R S w va a) (hb:eZ.R S w vb b) (hla:a.w.length≤L) (hlb:b.w.length≤L) (hL:L≤1000000000) (hb0:0<zval b):CR Tryz.prog 164 #[va,vb] w (eQ.at S (qc (Rat.divInt (zval a) (zval b)))):=by
 have hda:=AC2 ha
 have hdb:=AC2 hb
 have hqc:=AL7 (n:=zval a) hb0
 have hga:=H5 a
 have hgb:=H5 b
 have hBp:0<val b.w:=by omega
 have hla1:=O1 hda hla
 have hlb1:=O1 hdb hlb
 rw [hga] at hla1
 rw [hgb] at hlb1
 rw [hga,hgb] at hqc
 have hg1:Nat.gcd (val a.w) (val b.w)≤val b.w:=Nat.gcd_le_right _ hBp
 have hg0:0<Nat.gcd (val a.w) (val b.w):=Nat.gcd_pos_of_pos_right _ hBp
 generalize hgg:Nat.gcd (val a.w) (val b.w)=g at *
 obtain ⟨s,rfl,hs⟩:=ha
 obtain ⟨t,rfl,ht⟩:=hb
 have ha:eZ.R S w (.agg #[.bool a.neg,s]) a:=⟨s,rfl,hs⟩
 have hb:eZ.R S w (.agg #[.bool b.neg,t]) b:=⟨t,rfl,ht⟩
 refine enter Tryz.func164 rfl Tryz.ntmps164 rfl ?_
 refine .seq (.region (.box rfl rfl fun w1 b2 n1=>.box rfl rfl fun w2 b3 n2=>.alloc rfl D2 fun w3 b4 n3=>.nil ?_))
 obtain ⟨e1,k2,hb2,hs1⟩:=n1
 obtain ⟨e2,k3,hb3,hs2⟩:=n2
 obtain ⟨e3,k4,hb4,hs3⟩:=n3
 have x3:=(e1.trans e2).trans e3
 have k2:=(k2.ext e2).ext e3
 have k3:=k3.ext e3
 have hS4:¬ Sx S w.heap.size w3.heap.size b4:=Sx.no (by omega) (by omega)
 have up3:Up (Sx S w.heap.size w3.heap.size) w3:=Sx.up up (Nat.le_refl _) x3.size
 have ha3:=(ER.par eZ ha w3.heap.size).ext x3
 have hb3':=(ER.par eZ hb w3.heap.size).ext x3
 have hout:∀ {W:World} {v:Value} {z:QV},eQ.R (Sx S w.heap.size w3.heap.size) W v z→eQ.R S W v z:=fun h=>h.out
 generalize hT:Sx S w.heap.size w3.heap.size=T at *
 refine .seq (.region (.ldA ty_Z rfl rfl k2 rfl (.ldA ty_Z rfl rfl k3 rfl ?_)))
 refine .call _ rfl Ai7 rfl (Af6 up3 ha3 hb3' (by omega) (by omega)) fun v4 w4 e4 h4=>?_
 rw [hgg] at h4
 obtain ⟨s4,rfl,hs4⟩:=h4
 have h4:eZ.R T w4 (.agg #[.bool (zc (g:Nat)).neg,s4]) (zc (g:Nat)):=⟨s4,rfl,hs4⟩
 refine .alloc rfl B4 fun w5 b5 n5=>?_
 obtain ⟨e5,k5,hb5,hs5⟩:=n5
 refine .storeA (E:=eZ) ty_Z rfl rfl k5 rfl rfl (ER.ext eZ (ER.lt eZ h4) e5) (fun h=>by have:=h.2;omega) fun w6 k5 u6 _=>.nil ?_
 have e46:Ext w4 w6:=u6.below e5 (by omega)
 have e36:=e4.trans e46
 have up6:=up3.ext e36.size
 have lg:(zc (g:Nat)).w.length≤1000000000:=Nat.le_trans (L6 (L:=L) (by rw [Int.natAbs_natCast];exact Nat.lt_of_le_of_lt hg1 hlb1)) hL
 have hgz:zval (zc ((g:Nat):Int))=(g:Int):=E6 _
 refine .seq (.region (.ldA ty_Z rfl rfl (k2.ext e36) rfl (.ldA ty_Z rfl rfl k5 rfl ?_)))
 refine .call _ rfl AP2 rfl (AN9 up6 (ER.ext eZ ha3 e36) (ER.ext eZ h4 e46) (by omega) lg (by rw [hgz];omega)) fun v7 w7 e7 h7=>?_
 obtain ⟨vq,vr,_,rfl,hq,hr,rfl⟩:=h7
 rw [hgz] at hq hr
 obtain ⟨sq,rfl,hsq⟩:=hq
 have hq:eZ.R T w7 (.agg #[.bool (zc (zval a / (g:Nat))).neg,sq]) (zc (zval a / (g:Nat))):=⟨sq,rfl,hsq⟩
 refine .mv rfl rfl (.ext rfl rfl rfl (.ext rfl rfl rfl (.ext rfl rfl rfl (.alloc rfl B4 fun w8 b6 n8=>.alloc rfl B4 fun w9 b7 n9=>?_))))
 obtain ⟨e8,k6,hb6,hs8⟩:=n8
 obtain ⟨e9,k7,hb7,hs9⟩:=n9
 have e79:=e8.trans e9
 refine .storeA (E:=eZ) ty_Z rfl rfl (k6.ext e9) rfl rfl (ER.ext eZ (ER.lt eZ hq) e79) (fun h=>by have:=h.2;omega) fun w10 k6 u10 _=>?_
 have e710:Ext w7 w10:=u10.below e79 (by omega)
 refine .storeA (E:=eZ) ty_Z rfl rfl (k7.upd u10 (by omega)) rfl rfl (ER.ext eZ (ER.lt eZ hr) e710) (fun h=>by have:=h.2;omega) fun w11 k7 u11 _=>.asg rfl rfl (.nil ?_)
 have e711:Ext w7 w11:=u11.below e710 (by omega)
 have k6:=k6.upd u11 (by omega)
 have e611:=e7.trans e711
 have up11:=up6.ext e611.size
 have k5:=k5.ext e611
 have e311:=e36.trans e611
 refine .seq (.region (.ldA ty_Z rfl rfl (k3.ext e311) rfl (.ldA ty_Z rfl rfl k5 rfl ?_)))
 refine .call _ rfl AP2 rfl (AN9 up11 (ER.ext eZ hb3' e311) (ER.ext eZ (ER.ext eZ h4 e46) e611) (by omega) lg (by rw [hgz];omega)) fun v12 w12 e12 h12=>?_
 obtain ⟨vd,ve,_,rfl,hd,he,rfl⟩:=h12
 rw [hgz] at hd he
 obtain ⟨sd,rfl,hsd⟩:=hd
 have hd:eZ.R T w12 (.agg #[.bool (zc (zval b / (g:Nat))).neg,sd]) (zc (zval b / (g:Nat))):=⟨sd,rfl,hsd⟩
 refine .mv rfl rfl (.ext rfl rfl rfl (.ext rfl rfl rfl (.ext rfl rfl rfl (.alloc rfl B4 fun w13 b9 n13=>.alloc rfl B4 fun w14 b10 n14=>?_))))
 obtain ⟨e13,k9,hb9,hs13⟩:=n13
 obtain ⟨e14,k10,hb10,hs14⟩:=n14
 have e1214:=e13.trans e14
 refine .storeA (E:=eZ) ty_Z rfl rfl (k9.ext e14) rfl rfl (ER.ext eZ (ER.lt eZ hd) e1214) (fun h=>by have:=h.2;omega) fun w15 k9 u15 _=>?_
 have e1215:Ext w12 w15:=u15.below e1214 (by omega)
 refine .storeA (E:=eZ) ty_Z rfl rfl (k10.upd u15 (by omega)) rfl rfl (ER.ext eZ (ER.lt eZ he) e1215) (fun h=>by have:=h.2;omega) fun w16 k10 u16 _=>.asg rfl rfl (.nil ?_)
 have e1216:Ext w12 w16:=u16.below e1215 (by omega)
 have k9:=k9.upd u16 (by omega)
 have e1116:=e12.trans e1216
 have k6:=k6.ext e1116
 have up16:=up11.ext e1116.size
 have hd:=ER.ext eZ hd e1216
 have hq:=ER.ext eZ hq (e711.trans e1116)
 have hdl:(zc (zval b / (g:Nat))).w.length≤1000000000:=Nat.le_trans (L6 (L:=L) (Nat.lt_of_le_of_lt (Int.natAbs_ediv_le_natAbs _ _) (by rw [hgb];exact hlb1))) hL
 have e316:=e311.trans e1116
 have k4:=k4.ext e316
 refine .seq (.seq ?_)
 refine .par follows 4 [.inl (.agg #[.bool (zc (zval b / (g:Nat))).neg,sd]),.inr (eZ.at T (zc 1)),.inl (.int .i64 (cmpI (zval (zc (zval b / (g:Nat)))) (zval (zc 1)))),.inl (.bool (cmpI (zval (zc (zval b / (g:Nat)))) (zval (zc 1)) == 0))] [[],[],[(29,0),(30,1)],[(31,2)]] (by kernel_rfl) ⟨
  fun w e=>(B3 ty_Z rfl (k9.ext e) rfl).ob,fun w e=>(A1 _ AO8 rfl (AN5 (up16.ext e.size))).ob (A6 _ _ _),
  fun w e x hx=>A1 _ Ai8 rfl (Af7 (up16.ext e.size) (ER.ext eZ hd e) hx hdl (Nat.le_trans (L6 (L:=1) (by decide)) (by omega))),fun w e=>(Av7 rfl rfl).ob,trivial⟩ ?_
 intro w17 e17 x1 hx1
 rw [E6,E6]
 have k4:=k4.ext e17
 have k6:=k6.ext e17
 have k9:=k9.ext e17
 obtain ⟨sq',he1,hsq'⟩:=ER.ext eZ hq e17
 obtain ⟨sd',he2,hsd'⟩:=ER.ext eZ hd e17
 injection he1 with he1
 injection he2 with he2
 simp at he1 he2
 subst he1
 subst he2
 have hxx:=x3.trans (e316.trans e17)
 by_cases h1:zval b / (g:Nat)=1
 ·rw [show (cmpI (zval b / (g:Nat)) 1 == 0)=true by rw [h1];decide]
  rw [if_pos h1] at hqc
  have hfin:eQ.R T w17 (.agg #[.bool (zc (zval a / (g:Nat))).neg,sq,.bool false,.slice none 0 0]) (qc (Rat.divInt (zval a) (zval b))):=by
   rw [hqc];exact ⟨sq,.slice none 0 0,rfl,hsq',RL.nil⟩
  refine .nil (.condT rfl (.seq (.region (.ldA ty_Z rfl rfl k6 rfl (.bld [(0,.agg #[.bool (zc (zval a / (g:Nat))).neg,sq])] rfl rfl An1 ?_)))))
  refine .storeA (E:=eQ) ty_Q rfl rfl k4 rfl rfl hfin hS4 fun w18 k18 u18 h18=>.nil (.ret ?_)
  exact .cell Tryz.results164 rfl ty_Q rfl rfl k18 h18 ⟨u18.below hxx (by omega),hout h18⟩
 ·rw [show (cmpI (zval b / (g:Nat)) 1 == 0)=false by unfold cmpI;split<;>(try split)<;>first | rfl | omega]
  rw [if_neg h1] at hqc
  have hfin:eQ.R T w17 (.agg #[.bool (zc (zval a / (g:Nat))).neg,sq,.bool (zc (zval b / (g:Nat))).neg,sd]) (qc (Rat.divInt (zval a) (zval b))):=by
   rw [hqc];exact ⟨sq,sd,rfl,hsq',hsd'⟩
  refine .nil (.condF rfl (.skip (.seq (.region (.ldA ty_Z rfl rfl k6 rfl (.ldA ty_Z rfl rfl k9 rfl (.bld [(0,.agg #[.bool (zc (zval a / (g:Nat))).neg,sq]),(1,.agg #[.bool (zc (zval b / (g:Nat))).neg,sd])] rfl rfl AW0 ?_)))))))
  refine .storeA (E:=eQ) ty_Q rfl rfl k4 rfl rfl hfin hS4 fun w18 k18 u18 h18=>.nil (.ret ?_)
  exact .cell Tryz.results164 rfl ty_Q rfl rfl k18 h18 ⟨u18.below hxx (by omega),hout h18⟩
end Go.Proofs.YtfilidfomgfnhaaGreat

namespace Go.Kx
end Go.Kx
namespace Go.Proofs.YtfilidfomgfnhaaGreat
open Go Go.Kx Go.RowKit
theorem zl {n:Int} {L K:Nat} (h:n.natAbs<4294967296 ^ L) (hL:L≤K):(zc n).w.length≤K:=Nat.le_trans (L6 h) hL
theorem eQ_digs {S:Nat→Prop} {w:World} {v:Value} {q:QV} (h:eQ.R S w v q):dig q.num.w∧dig q.den.w:=by
 obtain ⟨s,t,_,h1,h2⟩:=h
 exact ⟨D5 h1,D5 h2⟩
theorem AX7:Ent Tryz.prog 111:=A0 Tryz.func111 (by kernel_rfl) rfl
theorem AW9 {S:Nat→Prop} {w:World} {v:Value} {q:QV} {L:Nat} (up:Up S w) (h:eQ.R S w v q) (hl:qok L q) (h1:1≤L) (hL:L≤1000000000):CR Tryz.prog 111 #[v] w (eQ.at S (qc (qval q))):=by
 obtain ⟨hd1,hd2⟩:=eQ_digs h
 have hln:=pn_lt hd1 hl
 have hld:=pd_lt hd2 hl h1
 have hpp:=N7 q
 obtain ⟨s,t,rfl,hs,ht⟩:=h
 have h:eQ.R S w (.agg #[.bool q.num.neg,s,.bool q.den.neg,t]) q:=⟨s,t,rfl,hs,ht⟩
 refine enter Tryz.func111 rfl Tryz.ntmps111 rfl ?_
 refine .seq (.region (.box rfl rfl fun w1 b1 n1=>.alloc rfl D2 fun w2 b2 n2=>.nil ?_))
 obtain ⟨e1,k1,hb1,hs1⟩:=n1
 obtain ⟨e2,k2,hb2,hs2⟩:=n2
 have x2:=e1.trans e2
 have k1:=k1.ext e2
 have hS:¬ Sx S w.heap.size w2.heap.size b2:=Sx.no (by omega) (by omega)
 have up2:Up (Sx S w.heap.size w2.heap.size) w2:=Sx.up up (Nat.le_refl _) x2.size
 have h2:=(ER.par eQ h w2.heap.size).ext x2
 have hout:∀ {W:World} {v:Value} {z:QV},eQ.R (Sx S w.heap.size w2.heap.size) W v z→eQ.R S W v z:=fun h=>h.out
 generalize hT:Sx S w.heap.size w2.heap.size=T at *
 refine .seq ?_
 refine .par follows 5 [.inl _,.inr (eZ.at T (zc (pn q))),.inl _,.inr (eZ.at T (zc (pd q))),.inr (eQ.at T (qc (Rat.divInt (zval (zc (pn q))) (zval (zc (pd q))))))] [[],[(3,0)],[],[(5,2)],[(4,1),(6,3)]] (by kernel_rfl) ⟨
  fun w e=>(B3 ty_Q rfl (k1.ext e) rfl).ob,fun w e=>(A1 _ Ai3 rfl (Af2 (up2.ext e.size) (ER.ext eQ h2 e) hl hL)).ob (A6 _ _ _),
  fun w e=>(B3 ty_Q rfl (k1.ext e) rfl).ob,fun w e=>(A1 _ Ai4 rfl (Af3 (up2.ext e.size) (ER.ext eQ h2 e) hl hL)).ob (A6 _ _ _),
  fun w e x hx y hy=>(A1 _ Ad1 rfl (Ab2 (up2.ext e.size) hx hy (zl hln (Nat.le_refl _)) (zl hld (Nat.le_refl _)) hL (by rw [E6];exact hpp))).ob (A6 _ _ _),trivial⟩ ?_
 intro w3 e3 x hx y hy z hz
 rw [E6,E6] at hz
 refine .storeA (E:=eQ) ty_Q rfl rfl (k2.ext e3) rfl rfl hz hS fun w4 k4 u4 h4=>.nil (.ret ?_)
 exact .cell Tryz.results111 rfl ty_Q rfl rfl k4 h4 ⟨u4.below (x2.trans e3) (by omega),hout h4⟩
end Go.Proofs.YtfilidfomgfnhaaGreat

namespace Go.Kx
open Go Go.RowKit
end Go.Kx
namespace Go.Proofs.YtfilidfomgfnhaaGreat
open Go Go.Kx Go.RowKit
end Go.Proofs.YtfilidfomgfnhaaGreat

namespace Go.Proofs.YtfilidfomgfnhaaGreat
open Go Go.Kx Go.RowKit
end Go.Proofs.YtfilidfomgfnhaaGreat

namespace Go.Kx
end Go.Kx
namespace Go.Proofs.YtfilidfomgfnhaaGreat
open Go Go.Kx Go.RowKit
end Go.Proofs.YtfilidfomgfnhaaGreat

namespace Go.Proofs.YtfilidfomgfnhaaGreat
open Go Go.Kx Go.RowKit
theorem Ax6 {w:World} {v:Value} {t:TypeId} {sz n B B':Nat} {xs:List Value} (h:w.ownsRow B t sz v n xs) (hB:B'≤B):w.ownsRow B' t sz v n xs:=by
 refine ⟨h.1,?_⟩
 rcases h.2 with h | ⟨g,cap,cur,h1,h2,h3⟩
 ·exact .inl h
 ·exact .inr ⟨g,cap,cur,h1,Nat.le_trans hB h2,h3⟩
theorem OwnL.base {α:Type} {E:ER α} {t:TypeId} {B B':Nat} {X:Nat→Prop} {w:World} {v:Value} {l:List α} (h:OwnL E t B X w v l) (hB:B'≤B):OwnL E t B' X w v l:=by
 obtain ⟨es,h1,h2⟩:=h
 exact ⟨es,Ax6 h1 hB,h2⟩
end Go.Proofs.YtfilidfomgfnhaaGreat

namespace Go.Proofs.YtfilidfomgfnhaaGreat
open Go Go.Kx Go.RowKit
end Go.Proofs.YtfilidfomgfnhaaGreat

namespace Go.Proofs.YtfilidfomgfnhaaGreat
open Go Go.Kx Go.RowKit
end Go.Proofs.YtfilidfomgfnhaaGreat

namespace Go.Proofs.YtfilidfomgfnhaaGreat
open Go Go.Kx Go.RowKit
end Go.Proofs.YtfilidfomgfnhaaGreat

namespace Go.Proofs.YtfilidfomgfnhaaGreat
open Go Go.Kx Go.RowKit
end Go.Proofs.YtfilidfomgfnhaaGreat

namespace Go.Kx
open Go Go.RowKit
section
variable {P:Program} {σ:Env} {w:World} {d:Option Tmp} {ty:TypeId} {pos:String} {af:Array Edge} {g:Option (Nat×Bool)}
end
end Go.Kx
namespace Go.Proofs.YtfilidfomgfnhaaGreat
open Go Go.Kx Go.RowKit
end Go.Proofs.YtfilidfomgfnhaaGreat

namespace Go.Kx
end Go.Kx
namespace Go.Proofs.YtfilidfomgfnhaaGreat
open Go Go.Kx Go.RowKit
end Go.Proofs.YtfilidfomgfnhaaGreat

namespace Go.Kx
open Go Go.RowKit
end Go.Kx
namespace Go.Proofs.YtfilidfomgfnhaaGreat
open Go Go.Kx Go.RowKit
structure VR (W:World) (v:Value) (n L:Nat) (a:List QV):Prop where
 r:eV.R (fun _=>True) W v a
 hn:a.length≤n
 hk:vk L a
section
variable {W W':World} {v va vb:Value} {n c n' c' L L':Nat} {a b m:List (List QV)} {x y:List QV}
theorem upT {W:World}:Up (fun _=>True) W:=fun _ _=>trivial
end
theorem okV.vr {W:World} {v:Value} {a:List QV} (h:okV a) (hr:eV.R (fun _=>True) W v a):VR W v 20 6 a:=⟨hr,h.1,eV_vk hr h.2 (by decide)⟩
end Go.Proofs.YtfilidfomgfnhaaGreat

namespace Go.Proofs.YtfilidfomgfnhaaGreat
open Go Go.Kx Go.RowKit
/-- slices just laid in a row -/
theorem BA1 {α:Type} {E:ER α} {hsz:0<E.sz} {S:Nat→Prop} {w w':World} {b:Nat} {t:TypeId} {cs:Array Value} {n:Nat} (vs:List Value) (ls:List (List α)) (hn:New w w' b t cs) (up:Up S w) (hcs:cs=vs.toArray) (hl:ls.length=n) (hm:n≤1000) (h:Els (RL E hsz) S w vs ls) :
  (RL (RL E hsz) (show 0<1 by decide)).R S w' (.slice (some ⟨b,0,none⟩) n n) ls:=by
 subst hl
 refine RL.ofBlk (es:=vs) hn.2.1 (up b (by have:=hn.2.2.1;omega)) (h.ext hn.1) (fun j u hu=>?_) (Nat.le_refl _) (by omega)
 rw [hcs]
 have hv:∀ v∈vs,v.cells=#[v]:=by
  intro v hv
  obtain ⟨i,hi⟩:=List.mem_iff_getElem?.1 hv
  have hlt:=Ay3 hi
  obtain ⟨a,c,rfl,_⟩:=RL.len (h.2 i v _ hi (List.getElem?_eq_getElem (by rw [←h.1];exact hlt)))
  rfl
 have:cellsOf vs=vs:=by
  clear h hcs hu
  induction vs with
  | nil=>rfl
  | cons v vs ih=>rw [cellsOf,List.flatMap_cons,hv v (by simp),←cellsOf,ih fun u hu=>hv u (by simp [hu])];rfl
 rw [this] at hu
 simpa using hu
end Go.Proofs.YtfilidfomgfnhaaGreat

namespace Go.Proofs.YtfilidfomgfnhaaGreat
open Go Go.Kx Go.RowKit
theorem An4:Ent Tryz.prog 45:=A0 Tryz.func45 (by kernel_rfl) rfl
theorem Ak7 {S:Nat→Prop} {w:World} {n d:Int} (up:Up S w) (hn : -9223372036854775808≤n∧n≤9223372036854775807) (hd:0<d∧d≤9223372036854775807):CR Tryz.prog 45 #[.int .i64 n,.int .i64 d] w (eQ.at S (qc (Rat.divInt n d))):=by
 refine enter Tryz.func45 rfl Tryz.ntmps45 rfl ?_
 refine .seq (.region (.alloc rfl D2 fun w1 b4 n1=>.nil (.seq (.region (.mv rfl rfl ?_)))))
 obtain ⟨e1,k4,hb4,hs1⟩:=n1
 have hS4:¬ Sx S w.heap.size w1.heap.size b4:=Sx.no (by omega) (by omega)
 have up1:Up (Sx S w.heap.size w1.heap.size) w1:=Sx.up up (Nat.le_refl _) e1.size
 refine .call _ rfl Z6 rfl (Y5 up1 hn.1 hn.2) fun v2 w2 e2 h2=>.mv rfl rfl ?_
 refine .call _ rfl Z6 rfl (Y5 (up1.ext e2.size) (by omega) hd.2) fun v3 w3 e3 h3=>?_
 obtain ⟨s,rfl,hs⟩:=ER.ext eZ h2 e3
 obtain ⟨t,rfl,ht⟩:=h3
 refine .bld _ rfl rfl AW0 ?_
 have hq:eQ.R (Sx S w.heap.size w1.heap.size) w3 (.agg #[.bool (zc n).neg,s,.bool (zc d).neg,t]) ⟨zc n,zc d⟩:=⟨s,t,rfl,hs,ht⟩
 have hok:qok 2 ⟨zc n,zc d⟩:=⟨L6 (by omega),L6 (by omega)⟩
 have hv:qval ⟨zc n,zc d⟩=Rat.divInt n d:=by
  unfold qval pn pd
  simp only [E6]
  rw [if_neg (by omega),if_neg (by omega),if_neg (by omega)]
 refine .call _ rfl AX7 rfl (AW9 (up1.ext (e2.trans e3).size) hq hok (by decide) (by decide)) fun v4 w4 e4 h4=>?_
 rw [hv] at h4
 refine .storeA (E:=eQ) ty_Q rfl rfl (((k4.ext e2).ext e3).ext e4) rfl rfl h4 hS4 fun w5 k5 u5 h5=>.nil (.ret ?_)
 exact .cell Tryz.results45 rfl ty_Q rfl rfl k5 h5 ⟨u5.below (((e1.trans e2).trans e3).trans e4) (by omega),h5.out⟩
end Go.Proofs.YtfilidfomgfnhaaGreat

namespace Go.Proofs.YtfilidfomgfnhaaGreat
open Go Go.Kx Go.RowKit
section
variable {m:List (List QV)} {b:List QV}
theorem red_req (m:List (List QV)):Req m.length (colsOf m) (rm m) (redF m):=AU9 _ _ _ _
theorem AO2:(nullM m).length=(freeC m).length:=by unfold nullM;simp
theorem As3 (m:List (List QV)):(nullM m).length+(redP m).length=colsOf m:=by rw [AO2];exact (Ab3 m).free_len
theorem As5 {k:Nat}:k∈freeC m↔k<colsOf m∧k∉redP m:=by
 unfold freeC freeTo
 rw [List.mem_filter,List.mem_range]
 simp
theorem As6 {i:Nat} (hi:i<(freeC m).length):(freeC m).getD i 0<colsOf m∧(freeC m).getD i 0∉redP m:=As5.1 (F6 hi)
theorem not_piv {p:List Nat} {k:Nat} (h:k∉p):∀ j,j<p.length→p.getD j 0≠k:=fun _ hj e=>h (e▸F6 hj)
theorem Ar7 {k:Nat} (hk:k<colsOf m) (i:Nat):sumN (colsOf m) (fun c=>rm m i c*nv (redF m) (redP m) k c)=0:=by
 rcases Nat.lt_or_ge i m.length with hi | hi
 ·exact Spn.dot0 ((red_req m).2 i hi) fun j hj=>nv_null (Ab3 m) hk hj
 ·exact Q5 fun c _=>by rw [rm_out hi,Rat.zero_mul]
end
end Go.Proofs.YtfilidfomgfnhaaGreat

namespace Go.Proofs.YtfilidfomgfnhaaGreat
open Go Go.Kx Go.RowKit
theorem rsz1 {L:Nat} (hL:1≤L):Rsz 1 L:=by
 have:=Rsz.int 1 (L:=L) (Nat.lt_of_lt_of_le (by decide) (Nat.pow_le_pow_right (by decide) hL)) hL
 simpa using this
section
variable {m:List (List QV)} {b:List QV}
theorem inv_p (hc:colsOf m=m.length):(invE m).2=redP m:=by
 unfold invE redP
 rw [hc]
 exact (Ag9 (C:=m.length) (fun i k _ hk=>by unfold invF;rw [if_pos hk]) _ (Nat.le_refl _)).2
theorem Ay8 (hc:colsOf m=m.length):invertible m↔(redP m).length=m.length:=by
 unfold invertible
 rw [inv_p hc]
 have:=(Ab3 m).len
 omega
theorem inv_one (h:invertible m) {i k:Nat} (hi:i<m.length) (hk:k<m.length):(invE m).1 i k=idR i k:=by
 have he:Ech m.length m.length (invE m).1 (invE m).2:=P2 ..
 have hl:(invE m).2.length=m.length:=by have:=he.len;unfold invertible at h;omega
 have:=he.one i k hi (by omega)
 rw [he.full hl k hk] at this
 exact this
theorem rm_inv {i k:Nat} (hi:i<m.length) (hk:k<m.length):rm (invM m) i k=(invE m).1 i (m.length+k):=by
 unfold invM
 rw [AQ9,if_pos ⟨hi,hk⟩]
theorem invF_hi {i k:Nat}:invF m i (m.length+k)=idR i k:=by
 unfold invF
 rw [if_neg (by omega),Nat.add_sub_cancel_left]
theorem invF_lo {i k:Nat} (h:k<m.length):invF m i k=rm m i k:=by unfold invF;rw [if_pos h]
theorem sum_id {n:Nat} (t:Nat→Rat) {k:Nat} (hk:k<n):sumN n (fun j=>t j*idR j k)=t k:=by
 rw [J2 (i:=k) (fun j hj hne=>by unfold idR;rw [if_neg hne,Rat.mul_zero]),if_pos hk]
 unfold idR
 rw [if_pos rfl,Rat.mul_one]
/-- the matrix by its inverse -/
theorem As0 (h:invertible m) {i k:Nat} (hi:i<m.length) (hk:k<m.length):sumN m.length (fun j=>rm m i j*rm (invM m) j k)=idR i k:=by
 obtain ⟨t,ht⟩:=(AU9 m.length (m.length+m.length) (invF m) m.length).2 i hi
 have h1:∀ j,j<m.length→rm m i j=t j:=fun j hj=>by
  have:=ht j (by omega)
  rw [invF_lo hj] at this
  rw [this,←sum_id t hj]
  exact B0 fun l hl=>by rw [←inv_one h hl hj];rfl
 have h2:=ht (m.length+k) (by omega)
 rw [invF_hi] at h2
 rw [h2]
 exact B0 fun j hj=>by rw [h1 j hj,rm_inv hj hk];rfl
theorem Aq0 {L n:Nat} (hk:mk_ L m) (hL:1≤L) (hn:m.length≤n):mk_ (bd L n) (invM m):=by
 refine AR2 fun i k hi hk'=>?_
 have h1:=AU8 (C:=m.length+m.length) (f:=invF m) hL (fun i k _ _=>by
  unfold invF
  split
  ·exact hk.rsz hL i k
  ·unfold idR
   split
   ·exact rsz1 hL
   ·exact Rsz.zero hL) m.length (by omega) i (m.length+k) hi (by omega)
 exact h1.mono (AK1 L (Nat.le_trans (P2 m.length (invF m) m.length).len hn))
end
end Go.Proofs.YtfilidfomgfnhaaGreat

namespace Go.Proofs.YtfilidfomgfnhaaGreat
open Go Go.Kx Go.RowKit
theorem L4 (p:List Nat) (i:Nat):freeTo p (i+1)=freeTo p i++if i∈p then [] else [i]:=by
 unfold freeTo
 rw [List.range_succ,List.filter_append]
 by_cases h:i∈p<;>simp [h]
theorem AU4 (p:List Nat) (i:Nat):∀ d,∃ t,freeTo p (i+d)=freeTo p i++t
 | 0=>⟨[],(List.append_nil _).symm⟩
 | d+1=>by
  obtain ⟨t,ht⟩:=AU4 p i d
  exact ⟨t++if i+d∈p then [] else [i+d],by rw [←Nat.add_assoc,L4,ht,List.append_assoc]⟩
theorem As4 {p:List Nat} {i C:Nat} (hi:i<C) (hp:i∉p):(freeTo p C).getD (freeTo p i).length 0=i∧(freeTo p i).length<(freeTo p C).length:=by
 obtain ⟨t,ht⟩:=AU4 p (i+1) (C-(i+1))
 rw [show i+1+(C-(i+1))=C by omega,L4,if_neg hp] at ht
 rw [ht]
 constructor
 ·simp [List.getD_eq_getElem?_getD]
 ·simp
section
variable {m:List (List QV)} {b z:List QV}
end
end Go.Proofs.YtfilidfomgfnhaaGreat

namespace Go.Kx
open Go Go.RowKit
def oN (o:List Int):List Nat:=o.map Int.toNat
def inL (n:NtV) (o:List Int):List Nat:=freeTo (oN o) n.ls.length
theorem AL9 {n:NtV} {o:List Int} (h:outsOk n o):∀ d i,i+d<o.length→o.getD i 0+d≤o.getD (i+d) 0
 | 0,i,_=>by simp
 | d+1,i,hd=>by
  have h1:=AL9 h d i (by omega)
  have h2:=(h (i+(d+1)) hd).2.2 (by omega)
  rw [show i+(d+1)-1=i+d by omega] at h2
  omega
theorem Ab9 {n:NtV} {o:List Int} (h:outsOk n o) {k:Nat}:k∈oN o↔∃ i,i<o.length∧o.getD i 0=k:=by
 unfold oN
 rw [List.mem_map]
 constructor
 ·rintro ⟨x,hx,rfl⟩
  obtain ⟨i,hi⟩:=List.mem_iff_getElem?.1 hx
  have hlt:=(List.getElem?_eq_some_iff.1 hi).1
  have e:o.getD i 0=x:=by rw [List.getD_eq_getElem?_getD,hi];rfl
  have:=h i hlt
  exact ⟨i,hlt,by omega⟩
 ·rintro ⟨i,hi,e⟩
  exact ⟨o.getD i 0,by rw [List.getD_eq_getElem?_getD,List.getElem?_eq_getElem hi];exact List.getElem_mem hi,by omega⟩
end Go.Kx
namespace Go.Proofs.YtfilidfomgfnhaaGreat
open Go Go.Kx Go.RowKit
theorem AT6 {n:NtV} {o:List Int} (h:chkE n≠0):outE n o=chkE n:=by unfold outE;rw [if_pos h]
theorem AR1 {n:NtV} {o:List Int} (h:outE n o=0):chkE n=0∧outsOk n o:=by
 unfold outE at h
 split at h
 ·exact absurd h (by assumption)
 ·split at h
  ·exact ⟨Classical.not_not.1 (by assumption),by assumption⟩
  ·cases h
theorem Aq8 {n:NtV} (h:chkE n=0):1≤n.b∧n.b≤6∧n.ls.length≤10∧chkOk n:=by
 unfold chkE at h
 split at h
 ·cases h
 ·split at h
  ·cases h
  ·split at h
   ·exact ⟨by omega,by omega,by omega,by assumption⟩
   ·cases h
theorem An6:Ent Tryz.prog 70:=A0 Tryz.func70 (by kernel_rfl) rfl
theorem Al2 {S:Nat→Prop} {w:World} {vn vo:Value} {n:NtV} {o:List Int} (hn:eN.R S w vn n) (ho:eI.R S w vo o):CR Tryz.prog 70 #[vn,vo] w (Is (.int .i64 (outE n o))):=by
 obtain ⟨s,rfl,hs,hb⟩:=hn
 have hn:eN.R S w (.agg #[.int .i64 n.b,s]) n:=⟨s,rfl,hs,hb⟩
 obtain ⟨_,_,_,_,hll⟩:=RL.len ho
 obtain ⟨_,_,_,_,hls⟩:=RL.len hs
 refine enter Tryz.func70 rfl Tryz.ntmps70 rfl ?_
 refine .seq (.region (.box rfl rfl fun w1 b2 n1=>.asg rfl rfl (.nil ?_)))
 obtain ⟨e1,k2,hb2,hs1⟩:=n1
 refine .seq (.seq (.region (.ldA ty_N rfl rfl k2 rfl ?_)))
 refine .call _ rfl Aj2 rfl (Ag1 (hn.ext e1)) fun v2 w2 e2 h2=>.asg rfl rfl (.nil ?_)
 subst h2
 have x2:=e1.trans e2
 refine .seq (.region (.mv rfl rfl ?_))
 by_cases hc:chkE n=0
 rotate_left
 ·refine .neqT rfl rfl rfl hc (.nil (.condT rfl (.seq (.region (.mv rfl rfl (.asg rfl rfl (.nil (.ret ?_))))))))
  exact .plain [_] Tryz.results70 ⟨rfl,trivial⟩ ⟨x2,by rw [AT6 hc];rfl⟩
 have hE:outsOk n o→outE n o=0:=fun h=>by unfold outE;rw [if_neg (by simpa using hc),if_pos h]
 have hE1:¬ outsOk n o→outE n o=1:=fun h=>by unfold outE;rw [if_neg (by simpa using hc),if_neg h]
 refine .neqF rfl rfl rfl hc (.nil (.condF rfl (.skip ?_)))
 have k2:=k2.ext e2
 have hs:=hs.ext x2
 have ho:=ho.ext x2
 refine .seq (.seq (.region (.mv rfl rfl (.lenR un_I rfl rfl ho (.mv rfl rfl (.nil ?_))))))
 refine .block (.loop (α:=Nat) (fun i=>[(1,vo),(2,.pointer (some ⟨b2,0,none⟩)),(13,vo),(14,.int .i64 (o.length:Nat)),(15,.int .i64 (i:Nat))]) (fun i W=>W=w2∧i≤o.length∧∀ j,j<i→0≤o.getD j 0∧o.getD j 0<n.ls.length∧(0<j→o.getD (j-1) 0<o.getD j 0)) (fun i=>o.length-i) 0 ?_ ?_ ?_)
 ·exact lkA rfl
 ·exact ⟨rfl,Nat.zero_le _,fun j hj=>absurd hj (Nat.not_lt_zero _)⟩
 rintro i W ⟨rfl,hi,hall⟩
 refine .seq (.region ?_)
 rcases Nat.lt_or_ge i o.length with hlt | hge
 rotate_left
 ·refine .lssF rfl rfl rfl (by omega) (.nil (.seq (.condF rfl (.exit (.seq (.region (.asg rfl rfl (.nil (.ret ?_)))))))))
  exact .plain [_] Tryz.results70 ⟨rfl,trivial⟩ ⟨x2,by rw [hE fun j hj=>hall j (by omega)];rfl⟩
 have hg:o[i]?=some (o.getD i 0):=A9 hlt
 refine .lssT rfl rfl rfl (by omega) (.nil (.seq (.condT rfl (.skip (.seq (.block (.seq (.region (.mv rfl rfl (.ixN (i:=i) un_I E7 rfl rfl ho rfl hg fun q hq=>.ldE (E:=eInt .i64) E7 rfl rfl hq fun e he=>.asg rfl rfl (.asg rfl rfl (.nil (.seq (.region (.mv rfl rfl ?_)))))))))))))))
 obtain ⟨rfl,_⟩:=he
 have hbad:∀ {σ:Env},¬ (0≤o.getD i 0∧o.getD i 0<n.ls.length∧(0<i→o.getD (i-1) 0<o.getD i 0))→Leave Tryz.prog Tryz.f70 43 (fun v w'=>Ext w w'∧Is (.int .i64 (outE n o)) v w') ((4,.int .i64 1)::σ) [] W:=fun h=>.plain [_] Tryz.results70 ⟨rfl,trivial⟩ ⟨x2,by rw [hE1 fun h'=>h (h' i hlt)];rfl⟩
 by_cases h0:o.getD i 0<0
 ·refine .lssT rfl rfl rfl h0 (.mv rfl rfl (.gs rfl rfl rfl rfl rfl (.gs rfl rfl rfl rfl rfl (.gs rfl rfl rfl rfl rfl (.gs rfl rfl rfl rfl rfl (.gs rfl rfl rfl rfl rfl (.pick rfl rfl rfl (.mv rfl rfl (.gs rfl rfl rfl rfl rfl (.gs rfl rfl rfl rfl rfl (.gs rfl rfl rfl rfl rfl ?_)))))))))))
  refine .gu rfl rfl rfl rfl (.gu rfl rfl rfl rfl (.gu rfl rfl rfl rfl (.gu rfl rfl rfl rfl (.gu rfl rfl rfl rfl (.gu rfl rfl rfl rfl (.gu rfl rfl rfl rfl (.gs rfl rfl rfl rfl rfl (.pick rfl rfl rfl (.nil (.condT rfl (.seq (.region (.asg rfl rfl (.nil (.ret ?_)))))))))))))))
  exact hbad (by omega)
 refine .lssF rfl rfl rfl (by omega) (.mv rfl rfl (.gr rfl rfl rfl rfl (.mv rfl rfl (.gr rfl rfl rfl rfl (.fa Q9 rfl rfl (.gr rfl rfl rfl rfl (.ld AB1 rfl rfl k2 rfl (.gr rfl rfl rfl rfl (.lenR U9 rfl rfl hs (.gr rfl rfl rfl rfl ?_))))))))))
 by_cases h1:(n.ls.length:Int)≤o.getD i 0
 ·refine .geqT rfl rfl rfl h1 (.pick rfl rfl rfl (.mv rfl rfl (.gs rfl rfl rfl rfl rfl (.gs rfl rfl rfl rfl rfl (.gs rfl rfl rfl rfl rfl ?_)))))
  refine .gu rfl rfl rfl rfl (.gu rfl rfl rfl rfl (.gu rfl rfl rfl rfl (.gu rfl rfl rfl rfl (.gu rfl rfl rfl rfl (.gu rfl rfl rfl rfl (.gu rfl rfl rfl rfl (.gs rfl rfl rfl rfl rfl (.pick rfl rfl rfl (.nil (.condT rfl (.seq (.region (.asg rfl rfl (.nil (.ret ?_)))))))))))))))
  exact hbad (by omega)
 refine .geqF rfl rfl rfl (by omega) (.pick rfl rfl rfl (.mv rfl rfl (.gr rfl rfl rfl rfl (.mv rfl rfl (.gr rfl rfl rfl rfl ?_)))))
 have hnext:∀ {σ:Env},(0<i→o.getD (i-1) 0<o.getD i 0)→Kx.look σ 1=some vo→Kx.look σ 2=some (.pointer (some ⟨b2,0,none⟩))→Kx.look σ 13=some vo→Kx.look σ 14=some (.int .i64 (o.length:Nat))→∃ i':Nat,(∀ t v,Kx.look [(1,vo),(2,.pointer (some ⟨b2,0,none⟩)),(13,vo),(14,.int .i64 (o.length:Nat)),(15,.int .i64 (i':Nat))] t=some v→Kx.look ((15,.int .i64 ((i:Int)+1))::σ) t=some v)∧(W=W∧i'≤o.length∧∀ j,j<i'→0≤o.getD j 0∧o.getD j 0<n.ls.length∧(0<j→o.getD (j-1) 0<o.getD j 0))∧o.length-i'<o.length-i:=by
  intro σ hlast a1 a2 a3 a4
  refine ⟨i+1,A2 a1 (A2 a2 (A2 a3 (A2 a4 (lkA rfl)))),⟨rfl,hlt,fun j hj=>?_⟩,by omega⟩
  by_cases e:j=i
  ·subst e;exact ⟨by omega,by omega,hlast⟩
  ·exact hall j (by omega)
 by_cases hi0:0<i
 ·have hg':o[i-1]?=some (o.getD (i-1) 0):=A9 (by omega)
  refine .gtrT rfl rfl rfl (by omega) (.gr rfl rfl rfl rfl (.mv rfl rfl (.gr rfl rfl rfl rfl (.mv rfl rfl (.gr rfl rfl rfl rfl (.mv rfl rfl (.gr rfl rfl rfl rfl (.mv rfl rfl (.gr rfl rfl rfl rfl (.sub rfl rfl rfl ?_))))))))))
  rw [wI (by omega),show (i:Int)-1=((i-1:Nat):Int) by omega]
  refine .gr rfl rfl rfl rfl (.ixN (i:=i-1) un_I E7 rfl rfl ho rfl hg' fun q hq=>.gr rfl rfl rfl rfl (.ldE (E:=eInt .i64) E7 rfl rfl hq fun e he=>?_))
  obtain ⟨rfl,_⟩:=he
  by_cases hle:o.getD i 0≤o.getD (i-1) 0
  ·refine .gr rfl rfl rfl rfl (.leqT rfl rfl rfl hle (.gr rfl rfl rfl rfl (.pick rfl rfl rfl (.pick rfl rfl rfl (.nil (.condT rfl (.seq (.region (.asg rfl rfl (.nil (.ret ?_)))))))))))
   exact hbad (fun h=>by have:=h.2.2 hi0;omega)
  ·refine .gr rfl rfl rfl rfl (.leqF rfl rfl rfl (by omega) (.gr rfl rfl rfl rfl (.pick rfl rfl rfl (.pick rfl rfl rfl (.nil (.condF rfl (.skip (.region (.add rfl rfl rfl (.mv rfl rfl (.nil ?_)))))))))))
   rw [wI (by omega)]
   exact ⟨rfl,hnext (fun _=>by omega) rfl rfl rfl rfl⟩
 ·refine .gtrF rfl rfl rfl (by omega) (.gr rfl rfl rfl rfl (.mv rfl rfl (.gs rfl rfl rfl rfl rfl (.gs rfl rfl rfl rfl rfl (.gs rfl rfl rfl rfl rfl (.gs rfl rfl rfl rfl rfl (.gs rfl rfl rfl rfl rfl (.gs rfl rfl rfl rfl rfl (.gs rfl rfl rfl rfl rfl (.gr rfl rfl rfl rfl (.pick rfl rfl rfl (.pick rfl rfl rfl (.nil (.condF rfl (.skip (.region (.add rfl rfl rfl (.mv rfl rfl (.nil ?_)))))))))))))))))))
  rw [wI (by omega)]
  exact ⟨rfl,hnext (fun h=>absurd h hi0) rfl rfl rfl rfl⟩
theorem AQ5:Ent Tryz.prog 151:=A0 Tryz.func151 (by kernel_rfl) rfl
theorem AQ0 {w:World} {vn vo:Value} {x y:Value} (hn:vn=.agg #[x,y]) {a:Option Addr} {m c:Nat} (ho:vo=.slice a m c):CR Tryz.prog 151 #[vn,vo] w (fun v w'=>∃ b1 b2,v=.func (.func 205) #[] #[.pointer (some ⟨b1,0,none⟩),.pointer (some ⟨b2,0,none⟩)] ∧
  Blk w' b1 24 #[x,y]∧Blk w' b2 25 #[vo]∧w.heap.size≤b1∧w.heap.size≤b2):=by
 subst hn;subst ho
 refine enter Tryz.func151 rfl Tryz.ntmps151 rfl ?_
 refine .seq (.region (.box rfl rfl fun w1 b1 n1=>.box rfl rfl fun w2 b2 n2=>.asg rfl rfl (.nil ?_)))
 obtain ⟨e1,k1,hb1,hs1⟩:=n1
 obtain ⟨e2,k2,hb2,hs2⟩:=n2
 refine .seq (.region (.mkf [] [_,_] rfl rfl rfl rfl (.asg rfl rfl (.nil (.ret ?_)))))
 exact .plain [_] Tryz.results151 ⟨rfl,trivial⟩ ⟨e1.trans e2,b1,b2,rfl,k1.ext e2,k2,by omega,by have:=e1.size;omega⟩
theorem BB3:Ent Tryz.prog 205:=A0 Tryz.func205 (by kernel_rfl) rfl
theorem Ay9 {S:Nat→Prop} {n:NtV} {o:List Int} {s vo x:Value} {b1 b2:Nat} (hok:outsOk n o) (hl:n.ls.length≤10):Iter Tryz.prog 205 #[.pointer (some ⟨b1,0,none⟩),.pointer (some ⟨b2,0,none⟩)] (inL n o).length
  (fun k=>[.int .i64 ((inL n o).getD k 0:Nat)]) (fun W=>Blk W b1 24 #[x,s]∧Blk W b2 25 #[vo]∧eLs.R S W s n.ls∧eI.R S W vo o):=by
 intro l J X stJ stX hF hy W hJ
 have hF0:=hF 0 W hJ
 refine enterG Tryz.func205 rfl Tryz.ntmps205 rfl ?_
 refine .seq (.region (.asg rfl rfl (.nil (.seq (.region (.fa Q9 rfl rfl (.ld AB1 rfl rfl hF0.1 rfl (.lenR U9 rfl rfl hF0.2.2.1 (.mv rfl rfl (.nil ?_))))))))))
 refine .block (.loop (α:=Nat×Nat) (fun y=>[(9,.int .i64 (y.1:Nat)),(8,.int .i64 (n.ls.length:Nat)),(4,.int .i64 (y.2:Nat)),(0,.func (.yield l) #[] #[]),(1,.pointer (some ⟨b1,0,none⟩)),(2,.pointer (some ⟨b2,0,none⟩))])
  (fun y W=>J (freeTo (oN o) y.1).length W∧y.1≤n.ls.length∧y.2≤o.length∧(∀ i,i<y.2→o.getD i 0<y.1)∧(y.2<o.length→(y.1:Int)≤o.getD y.2 0)) (fun y=>n.ls.length-y.1) (0,0) ?_ ?_ ?_)
 ·exact lkA rfl
 ·exact ⟨hJ,Nat.zero_le _,Nat.zero_le _,fun i hi=>absurd hi (Nat.not_lt_zero _),fun h=>(hok 0 h).1⟩
 rintro ⟨k,nx⟩ W ⟨hJ,hk,hnx,hlo,hhi⟩
 replace hJ:J (freeTo (oN o) k).length W:=hJ
 replace hk:k≤n.ls.length:=hk
 replace hnx:nx≤o.length:=hnx
 replace hlo:∀ i,i<nx→o.getD i 0<k:=hlo
 replace hhi:nx<o.length→(k:Int)≤o.getD nx 0:=hhi
 obtain ⟨hB1,hB2,hA,hB⟩:=hF _ W hJ
 obtain ⟨_,_,_,_,hll⟩:=RL.len hB
 refine .seq (.region ?_)
 rcases Nat.lt_or_ge k n.ls.length with hlt | hge
 rotate_left
 ·refine .lssF rfl rfl rfl (by omega) (.nil (.seq (.condF rfl (.exit ?_))))
  refine .plain [] Tryz.results205 trivial ?_
  have:k=n.ls.length:=by omega
  subst this;exact .inl hJ
 refine .lssT rfl rfl rfl (by omega) (.nil (.seq (.condT rfl (.skip (.seq (.block (.seq (.region (.mv rfl rfl (.asg rfl rfl (.nil ?_)))))))))))
 refine .mid (α:=Unit) (fun _=>[(9,.int .i64 (k:Nat)),(8,.int .i64 (n.ls.length:Nat)),(4,.int .i64 (nx:Nat)),(5,.int .i64 (k:Nat)),(0,.func (.yield l) #[] #[]),(1,.pointer (some ⟨b1,0,none⟩)),(2,.pointer (some ⟨b2,0,none⟩))]) (fun _ W'=>W'=W∧k∉oN o) ?_ ?_
 ·refine .seq (.region (.mv rfl rfl (.ld ty_I rfl rfl hB2 rfl (.lenR un_I rfl rfl hB ?_))))
  rcases Nat.lt_or_ge nx o.length with hn1 | hn1
  ·have hg:o[nx]?=some (o.getD nx 0):=A9 hn1
   refine .lssT rfl rfl rfl (by omega) (.mv rfl rfl (.gr rfl rfl rfl rfl (.ld ty_I rfl rfl hB2 rfl (.gr rfl rfl rfl rfl (.mv rfl rfl (.gr rfl rfl rfl rfl (.ixN (i:=nx) un_I E7 rfl rfl hB rfl hg fun q hq=>.gr rfl rfl rfl rfl (.ldE (E:=eInt .i64) E7 rfl rfl hq fun e he=>.gr rfl rfl rfl rfl (.mv rfl rfl (.gr rfl rfl rfl rfl ?_))))))))))
   obtain ⟨rfl,_⟩:=he
   have:=hhi hn1
   by_cases he:o.getD nx 0=k
   ·refine .eqlT rfl rfl rfl he (.pick rfl rfl rfl (.nil (.condT rfl (.seq (.region (.mv rfl rfl (.add rfl rfl rfl (.asg rfl rfl (.nil (.exit (.region (.add rfl rfl rfl (.mv rfl rfl (.nil ?_))))))))))))))
    rw [wI (by omega),wI (by omega)]
    refine ⟨rfl,(k+1,nx+1),lkA rfl,⟨?_,hlt,hn1,fun i hi=>?_,fun h=>?_⟩,by show n.ls.length-(k+1)<n.ls.length-k;omega⟩
    ·show J (freeTo (oN o) (k+1)).length W
     rw [L4,if_pos ((Ab9 hok).2 ⟨nx,hn1,he⟩),List.append_nil]
     exact hJ
    ·show o.getD i 0<((k+1:Nat):Int)
     by_cases e:i=nx
     ·subst e;omega
     ·have:=hlo i (by have:i<nx+1:=hi;omega);omega
    ·show ((k+1:Nat):Int)≤o.getD (nx+1) 0
     have:=AL9 hok 1 nx h
     omega
   ·refine .eqlF rfl rfl rfl he (.pick rfl rfl rfl (.nil (.condF rfl (.skip ?_))))
    refine ⟨rfl,(),lkA rfl,rfl,fun hm=>?_⟩
    obtain ⟨i,hi,e⟩:=(Ab9 hok).1 hm
    rcases Nat.lt_or_ge i nx with h | h
    ·have:=hlo i h;omega
    ·have:=AL9 hok (i-nx) nx (by omega)
     rw [show nx+(i-nx)=i by omega] at this
     omega
  ·refine .lssF rfl rfl rfl (by omega) (.mv rfl rfl (.gs rfl rfl rfl rfl rfl (.gs rfl rfl rfl rfl rfl (.gs rfl rfl rfl rfl rfl (.gs rfl rfl rfl rfl rfl (.gs rfl rfl rfl rfl rfl (.gs rfl rfl rfl rfl rfl (.pick rfl rfl rfl (.nil (.condF rfl (.skip ?_)))))))))))
   refine ⟨rfl,(),lkA rfl,rfl,fun hm=>?_⟩
   obtain ⟨i,hi,e⟩:=(Ab9 hok).1 hm
   have:=hlo i (by omega)
   omega
 rintro _ _ ⟨rfl,hno⟩
 obtain ⟨hat,hatl⟩:=As4 (C:=n.ls.length) hlt hno
 have hy':=hy (freeTo (oN o) k).length _ hatl hJ
 dsimp only at hy'
 rw [show (inL n o).getD (freeTo (oN o) k).length 0=k from hat] at hy'
 refine .seq (.region (.mv rfl rfl (.mv rfl rfl ?_)))
 refine .yld (l:=l) [.int .i64 (k:Nat)] (R:=fun v w'=>(v=.bool true∧J ((freeTo (oN o) k).length+1) w')∨(v=.bool false∧X w')) rfl rfl rfl ?_ ?_
 ·refine YieldAt.mono hy' ?_
  rintro e W' (⟨rfl,h⟩ | ⟨rfl,h⟩)
  ·exact ⟨_,rfl,.inl ⟨rfl,h⟩⟩
  ·exact ⟨_,rfl,.inr ⟨rfl,h⟩⟩
 rintro v w' (⟨rfl,h⟩ | ⟨rfl,h⟩)
 ·refine .not_ rfl rfl (.nil (.condF rfl (.skip (.region (.add rfl rfl rfl (.mv rfl rfl (.nil ?_)))))))
  rw [wI (by omega)]
  refine ⟨rfl,(k+1,nx),lkA rfl,⟨?_,hlt,hnx,fun i hi=>?_,fun hn1=>?_⟩,by show n.ls.length-(k+1)<n.ls.length-k;omega⟩
  ·show J (freeTo (oN o) (k+1)).length w'
   rw [L4,if_neg hno,List.length_append]
   exact h
  ·show o.getD i 0<((k+1:Nat):Int)
   have:=hlo i hi;omega
  ·show ((k+1:Nat):Int)≤o.getD nx 0
   have h1:=hhi hn1
   have h2:o.getD nx 0≠k:=fun e=>hno ((Ab9 hok).2 ⟨nx,hn1,e⟩)
   omega
 ·refine .not_ rfl rfl (.nil (.condT rfl (.ret ?_)))
  exact .plain [] Tryz.results205 trivial (.inr h)
theorem AZ9 (p:List Nat) (i:Nat):(freeTo p i).length≤i:=by
 unfold freeTo
 have:=List.length_filter_le (fun k => !(decide (k∈p))) (List.range i)
 simpa using this
theorem AR3 (n:NtV) (o:List Int):(inL n o).length≤n.ls.length:=AZ9 _ _
structure InJ (w:World) (S:Nat→Prop) (b7 b1 b2:Nat) (x s vo:Value) (n:NtV) (o:List Int) (k:Nat) (W:World):Prop where
 low:Below w.heap.size w W
 k1:Blk W b1 24 #[x,s]
 k2:Blk W b2 25 #[vo]
 acc:∃ v,Blk W b7 25 #[v]∧OwnL (eInt .i64) 3 w.heap.size (fun k=>S k∧k≠b7) W v (pInts ((inL n o).take k))
theorem InJ.sft {w0:World} {S:Nat→Prop} {b7 b1 b2:Nat} {x s vo:Value} {n:NtV} {o:List Int} {k D:Nat} {W W':World} (h:InJ w0 S b7 b1 b2 x s vo n o k W) (hs:Sft D W W') (hD:w0.heap.size≤D):InJ w0 S b7 b1 b2 x s vo n o k W':=by
 obtain ⟨v,h1,h2⟩:=h.acc
 exact ⟨h.low.trans (hs.below.mono hD),hs.cells.blk trivial h.k1,hs.cells.blk trivial h.k2,v,hs.cells.blk trivial h1,h2.kp hs.cells⟩
theorem Aj5:zeroOf Tryz.prog 25=some (.slice none 0 0):=by kernel_rfl
theorem Aj1:Ent Tryz.prog 82:=A0 Tryz.func82 (by kernel_rfl) rfl
theorem Ag0 {S:Nat→Prop} {w:World} {vn vo:Value} {n:NtV} {o:List Int} (up:Up S w) (hn:eN.R S w vn n) (ho:eI.R S w vo o):CR Tryz.prog 82 #[vn,vo] w (Two (eI.at S (if outE n o=0 then pInts (inL n o) else [])) (Is (.int .i64 (outE n o)))):=by
 obtain ⟨s,rfl,hs,hb⟩:=hn
 have hn:eN.R S w (.agg #[.int .i64 n.b,s]) n:=⟨s,rfl,hs,hb⟩
 obtain ⟨ao,co,hvo,_⟩:=RL.len ho
 refine enter Tryz.func82 rfl Tryz.ntmps82 rfl ?_
 refine .seq (.region (.box rfl rfl fun w1 b2 n1=>.asg rfl rfl (.asg rfl rfl (.nil ?_))))
 obtain ⟨e1,k2,hb2,hs1⟩:=n1
 refine .seq (.seq (.region (.ldA ty_N rfl rfl k2 rfl (.mv rfl rfl ?_))))
 refine .call _ rfl An6 rfl (Al2 (hn.ext e1) (ho.ext e1)) fun v2 w2 e2 h2=>.asg rfl rfl (.nil ?_)
 subst h2
 have x2:=e1.trans e2
 refine .seq (.region (.mv rfl rfl ?_))
 by_cases hE:outE n o=0
 rotate_left
 ·refine .neqT rfl rfl rfl hE (.nil (.condT rfl (.seq (.region (.mv rfl rfl (.asg rfl rfl (.asg rfl rfl (.nil (.ret ?_)))))))))
  refine .plain [_,_] Tryz.results82 ⟨rfl,rfl,trivial⟩ ⟨x2,_,_,rfl,?_,rfl⟩
  rw [if_neg hE];exact RL.nil
 rw [if_pos hE]
 obtain ⟨hc,hok⟩:=AR1 hE
 obtain ⟨_,_,hl10,_⟩:=Aq8 hc
 refine .neqF rfl rfl rfl hE (.nil (.condF rfl (.skip ?_)))
 refine .seq (.region (.alloc rfl Aj5 fun w3 b7 n3=>.nil ?_))
 obtain ⟨e3,k7,hb7,hs3⟩:=n3
 have x3:=x2.trans e3
 refine .seq (.seq (.region (.ldA ty_N rfl rfl ((k2.ext e2).ext e3) rfl (.mv rfl rfl ?_))))
 refine .call _ rfl AQ5 rfl (AQ0 rfl hvo) fun v4 w4 e4 h4=>.nil ?_
 obtain ⟨p1,p2,rfl,kp1,kp2,hp1,hp2⟩:=h4
 have x4:=x3.trans e4
 have hs4:=e4.size
 have hs2:=e2.size
 have hsL:∀ {W:World},Below w.heap.size w W→eLs.R (fun k=>S k∧k<w.heap.size) W s n.ls:=fun hB=>eLs.keep (fun k c t f hk h=>(hB.block k hk.2).trans h) (ER.lt eLs hs)
 have hoL:∀ {W:World},Below w.heap.size w W→eI.R (fun k=>S k∧k<w.heap.size) W vo o:=fun hB=>eI.keep (fun k c t f hk h=>(hB.block k hk.2).trans h) (ER.lt eI ho)
 refine .block (.range (Ay9 (S:=fun k=>S k∧k<w.heap.size) (n:=n) (o:=o) (s:=s) (vo:=vo) (x:=.int .i64 n.b) hok hl10) rfl BB3 (fun k=>rfl) (by decide)
  (InJ w S b7 p1 p2 (.int .i64 n.b) s vo n o) (fun _ _=>False) (fun k W W' h hs=>h.sft hs x4.size) (fun _ _ _ h _=>h.elim) (fun k W h=>⟨h.k1,h.k2,hsL h.low,hoL h.low⟩) ?_ ?_ ?_ (fun _ _ h=>h.elim))
 ·refine ⟨x4,kp1,kp2,_,k7.ext e4,?_⟩
  rw [List.take_zero];exact OwnL.nil
 ·intro l k W hk hJ
  refine .region (.asg rfl rfl (.nil ⟨rfl,rfl,fun W hJ hsz=>?_⟩))
  obtain ⟨hlow,kp1,kp2,v,k7,hown⟩:=hJ
  have hlw:=hlow.size
  refine .block (.region (.ld ty_I rfl rfl k7 rfl (.mv rfl rfl (.bsl _ rfl rfl Am9 fun W1 by_ ny=>?_))))
  obtain ⟨ey,ky,hby,hsy⟩:=ny
  have hlow1:=hlow.trans (ey.mono hlw)
  have hkl:=AR3 n o
  refine .gv rfl rfl (AM1 (E:=eInt .i64) (base:=w.heap.size) (n:=(((inL n o).getD k 0:Nat):Int)) (e:=.int .i64 (((inL n o).getD k 0:Nat):Int)) (by decide) un_I AT9 rfl rfl rfl (hown.ext ey) ky ⟨rfl,by
    have:(inL n o).getD k 0<n.ls.length:=by
     have hm:(inL n o).getD k 0∈inL n o:=F6 hk
     unfold inL freeTo at hm
     exact List.mem_range.1 (List.mem_filter.1 hm).1
    exact F9.2 (by omega)⟩ (by simp;omega) (by decide) hlow1.size) ?_
  rintro v8 W8 ⟨ho8,hg8⟩
  have hown1:=hown.ext ey
  have k78:=hown1.gblk hg8 (k7.ext ey) (by decide)
  have kp18:=hown1.gblk hg8 (kp1.ext ey) (by decide)
  have kp28:=hown1.gblk hg8 (kp2.ext ey) (by decide)
  have hlow8:=hown1.below hg8 hlow1 hlow1.size
  obtain ⟨a8,c8,hv8⟩:=ho8.slice
  refine .store ty_I rfl rfl k78 (by rw [hv8];rfl) (by simp) (by rw [hv8];simp [one1,Value.cells]) fun W9 k9 u9=>.nil ?_
  refine ⟨((Oth.ext ey).trans (hown1.oth hg8)).trans (Oth.upd u9 k78),u9.below hlow8 (by omega),kp18.upd u9 (by omega),kp28.upd u9 (by omega),v8,by rw [hv8] at k9 ⊢;exact k9,?_⟩
  have:=ho8.upd u9 k78 (by decide) (fun h=>h.2 rfl)
  have htk:pInts ((inL n o).take (k+1))=pInts ((inL n o).take k)++[(((inL n o).getD k 0:Nat):Int)]:=by
   unfold pInts
   rw [List.take_add_one,A9 (z:=0) hk,List.map_append]
   rfl
  rw [htk]
  exact this
 ·intro W hJ hD
  obtain ⟨hlow,kp1,kp2,v,k7,hown⟩:=hJ
  refine .seq (.region (.ld ty_I rfl rfl k7 rfl (.asg rfl rfl (.asg rfl rfl (.nil (.ret ?_))))))
  refine .mark [_,_] Tryz.results82 hD ⟨rfl,rfl,trivial⟩ ⟨Q3 hlow x4.size,_,_,rfl,?_,by rw [hE]⟩
  rw [List.take_of_length_le (Nat.le_refl _)] at hown
  exact (hown.kp (Kp.put hD rfl)).toR up (fun _ h=>h.1)
end Go.Proofs.YtfilidfomgfnhaaGreat

namespace Go.Kx
def dl (a b:Nat):Rat:=if a=b then 1 else 0
theorem dl_self (a:Nat):dl a a=1:=if_pos rfl
theorem dl_ne {a b:Nat} (h:a≠b):dl a b=0:=if_neg h
theorem Ak2 {n a:Nat} (f:Nat→Rat) (h:a<n):sumN n (fun b=>f b*dl a b)=f a:=by
 rw [J2 (i:=a) (fun k _ hne=>by rw [dl_ne (Ne.symm hne),Rat.mul_zero]),if_pos h,dl_self,Rat.mul_one]
theorem rat_sq (x:Rat):0≤x*x:=by
 rcases Rat.le_total (a:=0) (b:=x) with h | h
 ·exact Rat.mul_nonneg h h
 ·have h2:0 ≤ -x:=by grind
  have:=Rat.mul_nonneg h2 h2
  grind
theorem rat_sq0 {x:Rat} (h:x*x=0):x=0:=by
 rcases Rat.mul_eq_zero.1 h with h | h<;>exact h
theorem Ae9 {n:Nat} {f:Nat→Rat} (h:∀ k,k<n→0≤f k):0≤sumN n f:=by
 induction n with
 | zero=>exact Rat.le_refl
 | succ n ih =>
  have h1:=ih fun k hk=>h k (by omega)
  have h2:=h n (by omega)
  unfold sumN
  grind
theorem sumN_le {n:Nat} {f g:Nat→Rat} (h:∀ k,k<n→f k≤g k):sumN n f≤sumN n g:=by
 have:=Ae9 (n:=n) (f:=fun k=>g k-f k) fun k hk=>by have:=h k hk;grind
 rw [AI4] at this
 grind
theorem Ar1 {n:Nat} {f:Nat→Rat} (h:∀ k,k<n→0≤f k) {j:Nat} (hj:j<n):f j≤sumN n f:=by
 have h1:sumN n (fun k=>if k=j then f j else 0)=f j:=by
  rw [J2 (i:=j) (fun k _ hne=>if_neg hne),if_pos hj,if_pos rfl]
 rw [←h1]
 refine sumN_le fun k hk=>?_
 have:=h k hk
 by_cases e:k=j
 ·subst e;rw [if_pos rfl];exact Rat.le_refl
 ·rw [if_neg e];exact this
theorem Ar2 {n:Nat} {f:Nat→Rat} (h:∀ k,k<n→0≤f k) (h0:sumN n f=0) {j:Nat} (hj:j<n):f j=0:=by
 have h1:=Ar1 h hj
 have h2:=h j hj
 rw [h0] at h1
 exact Rat.le_antisymm h1 h2
structure Nw where
 B:Nat
 M:Nat
 F:Nat→Nat
 T:Nat→Nat
 g:Nat→Rat
structure Nw.Ok (n:Nw):Prop where
 f:∀ k,k<n.M→n.F k<n.B
 t:∀ k,k<n.M→n.T k<n.B
 p:∀ k,k<n.M→0≤n.g k
namespace Nw
section
variable (n:Nw)
def inc (k b:Nat):Rat:=dl (n.F k) b-dl (n.T k) b
def fl (θ:Nat→Rat) (k:Nat):Rat:=n.g k*(θ (n.F k)-θ (n.T k))
def off (f:Nat→Rat) (b:Nat):Rat:=sumN n.M fun k=>n.inc k b*f k
def lap (θ:Nat→Rat) (b:Nat):Rat:=n.off (n.fl θ) b
def Lm (b c:Nat):Rat:=sumN n.M fun k=>n.g k*(n.inc k b*n.inc k c)
def clo (D:Nat→Prop):Prop:=∀ k,k<n.M→n.g k≠0→(D (n.F k)↔D (n.T k))
/-- the least bus of the island, with the first lines -/
def rootTo:Nat→Nat→Nat
 | 0,b=>b
 | j+1,b=>if n.g j=0 then rootTo j b else if rootTo j b=max (rootTo j (n.F j)) (rootTo j (n.T j)) then min (rootTo j (n.F j)) (rootTo j (n.T j)) else rootTo j b
def root (b:Nat):Nat:=n.rootTo n.M b
def gm (b c:Nat):Rat:=if n.root b=b then dl b c else n.Lm b c
end
section
variable {n:Nw} {θ φ f:Nat→Rat}
theorem Ao9 (ok:n.Ok) {k:Nat} (hk:k<n.M) (φ:Nat→Rat):sumN n.B (fun b=>φ b*n.inc k b)=φ (n.F k)-φ (n.T k):=by
 have e:sumN n.B (fun b=>φ b*n.inc k b)=sumN n.B (fun b=>φ b*dl (n.F k) b-φ b*dl (n.T k) b):=B0 fun b _=>by unfold inc;grind
 rw [e,AI4,Ak2 φ (ok.f k hk),Ak2 φ (ok.t k hk)]
theorem green (ok:n.Ok) (φ f:Nat→Rat):sumN n.B (fun b=>φ b*n.off f b)=sumN n.M fun k=>(φ (n.F k)-φ (n.T k))*f k:=by
 have e:sumN n.B (fun b=>φ b*n.off f b)=sumN n.B (fun b=>sumN n.M fun k=>φ b*n.inc k b*f k):=B0 fun b _=>by
  unfold off
  rw [←AB3]
  exact B0 fun k _=>by grind
 rw [e,AD2]
 refine B0 fun k hk=>?_
 rw [AL5,Ao9 ok hk]
theorem lap_sum (ok:n.Ok) (θ:Nat→Rat) (b:Nat):sumN n.B (fun c=>n.Lm b c*θ c)=n.lap θ b:=by
 have e:sumN n.B (fun c=>n.Lm b c*θ c)=sumN n.B (fun c=>sumN n.M fun k=>n.g k*n.inc k b*(θ c*n.inc k c)):=B0 fun c _=>by
  unfold Lm
  rw [←AL5]
  exact B0 fun k _=>by grind
 rw [e,AD2]
 unfold lap off
 refine B0 fun k hk=>?_
 rw [AB3,Ao9 ok hk]
 unfold fl
 grind
/-- no power, no differences -/
theorem rigid (ok:n.Ok) {D:Nat→Prop} (hD:n.clo D) (h:∀ b,b<n.B→D b→θ b*n.lap θ b=0):∀ k,k<n.M→n.g k≠0→D (n.F k)→θ (n.F k)=θ (n.T k):=by
 classical
 have e:=green ok (fun b=>if D b then θ b else 0) (n.fl θ)
 have e0:sumN n.B (fun b=>(if D b then θ b else 0)*n.off (n.fl θ) b)=0:=Q5 fun b hb=>by
  by_cases hd:D b
  ·rw [if_pos hd];exact h b hb hd
  ·rw [if_neg hd,Rat.zero_mul]
 rw [e0] at e
 have hterm:∀ k,k<n.M→((if D (n.F k) then θ (n.F k) else 0)-(if D (n.T k) then θ (n.T k) else 0))*n.fl θ k=if D (n.F k) then n.g k*((θ (n.F k)-θ (n.T k))*(θ (n.F k)-θ (n.T k))) else 0:=by
  intro k hk
  by_cases hg:n.g k=0
  ·unfold fl
   rw [hg]
   split<;>grind
  ·have:=hD k hk hg
   by_cases hd:D (n.F k)
   ·rw [if_pos hd,if_pos (this.1 hd),if_pos hd]
    unfold fl
    grind
   ·rw [if_neg hd,if_neg (fun x=>hd (this.2 x)),if_neg hd]
    grind
 intro k hk hg hd
 have hn:∀ k,k<n.M→0≤((if D (n.F k) then θ (n.F k) else 0)-(if D (n.T k) then θ (n.T k) else 0))*n.fl θ k:=fun k hk=>by
  rw [hterm k hk]
  split
  ·exact Rat.mul_nonneg (ok.p k hk) (rat_sq _)
  ·exact Rat.le_refl
 have h0:=Ar2 hn e.symm hk
 rw [hterm k hk,if_pos hd] at h0
 rcases Rat.mul_eq_zero.1 h0 with h0 | h0
 ·exact absurd h0 hg
 ·have:=rat_sq0 h0
  grind
/-- what no line sees is the same all over an island -/
theorem Ap3 {θ:Nat→Rat}:∀ j,(∀ k,k<j→n.g k≠0→θ (n.F k)=θ (n.T k))→∀ b,θ (n.rootTo j b)=θ b
 | 0,_,b=>rfl
 | j+1,h,b=>by
  have ih:=Ap3 j fun k hk=>h k (by omega)
  unfold rootTo
  split
  ·exact ih b
  ·rename_i hg
   split
   ·rename_i e
    have h1:=h j (by omega) hg
    have hF:=ih (n.F j)
    have hT:=ih (n.T j)
    have hb:=ih b
    have h2:θ (max (n.rootTo j (n.F j)) (n.rootTo j (n.T j)))=θ (n.F j):=by
     rcases Nat.le_total (n.rootTo j (n.F j)) (n.rootTo j (n.T j)) with h | h
     ·rw [Nat.max_eq_right h,hT,h1]
     ·rw [Nat.max_eq_left h,hF]
    have h3:θ (min (n.rootTo j (n.F j)) (n.rootTo j (n.T j)))=θ (n.F j):=by
     rcases Nat.le_total (n.rootTo j (n.F j)) (n.rootTo j (n.T j)) with h | h
     ·rw [Nat.min_eq_left h,hF]
     ·rw [Nat.min_eq_right h,hT,h1]
    rw [h3,←h2,←e,hb]
   ·exact ih b
theorem AY9:∀ j b,n.rootTo j b≤b
 | 0,b=>Nat.le_refl b
 | j+1,b=>by
  have ih:=AY9 j
  have:=ih b
  unfold rootTo
  split
  ·exact this
  ·split
   ·rename_i e;omega
   ·exact this
theorem AN4:∀ j b,n.rootTo j (n.rootTo j b)=n.rootTo j b
 | 0,b=>rfl
 | j+1,b=>by
  have ih:=AN4 j
  have ib:=ih b
  have iF:=ih (n.F j)
  have iT:=ih (n.T j)
  by_cases hg:n.g j=0
  ·have e:∀ b,n.rootTo (j+1) b=n.rootTo j b:=fun b=>by rw [rootTo,if_pos hg]
   rw [e,e];exact ib
  ·have e:∀ b,n.rootTo (j+1) b=if n.rootTo j b=max (n.rootTo j (n.F j)) (n.rootTo j (n.T j)) then min (n.rootTo j (n.F j)) (n.rootTo j (n.T j)) else n.rootTo j b:=fun b=>by rw [rootTo,if_neg hg]
   rw [e b]
   split
   ·rw [e]
    rcases Nat.le_total (n.rootTo j (n.F j)) (n.rootTo j (n.T j)) with h | h
    ·rw [Nat.min_eq_left h,Nat.max_eq_right h,iF]
     split
     ·rfl
     ·rfl
    ·rw [Nat.min_eq_right h,Nat.max_eq_left h,iT]
     split
     ·rfl
     ·rfl
   ·rename_i hne
    rw [e,ib,if_neg hne]
theorem root_le (b:Nat):n.root b≤b:=AY9 _ b
theorem root_root (b:Nat):n.root (n.root b)=n.root b:=AN4 _ b
theorem Ak5 (h:∀ k,k<n.M→n.g k≠0→θ (n.F k)=θ (n.T k)) (b:Nat):θ (n.root b)=θ b:=Ap3 _ h b
theorem fl_out {k:Nat} (h:n.g k=0):n.fl θ k=0:=by unfold fl;rw [h,Rat.zero_mul]
/-- the equations with the reference buses have no other solution than nothing -/
theorem ker0 (ok:n.Ok) (h:∀ b,b<n.B→if n.root b=b then θ b=0 else n.lap θ b=0):∀ b,b<n.B→θ b=0:=by
 have hr:=rigid (θ:=θ) ok (D:=fun _=>True) (fun _ _ _=>Iff.rfl) fun b hb _=>by
  have:=h b hb
  split at this
  ·rw [this,Rat.zero_mul]
  ·rw [this,Rat.mul_zero]
 intro b hb
 rw [←Ak5 (fun k hk hg=>hr k hk hg trivial) b]
 have hle:=root_le (n:=n) b
 have:=h (n.root b) (by omega)
 rw [if_pos (root_root b)] at this
 exact this
theorem gm_sum (ok:n.Ok) (θ:Nat→Rat) {b:Nat} (hb:b<n.B):sumN n.B (fun c=>n.gm b c*θ c)=if n.root b=b then θ b else n.lap θ b:=by
 unfold gm
 split
 ·rw [←Ak2 θ hb]
  exact B0 fun c _=>by grind
 ·exact lap_sum ok θ b
theorem lap_sub (b:Nat):n.lap (fun c=>θ c-φ c) b=n.lap θ b-n.lap φ b:=by
 unfold lap off
 rw [←AI4]
 exact B0 fun k _=>by unfold fl;grind
/-- angles are known by their outflow and by the reference buses -/
theorem uniq (ok:n.Ok) (h:∀ b,b<n.B→if n.root b=b then θ b=φ b else n.lap θ b=n.lap φ b):∀ b,b<n.B→θ b=φ b:=by
 intro b hb
 have:=ker0 (θ:=fun c=>θ c-φ c) ok (fun b hb=>by
  have:=h b hb
  split at this
  ·rw [if_pos (by assumption),this];grind
  ·rw [if_neg (by assumption),lap_sub,this];grind) b hb
 grind
end
end Nw
end Go.Kx

namespace Go.Kx
open Go Go.RowKit
def ln0:LnV:=⟨0,0,1,0⟩
/-- the network as numbers -/
def nwOf (n:NtV) (o:List Int):Nw where
 B:=n.b.toNat
 M:=n.ls.length
 F:=fun k=>(n.ls.getD k ln0).f.toNat
 T:=fun k=>(n.ls.getD k ln0).t.toNat
 g:=fun k=>if k∈oN o then 0 else ((n.ls.getD k ln0).x:Rat)⁻¹
def tabI (n:Nat) (p:Nat→Nat):List Int:=(List.range n).map fun b=>((p b:Nat):Int)
theorem O9 (n:Nat) (p:Nat→Nat):(tabI n p).length=n:=by simp [tabI]
theorem AI3 {n i:Nat} {p:Nat→Nat} (h:i<n):(tabI n p)[i]?=some ((p i:Nat):Int):=by unfold tabI;rw [List.getElem?_map,List.getElem?_range h];rfl
theorem Aw5 {n i v:Nat} {p:Nat→Nat}:(tabI n p).set i ((v:Nat):Int)=tabI n fun b=>if b=i then v else p b:=by
 apply List.ext_getElem?
 intro j
 rw [List.getElem?_set]
 unfold tabI
 rw [List.length_map,List.length_range,List.getElem?_map,List.getElem?_map]
 by_cases hj:i=j
 ·subst hj
  rw [if_pos rfl]
  by_cases h:i<n
  ·rw [if_pos h,List.getElem?_range h];simp
  ·rw [if_neg h,List.getElem?_eq_none (by simpa using h)];rfl
 ·rw [if_neg hj]
  by_cases h:j<n
  ·rw [List.getElem?_range h];simp [Ne.symm hj]
  ·rw [List.getElem?_eq_none (by simpa using h)];rfl
/-- climbing p leads to R -/
def Clm (B:Nat) (p R:Nat→Nat):Prop:=∀ b,b<B→p b≤b∧(p b=b→R b=b)∧(p b≠b→R b=R (p b))
def Nw.stepR (n:Nw) (R:Nat→Nat) (k:Nat):Nat→Nat:=fun b=>if R b=max (R (n.F k)) (R (n.T k)) then min (R (n.F k)) (R (n.T k)) else R b
def Nw.rootF (n:Nw) (l:List Nat):Nat→Nat:=l.foldl n.stepR id
theorem Nw.rootF_snoc (n:Nw) (l:List Nat) (k:Nat):n.rootF (l++[k])=n.stepR (n.rootF l) k:=by unfold Nw.rootF;rw [List.foldl_append];rfl
theorem Nw.rootF_free {n:Nw} {p:List Nat}:∀ j,(∀ k,k<j→(n.g k=0↔k∈p))→n.rootTo j=n.rootF (freeTo p j)
 | 0,_=>rfl
 | j+1,h=>by
  have ih:=Nw.rootF_free j fun k hk=>h k (by omega)
  have hj:=h j (by omega)
  rw [Go.Proofs.YtfilidfomgfnhaaGreat.L4]
  funext b
  rw [Nw.rootTo]
  by_cases hg:n.g j=0
  ·rw [if_pos hg,if_pos (hj.1 hg),List.append_nil,ih]
  ·rw [if_neg hg,if_neg (fun h=>hg (hj.2 h)),Nw.rootF_snoc,←ih];rfl
structure Idm (R:Nat→Nat):Prop where
 rr:∀ b,R (R b)=R b
 le:∀ b,R b≤b
theorem Idm.step {n:Nw} {R:Nat→Nat} (h:Idm R) (k:Nat):Idm (n.stepR R k):=by
 have hF:=h.rr (n.F k)
 have hT:=h.rr (n.T k)
 unfold Nw.stepR
 generalize R (n.F k)=a at *
 generalize R (n.T k)=c at *
 have hm:R (min a c)=min a c:=by
  rcases Nat.le_total a c with h | h
  ·rw [Nat.min_eq_left h,hF]
  ·rw [Nat.min_eq_right h,hT]
 refine ⟨fun b=>?_,fun b=>?_⟩
 ·by_cases hb:R b=max a c
  ·rw [if_pos hb,hm]
   split
   ·rfl
   ·rfl
  ·rw [if_neg hb,h.rr,if_neg hb]
 ·have:=h.le b
  split
  ·omega
  ·exact this
theorem Nw.rootF_idm (n:Nw) (l:List Nat):Idm (n.rootF l):=by
 unfold Nw.rootF
 have:∀ (l:List Nat) (R:Nat→Nat),Idm R→Idm (l.foldl n.stepR R):=by
  intro l
  induction l with
  | nil=>exact fun R h=>h
  | cons k l ih=>exact fun R h=>ih _ (h.step k)
 exact this l id ⟨fun _=>rfl,fun b=>Nat.le_refl b⟩
theorem Clm.step {n:Nw} {B k:Nat} {p R:Nat→Nat} (h:Clm B p R) (hi:Idm R):Clm B (fun b=>if b=max (R (n.F k)) (R (n.T k)) then min (R (n.F k)) (R (n.T k)) else p b) (n.stepR R k):=by
 have iF:=hi.rr (n.F k)
 have iT:=hi.rr (n.T k)
 unfold Nw.stepR
 generalize R (n.F k)=a at *
 generalize R (n.T k)=c at *
 have hM:R (max a c)=max a c:=by
  rcases Nat.le_total a c with h | h
  ·rw [Nat.max_eq_right h,iT]
  ·rw [Nat.max_eq_left h,iF]
 have hm:R (min a c)=min a c:=by
  rcases Nat.le_total a c with h | h
  ·rw [Nat.min_eq_left h,iF]
  ·rw [Nat.min_eq_right h,iT]
 intro b hb
 obtain ⟨h1,h2,h3⟩:=h b hb
 dsimp only
 by_cases hbM:b=max a c
 ·subst hbM
  rw [if_pos rfl]
  refine ⟨by omega,fun h=>?_,fun h=>?_⟩
  ·rw [hM,if_pos rfl];exact h
  ·rw [hM,hm,if_pos rfl,if_neg h]
 ·rw [if_neg hbM]
  refine ⟨h1,fun h=>?_,fun h=>?_⟩
  ·rw [h2 h,if_neg hbM]
  ·rw [h3 h]
/-- the number of an island -/
def Nw.lab (n:Nw) (b:Nat):Nat:=((List.range (n.root b)).filter fun r=>decide (n.root r=r)).length
def Nw.refs (n:Nw):List Nat:=(List.range n.B).filter fun r=>decide (n.root r=r)
def Nw.cnt (n:Nw) (b:Nat):Nat:=((List.range b).filter fun r=>decide (n.root r=r)).length
theorem Nw.cnt_succ (n:Nw) (b:Nat):n.cnt (b+1)=n.cnt b+if n.root b=b then 1 else 0:=by
 unfold Nw.cnt
 rw [List.range_succ,List.filter_append,List.length_append]
 by_cases h:n.root b=b
 ·simp [h]
 ·simp [h]
theorem Nw.cnt_le (n:Nw) (b:Nat):n.cnt b≤b:=by
 unfold Nw.cnt
 have:=List.length_filter_le (fun r=>decide (n.root r=r)) (List.range b)
 simpa using this
theorem Nw.lab_root (n:Nw) {b:Nat} (h:n.root b=b):n.lab b=n.cnt b:=by unfold Nw.lab Nw.cnt;rw [h]
theorem Nw.lab_of (n:Nw) (b:Nat):n.lab b=n.lab (n.root b):=by unfold Nw.lab;rw [Nw.root_root]
theorem Nw.lab_le (n:Nw) (b:Nat):n.lab b≤b:=Nat.le_trans (n.cnt_le _) (Nw.root_le b)
def lnI (l:LnV):Nat→Int
 | 0=>l.f
 | 1=>l.t
 | 2=>l.x
 | _=>l.c
theorem PtrTo.ln {S:Nat→Prop} {w:World} {p:Addr} {l:LnV} (h:PtrTo eL S w p l) (i:Nat) (hi:i<4):PtrTo (eInt .i64) S w (p.add i) (lnI l i):=by
 obtain ⟨e,⟨rfl,h1,h2,h3,h4⟩,hS,hc⟩:=h
 refine ⟨.int .i64 (lnI l i),⟨rfl,?_⟩,by rw [H4];exact hS,fun j u hu=>?_⟩
 ·match i with
  | 0=>exact h1
  | 1=>exact h2
  | 2=>exact h3
  | 3=>exact h4
 ·have hj:j=0:=by
   cases j with
   | zero=>rfl
   | succ j=>simp [Value.cells] at hu
  subst hj
  rw [AK2]
  refine hc _ u ?_
  match i with
  | 0=>simpa [Value.cells,lnI] using hu
  | 1=>simpa [Value.cells,lnI] using hu
  | 2=>simpa [Value.cells,lnI] using hu
  | 3=>simpa [Value.cells,lnI] using hu
section
variable {P:Program} {σ:Env} {w:World} {d:Option Tmp} {ty:TypeId} {pos:String} {af:Array Edge} {g:Option (Nat×Bool)} {S:Nat→Prop}
theorem Ay0 {s:TypeId} {x:Operand} {i off:Nat} {u:Value} {l:LnV} (hf:fldOf P s i=some off) (hx:ev σ x=some u) (hp:Ptr eL S l u w) (ho:off<4):Gv P ⟨d,.fieldAddr s x i,ty,pos,af,g⟩ σ w fun v' w'=>Ext w w'∧Sp.ok (.inr (Ptr (eInt .i64) S (lnI l off))) v' w':=by
 obtain ⟨p,rfl,hp⟩:=hp
 exact K4 (v_faP hf hx) ⟨_,rfl,hp.ln off ho⟩ (fun _ _ _ e ⟨p,h1,h2⟩=>⟨p,h1,h2.ext e⟩)
end
section
variable {P:Program} {ro:Option Nat} {N:Nat} {ds:List Deferred} {ops:Array Oper} {K:Env→World→Prop} {rest:List Oper} {σ:Env} {w:World} {d:Tmp} {ty:TypeId} {pos:String} {af:Array Edge} {S:Nat→Prop}
end
end Go.Kx
namespace Go.Proofs.YtfilidfomgfnhaaGreat
open Go Go.Kx Go.RowKit
/-- what a net that was found good is like -/
structure nwOk (n:NtV) (o:List Int):Prop where
 b:n.b=((nwOf n o).B:Nat)
 b1:1≤(nwOf n o).B
 b6:(nwOf n o).B≤6
 m:(nwOf n o).M≤10
 fI:∀ k,k<(nwOf n o).M→(n.ls.getD k ln0).f=((nwOf n o).F k:Nat)
 tI:∀ k,k<(nwOf n o).M→(n.ls.getD k ln0).t=((nwOf n o).T k:Nat)
 f:∀ k,k<(nwOf n o).M→(nwOf n o).F k<(nwOf n o).B
 t:∀ k,k<(nwOf n o).M→(nwOf n o).T k<(nwOf n o).B
 ne:∀ k,k<(nwOf n o).M→(nwOf n o).F k≠(nwOf n o).T k
 x:∀ k,k<(nwOf n o).M→1≤(n.ls.getD k ln0).x∧(n.ls.getD k ln0).x≤1000
 c:∀ k,k<(nwOf n o).M→0≤(n.ls.getD k ln0).c∧(n.ls.getD k ln0).c≤1000000
 outs:outsOk n o
theorem AF2 {n:NtV} {o:List Int} (h:outE n o=0):nwOk n o:=by
 obtain ⟨hc,ho⟩:=AR1 h
 obtain ⟨h1,h6,h10,hck⟩:=Aq8 hc
 have hB:n.b=((n.b.toNat:Nat):Int):=by omega
 have hl:∀ k,k<n.ls.length→∀ i,i<5→ck i n.b (n.ls.getD k ln0)=true:=fun k hk=>hck k hk _ (A9 hk)
 refine ⟨hB,by show 1≤n.b.toNat;omega,by show n.b.toNat≤6;omega,h10,fun k hk=>?_,fun k hk=>?_,fun k hk=>?_,fun k hk=>?_,fun k hk=>?_,fun k hk=>?_,fun k hk=>?_,ho⟩
 all_goals
  have c0:=hl k hk 0 (by decide)
  have c1:=hl k hk 1 (by decide)
  have c2:=hl k hk 2 (by decide)
  have c3:=hl k hk 3 (by decide)
  have c4:=hl k hk 4 (by decide)
  simp [ck] at c0 c1 c2 c3 c4
 ·show (n.ls.getD k ln0).f=(((n.ls.getD k ln0).f.toNat:Nat):Int)
  simp;omega
 ·show (n.ls.getD k ln0).t=(((n.ls.getD k ln0).t.toNat:Nat):Int)
  simp;omega
 ·show (n.ls.getD k ln0).f.toNat<n.b.toNat
  simp;omega
 ·show (n.ls.getD k ln0).t.toNat<n.b.toNat
  simp;omega
 ·show (n.ls.getD k ln0).f.toNat≠(n.ls.getD k ln0).t.toNat
  simp;omega
 ·simpa using c3
 ·simpa using c4
theorem nwOk.g0 {n:NtV} {o:List Int} (h:nwOk n o) {k:Nat} (hk:k<(nwOf n o).M):(nwOf n o).g k=0↔k∈oN o:=by
 show (if k∈oN o then (0:Rat) else ((n.ls.getD k ln0).x:Rat)⁻¹)=0↔_
 constructor
 ·intro h0
  by_cases hm:k∈oN o
  ·exact hm
  ·rw [if_neg hm] at h0
   have hx:=(h.x k hk).1
   have hne:((n.ls.getD k ln0).x:Rat)≠0:=fun e=>by
    have:(n.ls.getD k ln0).x=0:=by exact_mod_cast e
    omega
   have h2:=Rat.mul_inv_cancel _ hne
   rw [h0,Rat.mul_zero] at h2
   exact absurd h2 (by decide)
 ·intro hm;rw [if_pos hm]
theorem nwOk.ok {n:NtV} {o:List Int} (h:nwOk n o):(nwOf n o).Ok:=by
 refine ⟨h.f,h.t,fun k hk=>?_⟩
 show (0:Rat)≤if k∈oN o then (0:Rat) else ((n.ls.getD k ln0).x:Rat)⁻¹
 split
 ·exact Rat.le_refl
 ·have hx:=(h.x k hk).1
  exact Rat.le_of_lt (Rat.inv_pos.2 (by exact_mod_cast (by omega:0<(n.ls.getD k ln0).x)))
theorem An9:Ent Tryz.prog 125:=A0 Tryz.func125 (by kernel_rfl) rfl
theorem Am2 {w:World} {b8 g B b:Nat} {p R:Nat→Nat} (k8:Blk w b8 25 #[.slice (some ⟨g,0,none⟩) B B]) (hf:FB (eInt .i64) 3 (fun _=>True) w g (tabI B p)) (hp:Clm B p R) (hb:b<B) :
  CR Tryz.prog 125 #[.int .i64 (b:Nat),.pointer (some ⟨b8,0,none⟩)] w (Is (.int .i64 (R b:Nat))):=by
 refine enter Tryz.func125 rfl Tryz.ntmps125 rfl ?_
 refine .seq (.region (.asg rfl rfl (.nil (.scope (.seq (.label (.seq ?_)))))))
 refine .block (.loop (α:=Nat) (fun x=>[(0,.int .i64 (x:Nat)),(1,.pointer (some ⟨b8,0,none⟩))]) (fun x W=>W=w∧x<B∧R x=R b) (fun x=>x) b ?_ ?_ ?_)
 ·exact lkA rfl
 ·exact ⟨rfl,hb,rfl⟩
 rintro x W ⟨rfl,hx,hR⟩
 obtain ⟨h1,h2,h3⟩:=hp x hx
 refine .block (.seq (.region (.ld ty_I rfl rfl k8 rfl (.mv rfl rfl (.ixB (i:=x) un_I E7 rfl rfl rfl hx (.ldF (E:=eInt .i64) (i:=x) (by decide) E7 rfl rfl (Nat.zero_add _) hf (AI3 hx) fun e he=>.asg rfl rfl (.nil (.seq (.region (.mv rfl rfl (.nil ?_)))))))))))
 obtain ⟨rfl,_⟩:=he
 refine .block (.seq (.region (.mv rfl rfl ?_)))
 by_cases hpx:p x=x
 ·refine .eqlT rfl rfl rfl (by omega) (.asg rfl rfl (.nil (.condT rfl (.exit (.seq (.region (.mv rfl rfl (.asg rfl rfl (.nil (.ret ?_))))))))))
  exact .plain [_] Tryz.results125 ⟨rfl,trivial⟩ ⟨Ext.refl _,by rw [←hR,h2 hpx];rfl⟩
 ·refine .eqlF rfl rfl rfl (by omega) (.asg rfl rfl (.nil (.condF rfl (.region (.mv rfl rfl (.asg rfl rfl (.nil ?_)))))))
  exact ⟨rfl,p x,lkA rfl,⟨rfl,by omega,by rw [←h3 hpx];exact hR⟩,by omega⟩
end Go.Proofs.YtfilidfomgfnhaaGreat
