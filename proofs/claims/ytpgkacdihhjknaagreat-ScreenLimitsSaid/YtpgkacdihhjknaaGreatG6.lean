/-
  What the claim leans on.
-/
import Derived.Test.YtpgkacdihhjknaaGreatG5
set_option linter.unusedVariables false
namespace Go.Kx
open Go Go.RowKit
def ln0:LnV:=⟨0,0,1,0⟩
def nwOf (n:NtV) (o:List Int):Nw where
 B:=n.b.toNat
 M:=n.ls.length
 F:=fun k=>(n.ls.getD k ln0).f.toNat
 T:=fun k=>(n.ls.getD k ln0).t.toNat
 g:=fun k=>if k∈oN o then 0 else ((n.ls.getD k ln0).x:Rat)⁻¹
def tabI (n:Nat) (p:Nat->Nat):List Int:=(List.range n).map fun b=>((p b:Nat):Int)
theorem L4 (n:Nat) (p:Nat->Nat):(tabI n p).length=n:=by simp [tabI]
theorem AC2 {n i:Nat} {p:Nat->Nat} (h:i<n):(tabI n p)[i]?=some ((p i:Nat):Int):=by unfold tabI;rw [List.getElem?_map,List.getElem?_range h];rfl
theorem BG4 {n i v:Nat} {p:Nat->Nat}:(tabI n p).set i ((v:Nat):Int)=tabI n fun b=>if b=i then v else p b:=by
 apply List.ext_getElem?
 intro j
 rw [List.getElem?_set]
 unfold tabI
 rw [List.length_map,List.length_range,List.getElem?_map,List.getElem?_map]
 by_cases hj:i=j
 ·subst hj
  rw [if_pos rfl]
  by_cases h:i<n
  ·rw [if_pos h,List.getElem?_range h];simp
  ·rw [if_neg h,List.getElem?_eq_none (by simpa using h)];rfl
 ·rw [if_neg hj]
  by_cases h:j<n
  ·rw [List.getElem?_range h];simp [Ne.symm hj]
  ·rw [List.getElem?_eq_none (by simpa using h)];rfl
def Clm (B:Nat) (p R:Nat->Nat):Prop:=∀ b,b<B->p b<=b/\(p b=b->R b=b)/\(p b≠b->R b=R (p b))
def Nw.stepR (n:Nw) (R:Nat->Nat) (k:Nat):Nat->Nat:=fun b=>if R b=max (R (n.F k)) (R (n.T k)) then min (R (n.F k)) (R (n.T k)) else R b
def Nw.rootF (n:Nw) (l:List Nat):Nat->Nat:=l.foldl n.stepR id
theorem Nw.rootF_snoc (n:Nw) (l:List Nat) (k:Nat):n.rootF (l++[k])=n.stepR (n.rootF l) k:=by unfold Nw.rootF;rw [List.foldl_append];rfl
theorem Nw.rootF_free {n:Nw} {p:List Nat}:∀ j,(∀ k,k<j->(n.g k=0<->k∈p))->n.rootTo j=n.rootF (freeTo p j)
 | 0,_=>rfl
 | j+1,h=>by
  have ih:=Nw.rootF_free j fun k hk=>h k (by omega)
  have hj:=h j (by omega)
  rw [Go.Proofs.YtpgkacdihhjknaaGreat.L8]
  funext b
  rw [Nw.rootTo]
  by_cases hg:n.g j=0
  ·rw [if_pos hg,if_pos (hj.1 hg),List.append_nil,ih]
  ·rw [if_neg hg,if_neg (fun h=>hg (hj.2 h)),Nw.rootF_snoc,<-ih];rfl
structure Idm (R:Nat->Nat):Prop where
 rr:∀ b,R (R b)=R b
 le:∀ b,R b<=b
theorem Idm.step {n:Nw} {R:Nat->Nat} (h:Idm R) (k:Nat):Idm (n.stepR R k):=by
 have hF:=h.rr (n.F k)
 have hT:=h.rr (n.T k)
 unfold Nw.stepR
 generalize R (n.F k)=a at *
 generalize R (n.T k)=c at *
 have hm:R (min a c)=min a c:=by
  rcases Nat.le_total a c with h | h
  ·rw [Nat.min_eq_left h,hF]
  ·rw [Nat.min_eq_right h,hT]
 refine ⟨fun b=>?_,fun b=>?_⟩
 ·by_cases hb:R b=max a c
  ·rw [if_pos hb,hm]
   split
   ·rfl
   ·rfl
  ·rw [if_neg hb,h.rr,if_neg hb]
 ·have:=h.le b
  split
  ·omega
  ·exact this
theorem Nw.rootF_idm (n:Nw) (l:List Nat):Idm (n.rootF l):=by
 unfold Nw.rootF
 have:∀ (l:List Nat) (R:Nat->Nat),Idm R->Idm (l.foldl n.stepR R):=by
  intro l
  induction l with
  | nil=>exact fun R h=>h
  | cons k l ih=>exact fun R h=>ih _ (h.step k)
 exact this l id ⟨fun _=>rfl,fun b=>Nat.le_refl b⟩
theorem Clm.step {n:Nw} {B k:Nat} {p R:Nat->Nat} (h:Clm B p R) (hi:Idm R):Clm B (fun b=>if b=max (R (n.F k)) (R (n.T k)) then min (R (n.F k)) (R (n.T k)) else p b) (n.stepR R k):=by
 have iF:=hi.rr (n.F k)
 have iT:=hi.rr (n.T k)
 unfold Nw.stepR
 generalize R (n.F k)=a at *
 generalize R (n.T k)=c at *
 have hM:R (max a c)=max a c:=by
  rcases Nat.le_total a c with h | h
  ·rw [Nat.max_eq_right h,iT]
  ·rw [Nat.max_eq_left h,iF]
 have hm:R (min a c)=min a c:=by
  rcases Nat.le_total a c with h | h
  ·rw [Nat.min_eq_left h,iF]
  ·rw [Nat.min_eq_right h,iT]
 intro b hb
 obtain ⟨h1,h2,h3⟩:=h b hb
 dsimp only
 by_cases hbM:b=max a c
 ·subst hbM
  rw [if_pos rfl]
  refine ⟨by omega,fun h=>?_,fun h=>?_⟩
  ·rw [hM,if_pos rfl];exact h
  ·rw [hM,hm,if_pos rfl,if_neg h]
 ·rw [if_neg hbM]
  refine ⟨h1,fun h=>?_,fun h=>?_⟩
  ·rw [h2 h,if_neg hbM]
  ·rw [h3 h]
def Nw.lab (n:Nw) (b:Nat):Nat:=((List.range (n.root b)).filter fun r=>decide (n.root r=r)).length
def Nw.refs (n:Nw):List Nat:=(List.range n.B).filter fun r=>decide (n.root r=r)
def Nw.cnt (n:Nw) (b:Nat):Nat:=((List.range b).filter fun r=>decide (n.root r=r)).length
theorem Nw.cnt_succ (n:Nw) (b:Nat):n.cnt (b+1)=n.cnt b+if n.root b=b then 1 else 0:=by
 unfold Nw.cnt
 rw [List.range_succ,List.filter_append,List.length_append]
 by_cases h:n.root b=b
 ·simp [h]
 ·simp [h]
theorem Nw.cnt_le (n:Nw) (b:Nat):n.cnt b<=b:=by
 unfold Nw.cnt
 have:=List.length_filter_le (fun r=>decide (n.root r=r)) (List.range b)
 simpa using this
theorem Nw.lab_root (n:Nw) {b:Nat} (h:n.root b=b):n.lab b=n.cnt b:=by unfold Nw.lab Nw.cnt;rw [h]
theorem Nw.lab_of (n:Nw) (b:Nat):n.lab b=n.lab (n.root b):=by unfold Nw.lab;rw [Nw.root_root]
theorem Nw.lab_le (n:Nw) (b:Nat):n.lab b<=b:=Nat.le_trans (n.cnt_le _) (Nw.root_le b)
def lnI (l:LnV):Nat->Int
 | 0=>l.f
 | 1=>l.t
 | 2=>l.x
 | _=>l.c
theorem PtrTo.ln {S:Nat->Prop} {w:World} {p:Addr} {l:LnV} (h:PtrTo eL S w p l) (i:Nat) (hi:i<4):PtrTo (eInt .i64) S w (p.add i) (lnI l i):=by
 obtain ⟨e,⟨rfl,h1,h2,h3,h4⟩,hS,hc⟩:=h
 refine ⟨.int .i64 (lnI l i),⟨rfl,?_⟩,by rw [F6];exact hS,fun j u hu=>?_⟩
 ·match i with
  | 0=>exact h1
  | 1=>exact h2
  | 2=>exact h3
  | 3=>exact h4
 ·have hj:j=0:=by
   cases j with
   | zero=>rfl
   | succ j=>simp [Value.cells] at hu
  subst hj
  rw [Q4]
  refine hc _ u ?_
  match i with
  | 0=>simpa [Value.cells,lnI] using hu
  | 1=>simpa [Value.cells,lnI] using hu
  | 2=>simpa [Value.cells,lnI] using hu
  | 3=>simpa [Value.cells,lnI] using hu
section
variable {P:Program} {σ:Env} {w:World} {d:Option Tmp} {ty:TypeId} {pos:String} {af:Array Edge} {g:Option (Nat×Bool)} {S:Nat->Prop}
theorem AP1 {s:TypeId} {x:Operand} {i off:Nat} {u:Value} {l:LnV} (hf:fldOf P s i=some off) (hx:ev σ x=some u) (hp:Ptr eL S l u w) (ho:off<4):Gv P ⟨d,.fieldAddr s x i,ty,pos,af,g⟩ σ w fun v' w'=>Ext w w'/\Sp.ok (.inr (Ptr (eInt .i64) S (lnI l off))) v' w':=by
 obtain ⟨p,rfl,hp⟩:=hp
 exact L7 (Av4 hf hx) ⟨_,rfl,hp.ln off ho⟩ (fun _ _ _ e ⟨p,h1,h2⟩=>⟨p,h1,h2.ext e⟩)
end
section
variable {P:Program} {ro:Option Nat} {N:Nat} {ds:List Deferred} {ops:Array Oper} {K:Env->World->Prop} {rest:List Oper} {σ:Env} {w:World} {d:Tmp} {ty:TypeId} {pos:String} {af:Array Edge} {S:Nat->Prop}
end
end Go.Kx
namespace Go.Proofs.YtpgkacdihhjknaaGreat
open Go Go.Kx Go.RowKit
structure nwOk (n:NtV) (o:List Int):Prop where
 b:n.b=((nwOf n o).B:Nat)
 b1:1<=(nwOf n o).B
 b6:(nwOf n o).B<=6
 m:(nwOf n o).M<=10
 fI:∀ k,k<(nwOf n o).M->(n.ls.getD k ln0).f=((nwOf n o).F k:Nat)
 tI:∀ k,k<(nwOf n o).M->(n.ls.getD k ln0).t=((nwOf n o).T k:Nat)
 f:∀ k,k<(nwOf n o).M->(nwOf n o).F k<(nwOf n o).B
 t:∀ k,k<(nwOf n o).M->(nwOf n o).T k<(nwOf n o).B
 ne:∀ k,k<(nwOf n o).M->(nwOf n o).F k≠(nwOf n o).T k
 x:∀ k,k<(nwOf n o).M->1<=(n.ls.getD k ln0).x/\(n.ls.getD k ln0).x<=1000
 c:∀ k,k<(nwOf n o).M->0<=(n.ls.getD k ln0).c/\(n.ls.getD k ln0).c<=1000000
 outs:outsOk n o
theorem I0 {n:NtV} {o:List Int} (h:outE n o=0):nwOk n o:=by
 obtain ⟨hc,ho⟩:=O9 h
 obtain ⟨h1,h6,h10,hck⟩:=AV2 hc
 have hB:n.b=((n.b.toNat:Nat):Int):=by omega
 have hl:∀ k,k<n.ls.length->∀ i,i<5->ck i n.b (n.ls.getD k ln0)=true:=fun k hk=>hck k hk _ (A4 hk)
 refine ⟨hB,by show 1<=n.b.toNat;omega,by show n.b.toNat<=6;omega,h10,fun k hk=>?_,fun k hk=>?_,fun k hk=>?_,fun k hk=>?_,fun k hk=>?_,fun k hk=>?_,fun k hk=>?_,ho⟩
 all_goals
  have c0:=hl k hk 0 (by decide)
  have c1:=hl k hk 1 (by decide)
  have c2:=hl k hk 2 (by decide)
  have c3:=hl k hk 3 (by decide)
  have c4:=hl k hk 4 (by decide)
  simp [ck] at c0 c1 c2 c3 c4
 ·show (n.ls.getD k ln0).f=(((n.ls.getD k ln0).f.toNat:Nat):Int)
  simp;omega
 ·show (n.ls.getD k ln0).t=(((n.ls.getD k ln0).t.toNat:Nat):Int)
  simp;omega
 ·show (n.ls.getD k ln0).f.toNat<n.b.toNat
  simp;omega
 ·show (n.ls.getD k ln0).t.toNat<n.b.toNat
  simp;omega
 ·show (n.ls.getD k ln0).f.toNat≠(n.ls.getD k ln0).t.toNat
  simp;omega
 ·simpa using c3
 ·simpa using c4
theorem nwOk.g0 {n:NtV} {o:List Int} (h:nwOk n o) {k:Nat} (hk:k<(nwOf n o).M):(nwOf n o).g k=0<->k∈oN o:=by
 show (if k∈oN o then (0:Rat) else ((n.ls.getD k ln0).x:Rat)⁻¹)=0<->_
 constructor
 ·intro h0
  by_cases hm:k∈oN o
  ·exact hm
  ·rw [if_neg hm] at h0
   have hx:=(h.x k hk).1
   have hne:((n.ls.getD k ln0).x:Rat)≠0:=fun e=>by
    have:(n.ls.getD k ln0).x=0:=by exact_mod_cast e
    omega
   have h2:=Rat.mul_inv_cancel _ hne
   rw [h0,Rat.mul_zero] at h2
   exact absurd h2 (by decide)
 ·intro hm;rw [if_pos hm]
theorem nwOk.ok {n:NtV} {o:List Int} (h:nwOk n o):(nwOf n o).Ok:=by
 refine ⟨h.f,h.t,fun k hk=>?_⟩
 show (0:Rat)<=if k∈oN o then (0:Rat) else ((n.ls.getD k ln0).x:Rat)⁻¹
 split
 ·exact Rat.le_refl
 ·have hx:=(h.x k hk).1
  exact Rat.le_of_lt (Rat.inv_pos.2 (by exact_mod_cast (by omega:0<(n.ls.getD k ln0).x)))
theorem Au6:Ent Tryz.prog 199:=A0 Tryz.func199 (by kernel_rfl) rfl
theorem As9 {w:World} {b8 g B b:Nat} {p R:Nat->Nat} (k8:Blk w b8 25 #[.slice (some ⟨g,0,none⟩) B B]) (hf:FB (eInt .i64) 3 (fun _=>True) w g (tabI B p)) (hp:Clm B p R) (hb:b<B) :
  CR Tryz.prog 199 #[.int .i64 (b:Nat),.pointer (some ⟨b8,0,none⟩)] w (Is (.int .i64 (R b:Nat))):=by
 refine enter Tryz.func199 O Tryz.ntmps199 O (.sr (.an O O (.scope (.seq (.label (.seq (.block (.loop (α:=Nat) (fun x=>[(0,.int .i64 (x:Nat)),(1,.pointer (some ⟨b8,0,none⟩))]) (fun x W=>W=w/\x<B/\R x=R b) (fun x=>x) b ?_ ?_ ?_))))))))
 ·exact lkA rfl
 ·exact ⟨rfl,hb,rfl⟩
 rintro x W ⟨rfl,hx,hR⟩
 obtain ⟨h1,h2,h3⟩:=hp x hx
 refine .block (.sr (.ld ty_I O O k8 O (.mv O O (.ixB (i:=x) un_I A7 O O O hx (.ldF (E:=eInt .i64) (i:=x) (by decide) A7 O O (Nat.zero_add _) hf (AC2 hx) fun e he=>.an O O (.sr (.mv O O (.nil ?_))))))))
 obtain ⟨rfl,_⟩:=he
 refine .block (.sr (.mv O O ?_))
 by_cases hpx:p x=x
 ·refine .eqlT O O O (by omega) (.an O O (.condT O (.exit (.sr (.mv O O (.an O O (.ret ?_)))))))
  exact .plain [_] Tryz.results199 ⟨rfl,trivial⟩ ⟨Ext.refl _,by rw [<-hR,h2 hpx];rfl⟩
 ·refine .eqlF O O O (by omega) (.an O O (.condF O (.region (.mv O O (.an O O ?_)))))
  exact ⟨rfl,p x,lkA rfl,⟨rfl,by omega,by rw [<-h3 hpx];exact hR⟩,by omega⟩
theorem AF0 {n:NtV} {o:List Int} {i:Nat} (hi:i<(inL n o).length):(pInts (inL n o))[i]?=some (((inL n o).getD i 0:Nat):Int)/\(inL n o).getD i 0<n.ls.length/\(inL n o).getD i 0∉oN o:=by
 have key:∀ k,k∈inL n o->k<n.ls.length/\k∉oN o:=fun k hk=>by
  unfold inL freeTo at hk
  rw [List.mem_filter] at hk
  exact ⟨List.mem_range.1 hk.1,by simpa using hk.2⟩
 obtain ⟨h1,h2⟩:=key _ (I6 hi)
 exact ⟨by rw [List.getElem?_map,A4 (z:=0) hi];rfl,h1,h2⟩
theorem fil_get {B i j:Nat} {f:Nat->Int} (hj:j<B) (hi:j<i):(fil B i f 0)[j]?=some (f j):=by
 unfold fil
 rw [List.getElem?_map,List.getElem?_range hj]
 simp [hi]
theorem AD8:Ent Tryz.prog 137:=A0 Tryz.func137 (by kernel_rfl) rfl
theorem AC9 {S:Nat->Prop} {w:World} {vn vo:Value} {n:NtV} {o:List Int} (up:Up S w) (hn:eN.R S w vn n) (ho:eI.R S w vo o) :
  CR Tryz.prog 137 #[vn,vo] w (Two (eI.at S (if outE n o=0 then tabI (nwOf n o).B (nwOf n o).lab else [])) (Is (.int .i64 (outE n o)))):=by
 obtain ⟨s,rfl,hs,hb⟩:=hn
 have hn:eN.R S w (.agg #[.int .i64 n.b,s]) n:=⟨s,rfl,hs,hb⟩
 refine enter Tryz.func137 O Tryz.ntmps137 O ?_
 refine .sr (.box O O fun w1 b2 n1=>.asg O O (.an O O ?_))
 obtain ⟨e1,k2,hb2,hs1⟩:=n1
 refine .sr (.ldA ty_N O O k2 O (.mv O O ?_))
 refine .call _ O Y8 O (Y4 (up.ext e1.size) (hn.ext e1) (ho.ext e1)) fun v2 w2 e2 h2=>?_
 obtain ⟨vl,ve,rfl,hl,he⟩:=h2
 replace he:ve=.int .i64 (outE n o):=he
 subst he
 have x2:=e1.trans e2
 refine .mv O O (.ext O O O (.ext O O O (.asg O O (.an O O (.seq (.sr (.mv O O ?_)))))))
 by_cases hE:outE n o=0
 rotate_left
 ·refine .neqT O O O hE (.nil (.condT O (.sr (.mv O O (.asg O O (.an O O (.ret ?_)))))))
  refine .plain [_,_] Tryz.results137 ⟨rfl,rfl,trivial⟩ ⟨x2,_,_,rfl,?_,rfl⟩
  rw [if_neg hE];exact RL.nil
 have ok:=I0 hE
 rw [if_pos hE] at hl ⊢
 have hB6:=ok.b6
 have hM10:n.ls.length<=10:=ok.m
 have hll:=T5 n o
 generalize hB:(nwOf n o).B=B at *
 refine .neqF O O O hE (.nil (.condF O (.skip ?_)))
 have k2:=k2.ext e2
 have hnb:=ok.b
 rw [hB] at hnb
 rw [hnb] at k2
 refine .sr (.fa J0 O O (.ld A8 O O k2 O ?_))
 refine .make_ B B un_I Z7 O (by decide) O O O (Nat.le_refl _) (by omega) (by omega) fun w3 g n3=>?_
 have f3:FB (eInt .i64) 3 (fun _=>True) w3 g (List.replicate B 0):=FB.made n3 ⟨rfl,by decide⟩
 obtain ⟨e3,_,hg3,hs3⟩:=n3
 refine .alloc O BE9 fun w4 b8 n4=>?_
 obtain ⟨e4,k8,hb8,hs4⟩:=n4
 refine .store ty_I O O k8 O (by simp [Value.cells]) (by simp [one1,Value.cells]) fun w5 k8 u5=>.nil ?_
 replace k8:Blk w5 b8 25 #[.slice (some ⟨g,0,none⟩) B B]:=k8
 have hs2:=e2.size
 have hs5:=u5.size
 have x4:=x2.trans (e3.trans e4)
 have x5:Ext w w5:=u5.below x4 (by omega)
 have x25:Ext w2 w5:=u5.below (e3.trans e4) (by omega)
 have k2:=k2.ext x25
 have hl:=ER.ext eI (ER.lt eI hl) x25
 have hsL:=ER.ext eLs (ER.lt eLs hs) x5
 have hupd:∀ {W W':World} {l:List Int} {b:Nat},FB (eInt .i64) 3 (fun _=>True) W g l->Upd W W' b->g≠b->FB (eInt .i64) 3 (fun _=>True) W' g l:=fun hf u hne=>by
  obtain ⟨es,hb,he⟩:=hf
  exact ⟨es,hb.upd u hne,he.1,fun i e x h1 h2=>he.2 i e x h1 h2⟩
 have f5:=hupd (f3.ext e4) u5 (by omega)
 have hgw:w2.heap.size<=g:=by omega
 have hg8:g≠b8:=by omega
 have hg2:b2≠g:=by omega
 have hw25:w2.heap.size<=w5.heap.size:=by omega
 refine .mid (α:=Unit) (fun _=>[(2,.pointer (some ⟨b2,0,none⟩)),(6,vl),(8,.pointer (some ⟨b8,0,none⟩))]) (fun _ W=>Below w2.heap.size w5 W/\Blk W b8 25 #[.slice (some ⟨g,0,none⟩) B B]/\FB (eInt .i64) 3 (fun _=>True) W g (tabI B id)) ?_ ?_
 ·refine .sr (.ld ty_I O O k8 O (.len un_I O O (.mv O O (.nil ?_))))
  refine .block (.loop (α:=Nat) (fun i=>[(2,.pointer (some ⟨b2,0,none⟩)),(6,vl),(8,.pointer (some ⟨b8,0,none⟩)),(32,.int .i64 (B:Nat)),(33,.int .i64 (i:Nat))]) (fun i W=>Below w2.heap.size w5 W/\Blk W b8 25 #[.slice (some ⟨g,0,none⟩) B B]/\i<=B/\FB (eInt .i64) 3 (fun _=>True) W g (fil B i (fun b=>((b:Nat):Int)) 0)) (fun i=>B-i) 0 ?_ ?_ ?_)
  ·exact lkA rfl
  ·refine ⟨Below.refl _ _,k8,Nat.zero_le _,?_⟩
   rw [P4];exact f5
  rintro i W ⟨hW,k8,hi,fb⟩
  refine .sr ?_
  rcases Nat.lt_or_ge i B with hlt | hge
  rotate_left
  ·refine .lssF O O O (by omega) (.nil (.seq (.condF O (.exit ?_))))
   have:i=B:=by omega
   subst this
   refine ⟨rfl,(),lkA rfl,hW,k8,?_⟩
   rw [AL8] at fb
   exact fb
  refine .lssT O O O (by omega) (.nil (.seq (.condT O (.skip (.seq (.block (.sr (.mv O O (.an O O (.region (.ld ty_I O O k8 O (.mv O O (.mv O O (.ixB (i:=i) un_I A7 O O O hlt ?_))))))))))))))
  refine .storeF (E:=eInt .i64) (i:=i) (z:=((i:Nat):Int)) (by decide) A7 O O fb O (by rw [L3];exact hlt) (Nat.zero_add _) ⟨rfl,E0.2 (by omega)⟩ fun W1 f1 u1=>.nil ?_
  refine .region (.add O O O (.mv O O (.nil ?_)))
  rw [wI (by omega)]
  rw [T8] at f1
  exact ⟨rfl,i+1,lkA rfl,⟨u1.below hW hgw,k8.upd u1 hg8.symm,hlt,f1⟩,by show B-(i+1)<B-i;omega⟩
 rintro _ W0 ⟨hW0,k8,fb0⟩
 have hk2:∀ {W:World},Below w2.heap.size w5 W->Blk W b2 24 #[.int .i64 (B:Nat),s]:=fun h=>(h.block b2 (by omega)).trans k2
 have hlW:∀ {W:World},Below w2.heap.size w5 W->eI.R (fun k=>S k/\k<w2.heap.size) W vl (pInts (inL n o)):=fun h=>eI.keep (fun k c t f hk hh=>(h.block k hk.2).trans hh) hl
 have hsW:∀ {W:World},Below w2.heap.size w5 W->eLs.R (fun k=>S k/\k<w.heap.size) W s n.ls:=fun h=>eLs.keep (fun k c t f hk hh=>(h.block k (by have:=hk.2;have:=x2.size;omega)).trans hh) hsL
 refine .sr (.mkf [] [_] O O O O (.an O O ?_))
 refine .mid (α:=Nat->Nat) (fun _=>[(2,.pointer (some ⟨b2,0,none⟩)),(8,.pointer (some ⟨b8,0,none⟩)),(10,.func (.func 199) #[] #[.pointer (some ⟨b8,0,none⟩)])]) (fun p W=>Below w2.heap.size w5 W/\Blk W b8 25 #[.slice (some ⟨g,0,none⟩) B B]/\FB (eInt .i64) 3 (fun _=>True) W g (tabI B p)/\Clm B p ((nwOf n o).rootF (inL n o))) ?_ ?_
 ·refine .sr (.mv O O (.lenR un_I O O (hlW hW0) (.mv O O (.nil ?_))))
  rw [show (pInts (inL n o)).length=(inL n o).length by simp]
  refine .block (.loop (α:=Nat×(Nat->Nat)) (fun y=>[(2,.pointer (some ⟨b2,0,none⟩)),(8,.pointer (some ⟨b8,0,none⟩)),(10,.func (.func 199) #[] #[.pointer (some ⟨b8,0,none⟩)]),(42,vl),(43,.int .i64 ((inL n o).length:Nat)),(44,.int .i64 (y.1:Nat))])
   (fun y W=>Below w2.heap.size w5 W/\Blk W b8 25 #[.slice (some ⟨g,0,none⟩) B B]/\y.1<=(inL n o).length/\FB (eInt .i64) 3 (fun _=>True) W g (tabI B y.2)/\Clm B y.2 ((nwOf n o).rootF ((inL n o).take y.1))) (fun y=>(inL n o).length-y.1) (0,id) ?_ ?_ ?_)
  ·exact lkA rfl
  ·exact ⟨hW0,k8,Nat.zero_le _,fb0,fun b _=>⟨Nat.le_refl _,fun _=>rfl,fun h=>absurd O h⟩⟩
  rintro ⟨i,p⟩ W ⟨hW,k8,hi,fb,hc⟩
  replace hW:Below w2.heap.size w5 W:=hW
  replace hi:i<=(inL n o).length:=hi
  replace fb:FB (eInt .i64) 3 (fun _=>True) W g (tabI B p):=fb
  replace hc:Clm B p ((nwOf n o).rootF ((inL n o).take i)):=hc
  refine .sr ?_
  rcases Nat.lt_or_ge i (inL n o).length with hlt | hge
  rotate_left
  ·refine .lssF O O O (by omega) (.nil (.seq (.condF O (.exit ?_))))
   have:i=(inL n o).length:=by omega
   subst this
   rw [List.take_of_length_le (Nat.le_refl _)] at hc
   exact ⟨rfl,p,lkA rfl,hW,k8,fb,hc⟩
  obtain ⟨hgk,hkM,hko⟩:=AF0 hlt
  refine .lssT O O O (by omega) (.nil (.seq (.condT O (.skip (.seq (.block (.sr (.ixN (i:=i) un_I A7 O O (hlW hW) O hgk fun q hq=>.ldE (E:=eInt .i64) A7 O O hq fun e he=>.an O O ?_))))))))
  obtain ⟨rfl,_⟩:=he
  have htk:(inL n o).take (i+1)=(inL n o).take i++[(inL n o).getD i 0]:=by rw [List.take_add_one,A4 (z:=0) hlt];rfl
  have hFB:=ok.f _ hkM
  have hTB:=ok.t _ hkM
  have hFI:=ok.fI _ hkM
  have hTI:=ok.tI _ hkM
  have hgl:n.ls[(inL n o).getD i 0]?=some (n.ls.getD ((inL n o).getD i 0) ln0):=A4 hkM
  have hidm:=(nwOf n o).rootF_idm ((inL n o).take i)
  generalize hR:(nwOf n o).rootF ((inL n o).take i)=R at hc hidm
  generalize hk:(inL n o).getD i 0=k at hgl hFB hTB hFI hTI hkM hko htk
  rw [hB] at hFB hTB
  have hlF:=hidm.le ((nwOf n o).F k)
  have hlT:=hidm.le ((nwOf n o).T k)
  refine .seq ?_
  refine .par follows 16 [.inl (.func (.func 199) #[] #[.pointer (some ⟨b8,0,none⟩)]),.inl (.pointer (some ⟨b2,1,none⟩)),.inl s,.inl (.int .i64 (k:Nat)),.inr (Ptr eL (fun k=>S k/\k<w.heap.size) (n.ls.getD k ln0)),.inr (Ptr (eInt .i64) (fun k=>S k/\k<w.heap.size) (n.ls.getD k ln0).f),.inl (.int .i64 ((nwOf n o).F k:Nat)),.inl (.int .i64 (R ((nwOf n o).F k):Nat)),
   .inl (.func (.func 199) #[] #[.pointer (some ⟨b8,0,none⟩)]),.inl (.pointer (some ⟨b2,1,none⟩)),.inl s,.inl (.int .i64 (k:Nat)),.inr (Ptr eL (fun k=>S k/\k<w.heap.size) (n.ls.getD k ln0)),.inr (Ptr (eInt .i64) (fun k=>S k/\k<w.heap.size) (n.ls.getD k ln0).t),.inl (.int .i64 ((nwOf n o).T k:Nat)),.inl (.int .i64 (R ((nwOf n o).T k):Nat))]
   [[],[],[(49,1)],[],[(50,2),(51,3)],[(52,4)],[(53,5)],[(48,0),(54,6)],[],[],[(57,9)],[],[(58,10),(59,11)],[(60,12)],[(61,13)],[(56,8),(62,14)]] (by kernel_rfl) ⟨
   fun w e=>(v_mv O).ob,fun w e=>(v_fa J5 O).ob,fun w e=>(v_ld P2 O ((hk2 hW).ext e) O).ob,fun w e=>(v_mv O).ob,
   fun w e=>D5 (i:=k) M4 Q8 O (ER.ext eLs (hsW hW) e) O hgl,fun w e x hx=>AP1 AL6 O hx (by decide),fun w e x hx=>by rw [<-hFI];exact N0 A7 O hx,
   fun w e=>Gv.obIs (AF2 [.int .i64 ((nwOf n o).F k:Nat)] O Au6 O (As9 (k8.ext e) (fb.ext e) hc hFB)),
   fun w e=>(v_mv O).ob,fun w e=>(v_fa J5 O).ob,fun w e=>(v_ld P2 O ((hk2 hW).ext e) O).ob,fun w e=>(v_mv O).ob,
   fun w e=>D5 (i:=k) M4 Q8 O (ER.ext eLs (hsW hW) e) O hgl,fun w e x hx=>AP1 AL5 O hx (by decide),fun w e x hx=>by rw [<-hTI];exact N0 A7 O hx,
   fun w e=>Gv.obIs (AF2 [.int .i64 ((nwOf n o).T k:Nat)] O Au6 O (As9 (k8.ext e) (fb.ext e) hc hTB)),trivial⟩ ?_
  intro W1 f1 _ _ _ _ _ _ _ _
  refine .asg O O (.an O O (.region (.ld ty_I O O (k8.ext f1) O (.mv O O (.mv O O (.max_ O O O (.mv O O (.mv O O (.min_ O O O ?_)))))))))
  rw [show max ((R ((nwOf n o).F k):Nat):Int) (R ((nwOf n o).T k):Nat)=((max (R ((nwOf n o).F k)) (R ((nwOf n o).T k)):Nat):Int) by omega,show min ((R ((nwOf n o).F k):Nat):Int) (R ((nwOf n o).T k):Nat)=((min (R ((nwOf n o).F k)) (R ((nwOf n o).T k)):Nat):Int) by omega]
  refine .ixB (i:=max (R ((nwOf n o).F k)) (R ((nwOf n o).T k))) un_I A7 O O O (by omega) ?_
  refine .storeF (E:=eInt .i64) (i:=max (R ((nwOf n o).F k)) (R ((nwOf n o).T k))) (z:=((min (R ((nwOf n o).F k)) (R ((nwOf n o).T k)):Nat):Int)) (by decide) A7 O O (fb.ext f1) O (by rw [L4];omega) (Nat.zero_add _) ⟨rfl,E0.2 (by omega)⟩ fun W2 f2 u2=>.nil ?_
  rw [BG4] at f2
  have hW1:=hW.trans (f1.mono (by have:=hW.size;omega))
  refine .region (.add O O O (.mv O O (.nil ?_)))
  rw [wI (by omega)]
  refine ⟨rfl,(i+1,_),lkA rfl,⟨u2.below hW1 hgw,(k8.ext f1).upd u2 hg8.symm,hlt,f2,?_⟩,by show (inL n o).length-(i+1)<(inL n o).length-i;omega⟩
  show Clm B _ ((nwOf n o).rootF ((inL n o).take (i+1)))
  rw [htk,Nw.rootF_snoc,hR]
  exact hc.step hidm
 rintro p W1 ⟨hW1,k8,fb,hc⟩
 rw [show (nwOf n o).rootF (inL n o)=(nwOf n o).root by
  funext b
  unfold Nw.root
  rw [Nw.rootF_free (p:=oN o) _ fun k hk=>ok.g0 hk];rfl] at hc
 have hW1s:=hW1.size
 refine .sr (.fa J0 O O (.ld A8 O O (hk2 hW1) O ?_))
 refine .make_ B B un_I Z7 O (by decide) O O O (Nat.le_refl _) (by omega) (by omega) fun W2 h n2=>?_
 have f2:FB (eInt .i64) 3 (fun _=>True) W2 h (List.replicate B 0):=FB.made n2 ⟨rfl,by decide⟩
 obtain ⟨e2',_,hh2,hs2'⟩:=n2
 refine .an O O (.sr (.an O O ?_))
 have hgh:g≠h:=by have:=fb.lt;omega
 have k8:=k8.ext e2'
 have h8h:b8≠h:=by have:=hW1s;omega
 have fb:=fb.ext e2'
 have hW2:=hW1.trans (e2'.mono (by omega))
 have hhw:w2.heap.size<=h:=by omega
 have hupd':∀ {W W':World} {l:List Int},FB (eInt .i64) 3 (fun _=>True) W g l->Upd W W' h->FB (eInt .i64) 3 (fun _=>True) W' g l:=fun hf u=>hupd hf u hgh
 refine .seq (.sr (.mv O O (.len un_I O O (.mv O O (.nil ?_)))))
 refine .block (.loop (α:=Nat) (fun i=>[(8,.pointer (some ⟨b8,0,none⟩)),(10,.func (.func 199) #[] #[.pointer (some ⟨b8,0,none⟩)]),(15,.slice (some ⟨h,0,none⟩) B B),(16,.int .i64 ((nwOf n o).cnt i:Nat)),(77,.int .i64 (B:Nat)),(78,.int .i64 (i:Nat))])
  (fun i W=>Below w2.heap.size w5 W/\Blk W b8 25 #[.slice (some ⟨g,0,none⟩) B B]/\i<=B/\FB (eInt .i64) 3 (fun _=>True) W g (tabI B p)/\FB (eInt .i64) 3 (fun _=>True) W h (fil B i (fun b=>(((nwOf n o).lab b:Nat):Int)) 0)) (fun i=>B-i) 0 ?_ ?_ ?_)
 ·exact lkA rfl
 ·refine ⟨hW2,k8,Nat.zero_le _,fb,?_⟩
  rw [P4];exact f2
 rintro i W ⟨hW,k8,hi,fb,fl⟩
 refine .sr ?_
 rcases Nat.lt_or_ge i B with hlt | hge
 rotate_left
 ·refine .lssF O O O (by omega) (.nil (.seq (.condF O (.exit (.sr (.mv O O (.asg O O (.an O O (.ret ?_)))))))))
  have:i=B:=by omega
  subst this
  refine .plain [_,_] Tryz.results137 ⟨rfl,rfl,trivial⟩ ⟨Below.trans x5 (hW.mono (by omega)),_,_,rfl,?_,by rw [hE]⟩
  rw [AL8] at fl
  have fl':FB (eInt .i64) 3 S W h (tabI i (nwOf n o).lab):=by
   obtain ⟨es,hb,he⟩:=fl
   exact ⟨es,hb,he.1,fun i e x h1 h2=>he.2 i e x h1 h2⟩
  have:=fl'.toR (hsz:=by decide) (c:=i) (up h (by omega)) (by rw [L4];omega) (by rw [L4];omega)
  rw [L4] at this
  exact this
 refine .lssT O O O (by omega) (.nil (.seq (.condT O (.skip (.seq (.block (.sr (.mv O O (.an O O (.seq (.sr (.mv O O (.mv O O ?_)))))))))))))
 refine .callv [.int .i64 (i:Nat)] O O Au6 O (As9 k8 fb hc hlt) fun v3 W3 e3 h3=>.an O O (.sr (.mv O O (.mv O O ?_)))
 subst h3
 have hrl:=Nw.root_le (n:=nwOf n o) i
 have hlb:=Nw.lab_le (nwOf n o) i
 have hcl:=Nw.cnt_le (nwOf n o) i
 have hcs:=Nw.cnt_succ (nwOf n o) i
 have hW3:=hW.trans (e3.mono (by have:=hW.size;omega))
 have k8:=k8.ext e3
 have fb:=fb.ext e3
 have fl:=fl.ext e3
 by_cases hr:(nwOf n o).root i=i
 ·refine .neqF O O O (by omega) (.nil (.condF O (.skip (.sr (.mv O O (.mv O O (.mv O O (.ixB (i:=i) un_I A7 O O O hlt ?_))))))))
  refine .storeF (E:=eInt .i64) (i:=i) (z:=(((nwOf n o).lab i:Nat):Int)) (by decide) A7 O O fl O (by rw [L3];exact hlt) (Nat.zero_add _) ⟨by rw [Nw.lab_root _ hr],E0.2 (by omega)⟩ fun W4 f4 u4=>.nil ?_
  rw [T8 (f:=fun b=>(((nwOf n o).lab b:Nat):Int))] at f4
  refine .region (.mv O O (.add O O O (.an O O (.region (.add O O O (.mv O O (.nil ?_)))))))
  rw [wI (by omega),wI (by omega)]
  rw [if_pos hr] at hcs
  exact ⟨rfl,i+1,A6 O (A6 O (A6 O (A6 (by rw [hcs];rfl) (lkA O)))),⟨u4.below hW3 hhw,k8.upd u4 h8h,hlt,hupd' fb u4,f4⟩,by show B-(i+1)<B-i;omega⟩
 ·refine .neqT O O O (by omega) (.nil (.condT O (.sr (.mv O O (.mv O O (.mv O O (.mv O O (.ixB (i:=(nwOf n o).root i) un_I A7 O O O (by omega) ?_))))))))
  refine .ldF (E:=eInt .i64) (i:=(nwOf n o).root i) (by decide) A7 O O (Nat.zero_add _) fl (fil_get (by omega) (by omega)) fun e he=>?_
  obtain ⟨rfl,_⟩:=he
  refine .ixB (i:=i) un_I A7 O O O hlt ?_
  refine .storeF (E:=eInt .i64) (i:=i) (z:=(((nwOf n o).lab i:Nat):Int)) (by decide) A7 O O fl O (by rw [L3];exact hlt) (Nat.zero_add _) ⟨by rw [Nw.lab_of _ i],E0.2 (by omega)⟩ fun W4 f4 u4=>.nil ?_
  rw [T8 (f:=fun b=>(((nwOf n o).lab b:Nat):Int))] at f4
  refine .exit (.region (.add O O O (.mv O O (.nil ?_))))
  rw [wI (by omega)]
  rw [if_neg hr,Nat.add_zero] at hcs
  exact ⟨rfl,i+1,A6 O (A6 O (A6 O (A6 (by rw [hcs];rfl) (lkA O)))),⟨u4.below hW3 hhw,k8.upd u4 h8h,hlt,hupd' fb u4,f4⟩,by show B-(i+1)<B-i;omega⟩
end Go.Proofs.YtpgkacdihhjknaaGreat
namespace Go.Kx
open Go Go.RowKit
theorem Els.append {α:Type} {E:ER α} {S:Nat->Prop} {w:World} {es fs:List Value} {l s:List α} (h:Els E S w es l) (h':Els E S w fs s):Els E S w (es++fs) (l++s):=by
 refine ⟨by rw [List.length_append,List.length_append,h.1,h'.1],fun i e x he hx=>?_⟩
 rw [List.getElem?_append] at he hx
 rw [h.1] at he
 split at he
 ·rename_i hi
  rw [if_pos hi] at hx
  exact h.2 i e x he hx
 ·rename_i hi
  rw [if_neg hi] at hx
  exact h'.2 _ e x he hx
section
variable {P:Program} {σ:Env} {w:World} {d:Option Tmp} {ty:TypeId} {pos:String} {af:Array Edge} {g:Option (Nat×Bool)} {α:Type} {E:ER α}
theorem Ag3 {tt t:TypeId} {x y:Operand} {z:Value} {by_ base:Nat} {X:Nat->Prop} {v u:Value} {l s:List α} {hsz:0<E.sz} (ht:P.underlying tt=some (.slice t)) (hi:infoOf P t=some (z,E.sz,by_)) (hzs:z.cells.size=E.sz) (hx:ev σ x=some v) (hy:ev σ y=some u)
  (hown:OwnL E t base X w v l) (hs:(RL E hsz).R X w u s) (hX:∀ k,X k->k<base) (hl:l.length<=1000000) (hl2:s.length<=1000000) (hby:by_<=100) (hbase:base<=w.heap.size) :
  Gv P ⟨d,.call { callee:=.builtin .append,args:=#[x,y],argTypes:=#[tt,tt] },ty,pos,af,g⟩ σ w fun v' w'=>OwnL E t base X w' v' (l++s)/\Below base w w':=by
 have hown0:=hown
 obtain ⟨es0,ho,hels⟩:=hown
 obtain ⟨es,he,a,c,rfl,hc,_,hcl,hcells⟩:=hs
 have hone:∀ u∈cellsOf es,one1 u=true:=by
  intro u hu
  obtain ⟨e,he',hu'⟩:=List.mem_flatMap.1 hu
  obtain ⟨i,hi'⟩:=List.mem_iff_getElem?.1 he'
  have hlt:i<s.length:=by rw [<-he.1];exact (List.getElem?_eq_some_iff.1 hi').1
  exact E.one (he.2 i e _ hi' (List.getElem?_eq_getElem hlt)) u hu'
 have fin:∀ v' w',w'.ownsRow base t E.sz v' (l.length+s.length) (cellsOf es0++cellsOf es)->w.grownBy w' v.ownBlock->OwnL E t base X w' v' (l++s)/\Below base w w':=by
  intro v' w' h1 h2
  have hb:Below base w w':=hown0.below h2 (Below.refl _ _) hbase
  have hk:Kp X w w':=fun k c t f hk h=>(hb.block k (hX k hk)).trans h
  have hno:∀ k,X k->v'.ownBlock≠some k:=fun k hk e=>by have:=(h1.lt k e).1;have:=hX k hk;omega
  refine ⟨⟨es0++es,?_,?_⟩,hb⟩
  ·rw [show cellsOf (es0++es)=cellsOf es0++cellsOf es by simp [cellsOf],List.length_append];exact h1
  ·refine Els.append ⟨hels.1,fun i e x he hx=>?_⟩ ⟨he.1,fun i e x he' hx=>?_⟩
   ·exact E.mono (fun k _ hk=>⟨hk,hno k hk⟩) (E.keep hk (E.mono (fun k _ hk=>hk.1) (hels.2 i e x he hx)))
   ·exact E.mono (fun k _ hk=>⟨hk,hno k hk⟩) (E.keep hk (he.2 i e x he' hx))
 have hbytes:(l.length+s.length)*by_<=140737488355328:=by
  have:(l.length+s.length)*by_<=2000000*100:=Nat.mul_le_mul (by omega) hby
  omega
 cases a with
 | some ad =>
  have hcell:∀ j u,(cellsOf es)[j]?=some u->w.cell? (ad.add j)=some u:=by
   intro j u hu
   have hpos:0<s.length:=by
    rcases Nat.eq_zero_or_pos s.length with h0 | h0
    ·have:es=[]:=List.length_eq_zero_iff.1 (by rw [he.1];exact h0)
     subst this
     simp [cellsOf] at hu
    ·exact h0
   obtain ⟨ad',h1,_,h2⟩:=hcells hpos
   cases h1
   exact (h2 j u hu).1
  exact (An1 (cellsOf es) ht hi hzs hsz hx hy ho hcl hcell hone (by omega) hbytes hbase).mono fun v' w' ⟨h1,h2⟩=>fin v' w' h1 h2
 | none =>
  have h0:s=[]:=by
   cases s with
   | nil=>rfl
   | cons z s=>obtain ⟨ad,h1,_⟩:=hcells (by simp);cases h1
  subst h0
  refine (g_app0 ht hi hx hy ho).gv.mono fun v' w' ⟨h1,h2⟩=>?_
  subst h1;subst h2
  exact ⟨by simpa using hown0,Below.refl _ _⟩
end
section
variable {P:Program} {σ:Env} {w:World} {d:Option Tmp} {ty:TypeId} {pos:String} {af:Array Edge} {g:Option (Nat×Bool)}
theorem v_sidx {xt:TypeId} {x ix:Operand} {k:IntKind} {i:Int} {s:ByteArray} {b:UInt8} (ht:P.underlying xt=some .string) (hx:ev σ x=some (.string s)) (hi:ev σ ix=some (.int k i)) (h0:0<=i) (hb:s[i.toNat]?=some b) :
  Vl P ⟨d,.index xt x ix,ty,pos,af,g⟩ σ w (.int .u8 b.toNat):=by
 refine ⟨(by intro _ h;cases h),fun ρ hρ=>?_⟩
 have h1:=hρ x _ (by simp [Op.operands]) hx
 have h2:=hρ ix _ (by simp [Op.operands]) hi
 simp [execOp,Instr.index,h1,h2,asIntOf,Sem.run_bind,run_underlying ht,Result.andThen_ok,h0,hb]
theorem g_sidx {xt:TypeId} {x ix:Operand} {k:IntKind} {n:Nat} {s:ByteArray} (ht:P.underlying xt=some .string) (hx:ev σ x=some (.string s)) (hi:ev σ ix=some (.int k (n:Nat))) (hn:n<=12) (hs:((List.range 13).all fun j=>(s[j]?).isSome)=true) :
  Gv P ⟨d,.index xt x ix,ty,pos,af,g⟩ σ w fun v w'=>w'=w/\∃ b:UInt8,v=.int .u8 b.toNat:=by
 have h1:=List.all_eq_true.1 hs n (List.mem_range.2 (by omega))
 obtain ⟨b,hb⟩:=Option.isSome_iff_exists.1 h1
 exact (v_sidx ht hx hi (by omega) (b:=b) (by simpa using hb)).gv.mono fun v w' ⟨h1,h2⟩=>⟨h2,b,h1⟩
theorem AU5 {k:IntKind} {t t':TypeId} {x:Operand} {g' i o:Nat} {S:Nat->Prop} {l:List Int} {z:Int} (ht:tyOf P t=some (false,1)) (hx:ev σ x=some (.pointer (some ⟨g',o,none⟩))) (ho:o=i*1) (hF:FP (eInt k) t' S w g' l) (hz:l[i]?=some z) :
  Gv P ⟨d,.load t x,ty,pos,af,g⟩ σ w fun v' w'=>Ext w w'/\Sp.ok (.inl (.int k z)) v' w' :=
 (ob_ldP (E:=eInt k) ht hx ho hF hz).mono fun v' w' ⟨e1,h⟩=>⟨e1,(h w' (Ext.refl _)).1⟩
end
def insAt (q:List Int) (j:Nat) (x:Int) (r:List Int):List Int:=q.take j++x::(q.drop j++r)
section
variable {q r:List Int} {x:Int} {j:Nat}
theorem AE9 (hj:j<=q.length):(insAt q j x r).length=q.length+1+r.length:=by unfold insAt;simp;omega
theorem BK0 (hj:j<=q.length):(insAt q j x r)[j]?=some x:=by
 unfold insAt
 rw [List.getElem?_append_right (by simp;omega)]
 simp [Nat.min_eq_left hj]
theorem BB9 {y:Int} (h:q[j]?=some y):(insAt q (j+1) x r)[j]?=some y:=by
 have hl:=(List.getElem?_eq_some_iff.1 h).1
 unfold insAt
 rw [List.getElem?_append_left (by simp;omega),List.getElem?_take,if_pos (Nat.lt_succ_self j)]
 exact h
theorem As1 {y:Int} (h:q[j]?=some y):((insAt q (j+1) x r).set (j+1) y).set j x=insAt q j x r:=by
 obtain ⟨hl,hy⟩:=List.getElem?_eq_some_iff.1 h
 unfold insAt
 have h1:q.take (j+1)=q.take j++[y]:=by rw [List.take_add_one,h];rfl
 have h2:q.drop j=y::q.drop (j+1):=by rw [<-hy];exact List.drop_eq_getElem_cons hl
 have h3:(q.take j).length=j:=by simp;omega
 rw [h1,h2]
 generalize q.take j=L at h3
 subst h3
 rw [List.append_assoc,List.set_append_right _ _ (by omega),List.set_append_right _ _ (by omega)]
 simp
theorem Ac9:insAt q q.length x r=q++x::r:=by unfold insAt;simp
end
end Go.Kx
namespace Go.Proofs.YtpgkacdihhjknaaGreat
open Go Go.Kx Go.RowKit
theorem E_isNaN:Ent Tryz.prog 205:=A0 Tryz.func205 (by kernel_rfl) rfl
theorem isNaN_c {w:World} {a:Int}:CR Tryz.prog 205 #[.int .i64 a] w (Is (.bool false)):=by
 refine enter Tryz.func205 O Tryz.ntmps205 O (.beg (.go O (.neqF O O O O (.goE O ?_))))
 exact .plain [_] Tryz.results205 ⟨rfl,trivial⟩ ⟨Ext.refl _,rfl⟩
theorem BO0:Ent Tryz.prog 144:=A0 Tryz.func144 (by kernel_rfl) rfl
theorem BJ6 {w:World} {a b:Int}:CR Tryz.prog 144 #[.int .i64 a,.int .i64 b] w (Is (.bool (decide (a<b)))):=by
 refine enter Tryz.func144 O Tryz.ntmps144 O (.beg (.go O (.call _ O E_isNaN O isNaN_c fun v1 w1 e1 h1=>?_)))
 subst h1
 refine .go O (.lss O O O (.goE O ?_))
 exact .plain [_] Tryz.results144 ⟨rfl,trivial⟩ ⟨e1,rfl⟩
theorem E_isort:Ent Tryz.prog 138:=A0 Tryz.func138 (by kernel_rfl) rfl
set_option maxRecDepth 8000 in
theorem isort_c {w:World} {g cap:Nat} {p:List Int} {k:Int} (hF:FP (eInt .i64) 3 (fun _=>True) w g (p++[k])) (hp:p.Pairwise (·<·)) (hl:p.length<=1000) :
  Calls Tryz.prog 138 #[.slice (some ⟨g,0,none⟩) (p.length+1) cap,.int .i64 0,.int .i64 ((p.length+1:Nat):Int)] w fun e w'=>∃ v,e=.returned v/\∃ j,j<=p.length/\(∀ y∈p.drop j,k<y)/\(∀ y∈p.take j,y<=k)/\Chg (fun b=>b=g) w w'/\FP (eInt .i64) 3 (fun _=>True) w' g (insAt p j k []):=by
 refine enterG Tryz.func138 O Tryz.ntmps138 O (.beg (.go O (.inc (i:=0) O O O (by omega) (.goC O (.lp (α:=Nat×List Int) [0,1,2] O (fun y=>[(6,.int .i64 (y.1:Nat))]) (fun y W=>Chg (fun b=>b=g) w W/\FP (eInt .i64) 3 (fun _=>True) W g y.2/\((y.1<=p.length/\1<=y.1/\y.2=p++[k])\/(y.1=p.length+1/\∃ j,j<=p.length/\(∀ z∈p.drop j,k<z)/\(∀ z∈p.take j,z<=k)/\y.2=insAt p j k []))) (fun y=>p.length+1-y.1) (1,p++[k]) (lc1 O) ⟨Chg.refl _,hF,?_⟩ ?_)))))
 ·cases p with
  | nil=>exact .inr ⟨rfl,0,Nat.le_refl _,by simp,by simp,rfl⟩
  | cons a p=>exact .inl ⟨by simp,Nat.le_refl _,rfl⟩
 rintro ⟨i,l⟩ W ⟨hC,hF,hI⟩
 refine .go O ?_
 rcases hI with ⟨hi,hi1,rfl⟩ | ⟨rfl,j,hj,h1,h2,rfl⟩
 rotate_left
 ·exact .lssF O O O (by omega) (.goE O (.plain [] Tryz.results138 trivial ⟨j,hj,h1,h2,hC,hF⟩))
 obtain ⟨q,x,r,hq,hpk,hqs,hqp⟩:∃ q x r,q.length=i/\p++[k]=insAt q i x r/\q.Pairwise (·<·)/\((i<p.length/\∀ y∈q,y<x)\/(i=p.length/\q=p/\x=k/\r=[])):=by
  rcases Nat.lt_or_ge i p.length with hlt | hge
  ·refine ⟨p.take i,p[i],p.drop (i+1)++[k],by simp;omega,?_,hp.sublist (List.take_sublist _ _),.inl ⟨hlt,fun y hy=>?_⟩⟩
   ·have h3:(p.take i).length=i:=by simp;omega
    have h4:insAt (p.take i) i p[i] (p.drop (i+1)++[k])=p.take i++p[i]::(p.drop (i+1)++[k]):=by
     have:=Ac9 (q:=p.take i) (x:=p[i]) (r:=p.drop (i+1)++[k])
     rw [h3] at this
     exact this
    rw [h4]
    have h5:p=p.take i++p[i]::p.drop (i+1):=by rw [<-List.drop_eq_getElem_cons hlt,List.take_append_drop]
    exact (congrArg (·++[k]) h5).trans (by rw [List.append_assoc];rfl)
   ·obtain ⟨a,ha,rfl⟩:=List.mem_take_iff_getElem.1 hy
    have ha':a<i:=by omega
    exact List.pairwise_iff_getElem.1 hp a i (by omega) hlt ha'
  ·have:i=p.length:=by omega
   subst this
   exact ⟨p,k,[],rfl,Ac9.symm,hp,.inr ⟨rfl,rfl,rfl,rfl⟩⟩
 have hfin:∀ {j:Nat} {W':World},j<=i->(∀ y∈q.drop j,x<y)->(j=0\/∀ y,q[j-1]?=some y->y<=x)->FP (eInt .i64) 3 (fun _=>True) W' g (insAt q j x r)->∃ l',FP (eInt .i64) 3 (fun _=>True) W' g l'/\((i+1<=p.length/\1<=i+1/\l'=p++[k])\/(i+1=p.length+1/\∃ j,j<=p.length/\(∀ z∈p.drop j,k<z)/\(∀ z∈p.take j,z<=k)/\l'=insAt p j k [])):=by
  intro j W' hj h1 h2 hF'
  rcases hqp with ⟨hlt,hqx⟩ | ⟨rfl,rfl,rfl,rfl⟩
  ·have hji:j=i:=by
    rcases Nat.lt_or_ge j i with h | h
    ·exfalso
     have h3:q[j]'(by omega)∈q.drop j:=by rw [List.drop_eq_getElem_cons (by omega)];exact List.mem_cons_self ..
     have:=h1 _ h3
     have:=hqx _ (List.getElem_mem (l:=q) (n:=j) (by omega))
     omega
    ·omega
   subst hji
   rw [<-hpk] at hF'
   exact ⟨_,hF',.inl ⟨by omega,by omega,rfl⟩⟩
  ·refine ⟨_,hF',.inr ⟨rfl,j,hj,h1,fun y hy=>?_,rfl⟩⟩
   obtain ⟨a,ha,rfl⟩:=List.mem_take_iff_getElem.1 hy
   rcases h2 with h2 | h2
   ·omega
   ·have hj1:j-1<q.length:=by omega
    have h3:=h2 _ (List.getElem?_eq_getElem hj1)
    rcases Nat.lt_or_ge a (j-1) with h | h
    ·have:=List.pairwise_iff_getElem.1 hp a (j-1) (by omega) hj1 h
     omega
    ·have:a=j-1:=by omega
     subst this
     exact h3
 rw [hpk] at hF
 have hr:q.length+1+r.length=p.length+1:=by
  have:=congrArg List.length hpk
  rw [AE9 (by omega)] at this
  simp at this
  omega
 refine .lssT O O O (by omega) (.goC O (.lp (α:=Nat) [0,1,2,6] rfl (fun j=>[(7,.int .i64 (j:Nat))]) (fun j W'=>Chg (fun b=>b=g) w W'/\FP (eInt .i64) 3 (fun _=>True) W' g (insAt q j x r)/\j<=i/\∀ y∈q.drop j,x<y) (fun j=>j) i (lc1 rfl) ⟨hC,hF,Nat.le_refl _,by rw [List.drop_of_length_le (by omega)];intro y hy;cases hy⟩ ?_))
 rintro j W' ⟨hC,hF,hj,hd⟩
 have hout:∀ {W2:World},Ext W' W2->(j=0\/∀ y,q[j-1]?=some y->y<=x)->∃ l',FP (eInt .i64) 3 (fun _=>True) W2 g l'/\((i+1<=p.length/\1<=i+1/\l'=p++[k])\/(i+1=p.length+1/\∃ j,j<=p.length/\(∀ z∈p.drop j,k<z)/\(∀ z∈p.take j,z<=k)/\l'=insAt p j k [])):=fun e h=>hfin hj hd h (hF.ext e)
 cases j with
 | zero =>
  refine .goC O ?_
  refine .par follows 13 [.inl _,.inl _,.inl (.bool false),.inl (.bool false),.inl undef,.inl undef,.inl undef,.inl undef,.inl undef,.inl undef,.inl undef,.inl undef,.inl undef] [[],[],[(16,0),(17,1)],[(18,2)],[(19,3)],[(19,3)],[(20,4),(21,5),(19,3)],[(22,6),(19,3)],[(19,3)],[(19,3)],[(25,9),(19,3)],[(24,8),(26,10),(19,3)],[(27,11),(19,3)]] (by kernel_rfl) ⟨
   fun w e=>(v_mv O).ob,
   fun w e=>(v_mv O).ob,
   fun w e=>((Av3 O O).eq (by simp)).ob,
   fun w e=>(v_mv O).ob,
   fun w e=>rfl,
   fun w e=>rfl,
   fun w e=>rfl,
   fun w e=>rfl,
   fun w e=>rfl,
   fun w e=>rfl,
   fun w e=>rfl,
   fun w e=>rfl,
   fun w e=>rfl,trivial⟩ ?_
  intro W2 d2
  obtain ⟨l',hl',hI'⟩:=hout d2 (.inl rfl)
  exact .go O (.inc O O O (by omega) (.goN O (.mk (i+1,l') O (lc1 O) ⟨⟨hC.trans (Chg.ext d2),hl',hI'⟩,by show p.length+1-(i+1)<p.length+1-i;omega⟩)))
 | succ m =>
 have hmq:m<q.length:=by omega
 have hm:=List.getElem?_eq_getElem hmq
 generalize q[m]=y at hm
 have hg1:=BK0 (q:=q) (x:=x) (r:=r) (j:=m+1) (by omega)
 have hg2:=BB9 (x:=x) (r:=r) hm
 by_cases hxy:x<y
 rotate_left
 ·refine .goC O ?_
  refine .par follows 13 [.inl _,.inl _,.inl (.bool true),.inl (.bool true),.inl _,.inl _,.inl (.pointer (some ⟨g,0+(m+1)*1,none⟩)),.inl (.int .i64 x),.inl _,.inl _,.inl (.int .i64 (m:Nat)),.inl (.pointer (some ⟨g,0+m*1,none⟩)),.inl (.int .i64 y)] [[],[],[(16,0),(17,1)],[(18,2)],[(19,3)],[(19,3)],[(20,4),(21,5),(19,3)],[(22,6),(19,3)],[(19,3)],[(19,3)],[(25,9),(19,3)],[(24,8),(26,10),(19,3)],[(27,11),(19,3)]] (by kernel_rfl) ⟨
   fun w e=>(v_mv O).ob,
   fun w e=>(v_mv O).ob,
   fun w e=>((Av3 O O).eq (by simp)).ob,
   fun w e=>(v_mv O).ob,
   fun w e=>(v_mv O).ob,
   fun w e=>(v_mv O).ob,
   fun w e=>(I1 (i:=m+1) un_I A7 O O (by omega)).ob,
   fun w e=>AU5 (i:=m+1) A7 O (Nat.zero_add _) (hF.ext e) hg1,
   fun w e=>(v_mv O).ob,
   fun w e=>(v_mv O).ob,
   fun w e=>((AB1 O O).eq (by rw [wI (by omega)];congr 1;omega)).ob,
   fun w e=>(I1 (i:=m) un_I A7 O O (by omega)).ob,
   fun w e=>AU5 (i:=m) A7 O (Nat.zero_add _) (hF.ext e) hg2,trivial⟩ ?_
  intro W2 d2'
  refine .go O (.call _ O BO0 O BJ6 fun v3 W3 e3 h3=>?_)
  subst h3
  rw [decide_eq_false hxy]
  have d2:=d2'.trans e3
  obtain ⟨l',hl',hI'⟩:=hout d2 (.inr fun z hz=>by rw [Nat.add_sub_cancel,hm] at hz;cases hz;omega)
  exact .go O (.inc O O O (by omega) (.goN O (.mk (i+1,l') O (lc1 O) ⟨⟨hC.trans (Chg.ext d2),hl',hI'⟩,by show p.length+1-(i+1)<p.length+1-i;omega⟩)))
 refine .goC O ?_
 refine .par follows 13 [.inl _,.inl _,.inl (.bool true),.inl (.bool true),.inl _,.inl _,.inl (.pointer (some ⟨g,0+(m+1)*1,none⟩)),.inl (.int .i64 x),.inl _,.inl _,.inl (.int .i64 (m:Nat)),.inl (.pointer (some ⟨g,0+m*1,none⟩)),.inl (.int .i64 y)] [[],[],[(16,0),(17,1)],[(18,2)],[(19,3)],[(19,3)],[(20,4),(21,5),(19,3)],[(22,6),(19,3)],[(19,3)],[(19,3)],[(25,9),(19,3)],[(24,8),(26,10),(19,3)],[(27,11),(19,3)]] (by kernel_rfl) ⟨
  fun w e=>(v_mv O).ob,
  fun w e=>(v_mv O).ob,
  fun w e=>((Av3 O O).eq (by simp)).ob,
  fun w e=>(v_mv O).ob,
  fun w e=>(v_mv O).ob,
  fun w e=>(v_mv O).ob,
  fun w e=>(I1 (i:=m+1) un_I A7 O O (by omega)).ob,
  fun w e=>AU5 (i:=m+1) A7 O (Nat.zero_add _) (hF.ext e) hg1,
  fun w e=>(v_mv O).ob,
  fun w e=>(v_mv O).ob,
  fun w e=>((AB1 O O).eq (by rw [wI (by omega)];congr 1;omega)).ob,
  fun w e=>(I1 (i:=m) un_I A7 O O (by omega)).ob,
  fun w e=>AU5 (i:=m) A7 O (Nat.zero_add _) (hF.ext e) hg2,trivial⟩ ?_
 intro W2 d2'
 refine .go O (.call _ O BO0 O BJ6 fun v3 W3 e3 h3=>?_)
 subst h3
 rw [decide_eq_true hxy]
 have d2:=d2'.trans e3
 refine .goC O ?_
 have hF2:=hF.ext d2
 refine .heldT follows true (fun _=>True) [some _,some (.int .i64 ((m+1:Nat):Int)),some _,some (.int .i64 ((m+1:Nat):Int)),some (.int .i64 (m:Nat)),some _,some (.int .i64 ((m+1:Nat):Int)),some (.int .i64 (m:Nat)),some (.pointer (some ⟨g,0+m*1,none⟩)),none,some _,some (.int .i64 ((m+1:Nat):Int)),some (.pointer (some ⟨g,0+(m+1)*1,none⟩)),none,some (.pointer (some ⟨g,0+(m+1)*1,none⟩)),none,some (.pointer (some ⟨g,0+m*1,none⟩)),none]
   (.two 9 (.one 13 (.one 15 (.one 17 .done))) 13 (.one 9 (.one 15 (.one 17 .done)))) (by kernel_rfl) (by kernel_rfl)
   ⟨fun _ _=>v_mv rfl,fun _ _=>v_mv rfl,fun _ _=>v_mv rfl,fun _ _=>v_mv rfl,fun _ _=>(AB1 O O).eq (by rw [wI (by omega)];congr 1;omega),fun _ _=>v_mv rfl,fun _ _=>v_mv rfl,fun _ _=>(AB1 O O).eq (by rw [wI (by omega)];congr 1;omega),fun _ _=>I1 (i:=m) un_I A7 O O (by omega),fun _ _=>v_mv rfl,fun _ _=>v_mv rfl,fun _ _=>I1 (i:=m+1) un_I A7 O O (by omega),fun _ _=>I1 (i:=m+1) un_I A7 O O (by omega),fun _ _=>I1 (i:=m) un_I A7 O O (by omega),trivial⟩ ?_
 intro W3 e3 _
 obtain ⟨x9,h9,p9⟩:=(hF2.ext e3).at_ hg2
 obtain ⟨x13,h13,p13⟩:=(hF2.ext e3).at_ hg1
 have q9:PtrX W3 ⟨g,0+m*1,none⟩ x9:=by rw [Nat.zero_add];exact p9
 have q13:PtrX W3 ⟨g,0+(m+1)*1,none⟩ x13:=by rw [Nat.zero_add];exact p13
 refine .gv2 (.gv O trivial O (AB2 (E:=eInt .i64) A7 O q9 h9).gv ?_) (.gv O trivial O (AB2 (E:=eInt .i64) A7 O q13 h13).gv ?_)
 all_goals
  rintro _ _ ⟨rfl,rfl⟩
  refine .gv O trivial O (by first | exact (AB2 (E:=eInt .i64) A7 O q13 h13).gv | exact (AB2 (E:=eInt .i64) A7 O q9 h9).gv) ?_
  rintro _ _ ⟨rfl,rfl⟩
  refine .gv O trivial O (Am9 (E:=eInt .i64) (i:=m+1) (by decide) A7 O O (hF2.ext e3) O (by rw [AE9 (by omega)];omega) (Nat.zero_add _) h9) ?_
  rintro _ W4 ⟨f4,u4⟩
  refine .gv O trivial O (Am9 (E:=eInt .i64) (i:=m) (by decide) A7 O O f4 O (by rw [List.length_set,AE9 (by omega)];omega) (Nat.zero_add _) h13) ?_
  rintro _ W5 ⟨f5,u5⟩
  refine .nil (.inl O) ?_
  rw [As1 hm] at f5
  have hC5:Chg (fun b=>b=g) w W5:=(((hC.trans (Chg.ext d2)).trans (Chg.ext e3)).trans (Chg.upd u4 O)).trans (Chg.upd u5 O)
  refine kq.go O (.sub O O O ?_)
  rw [wI (by omega),show (((m+1:Nat):Int)-1)=((m:Nat):Int) by omega]
  refine .goN O (.mk m O (lc1 O) ⟨⟨hC5,f5,by omega,fun z hz=>?_⟩,Nat.lt_succ_self m⟩)
  have hdr:q.drop m=y::q.drop (m+1):=by
   obtain ⟨_,hy⟩:=List.getElem?_eq_some_iff.1 hm
   rw [<-hy];exact List.drop_eq_getElem_cons hmq
  rw [hdr] at hz
  rcases List.mem_cons.1 hz with rfl | hz
  ·exact hxy
  ·exact hd z hz
theorem E_pdq:Ent Tryz.prog 96:=A0 Tryz.func96 (by kernel_rfl) rfl
set_option maxRecDepth 8000 in
theorem pdq_c {w:World} {g cap:Nat} {p:List Int} {k r:Int} (hF:FP (eInt .i64) 3 (fun _=>True) w g (p++[k])) (hp:p.Pairwise (·<·)) (hl:p.length<=11) :
  Calls Tryz.prog 96 #[.slice (some ⟨g,0,none⟩) (p.length+1) cap,.int .i64 0,.int .i64 ((p.length+1:Nat):Int),.int .i64 r] w fun e w'=>∃ v,e=.returned v/\∃ j,j<=p.length/\(∀ y∈p.drop j,k<y)/\(∀ y∈p.take j,y<=k)/\Chg (fun b=>b=g) w w'/\FP (eInt .i64) 3 (fun _=>True) w' g (insAt p j k []):=by
 refine enterG Tryz.func96 O Tryz.ntmps96 O (.beg (.goC O (.lp (α:=Unit) [0,1,2,3] O (fun _=>[]) (fun _ W=>W=w) (fun _=>0) () AK3 O ?_)))
 rintro ⟨⟩ W rfl
 refine .go O (.sub O O O ?_)
 rw [wI (by omega)]
 refine .go O (.leqT O O O (by omega) (.go O (.callG _ O E_isort O (isort_c hF hp (by omega)) fun v W' h=>?_)))
 exact .goE O (.plain [] Tryz.results96 trivial h)
theorem E_Len64:Ent Tryz.prog 148:=A0 Tryz.func148 (by kernel_rfl) rfl
set_option maxRecDepth 8000 in
theorem Len64_c {w:World} {x:Nat} (hx:x<=12):CR Tryz.prog 148 #[.int .u64 (x:Nat)] w (fun v _=>∃ r,v=.int .i64 r):=by
 refine enter Tryz.func148 O Tryz.ntmps148 O (.beg (.go O (.geqF O O O (by omega) (.go O (.geqF O O O (by omega) (.go O (.geqF O O O (by omega) (.go O (.cvt C3 AJ0 O O ?_)))))))))
 have h8:IntKind.u8.wrap ((x:Nat):Int)=((x:Nat):Int):=by
  rcases x with _ | _ | _ | _ | _ | _ | _ | _ | _ | _ | _ | _ | _ | x
  all_goals first | rfl | omega
 rw [h8]
 refine .gv O O (g_sidx BF7 O O hx (by kernel_rfl)) ?_
 rintro v w' ⟨rfl,b,rfl⟩
 refine .cvt AJ0 Q7 O O (.add O O O (.goE O ?_))
 exact .plain [_] Tryz.results148 ⟨rfl,trivial⟩ ⟨Ext.refl _,_,rfl⟩
theorem E_Len:Ent Tryz.prog 97:=A0 Tryz.func97 (by kernel_rfl) rfl
theorem Len_c {w:World} {x:Nat} (hx:x<=12):CR Tryz.prog 97 #[.int .u64 (x:Nat)] w (fun v _=>∃ r,v=.int .i64 r):=by
 refine enter Tryz.func97 O Tryz.ntmps97 O (.beg (.go O (.call _ O E_Len64 O (Len64_c hx) fun v1 w1 e1 ⟨r,h1⟩=>.goE O ?_)))
 exact .plain [_] Tryz.results97 ⟨rfl,trivial⟩ ⟨e1,r,h1⟩
theorem E_Sort:Ent Tryz.prog 55:=A0 Tryz.func55 (by kernel_rfl) rfl
set_option maxRecDepth 8000 in
theorem Sort_c {w:World} {g cap:Nat} {p:List Int} {k:Int} (hF:FP (eInt .i64) 3 (fun _=>True) w g (p++[k])) (hp:p.Pairwise (·<·)) (hl:p.length<=11) :
  Calls Tryz.prog 55 #[.slice (some ⟨g,0,none⟩) (p.length+1) cap] w fun e w'=>∃ v,e=.returned v/\∃ j,j<=p.length/\(∀ y∈p.drop j,k<y)/\(∀ y∈p.take j,y<=k)/\Chg (fun b=>b=g) w w'/\FP (eInt .i64) 3 (fun _=>True) w' g (insAt p j k []):=by
 refine enterG Tryz.func55 O Tryz.ntmps55 O (.beg (.go O (.len un_I O O (.go O (.cvt Q7 Av5 O O ?_)))))
 have h8:IntKind.u64.wrap ((p.length+1:Nat):Int)=((p.length+1:Nat):Int):=by
  have:p.length+1<=12:=by omega
  generalize p.length+1=x at this
  rcases x with _ | _ | _ | _ | _ | _ | _ | _ | _ | _ | _ | _ | _ | x
  all_goals first | rfl | omega
 rw [h8]
 refine .call _ O E_Len O (Len_c (by omega)) fun v1 w1 e1 h1=>?_
 obtain ⟨r,rfl⟩:=h1
 refine .callG _ O E_pdq O (pdq_c (hF.ext e1) hp hl) fun v W' h=>.goE O ?_
 obtain ⟨j,hj,h1,h2,hC,hF'⟩:=h
 exact .plain [] Tryz.results55 trivial ⟨j,hj,h1,h2,(Chg.ext e1).trans hC,hF'⟩
end Go.Proofs.YtpgkacdihhjknaaGreat
namespace Go.Kx
open Go Go.RowKit
theorem FP.int {kk:IntKind} {t:TypeId} {S S':Nat->Prop} {w:World} {g:Nat} {l:List Int} (h:FP (eInt kk) t S w g l):FP (eInt kk) t S' w g l:=by
 obtain ⟨es,r,hb,he⟩:=h
 exact ⟨es,r,hb,he.1,fun i e x h1 h2=>he.2 i e x h1 h2⟩
end Go.Kx
namespace Go.Proofs.YtpgkacdihhjknaaGreat
open Go Go.Kx Go.RowKit
theorem BK5 {l:List Int} (hp:l.Pairwise (·<·)) {i:Nat} {x y:Int} (h1:l[i]?=some x) (h2:l[i+1]?=some y):x<y:=by
 obtain ⟨a1,rfl⟩:=List.getElem?_eq_some_iff.1 h1
 obtain ⟨a2,rfl⟩:=List.getElem?_eq_some_iff.1 h2
 exact List.pairwise_iff_getElem.1 hp i (i+1) a1 a2 (Nat.lt_succ_self i)
theorem BE4:Ent Tryz.prog 56:=A0 Tryz.func56 (by kernel_rfl) rfl
set_option maxRecDepth 8000 in
theorem BE6 {S:Nat->Prop} {w:World} {v:Value} {l:List Int} (h:eI.R S w v l) (hp:l.Pairwise (·<·)) (hl:l.length<=1000):CR Tryz.prog 56 #[v] w (Is v):=by
 obtain ⟨a,c,hv,_⟩:=RL.len h
 refine enter Tryz.func56 O Tryz.ntmps56 O (.beg (.go O (.lenR un_I O O h ?_)))
 by_cases h2:l.length<2
 ·exact .lssT O O O (by omega) (.goE O (.plain [_] Tryz.results56 ⟨rfl,trivial⟩ ⟨Ext.refl _,rfl⟩))
 refine .lssF O O O (by omega) (.goC O (.lp (α:=Nat) [0] O (fun k=>[(3,.int .i64 (k:Nat))]) (fun k W=>Ext w W/\1<=k/\k<=l.length) (fun k=>l.length-k) 1 (lc1 O) ⟨Ext.refl _,Nat.le_refl _,by omega⟩ ?_))
 rintro k W ⟨hW,h1,hk⟩
 have hr:=ER.ext eI h hW
 refine .go O (.lenR un_I O O hr (.go O ?_))
 rcases Nat.lt_or_ge k l.length with hlt | hge
 rotate_left
 ·exact .lssF O O O (by omega) (.goE O (.plain [_] Tryz.results56 ⟨rfl,trivial⟩ ⟨hW,rfl⟩))
 obtain ⟨m,rfl⟩:∃ m,k=m+1:=⟨k-1,by omega⟩
 have hg1:=List.getElem?_eq_getElem hlt
 have hg2:=List.getElem?_eq_getElem (l:=l) (i:=m) (by omega)
 have hxy:=BK5 hp hg2 hg1
 generalize l[m+1]=x at hg1 hxy
 generalize l[m]=y at hg2 hxy
 refine .lssT O O O (by omega) (.goC O ?_)
 refine .par follows 9 [.inl _,.inl _,.inr (Ptr (eInt .i64) S x),.inl (.int .i64 x),.inl _,.inl _,.inl (.int .i64 (m:Nat)),.inr (Ptr (eInt .i64) S y),.inl (.int .i64 y)] [[],[],[(16,0),(17,1)],[(18,2)],[],[],[(21,5)],[(20,4),(22,6)],[(23,7)]] (by kernel_rfl) ⟨
  fun w e=>(v_mv O).ob,
  fun w e=>(v_mv O).ob,
  fun w e=>D5 (i:=m+1) un_I A7 O (ER.ext eI hr e) O hg1,
  fun w e x2 hx2=>N0 A7 O hx2,
  fun w e=>(v_mv O).ob,
  fun w e=>(v_mv O).ob,
  fun w e=>((AB1 O O).eq (by rw [wI (by omega)];congr 1;omega)).ob,
  fun w e=>D5 (i:=m) un_I A7 O (ER.ext eI hr e) O hg2,
  fun w e x7 hx7=>N0 A7 O hx7,trivial⟩ ?_
 intro W2 d2 y2 hy2 y7 hy7
 refine .eqlF O O O (by omega) (.go O (.inc O O O (by omega) (.goN O (.mk (m+2) O (lc1 O) ⟨⟨hW.trans d2,by omega,hlt⟩,by show l.length-(m+2)<l.length-(m+1);omega⟩))))
theorem E_Index:Ent Tryz.prog 170:=A0 Tryz.func170 (by kernel_rfl) rfl
set_option maxRecDepth 8000 in
theorem Index_c {S:Nat->Prop} {w:World} {v:Value} {l:List Int} {x:Int} (h:eI.R S w v l) (hl:l.length<=1000):CR Tryz.prog 170 #[v,.int .i64 x] w (fun v _=>∃ r:Int,v=.int .i64 r/\(0<=r<->x∈l)):=by
 refine enter Tryz.func170 O Tryz.ntmps170 O (.beg (.go O (.lenR un_I O O h (.goC O (.lp (α:=Nat) [0,1,7] O (fun k=>[(8,.int .i64 (k:Nat))]) (fun k W=>Ext w W/\k<=l.length/\x∉l.take k) (fun k=>l.length-k) 0 (lc1 O) ⟨Ext.refl _,Nat.zero_le _,by simp⟩ ?_)))))
 rintro k W ⟨hW,hk,hn⟩
 have hr:=ER.ext eI h hW
 refine .go O ?_
 rcases Nat.lt_or_ge k l.length with hlt | hge
 rotate_left
 ·refine .lssF O O O (by omega) (.goE O (.plain [_] Tryz.results170 ⟨rfl,trivial⟩ ⟨hW,-1,rfl,?_⟩))
  rw [List.take_of_length_le hge] at hn
  exact ⟨fun h=>absurd h (by decide),fun h=>absurd h hn⟩
 have hg:=List.getElem?_eq_getElem hlt
 have htk:l.take (k+1)=l.take k++[l[k]]:=by rw [List.take_add_one,hg];rfl
 have hmem:=List.getElem_mem hlt
 generalize l[k]=y at hg htk hmem
 refine .lssT O O O (by omega) (.go O (.ixN (i:=k) un_I A7 O O hr O hg fun q hq=>.ldE (E:=eInt .i64) A7 O O hq fun e he=>?_))
 obtain ⟨rfl,_⟩:=he
 by_cases hxy:x=y
 ·subst hxy
  exact .eqlT O O O O (.goE O (.plain [_] Tryz.results170 ⟨rfl,trivial⟩ ⟨hW,k,rfl,fun _=>hmem,fun _=>by omega⟩))
 ·exact .eqlF O O O hxy (.go O (.inc O O O (by omega) (.goN O (.mk (k+1) O (lc1 O) ⟨⟨hW,hlt,by rw [htk];simp [hn,hxy]⟩,by show l.length-(k+1)<l.length-k;omega⟩))))
theorem AI6:Ent Tryz.prog 115:=A0 Tryz.func115 (by kernel_rfl) rfl
theorem AI7 {S:Nat->Prop} {w:World} {v:Value} {l:List Int} {x:Int} (h:eI.R S w v l) (hl:l.length<=1000):CR Tryz.prog 115 #[v,.int .i64 x] w (Is (.bool (decide (x∈l)))):=by
 refine enter Tryz.func115 O Tryz.ntmps115 O (.beg (.go O (.call _ O E_Index O (Index_c h hl) fun v1 w1 e1 h1=>.go O ?_)))
 obtain ⟨r,rfl,hr⟩:=h1
 by_cases h0:0<=r
 ·exact .geqT O O O h0 (.goE O (.plain [_] Tryz.results115 ⟨rfl,trivial⟩ ⟨e1,by rw [decide_eq_true (hr.1 h0)];rfl⟩))
 ·exact .geqF O O O h0 (.goE O (.plain [_] Tryz.results115 ⟨rfl,trivial⟩ ⟨e1,by rw [decide_eq_false fun h=>h0 (hr.2 h)];rfl⟩))
theorem AT0:Ent Tryz.prog 54:=A0 Tryz.func54 (by kernel_rfl) rfl
set_option maxRecDepth 8000 in
theorem AS6 {S:Nat->Prop} {w:World} {v:Value} {l:List Int} (h:eI.R S w v l) (hp:l.Pairwise (·<·)) (h0:∀ x∈l,0<=x) (hl:l.length<=1000):CR Tryz.prog 54 #[v] w (Is (.bool true)):=by
 refine enter Tryz.func54 O Tryz.ntmps54 O (.beg (.go O (.lenR un_I O O h (.goC O (.lp (α:=Nat) [0,5,6] O (fun k=>[(7,.int .i64 (k:Nat))]) (fun k W=>Ext w W/\k<=l.length) (fun k=>l.length-k) 0 (lc1 O) ⟨Ext.refl _,Nat.zero_le _⟩ ?_)))))
 rintro k W ⟨hW,hk⟩
 have hr:=ER.ext eI h hW
 refine .go O ?_
 rcases Nat.lt_or_ge k l.length with hlt | hge
 rotate_left
 ·exact .lssF O O O (by omega) (.goE O (.plain [_] Tryz.results54 ⟨rfl,trivial⟩ ⟨hW,rfl⟩))
 have hg:=List.getElem?_eq_getElem hlt
 have hx:=h0 _ (List.getElem_mem hlt)
 generalize l[k]=x at hg hx
 refine .lssT O O O (by omega) (.go O (.ixN (i:=k) un_I A7 O O hr O hg fun q hq=>.ldE (E:=eInt .i64) A7 O O hq fun e he=>.go O ?_))
 obtain ⟨rfl,_⟩:=he
 refine .lssF O O O (by omega) (.go O ?_)
 have hend:(fun k=>l.length-k) (k+1)<(fun k=>l.length-k) k:=by show l.length-(k+1)<l.length-k;omega
 cases k with
 | zero =>
  exact .gtrF O O O (by omega) (.go O (.inc O O O (by omega) (.goN O (.mk 1 O (lc1 O) ⟨⟨hW,hlt⟩,hend⟩))))
 | succ m =>
  have hg2:=List.getElem?_eq_getElem (l:=l) (i:=m) (by omega)
  have hxy:=BK5 hp hg2 hg
  generalize l[m]=y at hg2 hxy
  refine .gtrT O O O (by omega) (.go O (.sub O O O ?_))
  rw [wI (by omega),show (((m+1:Nat):Int)-1)=((m:Nat):Int) by omega]
  refine .go O (.ixN (i:=m) un_I A7 O O hr O hg2 fun q hq=>.go O (.ldE (E:=eInt .i64) A7 O O hq fun e he=>.go O ?_))
  obtain ⟨rfl,_⟩:=he
  exact .leqF O O O (by omega) (.go O (.inc O O O (by omega) (.goN O (.mk (m+2) O (lc1 O) ⟨⟨hW,hlt⟩,hend⟩))))
structure Ins (o:List Int) (k:Int) (u:List Int):Prop where
 inc:u.Pairwise (·<·)
 mem:∀ x,x∈u<->x=k\/x∈o
 len:u.length=o.length+1
theorem Az7:Ent Tryz.prog 18:=A0 Tryz.func18 (by kernel_rfl) rfl
set_option maxRecDepth 8000 in
theorem Az6 {S:Nat->Prop} {w:World} {va vb:Value} {o:List Int} {k:Int} (up:Up S w) (ha:eI.R S w va o) (hb:eI.R S w vb [k]) (hp:o.Pairwise (·<·)) (h0:∀ x∈o,0<=x) (hk:0<=k) (hko:k∉o) (hl:o.length<=11) :
  CR Tryz.prog 18 #[va,vb] w (Two (fun v W=>∃ u,Ins o k u/\eI.R S W v u) (Is (.int .i64 0))):=by
 refine enter Tryz.func18 O Tryz.ntmps18 O (.beg (.go O ?_))
 refine .call _ O AT0 O (AS6 ha hp h0 (by omega)) fun v1 w1 e1 h1=>?_
 subst h1
 refine .go O (.call _ O AT0 O (AS6 (ER.ext eI hb e1) (List.pairwise_singleton ..) (fun x hx=>by rw [List.mem_singleton.1 hx];exact hk) (by simp)) fun v2 w2 e2 h2=>?_)
 subst h2
 have x2:=e1.trans e2
 have z2:=x2.size
 have hX:∀ {W:World} {v:Value} {l:List Int},Ext w W->eI.R S w v l->eI.R (fun b=>S b/\b<w.heap.size) W v l:=fun e h=>ER.ext eI (ER.lt eI h) e
 refine .go O (.gv O O (Ag3 (E:=eInt .i64) (hsz:=by decide) (base:=w.heap.size) (X:=fun b=>S b/\b<w.heap.size) un_I Z7 O O O OwnL.nil (hX x2 ha) (fun b h=>h.2) (by simp) (by omega) (by decide) z2) ?_)
 rintro v3 w3 ⟨hO3,b3⟩
 rw [List.nil_append] at hO3
 have x3:Ext w w3:=Below.trans x2 b3
 refine .go O (.gv O O (Ag3 (E:=eInt .i64) (hsz:=by decide) (base:=w.heap.size) (X:=fun b=>S b/\b<w.heap.size) un_I Z7 O O O hO3 (hX x3 hb) (fun b h=>h.2) (by omega) (by simp) (by decide) x3.size) ?_)
 rintro v4 w4 ⟨hO4,b4⟩
 have x4:Ext w w4:=Below.trans x3 b4
 obtain ⟨g,cap,rfl,c1,c2,hg,hF⟩:=hO4.fp (by simp)
 have hlen:(o++[k]).length=o.length+1:=by simp
 rw [hlen] at c1 ⊢
 refine .go O (.callG _ O E_Sort O (Sort_c (hF.mono fun _ _ _=>trivial) hp hl) fun v5 w5 h5=>?_)
 obtain ⟨j,hj,hd,ht,hC,hF5⟩:=h5
 have hIns:Ins o k (insAt o j k []):=by
  refine ⟨?_,fun x=>?_,by rw [AE9 hj];rfl⟩
  ·unfold insAt
   rw [List.append_nil]
   refine List.pairwise_append.2 ⟨hp.sublist (List.take_sublist _ _),List.pairwise_cons.2 ⟨hd,hp.sublist (List.drop_sublist _ _)⟩,fun a ha b hb=>?_⟩
   have h1:=ht a ha
   have h2:a≠k:=fun e=>hko (e▸List.mem_of_mem_take ha)
   rcases List.mem_cons.1 hb with rfl | hb
   ·omega
   ·have:=hd b hb;omega
  ·unfold insAt
   rw [List.append_nil,List.mem_append,List.mem_cons]
   conv=>rhs;rw [<-List.take_append_drop j o,List.mem_append]
   constructor
   ·rintro (h | h | h)
    ·exact .inr (.inl h)
    ·exact .inl h
    ·exact .inr (.inr h)
   ·rintro (h | h | h)
    ·exact .inr (.inl h)
    ·exact .inl h
    ·exact .inr (.inr h)
 have x5:Ext w w5:=hC.below x4 x4.size fun b hb=>by rw [hb];exact hg
 have hR:=(hF5.int (S':=S)).toR (hsz:=by decide) (c:=cap) (up g hg) (by rw [hIns.len];exact c1) (by rw [hIns.len];omega)
 rw [hIns.len] at hR
 refine .go O (.call _ O BE4 O (BE6 hR hIns.inc (by rw [hIns.len];omega)) fun v6 w6 e6 h6=>?_)
 subst h6
 exact .goE O (.plain [_,_] Tryz.results18 ⟨rfl,rfl,trivial⟩ ⟨x5.trans e6,_,_,rfl,⟨_,hIns,ER.ext eI hR e6⟩,rfl⟩)
end Go.Proofs.YtpgkacdihhjknaaGreat
namespace Go.Kx
open Go Go.RowKit
theorem Aw3 (P:Nat->Bool) (i:Nat):∀ d,∃ t,(List.range (i+d)).filter P=(List.range i).filter P++t
 | 0=>⟨[],by simp⟩
 | d+1=>by
  obtain ⟨t,ht⟩:=Aw3 P i d
  rw [show i+(d+1)=(i+d)+1 by omega,List.range_succ,List.filter_append,ht,List.append_assoc]
  exact ⟨_,rfl⟩
theorem BH2 {P:Nat->Bool} {r C:Nat} (hr:r<C) (hP:P r=true):((List.range C).filter P).getD ((List.range r).filter P).length 0=r/\((List.range r).filter P).length<((List.range C).filter P).length:=by
 obtain ⟨t,ht⟩:=Aw3 P (r+1) (C-(r+1))
 rw [show r+1+(C-(r+1))=C by omega,List.range_succ,List.filter_append] at ht
 have e:List.filter P [r]=[r]:=by simp [hP]
 rw [e] at ht
 rw [ht]
 constructor
 ·rw [List.getD_eq_getElem?_getD,List.append_assoc,List.getElem?_append_right (Nat.le_refl _)];simp
 ·simp
def Nw.refsTo (n:Nw) (b:Nat):List Nat:=(List.range b).filter fun r=>decide (n.root r=r)
theorem Nw.refsTo_len (n:Nw) (b:Nat):(n.refsTo b).length=n.cnt b:=rfl
theorem Nw.refsTo_succ (n:Nw) (b:Nat):n.refsTo (b+1)=n.refsTo b++if n.root b=b then [b] else []:=by
 unfold Nw.refsTo
 rw [List.range_succ,List.filter_append]
 by_cases h:n.root b=b
 ·simp [h]
 ·simp [h]
theorem Nw.cnt_mono (n:Nw) (a:Nat):∀ d,n.cnt a<=n.cnt (a+d)
 | 0=>Nat.le_refl _
 | d+1=>by have:=Nw.cnt_mono n a d;have:=n.cnt_succ (a+d);rw [show a+(d+1)=a+d+1 by omega];omega
theorem Nw.lab_cnt (n:Nw) (b:Nat):n.lab b=n.cnt b<->n.root b=b:=by
 refine ⟨fun h=>?_,fun h=>n.lab_root h⟩
 have hle:=Nw.root_le (n:=n) b
 rcases Nat.lt_or_ge (n.root b) b with hlt | hge
 ·exfalso
  have h1:n.lab b=n.cnt (n.root b):=rfl
  have h2:=n.cnt_succ (n.root b)
  rw [if_pos (Nw.root_root b)] at h2
  have h3:=n.cnt_mono (n.root b+1) (b-(n.root b+1))
  rw [show n.root b+1+(b-(n.root b+1))=b by omega] at h3
  omega
 ·omega
theorem Nw.refs_lab (n:Nw) {b:Nat} (hb:b<n.B):n.refs.getD (n.lab b) 0=n.root b/\n.lab b<n.refs.length:=by
 have hle:=Nw.root_le (n:=n) b
 exact BH2 (P:=fun r=>decide (n.root r=r)) (r:=n.root b) (C:=n.B) (by omega) (decide_eq_true (Nw.root_root b))
theorem Nw.mem_refs {n:Nw} {r:Nat}:r∈n.refs<->r<n.B/\n.root r=r:=by
 unfold Nw.refs
 rw [List.mem_filter,List.mem_range]
 simp
theorem Nw.lab_eq {n:Nw} {a b:Nat} (ha:a<n.B) (hb:b<n.B):n.lab a=n.lab b<->n.root a=n.root b:=by
 constructor
 ·intro h
  rw [<-(n.refs_lab ha).1,<-(n.refs_lab hb).1,h]
 ·intro h;unfold Nw.lab;rw [h]
end Go.Kx
namespace Go.Proofs.YtpgkacdihhjknaaGreat
open Go Go.Kx Go.RowKit
theorem AG7:Ent Tryz.prog 93:=A0 Tryz.func93 (by kernel_rfl) rfl
theorem AG2 {S:Nat->Prop} {w:World} {vn vo:Value} {n:NtV} {o:List Int} (up:Up S w) (hn:eN.R S w vn n) (ho:eI.R S w vo o) :
  CR Tryz.prog 93 #[vn,vo] w (Two (eI.at S (if outE n o=0 then pInts (nwOf n o).refs else [])) (Is (.int .i64 (outE n o)))):=by
 have hvn:=shpA (E:=eN) O hn
 refine enter Tryz.func93 O Tryz.ntmps93 O ?_
 refine .sr (.box O O fun w1 b2 n1=>.asg O O (.an O O ?_))
 obtain ⟨e1,k2,hb2,hs1⟩:=n1
 refine .sr (.ldA ty_N O O k2 (eN.csz hn) (.mv O O ?_))
 rw [<-hvn]
 refine .call _ O AD8 O (AC9 (up.ext e1.size) (hn.ext e1) (ho.ext e1)) fun v2 w2 e2 h2=>?_
 obtain ⟨vl,ve,rfl,hl,he⟩:=h2
 replace he:ve=.int .i64 (outE n o):=he
 subst he
 have x2:=e1.trans e2
 refine .mv O O (.ext O O O (.ext O O O (.asg O O (.an O O (.seq (.sr (.mv O O ?_)))))))
 by_cases hE:outE n o=0
 rotate_left
 ·refine .neqT O O O hE (.nil (.condT O (.sr (.mv O O (.asg O O (.an O O (.ret ?_)))))))
  refine .plain [_,_] Tryz.results93 ⟨rfl,rfl,trivial⟩ ⟨x2,_,_,rfl,?_,rfl⟩
  rw [if_neg hE];exact RL.nil
 have ok:=I0 hE
 rw [if_pos hE] at hl ⊢
 have hB6:=ok.b6
 refine .neqF O O O hE (.nil (.condF O (.skip (.sr (.an O O ?_)))))
 have hlW:∀ {W:World},Below w2.heap.size w2 W->eI.R (fun k=>S k/\k<w2.heap.size) W vl (tabI (nwOf n o).B (nwOf n o).lab):=fun h=>eI.keep (fun k c t f hk hh=>(h.block k hk.2).trans hh) (ER.lt eI hl)
 refine .seq (.sr (.mv O O (.lenR un_I O O hl (.mv O O (.nil ?_)))))
 rw [L4]
 refine .block (.loop (α:=Nat×Value) (fun y=>[(8,y.2),(20,vl),(21,.int .i64 ((nwOf n o).B:Nat)),(22,.int .i64 (y.1:Nat))]) (fun y W=>Below w2.heap.size w2 W/\y.1<=(nwOf n o).B/\OwnL (eInt .i64) 3 w2.heap.size S W y.2 (pInts ((nwOf n o).refsTo y.1))) (fun y=>(nwOf n o).B-y.1) (0,.slice none 0 0) ?_ ?_ ?_)
 ·exact lkA rfl
 ·exact ⟨Below.refl _ _,Nat.zero_le _,OwnL.nil⟩
 rintro ⟨i,v⟩ W ⟨hW,hi,hown⟩
 replace hW:Below w2.heap.size w2 W:=hW
 replace hi:i<=(nwOf n o).B:=hi
 replace hown:OwnL (eInt .i64) 3 w2.heap.size S W v (pInts ((nwOf n o).refsTo i)):=hown
 refine .sr ?_
 rcases Nat.lt_or_ge i (nwOf n o).B with hlt | hge
 rotate_left
 ·refine .lssF O O O (by omega) (.nil (.seq (.condF O (.exit (.sr (.mv O O (.asg O O (.an O O (.ret ?_)))))))))
  have:i=(nwOf n o).B:=by omega
  subst this
  refine .plain [_,_] Tryz.results93 ⟨rfl,rfl,trivial⟩ ⟨x2.trans hW,_,_,rfl,?_,by rw [hE]⟩
  exact hown.toR (fun k hk=>up k (by have:=x2.size;omega)) (fun _ h=>h)
 refine .lssT O O O (by omega) (.nil (.seq (.condT O (.skip (.seq (.block (.sr (.mv O O (.ixN (i:=i) un_I A7 O O (hlW hW) O (AC2 hlt) fun q hq=>.ldE (E:=eInt .i64) A7 O O hq fun e he=>.asg O O (.an O O ?_))))))))))
 obtain ⟨rfl,_⟩:=he
 have hvl:eI.R (fun k=>S k\/w2.heap.size<=k) W v (pInts ((nwOf n o).refsTo i)):=hown.toR (fun k hk=>.inr hk) (fun _ h=>.inl h)
 have hcl:=(nwOf n o).cnt_le i
 have hlb:=(nwOf n o).lab_cnt i
 have hrs:=(nwOf n o).refsTo_succ i
 have hlen:(pInts ((nwOf n o).refsTo i)).length=(nwOf n o).cnt i:=by simp [Nw.refsTo_len]
 refine .sr (.mv O O (.mv O O (.lenR un_I O O hvl ?_)))
 rw [hlen]
 by_cases hr:(nwOf n o).root i=i
 ·rw [if_pos hr] at hrs
  refine .eqlT O O O (by rw [hlb.2 hr]) (.nil (.condT O (.region (.mv O O (.mv O O (.bsl _ O O AI2 fun W1 by_ ny=>?_))))))
  obtain ⟨ey,ky,hby,hsy⟩:=ny
  have hW1:=hW.trans (ey.mono hW.size)
  refine .gv O O (AH8 (E:=eInt .i64) (base:=w2.heap.size) (n:=((i:Nat):Int)) (e:=.int .i64 (i:Nat)) (by decide) un_I Z7 O O O (hown.ext ey) ky ⟨rfl,E0.2 (by omega)⟩ (by rw [hlen];omega) (by decide) hW1.size) ?_
  rintro v8 W8 ⟨ho8,hg8⟩
  refine .an O O (.region (.add O O O (.mv O O (.nil ?_))))
  rw [wI (by omega)]
  refine ⟨rfl,(i+1,v8),lkA rfl,⟨(hown.ext ey).below hg8 hW1 hW1.size,hlt,?_⟩,by show (nwOf n o).B-(i+1)<(nwOf n o).B-i;omega⟩
  show OwnL (eInt .i64) 3 w2.heap.size S W8 v8 (pInts ((nwOf n o).refsTo (i+1)))
  rw [hrs]
  unfold pInts
  rw [List.map_append]
  exact ho8
 ·rw [if_neg hr,List.append_nil] at hrs
  refine .eqlF O O O (by intro e;exact hr (hlb.1 (by omega))) (.nil (.condF O (.skip (.region (.add O O O (.mv O O (.nil ?_)))))))
  rw [wI (by omega)]
  refine ⟨rfl,(i+1,v),lkA rfl,⟨hW,hlt,?_⟩,by show (nwOf n o).B-(i+1)<(nwOf n o).B-i;omega⟩
  show OwnL (eInt .i64) 3 w2.heap.size S W v (pInts ((nwOf n o).refsTo (i+1)))
  rw [hrs];exact hown
end Go.Proofs.YtpgkacdihhjknaaGreat
namespace Go.Kx
open Go Go.RowKit
def Nw.lmL (n:Nw) (l:List Nat):RM:=fun b c=>l.foldl (fun s k=>s+n.g k*(n.inc k b*n.inc k c)) 0
theorem Nw.lmL_snoc (n:Nw) (l:List Nat) (k b c:Nat):n.lmL (l++[k]) b c=n.lmL l b c+n.g k*(n.inc k b*n.inc k c):=by unfold Nw.lmL;rw [List.foldl_append];rfl
theorem Nw.lmL_free {n:Nw} {p:List Nat} (b c:Nat):∀ j,(∀ k,k<j->(n.g k=0<->k∈p))->n.lmL (freeTo p j) b c=sumN j fun k=>n.g k*(n.inc k b*n.inc k c)
 | 0,_=>rfl
 | j+1,h=>by
  have ih:=Nw.lmL_free (n:=n) (p:=p) b c j fun k hk=>h k (by omega)
  have hj:=h j (by omega)
  rw [Go.Proofs.YtpgkacdihhjknaaGreat.L8]
  show _=sumN j _+_
  by_cases hg:n.g j=0
  ·rw [if_pos (hj.1 hg),List.append_nil,ih]
   dsimp only
   rw [hg,Rat.zero_mul,Rat.add_zero]
  ·rw [if_neg (fun h=>hg (hj.2 h)),Nw.lmL_snoc,ih]
def upE (f:RM) (i j:Nat) (y:Rat):RM:=fun b c=>if b=i then (if c=j then y else f i c) else f b c
theorem Aw1 {g:Rat} {s:Rat} {L:Nat} (h:Rsz g L) (hL:1<=L) (hs:s=0\/s=1\/s = -1):Rsz (g*s) L:=by
 rcases hs with rfl | rfl | rfl
 ·rw [Rat.mul_zero];exact Rsz.zero hL
 ·rw [Rat.mul_one];exact h
 ·rw [show g*(-1) = -g by grind];exact h.neg
theorem Nw.inc_tri (n:Nw) (k b:Nat):n.inc k b=0\/n.inc k b=1\/n.inc k b = -1:=by
 unfold Nw.inc dl
 split<;>split<;>grind
theorem Nw.lmL_rsz (n:Nw) {L:Nat} (hL:1<=L) (hg:∀ k,Rsz (n.g k) L) (b c:Nat) (l:List Nat):Rsz (n.lmL l b c) (1+l.length*(L+1)):=by
 have key:∀ (m:Nat) (l:List Nat),l.length=m->Rsz (n.lmL l b c) (1+m*(L+1)):=by
  intro m
  induction m with
  | zero=>intro l hl;rw [List.length_eq_zero_iff.1 hl];exact Rsz.zero (by omega)
  | succ m ih =>
   intro l hl
   obtain ⟨l',k,rfl⟩:∃ l' k,l=l'++[k]:=⟨l.dropLast,l.getLast (by intro e;rw [e] at hl;cases hl),(List.dropLast_concat_getLast _).symm⟩
   rw [Nw.lmL_snoc]
   have h1:=ih l' (by simp at hl;exact hl)
   have h2:Rsz (n.g k*(n.inc k b*n.inc k c)) L:=Aw1 (hg k) hL (by
    rcases n.inc_tri k b with h | h | h<;>rcases n.inc_tri k c with h' | h' | h'<;>rw [h,h']<;>grind)
   refine (h1.add h2).mono ?_
   rw [Nat.add_mul];omega
 exact key _ l rfl
end Go.Kx
namespace Go.Proofs.YtpgkacdihhjknaaGreat
open Go Go.Kx Go.RowKit
theorem nwOk.gsz {n:NtV} {o:List Int} (h:nwOk n o) (k:Nat):Rsz ((nwOf n o).g k) 1:=by
 show Rsz (if k∈oN o then (0:Rat) else ((n.ls.getD k ln0).x:Rat)⁻¹) 1
 have hx:1<=(n.ls.getD k ln0).x/\(n.ls.getD k ln0).x<=1000:=by
  rcases Nat.lt_or_ge k n.ls.length with hk | hk
  ·exact h.x k hk
  ·rw [List.getD_eq_getElem?_getD,List.getElem?_eq_none hk];decide
 split
 ·exact Rsz.zero (Nat.le_refl _)
 ·exact (Rsz.int _ (by omega) (Nat.le_refl _)).inv (Nat.le_refl _)
end Go.Proofs.YtpgkacdihhjknaaGreat
namespace Go.Kx
open Go Go.RowKit
def Nw.gA (n:Nw):List (List QV):=tabM n.B n.B n.gm
def Nw.th (n:Nw) (b c:Nat):Rat:=rm (invM n.gA) c b
def Nw.hf (n:Nw) (k b:Nat):Rat:=n.fl (n.th b) k
end Go.Kx
namespace Go.Proofs.YtpgkacdihhjknaaGreat
open Go Go.Kx Go.RowKit
section
variable {n:Nw}
theorem K5:n.gA.length=n.B:=B3 ..
theorem AL0 (hB:1<=n.B):colsOf n.gA=n.B:=by unfold Nw.gA;rw [Ad6,if_neg (by omega)]
theorem rm_gA {i k:Nat} (hi:i<n.B) (hk:k<n.B):rm n.gA i k=n.gm i k:=by unfold Nw.gA;rw [Ae8,if_pos ⟨hi,hk⟩]
theorem As2 (ok:n.Ok) (hB:1<=n.B):invertible n.gA:=by
 have hc:=AL0 hB
 rw [BJ8 (by rw [hc,K5]),K5]
 have h1:=BC2 n.gA
 rw [hc] at h1
 rcases Nat.eq_zero_or_pos (nullM n.gA).length with h0 | hp
 ·omega
 exfalso
 rw [AR8] at hp
 obtain ⟨hk,hkp⟩:=BC6 hp
 rw [hc] at hk
 have hz:=Nw.ker0 (θ:=nv (redF n.gA) (redP n.gA) ((freeC n.gA).getD 0 0)) ok (fun b hb=>by
  have h2:=BB2 (m:=n.gA) (k:=(freeC n.gA).getD 0 0) (by rw [hc];exact hk) b
  rw [hc] at h2
  have h3:=Nw.gm_sum ok (nv (redF n.gA) (redP n.gA) ((freeC n.gA).getD 0 0)) hb
  have h4:sumN n.B (fun c=>rm n.gA b c*nv (redF n.gA) (redP n.gA) ((freeC n.gA).getD 0 0) c)=sumN n.B (fun c=>n.gm b c*nv (redF n.gA) (redP n.gA) ((freeC n.gA).getD 0 0) c):=A1 fun c hc'=>by rw [rm_gA hb hc']
  rw [<-h4,h2] at h3
  split
  ·rw [if_pos (by assumption)] at h3;exact h3.symm
  ·rw [if_neg (by assumption)] at h3;exact h3.symm) _ hk
 rw [nv_self (not_piv hkp)] at hz
 exact absurd hz (by decide)
theorem Ak8 (ok:n.Ok) (hB:1<=n.B) {b i:Nat} (hb:b<n.B) (hi:i<n.B):(if n.root i=i then n.th b i else n.lap (n.th b) i)=dl i b:=by
 have h:=Ac8 (As2 ok hB) (i:=i) (k:=b) (by rw [K5];exact hi) (by rw [K5];exact hb)
 rw [K5] at h
 rw [<-Nw.gm_sum ok (n.th b) hi]
 have e:sumN n.B (fun c=>n.gm i c*n.th b c)=sumN n.B (fun j=>rm n.gA i j*rm (invM n.gA) j b):=A1 fun c hc=>by rw [rm_gA hi hc];rfl
 rw [e,h];rfl
end
theorem gA_mk {n:NtV} {o:List Int} (h:nwOk n o):mk_ 21 (nwOf n o).gA:=Af2 fun b c hb hc=>by
 unfold Nw.gm
 split
 ·unfold dl
  split
  ·exact rsz1 (by decide)
  ·exact Rsz.zero (by decide)
 ·unfold Nw.Lm
  rw [<-Nw.lmL_free (p:=oN o) b c _ fun k hk=>h.g0 hk]
  refine ((nwOf n o).lmL_rsz (Nat.le_refl _) h.gsz b c _).mono ?_
  have:=Ad3 (oN o) (nwOf n o).M
  have:=h.m
  omega
theorem bd216:bd 21 6=87381:=by decide
theorem th_rsz {n:NtV} {o:List Int} (h:nwOk n o) (b c:Nat):Rsz ((nwOf n o).th b c) 87381:=by
 have:=inv_rsz (n:=6) (gA_mk h) (by decide) (by rw [K5];exact h.b6)
 rw [bd216] at this
 exact this.rsz (by decide) c b
theorem fl_rsz {n:NtV} {o:List Int} (h:nwOk n o) {θ:Nat->Rat} {L:Nat} (hθ:∀ c,Rsz (θ c) L) (k:Nat):Rsz ((nwOf n o).fl θ k) (2*L+2):=by
 unfold Nw.fl
 have h1:=(hθ ((nwOf n o).F k)).add (hθ ((nwOf n o).T k)).neg
 rw [<-Rat.sub_eq_add_neg] at h1
 exact ((h.gsz k).mul h1).mono (by omega)
end Go.Proofs.YtpgkacdihhjknaaGreat
namespace Go.Kx
open Go Go.RowKit
section
variable {n:Nw}
theorem Nw.th_root (ok:n.Ok) {b c:Nat} (hb:b<n.B) (hr:n.root b=b) (hc:c<n.B):n.th b c=if n.root c=b then 1 else 0:=by
 refine Nw.uniq (φ:=fun c=>if n.root c=b then 1 else 0) ok (fun i hi=>?_) c hc
 have h:=Go.Proofs.YtpgkacdihhjknaaGreat.Ak8 ok (by omega) hb hi
 split
 ·rename_i hri
  rw [if_pos hri] at h
  rw [h,hri];rfl
 ·rename_i hri
  rw [if_neg hri] at h
  rw [h,AB3 (a:=i) (b:=b) (fun e=>hri (by rw [e];exact hr))]
  symm
  unfold Nw.lap Nw.off
  refine E1 fun k hk=>?_
  unfold Nw.fl
  by_cases hg:n.g k=0
  ·rw [hg];grind
  ·dsimp only
   rw [Nw.root_line hk hg];grind
theorem Nw.hf_root (ok:n.Ok) {k b:Nat} (hk:k<n.M) (hb:b<n.B) (hr:n.root b=b):n.hf k b=0:=by
 unfold Nw.hf Nw.fl
 rw [Nw.th_root ok hb hr (ok.f k hk),Nw.th_root ok hb hr (ok.t k hk)]
 by_cases hg:n.g k=0
 ·rw [hg,Rat.zero_mul]
 ·rw [Nw.root_line hk hg];grind
theorem Nw.lap_th (ok:n.Ok) {b i:Nat} (hb:b<n.B) (hi:i<n.B):n.lap (n.th b) i=dl i b-dl i (n.root b):=by
 have hB:1<=n.B:=by omega
 have hsum:=Nw.off_clo (f:=n.fl (n.th b)) ok (Nw.clo_root (n:=n) (n.root i)) fun k _ hg=>Nw.fl_out hg
 by_cases hr:n.root b=b
 ·rw [hr]
  have:n.lap (n.th b) i=0:=by
   unfold Nw.lap Nw.off
   refine E1 fun k hk=>?_
   rw [show n.fl (n.th b) k=n.hf k b from rfl,Nw.hf_root ok hk hb hr,Rat.mul_zero]
  rw [this];grind
 by_cases hri:n.root i=i
 ·rw [hri] at hsum
  have e:sumN n.B (fun c=>if n.root c=i then n.off (n.fl (n.th b)) c else 0)=sumN n.B (fun c=>(if c=i then n.lap (n.th b) i else 0)+(if n.root c=i then dl c b else 0)):=A1 fun c hc=>by
   have h:=Go.Proofs.YtpgkacdihhjknaaGreat.Ak8 ok hB hb hc
   by_cases hci:c=i
   ·subst hci
    rw [if_pos hri,if_pos rfl,if_pos hri,AB3 (a:=c) (b:=b) (fun e=>hr (by rw [<-e];exact hri))]
    show n.lap (n.th b) c=_
    grind
   ·rw [if_neg hci]
    by_cases hrc:n.root c=i
    ·have hcn:n.root c≠c:=fun e=>hci (by rw [<-hrc];exact e.symm)
     rw [if_neg hcn] at h
     rw [if_pos hrc,if_pos hrc]
     show n.lap (n.th b) c=_
     rw [h];grind
    ·rw [if_neg hrc,if_neg hrc];grind
  rw [e,AC4,E2 (i:=i) (fun c _ hne=>if_neg hne),if_pos hi,if_pos rfl,E2 (i:=b) (fun c _ hne=>by rw [AB3 hne];split<;>rfl),if_pos hb,AF4] at hsum
  have hib:i≠b:=fun e=>hr (e▸hri)
  rw [AB3 hib]
  by_cases hrb:n.root b=i
  ·rw [if_pos hrb] at hsum
   rw [hrb,AF4];grind
  ·rw [if_neg hrb] at hsum
   rw [AB3 (Ne.symm hrb)];grind
 ·have h:=Go.Proofs.YtpgkacdihhjknaaGreat.Ak8 ok hB hb hi
  rw [if_neg hri] at h
  rw [h,AB3 (a:=i) (b:=n.root b) (fun e=>hri (by rw [e];exact Nw.root_root b))]
  grind
end
end Go.Kx
namespace Go.Proofs.YtpgkacdihhjknaaGreat
open Go Go.Kx Go.RowKit
theorem Au4:Ent Tryz.prog 206:=A0 Tryz.func206 (by kernel_rfl) rfl
theorem As4 {S:Nat->Prop} {w:World} {n d:Int} (up:Up S w) (hn1 : -9223372036854775808<=n) (hn2:n<=9223372036854775807) (hd1 : -9223372036854775808<=d) (hd2:d<=9223372036854775807) (hd:d≠0) :
  CR Tryz.prog 206 #[.int .i64 n,.int .i64 d] w (Two (eQ.at S (qc (Rat.divInt n d))) (Is (.int .i64 0))):=by
 refine enter Tryz.func206 O Tryz.ntmps206 O (.sr (.alloc O D3 fun w1 b4 n1=>.an O O ?_))
 obtain ⟨e1,k4,hb4,hs1⟩:=n1
 have hS4:¬ Sx S w.heap.size w1.heap.size b4:=Sx.no (by omega) (by omega)
 have up1:Up (Sx S w.heap.size w1.heap.size) w1:=Sx.up up (Nat.le_refl _) e1.size
 refine .seq (.sr (.mv O O (.eqlF O O O hd (.nil (.condF O (.skip (.sr (.mv O O (.call _ O C6 O (C5 up1 hn1 hn2) fun v2 w2 e2 h2=>.mv O O (.call _ O C6 O (C5 (up1.ext e2.size) hd1 hd2) fun v3 w3 e3 h3=>(.call _ O X3 O (Aa7 (L:=2) (up1.ext (e2.trans e3).size) (Zv.of (ER.ext eZ h2 e3) (by omega)) (Zv.of h3 (by omega)) hd (by decide)) fun v5 w5 e5 h5=>?_)))))))))))
 have x5:=((e1.trans e2).trans e3).trans e5
 refine .storeA (E:=eQ) ty_Q O O (((k4.ext e2).ext e3).ext e5) O O h5 hS4 fun w6 k6 u6 h6=>.an O O (.ret ?_)
 exact .plain [_,_] Tryz.results206 ⟨⟨_,rfl,E3 (E:=eQ) ty_Q O O k6 h6⟩,rfl,trivial⟩ ⟨u6.below x5 (by omega),_,_,rfl,h6.out,rfl⟩
theorem Ap0:Ent Tryz.prog 63:=A0 Tryz.func63 (by kernel_rfl) rfl
theorem Aj7 {S:Nat->Prop} {w:World} {v:Value} {z:ZV} (up:Up S w) (h:eZ.R S w v z) (hl:z.w.length<=1099511627776):CR Tryz.prog 63 #[v] w (eZ.at S (zc ((zval z).natAbs:Nat))):=by
 obtain ⟨s,rfl,hs⟩:=h
 refine enter Tryz.func63 O Tryz.ntmps63 O (.sr (.box O O fun w1 b1 n1=>.alloc O C9 fun w2 b2 n2=>.nil ?_))
 obtain ⟨e1,k1,hb1,hs1⟩:=n1
 obtain ⟨e2,k2,hb2,hs2⟩:=n2
 have k1:=k1.ext e2
 have hx:=e1.trans e2
 have hp:=(hs.par w2.heap.size).ext hx
 have upx:Up (Sx S w.heap.size w2.heap.size) w2:=Sx.up up (Nat.le_refl _) hx.size
 refine .sr (.fa F4 O O (.ld ty_W O O k1 O (.call _ O B5 O (B4 hp) fun v3 w3 e3 h3=>(.call _ O AN7 O (AV4 (upx.ext e3.size) h3 (Nat.le_trans (N2 _) hl)) fun v4 w4 e4 h4=>(.call _ O F3 O (F2 (upx.ext (e3.trans e4).size) h4) fun v5 w5 e5 h5=>(.storeA ty_Z O O (((k2.ext e3).ext e4).ext e5) O O h5 (Sx.no (by omega) (by omega)) fun w6 k6 u6 h6=>.nil (.ret (.cell Tryz.results63 O ty_Z O O k6 h6 ⟨u6.below (((hx.trans e3).trans e4).trans e5) (by omega),?_⟩))))))))
 have:zc ((zval z).natAbs:Nat)=zc (sg false (val (trimL z.w))):=by
  rw [AO3];unfold zval sg;cases z.neg<;>simp
 rw [this]
 exact h6.out
def absR (r:Rat):Rat:=if r<0 then -r else r
theorem qc_abs (r:Rat):qc (absR r)=⟨zc (r.num.natAbs:Nat),(qc r).den⟩:=by
 unfold absR
 split
 ·rename_i h
  have:r.num<0:=by
   by_cases h1:r.num<0
   ·exact h1
   ·exact absurd h (Rat.not_lt.2 (Rat.num_nonneg.1 (by omega)))
  rw [BH6]
  congr 1
  congr 1
  omega
 ·rename_i h
  have:0<=r.num:=Rat.num_nonneg.2 (Rat.not_lt.1 h)
  unfold qc
  congr 1
  congr 1
  omega
theorem Au5:Ent Tryz.prog 21:=A0 Tryz.func21 (by kernel_rfl) rfl
theorem As8 {S:Nat->Prop} {w:World} {va:Value} {a:QV} {L:Nat} (up:Up S w) (ha:eQ.R S w va a) (hk:qk L a) (hL:1<=L) (hL2:L<=100000000000) :
  CR Tryz.prog 21 #[va] w (eQ.at S (qc (absR (qval a)))):=by
 have hva:=shpA O ha
 refine enter Tryz.func21 O Tryz.ntmps21 O ?_
 refine .sr (.box O O fun w1 b1 n1=>.alloc O D3 fun w2 b2 n2=>.nil ?_)
 obtain ⟨e1,k1,hb1,hs1⟩:=n1
 obtain ⟨e2,k2,hb2,hs2⟩:=n2
 have x2:=e1.trans e2
 have k1:=k1.ext e2
 have hS2:¬ Sx S w.heap.size w2.heap.size b2:=Sx.no (by omega) (by omega)
 have up2:Up (Sx S w.heap.size w2.heap.size) w2:=Sx.up up (Nat.le_refl _) x2.size
 have ha2:=(ha.par w2.heap.size).ext x2
 have hout:∀ {W:World} {v:Value} {z:QV},eQ.R (Sx S w.heap.size w2.heap.size) W v z->eQ.R S W v z:=fun h=>h.out
 generalize hT:Sx S w.heap.size w2.heap.size=T at *
 refine .sr (.ldA ty_Q O O k1 (eQ.csz ha) ?_)
 rw [<-hva]
 refine .call _ O K2 O (O7 up2 ha2 hk.1 hL (by omega)) fun v3 w3 e3 h3=>.alloc O D3 fun w4 b3 n4=>?_
 obtain ⟨e4,k3,hb3,hs4⟩:=n4
 have hkc:qk L (qc (qval a)):=R0 hk.2
 have h3l:=(ER.lt eQ h3).ext e4
 have hno:¬ (T b3/\b3<w3.heap.size):=fun h=>by have:=h.2;omega
 refine .storeA (E:=eQ) ty_Q O O k3 O O h3l hno fun w5 k3 u5 h5=>.nil ?_
 have h5:eQ.R T w5 v3 (qc (qval a)):=eQ.mono (fun k _ h=>h.1) h5
 clear h3 h3l
 obtain ⟨s,t,rfl,hn,hd⟩:=R9 h5
 replace k3:Blk w5 b3 39 #[.bool (qc (qval a)).num.neg,s,.bool (qc (qval a)).den.neg,t]:=k3
 have hs2':=x2.size
 have hs3':=e3.size
 have hs5':=u5.size
 have x4:=(x2.trans e3).trans e4
 have x5:Ext w w5:=u5.below x4 (by omega)
 have k2:=((k2.ext e3).ext e4).upd u5 (show b2≠b3 by omega)
 have up5:=up2.ext (show w2.heap.size<=w5.heap.size by omega)
 have hnum:zval (qc (qval a)).num=(qval a).num:=H9 _
 refine .seq ?_
 refine .par follows 6 [.inl _,.inl (.agg #[.bool (qc (qval a)).num.neg,s]),.inr (eZ.at T (zc ((qval a).num.natAbs:Nat))),.inl _,.inl (.agg #[.bool (qc (qval a)).den.neg,t]),.inr (eQ.at T (qc (absR (qval a))))] [[],[(6,0)],[(7,1)],[],[(9,3)],[(8,2),(10,4)]] (by kernel_rfl) ⟨
  fun w e=>(v_fa R7 O).ob,fun w e=>(AB9 [.bool (qc (qval a)).num.neg,s] ty_Z O (k3.ext e) BG1).ob,
  fun w e=>by
   have:=Aj7 (up5.ext e.size) (ER.ext eZ hn e) (Nat.le_trans hkc.1.1 (by omega))
   rw [hnum] at this
   exact (A5 _ Ap0 O this).ob (A9 _ _ _),
  fun w e=>(v_fa V6 O).ob,fun w e=>(AB9 [.bool (qc (qval a)).den.neg,t] ty_Z O (k3.ext e) Av6).ob,
  fun w e x hx=>by
   obtain ⟨sx,rfl,hsx⟩:=hx
   obtain ⟨st,hst,hsd⟩:=ER.ext eZ hd e
   have est:st=t:=by simpa using hst.symm
   subst est
   refine L7 (Ak3 [(0,.agg #[.bool (zc ((qval a).num.natAbs:Nat)).neg,sx]),(1,.agg #[.bool (qc (qval a)).den.neg,st])] O Ah3) ?_ (A9 _ _ _)
   rw [qc_abs]
   exact ⟨sx,st,rfl,hsx,hsd⟩,trivial⟩ ?_
 rintro w6 e6 x-z hz
 refine .storeA (E:=eQ) ty_Q O O (k2.ext e6) O O hz hS2 fun w7 k7 u7 h7=>.nil (.ret ?_)
 exact .cell Tryz.results21 O ty_Q O O k7 h7 ⟨u7.below (x5.trans e6) (by omega),hout h7⟩
end Go.Proofs.YtpgkacdihhjknaaGreat
namespace Go.Kx
open Go Go.RowKit
section
variable {n:Nw}
theorem Nw.fl_sub (θ φ:Nat->Rat) (k:Nat):n.fl (fun c=>θ c-φ c) k=n.fl θ k-n.fl φ k:=by unfold Nw.fl;grind
end
theorem OwnL.one {α:Type} {E:ER α} {t:TypeId} {base:Nat} {X:Nat->Prop} {w w':World} {b:Nat} {e:Value} {x:α} (hn:New w w' b t e.cells) (hb:base<=w.heap.size) (hs:e.cells.size=E.sz) (hx:E.R (fun k=>X k/\k≠b) w' e x):OwnL E t base X w' (.slice (some ⟨b,0,none⟩) 1 1) [x]:=by
 obtain ⟨_,hk,hb',_⟩:=hn
 have hc:cellsOf [e]=e.cells.toList:=by simp [cellsOf]
 refine ⟨[e],⟨by rw [hc];simp [hs],.inr ⟨b,1,_,rfl,by omega,hk,Nat.le_refl _,by decide,by simp [hs],by rw [hc,List.take_of_length_le (by simp [hs])]⟩⟩,rfl,fun i e' x' he hx'=>?_⟩
 have hi:i=0:=by
  cases i with
  | zero=>rfl
  | succ i=>simp at he
 subst hi
 simp at he hx'
 subst he;subst hx'
 exact E.mono (fun k _ h=>⟨h.1,fun e=>h.2 (by simpa [Value.ownBlock] using e.symm)⟩) hx
section
variable {n:Nw}
theorem Nw.lap_add (θ φ:Nat->Rat) (b:Nat):n.lap (fun c=>θ c+φ c) b=n.lap θ b+n.lap φ b:=by
 unfold Nw.lap Nw.off
 rw [<-AC4]
 refine A1 fun k _=>?_
 unfold Nw.fl;grind
theorem Nw.lap_smul (θ:Nat->Rat) (y:Rat) (b:Nat):n.lap (fun c=>θ c*y) b=n.lap θ b*y:=by
 unfold Nw.lap Nw.off
 rw [<-O4]
 refine A1 fun k _=>?_
 unfold Nw.fl;grind
theorem Nw.lap_zero (b:Nat):n.lap (fun _=>0) b=0:=by
 unfold Nw.lap Nw.off
 refine E1 fun k _=>?_
 unfold Nw.fl;grind
theorem Nw.lap_lin (t:Nat->Nat->Rat) (y:Nat->Rat) (i:Nat):∀ m,n.lap (fun c=>sumN m fun b=>t b c*y b) i=sumN m fun b=>n.lap (t b) i*y b
 | 0=>Nw.lap_zero i
 | m+1=>by
  show n.lap (fun c=>(sumN m fun b=>t b c*y b)+t m c*y m) i=(sumN m fun b=>n.lap (t b) i*y b)+n.lap (t m) i*y m
  rw [Nw.lap_add,Nw.lap_lin t y i m,Nw.lap_smul]
theorem Nw.fl_lin (t:Nat->Nat->Rat) (y:Nat->Rat) (k:Nat):∀ m,n.fl (fun c=>sumN m fun b=>t b c*y b) k=sumN m fun b=>n.fl (t b) k*y b
 | 0=>by unfold Nw.fl;show n.g k*(0-0)=0;grind
 | m+1=>by
  have ih:=Nw.fl_lin t y k m
  show n.fl (fun c=>(sumN m fun b=>t b c*y b)+t m c*y m) k=(sumN m fun b=>n.fl (t b) k*y b)+n.fl (t m) k*y m
  rw [<-ih]
  unfold Nw.fl;grind
def Nw.inj0 (n:Nw) (x:Nat->Rat) (b:Nat):Rat:=if n.root b=b then 0 else x b
def Nw.an (n:Nw) (x:Nat->Rat) (c:Nat):Rat:=sumN n.B fun b=>n.th b c*n.inj0 x b
theorem Nw.an_eq (ok:n.Ok) (x:Nat->Rat) {i:Nat} (hi:i<n.B):(if n.root i=i then n.an x i else n.lap (n.an x) i)=n.inj0 x i:=by
 have hB:1<=n.B:=by omega
 have key:∀ b,b<n.B->(if n.root i=i then n.th b i else n.lap (n.th b) i)=dl i b:=fun b hb=>Go.Proofs.YtpgkacdihhjknaaGreat.Ak8 ok hB hb hi
 by_cases hr:n.root i=i
 ·rw [if_pos hr]
  unfold Nw.an
  rw [<-AC3 (n.inj0 x) hi]
  refine A1 fun b hb=>?_
  have:=key b hb
  rw [if_pos hr] at this
  rw [this,Rat.mul_comm]
 ·rw [if_neg hr]
  unfold Nw.an
  rw [Nw.lap_lin,<-AC3 (n.inj0 x) hi]
  refine A1 fun b hb=>?_
  have:=key b hb
  rw [if_neg hr] at this
  rw [this,Rat.mul_comm]
def Nw.bal (n:Nw) (x:Nat->Rat):Prop:=∀ r,r<n.B->n.root r=r->sumN n.B (fun b=>if n.root b=r then x b else 0)=0
theorem Nw.lap_an (ok:n.Ok) {x:Nat->Rat} (hb:n.bal x) {i:Nat} (hi:i<n.B):n.lap (n.an x) i=x i:=by
 have h0:∀ i,i<n.B->n.root i≠i->n.lap (n.an x) i=x i:=fun i hi hr=>by
  have:=n.an_eq ok x hi
  rw [if_neg hr] at this
  rw [this]
  unfold Nw.inj0
  rw [if_neg hr]
 by_cases hr:n.root i=i
 rotate_left
 ·exact h0 i hi hr
 have h1:=Nw.off_clo (n:=n) (f:=n.fl (n.an x)) (D:=fun b=>n.root b=i) ok (Nw.clo_root i) fun k _ hg=>Nw.fl_out hg
 have h2:=hb i hi hr
 have h3:sumN n.B (fun b=>(if n.root b=i then n.off (n.fl (n.an x)) b else 0)-(if n.root b=i then x b else 0))=0:=by
  rw [Y1,h1,h2];grind
 have h4:sumN n.B (fun b=>(if n.root b=i then n.off (n.fl (n.an x)) b else 0)-(if n.root b=i then x b else 0))=sumN n.B fun b=>(n.lap (n.an x) i-x i)*dl i b:=A1 fun b hb=>by
  by_cases e:i=b
  ·subst e
   rw [if_pos hr,if_pos hr,AF4]
   unfold Nw.lap;grind
  ·rw [AB3 e]
   by_cases h:n.root b=i
   ·rw [if_pos h,if_pos h]
    have:=h0 b hb (fun h'=>e (h.symm.trans h'))
    unfold Nw.lap at this
    rw [this];grind
   ·rw [if_neg h,if_neg h];grind
 have h5:=AC3 (n:=n.B) (a:=i) (fun _=>n.lap (n.an x) i-x i) hi
 have h6:=h4.symm.trans h3
 grind
theorem Nw.fl_an (ok:n.Ok) (x:Nat->Rat) {k:Nat} (hk:k<n.M):n.fl (n.an x) k=sumN n.B fun b=>n.hf k b*x b:=by
 unfold Nw.an
 rw [Nw.fl_lin]
 refine A1 fun b hb=>?_
 unfold Nw.inj0
 by_cases hr:n.root b=b
 ·rw [if_pos hr,Nw.hf_root ok hk hb hr];grind
 ·rw [if_neg hr];rfl
theorem Nw.bal_lab (x:Nat->Rat):n.bal x<->∀ j,j<n.B->sumN n.B (fun b=>if n.lab b=j then x b else 0)=0:=by
 have key:∀ r,r<n.B->n.root r=r->sumN n.B (fun b=>if n.lab b=n.lab r then x b else 0)=sumN n.B (fun b=>if n.root b=r then x b else 0):=fun r hr hrr=>A1 fun b hb=>by
  by_cases h:n.root b=r
  ·rw [if_pos h,if_pos ((Nw.lab_eq hb hr).2 (h.trans hrr.symm))]
  ·rw [if_neg h,if_neg fun h'=>h (((Nw.lab_eq hb hr).1 h').trans hrr)]
 constructor
 ·intro h j hj
  by_cases hex:∃ b,b<n.B/\n.lab b=j
  ·obtain ⟨b,hb,rfl⟩:=hex
   have hrb:n.root b<n.B:=Nat.lt_of_le_of_lt (Nw.root_le b) hb
   rw [n.lab_of b,key _ hrb (Nw.root_root b)]
   exact h _ hrb (Nw.root_root b)
  ·exact E1 fun b hb=>by rw [if_neg fun h=>hex ⟨b,hb,h⟩]
 ·intro h r hr hrr
  rw [<-key r hr hrr]
  exact h _ (Nat.lt_of_le_of_lt (n.lab_le r) hr)
theorem Nw.bal_congr {x y:Nat->Rat} (h:∀ b,b<n.B->x b=y b):n.bal x<->n.bal y:=by
 unfold Nw.bal
 have:∀ r,sumN n.B (fun b=>if n.root b=r then x b else 0)=sumN n.B (fun b=>if n.root b=r then y b else 0):=fun r=>A1 fun b hb=>by rw [h b hb]
 simp only [this]
def Nw.bl (n:Nw) (x:Nat->Rat) (b:Nat):Rat:=if n.root b=b then-sumN n.B (fun c=>if c≠b/\n.root c=b then x c else 0) else x b
theorem Nw.bl_bal (x:Nat->Rat):n.bal (n.bl x):=by
 intro r hr hrr
 have h1:sumN n.B (fun b=>if n.root b=r then n.bl x b else 0)=sumN n.B (fun b=>(if b≠r/\n.root b=r then x b else 0)+(- sumN n.B (fun c=>if c≠r/\n.root c=r then x c else 0))*dl r b):=A1 fun b hb=>by
  by_cases e:r=b
  ·subst e
   rw [if_pos hrr,if_neg (by simp),AF4]
   unfold Nw.bl
   rw [if_pos hrr];grind
  ·rw [AB3 e]
   by_cases h:n.root b=r
   ·rw [if_pos h,if_pos ⟨fun h'=>e h'.symm,h⟩]
    unfold Nw.bl
    rw [if_neg (fun h'=>e (h.symm.trans h'))];grind
   ·rw [if_neg h,if_neg (fun h'=>h h'.2)];grind
 rw [h1,AC4]
 have h2:=AC3 (n:=n.B) (a:=r) (fun _ => - sumN n.B (fun c=>if c≠r/\n.root c=r then x c else 0)) hr
 rw [h2];grind
end
theorem BG3 {B i j:Nat} {f:RM} {y:Rat} (hi:i<B):(tabM B B f).set i ((tab B (f i)).set j (qc y))=tabM B B (upE f i j y):=by
 rw [S8,X9 hi]
 rfl
end Go.Kx
namespace Go.Proofs.YtpgkacdihhjknaaGreat
open Go Go.Kx Go.RowKit
end Go.Proofs.YtpgkacdihhjknaaGreat
namespace Go.Kx
open Go Go.RowKit
theorem FB.new {α:Type} {E:ER α} {t:TypeId} {S:Nat->Prop} {w w1 w2:World} {g b:Nat} {l:List α} (h:FB E t S w g l) (e:Ext w w1) (u:Upd w1 w2 b) (hb:w.heap.size<=b):FB E t S w2 g l:=by
 have h1:=h.mono (S':=fun k=>S k/\k<w.heap.size) fun k hk hS=>⟨hS,hk⟩
 have hg:=h.lt
 have h2:=(h1.ext e).upd u (by omega) fun hS=>by have:=hS.2;omega
 exact h2.mono fun k _ hS=>hS.1
theorem AW4 (n:Nat):tab n (fun _=>0)=List.replicate n q0:=by
 unfold tab
 simp [T4,List.map_const']
end Go.Kx
namespace Go.Proofs.YtpgkacdihhjknaaGreat
open Go Go.Kx Go.RowKit
theorem g_on {n:NtV} {o:List Int} {k:Nat} (hko:k∉oN o):(nwOf n o).g k=((n.ls.getD k ln0).x:Rat)⁻¹:=by
 show (if k∈oN o then (0:Rat) else ((n.ls.getD k ln0).x:Rat)⁻¹)=_
 rw [if_neg hko]
theorem AU6 {n:NtV} {o:List Int} {k:Nat}:k∈inL n o<->k<n.ls.length/\k∉oN o:=by
 unfold inL freeTo
 rw [List.mem_filter,List.mem_range]
 simp
theorem fl_tab {n:NtV} {o:List Int} (ok:nwOk n o) (θ:Nat->Rat):tab n.ls.length (fun k=>if k∈inL n o then (nwOf n o).fl θ k else 0)=tab n.ls.length ((nwOf n o).fl θ):=F5 fun k hk=>by
 by_cases h:k∈inL n o
 ·rw [if_pos h]
 ·rw [if_neg h,Nw.fl_out ((ok.g0 hk).2 (Classical.byContradiction fun h'=>h (AU6.2 ⟨hk,h'⟩)))]
theorem BG2 {l:List Nat} {M i:Nat} {f:Nat->Rat} (hi:i<l.length):(tab M fun k=>if k∈l.take i then f k else 0).set (l.getD i 0) (qc (f (l.getD i 0)))=tab M fun k=>if k∈l.take (i+1) then f k else 0:=by
 rw [S8]
 refine F5 fun k _=>?_
 rw [show l.take (i+1)=l.take i++[l.getD i 0] by rw [List.take_add_one,A4 (z:=0) hi];rfl]
 by_cases e:k=l.getD i 0
 ·rw [if_pos e,if_pos (by rw [e];simp),e]
 ·rw [if_neg e]
  by_cases h:k∈l.take i
  ·rw [if_pos h,if_pos (List.mem_append.2 (.inl h))]
  ·rw [if_neg h,if_neg fun h'=>by
    rcases List.mem_append.1 h' with h' | h'
    ·exact h h'
    ·exact e (List.mem_singleton.1 h')]
end Go.Proofs.YtpgkacdihhjknaaGreat
namespace Go.Kx
open Go Go.RowKit
section
variable {P:Program} {σ:Env} {w:World} {ty:TypeId} {pos:String} {af:Array Edge}
end
end Go.Kx
namespace Go.Proofs.YtpgkacdihhjknaaGreat
open Go Go.Kx Go.RowKit
open Classical in
noncomputable def sfE (n:NtV) (o:List Int) (l:Nat):Int:=if outE n o≠0 then outE n o else if (l:Int)<=n.b then 0 else 5
theorem AO7 {n:NtV} {o:List Int} {l:Nat} (h:sfE n o l=0):outE n o=0/\(l:Int)<=n.b:=by
 unfold sfE at h
 split at h
 ·exact absurd h (by assumption)
 ·split at h
  ·exact ⟨Classical.not_not.1 (by assumption),by assumption⟩
  ·cases h
end Go.Proofs.YtpgkacdihhjknaaGreat
namespace Go.Kx
open Go Go.RowKit
def Nw.offM (n:Nw) (f:Nat->Rat) (b:Nat):Rat:=n.off (fun k=>if n.g k=0 then 0 else f k) b
end Go.Kx
namespace Go.Proofs.YtpgkacdihhjknaaGreat
open Go Go.Kx Go.RowKit
end Go.Proofs.YtpgkacdihhjknaaGreat
namespace Go.Kx
open Go Go.RowKit
section
variable {n:Nw}
end
def Nw.cut (n:Nw) (k:Nat):Nw:={ n with g:=fun j=>if j=k then 0 else n.g j }
section
variable {n:Nw} {k:Nat}
theorem Nw.cut_ok (ok:n.Ok):(n.cut k).Ok:=⟨ok.f,ok.t,fun j hj=>by
 show (0:Rat)<=if j=k then 0 else n.g j
 split
 ·exact Rat.le_refl
 ·exact ok.p j hj⟩
theorem Nw.cut_gk:(n.cut k).g k=0:=if_pos rfl
theorem Nw.cut_g {j:Nat} (h:j≠k):(n.cut k).g j=n.g j:=if_neg h
theorem Nw.cut_fl (θ:Nat->Rat) (j:Nat):(n.cut k).fl θ j=if j=k then 0 else n.fl θ j:=by
 show (if j=k then (0:Rat) else n.g j)*_=_
 by_cases h:j=k
 ·rw [if_pos h,if_pos h,Rat.zero_mul]
 ·rw [if_neg h,if_neg h];rfl
theorem Nw.cut_lap (hk:k<n.M) (θ:Nat->Rat) (i:Nat):(n.cut k).lap θ i=n.lap θ i-n.inc k i*n.fl θ k:=by
 show sumN n.M (fun j=>n.inc j i*(n.cut k).fl θ j)=sumN n.M (fun j=>n.inc j i*n.fl θ j)-_
 have h1:sumN n.M (fun j=>n.inc j i*(n.cut k).fl θ j)=sumN n.M (fun j=>n.inc j i*n.fl θ j-(n.inc k i*n.fl θ k)*dl k j):=A1 fun j _=>by
  rw [Nw.cut_fl]
  by_cases h:j=k
  ·subst h;rw [if_pos rfl,AF4];grind
  ·rw [if_neg h,AB3 (Ne.symm h)];grind
 rw [h1,Y1,AC3 (a:=k) (fun _=>n.inc k i*n.fl θ k) hk]
theorem Nw.lap_fl (ok:n.Ok) {θ φ:Nat->Rat} (h:∀ i,i<n.B->n.lap θ i=n.lap φ i) {l:Nat} (hl:l<n.M):n.fl θ l=n.fl φ l:=by
 have hr:=Nw.rigid (n:=n) (θ:=fun c=>θ c-φ c) ok (D:=fun _=>True) (fun _ _ _=>Iff.rfl) fun b hb _=>by
  rw [Nw.lap_sub,h b hb];grind
 have h1:n.fl (fun c=>θ c-φ c) l=0:=by
  by_cases hg:n.g l=0
  ·exact Nw.fl_out hg
  ·have:=hr l hl hg trivial
   unfold Nw.fl
   dsimp only
   rw [this];grind
 rw [Nw.fl_sub] at h1
 grind
theorem Nw.cut_root_n (ok:n.Ok) (b:Nat):n.root ((n.cut k).root b)=n.root b:=by
 have h:=Nw.root_const (n:=n.cut k) (θ:=fun b=>((n.root b:Nat):Rat)) (fun j hj hg=>by
  have hjk:j≠k:=fun e=>hg (by rw [e];exact Nw.cut_gk)
  rw [Nw.cut_g hjk] at hg
  exact congrArg _ (Nw.root_line (n:=n) hj hg)) b
 exact_mod_cast h
theorem Nw.cut_le (ok:n.Ok) (b:Nat):n.root b<=(n.cut k).root b:=by
 rw [<-Nw.cut_root_n (k:=k) ok b]
 exact Nw.root_le _
theorem Nw.cut_root (ok:n.Ok) (hb:(n.cut k).root (n.F k)=(n.cut k).root (n.T k)) (b:Nat):(n.cut k).root b=n.root b:=by
 have h:=Nw.root_const (n:=n) (θ:=fun b=>(((n.cut k).root b:Nat):Rat)) (fun j hj hg=>by
  by_cases hjk:j=k
  ·subst hjk;exact congrArg _ hb
  ·refine congrArg _ (Nw.root_line (n:=n.cut k) hj ?_)
   rw [Nw.cut_g hjk];exact hg) b
 have h2:(n.cut k).root (n.root b)=(n.cut k).root b:=by exact_mod_cast h
 have h3:=Nw.cut_le (k:=k) ok b
 have h4:=Nw.root_le (n:=n.cut k) (n.root b)
 omega
theorem AG4 {p q:Nat->Bool}:∀ l:List Nat,(∀ x∈l,p x=true->q x=true)->(l.filter p).length<=(l.filter q).length
 | [],_=>Nat.le_refl _
 | x::l,h=>by
  have ih:=AG4 l fun y hy=>h y (List.mem_cons_of_mem _ hy)
  have hx:=h x (List.mem_cons_self ..)
  by_cases hp:p x=true
  ·rw [List.filter_cons_of_pos hp,List.filter_cons_of_pos (hx hp)];simpa using ih
  ·rw [List.filter_cons_of_neg hp]
   by_cases hq:q x=true
   ·rw [List.filter_cons_of_pos hq];simp;omega
   ·rw [List.filter_cons_of_neg hq];exact ih
theorem AG3 {p q:Nat->Bool} {y:Nat}:∀ l:List Nat,(∀ x∈l,p x=true->q x=true)->y∈l->p y=false->q y=true->(l.filter p).length<(l.filter q).length
 | [],_,h,_,_=>by cases h
 | x::l,h,hy,h1,h2=>by
  have hx:=h x (List.mem_cons_self ..)
  have hl:=AG4 l fun z hz=>h z (List.mem_cons_of_mem _ hz)
  by_cases e:x=y
  ·subst e
   rw [List.filter_cons_of_neg (by rw [h1];decide),List.filter_cons_of_pos h2];simp;omega
  ·have hm:y∈l:=by
    rcases List.mem_cons.1 hy with h | h
    ·exact absurd h.symm e
    ·exact h
   have ih:=AG3 l (fun z hz=>h z (List.mem_cons_of_mem _ hz)) hm h1 h2
   by_cases hp:p x=true
   ·rw [List.filter_cons_of_pos hp,List.filter_cons_of_pos (hx hp)];simpa using ih
   ·rw [List.filter_cons_of_neg hp]
    by_cases hq:q x=true
    ·rw [List.filter_cons_of_pos hq];simp;omega
    ·rw [List.filter_cons_of_neg hq];exact ih
def Nw.brg (n:Nw) (k:Nat):Prop:=(n.cut k).root (n.F k)≠(n.cut k).root (n.T k)
theorem Nw.brg_cnt (ok:n.Ok) (hk:k<n.M) (hg:n.g k≠0):n.brg k<->n.refs.length<(n.cut k).refs.length:=by
 constructor
 ·intro h
  have hline:=Nw.root_line (n:=n) hk hg
  have h1:=Nw.cut_root_n (k:=k) ok (n.F k)
  have h2:=Nw.cut_root_n (k:=k) ok (n.T k)
  have hF:=ok.f k hk
  have hT:=ok.t k hk
  have lF:=Nw.root_le (n:=n.cut k) (n.F k)
  have lT:=Nw.root_le (n:=n.cut k) (n.T k)
  have rF:=Nw.root_root (n:=n.cut k) (n.F k)
  have rT:=Nw.root_root (n:=n.cut k) (n.T k)
  have a1:=Nw.root_le (n:=n) ((n.cut k).root (n.F k))
  have a2:=Nw.root_le (n:=n) ((n.cut k).root (n.T k))
  unfold Nw.brg at h
  show ((List.range n.B).filter _).length<((List.range n.B).filter _).length
  generalize (n.cut k).root (n.F k)=x at *
  generalize (n.cut k).root (n.T k)=y at *
  refine AG3 (y:=max x y) _ (fun r hr hp=>?_) (List.mem_range.2 (by omega)) ?_ ?_
  ·have hp:n.root r=r:=of_decide_eq_true hp
   refine decide_eq_true ?_
   have:=Nw.cut_le (k:=k) ok r
   have:=Nw.root_le (n:=n.cut k) r
   omega
  ·refine decide_eq_false fun e=>?_
   rcases Nat.le_total x y with h' | h'
   ·rw [Nat.max_eq_right h'] at e;omega
   ·rw [Nat.max_eq_left h'] at e;omega
  ·refine decide_eq_true ?_
   rcases Nat.le_total x y with h' | h'
   ·rw [Nat.max_eq_right h'];exact rT
   ·rw [Nat.max_eq_left h'];exact rF
 ·intro h hb
  have:(n.cut k).refs=n.refs:=List.filter_congr fun r _=>by rw [Nw.cut_root ok hb]
  rw [this] at h
  exact Nat.lt_irrefl _ h
theorem Nw.cut_bal (ok:n.Ok) (hb:¬ n.brg k) (x:Nat->Rat):(n.cut k).bal x<->n.bal x:=by
 have hb:(n.cut k).root (n.F k)=(n.cut k).root (n.T k):=Classical.not_not.1 hb
 unfold Nw.bal
 simp only [Nw.cut_root ok hb]
 exact Iff.rfl
def Nw.tr (n:Nw) (k c:Nat):Rat:=n.th (n.F k) c-n.th (n.T k) c
def Nw.bt (n:Nw) (k l:Nat):Rat:=n.hf l (n.F k)-n.hf l (n.T k)
theorem Nw.bt_fl (l:Nat):n.bt k l=n.fl (n.tr k) l:=(Nw.fl_sub _ _ l).symm
theorem Ay7 (a b:Nat):dl a b=dl b a:=by
 by_cases h:a=b
 ·subst h;rfl
 ·rw [AB3 h,AB3 (Ne.symm h)]
theorem Nw.lap_tr (ok:n.Ok) (hk:k<n.M) (hr:n.root (n.F k)=n.root (n.T k)) {i:Nat} (hi:i<n.B):n.lap (n.tr k) i=n.inc k i:=by
 have h1:=Nw.lap_th ok (ok.f k hk) hi
 have h2:=Nw.lap_th ok (ok.t k hk) hi
 have h3:n.lap (n.tr k) i=n.lap (n.th (n.F k)) i-n.lap (n.th (n.T k)) i:=Nw.lap_sub i
 rw [h3,h1,h2,hr,Ay7 i (n.F k),Ay7 i (n.T k)]
 unfold Nw.inc;grind
def Nw.rst (n:Nw) (k:Nat):Rat:=1-n.bt k k
theorem Nw.rst_ne (ok:n.Ok) (hk:k<n.M) (hg:n.g k≠0) (hb:¬ n.brg k):n.rst k≠0:=by
 have hb:(n.cut k).root (n.F k)=(n.cut k).root (n.T k):=Classical.not_not.1 hb
 intro h
 have h1:n.fl (n.tr k) k=1:=by
  unfold Nw.rst at h
  rw [Nw.bt_fl] at h
  grind
 have hr:=Nw.rigid (n:=n.cut k) (θ:=n.tr k) (Nw.cut_ok ok) (D:=fun _=>True) (fun _ _ _=>Iff.rfl) fun b hb' _=>by
  rw [Nw.cut_lap hk,Nw.lap_tr ok hk (Nw.root_line hk hg) hb',h1];grind
 have hc:=Nw.root_const (n:=n.cut k) (θ:=n.tr k) fun j hj hgj=>hr j hj hgj trivial
 have h2:n.tr k (n.F k)=n.tr k (n.T k):=by rw [<-hc (n.F k),<-hc (n.T k),hb]
 unfold Nw.fl at h1
 rw [h2] at h1
 have:(0:Rat)=1:=by rw [<-h1];grind
 exact absurd this (by decide)
def Nw.lo (n:Nw) (k l:Nat):Rat:=if l=k then -1 else n.bt k l / n.rst k
theorem Nw.lo_flow (ok:n.Ok) (hk:k<n.M) (hg:n.g k≠0) (hb:¬ n.brg k) {x:Nat->Rat} (hx:n.bal x) {l:Nat} (hl:l<n.M):(n.cut k).fl ((n.cut k).an x) l=n.fl (n.an x) l+n.lo k l*n.fl (n.an x) k:=by
 have hr:=Nw.rst_ne ok hk hg hb
 generalize hcc:n.fl (n.an x) k*(n.rst k)⁻¹=c
 have hc1:c*n.rst k=n.fl (n.an x) k:=by rw [<-hcc,Rat.mul_assoc,Rat.inv_mul_cancel _ hr,Rat.mul_one]
 have h1:(n.cut k).fl ((n.cut k).an x) l=(n.cut k).fl (fun b=>n.an x b+n.tr k b*c) l:=Nw.lap_fl (Nw.cut_ok ok) (fun i hi=>by
  rw [Nw.lap_an (n:=n.cut k) (Nw.cut_ok ok) ((Nw.cut_bal ok hb x).2 hx) hi,Nw.cut_lap hk,Nw.lap_add,Nw.lap_smul,Nw.lap_tr ok hk (Nw.root_line hk hg) hi,Nw.lap_an ok hx hi]
  have e:n.fl (fun b=>n.an x b+n.tr k b*c) k=n.fl (n.an x) k+n.bt k k*c:=by rw [Nw.bt_fl];unfold Nw.fl;grind
  rw [e,<-hc1]
  unfold Nw.rst
  grind) hl
 rw [h1,Nw.cut_fl]
 by_cases hne:l=k
 ·subst hne
  rw [if_pos rfl]
  unfold Nw.lo
  rw [if_pos rfl];grind
 ·rw [if_neg hne]
  unfold Nw.lo
  rw [if_neg hne,Rat.div_def]
  have e:n.fl (fun b=>n.an x b+n.tr k b*c) l=n.fl (n.an x) l+n.bt k l*c:=by rw [Nw.bt_fl];unfold Nw.fl;grind
  rw [e,<-hcc]
  grind
end
section
variable {n m:Nw} {k:Nat}
def Nw.trk (n:Nw) (k:Nat):Prop:=n.g k≠0/\n.rootTo k (n.F k)≠n.rootTo k (n.T k)
instance (n:Nw) (k:Nat):Decidable (n.trk k):=inferInstanceAs (Decidable (_/\_))
def Nw.en (n:Nw) (j:Nat):Nat:=((List.range j).filter fun k=>decide (n.g k≠0)).length
end
end Go.Kx
namespace Go.Proofs.YtpgkacdihhjknaaGreat
open Go Go.Kx Go.RowKit
theorem AF3:fldOf Tryz.prog 136 0=some 0:=by kernel_rfl
theorem ty_Br:tyOf Tryz.prog 136=some (true,4):=by kernel_rfl
theorem BN0 {a b c d:Value}:bldOf Tryz.prog 136 [(0,.agg #[a,b,c,d])]=some #[a,b,c,d]:=by kernel_rfl
@[reducible] def brV (f t x c:Int):Value:=.agg #[.int .i64 f,.int .i64 t,.int .i64 x,.int .i64 c]
def brE (f t b:Int):Int:=if b=f then 1 else if b=t then -1 else 0
theorem Ap6:Ent Tryz.prog 207:=A0 Tryz.func207 (by kernel_rfl) rfl
theorem Ao1 {w:World} {f t x c b:Int}:CR Tryz.prog 207 #[brV f t x c,.int .i64 b] w (Is (.int .i64 (brE f t b))):=by
 refine enter Tryz.func207 O Tryz.ntmps207 O (.beg (.go O (.box O O fun w1 b2 n1=>?_)))
 obtain ⟨e1,k2,_,_⟩:=n1
 refine .go O (.fa AF3 O O (.fa AL6 O O (.ld A8 O O k2 O ?_)))
 by_cases h:b=f
 ·refine .eqlT O O O h (.goE O ?_)
  exact .plain [_] Tryz.results207 ⟨rfl,trivial⟩ ⟨e1,by unfold brE;rw [if_pos h];rfl⟩
 refine .eqlF O O O h (.go O (.fa AF3 O O (.fa AL5 O O (.ld A8 O O k2 O ?_))))
 by_cases h':b=t
 ·refine .eqlT O O O h' (.goE O ?_)
  exact .plain [_] Tryz.results207 ⟨rfl,trivial⟩ ⟨e1,by unfold brE;rw [if_neg h,if_pos h'];rfl⟩
 ·refine .eqlF O O O h' (.goE O ?_)
  exact .plain [_] Tryz.results207 ⟨rfl,trivial⟩ ⟨e1,by unfold brE;rw [if_neg h,if_neg h'];rfl⟩
theorem brE_mul (f t a b:Int):brE f t a*brE f t b=0\/brE f t a*brE f t b=1\/brE f t a*brE f t b = -1:=by
 unfold brE
 split<;>split<;>(try split)<;>(try split)<;>simp
theorem Au7:Ent Tryz.prog 150:=A0 Tryz.func150 (by kernel_rfl) rfl
theorem At7 {S:Nat->Prop} {w:World} {f t x c a b:Int} (up:Up S w) (hx:1<=x) (hx2:x<=1000):CR Tryz.prog 150 #[brV f t x c,.int .i64 a,.int .i64 b] w (eQ.at S (qc (Rat.divInt (brE f t a*brE f t b) x))):=by
 have hm:=brE_mul f t a b
 refine enter Tryz.func150 O Tryz.ntmps150 O (.beg (.go O (.box O O fun w1 b3 n1=>.go O (.alloc O D3 fun w2 b6 n2=>.goC O ?_))))
 obtain ⟨e1,k3,hb3,hs1⟩:=n1
 obtain ⟨e2,k6,hb6,hs2⟩:=n2
 have x2:=e1.trans e2
 have hx2s:=x2.size
 have k3:=k3.ext e2
 have upT:∀ {W:World},w2.heap.size<=W.heap.size->Up (fun k=>S k/\k≠b6) W:=fun h k hk=>⟨up k (by omega),by omega⟩
 refine .parL follows 15 [13] [.inl (brV f t x c),.inl _,.inl (.int .i64 (brE f t a)),.inl (brV f t x c),.inl _,.inl (.int .i64 (brE f t b)),.inl (.int .i64 (brE f t a*brE f t b)),.inl (.pointer (some ⟨b3,0,none⟩)),.inl (.pointer (some ⟨b3,2,none⟩)),.inl (.int .i64 x),.inr (Two (eQ.at (fun k=>S k/\k≠b6) (qc (Rat.divInt (brE f t a*brE f t b) x))) (Is (.int .i64 0))),.inr (Two (eQ.at (fun k=>S k/\k≠b6) (qc (Rat.divInt (brE f t a*brE f t b) x))) (Is (.int .i64 0))),.inr (eQ.at (fun k=>S k/\k≠b6) (qc (Rat.divInt (brE f t a*brE f t b) x))),.inl (.int .i64 0),.inr (NewP w2.heap.size 39 zq.cells)] [[],[],[(10,0),(11,1)],[],[],[(13,3),(14,4)],[(12,2),(15,5)],[],[(17,7)],[(18,8)],[(16,6),(19,9)],[(20,10)],[(9,11)],[(9,11)],[]] (by kernel_rfl) ⟨
  fun w e=>(C7 ty_Br O (k3.ext e) O).ob,
  fun w e=>(v_mv O).ob,
  fun w e=>(A5 _ Ap6 O Ao1).obIs,
  fun w e=>(C7 ty_Br O (k3.ext e) O).ob,
  fun w e=>(v_mv O).ob,
  fun w e=>(A5 _ Ap6 O Ao1).obIs,
  fun w e=>((BF5 O O).eq (by rw [wI (by omega)])).ob,
  fun w e=>(v_fa AF3 O).ob,
  fun w e=>(v_fa AV0 O).ob,
  fun w e=>(v_ld O3 O (k3.ext e) O).ob,
  fun w e=>(A5 _ Au4 O (As4 (upT e.size) (by omega) (by omega) (by omega) (by omega) (by omega))).ob (Z4 (A9 _ _ _) (AR1 _)),
  fun w e x10 hx10=>L7 (v_mv O) hx10 (Z4 (A9 _ _ _) (AR1 _)),
  fun w e x11 hx11=>by
   obtain ⟨p,q,rfl,hp,hq⟩:=hx11
   exact L7 (v_ex O O) hp (A9 _ _ _),
  fun w e x11 hx11=>by
   obtain ⟨p,q,rfl,hp,hq⟩:=hx11
   exact ((v_ex O O).eq hq).ob,
  fun w e=>R4 D3 e.size,trivial⟩ ?_
 rintro W3 g3 _ _ _ _ y hy _ ⟨b7,rfl,hb7,k7⟩
 have hy':=Ag9 hy k7 AE0
 refine .storeA (E:=eQ) ty_Q O O k7 O O hy' (fun h=>h.2 O) fun W4 k7 u4 hy=>?_
 have hs3:=g3.size
 have hs4:=u4.size
 have hy:eQ.R (fun k=>S k/\k≠b6) W4 y _:=eQ.mono (fun _ _ h=>h.1) hy
 have hyv:=shpA (E:=eQ) O hy
 have k6:=(k6.ext g3).upd u4 (by omega)
 have x4:Ext w W4:=u4.below (x2.trans g3) (by omega)
 refine .go O (.ldA ty_Q O O k7 (eQ.csz hy) ?_)
 rw [<-hyv]
 refine .storeA (E:=eQ) ty_Q O O k6 O O hy (fun h=>h.2 O) fun W5 k6 u5 hy=>.goE O ?_
 exact .cell Tryz.results150 O ty_Q O O k6 hy ⟨u5.below x4 (by omega),eQ.mono (fun _ _ h=>h.1) hy⟩
theorem BE2:Ent Tryz.prog 102:=A0 Tryz.func102 (by kernel_rfl) rfl
theorem BD8 {S T0:Nat->Prop} {w:World} {x c:Int} {f t L:Nat} {vθ:Value} {θ:List QV} (up:Up S w) (upo:Up T0 w) (hθ:eV.R S w vθ θ) (hk:vk L θ) (hf:f<θ.length) (ht:t<θ.length) (hx:1<=x) (hx2:x<=1000) (hL:1<=L) (hL2:L<=1000000000) :
  CR Tryz.prog 102 #[brV (f:Nat) (t:Nat) x c,vθ] w (eQ.at T0 (qc ((rv θ f-rv θ t) / ((x:Int):Rat)))):=by
 refine enter Tryz.func102 O Tryz.ntmps102 O (.beg (.go O (.box O O fun w1 b2 n1=>.go O (.alloc O D3 fun w2 b4 n2=>.goC O ?_))))
 obtain ⟨e1,k2,hb2,hs1⟩:=n1
 obtain ⟨e2,k4,hb4,hs2⟩:=n2
 have x2:=e1.trans e2
 have hx2s:=x2.size
 have k2:=k2.ext e2
 have upT:∀ {W:World},w2.heap.size<=W.heap.size->Up (fun k=>S k/\k≠b4) W:=fun h k hk=>⟨up k (by omega),by omega⟩
 have upoT:∀ {W:World},w2.heap.size<=W.heap.size->Up (fun k=>T0 k/\k≠b4) W:=fun h k hk=>⟨upo k (by omega),by omega⟩
 have hθ:eV.R (fun k=>S k/\k≠b4) w2 vθ θ:=eV.mono (fun k _ h=>⟨h.1,by have:=h.2;omega⟩) (ER.ext eV (ER.lt eV hθ) x2)
 have hgf:θ[f]?=some (θ.getD f q0):=A4 hf
 have hgt:θ[t]?=some (θ.getD t q0):=A4 ht
 have hqf:=hk.get hL f
 have hqt:=hk.get hL t
 have hx0:((x:Int):Rat)≠0:=fun e=>by
  have:x=0:=by exact_mod_cast e
  omega
 have hrz:∀ b,Rsz (rv θ b) L:=fun b=>hk.rsz hL b
 have hd:Rsz (rv θ f-rv θ t) (L+L+1):=by
  rw [Rat.sub_eq_add_neg]
  exact (hrz _).add (hrz _).neg
 have hr1:Rsz ((x:Int):Rat) (L+L+1):=Rsz.int _ (Nat.lt_of_lt_of_le (by omega:x.natAbs<4294967296 ^ 1) (Nat.pow_le_pow_right (by decide) (by omega))) (by omega)
 refine .parL follows 22 [20] [.inl _,.inl (.pointer (some ⟨b2,0,none⟩)),.inl (.pointer (some ⟨b2,0,none⟩)),.inl (.int .i64 (f:Nat)),.inr (Ptr eQ (fun k=>S k/\k≠b4) (θ.getD f q0)),.inr (eQ.at (fun k=>S k/\k≠b4) (θ.getD f q0)),.inl _,.inl (.pointer (some ⟨b2,0,none⟩)),.inl (.pointer (some ⟨b2,1,none⟩)),.inl (.int .i64 (t:Nat)),.inr (Ptr eQ (fun k=>S k/\k≠b4) (θ.getD t q0)),.inr (eQ.at (fun k=>S k/\k≠b4) (θ.getD t q0)),.inr (eQ.at (fun k=>S k/\k≠b4) (qc (rv θ f-rv θ t))),.inl (.pointer (some ⟨b2,0,none⟩)),.inl (.pointer (some ⟨b2,2,none⟩)),.inl (.int .i64 x),.inr (eQ.at (fun k=>S k/\k≠b4) (qc ((x:Int):Rat))),.inr (Two (eQ.at (fun k=>T0 k/\k≠b4) (qc ((rv θ f-rv θ t) / ((x:Int):Rat)))) (Is (.int .i64 0))),.inr (Two (eQ.at (fun k=>T0 k/\k≠b4) (qc ((rv θ f-rv θ t) / ((x:Int):Rat)))) (Is (.int .i64 0))),.inr (eQ.at (fun k=>T0 k/\k≠b4) (qc ((rv θ f-rv θ t) / ((x:Int):Rat)))),.inl (.int .i64 0),.inr (NewP w2.heap.size 39 zq.cells)] [[],[],[(9,1)],[(10,2)],[(8,0),(11,3)],[(12,4)],[],[],[(15,7)],[(16,8)],[(14,6),(17,9)],[(18,10)],[(13,5),(19,11)],[],[(21,13)],[(22,14)],[(23,15)],[(20,12),(24,16)],[(25,17)],[(7,18)],[(7,18)],[]] (by kernel_rfl) ⟨
  fun w e=>(v_mv O).ob,
  fun w e=>(v_fa AF3 O).ob,
  fun w e=>(v_fa AL6 O).ob,
  fun w e=>(v_ld A8 O (k2.ext e) O).ob,
  fun w e=>D5 (i:=f) un_V ty_Q O (ER.ext eV hθ e) O hgf,
  fun w e x4 hx4=>U9 ty_Q O hx4,
  fun w e=>(v_mv O).ob,
  fun w e=>(v_fa AF3 O).ob,
  fun w e=>(v_fa AL5 O).ob,
  fun w e=>(v_ld A8 O (k2.ext e) O).ob,
  fun w e=>D5 (i:=t) un_V ty_Q O (ER.ext eV hθ e) O hgt,
  fun w e x10 hx10=>U9 ty_Q O hx10,
  fun w e x5 hx5 x11 hx11=>(A5 _ AI4 O (AH9 (L:=L) (upT e.size) hx5 hx11 hqf.1 hqt.1 hL (by omega))).ob (A9 _ _ _),
  fun w e=>(v_fa AF3 O).ob,
  fun w e=>(v_fa AV0 O).ob,
  fun w e=>(v_ld O3 O (k2.ext e) O).ob,
  fun w e=>(A5 _ G1 O (G0 (upT e.size) (by omega) (by omega))).ob (A9 _ _ _),
  fun w e x12 hx12 x16 hx16=>by
   have:=AX7 (L:=L+L+1) (upT e.size) (upoT e.size) hx12 hx16 hd.toOk hr1.toOk (by omega) (by omega) (by rw [B9];exact hx0)
   rw [B9,B9] at this
   exact (A5 _ AZ9 O this).ob (Z4 (A9 _ _ _) (AR1 _)),
  fun w e x17 hx17=>L7 (v_mv O) hx17 (Z4 (A9 _ _ _) (AR1 _)),
  fun w e x18 hx18=>by
   obtain ⟨p,q,rfl,hp,hq⟩:=hx18
   exact L7 (v_ex O O) hp (A9 _ _ _),
  fun w e x18 hx18=>by
   obtain ⟨p,q,rfl,hp,hq⟩:=hx18
   exact ((v_ex O O).eq hq).ob,
  fun w e=>R4 D3 e.size,trivial⟩ ?_
 rintro W3 g3 _ _ _ _ _ _ _ _ _ _ _ _ _ _ _ _ y hy _ ⟨b5,rfl,hb5,k5⟩
 have hy':=Ag9 hy k5 AE0
 refine .storeA (E:=eQ) ty_Q O O k5 O O hy' (fun h=>h.2 O) fun W4 k5 u4 hy=>?_
 have hy:eQ.R (fun k=>T0 k/\k≠b4) W4 y _:=eQ.mono (fun _ _ h=>h.1) hy
 have hyv:=shpA (E:=eQ) O hy
 have k4:=(k4.ext g3).upd u4 (by omega)
 have x4:Ext w W4:=u4.below (x2.trans g3) (by omega)
 refine .go O (.ldA ty_Q O O k5 (eQ.csz hy) ?_)
 rw [<-hyv]
 refine .storeA (E:=eQ) ty_Q O O k4 O O hy (fun h=>h.2 O) fun W5 k4 u5 hy=>.goE O ?_
 exact .cell Tryz.results102 O ty_Q O O k4 hy ⟨u5.below x4 (by omega),eQ.mono (fun _ _ h=>h.1) hy⟩
theorem BH4 {S:Nat->Prop} {w W:World} {v:Value} {a:List QV} {B:Nat} (h:ResP S w.heap.size ((B:Nat):Int) a v W) (up:Up S w) (h1:1<=B) (h2:B<=60000):eV.R S W v (tab B (rv a)):=by
 rcases h with ⟨h,_⟩ | ⟨_,g,N,hN,hg,rfl,hf⟩
 ·omega
 ·have hNB:N=B:=by omega
  subst hNB
  have:=hf.toR (hsz:=by decide) (c:=N) (up g hg) (by rw [A2];exact Nat.le_refl _) (by rw [A2];omega)
  rw [A2] at this
  exact this
theorem vk_res {L B:Nat} {a:List QV} (h:vk L a) (hL:1<=L):vk L (tab B (rv a)):=U7 fun k _=>h.rsz hL k
theorem AN5:Ent Tryz.prog 58:=A0 Tryz.func58 (by kernel_rfl) rfl
theorem AL3 {S T0:Nat->Prop} {w:World} {vn vo va:Value} {n:NtV} {o:List Int} {a:List QV} {L:Nat} (up:Up S w) (upo:Up T0 w) (hn:eN.R S w vn n) (ho:eI.R S w vo o) (ha:eV.R S w va a) (hka:vk L a) (hL1:1<=L) (hL:L<=1000000000) :
  CR Tryz.prog 58 #[vn,vo,va] w (Two (eV.at T0 (if sfE n o a.length=0 then tab n.ls.length ((nwOf n o).fl (rv a)) else [])) (Is (.int .i64 (sfE n o a.length)))):=by
 obtain ⟨s,rfl,hs,hb⟩:=hn
 have hn:eN.R S w (.agg #[.int .i64 n.b,s]) n:=⟨s,rfl,hs,hb⟩
 refine enter Tryz.func58 O Tryz.ntmps58 O (.beg (.go O (.box O O fun w1 b3 n1=>?_)))
 obtain ⟨e1,k3,hb3,hs1⟩:=n1
 refine .go O (.ldA ty_N O O k3 O (.go O ?_))
 refine .call _ O Y8 O (Y4 (up.ext e1.size) (hn.ext e1) (ho.ext e1)) fun v2 w2 e2 h2=>?_
 obtain ⟨vl,ve,rfl,hl,he⟩:=h2
 replace he:ve=.int .i64 (outE n o):=he
 subst he
 have x2:=e1.trans e2
 refine .go O ?_
 by_cases hE:outE n o=0
 rotate_left
 ·have hb:sfE n o a.length=outE n o:=by unfold sfE;rw [if_pos hE]
  refine .neqT O O O hE (.goE O ?_)
  refine .plain [_,_] Tryz.results58 ⟨rfl,rfl,trivial⟩ ⟨x2,_,_,rfl,?_,by rw [hb]⟩
  rw [if_neg (by rw [hb];exact hE)];exact RL.nil
 have ok:=I0 hE
 rw [if_pos hE] at hl
 have hB6:=ok.b6
 have hB1:=ok.b1
 have hM10:n.ls.length<=10:=ok.m
 have hnb:=ok.b
 have hll:=T5 n o
 have k3:=k3.ext e2
 rw [hnb] at k3
 obtain ⟨_,_,_,_,hal⟩:=RL.len ha
 refine .neqF O O O hE (.go O (.lenR un_V O O (ha.ext x2) (.go O (.fa J0 O O (.ld A8 O O k3 O ?_)))))
 by_cases hlen:(a.length:Int)<=n.b
 rotate_left
 ·have hb:sfE n o a.length=5:=by unfold sfE;rw [if_neg (by simpa using hE),if_neg hlen]
  refine .gtrT O O O (by omega) (.goE O ?_)
  refine .plain [_,_] Tryz.results58 ⟨rfl,rfl,trivial⟩ ⟨x2,_,_,rfl,?_,by rw [hb]⟩
  rw [if_neg (by rw [hb];decide)];exact RL.nil
 have hno:sfE n o a.length=0:=by unfold sfE;rw [if_neg (by simpa using hE),if_pos hlen]
 rw [if_pos hno]
 refine .gtrF O O O (by omega) (.go O (.fa J0 O O (.ld A8 O O k3 O ?_)))
 refine .call _ O N8 O (P9 (up.ext x2.size) (ha.ext x2) hka hL1 (by omega)) fun v3 w3 e3 h3=>?_
 have h3:=BH4 (B:=(nwOf n o).B) h3 (up.ext x2.size) (by omega) (by omega)
 have x3:=x2.trans e3
 refine .go O (.fa J5 O O (.ld P2 O O (k3.ext e3) O (.lenR M4 O O (hs.ext x3) ?_)))
 refine .make_ _ _ un_V P8 O (by decide) O O O (Nat.le_refl _) (by omega) (by omega) fun w4 h n4=>?_
 have f4:FB eQ 39 T0 w4 h (List.replicate n.ls.length q0):=FB.made n4 zq_R
 obtain ⟨e4,_,hh,hs4⟩:=n4
 rw [<-AW4] at f4
 have hs3:=x3.size
 have hl:=ER.ext eI hl e3
 have hs:=ER.ext eLs hs x3
 have k3:=k3.ext e3
 have h3:eV.R (fun k=>S k/\k≠h) w3 v3 _:=eV.mono (fun k _ h=>⟨h.1,by have:=h.2;omega⟩) (ER.lt eV h3)
 refine .go O (.lenR un_I O O (ER.ext eI hl e4) ?_)
 rw [show (pInts (inL n o)).length=(inL n o).length by simp]
 refine .goC O (.lp (α:=Nat) [3,10,11,36,37] O (fun i=>[(38,.int .i64 (i:Nat))]) (fun i W=>Ext w3 W/\i<=(inL n o).length/\FB eQ 39 T0 W h (tab n.ls.length fun k=>if k∈(inL n o).take i then (nwOf n o).fl (rv a) k else 0)) (fun i=>(inL n o).length-i) 0 (lc1 O) ⟨e4,Nat.zero_le _,by simpa using f4⟩ ?_)
 rintro i W ⟨hW,hi,fb⟩
 have hWs:=hW.size
 have hhl:=fb.lt
 refine .go O ?_
 rcases Nat.lt_or_ge i (inL n o).length with hlt | hge
 rotate_left
 ·refine .lssF O O O (by omega) (.goE O ?_)
  have:i=(inL n o).length:=by omega
  subst this
  rw [List.take_of_length_le (Nat.le_refl _),fl_tab ok] at fb
  refine .plain [_,_] Tryz.results58 ⟨rfl,rfl,trivial⟩ ⟨x3.trans hW,_,_,rfl,?_,by rw [hno]⟩
  have:=fb.toR (hsz:=by decide) (c:=n.ls.length) (upo h (by omega)) (by rw [A2];exact Nat.le_refl _) (by rw [A2];omega)
  rw [A2] at this
  exact this
 obtain ⟨hgk,hkM,hko⟩:=AF0 hlt
 refine .lssT O O O (by omega) (.go O (.ixN (i:=i) un_I A7 O O (ER.ext eI hl hW) O hgk fun q hq=>.ldE (E:=eInt .i64) A7 O O hq fun e he=>?_))
 obtain ⟨rfl,_⟩:=he
 have hset:=BG2 (M:=n.ls.length) (f:=(nwOf n o).fl (rv a)) hlt
 have hgl:n.ls[(inL n o).getD i 0]?=some (n.ls.getD ((inL n o).getD i 0) ln0):=A4 hkM
 have hFI:=ok.fI _ hkM
 have hTI:=ok.tI _ hkM
 have hF:=ok.f _ hkM
 have hT:=ok.t _ hkM
 have hx:=ok.x _ hkM
 have hgv:=g_on (n:=n) hko
 generalize hkk:(inL n o).getD i 0=k at hset hgl hFI hTI hx hgv hkM hF hT
 generalize hln:n.ls.getD k ln0=ln at hgl hFI hTI hx hgv
 refine .go O (.fa J5 O O (.ld P2 O O (k3.ext hW) O (.go O (.ixN (i:=k) M4 Q8 O O (ER.ext eLs hs hW) O hgl fun q hq=>.ldE (E:=eL) Q8 O O hq fun vl' hvl=>?_))))
 obtain ⟨rfl,_⟩:=hvl
 rw [hFI,hTI]
 refine .bld _ O O BN0 (.go O ?_)
 have hv:=BD8 (w:=W) (S:=fun k=>S k/\k≠h) (T0:=fun k=>T0 k/\k≠h) (c:=ln.c) (fun k hk=>⟨up k (by omega),by omega⟩) (fun k hk=>⟨upo k (by omega),by omega⟩) (ER.ext eV h3 hW) (vk_res hka hL1) (by rw [A2];exact hF) (by rw [A2];exact hT) hx.1 hx.2 hL1 hL
 have hflv:(rv (tab (nwOf n o).B (rv a)) ((nwOf n o).F k)-rv (tab (nwOf n o).B (rv a)) ((nwOf n o).T k)) / ((ln.x:Int):Rat)=(nwOf n o).fl (rv a) k:=by
  unfold Nw.fl
  rw [O5,O5,if_pos hF,if_pos hT,hgv,Rat.div_def,Rat.mul_comm]
 rw [hflv] at hv
 refine .call _ O BE2 O hv fun y W1 g1 hy=>?_
 have hs1':=g1.size
 refine .go O (.ixB (i:=k) un_V ty_Q O O O hkM (.storeF (E:=eQ) (i:=k) (by decide) ty_Q O O (fb.ext g1) O (by rw [A2];exact hkM) (Nat.zero_add _) hy fun W6 f6 u6=>?_))
 rw [hset] at f6
 exact .go O (.inc O O O (by omega) (.goN O (.mk (i+1) O (lc1 O) ⟨⟨u6.below (hW.trans g1) (by omega),hlt,f6⟩,by show (inL n o).length-(i+1)<(inL n o).length-i;omega⟩)))
end Go.Proofs.YtpgkacdihhjknaaGreat
namespace Go.Kx
open Go Go.RowKit
section
variable {P:Program} {σ:Env} {w:World} {d:Option Tmp} {ty:TypeId} {pos:String} {af:Array Edge} {g:Option (Nat×Bool)}
theorem BK9 {f:FuncId} {fx:Operand} {xs:List Operand} {ts:Array TypeId} (fs cap vs:List Value) {R:Value->World->Prop} (hfx:ev σ fx=some (.func (.func f) fs.toArray cap.toArray)) (hf:Ent P f) (hx:xs.map (ev σ)=vs.map some)
  (hc:CR P f (fs++(vs++cap)).toArray w R) :
  Gv P ⟨d,.call { callee:=.value fx,args:=xs.toArray,argTypes:=ts },ty,pos,af,g⟩ σ w fun v w'=>Ext w w'/\R v w':=by
 refine ⟨(by intro _ h;cases h),fun ρ hρ=>.inr (.inr ?_)⟩
 have h1:=hρ fx _ (by simp [Op.operands,Call.operands]) hfx
 have h2:xs.map ρ=vs:=AA2 (σ:=σ) (fun x v hx'=>hρ x v (by simp [Op.operands,Call.operands,hx'])) hx
 refine ⟨f,(fs++(vs++cap)).toArray,w,?_,hc⟩
 simp [execOp,resolve,h1,h2,Deferred.ofValue,invoke,hf _ _]
theorem ob_make {t e:TypeId} {x y:Operand} {z:Value} {sz by_ B:Nat} (n c:Nat) {k k':IntKind} (ht:P.underlying t=some (.slice e)) (hi:infoOf P e=some (z,sz,by_)) (hzs:z.cells.size=sz) (hsz:0<sz)
  (hx:ev σ x=some (.int k (n:Int))) (hy:ev σ y=some (.int k' (c:Int))) (hnc:n<=c) (hby:by_*c<=281474976710656) (hc:c<=9223372036854775807) (hB:B<=w.heap.size) :
  Gv P ⟨d,.makeSlice t x y,ty,pos,af,g⟩ σ w fun v' w'=>Ext w w'/\Sp.ok (.inr fun v W=>∃ b,v=.slice (some ⟨b,0,none⟩) n c/\B<=b/\Blk W b e (cellsOf (List.replicate c z)).toArray) v' w' :=
 (BK7 n c ht hi hzs hsz hx hy hnc hby hc).mono fun v' w' ⟨b,hv,hn⟩=>⟨hn.1,fun w'' e=>⟨b,hv,by have:=hn.2.2.1;omega,hn.2.1.ext e⟩⟩
end
theorem FB.rep {α:Type} {E:ER α} {t:TypeId} {S:Nat->Prop} {w:World} {g c:Nat} {z:Value} {z0:α} (hb:Blk w g t (cellsOf (List.replicate c z)).toArray) (hz:E.R (fun k=>S k/\k≠g) w z z0):FB E t S w g (List.replicate c z0) :=
 ⟨List.replicate c z,hb,by simp,fun i e x he hx=>by
  rw [List.getElem?_replicate] at he hx
  split at he
  ·rename_i h;rw [if_pos h] at hx;cases he;cases hx;exact hz
  ·cases he⟩
def mixF (f q:RM) (r c:Nat):RM:=fun r' c'=>if r'<r\/(r'=r/\c'<c) then f r' c'+q r' c' else f r' c'
theorem BB4 (f q:RM) (r c:Nat):upE (mixF f q r c) r c (f r c+q r c)=mixF f q r (c+1):=by
 funext a b
 unfold upE mixF
 by_cases ha:a=r
 ·subst ha
  rw [if_pos rfl]
  by_cases hb:b=c
  ·subst hb
   rw [if_pos rfl,if_pos (.inr ⟨rfl,by omega⟩)]
  ·rw [if_neg hb]
   by_cases h:b<c
   ·rw [if_pos (.inr ⟨rfl,h⟩),if_pos (.inr ⟨rfl,by omega⟩)]
   ·rw [if_neg (by omega),if_neg (by omega)]
 ·rw [if_neg ha]
  by_cases h:a<r
  ·rw [if_pos (.inl h),if_pos (.inl h)]
  ·rw [if_neg (by omega),if_neg (by omega)]
theorem BI9 (B:Nat) (f q:RM) (r:Nat):tabM B B (mixF f q r B)=tabM B B (mixF f q (r+1) 0):=C0 fun a b _ hb=>by
 unfold mixF
 by_cases h:a<r+1
 ·rw [if_pos (by omega),if_pos (.inl h)]
 ·rw [if_neg (by omega),if_neg (by omega)]
theorem BB3 (B:Nat) (f q:RM):tabM B B (mixF f q 0 0)=tabM B B f:=C0 fun a b _ _=>by unfold mixF;rw [if_neg (by omega)]
theorem BJ0 (B:Nat) (f q:RM):tabM B B (mixF f q B 0)=tabM B B fun r c=>f r c+q r c:=C0 fun a b ha _=>by unfold mixF;rw [if_pos (.inl ha)]
theorem mixF_at (f q:RM) (r c:Nat):mixF f q r c r c=f r c:=by unfold mixF;rw [if_neg (by omega)]
end Go.Kx
namespace Go.Proofs.YtpgkacdihhjknaaGreat
open Go Go.Kx Go.RowKit
theorem Az1 {n:Nw} {k b:Nat} (hne:n.F k≠n.T k):((brE (n.F k:Nat) (n.T k:Nat) (b:Nat):Int):Rat)=n.inc k b:=by
 unfold brE Nw.inc dl
 by_cases h1:n.F k=b
 ·rw [if_pos (by omega),if_pos h1,if_neg (by omega)];grind
 ·rw [if_neg (by omega),if_neg h1]
  by_cases h2:n.T k=b
  ·rw [if_pos (by omega),if_pos h2];grind
  ·rw [if_neg (by omega),if_neg h2];grind
theorem Ah1 {n:Nw} {k a b:Nat} {x:Int} (hne:n.F k≠n.T k) (hg:n.g k=((x:Int):Rat)⁻¹):Rat.divInt (brE (n.F k:Nat) (n.T k:Nat) (a:Nat)*brE (n.F k:Nat) (n.T k:Nat) (b:Nat)) x=n.g k*(n.inc k a*n.inc k b):=by
 rw [<-Az1 hne,<-Az1 hne,hg,Rat.divInt_eq_div,Rat.div_def,Rat.mul_comm,Rat.intCast_mul]
theorem E_Lap1:Ent Tryz.prog 149:=A0 Tryz.func149 (by kernel_rfl) rfl
set_option maxRecDepth 8000 in
theorem Lap1_c {S:Nat->Prop} {w:World} {b8 gb B:Nat} {hs:List Nat} {f q:RM} {F T x c:Int} (up:Up S w) (hM:MB 26 39 S w gb B hs (tabM B B f)) (k8:Blk w b8 70 #[slB B gb]) (h8:b8∉hs) (h8g:b8≠gb) (hB:B<=6)
  (hf:∀ r c,Rsz (f r c) 30) (hq:∀ a b:Nat,Rat.divInt (brE F T (a:Nat)*brE F T (b:Nat)) x=q a b) (hqs:∀ r c,Rsz (q r c) 30) (hx:1<=x) (hx2:x<=1000) :
  Calls Tryz.prog 149 #[.func (.func 150) #[brV F T x c] #[],.pointer (some ⟨b8,0,none⟩)] w fun e w'=>∃ v,e=.returned v/\(Chg (fun k=>k∈hs) w w'/\MB 26 39 S w' gb B hs (tabM B B fun r c=>f r c+q r c)):=by
 have hlen:hs.length=B:=by rw [hM.len,B3]
 have hhg:∀ i,i<B->hs[i]?=some (hs.getD i 0):=fun i hi=>A4 (by omega)
 have hgn:=hM.gn
 have hgl:=hM.out.lt
 have hlt0:∀ k∈hs,k<w.heap.size:=fun k hk=>hM.lt hk
 refine enterG Tryz.func149 O Tryz.ntmps149 O (.beg (.go O (.ld ty_M O O k8 O (.len un_M O O (.goC O (.lp (α:=Nat) [0,1,6] O (fun r=>[(7,.int .i64 (r:Nat))]) (fun r W=>r<=B/\Chg (fun k=>k∈hs) w W/\MB 26 39 S W gb B hs (tabM B B (mixF f q r 0))) (fun r=>B-r) 0 (lc1 O) ⟨Nat.zero_le _,Chg.refl _,by rw [BB3];exact hM⟩ ?_))))))
 rintro r W ⟨hr,hC,hM⟩
 refine .go O ?_
 rcases Nat.lt_or_ge r B with hrl | hge
 rotate_left
 ·refine .lssF O O O (by omega) (.goE O ?_)
  have:r=B:=by omega
  subst this
  rw [BJ0] at hM
  exact .plain [] Tryz.results149 trivial ⟨hC,hM⟩
 refine .lssT O O O (by omega) (.go O (.ld ty_M O O (hC.blk k8 h8) O (.go O (.ixB (i:=r) un_M ty_V O O O hrl (.ld ty_V O O hM.out (hM.cell (hhg r hrl)) (.len un_V O O ?_))))))
 refine .goC O (.lp (α:=Nat) [0,1,3,6,7,14] O (fun c=>[(15,.int .i64 (c:Nat))]) (fun c W=>c<=B/\Chg (fun k=>k∈hs) w W/\MB 26 39 S W gb B hs (tabM B B (mixF f q r c))) (fun c=>B-c) 0 (lc1 O) ⟨Nat.zero_le _,hC,hM⟩ ?_)
 clear hM hC W
 rintro j W ⟨hj,hC,hM⟩
 refine .go O ?_
 rcases Nat.lt_or_ge j B with hjl | hge
 rotate_left
 ·have:j=B:=by omega
  subst this
  rw [BI9] at hM
  exact .lssF O O O (by omega) (.go O (.inc O O O (by omega) (.goN O (.mk (r+1) O (lc1 O) ⟨⟨hrl,hC,hM⟩,by show j-(r+1)<j-r;omega⟩))))
 have k8W:=hC.blk k8 h8
 have hrow:=hM.row r _ _ (hhg r hrl) (G3 hrl)
 have hCs:=hC.size
 have upT:∀ {W':World},W.heap.size<=W'.heap.size->Up (offM S gb hs) W':=fun h k' hk'=>⟨up k' (by omega),by omega,fun hm=>by have:=hlt0 k' hm;omega⟩
 refine .lssT O O O (by omega) (.goC O ?_)
 refine .par follows 17 [.inl (slB B gb),.inl (.int .i64 (r:Nat)),.inl (.pointer (some ⟨gb,0+r*1,none⟩)),.inl (slB B (hs.getD r 0)),.inl (.int .i64 (j:Nat)),.inl (slB B gb),.inl (.int .i64 (r:Nat)),.inl (.pointer (some ⟨gb,0+r*1,none⟩)),.inl (slB B (hs.getD r 0)),.inl (.int .i64 (j:Nat)),.inl (.pointer (some ⟨hs.getD r 0,0+j*4,none⟩)),.inr (eQ.at (offM S gb hs) (qc (f r j))),.inl _,.inl _,.inl _,.inr (eQ.at (offM S gb hs) (qc (q r j))),.inr (eQ.at (offM S gb hs) (qc (f r j+q r j)))] [[],[],[(18,0),(19,1)],[(20,2)],[],[],[],[(23,5),(24,6)],[(25,7)],[],[(26,8),(27,9)],[(28,10)],[],[],[],[(30,12),(31,13),(32,14)],[(29,11),(33,15)]] (by kernel_rfl) ⟨
  fun w e=>(v_ld ty_M O (k8W.ext e) O).ob,
  fun w e=>(v_mv O).ob,
  fun w e=>(I1 (i:=r) un_M ty_V O O hrl).ob,
  fun w e=>(v_ld ty_V O (hM.out.ext e) (hM.cell (hhg r hrl))).ob,
  fun w e=>(v_mv O).ob,
  fun w e=>(v_ld ty_M O (k8W.ext e) O).ob,
  fun w e=>(v_mv O).ob,
  fun w e=>(I1 (i:=r) un_M ty_V O O hrl).ob,
  fun w e=>(v_ld ty_V O (hM.out.ext e) (hM.cell (hhg r hrl))).ob,
  fun w e=>(v_mv O).ob,
  fun w e=>(I1 (i:=j) un_V ty_Q O O hjl).ob,
  fun w e=>(AH6 (E:=eQ) (i:=j) (by decide) ty_Q O (Nat.zero_add _) (hrow.2.ext e) (by rw [J7 hjl,mixF_at])).mono fun v' w' h=>⟨h.1,fun w'' e'=>eQ.mono (fun _ _ h=>h.1) (h.2 w'' e')⟩,
  fun w e=>(v_mv O).ob,
  fun w e=>(v_mv O).ob,
  fun w e=>(v_mv O).ob,
  fun w e=>by
   have:=At7 (f:=F) (t:=T) (c:=c) (a:=(r:Nat)) (b:=(j:Nat)) (upT e.size) hx hx2
   rw [hq] at this
   exact (BK9 [brV F T x c] [] [.int .i64 (r:Nat),.int .i64 (j:Nat)] O Au7 O this).ob (A9 _ _ _),
  fun w e x11 hx11 x15 hx15=>by
   have:=Z8 (L:=30) (upT e.size) hx11 hx15 (hf _ _).toOk (hqs _ _).toOk (by decide) (by decide)
   rw [B9,B9] at this
   exact (A5 _ AB0 O this).ob (A9 _ _ _),trivial⟩ ?_
 intro X0 g0 _ _ _ _ y0 hy0
 have sx0:=g0.size
 have hm:hs.getD r 0∈hs:=I6 (by omega)
 refine .ixB (i:=j) un_V ty_Q O O O hjl (.storeF (E:=eQ) (i:=j) (by decide) ty_Q O O (hrow.2.ext g0) O (by rw [A2];exact hjl) (Nat.zero_add _) (eQ.mono (fun k' _ h=>⟨h,fun e=>h.2.2 (e▸hm)⟩) hy0) fun Y0 fy0 uy0=>?_)
 have hM:=(hM.ext g0).set (hhg r hrl) (by rw [List.length_set,A2]) uy0 fy0
 rw [BG3 hrl,BB4] at hM
 exact .go O (.inc O O O (by omega) (.goN O (.mk (j+1) O (lc1 O) ⟨⟨hjl,hC.trans ((Chg.ext g0).trans (Chg.upd uy0 hm)),hM⟩,by show B-(j+1)<B-j;omega⟩)))
theorem AQ8:Ent Tryz.prog 99:=A0 Tryz.func99 (by kernel_rfl) rfl
set_option maxRecDepth 8000 in
theorem AP6 {S:Nat->Prop} {w:World} {vn vo:Value} {n:NtV} {o:List Int} (up:Up S w) (hn:eN.R S w vn n) (ho:eI.R S w vo o) :
  CR Tryz.prog 99 #[vn,vo] w (Two (fun v W=>if outE n o=0 then MBat 26 39 S w.heap.size (nwOf n o).B (nwOf n o).B (tabM (nwOf n o).B (nwOf n o).B (nwOf n o).Lm) v W else v=.slice none 0 0) (Is (.int .i64 (outE n o)))):=by
 obtain ⟨s,rfl,hs,hb⟩:=hn
 have hn:eN.R S w (.agg #[.int .i64 n.b,s]) n:=⟨s,rfl,hs,hb⟩
 refine enter Tryz.func99 O Tryz.ntmps99 O (.beg (.go O (.box O O fun w1 b2 n1=>?_)))
 obtain ⟨e1,k2,hb2,hs1⟩:=n1
 refine .go O (.ldA ty_N O O k2 O (.go O ?_))
 refine .call _ O Y8 O (Y4 (up.ext e1.size) (hn.ext e1) (ho.ext e1)) fun v2 w2 e2 h2=>?_
 obtain ⟨vl,ve,rfl,hl,he⟩:=h2
 replace he:ve=.int .i64 (outE n o):=he
 subst he
 have x2:=e1.trans e2
 refine .go O ?_
 by_cases hE:outE n o=0
 rotate_left
 ·refine .neqT O O O hE (.goE O ?_)
  refine .plain [_,_] Tryz.results99 ⟨rfl,rfl,trivial⟩ ⟨x2,_,_,rfl,?_,rfl⟩
  show if outE n o=0 then _ else _
  rw [if_neg hE]
 have ok:=I0 hE
 rw [if_pos hE] at hl
 have hB6:=ok.b6
 have hB1:=ok.b1
 have hM10:n.ls.length<=10:=ok.m
 have hnb:=ok.b
 have hll:=T5 n o
 have k2:=k2.ext e2
 have hsx2:=x2.size
 rw [hnb] at k2
 refine .neqF O O O hE (.go O (.fa J0 O O (.ld A8 O O k2 O ?_)))
 generalize hBB:(nwOf n o).B=B at hB6 hB1 hnb k2
 refine .make_ _ _ un_M Ag2 O (by decide) O O O (Nat.le_refl _) (by omega) (by omega) fun w3 gb n3=>.alloc O zero_M fun w4 b8 n4=>?_
 obtain ⟨e3,kg,hgb,hs3⟩:=n3
 obtain ⟨e4,k8,hb8,hs4⟩:=n4
 refine .store ty_M O O k8 O (by simp [Value.cells]) (by simp [one1,Value.cells]) fun w5 k8 u5=>?_
 replace k8:Blk w5 b8 70 #[slB B gb]:=k8
 have hs5:=u5.size
 have y5:Ext w2 w5:=u5.below (e3.trans e4) (by omega)
 have k2V:=k2
 have k2:=k2.ext y5
 have kg:Blk w5 gb 26 (cellsOf (List.replicate B nilV)).toArray:=(kg.ext e4).upd u5 (by omega)
 refine .go O (.ld ty_M O O k8 O (.len un_M O O ?_))
 have hb2l:=(k2).lt
 have hup:∀ k,w.heap.size<=k->S k:=up
 refine .goC O (.cut (α:=List Nat) 1 [2,6,8,26] O (fun hs=>[(27,.int .i64 (hs.length:Nat))]) (fun hs W=>Ext w2 W/\Blk W b8 70 #[slB B gb]/\(∀ k∈hs,w5.heap.size<=k)/\MB 26 39 S W gb B hs (tabM B B fun _ _=>0)) O ?_ ?_)
 rotate_left
 ·refine .lp (α:=List Nat) [2,6,8,26] rfl (fun hs=>[(27,.int .i64 (hs.length:Nat))]) (fun hs W=>Ext w2 W/\Blk W b8 70 #[slB B gb]/\hs.length<=B/\Blk W gb 26 (cellsOf (hs.map (slB B)++List.replicate (B-hs.length) nilV)).toArray/\hs.Nodup/\(∀ k∈hs,w5.heap.size<=k)/\∀ (i h:Nat),hs[i]?=some h->FB eQ 39 (fun _=>False) W h (List.replicate B q0)) (fun hs=>B-hs.length) [] (lc1 rfl) ⟨y5,k8,Nat.zero_le _,kg,List.nodup_nil,(fun k hk=>by cases hk),(fun i h hh=>by cases hh)⟩ ?_
  rintro hs W ⟨hW,k8,hi,hO,hnd,hge,hrow⟩
  have hWs:=hW.size
  have hgl:=hO.lt
  refine .go O ?_
  rcases Nat.lt_or_ge hs.length B with hlt | hge'
  rotate_left
  ·refine .lssF O O O (by omega) (.goN O (.mk hs O (lc1 O) ⟨hW,k8,hge,?_⟩))
   have hl:hs.length=B:=by omega
   rw [hl,Nat.sub_self,List.replicate_zero,List.append_nil] at hO
   refine ⟨hO,hnd,fun hm=>by have:=hge gb hm;omega,by rw [B3];exact hl,fun i h r h1 h2=>?_⟩
   have hil:i<B:=by have:=(List.getElem?_eq_some_iff.1 h1).1;omega
   rw [G3 hil] at h2
   cases h2
   rw [AW4]
   exact ⟨by simp,(hrow i h h1).mono fun _ _ h=>h.elim⟩
  refine .lssT O O O (by omega) (.goC O ?_)
  refine .par follows 5 [.inl (slB B gb),.inl (.int .i64 (hs.length:Nat)),.inl (.pointer (some ⟨b2,0,none⟩)),.inl (.int .i64 (B:Nat)),.inr (fun v W'=>∃ b,v=.slice (some ⟨b,0,none⟩) B B/\W.heap.size<=b/\Blk W' b 39 (cellsOf (List.replicate B zq)).toArray)] [[],[],[],[(32,2)],[(33,3)]] (by kernel_rfl) ⟨
   fun w e=>(v_ld ty_M O (k8.ext e) O).ob,
   fun w e=>(v_mv O).ob,
   fun w e=>(v_fa J0 O).ob,
   fun w e=>(v_ld A8 O ((k2V.ext hW).ext e) O).ob,
   fun w e=>ob_make B B un_V P8 O (by decide) O O (Nat.le_refl _) (by omega) (by omega) e.size,trivial⟩ ?_
  rintro W1 g1 _ ⟨h,rfl,hhW,kh⟩
  have hs1':=g1.size
  have hlW:∀ k∈hs,k<W.heap.size:=fun k hk=>by
   obtain ⟨i,hi⟩:=List.mem_iff_getElem?.1 hk
   exact (hrow i k hi).lt
  have hesz:∀ e∈hs.map (slB B)++List.replicate (B-hs.length) nilV,e.cells.size=1:=fun e he=>by
   rcases List.mem_append.1 he with h | h
   ·obtain ⟨_,_,rfl⟩:=List.mem_map.1 h;rfl
   ·rw [(List.mem_replicate.1 h).2];rfl
  have hset:(hs.map (slB B)++List.replicate (B-hs.length) nilV).set hs.length (slB B h)=(hs++[h]).map (slB B)++List.replicate (B-(hs.length+1)) nilV:=by
   have:=Av9 (hs.map (slB B)) nilV (slB B h) (B-(hs.length+1))
   rw [List.length_map,show B-(hs.length+1)+1=B-hs.length by omega] at this
   rw [this,List.map_append];rfl
  refine .ixB (i:=hs.length) un_M ty_V O O O hlt ?_
  refine .gv O O (An0 (i:=hs.length) (by decide) ty_V O O (hO.ext g1) hesz O (by simp [Value.cells,one1]) (by simp;omega) (Nat.zero_add _)) ?_
  rintro _ W2 ⟨hBg2,u2⟩
  replace hBg2:Blk W2 gb 26 (cellsOf ((hs.map (slB B)++List.replicate (B-hs.length) nilV).set hs.length (slB B h))).toArray:=hBg2
  rw [hset] at hBg2
  refine .go O (.inc O O O (by omega) (.goN O (.mk (hs++[h]) O (lc1 (by rw [List.length_append];rfl)) ⟨⟨u2.below (hW.trans g1) (by omega),(k8.ext g1).upd u2 (by omega),by rw [List.length_append];exact hlt,by rw [List.length_append];exact hBg2,?_,?_,?_⟩,by rw [List.length_append];show B-(hs.length+1)<B-hs.length;omega⟩)))
  ·exact List.nodup_append.2 ⟨hnd,by simp,fun a ha b hb=>by rw [List.mem_singleton.1 hb];have:=hlW a ha;omega⟩
  ·intro k hk
   rcases List.mem_append.1 hk with hk | hk
   ·exact hge k hk
   ·rw [List.mem_singleton.1 hk];have:=k8.lt;omega
  ·intro i x hx
   rcases Nat.lt_or_ge i hs.length with hil | hil
   ·rw [List.getElem?_append_left hil] at hx
    have:=hge x (List.mem_iff_getElem?.2 ⟨i,hx⟩)
    exact ((hrow i x hx).ext g1).upd u2 (by omega) fun h=>h
   ·rw [List.getElem?_append_right hil] at hx
    have:x=h:=by
     cases hj:i-hs.length with
     | zero=>rw [hj] at hx;simpa using hx.symm
     | succ j=>rw [hj] at hx;simp at hx
    subst this
    exact (FB.rep (S:=fun _=>False) kh zq_R).upd u2 (by omega) fun h=>h
 rintro hs0 W ⟨hW,k8,hge,hM⟩
 have hWs:=hW.size
 have hgl:=hM.out.lt
 refine .go O (.mkf [] [_] O O O O (.go O (.lenR un_I O O (ER.ext eI hl hW) ?_)))
 rw [show (pInts (inL n o)).length=(inL n o).length by simp]
 refine .goC O (.lp (α:=Nat) [2,8,10,38,39] O (fun i=>[(40,.int .i64 (i:Nat))]) (fun i W=>i<=(inL n o).length/\Ext w2 W/\Blk W b8 70 #[slB B gb]/\MB 26 39 S W gb B hs0 (tabM B B ((nwOf n o).lmL ((inL n o).take i)))) (fun i=>(inL n o).length-i) 0 (lc1 O) ⟨Nat.zero_le _,hW,k8,hM⟩ ?_)
 clear hW hM k8 hgl hWs W
 rintro i W ⟨hi,hW,k8,hM⟩
 have hWs:=hW.size
 refine .go O ?_
 rcases Nat.lt_or_ge i (inL n o).length with hlt | hge'
 rotate_left
 ·refine .lssF O O O (by omega) (.go O (.ld ty_M O O k8 O (.goE O ?_)))
  have:i=(inL n o).length:=by omega
  subst this
  refine .plain [_,_] Tryz.results99 ⟨rfl,rfl,trivial⟩ ⟨x2.trans hW,_,_,rfl,?_,by rw [hE]⟩
  show if outE n o=0 then _ else _
  rw [if_pos hE]
  have hfin:tabM B B ((nwOf n o).lmL ((inL n o).take (inL n o).length))=tabM B B (nwOf n o).Lm:=C0 fun b c _ _=>by
   rw [List.take_of_length_le (Nat.le_refl _)]
   exact Nw.lmL_free (p:=oN o) b c _ fun k hk=>ok.g0 hk
  rw [hfin] at hM
  exact ⟨gb,hs0,rfl,by omega,fun k hk=>by have:=hge k hk;omega,hM⟩
 obtain ⟨hgk,hkM,hko⟩:=AF0 hlt
 refine .lssT O O O (by omega) (.go O (.ixN (i:=i) un_I A7 O O (ER.ext eI hl hW) O hgk fun q hq=>.ldE (E:=eInt .i64) A7 O O hq fun e he=>?_))
 obtain ⟨rfl,_⟩:=he
 have hgl:n.ls[(inL n o).getD i 0]?=some (n.ls.getD ((inL n o).getD i 0) ln0):=A4 hkM
 have hFI:=ok.fI _ hkM
 have hTI:=ok.tI _ hkM
 have hne:=ok.ne _ hkM
 have hx:=ok.x _ hkM
 have hgv:=g_on (n:=n) hko
 have htk:(inL n o).take (i+1)=(inL n o).take i++[(inL n o).getD i 0]:=by rw [List.take_add_one,A4 (z:=0) hlt];rfl
 generalize hkk:(inL n o).getD i 0=k at hgl hFI hTI hx hgv hkM hne htk
 generalize hln:n.ls.getD k ln0=ln at hgl hFI hTI hx hgv
 refine .go O (.fa J5 O O (.ld P2 O O (k2V.ext hW) O (.go O (.ixN (i:=k) M4 Q8 O O (ER.ext eLs hs (x2.trans hW)) O hgl fun q hq=>.ldE (E:=eL) Q8 O O hq fun vl' hvl=>?_))))
 obtain ⟨rfl,_⟩:=hvl
 rw [hFI,hTI]
 refine .bld _ O O BN0 (.mkf [_] [] O O O O ?_)
 have hgs:=ok.gsz k
 have hq:∀ a b,Rsz ((nwOf n o).g k*((nwOf n o).inc k a*(nwOf n o).inc k b)) 30:=fun a b=>by
  refine (Aw1 hgs (Nat.le_refl _) ?_).mono (by decide)
  rcases (nwOf n o).inc_tri k a with h | h | h<;>rcases (nwOf n o).inc_tri k b with h' | h' | h'<;>rw [h,h']<;>grind
 have hfs:∀ r c,Rsz ((nwOf n o).lmL ((inL n o).take i) r c) 30:=fun r c=>((nwOf n o).lmL_rsz (Nat.le_refl _) (fun k=>ok.gsz k) r c _).mono (by
  rw [List.length_take]
  have:=Nat.mul_le_mul_right 2 (show min i (inL n o).length<=10 by omega)
  omega)
 have hcall:=Lap1_c (S:=S) (c:=ln.c) (up.ext (x2.trans hW).size) hM k8 (fun hm=>by have:=hge b8 hm;omega) (by omega) hB6 hfs (fun a b=>Ah1 hne hgv) hq hx.1 hx.2
 refine .callvG [_] O O E_Lap1 O hcall ?_
 rintro v W1 ⟨hC,hM1⟩
 have hnew:tabM B B (fun r c=>(nwOf n o).lmL ((inL n o).take i) r c+(nwOf n o).g k*((nwOf n o).inc k r*(nwOf n o).inc k c))=tabM B B ((nwOf n o).lmL ((inL n o).take (i+1))):=C0 fun b c _ _=>by rw [htk,Nw.lmL_snoc]
 rw [hnew] at hM1
 exact .go O (.inc O O O (by omega) (.goN O (.mk (i+1) O (lc1 O) ⟨⟨hlt,hC.below hW (by omega) (fun k hk=>by have:=hge k hk;omega),hC.blk k8 (fun hm=>by have:=hge b8 hm;omega),hM1⟩,by show (inL n o).length-(i+1)<(inL n o).length-i;omega⟩)))
theorem uni_dl (b c:Nat):uni ((b:Nat):Int) c=dl b c:=by
 unfold uni dl
 by_cases h:b=c
 ·rw [if_pos (by omega),if_pos h]
 ·rw [if_neg (by omega),if_neg h]
theorem bd6 (L:Nat):bd L 6=4096*L+1365:=by
 simp only [bd];omega
theorem rv_sum {x:List QV} {B:Nat} (hx:x.length<=B) (p:Nat->Prop) [DecidablePred p]:sumN x.length (fun b=>if p b then rv x b else 0)=sumN B (fun b=>if p b then rv x b else 0):=by
 obtain ⟨d,rfl⟩:∃ d,B=x.length+d:=⟨B-x.length,by omega⟩
 clear hx
 induction d with
 | zero=>rfl
 | succ d ih =>
  rw [ih]
  show _=sumN (x.length+d) _+(if p (x.length+d) then rv x (x.length+d) else 0)
  rw [AO8 (show x.length<=x.length+d by omega),ite_self,Rat.add_zero]
theorem AU3:Ent Tryz.prog 98:=A0 Tryz.func98 (by kernel_rfl) rfl
open Classical in
set_option maxRecDepth 8000 in
theorem AT7 {S:Nat->Prop} {w:World} {vn vo vx:Value} {n:NtV} {o:List Int} {x:List QV} {L:Nat} (up:Up S w) (hn:eN.R S w vn n) (ho:eI.R S w vo o) (hx:eV.R S w vx x) (hkx:vk L x) (hL1:1<=L) (hL:L<=1000000) :
  CR Tryz.prog 98 #[vn,vo,vx] w (Two (Is (.bool (decide (sfE n o x.length=0/\(nwOf n o).bal (rv x))))) (Is (.int .i64 (sfE n o x.length)))):=by
 obtain ⟨s,rfl,hs,hb⟩:=hn
 have hn:eN.R S w (.agg #[.int .i64 n.b,s]) n:=⟨s,rfl,hs,hb⟩
 refine enter Tryz.func98 O Tryz.ntmps98 O (.beg (.go O (.box O O fun w1 b3 n1=>?_)))
 obtain ⟨e1,k3,hb3,hs1⟩:=n1
 refine .go O (.ldA ty_N O O k3 O (.go O (.call _ O AD8 O (AC9 (up.ext e1.size) (hn.ext e1) (ho.ext e1)) fun v2 w2 e2 h2=>?_)))
 obtain ⟨vl,ve,rfl,hl,he⟩:=h2
 replace he:ve=.int .i64 (outE n o):=he
 subst he
 have x2:=e1.trans e2
 refine .go O ?_
 by_cases hE:outE n o=0
 rotate_left
 ·have hb:sfE n o x.length=outE n o:=by unfold sfE;rw [if_pos hE]
  refine .neqT O O O hE (.goE O ?_)
  refine .plain [_,_] Tryz.results98 ⟨rfl,rfl,trivial⟩ ⟨x2,_,_,rfl,?_,by rw [hb]⟩
  rw [decide_eq_false fun h=>hE (hb.symm.trans h.1)]
 have ok:=I0 hE
 rw [if_pos hE] at hl
 have hB6:=ok.b6
 have hB1:=ok.b1
 have hnb:=ok.b
 have k3:=k3.ext e2
 rw [hnb] at k3
 obtain ⟨_,_,_,_,hxl⟩:=RL.len hx
 refine .neqF O O O hE (.go O (.lenR un_V O O (hx.ext x2) (.go O (.fa J0 O O (.ld A8 O O k3 O ?_)))))
 by_cases hlen:(x.length:Int)<=n.b
 rotate_left
 ·have hb:sfE n o x.length=5:=by unfold sfE;rw [if_neg (by simpa using hE),if_neg hlen]
  refine .gtrT O O O (by omega) (.goE O ?_)
  refine .plain [_,_] Tryz.results98 ⟨rfl,rfl,trivial⟩ ⟨x2,_,_,rfl,?_,by rw [hb]⟩
  rw [decide_eq_false fun h=>by rw [hb] at h;exact absurd h.1 (by decide)]
 have hno:sfE n o x.length=0:=by unfold sfE;rw [if_neg (by simpa using hE),if_pos hlen]
 have hxB:x.length<=(nwOf n o).B:=by omega
 refine .gtrF O O O (by omega) (.go O (.fa J0 O O (.ld A8 O O k3 O ?_)))
 refine .make_ _ _ un_V P8 O (by decide) O O O (Nat.le_refl _) (by omega) (by omega) fun w3 h n3=>?_
 have f3:FB eQ 39 S w3 h (List.replicate (nwOf n o).B q0):=FB.made n3 zq_R
 obtain ⟨e3,_,hh,hs3⟩:=n3
 rw [<-AW4] at f3
 have hs2:=x2.size
 have hx2:=hx.ext x2
 have hxT:eV.R (fun k=>S k/\k≠h) w2 vx x:=eV.mono (fun k _ h=>⟨h.1,by have:=h.2;omega⟩) (ER.lt eV hx2)
 refine .go O (.lenR un_V O O (ER.ext eV hx2 e3) ?_)
 generalize hu:(fun i j=>sumN i fun b=>if (nwOf n o).lab b=j then rv x b else 0)=u
 refine .goC O (.lp (α:=Nat) [8,10,32,33] O (fun i=>[(34,.int .i64 (i:Nat))]) (fun i W=>Ext w2 W/\i<=x.length/\FB eQ 39 S W h (tab (nwOf n o).B (u i))) (fun i=>x.length-i) 0 (lc1 O) ⟨e3,Nat.zero_le _,by rw [<-hu];exact f3⟩ ?_)
 rintro i W ⟨hW,hi,fb⟩
 have hWs:=hW.size
 have hhl:=fb.lt
 refine .go O ?_
 rcases Nat.lt_or_ge i x.length with hlt | hge
 rotate_left
 ·have:i=x.length:=by omega
  subst this
  have hsum:∀ j,u x.length j=sumN (nwOf n o).B fun b=>if (nwOf n o).lab b=j then rv x b else 0:=fun j=>by rw [<-hu];exact rv_sum hxB _
  have hbal:(nwOf n o).bal (rv x)<->∀ j,j<(nwOf n o).B->u x.length j=0:=by
   rw [Nw.bal_lab]
   simp only [hsum]
  have hR:eV.R S W (slB (nwOf n o).B h) (tab (nwOf n o).B (u x.length)):=by
   have:=fb.toR (hsz:=by decide) (c:=(nwOf n o).B) (up h (by omega)) (by rw [A2];exact Nat.le_refl _) (by rw [A2];omega)
   rw [A2] at this
   exact this
  refine .lssF O O O (by omega) (.go O (.len un_V O O ?_))
  refine .goC O (.lp (α:=Nat) [55,56] O (fun j=>[(57,.int .i64 (j:Nat))]) (fun j W'=>Ext W W'/\j<=(nwOf n o).B/\∀ j',j'<j->u x.length j'=0) (fun j=>(nwOf n o).B-j) 0 (lc1 O) ⟨Ext.refl _,Nat.zero_le _,fun _ h=>absurd h (by omega)⟩ ?_)
  rintro j W' ⟨hW',hj,hz⟩
  refine .go O ?_
  rcases Nat.lt_or_ge j (nwOf n o).B with hjl | hge
  rotate_left
  ·refine .lssF O O O (by omega) (.goE O ?_)
   refine .plain [_,_] Tryz.results98 ⟨rfl,rfl,trivial⟩ ⟨x2.trans (hW.trans hW'),_,_,rfl,?_,by rw [hno]⟩
   rw [decide_eq_true ⟨hno,hbal.2 fun j' hj'=>hz j' (by omega)⟩]
  refine .lssT O O O (by omega) (.go O (.ixN (i:=j) un_V ty_Q O O (ER.ext eV hR hW') O (J7 hjl) fun q hq=>.ldE (E:=eQ) ty_Q O O hq fun y hy=>.alloc O D3 fun W2 b14 n2=>?_))
  obtain ⟨e4,k14,hb14,hs4⟩:=n2
  refine .storeA (E:=eQ) (S:=fun k=>S k/\k<W'.heap.size) ty_Q O O k14 O O (ER.ext eQ (ER.lt eQ hy) e4) (fun h=>by have:=h.2;omega) fun W3 k14 u3 hy=>?_
  have hyv:=shpA (E:=eQ) O hy
  refine .go O (.ldA ty_Q O O k14 (eQ.csz hy) ?_)
  rw [<-hyv]
  refine .call _ O M1 O (L9 hy) fun v4 W4 e5 h4=>?_
  subst h4
  rw [B9]
  have x4:Ext W W4:=hW'.trans (Ext.trans (u3.below e4 (by omega)) e5)
  by_cases h0:u x.length j=0
  ·rw [h0]
   refine .neqF O O O (by decide) (.go O (.inc O O O (by omega) (.goN O (.mk (j+1) O (lc1 O) ⟨⟨x4,hjl,fun j' hj'=>?_⟩,by show (nwOf n o).B-(j+1)<(nwOf n o).B-j;omega⟩))))
   by_cases e:j'=j
   ·rw [e];exact h0
   ·exact hz j' (by omega)
  ·refine .neqT O O O (fun h=>h0 (AE4.1 h)) (.goE O ?_)
   refine .plain [_,_] Tryz.results98 ⟨rfl,rfl,trivial⟩ ⟨x2.trans (hW.trans x4),_,_,rfl,?_,by rw [hno]⟩
   rw [decide_eq_false fun h=>h0 (hbal.1 h.2 j hjl)]
 have hib:i<(nwOf n o).B:=by omega
 have hlab:(nwOf n o).lab i<(nwOf n o).B:=Nat.lt_of_le_of_lt ((nwOf n o).lab_le i) hib
 have hxi:x[i]?=some (x.getD i q0):=A4 hlt
 have hqi:=hkx.get hL1 i
 have hus:∀ i,i<=6->∀ j,Rsz (u i j) (1+6*(L+1)):=fun i hi j=>by
  rw [<-hu]
  refine (AW5 (L:=L) fun b _=>?_).mono (by have:=Nat.mul_le_mul_right (L+1) hi;omega)
  split
  ·exact hkx.rsz hL1 b
  ·exact Rsz.zero hL1
 refine .lssT O O O (by omega) (.go O (.ixN (i:=i) un_V ty_Q O O (ER.ext eV hxT hW) O hxi fun q hq=>.ldE (E:=eQ) ty_Q O O hq fun y hy=>.alloc O D3 fun W1 b12 n1'=>.go O ?_))
 obtain ⟨g1,k12,hb12,hs1'⟩:=n1'
 refine .storeA (E:=eQ) (S:=fun k=>(S k/\k≠h)/\k<W.heap.size) ty_Q O O k12 O O (ER.ext eQ (ER.lt eQ hy) g1) (fun h=>by have:=h.2;omega) fun W2 k12 u2 hy=>?_
 have hs2':=u2.size
 have fb:=fb.new g1 u2 (by omega)
 have hW2:Ext w2 W2:=u2.below (hW.trans g1) (by omega)
 have hyv:=shpA (E:=eQ) O hy
 have hy:eQ.R (fun k=>S k/\k≠h) W2 y _:=eQ.mono (fun _ _ h=>h.1) hy
 have upT:∀ {W':World},W2.heap.size<=W'.heap.size->Up (fun k=>S k/\k≠h) W':=fun hs k' hk'=>⟨up k' (by omega),by omega⟩
 refine .goC O ?_
 refine .par follows 14 [.inl (slB (nwOf n o).B h),.inl vl,.inl (.int .i64 (i:Nat)),.inr (Ptr (eInt .i64) S (((nwOf n o).lab i):Nat)),.inl (.int .i64 (((nwOf n o).lab i):Nat)),.inl (slB (nwOf n o).B h),.inl vl,.inl (.int .i64 (i:Nat)),.inr (Ptr (eInt .i64) S (((nwOf n o).lab i):Nat)),.inl (.int .i64 (((nwOf n o).lab i):Nat)),.inl (.pointer (some ⟨h,0+((nwOf n o).lab i)*4,none⟩)),.inr (eQ.at (fun k=>S k/\k≠h) (qc (u i ((nwOf n o).lab i)))),.inl y,.inr (eQ.at (fun k=>S k/\k≠h) (qc (u i ((nwOf n o).lab i)+rv x i)))] [[],[],[],[(40,1),(41,2)],[(42,3)],[],[],[],[(45,6),(46,7)],[(47,8)],[(44,5),(48,9)],[(49,10)],[],[(50,11),(51,12)]] (by kernel_rfl) ⟨
  fun w e=>(v_mv O).ob,
  fun w e=>(v_mv O).ob,
  fun w e=>(v_mv O).ob,
  fun w e=>D5 (i:=i) un_I A7 O (ER.ext eI (ER.ext eI hl hW2) e) O (AC2 hib),
  fun w e x3 hx3=>N0 A7 O hx3,
  fun w e=>(v_mv O).ob,
  fun w e=>(v_mv O).ob,
  fun w e=>(v_mv O).ob,
  fun w e=>D5 (i:=i) un_I A7 O (ER.ext eI (ER.ext eI hl hW2) e) O (AC2 hib),
  fun w e x8 hx8=>N0 A7 O hx8,
  fun w e=>(I1 (i:=((nwOf n o).lab i)) un_V ty_Q O O hlab).ob,
  fun w e=>AH6 (E:=eQ) (i:=((nwOf n o).lab i)) (by decide) ty_Q O (Nat.zero_add _) (fb.ext e) (J7 hlab),
  fun w e=>((C7 ty_Q O (k12.ext e) (eQ.csz hy)).eq hyv.symm).ob,
  fun w e x11 hx11=>by
   have:=Z8 (L:=1+6*(L+1)) (upT e.size) hx11 (ER.ext eQ hy e) (hus i (by omega) _).toOk (hqi.1.mono (by omega)) (by omega) (by omega)
   rw [B9] at this
   exact (A5 _ AB0 O this).ob (A9 _ _ _),trivial⟩ ?_
 intro X0 g0 _ _ _ _ _ _ y0 hy0
 refine .ixB (i:=(nwOf n o).lab i) un_V ty_Q O O O hlab (.storeF (E:=eQ) (i:=(nwOf n o).lab i) (by decide) ty_Q O O (fb.ext g0) O (by rw [A2];exact hlab) (Nat.zero_add _) hy0 fun Y0 fy0 uy0=>?_)
 have hstep:(tab (nwOf n o).B (u i)).set ((nwOf n o).lab i) (qc (u i ((nwOf n o).lab i)+rv x i))=tab (nwOf n o).B (u (i+1)):=by
  rw [S8]
  refine F5 fun j _=>?_
  rw [<-hu]
  show _=sumN i _+_
  dsimp only
  by_cases e:j=(nwOf n o).lab i
  ·rw [if_pos e,if_pos e.symm,e]
  ·rw [if_neg e,if_neg (Ne.symm e)];grind
 rw [hstep] at fy0
 exact .go O (.inc O O O (by omega) (.goN O (.mk (i+1) O (lc1 O) ⟨⟨uy0.below (hW2.trans g0) (by omega),hlt,fy0⟩,by show x.length-(i+1)<x.length-i;omega⟩)))
open Classical in
noncomputable def anE (n:NtV) (o:List Int) (x:List QV):Int:=if sfE n o x.length≠0 then sfE n o x.length else if (nwOf n o).bal (rv x) then 0 else 10
theorem Ah7 {n:NtV} {o:List Int} {x:List QV} (h:anE n o x=0):sfE n o x.length=0/\(nwOf n o).bal (rv x):=by
 unfold anE at h
 split at h
 ·exact absurd h (by assumption)
 ·split at h
  ·exact ⟨Classical.not_not.1 (by assumption),by assumption⟩
  ·cases h
theorem BN3 {n:NtV} {o:List Int} {x:List QV} (h:outE n o=0) (hx:(x.length:Int)<=n.b) (hb:(nwOf n o).bal (rv x)):anE n o x=0:=by
 have:sfE n o x.length=0:=by unfold sfE;rw [if_neg (by simpa using h),if_pos hx]
 unfold anE
 rw [if_neg (by simpa using this),if_pos hb]
theorem an_sol {n:NtV} {o:List Int} (ok:nwOk n o) {r x:List QV} (hr:r.length=(nwOf n o).B) (hx:∀ b,b<(nwOf n o).B->rv r b=(nwOf n o).inj0 (rv x) b):solvable (nwOf n o).gA r/\tab (nwOf n o).B (rv (solX (nwOf n o).gA r))=tab (nwOf n o).B ((nwOf n o).an (rv x)):=by
 have hs:solvable (nwOf n o).gA r:=BJ7 (by rw [AL0 ok.b1,K5]) (As2 ok.ok ok.b1) fun i hi=>AO8 (by rw [K5] at hi;omega)
 refine ⟨hs,F5 fun c hc=>?_⟩
 rw [<-inv_sol (by rw [AL0 ok.b1,K5]) (As2 ok.ok ok.b1) hs (by rw [K5];exact hc),K5]
 unfold Nw.an
 refine A1 fun b hb=>?_
 rw [hx b hb];rfl
theorem Au0 {n:NtV} {o:List Int} (ok:nwOk n o) {x:Nat->Rat} {L:Nat} (hL:1<=L) (hx:∀ b,Rsz (x b) L) (c:Nat):Rsz ((nwOf n o).an x c) (1+6*(87381+L+1)):=by
 unfold Nw.an
 refine (AW5 (L:=87381+L) fun b _=>(th_rsz ok b c).mul ?_).mono (by have:=Nat.mul_le_mul_right (87381+L+1) ok.b6;omega)
 unfold Nw.inj0
 split
 ·exact Rsz.zero hL
 ·exact hx b
theorem Ab5:Ent Tryz.prog 57:=A0 Tryz.func57 (by kernel_rfl) rfl
open Classical in
set_option maxRecDepth 8000 in
theorem Aa8 {S T0:Nat->Prop} {w:World} {vn vo vx:Value} {n:NtV} {o:List Int} {x:List QV} {L:Nat} (up:Up S w) (upo:Up T0 w) (hn:eN.R S w vn n) (ho:eI.R S w vo o) (hx:eV.R S w vx x) (hkx:vk L x) (hL1:1<=L) (hL:L<=9000) :
  CR Tryz.prog 57 #[vn,vo,vx] w (Two (eV.at T0 (if anE n o x=0 then tab (nwOf n o).B ((nwOf n o).an (rv x)) else [])) (Is (.int .i64 (anE n o x)))):=by
 obtain ⟨s,rfl,hs,hb⟩:=hn
 have hn:eN.R S w (.agg #[.int .i64 n.b,s]) n:=⟨s,rfl,hs,hb⟩
 refine enter Tryz.func57 O Tryz.ntmps57 O (.beg (.go O (.box O O fun w1 b3 n1=>?_)))
 obtain ⟨e1,k3,hb3,hs1⟩:=n1
 refine .go O (.ldA ty_N O O k3 O (.go O ?_))
 refine .call _ O AU3 O (AT7 (up.ext e1.size) (hn.ext e1) (ho.ext e1) (ER.ext eV hx e1) hkx hL1 (by omega)) fun v2 w2 e2 h2=>?_
 obtain ⟨vb,ve,rfl,rfl,rfl⟩:=h2
 have x2:=e1.trans e2
 refine .go O ?_
 by_cases hE:sfE n o x.length=0
 rotate_left
 ·have hb:anE n o x=sfE n o x.length:=by unfold anE;rw [if_pos hE]
  refine .neqT O O O hE (.goE O ?_)
  refine .plain [_,_] Tryz.results57 ⟨rfl,rfl,trivial⟩ ⟨x2,_,_,rfl,?_,by rw [hb]⟩
  rw [if_neg (by rw [hb];exact hE)];exact RL.nil
 by_cases hB:(nwOf n o).bal (rv x)
 rotate_left
 ·have hb:anE n o x=10:=by unfold anE;rw [if_neg (by simpa using hE),if_neg hB]
  rw [decide_eq_false fun h=>hB h.2]
  refine .neqF O O O hE (.goE O ?_)
  refine .plain [_,_] Tryz.results57 ⟨rfl,rfl,trivial⟩ ⟨x2,_,_,rfl,?_,by rw [hb]⟩
  rw [if_neg (by rw [hb];decide)];exact RL.nil
 have hno:anE n o x=0:=by unfold anE;rw [if_neg (by simpa using hE),if_pos hB]
 rw [decide_eq_true ⟨hE,hB⟩,if_pos hno]
 obtain ⟨hO,hxb⟩:=AO7 hE
 have ok:=I0 hO
 have hB6:=ok.b6
 have hB1:=ok.b1
 have hnb:=ok.b
 refine .neqF O O O hE (.go O (.ldA ty_N O O (k3.ext e2) O (.go O ?_)))
 refine .call _ O AQ8 O (AP6 (up.ext x2.size) (hn.ext x2) (ho.ext x2)) fun v4 w4 e4 h4=>?_
 obtain ⟨vm,ve,rfl,hm,rfl⟩:=h4
 rw [if_pos hO] at hm
 obtain ⟨gb,hs0,rfl,hgb,hge,hM⟩:=hm
 have x4:=x2.trans e4
 have hs2:=x2.size
 have hs4:=e4.size
 have hglt:=hM.out.lt
 have hk3:=k3.lt
 have hF:FB eV 26 S w4 gb (tabM (nwOf n o).B (nwOf n o).B (nwOf n o).Lm):=hM.toFB (fun k hk=>up k (by have:=hge k hk;omega)) (by omega)
 have old:∀ {α:Type} (E:ER α) {v:Value} {y:α},E.R S w v y->E.R (fun k=>S k/\k≠gb) w4 v y:=fun E v y h=>E.mono (fun k _ h=>⟨h.1,by have:=h.2;omega⟩) (ER.ext E (ER.lt E h) x4)
 have k3:=k3.ext (e2.trans e4)
 refine .go O (.neqF O O O hO (.go O (.ldA ty_N O O k3 O (.go O ?_))))
 refine .call _ O AG7 O (AG2 (S:=fun k=>S k/\k≠gb) (fun k hk=>⟨up k (by omega),by omega⟩) (old eN hn) (old eI ho)) fun v5 w5 e5 h5=>?_
 obtain ⟨vr,ve,rfl,hr,he⟩:=h5
 replace he:ve=.int .i64 0:=by rw [he,hO]
 subst he
 rw [if_pos hO] at hr
 have hs5:=e5.size
 have k3:=k3.ext e5
 refine .go O (.neqF O O O O (.go O (.fa J0 O O (.ld A8 O O k3 O ?_))))
 rw [hnb]
 refine .call _ O N8 O (P9 (S:=fun k=>S k/\k≠gb) (fun k hk=>⟨up k (by omega),by omega⟩) (ER.ext eV (old eV hx) e5) hkx hL1 (by omega)) fun v6 w6 e6 h6=>?_
 obtain ⟨h6,_⟩ | ⟨_,gr,N6,hN6,hgr,rfl,fr⟩:=h6
 ·omega
 have hNB:N6=(nwOf n o).B:=by omega
 subst hNB
 have hs6:=e6.size
 have hgrl:=fr.lt
 have x6:=x4.trans (e5.trans e6)
 have k3:=k3.ext e6
 have hF:FB eV 26 (fun k=>S k/\k≠gr) w6 gb (tabM (nwOf n o).B (nwOf n o).B (nwOf n o).Lm):=(hF.mono (S':=fun k=>S k/\k≠gr) fun k hk h=>⟨h,by omega⟩).ext (e5.trans e6)
 have hr:eI.R (fun k=>(S k/\k≠gb)/\k≠gr) w6 vr (pInts (nwOf n o).refs):=ER.ext eI (eI.mono (fun k _ h=>⟨h.1,by have:=h.2;omega⟩) (ER.lt eI hr)) e6
 have hrW:∀ {W:World},Chg (fun k=>k=gb\/k=gr) w6 W->eI.R (fun k=>(S k/\k≠gb)/\k≠gr) W vr (pInts (nwOf n o).refs):=fun hC=>eI.keep (hC.kp fun k hk h=>h.elim (fun e=>hk.1.2 e) fun e=>hk.2 e) hr
 have hkW:∀ {W:World},Chg (fun k=>k=gb\/k=gr) w6 W->Blk W b3 24 #[.int .i64 n.b,s]:=fun hC=>hC.blk k3 fun h=>by have:=hb3;have:=e2.size;rcases h with h | h<;>omega
 rw [hnb] at hkW
 have hrl:(nwOf n o).refs.length<=(nwOf n o).B:=(nwOf n o).cnt_le (nwOf n o).B
 refine .go O (.lenR un_I O O hr ?_)
 rw [show (pInts (nwOf n o).refs).length=(nwOf n o).refs.length by simp]
 generalize hG:(fun i=>fun b c=>if b∈(nwOf n o).refs.take i then dl b c else (nwOf n o).Lm b c:Nat->RM)=G
 generalize hY:(fun i=>fun b=>if b∈(nwOf n o).refs.take i then 0 else rv x b:Nat->Nat->Rat)=Y
 refine .goC O (.lp (α:=Nat) [3,9,10,12,51,52] O (fun i=>[(53,.int .i64 (i:Nat))]) (fun i W=>i<=(nwOf n o).refs.length/\Chg (fun k=>k=gb\/k=gr) w6 W/\FB eV 26 (fun k=>S k/\k≠gr) W gb (tabM (nwOf n o).B (nwOf n o).B (G i))/\FB eQ 39 (fun k=>S k/\k≠gb) W gr (tab (nwOf n o).B (Y i))) (fun i=>(nwOf n o).refs.length-i) 0 (lc1 O) ⟨Nat.zero_le _,Chg.refl _,by rw [<-hG];simpa using hF,by rw [<-hY];simpa using fr⟩ ?_)
 clear hF fr
 rintro i W ⟨hi,hC,hF,fr⟩
 have hCs:=hC.size
 refine .go O ?_
 rcases Nat.lt_or_ge i (nwOf n o).refs.length with hlt | hge
 rotate_left
 ·have:i=(nwOf n o).refs.length:=by omega
  subst this
  have hmem:∀ b,b<(nwOf n o).B->(b∈(nwOf n o).refs.take (nwOf n o).refs.length<->(nwOf n o).root b=b):=fun b hb=>by
   rw [List.take_of_length_le (Nat.le_refl _),Nw.mem_refs]
   exact ⟨fun h=>h.2,fun h=>⟨hb,h⟩⟩
  have hA:tabM (nwOf n o).B (nwOf n o).B (G (nwOf n o).refs.length)=(nwOf n o).gA:=C0 fun b c hb _=>by
   rw [<-hG]
   unfold Nw.gm
   dsimp only
   by_cases h:(nwOf n o).root b=b
   ·rw [if_pos h,if_pos ((hmem b hb).2 h)]
   ·rw [if_neg h,if_neg fun h'=>h ((hmem b hb).1 h')]
  rw [hA] at hF
  have hRm:eM.R S W (slB (nwOf n o).B gb) (nwOf n o).gA:=by
   have:=(hF.mono (S':=S) fun k _ h=>h.1).toR (hsz:=by decide) (c:=(nwOf n o).B) (up gb (by omega)) (by rw [K5];exact Nat.le_refl _) (by rw [K5];omega)
   rw [K5] at this
   exact this
  have hRr:eV.R S W (slB (nwOf n o).B gr) (tab (nwOf n o).B (Y (nwOf n o).refs.length)):=by
   have:=(fr.mono (S':=S) fun k _ h=>h.1).toR (hsz:=by decide) (c:=(nwOf n o).B) (up gr (by omega)) (by rw [A2];exact Nat.le_refl _) (by rw [A2];omega)
   rw [A2] at this
   exact this
  have hxW:Ext w W:=hC.below x6 (by omega) (fun k hk=>by omega)
  obtain ⟨hsv,hsol⟩:=an_sol ok (r:=tab (nwOf n o).B (Y (nwOf n o).refs.length)) (x:=x) (A2 ..) fun b hb=>by
   rw [O5,if_pos hb,<-hY]
   unfold Nw.inj0
   dsimp only
   by_cases h:(nwOf n o).root b=b
   ·rw [if_pos h,if_pos ((hmem b hb).2 h)]
   ·rw [if_neg h,if_neg fun h'=>h ((hmem b hb).1 h')]
  have hkY:vk (max 21 L) (tab (nwOf n o).B (Y (nwOf n o).refs.length)):=U7 fun b _=>by
   rw [<-hY]
   dsimp only
   split
   ·exact Rsz.zero (by omega)
   ·exact (hkx.rsz hL1 b).mono (by omega)
  refine .lssF O O O (by omega) (.go O ?_)
  refine .call _ O Ab2 O (Aa3 (L:=max 21 L) (n:=6) (up.ext hxW.size) hRm hRr ((gA_mk ok).mono (by omega)) hkY (by omega) (by rw [K5];omega) (by rw [A2];omega) (by rw [AL0 hB1];omega) (by rw [K5,A2];omega) (by rw [bd6];omega)) fun v7 w7 e7 h7=>?_
  obtain ⟨va,vz,ve,rfl,ha,_,rfl⟩:=h7
  rw [if_pos hsv] at ha
  rw [if_pos hsv]
  have k3W:=(hkW hC).ext e7
  have hka:vk 600000 (solX (nwOf n o).gA (tab (nwOf n o).B (Y (nwOf n o).refs.length))):=by
   have h1:solX (nwOf n o).gA (tab (nwOf n o).B (Y (nwOf n o).refs.length))=tab (nwOf n o).B (rv (solX (nwOf n o).gA (tab (nwOf n o).B (Y (nwOf n o).refs.length)))):=by
    unfold solX
    rw [AL0 hB1]
    exact F5 fun k hk=>by rw [O5,if_pos hk]
   rw [h1,hsol]
   exact U7 fun c _=>(Au0 ok hL1 (fun b=>hkx.rsz hL1 b) c).mono (by omega)
  refine .go O (.neqF O O O O (.go O (.fa J0 O O (.ld A8 O O k3W O ?_))))
  refine .call _ O N8 O (AI8 (up.ext (hxW.trans e7).size) (upo.ext (hxW.trans e7).size) ha hka (by decide) (by decide)) fun v8 w8 e8 h8=>.goE O ?_
  have h8:=BH4 (B:=(nwOf n o).B) h8 (upo.ext (hxW.trans e7).size) hB1 (by omega)
  rw [hsol] at h8
  exact .plain [_,_] Tryz.results57 ⟨rfl,rfl,trivial⟩ ⟨(hxW.trans e7).trans e8,_,_,rfl,h8,by rw [hno]⟩
 have hgr':(pInts (nwOf n o).refs)[i]?=some (((nwOf n o).refs.getD i 0:Nat):Int):=by rw [List.getElem?_map,A4 (z:=0) hlt];rfl
 have hrB:(nwOf n o).refs.getD i 0<(nwOf n o).B:=(Nw.mem_refs.1 (I6 hlt)).1
 have htk:(nwOf n o).refs.take (i+1)=(nwOf n o).refs.take i++[(nwOf n o).refs.getD i 0]:=by rw [List.take_add_one,A4 (z:=0) hlt];rfl
 refine .lssT O O O (by omega) (.go O (.ixN (i:=i) un_I A7 O O (hrW hC) O hgr' fun q hq=>.ldE (E:=eInt .i64) A7 O O hq fun e he=>?_))
 obtain ⟨rfl,_⟩:=he
 generalize hb0:(nwOf n o).refs.getD i 0=b at hrB htk
 refine .go O (.fa J0 O O (.ld A8 O O (hkW hC) O (.go O ?_)))
 refine .call _ O Au1 O (Aq4 (S:=fun k=>(S k/\k≠gr)/\k≠gb) fun k hk=>⟨⟨up k (by omega),by omega⟩,by omega⟩) fun v7 W1 e7 h7=>?_
 rw [show (min (((nwOf n o).B:Nat):Int) 65536).toNat=(nwOf n o).B by omega] at h7
 have hs7:=e7.size
 refine .go O (.ixB (i:=b) un_M ty_V O O O hrB (.storeF (E:=eV) (i:=b) (by decide) ty_V O O (hF.ext e7) O (by rw [B3];exact hrB) (Nat.zero_add _) h7 fun W2 f2 u2=>?_))
 have hs2':=u2.size
 have fr:=(fr.ext e7).upd u2 (by omega) fun h=>h.2 rfl
 refine .go O (.bld _ O O Ah4 (.ixB (i:=b) un_V ty_Q O O O hrB (.storeF (E:=eQ) (i:=b) (by decide) ty_Q O O fr O (by rw [A2];exact hrB) (Nat.zero_add _) (zq_R (S:=fun k=>(S k/\k≠gb)/\k≠gr)) fun W3 f3 u3=>?_)))
 have f2:=f2.upd u3 (by omega) fun h=>h.2 rfl
 rw [X9 hrB] at f2
 rw [<-T4,S8] at f3
 have hm:∀ b',b'∈(nwOf n o).refs.take (i+1)<->b'∈(nwOf n o).refs.take i\/b'=b:=fun b'=>by rw [htk,List.mem_append,List.mem_singleton]
 have hs1:tabM (nwOf n o).B (nwOf n o).B (fun j k=>if j=b then uni (b:Nat) k else G i j k)=tabM (nwOf n o).B (nwOf n o).B (G (i+1)):=C0 fun j c _ _=>by
  rw [<-hG]
  dsimp only
  by_cases e:j=b
  ·rw [if_pos e,if_pos ((hm j).2 (.inr e)),e,uni_dl]
  ·rw [if_neg e]
   by_cases h:j∈(nwOf n o).refs.take i
   ·rw [if_pos h,if_pos ((hm j).2 (.inl h))]
   ·rw [if_neg h,if_neg fun h'=>((hm j).1 h').elim h e]
 have hs2:(tab (nwOf n o).B fun j=>if j=b then 0 else Y i j)=tab (nwOf n o).B (Y (i+1)):=F5 fun j _=>by
  rw [<-hY]
  dsimp only
  by_cases e:j=b
  ·rw [if_pos e,if_pos ((hm j).2 (.inr e))]
  ·rw [if_neg e]
   by_cases h:j∈(nwOf n o).refs.take i
   ·rw [if_pos h,if_pos ((hm j).2 (.inl h))]
   ·rw [if_neg h,if_neg fun h'=>((hm j).1 h').elim h e]
 rw [hs1] at f2
 rw [hs2] at f3
 exact .go O (.inc O O O (by omega) (.goN O (.mk (i+1) O (lc1 O) ⟨⟨hlt,((hC.trans (Chg.ext e7)).trans (Chg.upd u2 (.inl O))).trans (Chg.upd u3 (.inr O)),f2,f3⟩,by show (nwOf n o).refs.length-(i+1)<(nwOf n o).refs.length-i;omega⟩)))
theorem Aa9 {S:Nat->Prop} {w:World} {vn vo vx:Value} {n:NtV} {o:List Int} {x:List QV} {L:Nat} (up:Up S w) (hn:eN.R S w vn n) (ho:eI.R S w vo o) (hx:eV.R S w vx x) (hkx:vk L x) (hL1:1<=L) (hL:L<=9000) :
  CR Tryz.prog 57 #[vn,vo,vx] w (Two (eV.at S (if anE n o x=0 then tab (nwOf n o).B ((nwOf n o).an (rv x)) else [])) (Is (.int .i64 (anE n o x)))):=Aa8 up up hn ho hx hkx hL1 hL
theorem AN6:Ent Tryz.prog 19:=A0 Tryz.func19 (by kernel_rfl) rfl
theorem AL4 {S T0:Nat->Prop} {w:World} {vn vo vx:Value} {n:NtV} {o:List Int} {x:List QV} {L:Nat} (up:Up S w) (upo:Up T0 w) (hn:eN.R S w vn n) (ho:eI.R S w vo o) (hx:eV.R S w vx x) (hkx:vk L x) (hL1:1<=L) (hL:L<=9000) :
  CR Tryz.prog 19 #[vn,vo,vx] w (Two (eV.at T0 (if anE n o x=0 then tab n.ls.length ((nwOf n o).fl ((nwOf n o).an (rv x))) else [])) (Is (.int .i64 (anE n o x)))):=by
 obtain ⟨s,rfl,hs,hb⟩:=hn
 have hn:eN.R S w (.agg #[.int .i64 n.b,s]) n:=⟨s,rfl,hs,hb⟩
 refine enter Tryz.func19 O Tryz.ntmps19 O (.beg (.go O (.box O O fun w1 b3 n1=>?_)))
 obtain ⟨e1,k3,hb3,hs1⟩:=n1
 refine .go O (.ldA ty_N O O k3 O (.go O (.call _ O Ab5 O (Aa9 (up.ext e1.size) (hn.ext e1) (ho.ext e1) (ER.ext eV hx e1) hkx hL1 hL) fun v2 w2 e2 h2=>?_)))
 obtain ⟨va,ve,rfl,ha,rfl⟩:=h2
 have x2:=e1.trans e2
 refine .go O ?_
 by_cases hE:anE n o x=0
 rotate_left
 ·refine .neqT O O O hE (.goE O (.plain [_,_] Tryz.results19 ⟨rfl,rfl,trivial⟩ ⟨x2,_,_,rfl,?_,rfl⟩))
  rw [if_neg hE];exact RL.nil
 rw [if_pos hE] at ha ⊢
 obtain ⟨hS,_⟩:=Ah7 hE
 obtain ⟨hO,_⟩:=AO7 hS
 have ok:=I0 hO
 have hB6:=ok.b6
 have hnb:=ok.b
 have hka:vk 600000 (tab (nwOf n o).B ((nwOf n o).an (rv x))):=U7 fun c _=>(Au0 ok hL1 (fun b=>hkx.rsz hL1 b) c).mono (by omega)
 refine .neqF O O O hE (.go O (.ldA ty_N O O (k3.ext e2) O (.go O (.call _ O AN5 O (AL3 (up.ext x2.size) (upo.ext x2.size) (hn.ext x2) (ho.ext x2) ha hka (by decide) (by decide)) fun v3 w3 e3 h3=>?_))))
 obtain ⟨vf,ve,rfl,hf,rfl⟩:=h3
 have hsf:sfE n o (tab (nwOf n o).B ((nwOf n o).an (rv x))).length=0:=by unfold sfE;rw [if_neg (by simpa using hO),if_pos (by rw [A2];omega)]
 rw [if_pos hsf] at hf
 rw [hsf]
 have hfl:tab n.ls.length ((nwOf n o).fl (rv (tab (nwOf n o).B ((nwOf n o).an (rv x)))))=tab n.ls.length ((nwOf n o).fl ((nwOf n o).an (rv x))):=F5 fun k hk=>by
  unfold Nw.fl
  rw [O5,O5,if_pos (ok.f k hk),if_pos (ok.t k hk)]
 rw [hfl] at hf
 exact .goE O (.plain [_,_] Tryz.results19 ⟨rfl,rfl,trivial⟩ ⟨x2.trans e3,_,_,rfl,hf,by rw [hE]⟩)
end Go.Proofs.YtpgkacdihhjknaaGreat
namespace Go.Kx
open Go Go.RowKit
instance (n:Nw) (k:Nat):Decidable (n.brg k):=inferInstanceAs (Decidable (_≠_))
end Go.Kx
namespace Go.Proofs.YtpgkacdihhjknaaGreat
open Go Go.Kx Go.RowKit
section
variable {n:NtV} {o u:List Int}
theorem AU4 (h:outsOk n o):o.Pairwise (·<·)/\∀ x∈o,0<=x/\x<n.ls.length:=by
 refine ⟨List.pairwise_iff_getElem.2 fun i j hi hj hij=>?_,fun x hx=>?_⟩
 ·have:=Y3 h (j-i) i (by omega)
  rw [show i+(j-i)=j by omega,List.getD_eq_getElem?_getD,List.getD_eq_getElem?_getD,List.getElem?_eq_getElem hi,List.getElem?_eq_getElem hj] at this
  simp only [Option.getD_some] at this
  omega
 ·obtain ⟨i,hi,rfl⟩:=List.mem_iff_getElem.1 hx
  have:=h i hi
  rw [List.getD_eq_getElem?_getD,List.getElem?_eq_getElem hi] at this
  exact ⟨this.1,this.2.1⟩
theorem BB0 (hp:u.Pairwise (·<·)) (hx:∀ x∈u,0<=x/\x<n.ls.length):outsOk n u:=fun i hi=>by
 have h1:=hx _ (List.getElem_mem hi)
 rw [List.getD_eq_getElem?_getD,List.getElem?_eq_getElem hi]
 refine ⟨h1.1,h1.2,fun h0=>?_⟩
 rw [List.getD_eq_getElem?_getD,List.getElem?_eq_getElem (by omega:i-1<u.length)]
 exact List.pairwise_iff_getElem.1 hp (i-1) i (by omega) hi (by omega)
theorem outE_pw (hO:outE n o=0) (hp:u.Pairwise (·<·)) (hx:∀ x∈u,0<=x/\x<n.ls.length):outE n u=0:=by
 obtain ⟨hc,_⟩:=O9 hO
 unfold outE
 rw [if_neg (by simpa using hc),if_pos (BB0 hp hx)]
theorem nw_cut {k:Nat} (hm:∀ j,j∈oN u<->j=k\/j∈oN o):nwOf n u=(nwOf n o).cut k:=by
 have:(fun j=>if j∈oN u then (0:Rat) else ((n.ls.getD j ln0).x:Rat)⁻¹)=fun j=>if j=k then 0 else if j∈oN o then (0:Rat) else ((n.ls.getD j ln0).x:Rat)⁻¹:=by
  funext j
  by_cases h:j=k
  ·rw [if_pos ((hm j).2 (.inl h)),if_pos h]
  ·rw [if_neg h]
   by_cases h2:j∈oN o
   ·rw [if_pos ((hm j).2 (.inr h2)),if_pos h2]
   ·rw [if_neg h2,if_neg fun h'=>((hm j).1 h').elim h h2]
 show Nw.mk _ _ _ _ _=Nw.mk _ _ _ _ _
 rw [this]
 rfl
theorem As0 {k:Nat} (hO:outE n o=0) (hk:k<n.ls.length) (h:Ins o (k:Nat) u):outE n u=0/\nwOf n u=(nwOf n o).cut k:=by
 have hp:=AU4 (O9 hO).2
 have hx:∀ x∈u,0<=x/\x<n.ls.length:=fun x hx=>by
  rcases (h.mem x).1 hx with rfl | h1
  ·omega
  ·exact hp.2 x h1
 refine ⟨outE_pw hO h.inc hx,nw_cut fun j=>?_⟩
 unfold oN
 rw [List.mem_map,List.mem_map]
 constructor
 ·rintro ⟨x,hxu,rfl⟩
  rcases (h.mem x).1 hxu with rfl | h1
  ·exact .inl (by simp)
  ·exact .inr ⟨x,h1,rfl⟩
 ·rintro (rfl | ⟨x,hxo,rfl⟩)
  ·exact ⟨_,(h.mem _).2 (.inl O),by simp⟩
  ·exact ⟨x,(h.mem x).2 (.inr hxo),rfl⟩
theorem BK8 (ok:nwOk n o) {k:Nat} (hk:k<n.ls.length) (h:k∉oN o):(nwOf n o).g k≠0:=by
 have hx:=ok.x k hk
 show (if k∈oN o then (0:Rat) else ((n.ls.getD k ln0).x:Rat)⁻¹)≠0
 rw [if_neg h]
 intro h
 have h3:(((n.ls.getD k ln0).x:Int):Rat)≠0:=by
  intro h
  have:=Rat.intCast_inj.1 (h.trans Rat.intCast_zero.symm)
  omega
 have:=Rat.mul_inv_cancel _ h3
 rw [h,Rat.mul_zero] at this
 exact absurd this (by decide)
theorem AP2 {k:Nat} (h:k∉oN o):((k:Nat):Int)∉o:=fun h'=>h (List.mem_map.2 ⟨_,h',by simp⟩)
theorem Al7 (hO:outE n o=0):o.length<=n.ls.length:=by
 have h:=(O9 hO).2
 rcases Nat.eq_zero_or_pos o.length with h0 | h0
 ·omega
 ·have h1:=Y3 h (o.length-1) 0 (by omega)
  have h2:=h (o.length-1) (by omega)
  have h3:=h 0 h0
  rw [show 0+(o.length-1)=o.length-1 by omega] at h1
  omega
end
theorem Az8:Ent Tryz.prog 51:=A0 Tryz.func51 (by kernel_rfl) rfl
set_option maxRecDepth 8000 in
theorem BA0 {S:Nat->Prop} {w:World} {vn vo:Value} {n:NtV} {o:List Int} (up:Up S w) (hn:eN.R S w vn n) (ho:eI.R S w vo o) :
  CR Tryz.prog 51 #[vn,vo] w (Two (Is (.int .i64 (if outE n o=0 then ((nwOf n o).refs.length:Nat) else 0))) (Is (.int .i64 (outE n o)))):=by
 obtain ⟨s,rfl,hs,hb⟩:=hn
 have hn:eN.R S w (.agg #[.int .i64 n.b,s]) n:=⟨s,rfl,hs,hb⟩
 refine enter Tryz.func51 O Tryz.ntmps51 O (.beg (.go O (.box O O fun w1 b2 n1=>?_)))
 obtain ⟨e1,k2,hb2,hs1⟩:=n1
 refine .go O (.ldA ty_N O O k2 O (.go O (.call _ O AG7 O (AG2 (up.ext e1.size) (hn.ext e1) (ho.ext e1)) fun v2 w2 e2 h2=>?_)))
 obtain ⟨vr,ve,rfl,hr,he⟩:=h2
 subst he
 have x2:=e1.trans e2
 refine .go O ?_
 by_cases hO:outE n o=0
 rotate_left
 ·exact .neqT O O O hO (.goE O (.plain [_,_] Tryz.results51 ⟨rfl,rfl,trivial⟩ ⟨x2,_,_,rfl,by rw [if_neg hO],rfl⟩))
 rw [if_pos hO] at hr
 refine .neqF O O O hO (.go O (.lenR un_I O O hr ?_))
 rw [show (pInts (nwOf n o).refs).length=(nwOf n o).refs.length by simp]
 exact .goE O (.plain [_,_] Tryz.results51 ⟨rfl,rfl,trivial⟩ ⟨x2,_,_,rfl,by rw [if_pos hO],by rw [hO]⟩)
def brL (n:NtV) (o:List Int):List Nat:=(inL n o).filter fun k=>decide ((nwOf n o).brg k)
theorem Ae1:Ent Tryz.prog 14:=A0 Tryz.func14 (by kernel_rfl) rfl
set_option maxRecDepth 8000 in
theorem Ae2 {S:Nat->Prop} {w:World} {vn vo:Value} {n:NtV} {o:List Int} (up:Up S w) (hn:eN.R S w vn n) (ho:eI.R S w vo o) :
  CR Tryz.prog 14 #[vn,vo] w (Two (eI.at S (if outE n o=0 then pInts (brL n o) else [])) (Is (.int .i64 (outE n o)))):=by
 obtain ⟨s,rfl,hs,hb⟩:=hn
 have hn:eN.R S w (.agg #[.int .i64 n.b,s]) n:=⟨s,rfl,hs,hb⟩
 refine enter Tryz.func14 O Tryz.ntmps14 O (.beg (.go O (.box O O fun w1 b2 n1=>?_)))
 obtain ⟨e1,k2,hb2,hs1⟩:=n1
 replace k2:Blk w1 b2 24 #[.int .i64 n.b,s]:=k2
 refine .go O (.ldA ty_N O O k2 O (.go O ?_))
 refine .call _ O Y8 O (Y4 (up.ext e1.size) (hn.ext e1) (ho.ext e1)) fun v2 w2 e2 h2=>?_
 obtain ⟨vl,ve,rfl,hl,he⟩:=h2
 replace he:ve=.int .i64 (outE n o):=he
 subst he
 have x2:=e1.trans e2
 have k2:=k2.ext e2
 refine .go O ?_
 by_cases hO:outE n o=0
 rotate_left
 ·refine .neqT O O O hO (.goE O (.plain [_,_] Tryz.results14 ⟨rfl,rfl,trivial⟩ ⟨x2,_,_,rfl,?_,rfl⟩))
  rw [if_neg hO];exact RL.nil
 have ok:=I0 hO
 have hM10:n.ls.length<=10:=ok.m
 have hll:=T5 n o
 have hpw:=AU4 (O9 hO).2
 have hol:=Al7 hO
 rw [if_pos hO] at hl ⊢
 refine .neqF O O O hO (.go O (.ldA ty_N O O k2 O (.go O ?_)))
 refine .call _ O Az8 O (BA0 (up.ext x2.size) (hn.ext x2) (ho.ext x2)) fun v3 w3 e3 h3=>?_
 obtain ⟨vc,ve,rfl,hc,he⟩:=h3
 replace he:ve=.int .i64 (outE n o):=he
 replace hc:vc=.int .i64 (if outE n o=0 then ((nwOf n o).refs.length:Nat) else 0):=hc
 rw [if_pos hO] at hc
 subst he hc
 have x3:=x2.trans e3
 have k2:=k2.ext e3
 have hl:=ER.ext eI hl e3
 have z3:=x3.size
 refine .go O (.neqF O O O hO (.go O (.lenR un_I O O hl (.goC O ?_))))
 rw [show (pInts (inL n o)).length=(inL n o).length by simp]
 generalize hP:(fun k=>decide ((nwOf n o).brg k))=P
 have hbr:brL n o=(inL n o).filter P:=by rw [<-hP];rfl
 rw [hbr]
 refine .lp (α:=Nat×Value) [1,2,8,33,34] O (fun y=>[(9,y.2),(35,.int .i64 (y.1:Nat))]) (fun y W=>Ext w3 W/\y.1<=(inL n o).length/\OwnL (eInt .i64) 3 w3.heap.size S W y.2 (pInts (((inL n o).take y.1).filter P))) (fun y=>(inL n o).length-y.1) (0,.slice none 0 0) (lc2 O O) ⟨Ext.refl _,Nat.zero_le _,OwnL.nil⟩ ?_
 rintro ⟨i,v⟩ W ⟨hW,hi,hown⟩
 replace hW:Ext w3 W:=hW
 replace hi:i<=(inL n o).length:=hi
 replace hown:OwnL (eInt .i64) 3 w3.heap.size S W v (pInts (((inL n o).take i).filter P)):=hown
 have hlW:=ER.ext eI hl hW
 have xW:=x3.trans hW
 have zW:=hW.size
 refine .go O ?_
 rcases Nat.lt_or_ge i (inL n o).length with hlt | hge
 rotate_left
 ·have:i=(inL n o).length:=by omega
  subst this
  rw [List.take_of_length_le (Nat.le_refl _)] at hown
  exact .lssF O O O (by omega) (.goE O (.plain [_,_] Tryz.results14 ⟨rfl,rfl,trivial⟩ ⟨xW,_,_,rfl,hown.toR (fun k hk=>up k (by omega)) (fun _ h=>h),by rw [hO]⟩))
 obtain ⟨hgk,hkM,hko⟩:=AF0 hlt
 have htk:(inL n o).take (i+1)=(inL n o).take i++[(inL n o).getD i 0]:=by rw [List.take_add_one,A4 (z:=0) hlt];rfl
 have hfl:(((inL n o).take i).filter P).length<=10:=Nat.le_trans (List.length_filter_le ..) (by rw [List.length_take];omega)
 generalize (inL n o).getD i 0=k at hgk hkM hko htk
 have hgk0:=BK8 ok hkM hko
 refine .lssT O O O (by omega) (.go O (.ixN (i:=i) un_I A7 O O hlW O hgk fun q hq=>.ldE (E:=eInt .i64) A7 O O hq fun e he=>.go O ?_))
 obtain ⟨rfl,_⟩:=he
 refine .bsl _ O O AI2 fun W1 b1 n1=>?_
 have hk1:eI.R S W1 (.slice (some ⟨b1,0,none⟩) 1 1) [((k:Nat):Int)]:=Ah0 (E:=eInt .i64) (hsz:=by decide) [.int .i64 (k:Nat)] [((k:Nat):Int)] n1 (up.ext xW.size) O O (by decide) (Els.snoc Els.nil ⟨rfl,E0.2 (by omega)⟩)
 have d1:=n1.1
 have x1:=xW.trans d1
 refine .call _ O Az7 O (Az6 (up.ext x1.size) (ho.ext x1) hk1 hpw.1 (fun x hx=>(hpw.2 x hx).1) (by omega) (AP2 hko) (by omega)) fun v5 W5 d5 h5=>?_
 obtain ⟨vu,ve,rfl,⟨u,hIns,hu⟩,rfl⟩:=h5
 obtain ⟨hOu,hcut⟩:=As0 hO hkM hIns
 have x5:=x1.trans d5
 refine .go O (.neqF O O O O (.go O (.ldA ty_N O O (k2.ext ((hW.trans d1).trans d5)) O (.go O ?_))))
 refine .call _ O Az8 O (BA0 (up.ext x5.size) (hn.ext x5) hu) fun v6 W6 d6 h6=>?_
 obtain ⟨vc,ve,rfl,hc,he⟩:=h6
 replace he:ve=.int .i64 (outE n u):=he
 replace hc:vc=.int .i64 (if outE n u=0 then ((nwOf n u).refs.length:Nat) else 0):=hc
 rw [if_pos hOu,hcut] at hc
 rw [hOu] at he
 subst he hc
 have dd:=(d1.trans d5).trans d6
 have hWW:=hW.trans dd
 have hbc:=Nw.brg_cnt ok.ok hkM hgk0
 refine .go O (.neqF O O O O (.go O ?_))
 by_cases hB:(nwOf n o).brg k
 ·have hPk:P k=true:=by rw [<-hP];exact decide_eq_true hB
  have hbc:=hbc.1 hB
  refine .gtrT O O O (by omega) (.go O (.bsl _ O O AI2 fun W7 b7 n7=>?_))
  obtain ⟨d7,k7,hb7,hs7⟩:=n7
  have d17:=dd.trans d7
  have hW7:=hW.trans d17
  refine .gv O O (AH8 (E:=eInt .i64) (base:=w3.heap.size) (n:=((k:Nat):Int)) (e:=.int .i64 (k:Nat)) (by decide) un_I Z7 O O O (hown.ext d17) k7 ⟨rfl,E0.2 (by omega)⟩ (by simp;omega) (by decide) hW7.size) ?_
  rintro v8 W8 ⟨ho8,hg8⟩
  have hW8:Ext w3 W8:=OwnL.below (hown.ext d17) hg8 hW7 hW7.size
  refine .go O (.inc O O O (by omega) (.goN O (.mk (i+1,v8) O (lc2 O O) ⟨⟨hW8,hlt,?_⟩,by show (inL n o).length-(i+1)<(inL n o).length-i;omega⟩)))
  show OwnL (eInt .i64) 3 w3.heap.size S W8 v8 (pInts (((inL n o).take (i+1)).filter P))
  rw [htk,List.filter_append,List.filter_cons_of_pos hPk,List.filter_nil]
  unfold pInts
  rw [List.map_append]
  exact ho8
 ·have hPk:¬ P k=true:=by rw [<-hP];simpa using hB
  have hbc:¬ _:=fun h=>hB (hbc.2 h)
  refine .gtrF O O O (by omega) (.go O (.inc O O O (by omega) (.goN O (.mk (i+1,v) O (lc2 O O) ⟨⟨hWW,hlt,?_⟩,by show (inL n o).length-(i+1)<(inL n o).length-i;omega⟩))))
  show OwnL (eInt .i64) 3 w3.heap.size S W6 v (pInts (((inL n o).take (i+1)).filter P))
  rw [htk,List.filter_append,List.filter_cons_of_neg hPk,List.filter_nil,List.append_nil]
  exact hown.ext dd
noncomputable def lkE (n:NtV) (o:List Int) (line:Int):Int:=if outE n o≠0 then outE n o else if line∈pInts (inL n o) then (if (nwOf n o).brg line.toNat then 11 else 0) else 1
theorem BJ3 {n:NtV} {o:List Int} {line:Int} (h:lkE n o line=0):outE n o=0/\∃ k:Nat,line=k/\k<n.ls.length/\(nwOf n o).g k≠0/\k∉oN o/\¬ (nwOf n o).brg k:=by
 unfold lkE at h
 split at h
 ·rename_i h1;exact absurd h h1
 rename_i h1
 have hO:=Classical.not_not.1 h1
 split at h
 ·rename_i h2
  split at h
  ·cases h
  ·rename_i h3
   obtain ⟨k,hk,rfl⟩:=List.mem_map.1 h2
   obtain ⟨a,b⟩:=AU6.1 hk
   exact ⟨hO,k,rfl,a,BK8 (I0 hO) a b,b,h3⟩
 ·cases h
theorem Ai2:Ent Tryz.prog 73:=A0 Tryz.func73 (by kernel_rfl) rfl
set_option maxRecDepth 8000 in
theorem Af7 {S:Nat->Prop} {w:World} {vn vo:Value} {n:NtV} {o:List Int} {line:Int} (up:Up S w) (hn:eN.R S w vn n) (ho:eI.R S w vo o) :
  CR Tryz.prog 73 #[vn,vo,.int .i64 line] w (Is (.int .i64 (lkE n o line))):=by
 obtain ⟨s,rfl,hs,hb⟩:=hn
 have hn:eN.R S w (.agg #[.int .i64 n.b,s]) n:=⟨s,rfl,hs,hb⟩
 refine enter Tryz.func73 O Tryz.ntmps73 O (.beg (.go O (.box O O fun w1 b3 n1=>?_)))
 obtain ⟨e1,k3,hb3,hs1⟩:=n1
 refine .go O (.ldA ty_N O O k3 O (.go O (.call _ O Y8 O (Y4 (up.ext e1.size) (hn.ext e1) (ho.ext e1)) fun v2 w2 e2 h2=>?_)))
 obtain ⟨vl,ve,rfl,hl,he⟩:=h2
 replace he:ve=.int .i64 (outE n o):=he
 subst he
 have x2:=e1.trans e2
 have k3:=k3.ext e2
 refine .go O ?_
 by_cases hO:outE n o=0
 rotate_left
 ·have hlk:lkE n o line=outE n o:=by unfold lkE;rw [if_pos hO]
  exact .neqT O O O hO (.goE O (.plain [_] Tryz.results73 ⟨rfl,trivial⟩ ⟨x2,by rw [hlk];rfl⟩))
 have ok:=I0 hO
 have hM10:n.ls.length<=10:=ok.m
 have hll:=T5 n o
 rw [if_pos hO] at hl
 refine .neqF O O O hO (.go O ?_)
 refine .call _ O AI6 O (AI7 hl (by simp;omega)) fun v3 w3 e3 h3=>?_
 subst h3
 have x3:=x2.trans e3
 by_cases hm:line∈pInts (inL n o)
 rotate_left
 ·rw [decide_eq_false hm]
  have hlk:lkE n o line=1:=by unfold lkE;rw [if_neg (by simpa using hO),if_neg hm]
  exact .goE O (.plain [_] Tryz.results73 ⟨rfl,trivial⟩ ⟨x3,by rw [hlk];rfl⟩)
 rw [decide_eq_true hm]
 refine .go O (.ldA ty_N O O (k3.ext e3) O (.go O (.call _ O Ae1 O (Ae2 (up.ext x3.size) (hn.ext x3) (ho.ext x3)) fun v4 w4 e4 h4=>?_)))
 obtain ⟨vb,ve,rfl,hbr,he⟩:=h4
 replace he:ve=.int .i64 (outE n o):=he
 subst he
 rw [if_pos hO] at hbr
 have x4:=x3.trans e4
 refine .go O (.neqF O O O hO (.go O ?_))
 refine .call _ O AI6 O (AI7 hbr (by simp;unfold brL;exact Nat.le_trans (List.length_filter_le ..) (by omega))) fun v5 w5 e5 h5=>?_
 subst h5
 have x5:=x4.trans e5
 have hiff:line∈pInts (brL n o)<->(nwOf n o).brg line.toNat:=by
  obtain ⟨k,hk,rfl⟩:=List.mem_map.1 hm
  have:(((k:Nat):Int)).toNat=k:=by simp
  rw [this]
  unfold pInts brL
  rw [List.mem_map]
  constructor
  ·rintro ⟨j,hj,e⟩
   have:j=k:=by omega
   subst this
   exact of_decide_eq_true (List.mem_filter.1 hj).2
  ·intro h
   exact ⟨k,List.mem_filter.2 ⟨hk,decide_eq_true h⟩,rfl⟩
 by_cases hB:(nwOf n o).brg line.toNat
 ·rw [decide_eq_true (hiff.2 hB)]
  have hlk:lkE n o line=11:=by unfold lkE;rw [if_neg (by simpa using hO),if_pos hm,if_pos hB]
  exact .goE O (.plain [_] Tryz.results73 ⟨rfl,trivial⟩ ⟨x5,by rw [hlk];rfl⟩)
 ·rw [decide_eq_false fun h=>hB (hiff.1 h)]
  have hlk:lkE n o line=0:=by unfold lkE;rw [if_neg (by simpa using hO),if_pos hm,if_neg hB]
  exact .goE O (.plain [_] Tryz.results73 ⟨rfl,trivial⟩ ⟨x5,by rw [hlk];rfl⟩)
theorem Ai3:Ent Tryz.prog 33:=A0 Tryz.func33 (by kernel_rfl) rfl
noncomputable def afE (n:NtV) (o:List Int) (line:Int) (x:List QV):Int:=if lkE n o line≠0 then lkE n o line else anE n o x
def afV (n:NtV) (o:List Int) (k:Nat) (x:List QV):List QV:=tab n.ls.length (((nwOf n o).cut k).fl (((nwOf n o).cut k).an (rv x)))
theorem Az5 {n:NtV} {o u:List Int} {x:List QV} {k:Nat} (hO:outE n o=0) (hOu:outE n u=0) (hcut:nwOf n u=(nwOf n o).cut k) (hb:¬ (nwOf n o).brg k):anE n u x=anE n o x:=by
 have hs:sfE n u x.length=sfE n o x.length:=by
  unfold sfE
  rw [hO,hOu]
 have hbal:(nwOf n u).bal (rv x)<->(nwOf n o).bal (rv x):=by rw [hcut];exact Nw.cut_bal (I0 hO).ok hb _
 unfold anE
 rw [hs]
 congr 1
 by_cases h2:(nwOf n o).bal (rv x)
 ·rw [if_pos (hbal.2 h2),if_pos h2]
 ·rw [if_neg (fun h'=>h2 (hbal.1 h')),if_neg h2]
set_option maxRecDepth 8000 in
theorem Af8 {S T0:Nat->Prop} {w:World} {vn vo vx:Value} {n:NtV} {o:List Int} {x:List QV} {line:Int} {L:Nat} (up:Up S w) (upo:Up T0 w) (hn:eN.R S w vn n) (ho:eI.R S w vo o) (hx:eV.R S w vx x) (hkx:vk L x) (hL1:1<=L) (hL:L<=9000) :
  CR Tryz.prog 33 #[vn,vo,.int .i64 line,vx] w (Two (eV.at T0 (if afE n o line x=0 then afV n o line.toNat x else [])) (Is (.int .i64 (afE n o line x)))):=by
 obtain ⟨s,rfl,hs,hb⟩:=hn
 have hn:eN.R S w (.agg #[.int .i64 n.b,s]) n:=⟨s,rfl,hs,hb⟩
 refine enter Tryz.func33 O Tryz.ntmps33 O (.beg (.go O (.box O O fun w1 b4 n1=>?_)))
 obtain ⟨e1,k4,hb4,hs1⟩:=n1
 refine .go O (.ldA ty_N O O k4 O (.go O ?_))
 refine .call _ O Ai2 O (Af7 (up.ext e1.size) (hn.ext e1) (ho.ext e1)) fun v2 w2 e2 h2=>?_
 subst h2
 have x2:=e1.trans e2
 have k4:=k4.ext e2
 refine .go O ?_
 by_cases hK:lkE n o line=0
 rotate_left
 ·have haf:afE n o line x=lkE n o line:=by unfold afE;rw [if_pos hK]
  refine .neqT O O O hK (.goE O (.plain [_,_] Tryz.results33 ⟨rfl,rfl,trivial⟩ ⟨x2,_,_,rfl,?_,by rw [haf]⟩))
  rw [if_neg (by rw [haf];exact hK)];exact RL.nil
 have haf:afE n o line x=anE n o x:=by unfold afE;rw [if_neg (by simpa using hK)]
 obtain ⟨hO,k,rfl,hkM,hg,hko,hB⟩:=BJ3 hK
 have ok:=I0 hO
 have hM10:n.ls.length<=10:=ok.m
 have hpw:=AU4 (O9 hO).2
 have hol:=Al7 hO
 rw [haf]
 refine .neqF O O O hK (.go O (.bsl _ O O AI2 fun W1 b1 n1=>?_))
 have hk1:eI.R S W1 (.slice (some ⟨b1,0,none⟩) 1 1) [((k:Nat):Int)]:=Ah0 (E:=eInt .i64) (hsz:=by decide) [.int .i64 (k:Nat)] [((k:Nat):Int)] n1 (up.ext x2.size) O O (by decide) (Els.snoc Els.nil ⟨rfl,E0.2 (by omega)⟩)
 have d1:=n1.1
 have x1:=x2.trans d1
 refine .call _ O Az7 O (Az6 (up.ext x1.size) (ho.ext x1) hk1 hpw.1 (fun x hx=>(hpw.2 x hx).1) (by omega) (AP2 hko) (by omega)) fun v5 W5 d5 h5=>?_
 obtain ⟨vu,ve,rfl,⟨u,hIns,hu⟩,rfl⟩:=h5
 obtain ⟨hOu,hcut⟩:=As0 hO hkM hIns
 have x5:=x1.trans d5
 refine .go O (.neqF O O O O (.go O (.ldA ty_N O O (k4.ext (d1.trans d5)) O (.go O (.call _ O AN6 O (AL4 (up.ext x5.size) (upo.ext x5.size) (hn.ext x5) hu (ER.ext eV hx x5) hkx hL1 hL) fun v6 W6 d6 h6=>?_)))))
 obtain ⟨vf,ve,rfl,hf,he⟩:=h6
 subst he
 rw [Az5 hO hOu hcut hB,hcut] at hf
 rw [Az5 hO hOu hcut hB]
 exact .goE O (.plain [_,_] Tryz.results33 ⟨rfl,rfl,trivial⟩ ⟨x5.trans d6,_,_,rfl,hf,rfl⟩)
structure FdV where
 lost:Int
 line:Int
 flow:QV
 over:QV
def fdLt (a b:FdV):Prop:=a.lost<b.lost\/(a.lost=b.lost/\a.line<b.line)
def ovr (cap:Nat->Int) (f:Nat->Rat) (l:Nat):Rat:=absR (f l)-(cap l:Rat)
def fds (cap:Nat->Int) (lost:Int) (f:Nat->Rat) (M:Nat):List FdV:=(List.range M).filterMap fun l=>if 0<ovr cap f l then some ⟨lost,(l:Int),qc (f l),qc (ovr cap f l)⟩ else none
theorem P5 (cap:Nat->Int) (lost:Int) (f:Nat->Rat) (M:Nat):fds cap lost f (M+1)=fds cap lost f M++if 0<ovr cap f M then [⟨lost,(M:Int),qc (f M),qc (ovr cap f M)⟩] else []:=by
 unfold fds
 rw [List.range_succ,List.filterMap_append]
 congr 1
 by_cases h:0<ovr cap f M
 ·simp [h]
 ·simp [h]
theorem AU7 {cap:Nat->Int} {lost:Int} {f:Nat->Rat} {M:Nat} {x:FdV}:x∈fds cap lost f M<->∃ l,l<M/\0<ovr cap f l/\x=⟨lost,(l:Int),qc (f l),qc (ovr cap f l)⟩:=by
 unfold fds
 rw [List.mem_filterMap]
 constructor
 ·rintro ⟨l,hl,h⟩
  by_cases h0:0<ovr cap f l
  ·rw [if_pos h0] at h
   exact ⟨l,List.mem_range.1 hl,h0,(Option.some.inj h).symm⟩
  ·rw [if_neg h0] at h;cases h
 ·rintro ⟨l,hl,h0,rfl⟩
  exact ⟨l,List.mem_range.2 hl,if_pos h0⟩
theorem At0 (cap:Nat->Int) (lost:Int) (f:Nat->Rat):∀ M,(fds cap lost f M).Pairwise fdLt
 | 0=>List.Pairwise.nil
 | M+1=>by
  rw [P5]
  refine List.pairwise_append.2 ⟨At0 cap lost f M,by split<;>simp,fun x hx y hy=>?_⟩
  obtain ⟨l,hl,_,rfl⟩:=AU7.1 hx
  split at hy
  ·rw [List.mem_singleton.1 hy]
   exact .inr ⟨rfl,by show (l:Int)<M;omega⟩
  ·cases hy
theorem Ag7 (cap:Nat->Int) (lost:Int) (f:Nat->Rat) (M:Nat):(fds cap lost f M).length<=M:=by
 have:=List.length_filterMap_le (fun l=>if 0<ovr cap f l then some (FdV.mk lost (l:Int) (qc (f l)) (qc (ovr cap f l))) else none) (List.range M)
 rw [List.length_range] at this
 exact this
section
variable (n:NtV) (o:List Int) (x:Nat->Rat)
def capL (l:Nat):Int:=(n.ls.getD l ln0).c
def flB:Nat->Rat:=(nwOf n o).fl ((nwOf n o).an x)
def flK (k:Nat):Nat->Rat:=((nwOf n o).cut k).fl (((nwOf n o).cut k).an x)
def scK (k:Nat):List FdV:=if (nwOf n o).brg k then [⟨(k:Int),-1,q0,q0⟩] else fds (capL n) (k:Int) (flK n o x k) n.ls.length
def AR2 (i:Nat):List FdV:=fds (capL n) (-1) (flB n o x) n.ls.length++((inL n o).take i).flatMap (scK n o x)
def scr:List FdV:=fds (capL n) (-1) (flB n o x) n.ls.length++(inL n o).flatMap (scK n o x)
end
section
variable {n:NtV} {o:List Int} {x:Nat->Rat}
theorem AW7 {k:Nat} {y:FdV} (h:y∈scK n o x k):y.lost=(k:Int):=by
 unfold scK at h
 split at h
 ·rw [List.mem_singleton.1 h]
 ·obtain ⟨l,_,_,rfl⟩:=AU7.1 h;rfl
theorem scK_lt (k:Nat):(scK n o x k).Pairwise fdLt:=by
 unfold scK
 split
 ·exact List.pairwise_singleton ..
 ·exact At0 ..
theorem Ay5:∀ l:List Nat,l.Pairwise (·<·)->(l.flatMap (scK n o x)).Pairwise fdLt
 | [],_=>List.Pairwise.nil
 | k::l,h=>by
  rw [List.flatMap_cons]
  refine List.pairwise_append.2 ⟨scK_lt k,Ay5 l (List.pairwise_cons.1 h).2,fun y hy z hz=>?_⟩
  obtain ⟨j,hj,hz⟩:=List.mem_flatMap.1 hz
  have:=(List.pairwise_cons.1 h).1 j hj
  exact .inl (by rw [AW7 hy,AW7 hz];omega)
theorem scr_lt (hp:(inL n o).Pairwise (·<·)):(scr n o x).Pairwise fdLt:=by
 unfold scr
 refine List.pairwise_append.2 ⟨At0 ..,Ay5 _ hp,fun y hy z hz=>?_⟩
 obtain ⟨l,_,_,rfl⟩:=AU7.1 hy
 obtain ⟨j,_,hz⟩:=List.mem_flatMap.1 hz
 exact .inl (by rw [AW7 hz];show (-1:Int)<j;omega)
def fnd (l:List FdV) (lost line:Int):Option FdV:=l.find? fun y=>decide (y.lost=lost) && decide (y.line=line)
theorem AX9 {l:List FdV} (hl:l.Pairwise fdLt) {y:FdV} (hy:y∈l):fnd l y.lost y.line=some y:=by
 induction l with
 | nil=>cases hy
 | cons z l ih =>
  unfold fnd
  obtain ⟨h1,h2⟩:=List.pairwise_cons.1 hl
  rcases List.mem_cons.1 hy with rfl | hy
  ·rw [List.find?_cons_of_pos (by simp)]
  ·have h3:=h1 y hy
   rw [List.find?_cons_of_neg (by
    unfold fdLt at h3
    intro h
    simp at h
    omega)]
   exact ih h2 hy
theorem BL0 {l:List FdV} {lost line:Int} (h:∀ y∈l,¬ (y.lost=lost/\y.line=line)):fnd l lost line=none:=by
 unfold fnd
 rw [List.find?_eq_none]
 intro y hy hh
 simp at hh
 exact h y hy hh
open Classical in
noncomputable def limF (line r:Int) (y:FdV):Option FdV:=if y.line=line then (if 0<qval y.over-(r:Rat) then some ⟨y.lost,y.line,y.flow,qc (qval y.over-(r:Rat))⟩ else none) else some y
theorem AK4 {line r:Int} {y z:FdV} (h:limF line r y=some z):z.lost=y.lost/\z.line=y.line:=by
 unfold limF at h
 split at h
 ·split at h
  ·cases h;exact ⟨rfl,rfl⟩
  ·cases h
 ·cases h;exact ⟨rfl,rfl⟩
theorem Ag6 {cap cap':Nat->Int} {lost line r:Int} {f:Nat->Rat} (hr:0<=r):∀ M,(∀ l,l<M->cap' l=if (l:Int)=line then cap l+r else cap l)->fds cap' lost f M=(fds cap lost f M).filterMap (limF line r)
 | 0,_=>rfl
 | M+1,h=>by
  rw [P5,P5,List.filterMap_append,Ag6 hr M (fun l hl=>h l (by omega))]
  congr 1
  have hc:=h M (Nat.lt_succ_self _)
  by_cases e:(M:Int)=line
  ·rw [if_pos e] at hc
   have ho:ovr cap' f M=ovr cap f M-(r:Rat):=by
    unfold ovr
    rw [hc,Rat.intCast_add];grind
   have hr':(0:Rat)<=(r:Rat):=by
    have:=Rat.intCast_le_intCast.2 hr
    exact this
   by_cases h1:0<ovr cap f M
   ·rw [if_pos h1]
    by_cases h2:0<ovr cap' f M
    ·rw [if_pos h2,List.filterMap_cons_some (b:=⟨lost,(M:Int),qc (f M),qc (ovr cap' f M)⟩) (by unfold limF;rw [if_pos e,B9,<-ho,if_pos h2])];rfl
    ·rw [if_neg h2,List.filterMap_cons_none (by unfold limF;rw [if_pos e,B9,<-ho,if_neg h2])];rfl
   ·have h2:¬ 0<ovr cap' f M:=by rw [ho];grind
    rw [if_neg h1,if_neg h2];rfl
  ·rw [if_neg e] at hc
   have ho:ovr cap' f M=ovr cap f M:=by unfold ovr;rw [hc]
   rw [ho]
   by_cases h1:0<ovr cap f M
   ·rw [if_pos h1,List.filterMap_cons_some (b:=⟨lost,(M:Int),qc (f M),qc (ovr cap f M)⟩) (by unfold limF;rw [if_neg e])];rfl
   ·rw [if_neg h1];rfl
theorem scr_lim {m:NtV} {line r:Int} (hr:0<=r) (hl0:0<=line) (hc:∀ l,l<n.ls.length->capL m l=if (l:Int)=line then capL n l+r else capL n l) (hM:m.ls.length=n.ls.length) (hN:nwOf m o=nwOf n o):scr m o x=(scr n o x).filterMap (limF line r):=by
 have hi:inL m o=inL n o:=by unfold inL;rw [hM]
 have hB:flB m o x=flB n o x:=by unfold flB;rw [hN]
 have hK:∀ k,flK m o x k=flK n o x k:=fun k=>by unfold flK;rw [hN]
 unfold scr
 rw [List.filterMap_append,hM,hi,hB,Ag6 hr n.ls.length hc]
 congr 1
 induction inL n o with
 | nil=>rfl
 | cons k l ih =>
  rw [List.flatMap_cons,List.flatMap_cons,List.filterMap_append,ih]
  congr 1
  unfold scK
  rw [hN,hM,hK]
  split
  ·rw [List.filterMap_cons_some (b:=⟨(k:Int),-1,q0,q0⟩) (by unfold limF;rw [if_neg (by show (-1:Int)≠line;omega)])];rfl
  ·exact Ag6 hr n.ls.length hc
theorem key_eq {l:List FdV} (hl:l.Pairwise fdLt) {y z:FdV} (hy:y∈l) (hz:z∈l) (h1:z.lost=y.lost) (h2:z.line=y.line):z=y:=by
 have a:=AX9 hl hy
 have b:=AX9 hl hz
 rw [h1,h2,a] at b
 exact (Option.some.inj b).symm
theorem fnd_lim {line r:Int} {l:List FdV} (hl:l.Pairwise fdLt) {y:FdV} (hy:y∈l):fnd (l.filterMap (limF line r)) y.lost y.line=limF line r y:=by
 have hp:(l.filterMap (limF line r)).Pairwise fdLt:=by
  rw [List.pairwise_filterMap]
  refine hl.imp fun {a b} h c hc d hd=>?_
  have h1:=AK4 hc
  have h2:=AK4 hd
  unfold fdLt at h ⊢
  rw [h1.1,h1.2,h2.1,h2.2]
  exact h
 cases h:limF line r y with
 | some z =>
  have hk:=AK4 h
  rw [<-hk.1,<-hk.2]
  exact AX9 hp (List.mem_filterMap.2 ⟨y,hy,h⟩)
 | none =>
  refine BL0 fun z hz hh=>?_
  obtain ⟨y',hy',h'⟩:=List.mem_filterMap.1 hz
  have hk:=AK4 h'
  have:=key_eq hl hy hy' (by rw [<-hk.1];exact hh.1) (by rw [<-hk.2];exact hh.2)
  rw [this,h] at h'
  cases h'
end
def eFd:ER FdV where
 sz:=10
 isA:=true
 R:=fun S w v y=>∃ a b c d,v=.agg #[.int .i64 y.lost,.int .i64 y.line,.bool y.flow.num.neg,a,.bool y.flow.den.neg,b,.bool y.over.num.neg,c,.bool y.over.den.neg,d]/\inI y.lost/\inI y.line/\eW.R S w a y.flow.num.w/\eW.R S w b y.flow.den.w/\eW.R S w c y.over.num.w/\eW.R S w d y.over.den.w
 csz:=by rintro S w e x ⟨a,b,c,d,rfl,_⟩;rfl
 one:=by
  rintro S w e x ⟨a,b,c,d,rfl,_,_,h1,h2,h3,h4⟩ t ht
  have ha:=eW.shp h1
  have hb:=eW.shp h2
  have hc:=eW.shp h3
  have hd:=eW.shp h4
  simp [Value.cells] at ht
  rcases ht with rfl | rfl | rfl | rfl | rfl | rfl | rfl | rfl | rfl | rfl
  ·rfl
  ·rfl
  ·rfl
  ·exact ha
  ·rfl
  ·exact hb
  ·rfl
  ·exact hc
  ·rfl
  ·exact hd
 shp:=by rintro S w e x ⟨a,b,c,d,rfl,_⟩;rfl
 keep:=fun hk ⟨a,b,c,d,h0,h5,h6,h1,h2,h3,h4⟩=>⟨a,b,c,d,h0,h5,h6,eW.keep hk h1,eW.keep hk h2,eW.keep hk h3,eW.keep hk h4⟩
 mono:=fun hk ⟨a,b,c,d,h0,h5,h6,h1,h2,h3,h4⟩=>⟨a,b,c,d,h0,h5,h6,eW.mono hk h1,eW.mono hk h2,eW.mono hk h3,eW.mono hk h4⟩
abbrev eFds:ER (List FdV):=RL eFd
section
variable {S:Nat->Prop} {w:World} {p:Addr} {y:FdV}
theorem AF7 (h:PtrTo eFd S w p y):PtrTo (eInt .i64) S w (p.add 0) y.lost/\PtrTo (eInt .i64) S w (p.add 1) y.line:=by
 obtain ⟨e,⟨a,b,c,d,rfl,h5,h6,_⟩,h2,h3⟩:=h
 refine ⟨⟨.int .i64 y.lost,⟨rfl,h5⟩,by rw [F6];exact h2,fun j u hu=>?_⟩,⟨.int .i64 y.line,⟨rfl,h6⟩,by rw [F6];exact h2,fun j u hu=>?_⟩⟩
 all_goals
  have hj:j=0:=by
   cases j with
   | zero=>rfl
   | succ j=>simp [Value.cells] at hu
  subst hj
  rw [Q4]
  refine h3 _ u ?_
  simpa [Value.cells] using hu
end
structure SitV where
 lost:Int
 split:Bool
 flows:List QV
 e:Int
def eSit:ER SitV where
 sz:=4
 isA:=true
 R:=fun S w v y=>∃ a,v=.agg #[.int .i64 y.lost,.bool y.split,a,.int .i64 y.e]/\inI y.lost/\inI y.e/\eV.R S w a y.flows
 csz:=by rintro S w e x ⟨a,rfl,_⟩;rfl
 one:=by
  rintro S w e x ⟨a,rfl,_,_,h⟩ t ht
  have ha:=eV.shp h
  simp [Value.cells] at ht
  rcases ht with rfl | rfl | rfl | rfl
  ·rfl
  ·rfl
  ·exact ha
  ·rfl
 shp:=by rintro S w e x ⟨a,rfl,_⟩;rfl
 keep:=fun hk ⟨a,h0,h1,h2,h3⟩=>⟨a,h0,h1,h2,eV.keep hk h3⟩
 mono:=fun hk ⟨a,h0,h1,h2,h3⟩=>⟨a,h0,h1,h2,eV.mono hk h3⟩
theorem isQ_t {w:World} {va vb:Value} {a b:QV} (ha:eQ.R (fun _=>True) w va a) (hb:eQ.R (fun _=>True) w vb b) (h:a=b):CR Tryz.prog 74 #[va,vb] w (Is (.bool true)):=by
 have:=Ar2 ha hb
 rwa [Y2 h] at this
end Go.Proofs.YtpgkacdihhjknaaGreat
namespace Go.Kx
open Go Go.RowKit
theorem Nw.th_cand {n:Nw} (ok:n.Ok) (hB:1<=n.B) (cand:Nat->Nat->Rat) (h:∀ b,b<n.B->∀ i,i<n.B->(if n.root i=i then cand b i else n.lap (cand b) i)=dl i b) {b c:Nat} (hb:b<n.B) (hc:c<n.B):n.th b c=cand b c :=
 Nw.uniq ok (fun i hi=>by
  have h1:=Go.Proofs.YtpgkacdihhjknaaGreat.Ak8 ok hB hb hi
  have h2:=h b hb i hi
  split
  ·rw [if_pos (by assumption)] at h1 h2;rw [h1,h2]
  ·rw [if_neg (by assumption)] at h1 h2;rw [h1,h2]) c hc
theorem Nw.hf_cand {n:Nw} (ok:n.Ok) (hB:1<=n.B) (cand:Nat->Nat->Rat) (h:∀ b,b<n.B->∀ i,i<n.B->(if n.root i=i then cand b i else n.lap (cand b) i)=dl i b) {k b:Nat} (hk:k<n.M) (hb:b<n.B):n.hf k b=n.fl (cand b) k:=by
 unfold Nw.hf Nw.fl
 rw [Nw.th_cand ok hB cand h hb (ok.f k hk),Nw.th_cand ok hB cand h hb (ok.t k hk)]
def net3:NtV:=⟨3,[⟨0,1,10,100⟩,⟨1,2,5,50⟩,⟨0,2,10,70⟩]⟩
def cand3 (b c:Nat):Rat:=if b=0 then 1 else if c=0 then 0 else if b=c then 6 else 4
def outsB (m:Nat) (o:List Int):Bool:=(List.range o.length).all fun i=>decide (0<=o.getD i 0) && decide (o.getD i 0<m) && (decide (i=0) || decide (o.getD (i-1) 0<o.getD i 0))
theorem BI3 {n:NtV} {o:List Int} (h:outsB n.ls.length o=true):outsOk n o:=by
 unfold outsB at h
 rw [List.all_eq_true] at h
 intro i hi
 have:=h i (List.mem_range.2 hi)
 simp only [Bool.and_eq_true,Bool.or_eq_true,decide_eq_true_eq] at this
 exact ⟨this.1.1,this.1.2,fun h0=>by rcases this.2 with h | h;omega;exact h⟩
def chkB (n:NtV):Bool:=decide (1<=n.b) && decide (n.b<=6) && decide (n.ls.length<=10) && n.ls.all fun l=>(List.range 5).all fun i=>ck i n.b l
theorem Aw7 {n:NtV} {o:List Int} (h:chkB n=true) (ho:outsB n.ls.length o=true):outE n o=0:=by
 unfold chkB at h
 simp only [Bool.and_eq_true,decide_eq_true_eq,List.all_eq_true] at h
 obtain ⟨⟨⟨h1,h2⟩,h3⟩,h4⟩:=h
 have hc:chkE n=0:=by
  unfold chkE
  rw [if_neg (by omega),if_neg (by omega),if_pos]
  exact fun i _ l hl j hj=>h4 l (List.mem_iff_getElem?.2 ⟨i,hl⟩) j (List.mem_range.2 hj)
 unfold outE
 rw [if_neg (by simpa using hc),if_pos (BI3 ho)]
end Go.Kx
namespace Go.Proofs.YtpgkacdihhjknaaGreat
open Go Go.Kx Go.RowKit
theorem un_II:Tryz.prog.underlying 119=some (.slice 25):=by kernel_rfl
theorem Ai6:Ent Tryz.prog 45:=A0 Tryz.func45 (by kernel_rfl) rfl
theorem Ag1 {S:Nat->Prop} {w:World} {vn vl:Value} {n:NtV} {l:List (List Int)} (hn:eN.R S w vn n) (hl:eII.R S w vl l):CR Tryz.prog 45 #[vn,vl] w (fun v _=>∃ b,v=.bool b):=by
 obtain ⟨s,rfl,hs,_⟩:=hn
 obtain ⟨_,_,_,_,hll⟩:=RL.len hl
 refine enter Tryz.func45 O Tryz.ntmps45 O (.sr (.box O O fun w1 b2 n1=>.an O O (.seq (.sr (.an O O ?_)))))
 obtain ⟨e1,k2,_,_⟩:=n1
 have hl:=hl.ext e1
 refine .block (.loop (α:=Nat) (fun i=>[(1,vl),(2,.pointer (some ⟨b2,0,none⟩)),(5,.int .i64 (i:Nat))]) (fun i W=>W=w1/\i<=l.length) (fun i=>l.length-i) 0 ?_ ?_ ?_)
 ·exact lkA rfl
 ·exact ⟨rfl,Nat.zero_le _⟩
 rintro i W ⟨rfl,hi⟩
 refine .seq (.sr (.mv O O (.mv O O (.lenR un_II O O hl ?_))))
 rcases Nat.lt_or_ge i l.length with hlt | hge
 rotate_left
 ·refine .lssF O O O (by omega) (.nil (.condF O (.exit (.sr (.fa J5 O O (.ld P2 O O k2 O (.lenR M4 O O (hs.ext e1) (.gtr O O O (.an O O (.ret ?_))))))))))
  exact .plain [_] Tryz.results45 ⟨rfl,trivial⟩ ⟨e1,_,rfl⟩
 refine .lssT O O O (by omega) (.nil (.condT O (.skip (.seq (.block (.sr (.mv O O (.mv O O (.ixN (i:=i) un_II ty_I O O hl O (List.getElem?_eq_getElem hlt) fun q hq=>.ldE (E:=eI) ty_I O O hq fun v hv=>.lenR un_I O O hv ?_)))))))))
 by_cases h:100<l[i].length
 ·refine .gtrT O O O (by omega) (.nil (.condT O (.sr (.an O O (.ret ?_)))))
  exact .plain [_] Tryz.results45 ⟨rfl,trivial⟩ ⟨e1,_,rfl⟩
 ·refine .gtrF O O O (by omega) (.nil (.condF O (.skip (.region (.mv O O (.add O O O (.an O O ?_)))))))
  rw [wI (by omega)]
  exact ⟨rfl,i+1,lkA rfl,⟨rfl,hlt⟩,by show l.length-(i+1)<l.length-i;omega⟩
theorem BE8:zeroOf Tryz.prog 24=some (.agg #[.int .i64 0,.slice none 0 0]):=by kernel_rfl
theorem Ah5 {a b c d:Int}:bldOf Tryz.prog 53 [(0,.int .i64 a),(1,.int .i64 b),(2,.int .i64 c),(3,.int .i64 d)]=some #[.int .i64 a,.int .i64 b,.int .i64 c,.int .i64 d]:=by kernel_rfl
theorem bsl_Ls3 {a b c d a' b' c' d' a2 b2 c2 d2:Value}:bslOf Tryz.prog 22 3 [(0,.agg #[a,b,c,d]),(1,.agg #[a',b',c',d']),(2,.agg #[a2,b2,c2,d2])]=some (53,#[a,b,c,d,a',b',c',d',a2,b2,c2,d2]):=by kernel_rfl
theorem BM9 {b:Int} {a:Option Addr} {n c:Nat}:bldOf Tryz.prog 24 [(0,.int .i64 b),(1,.slice a n c)]=some #[.int .i64 b,.slice a n c]:=by kernel_rfl
theorem ln_R {S:Nat->Prop} {w:World} {a b c d:Int} (h:∀ x∈[a,b,c,d],-9223372036854775808<=x/\x<=9223372036854775807):eL.R S w (.agg #[.int .i64 a,.int .i64 b,.int .i64 c,.int .i64 d]) ⟨a,b,c,d⟩:=⟨rfl,E0.2 (h a (by simp)),E0.2 (h b (by simp)),E0.2 (h c (by simp)),E0.2 (h d (by simp))⟩
theorem ok3:outE net3 []=0:=Aw7 (by decide) (by decide)
theorem AY9:∀ b,b<(nwOf net3 []).B->∀ i,i<(nwOf net3 []).B->(if (nwOf net3 []).root i=i then cand3 b i else (nwOf net3 []).lap (cand3 b) i)=dl i b:=by
 have:∀ b,b<3->∀ i,i<3->(if (nwOf net3 []).root i=i then cand3 b i else (nwOf net3 []).lap (cand3 b) i)=dl i b:=by decide +kernel
 exact this
def want3:List (List Int):=[[0,-3,-2],[0,2,-2],[0,-2,-3]]
theorem hf3:tabM 3 3 (nwOf net3 []).hf=want3.map fun l=>tab l.length fun k=>Rat.divInt (l.getD k 0) 5:=by
 have ok:=I0 ok3
 have h1:tabM 3 3 (nwOf net3 []).hf=tabM 3 3 fun k b=>(nwOf net3 []).fl (cand3 b) k:=C0 fun k b hk hb=>Nw.hf_cand ok.ok ok.b1 cand3 AY9 hk hb
 have h2:∀ k,k<3->∀ b,b<3->(nwOf net3 []).fl (cand3 b) k=Rat.divInt ((want3.getD k []).getD b 0) 5:=by decide +kernel
 rw [h1,show tabM 3 3 (fun k b=>(nwOf net3 []).fl (cand3 b) k)=tabM 3 3 fun k b=>Rat.divInt ((want3.getD k []).getD b 0) 5 from C0 fun k b hk hb=>h2 k hk b hb]
 rfl
end Go.Proofs.YtpgkacdihhjknaaGreat
namespace Go.Kx
open Go Go.RowKit
end Go.Kx
namespace Go.Proofs.YtpgkacdihhjknaaGreat
open Go Go.Kx Go.RowKit
end Go.Proofs.YtpgkacdihhjknaaGreat
