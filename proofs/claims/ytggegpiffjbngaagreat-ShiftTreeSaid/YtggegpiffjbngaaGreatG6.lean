/-
  What the claim leans on.
-/
import Derived.Test.YtggegpiffjbngaaGreatG5
set_option linter.unusedVariables false
namespace Go.Kx
def dl (a b:Nat):Rat:=if a=b then 1 else 0
theorem Ad6 (a:Nat):dl a a=1:=if_pos rfl
theorem AW7 {a b:Nat} (h:a≠b):dl a b=0:=if_neg h
theorem AU5 {n a:Nat} (f:Nat->Rat) (h:a<n):sumN n (fun b=>f b*dl a b)=f a:=by
 rw [F4 (i:=a) (fun k _ hne=>by rw [AW7 (Ne.symm hne),Rat.mul_zero]),if_pos h,Ad6,Rat.mul_one]
theorem rat_sq (x:Rat):0<=x*x:=by
 rcases Rat.le_total (a:=0) (b:=x) with h | h
 ·exact Rat.mul_nonneg h h
 ·have h2:0 <= -x:=by grind
  have:=Rat.mul_nonneg h2 h2
  grind
theorem rat_sq0 {x:Rat} (h:x*x=0):x=0:=by
 rcases Rat.mul_eq_zero.1 h with h | h<;>exact h
theorem Ag8 {n:Nat} {f:Nat->Rat} (h:∀ k,k<n->0<=f k):0<=sumN n f:=by
 induction n with
 | zero=>exact Rat.le_refl
 | succ n ih =>
  have h1:=ih fun k hk=>h k (by omega)
  have h2:=h n (by omega)
  unfold sumN
  grind
theorem sumN_le {n:Nat} {f g:Nat->Rat} (h:∀ k,k<n->f k<=g k):sumN n f<=sumN n g:=by
 have:=Ag8 (n:=n) (f:=fun k=>g k-f k) fun k hk=>by have:=h k hk;grind
 rw [AB2] at this
 grind
theorem Au0 {n:Nat} {f:Nat->Rat} (h:∀ k,k<n->0<=f k) {j:Nat} (hj:j<n):f j<=sumN n f:=by
 have h1:sumN n (fun k=>if k=j then f j else 0)=f j:=by
  rw [F4 (i:=j) (fun k _ hne=>if_neg hne),if_pos hj,if_pos rfl]
 rw [<-h1]
 refine sumN_le fun k hk=>?_
 have:=h k hk
 by_cases e:k=j
 ·subst e;rw [if_pos rfl];exact Rat.le_refl
 ·rw [if_neg e];exact this
theorem Au1 {n:Nat} {f:Nat->Rat} (h:∀ k,k<n->0<=f k) (h0:sumN n f=0) {j:Nat} (hj:j<n):f j=0:=by
 have h1:=Au0 h hj
 have h2:=h j hj
 rw [h0] at h1
 exact Rat.le_antisymm h1 h2
structure Nw where
 B:Nat
 M:Nat
 F:Nat->Nat
 T:Nat->Nat
 g:Nat->Rat
structure Nw.Ok (n:Nw):Prop where
 f:∀ k,k<n.M->n.F k<n.B
 t:∀ k,k<n.M->n.T k<n.B
 p:∀ k,k<n.M->0<=n.g k
namespace Nw
section
variable (n:Nw)
def inc (k b:Nat):Rat:=dl (n.F k) b-dl (n.T k) b
def fl (θ:Nat->Rat) (k:Nat):Rat:=n.g k*(θ (n.F k)-θ (n.T k))
def off (f:Nat->Rat) (b:Nat):Rat:=sumN n.M fun k=>n.inc k b*f k
def lap (θ:Nat->Rat) (b:Nat):Rat:=n.off (n.fl θ) b
def Lm (b c:Nat):Rat:=sumN n.M fun k=>n.g k*(n.inc k b*n.inc k c)
def clo (D:Nat->Prop):Prop:=∀ k,k<n.M->n.g k≠0->(D (n.F k)<->D (n.T k))
def rootTo:Nat->Nat->Nat
 | 0,b=>b
 | j+1,b=>if n.g j=0 then rootTo j b else if rootTo j b=max (rootTo j (n.F j)) (rootTo j (n.T j)) then min (rootTo j (n.F j)) (rootTo j (n.T j)) else rootTo j b
def root (b:Nat):Nat:=n.rootTo n.M b
def gm (b c:Nat):Rat:=if n.root b=b then dl b c else n.Lm b c
end
section
variable {n:Nw} {θ φ f:Nat->Rat}
theorem Ar6 (ok:n.Ok) {k:Nat} (hk:k<n.M) (φ:Nat->Rat):sumN n.B (fun b=>φ b*n.inc k b)=φ (n.F k)-φ (n.T k):=by
 have e:sumN n.B (fun b=>φ b*n.inc k b)=sumN n.B (fun b=>φ b*dl (n.F k) b-φ b*dl (n.T k) b):=B1 fun b _=>by unfold inc;grind
 rw [e,AB2,AU5 φ (ok.f k hk),AU5 φ (ok.t k hk)]
theorem green (ok:n.Ok) (φ f:Nat->Rat):sumN n.B (fun b=>φ b*n.off f b)=sumN n.M fun k=>(φ (n.F k)-φ (n.T k))*f k:=by
 have e:sumN n.B (fun b=>φ b*n.off f b)=sumN n.B (fun b=>sumN n.M fun k=>φ b*n.inc k b*f k):=B1 fun b _=>by
  unfold off
  rw [<-AB3]
  exact B1 fun k _=>by grind
 rw [e,AD8]
 refine B1 fun k hk=>?_
 rw [AM8,Ar6 ok hk]
theorem lap_sum (ok:n.Ok) (θ:Nat->Rat) (b:Nat):sumN n.B (fun c=>n.Lm b c*θ c)=n.lap θ b:=by
 have e:sumN n.B (fun c=>n.Lm b c*θ c)=sumN n.B (fun c=>sumN n.M fun k=>n.g k*n.inc k b*(θ c*n.inc k c)):=B1 fun c _=>by
  unfold Lm
  rw [<-AM8]
  exact B1 fun k _=>by grind
 rw [e,AD8]
 unfold lap off
 refine B1 fun k hk=>?_
 rw [AB3,Ar6 ok hk]
 unfold fl
 grind
theorem rigid (ok:n.Ok) {D:Nat->Prop} (hD:n.clo D) (h:∀ b,b<n.B->D b->θ b*n.lap θ b=0):∀ k,k<n.M->n.g k≠0->D (n.F k)->θ (n.F k)=θ (n.T k):=by
 classical
 have e:=green ok (fun b=>if D b then θ b else 0) (n.fl θ)
 have e0:sumN n.B (fun b=>(if D b then θ b else 0)*n.off (n.fl θ) b)=0:=J3 fun b hb=>by
  by_cases hd:D b
  ·rw [if_pos hd];exact h b hb hd
  ·rw [if_neg hd,Rat.zero_mul]
 rw [e0] at e
 have hterm:∀ k,k<n.M->((if D (n.F k) then θ (n.F k) else 0)-(if D (n.T k) then θ (n.T k) else 0))*n.fl θ k=if D (n.F k) then n.g k*((θ (n.F k)-θ (n.T k))*(θ (n.F k)-θ (n.T k))) else 0:=by
  intro k hk
  by_cases hg:n.g k=0
  ·unfold fl
   rw [hg]
   split<;>grind
  ·have:=hD k hk hg
   by_cases hd:D (n.F k)
   ·rw [if_pos hd,if_pos (this.1 hd),if_pos hd]
    unfold fl
    grind
   ·rw [if_neg hd,if_neg (fun x=>hd (this.2 x)),if_neg hd]
    grind
 intro k hk hg hd
 have hn:∀ k,k<n.M->0<=((if D (n.F k) then θ (n.F k) else 0)-(if D (n.T k) then θ (n.T k) else 0))*n.fl θ k:=fun k hk=>by
  rw [hterm k hk]
  split
  ·exact Rat.mul_nonneg (ok.p k hk) (rat_sq _)
  ·exact Rat.le_refl
 have h0:=Au1 hn e.symm hk
 rw [hterm k hk,if_pos hd] at h0
 rcases Rat.mul_eq_zero.1 h0 with h0 | h0
 ·exact absurd h0 hg
 ·have:=rat_sq0 h0
  grind
theorem Ar8 {θ:Nat->Rat}:∀ j,(∀ k,k<j->n.g k≠0->θ (n.F k)=θ (n.T k))->∀ b,θ (n.rootTo j b)=θ b
 | 0,_,b=>rfl
 | j+1,h,b=>by
  have ih:=Ar8 j fun k hk=>h k (by omega)
  unfold rootTo
  split
  ·exact ih b
  ·rename_i hg
   split
   ·rename_i e
    have h1:=h j (by omega) hg
    have hF:=ih (n.F j)
    have hT:=ih (n.T j)
    have hb:=ih b
    have h2:θ (max (n.rootTo j (n.F j)) (n.rootTo j (n.T j)))=θ (n.F j):=by
     rcases Nat.le_total (n.rootTo j (n.F j)) (n.rootTo j (n.T j)) with h | h
     ·rw [Nat.max_eq_right h,hT,h1]
     ·rw [Nat.max_eq_left h,hF]
    have h3:θ (min (n.rootTo j (n.F j)) (n.rootTo j (n.T j)))=θ (n.F j):=by
     rcases Nat.le_total (n.rootTo j (n.F j)) (n.rootTo j (n.T j)) with h | h
     ·rw [Nat.min_eq_left h,hF]
     ·rw [Nat.min_eq_right h,hT,h1]
    rw [h3,<-h2,<-e,hb]
   ·exact ih b
theorem rootTo_le:∀ j b,n.rootTo j b<=b
 | 0,b=>Nat.le_refl b
 | j+1,b=>by
  have ih:=rootTo_le j
  have:=ih b
  unfold rootTo
  split
  ·exact this
  ·split
   ·rename_i e;omega
   ·exact this
theorem rootTo_root:∀ j b,n.rootTo j (n.rootTo j b)=n.rootTo j b
 | 0,b=>rfl
 | j+1,b=>by
  have ih:=rootTo_root j
  have ib:=ih b
  have iF:=ih (n.F j)
  have iT:=ih (n.T j)
  by_cases hg:n.g j=0
  ·have e:∀ b,n.rootTo (j+1) b=n.rootTo j b:=fun b=>by rw [rootTo,if_pos hg]
   rw [e,e];exact ib
  ·have e:∀ b,n.rootTo (j+1) b=if n.rootTo j b=max (n.rootTo j (n.F j)) (n.rootTo j (n.T j)) then min (n.rootTo j (n.F j)) (n.rootTo j (n.T j)) else n.rootTo j b:=fun b=>by rw [rootTo,if_neg hg]
   rw [e b]
   split
   ·rw [e]
    rcases Nat.le_total (n.rootTo j (n.F j)) (n.rootTo j (n.T j)) with h | h
    ·rw [Nat.min_eq_left h,Nat.max_eq_right h,iF]
     split
     ·rfl
     ·rfl
    ·rw [Nat.min_eq_right h,Nat.max_eq_left h,iT]
     split
     ·rfl
     ·rfl
   ·rename_i hne
    rw [e,ib,if_neg hne]
theorem AO9:∀ j k,k<j->n.g k≠0->n.rootTo j (n.F k)=n.rootTo j (n.T k)
 | 0,k,h,_=>absurd h (Nat.not_lt_zero _)
 | j+1,k,h,hg=>by
  by_cases e:k=j
  ·subst e
   rw [rootTo,rootTo,if_neg hg,if_neg hg]
   rcases Nat.le_total (n.rootTo k (n.F k)) (n.rootTo k (n.T k)) with h | h
   ·rw [Nat.max_eq_right h,Nat.min_eq_left h]
    rw [if_pos rfl]
    split
    ·rfl
    ·rfl
   ·rw [Nat.max_eq_left h,Nat.min_eq_right h]
    rw [if_pos rfl]
    split
    ·rfl
    ·rfl
  ·have ih:=AO9 j k (by omega) hg
   rw [rootTo,rootTo,ih]
theorem root_le (b:Nat):n.root b<=b:=rootTo_le _ b
theorem root_root (b:Nat):n.root (n.root b)=n.root b:=rootTo_root _ b
theorem root_line {k:Nat} (hk:k<n.M) (hg:n.g k≠0):n.root (n.F k)=n.root (n.T k):=AO9 _ k hk hg
theorem root_const (h:∀ k,k<n.M->n.g k≠0->θ (n.F k)=θ (n.T k)) (b:Nat):θ (n.root b)=θ b:=Ar8 _ h b
theorem clo_root (r:Nat):n.clo fun b=>n.root b=r:=fun k hk hg=>by
 show n.root (n.F k)=r<->n.root (n.T k)=r
 rw [root_line hk hg]
theorem off_clo (ok:n.Ok) {D:Nat->Prop} [DecidablePred D] (hD:n.clo D) (hf:∀ k,k<n.M->n.g k=0->f k=0):sumN n.B (fun b=>if D b then n.off f b else 0)=0:=by
 have e:=green ok (fun b=>if D b then 1 else 0) f
 have e1:sumN n.B (fun b=>if D b then n.off f b else 0)=sumN n.B (fun b=>(if D b then 1 else 0)*n.off f b):=B1 fun b _=>by split<;>grind
 rw [e1,e]
 refine J3 fun k hk=>?_
 by_cases hg:n.g k=0
 ·rw [hf k hk hg,Rat.mul_zero]
 ·have:=hD k hk hg
  by_cases hd:D (n.F k)
  ·rw [if_pos hd,if_pos (this.1 hd)];grind
  ·rw [if_neg hd,if_neg fun x=>hd (this.2 x)];grind
theorem fl_out {k:Nat} (h:n.g k=0):n.fl θ k=0:=by unfold fl;rw [h,Rat.zero_mul]
theorem ker0 (ok:n.Ok) (h:∀ b,b<n.B->if n.root b=b then θ b=0 else n.lap θ b=0):∀ b,b<n.B->θ b=0:=by
 have hr:=rigid (θ:=θ) ok (D:=fun _=>True) (fun _ _ _=>Iff.rfl) fun b hb _=>by
  have:=h b hb
  split at this
  ·rw [this,Rat.zero_mul]
  ·rw [this,Rat.mul_zero]
 intro b hb
 rw [<-root_const (fun k hk hg=>hr k hk hg trivial) b]
 have hle:=root_le (n:=n) b
 have:=h (n.root b) (by omega)
 rw [if_pos (root_root b)] at this
 exact this
theorem gm_sum (ok:n.Ok) (θ:Nat->Rat) {b:Nat} (hb:b<n.B):sumN n.B (fun c=>n.gm b c*θ c)=if n.root b=b then θ b else n.lap θ b:=by
 unfold gm
 split
 ·rw [<-AU5 θ hb]
  exact B1 fun c _=>by grind
 ·exact lap_sum ok θ b
theorem lap_sub (b:Nat):n.lap (fun c=>θ c-φ c) b=n.lap θ b-n.lap φ b:=by
 unfold lap off
 rw [<-AB2]
 exact B1 fun k _=>by unfold fl;grind
theorem uniq (ok:n.Ok) (h:∀ b,b<n.B->if n.root b=b then θ b=φ b else n.lap θ b=n.lap φ b):∀ b,b<n.B->θ b=φ b:=by
 intro b hb
 have:=ker0 (θ:=fun c=>θ c-φ c) ok (fun b hb=>by
  have:=h b hb
  split at this
  ·rw [if_pos (by assumption),this];grind
  ·rw [if_neg (by assumption),lap_sub,this];grind) b hb
 grind
end
end Nw
open Go Go.RowKit
def ln0:LnV:=⟨0,0,1,0⟩
def nwOf (n:NtV) (o:List Int):Nw where
 B:=n.b.toNat
 M:=n.ls.length
 F:=fun k=>(n.ls.getD k ln0).f.toNat
 T:=fun k=>(n.ls.getD k ln0).t.toNat
 g:=fun k=>if k∈oN o then 0 else ((n.ls.getD k ln0).x:Rat)⁻¹
def tabI (n:Nat) (p:Nat->Nat):List Int:=(List.range n).map fun b=>((p b:Nat):Int)
theorem P1 (n:Nat) (p:Nat->Nat):(tabI n p).length=n:=by simp [tabI]
theorem AJ6 {n i:Nat} {p:Nat->Nat} (h:i<n):(tabI n p)[i]?=some ((p i:Nat):Int):=by unfold tabI;rw [List.getElem?_map,List.getElem?_range h];rfl
theorem BA4 {n i v:Nat} {p:Nat->Nat}:(tabI n p).set i ((v:Nat):Int)=tabI n fun b=>if b=i then v else p b:=by
 apply List.ext_getElem?
 intro j
 rw [List.getElem?_set]
 unfold tabI
 rw [List.length_map,List.length_range,List.getElem?_map,List.getElem?_map]
 by_cases hj:i=j
 ·subst hj
  rw [if_pos rfl]
  by_cases h:i<n
  ·rw [if_pos h,List.getElem?_range h];simp
  ·rw [if_neg h,List.getElem?_eq_none (by simpa using h)];rfl
 ·rw [if_neg hj]
  by_cases h:j<n
  ·rw [List.getElem?_range h];simp [Ne.symm hj]
  ·rw [List.getElem?_eq_none (by simpa using h)];rfl
def Clm (B:Nat) (p R:Nat->Nat):Prop:=∀ b,b<B->p b<=b/\(p b=b->R b=b)/\(p b≠b->R b=R (p b))
def Nw.stepR (n:Nw) (R:Nat->Nat) (k:Nat):Nat->Nat:=fun b=>if R b=max (R (n.F k)) (R (n.T k)) then min (R (n.F k)) (R (n.T k)) else R b
def Nw.rootF (n:Nw) (l:List Nat):Nat->Nat:=l.foldl n.stepR id
theorem Nw.rootF_snoc (n:Nw) (l:List Nat) (k:Nat):n.rootF (l++[k])=n.stepR (n.rootF l) k:=by unfold Nw.rootF;rw [List.foldl_append];rfl
theorem Nw.rootF_free {n:Nw} {p:List Nat}:∀ j,(∀ k,k<j->(n.g k=0<->k∈p))->n.rootTo j=n.rootF (freeTo p j)
 | 0,_=>rfl
 | j+1,h=>by
  have ih:=Nw.rootF_free j fun k hk=>h k (by omega)
  have hj:=h j (by omega)
  rw [Go.Proofs.YtggegpiffjbngaaGreat.L2]
  funext b
  rw [Nw.rootTo]
  by_cases hg:n.g j=0
  ·rw [if_pos hg,if_pos (hj.1 hg),List.append_nil,ih]
  ·rw [if_neg hg,if_neg (fun h=>hg (hj.2 h)),Nw.rootF_snoc,<-ih];rfl
structure Idm (R:Nat->Nat):Prop where
 rr:∀ b,R (R b)=R b
 le:∀ b,R b<=b
theorem Idm.step {n:Nw} {R:Nat->Nat} (h:Idm R) (k:Nat):Idm (n.stepR R k):=by
 have hF:=h.rr (n.F k)
 have hT:=h.rr (n.T k)
 unfold Nw.stepR
 generalize R (n.F k)=a at *
 generalize R (n.T k)=c at *
 have hm:R (min a c)=min a c:=by
  rcases Nat.le_total a c with h | h
  ·rw [Nat.min_eq_left h,hF]
  ·rw [Nat.min_eq_right h,hT]
 refine ⟨fun b=>?_,fun b=>?_⟩
 ·by_cases hb:R b=max a c
  ·rw [if_pos hb,hm]
   split
   ·rfl
   ·rfl
  ·rw [if_neg hb,h.rr,if_neg hb]
 ·have:=h.le b
  split
  ·omega
  ·exact this
theorem Nw.rootF_idm (n:Nw) (l:List Nat):Idm (n.rootF l):=by
 unfold Nw.rootF
 have:∀ (l:List Nat) (R:Nat->Nat),Idm R->Idm (l.foldl n.stepR R):=by
  intro l
  induction l with
  | nil=>exact fun R h=>h
  | cons k l ih=>exact fun R h=>ih _ (h.step k)
 exact this l id ⟨fun _=>rfl,fun b=>Nat.le_refl b⟩
theorem Clm.step {n:Nw} {B k:Nat} {p R:Nat->Nat} (h:Clm B p R) (hi:Idm R):Clm B (fun b=>if b=max (R (n.F k)) (R (n.T k)) then min (R (n.F k)) (R (n.T k)) else p b) (n.stepR R k):=by
 have iF:=hi.rr (n.F k)
 have iT:=hi.rr (n.T k)
 unfold Nw.stepR
 generalize R (n.F k)=a at *
 generalize R (n.T k)=c at *
 have hM:R (max a c)=max a c:=by
  rcases Nat.le_total a c with h | h
  ·rw [Nat.max_eq_right h,iT]
  ·rw [Nat.max_eq_left h,iF]
 have hm:R (min a c)=min a c:=by
  rcases Nat.le_total a c with h | h
  ·rw [Nat.min_eq_left h,iF]
  ·rw [Nat.min_eq_right h,iT]
 intro b hb
 obtain ⟨h1,h2,h3⟩:=h b hb
 dsimp only
 by_cases hbM:b=max a c
 ·subst hbM
  rw [if_pos rfl]
  refine ⟨by omega,fun h=>?_,fun h=>?_⟩
  ·rw [hM,if_pos rfl];exact h
  ·rw [hM,hm,if_pos rfl,if_neg h]
 ·rw [if_neg hbM]
  refine ⟨h1,fun h=>?_,fun h=>?_⟩
  ·rw [h2 h,if_neg hbM]
  ·rw [h3 h]
def Nw.lab (n:Nw) (b:Nat):Nat:=((List.range (n.root b)).filter fun r=>decide (n.root r=r)).length
def Nw.refs (n:Nw):List Nat:=(List.range n.B).filter fun r=>decide (n.root r=r)
def Nw.cnt (n:Nw) (b:Nat):Nat:=((List.range b).filter fun r=>decide (n.root r=r)).length
theorem Nw.cnt_succ (n:Nw) (b:Nat):n.cnt (b+1)=n.cnt b+if n.root b=b then 1 else 0:=by
 unfold Nw.cnt
 rw [List.range_succ,List.filter_append,List.length_append]
 by_cases h:n.root b=b
 ·simp [h]
 ·simp [h]
theorem Nw.cnt_le (n:Nw) (b:Nat):n.cnt b<=b:=by
 unfold Nw.cnt
 have:=List.length_filter_le (fun r=>decide (n.root r=r)) (List.range b)
 simpa using this
theorem Nw.lab_root (n:Nw) {b:Nat} (h:n.root b=b):n.lab b=n.cnt b:=by unfold Nw.lab Nw.cnt;rw [h]
theorem Nw.lab_of (n:Nw) (b:Nat):n.lab b=n.lab (n.root b):=by unfold Nw.lab;rw [Nw.root_root]
theorem Nw.lab_le (n:Nw) (b:Nat):n.lab b<=b:=Nat.le_trans (n.cnt_le _) (Nw.root_le b)
def lnI (l:LnV):Nat->Int
 | 0=>l.f
 | 1=>l.t
 | 2=>l.x
 | _=>l.c
theorem PtrTo.ln {S:Nat->Prop} {w:World} {p:Addr} {l:LnV} (h:PtrTo eL S w p l) (i:Nat) (hi:i<4):PtrTo (eInt .i64) S w (p.add i) (lnI l i):=by
 obtain ⟨e,⟨rfl,h1,h2,h3,h4⟩,hS,hc⟩:=h
 refine ⟨.int .i64 (lnI l i),⟨rfl,?_⟩,by rw [G5];exact hS,fun j u hu=>?_⟩
 ·match i with
  | 0=>exact h1
  | 1=>exact h2
  | 2=>exact h3
  | 3=>exact h4
 ·have hj:j=0:=by
   cases j with
   | zero=>rfl
   | succ j=>simp [Value.cells] at hu
  subst hj
  rw [AF2]
  refine hc _ u ?_
  match i with
  | 0=>simpa [Value.cells,lnI] using hu
  | 1=>simpa [Value.cells,lnI] using hu
  | 2=>simpa [Value.cells,lnI] using hu
  | 3=>simpa [Value.cells,lnI] using hu
section
variable {P:Program} {σ:Env} {w:World} {d:Option Tmp} {ty:TypeId} {pos:String} {af:Array Edge} {g:Option (Nat×Bool)} {S:Nat->Prop}
theorem Ac5 {s:TypeId} {x:Operand} {i off:Nat} {u:Value} {l:LnV} (hf:fldOf P s i=some off) (hx:ev σ x=some u) (hp:Ptr eL S l u w) (ho:off<4):Gv P ⟨d,.fieldAddr s x i,ty,pos,af,g⟩ σ w fun v' w'=>Ext w w'/\Sp.ok (.inr (Ptr (eInt .i64) S (lnI l off))) v' w':=by
 obtain ⟨p,rfl,hp⟩:=hp
 exact V7 (v_faP hf hx) ⟨_,rfl,hp.ln off ho⟩ (fun _ _ _ e ⟨p,h1,h2⟩=>⟨p,h1,h2.ext e⟩)
end
section
variable {P:Program} {ro:Option Nat} {N:Nat} {ds:List Deferred} {ops:Array Oper} {K:Env->World->Prop} {rest:List Oper} {σ:Env} {w:World} {d:Tmp} {ty:TypeId} {pos:String} {af:Array Edge} {S:Nat->Prop}
end
end Go.Kx
namespace Go.Proofs.YtggegpiffjbngaaGreat
open Go Go.Kx Go.RowKit
structure nwOk (n:NtV) (o:List Int):Prop where
 b:n.b=((nwOf n o).B:Nat)
 b1:1<=(nwOf n o).B
 b6:(nwOf n o).B<=6
 m:(nwOf n o).M<=10
 fI:∀ k,k<(nwOf n o).M->(n.ls.getD k ln0).f=((nwOf n o).F k:Nat)
 tI:∀ k,k<(nwOf n o).M->(n.ls.getD k ln0).t=((nwOf n o).T k:Nat)
 f:∀ k,k<(nwOf n o).M->(nwOf n o).F k<(nwOf n o).B
 t:∀ k,k<(nwOf n o).M->(nwOf n o).T k<(nwOf n o).B
 ne:∀ k,k<(nwOf n o).M->(nwOf n o).F k≠(nwOf n o).T k
 x:∀ k,k<(nwOf n o).M->1<=(n.ls.getD k ln0).x/\(n.ls.getD k ln0).x<=1000
 c:∀ k,k<(nwOf n o).M->0<=(n.ls.getD k ln0).c/\(n.ls.getD k ln0).c<=1000000
 outs:outsOk n o
theorem P2 {n:NtV} {o:List Int} (h:outE n o=0):nwOk n o:=by
 obtain ⟨hc,ho⟩:=AE0 h
 obtain ⟨h1,h6,h10,hck⟩:=At5 hc
 have hB:n.b=((n.b.toNat:Nat):Int):=by omega
 have hl:∀ k,k<n.ls.length->∀ i,i<5->ck i n.b (n.ls.getD k ln0)=true:=fun k hk=>hck k hk _ (A8 hk)
 refine ⟨hB,by show 1<=n.b.toNat;omega,by show n.b.toNat<=6;omega,h10,fun k hk=>?_,fun k hk=>?_,fun k hk=>?_,fun k hk=>?_,fun k hk=>?_,fun k hk=>?_,fun k hk=>?_,ho⟩
 all_goals
  have c0:=hl k hk 0 (by decide)
  have c1:=hl k hk 1 (by decide)
  have c2:=hl k hk 2 (by decide)
  have c3:=hl k hk 3 (by decide)
  have c4:=hl k hk 4 (by decide)
  simp [ck] at c0 c1 c2 c3 c4
 ·show (n.ls.getD k ln0).f=(((n.ls.getD k ln0).f.toNat:Nat):Int)
  simp;omega
 ·show (n.ls.getD k ln0).t=(((n.ls.getD k ln0).t.toNat:Nat):Int)
  simp;omega
 ·show (n.ls.getD k ln0).f.toNat<n.b.toNat
  simp;omega
 ·show (n.ls.getD k ln0).t.toNat<n.b.toNat
  simp;omega
 ·show (n.ls.getD k ln0).f.toNat≠(n.ls.getD k ln0).t.toNat
  simp;omega
 ·simpa using c3
 ·simpa using c4
theorem nwOk.g0 {n:NtV} {o:List Int} (h:nwOk n o) {k:Nat} (hk:k<(nwOf n o).M):(nwOf n o).g k=0<->k∈oN o:=by
 show (if k∈oN o then (0:Rat) else ((n.ls.getD k ln0).x:Rat)⁻¹)=0<->_
 constructor
 ·intro h0
  by_cases hm:k∈oN o
  ·exact hm
  ·rw [if_neg hm] at h0
   have hx:=(h.x k hk).1
   have hne:((n.ls.getD k ln0).x:Rat)≠0:=fun e=>by
    have:(n.ls.getD k ln0).x=0:=by exact_mod_cast e
    omega
   have h2:=Rat.mul_inv_cancel _ hne
   rw [h0,Rat.mul_zero] at h2
   exact absurd h2 (by decide)
 ·intro hm;rw [if_pos hm]
theorem nwOk.ok {n:NtV} {o:List Int} (h:nwOk n o):(nwOf n o).Ok:=by
 refine ⟨h.f,h.t,fun k hk=>?_⟩
 show (0:Rat)<=if k∈oN o then (0:Rat) else ((n.ls.getD k ln0).x:Rat)⁻¹
 split
 ·exact Rat.le_refl
 ·have hx:=(h.x k hk).1
  exact Rat.le_of_lt (Rat.inv_pos.2 (by exact_mod_cast (by omega:0<(n.ls.getD k ln0).x)))
theorem Aq1:Ent Tryz.prog 120:=A0 Tryz.func120 (by kernel_rfl) rfl
theorem Ao3 {w:World} {b8 g B b:Nat} {p R:Nat->Nat} (k8:Blk w b8 25 #[.slice (some ⟨g,0,none⟩) B B]) (hf:FB (eInt .i64) 3 (fun _=>True) w g (tabI B p)) (hp:Clm B p R) (hb:b<B) :
  CR Tryz.prog 120 #[.int .i64 (b:Nat),.pointer (some ⟨b8,0,none⟩)] w (Is (.int .i64 (R b:Nat))):=by
 refine enter Tryz.func120 O Tryz.ntmps120 O ?_
 refine .sr (.an O O (.scope (.seq (.label (.seq ?_)))))
 refine .block (.loop (α:=Nat) (fun x=>[(0,.int .i64 (x:Nat)),(1,.pointer (some ⟨b8,0,none⟩))]) (fun x W=>W=w/\x<B/\R x=R b) (fun x=>x) b ?_ ?_ ?_)
 ·exact lkA rfl
 ·exact ⟨rfl,hb,rfl⟩
 rintro x W ⟨rfl,hx,hR⟩
 obtain ⟨h1,h2,h3⟩:=hp x hx
 refine .block (.sr (.ld ty_I O O k8 O (.mv O O (.ixB (i:=x) un_I B4 O O O hx (.ldF (E:=eInt .i64) (i:=x) (by decide) B4 O O (Nat.zero_add _) hf (AJ6 hx) fun e he=>.an O O (.sr (.mv O O (.nil ?_))))))))
 obtain ⟨rfl,_⟩:=he
 refine .block (.sr (.mv O O ?_))
 by_cases hpx:p x=x
 ·refine .eqlT O O O (by omega) (.an O O (.condT O (.exit (.sr (.mv O O (.an O O (.ret ?_)))))))
  exact .plain [_] Tryz.results120 ⟨rfl,trivial⟩ ⟨Ext.refl _,by rw [<-hR,h2 hpx];rfl⟩
 ·refine .eqlF O O O (by omega) (.an O O (.condF O (.region (.mv O O (.an O O ?_)))))
  exact ⟨rfl,p x,lkA rfl,⟨rfl,by omega,by rw [<-h3 hpx];exact hR⟩,by omega⟩
theorem AK7 {n:NtV} {o:List Int} {i:Nat} (hi:i<(inL n o).length):(pInts (inL n o))[i]?=some (((inL n o).getD i 0:Nat):Int)/\(inL n o).getD i 0<n.ls.length/\(inL n o).getD i 0∉oN o:=by
 have key:∀ k,k∈inL n o->k<n.ls.length/\k∉oN o:=fun k hk=>by
  unfold inL freeTo at hk
  rw [List.mem_filter] at hk
  exact ⟨List.mem_range.1 hk.1,by simpa using hk.2⟩
 obtain ⟨h1,h2⟩:=key _ (F9 hi)
 exact ⟨by rw [List.getElem?_map,A8 (z:=0) hi];rfl,h1,h2⟩
theorem fil_get {B i j:Nat} {f:Nat->Int} (hj:j<B) (hi:j<i):(fil B i f 0)[j]?=some (f j):=by
 unfold fil
 rw [List.getElem?_map,List.getElem?_range hj]
 simp [hi]
theorem AR0:Ent Tryz.prog 55:=A0 Tryz.func55 (by kernel_rfl) rfl
theorem AP9 {S:Nat->Prop} {w:World} {vn vo:Value} {n:NtV} {o:List Int} (up:Up S w) (hn:eN.R S w vn n) (ho:eI.R S w vo o) :
  CR Tryz.prog 55 #[vn,vo] w (Two (eI.at S (if outE n o=0 then tabI (nwOf n o).B (nwOf n o).lab else [])) (Is (.int .i64 (outE n o)))):=by
 obtain ⟨s,rfl,hs,hb⟩:=hn
 have hn:eN.R S w (.agg #[.int .i64 n.b,s]) n:=⟨s,rfl,hs,hb⟩
 refine enter Tryz.func55 O Tryz.ntmps55 O ?_
 refine .sr (.box O O fun w1 b2 n1=>.asg O O (.an O O ?_))
 obtain ⟨e1,k2,hb2,hs1⟩:=n1
 refine .sr (.ldA ty_N O O k2 O (.mv O O ?_))
 refine .call _ O AD0 O (AB9 (up.ext e1.size) (hn.ext e1) (ho.ext e1)) fun v2 w2 e2 h2=>?_
 obtain ⟨vl,ve,rfl,hl,he⟩:=h2
 replace he:ve=.int .i64 (outE n o):=he
 subst he
 have x2:=e1.trans e2
 refine .mv O O (.ext O O O (.ext O O O (.asg O O (.an O O (.seq (.sr (.mv O O ?_)))))))
 by_cases hE:outE n o=0
 rotate_left
 ·refine .neqT O O O hE (.nil (.condT O (.sr (.mv O O (.asg O O (.an O O (.ret ?_)))))))
  refine .plain [_,_] Tryz.results55 ⟨rfl,rfl,trivial⟩ ⟨x2,_,_,rfl,?_,rfl⟩
  rw [if_neg hE];exact RL.nil
 have ok:=P2 hE
 rw [if_pos hE] at hl ⊢
 have hB6:=ok.b6
 have hM10:n.ls.length<=10:=ok.m
 have hll:=Z4 n o
 generalize hB:(nwOf n o).B=B at *
 refine .neqF O O O hE (.nil (.condF O (.skip ?_)))
 have k2:=k2.ext e2
 have hnb:=ok.b
 rw [hB] at hnb
 rw [hnb] at k2
 refine .sr (.fa Q1 O O (.ld A7 O O k2 O ?_))
 refine .make_ B B un_I T7 O (by decide) O O O (Nat.le_refl _) (by omega) (by omega) fun w3 g n3=>?_
 have f3:FB (eInt .i64) 3 (fun _=>True) w3 g (List.replicate B 0):=FB.made n3 ⟨rfl,by decide⟩
 obtain ⟨e3,_,hg3,hs3⟩:=n3
 refine .alloc O Al7 fun w4 b8 n4=>?_
 obtain ⟨e4,k8,hb8,hs4⟩:=n4
 refine .store ty_I O O k8 O (by simp [Value.cells]) (by simp [one1,Value.cells]) fun w5 k8 u5=>.nil ?_
 replace k8:Blk w5 b8 25 #[.slice (some ⟨g,0,none⟩) B B]:=k8
 have hs2:=e2.size
 have hs5:=u5.size
 have x4:=x2.trans (e3.trans e4)
 have x5:Ext w w5:=u5.below x4 (by omega)
 have x25:Ext w2 w5:=u5.below (e3.trans e4) (by omega)
 have k2:=k2.ext x25
 have hl:=ER.ext eI (ER.lt eI hl) x25
 have hsL:=ER.ext eLs (ER.lt eLs hs) x5
 have hupd:∀ {W W':World} {l:List Int} {b:Nat},FB (eInt .i64) 3 (fun _=>True) W g l->Upd W W' b->g≠b->FB (eInt .i64) 3 (fun _=>True) W' g l:=fun hf u hne=>by
  obtain ⟨es,hb,he⟩:=hf
  exact ⟨es,hb.upd u hne,he.1,fun i e x h1 h2=>he.2 i e x h1 h2⟩
 have f5:=hupd (f3.ext e4) u5 (by omega)
 have hgw:w2.heap.size<=g:=by omega
 have hg8:g≠b8:=by omega
 have hg2:b2≠g:=by omega
 have hw25:w2.heap.size<=w5.heap.size:=by omega
 refine .mid (α:=Unit) (fun _=>[(2,.pointer (some ⟨b2,0,none⟩)),(6,vl),(8,.pointer (some ⟨b8,0,none⟩))]) (fun _ W=>Below w2.heap.size w5 W/\Blk W b8 25 #[.slice (some ⟨g,0,none⟩) B B]/\FB (eInt .i64) 3 (fun _=>True) W g (tabI B id)) ?_ ?_
 ·refine .sr (.ld ty_I O O k8 O (.len un_I O O (.mv O O (.nil ?_))))
  refine .block (.loop (α:=Nat) (fun i=>[(2,.pointer (some ⟨b2,0,none⟩)),(6,vl),(8,.pointer (some ⟨b8,0,none⟩)),(32,.int .i64 (B:Nat)),(33,.int .i64 (i:Nat))]) (fun i W=>Below w2.heap.size w5 W/\Blk W b8 25 #[.slice (some ⟨g,0,none⟩) B B]/\i<=B/\FB (eInt .i64) 3 (fun _=>True) W g (fil B i (fun b=>((b:Nat):Int)) 0)) (fun i=>B-i) 0 ?_ ?_ ?_)
  ·exact lkA rfl
  ·refine ⟨Below.refl _ _,k8,Nat.zero_le _,?_⟩
   rw [X5];exact f5
  rintro i W ⟨hW,k8,hi,fb⟩
  refine .sr ?_
  rcases Nat.lt_or_ge i B with hlt | hge
  rotate_left
  ·refine .lssF O O O (by omega) (.nil (.seq (.condF O (.exit ?_))))
   have:i=B:=by omega
   subst this
   refine ⟨rfl,(),lkA rfl,hW,k8,?_⟩
   rw [AE8] at fb
   exact fb
  refine .lssT O O O (by omega) (.nil (.seq (.condT O (.skip (.seq (.block (.sr (.mv O O (.an O O (.region (.ld ty_I O O k8 O (.mv O O (.mv O O (.ixB (i:=i) un_I B4 O O O hlt ?_))))))))))))))
  refine .storeF (E:=eInt .i64) (i:=i) (z:=((i:Nat):Int)) (by decide) B4 O O fb O (by rw [K9];exact hlt) (Nat.zero_add _) ⟨rfl,I3.2 (by omega)⟩ fun W1 f1 u1=>.nil ?_
  refine .region (.add O O O (.mv O O (.nil ?_)))
  rw [wI (by omega)]
  rw [Z6] at f1
  exact ⟨rfl,i+1,lkA rfl,⟨u1.below hW hgw,k8.upd u1 hg8.symm,hlt,f1⟩,by show B-(i+1)<B-i;omega⟩
 rintro _ W0 ⟨hW0,k8,fb0⟩
 have hk2:∀ {W:World},Below w2.heap.size w5 W->Blk W b2 24 #[.int .i64 (B:Nat),s]:=fun h=>(h.block b2 (by omega)).trans k2
 have hlW:∀ {W:World},Below w2.heap.size w5 W->eI.R (fun k=>S k/\k<w2.heap.size) W vl (pInts (inL n o)):=fun h=>eI.keep (fun k c t f hk hh=>(h.block k hk.2).trans hh) hl
 have hsW:∀ {W:World},Below w2.heap.size w5 W->eLs.R (fun k=>S k/\k<w.heap.size) W s n.ls:=fun h=>eLs.keep (fun k c t f hk hh=>(h.block k (by have:=hk.2;have:=x2.size;omega)).trans hh) hsL
 refine .sr (.mkf [] [_] O O O O (.an O O ?_))
 refine .mid (α:=Nat->Nat) (fun _=>[(2,.pointer (some ⟨b2,0,none⟩)),(8,.pointer (some ⟨b8,0,none⟩)),(10,.func (.func 120) #[] #[.pointer (some ⟨b8,0,none⟩)])]) (fun p W=>Below w2.heap.size w5 W/\Blk W b8 25 #[.slice (some ⟨g,0,none⟩) B B]/\FB (eInt .i64) 3 (fun _=>True) W g (tabI B p)/\Clm B p ((nwOf n o).rootF (inL n o))) ?_ ?_
 ·refine .sr (.mv O O (.lenR un_I O O (hlW hW0) (.mv O O (.nil ?_))))
  rw [show (pInts (inL n o)).length=(inL n o).length by simp]
  refine .block (.loop (α:=Nat×(Nat->Nat)) (fun y=>[(2,.pointer (some ⟨b2,0,none⟩)),(8,.pointer (some ⟨b8,0,none⟩)),(10,.func (.func 120) #[] #[.pointer (some ⟨b8,0,none⟩)]),(42,vl),(43,.int .i64 ((inL n o).length:Nat)),(44,.int .i64 (y.1:Nat))])
   (fun y W=>Below w2.heap.size w5 W/\Blk W b8 25 #[.slice (some ⟨g,0,none⟩) B B]/\y.1<=(inL n o).length/\FB (eInt .i64) 3 (fun _=>True) W g (tabI B y.2)/\Clm B y.2 ((nwOf n o).rootF ((inL n o).take y.1))) (fun y=>(inL n o).length-y.1) (0,id) ?_ ?_ ?_)
  ·exact lkA rfl
  ·exact ⟨hW0,k8,Nat.zero_le _,fb0,fun b _=>⟨Nat.le_refl _,fun _=>rfl,fun h=>absurd O h⟩⟩
  rintro ⟨i,p⟩ W ⟨hW,k8,hi,fb,hc⟩
  replace hW:Below w2.heap.size w5 W:=hW
  replace hi:i<=(inL n o).length:=hi
  replace fb:FB (eInt .i64) 3 (fun _=>True) W g (tabI B p):=fb
  replace hc:Clm B p ((nwOf n o).rootF ((inL n o).take i)):=hc
  refine .sr ?_
  rcases Nat.lt_or_ge i (inL n o).length with hlt | hge
  rotate_left
  ·refine .lssF O O O (by omega) (.nil (.seq (.condF O (.exit ?_))))
   have:i=(inL n o).length:=by omega
   subst this
   rw [List.take_of_length_le (Nat.le_refl _)] at hc
   exact ⟨rfl,p,lkA rfl,hW,k8,fb,hc⟩
  obtain ⟨hgk,hkM,hko⟩:=AK7 hlt
  refine .lssT O O O (by omega) (.nil (.seq (.condT O (.skip (.seq (.block (.sr (.ixN (i:=i) un_I B4 O O (hlW hW) O hgk fun q hq=>.ldE (E:=eInt .i64) B4 O O hq fun e he=>.an O O ?_))))))))
  obtain ⟨rfl,_⟩:=he
  have htk:(inL n o).take (i+1)=(inL n o).take i++[(inL n o).getD i 0]:=by rw [List.take_add_one,A8 (z:=0) hlt];rfl
  have hFB:=ok.f _ hkM
  have hTB:=ok.t _ hkM
  have hFI:=ok.fI _ hkM
  have hTI:=ok.tI _ hkM
  have hgl:n.ls[(inL n o).getD i 0]?=some (n.ls.getD ((inL n o).getD i 0) ln0):=A8 hkM
  have hidm:=(nwOf n o).rootF_idm ((inL n o).take i)
  generalize hR:(nwOf n o).rootF ((inL n o).take i)=R at hc hidm
  generalize hk:(inL n o).getD i 0=k at hgl hFB hTB hFI hTI hkM hko htk
  rw [hB] at hFB hTB
  have hlF:=hidm.le ((nwOf n o).F k)
  have hlT:=hidm.le ((nwOf n o).T k)
  refine .seq ?_
  refine .par follows 16 [.inl (.func (.func 120) #[] #[.pointer (some ⟨b8,0,none⟩)]),.inl (.pointer (some ⟨b2,1,none⟩)),.inl s,.inl (.int .i64 (k:Nat)),.inr (Ptr eL (fun k=>S k/\k<w.heap.size) (n.ls.getD k ln0)),.inr (Ptr (eInt .i64) (fun k=>S k/\k<w.heap.size) (n.ls.getD k ln0).f),.inl (.int .i64 ((nwOf n o).F k:Nat)),.inl (.int .i64 (R ((nwOf n o).F k):Nat)),
   .inl (.func (.func 120) #[] #[.pointer (some ⟨b8,0,none⟩)]),.inl (.pointer (some ⟨b2,1,none⟩)),.inl s,.inl (.int .i64 (k:Nat)),.inr (Ptr eL (fun k=>S k/\k<w.heap.size) (n.ls.getD k ln0)),.inr (Ptr (eInt .i64) (fun k=>S k/\k<w.heap.size) (n.ls.getD k ln0).t),.inl (.int .i64 ((nwOf n o).T k:Nat)),.inl (.int .i64 (R ((nwOf n o).T k):Nat))]
   [[],[],[(49,1)],[],[(50,2),(51,3)],[(52,4)],[(53,5)],[(48,0),(54,6)],[],[],[(57,9)],[],[(58,10),(59,11)],[(60,12)],[(61,13)],[(56,8),(62,14)]] (by kernel_rfl) ⟨
   fun w e=>(v_mv O).ob,fun w e=>(v_fa K8 O).ob,fun w e=>(v_ld Q8 O ((hk2 hW).ext e) O).ob,fun w e=>(v_mv O).ob,
   fun w e=>E5 (i:=k) O9 S2 O (ER.ext eLs (hsW hW) e) O hgl,fun w e x hx=>Ac5 K2 O hx (by decide),fun w e x hx=>by rw [<-hFI];exact AB7 B4 O hx,
   fun w e=>Gv.obIs (AE7 [.int .i64 ((nwOf n o).F k:Nat)] O Aq1 O (Ao3 (k8.ext e) (fb.ext e) hc hFB)),
   fun w e=>(v_mv O).ob,fun w e=>(v_fa K8 O).ob,fun w e=>(v_ld Q8 O ((hk2 hW).ext e) O).ob,fun w e=>(v_mv O).ob,
   fun w e=>E5 (i:=k) O9 S2 O (ER.ext eLs (hsW hW) e) O hgl,fun w e x hx=>Ac5 K1 O hx (by decide),fun w e x hx=>by rw [<-hTI];exact AB7 B4 O hx,
   fun w e=>Gv.obIs (AE7 [.int .i64 ((nwOf n o).T k:Nat)] O Aq1 O (Ao3 (k8.ext e) (fb.ext e) hc hTB)),trivial⟩ ?_
  intro W1 f1 _ _ _ _ _ _ _ _
  refine .asg O O (.an O O (.region (.ld ty_I O O (k8.ext f1) O (.mv O O (.mv O O (.max_ O O O (.mv O O (.mv O O (.min_ O O O ?_)))))))))
  rw [show max ((R ((nwOf n o).F k):Nat):Int) (R ((nwOf n o).T k):Nat)=((max (R ((nwOf n o).F k)) (R ((nwOf n o).T k)):Nat):Int) by omega,show min ((R ((nwOf n o).F k):Nat):Int) (R ((nwOf n o).T k):Nat)=((min (R ((nwOf n o).F k)) (R ((nwOf n o).T k)):Nat):Int) by omega]
  refine .ixB (i:=max (R ((nwOf n o).F k)) (R ((nwOf n o).T k))) un_I B4 O O O (by omega) ?_
  refine .storeF (E:=eInt .i64) (i:=max (R ((nwOf n o).F k)) (R ((nwOf n o).T k))) (z:=((min (R ((nwOf n o).F k)) (R ((nwOf n o).T k)):Nat):Int)) (by decide) B4 O O (fb.ext f1) O (by rw [P1];omega) (Nat.zero_add _) ⟨rfl,I3.2 (by omega)⟩ fun W2 f2 u2=>.nil ?_
  rw [BA4] at f2
  have hW1:=hW.trans (f1.mono (by have:=hW.size;omega))
  refine .region (.add O O O (.mv O O (.nil ?_)))
  rw [wI (by omega)]
  refine ⟨rfl,(i+1,_),lkA rfl,⟨u2.below hW1 hgw,(k8.ext f1).upd u2 hg8.symm,hlt,f2,?_⟩,by show (inL n o).length-(i+1)<(inL n o).length-i;omega⟩
  show Clm B _ ((nwOf n o).rootF ((inL n o).take (i+1)))
  rw [htk,Nw.rootF_snoc,hR]
  exact hc.step hidm
 rintro p W1 ⟨hW1,k8,fb,hc⟩
 rw [show (nwOf n o).rootF (inL n o)=(nwOf n o).root by
  funext b
  unfold Nw.root
  rw [Nw.rootF_free (p:=oN o) _ fun k hk=>ok.g0 hk];rfl] at hc
 have hW1s:=hW1.size
 refine .sr (.fa Q1 O O (.ld A7 O O (hk2 hW1) O ?_))
 refine .make_ B B un_I T7 O (by decide) O O O (Nat.le_refl _) (by omega) (by omega) fun W2 h n2=>?_
 have f2:FB (eInt .i64) 3 (fun _=>True) W2 h (List.replicate B 0):=FB.made n2 ⟨rfl,by decide⟩
 obtain ⟨e2',_,hh2,hs2'⟩:=n2
 refine .an O O (.sr (.an O O ?_))
 have hgh:g≠h:=by have:=fb.lt;omega
 have k8:=k8.ext e2'
 have h8h:b8≠h:=by have:=hW1s;omega
 have fb:=fb.ext e2'
 have hW2:=hW1.trans (e2'.mono (by omega))
 have hhw:w2.heap.size<=h:=by omega
 have hupd':∀ {W W':World} {l:List Int},FB (eInt .i64) 3 (fun _=>True) W g l->Upd W W' h->FB (eInt .i64) 3 (fun _=>True) W' g l:=fun hf u=>hupd hf u hgh
 refine .seq (.sr (.mv O O (.len un_I O O (.mv O O (.nil ?_)))))
 refine .block (.loop (α:=Nat) (fun i=>[(8,.pointer (some ⟨b8,0,none⟩)),(10,.func (.func 120) #[] #[.pointer (some ⟨b8,0,none⟩)]),(15,.slice (some ⟨h,0,none⟩) B B),(16,.int .i64 ((nwOf n o).cnt i:Nat)),(77,.int .i64 (B:Nat)),(78,.int .i64 (i:Nat))])
  (fun i W=>Below w2.heap.size w5 W/\Blk W b8 25 #[.slice (some ⟨g,0,none⟩) B B]/\i<=B/\FB (eInt .i64) 3 (fun _=>True) W g (tabI B p)/\FB (eInt .i64) 3 (fun _=>True) W h (fil B i (fun b=>(((nwOf n o).lab b:Nat):Int)) 0)) (fun i=>B-i) 0 ?_ ?_ ?_)
 ·exact lkA rfl
 ·refine ⟨hW2,k8,Nat.zero_le _,fb,?_⟩
  rw [X5];exact f2
 rintro i W ⟨hW,k8,hi,fb,fl⟩
 refine .sr ?_
 rcases Nat.lt_or_ge i B with hlt | hge
 rotate_left
 ·refine .lssF O O O (by omega) (.nil (.seq (.condF O (.exit (.sr (.mv O O (.asg O O (.an O O (.ret ?_)))))))))
  have:i=B:=by omega
  subst this
  refine .plain [_,_] Tryz.results55 ⟨rfl,rfl,trivial⟩ ⟨Below.trans x5 (hW.mono (by omega)),_,_,rfl,?_,by rw [hE]⟩
  rw [AE8] at fl
  have fl':FB (eInt .i64) 3 S W h (tabI i (nwOf n o).lab):=by
   obtain ⟨es,hb,he⟩:=fl
   exact ⟨es,hb,he.1,fun i e x h1 h2=>he.2 i e x h1 h2⟩
  have:=fl'.toR (hsz:=by decide) (c:=i) (up h (by omega)) (by rw [P1];omega) (by rw [P1];omega)
  rw [P1] at this
  exact this
 refine .lssT O O O (by omega) (.nil (.seq (.condT O (.skip (.seq (.block (.sr (.mv O O (.an O O (.seq (.sr (.mv O O (.mv O O ?_)))))))))))))
 refine .callv [.int .i64 (i:Nat)] O O Aq1 O (Ao3 k8 fb hc hlt) fun v3 W3 e3 h3=>.an O O (.sr (.mv O O (.mv O O ?_)))
 subst h3
 have hrl:=Nw.root_le (n:=nwOf n o) i
 have hlb:=Nw.lab_le (nwOf n o) i
 have hcl:=Nw.cnt_le (nwOf n o) i
 have hcs:=Nw.cnt_succ (nwOf n o) i
 have hW3:=hW.trans (e3.mono (by have:=hW.size;omega))
 have k8:=k8.ext e3
 have fb:=fb.ext e3
 have fl:=fl.ext e3
 by_cases hr:(nwOf n o).root i=i
 ·refine .neqF O O O (by omega) (.nil (.condF O (.skip (.sr (.mv O O (.mv O O (.mv O O (.ixB (i:=i) un_I B4 O O O hlt ?_))))))))
  refine .storeF (E:=eInt .i64) (i:=i) (z:=(((nwOf n o).lab i:Nat):Int)) (by decide) B4 O O fl O (by rw [K9];exact hlt) (Nat.zero_add _) ⟨by rw [Nw.lab_root _ hr],I3.2 (by omega)⟩ fun W4 f4 u4=>.nil ?_
  rw [Z6 (f:=fun b=>(((nwOf n o).lab b:Nat):Int))] at f4
  refine .region (.mv O O (.add O O O (.an O O (.region (.add O O O (.mv O O (.nil ?_)))))))
  rw [wI (by omega),wI (by omega)]
  rw [if_pos hr] at hcs
  exact ⟨rfl,i+1,A2 O (A2 O (A2 O (A2 (by rw [hcs];rfl) (lkA O)))),⟨u4.below hW3 hhw,k8.upd u4 h8h,hlt,hupd' fb u4,f4⟩,by show B-(i+1)<B-i;omega⟩
 ·refine .neqT O O O (by omega) (.nil (.condT O (.sr (.mv O O (.mv O O (.mv O O (.mv O O (.ixB (i:=(nwOf n o).root i) un_I B4 O O O (by omega) ?_))))))))
  refine .ldF (E:=eInt .i64) (i:=(nwOf n o).root i) (by decide) B4 O O (Nat.zero_add _) fl (fil_get (by omega) (by omega)) fun e he=>?_
  obtain ⟨rfl,_⟩:=he
  refine .ixB (i:=i) un_I B4 O O O hlt ?_
  refine .storeF (E:=eInt .i64) (i:=i) (z:=(((nwOf n o).lab i:Nat):Int)) (by decide) B4 O O fl O (by rw [K9];exact hlt) (Nat.zero_add _) ⟨by rw [Nw.lab_of _ i],I3.2 (by omega)⟩ fun W4 f4 u4=>.nil ?_
  rw [Z6 (f:=fun b=>(((nwOf n o).lab b:Nat):Int))] at f4
  refine .exit (.region (.add O O O (.mv O O (.nil ?_))))
  rw [wI (by omega)]
  rw [if_neg hr,Nat.add_zero] at hcs
  exact ⟨rfl,i+1,A2 O (A2 O (A2 O (A2 (by rw [hcs];rfl) (lkA O)))),⟨u4.below hW3 hhw,k8.upd u4 h8h,hlt,hupd' fb u4,f4⟩,by show B-(i+1)<B-i;omega⟩
end Go.Proofs.YtggegpiffjbngaaGreat
namespace Go.Kx
open Go Go.RowKit
theorem Els.append {α:Type} {E:ER α} {S:Nat->Prop} {w:World} {es fs:List Value} {l s:List α} (h:Els E S w es l) (h':Els E S w fs s):Els E S w (es++fs) (l++s):=by
 refine ⟨by rw [List.length_append,List.length_append,h.1,h'.1],fun i e x he hx=>?_⟩
 rw [List.getElem?_append] at he hx
 rw [h.1] at he
 split at he
 ·rename_i hi
  rw [if_pos hi] at hx
  exact h.2 i e x he hx
 ·rename_i hi
  rw [if_neg hi] at hx
  exact h'.2 _ e x he hx
section
variable {P:Program} {σ:Env} {w:World} {d:Option Tmp} {ty:TypeId} {pos:String} {af:Array Edge} {g:Option (Nat×Bool)} {α:Type} {E:ER α}
theorem At1 {tt t:TypeId} {x y:Operand} {z:Value} {by_ base:Nat} {X:Nat->Prop} {v u:Value} {l s:List α} {hsz:0<E.sz} (ht:P.underlying tt=some (.slice t)) (hi:infoOf P t=some (z,E.sz,by_)) (hzs:z.cells.size=E.sz) (hx:ev σ x=some v) (hy:ev σ y=some u)
  (hown:OwnL E t base X w v l) (hs:(RL E hsz).R X w u s) (hX:∀ k,X k->k<base) (hl:l.length<=1000000) (hl2:s.length<=1000000) (hby:by_<=100) (hbase:base<=w.heap.size) :
  Gv P ⟨d,.call { callee:=.builtin .append,args:=#[x,y],argTypes:=#[tt,tt] },ty,pos,af,g⟩ σ w fun v' w'=>OwnL E t base X w' v' (l++s)/\Below base w w':=by
 have hown0:=hown
 obtain ⟨es0,ho,hels⟩:=hown
 obtain ⟨es,he,a,c,rfl,hc,_,hcl,hcells⟩:=hs
 have hone:∀ u∈cellsOf es,one1 u=true:=by
  intro u hu
  obtain ⟨e,he',hu'⟩:=List.mem_flatMap.1 hu
  obtain ⟨i,hi'⟩:=List.mem_iff_getElem?.1 he'
  have hlt:i<s.length:=by rw [<-he.1];exact (List.getElem?_eq_some_iff.1 hi').1
  exact E.one (he.2 i e _ hi' (List.getElem?_eq_getElem hlt)) u hu'
 have fin:∀ v' w',w'.ownsRow base t E.sz v' (l.length+s.length) (cellsOf es0++cellsOf es)->w.grownBy w' v.ownBlock->OwnL E t base X w' v' (l++s)/\Below base w w':=by
  intro v' w' h1 h2
  have hb:Below base w w':=hown0.below h2 (Below.refl _ _) hbase
  have hk:Kp X w w':=fun k c t f hk h=>(hb.block k (hX k hk)).trans h
  have hno:∀ k,X k->v'.ownBlock≠some k:=fun k hk e=>by have:=(h1.lt k e).1;have:=hX k hk;omega
  refine ⟨⟨es0++es,?_,?_⟩,hb⟩
  ·rw [show cellsOf (es0++es)=cellsOf es0++cellsOf es by simp [cellsOf],List.length_append];exact h1
  ·refine Els.append ⟨hels.1,fun i e x he hx=>?_⟩ ⟨he.1,fun i e x he' hx=>?_⟩
   ·exact E.mono (fun k _ hk=>⟨hk,hno k hk⟩) (E.keep hk (E.mono (fun k _ hk=>hk.1) (hels.2 i e x he hx)))
   ·exact E.mono (fun k _ hk=>⟨hk,hno k hk⟩) (E.keep hk (he.2 i e x he' hx))
 have hbytes:(l.length+s.length)*by_<=140737488355328:=by
  have:(l.length+s.length)*by_<=2000000*100:=Nat.mul_le_mul (by omega) hby
  omega
 cases a with
 | some ad =>
  have hcell:∀ j u,(cellsOf es)[j]?=some u->w.cell? (ad.add j)=some u:=by
   intro j u hu
   have hpos:0<s.length:=by
    rcases Nat.eq_zero_or_pos s.length with h0 | h0
    ·have:es=[]:=List.length_eq_zero_iff.1 (by rw [he.1];exact h0)
     subst this
     simp [cellsOf] at hu
    ·exact h0
   obtain ⟨ad',h1,_,h2⟩:=hcells hpos
   cases h1
   exact (h2 j u hu).1
  exact (AV7 (cellsOf es) ht hi hzs hsz hx hy ho hcl hcell hone (by omega) hbytes hbase).mono fun v' w' ⟨h1,h2⟩=>fin v' w' h1 h2
 | none =>
  have h0:s=[]:=by
   cases s with
   | nil=>rfl
   | cons z s=>obtain ⟨ad,h1,_⟩:=hcells (by simp);cases h1
  subst h0
  refine (BD4 ht hi hx hy ho).gv.mono fun v' w' ⟨h1,h2⟩=>?_
  subst h1;subst h2
  exact ⟨by simpa using hown0,Below.refl _ _⟩
end
section
variable {P:Program} {σ:Env} {w:World} {d:Option Tmp} {ty:TypeId} {pos:String} {af:Array Edge} {g:Option (Nat×Bool)}
theorem v_sidx {xt:TypeId} {x ix:Operand} {k:IntKind} {i:Int} {s:ByteArray} {b:UInt8} (ht:P.underlying xt=some .string) (hx:ev σ x=some (.string s)) (hi:ev σ ix=some (.int k i)) (h0:0<=i) (hb:s[i.toNat]?=some b) :
  Vl P ⟨d,.index xt x ix,ty,pos,af,g⟩ σ w (.int .u8 b.toNat):=by
 refine ⟨(by intro _ h;cases h),fun ρ hρ=>?_⟩
 have h1:=hρ x _ (by simp [Op.operands]) hx
 have h2:=hρ ix _ (by simp [Op.operands]) hi
 simp [execOp,Instr.index,h1,h2,asIntOf,Sem.run_bind,run_underlying ht,Result.andThen_ok,h0,hb]
theorem g_sidx {xt:TypeId} {x ix:Operand} {k:IntKind} {n:Nat} {s:ByteArray} (ht:P.underlying xt=some .string) (hx:ev σ x=some (.string s)) (hi:ev σ ix=some (.int k (n:Nat))) (hn:n<=12) (hs:((List.range 13).all fun j=>(s[j]?).isSome)=true) :
  Gv P ⟨d,.index xt x ix,ty,pos,af,g⟩ σ w fun v w'=>w'=w/\∃ b:UInt8,v=.int .u8 b.toNat:=by
 have h1:=List.all_eq_true.1 hs n (List.mem_range.2 (by omega))
 obtain ⟨b,hb⟩:=Option.isSome_iff_exists.1 h1
 exact (v_sidx ht hx hi (by omega) (b:=b) (by simpa using hb)).gv.mono fun v w' ⟨h1,h2⟩=>⟨h2,b,h1⟩
theorem AS9 {k:IntKind} {t t':TypeId} {x:Operand} {g' i o:Nat} {S:Nat->Prop} {l:List Int} {z:Int} (ht:tyOf P t=some (false,1)) (hx:ev σ x=some (.pointer (some ⟨g',o,none⟩))) (ho:o=i*1) (hF:FP (eInt k) t' S w g' l) (hz:l[i]?=some z) :
  Gv P ⟨d,.load t x,ty,pos,af,g⟩ σ w fun v' w'=>Ext w w'/\Sp.ok (.inl (.int k z)) v' w' :=
 (ob_ldP (E:=eInt k) ht hx ho hF hz).mono fun v' w' ⟨e1,h⟩=>⟨e1,(h w' (Ext.refl _)).1⟩
end
def insAt (q:List Int) (j:Nat) (x:Int) (r:List Int):List Int:=q.take j++x::(q.drop j++r)
section
variable {q r:List Int} {x:Int} {j:Nat}
theorem AE4 (hj:j<=q.length):(insAt q j x r).length=q.length+1+r.length:=by unfold insAt;simp;omega
theorem BC8 (hj:j<=q.length):(insAt q j x r)[j]?=some x:=by
 unfold insAt
 rw [List.getElem?_append_right (by simp;omega)]
 simp [Nat.min_eq_left hj]
theorem Av3 {y:Int} (h:q[j]?=some y):(insAt q (j+1) x r)[j]?=some y:=by
 have hl:=(List.getElem?_eq_some_iff.1 h).1
 unfold insAt
 rw [List.getElem?_append_left (by simp;omega),List.getElem?_take,if_pos (Nat.lt_succ_self j)]
 exact h
theorem An2 {y:Int} (h:q[j]?=some y):((insAt q (j+1) x r).set (j+1) y).set j x=insAt q j x r:=by
 obtain ⟨hl,hy⟩:=List.getElem?_eq_some_iff.1 h
 unfold insAt
 have h1:q.take (j+1)=q.take j++[y]:=by rw [List.take_add_one,h];rfl
 have h2:q.drop j=y::q.drop (j+1):=by rw [<-hy];exact List.drop_eq_getElem_cons hl
 have h3:(q.take j).length=j:=by simp;omega
 rw [h1,h2]
 generalize q.take j=L at h3
 subst h3
 rw [List.append_assoc,List.set_append_right _ _ (by omega),List.set_append_right _ _ (by omega)]
 simp
theorem Aa6:insAt q q.length x r=q++x::r:=by unfold insAt;simp
end
end Go.Kx
namespace Go.Proofs.YtggegpiffjbngaaGreat
open Go Go.Kx Go.RowKit
theorem E_isNaN:Ent Tryz.prog 274:=A0 Tryz.func274 (by kernel_rfl) rfl
theorem isNaN_c {w:World} {a:Int}:CR Tryz.prog 274 #[.int .i64 a] w (Is (.bool false)):=by
 refine enter Tryz.func274 O Tryz.ntmps274 O (.beg (.go O (.neqF O O O O (.goE O ?_))))
 exact .plain [_] Tryz.results274 ⟨rfl,trivial⟩ ⟨Ext.refl _,rfl⟩
theorem BF0:Ent Tryz.prog 257:=A0 Tryz.func257 (by kernel_rfl) rfl
theorem BC6 {w:World} {a b:Int}:CR Tryz.prog 257 #[.int .i64 a,.int .i64 b] w (Is (.bool (decide (a<b)))):=by
 refine enter Tryz.func257 O Tryz.ntmps257 O (.beg (.go O ?_))
 refine .call _ O E_isNaN O isNaN_c fun v1 w1 e1 h1=>?_
 subst h1
 refine .go O (.lss O O O (.goE O ?_))
 exact .plain [_] Tryz.results257 ⟨rfl,trivial⟩ ⟨e1,rfl⟩
theorem E_isort:Ent Tryz.prog 251:=A0 Tryz.func251 (by kernel_rfl) rfl
set_option maxRecDepth 8000 in
theorem isort_c {w:World} {g cap:Nat} {p:List Int} {k:Int} (hF:FP (eInt .i64) 3 (fun _=>True) w g (p++[k])) (hp:p.Pairwise (·<·)) (hl:p.length<=1000) :
  Calls Tryz.prog 251 #[.slice (some ⟨g,0,none⟩) (p.length+1) cap,.int .i64 0,.int .i64 ((p.length+1:Nat):Int)] w fun e w'=>∃ v,e=.returned v/\∃ j,j<=p.length/\(∀ y∈p.drop j,k<y)/\(∀ y∈p.take j,y<=k)/\Chg (fun b=>b=g) w w'/\FP (eInt .i64) 3 (fun _=>True) w' g (insAt p j k []):=by
 refine enterG Tryz.func251 O Tryz.ntmps251 O (.beg (.go O (.inc (i:=0) O O O (by omega) (.goC O ?_))))
 refine .lp (α:=Nat×List Int) [0,1,2] O (fun y=>[(6,.int .i64 (y.1:Nat))]) (fun y W=>Chg (fun b=>b=g) w W/\FP (eInt .i64) 3 (fun _=>True) W g y.2/\((y.1<=p.length/\1<=y.1/\y.2=p++[k])\/(y.1=p.length+1/\∃ j,j<=p.length/\(∀ z∈p.drop j,k<z)/\(∀ z∈p.take j,z<=k)/\y.2=insAt p j k []))) (fun y=>p.length+1-y.1) (1,p++[k]) (lc1 O) ⟨Chg.refl _,hF,?_⟩ ?_
 ·cases p with
  | nil=>exact .inr ⟨rfl,0,Nat.le_refl _,by simp,by simp,rfl⟩
  | cons a p=>exact .inl ⟨by simp,Nat.le_refl _,rfl⟩
 clear hF
 rintro ⟨i,l⟩ W ⟨hC,hF,hI⟩
 replace hC:Chg (fun b=>b=g) w W:=hC
 replace hF:FP (eInt .i64) 3 (fun _=>True) W g l:=hF
 replace hI:(i<=p.length/\1<=i/\l=p++[k])\/(i=p.length+1/\∃ j,j<=p.length/\(∀ z∈p.drop j,k<z)/\(∀ z∈p.take j,z<=k)/\l=insAt p j k []):=hI
 refine .go O ?_
 rcases hI with ⟨hi,hi1,rfl⟩ | ⟨rfl,j,hj,h1,h2,rfl⟩
 rotate_left
 ·exact .lssF O O O (by omega) (.goE O (.plain [] Tryz.results251 trivial ⟨j,hj,h1,h2,hC,hF⟩))
 obtain ⟨q,x,r,hq,hpk,hqs,hqp⟩:∃ q x r,q.length=i/\p++[k]=insAt q i x r/\q.Pairwise (·<·)/\((i<p.length/\∀ y∈q,y<x)\/(i=p.length/\q=p/\x=k/\r=[])):=by
  rcases Nat.lt_or_ge i p.length with hlt | hge
  ·refine ⟨p.take i,p[i],p.drop (i+1)++[k],by simp;omega,?_,hp.sublist (List.take_sublist _ _),.inl ⟨hlt,fun y hy=>?_⟩⟩
   ·have h3:(p.take i).length=i:=by simp;omega
    have h4:insAt (p.take i) i p[i] (p.drop (i+1)++[k])=p.take i++p[i]::(p.drop (i+1)++[k]):=by
     have:=Aa6 (q:=p.take i) (x:=p[i]) (r:=p.drop (i+1)++[k])
     rw [h3] at this
     exact this
    rw [h4]
    have h5:p=p.take i++p[i]::p.drop (i+1):=by rw [<-List.drop_eq_getElem_cons hlt,List.take_append_drop]
    exact (congrArg (·++[k]) h5).trans (by rw [List.append_assoc];rfl)
   ·obtain ⟨a,ha,rfl⟩:=List.mem_take_iff_getElem.1 hy
    have ha':a<i:=by omega
    exact List.pairwise_iff_getElem.1 hp a i (by omega) hlt ha'
  ·have:i=p.length:=by omega
   subst this
   exact ⟨p,k,[],rfl,Aa6.symm,hp,.inr ⟨rfl,rfl,rfl,rfl⟩⟩
 have hfin:∀ {j:Nat} {W':World},j<=i->(∀ y∈q.drop j,x<y)->(j=0\/∀ y,q[j-1]?=some y->y<=x)->FP (eInt .i64) 3 (fun _=>True) W' g (insAt q j x r)->∃ l',FP (eInt .i64) 3 (fun _=>True) W' g l'/\((i+1<=p.length/\1<=i+1/\l'=p++[k])\/(i+1=p.length+1/\∃ j,j<=p.length/\(∀ z∈p.drop j,k<z)/\(∀ z∈p.take j,z<=k)/\l'=insAt p j k [])):=by
  intro j W' hj h1 h2 hF'
  rcases hqp with ⟨hlt,hqx⟩ | ⟨rfl,rfl,rfl,rfl⟩
  ·have hji:j=i:=by
    rcases Nat.lt_or_ge j i with h | h
    ·exfalso
     have h3:q[j]'(by omega)∈q.drop j:=by rw [List.drop_eq_getElem_cons (by omega)];exact List.mem_cons_self ..
     have:=h1 _ h3
     have:=hqx _ (List.getElem_mem (l:=q) (n:=j) (by omega))
     omega
    ·omega
   subst hji
   rw [<-hpk] at hF'
   exact ⟨_,hF',.inl ⟨by omega,by omega,rfl⟩⟩
  ·refine ⟨_,hF',.inr ⟨rfl,j,hj,h1,fun y hy=>?_,rfl⟩⟩
   obtain ⟨a,ha,rfl⟩:=List.mem_take_iff_getElem.1 hy
   rcases h2 with h2 | h2
   ·omega
   ·have hj1:j-1<q.length:=by omega
    have h3:=h2 _ (List.getElem?_eq_getElem hj1)
    rcases Nat.lt_or_ge a (j-1) with h | h
    ·have:=List.pairwise_iff_getElem.1 hp a (j-1) (by omega) hj1 h
     omega
    ·have:a=j-1:=by omega
     subst this
     exact h3
 rw [hpk] at hF
 have hr:q.length+1+r.length=p.length+1:=by
  have:=congrArg List.length hpk
  rw [AE4 (by omega)] at this
  simp at this
  omega
 refine .lssT O O O (by omega) (.goC O ?_)
 refine .lp (α:=Nat) [0,1,2,6] rfl (fun j=>[(7,.int .i64 (j:Nat))]) (fun j W'=>Chg (fun b=>b=g) w W'/\FP (eInt .i64) 3 (fun _=>True) W' g (insAt q j x r)/\j<=i/\∀ y∈q.drop j,x<y) (fun j=>j) i (lc1 rfl) ⟨hC,hF,Nat.le_refl _,by rw [List.drop_of_length_le (by omega)];intro y hy;cases hy⟩ ?_
 clear hF hC
 rintro j W' ⟨hC,hF,hj,hd⟩
 replace hC:Chg (fun b=>b=g) w W':=hC
 have hout:∀ {W2:World},Ext W' W2->(j=0\/∀ y,q[j-1]?=some y->y<=x)->∃ l',FP (eInt .i64) 3 (fun _=>True) W2 g l'/\((i+1<=p.length/\1<=i+1/\l'=p++[k])\/(i+1=p.length+1/\∃ j,j<=p.length/\(∀ z∈p.drop j,k<z)/\(∀ z∈p.take j,z<=k)/\l'=insAt p j k [])):=fun e h=>hfin hj hd h (hF.ext e)
 cases j with
 | zero =>
  refine .goC O ?_
  refine .par follows 13 [.inl _,.inl _,.inl (.bool false),.inl (.bool false),.inl undef,.inl undef,.inl undef,.inl undef,.inl undef,.inl undef,.inl undef,.inl undef,.inl undef] [[],[],[(16,0),(17,1)],[(18,2)],[(19,3)],[(19,3)],[(20,4),(21,5),(19,3)],[(22,6),(19,3)],[(19,3)],[(19,3)],[(25,9),(19,3)],[(24,8),(26,10),(19,3)],[(27,11),(19,3)]] (by kernel_rfl) ⟨
   fun w e=>(v_mv O).ob,
   fun w e=>(v_mv O).ob,
   fun w e=>((Aq9 O O).eq (by simp)).ob,
   fun w e=>(v_mv O).ob,
   fun w e=>rfl,
   fun w e=>rfl,
   fun w e=>rfl,
   fun w e=>rfl,
   fun w e=>rfl,
   fun w e=>rfl,
   fun w e=>rfl,
   fun w e=>rfl,
   fun w e=>rfl,trivial⟩ ?_
  intro W2 d2
  obtain ⟨l',hl',hI'⟩:=hout d2 (.inl rfl)
  exact .go O (.inc O O O (by omega) (.goN O (.mk (i+1,l') O (lc1 O) ⟨⟨hC.trans (Chg.ext d2),hl',hI'⟩,by show p.length+1-(i+1)<p.length+1-i;omega⟩)))
 | succ m =>
 have hmq:m<q.length:=by omega
 have hm:=List.getElem?_eq_getElem hmq
 generalize q[m]=y at hm
 have hg1:=BC8 (q:=q) (x:=x) (r:=r) (j:=m+1) (by omega)
 have hg2:=Av3 (x:=x) (r:=r) hm
 by_cases hxy:x<y
 rotate_left
 ·refine .goC O ?_
  refine .par follows 13 [.inl _,.inl _,.inl (.bool true),.inl (.bool true),.inl _,.inl _,.inl (.pointer (some ⟨g,0+(m+1)*1,none⟩)),.inl (.int .i64 x),.inl _,.inl _,.inl (.int .i64 (m:Nat)),.inl (.pointer (some ⟨g,0+m*1,none⟩)),.inl (.int .i64 y)] [[],[],[(16,0),(17,1)],[(18,2)],[(19,3)],[(19,3)],[(20,4),(21,5),(19,3)],[(22,6),(19,3)],[(19,3)],[(19,3)],[(25,9),(19,3)],[(24,8),(26,10),(19,3)],[(27,11),(19,3)]] (by kernel_rfl) ⟨
   fun w e=>(v_mv O).ob,
   fun w e=>(v_mv O).ob,
   fun w e=>((Aq9 O O).eq (by simp)).ob,
   fun w e=>(v_mv O).ob,
   fun w e=>(v_mv O).ob,
   fun w e=>(v_mv O).ob,
   fun w e=>(E6 (i:=m+1) un_I B4 O O (by omega)).ob,
   fun w e=>AS9 (i:=m+1) B4 O (Nat.zero_add _) (hF.ext e) hg1,
   fun w e=>(v_mv O).ob,
   fun w e=>(v_mv O).ob,
   fun w e=>((AA3 O O).eq (by rw [wI (by omega)];congr 1;omega)).ob,
   fun w e=>(E6 (i:=m) un_I B4 O O (by omega)).ob,
   fun w e=>AS9 (i:=m) B4 O (Nat.zero_add _) (hF.ext e) hg2,trivial⟩ ?_
  intro W2 d2'
  refine .go O (.call _ O BF0 O BC6 fun v3 W3 e3 h3=>?_)
  subst h3
  rw [decide_eq_false hxy]
  have d2:=d2'.trans e3
  obtain ⟨l',hl',hI'⟩:=hout d2 (.inr fun z hz=>by rw [Nat.add_sub_cancel,hm] at hz;cases hz;omega)
  exact .go O (.inc O O O (by omega) (.goN O (.mk (i+1,l') O (lc1 O) ⟨⟨hC.trans (Chg.ext d2),hl',hI'⟩,by show p.length+1-(i+1)<p.length+1-i;omega⟩)))
 refine .goC O ?_
 refine .par follows 13 [.inl _,.inl _,.inl (.bool true),.inl (.bool true),.inl _,.inl _,.inl (.pointer (some ⟨g,0+(m+1)*1,none⟩)),.inl (.int .i64 x),.inl _,.inl _,.inl (.int .i64 (m:Nat)),.inl (.pointer (some ⟨g,0+m*1,none⟩)),.inl (.int .i64 y)] [[],[],[(16,0),(17,1)],[(18,2)],[(19,3)],[(19,3)],[(20,4),(21,5),(19,3)],[(22,6),(19,3)],[(19,3)],[(19,3)],[(25,9),(19,3)],[(24,8),(26,10),(19,3)],[(27,11),(19,3)]] (by kernel_rfl) ⟨
  fun w e=>(v_mv O).ob,
  fun w e=>(v_mv O).ob,
  fun w e=>((Aq9 O O).eq (by simp)).ob,
  fun w e=>(v_mv O).ob,
  fun w e=>(v_mv O).ob,
  fun w e=>(v_mv O).ob,
  fun w e=>(E6 (i:=m+1) un_I B4 O O (by omega)).ob,
  fun w e=>AS9 (i:=m+1) B4 O (Nat.zero_add _) (hF.ext e) hg1,
  fun w e=>(v_mv O).ob,
  fun w e=>(v_mv O).ob,
  fun w e=>((AA3 O O).eq (by rw [wI (by omega)];congr 1;omega)).ob,
  fun w e=>(E6 (i:=m) un_I B4 O O (by omega)).ob,
  fun w e=>AS9 (i:=m) B4 O (Nat.zero_add _) (hF.ext e) hg2,trivial⟩ ?_
 intro W2 d2'
 refine .go O (.call _ O BF0 O BC6 fun v3 W3 e3 h3=>?_)
 subst h3
 rw [decide_eq_true hxy]
 have d2:=d2'.trans e3
 refine .goC O ?_
 have hF2:=hF.ext d2
 refine .heldT follows true (fun _=>True) [some _,some (.int .i64 ((m+1:Nat):Int)),some _,some (.int .i64 ((m+1:Nat):Int)),some (.int .i64 (m:Nat)),some _,some (.int .i64 ((m+1:Nat):Int)),some (.int .i64 (m:Nat)),some (.pointer (some ⟨g,0+m*1,none⟩)),none,some _,some (.int .i64 ((m+1:Nat):Int)),some (.pointer (some ⟨g,0+(m+1)*1,none⟩)),none,some (.pointer (some ⟨g,0+(m+1)*1,none⟩)),none,some (.pointer (some ⟨g,0+m*1,none⟩)),none]
   (.two 9 (.one 13 (.one 15 (.one 17 .done))) 13 (.one 9 (.one 15 (.one 17 .done)))) (by kernel_rfl) (by kernel_rfl)
   ⟨fun _ _=>v_mv rfl,fun _ _=>v_mv rfl,fun _ _=>v_mv rfl,fun _ _=>v_mv rfl,fun _ _=>(AA3 O O).eq (by rw [wI (by omega)];congr 1;omega),fun _ _=>v_mv rfl,fun _ _=>v_mv rfl,fun _ _=>(AA3 O O).eq (by rw [wI (by omega)];congr 1;omega),fun _ _=>E6 (i:=m) un_I B4 O O (by omega),fun _ _=>v_mv rfl,fun _ _=>v_mv rfl,fun _ _=>E6 (i:=m+1) un_I B4 O O (by omega),fun _ _=>E6 (i:=m+1) un_I B4 O O (by omega),fun _ _=>E6 (i:=m) un_I B4 O O (by omega),trivial⟩ ?_
 intro W3 e3 _
 obtain ⟨x9,h9,p9⟩:=(hF2.ext e3).at_ hg2
 obtain ⟨x13,h13,p13⟩:=(hF2.ext e3).at_ hg1
 have q9:PtrX W3 ⟨g,0+m*1,none⟩ x9:=by rw [Nat.zero_add];exact p9
 have q13:PtrX W3 ⟨g,0+(m+1)*1,none⟩ x13:=by rw [Nat.zero_add];exact p13
 refine .gv2 (.gv O trivial O (AA4 (E:=eInt .i64) B4 O q9 h9).gv ?_) (.gv O trivial O (AA4 (E:=eInt .i64) B4 O q13 h13).gv ?_)
 all_goals
  rintro _ _ ⟨rfl,rfl⟩
  refine .gv O trivial O (by first | exact (AA4 (E:=eInt .i64) B4 O q13 h13).gv | exact (AA4 (E:=eInt .i64) B4 O q9 h9).gv) ?_
  rintro _ _ ⟨rfl,rfl⟩
  refine .gv O trivial O (Ai5 (E:=eInt .i64) (i:=m+1) (by decide) B4 O O (hF2.ext e3) O (by rw [AE4 (by omega)];omega) (Nat.zero_add _) h9) ?_
  rintro _ W4 ⟨f4,u4⟩
  refine .gv O trivial O (Ai5 (E:=eInt .i64) (i:=m) (by decide) B4 O O f4 O (by rw [List.length_set,AE4 (by omega)];omega) (Nat.zero_add _) h13) ?_
  rintro _ W5 ⟨f5,u5⟩
  refine .nil (.inl O) ?_
  rw [An2 hm] at f5
  have hC5:Chg (fun b=>b=g) w W5:=(((hC.trans (Chg.ext d2)).trans (Chg.ext e3)).trans (Chg.upd u4 O)).trans (Chg.upd u5 O)
  refine kq.go O (.sub O O O ?_)
  rw [wI (by omega),show (((m+1:Nat):Int)-1)=((m:Nat):Int) by omega]
  refine .goN O (.mk m O (lc1 O) ⟨⟨hC5,f5,by omega,fun z hz=>?_⟩,Nat.lt_succ_self m⟩)
  have hdr:q.drop m=y::q.drop (m+1):=by
   obtain ⟨_,hy⟩:=List.getElem?_eq_some_iff.1 hm
   rw [<-hy];exact List.drop_eq_getElem_cons hmq
  rw [hdr] at hz
  rcases List.mem_cons.1 hz with rfl | hz
  ·exact hxy
  ·exact hd z hz
theorem E_pdq:Ent Tryz.prog 231:=A0 Tryz.func231 (by kernel_rfl) rfl
set_option maxRecDepth 8000 in
theorem pdq_c {w:World} {g cap:Nat} {p:List Int} {k r:Int} (hF:FP (eInt .i64) 3 (fun _=>True) w g (p++[k])) (hp:p.Pairwise (·<·)) (hl:p.length<=11) :
  Calls Tryz.prog 231 #[.slice (some ⟨g,0,none⟩) (p.length+1) cap,.int .i64 0,.int .i64 ((p.length+1:Nat):Int),.int .i64 r] w fun e w'=>∃ v,e=.returned v/\∃ j,j<=p.length/\(∀ y∈p.drop j,k<y)/\(∀ y∈p.take j,y<=k)/\Chg (fun b=>b=g) w w'/\FP (eInt .i64) 3 (fun _=>True) w' g (insAt p j k []):=by
 refine enterG Tryz.func231 O Tryz.ntmps231 O (.beg (.goC O ?_))
 refine .lp (α:=Unit) [0,1,2,3] O (fun _=>[]) (fun _ W=>W=w) (fun _=>0) () AC1 O ?_
 rintro ⟨⟩ W rfl
 refine .go O (.sub O O O ?_)
 rw [wI (by omega)]
 refine .go O (.leqT O O O (by omega) (.go O ?_))
 refine .callG _ O E_isort O (isort_c hF hp (by omega)) fun v W' h=>?_
 exact .goE O (.plain [] Tryz.results231 trivial h)
theorem E_Len64:Ent Tryz.prog 261:=A0 Tryz.func261 (by kernel_rfl) rfl
set_option maxRecDepth 8000 in
theorem Len64_c {w:World} {x:Nat} (hx:x<=12):CR Tryz.prog 261 #[.int .u64 (x:Nat)] w (fun v _=>∃ r,v=.int .i64 r):=by
 refine enter Tryz.func261 O Tryz.ntmps261 O (.beg (.go O ?_))
 refine .geqF O O O (by omega) (.go O (.geqF O O O (by omega) (.go O (.geqF O O O (by omega) (.go O (.cvt C0 AJ2 O O ?_))))))
 have h8:IntKind.u8.wrap ((x:Nat):Int)=((x:Nat):Int):=by
  rcases x with _ | _ | _ | _ | _ | _ | _ | _ | _ | _ | _ | _ | _ | x
  all_goals first | rfl | omega
 rw [h8]
 refine .gv O O (g_sidx Az5 O O hx (by kernel_rfl)) ?_
 rintro v w' ⟨rfl,b,rfl⟩
 refine .cvt AJ2 Q7 O O (.add O O O (.goE O ?_))
 exact .plain [_] Tryz.results261 ⟨rfl,trivial⟩ ⟨Ext.refl _,_,rfl⟩
theorem E_Len:Ent Tryz.prog 232:=A0 Tryz.func232 (by kernel_rfl) rfl
theorem Len_c {w:World} {x:Nat} (hx:x<=12):CR Tryz.prog 232 #[.int .u64 (x:Nat)] w (fun v _=>∃ r,v=.int .i64 r):=by
 refine enter Tryz.func232 O Tryz.ntmps232 O (.beg (.go O ?_))
 refine .call _ O E_Len64 O (Len64_c hx) fun v1 w1 e1 ⟨r,h1⟩=>.goE O ?_
 exact .plain [_] Tryz.results232 ⟨rfl,trivial⟩ ⟨e1,r,h1⟩
theorem E_Sort:Ent Tryz.prog 174:=A0 Tryz.func174 (by kernel_rfl) rfl
set_option maxRecDepth 8000 in
theorem Sort_c {w:World} {g cap:Nat} {p:List Int} {k:Int} (hF:FP (eInt .i64) 3 (fun _=>True) w g (p++[k])) (hp:p.Pairwise (·<·)) (hl:p.length<=11) :
  Calls Tryz.prog 174 #[.slice (some ⟨g,0,none⟩) (p.length+1) cap] w fun e w'=>∃ v,e=.returned v/\∃ j,j<=p.length/\(∀ y∈p.drop j,k<y)/\(∀ y∈p.take j,y<=k)/\Chg (fun b=>b=g) w w'/\FP (eInt .i64) 3 (fun _=>True) w' g (insAt p j k []):=by
 refine enterG Tryz.func174 O Tryz.ntmps174 O (.beg (.go O (.len un_I O O (.go O (.cvt Q7 Ar2 O O ?_)))))
 have h8:IntKind.u64.wrap ((p.length+1:Nat):Int)=((p.length+1:Nat):Int):=by
  have:p.length+1<=12:=by omega
  generalize p.length+1=x at this
  rcases x with _ | _ | _ | _ | _ | _ | _ | _ | _ | _ | _ | _ | _ | x
  all_goals first | rfl | omega
 rw [h8]
 refine .call _ O E_Len O (Len_c (by omega)) fun v1 w1 e1 h1=>?_
 obtain ⟨r,rfl⟩:=h1
 refine .callG _ O E_pdq O (pdq_c (hF.ext e1) hp hl) fun v W' h=>.goE O ?_
 obtain ⟨j,hj,h1,h2,hC,hF'⟩:=h
 exact .plain [] Tryz.results174 trivial ⟨j,hj,h1,h2,(Chg.ext e1).trans hC,hF'⟩
end Go.Proofs.YtggegpiffjbngaaGreat
namespace Go.Kx
open Go Go.RowKit
theorem FP.int {kk:IntKind} {t:TypeId} {S S':Nat->Prop} {w:World} {g:Nat} {l:List Int} (h:FP (eInt kk) t S w g l):FP (eInt kk) t S' w g l:=by
 obtain ⟨es,r,hb,he⟩:=h
 exact ⟨es,r,hb,he.1,fun i e x h1 h2=>he.2 i e x h1 h2⟩
end Go.Kx
namespace Go.Proofs.YtggegpiffjbngaaGreat
open Go Go.Kx Go.RowKit
theorem BD2 {l:List Int} (hp:l.Pairwise (·<·)) {i:Nat} {x y:Int} (h1:l[i]?=some x) (h2:l[i+1]?=some y):x<y:=by
 obtain ⟨a1,rfl⟩:=List.getElem?_eq_some_iff.1 h1
 obtain ⟨a2,rfl⟩:=List.getElem?_eq_some_iff.1 h2
 exact List.pairwise_iff_getElem.1 hp i (i+1) a1 a2 (Nat.lt_succ_self i)
theorem Ay1:Ent Tryz.prog 175:=A0 Tryz.func175 (by kernel_rfl) rfl
set_option maxRecDepth 8000 in
theorem Ay4 {S:Nat->Prop} {w:World} {v:Value} {l:List Int} (h:eI.R S w v l) (hp:l.Pairwise (·<·)) (hl:l.length<=1000):CR Tryz.prog 175 #[v] w (Is v):=by
 obtain ⟨a,c,hv,_⟩:=RL.len h
 refine enter Tryz.func175 O Tryz.ntmps175 O (.beg (.go O (.lenR un_I O O h ?_)))
 by_cases h2:l.length<2
 ·exact .lssT O O O (by omega) (.goE O (.plain [_] Tryz.results175 ⟨rfl,trivial⟩ ⟨Ext.refl _,rfl⟩))
 refine .lssF O O O (by omega) (.goC O ?_)
 refine .lp (α:=Nat) [0] O (fun k=>[(3,.int .i64 (k:Nat))]) (fun k W=>Ext w W/\1<=k/\k<=l.length) (fun k=>l.length-k) 1 (lc1 O) ⟨Ext.refl _,Nat.le_refl _,by omega⟩ ?_
 rintro k W ⟨hW,h1,hk⟩
 have hr:=ER.ext eI h hW
 refine .go O (.lenR un_I O O hr (.go O ?_))
 rcases Nat.lt_or_ge k l.length with hlt | hge
 rotate_left
 ·exact .lssF O O O (by omega) (.goE O (.plain [_] Tryz.results175 ⟨rfl,trivial⟩ ⟨hW,rfl⟩))
 obtain ⟨m,rfl⟩:∃ m,k=m+1:=⟨k-1,by omega⟩
 have hg1:=List.getElem?_eq_getElem hlt
 have hg2:=List.getElem?_eq_getElem (l:=l) (i:=m) (by omega)
 have hxy:=BD2 hp hg2 hg1
 generalize l[m+1]=x at hg1 hxy
 generalize l[m]=y at hg2 hxy
 refine .lssT O O O (by omega) (.goC O ?_)
 refine .par follows 9 [.inl _,.inl _,.inr (Ptr (eInt .i64) S x),.inl (.int .i64 x),.inl _,.inl _,.inl (.int .i64 (m:Nat)),.inr (Ptr (eInt .i64) S y),.inl (.int .i64 y)] [[],[],[(16,0),(17,1)],[(18,2)],[],[],[(21,5)],[(20,4),(22,6)],[(23,7)]] (by kernel_rfl) ⟨
  fun w e=>(v_mv O).ob,
  fun w e=>(v_mv O).ob,
  fun w e=>E5 (i:=m+1) un_I B4 O (ER.ext eI hr e) O hg1,
  fun w e x2 hx2=>AB7 B4 O hx2,
  fun w e=>(v_mv O).ob,
  fun w e=>(v_mv O).ob,
  fun w e=>((AA3 O O).eq (by rw [wI (by omega)];congr 1;omega)).ob,
  fun w e=>E5 (i:=m) un_I B4 O (ER.ext eI hr e) O hg2,
  fun w e x7 hx7=>AB7 B4 O hx7,trivial⟩ ?_
 intro W2 d2 y2 hy2 y7 hy7
 refine .eqlF O O O (by omega) (.go O (.inc O O O (by omega) (.goN O (.mk (m+2) O (lc1 O) ⟨⟨hW.trans d2,by omega,hlt⟩,by show l.length-(m+2)<l.length-(m+1);omega⟩))))
set_option maxRecDepth 8000 in
theorem Index_c {S:Nat->Prop} {w:World} {v:Value} {l:List Int} {x:Int} (h:eI.R S w v l) (hl:l.length<=1000):CR Tryz.prog 162 #[v,.int .i64 x] w (fun v _=>∃ r:Int,v=.int .i64 r/\(0<=r<->x∈l)):=by
 refine enter Tryz.func162 O Tryz.ntmps162 O (.beg (.go O (.lenR un_I O O h (.goC O ?_))))
 refine .lp (α:=Nat) [0,1,7] O (fun k=>[(8,.int .i64 (k:Nat))]) (fun k W=>Ext w W/\k<=l.length/\x∉l.take k) (fun k=>l.length-k) 0 (lc1 O) ⟨Ext.refl _,Nat.zero_le _,by simp⟩ ?_
 rintro k W ⟨hW,hk,hn⟩
 have hr:=ER.ext eI h hW
 refine .go O ?_
 rcases Nat.lt_or_ge k l.length with hlt | hge
 rotate_left
 ·refine .lssF O O O (by omega) (.goE O (.plain [_] Tryz.results162 ⟨rfl,trivial⟩ ⟨hW,-1,rfl,?_⟩))
  rw [List.take_of_length_le hge] at hn
  exact ⟨fun h=>absurd h (by decide),fun h=>absurd h hn⟩
 have hg:=List.getElem?_eq_getElem hlt
 have htk:l.take (k+1)=l.take k++[l[k]]:=by rw [List.take_add_one,hg];rfl
 have hmem:=List.getElem_mem hlt
 generalize l[k]=y at hg htk hmem
 refine .lssT O O O (by omega) (.go O (.ixN (i:=k) un_I B4 O O hr O hg fun q hq=>.ldE (E:=eInt .i64) B4 O O hq fun e he=>?_))
 obtain ⟨rfl,_⟩:=he
 by_cases hxy:x=y
 ·subst hxy
  exact .eqlT O O O O (.goE O (.plain [_] Tryz.results162 ⟨rfl,trivial⟩ ⟨hW,k,rfl,fun _=>hmem,fun _=>by omega⟩))
 ·exact .eqlF O O O hxy (.go O (.inc O O O (by omega) (.goN O (.mk (k+1) O (lc1 O) ⟨⟨hW,hlt,by rw [htk];simp [hn,hxy]⟩,by show l.length-(k+1)<l.length-k;omega⟩))))
theorem AR2:Ent Tryz.prog 173:=A0 Tryz.func173 (by kernel_rfl) rfl
set_option maxRecDepth 8000 in
theorem AQ3 {S:Nat->Prop} {w:World} {v:Value} {l:List Int} (h:eI.R S w v l) (hp:l.Pairwise (·<·)) (h0:∀ x∈l,0<=x) (hl:l.length<=1000):CR Tryz.prog 173 #[v] w (Is (.bool true)):=by
 refine enter Tryz.func173 O Tryz.ntmps173 O (.beg (.go O (.lenR un_I O O h (.goC O ?_))))
 refine .lp (α:=Nat) [0,5,6] O (fun k=>[(7,.int .i64 (k:Nat))]) (fun k W=>Ext w W/\k<=l.length) (fun k=>l.length-k) 0 (lc1 O) ⟨Ext.refl _,Nat.zero_le _⟩ ?_
 rintro k W ⟨hW,hk⟩
 have hr:=ER.ext eI h hW
 refine .go O ?_
 rcases Nat.lt_or_ge k l.length with hlt | hge
 rotate_left
 ·exact .lssF O O O (by omega) (.goE O (.plain [_] Tryz.results173 ⟨rfl,trivial⟩ ⟨hW,rfl⟩))
 have hg:=List.getElem?_eq_getElem hlt
 have hx:=h0 _ (List.getElem_mem hlt)
 generalize l[k]=x at hg hx
 refine .lssT O O O (by omega) (.go O (.ixN (i:=k) un_I B4 O O hr O hg fun q hq=>.ldE (E:=eInt .i64) B4 O O hq fun e he=>.go O ?_))
 obtain ⟨rfl,_⟩:=he
 refine .lssF O O O (by omega) (.go O ?_)
 have hend:(fun k=>l.length-k) (k+1)<(fun k=>l.length-k) k:=by show l.length-(k+1)<l.length-k;omega
 cases k with
 | zero =>
  exact .gtrF O O O (by omega) (.go O (.inc O O O (by omega) (.goN O (.mk 1 O (lc1 O) ⟨⟨hW,hlt⟩,hend⟩))))
 | succ m =>
  have hg2:=List.getElem?_eq_getElem (l:=l) (i:=m) (by omega)
  have hxy:=BD2 hp hg2 hg
  generalize l[m]=y at hg2 hxy
  refine .gtrT O O O (by omega) (.go O (.sub O O O ?_))
  rw [wI (by omega),show (((m+1:Nat):Int)-1)=((m:Nat):Int) by omega]
  refine .go O (.ixN (i:=m) un_I B4 O O hr O hg2 fun q hq=>.go O (.ldE (E:=eInt .i64) B4 O O hq fun e he=>.go O ?_))
  obtain ⟨rfl,_⟩:=he
  exact .leqF O O O (by omega) (.go O (.inc O O O (by omega) (.goN O (.mk (m+2) O (lc1 O) ⟨⟨hW,hlt⟩,hend⟩))))
structure Ins (o:List Int) (k:Int) (u:List Int):Prop where
 inc:u.Pairwise (·<·)
 mem:∀ x,x∈u<->x=k\/x∈o
 len:u.length=o.length+1
theorem E_Union:Ent Tryz.prog 112:=A0 Tryz.func112 (by kernel_rfl) rfl
set_option maxRecDepth 8000 in
theorem Union_c {S:Nat->Prop} {w:World} {va vb:Value} {o:List Int} {k:Int} (up:Up S w) (ha:eI.R S w va o) (hb:eI.R S w vb [k]) (hp:o.Pairwise (·<·)) (h0:∀ x∈o,0<=x) (hk:0<=k) (hko:k∉o) (hl:o.length<=11) :
  CR Tryz.prog 112 #[va,vb] w (Two (fun v W=>∃ u,Ins o k u/\eI.R S W v u) (Is (.int .i64 0))):=by
 refine enter Tryz.func112 O Tryz.ntmps112 O (.beg (.go O ?_))
 refine .call _ O AR2 O (AQ3 ha hp h0 (by omega)) fun v1 w1 e1 h1=>?_
 subst h1
 refine .go O (.call _ O AR2 O (AQ3 (ER.ext eI hb e1) (List.pairwise_singleton ..) (fun x hx=>by rw [List.mem_singleton.1 hx];exact hk) (by simp)) fun v2 w2 e2 h2=>?_)
 subst h2
 have x2:=e1.trans e2
 have z2:=x2.size
 have hX:∀ {W:World} {v:Value} {l:List Int},Ext w W->eI.R S w v l->eI.R (fun b=>S b/\b<w.heap.size) W v l:=fun e h=>ER.ext eI (ER.lt eI h) e
 refine .go O (.gv O O (At1 (E:=eInt .i64) (hsz:=by decide) (base:=w.heap.size) (X:=fun b=>S b/\b<w.heap.size) un_I T7 O O O OwnL.nil (hX x2 ha) (fun b h=>h.2) (by simp) (by omega) (by decide) z2) ?_)
 rintro v3 w3 ⟨hO3,b3⟩
 rw [List.nil_append] at hO3
 have x3:Ext w w3:=Below.trans x2 b3
 refine .go O (.gv O O (At1 (E:=eInt .i64) (hsz:=by decide) (base:=w.heap.size) (X:=fun b=>S b/\b<w.heap.size) un_I T7 O O O hO3 (hX x3 hb) (fun b h=>h.2) (by omega) (by simp) (by decide) x3.size) ?_)
 rintro v4 w4 ⟨hO4,b4⟩
 have x4:Ext w w4:=Below.trans x3 b4
 obtain ⟨g,cap,rfl,c1,c2,hg,hF⟩:=hO4.fp (by simp)
 have hlen:(o++[k]).length=o.length+1:=by simp
 rw [hlen] at c1 ⊢
 refine .go O (.callG _ O E_Sort O (Sort_c (hF.mono fun _ _ _=>trivial) hp hl) fun v5 w5 h5=>?_)
 obtain ⟨j,hj,hd,ht,hC,hF5⟩:=h5
 have hIns:Ins o k (insAt o j k []):=by
  refine ⟨?_,fun x=>?_,by rw [AE4 hj];rfl⟩
  ·unfold insAt
   rw [List.append_nil]
   refine List.pairwise_append.2 ⟨hp.sublist (List.take_sublist _ _),List.pairwise_cons.2 ⟨hd,hp.sublist (List.drop_sublist _ _)⟩,fun a ha b hb=>?_⟩
   have h1:=ht a ha
   have h2:a≠k:=fun e=>hko (e▸List.mem_of_mem_take ha)
   rcases List.mem_cons.1 hb with rfl | hb
   ·omega
   ·have:=hd b hb;omega
  ·unfold insAt
   rw [List.append_nil,List.mem_append,List.mem_cons]
   conv=>rhs;rw [<-List.take_append_drop j o,List.mem_append]
   constructor
   ·rintro (h | h | h)
    ·exact .inr (.inl h)
    ·exact .inl h
    ·exact .inr (.inr h)
   ·rintro (h | h | h)
    ·exact .inr (.inl h)
    ·exact .inl h
    ·exact .inr (.inr h)
 have x5:Ext w w5:=hC.below x4 x4.size fun b hb=>by rw [hb];exact hg
 have hR:=(hF5.int (S':=S)).toR (hsz:=by decide) (c:=cap) (up g hg) (by rw [hIns.len];exact c1) (by rw [hIns.len];omega)
 rw [hIns.len] at hR
 refine .go O (.call _ O Ay1 O (Ay4 hR hIns.inc (by rw [hIns.len];omega)) fun v6 w6 e6 h6=>?_)
 subst h6
 exact .goE O (.plain [_,_] Tryz.results112 ⟨rfl,rfl,trivial⟩ ⟨x5.trans e6,_,_,rfl,⟨_,hIns,ER.ext eI hR e6⟩,rfl⟩)
end Go.Proofs.YtggegpiffjbngaaGreat
namespace Go.Kx
open Go Go.RowKit
theorem Ar9 (P:Nat->Bool) (i:Nat):∀ d,∃ t,(List.range (i+d)).filter P=(List.range i).filter P++t
 | 0=>⟨[],by simp⟩
 | d+1=>by
  obtain ⟨t,ht⟩:=Ar9 P i d
  rw [show i+(d+1)=(i+d)+1 by omega,List.range_succ,List.filter_append,ht,List.append_assoc]
  exact ⟨_,rfl⟩
theorem rng_at {P:Nat->Bool} {r C:Nat} (hr:r<C) (hP:P r=true):((List.range C).filter P).getD ((List.range r).filter P).length 0=r/\((List.range r).filter P).length<((List.range C).filter P).length:=by
 obtain ⟨t,ht⟩:=Ar9 P (r+1) (C-(r+1))
 rw [show r+1+(C-(r+1))=C by omega,List.range_succ,List.filter_append] at ht
 have e:List.filter P [r]=[r]:=by simp [hP]
 rw [e] at ht
 rw [ht]
 constructor
 ·rw [List.getD_eq_getElem?_getD,List.append_assoc,List.getElem?_append_right (Nat.le_refl _)];simp
 ·simp
def Nw.refsTo (n:Nw) (b:Nat):List Nat:=(List.range b).filter fun r=>decide (n.root r=r)
theorem Nw.refsTo_len (n:Nw) (b:Nat):(n.refsTo b).length=n.cnt b:=rfl
theorem Nw.refsTo_succ (n:Nw) (b:Nat):n.refsTo (b+1)=n.refsTo b++if n.root b=b then [b] else []:=by
 unfold Nw.refsTo
 rw [List.range_succ,List.filter_append]
 by_cases h:n.root b=b
 ·simp [h]
 ·simp [h]
theorem Nw.cnt_mono (n:Nw) (a:Nat):∀ d,n.cnt a<=n.cnt (a+d)
 | 0=>Nat.le_refl _
 | d+1=>by have:=Nw.cnt_mono n a d;have:=n.cnt_succ (a+d);rw [show a+(d+1)=a+d+1 by omega];omega
theorem Nw.lab_cnt (n:Nw) (b:Nat):n.lab b=n.cnt b<->n.root b=b:=by
 refine ⟨fun h=>?_,fun h=>n.lab_root h⟩
 have hle:=Nw.root_le (n:=n) b
 rcases Nat.lt_or_ge (n.root b) b with hlt | hge
 ·exfalso
  have h1:n.lab b=n.cnt (n.root b):=rfl
  have h2:=n.cnt_succ (n.root b)
  rw [if_pos (Nw.root_root b)] at h2
  have h3:=n.cnt_mono (n.root b+1) (b-(n.root b+1))
  rw [show n.root b+1+(b-(n.root b+1))=b by omega] at h3
  omega
 ·omega
theorem Nw.refs_lab (n:Nw) {b:Nat} (hb:b<n.B):n.refs.getD (n.lab b) 0=n.root b/\n.lab b<n.refs.length:=by
 have hle:=Nw.root_le (n:=n) b
 exact rng_at (P:=fun r=>decide (n.root r=r)) (r:=n.root b) (C:=n.B) (by omega) (decide_eq_true (Nw.root_root b))
theorem Nw.mem_refs {n:Nw} {r:Nat}:r∈n.refs<->r<n.B/\n.root r=r:=by
 unfold Nw.refs
 rw [List.mem_filter,List.mem_range]
 simp
theorem Nw.lab_eq {n:Nw} {a b:Nat} (ha:a<n.B) (hb:b<n.B):n.lab a=n.lab b<->n.root a=n.root b:=by
 constructor
 ·intro h
  rw [<-(n.refs_lab ha).1,<-(n.refs_lab hb).1,h]
 ·intro h;unfold Nw.lab;rw [h]
end Go.Kx
namespace Go.Proofs.YtggegpiffjbngaaGreat
open Go Go.Kx Go.RowKit
theorem AG7:Ent Tryz.prog 71:=A0 Tryz.func71 (by kernel_rfl) rfl
theorem AG1 {S:Nat->Prop} {w:World} {vn vo:Value} {n:NtV} {o:List Int} (up:Up S w) (hn:eN.R S w vn n) (ho:eI.R S w vo o) :
  CR Tryz.prog 71 #[vn,vo] w (Two (eI.at S (if outE n o=0 then pInts (nwOf n o).refs else [])) (Is (.int .i64 (outE n o)))):=by
 have hvn:=shpA (E:=eN) O hn
 refine enter Tryz.func71 O Tryz.ntmps71 O ?_
 refine .sr (.box O O fun w1 b2 n1=>.asg O O (.an O O ?_))
 obtain ⟨e1,k2,hb2,hs1⟩:=n1
 refine .sr (.ldA ty_N O O k2 (eN.csz hn) (.mv O O ?_))
 rw [<-hvn]
 refine .call _ O AR0 O (AP9 (up.ext e1.size) (hn.ext e1) (ho.ext e1)) fun v2 w2 e2 h2=>?_
 obtain ⟨vl,ve,rfl,hl,he⟩:=h2
 replace he:ve=.int .i64 (outE n o):=he
 subst he
 have x2:=e1.trans e2
 refine .mv O O (.ext O O O (.ext O O O (.asg O O (.an O O (.seq (.sr (.mv O O ?_)))))))
 by_cases hE:outE n o=0
 rotate_left
 ·refine .neqT O O O hE (.nil (.condT O (.sr (.mv O O (.asg O O (.an O O (.ret ?_)))))))
  refine .plain [_,_] Tryz.results71 ⟨rfl,rfl,trivial⟩ ⟨x2,_,_,rfl,?_,rfl⟩
  rw [if_neg hE];exact RL.nil
 have ok:=P2 hE
 rw [if_pos hE] at hl ⊢
 have hB6:=ok.b6
 refine .neqF O O O hE (.nil (.condF O (.skip (.sr (.an O O ?_)))))
 have hlW:∀ {W:World},Below w2.heap.size w2 W->eI.R (fun k=>S k/\k<w2.heap.size) W vl (tabI (nwOf n o).B (nwOf n o).lab):=fun h=>eI.keep (fun k c t f hk hh=>(h.block k hk.2).trans hh) (ER.lt eI hl)
 refine .seq (.sr (.mv O O (.lenR un_I O O hl (.mv O O (.nil ?_)))))
 rw [P1]
 refine .block (.loop (α:=Nat×Value) (fun y=>[(8,y.2),(20,vl),(21,.int .i64 ((nwOf n o).B:Nat)),(22,.int .i64 (y.1:Nat))]) (fun y W=>Below w2.heap.size w2 W/\y.1<=(nwOf n o).B/\OwnL (eInt .i64) 3 w2.heap.size S W y.2 (pInts ((nwOf n o).refsTo y.1))) (fun y=>(nwOf n o).B-y.1) (0,.slice none 0 0) ?_ ?_ ?_)
 ·exact lkA rfl
 ·exact ⟨Below.refl _ _,Nat.zero_le _,OwnL.nil⟩
 rintro ⟨i,v⟩ W ⟨hW,hi,hown⟩
 replace hW:Below w2.heap.size w2 W:=hW
 replace hi:i<=(nwOf n o).B:=hi
 replace hown:OwnL (eInt .i64) 3 w2.heap.size S W v (pInts ((nwOf n o).refsTo i)):=hown
 refine .sr ?_
 rcases Nat.lt_or_ge i (nwOf n o).B with hlt | hge
 rotate_left
 ·refine .lssF O O O (by omega) (.nil (.seq (.condF O (.exit (.sr (.mv O O (.asg O O (.an O O (.ret ?_)))))))))
  have:i=(nwOf n o).B:=by omega
  subst this
  refine .plain [_,_] Tryz.results71 ⟨rfl,rfl,trivial⟩ ⟨x2.trans hW,_,_,rfl,?_,by rw [hE]⟩
  exact hown.toR (fun k hk=>up k (by have:=x2.size;omega)) (fun _ h=>h)
 refine .lssT O O O (by omega) (.nil (.seq (.condT O (.skip (.seq (.block (.sr (.mv O O (.ixN (i:=i) un_I B4 O O (hlW hW) O (AJ6 hlt) fun q hq=>.ldE (E:=eInt .i64) B4 O O hq fun e he=>.asg O O (.an O O ?_))))))))))
 obtain ⟨rfl,_⟩:=he
 have hvl:eI.R (fun k=>S k\/w2.heap.size<=k) W v (pInts ((nwOf n o).refsTo i)):=hown.toR (fun k hk=>.inr hk) (fun _ h=>.inl h)
 have hcl:=(nwOf n o).cnt_le i
 have hlb:=(nwOf n o).lab_cnt i
 have hrs:=(nwOf n o).refsTo_succ i
 have hlen:(pInts ((nwOf n o).refsTo i)).length=(nwOf n o).cnt i:=by simp [Nw.refsTo_len]
 refine .sr (.mv O O (.mv O O (.lenR un_I O O hvl ?_)))
 rw [hlen]
 by_cases hr:(nwOf n o).root i=i
 ·rw [if_pos hr] at hrs
  refine .eqlT O O O (by rw [hlb.2 hr]) (.nil (.condT O (.region (.mv O O (.mv O O (.bsl _ O O AI6 fun W1 by_ ny=>?_))))))
  obtain ⟨ey,ky,hby,hsy⟩:=ny
  have hW1:=hW.trans (ey.mono hW.size)
  refine .gv O O (Z5 (E:=eInt .i64) (base:=w2.heap.size) (n:=((i:Nat):Int)) (e:=.int .i64 (i:Nat)) (by decide) un_I T7 O O O (hown.ext ey) ky ⟨rfl,I3.2 (by omega)⟩ (by rw [hlen];omega) (by decide) hW1.size) ?_
  rintro v8 W8 ⟨ho8,hg8⟩
  refine .an O O (.region (.add O O O (.mv O O (.nil ?_))))
  rw [wI (by omega)]
  refine ⟨rfl,(i+1,v8),lkA rfl,⟨(hown.ext ey).below hg8 hW1 hW1.size,hlt,?_⟩,by show (nwOf n o).B-(i+1)<(nwOf n o).B-i;omega⟩
  show OwnL (eInt .i64) 3 w2.heap.size S W8 v8 (pInts ((nwOf n o).refsTo (i+1)))
  rw [hrs]
  unfold pInts
  rw [List.map_append]
  exact ho8
 ·rw [if_neg hr,List.append_nil] at hrs
  refine .eqlF O O O (by intro e;exact hr (hlb.1 (by omega))) (.nil (.condF O (.skip (.region (.add O O O (.mv O O (.nil ?_)))))))
  rw [wI (by omega)]
  refine ⟨rfl,(i+1,v),lkA rfl,⟨hW,hlt,?_⟩,by show (nwOf n o).B-(i+1)<(nwOf n o).B-i;omega⟩
  show OwnL (eInt .i64) 3 w2.heap.size S W v (pInts ((nwOf n o).refsTo (i+1)))
  rw [hrs];exact hown
def busB (n:NtV) (a:Int):Prop:=0<=a/\a<n.b
open Classical in
noncomputable def conE (n:NtV) (o:List Int) (a b:Int):Int:=if outE n o≠0 then outE n o else if busB n a/\busB n b then 0 else 1
theorem conE_ok {n:NtV} {o:List Int} {a b:Int} (h:conE n o a b=0):outE n o=0/\busB n a/\busB n b:=by
 unfold conE at h
 split at h
 ·exact absurd h (by assumption)
 ·split at h
  ·exact ⟨Classical.not_not.1 (by assumption),by assumption⟩
  ·cases h
open Classical in
noncomputable def conB (n:NtV) (o:List Int) (a b:Int):Bool:=decide (conE n o a b=0/\(nwOf n o).root a.toNat=(nwOf n o).root b.toNat)
theorem R6:Ent Tryz.prog 79:=A0 Tryz.func79 (by kernel_rfl) rfl
theorem Q9 {S:Nat->Prop} {w:World} {vn vo:Value} {n:NtV} {o:List Int} {a b:Int} (up:Up S w) (hn:eN.R S w vn n) (ho:eI.R S w vo o) :
  CR Tryz.prog 79 #[vn,vo,.int .i64 a,.int .i64 b] w (Two (Is (.bool (conB n o a b))) (Is (.int .i64 (conE n o a b)))):=by
 obtain ⟨s,rfl,hs,hb⟩:=hn
 have hn:eN.R S w (.agg #[.int .i64 n.b,s]) n:=⟨s,rfl,hs,hb⟩
 refine enter Tryz.func79 O Tryz.ntmps79 O ?_
 refine .sr (.box O O fun w1 b2 n1=>.asg O O (.an O O ?_))
 obtain ⟨e1,k2,hb2,hs1⟩:=n1
 refine .sr (.ldA ty_N O O k2 O (.mv O O ?_))
 refine .call _ O AR0 O (AP9 (up.ext e1.size) (hn.ext e1) (ho.ext e1)) fun v2 w2 e2 h2=>?_
 obtain ⟨vl,ve,rfl,hl,he⟩:=h2
 replace he:ve=.int .i64 (outE n o):=he
 subst he
 have x2:=e1.trans e2
 have k2:=k2.ext e2
 refine .mv O O (.ext O O O (.ext O O O (.asg O O (.an O O (.seq (.sr (.mv O O ?_)))))))
 have hno:conE n o a b≠0->conB n o a b=false:=fun h=>by unfold conB;exact decide_eq_false fun h'=>h h'.1
 by_cases hE:outE n o=0
 rotate_left
 ·have hc:conE n o a b=outE n o:=by unfold conE;rw [if_pos hE]
  refine .neqT O O O hE (.nil (.condT O (.sr (.mv O O (.asg O O (.an O O (.ret ?_)))))))
  exact .plain [_,_] Tryz.results79 ⟨rfl,rfl,trivial⟩ ⟨x2,_,_,rfl,by rw [hno (by rw [hc];exact hE)],by rw [hc];rfl⟩
 have ok:=P2 hE
 rw [if_pos hE] at hl
 have hbad:¬ (busB n a/\busB n b)->∀ {σ:Env},Leave Tryz.prog Tryz.f79 48 (fun v w'=>Ext w w'/\Two (Is (.bool (conB n o a b))) (Is (.int .i64 (conE n o a b))) v w') ((9,.int .i64 1)::(8,.bool false)::σ) [] w2:=fun h σ=>by
  have hc:conE n o a b=1:=by unfold conE;rw [if_neg (by simpa using hE),if_neg h]
  exact .plain [_,_] Tryz.results79 ⟨rfl,rfl,trivial⟩ ⟨x2,_,_,rfl,by rw [hno (by rw [hc];decide)],by rw [hc]⟩
 refine .neqF O O O hE (.nil (.condF O (.skip (.seq (.sr (.mv O O ?_))))))
 by_cases ha0:a<0
 ·refine .lssT O O O ha0 (.mv O O (.gs O O O O O (.gs O O O O O (.gs O O O O O (.gs O O O O O (.pick O O O (.mv O O (.gs O O O O O (.gs O O O O O (.pick O O O (.mv O O (.gs O O O O O (.gs O O O O O (.gs O O O O O (.gs O O O O O (.pick O O O (.nil (.condT O (.sr (.asg O O (.an O O (.ret ?_))))))))))))))))))))))
  exact hbad fun h=>by have:=h.1.1;omega
 refine .lssF O O O (by omega) (.mv O O (.gr O O O O (.mv O O (.gr O O O O (.fa Q1 O O (.gr O O O O (.ld A7 O O k2 O (.gr O O O O ?_))))))))
 by_cases ha1:n.b<=a
 ·refine .geqT O O O ha1 (.pick O O O (.mv O O (.gs O O O O O (.gs O O O O O (.pick O O O (.mv O O (.gs O O O O O (.gs O O O O O (.gs O O O O O (.gs O O O O O (.pick O O O (.nil (.condT O (.sr (.asg O O (.an O O (.ret ?_)))))))))))))))))
  exact hbad fun h=>by have:=h.1.2;omega
 refine .geqF O O O (by omega) (.pick O O O (.mv O O (.gr O O O O (.mv O O (.gr O O O O ?_)))))
 by_cases hb0:b<0
 ·refine .lssT O O O hb0 (.pick O O O (.mv O O (.gs O O O O O (.gs O O O O O (.gs O O O O O (.gs O O O O O (.pick O O O (.nil (.condT O (.sr (.asg O O (.an O O (.ret ?_)))))))))))))
  exact hbad fun h=>by have:=h.2.1;omega
 refine .lssF O O O (by omega) (.pick O O O (.mv O O (.gr O O O O (.mv O O (.gr O O O O (.fa Q1 O O (.gr O O O O (.ld A7 O O k2 O (.gr O O O O ?_)))))))))
 by_cases hb1:n.b<=b
 ·refine .geqT O O O hb1 (.pick O O O (.nil (.condT O (.sr (.asg O O (.an O O (.ret ?_)))))))
  exact hbad fun h=>by have:=h.2.2;omega
 refine .geqF O O O (by omega) (.pick O O O (.nil (.condF O (.skip (.seq ?_)))))
 have hc:conE n o a b=0:=by unfold conE;rw [if_neg (by simpa using hE),if_pos ⟨⟨by omega,by omega⟩,by omega,by omega⟩]
 obtain ⟨a',rfl⟩:∃ a':Nat,a=a':=⟨a.toNat,by omega⟩
 obtain ⟨b',rfl⟩:∃ b':Nat,b=b':=⟨b.toNat,by omega⟩
 have hnb:=ok.b
 have haB:a'<(nwOf n o).B:=by omega
 have hbB:b'<(nwOf n o).B:=by omega
 refine .par follows 9 [.inl vl,.inl (.int .i64 (a':Nat)),.inr (Ptr (eInt .i64) S ((nwOf n o).lab a':Nat)),.inl (.int .i64 ((nwOf n o).lab a':Nat)),.inl vl,.inl (.int .i64 (b':Nat)),.inr (Ptr (eInt .i64) S ((nwOf n o).lab b':Nat)),.inl (.int .i64 ((nwOf n o).lab b':Nat)),.inl (.bool (conB n o a' b'))]
  [[],[],[(39,0),(40,1)],[(41,2)],[],[],[(43,4),(44,5)],[(45,6)],[(42,3),(46,7)]] (by kernel_rfl) ⟨
  fun w e=>(v_mv O).ob,fun w e=>(v_mv O).ob,fun w e=>E5 (i:=a') un_I B4 O (ER.ext eI hl e) O (AJ6 haB),fun w e x hx=>AB7 B4 O hx,
  fun w e=>(v_mv O).ob,fun w e=>(v_mv O).ob,fun w e=>E5 (i:=b') un_I B4 O (ER.ext eI hl e) O (AJ6 hbB),fun w e x hx=>AB7 B4 O hx,
  fun w e=>((Az4 O O).eq (by
   have:=Nw.lab_eq haB hbB
   unfold conB
   by_cases h:(nwOf n o).root a'=(nwOf n o).root b'
   ·rw [decide_eq_true ⟨hc,h⟩,this.2 h];simp
   ·rw [decide_eq_false fun h'=>h h'.2]
    have h2:(nwOf n o).lab a'≠(nwOf n o).lab b':=fun e=>h (this.1 e)
    simp;omega)).ob,trivial⟩ ?_
 intro w3 e3 _ _ _ _
 refine .asg O O (.an O O (.ret ?_))
 exact .plain [_,_] Tryz.results79 ⟨rfl,rfl,trivial⟩ ⟨x2.trans e3,_,_,rfl,rfl,by rw [hc]⟩
end Go.Proofs.YtggegpiffjbngaaGreat
namespace Go.Kx
open Go Go.RowKit
def Nw.lmL (n:Nw) (l:List Nat):RM:=fun b c=>l.foldl (fun s k=>s+n.g k*(n.inc k b*n.inc k c)) 0
theorem Nw.lmL_snoc (n:Nw) (l:List Nat) (k b c:Nat):n.lmL (l++[k]) b c=n.lmL l b c+n.g k*(n.inc k b*n.inc k c):=by unfold Nw.lmL;rw [List.foldl_append];rfl
theorem Nw.lmL_free {n:Nw} {p:List Nat} (b c:Nat):∀ j,(∀ k,k<j->(n.g k=0<->k∈p))->n.lmL (freeTo p j) b c=sumN j fun k=>n.g k*(n.inc k b*n.inc k c)
 | 0,_=>rfl
 | j+1,h=>by
  have ih:=Nw.lmL_free (n:=n) (p:=p) b c j fun k hk=>h k (by omega)
  have hj:=h j (by omega)
  rw [Go.Proofs.YtggegpiffjbngaaGreat.L2]
  show _=sumN j _+_
  by_cases hg:n.g j=0
  ·rw [if_pos (hj.1 hg),List.append_nil,ih]
   dsimp only
   rw [hg,Rat.zero_mul,Rat.add_zero]
  ·rw [if_neg (fun h=>hg (hj.2 h)),Nw.lmL_snoc,ih]
def upE (f:RM) (i j:Nat) (y:Rat):RM:=fun b c=>if b=i then (if c=j then y else f i c) else f b c
theorem AM7 {f:RM} {i j b c:Nat} {y:Rat} (h:b≠i\/c≠j):upE f i j y b c=f b c:=by
 unfold upE
 by_cases hb:b=i
 ·subst hb
  rw [if_pos rfl,if_neg (by rcases h with h | h;exact absurd rfl h;exact h)]
 ·rw [if_neg hb]
theorem Nw.four (n:Nw) {k:Nat} (hne:n.F k≠n.T k) (f:RM) (b c:Nat) :
  upE (upE (upE (upE f (n.F k) (n.F k) (f (n.F k) (n.F k)+n.g k)) (n.F k) (n.T k) (f (n.F k) (n.T k)-n.g k)) (n.T k) (n.T k) (f (n.T k) (n.T k)+n.g k)) (n.T k) (n.F k) (f (n.T k) (n.F k)-n.g k) b c=f b c+n.g k*(n.inc k b*n.inc k c):=by
 unfold upE Nw.inc dl
 generalize n.F k=F at *
 generalize n.T k=T at *
 by_cases h1:b=F
 ·subst h1
  by_cases h2:c=b
  ·subst h2;simp [hne,Ne.symm hne];grind
  ·by_cases h3:c=T
   ·subst h3;simp [hne,Ne.symm hne];grind
   ·simp [hne,Ne.symm hne,h2,h3,Ne.symm h2,Ne.symm h3];grind
 ·by_cases h1':b=T
  ·subst h1'
   by_cases h2:c=b
   ·subst h2;simp [hne,Ne.symm hne];grind
   ·by_cases h3:c=F
    ·subst h3;simp [hne,Ne.symm hne];grind
    ·simp [hne,Ne.symm hne,h2,h3,Ne.symm h2,Ne.symm h3];grind
  ·simp [h1,h1',Ne.symm h1,Ne.symm h1'];grind
theorem rsz_tri {g:Rat} {s:Rat} {L:Nat} (h:Rsz g L) (hL:1<=L) (hs:s=0\/s=1\/s = -1):Rsz (g*s) L:=by
 rcases hs with rfl | rfl | rfl
 ·rw [Rat.mul_zero];exact Rsz.zero hL
 ·rw [Rat.mul_one];exact h
 ·rw [show g*(-1) = -g by grind];exact h.neg
theorem Nw.inc_tri (n:Nw) (k b:Nat):n.inc k b=0\/n.inc k b=1\/n.inc k b = -1:=by
 unfold Nw.inc dl
 split<;>split<;>grind
theorem Nw.lmL_rsz (n:Nw) {L:Nat} (hL:1<=L) (hg:∀ k,Rsz (n.g k) L) (b c:Nat) (l:List Nat):Rsz (n.lmL l b c) (1+l.length*(L+1)):=by
 have key:∀ (m:Nat) (l:List Nat),l.length=m->Rsz (n.lmL l b c) (1+m*(L+1)):=by
  intro m
  induction m with
  | zero=>intro l hl;rw [List.length_eq_zero_iff.1 hl];exact Rsz.zero (by omega)
  | succ m ih =>
   intro l hl
   obtain ⟨l',k,rfl⟩:∃ l' k,l=l'++[k]:=⟨l.dropLast,l.getLast (by intro e;rw [e] at hl;cases hl),(List.dropLast_concat_getLast _).symm⟩
   rw [Nw.lmL_snoc]
   have h1:=ih l' (by simp at hl;exact hl)
   have h2:Rsz (n.g k*(n.inc k b*n.inc k c)) L:=rsz_tri (hg k) hL (by
    rcases n.inc_tri k b with h | h | h<;>rcases n.inc_tri k c with h' | h' | h'<;>rw [h,h']<;>grind)
   refine (h1.add h2).mono ?_
   rw [Nat.add_mul];omega
 exact key _ l rfl
end Go.Kx
namespace Go.Proofs.YtggegpiffjbngaaGreat
open Go Go.Kx Go.RowKit
theorem nwOk.gsz {n:NtV} {o:List Int} (h:nwOk n o) (k:Nat):Rsz ((nwOf n o).g k) 1:=by
 show Rsz (if k∈oN o then (0:Rat) else ((n.ls.getD k ln0).x:Rat)⁻¹) 1
 have hx:1<=(n.ls.getD k ln0).x/\(n.ls.getD k ln0).x<=1000:=by
  rcases Nat.lt_or_ge k n.ls.length with hk | hk
  ·exact h.x k hk
  ·rw [List.getD_eq_getElem?_getD,List.getElem?_eq_none hk];decide
 split
 ·exact Rsz.zero (Nat.le_refl _)
 ·exact (Rsz.int _ (by omega) (Nat.le_refl _)).inv (Nat.le_refl _)
end Go.Proofs.YtggegpiffjbngaaGreat
namespace Go.Kx
open Go Go.RowKit
def Nw.gA (n:Nw):List (List QV):=tabM n.B n.B n.gm
def Nw.th (n:Nw) (b c:Nat):Rat:=rm (invM n.gA) c b
def Nw.hf (n:Nw) (k b:Nat):Rat:=n.fl (n.th b) k
end Go.Kx
namespace Go.Proofs.YtggegpiffjbngaaGreat
open Go Go.Kx Go.RowKit
section
variable {n:Nw}
theorem T8:n.gA.length=n.B:=A4 ..
theorem At3 (hB:1<=n.B):colsOf n.gA=n.B:=by unfold Nw.gA;rw [Ab1,if_neg (by omega)]
theorem rm_gA {i k:Nat} (hi:i<n.B) (hk:k<n.B):rm n.gA i k=n.gm i k:=by unfold Nw.gA;rw [Ac1,if_pos ⟨hi,hk⟩]
theorem BD6 (ok:n.Ok) (hB:1<=n.B):invertible n.gA:=by
 have hc:=At3 hB
 rw [BC7 (by rw [hc,T8]),T8]
 have h1:=Av6 n.gA
 rw [hc] at h1
 rcases Nat.eq_zero_or_pos (nullM n.gA).length with h0 | hp
 ·omega
 exfalso
 rw [AP7] at hp
 obtain ⟨hk,hkp⟩:=Av9 hp
 rw [hc] at hk
 have hz:=Nw.ker0 (θ:=nv (redF n.gA) (redP n.gA) ((freeC n.gA).getD 0 0)) ok (fun b hb=>by
  have h2:=Au8 (m:=n.gA) (k:=(freeC n.gA).getD 0 0) (by rw [hc];exact hk) b
  rw [hc] at h2
  have h3:=Nw.gm_sum ok (nv (redF n.gA) (redP n.gA) ((freeC n.gA).getD 0 0)) hb
  have h4:sumN n.B (fun c=>rm n.gA b c*nv (redF n.gA) (redP n.gA) ((freeC n.gA).getD 0 0) c)=sumN n.B (fun c=>n.gm b c*nv (redF n.gA) (redP n.gA) ((freeC n.gA).getD 0 0) c):=B1 fun c hc'=>by rw [rm_gA hb hc']
  rw [<-h4,h2] at h3
  split
  ·rw [if_pos (by assumption)] at h3;exact h3.symm
  ·rw [if_neg (by assumption)] at h3;exact h3.symm) _ hk
 rw [nv_self (not_piv hkp)] at hz
 exact absurd hz (by decide)
theorem Ar4 (ok:n.Ok) (hB:1<=n.B) {b i:Nat} (hb:b<n.B) (hi:i<n.B):(if n.root i=i then n.th b i else n.lap (n.th b) i)=dl i b:=by
 have h:=Av2 (BD6 ok hB) (i:=i) (k:=b) (by rw [T8];exact hi) (by rw [T8];exact hb)
 rw [T8] at h
 rw [<-Nw.gm_sum ok (n.th b) hi]
 have e:sumN n.B (fun c=>n.gm i c*n.th b c)=sumN n.B (fun j=>rm n.gA i j*rm (invM n.gA) j b):=B1 fun c hc=>by rw [rm_gA hi hc];rfl
 rw [e,h];rfl
end
theorem BD5 {n:NtV} {o:List Int} (h:nwOk n o):mk_ 21 (nwOf n o).gA:=Ac7 fun b c hb hc=>by
 unfold Nw.gm
 split
 ·unfold dl
  split
  ·exact rsz1 (by decide)
  ·exact Rsz.zero (by decide)
 ·unfold Nw.Lm
  rw [<-Nw.lmL_free (p:=oN o) b c _ fun k hk=>h.g0 hk]
  refine ((nwOf n o).lmL_rsz (Nat.le_refl _) h.gsz b c _).mono ?_
  have:=AN5 (oN o) (nwOf n o).M
  have:=h.m
  omega
theorem bd216:bd 21 6=87381:=by decide
theorem th_rsz {n:NtV} {o:List Int} (h:nwOk n o) (b c:Nat):Rsz ((nwOf n o).th b c) 87381:=by
 have:=As7 (n:=6) (BD5 h) (by decide) (by rw [T8];exact h.b6)
 rw [bd216] at this
 exact this.rsz (by decide) c b
theorem fl_rsz {n:NtV} {o:List Int} (h:nwOk n o) {θ:Nat->Rat} {L:Nat} (hθ:∀ c,Rsz (θ c) L) (k:Nat):Rsz ((nwOf n o).fl θ k) (2*L+2):=by
 unfold Nw.fl
 have h1:=(hθ ((nwOf n o).F k)).add (hθ ((nwOf n o).T k)).neg
 rw [<-Rat.sub_eq_add_neg] at h1
 exact ((h.gsz k).mul h1).mono (by omega)
theorem An4 {n:NtV} {o:List Int} (h:nwOk n o) (k b:Nat):Rsz ((nwOf n o).hf k b) 174764:=fl_rsz h (th_rsz h b) k
end Go.Proofs.YtggegpiffjbngaaGreat
namespace Go.Kx
open Go Go.RowKit
section
variable {n:Nw}
theorem Nw.th_root (ok:n.Ok) {b c:Nat} (hb:b<n.B) (hr:n.root b=b) (hc:c<n.B):n.th b c=if n.root c=b then 1 else 0:=by
 refine Nw.uniq (φ:=fun c=>if n.root c=b then 1 else 0) ok (fun i hi=>?_) c hc
 have h:=Go.Proofs.YtggegpiffjbngaaGreat.Ar4 ok (by omega) hb hi
 split
 ·rename_i hri
  rw [if_pos hri] at h
  rw [h,hri];rfl
 ·rename_i hri
  rw [if_neg hri] at h
  rw [h,AW7 (a:=i) (b:=b) (fun e=>hri (by rw [e];exact hr))]
  symm
  unfold Nw.lap Nw.off
  refine J3 fun k hk=>?_
  unfold Nw.fl
  by_cases hg:n.g k=0
  ·rw [hg];grind
  ·dsimp only
   rw [Nw.root_line hk hg];grind
theorem Nw.hf_root (ok:n.Ok) {k b:Nat} (hk:k<n.M) (hb:b<n.B) (hr:n.root b=b):n.hf k b=0:=by
 unfold Nw.hf Nw.fl
 rw [Nw.th_root ok hb hr (ok.f k hk),Nw.th_root ok hb hr (ok.t k hk)]
 by_cases hg:n.g k=0
 ·rw [hg,Rat.zero_mul]
 ·rw [Nw.root_line hk hg];grind
theorem Nw.lap_th (ok:n.Ok) {b i:Nat} (hb:b<n.B) (hi:i<n.B):n.lap (n.th b) i=dl i b-dl i (n.root b):=by
 have hB:1<=n.B:=by omega
 have hsum:=Nw.off_clo (f:=n.fl (n.th b)) ok (Nw.clo_root (n:=n) (n.root i)) fun k _ hg=>Nw.fl_out hg
 by_cases hr:n.root b=b
 ·rw [hr]
  have:n.lap (n.th b) i=0:=by
   unfold Nw.lap Nw.off
   refine J3 fun k hk=>?_
   rw [show n.fl (n.th b) k=n.hf k b from rfl,Nw.hf_root ok hk hb hr,Rat.mul_zero]
  rw [this];grind
 by_cases hri:n.root i=i
 ·rw [hri] at hsum
  have e:sumN n.B (fun c=>if n.root c=i then n.off (n.fl (n.th b)) c else 0)=sumN n.B (fun c=>(if c=i then n.lap (n.th b) i else 0)+(if n.root c=i then dl c b else 0)):=B1 fun c hc=>by
   have h:=Go.Proofs.YtggegpiffjbngaaGreat.Ar4 ok hB hb hc
   by_cases hci:c=i
   ·subst hci
    rw [if_pos hri,if_pos rfl,if_pos hri,AW7 (a:=c) (b:=b) (fun e=>hr (by rw [<-e];exact hri))]
    show n.lap (n.th b) c=_
    grind
   ·rw [if_neg hci]
    by_cases hrc:n.root c=i
    ·have hcn:n.root c≠c:=fun e=>hci (by rw [<-hrc];exact e.symm)
     rw [if_neg hcn] at h
     rw [if_pos hrc,if_pos hrc]
     show n.lap (n.th b) c=_
     rw [h];grind
    ·rw [if_neg hrc,if_neg hrc];grind
  rw [e,AU6,F4 (i:=i) (fun c _ hne=>if_neg hne),if_pos hi,if_pos rfl,F4 (i:=b) (fun c _ hne=>by rw [AW7 hne];split<;>rfl),if_pos hb,Ad6] at hsum
  have hib:i≠b:=fun e=>hr (e▸hri)
  rw [AW7 hib]
  by_cases hrb:n.root b=i
  ·rw [if_pos hrb] at hsum
   rw [hrb,Ad6];grind
  ·rw [if_neg hrb] at hsum
   rw [AW7 (Ne.symm hrb)];grind
 ·have h:=Go.Proofs.YtggegpiffjbngaaGreat.Ar4 ok hB hb hi
  rw [if_neg hri] at h
  rw [h,AW7 (a:=i) (b:=n.root b) (fun e=>hri (by rw [e];exact Nw.root_root b))]
  grind
end
end Go.Kx
namespace Go.Proofs.YtggegpiffjbngaaGreat
open Go Go.Kx Go.RowKit
theorem Ap7:Ent Tryz.prog 138:=A0 Tryz.func138 (by kernel_rfl) rfl
theorem An6 {S:Nat->Prop} {w:World} {n d:Int} (up:Up S w) (hn1 : -9223372036854775808<=n) (hn2:n<=9223372036854775807) (hd1 : -9223372036854775808<=d) (hd2:d<=9223372036854775807) (hd:d≠0) :
  CR Tryz.prog 138 #[.int .i64 n,.int .i64 d] w (Two (eQ.at S (qc (Rat.divInt n d))) (Is (.int .i64 0))):=by
 refine enter Tryz.func138 O Tryz.ntmps138 O ?_
 refine .sr (.alloc O D4 fun w1 b4 n1=>.an O O ?_)
 obtain ⟨e1,k4,hb4,hs1⟩:=n1
 have hS4:¬ Sx S w.heap.size w1.heap.size b4:=Sx.no (by omega) (by omega)
 have up1:Up (Sx S w.heap.size w1.heap.size) w1:=Sx.up up (Nat.le_refl _) e1.size
 refine .seq (.sr (.mv O O (.eqlF O O O hd (.nil (.condF O (.skip (.sr (.mv O O ?_))))))))
 refine .call _ O C5 O (C4 up1 hn1 hn2) fun v2 w2 e2 h2=>.mv O O ?_
 refine .call _ O C5 O (C4 (up1.ext e2.size) hd1 hd2) fun v3 w3 e3 h3=>?_
 refine .call _ O U6 O (AY9 (L:=2) (up1.ext (e2.trans e3).size) (Zv.of (ER.ext eZ h2 e3) (by omega)) (Zv.of h3 (by omega)) hd (by decide)) fun v5 w5 e5 h5=>?_
 have x5:=((e1.trans e2).trans e3).trans e5
 refine .storeA (E:=eQ) ty_Q O O (((k4.ext e2).ext e3).ext e5) O O h5 hS4 fun w6 k6 u6 h6=>.an O O (.ret ?_)
 exact .plain [_,_] Tryz.results138 ⟨⟨_,rfl,C6 (E:=eQ) ty_Q O O k6 h6⟩,rfl,trivial⟩ ⟨u6.below x5 (by omega),_,_,rfl,h6.out,rfl⟩
theorem Ak2:Ent Tryz.prog 114:=A0 Tryz.func114 (by kernel_rfl) rfl
theorem Af8 {S:Nat->Prop} {w:World} {v:Value} {z:ZV} (up:Up S w) (h:eZ.R S w v z) (hl:z.w.length<=1099511627776):CR Tryz.prog 114 #[v] w (eZ.at S (zc ((zval z).natAbs:Nat))):=by
 obtain ⟨s,rfl,hs⟩:=h
 refine enter Tryz.func114 O Tryz.ntmps114 O ?_
 refine .sr (.box O O fun w1 b1 n1=>.alloc O B6 fun w2 b2 n2=>.nil ?_)
 obtain ⟨e1,k1,hb1,hs1⟩:=n1
 obtain ⟨e2,k2,hb2,hs2⟩:=n2
 have k1:=k1.ext e2
 have hx:=e1.trans e2
 have hp:=(hs.par w2.heap.size).ext hx
 have upx:Up (Sx S w.heap.size w2.heap.size) w2:=Sx.up up (Nat.le_refl _) hx.size
 refine .sr (.fa D0 O O (.ld ty_W O O k1 O ?_))
 refine .call _ O B0 O (A9 hp) fun v3 w3 e3 h3=>?_
 refine .call _ O AM0 O (AT4 (upx.ext e3.size) h3 (Nat.le_trans (M4 _) hl)) fun v4 w4 e4 h4=>?_
 refine .call _ O F0 O (E7 (upx.ext (e3.trans e4).size) h4) fun v5 w5 e5 h5=>?_
 refine .storeA ty_Z O O (((k2.ext e3).ext e4).ext e5) O O h5 (Sx.no (by omega) (by omega)) fun w6 k6 u6 h6=>.nil (.ret ?_)
 refine .cell Tryz.results114 O ty_Z O O k6 h6 ⟨u6.below (((hx.trans e3).trans e4).trans e5) (by omega),?_⟩
 have:zc ((zval z).natAbs:Nat)=zc (sg false (val (trimL z.w))):=by
  rw [AM6];unfold zval sg;cases z.neg<;>simp
 rw [this]
 exact h6.out
def absR (r:Rat):Rat:=if r<0 then -r else r
theorem qc_abs (r:Rat):qc (absR r)=⟨zc (r.num.natAbs:Nat),(qc r).den⟩:=by
 unfold absR
 split
 ·rename_i h
  have:r.num<0:=by
   by_cases h1:r.num<0
   ·exact h1
   ·exact absurd h (Rat.not_lt.2 (Rat.num_nonneg.1 (by omega)))
  rw [BB1]
  congr 1
  congr 1
  omega
 ·rename_i h
  have:0<=r.num:=Rat.num_nonneg.2 (Rat.not_lt.1 h)
  unfold qc
  congr 1
  congr 1
  omega
theorem Aq0:Ent Tryz.prog 51:=A0 Tryz.func51 (by kernel_rfl) rfl
theorem Ao2 {S:Nat->Prop} {w:World} {va:Value} {a:QV} {L:Nat} (up:Up S w) (ha:eQ.R S w va a) (hk:qk L a) (hL:1<=L) (hL2:L<=100000000000) :
  CR Tryz.prog 51 #[va] w (eQ.at S (qc (absR (qval a)))):=by
 have hva:=shpA O ha
 refine enter Tryz.func51 O Tryz.ntmps51 O ?_
 refine .sr (.box O O fun w1 b1 n1=>.alloc O D4 fun w2 b2 n2=>.nil ?_)
 obtain ⟨e1,k1,hb1,hs1⟩:=n1
 obtain ⟨e2,k2,hb2,hs2⟩:=n2
 have x2:=e1.trans e2
 have k1:=k1.ext e2
 have hS2:¬ Sx S w.heap.size w2.heap.size b2:=Sx.no (by omega) (by omega)
 have up2:Up (Sx S w.heap.size w2.heap.size) w2:=Sx.up up (Nat.le_refl _) x2.size
 have ha2:=(ha.par w2.heap.size).ext x2
 have hout:∀ {W:World} {v:Value} {z:QV},eQ.R (Sx S w.heap.size w2.heap.size) W v z->eQ.R S W v z:=fun h=>h.out
 generalize hT:Sx S w.heap.size w2.heap.size=T at *
 refine .sr (.ldA ty_Q O O k1 (eQ.csz ha) ?_)
 rw [<-hva]
 refine .call _ O O1 O (N8 up2 ha2 hk.1 hL (by omega)) fun v3 w3 e3 h3=>.alloc O D4 fun w4 b3 n4=>?_
 obtain ⟨e4,k3,hb3,hs4⟩:=n4
 have hkc:qk L (qc (qval a)):=AF8 hk.2
 have h3l:=(ER.lt eQ h3).ext e4
 have hno:¬ (T b3/\b3<w3.heap.size):=fun h=>by have:=h.2;omega
 refine .storeA (E:=eQ) ty_Q O O k3 O O h3l hno fun w5 k3 u5 h5=>.nil ?_
 have h5:eQ.R T w5 v3 (qc (qval a)):=eQ.mono (fun k _ h=>h.1) h5
 clear h3 h3l
 obtain ⟨s,t,rfl,hn,hd⟩:=N0 h5
 replace k3:Blk w5 b3 54 #[.bool (qc (qval a)).num.neg,s,.bool (qc (qval a)).den.neg,t]:=k3
 have hs2':=x2.size
 have hs3':=e3.size
 have hs5':=u5.size
 have x4:=(x2.trans e3).trans e4
 have x5:Ext w w5:=u5.below x4 (by omega)
 have k2:=((k2.ext e3).ext e4).upd u5 (show b2≠b3 by omega)
 have up5:=up2.ext (show w2.heap.size<=w5.heap.size by omega)
 have hnum:zval (qc (qval a)).num=(qval a).num:=D9 _
 refine .seq ?_
 refine .par follows 6 [.inl _,.inl (.agg #[.bool (qc (qval a)).num.neg,s]),.inr (eZ.at T (zc ((qval a).num.natAbs:Nat))),.inl _,.inl (.agg #[.bool (qc (qval a)).den.neg,t]),.inr (eQ.at T (qc (absR (qval a))))] [[],[(6,0)],[(7,1)],[],[(9,3)],[(8,2),(10,4)]] (by kernel_rfl) ⟨
  fun w e=>(v_fa Q0 O).ob,fun w e=>(AA9 [.bool (qc (qval a)).num.neg,s] ty_Z O (k3.ext e) Ab4).ob,
  fun w e=>by
   have:=Af8 (up5.ext e.size) (ER.ext eZ hn e) (Nat.le_trans hkc.1.1 (by omega))
   rw [hnum] at this
   exact (A1 _ Ak2 O this).ob (A6 _ _ _),
  fun w e=>(v_fa P9 O).ob,fun w e=>(AA9 [.bool (qc (qval a)).den.neg,t] ty_Z O (k3.ext e) AJ3).ob,
  fun w e x hx=>by
   obtain ⟨sx,rfl,hsx⟩:=hx
   obtain ⟨st,hst,hsd⟩:=ER.ext eZ hd e
   have est:st=t:=by simpa using hst.symm
   subst est
   refine V7 (Ar0 [(0,.agg #[.bool (zc ((qval a).num.natAbs:Nat)).neg,sx]),(1,.agg #[.bool (qc (qval a)).den.neg,st])] O AO0) ?_ (A6 _ _ _)
   rw [qc_abs]
   exact ⟨sx,st,rfl,hsx,hsd⟩,trivial⟩ ?_
 rintro w6 e6 x-z hz
 refine .storeA (E:=eQ) ty_Q O O (k2.ext e6) O O hz hS2 fun w7 k7 u7 h7=>.nil (.ret ?_)
 exact .cell Tryz.results51 O ty_Q O O k7 h7 ⟨u7.below (x5.trans e6) (by omega),hout h7⟩
end Go.Proofs.YtggegpiffjbngaaGreat
namespace Go.Kx
open Go Go.RowKit
section
variable {n:Nw}
theorem sum_two {B a c:Nat} (ha:a<B) (hc:c<B) (D:Nat->Prop) [DecidablePred D]:sumN B (fun i=>if D i then dl i a-dl i c else 0)=(if D a then 1 else 0)-(if D c then 1 else 0):=by
 have e:sumN B (fun i=>if D i then dl i a-dl i c else 0)=sumN B (fun i=>(if D i then 1 else 0)*dl a i-(if D i then 1 else 0)*dl c i):=B1 fun i _=>by
  have h1:dl i a=dl a i:=by unfold dl;split<;>split<;>first | rfl | omega
  have h2:dl i c=dl c i:=by unfold dl;split<;>split<;>first | rfl | omega
  rw [h1,h2]
  split<;>grind
 rw [e,AB2,AU5 (fun i=>if D i then 1 else 0) ha,AU5 (fun i=>if D i then 1 else 0) hc]
end
theorem OwnL.one {α:Type} {E:ER α} {t:TypeId} {base:Nat} {X:Nat->Prop} {w w':World} {b:Nat} {e:Value} {x:α} (hn:New w w' b t e.cells) (hb:base<=w.heap.size) (hs:e.cells.size=E.sz) (hx:E.R (fun k=>X k/\k≠b) w' e x):OwnL E t base X w' (.slice (some ⟨b,0,none⟩) 1 1) [x]:=by
 obtain ⟨_,hk,hb',_⟩:=hn
 have hc:cellsOf [e]=e.cells.toList:=by simp [cellsOf]
 refine ⟨[e],⟨by rw [hc];simp [hs],.inr ⟨b,1,_,rfl,by omega,hk,Nat.le_refl _,by decide,by simp [hs],by rw [hc,List.take_of_length_le (by simp [hs])]⟩⟩,rfl,fun i e' x' he hx'=>?_⟩
 have hi:i=0:=by
  cases i with
  | zero=>rfl
  | succ i=>simp at he
 subst hi
 simp at he hx'
 subst he;subst hx'
 exact E.mono (fun k _ h=>⟨h.1,fun e=>h.2 (by simpa [Value.ownBlock] using e.symm)⟩) hx
section
variable {n:Nw}
def Nw.inj0 (n:Nw) (x:Nat->Rat) (b:Nat):Rat:=if n.root b=b then 0 else x b
def Nw.an (n:Nw) (x:Nat->Rat) (c:Nat):Rat:=sumN n.B fun b=>n.th b c*n.inj0 x b
def Nw.bl (n:Nw) (x:Nat->Rat) (b:Nat):Rat:=if n.root b=b then-sumN n.B (fun c=>if c≠b/\n.root c=b then x c else 0) else x b
end
theorem MB.new {t tq:TypeId} {S:Nat->Prop} {w w1 w2:World} {gb c b:Nat} {hs:List Nat} {M:List (List QV)} (h:MB t tq S w gb c hs M) (e:Ext w w1) (u:Upd w1 w2 b) (hb:w.heap.size<=b):MB t tq S w2 gb c hs M:=by
 have h1:=h.mono (S':=fun k=>S k/\k<w.heap.size) fun k hk hS=>⟨hS,hk⟩
 have hg:=h.out.lt
 have h2:=(h1.ext e).upd u (by omega) (fun hm=>by have:=h.lt hm;omega) fun hS=>by have:=hS.2;omega
 exact h2.mono fun k _ hS=>hS.1
theorem AJ5 {B i j:Nat} {f:RM} {y:Rat} (hi:i<B):(tabM B B f).set i ((tab B (f i)).set j (qc y))=tabM B B (upE f i j y):=by
 rw [Ab6,V5 hi]
 rfl
end Go.Kx
namespace Go.Proofs.YtggegpiffjbngaaGreat
open Go Go.Kx Go.RowKit
theorem AL6:Ent Tryz.prog 73:=A0 Tryz.func73 (by kernel_rfl) rfl
theorem AJ9 {S:Nat->Prop} {w:World} {vn vl vr:Value} {n:NtV} {o:List Int} (up:Up S w) (hn:eN.R S w vn n) (hl:eI.R S w vl (pInts (inL n o))) (hr:eI.R S w vr (pInts (nwOf n o).refs)) (ok:nwOk n o) :
  CR Tryz.prog 73 #[vn,vl,vr] w (eM.at S (tabM (nwOf n o).B (nwOf n o).B (nwOf n o).gm)):=by
 obtain ⟨s,rfl,hs,_⟩:=hn
 have hB6:=ok.b6
 have hM10:n.ls.length<=10:=ok.m
 have hll:=Z4 n o
 have hnb:=ok.b
 refine enter Tryz.func73 O Tryz.ntmps73 O ?_
 refine .sr (.box O O fun w1 b3 n1=>.an O O ?_)
 obtain ⟨e1,k3,hb3,hs1⟩:=n1
 rw [hnb] at k3
 generalize hnw:nwOf n o=nw at *
 generalize hB:nw.B=B at *
 refine .sr (.fa Q1 O O (.ld A7 O O k3 O (.fa Q1 O O (.ld A7 O O k3 O ?_))))
 refine .call _ rfl Ae5 O (AY7 (m:=[]) (L:=1) (up.ext e1.size) RL.nil (fun r hr=>by cases hr) (by decide) (by decide)) fun v2 w2 e2 h2=>.an O O ?_
 obtain ⟨gb,hs2,rfl,hgb,hge,hM⟩:=h2
 have hcB:cutN (B:Int)=B:=by unfold cutN;omega
 rw [hcB] at hM ⊢
 have hz:tabM B B (rm [])=tabM B B (nw.lmL []):=D6 fun i k _ _=>by unfold rm;rw [List.getD_nil,Ab9];rfl
 rw [hz] at hM
 have x2:=e1.trans e2
 have hw1:=e1.size
 have hsW:∀ {W:World},Below w1.heap.size w2 W->eLs.R (fun k=>S k/\k<w.heap.size) W s n.ls:=fun h=>eLs.keep (fun k c t f hk hh=>(h.block k (by have:=hk.2;omega)).trans hh) (ER.ext eLs (ER.lt eLs hs) x2)
 have hlW:∀ {W:World},Below w1.heap.size w2 W->eI.R (fun k=>S k/\k<w.heap.size) W vl (pInts (inL n o)):=fun h=>eI.keep (fun k c t f hk hh=>(h.block k (by have:=hk.2;omega)).trans hh) (ER.ext eI (ER.lt eI hl) x2)
 have hrW:∀ {W:World},Below w1.heap.size w2 W->eI.R (fun k=>S k/\k<w.heap.size) W vr (pInts nw.refs):=fun h=>eI.keep (fun k c t f hk hh=>(h.block k (by have:=hk.2;omega)).trans hh) (ER.ext eI (ER.lt eI hr) x2)
 have k3:=k3.ext e2
 have hk3:∀ {W:World},Below w1.heap.size w2 W->Blk W b3 24 #[.int .i64 (B:Nat),s]:=fun h=>(h.block b3 (by omega)).trans k3
 have hhl:hs2.length=B:=by rw [hM.len,A4]
 have hhg:∀ i,i<B->hs2[i]?=some (hs2.getD i 0):=fun i hi=>A8 (by omega)
 have hhm:∀ i,i<B->w1.heap.size<=hs2.getD i 0:=fun i hi=>hge _ (F9 (by omega))
 have hw2:=e2.size
 refine .mid (α:=Unit) (fun _=>[(2,vr),(3,.pointer (some ⟨b3,0,none⟩)),(7,.slice (some ⟨gb,0,none⟩) B B)]) (fun _ W=>Below w1.heap.size w2 W/\MB 32 54 S W gb B hs2 (tabM B B (nw.lmL (inL n o)))) ?_ ?_
 ·refine .sr (.mv O O (.lenR un_I O O (hlW (Below.refl _ _)) (.mv O O (.nil ?_))))
  rw [show (pInts (inL n o)).length=(inL n o).length by simp]
  refine .block (.loop (α:=Nat) (fun i=>[(2,vr),(3,.pointer (some ⟨b3,0,none⟩)),(7,.slice (some ⟨gb,0,none⟩) B B),(21,vl),(22,.int .i64 ((inL n o).length:Nat)),(23,.int .i64 (i:Nat))]) (fun i W=>Below w1.heap.size w2 W/\i<=(inL n o).length/\MB 32 54 S W gb B hs2 (tabM B B (nw.lmL ((inL n o).take i)))) (fun i=>(inL n o).length-i) 0 ?_ ?_ ?_)
  ·exact lkA rfl
  ·exact ⟨Below.refl _ _,Nat.zero_le _,hM⟩
  rintro i W ⟨hW,hi,hM⟩
  have hhk:∀ j,j<B->hs2.getD j 0<W.heap.size:=fun j hj=>hM.lt (F9 (by omega))
  refine .sr ?_
  rcases Nat.lt_or_ge i (inL n o).length with hlt | hge'
  rotate_left
  ·refine .lssF O O O (by omega) (.nil (.seq (.condF O (.exit ?_))))
   have:i=(inL n o).length:=by omega
   subst this
   rw [List.take_of_length_le (Nat.le_refl _)] at hM
   exact ⟨rfl,(),lkA rfl,hW,hM⟩
  obtain ⟨hgk,hkM,hko⟩:=AK7 hlt
  refine .lssT O O O (by omega) (.nil (.seq (.condT O (.skip (.seq (.block (.sr (.ixN (i:=i) un_I B4 O O (hlW hW) O hgk fun q hq=>.ldE (E:=eInt .i64) B4 O O hq fun e he=>.an O O ?_))))))))
  obtain ⟨rfl,_⟩:=he
  have htk:(inL n o).take (i+1)=(inL n o).take i++[(inL n o).getD i 0]:=by rw [List.take_add_one,A8 (z:=0) hlt];rfl
  have hgl:n.ls[(inL n o).getD i 0]?=some (n.ls.getD ((inL n o).getD i 0) ln0):=A8 hkM
  have hkM':(inL n o).getD i 0<(nwOf n o).M:=hkM
  have hFI:=ok.fI _ hkM'
  have hTI:=ok.tI _ hkM'
  have hFB:=ok.f _ hkM'
  have hTB:=ok.t _ hkM'
  have hne:=ok.ne _ hkM'
  have hx:=ok.x _ hkM'
  have hgs:=ok.gsz ((inL n o).getD i 0)
  have hgv:(nwOf n o).g ((inL n o).getD i 0)=Rat.divInt 1 (n.ls.getD ((inL n o).getD i 0) ln0).x:=by
   show (if (inL n o).getD i 0∈oN o then (0:Rat) else ((n.ls.getD ((inL n o).getD i 0) ln0).x:Rat)⁻¹)=_
   rw [if_neg hko,Rat.divInt_eq_div,Rat.div_def,show ((1:Int):Rat)=1 from rfl,Rat.one_mul]
  rw [hnw] at hFI hTI hFB hTB hne hgs hgv
  rw [hB] at hFB hTB
  have hfs:∀ b c,Rsz (nw.lmL ((inL n o).take i) b c) 30:=fun b c=>(nw.lmL_rsz (Nat.le_refl _) (fun k=>by rw [<-hnw];exact ok.gsz k) b c _).mono (by rw [List.length_take];omega)
  generalize hk:(inL n o).getD i 0=k at *
  generalize hf:nw.lmL ((inL n o).take i)=f at *
  generalize hln:n.ls.getD k ln0=ln at *
  refine .sr (.fa K8 O O (.ld Q8 O O (hk3 hW) O (.mv O O (.ixN (i:=k) O9 S2 O O (hsW hW) O hgl fun q hq=>.ldE (E:=eL) S2 O O hq fun vl' hvl=>.alloc O Ab2 fun W1 b10 n1'=>?_))))
  obtain ⟨f1,k10,hb10,hs1'⟩:=n1'
  refine .storeA (E:=eL) (S:=fun k=>k≠b10) (z:=ln) S2 O O k10 O O hvl (fun h=>h O) fun W2 k10 u2 hl2=>.nil ?_
  obtain ⟨rfl,_⟩:=hl2
  rw [hFI,hTI] at k10
  replace k10:Blk W2 b10 58 #[.int .i64 (nw.F k:Nat),.int .i64 (nw.T k:Nat),.int .i64 ln.x,.int .i64 ln.c]:=k10
  have hWs:=hW.size
  have hM:=hM.new f1 u2 (by omega)
  have hs2':=u2.size
  have hW2:Below w1.heap.size w2 W2:=u2.below (hW.trans (f1.mono (by omega))) (by omega)
  have upT:∀ {W':World},W2.heap.size<=W'.heap.size->Up (offM S gb hs2) W':=fun h k' hk'=>⟨up k' (by omega),by have:=hM.out.lt;omega,fun hm=>by have:=hM.lt hm;omega⟩
  refine .sr (.fa AT1 O O (.ld AB0 O O k10 O ?_))
  refine .call _ O Ap7 O (An6 (upT (Nat.le_refl _)) (by decide) (by decide) (by omega) (by omega) (by omega)) fun v3 W3 e3 h3=>?_
  obtain ⟨vp,ve,rfl,hp,rfl⟩:=h3
  rw [<-hgv] at hp
  refine .mv O O (.ext O O O (.ext O O O (.alloc O D4 fun W4 b11 n4=>?_)))
  obtain ⟨e4,k11,hb11,hs4⟩:=n4
  have hs3:=e3.size
  refine .storeA (E:=eQ) (S:=fun k=>offM S gb hs2 k/\k<W3.heap.size) ty_Q O O k11 O O (ER.ext eQ (ER.lt eQ hp) e4) (fun h=>by have:=h.2;omega) fun W5 k11 u5 hp5=>.an O O ?_
  have hp5:eQ.R (offM S gb hs2) W5 vp (qc (nw.g k)):=eQ.mono (fun _ _ h=>h.1) hp5
  have hvp:=shpA (E:=eQ) O hp5
  have hM:=hM.new (e3.trans e4) u5 (by omega)
  have hs5:=u5.size
  have hW5:Below w1.heap.size w2 W5:=u5.below (hW2.trans ((e3.trans e4).mono (by omega))) (by omega)
  have k10:=(k10.ext (e3.trans e4)).upd u5 (show b10≠b11 by omega)
  have hrow0:=hM.row (nw.F k) _ _ (hhg _ hFB) (D5 hFB)
  refine .seq ?_
  refine .par follows 18 [.inl (.slice (some ⟨gb,0,none⟩) B B),.inl (.pointer (some ⟨b10,0,none⟩)),.inl (.int .i64 (nw.F k:Nat)),.inl (.pointer (some ⟨gb,0+(nw.F k)*1,none⟩)),.inl (slB B (hs2.getD (nw.F k) 0)),.inl (.pointer (some ⟨b10,0,none⟩)),.inl (.int .i64 (nw.F k:Nat)),.inl (.slice (some ⟨gb,0,none⟩) B B),.inl (.pointer (some ⟨b10,0,none⟩)),.inl (.int .i64 (nw.F k:Nat)),.inl (.pointer (some ⟨gb,0+(nw.F k)*1,none⟩)),.inl (slB B (hs2.getD (nw.F k) 0)),.inl (.pointer (some ⟨b10,0,none⟩)),.inl (.int .i64 (nw.F k:Nat)),.inl (.pointer (some ⟨hs2.getD (nw.F k) 0,0+(nw.F k)*4,none⟩)),.inr (eQ.at (offM S gb hs2) (qc (f (nw.F k) (nw.F k)))),.inl vp,.inr (eQ.at (offM S gb hs2) (qc (f (nw.F k) (nw.F k)+nw.g k)))]
   [[],[],[(39,1)],[(38,0),(40,2)],[(41,3)],[],[(43,5)],[],[],[(46,8)],[(45,7),(47,9)],[(48,10)],[],[(50,12)],[(49,11),(51,13)],[(52,14)],[],[(53,15),(54,16)]] (by kernel_rfl) ⟨
   fun w e=>(v_mv O).ob,fun w e=>(v_fa K2 O).ob,fun w e=>(v_ld A7 O (k10.ext e) O).ob,fun w e=>(E6 (i:=nw.F k) un_M ty_V O O hFB).ob,fun w e=>(v_ld ty_V O (hM.out.ext e) (hM.cell (hhg _ hFB))).ob,fun w e=>(v_fa K2 O).ob,fun w e=>(v_ld A7 O (k10.ext e) O).ob,
   fun w e=>(v_mv O).ob,fun w e=>(v_fa K2 O).ob,fun w e=>(v_ld A7 O (k10.ext e) O).ob,fun w e=>(E6 (i:=nw.F k) un_M ty_V O O hFB).ob,fun w e=>(v_ld ty_V O (hM.out.ext e) (hM.cell (hhg _ hFB))).ob,fun w e=>(v_fa K2 O).ob,fun w e=>(v_ld A7 O (k10.ext e) O).ob,
   fun w e=>(E6 (i:=nw.F k) un_V ty_Q O O hFB).ob,
   fun w e=>(AB8 (E:=eQ) (i:=nw.F k) (by decide) ty_Q O (Nat.zero_add _) (hrow0.2.ext e) (by rw [I0 hFB])).mono fun v' w' h=>⟨h.1,fun w'' e'=>eQ.mono (fun _ _ h=>h.1) (h.2 w'' e')⟩,
   fun w e=>((B8 ty_Q O (k11.ext e) (eQ.csz hp5)).eq hvp.symm).ob,
   fun w e x hx=>by
    have:=AI2 (L:=30) (upT (by have:=e.size;omega)) hx (ER.ext eQ hp5 e) (hfs _ _).toOk (hgs.mono (by decide)).toOk (by decide) (by decide)
    rw [B9,B9] at this
    exact (A1 _ AI9 O this).ob (A6 _ _ _),trivial⟩ ?_
  intro X0 g0 _ _ y0 hy0
  refine .ixB (i:=nw.F k) un_V ty_Q O O O hFB (.storeF (E:=eQ) (i:=nw.F k) (by decide) ty_Q O O (hrow0.2.ext g0) O (by rw [A5];exact hFB) (Nat.zero_add _) (eQ.mono (fun k' _ h=>⟨h,fun e=>h.2.2 (e▸F9 (by omega))⟩) hy0) fun Y0 fy0 uy0=>.nil ?_)
  have hM:=(hM.ext g0).set (hhg _ hFB) (by rw [List.length_set,A5]) uy0 fy0
  rw [AJ5 hFB] at hM
  have sx0:=g0.size
  have sy0:=uy0.size
  have lw0:=hhm _ hFB
  have lk0:=hhk _ hFB
  have hW5:Below w1.heap.size w2 Y0:=uy0.below (hW5.trans (g0.mono (by omega))) lw0
  have k10:=(k10.ext g0).upd uy0 (by omega)
  have k11:=(k11.ext g0).upd uy0 (by omega)
  have hp5:=(ER.ext eQ hp5 g0).upd uy0 (fun h=>h.2.2 (F9 (by omega)))
  have hrow1:=hM.row (nw.F k) _ _ (hhg _ hFB) (D5 hFB)
  refine .seq ?_
  refine .par follows 18 [.inl (.slice (some ⟨gb,0,none⟩) B B),.inl (.pointer (some ⟨b10,0,none⟩)),.inl (.int .i64 (nw.F k:Nat)),.inl (.pointer (some ⟨gb,0+(nw.F k)*1,none⟩)),.inl (slB B (hs2.getD (nw.F k) 0)),.inl (.pointer (some ⟨b10,1,none⟩)),.inl (.int .i64 (nw.T k:Nat)),.inl (.slice (some ⟨gb,0,none⟩) B B),.inl (.pointer (some ⟨b10,0,none⟩)),.inl (.int .i64 (nw.F k:Nat)),.inl (.pointer (some ⟨gb,0+(nw.F k)*1,none⟩)),.inl (slB B (hs2.getD (nw.F k) 0)),.inl (.pointer (some ⟨b10,1,none⟩)),.inl (.int .i64 (nw.T k:Nat)),.inl (.pointer (some ⟨hs2.getD (nw.F k) 0,0+(nw.T k)*4,none⟩)),.inr (eQ.at (offM S gb hs2) (qc (f (nw.F k) (nw.T k)))),.inl vp,.inr (eQ.at (offM S gb hs2) (qc (f (nw.F k) (nw.T k)-nw.g k)))]
   [[],[],[(58,1)],[(57,0),(59,2)],[(60,3)],[],[(62,5)],[],[],[(65,8)],[(64,7),(66,9)],[(67,10)],[],[(69,12)],[(68,11),(70,13)],[(71,14)],[],[(72,15),(73,16)]] (by kernel_rfl) ⟨
   fun w e=>(v_mv O).ob,fun w e=>(v_fa K2 O).ob,fun w e=>(v_ld A7 O (k10.ext e) O).ob,fun w e=>(E6 (i:=nw.F k) un_M ty_V O O hFB).ob,fun w e=>(v_ld ty_V O (hM.out.ext e) (hM.cell (hhg _ hFB))).ob,fun w e=>(v_fa K1 O).ob,fun w e=>(v_ld A7 O (k10.ext e) O).ob,
   fun w e=>(v_mv O).ob,fun w e=>(v_fa K2 O).ob,fun w e=>(v_ld A7 O (k10.ext e) O).ob,fun w e=>(E6 (i:=nw.F k) un_M ty_V O O hFB).ob,fun w e=>(v_ld ty_V O (hM.out.ext e) (hM.cell (hhg _ hFB))).ob,fun w e=>(v_fa K1 O).ob,fun w e=>(v_ld A7 O (k10.ext e) O).ob,
   fun w e=>(E6 (i:=nw.T k) un_V ty_Q O O hTB).ob,
   fun w e=>(AB8 (E:=eQ) (i:=nw.T k) (by decide) ty_Q O (Nat.zero_add _) (hrow1.2.ext e) (by rw [I0 hTB,AM7 (.inr (Ne.symm hne))])).mono fun v' w' h=>⟨h.1,fun w'' e'=>eQ.mono (fun _ _ h=>h.1) (h.2 w'' e')⟩,
   fun w e=>((B8 ty_Q O (k11.ext e) (eQ.csz hp5)).eq hvp.symm).ob,
   fun w e x hx=>by
    have:=AI1 (L:=30) (upT (by have:=e.size;omega)) hx (ER.ext eQ hp5 e) (hfs _ _).toOk (hgs.mono (by decide)).toOk (by decide) (by decide)
    rw [B9,B9] at this
    exact (A1 _ AA1 O this).ob (A6 _ _ _),trivial⟩ ?_
  intro X1 g1 _ _ y1 hy1
  refine .ixB (i:=nw.T k) un_V ty_Q O O O hTB (.storeF (E:=eQ) (i:=nw.T k) (by decide) ty_Q O O (hrow1.2.ext g1) O (by rw [A5];exact hTB) (Nat.zero_add _) (eQ.mono (fun k' _ h=>⟨h,fun e=>h.2.2 (e▸F9 (by omega))⟩) hy1) fun Y1 fy1 uy1=>.nil ?_)
  have hM:=(hM.ext g1).set (hhg _ hFB) (by rw [List.length_set,A5]) uy1 fy1
  rw [AJ5 hFB] at hM
  have sx1:=g1.size
  have sy1:=uy1.size
  have lw1:=hhm _ hFB
  have lk1:=hhk _ hFB
  have hW5:Below w1.heap.size w2 Y1:=uy1.below (hW5.trans (g1.mono (by omega))) lw1
  have k10:=(k10.ext g1).upd uy1 (by omega)
  have k11:=(k11.ext g1).upd uy1 (by omega)
  have hp5:=(ER.ext eQ hp5 g1).upd uy1 (fun h=>h.2.2 (F9 (by omega)))
  have hrow2:=hM.row (nw.T k) _ _ (hhg _ hTB) (D5 hTB)
  refine .seq ?_
  refine .par follows 18 [.inl (.slice (some ⟨gb,0,none⟩) B B),.inl (.pointer (some ⟨b10,1,none⟩)),.inl (.int .i64 (nw.T k:Nat)),.inl (.pointer (some ⟨gb,0+(nw.T k)*1,none⟩)),.inl (slB B (hs2.getD (nw.T k) 0)),.inl (.pointer (some ⟨b10,1,none⟩)),.inl (.int .i64 (nw.T k:Nat)),.inl (.slice (some ⟨gb,0,none⟩) B B),.inl (.pointer (some ⟨b10,1,none⟩)),.inl (.int .i64 (nw.T k:Nat)),.inl (.pointer (some ⟨gb,0+(nw.T k)*1,none⟩)),.inl (slB B (hs2.getD (nw.T k) 0)),.inl (.pointer (some ⟨b10,1,none⟩)),.inl (.int .i64 (nw.T k:Nat)),.inl (.pointer (some ⟨hs2.getD (nw.T k) 0,0+(nw.T k)*4,none⟩)),.inr (eQ.at (offM S gb hs2) (qc (f (nw.T k) (nw.T k)))),.inl vp,.inr (eQ.at (offM S gb hs2) (qc (f (nw.T k) (nw.T k)+nw.g k)))]
   [[],[],[(77,1)],[(76,0),(78,2)],[(79,3)],[],[(81,5)],[],[],[(84,8)],[(83,7),(85,9)],[(86,10)],[],[(88,12)],[(87,11),(89,13)],[(90,14)],[],[(91,15),(92,16)]] (by kernel_rfl) ⟨
   fun w e=>(v_mv O).ob,fun w e=>(v_fa K1 O).ob,fun w e=>(v_ld A7 O (k10.ext e) O).ob,fun w e=>(E6 (i:=nw.T k) un_M ty_V O O hTB).ob,fun w e=>(v_ld ty_V O (hM.out.ext e) (hM.cell (hhg _ hTB))).ob,fun w e=>(v_fa K1 O).ob,fun w e=>(v_ld A7 O (k10.ext e) O).ob,
   fun w e=>(v_mv O).ob,fun w e=>(v_fa K1 O).ob,fun w e=>(v_ld A7 O (k10.ext e) O).ob,fun w e=>(E6 (i:=nw.T k) un_M ty_V O O hTB).ob,fun w e=>(v_ld ty_V O (hM.out.ext e) (hM.cell (hhg _ hTB))).ob,fun w e=>(v_fa K1 O).ob,fun w e=>(v_ld A7 O (k10.ext e) O).ob,
   fun w e=>(E6 (i:=nw.T k) un_V ty_Q O O hTB).ob,
   fun w e=>(AB8 (E:=eQ) (i:=nw.T k) (by decide) ty_Q O (Nat.zero_add _) (hrow2.2.ext e) (by rw [I0 hTB,AM7 (.inl (Ne.symm hne)),AM7 (.inl (Ne.symm hne))])).mono fun v' w' h=>⟨h.1,fun w'' e'=>eQ.mono (fun _ _ h=>h.1) (h.2 w'' e')⟩,
   fun w e=>((B8 ty_Q O (k11.ext e) (eQ.csz hp5)).eq hvp.symm).ob,
   fun w e x hx=>by
    have:=AI2 (L:=30) (upT (by have:=e.size;omega)) hx (ER.ext eQ hp5 e) (hfs _ _).toOk (hgs.mono (by decide)).toOk (by decide) (by decide)
    rw [B9,B9] at this
    exact (A1 _ AI9 O this).ob (A6 _ _ _),trivial⟩ ?_
  intro X2 g2 _ _ y2 hy2
  refine .ixB (i:=nw.T k) un_V ty_Q O O O hTB (.storeF (E:=eQ) (i:=nw.T k) (by decide) ty_Q O O (hrow2.2.ext g2) O (by rw [A5];exact hTB) (Nat.zero_add _) (eQ.mono (fun k' _ h=>⟨h,fun e=>h.2.2 (e▸F9 (by omega))⟩) hy2) fun Y2 fy2 uy2=>.nil ?_)
  have hM:=(hM.ext g2).set (hhg _ hTB) (by rw [List.length_set,A5]) uy2 fy2
  rw [AJ5 hTB] at hM
  have sx2:=g2.size
  have sy2:=uy2.size
  have lw2:=hhm _ hTB
  have lk2:=hhk _ hTB
  have hW5:Below w1.heap.size w2 Y2:=uy2.below (hW5.trans (g2.mono (by omega))) lw2
  have k10:=(k10.ext g2).upd uy2 (by omega)
  have k11:=(k11.ext g2).upd uy2 (by omega)
  have hp5:=(ER.ext eQ hp5 g2).upd uy2 (fun h=>h.2.2 (F9 (by omega)))
  have hrow3:=hM.row (nw.T k) _ _ (hhg _ hTB) (D5 hTB)
  refine .par follows 18 [.inl (.slice (some ⟨gb,0,none⟩) B B),.inl (.pointer (some ⟨b10,1,none⟩)),.inl (.int .i64 (nw.T k:Nat)),.inl (.pointer (some ⟨gb,0+(nw.T k)*1,none⟩)),.inl (slB B (hs2.getD (nw.T k) 0)),.inl (.pointer (some ⟨b10,0,none⟩)),.inl (.int .i64 (nw.F k:Nat)),.inl (.slice (some ⟨gb,0,none⟩) B B),.inl (.pointer (some ⟨b10,1,none⟩)),.inl (.int .i64 (nw.T k:Nat)),.inl (.pointer (some ⟨gb,0+(nw.T k)*1,none⟩)),.inl (slB B (hs2.getD (nw.T k) 0)),.inl (.pointer (some ⟨b10,0,none⟩)),.inl (.int .i64 (nw.F k:Nat)),.inl (.pointer (some ⟨hs2.getD (nw.T k) 0,0+(nw.F k)*4,none⟩)),.inr (eQ.at (offM S gb hs2) (qc (f (nw.T k) (nw.F k)))),.inl vp,.inr (eQ.at (offM S gb hs2) (qc (f (nw.T k) (nw.F k)-nw.g k)))]
   [[],[],[(96,1)],[(95,0),(97,2)],[(98,3)],[],[(100,5)],[],[],[(103,8)],[(102,7),(104,9)],[(105,10)],[],[(107,12)],[(106,11),(108,13)],[(109,14)],[],[(110,15),(111,16)]] (by kernel_rfl) ⟨
   fun w e=>(v_mv O).ob,fun w e=>(v_fa K1 O).ob,fun w e=>(v_ld A7 O (k10.ext e) O).ob,fun w e=>(E6 (i:=nw.T k) un_M ty_V O O hTB).ob,fun w e=>(v_ld ty_V O (hM.out.ext e) (hM.cell (hhg _ hTB))).ob,fun w e=>(v_fa K2 O).ob,fun w e=>(v_ld A7 O (k10.ext e) O).ob,
   fun w e=>(v_mv O).ob,fun w e=>(v_fa K1 O).ob,fun w e=>(v_ld A7 O (k10.ext e) O).ob,fun w e=>(E6 (i:=nw.T k) un_M ty_V O O hTB).ob,fun w e=>(v_ld ty_V O (hM.out.ext e) (hM.cell (hhg _ hTB))).ob,fun w e=>(v_fa K2 O).ob,fun w e=>(v_ld A7 O (k10.ext e) O).ob,
   fun w e=>(E6 (i:=nw.F k) un_V ty_Q O O hFB).ob,
   fun w e=>(AB8 (E:=eQ) (i:=nw.F k) (by decide) ty_Q O (Nat.zero_add _) (hrow3.2.ext e) (by rw [I0 hFB,AM7 (.inr hne),AM7 (.inl (Ne.symm hne)),AM7 (.inl (Ne.symm hne))])).mono fun v' w' h=>⟨h.1,fun w'' e'=>eQ.mono (fun _ _ h=>h.1) (h.2 w'' e')⟩,
   fun w e=>((B8 ty_Q O (k11.ext e) (eQ.csz hp5)).eq hvp.symm).ob,
   fun w e x hx=>by
    have:=AI1 (L:=30) (upT (by have:=e.size;omega)) hx (ER.ext eQ hp5 e) (hfs _ _).toOk (hgs.mono (by decide)).toOk (by decide) (by decide)
    rw [B9,B9] at this
    exact (A1 _ AA1 O this).ob (A6 _ _ _),trivial⟩ ?_
  intro X3 g3 _ _ y3 hy3
  refine .ixB (i:=nw.F k) un_V ty_Q O O O hFB (.storeF (E:=eQ) (i:=nw.F k) (by decide) ty_Q O O (hrow3.2.ext g3) O (by rw [A5];exact hFB) (Nat.zero_add _) (eQ.mono (fun k' _ h=>⟨h,fun e=>h.2.2 (e▸F9 (by omega))⟩) hy3) fun Y3 fy3 uy3=>.nil ?_)
  have hM:=(hM.ext g3).set (hhg _ hTB) (by rw [List.length_set,A5]) uy3 fy3
  rw [AJ5 hTB] at hM
  have sx3:=g3.size
  have sy3:=uy3.size
  have lw3:=hhm _ hTB
  have lk3:=hhk _ hTB
  have hW5:Below w1.heap.size w2 Y3:=uy3.below (hW5.trans (g3.mono (by omega))) lw3
  have k10:=(k10.ext g3).upd uy3 (by omega)
  have k11:=(k11.ext g3).upd uy3 (by omega)
  have hp5:=(ER.ext eQ hp5 g3).upd uy3 (fun h=>h.2.2 (F9 (by omega)))
  have hfin:tabM B B (upE (upE (upE (upE f (nw.F k) (nw.F k) (f (nw.F k) (nw.F k)+nw.g k)) (nw.F k) (nw.T k) (f (nw.F k) (nw.T k)-nw.g k)) (nw.T k) (nw.T k) (f (nw.T k) (nw.T k)+nw.g k)) (nw.T k) (nw.F k) (f (nw.T k) (nw.F k)-nw.g k))=tabM B B (nw.lmL ((inL n o).take (i+1))):=D6 fun b c _ _=>by
   rw [htk,Nw.lmL_snoc,hf]
   exact nw.four hne f b c
  rw [hfin] at hM
  refine .region (.add O O O (.mv O O (.nil ?_)))
  rw [wI (by omega)]
  exact ⟨rfl,i+1,lkA rfl,⟨hW5,hlt,hM⟩,by show (inL n o).length-(i+1)<(inL n o).length-i;omega⟩
 rintro _ W ⟨hW,hM⟩
 have hMs:FB eV 32 S W gb _:=hM.toFB (fun k hk=>up k (by have:=hge k hk;omega)) (by omega)
 have hWs:=hW.size
 have hgl:=hMs.lt
 refine .sr (.fa Q1 O O (.ld A7 O O (hk3 hW) O ?_))
 refine .call _ O AY1 O (AV2 (S:=fun k=>S k/\k≠gb) fun k hk=>⟨up k (by omega),by omega⟩) fun vu W1 f1 hu=>.an O O ?_
 rw [hcB] at hu
 have hW1:=hW.trans (f1.mono (by omega))
 have hf1:=f1.size
 generalize hF:(fun i=>fun b c=>if b∈nw.refs.take i then dl b c else nw.lmL (inL n o) b c:Nat->RM)=F
 have hF0:tabM B B (nw.lmL (inL n o))=tabM B B (F 0):=D6 fun b c _ _=>by rw [<-hF];simp
 rw [hF0] at hMs
 refine .seq (.sr (.mv O O (.lenR un_I O O (hrW hW1) (.mv O O (.nil ?_)))))
 rw [show (pInts nw.refs).length=nw.refs.length by simp]
 have hrl:nw.refs.length<=B:=by rw [<-hB];exact nw.cnt_le nw.B
 refine .block (.loop (α:=Nat) (fun i=>[(7,.slice (some ⟨gb,0,none⟩) B B),(13,vu),(118,vr),(119,.int .i64 (nw.refs.length:Nat)),(120,.int .i64 (i:Nat))]) (fun i W=>Below w1.heap.size w2 W/\i<=nw.refs.length/\eM.R (fun k=>S k/\k≠gb) W vu (tabM B B idn)/\FB eV 32 S W gb (tabM B B (F i))) (fun i=>nw.refs.length-i) 0 ?_ ?_ ?_)
 ·exact lkA rfl
 ·exact ⟨hW1,Nat.zero_le _,hu,hMs.ext f1⟩
 rintro i W ⟨hW,hi,hu,hMs⟩
 refine .sr ?_
 rcases Nat.lt_or_ge i nw.refs.length with hlt | hge'
 rotate_left
 ·refine .lssF O O O (by omega) (.nil (.seq (.condF O (.exit (.sr (.mv O O (.an O O (.ret ?_))))))))
  have:i=nw.refs.length:=by omega
  subst this
  refine .plain [_] Tryz.results73 ⟨rfl,trivial⟩ ⟨Below.trans x2 (hW.mono (by omega)),?_⟩
  have hfin:tabM B B (F nw.refs.length)=tabM B B nw.gm:=D6 fun b c hb _=>by
   rw [<-hF]
   dsimp only
   rw [List.take_of_length_le (Nat.le_refl _)]
   unfold Nw.gm
   by_cases hr:nw.root b=b
   ·rw [if_pos hr,if_pos (Nw.mem_refs.2 ⟨by omega,hr⟩)]
   ·rw [if_neg hr,if_neg fun h=>hr (Nw.mem_refs.1 h).2]
    unfold Nw.Lm
    rw [<-hnw]
    exact Nw.lmL_free (p:=oN o) b c _ fun k hk=>ok.g0 hk
  rw [hfin] at hMs
  have:=hMs.toR (hsz:=by decide) (c:=B) (up gb (by omega)) (by rw [A4];exact Nat.le_refl _) (by rw [A4];omega)
  rw [A4] at this
  exact this
 have hgr:(pInts nw.refs)[i]?=some ((nw.refs.getD i 0:Nat):Int):=by rw [List.getElem?_map,A8 (z:=0) hlt];rfl
 have hrB:nw.refs.getD i 0<B:=by rw [<-hB];exact (Nw.mem_refs.1 (F9 hlt)).1
 refine .lssT O O O (by omega) (.nil (.seq (.condT O (.skip (.seq (.block (.sr (.ixN (i:=i) un_I B4 O O (hrW hW) O hgr fun q hq=>.ldE (E:=eInt .i64) B4 O O hq fun e he=>.an O O ?_))))))))
 obtain ⟨rfl,_⟩:=he
 refine .region (.mv O O (.mv O O (.mv O O (.mv O O (.ixN (i:=nw.refs.getD i 0) un_M ty_V O O hu O (D5 hrB) fun q hq=>.ldE (E:=eV) ty_V O O hq fun vw hvw=>.ixB (i:=nw.refs.getD i 0) un_M ty_V O O O hrB ?_)))))
 refine .storeF (E:=eV) (i:=nw.refs.getD i 0) (by decide) ty_V O O hMs O (by rw [A4];exact hrB) (Nat.zero_add _) hvw fun W2 f2 u2=>.nil ?_
 rw [V5 hrB] at f2
 have hstep:tabM B B (fun j k=>if j=nw.refs.getD i 0 then idn (nw.refs.getD i 0) k else F i j k)=tabM B B (F (i+1)):=D6 fun b c _ _=>by
  rw [<-hF]
  dsimp only
  rw [show nw.refs.take (i+1)=nw.refs.take i++[nw.refs.getD i 0] by rw [List.take_add_one,A8 (z:=0) hlt];rfl]
  by_cases e:b=nw.refs.getD i 0
  ·rw [if_pos e,if_pos (by rw [e];simp),e];rfl
  ·rw [if_neg e]
   by_cases h:b∈nw.refs.take i
   ·rw [if_pos h,if_pos (List.mem_append.2 (.inl h))]
   ·rw [if_neg h,if_neg fun h'=>by
     rcases List.mem_append.1 h' with h' | h'
     ·exact h h'
     ·exact e (List.mem_singleton.1 h')]
 rw [hstep] at f2
 refine .region (.add O O O (.mv O O (.nil ?_)))
 rw [wI (by omega)]
 exact ⟨rfl,i+1,lkA rfl,⟨u2.below hW hgb,hlt,ER.upd eM hu u2 (fun h=>h.2 O),f2⟩,by show nw.refs.length-(i+1)<nw.refs.length-i;omega⟩
end Go.Proofs.YtggegpiffjbngaaGreat
namespace Go.Kx
open Go Go.RowKit
theorem FB.new {α:Type} {E:ER α} {t:TypeId} {S:Nat->Prop} {w w1 w2:World} {g b:Nat} {l:List α} (h:FB E t S w g l) (e:Ext w w1) (u:Upd w1 w2 b) (hb:w.heap.size<=b):FB E t S w2 g l:=by
 have h1:=h.mono (S':=fun k=>S k/\k<w.heap.size) fun k hk hS=>⟨hS,hk⟩
 have hg:=h.lt
 have h2:=(h1.ext e).upd u (by omega) fun hS=>by have:=hS.2;omega
 exact h2.mono fun k _ hS=>hS.1
theorem BA2 (n:Nat):tab n (fun _=>0)=List.replicate n q0:=by
 unfold tab
 simp [AK3,List.map_const']
end Go.Kx
namespace Go.Proofs.YtggegpiffjbngaaGreat
open Go Go.Kx Go.RowKit
theorem g_on {n:NtV} {o:List Int} {k:Nat} (hko:k∉oN o):(nwOf n o).g k=((n.ls.getD k ln0).x:Rat)⁻¹:=by
 show (if k∈oN o then (0:Rat) else ((n.ls.getD k ln0).x:Rat)⁻¹)=_
 rw [if_neg hko]
theorem Z1 {n:NtV} {o:List Int} {k:Nat}:k∈inL n o<->k<n.ls.length/\k∉oN o:=by
 unfold inL freeTo
 rw [List.mem_filter,List.mem_range]
 simp
theorem fl_tab {n:NtV} {o:List Int} (ok:nwOk n o) (θ:Nat->Rat):tab n.ls.length (fun k=>if k∈inL n o then (nwOf n o).fl θ k else 0)=tab n.ls.length ((nwOf n o).fl θ):=L0 fun k hk=>by
 by_cases h:k∈inL n o
 ·rw [if_pos h]
 ·rw [if_neg h,Nw.fl_out ((ok.g0 hk).2 (Classical.byContradiction fun h'=>h (Z1.2 ⟨hk,h'⟩)))]
theorem BA0 {l:List Nat} {M i:Nat} {f:Nat->Rat} (hi:i<l.length):(tab M fun k=>if k∈l.take i then f k else 0).set (l.getD i 0) (qc (f (l.getD i 0)))=tab M fun k=>if k∈l.take (i+1) then f k else 0:=by
 rw [Ab6]
 refine L0 fun k _=>?_
 rw [show l.take (i+1)=l.take i++[l.getD i 0] by rw [List.take_add_one,A8 (z:=0) hi];rfl]
 by_cases e:k=l.getD i 0
 ·rw [if_pos e,if_pos (by rw [e];simp),e]
 ·rw [if_neg e]
  by_cases h:k∈l.take i
  ·rw [if_pos h,if_pos (List.mem_append.2 (.inl h))]
  ·rw [if_neg h,if_neg fun h'=>by
    rcases List.mem_append.1 h' with h' | h'
    ·exact h h'
    ·exact e (List.mem_singleton.1 h')]
theorem E_col:Ent Tryz.prog 74:=A0 Tryz.func74 (by kernel_rfl) rfl
theorem col_t {S T0:Nat->Prop} {w:World} {s vl vi x:Value} {n:NtV} {o:List Int} {m:List (List QV)} {L b b2 b6 b9:Nat} (up:Up S w) (upo:Up T0 w) (ok:nwOk n o) (k2:Blk w b2 24 #[x,s]) (hs:eLs.R S w s n.ls) (k6:Blk w b6 25 #[vl]) (hl:eI.R S w vl (pInts (inL n o)))
  (k9:Blk w b9 28 #[vi]) (hi:eM.R S w vi m) (hk:mk_ L m) (hL:1<=L) (hL2:L<=1000000000) :
  CR Tryz.prog 74 #[.int .i64 (b:Nat),.pointer (some ⟨b2,0,none⟩),.pointer (some ⟨b6,0,none⟩),.pointer (some ⟨b9,0,none⟩)] w (eV.at T0 (tab n.ls.length ((nwOf n o).fl fun c=>rm m c b))):=by
 have hM10:n.ls.length<=10:=ok.m
 have hll:=Z4 n o
 generalize hθ:(fun c=>rm m c b)=θ
 refine enter Tryz.func74 O Tryz.ntmps74 O ?_
 refine .sr (.an O O (.sr (.fa K8 O O (.ld Q8 O O k2 O (.lenR O9 O O hs ?_)))))
 refine .make_ _ _ un_V Z3 O (by decide) O O O (Nat.le_refl _) (by omega) (by omega) fun w1 h n1=>.an O O ?_
 have f1:FB eQ 54 T0 w1 h (List.replicate n.ls.length q0):=FB.made n1 zq_R
 obtain ⟨e1,_,hh,hs1⟩:=n1
 rw [<-BA2] at f1
 have hlW:∀ {W:World},Ext w W->eI.R S W vl (pInts (inL n o)):=fun e=>ER.ext eI hl e
 refine .seq (.sr (.ld ty_I O O (k6.ext e1) O (.lenR un_I O O (hlW e1) (.mv O O (.nil ?_)))))
 rw [show (pInts (inL n o)).length=(inL n o).length by simp]
 refine .block (.loop (α:=Nat) (fun i=>[(0,.int .i64 (b:Nat)),(1,.pointer (some ⟨b2,0,none⟩)),(2,.pointer (some ⟨b6,0,none⟩)),(3,.pointer (some ⟨b9,0,none⟩)),(6,slB n.ls.length h),(15,vl),(16,.int .i64 ((inL n o).length:Nat)),(17,.int .i64 (i:Nat))]) (fun i W=>Ext w W/\i<=(inL n o).length/\FB eQ 54 T0 W h (tab n.ls.length fun k=>if k∈(inL n o).take i then (nwOf n o).fl θ k else 0)) (fun i=>(inL n o).length-i) 0 ?_ ?_ ?_)
 ·exact lkA rfl
 ·exact ⟨e1,Nat.zero_le _,by simpa using f1⟩
 rintro i W ⟨hW,hi',fb⟩
 have hWs:=hW.size
 have hhl:=fb.lt
 refine .sr ?_
 rcases Nat.lt_or_ge i (inL n o).length with hlt | hge
 rotate_left
 ·refine .lssF O O O (by omega) (.nil (.seq (.condF O (.exit (.sr (.mv O O (.an O O (.ret ?_))))))))
  have:i=(inL n o).length:=by omega
  subst this
  rw [List.take_of_length_le (Nat.le_refl _),fl_tab ok] at fb
  refine .plain [_] Tryz.results74 ⟨rfl,trivial⟩ ⟨hW,?_⟩
  have:=fb.toR (hsz:=by decide) (c:=n.ls.length) (upo h (by omega)) (by rw [A5];exact Nat.le_refl _) (by rw [A5];omega)
  rw [A5] at this
  exact this
 obtain ⟨hgk,hkM,hko⟩:=AK7 hlt
 refine .lssT O O O (by omega) (.nil (.seq (.condT O (.skip (.seq (.block (.sr (.ixN (i:=i) un_I B4 O O (hlW hW) O hgk fun q hq=>.ldE (E:=eInt .i64) B4 O O hq fun e he=>.an O O ?_))))))))
 obtain ⟨rfl,_⟩:=he
 have hset:=BA0 (M:=n.ls.length) (f:=(nwOf n o).fl θ) hlt
 have hgl:n.ls[(inL n o).getD i 0]?=some (n.ls.getD ((inL n o).getD i 0) ln0):=A8 hkM
 have hFI:=ok.fI _ hkM
 have hTI:=ok.tI _ hkM
 have hx:=ok.x _ hkM
 have hgv:=g_on (n:=n) hko
 generalize hkk:(inL n o).getD i 0=k at hset hgl hFI hTI hx hgv hkM
 generalize hln:n.ls.getD k ln0=ln at hgl hFI hTI hx hgv
 refine .sr (.fa K8 O O (.ld Q8 O O (k2.ext hW) O (.mv O O (.ixN (i:=k) O9 S2 O O (hs.ext hW) O hgl fun q hq=>.ldE (E:=eL) S2 O O hq fun vl' hvl=>.alloc O Ab2 fun W1 c9 n1'=>?_))))
 obtain ⟨g1,k9',hc9,hs1'⟩:=n1'
 refine .storeA (E:=eL) (S:=fun k=>k≠c9) (z:=ln) S2 O O k9' O O hvl (fun h=>h O) fun W2 k9' u2 hl2=>.nil ?_
 obtain ⟨rfl,_⟩:=hl2
 rw [hFI,hTI] at k9'
 replace k9':Blk W2 c9 58 #[.int .i64 ((nwOf n o).F k:Nat),.int .i64 ((nwOf n o).T k:Nat),.int .i64 ln.x,.int .i64 ln.c]:=k9'
 have x2:Ext W W2:=u2.below g1 (by omega)
 have hs2:=u2.size
 have fb:=fb.new g1 u2 (by omega)
 have hW2:=hW.trans x2
 have upO:∀ {W':World},W2.heap.size<=W'.heap.size->Up (fun k=>T0 k/\k≠h) W':=fun hs k' hk'=>⟨upo k' (by omega),by omega⟩
 have upT:∀ {W':World},W2.heap.size<=W'.heap.size->Up (fun k=>S k/\k≠h) W':=fun hs k' hk'=>⟨up k' (by omega),by omega⟩
 have hmi:∀ {W':World},Ext W2 W'->eM.R (fun k=>S k/\k≠h) W' vi m:=fun e=>ER.ext eM (eM.mono (fun k' _ hk'=>⟨hk'.1,by have:=hk'.2;omega⟩) (ER.ext eM (ER.lt eM hi) hW2)) e
 have hat:∀ c:Nat,rmI m c b=θ c:=fun c=>by rw [AS8,<-hθ]
 have hrz:∀ c,Rsz (θ c) L:=fun c=>by rw [<-hθ];exact hk.rsz hL c b
 refine .seq ?_
 refine .par follows 12 [.inl vi,.inl (.pointer (some ⟨c9,0,none⟩)),.inl (.int .i64 ((nwOf n o).F k:Nat)),.inl (.int .i64 (b:Nat)),.inr (eQ.at (fun k=>S k/\k≠h) (qc (θ ((nwOf n o).F k)))),.inl vi,.inl (.pointer (some ⟨c9,1,none⟩)),.inl (.int .i64 ((nwOf n o).T k:Nat)),.inl (.int .i64 (b:Nat)),.inr (eQ.at (fun k=>S k/\k≠h) (qc (θ ((nwOf n o).T k)))),.inr (eQ.at (fun k=>S k/\k≠h) (qc (θ ((nwOf n o).F k)-θ ((nwOf n o).T k)))),.inr (NewP W2.heap.size 54 zq.cells)]
  [[],[],[(27,1)],[],[(26,0),(28,2),(29,3)],[],[],[(32,6)],[],[(31,5),(33,7),(34,8)],[(30,4),(35,9)],[]] (by kernel_rfl) ⟨
  fun w e=>(v_ld ty_M O ((k9.ext hW2).ext e) O).ob,fun w e=>(v_fa K2 O).ob,fun w e=>(v_ld A7 O (k9'.ext e) O).ob,fun w e=>(v_mv O).ob,
  fun w e=>by
   have:=AC0 (i:=((nwOf n o).F k:Nat)) (k:=(b:Nat)) (upT e.size) (hmi e) hk hL (by omega)
   rw [hat] at this
   exact (A1 _ AD1 O this).ob (A6 _ _ _),
  fun w e=>(v_ld ty_M O ((k9.ext hW2).ext e) O).ob,fun w e=>(v_fa K1 O).ob,fun w e=>(v_ld A7 O (k9'.ext e) O).ob,fun w e=>(v_mv O).ob,
  fun w e=>by
   have:=AC0 (i:=((nwOf n o).T k:Nat)) (k:=(b:Nat)) (upT e.size) (hmi e) hk hL (by omega)
   rw [hat] at this
   exact (A1 _ AD1 O this).ob (A6 _ _ _),
  fun w e x hx y hy=>by
   have:=AI1 (L:=L) (upT e.size) hx hy (hrz _).toOk (hrz _).toOk hL (by omega)
   rw [B9,B9] at this
   exact (A1 _ AA1 O this).ob (A6 _ _ _),
  fun w e=>AU9 D4 e.size,trivial⟩ ?_
 rintro W3 g3 _ _ _ _ y10 hy10 _ ⟨c10,rfl,hc10,k10⟩
 have hy10':=BE2 hy10 k10 AZ3
 refine .storeA (E:=eQ) ty_Q O O k10 O O hy10' (fun h=>h.2 O) fun W4 k10 u4 hy=>.nil ?_
 have hs3:=g3.size
 have hs4:=u4.size
 have x4:Ext W2 W4:=u4.below g3 hc10
 have hy:eQ.R (fun k=>S k/\k≠h) W4 y10 _:=eQ.mono (fun _ _ h=>h.1) hy
 have hyv:=shpA (E:=eQ) O hy
 have fb:=fb.new g3 u4 hc10
 have hd:Rsz (θ ((nwOf n o).F k)-θ ((nwOf n o).T k)) (L+L+1):=by
  rw [Rat.sub_eq_add_neg]
  exact (hrz _).add (hrz _).neg
 have hx0:((ln.x:Int):Rat)≠0:=fun e=>by
  have:ln.x=0:=by exact_mod_cast e
  omega
 have hflv:(θ ((nwOf n o).F k)-θ ((nwOf n o).T k)) / ((ln.x:Int):Rat)=(nwOf n o).fl θ k:=by
  unfold Nw.fl
  rw [hgv,Rat.div_def,Rat.mul_comm]
 have hr1:Rsz ((ln.x:Int):Rat) (L+L+1):=Rsz.int _ (Nat.lt_of_lt_of_le (by omega:ln.x.natAbs<4294967296 ^ 1) (Nat.pow_le_pow_right (by decide) (by omega))) (by omega)
 refine .parL follows 10 [9] [.inl (slB n.ls.length h),.inl (.int .i64 (k:Nat)),.inl y10,.inl (.pointer (some ⟨c9,2,none⟩)),.inl (.int .i64 ln.x),.inr (eQ.at (fun k=>S k/\k≠h) (qc ((ln.x:Int):Rat))),.inr (Two (eQ.at (fun k=>T0 k/\k≠h) (qc ((nwOf n o).fl θ k))) (Is (.int .i64 0))),.inr (Two (eQ.at (fun k=>T0 k/\k≠h) (qc ((nwOf n o).fl θ k))) (Is (.int .i64 0))),.inr (eQ.at (fun k=>T0 k/\k≠h) (qc ((nwOf n o).fl θ k))),.inl (.int .i64 0)]
  [[],[],[],[],[(41,3)],[(42,4)],[(40,2),(43,5)],[(44,6)],[(37,7)],[(37,7)]] (by kernel_rfl) ⟨
  fun w e=>(v_mv O).ob,fun w e=>(v_mv O).ob,fun w e=>((B8 ty_Q O (k10.ext e) (eQ.csz hy)).eq hyv.symm).ob,fun w e=>(v_fa AT1 O).ob,fun w e=>(v_ld AB0 O ((k9'.ext x4).ext e) O).ob,
  fun w e=>(A1 _ H6 O (H5 (upT (by have:=e.size;omega)) (by omega) (by omega))).ob (A6 _ _ _),
  fun w e x hx=>by
   have:=AW2 (L:=L+L+1) (upT (by have:=e.size;omega)) (upO (by have:=e.size;omega)) (ER.ext eQ hy e) hx hd.toOk hr1.toOk (by omega) (by omega) (by rw [B9];exact hx0)
   rw [B9,B9,hflv] at this
   exact (A1 _ AY3 O this).ob (AH6 (A6 _ _ _) (AO7 _)),
  fun w e x hx=>V7 (v_mv O) hx (AH6 (A6 _ _ _) (AO7 _)),
  fun w e x hx=>by
   obtain ⟨a,b,rfl,ha,hb⟩:=hx
   exact V7 (v_ex O O) ha (A6 _ _ _),
  fun w e x hx=>by
   obtain ⟨a,b,rfl,ha,hb⟩:=hx
   exact ((v_ex O O).eq hb).ob,trivial⟩ ?_
 intro W5 g5 _ _ _ _ _ _ y8 hy8
 refine .ixB (i:=k) un_V ty_Q O O O hkM (.storeF (E:=eQ) (i:=k) (by decide) ty_Q O O (fb.ext g5) O (by rw [A5];exact hkM) (Nat.zero_add _) hy8 fun W6 f6 u6=>.nil ?_)
 rw [hset] at f6
 refine .region (.add O O O (.mv O O (.nil ?_)))
 rw [wI (by omega)]
 exact ⟨rfl,i+1,lkA rfl,⟨u6.below ((hW2.trans x4).trans g5) (by omega),hlt,f6⟩,by show (inL n o).length-(i+1)<(inL n o).length-i;omega⟩
end Go.Proofs.YtggegpiffjbngaaGreat
namespace Go.Kx
open Go Go.RowKit
section
variable {P:Program} {σ:Env} {w:World} {ty:TypeId} {pos:String} {af:Array Edge}
end
theorem As0 {α:Type} {E:ER α} {hsz:0<E.sz} {S:Nat->Prop} {w:World} {v:Value} {l:List α} {i:Nat} {q:α} (h:(RL E hsz).R S w v l) (hq:l[i]?=some q):∃ ad c e,v=.slice (some ad) l.length c/\∀ W',Below w.heap.size w W'->PtrX W' (ad.add (i*E.sz)) e/\E.R (fun k=>S k/\k<w.heap.size) W' e q:=by
 obtain ⟨es,hE⟩:=RL.toEs h
 have hil:=(List.getElem?_eq_some_iff.1 hq).1
 obtain ⟨e,he⟩:∃ e,es[i]?=some e:=⟨_,List.getElem?_eq_getElem (by rw [hE.1.1];exact hil)⟩
 obtain ⟨ad,c,hv,hp⟩:=hE.at_ he
 have hr:=hE.1.2 i e q he hq
 refine ⟨ad,c,e,hv,fun W' hB=>⟨fun j u hu=>?_,E.keep (fun k c t f hk h=>(hB.block k hk.2).trans h) (ER.lt E hr)⟩⟩
 have h1:=hp j u hu
 have hl:=AL3 h1
 rw [AF0 (hB.block _ hl)]
 exact h1
theorem set_mid {α:Type} (l r:List α) (v x:α):(l++v::r).set l.length x=l++x::r:=by
 rw [List.set_append_right _ _ (Nat.le_refl _),Nat.sub_self,List.set_cons_zero]
theorem get_mid {α:Type} (l r:List α) (v:α):(l++v::r)[l.length]?=some v:=by
 rw [List.getElem?_append_right (Nat.le_refl _),Nat.sub_self];rfl
end Go.Kx
namespace Go.Proofs.YtggegpiffjbngaaGreat
open Go Go.Kx Go.RowKit
theorem Ak5:Ent Tryz.prog 78:=A0 Tryz.func78 (by kernel_rfl) rfl
theorem Ag4 {S:Nat->Prop} {w:World} {vc:Value} {B M:Nat} {g:RM} (up:Up S w) (hc:eM.R S w vc (tabM B M g)) (hB:B<=1000) (hM:M<=1000) :
  CR Tryz.prog 78 #[vc,.int .i64 (M:Nat)] w (eM.at S (tabM M B fun i c=>g c i)):=by
 have hcW:∀ {W:World},Below w.heap.size w W->eM.R (fun k=>S k/\k<w.heap.size) W vc (tabM B M g):=fun h=>eM.keep (fun k c t f hk hh=>(h.block k hk.2).trans hh) (ER.lt eM hc)
 refine enter Tryz.func78 O Tryz.ntmps78 O ?_
 refine .sr (.an O O (.sr (.mv O O ?_)))
 refine .make_ M M un_M Ad2 O (by decide) O O O (Nat.le_refl _) (by omega) (by omega) fun w1 gb n1=>.an O O ?_
 obtain ⟨e1,k1,hgb,hs1⟩:=n1
 generalize hF:(fun i=>tab B fun c=>g c i)=F
 refine .seq (.sr (.mv O O (.len un_M O O (.mv O O (.nil ?_)))))
 refine .block (.loop (α:=List Value) (fun rs=>[(0,vc),(5,.slice (some ⟨gb,0,none⟩) M M),(12,.int .i64 (M:Nat)),(13,.int .i64 (rs.length:Nat))]) (fun rs W=>Below w.heap.size w W/\rs.length<=M/\Blk W gb 32 (cellsOf (rs++List.replicate (M-rs.length) nilV)).toArray/\Els eV (fun k=>S k/\k≠gb) W rs ((List.range rs.length).map F)) (fun rs=>M-rs.length) [] ?_ ?_ ?_)
 ·exact lkA rfl
 ·exact ⟨e1,Nat.zero_le _,k1,Els.nil⟩
 rintro rs W ⟨hW,hi,hO,hels⟩
 have hWs:=hW.size
 have hgl:=hO.lt
 refine .sr ?_
 rcases Nat.lt_or_ge rs.length M with hlt | hge
 rotate_left
 ·refine .lssF O O O (by omega) (.nil (.seq (.condF O (.exit (.sr (.mv O O (.an O O (.ret ?_))))))))
  have hl:rs.length=M:=by omega
  rw [hl,Nat.sub_self,List.replicate_zero,List.append_nil] at hO
  rw [hl] at hels
  refine .plain [_] Tryz.results78 ⟨rfl,trivial⟩ ⟨hW,?_⟩
  have hfb:FB eV 32 S W gb (tabM M B fun i c=>g c i):=⟨rs,hO,by unfold tabM;rw [hF];exact hels⟩
  have:=hfb.toR (hsz:=by decide) (c:=M) (up gb (by omega)) (by rw [A4];exact Nat.le_refl _) (by rw [A4];omega)
  rw [A4] at this
  exact this
 have hrep:rs++List.replicate (M-rs.length) nilV=rs++nilV::List.replicate (M-(rs.length+1)) nilV:=by rw [show M-rs.length=M-(rs.length+1)+1 by omega,List.replicate_succ]
 rw [hrep] at hO
 refine .lssT O O O (by omega) (.nil (.seq (.condT O (.skip (.seq (.block (.sr (.mv O O (.an O O (.sr (.mv O O (.lenR un_M O O (hcW hW) (.mv O O (.nil ?_))))))))))))))
 rw [A4]
 refine .block (.loop (α:=Nat×Value) (fun y=>[(0,vc),(5,.slice (some ⟨gb,0,none⟩) M M),(12,.int .i64 (M:Nat)),(13,.int .i64 (rs.length:Nat)),(6,.int .i64 (rs.length:Nat)),(16,vc),(17,.int .i64 (B:Nat)),(18,.int .i64 (y.1:Nat))])
  (fun y W'=>Below w.heap.size w W'/\W.heap.size<=W'.heap.size/\y.1<=B/\Blk W' gb 32 (cellsOf (rs++y.2::List.replicate (M-(rs.length+1)) nilV)).toArray/\Kp (fun k=>k<W.heap.size/\k≠gb) W W'/\OwnL eQ 54 W.heap.size (fun k=>S k/\k≠gb) W' y.2 (tab y.1 fun c=>g c rs.length)) (fun y=>B-y.1) (0,nilV) ?_ ?_ ?_)
 ·exact lkA rfl
 ·exact ⟨hW,Nat.le_refl _,Nat.zero_le _,hO,fun _ _ _ _ _ h=>h,OwnL.nil⟩
 rintro ⟨j,v⟩ W' ⟨hW',hsz,hj,hO,hK,hown⟩
 replace hW':Below w.heap.size w W':=hW'
 replace hj:j<=B:=hj
 replace hO:Blk W' gb 32 (cellsOf (rs++v::List.replicate (M-(rs.length+1)) nilV)).toArray:=hO
 replace hown:OwnL eQ 54 W.heap.size (fun k=>S k/\k≠gb) W' v (tab j fun c=>g c rs.length):=hown
 refine .sr ?_
 rcases Nat.lt_or_ge j B with hjl | hge
 rotate_left
 ·refine .lssF O O O (by omega) (.nil (.seq (.condF O (.exit (.region (.add O O O (.mv O O (.nil ?_))))))))
  rw [wI (by omega)]
  have:j=B:=by omega
  subst this
  refine ⟨rfl,rs++[v],A2 O (A2 O (A2 O (A2 (by rw [List.length_append];rfl) AC1))),⟨hW',by rw [List.length_append];exact hlt,?_,?_⟩,by rw [List.length_append];show M-(rs.length+1)<M-rs.length;omega⟩
  ·rw [List.length_append,List.append_assoc]
   exact hO
  ·rw [List.length_append]
   show Els eV _ W' (rs++[v]) ((List.range (rs.length+1)).map F)
   rw [List.range_succ,List.map_append]
   have h1:Els eV (fun k=>S k/\k≠gb) W' rs ((List.range rs.length).map F):=⟨hels.1,fun i e x he hx=>by
    have h2:=ER.lt eV (hels.2 i e x he hx)
    have h3:=eV.keep (fun k c t f hk hc=>hK k c t f ⟨hk.2,hk.1.2⟩ hc) h2
    exact eV.mono (fun k _ h=>h.1) h3⟩
   refine h1.snoc ?_
   rw [<-hF]
   exact hown.toR (fun k hk=>⟨up k (by omega),by omega⟩) (fun _ h=>h)
 refine .lssT O O O (by omega) (.nil (.seq (.condT O (.skip (.seq (.block (.sr ?_)))))))
 obtain ⟨adc,cc,ec,hvc,hrc⟩:=As0 (E:=eV) (i:=j) hc (D5 hjl)
 obtain ⟨hpc,hec⟩:=hrc w (Below.refl _ _)
 obtain ⟨ade,ce,ee,hve,hre⟩:=As0 (E:=eQ) (i:=rs.length) hec (I0 hlt)
 obtain ⟨esC,hEC⟩:=RL.toEs (hcW hW')
 rw [A5] at hve
 have hgc:∃ p,PtrX W' p ec:=⟨_,(hrc W' hW').1⟩
 rw [A4] at hvc
 subst hvc
 refine .gv O O (Aq8 (i:=j) (sz:=1) un_M ty_V O O hjl).gv ?_
 rintro _ _ ⟨rfl,rfl⟩
 refine .ldX (E:=eV) ty_V O O (hrc _ hW').1 (hrc _ hW').2 (.an O O ?_)
 subst hve
 have hesz:∀ {v:Value},v.cells.size=1->∀ e∈rs++v::List.replicate (M-(rs.length+1)) nilV,e.cells.size=1:=fun hv e he=>by
  rcases List.mem_append.1 he with h | h
  ·exact hels.sz e h
  ·rcases List.mem_cons.1 h with h | h
   ·rw [h];exact hv
   ·rw [(List.mem_replicate.1 h).2];rfl
 obtain ⟨av,cv,hvv⟩:=hown.slice
 have hv1:v.cells.size=1:=by rw [hvv];rfl
 have hcell:(cellsOf (rs++v::List.replicate (M-(rs.length+1)) nilV)).toArray[0+rs.length*1]?=some v:=by
  have:=C3 _ rs.length 0 v (hesz hv1) (get_mid _ _ _) (by decide)
  rw [List.getElem?_toArray,show 0+rs.length*1=rs.length*1+0 by omega,this,hvv];rfl
 have hee:∀ W',Below w.heap.size w W'->PtrX W' (ade.add (rs.length*4)) ee/\eQ.R (fun k=>(S k/\k<w.heap.size)/\k<w.heap.size) W' ee (qc (g j rs.length)):=hre
 refine .held follows true (fun W2=>Blk W2 gb 32 (cellsOf (rs++v::List.replicate (M-(rs.length+1)) nilV)).toArray/\Below w.heap.size w W2)
  [some (.slice (some ⟨gb,0,none⟩) M M),some (.int .i64 (rs.length:Nat)),some (.slice (some ⟨gb,0,none⟩) M M),some (.int .i64 (rs.length:Nat)),some (.pointer (some ⟨gb,0+rs.length*1,none⟩)),some v,some (.slice (some ade) M ce),some (.int .i64 (rs.length:Nat)),some (.pointer (some (ade.add (rs.length*4)))),some ee,none,none,none,none] (by kernel_rfl)
  ⟨fun _ _=>v_mv rfl,fun _ _=>v_mv rfl,fun _ _=>v_mv rfl,fun _ _=>v_mv rfl,fun _ _=>E6 (i:=rs.length) un_M ty_V O O hlt,fun _ h=>v_ld ty_V O h.1 hcell,fun _ _=>v_mv rfl,fun _ _=>v_mv rfl,fun _ _=>Aq8 (i:=rs.length) un_V ty_Q O O hlt,fun _ h=>AA4 (E:=eQ) ty_Q O (hee _ h.2).1 (hee _ h.2).2,trivial⟩ ?_
 intro W2 e2 _
 have hW2:Below w.heap.size w W2:=hW'.trans (e2.mono hW'.size)
 have hO:=hO.ext e2
 have hown:=hown.ext e2
 obtain ⟨_,hr2⟩:=hee W2 hW2
 have hr2':=hr2
 obtain ⟨s2,t2,rfl,_,_⟩:=hr2'
 refine .gv ⟨hO,hW2⟩ rfl (AV6 _ O Ao9) ?_
 rintro _ W3 ⟨b3,rfl,n3⟩
 obtain ⟨e3,k3,hb3,hs3⟩:=n3
 have hW3:Below w.heap.size w W3:=hW2.trans (e3.mono hW2.size)
 have hO:=hO.ext e3
 have hown:=hown.ext e3
 have hs2:=e2.size
 obtain ⟨es,ho1,_⟩:=id hown
 refine .gv ⟨hO,hW3⟩ rfl (Z5 (E:=eQ) (base:=W.heap.size) (by decide) un_V Z3 O O O hown k3 (eQ.mono (fun k _ h=>⟨⟨h.1.1,by have:=h.2;omega⟩,fun e=>by have:=(ho1.lt k e).1;have:=h.2;omega⟩) (hr2.ext e3)) (by rw [A5];omega) (by decide) (by omega)) ?_
 rintro v4 W4 ⟨ho4,hg4⟩
 have hO4:=hown.gblk hg4 hO (by decide)
 have hlow4:Below w.heap.size w W4:=by
  have hK4:=hown.below (w0:=W3) hg4 (Below.refl _ _) (by omega)
  exact hW3.trans (hK4.mono (by omega))
 refine .gv ⟨hO4,hlow4⟩ rfl (E6 (i:=rs.length) un_M ty_V O O hlt).gv ?_
 rintro _ _ ⟨rfl,rfl⟩
 obtain ⟨a4,c4,hv4⟩:=ho4.slice
 have hv41:v4.cells.size=1:=by rw [hv4];rfl
 refine .gv ⟨hO4,hlow4⟩ rfl (Ai6 (i:=rs.length) (by decide) ty_V O O hO4 (hesz hv1) hv41 (by rw [hv4];simp [one1,Value.cells]) (by simp) (Nat.zero_add _)) ?_
 rintro _ W5 ⟨hO5,u5⟩
 rw [set_mid] at hO5
 refine .nil (.inl O) ?_
 have hs4:=hg4.size
 have hs5:=u5.size
 refine .region (.add O O O (.mv O O (.nil ?_)))
 rw [wI (by omega)]
 refine ⟨rfl,(j+1,v4),lkA rfl,⟨u5.below hlow4 (by omega),by show W.heap.size<=W5.heap.size;omega,hjl,hO5,?_,?_⟩,by show B-(j+1)<B-j;omega⟩
 ·intro k c t f hk hc
  have h1:=hK k c t f hk hc
  have h2:=(e3.block k (by have:=(Array.getElem?_eq_some_iff.1 h1).1;omega)).trans ((e2.block k (Array.getElem?_eq_some_iff.1 h1).1).trans h1)
  have h3:=(hg4.block k (by have:=(Array.getElem?_eq_some_iff.1 h2).1;omega) (fun e=>by have:=(ho1.lt k e.symm).1;have:=hk.1;omega)).trans h2
  exact (u5.block k hk.2).trans h3
 ·have:=ho4.upd u5 hO4 (by decide) (fun h=>h.2 O)
  have e:tab (j+1) (fun c=>g c rs.length)=tab j (fun c=>g c rs.length)++[qc (g j rs.length)]:=by unfold tab;rw [List.range_succ,List.map_append];rfl
  show OwnL eQ 54 W.heap.size _ W5 v4 (tab (j+1) fun c=>g c rs.length)
  rw [e]
  exact this
theorem Q2:Ent Tryz.prog 19:=A0 Tryz.func19 (by kernel_rfl) rfl
theorem AR8 {S T0:Nat->Prop} {w:World} {vn vo:Value} {n:NtV} {o:List Int} (up:Up S w) (upo:Up T0 w) (hn:eN.R S w vn n) (ho:eI.R S w vo o) :
  CR Tryz.prog 19 #[vn,vo] w (Two (eM.at T0 (if outE n o=0 then tabM n.ls.length (nwOf n o).B (nwOf n o).hf else [])) (Is (.int .i64 (outE n o)))):=by
 obtain ⟨s,rfl,hs,hb⟩:=hn
 have hn:eN.R S w (.agg #[.int .i64 n.b,s]) n:=⟨s,rfl,hs,hb⟩
 refine enter Tryz.func19 O Tryz.ntmps19 O ?_
 refine .sr (.box O O fun w1 b2 n1=>.asg O O (.an O O ?_))
 obtain ⟨e1,k2,hb2,hs1⟩:=n1
 refine .sr (.ldA ty_N O O k2 O (.mv O O ?_))
 refine .call _ O AD0 O (AB9 (up.ext e1.size) (hn.ext e1) (ho.ext e1)) fun v2 w2 e2 h2=>?_
 obtain ⟨vl,ve,rfl,hl,he⟩:=h2
 replace he:ve=.int .i64 (outE n o):=he
 subst he
 obtain ⟨al,cl,hvl,_⟩:=RL.len hl
 refine .mv O O (.ext O O O (.ext O O O (.alloc O Al7 fun w3 b6 n3=>?_)))
 obtain ⟨e3,k6,hb6,hs3⟩:=n3
 refine .store ty_I O O k6 (by rw [hvl];rfl) (by simp [Value.cells]) (by rw [hvl];simp [one1,Value.cells]) fun w4 k6 u4=>.an O O (.seq (.sr (.mv O O ?_)))
 replace k6:Blk w4 b6 25 #[vl]:=by rw [hvl] at k6 ⊢;exact k6
 have x2:=e1.trans e2
 have x24:Ext w2 w4:=u4.below e3 (by omega)
 have x4:=x2.trans x24
 by_cases hE:outE n o=0
 rotate_left
 ·refine .neqT O O O hE (.nil (.condT O (.sr (.mv O O (.asg O O (.an O O (.ret ?_)))))))
  refine .plain [_,_] Tryz.results19 ⟨rfl,rfl,trivial⟩ ⟨x4,_,_,rfl,?_,rfl⟩
  rw [if_neg hE];exact RL.nil
 have ok:=P2 hE
 rw [if_pos hE] at hl ⊢
 have hB1:=ok.b1
 have hB6:=ok.b6
 have hM10:n.ls.length<=10:=ok.m
 have hnb:=ok.b
 refine .neqF O O O hE (.nil (.condF O (.skip (.sr (.ldA ty_N O O (k2.ext (e2.trans x24)) O (.mv O O ?_))))))
 have hl4:=ER.ext eI hl x24
 refine .call _ O AG7 O (AG1 (up.ext x4.size) (hn.ext x4) (ho.ext x4)) fun v5 w5 e5 h5=>?_
 obtain ⟨vr,ve,rfl,hr,he⟩:=h5
 replace he:ve=.int .i64 (outE n o):=he
 subst he
 rw [if_pos hE] at hr
 have x5:=x4.trans e5
 refine .mv O O (.ext O O O (.ext O O O (.asg O O (.an O O (.seq (.sr (.mv O O (.neqF O O O hE (.nil (.condF O (.skip (.sr (.ldA ty_N O O ((k2.ext (e2.trans x24)).ext e5) O (.ld ty_I O O (k6.ext e5) O (.mv O O ?_)))))))))))))))
 have hl5:=ER.ext eI hl4 e5
 refine .call _ O AL6 O (AJ9 (up.ext x5.size) (hn.ext x5) hl5 hr ok) fun vA w6 e6 hA=>?_
 have x6:=x5.trans e6
 have hcA:colsOf (nwOf n o).gA=(nwOf n o).gA.length:=by rw [At3 hB1,T8]
 refine .call _ O AS5 O (AR7 (L:=21) (n:=6) (m:=(nwOf n o).gA) (up.ext x6.size) hA (BD5 ok) (by decide) (by rw [T8];exact hB6) (by rw [hcA,T8];omega) (by decide) (by decide)) fun v7 w7 e7 h7=>?_
 obtain ⟨vi,ve,rfl,hi,he⟩:=h7
 replace he:ve=.int .i64 (if colsOf (nwOf n o).gA=(nwOf n o).gA.length then (if invertible (nwOf n o).gA then 0 else 8) else 13):=he
 have hinv:=BD6 ok.ok hB1
 rw [if_pos hcA,if_pos hinv] at he
 subst he
 replace hi:eM.R S w7 vi (invM (nwOf n o).gA):=by rw [if_pos ⟨hcA,hinv⟩] at hi;exact hi
 obtain ⟨ai,ci,hvi,_⟩:=RL.len hi
 have x7:=x6.trans e7
 refine .mv O O (.ext O O O (.ext O O O (.alloc O zero_M fun w8 b9 n8=>?_)))
 obtain ⟨e8,k9,hb9,hs8⟩:=n8
 refine .store ty_M O O k9 (by rw [hvi];rfl) (by simp [Value.cells]) (by rw [hvi];simp [one1,Value.cells]) fun w9 k9 u9=>.an O O (.seq (.sr (.mv O O (.neqF O O O O (.nil (.condF O (.skip (.sr (.mkf [] [_,_,_] O O O O (.an O O (.sr (.an O O ?_))))))))))))
 replace k9:Blk w9 b9 28 #[vi]:=by rw [hvi] at k9 ⊢;exact k9
 have x79:Ext w7 w9:=u9.below e8 (by omega)
 have x9:=x7.trans x79
 have x49:Ext w4 w9:=((e5.trans e6).trans e7).trans x79
 have k2:=(k2.ext (e2.trans x24)).ext x49
 have k6:=k6.ext x49
 have hs9:=x9.size
 have hsW:∀ {W:World},Ext w9 W->eLs.R (fun k=>S k/\k<w9.heap.size) W s n.ls:=fun e=>ER.ext eLs (ER.lt eLs (hs.ext x9)) e
 have hlW:∀ {W:World},Ext w9 W->eI.R (fun k=>S k/\k<w9.heap.size) W vl (pInts (inL n o)):=fun e=>ER.ext eI (ER.lt eI (ER.ext eI hl4 x49)) e
 have hiW:∀ {W:World},Ext w9 W->eM.R (fun k=>S k/\k<w9.heap.size) W vi (invM (nwOf n o).gA):=fun e=>ER.ext eM (ER.lt eM (ER.ext eM hi x79)) e
 have hik:mk_ 87381 (invM (nwOf n o).gA):=by
  have:=As7 (n:=6) (BD5 ok) (by decide) (by rw [T8];exact hB6)
  rwa [bd216] at this
 rw [hnb] at k2
 generalize hG:(fun b=>tab n.ls.length ((nwOf n o).fl ((nwOf n o).th b)))=G
 have hGl:∀ b,(G b).length=n.ls.length:=fun b=>by rw [<-hG];exact A5 ..
 refine .mid (α:=Value) (fun v=>[(2,.pointer (some ⟨b2,0,none⟩)),(11,v)]) (fun v W=>Ext w9 W/\OwnL eV 32 w9.heap.size T0 W v ((List.range (nwOf n o).B).map G)) ?_ ?_
 ·refine .sr (.fa Q1 O O (.ld A7 O O k2 O (.mv O O (.nil ?_))))
  refine .block (.loop (α:=Nat×Value) (fun y=>[(2,.pointer (some ⟨b2,0,none⟩)),(10,.func (.func 74) #[] #[.pointer (some ⟨b2,0,none⟩),.pointer (some ⟨b6,0,none⟩),.pointer (some ⟨b9,0,none⟩)]),(11,y.2),(44,.int .i64 ((nwOf n o).B:Nat)),(45,.int .i64 (y.1:Nat))]) (fun y W=>Ext w9 W/\y.1<=(nwOf n o).B/\OwnL eV 32 w9.heap.size T0 W y.2 ((List.range y.1).map G)) (fun y=>(nwOf n o).B-y.1) (0,.slice none 0 0) ?_ ?_ ?_)
  ·exact lkA rfl
  ·exact ⟨Ext.refl _,Nat.zero_le _,OwnL.nil⟩
  rintro ⟨b,v⟩ W ⟨hW,hbB,hown⟩
  replace hW:Ext w9 W:=hW
  replace hbB:b<=(nwOf n o).B:=hbB
  replace hown:OwnL eV 32 w9.heap.size T0 W v ((List.range b).map G):=hown
  have hWs:=hW.size
  refine .sr ?_
  rcases Nat.lt_or_ge b (nwOf n o).B with hlt | hge
  rotate_left
  ·refine .lssF O O O (by omega) (.nil (.seq (.condF O (.exit ?_))))
   have:b=(nwOf n o).B:=by omega
   subst this
   exact ⟨rfl,v,lkA rfl,hW,hown⟩
  obtain ⟨es,ho1,_⟩:=id hown
  have hT:∀ k,S k/\k<w9.heap.size->S k/\v.ownBlock≠some k:=fun k h=>⟨h.1,fun e=>by have:=(ho1.lt k e).1;have:=h.2;omega⟩
  have upO:Up (fun k=>T0 k/\v.ownBlock≠some k) W:=fun k hk=>⟨upo k (by omega),fun e=>by have:=(ho1.lt k e).2;omega⟩
  have upT:Up (fun k=>S k/\v.ownBlock≠some k) W:=fun k hk=>⟨up k (by omega),fun e=>by have:=(ho1.lt k e).2;omega⟩
  refine .lssT O O O (by omega) (.nil (.seq (.condT O (.skip (.seq (.block (.sr (.mv O O (.an O O (.region (.mv O O (.mv O O (.mv O O ?_)))))))))))))
  refine .callv [.int .i64 (b:Nat)] O O E_col O (col_t (S:=fun k=>S k/\v.ownBlock≠some k) (T0:=fun k=>T0 k/\v.ownBlock≠some k) (b:=b) upT upO ok (k2.ext hW) (eLs.mono (fun k _ h=>hT k h) (hsW hW)) (k6.ext hW) (eI.mono (fun k _ h=>hT k h) (hlW hW)) (k9.ext hW) (eM.mono (fun k _ h=>hT k h) (hiW hW)) hik (by decide) (by decide)) fun vc W1 f1 hc=>?_
  have hc:eV.R (fun k=>T0 k/\v.ownBlock≠some k) W1 vc (G b):=by rw [<-hG];exact hc
  obtain ⟨ac,cc,hvc,_⟩:=RL.len hc
  rw [hGl] at hvc
  subst hvc
  refine .bsl _ O O bsl_M1 fun W2 by_ ny=>?_
  obtain ⟨ey,ky,hby,hsy⟩:=ny
  have f2:=f1.trans ey
  have hW2:=hW.trans f2
  refine .gv O O (Z5 (E:=eV) (base:=w9.heap.size) (n:=G b) (e:=.slice ac n.ls.length cc) (by decide) un_M Ad2 O O O (hown.ext f2) ky (ER.ext eV hc ey) (by simp;omega) (by decide) hW2.size) ?_
  rintro v8 W8 ⟨ho8,hg8⟩
  refine .an O O (.region (.add O O O (.mv O O (.nil ?_))))
  rw [wI (by omega)]
  refine ⟨rfl,(b+1,v8),lkA rfl,⟨(hown.ext f2).below hg8 hW2 hW2.size,hlt,?_⟩,by show (nwOf n o).B-(b+1)<(nwOf n o).B-b;omega⟩
  show OwnL eV 32 w9.heap.size T0 W8 v8 ((List.range (b+1)).map G)
  rw [List.range_succ,List.map_append]
  exact ho8
 rintro v W ⟨hW,hown⟩
 have hcol:eM.R T0 W v (tabM (nwOf n o).B n.ls.length fun b k=>(nwOf n o).hf k b):=by
  have:=hown.toR (S:=T0) (hsz:=by decide) (fun k hk=>upo k (by omega)) (fun _ h=>h)
  rw [<-hG] at this
  exact this
 have hWs:=hW.size
 refine .sr (.mv O O (.fa K8 O O (.ld Q8 O O (k2.ext hW) O (.lenR O9 O O (hsW hW) ?_))))
 refine .call _ O Ak5 O (Ag4 (upo.ext (x9.trans hW).size) hcol (by omega) (by omega)) fun vt W1 f1 ht=>.asg O O (.an O O (.ret ?_))
 exact .plain [_,_] Tryz.results19 ⟨rfl,rfl,trivial⟩ ⟨(x9.trans hW).trans f1,_,_,rfl,ht,by rw [hE]⟩
theorem P8 {S:Nat->Prop} {w:World} {vn vo:Value} {n:NtV} {o:List Int} (up:Up S w) (hn:eN.R S w vn n) (ho:eI.R S w vo o) :
  CR Tryz.prog 19 #[vn,vo] w (Two (eM.at S (if outE n o=0 then tabM n.ls.length (nwOf n o).B (nwOf n o).hf else [])) (Is (.int .i64 (outE n o)))):=AR8 up up hn ho
open Classical in
noncomputable def btE (n:NtV) (o:List Int) (a b:Int):Int:=if conE n o a b≠0 then conE n o a b else if conB n o a b=true then 0 else 8
def btV (n:NtV) (o:List Int) (a b:Nat):List QV:=tab n.ls.length fun k=>(nwOf n o).hf k a-(nwOf n o).hf k b
theorem AS6:Ent Tryz.prog 20:=A0 Tryz.func20 (by kernel_rfl) rfl
theorem AR9 {S T0:Nat->Prop} {w:World} {vn vo:Value} {n:NtV} {o:List Int} {a b:Int} (up:Up S w) (upo:Up T0 w) (hn:eN.R S w vn n) (ho:eI.R S w vo o) :
  CR Tryz.prog 20 #[vn,vo,.int .i64 a,.int .i64 b] w (Two (eV.at T0 (if btE n o a b=0 then btV n o a.toNat b.toNat else [])) (Is (.int .i64 (btE n o a b)))):=by
 have hvn:=shpA (E:=eN) O hn
 refine enter Tryz.func20 O Tryz.ntmps20 O ?_
 refine .sr (.box O O fun w1 b4 n1=>.asg O O (.an O O ?_))
 obtain ⟨e1,k4,hb4,hs1⟩:=n1
 refine .sr (.ldA ty_N O O k4 (eN.csz hn) (.mv O O (.mv O O (.mv O O ?_))))
 rw [<-hvn]
 refine .call _ O R6 O (Q9 (up.ext e1.size) (hn.ext e1) (ho.ext e1)) fun v2 w2 e2 h2=>?_
 obtain ⟨vb,ve,rfl,hb,he⟩:=h2
 replace hb:vb=.bool (conB n o a b):=hb
 replace he:ve=.int .i64 (conE n o a b):=he
 subst hb;subst he
 have x2:=e1.trans e2
 refine .mv O O (.ext O O O (.ext O O O (.asg O O (.an O O (.seq (.sr (.mv O O ?_)))))))
 by_cases hE:conE n o a b=0
 rotate_left
 ·have hb:btE n o a b=conE n o a b:=by unfold btE;rw [if_pos hE]
  refine .neqT O O O hE (.nil (.condT O (.sr (.mv O O (.asg O O (.an O O (.ret ?_)))))))
  refine .plain [_,_] Tryz.results20 ⟨rfl,rfl,trivial⟩ ⟨x2,_,_,rfl,?_,by rw [hb];rfl⟩
  rw [if_neg (by rw [hb];exact hE)];exact RL.nil
 refine .neqF O O O hE (.nil (.condF O (.skip (.seq (.sr (.mv O O (.not_ O O (.nil ?_))))))))
 by_cases hC:conB n o a b=true
 rotate_left
 ·have hb:btE n o a b=8:=by unfold btE;rw [if_neg (by simpa using hE),if_neg hC]
  rw [Bool.not_eq_true] at hC
  rw [hC]
  refine .condT O (.sr (.asg O O (.an O O (.ret ?_))))
  refine .plain [_,_] Tryz.results20 ⟨rfl,rfl,trivial⟩ ⟨x2,_,_,rfl,?_,by rw [hb]⟩
  rw [if_neg (by rw [hb];decide)];exact RL.nil
 have hb:btE n o a b=0:=by unfold btE;rw [if_neg (by simpa using hE),if_pos hC]
 rw [hC,if_pos hb]
 obtain ⟨hO,hA,hBb⟩:=conE_ok hE
 have ok:=P2 hO
 have hB6:=ok.b6
 have hM10:n.ls.length<=10:=ok.m
 have hnb:=ok.b
 obtain ⟨a',rfl⟩:∃ a':Nat,a=a':=⟨a.toNat,by have:=hA.1;omega⟩
 obtain ⟨b',rfl⟩:∃ b':Nat,b=b':=⟨b.toNat,by have:=hBb.1;omega⟩
 have haB:a'<(nwOf n o).B:=by have:=hA.2;omega
 have hbB:b'<(nwOf n o).B:=by have:=hBb.2;omega
 refine .condF O (.skip (.sr (.ldA ty_N O O (k4.ext e2) (eN.csz hn) (.mv O O ?_))))
 rw [<-hvn]
 refine .call _ O Q2 O (P8 (up.ext x2.size) (hn.ext x2) (ho.ext x2)) fun v3 w3 e3 h3=>?_
 obtain ⟨vm,ve,rfl,hm,he⟩:=h3
 replace he:ve=.int .i64 (outE n o):=he
 subst he
 rw [if_pos hO] at hm
 have x3:=x2.trans e3
 refine .mv O O (.ext O O O (.ext O O O (.asg O O (.an O O (.seq (.sr (.mv O O (.neqF O O O hO (.nil (.condF O (.skip (.sr (.mv O O (.lenR un_M O O hm ?_))))))))))))))
 rw [A4]
 refine .make_ _ _ un_V Z3 O (by decide) O O O (Nat.le_refl _) (by omega) (by omega) fun w4 h n4=>.an O O ?_
 have f4:FB eQ 54 T0 w4 h (List.replicate n.ls.length q0):=FB.made n4 zq_R
 obtain ⟨e4,_,hh,hs4⟩:=n4
 have hmW:∀ {W:World},Below w3.heap.size w3 W->eM.R (fun k=>S k/\k<w3.heap.size) W vm (tabM n.ls.length (nwOf n o).B (nwOf n o).hf):=fun hB=>eM.keep (fun k c t f hk hh=>(hB.block k hk.2).trans hh) (ER.lt eM hm)
 refine .seq (.sr (.mv O O (.lenR un_M O O (hmW e4) (.mv O O (.nil ?_)))))
 rw [A4]
 generalize hG:(fun k=>qc ((nwOf n o).hf k a'-(nwOf n o).hf k b'))=G
 refine .block (.loop (α:=Nat) (fun i=>[(2,.int .i64 (a':Nat)),(3,.int .i64 (b':Nat)),(13,slB n.ls.length h),(41,vm),(42,.int .i64 (n.ls.length:Nat)),(43,.int .i64 (i:Nat))]) (fun i W=>Below w3.heap.size w3 W/\i<=n.ls.length/\FB eQ 54 T0 W h (fil n.ls.length i G q0)) (fun i=>n.ls.length-i) 0 ?_ ?_ ?_)
 ·exact lkA rfl
 ·exact ⟨e4,Nat.zero_le _,by rw [X5];exact f4⟩
 rintro i W ⟨hW,hi,fb⟩
 have hWs:=hW.size
 have hhl:=fb.lt
 refine .sr ?_
 rcases Nat.lt_or_ge i n.ls.length with hlt | hge
 rotate_left
 ·refine .lssF O O O (by omega) (.nil (.seq (.condF O (.exit (.sr (.mv O O (.asg O O (.an O O (.ret ?_)))))))))
  have:i=n.ls.length:=by omega
  subst this
  rw [AE8] at fb
  refine .plain [_,_] Tryz.results20 ⟨rfl,rfl,trivial⟩ ⟨x3.trans hW,_,_,rfl,?_,by rw [hb]⟩
  have:=fb.toR (hsz:=by decide) (c:=n.ls.length) (upo h (by have:=x3.size;omega)) (by simp) (by simp;omega)
  rw [List.length_map,List.length_range,<-hG] at this
  exact this
 refine .lssT O O O (by omega) (.nil (.seq (.condT O (.skip (.seq (.block (.sr (.mv O O (.ixN (i:=i) un_M ty_V O O (hmW hW) O (D5 hlt) fun q hq=>.ldE (E:=eV) ty_V O O hq fun vr hr=>.asg O O (.an O O ?_))))))))))
 have upO:∀ {W':World},Ext W W'->Up (fun k=>T0 k/\k≠h) W':=fun e k hk=>⟨upo k (by have:=e.size;have:=x3.size;omega),by have:=e.size;omega⟩
 have upT:∀ {W':World},Ext W W'->Up (fun k=>S k/\k≠h) W':=fun e k hk=>⟨up k (by have:=e.size;have:=x3.size;omega),by have:=e.size;omega⟩
 have hT:∀ k,S k/\k<w3.heap.size->S k/\k≠h:=fun k hk=>⟨hk.1,by have:=hk.2;omega⟩
 refine .par follows 11 [.inl (slB n.ls.length h),.inl (.int .i64 (i:Nat)),.inl vr,.inl (.int .i64 (a':Nat)),.inr (Ptr eQ (fun k=>S k/\k<w3.heap.size) (qc ((nwOf n o).hf i a'))),.inr (eQ.at (fun k=>S k/\k<w3.heap.size) (qc ((nwOf n o).hf i a'))),.inl vr,.inl (.int .i64 (b':Nat)),.inr (Ptr eQ (fun k=>S k/\k<w3.heap.size) (qc ((nwOf n o).hf i b'))),.inr (eQ.at (fun k=>S k/\k<w3.heap.size) (qc ((nwOf n o).hf i b'))),.inr (eQ.at (fun k=>T0 k/\k≠h) (G i))]
  [[],[],[],[],[(50,2),(51,3)],[(52,4)],[],[],[(54,6),(55,7)],[(56,8)],[(53,5),(57,9)]] (by kernel_rfl) ⟨
  fun w e=>(v_mv O).ob,fun w e=>(v_mv O).ob,fun w e=>(v_mv O).ob,fun w e=>(v_mv O).ob,
  fun w e=>E5 (i:=a') un_V ty_Q O (ER.ext eV hr e) O (I0 haB),fun w e x hx=>T1 ty_Q O hx,
  fun w e=>(v_mv O).ob,fun w e=>(v_mv O).ob,
  fun w e=>E5 (i:=b') un_V ty_Q O (ER.ext eV hr e) O (I0 hbB),fun w e x hx=>T1 ty_Q O hx,
  fun w e x hx y hy=>by
   have:=AW0 (L:=174764) (upT e) (upO e) (eQ.mono (fun k _ h=>hT k h) hx) (eQ.mono (fun k _ h=>hT k h) hy) (An4 ok i a').toOk (An4 ok i b').toOk (by decide) (by decide)
   rw [B9,B9] at this
   rw [<-hG]
   exact (A1 _ AA1 O this).ob (A6 _ _ _),trivial⟩ ?_
 intro W1 f1 _ _ _ _ _ _ _ _ y hy
 refine .ixB (i:=i) un_V ty_Q O O O hlt (.storeF (E:=eQ) (i:=i) (by decide) ty_Q O O (fb.ext f1) O (by rw [K9];exact hlt) (Nat.zero_add _) hy fun W2 f2 u2=>.nil ?_)
 rw [Z6] at f2
 refine .region (.add O O O (.mv O O (.nil ?_)))
 rw [wI (by omega)]
 exact ⟨rfl,i+1,lkA rfl,⟨u2.below (hW.trans (f1.mono hWs)) (by omega),hlt,f2⟩,by show n.ls.length-(i+1)<n.ls.length-i;omega⟩
theorem AS0 {S:Nat->Prop} {w:World} {vn vo:Value} {n:NtV} {o:List Int} {a b:Int} (up:Up S w) (hn:eN.R S w vn n) (ho:eI.R S w vo o) :
  CR Tryz.prog 20 #[vn,vo,.int .i64 a,.int .i64 b] w (Two (eV.at S (if btE n o a b=0 then btV n o a.toNat b.toNat else [])) (Is (.int .i64 (btE n o a b)))):=AR9 up up hn ho
end Go.Proofs.YtggegpiffjbngaaGreat
namespace Go.Kx
open Go Go.RowKit
def Nw.offM (n:Nw) (f:Nat->Rat) (b:Nat):Rat:=n.off (fun k=>if n.g k=0 then 0 else f k) b
end Go.Kx
namespace Go.Proofs.YtggegpiffjbngaaGreat
open Go Go.Kx Go.RowKit
end Go.Proofs.YtggegpiffjbngaaGreat
namespace Go.Kx
open Go Go.RowKit
section
variable {n:Nw}
end
def Nw.cut (n:Nw) (k:Nat):Nw:={ n with g:=fun j=>if j=k then 0 else n.g j }
section
variable {n:Nw} {k:Nat}
theorem Nw.cut_ok (ok:n.Ok):(n.cut k).Ok:=⟨ok.f,ok.t,fun j hj=>by
 show (0:Rat)<=if j=k then 0 else n.g j
 split
 ·exact Rat.le_refl
 ·exact ok.p j hj⟩
theorem Nw.cut_gk:(n.cut k).g k=0:=if_pos rfl
theorem Nw.cut_g {j:Nat} (h:j≠k):(n.cut k).g j=n.g j:=if_neg h
theorem Nw.cut_root_n (ok:n.Ok) (b:Nat):n.root ((n.cut k).root b)=n.root b:=by
 have h:=Nw.root_const (n:=n.cut k) (θ:=fun b=>((n.root b:Nat):Rat)) (fun j hj hg=>by
  have hjk:j≠k:=fun e=>hg (by rw [e];exact Nw.cut_gk)
  rw [Nw.cut_g hjk] at hg
  exact congrArg _ (Nw.root_line (n:=n) hj hg)) b
 exact_mod_cast h
theorem Nw.cut_le (ok:n.Ok) (b:Nat):n.root b<=(n.cut k).root b:=by
 rw [<-Nw.cut_root_n (k:=k) ok b]
 exact Nw.root_le _
theorem Nw.cut_root (ok:n.Ok) (hb:(n.cut k).root (n.F k)=(n.cut k).root (n.T k)) (b:Nat):(n.cut k).root b=n.root b:=by
 have h:=Nw.root_const (n:=n) (θ:=fun b=>(((n.cut k).root b:Nat):Rat)) (fun j hj hg=>by
  by_cases hjk:j=k
  ·subst hjk;exact congrArg _ hb
  ·refine congrArg _ (Nw.root_line (n:=n.cut k) hj ?_)
   rw [Nw.cut_g hjk];exact hg) b
 have h2:(n.cut k).root (n.root b)=(n.cut k).root b:=by exact_mod_cast h
 have h3:=Nw.cut_le (k:=k) ok b
 have h4:=Nw.root_le (n:=n.cut k) (n.root b)
 omega
theorem U1 {p q:Nat->Bool}:∀ l:List Nat,(∀ x∈l,p x=true->q x=true)->(l.filter p).length<=(l.filter q).length
 | [],_=>Nat.le_refl _
 | x::l,h=>by
  have ih:=U1 l fun y hy=>h y (List.mem_cons_of_mem _ hy)
  have hx:=h x (List.mem_cons_self ..)
  by_cases hp:p x=true
  ·rw [List.filter_cons_of_pos hp,List.filter_cons_of_pos (hx hp)];simpa using ih
  ·rw [List.filter_cons_of_neg hp]
   by_cases hq:q x=true
   ·rw [List.filter_cons_of_pos hq];simp;omega
   ·rw [List.filter_cons_of_neg hq];exact ih
theorem O5 {p q:Nat->Bool} {y:Nat}:∀ l:List Nat,(∀ x∈l,p x=true->q x=true)->y∈l->p y=false->q y=true->(l.filter p).length<(l.filter q).length
 | [],_,h,_,_=>by cases h
 | x::l,h,hy,h1,h2=>by
  have hx:=h x (List.mem_cons_self ..)
  have hl:=U1 l fun z hz=>h z (List.mem_cons_of_mem _ hz)
  by_cases e:x=y
  ·subst e
   rw [List.filter_cons_of_neg (by rw [h1];decide),List.filter_cons_of_pos h2];simp;omega
  ·have hm:y∈l:=by
    rcases List.mem_cons.1 hy with h | h
    ·exact absurd h.symm e
    ·exact h
   have ih:=O5 l (fun z hz=>h z (List.mem_cons_of_mem _ hz)) hm h1 h2
   by_cases hp:p x=true
   ·rw [List.filter_cons_of_pos hp,List.filter_cons_of_pos (hx hp)];simpa using ih
   ·rw [List.filter_cons_of_neg hp]
    by_cases hq:q x=true
    ·rw [List.filter_cons_of_pos hq];simp;omega
    ·rw [List.filter_cons_of_neg hq];exact ih
def Nw.brg (n:Nw) (k:Nat):Prop:=(n.cut k).root (n.F k)≠(n.cut k).root (n.T k)
theorem Nw.brg_cnt (ok:n.Ok) (hk:k<n.M) (hg:n.g k≠0):n.brg k<->n.refs.length<(n.cut k).refs.length:=by
 constructor
 ·intro h
  have hline:=Nw.root_line (n:=n) hk hg
  have h1:=Nw.cut_root_n (k:=k) ok (n.F k)
  have h2:=Nw.cut_root_n (k:=k) ok (n.T k)
  have hF:=ok.f k hk
  have hT:=ok.t k hk
  have lF:=Nw.root_le (n:=n.cut k) (n.F k)
  have lT:=Nw.root_le (n:=n.cut k) (n.T k)
  have rF:=Nw.root_root (n:=n.cut k) (n.F k)
  have rT:=Nw.root_root (n:=n.cut k) (n.T k)
  have a1:=Nw.root_le (n:=n) ((n.cut k).root (n.F k))
  have a2:=Nw.root_le (n:=n) ((n.cut k).root (n.T k))
  unfold Nw.brg at h
  show ((List.range n.B).filter _).length<((List.range n.B).filter _).length
  generalize (n.cut k).root (n.F k)=x at *
  generalize (n.cut k).root (n.T k)=y at *
  refine O5 (y:=max x y) _ (fun r hr hp=>?_) (List.mem_range.2 (by omega)) ?_ ?_
  ·have hp:n.root r=r:=of_decide_eq_true hp
   refine decide_eq_true ?_
   have:=Nw.cut_le (k:=k) ok r
   have:=Nw.root_le (n:=n.cut k) r
   omega
  ·refine decide_eq_false fun e=>?_
   rcases Nat.le_total x y with h' | h'
   ·rw [Nat.max_eq_right h'] at e;omega
   ·rw [Nat.max_eq_left h'] at e;omega
  ·refine decide_eq_true ?_
   rcases Nat.le_total x y with h' | h'
   ·rw [Nat.max_eq_right h'];exact rT
   ·rw [Nat.max_eq_left h'];exact rF
 ·intro h hb
  have:(n.cut k).refs=n.refs:=List.filter_congr fun r _=>by rw [Nw.cut_root ok hb]
  rw [this] at h
  exact Nat.lt_irrefl _ h
def Nw.bt (n:Nw) (k l:Nat):Rat:=n.hf l (n.F k)-n.hf l (n.T k)
def Nw.rst (n:Nw) (k:Nat):Rat:=1-n.bt k k
def Nw.lo (n:Nw) (k l:Nat):Rat:=if l=k then -1 else n.bt k l / n.rst k
end
section
variable {n m:Nw} {k:Nat}
theorem Nw.rootTo_congr (hF:m.F=n.F) (hT:m.T=n.T):∀ j,(∀ k,k<j->m.g k=n.g k)->m.rootTo j=n.rootTo j
 | 0,_=>rfl
 | j+1,h=>by
  have ih:=Nw.rootTo_congr hF hT j fun k hk=>h k (by omega)
  funext b
  rw [Nw.rootTo,Nw.rootTo,h j (by omega),ih,hF,hT]
theorem Nw.rootTo_skip {j:Nat}:∀ d,(∀ k,j<=k->k<j+d->n.g k=0)->n.rootTo (j+d)=n.rootTo j
 | 0,_=>rfl
 | d+1,h=>by
  have ih:=Nw.rootTo_skip d fun k h1 h2=>h k h1 (by omega)
  funext b
  show n.rootTo (j+d+1) b=_
  rw [Nw.rootTo,if_pos (h (j+d) (by omega) (by omega)),ih]
def Nw.trk (n:Nw) (k:Nat):Prop:=n.g k≠0/\n.rootTo k (n.F k)≠n.rootTo k (n.T k)
instance (n:Nw) (k:Nat):Decidable (n.trk k):=inferInstanceAs (Decidable (_/\_))
def Nw.forest (n:Nw):Nw:={ n with g:=fun k=>if n.trk k then n.g k else 0 }
theorem Nw.forest_rootTo (n:Nw):∀ j,n.forest.rootTo j=n.rootTo j
 | 0=>rfl
 | j+1=>by
  have ih:=Nw.forest_rootTo n j
  funext b
  rw [Nw.rootTo,Nw.rootTo,ih]
  show (if (if n.trk j then n.g j else 0)=0 then n.rootTo j b else if n.rootTo j b=max (n.rootTo j (n.F j)) (n.rootTo j (n.T j)) then _ else _)=_
  by_cases hg:n.g j=0
  ·rw [if_pos hg,if_pos (by split<;>first | exact hg | rfl)]
  ·by_cases ht:n.trk j
   ·rw [if_pos ht,if_neg hg,if_neg hg];rfl
   ·have he:n.rootTo j (n.F j)=n.rootTo j (n.T j):=Classical.not_not.1 fun h=>ht ⟨hg,h⟩
    rw [if_neg ht,if_pos rfl,if_neg hg,he,Nat.max_self,Nat.min_self]
    split
    ·assumption
    ·rfl
theorem AC4 {p q:Nat->Bool} {a:Nat}:∀ l:List Nat,l.Nodup->(∀ x∈l,q x=true->p x=true\/x=a)->(l.filter q).length<=(l.filter p).length+1
 | [],_,_=>Nat.zero_le _
 | x::l,hn,h=>by
  obtain ⟨hx,hn⟩:=List.nodup_cons.1 hn
  have hl:=fun z hz=>h z (List.mem_cons_of_mem x hz)
  by_cases e:x=a
  ·subst e
   have h2:=U1 (p:=q) (q:=p) l fun z hz hq=>by
    rcases hl z hz hq with h | h
    ·exact h
    ·subst h;exact absurd hz hx
   have h3:(List.filter q (x::l)).length<=(List.filter q l).length+1:=by rw [List.filter_cons];split<;>simp
   have h4:(List.filter p l).length<=(List.filter p (x::l)).length:=by rw [List.filter_cons];split<;>simp
   omega
  ·have ih:=AC4 l hn hl
   by_cases hq:q x=true
   ·have hp:p x=true:=(h x (List.mem_cons_self ..) hq).resolve_right e
    rw [List.filter_cons_of_pos hq,List.filter_cons_of_pos hp]
    simp only [List.length_cons]
    omega
   ·rw [List.filter_cons_of_neg hq]
    have h4:(List.filter p l).length<=(List.filter p (x::l)).length:=by rw [List.filter_cons];split<;>simp
    omega
def Nw.cn (n:Nw) (j:Nat):Nat:=((List.range n.B).filter fun r=>decide (n.rootTo j r=r)).length
def Nw.en (n:Nw) (j:Nat):Nat:=((List.range j).filter fun k=>decide (n.g k≠0)).length
theorem Nw.en_succ (n:Nw) (j:Nat):n.en (j+1)=n.en j+if n.g j≠0 then 1 else 0:=by
 unfold Nw.en
 rw [List.range_succ,List.filter_append,List.length_append]
 by_cases h:n.g j≠0
 ·simp [h]
 ·simp [h]
theorem Nw.cn_zero (n:Nw):n.cn 0=n.B:=by
 have h:(List.range n.B).filter (fun r=>decide (n.rootTo 0 r=r))=List.range n.B:=List.filter_eq_self.2 fun r _=>decide_eq_true rfl
 unfold Nw.cn
 rw [h]
 exact List.length_range
theorem Nw.fix_step {j r:Nat} (hg:n.g j≠0) (h:n.rootTo j (n.F j)≠n.rootTo j (n.T j)):n.rootTo (j+1) r=r<->n.rootTo j r=r/\r≠max (n.rootTo j (n.F j)) (n.rootTo j (n.T j)):=by
 rw [Nw.rootTo,if_neg hg]
 have hF:=Nw.rootTo_root (n:=n) j (n.F j)
 have hT:=Nw.rootTo_root (n:=n) j (n.T j)
 generalize n.rootTo j (n.F j)=x at *
 generalize n.rootTo j (n.T j)=y at *
 have hmin:n.rootTo j (min x y)=min x y:=by
  rcases Nat.le_total x y with h | h
  ·rw [Nat.min_eq_left h];exact hF
  ·rw [Nat.min_eq_right h];exact hT
 by_cases e:n.rootTo j r=max x y
 ·rw [if_pos e]
  constructor
  ·intro h1;rw [h1] at hmin;omega
  ·intro h1;omega
 ·rw [if_neg e]
  constructor
  ·intro h1;exact ⟨h1,fun h2=>e (by rw [h1];exact h2)⟩
  ·intro h1;exact h1.1
theorem Nw.cn_same {j:Nat} (h:n.g j=0\/n.rootTo j (n.F j)=n.rootTo j (n.T j)):n.cn (j+1)=n.cn j:=by
 have:n.rootTo (j+1)=n.rootTo j:=by
  funext b
  rw [Nw.rootTo]
  split
  ·rfl
  ·rename_i hg
   have he:=h.resolve_left hg
   rw [he,Nat.max_self,Nat.min_self]
   split
   ·rename_i e;exact e.symm
   ·rfl
 unfold Nw.cn
 rw [this]
theorem Nw.cn_lt (ok:n.Ok) {j:Nat} (hj:j<n.M) (hg:n.g j≠0) (h:n.rootTo j (n.F j)≠n.rootTo j (n.T j)):n.cn (j+1)<n.cn j/\n.cn j<=n.cn (j+1)+1:=by
 have hF:=Nw.rootTo_root (n:=n) j (n.F j)
 have hT:=Nw.rootTo_root (n:=n) j (n.T j)
 have lF:=Nw.rootTo_le (n:=n) j (n.F j)
 have lT:=Nw.rootTo_le (n:=n) j (n.T j)
 have bF:=ok.f j hj
 have bT:=ok.t j hj
 have hfix:=fun r=>Nw.fix_step (r:=r) hg h
 constructor
 ·refine O5 (y:=max (n.rootTo j (n.F j)) (n.rootTo j (n.T j))) _ (fun r _ hr=>decide_eq_true ((hfix r).1 (of_decide_eq_true hr)).1) (List.mem_range.2 (by omega)) (decide_eq_false fun e=>((hfix _).1 e).2 O) (decide_eq_true ?_)
  rcases Nat.le_total (n.rootTo j (n.F j)) (n.rootTo j (n.T j)) with h | h
  ·rw [Nat.max_eq_right h];exact hT
  ·rw [Nat.max_eq_left h];exact hF
 ·refine AC4 (a:=max (n.rootTo j (n.F j)) (n.rootTo j (n.T j))) _ List.nodup_range fun r _ hr=>?_
  by_cases e:r=max (n.rootTo j (n.F j)) (n.rootTo j (n.T j))
  ·exact .inr e
  ·exact .inl (decide_eq_true ((hfix r).2 ⟨of_decide_eq_true hr,e⟩))
theorem Nw.cn_ge (ok:n.Ok):∀ j,j<=n.M->n.B<=n.cn j+n.en j
 | 0,_=>by rw [Nw.cn_zero];omega
 | j+1,hj=>by
  have ih:=Nw.cn_ge ok j (by omega)
  have he:=n.en_succ j
  by_cases hg:n.g j=0
  ·have:=Nw.cn_same (n:=n) (j:=j) (.inl hg);omega
  ·rw [if_pos hg] at he
   by_cases h:n.rootTo j (n.F j)=n.rootTo j (n.T j)
   ·have:=Nw.cn_same (n:=n) (j:=j) (.inr h);omega
   ·have:=(Nw.cn_lt ok (by omega) hg h).2;omega
theorem Nw.cn_le (ok:n.Ok) (ht:∀ k,k<n.M->n.g k≠0->n.trk k):∀ j,j<=n.M->n.cn j+n.en j<=n.B
 | 0,_=>by
  rw [Nw.cn_zero]
  show n.B+((List.range 0).filter _).length<=n.B
  simp
 | j+1,hj=>by
  have ih:=Nw.cn_le ok ht j (by omega)
  have he:=n.en_succ j
  by_cases hg:n.g j=0
  ·rw [if_neg (by simpa using hg)] at he
   have:=Nw.cn_same (n:=n) (j:=j) (.inl hg);omega
  ·rw [if_pos hg] at he
   have:=(Nw.cn_lt ok (by omega) hg (ht j (by omega) hg).2).1;omega
theorem Nw.trk_brg (ok:n.Ok) (ht:∀ k,k<n.M->n.g k≠0->n.trk k) (hk:k<n.M) (hg:n.g k≠0):n.brg k:=by
 refine (Nw.brg_cnt ok hk hg).2 ?_
 have h1:=Nw.cn_le ok ht n.M (Nat.le_refl _)
 have h2:=Nw.cn_ge (n:=n.cut k) (Nw.cut_ok ok) n.M (Nat.le_refl _)
 have h3:(n.cut k).en n.M<n.en n.M:=by
  refine O5 (y:=k) _ (fun r _ hr=>decide_eq_true fun e=>of_decide_eq_true hr ?_) (List.mem_range.2 hk) (decide_eq_false fun e=>e Nw.cut_gk) (decide_eq_true hg)
  show (if r=k then 0 else n.g r)=0
  rw [e,ite_self]
 show n.cn n.M<(n.cut k).cn n.M
 have h4:(n.cut k).B=n.B:=rfl
 omega
theorem Nw.hf_brg (ok:n.Ok) (hk:k<n.M) (hg:n.g k≠0) (h:n.brg k) {b:Nat} (hb:b<n.B):n.hf k b=0\/n.hf k b=1\/n.hf k b = -1:=by
 have e:=Nw.green ok (fun c=>if (n.cut k).root c=(n.cut k).root (n.F k) then 1 else 0) (n.fl (n.th b))
 have e1:sumN n.M (fun j=>((if (n.cut k).root (n.F j)=(n.cut k).root (n.F k) then (1:Rat) else 0)-(if (n.cut k).root (n.T j)=(n.cut k).root (n.F k) then 1 else 0))*n.fl (n.th b) j)=n.hf k b:=by
  rw [F4 (i:=k) (fun j hj hne=>?_),if_pos hk,if_pos rfl,if_neg (fun e=>h e.symm)]
  ·show (1-0:Rat)*n.hf k b=_;grind
  ·by_cases hgj:n.g j=0
   ·rw [Nw.fl_out hgj,Rat.mul_zero]
   ·have:=Nw.root_line (n:=n.cut k) (k:=j) hj (by rw [Nw.cut_g hne];exact hgj)
    have:(n.cut k).root (n.F j)=(n.cut k).root (n.T j):=this
    rw [this];grind
 have hr:n.root b<n.B:=Nat.lt_of_le_of_lt (Nw.root_le b) hb
 have e2:sumN n.B (fun c=>(if (n.cut k).root c=(n.cut k).root (n.F k) then (1:Rat) else 0)*n.off (n.fl (n.th b)) c)=(if (n.cut k).root b=(n.cut k).root (n.F k) then 1 else 0)-(if (n.cut k).root (n.root b)=(n.cut k).root (n.F k) then 1 else 0):=by
  rw [<-sum_two hb hr (fun c=>(n.cut k).root c=(n.cut k).root (n.F k))]
  refine B1 fun c hc=>?_
  have:n.off (n.fl (n.th b)) c=dl c b-dl c (n.root b):=Nw.lap_th ok hb hc
  rw [this]
  split<;>grind
 rw [e1,e2] at e
 rw [<-e]
 split
 ·split
  ·left;grind
  ·right;left;grind
 ·split
  ·right;right;grind
  ·left;grind
end
end Go.Kx
namespace Go.Proofs.YtggegpiffjbngaaGreat
open Go Go.Kx Go.RowKit
end Go.Proofs.YtggegpiffjbngaaGreat
namespace Go.Kx
open Go Go.RowKit
section
variable {P:Program} {σ:Env} {w:World} {d:Option Tmp} {ty:TypeId} {pos:String} {af:Array Edge} {g:Option (Nat×Bool)}
end
end Go.Kx
namespace Go.Proofs.YtggegpiffjbngaaGreat
open Go Go.Kx Go.RowKit
end Go.Proofs.YtggegpiffjbngaaGreat
namespace Go.Kx
open Go Go.RowKit
instance (n:Nw) (k:Nat):Decidable (n.brg k):=inferInstanceAs (Decidable (_≠_))
end Go.Kx
namespace Go.Proofs.YtggegpiffjbngaaGreat
open Go Go.Kx Go.RowKit
section
variable {n:NtV} {o u:List Int}
theorem As2 (h:outsOk n o):o.Pairwise (·<·)/\∀ x∈o,0<=x/\x<n.ls.length:=by
 refine ⟨List.pairwise_iff_getElem.2 fun i j hi hj hij=>?_,fun x hx=>?_⟩
 ·have:=V6 h (j-i) i (by omega)
  rw [show i+(j-i)=j by omega,List.getD_eq_getElem?_getD,List.getD_eq_getElem?_getD,List.getElem?_eq_getElem hi,List.getElem?_eq_getElem hj] at this
  simp only [Option.getD_some] at this
  omega
 ·obtain ⟨i,hi,rfl⟩:=List.mem_iff_getElem.1 hx
  have:=h i hi
  rw [List.getD_eq_getElem?_getD,List.getElem?_eq_getElem hi] at this
  exact ⟨this.1,this.2.1⟩
theorem Au6 (hp:u.Pairwise (·<·)) (hx:∀ x∈u,0<=x/\x<n.ls.length):outsOk n u:=fun i hi=>by
 have h1:=hx _ (List.getElem_mem hi)
 rw [List.getD_eq_getElem?_getD,List.getElem?_eq_getElem hi]
 refine ⟨h1.1,h1.2,fun h0=>?_⟩
 rw [List.getD_eq_getElem?_getD,List.getElem?_eq_getElem (by omega:i-1<u.length)]
 exact List.pairwise_iff_getElem.1 hp (i-1) i (by omega) hi (by omega)
theorem As3 (hO:outE n o=0) (hp:u.Pairwise (·<·)) (hx:∀ x∈u,0<=x/\x<n.ls.length):outE n u=0:=by
 obtain ⟨hc,_⟩:=AE0 hO
 unfold outE
 rw [if_neg (by simpa using hc),if_pos (Au6 hp hx)]
theorem nw_cut {k:Nat} (hm:∀ j,j∈oN u<->j=k\/j∈oN o):nwOf n u=(nwOf n o).cut k:=by
 have:(fun j=>if j∈oN u then (0:Rat) else ((n.ls.getD j ln0).x:Rat)⁻¹)=fun j=>if j=k then 0 else if j∈oN o then (0:Rat) else ((n.ls.getD j ln0).x:Rat)⁻¹:=by
  funext j
  by_cases h:j=k
  ·rw [if_pos ((hm j).2 (.inl h)),if_pos h]
  ·rw [if_neg h]
   by_cases h2:j∈oN o
   ·rw [if_pos ((hm j).2 (.inr h2)),if_pos h2]
   ·rw [if_neg h2,if_neg fun h'=>((hm j).1 h').elim h h2]
 show Nw.mk _ _ _ _ _=Nw.mk _ _ _ _ _
 rw [this]
 rfl
theorem ins_ok {k:Nat} (hO:outE n o=0) (hk:k<n.ls.length) (h:Ins o (k:Nat) u):outE n u=0/\nwOf n u=(nwOf n o).cut k:=by
 have hp:=As2 (AE0 hO).2
 have hx:∀ x∈u,0<=x/\x<n.ls.length:=fun x hx=>by
  rcases (h.mem x).1 hx with rfl | h1
  ·omega
  ·exact hp.2 x h1
 refine ⟨As3 hO h.inc hx,nw_cut fun j=>?_⟩
 unfold oN
 rw [List.mem_map,List.mem_map]
 constructor
 ·rintro ⟨x,hxu,rfl⟩
  rcases (h.mem x).1 hxu with rfl | h1
  ·exact .inl (by simp)
  ·exact .inr ⟨x,h1,rfl⟩
 ·rintro (rfl | ⟨x,hxo,rfl⟩)
  ·exact ⟨_,(h.mem _).2 (.inl O),by simp⟩
  ·exact ⟨x,(h.mem x).2 (.inr hxo),rfl⟩
theorem g_in2 (ok:nwOk n o) {k:Nat} (hk:k<n.ls.length) (h:k∉oN o):(nwOf n o).g k≠0:=by
 have hx:=ok.x k hk
 show (if k∈oN o then (0:Rat) else ((n.ls.getD k ln0).x:Rat)⁻¹)≠0
 rw [if_neg h]
 intro h
 have h3:(((n.ls.getD k ln0).x:Int):Rat)≠0:=by
  intro h
  have:=Rat.intCast_inj.1 (h.trans Rat.intCast_zero.symm)
  omega
 have:=Rat.mul_inv_cancel _ h3
 rw [h,Rat.mul_zero] at this
 exact absurd this (by decide)
theorem Au9 {k:Nat} (h:k∉oN o):((k:Nat):Int)∉o:=fun h'=>h (List.mem_map.2 ⟨_,h',by simp⟩)
theorem BB6 (hO:outE n o=0):o.length<=n.ls.length:=by
 have h:=(AE0 hO).2
 rcases Nat.eq_zero_or_pos o.length with h0 | h0
 ·omega
 ·have h1:=V6 h (o.length-1) 0 (by omega)
  have h2:=h (o.length-1) (by omega)
  have h3:=h 0 h0
  rw [show 0+(o.length-1)=o.length-1 by omega] at h1
  omega
end
theorem At7:Ent Tryz.prog 111:=A0 Tryz.func111 (by kernel_rfl) rfl
set_option maxRecDepth 8000 in
theorem At8 {S:Nat->Prop} {w:World} {vn vo:Value} {n:NtV} {o:List Int} (up:Up S w) (hn:eN.R S w vn n) (ho:eI.R S w vo o) :
  CR Tryz.prog 111 #[vn,vo] w (Two (Is (.int .i64 (if outE n o=0 then ((nwOf n o).refs.length:Nat) else 0))) (Is (.int .i64 (outE n o)))):=by
 obtain ⟨s,rfl,hs,hb⟩:=hn
 have hn:eN.R S w (.agg #[.int .i64 n.b,s]) n:=⟨s,rfl,hs,hb⟩
 refine enter Tryz.func111 O Tryz.ntmps111 O (.beg (.go O (.box O O fun w1 b2 n1=>?_)))
 obtain ⟨e1,k2,hb2,hs1⟩:=n1
 refine .go O (.ldA ty_N O O k2 O (.go O ?_))
 refine .call _ O AG7 O (AG1 (up.ext e1.size) (hn.ext e1) (ho.ext e1)) fun v2 w2 e2 h2=>?_
 obtain ⟨vr,ve,rfl,hr,he⟩:=h2
 replace he:ve=.int .i64 (outE n o):=he
 subst he
 have x2:=e1.trans e2
 refine .go O ?_
 by_cases hO:outE n o=0
 rotate_left
 ·exact .neqT O O O hO (.goE O (.plain [_,_] Tryz.results111 ⟨rfl,rfl,trivial⟩ ⟨x2,_,_,rfl,by rw [if_neg hO],rfl⟩))
 rw [if_pos hO] at hr
 refine .neqF O O O hO (.go O (.lenR un_I O O hr ?_))
 rw [show (pInts (nwOf n o).refs).length=(nwOf n o).refs.length by simp]
 exact .goE O (.plain [_,_] Tryz.results111 ⟨rfl,rfl,trivial⟩ ⟨x2,_,_,rfl,by rw [if_pos hO],by rw [hO]⟩)
def brL (n:NtV) (o:List Int):List Nat:=(inL n o).filter fun k=>decide ((nwOf n o).brg k)
theorem Ay2:Ent Tryz.prog 50:=A0 Tryz.func50 (by kernel_rfl) rfl
set_option maxRecDepth 8000 in
theorem Ay5 {S:Nat->Prop} {w:World} {vn vo:Value} {n:NtV} {o:List Int} (up:Up S w) (hn:eN.R S w vn n) (ho:eI.R S w vo o) :
  CR Tryz.prog 50 #[vn,vo] w (Two (eI.at S (if outE n o=0 then pInts (brL n o) else [])) (Is (.int .i64 (outE n o)))):=by
 obtain ⟨s,rfl,hs,hb⟩:=hn
 have hn:eN.R S w (.agg #[.int .i64 n.b,s]) n:=⟨s,rfl,hs,hb⟩
 refine enter Tryz.func50 O Tryz.ntmps50 O (.beg (.go O (.box O O fun w1 b2 n1=>?_)))
 obtain ⟨e1,k2,hb2,hs1⟩:=n1
 replace k2:Blk w1 b2 24 #[.int .i64 n.b,s]:=k2
 refine .go O (.ldA ty_N O O k2 O (.go O ?_))
 refine .call _ O AD0 O (AB9 (up.ext e1.size) (hn.ext e1) (ho.ext e1)) fun v2 w2 e2 h2=>?_
 obtain ⟨vl,ve,rfl,hl,he⟩:=h2
 replace he:ve=.int .i64 (outE n o):=he
 subst he
 have x2:=e1.trans e2
 have k2:=k2.ext e2
 refine .go O ?_
 by_cases hO:outE n o=0
 rotate_left
 ·refine .neqT O O O hO (.goE O (.plain [_,_] Tryz.results50 ⟨rfl,rfl,trivial⟩ ⟨x2,_,_,rfl,?_,rfl⟩))
  rw [if_neg hO];exact RL.nil
 have ok:=P2 hO
 have hM10:n.ls.length<=10:=ok.m
 have hll:=Z4 n o
 have hpw:=As2 (AE0 hO).2
 have hol:=BB6 hO
 rw [if_pos hO] at hl ⊢
 refine .neqF O O O hO (.go O (.ldA ty_N O O k2 O (.go O ?_)))
 refine .call _ O At7 O (At8 (up.ext x2.size) (hn.ext x2) (ho.ext x2)) fun v3 w3 e3 h3=>?_
 obtain ⟨vc,ve,rfl,hc,he⟩:=h3
 replace he:ve=.int .i64 (outE n o):=he
 replace hc:vc=.int .i64 (if outE n o=0 then ((nwOf n o).refs.length:Nat) else 0):=hc
 rw [if_pos hO] at hc
 subst he hc
 have x3:=x2.trans e3
 have k2:=k2.ext e3
 have hl:=ER.ext eI hl e3
 have z3:=x3.size
 refine .go O (.neqF O O O hO (.go O (.lenR un_I O O hl (.goC O ?_))))
 rw [show (pInts (inL n o)).length=(inL n o).length by simp]
 generalize hP:(fun k=>decide ((nwOf n o).brg k))=P
 have hbr:brL n o=(inL n o).filter P:=by rw [<-hP];rfl
 rw [hbr]
 refine .lp (α:=Nat×Value) [1,2,8,33,34] O (fun y=>[(9,y.2),(35,.int .i64 (y.1:Nat))]) (fun y W=>Ext w3 W/\y.1<=(inL n o).length/\OwnL (eInt .i64) 3 w3.heap.size S W y.2 (pInts (((inL n o).take y.1).filter P))) (fun y=>(inL n o).length-y.1) (0,.slice none 0 0) (lc2 O O) ⟨Ext.refl _,Nat.zero_le _,OwnL.nil⟩ ?_
 rintro ⟨i,v⟩ W ⟨hW,hi,hown⟩
 replace hW:Ext w3 W:=hW
 replace hi:i<=(inL n o).length:=hi
 replace hown:OwnL (eInt .i64) 3 w3.heap.size S W v (pInts (((inL n o).take i).filter P)):=hown
 have hlW:=ER.ext eI hl hW
 have xW:=x3.trans hW
 have zW:=hW.size
 refine .go O ?_
 rcases Nat.lt_or_ge i (inL n o).length with hlt | hge
 rotate_left
 ·have:i=(inL n o).length:=by omega
  subst this
  rw [List.take_of_length_le (Nat.le_refl _)] at hown
  exact .lssF O O O (by omega) (.goE O (.plain [_,_] Tryz.results50 ⟨rfl,rfl,trivial⟩ ⟨xW,_,_,rfl,hown.toR (fun k hk=>up k (by omega)) (fun _ h=>h),by rw [hO]⟩))
 obtain ⟨hgk,hkM,hko⟩:=AK7 hlt
 have htk:(inL n o).take (i+1)=(inL n o).take i++[(inL n o).getD i 0]:=by rw [List.take_add_one,A8 (z:=0) hlt];rfl
 have hfl:(((inL n o).take i).filter P).length<=10:=Nat.le_trans (List.length_filter_le ..) (by rw [List.length_take];omega)
 generalize (inL n o).getD i 0=k at hgk hkM hko htk
 have hgk0:=g_in2 ok hkM hko
 refine .lssT O O O (by omega) (.go O (.ixN (i:=i) un_I B4 O O hlW O hgk fun q hq=>.ldE (E:=eInt .i64) B4 O O hq fun e he=>.go O ?_))
 obtain ⟨rfl,_⟩:=he
 refine .bsl _ O O AI6 fun W1 b1 n1=>?_
 have hk1:eI.R S W1 (.slice (some ⟨b1,0,none⟩) 1 1) [((k:Nat):Int)]:=Ao4 (E:=eInt .i64) (hsz:=by decide) [.int .i64 (k:Nat)] [((k:Nat):Int)] n1 (up.ext xW.size) O O (by decide) (Els.snoc Els.nil ⟨rfl,I3.2 (by omega)⟩)
 have d1:=n1.1
 have x1:=xW.trans d1
 refine .call _ O E_Union O (Union_c (up.ext x1.size) (ho.ext x1) hk1 hpw.1 (fun x hx=>(hpw.2 x hx).1) (by omega) (Au9 hko) (by omega)) fun v5 W5 d5 h5=>?_
 obtain ⟨vu,ve,rfl,⟨u,hIns,hu⟩,rfl⟩:=h5
 obtain ⟨hOu,hcut⟩:=ins_ok hO hkM hIns
 have x5:=x1.trans d5
 refine .go O (.neqF O O O O (.go O (.ldA ty_N O O (k2.ext ((hW.trans d1).trans d5)) O (.go O ?_))))
 refine .call _ O At7 O (At8 (up.ext x5.size) (hn.ext x5) hu) fun v6 W6 d6 h6=>?_
 obtain ⟨vc,ve,rfl,hc,he⟩:=h6
 replace he:ve=.int .i64 (outE n u):=he
 replace hc:vc=.int .i64 (if outE n u=0 then ((nwOf n u).refs.length:Nat) else 0):=hc
 rw [if_pos hOu,hcut] at hc
 rw [hOu] at he
 subst he hc
 have dd:=(d1.trans d5).trans d6
 have hWW:=hW.trans dd
 have hbc:=Nw.brg_cnt ok.ok hkM hgk0
 refine .go O (.neqF O O O O (.go O ?_))
 by_cases hB:(nwOf n o).brg k
 ·have hPk:P k=true:=by rw [<-hP];exact decide_eq_true hB
  have hbc:=hbc.1 hB
  refine .gtrT O O O (by omega) (.go O (.bsl _ O O AI6 fun W7 b7 n7=>?_))
  obtain ⟨d7,k7,hb7,hs7⟩:=n7
  have d17:=dd.trans d7
  have hW7:=hW.trans d17
  refine .gv O O (Z5 (E:=eInt .i64) (base:=w3.heap.size) (n:=((k:Nat):Int)) (e:=.int .i64 (k:Nat)) (by decide) un_I T7 O O O (hown.ext d17) k7 ⟨rfl,I3.2 (by omega)⟩ (by simp;omega) (by decide) hW7.size) ?_
  rintro v8 W8 ⟨ho8,hg8⟩
  have hW8:Ext w3 W8:=OwnL.below (hown.ext d17) hg8 hW7 hW7.size
  refine .go O (.inc O O O (by omega) (.goN O (.mk (i+1,v8) O (lc2 O O) ⟨⟨hW8,hlt,?_⟩,by show (inL n o).length-(i+1)<(inL n o).length-i;omega⟩)))
  show OwnL (eInt .i64) 3 w3.heap.size S W8 v8 (pInts (((inL n o).take (i+1)).filter P))
  rw [htk,List.filter_append,List.filter_cons_of_pos hPk,List.filter_nil]
  unfold pInts
  rw [List.map_append]
  exact ho8
 ·have hPk:¬ P k=true:=by rw [<-hP];simpa using hB
  have hbc:¬ _:=fun h=>hB (hbc.2 h)
  refine .gtrF O O O (by omega) (.go O (.inc O O O (by omega) (.goN O (.mk (i+1,v) O (lc2 O O) ⟨⟨hWW,hlt,?_⟩,by show (inL n o).length-(i+1)<(inL n o).length-i;omega⟩))))
  show OwnL (eInt .i64) 3 w3.heap.size S W6 v (pInts (((inL n o).take (i+1)).filter P))
  rw [htk,List.filter_append,List.filter_cons_of_neg hPk,List.filter_nil,List.append_nil]
  exact hown.ext dd
section
variable {n:NtV} {o:List Int} {c:List Nat}
theorem AV0 (c:List Nat):oN (pInts c)=c:=by
 unfold oN
 rw [List.map_map]
 exact List.map_id'' (fun x=>by simp) c
theorem BB3 (h:c.Pairwise (·<·)):(pInts c).Pairwise (·<·):=List.pairwise_map.2 (h.imp fun h=>by omega)
theorem AN4 (p:List Nat) (i:Nat):(freeTo p i).Pairwise (·<·):=List.pairwise_lt_range.filter _
theorem Ah8 (hO:outE n o=0) (hp:c.Pairwise (·<·)) (hx:∀ x∈c,x<n.ls.length):outE n (pInts c)=0 :=
 As3 hO (BB3 hp) fun x h=>by
  obtain ⟨k,hk,rfl⟩:=List.mem_map.1 h
  have:=hx k hk
  omega
theorem Ac4 (hO:outE n o=0):outE n (pInts (inL n (pInts c)))=0:=Ah8 hO (AN4 _ _) fun _ h=>(Z1.1 h).1
theorem AU8 {k:Nat} (hk:k<n.ls.length):k∈oN (pInts (inL n (pInts c)))<->k∉c:=by
 rw [AV0,Z1,AV0]
 exact ⟨fun h=>h.2,fun h=>⟨hk,h⟩⟩
theorem An0 {k:Nat} (hk:k<n.ls.length) (h:k∈c->(nwOf n o).g k≠0):(nwOf n (pInts (inL n (pInts c)))).g k=if k∈c then (nwOf n o).g k else 0:=by
 show (if k∈oN (pInts (inL n (pInts c))) then (0:Rat) else ((n.ls.getD k ln0).x:Rat)⁻¹)=_
 by_cases hc:k∈c
 ·rw [if_neg (fun h'=>(AU8 hk).1 h' hc),if_pos hc]
  have h:=h hc
  have e:(nwOf n o).g k=if k∈oN o then (0:Rat) else ((n.ls.getD k ln0).x:Rat)⁻¹:=rfl
  rw [e] at h ⊢
  by_cases ho:k∈oN o
  ·rw [if_pos ho] at h;exact absurd O h
  ·rw [if_neg ho]
 ·rw [if_pos ((AU8 hk).2 hc),if_neg hc]
theorem Au7 {k:Nat} (hk:k<=n.ls.length) (hc:∀ j,j<n.ls.length->(j∈c<->j<k/\(nwOf n o).trk j)) (b:Nat):(nwOf n (pInts (inL n (pInts c)))).root b=(nwOf n o).rootTo k b:=by
 have hg:∀ j,j<n.ls.length->(nwOf n (pInts (inL n (pInts c)))).g j=if j∈c then (nwOf n o).g j else 0:=fun j hj=>An0 hj fun h=>((hc j hj).1 h).2.1
 show (nwOf n (pInts (inL n (pInts c)))).rootTo n.ls.length b=_
 rw [show n.ls.length=k+(n.ls.length-k) by omega,Nw.rootTo_skip _ fun j h1 h2=>by rw [hg j (by omega),if_neg fun h=>by have:=((hc j (by omega)).1 h).1;omega]]
 rw [Nw.rootTo_congr (n:=(nwOf n o).forest) (m:=nwOf n (pInts (inL n (pInts c)))) O O k fun j hj=>?_,Nw.forest_rootTo]
 rw [hg j (by omega)]
 show _=if (nwOf n o).trk j then (nwOf n o).g j else 0
 by_cases h:(nwOf n o).trk j
 ·rw [if_pos h,if_pos ((hc j (by omega)).2 ⟨hj,h⟩)]
 ·rw [if_neg h,if_neg fun h'=>h ((hc j (by omega)).1 h').2]
def trL (n:NtV) (o:List Int):List Nat:=(inL n o).filter fun k=>decide ((nwOf n o).trk k)
theorem AE2 {k:Nat}:k∈trL n o<->k∈inL n o/\(nwOf n o).trk k:=by
 unfold trL
 rw [List.mem_filter]
 exact and_congr_right fun _=>decide_eq_true_iff
theorem BA1 {i k:Nat} (hi:i<(inL n o).length) (hk:(inL n o)[i]?=some k) {j:Nat}:j∈(inL n o).take i<->j∈inL n o/\j<k:=by
 have hp0:(inL n o).Pairwise (·<·):=AN4 _ _
 have hp:=List.pairwise_iff_getElem.1 hp0
 obtain ⟨_,rfl⟩:=List.getElem?_eq_some_iff.1 hk
 constructor
 ·intro h
  obtain ⟨a,ha,rfl⟩:=List.mem_iff_getElem.1 h
  rw [List.length_take] at ha
  rw [List.getElem_take]
  exact ⟨List.getElem_mem _,hp a i (by omega) hi (by omega)⟩
 ·rintro ⟨h,hlt⟩
  obtain ⟨a,ha,rfl⟩:=List.mem_iff_getElem.1 h
  rcases Nat.lt_or_ge a i with h1 | h1
  ·exact List.mem_iff_getElem.2 ⟨a,by rw [List.length_take];omega,List.getElem_take⟩
  ·rcases Nat.lt_or_ge i a with h2 | h2
   ·have:=hp i a hi ha h2;omega
   ·have:a=i:=by omega
    subst this;omega
end
theorem E_Tree:Ent Tryz.prog 48:=A0 Tryz.func48 (by kernel_rfl) rfl
set_option maxRecDepth 8000 in
theorem Tree_c {S:Nat->Prop} {w:World} {vn vo:Value} {n:NtV} {o:List Int} (up:Up S w) (hn:eN.R S w vn n) (ho:eI.R S w vo o) :
  CR Tryz.prog 48 #[vn,vo] w (Two (eI.at S (if outE n o=0 then pInts (trL n o) else [])) (Is (.int .i64 (outE n o)))):=by
 obtain ⟨s,rfl,hs,hb⟩:=hn
 have hn:eN.R S w (.agg #[.int .i64 n.b,s]) n:=⟨s,rfl,hs,hb⟩
 refine enter Tryz.func48 O Tryz.ntmps48 O (.beg (.go O (.box O O fun w1 b2 n1=>?_)))
 obtain ⟨e1,k2,hb2,hs1⟩:=n1
 replace k2:Blk w1 b2 24 #[.int .i64 n.b,s]:=k2
 refine .go O (.ldA ty_N O O k2 O (.go O ?_))
 refine .call _ O AD0 O (AB9 (up.ext e1.size) (hn.ext e1) (ho.ext e1)) fun v2 w2 e2 h2=>?_
 obtain ⟨vl,ve,rfl,hl,he⟩:=h2
 replace he:ve=.int .i64 (outE n o):=he
 subst he
 have x2:=e1.trans e2
 have k2:=k2.ext e2
 refine .go O ?_
 by_cases hO:outE n o=0
 rotate_left
 ·refine .neqT O O O hO (.goE O (.plain [_,_] Tryz.results48 ⟨rfl,rfl,trivial⟩ ⟨x2,_,_,rfl,?_,rfl⟩))
  rw [if_neg hO];exact RL.nil
 have ok:=P2 hO
 have hM10:n.ls.length<=10:=ok.m
 have hll:=Z4 n o
 have z2:=x2.size
 have hnb:=ok.b
 rw [if_pos hO] at hl ⊢
 refine .neqF O O O hO (.go O (.lenR un_I O O hl (.goC O ?_)))
 rw [show (pInts (inL n o)).length=(inL n o).length by simp]
 generalize hP:(fun k=>decide ((nwOf n o).trk k))=P
 have hbr:trL n o=(inL n o).filter P:=by rw [<-hP];rfl
 rw [hbr]
 refine .lp (α:=Nat×Value) [2,23,24] O (fun y=>[(8,y.2),(25,.int .i64 (y.1:Nat))]) (fun y W=>Ext w2 W/\y.1<=(inL n o).length/\OwnL (eInt .i64) 3 w2.heap.size S W y.2 (pInts (((inL n o).take y.1).filter P))) (fun y=>(inL n o).length-y.1) (0,.slice none 0 0) (lc2 O O) ⟨Ext.refl _,Nat.zero_le _,OwnL.nil⟩ ?_
 rintro ⟨i,v⟩ W ⟨hW,hi,hown⟩
 replace hW:Ext w2 W:=hW
 replace hi:i<=(inL n o).length:=hi
 replace hown:OwnL (eInt .i64) 3 w2.heap.size S W v (pInts (((inL n o).take i).filter P)):=hown
 have hlW:=ER.ext eI hl hW
 have xW:=x2.trans hW
 have zW:=hW.size
 refine .go O ?_
 rcases Nat.lt_or_ge i (inL n o).length with hlt | hge
 rotate_left
 ·have:i=(inL n o).length:=by omega
  subst this
  rw [List.take_of_length_le (Nat.le_refl _)] at hown
  exact .lssF O O O (by omega) (.goE O (.plain [_,_] Tryz.results48 ⟨rfl,rfl,trivial⟩ ⟨xW,_,_,rfl,hown.toR (fun k hk=>up k (by omega)) (fun _ h=>h),by rw [hO]⟩))
 obtain ⟨hgk,hkM,hko⟩:=AK7 hlt
 have hgN:(inL n o)[i]?=some ((inL n o).getD i 0):=A8 (z:=0) hlt
 have htk:(inL n o).take (i+1)=(inL n o).take i++[(inL n o).getD i 0]:=by rw [List.take_add_one,hgN];rfl
 have hfl:(((inL n o).take i).filter P).length<=10:=Nat.le_trans (List.length_filter_le ..) (by rw [List.length_take];omega)
 generalize (inL n o).getD i 0=k at hgk hkM hko htk hgN
 have hgk0:=g_in2 ok hkM hko
 have hcm:∀ j,j<n.ls.length->(j∈((inL n o).take i).filter P<->j<k/\(nwOf n o).trk j):=fun j hj=>by
  rw [List.mem_filter,BA1 hlt hgN,<-hP]
  constructor
  ·rintro ⟨⟨_,h1⟩,h2⟩;exact ⟨h1,of_decide_eq_true h2⟩
  ·rintro ⟨h1,h2⟩
   refine ⟨⟨Z1.2 ⟨hj,fun h=>h2.1 ?_⟩,h1⟩,decide_eq_true h2⟩
   exact (ok.g0 hj).2 h
 have hcp:(((inL n o).take i).filter P).Pairwise (·<·):=((AN4 _ _:(inL n o).Pairwise (·<·)).sublist (List.take_sublist i _)).filter _
 have hOc:outE n (pInts (((inL n o).take i).filter P))=0:=Ah8 hO hcp fun x hx=>(Z1.1 (List.mem_of_mem_take (List.mem_filter.1 hx).1)).1
 have hr:=fun b=>Au7 (c:=((inL n o).take i).filter P) (b:=b) (Nat.le_of_lt hkM) hcm
 generalize hC:((inL n o).take i).filter P=C at hown hfl hOc hr
 have hOr:outE n (pInts (inL n (pInts C)))=0:=Ac4 hO
 refine .lssT O O O (by omega) (.go O (.ixN (i:=i) un_I B4 O O hlW O hgk fun q hq=>.ldE (E:=eInt .i64) B4 O O hq fun e he=>.go O ?_))
 obtain ⟨rfl,_⟩:=he
 refine .ldA ty_N O O (k2.ext hW) O (.go O ?_)
 refine .call _ O AD0 O (AB9 (up.ext xW.size) (hn.ext xW) (hown.toR (S:=S) (hsz:=by decide) (fun k hk=>up k (by omega)) (fun _ h=>h))) fun v3 W3 d3 h3=>?_
 obtain ⟨vr,ve,rfl,hrs,he⟩:=h3
 replace he:ve=.int .i64 (outE n (pInts C)):=he
 rw [hOc] at he hrs
 subst he
 rw [if_pos rfl] at hrs
 have hW3:=hW.trans d3
 have x3:=x2.trans hW3
 have k2:=k2.ext hW3
 have hgl:n.ls[k]?=some (n.ls.getD k ln0):=A8 hkM
 have hFI:=ok.fI k hkM
 have hTI:=ok.tI k hkM
 have hFB:=ok.f k hkM
 have hTB:=ok.t k hkM
 have hF0:lnI (n.ls.getD k ln0) 0=(((nwOf n o).F k:Nat):Int):=hFI
 have hT0:lnI (n.ls.getD k ln0) 1=(((nwOf n o).T k:Nat):Int):=hTI
 have hsW:∀ {W:World},Ext W3 W->eLs.R S W s n.ls:=fun e=>ER.ext eLs hs (x3.trans e)
 have hce:conE n (pInts (inL n (pInts C))) ((nwOf n o).F k:Nat) ((nwOf n o).T k:Nat)=0:=by
  unfold conE
  rw [if_neg (by simpa using hOr),if_pos ⟨⟨by omega,by omega⟩,⟨by omega,by omega⟩⟩]
 have hcb:conB n (pInts (inL n (pInts C))) ((nwOf n o).F k:Nat) ((nwOf n o).T k:Nat) = !P k:=by
  unfold conB
  rw [<-hP]
  simp only [Int.toNat_natCast,hr,hce,true_and]
  by_cases h:(nwOf n o).rootTo k ((nwOf n o).F k)=(nwOf n o).rootTo k ((nwOf n o).T k)
  ·rw [decide_eq_true h,decide_eq_false fun h'=>h'.2 h];rfl
  ·rw [decide_eq_false h,decide_eq_true (show (nwOf n o).trk k from ⟨hgk0,h⟩)];rfl
 have hCon:∀ {W:World},Ext W3 W->CR Tryz.prog 79 #[.agg #[.int .i64 n.b,s],vr,.int .i64 ((nwOf n o).F k:Nat),.int .i64 ((nwOf n o).T k:Nat)] W (Two (Is (.bool (!P k))) (Is (.int .i64 0))):=fun e=>by
  have:=Q9 (a:=((nwOf n o).F k:Nat)) (b:=((nwOf n o).T k:Nat)) (up.ext (x3.trans e).size) (hn.ext (x3.trans e)) (ER.ext eI hrs e)
  rw [hce,hcb] at this
  exact this
 refine .go O (.neqF O O O O (.goC O ?_))
 refine .par follows 19 [.inl (.agg #[.int .i64 n.b,s]),.inl _,.inl _,.inl s,.inl (.int .i64 (k:Nat)),.inr (Ptr eL S (n.ls.getD k ln0)),.inr (Ptr (eInt .i64) S ((nwOf n o).F k:Nat)),.inl (.int .i64 ((nwOf n o).F k:Nat)),.inl _,.inl s,.inl (.int .i64 (k:Nat)),.inr (Ptr eL S (n.ls.getD k ln0)),.inr (Ptr (eInt .i64) S ((nwOf n o).T k:Nat)),.inl (.int .i64 ((nwOf n o).T k:Nat)),.inr (Two (Is (.bool (!P k))) (Is (.int .i64 0))),.inr (Two (Is (.bool (!P k))) (Is (.int .i64 0))),.inl (.bool (!P k)),.inl (.int .i64 0),.inl (.bool (!P k))] [[],[],[],[(41,2)],[],[(42,3),(43,4)],[(44,5)],[(45,6)],[],[(47,8)],[],[(48,9),(49,10)],[(50,11)],[(51,12)],[(39,0),(40,1),(46,7),(52,13)],[(53,14)],[(38,15)],[(38,15)],[(54,16)]] (by kernel_rfl) ⟨
  fun w e=>(B8 ty_N O (k2.ext e) O).ob,
  fun w e=>(v_mv O).ob,
  fun w e=>(v_fa K8 O).ob,
  fun w e=>(v_ld Q8 O (k2.ext e) O).ob,
  fun w e=>(v_mv O).ob,
  fun w e=>E5 (i:=k) O9 S2 O (hsW e) O hgl,
  fun w e x5 hx5=>(by rw [<-hF0];exact Ac5 K2 O hx5 (by decide)),
  fun w e x6 hx6=>AB7 A7 O hx6,
  fun w e=>(v_fa K8 O).ob,
  fun w e=>(v_ld Q8 O (k2.ext e) O).ob,
  fun w e=>(v_mv O).ob,
  fun w e=>E5 (i:=k) O9 S2 O (hsW e) O hgl,
  fun w e x11 hx11=>(by rw [<-hT0];exact Ac5 K1 O hx11 (by decide)),
  fun w e x12 hx12=>AB7 A7 O hx12,
  fun w e=>(A1 _ R6 O (hCon e)).ob (AH6 (AO7 _) (AO7 _)),
  fun w e x14 hx14=>V7 (v_mv O) hx14 (AH6 (AO7 _) (AO7 _)),
  fun w e x15 hx15=>by
   obtain ⟨p1,q1,rfl,hp1,hq1⟩:=hx15
   exact ((v_ex O O).eq hp1).ob,
  fun w e x15 hx15=>by
   obtain ⟨p1,q1,rfl,hp1,hq1⟩:=hx15
   exact ((v_ex O O).eq hq1).ob,
  fun w e=>(v_as O).ob,trivial⟩ ?_
 intro W6 d6 y5 hy5 y6 hy6 y11 hy11 y12 hy12 y14 hy14 y15 hy15
 have hWW:=hW3.trans d6
 have dd:=d3.trans d6
 refine .go O (.neqF O O O O ?_)
 have hcat:C++(if P k=true then [k] else [])=((inL n o).take (i+1)).filter P:=by
  rw [htk,List.filter_append,hC]
  by_cases h:P k=true
  ·rw [if_pos h,List.filter_cons_of_pos h,List.filter_nil]
  ·rw [if_neg h,List.filter_cons_of_neg h,List.filter_nil]
 cases hPk:P k with
 | true =>
  rw [hPk,if_pos rfl] at hcat
  refine .go O (.bsl _ O O AI6 fun W7 b7 n7=>?_)
  obtain ⟨d7,k7,hb7,hs7⟩:=n7
  have d17:=dd.trans d7
  have hW7:=hW.trans d17
  refine .gv O O (Z5 (E:=eInt .i64) (base:=w2.heap.size) (n:=((k:Nat):Int)) (e:=.int .i64 (k:Nat)) (by decide) un_I T7 O O O (hown.ext d17) k7 ⟨rfl,I3.2 (by omega)⟩ (by simp;omega) (by decide) hW7.size) ?_
  rintro v8 W8 ⟨ho8,hg8⟩
  have hW8:Ext w2 W8:=OwnL.below (hown.ext d17) hg8 hW7 hW7.size
  refine .go O (.inc O O O (by omega) (.goN O (.mk (i+1,v8) O (lc2 O O) ⟨⟨hW8,hlt,?_⟩,by show (inL n o).length-(i+1)<(inL n o).length-i;omega⟩)))
  show OwnL (eInt .i64) 3 w2.heap.size S W8 v8 (pInts (((inL n o).take (i+1)).filter P))
  rw [<-hcat]
  unfold pInts
  rw [List.map_append]
  exact ho8
 | false =>
  rw [hPk,if_neg (by decide),List.append_nil] at hcat
  refine .go O (.inc O O O (by omega) (.goN O (.mk (i+1,v) O (lc2 O O) ⟨⟨hWW,hlt,?_⟩,by show (inL n o).length-(i+1)<(inL n o).length-i;omega⟩)))
  show OwnL (eInt .i64) 3 w2.heap.size S W6 v (pInts (((inL n o).take (i+1)).filter P))
  rw [<-hcat]
  exact hown.ext dd
theorem isM_t {w:World} {va vb:Value} {a b:List (List QV)} (ha:eM.R (fun _=>True) w va a) (hb:eM.R (fun _=>True) w vb b) (h:a=b):CR Tryz.prog 21 #[va,vb] w (Is (.bool true)):=by
 have:=Am5 ha hb
 rwa [I6 h] at this
theorem isV_t {w:World} {va vb:Value} {a b:List QV} (ha:eV.R (fun _=>True) w va a) (hb:eV.R (fun _=>True) w vb b) (h:a=b):CR Tryz.prog 22 #[va,vb] w (Is (.bool true)):=by
 have:=AU7 ha hb
 rwa [I6 h] at this
end Go.Proofs.YtggegpiffjbngaaGreat
