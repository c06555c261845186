/-
  The references: rational numbers: Least, Add, Mul, Neg, Sub, Sign, Cmp The references: ref02 Sub, Cmp; vectors: At, Combine, Add, Scale, Dot The references: vectors: Combine, Add, Scale, Dot The references: matrices: At, row, place, made The references: matrices: place of a product, made, Mul, Turn, Beside The references: matrices: Mul, Turn, Beside, Times, Add The references: matrices: Add, Scale, Left The references: matrices: Left mat.Scale The laws' own copies: Own The laws' own copies: vectors and matrices Matrices with their bounds; the algebra of matrices: plain. law 04: MatRing law 05: long, tall; the references Of, Ints; vec.Sign law 05: what the answers of package solve satisfy; plain. law 05: what inverses and determinants satisfy; plain. law 05: every solution; plain. Package net: Outs, In Potentials on a network: plain. Package island: Of Package island: Of Package island: Refs, Connected Packages whole, frac, vec: Abs, New, Sub Package right: exists, Check The Laplacian, line by line: plain. Package shift: equations Package shift: a column of factors Package right: inject, In Package shift: transpose The equations of a network have one solution: plain. Package shift: Factors, Between, Flows What shift factors satisfy: plain. Shift factors are small: plain. Package right: Flows, Feasible node.Trade, right.Pays law 05: the numbers of the examples law 05: alive; SolveExamples law 18: Long, three, fifths, told, awake Package flow: NetOutflow Package flow: a line in service Package flow: Laplacian Networks: the angles and flows of injections Package flow: Balanced, Angles, Flows law 17: Long, three, ints, awake Elements that the call changes in place, in a row with room behind it. Rows of rows that grow: slices as they are, in a row of the call's own. Package island: Members law 17: Balance law 17: common facts of the laws
-/
import Derived.Test.YtfilidfomgfnhaaGreatG5
set_option linter.unusedVariables false
namespace Go.Kx
end Go.Kx
namespace Go.Proofs.YtfilidfomgfnhaaGreat
open Go Go.Kx Go.RowKit
theorem zl {n:Int} {L K:Nat} (h:n.natAbs<4294967296 ^ L) (hL:L≤K):(zc n).w.length≤K:=Nat.le_trans (S3 h) hL
theorem eQ_digs {S:Nat→Prop} {w:World} {v:Value} {q:QV} (h:eQ.R S w v q):dig q.num.w∧dig q.den.w:=by
 obtain ⟨s,t,_,h1,h2⟩:=h
 exact ⟨E1 h1,E1 h2⟩
theorem AI3:Ent Tryz.prog 111:=A0 Tryz.func111 (by kernel_rfl) rfl
theorem AH8 {S:Nat→Prop} {w:World} {v:Value} {q:QV} {L:Nat} (up:Up S w) (h:eQ.R S w v q) (hl:qok L q) (h1:1≤L) (hL:L≤1000000000):CR Tryz.prog 111 #[v] w (eQ.at S (qc (qval q))):=by
 obtain ⟨hd1,hd2⟩:=eQ_digs h
 have hln:=pn_lt hd1 hl
 have hld:=pd_lt hd2 hl h1
 have hpp:=L1 q
 obtain ⟨s,t,rfl,hs,ht⟩:=h
 have h:eQ.R S w (.agg #[.bool q.num.neg,s,.bool q.den.neg,t]) q:=⟨s,t,rfl,hs,ht⟩
 refine enter Tryz.func111 rfl Tryz.ntmps111 rfl ?_
 refine .seq (.region (.box rfl rfl fun w1 b1 n1=>.alloc rfl C5 fun w2 b2 n2=>.nil ?_))
 obtain ⟨e1,k1,hb1,hs1⟩:=n1
 obtain ⟨e2,k2,hb2,hs2⟩:=n2
 have x2:=e1.trans e2
 have k1:=k1.ext e2
 have hS:¬ Sx S w.heap.size w2.heap.size b2:=Sx.no (by omega) (by omega)
 have up2:Up (Sx S w.heap.size w2.heap.size) w2:=Sx.up up (Nat.le_refl _) x2.size
 have h2:=(ER.par eQ h w2.heap.size).ext x2
 have hout:∀ {W:World} {v:Value} {z:QV},eQ.R (Sx S w.heap.size w2.heap.size) W v z→eQ.R S W v z:=fun h=>h.out
 generalize hT:Sx S w.heap.size w2.heap.size=T at *
 refine .seq ?_
 refine .par follows 5 [.inl _,.inr (eZ.at T (zc (pn q))),.inl _,.inr (eZ.at T (zc (pd q))),.inr (eQ.at T (qc (Rat.divInt (zval (zc (pn q))) (zval (zc (pd q))))))] [[],[(3,0)],[],[(5,2)],[(4,1),(6,3)]] (by kernel_rfl) ⟨
  fun w e=>(B3 ty_Q rfl (k1.ext e) rfl).ob,fun w e=>(A1 _ Ao9 rfl (Al5 (up2.ext e.size) (ER.ext eQ h2 e) hl hL)).ob (A6 _ _ _),
  fun w e=>(B3 ty_Q rfl (k1.ext e) rfl).ob,fun w e=>(A1 _ Ap0 rfl (Al6 (up2.ext e.size) (ER.ext eQ h2 e) hl hL)).ob (A6 _ _ _),
  fun w e x hx y hy=>(A1 _ Ai0 rfl (Af4 (up2.ext e.size) hx hy (zl hln (Nat.le_refl _)) (zl hld (Nat.le_refl _)) hL (by rw [E8];exact hpp))).ob (A6 _ _ _),trivial⟩ ?_
 intro w3 e3 x hx y hy z hz
 rw [E8,E8] at hz
 refine .storeA (E:=eQ) ty_Q rfl rfl (k2.ext e3) rfl rfl hz hS fun w4 k4 u4 h4=>.nil (.ret ?_)
 exact .cell Tryz.results111 rfl ty_Q rfl rfl k4 h4 ⟨u4.below (x2.trans e3) (by omega),hout h4⟩
end Go.Proofs.YtfilidfomgfnhaaGreat

namespace Go.Kx
open Go Go.RowKit
end Go.Kx
namespace Go.Proofs.YtfilidfomgfnhaaGreat
open Go Go.Kx Go.RowKit
end Go.Proofs.YtfilidfomgfnhaaGreat

namespace Go.Proofs.YtfilidfomgfnhaaGreat
open Go Go.Kx Go.RowKit
end Go.Proofs.YtfilidfomgfnhaaGreat

namespace Go.Kx
end Go.Kx
namespace Go.Proofs.YtfilidfomgfnhaaGreat
open Go Go.Kx Go.RowKit
end Go.Proofs.YtfilidfomgfnhaaGreat

namespace Go.Proofs.YtfilidfomgfnhaaGreat
open Go Go.Kx Go.RowKit
theorem BE3 {w:World} {v:Value} {t:TypeId} {sz n B B':Nat} {xs:List Value} (h:w.ownsRow B t sz v n xs) (hB:B'≤B):w.ownsRow B' t sz v n xs:=by
 refine ⟨h.1,?_⟩
 rcases h.2 with h | ⟨g,cap,cur,h1,h2,h3⟩
 ·exact .inl h
 ·exact .inr ⟨g,cap,cur,h1,Nat.le_trans hB h2,h3⟩
theorem OwnL.base {α:Type} {E:ER α} {t:TypeId} {B B':Nat} {X:Nat→Prop} {w:World} {v:Value} {l:List α} (h:OwnL E t B X w v l) (hB:B'≤B):OwnL E t B' X w v l:=by
 obtain ⟨es,h1,h2⟩:=h
 exact ⟨es,BE3 h1 hB,h2⟩
end Go.Proofs.YtfilidfomgfnhaaGreat

namespace Go.Proofs.YtfilidfomgfnhaaGreat
open Go Go.Kx Go.RowKit
end Go.Proofs.YtfilidfomgfnhaaGreat

namespace Go.Proofs.YtfilidfomgfnhaaGreat
open Go Go.Kx Go.RowKit
end Go.Proofs.YtfilidfomgfnhaaGreat

namespace Go.Proofs.YtfilidfomgfnhaaGreat
open Go Go.Kx Go.RowKit
end Go.Proofs.YtfilidfomgfnhaaGreat

namespace Go.Proofs.YtfilidfomgfnhaaGreat
open Go Go.Kx Go.RowKit
end Go.Proofs.YtfilidfomgfnhaaGreat

namespace Go.Kx
open Go Go.RowKit
section
variable {P:Program} {σ:Env} {w:World} {d:Option Tmp} {ty:TypeId} {pos:String} {af:Array Edge} {g:Option (Nat×Bool)}
end
end Go.Kx
namespace Go.Proofs.YtfilidfomgfnhaaGreat
open Go Go.Kx Go.RowKit
end Go.Proofs.YtfilidfomgfnhaaGreat

namespace Go.Kx
end Go.Kx
namespace Go.Proofs.YtfilidfomgfnhaaGreat
open Go Go.Kx Go.RowKit
end Go.Proofs.YtfilidfomgfnhaaGreat

namespace Go.Kx
open Go Go.RowKit
end Go.Kx
namespace Go.Proofs.YtfilidfomgfnhaaGreat
open Go Go.Kx Go.RowKit
section
variable {W W':World} {v va vb:Value} {n c n' c' L L':Nat} {a b m:List (List QV)} {x y:List QV}
theorem upT {W:World}:Up (fun _=>True) W:=fun _ _=>trivial
end
end Go.Proofs.YtfilidfomgfnhaaGreat

namespace Go.Proofs.YtfilidfomgfnhaaGreat
open Go Go.Kx Go.RowKit
/-- slices just laid in a row -/
theorem eS_new {α:Type} {E:ER α} {hsz:0<E.sz} {S:Nat→Prop} {w w':World} {b:Nat} {t:TypeId} {cs:Array Value} {n:Nat} (vs:List Value) (ls:List (List α)) (hn:New w w' b t cs) (up:Up S w) (hcs:cs=vs.toArray) (hl:ls.length=n) (hm:n≤1000) (h:Els (RL E hsz) S w vs ls) :
  (RL (RL E hsz) (show 0<1 by decide)).R S w' (.slice (some ⟨b,0,none⟩) n n) ls:=by
 subst hl
 refine RL.ofBlk (es:=vs) hn.2.1 (up b (by have:=hn.2.2.1;omega)) (h.ext hn.1) (fun j u hu=>?_) (Nat.le_refl _) (by omega)
 rw [hcs]
 have hv:∀ v∈vs,v.cells=#[v]:=by
  intro v hv
  obtain ⟨i,hi⟩:=List.mem_iff_getElem?.1 hv
  have hlt:=Ar6 hi
  obtain ⟨a,c,rfl,_⟩:=RL.len (h.2 i v _ hi (List.getElem?_eq_getElem (by rw [←h.1];exact hlt)))
  rfl
 have:cellsOf vs=vs:=by
  clear h hcs hu
  induction vs with
  | nil=>rfl
  | cons v vs ih=>rw [cellsOf,List.flatMap_cons,hv v (by simp),←cellsOf,ih fun u hu=>hv u (by simp [hu])];rfl
 rw [this] at hu
 simpa using hu
end Go.Proofs.YtfilidfomgfnhaaGreat

namespace Go.Proofs.YtfilidfomgfnhaaGreat
open Go Go.Kx Go.RowKit
end Go.Proofs.YtfilidfomgfnhaaGreat

namespace Go.Proofs.YtfilidfomgfnhaaGreat
open Go Go.Kx Go.RowKit
section
variable {m:List (List QV)} {b:List QV}
theorem red_req (m:List (List QV)):Req m.length (colsOf m) (rm m) (redF m):=AY9 _ _ _ _
theorem AR8:(nullM m).length=(freeC m).length:=by unfold nullM;simp
theorem Ay7 (m:List (List QV)):(nullM m).length+(redP m).length=colsOf m:=by rw [AR8];exact (Af7 m).free_len
theorem Ay9 {k:Nat}:k∈freeC m↔k<colsOf m∧k∉redP m:=by
 unfold freeC freeTo
 rw [List.mem_filter,List.mem_range]
 simp
theorem Az0 {i:Nat} (hi:i<(freeC m).length):(freeC m).getD i 0<colsOf m∧(freeC m).getD i 0∉redP m:=Ay9.1 (H2 hi)
theorem not_piv {p:List Nat} {k:Nat} (h:k∉p):∀ j,j<p.length→p.getD j 0≠k:=fun _ hj e=>h (e▸H2 hj)
theorem Ay0 {k:Nat} (hk:k<colsOf m) (i:Nat):sumN (colsOf m) (fun c=>rm m i c*nv (redF m) (redP m) k c)=0:=by
 rcases Nat.lt_or_ge i m.length with hi | hi
 ·exact Spn.dot0 ((red_req m).2 i hi) fun j hj=>nv_null (Af7 m) hk hj
 ·exact T8 fun c _=>by rw [rm_out hi,Rat.zero_mul]
end
end Go.Proofs.YtfilidfomgfnhaaGreat

namespace Go.Proofs.YtfilidfomgfnhaaGreat
open Go Go.Kx Go.RowKit
theorem rsz1 {L:Nat} (hL:1≤L):Rsz 1 L:=by
 have:=Rsz.int 1 (L:=L) (Nat.lt_of_lt_of_le (by decide) (Nat.pow_le_pow_right (by decide) hL)) hL
 simpa using this
section
variable {m:List (List QV)} {b:List QV}
theorem inv_p (hc:colsOf m=m.length):(invE m).2=redP m:=by
 unfold invE redP
 rw [hc]
 exact (An1 (C:=m.length) (fun i k _ hk=>by unfold invF;rw [if_pos hk]) _ (Nat.le_refl _)).2
theorem BF5 (hc:colsOf m=m.length):invertible m↔(redP m).length=m.length:=by
 unfold invertible
 rw [inv_p hc]
 have:=(Af7 m).len
 omega
theorem inv_one (h:invertible m) {i k:Nat} (hi:i<m.length) (hk:k<m.length):(invE m).1 i k=idR i k:=by
 have he:Ech m.length m.length (invE m).1 (invE m).2:=R8 ..
 have hl:(invE m).2.length=m.length:=by have:=he.len;unfold invertible at h;omega
 have:=he.one i k hi (by omega)
 rw [he.full hl k hk] at this
 exact this
theorem rm_inv {i k:Nat} (hi:i<m.length) (hk:k<m.length):rm (invM m) i k=(invE m).1 i (m.length+k):=by
 unfold invM
 rw [AU9,if_pos ⟨hi,hk⟩]
theorem invF_hi {i k:Nat}:invF m i (m.length+k)=idR i k:=by
 unfold invF
 rw [if_neg (by omega),Nat.add_sub_cancel_left]
theorem invF_lo {i k:Nat} (h:k<m.length):invF m i k=rm m i k:=by unfold invF;rw [if_pos h]
theorem sum_id {n:Nat} (t:Nat→Rat) {k:Nat} (hk:k<n):sumN n (fun j=>t j*idR j k)=t k:=by
 rw [K9 (i:=k) (fun j hj hne=>by unfold idR;rw [if_neg hne,Rat.mul_zero]),if_pos hk]
 unfold idR
 rw [if_pos rfl,Rat.mul_one]
/-- the matrix by its inverse -/
theorem Ay3 (h:invertible m) {i k:Nat} (hi:i<m.length) (hk:k<m.length):sumN m.length (fun j=>rm m i j*rm (invM m) j k)=idR i k:=by
 obtain ⟨t,ht⟩:=(AY9 m.length (m.length+m.length) (invF m) m.length).2 i hi
 have h1:∀ j,j<m.length→rm m i j=t j:=fun j hj=>by
  have:=ht j (by omega)
  rw [invF_lo hj] at this
  rw [this,←sum_id t hj]
  exact B5 fun l hl=>by rw [←inv_one h hl hj];rfl
 have h2:=ht (m.length+k) (by omega)
 rw [invF_hi] at h2
 rw [h2]
 exact B5 fun j hj=>by rw [h1 j hj,rm_inv hj hk];rfl
theorem Aw2 {L n:Nat} (hk:mk_ L m) (hL:1≤L) (hn:m.length≤n):mk_ (bd L n) (invM m):=by
 refine AV1 fun i k hi hk'=>?_
 have h1:=AY8 (C:=m.length+m.length) (f:=invF m) hL (fun i k _ _=>by
  unfold invF
  split
  ·exact hk.rsz hL i k
  ·unfold idR
   split
   ·exact rsz1 hL
   ·exact Rsz.zero hL) m.length (by omega) i (m.length+k) hi (by omega)
 exact h1.mono (AN4 L (Nat.le_trans (R8 m.length (invF m) m.length).len hn))
end
end Go.Proofs.YtfilidfomgfnhaaGreat

namespace Go.Proofs.YtfilidfomgfnhaaGreat
open Go Go.Kx Go.RowKit
theorem M5 (p:List Nat) (i:Nat):freeTo p (i+1)=freeTo p i++if i∈p then [] else [i]:=by
 unfold freeTo
 rw [List.range_succ,List.filter_append]
 by_cases h:i∈p<;>simp [h]
theorem AY3 (p:List Nat) (i:Nat):∀ d,∃ t,freeTo p (i+d)=freeTo p i++t
 | 0=>⟨[],(List.append_nil _).symm⟩
 | d+1=>by
  obtain ⟨t,ht⟩:=AY3 p i d
  exact ⟨t++if i+d∈p then [] else [i+d],by rw [←Nat.add_assoc,M5,ht,List.append_assoc]⟩
theorem Ay8 {p:List Nat} {i C:Nat} (hi:i<C) (hp:i∉p):(freeTo p C).getD (freeTo p i).length 0=i∧(freeTo p i).length<(freeTo p C).length:=by
 obtain ⟨t,ht⟩:=AY3 p (i+1) (C-(i+1))
 rw [show i+1+(C-(i+1))=C by omega,M5,if_neg hp] at ht
 rw [ht]
 constructor
 ·simp [List.getD_eq_getElem?_getD]
 ·simp
section
variable {m:List (List QV)} {b z:List QV}
end
end Go.Proofs.YtfilidfomgfnhaaGreat

namespace Go.Kx
open Go Go.RowKit
def oN (o:List Int):List Nat:=o.map Int.toNat
def inL (n:NtV) (o:List Int):List Nat:=freeTo (oN o) n.ls.length
theorem AP6 {n:NtV} {o:List Int} (h:outsOk n o):∀ d i,i+d<o.length→o.getD i 0+d≤o.getD (i+d) 0
 | 0,i,_=>by simp
 | d+1,i,hd=>by
  have h1:=AP6 h d i (by omega)
  have h2:=(h (i+(d+1)) hd).2.2 (by omega)
  rw [show i+(d+1)-1=i+d by omega] at h2
  omega
theorem Ag0 {n:NtV} {o:List Int} (h:outsOk n o) {k:Nat}:k∈oN o↔∃ i,i<o.length∧o.getD i 0=k:=by
 unfold oN
 rw [List.mem_map]
 constructor
 ·rintro ⟨x,hx,rfl⟩
  obtain ⟨i,hi⟩:=List.mem_iff_getElem?.1 hx
  have hlt:=(List.getElem?_eq_some_iff.1 hi).1
  have e:o.getD i 0=x:=by rw [List.getD_eq_getElem?_getD,hi];rfl
  have:=h i hlt
  exact ⟨i,hlt,by omega⟩
 ·rintro ⟨i,hi,e⟩
  exact ⟨o.getD i 0,by rw [List.getD_eq_getElem?_getD,List.getElem?_eq_getElem hi];exact List.getElem_mem hi,by omega⟩
end Go.Kx
namespace Go.Proofs.YtfilidfomgfnhaaGreat
open Go Go.Kx Go.RowKit
theorem BE5 {n:NtV} {o:List Int} (h:chkE n≠0):outE n o=chkE n:=by unfold outE;rw [if_pos h]
theorem Av7 {n:NtV} {o:List Int} (h:outE n o=0):chkE n=0∧outsOk n o:=by
 unfold outE at h
 split at h
 ·exact absurd h (by assumption)
 ·split at h
  ·exact ⟨Classical.not_not.1 (by assumption),by assumption⟩
  ·cases h
theorem Aw9 {n:NtV} (h:chkE n=0):1≤n.b∧n.b≤6∧n.ls.length≤10∧chkOk n:=by
 unfold chkE at h
 split at h
 ·cases h
 ·split at h
  ·cases h
  ·split at h
   ·exact ⟨by omega,by omega,by omega,by assumption⟩
   ·cases h
theorem Aa1:Ent Tryz.prog 70:=A0 Tryz.func70 (by kernel_rfl) rfl
theorem AX3 {S:Nat→Prop} {w:World} {vn vo:Value} {n:NtV} {o:List Int} (hn:eN.R S w vn n) (ho:eI.R S w vo o):CR Tryz.prog 70 #[vn,vo] w (Is (.int .i64 (outE n o))):=by
 obtain ⟨s,rfl,hs,hb⟩:=hn
 have hn:eN.R S w (.agg #[.int .i64 n.b,s]) n:=⟨s,rfl,hs,hb⟩
 obtain ⟨_,_,_,_,hll⟩:=RL.len ho
 obtain ⟨_,_,_,_,hls⟩:=RL.len hs
 refine enter Tryz.func70 rfl Tryz.ntmps70 rfl ?_
 refine .seq (.region (.box rfl rfl fun w1 b2 n1=>.asg rfl rfl (.nil ?_)))
 obtain ⟨e1,k2,hb2,hs1⟩:=n1
 refine .seq (.seq (.region (.ldA ty_N rfl rfl k2 rfl ?_)))
 refine .call _ rfl Ap8 rfl (Am4 (hn.ext e1)) fun v2 w2 e2 h2=>.asg rfl rfl (.nil ?_)
 subst h2
 have x2:=e1.trans e2
 refine .seq (.region (.mv rfl rfl ?_))
 by_cases hc:chkE n=0
 rotate_left
 ·refine .neqT rfl rfl rfl hc (.nil (.condT rfl (.seq (.region (.mv rfl rfl (.asg rfl rfl (.nil (.ret ?_))))))))
  exact .plain [_] Tryz.results70 ⟨rfl,trivial⟩ ⟨x2,by rw [BE5 hc];rfl⟩
 have hE:outsOk n o→outE n o=0:=fun h=>by unfold outE;rw [if_neg (by simpa using hc),if_pos h]
 have hE1:¬ outsOk n o→outE n o=1:=fun h=>by unfold outE;rw [if_neg (by simpa using hc),if_neg h]
 refine .neqF rfl rfl rfl hc (.nil (.condF rfl (.skip ?_)))
 have k2:=k2.ext e2
 have hs:=hs.ext x2
 have ho:=ho.ext x2
 refine .seq (.seq (.region (.mv rfl rfl (.lenR un_I rfl rfl ho (.mv rfl rfl (.nil ?_))))))
 refine .block (.loop (α:=Nat) (fun i=>[(1,vo),(2,.pointer (some ⟨b2,0,none⟩)),(13,vo),(14,.int .i64 (o.length:Nat)),(15,.int .i64 (i:Nat))]) (fun i W=>W=w2∧i≤o.length∧∀ j,j<i→0≤o.getD j 0∧o.getD j 0<n.ls.length∧(0<j→o.getD (j-1) 0<o.getD j 0)) (fun i=>o.length-i) 0 ?_ ?_ ?_)
 ·exact lkA rfl
 ·exact ⟨rfl,Nat.zero_le _,fun j hj=>absurd hj (Nat.not_lt_zero _)⟩
 rintro i W ⟨rfl,hi,hall⟩
 refine .seq (.region ?_)
 rcases Nat.lt_or_ge i o.length with hlt | hge
 rotate_left
 ·refine .lssF rfl rfl rfl (by omega) (.nil (.seq (.condF rfl (.exit (.seq (.region (.asg rfl rfl (.nil (.ret ?_)))))))))
  exact .plain [_] Tryz.results70 ⟨rfl,trivial⟩ ⟨x2,by rw [hE fun j hj=>hall j (by omega)];rfl⟩
 have hg:o[i]?=some (o.getD i 0):=B4 hlt
 refine .lssT rfl rfl rfl (by omega) (.nil (.seq (.condT rfl (.skip (.seq (.block (.seq (.region (.mv rfl rfl (.ixN (i:=i) un_I G1 rfl rfl ho rfl hg fun q hq=>.ldE (E:=eInt .i64) G1 rfl rfl hq fun e he=>.asg rfl rfl (.asg rfl rfl (.nil (.seq (.region (.mv rfl rfl ?_)))))))))))))))
 obtain ⟨rfl,_⟩:=he
 have hbad:∀ {σ:Env},¬ (0≤o.getD i 0∧o.getD i 0<n.ls.length∧(0<i→o.getD (i-1) 0<o.getD i 0))→Leave Tryz.prog Tryz.f70 43 (fun v w'=>Ext w w'∧Is (.int .i64 (outE n o)) v w') ((4,.int .i64 1)::σ) [] W:=fun h=>.plain [_] Tryz.results70 ⟨rfl,trivial⟩ ⟨x2,by rw [hE1 fun h'=>h (h' i hlt)];rfl⟩
 by_cases h0:o.getD i 0<0
 ·refine .lssT rfl rfl rfl h0 (.mv rfl rfl (.gs rfl rfl rfl rfl rfl (.gs rfl rfl rfl rfl rfl (.gs rfl rfl rfl rfl rfl (.gs rfl rfl rfl rfl rfl (.gs rfl rfl rfl rfl rfl (.pick rfl rfl rfl (.mv rfl rfl (.gs rfl rfl rfl rfl rfl (.gs rfl rfl rfl rfl rfl (.gs rfl rfl rfl rfl rfl ?_)))))))))))
  refine .gu rfl rfl rfl rfl (.gu rfl rfl rfl rfl (.gu rfl rfl rfl rfl (.gu rfl rfl rfl rfl (.gu rfl rfl rfl rfl (.gu rfl rfl rfl rfl (.gu rfl rfl rfl rfl (.gs rfl rfl rfl rfl rfl (.pick rfl rfl rfl (.nil (.condT rfl (.seq (.region (.asg rfl rfl (.nil (.ret ?_)))))))))))))))
  exact hbad (by omega)
 refine .lssF rfl rfl rfl (by omega) (.mv rfl rfl (.gr rfl rfl rfl rfl (.mv rfl rfl (.gr rfl rfl rfl rfl (.fa S6 rfl rfl (.gr rfl rfl rfl rfl (.ld AD0 rfl rfl k2 rfl (.gr rfl rfl rfl rfl (.lenR X4 rfl rfl hs (.gr rfl rfl rfl rfl ?_))))))))))
 by_cases h1:(n.ls.length:Int)≤o.getD i 0
 ·refine .geqT rfl rfl rfl h1 (.pick rfl rfl rfl (.mv rfl rfl (.gs rfl rfl rfl rfl rfl (.gs rfl rfl rfl rfl rfl (.gs rfl rfl rfl rfl rfl ?_)))))
  refine .gu rfl rfl rfl rfl (.gu rfl rfl rfl rfl (.gu rfl rfl rfl rfl (.gu rfl rfl rfl rfl (.gu rfl rfl rfl rfl (.gu rfl rfl rfl rfl (.gu rfl rfl rfl rfl (.gs rfl rfl rfl rfl rfl (.pick rfl rfl rfl (.nil (.condT rfl (.seq (.region (.asg rfl rfl (.nil (.ret ?_)))))))))))))))
  exact hbad (by omega)
 refine .geqF rfl rfl rfl (by omega) (.pick rfl rfl rfl (.mv rfl rfl (.gr rfl rfl rfl rfl (.mv rfl rfl (.gr rfl rfl rfl rfl ?_)))))
 have hnext:∀ {σ:Env},(0<i→o.getD (i-1) 0<o.getD i 0)→Kx.look σ 1=some vo→Kx.look σ 2=some (.pointer (some ⟨b2,0,none⟩))→Kx.look σ 13=some vo→Kx.look σ 14=some (.int .i64 (o.length:Nat))→∃ i':Nat,(∀ t v,Kx.look [(1,vo),(2,.pointer (some ⟨b2,0,none⟩)),(13,vo),(14,.int .i64 (o.length:Nat)),(15,.int .i64 (i':Nat))] t=some v→Kx.look ((15,.int .i64 ((i:Int)+1))::σ) t=some v)∧(W=W∧i'≤o.length∧∀ j,j<i'→0≤o.getD j 0∧o.getD j 0<n.ls.length∧(0<j→o.getD (j-1) 0<o.getD j 0))∧o.length-i'<o.length-i:=by
  intro σ hlast a1 a2 a3 a4
  refine ⟨i+1,A2 a1 (A2 a2 (A2 a3 (A2 a4 (lkA rfl)))),⟨rfl,hlt,fun j hj=>?_⟩,by omega⟩
  by_cases e:j=i
  ·subst e;exact ⟨by omega,by omega,hlast⟩
  ·exact hall j (by omega)
 by_cases hi0:0<i
 ·have hg':o[i-1]?=some (o.getD (i-1) 0):=B4 (by omega)
  refine .gtrT rfl rfl rfl (by omega) (.gr rfl rfl rfl rfl (.mv rfl rfl (.gr rfl rfl rfl rfl (.mv rfl rfl (.gr rfl rfl rfl rfl (.mv rfl rfl (.gr rfl rfl rfl rfl (.mv rfl rfl (.gr rfl rfl rfl rfl (.sub rfl rfl rfl ?_))))))))))
  rw [wI (by omega),show (i:Int)-1=((i-1:Nat):Int) by omega]
  refine .gr rfl rfl rfl rfl (.ixN (i:=i-1) un_I G1 rfl rfl ho rfl hg' fun q hq=>.gr rfl rfl rfl rfl (.ldE (E:=eInt .i64) G1 rfl rfl hq fun e he=>?_))
  obtain ⟨rfl,_⟩:=he
  by_cases hle:o.getD i 0≤o.getD (i-1) 0
  ·refine .gr rfl rfl rfl rfl (.leqT rfl rfl rfl hle (.gr rfl rfl rfl rfl (.pick rfl rfl rfl (.pick rfl rfl rfl (.nil (.condT rfl (.seq (.region (.asg rfl rfl (.nil (.ret ?_)))))))))))
   exact hbad (fun h=>by have:=h.2.2 hi0;omega)
  ·refine .gr rfl rfl rfl rfl (.leqF rfl rfl rfl (by omega) (.gr rfl rfl rfl rfl (.pick rfl rfl rfl (.pick rfl rfl rfl (.nil (.condF rfl (.skip (.region (.add rfl rfl rfl (.mv rfl rfl (.nil ?_)))))))))))
   rw [wI (by omega)]
   exact ⟨rfl,hnext (fun _=>by omega) rfl rfl rfl rfl⟩
 ·refine .gtrF rfl rfl rfl (by omega) (.gr rfl rfl rfl rfl (.mv rfl rfl (.gs rfl rfl rfl rfl rfl (.gs rfl rfl rfl rfl rfl (.gs rfl rfl rfl rfl rfl (.gs rfl rfl rfl rfl rfl (.gs rfl rfl rfl rfl rfl (.gs rfl rfl rfl rfl rfl (.gs rfl rfl rfl rfl rfl (.gr rfl rfl rfl rfl (.pick rfl rfl rfl (.pick rfl rfl rfl (.nil (.condF rfl (.skip (.region (.add rfl rfl rfl (.mv rfl rfl (.nil ?_)))))))))))))))))))
  rw [wI (by omega)]
  exact ⟨rfl,hnext (fun h=>absurd h hi0) rfl rfl rfl rfl⟩
theorem AU6:Ent Tryz.prog 151:=A0 Tryz.func151 (by kernel_rfl) rfl
theorem AT9 {w:World} {vn vo:Value} {x y:Value} (hn:vn=.agg #[x,y]) {a:Option Addr} {m c:Nat} (ho:vo=.slice a m c):CR Tryz.prog 151 #[vn,vo] w (fun v w'=>∃ b1 b2,v=.func (.func 205) #[] #[.pointer (some ⟨b1,0,none⟩),.pointer (some ⟨b2,0,none⟩)] ∧
  Blk w' b1 24 #[x,y]∧Blk w' b2 25 #[vo]∧w.heap.size≤b1∧w.heap.size≤b2):=by
 subst hn;subst ho
 refine enter Tryz.func151 rfl Tryz.ntmps151 rfl ?_
 refine .seq (.region (.box rfl rfl fun w1 b1 n1=>.box rfl rfl fun w2 b2 n2=>.asg rfl rfl (.nil ?_)))
 obtain ⟨e1,k1,hb1,hs1⟩:=n1
 obtain ⟨e2,k2,hb2,hs2⟩:=n2
 refine .seq (.region (.mkf [] [_,_] rfl rfl rfl rfl (.asg rfl rfl (.nil (.ret ?_)))))
 exact .plain [_] Tryz.results151 ⟨rfl,trivial⟩ ⟨e1.trans e2,b1,b2,rfl,k1.ext e2,k2,by omega,by have:=e1.size;omega⟩
theorem BI8:Ent Tryz.prog 205:=A0 Tryz.func205 (by kernel_rfl) rfl
theorem BF7 {S:Nat→Prop} {n:NtV} {o:List Int} {s vo x:Value} {b1 b2:Nat} (hok:outsOk n o) (hl:n.ls.length≤10):Iter Tryz.prog 205 #[.pointer (some ⟨b1,0,none⟩),.pointer (some ⟨b2,0,none⟩)] (inL n o).length
  (fun k=>[.int .i64 ((inL n o).getD k 0:Nat)]) (fun W=>Blk W b1 24 #[x,s]∧Blk W b2 25 #[vo]∧eLs.R S W s n.ls∧eI.R S W vo o):=by
 intro l J X stJ stX hF hy W hJ
 have hF0:=hF 0 W hJ
 refine enterG Tryz.func205 rfl Tryz.ntmps205 rfl ?_
 refine .seq (.region (.asg rfl rfl (.nil (.seq (.region (.fa S6 rfl rfl (.ld AD0 rfl rfl hF0.1 rfl (.lenR X4 rfl rfl hF0.2.2.1 (.mv rfl rfl (.nil ?_))))))))))
 refine .block (.loop (α:=Nat×Nat) (fun y=>[(9,.int .i64 (y.1:Nat)),(8,.int .i64 (n.ls.length:Nat)),(4,.int .i64 (y.2:Nat)),(0,.func (.yield l) #[] #[]),(1,.pointer (some ⟨b1,0,none⟩)),(2,.pointer (some ⟨b2,0,none⟩))])
  (fun y W=>J (freeTo (oN o) y.1).length W∧y.1≤n.ls.length∧y.2≤o.length∧(∀ i,i<y.2→o.getD i 0<y.1)∧(y.2<o.length→(y.1:Int)≤o.getD y.2 0)) (fun y=>n.ls.length-y.1) (0,0) ?_ ?_ ?_)
 ·exact lkA rfl
 ·exact ⟨hJ,Nat.zero_le _,Nat.zero_le _,fun i hi=>absurd hi (Nat.not_lt_zero _),fun h=>(hok 0 h).1⟩
 rintro ⟨k,nx⟩ W ⟨hJ,hk,hnx,hlo,hhi⟩
 replace hJ:J (freeTo (oN o) k).length W:=hJ
 replace hk:k≤n.ls.length:=hk
 replace hnx:nx≤o.length:=hnx
 replace hlo:∀ i,i<nx→o.getD i 0<k:=hlo
 replace hhi:nx<o.length→(k:Int)≤o.getD nx 0:=hhi
 obtain ⟨hB1,hB2,hA,hB⟩:=hF _ W hJ
 obtain ⟨_,_,_,_,hll⟩:=RL.len hB
 refine .seq (.region ?_)
 rcases Nat.lt_or_ge k n.ls.length with hlt | hge
 rotate_left
 ·refine .lssF rfl rfl rfl (by omega) (.nil (.seq (.condF rfl (.exit ?_))))
  refine .plain [] Tryz.results205 trivial ?_
  have:k=n.ls.length:=by omega
  subst this;exact .inl hJ
 refine .lssT rfl rfl rfl (by omega) (.nil (.seq (.condT rfl (.skip (.seq (.block (.seq (.region (.mv rfl rfl (.asg rfl rfl (.nil ?_)))))))))))
 refine .mid (α:=Unit) (fun _=>[(9,.int .i64 (k:Nat)),(8,.int .i64 (n.ls.length:Nat)),(4,.int .i64 (nx:Nat)),(5,.int .i64 (k:Nat)),(0,.func (.yield l) #[] #[]),(1,.pointer (some ⟨b1,0,none⟩)),(2,.pointer (some ⟨b2,0,none⟩))]) (fun _ W'=>W'=W∧k∉oN o) ?_ ?_
 ·refine .seq (.region (.mv rfl rfl (.ld ty_I rfl rfl hB2 rfl (.lenR un_I rfl rfl hB ?_))))
  rcases Nat.lt_or_ge nx o.length with hn1 | hn1
  ·have hg:o[nx]?=some (o.getD nx 0):=B4 hn1
   refine .lssT rfl rfl rfl (by omega) (.mv rfl rfl (.gr rfl rfl rfl rfl (.ld ty_I rfl rfl hB2 rfl (.gr rfl rfl rfl rfl (.mv rfl rfl (.gr rfl rfl rfl rfl (.ixN (i:=nx) un_I G1 rfl rfl hB rfl hg fun q hq=>.gr rfl rfl rfl rfl (.ldE (E:=eInt .i64) G1 rfl rfl hq fun e he=>.gr rfl rfl rfl rfl (.mv rfl rfl (.gr rfl rfl rfl rfl ?_))))))))))
   obtain ⟨rfl,_⟩:=he
   have:=hhi hn1
   by_cases he:o.getD nx 0=k
   ·refine .eqlT rfl rfl rfl he (.pick rfl rfl rfl (.nil (.condT rfl (.seq (.region (.mv rfl rfl (.add rfl rfl rfl (.asg rfl rfl (.nil (.exit (.region (.add rfl rfl rfl (.mv rfl rfl (.nil ?_))))))))))))))
    rw [wI (by omega),wI (by omega)]
    refine ⟨rfl,(k+1,nx+1),lkA rfl,⟨?_,hlt,hn1,fun i hi=>?_,fun h=>?_⟩,by show n.ls.length-(k+1)<n.ls.length-k;omega⟩
    ·show J (freeTo (oN o) (k+1)).length W
     rw [M5,if_pos ((Ag0 hok).2 ⟨nx,hn1,he⟩),List.append_nil]
     exact hJ
    ·show o.getD i 0<((k+1:Nat):Int)
     by_cases e:i=nx
     ·subst e;omega
     ·have:=hlo i (by have:i<nx+1:=hi;omega);omega
    ·show ((k+1:Nat):Int)≤o.getD (nx+1) 0
     have:=AP6 hok 1 nx h
     omega
   ·refine .eqlF rfl rfl rfl he (.pick rfl rfl rfl (.nil (.condF rfl (.skip ?_))))
    refine ⟨rfl,(),lkA rfl,rfl,fun hm=>?_⟩
    obtain ⟨i,hi,e⟩:=(Ag0 hok).1 hm
    rcases Nat.lt_or_ge i nx with h | h
    ·have:=hlo i h;omega
    ·have:=AP6 hok (i-nx) nx (by omega)
     rw [show nx+(i-nx)=i by omega] at this
     omega
  ·refine .lssF rfl rfl rfl (by omega) (.mv rfl rfl (.gs rfl rfl rfl rfl rfl (.gs rfl rfl rfl rfl rfl (.gs rfl rfl rfl rfl rfl (.gs rfl rfl rfl rfl rfl (.gs rfl rfl rfl rfl rfl (.gs rfl rfl rfl rfl rfl (.pick rfl rfl rfl (.nil (.condF rfl (.skip ?_)))))))))))
   refine ⟨rfl,(),lkA rfl,rfl,fun hm=>?_⟩
   obtain ⟨i,hi,e⟩:=(Ag0 hok).1 hm
   have:=hlo i (by omega)
   omega
 rintro _ _ ⟨rfl,hno⟩
 obtain ⟨hat,hatl⟩:=Ay8 (C:=n.ls.length) hlt hno
 have hy':=hy (freeTo (oN o) k).length _ hatl hJ
 dsimp only at hy'
 rw [show (inL n o).getD (freeTo (oN o) k).length 0=k from hat] at hy'
 refine .seq (.region (.mv rfl rfl (.mv rfl rfl ?_)))
 refine .yld (l:=l) [.int .i64 (k:Nat)] (R:=fun v w'=>(v=.bool true∧J ((freeTo (oN o) k).length+1) w')∨(v=.bool false∧X w')) rfl rfl rfl ?_ ?_
 ·refine YieldAt.mono hy' ?_
  rintro e W' (⟨rfl,h⟩ | ⟨rfl,h⟩)
  ·exact ⟨_,rfl,.inl ⟨rfl,h⟩⟩
  ·exact ⟨_,rfl,.inr ⟨rfl,h⟩⟩
 rintro v w' (⟨rfl,h⟩ | ⟨rfl,h⟩)
 ·refine .not_ rfl rfl (.nil (.condF rfl (.skip (.region (.add rfl rfl rfl (.mv rfl rfl (.nil ?_)))))))
  rw [wI (by omega)]
  refine ⟨rfl,(k+1,nx),lkA rfl,⟨?_,hlt,hnx,fun i hi=>?_,fun hn1=>?_⟩,by show n.ls.length-(k+1)<n.ls.length-k;omega⟩
  ·show J (freeTo (oN o) (k+1)).length w'
   rw [M5,if_neg hno,List.length_append]
   exact h
  ·show o.getD i 0<((k+1:Nat):Int)
   have:=hlo i hi;omega
  ·show ((k+1:Nat):Int)≤o.getD nx 0
   have h1:=hhi hn1
   have h2:o.getD nx 0≠k:=fun e=>hno ((Ag0 hok).2 ⟨nx,hn1,e⟩)
   omega
 ·refine .not_ rfl rfl (.nil (.condT rfl (.ret ?_)))
  exact .plain [] Tryz.results205 trivial (.inr h)
theorem Ae0 (p:List Nat) (i:Nat):(freeTo p i).length≤i:=by
 unfold freeTo
 have:=List.length_filter_le (fun k => !(decide (k∈p))) (List.range i)
 simpa using this
theorem AV3 (n:NtV) (o:List Int):(inL n o).length≤n.ls.length:=Ae0 _ _
structure InJ (w:World) (S:Nat→Prop) (b7 b1 b2:Nat) (x s vo:Value) (n:NtV) (o:List Int) (k:Nat) (W:World):Prop where
 low:Below w.heap.size w W
 k1:Blk W b1 24 #[x,s]
 k2:Blk W b2 25 #[vo]
 acc:∃ v,Blk W b7 25 #[v]∧OwnL (eInt .i64) 3 w.heap.size (fun k=>S k∧k≠b7) W v (pInts ((inL n o).take k))
theorem InJ.sft {w0:World} {S:Nat→Prop} {b7 b1 b2:Nat} {x s vo:Value} {n:NtV} {o:List Int} {k D:Nat} {W W':World} (h:InJ w0 S b7 b1 b2 x s vo n o k W) (hs:Sft D W W') (hD:w0.heap.size≤D):InJ w0 S b7 b1 b2 x s vo n o k W':=by
 obtain ⟨v,h1,h2⟩:=h.acc
 exact ⟨h.low.trans (hs.below.mono hD),hs.cells.blk trivial h.k1,hs.cells.blk trivial h.k2,v,hs.cells.blk trivial h1,h2.kp hs.cells⟩
theorem Aq1:zeroOf Tryz.prog 25=some (.slice none 0 0):=by kernel_rfl
theorem Ap7:Ent Tryz.prog 82:=A0 Tryz.func82 (by kernel_rfl) rfl
theorem Am3 {S:Nat→Prop} {w:World} {vn vo:Value} {n:NtV} {o:List Int} (up:Up S w) (hn:eN.R S w vn n) (ho:eI.R S w vo o):CR Tryz.prog 82 #[vn,vo] w (Two (eI.at S (if outE n o=0 then pInts (inL n o) else [])) (Is (.int .i64 (outE n o)))):=by
 obtain ⟨s,rfl,hs,hb⟩:=hn
 have hn:eN.R S w (.agg #[.int .i64 n.b,s]) n:=⟨s,rfl,hs,hb⟩
 obtain ⟨ao,co,hvo,_⟩:=RL.len ho
 refine enter Tryz.func82 rfl Tryz.ntmps82 rfl ?_
 refine .seq (.region (.box rfl rfl fun w1 b2 n1=>.asg rfl rfl (.asg rfl rfl (.nil ?_))))
 obtain ⟨e1,k2,hb2,hs1⟩:=n1
 refine .seq (.seq (.region (.ldA ty_N rfl rfl k2 rfl (.mv rfl rfl ?_))))
 refine .call _ rfl Aa1 rfl (AX3 (hn.ext e1) (ho.ext e1)) fun v2 w2 e2 h2=>.asg rfl rfl (.nil ?_)
 subst h2
 have x2:=e1.trans e2
 refine .seq (.region (.mv rfl rfl ?_))
 by_cases hE:outE n o=0
 rotate_left
 ·refine .neqT rfl rfl rfl hE (.nil (.condT rfl (.seq (.region (.mv rfl rfl (.asg rfl rfl (.asg rfl rfl (.nil (.ret ?_)))))))))
  refine .plain [_,_] Tryz.results82 ⟨rfl,rfl,trivial⟩ ⟨x2,_,_,rfl,?_,rfl⟩
  rw [if_neg hE];exact RL.nil
 rw [if_pos hE]
 obtain ⟨hc,hok⟩:=Av7 hE
 obtain ⟨_,_,hl10,_⟩:=Aw9 hc
 refine .neqF rfl rfl rfl hE (.nil (.condF rfl (.skip ?_)))
 refine .seq (.region (.alloc rfl Aq1 fun w3 b7 n3=>.nil ?_))
 obtain ⟨e3,k7,hb7,hs3⟩:=n3
 have x3:=x2.trans e3
 refine .seq (.seq (.region (.ldA ty_N rfl rfl ((k2.ext e2).ext e3) rfl (.mv rfl rfl ?_))))
 refine .call _ rfl AU6 rfl (AT9 rfl hvo) fun v4 w4 e4 h4=>.nil ?_
 obtain ⟨p1,p2,rfl,kp1,kp2,hp1,hp2⟩:=h4
 have x4:=x3.trans e4
 have hs4:=e4.size
 have hs2:=e2.size
 have hsL:∀ {W:World},Below w.heap.size w W→eLs.R (fun k=>S k∧k<w.heap.size) W s n.ls:=fun hB=>eLs.keep (fun k c t f hk h=>(hB.block k hk.2).trans h) (ER.lt eLs hs)
 have hoL:∀ {W:World},Below w.heap.size w W→eI.R (fun k=>S k∧k<w.heap.size) W vo o:=fun hB=>eI.keep (fun k c t f hk h=>(hB.block k hk.2).trans h) (ER.lt eI ho)
 refine .block (.range (BF7 (S:=fun k=>S k∧k<w.heap.size) (n:=n) (o:=o) (s:=s) (vo:=vo) (x:=.int .i64 n.b) hok hl10) rfl BI8 (fun k=>rfl) (by decide)
  (InJ w S b7 p1 p2 (.int .i64 n.b) s vo n o) (fun _ _=>False) (fun k W W' h hs=>h.sft hs x4.size) (fun _ _ _ h _=>h.elim) (fun k W h=>⟨h.k1,h.k2,hsL h.low,hoL h.low⟩) ?_ ?_ ?_ (fun _ _ h=>h.elim))
 ·refine ⟨x4,kp1,kp2,_,k7.ext e4,?_⟩
  rw [List.take_zero];exact OwnL.nil
 ·intro l k W hk hJ
  refine .region (.asg rfl rfl (.nil ⟨rfl,rfl,fun W hJ hsz=>?_⟩))
  obtain ⟨hlow,kp1,kp2,v,k7,hown⟩:=hJ
  have hlw:=hlow.size
  refine .block (.region (.ld ty_I rfl rfl k7 rfl (.mv rfl rfl (.bsl _ rfl rfl At0 fun W1 by_ ny=>?_))))
  obtain ⟨ey,ky,hby,hsy⟩:=ny
  have hlow1:=hlow.trans (ey.mono hlw)
  have hkl:=AV3 n o
  refine .gv rfl rfl (AY0 (E:=eInt .i64) (base:=w.heap.size) (n:=(((inL n o).getD k 0:Nat):Int)) (e:=.int .i64 (((inL n o).getD k 0:Nat):Int)) (by decide) un_I AX6 rfl rfl rfl (hown.ext ey) ky ⟨rfl,by
    have:(inL n o).getD k 0<n.ls.length:=by
     have hm:(inL n o).getD k 0∈inL n o:=H2 hk
     unfold inL freeTo at hm
     exact List.mem_range.1 (List.mem_filter.1 hm).1
    exact B7.2 (by omega)⟩ (by simp;omega) (by decide) hlow1.size) ?_
  rintro v8 W8 ⟨ho8,hg8⟩
  have hown1:=hown.ext ey
  have k78:=hown1.gblk hg8 (k7.ext ey) (by decide)
  have kp18:=hown1.gblk hg8 (kp1.ext ey) (by decide)
  have kp28:=hown1.gblk hg8 (kp2.ext ey) (by decide)
  have hlow8:=hown1.below hg8 hlow1 hlow1.size
  obtain ⟨a8,c8,hv8⟩:=ho8.slice
  refine .store ty_I rfl rfl k78 (by rw [hv8];rfl) (by simp) (by rw [hv8];simp [one1,Value.cells]) fun W9 k9 u9=>.nil ?_
  refine ⟨((Oth.ext ey).trans (hown1.oth hg8)).trans (Oth.upd u9 k78),u9.below hlow8 (by omega),kp18.upd u9 (by omega),kp28.upd u9 (by omega),v8,by rw [hv8] at k9 ⊢;exact k9,?_⟩
  have:=ho8.upd u9 k78 (by decide) (fun h=>h.2 rfl)
  have htk:pInts ((inL n o).take (k+1))=pInts ((inL n o).take k)++[(((inL n o).getD k 0:Nat):Int)]:=by
   unfold pInts
   rw [List.take_add_one,B4 (z:=0) hk,List.map_append]
   rfl
  rw [htk]
  exact this
 ·intro W hJ hD
  obtain ⟨hlow,kp1,kp2,v,k7,hown⟩:=hJ
  refine .seq (.region (.ld ty_I rfl rfl k7 rfl (.asg rfl rfl (.asg rfl rfl (.nil (.ret ?_))))))
  refine .mark [_,_] Tryz.results82 hD ⟨rfl,rfl,trivial⟩ ⟨M7 hlow x4.size,_,_,rfl,?_,by rw [hE]⟩
  rw [List.take_of_length_le (Nat.le_refl _)] at hown
  exact (hown.kp (Kp.put hD rfl)).toR up (fun _ h=>h.1)
end Go.Proofs.YtfilidfomgfnhaaGreat

namespace Go.Kx
def dl (a b:Nat):Rat:=if a=b then 1 else 0
theorem dl_self (a:Nat):dl a a=1:=if_pos rfl
theorem dl_ne {a b:Nat} (h:a≠b):dl a b=0:=if_neg h
theorem Aq7 {n a:Nat} (f:Nat→Rat) (h:a<n):sumN n (fun b=>f b*dl a b)=f a:=by
 rw [K9 (i:=a) (fun k _ hne=>by rw [dl_ne (Ne.symm hne),Rat.mul_zero]),if_pos h,dl_self,Rat.mul_one]
theorem rat_sq (x:Rat):0≤x*x:=by
 rcases Rat.le_total (a:=0) (b:=x) with h | h
 ·exact Rat.mul_nonneg h h
 ·have h2:0 ≤ -x:=by grind
  have:=Rat.mul_nonneg h2 h2
  grind
theorem rat_sq0 {x:Rat} (h:x*x=0):x=0:=by
 rcases Rat.mul_eq_zero.1 h with h | h<;>exact h
theorem Al2 {n:Nat} {f:Nat→Rat} (h:∀ k,k<n→0≤f k):0≤sumN n f:=by
 induction n with
 | zero=>exact Rat.le_refl
 | succ n ih =>
  have h1:=ih fun k hk=>h k (by omega)
  have h2:=h n (by omega)
  unfold sumN
  grind
theorem sumN_le {n:Nat} {f g:Nat→Rat} (h:∀ k,k<n→f k≤g k):sumN n f≤sumN n g:=by
 have:=Al2 (n:=n) (f:=fun k=>g k-f k) fun k hk=>by have:=h k hk;grind
 rw [AL6] at this
 grind
theorem Ax3 {n:Nat} {f:Nat→Rat} (h:∀ k,k<n→0≤f k) {j:Nat} (hj:j<n):f j≤sumN n f:=by
 have h1:sumN n (fun k=>if k=j then f j else 0)=f j:=by
  rw [K9 (i:=j) (fun k _ hne=>if_neg hne),if_pos hj,if_pos rfl]
 rw [←h1]
 refine sumN_le fun k hk=>?_
 have:=h k hk
 by_cases e:k=j
 ·subst e;rw [if_pos rfl];exact Rat.le_refl
 ·rw [if_neg e];exact this
theorem Ax4 {n:Nat} {f:Nat→Rat} (h:∀ k,k<n→0≤f k) (h0:sumN n f=0) {j:Nat} (hj:j<n):f j=0:=by
 have h1:=Ax3 h hj
 have h2:=h j hj
 rw [h0] at h1
 exact Rat.le_antisymm h1 h2
structure Nw where
 B:Nat
 M:Nat
 F:Nat→Nat
 T:Nat→Nat
 g:Nat→Rat
structure Nw.Ok (n:Nw):Prop where
 f:∀ k,k<n.M→n.F k<n.B
 t:∀ k,k<n.M→n.T k<n.B
 p:∀ k,k<n.M→0≤n.g k
namespace Nw
section
variable (n:Nw)
def inc (k b:Nat):Rat:=dl (n.F k) b-dl (n.T k) b
def fl (θ:Nat→Rat) (k:Nat):Rat:=n.g k*(θ (n.F k)-θ (n.T k))
def off (f:Nat→Rat) (b:Nat):Rat:=sumN n.M fun k=>n.inc k b*f k
def lap (θ:Nat→Rat) (b:Nat):Rat:=n.off (n.fl θ) b
def Lm (b c:Nat):Rat:=sumN n.M fun k=>n.g k*(n.inc k b*n.inc k c)
def clo (D:Nat→Prop):Prop:=∀ k,k<n.M→n.g k≠0→(D (n.F k)↔D (n.T k))
/-- the least bus of the island, with the first lines -/
def rootTo:Nat→Nat→Nat
 | 0,b=>b
 | j+1,b=>if n.g j=0 then rootTo j b else if rootTo j b=max (rootTo j (n.F j)) (rootTo j (n.T j)) then min (rootTo j (n.F j)) (rootTo j (n.T j)) else rootTo j b
def root (b:Nat):Nat:=n.rootTo n.M b
def gm (b c:Nat):Rat:=if n.root b=b then dl b c else n.Lm b c
end
section
variable {n:Nw} {θ φ f:Nat→Rat}
theorem Au9 (ok:n.Ok) {k:Nat} (hk:k<n.M) (φ:Nat→Rat):sumN n.B (fun b=>φ b*n.inc k b)=φ (n.F k)-φ (n.T k):=by
 have e:sumN n.B (fun b=>φ b*n.inc k b)=sumN n.B (fun b=>φ b*dl (n.F k) b-φ b*dl (n.T k) b):=B5 fun b _=>by unfold inc;grind
 rw [e,AL6,Aq7 φ (ok.f k hk),Aq7 φ (ok.t k hk)]
theorem green (ok:n.Ok) (φ f:Nat→Rat):sumN n.B (fun b=>φ b*n.off f b)=sumN n.M fun k=>(φ (n.F k)-φ (n.T k))*f k:=by
 have e:sumN n.B (fun b=>φ b*n.off f b)=sumN n.B (fun b=>sumN n.M fun k=>φ b*n.inc k b*f k):=B5 fun b _=>by
  unfold off
  rw [←AD9]
  exact B5 fun k _=>by grind
 rw [e,AG2]
 refine B5 fun k hk=>?_
 rw [AP1,Au9 ok hk]
theorem lap_sum (ok:n.Ok) (θ:Nat→Rat) (b:Nat):sumN n.B (fun c=>n.Lm b c*θ c)=n.lap θ b:=by
 have e:sumN n.B (fun c=>n.Lm b c*θ c)=sumN n.B (fun c=>sumN n.M fun k=>n.g k*n.inc k b*(θ c*n.inc k c)):=B5 fun c _=>by
  unfold Lm
  rw [←AP1]
  exact B5 fun k _=>by grind
 rw [e,AG2]
 unfold lap off
 refine B5 fun k hk=>?_
 rw [AD9,Au9 ok hk]
 unfold fl
 grind
/-- no power, no differences -/
theorem rigid (ok:n.Ok) {D:Nat→Prop} (hD:n.clo D) (h:∀ b,b<n.B→D b→θ b*n.lap θ b=0):∀ k,k<n.M→n.g k≠0→D (n.F k)→θ (n.F k)=θ (n.T k):=by
 classical
 have e:=green ok (fun b=>if D b then θ b else 0) (n.fl θ)
 have e0:sumN n.B (fun b=>(if D b then θ b else 0)*n.off (n.fl θ) b)=0:=T8 fun b hb=>by
  by_cases hd:D b
  ·rw [if_pos hd];exact h b hb hd
  ·rw [if_neg hd,Rat.zero_mul]
 rw [e0] at e
 have hterm:∀ k,k<n.M→((if D (n.F k) then θ (n.F k) else 0)-(if D (n.T k) then θ (n.T k) else 0))*n.fl θ k=if D (n.F k) then n.g k*((θ (n.F k)-θ (n.T k))*(θ (n.F k)-θ (n.T k))) else 0:=by
  intro k hk
  by_cases hg:n.g k=0
  ·unfold fl
   rw [hg]
   split<;>grind
  ·have:=hD k hk hg
   by_cases hd:D (n.F k)
   ·rw [if_pos hd,if_pos (this.1 hd),if_pos hd]
    unfold fl
    grind
   ·rw [if_neg hd,if_neg (fun x=>hd (this.2 x)),if_neg hd]
    grind
 intro k hk hg hd
 have hn:∀ k,k<n.M→0≤((if D (n.F k) then θ (n.F k) else 0)-(if D (n.T k) then θ (n.T k) else 0))*n.fl θ k:=fun k hk=>by
  rw [hterm k hk]
  split
  ·exact Rat.mul_nonneg (ok.p k hk) (rat_sq _)
  ·exact Rat.le_refl
 have h0:=Ax4 hn e.symm hk
 rw [hterm k hk,if_pos hd] at h0
 rcases Rat.mul_eq_zero.1 h0 with h0 | h0
 ·exact absurd h0 hg
 ·have:=rat_sq0 h0
  grind
/-- what no line sees is the same all over an island -/
theorem Av2 {θ:Nat→Rat}:∀ j,(∀ k,k<j→n.g k≠0→θ (n.F k)=θ (n.T k))→∀ b,θ (n.rootTo j b)=θ b
 | 0,_,b=>rfl
 | j+1,h,b=>by
  have ih:=Av2 j fun k hk=>h k (by omega)
  unfold rootTo
  split
  ·exact ih b
  ·rename_i hg
   split
   ·rename_i e
    have h1:=h j (by omega) hg
    have hF:=ih (n.F j)
    have hT:=ih (n.T j)
    have hb:=ih b
    have h2:θ (max (n.rootTo j (n.F j)) (n.rootTo j (n.T j)))=θ (n.F j):=by
     rcases Nat.le_total (n.rootTo j (n.F j)) (n.rootTo j (n.T j)) with h | h
     ·rw [Nat.max_eq_right h,hT,h1]
     ·rw [Nat.max_eq_left h,hF]
    have h3:θ (min (n.rootTo j (n.F j)) (n.rootTo j (n.T j)))=θ (n.F j):=by
     rcases Nat.le_total (n.rootTo j (n.F j)) (n.rootTo j (n.T j)) with h | h
     ·rw [Nat.min_eq_left h,hF]
     ·rw [Nat.min_eq_right h,hT,h1]
    rw [h3,←h2,←e,hb]
   ·exact ih b
theorem Ad2:∀ j b,n.rootTo j b≤b
 | 0,b=>Nat.le_refl b
 | j+1,b=>by
  have ih:=Ad2 j
  have:=ih b
  unfold rootTo
  split
  ·exact this
  ·split
   ·rename_i e;omega
   ·exact this
theorem AR0:∀ j b,n.rootTo j (n.rootTo j b)=n.rootTo j b
 | 0,b=>rfl
 | j+1,b=>by
  have ih:=AR0 j
  have ib:=ih b
  have iF:=ih (n.F j)
  have iT:=ih (n.T j)
  by_cases hg:n.g j=0
  ·have e:∀ b,n.rootTo (j+1) b=n.rootTo j b:=fun b=>by rw [rootTo,if_pos hg]
   rw [e,e];exact ib
  ·have e:∀ b,n.rootTo (j+1) b=if n.rootTo j b=max (n.rootTo j (n.F j)) (n.rootTo j (n.T j)) then min (n.rootTo j (n.F j)) (n.rootTo j (n.T j)) else n.rootTo j b:=fun b=>by rw [rootTo,if_neg hg]
   rw [e b]
   split
   ·rw [e]
    rcases Nat.le_total (n.rootTo j (n.F j)) (n.rootTo j (n.T j)) with h | h
    ·rw [Nat.min_eq_left h,Nat.max_eq_right h,iF]
     split
     ·rfl
     ·rfl
    ·rw [Nat.min_eq_right h,Nat.max_eq_left h,iT]
     split
     ·rfl
     ·rfl
   ·rename_i hne
    rw [e,ib,if_neg hne]
theorem root_le (b:Nat):n.root b≤b:=Ad2 _ b
theorem root_root (b:Nat):n.root (n.root b)=n.root b:=AR0 _ b
theorem Ar0 (h:∀ k,k<n.M→n.g k≠0→θ (n.F k)=θ (n.T k)) (b:Nat):θ (n.root b)=θ b:=Av2 _ h b
theorem fl_out {k:Nat} (h:n.g k=0):n.fl θ k=0:=by unfold fl;rw [h,Rat.zero_mul]
/-- the equations with the reference buses have no other solution than nothing -/
theorem ker0 (ok:n.Ok) (h:∀ b,b<n.B→if n.root b=b then θ b=0 else n.lap θ b=0):∀ b,b<n.B→θ b=0:=by
 have hr:=rigid (θ:=θ) ok (D:=fun _=>True) (fun _ _ _=>Iff.rfl) fun b hb _=>by
  have:=h b hb
  split at this
  ·rw [this,Rat.zero_mul]
  ·rw [this,Rat.mul_zero]
 intro b hb
 rw [←Ar0 (fun k hk hg=>hr k hk hg trivial) b]
 have hle:=root_le (n:=n) b
 have:=h (n.root b) (by omega)
 rw [if_pos (root_root b)] at this
 exact this
theorem gm_sum (ok:n.Ok) (θ:Nat→Rat) {b:Nat} (hb:b<n.B):sumN n.B (fun c=>n.gm b c*θ c)=if n.root b=b then θ b else n.lap θ b:=by
 unfold gm
 split
 ·rw [←Aq7 θ hb]
  exact B5 fun c _=>by grind
 ·exact lap_sum ok θ b
theorem lap_sub (b:Nat):n.lap (fun c=>θ c-φ c) b=n.lap θ b-n.lap φ b:=by
 unfold lap off
 rw [←AL6]
 exact B5 fun k _=>by unfold fl;grind
/-- angles are known by their outflow and by the reference buses -/
theorem uniq (ok:n.Ok) (h:∀ b,b<n.B→if n.root b=b then θ b=φ b else n.lap θ b=n.lap φ b):∀ b,b<n.B→θ b=φ b:=by
 intro b hb
 have:=ker0 (θ:=fun c=>θ c-φ c) ok (fun b hb=>by
  have:=h b hb
  split at this
  ·rw [if_pos (by assumption),this];grind
  ·rw [if_neg (by assumption),lap_sub,this];grind) b hb
 grind
end
end Nw
end Go.Kx

namespace Go.Kx
open Go Go.RowKit
def ln0:LnV:=⟨0,0,1,0⟩
/-- the network as numbers -/
def nwOf (n:NtV) (o:List Int):Nw where
 B:=n.b.toNat
 M:=n.ls.length
 F:=fun k=>(n.ls.getD k ln0).f.toNat
 T:=fun k=>(n.ls.getD k ln0).t.toNat
 g:=fun k=>if k∈oN o then 0 else ((n.ls.getD k ln0).x:Rat)⁻¹
def tabI (n:Nat) (p:Nat→Nat):List Int:=(List.range n).map fun b=>((p b:Nat):Int)
theorem R6 (n:Nat) (p:Nat→Nat):(tabI n p).length=n:=by simp [tabI]
theorem AL4 {n i:Nat} {p:Nat→Nat} (h:i<n):(tabI n p)[i]?=some ((p i:Nat):Int):=by unfold tabI;rw [List.getElem?_map,List.getElem?_range h];rfl
theorem BC6 {n i v:Nat} {p:Nat→Nat}:(tabI n p).set i ((v:Nat):Int)=tabI n fun b=>if b=i then v else p b:=by
 apply List.ext_getElem?
 intro j
 rw [List.getElem?_set]
 unfold tabI
 rw [List.length_map,List.length_range,List.getElem?_map,List.getElem?_map]
 by_cases hj:i=j
 ·subst hj
  rw [if_pos rfl]
  by_cases h:i<n
  ·rw [if_pos h,List.getElem?_range h];simp
  ·rw [if_neg h,List.getElem?_eq_none (by simpa using h)];rfl
 ·rw [if_neg hj]
  by_cases h:j<n
  ·rw [List.getElem?_range h];simp [Ne.symm hj]
  ·rw [List.getElem?_eq_none (by simpa using h)];rfl
/-- climbing p leads to R -/
def Clm (B:Nat) (p R:Nat→Nat):Prop:=∀ b,b<B→p b≤b∧(p b=b→R b=b)∧(p b≠b→R b=R (p b))
def Nw.stepR (n:Nw) (R:Nat→Nat) (k:Nat):Nat→Nat:=fun b=>if R b=max (R (n.F k)) (R (n.T k)) then min (R (n.F k)) (R (n.T k)) else R b
def Nw.rootF (n:Nw) (l:List Nat):Nat→Nat:=l.foldl n.stepR id
theorem Nw.rootF_snoc (n:Nw) (l:List Nat) (k:Nat):n.rootF (l++[k])=n.stepR (n.rootF l) k:=by unfold Nw.rootF;rw [List.foldl_append];rfl
theorem Nw.rootF_free {n:Nw} {p:List Nat}:∀ j,(∀ k,k<j→(n.g k=0↔k∈p))→n.rootTo j=n.rootF (freeTo p j)
 | 0,_=>rfl
 | j+1,h=>by
  have ih:=Nw.rootF_free j fun k hk=>h k (by omega)
  have hj:=h j (by omega)
  rw [Go.Proofs.YtfilidfomgfnhaaGreat.M5]
  funext b
  rw [Nw.rootTo]
  by_cases hg:n.g j=0
  ·rw [if_pos hg,if_pos (hj.1 hg),List.append_nil,ih]
  ·rw [if_neg hg,if_neg (fun h=>hg (hj.2 h)),Nw.rootF_snoc,←ih];rfl
structure Idm (R:Nat→Nat):Prop where
 rr:∀ b,R (R b)=R b
 le:∀ b,R b≤b
theorem Idm.step {n:Nw} {R:Nat→Nat} (h:Idm R) (k:Nat):Idm (n.stepR R k):=by
 have hF:=h.rr (n.F k)
 have hT:=h.rr (n.T k)
 unfold Nw.stepR
 generalize R (n.F k)=a at *
 generalize R (n.T k)=c at *
 have hm:R (min a c)=min a c:=by
  rcases Nat.le_total a c with h | h
  ·rw [Nat.min_eq_left h,hF]
  ·rw [Nat.min_eq_right h,hT]
 refine ⟨fun b=>?_,fun b=>?_⟩
 ·by_cases hb:R b=max a c
  ·rw [if_pos hb,hm]
   split
   ·rfl
   ·rfl
  ·rw [if_neg hb,h.rr,if_neg hb]
 ·have:=h.le b
  split
  ·omega
  ·exact this
theorem Nw.rootF_idm (n:Nw) (l:List Nat):Idm (n.rootF l):=by
 unfold Nw.rootF
 have:∀ (l:List Nat) (R:Nat→Nat),Idm R→Idm (l.foldl n.stepR R):=by
  intro l
  induction l with
  | nil=>exact fun R h=>h
  | cons k l ih=>exact fun R h=>ih _ (h.step k)
 exact this l id ⟨fun _=>rfl,fun b=>Nat.le_refl b⟩
theorem Clm.step {n:Nw} {B k:Nat} {p R:Nat→Nat} (h:Clm B p R) (hi:Idm R):Clm B (fun b=>if b=max (R (n.F k)) (R (n.T k)) then min (R (n.F k)) (R (n.T k)) else p b) (n.stepR R k):=by
 have iF:=hi.rr (n.F k)
 have iT:=hi.rr (n.T k)
 unfold Nw.stepR
 generalize R (n.F k)=a at *
 generalize R (n.T k)=c at *
 have hM:R (max a c)=max a c:=by
  rcases Nat.le_total a c with h | h
  ·rw [Nat.max_eq_right h,iT]
  ·rw [Nat.max_eq_left h,iF]
 have hm:R (min a c)=min a c:=by
  rcases Nat.le_total a c with h | h
  ·rw [Nat.min_eq_left h,iF]
  ·rw [Nat.min_eq_right h,iT]
 intro b hb
 obtain ⟨h1,h2,h3⟩:=h b hb
 dsimp only
 by_cases hbM:b=max a c
 ·subst hbM
  rw [if_pos rfl]
  refine ⟨by omega,fun h=>?_,fun h=>?_⟩
  ·rw [hM,if_pos rfl];exact h
  ·rw [hM,hm,if_pos rfl,if_neg h]
 ·rw [if_neg hbM]
  refine ⟨h1,fun h=>?_,fun h=>?_⟩
  ·rw [h2 h,if_neg hbM]
  ·rw [h3 h]
/-- the number of an island -/
def Nw.lab (n:Nw) (b:Nat):Nat:=((List.range (n.root b)).filter fun r=>decide (n.root r=r)).length
def Nw.refs (n:Nw):List Nat:=(List.range n.B).filter fun r=>decide (n.root r=r)
def Nw.cnt (n:Nw) (b:Nat):Nat:=((List.range b).filter fun r=>decide (n.root r=r)).length
theorem Nw.cnt_succ (n:Nw) (b:Nat):n.cnt (b+1)=n.cnt b+if n.root b=b then 1 else 0:=by
 unfold Nw.cnt
 rw [List.range_succ,List.filter_append,List.length_append]
 by_cases h:n.root b=b
 ·simp [h]
 ·simp [h]
theorem Nw.cnt_le (n:Nw) (b:Nat):n.cnt b≤b:=by
 unfold Nw.cnt
 have:=List.length_filter_le (fun r=>decide (n.root r=r)) (List.range b)
 simpa using this
theorem Nw.lab_root (n:Nw) {b:Nat} (h:n.root b=b):n.lab b=n.cnt b:=by unfold Nw.lab Nw.cnt;rw [h]
theorem Nw.lab_of (n:Nw) (b:Nat):n.lab b=n.lab (n.root b):=by unfold Nw.lab;rw [Nw.root_root]
theorem Nw.lab_le (n:Nw) (b:Nat):n.lab b≤b:=Nat.le_trans (n.cnt_le _) (Nw.root_le b)
def lnI (l:LnV):Nat→Int
 | 0=>l.f
 | 1=>l.t
 | 2=>l.x
 | _=>l.c
theorem PtrTo.ln {S:Nat→Prop} {w:World} {p:Addr} {l:LnV} (h:PtrTo eL S w p l) (i:Nat) (hi:i<4):PtrTo (eInt .i64) S w (p.add i) (lnI l i):=by
 obtain ⟨e,⟨rfl,h1,h2,h3,h4⟩,hS,hc⟩:=h
 refine ⟨.int .i64 (lnI l i),⟨rfl,?_⟩,by rw [G2];exact hS,fun j u hu=>?_⟩
 ·match i with
  | 0=>exact h1
  | 1=>exact h2
  | 2=>exact h3
  | 3=>exact h4
 ·have hj:j=0:=by
   cases j with
   | zero=>rfl
   | succ j=>simp [Value.cells] at hu
  subst hj
  rw [X8]
  refine hc _ u ?_
  match i with
  | 0=>simpa [Value.cells,lnI] using hu
  | 1=>simpa [Value.cells,lnI] using hu
  | 2=>simpa [Value.cells,lnI] using hu
  | 3=>simpa [Value.cells,lnI] using hu
section
variable {P:Program} {σ:Env} {w:World} {d:Option Tmp} {ty:TypeId} {pos:String} {af:Array Edge} {g:Option (Nat×Bool)} {S:Nat→Prop}
theorem Ar5 {s:TypeId} {x:Operand} {i off:Nat} {u:Value} {l:LnV} (hf:fldOf P s i=some off) (hx:ev σ x=some u) (hp:Ptr eL S l u w) (ho:off<4):Gv P ⟨d,.fieldAddr s x i,ty,pos,af,g⟩ σ w fun v' w'=>Ext w w'∧Sp.ok (.inr (Ptr (eInt .i64) S (lnI l off))) v' w':=by
 obtain ⟨p,rfl,hp⟩:=hp
 exact M4 (Au7 hf hx) ⟨_,rfl,hp.ln off ho⟩ (fun _ _ _ e ⟨p,h1,h2⟩=>⟨p,h1,h2.ext e⟩)
end
section
variable {P:Program} {ro:Option Nat} {N:Nat} {ds:List Deferred} {ops:Array Oper} {K:Env→World→Prop} {rest:List Oper} {σ:Env} {w:World} {d:Tmp} {ty:TypeId} {pos:String} {af:Array Edge} {S:Nat→Prop}
end
end Go.Kx
namespace Go.Proofs.YtfilidfomgfnhaaGreat
open Go Go.Kx Go.RowKit
/-- what a net that was found good is like -/
structure nwOk (n:NtV) (o:List Int):Prop where
 b:n.b=((nwOf n o).B:Nat)
 b1:1≤(nwOf n o).B
 b6:(nwOf n o).B≤6
 m:(nwOf n o).M≤10
 fI:∀ k,k<(nwOf n o).M→(n.ls.getD k ln0).f=((nwOf n o).F k:Nat)
 tI:∀ k,k<(nwOf n o).M→(n.ls.getD k ln0).t=((nwOf n o).T k:Nat)
 f:∀ k,k<(nwOf n o).M→(nwOf n o).F k<(nwOf n o).B
 t:∀ k,k<(nwOf n o).M→(nwOf n o).T k<(nwOf n o).B
 ne:∀ k,k<(nwOf n o).M→(nwOf n o).F k≠(nwOf n o).T k
 x:∀ k,k<(nwOf n o).M→1≤(n.ls.getD k ln0).x∧(n.ls.getD k ln0).x≤1000
 c:∀ k,k<(nwOf n o).M→0≤(n.ls.getD k ln0).c∧(n.ls.getD k ln0).c≤1000000
 outs:outsOk n o
theorem AM7 {n:NtV} {o:List Int} (h:outE n o=0):nwOk n o:=by
 obtain ⟨hc,ho⟩:=Av7 h
 obtain ⟨h1,h6,h10,hck⟩:=Aw9 hc
 have hB:n.b=((n.b.toNat:Nat):Int):=by omega
 have hl:∀ k,k<n.ls.length→∀ i,i<5→ck i n.b (n.ls.getD k ln0)=true:=fun k hk=>hck k hk _ (B4 hk)
 refine ⟨hB,by show 1≤n.b.toNat;omega,by show n.b.toNat≤6;omega,h10,fun k hk=>?_,fun k hk=>?_,fun k hk=>?_,fun k hk=>?_,fun k hk=>?_,fun k hk=>?_,fun k hk=>?_,ho⟩
 all_goals
  have c0:=hl k hk 0 (by decide)
  have c1:=hl k hk 1 (by decide)
  have c2:=hl k hk 2 (by decide)
  have c3:=hl k hk 3 (by decide)
  have c4:=hl k hk 4 (by decide)
  simp [ck] at c0 c1 c2 c3 c4
 ·show (n.ls.getD k ln0).f=(((n.ls.getD k ln0).f.toNat:Nat):Int)
  simp;omega
 ·show (n.ls.getD k ln0).t=(((n.ls.getD k ln0).t.toNat:Nat):Int)
  simp;omega
 ·show (n.ls.getD k ln0).f.toNat<n.b.toNat
  simp;omega
 ·show (n.ls.getD k ln0).t.toNat<n.b.toNat
  simp;omega
 ·show (n.ls.getD k ln0).f.toNat≠(n.ls.getD k ln0).t.toNat
  simp;omega
 ·simpa using c3
 ·simpa using c4
theorem nwOk.g0 {n:NtV} {o:List Int} (h:nwOk n o) {k:Nat} (hk:k<(nwOf n o).M):(nwOf n o).g k=0↔k∈oN o:=by
 show (if k∈oN o then (0:Rat) else ((n.ls.getD k ln0).x:Rat)⁻¹)=0↔_
 constructor
 ·intro h0
  by_cases hm:k∈oN o
  ·exact hm
  ·rw [if_neg hm] at h0
   have hx:=(h.x k hk).1
   have hne:((n.ls.getD k ln0).x:Rat)≠0:=fun e=>by
    have:(n.ls.getD k ln0).x=0:=by exact_mod_cast e
    omega
   have h2:=Rat.mul_inv_cancel _ hne
   rw [h0,Rat.mul_zero] at h2
   exact absurd h2 (by decide)
 ·intro hm;rw [if_pos hm]
theorem nwOk.ok {n:NtV} {o:List Int} (h:nwOk n o):(nwOf n o).Ok:=by
 refine ⟨h.f,h.t,fun k hk=>?_⟩
 show (0:Rat)≤if k∈oN o then (0:Rat) else ((n.ls.getD k ln0).x:Rat)⁻¹
 split
 ·exact Rat.le_refl
 ·have hx:=(h.x k hk).1
  exact Rat.le_of_lt (Rat.inv_pos.2 (by exact_mod_cast (by omega:0<(n.ls.getD k ln0).x)))
theorem At9:Ent Tryz.prog 125:=A0 Tryz.func125 (by kernel_rfl) rfl
theorem As5 {w:World} {b8 g B b:Nat} {p R:Nat→Nat} (k8:Blk w b8 25 #[.slice (some ⟨g,0,none⟩) B B]) (hf:FB (eInt .i64) 3 (fun _=>True) w g (tabI B p)) (hp:Clm B p R) (hb:b<B) :
  CR Tryz.prog 125 #[.int .i64 (b:Nat),.pointer (some ⟨b8,0,none⟩)] w (Is (.int .i64 (R b:Nat))):=by
 refine enter Tryz.func125 rfl Tryz.ntmps125 rfl ?_
 refine .seq (.region (.asg rfl rfl (.nil (.scope (.seq (.label (.seq ?_)))))))
 refine .block (.loop (α:=Nat) (fun x=>[(0,.int .i64 (x:Nat)),(1,.pointer (some ⟨b8,0,none⟩))]) (fun x W=>W=w∧x<B∧R x=R b) (fun x=>x) b ?_ ?_ ?_)
 ·exact lkA rfl
 ·exact ⟨rfl,hb,rfl⟩
 rintro x W ⟨rfl,hx,hR⟩
 obtain ⟨h1,h2,h3⟩:=hp x hx
 refine .block (.seq (.region (.ld ty_I rfl rfl k8 rfl (.mv rfl rfl (.ixB (i:=x) un_I G1 rfl rfl rfl hx (.ldF (E:=eInt .i64) (i:=x) (by decide) G1 rfl rfl (Nat.zero_add _) hf (AL4 hx) fun e he=>.asg rfl rfl (.nil (.seq (.region (.mv rfl rfl (.nil ?_)))))))))))
 obtain ⟨rfl,_⟩:=he
 refine .block (.seq (.region (.mv rfl rfl ?_)))
 by_cases hpx:p x=x
 ·refine .eqlT rfl rfl rfl (by omega) (.asg rfl rfl (.nil (.condT rfl (.exit (.seq (.region (.mv rfl rfl (.asg rfl rfl (.nil (.ret ?_))))))))))
  exact .plain [_] Tryz.results125 ⟨rfl,trivial⟩ ⟨Ext.refl _,by rw [←hR,h2 hpx];rfl⟩
 ·refine .eqlF rfl rfl rfl (by omega) (.asg rfl rfl (.nil (.condF rfl (.region (.mv rfl rfl (.asg rfl rfl (.nil ?_)))))))
  exact ⟨rfl,p x,lkA rfl,⟨rfl,by omega,by rw [←h3 hpx];exact hR⟩,by omega⟩
end Go.Proofs.YtfilidfomgfnhaaGreat

namespace Go.Proofs.YtfilidfomgfnhaaGreat
open Go Go.Kx Go.RowKit
theorem Ag7 {n:NtV} {o:List Int} {i:Nat} (hi:i<(inL n o).length):(pInts (inL n o))[i]?=some (((inL n o).getD i 0:Nat):Int)∧(inL n o).getD i 0<n.ls.length∧(inL n o).getD i 0∉oN o:=by
 have key:∀ k,k∈inL n o→k<n.ls.length∧k∉oN o:=fun k hk=>by
  unfold inL freeTo at hk
  rw [List.mem_filter] at hk
  exact ⟨List.mem_range.1 hk.1,by simpa using hk.2⟩
 obtain ⟨h1,h2⟩:=key _ (H2 hi)
 exact ⟨by rw [List.getElem?_map,B4 (z:=0) hi];rfl,h1,h2⟩
theorem fil_get {B i j:Nat} {f:Nat→Int} (hj:j<B) (hi:j<i):(fil B i f 0)[j]?=some (f j):=by
 unfold fil
 rw [List.getElem?_map,List.getElem?_range hj]
 simp [hi]
theorem AT0:Ent Tryz.prog 58:=A0 Tryz.func58 (by kernel_rfl) rfl
theorem AS0 {S:Nat→Prop} {w:World} {vn vo:Value} {n:NtV} {o:List Int} (up:Up S w) (hn:eN.R S w vn n) (ho:eI.R S w vo o) :
  CR Tryz.prog 58 #[vn,vo] w (Two (eI.at S (if outE n o=0 then tabI (nwOf n o).B (nwOf n o).lab else [])) (Is (.int .i64 (outE n o)))):=by
 obtain ⟨s,rfl,hs,hb⟩:=hn
 have hn:eN.R S w (.agg #[.int .i64 n.b,s]) n:=⟨s,rfl,hs,hb⟩
 refine enter Tryz.func58 rfl Tryz.ntmps58 rfl ?_
 refine .seq (.region (.box rfl rfl fun w1 b2 n1=>.asg rfl rfl (.asg rfl rfl (.nil ?_))))
 obtain ⟨e1,k2,hb2,hs1⟩:=n1
 refine .seq (.region (.ldA ty_N rfl rfl k2 rfl (.mv rfl rfl ?_)))
 refine .call _ rfl Ap7 rfl (Am3 (up.ext e1.size) (hn.ext e1) (ho.ext e1)) fun v2 w2 e2 h2=>?_
 obtain ⟨vl,ve,rfl,hl,he⟩:=h2
 replace he:ve=.int .i64 (outE n o):=he
 subst he
 have x2:=e1.trans e2
 refine .mv rfl rfl (.ext rfl rfl rfl (.ext rfl rfl rfl (.asg rfl rfl (.asg rfl rfl (.nil (.seq (.seq (.region (.mv rfl rfl ?_)))))))))
 by_cases hE:outE n o=0
 rotate_left
 ·refine .neqT rfl rfl rfl hE (.nil (.condT rfl (.seq (.region (.mv rfl rfl (.asg rfl rfl (.asg rfl rfl (.nil (.ret ?_)))))))))
  refine .plain [_,_] Tryz.results58 ⟨rfl,rfl,trivial⟩ ⟨x2,_,_,rfl,?_,rfl⟩
  rw [if_neg hE];exact RL.nil
 have ok:=AM7 hE
 rw [if_pos hE] at hl ⊢
 have hB6:=ok.b6
 have hM10:n.ls.length≤10:=ok.m
 have hll:=AV3 n o
 generalize hB:(nwOf n o).B=B at *
 refine .neqF rfl rfl rfl hE (.nil (.condF rfl (.skip ?_)))
 have k2:=k2.ext e2
 have hnb:=ok.b
 rw [hB] at hnb
 rw [hnb] at k2
 refine .seq (.region (.fa S7 rfl rfl (.ld A5 rfl rfl k2 rfl ?_)))
 refine .make_ B B un_I AX6 rfl (by decide) rfl rfl rfl (Nat.le_refl _) (by omega) (by omega) fun w3 g n3=>?_
 have f3:FB (eInt .i64) 3 (fun _=>True) w3 g (List.replicate B 0):=FB.made n3 ⟨rfl,by decide⟩
 obtain ⟨e3,_,hg3,hs3⟩:=n3
 refine .alloc rfl Aq1 fun w4 b8 n4=>?_
 obtain ⟨e4,k8,hb8,hs4⟩:=n4
 refine .store ty_I rfl rfl k8 rfl (by simp [Value.cells]) (by simp [one1,Value.cells]) fun w5 k8 u5=>.nil ?_
 replace k8:Blk w5 b8 25 #[.slice (some ⟨g,0,none⟩) B B]:=k8
 have hs2:=e2.size
 have hs5:=u5.size
 have x4:=x2.trans (e3.trans e4)
 have x5:Ext w w5:=u5.below x4 (by omega)
 have x25:Ext w2 w5:=u5.below (e3.trans e4) (by omega)
 have k2:=k2.ext x25
 have hl:=ER.ext eI (ER.lt eI hl) x25
 have hsL:=ER.ext eLs (ER.lt eLs hs) x5
 have hupd:∀ {W W':World} {l:List Int} {b:Nat},FB (eInt .i64) 3 (fun _=>True) W g l→Upd W W' b→g≠b→FB (eInt .i64) 3 (fun _=>True) W' g l:=fun hf u hne=>by
  obtain ⟨es,hb,he⟩:=hf
  exact ⟨es,hb.upd u hne,he.1,fun i e x h1 h2=>he.2 i e x h1 h2⟩
 have f5:=hupd (f3.ext e4) u5 (by omega)
 have hgw:w2.heap.size≤g:=by omega
 have hg8:g≠b8:=by omega
 have hg2:b2≠g:=by omega
 have hw25:w2.heap.size≤w5.heap.size:=by omega
 refine .mid (α:=Unit) (fun _=>[(2,.pointer (some ⟨b2,0,none⟩)),(6,vl),(8,.pointer (some ⟨b8,0,none⟩))]) (fun _ W=>Below w2.heap.size w5 W∧Blk W b8 25 #[.slice (some ⟨g,0,none⟩) B B]∧FB (eInt .i64) 3 (fun _=>True) W g (tabI B id)) ?_ ?_
 ·refine .seq (.region (.ld ty_I rfl rfl k8 rfl (.len un_I rfl rfl (.mv rfl rfl (.nil ?_)))))
  refine .block (.loop (α:=Nat) (fun i=>[(2,.pointer (some ⟨b2,0,none⟩)),(6,vl),(8,.pointer (some ⟨b8,0,none⟩)),(32,.int .i64 (B:Nat)),(33,.int .i64 (i:Nat))]) (fun i W=>Below w2.heap.size w5 W∧Blk W b8 25 #[.slice (some ⟨g,0,none⟩) B B]∧i≤B∧FB (eInt .i64) 3 (fun _=>True) W g (fil B i (fun b=>((b:Nat):Int)) 0)) (fun i=>B-i) 0 ?_ ?_ ?_)
  ·exact lkA rfl
  ·refine ⟨Below.refl _ _,k8,Nat.zero_le _,?_⟩
   rw [O2];exact f5
  rintro i W ⟨hW,k8,hi,fb⟩
  refine .seq (.region ?_)
  rcases Nat.lt_or_ge i B with hlt | hge
  rotate_left
  ·refine .lssF rfl rfl rfl (by omega) (.nil (.seq (.condF rfl (.exit ?_))))
   have:i=B:=by omega
   subst this
   refine ⟨rfl,(),lkA rfl,hW,k8,?_⟩
   rw [T4] at fb
   exact fb
  refine .lssT rfl rfl rfl (by omega) (.nil (.seq (.condT rfl (.skip (.seq (.block (.seq (.region (.mv rfl rfl (.asg rfl rfl (.nil (.region (.ld ty_I rfl rfl k8 rfl (.mv rfl rfl (.mv rfl rfl (.ixB (i:=i) un_I G1 rfl rfl rfl hlt ?_))))))))))))))))
  refine .storeF (E:=eInt .i64) (i:=i) (z:=((i:Nat):Int)) (by decide) G1 rfl rfl fb rfl (by rw [I5];exact hlt) (Nat.zero_add _) ⟨rfl,B7.2 (by omega)⟩ fun W1 f1 u1=>.nil ?_
  refine .region (.add rfl rfl rfl (.mv rfl rfl (.nil ?_)))
  rw [wI (by omega)]
  rw [Q8] at f1
  exact ⟨rfl,i+1,lkA rfl,⟨u1.below hW hgw,k8.upd u1 hg8.symm,hlt,f1⟩,by show B-(i+1)<B-i;omega⟩
 rintro _ W0 ⟨hW0,k8,fb0⟩
 have hk2:∀ {W:World},Below w2.heap.size w5 W→Blk W b2 24 #[.int .i64 (B:Nat),s]:=fun h=>(h.block b2 (by omega)).trans k2
 have hlW:∀ {W:World},Below w2.heap.size w5 W→eI.R (fun k=>S k∧k<w2.heap.size) W vl (pInts (inL n o)):=fun h=>eI.keep (fun k c t f hk hh=>(h.block k hk.2).trans hh) hl
 have hsW:∀ {W:World},Below w2.heap.size w5 W→eLs.R (fun k=>S k∧k<w.heap.size) W s n.ls:=fun h=>eLs.keep (fun k c t f hk hh=>(h.block k (by have:=hk.2;have:=x2.size;omega)).trans hh) hsL
 refine .seq (.region (.mkf [] [_] rfl rfl rfl rfl (.asg rfl rfl (.nil ?_))))
 refine .mid (α:=Nat→Nat) (fun _=>[(2,.pointer (some ⟨b2,0,none⟩)),(8,.pointer (some ⟨b8,0,none⟩)),(10,.func (.func 125) #[] #[.pointer (some ⟨b8,0,none⟩)])]) (fun p W=>Below w2.heap.size w5 W∧Blk W b8 25 #[.slice (some ⟨g,0,none⟩) B B]∧FB (eInt .i64) 3 (fun _=>True) W g (tabI B p)∧Clm B p ((nwOf n o).rootF (inL n o))) ?_ ?_
 ·refine .seq (.region (.mv rfl rfl (.lenR un_I rfl rfl (hlW hW0) (.mv rfl rfl (.nil ?_)))))
  rw [show (pInts (inL n o)).length=(inL n o).length by simp]
  refine .block (.loop (α:=Nat×(Nat→Nat)) (fun y=>[(2,.pointer (some ⟨b2,0,none⟩)),(8,.pointer (some ⟨b8,0,none⟩)),(10,.func (.func 125) #[] #[.pointer (some ⟨b8,0,none⟩)]),(42,vl),(43,.int .i64 ((inL n o).length:Nat)),(44,.int .i64 (y.1:Nat))])
   (fun y W=>Below w2.heap.size w5 W∧Blk W b8 25 #[.slice (some ⟨g,0,none⟩) B B]∧y.1≤(inL n o).length∧FB (eInt .i64) 3 (fun _=>True) W g (tabI B y.2)∧Clm B y.2 ((nwOf n o).rootF ((inL n o).take y.1))) (fun y=>(inL n o).length-y.1) (0,id) ?_ ?_ ?_)
  ·exact lkA rfl
  ·exact ⟨hW0,k8,Nat.zero_le _,fb0,fun b _=>⟨Nat.le_refl _,fun _=>rfl,fun h=>absurd rfl h⟩⟩
  rintro ⟨i,p⟩ W ⟨hW,k8,hi,fb,hc⟩
  replace hW:Below w2.heap.size w5 W:=hW
  replace hi:i≤(inL n o).length:=hi
  replace fb:FB (eInt .i64) 3 (fun _=>True) W g (tabI B p):=fb
  replace hc:Clm B p ((nwOf n o).rootF ((inL n o).take i)):=hc
  refine .seq (.region ?_)
  rcases Nat.lt_or_ge i (inL n o).length with hlt | hge
  rotate_left
  ·refine .lssF rfl rfl rfl (by omega) (.nil (.seq (.condF rfl (.exit ?_))))
   have:i=(inL n o).length:=by omega
   subst this
   rw [List.take_of_length_le (Nat.le_refl _)] at hc
   exact ⟨rfl,p,lkA rfl,hW,k8,fb,hc⟩
  obtain ⟨hgk,hkM,hko⟩:=Ag7 hlt
  refine .lssT rfl rfl rfl (by omega) (.nil (.seq (.condT rfl (.skip (.seq (.block (.seq (.region (.ixN (i:=i) un_I G1 rfl rfl (hlW hW) rfl hgk fun q hq=>.ldE (E:=eInt .i64) G1 rfl rfl hq fun e he=>.asg rfl rfl (.nil ?_))))))))))
  obtain ⟨rfl,_⟩:=he
  have htk:(inL n o).take (i+1)=(inL n o).take i++[(inL n o).getD i 0]:=by rw [List.take_add_one,B4 (z:=0) hlt];rfl
  have hFB:=ok.f _ hkM
  have hTB:=ok.t _ hkM
  have hFI:=ok.fI _ hkM
  have hTI:=ok.tI _ hkM
  have hgl:n.ls[(inL n o).getD i 0]?=some (n.ls.getD ((inL n o).getD i 0) ln0):=B4 hkM
  have hidm:=(nwOf n o).rootF_idm ((inL n o).take i)
  generalize hR:(nwOf n o).rootF ((inL n o).take i)=R at hc hidm
  generalize hk:(inL n o).getD i 0=k at hgl hFB hTB hFI hTI hkM hko htk
  rw [hB] at hFB hTB
  have hlF:=hidm.le ((nwOf n o).F k)
  have hlT:=hidm.le ((nwOf n o).T k)
  refine .seq ?_
  refine .par follows 16 [.inl (.func (.func 125) #[] #[.pointer (some ⟨b8,0,none⟩)]),.inl (.pointer (some ⟨b2,1,none⟩)),.inl s,.inl (.int .i64 (k:Nat)),.inr (Ptr eL (fun k=>S k∧k<w.heap.size) (n.ls.getD k ln0)),.inr (Ptr (eInt .i64) (fun k=>S k∧k<w.heap.size) (n.ls.getD k ln0).f),.inl (.int .i64 ((nwOf n o).F k:Nat)),.inl (.int .i64 (R ((nwOf n o).F k):Nat)),
   .inl (.func (.func 125) #[] #[.pointer (some ⟨b8,0,none⟩)]),.inl (.pointer (some ⟨b2,1,none⟩)),.inl s,.inl (.int .i64 (k:Nat)),.inr (Ptr eL (fun k=>S k∧k<w.heap.size) (n.ls.getD k ln0)),.inr (Ptr (eInt .i64) (fun k=>S k∧k<w.heap.size) (n.ls.getD k ln0).t),.inl (.int .i64 ((nwOf n o).T k:Nat)),.inl (.int .i64 (R ((nwOf n o).T k):Nat))]
   [[],[],[(49,1)],[],[(50,2),(51,3)],[(52,4)],[(53,5)],[(48,0),(54,6)],[],[],[(57,9)],[],[(58,10),(59,11)],[(60,12)],[(61,13)],[(56,8),(62,14)]] (by kernel_rfl) ⟨
   fun w e=>(v_mv rfl).ob,fun w e=>(v_fa S6 rfl).ob,fun w e=>(v_ld AD0 rfl ((hk2 hW).ext e) rfl).ob,fun w e=>(v_mv rfl).ob,
   fun w e=>D8 (i:=k) X4 AA1 rfl (ER.ext eLs (hsW hW) e) rfl hgl,fun w e x hx=>Ar5 M1 rfl hx (by decide),fun w e x hx=>by rw [←hFI];exact AX2 G1 rfl hx,
   fun w e=>Gv.obIs (AH0 [.int .i64 ((nwOf n o).F k:Nat)] rfl At9 rfl (As5 (k8.ext e) (fb.ext e) hc hFB)),
   fun w e=>(v_mv rfl).ob,fun w e=>(v_fa S6 rfl).ob,fun w e=>(v_ld AD0 rfl ((hk2 hW).ext e) rfl).ob,fun w e=>(v_mv rfl).ob,
   fun w e=>D8 (i:=k) X4 AA1 rfl (ER.ext eLs (hsW hW) e) rfl hgl,fun w e x hx=>Ar5 M0 rfl hx (by decide),fun w e x hx=>by rw [←hTI];exact AX2 G1 rfl hx,
   fun w e=>Gv.obIs (AH0 [.int .i64 ((nwOf n o).T k:Nat)] rfl At9 rfl (As5 (k8.ext e) (fb.ext e) hc hTB)),trivial⟩ ?_
  intro W1 f1 _ _ _ _ _ _ _ _
  refine .asg rfl rfl (.asg rfl rfl (.nil (.region (.ld ty_I rfl rfl (k8.ext f1) rfl (.mv rfl rfl (.mv rfl rfl (.max_ rfl rfl rfl (.mv rfl rfl (.mv rfl rfl (.min_ rfl rfl rfl ?_))))))))))
  rw [show max ((R ((nwOf n o).F k):Nat):Int) (R ((nwOf n o).T k):Nat)=((max (R ((nwOf n o).F k)) (R ((nwOf n o).T k)):Nat):Int) by omega,show min ((R ((nwOf n o).F k):Nat):Int) (R ((nwOf n o).T k):Nat)=((min (R ((nwOf n o).F k)) (R ((nwOf n o).T k)):Nat):Int) by omega]
  refine .ixB (i:=max (R ((nwOf n o).F k)) (R ((nwOf n o).T k))) un_I G1 rfl rfl rfl (by omega) ?_
  refine .storeF (E:=eInt .i64) (i:=max (R ((nwOf n o).F k)) (R ((nwOf n o).T k))) (z:=((min (R ((nwOf n o).F k)) (R ((nwOf n o).T k)):Nat):Int)) (by decide) G1 rfl rfl (fb.ext f1) rfl (by rw [R6];omega) (Nat.zero_add _) ⟨rfl,B7.2 (by omega)⟩ fun W2 f2 u2=>.nil ?_
  rw [BC6] at f2
  have hW1:=hW.trans (f1.mono (by have:=hW.size;omega))
  refine .region (.add rfl rfl rfl (.mv rfl rfl (.nil ?_)))
  rw [wI (by omega)]
  refine ⟨rfl,(i+1,_),lkA rfl,⟨u2.below hW1 hgw,(k8.ext f1).upd u2 hg8.symm,hlt,f2,?_⟩,by show (inL n o).length-(i+1)<(inL n o).length-i;omega⟩
  show Clm B _ ((nwOf n o).rootF ((inL n o).take (i+1)))
  rw [htk,Nw.rootF_snoc,hR]
  exact hc.step hidm
 rintro p W1 ⟨hW1,k8,fb,hc⟩
 rw [show (nwOf n o).rootF (inL n o)=(nwOf n o).root by
  funext b
  unfold Nw.root
  rw [Nw.rootF_free (p:=oN o) _ fun k hk=>ok.g0 hk];rfl] at hc
 have hW1s:=hW1.size
 refine .seq (.region (.fa S7 rfl rfl (.ld A5 rfl rfl (hk2 hW1) rfl ?_)))
 refine .make_ B B un_I AX6 rfl (by decide) rfl rfl rfl (Nat.le_refl _) (by omega) (by omega) fun W2 h n2=>?_
 have f2:FB (eInt .i64) 3 (fun _=>True) W2 h (List.replicate B 0):=FB.made n2 ⟨rfl,by decide⟩
 obtain ⟨e2',_,hh2,hs2'⟩:=n2
 refine .asg rfl rfl (.nil (.seq (.region (.asg rfl rfl (.nil ?_)))))
 have hgh:g≠h:=by have:=fb.lt;omega
 have k8:=k8.ext e2'
 have h8h:b8≠h:=by have:=hW1s;omega
 have fb:=fb.ext e2'
 have hW2:=hW1.trans (e2'.mono (by omega))
 have hhw:w2.heap.size≤h:=by omega
 have hupd':∀ {W W':World} {l:List Int},FB (eInt .i64) 3 (fun _=>True) W g l→Upd W W' h→FB (eInt .i64) 3 (fun _=>True) W' g l:=fun hf u=>hupd hf u hgh
 refine .seq (.seq (.region (.mv rfl rfl (.len un_I rfl rfl (.mv rfl rfl (.nil ?_))))))
 refine .block (.loop (α:=Nat) (fun i=>[(8,.pointer (some ⟨b8,0,none⟩)),(10,.func (.func 125) #[] #[.pointer (some ⟨b8,0,none⟩)]),(15,.slice (some ⟨h,0,none⟩) B B),(16,.int .i64 ((nwOf n o).cnt i:Nat)),(77,.int .i64 (B:Nat)),(78,.int .i64 (i:Nat))])
  (fun i W=>Below w2.heap.size w5 W∧Blk W b8 25 #[.slice (some ⟨g,0,none⟩) B B]∧i≤B∧FB (eInt .i64) 3 (fun _=>True) W g (tabI B p)∧FB (eInt .i64) 3 (fun _=>True) W h (fil B i (fun b=>(((nwOf n o).lab b:Nat):Int)) 0)) (fun i=>B-i) 0 ?_ ?_ ?_)
 ·exact lkA rfl
 ·refine ⟨hW2,k8,Nat.zero_le _,fb,?_⟩
  rw [O2];exact f2
 rintro i W ⟨hW,k8,hi,fb,fl⟩
 refine .seq (.region ?_)
 rcases Nat.lt_or_ge i B with hlt | hge
 rotate_left
 ·refine .lssF rfl rfl rfl (by omega) (.nil (.seq (.condF rfl (.exit (.seq (.region (.mv rfl rfl (.asg rfl rfl (.asg rfl rfl (.nil (.ret ?_)))))))))))
  have:i=B:=by omega
  subst this
  refine .plain [_,_] Tryz.results58 ⟨rfl,rfl,trivial⟩ ⟨Below.trans x5 (hW.mono (by omega)),_,_,rfl,?_,by rw [hE]⟩
  rw [T4] at fl
  have fl':FB (eInt .i64) 3 S W h (tabI i (nwOf n o).lab):=by
   obtain ⟨es,hb,he⟩:=fl
   exact ⟨es,hb,he.1,fun i e x h1 h2=>he.2 i e x h1 h2⟩
  have:=fl'.toR (hsz:=by decide) (c:=i) (up h (by omega)) (by rw [R6];omega) (by rw [R6];omega)
  rw [R6] at this
  exact this
 refine .lssT rfl rfl rfl (by omega) (.nil (.seq (.condT rfl (.skip (.seq (.block (.seq (.region (.mv rfl rfl (.asg rfl rfl (.nil (.seq (.seq (.region (.mv rfl rfl (.mv rfl rfl ?_))))))))))))))))
 refine .callv [.int .i64 (i:Nat)] rfl rfl At9 rfl (As5 k8 fb hc hlt) fun v3 W3 e3 h3=>.asg rfl rfl (.nil (.seq (.region (.mv rfl rfl (.mv rfl rfl ?_)))))
 subst h3
 have hrl:=Nw.root_le (n:=nwOf n o) i
 have hlb:=Nw.lab_le (nwOf n o) i
 have hcl:=Nw.cnt_le (nwOf n o) i
 have hcs:=Nw.cnt_succ (nwOf n o) i
 have hW3:=hW.trans (e3.mono (by have:=hW.size;omega))
 have k8:=k8.ext e3
 have fb:=fb.ext e3
 have fl:=fl.ext e3
 by_cases hr:(nwOf n o).root i=i
 ·refine .neqF rfl rfl rfl (by omega) (.nil (.condF rfl (.skip (.seq (.region (.mv rfl rfl (.mv rfl rfl (.mv rfl rfl (.ixB (i:=i) un_I G1 rfl rfl rfl hlt ?_)))))))))
  refine .storeF (E:=eInt .i64) (i:=i) (z:=(((nwOf n o).lab i:Nat):Int)) (by decide) G1 rfl rfl fl rfl (by rw [I5];exact hlt) (Nat.zero_add _) ⟨by rw [Nw.lab_root _ hr],B7.2 (by omega)⟩ fun W4 f4 u4=>.nil ?_
  rw [Q8 (f:=fun b=>(((nwOf n o).lab b:Nat):Int))] at f4
  refine .region (.mv rfl rfl (.add rfl rfl rfl (.asg rfl rfl (.nil (.region (.add rfl rfl rfl (.mv rfl rfl (.nil ?_))))))))
  rw [wI (by omega),wI (by omega)]
  rw [if_pos hr] at hcs
  exact ⟨rfl,i+1,A2 rfl (A2 rfl (A2 rfl (A2 (by rw [hcs];rfl) (lkA rfl)))),⟨u4.below hW3 hhw,k8.upd u4 h8h,hlt,hupd' fb u4,f4⟩,by show B-(i+1)<B-i;omega⟩
 ·refine .neqT rfl rfl rfl (by omega) (.nil (.condT rfl (.seq (.region (.mv rfl rfl (.mv rfl rfl (.mv rfl rfl (.mv rfl rfl (.ixB (i:=(nwOf n o).root i) un_I G1 rfl rfl rfl (by omega) ?_)))))))))
  refine .ldF (E:=eInt .i64) (i:=(nwOf n o).root i) (by decide) G1 rfl rfl (Nat.zero_add _) fl (fil_get (by omega) (by omega)) fun e he=>?_
  obtain ⟨rfl,_⟩:=he
  refine .ixB (i:=i) un_I G1 rfl rfl rfl hlt ?_
  refine .storeF (E:=eInt .i64) (i:=i) (z:=(((nwOf n o).lab i:Nat):Int)) (by decide) G1 rfl rfl fl rfl (by rw [I5];exact hlt) (Nat.zero_add _) ⟨by rw [Nw.lab_of _ i],B7.2 (by omega)⟩ fun W4 f4 u4=>.nil ?_
  rw [Q8 (f:=fun b=>(((nwOf n o).lab b:Nat):Int))] at f4
  refine .exit (.region (.add rfl rfl rfl (.mv rfl rfl (.nil ?_))))
  rw [wI (by omega)]
  rw [if_neg hr,Nat.add_zero] at hcs
  exact ⟨rfl,i+1,A2 rfl (A2 rfl (A2 rfl (A2 (by rw [hcs];rfl) (lkA rfl)))),⟨u4.below hW3 hhw,k8.upd u4 h8h,hlt,hupd' fb u4,f4⟩,by show B-(i+1)<B-i;omega⟩
end Go.Proofs.YtfilidfomgfnhaaGreat

namespace Go.Kx
open Go Go.RowKit
theorem Av3 (P:Nat→Bool) (i:Nat):∀ d,∃ t,(List.range (i+d)).filter P=(List.range i).filter P++t
 | 0=>⟨[],by simp⟩
 | d+1=>by
  obtain ⟨t,ht⟩:=Av3 P i d
  rw [show i+(d+1)=(i+d)+1 by omega,List.range_succ,List.filter_append,ht,List.append_assoc]
  exact ⟨_,rfl⟩
theorem rng_at {P:Nat→Bool} {r C:Nat} (hr:r<C) (hP:P r=true):((List.range C).filter P).getD ((List.range r).filter P).length 0=r∧((List.range r).filter P).length<((List.range C).filter P).length:=by
 obtain ⟨t,ht⟩:=Av3 P (r+1) (C-(r+1))
 rw [show r+1+(C-(r+1))=C by omega,List.range_succ,List.filter_append] at ht
 have e:List.filter P [r]=[r]:=by simp [hP]
 rw [e] at ht
 rw [ht]
 constructor
 ·rw [List.getD_eq_getElem?_getD,List.append_assoc,List.getElem?_append_right (Nat.le_refl _)];simp
 ·simp
def Nw.refsTo (n:Nw) (b:Nat):List Nat:=(List.range b).filter fun r=>decide (n.root r=r)
theorem Nw.refsTo_len (n:Nw) (b:Nat):(n.refsTo b).length=n.cnt b:=rfl
theorem Nw.refsTo_succ (n:Nw) (b:Nat):n.refsTo (b+1)=n.refsTo b++if n.root b=b then [b] else []:=by
 unfold Nw.refsTo
 rw [List.range_succ,List.filter_append]
 by_cases h:n.root b=b
 ·simp [h]
 ·simp [h]
theorem Nw.cnt_mono (n:Nw) (a:Nat):∀ d,n.cnt a≤n.cnt (a+d)
 | 0=>Nat.le_refl _
 | d+1=>by have:=Nw.cnt_mono n a d;have:=n.cnt_succ (a+d);rw [show a+(d+1)=a+d+1 by omega];omega
theorem Nw.lab_cnt (n:Nw) (b:Nat):n.lab b=n.cnt b↔n.root b=b:=by
 refine ⟨fun h=>?_,fun h=>n.lab_root h⟩
 have hle:=Nw.root_le (n:=n) b
 rcases Nat.lt_or_ge (n.root b) b with hlt | hge
 ·exfalso
  have h1:n.lab b=n.cnt (n.root b):=rfl
  have h2:=n.cnt_succ (n.root b)
  rw [if_pos (Nw.root_root b)] at h2
  have h3:=n.cnt_mono (n.root b+1) (b-(n.root b+1))
  rw [show n.root b+1+(b-(n.root b+1))=b by omega] at h3
  omega
 ·omega
theorem Nw.refs_lab (n:Nw) {b:Nat} (hb:b<n.B):n.refs.getD (n.lab b) 0=n.root b∧n.lab b<n.refs.length:=by
 have hle:=Nw.root_le (n:=n) b
 exact rng_at (P:=fun r=>decide (n.root r=r)) (r:=n.root b) (C:=n.B) (by omega) (decide_eq_true (Nw.root_root b))
theorem Nw.mem_refs {n:Nw} {r:Nat}:r∈n.refs↔r<n.B∧n.root r=r:=by
 unfold Nw.refs
 rw [List.mem_filter,List.mem_range]
 simp
theorem Nw.lab_eq {n:Nw} {a b:Nat} (ha:a<n.B) (hb:b<n.B):n.lab a=n.lab b↔n.root a=n.root b:=by
 constructor
 ·intro h
  rw [←(n.refs_lab ha).1,←(n.refs_lab hb).1,h]
 ·intro h;unfold Nw.lab;rw [h]
end Go.Kx
namespace Go.Proofs.YtfilidfomgfnhaaGreat
open Go Go.Kx Go.RowKit
theorem Ac4:Ent Tryz.prog 83:=A0 Tryz.func83 (by kernel_rfl) rfl
theorem Ab7 {S:Nat→Prop} {w:World} {vn vo:Value} {n:NtV} {o:List Int} (up:Up S w) (hn:eN.R S w vn n) (ho:eI.R S w vo o) :
  CR Tryz.prog 83 #[vn,vo] w (Two (eI.at S (if outE n o=0 then pInts (nwOf n o).refs else [])) (Is (.int .i64 (outE n o)))):=by
 have hvn:=shpA (E:=eN) rfl hn
 refine enter Tryz.func83 rfl Tryz.ntmps83 rfl ?_
 refine .seq (.region (.box rfl rfl fun w1 b2 n1=>.asg rfl rfl (.asg rfl rfl (.nil ?_))))
 obtain ⟨e1,k2,hb2,hs1⟩:=n1
 refine .seq (.region (.ldA ty_N rfl rfl k2 (eN.csz hn) (.mv rfl rfl ?_)))
 rw [←hvn]
 refine .call _ rfl AT0 rfl (AS0 (up.ext e1.size) (hn.ext e1) (ho.ext e1)) fun v2 w2 e2 h2=>?_
 obtain ⟨vl,ve,rfl,hl,he⟩:=h2
 replace he:ve=.int .i64 (outE n o):=he
 subst he
 have x2:=e1.trans e2
 refine .mv rfl rfl (.ext rfl rfl rfl (.ext rfl rfl rfl (.asg rfl rfl (.asg rfl rfl (.nil (.seq (.seq (.region (.mv rfl rfl ?_)))))))))
 by_cases hE:outE n o=0
 rotate_left
 ·refine .neqT rfl rfl rfl hE (.nil (.condT rfl (.seq (.region (.mv rfl rfl (.asg rfl rfl (.asg rfl rfl (.nil (.ret ?_)))))))))
  refine .plain [_,_] Tryz.results83 ⟨rfl,rfl,trivial⟩ ⟨x2,_,_,rfl,?_,rfl⟩
  rw [if_neg hE];exact RL.nil
 have ok:=AM7 hE
 rw [if_pos hE] at hl ⊢
 have hB6:=ok.b6
 refine .neqF rfl rfl rfl hE (.nil (.condF rfl (.skip (.seq (.region (.asg rfl rfl (.nil ?_)))))))
 have hlW:∀ {W:World},Below w2.heap.size w2 W→eI.R (fun k=>S k∧k<w2.heap.size) W vl (tabI (nwOf n o).B (nwOf n o).lab):=fun h=>eI.keep (fun k c t f hk hh=>(h.block k hk.2).trans hh) (ER.lt eI hl)
 refine .seq (.seq (.region (.mv rfl rfl (.lenR un_I rfl rfl hl (.mv rfl rfl (.nil ?_))))))
 rw [R6]
 refine .block (.loop (α:=Nat×Value) (fun y=>[(8,y.2),(20,vl),(21,.int .i64 ((nwOf n o).B:Nat)),(22,.int .i64 (y.1:Nat))]) (fun y W=>Below w2.heap.size w2 W∧y.1≤(nwOf n o).B∧OwnL (eInt .i64) 3 w2.heap.size S W y.2 (pInts ((nwOf n o).refsTo y.1))) (fun y=>(nwOf n o).B-y.1) (0,.slice none 0 0) ?_ ?_ ?_)
 ·exact lkA rfl
 ·exact ⟨Below.refl _ _,Nat.zero_le _,OwnL.nil⟩
 rintro ⟨i,v⟩ W ⟨hW,hi,hown⟩
 replace hW:Below w2.heap.size w2 W:=hW
 replace hi:i≤(nwOf n o).B:=hi
 replace hown:OwnL (eInt .i64) 3 w2.heap.size S W v (pInts ((nwOf n o).refsTo i)):=hown
 refine .seq (.region ?_)
 rcases Nat.lt_or_ge i (nwOf n o).B with hlt | hge
 rotate_left
 ·refine .lssF rfl rfl rfl (by omega) (.nil (.seq (.condF rfl (.exit (.seq (.region (.mv rfl rfl (.asg rfl rfl (.asg rfl rfl (.nil (.ret ?_)))))))))))
  have:i=(nwOf n o).B:=by omega
  subst this
  refine .plain [_,_] Tryz.results83 ⟨rfl,rfl,trivial⟩ ⟨x2.trans hW,_,_,rfl,?_,by rw [hE]⟩
  exact hown.toR (fun k hk=>up k (by have:=x2.size;omega)) (fun _ h=>h)
 refine .lssT rfl rfl rfl (by omega) (.nil (.seq (.condT rfl (.skip (.seq (.block (.seq (.region (.mv rfl rfl (.ixN (i:=i) un_I G1 rfl rfl (hlW hW) rfl (AL4 hlt) fun q hq=>.ldE (E:=eInt .i64) G1 rfl rfl hq fun e he=>.asg rfl rfl (.asg rfl rfl (.nil ?_))))))))))))
 obtain ⟨rfl,_⟩:=he
 have hvl:eI.R (fun k=>S k∨w2.heap.size≤k) W v (pInts ((nwOf n o).refsTo i)):=hown.toR (fun k hk=>.inr hk) (fun _ h=>.inl h)
 have hcl:=(nwOf n o).cnt_le i
 have hlb:=(nwOf n o).lab_cnt i
 have hrs:=(nwOf n o).refsTo_succ i
 have hlen:(pInts ((nwOf n o).refsTo i)).length=(nwOf n o).cnt i:=by simp [Nw.refsTo_len]
 refine .seq (.region (.mv rfl rfl (.mv rfl rfl (.lenR un_I rfl rfl hvl ?_))))
 rw [hlen]
 by_cases hr:(nwOf n o).root i=i
 ·rw [if_pos hr] at hrs
  refine .eqlT rfl rfl rfl (by rw [hlb.2 hr]) (.nil (.condT rfl (.region (.mv rfl rfl (.mv rfl rfl (.bsl _ rfl rfl At0 fun W1 by_ ny=>?_))))))
  obtain ⟨ey,ky,hby,hsy⟩:=ny
  have hW1:=hW.trans (ey.mono hW.size)
  refine .gv rfl rfl (AY0 (E:=eInt .i64) (base:=w2.heap.size) (n:=((i:Nat):Int)) (e:=.int .i64 (i:Nat)) (by decide) un_I AX6 rfl rfl rfl (hown.ext ey) ky ⟨rfl,B7.2 (by omega)⟩ (by rw [hlen];omega) (by decide) hW1.size) ?_
  rintro v8 W8 ⟨ho8,hg8⟩
  refine .asg rfl rfl (.nil (.region (.add rfl rfl rfl (.mv rfl rfl (.nil ?_)))))
  rw [wI (by omega)]
  refine ⟨rfl,(i+1,v8),lkA rfl,⟨(hown.ext ey).below hg8 hW1 hW1.size,hlt,?_⟩,by show (nwOf n o).B-(i+1)<(nwOf n o).B-i;omega⟩
  show OwnL (eInt .i64) 3 w2.heap.size S W8 v8 (pInts ((nwOf n o).refsTo (i+1)))
  rw [hrs]
  unfold pInts
  rw [List.map_append]
  exact ho8
 ·rw [if_neg hr,List.append_nil] at hrs
  refine .eqlF rfl rfl rfl (by intro e;exact hr (hlb.1 (by omega))) (.nil (.condF rfl (.skip (.region (.add rfl rfl rfl (.mv rfl rfl (.nil ?_)))))))
  rw [wI (by omega)]
  refine ⟨rfl,(i+1,v),lkA rfl,⟨hW,hlt,?_⟩,by show (nwOf n o).B-(i+1)<(nwOf n o).B-i;omega⟩
  show OwnL (eInt .i64) 3 w2.heap.size S W v (pInts ((nwOf n o).refsTo (i+1)))
  rw [hrs];exact hown
end Go.Proofs.YtfilidfomgfnhaaGreat

namespace Go.Proofs.YtfilidfomgfnhaaGreat
open Go Go.Kx Go.RowKit
theorem At7:Ent Tryz.prog 157:=A0 Tryz.func157 (by kernel_rfl) rfl
theorem As1 {S:Nat→Prop} {w:World} {n d:Int} (up:Up S w) (hn1 : -9223372036854775808≤n) (hn2:n≤9223372036854775807) (hd1 : -9223372036854775808≤d) (hd2:d≤9223372036854775807) (hd:d≠0) :
  CR Tryz.prog 157 #[.int .i64 n,.int .i64 d] w (Two (eQ.at S (qc (Rat.divInt n d))) (Is (.int .i64 0))):=by
 refine enter Tryz.func157 rfl Tryz.ntmps157 rfl ?_
 refine .seq (.region (.alloc rfl C5 fun w1 b4 n1=>.asg rfl rfl (.nil ?_)))
 obtain ⟨e1,k4,hb4,hs1⟩:=n1
 have hS4:¬ Sx S w.heap.size w1.heap.size b4:=Sx.no (by omega) (by omega)
 have up1:Up (Sx S w.heap.size w1.heap.size) w1:=Sx.up up (Nat.le_refl _) e1.size
 refine .seq (.seq (.region (.mv rfl rfl (.eqlF rfl rfl rfl hd (.nil (.condF rfl (.skip (.seq (.region (.mv rfl rfl ?_))))))))))
 refine .call _ rfl C8 rfl (C7 up1 hn1 hn2) fun v2 w2 e2 h2=>.mv rfl rfl ?_
 refine .call _ rfl C8 rfl (C7 (up1.ext e2.size) hd1 hd2) fun v3 w3 e3 h3=>?_
 refine .call _ rfl Z5 rfl (Ab8 (L:=2) (up1.ext (e2.trans e3).size) (Zv.of (ER.ext eZ h2 e3) (by omega)) (Zv.of h3 (by omega)) hd (by decide)) fun v5 w5 e5 h5=>?_
 have x5:=((e1.trans e2).trans e3).trans e5
 refine .storeA (E:=eQ) ty_Q rfl rfl (((k4.ext e2).ext e3).ext e5) rfl rfl h5 hS4 fun w6 k6 u6 h6=>.asg rfl rfl (.nil (.ret ?_))
 exact .plain [_,_] Tryz.results157 ⟨⟨_,rfl,C9 (E:=eQ) ty_Q rfl rfl k6 h6⟩,rfl,trivial⟩ ⟨u6.below x5 (by omega),_,_,rfl,h6.out,rfl⟩
theorem Ao5:Ent Tryz.prog 129:=A0 Tryz.func129 (by kernel_rfl) rfl
theorem Aj8 {S:Nat→Prop} {w:World} {v:Value} {z:ZV} (up:Up S w) (h:eZ.R S w v z) (hl:z.w.length≤1099511627776):CR Tryz.prog 129 #[v] w (eZ.at S (zc ((zval z).natAbs:Nat))):=by
 obtain ⟨s,rfl,hs⟩:=h
 refine enter Tryz.func129 rfl Tryz.ntmps129 rfl ?_
 refine .seq (.region (.box rfl rfl fun w1 b1 n1=>.alloc rfl B9 fun w2 b2 n2=>.nil ?_))
 obtain ⟨e1,k1,hb1,hs1⟩:=n1
 obtain ⟨e2,k2,hb2,hs2⟩:=n2
 have k1:=k1.ext e2
 have hx:=e1.trans e2
 have hp:=(hs.par w2.heap.size).ext hx
 have upx:Up (Sx S w.heap.size w2.heap.size) w2:=Sx.up up (Nat.le_refl _) hx.size
 refine .seq (.region (.fa D0 rfl rfl (.ld ty_W rfl rfl k1 rfl ?_)))
 refine .call _ rfl B0 rfl (A9 hp) fun v3 w3 e3 h3=>?_
 refine .call _ rfl AO2 rfl (AV7 (upx.ext e3.size) h3 (Nat.le_trans (N7 _) hl)) fun v4 w4 e4 h4=>?_
 refine .call _ rfl F5 rfl (F1 (upx.ext (e3.trans e4).size) h4) fun v5 w5 e5 h5=>?_
 refine .storeA ty_Z rfl rfl (((k2.ext e3).ext e4).ext e5) rfl rfl h5 (Sx.no (by omega) (by omega)) fun w6 k6 u6 h6=>.nil (.ret ?_)
 refine .cell Tryz.results129 rfl ty_Z rfl rfl k6 h6 ⟨u6.below (((hx.trans e3).trans e4).trans e5) (by omega),?_⟩
 have:zc ((zval z).natAbs:Nat)=zc (sg false (val (trimL z.w))):=by
  rw [AO9];unfold zval sg;cases z.neg<;>simp
 rw [this]
 exact h6.out
def absR (r:Rat):Rat:=if r<0 then -r else r
theorem qc_abs (r:Rat):qc (absR r)=⟨zc (r.num.natAbs:Nat),(qc r).den⟩:=by
 unfold absR
 split
 ·rename_i h
  have:r.num<0:=by
   by_cases h1:r.num<0
   ·exact h1
   ·exact absurd h (Rat.not_lt.2 (Rat.num_nonneg.1 (by omega)))
  rw [BE0]
  congr 1
  congr 1
  omega
 ·rename_i h
  have:0≤r.num:=Rat.num_nonneg.2 (Rat.not_lt.1 h)
  unfold qc
  congr 1
  congr 1
  omega
theorem At8:Ent Tryz.prog 64:=A0 Tryz.func64 (by kernel_rfl) rfl
theorem As4 {S:Nat→Prop} {w:World} {va:Value} {a:QV} {L:Nat} (up:Up S w) (ha:eQ.R S w va a) (hk:qk L a) (hL:1≤L) (hL2:L≤100000000000) :
  CR Tryz.prog 64 #[va] w (eQ.at S (qc (absR (qval a)))):=by
 have hva:=shpA rfl ha
 refine enter Tryz.func64 rfl Tryz.ntmps64 rfl ?_
 refine .seq (.region (.box rfl rfl fun w1 b1 n1=>.alloc rfl C5 fun w2 b2 n2=>.nil ?_))
 obtain ⟨e1,k1,hb1,hs1⟩:=n1
 obtain ⟨e2,k2,hb2,hs2⟩:=n2
 have x2:=e1.trans e2
 have k1:=k1.ext e2
 have hS2:¬ Sx S w.heap.size w2.heap.size b2:=Sx.no (by omega) (by omega)
 have up2:Up (Sx S w.heap.size w2.heap.size) w2:=Sx.up up (Nat.le_refl _) x2.size
 have ha2:=(ha.par w2.heap.size).ext x2
 have hout:∀ {W:World} {v:Value} {z:QV},eQ.R (Sx S w.heap.size w2.heap.size) W v z→eQ.R S W v z:=fun h=>h.out
 generalize hT:Sx S w.heap.size w2.heap.size=T at *
 refine .seq (.region (.ldA ty_Q rfl rfl k1 (eQ.csz ha) ?_))
 rw [←hva]
 refine .call _ rfl Q0 rfl (P3 up2 ha2 hk.1 hL (by omega)) fun v3 w3 e3 h3=>.alloc rfl C5 fun w4 b3 n4=>?_
 obtain ⟨e4,k3,hb3,hs4⟩:=n4
 have hkc:qk L (qc (qval a)):=S8 hk.2
 have h3l:=(ER.lt eQ h3).ext e4
 have hno:¬ (T b3∧b3<w3.heap.size):=fun h=>by have:=h.2;omega
 refine .storeA (E:=eQ) ty_Q rfl rfl k3 rfl rfl h3l hno fun w5 k3 u5 h5=>.nil ?_
 have h5:eQ.R T w5 v3 (qc (qval a)):=eQ.mono (fun k _ h=>h.1) h5
 clear h3 h3l
 obtain ⟨s,t,rfl,hn,hd⟩:=O3 h5
 replace k3:Blk w5 b3 55 #[.bool (qc (qval a)).num.neg,s,.bool (qc (qval a)).den.neg,t]:=k3
 have hs2':=x2.size
 have hs3':=e3.size
 have hs5':=u5.size
 have x4:=(x2.trans e3).trans e4
 have x5:Ext w w5:=u5.below x4 (by omega)
 have k2:=((k2.ext e3).ext e4).upd u5 (show b2≠b3 by omega)
 have up5:=up2.ext (show w2.heap.size≤w5.heap.size by omega)
 have hnum:zval (qc (qval a)).num=(qval a).num:=E8 _
 refine .seq ?_
 refine .par follows 6 [.inl _,.inl (.agg #[.bool (qc (qval a)).num.neg,s]),.inr (eZ.at T (zc ((qval a).num.natAbs:Nat))),.inl _,.inl (.agg #[.bool (qc (qval a)).den.neg,t]),.inr (eQ.at T (qc (absR (qval a))))] [[],[(6,0)],[(7,1)],[],[(9,3)],[(8,2),(10,4)]] (by kernel_rfl) ⟨
  fun w e=>(v_fa P5 rfl).ob,fun w e=>(AC9 [.bool (qc (qval a)).num.neg,s] ty_Z rfl (k3.ext e) Ae8).ob,
  fun w e=>by
   have:=Aj8 (up5.ext e.size) (ER.ext eZ hn e) (Nat.le_trans hkc.1.1 (by omega))
   rw [hnum] at this
   exact (A1 _ Ao5 rfl this).ob (A6 _ _ _),
  fun w e=>(v_fa P4 rfl).ob,fun w e=>(AC9 [.bool (qc (qval a)).den.neg,t] ty_Z rfl (k3.ext e) AL1).ob,
  fun w e x hx=>by
   obtain ⟨sx,rfl,hsx⟩:=hx
   obtain ⟨st,hst,hsd⟩:=ER.ext eZ hd e
   have est:st=t:=by simpa using hst.symm
   subst est
   refine M4 (Ac6 [(0,.agg #[.bool (zc ((qval a).num.natAbs:Nat)).neg,sx]),(1,.agg #[.bool (qc (qval a)).den.neg,st])] rfl AZ9) ?_ (A6 _ _ _)
   rw [qc_abs]
   exact ⟨sx,st,rfl,hsx,hsd⟩,trivial⟩ ?_
 rintro w6 e6 x-z hz
 refine .storeA (E:=eQ) ty_Q rfl rfl (k2.ext e6) rfl rfl hz hS2 fun w7 k7 u7 h7=>.nil (.ret ?_)
 exact .cell Tryz.results64 rfl ty_Q rfl rfl k7 h7 ⟨u7.below (x5.trans e6) (by omega),hout h7⟩
end Go.Proofs.YtfilidfomgfnhaaGreat

namespace Go.Kx
open Go Go.RowKit
structure RtV where
 f:Int
 t:Int
 q:Int
def eRt:ER RtV where
 sz:=3
 isA:=true
 R:=fun _ _ v l=>v=.agg #[.int .i64 l.f,.int .i64 l.t,.int .i64 l.q]∧inI l.f∧inI l.t∧inI l.q
 csz:=by rintro S w e x ⟨rfl,_⟩;rfl
 one:=by
  rintro S w e x ⟨rfl,_⟩ u hu
  simp [Value.cells] at hu
  rcases hu with rfl | rfl | rfl<;>rfl
 shp:=by rintro S w e x ⟨rfl,_⟩;rfl
 keep:=fun _ h=>h
 mono:=fun _ h=>h
abbrev eRts:ER (List RtV):=RL eRt
def rtOk (b:Int) (r:RtV):Prop:=0≤r.f∧r.f<b∧0≤r.t∧r.t<b∧0≤r.q∧r.q≤1000000
open Classical in
noncomputable def rtE (l:List RtV) (b:Int):Int:=if 8<l.length then 5 else if ∀ r∈l,rtOk b r then 0 else 1
theorem BD4 {l:List RtV} {b:Int} (h:rtE l b=0):l.length≤8∧∀ r∈l,rtOk b r:=by
 unfold rtE at h
 split at h
 ·cases h
 ·split at h
  ·exact ⟨by omega,by assumption⟩
  ·cases h
end Go.Kx
namespace Go.Proofs.YtfilidfomgfnhaaGreat
open Go Go.Kx Go.RowKit
theorem E0:tyOf Tryz.prog 59=some (true,3):=by kernel_rfl
theorem H4:Tryz.prog.underlying 57=some (.slice 59):=by kernel_rfl
theorem G0:zeroOf Tryz.prog 59=some (.agg #[.int .i64 0,.int .i64 0,.int .i64 0]):=by kernel_rfl
theorem AC2:fldOf Tryz.prog 59 0=some 0:=by kernel_rfl
theorem AC1:fldOf Tryz.prog 59 1=some 1:=by kernel_rfl
theorem L9:fldOf Tryz.prog 59 2=some 2:=by kernel_rfl
theorem V3:Ent Tryz.prog 185:=A0 Tryz.func185 (by kernel_rfl) rfl
theorem U1 {w:World} {b m:Int}:CR Tryz.prog 185 #[.int .i64 b,.int .i64 m] w (Is (.bool (decide (0≤b∧b<m)))):=by
 refine enter Tryz.func185 rfl Tryz.ntmps185 rfl (.beg (.go rfl ?_))
 by_cases h0:0≤b
 ·refine .geqT rfl rfl rfl h0 (.go rfl ?_)
  by_cases h1:b<m
  ·refine .lssT rfl rfl rfl h1 (.goE rfl ?_)
   exact .plain [_] Tryz.results185 ⟨rfl,trivial⟩ ⟨Ext.refl _,by rw [decide_eq_true ⟨h0,h1⟩];rfl⟩
  ·refine .lssF rfl rfl rfl (by omega) (.goE rfl ?_)
   exact .plain [_] Tryz.results185 ⟨rfl,trivial⟩ ⟨Ext.refl _,by rw [decide_eq_false fun h=>h1 h.2];rfl⟩
 ·refine .geqF rfl rfl rfl (by omega) (.goE rfl ?_)
  exact .plain [_] Tryz.results185 ⟨rfl,trivial⟩ ⟨Ext.refl _,by rw [decide_eq_false fun h=>h0 h.1];rfl⟩
theorem Ac3:Ent Tryz.prog 122:=A0 Tryz.func122 (by kernel_rfl) rfl
set_option maxRecDepth 8000 in
theorem Ab1 {S:Nat→Prop} {w:World} {vl:Value} {l:List RtV} {b:Int} (hl:eRts.R S w vl l):CR Tryz.prog 122 #[vl,.int .i64 b] w (Two (fun v _=>∃ i,v=.int .i64 i) (Is (.int .i64 (rtE l b)))):=by
 obtain ⟨_,_,_,_,hll⟩:=RL.len hl
 refine enter Tryz.func122 rfl Tryz.ntmps122 rfl (.beg (.go rfl (.lenR H4 rfl rfl hl ?_)))
 by_cases h8:8<l.length
 ·refine .gtrT rfl rfl rfl (by omega) (.goE rfl ?_)
  exact .plain [_,_] Tryz.results122 ⟨rfl,rfl,trivial⟩ ⟨Ext.refl _,_,_,rfl,⟨_,rfl⟩,by unfold rtE;rw [if_pos h8]⟩
 refine .gtrF rfl rfl rfl (by omega) (.go rfl (.lenR H4 rfl rfl hl ?_))
 refine .goC rfl (.lp (α:=Nat) [1,11,12] rfl (fun i=>[(13,.int .i64 (i:Nat))]) (fun i W=>Ext w W∧i≤l.length∧∀ j r,j<i→l[j]?=some r→rtOk b r) (fun i=>l.length-i) 0 (lc1 rfl) ⟨Ext.refl _,Nat.zero_le _,fun j r hj=>absurd hj (Nat.not_lt_zero _)⟩ ?_)
 rintro i W ⟨hW,hi,hall⟩
 refine .go rfl ?_
 rcases Nat.lt_or_ge i l.length with hlt | hge
 rotate_left
 ·refine .lssF rfl rfl rfl (by omega) (.goE rfl ?_)
  refine .plain [_,_] Tryz.results122 ⟨rfl,rfl,trivial⟩ ⟨hW,_,_,rfl,⟨_,rfl⟩,?_⟩
  unfold rtE
  rw [if_neg h8,if_pos]
  intro r hr
  obtain ⟨j,hj⟩:=List.mem_iff_getElem?.1 hr
  exact hall j r (by have:=(List.getElem?_eq_some_iff.1 hj).1;omega) hj
 have hg:=List.getElem?_eq_getElem hlt
 generalize l[i]=r at hg
 have hbad:∀ {W':World} {σ:Env} {v:Value},¬ rtOk b r→Ext w W'→Kx.look σ 4=some (.int .i64 (i:Nat))→Kx.look σ 5=some (.int .i64 1)→Leave Tryz.prog Tryz.f122 42 (fun v w'=>Ext w w'∧Two (fun v _=>∃ i,v=.int .i64 i) (Is (.int .i64 (rtE l b))) v w') σ [] W':=fun {W' σ v} hn hx h4 h5=>by
  refine .plain [_,_] Tryz.results122 ⟨h4,h5,trivial⟩ ⟨hx,_,_,rfl,⟨_,rfl⟩,?_⟩
  unfold rtE
  rw [if_neg h8,if_neg fun h=>hn (h r (List.mem_iff_getElem?.2 ⟨i,hg⟩))]
 refine .lssT rfl rfl rfl (by omega) (.go rfl (.ixN (i:=i) H4 E0 rfl rfl (ER.ext eRts hl hW) rfl hg fun q hq=>.ldE (E:=eRt) E0 rfl rfl hq fun vr hr=>.alloc rfl G0 fun W1 c n1=>.go rfl ?_))
 obtain ⟨g1,kc,hc,hs1⟩:=n1
 have hWs:=hW.size
 refine .storeA (E:=eRt) (S:=fun k=>k≠c) (z:=r) E0 rfl rfl kc rfl rfl hr (fun h=>h rfl) fun W2 kc u2 hr=>?_
 obtain ⟨rfl,_⟩:=hr
 have x2:Ext w W2:=u2.below (hW.trans g1) (by omega)
 refine .go rfl (.fa AC2 rfl rfl (.lc A5 rfl rfl kc rfl (.go rfl ?_)))
 refine .call _ rfl V3 rfl U1 fun v3 W3 e3 h3=>?_
 subst h3
 have x3:=x2.trans e3
 by_cases hf:0≤r.f∧r.f<b
 rotate_left
 ·rw [decide_eq_false hf]
  exact .goE rfl (hbad (v:=vl) (fun h=>hf ⟨h.1,h.2.1⟩) x3 rfl rfl)
 rw [decide_eq_true hf]
 refine .go rfl (.fa AC1 rfl rfl (.go rfl (.lc A5 rfl rfl (kc.ext e3) rfl (.go rfl ?_))))
 refine .call _ rfl V3 rfl U1 fun v4 W4 e4 h4=>?_
 subst h4
 have x4:=x3.trans e4
 by_cases ht:0≤r.t∧r.t<b
 rotate_left
 ·rw [decide_eq_false ht]
  exact .goE rfl (hbad (v:=vl) (fun h=>ht ⟨h.2.2.1,h.2.2.2.1⟩) x4 rfl rfl)
 rw [decide_eq_true ht]
 refine .go rfl (.fa L9 rfl rfl (.go rfl (.lc I4 rfl rfl (kc.ext (e3.trans e4)) rfl (.go rfl ?_))))
 by_cases hq0:0≤r.q
 rotate_left
 ·exact .lssT rfl rfl rfl (by omega) (.goE rfl (hbad (v:=vl) (fun h=>hq0 h.2.2.2.2.1) x4 rfl rfl))
 refine .lssF rfl rfl rfl (by omega) (.go rfl (.fa L9 rfl rfl (.go rfl (.lc I4 rfl rfl (kc.ext (e3.trans e4)) rfl (.go rfl ?_)))))
 by_cases hq1:r.q≤1000000
 rotate_left
 ·exact .gtrT rfl rfl rfl (by omega) (.goE rfl (hbad (v:=vl) (fun h=>hq1 h.2.2.2.2.2) x4 rfl rfl))
 refine .gtrF rfl rfl rfl (by omega) (.go rfl (.inc rfl rfl rfl (by omega) (.goN rfl (.mk (i+1) rfl (lc1 rfl) ⟨⟨x4,hlt,fun j r' hj hr'=>?_⟩,by show l.length-(i+1)<l.length-i;omega⟩))))
 by_cases e:j=i
 ·subst e;rw [hg] at hr';cases hr';exact ⟨hf.1,hf.2,ht.1,ht.2,hq0,hq1⟩
 ·exact hall j r' (by omega) hr'
end Go.Proofs.YtfilidfomgfnhaaGreat

namespace Go.Kx
open Go Go.RowKit
def Nw.lmL (n:Nw) (l:List Nat):RM:=fun b c=>l.foldl (fun s k=>s+n.g k*(n.inc k b*n.inc k c)) 0
theorem Nw.lmL_snoc (n:Nw) (l:List Nat) (k b c:Nat):n.lmL (l++[k]) b c=n.lmL l b c+n.g k*(n.inc k b*n.inc k c):=by unfold Nw.lmL;rw [List.foldl_append];rfl
theorem Nw.lmL_free {n:Nw} {p:List Nat} (b c:Nat):∀ j,(∀ k,k<j→(n.g k=0↔k∈p))→n.lmL (freeTo p j) b c=sumN j fun k=>n.g k*(n.inc k b*n.inc k c)
 | 0,_=>rfl
 | j+1,h=>by
  have ih:=Nw.lmL_free (n:=n) (p:=p) b c j fun k hk=>h k (by omega)
  have hj:=h j (by omega)
  rw [Go.Proofs.YtfilidfomgfnhaaGreat.M5]
  show _=sumN j _+_
  by_cases hg:n.g j=0
  ·rw [if_pos (hj.1 hg),List.append_nil,ih]
   dsimp only
   rw [hg,Rat.zero_mul,Rat.add_zero]
  ·rw [if_neg (fun h=>hg (hj.2 h)),Nw.lmL_snoc,ih]
/-- one entry set -/
def upE (f:RM) (i j:Nat) (y:Rat):RM:=fun b c=>if b=i then (if c=j then y else f i c) else f b c
theorem AP0 {f:RM} {i j b c:Nat} {y:Rat} (h:b≠i∨c≠j):upE f i j y b c=f b c:=by
 unfold upE
 by_cases hb:b=i
 ·subst hb
  rw [if_pos rfl,if_neg (by rcases h with h | h;exact absurd rfl h;exact h)]
 ·rw [if_neg hb]
theorem Nw.four (n:Nw) {k:Nat} (hne:n.F k≠n.T k) (f:RM) (b c:Nat) :
  upE (upE (upE (upE f (n.F k) (n.F k) (f (n.F k) (n.F k)+n.g k)) (n.F k) (n.T k) (f (n.F k) (n.T k)-n.g k)) (n.T k) (n.T k) (f (n.T k) (n.T k)+n.g k)) (n.T k) (n.F k) (f (n.T k) (n.F k)-n.g k) b c=f b c+n.g k*(n.inc k b*n.inc k c):=by
 unfold upE Nw.inc dl
 generalize n.F k=F at *
 generalize n.T k=T at *
 by_cases h1:b=F
 ·subst h1
  by_cases h2:c=b
  ·subst h2;simp [hne,Ne.symm hne];grind
  ·by_cases h3:c=T
   ·subst h3;simp [hne,Ne.symm hne];grind
   ·simp [hne,Ne.symm hne,h2,h3,Ne.symm h2,Ne.symm h3];grind
 ·by_cases h1':b=T
  ·subst h1'
   by_cases h2:c=b
   ·subst h2;simp [hne,Ne.symm hne];grind
   ·by_cases h3:c=F
    ·subst h3;simp [hne,Ne.symm hne];grind
    ·simp [hne,Ne.symm hne,h2,h3,Ne.symm h2,Ne.symm h3];grind
  ·simp [h1,h1',Ne.symm h1,Ne.symm h1'];grind
theorem rsz_tri {g:Rat} {s:Rat} {L:Nat} (h:Rsz g L) (hL:1≤L) (hs:s=0∨s=1∨s = -1):Rsz (g*s) L:=by
 rcases hs with rfl | rfl | rfl
 ·rw [Rat.mul_zero];exact Rsz.zero hL
 ·rw [Rat.mul_one];exact h
 ·rw [show g*(-1) = -g by grind];exact h.neg
theorem Nw.inc_tri (n:Nw) (k b:Nat):n.inc k b=0∨n.inc k b=1∨n.inc k b = -1:=by
 unfold Nw.inc dl
 split<;>split<;>grind
theorem Nw.lmL_rsz (n:Nw) {L:Nat} (hL:1≤L) (hg:∀ k,Rsz (n.g k) L) (b c:Nat) (l:List Nat):Rsz (n.lmL l b c) (1+l.length*(L+1)):=by
 have key:∀ (m:Nat) (l:List Nat),l.length=m→Rsz (n.lmL l b c) (1+m*(L+1)):=by
  intro m
  induction m with
  | zero=>intro l hl;rw [List.length_eq_zero_iff.1 hl];exact Rsz.zero (by omega)
  | succ m ih =>
   intro l hl
   obtain ⟨l',k,rfl⟩:∃ l' k,l=l'++[k]:=⟨l.dropLast,l.getLast (by intro e;rw [e] at hl;cases hl),(List.dropLast_concat_getLast _).symm⟩
   rw [Nw.lmL_snoc]
   have h1:=ih l' (by simp at hl;exact hl)
   have h2:Rsz (n.g k*(n.inc k b*n.inc k c)) L:=rsz_tri (hg k) hL (by
    rcases n.inc_tri k b with h | h | h<;>rcases n.inc_tri k c with h' | h' | h'<;>rw [h,h']<;>grind)
   refine (h1.add h2).mono ?_
   rw [Nat.add_mul];omega
 exact key _ l rfl
end Go.Kx
namespace Go.Proofs.YtfilidfomgfnhaaGreat
open Go Go.Kx Go.RowKit
theorem nwOk.gsz {n:NtV} {o:List Int} (h:nwOk n o) (k:Nat):Rsz ((nwOf n o).g k) 1:=by
 show Rsz (if k∈oN o then (0:Rat) else ((n.ls.getD k ln0).x:Rat)⁻¹) 1
 have hx:1≤(n.ls.getD k ln0).x∧(n.ls.getD k ln0).x≤1000:=by
  rcases Nat.lt_or_ge k n.ls.length with hk | hk
  ·exact h.x k hk
  ·rw [List.getD_eq_getElem?_getD,List.getElem?_eq_none hk];decide
 split
 ·exact Rsz.zero (Nat.le_refl _)
 ·exact (Rsz.int _ (by omega) (Nat.le_refl _)).inv (Nat.le_refl _)
end Go.Proofs.YtfilidfomgfnhaaGreat

namespace Go.Kx
open Go Go.RowKit
theorem MB.new {t tq:TypeId} {S:Nat→Prop} {w w1 w2:World} {gb c b:Nat} {hs:List Nat} {M:List (List QV)} (h:MB t tq S w gb c hs M) (e:Ext w w1) (u:Upd w1 w2 b) (hb:w.heap.size≤b):MB t tq S w2 gb c hs M:=by
 have h1:=h.mono (S':=fun k=>S k∧k<w.heap.size) fun k hk hS=>⟨hS,hk⟩
 have hg:=h.out.lt
 have h2:=(h1.ext e).upd u (by omega) (fun hm=>by have:=h.lt hm;omega) fun hS=>by have:=hS.2;omega
 exact h2.mono fun k _ hS=>hS.1
theorem AL3 {B i j:Nat} {f:RM} {y:Rat} (hi:i<B):(tabM B B f).set i ((tab B (f i)).set j (qc y))=tabM B B (upE f i j y):=by
 rw [AU8,AA2 hi]
 rfl
end Go.Kx
namespace Go.Proofs.YtfilidfomgfnhaaGreat
open Go Go.Kx Go.RowKit
theorem AN6:Ent Tryz.prog 85:=A0 Tryz.func85 (by kernel_rfl) rfl
theorem AM0 {S:Nat→Prop} {w:World} {vn vl vr:Value} {n:NtV} {o:List Int} (up:Up S w) (hn:eN.R S w vn n) (hl:eI.R S w vl (pInts (inL n o))) (hr:eI.R S w vr (pInts (nwOf n o).refs)) (ok:nwOk n o) :
  CR Tryz.prog 85 #[vn,vl,vr] w (eM.at S (tabM (nwOf n o).B (nwOf n o).B (nwOf n o).gm)):=by
 obtain ⟨s,rfl,hs,_⟩:=hn
 have hB6:=ok.b6
 have hM10:n.ls.length≤10:=ok.m
 have hll:=AV3 n o
 have hnb:=ok.b
 refine enter Tryz.func85 rfl Tryz.ntmps85 rfl ?_
 refine .seq (.region (.box rfl rfl fun w1 b3 n1=>.asg rfl rfl (.nil ?_)))
 obtain ⟨e1,k3,hb3,hs1⟩:=n1
 rw [hnb] at k3
 generalize hnw:nwOf n o=nw at *
 generalize hB:nw.B=B at *
 refine .seq (.region (.fa S7 rfl rfl (.ld A5 rfl rfl k3 rfl (.fa S7 rfl rfl (.ld A5 rfl rfl k3 rfl ?_)))))
 refine .call _ rfl Ai4 rfl (Ab3 (m:=[]) (L:=1) (up.ext e1.size) RL.nil (fun r hr=>by cases hr) (by decide) (by decide)) fun v2 w2 e2 h2=>.asg rfl rfl (.nil ?_)
 obtain ⟨gb,hs2,rfl,hgb,hge,hM⟩:=h2
 have hcB:cutN (B:Int)=B:=by unfold cutN;omega
 rw [hcB] at hM ⊢
 have hz:tabM B B (rm [])=tabM B B (nw.lmL []):=F8 fun i k _ _=>by unfold rm;rw [List.getD_nil,Af0];rfl
 rw [hz] at hM
 have x2:=e1.trans e2
 have hw1:=e1.size
 have hsW:∀ {W:World},Below w1.heap.size w2 W→eLs.R (fun k=>S k∧k<w.heap.size) W s n.ls:=fun h=>eLs.keep (fun k c t f hk hh=>(h.block k (by have:=hk.2;omega)).trans hh) (ER.ext eLs (ER.lt eLs hs) x2)
 have hlW:∀ {W:World},Below w1.heap.size w2 W→eI.R (fun k=>S k∧k<w.heap.size) W vl (pInts (inL n o)):=fun h=>eI.keep (fun k c t f hk hh=>(h.block k (by have:=hk.2;omega)).trans hh) (ER.ext eI (ER.lt eI hl) x2)
 have hrW:∀ {W:World},Below w1.heap.size w2 W→eI.R (fun k=>S k∧k<w.heap.size) W vr (pInts nw.refs):=fun h=>eI.keep (fun k c t f hk hh=>(h.block k (by have:=hk.2;omega)).trans hh) (ER.ext eI (ER.lt eI hr) x2)
 have k3:=k3.ext e2
 have hk3:∀ {W:World},Below w1.heap.size w2 W→Blk W b3 24 #[.int .i64 (B:Nat),s]:=fun h=>(h.block b3 (by omega)).trans k3
 have hhl:hs2.length=B:=by rw [hM.len,A7]
 have hhg:∀ i,i<B→hs2[i]?=some (hs2.getD i 0):=fun i hi=>B4 (by omega)
 have hhm:∀ i,i<B→w1.heap.size≤hs2.getD i 0:=fun i hi=>hge _ (H2 (by omega))
 have hw2:=e2.size
 refine .mid (α:=Unit) (fun _=>[(2,vr),(3,.pointer (some ⟨b3,0,none⟩)),(7,.slice (some ⟨gb,0,none⟩) B B)]) (fun _ W=>Below w1.heap.size w2 W∧MB 32 55 S W gb B hs2 (tabM B B (nw.lmL (inL n o)))) ?_ ?_
 ·refine .seq (.region (.mv rfl rfl (.lenR un_I rfl rfl (hlW (Below.refl _ _)) (.mv rfl rfl (.nil ?_)))))
  rw [show (pInts (inL n o)).length=(inL n o).length by simp]
  refine .block (.loop (α:=Nat) (fun i=>[(2,vr),(3,.pointer (some ⟨b3,0,none⟩)),(7,.slice (some ⟨gb,0,none⟩) B B),(21,vl),(22,.int .i64 ((inL n o).length:Nat)),(23,.int .i64 (i:Nat))]) (fun i W=>Below w1.heap.size w2 W∧i≤(inL n o).length∧MB 32 55 S W gb B hs2 (tabM B B (nw.lmL ((inL n o).take i)))) (fun i=>(inL n o).length-i) 0 ?_ ?_ ?_)
  ·exact lkA rfl
  ·exact ⟨Below.refl _ _,Nat.zero_le _,hM⟩
  rintro i W ⟨hW,hi,hM⟩
  have hhk:∀ j,j<B→hs2.getD j 0<W.heap.size:=fun j hj=>hM.lt (H2 (by omega))
  refine .seq (.region ?_)
  rcases Nat.lt_or_ge i (inL n o).length with hlt | hge'
  rotate_left
  ·refine .lssF rfl rfl rfl (by omega) (.nil (.seq (.condF rfl (.exit ?_))))
   have:i=(inL n o).length:=by omega
   subst this
   rw [List.take_of_length_le (Nat.le_refl _)] at hM
   exact ⟨rfl,(),lkA rfl,hW,hM⟩
  obtain ⟨hgk,hkM,hko⟩:=Ag7 hlt
  refine .lssT rfl rfl rfl (by omega) (.nil (.seq (.condT rfl (.skip (.seq (.block (.seq (.region (.ixN (i:=i) un_I G1 rfl rfl (hlW hW) rfl hgk fun q hq=>.ldE (E:=eInt .i64) G1 rfl rfl hq fun e he=>.asg rfl rfl (.nil ?_))))))))))
  obtain ⟨rfl,_⟩:=he
  have htk:(inL n o).take (i+1)=(inL n o).take i++[(inL n o).getD i 0]:=by rw [List.take_add_one,B4 (z:=0) hlt];rfl
  have hgl:n.ls[(inL n o).getD i 0]?=some (n.ls.getD ((inL n o).getD i 0) ln0):=B4 hkM
  have hkM':(inL n o).getD i 0<(nwOf n o).M:=hkM
  have hFI:=ok.fI _ hkM'
  have hTI:=ok.tI _ hkM'
  have hFB:=ok.f _ hkM'
  have hTB:=ok.t _ hkM'
  have hne:=ok.ne _ hkM'
  have hx:=ok.x _ hkM'
  have hgs:=ok.gsz ((inL n o).getD i 0)
  have hgv:(nwOf n o).g ((inL n o).getD i 0)=Rat.divInt 1 (n.ls.getD ((inL n o).getD i 0) ln0).x:=by
   show (if (inL n o).getD i 0∈oN o then (0:Rat) else ((n.ls.getD ((inL n o).getD i 0) ln0).x:Rat)⁻¹)=_
   rw [if_neg hko,Rat.divInt_eq_div,Rat.div_def,show ((1:Int):Rat)=1 from rfl,Rat.one_mul]
  rw [hnw] at hFI hTI hFB hTB hne hgs hgv
  rw [hB] at hFB hTB
  have hfs:∀ b c,Rsz (nw.lmL ((inL n o).take i) b c) 30:=fun b c=>(nw.lmL_rsz (Nat.le_refl _) (fun k=>by rw [←hnw];exact ok.gsz k) b c _).mono (by rw [List.length_take];omega)
  generalize hk:(inL n o).getD i 0=k at *
  generalize hf:nw.lmL ((inL n o).take i)=f at *
  generalize hln:n.ls.getD k ln0=ln at *
  refine .seq (.region (.fa S6 rfl rfl (.ld AD0 rfl rfl (hk3 hW) rfl (.mv rfl rfl (.ixN (i:=k) X4 AA1 rfl rfl (hsW hW) rfl hgl fun q hq=>.ldE (E:=eL) AA1 rfl rfl hq fun vl' hvl=>.alloc rfl Ae4 fun W1 b10 n1'=>?_)))))
  obtain ⟨f1,k10,hb10,hs1'⟩:=n1'
  refine .storeA (E:=eL) (S:=fun k=>k≠b10) (z:=ln) AA1 rfl rfl k10 rfl rfl hvl (fun h=>h rfl) fun W2 k10 u2 hl2=>.nil ?_
  obtain ⟨rfl,_⟩:=hl2
  rw [hFI,hTI] at k10
  replace k10:Blk W2 b10 80 #[.int .i64 (nw.F k:Nat),.int .i64 (nw.T k:Nat),.int .i64 ln.x,.int .i64 ln.c]:=k10
  have hWs:=hW.size
  have hM:=hM.new f1 u2 (by omega)
  have hs2':=u2.size
  have hW2:Below w1.heap.size w2 W2:=u2.below (hW.trans (f1.mono (by omega))) (by omega)
  have upT:∀ {W':World},W2.heap.size≤W'.heap.size→Up (offM S gb hs2) W':=fun h k' hk'=>⟨up k' (by omega),by have:=hM.out.lt;omega,fun hm=>by have:=hM.lt hm;omega⟩
  refine .seq (.region (.fa AV4 rfl rfl (.ld I4 rfl rfl k10 rfl ?_)))
  refine .call _ rfl At7 rfl (As1 (upT (Nat.le_refl _)) (by decide) (by decide) (by omega) (by omega) (by omega)) fun v3 W3 e3 h3=>?_
  obtain ⟨vp,ve,rfl,hp,rfl⟩:=h3
  rw [←hgv] at hp
  refine .mv rfl rfl (.ext rfl rfl rfl (.ext rfl rfl rfl (.alloc rfl C5 fun W4 b11 n4=>?_)))
  obtain ⟨e4,k11,hb11,hs4⟩:=n4
  have hs3:=e3.size
  refine .storeA (E:=eQ) (S:=fun k=>offM S gb hs2 k∧k<W3.heap.size) ty_Q rfl rfl k11 rfl rfl (ER.ext eQ (ER.lt eQ hp) e4) (fun h=>by have:=h.2;omega) fun W5 k11 u5 hp5=>.asg rfl rfl (.nil ?_)
  have hp5:eQ.R (offM S gb hs2) W5 vp (qc (nw.g k)):=eQ.mono (fun _ _ h=>h.1) hp5
  have hvp:=shpA (E:=eQ) rfl hp5
  have hM:=hM.new (e3.trans e4) u5 (by omega)
  have hs5:=u5.size
  have hW5:Below w1.heap.size w2 W5:=u5.below (hW2.trans ((e3.trans e4).mono (by omega))) (by omega)
  have k10:=(k10.ext (e3.trans e4)).upd u5 (show b10≠b11 by omega)
  have hrow0:=hM.row (nw.F k) _ _ (hhg _ hFB) (F7 hFB)
  refine .seq ?_
  refine .par follows 18 [.inl (.slice (some ⟨gb,0,none⟩) B B),.inl (.pointer (some ⟨b10,0,none⟩)),.inl (.int .i64 (nw.F k:Nat)),.inl (.pointer (some ⟨gb,0+(nw.F k)*1,none⟩)),.inl (slB B (hs2.getD (nw.F k) 0)),.inl (.pointer (some ⟨b10,0,none⟩)),.inl (.int .i64 (nw.F k:Nat)),.inl (.slice (some ⟨gb,0,none⟩) B B),.inl (.pointer (some ⟨b10,0,none⟩)),.inl (.int .i64 (nw.F k:Nat)),.inl (.pointer (some ⟨gb,0+(nw.F k)*1,none⟩)),.inl (slB B (hs2.getD (nw.F k) 0)),.inl (.pointer (some ⟨b10,0,none⟩)),.inl (.int .i64 (nw.F k:Nat)),.inl (.pointer (some ⟨hs2.getD (nw.F k) 0,0+(nw.F k)*4,none⟩)),.inr (eQ.at (offM S gb hs2) (qc (f (nw.F k) (nw.F k)))),.inl vp,.inr (eQ.at (offM S gb hs2) (qc (f (nw.F k) (nw.F k)+nw.g k)))]
   [[],[],[(39,1)],[(38,0),(40,2)],[(41,3)],[],[(43,5)],[],[],[(46,8)],[(45,7),(47,9)],[(48,10)],[],[(50,12)],[(49,11),(51,13)],[(52,14)],[],[(53,15),(54,16)]] (by kernel_rfl) ⟨
   fun w e=>(v_mv rfl).ob,fun w e=>(v_fa M1 rfl).ob,fun w e=>(v_ld A5 rfl (k10.ext e) rfl).ob,fun w e=>(H9 (i:=nw.F k) un_M ty_V rfl rfl hFB).ob,fun w e=>(v_ld ty_V rfl (hM.out.ext e) (hM.cell (hhg _ hFB))).ob,fun w e=>(v_fa M1 rfl).ob,fun w e=>(v_ld A5 rfl (k10.ext e) rfl).ob,
   fun w e=>(v_mv rfl).ob,fun w e=>(v_fa M1 rfl).ob,fun w e=>(v_ld A5 rfl (k10.ext e) rfl).ob,fun w e=>(H9 (i:=nw.F k) un_M ty_V rfl rfl hFB).ob,fun w e=>(v_ld ty_V rfl (hM.out.ext e) (hM.cell (hhg _ hFB))).ob,fun w e=>(v_fa M1 rfl).ob,fun w e=>(v_ld A5 rfl (k10.ext e) rfl).ob,
   fun w e=>(H9 (i:=nw.F k) un_V ty_Q rfl rfl hFB).ob,
   fun w e=>(AB9 (E:=eQ) (i:=nw.F k) (by decide) ty_Q rfl (Nat.zero_add _) (hrow0.2.ext e) (by rw [J5 hFB])).mono fun v' w' h=>⟨h.1,fun w'' e'=>eQ.mono (fun _ _ h=>h.1) (h.2 w'' e')⟩,
   fun w e=>((B3 ty_Q rfl (k11.ext e) (eQ.csz hp5)).eq hvp.symm).ob,
   fun w e x hx=>by
    have:=U6 (L:=30) (upT (by have:=e.size;omega)) hx (ER.ext eQ hp5 e) (hfs _ _).toOk (hgs.mono (by decide)).toOk (by decide) (by decide)
    rw [A8,A8] at this
    exact (A1 _ Q3 rfl this).ob (A6 _ _ _),trivial⟩ ?_
  intro X0 g0 _ _ y0 hy0
  refine .ixB (i:=nw.F k) un_V ty_Q rfl rfl rfl hFB (.storeF (E:=eQ) (i:=nw.F k) (by decide) ty_Q rfl rfl (hrow0.2.ext g0) rfl (by rw [A3];exact hFB) (Nat.zero_add _) (eQ.mono (fun k' _ h=>⟨h,fun e=>h.2.2 (e▸H2 (by omega))⟩) hy0) fun Y0 fy0 uy0=>.nil ?_)
  have hM:=(hM.ext g0).set (hhg _ hFB) (by rw [List.length_set,A3]) uy0 fy0
  rw [AL3 hFB] at hM
  have sx0:=g0.size
  have sy0:=uy0.size
  have lw0:=hhm _ hFB
  have lk0:=hhk _ hFB
  have hW5:Below w1.heap.size w2 Y0:=uy0.below (hW5.trans (g0.mono (by omega))) lw0
  have k10:=(k10.ext g0).upd uy0 (by omega)
  have k11:=(k11.ext g0).upd uy0 (by omega)
  have hp5:=(ER.ext eQ hp5 g0).upd uy0 (fun h=>h.2.2 (H2 (by omega)))
  have hrow1:=hM.row (nw.F k) _ _ (hhg _ hFB) (F7 hFB)
  refine .seq ?_
  refine .par follows 18 [.inl (.slice (some ⟨gb,0,none⟩) B B),.inl (.pointer (some ⟨b10,0,none⟩)),.inl (.int .i64 (nw.F k:Nat)),.inl (.pointer (some ⟨gb,0+(nw.F k)*1,none⟩)),.inl (slB B (hs2.getD (nw.F k) 0)),.inl (.pointer (some ⟨b10,1,none⟩)),.inl (.int .i64 (nw.T k:Nat)),.inl (.slice (some ⟨gb,0,none⟩) B B),.inl (.pointer (some ⟨b10,0,none⟩)),.inl (.int .i64 (nw.F k:Nat)),.inl (.pointer (some ⟨gb,0+(nw.F k)*1,none⟩)),.inl (slB B (hs2.getD (nw.F k) 0)),.inl (.pointer (some ⟨b10,1,none⟩)),.inl (.int .i64 (nw.T k:Nat)),.inl (.pointer (some ⟨hs2.getD (nw.F k) 0,0+(nw.T k)*4,none⟩)),.inr (eQ.at (offM S gb hs2) (qc (f (nw.F k) (nw.T k)))),.inl vp,.inr (eQ.at (offM S gb hs2) (qc (f (nw.F k) (nw.T k)-nw.g k)))]
   [[],[],[(58,1)],[(57,0),(59,2)],[(60,3)],[],[(62,5)],[],[],[(65,8)],[(64,7),(66,9)],[(67,10)],[],[(69,12)],[(68,11),(70,13)],[(71,14)],[],[(72,15),(73,16)]] (by kernel_rfl) ⟨
   fun w e=>(v_mv rfl).ob,fun w e=>(v_fa M1 rfl).ob,fun w e=>(v_ld A5 rfl (k10.ext e) rfl).ob,fun w e=>(H9 (i:=nw.F k) un_M ty_V rfl rfl hFB).ob,fun w e=>(v_ld ty_V rfl (hM.out.ext e) (hM.cell (hhg _ hFB))).ob,fun w e=>(v_fa M0 rfl).ob,fun w e=>(v_ld A5 rfl (k10.ext e) rfl).ob,
   fun w e=>(v_mv rfl).ob,fun w e=>(v_fa M1 rfl).ob,fun w e=>(v_ld A5 rfl (k10.ext e) rfl).ob,fun w e=>(H9 (i:=nw.F k) un_M ty_V rfl rfl hFB).ob,fun w e=>(v_ld ty_V rfl (hM.out.ext e) (hM.cell (hhg _ hFB))).ob,fun w e=>(v_fa M0 rfl).ob,fun w e=>(v_ld A5 rfl (k10.ext e) rfl).ob,
   fun w e=>(H9 (i:=nw.T k) un_V ty_Q rfl rfl hTB).ob,
   fun w e=>(AB9 (E:=eQ) (i:=nw.T k) (by decide) ty_Q rfl (Nat.zero_add _) (hrow1.2.ext e) (by rw [J5 hTB,AP0 (.inr (Ne.symm hne))])).mono fun v' w' h=>⟨h.1,fun w'' e'=>eQ.mono (fun _ _ h=>h.1) (h.2 w'' e')⟩,
   fun w e=>((B3 ty_Q rfl (k11.ext e) (eQ.csz hp5)).eq hvp.symm).ob,
   fun w e x hx=>by
    have:=U4 (L:=30) (upT (by have:=e.size;omega)) hx (ER.ext eQ hp5 e) (hfs _ _).toOk (hgs.mono (by decide)).toOk (by decide) (by decide)
    rw [A8,A8] at this
    exact (A1 _ V4 rfl this).ob (A6 _ _ _),trivial⟩ ?_
  intro X1 g1 _ _ y1 hy1
  refine .ixB (i:=nw.T k) un_V ty_Q rfl rfl rfl hTB (.storeF (E:=eQ) (i:=nw.T k) (by decide) ty_Q rfl rfl (hrow1.2.ext g1) rfl (by rw [A3];exact hTB) (Nat.zero_add _) (eQ.mono (fun k' _ h=>⟨h,fun e=>h.2.2 (e▸H2 (by omega))⟩) hy1) fun Y1 fy1 uy1=>.nil ?_)
  have hM:=(hM.ext g1).set (hhg _ hFB) (by rw [List.length_set,A3]) uy1 fy1
  rw [AL3 hFB] at hM
  have sx1:=g1.size
  have sy1:=uy1.size
  have lw1:=hhm _ hFB
  have lk1:=hhk _ hFB
  have hW5:Below w1.heap.size w2 Y1:=uy1.below (hW5.trans (g1.mono (by omega))) lw1
  have k10:=(k10.ext g1).upd uy1 (by omega)
  have k11:=(k11.ext g1).upd uy1 (by omega)
  have hp5:=(ER.ext eQ hp5 g1).upd uy1 (fun h=>h.2.2 (H2 (by omega)))
  have hrow2:=hM.row (nw.T k) _ _ (hhg _ hTB) (F7 hTB)
  refine .seq ?_
  refine .par follows 18 [.inl (.slice (some ⟨gb,0,none⟩) B B),.inl (.pointer (some ⟨b10,1,none⟩)),.inl (.int .i64 (nw.T k:Nat)),.inl (.pointer (some ⟨gb,0+(nw.T k)*1,none⟩)),.inl (slB B (hs2.getD (nw.T k) 0)),.inl (.pointer (some ⟨b10,1,none⟩)),.inl (.int .i64 (nw.T k:Nat)),.inl (.slice (some ⟨gb,0,none⟩) B B),.inl (.pointer (some ⟨b10,1,none⟩)),.inl (.int .i64 (nw.T k:Nat)),.inl (.pointer (some ⟨gb,0+(nw.T k)*1,none⟩)),.inl (slB B (hs2.getD (nw.T k) 0)),.inl (.pointer (some ⟨b10,1,none⟩)),.inl (.int .i64 (nw.T k:Nat)),.inl (.pointer (some ⟨hs2.getD (nw.T k) 0,0+(nw.T k)*4,none⟩)),.inr (eQ.at (offM S gb hs2) (qc (f (nw.T k) (nw.T k)))),.inl vp,.inr (eQ.at (offM S gb hs2) (qc (f (nw.T k) (nw.T k)+nw.g k)))]
   [[],[],[(77,1)],[(76,0),(78,2)],[(79,3)],[],[(81,5)],[],[],[(84,8)],[(83,7),(85,9)],[(86,10)],[],[(88,12)],[(87,11),(89,13)],[(90,14)],[],[(91,15),(92,16)]] (by kernel_rfl) ⟨
   fun w e=>(v_mv rfl).ob,fun w e=>(v_fa M0 rfl).ob,fun w e=>(v_ld A5 rfl (k10.ext e) rfl).ob,fun w e=>(H9 (i:=nw.T k) un_M ty_V rfl rfl hTB).ob,fun w e=>(v_ld ty_V rfl (hM.out.ext e) (hM.cell (hhg _ hTB))).ob,fun w e=>(v_fa M0 rfl).ob,fun w e=>(v_ld A5 rfl (k10.ext e) rfl).ob,
   fun w e=>(v_mv rfl).ob,fun w e=>(v_fa M0 rfl).ob,fun w e=>(v_ld A5 rfl (k10.ext e) rfl).ob,fun w e=>(H9 (i:=nw.T k) un_M ty_V rfl rfl hTB).ob,fun w e=>(v_ld ty_V rfl (hM.out.ext e) (hM.cell (hhg _ hTB))).ob,fun w e=>(v_fa M0 rfl).ob,fun w e=>(v_ld A5 rfl (k10.ext e) rfl).ob,
   fun w e=>(H9 (i:=nw.T k) un_V ty_Q rfl rfl hTB).ob,
   fun w e=>(AB9 (E:=eQ) (i:=nw.T k) (by decide) ty_Q rfl (Nat.zero_add _) (hrow2.2.ext e) (by rw [J5 hTB,AP0 (.inl (Ne.symm hne)),AP0 (.inl (Ne.symm hne))])).mono fun v' w' h=>⟨h.1,fun w'' e'=>eQ.mono (fun _ _ h=>h.1) (h.2 w'' e')⟩,
   fun w e=>((B3 ty_Q rfl (k11.ext e) (eQ.csz hp5)).eq hvp.symm).ob,
   fun w e x hx=>by
    have:=U6 (L:=30) (upT (by have:=e.size;omega)) hx (ER.ext eQ hp5 e) (hfs _ _).toOk (hgs.mono (by decide)).toOk (by decide) (by decide)
    rw [A8,A8] at this
    exact (A1 _ Q3 rfl this).ob (A6 _ _ _),trivial⟩ ?_
  intro X2 g2 _ _ y2 hy2
  refine .ixB (i:=nw.T k) un_V ty_Q rfl rfl rfl hTB (.storeF (E:=eQ) (i:=nw.T k) (by decide) ty_Q rfl rfl (hrow2.2.ext g2) rfl (by rw [A3];exact hTB) (Nat.zero_add _) (eQ.mono (fun k' _ h=>⟨h,fun e=>h.2.2 (e▸H2 (by omega))⟩) hy2) fun Y2 fy2 uy2=>.nil ?_)
  have hM:=(hM.ext g2).set (hhg _ hTB) (by rw [List.length_set,A3]) uy2 fy2
  rw [AL3 hTB] at hM
  have sx2:=g2.size
  have sy2:=uy2.size
  have lw2:=hhm _ hTB
  have lk2:=hhk _ hTB
  have hW5:Below w1.heap.size w2 Y2:=uy2.below (hW5.trans (g2.mono (by omega))) lw2
  have k10:=(k10.ext g2).upd uy2 (by omega)
  have k11:=(k11.ext g2).upd uy2 (by omega)
  have hp5:=(ER.ext eQ hp5 g2).upd uy2 (fun h=>h.2.2 (H2 (by omega)))
  have hrow3:=hM.row (nw.T k) _ _ (hhg _ hTB) (F7 hTB)
  refine .par follows 18 [.inl (.slice (some ⟨gb,0,none⟩) B B),.inl (.pointer (some ⟨b10,1,none⟩)),.inl (.int .i64 (nw.T k:Nat)),.inl (.pointer (some ⟨gb,0+(nw.T k)*1,none⟩)),.inl (slB B (hs2.getD (nw.T k) 0)),.inl (.pointer (some ⟨b10,0,none⟩)),.inl (.int .i64 (nw.F k:Nat)),.inl (.slice (some ⟨gb,0,none⟩) B B),.inl (.pointer (some ⟨b10,1,none⟩)),.inl (.int .i64 (nw.T k:Nat)),.inl (.pointer (some ⟨gb,0+(nw.T k)*1,none⟩)),.inl (slB B (hs2.getD (nw.T k) 0)),.inl (.pointer (some ⟨b10,0,none⟩)),.inl (.int .i64 (nw.F k:Nat)),.inl (.pointer (some ⟨hs2.getD (nw.T k) 0,0+(nw.F k)*4,none⟩)),.inr (eQ.at (offM S gb hs2) (qc (f (nw.T k) (nw.F k)))),.inl vp,.inr (eQ.at (offM S gb hs2) (qc (f (nw.T k) (nw.F k)-nw.g k)))]
   [[],[],[(96,1)],[(95,0),(97,2)],[(98,3)],[],[(100,5)],[],[],[(103,8)],[(102,7),(104,9)],[(105,10)],[],[(107,12)],[(106,11),(108,13)],[(109,14)],[],[(110,15),(111,16)]] (by kernel_rfl) ⟨
   fun w e=>(v_mv rfl).ob,fun w e=>(v_fa M0 rfl).ob,fun w e=>(v_ld A5 rfl (k10.ext e) rfl).ob,fun w e=>(H9 (i:=nw.T k) un_M ty_V rfl rfl hTB).ob,fun w e=>(v_ld ty_V rfl (hM.out.ext e) (hM.cell (hhg _ hTB))).ob,fun w e=>(v_fa M1 rfl).ob,fun w e=>(v_ld A5 rfl (k10.ext e) rfl).ob,
   fun w e=>(v_mv rfl).ob,fun w e=>(v_fa M0 rfl).ob,fun w e=>(v_ld A5 rfl (k10.ext e) rfl).ob,fun w e=>(H9 (i:=nw.T k) un_M ty_V rfl rfl hTB).ob,fun w e=>(v_ld ty_V rfl (hM.out.ext e) (hM.cell (hhg _ hTB))).ob,fun w e=>(v_fa M1 rfl).ob,fun w e=>(v_ld A5 rfl (k10.ext e) rfl).ob,
   fun w e=>(H9 (i:=nw.F k) un_V ty_Q rfl rfl hFB).ob,
   fun w e=>(AB9 (E:=eQ) (i:=nw.F k) (by decide) ty_Q rfl (Nat.zero_add _) (hrow3.2.ext e) (by rw [J5 hFB,AP0 (.inr hne),AP0 (.inl (Ne.symm hne)),AP0 (.inl (Ne.symm hne))])).mono fun v' w' h=>⟨h.1,fun w'' e'=>eQ.mono (fun _ _ h=>h.1) (h.2 w'' e')⟩,
   fun w e=>((B3 ty_Q rfl (k11.ext e) (eQ.csz hp5)).eq hvp.symm).ob,
   fun w e x hx=>by
    have:=U4 (L:=30) (upT (by have:=e.size;omega)) hx (ER.ext eQ hp5 e) (hfs _ _).toOk (hgs.mono (by decide)).toOk (by decide) (by decide)
    rw [A8,A8] at this
    exact (A1 _ V4 rfl this).ob (A6 _ _ _),trivial⟩ ?_
  intro X3 g3 _ _ y3 hy3
  refine .ixB (i:=nw.F k) un_V ty_Q rfl rfl rfl hFB (.storeF (E:=eQ) (i:=nw.F k) (by decide) ty_Q rfl rfl (hrow3.2.ext g3) rfl (by rw [A3];exact hFB) (Nat.zero_add _) (eQ.mono (fun k' _ h=>⟨h,fun e=>h.2.2 (e▸H2 (by omega))⟩) hy3) fun Y3 fy3 uy3=>.nil ?_)
  have hM:=(hM.ext g3).set (hhg _ hTB) (by rw [List.length_set,A3]) uy3 fy3
  rw [AL3 hTB] at hM
  have sx3:=g3.size
  have sy3:=uy3.size
  have lw3:=hhm _ hTB
  have lk3:=hhk _ hTB
  have hW5:Below w1.heap.size w2 Y3:=uy3.below (hW5.trans (g3.mono (by omega))) lw3
  have k10:=(k10.ext g3).upd uy3 (by omega)
  have k11:=(k11.ext g3).upd uy3 (by omega)
  have hp5:=(ER.ext eQ hp5 g3).upd uy3 (fun h=>h.2.2 (H2 (by omega)))
  have hfin:tabM B B (upE (upE (upE (upE f (nw.F k) (nw.F k) (f (nw.F k) (nw.F k)+nw.g k)) (nw.F k) (nw.T k) (f (nw.F k) (nw.T k)-nw.g k)) (nw.T k) (nw.T k) (f (nw.T k) (nw.T k)+nw.g k)) (nw.T k) (nw.F k) (f (nw.T k) (nw.F k)-nw.g k))=tabM B B (nw.lmL ((inL n o).take (i+1))):=F8 fun b c _ _=>by
   rw [htk,Nw.lmL_snoc,hf]
   exact nw.four hne f b c
  rw [hfin] at hM
  refine .region (.add rfl rfl rfl (.mv rfl rfl (.nil ?_)))
  rw [wI (by omega)]
  exact ⟨rfl,i+1,lkA rfl,⟨hW5,hlt,hM⟩,by show (inL n o).length-(i+1)<(inL n o).length-i;omega⟩
 rintro _ W ⟨hW,hM⟩
 have hMs:FB eV 32 S W gb _:=hM.toFB (fun k hk=>up k (by have:=hge k hk;omega)) (by omega)
 have hWs:=hW.size
 have hgl:=hMs.lt
 refine .seq (.region (.fa S7 rfl rfl (.ld A5 rfl rfl (hk3 hW) rfl ?_)))
 refine .call _ rfl Aa3 rfl (AX4 (S:=fun k=>S k∧k≠gb) fun k hk=>⟨up k (by omega),by omega⟩) fun vu W1 f1 hu=>.asg rfl rfl (.nil ?_)
 rw [hcB] at hu
 have hW1:=hW.trans (f1.mono (by omega))
 have hf1:=f1.size
 generalize hF:(fun i=>fun b c=>if b∈nw.refs.take i then dl b c else nw.lmL (inL n o) b c:Nat→RM)=F
 have hF0:tabM B B (nw.lmL (inL n o))=tabM B B (F 0):=F8 fun b c _ _=>by rw [←hF];simp
 rw [hF0] at hMs
 refine .seq (.seq (.region (.mv rfl rfl (.lenR un_I rfl rfl (hrW hW1) (.mv rfl rfl (.nil ?_))))))
 rw [show (pInts nw.refs).length=nw.refs.length by simp]
 have hrl:nw.refs.length≤B:=by rw [←hB];exact nw.cnt_le nw.B
 refine .block (.loop (α:=Nat) (fun i=>[(7,.slice (some ⟨gb,0,none⟩) B B),(13,vu),(118,vr),(119,.int .i64 (nw.refs.length:Nat)),(120,.int .i64 (i:Nat))]) (fun i W=>Below w1.heap.size w2 W∧i≤nw.refs.length∧eM.R (fun k=>S k∧k≠gb) W vu (tabM B B idn)∧FB eV 32 S W gb (tabM B B (F i))) (fun i=>nw.refs.length-i) 0 ?_ ?_ ?_)
 ·exact lkA rfl
 ·exact ⟨hW1,Nat.zero_le _,hu,hMs.ext f1⟩
 rintro i W ⟨hW,hi,hu,hMs⟩
 refine .seq (.region ?_)
 rcases Nat.lt_or_ge i nw.refs.length with hlt | hge'
 rotate_left
 ·refine .lssF rfl rfl rfl (by omega) (.nil (.seq (.condF rfl (.exit (.seq (.region (.mv rfl rfl (.asg rfl rfl (.nil (.ret ?_))))))))))
  have:i=nw.refs.length:=by omega
  subst this
  refine .plain [_] Tryz.results85 ⟨rfl,trivial⟩ ⟨Below.trans x2 (hW.mono (by omega)),?_⟩
  have hfin:tabM B B (F nw.refs.length)=tabM B B nw.gm:=F8 fun b c hb _=>by
   rw [←hF]
   dsimp only
   rw [List.take_of_length_le (Nat.le_refl _)]
   unfold Nw.gm
   by_cases hr:nw.root b=b
   ·rw [if_pos hr,if_pos (Nw.mem_refs.2 ⟨by omega,hr⟩)]
   ·rw [if_neg hr,if_neg fun h=>hr (Nw.mem_refs.1 h).2]
    unfold Nw.Lm
    rw [←hnw]
    exact Nw.lmL_free (p:=oN o) b c _ fun k hk=>ok.g0 hk
  rw [hfin] at hMs
  have:=hMs.toR (hsz:=by decide) (c:=B) (up gb (by omega)) (by rw [A7];exact Nat.le_refl _) (by rw [A7];omega)
  rw [A7] at this
  exact this
 have hgr:(pInts nw.refs)[i]?=some ((nw.refs.getD i 0:Nat):Int):=by rw [List.getElem?_map,B4 (z:=0) hlt];rfl
 have hrB:nw.refs.getD i 0<B:=by rw [←hB];exact (Nw.mem_refs.1 (H2 hlt)).1
 refine .lssT rfl rfl rfl (by omega) (.nil (.seq (.condT rfl (.skip (.seq (.block (.seq (.region (.ixN (i:=i) un_I G1 rfl rfl (hrW hW) rfl hgr fun q hq=>.ldE (E:=eInt .i64) G1 rfl rfl hq fun e he=>.asg rfl rfl (.nil ?_))))))))))
 obtain ⟨rfl,_⟩:=he
 refine .region (.mv rfl rfl (.mv rfl rfl (.mv rfl rfl (.mv rfl rfl (.ixN (i:=nw.refs.getD i 0) un_M ty_V rfl rfl hu rfl (F7 hrB) fun q hq=>.ldE (E:=eV) ty_V rfl rfl hq fun vw hvw=>.ixB (i:=nw.refs.getD i 0) un_M ty_V rfl rfl rfl hrB ?_)))))
 refine .storeF (E:=eV) (i:=nw.refs.getD i 0) (by decide) ty_V rfl rfl hMs rfl (by rw [A7];exact hrB) (Nat.zero_add _) hvw fun W2 f2 u2=>.nil ?_
 rw [AA2 hrB] at f2
 have hstep:tabM B B (fun j k=>if j=nw.refs.getD i 0 then idn (nw.refs.getD i 0) k else F i j k)=tabM B B (F (i+1)):=F8 fun b c _ _=>by
  rw [←hF]
  dsimp only
  rw [show nw.refs.take (i+1)=nw.refs.take i++[nw.refs.getD i 0] by rw [List.take_add_one,B4 (z:=0) hlt];rfl]
  by_cases e:b=nw.refs.getD i 0
  ·rw [if_pos e,if_pos (by rw [e];simp),e];rfl
  ·rw [if_neg e]
   by_cases h:b∈nw.refs.take i
   ·rw [if_pos h,if_pos (List.mem_append.2 (.inl h))]
   ·rw [if_neg h,if_neg fun h'=>by
     rcases List.mem_append.1 h' with h' | h'
     ·exact h h'
     ·exact e (List.mem_singleton.1 h')]
 rw [hstep] at f2
 refine .region (.add rfl rfl rfl (.mv rfl rfl (.nil ?_)))
 rw [wI (by omega)]
 exact ⟨rfl,i+1,lkA rfl,⟨u2.below hW hgb,hlt,ER.upd eM hu u2 (fun h=>h.2 rfl),f2⟩,by show nw.refs.length-(i+1)<nw.refs.length-i;omega⟩
end Go.Proofs.YtfilidfomgfnhaaGreat

namespace Go.Kx
open Go Go.RowKit
theorem FB.new {α:Type} {E:ER α} {t:TypeId} {S:Nat→Prop} {w w1 w2:World} {g b:Nat} {l:List α} (h:FB E t S w g l) (e:Ext w w1) (u:Upd w1 w2 b) (hb:w.heap.size≤b):FB E t S w2 g l:=by
 have h1:=h.mono (S':=fun k=>S k∧k<w.heap.size) fun k hk hS=>⟨hS,hk⟩
 have hg:=h.lt
 have h2:=(h1.ext e).upd u (by omega) fun hS=>by have:=hS.2;omega
 exact h2.mono fun k _ hS=>hS.1
theorem Al0 (n:Nat):tab n (fun _=>0)=List.replicate n q0:=by
 unfold tab
 simp [AG4,List.map_const']
end Go.Kx
namespace Go.Proofs.YtfilidfomgfnhaaGreat
open Go Go.Kx Go.RowKit
theorem g_on {n:NtV} {o:List Int} {k:Nat} (hko:k∉oN o):(nwOf n o).g k=((n.ls.getD k ln0).x:Rat)⁻¹:=by
 show (if k∈oN o then (0:Rat) else ((n.ls.getD k ln0).x:Rat)⁻¹)=_
 rw [if_neg hko]
theorem mem_inL {n:NtV} {o:List Int} {k:Nat}:k∈inL n o↔k<n.ls.length∧k∉oN o:=by
 unfold inL freeTo
 rw [List.mem_filter,List.mem_range]
 simp
theorem fl_tab {n:NtV} {o:List Int} (ok:nwOk n o) (θ:Nat→Rat):tab n.ls.length (fun k=>if k∈inL n o then (nwOf n o).fl θ k else 0)=tab n.ls.length ((nwOf n o).fl θ):=G9 fun k hk=>by
 by_cases h:k∈inL n o
 ·rw [if_pos h]
 ·rw [if_neg h,Nw.fl_out ((ok.g0 hk).2 (Classical.byContradiction fun h'=>h (mem_inL.2 ⟨hk,h'⟩)))]
theorem BC4 {l:List Nat} {M i:Nat} {f:Nat→Rat} (hi:i<l.length):(tab M fun k=>if k∈l.take i then f k else 0).set (l.getD i 0) (qc (f (l.getD i 0)))=tab M fun k=>if k∈l.take (i+1) then f k else 0:=by
 rw [AU8]
 refine G9 fun k _=>?_
 rw [show l.take (i+1)=l.take i++[l.getD i 0] by rw [List.take_add_one,B4 (z:=0) hi];rfl]
 by_cases e:k=l.getD i 0
 ·rw [if_pos e,if_pos (by rw [e];simp),e]
 ·rw [if_neg e]
  by_cases h:k∈l.take i
  ·rw [if_pos h,if_pos (List.mem_append.2 (.inl h))]
  ·rw [if_neg h,if_neg fun h'=>by
    rcases List.mem_append.1 h' with h' | h'
    ·exact h h'
    ·exact e (List.mem_singleton.1 h')]
theorem E_col:Ent Tryz.prog 86:=A0 Tryz.func86 (by kernel_rfl) rfl
theorem col_c {S:Nat→Prop} {w:World} {s vl vi x:Value} {n:NtV} {o:List Int} {m:List (List QV)} {L b b2 b6 b9:Nat} (up:Up S w) (ok:nwOk n o) (k2:Blk w b2 24 #[x,s]) (hs:eLs.R S w s n.ls) (k6:Blk w b6 25 #[vl]) (hl:eI.R S w vl (pInts (inL n o)))
  (k9:Blk w b9 28 #[vi]) (hi:eM.R S w vi m) (hk:mk_ L m) (hL:1≤L) (hL2:L≤1000000000) :
  CR Tryz.prog 86 #[.int .i64 (b:Nat),.pointer (some ⟨b2,0,none⟩),.pointer (some ⟨b6,0,none⟩),.pointer (some ⟨b9,0,none⟩)] w (eV.at S (tab n.ls.length ((nwOf n o).fl fun c=>rm m c b))):=by
 have hM10:n.ls.length≤10:=ok.m
 have hll:=AV3 n o
 generalize hθ:(fun c=>rm m c b)=θ
 refine enter Tryz.func86 rfl Tryz.ntmps86 rfl ?_
 refine .seq (.region (.asg rfl rfl (.nil (.seq (.region (.fa S6 rfl rfl (.ld AD0 rfl rfl k2 rfl (.lenR X4 rfl rfl hs ?_))))))))
 refine .make_ _ _ un_V S5 rfl (by decide) rfl rfl rfl (Nat.le_refl _) (by omega) (by omega) fun w1 h n1=>.asg rfl rfl (.nil ?_)
 have f1:FB eQ 55 S w1 h (List.replicate n.ls.length q0):=FB.made n1 zq_R
 obtain ⟨e1,_,hh,hs1⟩:=n1
 rw [←Al0] at f1
 have hlW:∀ {W:World},Ext w W→eI.R S W vl (pInts (inL n o)):=fun e=>ER.ext eI hl e
 refine .seq (.seq (.region (.ld ty_I rfl rfl (k6.ext e1) rfl (.lenR un_I rfl rfl (hlW e1) (.mv rfl rfl (.nil ?_))))))
 rw [show (pInts (inL n o)).length=(inL n o).length by simp]
 refine .block (.loop (α:=Nat) (fun i=>[(0,.int .i64 (b:Nat)),(1,.pointer (some ⟨b2,0,none⟩)),(2,.pointer (some ⟨b6,0,none⟩)),(3,.pointer (some ⟨b9,0,none⟩)),(6,slB n.ls.length h),(15,vl),(16,.int .i64 ((inL n o).length:Nat)),(17,.int .i64 (i:Nat))]) (fun i W=>Ext w W∧i≤(inL n o).length∧FB eQ 55 S W h (tab n.ls.length fun k=>if k∈(inL n o).take i then (nwOf n o).fl θ k else 0)) (fun i=>(inL n o).length-i) 0 ?_ ?_ ?_)
 ·exact lkA rfl
 ·exact ⟨e1,Nat.zero_le _,by simpa using f1⟩
 rintro i W ⟨hW,hi',fb⟩
 have hWs:=hW.size
 have hhl:=fb.lt
 refine .seq (.region ?_)
 rcases Nat.lt_or_ge i (inL n o).length with hlt | hge
 rotate_left
 ·refine .lssF rfl rfl rfl (by omega) (.nil (.seq (.condF rfl (.exit (.seq (.region (.mv rfl rfl (.asg rfl rfl (.nil (.ret ?_))))))))))
  have:i=(inL n o).length:=by omega
  subst this
  rw [List.take_of_length_le (Nat.le_refl _),fl_tab ok] at fb
  refine .plain [_] Tryz.results86 ⟨rfl,trivial⟩ ⟨hW,?_⟩
  have:=fb.toR (hsz:=by decide) (c:=n.ls.length) (up h (by omega)) (by rw [A3];exact Nat.le_refl _) (by rw [A3];omega)
  rw [A3] at this
  exact this
 obtain ⟨hgk,hkM,hko⟩:=Ag7 hlt
 refine .lssT rfl rfl rfl (by omega) (.nil (.seq (.condT rfl (.skip (.seq (.block (.seq (.region (.ixN (i:=i) un_I G1 rfl rfl (hlW hW) rfl hgk fun q hq=>.ldE (E:=eInt .i64) G1 rfl rfl hq fun e he=>.asg rfl rfl (.nil ?_))))))))))
 obtain ⟨rfl,_⟩:=he
 have hset:=BC4 (M:=n.ls.length) (f:=(nwOf n o).fl θ) hlt
 have hgl:n.ls[(inL n o).getD i 0]?=some (n.ls.getD ((inL n o).getD i 0) ln0):=B4 hkM
 have hFI:=ok.fI _ hkM
 have hTI:=ok.tI _ hkM
 have hx:=ok.x _ hkM
 have hgv:=g_on (n:=n) hko
 generalize hkk:(inL n o).getD i 0=k at hset hgl hFI hTI hx hgv hkM
 generalize hln:n.ls.getD k ln0=ln at hgl hFI hTI hx hgv
 refine .seq (.region (.fa S6 rfl rfl (.ld AD0 rfl rfl (k2.ext hW) rfl (.mv rfl rfl (.ixN (i:=k) X4 AA1 rfl rfl (hs.ext hW) rfl hgl fun q hq=>.ldE (E:=eL) AA1 rfl rfl hq fun vl' hvl=>.alloc rfl Ae4 fun W1 c9 n1'=>?_)))))
 obtain ⟨g1,k9',hc9,hs1'⟩:=n1'
 refine .storeA (E:=eL) (S:=fun k=>k≠c9) (z:=ln) AA1 rfl rfl k9' rfl rfl hvl (fun h=>h rfl) fun W2 k9' u2 hl2=>.nil ?_
 obtain ⟨rfl,_⟩:=hl2
 rw [hFI,hTI] at k9'
 replace k9':Blk W2 c9 80 #[.int .i64 ((nwOf n o).F k:Nat),.int .i64 ((nwOf n o).T k:Nat),.int .i64 ln.x,.int .i64 ln.c]:=k9'
 have x2:Ext W W2:=u2.below g1 (by omega)
 have hs2:=u2.size
 have fb:=fb.new g1 u2 (by omega)
 have hW2:=hW.trans x2
 have upT:∀ {W':World},W2.heap.size≤W'.heap.size→Up (fun k=>S k∧k≠h) W':=fun hs k' hk'=>⟨up k' (by omega),by omega⟩
 have hmi:∀ {W':World},Ext W2 W'→eM.R (fun k=>S k∧k≠h) W' vi m:=fun e=>ER.ext eM (eM.mono (fun k' _ hk'=>⟨hk'.1,by have:=hk'.2;omega⟩) (ER.ext eM (ER.lt eM hi) hW2)) e
 have hat:∀ c:Nat,rmI m c b=θ c:=fun c=>by rw [AV0,←hθ]
 have hrz:∀ c,Rsz (θ c) L:=fun c=>by rw [←hθ];exact hk.rsz hL c b
 refine .seq ?_
 refine .par follows 12 [.inl vi,.inl (.pointer (some ⟨c9,0,none⟩)),.inl (.int .i64 ((nwOf n o).F k:Nat)),.inl (.int .i64 (b:Nat)),.inr (eQ.at (fun k=>S k∧k≠h) (qc (θ ((nwOf n o).F k)))),.inl vi,.inl (.pointer (some ⟨c9,1,none⟩)),.inl (.int .i64 ((nwOf n o).T k:Nat)),.inl (.int .i64 (b:Nat)),.inr (eQ.at (fun k=>S k∧k≠h) (qc (θ ((nwOf n o).T k)))),.inr (eQ.at (fun k=>S k∧k≠h) (qc (θ ((nwOf n o).F k)-θ ((nwOf n o).T k)))),.inr (NewP W2.heap.size 55 zq.cells)]
  [[],[],[(27,1)],[],[(26,0),(28,2),(29,3)],[],[],[(32,6)],[],[(31,5),(33,7),(34,8)],[(30,4),(35,9)],[]] (by kernel_rfl) ⟨
  fun w e=>(v_ld ty_M rfl ((k9.ext hW2).ext e) rfl).ob,fun w e=>(v_fa M1 rfl).ob,fun w e=>(v_ld A5 rfl (k9'.ext e) rfl).ob,fun w e=>(v_mv rfl).ob,
  fun w e=>by
   have:=AE5 (i:=((nwOf n o).F k:Nat)) (k:=(b:Nat)) (upT e.size) (hmi e) hk hL (by omega)
   rw [hat] at this
   exact (A1 _ AF7 rfl this).ob (A6 _ _ _),
  fun w e=>(v_ld ty_M rfl ((k9.ext hW2).ext e) rfl).ob,fun w e=>(v_fa M0 rfl).ob,fun w e=>(v_ld A5 rfl (k9'.ext e) rfl).ob,fun w e=>(v_mv rfl).ob,
  fun w e=>by
   have:=AE5 (i:=((nwOf n o).T k:Nat)) (k:=(b:Nat)) (upT e.size) (hmi e) hk hL (by omega)
   rw [hat] at this
   exact (A1 _ AF7 rfl this).ob (A6 _ _ _),
  fun w e x hx y hy=>by
   have:=U4 (L:=L) (upT e.size) hx hy (hrz _).toOk (hrz _).toOk hL (by omega)
   rw [A8,A8] at this
   exact (A1 _ V4 rfl this).ob (A6 _ _ _),
  fun w e=>AE4 C5 e.size,trivial⟩ ?_
 rintro W3 g3 _ _ _ _ y10 hy10 _ ⟨c10,rfl,hc10,k10⟩
 have hy10':=Ah2 hy10 k10 AF8
 refine .storeA (E:=eQ) ty_Q rfl rfl k10 rfl rfl hy10' (fun h=>h.2 rfl) fun W4 k10 u4 hy=>.nil ?_
 have hs3:=g3.size
 have hs4:=u4.size
 have x4:Ext W2 W4:=u4.below g3 hc10
 have hy:eQ.R (fun k=>S k∧k≠h) W4 y10 _:=eQ.mono (fun _ _ h=>h.1) hy
 have hyv:=shpA (E:=eQ) rfl hy
 have fb:=fb.new g3 u4 hc10
 have hd:Rsz (θ ((nwOf n o).F k)-θ ((nwOf n o).T k)) (L+L+1):=by
  rw [Rat.sub_eq_add_neg]
  exact (hrz _).add (hrz _).neg
 have hx0:((ln.x:Int):Rat)≠0:=fun e=>by
  have:ln.x=0:=by exact_mod_cast e
  omega
 have hflv:(θ ((nwOf n o).F k)-θ ((nwOf n o).T k)) / ((ln.x:Int):Rat)=(nwOf n o).fl θ k:=by
  unfold Nw.fl
  rw [hgv,Rat.div_def,Rat.mul_comm]
 have hr1:Rsz ((ln.x:Int):Rat) (L+L+1):=Rsz.int _ (Nat.lt_of_lt_of_le (by omega:ln.x.natAbs<4294967296 ^ 1) (Nat.pow_le_pow_right (by decide) (by omega))) (by omega)
 refine .parL follows 10 [9] [.inl (slB n.ls.length h),.inl (.int .i64 (k:Nat)),.inl y10,.inl (.pointer (some ⟨c9,2,none⟩)),.inl (.int .i64 ln.x),.inr (eQ.at (fun k=>S k∧k≠h) (qc ((ln.x:Int):Rat))),.inr (Two (eQ.at (fun k=>S k∧k≠h) (qc ((nwOf n o).fl θ k))) (Is (.int .i64 0))),.inr (Two (eQ.at (fun k=>S k∧k≠h) (qc ((nwOf n o).fl θ k))) (Is (.int .i64 0))),.inr (eQ.at (fun k=>S k∧k≠h) (qc ((nwOf n o).fl θ k))),.inl (.int .i64 0)]
  [[],[],[],[],[(41,3)],[(42,4)],[(40,2),(43,5)],[(44,6)],[(37,7)],[(37,7)]] (by kernel_rfl) ⟨
  fun w e=>(v_mv rfl).ob,fun w e=>(v_mv rfl).ob,fun w e=>((B3 ty_Q rfl (k10.ext e) (eQ.csz hy)).eq hyv.symm).ob,fun w e=>(v_fa AV4 rfl).ob,fun w e=>(v_ld I4 rfl ((k9'.ext x4).ext e) rfl).ob,
  fun w e=>(A1 _ D5 rfl (D3 (upT (by have:=e.size;omega)) (by omega) (by omega))).ob (A6 _ _ _),
  fun w e x hx=>by
   have:=AY4 (L:=L+L+1) (upT (by have:=e.size;omega)) (ER.ext eQ hy e) hx hd.toOk hr1.toOk (by omega) (by omega) (by rw [A8];exact hx0)
   rw [A8,A8,hflv] at this
   exact (A1 _ Aa4 rfl this).ob (Y8 (A6 _ _ _) (AL7 _)),
  fun w e x hx=>M4 (v_mv rfl) hx (Y8 (A6 _ _ _) (AL7 _)),
  fun w e x hx=>by
   obtain ⟨a,b,rfl,ha,hb⟩:=hx
   exact M4 (v_ex rfl rfl) ha (A6 _ _ _),
  fun w e x hx=>by
   obtain ⟨a,b,rfl,ha,hb⟩:=hx
   exact ((v_ex rfl rfl).eq hb).ob,trivial⟩ ?_
 intro W5 g5 _ _ _ _ _ _ y8 hy8
 refine .ixB (i:=k) un_V ty_Q rfl rfl rfl hkM (.storeF (E:=eQ) (i:=k) (by decide) ty_Q rfl rfl (fb.ext g5) rfl (by rw [A3];exact hkM) (Nat.zero_add _) hy8 fun W6 f6 u6=>.nil ?_)
 rw [hset] at f6
 refine .region (.add rfl rfl rfl (.mv rfl rfl (.nil ?_)))
 rw [wI (by omega)]
 exact ⟨rfl,i+1,lkA rfl,⟨u6.below ((hW2.trans x4).trans g5) (by omega),hlt,f6⟩,by show (inL n o).length-(i+1)<(inL n o).length-i;omega⟩
end Go.Proofs.YtfilidfomgfnhaaGreat

namespace Go.Kx
open Go Go.RowKit
/-- an end of a right: a bus, and a whole quantity -/
def eEn:ER (Int×Int) where
 sz:=5
 isA:=true
 R:=fun S w v x=>∃ s t,v=.agg #[.int .i64 x.1,.bool (qc ((x.2:Int):Rat)).num.neg,s,.bool (qc ((x.2:Int):Rat)).den.neg,t]∧eQ.R S w (.agg #[.bool (qc ((x.2:Int):Rat)).num.neg,s,.bool (qc ((x.2:Int):Rat)).den.neg,t]) (qc ((x.2:Int):Rat))∧inI x.1
 csz:=by rintro S w e x ⟨s,t,rfl,_⟩;rfl
 one:=by
  rintro S w e x ⟨s,t,rfl,h,_⟩ u hu
  have ho:=eQ.one h
  simp only [Value.cells,List.mem_cons] at hu
  rcases hu with rfl | hu
  ·rfl
  ·exact ho u (by simpa [Value.cells] using hu)
 shp:=by rintro S w e x ⟨s,t,rfl,_⟩;rfl
 keep:=fun hk ⟨s,t,h1,h2,h3⟩=>⟨s,t,h1,eQ.keep hk h2,h3⟩
 mono:=fun hk ⟨s,t,h1,h2,h3⟩=>⟨s,t,h1,eQ.mono hk h2,h3⟩
abbrev eEns:ER (List (Int×Int)):=RL eEn
/-- what the ends bring to a bus -/
def enS (z:Nat→Int) (l:List (Int×Int)) (b:Nat):Int:=l.foldl (fun s t=>s+if t.1=(b:Int) then t.2 else 0) (z b)
theorem AY7 (z:Nat→Int) (l:List (Int×Int)) (t:Int×Int) (b:Nat):enS z (l++[t]) b=enS z l b+if t.1=(b:Int) then t.2 else 0:=by unfold enS;rw [List.foldl_append];rfl
theorem BG9 {z:Nat→Int} {M C:Nat} (hz:∀ b,(z b).natAbs≤C):∀ (m:Nat) (l:List (Int×Int)),l.length=m→(∀ t∈l,t.2.natAbs≤M)→∀ b,(enS z l b).natAbs≤C+m*M
 | 0,l,hl,_,b=>by rw [List.length_eq_zero_iff.1 hl];simpa [enS] using hz b
 | m+1,l,hl,h,b=>by
  obtain ⟨l',k,rfl⟩:∃ l' k,l=l'++[k]:=⟨l.dropLast,l.getLast (by intro e;rw [e] at hl;cases hl),(List.dropLast_concat_getLast _).symm⟩
  rw [AY7]
  have h1:=BG9 hz m l' (by simp at hl;exact hl) (fun t ht=>h t (by simp [ht])) b
  have h2:=h k (by simp)
  rw [Nat.succ_mul]
  split<;>omega
theorem AE1 {n:Int} (h:n.natAbs≤1208925819614629174706176):Rsz ((n:Int):Rat) 3:=Rsz.int _ (by
 have:(4294967296:Nat) ^ 3=79228162514264337593543950336:=by decide
 omega) (by decide)
/-- the injections of rights -/
def rtS (l:List RtV) (b:Nat):Int:=l.foldl (fun s r=>s+(if r.f=(b:Int) then r.q else 0)-(if r.t=(b:Int) then r.q else 0)) 0
theorem AM2 (l:List RtV) (r:RtV) (b:Nat):rtS (l++[r]) b=rtS l b+(if r.f=(b:Int) then r.q else 0)-(if r.t=(b:Int) then r.q else 0):=by unfold rtS;rw [List.foldl_append];rfl
theorem rtS_two (z:Nat→Int) (r:RtV) (b:Nat):enS z [(r.f,r.q),(r.t,-r.q)] b=z b+(if r.f=(b:Int) then r.q else 0)-(if r.t=(b:Int) then r.q else 0):=by
 show z b+(if r.f=(b:Int) then r.q else 0)+(if r.t=(b:Int) then -r.q else 0)=_
 split<;>split<;>omega
theorem BD2 {l:List RtV} {M:Nat} (h:∀ r∈l,r.q.natAbs≤M) (b:Nat):(rtS l b).natAbs≤l.length*(2*M):=by
 have key:∀ (m:Nat) (l:List RtV),l.length=m→(∀ r∈l,r.q.natAbs≤M)→(rtS l b).natAbs≤m*(2*M):=by
  intro m
  induction m with
  | zero=>intro l hl _;rw [List.length_eq_zero_iff.1 hl];simp [rtS]
  | succ m ih =>
   intro l hl h
   obtain ⟨l',k,rfl⟩:∃ l' k,l=l'++[k]:=⟨l.dropLast,l.getLast (by intro e;rw [e] at hl;cases hl),(List.dropLast_concat_getLast _).symm⟩
   rw [AM2]
   have h1:=ih l' (by simp at hl;exact hl) fun r hr=>h r (by simp [hr])
   have h2:=h k (by simp)
   rw [Nat.succ_mul]
   split<;>split<;>omega
 exact key _ l rfl h
end Go.Kx
namespace Go.Proofs.YtfilidfomgfnhaaGreat
open Go Go.Kx Go.RowKit
theorem BC2:tyOf Tryz.prog 127=some (true,5):=by kernel_rfl
theorem BC0:Tryz.prog.underlying 185=some (.slice 127):=by kernel_rfl
theorem zero_En:zeroOf Tryz.prog 127=some (.agg #[.int .i64 0,.bool false,.slice none 0 0,.bool false,.slice none 0 0]):=by kernel_rfl
theorem Ah0:fldOf Tryz.prog 127 0=some 0:=by kernel_rfl
theorem fld_En1:fldOf Tryz.prog 127 1=some 1:=by kernel_rfl
theorem BI5 {a:Int} {x y z u:Value}:bldOf Tryz.prog 127 [(0,.int .i64 a),(1,.agg #[x,y,z,u])]=some #[.int .i64 a,x,y,z,u]:=by kernel_rfl
theorem bsl_En2 {a x y z u a' x' y' z' u':Value}:bslOf Tryz.prog 185 2 [(0,.agg #[a,x,y,z,u]),(1,.agg #[a',x',y',z',u'])]=some (127,#[a,x,y,z,u,a',x',y',z',u']):=by kernel_rfl
theorem BG6 {a x y z u:Value}:∀ (j:Nat) (v:Value),[x,y,z,u][j]?=some v→(#[a,x,y,z,u]:Array Value)[0+1+j]?=some v:=by
 intro j v h
 match j with
 | 0=>exact h
 | 1=>exact h
 | 2=>exact h
 | 3=>exact h
 | j+4=>simp at h
theorem BI7:Ent Tryz.prog 124:=A0 Tryz.func124 (by kernel_rfl) rfl
set_option maxRecDepth 8000 in
theorem BF6 {S T:Nat→Prop} {w:World} {ve:Value} {l:List (Int×Int)} {z:Nat→Int} {g B C M:Nat} (up:Up S w) (hT:∀ k,T k→S k∧k≠g) (fb:FB eQ 55 S w g (tab B fun b=>((z b:Int):Rat))) (he:eEns.R T w ve l) (hB:B≤6) (hl2:l.length≤2)
  (hz:∀ b,(z b).natAbs≤C) (hm:∀ t∈l,t.2.natAbs≤M) (hC:C+2*M≤1208925819614629174706176) :
  Calls Tryz.prog 124 #[slB B g,ve] w fun e w'=>∃ v,e=.returned v∧(Chg (fun k=>k=g) w w'∧FB eQ 55 S w' g (tab B fun b=>((enS z l b:Int):Rat))):=by
 have hgl:=fb.lt
 refine enterG Tryz.func124 rfl Tryz.ntmps124 rfl (.beg (.go rfl (.lenR BC0 rfl rfl he ?_)))
 refine .goC rfl (.lp (α:=Nat) [0,6,7] rfl (fun i=>[(8,.int .i64 (i:Nat))]) (fun i W=>i≤l.length∧Chg (fun k=>k=g) w W∧FB eQ 55 S W g (tab B fun b=>((enS z (l.take i) b:Int):Rat))) (fun i=>l.length-i) 0 (lc1 rfl) ⟨Nat.zero_le _,Chg.refl _,fb⟩ ?_)
 clear fb
 rintro i W ⟨hi,hC0,fb⟩
 have hCs:=hC0.size
 refine .go rfl ?_
 rcases Nat.lt_or_ge i l.length with hlt | hge
 rotate_left
 ·refine .lssF rfl rfl rfl (by omega) (.goE rfl ?_)
  have:i=l.length:=by omega
  subst this
  rw [List.take_of_length_le (Nat.le_refl _)] at fb
  exact .plain [] Tryz.results124 trivial ⟨hC0,fb⟩
 have hg:=List.getElem?_eq_getElem hlt
 have htk:l.take (i+1)=l.take i++[l[i]]:=by rw [List.take_add_one,hg];rfl
 have hmt:=hm l[i] (List.getElem_mem hlt)
 generalize l[i]=t at hg htk hmt
 have heW:eEns.R T W ve l:=eEns.keep (hC0.kp fun k hk h=>(hT k hk).2 h) he
 have hzi:∀ b,(enS z (l.take i) b).natAbs≤C+1*M:=fun b=>by
  have:=BG9 hz _ (l.take i) rfl (fun t ht=>hm t (List.mem_of_mem_take ht)) b
  have h2:=Nat.mul_le_mul_right M (show (l.take i).length≤1 by rw [List.length_take];omega)
  omega
 refine .lssT rfl rfl rfl (by omega) (.go rfl (.ixN (i:=i) BC0 BC2 rfl rfl heW rfl hg fun q hq=>.ldE (E:=eEn) BC2 rfl rfl hq fun vt ht=>.alloc rfl zero_En fun W1 c n1=>?_))
 obtain ⟨g1,kc,hc,hs1⟩:=n1
 refine .storeA (E:=eEn) (S:=fun k=>T k∧k<W.heap.size) (z:=t) BC2 rfl rfl kc rfl rfl (ER.ext eEn (ER.lt eEn ht) g1) (fun h=>by have:=h.2;omega) fun W2 kc u2 ht=>?_
 obtain ⟨s1,s2,rfl,hqt,hib⟩:=ht
 have hqt:eQ.R (fun k=>S k∧k≠g) W2 _ _:=eQ.mono (fun k _ h=>hT k h.1) hqt
 have hs2:=u2.size
 have fb2:=fb.new g1 u2 (by omega)
 have hC2:Chg (fun k=>k=g) w W2:=hC0.trans ((Chg.ext (u2.below g1 (by omega):Ext W W2)))
 refine .go rfl (.fa Ah0 rfl rfl (.lc A5 rfl rfl kc rfl (.go rfl (.len un_V rfl rfl ?_))))
 refine .call _ rfl V3 rfl U1 fun v3 W3 e3 h3=>?_
 subst h3
 have hs3:=e3.size
 have fb3:=fb2.ext e3
 have hC3:=hC2.trans (Chg.ext e3)
 have kc:=kc.ext e3
 have hqt:=ER.ext eQ hqt e3
 by_cases hb:0≤t.1∧t.1<(B:Nat)
 rotate_left
 ·rw [decide_eq_false hb]
  have hsame:(tab B fun b=>((enS z (l.take i) b:Int):Rat))=tab B fun b=>((enS z (l.take (i+1)) b:Int):Rat):=G9 fun b hbB=>by rw [htk,AY7,if_neg (by omega),Int.add_zero]
  rw [hsame] at fb3
  exact .go rfl (.inc rfl rfl rfl (by omega) (.goN rfl (.mk (i+1) rfl (lc1 rfl) ⟨⟨hlt,hC3,fb3⟩,by show l.length-(i+1)<l.length-i;omega⟩)))
 rw [decide_eq_true hb]
 obtain ⟨b,hb1⟩:∃ b:Nat,t.1=b:=⟨t.1.toNat,by omega⟩
 rw [hb1] at kc
 have hbB:b<B:=by omega
 have upT:∀ {W':World},W3.heap.size≤W'.heap.size→Up (fun k=>S k∧k≠g) W':=fun h k hk=>⟨up k (by omega),by have:=fb3.lt;omega⟩
 generalize hzz:(fun b=>enS z (l.take i) b)=zi at *
 have hzi:∀ b,(zi b).natAbs≤C+1*M:=fun b=>by rw [←hzz];exact hzi b
 have fb3:FB eQ 55 S W3 g (tab B fun b=>((zi b:Int):Rat)):=by rw [←hzz];exact fb3
 refine .goC rfl ?_
 refine .par follows 11 [.inl (slB B g),.inl (.pointer (some ⟨c,0,none⟩)),.inl (.int .i64 (b:Nat)),.inl (slB B g),.inl (.pointer (some ⟨c,0,none⟩)),.inl (.int .i64 (b:Nat)),.inl (.pointer (some ⟨g,0+b*4,none⟩)),.inr (eQ.at (fun k=>S k∧k≠g) (qc ((zi b:Int):Rat))),.inl (.pointer (some ⟨c,0+1,none⟩)),.inl (.agg #[.bool (qc ((t.2:Int):Rat)).num.neg,s1,.bool (qc ((t.2:Int):Rat)).den.neg,s2]),.inr (eQ.at (fun k=>S k∧k≠g) (qc ((zi b+t.2:Int):Rat)))] [[],[],[(18,1)],[],[],[(21,4)],[(20,3),(22,5)],[(23,6)],[],[(25,8)],[(24,7),(26,9)]] (by kernel_rfl) ⟨
  fun w e=>(v_mv rfl).ob,
  fun w e=>(v_fa Ah0 rfl).ob,
  fun w e=>(v_ld A5 rfl (kc.ext e) rfl).ob,
  fun w e=>(v_mv rfl).ob,
  fun w e=>(v_fa Ah0 rfl).ob,
  fun w e=>(v_ld A5 rfl (kc.ext e) rfl).ob,
  fun w e=>(H9 (i:=b) un_V ty_Q rfl rfl hbB).ob,
  fun w e=>AB9 (E:=eQ) (i:=b) (by decide) ty_Q rfl (Nat.zero_add _) (fb3.ext e) (J5 hbB),
  fun w e=>(v_fa fld_En1 rfl).ob,
  fun w e=>(AC9 _ ty_Q rfl (kc.ext e) BG6).ob,
  fun w e x7 hx7=>by
  have:=U6 (L:=3) (upT e.size) hx7 (ER.ext eQ hqt e) (AE1 (by have:=hzi b;omega)).toOk (AE1 (by omega)).toOk (by decide) (by decide)
  rw [A8,A8,←Rat.intCast_add] at this
  exact (A1 _ Q3 rfl this).ob (A6 _ _ _),trivial⟩ ?_
 intro W4 e4 _ _ y4 hy4
 refine .ixB (i:=b) un_V ty_Q rfl rfl rfl hbB (.storeF (E:=eQ) (i:=b) (by decide) ty_Q rfl rfl (fb3.ext e4) rfl (by rw [A3];exact hbB) (Nat.zero_add _) hy4 fun W5 f5 u5=>?_)
 have hstep:(tab B fun b=>((zi b:Int):Rat)).set b (qc ((zi b+t.2:Int):Rat))=tab B fun b=>((enS z (l.take (i+1)) b:Int):Rat):=by
  rw [AU8]
  refine G9 fun j _=>?_
  rw [htk,AY7,hb1]
  have hzj:enS z (l.take i) j=zi j:=by rw [←hzz]
  rw [hzj]
  by_cases e:j=b
  ·rw [if_pos e,if_pos (by omega),e]
  ·rw [if_neg e,if_neg (by omega),Int.add_zero]
 rw [hstep] at f5
 exact .go rfl (.inc rfl rfl rfl (by omega) (.goN rfl (.mk (i+1) rfl (lc1 rfl) ⟨⟨hlt,(hC3.trans (Chg.ext e4)).trans (Chg.upd u5 rfl),f5⟩,by show l.length-(i+1)<l.length-i;omega⟩)))
def cut6 (b:Int):Nat:=(min b 6).toNat
theorem ob_En2 {S:Nat→Prop} {w:World} {σ:Env} {d:Option Tmp} {ty:TypeId} {pos:String} {af:Array Edge} {g:Option (Nat×Bool)} {x y:Operand} {u v:Value} {a b:Int×Int} (up:Up S w) (hu:eEn.R S w u a) (hv:eEn.R S w v b) (hx:ev σ x=some u:=by rfl) (hy:ev σ y=some v:=by rfl) :
  Gv Tryz.prog ⟨d,.buildSlice 185 2 #[(0,x),(1,y)],ty,pos,af,g⟩ σ w fun v' w'=>Ext w w'∧Sp.ok (.inr (eEns.at S [a,b])) v' w':=by
 have hu':=hu
 have hv':=hv
 obtain ⟨s,t,rfl,_,_⟩:=hu'
 obtain ⟨s',t',rfl,_,_⟩:=hv'
 refine (AA6 (ps:=[(0,x),(1,y)]) [(0,.agg #[.int .i64 a.1,.bool (qc ((a.2:Int):Rat)).num.neg,s,.bool (qc ((a.2:Int):Rat)).den.neg,t]),(1,.agg #[.int .i64 b.1,.bool (qc ((b.2:Int):Rat)).num.neg,s',.bool (qc ((b.2:Int):Rat)).den.neg,t'])] (by simp [evp,hx,hy]) bsl_En2).mono fun v' w' ⟨b2,hv',n2⟩=>⟨n2.1,fun w'' e=>?_⟩
 rw [hv']
 exact ER.ext eEns (AF3 (E:=eEn) (hsz:=by decide) [_,_] [a,b] n2 up rfl rfl (by decide) (Els.snoc (Els.snoc Els.nil hu) hv)) e
theorem At5:Ent Tryz.prog 57:=A0 Tryz.func57 (by kernel_rfl) rfl
set_option maxRecDepth 8000 in
theorem Ar1 {S:Nat→Prop} {w:World} {vl:Value} {l:List RtV} {b:Int} (up:Up S w) (hl:eRts.R S w vl l) (hl30:l.length≤30):CR Tryz.prog 57 #[vl,.int .i64 b] w (eV.at S (tab (cut6 b) fun k=>((rtS l k:Int):Rat))):=by
 refine enter Tryz.func57 rfl Tryz.ntmps57 rfl (.beg (.go rfl ?_))
 by_cases hb:b<1
 ·refine .lssT rfl rfl rfl hb (.goE rfl ?_)
  refine .plain [_] Tryz.results57 ⟨rfl,trivial⟩ ⟨Ext.refl _,?_⟩
  rw [show cut6 b=0 by unfold cut6;omega]
  exact RL.nil
 have hc6:cut6 b≤6∧1≤cut6 b:=by unfold cut6;omega
 refine .lssF rfl rfl rfl hb (.go rfl (.min_ rfl rfl rfl ?_))
 rw [show min b 6=((cut6 b:Nat):Int) by unfold cut6;omega]
 generalize cut6 b=B at hc6
 refine .make_ _ _ un_V S5 rfl (by decide) rfl rfl rfl (Nat.le_refl _) (by omega) (by omega) fun w3 g n3=>?_
 have f3:FB eQ 55 S w3 g (List.replicate B q0):=FB.made n3 zq_R
 obtain ⟨e3,_,hh,hs3⟩:=n3
 rw [←Al0] at f3
 refine .go rfl (.lenR H4 rfl rfl (ER.ext eRts hl e3) ?_)
 refine .goC rfl (.lp (α:=Nat) [5,14,15] rfl (fun i=>[(16,.int .i64 (i:Nat))]) (fun i W=>Ext w W∧i≤l.length∧FB eQ 55 S W g (tab B fun k=>((rtS (l.take i) k:Int):Rat))) (fun i=>l.length-i) 0 (lc1 rfl) ⟨e3,Nat.zero_le _,f3⟩ ?_)
 rintro i W ⟨hW,hi,fb⟩
 have hWs:=hW.size
 have hgl:=fb.lt
 refine .go rfl ?_
 rcases Nat.lt_or_ge i l.length with hlt | hge
 rotate_left
 ·refine .lssF rfl rfl rfl (by omega) (.goE rfl ?_)
  have:i=l.length:=by omega
  subst this
  rw [List.take_of_length_le (Nat.le_refl _)] at fb
  refine .plain [_] Tryz.results57 ⟨rfl,trivial⟩ ⟨hW,?_⟩
  have:=fb.toR (hsz:=by decide) (c:=B) (up g (by omega)) (by rw [A3];exact Nat.le_refl _) (by rw [A3];omega)
  rw [A3] at this
  exact this
 have hg:=List.getElem?_eq_getElem hlt
 have htk:l.take (i+1)=l.take i++[l[i]]:=by rw [List.take_add_one,hg];rfl
 refine .lssT rfl rfl rfl (by omega) (.go rfl (.ixN (i:=i) H4 E0 rfl rfl (ER.ext eRts hl hW) rfl hg fun q hq=>.ldE (E:=eRt) E0 rfl rfl hq fun vr hr=>.alloc rfl G0 fun W1 c n1=>?_))
 obtain ⟨g1,kc,hc,hs1⟩:=n1
 refine .storeA (E:=eRt) (S:=fun k=>k≠c) E0 rfl rfl kc rfl rfl hr (fun h=>h rfl) fun W2 kc u2 hr=>?_
 obtain ⟨rfl,i1,i2,i3⟩:=hr
 have hqb:∀ r∈l.take i,r.q.natAbs≤9223372036854775808:=fun r hr=>by
  obtain ⟨j,hj⟩:=List.mem_iff_getElem?.1 (List.mem_of_mem_take hr)
  obtain ⟨ad,cc,_,_,e,he,_⟩:=RL.at_ hl hj
  have:=B7.1 he.2.2.2
  omega
 have i3':=B7.1 i3
 generalize l[i]=r at *
 have hs2:=u2.size
 have x2:Ext W W2:=u2.below g1 (by omega)
 have fb2:=fb.new g1 u2 (by omega)
 refine .go rfl (.fa L9 rfl rfl (.lc I4 rfl rfl kc rfl ?_))
 have upT:∀ {W':World},W2.heap.size≤W'.heap.size→Up (fun k=>S k∧k≠g) W':=fun h k hk=>⟨up k (by omega),by omega⟩
 refine .call _ rfl D5 rfl (D3 (upT (Nat.le_refl _)) (by omega) (by omega)) fun vq W3 e3' hq3=>.alloc rfl C5 fun W4 b8 n4=>?_
 obtain ⟨e4,k8,hb8,hs4⟩:=n4
 have hs3':=e3'.size
 refine .storeA (E:=eQ) (S:=fun k=>(S k∧k≠g)∧k<W3.heap.size) ty_Q rfl rfl k8 rfl rfl (ER.ext eQ (ER.lt eQ hq3) e4) (fun h=>by have:=h.2;omega) fun W5 k8 u5 hq5=>?_
 have hs5:=u5.size
 have hq5:eQ.R (fun k=>S k∧k≠g) W5 vq _:=eQ.mono (fun _ _ h=>h.1) hq5
 have hqv:=shpA (E:=eQ) rfl hq5
 have x5:Ext W2 W5:=u5.below (e3'.trans e4) (by omega)
 have fb5:=fb2.new (e3'.trans e4) u5 (by omega)
 have kc:=kc.ext x5
 obtain ⟨s1,s2,hvq,hw1,hw2⟩:=id hq5
 refine .goC rfl ?_
 refine .par follows 11 [.inl (slB B g),.inl (.pointer (some ⟨c,0,none⟩)),.inl (.int .i64 r.f),.inl vq,.inl (.agg #[.int .i64 r.f,.bool (qc ((r.q:Int):Rat)).num.neg,s1,.bool (qc ((r.q:Int):Rat)).den.neg,s2]),.inl (.pointer (some ⟨c,1,none⟩)),.inl (.int .i64 r.t),.inl vq,.inr (eQ.at (fun k=>S k∧k≠g) (qc (((-r.q:Int)):Rat))),.inr (eEn.at (fun k=>S k∧k≠g) (r.t,-r.q)),.inr (eEns.at (fun k=>S k∧k≠g) [(r.f,r.q),(r.t,-r.q)])] [[],[],[(24,1)],[],[(25,2),(26,3)],[],[(28,5)],[],[(30,7)],[(29,6),(31,8)],[(27,4),(32,9)]] (by kernel_rfl) ⟨
  fun w e=>(v_mv rfl).ob,
  fun w e=>(v_fa AC2 rfl).ob,
  fun w e=>(v_ld A5 rfl (kc.ext e) rfl).ob,
  fun w e=>((B3 ty_Q rfl (k8.ext e) (eQ.csz hq5)).eq hqv.symm).ob,
  fun w e=>(Ac6 _ (by rw [hvq];rfl) BI5).ob,
  fun w e=>(v_fa AC1 rfl).ob,
  fun w e=>(v_ld A5 rfl (kc.ext e) rfl).ob,
  fun w e=>((B3 ty_Q rfl (k8.ext e) (eQ.csz hq5)).eq hqv.symm).ob,
  fun w e=>by
  have:=AK0 (L:=3) (upT (by have:=e.size;omega)) (ER.ext eQ hq5 e) (S8 (AE1 (by omega))) (by decide) (by decide)
  rw [A8,←Rat.intCast_neg] at this
  exact (A1 _ AK7 rfl this).ob (A6 _ _ _),
  fun w e x8 hx8=>by
  obtain ⟨p1,p2,rfl,hp1,hp2⟩:=hx8
  exact M4 (Ac6 _ rfl BI5) (show eEn.R _ _ _ _ from ⟨p1,p2,rfl,⟨p1,p2,rfl,hp1,hp2⟩,i2⟩) (A6 _ _ _),
  fun w e x9 hx9=>ob_En2 (upT (by have:=e.size;omega)) ⟨s1,s2,rfl,by rw [←hvq];exact ER.ext eQ hq5 e,i1⟩ hx9,trivial⟩ ?_
 intro W6 e6 _ _ _ _ ve hve
 have hs6:=e6.size
 have fb6:=fb5.ext e6
 have hbd:∀ k,(rtS (l.take i) k).natAbs≤30*(2*9223372036854775808):=fun k=>Nat.le_trans (BD2 hqb k) (Nat.mul_le_mul_right _ (show (l.take i).length≤30 by rw [List.length_take];omega))
 have hcall:=BF6 (S:=S) (T:=fun k=>S k∧k≠g) (up.ext (by omega)) (fun _ h=>h) fb6 hve hc6.1 (by simp) hbd (M:=9223372036854775808) (by intro t ht;simp at ht;rcases ht with rfl | rfl<;>simp<;>omega) (by decide)
 refine .callG [_,_] rfl BI7 rfl hcall ?_
 rintro v W7 ⟨hC7,fb7⟩
 have hstep:(tab B fun k=>((enS (fun k=>rtS (l.take i) k) [(r.f,r.q),(r.t,-r.q)] k:Int):Rat))=tab B fun k=>((rtS (l.take (i+1)) k:Int):Rat):=G9 fun k _=>by rw [rtS_two,htk,AM2]
 have fb7:FB eQ 55 S W7 g (tab B fun k=>((rtS (l.take (i+1)) k:Int):Rat)):=by rw [←hstep];exact fb7
 exact .go rfl (.inc rfl rfl rfl (by omega) (.goN rfl (.mk (i+1) rfl (lc1 rfl) ⟨⟨hC7.below (hW.trans (x2.trans (x5.trans e6))) (by omega) (fun k hk=>by omega),hlt,fb7⟩,by show l.length-(i+1)<l.length-i;omega⟩)))
end Go.Proofs.YtfilidfomgfnhaaGreat

namespace Go.Kx
open Go Go.RowKit
section
variable {P:Program} {σ:Env} {w:World} {ty:TypeId} {pos:String} {af:Array Edge}
end
/-- an element of a row, wherever the world goes on -/
theorem Av5 {α:Type} {E:ER α} {hsz:0<E.sz} {S:Nat→Prop} {w:World} {v:Value} {l:List α} {i:Nat} {q:α} (h:(RL E hsz).R S w v l) (hq:l[i]?=some q):∃ ad c e,v=.slice (some ad) l.length c∧∀ W',Below w.heap.size w W'→PtrX W' (ad.add (i*E.sz)) e∧E.R (fun k=>S k∧k<w.heap.size) W' e q:=by
 obtain ⟨es,hE⟩:=RL.toEs h
 have hil:=(List.getElem?_eq_some_iff.1 hq).1
 obtain ⟨e,he⟩:∃ e,es[i]?=some e:=⟨_,List.getElem?_eq_getElem (by rw [hE.1.1];exact hil)⟩
 obtain ⟨ad,c,hv,hp⟩:=hE.at_ he
 have hr:=hE.1.2 i e q he hq
 refine ⟨ad,c,e,hv,fun W' hB=>⟨fun j u hu=>?_,E.keep (fun k c t f hk h=>(hB.block k hk.2).trans h) (ER.lt E hr)⟩⟩
 have h1:=hp j u hu
 have hl:=AN3 h1
 rw [AH3 (hB.block _ hl)]
 exact h1
theorem set_mid {α:Type} (l r:List α) (v x:α):(l++v::r).set l.length x=l++x::r:=by
 rw [List.set_append_right _ _ (Nat.le_refl _),Nat.sub_self,List.set_cons_zero]
theorem get_mid {α:Type} (l r:List α) (v:α):(l++v::r)[l.length]?=some v:=by
 rw [List.getElem?_append_right (Nat.le_refl _),Nat.sub_self];rfl
end Go.Kx
namespace Go.Proofs.YtfilidfomgfnhaaGreat
open Go Go.Kx Go.RowKit
theorem Ao8:Ent Tryz.prog 90:=A0 Tryz.func90 (by kernel_rfl) rfl
theorem Ak7 {S:Nat→Prop} {w:World} {vc:Value} {B M:Nat} {g:RM} (up:Up S w) (hc:eM.R S w vc (tabM B M g)) (hB:B≤1000) (hM:M≤1000) :
  CR Tryz.prog 90 #[vc,.int .i64 (M:Nat)] w (eM.at S (tabM M B fun i c=>g c i)):=by
 have hcW:∀ {W:World},Below w.heap.size w W→eM.R (fun k=>S k∧k<w.heap.size) W vc (tabM B M g):=fun h=>eM.keep (fun k c t f hk hh=>(h.block k hk.2).trans hh) (ER.lt eM hc)
 refine enter Tryz.func90 rfl Tryz.ntmps90 rfl ?_
 refine .seq (.region (.asg rfl rfl (.nil (.seq (.region (.mv rfl rfl ?_))))))
 refine .make_ M M un_M Ag6 rfl (by decide) rfl rfl rfl (Nat.le_refl _) (by omega) (by omega) fun w1 gb n1=>.asg rfl rfl (.nil ?_)
 obtain ⟨e1,k1,hgb,hs1⟩:=n1
 generalize hF:(fun i=>tab B fun c=>g c i)=F
 refine .seq (.seq (.region (.mv rfl rfl (.len un_M rfl rfl (.mv rfl rfl (.nil ?_))))))
 refine .block (.loop (α:=List Value) (fun rs=>[(0,vc),(5,.slice (some ⟨gb,0,none⟩) M M),(12,.int .i64 (M:Nat)),(13,.int .i64 (rs.length:Nat))]) (fun rs W=>Below w.heap.size w W∧rs.length≤M∧Blk W gb 32 (cellsOf (rs++List.replicate (M-rs.length) nilV)).toArray∧Els eV (fun k=>S k∧k≠gb) W rs ((List.range rs.length).map F)) (fun rs=>M-rs.length) [] ?_ ?_ ?_)
 ·exact lkA rfl
 ·exact ⟨e1,Nat.zero_le _,k1,Els.nil⟩
 rintro rs W ⟨hW,hi,hO,hels⟩
 have hWs:=hW.size
 have hgl:=hO.lt
 refine .seq (.region ?_)
 rcases Nat.lt_or_ge rs.length M with hlt | hge
 rotate_left
 ·refine .lssF rfl rfl rfl (by omega) (.nil (.seq (.condF rfl (.exit (.seq (.region (.mv rfl rfl (.asg rfl rfl (.nil (.ret ?_))))))))))
  have hl:rs.length=M:=by omega
  rw [hl,Nat.sub_self,List.replicate_zero,List.append_nil] at hO
  rw [hl] at hels
  refine .plain [_] Tryz.results90 ⟨rfl,trivial⟩ ⟨hW,?_⟩
  have hfb:FB eV 32 S W gb (tabM M B fun i c=>g c i):=⟨rs,hO,by unfold tabM;rw [hF];exact hels⟩
  have:=hfb.toR (hsz:=by decide) (c:=M) (up gb (by omega)) (by rw [A7];exact Nat.le_refl _) (by rw [A7];omega)
  rw [A7] at this
  exact this
 have hrep:rs++List.replicate (M-rs.length) nilV=rs++nilV::List.replicate (M-(rs.length+1)) nilV:=by rw [show M-rs.length=M-(rs.length+1)+1 by omega,List.replicate_succ]
 rw [hrep] at hO
 refine .lssT rfl rfl rfl (by omega) (.nil (.seq (.condT rfl (.skip (.seq (.block (.seq (.region (.mv rfl rfl (.asg rfl rfl (.nil (.seq (.region (.mv rfl rfl (.lenR un_M rfl rfl (hcW hW) (.mv rfl rfl (.nil ?_)))))))))))))))))
 rw [A7]
 refine .block (.loop (α:=Nat×Value) (fun y=>[(0,vc),(5,.slice (some ⟨gb,0,none⟩) M M),(12,.int .i64 (M:Nat)),(13,.int .i64 (rs.length:Nat)),(6,.int .i64 (rs.length:Nat)),(16,vc),(17,.int .i64 (B:Nat)),(18,.int .i64 (y.1:Nat))])
  (fun y W'=>Below w.heap.size w W'∧W.heap.size≤W'.heap.size∧y.1≤B∧Blk W' gb 32 (cellsOf (rs++y.2::List.replicate (M-(rs.length+1)) nilV)).toArray∧Kp (fun k=>k<W.heap.size∧k≠gb) W W'∧OwnL eQ 55 W.heap.size (fun k=>S k∧k≠gb) W' y.2 (tab y.1 fun c=>g c rs.length)) (fun y=>B-y.1) (0,nilV) ?_ ?_ ?_)
 ·exact lkA rfl
 ·exact ⟨hW,Nat.le_refl _,Nat.zero_le _,hO,fun _ _ _ _ _ h=>h,OwnL.nil⟩
 rintro ⟨j,v⟩ W' ⟨hW',hsz,hj,hO,hK,hown⟩
 replace hW':Below w.heap.size w W':=hW'
 replace hj:j≤B:=hj
 replace hO:Blk W' gb 32 (cellsOf (rs++v::List.replicate (M-(rs.length+1)) nilV)).toArray:=hO
 replace hown:OwnL eQ 55 W.heap.size (fun k=>S k∧k≠gb) W' v (tab j fun c=>g c rs.length):=hown
 refine .seq (.region ?_)
 rcases Nat.lt_or_ge j B with hjl | hge
 rotate_left
 ·refine .lssF rfl rfl rfl (by omega) (.nil (.seq (.condF rfl (.exit (.region (.add rfl rfl rfl (.mv rfl rfl (.nil ?_))))))))
  rw [wI (by omega)]
  have:j=B:=by omega
  subst this
  refine ⟨rfl,rs++[v],A2 rfl (A2 rfl (A2 rfl (A2 (by rw [List.length_append];rfl) AM9))),⟨hW',by rw [List.length_append];exact hlt,?_,?_⟩,by rw [List.length_append];show M-(rs.length+1)<M-rs.length;omega⟩
  ·rw [List.length_append,List.append_assoc]
   exact hO
  ·rw [List.length_append]
   show Els eV _ W' (rs++[v]) ((List.range (rs.length+1)).map F)
   rw [List.range_succ,List.map_append]
   have h1:Els eV (fun k=>S k∧k≠gb) W' rs ((List.range rs.length).map F):=⟨hels.1,fun i e x he hx=>by
    have h2:=ER.lt eV (hels.2 i e x he hx)
    have h3:=eV.keep (fun k c t f hk hc=>hK k c t f ⟨hk.2,hk.1.2⟩ hc) h2
    exact eV.mono (fun k _ h=>h.1) h3⟩
   refine h1.snoc ?_
   rw [←hF]
   exact hown.toR (fun k hk=>⟨up k (by omega),by omega⟩) (fun _ h=>h)
 refine .lssT rfl rfl rfl (by omega) (.nil (.seq (.condT rfl (.skip (.seq (.block (.seq (.region ?_))))))))
 obtain ⟨adc,cc,ec,hvc,hrc⟩:=Av5 (E:=eV) (i:=j) hc (F7 hjl)
 obtain ⟨hpc,hec⟩:=hrc w (Below.refl _ _)
 obtain ⟨ade,ce,ee,hve,hre⟩:=Av5 (E:=eQ) (i:=rs.length) hec (J5 hlt)
 obtain ⟨esC,hEC⟩:=RL.toEs (hcW hW')
 rw [A3] at hve
 have hgc:∃ p,PtrX W' p ec:=⟨_,(hrc W' hW').1⟩
 rw [A7] at hvc
 subst hvc
 refine .gv rfl rfl (Au6 (i:=j) (sz:=1) un_M ty_V rfl rfl hjl).gv ?_
 rintro _ _ ⟨rfl,rfl⟩
 refine .ldX (E:=eV) ty_V rfl rfl (hrc _ hW').1 (hrc _ hW').2 (.asg rfl rfl (.nil ?_))
 subst hve
 have hesz:∀ {v:Value},v.cells.size=1→∀ e∈rs++v::List.replicate (M-(rs.length+1)) nilV,e.cells.size=1:=fun hv e he=>by
  rcases List.mem_append.1 he with h | h
  ·exact hels.sz e h
  ·rcases List.mem_cons.1 h with h | h
   ·rw [h];exact hv
   ·rw [(List.mem_replicate.1 h).2];rfl
 obtain ⟨av,cv,hvv⟩:=hown.slice
 have hv1:v.cells.size=1:=by rw [hvv];rfl
 have hcell:(cellsOf (rs++v::List.replicate (M-(rs.length+1)) nilV)).toArray[0+rs.length*1]?=some v:=by
  have:=D1 _ rs.length 0 v (hesz hv1) (get_mid _ _ _) (by decide)
  rw [List.getElem?_toArray,show 0+rs.length*1=rs.length*1+0 by omega,this,hvv];rfl
 have hee:∀ W',Below w.heap.size w W'→PtrX W' (ade.add (rs.length*4)) ee∧eQ.R (fun k=>(S k∧k<w.heap.size)∧k<w.heap.size) W' ee (qc (g j rs.length)):=hre
 refine .held follows true (fun W2=>Blk W2 gb 32 (cellsOf (rs++v::List.replicate (M-(rs.length+1)) nilV)).toArray∧Below w.heap.size w W2)
  [some (.slice (some ⟨gb,0,none⟩) M M),some (.int .i64 (rs.length:Nat)),some (.slice (some ⟨gb,0,none⟩) M M),some (.int .i64 (rs.length:Nat)),some (.pointer (some ⟨gb,0+rs.length*1,none⟩)),some v,some (.slice (some ade) M ce),some (.int .i64 (rs.length:Nat)),some (.pointer (some (ade.add (rs.length*4)))),some ee,none,none,none,none] (by kernel_rfl)
  ⟨fun _ _=>v_mv rfl,fun _ _=>v_mv rfl,fun _ _=>v_mv rfl,fun _ _=>v_mv rfl,fun _ _=>H9 (i:=rs.length) un_M ty_V rfl rfl hlt,fun _ h=>v_ld ty_V rfl h.1 hcell,fun _ _=>v_mv rfl,fun _ _=>v_mv rfl,fun _ _=>Au6 (i:=rs.length) un_V ty_Q rfl rfl hlt,fun _ h=>AW9 (E:=eQ) ty_Q rfl (hee _ h.2).1 (hee _ h.2).2,trivial⟩ ?_
 intro W2 e2 _
 have hW2:Below w.heap.size w W2:=hW'.trans (e2.mono hW'.size)
 have hO:=hO.ext e2
 have hown:=hown.ext e2
 obtain ⟨_,hr2⟩:=hee W2 hW2
 have hr2':=hr2
 obtain ⟨s2,t2,rfl,_,_⟩:=hr2'
 refine .gv ⟨hO,hW2⟩ rfl (AA6 _ rfl BI1) ?_
 rintro _ W3 ⟨b3,rfl,n3⟩
 obtain ⟨e3,k3,hb3,hs3⟩:=n3
 have hW3:Below w.heap.size w W3:=hW2.trans (e3.mono hW2.size)
 have hO:=hO.ext e3
 have hown:=hown.ext e3
 have hs2:=e2.size
 obtain ⟨es,ho1,_⟩:=id hown
 refine .gv ⟨hO,hW3⟩ rfl (AY0 (E:=eQ) (base:=W.heap.size) (by decide) un_V S5 rfl rfl rfl hown k3 (eQ.mono (fun k _ h=>⟨⟨h.1.1,by have:=h.2;omega⟩,fun e=>by have:=(ho1.lt k e).1;have:=h.2;omega⟩) (hr2.ext e3)) (by rw [A3];omega) (by decide) (by omega)) ?_
 rintro v4 W4 ⟨ho4,hg4⟩
 have hO4:=hown.gblk hg4 hO (by decide)
 have hlow4:Below w.heap.size w W4:=by
  have hK4:=hown.below (w0:=W3) hg4 (Below.refl _ _) (by omega)
  exact hW3.trans (hK4.mono (by omega))
 refine .gv ⟨hO4,hlow4⟩ rfl (H9 (i:=rs.length) un_M ty_V rfl rfl hlt).gv ?_
 rintro _ _ ⟨rfl,rfl⟩
 obtain ⟨a4,c4,hv4⟩:=ho4.slice
 have hv41:v4.cells.size=1:=by rw [hv4];rfl
 refine .gv ⟨hO4,hlow4⟩ rfl (Am9 (i:=rs.length) (by decide) ty_V rfl rfl hO4 (hesz hv1) hv41 (by rw [hv4];simp [one1,Value.cells]) (by simp) (Nat.zero_add _)) ?_
 rintro _ W5 ⟨hO5,u5⟩
 rw [set_mid] at hO5
 refine .nil (.inl rfl) ?_
 have hs4:=hg4.size
 have hs5:=u5.size
 refine .region (.add rfl rfl rfl (.mv rfl rfl (.nil ?_)))
 rw [wI (by omega)]
 refine ⟨rfl,(j+1,v4),lkA rfl,⟨u5.below hlow4 (by omega),by show W.heap.size≤W5.heap.size;omega,hjl,hO5,?_,?_⟩,by show B-(j+1)<B-j;omega⟩
 ·intro k c t f hk hc
  have h1:=hK k c t f hk hc
  have h2:=(e3.block k (by have:=(Array.getElem?_eq_some_iff.1 h1).1;omega)).trans ((e2.block k (Array.getElem?_eq_some_iff.1 h1).1).trans h1)
  have h3:=(hg4.block k (by have:=(Array.getElem?_eq_some_iff.1 h2).1;omega) (fun e=>by have:=(ho1.lt k e.symm).1;have:=hk.1;omega)).trans h2
  exact (u5.block k hk.2).trans h3
 ·have:=ho4.upd u5 hO4 (by decide) (fun h=>h.2 rfl)
  have e:tab (j+1) (fun c=>g c rs.length)=tab j (fun c=>g c rs.length)++[qc (g j rs.length)]:=by unfold tab;rw [List.range_succ,List.map_append];rfl
  show OwnL eQ 55 W.heap.size _ W5 v4 (tab (j+1) fun c=>g c rs.length)
  rw [e]
  exact this
end Go.Proofs.YtfilidfomgfnhaaGreat

namespace Go.Kx
open Go Go.RowKit
def Nw.gA (n:Nw):List (List QV):=tabM n.B n.B n.gm
/-- the angles if 1 is put in at bus b -/
def Nw.th (n:Nw) (b c:Nat):Rat:=rm (invM n.gA) c b
/-- the factors -/
def Nw.hf (n:Nw) (k b:Nat):Rat:=n.fl (n.th b) k
end Go.Kx
namespace Go.Proofs.YtfilidfomgfnhaaGreat
open Go Go.Kx Go.RowKit
section
variable {n:Nw}
theorem Z1:n.gA.length=n.B:=A7 ..
theorem Aw6 (hB:1≤n.B):colsOf n.gA=n.B:=by unfold Nw.gA;rw [Ae3,if_neg (by omega)]
theorem rm_gA {i k:Nat} (hi:i<n.B) (hk:k<n.B):rm n.gA i k=n.gm i k:=by unfold Nw.gA;rw [AU9,if_pos ⟨hi,hk⟩]
theorem BG5 (ok:n.Ok) (hB:1≤n.B):invertible n.gA:=by
 have hc:=Aw6 hB
 rw [BF5 (by rw [hc,Z1]),Z1]
 have h1:=Ay7 n.gA
 rw [hc] at h1
 rcases Nat.eq_zero_or_pos (nullM n.gA).length with h0 | hp
 ·omega
 exfalso
 rw [AR8] at hp
 obtain ⟨hk,hkp⟩:=Az0 hp
 rw [hc] at hk
 have hz:=Nw.ker0 (θ:=nv (redF n.gA) (redP n.gA) ((freeC n.gA).getD 0 0)) ok (fun b hb=>by
  have h2:=Ay0 (m:=n.gA) (k:=(freeC n.gA).getD 0 0) (by rw [hc];exact hk) b
  rw [hc] at h2
  have h3:=Nw.gm_sum ok (nv (redF n.gA) (redP n.gA) ((freeC n.gA).getD 0 0)) hb
  have h4:sumN n.B (fun c=>rm n.gA b c*nv (redF n.gA) (redP n.gA) ((freeC n.gA).getD 0 0) c)=sumN n.B (fun c=>n.gm b c*nv (redF n.gA) (redP n.gA) ((freeC n.gA).getD 0 0) c):=B5 fun c hc'=>by rw [rm_gA hb hc']
  rw [←h4,h2] at h3
  split
  ·rw [if_pos (by assumption)] at h3;exact h3.symm
  ·rw [if_neg (by assumption)] at h3;exact h3.symm) _ hk
 rw [nv_self (not_piv hkp)] at hz
 exact absurd hz (by decide)
/-- what the angles satisfy -/
theorem th_eq (ok:n.Ok) (hB:1≤n.B) {b i:Nat} (hb:b<n.B) (hi:i<n.B):(if n.root i=i then n.th b i else n.lap (n.th b) i)=dl i b:=by
 have h:=Ay3 (BG5 ok hB) (i:=i) (k:=b) (by rw [Z1];exact hi) (by rw [Z1];exact hb)
 rw [Z1] at h
 rw [←Nw.gm_sum ok (n.th b) hi]
 have e:sumN n.B (fun c=>n.gm i c*n.th b c)=sumN n.B (fun j=>rm n.gA i j*rm (invM n.gA) j b):=B5 fun c hc=>by rw [rm_gA hi hc];rfl
 rw [e,h];rfl
end
theorem BG4 {n:NtV} {o:List Int} (h:nwOk n o):mk_ 21 (nwOf n o).gA:=AV1 fun b c hb hc=>by
 unfold Nw.gm
 split
 ·unfold dl
  split
  ·exact rsz1 (by decide)
  ·exact Rsz.zero (by decide)
 ·unfold Nw.Lm
  rw [←Nw.lmL_free (p:=oN o) b c _ fun k hk=>h.g0 hk]
  refine ((nwOf n o).lmL_rsz (Nat.le_refl _) h.gsz b c _).mono ?_
  have:=Ae0 (oN o) (nwOf n o).M
  have:=h.m
  omega
theorem bd216:bd 21 6=87381:=by decide
theorem th_rsz {n:NtV} {o:List Int} (h:nwOk n o) (b c:Nat):Rsz ((nwOf n o).th b c) 87381:=by
 have:=Aw2 (n:=6) (BG4 h) (by decide) (by rw [Z1];exact h.b6)
 rw [bd216] at this
 exact this.rsz (by decide) c b
theorem fl_rsz {n:NtV} {o:List Int} (h:nwOk n o) {θ:Nat→Rat} {L:Nat} (hθ:∀ c,Rsz (θ c) L) (k:Nat):Rsz ((nwOf n o).fl θ k) (2*L+2):=by
 unfold Nw.fl
 have h1:=(hθ ((nwOf n o).F k)).add (hθ ((nwOf n o).T k)).neg
 rw [←Rat.sub_eq_add_neg] at h1
 exact ((h.gsz k).mul h1).mono (by omega)
theorem BF9 {n:NtV} {o:List Int} (h:nwOk n o) (k b:Nat):Rsz ((nwOf n o).hf k b) 174764:=fl_rsz h (th_rsz h b) k
end Go.Proofs.YtfilidfomgfnhaaGreat

namespace Go.Proofs.YtfilidfomgfnhaaGreat
open Go Go.Kx Go.RowKit
theorem hf_mk {n:NtV} {o:List Int} (h:nwOk n o) (M B:Nat):mk_ 174764 (tabM M B (nwOf n o).hf):=AV1 fun k b _ _=>BF9 h k b
theorem AU4:Ent Tryz.prog 19:=A0 Tryz.func19 (by kernel_rfl) rfl
theorem AT7 {S:Nat→Prop} {w:World} {vn vo:Value} {n:NtV} {o:List Int} (up:Up S w) (hn:eN.R S w vn n) (ho:eI.R S w vo o) :
  CR Tryz.prog 19 #[vn,vo] w (Two (eM.at S (if outE n o=0 then tabM n.ls.length (nwOf n o).B (nwOf n o).hf else [])) (Is (.int .i64 (outE n o)))):=by
 obtain ⟨s,rfl,hs,hb⟩:=hn
 have hn:eN.R S w (.agg #[.int .i64 n.b,s]) n:=⟨s,rfl,hs,hb⟩
 refine enter Tryz.func19 rfl Tryz.ntmps19 rfl ?_
 refine .seq (.region (.box rfl rfl fun w1 b2 n1=>.asg rfl rfl (.asg rfl rfl (.nil ?_))))
 obtain ⟨e1,k2,hb2,hs1⟩:=n1
 refine .seq (.region (.ldA ty_N rfl rfl k2 rfl (.mv rfl rfl ?_)))
 refine .call _ rfl Ap7 rfl (Am3 (up.ext e1.size) (hn.ext e1) (ho.ext e1)) fun v2 w2 e2 h2=>?_
 obtain ⟨vl,ve,rfl,hl,he⟩:=h2
 replace he:ve=.int .i64 (outE n o):=he
 subst he
 obtain ⟨al,cl,hvl,_⟩:=RL.len hl
 refine .mv rfl rfl (.ext rfl rfl rfl (.ext rfl rfl rfl (.alloc rfl Aq1 fun w3 b6 n3=>?_)))
 obtain ⟨e3,k6,hb6,hs3⟩:=n3
 refine .store ty_I rfl rfl k6 (by rw [hvl];rfl) (by simp [Value.cells]) (by rw [hvl];simp [one1,Value.cells]) fun w4 k6 u4=>.asg rfl rfl (.nil (.seq (.seq (.region (.mv rfl rfl ?_)))))
 replace k6:Blk w4 b6 25 #[vl]:=by rw [hvl] at k6 ⊢;exact k6
 have x2:=e1.trans e2
 have x24:Ext w2 w4:=u4.below e3 (by omega)
 have x4:=x2.trans x24
 by_cases hE:outE n o=0
 rotate_left
 ·refine .neqT rfl rfl rfl hE (.nil (.condT rfl (.seq (.region (.mv rfl rfl (.asg rfl rfl (.asg rfl rfl (.nil (.ret ?_)))))))))
  refine .plain [_,_] Tryz.results19 ⟨rfl,rfl,trivial⟩ ⟨x4,_,_,rfl,?_,rfl⟩
  rw [if_neg hE];exact RL.nil
 have ok:=AM7 hE
 rw [if_pos hE] at hl ⊢
 have hB1:=ok.b1
 have hB6:=ok.b6
 have hM10:n.ls.length≤10:=ok.m
 have hnb:=ok.b
 refine .neqF rfl rfl rfl hE (.nil (.condF rfl (.skip (.seq (.region (.ldA ty_N rfl rfl (k2.ext (e2.trans x24)) rfl (.mv rfl rfl ?_)))))))
 have hl4:=ER.ext eI hl x24
 refine .call _ rfl Ac4 rfl (Ab7 (up.ext x4.size) (hn.ext x4) (ho.ext x4)) fun v5 w5 e5 h5=>?_
 obtain ⟨vr,ve,rfl,hr,he⟩:=h5
 replace he:ve=.int .i64 (outE n o):=he
 subst he
 rw [if_pos hE] at hr
 have x5:=x4.trans e5
 refine .mv rfl rfl (.ext rfl rfl rfl (.ext rfl rfl rfl (.asg rfl rfl (.asg rfl rfl (.nil (.seq (.seq (.region (.mv rfl rfl (.neqF rfl rfl rfl hE (.nil (.condF rfl (.skip (.seq (.region (.ldA ty_N rfl rfl ((k2.ext (e2.trans x24)).ext e5) rfl (.ld ty_I rfl rfl (k6.ext e5) rfl (.mv rfl rfl ?_))))))))))))))))))
 have hl5:=ER.ext eI hl4 e5
 refine .call _ rfl AN6 rfl (AM0 (up.ext x5.size) (hn.ext x5) hl5 hr ok) fun vA w6 e6 hA=>?_
 have x6:=x5.trans e6
 have hcA:colsOf (nwOf n o).gA=(nwOf n o).gA.length:=by rw [Aw6 hB1,Z1]
 refine .call _ rfl AU3 rfl (AT6 (L:=21) (n:=6) (m:=(nwOf n o).gA) (up.ext x6.size) hA (BG4 ok) (by decide) (by rw [Z1];exact hB6) (by rw [hcA,Z1];omega) (by decide) (by decide)) fun v7 w7 e7 h7=>?_
 obtain ⟨vi,ve,rfl,hi,he⟩:=h7
 replace he:ve=.int .i64 (if colsOf (nwOf n o).gA=(nwOf n o).gA.length then (if invertible (nwOf n o).gA then 0 else 8) else 13):=he
 have hinv:=BG5 ok.ok hB1
 rw [if_pos hcA,if_pos hinv] at he
 subst he
 replace hi:eM.R S w7 vi (invM (nwOf n o).gA):=by rw [if_pos ⟨hcA,hinv⟩] at hi;exact hi
 obtain ⟨ai,ci,hvi,_⟩:=RL.len hi
 have x7:=x6.trans e7
 refine .mv rfl rfl (.ext rfl rfl rfl (.ext rfl rfl rfl (.alloc rfl zero_M fun w8 b9 n8=>?_)))
 obtain ⟨e8,k9,hb9,hs8⟩:=n8
 refine .store ty_M rfl rfl k9 (by rw [hvi];rfl) (by simp [Value.cells]) (by rw [hvi];simp [one1,Value.cells]) fun w9 k9 u9=>.asg rfl rfl (.nil (.seq (.seq (.region (.mv rfl rfl (.neqF rfl rfl rfl rfl (.nil (.condF rfl (.skip (.seq (.region (.mkf [] [_,_,_] rfl rfl rfl rfl (.asg rfl rfl (.nil (.seq (.region (.asg rfl rfl (.nil ?_))))))))))))))))))
 replace k9:Blk w9 b9 28 #[vi]:=by rw [hvi] at k9 ⊢;exact k9
 have x79:Ext w7 w9:=u9.below e8 (by omega)
 have x9:=x7.trans x79
 have x49:Ext w4 w9:=((e5.trans e6).trans e7).trans x79
 have k2:=(k2.ext (e2.trans x24)).ext x49
 have k6:=k6.ext x49
 have hs9:=x9.size
 have hsW:∀ {W:World},Ext w9 W→eLs.R (fun k=>S k∧k<w9.heap.size) W s n.ls:=fun e=>ER.ext eLs (ER.lt eLs (hs.ext x9)) e
 have hlW:∀ {W:World},Ext w9 W→eI.R (fun k=>S k∧k<w9.heap.size) W vl (pInts (inL n o)):=fun e=>ER.ext eI (ER.lt eI (ER.ext eI hl4 x49)) e
 have hiW:∀ {W:World},Ext w9 W→eM.R (fun k=>S k∧k<w9.heap.size) W vi (invM (nwOf n o).gA):=fun e=>ER.ext eM (ER.lt eM (ER.ext eM hi x79)) e
 have hik:mk_ 87381 (invM (nwOf n o).gA):=by
  have:=Aw2 (n:=6) (BG4 ok) (by decide) (by rw [Z1];exact hB6)
  rwa [bd216] at this
 rw [hnb] at k2
 generalize hG:(fun b=>tab n.ls.length ((nwOf n o).fl ((nwOf n o).th b)))=G
 have hGl:∀ b,(G b).length=n.ls.length:=fun b=>by rw [←hG];exact A3 ..
 refine .mid (α:=Value) (fun v=>[(2,.pointer (some ⟨b2,0,none⟩)),(11,v)]) (fun v W=>Ext w9 W∧OwnL eV 32 w9.heap.size S W v ((List.range (nwOf n o).B).map G)) ?_ ?_
 ·refine .seq (.region (.fa S7 rfl rfl (.ld A5 rfl rfl k2 rfl (.mv rfl rfl (.nil ?_)))))
  refine .block (.loop (α:=Nat×Value) (fun y=>[(2,.pointer (some ⟨b2,0,none⟩)),(10,.func (.func 86) #[] #[.pointer (some ⟨b2,0,none⟩),.pointer (some ⟨b6,0,none⟩),.pointer (some ⟨b9,0,none⟩)]),(11,y.2),(44,.int .i64 ((nwOf n o).B:Nat)),(45,.int .i64 (y.1:Nat))]) (fun y W=>Ext w9 W∧y.1≤(nwOf n o).B∧OwnL eV 32 w9.heap.size S W y.2 ((List.range y.1).map G)) (fun y=>(nwOf n o).B-y.1) (0,.slice none 0 0) ?_ ?_ ?_)
  ·exact lkA rfl
  ·exact ⟨Ext.refl _,Nat.zero_le _,OwnL.nil⟩
  rintro ⟨b,v⟩ W ⟨hW,hbB,hown⟩
  replace hW:Ext w9 W:=hW
  replace hbB:b≤(nwOf n o).B:=hbB
  replace hown:OwnL eV 32 w9.heap.size S W v ((List.range b).map G):=hown
  have hWs:=hW.size
  refine .seq (.region ?_)
  rcases Nat.lt_or_ge b (nwOf n o).B with hlt | hge
  rotate_left
  ·refine .lssF rfl rfl rfl (by omega) (.nil (.seq (.condF rfl (.exit ?_))))
   have:b=(nwOf n o).B:=by omega
   subst this
   exact ⟨rfl,v,lkA rfl,hW,hown⟩
  obtain ⟨es,ho1,_⟩:=id hown
  have hT:∀ k,S k∧k<w9.heap.size→S k∧v.ownBlock≠some k:=fun k h=>⟨h.1,fun e=>by have:=(ho1.lt k e).1;have:=h.2;omega⟩
  have upT:Up (fun k=>S k∧v.ownBlock≠some k) W:=fun k hk=>⟨up k (by omega),fun e=>by have:=(ho1.lt k e).2;omega⟩
  refine .lssT rfl rfl rfl (by omega) (.nil (.seq (.condT rfl (.skip (.seq (.block (.seq (.region (.mv rfl rfl (.asg rfl rfl (.nil (.region (.mv rfl rfl (.mv rfl rfl (.mv rfl rfl ?_)))))))))))))))
  refine .callv [.int .i64 (b:Nat)] rfl rfl E_col rfl (col_c (S:=fun k=>S k∧v.ownBlock≠some k) (b:=b) upT ok (k2.ext hW) (eLs.mono (fun k _ h=>hT k h) (hsW hW)) (k6.ext hW) (eI.mono (fun k _ h=>hT k h) (hlW hW)) (k9.ext hW) (eM.mono (fun k _ h=>hT k h) (hiW hW)) hik (by decide) (by decide)) fun vc W1 f1 hc=>?_
  have hc:eV.R (fun k=>S k∧v.ownBlock≠some k) W1 vc (G b):=by rw [←hG];exact hc
  obtain ⟨ac,cc,hvc,_⟩:=RL.len hc
  rw [hGl] at hvc
  subst hvc
  refine .bsl _ rfl rfl BI2 fun W2 by_ ny=>?_
  obtain ⟨ey,ky,hby,hsy⟩:=ny
  have f2:=f1.trans ey
  have hW2:=hW.trans f2
  refine .gv rfl rfl (AY0 (E:=eV) (base:=w9.heap.size) (n:=G b) (e:=.slice ac n.ls.length cc) (by decide) un_M Ag6 rfl rfl rfl (hown.ext f2) ky (ER.ext eV hc ey) (by simp;omega) (by decide) hW2.size) ?_
  rintro v8 W8 ⟨ho8,hg8⟩
  refine .asg rfl rfl (.nil (.region (.add rfl rfl rfl (.mv rfl rfl (.nil ?_)))))
  rw [wI (by omega)]
  refine ⟨rfl,(b+1,v8),lkA rfl,⟨(hown.ext f2).below hg8 hW2 hW2.size,hlt,?_⟩,by show (nwOf n o).B-(b+1)<(nwOf n o).B-b;omega⟩
  show OwnL eV 32 w9.heap.size S W8 v8 ((List.range (b+1)).map G)
  rw [List.range_succ,List.map_append]
  exact ho8
 rintro v W ⟨hW,hown⟩
 have hcol:eM.R S W v (tabM (nwOf n o).B n.ls.length fun b k=>(nwOf n o).hf k b):=by
  have:=hown.toR (S:=S) (hsz:=by decide) (fun k hk=>up k (by omega)) (fun _ h=>h)
  rw [←hG] at this
  exact this
 have hWs:=hW.size
 refine .seq (.region (.mv rfl rfl (.fa S6 rfl rfl (.ld AD0 rfl rfl (k2.ext hW) rfl (.lenR X4 rfl rfl (hsW hW) ?_)))))
 refine .call _ rfl Ao8 rfl (Ak7 (up.ext (x9.trans hW).size) hcol (by omega) (by omega)) fun vt W1 f1 ht=>.asg rfl rfl (.asg rfl rfl (.nil (.ret ?_)))
 exact .plain [_,_] Tryz.results19 ⟨rfl,rfl,trivial⟩ ⟨(x9.trans hW).trans f1,_,_,rfl,ht,by rw [hE]⟩
open Classical in
noncomputable def sfE (n:NtV) (o:List Int) (l:Nat):Int:=if outE n o≠0 then outE n o else if (l:Int)≤n.b then 0 else 5
theorem Ac2:Ent Tryz.prog 27:=A0 Tryz.func27 (by kernel_rfl) rfl
theorem Aa8 {S T0:Nat→Prop} {w:World} {vn vo vx:Value} {n:NtV} {o:List Int} {x:List QV} {L:Nat} (up:Up S w) (upo:Up T0 w) (hn:eN.R S w vn n) (ho:eI.R S w vo o) (hx:eV.R S w vx x) (hkx:vk L x) (hL1:1≤L) (hL:L≤1000000) :
  CR Tryz.prog 27 #[vn,vo,vx] w (Two (eV.at T0 (if sfE n o x.length=0 then tab n.ls.length fun k=>sumN x.length fun b=>(nwOf n o).hf k b*rv x b else [])) (Is (.int .i64 (sfE n o x.length)))):=by
 obtain ⟨s,rfl,hs,hb⟩:=hn
 have hn:eN.R S w (.agg #[.int .i64 n.b,s]) n:=⟨s,rfl,hs,hb⟩
 refine enter Tryz.func27 rfl Tryz.ntmps27 rfl ?_
 refine .seq (.region (.box rfl rfl fun w1 b3 n1=>.asg rfl rfl (.asg rfl rfl (.nil ?_))))
 obtain ⟨e1,k3,hb3,hs1⟩:=n1
 refine .seq (.region (.ldA ty_N rfl rfl k3 rfl (.mv rfl rfl ?_)))
 refine .call _ rfl AU4 rfl (AT7 (up.ext e1.size) (hn.ext e1) (ho.ext e1)) fun v2 w2 e2 h2=>?_
 obtain ⟨vm,ve,rfl,hm,he⟩:=h2
 replace he:ve=.int .i64 (outE n o):=he
 subst he
 have x2:=e1.trans e2
 refine .mv rfl rfl (.ext rfl rfl rfl (.ext rfl rfl rfl (.asg rfl rfl (.asg rfl rfl (.nil (.seq (.seq (.region (.mv rfl rfl ?_)))))))))
 by_cases hE:outE n o=0
 rotate_left
 ·have hb:sfE n o x.length=outE n o:=by unfold sfE;rw [if_pos hE]
  refine .neqT rfl rfl rfl hE (.nil (.condT rfl (.seq (.region (.mv rfl rfl (.asg rfl rfl (.asg rfl rfl (.nil (.ret ?_)))))))))
  refine .plain [_,_] Tryz.results27 ⟨rfl,rfl,trivial⟩ ⟨x2,_,_,rfl,?_,by rw [hb];rfl⟩
  rw [if_neg (by rw [hb];exact hE)];exact RL.nil
 have ok:=AM7 hE
 rw [if_pos hE] at hm
 have hB6:=ok.b6
 have hM10:n.ls.length≤10:=ok.m
 have hnb:=ok.b
 refine .neqF rfl rfl rfl hE (.nil (.condF rfl (.skip (.seq (.seq (.region (.mv rfl rfl (.lenR un_V rfl rfl (hx.ext x2) (.fa S7 rfl rfl (.ld A5 rfl rfl (k3.ext e2) rfl ?_))))))))))
 by_cases hl:(x.length:Int)≤n.b
 rotate_left
 ·have hb:sfE n o x.length=5:=by unfold sfE;rw [if_neg (by simpa using hE),if_neg hl]
  refine .gtrT rfl rfl rfl (by omega) (.nil (.condT rfl (.seq (.region (.asg rfl rfl (.asg rfl rfl (.nil (.ret ?_))))))))
  refine .plain [_,_] Tryz.results27 ⟨rfl,rfl,trivial⟩ ⟨x2,_,_,rfl,?_,by rw [hb]⟩
  rw [if_neg (by rw [hb];decide)];exact RL.nil
 have hb:sfE n o x.length=0:=by unfold sfE;rw [if_neg (by simpa using hE),if_pos hl]
 rw [if_pos hb]
 refine .gtrF rfl rfl rfl (by omega) (.nil (.condF rfl (.skip (.seq (.region (.mv rfl rfl (.mv rfl rfl ?_)))))))
 refine .call _ rfl Ai5 rfl (Ag1 (L:=1000000) (upo.ext x2.size) hm (hx.ext x2) ((hf_mk ok _ _).mono (by decide)) (hkx.mono hL) (by decide) (by decide) (by rw [A7];omega) (by omega)) fun v3 w3 e3 h3=>.asg rfl rfl (.asg rfl rfl (.nil (.ret ?_)))
 refine .plain [_,_] Tryz.results27 ⟨rfl,rfl,trivial⟩ ⟨x2.trans e3,_,_,rfl,?_,by rw [hb]⟩
 have e:(tab (tabM n.ls.length (nwOf n o).B (nwOf n o).hf).length fun i=>sumN x.length fun k=>rm (tabM n.ls.length (nwOf n o).B (nwOf n o).hf) i k*rv x k)=tab n.ls.length fun k=>sumN x.length fun b=>(nwOf n o).hf k b*rv x b:=by
  rw [A7]
  exact G9 fun k hk=>B5 fun b hb=>by rw [AU9,if_pos ⟨hk,by omega⟩]
 rw [e] at h3
 exact h3
theorem Aa9 {S:Nat→Prop} {w:World} {vn vo vx:Value} {n:NtV} {o:List Int} {x:List QV} {L:Nat} (up:Up S w) (hn:eN.R S w vn n) (ho:eI.R S w vo o) (hx:eV.R S w vx x) (hkx:vk L x) (hL1:1≤L) (hL:L≤1000000) :
  CR Tryz.prog 27 #[vn,vo,vx] w (Two (eV.at S (if sfE n o x.length=0 then tab n.ls.length fun k=>sumN x.length fun b=>(nwOf n o).hf k b*rv x b else [])) (Is (.int .i64 (sfE n o x.length)))):=Aa8 up up hn ho hx hkx hL1 hL
end Go.Proofs.YtfilidfomgfnhaaGreat

namespace Go.Kx
open Go Go.RowKit
section
variable {n:Nw}
end
end Go.Kx

namespace Go.Kx
open Go Go.RowKit
section
variable {n:Nw}
end
/-- a slice of one, to be appended to -/
theorem OwnL.one {α:Type} {E:ER α} {t:TypeId} {base:Nat} {X:Nat→Prop} {w w':World} {b:Nat} {e:Value} {x:α} (hn:New w w' b t e.cells) (hb:base≤w.heap.size) (hs:e.cells.size=E.sz) (hx:E.R (fun k=>X k∧k≠b) w' e x):OwnL E t base X w' (.slice (some ⟨b,0,none⟩) 1 1) [x]:=by
 obtain ⟨_,hk,hb',_⟩:=hn
 have hc:cellsOf [e]=e.cells.toList:=by simp [cellsOf]
 refine ⟨[e],⟨by rw [hc];simp [hs],.inr ⟨b,1,_,rfl,by omega,hk,Nat.le_refl _,by decide,by simp [hs],by rw [hc,List.take_of_length_le (by simp [hs])]⟩⟩,rfl,fun i e' x' he hx'=>?_⟩
 have hi:i=0:=by
  cases i with
  | zero=>rfl
  | succ i=>simp at he
 subst hi
 simp at he hx'
 subst he;subst hx'
 exact E.mono (fun k _ h=>⟨h.1,fun e=>h.2 (by simpa [Value.ownBlock] using e.symm)⟩) hx
end Go.Kx

namespace Go.Proofs.YtfilidfomgfnhaaGreat
open Go Go.Kx Go.RowKit
open Classical in
noncomputable def rfE (n:NtV) (o:List Int) (l:List RtV):Int:=if outE n o≠0 then outE n o else if rtE l n.b≠0 then rtE l n.b else if ∃ r∈l,(nwOf n o).root r.f.toNat≠(nwOf n o).root r.t.toNat then 10 else 0
theorem Af3 {n:NtV} {o:List Int} {l:List RtV} (h:rfE n o l=0):outE n o=0∧rtE l n.b=0∧∀ r∈l,(nwOf n o).root r.f.toNat=(nwOf n o).root r.t.toNat:=by
 unfold rfE at h
 split at h
 ·exact absurd h (by assumption)
 ·split at h
  ·exact absurd h (by assumption)
  ·split at h
   ·cases h
   ·rename_i h1 h2 h3
    exact ⟨Classical.not_not.1 h1,Classical.not_not.1 h2,fun r hr=>Classical.byContradiction fun h=>h3 ⟨r,hr,h⟩⟩
/-- the flows of rights -/
noncomputable def rfV (n:NtV) (o:List Int) (l:List RtV) (k:Nat):Rat:=sumN (nwOf n o).B fun b=>(nwOf n o).hf k b*((rtS l b:Int):Rat)
theorem BD1 {l:List RtV} {b:Int} (h:rtE l b=0) (k:Nat):(rtS l k).natAbs≤16000000:=by
 obtain ⟨h8,hall⟩:=BD4 h
 have h1:=BD2 (M:=1000000) (fun r hr=>by have:=hall r hr;unfold rtOk at this;omega) k
 have:=Nat.mul_le_mul_right (2*1000000) h8
 omega
theorem Af2 {n:NtV} {o:List Int} {l:List RtV} (ok:nwOk n o) (h:rtE l n.b=0) (M:Nat):vk 1100000 (tab M (rfV n o l)):=AD4 fun k _=>by
 unfold rfV
 refine (Al1 (L:=180000) fun b _=>((BF9 ok k b).mul (AE1 (by have:=BD1 h b;omega))).mono (by decide)).mono (by have:=ok.b6;omega)
theorem G8:Ent Tryz.prog 53:=A0 Tryz.func53 (by kernel_rfl) rfl
set_option maxRecDepth 8000 in
theorem G6 {S:Nat→Prop} {w:World} {vn vo vl:Value} {n:NtV} {o:List Int} {l:List RtV} (up:Up S w) (hn:eN.R S w vn n) (ho:eI.R S w vo o) (hl:eRts.R S w vl l) :
  CR Tryz.prog 53 #[vn,vo,vl] w (Two (eV.at S (if rfE n o l=0 then tab n.ls.length (rfV n o l) else [])) (Is (.int .i64 (rfE n o l)))):=by
 obtain ⟨s,rfl,hs,hb⟩:=hn
 have hn:eN.R S w (.agg #[.int .i64 n.b,s]) n:=⟨s,rfl,hs,hb⟩
 refine enter Tryz.func53 rfl Tryz.ntmps53 rfl (.beg (.go rfl (.box rfl rfl fun w1 b3 n1=>?_)))
 obtain ⟨e1,k3,hb3,hs1⟩:=n1
 refine .go rfl (.ldA ty_N rfl rfl k3 rfl (.go rfl ?_))
 refine .call _ rfl Aa1 rfl (AX3 (hn.ext e1) (ho.ext e1)) fun v2 w2 e2 h2=>?_
 subst h2
 have x2:=e1.trans e2
 refine .go rfl ?_
 by_cases hE:outE n o=0
 rotate_left
 ·have hb:rfE n o l=outE n o:=by unfold rfE;rw [if_pos hE]
  refine .neqT rfl rfl rfl hE (.goE rfl ?_)
  refine .plain [_,_] Tryz.results53 ⟨rfl,rfl,trivial⟩ ⟨x2,_,_,rfl,?_,by rw [hb]⟩
  rw [if_neg (by rw [hb];exact hE)];exact RL.nil
 have ok:=AM7 hE
 have hB6:=ok.b6
 have hB1:=ok.b1
 have hM10:n.ls.length≤10:=ok.m
 have hnb:=ok.b
 refine .neqF rfl rfl rfl hE (.go rfl (.fa S7 rfl rfl (.lc A5 rfl rfl (k3.ext e2) rfl ?_)))
 refine .call _ rfl Ac3 rfl (Ab1 (ER.ext eRts hl x2)) fun v3 w3 e3 h3=>?_
 obtain ⟨vp,ve,rfl,⟨ip,rfl⟩,rfl⟩:=h3
 have x3:=x2.trans e3
 refine .go rfl ?_
 by_cases hR:rtE l n.b=0
 rotate_left
 ·have hb:rfE n o l=rtE l n.b:=by unfold rfE;rw [if_neg (by simpa using hE),if_pos hR]
  refine .neqT rfl rfl rfl hR (.goE rfl ?_)
  refine .plain [_,_] Tryz.results53 ⟨rfl,rfl,trivial⟩ ⟨x3,_,_,rfl,?_,by rw [hb]⟩
  rw [if_neg (by rw [hb];exact hR)];exact RL.nil
 obtain ⟨hl8,hall⟩:=BD4 hR
 have k3:=k3.ext (e2.trans e3)
 refine .neqF rfl rfl rfl hR (.go rfl (.ldA ty_N rfl rfl k3 rfl (.go rfl ?_)))
 refine .call _ rfl AT0 rfl (AS0 (up.ext x3.size) (hn.ext x3) (ho.ext x3)) fun v4 w4 e4 h4=>?_
 obtain ⟨vi,ve,rfl,hi,he⟩:=h4
 replace he:ve=.int .i64 (outE n o):=he
 subst he
 rw [if_pos hE] at hi
 have x4:=x3.trans e4
 have hl4:=ER.ext eRts hl x4
 refine .go rfl (.neqF rfl rfl rfl hE (.go rfl (.lenR H4 rfl rfl hl4 ?_)))
 refine .goC rfl (.lp (α:=Nat) [1,2,3,11,40,41] rfl (fun i=>[(42,.int .i64 (i:Nat))]) (fun i W=>Ext w4 W∧i≤l.length∧∀ j r,j<i→l[j]?=some r→(nwOf n o).root r.f.toNat=(nwOf n o).root r.t.toNat) (fun i=>l.length-i) 0 (lc1 rfl) ⟨Ext.refl _,Nat.zero_le _,fun j r hj=>absurd hj (Nat.not_lt_zero _)⟩ ?_)
 rintro i W ⟨hW,hil,hroot⟩
 have hWs:=hW.size
 have k3W:=k3.ext (e4.trans hW)
 refine .go rfl ?_
 rcases Nat.lt_or_ge i l.length with hlt | hge
 rotate_left
 ·have hrf:rfE n o l=0:=by
   unfold rfE
   rw [if_neg (by simpa using hE),if_neg (by simpa using hR),if_neg]
   rintro ⟨r,hr,hne⟩
   obtain ⟨j,hj⟩:=List.mem_iff_getElem?.1 hr
   exact hne (hroot j r (by have:=(List.getElem?_eq_some_iff.1 hj).1;omega) hj)
  rw [if_pos hrf]
  have hc6:cut6 n.b=(nwOf n o).B:=by unfold cut6;omega
  have hkz:vk 3 (tab (nwOf n o).B fun k=>((rtS l k:Int):Rat)):=AD4 fun k _=>AE1 (by have:=BD1 hR k;omega)
  have hsf:sfE n o (tab (nwOf n o).B fun k=>((rtS l k:Int):Rat)).length=0:=by unfold sfE;rw [if_neg (by simpa using hE),if_pos (by rw [A3];omega)]
  have hres:(tab n.ls.length fun k=>sumN (tab (nwOf n o).B fun k=>((rtS l k:Int):Rat)).length fun b=>(nwOf n o).hf k b*rv (tab (nwOf n o).B fun k=>((rtS l k:Int):Rat)) b)=tab n.ls.length (rfV n o l):=G9 fun k _=>by
   unfold rfV
   rw [A3]
   exact B5 fun b hb=>by rw [S4,if_pos hb]
  have xW:=x4.trans hW
  refine .lssF rfl rfl rfl (by omega) (.goC rfl ?_)
  refine .par follows 9 [.inl (.agg #[.int .i64 n.b,s]),.inl _,.inl _,.inl (.pointer (some ⟨b3,0,none⟩)),.inl (.int .i64 n.b),.inr (eV.at S (tab (nwOf n o).B fun k=>((rtS l k:Int):Rat))),.inr (Two (eV.at S (tab n.ls.length (rfV n o l))) (Is (.int .i64 0))),.inr (eV.at S (tab n.ls.length (rfV n o l))),.inl (.int .i64 0)] [[],[],[],[],[(61,3)],[(60,2),(62,4)],[(58,0),(59,1),(63,5)],[(64,6)],[(64,6)]] (by kernel_rfl) ⟨
   fun w e=>(B3 ty_N rfl (k3W.ext e) rfl).ob,
   fun w e=>(v_mv rfl).ob,
   fun w e=>(v_mv rfl).ob,
   fun w e=>(v_fa S7 rfl).ob,
   fun w e=>(v_ld A5 rfl (k3W.ext e) rfl).ob,
   fun w e=>by
   have:=Ar1 (b:=n.b) (up.ext (xW.trans e).size) (ER.ext eRts hl (xW.trans e)) (by omega)
   rw [hc6] at this
   exact (A1 _ At5 rfl this).ob (A6 _ _ _),
   fun w e x5 hx5=>by
   have:=Aa9 (up.ext (xW.trans e).size) (hn.ext (xW.trans e)) (ho.ext (xW.trans e)) hx5 hkz (by decide) (by decide)
   rw [if_pos hsf,hres,hsf] at this
   exact (A1 _ Ac2 rfl this).ob (Y8 (A6 _ _ _) (AL7 _)),
   fun w e x6 hx6=>by
   obtain ⟨p,q,rfl,hp,hq⟩:=hx6
   exact M4 (v_ex rfl rfl) hp (A6 _ _ _),
   fun w e x6 hx6=>by
   obtain ⟨p,q,rfl,hp,hq⟩:=hx6
   exact ((v_ex rfl rfl).eq hq).ob,trivial⟩ ?_
  intro W1 f1 _ _ _ _ y hy
  exact .goE rfl (.plain [_,_] Tryz.results53 ⟨rfl,rfl,trivial⟩ ⟨xW.trans f1,_,_,rfl,hy,by rw [hrf]⟩)
 have hg:=List.getElem?_eq_getElem hlt
 have hrk:=hall l[i] (List.getElem_mem hlt)
 have hmem:=List.getElem_mem hlt
 refine .lssT rfl rfl rfl (by omega) (.go rfl (.ixN (i:=i) H4 E0 rfl rfl (ER.ext eRts hl4 hW) rfl hg fun q hq=>.ldE (E:=eRt) E0 rfl rfl hq fun vr hr=>.alloc rfl G0 fun W1 c n1=>?_))
 obtain ⟨g1,kc,hc,hs1'⟩:=n1
 refine .storeA (E:=eRt) (S:=fun k=>k≠c) E0 rfl rfl kc rfl rfl hr (fun h=>h rfl) fun W2 kc u2 hr=>.goC rfl ?_
 obtain ⟨rfl,_⟩:=hr
 generalize l[i]=r at *
 have x2:Ext w4 W2:=u2.below (hW.trans g1) (by omega)
 obtain ⟨h1,h2,h3,h4,_,_⟩:=hrk
 obtain ⟨f,hf⟩:∃ f:Nat,r.f=f:=⟨r.f.toNat,by omega⟩
 obtain ⟨t,ht⟩:∃ t:Nat,r.t=t:=⟨r.t.toNat,by omega⟩
 have hfB:f<(nwOf n o).B:=by omega
 have htB:t<(nwOf n o).B:=by omega
 rw [hf,ht] at kc
 have hle:=Nw.lab_eq hfB htB
 refine .par follows 10 [.inl _,.inl (.pointer (some ⟨c,0,none⟩)),.inl (.int .i64 (f:Nat)),.inr (Ptr (eInt .i64) S (((nwOf n o).lab f:Nat):Int)),.inl (.int .i64 ((nwOf n o).lab f:Nat)),.inl _,.inl (.pointer (some ⟨c,1,none⟩)),.inl (.int .i64 (t:Nat)),.inr (Ptr (eInt .i64) S (((nwOf n o).lab t:Nat):Int)),.inl (.int .i64 ((nwOf n o).lab t:Nat))] [[],[],[(47,1)],[(46,0),(48,2)],[(49,3)],[],[],[(52,6)],[(51,5),(53,7)],[(54,8)]] (by kernel_rfl) ⟨
  fun w e=>(v_mv rfl).ob,
  fun w e=>(v_fa AC2 rfl).ob,
  fun w e=>(v_ld A5 rfl (kc.ext e) rfl).ob,
  fun w e=>D8 (i:=f) un_I G1 rfl (ER.ext eI hi (x2.trans e)) rfl (AL4 hfB),
  fun w e x3 hx3=>AX2 G1 rfl hx3,
  fun w e=>(v_mv rfl).ob,
  fun w e=>(v_fa AC1 rfl).ob,
  fun w e=>(v_ld A5 rfl (kc.ext e) rfl).ob,
  fun w e=>D8 (i:=t) un_I G1 rfl (ER.ext eI hi (x2.trans e)) rfl (AL4 htB),
  fun w e x8 hx8=>AX2 G1 rfl hx8,trivial⟩ ?_
 intro W3 f3 _ _ _ _
 have hru:(nwOf n o).root r.f.toNat=(nwOf n o).root f∧(nwOf n o).root r.t.toNat=(nwOf n o).root t:=by rw [hf,ht];exact ⟨rfl,rfl⟩
 by_cases hrt:(nwOf n o).root f=(nwOf n o).root t
 ·refine .neqF rfl rfl rfl (by rw [hle.2 hrt]) (.go rfl (.inc rfl rfl rfl (by omega) (.goN rfl (.mk (i+1) rfl (lc1 rfl) ⟨⟨x2.trans f3,hlt,fun j r' hj hr'=>?_⟩,by show l.length-(i+1)<l.length-i;omega⟩))))
  by_cases e:j=i
  ·subst e;rw [hg] at hr';cases hr';rw [hru.1,hru.2];exact hrt
  ·exact hroot j r' (by omega) hr'
 ·have hrf:rfE n o l=10:=by
   unfold rfE
   rw [if_neg (by simpa using hE),if_neg (by simpa using hR),if_pos ⟨r,hmem,by rw [hru.1,hru.2];exact hrt⟩]
  refine .neqT rfl rfl rfl (by intro h;exact hrt (hle.1 (by omega))) (.goE rfl ?_)
  refine .plain [_,_] Tryz.results53 ⟨rfl,rfl,trivial⟩ ⟨x4.trans (x2.trans f3),_,_,rfl,?_,by rw [hrf]⟩
  rw [if_neg (by rw [hrf];decide)];exact RL.nil
noncomputable def feE (n:NtV) (o:List Int) (l:List RtV):Int:=if rfE n o l=10 then 0 else rfE n o l
def feP (n:NtV) (o:List Int) (l:List RtV):Prop:=rfE n o l=0∧∀ k,k<n.ls.length→absR (rfV n o l k)≤(((n.ls.getD k ln0).c:Int):Rat)
theorem Aw8 {x y:Rat}:¬ 0<cmpR x y↔x≤y:=by
 unfold cmpR
 constructor
 ·intro h
  split at h
  ·rename_i h';exact Rat.le_of_lt h'
  ·split at h
   ·exact absurd (by decide) h
   ·rename_i h1 h2;exact Rat.not_lt.1 h2
 ·intro h
  split
  ·decide
  ·split
   ·rename_i h2;exact absurd h2 (Rat.not_lt.2 h)
   ·decide
theorem P8:Ent Tryz.prog 61:=A0 Tryz.func61 (by kernel_rfl) rfl
set_option maxRecDepth 8000 in
open Classical in
theorem P0 {S:Nat→Prop} {w:World} {vn vo vl:Value} {n:NtV} {o:List Int} {l:List RtV} (up:Up S w) (hn:eN.R S w vn n) (ho:eI.R S w vo o) (hl:eRts.R S w vl l) :
  CR Tryz.prog 61 #[vn,vo,vl] w (Two (Is (.bool (decide (feP n o l)))) (Is (.int .i64 (feE n o l)))):=by
 obtain ⟨s,rfl,hs,hb⟩:=hn
 have hn:eN.R S w (.agg #[.int .i64 n.b,s]) n:=⟨s,rfl,hs,hb⟩
 refine enter Tryz.func61 rfl Tryz.ntmps61 rfl (.beg (.go rfl (.box rfl rfl fun w1 b3 n1=>?_)))
 obtain ⟨e1,k3,hb3,hs1⟩:=n1
 refine .go rfl (.ldA ty_N rfl rfl k3 rfl (.go rfl ?_))
 refine .call _ rfl G8 rfl (G6 (up.ext e1.size) (hn.ext e1) (ho.ext e1) (ER.ext eRts hl e1)) fun v2 w2 e2 h2=>?_
 obtain ⟨vf,ve,rfl,hf,rfl⟩:=h2
 have x2:=e1.trans e2
 refine .go rfl ?_
 by_cases h10:rfE n o l=10
 ·refine .eqlT rfl rfl rfl h10 (.goE rfl ?_)
  refine .plain [_,_] Tryz.results61 ⟨rfl,rfl,trivial⟩ ⟨x2,_,_,rfl,?_,by unfold feE;rw [if_pos h10]⟩
  rw [decide_eq_false fun h=>by have:=h.1;omega]
 refine .eqlF rfl rfl rfl h10 (.go rfl ?_)
 have hfe:feE n o l=rfE n o l:=by unfold feE;rw [if_neg h10]
 by_cases h0:rfE n o l=0
 rotate_left
 ·refine .neqT rfl rfl rfl h0 (.goE rfl ?_)
  refine .plain [_,_] Tryz.results61 ⟨rfl,rfl,trivial⟩ ⟨x2,_,_,rfl,?_,by rw [hfe]⟩
  rw [decide_eq_false fun h=>h0 h.1]
 rw [if_pos h0] at hf
 obtain ⟨hE,hR,_⟩:=Af3 h0
 have ok:=AM7 hE
 have hM10:n.ls.length≤10:=ok.m
 have k3:=k3.ext e2
 refine .neqF rfl rfl rfl h0 (.go rfl (.lenR un_V rfl rfl hf ?_))
 rw [A3]
 refine .goC rfl (.lp (α:=Nat) [3,24,25] rfl (fun i=>[(26,.int .i64 (i:Nat))]) (fun i W=>Ext w2 W∧i≤n.ls.length∧∀ j,j<i→absR (rfV n o l j)≤(((n.ls.getD j ln0).c:Int):Rat)) (fun i=>n.ls.length-i) 0 (lc1 rfl) ⟨Ext.refl _,Nat.zero_le _,fun j hj=>absurd hj (Nat.not_lt_zero _)⟩ ?_)
 rintro i W ⟨hW,hi,hall⟩
 have hWs:=hW.size
 refine .go rfl ?_
 rcases Nat.lt_or_ge i n.ls.length with hlt | hge
 rotate_left
 ·refine .lssF rfl rfl rfl (by omega) (.goE rfl ?_)
  refine .plain [_,_] Tryz.results61 ⟨rfl,rfl,trivial⟩ ⟨x2.trans hW,_,_,rfl,?_,by rw [hfe,h0]⟩
  rw [decide_eq_true ⟨h0,fun k hk=>hall k (by omega)⟩]
 refine .lssT rfl rfl rfl (by omega) (.go rfl (.ixN (i:=i) un_V ty_Q rfl rfl (ER.ext eV hf hW) rfl (J5 hlt) fun q hq=>.ldE (E:=eQ) ty_Q rfl rfl hq fun y hy=>.alloc rfl C5 fun W1 c n1=>.go rfl ?_))
 obtain ⟨g1,kc,hc,hs1'⟩:=n1
 refine .storeA (E:=eQ) (S:=fun k=>S k∧k<W.heap.size) ty_Q rfl rfl kc rfl rfl (ER.ext eQ (ER.lt eQ hy) g1) (fun h=>by have:=h.2;omega) fun W2 kc u2 hy=>.goC rfl ?_
 have hyv:=shpA (E:=eQ) rfl hy
 have hy:eQ.R S W2 y _:=eQ.mono (fun _ _ h=>h.1) hy
 have xw2:Ext w2 W2:=u2.below (hW.trans g1) (by omega)
 have hgl:n.ls[i]?=some (n.ls.getD i ln0):=B4 hlt
 have hcc:=ok.c i hlt
 generalize hln:n.ls.getD i ln0=ln at hgl hcc
 have hrz:Rsz (rfV n o l i) 1100000:=by
  have:=(Af2 ok hR n.ls.length).rsz (by decide) i
  rwa [S4,if_pos hlt] at this
 have hra:Rsz (absR (rfV n o l i)) 1100000:=by
  unfold absR
  split
  ·exact hrz.neg
  ·exact hrz
 have hxw:=x2.trans xw2
 refine .par follows 8 [.inl y,.inr (eQ.at S (qc (absR (rfV n o l i)))),.inl (.pointer (some ⟨b3,0+1,none⟩)),.inl s,.inl _,.inr (Ptr eL S ln),.inr (Ptr (eInt .i64) S ln.c),.inl (.int .i64 ln.c)] [[],[(31,0)],[],[(33,2)],[],[(34,3),(35,4)],[(36,5)],[(37,6)]] (by kernel_rfl) ⟨
  fun w e=>((B3 ty_Q rfl (kc.ext e) (eQ.csz hy)).eq hyv.symm).ob,
  fun w e=>by
  have:=As4 (L:=1100000) (up.ext (hxw.trans e).size) (ER.ext eQ hy e) (S8 hrz) (by decide) (by decide)
  rw [A8] at this
  exact (A1 _ At8 rfl this).ob (A6 _ _ _),
  fun w e=>(v_fa S6 rfl).ob,
  fun w e=>(v_ld AD0 rfl (k3.ext (xw2.trans e)) rfl).ob,
  fun w e=>(v_mv rfl).ob,
  fun w e=>D8 (i:=i) X4 AA1 rfl (hs.ext (hxw.trans e)) rfl hgl,
  fun w e x5 hx5=>Ar5 Ag9 rfl hx5 (by decide),
  fun w e x6 hx6=>AX2 I4 rfl hx6,trivial⟩ ?_
 intro W3' f3' x1 hx1 _ _ _ _
 refine .call _ rfl D5 rfl (D3 (up.ext (hxw.trans f3').size) (by omega) (by omega)) fun x8 W3 f3 hx8=>?_
 have hx1:=ER.ext eQ hx1 f3
 have f3:=f3'.trans f3
 have hcm:=AK1 (L:=1100000) (up.ext (hxw.trans f3).size) hx1 hx8 hra.toOk ((AE1 (n:=ln.c) (by omega)).mono (by decide)).toOk (by decide) (by decide)
 rw [A8,A8] at hcm
 refine .call _ rfl AK8 rfl hcm fun v4 W4 f4 h4=>?_
 subst h4
 by_cases hle:absR (rfV n o l i)≤((ln.c:Int):Rat)
 ·refine .gtrF rfl rfl rfl (Aw8.2 hle) (.go rfl (.inc rfl rfl rfl (by omega) (.goN rfl (.mk (i+1) rfl (lc1 rfl) ⟨⟨(xw2.trans f3).trans f4,hlt,fun j hj=>?_⟩,by show n.ls.length-(i+1)<n.ls.length-i;omega⟩))))
  by_cases e:j=i
  ·subst e;rw [hln];exact hle
  ·exact hall j (by omega)
 ·refine .gtrT rfl rfl rfl (Classical.not_not.1 fun h=>hle (Aw8.1 h)) (.goE rfl ?_)
  refine .plain [_,_] Tryz.results61 ⟨rfl,rfl,trivial⟩ ⟨(hxw.trans f3).trans f4,_,_,rfl,?_,by rw [hfe,h0]⟩
  rw [decide_eq_false fun h=>hle (by have:=h.2 i hlt;rwa [hln] at this)]
end Go.Proofs.YtfilidfomgfnhaaGreat

namespace Go.Proofs.YtfilidfomgfnhaaGreat
open Go Go.Kx Go.RowKit
def inR (m:Nat) (a:Int):Prop:=0≤a∧a<m
open Classical in
noncomputable def trE (m:Nat) (f t:Int):Int:=if inR m f∧inR m t then 0 else 1
theorem AN9:Ent Tryz.prog 116:=A0 Tryz.func116 (by kernel_rfl) rfl
set_option maxRecDepth 8000 in
theorem Af8 {S:Nat→Prop} {w:World} {vp vq:Value} {p:List QV} {q:QV} {f t:Int} {L:Nat} (up:Up S w) (hp:eV.R S w vp p) (hq:eQ.R S w vq q) (hkp:vk L p) (hkq:qk L q) (hL1:1≤L) (hL:L≤1000000) :
  CR Tryz.prog 116 #[vp,.int .i64 f,.int .i64 t,vq] w (Two (eQ.at S (if trE p.length f t=0 then qc (qval q*(rv p t.toNat-rv p f.toNat)) else q0)) (Is (.int .i64 (trE p.length f t)))):=by
 have hvq:=shpA rfl hq
 refine enter Tryz.func116 rfl Tryz.ntmps116 rfl (.beg (.go rfl (.box rfl rfl fun w1 b7 n1=>.alloc rfl C5 fun w2 b8 n2=>?_)))
 obtain ⟨e1,k7,hb7,hs1⟩:=n1
 obtain ⟨e2,k8,hb8,hs2⟩:=n2
 have x2:=e1.trans e2
 have k7:=k7.ext e2
 have hx2:=x2.size
 have hp2:eV.R (fun k=>S k∧k≠b8) w2 vp p:=eV.mono (fun k _ h=>⟨h.1,by have:=h.2;omega⟩) (ER.ext eV (ER.lt eV hp) x2)
 have hq2:eQ.R (fun k=>S k∧k≠b8) w2 vq q:=eQ.mono (fun k _ h=>⟨h.1,by have:=h.2;omega⟩) (ER.ext eQ (ER.lt eQ hq) x2)
 have upT:∀ {W:World},w2.heap.size≤W.heap.size→Up (fun k=>S k∧k≠b8) W:=fun h k hk=>⟨up k (by omega),by omega⟩
 have hbad:∀ {W:World} {σ:Env},¬ (inR p.length f∧inR p.length t)→Ext w W→(∃ z,Kx.look σ 8=some (.pointer (some ⟨b8,0,none⟩))∧Blk W b8 55 zq.cells∧z=zq)→Kx.look σ 9=some (.int .i64 1)→Leave Tryz.prog Tryz.f116 40 (fun v w'=>Ext w w'∧Two (eQ.at S (if trE p.length f t=0 then qc (qval q*(rv p t.toNat-rv p f.toNat)) else q0)) (Is (.int .i64 (trE p.length f t))) v w') σ [] W:=fun {W σ} hn hx ⟨_,h8,hk,_⟩ h9=>by
  have he:trE p.length f t=1:=by unfold trE;rw [if_neg hn]
  refine .plain [zq,_] Tryz.results116 ⟨⟨_,h8,?_⟩,h9,trivial⟩ ⟨hx,_,_,rfl,?_,by rw [he]⟩
  ·exact F2 (cs:=zq.cells.toList) ty_Q fun j u hu=>by
    rw [I7,Nat.zero_add,hk.cell]
    simpa using hu
  ·rw [if_neg (by rw [he];decide)];exact zq_R
 obtain ⟨_,_,_,_,hpl⟩:=RL.len hp
 have hst:∀ {σ:Env} {N':Nat},True:=trivial
 refine .go rfl ?_
 by_cases h0:f<0
 ·refine .lssT rfl rfl rfl h0 (.go rfl (.bld _ rfl rfl U8 (.storeA (E:=eQ) (S:=fun k=>k≠b8) ty_Q rfl rfl k8 rfl rfl zq_R (fun h=>h rfl) fun w3 k8 u3 _=>.goE rfl ?_)))
  exact hbad (fun h=>by have:=h.1.1;omega) (u3.below x2 (by omega)) ⟨zq,rfl,k8,rfl⟩ rfl
 refine .lssF rfl rfl rfl h0 (.go rfl (.lenR un_V rfl rfl hp2 (.go rfl ?_)))
 by_cases h1:(p.length:Int)≤f
 ·refine .geqT rfl rfl rfl h1 (.go rfl (.bld _ rfl rfl U8 (.storeA (E:=eQ) (S:=fun k=>k≠b8) ty_Q rfl rfl k8 rfl rfl zq_R (fun h=>h rfl) fun w3 k8 u3 _=>.goE rfl ?_)))
  exact hbad (fun h=>by have:=h.1.2;omega) (u3.below x2 (by omega)) ⟨zq,rfl,k8,rfl⟩ rfl
 refine .geqF rfl rfl rfl h1 (.go rfl ?_)
 by_cases h2:t<0
 ·refine .lssT rfl rfl rfl h2 (.go rfl (.bld _ rfl rfl U8 (.storeA (E:=eQ) (S:=fun k=>k≠b8) ty_Q rfl rfl k8 rfl rfl zq_R (fun h=>h rfl) fun w3 k8 u3 _=>.goE rfl ?_)))
  exact hbad (fun h=>by have:=h.2.1;omega) (u3.below x2 (by omega)) ⟨zq,rfl,k8,rfl⟩ rfl
 refine .lssF rfl rfl rfl h2 (.go rfl (.lenR un_V rfl rfl hp2 (.go rfl ?_)))
 by_cases h3:(p.length:Int)≤t
 ·refine .geqT rfl rfl rfl h3 (.go rfl (.bld _ rfl rfl U8 (.storeA (E:=eQ) (S:=fun k=>k≠b8) ty_Q rfl rfl k8 rfl rfl zq_R (fun h=>h rfl) fun w3 k8 u3 _=>.goE rfl ?_)))
  exact hbad (fun h=>by have:=h.2.2;omega) (u3.below x2 (by omega)) ⟨zq,rfl,k8,rfl⟩ rfl
 obtain ⟨f',rfl⟩:∃ f':Nat,f=f':=⟨f.toNat,by omega⟩
 obtain ⟨t',rfl⟩:∃ t':Nat,t=t':=⟨t.toNat,by omega⟩
 have hok:trE p.length f' t'=0:=by unfold trE;rw [if_pos ⟨⟨by omega,by omega⟩,by omega,by omega⟩]
 rw [if_pos hok]
 show WL _ _ _ _ _ _ _ _ _
 have hgf:p[f']?=some (p.getD f' q0):=B4 (by omega)
 have hgt:p[t']?=some (p.getD t' q0):=B4 (by omega)
 have hkf:=hkp.get hL1 f'
 have hkt:=hkp.get hL1 t'
 have hsub:Rsz (rv p t'-rv p f') (2*L+1):=by
  rw [Rat.sub_eq_add_neg]
  exact ((hkp.rsz hL1 t').add (hkp.rsz hL1 f').neg).mono (by omega)
 refine .geqF rfl rfl rfl h3 (.goC rfl ?_)
 refine .par follows 10 [.inl vq,.inl _,.inl _,.inr (Ptr eQ (fun k=>S k∧k≠b8) (p.getD t' q0)),.inr (eQ.at (fun k=>S k∧k≠b8) (p.getD t' q0)),.inl _,.inl _,.inr (Ptr eQ (fun k=>S k∧k≠b8) (p.getD f' q0)),.inr (eQ.at (fun k=>S k∧k≠b8) (p.getD f' q0)),.inr (eQ.at (fun k=>S k∧k≠b8) (qc (rv p t'-rv p f')))] [[],[],[],[(30,1),(31,2)],[(32,3)],[],[],[(34,5),(35,6)],[(36,7)],[(33,4),(37,8)]] (by kernel_rfl) ⟨
  fun w e=>((B3 ty_Q rfl (k7.ext e) (eQ.csz hq)).eq hvq.symm).ob,
  fun w e=>(v_mv rfl).ob,
  fun w e=>(v_mv rfl).ob,
  fun w e=>D8 (i:=t') un_V ty_Q rfl (ER.ext eV hp2 e) rfl hgt,
  fun w e x3 hx3=>K5 ty_Q rfl hx3,
  fun w e=>(v_mv rfl).ob,
  fun w e=>(v_mv rfl).ob,
  fun w e=>D8 (i:=f') un_V ty_Q rfl (ER.ext eV hp2 e) rfl hgf,
  fun w e x7 hx7=>K5 ty_Q rfl hx7,
  fun w e x4 hx4 x8 hx8=>(A1 _ V4 rfl (U4 (L:=L) (upT e.size) hx4 hx8 hkt.1 hkf.1 hL1 (by omega))).ob (A6 _ _ _),trivial⟩ ?_
 intro W3 f3 _ _ _ _ _ _ _ _ x9 hx9
 have hmul:=U5 (L:=2*L+1) (upT f3.size) (ER.ext eQ hq2 f3) hx9 (hkq.1.mono (by omega)) hsub.toOk (by omega) (by omega)
 rw [A8] at hmul
 refine .call _ rfl V5 rfl hmul fun v4 W4 f4 h4=>?_
 have hs4:=(f3.trans f4).size
 refine .storeA (E:=eQ) ty_Q rfl rfl (k8.ext (f3.trans f4)) rfl rfl h4 (fun h=>h.2 rfl) fun W5 k8 u5 h5=>.goE rfl ?_
 have hv5:=shpA (E:=eQ) rfl h5
 refine .plain [v4,_] Tryz.results116 ⟨⟨_,rfl,?_⟩,rfl,trivial⟩ ⟨u5.below ((x2.trans f3).trans f4) (by omega),_,_,rfl,eQ.mono (fun _ _ h=>h.1) h5,by rw [hok]⟩
 rw [hv5]
 refine F2 (cs:=v4.cells.toList) (by rw [Array.length_toList,eQ.csz h5];exact ty_Q) fun j u hu=>?_
 rw [I7,Nat.zero_add,k8.cell]
 simpa using hu
open Classical in
noncomputable def paE (l:List RtV) (m:Nat):Int:=if ∀ r∈l,inR m r.f∧inR m r.t then 0 else 1
/-- what the i-th right is paid -/
def paR (p:Nat→Rat) (r:RtV):Rat:=((r.q:Int):Rat)*(p r.t.toNat-p r.f.toNat)
def paV (l:List RtV) (p:Nat→Rat) (i:Nat):Rat:=paR p (l.getD i ⟨0,0,0⟩)
theorem AC6:Ent Tryz.prog 49:=A0 Tryz.func49 (by kernel_rfl) rfl
set_option maxRecDepth 8000 in
theorem AM3 {S:Nat→Prop} {w:World} {vl vp:Value} {l:List RtV} {p:List QV} {L:Nat} (up:Up S w) (hl:eRts.R S w vl l) (hp:eV.R S w vp p) (hkp:vk L p) (hL3:3≤L) (hL:L≤1000000) (hl30:l.length≤1000) :
  CR Tryz.prog 49 #[vl,vp] w (Two (eV.at S (if paE l p.length=0 then tab l.length (paV l (rv p)) else [])) (Is (.int .i64 (paE l p.length)))):=by
 refine enter Tryz.func49 rfl Tryz.ntmps49 rfl (.beg (.go rfl (.lenR H4 rfl rfl hl ?_)))
 refine .make_ _ _ un_V S5 rfl (by decide) rfl rfl rfl (Nat.le_refl _) (by omega) (by omega) fun w3 g n3=>?_
 have f3:FB eQ 55 S w3 g (List.replicate l.length q0):=FB.made n3 zq_R
 obtain ⟨e3,_,hh,hs3⟩:=n3
 generalize hG:(fun i=>qc (paV l (rv p) i))=G
 refine .go rfl (.lenR H4 rfl rfl (ER.ext eRts hl e3) ?_)
 refine .goC rfl (.lp (α:=Nat) [1,6,14,15] rfl (fun i=>[(16,.int .i64 (i:Nat))]) (fun i W=>Ext w W∧i≤l.length∧FB eQ 55 S W g (fil l.length i G q0)∧∀ j r,j<i→l[j]?=some r→inR p.length r.f∧inR p.length r.t) (fun i=>l.length-i) 0 (lc1 rfl) ⟨e3,Nat.zero_le _,by rw [O2];exact f3,fun j r hj=>absurd hj (Nat.not_lt_zero _)⟩ ?_)
 rintro i W ⟨hW,hi,fb,hall⟩
 have hWs:=hW.size
 have hgl:=fb.lt
 refine .go rfl ?_
 rcases Nat.lt_or_ge i l.length with hlt | hge
 rotate_left
 ·refine .lssF rfl rfl rfl (by omega) (.goE rfl ?_)
  have:i=l.length:=by omega
  subst this
  have hpe:paE l p.length=0:=by
   unfold paE
   rw [if_pos]
   intro r hr
   obtain ⟨j,hj⟩:=List.mem_iff_getElem?.1 hr
   exact hall j r (List.getElem?_eq_some_iff.1 hj).1 hj
  rw [T4] at fb
  refine .plain [_,_] Tryz.results49 ⟨rfl,rfl,trivial⟩ ⟨hW,_,_,rfl,?_,by rw [hpe]⟩
  rw [if_pos hpe]
  have:=fb.toR (hsz:=by decide) (c:=l.length) (up g (by omega)) (by simp) (by simp;omega)
  rw [List.length_map,List.length_range,←hG] at this
  exact this
 have hg:=List.getElem?_eq_getElem hlt
 have hgd:l.getD i ⟨0,0,0⟩=l[i]:=by rw [List.getD_eq_getElem?_getD,hg];rfl
 have hmem:=List.getElem_mem hlt
 have hGi:G i=qc (((l[i].q:Int):Rat)*(rv p l[i].t.toNat-rv p l[i].f.toNat)):=by rw [←hG];show qc (paR (rv p) (l.getD i ⟨0,0,0⟩))=_;rw [hgd];rfl
 refine .lssT rfl rfl rfl (by omega) (.go rfl (.ixN (i:=i) H4 E0 rfl rfl (ER.ext eRts hl hW) rfl hg fun q hq=>.ldE (E:=eRt) E0 rfl rfl hq fun vr hr=>.alloc rfl G0 fun W1 c n1=>.go rfl ?_))
 obtain ⟨g1,kc,hc,hs1⟩:=n1
 refine .storeA (E:=eRt) (S:=fun k=>k≠c) E0 rfl rfl kc rfl rfl hr (fun h=>h rfl) fun W2 kc u2 hr=>.goC rfl ?_
 obtain ⟨rfl,i1,i2,i3⟩:=hr
 have i3':=B7.1 i3
 generalize l[i]=r at *
 have hs2:=u2.size
 have x2:Ext w W2:=u2.below (hW.trans g1) (by omega)
 have fb2:=fb.new g1 u2 (by omega)
 have upT:∀ {W':World},W2.heap.size≤W'.heap.size→Up (fun k=>S k∧k≠g) W':=fun h k hk=>⟨up k (by omega),by omega⟩
 have hpT:∀ {W':World},Ext w W'→eV.R (fun k=>S k∧k≠g) W' vp p:=fun e=>ER.ext eV (eV.mono (fun k _ h=>⟨h.1,by have:=h.2;omega⟩) (ER.lt eV hp)) e
 generalize hres:(if trE p.length r.f r.t=0 then qc (((r.q:Int):Rat)*(rv p r.t.toNat-rv p r.f.toNat)) else q0)=res
 refine .parL follows 13 [11] [.inl vp,.inl (.pointer (some ⟨c,0,none⟩)),.inl (.int .i64 r.f),.inl (.pointer (some ⟨c,1,none⟩)),.inl (.int .i64 r.t),.inl (.pointer (some ⟨c,2,none⟩)),.inl (.int .i64 r.q),.inr (eQ.at (fun k=>S k∧k≠g) (qc ((r.q:Int):Rat))),.inr (Two (eQ.at (fun k=>S k∧k≠g) res) (Is (.int .i64 (trE p.length r.f r.t)))),.inr (Two (eQ.at (fun k=>S k∧k≠g) res) (Is (.int .i64 (trE p.length r.f r.t)))),.inr (eQ.at (fun k=>S k∧k≠g) res),.inl (.int .i64 (trE p.length r.f r.t)),.inr (NewP W2.heap.size 55 zq.cells)] [[],[],[(23,1)],[],[(25,3)],[],[(27,5)],[(28,6)],[(22,0),(24,2),(26,4),(29,7)],[(30,8)],[(21,9)],[(21,9)],[]] (by kernel_rfl) ⟨
  fun w e=>(v_mv rfl).ob,
  fun w e=>(v_fa AC2 rfl).ob,
  fun w e=>(v_ld A5 rfl (kc.ext e) rfl).ob,
  fun w e=>(v_fa AC1 rfl).ob,
  fun w e=>(v_ld A5 rfl (kc.ext e) rfl).ob,
  fun w e=>(v_fa L9 rfl).ob,
  fun w e=>(v_ld I4 rfl (kc.ext e) rfl).ob,
  fun w e=>(A1 _ D5 rfl (D3 (upT e.size) (by omega) (by omega))).ob (A6 _ _ _),
  fun w e x7 hx7=>by
  have:=Af8 (f:=r.f) (t:=r.t) (L:=L) (upT e.size) (hpT (x2.trans e)) hx7 hkp (S8 ((AE1 (by omega)).mono hL3)) (by omega) hL
  rw [A8,hres] at this
  exact (A1 _ AN9 rfl this).ob (Y8 (A6 _ _ _) (AL7 _)),
  fun w e x8 hx8=>M4 (v_mv rfl) hx8 (Y8 (A6 _ _ _) (AL7 _)),
  fun w e x9 hx9=>by
  obtain ⟨p1,q1,rfl,hp1,hq1⟩:=hx9
  exact M4 (v_ex rfl rfl) hp1 (A6 _ _ _),
  fun w e x9 hx9=>by
  obtain ⟨p1,q1,rfl,hp1,hq1⟩:=hx9
  exact ((v_ex rfl rfl).eq hq1).ob,
  fun w e=>AE4 C5 e.size,trivial⟩ ?_
 rintro W3 g3 _ _ _ _ _ _ y hy _ ⟨b9,rfl,hb9,k9⟩
 have hy':=Ah2 hy k9 AF8
 have hs3':=g3.size
 refine .storeA (E:=eQ) ty_Q rfl rfl k9 rfl rfl hy' (fun h=>h.2 rfl) fun W4 k9 u4 hy=>.go rfl ?_
 have hs4:=u4.size
 have hy:eQ.R (fun k=>S k∧k≠g) W4 y _:=eQ.mono (fun _ _ h=>h.1) hy
 have hyv:=shpA (E:=eQ) rfl hy
 have x4:Ext w W4:=u4.below (x2.trans g3) (by omega)
 have fb4:=fb2.new g3 u4 (by omega)
 by_cases hin:inR p.length r.f∧inR p.length r.t
 rotate_left
 ·have h1:trE p.length r.f r.t=1:=by unfold trE;rw [if_neg hin]
  have hpe:paE l p.length=1:=by unfold paE;rw [if_neg fun h=>hin (h r hmem)]
  refine .neqT rfl rfl rfl (by rw [h1];decide) (.goE rfl ?_)
  refine .plain [_,_] Tryz.results49 ⟨rfl,rfl,trivial⟩ ⟨x4,_,_,rfl,?_,by rw [hpe,h1]⟩
  rw [if_neg (by rw [hpe];decide)];exact RL.nil
 have h1:trE p.length r.f r.t=0:=by unfold trE;rw [if_pos hin]
 rw [if_pos h1,←hGi] at hres
 refine .neqF rfl rfl rfl h1 (.go rfl (.ldA ty_Q rfl rfl k9 (eQ.csz hy) ?_))
 rw [←hyv]
 refine .ixB (i:=i) un_V ty_Q rfl rfl rfl hlt (.storeF (E:=eQ) (i:=i) (by decide) ty_Q rfl rfl fb4 rfl (by rw [I5];exact hlt) (Nat.zero_add _) hy fun W5 f5 u5=>?_)
 rw [←hres,Q8] at f5
 refine .go rfl (.inc rfl rfl rfl (by omega) (.goN rfl (.mk (i+1) rfl (lc1 rfl) ⟨⟨u5.below x4 (by omega),hlt,f5,fun j r' hj hr'=>?_⟩,by show l.length-(i+1)<l.length-i;omega⟩)))
 by_cases e:j=i
 ·subst e;rw [hg] at hr';cases hr';exact hin
 ·exact hall j r' (by omega) hr'
end Go.Proofs.YtfilidfomgfnhaaGreat

namespace Go.Proofs.YtfilidfomgfnhaaGreat
open Go Go.Kx Go.RowKit
end Go.Proofs.YtfilidfomgfnhaaGreat

namespace Go.Proofs.YtfilidfomgfnhaaGreat
open Go Go.Kx Go.RowKit
end Go.Proofs.YtfilidfomgfnhaaGreat

namespace Go.Kx
open Go Go.RowKit
/-- angles are known by the equations -/
theorem Nw.th_cand {n:Nw} (ok:n.Ok) (hB:1≤n.B) (cand:Nat→Nat→Rat) (h:∀ b,b<n.B→∀ i,i<n.B→(if n.root i=i then cand b i else n.lap (cand b) i)=dl i b) {b c:Nat} (hb:b<n.B) (hc:c<n.B):n.th b c=cand b c :=
 Nw.uniq ok (fun i hi=>by
  have h1:=Go.Proofs.YtfilidfomgfnhaaGreat.th_eq ok hB hb hi
  have h2:=h b hb i hi
  split
  ·rw [if_pos (by assumption)] at h1 h2;rw [h1,h2]
  ·rw [if_neg (by assumption)] at h1 h2;rw [h1,h2]) c hc
theorem Nw.hf_cand {n:Nw} (ok:n.Ok) (hB:1≤n.B) (cand:Nat→Nat→Rat) (h:∀ b,b<n.B→∀ i,i<n.B→(if n.root i=i then cand b i else n.lap (cand b) i)=dl i b) {k b:Nat} (hk:k<n.M) (hb:b<n.B):n.hf k b=n.fl (cand b) k:=by
 unfold Nw.hf Nw.fl
 rw [Nw.th_cand ok hB cand h hb (ok.f k hk),Nw.th_cand ok hB cand h hb (ok.t k hk)]
def outsB (m:Nat) (o:List Int):Bool:=(List.range o.length).all fun i=>decide (0≤o.getD i 0) && decide (o.getD i 0<m) && (decide (i=0) || decide (o.getD (i-1) 0<o.getD i 0))
theorem BE4 {n:NtV} {o:List Int} (h:outsB n.ls.length o=true):outsOk n o:=by
 unfold outsB at h
 rw [List.all_eq_true] at h
 intro i hi
 have:=h i (List.mem_range.2 hi)
 simp only [Bool.and_eq_true,Bool.or_eq_true,decide_eq_true_eq] at this
 exact ⟨this.1.1,this.1.2,fun h0=>by rcases this.2 with h | h;omega;exact h⟩
def chkB (n:NtV):Bool:=decide (1≤n.b) && decide (n.b≤6) && decide (n.ls.length≤10) && n.ls.all fun l=>(List.range 5).all fun i=>ck i n.b l
theorem Av8 {n:NtV} {o:List Int} (h:chkB n=true) (ho:outsB n.ls.length o=true):outE n o=0:=by
 unfold chkB at h
 simp only [Bool.and_eq_true,decide_eq_true_eq,List.all_eq_true] at h
 obtain ⟨⟨⟨h1,h2⟩,h3⟩,h4⟩:=h
 have hc:chkE n=0:=by
  unfold chkE
  rw [if_neg (by omega),if_neg (by omega),if_pos]
  exact fun i _ l hl j hj=>h4 l (List.mem_iff_getElem?.2 ⟨i,hl⟩) j (List.mem_range.2 hj)
 unfold outE
 rw [if_neg (by simpa using hc),if_pos (BE4 ho)]
end Go.Kx
namespace Go.Proofs.YtfilidfomgfnhaaGreat
open Go Go.Kx Go.RowKit
theorem zero_N:zeroOf Tryz.prog 24=some (.agg #[.int .i64 0,.slice none 0 0]):=by kernel_rfl
theorem Ah8 {a b c d:Int}:bldOf Tryz.prog 80 [(0,.int .i64 a),(1,.int .i64 b),(2,.int .i64 c),(3,.int .i64 d)]=some #[.int .i64 a,.int .i64 b,.int .i64 c,.int .i64 d]:=by kernel_rfl
theorem bsl_Ls3 {a b c d a' b' c' d' a2 b2 c2 d2:Value}:bslOf Tryz.prog 22 3 [(0,.agg #[a,b,c,d]),(1,.agg #[a',b',c',d']),(2,.agg #[a2,b2,c2,d2])]=some (80,#[a,b,c,d,a',b',c',d',a2,b2,c2,d2]):=by kernel_rfl
theorem bld_N2 {b:Int} {a:Option Addr} {n c:Nat}:bldOf Tryz.prog 24 [(0,.int .i64 b),(1,.slice a n c)]=some #[.int .i64 b,.slice a n c]:=by kernel_rfl
theorem ln_R {S:Nat→Prop} {w:World} {a b c d:Int} (h:∀ x∈[a,b,c,d],-9223372036854775808≤x∧x≤9223372036854775807):eL.R S w (.agg #[.int .i64 a,.int .i64 b,.int .i64 c,.int .i64 d]) ⟨a,b,c,d⟩:=⟨rfl,B7.2 (h a (by simp)),B7.2 (h b (by simp)),B7.2 (h c (by simp)),B7.2 (h d (by simp))⟩
end Go.Proofs.YtfilidfomgfnhaaGreat

namespace Go.Kx
open Go Go.RowKit
/-- what flows out, by lines in service -/
def Nw.offM (n:Nw) (f:Nat→Rat) (b:Nat):Rat:=n.off (fun k=>if n.g k=0 then 0 else f k) b
end Go.Kx
namespace Go.Proofs.YtfilidfomgfnhaaGreat
open Go Go.Kx Go.RowKit
end Go.Proofs.YtfilidfomgfnhaaGreat

namespace Go.Proofs.YtfilidfomgfnhaaGreat
open Go Go.Kx Go.RowKit
end Go.Proofs.YtfilidfomgfnhaaGreat

namespace Go.Kx
open Go Go.RowKit
section
variable {P:Program} {σ:Env} {w:World} {d:Option Tmp} {ty:TypeId} {pos:String} {af:Array Edge} {g:Option (Nat×Bool)}
end
end Go.Kx
namespace Go.Proofs.YtfilidfomgfnhaaGreat
open Go Go.Kx Go.RowKit
end Go.Proofs.YtfilidfomgfnhaaGreat

namespace Go.Kx
open Go Go.RowKit
section
variable {n:Nw}
/-- injections but for the reference buses -/
def Nw.inj0 (n:Nw) (x:Nat→Rat) (b:Nat):Rat:=if n.root b=b then 0 else x b
/-- the angles of injections -/
def Nw.an (n:Nw) (x:Nat→Rat) (c:Nat):Rat:=sumN n.B fun b=>n.th b c*n.inj0 x b
/-- the reference bus takes the surplus -/
def Nw.bl (n:Nw) (x:Nat→Rat) (b:Nat):Rat:=if n.root b=b then-sumN n.B (fun c=>if c≠b∧n.root c=b then x c else 0) else x b
end
end Go.Kx

namespace Go.Proofs.YtfilidfomgfnhaaGreat
open Go Go.Kx Go.RowKit
end Go.Proofs.YtfilidfomgfnhaaGreat

namespace Go.Proofs.YtfilidfomgfnhaaGreat
open Go Go.Kx Go.RowKit
theorem vk_ints (l:List Int) (h:∀ n∈l,-9223372036854775808≤n∧n≤9223372036854775807):vk 2 (intsV l):=Aj9 h
end Go.Proofs.YtfilidfomgfnhaaGreat

namespace Go.Kx
open Go Go.RowKit
section
variable {α:Type} {E:ER α} {t:TypeId} {S X:Nat→Prop} {w w':World} {g:Nat} {l:List α}
end
section
variable {P:Program} {ro:Option Nat} {N:Nat} {ds:List Deferred} {ops:Array Oper} {K:Env→World→Prop} {rest:List Oper} {σ:Env} {w:World} {d:Tmp} {ty:TypeId} {pos:String} {af:Array Edge} {α:Type} {E:ER α} {S:Nat→Prop}
end
end Go.Kx

namespace Go.Kx
open Go Go.RowKit
section
variable {α:Type} {E:ER α} {t:TypeId} {base:Nat} {X:Nat→Prop} {w w':World} {v:Value} {l:List α}
end
section
variable {P:Program} {σ:Env} {w:World} {d:Option Tmp} {ty:TypeId} {pos:String} {af:Array Edge} {g:Option (Nat×Bool)} {α:Type} {E:ER α}
end
def Nw.mem (n:Nw) (i r:Nat):List Nat:=(List.range i).filter fun b=>decide (n.root b=r)
theorem Nw.mem_succ (n:Nw) (i r:Nat):n.mem (i+1) r=n.mem i r++if n.root i=r then [i] else []:=by
 unfold Nw.mem
 rw [List.range_succ,List.filter_append]
 by_cases h:n.root i=r
 ·simp [h]
 ·simp [h]
end Go.Kx

namespace Go.Proofs.YtfilidfomgfnhaaGreat
open Go Go.Kx Go.RowKit
end Go.Proofs.YtfilidfomgfnhaaGreat

namespace Go.Kx
open Go Go.RowKit
section
variable {n:Nw}
def Nw.mem1 (n:Nw) (i r:Nat):List Nat:=(List.range i).filter fun c=>decide (c≠r∧n.root c=r)
theorem Nw.mem1_succ (n:Nw) (i r:Nat):n.mem1 (i+1) r=n.mem1 i r++if i≠r∧n.root i=r then [i] else []:=by
 unfold Nw.mem1
 rw [List.range_succ,List.filter_append]
 by_cases h:i≠r∧n.root i=r
 ·simp [h]
 ·rw [if_neg h];simp [h]
theorem Nw.mem_first {r:Nat} (h:n.root r=r):∀ d,n.mem (r+1+d) r=r::n.mem1 (r+1+d) r
 | 0=>by
  have e1:n.mem r r=[]:=by
   unfold Nw.mem
   rw [List.filter_eq_nil_iff]
   intro b hb
   have:=Nw.root_le (n:=n) b
   have:=List.mem_range.1 hb
   simp;omega
  have e2:n.mem1 r r=[]:=by
   unfold Nw.mem1
   rw [List.filter_eq_nil_iff]
   intro b hb
   have:=Nw.root_le (n:=n) b
   have:=List.mem_range.1 hb
   simp;omega
  rw [Nat.add_zero,Nw.mem_succ,Nw.mem1_succ,e1,e2,if_pos h,if_neg (by simp)];rfl
 | d+1=>by
  rw [show r+1+(d+1)=(r+1+d)+1 by omega,Nw.mem_succ,Nw.mem1_succ,Nw.mem_first h d]
  by_cases h':n.root (r+1+d)=r
  ·rw [if_pos h',if_pos ⟨by omega,h'⟩];rfl
  ·rw [if_neg h',if_neg fun h''=>h' h''.2];rfl
theorem Nw.mem_cons {B r:Nat} (h:n.root r=r) (hr:r<B):n.mem B r=r::n.mem1 B r:=by
 have:=Nw.mem_first (n:=n) h (B-(r+1))
 rwa [show r+1+(B-(r+1))=B by omega] at this
end
end Go.Kx
namespace Go.Proofs.YtfilidfomgfnhaaGreat
open Go Go.Kx Go.RowKit
end Go.Proofs.YtfilidfomgfnhaaGreat

namespace Go.Kx
open Go Go.RowKit
theorem Leave.tt {P:Program} {fn:Func} {N:Nat} {σ:Env} {w W:World} {r:Nat} (hr:fn.results=#[.tmp r]) (hl:look σ r=some (.bool true)) (h:Ext w W):Leave P fn N (fun v w'=>Ext w w'∧Is (.bool true) v w') σ [] W:=.plain [_] hr ⟨hl,trivial⟩ ⟨h,rfl⟩
end Go.Kx
namespace Go.Proofs.YtfilidfomgfnhaaGreat
open Go Go.Kx Go.RowKit
theorem eqV_t {a b:List QV} (h:∀ k,rv a k=rv b k):decide (eqV a b)=true:=decide_eq_true h
end Go.Proofs.YtfilidfomgfnhaaGreat
