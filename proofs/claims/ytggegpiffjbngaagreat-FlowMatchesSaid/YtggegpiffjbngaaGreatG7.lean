/-
  What the claim leans on.
-/
import Derived.Test.YtggegpiffjbngaaGreatG6
set_option linter.unusedVariables false
namespace Go.Proofs.YtggegpiffjbngaaGreat
open Go Go.Kx Go.RowKit
theorem AN2:fldOf Tryz.prog 102 0=some 0:=by kernel_rfl
theorem ty_Br:tyOf Tryz.prog 102=some (true,4):=by kernel_rfl
theorem BW2 {a b c d:Value}:bldOf Tryz.prog 102 [(0,.agg #[a,b,c,d])]=some #[a,b,c,d]:=by kernel_rfl
@[reducible] def brV (f t x c:Int):Value:=.agg #[.int .i64 f,.int .i64 t,.int .i64 x,.int .i64 c]
def brE (f t b:Int):Int:=if b=f then 1 else if b=t then -1 else 0
theorem BB3:Ent Tryz.prog 161:=A0 Tryz.func161 (by kernel_rfl) rfl
theorem Az2 {w:World} {f t x c b:Int}:CR Tryz.prog 161 #[brV f t x c,.int .i64 b] w (Is (.int .i64 (brE f t b))):=by
 refine enter Tryz.func161 O Tryz.ntmps161 O (.beg (.go O (.box O O fun w1 b2 n1=>?_)))
 obtain ⟨e1,k2,_,_⟩:=n1
 refine .go O (.fa AN2 O O (.fa N8 O O (.ld A4 O O k2 O ?_)))
 by_cases h:b=f
 ·refine .eqlT O O O h (.goE O ?_)
  exact .plain [_] Tryz.results161 ⟨rfl,trivial⟩ ⟨e1,by unfold brE;rw [if_pos h];rfl⟩
 refine .eqlF O O O h (.go O (.fa AN2 O O (.fa N7 O O (.ld A4 O O k2 O ?_))))
 by_cases h':b=t
 ·refine .eqlT O O O h' (.goE O ?_)
  exact .plain [_] Tryz.results161 ⟨rfl,trivial⟩ ⟨e1,by unfold brE;rw [if_neg h,if_pos h'];rfl⟩
 ·refine .eqlF O O O h' (.goE O ?_)
  exact .plain [_] Tryz.results161 ⟨rfl,trivial⟩ ⟨e1,by unfold brE;rw [if_neg h,if_neg h'];rfl⟩
theorem brE_mul (f t a b:Int):brE f t a*brE f t b=0\/brE f t a*brE f t b=1\/brE f t a*brE f t b = -1:=by
 unfold brE
 split<;>split<;>(try split)<;>(try split)<;>simp
theorem BG6:Ent Tryz.prog 100:=A0 Tryz.func100 (by kernel_rfl) rfl
theorem BF3 {S:Nat->Prop} {w:World} {f t x c a b:Int} (up:Up S w) (hx:1<=x) (hx2:x<=1000):CR Tryz.prog 100 #[brV f t x c,.int .i64 a,.int .i64 b] w (eQ.at S (qc (Rat.divInt (brE f t a*brE f t b) x))):=by
 have hm:=brE_mul f t a b
 refine enter Tryz.func100 O Tryz.ntmps100 O (.beg (.go O (.box O O fun w1 b3 n1=>.go O (.alloc O C5 fun w2 b6 n2=>.goC O ?_))))
 obtain ⟨e1,k3,hb3,hs1⟩:=n1
 obtain ⟨e2,k6,hb6,hs2⟩:=n2
 have x2:=e1.trans e2
 have hx2s:=x2.size
 have k3:=k3.ext e2
 have upT:∀ {W:World},w2.heap.size<=W.heap.size->Up (fun k=>S k/\k≠b6) W:=fun h k hk=>⟨up k (by omega),by omega⟩
 refine .parL follows 15 [13] [.inl (brV f t x c),.inl _,.inl (.int .i64 (brE f t a)),.inl (brV f t x c),.inl _,.inl (.int .i64 (brE f t b)),.inl (.int .i64 (brE f t a*brE f t b)),.inl (.pointer (some ⟨b3,0,none⟩)),.inl (.pointer (some ⟨b3,2,none⟩)),.inl (.int .i64 x),.inr (Two (eQ.at (fun k=>S k/\k≠b6) (qc (Rat.divInt (brE f t a*brE f t b) x))) (Is (.int .i64 0))),.inr (Two (eQ.at (fun k=>S k/\k≠b6) (qc (Rat.divInt (brE f t a*brE f t b) x))) (Is (.int .i64 0))),.inr (eQ.at (fun k=>S k/\k≠b6) (qc (Rat.divInt (brE f t a*brE f t b) x))),.inl (.int .i64 0),.inr (NewP w2.heap.size 54 zq.cells)] [[],[],[(10,0),(11,1)],[],[],[(13,3),(14,4)],[(12,2),(15,5)],[],[(17,7)],[(18,8)],[(16,6),(19,9)],[(20,10)],[(9,11)],[(9,11)],[]] (by kernel_rfl) ⟨
  fun w e=>(B9 ty_Br O (k3.ext e) O).ob,
  fun w e=>(v_mv O).ob,
  fun w e=>(A2 _ BB3 O Az2).obIs,
  fun w e=>(B9 ty_Br O (k3.ext e) O).ob,
  fun w e=>(v_mv O).ob,
  fun w e=>(A2 _ BB3 O Az2).obIs,
  fun w e=>((BQ1 O O).eq (by rw [wI (by omega)])).ob,
  fun w e=>(v_fa AN2 O).ob,
  fun w e=>(v_fa AH0 O).ob,
  fun w e=>(v_ld S3 O (k3.ext e) O).ob,
  fun w e=>(A2 _ BG4 O (BE1 (upT e.size) (by omega) (by omega) (by omega) (by omega) (by omega))).ob (Z8 (A3 _ _ _) (AN9 _)),
  fun w e x10 hx10=>L4 (v_mv O) hx10 (Z8 (A3 _ _ _) (AN9 _)),
  fun w e x11 hx11=>by
   obtain ⟨p,q,rfl,hp,hq⟩:=hx11
   exact L4 (v_ex O O) hp (A3 _ _ _),
  fun w e x11 hx11=>by
   obtain ⟨p,q,rfl,hp,hq⟩:=hx11
   exact ((v_ex O O).eq hq).ob,
  fun w e=>Z9 C5 e.size,trivial⟩ ?_
 rintro W3 g3 _ _ _ _ y hy _ ⟨b7,rfl,hb7,k7⟩
 have hy':=BE9 hy k7 AW2
 refine .storeA (E:=eQ) ty_Q O O k7 O O hy' (fun h=>h.2 O) fun W4 k7 u4 hy=>?_
 have hs3:=g3.size
 have hs4:=u4.size
 have hy:eQ.R (fun k=>S k/\k≠b6) W4 y _:=eQ.mono (fun _ _ h=>h.1) hy
 have hyv:=shpA (E:=eQ) O hy
 have k6:=(k6.ext g3).upd u4 (by omega)
 have x4:Ext w W4:=u4.below (x2.trans g3) (by omega)
 refine .go O (.ldA ty_Q O O k7 (eQ.csz hy) ?_)
 rw [<-hyv]
 refine .storeA (E:=eQ) ty_Q O O k6 O O hy (fun h=>h.2 O) fun W5 k6 u5 hy=>.goE O ?_
 exact .cell Tryz.results100 O ty_Q O O k6 hy ⟨u5.below x4 (by omega),eQ.mono (fun _ _ h=>h.1) hy⟩
theorem BP1:Ent Tryz.prog 101:=A0 Tryz.func101 (by kernel_rfl) rfl
theorem BO7 {S T0:Nat->Prop} {w:World} {x c:Int} {f t L:Nat} {vθ:Value} {θ:List QV} (up:Up S w) (upo:Up T0 w) (hθ:eV.R S w vθ θ) (hk:vk L θ) (hf:f<θ.length) (ht:t<θ.length) (hx:1<=x) (hx2:x<=1000) (hL:1<=L) (hL2:L<=1000000000) :
  CR Tryz.prog 101 #[brV (f:Nat) (t:Nat) x c,vθ] w (eQ.at T0 (qc ((rv θ f-rv θ t) / ((x:Int):Rat)))):=by
 refine enter Tryz.func101 O Tryz.ntmps101 O (.beg (.go O (.box O O fun w1 b2 n1=>.go O (.alloc O C5 fun w2 b4 n2=>.goC O ?_))))
 obtain ⟨e1,k2,hb2,hs1⟩:=n1
 obtain ⟨e2,k4,hb4,hs2⟩:=n2
 have x2:=e1.trans e2
 have hx2s:=x2.size
 have k2:=k2.ext e2
 have upT:∀ {W:World},w2.heap.size<=W.heap.size->Up (fun k=>S k/\k≠b4) W:=fun h k hk=>⟨up k (by omega),by omega⟩
 have upoT:∀ {W:World},w2.heap.size<=W.heap.size->Up (fun k=>T0 k/\k≠b4) W:=fun h k hk=>⟨upo k (by omega),by omega⟩
 have hθ:eV.R (fun k=>S k/\k≠b4) w2 vθ θ:=eV.mono (fun k _ h=>⟨h.1,by have:=h.2;omega⟩) (ER.ext eV (ER.lt eV hθ) x2)
 have hgf:θ[f]?=some (θ.getD f q0):=A6 hf
 have hgt:θ[t]?=some (θ.getD t q0):=A6 ht
 have hqf:=hk.get hL f
 have hqt:=hk.get hL t
 have hx0:((x:Int):Rat)≠0:=fun e=>by
  have:x=0:=by exact_mod_cast e
  omega
 have hrz:∀ b,Rsz (rv θ b) L:=fun b=>hk.rsz hL b
 have hd:Rsz (rv θ f-rv θ t) (L+L+1):=by
  rw [Rat.sub_eq_add_neg]
  exact (hrz _).add (hrz _).neg
 have hr1:Rsz ((x:Int):Rat) (L+L+1):=Rsz.int _ (Nat.lt_of_lt_of_le (by omega:x.natAbs<4294967296 ^ 1) (Nat.pow_le_pow_right (by decide) (by omega))) (by omega)
 refine .parL follows 22 [20] [.inl _,.inl (.pointer (some ⟨b2,0,none⟩)),.inl (.pointer (some ⟨b2,0,none⟩)),.inl (.int .i64 (f:Nat)),.inr (Ptr eQ (fun k=>S k/\k≠b4) (θ.getD f q0)),.inr (eQ.at (fun k=>S k/\k≠b4) (θ.getD f q0)),.inl _,.inl (.pointer (some ⟨b2,0,none⟩)),.inl (.pointer (some ⟨b2,1,none⟩)),.inl (.int .i64 (t:Nat)),.inr (Ptr eQ (fun k=>S k/\k≠b4) (θ.getD t q0)),.inr (eQ.at (fun k=>S k/\k≠b4) (θ.getD t q0)),.inr (eQ.at (fun k=>S k/\k≠b4) (qc (rv θ f-rv θ t))),.inl (.pointer (some ⟨b2,0,none⟩)),.inl (.pointer (some ⟨b2,2,none⟩)),.inl (.int .i64 x),.inr (eQ.at (fun k=>S k/\k≠b4) (qc ((x:Int):Rat))),.inr (Two (eQ.at (fun k=>T0 k/\k≠b4) (qc ((rv θ f-rv θ t) / ((x:Int):Rat)))) (Is (.int .i64 0))),.inr (Two (eQ.at (fun k=>T0 k/\k≠b4) (qc ((rv θ f-rv θ t) / ((x:Int):Rat)))) (Is (.int .i64 0))),.inr (eQ.at (fun k=>T0 k/\k≠b4) (qc ((rv θ f-rv θ t) / ((x:Int):Rat)))),.inl (.int .i64 0),.inr (NewP w2.heap.size 54 zq.cells)] [[],[],[(9,1)],[(10,2)],[(8,0),(11,3)],[(12,4)],[],[],[(15,7)],[(16,8)],[(14,6),(17,9)],[(18,10)],[(13,5),(19,11)],[],[(21,13)],[(22,14)],[(23,15)],[(20,12),(24,16)],[(25,17)],[(7,18)],[(7,18)],[]] (by kernel_rfl) ⟨
  fun w e=>(v_mv O).ob,
  fun w e=>(v_fa AN2 O).ob,
  fun w e=>(v_fa N8 O).ob,
  fun w e=>(v_ld A4 O (k2.ext e) O).ob,
  fun w e=>B7 (i:=f) un_V ty_Q O (ER.ext eV hθ e) O hgf,
  fun w e x4 hx4=>J2 ty_Q O hx4,
  fun w e=>(v_mv O).ob,
  fun w e=>(v_fa AN2 O).ob,
  fun w e=>(v_fa N7 O).ob,
  fun w e=>(v_ld A4 O (k2.ext e) O).ob,
  fun w e=>B7 (i:=t) un_V ty_Q O (ER.ext eV hθ e) O hgt,
  fun w e x10 hx10=>J2 ty_Q O hx10,
  fun w e x5 hx5 x11 hx11=>(A2 _ BG3 O (BE0 (L:=L) (upT e.size) hx5 hx11 hqf.1 hqt.1 hL (by omega))).ob (A3 _ _ _),
  fun w e=>(v_fa AN2 O).ob,
  fun w e=>(v_fa AH0 O).ob,
  fun w e=>(v_ld S3 O (k2.ext e) O).ob,
  fun w e=>(A2 _ O3 O (N5 (upT e.size) (by omega) (by omega))).ob (A3 _ _ _),
  fun w e x12 hx12 x16 hx16=>by
   have:=Ah8 (L:=L+L+1) (upT e.size) (upoT e.size) hx12 hx16 hd.toOk hr1.toOk (by omega) (by omega) (by rw [C1];exact hx0)
   rw [C1,C1] at this
   exact (A2 _ Ak1 O this).ob (Z8 (A3 _ _ _) (AN9 _)),
  fun w e x17 hx17=>L4 (v_mv O) hx17 (Z8 (A3 _ _ _) (AN9 _)),
  fun w e x18 hx18=>by
   obtain ⟨p,q,rfl,hp,hq⟩:=hx18
   exact L4 (v_ex O O) hp (A3 _ _ _),
  fun w e x18 hx18=>by
   obtain ⟨p,q,rfl,hp,hq⟩:=hx18
   exact ((v_ex O O).eq hq).ob,
  fun w e=>Z9 C5 e.size,trivial⟩ ?_
 rintro W3 g3 _ _ _ _ _ _ _ _ _ _ _ _ _ _ _ _ y hy _ ⟨b5,rfl,hb5,k5⟩
 have hy':=BE9 hy k5 AW2
 refine .storeA (E:=eQ) ty_Q O O k5 O O hy' (fun h=>h.2 O) fun W4 k5 u4 hy=>?_
 have hs3:=g3.size
 have hs4:=u4.size
 have hy:eQ.R (fun k=>T0 k/\k≠b4) W4 y _:=eQ.mono (fun _ _ h=>h.1) hy
 have hyv:=shpA (E:=eQ) O hy
 have k4:=(k4.ext g3).upd u4 (by omega)
 have x4:Ext w W4:=u4.below (x2.trans g3) (by omega)
 refine .go O (.ldA ty_Q O O k5 (eQ.csz hy) ?_)
 rw [<-hyv]
 refine .storeA (E:=eQ) ty_Q O O k4 O O hy (fun h=>h.2 O) fun W5 k4 u5 hy=>.goE O ?_
 exact .cell Tryz.results101 O ty_Q O O k4 hy ⟨u5.below x4 (by omega),eQ.mono (fun _ _ h=>h.1) hy⟩
theorem BR7 {S:Nat->Prop} {w W:World} {v:Value} {a:List QV} {B:Nat} (h:ResP S w.heap.size ((B:Nat):Int) a v W) (up:Up S w) (h1:1<=B) (h2:B<=60000):eV.R S W v (tab B (rv a)):=by
 rcases h with ⟨h,_⟩ | ⟨_,g,N,hN,hg,rfl,hf⟩
 ·omega
 ·have hNB:N=B:=by omega
  subst hNB
  have:=hf.toR (hsz:=by decide) (c:=N) (up g hg) (by rw [A1];exact Nat.le_refl _) (by rw [A1];omega)
  rw [A1] at this
  exact this
theorem vk_res {L B:Nat} {a:List QV} (h:vk L a) (hL:1<=L):vk L (tab B (rv a)):=O5 fun k _=>h.rsz hL k
theorem AW1:Ent Tryz.prog 39:=A0 Tryz.func39 (by kernel_rfl) rfl
theorem AU6 {S T0:Nat->Prop} {w:World} {vn vo va:Value} {n:NtV} {o:List Int} {a:List QV} {L:Nat} (up:Up S w) (upo:Up T0 w) (hn:eN.R S w vn n) (ho:eI.R S w vo o) (ha:eV.R S w va a) (hka:vk L a) (hL1:1<=L) (hL:L<=1000000000) :
  CR Tryz.prog 39 #[vn,vo,va] w (Two (eV.at T0 (if sfE n o a.length=0 then tab n.ls.length ((nwOf n o).fl (rv a)) else [])) (Is (.int .i64 (sfE n o a.length)))):=by
 obtain ⟨s,rfl,hs,hb⟩:=hn
 have hn:eN.R S w (.agg #[.int .i64 n.b,s]) n:=⟨s,rfl,hs,hb⟩
 refine enter Tryz.func39 O Tryz.ntmps39 O (.beg (.go O (.box O O fun w1 b3 n1=>?_)))
 obtain ⟨e1,k3,hb3,hs1⟩:=n1
 refine .go O (.ldA ty_N O O k3 O (.go O ?_))
 refine .call _ O Aj8 O (Ag9 (up.ext e1.size) (hn.ext e1) (ho.ext e1)) fun v2 w2 e2 h2=>?_
 obtain ⟨vl,ve,rfl,hl,he⟩:=h2
 replace he:ve=.int .i64 (outE n o):=he
 subst he
 have x2:=e1.trans e2
 refine .go O ?_
 by_cases hE:outE n o=0
 rotate_left
 ·have hb:sfE n o a.length=outE n o:=by unfold sfE;rw [if_pos hE]
  refine .neqT O O O hE (.goE O ?_)
  refine .plain [_,_] Tryz.results39 ⟨rfl,rfl,trivial⟩ ⟨x2,_,_,rfl,?_,by rw [hb]⟩
  rw [if_neg (by rw [hb];exact hE)];exact RL.nil
 have ok:=V4 hE
 rw [if_pos hE] at hl
 have hB6:=ok.b6
 have hB1:=ok.b1
 have hM10:n.ls.length<=10:=ok.m
 have hnb:=ok.b
 have hll:=AU2 n o
 have k3:=k3.ext e2
 rw [hnb] at k3
 obtain ⟨_,_,_,_,hal⟩:=RL.len ha
 refine .neqF O O O hE (.go O (.lenR un_V O O (ha.ext x2) (.go O (.fa E9 O O (.ld A4 O O k3 O ?_)))))
 by_cases hlen:(a.length:Int)<=n.b
 rotate_left
 ·have hb:sfE n o a.length=5:=by unfold sfE;rw [if_neg (by simpa using hE),if_neg hlen]
  refine .gtrT O O O (by omega) (.goE O ?_)
  refine .plain [_,_] Tryz.results39 ⟨rfl,rfl,trivial⟩ ⟨x2,_,_,rfl,?_,by rw [hb]⟩
  rw [if_neg (by rw [hb];decide)];exact RL.nil
 have hno:sfE n o a.length=0:=by unfold sfE;rw [if_neg (by simpa using hE),if_pos hlen]
 rw [if_pos hno]
 refine .gtrF O O O (by omega) (.go O (.fa E9 O O (.ld A4 O O k3 O ?_)))
 refine .call _ O Y7 O (AF8 (up.ext x2.size) (ha.ext x2) hka hL1 (by omega)) fun v3 w3 e3 h3=>?_
 have h3:=BR7 (B:=(nwOf n o).B) h3 (up.ext x2.size) (by omega) (by omega)
 have x3:=x2.trans e3
 refine .go O (.fa G8 O O (.ld L3 O O (k3.ext e3) O (.lenR K2 O O (hs.ext x3) ?_)))
 refine .make_ _ _ un_V H0 O (by decide) O O O (Nat.le_refl _) (by omega) (by omega) fun w4 h n4=>?_
 have f4:FB eQ 54 T0 w4 h (List.replicate n.ls.length q0):=FB.made n4 zq_R
 obtain ⟨e4,_,hh,hs4⟩:=n4
 rw [<-Af5] at f4
 have hs3:=x3.size
 have hl:=ER.ext eI hl e3
 have hs:=ER.ext eLs hs x3
 have k3:=k3.ext e3
 have h3:eV.R (fun k=>S k/\k≠h) w3 v3 _:=eV.mono (fun k _ h=>⟨h.1,by have:=h.2;omega⟩) (ER.lt eV h3)
 refine .go O (.lenR un_I O O (ER.ext eI hl e4) ?_)
 rw [show (pInts (inL n o)).length=(inL n o).length by simp]
 refine .goC O (.lp (α:=Nat) [3,10,11,36,37] O (fun i=>[(38,.int .i64 (i:Nat))]) (fun i W=>Ext w3 W/\i<=(inL n o).length/\FB eQ 54 T0 W h (tab n.ls.length fun k=>if k∈(inL n o).take i then (nwOf n o).fl (rv a) k else 0)) (fun i=>(inL n o).length-i) 0 (lc1 O) ⟨e4,Nat.zero_le _,by simpa using f4⟩ ?_)
 rintro i W ⟨hW,hi,fb⟩
 have hWs:=hW.size
 have hhl:=fb.lt
 refine .go O ?_
 rcases Nat.lt_or_ge i (inL n o).length with hlt | hge
 rotate_left
 ·refine .lssF O O O (by omega) (.goE O ?_)
  have:i=(inL n o).length:=by omega
  subst this
  rw [List.take_of_length_le (Nat.le_refl _),fl_tab ok] at fb
  refine .plain [_,_] Tryz.results39 ⟨rfl,rfl,trivial⟩ ⟨x3.trans hW,_,_,rfl,?_,by rw [hno]⟩
  have:=fb.toR (hsz:=by decide) (c:=n.ls.length) (upo h (by omega)) (by rw [A1];exact Nat.le_refl _) (by rw [A1];omega)
  rw [A1] at this
  exact this
 obtain ⟨hgk,hkM,hko⟩:=Ad4 hlt
 refine .lssT O O O (by omega) (.go O (.ixN (i:=i) un_I B6 O O (ER.ext eI hl hW) O hgk fun q hq=>.ldE (E:=eInt .i64) B6 O O hq fun e he=>?_))
 obtain ⟨rfl,_⟩:=he
 have hset:=BQ6 (M:=n.ls.length) (f:=(nwOf n o).fl (rv a)) hlt
 have hgl:n.ls[(inL n o).getD i 0]?=some (n.ls.getD ((inL n o).getD i 0) ln0):=A6 hkM
 have hFI:=ok.fI _ hkM
 have hTI:=ok.tI _ hkM
 have hF:=ok.f _ hkM
 have hT:=ok.t _ hkM
 have hx:=ok.x _ hkM
 have hgv:=g_on (n:=n) hko
 generalize hkk:(inL n o).getD i 0=k at hset hgl hFI hTI hx hgv hkM hF hT
 generalize hln:n.ls.getD k ln0=ln at hgl hFI hTI hx hgv
 refine .go O (.fa G8 O O (.ld L3 O O (k3.ext hW) O (.go O (.ixN (i:=k) K2 O9 O O (ER.ext eLs hs hW) O hgl fun q hq=>.ldE (E:=eL) O9 O O hq fun vl' hvl=>?_))))
 obtain ⟨rfl,_⟩:=hvl
 rw [hFI,hTI]
 refine .bld _ O O BW2 (.go O ?_)
 have hv:=BO7 (w:=W) (S:=fun k=>S k/\k≠h) (T0:=fun k=>T0 k/\k≠h) (c:=ln.c) (fun k hk=>⟨up k (by omega),by omega⟩) (fun k hk=>⟨upo k (by omega),by omega⟩) (ER.ext eV h3 hW) (vk_res hka hL1) (by rw [A1];exact hF) (by rw [A1];exact hT) hx.1 hx.2 hL1 hL
 have hflv:(rv (tab (nwOf n o).B (rv a)) ((nwOf n o).F k)-rv (tab (nwOf n o).B (rv a)) ((nwOf n o).T k)) / ((ln.x:Int):Rat)=(nwOf n o).fl (rv a) k:=by
  unfold Nw.fl
  rw [H9,H9,if_pos hF,if_pos hT,hgv,Rat.div_def,Rat.mul_comm]
 rw [hflv] at hv
 refine .call _ O BP1 O hv fun y W1 g1 hy=>?_
 have hs1':=g1.size
 refine .go O (.ixB (i:=k) un_V ty_Q O O O hkM (.storeF (E:=eQ) (i:=k) (by decide) ty_Q O O (fb.ext g1) O (by rw [A1];exact hkM) (Nat.zero_add _) hy fun W6 f6 u6=>?_))
 rw [hset] at f6
 exact .go O (.inc O O O (by omega) (.goN O (.mk (i+1) O (lc1 O) ⟨⟨u6.below (hW.trans g1) (by omega),hlt,f6⟩,by show (inL n o).length-(i+1)<(inL n o).length-i;omega⟩)))
end Go.Proofs.YtggegpiffjbngaaGreat
namespace Go.Kx
open Go Go.RowKit
section
variable {P:Program} {σ:Env} {w:World} {d:Option Tmp} {ty:TypeId} {pos:String} {af:Array Edge} {g:Option (Nat×Bool)}
theorem BV2 {f:FuncId} {fx:Operand} {xs:List Operand} {ts:Array TypeId} (fs cap vs:List Value) {R:Value->World->Prop} (hfx:ev σ fx=some (.func (.func f) fs.toArray cap.toArray)) (hf:Ent P f) (hx:xs.map (ev σ)=vs.map some)
  (hc:CR P f (fs++(vs++cap)).toArray w R) :
  Gv P ⟨d,.call { callee:=.value fx,args:=xs.toArray,argTypes:=ts },ty,pos,af,g⟩ σ w fun v w'=>Ext w w'/\R v w':=by
 refine ⟨(by intro _ h;cases h),fun ρ hρ=>.inr (.inr ?_)⟩
 have h1:=hρ fx _ (by simp [Op.operands,Call.operands]) hfx
 have h2:xs.map ρ=vs:=AH1 (σ:=σ) (fun x v hx'=>hρ x v (by simp [Op.operands,Call.operands,hx'])) hx
 refine ⟨f,(fs++(vs++cap)).toArray,w,?_,hc⟩
 simp [execOp,resolve,h1,h2,Deferred.ofValue,invoke,hf _ _]
theorem ob_make {t e:TypeId} {x y:Operand} {z:Value} {sz by_ B:Nat} (n c:Nat) {k k':IntKind} (ht:P.underlying t=some (.slice e)) (hi:infoOf P e=some (z,sz,by_)) (hzs:z.cells.size=sz) (hsz:0<sz)
  (hx:ev σ x=some (.int k (n:Int))) (hy:ev σ y=some (.int k' (c:Int))) (hnc:n<=c) (hby:by_*c<=281474976710656) (hc:c<=9223372036854775807) (hB:B<=w.heap.size) :
  Gv P ⟨d,.makeSlice t x y,ty,pos,af,g⟩ σ w fun v' w'=>Ext w w'/\Sp.ok (.inr fun v W=>∃ b,v=.slice (some ⟨b,0,none⟩) n c/\B<=b/\Blk W b e (cellsOf (List.replicate c z)).toArray) v' w' :=
 (BV1 n c ht hi hzs hsz hx hy hnc hby hc).mono fun v' w' ⟨b,hv,hn⟩=>⟨hn.1,fun w'' e=>⟨b,hv,by have:=hn.2.2.1;omega,hn.2.1.ext e⟩⟩
end
theorem FB.rep {α:Type} {E:ER α} {t:TypeId} {S:Nat->Prop} {w:World} {g c:Nat} {z:Value} {z0:α} (hb:Blk w g t (cellsOf (List.replicate c z)).toArray) (hz:E.R (fun k=>S k/\k≠g) w z z0):FB E t S w g (List.replicate c z0) :=
 ⟨List.replicate c z,hb,by simp,fun i e x he hx=>by
  rw [List.getElem?_replicate] at he hx
  split at he
  ·rename_i h;rw [if_pos h] at hx;cases he;cases hx;exact hz
  ·cases he⟩
def mixF (f q:RM) (r c:Nat):RM:=fun r' c'=>if r'<r\/(r'=r/\c'<c) then f r' c'+q r' c' else f r' c'
theorem BM5 (f q:RM) (r c:Nat):upE (mixF f q r c) r c (f r c+q r c)=mixF f q r (c+1):=by
 funext a b
 unfold upE mixF
 by_cases ha:a=r
 ·subst ha
  rw [if_pos rfl]
  by_cases hb:b=c
  ·subst hb
   rw [if_pos rfl,if_pos (.inr ⟨rfl,by omega⟩)]
  ·rw [if_neg hb]
   by_cases h:b<c
   ·rw [if_pos (.inr ⟨rfl,h⟩),if_pos (.inr ⟨rfl,by omega⟩)]
   ·rw [if_neg (by omega),if_neg (by omega)]
 ·rw [if_neg ha]
  by_cases h:a<r
  ·rw [if_pos (.inl h),if_pos (.inl h)]
  ·rw [if_neg (by omega),if_neg (by omega)]
theorem BT8 (B:Nat) (f q:RM) (r:Nat):tabM B B (mixF f q r B)=tabM B B (mixF f q (r+1) 0):=C8 fun a b _ hb=>by
 unfold mixF
 by_cases h:a<r+1
 ·rw [if_pos (by omega),if_pos (.inl h)]
 ·rw [if_neg (by omega),if_neg (by omega)]
theorem BM4 (B:Nat) (f q:RM):tabM B B (mixF f q 0 0)=tabM B B f:=C8 fun a b _ _=>by unfold mixF;rw [if_neg (by omega)]
theorem BT9 (B:Nat) (f q:RM):tabM B B (mixF f q B 0)=tabM B B fun r c=>f r c+q r c:=C8 fun a b ha _=>by unfold mixF;rw [if_pos (.inl ha)]
theorem mixF_at (f q:RM) (r c:Nat):mixF f q r c r c=f r c:=by unfold mixF;rw [if_neg (by omega)]
end Go.Kx
namespace Go.Proofs.YtggegpiffjbngaaGreat
open Go Go.Kx Go.RowKit
theorem BK4 {n:Nw} {k b:Nat} (hne:n.F k≠n.T k):((brE (n.F k:Nat) (n.T k:Nat) (b:Nat):Int):Rat)=n.inc k b:=by
 unfold brE Nw.inc dl
 by_cases h1:n.F k=b
 ·rw [if_pos (by omega),if_pos h1,if_neg (by omega)];grind
 ·rw [if_neg (by omega),if_neg h1]
  by_cases h2:n.T k=b
  ·rw [if_pos (by omega),if_pos h2];grind
  ·rw [if_neg (by omega),if_neg h2];grind
theorem As6 {n:Nw} {k a b:Nat} {x:Int} (hne:n.F k≠n.T k) (hg:n.g k=((x:Int):Rat)⁻¹):Rat.divInt (brE (n.F k:Nat) (n.T k:Nat) (a:Nat)*brE (n.F k:Nat) (n.T k:Nat) (b:Nat)) x=n.g k*(n.inc k a*n.inc k b):=by
 rw [<-BK4 hne,<-BK4 hne,hg,Rat.divInt_eq_div,Rat.div_def,Rat.mul_comm,Rat.intCast_mul]
theorem E_Lap1:Ent Tryz.prog 99:=A0 Tryz.func99 (by kernel_rfl) rfl
set_option maxRecDepth 8000 in
theorem Lap1_c {S:Nat->Prop} {w:World} {b8 gb B:Nat} {hs:List Nat} {f q:RM} {F T x c:Int} (up:Up S w) (hM:MB 32 54 S w gb B hs (tabM B B f)) (k8:Blk w b8 28 #[slB B gb]) (h8:b8∉hs) (h8g:b8≠gb) (hB:B<=6)
  (hf:∀ r c,Rsz (f r c) 30) (hq:∀ a b:Nat,Rat.divInt (brE F T (a:Nat)*brE F T (b:Nat)) x=q a b) (hqs:∀ r c,Rsz (q r c) 30) (hx:1<=x) (hx2:x<=1000) :
  Calls Tryz.prog 99 #[.func (.func 100) #[brV F T x c] #[],.pointer (some ⟨b8,0,none⟩)] w fun e w'=>∃ v,e=.returned v/\(Chg (fun k=>k∈hs) w w'/\MB 32 54 S w' gb B hs (tabM B B fun r c=>f r c+q r c)):=by
 have hlen:hs.length=B:=by rw [hM.len,A9]
 have hhg:∀ i,i<B->hs[i]?=some (hs.getD i 0):=fun i hi=>A6 (by omega)
 have hgn:=hM.gn
 have hgl:=hM.out.lt
 have hlt0:∀ k∈hs,k<w.heap.size:=fun k hk=>hM.lt hk
 refine enterG Tryz.func99 O Tryz.ntmps99 O (.beg (.go O (.ld ty_M O O k8 O (.len un_M O O ?_))))
 refine .goC O (.lp (α:=Nat) [0,1,6] O (fun r=>[(7,.int .i64 (r:Nat))]) (fun r W=>r<=B/\Chg (fun k=>k∈hs) w W/\MB 32 54 S W gb B hs (tabM B B (mixF f q r 0))) (fun r=>B-r) 0 (lc1 O) ⟨Nat.zero_le _,Chg.refl _,by rw [BM4];exact hM⟩ ?_)
 rintro r W ⟨hr,hC,hM⟩
 refine .go O ?_
 rcases Nat.lt_or_ge r B with hrl | hge
 rotate_left
 ·refine .lssF O O O (by omega) (.goE O ?_)
  have:r=B:=by omega
  subst this
  rw [BT9] at hM
  exact .plain [] Tryz.results99 trivial ⟨hC,hM⟩
 refine .lssT O O O (by omega) (.go O (.ld ty_M O O (hC.blk k8 h8) O (.go O (.ixB (i:=r) un_M ty_V O O O hrl (.ld ty_V O O hM.out (hM.cell (hhg r hrl)) (.len un_V O O ?_))))))
 refine .goC O (.lp (α:=Nat) [0,1,3,6,7,14] O (fun c=>[(15,.int .i64 (c:Nat))]) (fun c W=>c<=B/\Chg (fun k=>k∈hs) w W/\MB 32 54 S W gb B hs (tabM B B (mixF f q r c))) (fun c=>B-c) 0 (lc1 O) ⟨Nat.zero_le _,hC,hM⟩ ?_)
 clear hM hC W
 rintro j W ⟨hj,hC,hM⟩
 refine .go O ?_
 rcases Nat.lt_or_ge j B with hjl | hge
 rotate_left
 ·have:j=B:=by omega
  subst this
  rw [BT8] at hM
  exact .lssF O O O (by omega) (.go O (.inc O O O (by omega) (.goN O (.mk (r+1) O (lc1 O) ⟨⟨hrl,hC,hM⟩,by show j-(r+1)<j-r;omega⟩))))
 have k8W:=hC.blk k8 h8
 have hrow:=hM.row r _ _ (hhg r hrl) (E2 hrl)
 have hCs:=hC.size
 have upT:∀ {W':World},W.heap.size<=W'.heap.size->Up (offM S gb hs) W':=fun h k' hk'=>⟨up k' (by omega),by omega,fun hm=>by have:=hlt0 k' hm;omega⟩
 refine .lssT O O O (by omega) (.goC O ?_)
 refine .par follows 17 [.inl (slB B gb),.inl (.int .i64 (r:Nat)),.inl (.pointer (some ⟨gb,0+r*1,none⟩)),.inl (slB B (hs.getD r 0)),.inl (.int .i64 (j:Nat)),.inl (slB B gb),.inl (.int .i64 (r:Nat)),.inl (.pointer (some ⟨gb,0+r*1,none⟩)),.inl (slB B (hs.getD r 0)),.inl (.int .i64 (j:Nat)),.inl (.pointer (some ⟨hs.getD r 0,0+j*4,none⟩)),.inr (eQ.at (offM S gb hs) (qc (f r j))),.inl _,.inl _,.inl _,.inr (eQ.at (offM S gb hs) (qc (q r j))),.inr (eQ.at (offM S gb hs) (qc (f r j+q r j)))] [[],[],[(18,0),(19,1)],[(20,2)],[],[],[],[(23,5),(24,6)],[(25,7)],[],[(26,8),(27,9)],[(28,10)],[],[],[],[(30,12),(31,13),(32,14)],[(29,11),(33,15)]] (by kernel_rfl) ⟨
  fun w e=>(v_ld ty_M O (k8W.ext e) O).ob,
  fun w e=>(v_mv O).ob,
  fun w e=>(J9 (i:=r) un_M ty_V O O hrl).ob,
  fun w e=>(v_ld ty_V O (hM.out.ext e) (hM.cell (hhg r hrl))).ob,
  fun w e=>(v_mv O).ob,
  fun w e=>(v_ld ty_M O (k8W.ext e) O).ob,
  fun w e=>(v_mv O).ob,
  fun w e=>(J9 (i:=r) un_M ty_V O O hrl).ob,
  fun w e=>(v_ld ty_V O (hM.out.ext e) (hM.cell (hhg r hrl))).ob,
  fun w e=>(v_mv O).ob,
  fun w e=>(J9 (i:=j) un_V ty_Q O O hjl).ob,
  fun w e=>(AQ4 (E:=eQ) (i:=j) (by decide) ty_Q O (Nat.zero_add _) (hrow.2.ext e) (by rw [K0 hjl,mixF_at])).mono fun v' w' h=>⟨h.1,fun w'' e'=>eQ.mono (fun _ _ h=>h.1) (h.2 w'' e')⟩,
  fun w e=>(v_mv O).ob,
  fun w e=>(v_mv O).ob,
  fun w e=>(v_mv O).ob,
  fun w e=>by
   have:=BF3 (f:=F) (t:=T) (c:=c) (a:=(r:Nat)) (b:=(j:Nat)) (upT e.size) hx hx2
   rw [hq] at this
   exact (BV2 [brV F T x c] [] [.int .i64 (r:Nat),.int .i64 (j:Nat)] O BG6 O this).ob (A3 _ _ _),
  fun w e x11 hx11 x15 hx15=>by
   have:=AQ8 (L:=30) (upT e.size) hx11 hx15 (hf _ _).toOk (hqs _ _).toOk (by decide) (by decide)
   rw [C1,C1] at this
   exact (A2 _ AS0 O this).ob (A3 _ _ _),trivial⟩ ?_
 intro X0 g0 _ _ _ _ y0 hy0
 have sx0:=g0.size
 have hm:hs.getD r 0∈hs:=L5 (by omega)
 refine .ixB (i:=j) un_V ty_Q O O O hjl (.storeF (E:=eQ) (i:=j) (by decide) ty_Q O O (hrow.2.ext g0) O (by rw [A1];exact hjl) (Nat.zero_add _) (eQ.mono (fun k' _ h=>⟨h,fun e=>h.2.2 (e▸hm)⟩) hy0) fun Y0 fy0 uy0=>?_)
 have hM:=(hM.ext g0).set (hhg r hrl) (by rw [List.length_set,A1]) uy0 fy0
 rw [BQ7 hrl,BM5] at hM
 exact .go O (.inc O O O (by omega) (.goN O (.mk (j+1) O (lc1 O) ⟨⟨hjl,hC.trans ((Chg.ext g0).trans (Chg.upd uy0 hm)),hM⟩,by show B-(j+1)<B-j;omega⟩)))
theorem AY4:Ent Tryz.prog 38:=A0 Tryz.func38 (by kernel_rfl) rfl
set_option maxRecDepth 8000 in
theorem AX4 {S:Nat->Prop} {w:World} {vn vo:Value} {n:NtV} {o:List Int} (up:Up S w) (hn:eN.R S w vn n) (ho:eI.R S w vo o) :
  CR Tryz.prog 38 #[vn,vo] w (Two (fun v W=>if outE n o=0 then MBat 32 54 S w.heap.size (nwOf n o).B (nwOf n o).B (tabM (nwOf n o).B (nwOf n o).B (nwOf n o).Lm) v W else v=.slice none 0 0) (Is (.int .i64 (outE n o)))):=by
 obtain ⟨s,rfl,hs,hb⟩:=hn
 have hn:eN.R S w (.agg #[.int .i64 n.b,s]) n:=⟨s,rfl,hs,hb⟩
 refine enter Tryz.func38 O Tryz.ntmps38 O (.beg (.go O (.box O O fun w1 b2 n1=>?_)))
 obtain ⟨e1,k2,hb2,hs1⟩:=n1
 refine .go O (.ldA ty_N O O k2 O (.go O ?_))
 refine .call _ O Aj8 O (Ag9 (up.ext e1.size) (hn.ext e1) (ho.ext e1)) fun v2 w2 e2 h2=>?_
 obtain ⟨vl,ve,rfl,hl,he⟩:=h2
 replace he:ve=.int .i64 (outE n o):=he
 subst he
 have x2:=e1.trans e2
 refine .go O ?_
 by_cases hE:outE n o=0
 rotate_left
 ·refine .neqT O O O hE (.goE O ?_)
  refine .plain [_,_] Tryz.results38 ⟨rfl,rfl,trivial⟩ ⟨x2,_,_,rfl,?_,rfl⟩
  show if outE n o=0 then _ else _
  rw [if_neg hE]
 have ok:=V4 hE
 rw [if_pos hE] at hl
 have hB6:=ok.b6
 have hB1:=ok.b1
 have hM10:n.ls.length<=10:=ok.m
 have hnb:=ok.b
 have hll:=AU2 n o
 have k2:=k2.ext e2
 have hsx2:=x2.size
 rw [hnb] at k2
 refine .neqF O O O hE (.go O (.fa E9 O O (.ld A4 O O k2 O ?_)))
 generalize hBB:(nwOf n o).B=B at hB6 hB1 hnb k2
 refine .make_ _ _ un_M AK5 O (by decide) O O O (Nat.le_refl _) (by omega) (by omega) fun w3 gb n3=>.alloc O zero_M fun w4 b8 n4=>?_
 obtain ⟨e3,kg,hgb,hs3⟩:=n3
 obtain ⟨e4,k8,hb8,hs4⟩:=n4
 refine .store ty_M O O k8 O (by simp [Value.cells]) (by simp [one1,Value.cells]) fun w5 k8 u5=>?_
 replace k8:Blk w5 b8 28 #[slB B gb]:=k8
 have hs5:=u5.size
 have y5:Ext w2 w5:=u5.below (e3.trans e4) (by omega)
 have k2V:=k2
 have k2:=k2.ext y5
 have kg:Blk w5 gb 32 (cellsOf (List.replicate B nilV)).toArray:=(kg.ext e4).upd u5 (by omega)
 refine .go O (.ld ty_M O O k8 O (.len un_M O O ?_))
 have hb2l:=(k2).lt
 have hup:∀ k,w.heap.size<=k->S k:=up
 refine .goC O (.cut (α:=List Nat) 1 [2,6,8,26] O (fun hs=>[(27,.int .i64 (hs.length:Nat))]) (fun hs W=>Ext w2 W/\Blk W b8 28 #[slB B gb]/\(∀ k∈hs,w5.heap.size<=k)/\MB 32 54 S W gb B hs (tabM B B fun _ _=>0)) O ?_ ?_)
 rotate_left
 ·refine .lp (α:=List Nat) [2,6,8,26] rfl (fun hs=>[(27,.int .i64 (hs.length:Nat))]) (fun hs W=>Ext w2 W/\Blk W b8 28 #[slB B gb]/\hs.length<=B/\Blk W gb 32 (cellsOf (hs.map (slB B)++List.replicate (B-hs.length) nilV)).toArray/\hs.Nodup/\(∀ k∈hs,w5.heap.size<=k)/\∀ (i h:Nat),hs[i]?=some h->FB eQ 54 (fun _=>False) W h (List.replicate B q0)) (fun hs=>B-hs.length) [] (lc1 rfl) ⟨y5,k8,Nat.zero_le _,kg,List.nodup_nil,(fun k hk=>by cases hk),(fun i h hh=>by cases hh)⟩ ?_
  rintro hs W ⟨hW,k8,hi,hO,hnd,hge,hrow⟩
  have hWs:=hW.size
  have hgl:=hO.lt
  refine .go O ?_
  rcases Nat.lt_or_ge hs.length B with hlt | hge'
  rotate_left
  ·refine .lssF O O O (by omega) (.goN O (.mk hs O (lc1 O) ⟨hW,k8,hge,?_⟩))
   have hl:hs.length=B:=by omega
   rw [hl,Nat.sub_self,List.replicate_zero,List.append_nil] at hO
   refine ⟨hO,hnd,fun hm=>by have:=hge gb hm;omega,by rw [A9];exact hl,fun i h r h1 h2=>?_⟩
   have hil:i<B:=by have:=(List.getElem?_eq_some_iff.1 h1).1;omega
   rw [E2 hil] at h2
   cases h2
   rw [Af5]
   exact ⟨by simp,(hrow i h h1).mono fun _ _ h=>h.elim⟩
  refine .lssT O O O (by omega) (.goC O ?_)
  refine .par follows 5 [.inl (slB B gb),.inl (.int .i64 (hs.length:Nat)),.inl (.pointer (some ⟨b2,0,none⟩)),.inl (.int .i64 (B:Nat)),.inr (fun v W'=>∃ b,v=.slice (some ⟨b,0,none⟩) B B/\W.heap.size<=b/\Blk W' b 54 (cellsOf (List.replicate B zq)).toArray)] [[],[],[],[(32,2)],[(33,3)]] (by kernel_rfl) ⟨
   fun w e=>(v_ld ty_M O (k8.ext e) O).ob,
   fun w e=>(v_mv O).ob,
   fun w e=>(v_fa E9 O).ob,
   fun w e=>(v_ld A4 O ((k2V.ext hW).ext e) O).ob,
   fun w e=>ob_make B B un_V H0 O (by decide) O O (Nat.le_refl _) (by omega) (by omega) e.size,trivial⟩ ?_
  rintro W1 g1 _ ⟨h,rfl,hhW,kh⟩
  have hs1':=g1.size
  have hlW:∀ k∈hs,k<W.heap.size:=fun k hk=>by
   obtain ⟨i,hi⟩:=List.mem_iff_getElem?.1 hk
   exact (hrow i k hi).lt
  have hesz:∀ e∈hs.map (slB B)++List.replicate (B-hs.length) nilV,e.cells.size=1:=fun e he=>by
   rcases List.mem_append.1 he with h | h
   ·obtain ⟨_,_,rfl⟩:=List.mem_map.1 h;rfl
   ·rw [(List.mem_replicate.1 h).2];rfl
  have hset:(hs.map (slB B)++List.replicate (B-hs.length) nilV).set hs.length (slB B h)=(hs++[h]).map (slB B)++List.replicate (B-(hs.length+1)) nilV:=by
   have:=BH5 (hs.map (slB B)) nilV (slB B h) (B-(hs.length+1))
   rw [List.length_map,show B-(hs.length+1)+1=B-hs.length by omega] at this
   rw [this,List.map_append];rfl
  refine .ixB (i:=hs.length) un_M ty_V O O O hlt ?_
  refine .gv O O (Ay4 (i:=hs.length) (by decide) ty_V O O (hO.ext g1) hesz O (by simp [Value.cells,one1]) (by simp;omega) (Nat.zero_add _)) ?_
  rintro _ W2 ⟨hBg2,u2⟩
  replace hBg2:Blk W2 gb 32 (cellsOf ((hs.map (slB B)++List.replicate (B-hs.length) nilV).set hs.length (slB B h))).toArray:=hBg2
  rw [hset] at hBg2
  refine .go O (.inc O O O (by omega) (.goN O (.mk (hs++[h]) O (lc1 (by rw [List.length_append];rfl)) ⟨⟨u2.below (hW.trans g1) (by omega),(k8.ext g1).upd u2 (by omega),by rw [List.length_append];exact hlt,by rw [List.length_append];exact hBg2,?_,?_,?_⟩,by rw [List.length_append];show B-(hs.length+1)<B-hs.length;omega⟩)))
  ·exact List.nodup_append.2 ⟨hnd,by simp,fun a ha b hb=>by rw [List.mem_singleton.1 hb];have:=hlW a ha;omega⟩
  ·intro k hk
   rcases List.mem_append.1 hk with hk | hk
   ·exact hge k hk
   ·rw [List.mem_singleton.1 hk];have:=k8.lt;omega
  ·intro i x hx
   rcases Nat.lt_or_ge i hs.length with hil | hil
   ·rw [List.getElem?_append_left hil] at hx
    have:=hge x (List.mem_iff_getElem?.2 ⟨i,hx⟩)
    exact ((hrow i x hx).ext g1).upd u2 (by omega) fun h=>h
   ·rw [List.getElem?_append_right hil] at hx
    have:x=h:=by
     cases hj:i-hs.length with
     | zero=>rw [hj] at hx;simpa using hx.symm
     | succ j=>rw [hj] at hx;simp at hx
    subst this
    exact (FB.rep (S:=fun _=>False) kh zq_R).upd u2 (by omega) fun h=>h
 rintro hs0 W ⟨hW,k8,hge,hM⟩
 have hWs:=hW.size
 have hgl:=hM.out.lt
 refine .go O (.mkf [] [_] O O O O (.go O (.lenR un_I O O (ER.ext eI hl hW) ?_)))
 rw [show (pInts (inL n o)).length=(inL n o).length by simp]
 refine .goC O (.lp (α:=Nat) [2,8,10,38,39] O (fun i=>[(40,.int .i64 (i:Nat))]) (fun i W=>i<=(inL n o).length/\Ext w2 W/\Blk W b8 28 #[slB B gb]/\MB 32 54 S W gb B hs0 (tabM B B ((nwOf n o).lmL ((inL n o).take i)))) (fun i=>(inL n o).length-i) 0 (lc1 O) ⟨Nat.zero_le _,hW,k8,hM⟩ ?_)
 clear hW hM k8 hgl hWs W
 rintro i W ⟨hi,hW,k8,hM⟩
 have hWs:=hW.size
 refine .go O ?_
 rcases Nat.lt_or_ge i (inL n o).length with hlt | hge'
 rotate_left
 ·refine .lssF O O O (by omega) (.go O (.ld ty_M O O k8 O (.goE O ?_)))
  have:i=(inL n o).length:=by omega
  subst this
  refine .plain [_,_] Tryz.results38 ⟨rfl,rfl,trivial⟩ ⟨x2.trans hW,_,_,rfl,?_,by rw [hE]⟩
  show if outE n o=0 then _ else _
  rw [if_pos hE]
  have hfin:tabM B B ((nwOf n o).lmL ((inL n o).take (inL n o).length))=tabM B B (nwOf n o).Lm:=C8 fun b c _ _=>by
   rw [List.take_of_length_le (Nat.le_refl _)]
   exact Nw.lmL_free (p:=oN o) b c _ fun k hk=>ok.g0 hk
  rw [hfin] at hM
  exact ⟨gb,hs0,rfl,by omega,fun k hk=>by have:=hge k hk;omega,hM⟩
 obtain ⟨hgk,hkM,hko⟩:=Ad4 hlt
 refine .lssT O O O (by omega) (.go O (.ixN (i:=i) un_I B6 O O (ER.ext eI hl hW) O hgk fun q hq=>.ldE (E:=eInt .i64) B6 O O hq fun e he=>?_))
 obtain ⟨rfl,_⟩:=he
 have hgl:n.ls[(inL n o).getD i 0]?=some (n.ls.getD ((inL n o).getD i 0) ln0):=A6 hkM
 have hFI:=ok.fI _ hkM
 have hTI:=ok.tI _ hkM
 have hne:=ok.ne _ hkM
 have hx:=ok.x _ hkM
 have hgv:=g_on (n:=n) hko
 have htk:(inL n o).take (i+1)=(inL n o).take i++[(inL n o).getD i 0]:=by rw [List.take_add_one,A6 (z:=0) hlt];rfl
 generalize hkk:(inL n o).getD i 0=k at hgl hFI hTI hx hgv hkM hne htk
 generalize hln:n.ls.getD k ln0=ln at hgl hFI hTI hx hgv
 refine .go O (.fa G8 O O (.ld L3 O O (k2V.ext hW) O (.go O (.ixN (i:=k) K2 O9 O O (ER.ext eLs hs (x2.trans hW)) O hgl fun q hq=>.ldE (E:=eL) O9 O O hq fun vl' hvl=>?_))))
 obtain ⟨rfl,_⟩:=hvl
 rw [hFI,hTI]
 refine .bld _ O O BW2 (.mkf [_] [] O O O O ?_)
 have hgs:=ok.gsz k
 have hq:∀ a b,Rsz ((nwOf n o).g k*((nwOf n o).inc k a*(nwOf n o).inc k b)) 30:=fun a b=>by
  refine (BH7 hgs (Nat.le_refl _) ?_).mono (by decide)
  rcases (nwOf n o).inc_tri k a with h | h | h<;>rcases (nwOf n o).inc_tri k b with h' | h' | h'<;>rw [h,h']<;>grind
 have hfs:∀ r c,Rsz ((nwOf n o).lmL ((inL n o).take i) r c) 30:=fun r c=>((nwOf n o).lmL_rsz (Nat.le_refl _) (fun k=>ok.gsz k) r c _).mono (by
  rw [List.length_take]
  have:=Nat.mul_le_mul_right 2 (show min i (inL n o).length<=10 by omega)
  omega)
 have hcall:=Lap1_c (S:=S) (c:=ln.c) (up.ext (x2.trans hW).size) hM k8 (fun hm=>by have:=hge b8 hm;omega) (by omega) hB6 hfs (fun a b=>As6 hne hgv) hq hx.1 hx.2
 refine .callvG [_] O O E_Lap1 O hcall ?_
 rintro v W1 ⟨hC,hM1⟩
 have hnew:tabM B B (fun r c=>(nwOf n o).lmL ((inL n o).take i) r c+(nwOf n o).g k*((nwOf n o).inc k r*(nwOf n o).inc k c))=tabM B B ((nwOf n o).lmL ((inL n o).take (i+1))):=C8 fun b c _ _=>by rw [htk,Nw.lmL_snoc]
 rw [hnew] at hM1
 exact .go O (.inc O O O (by omega) (.goN O (.mk (i+1) O (lc1 O) ⟨⟨hlt,hC.below hW (by omega) (fun k hk=>by have:=hge k hk;omega),hC.blk k8 (fun hm=>by have:=hge b8 hm;omega),hM1⟩,by show (inL n o).length-(i+1)<(inL n o).length-i;omega⟩)))
end Go.Proofs.YtggegpiffjbngaaGreat
namespace Go.Kx
open Go Go.RowKit
section
variable {n:Nw}
end
section
variable {n:Nw}
end
theorem OwnL.one {α:Type} {E:ER α} {t:TypeId} {base:Nat} {X:Nat->Prop} {w w':World} {b:Nat} {e:Value} {x:α} (hn:New w w' b t e.cells) (hb:base<=w.heap.size) (hs:e.cells.size=E.sz) (hx:E.R (fun k=>X k/\k≠b) w' e x):OwnL E t base X w' (.slice (some ⟨b,0,none⟩) 1 1) [x]:=by
 obtain ⟨_,hk,hb',_⟩:=hn
 have hc:cellsOf [e]=e.cells.toList:=by simp [cellsOf]
 refine ⟨[e],⟨by rw [hc];simp [hs],.inr ⟨b,1,_,rfl,by omega,hk,Nat.le_refl _,by decide,by simp [hs],by rw [hc,List.take_of_length_le (by simp [hs])]⟩⟩,rfl,fun i e' x' he hx'=>?_⟩
 have hi:i=0:=by
  cases i with
  | zero=>rfl
  | succ i=>simp at he
 subst hi
 simp at he hx'
 subst he;subst hx'
 exact E.mono (fun k _ h=>⟨h.1,fun e=>h.2 (by simpa [Value.ownBlock] using e.symm)⟩) hx
section
variable {n:Nw}
theorem Nw.lap_add (θ φ:Nat->Rat) (b:Nat):n.lap (fun c=>θ c+φ c) b=n.lap θ b+n.lap φ b:=by
 unfold Nw.lap Nw.off
 rw [<-Af8]
 refine A5 fun k _=>?_
 unfold Nw.fl;grind
theorem Nw.lap_smul (θ:Nat->Rat) (y:Rat) (b:Nat):n.lap (fun c=>θ c*y) b=n.lap θ b*y:=by
 unfold Nw.lap Nw.off
 rw [<-S4]
 refine A5 fun k _=>?_
 unfold Nw.fl;grind
theorem Nw.lap_zero (b:Nat):n.lap (fun _=>0) b=0:=by
 unfold Nw.lap Nw.off
 refine F4 fun k _=>?_
 unfold Nw.fl;grind
theorem Nw.lap_lin (t:Nat->Nat->Rat) (y:Nat->Rat) (i:Nat):∀ m,n.lap (fun c=>sumN m fun b=>t b c*y b) i=sumN m fun b=>n.lap (t b) i*y b
 | 0=>Nw.lap_zero i
 | m+1=>by
  show n.lap (fun c=>(sumN m fun b=>t b c*y b)+t m c*y m) i=(sumN m fun b=>n.lap (t b) i*y b)+n.lap (t m) i*y m
  rw [Nw.lap_add,Nw.lap_lin t y i m,Nw.lap_smul]
def Nw.inj0 (n:Nw) (x:Nat->Rat) (b:Nat):Rat:=if n.root b=b then 0 else x b
def Nw.an (n:Nw) (x:Nat->Rat) (c:Nat):Rat:=sumN n.B fun b=>n.th b c*n.inj0 x b
theorem Nw.an_eq (ok:n.Ok) (x:Nat->Rat) {i:Nat} (hi:i<n.B):(if n.root i=i then n.an x i else n.lap (n.an x) i)=n.inj0 x i:=by
 have hB:1<=n.B:=by omega
 have key:∀ b,b<n.B->(if n.root i=i then n.th b i else n.lap (n.th b) i)=dl i b:=fun b hb=>Go.Proofs.YtggegpiffjbngaaGreat.th_eq ok hB hb hi
 by_cases hr:n.root i=i
 ·rw [if_pos hr]
  unfold Nw.an
  rw [<-Af7 (n.inj0 x) hi]
  refine A5 fun b hb=>?_
  have:=key b hb
  rw [if_pos hr] at this
  rw [this,Rat.mul_comm]
 ·rw [if_neg hr]
  unfold Nw.an
  rw [Nw.lap_lin,<-Af7 (n.inj0 x) hi]
  refine A5 fun b hb=>?_
  have:=key b hb
  rw [if_neg hr] at this
  rw [this,Rat.mul_comm]
def Nw.bal (n:Nw) (x:Nat->Rat):Prop:=∀ r,r<n.B->n.root r=r->sumN n.B (fun b=>if n.root b=r then x b else 0)=0
theorem Nw.bal_lab (x:Nat->Rat):n.bal x<->∀ j,j<n.B->sumN n.B (fun b=>if n.lab b=j then x b else 0)=0:=by
 have key:∀ r,r<n.B->n.root r=r->sumN n.B (fun b=>if n.lab b=n.lab r then x b else 0)=sumN n.B (fun b=>if n.root b=r then x b else 0):=fun r hr hrr=>A5 fun b hb=>by
  by_cases h:n.root b=r
  ·rw [if_pos h,if_pos ((Nw.lab_eq hb hr).2 (h.trans hrr.symm))]
  ·rw [if_neg h,if_neg fun h'=>h (((Nw.lab_eq hb hr).1 h').trans hrr)]
 constructor
 ·intro h j hj
  by_cases hex:∃ b,b<n.B/\n.lab b=j
  ·obtain ⟨b,hb,rfl⟩:=hex
   have hrb:n.root b<n.B:=Nat.lt_of_le_of_lt (Nw.root_le b) hb
   rw [n.lab_of b,key _ hrb (Nw.root_root b)]
   exact h _ hrb (Nw.root_root b)
  ·exact F4 fun b hb=>by rw [if_neg fun h=>hex ⟨b,hb,h⟩]
 ·intro h r hr hrr
  rw [<-key r hr hrr]
  exact h _ (Nat.lt_of_le_of_lt (n.lab_le r) hr)
theorem Nw.bal_congr {x y:Nat->Rat} (h:∀ b,b<n.B->x b=y b):n.bal x<->n.bal y:=by
 unfold Nw.bal
 have:∀ r,sumN n.B (fun b=>if n.root b=r then x b else 0)=sumN n.B (fun b=>if n.root b=r then y b else 0):=fun r=>A5 fun b hb=>by rw [h b hb]
 simp only [this]
def Nw.bl (n:Nw) (x:Nat->Rat) (b:Nat):Rat:=if n.root b=b then-sumN n.B (fun c=>if c≠b/\n.root c=b then x c else 0) else x b
end
end Go.Kx
namespace Go.Proofs.YtggegpiffjbngaaGreat
open Go Go.Kx Go.RowKit
theorem uni_dl (b c:Nat):uni ((b:Nat):Int) c=dl b c:=by
 unfold uni dl
 by_cases h:b=c
 ·rw [if_pos (by omega),if_pos h]
 ·rw [if_neg (by omega),if_neg h]
theorem bd6 (L:Nat):bd L 6=4096*L+1365:=by
 simp only [bd];omega
theorem rv_sum {x:List QV} {B:Nat} (hx:x.length<=B) (p:Nat->Prop) [DecidablePred p]:sumN x.length (fun b=>if p b then rv x b else 0)=sumN B (fun b=>if p b then rv x b else 0):=by
 obtain ⟨d,rfl⟩:∃ d,B=x.length+d:=⟨B-x.length,by omega⟩
 clear hx
 induction d with
 | zero=>rfl
 | succ d ih =>
  rw [ih]
  show _=sumN (x.length+d) _+(if p (x.length+d) then rv x (x.length+d) else 0)
  rw [AP9 (show x.length<=x.length+d by omega),ite_self,Rat.add_zero]
theorem AI5:Ent Tryz.prog 32:=A0 Tryz.func32 (by kernel_rfl) rfl
open Classical in
set_option maxRecDepth 8000 in
theorem AI3 {S:Nat->Prop} {w:World} {vn vo vx:Value} {n:NtV} {o:List Int} {x:List QV} {L:Nat} (up:Up S w) (hn:eN.R S w vn n) (ho:eI.R S w vo o) (hx:eV.R S w vx x) (hkx:vk L x) (hL1:1<=L) (hL:L<=1000000) :
  CR Tryz.prog 32 #[vn,vo,vx] w (Two (Is (.bool (decide (sfE n o x.length=0/\(nwOf n o).bal (rv x))))) (Is (.int .i64 (sfE n o x.length)))):=by
 obtain ⟨s,rfl,hs,hb⟩:=hn
 have hn:eN.R S w (.agg #[.int .i64 n.b,s]) n:=⟨s,rfl,hs,hb⟩
 refine enter Tryz.func32 O Tryz.ntmps32 O (.beg (.go O (.box O O fun w1 b3 n1=>?_)))
 obtain ⟨e1,k3,hb3,hs1⟩:=n1
 refine .go O (.ldA ty_N O O k3 O (.go O ?_))
 refine .call _ O Ab8 O (Aa5 (up.ext e1.size) (hn.ext e1) (ho.ext e1)) fun v2 w2 e2 h2=>?_
 obtain ⟨vl,ve,rfl,hl,he⟩:=h2
 replace he:ve=.int .i64 (outE n o):=he
 subst he
 have x2:=e1.trans e2
 refine .go O ?_
 by_cases hE:outE n o=0
 rotate_left
 ·have hb:sfE n o x.length=outE n o:=by unfold sfE;rw [if_pos hE]
  refine .neqT O O O hE (.goE O ?_)
  refine .plain [_,_] Tryz.results32 ⟨rfl,rfl,trivial⟩ ⟨x2,_,_,rfl,?_,by rw [hb]⟩
  rw [decide_eq_false fun h=>hE (hb.symm.trans h.1)]
 have ok:=V4 hE
 rw [if_pos hE] at hl
 have hB6:=ok.b6
 have hB1:=ok.b1
 have hnb:=ok.b
 have k3:=k3.ext e2
 rw [hnb] at k3
 obtain ⟨_,_,_,_,hxl⟩:=RL.len hx
 refine .neqF O O O hE (.go O (.lenR un_V O O (hx.ext x2) (.go O (.fa E9 O O (.ld A4 O O k3 O ?_)))))
 by_cases hlen:(x.length:Int)<=n.b
 rotate_left
 ·have hb:sfE n o x.length=5:=by unfold sfE;rw [if_neg (by simpa using hE),if_neg hlen]
  refine .gtrT O O O (by omega) (.goE O ?_)
  refine .plain [_,_] Tryz.results32 ⟨rfl,rfl,trivial⟩ ⟨x2,_,_,rfl,?_,by rw [hb]⟩
  rw [decide_eq_false fun h=>by rw [hb] at h;exact absurd h.1 (by decide)]
 have hno:sfE n o x.length=0:=by unfold sfE;rw [if_neg (by simpa using hE),if_pos hlen]
 have hxB:x.length<=(nwOf n o).B:=by omega
 refine .gtrF O O O (by omega) (.go O (.fa E9 O O (.ld A4 O O k3 O ?_)))
 refine .make_ _ _ un_V H0 O (by decide) O O O (Nat.le_refl _) (by omega) (by omega) fun w3 h n3=>?_
 have f3:FB eQ 54 S w3 h (List.replicate (nwOf n o).B q0):=FB.made n3 zq_R
 obtain ⟨e3,_,hh,hs3⟩:=n3
 rw [<-Af5] at f3
 have hs2:=x2.size
 have hx2:=hx.ext x2
 have hxT:eV.R (fun k=>S k/\k≠h) w2 vx x:=eV.mono (fun k _ h=>⟨h.1,by have:=h.2;omega⟩) (ER.lt eV hx2)
 refine .go O (.lenR un_V O O (ER.ext eV hx2 e3) ?_)
 generalize hu:(fun i j=>sumN i fun b=>if (nwOf n o).lab b=j then rv x b else 0)=u
 refine .goC O (.lp (α:=Nat) [8,10,32,33] O (fun i=>[(34,.int .i64 (i:Nat))]) (fun i W=>Ext w2 W/\i<=x.length/\FB eQ 54 S W h (tab (nwOf n o).B (u i))) (fun i=>x.length-i) 0 (lc1 O) ⟨e3,Nat.zero_le _,by rw [<-hu];exact f3⟩ ?_)
 rintro i W ⟨hW,hi,fb⟩
 have hWs:=hW.size
 have hhl:=fb.lt
 refine .go O ?_
 rcases Nat.lt_or_ge i x.length with hlt | hge
 rotate_left
 ·have:i=x.length:=by omega
  subst this
  have hsum:∀ j,u x.length j=sumN (nwOf n o).B fun b=>if (nwOf n o).lab b=j then rv x b else 0:=fun j=>by rw [<-hu];exact rv_sum hxB _
  have hbal:(nwOf n o).bal (rv x)<->∀ j,j<(nwOf n o).B->u x.length j=0:=by
   rw [Nw.bal_lab]
   simp only [hsum]
  have hR:eV.R S W (slB (nwOf n o).B h) (tab (nwOf n o).B (u x.length)):=by
   have:=fb.toR (hsz:=by decide) (c:=(nwOf n o).B) (up h (by omega)) (by rw [A1];exact Nat.le_refl _) (by rw [A1];omega)
   rw [A1] at this
   exact this
  refine .lssF O O O (by omega) (.go O (.len un_V O O ?_))
  refine .goC O (.lp (α:=Nat) [55,56] O (fun j=>[(57,.int .i64 (j:Nat))]) (fun j W'=>Ext W W'/\j<=(nwOf n o).B/\∀ j',j'<j->u x.length j'=0) (fun j=>(nwOf n o).B-j) 0 (lc1 O) ⟨Ext.refl _,Nat.zero_le _,fun _ h=>absurd h (by omega)⟩ ?_)
  rintro j W' ⟨hW',hj,hz⟩
  refine .go O ?_
  rcases Nat.lt_or_ge j (nwOf n o).B with hjl | hge
  rotate_left
  ·refine .lssF O O O (by omega) (.goE O ?_)
   refine .plain [_,_] Tryz.results32 ⟨rfl,rfl,trivial⟩ ⟨x2.trans (hW.trans hW'),_,_,rfl,?_,by rw [hno]⟩
   rw [decide_eq_true ⟨hno,hbal.2 fun j' hj'=>hz j' (by omega)⟩]
  refine .lssT O O O (by omega) (.go O (.ixN (i:=j) un_V ty_Q O O (ER.ext eV hR hW') O (K0 hjl) fun q hq=>.ldE (E:=eQ) ty_Q O O hq fun y hy=>.alloc O C5 fun W2 b14 n2=>?_))
  obtain ⟨e4,k14,hb14,hs4⟩:=n2
  refine .storeA (E:=eQ) (S:=fun k=>S k/\k<W'.heap.size) ty_Q O O k14 O O (ER.ext eQ (ER.lt eQ hy) e4) (fun h=>by have:=h.2;omega) fun W3 k14 u3 hy=>?_
  have hyv:=shpA (E:=eQ) O hy
  refine .go O (.ldA ty_Q O O k14 (eQ.csz hy) ?_)
  rw [<-hyv]
  refine .call _ O AC4 O (AB6 hy) fun v4 W4 e5 h4=>?_
  subst h4
  rw [C1]
  have x4:Ext W W4:=hW'.trans (Ext.trans (u3.below e4 (by omega)) e5)
  by_cases h0:u x.length j=0
  ·rw [h0]
   refine .neqF O O O (by decide) (.go O (.inc O O O (by omega) (.goN O (.mk (j+1) O (lc1 O) ⟨⟨x4,hjl,fun j' hj'=>?_⟩,by show (nwOf n o).B-(j+1)<(nwOf n o).B-j;omega⟩))))
   by_cases e:j'=j
   ·rw [e];exact h0
   ·exact hz j' (by omega)
  ·refine .neqT O O O (fun h=>h0 (Z5.1 h)) (.goE O ?_)
   refine .plain [_,_] Tryz.results32 ⟨rfl,rfl,trivial⟩ ⟨x2.trans (hW.trans x4),_,_,rfl,?_,by rw [hno]⟩
   rw [decide_eq_false fun h=>h0 (hbal.1 h.2 j hjl)]
 have hib:i<(nwOf n o).B:=by omega
 have hlab:(nwOf n o).lab i<(nwOf n o).B:=Nat.lt_of_le_of_lt ((nwOf n o).lab_le i) hib
 have hxi:x[i]?=some (x.getD i q0):=A6 hlt
 have hqi:=hkx.get hL1 i
 have hus:∀ i,i<=6->∀ j,Rsz (u i j) (1+6*(L+1)):=fun i hi j=>by
  rw [<-hu]
  refine (AT0 (L:=L) fun b _=>?_).mono (by have:=Nat.mul_le_mul_right (L+1) hi;omega)
  split
  ·exact hkx.rsz hL1 b
  ·exact Rsz.zero hL1
 refine .lssT O O O (by omega) (.go O (.ixN (i:=i) un_V ty_Q O O (ER.ext eV hxT hW) O hxi fun q hq=>.ldE (E:=eQ) ty_Q O O hq fun y hy=>.alloc O C5 fun W1 b12 n1'=>.go O ?_))
 obtain ⟨g1,k12,hb12,hs1'⟩:=n1'
 refine .storeA (E:=eQ) (S:=fun k=>(S k/\k≠h)/\k<W.heap.size) ty_Q O O k12 O O (ER.ext eQ (ER.lt eQ hy) g1) (fun h=>by have:=h.2;omega) fun W2 k12 u2 hy=>?_
 have hs2':=u2.size
 have fb:=fb.new g1 u2 (by omega)
 have hW2:Ext w2 W2:=u2.below (hW.trans g1) (by omega)
 have hyv:=shpA (E:=eQ) O hy
 have hy:eQ.R (fun k=>S k/\k≠h) W2 y _:=eQ.mono (fun _ _ h=>h.1) hy
 have upT:∀ {W':World},W2.heap.size<=W'.heap.size->Up (fun k=>S k/\k≠h) W':=fun hs k' hk'=>⟨up k' (by omega),by omega⟩
 refine .goC O ?_
 refine .par follows 14 [.inl (slB (nwOf n o).B h),.inl vl,.inl (.int .i64 (i:Nat)),.inr (Ptr (eInt .i64) S (((nwOf n o).lab i):Nat)),.inl (.int .i64 (((nwOf n o).lab i):Nat)),.inl (slB (nwOf n o).B h),.inl vl,.inl (.int .i64 (i:Nat)),.inr (Ptr (eInt .i64) S (((nwOf n o).lab i):Nat)),.inl (.int .i64 (((nwOf n o).lab i):Nat)),.inl (.pointer (some ⟨h,0+((nwOf n o).lab i)*4,none⟩)),.inr (eQ.at (fun k=>S k/\k≠h) (qc (u i ((nwOf n o).lab i)))),.inl y,.inr (eQ.at (fun k=>S k/\k≠h) (qc (u i ((nwOf n o).lab i)+rv x i)))] [[],[],[],[(40,1),(41,2)],[(42,3)],[],[],[],[(45,6),(46,7)],[(47,8)],[(44,5),(48,9)],[(49,10)],[],[(50,11),(51,12)]] (by kernel_rfl) ⟨
  fun w e=>(v_mv O).ob,
  fun w e=>(v_mv O).ob,
  fun w e=>(v_mv O).ob,
  fun w e=>B7 (i:=i) un_I B6 O (ER.ext eI (ER.ext eI hl hW2) e) O (AE4 hib),
  fun w e x3 hx3=>H7 B6 O hx3,
  fun w e=>(v_mv O).ob,
  fun w e=>(v_mv O).ob,
  fun w e=>(v_mv O).ob,
  fun w e=>B7 (i:=i) un_I B6 O (ER.ext eI (ER.ext eI hl hW2) e) O (AE4 hib),
  fun w e x8 hx8=>H7 B6 O hx8,
  fun w e=>(J9 (i:=((nwOf n o).lab i)) un_V ty_Q O O hlab).ob,
  fun w e=>AQ4 (E:=eQ) (i:=((nwOf n o).lab i)) (by decide) ty_Q O (Nat.zero_add _) (fb.ext e) (K0 hlab),
  fun w e=>((B9 ty_Q O (k12.ext e) (eQ.csz hy)).eq hyv.symm).ob,
  fun w e x11 hx11=>by
   have:=AQ8 (L:=1+6*(L+1)) (upT e.size) hx11 (ER.ext eQ hy e) (hus i (by omega) _).toOk (hqi.1.mono (by omega)) (by omega) (by omega)
   rw [C1] at this
   exact (A2 _ AS0 O this).ob (A3 _ _ _),trivial⟩ ?_
 intro X0 g0 _ _ _ _ _ _ y0 hy0
 have sx0:=g0.size
 refine .ixB (i:=(nwOf n o).lab i) un_V ty_Q O O O hlab (.storeF (E:=eQ) (i:=(nwOf n o).lab i) (by decide) ty_Q O O (fb.ext g0) O (by rw [A1];exact hlab) (Nat.zero_add _) hy0 fun Y0 fy0 uy0=>?_)
 have hstep:(tab (nwOf n o).B (u i)).set ((nwOf n o).lab i) (qc (u i ((nwOf n o).lab i)+rv x i))=tab (nwOf n o).B (u (i+1)):=by
  rw [T8]
  refine D9 fun j _=>?_
  rw [<-hu]
  show _=sumN i _+_
  dsimp only
  by_cases e:j=(nwOf n o).lab i
  ·rw [if_pos e,if_pos e.symm,e]
  ·rw [if_neg e,if_neg (Ne.symm e)];grind
 rw [hstep] at fy0
 exact .go O (.inc O O O (by omega) (.goN O (.mk (i+1) O (lc1 O) ⟨⟨uy0.below (hW2.trans g0) (by omega),hlt,fy0⟩,by show x.length-(i+1)<x.length-i;omega⟩)))
open Classical in
noncomputable def anE (n:NtV) (o:List Int) (x:List QV):Int:=if sfE n o x.length≠0 then sfE n o x.length else if (nwOf n o).bal (rv x) then 0 else 10
theorem BW4 {n:NtV} {o:List Int} {x:List QV} (h:anE n o x=0):sfE n o x.length=0/\(nwOf n o).bal (rv x):=by
 unfold anE at h
 split at h
 ·exact absurd h (by assumption)
 ·split at h
  ·exact ⟨Classical.not_not.1 (by assumption),by assumption⟩
  ·cases h
theorem anE_of {n:NtV} {o:List Int} {x:List QV} (h:outE n o=0) (hx:(x.length:Int)<=n.b) (hb:(nwOf n o).bal (rv x)):anE n o x=0:=by
 have:sfE n o x.length=0:=by unfold sfE;rw [if_neg (by simpa using h),if_pos hx]
 unfold anE
 rw [if_neg (by simpa using this),if_pos hb]
theorem BW3 {n:NtV} {o:List Int} (ok:nwOk n o) {r x:List QV} (hr:r.length=(nwOf n o).B) (hx:∀ b,b<(nwOf n o).B->rv r b=(nwOf n o).inj0 (rv x) b):solvable (nwOf n o).gA r/\tab (nwOf n o).B (rv (solX (nwOf n o).gA r))=tab (nwOf n o).B ((nwOf n o).an (rv x)):=by
 have hs:solvable (nwOf n o).gA r:=BU2 (by rw [AG8 ok.b1,J3]) (BD8 ok.ok ok.b1) fun i hi=>AP9 (by rw [J3] at hi;omega)
 refine ⟨hs,D9 fun c hc=>?_⟩
 rw [<-inv_sol (by rw [AG8 ok.b1,J3]) (BD8 ok.ok ok.b1) hs (by rw [J3];exact hc),J3]
 unfold Nw.an
 refine A5 fun b hb=>?_
 rw [hx b hb];rfl
theorem At2 {n:NtV} {o:List Int} (ok:nwOk n o) {x:Nat->Rat} {L:Nat} (hL:1<=L) (hx:∀ b,Rsz (x b) L) (c:Nat):Rsz ((nwOf n o).an x c) (1+6*(87381+L+1)):=by
 unfold Nw.an
 refine (AT0 (L:=87381+L) fun b _=>(th_rsz ok b c).mul ?_).mono (by have:=Nat.mul_le_mul_right (87381+L+1) ok.b6;omega)
 unfold Nw.inj0
 split
 ·exact Rsz.zero hL
 ·exact hx b
theorem AD9:Ent Tryz.prog 33:=A0 Tryz.func33 (by kernel_rfl) rfl
open Classical in
set_option maxRecDepth 8000 in
theorem AO6 {S T0:Nat->Prop} {w:World} {vn vo vx:Value} {n:NtV} {o:List Int} {x:List QV} {L:Nat} (up:Up S w) (upo:Up T0 w) (hn:eN.R S w vn n) (ho:eI.R S w vo o) (hx:eV.R S w vx x) (hkx:vk L x) (hL1:1<=L) (hL:L<=9000) :
  CR Tryz.prog 33 #[vn,vo,vx] w (Two (eV.at T0 (if anE n o x=0 then tab (nwOf n o).B ((nwOf n o).an (rv x)) else [])) (Is (.int .i64 (anE n o x)))):=by
 obtain ⟨s,rfl,hs,hb⟩:=hn
 have hn:eN.R S w (.agg #[.int .i64 n.b,s]) n:=⟨s,rfl,hs,hb⟩
 refine enter Tryz.func33 O Tryz.ntmps33 O (.beg (.go O (.box O O fun w1 b3 n1=>?_)))
 obtain ⟨e1,k3,hb3,hs1⟩:=n1
 refine .go O (.ldA ty_N O O k3 O (.go O ?_))
 refine .call _ O AI5 O (AI3 (up.ext e1.size) (hn.ext e1) (ho.ext e1) (ER.ext eV hx e1) hkx hL1 (by omega)) fun v2 w2 e2 h2=>?_
 obtain ⟨vb,ve,rfl,rfl,rfl⟩:=h2
 have x2:=e1.trans e2
 refine .go O ?_
 by_cases hE:sfE n o x.length=0
 rotate_left
 ·have hb:anE n o x=sfE n o x.length:=by unfold anE;rw [if_pos hE]
  refine .neqT O O O hE (.goE O ?_)
  refine .plain [_,_] Tryz.results33 ⟨rfl,rfl,trivial⟩ ⟨x2,_,_,rfl,?_,by rw [hb]⟩
  rw [if_neg (by rw [hb];exact hE)];exact RL.nil
 by_cases hB:(nwOf n o).bal (rv x)
 rotate_left
 ·have hb:anE n o x=10:=by unfold anE;rw [if_neg (by simpa using hE),if_neg hB]
  rw [decide_eq_false fun h=>hB h.2]
  refine .neqF O O O hE (.goE O ?_)
  refine .plain [_,_] Tryz.results33 ⟨rfl,rfl,trivial⟩ ⟨x2,_,_,rfl,?_,by rw [hb]⟩
  rw [if_neg (by rw [hb];decide)];exact RL.nil
 have hno:anE n o x=0:=by unfold anE;rw [if_neg (by simpa using hE),if_pos hB]
 rw [decide_eq_true ⟨hE,hB⟩,if_pos hno]
 obtain ⟨hO,hxb⟩:=Aq1 hE
 have ok:=V4 hO
 have hB6:=ok.b6
 have hB1:=ok.b1
 have hnb:=ok.b
 refine .neqF O O O hE (.go O (.ldA ty_N O O (k3.ext e2) O (.go O ?_)))
 refine .call _ O AY4 O (AX4 (up.ext x2.size) (hn.ext x2) (ho.ext x2)) fun v4 w4 e4 h4=>?_
 obtain ⟨vm,ve,rfl,hm,rfl⟩:=h4
 rw [if_pos hO] at hm
 obtain ⟨gb,hs0,rfl,hgb,hge,hM⟩:=hm
 have x4:=x2.trans e4
 have hs2:=x2.size
 have hs4:=e4.size
 have hglt:=hM.out.lt
 have hk3:=k3.lt
 have hF:FB eV 32 S w4 gb (tabM (nwOf n o).B (nwOf n o).B (nwOf n o).Lm):=hM.toFB (fun k hk=>up k (by have:=hge k hk;omega)) (by omega)
 have old:∀ {α:Type} (E:ER α) {v:Value} {y:α},E.R S w v y->E.R (fun k=>S k/\k≠gb) w4 v y:=fun E v y h=>E.mono (fun k _ h=>⟨h.1,by have:=h.2;omega⟩) (ER.ext E (ER.lt E h) x4)
 have k3:=k3.ext (e2.trans e4)
 refine .go O (.neqF O O O hO (.go O (.ldA ty_N O O k3 O (.go O ?_))))
 refine .call _ O Am7 O (Al4 (S:=fun k=>S k/\k≠gb) (fun k hk=>⟨up k (by omega),by omega⟩) (old eN hn) (old eI ho)) fun v5 w5 e5 h5=>?_
 obtain ⟨vr,ve,rfl,hr,he⟩:=h5
 replace he:ve=.int .i64 0:=by rw [he,hO]
 subst he
 rw [if_pos hO] at hr
 have hs5:=e5.size
 have k3:=k3.ext e5
 refine .go O (.neqF O O O O (.go O (.fa E9 O O (.ld A4 O O k3 O ?_))))
 rw [hnb]
 refine .call _ O Y7 O (AF8 (S:=fun k=>S k/\k≠gb) (fun k hk=>⟨up k (by omega),by omega⟩) (ER.ext eV (old eV hx) e5) hkx hL1 (by omega)) fun v6 w6 e6 h6=>?_
 obtain ⟨h6,_⟩ | ⟨_,gr,N6,hN6,hgr,rfl,fr⟩:=h6
 ·omega
 have hNB:N6=(nwOf n o).B:=by omega
 subst hNB
 have hs6:=e6.size
 have hgrl:=fr.lt
 have x6:=x4.trans (e5.trans e6)
 have k3:=k3.ext e6
 have hF:FB eV 32 (fun k=>S k/\k≠gr) w6 gb (tabM (nwOf n o).B (nwOf n o).B (nwOf n o).Lm):=(hF.mono (S':=fun k=>S k/\k≠gr) fun k hk h=>⟨h,by omega⟩).ext (e5.trans e6)
 have hr:eI.R (fun k=>(S k/\k≠gb)/\k≠gr) w6 vr (pInts (nwOf n o).refs):=ER.ext eI (eI.mono (fun k _ h=>⟨h.1,by have:=h.2;omega⟩) (ER.lt eI hr)) e6
 have hrW:∀ {W:World},Chg (fun k=>k=gb\/k=gr) w6 W->eI.R (fun k=>(S k/\k≠gb)/\k≠gr) W vr (pInts (nwOf n o).refs):=fun hC=>eI.keep (hC.kp fun k hk h=>h.elim (fun e=>hk.1.2 e) fun e=>hk.2 e) hr
 have hkW:∀ {W:World},Chg (fun k=>k=gb\/k=gr) w6 W->Blk W b3 24 #[.int .i64 n.b,s]:=fun hC=>hC.blk k3 fun h=>by have:=hb3;have:=e2.size;rcases h with h | h<;>omega
 rw [hnb] at hkW
 have hrl:(nwOf n o).refs.length<=(nwOf n o).B:=(nwOf n o).cnt_le (nwOf n o).B
 refine .go O (.lenR un_I O O hr ?_)
 rw [show (pInts (nwOf n o).refs).length=(nwOf n o).refs.length by simp]
 generalize hG:(fun i=>fun b c=>if b∈(nwOf n o).refs.take i then dl b c else (nwOf n o).Lm b c:Nat->RM)=G
 generalize hY:(fun i=>fun b=>if b∈(nwOf n o).refs.take i then 0 else rv x b:Nat->Nat->Rat)=Y
 refine .goC O (.lp (α:=Nat) [3,9,10,12,51,52] O (fun i=>[(53,.int .i64 (i:Nat))]) (fun i W=>i<=(nwOf n o).refs.length/\Chg (fun k=>k=gb\/k=gr) w6 W/\FB eV 32 (fun k=>S k/\k≠gr) W gb (tabM (nwOf n o).B (nwOf n o).B (G i))/\FB eQ 54 (fun k=>S k/\k≠gb) W gr (tab (nwOf n o).B (Y i))) (fun i=>(nwOf n o).refs.length-i) 0 (lc1 O) ⟨Nat.zero_le _,Chg.refl _,by rw [<-hG];simpa using hF,by rw [<-hY];simpa using fr⟩ ?_)
 clear hF fr
 rintro i W ⟨hi,hC,hF,fr⟩
 have hCs:=hC.size
 refine .go O ?_
 rcases Nat.lt_or_ge i (nwOf n o).refs.length with hlt | hge
 rotate_left
 ·have:i=(nwOf n o).refs.length:=by omega
  subst this
  have hmem:∀ b,b<(nwOf n o).B->(b∈(nwOf n o).refs.take (nwOf n o).refs.length<->(nwOf n o).root b=b):=fun b hb=>by
   rw [List.take_of_length_le (Nat.le_refl _),Nw.mem_refs]
   exact ⟨fun h=>h.2,fun h=>⟨hb,h⟩⟩
  have hA:tabM (nwOf n o).B (nwOf n o).B (G (nwOf n o).refs.length)=(nwOf n o).gA:=C8 fun b c hb _=>by
   rw [<-hG]
   unfold Nw.gm
   dsimp only
   by_cases h:(nwOf n o).root b=b
   ·rw [if_pos h,if_pos ((hmem b hb).2 h)]
   ·rw [if_neg h,if_neg fun h'=>h ((hmem b hb).1 h')]
  rw [hA] at hF
  have hRm:eM.R S W (slB (nwOf n o).B gb) (nwOf n o).gA:=by
   have:=(hF.mono (S':=S) fun k _ h=>h.1).toR (hsz:=by decide) (c:=(nwOf n o).B) (up gb (by omega)) (by rw [J3];exact Nat.le_refl _) (by rw [J3];omega)
   rw [J3] at this
   exact this
  have hRr:eV.R S W (slB (nwOf n o).B gr) (tab (nwOf n o).B (Y (nwOf n o).refs.length)):=by
   have:=(fr.mono (S':=S) fun k _ h=>h.1).toR (hsz:=by decide) (c:=(nwOf n o).B) (up gr (by omega)) (by rw [A1];exact Nat.le_refl _) (by rw [A1];omega)
   rw [A1] at this
   exact this
  have hxW:Ext w W:=hC.below x6 (by omega) (fun k hk=>by omega)
  obtain ⟨hsv,hsol⟩:=BW3 ok (r:=tab (nwOf n o).B (Y (nwOf n o).refs.length)) (x:=x) (A1 ..) fun b hb=>by
   rw [H9,if_pos hb,<-hY]
   unfold Nw.inj0
   dsimp only
   by_cases h:(nwOf n o).root b=b
   ·rw [if_pos h,if_pos ((hmem b hb).2 h)]
   ·rw [if_neg h,if_neg fun h'=>h ((hmem b hb).1 h')]
  have hkY:vk (max 21 L) (tab (nwOf n o).B (Y (nwOf n o).refs.length)):=O5 fun b _=>by
   rw [<-hY]
   dsimp only
   split
   ·exact Rsz.zero (by omega)
   ·exact (hkx.rsz hL1 b).mono (by omega)
  refine .lssF O O O (by omega) (.go O ?_)
  refine .call _ O Al8 O (Ak4 (L:=max 21 L) (n:=6) (up.ext hxW.size) hRm hRr ((BV3 ok).mono (by omega)) hkY (by omega) (by rw [J3];omega) (by rw [A1];omega) (by rw [AG8 hB1];omega) (by rw [J3,A1];omega) (by rw [bd6];omega)) fun v7 w7 e7 h7=>?_
  obtain ⟨va,vz,ve,rfl,ha,_,rfl⟩:=h7
  rw [if_pos hsv] at ha
  rw [if_pos hsv]
  have k3W:=(hkW hC).ext e7
  have hka:vk 600000 (solX (nwOf n o).gA (tab (nwOf n o).B (Y (nwOf n o).refs.length))):=by
   have h1:solX (nwOf n o).gA (tab (nwOf n o).B (Y (nwOf n o).refs.length))=tab (nwOf n o).B (rv (solX (nwOf n o).gA (tab (nwOf n o).B (Y (nwOf n o).refs.length)))):=by
    unfold solX
    rw [AG8 hB1]
    exact D9 fun k hk=>by rw [H9,if_pos hk]
   rw [h1,hsol]
   exact O5 fun c _=>(At2 ok hL1 (fun b=>hkx.rsz hL1 b) c).mono (by omega)
  refine .go O (.neqF O O O O (.go O (.fa E9 O O (.ld A4 O O k3W O ?_))))
  refine .call _ O Y7 O (AS3 (up.ext (hxW.trans e7).size) (upo.ext (hxW.trans e7).size) ha hka (by decide) (by decide)) fun v8 w8 e8 h8=>.goE O ?_
  have h8:=BR7 (B:=(nwOf n o).B) h8 (upo.ext (hxW.trans e7).size) hB1 (by omega)
  rw [hsol] at h8
  exact .plain [_,_] Tryz.results33 ⟨rfl,rfl,trivial⟩ ⟨(hxW.trans e7).trans e8,_,_,rfl,h8,by rw [hno]⟩
 have hgr':(pInts (nwOf n o).refs)[i]?=some (((nwOf n o).refs.getD i 0:Nat):Int):=by rw [List.getElem?_map,A6 (z:=0) hlt];rfl
 have hrB:(nwOf n o).refs.getD i 0<(nwOf n o).B:=(Nw.mem_refs.1 (L5 hlt)).1
 have htk:(nwOf n o).refs.take (i+1)=(nwOf n o).refs.take i++[(nwOf n o).refs.getD i 0]:=by rw [List.take_add_one,A6 (z:=0) hlt];rfl
 refine .lssT O O O (by omega) (.go O (.ixN (i:=i) un_I B6 O O (hrW hC) O hgr' fun q hq=>.ldE (E:=eInt .i64) B6 O O hq fun e he=>?_))
 obtain ⟨rfl,_⟩:=he
 generalize hb0:(nwOf n o).refs.getD i 0=b at hrB htk
 refine .go O (.fa E9 O O (.ld A4 O O (hkW hC) O (.go O ?_)))
 refine .call _ O BF8 O (BB8 (S:=fun k=>(S k/\k≠gr)/\k≠gb) fun k hk=>⟨⟨up k (by omega),by omega⟩,by omega⟩) fun v7 W1 e7 h7=>?_
 rw [show (min (((nwOf n o).B:Nat):Int) 65536).toNat=(nwOf n o).B by omega] at h7
 have hs7:=e7.size
 refine .go O (.ixB (i:=b) un_M ty_V O O O hrB (.storeF (E:=eV) (i:=b) (by decide) ty_V O O (hF.ext e7) O (by rw [A9];exact hrB) (Nat.zero_add _) h7 fun W2 f2 u2=>?_))
 have hs2':=u2.size
 have fr:=(fr.ext e7).upd u2 (by omega) fun h=>h.2 rfl
 refine .go O (.bld _ O O S8 (.ixB (i:=b) un_V ty_Q O O O hrB (.storeF (E:=eQ) (i:=b) (by decide) ty_Q O O fr O (by rw [A1];exact hrB) (Nat.zero_add _) (zq_R (S:=fun k=>(S k/\k≠gb)/\k≠gr)) fun W3 f3 u3=>?_)))
 have f2:=f2.upd u3 (by omega) fun h=>h.2 rfl
 rw [M6 hrB] at f2
 rw [<-N2,T8] at f3
 have hm:∀ b',b'∈(nwOf n o).refs.take (i+1)<->b'∈(nwOf n o).refs.take i\/b'=b:=fun b'=>by rw [htk,List.mem_append,List.mem_singleton]
 have hs1:tabM (nwOf n o).B (nwOf n o).B (fun j k=>if j=b then uni (b:Nat) k else G i j k)=tabM (nwOf n o).B (nwOf n o).B (G (i+1)):=C8 fun j c _ _=>by
  rw [<-hG]
  dsimp only
  by_cases e:j=b
  ·rw [if_pos e,if_pos ((hm j).2 (.inr e)),e,uni_dl]
  ·rw [if_neg e]
   by_cases h:j∈(nwOf n o).refs.take i
   ·rw [if_pos h,if_pos ((hm j).2 (.inl h))]
   ·rw [if_neg h,if_neg fun h'=>((hm j).1 h').elim h e]
 have hs2:(tab (nwOf n o).B fun j=>if j=b then 0 else Y i j)=tab (nwOf n o).B (Y (i+1)):=D9 fun j _=>by
  rw [<-hY]
  dsimp only
  by_cases e:j=b
  ·rw [if_pos e,if_pos ((hm j).2 (.inr e))]
  ·rw [if_neg e]
   by_cases h:j∈(nwOf n o).refs.take i
   ·rw [if_pos h,if_pos ((hm j).2 (.inl h))]
   ·rw [if_neg h,if_neg fun h'=>((hm j).1 h').elim h e]
 rw [hs1] at f2
 rw [hs2] at f3
 exact .go O (.inc O O O (by omega) (.goN O (.mk (i+1) O (lc1 O) ⟨⟨hlt,((hC.trans (Chg.ext e7)).trans (Chg.upd u2 (.inl O))).trans (Chg.upd u3 (.inr O)),f2,f3⟩,by show (nwOf n o).refs.length-(i+1)<(nwOf n o).refs.length-i;omega⟩)))
theorem AO7 {S:Nat->Prop} {w:World} {vn vo vx:Value} {n:NtV} {o:List Int} {x:List QV} {L:Nat} (up:Up S w) (hn:eN.R S w vn n) (ho:eI.R S w vo o) (hx:eV.R S w vx x) (hkx:vk L x) (hL1:1<=L) (hL:L<=9000) :
  CR Tryz.prog 33 #[vn,vo,vx] w (Two (eV.at S (if anE n o x=0 then tab (nwOf n o).B ((nwOf n o).an (rv x)) else [])) (Is (.int .i64 (anE n o x)))):=AO6 up up hn ho hx hkx hL1 hL
theorem AH8:Ent Tryz.prog 34:=A0 Tryz.func34 (by kernel_rfl) rfl
theorem AU7 {S T0:Nat->Prop} {w:World} {vn vo vx:Value} {n:NtV} {o:List Int} {x:List QV} {L:Nat} (up:Up S w) (upo:Up T0 w) (hn:eN.R S w vn n) (ho:eI.R S w vo o) (hx:eV.R S w vx x) (hkx:vk L x) (hL1:1<=L) (hL:L<=9000) :
  CR Tryz.prog 34 #[vn,vo,vx] w (Two (eV.at T0 (if anE n o x=0 then tab n.ls.length ((nwOf n o).fl ((nwOf n o).an (rv x))) else [])) (Is (.int .i64 (anE n o x)))):=by
 obtain ⟨s,rfl,hs,hb⟩:=hn
 have hn:eN.R S w (.agg #[.int .i64 n.b,s]) n:=⟨s,rfl,hs,hb⟩
 refine enter Tryz.func34 O Tryz.ntmps34 O (.beg (.go O (.box O O fun w1 b3 n1=>?_)))
 obtain ⟨e1,k3,hb3,hs1⟩:=n1
 refine .go O (.ldA ty_N O O k3 O (.go O ?_))
 refine .call _ O AD9 O (AO7 (up.ext e1.size) (hn.ext e1) (ho.ext e1) (ER.ext eV hx e1) hkx hL1 hL) fun v2 w2 e2 h2=>?_
 obtain ⟨va,ve,rfl,ha,rfl⟩:=h2
 have x2:=e1.trans e2
 refine .go O ?_
 by_cases hE:anE n o x=0
 rotate_left
 ·refine .neqT O O O hE (.goE O ?_)
  refine .plain [_,_] Tryz.results34 ⟨rfl,rfl,trivial⟩ ⟨x2,_,_,rfl,?_,rfl⟩
  rw [if_neg hE];exact RL.nil
 rw [if_pos hE] at ha ⊢
 obtain ⟨hS,_⟩:=BW4 hE
 obtain ⟨hO,_⟩:=Aq1 hS
 have ok:=V4 hO
 have hB6:=ok.b6
 have hnb:=ok.b
 have hka:vk 600000 (tab (nwOf n o).B ((nwOf n o).an (rv x))):=O5 fun c _=>(At2 ok hL1 (fun b=>hkx.rsz hL1 b) c).mono (by omega)
 refine .neqF O O O hE (.go O (.ldA ty_N O O (k3.ext e2) O (.go O ?_)))
 refine .call _ O AW1 O (AU6 (up.ext x2.size) (upo.ext x2.size) (hn.ext x2) (ho.ext x2) ha hka (by decide) (by decide)) fun v3 w3 e3 h3=>?_
 obtain ⟨vf,ve,rfl,hf,rfl⟩:=h3
 have hsf:sfE n o (tab (nwOf n o).B ((nwOf n o).an (rv x))).length=0:=by unfold sfE;rw [if_neg (by simpa using hO),if_pos (by rw [A1];omega)]
 rw [if_pos hsf] at hf
 rw [hsf]
 have hfl:tab n.ls.length ((nwOf n o).fl (rv (tab (nwOf n o).B ((nwOf n o).an (rv x)))))=tab n.ls.length ((nwOf n o).fl ((nwOf n o).an (rv x))):=D9 fun k hk=>by
  unfold Nw.fl
  rw [H9,H9,if_pos (ok.f k hk),if_pos (ok.t k hk)]
 rw [hfl] at hf
 exact .goE O (.plain [_,_] Tryz.results34 ⟨rfl,rfl,trivial⟩ ⟨x2.trans e3,_,_,rfl,hf,by rw [hE]⟩)
theorem AU8 {S:Nat->Prop} {w:World} {vn vo vx:Value} {n:NtV} {o:List Int} {x:List QV} {L:Nat} (up:Up S w) (hn:eN.R S w vn n) (ho:eI.R S w vo o) (hx:eV.R S w vx x) (hkx:vk L x) (hL1:1<=L) (hL:L<=9000) :
  CR Tryz.prog 34 #[vn,vo,vx] w (Two (eV.at S (if anE n o x=0 then tab n.ls.length ((nwOf n o).fl ((nwOf n o).an (rv x))) else [])) (Is (.int .i64 (anE n o x)))):=AU7 up up hn ho hx hkx hL1 hL
theorem Ax8 {w:World} {va vb:Value} {a b:List QV} (ha:eV.R (fun _=>True) w va a) (hb:eV.R (fun _=>True) w vb b) (h:a=b):CR Tryz.prog 22 #[va,vb] w (Is (.bool true)):=by
 have:=BC8 ha hb
 rwa [S5 h] at this
end Go.Proofs.YtggegpiffjbngaaGreat
namespace Go.Kx
open Go Go.RowKit
def net3:NtV:=⟨3,[⟨0,1,10,100⟩,⟨1,2,5,50⟩,⟨0,2,10,70⟩]⟩
def outsB (m:Nat) (o:List Int):Bool:=(List.range o.length).all fun i=>decide (0<=o.getD i 0) && decide (o.getD i 0<m) && (decide (i=0) || decide (o.getD (i-1) 0<o.getD i 0))
theorem BS7 {n:NtV} {o:List Int} (h:outsB n.ls.length o=true):outsOk n o:=by
 unfold outsB at h
 rw [List.all_eq_true] at h
 intro i hi
 have:=h i (List.mem_range.2 hi)
 simp only [Bool.and_eq_true,Bool.or_eq_true,decide_eq_true_eq] at this
 exact ⟨this.1.1,this.1.2,fun h0=>by rcases this.2 with h | h;omega;exact h⟩
def chkB (n:NtV):Bool:=decide (1<=n.b) && decide (n.b<=6) && decide (n.ls.length<=10) && n.ls.all fun l=>(List.range 5).all fun i=>ck i n.b l
theorem outE_of {n:NtV} {o:List Int} (h:chkB n=true) (ho:outsB n.ls.length o=true):outE n o=0:=by
 unfold chkB at h
 simp only [Bool.and_eq_true,decide_eq_true_eq,List.all_eq_true] at h
 obtain ⟨⟨⟨h1,h2⟩,h3⟩,h4⟩:=h
 have hc:chkE n=0:=by
  unfold chkE
  rw [if_neg (by omega),if_neg (by omega),if_pos]
  exact fun i _ l hl j hj=>h4 l (List.mem_iff_getElem?.2 ⟨i,hl⟩) j (List.mem_range.2 hj)
 unfold outE
 rw [if_neg (by simpa using hc),if_pos (BS7 ho)]
end Go.Kx
namespace Go.Proofs.YtggegpiffjbngaaGreat
open Go Go.Kx Go.RowKit
theorem un_II:Tryz.prog.underlying 47=some (.slice 25):=by kernel_rfl
theorem Au1:Ent Tryz.prog 15:=A0 Tryz.func15 (by kernel_rfl) rfl
theorem Ar8 {S:Nat->Prop} {w:World} {vn vl:Value} {n:NtV} {l:List (List Int)} (hn:eN.R S w vn n) (hl:eII.R S w vl l):CR Tryz.prog 15 #[vn,vl] w (fun v _=>∃ b,v=.bool b):=by
 obtain ⟨s,rfl,hs,_⟩:=hn
 obtain ⟨_,_,_,_,hll⟩:=RL.len hl
 refine enter Tryz.func15 O Tryz.ntmps15 O ?_
 refine .sr (.box O O fun w1 b2 n1=>.an O O (.seq (.sr (.an O O ?_))))
 obtain ⟨e1,k2,_,_⟩:=n1
 have hl:=hl.ext e1
 refine .block (.loop (α:=Nat) (fun i=>[(1,vl),(2,.pointer (some ⟨b2,0,none⟩)),(5,.int .i64 (i:Nat))]) (fun i W=>W=w1/\i<=l.length) (fun i=>l.length-i) 0 ?_ ?_ ?_)
 ·exact lkA rfl
 ·exact ⟨rfl,Nat.zero_le _⟩
 rintro i W ⟨rfl,hi⟩
 refine .seq (.sr (.mv O O (.mv O O (.lenR un_II O O hl ?_))))
 rcases Nat.lt_or_ge i l.length with hlt | hge
 rotate_left
 ·refine .lssF O O O (by omega) (.nil (.condF O (.exit (.sr (.fa G8 O O (.ld L3 O O k2 O (.lenR K2 O O (hs.ext e1) (.gtr O O O (.an O O (.ret ?_))))))))))
  exact .plain [_] Tryz.results15 ⟨rfl,trivial⟩ ⟨e1,_,rfl⟩
 refine .lssT O O O (by omega) (.nil (.condT O (.skip (.seq (.block (.sr (.mv O O (.mv O O (.ixN (i:=i) un_II ty_I O O hl O (List.getElem?_eq_getElem hlt) fun q hq=>.ldE (E:=eI) ty_I O O hq fun v hv=>.lenR un_I O O hv ?_)))))))))
 by_cases h:100<l[i].length
 ·refine .gtrT O O O (by omega) (.nil (.condT O (.sr (.an O O (.ret ?_)))))
  exact .plain [_] Tryz.results15 ⟨rfl,trivial⟩ ⟨e1,_,rfl⟩
 ·refine .gtrF O O O (by omega) (.nil (.condF O (.skip (.region (.mv O O (.add O O O (.an O O ?_)))))))
  rw [wI (by omega)]
  exact ⟨rfl,i+1,lkA rfl,⟨rfl,hlt⟩,by show l.length-(i+1)<l.length-i;omega⟩
theorem zero_N:zeroOf Tryz.prog 24=some (.agg #[.int .i64 0,.slice none 0 0]):=by kernel_rfl
theorem As9 {a b c d:Int}:bldOf Tryz.prog 58 [(0,.int .i64 a),(1,.int .i64 b),(2,.int .i64 c),(3,.int .i64 d)]=some #[.int .i64 a,.int .i64 b,.int .i64 c,.int .i64 d]:=by kernel_rfl
theorem bsl_Ls3 {a b c d a' b' c' d' a2 b2 c2 d2:Value}:bslOf Tryz.prog 22 3 [(0,.agg #[a,b,c,d]),(1,.agg #[a',b',c',d']),(2,.agg #[a2,b2,c2,d2])]=some (58,#[a,b,c,d,a',b',c',d',a2,b2,c2,d2]):=by kernel_rfl
theorem bld_N2 {b:Int} {a:Option Addr} {n c:Nat}:bldOf Tryz.prog 24 [(0,.int .i64 b),(1,.slice a n c)]=some #[.int .i64 b,.slice a n c]:=by kernel_rfl
theorem ln_R {S:Nat->Prop} {w:World} {a b c d:Int} (h:∀ x∈[a,b,c,d],-9223372036854775808<=x/\x<=9223372036854775807):eL.R S w (.agg #[.int .i64 a,.int .i64 b,.int .i64 c,.int .i64 d]) ⟨a,b,c,d⟩:=⟨rfl,K1.2 (h a (by simp)),K1.2 (h b (by simp)),K1.2 (h c (by simp)),K1.2 (h d (by simp))⟩
theorem ok3:outE net3 []=0:=outE_of (by decide) (by decide)
theorem bsl_IIo {a:Option Addr} {n c:Nat}:bslOf Tryz.prog 47 1 [(0,.slice a n c)]=some (25,#[.slice a n c]):=by kernel_rfl
def okV17 (r:List QV):Prop:=r.length<=20/\∀ q∈r,qok 4 q
theorem okV17.vk {W:World} {v:Value} {a:List QV} (h:okV17 a) (hr:eV.R (fun _=>True) W v a):vk 4 a:=eV_vk hr h.2 (by decide)
theorem Au0:Ent Tryz.prog 24:=A0 Tryz.func24 (by kernel_rfl) rfl
set_option maxRecDepth 8000 in
theorem Ar7 {w:World} {vn vo v:Value} {n:NtV} {o:List Int} {l:List (List QV)} (hn:eN.R (fun _=>True) w vn n) (ho:eI.R (fun _=>True) w vo o) (h:eM.R (fun _=>True) w v l):CR Tryz.prog 24 #[vn,vo,v] w (Lng (∀ r∈l,okV17 r)):=by
 obtain ⟨s,rfl,hs,hb⟩:=hn
 have hn:eN.R (fun _=>True) w (.agg #[.int .i64 n.b,s]) n:=⟨s,rfl,hs,hb⟩
 obtain ⟨ao,co,hvo,_⟩:=RL.len ho
 obtain ⟨_,_,_,_,hl⟩:=RL.len h
 refine enter Tryz.func24 O Tryz.ntmps24 O (.beg (.go O (.box O O fun w1 b3 n1=>?_)))
 obtain ⟨e1,k3,hb3,hs1⟩:=n1
 have h:=ER.ext eM h e1
 have htrue:∀ {σ:Env},Kx.look σ 6=some (.bool true)->Leave Tryz.prog Tryz.f24 58 (fun v w'=>Ext w w'/\Lng (∀ r∈l,okV17 r) v w') σ [] w1:=by
  intro σ hl
  exact .plain [_] Tryz.results24 ⟨hl,trivial⟩ ⟨e1,true,rfl,fun h=>by cases h⟩
 refine .goC O (.lp (α:=Nat) [1,2,3] O (fun i=>[(7,.int .i64 (i:Nat))]) (fun i W=>W=w1/\i<=l.length/\∀ j r,j<i->l[j]?=some r->okV17 r) (fun i=>l.length-i) 0 (lc1 O) ⟨rfl,Nat.zero_le _,fun j r hj=>absurd hj (Nat.not_lt_zero _)⟩ ?_)
 rintro i W ⟨rfl,hi,hall⟩
 refine .go O (.lenR un_M O O h ?_)
 rcases Nat.lt_or_ge i l.length with hlt | hge
 rotate_left
 ·refine .lssF O O O (by omega) (.go O (.ldA ty_N O O k3 O (.go O (.bsl _ O O (by rw [hvo];exact bsl_IIo) fun w2 b5 n2=>?_))))
  have hll:eII.R (fun _=>True) w2 (.slice (some ⟨b5,0,none⟩) 1 1) [o]:=BE8 [vo] [o] n2 upT (by rw [hvo]) O (by decide) (Els.snoc Els.nil (ho.ext e1))
  refine .call _ O Au1 O (Ar8 (hn.ext (e1.trans n2.1)) hll) fun v3 w3 e3 h3=>.goE O ?_
  obtain ⟨bl,rfl⟩:=h3
  refine .plain [_] Tryz.results24 ⟨rfl,trivial⟩ ⟨(e1.trans n2.1).trans e3,bl,rfl,fun _ r hr=>?_⟩
  obtain ⟨j,hj⟩:=List.mem_iff_getElem?.1 hr
  exact hall j r (by have:=Ar3 hj;omega) hj
 have hyy:=List.getElem?_eq_getElem hlt
 generalize l[i]=r at hyy
 refine .lssT O O O (by omega) (.go O (.ixN (i:=i) un_M ty_V O O h O hyy fun p hp=>.ldE ty_V O O hp fun e he=>.lenR un_V O O he ?_))
 by_cases hr:r.length<=20
 rotate_left
 ·exact .gtrT O O O (by omega) (.goE O (htrue O))
 refine .gtrF O O O (by omega) (.goC O (.lp (α:=Nat) [1,2,3,7] O (fun k=>[(8,.int .i64 (k:Nat))]) (fun k W'=>W'=W/\k<=r.length/\∀ j q,j<k->r[j]?=some q->qok 4 q) (fun k=>r.length-k) 0 (lc1 O) ⟨rfl,Nat.zero_le _,fun j r hj=>absurd hj (Nat.not_lt_zero _)⟩ ?_))
 rintro k W' ⟨rfl,hk,hallk⟩
 refine .go O (.ixN (i:=i) un_M ty_V O O h O hyy fun p2 hp2=>.ldE ty_V O O hp2 fun e2 he2=>.lenR un_V O O he2 ?_)
 rcases Nat.lt_or_ge k r.length with hkl | hge
 rotate_left
 ·refine .lssF O O O (by omega) (.go O (.inc O O O (by omega) (.goN O (.mk (i+1) O (lc1 O) ⟨⟨rfl,hlt,fun j r' hj hr'=>?_⟩,by show l.length-(i+1)<l.length-i;omega⟩))))
  by_cases e:j=i
  ·subst e
   rw [hyy] at hr'
   cases hr'
   refine ⟨hr,fun q hq=>?_⟩
   obtain ⟨j',hj'⟩:=List.mem_iff_getElem?.1 hq
   exact hallk j' q (by have:=Ar3 hj';omega) hj'
  ·exact hall j r' (by omega) hr'
 have hqq:=List.getElem?_eq_getElem hkl
 generalize r[k]=q at hqq
 refine .lssT O O O (by omega) (.go O (.ixN (i:=i) un_M ty_V O O h O hyy fun p3 hp3=>.ldE ty_V O O hp3 fun e3 he3=>.go O (.ixN (i:=k) un_V ty_Q O O he3 O hqq fun p4 hp4=>.faP O7 O O (.faP E0 O O (.ldE (E:=eW) ty_W O O hp4.qn.zw fun e4 he4=>.lenR un_W O O he4 ?_)))))
 by_cases hn4:q.num.w.length<=4
 rotate_left
 ·exact .gtrT O O O (by omega) (.goE O (htrue O))
 refine .gtrF O O O (by omega) (.go O (.ixN (i:=i) un_M ty_V O O h O hyy fun p5 hp5=>.go O (.ldE ty_V O O hp5 fun e5 he5=>.go O (.ixN (i:=k) un_V ty_Q O O he5 O hqq fun p6 hp6=>.go O (.faP O6 O O (.go O (.faP E0 O O (.go O (.ldE (E:=eW) ty_W O O hp6.qd.zw fun e6 he6=>.go O (.lenR un_W O O he6 (.go O ?_)))))))))))
 by_cases hd4:q.den.w.length<=4
 rotate_left
 ·exact .gtrT O O O (by omega) (.goE O (htrue O))
 refine .gtrF O O O (by omega) (.go O (.inc O O O (by omega) (.goN O (.mk (k+1) O (lc1 O) ⟨⟨rfl,hkl,fun j q' hj hq'=>?_⟩,by show r.length-(k+1)<r.length-k;omega⟩))))
 by_cases e:j=k
 ·subst e;rw [hqq] at hq';cases hq';exact ⟨hn4,hd4⟩
 ·exact hallk j q' (by omega) hq'
theorem AD7:Ent Tryz.prog 84:=A0 Tryz.func84 (by kernel_rfl) rfl
theorem AD0 {w:World}:CR Tryz.prog 84 #[] w (eN.at (fun _=>True) net3):=by
 refine enter Tryz.func84 O Tryz.ntmps84 O (.beg (.go O (.alloc O zero_N fun w1 b0 n1=>.go O (.bld _ O O As9 (.bld _ O O As9 (.bld _ O O As9 (.bsl _ O O bsl_Ls3 fun w2 b4 n2=>.bld _ O O bld_N2 ?_)))))))
 obtain ⟨e1,k0,hb0,hs1⟩:=n1
 have hl:eLs.R (fun k=>k≠b0) w2 (.slice (some ⟨b4,0,none⟩) 3 3) net3.ls:=BF0 (E:=eL) [_,_,_] net3.ls n2 (fun k hk=>by omega) O O (by decide) (Els.snoc (Els.snoc (Els.snoc Els.nil (ln_R (by decide))) (ln_R (by decide))) (ln_R (by decide)))
 have hn:eN.R (fun k=>k≠b0) w2 (.agg #[.int .i64 3,.slice (some ⟨b4,0,none⟩) 3 3]) net3:=⟨_,rfl,hl,K1.2 (by decide)⟩
 refine .storeA (E:=eN) ty_N O O (k0.ext n2.1) O O hn (fun h=>h O) fun w3 k3 u3 h3=>.goE O ?_
 exact .cell (E:=eN) Tryz.results84 O ty_N O O k3 h3 ⟨u3.below (e1.trans n2.1) (by omega),eN.mono (fun _ _ _=>trivial) h3⟩
theorem Z3:Ent Tryz.prog 85:=A0 Tryz.func85 (by kernel_rfl) rfl
theorem Y5 {w:World} {vl:Value} {l:List Int} (hl:eI.R (fun _=>True) w vl l) (hn:l.length<=1000):CR Tryz.prog 85 #[vl] w (eV.at (fun _=>True) (intsV l)):=by
 refine enter Tryz.func85 O Tryz.ntmps85 O (.beg (.go O ?_))
 refine .call _ O At8 O (Aq8 upT hl (by omega)) fun v1 w1 e1 h1=>.goE O ?_
 exact .plain [_] Tryz.results85 ⟨rfl,trivial⟩ ⟨e1,h1⟩
def balB (n:Nw) (x:Nat->Rat):Bool:=(List.range n.B).all fun r => !decide (n.root r=r) || decide (sumN n.B (fun b=>if n.root b=r then x b else 0)=0)
theorem Az5 {n:Nw} {x:Nat->Rat}:balB n x=true<->n.bal x:=by
 unfold balB Nw.bal
 rw [List.all_eq_true]
 simp only [List.mem_range,Bool.or_eq_true,Bool.not_eq_true',decide_eq_false_iff_not,decide_eq_true_eq]
 exact ⟨fun h r hr hrr=>(h r hr).resolve_left fun h'=>h' hrr,fun h r hr=>by
  by_cases hrr:n.root r=r
  ·exact .inr (h r hr hrr)
  ·exact .inl hrr⟩
theorem BF7 {n:Nw} (ok:n.Ok) {x cand:Nat->Rat} (h:∀ i,i<n.B->(if n.root i=i then cand i else n.lap cand i)=n.inj0 x i) {c:Nat} (hc:c<n.B):n.an x c=cand c :=
 Nw.uniq ok (fun i hi=>by
  have h1:=n.an_eq ok x hi
  have h2:=h i hi
  split
  ·rw [if_pos (by assumption)] at h1 h2;rw [h1,h2]
  ·rw [if_neg (by assumption)] at h1 h2;rw [h1,h2]) c hc
def inj3:Nat->Rat:=fun b=>((([6,0,-6]:List Int).getD b 0:Int):Rat)
def an3:Nat->Rat:=fun b=>((([0,-24,-36]:List Int).getD b 0:Int):Rat)
theorem Aq2 {l:List Int} {b:Nat}:rv (intsV l) b=if b<l.length then ((l.getD b 0:Int):Rat) else 0:=H9 ..
theorem At4:anE net3 [] (intsV [6,0,-6])=0:=by
 refine anE_of ok3 (by decide) ?_
 refine (Nw.bal_congr (y:=inj3) fun b hb=>?_).2 (Az5.1 (by decide +kernel))
 rw [Aq2,if_pos (show b<([6,0,-6]:List Int).length from hb)];rfl
theorem an3_no:anE net3 [] (intsV [1,0,-2])=10:=by
 have h1:sfE net3 [] (intsV [1,0,-2]).length=0:=by unfold sfE;rw [if_neg (by simpa using ok3),if_pos (by decide)]
 unfold anE
 rw [if_neg (by simpa using h1),if_neg]
 intro h
 have h2:=(Nw.bal_congr (y:=fun b=>((([1,0,-2]:List Int).getD b 0:Int):Rat)) fun b hb=>by rw [Aq2,if_pos (show b<([1,0,-2]:List Int).length from hb)]).1 h
 have h3:=Az5.2 h2
 exact absurd h3 (by decide +kernel)
theorem At3:∀ c,c<3->(nwOf net3 []).an (rv (intsV [6,0,-6])) c=an3 c:=fun c hc=>by
 have ok:=V4 ok3
 refine BF7 ok.ok (fun i hi=>?_) hc
 have h1:∀ i,i<3->(if (nwOf net3 []).root i=i then an3 i else (nwOf net3 []).lap an3 i)=(nwOf net3 []).inj0 inj3 i:=by decide +kernel
 rw [h1 i hi]
 unfold Nw.inj0
 rw [Aq2,if_pos (show i<([6,0,-6]:List Int).length from hi)];rfl
theorem an3_tab:tab (nwOf net3 []).B ((nwOf net3 []).an (rv (intsV [6,0,-6])))=intsV [0,-24,-36]:=D9 fun c hc=>At3 c hc
theorem fl3_tab:tab net3.ls.length ((nwOf net3 []).fl ((nwOf net3 []).an (rv (intsV [6,0,-6]))))=[qc (Rat.divInt 12 5),qc (Rat.divInt 12 5),qc (Rat.divInt 18 5)]:=by
 have h1:∀ k,k<3->(nwOf net3 []).fl ((nwOf net3 []).an (rv (intsV [6,0,-6]))) k=(nwOf net3 []).fl an3 k:=fun k hk=>by
  have ok:=V4 ok3
  unfold Nw.fl
  rw [At3 _ (ok.f k hk),At3 _ (ok.t k hk)]
 have h2:∀ k,k<3->(nwOf net3 []).fl an3 k=Rat.divInt (([12,12,18]:List Int).getD k 0) 5:=by decide +kernel
 rw [show tab net3.ls.length ((nwOf net3 []).fl ((nwOf net3 []).an (rv (intsV [6,0,-6]))))=tab 3 fun k=>Rat.divInt (([12,12,18]:List Int).getD k 0) 5 from D9 fun k hk=>by rw [h1 k hk,h2 k hk]]
 rfl
theorem bsl_V3 {x y z u x' y' z' u' x2 y2 z2 u2:Value}:bslOf Tryz.prog 32 3 [(0,.agg #[x,y,z,u]),(1,.agg #[x',y',z',u']),(2,.agg #[x2,y2,z2,u2])]=some (54,#[x,y,z,u,x',y',z',u',x2,y2,z2,u2]):=by kernel_rfl
theorem ob_V3 {w:World} {σ:Env} {d:Option Tmp} {ty:TypeId} {pos:String} {af:Array Edge} {g:Option (Nat×Bool)} {x y z:Operand} {u v t:Value} {a b c:QV} (hu:eQ.R (fun _=>True) w u a) (hv:eQ.R (fun _=>True) w v b) (ht:eQ.R (fun _=>True) w t c) (hx:ev σ x=some u:=by rfl) (hy:ev σ y=some v:=by rfl) (hz:ev σ z=some t:=by rfl) :
  Gv Tryz.prog ⟨d,.buildSlice 32 3 #[(0,x),(1,y),(2,z)],ty,pos,af,g⟩ σ w fun v' w'=>Ext w w'/\Sp.ok (.inr (eV.at (fun _=>True) [a,b,c])) v' w':=by
 have hu':=hu
 have hv':=hv
 have ht':=ht
 obtain ⟨s1,t1,rfl,_,_⟩:=hu'
 obtain ⟨s2,t2,rfl,_,_⟩:=hv'
 obtain ⟨s3,t3,rfl,_,_⟩:=ht'
 refine (AO5 (ps:=[(0,x),(1,y),(2,z)]) [(0,.agg #[.bool a.num.neg,s1,.bool a.den.neg,t1]),(1,.agg #[.bool b.num.neg,s2,.bool b.den.neg,t2]),(2,.agg #[.bool c.num.neg,s3,.bool c.den.neg,t3])] (by simp [evp,hx,hy,hz]) bsl_V3).mono fun v' w' ⟨b2,hv',n2⟩=>⟨n2.1,fun w'' e=>?_⟩
 rw [hv']
 exact ER.ext eV (BF0 (E:=eQ) (hsz:=by decide) [_,_,_] [a,b,c] n2 upT O O (by decide) (Els.snoc (Els.snoc (Els.snoc Els.nil hu) hv) ht)) e
theorem ob_L3 {w:World} {σ:Env} {d:Option Tmp} {ty:TypeId} {pos:String} {af:Array Edge} {g:Option (Nat×Bool)} {m n k:Int} (h:∀ x∈[m,n,k],-9223372036854775808<=x/\x<=9223372036854775807) :
  Gv Tryz.prog ⟨d,.buildSlice 127 3 #[(0,.const (.int .i64 m)),(1,.const (.int .i64 n)),(2,.const (.int .i64 k))],ty,pos,af,g⟩ σ w fun v' w'=>Ext w w'/\Sp.ok (.inr (eI.at (fun _=>True) [m,n,k])) v' w' :=
 (AO5 (ps:=[(0,.const (.int .i64 m)),(1,.const (.int .i64 n)),(2,.const (.int .i64 k))]) _ O As5).mono fun v' w' ⟨b2,hv',n2⟩=>⟨n2.1,fun w'' e=>by
  rw [hv']
  exact ER.ext eI (As2 [m,n,k] 3 n2 upT O O h (by omega)) e⟩
theorem BG8 (l:List Int) (h:∀ n∈l,-9223372036854775808<=n/\n<=9223372036854775807):vk 2 (intsV l):=BP7 h
theorem AP0:Ent Tryz.prog 28:=A0 Tryz.func28 (by kernel_rfl) rfl
set_option maxRecDepth 8000 in
theorem AO4 {w:World}:CR Tryz.prog 28 #[] w (Is (.bool true)):=by
 have hk6:=BG8 [6,0,-6] (by decide)
 have hk1:=BG8 [1,0,-2] (by decide)
 refine enter Tryz.func28 O Tryz.ntmps28 O (.beg (.go O ?_))
 refine .call _ O AD7 O AD0 fun v1 w1 e1 h1=>.bsl _ O O As5 fun w2 b2 n2=>?_
 refine .call _ O Z3 O (Y5 (As2 [6,0,-6] 3 n2 upT O O (by decide) (by decide)) (by decide)) fun v3 w3 e3 h3=>?_
 refine .call _ O AD9 O (AO7 (o:=[]) upT (ER.ext eN h1 (n2.1.trans e3)) RL.nil h3 hk6 (by decide) (by decide)) fun v4 w4 e4 h4=>?_
 obtain ⟨va,ve,rfl,ha,he⟩:=h4
 replace he:ve=.int .i64 0:=by rw [he,At4]
 subst he
 rw [if_pos At4,an3_tab] at ha
 have x4:=((e1.trans n2.1).trans e3).trans e4
 refine .go O ?_
 refine .call _ O AD7 O AD0 fun v5 w5 e5 h5=>.bsl _ O O As5 fun w6 b6 n6=>?_
 refine .call _ O Z3 O (Y5 (As2 [6,0,-6] 3 n6 upT O O (by decide) (by decide)) (by decide)) fun v7 w7 e7 h7=>?_
 refine .call _ O AH8 O (AU8 (o:=[]) upT (ER.ext eN h5 (n6.1.trans e7)) RL.nil h7 hk6 (by decide) (by decide)) fun v8 w8 e8 h8=>?_
 obtain ⟨vf,ve,rfl,hf,he⟩:=h8
 replace he:ve=.int .i64 0:=by rw [he,At4]
 subst he
 rw [if_pos At4,fl3_tab] at hf
 have y8:=((e5.trans n6.1).trans e7).trans e8
 refine .go O ?_
 refine .call _ O AD7 O AD0 fun v9 w9 e9 h9=>.bsl _ O O As5 fun w10 b10 n10=>?_
 refine .call _ O Z3 O (Y5 (As2 [1,0,-2] 3 n10 upT O O (by decide) (by decide)) (by decide)) fun v11 w11 e11 h11=>?_
 refine .call _ O AH8 O (AU8 (o:=[]) upT (ER.ext eN h9 (n10.1.trans e11)) RL.nil h11 hk1 (by decide) (by decide)) fun v12 w12 e12 h12=>?_
 obtain ⟨vg,ve,rfl,hg,he⟩:=h12
 replace he:ve=.int .i64 10:=by rw [he,an3_no]
 subst he
 have y12:=((e9.trans n10.1).trans e11).trans e12
 refine .go O ?_
 refine .call _ O Aj7 O (Ag7 (S:=fun _=>True) upT (by decide) (by decide)) fun vq w13 e13 hq=>.alloc O C5 fun w14 b7 n14=>?_
 obtain ⟨e14,k7,hb7,hs14⟩:=n14
 refine .storeA (E:=eQ) (S:=fun k=>k<w13.heap.size) ty_Q O O k7 O O (ER.ext eQ (eQ.mono (fun k _ h=>h.2) (ER.lt eQ hq)) e14) (fun h=>by omega) fun w15 k7 u15 hq=>.goC O ?_
 have hqv:=shpA (E:=eQ) O hq
 have hq:eQ.R (fun _=>True) w15 vq _:=eQ.mono (fun _ _ _=>trivial) hq
 have z15:Ext w12 w15:=u15.below (e13.trans e14) (by have:=e13.size;omega)
 have ha:=ER.ext eV ha ((y8.trans y12).trans z15)
 have hf:=ER.ext eV hf (y12.trans z15)
 refine .par follows 22 [.inl _,.inl (.bool true),.inl (.bool true),.inl _,.inl (.bool true),.inl (.bool true),.inl (.bool true),.inl _,.inl (.bool true),.inl (.bool true),.inl (.bool true),.inl _,.inr (eI.at (fun _=>True) [0,-24,-36]),.inr (eV.at (fun _=>True) (intsV [0,-24,-36])),.inl (.bool true),.inl (.bool true),.inl (.bool true),.inl _,.inl vq,.inl vq,.inr (eQ.at (fun _=>True) (qc (Rat.divInt 18 5))),.inr (eV.at (fun _=>True) [qc (Rat.divInt 12 5),qc (Rat.divInt 12 5),qc (Rat.divInt 18 5)])] [[],[(30,0)],[(31,1)],[(32,2)],[(33,3),(32,2)],[(32,2),(34,4)],[(35,5)],[(36,6)],[(37,7),(36,6)],[(36,6),(38,8)],[(39,9)],[(40,10)],[(40,10)],[(42,12),(40,10)],[(41,11),(43,13),(40,10)],[(40,10),(44,14)],[(45,15)],[(46,16)],[(46,16)],[(46,16)],[(46,16)],[(48,18),(49,19),(50,20),(46,16)]] (by kernel_rfl) ⟨
  fun w e=>(v_mv O).ob,
  fun w e=>((Av2 O O).eq (by rfl)).ob,
  fun w e=>(v_mv O).ob,
  fun w e=>(v_mv O).ob,
  fun w e=>((Av2 O O).eq (by rfl)).ob,
  fun w e=>(AM3 O O).ob,
  fun w e=>(v_mv O).ob,
  fun w e=>(v_mv O).ob,
  fun w e=>((Av2 O O).eq (by rfl)).ob,
  fun w e=>(AM3 O O).ob,
  fun w e=>(v_mv O).ob,
  fun w e=>(v_mv O).ob,
  fun w e=>ob_L3 (by decide),
  fun w e x12 hx12=>(A2 _ Z3 O (Y5 hx12 (by decide))).ob (A3 _ _ _),
  fun w e x13 hx13=>(A2 _ AA5 O (Ax8 (ER.ext eV ha e) hx13 O)).obIs,
  fun w e=>(AM3 O O).ob,
  fun w e=>(v_mv O).ob,
  fun w e=>(v_mv O).ob,
  fun w e=>((B9 ty_Q O (k7.ext e) (eQ.csz hq)).eq hqv.symm).ob,
  fun w e=>((B9 ty_Q O (k7.ext e) (eQ.csz hq)).eq hqv.symm).ob,
  fun w e=>(A2 _ Aj7 O (Ag7 (S:=fun _=>True) upT (by decide) (by decide))).ob (A3 _ _ _),
  fun w e x20 hx20=>ob_V3 (ER.ext eQ hq e) (ER.ext eQ hq e) hx20,trivial⟩ ?_
 intro w16 e16 _ _ _ _ _ _ x21 hx21
 refine .go O (.call _ O AA5 O (Ax8 (ER.ext eV hf e16) hx21 O) fun v17 w17 e17 h17=>?_)
 subst h17
 exact .goE O (.plain [_] Tryz.results28 ⟨rfl,trivial⟩ ⟨((((x4.trans y8).trans y12).trans z15).trans e16).trans e17,rfl⟩)
end Go.Proofs.YtggegpiffjbngaaGreat
namespace Go.Kx
open Go Go.RowKit
section
variable {n:Nw}
def Nw.mem1 (n:Nw) (i r:Nat):List Nat:=(List.range i).filter fun c=>decide (c≠r/\n.root c=r)
theorem Nw.mem1_succ (n:Nw) (i r:Nat):n.mem1 (i+1) r=n.mem1 i r++if i≠r/\n.root i=r then [i] else []:=by
 unfold Nw.mem1
 rw [List.range_succ,List.filter_append]
 by_cases h:i≠r/\n.root i=r
 ·simp [h]
 ·rw [if_neg h];simp [h]
theorem Nw.mem_first {r:Nat} (h:n.root r=r):∀ d,n.mem (r+1+d) r=r::n.mem1 (r+1+d) r
 | 0=>by
  have e1:n.mem r r=[]:=by
   unfold Nw.mem
   rw [List.filter_eq_nil_iff]
   intro b hb
   have:=Nw.root_le (n:=n) b
   have:=List.mem_range.1 hb
   simp;omega
  have e2:n.mem1 r r=[]:=by
   unfold Nw.mem1
   rw [List.filter_eq_nil_iff]
   intro b hb
   have:=Nw.root_le (n:=n) b
   have:=List.mem_range.1 hb
   simp;omega
  rw [Nat.add_zero,Nw.mem_succ,Nw.mem1_succ,e1,e2,if_pos h,if_neg (by simp)];rfl
 | d+1=>by
  rw [show r+1+(d+1)=(r+1+d)+1 by omega,Nw.mem_succ,Nw.mem1_succ,Nw.mem_first h d]
  by_cases h':n.root (r+1+d)=r
  ·rw [if_pos h',if_pos ⟨by omega,h'⟩];rfl
  ·rw [if_neg h',if_neg fun h''=>h' h''.2];rfl
theorem Nw.mem_cons {B r:Nat} (h:n.root r=r) (hr:r<B):n.mem B r=r::n.mem1 B r:=by
 have:=Nw.mem_first (n:=n) h (B-(r+1))
 rwa [show r+1+(B-(r+1))=B by omega] at this
end
end Go.Kx
namespace Go.Proofs.YtggegpiffjbngaaGreat
open Go Go.Kx Go.RowKit
end Go.Proofs.YtggegpiffjbngaaGreat
namespace Go.Kx
open Go Go.RowKit
theorem Leave.tt {P:Program} {fn:Func} {N:Nat} {σ:Env} {w W:World} {r:Nat} (hr:fn.results=#[.tmp r]) (hl:look σ r=some (.bool true)) (h:Ext w W):Leave P fn N (fun v w'=>Ext w w'/\Is (.bool true) v w') σ [] W:=.plain [_] hr ⟨hl,trivial⟩ ⟨h,rfl⟩
end Go.Kx
namespace Go.Proofs.YtggegpiffjbngaaGreat
open Go Go.Kx Go.RowKit
theorem Am2:Ent Tryz.prog 131:=A0 Tryz.func131 (by kernel_rfl) rfl
set_option maxRecDepth 8000 in
theorem Ak9 {S:Nat->Prop} {w:World} {vn:Value} {n:NtV} (hn:eN.R S w vn n):CR Tryz.prog 131 #[vn] w (Is (.int .i64 (chkE n))):=by
 obtain ⟨s,rfl,hs,hb⟩:=hn
 obtain ⟨_,_,_,_,hls⟩:=RL.len hs
 refine enter Tryz.func131 O Tryz.ntmps131 O (.beg (.go O (.box O O fun w1 b1 n1=>.go O (.fa E9 O O (.ld A4 O O n1.2.1 O ?_)))))
 obtain ⟨e1,k1,hb1,hs1⟩:=n1
 replace k1:Blk w1 b1 24 #[.int .i64 n.b,s]:=k1
 have fin:∀ {W:World} {v:Int},Ext w W->v=chkE n->(Ext w W/\Is (.int .i64 (chkE n)) (.int .i64 v) W):=fun e h=>⟨e,by rw [h]⟩
 by_cases h1:n.b<1
 ·exact .lssT O O O h1 (.goE O (.plain [_] Tryz.results131 ⟨rfl,trivial⟩ (fin e1 (by unfold chkE;rw [if_pos (.inl h1)]))))
 refine .lssF O O O h1 (.go O (.fa E9 O O (.go O (.ld A4 O O k1 O (.go O ?_)))))
 by_cases h6:6<n.b
 ·exact .gtrT O O O h6 (.goE O (.plain [_] Tryz.results131 ⟨rfl,trivial⟩ (fin e1 (by unfold chkE;rw [if_pos (.inr h6)]))))
 refine .gtrF O O O h6 (.go O (.fa G8 O O (.ld L3 O O k1 O (.lenR K2 O O (hs.ext e1) ?_))))
 by_cases h10:10<n.ls.length
 ·exact .gtrT O O O (by omega) (.goE O (.plain [_] Tryz.results131 ⟨rfl,trivial⟩ (fin e1 (by unfold chkE;rw [if_neg (by omega),if_pos h10]))))
 have hce:∀ {p:Prop} [Decidable p],(p<->chkOk n)->(chkE n=if p then 0 else 1):=fun {p} _ h=>by
  unfold chkE
  rw [if_neg (by omega),if_neg h10]
  by_cases hp:p
  ·rw [if_pos hp,if_pos (h.1 hp)]
  ·rw [if_neg hp,if_neg fun h'=>hp (h.2 h')]
 refine .gtrF O O O (by omega) (.goC O ?_)
 refine .lp (α:=Nat) [1] O (fun i=>[(3,.int .i64 (i:Nat))]) (fun i W=>Ext w1 W/\i<=n.ls.length/\∀ j,j<i->∀ l,n.ls[j]?=some l->ckAll n.b l) (fun i=>n.ls.length-i) 0 (lc1 O) ⟨Ext.refl _,Nat.zero_le _,fun j hj=>by omega⟩ ?_
 rintro i W ⟨hW,hi,hall⟩
 have k1:=k1.ext hW
 refine .go O (.fa G8 O O (.ld L3 O O k1 O (.lenR K2 O O (hs.ext (e1.trans hW)) ?_)))
 rcases Nat.lt_or_ge i n.ls.length with hlt | hge
 rotate_left
 ·have:i=n.ls.length:=by omega
  subst this
  exact .lssF O O O (by omega) (.goE O (.plain [_] Tryz.results131 ⟨rfl,trivial⟩ (fin (e1.trans hW) (by rw [hce (p:=True) ⟨fun _=>fun i hi=>hall i hi,fun _=>trivial⟩,if_pos trivial]))))
 have hgl:n.ls[i]?=some (n.ls.getD i ln0):=A6 hlt
 generalize n.ls.getD i ln0=ln at hgl
 have bad:∀ j,j<5->ck j n.b ln=false->1=chkE n:=fun j hj h=>by
  rw [hce (p:=False) ⟨fun h=>h.elim,fun hk=>by have:=hk i hlt ln hgl j hj;rw [h] at this;cases this⟩,if_neg (fun h=>h)]
 refine .lssT O O O (by omega) (.go O (.fa G8 O O (.ld L3 O O k1 O (.go O (.ixN (i:=i) K2 O9 O O (hs.ext (e1.trans hW)) O hgl fun p hp=>.ldE (E:=eL) O9 O O hp fun vl hvl=>.alloc O Ad0 fun W1 c n1'=>?_)))))
 obtain ⟨d1,kc,hc,zs1⟩:=n1'
 refine .storeA (E:=eL) (S:=fun k=>k≠c) (z:=ln) O9 O O kc O O hvl (fun h=>h O) fun W2 kc u2 hl2=>?_
 obtain ⟨rfl,_⟩:=hl2
 replace kc:Blk W2 c 58 #[.int .i64 ln.f,.int .i64 ln.t,.int .i64 ln.x,.int .i64 ln.c]:=kc
 have zW:=hW.size
 have l1:=k1.lt
 have hW2:Ext w1 W2:=u2.below (hW.trans d1) (by omega)
 have k1:Blk W2 b1 24 #[.int .i64 n.b,s]:=(k1.ext d1).upd u2 (by omega)
 have x2:=e1.trans hW2
 refine .go O (.fa N8 O O (.go O (.ld A4 O O kc O (.go O (?_)))))
 by_cases g0:ln.f<0
 ·exact .lssT O O O g0 (.goE O (.plain [_] Tryz.results131 ⟨rfl,trivial⟩ (fin x2 (bad 0 (by decide) (by simp [ck];omega)))))
 refine .lssF O O O g0 (.go O (.fa N8 O O (.go O (.ld A4 O O kc O (.go O (.fa E9 O O (.go O (.ld A4 O O k1 O (.go O (?_))))))))))
 by_cases g1:n.b<=ln.f
 ·exact .geqT O O O g1 (.goE O (.plain [_] Tryz.results131 ⟨rfl,trivial⟩ (fin x2 (bad 0 (by decide) (by simp [ck];omega)))))
 refine .geqF O O O g1 (.go O (.fa N7 O O (.go O (.ld A4 O O kc O (.go O (?_))))))
 by_cases g2:ln.t<0
 ·exact .lssT O O O g2 (.goE O (.plain [_] Tryz.results131 ⟨rfl,trivial⟩ (fin x2 (bad 1 (by decide) (by simp [ck];omega)))))
 refine .lssF O O O g2 (.go O (.fa N7 O O (.go O (.ld A4 O O kc O (.go O (.fa E9 O O (.go O (.ld A4 O O k1 O (.go O (?_))))))))))
 by_cases g3:n.b<=ln.t
 ·exact .geqT O O O g3 (.goE O (.plain [_] Tryz.results131 ⟨rfl,trivial⟩ (fin x2 (bad 1 (by decide) (by simp [ck];omega)))))
 refine .geqF O O O g3 (.go O (.fa N8 O O (.go O (.ld A4 O O kc O (.go O (.fa N7 O O (.go O (.ld A4 O O kc O (.go O (?_))))))))))
 by_cases g4:ln.f=ln.t
 ·exact .eqlT O O O g4 (.goE O (.plain [_] Tryz.results131 ⟨rfl,trivial⟩ (fin x2 (bad 2 (by decide) (by simp [ck];omega)))))
 refine .eqlF O O O g4 (.go O (.fa AH0 O O (.go O (.ld S3 O O kc O (.go O (?_))))))
 by_cases g5:ln.x<1
 ·exact .lssT O O O g5 (.goE O (.plain [_] Tryz.results131 ⟨rfl,trivial⟩ (fin x2 (bad 3 (by decide) (by simp [ck];omega)))))
 refine .lssF O O O g5 (.go O (.fa AH0 O O (.go O (.ld S3 O O kc O (.go O (?_))))))
 by_cases g6:1000<ln.x
 ·exact .gtrT O O O g6 (.goE O (.plain [_] Tryz.results131 ⟨rfl,trivial⟩ (fin x2 (bad 3 (by decide) (by simp [ck];omega)))))
 refine .gtrF O O O g6 (.go O (.fa Ad6 O O (.go O (.ld S3 O O kc O (.go O (?_))))))
 by_cases g7:ln.c<0
 ·exact .lssT O O O g7 (.goE O (.plain [_] Tryz.results131 ⟨rfl,trivial⟩ (fin x2 (bad 4 (by decide) (by simp [ck];omega)))))
 refine .lssF O O O g7 (.go O (.fa Ad6 O O (.go O (.ld S3 O O kc O (.go O (?_))))))
 by_cases g8:1000000<ln.c
 ·exact .gtrT O O O g8 (.goE O (.plain [_] Tryz.results131 ⟨rfl,trivial⟩ (fin x2 (bad 4 (by decide) (by simp [ck];omega)))))
 refine .gtrF O O O g8 (.go O (.inc O O O (by omega) (.goN O (.mk (i+1) O (lc1 O) ⟨⟨hW2,hlt,fun j hj l hl=>?_⟩,by show n.ls.length-(i+1)<n.ls.length-i;omega⟩))))
 by_cases e:j=i
 ·subst e
  rw [hgl] at hl
  cases hl
  intro j hj
  match j with
  | 0=>simp [ck];omega
  | 1=>simp [ck];omega
  | 2=>simp [ck];omega
  | 3=>simp [ck];omega
  | 4=>simp [ck];omega
 ·exact hall j (by omega) l hl
theorem Aa8:Ent Tryz.prog 159:=A0 Tryz.func159 (by kernel_rfl) rfl
set_option maxRecDepth 8000 in
theorem AZ0 {S:Nat->Prop} {w:World} {v:Value} {l:List Int} {k:Int} (h:eI.R S w v l):CR Tryz.prog 159 #[v,.int .i64 k] w (Is (.bool (decide (k∈l)))):=by
 obtain ⟨_,_,_,_,hll⟩:=RL.len h
 refine enter Tryz.func159 O Tryz.ntmps159 O (.beg (.goC O ?_))
 refine .lp (α:=Nat) [0,1] O (fun i=>[(5,.int .i64 (i:Nat))]) (fun i W=>Ext w W/\i<=l.length/\∀ j,j<i->l[j]?≠some k) (fun i=>l.length-i) 0 (lc1 O) ⟨Ext.refl _,Nat.zero_le _,fun j hj=>by omega⟩ ?_
 rintro i W ⟨hW,hi,hall⟩
 refine .go O (.lenR un_I O O (ER.ext eI h hW) ?_)
 rcases Nat.lt_or_ge i l.length with hlt | hge
 rotate_left
 ·refine .lssF O O O (by omega) (.goE O (.plain [_] Tryz.results159 ⟨rfl,trivial⟩ ⟨hW,?_⟩))
  refine congrArg Value.bool (decide_eq_false fun hm=>?_).symm
  obtain ⟨j,hj⟩:=List.mem_iff_getElem?.1 hm
  exact hall j (by have:=(List.getElem?_eq_some_iff.1 hj).1;omega) hj
 have hg:l[i]?=some (l.getD i 0):=A6 hlt
 refine .lssT O O O (by omega) (.go O (.ixN (i:=i) un_I B6 O O (ER.ext eI h hW) O hg fun q hq=>.ldE (E:=eInt .i64) B6 O O hq fun e he=>.go O ?_))
 obtain ⟨rfl,_⟩:=he
 by_cases e:l.getD i 0=k
 ·refine .eqlT O O O e (.goE O (.plain [_] Tryz.results159 ⟨rfl,trivial⟩ ⟨hW,?_⟩))
  exact congrArg Value.bool (decide_eq_true (List.mem_iff_getElem?.2 ⟨i,by rw [hg,e]⟩)).symm
 ·refine .eqlF O O O e (.go O (.inc O O O (by omega) (.goN O (.mk (i+1) O (lc1 O) ⟨⟨hW,hlt,fun j hj=>?_⟩,by show l.length-(i+1)<l.length-i;omega⟩))))
  by_cases ej:j=i
  ·subst ej;rw [hg];exact fun h=>e (Option.some.inj h)
  ·exact hall j (by omega)
theorem Y8:Ent Tryz.prog 68:=A0 Tryz.func68 (by kernel_rfl) rfl
set_option maxRecDepth 8000 in
theorem X9 {S:Nat->Prop} {w:World} {vn vo:Value} {n:NtV} {o:List Int} (hn:eN.R S w vn n) (ho:eI.R S w vo o):CR Tryz.prog 68 #[vn,vo] w (Is (.int .i64 (outE n o))):=by
 obtain ⟨s,rfl,hs,hb⟩:=hn
 have hn:eN.R S w (.agg #[.int .i64 n.b,s]) n:=⟨s,rfl,hs,hb⟩
 obtain ⟨_,_,_,_,hll⟩:=RL.len ho
 obtain ⟨_,_,_,_,hls⟩:=RL.len hs
 refine enter Tryz.func68 O Tryz.ntmps68 O (.beg (.go O (.box O O fun w1 b2 n1=>.go O ?_)))
 obtain ⟨e1,k2,hb2,hs1⟩:=n1
 refine .ldA ty_N O O k2 O ?_
 refine .call _ O Am2 O (Ak9 (hn.ext e1)) fun v3 w3 e3 h3=>.go O ?_
 subst h3
 have x3:=e1.trans e3
 have k2:=k2.ext e3
 by_cases hc:chkE n=0
 rotate_left
 ·exact .neqT O O O hc (.goE O (.plain [_] Tryz.results68 ⟨rfl,trivial⟩ ⟨x3,by rw [Ax1 hc];rfl⟩))
 have hoe:∀ {p:Prop} [Decidable p],(p<->outsOk n o)->(outE n o=if p then 0 else 1):=fun {p} _ h=>by
  unfold outE
  rw [if_neg (by simpa using hc)]
  by_cases hp:p
  ·rw [if_pos hp,if_pos (h.1 hp)]
  ·rw [if_neg hp,if_neg fun h'=>hp (h.2 h')]
 refine .neqF O O O (by omega) (.goC O ?_)
 refine .lp (α:=Nat) [1,2] O (fun i=>[(6,.int .i64 (i:Nat))]) (fun i W=>Ext w3 W/\i<=o.length/\∀ j,j<i->0<=o.getD j 0/\o.getD j 0<n.ls.length/\(0<j->o.getD (j-1) 0<o.getD j 0)) (fun i=>o.length-i) 0 (lc1 O) ⟨Ext.refl _,Nat.zero_le _,fun j hj=>by omega⟩ ?_
 rintro i W ⟨hW,hi,hall⟩
 refine .go O (.lenR un_I O O (ER.ext eI ho (x3.trans hW)) ?_)
 rcases Nat.lt_or_ge i o.length with hlt | hge
 rotate_left
 ·have:i=o.length:=by omega
  subst this
  exact .lssF O O O (by omega) (.goE O (.plain [_] Tryz.results68 ⟨rfl,trivial⟩ ⟨x3.trans hW,by rw [hoe (p:=True) ⟨fun _=>fun i hi=>hall i hi,fun _=>trivial⟩,if_pos trivial];rfl⟩))
 have hg:o[i]?=some (o.getD i 0):=A6 hlt
 have bad:¬ (0<=o.getD i 0/\o.getD i 0<n.ls.length/\(0<i->o.getD (i-1) 0<o.getD i 0))->(Is (.int .i64 (outE n o))) (.int .i64 1) W:=fun h=>by
  rw [hoe (p:=False) ⟨fun h=>h.elim,fun hk=>h (hk i hlt)⟩,if_neg (fun h=>h)]
 have hoW:=ER.ext eI ho (x3.trans hW)
 have hsW:=hs.ext (x3.trans hW)
 have k2:=k2.ext hW
 refine .lssT O O O (by omega) (.goC O ?_)
 have hgp:0<i->o[i-1]?=some (o.getD (i-1) 0):=fun h=>A6 (by omega)
 generalize o.getD i 0=x at hg bad hall
 by_cases g0:x<0
 ·have hd:=True.intro
  refine .par follows 28 [.inl _,.inl _,.inr (Ptr (eInt .i64) S x),.inl (.int .i64 x),.inl (.bool true),.inl (.bool true),.inl undef,.inl undef,.inl undef,.inl undef,.inl undef,.inl undef,.inl undef,.inl undef,.inl (.bool true),.inl (.bool true),.inl undef,.inl undef,.inl undef,.inl undef,.inl undef,.inl undef,.inl undef,.inl undef,.inl undef,.inl undef,.inl undef,.inl undef] [[],[],[(18,0),(19,1)],[(20,2)],[(21,3)],[(22,4)],[(23,5)],[(23,5)],[(24,6),(25,7),(23,5)],[(26,8),(23,5)],[(23,5)],[(28,10),(23,5)],[(29,11),(23,5)],[(27,9),(30,12),(23,5)],[(23,5),(31,13)],[(32,14)],[(33,15)],[(34,16),(33,15)],[(35,17),(33,15)],[(36,18)],[(36,18)],[(37,19),(38,20),(36,18)],[(39,21),(36,18)],[(36,18)],[(36,18)],[(42,24),(36,18)],[(41,23),(43,25),(36,18)],[(44,26),(36,18)]] (by kernel_rfl) ⟨
   fun w e=>(v_mv O).ob,
   fun w e=>(v_mv O).ob,
   fun w e=>B7 (i:=i) un_I B6 O (ER.ext eI hoW e) O hg,
   fun w e x2 hx2=>H7 A4 O hx2,
   fun w e=>((AY6 O O).eq (by rw [decide_eq_true (by omega)])).ob,
   fun w e=>(v_mv O).ob,
   fun w e=>rfl,
   fun w e=>rfl,
   fun w e=>rfl,
   fun w e=>rfl,
   fun w e=>rfl,
   fun w e=>rfl,
   fun w e=>rfl,
   fun w e=>rfl,
   fun w e=>(AM3 O O).ob,
   fun w e=>(v_mv O).ob,
   fun w e=>rfl,
   fun w e=>rfl,
   fun w e=>rfl,
   fun w e=>rfl,
   fun w e=>rfl,
   fun w e=>rfl,
   fun w e=>rfl,
   fun w e=>rfl,
   fun w e=>rfl,
   fun w e=>rfl,
   fun w e=>rfl,
   fun w e=>rfl,trivial⟩ ?_
  intro W3 d3 y2 hy2
  exact .goE O (.plain [_] Tryz.results68 ⟨rfl,trivial⟩ ⟨(x3.trans hW).trans d3,bad (by omega)⟩)
 by_cases g1:(n.ls.length:Int)<=x
 ·have hd:=True.intro
  refine .par follows 28 [.inl _,.inl _,.inr (Ptr (eInt .i64) S x),.inl (.int .i64 x),.inl (.bool false),.inl (.bool false),.inl _,.inl _,.inr (Ptr (eInt .i64) S x),.inl (.int .i64 x),.inl _,.inl s,.inl (.int .i64 (n.ls.length:Nat)),.inl (.bool true),.inl (.bool true),.inl (.bool true),.inl undef,.inl undef,.inl undef,.inl undef,.inl undef,.inl undef,.inl undef,.inl undef,.inl undef,.inl undef,.inl undef,.inl undef] [[],[],[(18,0),(19,1)],[(20,2)],[(21,3)],[(22,4)],[(23,5)],[(23,5)],[(24,6),(25,7),(23,5)],[(26,8),(23,5)],[(23,5)],[(28,10),(23,5)],[(29,11),(23,5)],[(27,9),(30,12),(23,5)],[(23,5),(31,13)],[(32,14)],[(33,15)],[(34,16),(33,15)],[(35,17),(33,15)],[(36,18)],[(36,18)],[(37,19),(38,20),(36,18)],[(39,21),(36,18)],[(36,18)],[(36,18)],[(42,24),(36,18)],[(41,23),(43,25),(36,18)],[(44,26),(36,18)]] (by kernel_rfl) ⟨
   fun w e=>(v_mv O).ob,
   fun w e=>(v_mv O).ob,
   fun w e=>B7 (i:=i) un_I B6 O (ER.ext eI hoW e) O hg,
   fun w e x2 hx2=>H7 A4 O hx2,
   fun w e=>((AY6 O O).eq (by rw [decide_eq_false (by omega)])).ob,
   fun w e=>(v_mv O).ob,
   fun w e=>(v_mv O).ob,
   fun w e=>(v_mv O).ob,
   fun w e=>B7 (i:=i) un_I B6 O (ER.ext eI hoW e) O hg,
   fun w e x8 hx8=>H7 A4 O hx8,
   fun w e=>(v_fa G8 O).ob,
   fun w e=>(v_ld L3 O (k2.ext e) O).ob,
   fun w e=>(Af2 K2 O (hsW.ext e)).ob,
   fun w e=>((Av1 O O).eq (by rw [decide_eq_true (by omega)])).ob,
   fun w e=>(AM4 O O).ob,
   fun w e=>(v_mv O).ob,
   fun w e=>rfl,
   fun w e=>rfl,
   fun w e=>rfl,
   fun w e=>rfl,
   fun w e=>rfl,
   fun w e=>rfl,
   fun w e=>rfl,
   fun w e=>rfl,
   fun w e=>rfl,
   fun w e=>rfl,
   fun w e=>rfl,
   fun w e=>rfl,trivial⟩ ?_
  intro W3 d3 y2 hy2 y8 hy8
  exact .goE O (.plain [_] Tryz.results68 ⟨rfl,trivial⟩ ⟨(x3.trans hW).trans d3,bad (by omega)⟩)
 have nxt:∀ {σ:Env},(0<i->o.getD (i-1) 0<x)->∀ j,j<i+1->0<=o.getD j 0/\o.getD j 0<n.ls.length/\(0<j->o.getD (j-1) 0<o.getD j 0):=fun h j hj=>by
  by_cases e:j=i
  ·subst e
   have:o.getD j 0=x:=by rw [List.getD_eq_getElem?_getD,hg];rfl
   rw [this]
   exact ⟨by omega,by omega,h⟩
  ·exact hall j (by omega)
 rcases Nat.eq_zero_or_pos i with hi0 | hi0
 ·have hd:=True.intro
  refine .par follows 28 [.inl _,.inl _,.inr (Ptr (eInt .i64) S x),.inl (.int .i64 x),.inl (.bool false),.inl (.bool false),.inl _,.inl _,.inr (Ptr (eInt .i64) S x),.inl (.int .i64 x),.inl _,.inl s,.inl (.int .i64 (n.ls.length:Nat)),.inl (.bool false),.inl (.bool false),.inl (.bool false),.inl _,.inl (.bool false),.inl (.bool false),.inl undef,.inl undef,.inl undef,.inl undef,.inl undef,.inl undef,.inl undef,.inl undef,.inl undef] [[],[],[(18,0),(19,1)],[(20,2)],[(21,3)],[(22,4)],[(23,5)],[(23,5)],[(24,6),(25,7),(23,5)],[(26,8),(23,5)],[(23,5)],[(28,10),(23,5)],[(29,11),(23,5)],[(27,9),(30,12),(23,5)],[(23,5),(31,13)],[(32,14)],[(33,15)],[(34,16),(33,15)],[(35,17),(33,15)],[(36,18)],[(36,18)],[(37,19),(38,20),(36,18)],[(39,21),(36,18)],[(36,18)],[(36,18)],[(42,24),(36,18)],[(41,23),(43,25),(36,18)],[(44,26),(36,18)]] (by kernel_rfl) ⟨
   fun w e=>(v_mv O).ob,
   fun w e=>(v_mv O).ob,
   fun w e=>B7 (i:=i) un_I B6 O (ER.ext eI hoW e) O hg,
   fun w e x2 hx2=>H7 A4 O hx2,
   fun w e=>((AY6 O O).eq (by rw [decide_eq_false (by omega)])).ob,
   fun w e=>(v_mv O).ob,
   fun w e=>(v_mv O).ob,
   fun w e=>(v_mv O).ob,
   fun w e=>B7 (i:=i) un_I B6 O (ER.ext eI hoW e) O hg,
   fun w e x8 hx8=>H7 A4 O hx8,
   fun w e=>(v_fa G8 O).ob,
   fun w e=>(v_ld L3 O (k2.ext e) O).ob,
   fun w e=>(Af2 K2 O (hsW.ext e)).ob,
   fun w e=>((Av1 O O).eq (by rw [decide_eq_false (by omega)])).ob,
   fun w e=>(AM4 O O).ob,
   fun w e=>(v_mv O).ob,
   fun w e=>(v_mv O).ob,
   fun w e=>((BH1 O O).eq (by rw [decide_eq_false (by omega)])).ob,
   fun w e=>(v_mv O).ob,
   fun w e=>rfl,
   fun w e=>rfl,
   fun w e=>rfl,
   fun w e=>rfl,
   fun w e=>rfl,
   fun w e=>rfl,
   fun w e=>rfl,
   fun w e=>rfl,
   fun w e=>rfl,trivial⟩ ?_
  intro W3 d3 y2 hy2 y8 hy8
  exact .go O (.inc O O O (by omega) (.goN O (.mk (i+1) O (lc1 O) ⟨⟨hW.trans d3,hlt,nxt (σ:=[]) (fun h=>by omega)⟩,by show o.length-(i+1)<o.length-i;omega⟩)))
 by_cases g2:x<=o.getD (i-1) 0
 ·have hd:=True.intro
  refine .par follows 28 [.inl _,.inl _,.inr (Ptr (eInt .i64) S x),.inl (.int .i64 x),.inl (.bool false),.inl (.bool false),.inl _,.inl _,.inr (Ptr (eInt .i64) S x),.inl (.int .i64 x),.inl _,.inl s,.inl (.int .i64 (n.ls.length:Nat)),.inl (.bool false),.inl (.bool false),.inl (.bool false),.inl _,.inl (.bool true),.inl (.bool true),.inl _,.inl _,.inr (Ptr (eInt .i64) S x),.inl (.int .i64 x),.inl _,.inl _,.inl (.int .i64 ((i-1:Nat):Int)),.inr (Ptr (eInt .i64) S (o.getD (i-1) 0)),.inl (.int .i64 (o.getD (i-1) 0))] [[],[],[(18,0),(19,1)],[(20,2)],[(21,3)],[(22,4)],[(23,5)],[(23,5)],[(24,6),(25,7),(23,5)],[(26,8),(23,5)],[(23,5)],[(28,10),(23,5)],[(29,11),(23,5)],[(27,9),(30,12),(23,5)],[(23,5),(31,13)],[(32,14)],[(33,15)],[(34,16),(33,15)],[(35,17),(33,15)],[(36,18)],[(36,18)],[(37,19),(38,20),(36,18)],[(39,21),(36,18)],[(36,18)],[(36,18)],[(42,24),(36,18)],[(41,23),(43,25),(36,18)],[(44,26),(36,18)]] (by kernel_rfl) ⟨
   fun w e=>(v_mv O).ob,
   fun w e=>(v_mv O).ob,
   fun w e=>B7 (i:=i) un_I B6 O (ER.ext eI hoW e) O hg,
   fun w e x2 hx2=>H7 A4 O hx2,
   fun w e=>((AY6 O O).eq (by rw [decide_eq_false (by omega)])).ob,
   fun w e=>(v_mv O).ob,
   fun w e=>(v_mv O).ob,
   fun w e=>(v_mv O).ob,
   fun w e=>B7 (i:=i) un_I B6 O (ER.ext eI hoW e) O hg,
   fun w e x8 hx8=>H7 A4 O hx8,
   fun w e=>(v_fa G8 O).ob,
   fun w e=>(v_ld L3 O (k2.ext e) O).ob,
   fun w e=>(Af2 K2 O (hsW.ext e)).ob,
   fun w e=>((Av1 O O).eq (by rw [decide_eq_false (by omega)])).ob,
   fun w e=>(AM4 O O).ob,
   fun w e=>(v_mv O).ob,
   fun w e=>(v_mv O).ob,
   fun w e=>((BH1 O O).eq (by rw [decide_eq_true (by omega)])).ob,
   fun w e=>(v_mv O).ob,
   fun w e=>(v_mv O).ob,
   fun w e=>(v_mv O).ob,
   fun w e=>B7 (i:=i) un_I B6 O (ER.ext eI hoW e) O hg,
   fun w e x21 hx21=>H7 A4 O hx21,
   fun w e=>(v_mv O).ob,
   fun w e=>(v_mv O).ob,
   fun w e=>((AS6 O O).eq (by rw [wI (by omega)];congr 1;omega)).ob,
   fun w e=>B7 (i:=i-1) un_I B6 O (ER.ext eI hoW e) O (hgp hi0),
   fun w e x26 hx26=>H7 A4 O hx26,trivial⟩ ?_
  intro W3 d3 y2 hy2 y8 hy8 y21 hy21 y26 hy26
  exact .go O (.leqT O O O g2 (.goE O (.plain [_] Tryz.results68 ⟨rfl,trivial⟩ ⟨(x3.trans hW).trans d3,bad (by omega)⟩)))
 have hd:=True.intro
 refine .par follows 28 [.inl _,.inl _,.inr (Ptr (eInt .i64) S x),.inl (.int .i64 x),.inl (.bool false),.inl (.bool false),.inl _,.inl _,.inr (Ptr (eInt .i64) S x),.inl (.int .i64 x),.inl _,.inl s,.inl (.int .i64 (n.ls.length:Nat)),.inl (.bool false),.inl (.bool false),.inl (.bool false),.inl _,.inl (.bool true),.inl (.bool true),.inl _,.inl _,.inr (Ptr (eInt .i64) S x),.inl (.int .i64 x),.inl _,.inl _,.inl (.int .i64 ((i-1:Nat):Int)),.inr (Ptr (eInt .i64) S (o.getD (i-1) 0)),.inl (.int .i64 (o.getD (i-1) 0))] [[],[],[(18,0),(19,1)],[(20,2)],[(21,3)],[(22,4)],[(23,5)],[(23,5)],[(24,6),(25,7),(23,5)],[(26,8),(23,5)],[(23,5)],[(28,10),(23,5)],[(29,11),(23,5)],[(27,9),(30,12),(23,5)],[(23,5),(31,13)],[(32,14)],[(33,15)],[(34,16),(33,15)],[(35,17),(33,15)],[(36,18)],[(36,18)],[(37,19),(38,20),(36,18)],[(39,21),(36,18)],[(36,18)],[(36,18)],[(42,24),(36,18)],[(41,23),(43,25),(36,18)],[(44,26),(36,18)]] (by kernel_rfl) ⟨
  fun w e=>(v_mv O).ob,
  fun w e=>(v_mv O).ob,
  fun w e=>B7 (i:=i) un_I B6 O (ER.ext eI hoW e) O hg,
  fun w e x2 hx2=>H7 A4 O hx2,
  fun w e=>((AY6 O O).eq (by rw [decide_eq_false (by omega)])).ob,
  fun w e=>(v_mv O).ob,
  fun w e=>(v_mv O).ob,
  fun w e=>(v_mv O).ob,
  fun w e=>B7 (i:=i) un_I B6 O (ER.ext eI hoW e) O hg,
  fun w e x8 hx8=>H7 A4 O hx8,
  fun w e=>(v_fa G8 O).ob,
  fun w e=>(v_ld L3 O (k2.ext e) O).ob,
  fun w e=>(Af2 K2 O (hsW.ext e)).ob,
  fun w e=>((Av1 O O).eq (by rw [decide_eq_false (by omega)])).ob,
  fun w e=>(AM4 O O).ob,
  fun w e=>(v_mv O).ob,
  fun w e=>(v_mv O).ob,
  fun w e=>((BH1 O O).eq (by rw [decide_eq_true (by omega)])).ob,
  fun w e=>(v_mv O).ob,
  fun w e=>(v_mv O).ob,
  fun w e=>(v_mv O).ob,
  fun w e=>B7 (i:=i) un_I B6 O (ER.ext eI hoW e) O hg,
  fun w e x21 hx21=>H7 A4 O hx21,
  fun w e=>(v_mv O).ob,
  fun w e=>(v_mv O).ob,
  fun w e=>((AS6 O O).eq (by rw [wI (by omega)];congr 1;omega)).ob,
  fun w e=>B7 (i:=i-1) un_I B6 O (ER.ext eI hoW e) O (hgp hi0),
  fun w e x26 hx26=>H7 A4 O hx26,trivial⟩ ?_
 intro W3 d3 y2 hy2 y8 hy8 y21 hy21 y26 hy26
 exact .go O (.leqF O O O g2 (.go O (.inc O O O (by omega) (.goN O (.mk (i+1) O (lc1 O) ⟨⟨hW.trans d3,hlt,nxt (σ:=[]) (fun h=>by omega)⟩,by show o.length-(i+1)<o.length-i;omega⟩)))))
theorem AB5 {n:NtV} {o:List Int} (h:outsOk n o) (k:Nat):((k:Int)∈o)<->k∈oN o:=by
 unfold oN
 rw [List.mem_map]
 constructor
 ·exact fun hm=>⟨_,hm,by simp⟩
 ·rintro ⟨x,hm,rfl⟩
  obtain ⟨i,hi⟩:=List.mem_iff_getElem?.1 hm
  have hlt:=(List.getElem?_eq_some_iff.1 hi).1
  have e:o.getD i 0=x:=by rw [List.getD_eq_getElem?_getD,hi];rfl
  have:=(h i hlt).1
  rw [e] at this
  rw [show ((x.toNat:Nat):Int)=x by omega];exact hm
theorem BF9:Ent Tryz.prog 183:=A0 Tryz.func183 (by kernel_rfl) rfl
set_option maxRecDepth 8000 in
theorem BC6 {S:Nat->Prop} {w:World} {vn vo:Value} {n:NtV} {o:List Int} (up:Up S w) (hn:eN.R S w vn n) (ho:eI.R S w vo o) (hok:outsOk n o) (hl:n.ls.length<=1000):CR Tryz.prog 183 #[vn,vo] w (eI.at S (pInts (inL n o))):=by
 obtain ⟨s,rfl,hs,hb⟩:=hn
 have ho0:=ER.lt eI ho
 refine enter Tryz.func183 O Tryz.ntmps183 O (.beg (.go O (.box O O fun w1 b2 n1=>.goC O ?_)))
 obtain ⟨e1,k2,hb2,hs1⟩:=n1
 replace k2:Blk w1 b2 24 #[.int .i64 n.b,s]:=k2
 have hsW:∀ {W:World},Below w1.heap.size w1 W->eLs.R (fun k=>S k/\k<w.heap.size) W s n.ls:=fun e=>ER.ext eLs (ER.lt eLs hs) (e1.trans e)
 have hoW:∀ {W:World},Below w1.heap.size w1 W->eI.R (fun k=>S k/\k<w.heap.size) W vo o:=fun e=>ER.ext eI ho0 (e1.trans e)
 refine .lp (α:=Nat×Value) [1,2] O (fun y=>[(5,y.2),(6,.int .i64 (y.1:Nat))]) (fun y W=>Ext w1 W/\y.1<=n.ls.length/\OwnL (eInt .i64) 3 w1.heap.size (fun _=>False) W y.2 (pInts (freeTo (oN o) y.1))) (fun y=>n.ls.length-y.1) (0,.slice none 0 0) (lc2 O O) ⟨Ext.refl _,Nat.zero_le _,OwnL.nil⟩ ?_
 rintro ⟨i,v⟩ W ⟨hW,hi,hO⟩
 replace hW:Ext w1 W:=hW
 replace hi:i<=n.ls.length:=hi
 replace hO:OwnL (eInt .i64) 3 w1.heap.size (fun _=>False) W v (pInts (freeTo (oN o) i)):=hO
 have k2:=k2.ext hW
 refine .go O (.fa G8 O O (.ld L3 O O k2 O (.lenR K2 O O (hsW hW) ?_)))
 rcases Nat.lt_or_ge i n.ls.length with hlt | hge
 rotate_left
 ·have:i=n.ls.length:=by omega
  subst this
  refine .lssF O O O (by omega) (.goE O (.plain [_] Tryz.results183 ⟨rfl,trivial⟩ ⟨e1.trans hW,?_⟩))
  exact hO.toR (fun k hk=>up k (by have:=e1.size;omega)) (fun _ h=>h.elim)
 refine .lssT O O O (by omega) (.go O ?_)
 refine .call _ O Aa8 O (AZ0 (k:=((i:Nat):Int)) (hoW hW)) fun v2 W2 d2 h2=>?_
 subst h2
 have hfs:=I6 (oN o) i
 have hW2:=hW.trans d2
 by_cases hm:i∈oN o
 ·rw [if_pos hm,List.append_nil] at hfs
  rw [decide_eq_true ((AB5 hok i).2 hm)]
  exact .go O (.inc O O O (by omega) (.goN O (.mk (i+1,v) O (lc2 O O) ⟨⟨hW2,hlt,by show OwnL _ _ _ _ W2 v (pInts (freeTo (oN o) (i+1)));rw [hfs];exact hO.ext d2⟩,by show n.ls.length-(i+1)<n.ls.length-i;omega⟩)))
 ·rw [if_neg hm] at hfs
  rw [decide_eq_false fun h=>hm ((AB5 hok i).1 h)]
  have hlf:(freeTo (oN o) i).length<=i:=AX3 _ _
  refine .go O (.bsl _ O O AR2 fun W3 b3 n3=>?_)
  obtain ⟨d3,k3,hb3,hs3⟩:=n3
  have hW3:=hW2.trans d3
  refine .gv O O (AG7 (E:=eInt .i64) (base:=w1.heap.size) (n:=((i:Nat):Int)) (e:=.int .i64 (i:Nat)) (by decide) un_I AD1 O O O ((hO.ext d2).ext d3) k3 ⟨rfl,K1.2 (by omega)⟩ (by simp [pInts];omega) (by decide) hW3.size) ?_
  rintro v4 W4 ⟨hO4,g4,_⟩
  have hW4:Ext w1 W4:=OwnL.below ((hO.ext d2).ext d3) g4 hW3 hW3.size
  exact .go O (.inc O O O (by omega) (.goN O (.mk (i+1,v4) O (lc2 O O) ⟨⟨hW4,hlt,by show OwnL _ _ _ _ W4 v4 (pInts (freeTo (oN o) (i+1)));rw [hfs];unfold pInts;rw [List.map_append];exact hO4⟩,by show n.ls.length-(i+1)<n.ls.length-i;omega⟩)))
end Go.Proofs.YtggegpiffjbngaaGreat
namespace Go.Kx
open Go Go.RowKit
section
variable {n:Nw}
theorem Nw.offM_fl (ok:n.Ok) (θ f:Nat->Rat) (hf:∀ k,k<n.M->f k=n.fl θ k) (b:Nat):n.offM f b=n.lap θ b:=by
 unfold Nw.offM Nw.lap Nw.off
 refine A5 fun k hk=>?_
 dsimp only
 by_cases hg:n.g k=0
 ·rw [if_pos hg,Nw.fl_out hg]
 ·rw [if_neg hg,hf k hk]
end
def rstep (n:Nw) (s:Nat->Bool) (k:Nat):Nat->Bool:=if s (n.F k) || s (n.T k) then fun b=>Nat.beq b (n.F k) || Nat.beq b (n.T k) || s b else s
def rpass (n:Nw) (l:List Nat) (s:Nat->Bool):Nat->Bool:=l.foldl (rstep n) s
def rit (n:Nw) (l:List Nat) (s:Nat->Bool):Nat->Nat->Bool
 | 0=>s
 | i+1=>rpass n l (rit n l s i)
theorem BC4 (n:Nw) (l:List Nat) (k:Nat) (s:Nat->Bool):rpass n (l++[k]) s=rstep n (rpass n l s) k:=by unfold rpass;rw [List.foldl_append];rfl
theorem Ag0 {n:Nw} {s:Nat->Bool} {k b:Nat} (h:s b=true):rstep n s k b=true:=by
 unfold rstep
 split
 ·simp [h]
 ·exact h
theorem AT5 {n:Nw} {b:Nat}:∀ (l:List Nat) {s:Nat->Bool},s b=true->rpass n l s b=true
 | [],_,h=>h
 | k::l,_,h=>AT5 l (Ag0 h)
theorem BC3 {n:Nw} {s:Nat->Bool} {k a:Nat} (hk:n.root (n.F k)=n.root (n.T k)) (h:∀ b,s b=true->n.root b=n.root a):∀ b,rstep n s k b=true->n.root b=n.root a:=by
 intro b hb
 unfold rstep at hb
 split at hb
 ·rename_i h1
  simp only [Bool.or_eq_true] at hb h1
  have hF:n.root (n.F k)=n.root a:=by
   rcases h1 with h1 | h1
   ·exact h _ h1
   ·rw [hk];exact h _ h1
  rcases hb with (hb | hb) | hb
  ·rw [Nat.eq_of_beq_eq_true hb];exact hF
  ·rw [Nat.eq_of_beq_eq_true hb,<-hk];exact hF
  ·exact h b hb
 ·exact h b hb
theorem Ag2 {n:Nw} {a:Nat}:∀ (l:List Nat) {s:Nat->Bool},(∀ k∈l,n.root (n.F k)=n.root (n.T k))->(∀ b,s b=true->n.root b=n.root a)->∀ b,rpass n l s b=true->n.root b=n.root a
 | [],_,_,h=>h
 | k::l,_,hl,h=>Ag2 l (fun k' hk'=>hl k' (List.mem_cons_of_mem _ hk')) (BC3 (hl k (List.mem_cons_self ..)) h)
theorem AT6 {n:Nw} {B:Nat}:∀ (l:List Nat) {s:Nat->Bool},(∀ k∈l,n.F k<B/\n.T k<B)->(∀ b,b<B->rpass n l s b=true->s b=true)->∀ k∈l,s (n.F k)=s (n.T k)
 | [],_,_,_,k,hk=>by cases hk
 | j::l,s,hl,h,k,hk=>by
  have hj:=hl j (List.mem_cons_self ..)
  have h1:∀ b,b<B->rstep n s j b=true->s b=true:=fun b hb hs=>h b hb (AT5 l hs)
  rcases List.mem_cons.1 hk with rfl | hk
  ·by_cases hs:(s (n.F k) || s (n.T k))=true
   ·have hF:=h1 _ hj.1 (by unfold rstep;rw [if_pos hs];simp)
    have hT:=h1 _ hj.2 (by unfold rstep;rw [if_pos hs];simp)
    rw [hF,hT]
   ·simp only [Bool.or_eq_true,not_or,Bool.not_eq_true] at hs
    rw [hs.1,hs.2]
  ·have ih:=AT6 (n:=n) (B:=B) l (s:=rstep n s j) (fun k' hk'=>hl k' (List.mem_cons_of_mem _ hk')) (fun b hb hs=>Ag0 (h b hb hs)) k hk
   have hkB:=hl k (List.mem_cons_of_mem _ hk)
   have e:∀ b,b<B->rstep n s j b=s b:=fun b hb=>by
    cases hb':s b with
    | true=>exact Ag0 hb'
    | false =>
     cases hr:rstep n s j b with
     | false=>rfl
     | true=>rw [h1 b hb hr] at hb';cases hb'
   rw [e _ hkB.1,e _ hkB.2] at ih
   exact ih
def cntB (s:Nat->Bool):Nat->Nat
 | 0=>0
 | b+1=>cntB s b+(if s b then 1 else 0)
theorem BK2 (s:Nat->Bool):∀ B,cntB s B<=B
 | 0=>Nat.le_refl _
 | B+1=>by have:=BK2 s B;simp only [cntB];split<;>omega
theorem Ap3 {s t:Nat->Bool} (h:∀ b,s b=true->t b=true):∀ B,cntB s B<=cntB t B
 | 0=>Nat.le_refl _
 | B+1=>by
  have:=Ap3 h B
  simp only [cntB]
  by_cases hs:s B=true
  ·rw [if_pos hs,if_pos (h B hs)];omega
  ·rw [if_neg hs];split<;>omega
theorem As3 {s t:Nat->Bool} (h:∀ b,s b=true->t b=true) {c:Nat} (hs:s c=false) (ht:t c=true):∀ B,c<B->cntB s B+1<=cntB t B
 | 0,hc=>by omega
 | B+1,hc=>by
  simp only [cntB]
  by_cases e:c=B
  ·subst e
   rw [ht,hs]
   have:=Ap3 h c
   simp;omega
  ·have:=As3 h hs ht B (by omega)
   by_cases hs':s B=true
   ·rw [if_pos hs',if_pos (h B hs')];omega
   ·rw [if_neg hs'];split<;>omega
theorem BR6 {n:Nw} {l:List Nat} {s:Nat->Bool} {b:Nat} (h:s b=true):∀ i,rit n l s i b=true
 | 0=>h
 | i+1=>AT5 l (BR6 h i)
theorem rit_fix {n:Nw} {l:List Nat} {s:Nat->Bool} {B:Nat} (hl:∀ k∈l,n.F k<B/\n.T k<B) {i:Nat} (h:∀ b,b<B->rit n l s (i+1) b=true->rit n l s i b=true):∀ k∈l,rit n l s i (n.F k)=rit n l s i (n.T k) :=
 AT6 (B:=B) l hl h
theorem Ag1 {n:Nw} {s:Nat->Bool} {k:Nat} (h:s (n.F k)=s (n.T k)):rstep n s k=s:=by
 unfold rstep
 split
 ·rename_i h1
  rw [h,Bool.or_self] at h1
  have hF:s (n.F k)=true:=by rw [h];exact h1
  funext b
  by_cases e1:b=n.F k
  ·subst e1;simp [hF]
  ·by_cases e2:b=n.T k
   ·subst e2;simp [h1]
   ·simp [AA4 e1,AA4 e2]
 ·rfl
theorem AQ0 {n:Nw}:∀ (l:List Nat) {s:Nat->Bool},(∀ k∈l,s (n.F k)=s (n.T k))->rpass n l s=s
 | [],_,_=>rfl
 | k::l,s,h=>by
  show rpass n l (rstep n s k)=s
  rw [Ag1 (h k (List.mem_cons_self ..))]
  exact AQ0 l fun k' hk'=>h k' (List.mem_cons_of_mem _ hk')
theorem BC5 {n:Nw} {l:List Nat} {s:Nat->Bool} {B:Nat} (hl:∀ k∈l,n.F k<B/\n.T k<B) {a:Nat} (ha:a<B) (hs:s a=true):∀ k∈l,rit n l s B (n.F k)=rit n l s B (n.T k):=by
 have key:∀ i,(∀ k∈l,rit n l s i (n.F k)=rit n l s i (n.T k))\/i+1<=cntB (rit n l s i) B:=by
  intro i
  induction i with
  | zero =>
   right
   have:=As3 (s:=fun _=>false) (t:=rit n l s 0) (fun b h=>by cases h) (c:=a) rfl hs B ha
   omega
  | succ i ih =>
   rcases ih with ih | ih
   ·left
    have e:rit n l s (i+1)=rit n l s i:=AQ0 l ih
    rw [e];exact ih
   ·by_cases hst:∀ b,b<B->rit n l s (i+1) b=true->rit n l s i b=true
    ·left
     have h1:=rit_fix hl hst
     have e:rit n l s (i+1)=rit n l s i:=AQ0 l h1
     rw [e];exact h1
    ·right
     obtain ⟨b,hb⟩:=Classical.not_forall.1 hst
     obtain ⟨hb1,hb2⟩:=Classical.not_imp.1 hb
     obtain ⟨hb2,hb3⟩:=Classical.not_imp.1 hb2
     have:=As3 (s:=rit n l s i) (t:=rit n l s (i+1)) (fun c h=>AT5 l h) (c:=b) (by simpa using hb3) hb2 B hb1
     omega
 rcases key B with h | h
 ·exact h
 ·have:=BK2 (rit n l s B) B
  omega
theorem rit_iff {n:Nw} (ok:n.Ok) {l:List Nat} (hl:∀ k,k∈l<->k<n.M/\n.g k≠0) {a b:Nat} (ha:a<n.B):rit n l (fun c=>Nat.beq c a) n.B b=true<->n.root b=n.root a:=by
 have hlB:∀ k∈l,n.F k<n.B/\n.T k<n.B:=fun k hk=>⟨ok.f k ((hl k).1 hk).1,ok.t k ((hl k).1 hk).1⟩
 have hs0:(fun c=>Nat.beq c a) a=true:=by simp
 have hs1:∀ b,(fun c=>Nat.beq c a) b=true->n.root b=n.root a:=fun b hb=>by rw [Nat.eq_of_beq_eq_true hb]
 generalize (fun c=>Nat.beq c a)=s0 at *
 constructor
 ·have:∀ i b,rit n l s0 i b=true->n.root b=n.root a:=by
   intro i
   induction i with
   | zero=>exact hs1
   | succ i ih=>exact Ag2 l (fun k hk=>n.root_line ((hl k).1 hk).1 ((hl k).1 hk).2) ih
  exact this _ b
 ·intro hr
  have hcl:=BC5 (n:=n) (l:=l) hlB ha hs0
  have hc:=n.root_const (θ:=fun b=>if rit n l s0 n.B b then 1 else 0) (fun k hk hg=>by
   rw [hcl k ((hl k).2 ⟨hk,hg⟩)])
  have h1:=hc a
  have h2:=hc b
  rw [hr,h1,if_pos (BR6 hs0 _)] at h2
  split at h2
  ·assumption
  ·exact absurd h2 (by decide)
end Go.Kx
namespace Go.Proofs.YtggegpiffjbngaaGreat
open Go Go.Kx Go.RowKit
end Go.Proofs.YtggegpiffjbngaaGreat
namespace Go.Kx
open Go Go.RowKit
theorem rsz_z {n:Int} (h:n.natAbs<=1208925819614629174706176):Rsz ((n:Int):Rat) 3:=Rsz.int _ (by
 have:(4294967296:Nat) ^ 3=79228162514264337593543950336:=by decide
 omega) (by decide)
end Go.Kx
namespace Go.Proofs.YtggegpiffjbngaaGreat
open Go Go.Kx Go.RowKit
end Go.Proofs.YtggegpiffjbngaaGreat
namespace Go.Kx
open Go Go.RowKit
end Go.Kx
namespace Go.Proofs.YtggegpiffjbngaaGreat
open Go Go.Kx Go.RowKit
end Go.Proofs.YtggegpiffjbngaaGreat
namespace Go.Kx
open Go Go.RowKit
abbrev eBs:ER (List Bool):=RL eBool
def bl (B:Nat) (s:Nat->Bool):List Bool:=(List.range B).map s
theorem S9 (B:Nat) (s:Nat->Bool):(bl B s).length=B:=by simp [bl]
theorem BF6 {B i:Nat} {s:Nat->Bool} (h:i<B):(bl B s)[i]?=some (s i):=by unfold bl;rw [List.getElem?_map,List.getElem?_range h];rfl
theorem Aj1 {B:Nat} {s t:Nat->Bool} (h:∀ b,b<B->s b=t b):bl B s=bl B t:=List.map_congr_left fun b hb=>h b (List.mem_range.1 hb)
theorem BF5 {B i:Nat} {s:Nat->Bool}:(bl B s).set i true=bl B fun b=>Nat.beq b i || s b:=by
 refine List.ext_getElem (by simp [bl]) fun j h1 h2=>?_
 rw [List.getElem_set]
 by_cases e:i=j
 ·subst e;simp [bl]
 ·have:Nat.beq j i=false:=by
   cases h:Nat.beq j i with
   | false=>rfl
   | true=>exact absurd (Nat.eq_of_beq_eq_true h).symm e
  rw [if_neg e];simp [bl,this]
theorem bl_none (B:Nat):List.replicate B false=bl B fun _=>false:=by
 refine List.ext_getElem (by simp [bl]) fun j h1 h2=>?_
 simp [bl]
theorem BK5 {B:Nat} {n:Nw} {s:Nat->Bool} {k:Nat} (h:(s (n.F k) || s (n.T k))=true):((bl B s).set (n.F k) true).set (n.T k) true=bl B (rstep n s k):=by
 rw [BF5,BF5]
 unfold rstep
 rw [if_pos h]
 exact Aj1 fun b _=>by
  show (Nat.beq b (n.T k) || (Nat.beq b (n.F k) || s b))=(Nat.beq b (n.F k) || Nat.beq b (n.T k) || s b)
  cases Nat.beq b (n.T k)<;>cases Nat.beq b (n.F k)<;>rfl
end Go.Kx
namespace Go.Proofs.YtggegpiffjbngaaGreat
open Go Go.Kx Go.RowKit
theorem inL_iff {n:NtV} {o:List Int} (ok:nwOk n o) (k:Nat):k∈inL n o<->k<(nwOf n o).M/\(nwOf n o).g k≠0:=by
 unfold inL freeTo
 rw [List.mem_filter,List.mem_range]
 show k<n.ls.length/\_<->k<n.ls.length/\_
 constructor
 ·rintro ⟨h1,h2⟩
  refine ⟨h1,?_⟩
  have hx:=ok.x k h1
  have h2:k∉oN o:=by simpa using h2
  show (if k∈oN o then (0:Rat) else ((n.ls.getD k ln0).x:Rat)⁻¹)≠0
  rw [if_neg h2]
  intro h
  have h3:(((n.ls.getD k ln0).x:Int):Rat)≠0:=by
   intro h
   have:=Rat.intCast_inj.1 (h.trans Rat.intCast_zero.symm)
   omega
  have:=Rat.mul_inv_cancel _ h3
  rw [h,Rat.mul_zero] at this
  exact absurd this (by decide)
 ·rintro ⟨h1,h2⟩
  refine ⟨h1,?_⟩
  have:k∉oN o:=fun hm=>h2 (show (if k∈oN o then (0:Rat) else ((n.ls.getD k ln0).x:Rat)⁻¹)=0 by rw [if_pos hm])
  simpa using this
theorem Am1:Ent Tryz.prog 129:=A0 Tryz.func129 (by kernel_rfl) rfl
set_option maxRecDepth 8000 in
theorem Ak8 {S:Nat->Prop} {w:World} {vn vo:Value} {n:NtV} {o:List Int} {a:Nat} (up:Up S w) (hn:eN.R S w vn n) (ho:eI.R S w vo o) (ok:nwOk n o) (ha:a<(nwOf n o).B):CR Tryz.prog 129 #[vn,vo,.int .i64 (a:Nat)] w (eBs.at S (bl (nwOf n o).B fun b=>decide ((nwOf n o).root b=(nwOf n o).root a))):=by
 obtain ⟨s,rfl,hs,hb⟩:=hn
 have hn:eN.R S w (.agg #[.int .i64 n.b,s]) n:=⟨s,rfl,hs,hb⟩
 have hnb:=ok.b
 have hB6:=ok.b6
 have hM:n.ls.length<=10:=ok.m
 rw [hnb] at hn
 rw [hnb]
 refine enter Tryz.func129 O Tryz.ntmps129 O (.beg (.go O (.box O O fun w1 b3 n1=>.go O ?_)))
 obtain ⟨e1,k3,hb3,hs1⟩:=n1
 replace k3:Blk w1 b3 24 #[.int .i64 ((nwOf n o).B:Nat),s]:=k3
 refine .fa E9 O O (.go O (.ld A4 O O k3 O ?_))
 refine .make_ _ _ un_B BU5 O (by decide) O O O (Nat.le_refl _) (by omega) (by omega) fun w2 g n2=>?_
 have f2:FB eBool 4 S w2 g (List.replicate (nwOf n o).B false):=FB.made n2 rfl
 obtain ⟨e2,_,hg,hs2⟩:=n2
 have k3:=k3.ext e2
 have hsg:S g:=up g (by have:=e1.size;omega)
 refine .go O (.ixB (i:=a) un_B B3 O O O ha (.storeF (E:=eBool) (i:=a) (z:=true) (by decide) B3 O O f2 O (by rw [List.length_replicate];exact ha) (Nat.zero_add _) O fun w3 f3 u3=>?_))
 rw [bl_none,BF5] at f3
 have hW3:Ext w1 w3:=u3.below e2 (by omega)
 have x3:=e1.trans hW3
 have k3:=k3.upd u3 (by omega)
 have k3b:∀ {W:World},Ext w1 W->Blk W b3 24 #[.int .i64 ((nwOf n o).B:Nat),s]:=fun e=>(show Blk w1 b3 24 _ from by assumption).ext e
 have hsW:∀ {W:World},Ext w1 W->eLs.R S W s n.ls:=fun e=>ER.ext eLs hs (e1.trans e)
 have hnW:eN.R (fun k=>k≠g) w3 (.agg #[.int .i64 ((nwOf n o).B:Nat),s]) n:=ER.ext eN (eN.mono (fun k _ h=>by have:=h.2;have:=e1.size;omega) (ER.lt eN hn)) x3
 have hoW:eI.R (fun k=>k≠g) w3 vo o:=ER.ext eI (eI.mono (fun k _ h=>by have:=h.2;have:=e1.size;omega) (ER.lt eI ho)) x3
 refine .go O (.ldA ty_N O O k3 O (.go O ?_))
 refine .call _ O BF9 O (BC6 (S:=(fun k=>k≠g)) (fun k hk=>by have:=u3.size;omega) hnW hoW ok.outs (by omega)) fun vl w4 e4 hl=>?_
 have hL10:(inL n o).length<=10:=Nat.le_trans (AU2 n o) hM
 have f4:=f3.ext e4
 have hW4:=hW3.trans e4
 generalize hI:(fun c=>Nat.beq c a)=I0
 have f4:FB eBool 4 S w4 g (bl (nwOf n o).B I0):=by
  rw [<-hI]
  refine cast (congrArg _ (Aj1 fun b _=>?_)) f4
  show (Nat.beq b a || false)=Nat.beq b a
  cases Nat.beq b a<;>rfl
 refine .goC O ?_
 refine .lp (α:=Nat) [3,7,8] O (fun i=>[(9,.int .i64 (i:Nat))]) (fun i W=>Ext w1 W/\i<=(nwOf n o).B/\FB eBool 4 S W g (bl (nwOf n o).B (rit (nwOf n o) (inL n o) I0 i))/\eI.R (fun k=>k≠g) W vl (pInts (inL n o))) (fun i=>(nwOf n o).B-i) 0 (lc1 O) ⟨hW4,Nat.zero_le _,f4,hl⟩ ?_
 clear f2 f3 f4 hl k3
 rintro i W ⟨hW,hi,fb,hl⟩
 have k3:=k3b hW
 have lg:=fb.lt
 refine .go O (.fa E9 O O (.go O (.ld A4 O O k3 O (.go O ?_))))
 rcases Nat.lt_or_ge i (nwOf n o).B with hlt | hge
 rotate_left
 ·have:i=(nwOf n o).B:=by omega
  subst this
  have r:=fb.toR (hsz:=by decide) (c:=(nwOf n o).B) hsg (by rw [S9];exact Nat.le_refl _) (by rw [S9];omega)
  rw [S9,<-hI] at r
  refine .lssF O O O (by omega) (.goE O (.plain [_] Tryz.results129 ⟨rfl,trivial⟩ ⟨e1.trans hW,?_⟩))
  have he:bl (nwOf n o).B (rit (nwOf n o) (inL n o) (fun c=>Nat.beq c a) (nwOf n o).B)=bl (nwOf n o).B fun b=>decide ((nwOf n o).root b=(nwOf n o).root a):=Aj1 fun b _=>Bool.eq_iff_iff.2 ((rit_iff ok.ok (inL_iff ok) ha).trans decide_eq_true_iff.symm)
  rw [he] at r
  exact r
 refine .lssT O O O (by omega) (.goC O ?_)
 refine .lp (α:=Nat) [3,7,8,9] O (fun j=>[(10,.int .i64 (j:Nat))]) (fun j W'=>Ext w1 W'/\j<=(inL n o).length/\FB eBool 4 S W' g (bl (nwOf n o).B (rpass (nwOf n o) ((inL n o).take j) (rit (nwOf n o) (inL n o) I0 i)))/\eI.R (fun k=>k≠g) W' vl (pInts (inL n o))) (fun j=>(inL n o).length-j) 0 (lc1 O) ⟨hW,Nat.zero_le _,fb,hl⟩ ?_
 clear fb hl k3 lg hW
 rintro j W ⟨hW,hj,fb,hl⟩
 have k3:=k3b hW
 have lg:=fb.lt
 have hpl:(pInts (inL n o)).length=(inL n o).length:=by simp [pInts]
 refine .go O (.lenR un_I O O hl ?_)
 rw [hpl]
 rcases Nat.lt_or_ge j (inL n o).length with hjl | hge
 rotate_left
 ·have:j=(inL n o).length:=by omega
  subst this
  rw [List.take_length] at fb
  exact .lssF O O O (by omega) (.go O (.inc O O O (by omega) (.goN O (.mk (i+1) O (lc1 O) ⟨⟨hW,hlt,fb,hl⟩,by show (nwOf n o).B-(i+1)<(nwOf n o).B-i;omega⟩))))
 obtain ⟨hgj,hkl,_⟩:=Ad4 hjl
 have htk:(inL n o).take (j+1)=(inL n o).take j++[(inL n o).getD j 0]:=by
  rw [List.take_add_one,List.getElem?_eq_getElem hjl,List.getD_eq_getElem?_getD,List.getElem?_eq_getElem hjl];rfl
 have hps:rpass (nwOf n o) ((inL n o).take (j+1)) (rit (nwOf n o) (inL n o) I0 i)=rstep (nwOf n o) (rpass (nwOf n o) ((inL n o).take j) (rit (nwOf n o) (inL n o) I0 i)) ((inL n o).getD j 0):=by rw [htk,BC4]
 generalize (inL n o).getD j 0=k at hgj hkl hps
 generalize rpass (nwOf n o) ((inL n o).take j) (rit (nwOf n o) (inL n o) I0 i)=st at fb hps
 have hgl:n.ls[k]?=some (n.ls.getD k ln0):=A6 hkl
 have hF:=ok.f k hkl
 have hT:=ok.t k hkl
 have hFI:=ok.fI k hkl
 have hTI:=ok.tI k hkl
 generalize n.ls.getD k ln0=ln at hgl hFI hTI
 refine .lssT O O O (by omega) (.goC O ?_)
 refine .par follows 9 [.inl _,.inl s,.inl _,.inl _,.inr (Ptr (eInt .i64) (fun k=>k≠g) ((k:Nat):Int)),.inl (.int .i64 (k:Nat)),.inr (Ptr eL S ln),.inr (eL.at S ln),.inr (NewP W.heap.size 58 (Value.agg #[.int .i64 0,.int .i64 0,.int .i64 0,.int .i64 0]).cells)] [[],[(33,0)],[],[],[(35,2),(36,3)],[(37,4)],[(34,1),(38,5)],[(39,6)],[]] (by kernel_rfl) ⟨
  fun w e=>(v_fa G8 O).ob,
  fun w e=>(v_ld L3 O (k3.ext e) O).ob,
  fun w e=>(v_mv O).ob,
  fun w e=>(v_mv O).ob,
  fun w e=>B7 (i:=j) un_I B6 O (ER.ext eI hl e) O hgj,
  fun w e x4 hx4=>H7 A4 O hx4,
  fun w e=>B7 (i:=k) K2 O9 O (hsW (hW.trans e)) O hgl,
  fun w e x6 hx6=>J2 O9 O hx6,
  fun w e=>Z9 Ad0 e.size,trivial⟩ ?_
 rintro W1 d1 _ _ _ _ vl7 hl7 _ ⟨c,rfl,hc,kc⟩
 refine .storeA (E:=eL) (S:=fun k=>k≠c) O9 O O kc O O hl7 (fun h=>h O) fun W2 kc u2 hl2=>?_
 obtain ⟨rfl,_⟩:=hl2
 replace kc:Blk W2 c 58 #[.int .i64 ln.f,.int .i64 ln.t,.int .i64 ln.x,.int .i64 ln.c]:=kc
 rw [hFI,hTI] at kc
 have D:Ext W W2:=u2.below d1 hc
 have hcg:c≠g:=by omega
 have hgc:g≠c:=fun h=>hcg h.symm
 have fb:=fb.ext D
 have hl2:=ER.ext eI hl D
 have hW2:=hW.trans D
 have hg1:w1.heap.size<=g:=by omega
 refine .go O (.fa N8 O O (.go O (.ld A4 O O kc O (.go O (.ixB (i:=(nwOf n o).F k) un_B B3 O O O hF (.ldF (E:=eBool) (i:=(nwOf n o).F k) (by decide) B3 O O (Nat.zero_add _) fb (BF6 hF) fun e he=>?_))))))
 replace he:e=.bool (st ((nwOf n o).F k)):=he
 subst he
 cases hs1':st ((nwOf n o).F k) with
 | true =>
  refine .go O (.fa N8 O O (.go O (.ld A4 O O kc O (.go O (.ixB (i:=(nwOf n o).F k) un_B B3 O O O hF (.storeF (E:=eBool) (i:=(nwOf n o).F k) (z:=true) (by decide) B3 O O fb O (by rw [S9];exact hF) (Nat.zero_add _) O fun W3 fb u3=>?_))))))
  have kc:=kc.upd u3 (by omega)
  refine .go O (.fa N7 O O (.go O (.ld A4 O O kc O (.go O (.ixB (i:=(nwOf n o).T k) un_B B3 O O O hT (.storeF (E:=eBool) (i:=(nwOf n o).T k) (z:=true) (by decide) B3 O O fb O (by rw [List.length_set,S9];exact hT) (Nat.zero_add _) O fun W4 fb u4=>?_))))))
  rw [BK5 (by rw [hs1'];rfl),<-hps] at fb
  exact .go O (.inc O O O (by omega) (.goN O (.mk (j+1) O (lc1 O) ⟨⟨u4.below (u3.below hW2 (by omega)) (by omega),hjl,fb,eI.upd (eI.upd hl2 u3 (fun h=>h O)) u4 (fun h=>h O)⟩,by show (inL n o).length-(j+1)<(inL n o).length-j;omega⟩)))
 | false =>
 refine .go O (.fa N7 O O (.go O (.ld A4 O O kc O (.go O (.ixB (i:=(nwOf n o).T k) un_B B3 O O O hT (.go O (.ldF (E:=eBool) (i:=(nwOf n o).T k) (by decide) B3 O O (Nat.zero_add _) fb (BF6 hT) fun e he=>?_)))))))
 replace he:e=.bool (st ((nwOf n o).T k)):=he
 subst he
 cases hs2':st ((nwOf n o).T k) with
 | true =>
  refine .go O (.fa N8 O O (.go O (.ld A4 O O kc O (.go O (.ixB (i:=(nwOf n o).F k) un_B B3 O O O hF (.storeF (E:=eBool) (i:=(nwOf n o).F k) (z:=true) (by decide) B3 O O fb O (by rw [S9];exact hF) (Nat.zero_add _) O fun W3 fb u3=>?_))))))
  have kc:=kc.upd u3 (by omega)
  refine .go O (.fa N7 O O (.go O (.ld A4 O O kc O (.go O (.ixB (i:=(nwOf n o).T k) un_B B3 O O O hT (.storeF (E:=eBool) (i:=(nwOf n o).T k) (z:=true) (by decide) B3 O O fb O (by rw [List.length_set,S9];exact hT) (Nat.zero_add _) O fun W4 fb u4=>?_))))))
  rw [BK5 (by rw [hs2'];cases st ((nwOf n o).F k)<;>rfl),<-hps] at fb
  exact .go O (.inc O O O (by omega) (.goN O (.mk (j+1) O (lc1 O) ⟨⟨u4.below (u3.below hW2 (by omega)) (by omega),hjl,fb,eI.upd (eI.upd hl2 u3 (fun h=>h O)) u4 (fun h=>h O)⟩,by show (inL n o).length-(j+1)<(inL n o).length-j;omega⟩)))
 | false =>
 have hsm:rstep (nwOf n o) st k=st:=Ag1 (by rw [hs1',hs2'])
 rw [hsm] at hps
 exact .go O (.inc O O O (by omega) (.goN O (.mk (j+1) O (lc1 O) ⟨⟨hW2,hjl,by show FB _ _ _ W2 _ (bl _ (rpass _ ((inL n o).take (j+1)) _));rw [hps];exact fb,hl2⟩,by show (inL n o).length-(j+1)<(inL n o).length-j;omega⟩)))
theorem Aj5:Ent Tryz.prog 64:=A0 Tryz.func64 (by kernel_rfl) rfl
set_option maxRecDepth 8000 in
theorem Ag4 {S:Nat->Prop} {w:World} {vn vo:Value} {n:NtV} {o:List Int} (up:Up S w) (hn:eN.R S w vn n) (ho:eI.R S w vo o) :
  CR Tryz.prog 64 #[vn,vo] w (Two (eI.at S (if outE n o=0 then tabI (nwOf n o).B (nwOf n o).lab else [])) (Is (.int .i64 (outE n o)))):=by
 obtain ⟨s,rfl,hs,hb⟩:=hn
 have hn:eN.R S w (.agg #[.int .i64 n.b,s]) n:=⟨s,rfl,hs,hb⟩
 refine enter Tryz.func64 O Tryz.ntmps64 O (.beg (.go O (.box O O fun w1 b2 n1=>.go O ?_)))
 obtain ⟨e1,k2,hb2,hs1⟩:=n1
 replace k2:Blk w1 b2 24 #[.int .i64 n.b,s]:=k2
 refine .ldA ty_N O O k2 O (.go O ?_)
 refine .call _ O Y8 O (X9 (hn.ext e1) (ho.ext e1)) fun v3 w3 e3 h3=>?_
 subst h3
 have x3:=e1.trans e3
 refine .go O ?_
 by_cases hO:outE n o=0
 rotate_left
 ·refine .neqT O O O hO (.goE O (.plain [_,_] Tryz.results64 ⟨rfl,rfl,trivial⟩ ⟨x3,_,_,rfl,?_,rfl⟩))
  rw [if_neg hO]
  exact RL.nil
 have ok:=V4 hO
 have hnb:=ok.b
 have hB6:=ok.b6
 rw [if_pos hO,hO]
 have k2:=k2.ext e3
 rw [hnb] at k2 hn
 refine .neqF O O O O (.go O (.fa E9 O O (.go O (.ld A4 O O k2 O ?_))))
 refine .make_ _ _ un_I AD1 O (by decide) O O O (Nat.le_refl _) (by omega) (by omega) fun w4 g n4=>?_
 have f4:FB (eInt .i64) 3 S w4 g (List.replicate (nwOf n o).B (0:Int)):=FB.made n4 ⟨rfl,K1.2 (by decide)⟩
 obtain ⟨e4,_,hg,hs4⟩:=n4
 have hsg:S g:=up g (by have:=x3.size;omega)
 have z3:=x3.size
 have hnW:∀ {W:World},Ext w3 W->eN.R (fun k=>k≠g) W (.agg #[.int .i64 ((nwOf n o).B:Nat),s]) n:=fun e=>ER.ext eN (eN.mono (fun k _ h=>by have:=h.2;omega) (ER.lt eN hn)) (x3.trans e)
 have hoW:∀ {W:World},Ext w3 W->eI.R (fun k=>k≠g) W vo o:=fun e=>ER.ext eI (eI.mono (fun k _ h=>by have:=h.2;omega) (ER.lt eI ho)) (x3.trans e)
 generalize hf:(fun b=>(((nwOf n o).lab b:Nat):Int))=f
 refine .goC O ?_
 refine .lp (α:=Nat) [1,2,7] O (fun b=>[(8,.int .i64 ((nwOf n o).cnt b:Nat)),(9,.int .i64 (b:Nat))]) (fun b W=>Ext w3 W/\b<=(nwOf n o).B/\FB (eInt .i64) 3 S W g (fil (nwOf n o).B b f 0)) (fun b=>(nwOf n o).B-b) 0 (lc2 O O) ⟨e4,Nat.zero_le _,by rw [R4];exact f4⟩ ?_
 rintro b W ⟨hW,hbB,fb⟩
 have k2:=k2.ext hW
 have lg:=fb.lt
 refine .go O (.fa E9 O O (.go O (.ld A4 O O k2 O (.go O ?_))))
 rcases Nat.lt_or_ge b (nwOf n o).B with hlt | hge
 rotate_left
 ·have:b=(nwOf n o).B:=by omega
  subst this
  rw [AN3] at fb
  have r:=fb.toR (hsz:=by decide) (c:=(nwOf n o).B) hsg (by simp) (by simp;omega)
  rw [List.length_map,List.length_range,<-hf] at r
  exact .lssF O O O (by omega) (.goE O (.plain [_,_] Tryz.results64 ⟨rfl,rfl,trivial⟩ ⟨x3.trans hW,_,_,rfl,r,rfl⟩))
 refine .lssT O O O (by omega) (.go O (.ldA ty_N O O k2 O (.go O ?_)))
 refine .call _ O Am1 O (Ak8 (S:=fun k=>k≠g) (a:=b) (fun k hk=>by omega) (hnW hW) (hoW hW) ok hlt) fun vr W1 d1 hr=>?_
 have hW1:=hW.trans d1
 have fb:=fb.ext d1
 have hrb:=(nwOf n o).root_le b
 have hcb:=(nwOf n o).cnt_le b
 refine .goC O ?_
 refine .lp (α:=Nat) [1,2,7,8,9,10] O (fun c=>[(11,.int .i64 (c:Nat))]) (fun c W'=>W'=W1/\c<=(nwOf n o).root b) (fun c=>(nwOf n o).root b-c) 0 (lc1 O) ⟨rfl,Nat.zero_le _⟩ ?_
 rintro c W' ⟨rfl,hc⟩
 refine .go O (.ixN (i:=c) un_B B3 O O hr O (BF6 (by omega)) fun p hp=>.ldE (E:=eBool) B3 O O hp fun e he=>?_)
 replace he:e=.bool (decide ((nwOf n o).root c=(nwOf n o).root b)):=he
 subst he
 by_cases hcr:(nwOf n o).root c=(nwOf n o).root b
 rotate_left
 ·rw [decide_eq_false hcr]
  have hne:c≠(nwOf n o).root b:=fun h=>hcr (by rw [h,Nw.root_root])
  exact .go O (.inc O O O (by omega) (.goN O (.mk (c+1) O (lc1 O) ⟨⟨rfl,by omega⟩,by show (nwOf n o).root b-(c+1)<(nwOf n o).root b-c;omega⟩)))
 rw [decide_eq_true hcr]
 have hce:c=(nwOf n o).root b:=by have:=(nwOf n o).root_le c;omega
 subst hce
 refine .go O ?_
 have hcs:=(nwOf n o).cnt_succ b
 by_cases hrr:(nwOf n o).root b=b
 ·rw [if_pos hrr] at hcs
  have hfb:f b=(((nwOf n o).cnt b:Nat):Int):=by rw [<-hf];show (((nwOf n o).lab b:Nat):Int)=_;rw [Nw.lab_root _ hrr]
  refine .eqlT O O O (by rw [hrr]) (.go O (.ixB (i:=b) un_I B6 O O O hlt (.storeF (E:=eInt .i64) (i:=b) (z:=f b) (by decide) B6 O O fb O (by rw [L2];exact hlt) (Nat.zero_add _) ⟨by rw [hfb],K1.2 (by omega)⟩ fun W2 f2 u2=>?_)))
  rw [U1] at f2
  refine .go O (.inc O O O (by omega) (.go O (.inc O O O (by omega) ?_)))
  exact .goN O (.mk (b+1) O (lc2 (by rw [hcs];rfl) O) ⟨⟨u2.below hW1 (by omega),hlt,f2⟩,by show (nwOf n o).B-(b+1)<(nwOf n o).B-b;omega⟩)
 ·rw [if_neg hrr,Nat.add_zero] at hcs
  have hlb:f ((nwOf n o).root b)=f b:=by rw [<-hf];show (((nwOf n o).lab _:Nat):Int)=(((nwOf n o).lab b:Nat):Int);rw [<-Nw.lab_of]
  refine .eqlF O O O (by omega) (.go O (.ixB (i:=(nwOf n o).root b) un_I B6 O O O (by omega) (.ldF (E:=eInt .i64) (i:=(nwOf n o).root b) (by decide) B6 O O (Nat.zero_add _) fb (BJ9 (by omega) (by omega)) fun e he=>.ixB (i:=b) un_I B6 O O O hlt ?_)))
  rw [hlb] at he
  refine .storeF (E:=eInt .i64) (i:=b) (z:=f b) (by decide) B6 O O fb O (by rw [L2];exact hlt) (Nat.zero_add _) he fun W2 f2 u2=>?_
  rw [U1] at f2
  refine .go O (.inc O O O (by omega) ?_)
  exact .goN O (.mk (b+1) O (lc2 (by rw [hcs];rfl) O) ⟨⟨u2.below hW1 (by omega),hlt,f2⟩,by show (nwOf n o).B-(b+1)<(nwOf n o).B-b;omega⟩)
end Go.Proofs.YtggegpiffjbngaaGreat
namespace Go.Kx
open Go Go.RowKit Go.Proofs.YtggegpiffjbngaaGreat
noncomputable def labB (n:NtV) (o:List Int):Nat:=if outE n o=0 then (nwOf n o).B else 0
theorem BJ0 (n:NtV) (o:List Int):labB n o<=6:=by
 unfold labB
 split
 ·exact (V4 (by assumption)).b6
 ·omega
theorem Ax5 (n:NtV) (o:List Int):(if outE n o=0 then tabI (nwOf n o).B (nwOf n o).lab else [])=tabI (labB n o) (nwOf n o).lab:=by
 unfold labB
 split
 ·rfl
 ·rfl
def Nw.withTo (n:Nw) (k b:Nat):List Nat:=(List.range b).filter fun c=>decide (n.lab c=k)
theorem Nw.withTo_succ (n:Nw) (k b:Nat):n.withTo k (b+1)=n.withTo k b++if n.lab b=k then [b] else []:=by
 unfold Nw.withTo
 rw [List.range_succ,List.filter_append]
 by_cases h:n.lab b=k
 ·simp [h]
 ·simp [h]
theorem Nw.withTo_le (n:Nw) (k b:Nat):(n.withTo k b).length<=b:=by
 unfold Nw.withTo
 exact Nat.le_trans (List.length_filter_le ..) (by rw [List.length_range];exact Nat.le_refl _)
noncomputable def rMemb (n:NtV) (o:List Int):List (List Int):=(List.range ((nwOf n o).refsTo (labB n o)).length).map fun k=>pInts ((nwOf n o).withTo k (labB n o))
end Go.Kx
namespace Go.Proofs.YtggegpiffjbngaaGreat
open Go Go.Kx Go.RowKit
theorem bsl_IIq {a:Option Addr} {n c:Nat}:bslOf Tryz.prog 47 1 [(0,.slice a n c)]=some (25,#[.slice a n c]):=by kernel_rfl
theorem AV7:Ent Tryz.prog 65:=A0 Tryz.func65 (by kernel_rfl) rfl
set_option maxRecDepth 8000 in
theorem AT7 {S:Nat->Prop} {w:World} {vn vo:Value} {n:NtV} {o:List Int} (up:Up S w) (hn:eN.R S w vn n) (ho:eI.R S w vo o) :
  CR Tryz.prog 65 #[vn,vo] w (Two (eI.at S (pInts ((nwOf n o).refsTo (labB n o)))) (Is (.int .i64 (outE n o)))):=by
 obtain ⟨s,rfl,hs,hb⟩:=hn
 have hn:eN.R S w (.agg #[.int .i64 n.b,s]) n:=⟨s,rfl,hs,hb⟩
 refine enter Tryz.func65 O Tryz.ntmps65 O (.beg (.go O (.box O O fun w1 b2 n1=>.go O ?_)))
 obtain ⟨e1,k2,hb2,hs1⟩:=n1
 refine .ldA ty_N O O k2 O (.go O ?_)
 refine .call _ O Aj5 O (Ag4 (up.ext e1.size) (hn.ext e1) (ho.ext e1)) fun v3 w3 e3 h3=>?_
 obtain ⟨vl,ve,rfl,hl,he⟩:=h3
 replace he:ve=.int .i64 (outE n o):=he
 subst he
 rw [Ax5] at hl
 have hB6:=BJ0 n o
 have x3:=e1.trans e3
 have z3:=x3.size
 generalize labB n o=B at hl hB6 ⊢
 refine .goC O ?_
 refine .lp (α:=Nat×Value) [6,7] O (fun y=>[(8,y.2),(9,.int .i64 (y.1:Nat))]) (fun y W=>Ext w3 W/\y.1<=B/\OwnL (eInt .i64) 3 w3.heap.size (fun _=>False) W y.2 (pInts ((nwOf n o).refsTo y.1))) (fun y=>B-y.1) (0,.slice none 0 0) (lc2 O O) ⟨Ext.refl _,Nat.zero_le _,OwnL.nil⟩ ?_
 rintro ⟨b,v⟩ W ⟨hW,hbB,hO⟩
 replace hW:Ext w3 W:=hW
 replace hbB:b<=B:=hbB
 replace hO:OwnL (eInt .i64) 3 w3.heap.size (fun _=>False) W v (pInts ((nwOf n o).refsTo b)):=hO
 refine .go O (.lenR un_I O O (ER.ext eI hl hW) ?_)
 rw [M7]
 rcases Nat.lt_or_ge b B with hlt | hge
 rotate_left
 ·have:b=B:=by omega
  subst this
  exact .lssF O O O (by omega) (.goE O (.plain [_,_] Tryz.results65 ⟨rfl,rfl,trivial⟩ ⟨x3.trans hW,_,_,rfl,hO.toR (fun k hk=>up k (by omega)) (fun _ h=>h.elim),rfl⟩))
 have hcl:=(nwOf n o).cnt_le b
 have hlen:(pInts ((nwOf n o).refsTo b)).length=(nwOf n o).cnt b:=by simp [pInts,Nw.refsTo_len]
 have hrs:=(nwOf n o).refsTo_succ b
 refine .lssT O O O (by omega) (.go O (.ixN (i:=b) un_I B6 O O (ER.ext eI hl hW) O (AE4 hlt) fun q hq=>.ldE (E:=eInt .i64) B6 O O hq fun e he=>.go O (.lenR un_I O O (hO.toR (hsz:=by decide) (S:=fun _=>True) (fun _ _=>trivial) (fun _ h=>h.elim)) ?_)))
 obtain ⟨rfl,_⟩:=he
 rw [hlen]
 by_cases hr:(nwOf n o).root b=b
 ·rw [if_pos hr] at hrs
  have h1:=((nwOf n o).lab_cnt b).2 hr
  refine .eqlT O O O (by rw [h1]) (.go O (.bsl _ O O AR2 fun W3 b3 n3=>?_))
  obtain ⟨d3,k3,hb3,hs3⟩:=n3
  have hW3:=hW.trans d3
  refine .gv O O (AG7 (E:=eInt .i64) (base:=w3.heap.size) (n:=((b:Nat):Int)) (e:=.int .i64 (b:Nat)) (by decide) un_I AD1 O O O (hO.ext d3) k3 ⟨rfl,K1.2 (by omega)⟩ (by rw [hlen];omega) (by decide) hW3.size) ?_
  rintro v4 W4 ⟨hO4,g4,_⟩
  have hW4:Ext w3 W4:=OwnL.below (hO.ext d3) g4 hW3 hW3.size
  exact .go O (.inc O O O (by omega) (.goN O (.mk (b+1,v4) O (lc2 O O) ⟨⟨hW4,hlt,by show OwnL _ _ _ _ W4 v4 (pInts ((nwOf n o).refsTo (b+1)));rw [hrs];unfold pInts;rw [List.map_append];exact hO4⟩,by show B-(b+1)<B-b;omega⟩)))
 ·rw [if_neg hr,List.append_nil] at hrs
  have h1:(nwOf n o).lab b≠(nwOf n o).cnt b:=fun h=>hr (((nwOf n o).lab_cnt b).1 h)
  exact .eqlF O O O (by omega) (.go O (.inc O O O (by omega) (.goN O (.mk (b+1,v) O (lc2 O O) ⟨⟨hW,hlt,by show OwnL _ _ _ _ W v (pInts ((nwOf n o).refsTo (b+1)));rw [hrs];exact hO⟩,by show B-(b+1)<B-b;omega⟩))))
theorem Ac8:Ent Tryz.prog 87:=A0 Tryz.func87 (by kernel_rfl) rfl
set_option maxRecDepth 8000 in
theorem Ac3 {S:Nat->Prop} {w:World} {vn vo:Value} {n:NtV} {o:List Int} (up:Up S w) (hn:eN.R S w vn n) (ho:eI.R S w vo o) :
  CR Tryz.prog 87 #[vn,vo] w (Two (eII.at S (rMemb n o)) (Is (.int .i64 (outE n o)))):=by
 obtain ⟨s,rfl,hs,hb⟩:=hn
 have hn:eN.R S w (.agg #[.int .i64 n.b,s]) n:=⟨s,rfl,hs,hb⟩
 refine enter Tryz.func87 O Tryz.ntmps87 O (.beg (.go O (.box O O fun w1 b2 n1=>.go O ?_)))
 obtain ⟨e1,k2,hb2,hs1⟩:=n1
 refine .ldA ty_N O O k2 O (.go O ?_)
 refine .call _ O Aj5 O (Ag4 (up.ext e1.size) (hn.ext e1) (ho.ext e1)) fun v3 w3 e3 h3=>?_
 obtain ⟨vl,ve,rfl,hl,he⟩:=h3
 replace he:ve=.int .i64 (outE n o):=he
 subst he
 rw [Ax5] at hl
 have x3:=e1.trans e3
 have k2:=k2.ext e3
 refine .go O (.ldA ty_N O O k2 O (.go O ?_))
 refine .call _ O AV7 O (AT7 (up.ext x3.size) (hn.ext x3) (ho.ext x3)) fun v4 w4 e4 h4=>?_
 obtain ⟨vr,ve,rfl,hr,_⟩:=h4
 have hl:=ER.ext eI hl e4
 have hB6:=BJ0 n o
 have x4:=x3.trans e4
 have z4:=x4.size
 unfold rMemb
 generalize labB n o=B at hl hr hB6 ⊢
 have hrl:(pInts ((nwOf n o).refsTo B)).length=((nwOf n o).refsTo B).length:=by simp [pInts]
 have hR6:((nwOf n o).refsTo B).length<=6:=Nat.le_trans ((nwOf n o).cnt_le B) hB6
 generalize ((nwOf n o).refsTo B).length=R at hrl hR6 ⊢
 generalize hf:(fun k=>pInts ((nwOf n o).withTo k B))=f
 refine .goC O ?_
 refine .lp (α:=Nat×Value) [6,7,8] O (fun y=>[(10,y.2),(11,.int .i64 (y.1:Nat))]) (fun y W=>Ext w4 W/\y.1<=R/\OwnL eI 25 w4.heap.size S W y.2 ((List.range y.1).map f)) (fun y=>R-y.1) (0,.slice none 0 0) (lc2 O O) ⟨Ext.refl _,Nat.zero_le _,OwnL.nil⟩ ?_
 rintro ⟨k,v⟩ W ⟨hW,hkR,hO⟩
 replace hW:Ext w4 W:=hW
 replace hkR:k<=R:=hkR
 replace hO:OwnL eI 25 w4.heap.size S W v ((List.range k).map f):=hO
 have zW:=hW.size
 refine .go O (.lenR un_I O O (ER.ext eI hr hW) ?_)
 rw [hrl]
 rcases Nat.lt_or_ge k R with hlt | hge
 rotate_left
 ·have:k=R:=by omega
  subst this
  exact .lssF O O O (by omega) (.goE O (.plain [_,_] Tryz.results87 ⟨rfl,rfl,trivial⟩ ⟨x4.trans hW,_,_,rfl,hO.toR (fun k hk=>up k (by omega)) (fun _ h=>h),rfl⟩))
 refine .lssT O O O (by omega) (.goC O ?_)
 refine .lp (α:=Nat×Value) [6,7,8,10,11] O (fun y=>[(12,y.2),(13,.int .i64 (y.1:Nat))]) (fun y W'=>Ext W W'/\y.1<=B/\OwnL (eInt .i64) 3 W.heap.size (fun _=>False) W' y.2 (pInts ((nwOf n o).withTo k y.1))) (fun y=>B-y.1) (0,.slice none 0 0) (lc2 O O) ⟨Ext.refl _,Nat.zero_le _,OwnL.nil⟩ ?_
 rintro ⟨b,u⟩ W' ⟨hW',hbB,hU⟩
 replace hW':Ext W W':=hW'
 replace hbB:b<=B:=hbB
 replace hU:OwnL (eInt .i64) 3 W.heap.size (fun _=>False) W' u (pInts ((nwOf n o).withTo k b)):=hU
 have hl':=ER.ext eI hl (hW.trans hW')
 refine .go O (.lenR un_I O O hl' ?_)
 rw [M7]
 rcases Nat.lt_or_ge b B with hbl | hge
 rotate_left
 ·have:b=B:=by omega
  subst this
  obtain ⟨es,ho1,ho2⟩:=id hO
  have hrow:eI.R (fun k=>S k/\v.ownBlock≠some k) W' u (f k):=by rw [<-hf];exact hU.toR (fun j hj=>⟨up j (by omega),fun h=>by have:=(ho1.lt j h).2;omega⟩) (fun _ h=>h.elim)
  obtain ⟨ar,cr,hvr,_⟩:=RL.len hrow
  refine .lssF O O O (by omega) (.go O (.bsl _ O O (by rw [hvr];exact bsl_IIq) fun W3 b3 n3=>?_))
  obtain ⟨d3,k3,hb3,hs3⟩:=n3
  have dd:=hW'.trans d3
  have hW3:=hW.trans dd
  have hk3:Blk W3 b3 25 u.cells:=by rw [hvr];exact k3
  refine .gv O O (L1 (E:=eI) (base:=w4.heap.size) (n:=f k) (e:=u) (by decide) Ap8 info_IL O O O (hO.ext dd) hk3 (ER.ext eI hrow d3) (by simp;omega) (by decide) hW3.size) ?_
  rintro v4 W4 ⟨hO4,g4⟩
  have hW4:Ext w4 W4:=OwnL.below (hO.ext dd) g4 hW3 hW3.size
  exact .go O (.inc O O O (by omega) (.goN O (.mk (k+1,v4) O (lc2 O O) ⟨⟨hW4,hlt,by show OwnL _ _ _ _ W4 v4 ((List.range (k+1)).map f);rw [List.range_succ,List.map_append];exact hO4⟩,by show R-(k+1)<R-k;omega⟩)))
 have hws:=(nwOf n o).withTo_succ k b
 have hwl:=(nwOf n o).withTo_le k b
 refine .lssT O O O (by omega) (.go O (.ixN (i:=b) un_I B6 O O hl' O (AE4 hbl) fun q hq=>.ldE (E:=eInt .i64) B6 O O hq fun e he=>.go O ?_))
 obtain ⟨rfl,_⟩:=he
 by_cases hlk:(nwOf n o).lab b=k
 ·rw [if_pos hlk] at hws
  refine .eqlT O O O (by rw [hlk]) (.go O (.bsl _ O O AR2 fun W3 b3 n3=>?_))
  obtain ⟨d3,k3,hb3,hs3⟩:=n3
  have hW3:=hW'.trans d3
  refine .gv O O (AG7 (E:=eInt .i64) (base:=W.heap.size) (n:=((b:Nat):Int)) (e:=.int .i64 (b:Nat)) (by decide) un_I AD1 O O O (hU.ext d3) k3 ⟨rfl,K1.2 (by omega)⟩ (by simp [pInts];omega) (by decide) hW3.size) ?_
  rintro v4 W4 ⟨hO4,g4,_⟩
  have hW4:Ext W W4:=OwnL.below (hU.ext d3) g4 hW3 hW3.size
  exact .go O (.inc O O O (by omega) (.goN O (.mk (b+1,v4) O (lc2 O O) ⟨⟨hW4,hbl,by show OwnL _ _ _ _ W4 v4 (pInts ((nwOf n o).withTo k (b+1)));rw [hws];unfold pInts;rw [List.map_append];exact hO4⟩,by show B-(b+1)<B-b;omega⟩)))
 ·rw [if_neg hlk,List.append_nil] at hws
  exact .eqlF O O O (by omega) (.go O (.inc O O O (by omega) (.goN O (.mk (b+1,u) O (lc2 O O) ⟨⟨hW',hbl,by show OwnL _ _ _ _ W' u (pInts ((nwOf n o).withTo k (b+1)));rw [hws];exact hU⟩,by show B-(b+1)<B-b;omega⟩))))
theorem Aa9:Ent Tryz.prog 246:=A0 Tryz.func246 (by kernel_rfl) rfl
theorem AZ1 {w:World} {n:Int}:CR Tryz.prog 246 #[.int .i64 n] w (Is (.int .i64 (cutN n))):=by
 refine enter Tryz.func246 O Tryz.ntmps246 O ?_
 refine .sr (.an O O (.sr (.mv O O (.max_ O O O (.min_ O O O (.an O O (.ret ?_)))))))
 refine .plain [_] Tryz.results246 ⟨rfl,trivial⟩ ⟨Ext.refl _,?_⟩
 show Value.int .i64 (min (max n 0) 1024)=_
 rw [show min (max n 0) 1024=((cutN n:Nat):Int) by unfold cutN;omega]
theorem BA3:Ent Tryz.prog 211:=A0 Tryz.func211 (by kernel_rfl) rfl
theorem Aw4 {S:Nat->Prop} {w:World} {vm:Value} {m:List (List QV)} {r c:Int} {L:Nat} (up:Up S w) (hm:eM.R S w vm m) (hk:mk_ L m) (hL:1<=L) (hL2:L<=100000000) :
  CR Tryz.prog 211 #[vm,.int .i64 r,.int .i64 c] w (fun v W=>OwnL eV 32 w.heap.size S W v (tabM (cutN r) (cutN c) (rm m))):=by
 have hr:=BK0 r
 have hc:=BK0 c
 refine enter Tryz.func211 O Tryz.ntmps211 O ?_
 refine .sr (.an O O (.sr (.mv O O ?_)))
 refine .call _ O Aa9 O AZ1 fun v1 w1 e1 h1=>.mv O O ?_
 subst h1
 refine .call _ O Aa9 O AZ1 fun v2 w2 e2 h2=>?_
 subst h2
 have x2:=e1.trans e2
 refine .call _ O X2 O (U9 (S:=S) (up.ext x2.size) (by decide) (by decide)) fun v3 w3 e3 h3=>.mv O O ?_
 have x3:=x2.trans e3
 have hk1:qk L (qc ((1:Int):Rat)):=AE6 (Rsz.int 1 (Nat.lt_of_lt_of_le (by decide) (Nat.pow_le_pow_right (by decide) hL)) hL)
 refine .call _ O At7 O (Al1 (k:=qc ((1:Int):Rat)) (b:=[]) (f:=rm m) (up.ext x3.size) h3 (ER.ext eM hm x3) RL.nil (by omega) (by omega) fun {T W i j} u hk' ha hb hi hj=>by
  have:=Ag6 (i:=i) (j:=j) (vb:=.slice none 0 0) u hk' ha hk1 hk hL hL2
  rw [C1,Ad2,show (((1:Int):Rat))*rm m i j=rm m i j by grind] at this
  exact this) fun v4 w4 e4 h4=>.an O O (.ret ?_)
 exact .plain [_] Tryz.results211 ⟨rfl,trivial⟩ ⟨x3.trans e4,OwnL.base h4 x3.size⟩
theorem Ar4 {p:List Nat} {c:Nat} (h:c∈p):∃ j,j<p.length/\p.getD j 0=c:=by
 obtain ⟨j,hj⟩:=List.mem_iff_getElem?.1 h
 exact ⟨j,(List.getElem?_eq_some_iff.1 hj).1,by rw [List.getD_eq_getElem?_getD,hj];rfl⟩
theorem Aj6:Ent Tryz.prog 155:=A0 Tryz.func155 (by kernel_rfl) rfl
theorem Ag5 {S:Nat->Prop} {w:World} {v:Value} {p:List Nat} {k:Nat} (h:eI.R S w v (pInts p)):CR Tryz.prog 155 #[v,.int .i64 (k:Nat)] w (Is (.bool (decide (k∈p)))):=by
 obtain ⟨_,_,_,_,hl⟩:=RL.len h
 have hpl:(pInts p).length=p.length:=by simp
 refine enter Tryz.func155 O Tryz.ntmps155 O ?_
 refine .sr (.an O O (.seq (.sr (.an O O ?_))))
 refine .block (.loop (α:=Nat) (fun i=>[(0,v),(1,.int .i64 (k:Nat)),(5,.int .i64 (i:Nat))]) (fun i W=>W=w/\i<=p.length/\∀ j,j<i->p.getD j 0≠k) (fun i=>p.length-i) 0 ?_ ?_ ?_)
 ·exact lkA rfl
 ·exact ⟨rfl,Nat.zero_le _,fun j hj=>absurd hj (Nat.not_lt_zero _)⟩
 rintro i W ⟨rfl,hi,hall⟩
 refine .seq (.sr (.mv O O (.mv O O (.lenR un_I O O h ?_))))
 rw [hpl]
 rcases Nat.lt_or_ge i p.length with hlt | hge
 rotate_left
 ·refine .lssF O O O (by omega) (.nil (.condF O (.exit (.sr (.an O O (.ret ?_))))))
  have hno:k∉p:=fun hk=>by
   obtain ⟨j,hj,e⟩:=Ar4 hk
   exact hall j (by omega) e
  exact .plain [_] Tryz.results155 ⟨rfl,trivial⟩ ⟨Ext.refl _,by rw [decide_eq_false hno]<;>rfl⟩
 have hg:(pInts p)[i]?=some ((p.getD i 0:Nat):Int):=by rw [List.getElem?_map,A6 (z:=0) hlt];rfl
 refine .lssT O O O (by omega) (.nil (.condT O (.skip (.seq (.block (.sr (.mv O O (.mv O O (.ixN (i:=i) un_I B6 O O h O hg fun q hq=>.ldE (E:=eInt .i64) B6 O O hq fun e he=>.mv O O ?_)))))))))
 obtain ⟨rfl,_⟩:=he
 by_cases he:p.getD i 0=k
 ·refine .eqlT O O O (by omega) (.nil (.condT O (.sr (.an O O (.ret ?_)))))
  have hyes:k∈p:=he▸List.mem_iff_getElem?.2 ⟨i,A6 hlt⟩
  exact .plain [_] Tryz.results155 ⟨rfl,trivial⟩ ⟨Ext.refl _,by rw [decide_eq_true hyes]<;>rfl⟩
 ·refine .eqlF O O O (by omega) (.nil (.condF O (.skip (.region (.mv O O (.add O O O (.an O O ?_)))))))
  rw [wI (by omega)]
  refine ⟨rfl,i+1,lkA rfl,⟨rfl,hlt,fun j hj=>?_⟩,by show p.length-(i+1)<p.length-i;omega⟩
  by_cases e:j=i
  ·subst e;exact he
  ·exact hall j (by omega)
theorem inv_q {b:QV} (h:pn b≠0):qval ⟨zc (pd b),zc (pn b)⟩=(qval b)⁻¹:=by
 have hp:=K8 b
 have h1:qval b=Rat.divInt (pn b) (pd b):=rfl
 rw [h1,Rat.inv_divInt]
 generalize pn b=n at h
 generalize pd b=d at hp
 unfold qval pn pd
 simp only [B0]
 rw [if_neg h]
 split
 ·rw [Rat.divInt_neg',Int.neg_neg]
 ·rfl
theorem Ab3:Ent Tryz.prog 96:=A0 Tryz.func96 (by kernel_rfl) rfl
theorem AZ5 {S:Nat->Prop} {w:World} {va vb:Value} {a b:QV} {L:Nat} (up:Up S w) (ha:eQ.R S w va a) (hb:eQ.R S w vb b) (hla:qok L a) (hlb:qok L b) (h1:1<=L) (hL:L<=400000000) (h0:qval b≠0) :
  CR Tryz.prog 96 #[va,vb] w (Two (eQ.at S (qc (qval a*(qval b)⁻¹))) (Is (.int .i64 0))):=by
 have hva:=shpA O ha
 have hvb:=shpA O hb
 have hL9:L<=1000000000:=by omega
 have hbn:pn b≠0:=by
  intro h
  apply h0
  unfold qval
  rw [h,Rat.zero_divInt]
 obtain ⟨db1,db2⟩:=AB8 hb
 have lnb:=AT9 db1 hlb
 have ldb:=AZ9 db2 hlb h1
 have hri:Rsz (qval b)⁻¹ L:=(Aw2 db1 db2 hlb h1).inv h1
 refine enter Tryz.func96 O Tryz.ntmps96 O ?_
 refine .sr (.box O O fun w1 b2 n1=>.box O O fun w2 b3 n2=>.alloc O C5 fun w3 b4 n3=>.an O O ?_)
 obtain ⟨e1,k2,hb2,hs1⟩:=n1
 obtain ⟨e2,k3,hb3,hs2⟩:=n2
 obtain ⟨e3,k4,hb4,hs3⟩:=n3
 have x3:=(e1.trans e2).trans e3
 have k2:=(k2.ext e2).ext e3
 have k3:=k3.ext e3
 have hS4:¬ Sx S w.heap.size w3.heap.size b4:=Sx.no (by omega) (by omega)
 have up3:Up (Sx S w.heap.size w3.heap.size) w3:=Sx.up up (Nat.le_refl _) x3.size
 have ha3:=(ha.par w3.heap.size).ext x3
 have hb3':=(hb.par w3.heap.size).ext x3
 have hout:∀ {W:World} {v:Value} {z:QV},eQ.R (Sx S w.heap.size w3.heap.size) W v z->eQ.R S W v z:=fun h=>h.out
 have hw4:w.heap.size<=b4:=by omega
 generalize hT:Sx S w.heap.size w3.heap.size=T at *
 refine .seq (.sr (.ldA ty_Q O O k3 (eQ.csz hb) ?_))
 rw [<-hvb]
 refine .call _ O AH5 O (AG4 up3 hb3' hlb hL9) fun v0 w0 e0 h00=>?_
 subst h00
 refine .eqlF O O O (fun h=>hbn (Int.sign_eq_zero_iff_zero.1 h)) (.nil (.condF O (.skip (.seq ?_))))
 have hq:qok L ⟨zc (pd b),zc (pn b)⟩:=⟨O4 ldb,O4 lnb⟩
 have up4:=up3.ext e0.size
 refine .par follows 8 [.inl va,.inl vb,.inr (eZ.at T (zc (pd b))),.inl vb,.inr (eZ.at T (zc (pn b))),.inr (eQ.at T ⟨zc (pd b),zc (pn b)⟩),.inr (eQ.at T (qc (qval b)⁻¹)),.inr (eQ.at T (qc (qval a*(qval b)⁻¹)))] [[],[],[(11,1)],[],[(13,3)],[(12,2),(14,4)],[(15,5)],[(10,0),(16,6)]] (by kernel_rfl) ⟨
  fun w e=>((B9 ty_Q O ((k2.ext e0).ext e) (eQ.csz ha)).eq hva.symm).ob,
  fun w e=>((B9 ty_Q O ((k3.ext e0).ext e) (eQ.csz hb)).eq hvb.symm).ob,
  fun w e=>(A2 _ I7 O (I3 (up4.ext e.size) ((hb3'.ext e0).ext e) hlb hL9)).ob (A3 _ _ _),
  fun w e=>((B9 ty_Q O ((k3.ext e0).ext e) (eQ.csz hb)).eq hvb.symm).ob,
  fun w e=>(A2 _ K5 O (K4 (up4.ext e.size) ((hb3'.ext e0).ext e) hlb hL9)).ob (A3 _ _ _),
  fun w e x hx y hy=>by
   obtain ⟨s,rfl,hs⟩:=hx
   obtain ⟨t,rfl,ht⟩:=hy
   exact L4 (An4 [(0,.agg #[.bool (zc (pd b)).neg,s]),(1,.agg #[.bool (zc (pn b)).neg,t])] O AR5) ⟨s,t,rfl,hs,ht⟩ (A3 _ _ _),
  fun w e x hx=>by
   have:=T9 (up4.ext e.size) hx hq h1 hL9
   rw [inv_q hbn] at this
   exact (A2 _ U5 O this).ob (A3 _ _ _),
  fun w e x hx=>by
   have:=AJ9 (up4.ext e.size) ((ha3.ext e0).ext e) hx hla hri.toOk h1 hL
   rw [C1] at this
   exact (A2 _ AL6 O this).ob (A3 _ _ _),trivial⟩ ?_
 intro w5 e5 y2 _ y4 _ y5 _ y6 _ y7 h7
 refine .storeA (E:=eQ) ty_Q O O ((k4.ext e0).ext e5) O O h7 hS4 fun w6 k6 u6 h6=>.an O O (.ret ?_)
 exact .plain [_,_] Tryz.results96 ⟨⟨_,rfl,E5 (E:=eQ) ty_Q O O k6 h6⟩,rfl,trivial⟩ ⟨u6.below ((x3.trans e0).trans e5) hw4,_,_,rfl,hout h6,rfl⟩
def uniR (k:Int):Nat->Rat:=fun i=>if (i:Int)=k then 1 else 0
theorem Z0:Ent Tryz.prog 90:=A0 Tryz.func90 (by kernel_rfl) rfl
theorem AG3 {S:Nat->Prop} {w:World} {n:Nat} {k:Int} (up:Up S w) (hn:n<=65536):CR Tryz.prog 90 #[.int .i64 (n:Nat),.int .i64 k] w (fun v W=>OwnL eQ 54 w.heap.size S W v (tab n (uniR k))):=by
 refine enter Tryz.func90 O Tryz.ntmps90 O ?_
 refine .sr (.an O O (.sr (.an O O (.seq (.sr (.an O O ?_))))))
 generalize hf:(fun i=>qc (uniR k i))=f
 refine .block (.loop (α:=Nat×Value) (fun x=>[(0,.int .i64 (n:Nat)),(1,.int .i64 k),(5,x.2),(6,.int .i64 (x.1:Nat))]) (fun x W=>Below w.heap.size w W/\x.1<=n/\OwnL eQ 54 w.heap.size S W x.2 ((List.range x.1).map f)) (fun x=>n-x.1) (0,.slice none 0 0) ?_ ?_ ?_)
 ·exact lkA rfl
 ·exact ⟨Below.refl _ _,Nat.zero_le _,OwnL.nil⟩
 rintro ⟨i,u⟩ W ⟨hB,hi,ho⟩
 replace hB:Below w.heap.size w W:=hB
 replace hi:i<=n:=hi
 replace ho:OwnL eQ 54 w.heap.size S W u ((List.range i).map f):=ho
 have hsz:=hB.size
 refine .seq (.sr (.mv O O (.mv O O ?_)))
 by_cases hlt:i<n
 rotate_left
 ·refine .lssF O O O (by omega) (.mv O O (.gs O O O O O (.gs O O O O O (.pick O O O (.nil (.condF O (.exit (.sr (.mv O O (.an O O (.ret ?_)))))))))))
  have:i=n:=by omega
  subst this
  refine .plain [_] Tryz.results90 ⟨rfl,trivial⟩ ⟨hB,?_⟩
  unfold tab
  rw [hf]
  exact ho
 obtain ⟨es,ho1,ho2⟩:=id ho
 refine .lssT O O O (by omega) (.mv O O (.gr O O O O (.mv O O (.gr O O O O (.lssT O O O (by omega) (.pick O O O (.nil (.condT O (.skip (.seq (.block (.sr (.bld [] O O S8 (.alloc O C5 fun W1 b7 n1=>?_))))))))))))))
 obtain ⟨e1,k7,hb7,hs1⟩:=n1
 have hub:u.ownBlock≠some b7:=fun h=>by have:=(ho1.lt b7 h).2;omega
 refine .storeA (E:=eQ) (S:=fun k'=>(S k'/\u.ownBlock≠some k')/\k'≠b7) (z:=q0) ty_Q O O k7 O O ⟨_,_,rfl,RL.nil,RL.nil⟩ (fun h=>h.2 O) fun W2 k7 u2 h7=>.nil ?_
 have x2:Ext W W2:=u2.below e1 (by omega)
 have hs2:=u2.size
 refine .mid (α:=Value) (fun _=>[(0,.int .i64 (n:Nat)),(1,.int .i64 k),(5,u),(6,.int .i64 (i:Nat)),(7,.pointer (some ⟨b7,0,none⟩))]) (fun v W3=>Ext W W3/\Blk W3 b7 54 v.cells/\eQ.R (fun k'=>(S k'/\u.ownBlock≠some k')/\k'≠b7) W3 v (f i)) ?_ ?_
 ·refine .sr (.mv O O (.mv O O ?_))
  by_cases hk:(i:Int)=k
  ·refine .eqlT O O O hk (.nil (.condT O (.region ?_)))
   refine .call _ O X2 O (U9 (S:=fun k'=>(S k'/\u.ownBlock≠some k')/\k'≠b7) (fun k' hk'=>⟨⟨up k' (by omega),fun h=>by have:=(ho1.lt k' h).2;omega⟩,by omega⟩) (by decide) (by decide)) fun v3 W3 e3 h3=>?_
   refine .storeA (E:=eQ) ty_Q O O (k7.ext e3) O O h3 (fun h=>h.2 O) fun W4 k7 u4 h4=>.nil ?_
   refine ⟨rfl,v3,lkA rfl,u4.below (x2.trans e3) (by omega),k7,?_⟩
   rw [<-hf]
   show eQ.R _ _ _ (qc (uniR k i))
   unfold uniR
   rw [if_pos hk]
   exact h4
  ·refine .eqlF O O O hk (.nil (.condF O (.skip ?_)))
   refine ⟨rfl,_,lkA rfl,x2,k7,?_⟩
   rw [<-hf]
   show eQ.R _ _ _ (qc (uniR k i))
   unfold uniR
   rw [if_neg hk,N2]
   exact h7
 rintro v W3 ⟨x3,k7,h7⟩
 have hv:=shpA O h7
 have hr':=h7
 refine .region (.mv O O (.ldA ty_Q O O k7 (eQ.csz h7) ?_))
 rw [<-hv]
 obtain ⟨s,t,rfl,_,_⟩:=hr'
 refine .bsl _ O O AA3 fun W4 b4 n4=>?_
 obtain ⟨e4,k4,hb4,hs4⟩:=n4
 have e14:=x3.trans e4
 have hB4:Below w.heap.size w W4:=hB.trans (e14.mono hsz)
 refine .gv O O (L1 (E:=eQ) (base:=w.heap.size) (n:=f i) (by decide) un_V H0 O O O (ho.ext e14) k4 (eQ.mono (fun k' _ h=>h.1) (h7.ext e4)) (by simp;omega) (by decide) hB4.size) ?_
 rintro v5 W5 ⟨ho5,hg5⟩
 refine .an O O (.region (.mv O O (.add O O O (.an O O ?_))))
 rw [wI (by omega)]
 refine ⟨rfl,(i+1,v5),lkA rfl,⟨(ho.ext e14).below hg5 hB4 hB4.size,hlt,?_⟩,by show n-(i+1)<n-i;omega⟩
 show OwnL eQ 54 w.heap.size S W5 v5 ((List.range (i+1)).map f)
 rw [List.range_succ,List.map_append]
 exact ho5
theorem BG0:Ent Tryz.prog 213:=A0 Tryz.func213 (by kernel_rfl) rfl
theorem BC7 {S:Nat->Prop} {w:World} {va vb:Value} {a b:QV} {L:Nat} (up:Up S w) (ha:eQ.R S w va a) (hb:eQ.R S w vb b) (hla:qok L a) (hlb:qok L b) (h1:1<=L) (hL:L<=400000000) (h0:qval b≠0) :
  CR Tryz.prog 213 #[va,vb] w (eQ.at S (qc (qval a*(qval b)⁻¹))):=by
 have hva:=shpA O ha
 have hvb:=shpA O hb
 refine enter Tryz.func213 O Tryz.ntmps213 O ?_
 refine .sr (.box O O fun w1 b2 n1=>.box O O fun w2 b3 n2=>.alloc O C5 fun w3 b4 n3=>.nil ?_)
 obtain ⟨e1,k2,hb2,hs1⟩:=n1
 obtain ⟨e2,k3,hb3,hs2⟩:=n2
 obtain ⟨e3,k4,hb4,hs3⟩:=n3
 have x3:=(e1.trans e2).trans e3
 have k2:=(k2.ext e2).ext e3
 have k3:=k3.ext e3
 have up3:Up (fun k=>S k/\k≠b4) w3:=fun k hk=>⟨up k (by have:=x3.size;omega),by omega⟩
 have ha3:eQ.R (fun k=>S k/\k≠b4) w3 va a:=eQ.mono (fun k _ h=>⟨h.1,by have:=h.2;omega⟩) ((ER.lt eQ ha).ext x3)
 have hb3':eQ.R (fun k=>S k/\k≠b4) w3 vb b:=eQ.mono (fun k _ h=>⟨h.1,by have:=h.2;omega⟩) ((ER.lt eQ hb).ext x3)
 refine .sr (.ldA ty_Q O O k2 (eQ.csz ha) (.ldA ty_Q O O k3 (eQ.csz hb) ?_))
 rw [<-hva,<-hvb]
 refine .call _ O Ab3 O (AZ5 up3 ha3 hb3' hla hlb h1 hL h0) fun v4 w4 e4 h4=>?_
 obtain ⟨vq,ve,rfl,hq,rfl⟩:=h4
 refine .mv O O (.ext O O O (.ext O O O (.alloc O C5 fun w5 b5 n5=>?_)))
 obtain ⟨e5,k5,hb5,hs5⟩:=n5
 refine .storeA (E:=eQ) ty_Q O O k5 O O (S:=fun k=>(S k/\k≠b4)/\k<w4.heap.size) ((ER.lt eQ hq).ext e5) (fun h=>by have:=h.2;omega) fun w6 k5 u6 hq=>.an O O ?_
 have x6:Ext w4 w6:=u6.below e5 (by omega)
 have hvq:=shpA O hq
 refine .sr (.ldA ty_Q O O k5 (eQ.csz hq) ?_)
 rw [<-hvq]
 have hb4l:=k4.lt
 have hs4:=e4.size
 refine .storeA (E:=eQ) ty_Q O O ((k4.ext e4).ext x6) O O hq (fun h=>h.1.2 O) fun w7 k7 u7 h7=>.nil (.ret ?_)
 exact .cell Tryz.results213 O ty_Q O O k7 h7 ⟨u7.below ((x3.trans e4).trans x6) (by omega),eQ.mono (fun k _ h=>h.1.1) h7⟩
theorem AR8:Ent Tryz.prog 95:=A0 Tryz.func95 (by kernel_rfl) rfl
theorem AQ1 {S:Nat->Prop} {w:World} {vo:Value} {o:List Int} {k:Int} (ho:eI.R S w vo o):CR Tryz.prog 95 #[vo,.int .i64 k] w (Is (.bool (!decide (k∈o)))):=by
 refine enter Tryz.func95 O Tryz.ntmps95 O (.beg (.go O ?_))
 refine .call _ O Aa8 O (AZ0 ho) fun v w1 e1 h1=>?_
 subst h1
 cases decide (k∈o)<;>exact .goE rfl (.plain [_] Tryz.results95 ⟨rfl,trivial⟩ ⟨e1,rfl⟩)
theorem Aj4:Ent Tryz.prog 36:=A0 Tryz.func36 (by kernel_rfl) rfl
set_option maxRecDepth 8000 in
theorem Ag3 {S:Nat->Prop} {w:World} {vn vo va:Value} {n:NtV} {o:List Int} {a:List QV} {L:Nat} (up:Up S w) (hn:eN.R S w vn n) (ho:eI.R S w vo o) (ha:eV.R S w va a) (hka:vk L a) (hL1:1<=L) (hL:L<=100000000) :
  CR Tryz.prog 36 #[vn,vo,va] w (Two (eV.at S (if sfE n o a.length=0 then tab n.ls.length ((nwOf n o).fl (rv a)) else [])) (Is (.int .i64 (sfE n o a.length)))):=by
 obtain ⟨s,rfl,hs,hb⟩:=hn
 have hn:eN.R S w (.agg #[.int .i64 n.b,s]) n:=⟨s,rfl,hs,hb⟩
 refine enter Tryz.func36 O Tryz.ntmps36 O (.beg (.go O (.box O O fun w1 b3 n1=>.go O ?_)))
 obtain ⟨e1,k3,hb3,hs1⟩:=n1
 replace k3:Blk w1 b3 24 #[.int .i64 n.b,s]:=k3
 refine .ldA ty_N O O k3 O (.go O ?_)
 refine .call _ O Y8 O (X9 (hn.ext e1) (ho.ext e1)) fun v3 w3 e3 h3=>?_
 subst h3
 have x3:=e1.trans e3
 have k3:=k3.ext e3
 refine .go O ?_
 by_cases hO:outE n o=0
 rotate_left
 ·have hsf:sfE n o a.length=outE n o:=by unfold sfE;rw [if_pos hO]
  refine .neqT O O O hO (.goE O (.plain [_,_] Tryz.results36 ⟨rfl,rfl,trivial⟩ ⟨x3,_,_,rfl,?_,by rw [hsf]⟩))
  rw [if_neg (by rw [hsf];exact hO)]
  exact RL.nil
 have ok:=V4 hO
 have hnb:=ok.b
 have hM10:n.ls.length<=10:=ok.m
 refine .neqF O O O hO (.go O (.lenR un_V O O (ER.ext eV ha x3) (.go O (.fa E9 O O (.go O (.ld A4 O O k3 O (.go O ?_)))))))
 by_cases hle:(a.length:Int)<=n.b
 rotate_left
 ·have hsf:sfE n o a.length=5:=by unfold sfE;rw [if_neg (by simpa using hO),if_neg hle]
  refine .gtrT O O O (by omega) (.goE O (.plain [_,_] Tryz.results36 ⟨rfl,rfl,trivial⟩ ⟨x3,_,_,rfl,?_,by rw [hsf]⟩))
  rw [if_neg (by rw [hsf];decide)]
  exact RL.nil
 have hsf:sfE n o a.length=0:=by unfold sfE;rw [if_neg (by simpa using hO),if_pos hle]
 rw [if_pos hsf,hsf]
 have z3:=x3.size
 generalize hG:(fun k=>qc ((nwOf n o).fl (rv a) k))=G
 have htab:tab n.ls.length ((nwOf n o).fl (rv a))=(List.range n.ls.length).map G:=by rw [<-hG];rfl
 rw [htab]
 refine .gtrF O O O (by omega) (.goC O ?_)
 refine .lp (α:=Nat×Value) [1,2,3] O (fun y=>[(9,y.2),(10,.int .i64 (y.1:Nat))]) (fun y W=>Ext w3 W/\y.1<=n.ls.length/\OwnL eQ 54 w3.heap.size S W y.2 ((List.range y.1).map G)) (fun y=>n.ls.length-y.1) (0,.slice none 0 0) (lc2 O O) ⟨Ext.refl _,Nat.zero_le _,OwnL.nil⟩ ?_
 rintro ⟨i,u⟩ W ⟨hW,hi,hU⟩
 replace hW:Ext w3 W:=hW
 replace hi:i<=n.ls.length:=hi
 replace hU:OwnL eQ 54 w3.heap.size S W u ((List.range i).map G):=hU
 have k3:=k3.ext hW
 have zW:=hW.size
 have hsW:∀ {W':World},Ext W W'->eLs.R S W' s n.ls:=fun e=>ER.ext eLs hs (x3.trans (hW.trans e))
 refine .go O (.fa G8 O O (.go O (.ld L3 O O k3 O (.go O (.lenR K2 O O (hsW (Ext.refl _)) ?_)))))
 rcases Nat.lt_or_ge i n.ls.length with hlt | hge
 rotate_left
 ·have:i=n.ls.length:=by omega
  subst this
  exact .lssF O O O (by omega) (.goE O (.plain [_,_] Tryz.results36 ⟨rfl,rfl,trivial⟩ ⟨x3.trans hW,_,_,rfl,hU.toR (fun k hk=>up k (by omega)) (fun _ h=>h),rfl⟩))
 have hgl:n.ls[i]?=some (n.ls.getD i ln0):=A6 hlt
 have hFI:=ok.fI i hlt
 have hTI:=ok.tI i hlt
 have hxx:=ok.x i hlt
 have hGi:G i=qc ((nwOf n o).fl (rv a) i):=by rw [<-hG]
 have hgi:(nwOf n o).g i=if i∈oN o then 0 else ((n.ls.getD i ln0).x:Rat)⁻¹:=rfl
 generalize n.ls.getD i ln0=ln at hgl hFI hTI hxx hgi
 obtain ⟨es,ho1,ho2⟩:=id hU
 have hub:∀ k,u.ownBlock=some k->w3.heap.size<=k/\k<W.heap.size:=fun k h=>ho1.lt k h
 refine .lssT O O O (by omega) (.go O (.fa G8 O O (.go O (.ld L3 O O k3 O (.go O (.ixN (i:=i) K2 O9 O O (hsW (Ext.refl _)) O hgl fun p hp=>.ldE (E:=eL) O9 O O hp fun vl hvl=>.alloc O Ad0 fun W1 c n1'=>?_))))))
 obtain ⟨d1,kc,hc,zs1⟩:=n1'
 refine .storeA (E:=eL) (S:=fun k=>k≠c) (z:=ln) O9 O O kc O O hvl (fun h=>h O) fun W2 kc u2 hl2=>?_
 obtain ⟨rfl,_⟩:=hl2
 replace kc:Blk W2 c 58 #[.int .i64 ln.f,.int .i64 ln.t,.int .i64 ln.x,.int .i64 ln.c]:=kc
 have D2:Ext W W2:=u2.below d1 (by omega)
 have z2:=D2.size
 have z12:=u2.size
 refine .go O (.bld _ O O S8 (.alloc O C5 fun W3 b n3=>?_))
 obtain ⟨d3,kb,hb',zs3⟩:=n3
 generalize hT:(fun k=>(S k/\u.ownBlock≠some k)/\k≠b)=T
 have hTb:¬ T b:=by rw [<-hT];exact fun h=>h.2 rfl
 have hTS:∀ k,T k->S k/\u.ownBlock≠some k:=fun k h=>by rw [<-hT] at h;exact h.1
 have zW3:W3.heap.size=b+1:=by omega
 have upT':∀ {W':World},W3.heap.size<=W'.heap.size->Up T W':=fun h k hk=>by rw [<-hT];exact ⟨⟨up k (by omega),fun e=>by have:=(hub k e).2;omega⟩,by omega⟩
 have haT:∀ {W':World},Ext W W'->eV.R T W' va a:=fun e=>ER.ext eV (eV.mono (S':=T) (fun k _ h=>by rw [<-hT];exact ⟨⟨h.1,fun e=>by have:=(hub k e).1;have:=h.2;omega⟩,by have:=h.2;omega⟩) (ER.lt eV ha)) (x3.trans (hW.trans e))
 refine .storeA (E:=eQ) (S:=T) ty_Q O O kb O O zq_R hTb fun W4 kb u4 hq4=>?_
 have D4:Ext W W4:=u4.below (D2.trans d3) (by omega)
 have kc:=(kc.ext d3).upd u4 (by omega)
 have z4:W4.heap.size=W3.heap.size:=u4.size
 refine .go O ?_
 refine .call _ O AR8 O (AQ1 (ER.ext eI ho (x3.trans (hW.trans D4)))) fun v5 W5 d5 h5=>?_
 subst h5
 have D5:=D4.trans d5
 have kb:=kb.ext d5
 have kc:=kc.ext d5
 have hq5:=ER.ext eQ hq4 d5
 have z5:=d5.size
 by_cases hm:i∈oN o
 ·rw [decide_eq_true ((AB5 ok.outs i).2 hm)]
  rw [if_pos hm] at hgi
  have hG0:G i=q0:=by rw [hGi];unfold Nw.fl;rw [hgi,Rat.zero_mul,N2]
  rw [<-hG0] at hq5
  have hqv:=shpA (E:=eQ) O hq5
  refine .go O (.ldA ty_Q O O kb (eQ.csz hq5) ?_)
  rw [<-hqv]
  refine .bsl _ O O AA3 fun W8 b8 n8=>?_
  obtain ⟨d8,k8,hb8,hs8⟩:=n8
  have D8:=D5.trans d8
  have hW8:=hW.trans D8
  refine .gv O O (L1 (E:=eQ) (base:=w3.heap.size) (n:=G i) (by decide) un_V H0 O O O (hU.ext D8) k8 (eQ.mono (fun k _ h=>hTS k h) (ER.ext eQ hq5 d8)) (by simp;omega) (by decide) hW8.size) ?_
  rintro v9 W9 ⟨hO9,g9⟩
  have hW9:Ext w3 W9:=OwnL.below (hU.ext D8) g9 hW8 hW8.size
  exact .go O (.inc O O O (by omega) (.goN O (.mk (i+1,v9) O (lc2 O O) ⟨⟨hW9,hlt,by show OwnL _ _ _ _ W9 v9 ((List.range (i+1)).map G);rw [List.range_succ,List.map_append];exact hO9⟩,by show n.ls.length-(i+1)<n.ls.length-i;omega⟩)))
 ·rw [decide_eq_false fun h=>hm ((AB5 ok.outs i).1 h)]
  rw [if_neg hm] at hgi
  rw [hFI,hTI] at kc
  generalize hF:(nwOf n o).F i=f at kc
  generalize hTt:(nwOf n o).T i=t at kc
  have hx0:(((ln.x:Int):Rat))≠0:=by
   intro h
   have:=Rat.intCast_inj.1 (h.trans Rat.intCast_zero.symm)
   omega
  have hGv:G i=qc ((rv a f-rv a t)*((ln.x:Int):Rat)⁻¹):=by
   rw [hGi];unfold Nw.fl;rw [hgi,hF,hTt,Rat.mul_comm]
  have hsz:Rsz (rv a f-rv a t) (L+L+1):=by rw [Rat.sub_eq_add_neg];exact (hka.rsz hL1 f).add (Rsz.neg (hka.rsz hL1 t))
  have hxz:Rsz ((ln.x:Int):Rat) (L+L+1):=(rsz_z (by omega)).mono (by omega)
  refine .goC O ?_
  refine .parL follows 16 [15] [.inl _,.inl _,.inl (.int .i64 (f:Nat)),.inr (eQ.at T (a.getD f q0)),.inl _,.inl _,.inl (.int .i64 (t:Nat)),.inr (eQ.at T (a.getD t q0)),.inr (eQ.at T (qc (rv a f-rv a t))),.inl _,.inl (.int .i64 ln.x),.inr (eQ.at T (qc ((ln.x:Int):Rat))),.inr (Two (eQ.at T (G i)) (Is (.int .i64 0))),.inr (Two (eQ.at T (G i)) (Is (.int .i64 0))),.inr (eQ.at T (G i)),.inl (.int .i64 0)] [[],[],[(42,1)],[(41,0),(43,2)],[],[],[(46,5)],[(45,4),(47,6)],[(44,3),(48,7)],[],[(50,9)],[(51,10)],[(49,8),(52,11)],[(53,12)],[(40,13)],[(40,13)]] (by kernel_rfl) ⟨
   fun w e=>(v_mv O).ob,
   fun w e=>(v_fa N8 O).ob,
   fun w e=>(v_ld A4 O (kc.ext e) O).ob,
   fun w e=>(by have:=J0 (i:=((f:Nat):Int)) (haT (D5.trans e));rw [O1] at this;exact (A2 _ J6 O this).ob (A3 _ _ _)),
   fun w e=>(v_mv O).ob,
   fun w e=>(v_fa N7 O).ob,
   fun w e=>(v_ld A4 O (kc.ext e) O).ob,
   fun w e=>(by have:=J0 (i:=((t:Nat):Int)) (haT (D5.trans e));rw [O1] at this;exact (A2 _ J6 O this).ob (A3 _ _ _)),
   fun w e x3 hx3 x7 hx7=>(by have:=AZ4 (L:=L) (upT' (by have:=e.size;omega)) hx3 hx7 (hka.get hL1 f).1 (hka.get hL1 t) hL1 (by omega);exact (A2 _ Ab2 O this).ob (A3 _ _ _)),
   fun w e=>(v_fa AH0 O).ob,
   fun w e=>(v_ld S3 O (kc.ext e) O).ob,
   fun w e=>(A2 _ X2 O (U9 (upT' (by have:=e.size;omega)) (by omega) (by omega))).ob (A3 _ _ _),
   fun w e x8 hx8 x11 hx11=>(by have:=AZ5 (L:=L+L+1) (upT' (by have:=e.size;omega)) hx8 hx11 hsz.toOk hxz.toOk (by omega) (by omega) (by rw [C1];exact hx0);rw [C1,C1,<-hGv] at this;exact (A2 _ Ab3 O this).ob (Z8 (A3 _ _ _) (AN9 _))),
   fun w e x12 hx12=>L4 (v_mv O) hx12 (Z8 (A3 _ _ _) (AN9 _)),
   fun w e x13 hx13=>by
   obtain ⟨p1,q1,rfl,hp1,hq1⟩:=hx13
   exact L4 (v_ex O O) hp1 (A3 _ _ _),
   fun w e x13 hx13=>by
   obtain ⟨p1,q1,rfl,hp1,hq1⟩:=hx13
   exact ((v_ex O O).eq hq1).ob,trivial⟩ ?_
  intro W6 d6 y3 hy3 y7 hy7 y8 hy8 y11 hy11 y12 hy12 y13 hy13 y14 hy14
  refine .storeA (E:=eQ) ty_Q O O (kb.ext d6) O (eQ.csz hq5) hy14 hTb fun W7 kb u7 hq5=>?_
  have D5:Ext W W7:=u7.below (D5.trans d6) (by omega)
  have hqv:=shpA (E:=eQ) O hq5
  have z5:=D5.size
  refine .go O (.ldA ty_Q O O kb (eQ.csz hq5) ?_)
  rw [<-hqv]
  have hq':=hq5
  obtain ⟨s1,t1,rfl,_,_⟩:=hq'
  refine .bsl _ O O AA3 fun W8 b8 n8=>?_
  obtain ⟨d8,k8,hb8,hs8⟩:=n8
  have D8:=D5.trans d8
  have hW8:=hW.trans D8
  refine .gv O O (L1 (E:=eQ) (base:=w3.heap.size) (n:=G i) (by decide) un_V H0 O O O (hU.ext D8) k8 (eQ.mono (fun k _ h=>hTS k h) (ER.ext eQ hq5 d8)) (by simp;omega) (by decide) hW8.size) ?_
  rintro v9 W9 ⟨hO9,g9⟩
  have hW9:Ext w3 W9:=OwnL.below (hU.ext D8) g9 hW8 hW8.size
  exact .go O (.inc O O O (by omega) (.goN O (.mk (i+1,v9) O (lc2 O O) ⟨⟨hW9,hlt,by show OwnL _ _ _ _ W9 v9 ((List.range (i+1)).map G);rw [List.range_succ,List.map_append];exact hO9⟩,by show n.ls.length-(i+1)<n.ls.length-i;omega⟩)))
end Go.Proofs.YtggegpiffjbngaaGreat
namespace Go.Kx
open Go Go.RowKit
def Nw.trm (n:Nw) (f:Nat->Rat) (b k:Nat):Rat:=n.inc k b*(if n.g k=0 then 0 else f k)
theorem Nw.trm_out {n:Nw} {f:Nat->Rat} {b k:Nat} (h:n.g k=0):n.trm f b k=0:=by unfold Nw.trm;rw [if_pos h,Rat.mul_zero]
theorem Nw.trm_F {n:Nw} {f:Nat->Rat} {b k:Nat} (h:n.g k≠0) (hF:n.F k=b) (hT:n.T k≠b):n.trm f b k=f k:=by
 unfold Nw.trm Nw.inc dl
 rw [if_neg h,if_pos hF,if_neg hT]
 grind
theorem Nw.trm_T {n:Nw} {f:Nat->Rat} {b k:Nat} (h:n.g k≠0) (hF:n.F k≠b) (hT:n.T k=b):n.trm f b k = - f k:=by
 unfold Nw.trm Nw.inc dl
 rw [if_neg h,if_neg hF,if_pos hT]
 grind
theorem Nw.trm_no {n:Nw} {f:Nat->Rat} {b k:Nat} (hF:n.F k≠b) (hT:n.T k≠b):n.trm f b k=0:=by
 unfold Nw.trm Nw.inc dl
 rw [if_neg hF,if_neg hT]
 grind
end Go.Kx
namespace Go.Proofs.YtggegpiffjbngaaGreat
open Go Go.Kx Go.RowKit
theorem g_out {n:NtV} {o:List Int} {k:Nat} (h:k∈oN o):(nwOf n o).g k=0:=show (if k∈oN o then (0:Rat) else ((n.ls.getD k ln0).x:Rat)⁻¹)=0 by rw [if_pos h]
theorem g_in {n:NtV} {o:List Int} (ok:nwOk n o) {k:Nat} (hk:k<n.ls.length) (h:k∉oN o):(nwOf n o).g k≠0:=by
 have hx:=ok.x k hk
 show (if k∈oN o then (0:Rat) else ((n.ls.getD k ln0).x:Rat)⁻¹)≠0
 rw [if_neg h]
 intro h
 have h3:(((n.ls.getD k ln0).x:Int):Rat)≠0:=by
  intro h
  have:=Rat.intCast_inj.1 (h.trans Rat.intCast_zero.symm)
  omega
 have:=Rat.mul_inv_cancel _ h3
 rw [h,Rat.mul_zero] at this
 exact absurd this (by decide)
theorem trm_rsz {n:NtV} {o:List Int} (ok:nwOk n o) {f:Nat->Rat} {L:Nat} (hL:1<=L) (hf:∀ k,Rsz (f k) L) (b:Nat) {k:Nat} (hk:k<n.ls.length):Rsz ((nwOf n o).trm f b k) L:=by
 by_cases hg:(nwOf n o).g k=0
 ·rw [Nw.trm_out hg];exact Rsz.zero hL
 by_cases hF:(nwOf n o).F k=b
 ·rw [Nw.trm_F hg hF (by have:=ok.ne k hk;omega)];exact hf k
 by_cases hT:(nwOf n o).T k=b
 ·rw [Nw.trm_T hg hF hT];exact Rsz.neg (hf k)
 ·rw [Nw.trm_no hF hT];exact Rsz.zero hL
theorem BA2:Ent Tryz.prog 37:=A0 Tryz.func37 (by kernel_rfl) rfl
set_option maxRecDepth 8000 in
theorem Aw3 {S:Nat->Prop} {w:World} {vn vo vf:Value} {n:NtV} {o:List Int} {f:List QV} {L:Nat} (up:Up S w) (hn:eN.R S w vn n) (ho:eI.R S w vo o) (hf:eV.R S w vf f) (hkf:vk L f) (hL1:1<=L) (hL:L<=10000000) :
  CR Tryz.prog 37 #[vn,vo,vf] w (Two (eV.at S (if noE n o f.length=0 then tab (nwOf n o).B ((nwOf n o).offM (rv f)) else [])) (Is (.int .i64 (noE n o f.length)))):=by
 obtain ⟨s,rfl,hs,hb⟩:=hn
 have hn:eN.R S w (.agg #[.int .i64 n.b,s]) n:=⟨s,rfl,hs,hb⟩
 obtain ⟨_,_,_,_,hfl⟩:=RL.len hf
 refine enter Tryz.func37 O Tryz.ntmps37 O (.beg (.go O (.box O O fun w1 b3 n1=>.go O ?_)))
 obtain ⟨e1,k3,hb3,hs1⟩:=n1
 replace k3:Blk w1 b3 24 #[.int .i64 n.b,s]:=k3
 refine .ldA ty_N O O k3 O (.go O ?_)
 refine .call _ O Y8 O (X9 (hn.ext e1) (ho.ext e1)) fun v3 w3 e3 h3=>?_
 subst h3
 have x3:=e1.trans e3
 have k3:=k3.ext e3
 refine .go O ?_
 by_cases hO:outE n o=0
 rotate_left
 ·have hno:noE n o f.length=outE n o:=by unfold noE;rw [if_pos hO]
  refine .neqT O O O hO (.goE O (.plain [_,_] Tryz.results37 ⟨rfl,rfl,trivial⟩ ⟨x3,_,_,rfl,?_,by rw [hno]⟩))
  rw [if_neg (by rw [hno];exact hO)]
  exact RL.nil
 have ok:=V4 hO
 have hnb:=ok.b
 have hB6:=ok.b6
 have hM10:n.ls.length<=10:=ok.m
 have hs3:eLs.R S w3 s n.ls:=ER.ext eLs hs x3
 refine .neqF O O O hO (.go O (.lenR un_V O O (ER.ext eV hf x3) (.go O (.fa G8 O O (.go O (.ld L3 O O k3 O (.go O (.lenR K2 O O hs3 ?_))))))))
 by_cases hle:f.length<=n.ls.length
 rotate_left
 ·have hno:noE n o f.length=5:=by unfold noE;rw [if_neg (by simpa using hO),if_neg hle]
  refine .gtrT O O O (by omega) (.goE O (.plain [_,_] Tryz.results37 ⟨rfl,rfl,trivial⟩ ⟨x3,_,_,rfl,?_,by rw [hno]⟩))
  rw [if_neg (by rw [hno];decide)]
  exact RL.nil
 have hno:noE n o f.length=0:=by unfold noE;rw [if_neg (by simpa using hO),if_pos hle]
 rw [if_pos hno,hno]
 rw [hnb] at k3
 have z3:=x3.size
 generalize hG:(fun b=>qc ((nwOf n o).offM (rv f) b))=G
 have htab:tab (nwOf n o).B ((nwOf n o).offM (rv f))=(List.range (nwOf n o).B).map G:=by rw [<-hG];rfl
 rw [htab]
 have hsum:∀ b i,i<=n.ls.length->Rsz (sumN i ((nwOf n o).trm (rv f) b)) (1+10*(L+1)):=fun b i hi=>(AT0 fun k hk=>trm_rsz ok hL1 (fun k=>hkf.rsz hL1 k) b (by omega)).mono (by
  have:=Nat.mul_le_mul_right (L+1) (Nat.le_trans hi hM10)
  omega)
 refine .gtrF O O O (by omega) (.goC O ?_)
 refine .lp (α:=Nat×Value) [1,2,3] O (fun y=>[(9,y.2),(10,.int .i64 (y.1:Nat))]) (fun y W=>Ext w3 W/\y.1<=(nwOf n o).B/\OwnL eQ 54 w3.heap.size S W y.2 ((List.range y.1).map G)) (fun y=>(nwOf n o).B-y.1) (0,.slice none 0 0) (lc2 O O) ⟨Ext.refl _,Nat.zero_le _,OwnL.nil⟩ ?_
 rintro ⟨b,u⟩ W ⟨hW,hi,hU⟩
 replace hW:Ext w3 W:=hW
 replace hi:b<=(nwOf n o).B:=hi
 replace hU:OwnL eQ 54 w3.heap.size S W u ((List.range b).map G):=hU
 have k3:=k3.ext hW
 have zW:=hW.size
 refine .go O (.fa E9 O O (.go O (.ld A4 O O k3 O (.go O ?_))))
 rcases Nat.lt_or_ge b (nwOf n o).B with hlt | hge
 rotate_left
 ·have:b=(nwOf n o).B:=by omega
  subst this
  exact .lssF O O O (by omega) (.goE O (.plain [_,_] Tryz.results37 ⟨rfl,rfl,trivial⟩ ⟨x3.trans hW,_,_,rfl,hU.toR (fun k hk=>up k (by omega)) (fun _ h=>h),rfl⟩))
 obtain ⟨es,ho1,ho2⟩:=id hU
 have hub:∀ k,u.ownBlock=some k->w3.heap.size<=k/\k<W.heap.size:=fun k h=>ho1.lt k h
 refine .lssT O O O (by omega) (.go O (.bld _ O O S8 (.alloc O C5 fun W3 c n3=>?_)))
 obtain ⟨d3,kc,hc,zs3⟩:=n3
 generalize hT:(fun k=>(S k/\u.ownBlock≠some k)/\k≠c)=T
 have hTc:¬ T c:=by rw [<-hT];exact fun h=>h.2 rfl
 have hTS:∀ k,T k->S k/\u.ownBlock≠some k:=fun k h=>by rw [<-hT] at h;exact h.1
 have upT':∀ {W':World},W3.heap.size<=W'.heap.size->Up T W':=fun h k hk=>by rw [<-hT];exact ⟨⟨up k (by omega),fun e=>by have:=(hub k e).2;omega⟩,by omega⟩
 have hfT:∀ {W':World},Ext W W'->eV.R T W' vf f:=fun e=>ER.ext eV (eV.mono (S':=T) (fun k _ h=>by rw [<-hT];exact ⟨⟨h.1,fun e=>by have:=(hub k e).1;have:=h.2;omega⟩,by have:=h.2;omega⟩) (ER.lt eV hf)) (x3.trans (hW.trans e))
 have hsW:∀ {W':World},Ext W W'->eLs.R S W' s n.ls:=fun e=>ER.ext eLs hs (x3.trans (hW.trans e))
 have hoW:∀ {W':World},Ext W W'->eI.R S W' vo o:=fun e=>ER.ext eI ho (x3.trans (hW.trans e))
 have k3W:∀ {W':World},Ext W W'->Blk W' b3 24 #[.int .i64 ((nwOf n o).B:Nat),s]:=fun e=>k3.ext e
 refine .storeA (E:=eQ) (S:=T) ty_Q O O kc O O zq_R hTc fun W4 kc u4 hq4=>.goC O ?_
 have D4:Ext W W4:=u4.below d3 (by omega)
 have z4:W4.heap.size=W3.heap.size:=u4.size
 generalize hv:(fun i=>sumN i ((nwOf n o).trm (rv f) b))=v
 have hv0:v 0=0:=by rw [<-hv];rfl
 have hvs:∀ i,v (i+1)=v i+(nwOf n o).trm (rv f) b i:=fun i=>by rw [<-hv];rfl
 have hvz:∀ i,i<=n.ls.length->Rsz (v i) (1+10*(L+1)):=fun i hi=>by rw [<-hv];exact hsum b i hi
 have hGb:G b=qc (v n.ls.length):=by rw [<-hG,<-hv];rfl
 rw [<-N2,<-hv0] at hq4
 refine .lp (α:=Nat×Value) [1,2,3,9,10,11] O (fun y=>[(12,.int .i64 (y.1:Nat))]) (fun y W'=>Ext W W'/\W3.heap.size<=W'.heap.size/\y.1<=n.ls.length/\Blk W' c 54 y.2.cells/\eQ.R T W' y.2 (qc (v y.1))) (fun y=>n.ls.length-y.1) (0,zq) (lc1 O) ⟨D4,by omega,Nat.zero_le _,kc,hq4⟩ ?_
 clear kc hq4
 rintro ⟨i,y⟩ W5 ⟨hW5,zW5,hi,kc,hq⟩
 replace hW5:Ext W W5:=hW5
 replace zW5:W3.heap.size<=W5.heap.size:=zW5
 replace hi:i<=n.ls.length:=hi
 replace kc:Blk W5 c 54 y.cells:=kc
 replace hq:eQ.R T W5 y (qc (v i)):=hq
 refine .go O (.fa G8 O O (.go O (.ld L3 O O (k3W hW5) O (.go O (.lenR K2 O O (hsW hW5) ?_)))))
 rcases Nat.lt_or_ge i n.ls.length with hil | hge
 rotate_left
 ·have:i=n.ls.length:=by omega
  subst this
  rw [<-hGb] at hq
  have hqv:=shpA (E:=eQ) O hq
  refine .lssF O O O (by omega) (.go O (.ldA ty_Q O O kc (eQ.csz hq) ?_))
  rw [<-hqv]
  have hq':=hq
  obtain ⟨s1,t1,rfl,_,_⟩:=hq'
  refine .bsl _ O O AA3 fun W8 b8 n8=>?_
  obtain ⟨d8,k8,hb8,hs8⟩:=n8
  have D8:=hW5.trans d8
  have hW8:=hW.trans D8
  refine .gv O O (L1 (E:=eQ) (base:=w3.heap.size) (n:=G b) (by decide) un_V H0 O O O (hU.ext D8) k8 (eQ.mono (fun k _ h=>hTS k h) (ER.ext eQ hq d8)) (by simp;omega) (by decide) hW8.size) ?_
  rintro v9 W9 ⟨hO9,g9⟩
  have hW9:Ext w3 W9:=OwnL.below (hU.ext D8) g9 hW8 hW8.size
  exact .go O (.inc O O O (by omega) (.goN O (.mk (b+1,v9) O (lc2 O O) ⟨⟨hW9,hlt,by show OwnL _ _ _ _ W9 v9 ((List.range (b+1)).map G);rw [List.range_succ,List.map_append];exact hO9⟩,by show (nwOf n o).B-(b+1)<(nwOf n o).B-b;omega⟩)))
 have hgl:n.ls[i]?=some (n.ls.getD i ln0):=A6 hil
 have hFI:=ok.fI i hil
 have hTI:=ok.tI i hil
 have hne:=ok.ne i hil
 generalize n.ls.getD i ln0=ln at hgl hFI hTI
 have hvi:=hvz i hi
 have hai:=hkf.get hL1 i
 have hmid:Rsz (v i+rv f i) (1+10*(L+1)+L+1):=hvi.add (hkf.rsz hL1 i)
 generalize hmv:v i+(if i∉oN o/\(nwOf n o).F i=b then rv f i else 0)=m
 have hmz:Rsz m (1+10*(L+1)+L+1):=by
  rw [<-hmv]
  split
  ·exact hmid
  ·rw [Rat.add_zero];exact hvi.mono (by omega)
 have hfin:v (i+1)=m-(if i∉oN o/\(nwOf n o).T i=b then rv f i else 0):=by
  rw [hvs,<-hmv]
  by_cases hm:i∈oN o
  ·rw [Nw.trm_out (g_out hm),if_neg (fun h=>h.1 hm),if_neg (fun h=>h.1 hm)];grind
  have hg:=g_in ok hil hm
  by_cases hF:(nwOf n o).F i=b
  ·rw [Nw.trm_F hg hF (by omega),if_pos ⟨hm,hF⟩,if_neg (fun h=>hne (by omega))];grind
  by_cases hTt:(nwOf n o).T i=b
  ·rw [Nw.trm_T hg hF hTt,if_neg (fun h=>hF h.2),if_pos ⟨hm,hTt⟩];grind
  ·rw [Nw.trm_no hF hTt,if_neg (fun h=>hF h.2),if_neg (fun h=>hTt h.2)];grind
 refine .lssT O O O (by omega) (.goZ 14 O (.cut (α:=Value) 1 [1,2,3,9,10,11] O (fun _=>[(12,.int .i64 (i:Nat))]) (fun y W'=>Ext W W'/\W3.heap.size<=W'.heap.size/\Blk W' c 54 y.cells/\eQ.R T W' y (qc m)) O ?_ ?_))
 rotate_left
 ·refine .go O ?_
  refine .call _ O AR8 O (AQ1 (hoW hW5)) fun v6 W6 d6 h6=>?_
  subst h6
  have hW6:=hW5.trans d6
  have z6:=d6.size
  have kc:=kc.ext d6
  have hq:=ER.ext eQ hq d6
  by_cases hm:i∈oN o
  ·rw [decide_eq_true ((AB5 ok.outs i).2 hm)]
   rw [if_neg (fun h=>h.1 hm),Rat.add_zero] at hmv
   rw [hmv] at hq
   exact .goN O (.mk y O (lc1 O) ⟨hW6,by omega,kc,hq⟩)
  rw [decide_eq_false fun h=>hm ((AB5 ok.outs i).1 h)]
  refine .go O (.fa G8 O O (.go O (.ld L3 O O (k3W hW6) O (.go O (.ixN (i:=i) K2 O9 O O (hsW hW6) O hgl fun p hp=>.go O (.faP N8 O O (.go O (.ldE (E:=eInt .i64) A4 O O (hp.ln 0 (by decide)) fun e he=>?_))))))))
  obtain ⟨rfl,_⟩:=he
  rw [show lnI ln 0=ln.f from rfl,hFI]
  refine .go O ?_
  by_cases hF:(nwOf n o).F i=b
  rotate_left
  ·rw [if_neg (fun h=>hF h.2),Rat.add_zero] at hmv
   rw [hmv] at hq
   exact .eqlF O O O (by omega) (.goN O (.mk y O (lc1 O) ⟨hW6,by omega,kc,hq⟩))
  rw [if_pos ⟨hm,hF⟩] at hmv
  have hqv:=shpA (E:=eQ) O hq
  refine .eqlT O O O (by omega) (.goC O ?_)
  refine .par follows 4 [.inl y,.inl _,.inl _,.inr (eQ.at T (f.getD i q0))] [[],[],[],[(53,1),(54,2)]] (by kernel_rfl) ⟨
   fun w e=>((B9 ty_Q O (kc.ext e) (eQ.csz hq)).eq hqv.symm).ob,
   fun w e=>(v_mv O).ob,
   fun w e=>(v_mv O).ob,
   fun w e=>(by have:=J0 (i:=((i:Nat):Int)) (hfT (hW6.trans e));rw [O1] at this;exact (A2 _ J6 O this).ob (A3 _ _ _)),trivial⟩ ?_
  intro W7 d7 y3 hy3
  have hop:=(by have:=AB3 (L:=1+10*(L+1)) (upT' (by have:=d7.size;omega):Up T W7) (ER.ext eQ hq d7) hy3 hvi.toOk (hai.1.mono (by omega)) (by omega) (by omega);rw [C1,show v i+qval (f.getD i q0)=m from hmv] at this;exact this)
  refine .call _ O AC2 O hop fun y8 W8 d8 hq8=>?_
  have d78:=d7.trans d8
  have z78:=d78.size
  refine .storeA (E:=eQ) ty_Q O O (kc.ext d78) O (eQ.csz hq) hq8 hTc fun W9 k9 u9 hq9=>?_
  have z9:=u9.size
  have hW9:Ext W W9:=u9.below (hW6.trans d78) (by omega)
  exact .goN O (.mk y8 O (lc1 O) ⟨hW9,by omega,k9,hq9⟩)
 clear hq kc zW5 hW5
 rintro y W5 ⟨hW5,zW5,kc,hq⟩
 refine .go O ?_
 refine .call _ O AR8 O (AQ1 (hoW hW5)) fun v6 W6 d6 h6=>?_
 subst h6
 have hW6:=hW5.trans d6
 have z6:=d6.size
 have kc:=kc.ext d6
 have hq:=ER.ext eQ hq d6
 by_cases hm:i∈oN o
 ·rw [decide_eq_true ((AB5 ok.outs i).2 hm)]
  rw [if_neg (fun h=>h.1 hm),Rat.sub_eq_add_neg,Rat.neg_zero,Rat.add_zero] at hfin
  rw [<-hfin] at hq
  exact .go O (.inc O O O (by omega) (.goN O (.mk (i+1,y) O (lc1 O) ⟨⟨hW6,by omega,hil,kc,hq⟩,by show n.ls.length-(i+1)<n.ls.length-i;omega⟩)))
 ·rw [decide_eq_false fun h=>hm ((AB5 ok.outs i).1 h)]
  refine .go O (.fa G8 O O (.go O (.ld L3 O O (k3W hW6) O (.go O (.ixN (i:=i) K2 O9 O O (hsW hW6) O hgl fun p hp=>.go O (.faP N7 O O (.go O (.ldE (E:=eInt .i64) A4 O O (hp.ln 1 (by decide)) fun e he=>?_))))))))
  obtain ⟨rfl,_⟩:=he
  rw [show lnI ln 1=ln.t from rfl,hTI]
  refine .go O ?_
  by_cases hTt:(nwOf n o).T i=b
  rotate_left
  ·rw [if_neg (fun h=>hTt h.2),Rat.sub_eq_add_neg,Rat.neg_zero,Rat.add_zero] at hfin
   rw [<-hfin] at hq
   exact .eqlF O O O (by omega) (.go O (.inc O O O (by omega) (.goN O (.mk (i+1,y) O (lc1 O) ⟨⟨hW6,by omega,hil,kc,hq⟩,by show n.ls.length-(i+1)<n.ls.length-i;omega⟩))))
  rw [if_pos ⟨hm,hTt⟩] at hfin
  have hqv:=shpA (E:=eQ) O hq
  refine .eqlT O O O (by omega) (.goC O ?_)
  refine .par follows 4 [.inl y,.inl _,.inl _,.inr (eQ.at T (f.getD i q0))] [[],[],[],[(71,1),(72,2)]] (by kernel_rfl) ⟨
   fun w e=>((B9 ty_Q O (kc.ext e) (eQ.csz hq)).eq hqv.symm).ob,
   fun w e=>(v_mv O).ob,
   fun w e=>(v_mv O).ob,
   fun w e=>(by have:=J0 (i:=((i:Nat):Int)) (hfT (hW6.trans e));rw [O1] at this;exact (A2 _ J6 O this).ob (A3 _ _ _)),trivial⟩ ?_
  intro W7 d7 y3 hy3
  have hop:=(by have:=AZ4 (L:=1+10*(L+1)+L+1) (upT' (by have:=d7.size;omega):Up T W7) (ER.ext eQ hq d7) hy3 hmz.toOk (qk.mono hai (by omega)) (by omega) (by omega);rw [C1,show m-qval (f.getD i q0)=v (i+1) from hfin.symm] at this;exact this)
  refine .call _ O Ab2 O hop fun y8 W8 d8 hq8=>?_
  have d78:=d7.trans d8
  have z78:=d78.size
  refine .storeA (E:=eQ) ty_Q O O (kc.ext d78) O (eQ.csz hq) hq8 hTc fun W9 k9 u9 hq9=>?_
  have z9:=u9.size
  have hW9:Ext W W9:=u9.below (hW6.trans d78) (by omega)
  exact .go O (.inc O O O (by omega) (.goN O (.mk (i+1,y8) O (lc1 O) ⟨⟨hW9,by omega,hil,k9,hq9⟩,by show n.ls.length-(i+1)<n.ls.length-i;omega⟩)))
end Go.Proofs.YtggegpiffjbngaaGreat
namespace Go.Kx
open Go Go.RowKit Go.Proofs.YtggegpiffjbngaaGreat
theorem Af6 (n:Nw) (k:Nat) (g:Nat->Rat):∀ b,sumN (n.withTo k b).length (fun j=>g ((n.withTo k b).getD j 0))=sumN b fun c=>if n.lab c=k then g c else 0
 | 0=>rfl
 | b+1=>by
  have ih:=Af6 n k g b
  rw [n.withTo_succ k b]
  show _=sumN b (fun c=>if n.lab c=k then g c else 0)+if n.lab b=k then g b else 0
  by_cases h:n.lab b=k
  ·rw [if_pos h,if_pos h,List.length_append]
   show sumN (n.withTo k b).length _+_=_
   rw [<-ih]
   congr 1
   ·refine A5 fun j hj=>?_
    rw [List.getD_eq_getElem?_getD,List.getD_eq_getElem?_getD,List.getElem?_append_left hj]
   ·show g ((n.withTo k b++[b]).getD (n.withTo k b).length 0)=g b
    rw [List.getD_eq_getElem?_getD,List.getElem?_append_right (Nat.le_refl _),Nat.sub_self];rfl
  ·rw [if_neg h,if_neg h,List.append_nil,ih,Rat.add_zero]
theorem BL0 {n:Nw} {k b j:Nat} (h:j<(n.withTo k b).length):(n.withTo k b).getD j 0<b:=by
 have hm:(n.withTo k b).getD j 0∈n.withTo k b:=by
  rw [List.getD_eq_getElem?_getD,List.getElem?_eq_getElem h]
  exact List.getElem_mem h
 unfold Nw.withTo at hm
 exact List.mem_range.1 (List.mem_filter.1 hm).1
theorem Az4 {n:Nw} {x:Nat->Rat}:n.bal x<->∀ k,k<(n.refsTo n.B).length->sumN (n.withTo k n.B).length (fun j=>x ((n.withTo k n.B).getD j 0))=0:=by
 rw [Nw.bal_lab]
 constructor
 ·intro h k hk
  rw [Af6 n k x]
  exact h k (Nat.lt_of_lt_of_le hk (n.cnt_le n.B))
 ·intro h j hj
  rcases Nat.lt_or_ge j (n.refsTo n.B).length with hlt | hge
  ·rw [<-Af6 n j x];exact h j hlt
  ·refine F4 fun c hc=>?_
   rw [if_neg]
   intro e
   have:=(n.refs_lab hc).2
   have:n.lab c<(n.refsTo n.B).length:=this
   omega
end Go.Kx
namespace Go.Proofs.YtggegpiffjbngaaGreat
open Go Go.Kx Go.RowKit
theorem BL7 {n:NtV} {o:List Int} (hO:outE n o=0) {k:Nat} (hk:k<((nwOf n o).refsTo (nwOf n o).B).length):(rMemb n o)[k]?=some (pInts ((nwOf n o).withTo k (nwOf n o).B)):=by
 unfold rMemb labB
 rw [if_pos hO,List.getElem?_map,List.getElem?_range hk];rfl
theorem BL6 {n:NtV} {o:List Int} (hO:outE n o=0):(rMemb n o).length=((nwOf n o).refsTo (nwOf n o).B).length:=by
 unfold rMemb labB
 rw [if_pos hO];simp
theorem BM1 {l:List Nat} {j:Nat} (h:j<l.length):(pInts l)[j]?=some ((l.getD j 0:Nat):Int):=by
 unfold pInts
 rw [List.getElem?_map,List.getElem?_eq_getElem h,List.getD_eq_getElem?_getD,List.getElem?_eq_getElem h];rfl
theorem AF6:Ent Tryz.prog 29:=A0 Tryz.func29 (by kernel_rfl) rfl
open Classical in
set_option maxRecDepth 8000 in
theorem AE5 {S:Nat->Prop} {w:World} {vn vo vx:Value} {n:NtV} {o:List Int} {x:List QV} {L:Nat} (up:Up S w) (hn:eN.R S w vn n) (ho:eI.R S w vo o) (hx:eV.R S w vx x) (hkx:vk L x) (hL1:1<=L) (hL:L<=10000000) :
  CR Tryz.prog 29 #[vn,vo,vx] w (Two (Is (.bool (decide (sfE n o x.length=0/\(nwOf n o).bal (rv x))))) (Is (.int .i64 (sfE n o x.length)))):=by
 obtain ⟨s,rfl,hs,hb⟩:=hn
 have hn:eN.R S w (.agg #[.int .i64 n.b,s]) n:=⟨s,rfl,hs,hb⟩
 refine enter Tryz.func29 O Tryz.ntmps29 O (.beg (.go O (.box O O fun w1 b3 n1=>.go O ?_)))
 obtain ⟨e1,k3,hb3,hs1⟩:=n1
 replace k3:Blk w1 b3 24 #[.int .i64 n.b,s]:=k3
 refine .ldA ty_N O O k3 O (.go O ?_)
 refine .call _ O Ac8 O (Ac3 (up.ext e1.size) (hn.ext e1) (ho.ext e1)) fun v3 w3 e3 h3=>?_
 obtain ⟨vr,ve,rfl,hr,he⟩:=h3
 replace he:ve=.int .i64 (outE n o):=he
 subst he
 have x3:=e1.trans e3
 have k3:=k3.ext e3
 refine .go O ?_
 by_cases hO:outE n o=0
 rotate_left
 ·have hsf:sfE n o x.length=outE n o:=by unfold sfE;rw [if_pos hO]
  refine .neqT O O O hO (.goE O (.plain [_,_] Tryz.results29 ⟨rfl,rfl,trivial⟩ ⟨x3,_,_,rfl,?_,by rw [hsf]⟩))
  exact congrArg Value.bool (decide_eq_false fun h=>hO (hsf▸h.1)).symm
 have ok:=V4 hO
 have hnb:=ok.b
 have hB6:=ok.b6
 refine .neqF O O O hO (.go O (.lenR un_V O O (ER.ext eV hx x3) (.go O (.fa E9 O O (.go O (.ld A4 O O k3 O (.go O ?_)))))))
 by_cases hle:(x.length:Int)<=n.b
 rotate_left
 ·have hsf:sfE n o x.length=5:=by unfold sfE;rw [if_neg (by simpa using hO),if_neg hle]
  refine .gtrT O O O (by omega) (.goE O (.plain [_,_] Tryz.results29 ⟨rfl,rfl,trivial⟩ ⟨x3,_,_,rfl,?_,by rw [hsf]⟩))
  exact congrArg Value.bool (decide_eq_false fun h=>by rw [hsf] at h;exact absurd h.1 (by decide)).symm
 have hsf:sfE n o x.length=0:=by unfold sfE;rw [if_neg (by simpa using hO),if_pos hle]
 rw [hsf]
 have z3:=x3.size
 have hRl:=BL6 hO
 have hR6:((nwOf n o).refsTo (nwOf n o).B).length<=6:=Nat.le_trans ((nwOf n o).cnt_le _) hB6
 refine .gtrF O O O (by omega) (.goC O ?_)
 refine .lp (α:=Nat) [2,8] O (fun k=>[(10,.int .i64 (k:Nat))]) (fun k W=>Ext w3 W/\k<=((nwOf n o).refsTo (nwOf n o).B).length/\∀ i,i<k->sumN ((nwOf n o).withTo i (nwOf n o).B).length (fun j=>rv x (((nwOf n o).withTo i (nwOf n o).B).getD j 0))=0) (fun k=>((nwOf n o).refsTo (nwOf n o).B).length-k) 0 (lc1 O) ⟨Ext.refl _,Nat.zero_le _,fun i hi=>absurd hi (Nat.not_lt_zero _)⟩ ?_
 rintro k W ⟨hW,hk,hall⟩
 have zW:=hW.size
 refine .go O (.lenR Ap8 O O (ER.ext eII hr hW) ?_)
 rw [hRl]
 rcases Nat.lt_or_ge k ((nwOf n o).refsTo (nwOf n o).B).length with hlt | hge
 rotate_left
 ·have:k=((nwOf n o).refsTo (nwOf n o).B).length:=by omega
  subst this
  refine .lssF O O O (by omega) (.goE O (.plain [_,_] Tryz.results29 ⟨rfl,rfl,trivial⟩ ⟨x3.trans hW,_,_,rfl,?_,rfl⟩))
  exact congrArg Value.bool (decide_eq_true ⟨rfl,Az4.2 hall⟩).symm
 have hgk:=BL7 hO hlt
 have hpl:(pInts ((nwOf n o).withTo k (nwOf n o).B)).length=((nwOf n o).withTo k (nwOf n o).B).length:=by simp [pInts]
 have hwl:=(nwOf n o).withTo_le k (nwOf n o).B
 generalize hl:(nwOf n o).withTo k (nwOf n o).B=l at hgk hpl hwl
 refine .lssT O O O (by omega) (.go O (.bld _ O O S8 (.alloc O C5 fun W3 c n3=>?_)))
 obtain ⟨d3,kc,hc,zs3⟩:=n3
 generalize hT:(fun k=>S k/\k≠c)=T
 have hTc:¬ T c:=by rw [<-hT];exact fun h=>h.2 rfl
 have hTS:∀ k,T k->S k:=fun k h=>by rw [<-hT] at h;exact h.1
 have upT':∀ {W':World},W3.heap.size<=W'.heap.size->Up T W':=fun h k hk=>by rw [<-hT];exact ⟨up k (by omega),by omega⟩
 have hxT:∀ {W':World},Ext W W'->eV.R T W' vx x:=fun e=>ER.ext eV (eV.mono (S':=T) (fun k _ h=>by rw [<-hT];exact ⟨h.1,by have:=h.2;omega⟩) (ER.lt eV hx)) (x3.trans (hW.trans e))
 have hrW:∀ {W':World},Ext W W'->eII.R S W' vr (rMemb n o):=fun e=>ER.ext eII hr (hW.trans e)
 refine .storeA (E:=eQ) (S:=T) ty_Q O O kc O O zq_R hTc fun W4 kc u4 hq4=>.goC O ?_
 have D4:Ext W W4:=u4.below d3 (by omega)
 have z4:W4.heap.size=W3.heap.size:=u4.size
 generalize hv:(fun i=>sumN i fun j=>rv x (l.getD j 0))=v
 have hv0:v 0=0:=by rw [<-hv];rfl
 have hvs:∀ i,v (i+1)=v i+rv x (l.getD i 0):=fun i=>by rw [<-hv];rfl
 have hvz:∀ i,i<=l.length->Rsz (v i) (1+6*(L+1)):=fun i hi=>by
  rw [<-hv]
  refine (AT0 fun k hk=>hkx.rsz hL1 _).mono ?_
  have:=Nat.mul_le_mul_right (L+1) (show i<=6 by omega)
  omega
 have hGb:sumN l.length (fun j=>rv x (l.getD j 0))=v l.length:=by rw [<-hv]
 rw [<-N2,<-hv0] at hq4
 refine .lp (α:=Nat×Value) [2,8,10,11] O (fun y=>[(12,.int .i64 (y.1:Nat))]) (fun y W'=>Ext W W'/\W3.heap.size<=W'.heap.size/\y.1<=l.length/\Blk W' c 54 y.2.cells/\eQ.R T W' y.2 (qc (v y.1))) (fun y=>l.length-y.1) (0,zq) (lc1 O) ⟨D4,by omega,Nat.zero_le _,kc,hq4⟩ ?_
 clear kc hq4
 rintro ⟨i,y⟩ W5 ⟨hW5,zW5,hi,kc,hq⟩
 replace hW5:Ext W W5:=hW5
 replace zW5:W3.heap.size<=W5.heap.size:=zW5
 replace hi:i<=l.length:=hi
 replace kc:Blk W5 c 54 y.cells:=kc
 replace hq:eQ.R T W5 y (qc (v i)):=hq
 have hqv:=shpA (E:=eQ) O hq
 refine .go O (.ixN (i:=k) Ap8 ty_I O O (hrW hW5) O hgk fun p hp=>.go O (.ldE (E:=eI) ty_I O O hp fun e he=>.go O (.lenR un_I O O he ?_)))
 rw [hpl]
 rcases Nat.lt_or_ge i l.length with hil | hge
 rotate_left
 ·have:i=l.length:=by omega
  subst this
  refine .lssF O O O (by omega) (.go O (.ldA ty_Q O O kc (eQ.csz hq) ?_))
  rw [<-hqv]
  refine .call _ O AH5 O (AG4 (upT' (by omega)) hq (hvz _ hi).toOk (by omega)) fun v7 W7 d7 h7=>?_
  subst h7
  have hW7:=hW.trans (hW5.trans d7)
  refine .go O ?_
  rw [pn_qc]
  by_cases hz:v l.length=0
  ·rw [hz]
   exact .neqF O O O O (.go O (.inc O O O (by omega) (.goN O (.mk (k+1) O (lc1 O) ⟨⟨hW7,hlt,fun i' hi'=>by
    rcases Nat.lt_or_ge i' k with h | h
    ·exact hall i' h
    ·have:i'=k:=by omega
     subst this
     rw [hl,hGb,hz]⟩,by show ((nwOf n o).refsTo (nwOf n o).B).length-(k+1)<((nwOf n o).refsTo (nwOf n o).B).length-k;omega⟩))))
  ·refine .neqT O O O (fun h=>hz (Rat.num_eq_zero.1 (Int.sign_eq_zero_iff_zero.1 h))) (.goE O (.plain [_,_] Tryz.results29 ⟨rfl,rfl,trivial⟩ ⟨x3.trans hW7,_,_,rfl,?_,rfl⟩))
   refine congrArg Value.bool (decide_eq_false fun h=>hz ?_).symm
   have:=Az4.1 h.2 k hlt
   rw [hl,hGb] at this
   exact this
 have hvi:=hvz i hi
 have hgi:=BM1 hil
 have hbl:l.getD i 0<(nwOf n o).B:=by rw [<-hl];rw [<-hl] at hil;exact BL0 hil
 have hvn:=hvs i
 generalize l.getD i 0=b at hgi hbl hvn
 have hai:=hkx.get hL1 b
 refine .lssT O O O (by omega) (.goC O ?_)
 refine .par follows 10 [.inl y,.inl _,.inl _,.inl _,.inr (Ptr eI S (pInts l)),.inr (eI.at S (pInts l)),.inl _,.inr (Ptr (eInt .i64) S ((b:Nat):Int)),.inl (.int .i64 (b:Nat)),.inr (eQ.at T (x.getD b q0))] [[],[],[],[],[(45,2),(46,3)],[(47,4)],[],[(48,5),(49,6)],[(50,7)],[(44,1),(51,8)]] (by kernel_rfl) ⟨
  fun w e=>((B9 ty_Q O (kc.ext e) (eQ.csz hq)).eq hqv.symm).ob,
  fun w e=>(v_mv O).ob,
  fun w e=>(v_mv O).ob,
  fun w e=>(v_mv O).ob,
  fun w e=>B7 (i:=k) Ap8 ty_I O (hrW (hW5.trans e)) O hgk,
  fun w e x4 hx4=>J2 ty_I O hx4,
  fun w e=>(v_mv O).ob,
  fun w e x5 hx5=>B7 (i:=i) un_I B6 O hx5 O hgi,
  fun w e x7 hx7=>H7 A4 O hx7,
  fun w e=>(by have:=J0 (i:=((b:Nat):Int)) (hxT (hW5.trans e));rw [O1] at this;exact (A2 _ J6 O this).ob (A3 _ _ _)),trivial⟩ ?_
 intro W7 d7 y4 hy4 y5 hy5 y7 hy7 y9 hy9
 have hop:=AB3 (L:=1+6*(L+1)) (upT' (by have:=d7.size;omega):Up T W7) (ER.ext eQ hq d7) hy9 hvi.toOk (hai.1.mono (by omega)) (by omega) (by omega)
 rw [C1,show v i+qval (x.getD b q0)=v (i+1) from hvn.symm] at hop
 refine .call _ O AC2 O hop fun y8 W8 d8 hq8=>?_
 have d78:=d7.trans d8
 have z78:=d78.size
 refine .storeA (E:=eQ) ty_Q O O (kc.ext d78) O (eQ.csz hq) hq8 hTc fun W9 k9 u9 hq9=>?_
 have z9:=u9.size
 have hW9:Ext W W9:=u9.below (hW5.trans d78) (by omega)
 exact .go O (.inc O O O (by omega) (.goN O (.mk (i+1,y8) O (lc1 O) ⟨⟨hW9,by omega,hil,k9,hq9⟩,by show l.length-(i+1)<l.length-i;omega⟩)))
section
variable {S:Nat->Prop} {base g:Nat} {W W':World} {vs:List Value} {ls:List (List QV)}
theorem RwI.low (h:RwI S base g W vs ls) (hg:base<=g) {k:Nat} (hk:k<base) (hS:S k):offV S g vs k:=⟨hS,by omega,fun u hu e=>by have:=(h.own_lt hu e).1;omega⟩
theorem RwI.up (h:RwI S base g W vs ls) {V:World} (hw:W.heap.size<=V.heap.size) (hS:Up S V):Up (offV S g vs) V:=fun k hk=>⟨hS k hk,by have:=h.out.lt;omega,fun u hu e=>by have:=(h.own_lt hu e).2;omega⟩
theorem RwI.keep {α:Type} {E:ER α} {e:Value} {x:α} {W'':World} {i:Nat} {u v':Value} (h:RwI S base g W vs ls) (hi:vs[i]?=some u) (he:E.R (offV S g vs) W e x) (hg:W.grownBy W' u.ownBlock) (hob:v'.ownBlock=u.ownBlock\/v'.ownBlock=some W.heap.size) (hu:Upd W' W'' g):E.R (offV S g (vs.set i v')) W'' e x:=by
 have hum:u∈vs:=List.mem_iff_getElem?.2 ⟨i,hi⟩
 have h3:=ER.lt E he
 have h4:=E.keep (w':=W') (fun k c t f hS hk=>(hg.block k hS.2 (fun e'=>hS.1.2.2 u hum e'.symm)).trans hk) h3
 have h5:=E.keep (Kp.upd hu (fun hS=>hS.1.2.1 O)) h4
 refine E.mono (fun k _ hS=>⟨hS.1.1,hS.1.2.1,fun u2 hu2=>?_⟩) h5
 rcases List.mem_or_eq_of_mem_set hu2 with h6 | h6
 ·exact hS.1.2.2 u2 h6
 ·subst h6
  rcases hob with h7 | h7
  ·rw [h7];exact hS.1.2.2 u hum
  ·rw [h7];intro e';cases e';have:=hS.2;omega
end
@[reducible] def OneP (X:Nat->Prop) (q:QV):Value->World->Prop:=fun v W=>∃ b e,v=.slice (some ⟨b,0,none⟩) 1 1/\Blk W b 54 e.cells/\eQ.R X W e q
theorem BT2 {X:Nat->Prop} {w:World} {σ:Env} {d:Option Tmp} {ty:TypeId} {pos:String} {af:Array Edge} {gd:Option (Nat×Bool)} {x:Operand} {u:Value} {q:QV} (hu:eQ.R X w u q) (hx:ev σ x=some u:=by rfl) :
  Gv Tryz.prog ⟨d,.buildSlice 32 1 #[(0,x)],ty,pos,af,gd⟩ σ w fun v' w'=>Ext w w'/\Sp.ok (.inr (OneP X q)) v' w':=by
 have hu':=hu
 obtain ⟨s1,t1,rfl,_,_⟩:=hu'
 refine (AO5 (ps:=[(0,x)]) [(0,.agg #[.bool q.num.neg,s1,.bool q.den.neg,t1])] (by simp [evp,hx]) AA3).mono fun v' w' ⟨b2,hv',n2⟩=>⟨n2.1,fun w'' e=>⟨b2,.agg #[.bool q.num.neg,s1,.bool q.den.neg,t1],hv',n2.2.1.ext e,ER.ext eQ hu (n2.1.trans e)⟩⟩
def _root_.Go.Kx.Nw.Lk (n:Nw) (b k:Nat):Rat:=n.offM (rv (tab n.M (n.fl (rv (tab n.B (uniR (k:Nat))))))) b
theorem rv_uni {B k b:Nat}:rv (tab B (uniR (k:Nat))) b=if b<B then (if b=k then 1 else 0) else 0:=by
 rw [H9]
 unfold uniR
 by_cases h:b=k
 ·subst h;simp
 ·have:¬ ((b:Int)=(k:Int)):=by omega
  simp [h,this]
theorem BQ2 (B k:Nat):vk 1 (tab B (uniR (k:Nat))):=O5 fun b _=>by
 unfold uniR
 split
 ·exact ⟨by decide,by decide⟩
 ·exact Rsz.zero (Nat.le_refl _)
end Go.Proofs.YtggegpiffjbngaaGreat
