/-
  What the claim leans on.
-/
import Derived.Test.YtggegpiffjbngaaGreatG6
import Derived.ArgAppend
import Derived.Lib.SmallJoins
set_option linter.unusedVariables false
namespace Go.Proofs.YtggegpiffjbngaaGreat
open Go Go.Kx Go.RowKit
theorem uni_dl (b c:Nat):uni ((b:Nat):Int) c=dl b c:=by
 unfold uni dl
 by_cases h:b=c
 ·rw [if_pos (by omega),if_pos h]
 ·rw [if_neg (by omega),if_neg h]
theorem bd6 (L:Nat):bd L 6=4096*L+1365:=by
 simp only [bd];omega
theorem rv_sum {x:List QV} {B:Nat} (hx:x.length<=B) (p:Nat->Prop) [DecidablePred p]:sumN x.length (fun b=>if p b then rv x b else 0)=sumN B (fun b=>if p b then rv x b else 0):=by
 obtain ⟨d,rfl⟩:∃ d,B=x.length+d:=⟨B-x.length,by omega⟩
 clear hx
 induction d with
 | zero=>rfl
 | succ d ih =>
  rw [ih]
  show _=sumN (x.length+d) _+(if p (x.length+d) then rv x (x.length+d) else 0)
  rw [AN4 (show x.length<=x.length+d by omega),ite_self,Rat.add_zero]
theorem AS2:Ent Tryz.prog 32:=A0 Tryz.func32 (by kernel_rfl) rfl
open Classical in
set_option maxRecDepth 8000 in
theorem AR5 {S:Nat->Prop} {w:World} {vn vo vx:Value} {n:NtV} {o:List Int} {x:List QV} {L:Nat} (up:Up S w) (hn:eN.R S w vn n) (ho:eI.R S w vo o) (hx:eV.R S w vx x) (hkx:vk L x) (hL1:1<=L) (hL:L<=1000000) :
  CR Tryz.prog 32 #[vn,vo,vx] w (Two (Is (.bool (decide (sfE n o x.length=0/\(nwOf n o).bal (rv x))))) (Is (.int .i64 (sfE n o x.length)))):=by
 obtain ⟨s,rfl,hs,hb⟩:=hn
 have hn:eN.R S w (.agg #[.int .i64 n.b,s]) n:=⟨s,rfl,hs,hb⟩
 refine enter Tryz.func32 O Tryz.ntmps32 O (.beg (.go O (.box O O fun w1 b3 n1=>?_)))
 obtain ⟨e1,k3,hb3,hs1⟩:=n1
 refine .go O (.ldA ty_N O O k3 O (.go O ?_))
 refine .call _ O AE4 O (AD1 (up.ext e1.size) (hn.ext e1) (ho.ext e1)) fun v2 w2 e2 h2=>?_
 obtain ⟨vl,ve,rfl,hl,he⟩:=h2
 replace he:ve=.int .i64 (outE n o):=he
 subst he
 have x2:=e1.trans e2
 refine .go O ?_
 by_cases hE:outE n o=0
 rotate_left
 ·have hb:sfE n o x.length=outE n o:=by unfold sfE;rw [if_pos hE]
  refine .neqT O O O hE (.goE O ?_)
  refine .plain [_,_] Tryz.results32 ⟨rfl,rfl,trivial⟩ ⟨x2,_,_,rfl,?_,by rw [hb]⟩
  rw [decide_eq_false fun h=>hE (hb.symm.trans h.1)]
 have ok:=K5 hE
 rw [if_pos hE] at hl
 have hB6:=ok.b6
 have hB1:=ok.b1
 have hnb:=ok.b
 have k3:=k3.ext e2
 rw [hnb] at k3
 obtain ⟨_,_,_,_,hxl⟩:=RL.len hx
 refine .neqF O O O hE (.go O (.lenR un_V O O (hx.ext x2) (.go O (.fa H0 O O (.ld A8 O O k3 O ?_)))))
 by_cases hlen:(x.length:Int)<=n.b
 rotate_left
 ·have hb:sfE n o x.length=5:=by unfold sfE;rw [if_neg (by simpa using hE),if_neg hlen]
  refine .gtrT O O O (by omega) (.goE O ?_)
  refine .plain [_,_] Tryz.results32 ⟨rfl,rfl,trivial⟩ ⟨x2,_,_,rfl,?_,by rw [hb]⟩
  rw [decide_eq_false fun h=>by rw [hb] at h;exact absurd h.1 (by decide)]
 have hno:sfE n o x.length=0:=by unfold sfE;rw [if_neg (by simpa using hE),if_pos hlen]
 have hxB:x.length<=(nwOf n o).B:=by omega
 refine .gtrF O O O (by omega) (.go O (.fa H0 O O (.ld A8 O O k3 O ?_)))
 refine .make_ _ _ un_V I3 O (by decide) O O O (Nat.le_refl _) (by omega) (by omega) fun w3 h n3=>?_
 have f3:FB eQ 54 S w3 h (List.replicate (nwOf n o).B q0):=FB.made n3 zq_R
 obtain ⟨e3,_,hh,hs3⟩:=n3
 rw [<-AJ6] at f3
 have hs2:=x2.size
 have hx2:=hx.ext x2
 have hxT:eV.R (fun k=>S k/\k≠h) w2 vx x:=eV.mono (fun k _ h=>⟨h.1,by have:=h.2;omega⟩) (ER.lt eV hx2)
 refine .go O (.lenR un_V O O (ER.ext eV hx2 e3) ?_)
 generalize hu:(fun i j=>sumN i fun b=>if (nwOf n o).lab b=j then rv x b else 0)=u
 refine .goC O (.lp (α:=Nat) [8,10,32,33] O (fun i=>[(34,.int .i64 (i:Nat))]) (fun i W=>Ext w2 W/\i<=x.length/\FB eQ 54 S W h (tab (nwOf n o).B (u i))) (fun i=>x.length-i) 0 (lc1 O) ⟨e3,Nat.zero_le _,by rw [<-hu];exact f3⟩ ?_)
 rintro i W ⟨hW,hi,fb⟩
 have hWs:=hW.size
 have hhl:=fb.lt
 refine .go O ?_
 rcases Nat.lt_or_ge i x.length with hlt | hge
 rotate_left
 ·have:i=x.length:=by omega
  subst this
  have hsum:∀ j,u x.length j=sumN (nwOf n o).B fun b=>if (nwOf n o).lab b=j then rv x b else 0:=fun j=>by rw [<-hu];exact rv_sum hxB _
  have hbal:(nwOf n o).bal (rv x)<->∀ j,j<(nwOf n o).B->u x.length j=0:=by
   rw [Nw.bal_lab]
   simp only [hsum]
  have hR:eV.R S W (slB (nwOf n o).B h) (tab (nwOf n o).B (u x.length)):=by
   have:=fb.toR (hsz:=by decide) (c:=(nwOf n o).B) (up h (by omega)) (by rw [A1];exact Nat.le_refl _) (by rw [A1];omega)
   rw [A1] at this
   exact this
  refine .lssF O O O (by omega) (.go O (.len un_V O O ?_))
  refine .goC O (.lp (α:=Nat) [55,56] O (fun j=>[(57,.int .i64 (j:Nat))]) (fun j W'=>Ext W W'/\j<=(nwOf n o).B/\∀ j',j'<j->u x.length j'=0) (fun j=>(nwOf n o).B-j) 0 (lc1 O) ⟨Ext.refl _,Nat.zero_le _,fun _ h=>absurd h (by omega)⟩ ?_)
  rintro j W' ⟨hW',hj,hz⟩
  refine .go O ?_
  rcases Nat.lt_or_ge j (nwOf n o).B with hjl | hge
  rotate_left
  ·refine .lssF O O O (by omega) (.goE O ?_)
   refine .plain [_,_] Tryz.results32 ⟨rfl,rfl,trivial⟩ ⟨x2.trans (hW.trans hW'),_,_,rfl,?_,by rw [hno]⟩
   rw [decide_eq_true ⟨hno,hbal.2 fun j' hj'=>hz j' (by omega)⟩]
  refine .lssT O O O (by omega) (.go O (.ixN (i:=j) un_V ty_Q O O (ER.ext eV hR hW') O (E8 hjl) fun q hq=>.ldE (E:=eQ) ty_Q O O hq fun y hy=>.alloc O C8 fun W2 b14 n2=>?_))
  obtain ⟨e4,k14,hb14,hs4⟩:=n2
  refine .storeA (E:=eQ) (S:=fun k=>S k/\k<W'.heap.size) ty_Q O O k14 O O (ER.ext eQ (ER.lt eQ hy) e4) (fun h=>by have:=h.2;omega) fun W3 k14 u3 hy=>?_
  have hyv:=shpA (E:=eQ) O hy
  refine .go O (.ldA ty_Q O O k14 (eQ.csz hy) ?_)
  rw [<-hyv]
  refine .call _ O T4 O (S3 hy) fun v4 W4 e5 h4=>?_
  subst h4
  rw [B5]
  have x4:Ext W W4:=hW'.trans (Ext.trans (u3.below e4 (by omega)) e5)
  by_cases h0:u x.length j=0
  ·rw [h0]
   refine .neqF O O O (by decide) (.go O (.inc O O O (by omega) (.goN O (.mk (j+1) O (lc1 O) ⟨⟨x4,hjl,fun j' hj'=>?_⟩,by show (nwOf n o).B-(j+1)<(nwOf n o).B-j;omega⟩))))
   by_cases e:j'=j
   ·rw [e];exact h0
   ·exact hz j' (by omega)
  ·refine .neqT O O O (fun h=>h0 (AE9.1 h)) (.goE O ?_)
   refine .plain [_,_] Tryz.results32 ⟨rfl,rfl,trivial⟩ ⟨x2.trans (hW.trans x4),_,_,rfl,?_,by rw [hno]⟩
   rw [decide_eq_false fun h=>h0 (hbal.1 h.2 j hjl)]
 have hib:i<(nwOf n o).B:=by omega
 have hlab:(nwOf n o).lab i<(nwOf n o).B:=Nat.lt_of_le_of_lt ((nwOf n o).lab_le i) hib
 have hxi:x[i]?=some (x.getD i q0):=A7 hlt
 have hqi:=hkx.get hL1 i
 have hus:∀ i,i<=6->∀ j,Rsz (u i j) (1+6*(L+1)):=fun i hi j=>by
  rw [<-hu]
  refine (Ah6 (L:=L) fun b _=>?_).mono (by have:=Nat.mul_le_mul_right (L+1) hi;omega)
  split
  ·exact hkx.rsz hL1 b
  ·exact Rsz.zero hL1
 refine .lssT O O O (by omega) (.go O (.ixN (i:=i) un_V ty_Q O O (ER.ext eV hxT hW) O hxi fun q hq=>.ldE (E:=eQ) ty_Q O O hq fun y hy=>.alloc O C8 fun W1 b12 n1'=>.go O ?_))
 obtain ⟨g1,k12,hb12,hs1'⟩:=n1'
 refine .storeA (E:=eQ) (S:=fun k=>(S k/\k≠h)/\k<W.heap.size) ty_Q O O k12 O O (ER.ext eQ (ER.lt eQ hy) g1) (fun h=>by have:=h.2;omega) fun W2 k12 u2 hy=>?_
 have hs2':=u2.size
 have fb:=fb.new g1 u2 (by omega)
 have hW2:Ext w2 W2:=u2.below (hW.trans g1) (by omega)
 have hyv:=shpA (E:=eQ) O hy
 have hy:eQ.R (fun k=>S k/\k≠h) W2 y _:=eQ.mono (fun _ _ h=>h.1) hy
 have upT:∀ {W':World},W2.heap.size<=W'.heap.size->Up (fun k=>S k/\k≠h) W':=fun hs k' hk'=>⟨up k' (by omega),by omega⟩
 refine .goC O ?_
 refine .par follows 14 [.inl (slB (nwOf n o).B h),.inl vl,.inl (.int .i64 (i:Nat)),.inr (Ptr (eInt .i64) S (((nwOf n o).lab i):Nat)),.inl (.int .i64 (((nwOf n o).lab i):Nat)),.inl (slB (nwOf n o).B h),.inl vl,.inl (.int .i64 (i:Nat)),.inr (Ptr (eInt .i64) S (((nwOf n o).lab i):Nat)),.inl (.int .i64 (((nwOf n o).lab i):Nat)),.inl (.pointer (some ⟨h,0+((nwOf n o).lab i)*4,none⟩)),.inr (eQ.at (fun k=>S k/\k≠h) (qc (u i ((nwOf n o).lab i)))),.inl y,.inr (eQ.at (fun k=>S k/\k≠h) (qc (u i ((nwOf n o).lab i)+rv x i)))] [[],[],[],[(40,1),(41,2)],[(42,3)],[],[],[],[(45,6),(46,7)],[(47,8)],[(44,5),(48,9)],[(49,10)],[],[(50,11),(51,12)]] (by kernel_rfl) ⟨
  fun w e=>(v_mv O).ob,
  fun w e=>(v_mv O).ob,
  fun w e=>(v_mv O).ob,
  fun w e=>D6 (i:=i) un_I B0 O (ER.ext eI (ER.ext eI hl hW2) e) O (X8 hib),
  fun w e x3 hx3=>T9 B0 O hx3,
  fun w e=>(v_mv O).ob,
  fun w e=>(v_mv O).ob,
  fun w e=>(v_mv O).ob,
  fun w e=>D6 (i:=i) un_I B0 O (ER.ext eI (ER.ext eI hl hW2) e) O (X8 hib),
  fun w e x8 hx8=>T9 B0 O hx8,
  fun w e=>(D8 (i:=((nwOf n o).lab i)) un_V ty_Q O O hlab).ob,
  fun w e=>U1 (E:=eQ) (i:=((nwOf n o).lab i)) (by decide) ty_Q O (Nat.zero_add _) (fb.ext e) (E8 hlab),
  fun w e=>((C9 ty_Q O (k12.ext e) (eQ.csz hy)).eq hyv.symm).ob,
  fun w e x11 hx11=>by
   have:=Q6 (L:=1+6*(L+1)) (upT e.size) hx11 (ER.ext eQ hy e) (hus i (by omega) _).toOk (hqi.1.mono (by omega)) (by omega) (by omega)
   rw [B5] at this
   exact (A6 _ Q8 O this).ob (A9 _ _ _),trivial⟩ ?_
 intro X0 g0 _ _ _ _ _ _ y0 hy0
 have sx0:=g0.size
 refine .ixB (i:=(nwOf n o).lab i) un_V ty_Q O O O hlab (.storeF (E:=eQ) (i:=(nwOf n o).lab i) (by decide) ty_Q O O (fb.ext g0) O (by rw [A1];exact hlab) (Nat.zero_add _) hy0 fun Y0 fy0 uy0=>?_)
 have hstep:(tab (nwOf n o).B (u i)).set ((nwOf n o).lab i) (qc (u i ((nwOf n o).lab i)+rv x i))=tab (nwOf n o).B (u (i+1)):=by
  rw [N8]
  refine C4 fun j _=>?_
  rw [<-hu]
  show _=sumN i _+_
  dsimp only
  by_cases e:j=(nwOf n o).lab i
  ·rw [if_pos e,if_pos e.symm,e]
  ·rw [if_neg e,if_neg (Ne.symm e)];grind
 rw [hstep] at fy0
 exact .go O (.inc O O O (by omega) (.goN O (.mk (i+1) O (lc1 O) ⟨⟨uy0.below (hW2.trans g0) (by omega),hlt,fy0⟩,by show x.length-(i+1)<x.length-i;omega⟩)))
open Classical in
noncomputable def anE (n:NtV) (o:List Int) (x:List QV):Int:=if sfE n o x.length≠0 then sfE n o x.length else if (nwOf n o).bal (rv x) then 0 else 10
theorem BH7 {n:NtV} {o:List Int} {x:List QV} (h:anE n o x=0):sfE n o x.length=0/\(nwOf n o).bal (rv x):=by
 unfold anE at h
 split at h
 ·exact absurd h (by assumption)
 ·split at h
  ·exact ⟨Classical.not_not.1 (by assumption),by assumption⟩
  ·cases h
theorem anE_of {n:NtV} {o:List Int} {x:List QV} (h:outE n o=0) (hx:(x.length:Int)<=n.b) (hb:(nwOf n o).bal (rv x)):anE n o x=0:=by
 have:sfE n o x.length=0:=by unfold sfE;rw [if_neg (by simpa using h),if_pos hx]
 unfold anE
 rw [if_neg (by simpa using this),if_pos hb]
theorem an_sol {n:NtV} {o:List Int} (ok:nwOk n o) {r x:List QV} (hr:r.length=(nwOf n o).B) (hx:∀ b,b<(nwOf n o).B->rv r b=(nwOf n o).inj0 (rv x) b):solvable (nwOf n o).gA r/\tab (nwOf n o).B (rv (solX (nwOf n o).gA r))=tab (nwOf n o).B ((nwOf n o).an (rv x)):=by
 have hs:solvable (nwOf n o).gA r:=BE2 (by rw [AF7 ok.b1,H6]) (Ad8 ok.ok ok.b1) fun i hi=>AN4 (by rw [H6] at hi;omega)
 refine ⟨hs,C4 fun c hc=>?_⟩
 rw [<-inv_sol (by rw [AF7 ok.b1,H6]) (Ad8 ok.ok ok.b1) hs (by rw [H6];exact hc),H6]
 unfold Nw.an
 refine A2 fun b hb=>?_
 rw [hx b hb];rfl
theorem BH6 {n:NtV} {o:List Int} (ok:nwOk n o) {x:Nat->Rat} {L:Nat} (hL:1<=L) (hx:∀ b,Rsz (x b) L) (c:Nat):Rsz ((nwOf n o).an x c) (1+6*(87381+L+1)):=by
 unfold Nw.an
 refine (Ah6 (L:=87381+L) fun b _=>(BB1 ok b c).mul ?_).mono (by have:=Nat.mul_le_mul_right (87381+L+1) ok.b6;omega)
 unfold Nw.inj0
 split
 ·exact Rsz.zero hL
 ·exact hx b
theorem AZ3:Ent Tryz.prog 33:=A0 Tryz.func33 (by kernel_rfl) rfl
open Classical in
set_option maxRecDepth 8000 in
theorem AY6 {S T0:Nat->Prop} {w:World} {vn vo vx:Value} {n:NtV} {o:List Int} {x:List QV} {L:Nat} (up:Up S w) (upo:Up T0 w) (hn:eN.R S w vn n) (ho:eI.R S w vo o) (hx:eV.R S w vx x) (hkx:vk L x) (hL1:1<=L) (hL:L<=9000) :
  CR Tryz.prog 33 #[vn,vo,vx] w (Two (eV.at T0 (if anE n o x=0 then tab (nwOf n o).B ((nwOf n o).an (rv x)) else [])) (Is (.int .i64 (anE n o x)))):=by
 obtain ⟨s,rfl,hs,hb⟩:=hn
 have hn:eN.R S w (.agg #[.int .i64 n.b,s]) n:=⟨s,rfl,hs,hb⟩
 refine enter Tryz.func33 O Tryz.ntmps33 O (.beg (.go O (.box O O fun w1 b3 n1=>?_)))
 obtain ⟨e1,k3,hb3,hs1⟩:=n1
 refine .go O (.ldA ty_N O O k3 O (.go O ?_))
 refine .call _ O AS2 O (AR5 (up.ext e1.size) (hn.ext e1) (ho.ext e1) (ER.ext eV hx e1) hkx hL1 (by omega)) fun v2 w2 e2 h2=>?_
 obtain ⟨vb,ve,rfl,rfl,rfl⟩:=h2
 have x2:=e1.trans e2
 refine .go O ?_
 by_cases hE:sfE n o x.length=0
 rotate_left
 ·have hb:anE n o x=sfE n o x.length:=by unfold anE;rw [if_pos hE]
  refine .neqT O O O hE (.goE O ?_)
  refine .plain [_,_] Tryz.results33 ⟨rfl,rfl,trivial⟩ ⟨x2,_,_,rfl,?_,by rw [hb]⟩
  rw [if_neg (by rw [hb];exact hE)];exact RL.nil
 by_cases hB:(nwOf n o).bal (rv x)
 rotate_left
 ·have hb:anE n o x=10:=by unfold anE;rw [if_neg (by simpa using hE),if_neg hB]
  rw [decide_eq_false fun h=>hB h.2]
  refine .neqF O O O hE (.goE O ?_)
  refine .plain [_,_] Tryz.results33 ⟨rfl,rfl,trivial⟩ ⟨x2,_,_,rfl,?_,by rw [hb]⟩
  rw [if_neg (by rw [hb];decide)];exact RL.nil
 have hno:anE n o x=0:=by unfold anE;rw [if_neg (by simpa using hE),if_pos hB]
 rw [decide_eq_true ⟨hE,hB⟩,if_pos hno]
 obtain ⟨hO,hxb⟩:=BB8 hE
 have ok:=K5 hO
 have hB6:=ok.b6
 have hB1:=ok.b1
 have hnb:=ok.b
 refine .neqF O O O hE (.go O (.ldA ty_N O O (k3.ext e2) O (.go O ?_)))
 refine .call _ O AP0 O (AN7 (up.ext x2.size) (hn.ext x2) (ho.ext x2)) fun v4 w4 e4 h4=>?_
 obtain ⟨vm,ve,rfl,hm,rfl⟩:=h4
 rw [if_pos hO] at hm
 obtain ⟨gb,hs0,rfl,hgb,hge,hM⟩:=hm
 have x4:=x2.trans e4
 have hs2:=x2.size
 have hs4:=e4.size
 have hglt:=hM.out.lt
 have hk3:=k3.lt
 have hF:FB eV 32 S w4 gb (tabM (nwOf n o).B (nwOf n o).B (nwOf n o).Lm):=hM.toFB (fun k hk=>up k (by have:=hge k hk;omega)) (by omega)
 have old:∀ {α:Type} (E:ER α) {v:Value} {y:α},E.R S w v y->E.R (fun k=>S k/\k≠gb) w4 v y:=fun E v y h=>E.mono (fun k _ h=>⟨h.1,by have:=h.2;omega⟩) (ER.ext E (ER.lt E h) x4)
 have k3:=k3.ext (e2.trans e4)
 refine .go O (.neqF O O O hO (.go O (.ldA ty_N O O k3 O (.go O ?_))))
 refine .call _ O V6 O (U6 (S:=fun k=>S k/\k≠gb) (fun k hk=>⟨up k (by omega),by omega⟩) (old eN hn) (old eI ho)) fun v5 w5 e5 h5=>?_
 obtain ⟨vr,ve,rfl,hr,he⟩:=h5
 replace he:ve=.int .i64 0:=by rw [he,hO]
 subst he
 rw [if_pos hO] at hr
 have hs5:=e5.size
 have k3:=k3.ext e5
 refine .go O (.neqF O O O O (.go O (.fa H0 O O (.ld A8 O O k3 O ?_))))
 rw [hnb]
 refine .call _ O P7 O (Z3 (S:=fun k=>S k/\k≠gb) (fun k hk=>⟨up k (by omega),by omega⟩) (ER.ext eV (old eV hx) e5) hkx hL1 (by omega)) fun v6 w6 e6 h6=>?_
 obtain ⟨h6,_⟩ | ⟨_,gr,N6,hN6,hgr,rfl,fr⟩:=h6
 ·omega
 have hNB:N6=(nwOf n o).B:=by omega
 subst hNB
 have hs6:=e6.size
 have hgrl:=fr.lt
 have x6:=x4.trans (e5.trans e6)
 have k3:=k3.ext e6
 have hF:FB eV 32 (fun k=>S k/\k≠gr) w6 gb (tabM (nwOf n o).B (nwOf n o).B (nwOf n o).Lm):=(hF.mono (S':=fun k=>S k/\k≠gr) fun k hk h=>⟨h,by omega⟩).ext (e5.trans e6)
 have hr:eI.R (fun k=>(S k/\k≠gb)/\k≠gr) w6 vr (pInts (nwOf n o).refs):=ER.ext eI (eI.mono (fun k _ h=>⟨h.1,by have:=h.2;omega⟩) (ER.lt eI hr)) e6
 have hrW:∀ {W:World},Chg (fun k=>k=gb\/k=gr) w6 W->eI.R (fun k=>(S k/\k≠gb)/\k≠gr) W vr (pInts (nwOf n o).refs):=fun hC=>eI.keep (hC.kp fun k hk h=>h.elim (fun e=>hk.1.2 e) fun e=>hk.2 e) hr
 have hkW:∀ {W:World},Chg (fun k=>k=gb\/k=gr) w6 W->Blk W b3 24 #[.int .i64 n.b,s]:=fun hC=>hC.blk k3 fun h=>by have:=hb3;have:=e2.size;rcases h with h | h<;>omega
 rw [hnb] at hkW
 have hrl:(nwOf n o).refs.length<=(nwOf n o).B:=(nwOf n o).cnt_le (nwOf n o).B
 refine .go O (.lenR un_I O O hr ?_)
 rw [show (pInts (nwOf n o).refs).length=(nwOf n o).refs.length by simp]
 generalize hG:(fun i=>fun b c=>if b∈(nwOf n o).refs.take i then dl b c else (nwOf n o).Lm b c:Nat->RM)=G
 generalize hY:(fun i=>fun b=>if b∈(nwOf n o).refs.take i then 0 else rv x b:Nat->Nat->Rat)=Y
 refine .goC O (.lp (α:=Nat) [3,9,10,12,51,52] O (fun i=>[(53,.int .i64 (i:Nat))]) (fun i W=>i<=(nwOf n o).refs.length/\Chg (fun k=>k=gb\/k=gr) w6 W/\FB eV 32 (fun k=>S k/\k≠gr) W gb (tabM (nwOf n o).B (nwOf n o).B (G i))/\FB eQ 54 (fun k=>S k/\k≠gb) W gr (tab (nwOf n o).B (Y i))) (fun i=>(nwOf n o).refs.length-i) 0 (lc1 O) ⟨Nat.zero_le _,Chg.refl _,by rw [<-hG];simpa using hF,by rw [<-hY];simpa using fr⟩ ?_)
 clear hF fr
 rintro i W ⟨hi,hC,hF,fr⟩
 have hCs:=hC.size
 refine .go O ?_
 rcases Nat.lt_or_ge i (nwOf n o).refs.length with hlt | hge
 rotate_left
 ·have:i=(nwOf n o).refs.length:=by omega
  subst this
  have hmem:∀ b,b<(nwOf n o).B->(b∈(nwOf n o).refs.take (nwOf n o).refs.length<->(nwOf n o).root b=b):=fun b hb=>by
   rw [List.take_of_length_le (Nat.le_refl _),Nw.mem_refs]
   exact ⟨fun h=>h.2,fun h=>⟨hb,h⟩⟩
  have hA:tabM (nwOf n o).B (nwOf n o).B (G (nwOf n o).refs.length)=(nwOf n o).gA:=B7 fun b c hb _=>by
   rw [<-hG]
   unfold Nw.gm
   dsimp only
   by_cases h:(nwOf n o).root b=b
   ·rw [if_pos h,if_pos ((hmem b hb).2 h)]
   ·rw [if_neg h,if_neg fun h'=>h ((hmem b hb).1 h')]
  rw [hA] at hF
  have hRm:eM.R S W (slB (nwOf n o).B gb) (nwOf n o).gA:=by
   have:=(hF.mono (S':=S) fun k _ h=>h.1).toR (hsz:=by decide) (c:=(nwOf n o).B) (up gb (by omega)) (by rw [H6];exact Nat.le_refl _) (by rw [H6];omega)
   rw [H6] at this
   exact this
  have hRr:eV.R S W (slB (nwOf n o).B gr) (tab (nwOf n o).B (Y (nwOf n o).refs.length)):=by
   have:=(fr.mono (S':=S) fun k _ h=>h.1).toR (hsz:=by decide) (c:=(nwOf n o).B) (up gr (by omega)) (by rw [A1];exact Nat.le_refl _) (by rw [A1];omega)
   rw [A1] at this
   exact this
  have hxW:Ext w W:=hC.below x6 (by omega) (fun k hk=>by omega)
  obtain ⟨hsv,hsol⟩:=an_sol ok (r:=tab (nwOf n o).B (Y (nwOf n o).refs.length)) (x:=x) (A1 ..) fun b hb=>by
   rw [O9,if_pos hb,<-hY]
   unfold Nw.inj0
   dsimp only
   by_cases h:(nwOf n o).root b=b
   ·rw [if_pos h,if_pos ((hmem b hb).2 h)]
   ·rw [if_neg h,if_neg fun h'=>h ((hmem b hb).1 h')]
  have hkY:vk (max 21 L) (tab (nwOf n o).B (Y (nwOf n o).refs.length)):=AC0 fun b _=>by
   rw [<-hY]
   dsimp only
   split
   ·exact Rsz.zero (by omega)
   ·exact (hkx.rsz hL1 b).mono (by omega)
  refine .lssF O O O (by omega) (.go O ?_)
  refine .call _ O AZ0 O (AX9 (L:=max 21 L) (n:=6) (up.ext hxW.size) hRm hRr ((At5 ok).mono (by omega)) hkY (by omega) (by rw [H6];omega) (by rw [A1];omega) (by rw [AF7 hB1];omega) (by rw [H6,A1];omega) (by rw [bd6];omega)) fun v7 w7 e7 h7=>?_
  obtain ⟨va,vz,ve,rfl,ha,_,rfl⟩:=h7
  rw [if_pos hsv] at ha
  rw [if_pos hsv]
  have k3W:=(hkW hC).ext e7
  have hka:vk 600000 (solX (nwOf n o).gA (tab (nwOf n o).B (Y (nwOf n o).refs.length))):=by
   have h1:solX (nwOf n o).gA (tab (nwOf n o).B (Y (nwOf n o).refs.length))=tab (nwOf n o).B (rv (solX (nwOf n o).gA (tab (nwOf n o).B (Y (nwOf n o).refs.length)))):=by
    unfold solX
    rw [AF7 hB1]
    exact C4 fun k hk=>by rw [O9,if_pos hk]
   rw [h1,hsol]
   exact AC0 fun c _=>(BH6 ok hL1 (fun b=>hkx.rsz hL1 b) c).mono (by omega)
  refine .go O (.neqF O O O O (.go O (.fa H0 O O (.ld A8 O O k3W O ?_))))
  refine .call _ O P7 O (AJ1 (up.ext (hxW.trans e7).size) (upo.ext (hxW.trans e7).size) ha hka (by decide) (by decide)) fun v8 w8 e8 h8=>.goE O ?_
  have h8:=BC4 (B:=(nwOf n o).B) h8 (upo.ext (hxW.trans e7).size) hB1 (by omega)
  rw [hsol] at h8
  exact .plain [_,_] Tryz.results33 ⟨rfl,rfl,trivial⟩ ⟨(hxW.trans e7).trans e8,_,_,rfl,h8,by rw [hno]⟩
 have hgr':(pInts (nwOf n o).refs)[i]?=some (((nwOf n o).refs.getD i 0:Nat):Int):=by rw [List.getElem?_map,A7 (z:=0) hlt];rfl
 have hrB:(nwOf n o).refs.getD i 0<(nwOf n o).B:=(Nw.mem_refs.1 (E2 hlt)).1
 have htk:(nwOf n o).refs.take (i+1)=(nwOf n o).refs.take i++[(nwOf n o).refs.getD i 0]:=by rw [List.take_add_one,A7 (z:=0) hlt];rfl
 refine .lssT O O O (by omega) (.go O (.ixN (i:=i) un_I B0 O O (hrW hC) O hgr' fun q hq=>.ldE (E:=eInt .i64) B0 O O hq fun e he=>?_))
 obtain ⟨rfl,_⟩:=he
 generalize hb0:(nwOf n o).refs.getD i 0=b at hrB htk
 refine .go O (.fa H0 O O (.ld A8 O O (hkW hC) O (.go O ?_)))
 refine .call _ O Ap2 O (Am1 (S:=fun k=>(S k/\k≠gr)/\k≠gb) fun k hk=>⟨⟨up k (by omega),by omega⟩,by omega⟩) fun v7 W1 e7 h7=>?_
 rw [show (min (((nwOf n o).B:Nat):Int) 65536).toNat=(nwOf n o).B by omega] at h7
 have hs7:=e7.size
 refine .go O (.ixB (i:=b) un_M ty_V O O O hrB (.storeF (E:=eV) (i:=b) (by decide) ty_V O O (hF.ext e7) O (by rw [A3];exact hrB) (Nat.zero_add _) h7 fun W2 f2 u2=>?_))
 have hs2':=u2.size
 have fr:=(fr.ext e7).upd u2 (by omega) fun h=>h.2 rfl
 refine .go O (.bld _ O O Ae7 (.ixB (i:=b) un_V ty_Q O O O hrB (.storeF (E:=eQ) (i:=b) (by decide) ty_Q O O fr O (by rw [A1];exact hrB) (Nat.zero_add _) (zq_R (S:=fun k=>(S k/\k≠gb)/\k≠gr)) fun W3 f3 u3=>?_)))
 have f2:=f2.upd u3 (by omega) fun h=>h.2 rfl
 rw [Q3 hrB] at f2
 rw [<-P2,N8] at f3
 have hm:∀ b',b'∈(nwOf n o).refs.take (i+1)<->b'∈(nwOf n o).refs.take i\/b'=b:=fun b'=>by rw [htk,List.mem_append,List.mem_singleton]
 have hs1:tabM (nwOf n o).B (nwOf n o).B (fun j k=>if j=b then uni (b:Nat) k else G i j k)=tabM (nwOf n o).B (nwOf n o).B (G (i+1)):=B7 fun j c _ _=>by
  rw [<-hG]
  dsimp only
  by_cases e:j=b
  ·rw [if_pos e,if_pos ((hm j).2 (.inr e)),e,uni_dl]
  ·rw [if_neg e]
   by_cases h:j∈(nwOf n o).refs.take i
   ·rw [if_pos h,if_pos ((hm j).2 (.inl h))]
   ·rw [if_neg h,if_neg fun h'=>((hm j).1 h').elim h e]
 have hs2:(tab (nwOf n o).B fun j=>if j=b then 0 else Y i j)=tab (nwOf n o).B (Y (i+1)):=C4 fun j _=>by
  rw [<-hY]
  dsimp only
  by_cases e:j=b
  ·rw [if_pos e,if_pos ((hm j).2 (.inr e))]
  ·rw [if_neg e]
   by_cases h:j∈(nwOf n o).refs.take i
   ·rw [if_pos h,if_pos ((hm j).2 (.inl h))]
   ·rw [if_neg h,if_neg fun h'=>((hm j).1 h').elim h e]
 rw [hs1] at f2
 rw [hs2] at f3
 exact .go O (.inc O O O (by omega) (.goN O (.mk (i+1) O (lc1 O) ⟨⟨hlt,((hC.trans (Chg.ext e7)).trans (Chg.upd u2 (.inl O))).trans (Chg.upd u3 (.inr O)),f2,f3⟩,by show (nwOf n o).refs.length-(i+1)<(nwOf n o).refs.length-i;omega⟩)))
theorem AY7 {S:Nat->Prop} {w:World} {vn vo vx:Value} {n:NtV} {o:List Int} {x:List QV} {L:Nat} (up:Up S w) (hn:eN.R S w vn n) (ho:eI.R S w vo o) (hx:eV.R S w vx x) (hkx:vk L x) (hL1:1<=L) (hL:L<=9000) :
  CR Tryz.prog 33 #[vn,vo,vx] w (Two (eV.at S (if anE n o x=0 then tab (nwOf n o).B ((nwOf n o).an (rv x)) else [])) (Is (.int .i64 (anE n o x)))):=AY6 up up hn ho hx hkx hL1 hL
theorem Af7:Ent Tryz.prog 34:=A0 Tryz.func34 (by kernel_rfl) rfl
theorem Ad9 {S T0:Nat->Prop} {w:World} {vn vo vx:Value} {n:NtV} {o:List Int} {x:List QV} {L:Nat} (up:Up S w) (upo:Up T0 w) (hn:eN.R S w vn n) (ho:eI.R S w vo o) (hx:eV.R S w vx x) (hkx:vk L x) (hL1:1<=L) (hL:L<=9000) :
  CR Tryz.prog 34 #[vn,vo,vx] w (Two (eV.at T0 (if anE n o x=0 then tab n.ls.length ((nwOf n o).fl ((nwOf n o).an (rv x))) else [])) (Is (.int .i64 (anE n o x)))):=by
 obtain ⟨s,rfl,hs,hb⟩:=hn
 have hn:eN.R S w (.agg #[.int .i64 n.b,s]) n:=⟨s,rfl,hs,hb⟩
 refine enter Tryz.func34 O Tryz.ntmps34 O (.beg (.go O (.box O O fun w1 b3 n1=>?_)))
 obtain ⟨e1,k3,hb3,hs1⟩:=n1
 refine .go O (.ldA ty_N O O k3 O (.go O ?_))
 refine .call _ O AZ3 O (AY7 (up.ext e1.size) (hn.ext e1) (ho.ext e1) (ER.ext eV hx e1) hkx hL1 hL) fun v2 w2 e2 h2=>?_
 obtain ⟨va,ve,rfl,ha,rfl⟩:=h2
 have x2:=e1.trans e2
 refine .go O ?_
 by_cases hE:anE n o x=0
 rotate_left
 ·refine .neqT O O O hE (.goE O ?_)
  refine .plain [_,_] Tryz.results34 ⟨rfl,rfl,trivial⟩ ⟨x2,_,_,rfl,?_,rfl⟩
  rw [if_neg hE];exact RL.nil
 rw [if_pos hE] at ha ⊢
 obtain ⟨hS,_⟩:=BH7 hE
 obtain ⟨hO,_⟩:=BB8 hS
 have ok:=K5 hO
 have hB6:=ok.b6
 have hnb:=ok.b
 have hka:vk 600000 (tab (nwOf n o).B ((nwOf n o).an (rv x))):=AC0 fun c _=>(BH6 ok hL1 (fun b=>hkx.rsz hL1 b) c).mono (by omega)
 refine .neqF O O O hE (.go O (.ldA ty_N O O (k3.ext e2) O (.go O ?_)))
 refine .call _ O AM6 O (AL2 (up.ext x2.size) (upo.ext x2.size) (hn.ext x2) (ho.ext x2) ha hka (by decide) (by decide)) fun v3 w3 e3 h3=>?_
 obtain ⟨vf,ve,rfl,hf,rfl⟩:=h3
 have hsf:sfE n o (tab (nwOf n o).B ((nwOf n o).an (rv x))).length=0:=by unfold sfE;rw [if_neg (by simpa using hO),if_pos (by rw [A1];omega)]
 rw [if_pos hsf] at hf
 rw [hsf]
 have hfl:tab n.ls.length ((nwOf n o).fl (rv (tab (nwOf n o).B ((nwOf n o).an (rv x)))))=tab n.ls.length ((nwOf n o).fl ((nwOf n o).an (rv x))):=C4 fun k hk=>by
  unfold Nw.fl
  rw [O9,O9,if_pos (ok.f k hk),if_pos (ok.t k hk)]
 rw [hfl] at hf
 exact .goE O (.plain [_,_] Tryz.results34 ⟨rfl,rfl,trivial⟩ ⟨x2.trans e3,_,_,rfl,hf,by rw [hE]⟩)
end Go.Proofs.YtggegpiffjbngaaGreat
namespace Go.Kx
open Go Go.RowKit
instance (n:Nw) (k:Nat):Decidable (n.brg k):=inferInstanceAs (Decidable (_≠_))
end Go.Kx
namespace Go.Proofs.YtggegpiffjbngaaGreat
open Go Go.Kx Go.RowKit
section
variable {n:NtV} {o u:List Int}
theorem Ac8 (h:outsOk n o):o.Pairwise (·<·)/\∀ x∈o,0<=x/\x<n.ls.length:=by
 refine ⟨List.pairwise_iff_getElem.2 fun i j hi hj hij=>?_,fun x hx=>?_⟩
 ·have:=Y4 h (j-i) i (by omega)
  rw [show i+(j-i)=j by omega,List.getD_eq_getElem?_getD,List.getD_eq_getElem?_getD,List.getElem?_eq_getElem hi,List.getElem?_eq_getElem hj] at this
  simp only [Option.getD_some] at this
  omega
 ·obtain ⟨i,hi,rfl⟩:=List.mem_iff_getElem.1 hx
  have:=h i hi
  rw [List.getD_eq_getElem?_getD,List.getElem?_eq_getElem hi] at this
  exact ⟨this.1,this.2.1⟩
theorem Aw0 (hp:u.Pairwise (·<·)) (hx:∀ x∈u,0<=x/\x<n.ls.length):outsOk n u:=fun i hi=>by
 have h1:=hx _ (List.getElem_mem hi)
 rw [List.getD_eq_getElem?_getD,List.getElem?_eq_getElem hi]
 refine ⟨h1.1,h1.2,fun h0=>?_⟩
 rw [List.getD_eq_getElem?_getD,List.getElem?_eq_getElem (by omega:i-1<u.length)]
 exact List.pairwise_iff_getElem.1 hp (i-1) i (by omega) hi (by omega)
theorem outE_pw (hO:outE n o=0) (hp:u.Pairwise (·<·)) (hx:∀ x∈u,0<=x/\x<n.ls.length):outE n u=0:=by
 obtain ⟨hc,_⟩:=Z6 hO
 unfold outE
 rw [if_neg (by simpa using hc),if_pos (Aw0 hp hx)]
theorem nw_cut {k:Nat} (hm:∀ j,j∈oN u<->j=k\/j∈oN o):nwOf n u=(nwOf n o).cut k:=by
 have:(fun j=>if j∈oN u then (0:Rat) else ((n.ls.getD j ln0).x:Rat)⁻¹)=fun j=>if j=k then 0 else if j∈oN o then (0:Rat) else ((n.ls.getD j ln0).x:Rat)⁻¹:=by
  funext j
  by_cases h:j=k
  ·rw [if_pos ((hm j).2 (.inl h)),if_pos h]
  ·rw [if_neg h]
   by_cases h2:j∈oN o
   ·rw [if_pos ((hm j).2 (.inr h2)),if_pos h2]
   ·rw [if_neg h2,if_neg fun h'=>((hm j).1 h').elim h h2]
 show Nw.mk _ _ _ _ _=Nw.mk _ _ _ _ _
 rw [this]
 rfl
theorem BE5 {k:Nat} (hO:outE n o=0) (hk:k<n.ls.length) (h:Ins o (k:Nat) u):outE n u=0/\nwOf n u=(nwOf n o).cut k:=by
 have hp:=Ac8 (Z6 hO).2
 have hx:∀ x∈u,0<=x/\x<n.ls.length:=fun x hx=>by
  rcases (h.mem x).1 hx with rfl | h1
  ·omega
  ·exact hp.2 x h1
 refine ⟨outE_pw hO h.inc hx,nw_cut fun j=>?_⟩
 unfold oN
 rw [List.mem_map,List.mem_map]
 constructor
 ·rintro ⟨x,hxu,rfl⟩
  rcases (h.mem x).1 hxu with rfl | h1
  ·exact .inl (by simp)
  ·exact .inr ⟨x,h1,rfl⟩
 ·rintro (rfl | ⟨x,hxo,rfl⟩)
  ·exact ⟨_,(h.mem _).2 (.inl O),by simp⟩
  ·exact ⟨x,(h.mem x).2 (.inr hxo),rfl⟩
theorem g_in2 (ok:nwOk n o) {k:Nat} (hk:k<n.ls.length) (h:k∉oN o):(nwOf n o).g k≠0:=by
 have hx:=ok.x k hk
 show (if k∈oN o then (0:Rat) else ((n.ls.getD k ln0).x:Rat)⁻¹)≠0
 rw [if_neg h]
 intro h
 have h3:(((n.ls.getD k ln0).x:Int):Rat)≠0:=by
  intro h
  have:=Rat.intCast_inj.1 (h.trans Rat.intCast_zero.symm)
  omega
 have:=Rat.mul_inv_cancel _ h3
 rw [h,Rat.mul_zero] at this
 exact absurd this (by decide)
theorem Aa7 {k:Nat} (h:k∉oN o):((k:Nat):Int)∉o:=fun h'=>h (List.mem_map.2 ⟨_,h',by simp⟩)
theorem Ai3 (hO:outE n o=0):o.length<=n.ls.length:=by
 have h:=(Z6 hO).2
 rcases Nat.eq_zero_or_pos o.length with h0 | h0
 ·omega
 ·have h1:=Y4 h (o.length-1) 0 (by omega)
  have h2:=h (o.length-1) (by omega)
  have h3:=h 0 h0
  rw [show 0+(o.length-1)=o.length-1 by omega] at h1
  omega
end
theorem Av0:Ent Tryz.prog 111:=A0 Tryz.func111 (by kernel_rfl) rfl
set_option maxRecDepth 8000 in
theorem Av1 {S:Nat->Prop} {w:World} {vn vo:Value} {n:NtV} {o:List Int} (up:Up S w) (hn:eN.R S w vn n) (ho:eI.R S w vo o) :
  CR Tryz.prog 111 #[vn,vo] w (Two (Is (.int .i64 (if outE n o=0 then ((nwOf n o).refs.length:Nat) else 0))) (Is (.int .i64 (outE n o)))):=by
 obtain ⟨s,rfl,hs,hb⟩:=hn
 have hn:eN.R S w (.agg #[.int .i64 n.b,s]) n:=⟨s,rfl,hs,hb⟩
 refine enter Tryz.func111 O Tryz.ntmps111 O (.beg (.go O (.box O O fun w1 b2 n1=>?_)))
 obtain ⟨e1,k2,hb2,hs1⟩:=n1
 refine .go O (.ldA ty_N O O k2 O (.go O ?_))
 refine .call _ O V6 O (U6 (up.ext e1.size) (hn.ext e1) (ho.ext e1)) fun v2 w2 e2 h2=>?_
 obtain ⟨vr,ve,rfl,hr,he⟩:=h2
 replace he:ve=.int .i64 (outE n o):=he
 subst he
 have x2:=e1.trans e2
 refine .go O ?_
 by_cases hO:outE n o=0
 rotate_left
 ·exact .neqT O O O hO (.goE O (.plain [_,_] Tryz.results111 ⟨rfl,rfl,trivial⟩ ⟨x2,_,_,rfl,by rw [if_neg hO],rfl⟩))
 rw [if_pos hO] at hr
 refine .neqF O O O hO (.go O (.lenR un_I O O hr ?_))
 rw [show (pInts (nwOf n o).refs).length=(nwOf n o).refs.length by simp]
 exact .goE O (.plain [_,_] Tryz.results111 ⟨rfl,rfl,trivial⟩ ⟨x2,_,_,rfl,by rw [if_pos hO],by rw [hO]⟩)
def brL (n:NtV) (o:List Int):List Nat:=(inL n o).filter fun k=>decide ((nwOf n o).brg k)
theorem Az2:Ent Tryz.prog 50:=A0 Tryz.func50 (by kernel_rfl) rfl
set_option maxRecDepth 8000 in
theorem Az5 {S:Nat->Prop} {w:World} {vn vo:Value} {n:NtV} {o:List Int} (up:Up S w) (hn:eN.R S w vn n) (ho:eI.R S w vo o) :
  CR Tryz.prog 50 #[vn,vo] w (Two (eI.at S (if outE n o=0 then pInts (brL n o) else [])) (Is (.int .i64 (outE n o)))):=by
 obtain ⟨s,rfl,hs,hb⟩:=hn
 have hn:eN.R S w (.agg #[.int .i64 n.b,s]) n:=⟨s,rfl,hs,hb⟩
 refine enter Tryz.func50 O Tryz.ntmps50 O (.beg (.go O (.box O O fun w1 b2 n1=>?_)))
 obtain ⟨e1,k2,hb2,hs1⟩:=n1
 replace k2:Blk w1 b2 24 #[.int .i64 n.b,s]:=k2
 refine .go O (.ldA ty_N O O k2 O (.go O ?_))
 refine .call _ O Z1 O (Y5 (up.ext e1.size) (hn.ext e1) (ho.ext e1)) fun v2 w2 e2 h2=>?_
 obtain ⟨vl,ve,rfl,hl,he⟩:=h2
 replace he:ve=.int .i64 (outE n o):=he
 subst he
 have x2:=e1.trans e2
 have k2:=k2.ext e2
 refine .go O ?_
 by_cases hO:outE n o=0
 rotate_left
 ·refine .neqT O O O hO (.goE O (.plain [_,_] Tryz.results50 ⟨rfl,rfl,trivial⟩ ⟨x2,_,_,rfl,?_,rfl⟩))
  rw [if_neg hO];exact RL.nil
 have ok:=K5 hO
 have hM10:n.ls.length<=10:=ok.m
 have hll:=S2 n o
 have hpw:=Ac8 (Z6 hO).2
 have hol:=Ai3 hO
 rw [if_pos hO] at hl ⊢
 refine .neqF O O O hO (.go O (.ldA ty_N O O k2 O (.go O ?_)))
 refine .call _ O Av0 O (Av1 (up.ext x2.size) (hn.ext x2) (ho.ext x2)) fun v3 w3 e3 h3=>?_
 obtain ⟨vc,ve,rfl,hc,he⟩:=h3
 replace he:ve=.int .i64 (outE n o):=he
 replace hc:vc=.int .i64 (if outE n o=0 then ((nwOf n o).refs.length:Nat) else 0):=hc
 rw [if_pos hO] at hc
 subst he hc
 have x3:=x2.trans e3
 have k2:=k2.ext e3
 have hl:=ER.ext eI hl e3
 have z3:=x3.size
 refine .go O (.neqF O O O hO (.go O (.lenR un_I O O hl (.goC O ?_))))
 rw [show (pInts (inL n o)).length=(inL n o).length by simp]
 generalize hP:(fun k=>decide ((nwOf n o).brg k))=P
 have hbr:brL n o=(inL n o).filter P:=by rw [<-hP];rfl
 rw [hbr]
 refine .lp (α:=Nat×Value) [1,2,8,33,34] O (fun y=>[(9,y.2),(35,.int .i64 (y.1:Nat))]) (fun y W=>Ext w3 W/\y.1<=(inL n o).length/\OwnL (eInt .i64) 3 w3.heap.size S W y.2 (pInts (((inL n o).take y.1).filter P))) (fun y=>(inL n o).length-y.1) (0,.slice none 0 0) (lc2 O O) ⟨Ext.refl _,Nat.zero_le _,OwnL.nil⟩ ?_
 rintro ⟨i,v⟩ W ⟨hW,hi,hown⟩
 replace hW:Ext w3 W:=hW
 replace hi:i<=(inL n o).length:=hi
 replace hown:OwnL (eInt .i64) 3 w3.heap.size S W v (pInts (((inL n o).take i).filter P)):=hown
 have hlW:=ER.ext eI hl hW
 have xW:=x3.trans hW
 have zW:=hW.size
 refine .go O ?_
 rcases Nat.lt_or_ge i (inL n o).length with hlt | hge
 rotate_left
 ·have:i=(inL n o).length:=by omega
  subst this
  rw [List.take_of_length_le (Nat.le_refl _)] at hown
  exact .lssF O O O (by omega) (.goE O (.plain [_,_] Tryz.results50 ⟨rfl,rfl,trivial⟩ ⟨xW,_,_,rfl,hown.toR (fun k hk=>up k (by omega)) (fun _ h=>h),by rw [hO]⟩))
 obtain ⟨hgk,hkM,hko⟩:=AF4 hlt
 have htk:(inL n o).take (i+1)=(inL n o).take i++[(inL n o).getD i 0]:=by rw [List.take_add_one,A7 (z:=0) hlt];rfl
 have hfl:(((inL n o).take i).filter P).length<=10:=Nat.le_trans (List.length_filter_le ..) (by rw [List.length_take];omega)
 generalize (inL n o).getD i 0=k at hgk hkM hko htk
 have hgk0:=g_in2 ok hkM hko
 refine .lssT O O O (by omega) (.go O (.ixN (i:=i) un_I B0 O O hlW O hgk fun q hq=>.ldE (E:=eInt .i64) B0 O O hq fun e he=>.go O ?_))
 obtain ⟨rfl,_⟩:=he
 refine .bsl _ O O AO3 fun W1 b1 n1=>?_
 have hk1:eI.R S W1 (.slice (some ⟨b1,0,none⟩) 1 1) [((k:Nat):Int)]:=Ae1 (E:=eInt .i64) (hsz:=by decide) [.int .i64 (k:Nat)] [((k:Nat):Int)] n1 (up.ext xW.size) O O (by decide) (Els.snoc Els.nil ⟨rfl,I5.2 (by omega)⟩)
 have d1:=n1.1
 have x1:=xW.trans d1
 refine .call _ O Au9 O (Au8 (up.ext x1.size) (ho.ext x1) hk1 hpw.1 (fun x hx=>(hpw.2 x hx).1) (by omega) (Aa7 hko) (by omega)) fun v5 W5 d5 h5=>?_
 obtain ⟨vu,ve,rfl,⟨u,hIns,hu⟩,rfl⟩:=h5
 obtain ⟨hOu,hcut⟩:=BE5 hO hkM hIns
 have x5:=x1.trans d5
 refine .go O (.neqF O O O O (.go O (.ldA ty_N O O (k2.ext ((hW.trans d1).trans d5)) O (.go O ?_))))
 refine .call _ O Av0 O (Av1 (up.ext x5.size) (hn.ext x5) hu) fun v6 W6 d6 h6=>?_
 obtain ⟨vc,ve,rfl,hc,he⟩:=h6
 replace he:ve=.int .i64 (outE n u):=he
 replace hc:vc=.int .i64 (if outE n u=0 then ((nwOf n u).refs.length:Nat) else 0):=hc
 rw [if_pos hOu,hcut] at hc
 rw [hOu] at he
 subst he hc
 have dd:=(d1.trans d5).trans d6
 have hWW:=hW.trans dd
 have hbc:=Nw.brg_cnt ok.ok hkM hgk0
 refine .go O (.neqF O O O O (.go O ?_))
 by_cases hB:(nwOf n o).brg k
 ·have hPk:P k=true:=by rw [<-hP];exact decide_eq_true hB
  have hbc:=hbc.1 hB
  refine .gtrT O O O (by omega) (.go O (.bsl _ O O AO3 fun W7 b7 n7=>?_))
  obtain ⟨d7,k7,hb7,hs7⟩:=n7
  have d17:=dd.trans d7
  have hW7:=hW.trans d17
  refine .gv O O (AD6 (E:=eInt .i64) (base:=w3.heap.size) (n:=((k:Nat):Int)) (e:=.int .i64 (k:Nat)) (by decide) un_I AD2 O O O (hown.ext d17) k7 ⟨rfl,I5.2 (by omega)⟩ (by simp;omega) (by decide) hW7.size) ?_
  rintro v8 W8 ⟨ho8,hg8⟩
  have hW8:Ext w3 W8:=OwnL.below (hown.ext d17) hg8 hW7 hW7.size
  refine .go O (.inc O O O (by omega) (.goN O (.mk (i+1,v8) O (lc2 O O) ⟨⟨hW8,hlt,?_⟩,by show (inL n o).length-(i+1)<(inL n o).length-i;omega⟩)))
  show OwnL (eInt .i64) 3 w3.heap.size S W8 v8 (pInts (((inL n o).take (i+1)).filter P))
  rw [htk,List.filter_append,List.filter_cons_of_pos hPk,List.filter_nil]
  unfold pInts
  rw [List.map_append]
  exact ho8
 ·have hPk:¬ P k=true:=by rw [<-hP];simpa using hB
  have hbc:¬ _:=fun h=>hB (hbc.2 h)
  refine .gtrF O O O (by omega) (.go O (.inc O O O (by omega) (.goN O (.mk (i+1,v) O (lc2 O O) ⟨⟨hWW,hlt,?_⟩,by show (inL n o).length-(i+1)<(inL n o).length-i;omega⟩))))
  show OwnL (eInt .i64) 3 w3.heap.size S W6 v (pInts (((inL n o).take (i+1)).filter P))
  rw [htk,List.filter_append,List.filter_cons_of_neg hPk,List.filter_nil,List.append_nil]
  exact hown.ext dd
noncomputable def lkE (n:NtV) (o:List Int) (line:Int):Int:=if outE n o≠0 then outE n o else if line∈pInts (inL n o) then (if (nwOf n o).brg line.toNat then 11 else 0) else 1
theorem Ad5 {n:NtV} {o:List Int} {line:Int} (h:lkE n o line=0):outE n o=0/\∃ k:Nat,line=k/\k<n.ls.length/\(nwOf n o).g k≠0/\k∉oN o/\¬ (nwOf n o).brg k:=by
 unfold lkE at h
 split at h
 ·rename_i h1;exact absurd h h1
 rename_i h1
 have hO:=Classical.not_not.1 h1
 split at h
 ·rename_i h2
  split at h
  ·cases h
  ·rename_i h3
   obtain ⟨k,hk,rfl⟩:=List.mem_map.1 h2
   obtain ⟨a,b⟩:=As4.1 hk
   exact ⟨hO,k,rfl,a,g_in2 (K5 hO) a b,b,h3⟩
 ·cases h
theorem AM4:Ent Tryz.prog 118:=A0 Tryz.func118 (by kernel_rfl) rfl
set_option maxRecDepth 8000 in
theorem AK8 {S:Nat->Prop} {w:World} {vn vo:Value} {n:NtV} {o:List Int} {line:Int} (up:Up S w) (hn:eN.R S w vn n) (ho:eI.R S w vo o) :
  CR Tryz.prog 118 #[vn,vo,.int .i64 line] w (Is (.int .i64 (lkE n o line))):=by
 obtain ⟨s,rfl,hs,hb⟩:=hn
 have hn:eN.R S w (.agg #[.int .i64 n.b,s]) n:=⟨s,rfl,hs,hb⟩
 refine enter Tryz.func118 O Tryz.ntmps118 O (.beg (.go O (.box O O fun w1 b3 n1=>?_)))
 obtain ⟨e1,k3,hb3,hs1⟩:=n1
 refine .go O (.ldA ty_N O O k3 O (.go O ?_))
 refine .call _ O Z1 O (Y5 (up.ext e1.size) (hn.ext e1) (ho.ext e1)) fun v2 w2 e2 h2=>?_
 obtain ⟨vl,ve,rfl,hl,he⟩:=h2
 replace he:ve=.int .i64 (outE n o):=he
 subst he
 have x2:=e1.trans e2
 have k3:=k3.ext e2
 refine .go O ?_
 by_cases hO:outE n o=0
 rotate_left
 ·have hlk:lkE n o line=outE n o:=by unfold lkE;rw [if_pos hO]
  exact .neqT O O O hO (.goE O (.plain [_] Tryz.results118 ⟨rfl,trivial⟩ ⟨x2,by rw [hlk];rfl⟩))
 have ok:=K5 hO
 have hM10:n.ls.length<=10:=ok.m
 have hll:=S2 n o
 rw [if_pos hO] at hl
 refine .neqF O O O hO (.go O ?_)
 refine .call _ O AX5 O (AX6 hl (by simp;omega)) fun v3 w3 e3 h3=>?_
 subst h3
 have x3:=x2.trans e3
 by_cases hm:line∈pInts (inL n o)
 rotate_left
 ·rw [decide_eq_false hm]
  have hlk:lkE n o line=1:=by unfold lkE;rw [if_neg (by simpa using hO),if_neg hm]
  exact .goE O (.plain [_] Tryz.results118 ⟨rfl,trivial⟩ ⟨x3,by rw [hlk];rfl⟩)
 rw [decide_eq_true hm]
 refine .go O (.ldA ty_N O O (k3.ext e3) O (.go O ?_))
 refine .call _ O Az2 O (Az5 (up.ext x3.size) (hn.ext x3) (ho.ext x3)) fun v4 w4 e4 h4=>?_
 obtain ⟨vb,ve,rfl,hbr,he⟩:=h4
 replace he:ve=.int .i64 (outE n o):=he
 subst he
 rw [if_pos hO] at hbr
 have x4:=x3.trans e4
 refine .go O (.neqF O O O hO (.go O ?_))
 refine .call _ O AX5 O (AX6 hbr (by simp;unfold brL;exact Nat.le_trans (List.length_filter_le ..) (by omega))) fun v5 w5 e5 h5=>?_
 subst h5
 have x5:=x4.trans e5
 have hiff:line∈pInts (brL n o)<->(nwOf n o).brg line.toNat:=by
  obtain ⟨k,hk,rfl⟩:=List.mem_map.1 hm
  have:(((k:Nat):Int)).toNat=k:=by simp
  rw [this]
  unfold pInts brL
  rw [List.mem_map]
  constructor
  ·rintro ⟨j,hj,e⟩
   have:j=k:=by omega
   subst this
   exact of_decide_eq_true (List.mem_filter.1 hj).2
  ·intro h
   exact ⟨k,List.mem_filter.2 ⟨hk,decide_eq_true h⟩,rfl⟩
 by_cases hB:(nwOf n o).brg line.toNat
 ·rw [decide_eq_true (hiff.2 hB)]
  have hlk:lkE n o line=11:=by unfold lkE;rw [if_neg (by simpa using hO),if_pos hm,if_pos hB]
  exact .goE O (.plain [_] Tryz.results118 ⟨rfl,trivial⟩ ⟨x5,by rw [hlk];rfl⟩)
 ·rw [decide_eq_false fun h=>hB (hiff.1 h)]
  have hlk:lkE n o line=0:=by unfold lkE;rw [if_neg (by simpa using hO),if_pos hm,if_neg hB]
  exact .goE O (.plain [_] Tryz.results118 ⟨rfl,trivial⟩ ⟨x5,by rw [hlk];rfl⟩)
theorem Af4:Ent Tryz.prog 57:=A0 Tryz.func57 (by kernel_rfl) rfl
noncomputable def afE (n:NtV) (o:List Int) (line:Int) (x:List QV):Int:=if lkE n o line≠0 then lkE n o line else anE n o x
def afV (n:NtV) (o:List Int) (k:Nat) (x:List QV):List QV:=tab n.ls.length (((nwOf n o).cut k).fl (((nwOf n o).cut k).an (rv x)))
theorem Au6 {n:NtV} {o u:List Int} {x:List QV} {k:Nat} (hO:outE n o=0) (hOu:outE n u=0) (hcut:nwOf n u=(nwOf n o).cut k) (hb:¬ (nwOf n o).brg k):anE n u x=anE n o x:=by
 have hs:sfE n u x.length=sfE n o x.length:=by
  unfold sfE
  rw [hO,hOu]
 have hbal:(nwOf n u).bal (rv x)<->(nwOf n o).bal (rv x):=by rw [hcut];exact Nw.cut_bal (K5 hO).ok hb _
 unfold anE
 rw [hs]
 congr 1
 by_cases h2:(nwOf n o).bal (rv x)
 ·rw [if_pos (hbal.2 h2),if_pos h2]
 ·rw [if_neg (fun h'=>h2 (hbal.1 h')),if_neg h2]
set_option maxRecDepth 8000 in
theorem Ad4 {S T0:Nat->Prop} {w:World} {vn vo vx:Value} {n:NtV} {o:List Int} {x:List QV} {line:Int} {L:Nat} (up:Up S w) (upo:Up T0 w) (hn:eN.R S w vn n) (ho:eI.R S w vo o) (hx:eV.R S w vx x) (hkx:vk L x) (hL1:1<=L) (hL:L<=9000) :
  CR Tryz.prog 57 #[vn,vo,.int .i64 line,vx] w (Two (eV.at T0 (if afE n o line x=0 then afV n o line.toNat x else [])) (Is (.int .i64 (afE n o line x)))):=by
 obtain ⟨s,rfl,hs,hb⟩:=hn
 have hn:eN.R S w (.agg #[.int .i64 n.b,s]) n:=⟨s,rfl,hs,hb⟩
 refine enter Tryz.func57 O Tryz.ntmps57 O (.beg (.go O (.box O O fun w1 b4 n1=>?_)))
 obtain ⟨e1,k4,hb4,hs1⟩:=n1
 refine .go O (.ldA ty_N O O k4 O (.go O ?_))
 refine .call _ O AM4 O (AK8 (up.ext e1.size) (hn.ext e1) (ho.ext e1)) fun v2 w2 e2 h2=>?_
 subst h2
 have x2:=e1.trans e2
 have k4:=k4.ext e2
 refine .go O ?_
 by_cases hK:lkE n o line=0
 rotate_left
 ·have haf:afE n o line x=lkE n o line:=by unfold afE;rw [if_pos hK]
  refine .neqT O O O hK (.goE O (.plain [_,_] Tryz.results57 ⟨rfl,rfl,trivial⟩ ⟨x2,_,_,rfl,?_,by rw [haf]⟩))
  rw [if_neg (by rw [haf];exact hK)];exact RL.nil
 have haf:afE n o line x=anE n o x:=by unfold afE;rw [if_neg (by simpa using hK)]
 obtain ⟨hO,k,rfl,hkM,hg,hko,hB⟩:=Ad5 hK
 have ok:=K5 hO
 have hM10:n.ls.length<=10:=ok.m
 have hpw:=Ac8 (Z6 hO).2
 have hol:=Ai3 hO
 rw [haf]
 refine .neqF O O O hK (.go O (.bsl _ O O AO3 fun W1 b1 n1=>?_))
 have hk1:eI.R S W1 (.slice (some ⟨b1,0,none⟩) 1 1) [((k:Nat):Int)]:=Ae1 (E:=eInt .i64) (hsz:=by decide) [.int .i64 (k:Nat)] [((k:Nat):Int)] n1 (up.ext x2.size) O O (by decide) (Els.snoc Els.nil ⟨rfl,I5.2 (by omega)⟩)
 have d1:=n1.1
 have x1:=x2.trans d1
 refine .call _ O Au9 O (Au8 (up.ext x1.size) (ho.ext x1) hk1 hpw.1 (fun x hx=>(hpw.2 x hx).1) (by omega) (Aa7 hko) (by omega)) fun v5 W5 d5 h5=>?_
 obtain ⟨vu,ve,rfl,⟨u,hIns,hu⟩,rfl⟩:=h5
 obtain ⟨hOu,hcut⟩:=BE5 hO hkM hIns
 have x5:=x1.trans d5
 refine .go O (.neqF O O O O (.go O (.ldA ty_N O O (k4.ext (d1.trans d5)) O (.go O ?_))))
 refine .call _ O Af7 O (Ad9 (up.ext x5.size) (upo.ext x5.size) (hn.ext x5) hu (ER.ext eV hx x5) hkx hL1 hL) fun v6 W6 d6 h6=>?_
 obtain ⟨vf,ve,rfl,hf,he⟩:=h6
 replace he:ve=.int .i64 (anE n u x):=he
 subst he
 rw [Au6 hO hOu hcut hB,hcut] at hf
 rw [Au6 hO hOu hcut hB]
 exact .goE O (.plain [_,_] Tryz.results57 ⟨rfl,rfl,trivial⟩ ⟨x5.trans d6,_,_,rfl,hf,rfl⟩)
theorem isV_t {w:World} {va vb:Value} {a b:List QV} (ha:eV.R (fun _=>True) w va a) (hb:eV.R (fun _=>True) w vb b) (h:a=b):CR Tryz.prog 22 #[va,vb] w (Is (.bool true)):=by
 have:=AI0 ha hb
 rwa [L1 h] at this
end Go.Proofs.YtggegpiffjbngaaGreat
namespace Go.Kx
open Go Go.RowKit
theorem Nw.th_cand {n:Nw} (ok:n.Ok) (hB:1<=n.B) (cand:Nat->Nat->Rat) (h:∀ b,b<n.B->∀ i,i<n.B->(if n.root i=i then cand b i else n.lap (cand b) i)=dl i b) {b c:Nat} (hb:b<n.B) (hc:c<n.B):n.th b c=cand b c :=
 Nw.uniq ok (fun i hi=>by
  have h1:=Go.Proofs.YtggegpiffjbngaaGreat.Ah2 ok hB hb hi
  have h2:=h b hb i hi
  split
  ·rw [if_pos (by assumption)] at h1 h2;rw [h1,h2]
  ·rw [if_neg (by assumption)] at h1 h2;rw [h1,h2]) c hc
theorem Nw.hf_cand {n:Nw} (ok:n.Ok) (hB:1<=n.B) (cand:Nat->Nat->Rat) (h:∀ b,b<n.B->∀ i,i<n.B->(if n.root i=i then cand b i else n.lap (cand b) i)=dl i b) {k b:Nat} (hk:k<n.M) (hb:b<n.B):n.hf k b=n.fl (cand b) k:=by
 unfold Nw.hf Nw.fl
 rw [Nw.th_cand ok hB cand h hb (ok.f k hk),Nw.th_cand ok hB cand h hb (ok.t k hk)]
def net3:NtV:=⟨3,[⟨0,1,10,100⟩,⟨1,2,5,50⟩,⟨0,2,10,70⟩]⟩
def cand3 (b c:Nat):Rat:=if b=0 then 1 else if c=0 then 0 else if b=c then 6 else 4
def outsB (m:Nat) (o:List Int):Bool:=(List.range o.length).all fun i=>decide (0<=o.getD i 0) && decide (o.getD i 0<m) && (decide (i=0) || decide (o.getD (i-1) 0<o.getD i 0))
theorem BD0 {n:NtV} {o:List Int} (h:outsB n.ls.length o=true):outsOk n o:=by
 unfold outsB at h
 rw [List.all_eq_true] at h
 intro i hi
 have:=h i (List.mem_range.2 hi)
 simp only [Bool.and_eq_true,Bool.or_eq_true,decide_eq_true_eq] at this
 exact ⟨this.1.1,this.1.2,fun h0=>by rcases this.2 with h | h;omega;exact h⟩
def chkB (n:NtV):Bool:=decide (1<=n.b) && decide (n.b<=6) && decide (n.ls.length<=10) && n.ls.all fun l=>(List.range 5).all fun i=>ck i n.b l
theorem As2 {n:NtV} {o:List Int} (h:chkB n=true) (ho:outsB n.ls.length o=true):outE n o=0:=by
 unfold chkB at h
 simp only [Bool.and_eq_true,decide_eq_true_eq,List.all_eq_true] at h
 obtain ⟨⟨⟨h1,h2⟩,h3⟩,h4⟩:=h
 have hc:chkE n=0:=by
  unfold chkE
  rw [if_neg (by omega),if_neg (by omega),if_pos]
  exact fun i _ l hl j hj=>h4 l (List.mem_iff_getElem?.2 ⟨i,hl⟩) j (List.mem_range.2 hj)
 unfold outE
 rw [if_neg (by simpa using hc),if_pos (BD0 ho)]
end Go.Kx
namespace Go.Proofs.YtggegpiffjbngaaGreat
open Go Go.Kx Go.RowKit
theorem un_II:Tryz.prog.underlying 47=some (.slice 25):=by kernel_rfl
theorem Af6:Ent Tryz.prog 15:=A0 Tryz.func15 (by kernel_rfl) rfl
theorem Al6:zeroOf Tryz.prog 24=some (.agg #[.int .i64 0,.slice none 0 0]):=by kernel_rfl
theorem Ae8 {a b c d:Int}:bldOf Tryz.prog 58 [(0,.int .i64 a),(1,.int .i64 b),(2,.int .i64 c),(3,.int .i64 d)]=some #[.int .i64 a,.int .i64 b,.int .i64 c,.int .i64 d]:=by kernel_rfl
theorem bsl_Ls3 {a b c d a' b' c' d' a2 b2 c2 d2:Value}:bslOf Tryz.prog 22 3 [(0,.agg #[a,b,c,d]),(1,.agg #[a',b',c',d']),(2,.agg #[a2,b2,c2,d2])]=some (58,#[a,b,c,d,a',b',c',d',a2,b2,c2,d2]):=by kernel_rfl
theorem BH2 {b:Int} {a:Option Addr} {n c:Nat}:bldOf Tryz.prog 24 [(0,.int .i64 b),(1,.slice a n c)]=some #[.int .i64 b,.slice a n c]:=by kernel_rfl
theorem ln_R {S:Nat->Prop} {w:World} {a b c d:Int} (h:∀ x∈[a,b,c,d],-9223372036854775808<=x/\x<=9223372036854775807):eL.R S w (.agg #[.int .i64 a,.int .i64 b,.int .i64 c,.int .i64 d]) ⟨a,b,c,d⟩:=⟨rfl,I5.2 (h a (by simp)),I5.2 (h b (by simp)),I5.2 (h c (by simp)),I5.2 (h d (by simp))⟩
theorem ok3:outE net3 []=0:=As2 (by decide) (by decide)
theorem BG9:∀ b,b<(nwOf net3 []).B->∀ i,i<(nwOf net3 []).B->(if (nwOf net3 []).root i=i then cand3 b i else (nwOf net3 []).lap (cand3 b) i)=dl i b:=by
 have:∀ b,b<3->∀ i,i<3->(if (nwOf net3 []).root i=i then cand3 b i else (nwOf net3 []).lap (cand3 b) i)=dl i b:=by decide +kernel
 exact this
theorem BG6 {n:NtV} {o:List Int} {a b:Int} (h:outE n o=0):(busB n a/\busB n b->conE n o a b=0)/\(¬ (busB n a/\busB n b)->conE n o a b=1):=by
 unfold conE
 rw [if_neg (by simpa using h)]
 exact ⟨fun h=>if_pos h,fun h=>if_neg h⟩
theorem btE_val {n:NtV} {o:List Int} {a b:Int} (h:outE n o=0):(busB n a/\busB n b->(nwOf n o).root a.toNat=(nwOf n o).root b.toNat->btE n o a b=0)/\(busB n a/\busB n b->(nwOf n o).root a.toNat≠(nwOf n o).root b.toNat->btE n o a b=8)/\(¬ (busB n a/\busB n b)->btE n o a b=1):=by
 obtain ⟨h1,h2⟩:=BG6 (a:=a) (b:=b) h
 refine ⟨fun hb hr=>?_,fun hb hr=>?_,fun hb=>?_⟩
 ·unfold btE conB
  rw [if_neg (by simpa using h1 hb),if_pos (decide_eq_true ⟨h1 hb,hr⟩)]
 ·unfold btE conB
  rw [if_neg (by simpa using h1 hb),if_neg (by rw [decide_eq_false fun h=>hr h.2];decide)]
 ·unfold btE
  rw [if_pos (by rw [h2 hb];decide),h2 hb]
end Go.Proofs.YtggegpiffjbngaaGreat
namespace Go.Kx
open Go Go.RowKit
theorem eV_sep {S:Nat->Prop} {w:World} {v:Value} {l:List QV} {b:Nat} {t:TypeId} {cs:Array Value} (h:eV.R S w v l) (hb:Blk w b t cs) (hc:∀ (i:Nat) (n:Int),cs[i]?≠some (Value.int .u32 n)) (hc2:∀ (i:Nat) (x:Bool),cs[i]?≠some (Value.bool x)):eV.R (fun k=>S k/\k≠b) w v l:=by
 obtain ⟨es,he,a,c,hv,h1,h2,h3,h4⟩:=h
 refine ⟨es,⟨he.1,fun i e x hx hy=>AI5 (he.2 i e x hx hy) hb hc⟩,a,c,hv,h1,h2,h3,fun hn=>?_⟩
 obtain ⟨ad,ha,hS,hcl⟩:=h4 hn
 refine ⟨ad,ha,⟨hS,fun e=>?_⟩,hcl⟩
 obtain ⟨e0,he0⟩:∃ e,es[0]?=some e:=⟨_,List.getElem?_eq_getElem (by rw [he.1];exact hn)⟩
 obtain ⟨s1,t1,rfl,_,_⟩:=he.2 0 e0 _ he0 (List.getElem?_eq_getElem hn)
 have hg:=C3 (sz:=4) es 0 0 _ he.sz he0 (by omega)
 have hcell:=(hcl 0 _ hg).1
 obtain ⟨b0,o0,g0⟩:=ad
 have e:b0=b:=e
 subst e
 have h':w.heap[b0]?=some (.cells cs t (0,0)):=hb
 simp only [World.cell?,Addr.add,if_pos,h'] at hcell
 split at hcell
 ·cases hcell
 ·exact hc2 _ _ hcell
theorem Ai4:(∀ (i:Nat) (n:Int),(#[.slice none 0 0]:Array Value)[i]?≠some (Value.int .u32 n))/\∀ (i:Nat) (x:Bool),(#[.slice none 0 0]:Array Value)[i]?≠some (Value.bool x):=by
 constructor
 ·intro i n
  match i with
  | 0=>simp
  | i+1=>simp
 ·intro i n
  match i with
  | 0=>simp
  | i+1=>simp
end Go.Kx
namespace Go.Proofs.YtggegpiffjbngaaGreat
open Go Go.Kx Go.RowKit
theorem E_lofac:Ent Tryz.prog 119:=A0 Tryz.func119 (by kernel_rfl) rfl
set_option maxRecDepth 8000 in
theorem lofac_t {S T0:Nat->Prop} {w:World} {vb q:Value} {M k l b1 b2 b3 L:Nat} {bt:Nat->Rat} {r:Rat} (up:Up S w) (upo:Up T0 w) (k1:Blk w b1 3 #[.int .i64 (k:Nat)]) (k2:Blk w b2 32 #[vb]) (hb:eV.R S w vb (tab M bt)) (k3:Blk w b3 54 q.cells) (hq:eQ.R S w q (qc r))
  (hr:r≠0) (hbz:∀ i,Rsz (bt i) L) (hrz:Rsz r L) (hL:1<=L) (hL2:L<=1000000000) (hl:l<M) :
  CR Tryz.prog 119 #[.int .i64 (l:Nat),.pointer (some ⟨b1,0,none⟩),.pointer (some ⟨b2,0,none⟩),.pointer (some ⟨b3,0,none⟩)] w (eQ.at T0 (qc (if l=k then -1 else bt l / r))):=by
 have hqv:=shpA (E:=eQ) O hq
 refine enter Tryz.func119 O Tryz.ntmps119 O (.beg (.go O (.alloc O C8 fun W1 b5 n1=>?_)))
 obtain ⟨e1,k5,hb5,hs1⟩:=n1
 refine .go O (.ld A8 O O (k1.ext e1) O ?_)
 by_cases hlk:l=k
 ·rw [if_pos hlk]
  refine .eqlT O O O (by omega) (.go O ?_)
  refine .call _ O D4 O (D2 (n := -1) (S:=fun j=>T0 j/\j≠b5) (fun j hj=>⟨upo j (by omega),by omega⟩) (by decide) (by decide)) fun v2 W2 e2 h2=>?_
  refine .storeA (E:=eQ) ty_Q O O (k5.ext e2) O O h2 (fun h=>h.2 O) fun W3 k5 u3 h3=>?_
  exact .goE O (.cell Tryz.results119 O ty_Q O O k5 h3 ⟨u3.below (e1.trans e2) (by omega),eQ.mono (fun _ _ h=>h.1) h3⟩)
 rw [if_neg hlk]
 have hbl:=E8 (g:=bt) hl
 have hbW:∀ {W:World},Ext w W->eV.R S W vb (tab M bt):=fun e=>ER.ext eV hb e
 have hqW:∀ {W:World},Ext w W->eQ.R S W q (qc r):=fun e=>ER.ext eQ hq e
 have upO:∀ {W:World},Ext W1 W->Up (fun j=>T0 j/\j≠b5) W:=fun e j hj=>⟨upo j (by have:=e.size;omega),by have:=e.size;omega⟩
 refine .eqlF O O O (by omega) (.goC O ?_)
 refine .parL follows 10 [8] [.inl vb,.inl _,.inr (Ptr eQ S (qc (bt l))),.inr (eQ.at S (qc (bt l))),.inl q,.inr (Two (eQ.at (fun j=>T0 j/\j≠b5) (qc (bt l / r))) (Is (.int .i64 0))),.inr (Two (eQ.at (fun j=>T0 j/\j≠b5) (qc (bt l / r))) (Is (.int .i64 0))),.inr (eQ.at (fun j=>T0 j/\j≠b5) (qc (bt l / r))),.inl (.int .i64 0),.inr (NewP W1.heap.size 54 zq.cells)] [[],[],[(13,0),(14,1)],[(15,2)],[],[(16,3),(17,4)],[(18,5)],[(12,6)],[(12,6)],[]] (by kernel_rfl) ⟨
  fun w e=>(v_ld ty_V O (k2.ext (e1.trans e)) O).ob,
  fun w e=>(v_mv O).ob,
  fun w e=>D6 (i:=l) un_V ty_Q O (hbW (e1.trans e)) O hbl,
  fun w e x2 hx2=>M2 ty_Q O hx2,
  fun w e=>((C9 ty_Q O (k3.ext (e1.trans e)) (eQ.csz hq)).eq hqv.symm).ob,
  fun w e x3 hx3=>(by have:=AA1 (L:=L) (up.ext (e1.trans e).size) (upO e) hx3 (hqW (e1.trans e)) (hbz l).toOk hrz.toOk hL (by omega) (by rw [B5];exact hr);rw [B5,B5] at this;exact (A6 _ AB2 O this).ob (K7 (A9 _ _ _) (R7 _))),
  fun w e x5 hx5=>J0 (v_mv O) hx5 (K7 (A9 _ _ _) (R7 _)),
  fun w e x6 hx6=>by
   obtain ⟨p1,q1,rfl,hp1,hq1⟩:=hx6
   exact J0 (v_ex O O) hp1 (A9 _ _ _),
  fun w e x6 hx6=>by
   obtain ⟨p1,q1,rfl,hp1,hq1⟩:=hx6
   exact ((v_ex O O).eq hq1).ob,
  fun w e=>M3 C8 e.size,trivial⟩ ?_
 rintro W2 e2 y2 hy2 y3 hy3 y5 hy5 y6 hy6 y7 hy7 _ ⟨b6,rfl,hb6,k6⟩
 have hy:=AI5 hy7 k6 P8
 have z2:=e2.size
 refine .storeA (E:=eQ) ty_Q O O k6 O O hy (fun h=>h.2 O) fun W3 k6 u3 h3=>?_
 have hyv:=shpA (E:=eQ) O h3
 refine .go O (.ldA ty_Q O O k6 (eQ.csz h3) ?_)
 rw [<-hyv]
 have e3:Ext W1 W3:=u3.below e2 hb6
 have z3:=u3.size
 have h3:eQ.R (fun j=>T0 j/\j≠b5) W3 y7 _:=eQ.mono (fun _ _ h=>h.1) h3
 refine .storeA (E:=eQ) ty_Q O O (k5.ext e3) O O h3 (fun h=>h.2 O) fun W4 k5 u4 h4=>?_
 exact .goE O (.cell Tryz.results119 O ty_Q O O k5 h4 ⟨u4.below (e1.trans e3) (by omega),eQ.mono (fun _ _ h=>h.1) h4⟩)
theorem J6:Ent Tryz.prog 54:=A0 Tryz.func54 (by kernel_rfl) rfl
def loV (n:NtV) (o:List Int) (k:Nat):List QV:=tab n.ls.length ((nwOf n o).lo k)
theorem Ae4 {n:NtV} {o:List Int} (ok:nwOk n o) (k l:Nat):Rsz ((nwOf n o).bt k l) 349529:=by
 have:=(Ad6 ok l ((nwOf n o).F k)).add (Ad6 ok l ((nwOf n o).T k)).neg
 rw [<-Rat.sub_eq_add_neg] at this
 exact this
theorem Ar6 {n:NtV} {o:List Int} (ok:nwOk n o) (k:Nat):Rsz ((nwOf n o).rst k) 400000:=by
 have:=(rsz1 (L:=1) (Nat.le_refl _)).add (Ae4 ok k k).neg
 rw [<-Rat.sub_eq_add_neg] at this
 exact this.mono (by decide)
theorem lo_rsz {n:NtV} {o:List Int} (ok:nwOk n o) (k l:Nat):Rsz ((nwOf n o).lo k l) 800000:=by
 unfold Nw.lo
 split
 ·exact (rsz1 (L:=1) (Nat.le_refl _)).neg.mono (by decide)
 ·rw [Rat.div_def]
  exact ((Ae4 ok k l).mul ((Ar6 ok k).inv (by decide))).mono (by decide)
set_option maxRecDepth 8000 in
theorem J1 {S T0:Nat->Prop} {w:World} {vn vo:Value} {n:NtV} {o:List Int} {line:Int} (up:Up S w) (upo:Up T0 w) (hn:eN.R S w vn n) (ho:eI.R S w vo o) :
  CR Tryz.prog 54 #[vn,vo,.int .i64 line] w (Two (eV.at T0 (if lkE n o line=0 then loV n o line.toNat else [])) (Is (.int .i64 (lkE n o line)))):=by
 obtain ⟨s,rfl,hs,hb⟩:=hn
 have hn:eN.R S w (.agg #[.int .i64 n.b,s]) n:=⟨s,rfl,hs,hb⟩
 refine enter Tryz.func54 O Tryz.ntmps54 O (.beg (.go O (.box O O fun w1 b3 n1=>.box O O fun w1' b5 n1'=>?_)))
 obtain ⟨e1,k3,hb3,hs1⟩:=n1
 obtain ⟨e1',k5,hb5,hs1'⟩:=n1'
 have x1:=e1.trans e1'
 replace k3:Blk w1' b3 24 #[.int .i64 n.b,s]:=k3.ext e1'
 replace k5:Blk w1' b5 3 #[.int .i64 line]:=k5
 refine .go O (.ldA ty_N O O k3 O (.go O (.ld A8 O O k5 O ?_)))
 refine .call _ O AM4 O (AK8 (up.ext x1.size) (hn.ext x1) (ho.ext x1)) fun v2 w2 e2 h2=>?_
 subst h2
 have x2:=x1.trans e2
 have k3:=k3.ext e2
 have k5:=k5.ext e2
 refine .go O ?_
 by_cases hK:lkE n o line=0
 rotate_left
 ·refine .neqT O O O hK (.goE O (.plain [_,_] Tryz.results54 ⟨rfl,rfl,trivial⟩ ⟨x2,_,_,rfl,?_,rfl⟩))
  rw [if_neg hK];exact RL.nil
 obtain ⟨hO,k,rfl,hkM,hg,hko,hB⟩:=Ad5 hK
 have ok:=K5 hO
 have hM10:n.ls.length<=10:=ok.m
 have hnb:=ok.b
 have z2:=x2.size
 have hgl:n.ls[k]?=some (n.ls.getD k ln0):=A7 hkM
 have hFI:=ok.fI k hkM
 have hTI:=ok.tI k hkM
 have hFB:=ok.f k hkM
 have hTB:=ok.t k hkM
 have hF0:lnI (n.ls.getD k ln0) 0=(((nwOf n o).F k:Nat):Int):=hFI
 have hT0:lnI (n.ls.getD k ln0) 1=(((nwOf n o).T k:Nat):Int):=hTI
 have hroot:=Nw.root_line (n:=nwOf n o) hkM hg
 have hrst:=Nw.rst_ne ok.ok hkM hg hB
 have hbt:btE n o ((nwOf n o).F k:Nat) ((nwOf n o).T k:Nat)=0:=by
  refine (btE_val hO).1 ⟨⟨by omega,by omega⟩,⟨by omega,by omega⟩⟩ ?_
  simpa using hroot
 have hbV:btV n o ((nwOf n o).F k) ((nwOf n o).T k)=tab n.ls.length ((nwOf n o).bt k):=rfl
 have hsW:∀ {W:World},Ext w2 W->eLs.R S W s n.ls:=fun e=>ER.ext eLs hs (x2.trans e)
 have hBet:∀ {W:World},Ext w2 W->CR Tryz.prog 20 #[.agg #[.int .i64 n.b,s],vo,.int .i64 ((nwOf n o).F k:Nat),.int .i64 ((nwOf n o).T k:Nat)] W (Two (eV.at S (tab n.ls.length ((nwOf n o).bt k))) (Is (.int .i64 0))):=fun e=>by
  have:=AR3 (a:=((nwOf n o).F k:Nat)) (b:=((nwOf n o).T k:Nat)) (up.ext (x2.trans e).size) (hn.ext (x2.trans e)) (ho.ext (x2.trans e))
  rw [hbt,if_pos rfl] at this
  exact this
 refine .neqF O O O hK (.goC O ?_)
 refine .parL follows 19 [17] [.inl (.agg #[.int .i64 n.b,s]),.inl _,.inl _,.inl s,.inl (.int .i64 (k:Nat)),.inr (Ptr eL S (n.ls.getD k ln0)),.inr (Ptr (eInt .i64) S ((nwOf n o).F k:Nat)),.inl (.int .i64 ((nwOf n o).F k:Nat)),.inl _,.inl s,.inl (.int .i64 (k:Nat)),.inr (Ptr eL S (n.ls.getD k ln0)),.inr (Ptr (eInt .i64) S ((nwOf n o).T k:Nat)),.inl (.int .i64 ((nwOf n o).T k:Nat)),.inr (Two (eV.at S (tab n.ls.length ((nwOf n o).bt k))) (Is (.int .i64 0))),.inr (Two (eV.at S (tab n.ls.length ((nwOf n o).bt k))) (Is (.int .i64 0))),.inr (eV.at S (tab n.ls.length ((nwOf n o).bt k))),.inl (.int .i64 0),.inr (NewP w2.heap.size 32 #[.slice none 0 0])] [[],[],[],[(25,2)],[],[(26,3),(27,4)],[(28,5)],[(29,6)],[],[(31,8)],[],[(32,9),(33,10)],[(34,11)],[(35,12)],[(23,0),(24,1),(30,7),(36,13)],[(37,14)],[(22,15)],[(22,15)],[]] (by kernel_rfl) ⟨
  fun w e=>(C9 ty_N O (k3.ext e) O).ob,
  fun w e=>(v_mv O).ob,
  fun w e=>(v_fa F2 O).ob,
  fun w e=>(v_ld I4 O (k3.ext e) O).ob,
  fun w e=>(v_ld A8 O (k5.ext e) O).ob,
  fun w e=>D6 (i:=k) H7 K3 O (hsW e) O hgl,
  fun w e x5 hx5=>(by rw [<-hF0];exact Ac9 G6 O hx5 (by decide)),
  fun w e x6 hx6=>T9 A8 O hx6,
  fun w e=>(v_fa F2 O).ob,
  fun w e=>(v_ld I4 O (k3.ext e) O).ob,
  fun w e=>(v_ld A8 O (k5.ext e) O).ob,
  fun w e=>D6 (i:=k) H7 K3 O (hsW e) O hgl,
  fun w e x11 hx11=>(by rw [<-hT0];exact Ac9 G5 O hx11 (by decide)),
  fun w e x12 hx12=>T9 A8 O hx12,
  fun w e=>(A6 _ AS0 O (hBet e)).ob (K7 (A9 _ _ _) (R7 _)),
  fun w e x14 hx14=>J0 (v_mv O) hx14 (K7 (A9 _ _ _) (R7 _)),
  fun w e x15 hx15=>by
   obtain ⟨p1,q1,rfl,hp1,hq1⟩:=hx15
   exact J0 (v_ex O O) hp1 (A9 _ _ _),
  fun w e x15 hx15=>by
   obtain ⟨p1,q1,rfl,hp1,hq1⟩:=hx15
   exact ((v_ex O O).eq hq1).ob,
  fun w e=>M3 Ac1 e.size,trivial⟩ ?_
 rintro W4 d4 y5 hy5 y6 hy6 y11 hy11 y12 hy12 y14 hy14 y15 hy15 vb hvb _ ⟨b9,rfl,hb9,k9⟩
 have hvb:=eV_sep hvb k9 Ai4.1 Ai4.2
 obtain ⟨ab,cb,hvbs,_⟩:=RL.len hvb
 have hz4:=d4.size
 refine .store ty_V O O k9 (by rw [hvbs];rfl) (by simp [Value.cells]) (by rw [hvbs];simp [one1,Value.cells]) fun W5 k9 u5=>?_
 replace k9:Blk W5 b9 32 #[vb]:=by rw [hvbs] at k9 ⊢;exact k9
 have hvb:=eV.keep (Kp.upd u5 fun h=>h.2 O) hvb
 have d5:Ext w2 W5:=u5.below d4 hb9
 have x5:=x2.trans d5
 have k3:=k3.ext d5
 have k5:=k5.ext d5
 have hvb:eV.R S W5 vb (tab n.ls.length ((nwOf n o).bt k)):=eV.mono (fun _ _ h=>h.1) hvb
 have hbk:=E8 (g:=(nwOf n o).bt k) hkM
 have upT:∀ {W:World},Ext W5 W->Up S W:=fun e=>up.ext (x5.trans e).size
 refine .go O (.neqF O O O O (.goC O ?_))
 refine .par follows 7 [.inr (eQ.at S (qc ((1:Int):Rat))),.inl vb,.inl (.int .i64 (k:Nat)),.inr (Ptr eQ S (qc ((nwOf n o).bt k k))),.inr (eQ.at S (qc ((nwOf n o).bt k k))),.inr (eQ.at S (qc ((nwOf n o).rst k))),.inr (NewP W5.heap.size 54 zq.cells)] [[],[],[],[(44,1),(45,2)],[(46,3)],[(43,0),(47,4)],[]] (by kernel_rfl) ⟨
  fun w e=>(A6 _ D4 O (D2 (upT e) (by decide) (by decide))).ob (A9 _ _ _),
  fun w e=>(v_ld ty_V O (k9.ext e) O).ob,
  fun w e=>(v_ld A8 O (k5.ext e) O).ob,
  fun w e=>D6 (i:=k) un_V ty_Q O (ER.ext eV hvb e) O hbk,
  fun w e x3 hx3=>M2 ty_Q O hx3,
  fun w e x0 hx0 x4 hx4=>(by have:=Q5 (L:=349529) (upT e) hx0 hx4 ((rsz1 (L:=1) (Nat.le_refl _)).mono (by decide)).toOk (Ae4 ok k k).toOk (by decide) (by decide);rw [B5,B5,show (((1:Int):Rat)-(nwOf n o).bt k k)=(nwOf n o).rst k from rfl] at this;exact (A6 _ N5 O this).ob (A9 _ _ _)),
  fun w e=>M3 C8 e.size,trivial⟩ ?_
 rintro W6 d6 y0 hy0 y3 hy3 y4 hy4 y5 hy5 _ ⟨b11,rfl,hb11,k11⟩
 have hy:=AI5 hy5 k11 P8
 refine .storeA (E:=eQ) ty_Q O O k11 O O hy (fun h=>h.2 O) fun W7 k11 u7 h7=>?_
 have h7:eQ.R S W7 y5 (qc ((nwOf n o).rst k)):=eQ.mono (fun _ _ h=>h.1) h7
 have d7:Ext W5 W7:=u7.below d6 hb11
 have x7:=x5.trans d7
 have k3:=k3.ext d7
 have k5:=k5.ext d7
 have k9:=k9.ext d7
 have hvb:=ER.ext eV hvb d7
 have z7:=x7.size
 refine .go O (.mkf [] [_,_,_] O O O O (.go O (.fa F2 O O (.ld I4 O O k3 O (.lenR H7 O O (ER.ext eLs hs x7) ?_)))))
 refine .make_ _ _ un_V I3 O (by decide) O O O (Nat.le_refl _) (by omega) (by omega) fun W8 h n8=>?_
 have f8:FB eQ 54 T0 W8 h (List.replicate n.ls.length q0):=FB.made n8 zq_R
 obtain ⟨d8,_,hh,hs8⟩:=n8
 generalize hG:(fun l=>qc ((nwOf n o).lo k l))=G
 refine .go O (.len un_V O O (.goC O ?_))
 refine .lp (α:=Nat) [12,13,55] O (fun i=>[(56,.int .i64 (i:Nat))]) (fun i W=>Ext W7 W/\i<=n.ls.length/\FB eQ 54 T0 W h (fil n.ls.length i G q0)) (fun i=>n.ls.length-i) 0 (lc1 O) ⟨d8,Nat.zero_le _,by rw [J3];exact f8⟩ ?_
 rintro i W ⟨hW,hi,fb⟩
 have hWs:=hW.size
 have hhl:=fb.lt
 refine .go O ?_
 rcases Nat.lt_or_ge i n.ls.length with hlt | hge
 rotate_left
 ·have:i=n.ls.length:=by omega
  subst this
  rw [S4] at fb
  refine .lssF O O O (by omega) (.goE O (.plain [_,_] Tryz.results54 ⟨rfl,rfl,trivial⟩ ⟨x7.trans hW,_,_,rfl,?_,by rw [hK]⟩))
  rw [if_pos hK]
  have:=fb.toR (hsz:=by decide) (c:=n.ls.length) (upo h (by omega)) (by simp) (by simp;omega)
  rw [List.length_map,List.length_range,<-hG] at this
  exact this
 have hGi:G i=qc (if i=k then -1 else (nwOf n o).bt k i / (nwOf n o).rst k):=by rw [<-hG];rfl
 refine .lssT O O O (by omega) (.go O ?_)
 refine .callv [.int .i64 (i:Nat)] O O E_lofac O (lofac_t (S:=S) (T0:=fun j=>T0 j/\j≠h) (L:=400000) (up.ext (x7.trans hW).size) (fun j hj=>⟨upo j (by omega),by omega⟩) (k5.ext hW) (k9.ext hW) (ER.ext eV hvb hW) (k11.ext hW) (ER.ext eQ h7 hW) hrst (fun i=>(Ae4 ok k i).mono (by decide)) (Ar6 ok k) (by decide) (by decide) hlt) fun vq W9 d9 hq=>?_
 have hq:eQ.R (fun j=>T0 j/\j≠h) W9 vq (G i):=by rw [hGi];exact hq
 refine .ixB (i:=i) un_V ty_Q O O O hlt (.storeF (E:=eQ) (i:=i) (by decide) ty_Q O O (fb.ext d9) O (by rw [H1];exact hlt) (Nat.zero_add _) hq fun W10 f10 u10=>?_)
 rw [M6] at f10
 exact .go O (.inc O O O (by omega) (.goN O (.mk (i+1) O (lc1 O) ⟨⟨u10.below (hW.trans d9) (by omega),hlt,f10⟩,by show n.ls.length-(i+1)<n.ls.length-i;omega⟩)))
theorem bsl_IIo {a:Option Addr} {n c:Nat}:bslOf Tryz.prog 47 1 [(0,.slice a n c)]=some (25,#[.slice a n c]):=by kernel_rfl
def okV17 (r:List QV):Prop:=r.length<=20/\∀ q∈r,qok 4 q
theorem Af5:Ent Tryz.prog 24:=A0 Tryz.func24 (by kernel_rfl) rfl
def balB (n:Nw) (x:Nat->Rat):Bool:=(List.range n.B).all fun r => !decide (n.root r=r) || decide (sumN n.B (fun b=>if n.root b=r then x b else 0)=0)
theorem BH5 {n:Nw} {x:Nat->Rat}:balB n x=true<->n.bal x:=by
 unfold balB Nw.bal
 rw [List.all_eq_true]
 simp only [List.mem_range,Bool.or_eq_true,Bool.not_eq_true',decide_eq_false_iff_not,decide_eq_true_eq]
 exact ⟨fun h r hr hrr=>(h r hr).resolve_left fun h'=>h' hrr,fun h r hr=>by
  by_cases hrr:n.root r=r
  ·exact .inr (h r hr hrr)
  ·exact .inl hrr⟩
theorem Ap1 {n:Nw} (ok:n.Ok) {x cand:Nat->Rat} (h:∀ i,i<n.B->(if n.root i=i then cand i else n.lap cand i)=n.inj0 x i) {c:Nat} (hc:c<n.B):n.an x c=cand c :=
 Nw.uniq ok (fun i hi=>by
  have h1:=n.an_eq ok x hi
  have h2:=h i hi
  split
  ·rw [if_pos (by assumption)] at h1 h2;rw [h1,h2]
  ·rw [if_neg (by assumption)] at h1 h2;rw [h1,h2]) c hc
def inj3:Nat->Rat:=fun b=>((([6,0,-6]:List Int).getD b 0:Int):Rat)
def an3:Nat->Rat:=fun b=>((([0,-24,-36]:List Int).getD b 0:Int):Rat)
theorem Ar1 {l:List Int} {b:Nat}:rv (intsV l) b=if b<l.length then ((l.getD b 0:Int):Rat) else 0:=O9 ..
theorem BH8:anE net3 [] (intsV [6,0,-6])=0:=by
 refine anE_of ok3 (by decide) ?_
 refine (Nw.bal_congr (y:=inj3) fun b hb=>?_).2 (BH5.1 (by decide +kernel))
 rw [Ar1,if_pos (show b<([6,0,-6]:List Int).length from hb)];rfl
theorem Au7:∀ c,c<3->(nwOf net3 []).an (rv (intsV [6,0,-6])) c=an3 c:=fun c hc=>by
 have ok:=K5 ok3
 refine Ap1 ok.ok (fun i hi=>?_) hc
 have h1:∀ i,i<3->(if (nwOf net3 []).root i=i then an3 i else (nwOf net3 []).lap an3 i)=(nwOf net3 []).inj0 inj3 i:=by decide +kernel
 rw [h1 i hi]
 unfold Nw.inj0
 rw [Ar1,if_pos (show i<([6,0,-6]:List Int).length from hi)];rfl
theorem ob_L3 {w:World} {σ:Env} {d:Option Tmp} {ty:TypeId} {pos:String} {af:Array Edge} {g:Option (Nat×Bool)} {m n k:Int} (h:∀ x∈[m,n,k],-9223372036854775808<=x/\x<=9223372036854775807) :
  Gv Tryz.prog ⟨d,.buildSlice 127 3 #[(0,.const (.int .i64 m)),(1,.const (.int .i64 n)),(2,.const (.int .i64 k))],ty,pos,af,g⟩ σ w fun v' w'=>Ext w w'/\Sp.ok (.inr (eI.at (fun _=>True) [m,n,k])) v' w' :=
 (AQ0 (ps:=[(0,.const (.int .i64 m)),(1,.const (.int .i64 n)),(2,.const (.int .i64 k))]) _ O Ao5).mono fun v' w' ⟨b2,hv',n2⟩=>⟨n2.1,fun w'' e=>by
  rw [hv']
  exact ER.ext eI (AV8 [m,n,k] 3 n2 upT O O h (by omega)) e⟩
theorem vk_ints (l:List Int) (h:∀ n∈l,-9223372036854775808<=n/\n<=9223372036854775807):vk 2 (intsV l):=BA0 h
end Go.Proofs.YtggegpiffjbngaaGreat
namespace Go.Kx
open Go Go.RowKit
end Go.Kx
namespace Go.Proofs.YtggegpiffjbngaaGreat
open Go Go.Kx Go.RowKit
theorem ok3_2:outE net3 [2]=0:=As2 (by decide) (by decide)
theorem AZ2:Ent Tryz.prog 115:=A0 Tryz.func115 (by kernel_rfl) rfl
theorem AY2 {w:World}:CR Tryz.prog 115 #[] w (eN.at (fun _=>True) net3):=by
 refine enter Tryz.func115 O Tryz.ntmps115 O ?_
 refine .sr (.alloc O Al6 fun w1 b0 n1=>.nil (.sr (.bld _ O O Ae8 (.bld _ O O Ae8 (.bld _ O O Ae8 (.bsl _ O O bsl_Ls3 fun w2 b4 n2=>.bld _ O O BH2 ?_))))))
 obtain ⟨e1,k0,hb0,hs1⟩:=n1
 have hl:eLs.R (fun k=>k≠b0) w2 (.slice (some ⟨b4,0,none⟩) 3 3) net3.ls:=Ae1 (E:=eL) [_,_,_] net3.ls n2 (fun k hk=>by omega) O O (by decide) (Els.snoc (Els.snoc (Els.snoc Els.nil (ln_R (by decide))) (ln_R (by decide))) (ln_R (by decide)))
 have hn:eN.R (fun k=>k≠b0) w2 (.agg #[.int .i64 3,.slice (some ⟨b4,0,none⟩) 3 3]) net3:=⟨_,rfl,hl,I5.2 (by decide)⟩
 refine .storeA (E:=eN) ty_N O O (k0.ext n2.1) O O hn (fun h=>h O) fun w3 k3 u3 h3=>.nil (.ret ?_)
 exact .cell (E:=eN) Tryz.results115 O ty_N O O k3 h3 ⟨u3.below (e1.trans n2.1) (by omega),eN.mono (fun _ _ _=>trivial) h3⟩
theorem AE3:Ent Tryz.prog 116:=A0 Tryz.func116 (by kernel_rfl) rfl
theorem AD0 {w:World} {vl:Value} {l:List Int} (hl:eI.R (fun _=>True) w vl l) (hn:l.length<=1000):CR Tryz.prog 116 #[vl] w (eV.at (fun _=>True) (intsV l)):=by
 refine enter Tryz.func116 O Tryz.ntmps116 O (.beg (.go O ?_))
 refine .call _ O Af0 O (Ac6 upT hl (by omega)) fun v1 w1 e1 h1=>.goE O ?_
 exact .plain [_] Tryz.results116 ⟨rfl,trivial⟩ ⟨e1,h1⟩
theorem Al2:Ent Tryz.prog 117:=A0 Tryz.func117 (by kernel_rfl) rfl
set_option maxRecDepth 8000 in
theorem Ai6 {w:World} {vn vo vl:Value} {n:NtV} {o:List Int} {line:Int} {l:List Int} (hn:eN.R (fun _=>True) w vn n) (ho:eI.R (fun _=>True) w vo o) (hl:eI.R (fun _=>True) w vl l) (hll:l.length<=1000) (hK:lkE n o line=0) (hV:loV n o line.toNat=intsV l) :
  CR Tryz.prog 117 #[vn,vo,.int .i64 line,vl] w (Is (.bool true)):=by
 obtain ⟨s,rfl,hs,hb⟩:=hn
 have hn:eN.R (fun _=>True) w (.agg #[.int .i64 n.b,s]) n:=⟨s,rfl,hs,hb⟩
 refine enter Tryz.func117 O Tryz.ntmps117 O (.beg (.go O (.box O O fun w1 b4 n1=>?_)))
 obtain ⟨e1,k4,hb4,hs1⟩:=n1
 refine .go O (.ldA ty_N O O k4 O (.go O ?_))
 refine .call _ O J6 O (J1 (T0:=fun _=>True) upT upT (hn.ext e1) (ho.ext e1)) fun v2 w2 e2 h2=>?_
 obtain ⟨vf,ve,rfl,hf,he⟩:=h2
 replace he:ve=.int .i64 (lkE n o line):=he
 rw [hK] at he
 subst he
 rw [if_pos hK,hV] at hf
 have x2:=e1.trans e2
 refine .go O (.eqlT O O O O (.go O ?_))
 refine .call _ O AE3 O (AD0 (hl.ext x2) hll) fun v3 w3 e3 h3=>.go O ?_
 refine .call _ O AA7 O (isV_t (ER.ext eV hf e3) h3 O) fun v4 w4 e4 h4=>?_
 subst h4
 exact .goE O (.plain [_] Tryz.results117 ⟨rfl,trivial⟩ ⟨(x2.trans e3).trans e4,rfl⟩)
theorem BE0:lkE net3 [] 0=0:=by unfold lkE;rw [if_neg (by simpa using ok3),if_pos (by decide),if_neg (by decide +kernel)]
theorem lk3_20:lkE net3 [2] 0=11:=by unfold lkE;rw [if_neg (by simpa using ok3_2),if_pos (by decide),if_pos (by decide +kernel)]
theorem lk3_22:lkE net3 [2] 2=1:=by unfold lkE;rw [if_neg (by simpa using ok3_2),if_neg (by decide)]
theorem lo3 {k:Nat} (hk:k<3):(nwOf net3 []).lo 0 k=((([-1,-1,1]:List Int).getD k 0:Int):Rat):=by
 have ok:=K5 ok3
 have hh:∀ k b,k<3->b<3->(nwOf net3 []).hf k b=(nwOf net3 []).fl (cand3 b) k:=fun k b hk hb=>Nw.hf_cand ok.ok ok.b1 cand3 BG9 hk hb
 have h2:∀ k,k<3->(if k=0 then (-1:Rat) else ((nwOf net3 []).fl (cand3 0) k-(nwOf net3 []).fl (cand3 1) k) / (1-((nwOf net3 []).fl (cand3 0) 0-(nwOf net3 []).fl (cand3 1) 0)))=((([-1,-1,1]:List Int).getD k 0:Int):Rat):=by decide +kernel
 rw [<-h2 k hk]
 unfold Nw.lo Nw.rst Nw.bt
 rw [show (nwOf net3 []).F 0=0 from rfl,show (nwOf net3 []).T 0=1 from rfl,hh k 0 hk (by decide),hh k 1 hk (by decide),hh 0 0 (by decide) (by decide),hh 0 1 (by decide) (by decide)]
theorem loV3:loV net3 [] (0:Int).toNat=intsV [-1,-1,1]:=C4 fun k hk=>lo3 hk
theorem af3_ok:afE net3 [] 0 (intsV [6,0,-6])=0:=by unfold afE;rw [if_neg (by simpa using BE0)];exact BH8
theorem afV3:afV net3 [] (0:Int).toNat (intsV [6,0,-6])=intsV [0,0,6]:=C4 fun k hk=>by
 have ok:=K5 ok3
 obtain ⟨_,k0,h0,hkM,hg,_,hB⟩:=Ad5 BE0
 have:k0=0:=by omega
 subst this
 have h1:∀ k,k<3->(nwOf net3 []).fl ((nwOf net3 []).an (rv (intsV [6,0,-6]))) k=(nwOf net3 []).fl an3 k:=fun k hk=>by
  unfold Nw.fl
  rw [Au7 _ (ok.f k hk),Au7 _ (ok.t k hk)]
 have h2:∀ k,k<3->(nwOf net3 []).fl an3 k+((([-1,-1,1]:List Int).getD k 0:Int):Rat)*(nwOf net3 []).fl an3 0=((([0,0,6]:List Int).getD k 0:Int):Rat):=by decide +kernel
 rw [show (0:Int).toNat=0 from rfl,Nw.lo_flow ok.ok hkM hg hB (BH7 BH8).2 hk,h1 k hk,h1 0 (by decide),lo3 hk,h2 k hk]
theorem Au2 {a:Int}:bslOf Tryz.prog 25 1 [(0,.int .i64 a)]=some (3,#[.int .i64 a]):=by kernel_rfl
theorem V5:Ent Tryz.prog 53:=A0 Tryz.func53 (by kernel_rfl) rfl
set_option maxRecDepth 8000 in
theorem U5 {w:World}:CR Tryz.prog 53 #[] w (Is (.bool true)):=by
 have hk6:=vk_ints [6,0,-6] (by decide)
 refine enter Tryz.func53 O Tryz.ntmps53 O (.beg (.go O ?_))
 refine .call _ O AZ2 O AY2 fun vn w1 e1 h1=>.alloc O Al6 fun w2 b1 n2=>?_
 obtain ⟨e2,k1,hb1,hs2⟩:=n2
 refine .storeA (E:=eN) (S:=fun k=>k<w1.heap.size) ty_N O O k1 O O (ER.ext eN (eN.mono (fun k _ h=>h.2) (ER.lt eN h1)) e2) (fun h=>by omega) fun w3 k1 u3 h3=>?_
 have hvn:=shpA (E:=eN) O h3
 have h3:eN.R (fun _=>True) w3 vn net3:=eN.mono (fun _ _ _=>trivial) h3
 have x3:Ext w w3:=(u3.below (e2) (by omega):Ext w1 w3) |> e1.trans
 refine .goC O ?_
 refine .par follows 8 [.inl vn,.inr (eI.at (fun _=>True) [6,0,-6]),.inr (eV.at (fun _=>True) (intsV [6,0,-6])),.inr (Two (eV.at (fun _=>True) (intsV [0,0,6])) (Is (.int .i64 0))),.inr (Two (eV.at (fun _=>True) (intsV [0,0,6])) (Is (.int .i64 0))),.inr (eV.at (fun _=>True) (intsV [0,0,6])),.inl (.int .i64 0),.inr (eV.at (fun _=>True) (intsV [0,0,6]))] [[],[],[(11,1)],[(10,0),(12,2)],[(13,3)],[(9,4)],[(9,4)],[(14,5)]] (by kernel_rfl) ⟨
  fun w e=>((C9 ty_N O (k1.ext e) (eN.csz h3)).eq hvn.symm).ob,
  fun w e=>ob_L3 (by decide),
  fun w e x1 hx1=>(A6 _ AE3 O (AD0 hx1 (by decide))).ob (A9 _ _ _),
  fun w e x2 hx2=>(by have:=Ad4 (vo:=.slice none 0 0) (T0:=fun _=>True) (o:=[]) (line:=0) upT upT (ER.ext eN h3 e) RL.nil hx2 hk6 (by decide) (by decide);rw [af3_ok,if_pos rfl,afV3] at this;exact (A6 _ Af4 O this).ob (K7 (A9 _ _ _) (R7 _))),
  fun w e x3 hx3=>J0 (v_mv O) hx3 (K7 (A9 _ _ _) (R7 _)),
  fun w e x4 hx4=>by
   obtain ⟨p1,q1,rfl,hp1,hq1⟩:=hx4
   exact J0 (v_ex O O) hp1 (A9 _ _ _),
  fun w e x4 hx4=>by
   obtain ⟨p1,q1,rfl,hp1,hq1⟩:=hx4
   exact ((v_ex O O).eq hq1).ob,
  fun w e x5 hx5=>J0 (v_as O) hx5 (A9 _ _ _),trivial⟩ ?_
 intro w4 e4 y1 hy1 y2 hy2 y3 hy3 y4 hy4 y5 hy5 y7 hy7
 have k1:=k1.ext e4
 have h4:=ER.ext eN h3 e4
 refine .go O (.ldA ty_N O O k1 (eN.csz h3) (.bsl _ O O Au2 fun w5 b5 n5=>?_))
 rw [<-hvn]
 have e5:=n5.1
 have i5:eI.R (fun _=>True) w5 (.slice (some ⟨b5,0,none⟩) 1 1) [2]:=AV8 [2] 1 n5 upT O O (by decide) (by decide)
 refine .call _ O J6 O (J1 (T0:=fun _=>True) (line:=0) upT upT (ER.ext eN h4 e5) i5) fun v6 w6 e6 h6=>?_
 obtain ⟨vf,ve,rfl,_,he⟩:=h6
 replace he:ve=.int .i64 (lkE net3 [2] 0):=he
 rw [lk3_20] at he
 subst he
 have e46:=e5.trans e6
 refine .go O (.ldA ty_N O O (k1.ext e46) (eN.csz h3) (.bsl _ O O Au2 fun w7 b7 n7=>?_))
 rw [<-hvn]
 have e7:=n7.1
 have i7:eI.R (fun _=>True) w7 (.slice (some ⟨b7,0,none⟩) 1 1) [2]:=AV8 [2] 1 n7 upT O O (by decide) (by decide)
 refine .call _ O J6 O (J1 (T0:=fun _=>True) (line:=2) upT upT (ER.ext eN h4 (e46.trans e7)) i7) fun v8 w8 e8 h8=>?_
 obtain ⟨vf,ve,rfl,_,he⟩:=h8
 replace he:ve=.int .i64 (lkE net3 [2] 2):=he
 rw [lk3_22] at he
 subst he
 have e48:=(e46.trans e7).trans e8
 refine .go O (.ldA ty_N O O (k1.ext e48) (eN.csz h3) (.bsl _ O O Ao5 fun w9 b9 n9=>?_))
 rw [<-hvn]
 have e9:=n9.1
 refine .call _ O Al2 O (Ai6 (o:=[]) (line:=0) (ER.ext eN h4 (e48.trans e9)) RL.nil (AV8 [-1,-1,1] 3 n9 upT O O (by decide) (by decide)) (by decide) BE0 loV3) fun v10 w10 e10 h10=>?_
 subst h10
 refine .go O (.eqlT O O O O (.go O (.bsl _ O O Ao5 fun w11 b11 n11=>.go O ?_)))
 refine .call _ O AE3 O (AD0 (AV8 [0,0,6] 3 n11 upT O O (by decide) (by decide)) (by decide)) fun v12 w12 e12 h12=>.go O ?_
 have e412:=(((e48.trans e9).trans e10).trans n11.1).trans e12
 refine .call _ O AA7 O (isV_t (ER.ext eV hy7 e412) h12 O) fun v13 w13 e13 h13=>?_
 subst h13
 refine .go O (.eqlT O O O O (.go O (.eqlT O O O O (.goE O ?_))))
 exact .plain [_] Tryz.results53 ⟨rfl,trivial⟩ ⟨((x3.trans e4).trans e412).trans e13,rfl⟩
end Go.Proofs.YtggegpiffjbngaaGreat
namespace Go.Kx
open Go Go.RowKit
section
variable {α:Type} {E:ER α} {t:TypeId} {base:Nat} {X:Nat->Prop} {w w':World} {v:Value} {l:List α}
end
section
variable {P:Program} {σ:Env} {w:World} {d:Option Tmp} {ty:TypeId} {pos:String} {af:Array Edge} {g:Option (Nat×Bool)} {α:Type} {E:ER α}
end
def Nw.mem (n:Nw) (i r:Nat):List Nat:=(List.range i).filter fun b=>decide (n.root b=r)
theorem Nw.mem_succ (n:Nw) (i r:Nat):n.mem (i+1) r=n.mem i r++if n.root i=r then [i] else []:=by
 unfold Nw.mem
 rw [List.range_succ,List.filter_append]
 by_cases h:n.root i=r
 ·simp [h]
 ·simp [h]
end Go.Kx
namespace Go.Proofs.YtggegpiffjbngaaGreat
open Go Go.Kx Go.RowKit
end Go.Proofs.YtggegpiffjbngaaGreat
namespace Go.Kx
open Go Go.RowKit
section
variable {n:Nw}
def Nw.mem1 (n:Nw) (i r:Nat):List Nat:=(List.range i).filter fun c=>decide (c≠r/\n.root c=r)
theorem Nw.mem1_succ (n:Nw) (i r:Nat):n.mem1 (i+1) r=n.mem1 i r++if i≠r/\n.root i=r then [i] else []:=by
 unfold Nw.mem1
 rw [List.range_succ,List.filter_append]
 by_cases h:i≠r/\n.root i=r
 ·simp [h]
 ·rw [if_neg h];simp [h]
theorem Nw.mem_first {r:Nat} (h:n.root r=r):∀ d,n.mem (r+1+d) r=r::n.mem1 (r+1+d) r
 | 0=>by
  have e1:n.mem r r=[]:=by
   unfold Nw.mem
   rw [List.filter_eq_nil_iff]
   intro b hb
   have:=Nw.root_le (n:=n) b
   have:=List.mem_range.1 hb
   simp;omega
  have e2:n.mem1 r r=[]:=by
   unfold Nw.mem1
   rw [List.filter_eq_nil_iff]
   intro b hb
   have:=Nw.root_le (n:=n) b
   have:=List.mem_range.1 hb
   simp;omega
  rw [Nat.add_zero,Nw.mem_succ,Nw.mem1_succ,e1,e2,if_pos h,if_neg (by simp)];rfl
 | d+1=>by
  rw [show r+1+(d+1)=(r+1+d)+1 by omega,Nw.mem_succ,Nw.mem1_succ,Nw.mem_first h d]
  by_cases h':n.root (r+1+d)=r
  ·rw [if_pos h',if_pos ⟨by omega,h'⟩];rfl
  ·rw [if_neg h',if_neg fun h''=>h' h''.2];rfl
theorem Nw.mem_cons {B r:Nat} (h:n.root r=r) (hr:r<B):n.mem B r=r::n.mem1 B r:=by
 have:=Nw.mem_first (n:=n) h (B-(r+1))
 rwa [show r+1+(B-(r+1))=B by omega] at this
end
end Go.Kx
namespace Go.Proofs.YtggegpiffjbngaaGreat
open Go Go.Kx Go.RowKit
end Go.Proofs.YtggegpiffjbngaaGreat
namespace Go.Kx
open Go Go.RowKit
theorem Leave.tt {P:Program} {fn:Func} {N:Nat} {σ:Env} {w W:World} {r:Nat} (hr:fn.results=#[.tmp r]) (hl:look σ r=some (.bool true)) (h:Ext w W):Leave P fn N (fun v w'=>Ext w w'/\Is (.bool true) v w') σ [] W:=.plain [_] hr ⟨hl,trivial⟩ ⟨h,rfl⟩
end Go.Kx
namespace Go.Proofs.YtggegpiffjbngaaGreat
open Go Go.Kx Go.RowKit
end Go.Proofs.YtggegpiffjbngaaGreat
namespace Go.Kx
open Go Go.RowKit
structure Nw.Sim (c:Rat) (n m:Nw):Prop where
 eb:m.B=n.B
 em:m.M=n.M
 eg:∀ k,k<n.M->m.g k*c=n.g k
 ee:∀ k,k<n.M->(m.F k=n.F k/\m.T k=n.T k)\/(m.F k=n.T k/\m.T k=n.F k)
 c0:c≠0
section
variable {n m:Nw} {c:Rat}
theorem Nw.Sim.g0 (h:Nw.Sim c n m) {k:Nat} (hk:k<n.M):m.g k=0<->n.g k=0:=by
 have h1:=h.eg k hk
 constructor
 ·intro h2;rw [h2,Rat.zero_mul] at h1;exact h1.symm
 ·intro h2
  rw [h2] at h1
  rcases Rat.mul_eq_zero.1 h1 with h3 | h3
  ·exact h3
  ·exact absurd h3 h.c0
theorem Nw.Sim.rootTo (h:Nw.Sim c n m):∀ j,j<=n.M->∀ b,m.rootTo j b=n.rootTo j b
 | 0,_,b=>rfl
 | j+1,hj,b=>by
  have ih:=Nw.Sim.rootTo h j (by omega)
  unfold Nw.rootTo
  by_cases hg:n.g j=0
  ·rw [if_pos hg,if_pos ((h.g0 (by omega)).2 hg),ih]
  ·rw [if_neg hg,if_neg fun h'=>hg ((h.g0 (by omega)).1 h')]
   simp only [ih]
   rcases h.ee j (by omega) with ⟨h1,h2⟩ | ⟨h1,h2⟩
   ·rw [h1,h2]
   ·rw [h1,h2,Nat.max_comm,Nat.min_comm]
theorem Nw.Sim.root (h:Nw.Sim c n m) (b:Nat):m.root b=n.root b:=by
 unfold Nw.root
 rw [h.em]
 exact h.rootTo _ (Nat.le_refl _) b
theorem Nw.Sim.fl1 (h:Nw.Sim c n m) {k:Nat} (hk:k<n.M) (h1:m.F k=n.F k) (h2:m.T k=n.T k) (θ:Nat->Rat):m.fl (fun b=>θ b*c) k=n.fl θ k:=by
 unfold Nw.fl
 rw [h1,h2,<-h.eg k hk];grind
theorem Nw.Sim.fl2 (h:Nw.Sim c n m) {k:Nat} (hk:k<n.M) (h1:m.F k=n.T k) (h2:m.T k=n.F k) (θ:Nat->Rat):m.fl (fun b=>θ b*c) k = - n.fl θ k:=by
 unfold Nw.fl
 rw [h1,h2,<-h.eg k hk];grind
theorem Nw.Sim.lap (h:Nw.Sim c n m) (θ:Nat->Rat) (b:Nat):m.lap (fun b=>θ b*c) b=n.lap θ b:=by
 unfold Nw.lap Nw.off
 rw [h.em]
 refine A2 fun k hk=>?_
 rcases h.ee k hk with ⟨h1,h2⟩ | ⟨h1,h2⟩
 ·rw [h.fl1 hk h1 h2]
  unfold Nw.inc
  rw [h1,h2]
 ·rw [h.fl2 hk h1 h2]
  unfold Nw.inc
  rw [h1,h2];grind
end
def lnC (y:LnV):List Value:=[.int .i64 y.f,.int .i64 y.t,.int .i64 y.x,.int .i64 y.c]
def flL (l:List LnV):List Value:=l.flatMap lnC
def mkL (y:LnV):Value:=.agg #[.int .i64 y.f,.int .i64 y.t,.int .i64 y.x,.int .i64 y.c]
def okL (y:LnV):Prop:=inI y.f/\inI y.t/\inI y.x/\inI y.c
theorem At7 {j:Nat} {v:Value} {y y':LnV} (hj:j<4) (hy:(lnC y).set j v=lnC y'):∀ (l:List LnV) (i:Nat),l[i]?=some y->(flL l).set (i*4+j) v=flL (l.set i y')
 | [],i,h=>by simp at h
 | a::l,0,h=>by
  have:a=y:=by simpa using h
  subst this
  show (lnC a++flL l).set (0*4+j) v=lnC y'++flL l
  rw [List.set_append_left _ _ (by show 0*4+j<4;omega),Nat.zero_mul,Nat.zero_add,hy]
 | a::l,i+1,h=>by
  show (lnC a++flL l).set ((i+1)*4+j) v=lnC a++flL (l.set i y')
  rw [List.set_append_right _ _ (by show 4<=(i+1)*4+j;omega),<-At7 hj hy l i (by simpa using h)]
  congr 2
  show (i+1)*4+j-4=i*4+j
  omega
theorem P5:∀ l:List LnV,(flL l).length=l.length*4
 | []=>rfl
 | a::l=>by
  show (lnC a++flL l).length=(l.length+1)*4
  rw [List.length_append,P5 l]
  show 4+_=_
  omega
theorem AG0 (l:List LnV):cellsOf (l.map mkL)=flL l:=by
 unfold cellsOf flL
 rw [List.flatMap_map];rfl
theorem Az9 {l:List LnV} {rest:List Value} {i j:Nat} {v:Value} {y y':LnV} (hj:j<4) (hy:(lnC y).set j v=lnC y') (h:l[i]?=some y):wrt (flL l++rest).toArray (i*4+j) [v]=(flL (l.set i y')++rest).toArray:=by
 have hi:i<l.length:=(List.getElem?_eq_some_iff.1 h).1
 show (flL l++rest).toArray.setIfInBounds (i*4+j) v=_
 rw [List.setIfInBounds_toArray,List.set_append_left _ _ (by rw [P5];omega),At7 hj hy l i h]
section
variable {t:TypeId} {base:Nat} {X:Nat->Prop} {w:World} {v:Value} {l:List LnV}
theorem An0 {es:List Value} {S:Nat->Prop} (he:Els eL S w es l):es=l.map mkL/\∀ y∈l,okL y:=by
 constructor
 ·apply List.ext_getElem?
  intro i
  rw [List.getElem?_map]
  rcases Nat.lt_or_ge i l.length with h | h
  ·rw [List.getElem?_eq_getElem h]
   have h':i<es.length:=by rw [he.1];exact h
   rw [List.getElem?_eq_getElem h']
   exact congrArg some (he.2 i _ _ (List.getElem?_eq_getElem h') (List.getElem?_eq_getElem h)).1
  ·rw [List.getElem?_eq_none h,List.getElem?_eq_none (by rw [he.1];exact h)];rfl
 ·intro y hy
  obtain ⟨i,hi⟩:=List.mem_iff_getElem?.1 hy
  have h:i<l.length:=(List.getElem?_eq_some_iff.1 hi).1
  have h':i<es.length:=by rw [he.1];exact h
  exact (he.2 i _ _ (List.getElem?_eq_getElem h') hi).2
theorem BF8 {S:Nat->Prop} (h:∀ y∈l,okL y):Els eL S w (l.map mkL) l:=by
 refine ⟨List.length_map ..,fun i e x he hx=>?_⟩
 rw [List.getElem?_map,hx] at he
 cases he
 exact ⟨rfl,h x (List.mem_iff_getElem?.2 ⟨i,hx⟩)⟩
theorem OwnL.lines (h:OwnL eL t base X w v l) (hne:0<l.length):∃ g cap rest,v=.slice (some ⟨g,0,none⟩) l.length cap/\base<=g/\Blk w g t (flL l++rest).toArray /\
  ∀ l' w',l'.length=l.length->(∀ y∈l',okL y)->Blk w' g t (flL l'++rest).toArray->OwnL eL t base X w' v l':=by
 obtain ⟨es,h1,he⟩:=h
 obtain ⟨rfl,hok⟩:=An0 he
 rcases h1.2 with ⟨hv,hz⟩ | ⟨g,cap,cur,hv,hb,hg,c1,c2,c3,c4⟩
 ·exfalso;omega
 have hB:Blk w g t (flL l++cur.toList.drop (l.length*4)).toArray:=by
  rw [<-AG0,<-c4]
  show Blk w g t (List.take (l.length*4) cur.toList++_).toArray
  rw [List.take_append_drop];exact hg
 refine ⟨g,cap,cur.toList.drop (l.length*4),hv,hb,hB,fun l' w' hl hok' hB'=>?_⟩
 have hcz:cur.toList.length=(flL l++cur.toList.drop (l.length*4)).length:=by
  rw [<-AG0,<-c4]
  show _=(List.take (l.length*4) cur.toList++_).length
  rw [List.take_append_drop]
 rw [List.length_append,P5] at hcz
 refine ⟨l'.map mkL,⟨?_,.inr ⟨g,cap,_,by rw [hl];exact hv,hb,hB',by rw [hl];exact c1,c2,?_,?_⟩⟩,BF8 hok'⟩
 ·rw [AG0,P5];rfl
 ·rw [<-c3,List.size_toArray,List.length_append,P5,hl,<-hcz,Array.length_toList]
 ·rw [AG0]
  show (flL l'++_).take (l'.length*4)=_
  rw [List.take_append_of_le_length (by rw [P5];exact Nat.le_refl _),List.take_of_length_le (by rw [P5];exact Nat.le_refl _)]
theorem OwnL.reX {base':Nat} {X':Nat->Prop} (h:OwnL eL t base X w v l) (hb:base'<=base):OwnL eL t base' X' w v l:=by
 obtain ⟨es,h1,he⟩:=h
 obtain ⟨rfl,hok⟩:=An0 he
 refine ⟨_,⟨h1.1,?_⟩,BF8 hok⟩
 rcases h1.2 with hn | ⟨g,cap,cur,hv,hb',rest⟩
 ·exact .inl hn
 ·exact .inr ⟨g,cap,cur,hv,Nat.le_trans hb hb',rest⟩
end
section
variable {P:Program} {σ:Env} {w:World} {d:Option Tmp} {ty:TypeId} {pos:String} {af:Array Edge} {g:Option (Nat×Bool)}
end
end Go.Kx
namespace Go.Proofs.YtggegpiffjbngaaGreat
open Go Go.Kx Go.RowKit
theorem AY4 {S:Nat->Prop} {w:World} {vn vl:Value} {n:NtV} {l:List (List Int)} (hn:eN.R S w vn n) (hl:eII.R S w vl l):CR Tryz.prog 15 #[vn,vl] w (Lng (n.ls.length<=100/\∀ r∈l,r.length<=100)):=by
 obtain ⟨s,rfl,hs,_⟩:=hn
 obtain ⟨_,_,_,_,hll⟩:=RL.len hl
 refine enter Tryz.func15 O Tryz.ntmps15 O ?_
 refine .sr (.box O O fun w1 b2 n1=>.an O O (.seq (.sr (.an O O ?_))))
 obtain ⟨e1,k2,_,_⟩:=n1
 have hl:=hl.ext e1
 refine .block (.loop (α:=Nat) (fun i=>[(1,vl),(2,.pointer (some ⟨b2,0,none⟩)),(5,.int .i64 (i:Nat))]) (fun i W=>W=w1/\i<=l.length/\∀ j r,j<i->l[j]?=some r->r.length<=100) (fun i=>l.length-i) 0 ?_ ?_ ?_)
 ·exact lkA rfl
 ·exact ⟨rfl,Nat.zero_le _,fun j r hj=>absurd hj (Nat.not_lt_zero _)⟩
 rintro i W ⟨rfl,hi,hlr⟩
 refine .seq (.sr (.mv O O (.mv O O (.lenR un_II O O hl ?_))))
 rcases Nat.lt_or_ge i l.length with hlt | hge
 rotate_left
 ·refine .lssF O O O (by omega) (.nil (.condF O (.exit (.sr (.fa F2 O O (.ld I4 O O k2 O (.lenR H7 O O (hs.ext e1) ?_)))))))
  by_cases h:100<n.ls.length
  ·refine .gtrT O O O (by omega) (.an O O (.ret ?_))
   exact .plain [_] Tryz.results15 ⟨rfl,trivial⟩ ⟨e1,_,rfl,fun h=>by cases h⟩
  ·refine .gtrF O O O (by omega) (.an O O (.ret ?_))
   exact .plain [_] Tryz.results15 ⟨rfl,trivial⟩ ⟨e1,_,rfl,fun _=>⟨by omega,fun r hr=>by
    obtain ⟨j,hj⟩:=List.mem_iff_getElem?.1 hr
    exact hlr j r (by have:=AU5 hj;omega) hj⟩⟩
 refine .lssT O O O (by omega) (.nil (.condT O (.skip (.seq (.block (.sr (.mv O O (.mv O O (.ixN (i:=i) un_II ty_I O O hl O (List.getElem?_eq_getElem hlt) fun q hq=>.ldE (E:=eI) ty_I O O hq fun v hv=>.lenR un_I O O hv ?_)))))))))
 by_cases h:100<l[i].length
 ·refine .gtrT O O O (by omega) (.nil (.condT O (.sr (.an O O (.ret ?_)))))
  exact .plain [_] Tryz.results15 ⟨rfl,trivial⟩ ⟨e1,_,rfl,fun h=>by cases h⟩
 ·refine .gtrF O O O (by omega) (.nil (.condF O (.skip (.region (.mv O O (.add O O O (.an O O ?_)))))))
  rw [wI (by omega)]
  exact ⟨rfl,i+1,lkA rfl,⟨rfl,hlt,fun j r hj hr=>by
   by_cases e:j=i
   ·subst e
    rw [List.getElem?_eq_getElem hlt] at hr
    cases hr
    omega
   ·exact hlr j r (by omega) hr⟩,by show l.length-(i+1)<l.length-i;omega⟩
theorem AY3 {w:World} {vn vo v:Value} {n:NtV} {o:List Int} {l:List (List QV)} (hn:eN.R (fun _=>True) w vn n) (ho:eI.R (fun _=>True) w vo o) (h:eM.R (fun _=>True) w v l):CR Tryz.prog 24 #[vn,vo,v] w (Lng (n.ls.length<=100/\o.length<=100/\∀ r∈l,okV17 r)):=by
 obtain ⟨s,rfl,hs,hb⟩:=hn
 have hn:eN.R (fun _=>True) w (.agg #[.int .i64 n.b,s]) n:=⟨s,rfl,hs,hb⟩
 obtain ⟨ao,co,hvo,_⟩:=RL.len ho
 obtain ⟨_,_,_,_,hl⟩:=RL.len h
 refine enter Tryz.func24 O Tryz.ntmps24 O (.beg (.go O (.box O O fun w1 b3 n1=>?_)))
 obtain ⟨e1,k3,hb3,hs1⟩:=n1
 have h:=ER.ext eM h e1
 have htrue:∀ {σ:Env},Kx.look σ 6=some (.bool true)->Leave Tryz.prog Tryz.f24 58 (fun v w'=>Ext w w'/\Lng (n.ls.length<=100/\o.length<=100/\∀ r∈l,okV17 r) v w') σ [] w1:=by
  intro σ hl
  exact .plain [_] Tryz.results24 ⟨hl,trivial⟩ ⟨e1,true,rfl,fun h=>by cases h⟩
 refine .goC O (.lp (α:=Nat) [1,2,3] O (fun i=>[(7,.int .i64 (i:Nat))]) (fun i W=>W=w1/\i<=l.length/\∀ j r,j<i->l[j]?=some r->okV17 r) (fun i=>l.length-i) 0 (lc1 O) ⟨rfl,Nat.zero_le _,fun j r hj=>absurd hj (Nat.not_lt_zero _)⟩ ?_)
 rintro i W ⟨rfl,hi,hall⟩
 refine .go O (.lenR un_M O O h ?_)
 rcases Nat.lt_or_ge i l.length with hlt | hge
 rotate_left
 ·refine .lssF O O O (by omega) (.go O (.ldA ty_N O O k3 O (.go O (.bsl _ O O (by rw [hvo];exact bsl_IIo) fun w2 b5 n2=>?_))))
  have hll:eII.R (fun _=>True) w2 (.slice (some ⟨b5,0,none⟩) 1 1) [o]:=BG1 [vo] [o] n2 upT (by rw [hvo]) O (by decide) (Els.snoc Els.nil (ho.ext e1))
  refine .call _ O Af6 O (AY4 (hn.ext (e1.trans n2.1)) hll) fun v3 w3 e3 h3=>.goE O ?_
  obtain ⟨bl,rfl,hbl⟩:=h3
  refine .plain [_] Tryz.results24 ⟨rfl,trivial⟩ ⟨(e1.trans n2.1).trans e3,bl,rfl,fun hf=>⟨(hbl hf).1,(hbl hf).2 o (by simp),fun r hr=>?_⟩⟩
  obtain ⟨j,hj⟩:=List.mem_iff_getElem?.1 hr
  exact hall j r (by have:=AU5 hj;omega) hj
 have hyy:=List.getElem?_eq_getElem hlt
 generalize l[i]=r at hyy
 refine .lssT O O O (by omega) (.go O (.ixN (i:=i) un_M ty_V O O h O hyy fun p hp=>.ldE ty_V O O hp fun e he=>.lenR un_V O O he ?_))
 by_cases hr:r.length<=20
 rotate_left
 ·exact .gtrT O O O (by omega) (.goE O (htrue O))
 refine .gtrF O O O (by omega) (.goC O (.lp (α:=Nat) [1,2,3,7] O (fun k=>[(8,.int .i64 (k:Nat))]) (fun k W'=>W'=W/\k<=r.length/\∀ j q,j<k->r[j]?=some q->qok 4 q) (fun k=>r.length-k) 0 (lc1 O) ⟨rfl,Nat.zero_le _,fun j r hj=>absurd hj (Nat.not_lt_zero _)⟩ ?_))
 rintro k W' ⟨rfl,hk,hallk⟩
 refine .go O (.ixN (i:=i) un_M ty_V O O h O hyy fun p2 hp2=>.ldE ty_V O O hp2 fun e2 he2=>.lenR un_V O O he2 ?_)
 rcases Nat.lt_or_ge k r.length with hkl | hge
 rotate_left
 ·refine .lssF O O O (by omega) (.go O (.inc O O O (by omega) (.goN O (.mk (i+1) O (lc1 O) ⟨⟨rfl,hlt,fun j r' hj hr'=>?_⟩,by show l.length-(i+1)<l.length-i;omega⟩))))
  by_cases e:j=i
  ·subst e
   rw [hyy] at hr'
   cases hr'
   refine ⟨hr,fun q hq=>?_⟩
   obtain ⟨j',hj'⟩:=List.mem_iff_getElem?.1 hq
   exact hallk j' q (by have:=AU5 hj';omega) hj'
  ·exact hall j r' (by omega) hr'
 have hqq:=List.getElem?_eq_getElem hkl
 generalize r[k]=q at hqq
 refine .lssT O O O (by omega) (.go O (.ixN (i:=i) un_M ty_V O O h O hyy fun p3 hp3=>.ldE ty_V O O hp3 fun e3 he3=>.go O (.ixN (i:=k) un_V ty_Q O O he3 O hqq fun p4 hp4=>.faP U8 O O (.faP G9 O O (.ldE (E:=eW) ty_W O O hp4.qn.zw fun e4 he4=>.lenR un_W O O he4 ?_)))))
 by_cases hn4:q.num.w.length<=4
 rotate_left
 ·exact .gtrT O O O (by omega) (.goE O (htrue O))
 refine .gtrF O O O (by omega) (.go O (.ixN (i:=i) un_M ty_V O O h O hyy fun p5 hp5=>.go O (.ldE ty_V O O hp5 fun e5 he5=>.go O (.ixN (i:=k) un_V ty_Q O O he5 O hqq fun p6 hp6=>.go O (.faP AA2 O O (.go O (.faP G9 O O (.go O (.ldE (E:=eW) ty_W O O hp6.qd.zw fun e6 he6=>.go O (.lenR un_W O O he6 (.go O ?_)))))))))))
 by_cases hd4:q.den.w.length<=4
 rotate_left
 ·exact .gtrT O O O (by omega) (.goE O (htrue O))
 refine .gtrF O O O (by omega) (.go O (.inc O O O (by omega) (.goN O (.mk (k+1) O (lc1 O) ⟨⟨rfl,hkl,fun j q' hj hq'=>?_⟩,by show r.length-(k+1)<r.length-k;omega⟩))))
 by_cases e:j=k
 ·subst e;rw [hqq] at hq';cases hq';exact ⟨hn4,hd4⟩
 ·exact hallk j q' (by omega) hq'
end Go.Proofs.YtggegpiffjbngaaGreat
namespace Go.Kx
open Go Go.RowKit
section
variable {P:Program} {σ:Env} {w:World} {d:Option Tmp} {ty:TypeId} {pos:String} {af:Array Edge} {g:Option (Nat×Bool)}
theorem BA6 {t e:TypeId} {x ix:Operand} {k:IntKind} {i:Nat} {b:Bool} {sz n c:Nat} {ad:Addr} (ht:P.underlying t=some (.slice e)) (he:tyOf P e=some (b,sz)) (hx:ev σ x=some (.slice (some ad) n c))
  (hi:ev σ ix=some (.int k (i:Int))) (hlt:i<n):Vl P ⟨d,.indexAddr t x ix,ty,pos,af,g⟩ σ w (.pointer (some (ad.add (i*sz)))):=by
 refine ⟨(by intro _ h;cases h),fun ρ hρ=>?_⟩
 have h1:=hρ x _ (by simp [Op.operands]) hx
 have h2:=hρ ix _ (by simp [Op.operands]) hi
 have hlt':(i:Int)<(n:Int):=by omega
 simp [execOp,h1,h2,Instr.indexAt,asIntOf,run_underlying ht,(F1 he w).2]
 intro hh;omega
end
theorem PtrTo.v_ldI {P:Program} {σ:Env} {w:World} {d:Option Tmp} {ty:TypeId} {pos:String} {af:Array Edge} {g:Option (Nat×Bool)} {t:TypeId} {x:Operand} {p:Addr} {y:Int} {S:Nat->Prop} (ht:tyOf P t=some (false,1)) (hx:ev σ x=some (.pointer (some p))) (hp:PtrTo (eInt .i64) S w p y):Vl P ⟨d,.load t x,ty,pos,af,g⟩ σ w (.int .i64 y):=by
 obtain ⟨e,he,_,hc⟩:=hp
 have:e=.int .i64 y:=he.1
 subst this
 exact X6 (E:=eInt .i64) (S:=S) ht hx hc he
def rvL (l:LnV):LnV:=⟨l.t,l.f,l.x,l.c⟩
def rvN (n:NtV) (k:Nat):NtV:=⟨n.b,n.ls.set k (rvL (n.ls.getD k ln0))⟩
theorem BG7 {n:NtV} (h:chkE n=0):n.ls.length<=10/\chkOk n:=by
 unfold chkE at h
 by_cases h1:n.b<1\/6<n.b
 ·rw [if_pos h1] at h;cases h
 rw [if_neg h1] at h
 by_cases h2:10<n.ls.length
 ·rw [if_pos h2] at h;cases h
 rw [if_neg h2] at h
 by_cases h3:chkOk n
 ·exact ⟨by omega,h3⟩
 ·rw [if_neg h3] at h;cases h
theorem Ar3 {n:NtV} {k:Nat} (h:chkE n=0) (hk:k<n.ls.length):chkE (rvN n k)=0:=by
 have hc:=(BG7 h).2
 unfold chkE at h ⊢
 have hl:(rvN n k).ls.length=n.ls.length:=List.length_set
 rw [hl]
 show (if n.b<1\/6<n.b then (1:Int) else _)=0
 by_cases h1:n.b<1\/6<n.b
 ·rw [if_pos h1] at h;cases h
 rw [if_neg h1] at h ⊢
 by_cases h2:10<n.ls.length
 ·rw [if_pos h2] at h;cases h
 rw [if_neg h2,if_pos]
 intro i hi l hl'
 replace hl':(n.ls.set k (rvL (n.ls.getD k ln0)))[i]?=some l:=hl'
 by_cases e:k=i
 ·subst e
  rw [List.getElem?_set_self hk] at hl'
  cases hl'
  have h3:=hc k hk _ (Go.Proofs.YtggegpiffjbngaaGreat.A7 (z:=ln0) hk)
  generalize n.ls.getD k ln0=y at h3
  intro i hi
  match i with
  | 0=>exact h3 1 (by decide)
  | 1=>exact h3 0 (by decide)
  | 2 =>
   have:=h3 2 (by decide)
   simp [ck] at this
   simp [ck,rvL]
   exact fun h=>this h.symm
  | 3=>exact h3 3 (by decide)
  | 4=>exact h3 4 (by decide)
 ·rw [List.getElem?_set_ne e] at hl'
  exact hc i (List.getElem?_eq_some_iff.1 hl').1 l hl'
theorem AK2 {n:NtV} {j:Nat} (hj:j<n.ls.length) (k:Nat):(rvN n j).ls.getD k ln0=if k=j then rvL (n.ls.getD j ln0) else n.ls.getD k ln0:=by
 show (n.ls.set j _).getD k ln0=_
 by_cases e:k=j
 ·subst e
  rw [if_pos rfl,List.getD_eq_getElem?_getD,List.getElem?_set_self hj];rfl
 ·rw [if_neg e,List.getD_eq_getElem?_getD,List.getElem?_set_ne (fun h=>e h.symm),<-List.getD_eq_getElem?_getD]
theorem Ar2 {n:NtV} {o:List Int} {j:Nat} (hj:j<n.ls.length):Nw.Sim 1 (nwOf n o) (nwOf (rvN n j) o) where
 eb:=rfl
 em:=List.length_set
 c0:=by decide
 eg:=fun k _=>by
  show (if k∈oN o then 0 else ((((rvN n j).ls.getD k ln0).x:Int):Rat)⁻¹)*1=if k∈oN o then 0 else (((n.ls.getD k ln0).x:Int):Rat)⁻¹
  rw [AK2 hj,Rat.mul_one]
  by_cases e:k=j
  ·subst e;rw [if_pos rfl];rfl
  ·rw [if_neg e]
 ee:=fun k _=>by
  show (((rvN n j).ls.getD k ln0).f.toNat=(n.ls.getD k ln0).f.toNat/\((rvN n j).ls.getD k ln0).t.toNat=(n.ls.getD k ln0).t.toNat)\/(((rvN n j).ls.getD k ln0).f.toNat=(n.ls.getD k ln0).t.toNat/\((rvN n j).ls.getD k ln0).t.toNat=(n.ls.getD k ln0).f.toNat)
  rw [AK2 hj]
  by_cases e:k=j
  ·subst e;rw [if_pos rfl];exact .inr ⟨rfl,rfl⟩
  ·rw [if_neg e];exact .inl ⟨rfl,rfl⟩
theorem rvN_set (n:NtV) (k:Nat) {y:LnV} (h:n.ls[k]?=some y):(n.ls.set k ⟨y.t,y.t,y.x,y.c⟩).set k ⟨y.t,y.f,y.x,y.c⟩=(rvN n k).ls:=by
 show _=n.ls.set k (rvL (n.ls.getD k ln0))
 rw [List.set_set,List.getD_eq_getElem?_getD,h];rfl
end Go.Kx
namespace Go.Proofs.YtggegpiffjbngaaGreat
open Go Go.Kx Go.RowKit
theorem BE8:infoOf Tryz.prog 58=some (.agg #[.int .i64 0,.int .i64 0,.int .i64 0,.int .i64 0],4,32):=by kernel_rfl
theorem bsl_Ls0:bslOf Tryz.prog 22 0 []=some (58,#[]):=by kernel_rfl
end Go.Proofs.YtggegpiffjbngaaGreat
namespace Go.Kx
open Go Go.RowKit
section
variable {P:Program} {σ:Env} {w:World} {d:Option Tmp} {ty:TypeId} {pos:String} {af:Array Edge} {g:Option (Nat×Bool)}
theorem g_appE {α:Type} {E:ER α} {tt t:TypeId} {x y:Operand} {z u:Value} {by_:Nat} {b:Addr} {s:List α} {S:Nat->Prop} {hsz:0<E.sz} (ht:P.underlying tt=some (.slice t)) (hi:infoOf P t=some (z,E.sz,by_)) (hzs:z.cells.size=E.sz) (hx:ev σ x=some (.slice (some b) 0 0)) (hy:ev σ y=some u)
  (hs:(RL E hsz).R S w u s) (hne:0<s.length) (hl:s.length<=1000000) (hby:by_<=100) :
  Gv P ⟨d,.call { callee:=.builtin .append,args:=#[x,y],argTypes:=#[tt,tt] },ty,pos,af,g⟩ σ w fun v' w'=>OwnL E t w.heap.size (fun k=>S k/\k<w.heap.size) w' v' s/\Ext w w':=by
 have hs:=ER.lt (RL E hsz) hs
 obtain ⟨es,he,a,c,rfl,hc,_,hcl,hcells⟩:=hs
 obtain ⟨ad,rfl,_,hcs⟩:=hcells hne
 obtain ⟨i,hi0,hi1,hi2,hi3⟩:=J9 hi
 have hbytes:(0+s.length)*i.bytes<=140737488355328:=by
  have:(0+s.length)*i.bytes<=2000000*100:=Nat.mul_le_mul (by omega) (by omega)
  omega
 refine ⟨(by intro _ h;cases h),fun ρ hρ=>.inl ?_⟩
 have e1:=hρ x _ (by simp [Op.operands,Call.operands]) hx
 have e2:=hρ y _ (by simp [Op.operands,Call.operands]) hy
 obtain ⟨v',w',hr,h2,h3⟩:=run_append_arg_grows (P:=P) w tt ty t i z E.sz i.bytes ht hi0 hi1 hi2 rfl hzs hsz b 0 0 [] (by simp) (fun j u h=>by simp at h) ad s.length c (cellsOf es) hcl (fun j u hu=>(hcs j u hu).1) (by omega) (by simp [maxLen];omega) hbytes
 have hb:Ext w w':=OwnL.below (E:=E) (t:=t) (base:=w.heap.size) (X:=fun _=>False) (l:=([]:List α)) (v:=.slice none 0 0) OwnL.nil h3 (Below.refl _ _) (Nat.le_refl _)
 refine ⟨v',w',by simp [execOp,resolve,invoke,builtin,e1,e2,hr],⟨es,?_,he.1,fun j e y h4 h5=>?_⟩,hb⟩
 ·rw [Nat.zero_add,List.nil_append] at h2;exact h2
 ·exact E.mono (fun k hk h=>⟨h,fun e=>by have:=(h2.lt k e).1;have:=h.2;omega⟩) (E.keep (Kp.ext hb) (he.2 j e y h4 h5))
end
section
variable {n m:Nw} {k l:Nat}
theorem Nw.Sim.cut {c:Rat} (h:Nw.Sim c n m) (k:Nat):Nw.Sim c (n.cut k) (m.cut k) where
 eb:=h.eb
 em:=h.em
 eg:=fun j hj=>by
  show (if j=k then (0:Rat) else m.g j)*c=if j=k then (0:Rat) else n.g j
  split
  ·exact Rat.zero_mul _
  ·exact h.eg j hj
 ee:=h.ee
 c0:=h.c0
theorem Nw.Sim.sm (h:Nw.Sim 1 n m) (hl:l<n.M) (h1:m.F l=n.F l) (h2:m.T l=n.T l) (θ:Nat->Rat):m.fl θ l=n.fl θ l:=by
 have:=h.fl1 hl h1 h2 θ
 simp only [Rat.mul_one] at this
 exact this
theorem Nw.Sim.sw (h:Nw.Sim 1 n m) (hl:l<n.M) (h1:m.F l=n.T l) (h2:m.T l=n.F l) (θ:Nat->Rat):m.fl θ l = - n.fl θ l:=by
 have:=h.fl2 hl h1 h2 θ
 simp only [Rat.mul_one] at this
 exact this
theorem Nw.Sim.lap1 (h:Nw.Sim 1 n m) (θ:Nat->Rat) (b:Nat):m.lap θ b=n.lap θ b:=by
 have:=h.lap θ b
 simp only [Rat.mul_one] at this
 exact this
theorem Nw.Sim.ltr (h:Nw.Sim 1 n m) (okm:m.Ok) (hk:k<n.M) (hg:n.g k≠0) {i:Nat} (hi:i<n.B):n.lap (m.tr k) i=m.inc k i:=by
 rw [<-h.lap1]
 have hk':k<m.M:=by rw [h.em];exact hk
 exact Nw.lap_tr okm hk' (Nw.root_line hk' fun e=>hg ((h.g0 hk).1 e)) (by rw [h.eb];exact hi)
theorem Nw.Sim.tr1 (h:Nw.Sim 1 n m) (okn:n.Ok) (okm:m.Ok) (hk:k<n.M) (hg:n.g k≠0) (h1:m.F k=n.F k) (h2:m.T k=n.T k) (hl:l<n.M):n.fl (m.tr k) l=n.bt k l:=by
 rw [Nw.bt_fl]
 refine Nw.lap_fl okn (fun i hi=>?_) hl
 rw [h.ltr okm hk hg hi,Nw.lap_tr okn hk (Nw.root_line hk hg) hi]
 unfold Nw.inc
 rw [h1,h2]
theorem Nw.Sim.tr2 (h:Nw.Sim 1 n m) (okn:n.Ok) (okm:m.Ok) (hk:k<n.M) (hg:n.g k≠0) (h1:m.F k=n.T k) (h2:m.T k=n.F k) (hl:l<n.M):n.fl (m.tr k) l = - n.bt k l:=by
 have e:n.fl (fun b=>n.tr k b*(-1)) l = - n.bt k l:=by
  rw [Nw.bt_fl];unfold Nw.fl;grind
 rw [<-e]
 refine Nw.lap_fl okn (fun i hi=>?_) hl
 rw [h.ltr okm hk hg hi,Nw.lap_smul,Nw.lap_tr okn hk (Nw.root_line hk hg) hi]
 unfold Nw.inc
 rw [h1,h2]
 grind
theorem Nw.Sim.brg (h:Nw.Sim 1 n m) (he:(m.F k=n.F k/\m.T k=n.T k)\/(m.F k=n.T k/\m.T k=n.F k)):m.brg k<->n.brg k:=by
 unfold Nw.brg
 rw [(h.cut k).root,(h.cut k).root]
 rcases he with ⟨h1,h2⟩ | ⟨h1,h2⟩
 ·rw [h1,h2]
 ·rw [h1,h2];exact ne_comm
theorem Nw.Sim.lo (h:Nw.Sim 1 n m) (okn:n.Ok) (okm:m.Ok) (hk:k<n.M) (hg:n.g k≠0) (hl:l<n.M) {j:Nat}
  (hF:∀ i,m.F i=if i=j then n.T i else n.F i) (hT:∀ i,m.T i=if i=j then n.F i else n.T i) :
  m.lo k l=if (l=j/\l≠k)\/(l≠j/\j=k) then-n.lo k l else n.lo k l:=by
 have hr:m.rst k=n.rst k:=by
  unfold Nw.rst
  rw [Nw.bt_fl (n:=m)]
  by_cases e:k=j
  ·have h1:=hF k
   have h2:=hT k
   rw [if_pos e] at h1 h2
   rw [h.sw hk h1 h2,h.tr2 okn okm hk hg h1 h2 hk,Rat.neg_neg]
  ·have h1:=hF k
   have h2:=hT k
   rw [if_neg e] at h1 h2
   rw [h.sm hk h1 h2,h.tr1 okn okm hk hg h1 h2 hk]
 show (if l=k then (-1:Rat) else m.bt k l / m.rst k)=if (l=j/\l≠k)\/(l≠j/\j=k) then-(if l=k then (-1:Rat) else n.bt k l / n.rst k) else (if l=k then (-1:Rat) else n.bt k l / n.rst k)
 by_cases hlk:l=k
 ·subst hlk
  rw [if_pos rfl,if_pos rfl,if_neg fun h=>h.elim (fun h=>h.2 O) fun h=>h.1 h.2.symm]
 simp only [if_neg hlk]
 rw [hr,Nw.bt_fl (n:=m)]
 have h1:=hF k
 have h2:=hT k
 have h3:=hF l
 have h4:=hT l
 by_cases e:k=j
 ·have el:l≠j:=fun e'=>hlk (e'.trans e.symm)
  rw [if_pos e] at h1 h2
  rw [if_neg el] at h3 h4
  rw [h.sm hl h3 h4,h.tr2 okn okm hk hg h1 h2 hl,if_pos (.inr ⟨el,e.symm⟩),Rat.div_def,Rat.div_def,Rat.neg_mul]
 ·rw [if_neg e] at h1 h2
  by_cases el:l=j
  ·rw [if_pos el] at h3 h4
   rw [h.sw hl h3 h4,h.tr1 okn okm hk hg h1 h2 hl,if_pos (.inl ⟨el,hlk⟩),Rat.div_def,Rat.div_def,Rat.neg_mul]
  ·rw [if_neg el] at h3 h4
   rw [h.sm hl h3 h4,h.tr1 okn okm hk hg h1 h2 hl,if_neg fun h=>h.elim (fun h=>el h.1) fun h=>e h.2.symm]
end
section
variable {n:NtV} {o:List Int} {j:Nat} (hj:j<n.ls.length)
include hj
theorem BC1:rvN (rvN n j) j=n:=by
 show (⟨n.b,(rvN n j).ls.set j (rvL ((rvN n j).ls.getD j ln0))⟩:NtV)=n
 rw [AK2 hj,if_pos rfl]
 show (⟨n.b,(n.ls.set j _).set j (n.ls.getD j ln0)⟩:NtV)=n
 rw [List.set_set,List.getD_eq_getElem?_getD,List.getElem?_eq_getElem hj]
 show (⟨n.b,n.ls.set j n.ls[j]⟩:NtV)=n
 rw [List.set_getElem_self]
omit hj in
theorem AS3:(rvN n j).ls.length=n.ls.length:=List.length_set
open Classical in
theorem BC0:chkE (rvN n j)=chkE n:=by
 by_cases h:chkE n=0
 ·rw [h,Ar3 h hj]
 ·have h2:chkE (rvN n j)≠0:=fun e=>h (by rw [<-BC1 hj];exact Ar3 e (by rw [AS3];exact hj))
  unfold chkE at h h2 ⊢
  rw [AS3] at h2 ⊢
  replace h2:(if n.b<1\/6<n.b then (1:Int) else if 10<n.ls.length then 5 else if chkOk (rvN n j) then 0 else 1)≠0:=h2
  show (if n.b<1\/6<n.b then (1:Int) else if 10<n.ls.length then 5 else if chkOk (rvN n j) then 0 else 1)=_
  split
  ·rfl
  rename_i h3
  rw [if_neg h3] at h h2
  split
  ·rfl
  rename_i h4
  rw [if_neg h4] at h h2
  split at h
  ·exact absurd O h
  split at h2
  ·exact absurd O h2
  rename_i h5 h6
  rw [if_neg h5,if_neg h6]
theorem Ah9:outE (rvN n j) o=outE n o:=by
 unfold outE outsOk
 rw [BC0 hj,AS3]
theorem rvN_F (i:Nat):(nwOf (rvN n j) o).F i=if i=j then (nwOf n o).T i else (nwOf n o).F i:=by
 show ((rvN n j).ls.getD i ln0).f.toNat=_
 rw [AK2 hj]
 by_cases e:i=j
 ·subst e;rw [if_pos rfl,if_pos rfl];rfl
 ·rw [if_neg e,if_neg e];rfl
theorem rvN_T (i:Nat):(nwOf (rvN n j) o).T i=if i=j then (nwOf n o).F i else (nwOf n o).T i:=by
 show ((rvN n j).ls.getD i ln0).t.toNat=_
 rw [AK2 hj]
 by_cases e:i=j
 ·subst e;rw [if_pos rfl,if_pos rfl];rfl
 ·rw [if_neg e,if_neg e];rfl
end
end Go.Kx
namespace Go.Proofs.YtggegpiffjbngaaGreat
open Go Go.Kx Go.RowKit
section
variable {n:NtV} {o:List Int} {j:Nat} (hj:j<n.ls.length)
include hj
theorem rvN_lkE (line:Int):lkE (rvN n j) o line=lkE n o line:=by
 have hb:∀ i,(nwOf (rvN n j) o).brg i<->(nwOf n o).brg i:=fun i=>(Ar2 hj).brg (by
  have h1:=rvN_F (o:=o) hj i
  have h2:=rvN_T (o:=o) hj i
  by_cases e:i=j
  ·rw [if_pos e] at h1 h2;exact .inr ⟨h1,h2⟩
  ·rw [if_neg e] at h1 h2;exact .inl ⟨h1,h2⟩)
 unfold lkE inL
 rw [Ah9 hj,AS3]
 simp only [hb]
theorem rvN_lo (h1:(nwOf n o).Ok) (h2:(nwOf (rvN n j) o).Ok) {k l:Nat} (hk:k<n.ls.length) (hg:(nwOf n o).g k≠0) (hl:l<n.ls.length) :
  (nwOf (rvN n j) o).lo k l=if (l=j/\l≠k)\/(l≠j/\j=k) then-(nwOf n o).lo k l else (nwOf n o).lo k l :=
 (Ar2 hj).lo h1 h2 hk hg hl (rvN_F hj) (rvN_T hj)
end
theorem bsl_V0r:bslOf Tryz.prog 32 0 []=some (54,#[]):=by kernel_rfl
def rvW (j:Nat) (line:Int) (f:Nat->Rat) (c:Nat):Rat:=if (c=j/\(c:Int)≠line)\/(c≠j/\(j:Int)=line) then-f c else f c
set_option maxRecDepth 8000 in
theorem AG2 {w:World} {vn vo:Value} {n:NtV} {o:List Int} {line:Int} {y:Int} (hn:eN.R (fun _=>True) w vn n) (ho:eI.R (fun _=>True) w vo o) (hy0:IntKind.u8.min<=y) (hy1:y<=IntKind.u8.max):CR Tryz.prog 11 #[vn,vo,.int .i64 line,.int .u8 y] w (Is (.bool true)):=by
 obtain ⟨s,rfl,hs,hb⟩:=hn
 have hn:eN.R (fun _=>True) w (.agg #[.int .i64 n.b,s]) n:=⟨s,rfl,hs,hb⟩
 refine enter Tryz.func11 O Tryz.ntmps11 O (.beg (.go O (.box O O fun w1 b3 n1=>?_)))
 obtain ⟨e1,k3,hb3,hs1⟩:=n1
 replace k3:Blk w1 b3 24 #[.int .i64 n.b,s]:=k3
 refine .go O (.ldA ty_N O O k3 O (.go O (.bsl _ O O Ao4 fun w2 b17 n2=>?_)))
 have hl:eM.R (fun _=>True) w2 (.slice (some ⟨b17,0,none⟩) 1 1) [[]]:=BG1 [.slice none 0 0] [[]] n2 upT O O (by decide) (Els.snoc Els.nil RL.nil)
 have x2:=e1.trans n2.1
 refine .call _ O Af5 O (AY3 (hn.ext x2) (ho.ext x2) hl) fun v3 w3 e3 h3=>?_
 obtain ⟨bl,rfl,hlong⟩:=h3
 have x3:=x2.trans e3
 have k3:=k3.ext (n2.1.trans e3)
 clear hl
 cases bl with
 | true =>
  refine .go O (.call _ O V5 O U5 fun v4 w4 e4 h4=>?_)
  subst h4
  exact .goE O (.plain [_] Tryz.results11 ⟨rfl,trivial⟩ ⟨x3.trans e4,rfl⟩)
 | false =>
 refine .go O (.fa F2 O O (.go O (.ld I4 O O k3 O (.go O (.lenR H7 O O (hs.ext x3) (.go O ?_))))))
 by_cases hM0:n.ls.length=0
 ·refine .eqlT O O O (by omega) (.go O (.call _ O V5 O U5 fun v4 w4 e4 h4=>?_))
  subst h4
  exact .goE O (.plain [_] Tryz.results11 ⟨rfl,trivial⟩ ⟨x3.trans e4,rfl⟩)
 refine .eqlF O O O (by omega) (.go O (.call _ O V5 O U5 fun v4 w4 e4 h4=>?_))
 subst h4
 have x4:=x3.trans e4
 have k3:=k3.ext e4
 have hM100:=(hlong O).1
 have y0:0<=y:=hy0
 have y1:y<=255:=hy1
 obtain ⟨j,hjj⟩:∃ j:Nat,y.tmod (n.ls.length:Nat)=j:=⟨(y.tmod (n.ls.length:Nat)).toNat,by have:=Int.tmod_nonneg (n.ls.length:Int) y0;omega⟩
 have hj:j<n.ls.length:=by have:=Int.tmod_lt_of_pos y (show (0:Int)<n.ls.length by omega);omega
 have hs4:=hs.ext x4
 refine .go O (.cvt AG5 O8 O O ?_)
 rw [wI (n:=y) (by omega)]
 refine .go O (.fa F2 O O (.go O (.ld I4 O O k3 O (.go O (.lenR H7 O O hs4 (.go O (.rem O O O (by omega) ?_)))))))
 rw [hjj]
 refine .goC O ?_
 refine .par follows 8 [.inl (.pointer (some ⟨b3,0,none⟩)),.inl (.int .i64 n.b),.inr (NewR w4.heap.size 58 0 #[]),.inl (.pointer (some ⟨b3,0+1,none⟩)),.inl s,.inr (fun v w=>OwnL eL 58 w4.heap.size (fun _=>False) w v n.ls),.inr (fun v w=>∃ u,v=.agg #[.int .i64 n.b,u]/\OwnL eL 58 w4.heap.size (fun _=>False) w u n.ls),.inr (NewP w4.heap.size 24 #[.int .i64 0,.slice none 0 0])] [[],[(38,0)],[],[],[(41,3)],[(40,2),(42,4)],[(39,1),(43,5)],[]] (by kernel_rfl) ⟨
  fun w e=>(v_fa H0 O).ob,
  fun w e=>(v_ld A8 O (k3.ext e) O).ob,
  fun w e=>BD4 [] O bsl_Ls0 e.size,
  fun w e=>(v_fa F2 O).ob,
  fun w e=>(v_ld I4 O (k3.ext e) O).ob,
  fun w e x2 hx2=>by
  obtain ⟨bb,hv4,_⟩:=hx2
  exact (g_appE (E:=eL) (S:=fun _=>True) H7 BE8 O (by show some _=_;rw [hv4]) O (hs4.ext e) (by omega) (by omega) (by decide)).mono fun v2 w2 h2=>⟨h2.2,fun w3 e3=>OwnL.reX (h2.1.ext e3) e.size⟩,
  fun w e x5 hx5=>by
  obtain ⟨a4,c4,hv4⟩:=hx5.slice
  exact J0 (Aq5 _ rfl (by rw [hv4];exact BH2)) ⟨x5,by rw [hv4],hx5⟩ (fun _ _ _ e h=>by obtain ⟨u,h1,h2⟩:=h;exact ⟨u,h1,h2.ext e⟩),
  fun w e=>M3 Al6 e.size,trivial⟩ ?_
 rintro w5 e5 z2 hz2 z5 hz5 z6 hz6 z7 hz7
 obtain ⟨b7,rfl,hb7,k7⟩:=hz7
 obtain ⟨u,rfl,hu⟩:=hz6
 obtain ⟨au,cu,hus⟩:=hu.slice
 have k7o:=k7
 refine .store ty_N rfl rfl k7 O (by decide) (fun z hz=>by rw [hus] at hz;simp [Value.cells] at hz;rcases hz with rfl | rfl<;>rfl) fun w6 k7' u6=>?_
 have k7:Blk w6 b7 24 #[.int .i64 n.b,u]:=k7'
 have hu:OwnL eL 58 w4.heap.size (fun _=>False) w6 u n.ls:=hu.upd u6 k7o (by decide) (fun h=>h)
 have hB6:Ext w4 w6:=u6.below e5 hb7
 have z4:=x4.size
 have z3:=k3.lt
 have k3:=k3.ext hB6
 have hgl:n.ls[j]?=some (n.ls.getD j ln0):=A7 hj
 generalize hyy:n.ls.getD j ln0=y' at hgl
 obtain ⟨ad,cs,rfl,_,hp⟩:=RL.at_ hs hgl
 obtain ⟨g,cap,rest,rfl,hbg,hB,put⟩:=hu.lines (by omega)
 have hokl:∀ z∈n.ls,okL z:=by
  obtain ⟨es,_,he⟩:=hu
  exact (An0 he).2
 have hoky:=hokl y' (List.mem_iff_getElem?.2 ⟨j,hgl⟩)
 have hgb:g≠b7:=fun h=>by
  subst h
  have h1:w6.heap[g]?=some (.cells _ _ (0,0)):=hB
  have h2:w6.heap[g]?=some (.cells _ _ (0,0)):=k7
  have h3:=Option.some.inj (h1.symm.trans h2)
  injection h3 with _ h4
  exact absurd h4 (by decide)
 have hb3g:b3≠g:=by omega
 refine .goC O ?_
 refine .heldT follows true (fun W=>Ext w W/\Blk W b7 24 #[.int .i64 n.b,.slice (some ⟨g,0,none⟩) n.ls.length cap]/\Blk W b3 24 #[.int .i64 n.b,.slice (some ad) n.ls.length cs]) [some (.pointer (some ⟨b7,0+1,none⟩)),some (.slice (some ⟨g,0,none⟩) n.ls.length cap),some (.int .i64 (j:Nat)),some (.pointer (some ⟨b7,0+1,none⟩)),some (.slice (some ⟨g,0,none⟩) n.ls.length cap),some (.int .i64 (j:Nat)),some (.pointer (some ⟨b3,0+1,none⟩)),some (.slice (some ad) n.ls.length cs),some (.int .i64 (j:Nat)),some (.pointer (some (ad.add (j*4)))),some (.pointer (some ((ad.add (j*4)).add 1))),some (.int .i64 y'.t),some (.pointer (some ⟨b3,0+1,none⟩)),some (.slice (some ad) n.ls.length cs),some (.int .i64 (j:Nat)),some (.pointer (some (ad.add (j*4)))),some (.pointer (some ((ad.add (j*4)).add 0))),some (.int .i64 y'.f),none,none,none,none,none,none]
  (.one 18 (.one 19 (.one 20 (.one 21 (.one 22 (.one 23 .done)))))) (by kernel_rfl) (by kernel_rfl)
  ⟨fun _ _=>v_fa F2 rfl,fun _ h=>v_ld I4 O h.2.1 rfl,fun _ _=>v_mv rfl,fun _ _=>v_fa F2 rfl,fun _ h=>v_ld I4 O h.2.1 rfl,fun _ _=>v_mv rfl,fun _ _=>v_fa F2 rfl,fun _ h=>v_ld I4 O h.2.2 rfl,fun _ _=>v_mv rfl,fun _ _=>BA6 (i:=j) H7 K3 O O hj,fun _ _=>Aq4 G5 rfl,fun _ h=>PtrTo.v_ldI A8 O ((hp.ext h.1).ln 1 (by decide)),fun _ _=>v_fa F2 rfl,fun _ h=>v_ld I4 O h.2.2 rfl,fun _ _=>v_mv rfl,fun _ _=>BA6 (i:=j) H7 K3 O O hj,fun _ _=>Aq4 G6 rfl,fun _ h=>PtrTo.v_ldI A8 O ((hp.ext h.1).ln 0 (by decide)),trivial⟩ ?_
 intro w7 e7 _
 have x7:=(x4.trans hB6).trans e7
 have k7:=k7.ext e7
 have k3:=k3.ext e7
 have hB:=hB.ext e7
 refine .gv O ⟨x7,k7,k3⟩ rfl (D8 (i:=j) H7 K3 O O hj).gv ?_
 rintro _ _ ⟨rfl,rfl⟩
 refine .gv O ⟨x7,k7,k3⟩ rfl (v_fa G6 O).gv ?_
 rintro _ _ ⟨rfl,rfl⟩
 refine .gv O ⟨x7,k7,k3⟩ rfl (H5 (v:=.int .i64 y'.t) A8 O O hB O (by rw [List.size_toArray,List.length_append,P5];show 0+j*4+0+1<=_;omega) (fun z hz=>by simp [Value.cells] at hz;subst hz;rfl)) ?_
 rintro _ w8 ⟨hB8,u8⟩
 have hB8:Blk w8 g 58 (wrt (flL n.ls++rest).toArray (j*4+0) [.int .i64 y'.t]):=by
  have:0+j*4+0=j*4+0:=by omega
  rw [<-this];exact hB8
 rw [Az9 (y':=⟨y'.t,y'.t,y'.x,y'.c⟩) (by decide) O hgl] at hB8
 have x8:Ext w w8:=u8.below x7 (by omega)
 have k7:=k7.upd u8 hgb.symm
 have k3:=k3.upd u8 hb3g
 refine .gv O ⟨x8,k7,k3⟩ rfl (D8 (i:=j) H7 K3 O O hj).gv ?_
 rintro _ _ ⟨rfl,rfl⟩
 refine .gv O ⟨x8,k7,k3⟩ rfl (v_fa G5 O).gv ?_
 rintro _ _ ⟨rfl,rfl⟩
 refine .gv O ⟨x8,k7,k3⟩ rfl (H5 (v:=.int .i64 y'.f) A8 O O hB8 O (by rw [List.size_toArray,List.length_append,P5,List.length_set];show 0+j*4+1+1<=_;omega) (fun z hz=>by simp [Value.cells] at hz;subst hz;rfl)) ?_
 rintro _ w9 ⟨hB9,u9⟩
 have hB9:Blk w9 g 58 (wrt (flL (n.ls.set j ⟨y'.t,y'.t,y'.x,y'.c⟩)++rest).toArray (j*4+1) [.int .i64 y'.f]):=by
  have:0+j*4+1=j*4+1:=by omega
  rw [<-this];exact hB9
 rw [Az9 (y:=⟨y'.t,y'.t,y'.x,y'.c⟩) (y':=⟨y'.t,y'.f,y'.x,y'.c⟩) (by decide) O (List.getElem?_set_self hj),rvN_set n j hgl] at hB9
 have x9:Ext w w9:=u9.below x8 (by omega)
 have k7:=k7.upd u9 hgb.symm
 have k3:=k3.upd u9 hb3g
 have hrl:(rvN n j).ls.length=n.ls.length:=List.length_set
 have hO:=put (rvN n j).ls w9 hrl (fun z hz=>by
  rcases List.mem_or_eq_of_mem_set (show z∈n.ls.set j (rvL (n.ls.getD j ln0)) from hz) with h | h
  ·exact hokl z h
  ·rw [h,hyy];exact ⟨hoky.2.1,hoky.1,hoky.2.2⟩) hB9
 refine .nil (.inl O) ?_
 have hm:eN.R (fun _=>True) w9 (.agg #[.int .i64 n.b,.slice (some ⟨g,0,none⟩) n.ls.length cap]) (rvN n j):=⟨_,rfl,hO.toR (fun _ _=>trivial) (fun _ h=>h.elim),hb⟩
 refine .go O (.ldA ty_N O O k3 O (.go O ?_))
 refine .call _ O J6 O (J1 (T0:=fun _=>True) upT upT (hn.ext x9) (ho.ext x9)) fun v10 w10 e10 h10=>?_
 obtain ⟨vl,ve,rfl,hl,he⟩:=h10
 replace he:ve=.int .i64 (lkE n o line):=he
 subst he
 have x10:=x9.trans e10
 refine .go O (.ldA ty_N O O (k7.ext e10) O (.go O ?_))
 refine .call _ O J6 O (J1 (T0:=fun _=>True) upT upT (hm.ext e10) (ho.ext x10)) fun v11 w11 e11 h11=>?_
 obtain ⟨vr,ve,rfl,hr,he⟩:=h11
 rw [rvN_lkE hj] at hr he
 replace he:ve=.int .i64 (lkE n o line):=he
 subst he
 have x11:=x10.trans e11
 have hl:=ER.ext eV hl e11
 obtain ⟨N,f,hll,hrr,hN,hz⟩:∃ (N:Nat) (f:Nat->Rat),(if lkE n o line=0 then loV n o line.toNat else [])=tab N f/\(if lkE n o line=0 then loV (rvN n j) o line.toNat else [])=tab N (rvW j line f)/\N<=10/\∀ i,Rsz (f i) 800000:=by
  by_cases hK:lkE n o line=0
  ·rw [if_pos hK,if_pos hK]
   obtain ⟨hO',k,rfl,hkM,hgk,hko,hB'⟩:=Ad5 hK
   have ok:=K5 hO'
   have okm:=K5 (show outE (rvN n j) o=0 by rw [Ah9 hj];exact hO')
   refine ⟨n.ls.length,(nwOf n o).lo k,rfl,?_,ok.m,fun i=>lo_rsz ok k i⟩
   show tab (rvN n j).ls.length ((nwOf (rvN n j) o).lo k)=_
   rw [hrl]
   refine C4 fun c hc=>?_
   rw [rvN_lo hj ok.ok okm.ok hkM hgk hc]
   unfold rvW
   by_cases h:(c=j/\c≠k)\/(c≠j/\j=k)
   ·rw [if_pos h,if_pos (by omega)]
   ·rw [if_neg h,if_neg (by omega)]
  ·rw [if_neg hK,if_neg hK]
   exact ⟨0,fun _=>0,rfl,rfl,by omega,fun _=>Rsz.zero (by decide)⟩
 rw [hll] at hl
 rw [hrr] at hr
 have hlen:(tab N f).length=N:=A1 ..
 have hlen2:(tab N (rvW j line f)).length=N:=A1 ..
 refine .go O (.neqF O O O O (.go O (.lenR un_V O O hl (.go O (.lenR un_V O O hr (.go O ?_))))))
 rw [hlen,hlen2]
 refine .neqF O O O O (.go O (.bsl _ O O bsl_V0r fun w12 b12 n12=>.go O ?_))
 have hown:OwnL eQ 54 w11.heap.size (fun k=>k<w11.heap.size) w12 (.slice (some ⟨b12,0,none⟩) 0 0) []:=OwnL.made (E:=eQ) (c:=0) (z:=.agg #[.bool false,.slice none 0 0,.bool false,.slice none 0 0]) O n12 (Nat.le_refl _) (by decide)
 refine .gv O O (Ad7 (E:=eQ) (hsz:=by decide) (base:=w11.heap.size) (X:=fun k=>k<w11.heap.size) un_V I3 O O O hown (ER.ext eV (eV.mono (fun k _ h=>h.2) (ER.lt eV hl)) n12.1) (fun k h=>h) (Nat.zero_le _) (by rw [hlen];omega) (by decide) n12.1.size) ?_
 rintro v13 w13 ⟨hO13,b13⟩
 have e13:Ext w11 w13:=Below.trans n12.1 b13
 rw [List.nil_append] at hO13
 have x13:=x11.trans e13
 rcases Nat.eq_zero_or_pos N with hN0 | hN0
 ·subst hN0
  refine .goC O (.lp (α:=Nat) [2,9,11,13,15] O (fun i=>[(16,.int .i64 (i:Nat))]) (fun i W=>W=w13/\i=0) (fun i=>0) 0 (lc1 O) ⟨rfl,rfl⟩ ?_)
  rintro i W ⟨rfl,rfl⟩
  refine .go O (.lenR un_V O O (ER.ext eV hl e13) (.go O ?_))
  rw [hlen]
  refine .lssF O O O (by omega) (.go O ?_)
  have hi:=AI0 (ER.ext eV hr e13) (hO13.toR (S:=fun _=>True) (hsz:=by decide) (fun _ _=>trivial) (fun _ _=>trivial))
  rw [show same (tab 0 (rvW j line f)) (tab 0 f)=true from L1 rfl] at hi
  refine .call _ O AA7 O hi fun v14 w14 e14 h14=>?_
  subst h14
  exact .goE O (.plain [_] Tryz.results11 ⟨rfl,trivial⟩ ⟨x13.trans e14,rfl⟩)
 obtain ⟨gr,cap',rfl,hc1,hc2,hgr,fr⟩:=hO13.fp (by rw [hlen];exact hN0)
 rw [hlen] at hc1
 rw [hlen]
 have fr:FP eQ 54 (fun _=>True) w13 gr (tab N f):=fr.mono fun _ _ _=>trivial
 have s13:=e13.size
 have hgrl:=fr.lt
 have hl13:eV.R (fun k=>True/\k≠gr) w13 vl (tab N f):=ER.ext eV (eV.mono (fun k _ h=>⟨trivial,by have:=h.2;omega⟩) (ER.lt eV hl)) e13
 have hr13:eV.R (fun k=>True/\k≠gr) w13 vr (tab N (rvW j line f)):=ER.ext eV (eV.mono (fun k _ h=>⟨trivial,by have:=h.2;omega⟩) (ER.lt eV hr)) e13
 have fr0:FP eQ 54 (fun _=>True) w13 gr (tab N fun c=>if c<0 then rvW j line f c else f c):=by
  rw [show (tab N fun c=>if c<0 then rvW j line f c else f c)=tab N f from C4 fun c _=>if_neg (Nat.not_lt_zero _)];exact fr
 refine .goC O (.lp (α:=Nat) [2,9,11,13,15] O (fun i=>[(16,.int .i64 (i:Nat))]) (fun i W=>i<=N/\Chg (fun k=>k=gr) w13 W/\FP eQ 54 (fun _=>True) W gr (tab N fun c=>if c<i then rvW j line f c else f c)) (fun i=>N-i) 0 (lc1 O) ⟨Nat.zero_le _,Chg.refl _,fr0⟩ ?_)
 clear fr fr0
 rintro i W ⟨hi,hC,fr⟩
 replace hi:i<=N:=hi
 replace hC:Chg (fun k=>k=gr) w13 W:=hC
 replace fr:FP eQ 54 (fun _=>True) W gr (tab N fun c=>if c<i then rvW j line f c else f c):=fr
 have hCs:=hC.size
 have hlW:eV.R (fun k=>True/\k≠gr) W vl (tab N f):=eV.keep (hC.kp fun k hk h=>hk.2 h) hl13
 have hxW:Ext w W:=hC.below x13 (by have:=x11.size;omega) (fun k hk=>by have:=x11.size;omega)
 refine .go O (.lenR un_V O O hlW (.go O ?_))
 rw [hlen]
 rcases Nat.lt_or_ge i N with hlt | hge
 rotate_left
 ·have:i=N:=by omega
  subst this
  rw [show (tab i fun c=>if c<i then rvW j line f c else f c)=tab i (rvW j line f) from C4 fun c hc=>if_pos hc] at fr
  have hrW:eV.R (fun _=>True) W vr (tab i (rvW j line f)):=eV.mono (fun _ _ _=>trivial) (eV.keep (hC.kp fun k hk h=>hk.2 h) hr13)
  have hwW:=fr.toR (hsz:=by decide) (c:=cap') trivial (by rw [hlen2];exact hc1) (by rw [hlen2];omega)
  rw [hlen2] at hwW
  have his:=AI0 hrW hwW
  rw [Aa2] at his
  refine .lssF O O O (by omega) (.go O ?_)
  refine .call _ O AA7 O his fun v14 w14 e14 h14=>?_
  subst h14
  exact .goE O (.plain [_] Tryz.results11 ⟨rfl,trivial⟩ ⟨hxW.trans e14,rfl⟩)
 refine .lssT O O O (by omega) (.go O ?_)
 have hgl':(tab N f)[i]?=some (qc (f i)):=E8 hlt
 have nxt:∀ {W2:World},rvW j line f i=f i->FP eQ 54 (fun _=>True) W2 gr (tab N fun c=>if c<i then rvW j line f c else f c)->FP eQ 54 (fun _=>True) W2 gr (tab N fun c=>if c<i+1 then rvW j line f c else f c):=fun h hf=>by
  rw [show (tab N fun c=>if c<i+1 then rvW j line f c else f c)=tab N fun c=>if c<i then rvW j line f c else f c from C4 fun c _=>by
   by_cases h1:c<i
   ·rw [if_pos h1,if_pos (by omega)]
   ·rw [if_neg h1]
    by_cases h2:c=i
    ·subst h2;rw [if_pos (by omega),h]
    ·rw [if_neg (by omega)]]
  exact hf
 by_cases hij:i=j
 ·subst hij
  refine .eqlT O O O O (.go O ?_)
  by_cases hil:(i:Int)=line
  ·exact .neqF O O O hil (.go O (.neqF O O O O (.go O (.inc O O O (by omega) (.goN O (.mk (i+1) O (lc1 O) ⟨⟨hlt,hC,nxt (by unfold rvW;rw [if_neg (by omega)]) fr⟩,by show N-(i+1)<N-i;omega⟩))))))
  ·have hw:rvW i line f i = - f i:=by unfold rvW;rw [if_pos (.inl ⟨rfl,hil⟩)]
   refine .neqT O O O hil (.go O (.ixN (i:=i) un_V ty_Q O O hlW O hgl' fun q hq=>.go O (.ldE (E:=eQ) ty_Q O O hq fun vq hvq=>.go O ?_)))
   refine .call _ O AB1 O (AA0 (S:=fun k=>True/\k≠gr) (L:=800000) (fun k hk=>⟨trivial,by omega⟩) hvq (AC7 (hz i)) (by decide) (by decide)) fun v1 W1 d1 h1=>?_
   rw [B5] at h1
   have hd1:=d1.size
   refine .go O (.ixB (i:=i) un_V ty_Q O O O hlt (.go O (.storeP (E:=eQ) (i:=i) (by decide) ty_Q O O (fr.ext d1) O (by rw [A1];exact hlt) (Nat.zero_add _) h1 fun W2 f2 u2=>?_)))
   rw [N8,show (tab N fun c=>if c=i then-f i else if c<i then rvW i line f c else f c)=tab N fun c=>if c<i+1 then rvW i line f c else f c from C4 fun c _=>by
    by_cases h2:c=i
    ·subst h2;rw [if_pos rfl,if_pos (by omega),hw]
    ·rw [if_neg h2]
     by_cases h3:c<i
     ·rw [if_pos h3,if_pos (by omega)]
     ·rw [if_neg h3,if_neg (by omega)]] at f2
   exact .go O (.inc O O O (by omega) (.goN O (.mk (i+1) O (lc1 O) ⟨⟨hlt,(hC.trans (Chg.ext d1)).trans (Chg.upd u2 O),f2⟩,by show N-(i+1)<N-i;omega⟩)))
 ·refine .eqlF O O O (by omega) (.go O (.neqT O O O (by omega) (.go O ?_)))
  by_cases hjl:(j:Int)=line
  ·have hw:rvW j line f i = - f i:=by unfold rvW;rw [if_pos (.inr ⟨hij,hjl⟩)]
   refine .eqlT O O O hjl (.go O (.ixN (i:=i) un_V ty_Q O O hlW O hgl' fun q hq=>.go O (.ldE (E:=eQ) ty_Q O O hq fun vq hvq=>.go O ?_)))
   refine .call _ O AB1 O (AA0 (S:=fun k=>True/\k≠gr) (L:=800000) (fun k hk=>⟨trivial,by omega⟩) hvq (AC7 (hz i)) (by decide) (by decide)) fun v1 W1 d1 h1=>?_
   rw [B5] at h1
   have hd1:=d1.size
   refine .go O (.ixB (i:=i) un_V ty_Q O O O hlt (.go O (.storeP (E:=eQ) (i:=i) (by decide) ty_Q O O (fr.ext d1) O (by rw [A1];exact hlt) (Nat.zero_add _) h1 fun W2 f2 u2=>?_)))
   rw [N8,show (tab N fun c=>if c=i then-f i else if c<i then rvW j line f c else f c)=tab N fun c=>if c<i+1 then rvW j line f c else f c from C4 fun c _=>by
    by_cases h2:c=i
    ·subst h2;rw [if_pos rfl,if_pos (by omega),hw]
    ·rw [if_neg h2]
     by_cases h3:c<i
     ·rw [if_pos h3,if_pos (by omega)]
     ·rw [if_neg h3,if_neg (by omega)]] at f2
   exact .go O (.inc O O O (by omega) (.goN O (.mk (i+1) O (lc1 O) ⟨⟨hlt,(hC.trans (Chg.ext d1)).trans (Chg.upd u2 O),f2⟩,by show N-(i+1)<N-i;omega⟩)))
  ·exact .eqlF O O O hjl (.go O (.inc O O O (by omega) (.goN O (.mk (i+1) O (lc1 O) ⟨⟨hlt,hC,nxt (by unfold rvW;rw [if_neg (by omega)]) fr⟩,by show N-(i+1)<N-i;omega⟩))))
end Go.Proofs.YtggegpiffjbngaaGreat
namespace Go.Kx
open Go Go.RowKit Go.ChangeShapes Go.WideShapes
section
variable {H:Type} {enc:TypeId×Value->H} {P:Program} {W:World}
def sh4 (P:Program) (t:TypeId):Option (List (TypeId×Nat)) :=
 match P.underlying t with
 | some (.struct fs)=>if fs.size=4 then some (fs.toList.map fun f=>(f.type,f.offset)) else none
 | _=>none
theorem BD3 {t ti tj:TypeId} (hs:sh4 P t=some [(ti,0),(ti,1),(tj,2),(tj,3)]) (hi:P.underlying ti=some (.int .i64)) (hj:P.underlying tj=some (.int .i64)) (hci:P.cellsOf ti=1) (hcj:P.cellsOf tj=1) (hct:P.cellsOf t=4):Opn enc P W eL t (fun _ _=>True):=by
 intro fuel cs x hx hfz
 unfold sh4 at hs
 split at hs
 ·rename_i fs hu
  split at hs
  ·rename_i hsz
   simp only [Option.some.injEq] at hs
   obtain ⟨l⟩:=fs
   match l,hsz with
   | [f0,f1,f2,f3],_ =>
    simp only [List.map_cons,List.map_nil,List.cons.injEq,Prod.mk.injEq,and_true] at hs
    obtain ⟨⟨h0,o0⟩,⟨h1,o1⟩,⟨h2,o2⟩,h3,o3⟩:=hs
    obtain ⟨y0,y1,y2,y3,n,rfl,hl,g0,g1,g2,g3⟩:=Joins.trod_struct4 hu hx
    rw [h0,o0,hci] at g0
    rw [h1,o1,hci] at g1
    rw [h2,o2,hcj] at g2
    rw [h3,o3,hcj] at g3
    rw [hct] at hl
    obtain ⟨c0,c1,c2,c3,rfl⟩:∃ c0 c1 c2 c3,cs=[c0,c1,c2,c3]:=by
     match cs,hl with
     | [c0,c1,c2,c3],_=>exact ⟨c0,c1,c2,c3,rfl⟩
    obtain ⟨n0,e0,_,w0⟩:=DataW.trod_int hi g0
    obtain ⟨n1,e1,_,w1⟩:=DataW.trod_int hi g1
    obtain ⟨n2,e2,_,w2⟩:=DataW.trod_int hj g2
    obtain ⟨n3,e3,_,w3⟩:=DataW.trod_int hj g3
    simp at e0 e1 e2 e3
    subst e0 e1 e2 e3
    exact ⟨.agg #[.int .i64 n0,.int .i64 n1,.int .i64 n2,.int .i64 n3],⟨n0,n1,n2,n3⟩,rfl,⟨rfl,AT6 w0,AT6 w1,AT6 w2,AT6 w3⟩,trivial⟩
  ·cases hs
 ·cases hs
theorem opn_N {t ti tl te:TypeId} (hs:sh2 P t=some ((ti,0),(tl,1))) (hi:P.underlying ti=some (.int .i64)) (hci:P.cellsOf ti=1) (hcl:P.cellsOf tl=1) (hct:P.cellsOf t=2) (hl:P.underlying tl=some (.slice te)) (hce:P.cellsOf te=4) (he:Opn enc P W eL te (fun _ _=>True)):Opn enc P W eN t (fun _ _=>True):=by
 intro fuel cs x hx hfz
 obtain ⟨y0,y1,n,rfl,hlen,h0,h1⟩:=BB6 hs hx
 rw [hci] at h0
 rw [hcl] at h1
 rw [hct] at hlen
 obtain ⟨c0,c1,rfl⟩:∃ c0 c1,cs=[c0,c1]:=by
  match cs,hlen with
  | [c0,c1],_=>exact ⟨c0,c1,rfl⟩
 obtain ⟨b,hb',_,hw⟩:=DataW.trod_int hi h0
 simp at hb'
 subst hb'
 obtain ⟨e,l,he',hR,_⟩:=(Opn.slice (Z:=fun _ _=>True) (E:=eL) (by decide) hl hce he) n _ _ h1 hfz.right
 obtain ⟨a,c,rfl,_⟩:=RL.len hR
 simp [Value.cells] at he'
 subst he'
 exact ⟨.agg #[.int .i64 b,.slice a l.length c],⟨b,l⟩,rfl,⟨_,rfl,hR,AT6 hw⟩,trivial⟩
end
end Go.Kx
namespace Go.Proofs.YtggegpiffjbngaaGreat
open Go Go.Kx Go.RowKit
section
variable {H:Type} {enc:TypeId×Value->H} {W:World}
theorem opnN:Opn enc Tryz.prog W eN 24 (fun _ _=>True):=opn_N (ti:=3) (tl:=22) (te:=58) (by kernel_rfl) O8 (by kernel_rfl) (by kernel_rfl) (by kernel_rfl) H7 (by kernel_rfl) (BD3 (ti:=3) (tj:=2) (by kernel_rfl) O8 AU2 (by kernel_rfl) (by kernel_rfl) (by kernel_rfl))
theorem opnH:Opn enc Tryz.prog W eI 25 (ZL fun _ _=>True):=Opn.slice (by decide) un_I (by kernel_rfl) (opn_int O8)
end
end Go.Proofs.YtggegpiffjbngaaGreat
