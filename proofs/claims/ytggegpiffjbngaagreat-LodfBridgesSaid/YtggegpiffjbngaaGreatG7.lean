/-
  What the claim leans on.
-/
import Derived.Test.YtggegpiffjbngaaGreatG6
import Derived.Lib.SmallJoins
set_option linter.unusedVariables false
namespace Go.Proofs.YtggegpiffjbngaaGreat
open Go Go.Kx Go.RowKit
theorem uni_dl (b c:Nat):uni ((b:Nat):Int) c=dl b c:=by
 unfold uni dl
 by_cases h:b=c
 ·rw [if_pos (by omega),if_pos h]
 ·rw [if_neg (by omega),if_neg h]
theorem bd6 (L:Nat):bd L 6=4096*L+1365:=by
 simp only [bd];omega
theorem rv_sum {x:List QV} {B:Nat} (hx:x.length<=B) (p:Nat->Prop) [DecidablePred p]:sumN x.length (fun b=>if p b then rv x b else 0)=sumN B (fun b=>if p b then rv x b else 0):=by
 obtain ⟨d,rfl⟩:∃ d,B=x.length+d:=⟨B-x.length,by omega⟩
 clear hx
 induction d with
 | zero=>rfl
 | succ d ih =>
  rw [ih]
  show _=sumN (x.length+d) _+(if p (x.length+d) then rv x (x.length+d) else 0)
  rw [AN3 (show x.length<=x.length+d by omega),ite_self,Rat.add_zero]
theorem AS1:Ent Tryz.prog 32:=A0 Tryz.func32 (by kernel_rfl) rfl
open Classical in
set_option maxRecDepth 8000 in
theorem AR4 {S:Nat->Prop} {w:World} {vn vo vx:Value} {n:NtV} {o:List Int} {x:List QV} {L:Nat} (up:Up S w) (hn:eN.R S w vn n) (ho:eI.R S w vo o) (hx:eV.R S w vx x) (hkx:vk L x) (hL1:1<=L) (hL:L<=1000000) :
  CR Tryz.prog 32 #[vn,vo,vx] w (Two (Is (.bool (decide (sfE n o x.length=0/\(nwOf n o).bal (rv x))))) (Is (.int .i64 (sfE n o x.length)))):=by
 obtain ⟨s,rfl,hs,hb⟩:=hn
 have hn:eN.R S w (.agg #[.int .i64 n.b,s]) n:=⟨s,rfl,hs,hb⟩
 refine enter Tryz.func32 O Tryz.ntmps32 O (.beg (.go O (.box O O fun w1 b3 n1=>?_)))
 obtain ⟨e1,k3,hb3,hs1⟩:=n1
 refine .go O (.ldA ty_N O O k3 O (.go O ?_))
 refine .call _ O AE5 O (AD2 (up.ext e1.size) (hn.ext e1) (ho.ext e1)) fun v2 w2 e2 h2=>?_
 obtain ⟨vl,ve,rfl,hl,he⟩:=h2
 replace he:ve=.int .i64 (outE n o):=he
 subst he
 have x2:=e1.trans e2
 refine .go O ?_
 by_cases hE:outE n o=0
 rotate_left
 ·have hb:sfE n o x.length=outE n o:=by unfold sfE;rw [if_pos hE]
  refine .neqT O O O hE (.goE O ?_)
  refine .plain [_,_] Tryz.results32 ⟨rfl,rfl,trivial⟩ ⟨x2,_,_,rfl,?_,by rw [hb]⟩
  rw [decide_eq_false fun h=>hE (hb.symm.trans h.1)]
 have ok:=K4 hE
 rw [if_pos hE] at hl
 have hB6:=ok.b6
 have hB1:=ok.b1
 have hnb:=ok.b
 have k3:=k3.ext e2
 rw [hnb] at k3
 obtain ⟨_,_,_,_,hxl⟩:=RL.len hx
 refine .neqF O O O hE (.go O (.lenR un_V O O (hx.ext x2) (.go O (.fa H3 O O (.ld A8 O O k3 O ?_)))))
 by_cases hlen:(x.length:Int)<=n.b
 rotate_left
 ·have hb:sfE n o x.length=5:=by unfold sfE;rw [if_neg (by simpa using hE),if_neg hlen]
  refine .gtrT O O O (by omega) (.goE O ?_)
  refine .plain [_,_] Tryz.results32 ⟨rfl,rfl,trivial⟩ ⟨x2,_,_,rfl,?_,by rw [hb]⟩
  rw [decide_eq_false fun h=>by rw [hb] at h;exact absurd h.1 (by decide)]
 have hno:sfE n o x.length=0:=by unfold sfE;rw [if_neg (by simpa using hE),if_pos hlen]
 have hxB:x.length<=(nwOf n o).B:=by omega
 refine .gtrF O O O (by omega) (.go O (.fa H3 O O (.ld A8 O O k3 O ?_)))
 refine .make_ _ _ un_V J0 O (by decide) O O O (Nat.le_refl _) (by omega) (by omega) fun w3 h n3=>?_
 have f3:FB eQ 54 S w3 h (List.replicate (nwOf n o).B q0):=FB.made n3 zq_R
 obtain ⟨e3,_,hh,hs3⟩:=n3
 rw [<-AJ5] at f3
 have hs2:=x2.size
 have hx2:=hx.ext x2
 have hxT:eV.R (fun k=>S k/\k≠h) w2 vx x:=eV.mono (fun k _ h=>⟨h.1,by have:=h.2;omega⟩) (ER.lt eV hx2)
 refine .go O (.lenR un_V O O (ER.ext eV hx2 e3) ?_)
 generalize hu:(fun i j=>sumN i fun b=>if (nwOf n o).lab b=j then rv x b else 0)=u
 refine .goC O (.lp (α:=Nat) [8,10,32,33] O (fun i=>[(34,.int .i64 (i:Nat))]) (fun i W=>Ext w2 W/\i<=x.length/\FB eQ 54 S W h (tab (nwOf n o).B (u i))) (fun i=>x.length-i) 0 (lc1 O) ⟨e3,Nat.zero_le _,by rw [<-hu];exact f3⟩ ?_)
 rintro i W ⟨hW,hi,fb⟩
 have hWs:=hW.size
 have hhl:=fb.lt
 refine .go O ?_
 rcases Nat.lt_or_ge i x.length with hlt | hge
 rotate_left
 ·have:i=x.length:=by omega
  subst this
  have hsum:∀ j,u x.length j=sumN (nwOf n o).B fun b=>if (nwOf n o).lab b=j then rv x b else 0:=fun j=>by rw [<-hu];exact rv_sum hxB _
  have hbal:(nwOf n o).bal (rv x)<->∀ j,j<(nwOf n o).B->u x.length j=0:=by
   rw [Nw.bal_lab]
   simp only [hsum]
  have hR:eV.R S W (slB (nwOf n o).B h) (tab (nwOf n o).B (u x.length)):=by
   have:=fb.toR (hsz:=by decide) (c:=(nwOf n o).B) (up h (by omega)) (by rw [A1];exact Nat.le_refl _) (by rw [A1];omega)
   rw [A1] at this
   exact this
  refine .lssF O O O (by omega) (.go O (.len un_V O O ?_))
  refine .goC O (.lp (α:=Nat) [55,56] O (fun j=>[(57,.int .i64 (j:Nat))]) (fun j W'=>Ext W W'/\j<=(nwOf n o).B/\∀ j',j'<j->u x.length j'=0) (fun j=>(nwOf n o).B-j) 0 (lc1 O) ⟨Ext.refl _,Nat.zero_le _,fun _ h=>absurd h (by omega)⟩ ?_)
  rintro j W' ⟨hW',hj,hz⟩
  refine .go O ?_
  rcases Nat.lt_or_ge j (nwOf n o).B with hjl | hge
  rotate_left
  ·refine .lssF O O O (by omega) (.goE O ?_)
   refine .plain [_,_] Tryz.results32 ⟨rfl,rfl,trivial⟩ ⟨x2.trans (hW.trans hW'),_,_,rfl,?_,by rw [hno]⟩
   rw [decide_eq_true ⟨hno,hbal.2 fun j' hj'=>hz j' (by omega)⟩]
  refine .lssT O O O (by omega) (.go O (.ixN (i:=j) un_V ty_Q O O (ER.ext eV hR hW') O (E9 hjl) fun q hq=>.ldE (E:=eQ) ty_Q O O hq fun y hy=>.alloc O C7 fun W2 b14 n2=>?_))
  obtain ⟨e4,k14,hb14,hs4⟩:=n2
  refine .storeA (E:=eQ) (S:=fun k=>S k/\k<W'.heap.size) ty_Q O O k14 O O (ER.ext eQ (ER.lt eQ hy) e4) (fun h=>by have:=h.2;omega) fun W3 k14 u3 hy=>?_
  have hyv:=shpA (E:=eQ) O hy
  refine .go O (.ldA ty_Q O O k14 (eQ.csz hy) ?_)
  rw [<-hyv]
  refine .call _ O T6 O (S5 hy) fun v4 W4 e5 h4=>?_
  subst h4
  rw [B5]
  have x4:Ext W W4:=hW'.trans (Ext.trans (u3.below e4 (by omega)) e5)
  by_cases h0:u x.length j=0
  ·rw [h0]
   refine .neqF O O O (by decide) (.go O (.inc O O O (by omega) (.goN O (.mk (j+1) O (lc1 O) ⟨⟨x4,hjl,fun j' hj'=>?_⟩,by show (nwOf n o).B-(j+1)<(nwOf n o).B-j;omega⟩))))
   by_cases e:j'=j
   ·rw [e];exact h0
   ·exact hz j' (by omega)
  ·refine .neqT O O O (fun h=>h0 (AF0.1 h)) (.goE O ?_)
   refine .plain [_,_] Tryz.results32 ⟨rfl,rfl,trivial⟩ ⟨x2.trans (hW.trans x4),_,_,rfl,?_,by rw [hno]⟩
   rw [decide_eq_false fun h=>h0 (hbal.1 h.2 j hjl)]
 have hib:i<(nwOf n o).B:=by omega
 have hlab:(nwOf n o).lab i<(nwOf n o).B:=Nat.lt_of_le_of_lt ((nwOf n o).lab_le i) hib
 have hxi:x[i]?=some (x.getD i q0):=A7 hlt
 have hqi:=hkx.get hL1 i
 have hus:∀ i,i<=6->∀ j,Rsz (u i j) (1+6*(L+1)):=fun i hi j=>by
  rw [<-hu]
  refine (Ah6 (L:=L) fun b _=>?_).mono (by have:=Nat.mul_le_mul_right (L+1) hi;omega)
  split
  ·exact hkx.rsz hL1 b
  ·exact Rsz.zero hL1
 refine .lssT O O O (by omega) (.go O (.ixN (i:=i) un_V ty_Q O O (ER.ext eV hxT hW) O hxi fun q hq=>.ldE (E:=eQ) ty_Q O O hq fun y hy=>.alloc O C7 fun W1 b12 n1'=>.go O ?_))
 obtain ⟨g1,k12,hb12,hs1'⟩:=n1'
 refine .storeA (E:=eQ) (S:=fun k=>(S k/\k≠h)/\k<W.heap.size) ty_Q O O k12 O O (ER.ext eQ (ER.lt eQ hy) g1) (fun h=>by have:=h.2;omega) fun W2 k12 u2 hy=>?_
 have hs2':=u2.size
 have fb:=fb.new g1 u2 (by omega)
 have hW2:Ext w2 W2:=u2.below (hW.trans g1) (by omega)
 have hyv:=shpA (E:=eQ) O hy
 have hy:eQ.R (fun k=>S k/\k≠h) W2 y _:=eQ.mono (fun _ _ h=>h.1) hy
 have upT:∀ {W':World},W2.heap.size<=W'.heap.size->Up (fun k=>S k/\k≠h) W':=fun hs k' hk'=>⟨up k' (by omega),by omega⟩
 refine .goC O ?_
 refine .par follows 14 [.inl (slB (nwOf n o).B h),.inl vl,.inl (.int .i64 (i:Nat)),.inr (Ptr (eInt .i64) S (((nwOf n o).lab i):Nat)),.inl (.int .i64 (((nwOf n o).lab i):Nat)),.inl (slB (nwOf n o).B h),.inl vl,.inl (.int .i64 (i:Nat)),.inr (Ptr (eInt .i64) S (((nwOf n o).lab i):Nat)),.inl (.int .i64 (((nwOf n o).lab i):Nat)),.inl (.pointer (some ⟨h,0+((nwOf n o).lab i)*4,none⟩)),.inr (eQ.at (fun k=>S k/\k≠h) (qc (u i ((nwOf n o).lab i)))),.inl y,.inr (eQ.at (fun k=>S k/\k≠h) (qc (u i ((nwOf n o).lab i)+rv x i)))] [[],[],[],[(40,1),(41,2)],[(42,3)],[],[],[],[(45,6),(46,7)],[(47,8)],[(44,5),(48,9)],[(49,10)],[],[(50,11),(51,12)]] (by kernel_rfl) ⟨
  fun w e=>(v_mv O).ob,
  fun w e=>(v_mv O).ob,
  fun w e=>(v_mv O).ob,
  fun w e=>D5 (i:=i) un_I B0 O (ER.ext eI (ER.ext eI hl hW2) e) O (X9 hib),
  fun w e x3 hx3=>U3 B0 O hx3,
  fun w e=>(v_mv O).ob,
  fun w e=>(v_mv O).ob,
  fun w e=>(v_mv O).ob,
  fun w e=>D5 (i:=i) un_I B0 O (ER.ext eI (ER.ext eI hl hW2) e) O (X9 hib),
  fun w e x8 hx8=>U3 B0 O hx8,
  fun w e=>(E2 (i:=((nwOf n o).lab i)) un_V ty_Q O O hlab).ob,
  fun w e=>U4 (E:=eQ) (i:=((nwOf n o).lab i)) (by decide) ty_Q O (Nat.zero_add _) (fb.ext e) (E9 hlab),
  fun w e=>((C8 ty_Q O (k12.ext e) (eQ.csz hy)).eq hyv.symm).ob,
  fun w e x11 hx11=>by
   have:=Q6 (L:=1+6*(L+1)) (upT e.size) hx11 (ER.ext eQ hy e) (hus i (by omega) _).toOk (hqi.1.mono (by omega)) (by omega) (by omega)
   rw [B5] at this
   exact (A6 _ Q8 O this).ob (A9 _ _ _),trivial⟩ ?_
 intro X0 g0 _ _ _ _ _ _ y0 hy0
 have sx0:=g0.size
 refine .ixB (i:=(nwOf n o).lab i) un_V ty_Q O O O hlab (.storeF (E:=eQ) (i:=(nwOf n o).lab i) (by decide) ty_Q O O (fb.ext g0) O (by rw [A1];exact hlab) (Nat.zero_add _) hy0 fun Y0 fy0 uy0=>?_)
 have hstep:(tab (nwOf n o).B (u i)).set ((nwOf n o).lab i) (qc (u i ((nwOf n o).lab i)+rv x i))=tab (nwOf n o).B (u (i+1)):=by
  rw [R7]
  refine E7 fun j _=>?_
  rw [<-hu]
  show _=sumN i _+_
  dsimp only
  by_cases e:j=(nwOf n o).lab i
  ·rw [if_pos e,if_pos e.symm,e]
  ·rw [if_neg e,if_neg (Ne.symm e)];grind
 rw [hstep] at fy0
 exact .go O (.inc O O O (by omega) (.goN O (.mk (i+1) O (lc1 O) ⟨⟨uy0.below (hW2.trans g0) (by omega),hlt,fy0⟩,by show x.length-(i+1)<x.length-i;omega⟩)))
open Classical in
noncomputable def anE (n:NtV) (o:List Int) (x:List QV):Int:=if sfE n o x.length≠0 then sfE n o x.length else if (nwOf n o).bal (rv x) then 0 else 10
theorem BG1 {n:NtV} {o:List Int} {x:List QV} (h:anE n o x=0):sfE n o x.length=0/\(nwOf n o).bal (rv x):=by
 unfold anE at h
 split at h
 ·exact absurd h (by assumption)
 ·split at h
  ·exact ⟨Classical.not_not.1 (by assumption),by assumption⟩
  ·cases h
theorem anE_of {n:NtV} {o:List Int} {x:List QV} (h:outE n o=0) (hx:(x.length:Int)<=n.b) (hb:(nwOf n o).bal (rv x)):anE n o x=0:=by
 have:sfE n o x.length=0:=by unfold sfE;rw [if_neg (by simpa using h),if_pos hx]
 unfold anE
 rw [if_neg (by simpa using this),if_pos hb]
theorem an_sol {n:NtV} {o:List Int} (ok:nwOk n o) {r x:List QV} (hr:r.length=(nwOf n o).B) (hx:∀ b,b<(nwOf n o).B->rv r b=(nwOf n o).inj0 (rv x) b):solvable (nwOf n o).gA r/\tab (nwOf n o).B (rv (solX (nwOf n o).gA r))=tab (nwOf n o).B ((nwOf n o).an (rv x)):=by
 have hs:solvable (nwOf n o).gA r:=BD0 (by rw [AF8 ok.b1,H2]) (Ad9 ok.ok ok.b1) fun i hi=>AN3 (by rw [H2] at hi;omega)
 refine ⟨hs,E7 fun c hc=>?_⟩
 rw [<-inv_sol (by rw [AF8 ok.b1,H2]) (Ad9 ok.ok ok.b1) hs (by rw [H2];exact hc),H2]
 unfold Nw.an
 refine A2 fun b hb=>?_
 rw [hx b hb];rfl
theorem BG0 {n:NtV} {o:List Int} (ok:nwOk n o) {x:Nat->Rat} {L:Nat} (hL:1<=L) (hx:∀ b,Rsz (x b) L) (c:Nat):Rsz ((nwOf n o).an x c) (1+6*(87381+L+1)):=by
 unfold Nw.an
 refine (Ah6 (L:=87381+L) fun b _=>(BA1 ok b c).mul ?_).mono (by have:=Nat.mul_le_mul_right (87381+L+1) ok.b6;omega)
 unfold Nw.inj0
 split
 ·exact Rsz.zero hL
 ·exact hx b
theorem AZ6:Ent Tryz.prog 33:=A0 Tryz.func33 (by kernel_rfl) rfl
open Classical in
set_option maxRecDepth 8000 in
theorem AY9 {S T0:Nat->Prop} {w:World} {vn vo vx:Value} {n:NtV} {o:List Int} {x:List QV} {L:Nat} (up:Up S w) (upo:Up T0 w) (hn:eN.R S w vn n) (ho:eI.R S w vo o) (hx:eV.R S w vx x) (hkx:vk L x) (hL1:1<=L) (hL:L<=9000) :
  CR Tryz.prog 33 #[vn,vo,vx] w (Two (eV.at T0 (if anE n o x=0 then tab (nwOf n o).B ((nwOf n o).an (rv x)) else [])) (Is (.int .i64 (anE n o x)))):=by
 obtain ⟨s,rfl,hs,hb⟩:=hn
 have hn:eN.R S w (.agg #[.int .i64 n.b,s]) n:=⟨s,rfl,hs,hb⟩
 refine enter Tryz.func33 O Tryz.ntmps33 O (.beg (.go O (.box O O fun w1 b3 n1=>?_)))
 obtain ⟨e1,k3,hb3,hs1⟩:=n1
 refine .go O (.ldA ty_N O O k3 O (.go O ?_))
 refine .call _ O AS1 O (AR4 (up.ext e1.size) (hn.ext e1) (ho.ext e1) (ER.ext eV hx e1) hkx hL1 (by omega)) fun v2 w2 e2 h2=>?_
 obtain ⟨vb,ve,rfl,rfl,rfl⟩:=h2
 have x2:=e1.trans e2
 refine .go O ?_
 by_cases hE:sfE n o x.length=0
 rotate_left
 ·have hb:anE n o x=sfE n o x.length:=by unfold anE;rw [if_pos hE]
  refine .neqT O O O hE (.goE O ?_)
  refine .plain [_,_] Tryz.results33 ⟨rfl,rfl,trivial⟩ ⟨x2,_,_,rfl,?_,by rw [hb]⟩
  rw [if_neg (by rw [hb];exact hE)];exact RL.nil
 by_cases hB:(nwOf n o).bal (rv x)
 rotate_left
 ·have hb:anE n o x=10:=by unfold anE;rw [if_neg (by simpa using hE),if_neg hB]
  rw [decide_eq_false fun h=>hB h.2]
  refine .neqF O O O hE (.goE O ?_)
  refine .plain [_,_] Tryz.results33 ⟨rfl,rfl,trivial⟩ ⟨x2,_,_,rfl,?_,by rw [hb]⟩
  rw [if_neg (by rw [hb];decide)];exact RL.nil
 have hno:anE n o x=0:=by unfold anE;rw [if_neg (by simpa using hE),if_pos hB]
 rw [decide_eq_true ⟨hE,hB⟩,if_pos hno]
 obtain ⟨hO,hxb⟩:=BA8 hE
 have ok:=K4 hO
 have hB6:=ok.b6
 have hB1:=ok.b1
 have hnb:=ok.b
 refine .neqF O O O hE (.go O (.ldA ty_N O O (k3.ext e2) O (.go O ?_)))
 refine .call _ O AO9 O (AN6 (up.ext x2.size) (hn.ext x2) (ho.ext x2)) fun v4 w4 e4 h4=>?_
 obtain ⟨vm,ve,rfl,hm,rfl⟩:=h4
 rw [if_pos hO] at hm
 obtain ⟨gb,hs0,rfl,hgb,hge,hM⟩:=hm
 have x4:=x2.trans e4
 have hs2:=x2.size
 have hs4:=e4.size
 have hglt:=hM.out.lt
 have hk3:=k3.lt
 have hF:FB eV 32 S w4 gb (tabM (nwOf n o).B (nwOf n o).B (nwOf n o).Lm):=hM.toFB (fun k hk=>up k (by have:=hge k hk;omega)) (by omega)
 have old:∀ {α:Type} (E:ER α) {v:Value} {y:α},E.R S w v y->E.R (fun k=>S k/\k≠gb) w4 v y:=fun E v y h=>E.mono (fun k _ h=>⟨h.1,by have:=h.2;omega⟩) (ER.ext E (ER.lt E h) x4)
 have k3:=k3.ext (e2.trans e4)
 refine .go O (.neqF O O O hO (.go O (.ldA ty_N O O k3 O (.go O ?_))))
 refine .call _ O V8 O (U8 (S:=fun k=>S k/\k≠gb) (fun k hk=>⟨up k (by omega),by omega⟩) (old eN hn) (old eI ho)) fun v5 w5 e5 h5=>?_
 obtain ⟨vr,ve,rfl,hr,he⟩:=h5
 replace he:ve=.int .i64 0:=by rw [he,hO]
 subst he
 rw [if_pos hO] at hr
 have hs5:=e5.size
 have k3:=k3.ext e5
 refine .go O (.neqF O O O O (.go O (.fa H3 O O (.ld A8 O O k3 O ?_))))
 rw [hnb]
 refine .call _ O P7 O (Z5 (S:=fun k=>S k/\k≠gb) (fun k hk=>⟨up k (by omega),by omega⟩) (ER.ext eV (old eV hx) e5) hkx hL1 (by omega)) fun v6 w6 e6 h6=>?_
 obtain ⟨h6,_⟩ | ⟨_,gr,N6,hN6,hgr,rfl,fr⟩:=h6
 ·omega
 have hNB:N6=(nwOf n o).B:=by omega
 subst hNB
 have hs6:=e6.size
 have hgrl:=fr.lt
 have x6:=x4.trans (e5.trans e6)
 have k3:=k3.ext e6
 have hF:FB eV 32 (fun k=>S k/\k≠gr) w6 gb (tabM (nwOf n o).B (nwOf n o).B (nwOf n o).Lm):=(hF.mono (S':=fun k=>S k/\k≠gr) fun k hk h=>⟨h,by omega⟩).ext (e5.trans e6)
 have hr:eI.R (fun k=>(S k/\k≠gb)/\k≠gr) w6 vr (pInts (nwOf n o).refs):=ER.ext eI (eI.mono (fun k _ h=>⟨h.1,by have:=h.2;omega⟩) (ER.lt eI hr)) e6
 have hrW:∀ {W:World},Chg (fun k=>k=gb\/k=gr) w6 W->eI.R (fun k=>(S k/\k≠gb)/\k≠gr) W vr (pInts (nwOf n o).refs):=fun hC=>eI.keep (hC.kp fun k hk h=>h.elim (fun e=>hk.1.2 e) fun e=>hk.2 e) hr
 have hkW:∀ {W:World},Chg (fun k=>k=gb\/k=gr) w6 W->Blk W b3 24 #[.int .i64 n.b,s]:=fun hC=>hC.blk k3 fun h=>by have:=hb3;have:=e2.size;rcases h with h | h<;>omega
 rw [hnb] at hkW
 have hrl:(nwOf n o).refs.length<=(nwOf n o).B:=(nwOf n o).cnt_le (nwOf n o).B
 refine .go O (.lenR un_I O O hr ?_)
 rw [show (pInts (nwOf n o).refs).length=(nwOf n o).refs.length by simp]
 generalize hG:(fun i=>fun b c=>if b∈(nwOf n o).refs.take i then dl b c else (nwOf n o).Lm b c:Nat->RM)=G
 generalize hY:(fun i=>fun b=>if b∈(nwOf n o).refs.take i then 0 else rv x b:Nat->Nat->Rat)=Y
 refine .goC O (.lp (α:=Nat) [3,9,10,12,51,52] O (fun i=>[(53,.int .i64 (i:Nat))]) (fun i W=>i<=(nwOf n o).refs.length/\Chg (fun k=>k=gb\/k=gr) w6 W/\FB eV 32 (fun k=>S k/\k≠gr) W gb (tabM (nwOf n o).B (nwOf n o).B (G i))/\FB eQ 54 (fun k=>S k/\k≠gb) W gr (tab (nwOf n o).B (Y i))) (fun i=>(nwOf n o).refs.length-i) 0 (lc1 O) ⟨Nat.zero_le _,Chg.refl _,by rw [<-hG];simpa using hF,by rw [<-hY];simpa using fr⟩ ?_)
 clear hF fr
 rintro i W ⟨hi,hC,hF,fr⟩
 have hCs:=hC.size
 refine .go O ?_
 rcases Nat.lt_or_ge i (nwOf n o).refs.length with hlt | hge
 rotate_left
 ·have:i=(nwOf n o).refs.length:=by omega
  subst this
  have hmem:∀ b,b<(nwOf n o).B->(b∈(nwOf n o).refs.take (nwOf n o).refs.length<->(nwOf n o).root b=b):=fun b hb=>by
   rw [List.take_of_length_le (Nat.le_refl _),Nw.mem_refs]
   exact ⟨fun h=>h.2,fun h=>⟨hb,h⟩⟩
  have hA:tabM (nwOf n o).B (nwOf n o).B (G (nwOf n o).refs.length)=(nwOf n o).gA:=B7 fun b c hb _=>by
   rw [<-hG]
   unfold Nw.gm
   dsimp only
   by_cases h:(nwOf n o).root b=b
   ·rw [if_pos h,if_pos ((hmem b hb).2 h)]
   ·rw [if_neg h,if_neg fun h'=>h ((hmem b hb).1 h')]
  rw [hA] at hF
  have hRm:eM.R S W (slB (nwOf n o).B gb) (nwOf n o).gA:=by
   have:=(hF.mono (S':=S) fun k _ h=>h.1).toR (hsz:=by decide) (c:=(nwOf n o).B) (up gb (by omega)) (by rw [H2];exact Nat.le_refl _) (by rw [H2];omega)
   rw [H2] at this
   exact this
  have hRr:eV.R S W (slB (nwOf n o).B gr) (tab (nwOf n o).B (Y (nwOf n o).refs.length)):=by
   have:=(fr.mono (S':=S) fun k _ h=>h.1).toR (hsz:=by decide) (c:=(nwOf n o).B) (up gr (by omega)) (by rw [A1];exact Nat.le_refl _) (by rw [A1];omega)
   rw [A1] at this
   exact this
  have hxW:Ext w W:=hC.below x6 (by omega) (fun k hk=>by omega)
  obtain ⟨hsv,hsol⟩:=an_sol ok (r:=tab (nwOf n o).B (Y (nwOf n o).refs.length)) (x:=x) (A1 ..) fun b hb=>by
   rw [P0,if_pos hb,<-hY]
   unfold Nw.inj0
   dsimp only
   by_cases h:(nwOf n o).root b=b
   ·rw [if_pos h,if_pos ((hmem b hb).2 h)]
   ·rw [if_neg h,if_neg fun h'=>h ((hmem b hb).1 h')]
  have hkY:vk (max 21 L) (tab (nwOf n o).B (Y (nwOf n o).refs.length)):=AC2 fun b _=>by
   rw [<-hY]
   dsimp only
   split
   ·exact Rsz.zero (by omega)
   ·exact (hkx.rsz hL1 b).mono (by omega)
  refine .lssF O O O (by omega) (.go O ?_)
  refine .call _ O AZ3 O (AY2 (L:=max 21 L) (n:=6) (up.ext hxW.size) hRm hRr ((As8 ok).mono (by omega)) hkY (by omega) (by rw [H2];omega) (by rw [A1];omega) (by rw [AF8 hB1];omega) (by rw [H2,A1];omega) (by rw [bd6];omega)) fun v7 w7 e7 h7=>?_
  obtain ⟨va,vz,ve,rfl,ha,_,rfl⟩:=h7
  rw [if_pos hsv] at ha
  rw [if_pos hsv]
  have k3W:=(hkW hC).ext e7
  have hka:vk 600000 (solX (nwOf n o).gA (tab (nwOf n o).B (Y (nwOf n o).refs.length))):=by
   have h1:solX (nwOf n o).gA (tab (nwOf n o).B (Y (nwOf n o).refs.length))=tab (nwOf n o).B (rv (solX (nwOf n o).gA (tab (nwOf n o).B (Y (nwOf n o).refs.length)))):=by
    unfold solX
    rw [AF8 hB1]
    exact E7 fun k hk=>by rw [P0,if_pos hk]
   rw [h1,hsol]
   exact AC2 fun c _=>(BG0 ok hL1 (fun b=>hkx.rsz hL1 b) c).mono (by omega)
  refine .go O (.neqF O O O O (.go O (.fa H3 O O (.ld A8 O O k3W O ?_))))
  refine .call _ O P7 O (AI9 (up.ext (hxW.trans e7).size) (upo.ext (hxW.trans e7).size) ha hka (by decide) (by decide)) fun v8 w8 e8 h8=>.goE O ?_
  have h8:=BB3 (B:=(nwOf n o).B) h8 (upo.ext (hxW.trans e7).size) hB1 (by omega)
  rw [hsol] at h8
  exact .plain [_,_] Tryz.results33 ⟨rfl,rfl,trivial⟩ ⟨(hxW.trans e7).trans e8,_,_,rfl,h8,by rw [hno]⟩
 have hgr':(pInts (nwOf n o).refs)[i]?=some (((nwOf n o).refs.getD i 0:Nat):Int):=by rw [List.getElem?_map,A7 (z:=0) hlt];rfl
 have hrB:(nwOf n o).refs.getD i 0<(nwOf n o).B:=(Nw.mem_refs.1 (E0 hlt)).1
 have htk:(nwOf n o).refs.take (i+1)=(nwOf n o).refs.take i++[(nwOf n o).refs.getD i 0]:=by rw [List.take_add_one,A7 (z:=0) hlt];rfl
 refine .lssT O O O (by omega) (.go O (.ixN (i:=i) un_I B0 O O (hrW hC) O hgr' fun q hq=>.ldE (E:=eInt .i64) B0 O O hq fun e he=>?_))
 obtain ⟨rfl,_⟩:=he
 generalize hb0:(nwOf n o).refs.getD i 0=b at hrB htk
 refine .go O (.fa H3 O O (.ld A8 O O (hkW hC) O (.go O ?_)))
 refine .call _ O Ap1 O (Am0 (S:=fun k=>(S k/\k≠gr)/\k≠gb) fun k hk=>⟨⟨up k (by omega),by omega⟩,by omega⟩) fun v7 W1 e7 h7=>?_
 rw [show (min (((nwOf n o).B:Nat):Int) 65536).toNat=(nwOf n o).B by omega] at h7
 have hs7:=e7.size
 refine .go O (.ixB (i:=b) un_M ty_V O O O hrB (.storeF (E:=eV) (i:=b) (by decide) ty_V O O (hF.ext e7) O (by rw [A3];exact hrB) (Nat.zero_add _) h7 fun W2 f2 u2=>?_))
 have hs2':=u2.size
 have fr:=(fr.ext e7).upd u2 (by omega) fun h=>h.2 rfl
 refine .go O (.bld _ O O Ae7 (.ixB (i:=b) un_V ty_Q O O O hrB (.storeF (E:=eQ) (i:=b) (by decide) ty_Q O O fr O (by rw [A1];exact hrB) (Nat.zero_add _) (zq_R (S:=fun k=>(S k/\k≠gb)/\k≠gr)) fun W3 f3 u3=>?_)))
 have f2:=f2.upd u3 (by omega) fun h=>h.2 rfl
 rw [Q0 hrB] at f2
 rw [<-P3,R7] at f3
 have hm:∀ b',b'∈(nwOf n o).refs.take (i+1)<->b'∈(nwOf n o).refs.take i\/b'=b:=fun b'=>by rw [htk,List.mem_append,List.mem_singleton]
 have hs1:tabM (nwOf n o).B (nwOf n o).B (fun j k=>if j=b then uni (b:Nat) k else G i j k)=tabM (nwOf n o).B (nwOf n o).B (G (i+1)):=B7 fun j c _ _=>by
  rw [<-hG]
  dsimp only
  by_cases e:j=b
  ·rw [if_pos e,if_pos ((hm j).2 (.inr e)),e,uni_dl]
  ·rw [if_neg e]
   by_cases h:j∈(nwOf n o).refs.take i
   ·rw [if_pos h,if_pos ((hm j).2 (.inl h))]
   ·rw [if_neg h,if_neg fun h'=>((hm j).1 h').elim h e]
 have hs2:(tab (nwOf n o).B fun j=>if j=b then 0 else Y i j)=tab (nwOf n o).B (Y (i+1)):=E7 fun j _=>by
  rw [<-hY]
  dsimp only
  by_cases e:j=b
  ·rw [if_pos e,if_pos ((hm j).2 (.inr e))]
  ·rw [if_neg e]
   by_cases h:j∈(nwOf n o).refs.take i
   ·rw [if_pos h,if_pos ((hm j).2 (.inl h))]
   ·rw [if_neg h,if_neg fun h'=>((hm j).1 h').elim h e]
 rw [hs1] at f2
 rw [hs2] at f3
 exact .go O (.inc O O O (by omega) (.goN O (.mk (i+1) O (lc1 O) ⟨⟨hlt,((hC.trans (Chg.ext e7)).trans (Chg.upd u2 (.inl O))).trans (Chg.upd u3 (.inr O)),f2,f3⟩,by show (nwOf n o).refs.length-(i+1)<(nwOf n o).refs.length-i;omega⟩)))
theorem AZ0 {S:Nat->Prop} {w:World} {vn vo vx:Value} {n:NtV} {o:List Int} {x:List QV} {L:Nat} (up:Up S w) (hn:eN.R S w vn n) (ho:eI.R S w vo o) (hx:eV.R S w vx x) (hkx:vk L x) (hL1:1<=L) (hL:L<=9000) :
  CR Tryz.prog 33 #[vn,vo,vx] w (Two (eV.at S (if anE n o x=0 then tab (nwOf n o).B ((nwOf n o).an (rv x)) else [])) (Is (.int .i64 (anE n o x)))):=AY9 up up hn ho hx hkx hL1 hL
theorem Af7:Ent Tryz.prog 34:=A0 Tryz.func34 (by kernel_rfl) rfl
theorem Ae0 {S T0:Nat->Prop} {w:World} {vn vo vx:Value} {n:NtV} {o:List Int} {x:List QV} {L:Nat} (up:Up S w) (upo:Up T0 w) (hn:eN.R S w vn n) (ho:eI.R S w vo o) (hx:eV.R S w vx x) (hkx:vk L x) (hL1:1<=L) (hL:L<=9000) :
  CR Tryz.prog 34 #[vn,vo,vx] w (Two (eV.at T0 (if anE n o x=0 then tab n.ls.length ((nwOf n o).fl ((nwOf n o).an (rv x))) else [])) (Is (.int .i64 (anE n o x)))):=by
 obtain ⟨s,rfl,hs,hb⟩:=hn
 have hn:eN.R S w (.agg #[.int .i64 n.b,s]) n:=⟨s,rfl,hs,hb⟩
 refine enter Tryz.func34 O Tryz.ntmps34 O (.beg (.go O (.box O O fun w1 b3 n1=>?_)))
 obtain ⟨e1,k3,hb3,hs1⟩:=n1
 refine .go O (.ldA ty_N O O k3 O (.go O ?_))
 refine .call _ O AZ6 O (AZ0 (up.ext e1.size) (hn.ext e1) (ho.ext e1) (ER.ext eV hx e1) hkx hL1 hL) fun v2 w2 e2 h2=>?_
 obtain ⟨va,ve,rfl,ha,rfl⟩:=h2
 have x2:=e1.trans e2
 refine .go O ?_
 by_cases hE:anE n o x=0
 rotate_left
 ·refine .neqT O O O hE (.goE O ?_)
  refine .plain [_,_] Tryz.results34 ⟨rfl,rfl,trivial⟩ ⟨x2,_,_,rfl,?_,rfl⟩
  rw [if_neg hE];exact RL.nil
 rw [if_pos hE] at ha ⊢
 obtain ⟨hS,_⟩:=BG1 hE
 obtain ⟨hO,_⟩:=BA8 hS
 have ok:=K4 hO
 have hB6:=ok.b6
 have hnb:=ok.b
 have hka:vk 600000 (tab (nwOf n o).B ((nwOf n o).an (rv x))):=AC2 fun c _=>(BG0 ok hL1 (fun b=>hkx.rsz hL1 b) c).mono (by omega)
 refine .neqF O O O hE (.go O (.ldA ty_N O O (k3.ext e2) O (.go O ?_)))
 refine .call _ O AM5 O (AL1 (up.ext x2.size) (upo.ext x2.size) (hn.ext x2) (ho.ext x2) ha hka (by decide) (by decide)) fun v3 w3 e3 h3=>?_
 obtain ⟨vf,ve,rfl,hf,rfl⟩:=h3
 have hsf:sfE n o (tab (nwOf n o).B ((nwOf n o).an (rv x))).length=0:=by unfold sfE;rw [if_neg (by simpa using hO),if_pos (by rw [A1];omega)]
 rw [if_pos hsf] at hf
 rw [hsf]
 have hfl:tab n.ls.length ((nwOf n o).fl (rv (tab (nwOf n o).B ((nwOf n o).an (rv x)))))=tab n.ls.length ((nwOf n o).fl ((nwOf n o).an (rv x))):=E7 fun k hk=>by
  unfold Nw.fl
  rw [P0,P0,if_pos (ok.f k hk),if_pos (ok.t k hk)]
 rw [hfl] at hf
 exact .goE O (.plain [_,_] Tryz.results34 ⟨rfl,rfl,trivial⟩ ⟨x2.trans e3,_,_,rfl,hf,by rw [hE]⟩)
end Go.Proofs.YtggegpiffjbngaaGreat
namespace Go.Kx
open Go Go.RowKit
instance (n:Nw) (k:Nat):Decidable (n.brg k):=inferInstanceAs (Decidable (_≠_))
end Go.Kx
namespace Go.Proofs.YtggegpiffjbngaaGreat
open Go Go.Kx Go.RowKit
section
variable {n:NtV} {o u:List Int}
theorem AS4 (h:outsOk n o):o.Pairwise (·<·)/\∀ x∈o,0<=x/\x<n.ls.length:=by
 refine ⟨List.pairwise_iff_getElem.2 fun i j hi hj hij=>?_,fun x hx=>?_⟩
 ·have:=Y6 h (j-i) i (by omega)
  rw [show i+(j-i)=j by omega,List.getD_eq_getElem?_getD,List.getD_eq_getElem?_getD,List.getElem?_eq_getElem hi,List.getElem?_eq_getElem hj] at this
  simp only [Option.getD_some] at this
  omega
 ·obtain ⟨i,hi,rfl⟩:=List.mem_iff_getElem.1 hx
  have:=h i hi
  rw [List.getD_eq_getElem?_getD,List.getElem?_eq_getElem hi] at this
  exact ⟨this.1,this.2.1⟩
theorem Av2 (hp:u.Pairwise (·<·)) (hx:∀ x∈u,0<=x/\x<n.ls.length):outsOk n u:=fun i hi=>by
 have h1:=hx _ (List.getElem_mem hi)
 rw [List.getD_eq_getElem?_getD,List.getElem?_eq_getElem hi]
 refine ⟨h1.1,h1.2,fun h0=>?_⟩
 rw [List.getD_eq_getElem?_getD,List.getElem?_eq_getElem (by omega:i-1<u.length)]
 exact List.pairwise_iff_getElem.1 hp (i-1) i (by omega) hi (by omega)
theorem outE_pw (hO:outE n o=0) (hp:u.Pairwise (·<·)) (hx:∀ x∈u,0<=x/\x<n.ls.length):outE n u=0:=by
 obtain ⟨hc,_⟩:=S3 hO
 unfold outE
 rw [if_neg (by simpa using hc),if_pos (Av2 hp hx)]
theorem nw_cut {k:Nat} (hm:∀ j,j∈oN u<->j=k\/j∈oN o):nwOf n u=(nwOf n o).cut k:=by
 have:(fun j=>if j∈oN u then (0:Rat) else ((n.ls.getD j ln0).x:Rat)⁻¹)=fun j=>if j=k then 0 else if j∈oN o then (0:Rat) else ((n.ls.getD j ln0).x:Rat)⁻¹:=by
  funext j
  by_cases h:j=k
  ·rw [if_pos ((hm j).2 (.inl h)),if_pos h]
  ·rw [if_neg h]
   by_cases h2:j∈oN o
   ·rw [if_pos ((hm j).2 (.inr h2)),if_pos h2]
   ·rw [if_neg h2,if_neg fun h'=>((hm j).1 h').elim h h2]
 show Nw.mk _ _ _ _ _=Nw.mk _ _ _ _ _
 rw [this]
 rfl
theorem BD3 {k:Nat} (hO:outE n o=0) (hk:k<n.ls.length) (h:Ins o (k:Nat) u):outE n u=0/\nwOf n u=(nwOf n o).cut k:=by
 have hp:=AS4 (S3 hO).2
 have hx:∀ x∈u,0<=x/\x<n.ls.length:=fun x hx=>by
  rcases (h.mem x).1 hx with rfl | h1
  ·omega
  ·exact hp.2 x h1
 refine ⟨outE_pw hO h.inc hx,nw_cut fun j=>?_⟩
 unfold oN
 rw [List.mem_map,List.mem_map]
 constructor
 ·rintro ⟨x,hxu,rfl⟩
  rcases (h.mem x).1 hxu with rfl | h1
  ·exact .inl (by simp)
  ·exact .inr ⟨x,h1,rfl⟩
 ·rintro (rfl | ⟨x,hxo,rfl⟩)
  ·exact ⟨_,(h.mem _).2 (.inl O),by simp⟩
  ·exact ⟨x,(h.mem x).2 (.inr hxo),rfl⟩
theorem g_in2 (ok:nwOk n o) {k:Nat} (hk:k<n.ls.length) (h:k∉oN o):(nwOf n o).g k≠0:=by
 have hx:=ok.x k hk
 show (if k∈oN o then (0:Rat) else ((n.ls.getD k ln0).x:Rat)⁻¹)≠0
 rw [if_neg h]
 intro h
 have h3:(((n.ls.getD k ln0).x:Int):Rat)≠0:=by
  intro h
  have:=Rat.intCast_inj.1 (h.trans Rat.intCast_zero.symm)
  omega
 have:=Rat.mul_inv_cancel _ h3
 rw [h,Rat.mul_zero] at this
 exact absurd this (by decide)
theorem Aa9 {k:Nat} (h:k∉oN o):((k:Nat):Int)∉o:=fun h'=>h (List.mem_map.2 ⟨_,h',by simp⟩)
theorem Ai2 (hO:outE n o=0):o.length<=n.ls.length:=by
 have h:=(S3 hO).2
 rcases Nat.eq_zero_or_pos o.length with h0 | h0
 ·omega
 ·have h1:=Y6 h (o.length-1) 0 (by omega)
  have h2:=h (o.length-1) (by omega)
  have h3:=h 0 h0
  rw [show 0+(o.length-1)=o.length-1 by omega] at h1
  omega
end
theorem Au2:Ent Tryz.prog 111:=A0 Tryz.func111 (by kernel_rfl) rfl
set_option maxRecDepth 8000 in
theorem Au3 {S:Nat->Prop} {w:World} {vn vo:Value} {n:NtV} {o:List Int} (up:Up S w) (hn:eN.R S w vn n) (ho:eI.R S w vo o) :
  CR Tryz.prog 111 #[vn,vo] w (Two (Is (.int .i64 (if outE n o=0 then ((nwOf n o).refs.length:Nat) else 0))) (Is (.int .i64 (outE n o)))):=by
 obtain ⟨s,rfl,hs,hb⟩:=hn
 have hn:eN.R S w (.agg #[.int .i64 n.b,s]) n:=⟨s,rfl,hs,hb⟩
 refine enter Tryz.func111 O Tryz.ntmps111 O (.beg (.go O (.box O O fun w1 b2 n1=>?_)))
 obtain ⟨e1,k2,hb2,hs1⟩:=n1
 refine .go O (.ldA ty_N O O k2 O (.go O ?_))
 refine .call _ O V8 O (U8 (up.ext e1.size) (hn.ext e1) (ho.ext e1)) fun v2 w2 e2 h2=>?_
 obtain ⟨vr,ve,rfl,hr,he⟩:=h2
 replace he:ve=.int .i64 (outE n o):=he
 subst he
 have x2:=e1.trans e2
 refine .go O ?_
 by_cases hO:outE n o=0
 rotate_left
 ·exact .neqT O O O hO (.goE O (.plain [_,_] Tryz.results111 ⟨rfl,rfl,trivial⟩ ⟨x2,_,_,rfl,by rw [if_neg hO],rfl⟩))
 rw [if_pos hO] at hr
 refine .neqF O O O hO (.go O (.lenR un_I O O hr ?_))
 rw [show (pInts (nwOf n o).refs).length=(nwOf n o).refs.length by simp]
 exact .goE O (.plain [_,_] Tryz.results111 ⟨rfl,rfl,trivial⟩ ⟨x2,_,_,rfl,by rw [if_pos hO],by rw [hO]⟩)
def brL (n:NtV) (o:List Int):List Nat:=(inL n o).filter fun k=>decide ((nwOf n o).brg k)
theorem Ac3:Ent Tryz.prog 50:=A0 Tryz.func50 (by kernel_rfl) rfl
set_option maxRecDepth 8000 in
theorem Ac4 {S:Nat->Prop} {w:World} {vn vo:Value} {n:NtV} {o:List Int} (up:Up S w) (hn:eN.R S w vn n) (ho:eI.R S w vo o) :
  CR Tryz.prog 50 #[vn,vo] w (Two (eI.at S (if outE n o=0 then pInts (brL n o) else [])) (Is (.int .i64 (outE n o)))):=by
 obtain ⟨s,rfl,hs,hb⟩:=hn
 have hn:eN.R S w (.agg #[.int .i64 n.b,s]) n:=⟨s,rfl,hs,hb⟩
 refine enter Tryz.func50 O Tryz.ntmps50 O (.beg (.go O (.box O O fun w1 b2 n1=>?_)))
 obtain ⟨e1,k2,hb2,hs1⟩:=n1
 replace k2:Blk w1 b2 24 #[.int .i64 n.b,s]:=k2
 refine .go O (.ldA ty_N O O k2 O (.go O ?_))
 refine .call _ O Z3 O (Y7 (up.ext e1.size) (hn.ext e1) (ho.ext e1)) fun v2 w2 e2 h2=>?_
 obtain ⟨vl,ve,rfl,hl,he⟩:=h2
 replace he:ve=.int .i64 (outE n o):=he
 subst he
 have x2:=e1.trans e2
 have k2:=k2.ext e2
 refine .go O ?_
 by_cases hO:outE n o=0
 rotate_left
 ·refine .neqT O O O hO (.goE O (.plain [_,_] Tryz.results50 ⟨rfl,rfl,trivial⟩ ⟨x2,_,_,rfl,?_,rfl⟩))
  rw [if_neg hO];exact RL.nil
 have ok:=K4 hO
 have hM10:n.ls.length<=10:=ok.m
 have hll:=S4 n o
 have hpw:=AS4 (S3 hO).2
 have hol:=Ai2 hO
 rw [if_pos hO] at hl ⊢
 refine .neqF O O O hO (.go O (.ldA ty_N O O k2 O (.go O ?_)))
 refine .call _ O Au2 O (Au3 (up.ext x2.size) (hn.ext x2) (ho.ext x2)) fun v3 w3 e3 h3=>?_
 obtain ⟨vc,ve,rfl,hc,he⟩:=h3
 replace he:ve=.int .i64 (outE n o):=he
 replace hc:vc=.int .i64 (if outE n o=0 then ((nwOf n o).refs.length:Nat) else 0):=hc
 rw [if_pos hO] at hc
 subst he hc
 have x3:=x2.trans e3
 have k2:=k2.ext e3
 have hl:=ER.ext eI hl e3
 have z3:=x3.size
 refine .go O (.neqF O O O hO (.go O (.lenR un_I O O hl (.goC O ?_))))
 rw [show (pInts (inL n o)).length=(inL n o).length by simp]
 generalize hP:(fun k=>decide ((nwOf n o).brg k))=P
 have hbr:brL n o=(inL n o).filter P:=by rw [<-hP];rfl
 rw [hbr]
 refine .lp (α:=Nat×Value) [1,2,8,33,34] O (fun y=>[(9,y.2),(35,.int .i64 (y.1:Nat))]) (fun y W=>Ext w3 W/\y.1<=(inL n o).length/\OwnL (eInt .i64) 3 w3.heap.size S W y.2 (pInts (((inL n o).take y.1).filter P))) (fun y=>(inL n o).length-y.1) (0,.slice none 0 0) (lc2 O O) ⟨Ext.refl _,Nat.zero_le _,OwnL.nil⟩ ?_
 rintro ⟨i,v⟩ W ⟨hW,hi,hown⟩
 replace hW:Ext w3 W:=hW
 replace hi:i<=(inL n o).length:=hi
 replace hown:OwnL (eInt .i64) 3 w3.heap.size S W v (pInts (((inL n o).take i).filter P)):=hown
 have hlW:=ER.ext eI hl hW
 have xW:=x3.trans hW
 have zW:=hW.size
 refine .go O ?_
 rcases Nat.lt_or_ge i (inL n o).length with hlt | hge
 rotate_left
 ·have:i=(inL n o).length:=by omega
  subst this
  rw [List.take_of_length_le (Nat.le_refl _)] at hown
  exact .lssF O O O (by omega) (.goE O (.plain [_,_] Tryz.results50 ⟨rfl,rfl,trivial⟩ ⟨xW,_,_,rfl,hown.toR (fun k hk=>up k (by omega)) (fun _ h=>h),by rw [hO]⟩))
 obtain ⟨hgk,hkM,hko⟩:=AF5 hlt
 have htk:(inL n o).take (i+1)=(inL n o).take i++[(inL n o).getD i 0]:=by rw [List.take_add_one,A7 (z:=0) hlt];rfl
 have hfl:(((inL n o).take i).filter P).length<=10:=Nat.le_trans (List.length_filter_le ..) (by rw [List.length_take];omega)
 generalize (inL n o).getD i 0=k at hgk hkM hko htk
 have hgk0:=g_in2 ok hkM hko
 refine .lssT O O O (by omega) (.go O (.ixN (i:=i) un_I B0 O O hlW O hgk fun q hq=>.ldE (E:=eInt .i64) B0 O O hq fun e he=>.go O ?_))
 obtain ⟨rfl,_⟩:=he
 refine .bsl _ O O AO2 fun W1 b1 n1=>?_
 have hk1:eI.R S W1 (.slice (some ⟨b1,0,none⟩) 1 1) [((k:Nat):Int)]:=Ae2 (E:=eInt .i64) (hsz:=by decide) [.int .i64 (k:Nat)] [((k:Nat):Int)] n1 (up.ext xW.size) O O (by decide) (Els.snoc Els.nil ⟨rfl,I3.2 (by omega)⟩)
 have d1:=n1.1
 have x1:=xW.trans d1
 refine .call _ O Au1 O (Au0 (up.ext x1.size) (ho.ext x1) hk1 hpw.1 (fun x hx=>(hpw.2 x hx).1) (by omega) (Aa9 hko) (by omega)) fun v5 W5 d5 h5=>?_
 obtain ⟨vu,ve,rfl,⟨u,hIns,hu⟩,rfl⟩:=h5
 obtain ⟨hOu,hcut⟩:=BD3 hO hkM hIns
 have x5:=x1.trans d5
 refine .go O (.neqF O O O O (.go O (.ldA ty_N O O (k2.ext ((hW.trans d1).trans d5)) O (.go O ?_))))
 refine .call _ O Au2 O (Au3 (up.ext x5.size) (hn.ext x5) hu) fun v6 W6 d6 h6=>?_
 obtain ⟨vc,ve,rfl,hc,he⟩:=h6
 replace he:ve=.int .i64 (outE n u):=he
 replace hc:vc=.int .i64 (if outE n u=0 then ((nwOf n u).refs.length:Nat) else 0):=hc
 rw [if_pos hOu,hcut] at hc
 rw [hOu] at he
 subst he hc
 have dd:=(d1.trans d5).trans d6
 have hWW:=hW.trans dd
 have hbc:=Nw.brg_cnt ok.ok hkM hgk0
 refine .go O (.neqF O O O O (.go O ?_))
 by_cases hB:(nwOf n o).brg k
 ·have hPk:P k=true:=by rw [<-hP];exact decide_eq_true hB
  have hbc:=hbc.1 hB
  refine .gtrT O O O (by omega) (.go O (.bsl _ O O AO2 fun W7 b7 n7=>?_))
  obtain ⟨d7,k7,hb7,hs7⟩:=n7
  have d17:=dd.trans d7
  have hW7:=hW.trans d17
  refine .gv O O (AA0 (E:=eInt .i64) (base:=w3.heap.size) (n:=((k:Nat):Int)) (e:=.int .i64 (k:Nat)) (by decide) un_I AD4 O O O (hown.ext d17) k7 ⟨rfl,I3.2 (by omega)⟩ (by simp;omega) (by decide) hW7.size) ?_
  rintro v8 W8 ⟨ho8,hg8⟩
  have hW8:Ext w3 W8:=OwnL.below (hown.ext d17) hg8 hW7 hW7.size
  refine .go O (.inc O O O (by omega) (.goN O (.mk (i+1,v8) O (lc2 O O) ⟨⟨hW8,hlt,?_⟩,by show (inL n o).length-(i+1)<(inL n o).length-i;omega⟩)))
  show OwnL (eInt .i64) 3 w3.heap.size S W8 v8 (pInts (((inL n o).take (i+1)).filter P))
  rw [htk,List.filter_append,List.filter_cons_of_pos hPk,List.filter_nil]
  unfold pInts
  rw [List.map_append]
  exact ho8
 ·have hPk:¬ P k=true:=by rw [<-hP];simpa using hB
  have hbc:¬ _:=fun h=>hB (hbc.2 h)
  refine .gtrF O O O (by omega) (.go O (.inc O O O (by omega) (.goN O (.mk (i+1,v) O (lc2 O O) ⟨⟨hWW,hlt,?_⟩,by show (inL n o).length-(i+1)<(inL n o).length-i;omega⟩))))
  show OwnL (eInt .i64) 3 w3.heap.size S W6 v (pInts (((inL n o).take (i+1)).filter P))
  rw [htk,List.filter_append,List.filter_cons_of_neg hPk,List.filter_nil,List.append_nil]
  exact hown.ext dd
noncomputable def lkE (n:NtV) (o:List Int) (line:Int):Int:=if outE n o≠0 then outE n o else if line∈pInts (inL n o) then (if (nwOf n o).brg line.toNat then 11 else 0) else 1
theorem An2 {n:NtV} {o:List Int} {line:Int} (h:lkE n o line=0):outE n o=0/\∃ k:Nat,line=k/\k<n.ls.length/\(nwOf n o).g k≠0/\k∉oN o/\¬ (nwOf n o).brg k:=by
 unfold lkE at h
 split at h
 ·rename_i h1;exact absurd h h1
 rename_i h1
 have hO:=Classical.not_not.1 h1
 split at h
 ·rename_i h2
  split at h
  ·cases h
  ·rename_i h3
   obtain ⟨k,hk,rfl⟩:=List.mem_map.1 h2
   obtain ⟨a,b⟩:=AS7.1 hk
   exact ⟨hO,k,rfl,a,g_in2 (K4 hO) a b,b,h3⟩
 ·cases h
theorem AM3:Ent Tryz.prog 118:=A0 Tryz.func118 (by kernel_rfl) rfl
set_option maxRecDepth 8000 in
theorem AK7 {S:Nat->Prop} {w:World} {vn vo:Value} {n:NtV} {o:List Int} {line:Int} (up:Up S w) (hn:eN.R S w vn n) (ho:eI.R S w vo o) :
  CR Tryz.prog 118 #[vn,vo,.int .i64 line] w (Is (.int .i64 (lkE n o line))):=by
 obtain ⟨s,rfl,hs,hb⟩:=hn
 have hn:eN.R S w (.agg #[.int .i64 n.b,s]) n:=⟨s,rfl,hs,hb⟩
 refine enter Tryz.func118 O Tryz.ntmps118 O (.beg (.go O (.box O O fun w1 b3 n1=>?_)))
 obtain ⟨e1,k3,hb3,hs1⟩:=n1
 refine .go O (.ldA ty_N O O k3 O (.go O ?_))
 refine .call _ O Z3 O (Y7 (up.ext e1.size) (hn.ext e1) (ho.ext e1)) fun v2 w2 e2 h2=>?_
 obtain ⟨vl,ve,rfl,hl,he⟩:=h2
 replace he:ve=.int .i64 (outE n o):=he
 subst he
 have x2:=e1.trans e2
 have k3:=k3.ext e2
 refine .go O ?_
 by_cases hO:outE n o=0
 rotate_left
 ·have hlk:lkE n o line=outE n o:=by unfold lkE;rw [if_pos hO]
  exact .neqT O O O hO (.goE O (.plain [_] Tryz.results118 ⟨rfl,trivial⟩ ⟨x2,by rw [hlk];rfl⟩))
 have ok:=K4 hO
 have hM10:n.ls.length<=10:=ok.m
 have hll:=S4 n o
 rw [if_pos hO] at hl
 refine .neqF O O O hO (.go O ?_)
 refine .call _ O AX8 O (AX9 hl (by simp;omega)) fun v3 w3 e3 h3=>?_
 subst h3
 have x3:=x2.trans e3
 by_cases hm:line∈pInts (inL n o)
 rotate_left
 ·rw [decide_eq_false hm]
  have hlk:lkE n o line=1:=by unfold lkE;rw [if_neg (by simpa using hO),if_neg hm]
  exact .goE O (.plain [_] Tryz.results118 ⟨rfl,trivial⟩ ⟨x3,by rw [hlk];rfl⟩)
 rw [decide_eq_true hm]
 refine .go O (.ldA ty_N O O (k3.ext e3) O (.go O ?_))
 refine .call _ O Ac3 O (Ac4 (up.ext x3.size) (hn.ext x3) (ho.ext x3)) fun v4 w4 e4 h4=>?_
 obtain ⟨vb,ve,rfl,hbr,he⟩:=h4
 replace he:ve=.int .i64 (outE n o):=he
 subst he
 rw [if_pos hO] at hbr
 have x4:=x3.trans e4
 refine .go O (.neqF O O O hO (.go O ?_))
 refine .call _ O AX8 O (AX9 hbr (by simp;unfold brL;exact Nat.le_trans (List.length_filter_le ..) (by omega))) fun v5 w5 e5 h5=>?_
 subst h5
 have x5:=x4.trans e5
 have hiff:line∈pInts (brL n o)<->(nwOf n o).brg line.toNat:=by
  obtain ⟨k,hk,rfl⟩:=List.mem_map.1 hm
  have:(((k:Nat):Int)).toNat=k:=by simp
  rw [this]
  unfold pInts brL
  rw [List.mem_map]
  constructor
  ·rintro ⟨j,hj,e⟩
   have:j=k:=by omega
   subst this
   exact of_decide_eq_true (List.mem_filter.1 hj).2
  ·intro h
   exact ⟨k,List.mem_filter.2 ⟨hk,decide_eq_true h⟩,rfl⟩
 by_cases hB:(nwOf n o).brg line.toNat
 ·rw [decide_eq_true (hiff.2 hB)]
  have hlk:lkE n o line=11:=by unfold lkE;rw [if_neg (by simpa using hO),if_pos hm,if_pos hB]
  exact .goE O (.plain [_] Tryz.results118 ⟨rfl,trivial⟩ ⟨x5,by rw [hlk];rfl⟩)
 ·rw [decide_eq_false fun h=>hB (hiff.1 h)]
  have hlk:lkE n o line=0:=by unfold lkE;rw [if_neg (by simpa using hO),if_pos hm,if_neg hB]
  exact .goE O (.plain [_] Tryz.results118 ⟨rfl,trivial⟩ ⟨x5,by rw [hlk];rfl⟩)
theorem Af4:Ent Tryz.prog 57:=A0 Tryz.func57 (by kernel_rfl) rfl
noncomputable def afE (n:NtV) (o:List Int) (line:Int) (x:List QV):Int:=if lkE n o line≠0 then lkE n o line else anE n o x
def afV (n:NtV) (o:List Int) (k:Nat) (x:List QV):List QV:=tab n.ls.length (((nwOf n o).cut k).fl (((nwOf n o).cut k).an (rv x)))
theorem At8 {n:NtV} {o u:List Int} {x:List QV} {k:Nat} (hO:outE n o=0) (hOu:outE n u=0) (hcut:nwOf n u=(nwOf n o).cut k) (hb:¬ (nwOf n o).brg k):anE n u x=anE n o x:=by
 have hs:sfE n u x.length=sfE n o x.length:=by
  unfold sfE
  rw [hO,hOu]
 have hbal:(nwOf n u).bal (rv x)<->(nwOf n o).bal (rv x):=by rw [hcut];exact Nw.cut_bal (K4 hO).ok hb _
 unfold anE
 rw [hs]
 congr 1
 by_cases h2:(nwOf n o).bal (rv x)
 ·rw [if_pos (hbal.2 h2),if_pos h2]
 ·rw [if_neg (fun h'=>h2 (hbal.1 h')),if_neg h2]
set_option maxRecDepth 8000 in
theorem Ad7 {S T0:Nat->Prop} {w:World} {vn vo vx:Value} {n:NtV} {o:List Int} {x:List QV} {line:Int} {L:Nat} (up:Up S w) (upo:Up T0 w) (hn:eN.R S w vn n) (ho:eI.R S w vo o) (hx:eV.R S w vx x) (hkx:vk L x) (hL1:1<=L) (hL:L<=9000) :
  CR Tryz.prog 57 #[vn,vo,.int .i64 line,vx] w (Two (eV.at T0 (if afE n o line x=0 then afV n o line.toNat x else [])) (Is (.int .i64 (afE n o line x)))):=by
 obtain ⟨s,rfl,hs,hb⟩:=hn
 have hn:eN.R S w (.agg #[.int .i64 n.b,s]) n:=⟨s,rfl,hs,hb⟩
 refine enter Tryz.func57 O Tryz.ntmps57 O (.beg (.go O (.box O O fun w1 b4 n1=>?_)))
 obtain ⟨e1,k4,hb4,hs1⟩:=n1
 refine .go O (.ldA ty_N O O k4 O (.go O ?_))
 refine .call _ O AM3 O (AK7 (up.ext e1.size) (hn.ext e1) (ho.ext e1)) fun v2 w2 e2 h2=>?_
 subst h2
 have x2:=e1.trans e2
 have k4:=k4.ext e2
 refine .go O ?_
 by_cases hK:lkE n o line=0
 rotate_left
 ·have haf:afE n o line x=lkE n o line:=by unfold afE;rw [if_pos hK]
  refine .neqT O O O hK (.goE O (.plain [_,_] Tryz.results57 ⟨rfl,rfl,trivial⟩ ⟨x2,_,_,rfl,?_,by rw [haf]⟩))
  rw [if_neg (by rw [haf];exact hK)];exact RL.nil
 have haf:afE n o line x=anE n o x:=by unfold afE;rw [if_neg (by simpa using hK)]
 obtain ⟨hO,k,rfl,hkM,hg,hko,hB⟩:=An2 hK
 have ok:=K4 hO
 have hM10:n.ls.length<=10:=ok.m
 have hpw:=AS4 (S3 hO).2
 have hol:=Ai2 hO
 rw [haf]
 refine .neqF O O O hK (.go O (.bsl _ O O AO2 fun W1 b1 n1=>?_))
 have hk1:eI.R S W1 (.slice (some ⟨b1,0,none⟩) 1 1) [((k:Nat):Int)]:=Ae2 (E:=eInt .i64) (hsz:=by decide) [.int .i64 (k:Nat)] [((k:Nat):Int)] n1 (up.ext x2.size) O O (by decide) (Els.snoc Els.nil ⟨rfl,I3.2 (by omega)⟩)
 have d1:=n1.1
 have x1:=x2.trans d1
 refine .call _ O Au1 O (Au0 (up.ext x1.size) (ho.ext x1) hk1 hpw.1 (fun x hx=>(hpw.2 x hx).1) (by omega) (Aa9 hko) (by omega)) fun v5 W5 d5 h5=>?_
 obtain ⟨vu,ve,rfl,⟨u,hIns,hu⟩,rfl⟩:=h5
 obtain ⟨hOu,hcut⟩:=BD3 hO hkM hIns
 have x5:=x1.trans d5
 refine .go O (.neqF O O O O (.go O (.ldA ty_N O O (k4.ext (d1.trans d5)) O (.go O ?_))))
 refine .call _ O Af7 O (Ae0 (up.ext x5.size) (upo.ext x5.size) (hn.ext x5) hu (ER.ext eV hx x5) hkx hL1 hL) fun v6 W6 d6 h6=>?_
 obtain ⟨vf,ve,rfl,hf,he⟩:=h6
 replace he:ve=.int .i64 (anE n u x):=he
 subst he
 rw [At8 hO hOu hcut hB,hcut] at hf
 rw [At8 hO hOu hcut hB]
 exact .goE O (.plain [_,_] Tryz.results57 ⟨rfl,rfl,trivial⟩ ⟨x5.trans d6,_,_,rfl,hf,rfl⟩)
theorem isV_t {w:World} {va vb:Value} {a b:List QV} (ha:eV.R (fun _=>True) w va a) (hb:eV.R (fun _=>True) w vb b) (h:a=b):CR Tryz.prog 22 #[va,vb] w (Is (.bool true)):=by
 have:=Q3 ha hb
 rwa [N1 h] at this
end Go.Proofs.YtggegpiffjbngaaGreat
namespace Go.Kx
open Go Go.RowKit
theorem Nw.th_cand {n:Nw} (ok:n.Ok) (hB:1<=n.B) (cand:Nat->Nat->Rat) (h:∀ b,b<n.B->∀ i,i<n.B->(if n.root i=i then cand b i else n.lap (cand b) i)=dl i b) {b c:Nat} (hb:b<n.B) (hc:c<n.B):n.th b c=cand b c :=
 Nw.uniq ok (fun i hi=>by
  have h1:=Go.Proofs.YtggegpiffjbngaaGreat.Ah2 ok hB hb hi
  have h2:=h b hb i hi
  split
  ·rw [if_pos (by assumption)] at h1 h2;rw [h1,h2]
  ·rw [if_neg (by assumption)] at h1 h2;rw [h1,h2]) c hc
theorem Nw.hf_cand {n:Nw} (ok:n.Ok) (hB:1<=n.B) (cand:Nat->Nat->Rat) (h:∀ b,b<n.B->∀ i,i<n.B->(if n.root i=i then cand b i else n.lap (cand b) i)=dl i b) {k b:Nat} (hk:k<n.M) (hb:b<n.B):n.hf k b=n.fl (cand b) k:=by
 unfold Nw.hf Nw.fl
 rw [Nw.th_cand ok hB cand h hb (ok.f k hk),Nw.th_cand ok hB cand h hb (ok.t k hk)]
def net3:NtV:=⟨3,[⟨0,1,10,100⟩,⟨1,2,5,50⟩,⟨0,2,10,70⟩]⟩
def cand3 (b c:Nat):Rat:=if b=0 then 1 else if c=0 then 0 else if b=c then 6 else 4
def outsB (m:Nat) (o:List Int):Bool:=(List.range o.length).all fun i=>decide (0<=o.getD i 0) && decide (o.getD i 0<m) && (decide (i=0) || decide (o.getD (i-1) 0<o.getD i 0))
theorem BB9 {n:NtV} {o:List Int} (h:outsB n.ls.length o=true):outsOk n o:=by
 unfold outsB at h
 rw [List.all_eq_true] at h
 intro i hi
 have:=h i (List.mem_range.2 hi)
 simp only [Bool.and_eq_true,Bool.or_eq_true,decide_eq_true_eq] at this
 exact ⟨this.1.1,this.1.2,fun h0=>by rcases this.2 with h | h;omega;exact h⟩
def chkB (n:NtV):Bool:=decide (1<=n.b) && decide (n.b<=6) && decide (n.ls.length<=10) && n.ls.all fun l=>(List.range 5).all fun i=>ck i n.b l
theorem Ar5 {n:NtV} {o:List Int} (h:chkB n=true) (ho:outsB n.ls.length o=true):outE n o=0:=by
 unfold chkB at h
 simp only [Bool.and_eq_true,decide_eq_true_eq,List.all_eq_true] at h
 obtain ⟨⟨⟨h1,h2⟩,h3⟩,h4⟩:=h
 have hc:chkE n=0:=by
  unfold chkE
  rw [if_neg (by omega),if_neg (by omega),if_pos]
  exact fun i _ l hl j hj=>h4 l (List.mem_iff_getElem?.2 ⟨i,hl⟩) j (List.mem_range.2 hj)
 unfold outE
 rw [if_neg (by simpa using hc),if_pos (BB9 ho)]
end Go.Kx
namespace Go.Proofs.YtggegpiffjbngaaGreat
open Go Go.Kx Go.RowKit
theorem un_II:Tryz.prog.underlying 47=some (.slice 25):=by kernel_rfl
theorem Af6:Ent Tryz.prog 15:=A0 Tryz.func15 (by kernel_rfl) rfl
theorem Ay7:zeroOf Tryz.prog 24=some (.agg #[.int .i64 0,.slice none 0 0]):=by kernel_rfl
theorem Ae8 {a b c d:Int}:bldOf Tryz.prog 58 [(0,.int .i64 a),(1,.int .i64 b),(2,.int .i64 c),(3,.int .i64 d)]=some #[.int .i64 a,.int .i64 b,.int .i64 c,.int .i64 d]:=by kernel_rfl
theorem bsl_Ls3 {a b c d a' b' c' d' a2 b2 c2 d2:Value}:bslOf Tryz.prog 22 3 [(0,.agg #[a,b,c,d]),(1,.agg #[a',b',c',d']),(2,.agg #[a2,b2,c2,d2])]=some (58,#[a,b,c,d,a',b',c',d',a2,b2,c2,d2]):=by kernel_rfl
theorem bld_N2 {b:Int} {a:Option Addr} {n c:Nat}:bldOf Tryz.prog 24 [(0,.int .i64 b),(1,.slice a n c)]=some #[.int .i64 b,.slice a n c]:=by kernel_rfl
theorem ln_R {S:Nat->Prop} {w:World} {a b c d:Int} (h:∀ x∈[a,b,c,d],-9223372036854775808<=x/\x<=9223372036854775807):eL.R S w (.agg #[.int .i64 a,.int .i64 b,.int .i64 c,.int .i64 d]) ⟨a,b,c,d⟩:=⟨rfl,I3.2 (h a (by simp)),I3.2 (h b (by simp)),I3.2 (h c (by simp)),I3.2 (h d (by simp))⟩
theorem ok3:outE net3 []=0:=Ar5 (by decide) (by decide)
theorem BF4:∀ b,b<(nwOf net3 []).B->∀ i,i<(nwOf net3 []).B->(if (nwOf net3 []).root i=i then cand3 b i else (nwOf net3 []).lap (cand3 b) i)=dl i b:=by
 have:∀ b,b<3->∀ i,i<3->(if (nwOf net3 []).root i=i then cand3 b i else (nwOf net3 []).lap (cand3 b) i)=dl i b:=by decide +kernel
 exact this
theorem BF2 {n:NtV} {o:List Int} {a b:Int} (h:outE n o=0):(busB n a/\busB n b->conE n o a b=0)/\(¬ (busB n a/\busB n b)->conE n o a b=1):=by
 unfold conE
 rw [if_neg (by simpa using h)]
 exact ⟨fun h=>if_pos h,fun h=>if_neg h⟩
theorem btE_val {n:NtV} {o:List Int} {a b:Int} (h:outE n o=0):(busB n a/\busB n b->(nwOf n o).root a.toNat=(nwOf n o).root b.toNat->btE n o a b=0)/\(busB n a/\busB n b->(nwOf n o).root a.toNat≠(nwOf n o).root b.toNat->btE n o a b=8)/\(¬ (busB n a/\busB n b)->btE n o a b=1):=by
 obtain ⟨h1,h2⟩:=BF2 (a:=a) (b:=b) h
 refine ⟨fun hb hr=>?_,fun hb hr=>?_,fun hb=>?_⟩
 ·unfold btE conB
  rw [if_neg (by simpa using h1 hb),if_pos (decide_eq_true ⟨h1 hb,hr⟩)]
 ·unfold btE conB
  rw [if_neg (by simpa using h1 hb),if_neg (by rw [decide_eq_false fun h=>hr h.2];decide)]
 ·unfold btE
  rw [if_pos (by rw [h2 hb];decide),h2 hb]
end Go.Proofs.YtggegpiffjbngaaGreat
namespace Go.Kx
open Go Go.RowKit
theorem eV_sep {S:Nat->Prop} {w:World} {v:Value} {l:List QV} {b:Nat} {t:TypeId} {cs:Array Value} (h:eV.R S w v l) (hb:Blk w b t cs) (hc:∀ (i:Nat) (n:Int),cs[i]?≠some (Value.int .u32 n)) (hc2:∀ (i:Nat) (x:Bool),cs[i]?≠some (Value.bool x)):eV.R (fun k=>S k/\k≠b) w v l:=by
 obtain ⟨es,he,a,c,hv,h1,h2,h3,h4⟩:=h
 refine ⟨es,⟨he.1,fun i e x hx hy=>AI5 (he.2 i e x hx hy) hb hc⟩,a,c,hv,h1,h2,h3,fun hn=>?_⟩
 obtain ⟨ad,ha,hS,hcl⟩:=h4 hn
 refine ⟨ad,ha,⟨hS,fun e=>?_⟩,hcl⟩
 obtain ⟨e0,he0⟩:∃ e,es[0]?=some e:=⟨_,List.getElem?_eq_getElem (by rw [he.1];exact hn)⟩
 obtain ⟨s1,t1,rfl,_,_⟩:=he.2 0 e0 _ he0 (List.getElem?_eq_getElem hn)
 have hg:=C3 (sz:=4) es 0 0 _ he.sz he0 (by omega)
 have hcell:=(hcl 0 _ hg).1
 obtain ⟨b0,o0,g0⟩:=ad
 have e:b0=b:=e
 subst e
 have h':w.heap[b0]?=some (.cells cs t (0,0)):=hb
 simp only [World.cell?,Addr.add,if_pos,h'] at hcell
 split at hcell
 ·cases hcell
 ·exact hc2 _ _ hcell
theorem Ai3:(∀ (i:Nat) (n:Int),(#[.slice none 0 0]:Array Value)[i]?≠some (Value.int .u32 n))/\∀ (i:Nat) (x:Bool),(#[.slice none 0 0]:Array Value)[i]?≠some (Value.bool x):=by
 constructor
 ·intro i n
  match i with
  | 0=>simp
  | i+1=>simp
 ·intro i n
  match i with
  | 0=>simp
  | i+1=>simp
end Go.Kx
namespace Go.Proofs.YtggegpiffjbngaaGreat
open Go Go.Kx Go.RowKit
theorem E_lofac:Ent Tryz.prog 119:=A0 Tryz.func119 (by kernel_rfl) rfl
set_option maxRecDepth 8000 in
theorem lofac_t {S T0:Nat->Prop} {w:World} {vb q:Value} {M k l b1 b2 b3 L:Nat} {bt:Nat->Rat} {r:Rat} (up:Up S w) (upo:Up T0 w) (k1:Blk w b1 3 #[.int .i64 (k:Nat)]) (k2:Blk w b2 32 #[vb]) (hb:eV.R S w vb (tab M bt)) (k3:Blk w b3 54 q.cells) (hq:eQ.R S w q (qc r))
  (hr:r≠0) (hbz:∀ i,Rsz (bt i) L) (hrz:Rsz r L) (hL:1<=L) (hL2:L<=1000000000) (hl:l<M) :
  CR Tryz.prog 119 #[.int .i64 (l:Nat),.pointer (some ⟨b1,0,none⟩),.pointer (some ⟨b2,0,none⟩),.pointer (some ⟨b3,0,none⟩)] w (eQ.at T0 (qc (if l=k then -1 else bt l / r))):=by
 have hqv:=shpA (E:=eQ) O hq
 refine enter Tryz.func119 O Tryz.ntmps119 O (.beg (.go O (.alloc O C7 fun W1 b5 n1=>?_)))
 obtain ⟨e1,k5,hb5,hs1⟩:=n1
 refine .go O (.ld A8 O O (k1.ext e1) O ?_)
 by_cases hlk:l=k
 ·rw [if_pos hlk]
  refine .eqlT O O O (by omega) (.go O ?_)
  refine .call _ O D3 O (D0 (n := -1) (S:=fun j=>T0 j/\j≠b5) (fun j hj=>⟨upo j (by omega),by omega⟩) (by decide) (by decide)) fun v2 W2 e2 h2=>?_
  refine .storeA (E:=eQ) ty_Q O O (k5.ext e2) O O h2 (fun h=>h.2 O) fun W3 k5 u3 h3=>?_
  exact .goE O (.cell Tryz.results119 O ty_Q O O k5 h3 ⟨u3.below (e1.trans e2) (by omega),eQ.mono (fun _ _ h=>h.1) h3⟩)
 rw [if_neg hlk]
 have hbl:=E9 (g:=bt) hl
 have hbW:∀ {W:World},Ext w W->eV.R S W vb (tab M bt):=fun e=>ER.ext eV hb e
 have hqW:∀ {W:World},Ext w W->eQ.R S W q (qc r):=fun e=>ER.ext eQ hq e
 have upO:∀ {W:World},Ext W1 W->Up (fun j=>T0 j/\j≠b5) W:=fun e j hj=>⟨upo j (by have:=e.size;omega),by have:=e.size;omega⟩
 refine .eqlF O O O (by omega) (.goC O ?_)
 refine .parL follows 10 [8] [.inl vb,.inl _,.inr (Ptr eQ S (qc (bt l))),.inr (eQ.at S (qc (bt l))),.inl q,.inr (Two (eQ.at (fun j=>T0 j/\j≠b5) (qc (bt l / r))) (Is (.int .i64 0))),.inr (Two (eQ.at (fun j=>T0 j/\j≠b5) (qc (bt l / r))) (Is (.int .i64 0))),.inr (eQ.at (fun j=>T0 j/\j≠b5) (qc (bt l / r))),.inl (.int .i64 0),.inr (NewP W1.heap.size 54 zq.cells)] [[],[],[(13,0),(14,1)],[(15,2)],[],[(16,3),(17,4)],[(18,5)],[(12,6)],[(12,6)],[]] (by kernel_rfl) ⟨
  fun w e=>(v_ld ty_V O (k2.ext (e1.trans e)) O).ob,
  fun w e=>(v_mv O).ob,
  fun w e=>D5 (i:=l) un_V ty_Q O (hbW (e1.trans e)) O hbl,
  fun w e x2 hx2=>M0 ty_Q O hx2,
  fun w e=>((C8 ty_Q O (k3.ext (e1.trans e)) (eQ.csz hq)).eq hqv.symm).ob,
  fun w e x3 hx3=>(by have:=AA2 (L:=L) (up.ext (e1.trans e).size) (upO e) hx3 (hqW (e1.trans e)) (hbz l).toOk hrz.toOk hL (by omega) (by rw [B5];exact hr);rw [B5,B5] at this;exact (A6 _ AB3 O this).ob (K6 (A9 _ _ _) (R8 _))),
  fun w e x5 hx5=>K2 (v_mv O) hx5 (K6 (A9 _ _ _) (R8 _)),
  fun w e x6 hx6=>by
   obtain ⟨p1,q1,rfl,hp1,hq1⟩:=hx6
   exact K2 (v_ex O O) hp1 (A9 _ _ _),
  fun w e x6 hx6=>by
   obtain ⟨p1,q1,rfl,hp1,hq1⟩:=hx6
   exact ((v_ex O O).eq hq1).ob,
  fun w e=>O4 C7 e.size,trivial⟩ ?_
 rintro W2 e2 y2 hy2 y3 hy3 y5 hy5 y6 hy6 y7 hy7 _ ⟨b6,rfl,hb6,k6⟩
 have hy:=AI5 hy7 k6 P8
 have z2:=e2.size
 refine .storeA (E:=eQ) ty_Q O O k6 O O hy (fun h=>h.2 O) fun W3 k6 u3 h3=>?_
 have hyv:=shpA (E:=eQ) O h3
 refine .go O (.ldA ty_Q O O k6 (eQ.csz h3) ?_)
 rw [<-hyv]
 have e3:Ext W1 W3:=u3.below e2 hb6
 have z3:=u3.size
 have h3:eQ.R (fun j=>T0 j/\j≠b5) W3 y7 _:=eQ.mono (fun _ _ h=>h.1) h3
 refine .storeA (E:=eQ) ty_Q O O (k5.ext e3) O O h3 (fun h=>h.2 O) fun W4 k5 u4 h4=>?_
 exact .goE O (.cell Tryz.results119 O ty_Q O O k5 h4 ⟨u4.below (e1.trans e3) (by omega),eQ.mono (fun _ _ h=>h.1) h4⟩)
theorem J5:Ent Tryz.prog 54:=A0 Tryz.func54 (by kernel_rfl) rfl
def loV (n:NtV) (o:List Int) (k:Nat):List QV:=tab n.ls.length ((nwOf n o).lo k)
theorem Ao1 {n:NtV} {o:List Int} (ok:nwOk n o) (k l:Nat):Rsz ((nwOf n o).bt k l) 349529:=by
 have:=(Ad8 ok l ((nwOf n o).F k)).add (Ad8 ok l ((nwOf n o).T k)).neg
 rw [<-Rat.sub_eq_add_neg] at this
 exact this
theorem rst_rsz {n:NtV} {o:List Int} (ok:nwOk n o) (k:Nat):Rsz ((nwOf n o).rst k) 400000:=by
 have:=(rsz1 (L:=1) (Nat.le_refl _)).add (Ao1 ok k k).neg
 rw [<-Rat.sub_eq_add_neg] at this
 exact this.mono (by decide)
set_option maxRecDepth 8000 in
theorem I9 {S T0:Nat->Prop} {w:World} {vn vo:Value} {n:NtV} {o:List Int} {line:Int} (up:Up S w) (upo:Up T0 w) (hn:eN.R S w vn n) (ho:eI.R S w vo o) :
  CR Tryz.prog 54 #[vn,vo,.int .i64 line] w (Two (eV.at T0 (if lkE n o line=0 then loV n o line.toNat else [])) (Is (.int .i64 (lkE n o line)))):=by
 obtain ⟨s,rfl,hs,hb⟩:=hn
 have hn:eN.R S w (.agg #[.int .i64 n.b,s]) n:=⟨s,rfl,hs,hb⟩
 refine enter Tryz.func54 O Tryz.ntmps54 O (.beg (.go O (.box O O fun w1 b3 n1=>.box O O fun w1' b5 n1'=>?_)))
 obtain ⟨e1,k3,hb3,hs1⟩:=n1
 obtain ⟨e1',k5,hb5,hs1'⟩:=n1'
 have x1:=e1.trans e1'
 replace k3:Blk w1' b3 24 #[.int .i64 n.b,s]:=k3.ext e1'
 replace k5:Blk w1' b5 3 #[.int .i64 line]:=k5
 refine .go O (.ldA ty_N O O k3 O (.go O (.ld A8 O O k5 O ?_)))
 refine .call _ O AM3 O (AK7 (up.ext x1.size) (hn.ext x1) (ho.ext x1)) fun v2 w2 e2 h2=>?_
 subst h2
 have x2:=x1.trans e2
 have k3:=k3.ext e2
 have k5:=k5.ext e2
 refine .go O ?_
 by_cases hK:lkE n o line=0
 rotate_left
 ·refine .neqT O O O hK (.goE O (.plain [_,_] Tryz.results54 ⟨rfl,rfl,trivial⟩ ⟨x2,_,_,rfl,?_,rfl⟩))
  rw [if_neg hK];exact RL.nil
 obtain ⟨hO,k,rfl,hkM,hg,hko,hB⟩:=An2 hK
 have ok:=K4 hO
 have hM10:n.ls.length<=10:=ok.m
 have hnb:=ok.b
 have z2:=x2.size
 have hgl:n.ls[k]?=some (n.ls.getD k ln0):=A7 hkM
 have hFI:=ok.fI k hkM
 have hTI:=ok.tI k hkM
 have hFB:=ok.f k hkM
 have hTB:=ok.t k hkM
 have hF0:lnI (n.ls.getD k ln0) 0=(((nwOf n o).F k:Nat):Int):=hFI
 have hT0:lnI (n.ls.getD k ln0) 1=(((nwOf n o).T k:Nat):Int):=hTI
 have hroot:=Nw.root_line (n:=nwOf n o) hkM hg
 have hrst:=Nw.rst_ne ok.ok hkM hg hB
 have hbt:btE n o ((nwOf n o).F k:Nat) ((nwOf n o).T k:Nat)=0:=by
  refine (btE_val hO).1 ⟨⟨by omega,by omega⟩,⟨by omega,by omega⟩⟩ ?_
  simpa using hroot
 have hbV:btV n o ((nwOf n o).F k) ((nwOf n o).T k)=tab n.ls.length ((nwOf n o).bt k):=rfl
 have hsW:∀ {W:World},Ext w2 W->eLs.R S W s n.ls:=fun e=>ER.ext eLs hs (x2.trans e)
 have hBet:∀ {W:World},Ext w2 W->CR Tryz.prog 20 #[.agg #[.int .i64 n.b,s],vo,.int .i64 ((nwOf n o).F k:Nat),.int .i64 ((nwOf n o).T k:Nat)] W (Two (eV.at S (tab n.ls.length ((nwOf n o).bt k))) (Is (.int .i64 0))):=fun e=>by
  have:=AR2 (a:=((nwOf n o).F k:Nat)) (b:=((nwOf n o).T k:Nat)) (up.ext (x2.trans e).size) (hn.ext (x2.trans e)) (ho.ext (x2.trans e))
  rw [hbt,if_pos rfl] at this
  exact this
 refine .neqF O O O hK (.goC O ?_)
 refine .parL follows 19 [17] [.inl (.agg #[.int .i64 n.b,s]),.inl _,.inl _,.inl s,.inl (.int .i64 (k:Nat)),.inr (Ptr eL S (n.ls.getD k ln0)),.inr (Ptr (eInt .i64) S ((nwOf n o).F k:Nat)),.inl (.int .i64 ((nwOf n o).F k:Nat)),.inl _,.inl s,.inl (.int .i64 (k:Nat)),.inr (Ptr eL S (n.ls.getD k ln0)),.inr (Ptr (eInt .i64) S ((nwOf n o).T k:Nat)),.inl (.int .i64 ((nwOf n o).T k:Nat)),.inr (Two (eV.at S (tab n.ls.length ((nwOf n o).bt k))) (Is (.int .i64 0))),.inr (Two (eV.at S (tab n.ls.length ((nwOf n o).bt k))) (Is (.int .i64 0))),.inr (eV.at S (tab n.ls.length ((nwOf n o).bt k))),.inl (.int .i64 0),.inr (NewP w2.heap.size 32 #[.slice none 0 0])] [[],[],[],[(25,2)],[],[(26,3),(27,4)],[(28,5)],[(29,6)],[],[(31,8)],[],[(32,9),(33,10)],[(34,11)],[(35,12)],[(23,0),(24,1),(30,7),(36,13)],[(37,14)],[(22,15)],[(22,15)],[]] (by kernel_rfl) ⟨
  fun w e=>(C8 ty_N O (k3.ext e) O).ob,
  fun w e=>(v_mv O).ob,
  fun w e=>(v_fa F1 O).ob,
  fun w e=>(v_ld I2 O (k3.ext e) O).ob,
  fun w e=>(v_ld A8 O (k5.ext e) O).ob,
  fun w e=>D5 (i:=k) H4 M6 O (hsW e) O hgl,
  fun w e x5 hx5=>(by rw [<-hF0];exact Ad2 H9 O hx5 (by decide)),
  fun w e x6 hx6=>U3 A8 O hx6,
  fun w e=>(v_fa F1 O).ob,
  fun w e=>(v_ld I2 O (k3.ext e) O).ob,
  fun w e=>(v_ld A8 O (k5.ext e) O).ob,
  fun w e=>D5 (i:=k) H4 M6 O (hsW e) O hgl,
  fun w e x11 hx11=>(by rw [<-hT0];exact Ad2 H8 O hx11 (by decide)),
  fun w e x12 hx12=>U3 A8 O hx12,
  fun w e=>(A6 _ AR9 O (hBet e)).ob (K6 (A9 _ _ _) (R8 _)),
  fun w e x14 hx14=>K2 (v_mv O) hx14 (K6 (A9 _ _ _) (R8 _)),
  fun w e x15 hx15=>by
   obtain ⟨p1,q1,rfl,hp1,hq1⟩:=hx15
   exact K2 (v_ex O O) hp1 (A9 _ _ _),
  fun w e x15 hx15=>by
   obtain ⟨p1,q1,rfl,hp1,hq1⟩:=hx15
   exact ((v_ex O O).eq hq1).ob,
  fun w e=>O4 Ac5 e.size,trivial⟩ ?_
 rintro W4 d4 y5 hy5 y6 hy6 y11 hy11 y12 hy12 y14 hy14 y15 hy15 vb hvb _ ⟨b9,rfl,hb9,k9⟩
 have hvb:=eV_sep hvb k9 Ai3.1 Ai3.2
 obtain ⟨ab,cb,hvbs,_⟩:=RL.len hvb
 have hz4:=d4.size
 refine .store ty_V O O k9 (by rw [hvbs];rfl) (by simp [Value.cells]) (by rw [hvbs];simp [one1,Value.cells]) fun W5 k9 u5=>?_
 replace k9:Blk W5 b9 32 #[vb]:=by rw [hvbs] at k9 ⊢;exact k9
 have hvb:=eV.keep (Kp.upd u5 fun h=>h.2 O) hvb
 have d5:Ext w2 W5:=u5.below d4 hb9
 have x5:=x2.trans d5
 have k3:=k3.ext d5
 have k5:=k5.ext d5
 have hvb:eV.R S W5 vb (tab n.ls.length ((nwOf n o).bt k)):=eV.mono (fun _ _ h=>h.1) hvb
 have hbk:=E9 (g:=(nwOf n o).bt k) hkM
 have upT:∀ {W:World},Ext W5 W->Up S W:=fun e=>up.ext (x5.trans e).size
 refine .go O (.neqF O O O O (.goC O ?_))
 refine .par follows 7 [.inr (eQ.at S (qc ((1:Int):Rat))),.inl vb,.inl (.int .i64 (k:Nat)),.inr (Ptr eQ S (qc ((nwOf n o).bt k k))),.inr (eQ.at S (qc ((nwOf n o).bt k k))),.inr (eQ.at S (qc ((nwOf n o).rst k))),.inr (NewP W5.heap.size 54 zq.cells)] [[],[],[],[(44,1),(45,2)],[(46,3)],[(43,0),(47,4)],[]] (by kernel_rfl) ⟨
  fun w e=>(A6 _ D3 O (D0 (upT e) (by decide) (by decide))).ob (A9 _ _ _),
  fun w e=>(v_ld ty_V O (k9.ext e) O).ob,
  fun w e=>(v_ld A8 O (k5.ext e) O).ob,
  fun w e=>D5 (i:=k) un_V ty_Q O (ER.ext eV hvb e) O hbk,
  fun w e x3 hx3=>M0 ty_Q O hx3,
  fun w e x0 hx0 x4 hx4=>(by have:=Q5 (L:=349529) (upT e) hx0 hx4 ((rsz1 (L:=1) (Nat.le_refl _)).mono (by decide)).toOk (Ao1 ok k k).toOk (by decide) (by decide);rw [B5,B5,show (((1:Int):Rat)-(nwOf n o).bt k k)=(nwOf n o).rst k from rfl] at this;exact (A6 _ N7 O this).ob (A9 _ _ _)),
  fun w e=>O4 C7 e.size,trivial⟩ ?_
 rintro W6 d6 y0 hy0 y3 hy3 y4 hy4 y5 hy5 _ ⟨b11,rfl,hb11,k11⟩
 have hy:=AI5 hy5 k11 P8
 refine .storeA (E:=eQ) ty_Q O O k11 O O hy (fun h=>h.2 O) fun W7 k11 u7 h7=>?_
 have h7:eQ.R S W7 y5 (qc ((nwOf n o).rst k)):=eQ.mono (fun _ _ h=>h.1) h7
 have d7:Ext W5 W7:=u7.below d6 hb11
 have x7:=x5.trans d7
 have k3:=k3.ext d7
 have k5:=k5.ext d7
 have k9:=k9.ext d7
 have hvb:=ER.ext eV hvb d7
 have z7:=x7.size
 refine .go O (.mkf [] [_,_,_] O O O O (.go O (.fa F1 O O (.ld I2 O O k3 O (.lenR H4 O O (ER.ext eLs hs x7) ?_)))))
 refine .make_ _ _ un_V J0 O (by decide) O O O (Nat.le_refl _) (by omega) (by omega) fun W8 h n8=>?_
 have f8:FB eQ 54 T0 W8 h (List.replicate n.ls.length q0):=FB.made n8 zq_R
 obtain ⟨d8,_,hh,hs8⟩:=n8
 generalize hG:(fun l=>qc ((nwOf n o).lo k l))=G
 refine .go O (.len un_V O O (.goC O ?_))
 refine .lp (α:=Nat) [12,13,55] O (fun i=>[(56,.int .i64 (i:Nat))]) (fun i W=>Ext W7 W/\i<=n.ls.length/\FB eQ 54 T0 W h (fil n.ls.length i G q0)) (fun i=>n.ls.length-i) 0 (lc1 O) ⟨d8,Nat.zero_le _,by rw [J2];exact f8⟩ ?_
 rintro i W ⟨hW,hi,fb⟩
 have hWs:=hW.size
 have hhl:=fb.lt
 refine .go O ?_
 rcases Nat.lt_or_ge i n.ls.length with hlt | hge
 rotate_left
 ·have:i=n.ls.length:=by omega
  subst this
  rw [S6] at fb
  refine .lssF O O O (by omega) (.goE O (.plain [_,_] Tryz.results54 ⟨rfl,rfl,trivial⟩ ⟨x7.trans hW,_,_,rfl,?_,by rw [hK]⟩))
  rw [if_pos hK]
  have:=fb.toR (hsz:=by decide) (c:=n.ls.length) (upo h (by omega)) (by simp) (by simp;omega)
  rw [List.length_map,List.length_range,<-hG] at this
  exact this
 have hGi:G i=qc (if i=k then -1 else (nwOf n o).bt k i / (nwOf n o).rst k):=by rw [<-hG];rfl
 refine .lssT O O O (by omega) (.go O ?_)
 refine .callv [.int .i64 (i:Nat)] O O E_lofac O (lofac_t (S:=S) (T0:=fun j=>T0 j/\j≠h) (L:=400000) (up.ext (x7.trans hW).size) (fun j hj=>⟨upo j (by omega),by omega⟩) (k5.ext hW) (k9.ext hW) (ER.ext eV hvb hW) (k11.ext hW) (ER.ext eQ h7 hW) hrst (fun i=>(Ao1 ok k i).mono (by decide)) (rst_rsz ok k) (by decide) (by decide) hlt) fun vq W9 d9 hq=>?_
 have hq:eQ.R (fun j=>T0 j/\j≠h) W9 vq (G i):=by rw [hGi];exact hq
 refine .ixB (i:=i) un_V ty_Q O O O hlt (.storeF (E:=eQ) (i:=i) (by decide) ty_Q O O (fb.ext d9) O (by rw [G8];exact hlt) (Nat.zero_add _) hq fun W10 f10 u10=>?_)
 rw [M4] at f10
 exact .go O (.inc O O O (by omega) (.goN O (.mk (i+1) O (lc1 O) ⟨⟨u10.below (hW.trans d9) (by omega),hlt,f10⟩,by show n.ls.length-(i+1)<n.ls.length-i;omega⟩)))
theorem bsl_IIo {a:Option Addr} {n c:Nat}:bslOf Tryz.prog 47 1 [(0,.slice a n c)]=some (25,#[.slice a n c]):=by kernel_rfl
def okV17 (r:List QV):Prop:=r.length<=20/\∀ q∈r,qok 4 q
theorem Af5:Ent Tryz.prog 24:=A0 Tryz.func24 (by kernel_rfl) rfl
def balB (n:Nw) (x:Nat->Rat):Bool:=(List.range n.B).all fun r => !decide (n.root r=r) || decide (sumN n.B (fun b=>if n.root b=r then x b else 0)=0)
theorem BF9 {n:Nw} {x:Nat->Rat}:balB n x=true<->n.bal x:=by
 unfold balB Nw.bal
 rw [List.all_eq_true]
 simp only [List.mem_range,Bool.or_eq_true,Bool.not_eq_true',decide_eq_false_iff_not,decide_eq_true_eq]
 exact ⟨fun h r hr hrr=>(h r hr).resolve_left fun h'=>h' hrr,fun h r hr=>by
  by_cases hrr:n.root r=r
  ·exact .inr (h r hr hrr)
  ·exact .inl hrr⟩
theorem Ap0 {n:Nw} (ok:n.Ok) {x cand:Nat->Rat} (h:∀ i,i<n.B->(if n.root i=i then cand i else n.lap cand i)=n.inj0 x i) {c:Nat} (hc:c<n.B):n.an x c=cand c :=
 Nw.uniq ok (fun i hi=>by
  have h1:=n.an_eq ok x hi
  have h2:=h i hi
  split
  ·rw [if_pos (by assumption)] at h1 h2;rw [h1,h2]
  ·rw [if_neg (by assumption)] at h1 h2;rw [h1,h2]) c hc
def inj3:Nat->Rat:=fun b=>((([6,0,-6]:List Int).getD b 0:Int):Rat)
def an3:Nat->Rat:=fun b=>((([0,-24,-36]:List Int).getD b 0:Int):Rat)
theorem Aq7 {l:List Int} {b:Nat}:rv (intsV l) b=if b<l.length then ((l.getD b 0:Int):Rat) else 0:=P0 ..
theorem BG2:anE net3 [] (intsV [6,0,-6])=0:=by
 refine anE_of ok3 (by decide) ?_
 refine (Nw.bal_congr (y:=inj3) fun b hb=>?_).2 (BF9.1 (by decide +kernel))
 rw [Aq7,if_pos (show b<([6,0,-6]:List Int).length from hb)];rfl
theorem At9:∀ c,c<3->(nwOf net3 []).an (rv (intsV [6,0,-6])) c=an3 c:=fun c hc=>by
 have ok:=K4 ok3
 refine Ap0 ok.ok (fun i hi=>?_) hc
 have h1:∀ i,i<3->(if (nwOf net3 []).root i=i then an3 i else (nwOf net3 []).lap an3 i)=(nwOf net3 []).inj0 inj3 i:=by decide +kernel
 rw [h1 i hi]
 unfold Nw.inj0
 rw [Aq7,if_pos (show i<([6,0,-6]:List Int).length from hi)];rfl
theorem ob_L3 {w:World} {σ:Env} {d:Option Tmp} {ty:TypeId} {pos:String} {af:Array Edge} {g:Option (Nat×Bool)} {m n k:Int} (h:∀ x∈[m,n,k],-9223372036854775808<=x/\x<=9223372036854775807) :
  Gv Tryz.prog ⟨d,.buildSlice 127 3 #[(0,.const (.int .i64 m)),(1,.const (.int .i64 n)),(2,.const (.int .i64 k))],ty,pos,af,g⟩ σ w fun v' w'=>Ext w w'/\Sp.ok (.inr (eI.at (fun _=>True) [m,n,k])) v' w' :=
 (AP9 (ps:=[(0,.const (.int .i64 m)),(1,.const (.int .i64 n)),(2,.const (.int .i64 k))]) _ O Ao4).mono fun v' w' ⟨b2,hv',n2⟩=>⟨n2.1,fun w'' e=>by
  rw [hv']
  exact ER.ext eI (AV9 [m,n,k] 3 n2 upT O O h (by omega)) e⟩
theorem vk_ints (l:List Int) (h:∀ n∈l,-9223372036854775808<=n/\n<=9223372036854775807):vk 2 (intsV l):=Az0 h
end Go.Proofs.YtggegpiffjbngaaGreat
namespace Go.Kx
open Go Go.RowKit
end Go.Kx
namespace Go.Proofs.YtggegpiffjbngaaGreat
open Go Go.Kx Go.RowKit
theorem ok3_2:outE net3 [2]=0:=Ar5 (by decide) (by decide)
theorem AZ5:Ent Tryz.prog 115:=A0 Tryz.func115 (by kernel_rfl) rfl
theorem AY5 {w:World}:CR Tryz.prog 115 #[] w (eN.at (fun _=>True) net3):=by
 refine enter Tryz.func115 O Tryz.ntmps115 O ?_
 refine .sr (.alloc O Ay7 fun w1 b0 n1=>.nil (.sr (.bld _ O O Ae8 (.bld _ O O Ae8 (.bld _ O O Ae8 (.bsl _ O O bsl_Ls3 fun w2 b4 n2=>.bld _ O O bld_N2 ?_))))))
 obtain ⟨e1,k0,hb0,hs1⟩:=n1
 have hl:eLs.R (fun k=>k≠b0) w2 (.slice (some ⟨b4,0,none⟩) 3 3) net3.ls:=Ae2 (E:=eL) [_,_,_] net3.ls n2 (fun k hk=>by omega) O O (by decide) (Els.snoc (Els.snoc (Els.snoc Els.nil (ln_R (by decide))) (ln_R (by decide))) (ln_R (by decide)))
 have hn:eN.R (fun k=>k≠b0) w2 (.agg #[.int .i64 3,.slice (some ⟨b4,0,none⟩) 3 3]) net3:=⟨_,rfl,hl,I3.2 (by decide)⟩
 refine .storeA (E:=eN) ty_N O O (k0.ext n2.1) O O hn (fun h=>h O) fun w3 k3 u3 h3=>.nil (.ret ?_)
 exact .cell (E:=eN) Tryz.results115 O ty_N O O k3 h3 ⟨u3.below (e1.trans n2.1) (by omega),eN.mono (fun _ _ _=>trivial) h3⟩
theorem AE4:Ent Tryz.prog 116:=A0 Tryz.func116 (by kernel_rfl) rfl
theorem AD1 {w:World} {vl:Value} {l:List Int} (hl:eI.R (fun _=>True) w vl l) (hn:l.length<=1000):CR Tryz.prog 116 #[vl] w (eV.at (fun _=>True) (intsV l)):=by
 refine enter Tryz.func116 O Tryz.ntmps116 O (.beg (.go O ?_))
 refine .call _ O Af0 O (Ad0 upT hl (by omega)) fun v1 w1 e1 h1=>.goE O ?_
 exact .plain [_] Tryz.results116 ⟨rfl,trivial⟩ ⟨e1,h1⟩
theorem Al2:Ent Tryz.prog 117:=A0 Tryz.func117 (by kernel_rfl) rfl
set_option maxRecDepth 8000 in
theorem Ai5 {w:World} {vn vo vl:Value} {n:NtV} {o:List Int} {line:Int} {l:List Int} (hn:eN.R (fun _=>True) w vn n) (ho:eI.R (fun _=>True) w vo o) (hl:eI.R (fun _=>True) w vl l) (hll:l.length<=1000) (hK:lkE n o line=0) (hV:loV n o line.toNat=intsV l) :
  CR Tryz.prog 117 #[vn,vo,.int .i64 line,vl] w (Is (.bool true)):=by
 obtain ⟨s,rfl,hs,hb⟩:=hn
 have hn:eN.R (fun _=>True) w (.agg #[.int .i64 n.b,s]) n:=⟨s,rfl,hs,hb⟩
 refine enter Tryz.func117 O Tryz.ntmps117 O (.beg (.go O (.box O O fun w1 b4 n1=>?_)))
 obtain ⟨e1,k4,hb4,hs1⟩:=n1
 refine .go O (.ldA ty_N O O k4 O (.go O ?_))
 refine .call _ O J5 O (I9 (T0:=fun _=>True) upT upT (hn.ext e1) (ho.ext e1)) fun v2 w2 e2 h2=>?_
 obtain ⟨vf,ve,rfl,hf,he⟩:=h2
 replace he:ve=.int .i64 (lkE n o line):=he
 rw [hK] at he
 subst he
 rw [if_pos hK,hV] at hf
 have x2:=e1.trans e2
 refine .go O (.eqlT O O O O (.go O ?_))
 refine .call _ O AE4 O (AD1 (hl.ext x2) hll) fun v3 w3 e3 h3=>.go O ?_
 refine .call _ O N4 O (isV_t (ER.ext eV hf e3) h3 O) fun v4 w4 e4 h4=>?_
 subst h4
 exact .goE O (.plain [_] Tryz.results117 ⟨rfl,trivial⟩ ⟨(x2.trans e3).trans e4,rfl⟩)
theorem BC8:lkE net3 [] 0=0:=by unfold lkE;rw [if_neg (by simpa using ok3),if_pos (by decide),if_neg (by decide +kernel)]
theorem lk3_20:lkE net3 [2] 0=11:=by unfold lkE;rw [if_neg (by simpa using ok3_2),if_pos (by decide),if_pos (by decide +kernel)]
theorem lk3_22:lkE net3 [2] 2=1:=by unfold lkE;rw [if_neg (by simpa using ok3_2),if_neg (by decide)]
theorem lo3 {k:Nat} (hk:k<3):(nwOf net3 []).lo 0 k=((([-1,-1,1]:List Int).getD k 0:Int):Rat):=by
 have ok:=K4 ok3
 have hh:∀ k b,k<3->b<3->(nwOf net3 []).hf k b=(nwOf net3 []).fl (cand3 b) k:=fun k b hk hb=>Nw.hf_cand ok.ok ok.b1 cand3 BF4 hk hb
 have h2:∀ k,k<3->(if k=0 then (-1:Rat) else ((nwOf net3 []).fl (cand3 0) k-(nwOf net3 []).fl (cand3 1) k) / (1-((nwOf net3 []).fl (cand3 0) 0-(nwOf net3 []).fl (cand3 1) 0)))=((([-1,-1,1]:List Int).getD k 0:Int):Rat):=by decide +kernel
 rw [<-h2 k hk]
 unfold Nw.lo Nw.rst Nw.bt
 rw [show (nwOf net3 []).F 0=0 from rfl,show (nwOf net3 []).T 0=1 from rfl,hh k 0 hk (by decide),hh k 1 hk (by decide),hh 0 0 (by decide) (by decide),hh 0 1 (by decide) (by decide)]
theorem loV3:loV net3 [] (0:Int).toNat=intsV [-1,-1,1]:=E7 fun k hk=>lo3 hk
theorem af3_ok:afE net3 [] 0 (intsV [6,0,-6])=0:=by unfold afE;rw [if_neg (by simpa using BC8)];exact BG2
theorem afV3:afV net3 [] (0:Int).toNat (intsV [6,0,-6])=intsV [0,0,6]:=E7 fun k hk=>by
 have ok:=K4 ok3
 obtain ⟨_,k0,h0,hkM,hg,_,hB⟩:=An2 BC8
 have:k0=0:=by omega
 subst this
 have h1:∀ k,k<3->(nwOf net3 []).fl ((nwOf net3 []).an (rv (intsV [6,0,-6]))) k=(nwOf net3 []).fl an3 k:=fun k hk=>by
  unfold Nw.fl
  rw [At9 _ (ok.f k hk),At9 _ (ok.t k hk)]
 have h2:∀ k,k<3->(nwOf net3 []).fl an3 k+((([-1,-1,1]:List Int).getD k 0:Int):Rat)*(nwOf net3 []).fl an3 0=((([0,0,6]:List Int).getD k 0:Int):Rat):=by decide +kernel
 rw [show (0:Int).toNat=0 from rfl,Nw.lo_flow ok.ok hkM hg hB (BG1 BG2).2 hk,h1 k hk,h1 0 (by decide),lo3 hk,h2 k hk]
theorem At4 {a:Int}:bslOf Tryz.prog 25 1 [(0,.int .i64 a)]=some (3,#[.int .i64 a]):=by kernel_rfl
theorem V7:Ent Tryz.prog 53:=A0 Tryz.func53 (by kernel_rfl) rfl
set_option maxRecDepth 8000 in
theorem U7 {w:World}:CR Tryz.prog 53 #[] w (Is (.bool true)):=by
 have hk6:=vk_ints [6,0,-6] (by decide)
 refine enter Tryz.func53 O Tryz.ntmps53 O (.beg (.go O ?_))
 refine .call _ O AZ5 O AY5 fun vn w1 e1 h1=>.alloc O Ay7 fun w2 b1 n2=>?_
 obtain ⟨e2,k1,hb1,hs2⟩:=n2
 refine .storeA (E:=eN) (S:=fun k=>k<w1.heap.size) ty_N O O k1 O O (ER.ext eN (eN.mono (fun k _ h=>h.2) (ER.lt eN h1)) e2) (fun h=>by omega) fun w3 k1 u3 h3=>?_
 have hvn:=shpA (E:=eN) O h3
 have h3:eN.R (fun _=>True) w3 vn net3:=eN.mono (fun _ _ _=>trivial) h3
 have x3:Ext w w3:=(u3.below (e2) (by omega):Ext w1 w3) |> e1.trans
 refine .goC O ?_
 refine .par follows 8 [.inl vn,.inr (eI.at (fun _=>True) [6,0,-6]),.inr (eV.at (fun _=>True) (intsV [6,0,-6])),.inr (Two (eV.at (fun _=>True) (intsV [0,0,6])) (Is (.int .i64 0))),.inr (Two (eV.at (fun _=>True) (intsV [0,0,6])) (Is (.int .i64 0))),.inr (eV.at (fun _=>True) (intsV [0,0,6])),.inl (.int .i64 0),.inr (eV.at (fun _=>True) (intsV [0,0,6]))] [[],[],[(11,1)],[(10,0),(12,2)],[(13,3)],[(9,4)],[(9,4)],[(14,5)]] (by kernel_rfl) ⟨
  fun w e=>((C8 ty_N O (k1.ext e) (eN.csz h3)).eq hvn.symm).ob,
  fun w e=>ob_L3 (by decide),
  fun w e x1 hx1=>(A6 _ AE4 O (AD1 hx1 (by decide))).ob (A9 _ _ _),
  fun w e x2 hx2=>(by have:=Ad7 (vo:=.slice none 0 0) (T0:=fun _=>True) (o:=[]) (line:=0) upT upT (ER.ext eN h3 e) RL.nil hx2 hk6 (by decide) (by decide);rw [af3_ok,if_pos rfl,afV3] at this;exact (A6 _ Af4 O this).ob (K6 (A9 _ _ _) (R8 _))),
  fun w e x3 hx3=>K2 (v_mv O) hx3 (K6 (A9 _ _ _) (R8 _)),
  fun w e x4 hx4=>by
   obtain ⟨p1,q1,rfl,hp1,hq1⟩:=hx4
   exact K2 (v_ex O O) hp1 (A9 _ _ _),
  fun w e x4 hx4=>by
   obtain ⟨p1,q1,rfl,hp1,hq1⟩:=hx4
   exact ((v_ex O O).eq hq1).ob,
  fun w e x5 hx5=>K2 (v_as O) hx5 (A9 _ _ _),trivial⟩ ?_
 intro w4 e4 y1 hy1 y2 hy2 y3 hy3 y4 hy4 y5 hy5 y7 hy7
 have k1:=k1.ext e4
 have h4:=ER.ext eN h3 e4
 refine .go O (.ldA ty_N O O k1 (eN.csz h3) (.bsl _ O O At4 fun w5 b5 n5=>?_))
 rw [<-hvn]
 have e5:=n5.1
 have i5:eI.R (fun _=>True) w5 (.slice (some ⟨b5,0,none⟩) 1 1) [2]:=AV9 [2] 1 n5 upT O O (by decide) (by decide)
 refine .call _ O J5 O (I9 (T0:=fun _=>True) (line:=0) upT upT (ER.ext eN h4 e5) i5) fun v6 w6 e6 h6=>?_
 obtain ⟨vf,ve,rfl,_,he⟩:=h6
 replace he:ve=.int .i64 (lkE net3 [2] 0):=he
 rw [lk3_20] at he
 subst he
 have e46:=e5.trans e6
 refine .go O (.ldA ty_N O O (k1.ext e46) (eN.csz h3) (.bsl _ O O At4 fun w7 b7 n7=>?_))
 rw [<-hvn]
 have e7:=n7.1
 have i7:eI.R (fun _=>True) w7 (.slice (some ⟨b7,0,none⟩) 1 1) [2]:=AV9 [2] 1 n7 upT O O (by decide) (by decide)
 refine .call _ O J5 O (I9 (T0:=fun _=>True) (line:=2) upT upT (ER.ext eN h4 (e46.trans e7)) i7) fun v8 w8 e8 h8=>?_
 obtain ⟨vf,ve,rfl,_,he⟩:=h8
 replace he:ve=.int .i64 (lkE net3 [2] 2):=he
 rw [lk3_22] at he
 subst he
 have e48:=(e46.trans e7).trans e8
 refine .go O (.ldA ty_N O O (k1.ext e48) (eN.csz h3) (.bsl _ O O Ao4 fun w9 b9 n9=>?_))
 rw [<-hvn]
 have e9:=n9.1
 refine .call _ O Al2 O (Ai5 (o:=[]) (line:=0) (ER.ext eN h4 (e48.trans e9)) RL.nil (AV9 [-1,-1,1] 3 n9 upT O O (by decide) (by decide)) (by decide) BC8 loV3) fun v10 w10 e10 h10=>?_
 subst h10
 refine .go O (.eqlT O O O O (.go O (.bsl _ O O Ao4 fun w11 b11 n11=>.go O ?_)))
 refine .call _ O AE4 O (AD1 (AV9 [0,0,6] 3 n11 upT O O (by decide) (by decide)) (by decide)) fun v12 w12 e12 h12=>.go O ?_
 have e412:=(((e48.trans e9).trans e10).trans n11.1).trans e12
 refine .call _ O N4 O (isV_t (ER.ext eV hy7 e412) h12 O) fun v13 w13 e13 h13=>?_
 subst h13
 refine .go O (.eqlT O O O O (.go O (.eqlT O O O O (.goE O ?_))))
 exact .plain [_] Tryz.results53 ⟨rfl,trivial⟩ ⟨((x3.trans e4).trans e412).trans e13,rfl⟩
end Go.Proofs.YtggegpiffjbngaaGreat
namespace Go.Kx
open Go Go.RowKit
section
variable {α:Type} {E:ER α} {t:TypeId} {base:Nat} {X:Nat->Prop} {w w':World} {v:Value} {l:List α}
end
section
variable {P:Program} {σ:Env} {w:World} {d:Option Tmp} {ty:TypeId} {pos:String} {af:Array Edge} {g:Option (Nat×Bool)} {α:Type} {E:ER α}
end
def Nw.mem (n:Nw) (i r:Nat):List Nat:=(List.range i).filter fun b=>decide (n.root b=r)
theorem Nw.mem_succ (n:Nw) (i r:Nat):n.mem (i+1) r=n.mem i r++if n.root i=r then [i] else []:=by
 unfold Nw.mem
 rw [List.range_succ,List.filter_append]
 by_cases h:n.root i=r
 ·simp [h]
 ·simp [h]
end Go.Kx
namespace Go.Proofs.YtggegpiffjbngaaGreat
open Go Go.Kx Go.RowKit
end Go.Proofs.YtggegpiffjbngaaGreat
namespace Go.Kx
open Go Go.RowKit
section
variable {n:Nw}
def Nw.mem1 (n:Nw) (i r:Nat):List Nat:=(List.range i).filter fun c=>decide (c≠r/\n.root c=r)
theorem Nw.mem1_succ (n:Nw) (i r:Nat):n.mem1 (i+1) r=n.mem1 i r++if i≠r/\n.root i=r then [i] else []:=by
 unfold Nw.mem1
 rw [List.range_succ,List.filter_append]
 by_cases h:i≠r/\n.root i=r
 ·simp [h]
 ·rw [if_neg h];simp [h]
theorem Nw.mem_first {r:Nat} (h:n.root r=r):∀ d,n.mem (r+1+d) r=r::n.mem1 (r+1+d) r
 | 0=>by
  have e1:n.mem r r=[]:=by
   unfold Nw.mem
   rw [List.filter_eq_nil_iff]
   intro b hb
   have:=Nw.root_le (n:=n) b
   have:=List.mem_range.1 hb
   simp;omega
  have e2:n.mem1 r r=[]:=by
   unfold Nw.mem1
   rw [List.filter_eq_nil_iff]
   intro b hb
   have:=Nw.root_le (n:=n) b
   have:=List.mem_range.1 hb
   simp;omega
  rw [Nat.add_zero,Nw.mem_succ,Nw.mem1_succ,e1,e2,if_pos h,if_neg (by simp)];rfl
 | d+1=>by
  rw [show r+1+(d+1)=(r+1+d)+1 by omega,Nw.mem_succ,Nw.mem1_succ,Nw.mem_first h d]
  by_cases h':n.root (r+1+d)=r
  ·rw [if_pos h',if_pos ⟨by omega,h'⟩];rfl
  ·rw [if_neg h',if_neg fun h''=>h' h''.2];rfl
theorem Nw.mem_cons {B r:Nat} (h:n.root r=r) (hr:r<B):n.mem B r=r::n.mem1 B r:=by
 have:=Nw.mem_first (n:=n) h (B-(r+1))
 rwa [show r+1+(B-(r+1))=B by omega] at this
end
end Go.Kx
namespace Go.Proofs.YtggegpiffjbngaaGreat
open Go Go.Kx Go.RowKit
end Go.Proofs.YtggegpiffjbngaaGreat
namespace Go.Kx
open Go Go.RowKit
theorem Leave.tt {P:Program} {fn:Func} {N:Nat} {σ:Env} {w W:World} {r:Nat} (hr:fn.results=#[.tmp r]) (hl:look σ r=some (.bool true)) (h:Ext w W):Leave P fn N (fun v w'=>Ext w w'/\Is (.bool true) v w') σ [] W:=.plain [_] hr ⟨hl,trivial⟩ ⟨h,rfl⟩
end Go.Kx
namespace Go.Proofs.YtggegpiffjbngaaGreat
open Go Go.Kx Go.RowKit
end Go.Proofs.YtggegpiffjbngaaGreat
namespace Go.Kx
open Go Go.RowKit
section
variable {n m:Nw} {c:Rat}
end
def lnC (y:LnV):List Value:=[.int .i64 y.f,.int .i64 y.t,.int .i64 y.x,.int .i64 y.c]
def flL (l:List LnV):List Value:=l.flatMap lnC
def mkL (y:LnV):Value:=.agg #[.int .i64 y.f,.int .i64 y.t,.int .i64 y.x,.int .i64 y.c]
def okL (y:LnV):Prop:=inI y.f/\inI y.t/\inI y.x/\inI y.c
theorem AG1:∀ l:List LnV,(flL l).length=l.length*4
 | []=>rfl
 | a::l=>by
  show (lnC a++flL l).length=(l.length+1)*4
  rw [List.length_append,AG1 l]
  show 4+_=_
  omega
theorem AG2 (l:List LnV):cellsOf (l.map mkL)=flL l:=by
 unfold cellsOf flL
 rw [List.flatMap_map];rfl
section
variable {t:TypeId} {base:Nat} {X:Nat->Prop} {w:World} {v:Value} {l:List LnV}
theorem own_mk {es:List Value} {S:Nat->Prop} (he:Els eL S w es l):es=l.map mkL/\∀ y∈l,okL y:=by
 constructor
 ·apply List.ext_getElem?
  intro i
  rw [List.getElem?_map]
  rcases Nat.lt_or_ge i l.length with h | h
  ·rw [List.getElem?_eq_getElem h]
   have h':i<es.length:=by rw [he.1];exact h
   rw [List.getElem?_eq_getElem h']
   exact congrArg some (he.2 i _ _ (List.getElem?_eq_getElem h') (List.getElem?_eq_getElem h)).1
  ·rw [List.getElem?_eq_none h,List.getElem?_eq_none (by rw [he.1];exact h)];rfl
 ·intro y hy
  obtain ⟨i,hi⟩:=List.mem_iff_getElem?.1 hy
  have h:i<l.length:=(List.getElem?_eq_some_iff.1 hi).1
  have h':i<es.length:=by rw [he.1];exact h
  exact (he.2 i _ _ (List.getElem?_eq_getElem h') hi).2
theorem els_mk {S:Nat->Prop} (h:∀ y∈l,okL y):Els eL S w (l.map mkL) l:=by
 refine ⟨List.length_map ..,fun i e x he hx=>?_⟩
 rw [List.getElem?_map,hx] at he
 cases he
 exact ⟨rfl,h x (List.mem_iff_getElem?.2 ⟨i,hx⟩)⟩
theorem OwnL.lines (h:OwnL eL t base X w v l) (hne:0<l.length):∃ g cap rest,v=.slice (some ⟨g,0,none⟩) l.length cap/\base<=g/\Blk w g t (flL l++rest).toArray /\
  ∀ l' w',l'.length=l.length->(∀ y∈l',okL y)->Blk w' g t (flL l'++rest).toArray->OwnL eL t base X w' v l':=by
 obtain ⟨es,h1,he⟩:=h
 obtain ⟨rfl,hok⟩:=own_mk he
 rcases h1.2 with ⟨hv,hz⟩ | ⟨g,cap,cur,hv,hb,hg,c1,c2,c3,c4⟩
 ·exfalso;omega
 have hB:Blk w g t (flL l++cur.toList.drop (l.length*4)).toArray:=by
  rw [<-AG2,<-c4]
  show Blk w g t (List.take (l.length*4) cur.toList++_).toArray
  rw [List.take_append_drop];exact hg
 refine ⟨g,cap,cur.toList.drop (l.length*4),hv,hb,hB,fun l' w' hl hok' hB'=>?_⟩
 have hcz:cur.toList.length=(flL l++cur.toList.drop (l.length*4)).length:=by
  rw [<-AG2,<-c4]
  show _=(List.take (l.length*4) cur.toList++_).length
  rw [List.take_append_drop]
 rw [List.length_append,AG1] at hcz
 refine ⟨l'.map mkL,⟨?_,.inr ⟨g,cap,_,by rw [hl];exact hv,hb,hB',by rw [hl];exact c1,c2,?_,?_⟩⟩,els_mk hok'⟩
 ·rw [AG2,AG1];rfl
 ·rw [<-c3,List.size_toArray,List.length_append,AG1,hl,<-hcz,Array.length_toList]
 ·rw [AG2]
  show (flL l'++_).take (l'.length*4)=_
  rw [List.take_append_of_le_length (by rw [AG1];exact Nat.le_refl _),List.take_of_length_le (by rw [AG1];exact Nat.le_refl _)]
end
section
variable {P:Program} {σ:Env} {w:World} {d:Option Tmp} {ty:TypeId} {pos:String} {af:Array Edge} {g:Option (Nat×Bool)}
end
end Go.Kx
namespace Go.Proofs.YtggegpiffjbngaaGreat
open Go Go.Kx Go.RowKit
theorem AY7 {S:Nat->Prop} {w:World} {vn vl:Value} {n:NtV} {l:List (List Int)} (hn:eN.R S w vn n) (hl:eII.R S w vl l):CR Tryz.prog 15 #[vn,vl] w (Lng (n.ls.length<=100/\∀ r∈l,r.length<=100)):=by
 obtain ⟨s,rfl,hs,_⟩:=hn
 obtain ⟨_,_,_,_,hll⟩:=RL.len hl
 refine enter Tryz.func15 O Tryz.ntmps15 O ?_
 refine .sr (.box O O fun w1 b2 n1=>.an O O (.seq (.sr (.an O O ?_))))
 obtain ⟨e1,k2,_,_⟩:=n1
 have hl:=hl.ext e1
 refine .block (.loop (α:=Nat) (fun i=>[(1,vl),(2,.pointer (some ⟨b2,0,none⟩)),(5,.int .i64 (i:Nat))]) (fun i W=>W=w1/\i<=l.length/\∀ j r,j<i->l[j]?=some r->r.length<=100) (fun i=>l.length-i) 0 ?_ ?_ ?_)
 ·exact lkA rfl
 ·exact ⟨rfl,Nat.zero_le _,fun j r hj=>absurd hj (Nat.not_lt_zero _)⟩
 rintro i W ⟨rfl,hi,hlr⟩
 refine .seq (.sr (.mv O O (.mv O O (.lenR un_II O O hl ?_))))
 rcases Nat.lt_or_ge i l.length with hlt | hge
 rotate_left
 ·refine .lssF O O O (by omega) (.nil (.condF O (.exit (.sr (.fa F1 O O (.ld I2 O O k2 O (.lenR H4 O O (hs.ext e1) ?_)))))))
  by_cases h:100<n.ls.length
  ·refine .gtrT O O O (by omega) (.an O O (.ret ?_))
   exact .plain [_] Tryz.results15 ⟨rfl,trivial⟩ ⟨e1,_,rfl,fun h=>by cases h⟩
  ·refine .gtrF O O O (by omega) (.an O O (.ret ?_))
   exact .plain [_] Tryz.results15 ⟨rfl,trivial⟩ ⟨e1,_,rfl,fun _=>⟨by omega,fun r hr=>by
    obtain ⟨j,hj⟩:=List.mem_iff_getElem?.1 hr
    exact hlr j r (by have:=AU6 hj;omega) hj⟩⟩
 refine .lssT O O O (by omega) (.nil (.condT O (.skip (.seq (.block (.sr (.mv O O (.mv O O (.ixN (i:=i) un_II ty_I O O hl O (List.getElem?_eq_getElem hlt) fun q hq=>.ldE (E:=eI) ty_I O O hq fun v hv=>.lenR un_I O O hv ?_)))))))))
 by_cases h:100<l[i].length
 ·refine .gtrT O O O (by omega) (.nil (.condT O (.sr (.an O O (.ret ?_)))))
  exact .plain [_] Tryz.results15 ⟨rfl,trivial⟩ ⟨e1,_,rfl,fun h=>by cases h⟩
 ·refine .gtrF O O O (by omega) (.nil (.condF O (.skip (.region (.mv O O (.add O O O (.an O O ?_)))))))
  rw [wI (by omega)]
  exact ⟨rfl,i+1,lkA rfl,⟨rfl,hlt,fun j r hj hr=>by
   by_cases e:j=i
   ·subst e
    rw [List.getElem?_eq_getElem hlt] at hr
    cases hr
    omega
   ·exact hlr j r (by omega) hr⟩,by show l.length-(i+1)<l.length-i;omega⟩
theorem AY6 {w:World} {vn vo v:Value} {n:NtV} {o:List Int} {l:List (List QV)} (hn:eN.R (fun _=>True) w vn n) (ho:eI.R (fun _=>True) w vo o) (h:eM.R (fun _=>True) w v l):CR Tryz.prog 24 #[vn,vo,v] w (Lng (n.ls.length<=100/\o.length<=100/\∀ r∈l,okV17 r)):=by
 obtain ⟨s,rfl,hs,hb⟩:=hn
 have hn:eN.R (fun _=>True) w (.agg #[.int .i64 n.b,s]) n:=⟨s,rfl,hs,hb⟩
 obtain ⟨ao,co,hvo,_⟩:=RL.len ho
 obtain ⟨_,_,_,_,hl⟩:=RL.len h
 refine enter Tryz.func24 O Tryz.ntmps24 O (.beg (.go O (.box O O fun w1 b3 n1=>?_)))
 obtain ⟨e1,k3,hb3,hs1⟩:=n1
 have h:=ER.ext eM h e1
 have htrue:∀ {σ:Env},Kx.look σ 6=some (.bool true)->Leave Tryz.prog Tryz.f24 58 (fun v w'=>Ext w w'/\Lng (n.ls.length<=100/\o.length<=100/\∀ r∈l,okV17 r) v w') σ [] w1:=by
  intro σ hl
  exact .plain [_] Tryz.results24 ⟨hl,trivial⟩ ⟨e1,true,rfl,fun h=>by cases h⟩
 refine .goC O (.lp (α:=Nat) [1,2,3] O (fun i=>[(7,.int .i64 (i:Nat))]) (fun i W=>W=w1/\i<=l.length/\∀ j r,j<i->l[j]?=some r->okV17 r) (fun i=>l.length-i) 0 (lc1 O) ⟨rfl,Nat.zero_le _,fun j r hj=>absurd hj (Nat.not_lt_zero _)⟩ ?_)
 rintro i W ⟨rfl,hi,hall⟩
 refine .go O (.lenR un_M O O h ?_)
 rcases Nat.lt_or_ge i l.length with hlt | hge
 rotate_left
 ·refine .lssF O O O (by omega) (.go O (.ldA ty_N O O k3 O (.go O (.bsl _ O O (by rw [hvo];exact bsl_IIo) fun w2 b5 n2=>?_))))
  have hll:eII.R (fun _=>True) w2 (.slice (some ⟨b5,0,none⟩) 1 1) [o]:=BE7 [vo] [o] n2 upT (by rw [hvo]) O (by decide) (Els.snoc Els.nil (ho.ext e1))
  refine .call _ O Af6 O (AY7 (hn.ext (e1.trans n2.1)) hll) fun v3 w3 e3 h3=>.goE O ?_
  obtain ⟨bl,rfl,hbl⟩:=h3
  refine .plain [_] Tryz.results24 ⟨rfl,trivial⟩ ⟨(e1.trans n2.1).trans e3,bl,rfl,fun hf=>⟨(hbl hf).1,(hbl hf).2 o (by simp),fun r hr=>?_⟩⟩
  obtain ⟨j,hj⟩:=List.mem_iff_getElem?.1 hr
  exact hall j r (by have:=AU6 hj;omega) hj
 have hyy:=List.getElem?_eq_getElem hlt
 generalize l[i]=r at hyy
 refine .lssT O O O (by omega) (.go O (.ixN (i:=i) un_M ty_V O O h O hyy fun p hp=>.ldE ty_V O O hp fun e he=>.lenR un_V O O he ?_))
 by_cases hr:r.length<=20
 rotate_left
 ·exact .gtrT O O O (by omega) (.goE O (htrue O))
 refine .gtrF O O O (by omega) (.goC O (.lp (α:=Nat) [1,2,3,7] O (fun k=>[(8,.int .i64 (k:Nat))]) (fun k W'=>W'=W/\k<=r.length/\∀ j q,j<k->r[j]?=some q->qok 4 q) (fun k=>r.length-k) 0 (lc1 O) ⟨rfl,Nat.zero_le _,fun j r hj=>absurd hj (Nat.not_lt_zero _)⟩ ?_))
 rintro k W' ⟨rfl,hk,hallk⟩
 refine .go O (.ixN (i:=i) un_M ty_V O O h O hyy fun p2 hp2=>.ldE ty_V O O hp2 fun e2 he2=>.lenR un_V O O he2 ?_)
 rcases Nat.lt_or_ge k r.length with hkl | hge
 rotate_left
 ·refine .lssF O O O (by omega) (.go O (.inc O O O (by omega) (.goN O (.mk (i+1) O (lc1 O) ⟨⟨rfl,hlt,fun j r' hj hr'=>?_⟩,by show l.length-(i+1)<l.length-i;omega⟩))))
  by_cases e:j=i
  ·subst e
   rw [hyy] at hr'
   cases hr'
   refine ⟨hr,fun q hq=>?_⟩
   obtain ⟨j',hj'⟩:=List.mem_iff_getElem?.1 hq
   exact hallk j' q (by have:=AU6 hj';omega) hj'
  ·exact hall j r' (by omega) hr'
 have hqq:=List.getElem?_eq_getElem hkl
 generalize r[k]=q at hqq
 refine .lssT O O O (by omega) (.go O (.ixN (i:=i) un_M ty_V O O h O hyy fun p3 hp3=>.ldE ty_V O O hp3 fun e3 he3=>.go O (.ixN (i:=k) un_V ty_Q O O he3 O hqq fun p4 hp4=>.faP V3 O O (.faP G7 O O (.ldE (E:=eW) ty_W O O hp4.qn.zw fun e4 he4=>.lenR un_W O O he4 ?_)))))
 by_cases hn4:q.num.w.length<=4
 rotate_left
 ·exact .gtrT O O O (by omega) (.goE O (htrue O))
 refine .gtrF O O O (by omega) (.go O (.ixN (i:=i) un_M ty_V O O h O hyy fun p5 hp5=>.go O (.ldE ty_V O O hp5 fun e5 he5=>.go O (.ixN (i:=k) un_V ty_Q O O he5 O hqq fun p6 hp6=>.go O (.faP AA3 O O (.go O (.faP G7 O O (.go O (.ldE (E:=eW) ty_W O O hp6.qd.zw fun e6 he6=>.go O (.lenR un_W O O he6 (.go O ?_)))))))))))
 by_cases hd4:q.den.w.length<=4
 rotate_left
 ·exact .gtrT O O O (by omega) (.goE O (htrue O))
 refine .gtrF O O O (by omega) (.go O (.inc O O O (by omega) (.goN O (.mk (k+1) O (lc1 O) ⟨⟨rfl,hkl,fun j q' hj hq'=>?_⟩,by show r.length-(k+1)<r.length-k;omega⟩))))
 by_cases e:j=k
 ·subst e;rw [hqq] at hq';cases hq';exact ⟨hn4,hd4⟩
 ·exact hallk j q' (by omega) hq'
end Go.Proofs.YtggegpiffjbngaaGreat
namespace Go.Kx
open Go Go.RowKit
def IterR (P:Program) (gf:FuncId) (lb:Array Value) (n:Nat) (Y:Nat->Nat->List Value->World->Prop) (F:World->Prop):Prop :=
 ∀ (l:Nat) (J:Nat->World->Prop) (X:World->Prop),(∀ k W W',J k W->Ext W W'->J k W')->(∀ W W',X W->Ext W W'->X W')->(∀ k W,J k W->F W) ->
  (∀ k W0 W vs,k<n->J k W0->Ext W0 W->Y k W0.heap.size vs W->YieldAt (wf none) 0 P l vs.toArray W fun e W'=>(e=.returned (.bool true)/\J (k+1) W')\/(e=.returned (.bool false)/\X W')) ->
  ∀ W,J 0 W->Calls P gf (#[.func (.yield l) #[] #[]]++lb) W fun e W'=>∃ v,e=.returned v/\(J n W'\/X W')
theorem WC.rangeR {P:Program} {N:Nat} {Q:Pst} {σ:Env} {ds:List Deferred} {w:World} {g:Operand} {ps:List Tmp} {assign body:Code} {gf:FuncId} {lb:Array Value} {n:Nat} {Y:Nat->Nat->List Value->World->Prop} {F:World->Prop}
  (hit:IterR P gf lb n Y F) (hg:ev σ g=some (.func (.func gf) #[] lb)) (hE:Ent P gf) (hps:∀ k B vs W,Y k B vs W->vs.length=ps.length) (stY:∀ k B vs W W',Y k B vs W->Sft w.heap.size W W'->Y k B vs W') (hpN:∀ p∈ps,p<N)
  (J:Nat->World->Prop) (Jx:Code->World->Prop) (stJ:∀ k W W',J k W->Sft w.heap.size W W'->J k W') (stX:∀ c W W',Jx c W->Sft w.heap.size W W'->Jx c W') (hF:∀ k W,J k W->F W) (h0:J 0 w)
  (hbody:∀ l k W0 W vs,k<n->J k W0->Ext W0 W->Y k W0.heap.size vs W->WC P (some l) N (thn (fun σ1 ds1 W1=>ds1=[]/\W1=W/\∀ W2,J k W2->Sft w.heap.size W W2->Y k W0.heap.size vs W2->w.heap.size<=W2.heap.size->WC P (some l) N (rnd (J (k+1)) Jx W2) body σ1 [] W2) (fun _ _ _ _=>False)) assign (penv ps vs σ) [] W)
  (hdone:∀ W,J n W->W.heap[w.heap.size]?=some (.deferred (some []))->Q .normal σ ({ target:=.collected w.heap.size,args:=#[] }::ds) W)
  (hjump:∀ c W,Jx c W->W.heap[w.heap.size]?=some (.deferred (some []))->WC P none N Q c σ ({ target:=.collected w.heap.size,args:=#[] }::ds) W) :
  WC P none N Q (.rangeFunc g ps.toArray assign body) σ ds w:=by
 refine ⟨fun a ha=>wpIn_rangeFunc fun fn _=>?_⟩
 have hev:=ha.ev hg
 let rec0:Loop:={ state:=.ready,pending:=none,fn:=fn,tmps:=a.tmps,params:=ps.toArray,assign:=assign,body:=body,defers:=w.heap.size }
 refine ⟨w.heap.size+1,[{ target:=.collected w.heap.size,args:=#[] }],(w.alloc (.deferred (some []))).alloc (.loop rec0),{ target:=.fn (.func gf) lb,args:=#[.func (.yield (w.heap.size+1)) #[] #[]] },(w.alloc (.deferred (some []))).alloc (.loop rec0),gf,#[.func (.yield (w.heap.size+1)) #[] #[]]++lb,(w.alloc (.deferred (some []))).alloc (.loop rec0),
  run_enterLoop_outer fn a.tmps ps.toArray assign body,?_,fun _ _=>trivial,?_,(fun h=>(by cases h)),?_⟩
 ·simp only [resolve];rw [hev];simp [Deferred.ofValue,rec0];rfl
 ·simp [invoke,hE _ _]
 let l:=w.heap.size+1
 let D:=w.heap.size
 have hne:D≠l:=by show w.heap.size≠w.heap.size+1;omega
 let Jt:Nat->World->Prop:=fun k W=>J k W/\W.heap[l]?=some (.loop rec0)/\W.heap[D]?=some (.deferred (some []))
 let Xt:World->Prop:=fun W=>∃ c,Jx c W/\W.heap[l]?=some (.loop { rec0 with state:=.done,pending:=some c })/\W.heap[D]?=some (.deferred (some []))
 have hlt:∀ {W:World} {o:Obj},W.heap[l]?=some o->l<W.heap.size:=fun h=>(Array.getElem?_eq_some_iff.1 h).1
 have hlt':∀ {W:World} {o:Obj},W.heap[D]?=some o->D<W.heap.size:=fun h=>(Array.getElem?_eq_some_iff.1 h).1
 have hstart:Jt 0 ((w.alloc (.deferred (some []))).alloc (.loop rec0)):=by
  have e1:=L1 w (.deferred (some []))
  have e2:=L1 (w.alloc (.deferred (some []))) (.loop rec0)
  refine ⟨stJ 0 _ _ h0 (Sft.ext (e1.trans e2) (Nat.le_refl _)),?_,?_⟩
  ·have:=World.alloc_heap_new (w.alloc (.deferred (some []))) (.loop rec0)
   rwa [World.size_alloc] at this
  ·exact (e2.block D (by rw [World.size_alloc];show w.heap.size<w.heap.size+1;omega)).trans (World.alloc_heap_new w _)
 have hcall:=hit l Jt Xt
  (fun k W W' ⟨h1,h2,h3⟩ e=>⟨stJ k W W' h1 (Sft.ext e (Nat.le_of_lt (hlt' h3))),(e.block l (hlt h2)).trans h2,(e.block D (hlt' h3)).trans h3⟩)
  (fun W W' ⟨c,h1,h2,h3⟩ e=>⟨c,stX c W W' h1 (Sft.ext e (Nat.le_of_lt (hlt' h3))),(e.block l (hlt h2)).trans h2,(e.block D (hlt' h3)).trans h3⟩)
  (fun k W h=>hF k W h.1)
  (fun k W0 W vs hk ⟨hJ0,hl0,hD0⟩ e0 hY=>by
   have hJ:=stJ k W0 W hJ0 (Sft.ext e0 (Nat.le_of_lt (hlt' hD0)))
   have hl:=(e0.block l (hlt hl0)).trans hl0
   have hD:=(e0.block D (hlt' hD0)).trans hD0
   refine ⟨fn,(ps.zip vs).foldl (fun t p=>t.setIfInBounds p.1 p.2) a.tmps,assign,body,?_,?_⟩
   ·have:=run_yield (P:=P) (w:=W) (l:=l) (r:=rec0) (args:=vs.toArray) hl (by simp [rec0,hps _ _ _ _ hY])
    rw [this]
    simp [rec0]
   ·refine roundIn_of_wpIn trivial ?_
    have hag:Agr N (penv ps vs σ) [] { tmps:=(ps.zip vs).foldl (fun t p=>t.setIfInBounds p.1 p.2) a.tmps,defers:=[] } :=
     AA9 ps vs σ a.tmps hpN ⟨ha.size,rfl,ha.slot⟩
    refine wpIn_mono ((hbody l k W0 W vs hk hJ0 e0 hY).out _ hag) ?_
    rintro e a₁ w₁ ⟨σ1,ds1,hag1,hq⟩
    cases e with
    | normal =>
     obtain ⟨rfl,rfl,hb⟩:=hq
     have hput:(w₁.putObj l (.loop { rec0 with state:=.busy })).heap[l]?=some (.loop { rec0 with state:=.busy }):=World.putObj_heap_same (hlt hl)
     have hputD:(w₁.putObj l (.loop { rec0 with state:=.busy })).heap[D]?=some (.deferred (some [])):=by rw [World.putObj_heap_other hne];exact hD
     refine ⟨_,run_beginRound hl rfl,wpIn_mono ((hb _ (stJ k _ _ hJ (Sft.put (show D<=l by show w.heap.size<=w.heap.size+1;omega) hl O)) (Sft.put (show D<=l by show w.heap.size<=w.heap.size+1;omega) hl O) (stY _ _ _ _ _ hY (Sft.put (show D<=l by show w.heap.size<=w.heap.size+1;omega) hl O)) (by rw [World.putObj_size];exact Nat.le_of_lt (hlt' hD))).out a₁ hag1) ?_⟩
     have hend:∀ (W':World) (j:Option Code),Oth (w₁.putObj l (.loop { rec0 with state:=.busy })) W' ->
       (Instr.endRound l j).run P W'=.ok (.bool j.isNone) (W'.putObj l (.loop { rec0 with state:=if j.isNone then .ready else .done,pending:=j })) /\
       Sft D W' (W'.putObj l (.loop { rec0 with state:=if j.isNone then .ready else .done,pending:=j })) /\
       (W'.putObj l (.loop { rec0 with state:=if j.isNone then .ready else .done,pending:=j })).heap[l]?=some (.loop { rec0 with state:=if j.isNone then .ready else .done,pending:=j }) /\
       (W'.putObj l (.loop { rec0 with state:=if j.isNone then .ready else .done,pending:=j })).heap[D]?=some (.deferred (some [])):=by
      intro W' j ho
      have h1:=ho l _ hput rfl
      have h2:=ho D _ hputD rfl
      refine ⟨run_endRound (r:={ rec0 with state:=.busy }) j h1,Sft.put (show D<=l by show w.heap.size<=w.heap.size+1;omega) h1 rfl,World.putObj_heap_same (hlt h1),?_⟩
      rw [World.putObj_heap_other hne];exact h2
     rintro e2 a₂ w₂ ⟨σ2,ds2,hag2,hq2⟩
     cases e2 with
     | normal =>
      obtain ⟨ho,hj⟩:=hq2
      obtain ⟨h1,h2,h3,h4⟩:=hend w₂ none ho
      exact ⟨_,_,h1,.inl ⟨rfl,stJ _ _ _ hj h2,h3,h4⟩⟩
     | ret =>
      obtain ⟨ho,hj⟩:=hq2
      obtain ⟨h1,h2,h3,h4⟩:=hend w₂ (some .ret) ho
      exact ⟨_,_,h1,.inr ⟨rfl,.ret,stX _ _ _ hj h2,h3,h4⟩⟩
     | exit id =>
      obtain ⟨ho,hj⟩:=hq2
      obtain ⟨h1,h2,h3,h4⟩:=hend w₂ (some (.exit id)) ho
      exact ⟨_,_,h1,.inr ⟨rfl,.exit id,stX _ _ _ hj h2,h3,h4⟩⟩
     | _=>exact hq2.elim
    | _=>exact hq.elim)
  _ hstart
 refine AA6.2 (hcall.mono ?_)
 have hag':Agr N σ ({ target:=.collected w.heap.size,args:=#[] }::ds) { tmps:=a.tmps,defers:=[{ target:=.collected w.heap.size,args:=#[] }]++a.defers }:=⟨ha.size,by rw [ha.defs];rfl,ha.slot⟩
 rintro e W ⟨v,rfl,hres⟩
 rcases hres with ⟨hJ,hl,hD⟩ | ⟨c,hX,hl,hD⟩
 ·refine ⟨none,_,run_endLoop hl (by simp [rec0]),?_⟩
  refine ⟨σ,_,hag',hdone _ (stJ _ _ _ hJ (Sft.put (show D<=l by show w.heap.size<=w.heap.size+1;omega) hl O)) ?_⟩
  rw [World.putObj_heap_other hne];exact hD
 ·refine ⟨some c,_,run_endLoop hl (by simp),?_⟩
  refine (hjump c _ (stX _ _ _ hX (Sft.put (show D<=l by show w.heap.size<=w.heap.size+1;omega) hl O)) ?_).out _ hag'
  rw [World.putObj_heap_other hne];exact hD
end Go.Kx
namespace Go.Proofs.YtggegpiffjbngaaGreat
open Go Go.Kx Go.RowKit
end Go.Proofs.YtggegpiffjbngaaGreat
namespace Go.Kx
open Go Go.RowKit
section
variable {α:Type} {E:ER α} {t:TypeId} {S:Nat->Prop} {w w':World} {g:Nat} {l:List α}
end
theorem OwnL.lt' {β:Type} {F:ER β} {t':TypeId} {base:Nat} {X:Nat->Prop} {w:World} {v:Value} {b:List β} (h:OwnL F t' base X w v b) (k:Nat) (hk:v.ownBlock=some k):k<w.heap.size:=by
 obtain ⟨es,ho,_⟩:=h
 exact (ho.lt k hk).2
end Go.Kx
namespace Go.Proofs.YtggegpiffjbngaaGreat
open Go Go.Kx Go.RowKit
noncomputable def rowL (n:NtV) (o:List Int) (k:Nat):List QV:=if lkE n o (k:Nat)=0 then loV n o k else []
theorem BB1 (n:NtV) (o:List Int) (k:Nat):(rowL n o k).length<=n.ls.length:=by
 unfold rowL
 split
 ·exact Nat.le_of_eq (A1 ..)
 ·exact Nat.zero_le _
theorem E_rows:Ent Tryz.prog 122:=A0 Tryz.func122 (by kernel_rfl) rfl
theorem rows_c {w:World} {vn vo:Value} {x y:Value} (hn:vn=.agg #[x,y]) {a:Option Addr} {m c:Nat} (ho:vo=.slice a m c):CR Tryz.prog 122 #[vn,vo] w (fun v w'=>∃ b1 b2,v=.func (.func 178) #[] #[.pointer (some ⟨b1,0,none⟩),.pointer (some ⟨b2,0,none⟩)] /\
  Blk w' b1 24 #[x,y]/\Blk w' b2 25 #[vo]/\w.heap.size<=b1/\w.heap.size<=b2):=by
 subst hn;subst ho
 refine enter Tryz.func122 O Tryz.ntmps122 O ?_
 refine .sr (.box O O fun w1 b1 n1=>.box O O fun w2 b2 n2=>.an O O ?_)
 obtain ⟨e1,k1,hb1,hs1⟩:=n1
 obtain ⟨e2,k2,hb2,hs2⟩:=n2
 refine .sr (.mkf [] [_,_] O O O O (.an O O (.ret ?_)))
 exact .plain [_] Tryz.results122 ⟨rfl,trivial⟩ ⟨e1.trans e2,b1,b2,rfl,k1.ext e2,k2,by omega,by have:=e1.size;omega⟩
theorem E_rows1:Ent Tryz.prog 178:=A0 Tryz.func178 (by kernel_rfl) rfl
set_option maxRecDepth 8000 in
theorem rows1_c {n:NtV} {o:List Int} {s vo:Value} {b1 b2:Nat} (hb:inI n.b):IterR Tryz.prog 178 #[.pointer (some ⟨b1,0,none⟩),.pointer (some ⟨b2,0,none⟩)] n.ls.length
  (fun k B vs W=>∃ v,vs=[v]/\eV.R (fun j=>B<=j) W v (rowL n o k)) (fun W=>Blk W b1 24 #[.int .i64 n.b,s]/\Blk W b2 25 #[vo]/\eLs.R (fun _=>True) W s n.ls/\eI.R (fun _=>True) W vo o):=by
 intro l J X stJ stX hF hy W hJ
 have hF0:=hF 0 W hJ
 refine enterG Tryz.func178 O Tryz.ntmps178 O (.beg (.go O (.fa F1 O O (.go O (.ld I2 O O hF0.1 O (.go O (.lenR H4 O O hF0.2.2.1 (.goC O ?_))))))))
 refine .lp (α:=Nat) [0,1,2,9] O (fun i=>[(10,.int .i64 (i:Nat))]) (fun i W=>J i W/\i<=n.ls.length) (fun i=>n.ls.length-i) 0 (lc1 O) ⟨hJ,Nat.zero_le _⟩ ?_
 clear hF0 hJ
 rintro i W ⟨hJ,hi⟩
 replace hJ:J i W:=hJ
 replace hi:i<=n.ls.length:=hi
 obtain ⟨f1,f2,f3,f4⟩:=hF i W hJ
 obtain ⟨_,_,_,_,hll⟩:=RL.len f3
 refine .go O ?_
 rcases Nat.lt_or_ge i n.ls.length with hlt | hge
 rotate_left
 ·have:i=n.ls.length:=by omega
  subst this
  exact .lssF O O O (by omega) (.goE O (.plain [] Tryz.results178 trivial (.inl hJ)))
 have hn:eN.R (fun _=>True) W (.agg #[.int .i64 n.b,s]) n:=⟨s,rfl,f3,hb⟩
 refine .lssT O O O (by omega) (.go O (.ldA ty_N O O f1 O (.go O (.ld ty_I O O f2 O (.go O ?_)))))
 refine .call _ O J5 O (I9 (S:=fun _=>True) (T0:=fun j=>W.heap.size<=j) upT (fun k hk=>hk) hn f4) fun v5 w5 e5 h5=>?_
 obtain ⟨vl,ve,rfl,hl,he⟩:=h5
 replace he:ve=.int .i64 (lkE n o (i:Nat)):=he
 subst he
 rw [Int.toNat_natCast] at hl
 have nxt:∀ {v:Value},eV.R (fun j=>W.heap.size<=j) w5 v (rowL n o i)->YieldAt (wf none) 0 Tryz.prog l [v].toArray w5 fun e W'=>∃ u,e=.returned u/\((u=.bool true/\J (i+1) W')\/(u=.bool false/\X W')):=fun {v} hv=>by
  refine YieldAt.mono (hy i W w5 [v] hlt hJ e5 ⟨v,rfl,hv⟩) ?_
  rintro e W' (⟨rfl,h⟩ | ⟨rfl,h⟩)
  ·exact ⟨_,rfl,.inl ⟨rfl,h⟩⟩
  ·exact ⟨_,rfl,.inr ⟨rfl,h⟩⟩
 refine .go O ?_
 by_cases hK:lkE n o (i:Nat)=0
 ·rw [if_pos hK] at hl
  refine .neqF O O O hK (.go O (.yld (l:=l) [vl] (R:=fun v w'=>(v=.bool true/\J (i+1) w')\/(v=.bool false/\X w')) O O O (nxt (by unfold rowL;rw [if_pos hK];exact hl)) ?_))
  rintro v w' (⟨rfl,h⟩ | ⟨rfl,h⟩)
  ·exact .go O (.inc O O O (by omega) (.goN O (.mk (i+1) O (lc1 O) ⟨⟨h,hlt⟩,by show n.ls.length-(i+1)<n.ls.length-i;omega⟩)))
  ·exact .goE O (.plain [] Tryz.results178 trivial (.inr h))
 ·refine .neqT O O O hK (.go O (.yld (l:=l) [.slice none 0 0] (R:=fun v w'=>(v=.bool true/\J (i+1) w')\/(v=.bool false/\X w')) O O O (nxt (by unfold rowL;rw [if_neg hK];exact RL.nil)) ?_))
  rintro v w' (⟨rfl,h⟩ | ⟨rfl,h⟩)
  ·exact .go O (.inc O O O (by omega) (.goN O (.mk (i+1) O (lc1 O) ⟨⟨h,hlt⟩,by show n.ls.length-(i+1)<n.ls.length-i;omega⟩)))
  ·exact .goE O (.plain [] Tryz.results178 trivial (.inr h))
structure TbJ (w:World) (b7 b1 b2:Nat) (s vo:Value) (n:NtV) (o:List Int) (k:Nat) (W:World):Prop where
 low:Below w.heap.size w W
 k1:Blk W b1 24 #[.int .i64 n.b,s]
 k2:Blk W b2 25 #[vo]
 acc:∃ v,Blk W b7 28 #[v]/\OwnL eV 32 w.heap.size (fun j=>j≠b7) W v ((List.range k).map (rowL n o))
theorem TbJ.sft {w0:World} {b7 b1 b2:Nat} {s vo:Value} {n:NtV} {o:List Int} {k D:Nat} {W W':World} (h:TbJ w0 b7 b1 b2 s vo n o k W) (hs:Sft D W W') (hD:w0.heap.size<=D):TbJ w0 b7 b1 b2 s vo n o k W':=by
 obtain ⟨v,h1,h2⟩:=h.acc
 exact ⟨h.low.trans (hs.below.mono hD),hs.cells.blk trivial h.k1,hs.cells.blk trivial h.k2,v,hs.cells.blk trivial h1,h2.kp hs.cells⟩
theorem zero_Mt:zeroOf Tryz.prog 28=some (.slice none 0 0):=by kernel_rfl
theorem bsl_Mt {a:Option Addr} {n c:Nat}:bslOf Tryz.prog 28 1 [(0,.slice a n c)]=some (32,#[.slice a n c]):=by kernel_rfl
theorem E_Table:Ent Tryz.prog 59:=A0 Tryz.func59 (by kernel_rfl) rfl
theorem Table_c {w:World} {vn vo:Value} {n:NtV} {o:List Int} (hn:eN.R (fun _=>True) w vn n) (ho:eI.R (fun _=>True) w vo o):CR Tryz.prog 59 #[vn,vo] w (Two (eM.at (fun _=>True) (if outE n o=0 then (List.range n.ls.length).map (rowL n o) else [])) (Is (.int .i64 (outE n o)))):=by
 obtain ⟨s,rfl,hs,hb⟩:=hn
 have hn:eN.R (fun _=>True) w (.agg #[.int .i64 n.b,s]) n:=⟨s,rfl,hs,hb⟩
 obtain ⟨ao,co,hvo,_⟩:=RL.len ho
 refine enter Tryz.func59 O Tryz.ntmps59 O ?_
 refine .sr (.box O O fun w1 b2 n1=>.asg O O (.an O O ?_))
 obtain ⟨e1,k2,hb2,hs1⟩:=n1
 refine .seq (.sr (.ldA ty_N O O k2 O (.mv O O ?_)))
 refine .call _ O AX2 O (AU5 (hn.ext e1) (ho.ext e1)) fun v2 w2 e2 h2=>.an O O ?_
 subst h2
 have x2:=e1.trans e2
 refine .sr (.mv O O ?_)
 by_cases hE:outE n o=0
 rotate_left
 ·refine .neqT O O O hE (.nil (.condT O (.sr (.mv O O (.asg O O (.an O O (.ret ?_)))))))
  refine .plain [_,_] Tryz.results59 ⟨rfl,rfl,trivial⟩ ⟨x2,_,_,rfl,?_,rfl⟩
  rw [if_neg hE];exact RL.nil
 rw [if_pos hE]
 have hl10:n.ls.length<=10:=(K4 hE).m
 refine .neqF O O O hE (.nil (.condF O (.skip ?_)))
 refine .sr (.alloc O zero_Mt fun w3 b7 n3=>.nil ?_)
 obtain ⟨e3,k7,hb7,hs3⟩:=n3
 have x3:=x2.trans e3
 refine .seq (.sr (.ldA ty_N O O ((k2.ext e2).ext e3) O (.mv O O ?_)))
 refine .call _ O E_rows O (rows_c O hvo) fun v4 w4 e4 h4=>.nil ?_
 obtain ⟨p1,p2,rfl,kp1,kp2,hp1,hp2⟩:=h4
 have x4:=x3.trans e4
 have hs4:=e4.size
 have hs2:=e2.size
 have hsL:∀ {W:World},Below w.heap.size w W->eLs.R (fun _=>True) W s n.ls:=fun hB=>eLs.mono (fun _ _ _=>trivial) (eLs.keep (fun k c t f hk h=>(hB.block k hk.2).trans h) (ER.lt eLs hs))
 have hoL:∀ {W:World},Below w.heap.size w W->eI.R (fun _=>True) W vo o:=fun hB=>eI.mono (fun _ _ _=>trivial) (eI.keep (fun k c t f hk h=>(hB.block k hk.2).trans h) (ER.lt eI ho))
 refine .block (.rangeR (rows1_c (n:=n) (o:=o) (s:=s) (vo:=vo) hb) rfl E_rows1 (fun k B vs W h=>by obtain ⟨v,rfl,_⟩:=h;rfl)
  (fun k B vs W W' h hs=>by obtain ⟨v,h1,h2⟩:=h;exact ⟨v,h1,eV.keep (fun k c t f _ h=>hs.cells k c t f trivial h) h2⟩) (by decide)
  (TbJ w b7 p1 p2 s vo n o) (fun _ _=>False) (fun k W W' h hs=>h.sft hs x4.size) (fun _ _ _ h _=>h.elim) (fun k W h=>⟨h.k1,h.k2,hsL h.low,hoL h.low⟩) ?_ ?_ ?_ (fun _ _ h=>h.elim))
 ·exact ⟨x4,kp1,kp2,_,k7.ext e4,OwnL.nil⟩
 ·intro l k W0 W vs hk hJ0 e0 hY
  obtain ⟨v8,rfl,_⟩:=hY
  refine .region (.an O O ⟨rfl,rfl,fun W2 hJ2 hsf hY2 hsz=>?_⟩)
  obtain ⟨v9,h9,hrow⟩:=hY2
  cases h9
  obtain ⟨hlow,kp1,kp2,_⟩:=hJ2
  obtain ⟨_,_,_,v,k7,hown⟩:=hJ0
  have hob:∀ j,v.ownBlock=some j->j<W0.heap.size:=fun j h=>hown.lt' j h
  have hb70:=k7.lt
  have k7:=hsf.cells.blk trivial (k7.ext e0)
  have hown:=(hown.ext e0).kp hsf.cells
  have hlw:=hlow.size
  have hrl:=BB1 n o k
  obtain ⟨a8,c8,hv8,_⟩:=RL.len hrow
  refine .block (.region (.ld ty_M O O k7 O (.mv O O (.bsl _ O O (by rw [hv8];exact bsl_Mt) fun W1 by_ ny=>?_))))
  obtain ⟨ey,ky,hby,hsy⟩:=ny
  have hlow1:=hlow.trans (ey.mono hlw)
  refine .gv O O (AA0 (E:=eV) (base:=w.heap.size) (n:=rowL n o k) (e:=.slice a8 (rowL n o k).length c8) (by decide) un_M AD3 O O O (hown.ext ey) ky (by rw [<-hv8];exact ER.ext eV (eV.mono (fun j _ h=>⟨by omega,fun e=>by have:=hob j e;omega⟩) hrow) ey) (by simp;omega) (by decide) hlow1.size) ?_
  rintro v10 W8 ⟨ho8,hg8⟩
  have hown1:=hown.ext ey
  have k78:=hown1.gblk hg8 (k7.ext ey) (by decide)
  have kp18:=hown1.gblk hg8 (kp1.ext ey) (by decide)
  have kp28:=hown1.gblk hg8 (kp2.ext ey) (by decide)
  have hlow8:=hown1.below hg8 hlow1 hlow1.size
  obtain ⟨a9,c9,hv9⟩:=ho8.slice
  refine .store ty_M O O k78 (by rw [hv9];rfl) (by simp) (by rw [hv9];simp [one1,Value.cells]) fun W9 k9 u9=>.nil ?_
  refine ⟨((Oth.ext ey).trans (hown1.oth hg8)).trans (Oth.upd u9 k78),u9.below hlow8 (by omega),kp18.upd u9 (by omega),kp28.upd u9 (by omega),v10,by rw [hv9] at k9 ⊢;exact k9,?_⟩
  have:=ho8.upd u9 k78 (by decide) (fun h=>h O)
  rw [List.range_succ,List.map_append]
  exact this
 ·intro W hJ hD
  obtain ⟨hlow,kp1,kp2,v,k7,hown⟩:=hJ
  refine .sr (.ld ty_M O O k7 O (.asg O O (.an O O (.ret ?_))))
  refine .mark [_,_] Tryz.results59 hD ⟨rfl,rfl,trivial⟩ ⟨K0 hlow x4.size,_,_,rfl,?_,by rw [hE]⟩
  exact (hown.kp (Kp.put hD O)).toR (fun _ _=>trivial) (fun _ _=>trivial)
theorem AJ2:Tryz.prog.underlying 4=some .bool:=by kernel_rfl
theorem lkE_br {n:NtV} {o:List Int} {k:Nat} (hO:outE n o=0) (hk:k<n.ls.length):lkE n o (k:Nat)=if ((k:Nat):Int)∈o then 1 else if ((k:Nat):Int)∈pInts (brL n o) then 11 else 0:=by
 have hp:=(AS4 (S3 hO).2).2
 have h1:((k:Nat):Int)∈o<->k∈oN o:=by
  unfold oN
  rw [List.mem_map]
  exact ⟨fun h=>⟨_,h,by simp⟩,fun ⟨x,hx,e⟩=>by have:=hp x hx;rw [show ((k:Nat):Int)=x by omega];exact hx⟩
 have h2:∀ l:List Nat,((k:Nat):Int)∈pInts l<->k∈l:=fun l=>by
  unfold pInts
  rw [List.mem_map]
  exact ⟨fun ⟨x,hx,e⟩=>by rw [show k=x by omega];exact hx,fun h=>⟨k,h,rfl⟩⟩
 unfold lkE
 rw [if_neg (by simpa using hO)]
 simp only [h1,h2,Int.toNat_natCast]
 unfold brL
 have h3:k∈(inL n o).filter (fun k=>decide ((nwOf n o).brg k))<->(k<n.ls.length/\k∉oN o)/\(nwOf n o).brg k:=by rw [List.mem_filter,AS7,decide_eq_true_iff]
 simp only [h3,AS7]
 by_cases ho:k∈oN o
 ·rw [if_neg (fun h=>h.2 ho),if_pos ho]
 ·rw [if_pos ⟨hk,ho⟩,if_neg ho]
  by_cases hb:(nwOf n o).brg k
  ·rw [if_pos hb,if_pos ⟨⟨hk,ho⟩,hb⟩]
  ·rw [if_neg hb,if_neg fun h=>hb h.2]
set_option maxRecDepth 8000 in
theorem AG4 {w:World} {vn vo:Value} {n:NtV} {o:List Int} {y:Int} (hn:eN.R (fun _=>True) w vn n) (ho:eI.R (fun _=>True) w vo o) (hy0:IntKind.u8.min<=y) (hy1:y<=IntKind.u8.max):CR Tryz.prog 12 #[vn,vo,.int .u8 y] w (Is (.bool true)):=by
 obtain ⟨s,rfl,hs,hb⟩:=hn
 have hn:eN.R (fun _=>True) w (.agg #[.int .i64 n.b,s]) n:=⟨s,rfl,hs,hb⟩
 refine enter Tryz.func12 O Tryz.ntmps12 O (.beg (.go O (.box O O fun w1 b3 n1=>?_)))
 obtain ⟨e1,k3,hb3,hs1⟩:=n1
 replace k3:Blk w1 b3 24 #[.int .i64 n.b,s]:=k3
 refine .go O (.ldA ty_N O O k3 O (.go O (.bsl _ O O Ao3 fun w2 b17 n2=>?_)))
 have hl:eM.R (fun _=>True) w2 (.slice (some ⟨b17,0,none⟩) 1 1) [[]]:=BE7 [.slice none 0 0] [[]] n2 upT O O (by decide) (Els.snoc Els.nil RL.nil)
 have x2:=e1.trans n2.1
 refine .call _ O Af5 O (AY6 (hn.ext x2) (ho.ext x2) hl) fun v3 w3 e3 h3=>?_
 obtain ⟨bl,rfl,hlong⟩:=h3
 have x3:=x2.trans e3
 have k3:=k3.ext (n2.1.trans e3)
 clear hl
 cases bl with
 | true =>
  refine .go O (.call _ O V7 O U7 fun v4 w4 e4 h4=>?_)
  subst h4
  exact .goE O (.plain [_] Tryz.results12 ⟨rfl,trivial⟩ ⟨x3.trans e4,rfl⟩)
 | false =>
 refine .go O (.fa F1 O O (.go O (.ld I2 O O k3 O (.go O (.lenR H4 O O (hs.ext x3) (.go O ?_))))))
 by_cases hM0:n.ls.length=0
 ·refine .eqlT O O O (by omega) (.go O (.call _ O V7 O U7 fun v4 w4 e4 h4=>?_))
  subst h4
  exact .goE O (.plain [_] Tryz.results12 ⟨rfl,trivial⟩ ⟨x3.trans e4,rfl⟩)
 refine .eqlF O O O (by omega) (.go O (.call _ O V7 O U7 fun v4 w4 e4 h4=>?_))
 subst h4
 have x4:=x3.trans e4
 have k3:=k3.ext e4
 have hM100:=(hlong O).1
 have y0:0<=y:=hy0
 have y1:y<=255:=hy1
 obtain ⟨k,hkk⟩:∃ k:Nat,y.tmod (n.ls.length:Nat)=k:=⟨(y.tmod (n.ls.length:Nat)).toNat,by have:=Int.tmod_nonneg (n.ls.length:Int) y0;omega⟩
 have hkM:k<n.ls.length:=by have:=Int.tmod_lt_of_pos y (show (0:Int)<n.ls.length by omega);omega
 refine .go O (.ldA ty_N O O k3 O (.go O ?_))
 refine .call _ O Ac3 O (Ac4 upT (hn.ext x4) (ho.ext x4)) fun v5 w5 e5 h5=>?_
 obtain ⟨vb,ve,rfl,hb5,he⟩:=h5
 replace he:ve=.int .i64 (outE n o):=he
 subst he
 have x5:=x4.trans e5
 have k3:=k3.ext e5
 refine .go O (.ldA ty_N O O k3 O (.go O ?_))
 refine .call _ O E_Table O (Table_c (hn.ext x5) (ho.ext x5)) fun v6 w6 e6 h6=>?_
 obtain ⟨vm,ve,rfl,hm,he⟩:=h6
 replace he:ve=.int .i64 (outE n o):=he
 subst he
 have x6:=x5.trans e6
 have k3:=k3.ext e6
 have hs6:=hs.ext x6
 have ho6:=ER.ext eI ho x6
 have hb6:=ER.ext eI hb5 e6
 refine .go O ?_
 by_cases hO:outE n o=0
 rotate_left
 ·rw [if_neg hO] at hm
  exact .neqT O O O hO (.go O (.eqlT O O O O (.go O (.lenR un_M O O hm (.go O (.eqlT O O O O (.goE O (.plain [_] Tryz.results12 ⟨rfl,trivial⟩ ⟨x6,rfl⟩))))))))
 rw [if_pos hO] at hm hb6
 have ok:=K4 hO
 have hM10:n.ls.length<=10:=ok.m
 have hlk:=lkE_br hO hkM
 have hml:((List.range n.ls.length).map (rowL n o)).length=n.ls.length:=by simp
 have hmk:((List.range n.ls.length).map (rowL n o))[k]?=some (rowL n o k):=by rw [List.getElem?_map,List.getElem?_range hkM];rfl
 refine .neqF O O O hO (.go O (.cvt AG7 O9 O O ?_))
 rw [wI (n:=y) (by omega)]
 refine .go O (.fa F1 O O (.go O (.ld I2 O O k3 O (.go O (.lenR H4 O O hs6 (.go O (.rem O O O (by omega) ?_)))))))
 rw [hkk]
 generalize pInts (brL n o)=B at hb6 hlk
 generalize (List.range n.ls.length).map (rowL n o)=T at hm hml hmk
 refine .goC O ?_
 refine .lp (α:=Nat×Bool) [1,3,7,9,10,11,13] O (fun y=>[(12,.bool y.2),(14,.int .i64 (y.1:Nat))]) (fun y W=>Ext w6 W/\y.1<=B.length/\y.2=decide (((k:Nat):Int)∈B.take y.1)) (fun y=>B.length-y.1) (0,false) (lc2 O O) ⟨Ext.refl _,Nat.zero_le _,by simp⟩ ?_
 rintro ⟨i,b⟩ W1 ⟨hW,hi,hin⟩
 replace hW:Ext w6 W1:=hW
 replace hi:i<=B.length:=hi
 replace hin:b=decide (((k:Nat):Int)∈B.take i):=hin
 have hlW:=ER.ext eI hb6 hW
 have hWa:=hW
 refine .go O (.lenR un_I O O hlW (.go O ?_))
 rcases Nat.lt_or_ge i B.length with hlt | hge
 ·have hg:B[i]?=some (B.getD i 0):=A7 (z:=0) hlt
  have htk:∀ j,j∈B.take (i+1)<->j∈B.take i\/j=B.getD i 0:=fun j=>by
   rw [List.take_add_one,hg,List.mem_append];simp
  have h64:i<9223372036854775807:=by
   obtain ⟨_,_,_,_,hq⟩:=RL.len hlW
   omega
  refine .lssT O O O (by omega) ?_
  cases b with
  | true =>
   have hin:=of_decide_eq_true hin.symm
   exact .go O (.inc O O O (by omega) (.goN O (.mk (i+1,true) O (lc2 O O) ⟨⟨hW,hlt,(decide_eq_true ((htk _).2 (.inl hin))).symm⟩,by show B.length-(i+1)<B.length-i;omega⟩)))
  | false =>
   have hin:=of_decide_eq_false hin.symm
   refine .go O (.ixN (i:=i) un_I B0 O O hlW O hg fun q hq=>.go O (.ldE (E:=eInt .i64) B0 O O hq fun e he=>.go O ?_))
   obtain ⟨rfl,_⟩:=he
   by_cases e:B.getD i 0=((k:Nat):Int)
   ·exact .eqlT O O O e (.go O (.inc O O O (by omega) (.goN O (.mk (i+1,true) O (lc2 O O) ⟨⟨hW,hlt,(decide_eq_true ((htk _).2 (.inr e.symm))).symm⟩,by show B.length-(i+1)<B.length-i;omega⟩))))
   ·exact .eqlF O O O e (.go O (.inc O O O (by omega) (.goN O (.mk (i+1,false) O (lc2 O O) ⟨⟨hW,hlt,(decide_eq_false (fun h=>((htk _).1 h).elim hin fun h=>e h.symm)).symm⟩,by show B.length-(i+1)<B.length-i;omega⟩))))
 rw [List.take_of_length_le hge] at hin
 have hin1:=hin
 clear hin
 refine .lssF O O O (by omega) (.goC O ?_)
 refine .lp (α:=Nat×Bool) [1,3,9,10,11,12] O (fun y=>[(13,.bool y.2),(15,.int .i64 (y.1:Nat))]) (fun y W=>Ext W1 W/\y.1<=o.length/\y.2=decide (((k:Nat):Int)∈o.take y.1)) (fun y=>o.length-y.1) (0,false) (lc2 O O) ⟨Ext.refl _,Nat.zero_le _,by simp⟩ ?_
 rintro ⟨i,b2⟩ W2 ⟨hW,hi,hin⟩
 replace hW:Ext W1 W2:=hW
 replace hi:i<=o.length:=hi
 replace hin:b2=decide (((k:Nat):Int)∈o.take i):=hin
 have hlW:=ER.ext eI ho6 (hWa.trans hW)
 have hWW:=hWa.trans hW
 refine .go O (.lenR un_I O O hlW (.go O ?_))
 rcases Nat.lt_or_ge i o.length with hlt | hge
 ·have hg:o[i]?=some (o.getD i 0):=A7 (z:=0) hlt
  have htk:∀ j,j∈o.take (i+1)<->j∈o.take i\/j=o.getD i 0:=fun j=>by
   rw [List.take_add_one,hg,List.mem_append];simp
  have h64:i<9223372036854775807:=by
   obtain ⟨_,_,_,_,hq⟩:=RL.len hlW
   omega
  refine .lssT O O O (by omega) ?_
  cases b2 with
  | true =>
   have hin:=of_decide_eq_true hin.symm
   exact .go O (.inc O O O (by omega) (.goN O (.mk (i+1,true) O (lc2 O O) ⟨⟨hW,hlt,(decide_eq_true ((htk _).2 (.inl hin))).symm⟩,by show o.length-(i+1)<o.length-i;omega⟩)))
  | false =>
   have hin:=of_decide_eq_false hin.symm
   refine .go O (.ixN (i:=i) un_I B0 O O hlW O hg fun q hq=>.go O (.ldE (E:=eInt .i64) B0 O O hq fun e he=>.go O ?_))
   obtain ⟨rfl,_⟩:=he
   by_cases e:o.getD i 0=((k:Nat):Int)
   ·exact .eqlT O O O e (.go O (.inc O O O (by omega) (.goN O (.mk (i+1,true) O (lc2 O O) ⟨⟨hW,hlt,(decide_eq_true ((htk _).2 (.inr e.symm))).symm⟩,by show o.length-(i+1)<o.length-i;omega⟩))))
   ·exact .eqlF O O O e (.go O (.inc O O O (by omega) (.goN O (.mk (i+1,false) O (lc2 O O) ⟨⟨hW,hlt,(decide_eq_false (fun h=>((htk _).1 h).elim hin fun h=>e h.symm)).symm⟩,by show o.length-(i+1)<o.length-i;omega⟩))))
 rw [List.take_of_length_le hge] at hin
 have xW:=x6.trans hWW
 have k3:=k3.ext hWW
 have hmW:=ER.ext eM hm hWW
 refine .lssF O O O (by omega) (.go O (.ldA ty_N O O k3 O (.go O ?_)))
 refine .call _ O J5 O (I9 (T0:=fun _=>True) upT upT (hn.ext xW) (ho.ext xW)) fun v7 w7 e7 h7=>?_
 obtain ⟨vl,ve,rfl,hl,he⟩:=h7
 replace he:ve=.int .i64 (lkE n o (k:Nat)):=he
 subst he
 rw [Int.toNat_natCast] at hl
 have hl:eV.R (fun _=>True) w7 vl (rowL n o k):=hl
 have x7:=xW.trans e7
 have k3:=k3.ext e7
 have hm7:=ER.ext eM hmW e7
 have hs7:=hs.ext x7
 have hrl:(rowL n o k).length=if lkE n o (k:Nat)=0 then n.ls.length else 0:=by
  unfold rowL
  by_cases h:lkE n o (k:Nat)=0
  ·rw [if_pos h,if_pos h];exact A1 ..
  ·rw [if_neg h,if_neg h];rfl
 cases b2 with
 | true =>
  rw [if_pos (of_decide_eq_true hin.symm)] at hlk
  rw [hlk] at hrl ⊢
  rw [if_neg (by decide)] at hrl
  cases b with
  | true =>
   refine .go O (.eqlT O O O hO (.go O (.eqlT O O O O (.go O (.lenR un_M O O hm7 (.go O (.fa F1 O O (.go O (.ld I2 O O k3 O (.go O (.lenR H4 O O hs7 (.go O (.eqlT O O O (by omega) (.go O (.ixN (i:=k) un_M ty_V O O hm7 O hmk fun q hq=>.go O (.ldE (E:=eV) ty_V O O hq fun vr hvr=>.go O ?_))))))))))))))))
   have his:=Q3 hvr hl
   rw [Y5] at his
   refine .call _ O N4 O his fun v8 w8 e8 h8=>?_
   subst h8
   exact .go O (.eqlF O O O (by decide) (.go O (.lenR un_V O O (ER.ext eV hl e8) (.go O (.gtrF O O O (by omega) (.go O (.eqlB AJ2 O O O (.goE O (.plain [_] Tryz.results12 ⟨rfl,trivial⟩ ⟨x7.trans e8,rfl⟩)))))))))
  | false =>
   refine .go O (.eqlT O O O hO (.go O (.eqlT O O O O (.go O (.lenR un_M O O hm7 (.go O (.fa F1 O O (.go O (.ld I2 O O k3 O (.go O (.lenR H4 O O hs7 (.go O (.eqlT O O O (by omega) (.go O (.ixN (i:=k) un_M ty_V O O hm7 O hmk fun q hq=>.go O (.ldE (E:=eV) ty_V O O hq fun vr hvr=>.go O ?_))))))))))))))))
   have his:=Q3 hvr hl
   rw [Y5] at his
   refine .call _ O N4 O his fun v8 w8 e8 h8=>?_
   subst h8
   exact .go O (.eqlF O O O (by decide) (.go O (.lenR un_V O O (ER.ext eV hl e8) (.go O (.gtrF O O O (by omega) (.go O (.eqlB AJ2 O O O (.goE O (.plain [_] Tryz.results12 ⟨rfl,trivial⟩ ⟨x7.trans e8,rfl⟩)))))))))
 | false =>
  rw [if_neg (of_decide_eq_false hin.symm)] at hlk
  cases b with
  | true =>
   rw [if_pos (of_decide_eq_true hin1.symm)] at hlk
   rw [hlk] at hrl ⊢
   rw [if_neg (by decide)] at hrl
   refine .go O (.eqlT O O O hO (.go O (.eqlT O O O O (.go O (.lenR un_M O O hm7 (.go O (.fa F1 O O (.go O (.ld I2 O O k3 O (.go O (.lenR H4 O O hs7 (.go O (.eqlT O O O (by omega) (.go O (.ixN (i:=k) un_M ty_V O O hm7 O hmk fun q hq=>.go O (.ldE (E:=eV) ty_V O O hq fun vr hvr=>.go O ?_))))))))))))))))
   have his:=Q3 hvr hl
   rw [Y5] at his
   refine .call _ O N4 O his fun v8 w8 e8 h8=>?_
   subst h8
   exact .go O (.eqlF O O O (by decide) (.go O (.lenR un_V O O (ER.ext eV hl e8) (.go O (.gtrF O O O (by omega) (.go O (.eqlB AJ2 O O O (.goE O (.plain [_] Tryz.results12 ⟨rfl,trivial⟩ ⟨x7.trans e8,rfl⟩)))))))))
  | false =>
   rw [if_neg (of_decide_eq_false hin1.symm)] at hlk
   rw [hlk] at hrl ⊢
   rw [if_pos rfl] at hrl
   refine .go O (.eqlT O O O hO (.go O (.eqlT O O O O (.go O (.lenR un_M O O hm7 (.go O (.fa F1 O O (.go O (.ld I2 O O k3 O (.go O (.lenR H4 O O hs7 (.go O (.eqlT O O O (by omega) (.go O (.ixN (i:=k) un_M ty_V O O hm7 O hmk fun q hq=>.go O (.ldE (E:=eV) ty_V O O hq fun vr hvr=>.go O ?_))))))))))))))))
   have his:=Q3 hvr hl
   rw [Y5] at his
   refine .call _ O N4 O his fun v8 w8 e8 h8=>?_
   subst h8
   exact .go O (.eqlT O O O O (.go O (.lenR un_V O O (ER.ext eV hl e8) (.go O (.gtrT O O O (by omega) (.go O (.eqlB AJ2 O O O (.goE O (.plain [_] Tryz.results12 ⟨rfl,trivial⟩ ⟨x7.trans e8,rfl⟩)))))))))
end Go.Proofs.YtggegpiffjbngaaGreat
namespace Go.Kx
open Go Go.RowKit Go.ChangeShapes Go.WideShapes
section
variable {H:Type} {enc:TypeId×Value->H} {P:Program} {W:World}
def sh4 (P:Program) (t:TypeId):Option (List (TypeId×Nat)) :=
 match P.underlying t with
 | some (.struct fs)=>if fs.size=4 then some (fs.toList.map fun f=>(f.type,f.offset)) else none
 | _=>none
theorem BC2 {t ti tj:TypeId} (hs:sh4 P t=some [(ti,0),(ti,1),(tj,2),(tj,3)]) (hi:P.underlying ti=some (.int .i64)) (hj:P.underlying tj=some (.int .i64)) (hci:P.cellsOf ti=1) (hcj:P.cellsOf tj=1) (hct:P.cellsOf t=4):Opn enc P W eL t (fun _ _=>True):=by
 intro fuel cs x hx hfz
 unfold sh4 at hs
 split at hs
 ·rename_i fs hu
  split at hs
  ·rename_i hsz
   simp only [Option.some.injEq] at hs
   obtain ⟨l⟩:=fs
   match l,hsz with
   | [f0,f1,f2,f3],_ =>
    simp only [List.map_cons,List.map_nil,List.cons.injEq,Prod.mk.injEq,and_true] at hs
    obtain ⟨⟨h0,o0⟩,⟨h1,o1⟩,⟨h2,o2⟩,h3,o3⟩:=hs
    obtain ⟨y0,y1,y2,y3,n,rfl,hl,g0,g1,g2,g3⟩:=Joins.trod_struct4 hu hx
    rw [h0,o0,hci] at g0
    rw [h1,o1,hci] at g1
    rw [h2,o2,hcj] at g2
    rw [h3,o3,hcj] at g3
    rw [hct] at hl
    obtain ⟨c0,c1,c2,c3,rfl⟩:∃ c0 c1 c2 c3,cs=[c0,c1,c2,c3]:=by
     match cs,hl with
     | [c0,c1,c2,c3],_=>exact ⟨c0,c1,c2,c3,rfl⟩
    obtain ⟨n0,e0,_,w0⟩:=DataW.trod_int hi g0
    obtain ⟨n1,e1,_,w1⟩:=DataW.trod_int hi g1
    obtain ⟨n2,e2,_,w2⟩:=DataW.trod_int hj g2
    obtain ⟨n3,e3,_,w3⟩:=DataW.trod_int hj g3
    simp at e0 e1 e2 e3
    subst e0 e1 e2 e3
    exact ⟨.agg #[.int .i64 n0,.int .i64 n1,.int .i64 n2,.int .i64 n3],⟨n0,n1,n2,n3⟩,rfl,⟨rfl,AT6 w0,AT6 w1,AT6 w2,AT6 w3⟩,trivial⟩
  ·cases hs
 ·cases hs
theorem opn_N {t ti tl te:TypeId} (hs:sh2 P t=some ((ti,0),(tl,1))) (hi:P.underlying ti=some (.int .i64)) (hci:P.cellsOf ti=1) (hcl:P.cellsOf tl=1) (hct:P.cellsOf t=2) (hl:P.underlying tl=some (.slice te)) (hce:P.cellsOf te=4) (he:Opn enc P W eL te (fun _ _=>True)):Opn enc P W eN t (fun _ _=>True):=by
 intro fuel cs x hx hfz
 obtain ⟨y0,y1,n,rfl,hlen,h0,h1⟩:=BA6 hs hx
 rw [hci] at h0
 rw [hcl] at h1
 rw [hct] at hlen
 obtain ⟨c0,c1,rfl⟩:∃ c0 c1,cs=[c0,c1]:=by
  match cs,hlen with
  | [c0,c1],_=>exact ⟨c0,c1,rfl⟩
 obtain ⟨b,hb',_,hw⟩:=DataW.trod_int hi h0
 simp at hb'
 subst hb'
 obtain ⟨e,l,he',hR,_⟩:=(Opn.slice (Z:=fun _ _=>True) (E:=eL) (by decide) hl hce he) n _ _ h1 hfz.right
 obtain ⟨a,c,rfl,_⟩:=RL.len hR
 simp [Value.cells] at he'
 subst he'
 exact ⟨.agg #[.int .i64 b,.slice a l.length c],⟨b,l⟩,rfl,⟨_,rfl,hR,AT6 hw⟩,trivial⟩
end
end Go.Kx
namespace Go.Proofs.YtggegpiffjbngaaGreat
open Go Go.Kx Go.RowKit
section
variable {H:Type} {enc:TypeId×Value->H} {W:World}
theorem opnN:Opn enc Tryz.prog W eN 24 (fun _ _=>True):=opn_N (ti:=3) (tl:=22) (te:=58) (by kernel_rfl) O9 (by kernel_rfl) (by kernel_rfl) (by kernel_rfl) H4 (by kernel_rfl) (BC2 (ti:=3) (tj:=2) (by kernel_rfl) O9 AU2 (by kernel_rfl) (by kernel_rfl) (by kernel_rfl))
theorem opnH:Opn enc Tryz.prog W eI 25 (ZL fun _ _=>True):=Opn.slice (by decide) un_I (by kernel_rfl) (opn_int O9)
end
end Go.Proofs.YtggegpiffjbngaaGreat
