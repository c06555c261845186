/-
  What the claim leans on.
-/
import Derived.Test.YtggegpiffjbngaaGreatG6
import Derived.Lib.SmallJoins
set_option linter.unusedVariables false
namespace Go.Kx
open Go Go.RowKit
section
variable {P:Program} {σ:Env} {w:World} {d:Option Tmp} {ty:TypeId} {pos:String} {af:Array Edge} {g:Option (Nat×Bool)}
theorem BM3 {f:FuncId} {fx:Operand} {xs:List Operand} {ts:Array TypeId} (fs cap vs:List Value) {R:Value->World->Prop} (hfx:ev σ fx=some (.func (.func f) fs.toArray cap.toArray)) (hf:Ent P f) (hx:xs.map (ev σ)=vs.map some)
  (hc:CR P f (fs++(vs++cap)).toArray w R) :
  Gv P ⟨d,.call { callee:=.value fx,args:=xs.toArray,argTypes:=ts },ty,pos,af,g⟩ σ w fun v w'=>Ext w w'/\R v w':=by
 refine ⟨(by intro _ h;cases h),fun ρ hρ=>.inr (.inr ?_)⟩
 have h1:=hρ fx _ (by simp [Op.operands,Call.operands]) hfx
 have h2:xs.map ρ=vs:=AE0 (σ:=σ) (fun x v hx'=>hρ x v (by simp [Op.operands,Call.operands,hx'])) hx
 refine ⟨f,(fs++(vs++cap)).toArray,w,?_,hc⟩
 simp [execOp,resolve,h1,h2,Deferred.ofValue,invoke,hf _ _]
theorem BA2 {t e:TypeId} {x y:Operand} {z:Value} {sz by_ B:Nat} (n c:Nat) {k k':IntKind} (ht:P.underlying t=some (.slice e)) (hi:infoOf P e=some (z,sz,by_)) (hzs:z.cells.size=sz) (hsz:0<sz)
  (hx:ev σ x=some (.int k (n:Int))) (hy:ev σ y=some (.int k' (c:Int))) (hnc:n<=c) (hby:by_*c<=281474976710656) (hc:c<=9223372036854775807) (hB:B<=w.heap.size) :
  Gv P ⟨d,.makeSlice t x y,ty,pos,af,g⟩ σ w fun v' w'=>Ext w w'/\Sp.ok (.inr fun v W=>∃ b,v=.slice (some ⟨b,0,none⟩) n c/\B<=b/\Blk W b e (cellsOf (List.replicate c z)).toArray) v' w' :=
 (BM2 n c ht hi hzs hsz hx hy hnc hby hc).mono fun v' w' ⟨b,hv,hn⟩=>⟨hn.1,fun w'' e=>⟨b,hv,by have:=hn.2.2.1;omega,hn.2.1.ext e⟩⟩
end
theorem FB.rep {α:Type} {E:ER α} {t:TypeId} {S:Nat->Prop} {w:World} {g c:Nat} {z:Value} {z0:α} (hb:Blk w g t (cellsOf (List.replicate c z)).toArray) (hz:E.R (fun k=>S k/\k≠g) w z z0):FB E t S w g (List.replicate c z0) :=
 ⟨List.replicate c z,hb,by simp,fun i e x he hx=>by
  rw [List.getElem?_replicate] at he hx
  split at he
  ·rename_i h;rw [if_pos h] at hx;cases he;cases hx;exact hz
  ·cases he⟩
def mixF (f q:RM) (r c:Nat):RM:=fun r' c'=>if r'<r\/(r'=r/\c'<c) then f r' c'+q r' c' else f r' c'
theorem BD8 (f q:RM) (r c:Nat):upE (mixF f q r c) r c (f r c+q r c)=mixF f q r (c+1):=by
 funext a b
 unfold upE mixF
 by_cases ha:a=r
 ·subst ha
  rw [if_pos rfl]
  by_cases hb:b=c
  ·subst hb
   rw [if_pos rfl,if_pos (.inr ⟨rfl,by omega⟩)]
  ·rw [if_neg hb]
   by_cases h:b<c
   ·rw [if_pos (.inr ⟨rfl,h⟩),if_pos (.inr ⟨rfl,by omega⟩)]
   ·rw [if_neg (by omega),if_neg (by omega)]
 ·rw [if_neg ha]
  by_cases h:a<r
  ·rw [if_pos (.inl h),if_pos (.inl h)]
  ·rw [if_neg (by omega),if_neg (by omega)]
theorem BK9 (B:Nat) (f q:RM) (r:Nat):tabM B B (mixF f q r B)=tabM B B (mixF f q (r+1) 0):=D3 fun a b _ hb=>by
 unfold mixF
 by_cases h:a<r+1
 ·rw [if_pos (by omega),if_pos (.inl h)]
 ·rw [if_neg (by omega),if_neg (by omega)]
theorem BD7 (B:Nat) (f q:RM):tabM B B (mixF f q 0 0)=tabM B B f:=D3 fun a b _ _=>by unfold mixF;rw [if_neg (by omega)]
theorem BL0 (B:Nat) (f q:RM):tabM B B (mixF f q B 0)=tabM B B fun r c=>f r c+q r c:=D3 fun a b ha _=>by unfold mixF;rw [if_pos (.inl ha)]
theorem mixF_at (f q:RM) (r c:Nat):mixF f q r c r c=f r c:=by unfold mixF;rw [if_neg (by omega)]
end Go.Kx
namespace Go.Proofs.YtggegpiffjbngaaGreat
open Go Go.Kx Go.RowKit
theorem BC1 {n:Nw} {k b:Nat} (hne:n.F k≠n.T k):((brE (n.F k:Nat) (n.T k:Nat) (b:Nat):Int):Rat)=n.inc k b:=by
 unfold brE Nw.inc dl
 by_cases h1:n.F k=b
 ·rw [if_pos (by omega),if_pos h1,if_neg (by omega)];grind
 ·rw [if_neg (by omega),if_neg h1]
  by_cases h2:n.T k=b
  ·rw [if_pos (by omega),if_pos h2];grind
  ·rw [if_neg (by omega),if_neg h2];grind
theorem AR3 {n:Nw} {k a b:Nat} {x:Int} (hne:n.F k≠n.T k) (hg:n.g k=((x:Int):Rat)⁻¹):Rat.divInt (brE (n.F k:Nat) (n.T k:Nat) (a:Nat)*brE (n.F k:Nat) (n.T k:Nat) (b:Nat)) x=n.g k*(n.inc k a*n.inc k b):=by
 rw [<-BC1 hne,<-BC1 hne,hg,Rat.divInt_eq_div,Rat.div_def,Rat.mul_comm,Rat.intCast_mul]
theorem BO0:Ent Tryz.prog 99:=A0 Tryz.func99 (by kernel_rfl) rfl
set_option maxRecDepth 8000 in
theorem BN7 {S:Nat->Prop} {w:World} {b8 gb B:Nat} {hs:List Nat} {f q:RM} {F T x c:Int} (up:Up S w) (hM:MB 32 54 S w gb B hs (tabM B B f)) (k8:Blk w b8 28 #[slB B gb]) (h8:b8∉hs) (h8g:b8≠gb) (hB:B<=6)
  (hf:∀ r c,Rsz (f r c) 30) (hq:∀ a b:Nat,Rat.divInt (brE F T (a:Nat)*brE F T (b:Nat)) x=q a b) (hqs:∀ r c,Rsz (q r c) 30) (hx:1<=x) (hx2:x<=1000) :
  Calls Tryz.prog 99 #[.func (.func 100) #[brV F T x c] #[],.pointer (some ⟨b8,0,none⟩)] w fun e w'=>∃ v,e=.returned v/\(Chg (fun k=>k∈hs) w w'/\MB 32 54 S w' gb B hs (tabM B B fun r c=>f r c+q r c)):=by
 have hlen:hs.length=B:=by rw [hM.len,B0]
 have hhg:∀ i,i<B->hs[i]?=some (hs.getD i 0):=fun i hi=>A7 (by omega)
 have hgn:=hM.gn
 have hgl:=hM.out.lt
 have hlt0:∀ k∈hs,k<w.heap.size:=fun k hk=>hM.lt hk
 refine enterG Tryz.func99 O Tryz.ntmps99 O (.beg (.go O (.ld ty_M O O k8 O (.len un_M O O ?_))))
 refine .goC O (.lp (α:=Nat) [0,1,6] O (fun r=>[(7,.int .i64 (r:Nat))]) (fun r W=>r<=B/\Chg (fun k=>k∈hs) w W/\MB 32 54 S W gb B hs (tabM B B (mixF f q r 0))) (fun r=>B-r) 0 (lc1 O) ⟨Nat.zero_le _,Chg.refl _,by rw [BD7];exact hM⟩ ?_)
 rintro r W ⟨hr,hC,hM⟩
 refine .go O ?_
 rcases Nat.lt_or_ge r B with hrl | hge
 rotate_left
 ·refine .lssF O O O (by omega) (.goE O ?_)
  have:r=B:=by omega
  subst this
  rw [BL0] at hM
  exact .plain [] Tryz.results99 trivial ⟨hC,hM⟩
 refine .lssT O O O (by omega) (.go O (.ld ty_M O O (hC.blk k8 h8) O (.go O (.ixB (i:=r) un_M ty_V O O O hrl (.ld ty_V O O hM.out (hM.cell (hhg r hrl)) (.len un_V O O ?_))))))
 refine .goC O (.lp (α:=Nat) [0,1,3,6,7,14] O (fun c=>[(15,.int .i64 (c:Nat))]) (fun c W=>c<=B/\Chg (fun k=>k∈hs) w W/\MB 32 54 S W gb B hs (tabM B B (mixF f q r c))) (fun c=>B-c) 0 (lc1 O) ⟨Nat.zero_le _,hC,hM⟩ ?_)
 clear hM hC W
 rintro j W ⟨hj,hC,hM⟩
 refine .go O ?_
 rcases Nat.lt_or_ge j B with hjl | hge
 rotate_left
 ·have:j=B:=by omega
  subst this
  rw [BK9] at hM
  exact .lssF O O O (by omega) (.go O (.inc O O O (by omega) (.goN O (.mk (r+1) O (lc1 O) ⟨⟨hrl,hC,hM⟩,by show j-(r+1)<j-r;omega⟩))))
 have k8W:=hC.blk k8 h8
 have hrow:=hM.row r _ _ (hhg r hrl) (G6 hrl)
 have hCs:=hC.size
 have upT:∀ {W':World},W.heap.size<=W'.heap.size->Up (offM S gb hs) W':=fun h k' hk'=>⟨up k' (by omega),by omega,fun hm=>by have:=hlt0 k' hm;omega⟩
 refine .lssT O O O (by omega) (.goC O ?_)
 refine .par follows 17 [.inl (slB B gb),.inl (.int .i64 (r:Nat)),.inl (.pointer (some ⟨gb,0+r*1,none⟩)),.inl (slB B (hs.getD r 0)),.inl (.int .i64 (j:Nat)),.inl (slB B gb),.inl (.int .i64 (r:Nat)),.inl (.pointer (some ⟨gb,0+r*1,none⟩)),.inl (slB B (hs.getD r 0)),.inl (.int .i64 (j:Nat)),.inl (.pointer (some ⟨hs.getD r 0,0+j*4,none⟩)),.inr (eQ.at (offM S gb hs) (qc (f r j))),.inl _,.inl _,.inl _,.inr (eQ.at (offM S gb hs) (qc (q r j))),.inr (eQ.at (offM S gb hs) (qc (f r j+q r j)))] [[],[],[(18,0),(19,1)],[(20,2)],[],[],[],[(23,5),(24,6)],[(25,7)],[],[(26,8),(27,9)],[(28,10)],[],[],[],[(30,12),(31,13),(32,14)],[(29,11),(33,15)]] (by kernel_rfl) ⟨
  fun w e=>(v_ld ty_M O (k8W.ext e) O).ob,
  fun w e=>(v_mv O).ob,
  fun w e=>(N1 (i:=r) un_M ty_V O O hrl).ob,
  fun w e=>(v_ld ty_V O (hM.out.ext e) (hM.cell (hhg r hrl))).ob,
  fun w e=>(v_mv O).ob,
  fun w e=>(v_ld ty_M O (k8W.ext e) O).ob,
  fun w e=>(v_mv O).ob,
  fun w e=>(N1 (i:=r) un_M ty_V O O hrl).ob,
  fun w e=>(v_ld ty_V O (hM.out.ext e) (hM.cell (hhg r hrl))).ob,
  fun w e=>(v_mv O).ob,
  fun w e=>(N1 (i:=j) un_V ty_Q O O hjl).ob,
  fun w e=>(AD6 (E:=eQ) (i:=j) (by decide) ty_Q O (Nat.zero_add _) (hrow.2.ext e) (by rw [L6 hjl,mixF_at])).mono fun v' w' h=>⟨h.1,fun w'' e'=>eQ.mono (fun _ _ h=>h.1) (h.2 w'' e')⟩,
  fun w e=>(v_mv O).ob,
  fun w e=>(v_mv O).ob,
  fun w e=>(v_mv O).ob,
  fun w e=>by
   have:=Ax6 (f:=F) (t:=T) (c:=c) (a:=(r:Nat)) (b:=(j:Nat)) (upT e.size) hx hx2
   rw [hq] at this
   exact (BM3 [brV F T x c] [] [.int .i64 (r:Nat),.int .i64 (j:Nat)] O Ay6 O this).ob (A3 _ _ _),
  fun w e x11 hx11 x15 hx15=>by
   have:=AN0 (L:=30) (upT e.size) hx11 hx15 (hf _ _).toOk (hqs _ _).toOk (by decide) (by decide)
   rw [D9,D9] at this
   exact (A1 _ AF1 O this).ob (A3 _ _ _),trivial⟩ ?_
 intro X0 g0 _ _ _ _ y0 hy0
 have sx0:=g0.size
 have hm:hs.getD r 0∈hs:=P7 (by omega)
 refine .ixB (i:=j) un_V ty_Q O O O hjl (.storeF (E:=eQ) (i:=j) (by decide) ty_Q O O (hrow.2.ext g0) O (by rw [A2];exact hjl) (Nat.zero_add _) (eQ.mono (fun k' _ h=>⟨h,fun e=>h.2.2 (e▸hm)⟩) hy0) fun Y0 fy0 uy0=>?_)
 have hM:=(hM.ext g0).set (hhg r hrl) (by rw [List.length_set,A2]) uy0 fy0
 rw [BI2 hrl,BD8] at hM
 exact .go O (.inc O O O (by omega) (.goN O (.mk (j+1) O (lc1 O) ⟨⟨hjl,hC.trans ((Chg.ext g0).trans (Chg.upd uy0 hm)),hM⟩,by show B-(j+1)<B-j;omega⟩)))
theorem AC5:Ent Tryz.prog 38:=A0 Tryz.func38 (by kernel_rfl) rfl
set_option maxRecDepth 8000 in
theorem AT8 {S:Nat->Prop} {w:World} {vn vo:Value} {n:NtV} {o:List Int} (up:Up S w) (hn:eN.R S w vn n) (ho:eI.R S w vo o) :
  CR Tryz.prog 38 #[vn,vo] w (Two (fun v W=>if outE n o=0 then MBat 32 54 S w.heap.size (nwOf n o).B (nwOf n o).B (tabM (nwOf n o).B (nwOf n o).B (nwOf n o).Lm) v W else v=.slice none 0 0) (Is (.int .i64 (outE n o)))):=by
 obtain ⟨s,rfl,hs,hb⟩:=hn
 have hn:eN.R S w (.agg #[.int .i64 n.b,s]) n:=⟨s,rfl,hs,hb⟩
 refine enter Tryz.func38 O Tryz.ntmps38 O (.beg (.go O (.box O O fun w1 b2 n1=>?_)))
 obtain ⟨e1,k2,hb2,hs1⟩:=n1
 refine .go O (.ldA ty_N O O k2 O (.go O ?_))
 refine .call _ O AI0 O (AG9 (up.ext e1.size) (hn.ext e1) (ho.ext e1)) fun v2 w2 e2 h2=>?_
 obtain ⟨vl,ve,rfl,hl,he⟩:=h2
 replace he:ve=.int .i64 (outE n o):=he
 subst he
 have x2:=e1.trans e2
 refine .go O ?_
 by_cases hE:outE n o=0
 rotate_left
 ·refine .neqT O O O hE (.goE O ?_)
  refine .plain [_,_] Tryz.results38 ⟨rfl,rfl,trivial⟩ ⟨x2,_,_,rfl,?_,rfl⟩
  show if outE n o=0 then _ else _
  rw [if_neg hE]
 have ok:=T8 hE
 rw [if_pos hE] at hl
 have hB6:=ok.b6
 have hB1:=ok.b1
 have hM10:n.ls.length<=10:=ok.m
 have hnb:=ok.b
 have hll:=AJ2 n o
 have k2:=k2.ext e2
 have hsx2:=x2.size
 rw [hnb] at k2
 refine .neqF O O O hE (.go O (.fa G0 O O (.ld A5 O O k2 O ?_)))
 generalize hBB:(nwOf n o).B=B at hB6 hB1 hnb k2
 refine .make_ _ _ un_M AT5 O (by decide) O O O (Nat.le_refl _) (by omega) (by omega) fun w3 gb n3=>.alloc O BG9 fun w4 b8 n4=>?_
 obtain ⟨e3,kg,hgb,hs3⟩:=n3
 obtain ⟨e4,k8,hb8,hs4⟩:=n4
 refine .store ty_M O O k8 O (by simp [Value.cells]) (by simp [one1,Value.cells]) fun w5 k8 u5=>?_
 replace k8:Blk w5 b8 28 #[slB B gb]:=k8
 have hs5:=u5.size
 have y5:Ext w2 w5:=u5.below (e3.trans e4) (by omega)
 have k2V:=k2
 have k2:=k2.ext y5
 have kg:Blk w5 gb 32 (cellsOf (List.replicate B nilV)).toArray:=(kg.ext e4).upd u5 (by omega)
 refine .go O (.ld ty_M O O k8 O (.len un_M O O ?_))
 have hb2l:=(k2).lt
 have hup:∀ k,w.heap.size<=k->S k:=up
 refine .goC O (.cut (α:=List Nat) 1 [2,6,8,26] O (fun hs=>[(27,.int .i64 (hs.length:Nat))]) (fun hs W=>Ext w2 W/\Blk W b8 28 #[slB B gb]/\(∀ k∈hs,w5.heap.size<=k)/\MB 32 54 S W gb B hs (tabM B B fun _ _=>0)) O ?_ ?_)
 rotate_left
 ·refine .lp (α:=List Nat) [2,6,8,26] rfl (fun hs=>[(27,.int .i64 (hs.length:Nat))]) (fun hs W=>Ext w2 W/\Blk W b8 28 #[slB B gb]/\hs.length<=B/\Blk W gb 32 (cellsOf (hs.map (slB B)++List.replicate (B-hs.length) nilV)).toArray/\hs.Nodup/\(∀ k∈hs,w5.heap.size<=k)/\∀ (i h:Nat),hs[i]?=some h->FB eQ 54 (fun _=>False) W h (List.replicate B q0)) (fun hs=>B-hs.length) [] (lc1 rfl) ⟨y5,k8,Nat.zero_le _,kg,List.nodup_nil,(fun k hk=>by cases hk),(fun i h hh=>by cases hh)⟩ ?_
  rintro hs W ⟨hW,k8,hi,hO,hnd,hge,hrow⟩
  have hWs:=hW.size
  have hgl:=hO.lt
  refine .go O ?_
  rcases Nat.lt_or_ge hs.length B with hlt | hge'
  rotate_left
  ·refine .lssF O O O (by omega) (.goN O (.mk hs O (lc1 O) ⟨hW,k8,hge,?_⟩))
   have hl:hs.length=B:=by omega
   rw [hl,Nat.sub_self,List.replicate_zero,List.append_nil] at hO
   refine ⟨hO,hnd,fun hm=>by have:=hge gb hm;omega,by rw [B0];exact hl,fun i h r h1 h2=>?_⟩
   have hil:i<B:=by have:=(List.getElem?_eq_some_iff.1 h1).1;omega
   rw [G6 hil] at h2
   cases h2
   rw [AG0]
   exact ⟨by simp,(hrow i h h1).mono fun _ _ h=>h.elim⟩
  refine .lssT O O O (by omega) (.goC O ?_)
  refine .par follows 5 [.inl (slB B gb),.inl (.int .i64 (hs.length:Nat)),.inl (.pointer (some ⟨b2,0,none⟩)),.inl (.int .i64 (B:Nat)),.inr (fun v W'=>∃ b,v=.slice (some ⟨b,0,none⟩) B B/\W.heap.size<=b/\Blk W' b 54 (cellsOf (List.replicate B zq)).toArray)] [[],[],[],[(32,2)],[(33,3)]] (by kernel_rfl) ⟨
   fun w e=>(v_ld ty_M O (k8.ext e) O).ob,
   fun w e=>(v_mv O).ob,
   fun w e=>(v_fa G0 O).ob,
   fun w e=>(v_ld A5 O ((k2V.ext hW).ext e) O).ob,
   fun w e=>BA2 B B un_V I9 O (by decide) O O (Nat.le_refl _) (by omega) (by omega) e.size,trivial⟩ ?_
  rintro W1 g1 _ ⟨h,rfl,hhW,kh⟩
  have hs1':=g1.size
  have hlW:∀ k∈hs,k<W.heap.size:=fun k hk=>by
   obtain ⟨i,hi⟩:=List.mem_iff_getElem?.1 hk
   exact (hrow i k hi).lt
  have hesz:∀ e∈hs.map (slB B)++List.replicate (B-hs.length) nilV,e.cells.size=1:=fun e he=>by
   rcases List.mem_append.1 he with h | h
   ·obtain ⟨_,_,rfl⟩:=List.mem_map.1 h;rfl
   ·rw [(List.mem_replicate.1 h).2];rfl
  have hset:(hs.map (slB B)++List.replicate (B-hs.length) nilV).set hs.length (slB B h)=(hs++[h]).map (slB B)++List.replicate (B-(hs.length+1)) nilV:=by
   have:=Aj3 (hs.map (slB B)) nilV (slB B h) (B-(hs.length+1))
   rw [List.length_map,show B-(hs.length+1)+1=B-hs.length by omega] at this
   rw [this,List.map_append];rfl
  refine .ixB (i:=hs.length) un_M ty_V O O O hlt ?_
  refine .gv O O (Ac2 (i:=hs.length) (by decide) ty_V O O (hO.ext g1) hesz O (by simp [Value.cells,one1]) (by simp;omega) (Nat.zero_add _)) ?_
  rintro _ W2 ⟨hBg2,u2⟩
  replace hBg2:Blk W2 gb 32 (cellsOf ((hs.map (slB B)++List.replicate (B-hs.length) nilV).set hs.length (slB B h))).toArray:=hBg2
  rw [hset] at hBg2
  refine .go O (.inc O O O (by omega) (.goN O (.mk (hs++[h]) O (lc1 (by rw [List.length_append];rfl)) ⟨⟨u2.below (hW.trans g1) (by omega),(k8.ext g1).upd u2 (by omega),by rw [List.length_append];exact hlt,by rw [List.length_append];exact hBg2,?_,?_,?_⟩,by rw [List.length_append];show B-(hs.length+1)<B-hs.length;omega⟩)))
  ·exact List.nodup_append.2 ⟨hnd,by simp,fun a ha b hb=>by rw [List.mem_singleton.1 hb];have:=hlW a ha;omega⟩
  ·intro k hk
   rcases List.mem_append.1 hk with hk | hk
   ·exact hge k hk
   ·rw [List.mem_singleton.1 hk];have:=k8.lt;omega
  ·intro i x hx
   rcases Nat.lt_or_ge i hs.length with hil | hil
   ·rw [List.getElem?_append_left hil] at hx
    have:=hge x (List.mem_iff_getElem?.2 ⟨i,hx⟩)
    exact ((hrow i x hx).ext g1).upd u2 (by omega) fun h=>h
   ·rw [List.getElem?_append_right hil] at hx
    have:x=h:=by
     cases hj:i-hs.length with
     | zero=>rw [hj] at hx;simpa using hx.symm
     | succ j=>rw [hj] at hx;simp at hx
    subst this
    exact (FB.rep (S:=fun _=>False) kh zq_R).upd u2 (by omega) fun h=>h
 rintro hs0 W ⟨hW,k8,hge,hM⟩
 have hWs:=hW.size
 have hgl:=hM.out.lt
 refine .go O (.mkf [] [_] O O O O (.go O (.lenR un_I O O (ER.ext eI hl hW) ?_)))
 rw [show (pInts (inL n o)).length=(inL n o).length by simp]
 refine .goC O (.lp (α:=Nat) [2,8,10,38,39] O (fun i=>[(40,.int .i64 (i:Nat))]) (fun i W=>i<=(inL n o).length/\Ext w2 W/\Blk W b8 28 #[slB B gb]/\MB 32 54 S W gb B hs0 (tabM B B ((nwOf n o).lmL ((inL n o).take i)))) (fun i=>(inL n o).length-i) 0 (lc1 O) ⟨Nat.zero_le _,hW,k8,hM⟩ ?_)
 clear hW hM k8 hgl hWs W
 rintro i W ⟨hi,hW,k8,hM⟩
 have hWs:=hW.size
 refine .go O ?_
 rcases Nat.lt_or_ge i (inL n o).length with hlt | hge'
 rotate_left
 ·refine .lssF O O O (by omega) (.go O (.ld ty_M O O k8 O (.goE O ?_)))
  have:i=(inL n o).length:=by omega
  subst this
  refine .plain [_,_] Tryz.results38 ⟨rfl,rfl,trivial⟩ ⟨x2.trans hW,_,_,rfl,?_,by rw [hE]⟩
  show if outE n o=0 then _ else _
  rw [if_pos hE]
  have hfin:tabM B B ((nwOf n o).lmL ((inL n o).take (inL n o).length))=tabM B B (nwOf n o).Lm:=D3 fun b c _ _=>by
   rw [List.take_of_length_le (Nat.le_refl _)]
   exact Nw.lmL_free (p:=oN o) b c _ fun k hk=>ok.g0 hk
  rw [hfin] at hM
  exact ⟨gb,hs0,rfl,by omega,fun k hk=>by have:=hge k hk;omega,hM⟩
 obtain ⟨hgk,hkM,hko⟩:=AQ0 hlt
 refine .lssT O O O (by omega) (.go O (.ixN (i:=i) un_I C9 O O (ER.ext eI hl hW) O hgk fun q hq=>.ldE (E:=eInt .i64) C9 O O hq fun e he=>?_))
 obtain ⟨rfl,_⟩:=he
 have hgl:n.ls[(inL n o).getD i 0]?=some (n.ls.getD ((inL n o).getD i 0) ln0):=A7 hkM
 have hFI:=ok.fI _ hkM
 have hTI:=ok.tI _ hkM
 have hne:=ok.ne _ hkM
 have hx:=ok.x _ hkM
 have hgv:=g_on (n:=n) hko
 have htk:(inL n o).take (i+1)=(inL n o).take i++[(inL n o).getD i 0]:=by rw [List.take_add_one,A7 (z:=0) hlt];rfl
 generalize hkk:(inL n o).getD i 0=k at hgl hFI hTI hx hgv hkM hne htk
 generalize hln:n.ls.getD k ln0=ln at hgl hFI hTI hx hgv
 refine .go O (.fa G5 O O (.ld J1 O O (k2V.ext hW) O (.go O (.ixN (i:=k) I8 K8 O O (ER.ext eLs hs (x2.trans hW)) O hgl fun q hq=>.ldE (E:=eL) K8 O O hq fun vl' hvl=>?_))))
 obtain ⟨rfl,_⟩:=hvl
 rw [hFI,hTI]
 refine .bld _ O O Ax8 (.mkf [_] [] O O O O ?_)
 have hgs:=ok.gsz k
 have hq:∀ a b,Rsz ((nwOf n o).g k*((nwOf n o).inc k a*(nwOf n o).inc k b)) 30:=fun a b=>by
  refine (AY9 hgs (Nat.le_refl _) ?_).mono (by decide)
  rcases (nwOf n o).inc_tri k a with h | h | h<;>rcases (nwOf n o).inc_tri k b with h' | h' | h'<;>rw [h,h']<;>grind
 have hfs:∀ r c,Rsz ((nwOf n o).lmL ((inL n o).take i) r c) 30:=fun r c=>((nwOf n o).lmL_rsz (Nat.le_refl _) (fun k=>ok.gsz k) r c _).mono (by
  rw [List.length_take]
  have:=Nat.mul_le_mul_right 2 (show min i (inL n o).length<=10 by omega)
  omega)
 have hcall:=BN7 (S:=S) (c:=ln.c) (up.ext (x2.trans hW).size) hM k8 (fun hm=>by have:=hge b8 hm;omega) (by omega) hB6 hfs (fun a b=>AR3 hne hgv) hq hx.1 hx.2
 refine .callvG [_] O O BO0 O hcall ?_
 rintro v W1 ⟨hC,hM1⟩
 have hnew:tabM B B (fun r c=>(nwOf n o).lmL ((inL n o).take i) r c+(nwOf n o).g k*((nwOf n o).inc k r*(nwOf n o).inc k c))=tabM B B ((nwOf n o).lmL ((inL n o).take (i+1))):=D3 fun b c _ _=>by rw [htk,Nw.lmL_snoc]
 rw [hnew] at hM1
 exact .go O (.inc O O O (by omega) (.goN O (.mk (i+1) O (lc1 O) ⟨⟨hlt,hC.below hW (by omega) (fun k hk=>by have:=hge k hk;omega),hC.blk k8 (fun hm=>by have:=hge b8 hm;omega),hM1⟩,by show (inL n o).length-(i+1)<(inL n o).length-i;omega⟩)))
end Go.Proofs.YtggegpiffjbngaaGreat
namespace Go.Kx
open Go Go.RowKit
section
variable {n:Nw}
end
section
variable {n:Nw}
end
theorem OwnL.one {α:Type} {E:ER α} {t:TypeId} {base:Nat} {X:Nat->Prop} {w w':World} {b:Nat} {e:Value} {x:α} (hn:New w w' b t e.cells) (hb:base<=w.heap.size) (hs:e.cells.size=E.sz) (hx:E.R (fun k=>X k/\k≠b) w' e x):OwnL E t base X w' (.slice (some ⟨b,0,none⟩) 1 1) [x]:=by
 obtain ⟨_,hk,hb',_⟩:=hn
 have hc:cellsOf [e]=e.cells.toList:=by simp [cellsOf]
 refine ⟨[e],⟨by rw [hc];simp [hs],.inr ⟨b,1,_,rfl,by omega,hk,Nat.le_refl _,by decide,by simp [hs],by rw [hc,List.take_of_length_le (by simp [hs])]⟩⟩,rfl,fun i e' x' he hx'=>?_⟩
 have hi:i=0:=by
  cases i with
  | zero=>rfl
  | succ i=>simp at he
 subst hi
 simp at he hx'
 subst he;subst hx'
 exact E.mono (fun k _ h=>⟨h.1,fun e=>h.2 (by simpa [Value.ownBlock] using e.symm)⟩) hx
section
variable {n:Nw}
theorem Nw.lap_add (θ φ:Nat->Rat) (b:Nat):n.lap (fun c=>θ c+φ c) b=n.lap θ b+n.lap φ b:=by
 unfold Nw.lap Nw.off
 rw [<-Ab3]
 refine A4 fun k _=>?_
 unfold Nw.fl;grind
theorem Nw.lap_smul (θ:Nat->Rat) (y:Rat) (b:Nat):n.lap (fun c=>θ c*y) b=n.lap θ b*y:=by
 unfold Nw.lap Nw.off
 rw [<-Q7]
 refine A4 fun k _=>?_
 unfold Nw.fl;grind
theorem Nw.lap_zero (b:Nat):n.lap (fun _=>0) b=0:=by
 unfold Nw.lap Nw.off
 refine F7 fun k _=>?_
 unfold Nw.fl;grind
theorem Nw.lap_lin (t:Nat->Nat->Rat) (y:Nat->Rat) (i:Nat):∀ m,n.lap (fun c=>sumN m fun b=>t b c*y b) i=sumN m fun b=>n.lap (t b) i*y b
 | 0=>Nw.lap_zero i
 | m+1=>by
  show n.lap (fun c=>(sumN m fun b=>t b c*y b)+t m c*y m) i=(sumN m fun b=>n.lap (t b) i*y b)+n.lap (t m) i*y m
  rw [Nw.lap_add,Nw.lap_lin t y i m,Nw.lap_smul]
def Nw.inj0 (n:Nw) (x:Nat->Rat) (b:Nat):Rat:=if n.root b=b then 0 else x b
def Nw.an (n:Nw) (x:Nat->Rat) (c:Nat):Rat:=sumN n.B fun b=>n.th b c*n.inj0 x b
theorem Nw.an_eq (ok:n.Ok) (x:Nat->Rat) {i:Nat} (hi:i<n.B):(if n.root i=i then n.an x i else n.lap (n.an x) i)=n.inj0 x i:=by
 have hB:1<=n.B:=by omega
 have key:∀ b,b<n.B->(if n.root i=i then n.th b i else n.lap (n.th b) i)=dl i b:=fun b hb=>Go.Proofs.YtggegpiffjbngaaGreat.th_eq ok hB hb hi
 by_cases hr:n.root i=i
 ·rw [if_pos hr]
  unfold Nw.an
  rw [<-Ab1 (n.inj0 x) hi]
  refine A4 fun b hb=>?_
  have:=key b hb
  rw [if_pos hr] at this
  rw [this,Rat.mul_comm]
 ·rw [if_neg hr]
  unfold Nw.an
  rw [Nw.lap_lin,<-Ab1 (n.inj0 x) hi]
  refine A4 fun b hb=>?_
  have:=key b hb
  rw [if_neg hr] at this
  rw [this,Rat.mul_comm]
def Nw.bal (n:Nw) (x:Nat->Rat):Prop:=∀ r,r<n.B->n.root r=r->sumN n.B (fun b=>if n.root b=r then x b else 0)=0
theorem Nw.bal_lab (x:Nat->Rat):n.bal x<->∀ j,j<n.B->sumN n.B (fun b=>if n.lab b=j then x b else 0)=0:=by
 have key:∀ r,r<n.B->n.root r=r->sumN n.B (fun b=>if n.lab b=n.lab r then x b else 0)=sumN n.B (fun b=>if n.root b=r then x b else 0):=fun r hr hrr=>A4 fun b hb=>by
  by_cases h:n.root b=r
  ·rw [if_pos h,if_pos ((Nw.lab_eq hb hr).2 (h.trans hrr.symm))]
  ·rw [if_neg h,if_neg fun h'=>h (((Nw.lab_eq hb hr).1 h').trans hrr)]
 constructor
 ·intro h j hj
  by_cases hex:∃ b,b<n.B/\n.lab b=j
  ·obtain ⟨b,hb,rfl⟩:=hex
   have hrb:n.root b<n.B:=Nat.lt_of_le_of_lt (Nw.root_le b) hb
   rw [n.lab_of b,key _ hrb (Nw.root_root b)]
   exact h _ hrb (Nw.root_root b)
  ·exact F7 fun b hb=>by rw [if_neg fun h=>hex ⟨b,hb,h⟩]
 ·intro h r hr hrr
  rw [<-key r hr hrr]
  exact h _ (Nat.lt_of_le_of_lt (n.lab_le r) hr)
theorem Nw.bal_congr {x y:Nat->Rat} (h:∀ b,b<n.B->x b=y b):n.bal x<->n.bal y:=by
 unfold Nw.bal
 have:∀ r,sumN n.B (fun b=>if n.root b=r then x b else 0)=sumN n.B (fun b=>if n.root b=r then y b else 0):=fun r=>A4 fun b hb=>by rw [h b hb]
 simp only [this]
def Nw.bl (n:Nw) (x:Nat->Rat) (b:Nat):Rat:=if n.root b=b then-sumN n.B (fun c=>if c≠b/\n.root c=b then x c else 0) else x b
end
end Go.Kx
namespace Go.Proofs.YtggegpiffjbngaaGreat
open Go Go.Kx Go.RowKit
theorem uni_dl (b c:Nat):uni ((b:Nat):Int) c=dl b c:=by
 unfold uni dl
 by_cases h:b=c
 ·rw [if_pos (by omega),if_pos h]
 ·rw [if_neg (by omega),if_neg h]
theorem bd6 (L:Nat):bd L 6=4096*L+1365:=by
 simp only [bd];omega
theorem rv_sum {x:List QV} {B:Nat} (hx:x.length<=B) (p:Nat->Prop) [DecidablePred p]:sumN x.length (fun b=>if p b then rv x b else 0)=sumN B (fun b=>if p b then rv x b else 0):=by
 obtain ⟨d,rfl⟩:∃ d,B=x.length+d:=⟨B-x.length,by omega⟩
 clear hx
 induction d with
 | zero=>rfl
 | succ d ih =>
  rw [ih]
  show _=sumN (x.length+d) _+(if p (x.length+d) then rv x (x.length+d) else 0)
  rw [AM4 (show x.length<=x.length+d by omega),ite_self,Rat.add_zero]
theorem AY5:Ent Tryz.prog 32:=A0 Tryz.func32 (by kernel_rfl) rfl
open Classical in
set_option maxRecDepth 8000 in
theorem AY0 {S:Nat->Prop} {w:World} {vn vo vx:Value} {n:NtV} {o:List Int} {x:List QV} {L:Nat} (up:Up S w) (hn:eN.R S w vn n) (ho:eI.R S w vo o) (hx:eV.R S w vx x) (hkx:vk L x) (hL1:1<=L) (hL:L<=1000000) :
  CR Tryz.prog 32 #[vn,vo,vx] w (Two (Is (.bool (decide (sfE n o x.length=0/\(nwOf n o).bal (rv x))))) (Is (.int .i64 (sfE n o x.length)))):=by
 obtain ⟨s,rfl,hs,hb⟩:=hn
 have hn:eN.R S w (.agg #[.int .i64 n.b,s]) n:=⟨s,rfl,hs,hb⟩
 refine enter Tryz.func32 O Tryz.ntmps32 O (.beg (.go O (.box O O fun w1 b3 n1=>?_)))
 obtain ⟨e1,k3,hb3,hs1⟩:=n1
 refine .go O (.ldA ty_N O O k3 O (.go O ?_))
 refine .call _ O AX4 O (AW3 (up.ext e1.size) (hn.ext e1) (ho.ext e1)) fun v2 w2 e2 h2=>?_
 obtain ⟨vl,ve,rfl,hl,he⟩:=h2
 replace he:ve=.int .i64 (outE n o):=he
 subst he
 have x2:=e1.trans e2
 refine .go O ?_
 by_cases hE:outE n o=0
 rotate_left
 ·have hb:sfE n o x.length=outE n o:=by unfold sfE;rw [if_pos hE]
  refine .neqT O O O hE (.goE O ?_)
  refine .plain [_,_] Tryz.results32 ⟨rfl,rfl,trivial⟩ ⟨x2,_,_,rfl,?_,by rw [hb]⟩
  rw [decide_eq_false fun h=>hE (hb.symm.trans h.1)]
 have ok:=T8 hE
 rw [if_pos hE] at hl
 have hB6:=ok.b6
 have hB1:=ok.b1
 have hnb:=ok.b
 have k3:=k3.ext e2
 rw [hnb] at k3
 obtain ⟨_,_,_,_,hxl⟩:=RL.len hx
 refine .neqF O O O hE (.go O (.lenR un_V O O (hx.ext x2) (.go O (.fa G0 O O (.ld A5 O O k3 O ?_)))))
 by_cases hlen:(x.length:Int)<=n.b
 rotate_left
 ·have hb:sfE n o x.length=5:=by unfold sfE;rw [if_neg (by simpa using hE),if_neg hlen]
  refine .gtrT O O O (by omega) (.goE O ?_)
  refine .plain [_,_] Tryz.results32 ⟨rfl,rfl,trivial⟩ ⟨x2,_,_,rfl,?_,by rw [hb]⟩
  rw [decide_eq_false fun h=>by rw [hb] at h;exact absurd h.1 (by decide)]
 have hno:sfE n o x.length=0:=by unfold sfE;rw [if_neg (by simpa using hE),if_pos hlen]
 have hxB:x.length<=(nwOf n o).B:=by omega
 refine .gtrF O O O (by omega) (.go O (.fa G0 O O (.ld A5 O O k3 O ?_)))
 refine .make_ _ _ un_V I9 O (by decide) O O O (Nat.le_refl _) (by omega) (by omega) fun w3 h n3=>?_
 have f3:FB eQ 54 S w3 h (List.replicate (nwOf n o).B q0):=FB.made n3 zq_R
 obtain ⟨e3,_,hh,hs3⟩:=n3
 rw [<-AG0] at f3
 have hs2:=x2.size
 have hx2:=hx.ext x2
 have hxT:eV.R (fun k=>S k/\k≠h) w2 vx x:=eV.mono (fun k _ h=>⟨h.1,by have:=h.2;omega⟩) (ER.lt eV hx2)
 refine .go O (.lenR un_V O O (ER.ext eV hx2 e3) ?_)
 generalize hu:(fun i j=>sumN i fun b=>if (nwOf n o).lab b=j then rv x b else 0)=u
 refine .goC O (.lp (α:=Nat) [8,10,32,33] O (fun i=>[(34,.int .i64 (i:Nat))]) (fun i W=>Ext w2 W/\i<=x.length/\FB eQ 54 S W h (tab (nwOf n o).B (u i))) (fun i=>x.length-i) 0 (lc1 O) ⟨e3,Nat.zero_le _,by rw [<-hu];exact f3⟩ ?_)
 rintro i W ⟨hW,hi,fb⟩
 have hWs:=hW.size
 have hhl:=fb.lt
 refine .go O ?_
 rcases Nat.lt_or_ge i x.length with hlt | hge
 rotate_left
 ·have:i=x.length:=by omega
  subst this
  have hsum:∀ j,u x.length j=sumN (nwOf n o).B fun b=>if (nwOf n o).lab b=j then rv x b else 0:=fun j=>by rw [<-hu];exact rv_sum hxB _
  have hbal:(nwOf n o).bal (rv x)<->∀ j,j<(nwOf n o).B->u x.length j=0:=by
   rw [Nw.bal_lab]
   simp only [hsum]
  have hR:eV.R S W (slB (nwOf n o).B h) (tab (nwOf n o).B (u x.length)):=by
   have:=fb.toR (hsz:=by decide) (c:=(nwOf n o).B) (up h (by omega)) (by rw [A2];exact Nat.le_refl _) (by rw [A2];omega)
   rw [A2] at this
   exact this
  refine .lssF O O O (by omega) (.go O (.len un_V O O ?_))
  refine .goC O (.lp (α:=Nat) [55,56] O (fun j=>[(57,.int .i64 (j:Nat))]) (fun j W'=>Ext W W'/\j<=(nwOf n o).B/\∀ j',j'<j->u x.length j'=0) (fun j=>(nwOf n o).B-j) 0 (lc1 O) ⟨Ext.refl _,Nat.zero_le _,fun _ h=>absurd h (by omega)⟩ ?_)
  rintro j W' ⟨hW',hj,hz⟩
  refine .go O ?_
  rcases Nat.lt_or_ge j (nwOf n o).B with hjl | hge
  rotate_left
  ·refine .lssF O O O (by omega) (.goE O ?_)
   refine .plain [_,_] Tryz.results32 ⟨rfl,rfl,trivial⟩ ⟨x2.trans (hW.trans hW'),_,_,rfl,?_,by rw [hno]⟩
   rw [decide_eq_true ⟨hno,hbal.2 fun j' hj'=>hz j' (by omega)⟩]
  refine .lssT O O O (by omega) (.go O (.ixN (i:=j) un_V ty_Q O O (ER.ext eV hR hW') O (L6 hjl) fun q hq=>.ldE (E:=eQ) ty_Q O O hq fun y hy=>.alloc O C7 fun W2 b14 n2=>?_))
  obtain ⟨e4,k14,hb14,hs4⟩:=n2
  refine .storeA (E:=eQ) (S:=fun k=>S k/\k<W'.heap.size) ty_Q O O k14 O O (ER.ext eQ (ER.lt eQ hy) e4) (fun h=>by have:=h.2;omega) fun W3 k14 u3 hy=>?_
  have hyv:=shpA (E:=eQ) O hy
  refine .go O (.ldA ty_Q O O k14 (eQ.csz hy) ?_)
  rw [<-hyv]
  refine .call _ O Z5 O (Y7 hy) fun v4 W4 e5 h4=>?_
  subst h4
  rw [D9]
  have x4:Ext W W4:=hW'.trans (Ext.trans (u3.below e4 (by omega)) e5)
  by_cases h0:u x.length j=0
  ·rw [h0]
   refine .neqF O O O (by decide) (.go O (.inc O O O (by omega) (.goN O (.mk (j+1) O (lc1 O) ⟨⟨x4,hjl,fun j' hj'=>?_⟩,by show (nwOf n o).B-(j+1)<(nwOf n o).B-j;omega⟩))))
   by_cases e:j'=j
   ·rw [e];exact h0
   ·exact hz j' (by omega)
  ·refine .neqT O O O (fun h=>h0 (AI7.1 h)) (.goE O ?_)
   refine .plain [_,_] Tryz.results32 ⟨rfl,rfl,trivial⟩ ⟨x2.trans (hW.trans x4),_,_,rfl,?_,by rw [hno]⟩
   rw [decide_eq_false fun h=>h0 (hbal.1 h.2 j hjl)]
 have hib:i<(nwOf n o).B:=by omega
 have hlab:(nwOf n o).lab i<(nwOf n o).B:=Nat.lt_of_le_of_lt ((nwOf n o).lab_le i) hib
 have hxi:x[i]?=some (x.getD i q0):=A7 hlt
 have hqi:=hkx.get hL1 i
 have hus:∀ i,i<=6->∀ j,Rsz (u i j) (1+6*(L+1)):=fun i hi j=>by
  rw [<-hu]
  refine (Ab2 (L:=L) fun b _=>?_).mono (by have:=Nat.mul_le_mul_right (L+1) hi;omega)
  split
  ·exact hkx.rsz hL1 b
  ·exact Rsz.zero hL1
 refine .lssT O O O (by omega) (.go O (.ixN (i:=i) un_V ty_Q O O (ER.ext eV hxT hW) O hxi fun q hq=>.ldE (E:=eQ) ty_Q O O hq fun y hy=>.alloc O C7 fun W1 b12 n1'=>.go O ?_))
 obtain ⟨g1,k12,hb12,hs1'⟩:=n1'
 refine .storeA (E:=eQ) (S:=fun k=>(S k/\k≠h)/\k<W.heap.size) ty_Q O O k12 O O (ER.ext eQ (ER.lt eQ hy) g1) (fun h=>by have:=h.2;omega) fun W2 k12 u2 hy=>?_
 have hs2':=u2.size
 have fb:=fb.new g1 u2 (by omega)
 have hW2:Ext w2 W2:=u2.below (hW.trans g1) (by omega)
 have hyv:=shpA (E:=eQ) O hy
 have hy:eQ.R (fun k=>S k/\k≠h) W2 y _:=eQ.mono (fun _ _ h=>h.1) hy
 have upT:∀ {W':World},W2.heap.size<=W'.heap.size->Up (fun k=>S k/\k≠h) W':=fun hs k' hk'=>⟨up k' (by omega),by omega⟩
 refine .goC O ?_
 refine .par follows 14 [.inl (slB (nwOf n o).B h),.inl vl,.inl (.int .i64 (i:Nat)),.inr (Ptr (eInt .i64) S (((nwOf n o).lab i):Nat)),.inl (.int .i64 (((nwOf n o).lab i):Nat)),.inl (slB (nwOf n o).B h),.inl vl,.inl (.int .i64 (i:Nat)),.inr (Ptr (eInt .i64) S (((nwOf n o).lab i):Nat)),.inl (.int .i64 (((nwOf n o).lab i):Nat)),.inl (.pointer (some ⟨h,0+((nwOf n o).lab i)*4,none⟩)),.inr (eQ.at (fun k=>S k/\k≠h) (qc (u i ((nwOf n o).lab i)))),.inl y,.inr (eQ.at (fun k=>S k/\k≠h) (qc (u i ((nwOf n o).lab i)+rv x i)))] [[],[],[],[(40,1),(41,2)],[(42,3)],[],[],[],[(45,6),(46,7)],[(47,8)],[(44,5),(48,9)],[(49,10)],[],[(50,11),(51,12)]] (by kernel_rfl) ⟨
  fun w e=>(v_mv O).ob,
  fun w e=>(v_mv O).ob,
  fun w e=>(v_mv O).ob,
  fun w e=>C2 (i:=i) un_I C9 O (ER.ext eI (ER.ext eI hl hW2) e) O (AO9 hib),
  fun w e x3 hx3=>L0 C9 O hx3,
  fun w e=>(v_mv O).ob,
  fun w e=>(v_mv O).ob,
  fun w e=>(v_mv O).ob,
  fun w e=>C2 (i:=i) un_I C9 O (ER.ext eI (ER.ext eI hl hW2) e) O (AO9 hib),
  fun w e x8 hx8=>L0 C9 O hx8,
  fun w e=>(N1 (i:=((nwOf n o).lab i)) un_V ty_Q O O hlab).ob,
  fun w e=>AD6 (E:=eQ) (i:=((nwOf n o).lab i)) (by decide) ty_Q O (Nat.zero_add _) (fb.ext e) (L6 hlab),
  fun w e=>((B5 ty_Q O (k12.ext e) (eQ.csz hy)).eq hyv.symm).ob,
  fun w e x11 hx11=>by
   have:=AN0 (L:=1+6*(L+1)) (upT e.size) hx11 (ER.ext eQ hy e) (hus i (by omega) _).toOk (hqi.1.mono (by omega)) (by omega) (by omega)
   rw [D9] at this
   exact (A1 _ AF1 O this).ob (A3 _ _ _),trivial⟩ ?_
 intro X0 g0 _ _ _ _ _ _ y0 hy0
 have sx0:=g0.size
 refine .ixB (i:=(nwOf n o).lab i) un_V ty_Q O O O hlab (.storeF (E:=eQ) (i:=(nwOf n o).lab i) (by decide) ty_Q O O (fb.ext g0) O (by rw [A2];exact hlab) (Nat.zero_add _) hy0 fun Y0 fy0 uy0=>?_)
 have hstep:(tab (nwOf n o).B (u i)).set ((nwOf n o).lab i) (qc (u i ((nwOf n o).lab i)+rv x i))=tab (nwOf n o).B (u (i+1)):=by
  rw [U3]
  refine F3 fun j _=>?_
  rw [<-hu]
  show _=sumN i _+_
  dsimp only
  by_cases e:j=(nwOf n o).lab i
  ·rw [if_pos e,if_pos e.symm,e]
  ·rw [if_neg e,if_neg (Ne.symm e)];grind
 rw [hstep] at fy0
 exact .go O (.inc O O O (by omega) (.goN O (.mk (i+1) O (lc1 O) ⟨⟨uy0.below (hW2.trans g0) (by omega),hlt,fy0⟩,by show x.length-(i+1)<x.length-i;omega⟩)))
open Classical in
noncomputable def anE (n:NtV) (o:List Int) (x:List QV):Int:=if sfE n o x.length≠0 then sfE n o x.length else if (nwOf n o).bal (rv x) then 0 else 10
theorem anE_ok {n:NtV} {o:List Int} {x:List QV} (h:anE n o x=0):sfE n o x.length=0/\(nwOf n o).bal (rv x):=by
 unfold anE at h
 split at h
 ·exact absurd h (by assumption)
 ·split at h
  ·exact ⟨Classical.not_not.1 (by assumption),by assumption⟩
  ·cases h
theorem anE_of {n:NtV} {o:List Int} {x:List QV} (h:outE n o=0) (hx:(x.length:Int)<=n.b) (hb:(nwOf n o).bal (rv x)):anE n o x=0:=by
 have:sfE n o x.length=0:=by unfold sfE;rw [if_neg (by simpa using h),if_pos hx]
 unfold anE
 rw [if_neg (by simpa using this),if_pos hb]
theorem an_sol {n:NtV} {o:List Int} (ok:nwOk n o) {r x:List QV} (hr:r.length=(nwOf n o).B) (hx:∀ b,b<(nwOf n o).B->rv r b=(nwOf n o).inj0 (rv x) b):solvable (nwOf n o).gA r/\tab (nwOf n o).B (rv (solX (nwOf n o).gA r))=tab (nwOf n o).B ((nwOf n o).an (rv x)):=by
 have hs:solvable (nwOf n o).gA r:=BL3 (by rw [AQ4 ok.b1,M7]) (Aw2 ok.ok ok.b1) fun i hi=>AM4 (by rw [M7] at hi;omega)
 refine ⟨hs,F3 fun c hc=>?_⟩
 rw [<-inv_sol (by rw [AQ4 ok.b1,M7]) (Aw2 ok.ok ok.b1) hs (by rw [M7];exact hc),M7]
 unfold Nw.an
 refine A4 fun b hb=>?_
 rw [hx b hb];rfl
theorem BN5 {n:NtV} {o:List Int} (ok:nwOk n o) {x:Nat->Rat} {L:Nat} (hL:1<=L) (hx:∀ b,Rsz (x b) L) (c:Nat):Rsz ((nwOf n o).an x c) (1+6*(87381+L+1)):=by
 unfold Nw.an
 refine (Ab2 (L:=87381+L) fun b _=>(th_rsz ok b c).mul ?_).mono (by have:=Nat.mul_le_mul_right (87381+L+1) ok.b6;omega)
 unfold Nw.inj0
 split
 ·exact Rsz.zero hL
 ·exact hx b
theorem AL5:Ent Tryz.prog 33:=A0 Tryz.func33 (by kernel_rfl) rfl
open Classical in
set_option maxRecDepth 8000 in
theorem Af8 {S T0:Nat->Prop} {w:World} {vn vo vx:Value} {n:NtV} {o:List Int} {x:List QV} {L:Nat} (up:Up S w) (upo:Up T0 w) (hn:eN.R S w vn n) (ho:eI.R S w vo o) (hx:eV.R S w vx x) (hkx:vk L x) (hL1:1<=L) (hL:L<=9000) :
  CR Tryz.prog 33 #[vn,vo,vx] w (Two (eV.at T0 (if anE n o x=0 then tab (nwOf n o).B ((nwOf n o).an (rv x)) else [])) (Is (.int .i64 (anE n o x)))):=by
 obtain ⟨s,rfl,hs,hb⟩:=hn
 have hn:eN.R S w (.agg #[.int .i64 n.b,s]) n:=⟨s,rfl,hs,hb⟩
 refine enter Tryz.func33 O Tryz.ntmps33 O (.beg (.go O (.box O O fun w1 b3 n1=>?_)))
 obtain ⟨e1,k3,hb3,hs1⟩:=n1
 refine .go O (.ldA ty_N O O k3 O (.go O ?_))
 refine .call _ O AY5 O (AY0 (up.ext e1.size) (hn.ext e1) (ho.ext e1) (ER.ext eV hx e1) hkx hL1 (by omega)) fun v2 w2 e2 h2=>?_
 obtain ⟨vb,ve,rfl,rfl,rfl⟩:=h2
 have x2:=e1.trans e2
 refine .go O ?_
 by_cases hE:sfE n o x.length=0
 rotate_left
 ·have hb:anE n o x=sfE n o x.length:=by unfold anE;rw [if_pos hE]
  refine .neqT O O O hE (.goE O ?_)
  refine .plain [_,_] Tryz.results33 ⟨rfl,rfl,trivial⟩ ⟨x2,_,_,rfl,?_,by rw [hb]⟩
  rw [if_neg (by rw [hb];exact hE)];exact RL.nil
 by_cases hB:(nwOf n o).bal (rv x)
 rotate_left
 ·have hb:anE n o x=10:=by unfold anE;rw [if_neg (by simpa using hE),if_neg hB]
  rw [decide_eq_false fun h=>hB h.2]
  refine .neqF O O O hE (.goE O ?_)
  refine .plain [_,_] Tryz.results33 ⟨rfl,rfl,trivial⟩ ⟨x2,_,_,rfl,?_,by rw [hb]⟩
  rw [if_neg (by rw [hb];decide)];exact RL.nil
 have hno:anE n o x=0:=by unfold anE;rw [if_neg (by simpa using hE),if_pos hB]
 rw [decide_eq_true ⟨hE,hB⟩,if_pos hno]
 obtain ⟨hO,hxb⟩:=BI7 hE
 have ok:=T8 hO
 have hB6:=ok.b6
 have hB1:=ok.b1
 have hnb:=ok.b
 refine .neqF O O O hE (.go O (.ldA ty_N O O (k3.ext e2) O (.go O ?_)))
 refine .call _ O AC5 O (AT8 (up.ext x2.size) (hn.ext x2) (ho.ext x2)) fun v4 w4 e4 h4=>?_
 obtain ⟨vm,ve,rfl,hm,rfl⟩:=h4
 rw [if_pos hO] at hm
 obtain ⟨gb,hs0,rfl,hgb,hge,hM⟩:=hm
 have x4:=x2.trans e4
 have hs2:=x2.size
 have hs4:=e4.size
 have hglt:=hM.out.lt
 have hk3:=k3.lt
 have hF:FB eV 32 S w4 gb (tabM (nwOf n o).B (nwOf n o).B (nwOf n o).Lm):=hM.toFB (fun k hk=>up k (by have:=hge k hk;omega)) (by omega)
 have old:∀ {α:Type} (E:ER α) {v:Value} {y:α},E.R S w v y->E.R (fun k=>S k/\k≠gb) w4 v y:=fun E v y h=>E.mono (fun k _ h=>⟨h.1,by have:=h.2;omega⟩) (ER.ext E (ER.lt E h) x4)
 have k3:=k3.ext (e2.trans e4)
 refine .go O (.neqF O O O hO (.go O (.ldA ty_N O O k3 O (.go O ?_))))
 refine .call _ O Ag4 O (Af6 (S:=fun k=>S k/\k≠gb) (fun k hk=>⟨up k (by omega),by omega⟩) (old eN hn) (old eI ho)) fun v5 w5 e5 h5=>?_
 obtain ⟨vr,ve,rfl,hr,he⟩:=h5
 replace he:ve=.int .i64 0:=by rw [he,hO]
 subst he
 rw [if_pos hO] at hr
 have hs5:=e5.size
 have k3:=k3.ext e5
 refine .go O (.neqF O O O O (.go O (.fa G0 O O (.ld A5 O O k3 O ?_))))
 rw [hnb]
 refine .call _ O V3 O (AC7 (S:=fun k=>S k/\k≠gb) (fun k hk=>⟨up k (by omega),by omega⟩) (ER.ext eV (old eV hx) e5) hkx hL1 (by omega)) fun v6 w6 e6 h6=>?_
 obtain ⟨h6,_⟩ | ⟨_,gr,N6,hN6,hgr,rfl,fr⟩:=h6
 ·omega
 have hNB:N6=(nwOf n o).B:=by omega
 subst hNB
 have hs6:=e6.size
 have hgrl:=fr.lt
 have x6:=x4.trans (e5.trans e6)
 have k3:=k3.ext e6
 have hF:FB eV 32 (fun k=>S k/\k≠gr) w6 gb (tabM (nwOf n o).B (nwOf n o).B (nwOf n o).Lm):=(hF.mono (S':=fun k=>S k/\k≠gr) fun k hk h=>⟨h,by omega⟩).ext (e5.trans e6)
 have hr:eI.R (fun k=>(S k/\k≠gb)/\k≠gr) w6 vr (pInts (nwOf n o).refs):=ER.ext eI (eI.mono (fun k _ h=>⟨h.1,by have:=h.2;omega⟩) (ER.lt eI hr)) e6
 have hrW:∀ {W:World},Chg (fun k=>k=gb\/k=gr) w6 W->eI.R (fun k=>(S k/\k≠gb)/\k≠gr) W vr (pInts (nwOf n o).refs):=fun hC=>eI.keep (hC.kp fun k hk h=>h.elim (fun e=>hk.1.2 e) fun e=>hk.2 e) hr
 have hkW:∀ {W:World},Chg (fun k=>k=gb\/k=gr) w6 W->Blk W b3 24 #[.int .i64 n.b,s]:=fun hC=>hC.blk k3 fun h=>by have:=hb3;have:=e2.size;rcases h with h | h<;>omega
 rw [hnb] at hkW
 have hrl:(nwOf n o).refs.length<=(nwOf n o).B:=(nwOf n o).cnt_le (nwOf n o).B
 refine .go O (.lenR un_I O O hr ?_)
 rw [show (pInts (nwOf n o).refs).length=(nwOf n o).refs.length by simp]
 generalize hG:(fun i=>fun b c=>if b∈(nwOf n o).refs.take i then dl b c else (nwOf n o).Lm b c:Nat->RM)=G
 generalize hY:(fun i=>fun b=>if b∈(nwOf n o).refs.take i then 0 else rv x b:Nat->Nat->Rat)=Y
 refine .goC O (.lp (α:=Nat) [3,9,10,12,51,52] O (fun i=>[(53,.int .i64 (i:Nat))]) (fun i W=>i<=(nwOf n o).refs.length/\Chg (fun k=>k=gb\/k=gr) w6 W/\FB eV 32 (fun k=>S k/\k≠gr) W gb (tabM (nwOf n o).B (nwOf n o).B (G i))/\FB eQ 54 (fun k=>S k/\k≠gb) W gr (tab (nwOf n o).B (Y i))) (fun i=>(nwOf n o).refs.length-i) 0 (lc1 O) ⟨Nat.zero_le _,Chg.refl _,by rw [<-hG];simpa using hF,by rw [<-hY];simpa using fr⟩ ?_)
 clear hF fr
 rintro i W ⟨hi,hC,hF,fr⟩
 have hCs:=hC.size
 refine .go O ?_
 rcases Nat.lt_or_ge i (nwOf n o).refs.length with hlt | hge
 rotate_left
 ·have:i=(nwOf n o).refs.length:=by omega
  subst this
  have hmem:∀ b,b<(nwOf n o).B->(b∈(nwOf n o).refs.take (nwOf n o).refs.length<->(nwOf n o).root b=b):=fun b hb=>by
   rw [List.take_of_length_le (Nat.le_refl _),Nw.mem_refs]
   exact ⟨fun h=>h.2,fun h=>⟨hb,h⟩⟩
  have hA:tabM (nwOf n o).B (nwOf n o).B (G (nwOf n o).refs.length)=(nwOf n o).gA:=D3 fun b c hb _=>by
   rw [<-hG]
   unfold Nw.gm
   dsimp only
   by_cases h:(nwOf n o).root b=b
   ·rw [if_pos h,if_pos ((hmem b hb).2 h)]
   ·rw [if_neg h,if_neg fun h'=>h ((hmem b hb).1 h')]
  rw [hA] at hF
  have hRm:eM.R S W (slB (nwOf n o).B gb) (nwOf n o).gA:=by
   have:=(hF.mono (S':=S) fun k _ h=>h.1).toR (hsz:=by decide) (c:=(nwOf n o).B) (up gb (by omega)) (by rw [M7];exact Nat.le_refl _) (by rw [M7];omega)
   rw [M7] at this
   exact this
  have hRr:eV.R S W (slB (nwOf n o).B gr) (tab (nwOf n o).B (Y (nwOf n o).refs.length)):=by
   have:=(fr.mono (S':=S) fun k _ h=>h.1).toR (hsz:=by decide) (c:=(nwOf n o).B) (up gr (by omega)) (by rw [A2];exact Nat.le_refl _) (by rw [A2];omega)
   rw [A2] at this
   exact this
  have hxW:Ext w W:=hC.below x6 (by omega) (fun k hk=>by omega)
  obtain ⟨hsv,hsol⟩:=an_sol ok (r:=tab (nwOf n o).B (Y (nwOf n o).refs.length)) (x:=x) (A2 ..) fun b hb=>by
   rw [O9,if_pos hb,<-hY]
   unfold Nw.inj0
   dsimp only
   by_cases h:(nwOf n o).root b=b
   ·rw [if_pos h,if_pos ((hmem b hb).2 h)]
   ·rw [if_neg h,if_neg fun h'=>h ((hmem b hb).1 h')]
  have hkY:vk (max 21 L) (tab (nwOf n o).B (Y (nwOf n o).refs.length)):=Z9 fun b _=>by
   rw [<-hY]
   dsimp only
   split
   ·exact Rsz.zero (by omega)
   ·exact (hkx.rsz hL1 b).mono (by omega)
  refine .lssF O O O (by omega) (.go O ?_)
  refine .call _ O Ag1 O (Af2 (L:=max 21 L) (n:=6) (up.ext hxW.size) hRm hRr ((gA_mk ok).mono (by omega)) hkY (by omega) (by rw [M7];omega) (by rw [A2];omega) (by rw [AQ4 hB1];omega) (by rw [M7,A2];omega) (by rw [bd6];omega)) fun v7 w7 e7 h7=>?_
  obtain ⟨va,vz,ve,rfl,ha,_,rfl⟩:=h7
  rw [if_pos hsv] at ha
  rw [if_pos hsv]
  have k3W:=(hkW hC).ext e7
  have hka:vk 600000 (solX (nwOf n o).gA (tab (nwOf n o).B (Y (nwOf n o).refs.length))):=by
   have h1:solX (nwOf n o).gA (tab (nwOf n o).B (Y (nwOf n o).refs.length))=tab (nwOf n o).B (rv (solX (nwOf n o).gA (tab (nwOf n o).B (Y (nwOf n o).refs.length)))):=by
    unfold solX
    rw [AQ4 hB1]
    exact F3 fun k hk=>by rw [O9,if_pos hk]
   rw [h1,hsol]
   exact Z9 fun c _=>(BN5 ok hL1 (fun b=>hkx.rsz hL1 b) c).mono (by omega)
  refine .go O (.neqF O O O O (.go O (.fa G0 O O (.ld A5 O O k3W O ?_))))
  refine .call _ O V3 O (AO3 (up.ext (hxW.trans e7).size) (upo.ext (hxW.trans e7).size) ha hka (by decide) (by decide)) fun v8 w8 e8 h8=>.goE O ?_
  have h8:=BJ0 (B:=(nwOf n o).B) h8 (upo.ext (hxW.trans e7).size) hB1 (by omega)
  rw [hsol] at h8
  exact .plain [_,_] Tryz.results33 ⟨rfl,rfl,trivial⟩ ⟨(hxW.trans e7).trans e8,_,_,rfl,h8,by rw [hno]⟩
 have hgr':(pInts (nwOf n o).refs)[i]?=some (((nwOf n o).refs.getD i 0:Nat):Int):=by rw [List.getElem?_map,A7 (z:=0) hlt];rfl
 have hrB:(nwOf n o).refs.getD i 0<(nwOf n o).B:=(Nw.mem_refs.1 (P7 hlt)).1
 have htk:(nwOf n o).refs.take (i+1)=(nwOf n o).refs.take i++[(nwOf n o).refs.getD i 0]:=by rw [List.take_add_one,A7 (z:=0) hlt];rfl
 refine .lssT O O O (by omega) (.go O (.ixN (i:=i) un_I C9 O O (hrW hC) O hgr' fun q hq=>.ldE (E:=eInt .i64) C9 O O hq fun e he=>?_))
 obtain ⟨rfl,_⟩:=he
 generalize hb0:(nwOf n o).refs.getD i 0=b at hrB htk
 refine .go O (.fa G0 O O (.ld A5 O O (hkW hC) O (.go O ?_)))
 refine .call _ O Ay0 O (Au6 (S:=fun k=>(S k/\k≠gr)/\k≠gb) fun k hk=>⟨⟨up k (by omega),by omega⟩,by omega⟩) fun v7 W1 e7 h7=>?_
 rw [show (min (((nwOf n o).B:Nat):Int) 65536).toNat=(nwOf n o).B by omega] at h7
 have hs7:=e7.size
 refine .go O (.ixB (i:=b) un_M ty_V O O O hrB (.storeF (E:=eV) (i:=b) (by decide) ty_V O O (hF.ext e7) O (by rw [B0];exact hrB) (Nat.zero_add _) h7 fun W2 f2 u2=>?_))
 have hs2':=u2.size
 have fr:=(fr.ext e7).upd u2 (by omega) fun h=>h.2 rfl
 refine .go O (.bld _ O O AE4 (.ixB (i:=b) un_V ty_Q O O O hrB (.storeF (E:=eQ) (i:=b) (by decide) ty_Q O O fr O (by rw [A2];exact hrB) (Nat.zero_add _) (zq_R (S:=fun k=>(S k/\k≠gb)/\k≠gr)) fun W3 f3 u3=>?_)))
 have f2:=f2.upd u3 (by omega) fun h=>h.2 rfl
 rw [AB7 hrB] at f2
 rw [<-R8,U3] at f3
 have hm:∀ b',b'∈(nwOf n o).refs.take (i+1)<->b'∈(nwOf n o).refs.take i\/b'=b:=fun b'=>by rw [htk,List.mem_append,List.mem_singleton]
 have hs1:tabM (nwOf n o).B (nwOf n o).B (fun j k=>if j=b then uni (b:Nat) k else G i j k)=tabM (nwOf n o).B (nwOf n o).B (G (i+1)):=D3 fun j c _ _=>by
  rw [<-hG]
  dsimp only
  by_cases e:j=b
  ·rw [if_pos e,if_pos ((hm j).2 (.inr e)),e,uni_dl]
  ·rw [if_neg e]
   by_cases h:j∈(nwOf n o).refs.take i
   ·rw [if_pos h,if_pos ((hm j).2 (.inl h))]
   ·rw [if_neg h,if_neg fun h'=>((hm j).1 h').elim h e]
 have hs2:(tab (nwOf n o).B fun j=>if j=b then 0 else Y i j)=tab (nwOf n o).B (Y (i+1)):=F3 fun j _=>by
  rw [<-hY]
  dsimp only
  by_cases e:j=b
  ·rw [if_pos e,if_pos ((hm j).2 (.inr e))]
  ·rw [if_neg e]
   by_cases h:j∈(nwOf n o).refs.take i
   ·rw [if_pos h,if_pos ((hm j).2 (.inl h))]
   ·rw [if_neg h,if_neg fun h'=>((hm j).1 h').elim h e]
 rw [hs1] at f2
 rw [hs2] at f3
 exact .go O (.inc O O O (by omega) (.goN O (.mk (i+1) O (lc1 O) ⟨⟨hlt,((hC.trans (Chg.ext e7)).trans (Chg.upd u2 (.inl O))).trans (Chg.upd u3 (.inr O)),f2,f3⟩,by show (nwOf n o).refs.length-(i+1)<(nwOf n o).refs.length-i;omega⟩)))
theorem AK9 {S:Nat->Prop} {w:World} {vn vo vx:Value} {n:NtV} {o:List Int} {x:List QV} {L:Nat} (up:Up S w) (hn:eN.R S w vn n) (ho:eI.R S w vo o) (hx:eV.R S w vx x) (hkx:vk L x) (hL1:1<=L) (hL:L<=9000) :
  CR Tryz.prog 33 #[vn,vo,vx] w (Two (eV.at S (if anE n o x=0 then tab (nwOf n o).B ((nwOf n o).an (rv x)) else [])) (Is (.int .i64 (anE n o x)))):=Af8 up up hn ho hx hkx hL1 hL
theorem AS3:Ent Tryz.prog 34:=A0 Tryz.func34 (by kernel_rfl) rfl
theorem Al0 {S T0:Nat->Prop} {w:World} {vn vo vx:Value} {n:NtV} {o:List Int} {x:List QV} {L:Nat} (up:Up S w) (upo:Up T0 w) (hn:eN.R S w vn n) (ho:eI.R S w vo o) (hx:eV.R S w vx x) (hkx:vk L x) (hL1:1<=L) (hL:L<=9000) :
  CR Tryz.prog 34 #[vn,vo,vx] w (Two (eV.at T0 (if anE n o x=0 then tab n.ls.length ((nwOf n o).fl ((nwOf n o).an (rv x))) else [])) (Is (.int .i64 (anE n o x)))):=by
 obtain ⟨s,rfl,hs,hb⟩:=hn
 have hn:eN.R S w (.agg #[.int .i64 n.b,s]) n:=⟨s,rfl,hs,hb⟩
 refine enter Tryz.func34 O Tryz.ntmps34 O (.beg (.go O (.box O O fun w1 b3 n1=>?_)))
 obtain ⟨e1,k3,hb3,hs1⟩:=n1
 refine .go O (.ldA ty_N O O k3 O (.go O ?_))
 refine .call _ O AL5 O (AK9 (up.ext e1.size) (hn.ext e1) (ho.ext e1) (ER.ext eV hx e1) hkx hL1 hL) fun v2 w2 e2 h2=>?_
 obtain ⟨va,ve,rfl,ha,rfl⟩:=h2
 have x2:=e1.trans e2
 refine .go O ?_
 by_cases hE:anE n o x=0
 rotate_left
 ·refine .neqT O O O hE (.goE O ?_)
  refine .plain [_,_] Tryz.results34 ⟨rfl,rfl,trivial⟩ ⟨x2,_,_,rfl,?_,rfl⟩
  rw [if_neg hE];exact RL.nil
 rw [if_pos hE] at ha ⊢
 obtain ⟨hS,_⟩:=anE_ok hE
 obtain ⟨hO,_⟩:=BI7 hS
 have ok:=T8 hO
 have hB6:=ok.b6
 have hnb:=ok.b
 have hka:vk 600000 (tab (nwOf n o).B ((nwOf n o).an (rv x))):=Z9 fun c _=>(BN5 ok hL1 (fun b=>hkx.rsz hL1 b) c).mono (by omega)
 refine .neqF O O O hE (.go O (.ldA ty_N O O (k3.ext e2) O (.go O ?_)))
 refine .call _ O Z6 O (Y8 (up.ext x2.size) (upo.ext x2.size) (hn.ext x2) (ho.ext x2) ha hka (by decide) (by decide)) fun v3 w3 e3 h3=>?_
 obtain ⟨vf,ve,rfl,hf,rfl⟩:=h3
 have hsf:sfE n o (tab (nwOf n o).B ((nwOf n o).an (rv x))).length=0:=by unfold sfE;rw [if_neg (by simpa using hO),if_pos (by rw [A2];omega)]
 rw [if_pos hsf] at hf
 rw [hsf]
 have hfl:tab n.ls.length ((nwOf n o).fl (rv (tab (nwOf n o).B ((nwOf n o).an (rv x)))))=tab n.ls.length ((nwOf n o).fl ((nwOf n o).an (rv x))):=F3 fun k hk=>by
  unfold Nw.fl
  rw [O9,O9,if_pos (ok.f k hk),if_pos (ok.t k hk)]
 rw [hfl] at hf
 exact .goE O (.plain [_,_] Tryz.results34 ⟨rfl,rfl,trivial⟩ ⟨x2.trans e3,_,_,rfl,hf,by rw [hE]⟩)
theorem AQ7 {S:Nat->Prop} {w:World} {vn vo vx:Value} {n:NtV} {o:List Int} {x:List QV} {L:Nat} (up:Up S w) (hn:eN.R S w vn n) (ho:eI.R S w vo o) (hx:eV.R S w vx x) (hkx:vk L x) (hL1:1<=L) (hL:L<=9000) :
  CR Tryz.prog 34 #[vn,vo,vx] w (Two (eV.at S (if anE n o x=0 then tab n.ls.length ((nwOf n o).fl ((nwOf n o).an (rv x))) else [])) (Is (.int .i64 (anE n o x)))):=Al0 up up hn ho hx hkx hL1 hL
theorem isM_t {w:World} {va vb:Value} {a b:List (List QV)} (ha:eM.R (fun _=>True) w va a) (hb:eM.R (fun _=>True) w vb b) (h:a=b):CR Tryz.prog 21 #[va,vb] w (Is (.bool true)):=by
 have:=Av3 ha hb
 rwa [K0 h] at this
theorem Aq4 {w:World} {va vb:Value} {a b:List QV} (ha:eV.R (fun _=>True) w va a) (hb:eV.R (fun _=>True) w vb b) (h:a=b):CR Tryz.prog 22 #[va,vb] w (Is (.bool true)):=by
 have:=Ab6 ha hb
 rwa [K0 h] at this
end Go.Proofs.YtggegpiffjbngaaGreat
namespace Go.Kx
open Go Go.RowKit
def net3:NtV:=⟨3,[⟨0,1,10,100⟩,⟨1,2,5,50⟩,⟨0,2,10,70⟩]⟩
def outsB (m:Nat) (o:List Int):Bool:=(List.range o.length).all fun i=>decide (0<=o.getD i 0) && decide (o.getD i 0<m) && (decide (i=0) || decide (o.getD (i-1) 0<o.getD i 0))
theorem BJ8 {n:NtV} {o:List Int} (h:outsB n.ls.length o=true):outsOk n o:=by
 unfold outsB at h
 rw [List.all_eq_true] at h
 intro i hi
 have:=h i (List.mem_range.2 hi)
 simp only [Bool.and_eq_true,Bool.or_eq_true,decide_eq_true_eq] at this
 exact ⟨this.1.1,this.1.2,fun h0=>by rcases this.2 with h | h;omega;exact h⟩
def chkB (n:NtV):Bool:=decide (1<=n.b) && decide (n.b<=6) && decide (n.ls.length<=10) && n.ls.all fun l=>(List.range 5).all fun i=>ck i n.b l
theorem outE_of {n:NtV} {o:List Int} (h:chkB n=true) (ho:outsB n.ls.length o=true):outE n o=0:=by
 unfold chkB at h
 simp only [Bool.and_eq_true,decide_eq_true_eq,List.all_eq_true] at h
 obtain ⟨⟨⟨h1,h2⟩,h3⟩,h4⟩:=h
 have hc:chkE n=0:=by
  unfold chkE
  rw [if_neg (by omega),if_neg (by omega),if_pos]
  exact fun i _ l hl j hj=>h4 l (List.mem_iff_getElem?.2 ⟨i,hl⟩) j (List.mem_range.2 hj)
 unfold outE
 rw [if_neg (by simpa using hc),if_pos (BJ8 ho)]
end Go.Kx
namespace Go.Proofs.YtggegpiffjbngaaGreat
open Go Go.Kx Go.RowKit
theorem un_II:Tryz.prog.underlying 47=some (.slice 25):=by kernel_rfl
theorem Am6:Ent Tryz.prog 15:=A0 Tryz.func15 (by kernel_rfl) rfl
theorem Ak7 {S:Nat->Prop} {w:World} {vn vl:Value} {n:NtV} {l:List (List Int)} (hn:eN.R S w vn n) (hl:eII.R S w vl l):CR Tryz.prog 15 #[vn,vl] w (fun v _=>∃ b,v=.bool b):=by
 obtain ⟨s,rfl,hs,_⟩:=hn
 obtain ⟨_,_,_,_,hll⟩:=RL.len hl
 refine enter Tryz.func15 O Tryz.ntmps15 O ?_
 refine .sr (.box O O fun w1 b2 n1=>.an O O (.seq (.sr (.an O O ?_))))
 obtain ⟨e1,k2,_,_⟩:=n1
 have hl:=hl.ext e1
 refine .block (.loop (α:=Nat) (fun i=>[(1,vl),(2,.pointer (some ⟨b2,0,none⟩)),(5,.int .i64 (i:Nat))]) (fun i W=>W=w1/\i<=l.length) (fun i=>l.length-i) 0 ?_ ?_ ?_)
 ·exact lkA rfl
 ·exact ⟨rfl,Nat.zero_le _⟩
 rintro i W ⟨rfl,hi⟩
 refine .seq (.sr (.mv O O (.mv O O (.lenR un_II O O hl ?_))))
 rcases Nat.lt_or_ge i l.length with hlt | hge
 rotate_left
 ·refine .lssF O O O (by omega) (.nil (.condF O (.exit (.sr (.fa G5 O O (.ld J1 O O k2 O (.lenR I8 O O (hs.ext e1) (.gtr O O O (.an O O (.ret ?_))))))))))
  exact .plain [_] Tryz.results15 ⟨rfl,trivial⟩ ⟨e1,_,rfl⟩
 refine .lssT O O O (by omega) (.nil (.condT O (.skip (.seq (.block (.sr (.mv O O (.mv O O (.ixN (i:=i) un_II ty_I O O hl O (List.getElem?_eq_getElem hlt) fun q hq=>.ldE (E:=eI) ty_I O O hq fun v hv=>.lenR un_I O O hv ?_)))))))))
 by_cases h:100<l[i].length
 ·refine .gtrT O O O (by omega) (.nil (.condT O (.sr (.an O O (.ret ?_)))))
  exact .plain [_] Tryz.results15 ⟨rfl,trivial⟩ ⟨e1,_,rfl⟩
 ·refine .gtrF O O O (by omega) (.nil (.condF O (.skip (.region (.mv O O (.add O O O (.an O O ?_)))))))
  rw [wI (by omega)]
  exact ⟨rfl,i+1,lkA rfl,⟨rfl,hlt⟩,by show l.length-(i+1)<l.length-i;omega⟩
theorem zero_N:zeroOf Tryz.prog 24=some (.agg #[.int .i64 0,.slice none 0 0]):=by kernel_rfl
theorem Al7 {a b c d:Int}:bldOf Tryz.prog 58 [(0,.int .i64 a),(1,.int .i64 b),(2,.int .i64 c),(3,.int .i64 d)]=some #[.int .i64 a,.int .i64 b,.int .i64 c,.int .i64 d]:=by kernel_rfl
theorem bsl_Ls3 {a b c d a' b' c' d' a2 b2 c2 d2:Value}:bslOf Tryz.prog 22 3 [(0,.agg #[a,b,c,d]),(1,.agg #[a',b',c',d']),(2,.agg #[a2,b2,c2,d2])]=some (58,#[a,b,c,d,a',b',c',d',a2,b2,c2,d2]):=by kernel_rfl
theorem bld_N2 {b:Int} {a:Option Addr} {n c:Nat}:bldOf Tryz.prog 24 [(0,.int .i64 b),(1,.slice a n c)]=some #[.int .i64 b,.slice a n c]:=by kernel_rfl
theorem ln_R {S:Nat->Prop} {w:World} {a b c d:Int} (h:∀ x∈[a,b,c,d],-9223372036854775808<=x/\x<=9223372036854775807):eL.R S w (.agg #[.int .i64 a,.int .i64 b,.int .i64 c,.int .i64 d]) ⟨a,b,c,d⟩:=⟨rfl,P5.2 (h a (by simp)),P5.2 (h b (by simp)),P5.2 (h c (by simp)),P5.2 (h d (by simp))⟩
theorem ok3:outE net3 []=0:=outE_of (by decide) (by decide)
theorem bsl_IIo {a:Option Addr} {n c:Nat}:bslOf Tryz.prog 47 1 [(0,.slice a n c)]=some (25,#[.slice a n c]):=by kernel_rfl
def okV17 (r:List QV):Prop:=r.length<=20/\∀ q∈r,qok 4 q
theorem okV17.vk {W:World} {v:Value} {a:List QV} (h:okV17 a) (hr:eV.R (fun _=>True) W v a):vk 4 a:=eV_vk hr h.2 (by decide)
theorem Am5:Ent Tryz.prog 24:=A0 Tryz.func24 (by kernel_rfl) rfl
set_option maxRecDepth 8000 in
theorem Ak6 {w:World} {vn vo v:Value} {n:NtV} {o:List Int} {l:List (List QV)} (hn:eN.R (fun _=>True) w vn n) (ho:eI.R (fun _=>True) w vo o) (h:eM.R (fun _=>True) w v l):CR Tryz.prog 24 #[vn,vo,v] w (Lng (∀ r∈l,okV17 r)):=by
 obtain ⟨s,rfl,hs,hb⟩:=hn
 have hn:eN.R (fun _=>True) w (.agg #[.int .i64 n.b,s]) n:=⟨s,rfl,hs,hb⟩
 obtain ⟨ao,co,hvo,_⟩:=RL.len ho
 obtain ⟨_,_,_,_,hl⟩:=RL.len h
 refine enter Tryz.func24 O Tryz.ntmps24 O (.beg (.go O (.box O O fun w1 b3 n1=>?_)))
 obtain ⟨e1,k3,hb3,hs1⟩:=n1
 have h:=ER.ext eM h e1
 have htrue:∀ {σ:Env},Kx.look σ 6=some (.bool true)->Leave Tryz.prog Tryz.f24 58 (fun v w'=>Ext w w'/\Lng (∀ r∈l,okV17 r) v w') σ [] w1:=by
  intro σ hl
  exact .plain [_] Tryz.results24 ⟨hl,trivial⟩ ⟨e1,true,rfl,fun h=>by cases h⟩
 refine .goC O (.lp (α:=Nat) [1,2,3] O (fun i=>[(7,.int .i64 (i:Nat))]) (fun i W=>W=w1/\i<=l.length/\∀ j r,j<i->l[j]?=some r->okV17 r) (fun i=>l.length-i) 0 (lc1 O) ⟨rfl,Nat.zero_le _,fun j r hj=>absurd hj (Nat.not_lt_zero _)⟩ ?_)
 rintro i W ⟨rfl,hi,hall⟩
 refine .go O (.lenR un_M O O h ?_)
 rcases Nat.lt_or_ge i l.length with hlt | hge
 rotate_left
 ·refine .lssF O O O (by omega) (.go O (.ldA ty_N O O k3 O (.go O (.bsl _ O O (by rw [hvo];exact bsl_IIo) fun w2 b5 n2=>?_))))
  have hll:eII.R (fun _=>True) w2 (.slice (some ⟨b5,0,none⟩) 1 1) [o]:=Ax0 [vo] [o] n2 upT (by rw [hvo]) O (by decide) (Els.snoc Els.nil (ho.ext e1))
  refine .call _ O Am6 O (Ak7 (hn.ext (e1.trans n2.1)) hll) fun v3 w3 e3 h3=>.goE O ?_
  obtain ⟨bl,rfl⟩:=h3
  refine .plain [_] Tryz.results24 ⟨rfl,trivial⟩ ⟨(e1.trans n2.1).trans e3,bl,rfl,fun _ r hr=>?_⟩
  obtain ⟨j,hj⟩:=List.mem_iff_getElem?.1 hr
  exact hall j r (by have:=Ak3 hj;omega) hj
 have hyy:=List.getElem?_eq_getElem hlt
 generalize l[i]=r at hyy
 refine .lssT O O O (by omega) (.go O (.ixN (i:=i) un_M ty_V O O h O hyy fun p hp=>.ldE ty_V O O hp fun e he=>.lenR un_V O O he ?_))
 by_cases hr:r.length<=20
 rotate_left
 ·exact .gtrT O O O (by omega) (.goE O (htrue O))
 refine .gtrF O O O (by omega) (.goC O (.lp (α:=Nat) [1,2,3,7] O (fun k=>[(8,.int .i64 (k:Nat))]) (fun k W'=>W'=W/\k<=r.length/\∀ j q,j<k->r[j]?=some q->qok 4 q) (fun k=>r.length-k) 0 (lc1 O) ⟨rfl,Nat.zero_le _,fun j r hj=>absurd hj (Nat.not_lt_zero _)⟩ ?_))
 rintro k W' ⟨rfl,hk,hallk⟩
 refine .go O (.ixN (i:=i) un_M ty_V O O h O hyy fun p2 hp2=>.ldE ty_V O O hp2 fun e2 he2=>.lenR un_V O O he2 ?_)
 rcases Nat.lt_or_ge k r.length with hkl | hge
 rotate_left
 ·refine .lssF O O O (by omega) (.go O (.inc O O O (by omega) (.goN O (.mk (i+1) O (lc1 O) ⟨⟨rfl,hlt,fun j r' hj hr'=>?_⟩,by show l.length-(i+1)<l.length-i;omega⟩))))
  by_cases e:j=i
  ·subst e
   rw [hyy] at hr'
   cases hr'
   refine ⟨hr,fun q hq=>?_⟩
   obtain ⟨j',hj'⟩:=List.mem_iff_getElem?.1 hq
   exact hallk j' q (by have:=Ak3 hj';omega) hj'
  ·exact hall j r' (by omega) hr'
 have hqq:=List.getElem?_eq_getElem hkl
 generalize r[k]=q at hqq
 refine .lssT O O O (by omega) (.go O (.ixN (i:=i) un_M ty_V O O h O hyy fun p3 hp3=>.ldE ty_V O O hp3 fun e3 he3=>.go O (.ixN (i:=k) un_V ty_Q O O he3 O hqq fun p4 hp4=>.faP M9 O O (.faP D0 O O (.ldE (E:=eW) ty_W O O hp4.qn.zw fun e4 he4=>.lenR un_W O O he4 ?_)))))
 by_cases hn4:q.num.w.length<=4
 rotate_left
 ·exact .gtrT O O O (by omega) (.goE O (htrue O))
 refine .gtrF O O O (by omega) (.go O (.ixN (i:=i) un_M ty_V O O h O hyy fun p5 hp5=>.go O (.ldE ty_V O O hp5 fun e5 he5=>.go O (.ixN (i:=k) un_V ty_Q O O he5 O hqq fun p6 hp6=>.go O (.faP M8 O O (.go O (.faP D0 O O (.go O (.ldE (E:=eW) ty_W O O hp6.qd.zw fun e6 he6=>.go O (.lenR un_W O O he6 (.go O ?_)))))))))))
 by_cases hd4:q.den.w.length<=4
 rotate_left
 ·exact .gtrT O O O (by omega) (.goE O (htrue O))
 refine .gtrF O O O (by omega) (.go O (.inc O O O (by omega) (.goN O (.mk (k+1) O (lc1 O) ⟨⟨rfl,hkl,fun j q' hj hq'=>?_⟩,by show r.length-(k+1)<r.length-k;omega⟩))))
 by_cases e:j=k
 ·subst e;rw [hqq] at hq';cases hq';exact ⟨hn4,hd4⟩
 ·exact hallk j q' (by omega) hq'
theorem AB1:Ent Tryz.prog 84:=A0 Tryz.func84 (by kernel_rfl) rfl
theorem AA4 {w:World}:CR Tryz.prog 84 #[] w (eN.at (fun _=>True) net3):=by
 refine enter Tryz.func84 O Tryz.ntmps84 O (.beg (.go O (.alloc O zero_N fun w1 b0 n1=>.go O (.bld _ O O Al7 (.bld _ O O Al7 (.bld _ O O Al7 (.bsl _ O O bsl_Ls3 fun w2 b4 n2=>.bld _ O O bld_N2 ?_)))))))
 obtain ⟨e1,k0,hb0,hs1⟩:=n1
 have hl:eLs.R (fun k=>k≠b0) w2 (.slice (some ⟨b4,0,none⟩) 3 3) net3.ls:=Ax2 (E:=eL) [_,_,_] net3.ls n2 (fun k hk=>by omega) O O (by decide) (Els.snoc (Els.snoc (Els.snoc Els.nil (ln_R (by decide))) (ln_R (by decide))) (ln_R (by decide)))
 have hn:eN.R (fun k=>k≠b0) w2 (.agg #[.int .i64 3,.slice (some ⟨b4,0,none⟩) 3 3]) net3:=⟨_,rfl,hl,P5.2 (by decide)⟩
 refine .storeA (E:=eN) ty_N O O (k0.ext n2.1) O O hn (fun h=>h O) fun w3 k3 u3 h3=>.goE O ?_
 exact .cell (E:=eN) Tryz.results84 O ty_N O O k3 h3 ⟨u3.below (e1.trans n2.1) (by omega),eN.mono (fun _ _ _=>trivial) h3⟩
theorem V6:Ent Tryz.prog 85:=A0 Tryz.func85 (by kernel_rfl) rfl
theorem U8 {w:World} {vl:Value} {l:List Int} (hl:eI.R (fun _=>True) w vl l) (hn:l.length<=1000):CR Tryz.prog 85 #[vl] w (eV.at (fun _=>True) (intsV l)):=by
 refine enter Tryz.func85 O Tryz.ntmps85 O (.beg (.go O ?_))
 refine .call _ O Am2 O (Aj8 upT hl (by omega)) fun v1 w1 e1 h1=>.goE O ?_
 exact .plain [_] Tryz.results85 ⟨rfl,trivial⟩ ⟨e1,h1⟩
def balB (n:Nw) (x:Nat->Rat):Bool:=(List.range n.B).all fun r => !decide (n.root r=r) || decide (sumN n.B (fun b=>if n.root b=r then x b else 0)=0)
theorem Ar9 {n:Nw} {x:Nat->Rat}:balB n x=true<->n.bal x:=by
 unfold balB Nw.bal
 rw [List.all_eq_true]
 simp only [List.mem_range,Bool.or_eq_true,Bool.not_eq_true',decide_eq_false_iff_not,decide_eq_true_eq]
 exact ⟨fun h r hr hrr=>(h r hr).resolve_left fun h'=>h' hrr,fun h r hr=>by
  by_cases hrr:n.root r=r
  ·exact .inr (h r hr hrr)
  ·exact .inl hrr⟩
theorem Ax9 {n:Nw} (ok:n.Ok) {x cand:Nat->Rat} (h:∀ i,i<n.B->(if n.root i=i then cand i else n.lap cand i)=n.inj0 x i) {c:Nat} (hc:c<n.B):n.an x c=cand c :=
 Nw.uniq ok (fun i hi=>by
  have h1:=n.an_eq ok x hi
  have h2:=h i hi
  split
  ·rw [if_pos (by assumption)] at h1 h2;rw [h1,h2]
  ·rw [if_neg (by assumption)] at h1 h2;rw [h1,h2]) c hc
def inj3:Nat->Rat:=fun b=>((([6,0,-6]:List Int).getD b 0:Int):Rat)
def an3:Nat->Rat:=fun b=>((([0,-24,-36]:List Int).getD b 0:Int):Rat)
theorem Aj4 {l:List Int} {b:Nat}:rv (intsV l) b=if b<l.length then ((l.getD b 0:Int):Rat) else 0:=O9 ..
theorem Am0:anE net3 [] (intsV [6,0,-6])=0:=by
 refine anE_of ok3 (by decide) ?_
 refine (Nw.bal_congr (y:=inj3) fun b hb=>?_).2 (Ar9.1 (by decide +kernel))
 rw [Aj4,if_pos (show b<([6,0,-6]:List Int).length from hb)];rfl
theorem an3_no:anE net3 [] (intsV [1,0,-2])=10:=by
 have h1:sfE net3 [] (intsV [1,0,-2]).length=0:=by unfold sfE;rw [if_neg (by simpa using ok3),if_pos (by decide)]
 unfold anE
 rw [if_neg (by simpa using h1),if_neg]
 intro h
 have h2:=(Nw.bal_congr (y:=fun b=>((([1,0,-2]:List Int).getD b 0:Int):Rat)) fun b hb=>by rw [Aj4,if_pos (show b<([1,0,-2]:List Int).length from hb)]).1 h
 have h3:=Ar9.2 h2
 exact absurd h3 (by decide +kernel)
theorem Al9:∀ c,c<3->(nwOf net3 []).an (rv (intsV [6,0,-6])) c=an3 c:=fun c hc=>by
 have ok:=T8 ok3
 refine Ax9 ok.ok (fun i hi=>?_) hc
 have h1:∀ i,i<3->(if (nwOf net3 []).root i=i then an3 i else (nwOf net3 []).lap an3 i)=(nwOf net3 []).inj0 inj3 i:=by decide +kernel
 rw [h1 i hi]
 unfold Nw.inj0
 rw [Aj4,if_pos (show i<([6,0,-6]:List Int).length from hi)];rfl
theorem an3_tab:tab (nwOf net3 []).B ((nwOf net3 []).an (rv (intsV [6,0,-6])))=intsV [0,-24,-36]:=F3 fun c hc=>Al9 c hc
theorem fl3_tab:tab net3.ls.length ((nwOf net3 []).fl ((nwOf net3 []).an (rv (intsV [6,0,-6]))))=[qc (Rat.divInt 12 5),qc (Rat.divInt 12 5),qc (Rat.divInt 18 5)]:=by
 have h1:∀ k,k<3->(nwOf net3 []).fl ((nwOf net3 []).an (rv (intsV [6,0,-6]))) k=(nwOf net3 []).fl an3 k:=fun k hk=>by
  have ok:=T8 ok3
  unfold Nw.fl
  rw [Al9 _ (ok.f k hk),Al9 _ (ok.t k hk)]
 have h2:∀ k,k<3->(nwOf net3 []).fl an3 k=Rat.divInt (([12,12,18]:List Int).getD k 0) 5:=by decide +kernel
 rw [show tab net3.ls.length ((nwOf net3 []).fl ((nwOf net3 []).an (rv (intsV [6,0,-6]))))=tab 3 fun k=>Rat.divInt (([12,12,18]:List Int).getD k 0) 5 from F3 fun k hk=>by rw [h1 k hk,h2 k hk]]
 rfl
theorem bsl_V3 {x y z u x' y' z' u' x2 y2 z2 u2:Value}:bslOf Tryz.prog 32 3 [(0,.agg #[x,y,z,u]),(1,.agg #[x',y',z',u']),(2,.agg #[x2,y2,z2,u2])]=some (54,#[x,y,z,u,x',y',z',u',x2,y2,z2,u2]):=by kernel_rfl
theorem ob_V3 {w:World} {σ:Env} {d:Option Tmp} {ty:TypeId} {pos:String} {af:Array Edge} {g:Option (Nat×Bool)} {x y z:Operand} {u v t:Value} {a b c:QV} (hu:eQ.R (fun _=>True) w u a) (hv:eQ.R (fun _=>True) w v b) (ht:eQ.R (fun _=>True) w t c) (hx:ev σ x=some u:=by rfl) (hy:ev σ y=some v:=by rfl) (hz:ev σ z=some t:=by rfl) :
  Gv Tryz.prog ⟨d,.buildSlice 32 3 #[(0,x),(1,y),(2,z)],ty,pos,af,g⟩ σ w fun v' w'=>Ext w w'/\Sp.ok (.inr (eV.at (fun _=>True) [a,b,c])) v' w':=by
 have hu':=hu
 have hv':=hv
 have ht':=ht
 obtain ⟨s1,t1,rfl,_,_⟩:=hu'
 obtain ⟨s2,t2,rfl,_,_⟩:=hv'
 obtain ⟨s3,t3,rfl,_,_⟩:=ht'
 refine (AQ3 (ps:=[(0,x),(1,y),(2,z)]) [(0,.agg #[.bool a.num.neg,s1,.bool a.den.neg,t1]),(1,.agg #[.bool b.num.neg,s2,.bool b.den.neg,t2]),(2,.agg #[.bool c.num.neg,s3,.bool c.den.neg,t3])] (by simp [evp,hx,hy,hz]) bsl_V3).mono fun v' w' ⟨b2,hv',n2⟩=>⟨n2.1,fun w'' e=>?_⟩
 rw [hv']
 exact ER.ext eV (Ax2 (E:=eQ) (hsz:=by decide) [_,_,_] [a,b,c] n2 upT O O (by decide) (Els.snoc (Els.snoc (Els.snoc Els.nil hu) hv) ht)) e
theorem ob_L3 {w:World} {σ:Env} {d:Option Tmp} {ty:TypeId} {pos:String} {af:Array Edge} {g:Option (Nat×Bool)} {m n k:Int} (h:∀ x∈[m,n,k],-9223372036854775808<=x/\x<=9223372036854775807) :
  Gv Tryz.prog ⟨d,.buildSlice 127 3 #[(0,.const (.int .i64 m)),(1,.const (.int .i64 n)),(2,.const (.int .i64 k))],ty,pos,af,g⟩ σ w fun v' w'=>Ext w w'/\Sp.ok (.inr (eI.at (fun _=>True) [m,n,k])) v' w' :=
 (AQ3 (ps:=[(0,.const (.int .i64 m)),(1,.const (.int .i64 n)),(2,.const (.int .i64 k))]) _ O Al4).mono fun v' w' ⟨b2,hv',n2⟩=>⟨n2.1,fun w'' e=>by
  rw [hv']
  exact ER.ext eI (Al3 [m,n,k] 3 n2 upT O O h (by omega)) e⟩
theorem Ay8 (l:List Int) (h:∀ n∈l,-9223372036854775808<=n/\n<=9223372036854775807):vk 2 (intsV l):=BH2 h
theorem AL3:Ent Tryz.prog 28:=A0 Tryz.func28 (by kernel_rfl) rfl
set_option maxRecDepth 8000 in
theorem AK7 {w:World}:CR Tryz.prog 28 #[] w (Is (.bool true)):=by
 have hk6:=Ay8 [6,0,-6] (by decide)
 have hk1:=Ay8 [1,0,-2] (by decide)
 refine enter Tryz.func28 O Tryz.ntmps28 O (.beg (.go O ?_))
 refine .call _ O AB1 O AA4 fun v1 w1 e1 h1=>.bsl _ O O Al4 fun w2 b2 n2=>?_
 refine .call _ O V6 O (U8 (Al3 [6,0,-6] 3 n2 upT O O (by decide) (by decide)) (by decide)) fun v3 w3 e3 h3=>?_
 refine .call _ O AL5 O (AK9 (o:=[]) upT (ER.ext eN h1 (n2.1.trans e3)) RL.nil h3 hk6 (by decide) (by decide)) fun v4 w4 e4 h4=>?_
 obtain ⟨va,ve,rfl,ha,he⟩:=h4
 replace he:ve=.int .i64 0:=by rw [he,Am0]
 subst he
 rw [if_pos Am0,an3_tab] at ha
 have x4:=((e1.trans n2.1).trans e3).trans e4
 refine .go O ?_
 refine .call _ O AB1 O AA4 fun v5 w5 e5 h5=>.bsl _ O O Al4 fun w6 b6 n6=>?_
 refine .call _ O V6 O (U8 (Al3 [6,0,-6] 3 n6 upT O O (by decide) (by decide)) (by decide)) fun v7 w7 e7 h7=>?_
 refine .call _ O AS3 O (AQ7 (o:=[]) upT (ER.ext eN h5 (n6.1.trans e7)) RL.nil h7 hk6 (by decide) (by decide)) fun v8 w8 e8 h8=>?_
 obtain ⟨vf,ve,rfl,hf,he⟩:=h8
 replace he:ve=.int .i64 0:=by rw [he,Am0]
 subst he
 rw [if_pos Am0,fl3_tab] at hf
 have y8:=((e5.trans n6.1).trans e7).trans e8
 refine .go O ?_
 refine .call _ O AB1 O AA4 fun v9 w9 e9 h9=>.bsl _ O O Al4 fun w10 b10 n10=>?_
 refine .call _ O V6 O (U8 (Al3 [1,0,-2] 3 n10 upT O O (by decide) (by decide)) (by decide)) fun v11 w11 e11 h11=>?_
 refine .call _ O AS3 O (AQ7 (o:=[]) upT (ER.ext eN h9 (n10.1.trans e11)) RL.nil h11 hk1 (by decide) (by decide)) fun v12 w12 e12 h12=>?_
 obtain ⟨vg,ve,rfl,hg,he⟩:=h12
 replace he:ve=.int .i64 10:=by rw [he,an3_no]
 subst he
 have y12:=((e9.trans n10.1).trans e11).trans e12
 refine .go O ?_
 refine .call _ O Ae5 O (Ab7 (S:=fun _=>True) upT (by decide) (by decide)) fun vq w13 e13 hq=>.alloc O C7 fun w14 b7 n14=>?_
 obtain ⟨e14,k7,hb7,hs14⟩:=n14
 refine .storeA (E:=eQ) (S:=fun k=>k<w13.heap.size) ty_Q O O k7 O O (ER.ext eQ (eQ.mono (fun k _ h=>h.2) (ER.lt eQ hq)) e14) (fun h=>by omega) fun w15 k7 u15 hq=>.goC O ?_
 have hqv:=shpA (E:=eQ) O hq
 have hq:eQ.R (fun _=>True) w15 vq _:=eQ.mono (fun _ _ _=>trivial) hq
 have z15:Ext w12 w15:=u15.below (e13.trans e14) (by have:=e13.size;omega)
 have ha:=ER.ext eV ha ((y8.trans y12).trans z15)
 have hf:=ER.ext eV hf (y12.trans z15)
 refine .par follows 22 [.inl _,.inl (.bool true),.inl (.bool true),.inl _,.inl (.bool true),.inl (.bool true),.inl (.bool true),.inl _,.inl (.bool true),.inl (.bool true),.inl (.bool true),.inl _,.inr (eI.at (fun _=>True) [0,-24,-36]),.inr (eV.at (fun _=>True) (intsV [0,-24,-36])),.inl (.bool true),.inl (.bool true),.inl (.bool true),.inl _,.inl vq,.inl vq,.inr (eQ.at (fun _=>True) (qc (Rat.divInt 18 5))),.inr (eV.at (fun _=>True) [qc (Rat.divInt 12 5),qc (Rat.divInt 12 5),qc (Rat.divInt 18 5)])] [[],[(30,0)],[(31,1)],[(32,2)],[(33,3),(32,2)],[(32,2),(34,4)],[(35,5)],[(36,6)],[(37,7),(36,6)],[(36,6),(38,8)],[(39,9)],[(40,10)],[(40,10)],[(42,12),(40,10)],[(41,11),(43,13),(40,10)],[(40,10),(44,14)],[(45,15)],[(46,16)],[(46,16)],[(46,16)],[(46,16)],[(48,18),(49,19),(50,20),(46,16)]] (by kernel_rfl) ⟨
  fun w e=>(v_mv O).ob,
  fun w e=>((An7 O O).eq (by rfl)).ob,
  fun w e=>(v_mv O).ob,
  fun w e=>(v_mv O).ob,
  fun w e=>((An7 O O).eq (by rfl)).ob,
  fun w e=>(AI4 O O).ob,
  fun w e=>(v_mv O).ob,
  fun w e=>(v_mv O).ob,
  fun w e=>((An7 O O).eq (by rfl)).ob,
  fun w e=>(AI4 O O).ob,
  fun w e=>(v_mv O).ob,
  fun w e=>(v_mv O).ob,
  fun w e=>ob_L3 (by decide),
  fun w e x12 hx12=>(A1 _ V6 O (U8 hx12 (by decide))).ob (A3 _ _ _),
  fun w e x13 hx13=>(A1 _ R4 O (Aq4 (ER.ext eV ha e) hx13 O)).obIs,
  fun w e=>(AI4 O O).ob,
  fun w e=>(v_mv O).ob,
  fun w e=>(v_mv O).ob,
  fun w e=>((B5 ty_Q O (k7.ext e) (eQ.csz hq)).eq hqv.symm).ob,
  fun w e=>((B5 ty_Q O (k7.ext e) (eQ.csz hq)).eq hqv.symm).ob,
  fun w e=>(A1 _ Ae5 O (Ab7 (S:=fun _=>True) upT (by decide) (by decide))).ob (A3 _ _ _),
  fun w e x20 hx20=>ob_V3 (ER.ext eQ hq e) (ER.ext eQ hq e) hx20,trivial⟩ ?_
 intro w16 e16 _ _ _ _ _ _ x21 hx21
 refine .go O (.call _ O R4 O (Aq4 (ER.ext eV hf e16) hx21 O) fun v17 w17 e17 h17=>?_)
 subst h17
 exact .goE O (.plain [_] Tryz.results28 ⟨rfl,trivial⟩ ⟨((((x4.trans y8).trans y12).trans z15).trans e16).trans e17,rfl⟩)
end Go.Proofs.YtggegpiffjbngaaGreat
namespace Go.Kx
open Go Go.RowKit
section
variable {n:Nw}
def Nw.mem1 (n:Nw) (i r:Nat):List Nat:=(List.range i).filter fun c=>decide (c≠r/\n.root c=r)
theorem Nw.mem1_succ (n:Nw) (i r:Nat):n.mem1 (i+1) r=n.mem1 i r++if i≠r/\n.root i=r then [i] else []:=by
 unfold Nw.mem1
 rw [List.range_succ,List.filter_append]
 by_cases h:i≠r/\n.root i=r
 ·simp [h]
 ·rw [if_neg h];simp [h]
theorem Nw.mem_first {r:Nat} (h:n.root r=r):∀ d,n.mem (r+1+d) r=r::n.mem1 (r+1+d) r
 | 0=>by
  have e1:n.mem r r=[]:=by
   unfold Nw.mem
   rw [List.filter_eq_nil_iff]
   intro b hb
   have:=Nw.root_le (n:=n) b
   have:=List.mem_range.1 hb
   simp;omega
  have e2:n.mem1 r r=[]:=by
   unfold Nw.mem1
   rw [List.filter_eq_nil_iff]
   intro b hb
   have:=Nw.root_le (n:=n) b
   have:=List.mem_range.1 hb
   simp;omega
  rw [Nat.add_zero,Nw.mem_succ,Nw.mem1_succ,e1,e2,if_pos h,if_neg (by simp)];rfl
 | d+1=>by
  rw [show r+1+(d+1)=(r+1+d)+1 by omega,Nw.mem_succ,Nw.mem1_succ,Nw.mem_first h d]
  by_cases h':n.root (r+1+d)=r
  ·rw [if_pos h',if_pos ⟨by omega,h'⟩];rfl
  ·rw [if_neg h',if_neg fun h''=>h' h''.2];rfl
theorem Nw.mem_cons {B r:Nat} (h:n.root r=r) (hr:r<B):n.mem B r=r::n.mem1 B r:=by
 have:=Nw.mem_first (n:=n) h (B-(r+1))
 rwa [show r+1+(B-(r+1))=B by omega] at this
end
end Go.Kx
namespace Go.Proofs.YtggegpiffjbngaaGreat
open Go Go.Kx Go.RowKit
end Go.Proofs.YtggegpiffjbngaaGreat
namespace Go.Kx
open Go Go.RowKit
theorem Leave.tt {P:Program} {fn:Func} {N:Nat} {σ:Env} {w W:World} {r:Nat} (hr:fn.results=#[.tmp r]) (hl:look σ r=some (.bool true)) (h:Ext w W):Leave P fn N (fun v w'=>Ext w w'/\Is (.bool true) v w') σ [] W:=.plain [_] hr ⟨hl,trivial⟩ ⟨h,rfl⟩
end Go.Kx
namespace Go.Proofs.YtggegpiffjbngaaGreat
open Go Go.Kx Go.RowKit
theorem Ag3:Ent Tryz.prog 131:=A0 Tryz.func131 (by kernel_rfl) rfl
set_option maxRecDepth 8000 in
theorem Af5 {S:Nat->Prop} {w:World} {vn:Value} {n:NtV} (hn:eN.R S w vn n):CR Tryz.prog 131 #[vn] w (Is (.int .i64 (chkE n))):=by
 obtain ⟨s,rfl,hs,hb⟩:=hn
 obtain ⟨_,_,_,_,hls⟩:=RL.len hs
 refine enter Tryz.func131 O Tryz.ntmps131 O (.beg (.go O (.box O O fun w1 b1 n1=>.go O (.fa G0 O O (.ld A5 O O n1.2.1 O ?_)))))
 obtain ⟨e1,k1,hb1,hs1⟩:=n1
 replace k1:Blk w1 b1 24 #[.int .i64 n.b,s]:=k1
 have fin:∀ {W:World} {v:Int},Ext w W->v=chkE n->(Ext w W/\Is (.int .i64 (chkE n)) (.int .i64 v) W):=fun e h=>⟨e,by rw [h]⟩
 by_cases h1:n.b<1
 ·exact .lssT O O O h1 (.goE O (.plain [_] Tryz.results131 ⟨rfl,trivial⟩ (fin e1 (by unfold chkE;rw [if_pos (.inl h1)]))))
 refine .lssF O O O h1 (.go O (.fa G0 O O (.go O (.ld A5 O O k1 O (.go O ?_)))))
 by_cases h6:6<n.b
 ·exact .gtrT O O O h6 (.goE O (.plain [_] Tryz.results131 ⟨rfl,trivial⟩ (fin e1 (by unfold chkE;rw [if_pos (.inr h6)]))))
 refine .gtrF O O O h6 (.go O (.fa G5 O O (.ld J1 O O k1 O (.lenR I8 O O (hs.ext e1) ?_))))
 by_cases h10:10<n.ls.length
 ·exact .gtrT O O O (by omega) (.goE O (.plain [_] Tryz.results131 ⟨rfl,trivial⟩ (fin e1 (by unfold chkE;rw [if_neg (by omega),if_pos h10]))))
 have hce:∀ {p:Prop} [Decidable p],(p<->chkOk n)->(chkE n=if p then 0 else 1):=fun {p} _ h=>by
  unfold chkE
  rw [if_neg (by omega),if_neg h10]
  by_cases hp:p
  ·rw [if_pos hp,if_pos (h.1 hp)]
  ·rw [if_neg hp,if_neg fun h'=>hp (h.2 h')]
 refine .gtrF O O O (by omega) (.goC O ?_)
 refine .lp (α:=Nat) [1] O (fun i=>[(3,.int .i64 (i:Nat))]) (fun i W=>Ext w1 W/\i<=n.ls.length/\∀ j,j<i->∀ l,n.ls[j]?=some l->ckAll n.b l) (fun i=>n.ls.length-i) 0 (lc1 O) ⟨Ext.refl _,Nat.zero_le _,fun j hj=>by omega⟩ ?_
 rintro i W ⟨hW,hi,hall⟩
 have k1:=k1.ext hW
 refine .go O (.fa G5 O O (.ld J1 O O k1 O (.lenR I8 O O (hs.ext (e1.trans hW)) ?_)))
 rcases Nat.lt_or_ge i n.ls.length with hlt | hge
 rotate_left
 ·have:i=n.ls.length:=by omega
  subst this
  exact .lssF O O O (by omega) (.goE O (.plain [_] Tryz.results131 ⟨rfl,trivial⟩ (fin (e1.trans hW) (by rw [hce (p:=True) ⟨fun _=>fun i hi=>hall i hi,fun _=>trivial⟩,if_pos trivial]))))
 have hgl:n.ls[i]?=some (n.ls.getD i ln0):=A7 hlt
 generalize n.ls.getD i ln0=ln at hgl
 have bad:∀ j,j<5->ck j n.b ln=false->1=chkE n:=fun j hj h=>by
  rw [hce (p:=False) ⟨fun h=>h.elim,fun hk=>by have:=hk i hlt ln hgl j hj;rw [h] at this;cases this⟩,if_neg (fun h=>h)]
 refine .lssT O O O (by omega) (.go O (.fa G5 O O (.ld J1 O O k1 O (.go O (.ixN (i:=i) I8 K8 O O (hs.ext (e1.trans hW)) O hgl fun p hp=>.ldE (E:=eL) K8 O O hp fun vl hvl=>.alloc O AY6 fun W1 c n1'=>?_)))))
 obtain ⟨d1,kc,hc,zs1⟩:=n1'
 refine .storeA (E:=eL) (S:=fun k=>k≠c) (z:=ln) K8 O O kc O O hvl (fun h=>h O) fun W2 kc u2 hl2=>?_
 obtain ⟨rfl,_⟩:=hl2
 replace kc:Blk W2 c 58 #[.int .i64 ln.f,.int .i64 ln.t,.int .i64 ln.x,.int .i64 ln.c]:=kc
 have zW:=hW.size
 have l1:=k1.lt
 have hW2:Ext w1 W2:=u2.below (hW.trans d1) (by omega)
 have k1:Blk W2 b1 24 #[.int .i64 n.b,s]:=(k1.ext d1).upd u2 (by omega)
 have x2:=e1.trans hW2
 refine .go O (.fa N4 O O (.go O (.ld A5 O O kc O (.go O (?_)))))
 by_cases g0:ln.f<0
 ·exact .lssT O O O g0 (.goE O (.plain [_] Tryz.results131 ⟨rfl,trivial⟩ (fin x2 (bad 0 (by decide) (by simp [ck];omega)))))
 refine .lssF O O O g0 (.go O (.fa N4 O O (.go O (.ld A5 O O kc O (.go O (.fa G0 O O (.go O (.ld A5 O O k1 O (.go O (?_))))))))))
 by_cases g1:n.b<=ln.f
 ·exact .geqT O O O g1 (.goE O (.plain [_] Tryz.results131 ⟨rfl,trivial⟩ (fin x2 (bad 0 (by decide) (by simp [ck];omega)))))
 refine .geqF O O O g1 (.go O (.fa N3 O O (.go O (.ld A5 O O kc O (.go O (?_))))))
 by_cases g2:ln.t<0
 ·exact .lssT O O O g2 (.goE O (.plain [_] Tryz.results131 ⟨rfl,trivial⟩ (fin x2 (bad 1 (by decide) (by simp [ck];omega)))))
 refine .lssF O O O g2 (.go O (.fa N3 O O (.go O (.ld A5 O O kc O (.go O (.fa G0 O O (.go O (.ld A5 O O k1 O (.go O (?_))))))))))
 by_cases g3:n.b<=ln.t
 ·exact .geqT O O O g3 (.goE O (.plain [_] Tryz.results131 ⟨rfl,trivial⟩ (fin x2 (bad 1 (by decide) (by simp [ck];omega)))))
 refine .geqF O O O g3 (.go O (.fa N4 O O (.go O (.ld A5 O O kc O (.go O (.fa N3 O O (.go O (.ld A5 O O kc O (.go O (?_))))))))))
 by_cases g4:ln.f=ln.t
 ·exact .eqlT O O O g4 (.goE O (.plain [_] Tryz.results131 ⟨rfl,trivial⟩ (fin x2 (bad 2 (by decide) (by simp [ck];omega)))))
 refine .eqlF O O O g4 (.go O (.fa AD9 O O (.go O (.ld Q6 O O kc O (.go O (?_))))))
 by_cases g5:ln.x<1
 ·exact .lssT O O O g5 (.goE O (.plain [_] Tryz.results131 ⟨rfl,trivial⟩ (fin x2 (bad 3 (by decide) (by simp [ck];omega)))))
 refine .lssF O O O g5 (.go O (.fa AD9 O O (.go O (.ld Q6 O O kc O (.go O (?_))))))
 by_cases g6:1000<ln.x
 ·exact .gtrT O O O g6 (.goE O (.plain [_] Tryz.results131 ⟨rfl,trivial⟩ (fin x2 (bad 3 (by decide) (by simp [ck];omega)))))
 refine .gtrF O O O g6 (.go O (.fa AZ2 O O (.go O (.ld Q6 O O kc O (.go O (?_))))))
 by_cases g7:ln.c<0
 ·exact .lssT O O O g7 (.goE O (.plain [_] Tryz.results131 ⟨rfl,trivial⟩ (fin x2 (bad 4 (by decide) (by simp [ck];omega)))))
 refine .lssF O O O g7 (.go O (.fa AZ2 O O (.go O (.ld Q6 O O kc O (.go O (?_))))))
 by_cases g8:1000000<ln.c
 ·exact .gtrT O O O g8 (.goE O (.plain [_] Tryz.results131 ⟨rfl,trivial⟩ (fin x2 (bad 4 (by decide) (by simp [ck];omega)))))
 refine .gtrF O O O g8 (.go O (.inc O O O (by omega) (.goN O (.mk (i+1) O (lc1 O) ⟨⟨hW2,hlt,fun j hj l hl=>?_⟩,by show n.ls.length-(i+1)<n.ls.length-i;omega⟩))))
 by_cases e:j=i
 ·subst e
  rw [hgl] at hl
  cases hl
  intro j hj
  match j with
  | 0=>simp [ck];omega
  | 1=>simp [ck];omega
  | 2=>simp [ck];omega
  | 3=>simp [ck];omega
  | 4=>simp [ck];omega
 ·exact hall j (by omega) l hl
theorem As7:Ent Tryz.prog 159:=A0 Tryz.func159 (by kernel_rfl) rfl
set_option maxRecDepth 8000 in
theorem Ao7 {S:Nat->Prop} {w:World} {v:Value} {l:List Int} {k:Int} (h:eI.R S w v l):CR Tryz.prog 159 #[v,.int .i64 k] w (Is (.bool (decide (k∈l)))):=by
 obtain ⟨_,_,_,_,hll⟩:=RL.len h
 refine enter Tryz.func159 O Tryz.ntmps159 O (.beg (.goC O ?_))
 refine .lp (α:=Nat) [0,1] O (fun i=>[(5,.int .i64 (i:Nat))]) (fun i W=>Ext w W/\i<=l.length/\∀ j,j<i->l[j]?≠some k) (fun i=>l.length-i) 0 (lc1 O) ⟨Ext.refl _,Nat.zero_le _,fun j hj=>by omega⟩ ?_
 rintro i W ⟨hW,hi,hall⟩
 refine .go O (.lenR un_I O O (ER.ext eI h hW) ?_)
 rcases Nat.lt_or_ge i l.length with hlt | hge
 rotate_left
 ·refine .lssF O O O (by omega) (.goE O (.plain [_] Tryz.results159 ⟨rfl,trivial⟩ ⟨hW,?_⟩))
  refine congrArg Value.bool (decide_eq_false fun hm=>?_).symm
  obtain ⟨j,hj⟩:=List.mem_iff_getElem?.1 hm
  exact hall j (by have:=(List.getElem?_eq_some_iff.1 hj).1;omega) hj
 have hg:l[i]?=some (l.getD i 0):=A7 hlt
 refine .lssT O O O (by omega) (.go O (.ixN (i:=i) un_I C9 O O (ER.ext eI h hW) O hg fun q hq=>.ldE (E:=eInt .i64) C9 O O hq fun e he=>.go O ?_))
 obtain ⟨rfl,_⟩:=he
 by_cases e:l.getD i 0=k
 ·refine .eqlT O O O e (.goE O (.plain [_] Tryz.results159 ⟨rfl,trivial⟩ ⟨hW,?_⟩))
  exact congrArg Value.bool (decide_eq_true (List.mem_iff_getElem?.2 ⟨i,by rw [hg,e]⟩)).symm
 ·refine .eqlF O O O e (.go O (.inc O O O (by omega) (.goN O (.mk (i+1) O (lc1 O) ⟨⟨hW,hlt,fun j hj=>?_⟩,by show l.length-(i+1)<l.length-i;omega⟩))))
  by_cases ej:j=i
  ·subst ej;rw [hg];exact fun h=>e (Option.some.inj h)
  ·exact hall j (by omega)
theorem AE7:Ent Tryz.prog 68:=A0 Tryz.func68 (by kernel_rfl) rfl
set_option maxRecDepth 8000 in
theorem AD2 {S:Nat->Prop} {w:World} {vn vo:Value} {n:NtV} {o:List Int} (hn:eN.R S w vn n) (ho:eI.R S w vo o):CR Tryz.prog 68 #[vn,vo] w (Is (.int .i64 (outE n o))):=by
 obtain ⟨s,rfl,hs,hb⟩:=hn
 have hn:eN.R S w (.agg #[.int .i64 n.b,s]) n:=⟨s,rfl,hs,hb⟩
 obtain ⟨_,_,_,_,hll⟩:=RL.len ho
 obtain ⟨_,_,_,_,hls⟩:=RL.len hs
 refine enter Tryz.func68 O Tryz.ntmps68 O (.beg (.go O (.box O O fun w1 b2 n1=>.go O ?_)))
 obtain ⟨e1,k2,hb2,hs1⟩:=n1
 refine .ldA ty_N O O k2 O ?_
 refine .call _ O Ag3 O (Af5 (hn.ext e1)) fun v3 w3 e3 h3=>.go O ?_
 subst h3
 have x3:=e1.trans e3
 have k2:=k2.ext e3
 by_cases hc:chkE n=0
 rotate_left
 ·exact .neqT O O O hc (.goE O (.plain [_] Tryz.results68 ⟨rfl,trivial⟩ ⟨x3,by rw [Ap8 hc];rfl⟩))
 have hoe:∀ {p:Prop} [Decidable p],(p<->outsOk n o)->(outE n o=if p then 0 else 1):=fun {p} _ h=>by
  unfold outE
  rw [if_neg (by simpa using hc)]
  by_cases hp:p
  ·rw [if_pos hp,if_pos (h.1 hp)]
  ·rw [if_neg hp,if_neg fun h'=>hp (h.2 h')]
 refine .neqF O O O (by omega) (.goC O ?_)
 refine .lp (α:=Nat) [1,2] O (fun i=>[(6,.int .i64 (i:Nat))]) (fun i W=>Ext w3 W/\i<=o.length/\∀ j,j<i->0<=o.getD j 0/\o.getD j 0<n.ls.length/\(0<j->o.getD (j-1) 0<o.getD j 0)) (fun i=>o.length-i) 0 (lc1 O) ⟨Ext.refl _,Nat.zero_le _,fun j hj=>by omega⟩ ?_
 rintro i W ⟨hW,hi,hall⟩
 refine .go O (.lenR un_I O O (ER.ext eI ho (x3.trans hW)) ?_)
 rcases Nat.lt_or_ge i o.length with hlt | hge
 rotate_left
 ·have:i=o.length:=by omega
  subst this
  exact .lssF O O O (by omega) (.goE O (.plain [_] Tryz.results68 ⟨rfl,trivial⟩ ⟨x3.trans hW,by rw [hoe (p:=True) ⟨fun _=>fun i hi=>hall i hi,fun _=>trivial⟩,if_pos trivial];rfl⟩))
 have hg:o[i]?=some (o.getD i 0):=A7 hlt
 have bad:¬ (0<=o.getD i 0/\o.getD i 0<n.ls.length/\(0<i->o.getD (i-1) 0<o.getD i 0))->(Is (.int .i64 (outE n o))) (.int .i64 1) W:=fun h=>by
  rw [hoe (p:=False) ⟨fun h=>h.elim,fun hk=>h (hk i hlt)⟩,if_neg (fun h=>h)]
 have hoW:=ER.ext eI ho (x3.trans hW)
 have hsW:=hs.ext (x3.trans hW)
 have k2:=k2.ext hW
 refine .lssT O O O (by omega) (.goC O ?_)
 have hgp:0<i->o[i-1]?=some (o.getD (i-1) 0):=fun h=>A7 (by omega)
 generalize o.getD i 0=x at hg bad hall
 by_cases g0:x<0
 ·have hd:=True.intro
  refine .par follows 28 [.inl _,.inl _,.inr (Ptr (eInt .i64) S x),.inl (.int .i64 x),.inl (.bool true),.inl (.bool true),.inl undef,.inl undef,.inl undef,.inl undef,.inl undef,.inl undef,.inl undef,.inl undef,.inl (.bool true),.inl (.bool true),.inl undef,.inl undef,.inl undef,.inl undef,.inl undef,.inl undef,.inl undef,.inl undef,.inl undef,.inl undef,.inl undef,.inl undef] [[],[],[(18,0),(19,1)],[(20,2)],[(21,3)],[(22,4)],[(23,5)],[(23,5)],[(24,6),(25,7),(23,5)],[(26,8),(23,5)],[(23,5)],[(28,10),(23,5)],[(29,11),(23,5)],[(27,9),(30,12),(23,5)],[(23,5),(31,13)],[(32,14)],[(33,15)],[(34,16),(33,15)],[(35,17),(33,15)],[(36,18)],[(36,18)],[(37,19),(38,20),(36,18)],[(39,21),(36,18)],[(36,18)],[(36,18)],[(42,24),(36,18)],[(41,23),(43,25),(36,18)],[(44,26),(36,18)]] (by kernel_rfl) ⟨
   fun w e=>(v_mv O).ob,
   fun w e=>(v_mv O).ob,
   fun w e=>C2 (i:=i) un_I C9 O (ER.ext eI hoW e) O hg,
   fun w e x2 hx2=>L0 A5 O hx2,
   fun w e=>((AU7 O O).eq (by rw [decide_eq_true (by omega)])).ob,
   fun w e=>(v_mv O).ob,
   fun w e=>rfl,
   fun w e=>rfl,
   fun w e=>rfl,
   fun w e=>rfl,
   fun w e=>rfl,
   fun w e=>rfl,
   fun w e=>rfl,
   fun w e=>rfl,
   fun w e=>(AI4 O O).ob,
   fun w e=>(v_mv O).ob,
   fun w e=>rfl,
   fun w e=>rfl,
   fun w e=>rfl,
   fun w e=>rfl,
   fun w e=>rfl,
   fun w e=>rfl,
   fun w e=>rfl,
   fun w e=>rfl,
   fun w e=>rfl,
   fun w e=>rfl,
   fun w e=>rfl,
   fun w e=>rfl,trivial⟩ ?_
  intro W3 d3 y2 hy2
  exact .goE O (.plain [_] Tryz.results68 ⟨rfl,trivial⟩ ⟨(x3.trans hW).trans d3,bad (by omega)⟩)
 by_cases g1:(n.ls.length:Int)<=x
 ·have hd:=True.intro
  refine .par follows 28 [.inl _,.inl _,.inr (Ptr (eInt .i64) S x),.inl (.int .i64 x),.inl (.bool false),.inl (.bool false),.inl _,.inl _,.inr (Ptr (eInt .i64) S x),.inl (.int .i64 x),.inl _,.inl s,.inl (.int .i64 (n.ls.length:Nat)),.inl (.bool true),.inl (.bool true),.inl (.bool true),.inl undef,.inl undef,.inl undef,.inl undef,.inl undef,.inl undef,.inl undef,.inl undef,.inl undef,.inl undef,.inl undef,.inl undef] [[],[],[(18,0),(19,1)],[(20,2)],[(21,3)],[(22,4)],[(23,5)],[(23,5)],[(24,6),(25,7),(23,5)],[(26,8),(23,5)],[(23,5)],[(28,10),(23,5)],[(29,11),(23,5)],[(27,9),(30,12),(23,5)],[(23,5),(31,13)],[(32,14)],[(33,15)],[(34,16),(33,15)],[(35,17),(33,15)],[(36,18)],[(36,18)],[(37,19),(38,20),(36,18)],[(39,21),(36,18)],[(36,18)],[(36,18)],[(42,24),(36,18)],[(41,23),(43,25),(36,18)],[(44,26),(36,18)]] (by kernel_rfl) ⟨
   fun w e=>(v_mv O).ob,
   fun w e=>(v_mv O).ob,
   fun w e=>C2 (i:=i) un_I C9 O (ER.ext eI hoW e) O hg,
   fun w e x2 hx2=>L0 A5 O hx2,
   fun w e=>((AU7 O O).eq (by rw [decide_eq_false (by omega)])).ob,
   fun w e=>(v_mv O).ob,
   fun w e=>(v_mv O).ob,
   fun w e=>(v_mv O).ob,
   fun w e=>C2 (i:=i) un_I C9 O (ER.ext eI hoW e) O hg,
   fun w e x8 hx8=>L0 A5 O hx8,
   fun w e=>(v_fa G5 O).ob,
   fun w e=>(v_ld J1 O (k2.ext e) O).ob,
   fun w e=>(Aa8 I8 O (hsW.ext e)).ob,
   fun w e=>((An6 O O).eq (by rw [decide_eq_true (by omega)])).ob,
   fun w e=>(AI5 O O).ob,
   fun w e=>(v_mv O).ob,
   fun w e=>rfl,
   fun w e=>rfl,
   fun w e=>rfl,
   fun w e=>rfl,
   fun w e=>rfl,
   fun w e=>rfl,
   fun w e=>rfl,
   fun w e=>rfl,
   fun w e=>rfl,
   fun w e=>rfl,
   fun w e=>rfl,
   fun w e=>rfl,trivial⟩ ?_
  intro W3 d3 y2 hy2 y8 hy8
  exact .goE O (.plain [_] Tryz.results68 ⟨rfl,trivial⟩ ⟨(x3.trans hW).trans d3,bad (by omega)⟩)
 have nxt:∀ {σ:Env},(0<i->o.getD (i-1) 0<x)->∀ j,j<i+1->0<=o.getD j 0/\o.getD j 0<n.ls.length/\(0<j->o.getD (j-1) 0<o.getD j 0):=fun h j hj=>by
  by_cases e:j=i
  ·subst e
   have:o.getD j 0=x:=by rw [List.getD_eq_getElem?_getD,hg];rfl
   rw [this]
   exact ⟨by omega,by omega,h⟩
  ·exact hall j (by omega)
 rcases Nat.eq_zero_or_pos i with hi0 | hi0
 ·have hd:=True.intro
  refine .par follows 28 [.inl _,.inl _,.inr (Ptr (eInt .i64) S x),.inl (.int .i64 x),.inl (.bool false),.inl (.bool false),.inl _,.inl _,.inr (Ptr (eInt .i64) S x),.inl (.int .i64 x),.inl _,.inl s,.inl (.int .i64 (n.ls.length:Nat)),.inl (.bool false),.inl (.bool false),.inl (.bool false),.inl _,.inl (.bool false),.inl (.bool false),.inl undef,.inl undef,.inl undef,.inl undef,.inl undef,.inl undef,.inl undef,.inl undef,.inl undef] [[],[],[(18,0),(19,1)],[(20,2)],[(21,3)],[(22,4)],[(23,5)],[(23,5)],[(24,6),(25,7),(23,5)],[(26,8),(23,5)],[(23,5)],[(28,10),(23,5)],[(29,11),(23,5)],[(27,9),(30,12),(23,5)],[(23,5),(31,13)],[(32,14)],[(33,15)],[(34,16),(33,15)],[(35,17),(33,15)],[(36,18)],[(36,18)],[(37,19),(38,20),(36,18)],[(39,21),(36,18)],[(36,18)],[(36,18)],[(42,24),(36,18)],[(41,23),(43,25),(36,18)],[(44,26),(36,18)]] (by kernel_rfl) ⟨
   fun w e=>(v_mv O).ob,
   fun w e=>(v_mv O).ob,
   fun w e=>C2 (i:=i) un_I C9 O (ER.ext eI hoW e) O hg,
   fun w e x2 hx2=>L0 A5 O hx2,
   fun w e=>((AU7 O O).eq (by rw [decide_eq_false (by omega)])).ob,
   fun w e=>(v_mv O).ob,
   fun w e=>(v_mv O).ob,
   fun w e=>(v_mv O).ob,
   fun w e=>C2 (i:=i) un_I C9 O (ER.ext eI hoW e) O hg,
   fun w e x8 hx8=>L0 A5 O hx8,
   fun w e=>(v_fa G5 O).ob,
   fun w e=>(v_ld J1 O (k2.ext e) O).ob,
   fun w e=>(Aa8 I8 O (hsW.ext e)).ob,
   fun w e=>((An6 O O).eq (by rw [decide_eq_false (by omega)])).ob,
   fun w e=>(AI5 O O).ob,
   fun w e=>(v_mv O).ob,
   fun w e=>(v_mv O).ob,
   fun w e=>((Az1 O O).eq (by rw [decide_eq_false (by omega)])).ob,
   fun w e=>(v_mv O).ob,
   fun w e=>rfl,
   fun w e=>rfl,
   fun w e=>rfl,
   fun w e=>rfl,
   fun w e=>rfl,
   fun w e=>rfl,
   fun w e=>rfl,
   fun w e=>rfl,
   fun w e=>rfl,trivial⟩ ?_
  intro W3 d3 y2 hy2 y8 hy8
  exact .go O (.inc O O O (by omega) (.goN O (.mk (i+1) O (lc1 O) ⟨⟨hW.trans d3,hlt,nxt (σ:=[]) (fun h=>by omega)⟩,by show o.length-(i+1)<o.length-i;omega⟩)))
 by_cases g2:x<=o.getD (i-1) 0
 ·have hd:=True.intro
  refine .par follows 28 [.inl _,.inl _,.inr (Ptr (eInt .i64) S x),.inl (.int .i64 x),.inl (.bool false),.inl (.bool false),.inl _,.inl _,.inr (Ptr (eInt .i64) S x),.inl (.int .i64 x),.inl _,.inl s,.inl (.int .i64 (n.ls.length:Nat)),.inl (.bool false),.inl (.bool false),.inl (.bool false),.inl _,.inl (.bool true),.inl (.bool true),.inl _,.inl _,.inr (Ptr (eInt .i64) S x),.inl (.int .i64 x),.inl _,.inl _,.inl (.int .i64 ((i-1:Nat):Int)),.inr (Ptr (eInt .i64) S (o.getD (i-1) 0)),.inl (.int .i64 (o.getD (i-1) 0))] [[],[],[(18,0),(19,1)],[(20,2)],[(21,3)],[(22,4)],[(23,5)],[(23,5)],[(24,6),(25,7),(23,5)],[(26,8),(23,5)],[(23,5)],[(28,10),(23,5)],[(29,11),(23,5)],[(27,9),(30,12),(23,5)],[(23,5),(31,13)],[(32,14)],[(33,15)],[(34,16),(33,15)],[(35,17),(33,15)],[(36,18)],[(36,18)],[(37,19),(38,20),(36,18)],[(39,21),(36,18)],[(36,18)],[(36,18)],[(42,24),(36,18)],[(41,23),(43,25),(36,18)],[(44,26),(36,18)]] (by kernel_rfl) ⟨
   fun w e=>(v_mv O).ob,
   fun w e=>(v_mv O).ob,
   fun w e=>C2 (i:=i) un_I C9 O (ER.ext eI hoW e) O hg,
   fun w e x2 hx2=>L0 A5 O hx2,
   fun w e=>((AU7 O O).eq (by rw [decide_eq_false (by omega)])).ob,
   fun w e=>(v_mv O).ob,
   fun w e=>(v_mv O).ob,
   fun w e=>(v_mv O).ob,
   fun w e=>C2 (i:=i) un_I C9 O (ER.ext eI hoW e) O hg,
   fun w e x8 hx8=>L0 A5 O hx8,
   fun w e=>(v_fa G5 O).ob,
   fun w e=>(v_ld J1 O (k2.ext e) O).ob,
   fun w e=>(Aa8 I8 O (hsW.ext e)).ob,
   fun w e=>((An6 O O).eq (by rw [decide_eq_false (by omega)])).ob,
   fun w e=>(AI5 O O).ob,
   fun w e=>(v_mv O).ob,
   fun w e=>(v_mv O).ob,
   fun w e=>((Az1 O O).eq (by rw [decide_eq_true (by omega)])).ob,
   fun w e=>(v_mv O).ob,
   fun w e=>(v_mv O).ob,
   fun w e=>(v_mv O).ob,
   fun w e=>C2 (i:=i) un_I C9 O (ER.ext eI hoW e) O hg,
   fun w e x21 hx21=>L0 A5 O hx21,
   fun w e=>(v_mv O).ob,
   fun w e=>(v_mv O).ob,
   fun w e=>((AO6 O O).eq (by rw [wI (by omega)];congr 1;omega)).ob,
   fun w e=>C2 (i:=i-1) un_I C9 O (ER.ext eI hoW e) O (hgp hi0),
   fun w e x26 hx26=>L0 A5 O hx26,trivial⟩ ?_
  intro W3 d3 y2 hy2 y8 hy8 y21 hy21 y26 hy26
  exact .go O (.leqT O O O g2 (.goE O (.plain [_] Tryz.results68 ⟨rfl,trivial⟩ ⟨(x3.trans hW).trans d3,bad (by omega)⟩)))
 have hd:=True.intro
 refine .par follows 28 [.inl _,.inl _,.inr (Ptr (eInt .i64) S x),.inl (.int .i64 x),.inl (.bool false),.inl (.bool false),.inl _,.inl _,.inr (Ptr (eInt .i64) S x),.inl (.int .i64 x),.inl _,.inl s,.inl (.int .i64 (n.ls.length:Nat)),.inl (.bool false),.inl (.bool false),.inl (.bool false),.inl _,.inl (.bool true),.inl (.bool true),.inl _,.inl _,.inr (Ptr (eInt .i64) S x),.inl (.int .i64 x),.inl _,.inl _,.inl (.int .i64 ((i-1:Nat):Int)),.inr (Ptr (eInt .i64) S (o.getD (i-1) 0)),.inl (.int .i64 (o.getD (i-1) 0))] [[],[],[(18,0),(19,1)],[(20,2)],[(21,3)],[(22,4)],[(23,5)],[(23,5)],[(24,6),(25,7),(23,5)],[(26,8),(23,5)],[(23,5)],[(28,10),(23,5)],[(29,11),(23,5)],[(27,9),(30,12),(23,5)],[(23,5),(31,13)],[(32,14)],[(33,15)],[(34,16),(33,15)],[(35,17),(33,15)],[(36,18)],[(36,18)],[(37,19),(38,20),(36,18)],[(39,21),(36,18)],[(36,18)],[(36,18)],[(42,24),(36,18)],[(41,23),(43,25),(36,18)],[(44,26),(36,18)]] (by kernel_rfl) ⟨
  fun w e=>(v_mv O).ob,
  fun w e=>(v_mv O).ob,
  fun w e=>C2 (i:=i) un_I C9 O (ER.ext eI hoW e) O hg,
  fun w e x2 hx2=>L0 A5 O hx2,
  fun w e=>((AU7 O O).eq (by rw [decide_eq_false (by omega)])).ob,
  fun w e=>(v_mv O).ob,
  fun w e=>(v_mv O).ob,
  fun w e=>(v_mv O).ob,
  fun w e=>C2 (i:=i) un_I C9 O (ER.ext eI hoW e) O hg,
  fun w e x8 hx8=>L0 A5 O hx8,
  fun w e=>(v_fa G5 O).ob,
  fun w e=>(v_ld J1 O (k2.ext e) O).ob,
  fun w e=>(Aa8 I8 O (hsW.ext e)).ob,
  fun w e=>((An6 O O).eq (by rw [decide_eq_false (by omega)])).ob,
  fun w e=>(AI5 O O).ob,
  fun w e=>(v_mv O).ob,
  fun w e=>(v_mv O).ob,
  fun w e=>((Az1 O O).eq (by rw [decide_eq_true (by omega)])).ob,
  fun w e=>(v_mv O).ob,
  fun w e=>(v_mv O).ob,
  fun w e=>(v_mv O).ob,
  fun w e=>C2 (i:=i) un_I C9 O (ER.ext eI hoW e) O hg,
  fun w e x21 hx21=>L0 A5 O hx21,
  fun w e=>(v_mv O).ob,
  fun w e=>(v_mv O).ob,
  fun w e=>((AO6 O O).eq (by rw [wI (by omega)];congr 1;omega)).ob,
  fun w e=>C2 (i:=i-1) un_I C9 O (ER.ext eI hoW e) O (hgp hi0),
  fun w e x26 hx26=>L0 A5 O hx26,trivial⟩ ?_
 intro W3 d3 y2 hy2 y8 hy8 y21 hy21 y26 hy26
 exact .go O (.leqF O O O g2 (.go O (.inc O O O (by omega) (.goN O (.mk (i+1) O (lc1 O) ⟨⟨hW.trans d3,hlt,nxt (σ:=[]) (fun h=>by omega)⟩,by show o.length-(i+1)<o.length-i;omega⟩)))))
theorem AJ0 {n:NtV} {o:List Int} (h:outsOk n o) (k:Nat):((k:Int)∈o)<->k∈oN o:=by
 unfold oN
 rw [List.mem_map]
 constructor
 ·exact fun hm=>⟨_,hm,by simp⟩
 ·rintro ⟨x,hm,rfl⟩
  obtain ⟨i,hi⟩:=List.mem_iff_getElem?.1 hm
  have hlt:=(List.getElem?_eq_some_iff.1 hi).1
  have e:o.getD i 0=x:=by rw [List.getD_eq_getElem?_getD,hi];rfl
  have:=(h i hlt).1
  rw [e] at this
  rw [show ((x.toNat:Nat):Int)=x by omega];exact hm
end Go.Proofs.YtggegpiffjbngaaGreat
namespace Go.Kx
open Go Go.RowKit
section
variable {n:Nw}
theorem Nw.offM_fl (ok:n.Ok) (θ f:Nat->Rat) (hf:∀ k,k<n.M->f k=n.fl θ k) (b:Nat):n.offM f b=n.lap θ b:=by
 unfold Nw.offM Nw.lap Nw.off
 refine A4 fun k hk=>?_
 dsimp only
 by_cases hg:n.g k=0
 ·rw [if_pos hg,Nw.fl_out hg]
 ·rw [if_neg hg,hf k hk]
end
end Go.Kx
namespace Go.Proofs.YtggegpiffjbngaaGreat
open Go Go.Kx Go.RowKit
end Go.Proofs.YtggegpiffjbngaaGreat
namespace Go.Kx
open Go Go.RowKit
theorem rsz_z {n:Int} (h:n.natAbs<=1208925819614629174706176):Rsz ((n:Int):Rat) 3:=Rsz.int _ (by
 have:(4294967296:Nat) ^ 3=79228162514264337593543950336:=by decide
 omega) (by decide)
end Go.Kx
namespace Go.Proofs.YtggegpiffjbngaaGreat
open Go Go.Kx Go.RowKit
end Go.Proofs.YtggegpiffjbngaaGreat
namespace Go.Kx
open Go Go.RowKit
end Go.Kx
namespace Go.Proofs.YtggegpiffjbngaaGreat
open Go Go.Kx Go.RowKit
end Go.Proofs.YtggegpiffjbngaaGreat
namespace Go.Kx
open Go Go.RowKit
def bl (B:Nat) (s:Nat->Bool):List Bool:=(List.range B).map s
end Go.Kx
namespace Go.Proofs.YtggegpiffjbngaaGreat
open Go Go.Kx Go.RowKit
end Go.Proofs.YtggegpiffjbngaaGreat
namespace Go.Kx
open Go Go.RowKit Go.Proofs.YtggegpiffjbngaaGreat
end Go.Kx
namespace Go.Proofs.YtggegpiffjbngaaGreat
open Go Go.Kx Go.RowKit
theorem inv_q {b:QV} (h:pn b≠0):qval ⟨zc (pd b),zc (pn b)⟩=(qval b)⁻¹:=by
 have hp:=J6 b
 have h1:qval b=Rat.divInt (pn b) (pd b):=rfl
 rw [h1,Rat.inv_divInt]
 generalize pn b=n at h
 generalize pd b=d at hp
 unfold qval pn pd
 simp only [A9]
 rw [if_neg h]
 split
 ·rw [Rat.divInt_neg',Int.neg_neg]
 ·rfl
theorem At0:Ent Tryz.prog 96:=A0 Tryz.func96 (by kernel_rfl) rfl
theorem Ap0 {S:Nat->Prop} {w:World} {va vb:Value} {a b:QV} {L:Nat} (up:Up S w) (ha:eQ.R S w va a) (hb:eQ.R S w vb b) (hla:qok L a) (hlb:qok L b) (h1:1<=L) (hL:L<=400000000) (h0:qval b≠0) :
  CR Tryz.prog 96 #[va,vb] w (Two (eQ.at S (qc (qval a*(qval b)⁻¹))) (Is (.int .i64 0))):=by
 have hva:=shpA O ha
 have hvb:=shpA O hb
 have hL9:L<=1000000000:=by omega
 have hbn:pn b≠0:=by
  intro h
  apply h0
  unfold qval
  rw [h,Rat.zero_divInt]
 obtain ⟨db1,db2⟩:=Z1 hb
 have lnb:=AP7 db1 hlb
 have ldb:=AV8 db2 hlb h1
 have hri:Rsz (qval b)⁻¹ L:=(Ao6 db1 db2 hlb h1).inv h1
 refine enter Tryz.func96 O Tryz.ntmps96 O ?_
 refine .sr (.box O O fun w1 b2 n1=>.box O O fun w2 b3 n2=>.alloc O C7 fun w3 b4 n3=>.an O O ?_)
 obtain ⟨e1,k2,hb2,hs1⟩:=n1
 obtain ⟨e2,k3,hb3,hs2⟩:=n2
 obtain ⟨e3,k4,hb4,hs3⟩:=n3
 have x3:=(e1.trans e2).trans e3
 have k2:=(k2.ext e2).ext e3
 have k3:=k3.ext e3
 have hS4:¬ Sx S w.heap.size w3.heap.size b4:=Sx.no (by omega) (by omega)
 have up3:Up (Sx S w.heap.size w3.heap.size) w3:=Sx.up up (Nat.le_refl _) x3.size
 have ha3:=(ha.par w3.heap.size).ext x3
 have hb3':=(hb.par w3.heap.size).ext x3
 have hout:∀ {W:World} {v:Value} {z:QV},eQ.R (Sx S w.heap.size w3.heap.size) W v z->eQ.R S W v z:=fun h=>h.out
 have hw4:w.heap.size<=b4:=by omega
 generalize hT:Sx S w.heap.size w3.heap.size=T at *
 refine .seq (.sr (.ldA ty_Q O O k3 (eQ.csz hb) ?_))
 rw [<-hvb]
 refine .call _ O Am3 O (Aj9 up3 hb3' hlb hL9) fun v0 w0 e0 h00=>?_
 subst h00
 refine .eqlF O O O (fun h=>hbn (Int.sign_eq_zero_iff_zero.1 h)) (.nil (.condF O (.skip (.seq ?_))))
 have hq:qok L ⟨zc (pd b),zc (pn b)⟩:=⟨M6 ldb,M6 lnb⟩
 have up4:=up3.ext e0.size
 refine .par follows 8 [.inl va,.inl vb,.inr (eZ.at T (zc (pd b))),.inl vb,.inr (eZ.at T (zc (pn b))),.inr (eQ.at T ⟨zc (pd b),zc (pn b)⟩),.inr (eQ.at T (qc (qval b)⁻¹)),.inr (eQ.at T (qc (qval a*(qval b)⁻¹)))] [[],[],[(11,1)],[],[(13,3)],[(12,2),(14,4)],[(15,5)],[(10,0),(16,6)]] (by kernel_rfl) ⟨
  fun w e=>((B5 ty_Q O ((k2.ext e0).ext e) (eQ.csz ha)).eq hva.symm).ob,
  fun w e=>((B5 ty_Q O ((k3.ext e0).ext e) (eQ.csz hb)).eq hvb.symm).ob,
  fun w e=>(A1 _ I0 O (H8 (up4.ext e.size) ((hb3'.ext e0).ext e) hlb hL9)).ob (A3 _ _ _),
  fun w e=>((B5 ty_Q O ((k3.ext e0).ext e) (eQ.csz hb)).eq hvb.symm).ob,
  fun w e=>(A1 _ J3 O (J2 (up4.ext e.size) ((hb3'.ext e0).ext e) hlb hL9)).ob (A3 _ _ _),
  fun w e x hx y hy=>by
   obtain ⟨s,rfl,hs⟩:=hx
   obtain ⟨t,rfl,ht⟩:=hy
   exact K4 (Ah0 [(0,.agg #[.bool (zc (pd b)).neg,s]),(1,.agg #[.bool (zc (pn b)).neg,t])] O AN7) ⟨s,t,rfl,hs,ht⟩ (A3 _ _ _),
  fun w e x hx=>by
   have:=AK3 (up4.ext e.size) hx hq h1 hL9
   rw [inv_q hbn] at this
   exact (A1 _ AL1 O this).ob (A3 _ _ _),
  fun w e x hx=>by
   have:=Ao9 (up4.ext e.size) ((ha3.ext e0).ext e) hx hla hri.toOk h1 hL
   rw [D9] at this
   exact (A1 _ As9 O this).ob (A3 _ _ _),trivial⟩ ?_
 intro w5 e5 y2 _ y4 _ y5 _ y6 _ y7 h7
 refine .storeA (E:=eQ) ty_Q O O ((k4.ext e0).ext e5) O O h7 hS4 fun w6 k6 u6 h6=>.an O O (.ret ?_)
 exact .plain [_,_] Tryz.results96 ⟨⟨_,rfl,E1 (E:=eQ) ty_Q O O k6 h6⟩,rfl,trivial⟩ ⟨u6.below ((x3.trans e0).trans e5) hw4,_,_,rfl,hout h6,rfl⟩
def uniR (k:Int):Nat->Rat:=fun i=>if (i:Int)=k then 1 else 0
theorem Am1:Ent Tryz.prog 90:=A0 Tryz.func90 (by kernel_rfl) rfl
theorem Aj7 {S:Nat->Prop} {w:World} {n:Nat} {k:Int} (up:Up S w) (hn:n<=65536):CR Tryz.prog 90 #[.int .i64 (n:Nat),.int .i64 k] w (fun v W=>OwnL eQ 54 w.heap.size S W v (tab n (uniR k))):=by
 refine enter Tryz.func90 O Tryz.ntmps90 O ?_
 refine .sr (.an O O (.sr (.an O O (.seq (.sr (.an O O ?_))))))
 generalize hf:(fun i=>qc (uniR k i))=f
 refine .block (.loop (α:=Nat×Value) (fun x=>[(0,.int .i64 (n:Nat)),(1,.int .i64 k),(5,x.2),(6,.int .i64 (x.1:Nat))]) (fun x W=>Below w.heap.size w W/\x.1<=n/\OwnL eQ 54 w.heap.size S W x.2 ((List.range x.1).map f)) (fun x=>n-x.1) (0,.slice none 0 0) ?_ ?_ ?_)
 ·exact lkA rfl
 ·exact ⟨Below.refl _ _,Nat.zero_le _,OwnL.nil⟩
 rintro ⟨i,u⟩ W ⟨hB,hi,ho⟩
 replace hB:Below w.heap.size w W:=hB
 replace hi:i<=n:=hi
 replace ho:OwnL eQ 54 w.heap.size S W u ((List.range i).map f):=ho
 have hsz:=hB.size
 refine .seq (.sr (.mv O O (.mv O O ?_)))
 by_cases hlt:i<n
 rotate_left
 ·refine .lssF O O O (by omega) (.mv O O (.gs O O O O O (.gs O O O O O (.pick O O O (.nil (.condF O (.exit (.sr (.mv O O (.an O O (.ret ?_)))))))))))
  have:i=n:=by omega
  subst this
  refine .plain [_] Tryz.results90 ⟨rfl,trivial⟩ ⟨hB,?_⟩
  unfold tab
  rw [hf]
  exact ho
 obtain ⟨es,ho1,ho2⟩:=id ho
 refine .lssT O O O (by omega) (.mv O O (.gr O O O O (.mv O O (.gr O O O O (.lssT O O O (by omega) (.pick O O O (.nil (.condT O (.skip (.seq (.block (.sr (.bld [] O O AE4 (.alloc O C7 fun W1 b7 n1=>?_))))))))))))))
 obtain ⟨e1,k7,hb7,hs1⟩:=n1
 have hub:u.ownBlock≠some b7:=fun h=>by have:=(ho1.lt b7 h).2;omega
 refine .storeA (E:=eQ) (S:=fun k'=>(S k'/\u.ownBlock≠some k')/\k'≠b7) (z:=q0) ty_Q O O k7 O O ⟨_,_,rfl,RL.nil,RL.nil⟩ (fun h=>h.2 O) fun W2 k7 u2 h7=>.nil ?_
 have x2:Ext W W2:=u2.below e1 (by omega)
 have hs2:=u2.size
 refine .mid (α:=Value) (fun _=>[(0,.int .i64 (n:Nat)),(1,.int .i64 k),(5,u),(6,.int .i64 (i:Nat)),(7,.pointer (some ⟨b7,0,none⟩))]) (fun v W3=>Ext W W3/\Blk W3 b7 54 v.cells/\eQ.R (fun k'=>(S k'/\u.ownBlock≠some k')/\k'≠b7) W3 v (f i)) ?_ ?_
 ·refine .sr (.mv O O (.mv O O ?_))
  by_cases hk:(i:Int)=k
  ·refine .eqlT O O O hk (.nil (.condT O (.region ?_)))
   refine .call _ O AH7 O (AG3 (S:=fun k'=>(S k'/\u.ownBlock≠some k')/\k'≠b7) (fun k' hk'=>⟨⟨up k' (by omega),fun h=>by have:=(ho1.lt k' h).2;omega⟩,by omega⟩) (by decide) (by decide)) fun v3 W3 e3 h3=>?_
   refine .storeA (E:=eQ) ty_Q O O (k7.ext e3) O O h3 (fun h=>h.2 O) fun W4 k7 u4 h4=>.nil ?_
   refine ⟨rfl,v3,lkA rfl,u4.below (x2.trans e3) (by omega),k7,?_⟩
   rw [<-hf]
   show eQ.R _ _ _ (qc (uniR k i))
   unfold uniR
   rw [if_pos hk]
   exact h4
  ·refine .eqlF O O O hk (.nil (.condF O (.skip ?_)))
   refine ⟨rfl,_,lkA rfl,x2,k7,?_⟩
   rw [<-hf]
   show eQ.R _ _ _ (qc (uniR k i))
   unfold uniR
   rw [if_neg hk,R8]
   exact h7
 rintro v W3 ⟨x3,k7,h7⟩
 have hv:=shpA O h7
 have hr':=h7
 refine .region (.mv O O (.ldA ty_Q O O k7 (eQ.csz h7) ?_))
 rw [<-hv]
 obtain ⟨s,t,rfl,_,_⟩:=hr'
 refine .bsl _ O O AN4 fun W4 b4 n4=>?_
 obtain ⟨e4,k4,hb4,hs4⟩:=n4
 have e14:=x3.trans e4
 have hB4:Below w.heap.size w W4:=hB.trans (e14.mono hsz)
 refine .gv O O (AA5 (E:=eQ) (base:=w.heap.size) (n:=f i) (by decide) un_V I9 O O O (ho.ext e14) k4 (eQ.mono (fun k' _ h=>h.1) (h7.ext e4)) (by simp;omega) (by decide) hB4.size) ?_
 rintro v5 W5 ⟨ho5,hg5⟩
 refine .an O O (.region (.mv O O (.add O O O (.an O O ?_))))
 rw [wI (by omega)]
 refine ⟨rfl,(i+1,v5),lkA rfl,⟨(ho.ext e14).below hg5 hB4 hB4.size,hlt,?_⟩,by show n-(i+1)<n-i;omega⟩
 show OwnL eQ 54 w.heap.size S W5 v5 ((List.range (i+1)).map f)
 rw [List.range_succ,List.map_append]
 exact ho5
theorem AO0:Ent Tryz.prog 95:=A0 Tryz.func95 (by kernel_rfl) rfl
theorem AM5 {S:Nat->Prop} {w:World} {vo:Value} {o:List Int} {k:Int} (ho:eI.R S w vo o):CR Tryz.prog 95 #[vo,.int .i64 k] w (Is (.bool (!decide (k∈o)))):=by
 refine enter Tryz.func95 O Tryz.ntmps95 O (.beg (.go O ?_))
 refine .call _ O As7 O (Ao7 ho) fun v w1 e1 h1=>?_
 subst h1
 cases decide (k∈o)<;>exact .goE rfl (.plain [_] Tryz.results95 ⟨rfl,trivial⟩ ⟨e1,rfl⟩)
theorem Ae4:Ent Tryz.prog 36:=A0 Tryz.func36 (by kernel_rfl) rfl
set_option maxRecDepth 8000 in
theorem Ab5 {S:Nat->Prop} {w:World} {vn vo va:Value} {n:NtV} {o:List Int} {a:List QV} {L:Nat} (up:Up S w) (hn:eN.R S w vn n) (ho:eI.R S w vo o) (ha:eV.R S w va a) (hka:vk L a) (hL1:1<=L) (hL:L<=100000000) :
  CR Tryz.prog 36 #[vn,vo,va] w (Two (eV.at S (if sfE n o a.length=0 then tab n.ls.length ((nwOf n o).fl (rv a)) else [])) (Is (.int .i64 (sfE n o a.length)))):=by
 obtain ⟨s,rfl,hs,hb⟩:=hn
 have hn:eN.R S w (.agg #[.int .i64 n.b,s]) n:=⟨s,rfl,hs,hb⟩
 refine enter Tryz.func36 O Tryz.ntmps36 O (.beg (.go O (.box O O fun w1 b3 n1=>.go O ?_)))
 obtain ⟨e1,k3,hb3,hs1⟩:=n1
 replace k3:Blk w1 b3 24 #[.int .i64 n.b,s]:=k3
 refine .ldA ty_N O O k3 O (.go O ?_)
 refine .call _ O AE7 O (AD2 (hn.ext e1) (ho.ext e1)) fun v3 w3 e3 h3=>?_
 subst h3
 have x3:=e1.trans e3
 have k3:=k3.ext e3
 refine .go O ?_
 by_cases hO:outE n o=0
 rotate_left
 ·have hsf:sfE n o a.length=outE n o:=by unfold sfE;rw [if_pos hO]
  refine .neqT O O O hO (.goE O (.plain [_,_] Tryz.results36 ⟨rfl,rfl,trivial⟩ ⟨x3,_,_,rfl,?_,by rw [hsf]⟩))
  rw [if_neg (by rw [hsf];exact hO)]
  exact RL.nil
 have ok:=T8 hO
 have hnb:=ok.b
 have hM10:n.ls.length<=10:=ok.m
 refine .neqF O O O hO (.go O (.lenR un_V O O (ER.ext eV ha x3) (.go O (.fa G0 O O (.go O (.ld A5 O O k3 O (.go O ?_)))))))
 by_cases hle:(a.length:Int)<=n.b
 rotate_left
 ·have hsf:sfE n o a.length=5:=by unfold sfE;rw [if_neg (by simpa using hO),if_neg hle]
  refine .gtrT O O O (by omega) (.goE O (.plain [_,_] Tryz.results36 ⟨rfl,rfl,trivial⟩ ⟨x3,_,_,rfl,?_,by rw [hsf]⟩))
  rw [if_neg (by rw [hsf];decide)]
  exact RL.nil
 have hsf:sfE n o a.length=0:=by unfold sfE;rw [if_neg (by simpa using hO),if_pos hle]
 rw [if_pos hsf,hsf]
 have z3:=x3.size
 generalize hG:(fun k=>qc ((nwOf n o).fl (rv a) k))=G
 have htab:tab n.ls.length ((nwOf n o).fl (rv a))=(List.range n.ls.length).map G:=by rw [<-hG];rfl
 rw [htab]
 refine .gtrF O O O (by omega) (.goC O ?_)
 refine .lp (α:=Nat×Value) [1,2,3] O (fun y=>[(9,y.2),(10,.int .i64 (y.1:Nat))]) (fun y W=>Ext w3 W/\y.1<=n.ls.length/\OwnL eQ 54 w3.heap.size S W y.2 ((List.range y.1).map G)) (fun y=>n.ls.length-y.1) (0,.slice none 0 0) (lc2 O O) ⟨Ext.refl _,Nat.zero_le _,OwnL.nil⟩ ?_
 rintro ⟨i,u⟩ W ⟨hW,hi,hU⟩
 replace hW:Ext w3 W:=hW
 replace hi:i<=n.ls.length:=hi
 replace hU:OwnL eQ 54 w3.heap.size S W u ((List.range i).map G):=hU
 have k3:=k3.ext hW
 have zW:=hW.size
 have hsW:∀ {W':World},Ext W W'->eLs.R S W' s n.ls:=fun e=>ER.ext eLs hs (x3.trans (hW.trans e))
 refine .go O (.fa G5 O O (.go O (.ld J1 O O k3 O (.go O (.lenR I8 O O (hsW (Ext.refl _)) ?_)))))
 rcases Nat.lt_or_ge i n.ls.length with hlt | hge
 rotate_left
 ·have:i=n.ls.length:=by omega
  subst this
  exact .lssF O O O (by omega) (.goE O (.plain [_,_] Tryz.results36 ⟨rfl,rfl,trivial⟩ ⟨x3.trans hW,_,_,rfl,hU.toR (fun k hk=>up k (by omega)) (fun _ h=>h),rfl⟩))
 have hgl:n.ls[i]?=some (n.ls.getD i ln0):=A7 hlt
 have hFI:=ok.fI i hlt
 have hTI:=ok.tI i hlt
 have hxx:=ok.x i hlt
 have hGi:G i=qc ((nwOf n o).fl (rv a) i):=by rw [<-hG]
 have hgi:(nwOf n o).g i=if i∈oN o then 0 else ((n.ls.getD i ln0).x:Rat)⁻¹:=rfl
 generalize n.ls.getD i ln0=ln at hgl hFI hTI hxx hgi
 obtain ⟨es,ho1,ho2⟩:=id hU
 have hub:∀ k,u.ownBlock=some k->w3.heap.size<=k/\k<W.heap.size:=fun k h=>ho1.lt k h
 refine .lssT O O O (by omega) (.go O (.fa G5 O O (.go O (.ld J1 O O k3 O (.go O (.ixN (i:=i) I8 K8 O O (hsW (Ext.refl _)) O hgl fun p hp=>.ldE (E:=eL) K8 O O hp fun vl hvl=>.alloc O AY6 fun W1 c n1'=>?_))))))
 obtain ⟨d1,kc,hc,zs1⟩:=n1'
 refine .storeA (E:=eL) (S:=fun k=>k≠c) (z:=ln) K8 O O kc O O hvl (fun h=>h O) fun W2 kc u2 hl2=>?_
 obtain ⟨rfl,_⟩:=hl2
 replace kc:Blk W2 c 58 #[.int .i64 ln.f,.int .i64 ln.t,.int .i64 ln.x,.int .i64 ln.c]:=kc
 have D2:Ext W W2:=u2.below d1 (by omega)
 have z2:=D2.size
 have z12:=u2.size
 refine .go O (.bld _ O O AE4 (.alloc O C7 fun W3 b n3=>?_))
 obtain ⟨d3,kb,hb',zs3⟩:=n3
 generalize hT:(fun k=>(S k/\u.ownBlock≠some k)/\k≠b)=T
 have hTb:¬ T b:=by rw [<-hT];exact fun h=>h.2 rfl
 have hTS:∀ k,T k->S k/\u.ownBlock≠some k:=fun k h=>by rw [<-hT] at h;exact h.1
 have zW3:W3.heap.size=b+1:=by omega
 have upT':∀ {W':World},W3.heap.size<=W'.heap.size->Up T W':=fun h k hk=>by rw [<-hT];exact ⟨⟨up k (by omega),fun e=>by have:=(hub k e).2;omega⟩,by omega⟩
 have haT:∀ {W':World},Ext W W'->eV.R T W' va a:=fun e=>ER.ext eV (eV.mono (S':=T) (fun k _ h=>by rw [<-hT];exact ⟨⟨h.1,fun e=>by have:=(hub k e).1;have:=h.2;omega⟩,by have:=h.2;omega⟩) (ER.lt eV ha)) (x3.trans (hW.trans e))
 refine .storeA (E:=eQ) (S:=T) ty_Q O O kb O O zq_R hTb fun W4 kb u4 hq4=>?_
 have D4:Ext W W4:=u4.below (D2.trans d3) (by omega)
 have kc:=(kc.ext d3).upd u4 (by omega)
 have z4:W4.heap.size=W3.heap.size:=u4.size
 refine .go O ?_
 refine .call _ O AO0 O (AM5 (ER.ext eI ho (x3.trans (hW.trans D4)))) fun v5 W5 d5 h5=>?_
 subst h5
 have D5:=D4.trans d5
 have kb:=kb.ext d5
 have kc:=kc.ext d5
 have hq5:=ER.ext eQ hq4 d5
 have z5:=d5.size
 by_cases hm:i∈oN o
 ·rw [decide_eq_true ((AJ0 ok.outs i).2 hm)]
  rw [if_pos hm] at hgi
  have hG0:G i=q0:=by rw [hGi];unfold Nw.fl;rw [hgi,Rat.zero_mul,R8]
  rw [<-hG0] at hq5
  have hqv:=shpA (E:=eQ) O hq5
  refine .go O (.ldA ty_Q O O kb (eQ.csz hq5) ?_)
  rw [<-hqv]
  refine .bsl _ O O AN4 fun W8 b8 n8=>?_
  obtain ⟨d8,k8,hb8,hs8⟩:=n8
  have D8:=D5.trans d8
  have hW8:=hW.trans D8
  refine .gv O O (AA5 (E:=eQ) (base:=w3.heap.size) (n:=G i) (by decide) un_V I9 O O O (hU.ext D8) k8 (eQ.mono (fun k _ h=>hTS k h) (ER.ext eQ hq5 d8)) (by simp;omega) (by decide) hW8.size) ?_
  rintro v9 W9 ⟨hO9,g9⟩
  have hW9:Ext w3 W9:=OwnL.below (hU.ext D8) g9 hW8 hW8.size
  exact .go O (.inc O O O (by omega) (.goN O (.mk (i+1,v9) O (lc2 O O) ⟨⟨hW9,hlt,by show OwnL _ _ _ _ W9 v9 ((List.range (i+1)).map G);rw [List.range_succ,List.map_append];exact hO9⟩,by show n.ls.length-(i+1)<n.ls.length-i;omega⟩)))
 ·rw [decide_eq_false fun h=>hm ((AJ0 ok.outs i).1 h)]
  rw [if_neg hm] at hgi
  rw [hFI,hTI] at kc
  generalize hF:(nwOf n o).F i=f at kc
  generalize hTt:(nwOf n o).T i=t at kc
  have hx0:(((ln.x:Int):Rat))≠0:=by
   intro h
   have:=Rat.intCast_inj.1 (h.trans Rat.intCast_zero.symm)
   omega
  have hGv:G i=qc ((rv a f-rv a t)*((ln.x:Int):Rat)⁻¹):=by
   rw [hGi];unfold Nw.fl;rw [hgi,hF,hTt,Rat.mul_comm]
  have hsz:Rsz (rv a f-rv a t) (L+L+1):=by rw [Rat.sub_eq_add_neg];exact (hka.rsz hL1 f).add (Rsz.neg (hka.rsz hL1 t))
  have hxz:Rsz ((ln.x:Int):Rat) (L+L+1):=(rsz_z (by omega)).mono (by omega)
  refine .goC O ?_
  refine .parL follows 16 [15] [.inl _,.inl _,.inl (.int .i64 (f:Nat)),.inr (eQ.at T (a.getD f q0)),.inl _,.inl _,.inl (.int .i64 (t:Nat)),.inr (eQ.at T (a.getD t q0)),.inr (eQ.at T (qc (rv a f-rv a t))),.inl _,.inl (.int .i64 ln.x),.inr (eQ.at T (qc ((ln.x:Int):Rat))),.inr (Two (eQ.at T (G i)) (Is (.int .i64 0))),.inr (Two (eQ.at T (G i)) (Is (.int .i64 0))),.inr (eQ.at T (G i)),.inl (.int .i64 0)] [[],[],[(42,1)],[(41,0),(43,2)],[],[],[(46,5)],[(45,4),(47,6)],[(44,3),(48,7)],[],[(50,9)],[(51,10)],[(49,8),(52,11)],[(53,12)],[(40,13)],[(40,13)]] (by kernel_rfl) ⟨
   fun w e=>(v_mv O).ob,
   fun w e=>(v_fa N4 O).ob,
   fun w e=>(v_ld A5 O (kc.ext e) O).ob,
   fun w e=>(by have:=AD3 (i:=((f:Nat):Int)) (haT (D5.trans e));rw [AR5] at this;exact (A1 _ AE8 O this).ob (A3 _ _ _)),
   fun w e=>(v_mv O).ob,
   fun w e=>(v_fa N3 O).ob,
   fun w e=>(v_ld A5 O (kc.ext e) O).ob,
   fun w e=>(by have:=AD3 (i:=((t:Nat):Int)) (haT (D5.trans e));rw [AR5] at this;exact (A1 _ AE8 O this).ob (A3 _ _ _)),
   fun w e x3 hx3 x7 hx7=>(by have:=AV2 (L:=L) (upT' (by have:=e.size;omega)) hx3 hx7 (hka.get hL1 f).1 (hka.get hL1 t) hL1 (by omega);exact (A1 _ AW8 O this).ob (A3 _ _ _)),
   fun w e=>(v_fa AD9 O).ob,
   fun w e=>(v_ld Q6 O (kc.ext e) O).ob,
   fun w e=>(A1 _ AH7 O (AG3 (upT' (by have:=e.size;omega)) (by omega) (by omega))).ob (A3 _ _ _),
   fun w e x8 hx8 x11 hx11=>(by have:=Ap0 (L:=L+L+1) (upT' (by have:=e.size;omega)) hx8 hx11 hsz.toOk hxz.toOk (by omega) (by omega) (by rw [D9];exact hx0);rw [D9,D9,<-hGv] at this;exact (A1 _ At0 O this).ob (X2 (A3 _ _ _) (AK2 _))),
   fun w e x12 hx12=>K4 (v_mv O) hx12 (X2 (A3 _ _ _) (AK2 _)),
   fun w e x13 hx13=>by
   obtain ⟨p1,q1,rfl,hp1,hq1⟩:=hx13
   exact K4 (v_ex O O) hp1 (A3 _ _ _),
   fun w e x13 hx13=>by
   obtain ⟨p1,q1,rfl,hp1,hq1⟩:=hx13
   exact ((v_ex O O).eq hq1).ob,trivial⟩ ?_
  intro W6 d6 y3 hy3 y7 hy7 y8 hy8 y11 hy11 y12 hy12 y13 hy13 y14 hy14
  refine .storeA (E:=eQ) ty_Q O O (kb.ext d6) O (eQ.csz hq5) hy14 hTb fun W7 kb u7 hq5=>?_
  have D5:Ext W W7:=u7.below (D5.trans d6) (by omega)
  have hqv:=shpA (E:=eQ) O hq5
  have z5:=D5.size
  refine .go O (.ldA ty_Q O O kb (eQ.csz hq5) ?_)
  rw [<-hqv]
  have hq':=hq5
  obtain ⟨s1,t1,rfl,_,_⟩:=hq'
  refine .bsl _ O O AN4 fun W8 b8 n8=>?_
  obtain ⟨d8,k8,hb8,hs8⟩:=n8
  have D8:=D5.trans d8
  have hW8:=hW.trans D8
  refine .gv O O (AA5 (E:=eQ) (base:=w3.heap.size) (n:=G i) (by decide) un_V I9 O O O (hU.ext D8) k8 (eQ.mono (fun k _ h=>hTS k h) (ER.ext eQ hq5 d8)) (by simp;omega) (by decide) hW8.size) ?_
  rintro v9 W9 ⟨hO9,g9⟩
  have hW9:Ext w3 W9:=OwnL.below (hU.ext D8) g9 hW8 hW8.size
  exact .go O (.inc O O O (by omega) (.goN O (.mk (i+1,v9) O (lc2 O O) ⟨⟨hW9,hlt,by show OwnL _ _ _ _ W9 v9 ((List.range (i+1)).map G);rw [List.range_succ,List.map_append];exact hO9⟩,by show n.ls.length-(i+1)<n.ls.length-i;omega⟩)))
end Go.Proofs.YtggegpiffjbngaaGreat
namespace Go.Kx
open Go Go.RowKit
def Nw.trm (n:Nw) (f:Nat->Rat) (b k:Nat):Rat:=n.inc k b*(if n.g k=0 then 0 else f k)
theorem Nw.trm_out {n:Nw} {f:Nat->Rat} {b k:Nat} (h:n.g k=0):n.trm f b k=0:=by unfold Nw.trm;rw [if_pos h,Rat.mul_zero]
theorem Nw.trm_F {n:Nw} {f:Nat->Rat} {b k:Nat} (h:n.g k≠0) (hF:n.F k=b) (hT:n.T k≠b):n.trm f b k=f k:=by
 unfold Nw.trm Nw.inc dl
 rw [if_neg h,if_pos hF,if_neg hT]
 grind
theorem Nw.trm_T {n:Nw} {f:Nat->Rat} {b k:Nat} (h:n.g k≠0) (hF:n.F k≠b) (hT:n.T k=b):n.trm f b k = - f k:=by
 unfold Nw.trm Nw.inc dl
 rw [if_neg h,if_neg hF,if_pos hT]
 grind
theorem Nw.trm_no {n:Nw} {f:Nat->Rat} {b k:Nat} (hF:n.F k≠b) (hT:n.T k≠b):n.trm f b k=0:=by
 unfold Nw.trm Nw.inc dl
 rw [if_neg hF,if_neg hT]
 grind
end Go.Kx
namespace Go.Proofs.YtggegpiffjbngaaGreat
open Go Go.Kx Go.RowKit
theorem g_out {n:NtV} {o:List Int} {k:Nat} (h:k∈oN o):(nwOf n o).g k=0:=show (if k∈oN o then (0:Rat) else ((n.ls.getD k ln0).x:Rat)⁻¹)=0 by rw [if_pos h]
theorem g_in {n:NtV} {o:List Int} (ok:nwOk n o) {k:Nat} (hk:k<n.ls.length) (h:k∉oN o):(nwOf n o).g k≠0:=by
 have hx:=ok.x k hk
 show (if k∈oN o then (0:Rat) else ((n.ls.getD k ln0).x:Rat)⁻¹)≠0
 rw [if_neg h]
 intro h
 have h3:(((n.ls.getD k ln0).x:Int):Rat)≠0:=by
  intro h
  have:=Rat.intCast_inj.1 (h.trans Rat.intCast_zero.symm)
  omega
 have:=Rat.mul_inv_cancel _ h3
 rw [h,Rat.mul_zero] at this
 exact absurd this (by decide)
theorem trm_rsz {n:NtV} {o:List Int} (ok:nwOk n o) {f:Nat->Rat} {L:Nat} (hL:1<=L) (hf:∀ k,Rsz (f k) L) (b:Nat) {k:Nat} (hk:k<n.ls.length):Rsz ((nwOf n o).trm f b k) L:=by
 by_cases hg:(nwOf n o).g k=0
 ·rw [Nw.trm_out hg];exact Rsz.zero hL
 by_cases hF:(nwOf n o).F k=b
 ·rw [Nw.trm_F hg hF (by have:=ok.ne k hk;omega)];exact hf k
 by_cases hT:(nwOf n o).T k=b
 ·rw [Nw.trm_T hg hF hT];exact Rsz.neg (hf k)
 ·rw [Nw.trm_no hF hT];exact Rsz.zero hL
theorem AW6:Ent Tryz.prog 37:=A0 Tryz.func37 (by kernel_rfl) rfl
set_option maxRecDepth 8000 in
theorem AV0 {S:Nat->Prop} {w:World} {vn vo vf:Value} {n:NtV} {o:List Int} {f:List QV} {L:Nat} (up:Up S w) (hn:eN.R S w vn n) (ho:eI.R S w vo o) (hf:eV.R S w vf f) (hkf:vk L f) (hL1:1<=L) (hL:L<=10000000) :
  CR Tryz.prog 37 #[vn,vo,vf] w (Two (eV.at S (if noE n o f.length=0 then tab (nwOf n o).B ((nwOf n o).offM (rv f)) else [])) (Is (.int .i64 (noE n o f.length)))):=by
 obtain ⟨s,rfl,hs,hb⟩:=hn
 have hn:eN.R S w (.agg #[.int .i64 n.b,s]) n:=⟨s,rfl,hs,hb⟩
 obtain ⟨_,_,_,_,hfl⟩:=RL.len hf
 refine enter Tryz.func37 O Tryz.ntmps37 O (.beg (.go O (.box O O fun w1 b3 n1=>.go O ?_)))
 obtain ⟨e1,k3,hb3,hs1⟩:=n1
 replace k3:Blk w1 b3 24 #[.int .i64 n.b,s]:=k3
 refine .ldA ty_N O O k3 O (.go O ?_)
 refine .call _ O AE7 O (AD2 (hn.ext e1) (ho.ext e1)) fun v3 w3 e3 h3=>?_
 subst h3
 have x3:=e1.trans e3
 have k3:=k3.ext e3
 refine .go O ?_
 by_cases hO:outE n o=0
 rotate_left
 ·have hno:noE n o f.length=outE n o:=by unfold noE;rw [if_pos hO]
  refine .neqT O O O hO (.goE O (.plain [_,_] Tryz.results37 ⟨rfl,rfl,trivial⟩ ⟨x3,_,_,rfl,?_,by rw [hno]⟩))
  rw [if_neg (by rw [hno];exact hO)]
  exact RL.nil
 have ok:=T8 hO
 have hnb:=ok.b
 have hB6:=ok.b6
 have hM10:n.ls.length<=10:=ok.m
 have hs3:eLs.R S w3 s n.ls:=ER.ext eLs hs x3
 refine .neqF O O O hO (.go O (.lenR un_V O O (ER.ext eV hf x3) (.go O (.fa G5 O O (.go O (.ld J1 O O k3 O (.go O (.lenR I8 O O hs3 ?_))))))))
 by_cases hle:f.length<=n.ls.length
 rotate_left
 ·have hno:noE n o f.length=5:=by unfold noE;rw [if_neg (by simpa using hO),if_neg hle]
  refine .gtrT O O O (by omega) (.goE O (.plain [_,_] Tryz.results37 ⟨rfl,rfl,trivial⟩ ⟨x3,_,_,rfl,?_,by rw [hno]⟩))
  rw [if_neg (by rw [hno];decide)]
  exact RL.nil
 have hno:noE n o f.length=0:=by unfold noE;rw [if_neg (by simpa using hO),if_pos hle]
 rw [if_pos hno,hno]
 rw [hnb] at k3
 have z3:=x3.size
 generalize hG:(fun b=>qc ((nwOf n o).offM (rv f) b))=G
 have htab:tab (nwOf n o).B ((nwOf n o).offM (rv f))=(List.range (nwOf n o).B).map G:=by rw [<-hG];rfl
 rw [htab]
 have hsum:∀ b i,i<=n.ls.length->Rsz (sumN i ((nwOf n o).trm (rv f) b)) (1+10*(L+1)):=fun b i hi=>(Ab2 fun k hk=>trm_rsz ok hL1 (fun k=>hkf.rsz hL1 k) b (by omega)).mono (by
  have:=Nat.mul_le_mul_right (L+1) (Nat.le_trans hi hM10)
  omega)
 refine .gtrF O O O (by omega) (.goC O ?_)
 refine .lp (α:=Nat×Value) [1,2,3] O (fun y=>[(9,y.2),(10,.int .i64 (y.1:Nat))]) (fun y W=>Ext w3 W/\y.1<=(nwOf n o).B/\OwnL eQ 54 w3.heap.size S W y.2 ((List.range y.1).map G)) (fun y=>(nwOf n o).B-y.1) (0,.slice none 0 0) (lc2 O O) ⟨Ext.refl _,Nat.zero_le _,OwnL.nil⟩ ?_
 rintro ⟨b,u⟩ W ⟨hW,hi,hU⟩
 replace hW:Ext w3 W:=hW
 replace hi:b<=(nwOf n o).B:=hi
 replace hU:OwnL eQ 54 w3.heap.size S W u ((List.range b).map G):=hU
 have k3:=k3.ext hW
 have zW:=hW.size
 refine .go O (.fa G0 O O (.go O (.ld A5 O O k3 O (.go O ?_))))
 rcases Nat.lt_or_ge b (nwOf n o).B with hlt | hge
 rotate_left
 ·have:b=(nwOf n o).B:=by omega
  subst this
  exact .lssF O O O (by omega) (.goE O (.plain [_,_] Tryz.results37 ⟨rfl,rfl,trivial⟩ ⟨x3.trans hW,_,_,rfl,hU.toR (fun k hk=>up k (by omega)) (fun _ h=>h),rfl⟩))
 obtain ⟨es,ho1,ho2⟩:=id hU
 have hub:∀ k,u.ownBlock=some k->w3.heap.size<=k/\k<W.heap.size:=fun k h=>ho1.lt k h
 refine .lssT O O O (by omega) (.go O (.bld _ O O AE4 (.alloc O C7 fun W3 c n3=>?_)))
 obtain ⟨d3,kc,hc,zs3⟩:=n3
 generalize hT:(fun k=>(S k/\u.ownBlock≠some k)/\k≠c)=T
 have hTc:¬ T c:=by rw [<-hT];exact fun h=>h.2 rfl
 have hTS:∀ k,T k->S k/\u.ownBlock≠some k:=fun k h=>by rw [<-hT] at h;exact h.1
 have upT':∀ {W':World},W3.heap.size<=W'.heap.size->Up T W':=fun h k hk=>by rw [<-hT];exact ⟨⟨up k (by omega),fun e=>by have:=(hub k e).2;omega⟩,by omega⟩
 have hfT:∀ {W':World},Ext W W'->eV.R T W' vf f:=fun e=>ER.ext eV (eV.mono (S':=T) (fun k _ h=>by rw [<-hT];exact ⟨⟨h.1,fun e=>by have:=(hub k e).1;have:=h.2;omega⟩,by have:=h.2;omega⟩) (ER.lt eV hf)) (x3.trans (hW.trans e))
 have hsW:∀ {W':World},Ext W W'->eLs.R S W' s n.ls:=fun e=>ER.ext eLs hs (x3.trans (hW.trans e))
 have hoW:∀ {W':World},Ext W W'->eI.R S W' vo o:=fun e=>ER.ext eI ho (x3.trans (hW.trans e))
 have k3W:∀ {W':World},Ext W W'->Blk W' b3 24 #[.int .i64 ((nwOf n o).B:Nat),s]:=fun e=>k3.ext e
 refine .storeA (E:=eQ) (S:=T) ty_Q O O kc O O zq_R hTc fun W4 kc u4 hq4=>.goC O ?_
 have D4:Ext W W4:=u4.below d3 (by omega)
 have z4:W4.heap.size=W3.heap.size:=u4.size
 generalize hv:(fun i=>sumN i ((nwOf n o).trm (rv f) b))=v
 have hv0:v 0=0:=by rw [<-hv];rfl
 have hvs:∀ i,v (i+1)=v i+(nwOf n o).trm (rv f) b i:=fun i=>by rw [<-hv];rfl
 have hvz:∀ i,i<=n.ls.length->Rsz (v i) (1+10*(L+1)):=fun i hi=>by rw [<-hv];exact hsum b i hi
 have hGb:G b=qc (v n.ls.length):=by rw [<-hG,<-hv];rfl
 rw [<-R8,<-hv0] at hq4
 refine .lp (α:=Nat×Value) [1,2,3,9,10,11] O (fun y=>[(12,.int .i64 (y.1:Nat))]) (fun y W'=>Ext W W'/\W3.heap.size<=W'.heap.size/\y.1<=n.ls.length/\Blk W' c 54 y.2.cells/\eQ.R T W' y.2 (qc (v y.1))) (fun y=>n.ls.length-y.1) (0,zq) (lc1 O) ⟨D4,by omega,Nat.zero_le _,kc,hq4⟩ ?_
 clear kc hq4
 rintro ⟨i,y⟩ W5 ⟨hW5,zW5,hi,kc,hq⟩
 replace hW5:Ext W W5:=hW5
 replace zW5:W3.heap.size<=W5.heap.size:=zW5
 replace hi:i<=n.ls.length:=hi
 replace kc:Blk W5 c 54 y.cells:=kc
 replace hq:eQ.R T W5 y (qc (v i)):=hq
 refine .go O (.fa G5 O O (.go O (.ld J1 O O (k3W hW5) O (.go O (.lenR I8 O O (hsW hW5) ?_)))))
 rcases Nat.lt_or_ge i n.ls.length with hil | hge
 rotate_left
 ·have:i=n.ls.length:=by omega
  subst this
  rw [<-hGb] at hq
  have hqv:=shpA (E:=eQ) O hq
  refine .lssF O O O (by omega) (.go O (.ldA ty_Q O O kc (eQ.csz hq) ?_))
  rw [<-hqv]
  have hq':=hq
  obtain ⟨s1,t1,rfl,_,_⟩:=hq'
  refine .bsl _ O O AN4 fun W8 b8 n8=>?_
  obtain ⟨d8,k8,hb8,hs8⟩:=n8
  have D8:=hW5.trans d8
  have hW8:=hW.trans D8
  refine .gv O O (AA5 (E:=eQ) (base:=w3.heap.size) (n:=G b) (by decide) un_V I9 O O O (hU.ext D8) k8 (eQ.mono (fun k _ h=>hTS k h) (ER.ext eQ hq d8)) (by simp;omega) (by decide) hW8.size) ?_
  rintro v9 W9 ⟨hO9,g9⟩
  have hW9:Ext w3 W9:=OwnL.below (hU.ext D8) g9 hW8 hW8.size
  exact .go O (.inc O O O (by omega) (.goN O (.mk (b+1,v9) O (lc2 O O) ⟨⟨hW9,hlt,by show OwnL _ _ _ _ W9 v9 ((List.range (b+1)).map G);rw [List.range_succ,List.map_append];exact hO9⟩,by show (nwOf n o).B-(b+1)<(nwOf n o).B-b;omega⟩)))
 have hgl:n.ls[i]?=some (n.ls.getD i ln0):=A7 hil
 have hFI:=ok.fI i hil
 have hTI:=ok.tI i hil
 have hne:=ok.ne i hil
 generalize n.ls.getD i ln0=ln at hgl hFI hTI
 have hvi:=hvz i hi
 have hai:=hkf.get hL1 i
 have hmid:Rsz (v i+rv f i) (1+10*(L+1)+L+1):=hvi.add (hkf.rsz hL1 i)
 generalize hmv:v i+(if i∉oN o/\(nwOf n o).F i=b then rv f i else 0)=m
 have hmz:Rsz m (1+10*(L+1)+L+1):=by
  rw [<-hmv]
  split
  ·exact hmid
  ·rw [Rat.add_zero];exact hvi.mono (by omega)
 have hfin:v (i+1)=m-(if i∉oN o/\(nwOf n o).T i=b then rv f i else 0):=by
  rw [hvs,<-hmv]
  by_cases hm:i∈oN o
  ·rw [Nw.trm_out (g_out hm),if_neg (fun h=>h.1 hm),if_neg (fun h=>h.1 hm)];grind
  have hg:=g_in ok hil hm
  by_cases hF:(nwOf n o).F i=b
  ·rw [Nw.trm_F hg hF (by omega),if_pos ⟨hm,hF⟩,if_neg (fun h=>hne (by omega))];grind
  by_cases hTt:(nwOf n o).T i=b
  ·rw [Nw.trm_T hg hF hTt,if_neg (fun h=>hF h.2),if_pos ⟨hm,hTt⟩];grind
  ·rw [Nw.trm_no hF hTt,if_neg (fun h=>hF h.2),if_neg (fun h=>hTt h.2)];grind
 refine .lssT O O O (by omega) (.goZ 14 O (.cut (α:=Value) 1 [1,2,3,9,10,11] O (fun _=>[(12,.int .i64 (i:Nat))]) (fun y W'=>Ext W W'/\W3.heap.size<=W'.heap.size/\Blk W' c 54 y.cells/\eQ.R T W' y (qc m)) O ?_ ?_))
 rotate_left
 ·refine .go O ?_
  refine .call _ O AO0 O (AM5 (hoW hW5)) fun v6 W6 d6 h6=>?_
  subst h6
  have hW6:=hW5.trans d6
  have z6:=d6.size
  have kc:=kc.ext d6
  have hq:=ER.ext eQ hq d6
  by_cases hm:i∈oN o
  ·rw [decide_eq_true ((AJ0 ok.outs i).2 hm)]
   rw [if_neg (fun h=>h.1 hm),Rat.add_zero] at hmv
   rw [hmv] at hq
   exact .goN O (.mk y O (lc1 O) ⟨hW6,by omega,kc,hq⟩)
  rw [decide_eq_false fun h=>hm ((AJ0 ok.outs i).1 h)]
  refine .go O (.fa G5 O O (.go O (.ld J1 O O (k3W hW6) O (.go O (.ixN (i:=i) I8 K8 O O (hsW hW6) O hgl fun p hp=>.go O (.faP N4 O O (.go O (.ldE (E:=eInt .i64) A5 O O (hp.ln 0 (by decide)) fun e he=>?_))))))))
  obtain ⟨rfl,_⟩:=he
  rw [show lnI ln 0=ln.f from rfl,hFI]
  refine .go O ?_
  by_cases hF:(nwOf n o).F i=b
  rotate_left
  ·rw [if_neg (fun h=>hF h.2),Rat.add_zero] at hmv
   rw [hmv] at hq
   exact .eqlF O O O (by omega) (.goN O (.mk y O (lc1 O) ⟨hW6,by omega,kc,hq⟩))
  rw [if_pos ⟨hm,hF⟩] at hmv
  have hqv:=shpA (E:=eQ) O hq
  refine .eqlT O O O (by omega) (.goC O ?_)
  refine .par follows 4 [.inl y,.inl _,.inl _,.inr (eQ.at T (f.getD i q0))] [[],[],[],[(53,1),(54,2)]] (by kernel_rfl) ⟨
   fun w e=>((B5 ty_Q O (kc.ext e) (eQ.csz hq)).eq hqv.symm).ob,
   fun w e=>(v_mv O).ob,
   fun w e=>(v_mv O).ob,
   fun w e=>(by have:=AD3 (i:=((i:Nat):Int)) (hfT (hW6.trans e));rw [AR5] at this;exact (A1 _ AE8 O this).ob (A3 _ _ _)),trivial⟩ ?_
  intro W7 d7 y3 hy3
  have hop:=(by have:=AV3 (L:=1+10*(L+1)) (upT' (by have:=d7.size;omega):Up T W7) (ER.ext eQ hq d7) hy3 hvi.toOk (hai.1.mono (by omega)) (by omega) (by omega);rw [D9,show v i+qval (f.getD i q0)=m from hmv] at this;exact this)
  refine .call _ O AW9 O hop fun y8 W8 d8 hq8=>?_
  have d78:=d7.trans d8
  have z78:=d78.size
  refine .storeA (E:=eQ) ty_Q O O (kc.ext d78) O (eQ.csz hq) hq8 hTc fun W9 k9 u9 hq9=>?_
  have z9:=u9.size
  have hW9:Ext W W9:=u9.below (hW6.trans d78) (by omega)
  exact .goN O (.mk y8 O (lc1 O) ⟨hW9,by omega,k9,hq9⟩)
 clear hq kc zW5 hW5
 rintro y W5 ⟨hW5,zW5,kc,hq⟩
 refine .go O ?_
 refine .call _ O AO0 O (AM5 (hoW hW5)) fun v6 W6 d6 h6=>?_
 subst h6
 have hW6:=hW5.trans d6
 have z6:=d6.size
 have kc:=kc.ext d6
 have hq:=ER.ext eQ hq d6
 by_cases hm:i∈oN o
 ·rw [decide_eq_true ((AJ0 ok.outs i).2 hm)]
  rw [if_neg (fun h=>h.1 hm),Rat.sub_eq_add_neg,Rat.neg_zero,Rat.add_zero] at hfin
  rw [<-hfin] at hq
  exact .go O (.inc O O O (by omega) (.goN O (.mk (i+1,y) O (lc1 O) ⟨⟨hW6,by omega,hil,kc,hq⟩,by show n.ls.length-(i+1)<n.ls.length-i;omega⟩)))
 ·rw [decide_eq_false fun h=>hm ((AJ0 ok.outs i).1 h)]
  refine .go O (.fa G5 O O (.go O (.ld J1 O O (k3W hW6) O (.go O (.ixN (i:=i) I8 K8 O O (hsW hW6) O hgl fun p hp=>.go O (.faP N3 O O (.go O (.ldE (E:=eInt .i64) A5 O O (hp.ln 1 (by decide)) fun e he=>?_))))))))
  obtain ⟨rfl,_⟩:=he
  rw [show lnI ln 1=ln.t from rfl,hTI]
  refine .go O ?_
  by_cases hTt:(nwOf n o).T i=b
  rotate_left
  ·rw [if_neg (fun h=>hTt h.2),Rat.sub_eq_add_neg,Rat.neg_zero,Rat.add_zero] at hfin
   rw [<-hfin] at hq
   exact .eqlF O O O (by omega) (.go O (.inc O O O (by omega) (.goN O (.mk (i+1,y) O (lc1 O) ⟨⟨hW6,by omega,hil,kc,hq⟩,by show n.ls.length-(i+1)<n.ls.length-i;omega⟩))))
  rw [if_pos ⟨hm,hTt⟩] at hfin
  have hqv:=shpA (E:=eQ) O hq
  refine .eqlT O O O (by omega) (.goC O ?_)
  refine .par follows 4 [.inl y,.inl _,.inl _,.inr (eQ.at T (f.getD i q0))] [[],[],[],[(71,1),(72,2)]] (by kernel_rfl) ⟨
   fun w e=>((B5 ty_Q O (kc.ext e) (eQ.csz hq)).eq hqv.symm).ob,
   fun w e=>(v_mv O).ob,
   fun w e=>(v_mv O).ob,
   fun w e=>(by have:=AD3 (i:=((i:Nat):Int)) (hfT (hW6.trans e));rw [AR5] at this;exact (A1 _ AE8 O this).ob (A3 _ _ _)),trivial⟩ ?_
  intro W7 d7 y3 hy3
  have hop:=(by have:=AV2 (L:=1+10*(L+1)+L+1) (upT' (by have:=d7.size;omega):Up T W7) (ER.ext eQ hq d7) hy3 hmz.toOk (qk.mono hai (by omega)) (by omega) (by omega);rw [D9,show m-qval (f.getD i q0)=v (i+1) from hfin.symm] at this;exact this)
  refine .call _ O AW8 O hop fun y8 W8 d8 hq8=>?_
  have d78:=d7.trans d8
  have z78:=d78.size
  refine .storeA (E:=eQ) ty_Q O O (kc.ext d78) O (eQ.csz hq) hq8 hTc fun W9 k9 u9 hq9=>?_
  have z9:=u9.size
  have hW9:Ext W W9:=u9.below (hW6.trans d78) (by omega)
  exact .go O (.inc O O O (by omega) (.goN O (.mk (i+1,y8) O (lc1 O) ⟨⟨hW9,by omega,hil,k9,hq9⟩,by show n.ls.length-(i+1)<n.ls.length-i;omega⟩)))
end Go.Proofs.YtggegpiffjbngaaGreat
namespace Go.Kx
open Go Go.RowKit Go.Proofs.YtggegpiffjbngaaGreat
end Go.Kx
namespace Go.Proofs.YtggegpiffjbngaaGreat
open Go Go.Kx Go.RowKit
section
variable {S:Nat->Prop} {base g:Nat} {W W':World} {vs:List Value} {ls:List (List QV)}
theorem RwI.low (h:RwI S base g W vs ls) (hg:base<=g) {k:Nat} (hk:k<base) (hS:S k):offV S g vs k:=⟨hS,by omega,fun u hu e=>by have:=(h.own_lt hu e).1;omega⟩
theorem RwI.up (h:RwI S base g W vs ls) {V:World} (hw:W.heap.size<=V.heap.size) (hS:Up S V):Up (offV S g vs) V:=fun k hk=>⟨hS k hk,by have:=h.out.lt;omega,fun u hu e=>by have:=(h.own_lt hu e).2;omega⟩
theorem RwI.keep {α:Type} {E:ER α} {e:Value} {x:α} {W'':World} {i:Nat} {u v':Value} (h:RwI S base g W vs ls) (hi:vs[i]?=some u) (he:E.R (offV S g vs) W e x) (hg:W.grownBy W' u.ownBlock) (hob:v'.ownBlock=u.ownBlock\/v'.ownBlock=some W.heap.size) (hu:Upd W' W'' g):E.R (offV S g (vs.set i v')) W'' e x:=by
 have hum:u∈vs:=List.mem_iff_getElem?.2 ⟨i,hi⟩
 have h3:=ER.lt E he
 have h4:=E.keep (w':=W') (fun k c t f hS hk=>(hg.block k hS.2 (fun e'=>hS.1.2.2 u hum e'.symm)).trans hk) h3
 have h5:=E.keep (Kp.upd hu (fun hS=>hS.1.2.1 O)) h4
 refine E.mono (fun k _ hS=>⟨hS.1.1,hS.1.2.1,fun u2 hu2=>?_⟩) h5
 rcases List.mem_or_eq_of_mem_set hu2 with h6 | h6
 ·exact hS.1.2.2 u2 h6
 ·subst h6
  rcases hob with h7 | h7
  ·rw [h7];exact hS.1.2.2 u hum
  ·rw [h7];intro e';cases e';have:=hS.2;omega
end
@[reducible] def OneP (X:Nat->Prop) (q:QV):Value->World->Prop:=fun v W=>∃ b e,v=.slice (some ⟨b,0,none⟩) 1 1/\Blk W b 54 e.cells/\eQ.R X W e q
theorem BK3 {X:Nat->Prop} {w:World} {σ:Env} {d:Option Tmp} {ty:TypeId} {pos:String} {af:Array Edge} {gd:Option (Nat×Bool)} {x:Operand} {u:Value} {q:QV} (hu:eQ.R X w u q) (hx:ev σ x=some u:=by rfl) :
  Gv Tryz.prog ⟨d,.buildSlice 32 1 #[(0,x)],ty,pos,af,gd⟩ σ w fun v' w'=>Ext w w'/\Sp.ok (.inr (OneP X q)) v' w':=by
 have hu':=hu
 obtain ⟨s1,t1,rfl,_,_⟩:=hu'
 refine (AQ3 (ps:=[(0,x)]) [(0,.agg #[.bool q.num.neg,s1,.bool q.den.neg,t1])] (by simp [evp,hx]) AN4).mono fun v' w' ⟨b2,hv',n2⟩=>⟨n2.1,fun w'' e=>⟨b2,.agg #[.bool q.num.neg,s1,.bool q.den.neg,t1],hv',n2.2.1.ext e,ER.ext eQ hu (n2.1.trans e)⟩⟩
def _root_.Go.Kx.Nw.Lk (n:Nw) (b k:Nat):Rat:=n.offM (rv (tab n.M (n.fl (rv (tab n.B (uniR (k:Nat))))))) b
theorem rv_uni {B k b:Nat}:rv (tab B (uniR (k:Nat))) b=if b<B then (if b=k then 1 else 0) else 0:=by
 rw [O9]
 unfold uniR
 by_cases h:b=k
 ·subst h;simp
 ·have:¬ ((b:Int)=(k:Int)):=by omega
  simp [h,this]
theorem BH7 (B k:Nat):vk 1 (tab B (uniR (k:Nat))):=Z9 fun b _=>by
 unfold uniR
 split
 ·exact ⟨by decide,by decide⟩
 ·exact Rsz.zero (Nat.le_refl _)
def mixL {α:Type} (B b:Nat) (f g:Nat->α):List α:=(List.range B).map fun j=>if j<b then f j else g j
theorem BK6 {α:Type} (B b:Nat) (f g:Nat->α):(mixL B b f g).length=B:=by simp [mixL]
theorem BK7 {α:Type} {B b:Nat} {f g:Nat->α} (h:b<B):(mixL B b f g)[b]?=some (g b):=by
 unfold mixL
 rw [List.getElem?_map,List.getElem?_range h,Option.map_some,if_neg (Nat.lt_irrefl b)]
theorem BK5 {α:Type} {B b:Nat} {f g:Nat->α}:(mixL B b f g).set b (f b)=mixL B (b+1) f g:=by
 refine List.ext_getElem (by simp [mixL]) fun j h1 h2=>?_
 rw [List.getElem_set]
 by_cases e:b=j
 ·subst e;simp [mixL]
 ·rw [if_neg e]
  by_cases h:j<b
  ·simp [mixL,h,show j<b+1 by omega]
  ·simp [mixL,h,show ¬ j<b+1 by omega]
theorem BD6 {α:Type} (B:Nat) (f g:Nat->α):mixL B 0 f g=(List.range B).map g:=by
 unfold mixL
 exact List.map_congr_left fun j _=>if_neg (Nat.not_lt_zero j)
theorem BK8 {α:Type} (B:Nat) (f g:Nat->α):mixL B B f g=(List.range B).map f:=by
 unfold mixL
 exact List.map_congr_left fun j hj=>if_pos (List.mem_range.1 hj)
theorem unit_eV {S:Nat->Prop} {w:World} {n:Nat} {k:Int} (up:Up S w) (hn:n<=65536):CR Tryz.prog 90 #[.int .i64 (n:Nat),.int .i64 k] w (eV.at S (tab n (uniR k))) :=
 (Aj7 up hn).mono fun _ _ _ hv=>hv.toR (fun j hj=>up j hj) (fun _ h=>h)
theorem Ag2:Ent Tryz.prog 35:=A0 Tryz.func35 (by kernel_rfl) rfl
set_option maxRecDepth 8000 in
theorem Af4 {S:Nat->Prop} {w:World} {vn vo:Value} {n:NtV} {o:List Int} (up:Up S w) (hn:eN.R S w vn n) (ho:eI.R S w vo o) :
  CR Tryz.prog 35 #[vn,vo] w (Two (fun v W=>if outE n o=0 then ∃ g vs base,v=.slice (some ⟨g,0,none⟩) (nwOf n o).B (nwOf n o).B/\w.heap.size<=base/\base<=g/\RwI S base g W vs (tabM (nwOf n o).B (nwOf n o).B (nwOf n o).Lk) else v=.slice none 0 0) (Is (.int .i64 (outE n o)))):=by
 obtain ⟨s,rfl,hs,hb⟩:=hn
 have hn:eN.R S w (.agg #[.int .i64 n.b,s]) n:=⟨s,rfl,hs,hb⟩
 refine enter Tryz.func35 O Tryz.ntmps35 O (.beg (.go O (.box O O fun w1 b2 n1=>.go O ?_)))
 obtain ⟨e1,k2,hb2,hs1⟩:=n1
 replace k2:Blk w1 b2 24 #[.int .i64 n.b,s]:=k2
 refine .ldA ty_N O O k2 O (.go O ?_)
 refine .call _ O AE7 O (AD2 (hn.ext e1) (ho.ext e1)) fun v3 w3 e3 h3=>?_
 subst h3
 have x3:=e1.trans e3
 have k2:=k2.ext e3
 refine .go O ?_
 by_cases hO:outE n o=0
 rotate_left
 ·refine .neqT O O O hO (.goE O (.plain [_,_] Tryz.results35 ⟨rfl,rfl,trivial⟩ ⟨x3,_,_,rfl,?_,rfl⟩))
  show if outE n o=0 then _ else _
  rw [if_neg hO]
 have ok:=T8 hO
 have hnb:=ok.b
 have hB6:=ok.b6
 have hM10:n.ls.length<=10:=ok.m
 rw [hnb] at k2 hn
 have z3:=x3.size
 refine .neqF O O O hO (.go O (.fa G0 O O (.go O (.ld A5 O O k2 O ?_))))
 refine .make_ _ _ un_M AT5 O (by decide) O O O (Nat.le_refl _) (by omega) (by omega) fun w4 g n4=>?_
 have f4:FB eRaw 32 (fun _=>True) w4 g (List.replicate (nwOf n o).B (Value.slice none 0 0)):=FB.made n4 ⟨rfl,none,0,0,rfl⟩
 obtain ⟨e4,_,hg,hs4⟩:=n4
 have r4:RwI S w3.heap.size g w4 _ (List.replicate (nwOf n o).B []):=RwI.fresh f4
 have hz:List.replicate (nwOf n o).B ([]:List QV)=tabM (nwOf n o).B 0 (nwOf n o).Lk:=by
  refine List.ext_getElem (by simp [tabM]) fun j h1 h2=>?_
  simp [tabM,tab]
 rw [hz] at r4
 have hgb:w3.heap.size<=g:=by omega
 refine .goC O ?_
 refine .lp (α:=Nat×List Value) [1,2,7] O (fun y=>[(8,.int .i64 (y.1:Nat))]) (fun y W=>Ext w3 W/\y.1<=(nwOf n o).B/\RwI S w3.heap.size g W y.2 (tabM (nwOf n o).B y.1 (nwOf n o).Lk)) (fun y=>(nwOf n o).B-y.1) (0,_) (lc1 O) ⟨e4,Nat.zero_le _,r4⟩ ?_
 rintro ⟨k,vs⟩ W ⟨hW,hi,hR⟩
 replace hW:Ext w3 W:=hW
 replace hi:k<=(nwOf n o).B:=hi
 replace hR:RwI S w3.heap.size g W vs (tabM (nwOf n o).B k (nwOf n o).Lk):=hR
 have k2W:∀ {W':World},Ext w3 W'->Blk W' b2 24 #[.int .i64 ((nwOf n o).B:Nat),s]:=fun e=>k2.ext e
 have zW:=hW.size
 refine .go O (.fa G0 O O (.go O (.ld A5 O O (k2W hW) O (.go O ?_))))
 rcases Nat.lt_or_ge k (nwOf n o).B with hlt | hge
 rotate_left
 ·have:k=(nwOf n o).B:=by omega
  subst this
  refine .lssF O O O (by omega) (.goE O (.plain [_,_] Tryz.results35 ⟨rfl,rfl,trivial⟩ ⟨x3.trans hW,_,_,rfl,?_,by rw [hO]⟩))
  show if outE n o=0 then _ else _
  rw [if_pos hO]
  exact ⟨g,vs,w3.heap.size,rfl,z3,hgb,hR⟩
 generalize hX:offV S g vs=X
 have upX:∀ {W':World},W.heap.size<=W'.heap.size->Up X W':=fun h=>by rw [<-hX];exact hR.up h fun j hj=>up j (by omega)
 have hlow:∀ j,S j->j<w.heap.size->X j:=fun j h1 h2=>by rw [<-hX];exact hR.low hgb (by omega) h1
 have hnX:∀ {W':World},Ext w3 W'->eN.R X W' (.agg #[.int .i64 ((nwOf n o).B:Nat),s]) n:=fun e=>ER.ext eN (eN.mono (fun j _ h=>hlow j h.1 h.2) (ER.lt eN hn)) (x3.trans e)
 have hoX:∀ {W':World},Ext w3 W'->eI.R X W' vo o:=fun e=>ER.ext eI (eI.mono (fun j _ h=>hlow j h.1 h.2) (ER.lt eI ho)) (x3.trans e)
 have hsf:sfE n o (tab (nwOf n o).B (uniR (k:Nat))).length=0:=by
  unfold sfE
  rw [A2,if_neg (by simpa using hO),if_pos (by omega)]
 have hfz:vk 4 (tab n.ls.length ((nwOf n o).fl (rv (tab (nwOf n o).B (uniR (k:Nat)))))):=Z9 fun i _=>fl_rsz ok (fun c=>(BH7 (nwOf n o).B k).rsz (Nat.le_refl _) c) i
 have hno:noE n o (tab n.ls.length ((nwOf n o).fl (rv (tab (nwOf n o).B (uniR (k:Nat)))))).length=0:=by
  unfold noE
  rw [A2,if_neg (by simpa using hO),if_pos (Nat.le_refl _)]
 generalize hfl:tab n.ls.length ((nwOf n o).fl (rv (tab (nwOf n o).B (uniR (k:Nat)))))=fv at hfz hno
 have hoff:(nwOf n o).offM (rv fv)=fun b=>(nwOf n o).Lk b k:=by funext b;rw [<-hfl];rfl
 refine .lssT O O O (by omega) (.goC O ?_)
 refine .par follows 11 [.inl (.agg #[.int .i64 ((nwOf n o).B:Nat),s]),.inl _,.inl _,.inl (.int .i64 ((nwOf n o).B:Nat)),.inl _,.inr (eV.at X (tab (nwOf n o).B (uniR (k:Nat)))),.inr (Two (eV.at X fv) (Is (.int .i64 0))),.inr (Two (eV.at X fv) (Is (.int .i64 0))),.inr (eV.at X fv),.inl (.int .i64 0),.inr (eV.at X fv)] [[],[],[],[(32,2)],[],[(33,3),(34,4)],[(30,0),(31,1),(35,5)],[(36,6)],[(29,7)],[(29,7)],[(37,8)]] (by kernel_rfl) ⟨
  fun w e=>(B5 ty_N O (k2W (hW.trans e)) O).ob,
  fun w e=>(v_mv O).ob,
  fun w e=>(v_fa G0 O).ob,
  fun w e=>(v_ld A5 O (k2W (hW.trans e)) O).ob,
  fun w e=>(v_mv O).ob,
  fun w e=>(A1 _ Am1 O (unit_eV (upX e.size) (by omega))).ob (A3 _ _ _),
  fun w e x5 hx5=>(by have:=Ab5 (L:=1) (upX e.size) (hnX (hW.trans e)) (hoX (hW.trans e)) hx5 (BH7 _ _) (by decide) (by decide);rw [hsf,if_pos rfl,hfl] at this;exact (A1 _ Ae4 O this).ob (X2 (A3 _ _ _) (AK2 _))),
  fun w e x6 hx6=>K4 (v_mv O) hx6 (X2 (A3 _ _ _) (AK2 _)),
  fun w e x7 hx7=>by
   obtain ⟨p1,q1,rfl,hp1,hq1⟩:=hx7
   exact K4 (v_ex O O) hp1 (A3 _ _ _),
  fun w e x7 hx7=>by
   obtain ⟨p1,q1,rfl,hp1,hq1⟩:=hx7
   exact ((v_ex O O).eq hq1).ob,
  fun w e x8 hx8=>K4 (v_as O) hx8 (A3 _ _ _),trivial⟩ ?_
 intro W5 d5 y5 hy5 y6 hy6 y7 hy7 y8 hy8 vf hvf
 have hW5:=hW.trans d5
 refine .go O (.ldA ty_N O O (k2W hW5) O (.go O ?_))
 have hoffc:=AV0 (L:=4) (upX d5.size) (hnX hW5) (hoX hW5) hvf hfz (by decide) (by decide)
 rw [hno,if_pos rfl,hoff] at hoffc
 refine .call _ O AW6 O hoffc fun v6 W6 d6 h6=>?_
 obtain ⟨va,ve,rfl,ha,rfl⟩:=h6
 have hW6:=hW5.trans d6
 have hR:=(hR.ext d5).ext d6
 replace ha:eV.R X W6 va (tab (nwOf n o).B fun b=>(nwOf n o).Lk b k):=ha
 rw [<-hX] at ha
 have hmz:tabM (nwOf n o).B k (nwOf n o).Lk=mixL (nwOf n o).B 0 (fun b=>tab (k+1) ((nwOf n o).Lk b)) (fun b=>tab k ((nwOf n o).Lk b)):=by rw [BD6];rfl
 have hma:mixL (nwOf n o).B (nwOf n o).B (fun b=>tab (k+1) ((nwOf n o).Lk b)) (fun b=>tab k ((nwOf n o).Lk b))=tabM (nwOf n o).B (k+1) (nwOf n o).Lk:=by rw [BK8];rfl
 rw [hmz] at hR
 refine .goC O ?_
 refine .lp (α:=Nat×List Value) [1,2,7,8,11] O (fun y=>[(13,.int .i64 (y.1:Nat))]) (fun y W'=>Ext w3 W'/\y.1<=(nwOf n o).B/\RwI S w3.heap.size g W' y.2 (mixL (nwOf n o).B y.1 (fun b=>tab (k+1) ((nwOf n o).Lk b)) (fun b=>tab k ((nwOf n o).Lk b)))/\eV.R (offV S g y.2) W' va (tab (nwOf n o).B fun b=>(nwOf n o).Lk b k)) (fun y=>(nwOf n o).B-y.1) (0,vs) (lc1 O) ⟨hW6,Nat.zero_le _,hR,ha⟩ ?_
 clear hR ha
 rintro ⟨b,us⟩ W7 ⟨hW7,hi7,hR,ha⟩
 replace hW7:Ext w3 W7:=hW7
 replace hi7:b<=(nwOf n o).B:=hi7
 replace hR:RwI S w3.heap.size g W7 us (mixL (nwOf n o).B b (fun b=>tab (k+1) ((nwOf n o).Lk b)) (fun b=>tab k ((nwOf n o).Lk b))):=hR
 replace ha:eV.R (offV S g us) W7 va (tab (nwOf n o).B fun b=>(nwOf n o).Lk b k):=ha
 refine .go O (.fa G0 O O (.go O (.ld A5 O O (k2W hW7) O (.go O ?_))))
 rcases Nat.lt_or_ge b (nwOf n o).B with hbl | hge
 rotate_left
 ·have:b=(nwOf n o).B:=by omega
  subst this
  rw [hma] at hR
  exact .lssF O O O (by omega) (.go O (.inc O O O (by omega) (.goN O (.mk (k+1,us) O (lc1 O) ⟨⟨hW7,hlt,hR⟩,by show (nwOf n o).B-(k+1)<(nwOf n o).B-k;omega⟩))))
 have hvl:b<us.length:=by rw [hR.len,BK6];exact hbl
 have hu:=List.getElem?_eq_getElem hvl
 generalize us[b]=u at hu
 have hum:u∈us:=List.mem_iff_getElem?.2 ⟨b,hu⟩
 have hm:=BK7 (f:=fun b=>tab (k+1) ((nwOf n o).Lk b)) (g:=fun b=>tab k ((nwOf n o).Lk b)) hbl
 have hga:(tab (nwOf n o).B fun b=>(nwOf n o).Lk b k)[b]?=some (qc ((nwOf n o).Lk b k)):=L6 hbl
 have htk:tab k ((nwOf n o).Lk b)++[qc ((nwOf n o).Lk b k)]=tab (k+1) ((nwOf n o).Lk b):=by
  unfold tab;rw [List.range_succ,List.map_append];rfl
 generalize qc ((nwOf n o).Lk b k)=q at hga htk
 refine .lssT O O O (by omega) (.goC O ?_)
 refine .parL follows 11 [0,1] [.inl _,.inl _,.inl _,.inl _,.inl (.pointer (some ⟨g,0+b*1,none⟩)),.inl u,.inl _,.inl _,.inr (Ptr eQ (offV S g us) q),.inr (eQ.at (offV S g us) q),.inr (OneP (offV S g us) q)] [[],[],[],[],[(54,2),(55,3)],[(56,4)],[],[],[(58,6),(59,7)],[(60,8)],[(61,9)]] (by kernel_rfl) ⟨
  fun w e=>(v_mv O).ob,
  fun w e=>(v_mv O).ob,
  fun w e=>(v_mv O).ob,
  fun w e=>(v_mv O).ob,
  fun w e=>(N1 (i:=b) un_M ty_V O O hbl).ob,
  fun w e=>(AD6 (E:=eRaw) (i:=b) (by decide) ty_V O (Nat.zero_add _) (hR.out.ext e) hu).mono fun v' w' ⟨e1,h⟩=>⟨e1,(h w' (Ext.refl _)).1⟩,
  fun w e=>(v_mv O).ob,
  fun w e=>(v_mv O).ob,
  fun w e=>C2 (i:=b) un_V ty_Q O (ER.ext eV ha e) O hga,
  fun w e x8 hx8=>L1 ty_Q O hx8,
  fun w e x9 hx9=>BK3 hx9,trivial⟩ ?_
 rintro W1 d1 y8 hy8 y9 hy9 _ ⟨bb,e9,rfl,kb9,he9⟩
 have hW1:=hW7.trans d1
 have hR1:=hR.ext d1
 have hrow:=hR1.inn b u _ hu hm
 refine .gv O O (Ak8 (E:=eQ) (base:=w3.heap.size) (n:=q) (e:=e9) (by decide) un_V I9 O O O hrow kb9 (eQ.mono (fun j _ h=>⟨h,h.2.2 u hum⟩) he9) (by rw [A2];omega) (by decide) hW1.size) ?_
 rintro v2 W2 ⟨hO2,g2,hob⟩
 have fb2:FB eRaw 32 (fun _=>True) W2 g us:=by
  obtain ⟨es,hb,he⟩:=hR1.out
  exact ⟨es,hrow.gblk g2 hb (by decide),he.1,fun i e x h1 h2=>he.2 i e x h1 h2⟩
 obtain ⟨a2,c2,hv2⟩:=hO2.slice
 refine .ixB (i:=b) un_M ty_V O O O hbl (.storeF (E:=eRaw) (i:=b) (z:=v2) (by decide) ty_V O O fb2 O hvl (Nat.zero_add _) ⟨rfl,_,_,_,hv2⟩ fun W3 fb3 u3=>?_)
 have hR3:=hR1.step hu hm hO2 g2 hob fb3 u3
 rw [htk,BK5 (f:=fun b=>tab (k+1) ((nwOf n o).Lk b))] at hR3
 have ha3:=hR1.keep hu (ER.ext eV ha d1) g2 hob u3
 have hW3:Ext w3 W3:=u3.below (OwnL.below hrow g2 hW1 hW1.size) hgb
 exact .go O (.inc O O O (by omega) (.goN O (.mk (b+1,us.set b v2) O (lc1 O) ⟨⟨hW3,hbl,hR3,ha3⟩,by show (nwOf n o).B-(b+1)<(nwOf n o).B-b;omega⟩)))
end Go.Proofs.YtggegpiffjbngaaGreat
namespace Go.Kx
open Go Go.RowKit Go.Proofs.YtggegpiffjbngaaGreat
theorem Ah3 (f:Nat->Rat) (k:Nat):∀ B,k<B->sumN B (fun c=>f c*(if c=k then 1 else 0))=f k
 | B+1,h=>by
  show sumN B _+f B*(if B=k then 1 else 0)=f k
  by_cases e:B=k
  ·subst e
   rw [if_pos rfl,F7 fun c hc=>by rw [if_neg (by omega),Rat.mul_zero]]
   grind
  ·rw [if_neg e,Ah3 f k B (by omega)]
   grind
theorem Nw.Lk_Lm {n:Nw} (ok:n.Ok) {b k:Nat} (hk:k<n.B):n.Lk b k=n.Lm b k:=by
 unfold Nw.Lk
 rw [Nw.offM_fl ok (rv (tab n.B (uniR (k:Nat)))) _ (fun i hi=>by rw [O9,if_pos hi]) b,<-Nw.lap_sum ok]
 rw [<-Ah3 (fun c=>n.Lm b c) k n.B hk]
 exact A4 fun c hc=>by rw [rv_uni,if_pos hc]
theorem Nw.tab_Lk {n:Nw} (ok:n.Ok):tabM n.B n.B n.Lk=tabM n.B n.B n.Lm:=D3 fun b k _ hk=>Nw.Lk_Lm ok hk
end Go.Kx
namespace Go.Proofs.YtggegpiffjbngaaGreat
open Go Go.Kx Go.RowKit
end Go.Proofs.YtggegpiffjbngaaGreat
namespace Go.Kx
open Go Go.RowKit
section
variable {P:Program} {σ:Env} {w:World} {d:Option Tmp} {ty:TypeId} {pos:String} {af:Array Edge} {g:Option (Nat×Bool)} {S:Nat->Prop}
theorem BA5 {s:TypeId} {x:Operand} {i:Nat} {u:Value} {q:QV} (hf:fldOf P s i=some 0) (hx:ev σ x=some u) (hp:Ptr eQ S q u w):Gv P ⟨d,.fieldAddr s x i,ty,pos,af,g⟩ σ w fun v' w'=>Ext w w'/\Sp.ok (.inr (Ptr eZ S q.num)) v' w':=by
 obtain ⟨p,rfl,hp⟩:=hp
 exact K4 (Ag9 hf hx) ⟨_,rfl,hp.qn⟩ (fun _ _ _ e ⟨p,h1,h2⟩=>⟨p,h1,h2.ext e⟩)
theorem BA6 {s:TypeId} {x:Operand} {i:Nat} {u:Value} {q:QV} (hf:fldOf P s i=some 2) (hx:ev σ x=some u) (hp:Ptr eQ S q u w):Gv P ⟨d,.fieldAddr s x i,ty,pos,af,g⟩ σ w fun v' w'=>Ext w w'/\Sp.ok (.inr (Ptr eZ S q.den)) v' w':=by
 obtain ⟨p,rfl,hp⟩:=hp
 exact K4 (Ag9 hf hx) ⟨_,rfl,hp.qd⟩ (fun _ _ _ e ⟨p,h1,h2⟩=>⟨p,h1,h2.ext e⟩)
theorem BA3 {s:TypeId} {x:Operand} {i:Nat} {u:Value} {q:ZV} (hf:fldOf P s i=some 1) (hx:ev σ x=some u) (hp:Ptr eZ S q u w):Gv P ⟨d,.fieldAddr s x i,ty,pos,af,g⟩ σ w fun v' w'=>Ext w w'/\Sp.ok (.inr (Ptr eW S q.w)) v' w':=by
 obtain ⟨p,rfl,hp⟩:=hp
 exact K4 (Ag9 hf hx) ⟨_,rfl,hp.zw⟩ (fun _ _ _ e ⟨p,h1,h2⟩=>⟨p,h1,h2.ext e⟩)
end
end Go.Kx
namespace Go.Proofs.YtggegpiffjbngaaGreat
open Go Go.Kx Go.RowKit
end Go.Proofs.YtggegpiffjbngaaGreat
namespace Go.Kx
open Go Go.RowKit
theorem PtrTo.zb {S:Nat->Prop} {w:World} {p:Addr} {z:ZV} (h:PtrTo eZ S w p z):PtrTo eBool S w p z.neg:=by
 obtain ⟨e,⟨s,rfl,_⟩,hS,hc⟩:=h
 refine ⟨.bool z.neg,rfl,hS,fun j u hu=>?_⟩
 match j with
 | 0=>exact hc 0 u (by simpa [Value.cells] using hu)
 | j+1=>simp [Value.cells] at hu
end Go.Kx
namespace Go.Proofs.YtggegpiffjbngaaGreat
open Go Go.Kx Go.RowKit
section
variable {S:Nat->Prop} {w:World} {σ:Env} {d:Option Tmp} {ty:TypeId} {pos:String} {af:Array Edge} {g:Option (Nat×Bool)}
theorem Ah7 {x:Operand} {u:Value} {z:ZV} (hx:ev σ x=some u) (hp:Ptr eZ S z u w):Gv Tryz.prog ⟨d,.load 4 x,ty,pos,af,g⟩ σ w fun v' w'=>Ext w w'/\Sp.ok (.inl (.bool z.neg)) v' w':=by
 obtain ⟨p,rfl,hp⟩:=hp
 exact (Ar0 (E:=eBool) C0 hx hp.zb).mono fun v' w' ⟨e1,h⟩=>by subst e1;exact ⟨Ext.refl _,h⟩
theorem BA4 {s:TypeId} {x:Operand} {i:Nat} {u:Value} {z:ZV} (hf:fldOf Tryz.prog s i=some 0) (hx:ev σ x=some u) (hp:Ptr eZ S z u w):Gv Tryz.prog ⟨d,.fieldAddr s x i,ty,pos,af,g⟩ σ w fun v' w'=>Ext w w'/\Sp.ok (.inr (Ptr eZ S z)) v' w':=by
 obtain ⟨p,rfl,hp⟩:=hp
 exact K4 (Ag9 hf hx) ⟨_,rfl,by simpa [Addr.add] using hp⟩ (fun _ _ _ e ⟨p,h1,h2⟩=>⟨p,h1,h2.ext e⟩)
theorem BA7 {T:Nat->Prop} {x y:Operand} {u:Value} {z:ZV} (hx:eW.R T w u z.w) (hb:ev σ x=some (.bool z.neg)) (hy:ev σ y=some u):Gv Tryz.prog ⟨d,.build 52 #[(0,x),(1,y)],ty,pos,af,g⟩ σ w fun v' w'=>Ext w w'/\Sp.ok (.inr (eZ.at T z)) v' w':=by
 obtain ⟨p,c,hv,_⟩:=RL.len hx
 have hz:eZ.R T w (.agg #[.bool z.neg,u]) z:=⟨u,rfl,hx⟩
 subst hv
 exact K4 (Ah0 (ps:=[(0,x),(1,y)]) [(0,.bool z.neg),(1,.slice p z.w.length c)] (by simp only [evp,hb,hy]) AN6) hz (A3 _ _ _)
theorem ob_bldQ {T:Nat->Prop} {x y:Operand} {u v:Value} {q:QV} (hn:eZ.R T w u q.num) (hd:eZ.R T w v q.den) (hx:ev σ x=some u) (hy:ev σ y=some v):Gv Tryz.prog ⟨d,.build 54 #[(0,x),(1,y)],ty,pos,af,g⟩ σ w fun v' w'=>Ext w w'/\Sp.ok (.inr (eQ.at T q)) v' w':=by
 obtain ⟨s,rfl,hs⟩:=hn
 obtain ⟨t,rfl,ht⟩:=hd
 have hz:eQ.R T w (.agg #[.bool q.num.neg,s,.bool q.den.neg,t]) q:=⟨s,t,rfl,hs,ht⟩
 exact K4 (Ah0 (ps:=[(0,x),(1,y)]) [(0,.agg #[.bool q.num.neg,s]),(1,.agg #[.bool q.den.neg,t])] (by simp only [evp,hx,hy]) AN7) hz (A3 _ _ _)
end
theorem At9:Ent Tryz.prog 26:=A0 Tryz.func26 (by kernel_rfl) rfl
set_option maxRecDepth 8000 in
theorem Aq1 {S:Nat->Prop} {w:World} {vl:Value} {l:List QV} (up:Up S w) (hl:eV.R S w vl l) (hk:∀ q∈l,qok 1000000000 q) (hln:l.length<=1000):CR Tryz.prog 26 #[vl] w (eV.at S l):=by
 have hl0:=ER.lt eV hl
 refine enter Tryz.func26 O Tryz.ntmps26 O (.beg (.goC O ?_))
 refine .lp (α:=Nat×Value) [0] O (fun y=>[(3,y.2),(4,.int .i64 (y.1:Nat))]) (fun y W=>Ext w W/\y.1<=l.length/\OwnL eQ 54 w.heap.size S W y.2 (l.take y.1)) (fun y=>l.length-y.1) (0,.slice none 0 0) (lc2 O O) ⟨Ext.refl _,Nat.zero_le _,OwnL.nil⟩ ?_
 rintro ⟨i,v⟩ W ⟨hW,hi,hO⟩
 replace hW:Ext w W:=hW
 replace hi:i<=l.length:=hi
 replace hO:OwnL eQ 54 w.heap.size S W v (l.take i):=hO
 have zW:=hW.size
 refine .go O (.lenR un_V O O (ER.ext eV hl hW) ?_)
 rcases Nat.lt_or_ge i l.length with hlt | hge
 rotate_left
 ·have:i=l.length:=by omega
  subst this
  rw [List.take_length] at hO
  exact .lssF O O O (by omega) (.goE O (.plain [_] Tryz.results26 ⟨rfl,trivial⟩ ⟨hW,hO.toR (fun k hk=>up k (by omega)) (fun _ h=>h)⟩))
 have hg:=List.getElem?_eq_getElem hlt
 have htk:l.take (i+1)=l.take i++[l[i]]:=by rw [List.take_add_one,hg];rfl
 have hq:=hk l[i] (List.getElem_mem hlt)
 generalize l[i]=q at hg htk hq
 obtain ⟨es,ho1,ho2⟩:=id hO
 generalize hT:(fun k=>S k/\v.ownBlock≠some k)=T
 have hTS:∀ k,T k->S k/\v.ownBlock≠some k:=fun k h=>by rw [<-hT] at h;exact h
 have upT':∀ {W':World},W.heap.size<=W'.heap.size->Up T W':=fun h k hk=>by rw [<-hT];exact ⟨up k (by omega),fun e=>by have:=(ho1.lt k e).2;omega⟩
 refine .lssT O O O (by omega) (.goC O ?_)
 refine .par follows 31 ((.inl _)::(.inl _)::(.inl _)::(.inr (Ptr eQ S q))::(.inr (Ptr eZ S q.num))::(.inr (Ptr eZ S q.num))::(.inl (.bool q.num.neg))::(.inl _)::(.inl _)::(.inr (Ptr eQ S q))::(.inr (Ptr eZ S q.num))::(.inr (Ptr eW S q.num.w))::(.inr (eW.at S q.num.w))::(.inr (eW.at T q.num.w))::(.inr (eZ.at T q.num))::(.inl _)::(.inl _)::(.inr (Ptr eQ S q))::(.inr (Ptr eZ S q.den))::(.inr (Ptr eZ S q.den))::(.inl (.bool q.den.neg))::(.inl _)::(.inl _)::(.inr (Ptr eQ S q))::(.inr (Ptr eZ S q.den))::(.inr (Ptr eW S q.den.w))::(.inr (eW.at S q.den.w))::(.inr (eW.at T q.den.w))::(.inr (eZ.at T q.den))::(.inr (eQ.at T q))::(.inr (OneP T q))::[]) ([]::[]::[]::[(12,1),(13,2)]::[(14,3)]::[(15,4)]::[(16,5)]::[]::[]::[(18,7),(19,8)]::[(20,9)]::[(21,10)]::[(22,11)]::[(23,12)]::[(17,6),(24,13)]::[]::[]::[(26,15),(27,16)]::[(28,17)]::[(29,18)]::[(30,19)]::[]::[]::[(32,21),(33,22)]::[(34,23)]::[(35,24)]::[(36,25)]::[(37,26)]::[(31,20),(38,27)]::[(25,14),(39,28)]::[(40,29)]::[]) (by kernel_rfl) ⟨
  fun w e=>(v_mv O).ob,
  fun w e=>(v_mv O).ob,
  fun w e=>(v_mv O).ob,
  fun w e=>C2 (i:=i) un_V ty_Q O (ER.ext eV hl (hW.trans e)) O hg,
  fun w e x3 hx3=>BA5 M9 O hx3,
  fun w e x4 hx4=>BA4 E5 O hx4,
  fun w e x5 hx5=>Ah7 O hx5,
  fun w e=>(v_mv O).ob,
  fun w e=>(v_mv O).ob,
  fun w e=>C2 (i:=i) un_V ty_Q O (ER.ext eV hl (hW.trans e)) O hg,
  fun w e x9 hx9=>BA5 M9 O hx9,
  fun w e x10 hx10=>BA3 D0 O hx10,
  fun w e x11 hx11=>L1 ty_W O hx11,
  fun w e x12 hx12=>(have hq1:=hq.1;Gv.ob ((BB7 un_W G7 O O hx12 (by omega)).mono fun v' w' ⟨h1,h2⟩=>⟨h2,h1.toR (S:=T) (fun k hk=>upT' e.size k hk)⟩) (A3 _ _ _)),
  fun w e x13 hx13=>BA7 hx13 O rfl,
  fun w e=>(v_mv O).ob,
  fun w e=>(v_mv O).ob,
  fun w e=>C2 (i:=i) un_V ty_Q O (ER.ext eV hl (hW.trans e)) O hg,
  fun w e x17 hx17=>BA6 M8 O hx17,
  fun w e x18 hx18=>BA4 E5 O hx18,
  fun w e x19 hx19=>Ah7 O hx19,
  fun w e=>(v_mv O).ob,
  fun w e=>(v_mv O).ob,
  fun w e=>C2 (i:=i) un_V ty_Q O (ER.ext eV hl (hW.trans e)) O hg,
  fun w e x23 hx23=>BA6 M8 O hx23,
  fun w e x24 hx24=>BA3 D0 O hx24,
  fun w e x25 hx25=>L1 ty_W O hx25,
  fun w e x26 hx26=>(have hq2:=hq.2;Gv.ob ((BB7 un_W G7 O O hx26 (by omega)).mono fun v' w' ⟨h1,h2⟩=>⟨h2,h1.toR (S:=T) (fun k hk=>upT' e.size k hk)⟩) (A3 _ _ _)),
  fun w e x27 hx27=>BA7 hx27 O rfl,
  fun w e x14 hx14 x28 hx28=>ob_bldQ hx14 hx28 O rfl,
  fun w e x29 hx29=>BK3 hx29,trivial⟩ ?_
 rintro W1 d1 _ _ _ _ _ _ _ _ _ _ _ _ _ _ _ _ _ _ _ _ _ _ _ _ _ _ _ _ _ _ _ _ _ _ _ _ _ _ _ ⟨bb,e9,rfl,kb9,he9⟩
 have hW1:=hW.trans d1
 refine .gv O O (AA5 (E:=eQ) (base:=w.heap.size) (n:=q) (e:=e9) (by decide) un_V I9 O O O (hO.ext d1) kb9 (eQ.mono (fun k _ h=>hTS k h) he9) (by rw [List.length_take];omega) (by decide) hW1.size) ?_
 rintro v2 W2 ⟨hO2,g2⟩
 have hW2:Ext w W2:=OwnL.below (hO.ext d1) g2 hW1 hW1.size
 rw [<-htk] at hO2
 exact .go O (.inc O O O (by omega) (.goN O (.mk (i+1,v2) O (lc2 O O) ⟨⟨hW2,hlt,hO2⟩,by show l.length-(i+1)<l.length-i;omega⟩)))
set_option maxRecDepth 8000 in
theorem AT7 {S T0:Nat->Prop} {w:World} {vn vo:Value} {n:NtV} {o:List Int} (up:Up S w) (upo:Up T0 w) (hn:eN.R S w vn n) (ho:eI.R S w vo o) :
  CR Tryz.prog 38 #[vn,vo] w (Two (fun v W=>if outE n o=0 then MBat 32 54 T0 w.heap.size (nwOf n o).B (nwOf n o).B (tabM (nwOf n o).B (nwOf n o).B (nwOf n o).Lm) v W else v=.slice none 0 0) (Is (.int .i64 (outE n o)))):=by
 obtain ⟨s,rfl,hs,hb⟩:=hn
 have hn:eN.R S w (.agg #[.int .i64 n.b,s]) n:=⟨s,rfl,hs,hb⟩
 refine enter Tryz.func38 O Tryz.ntmps38 O (.beg (.go O (.box O O fun w1 b2 n1=>?_)))
 obtain ⟨e1,k2,hb2,hs1⟩:=n1
 refine .go O (.ldA ty_N O O k2 O (.go O ?_))
 refine .call _ O AI0 O (AG9 (up.ext e1.size) (hn.ext e1) (ho.ext e1)) fun v2 w2 e2 h2=>?_
 obtain ⟨vl,ve,rfl,hl,he⟩:=h2
 replace he:ve=.int .i64 (outE n o):=he
 subst he
 have x2:=e1.trans e2
 refine .go O ?_
 by_cases hE:outE n o=0
 rotate_left
 ·refine .neqT O O O hE (.goE O ?_)
  refine .plain [_,_] Tryz.results38 ⟨rfl,rfl,trivial⟩ ⟨x2,_,_,rfl,?_,rfl⟩
  show if outE n o=0 then _ else _
  rw [if_neg hE]
 have ok:=T8 hE
 rw [if_pos hE] at hl
 have hB6:=ok.b6
 have hB1:=ok.b1
 have hM10:n.ls.length<=10:=ok.m
 have hnb:=ok.b
 have hll:=AJ2 n o
 have k2:=k2.ext e2
 have hsx2:=x2.size
 rw [hnb] at k2
 refine .neqF O O O hE (.go O (.fa G0 O O (.ld A5 O O k2 O ?_)))
 generalize hBB:(nwOf n o).B=B at hB6 hB1 hnb k2
 refine .make_ _ _ un_M AT5 O (by decide) O O O (Nat.le_refl _) (by omega) (by omega) fun w3 gb n3=>.alloc O BG9 fun w4 b8 n4=>?_
 obtain ⟨e3,kg,hgb,hs3⟩:=n3
 obtain ⟨e4,k8,hb8,hs4⟩:=n4
 refine .store ty_M O O k8 O (by simp [Value.cells]) (by simp [one1,Value.cells]) fun w5 k8 u5=>?_
 replace k8:Blk w5 b8 28 #[slB B gb]:=k8
 have hs5:=u5.size
 have y5:Ext w2 w5:=u5.below (e3.trans e4) (by omega)
 have k2V:=k2
 have k2:=k2.ext y5
 have kg:Blk w5 gb 32 (cellsOf (List.replicate B nilV)).toArray:=(kg.ext e4).upd u5 (by omega)
 refine .go O (.ld ty_M O O k8 O (.len un_M O O ?_))
 have hb2l:=(k2).lt
 have hup:∀ k,w.heap.size<=k->T0 k:=upo
 refine .goC O (.cut (α:=List Nat) 1 [2,6,8,26] O (fun hs=>[(27,.int .i64 (hs.length:Nat))]) (fun hs W=>Ext w2 W/\Blk W b8 28 #[slB B gb]/\(∀ k∈hs,w5.heap.size<=k)/\MB 32 54 T0 W gb B hs (tabM B B fun _ _=>0)) O ?_ ?_)
 rotate_left
 ·refine .lp (α:=List Nat) [2,6,8,26] rfl (fun hs=>[(27,.int .i64 (hs.length:Nat))]) (fun hs W=>Ext w2 W/\Blk W b8 28 #[slB B gb]/\hs.length<=B/\Blk W gb 32 (cellsOf (hs.map (slB B)++List.replicate (B-hs.length) nilV)).toArray/\hs.Nodup/\(∀ k∈hs,w5.heap.size<=k)/\∀ (i h:Nat),hs[i]?=some h->FB eQ 54 (fun _=>False) W h (List.replicate B q0)) (fun hs=>B-hs.length) [] (lc1 rfl) ⟨y5,k8,Nat.zero_le _,kg,List.nodup_nil,(fun k hk=>by cases hk),(fun i h hh=>by cases hh)⟩ ?_
  rintro hs W ⟨hW,k8,hi,hO,hnd,hge,hrow⟩
  have hWs:=hW.size
  have hgl:=hO.lt
  refine .go O ?_
  rcases Nat.lt_or_ge hs.length B with hlt | hge'
  rotate_left
  ·refine .lssF O O O (by omega) (.goN O (.mk hs O (lc1 O) ⟨hW,k8,hge,?_⟩))
   have hl:hs.length=B:=by omega
   rw [hl,Nat.sub_self,List.replicate_zero,List.append_nil] at hO
   refine ⟨hO,hnd,fun hm=>by have:=hge gb hm;omega,by rw [B0];exact hl,fun i h r h1 h2=>?_⟩
   have hil:i<B:=by have:=(List.getElem?_eq_some_iff.1 h1).1;omega
   rw [G6 hil] at h2
   cases h2
   rw [AG0]
   exact ⟨by simp,(hrow i h h1).mono fun _ _ h=>h.elim⟩
  refine .lssT O O O (by omega) (.goC O ?_)
  refine .par follows 5 [.inl (slB B gb),.inl (.int .i64 (hs.length:Nat)),.inl (.pointer (some ⟨b2,0,none⟩)),.inl (.int .i64 (B:Nat)),.inr (fun v W'=>∃ b,v=.slice (some ⟨b,0,none⟩) B B/\W.heap.size<=b/\Blk W' b 54 (cellsOf (List.replicate B zq)).toArray)] [[],[],[],[(32,2)],[(33,3)]] (by kernel_rfl) ⟨
   fun w e=>(v_ld ty_M O (k8.ext e) O).ob,
   fun w e=>(v_mv O).ob,
   fun w e=>(v_fa G0 O).ob,
   fun w e=>(v_ld A5 O ((k2V.ext hW).ext e) O).ob,
   fun w e=>BA2 B B un_V I9 O (by decide) O O (Nat.le_refl _) (by omega) (by omega) e.size,trivial⟩ ?_
  rintro W1 g1 _ ⟨h,rfl,hhW,kh⟩
  have hs1':=g1.size
  have hlW:∀ k∈hs,k<W.heap.size:=fun k hk=>by
   obtain ⟨i,hi⟩:=List.mem_iff_getElem?.1 hk
   exact (hrow i k hi).lt
  have hesz:∀ e∈hs.map (slB B)++List.replicate (B-hs.length) nilV,e.cells.size=1:=fun e he=>by
   rcases List.mem_append.1 he with h | h
   ·obtain ⟨_,_,rfl⟩:=List.mem_map.1 h;rfl
   ·rw [(List.mem_replicate.1 h).2];rfl
  have hset:(hs.map (slB B)++List.replicate (B-hs.length) nilV).set hs.length (slB B h)=(hs++[h]).map (slB B)++List.replicate (B-(hs.length+1)) nilV:=by
   have:=Aj3 (hs.map (slB B)) nilV (slB B h) (B-(hs.length+1))
   rw [List.length_map,show B-(hs.length+1)+1=B-hs.length by omega] at this
   rw [this,List.map_append];rfl
  refine .ixB (i:=hs.length) un_M ty_V O O O hlt ?_
  refine .gv O O (Ac2 (i:=hs.length) (by decide) ty_V O O (hO.ext g1) hesz O (by simp [Value.cells,one1]) (by simp;omega) (Nat.zero_add _)) ?_
  rintro _ W2 ⟨hBg2,u2⟩
  replace hBg2:Blk W2 gb 32 (cellsOf ((hs.map (slB B)++List.replicate (B-hs.length) nilV).set hs.length (slB B h))).toArray:=hBg2
  rw [hset] at hBg2
  refine .go O (.inc O O O (by omega) (.goN O (.mk (hs++[h]) O (lc1 (by rw [List.length_append];rfl)) ⟨⟨u2.below (hW.trans g1) (by omega),(k8.ext g1).upd u2 (by omega),by rw [List.length_append];exact hlt,by rw [List.length_append];exact hBg2,?_,?_,?_⟩,by rw [List.length_append];show B-(hs.length+1)<B-hs.length;omega⟩)))
  ·exact List.nodup_append.2 ⟨hnd,by simp,fun a ha b hb=>by rw [List.mem_singleton.1 hb];have:=hlW a ha;omega⟩
  ·intro k hk
   rcases List.mem_append.1 hk with hk | hk
   ·exact hge k hk
   ·rw [List.mem_singleton.1 hk];have:=k8.lt;omega
  ·intro i x hx
   rcases Nat.lt_or_ge i hs.length with hil | hil
   ·rw [List.getElem?_append_left hil] at hx
    have:=hge x (List.mem_iff_getElem?.2 ⟨i,hx⟩)
    exact ((hrow i x hx).ext g1).upd u2 (by omega) fun h=>h
   ·rw [List.getElem?_append_right hil] at hx
    have:x=h:=by
     cases hj:i-hs.length with
     | zero=>rw [hj] at hx;simpa using hx.symm
     | succ j=>rw [hj] at hx;simp at hx
    subst this
    exact (FB.rep (S:=fun _=>False) kh zq_R).upd u2 (by omega) fun h=>h
 rintro hs0 W ⟨hW,k8,hge,hM⟩
 have hWs:=hW.size
 have hgl:=hM.out.lt
 refine .go O (.mkf [] [_] O O O O (.go O (.lenR un_I O O (ER.ext eI hl hW) ?_)))
 rw [show (pInts (inL n o)).length=(inL n o).length by simp]
 refine .goC O (.lp (α:=Nat) [2,8,10,38,39] O (fun i=>[(40,.int .i64 (i:Nat))]) (fun i W=>i<=(inL n o).length/\Ext w2 W/\Blk W b8 28 #[slB B gb]/\MB 32 54 T0 W gb B hs0 (tabM B B ((nwOf n o).lmL ((inL n o).take i)))) (fun i=>(inL n o).length-i) 0 (lc1 O) ⟨Nat.zero_le _,hW,k8,hM⟩ ?_)
 clear hW hM k8 hgl hWs W
 rintro i W ⟨hi,hW,k8,hM⟩
 have hWs:=hW.size
 refine .go O ?_
 rcases Nat.lt_or_ge i (inL n o).length with hlt | hge'
 rotate_left
 ·refine .lssF O O O (by omega) (.go O (.ld ty_M O O k8 O (.goE O ?_)))
  have:i=(inL n o).length:=by omega
  subst this
  refine .plain [_,_] Tryz.results38 ⟨rfl,rfl,trivial⟩ ⟨x2.trans hW,_,_,rfl,?_,by rw [hE]⟩
  show if outE n o=0 then _ else _
  rw [if_pos hE]
  have hfin:tabM B B ((nwOf n o).lmL ((inL n o).take (inL n o).length))=tabM B B (nwOf n o).Lm:=D3 fun b c _ _=>by
   rw [List.take_of_length_le (Nat.le_refl _)]
   exact Nw.lmL_free (p:=oN o) b c _ fun k hk=>ok.g0 hk
  rw [hfin] at hM
  exact ⟨gb,hs0,rfl,by omega,fun k hk=>by have:=hge k hk;omega,hM⟩
 obtain ⟨hgk,hkM,hko⟩:=AQ0 hlt
 refine .lssT O O O (by omega) (.go O (.ixN (i:=i) un_I C9 O O (ER.ext eI hl hW) O hgk fun q hq=>.ldE (E:=eInt .i64) C9 O O hq fun e he=>?_))
 obtain ⟨rfl,_⟩:=he
 have hgl:n.ls[(inL n o).getD i 0]?=some (n.ls.getD ((inL n o).getD i 0) ln0):=A7 hkM
 have hFI:=ok.fI _ hkM
 have hTI:=ok.tI _ hkM
 have hne:=ok.ne _ hkM
 have hx:=ok.x _ hkM
 have hgv:=g_on (n:=n) hko
 have htk:(inL n o).take (i+1)=(inL n o).take i++[(inL n o).getD i 0]:=by rw [List.take_add_one,A7 (z:=0) hlt];rfl
 generalize hkk:(inL n o).getD i 0=k at hgl hFI hTI hx hgv hkM hne htk
 generalize hln:n.ls.getD k ln0=ln at hgl hFI hTI hx hgv
 refine .go O (.fa G5 O O (.ld J1 O O (k2V.ext hW) O (.go O (.ixN (i:=k) I8 K8 O O (ER.ext eLs hs (x2.trans hW)) O hgl fun q hq=>.ldE (E:=eL) K8 O O hq fun vl' hvl=>?_))))
 obtain ⟨rfl,_⟩:=hvl
 rw [hFI,hTI]
 refine .bld _ O O Ax8 (.mkf [_] [] O O O O ?_)
 have hgs:=ok.gsz k
 have hq:∀ a b,Rsz ((nwOf n o).g k*((nwOf n o).inc k a*(nwOf n o).inc k b)) 30:=fun a b=>by
  refine (AY9 hgs (Nat.le_refl _) ?_).mono (by decide)
  rcases (nwOf n o).inc_tri k a with h | h | h<;>rcases (nwOf n o).inc_tri k b with h' | h' | h'<;>rw [h,h']<;>grind
 have hfs:∀ r c,Rsz ((nwOf n o).lmL ((inL n o).take i) r c) 30:=fun r c=>((nwOf n o).lmL_rsz (Nat.le_refl _) (fun k=>ok.gsz k) r c _).mono (by
  rw [List.length_take]
  have:=Nat.mul_le_mul_right 2 (show min i (inL n o).length<=10 by omega)
  omega)
 have hcall:=BN7 (S:=T0) (c:=ln.c) (upo.ext (x2.trans hW).size) hM k8 (fun hm=>by have:=hge b8 hm;omega) (by omega) hB6 hfs (fun a b=>AR3 hne hgv) hq hx.1 hx.2
 refine .callvG [_] O O BO0 O hcall ?_
 rintro v W1 ⟨hC,hM1⟩
 have hnew:tabM B B (fun r c=>(nwOf n o).lmL ((inL n o).take i) r c+(nwOf n o).g k*((nwOf n o).inc k r*(nwOf n o).inc k c))=tabM B B ((nwOf n o).lmL ((inL n o).take (i+1))):=D3 fun b c _ _=>by rw [htk,Nw.lmL_snoc]
 rw [hnew] at hM1
 exact .go O (.inc O O O (by omega) (.goN O (.mk (i+1) O (lc1 O) ⟨⟨hlt,hC.below hW (by omega) (fun k hk=>by have:=hge k hk;omega),hC.blk k8 (fun hm=>by have:=hge b8 hm;omega),hM1⟩,by show (inL n o).length-(i+1)<(inL n o).length-i;omega⟩)))
end Go.Proofs.YtggegpiffjbngaaGreat
namespace Go.Kx
open Go Go.RowKit
def Sim (k:Value->Value->Prop) (w w':World):Prop:=∀ p u,Live w p u->∃ u',Live w' p u'/\k u u'
theorem Live.blk {w:World} {p:Addr} {u:Value} (h:Live w p u):∃ b off cs t f,p=⟨b,off,none⟩/\w.heap[b]?=some (.cells cs t f)/\cs[off]?=some u:=by
 obtain ⟨h1,_⟩:=h
 unfold World.cell? at h1
 split at h1
 ·rename_i c e f hh
  obtain ⟨b,off,spot⟩:=p
  cases spot with
  | none=>exact ⟨b,off,c,e,f,rfl,hh,by simpa using h1⟩
  | some s=>simp at h1
 ·cases h1
theorem heap_setCell {w:World} {b off:Nat} {v:Value} {cs:Array Value} {t:TypeId} {f:Nat×Nat} (h:w.heap[b]?=some (.cells cs t f)):(w.setCell ⟨b,off,none⟩ v).heap[b]?=some (.cells (cs.setIfInBounds off v) t f):=by
 unfold World.setCell
 simp [Array.getElem?_modify,h]
theorem AF4 {w:World} {b k off:Nat} {v:Value} (h:k≠b):(w.setCell ⟨b,off,none⟩ v).heap[k]?=w.heap[k]?:=by
 unfold World.setCell
 simp [Array.getElem?_modify,Ne.symm h]
theorem Live.inj {w:World} {p:Addr} {u v:Value} (h:Live w p u) (h':Live w p v):u=v:=by
 have h1:=h.1
 rw [h'.1] at h1
 exact (Option.some.inj h1).symm
theorem Live.setSelf {w:World} {p:Addr} {u v:Value} (h:Live w p u):Live (w.setCell p v) p v:=by
 obtain ⟨b,off,cs,t,f,rfl,hb,hc⟩:=h.blk
 have hset:=heap_setCell (w:=w) (off:=off) (v:=v) hb
 have hlt:=(Array.getElem?_eq_some_iff.1 hc).1
 refine ⟨?_,?_⟩
 ·unfold World.cell?
  simp [hset,hlt]
 ·have hfr:=h.2
  unfold World.frozen? at hfr ⊢
  simp [hb] at hfr
  simp [hset]
  exact hfr
theorem Live.setOther {w:World} {p q:Addr} {u x v:Value} (h:Live w p u) (hx:Live w q x) (hne:q≠p):Live (w.setCell p v) q x:=by
 obtain ⟨b,off,cs,t,f,rfl,hb,hc⟩:=h.blk
 obtain ⟨b',off',cs',t',f',rfl,hb',hc'⟩:=hx.blk
 have hfr:=hx.2
 by_cases e:b'=b
 ·subst e
  rw [hb] at hb'
  cases hb'
  have hset:=heap_setCell (w:=w) (off:=off) (v:=v) hb
  have e2:off≠off':=fun h=>hne (by rw [h])
  refine ⟨?_,?_⟩
  ·unfold World.cell?
   simp [hset,Array.getElem?_setIfInBounds_ne e2,hc']
  ·unfold World.frozen? at hfr ⊢
   simp [hb] at hfr
   simp [hset]
   exact hfr
 ·refine ⟨?_,?_⟩
  ·unfold World.cell?
   simp [AF4 e,hb',hc']
  ·unfold World.frozen? at hfr ⊢
   simp only [AF4 e]
   exact hfr
theorem BN6 {p:Addr} {i j:Nat} (h:i≠j):p.add i≠p.add j:=fun e=>by
 have:(p.add i).off=(p.add j).off:=by rw [e]
 unfold Addr.add at this
 by_cases hi:i=0<;>by_cases hj:j=0<;>simp [hi,hj] at this<;>omega
theorem An8 {w:World} {p:Addr} {u v:Value} (h:Live w p u):Upd w (w.setCell p v) p.block:=by
 obtain ⟨b,off,cs,t,f,rfl,hb,hc⟩:=h.blk
 exact Upd.setCell w b off v
theorem Ao5 {P:Program} {w:World} {p:Addr} {u v:Value} (h:Live w p u) (hv:one1 v=true):(store p v).run P w=.ok () (w.setCell p v):=by
 obtain ⟨h1,h2⟩:=h
 unfold store
 cases v<;>first | (simp [one1] at hv;done) | simp [Sem.run,h1,h2]
theorem AF3 {P:Program} {p:Addr}:∀ (vs:List Value) (i:Nat) (w:World),(∀ j v,vs[j]?=some v->∃ u,Live w (p.add (i+j)) u)->(∀ v∈vs,one1 v=true) ->
  ∃ w',(storeCells p vs i).run P w=.ok () w'/\(∀ q x,Live w q x->(∃ j v,vs[j]?=some v/\q=p.add (i+j)/\Live w' q v)\/((∀ j,j<vs.length->q≠p.add (i+j))/\Live w' q x))/\Upd w w' p.block
 | [],i,w,_,_=>⟨w,by simp [storeCells],fun q x h=>.inr ⟨fun j hj=>by simp at hj,h⟩,Upd.refl _ _⟩
 | v::vs,i,w,h,h1=>by
  obtain ⟨u,hu⟩:=h 0 v rfl
  rw [Nat.add_zero] at hu
  have hs:=Ao5 (P:=P) (v:=v) hu (h1 v (by simp))
  obtain ⟨w',hr,hS,hU⟩:=AF3 (P:=P) (p:=p) vs (i+1) (w.setCell (p.add i) v) (fun j z hz=>by
   obtain ⟨u',hu'⟩:=h (j+1) z (by simpa using hz)
   rw [show i+1+j=i+(j+1) by omega]
   exact ⟨u',hu.setOther hu' (BN6 (by omega))⟩) (fun z hz=>h1 z (by simp [hz]))
  refine ⟨w',?_,fun q x hq=>?_,?_⟩
  ·simp only [storeCells,Sem.run_bind,hs,Result.andThen_ok,hr]
  ·by_cases e:q=p.add i
   ·left
    have hv:Live (w.setCell (p.add i) v) q v:=by rw [e];exact hu.setSelf
    rcases hS q v hv with ⟨j,z,_,hj,_⟩ | ⟨_,hl⟩
    ·exfalso
     rw [e] at hj
     exact BN6 (show i≠i+1+j by omega) hj
    ·exact ⟨0,v,rfl,by rw [Nat.add_zero];exact e,hl⟩
   ·rcases hS q x (hu.setOther hq e) with ⟨j,z,hz,hj,hl⟩ | ⟨hn,hl⟩
    ·exact .inl ⟨j+1,z,by simpa using hz,by rw [hj,show i+1+j=i+(j+1) by omega],hl⟩
    ·refine .inr ⟨fun j hj=>?_,hl⟩
     cases j with
     | zero=>rw [Nat.add_zero];exact e
     | succ j=>rw [show i+(j+1)=i+1+j by omega];exact hn j (by simpa using hj)
  ·have:=An8 (v:=v) hu
   rw [F5] at this
   exact this.trans hU
theorem Af3 {P:Program} {t:TypeId} {a:Bool} {n:Nat} {w:World} {p:Addr} {v:Value} {k:Value->Value->Prop} (hk:∀ u,k u u) (ht:tyOf P t=some (a,n)) (hn:v.cells.size=n) (h:∀ (j:Nat) (z:Value),v.cells[j]?=some z->∃ u,Live w (p.add j) u/\k u z) (h1:∀ u∈v.cells.toList,one1 u=true) :
  ∃ w',(storeVar t p v).run P w=.ok () w'/\Sim k w w'/\Upd w w' p.block:=by
 obtain ⟨w',hr,hS,hU⟩:=AF3 (P:=P) (p:=p) v.cells.toList 0 w (fun j z hz=>by
  obtain ⟨u,hu,_⟩:=h j z (by simpa using hz)
  rw [Nat.zero_add];exact ⟨u,hu⟩) h1
 refine ⟨w',?_,fun q x hq=>?_,hU⟩
 ·simp [storeVar,Sem.run_bind,(G1 ht w).2,hn,hr]
 ·rcases hS q x hq with ⟨j,z,hz,hj,hl⟩ | ⟨_,hl⟩
  ·obtain ⟨u,hu,hku⟩:=h j z (by simpa using hz)
   rw [Nat.zero_add] at hj
   rw [hj] at hq
   rw [hq.inj hu]
   exact ⟨z,hl,hku⟩
  ·exact ⟨x,hl,hk x⟩
section
variable {P:Program} {σ:Env} {w:World} {d:Option Tmp} {ty:TypeId} {pos:String} {af:Array Edge} {g:Option (Nat×Bool)}
theorem BM1 {t:TypeId} {x y:Operand} {p:Addr} {n:Nat} {a:Bool} {v:Value} {k:Value->Value->Prop} (hk:∀ u,k u u) (ht:tyOf P t=some (a,n)) (hx:ev σ x=some (.pointer (some p))) (hy:ev σ y=some v) (hn:v.cells.size=n)
  (h:∀ (j:Nat) (z:Value),v.cells[j]?=some z->∃ u,Live w (p.add j) u/\k u z) (h1:∀ u∈v.cells.toList,one1 u=true) :
  Gv P ⟨d,.store t x y,ty,pos,af,g⟩ σ w fun _ w'=>Sim k w w'/\Upd w w' p.block:=by
 refine ⟨(by intro _ h;cases h),fun ρ hρ=>.inr (.inl ?_)⟩
 have e1:=hρ x _ (by simp [Op.operands]) hx
 have e2:=hρ y _ (by simp [Op.operands]) hy
 obtain ⟨w',hr,hS,hu⟩:=Af3 (P:=P) hk ht hn h h1
 exact ⟨w',by simp [execOp,e1,e2,Instr.storeAt,Instr.sureAddr,hr],hS,hu⟩
end
def eAny:ER Unit where
 sz:=1
 isA:=false
 R:=fun _ _ e _=>∃ n,e=.int .u32 n
 csz:=by rintro S w e x ⟨n,rfl⟩;rfl
 one:=by rintro S w e x ⟨n,rfl⟩ u hu;simp [Value.cells] at hu;subst hu;rfl
 shp:=by rintro S w e x ⟨n,rfl⟩;rfl
 keep:=fun _ h=>h
 mono:=fun _ h=>h
abbrev eWs:ER (List Unit):=RL eAny
def eQs:ER Unit where
 sz:=4
 isA:=true
 R:=fun S w e _=>∃ p s q t l1 l2,e=.agg #[.bool p,s,.bool q,t]/\eWs.R S w s l1/\eWs.R S w t l2
 csz:=by rintro S w e x ⟨p,s,q,t,l1,l2,rfl,_⟩;rfl
 one:=by
  rintro S w e x ⟨p,s,q,t,l1,l2,rfl,h1,h2⟩ u hu
  have hs:=eWs.shp h1
  have ht:=eWs.shp h2
  simp [Value.cells] at hu
  rcases hu with rfl | rfl | rfl | rfl
  ·rfl
  ·exact hs
  ·rfl
  ·exact ht
 shp:=by rintro S w e x ⟨p,s,q,t,l1,l2,rfl,_⟩;rfl
 keep:=fun hk ⟨p,s,q,t,l1,l2,h,h1,h2⟩=>⟨p,s,q,t,l1,l2,h,eWs.keep hk h1,eWs.keep hk h2⟩
 mono:=fun hk ⟨p,s,q,t,l1,l2,h,h1,h2⟩=>⟨p,s,q,t,l1,l2,h,eWs.mono hk h1,eWs.mono hk h2⟩
abbrev eVs:ER (List Unit):=RL eQs
abbrev eMs:ER (List (List Unit)):=RL eVs
def kd (w:World) (u u':Value):Prop:=u'=u\/((∃ m,u=.int .u32 m)/\∃ n,u'=.int .u32 n)\/((∃ p,u=.bool p)/\∃ q,u'=.bool q)\/((∃ l,eWs.R (fun _=>True) w u l)/\u'=.slice none 0 0)
theorem kd_refl {w:World} (u:Value):kd w u u:=.inl rfl
theorem AO2 {S:Nat->Prop} {w:World} {u:Value} {l:List Unit} (h:eWs.R S w u l):∃ a c,u=.slice a l.length c:=by
 obtain ⟨a,c,h,_⟩:=RL.len h
 exact ⟨a,c,h⟩
theorem Aw8 {p:Nat->Value->Prop}:∀ n,(∀ i,i<n->∃ y,p i y)->∃ ys:List Value,ys.length=n/\∀ i y,ys[i]?=some y->p i y
 | 0,_=>⟨[],rfl,fun i y h=>by simp at h⟩
 | n+1,h=>by
  obtain ⟨ys,hl,hy⟩:=Aw8 n fun i hi=>h i (by omega)
  obtain ⟨y,hp⟩:=h n (by omega)
  refine ⟨ys++[y],by simp [hl],fun i z hz=>?_⟩
  rcases Nat.lt_or_ge i ys.length with hi | hi
  ·rw [List.getElem?_append_left hi] at hz;exact hy i z hz
  ·rw [List.getElem?_append_right hi] at hz
   cases hk:i-ys.length with
   | zero=>rw [hk] at hz;simp at hz;subst hz;rw [show i=n by omega];exact hp
   | succ k=>rw [hk] at hz;simp at hz
def Cl {α:Type} (k:Value->Value->Prop) (E:ER α) (S:Nat->Prop) (w w':World):Prop :=
 ∀ (e:Value) (x:α),E.R S w e x->∀ cs:Array Value,cs.size=e.cells.size->(∀ (j:Nat) (u:Value),e.cells[j]?=some u->∃ u':Value,cs[j]?=some u'/\k u u')->∃ e':Value,e'.cells=cs/\E.R S w' e' x
theorem RL.sim {α:Type} {E:ER α} {hsz:0<E.sz} {S:Nat->Prop} {w w':World} {v:Value} {l:List α} (h:(RL E hsz).R S w v l) {k:Value->Value->Prop} (hS:Sim k w w') (hC:Cl k E S w w'):(RL E hsz).R S w' v l:=by
 obtain ⟨es,he,a,c,hv,h1,h2,h3,h4⟩:=h
 rcases Nat.eq_zero_or_pos l.length with h0 | hpos
 ·have:l=[]:=List.length_eq_zero_iff.1 h0
  subst this
  rw [hv];exact RL.nil
 obtain ⟨ad,ha,hSb,hc⟩:=h4 hpos
 have key:∀ i,i<l.length->∃ y:Value,(∀ x,l[i]?=some x->E.R S w' y x)/\∀ j u,y.cells[j]?=some u->Live w' (ad.add (i*E.sz+j)) u:=by
  intro i hi
  have hi':i<es.length:=by rw [he.1];exact hi
  have hee:es[i]?=some es[i]:=List.getElem?_eq_getElem hi'
  have hR:=he.2 i _ _ hee (List.getElem?_eq_getElem hi)
  have hs:=E.csz hR
  obtain ⟨cs,hl,hcs⟩:=Aw8 (p:=fun j y=>Live w' (ad.add (i*E.sz+j)) y/\∀ u,es[i].cells[j]?=some u->k u y) E.sz fun j hj=>by
   obtain ⟨u,hu⟩:∃ u,es[i].cells[j]?=some u:=⟨_,Array.getElem?_eq_getElem (by rw [hs];exact hj)⟩
   have hg:=C3 es i j _ he.sz hee hj
   rw [hu] at hg
   obtain ⟨u',hl',hk⟩:=hS _ _ (hc _ u hg)
   exact ⟨u',hl',fun z hz=>by rw [hu] at hz;cases hz;exact hk⟩
  obtain ⟨e',hec,hR'⟩:=hC _ _ hR cs.toArray (by simp [hl,hs]) (fun j u hu=>by
   have hj:j<cs.length:=by
    rw [hl,<-hs]
    exact (Array.getElem?_eq_some_iff.1 hu).1
   refine ⟨cs[j],by simp [hj],(hcs j cs[j] (List.getElem?_eq_getElem hj)).2 u hu⟩)
  refine ⟨e',fun x hx=>?_,fun j u hu=>?_⟩
  ·rw [List.getElem?_eq_getElem hi] at hx;cases hx;exact hR'
  ·rw [hec] at hu
   exact (hcs j u (by simpa using hu)).1
 obtain ⟨es',hl',hes⟩:=Aw8 l.length key
 have hels:Els E S w' es' l:=⟨hl',fun i e x h1 h2=>(hes i e h1).1 x h2⟩
 refine ⟨es',hels,a,c,hv,h1,h2,by rw [B6 _ hels.sz,hl'],fun _=>⟨ad,ha,hSb,fun j u hu=>?_⟩⟩
 have hjl:j<l.length*E.sz:=by
  rcases Nat.lt_or_ge j (l.length*E.sz) with h | h
  ·exact h
  ·rw [List.getElem?_eq_none (by rw [B6 _ hels.sz,hl'];exact h)] at hu;cases hu
 have hq:j / E.sz<l.length:=(Nat.div_lt_iff_lt_mul hsz).2 hjl
 have hr:j % E.sz<E.sz:=Nat.mod_lt _ hsz
 have hjd:(j / E.sz)*E.sz+j % E.sz=j:=by rw [Nat.mul_comm];exact Nat.div_add_mod j E.sz
 obtain ⟨y,hy⟩:∃ y,es'[j / E.sz]?=some y:=⟨_,List.getElem?_eq_getElem (by rw [hl'];exact hq)⟩
 have hg:=C3 es' (j / E.sz) (j % E.sz) y hels.sz hy hr
 rw [hjd,hu] at hg
 have:=(hes _ y hy).2 (j % E.sz) u hg.symm
 rw [hjd] at this
 exact this
theorem BK1 {e:Value} (h:one1 e=true):e.cells=#[e]:=by cases e<;>first | rfl | (simp [one1] at h)
theorem cl_any {S:Nat->Prop} {w w':World}:Cl (kd w) eAny S w w':=by
 rintro e x ⟨n,rfl⟩ cs hcs hk
 obtain ⟨u',hu',hkd⟩:=hk 0 _ rfl
 obtain ⟨l⟩:=cs
 match l,hcs with
 | [z],_ =>
  simp at hu'
  subst hu'
  rcases hkd with rfl | ⟨_,m,rfl⟩ | ⟨⟨_,h⟩,_⟩ | ⟨⟨_,h⟩,_⟩
  ·exact ⟨.int .u32 n,rfl,n,rfl⟩
  ·exact ⟨.int .u32 m,rfl,m,rfl⟩
  ·cases h
  ·obtain ⟨a,c,h⟩:=AO2 h
   cases h
theorem eWs.sim {S:Nat->Prop} {w w':World} {v:Value} {l:List Unit} (h:eWs.R S w v l) (hS:Sim (kd w) w w'):eWs.R S w' v l:=RL.sim h hS cl_any
theorem BB2 {w:World} {p:Bool} {u:Value} (h:kd w (.bool p) u):∃ q,u=.bool q:=by
 rcases h with rfl | ⟨⟨_,h⟩,_⟩ | ⟨_,h⟩ | ⟨⟨_,h⟩,_⟩
 ·exact ⟨_,rfl⟩
 ·cases h
 ·exact h
 ·obtain ⟨a,c,h⟩:=AO2 h
  cases h
theorem Aq3 {w:World} {a:Option Addr} {n c:Nat} {u:Value} (h:kd w (.slice a n c) u):u=.slice a n c\/((∃ l,eWs.R (fun _=>True) w (.slice a n c) l)/\u=.slice none 0 0):=by
 rcases h with rfl | ⟨⟨_,h⟩,_⟩ | ⟨⟨_,h⟩,_⟩ | h
 ·exact .inl rfl
 ·cases h
 ·cases h
 ·exact .inr h
theorem kd_ws {S:Nat->Prop} {w w':World} {s u:Value} {l:List Unit} (h:eWs.R S w s l) (hS:Sim (kd w) w w') (hk:kd w s u):∃ l',eWs.R S w' u l':=by
 have h':=eWs.sim h hS
 obtain ⟨a,c,rfl⟩:=AO2 h
 rcases Aq3 hk with rfl | ⟨_,rfl⟩
 ·exact ⟨l,h'⟩
 ·exact ⟨[],RL.nil⟩
theorem cl_q {S:Nat->Prop} {w w':World} (hS:Sim (kd w) w w'):Cl (kd w) eQs S w w':=by
 rintro e x ⟨p,s,q,t,l1,l2,rfl,h1,h2⟩ cs hcs hk
 obtain ⟨u0,g0,k0⟩:=hk 0 _ rfl
 obtain ⟨u1,g1,k1⟩:=hk 1 _ rfl
 obtain ⟨u2,g2,k2⟩:=hk 2 _ rfl
 obtain ⟨u3,g3,k3⟩:=hk 3 _ rfl
 obtain ⟨l⟩:=cs
 match l,hcs with
 | [z0,z1,z2,z3],_ =>
  simp at g0 g1 g2 g3
  subst g0 g1 g2 g3
  obtain ⟨p',rfl⟩:=BB2 k0
  obtain ⟨q',rfl⟩:=BB2 k2
  obtain ⟨m1,hm1⟩:=kd_ws h1 hS k1
  obtain ⟨m2,hm2⟩:=kd_ws h2 hS k3
  exact ⟨.agg #[.bool p',z1,.bool q',z3],rfl,p',z1,q',z3,m1,m2,rfl,hm1,hm2⟩
theorem eVs.sim {S:Nat->Prop} {w w':World} {v:Value} {l:List Unit} (h:eVs.R S w v l) (hS:Sim (kd w) w w'):eVs.R S w' v l:=RL.sim h hS (cl_q hS)
theorem BK4 {S S':Nat->Prop} {w:World} {v:Value} {l l':List Unit} (h:eVs.R S w v l) (h':eWs.R S' w v l'):l=[]:=by
 rcases Nat.eq_zero_or_pos l.length with h0 | hpos
 ·exact List.length_eq_zero_iff.1 h0
 exfalso
 obtain ⟨a1,c1,hv1⟩:=AO2 h'
 obtain ⟨es,he,a,c,hv,_,_,_,h4⟩:=h
 obtain ⟨es',he',a',c',hv',_,_,_,h4'⟩:=h'
 rw [hv] at hv'
 injection hv' with e1 e2 e3
 subst e1
 obtain ⟨ad,rfl,_,hc⟩:=h4 hpos
 obtain ⟨ad',ha',_,hc'⟩:=h4' (by omega)
 cases ha'
 obtain ⟨e,hee⟩:∃ e,es[0]?=some e:=⟨_,List.getElem?_eq_getElem (by rw [he.1];exact hpos)⟩
 obtain ⟨e',hee'⟩:∃ e,es'[0]?=some e:=⟨_,List.getElem?_eq_getElem (by rw [he'.1];omega)⟩
 obtain ⟨p,s,q,t,l1,l2,rfl,_⟩:=he.2 0 _ _ hee (List.getElem?_eq_getElem hpos)
 obtain ⟨n,rfl⟩:=he'.2 0 _ _ hee' (List.getElem?_eq_getElem (by omega))
 have g1:=C3 es 0 0 _ he.sz hee (by decide)
 have g2:=C3 es' 0 0 _ he'.sz hee' (by decide)
 have h1:=hc 0 _ g1
 have h2:=hc' 0 _ g2
 cases h1.inj h2
theorem cl_v {S:Nat->Prop} {w w':World} (hS:Sim (kd w) w w'):Cl (kd w) eVs S w w':=by
 rintro e l h cs hcs hk
 have h':=eVs.sim h hS
 obtain ⟨a,c,rfl,_⟩:=RL.len h
 obtain ⟨u',hu',hkd⟩:=hk 0 _ rfl
 obtain ⟨cl⟩:=cs
 match cl,hcs with
 | [z],_ =>
  simp at hu'
  subst hu'
  rcases Aq3 hkd with rfl | ⟨⟨l',hw⟩,rfl⟩
  ·exact ⟨_,rfl,h'⟩
  ·have:=BK4 h hw
   subst this
   exact ⟨_,rfl,RL.nil⟩
theorem eMs.sim {S:Nat->Prop} {w w':World} {v:Value} {l:List (List Unit)} (h:eMs.R S w v l) (hS:Sim (kd w) w w'):eMs.R S w' v l:=RL.sim h hS (cl_v hS)
theorem RL.weak {α β:Type} {E:ER α} {E':ER β} {hsz:0<E.sz} {hsz':0<E'.sz} {S:Nat->Prop} {w:World} {v:Value} {l:List α} (f:α->β) (h:(RL E hsz).R S w v l) (hs:E.sz=E'.sz) (hE:∀ e x,E.R S w e x->E'.R S w e (f x)):(RL E' hsz').R S w v (l.map f):=by
 obtain ⟨es,he,a,c,hv,h1,h2,h3,h4⟩:=h
 refine ⟨es,⟨by simp [he.1],fun i e y hx hy=>?_⟩,a,c,by simp [hv],by simp;exact h1,by simp;exact h2,by rw [h3];simp [hs],fun hn=>h4 (by simpa using hn)⟩
 rw [List.getElem?_map] at hy
 cases hl:l[i]? with
 | none=>rw [hl] at hy;cases hy
 | some x=>rw [hl] at hy;cases hy;exact hE _ _ (he.2 i e x hx hl)
theorem eW.shape {S:Nat->Prop} {w:World} {v:Value} {l:List Nat} (h:eW.R S w v l):eWs.R S w v (l.map fun _=>()):=RL.weak _ h O fun e x h=>⟨_,h.1⟩
theorem eQ.shape {S:Nat->Prop} {w:World} {v:Value} {q:QV} (h:eQ.R S w v q):eQs.R S w v ():=by
 obtain ⟨s,t,rfl,h1,h2⟩:=h
 exact ⟨_,s,_,t,_,_,rfl,eW.shape h1,eW.shape h2⟩
theorem eV.shape {S:Nat->Prop} {w:World} {v:Value} {l:List QV} (h:eV.R S w v l):eVs.R S w v (l.map fun _=>()):=RL.weak (E:=eQ) (E':=eQs) (fun _=>()) h O fun _ _ h=>eQ.shape h
theorem eM.shape {S:Nat->Prop} {w:World} {v:Value} {m:List (List QV)} (h:eM.R S w v m):eMs.R S w v (m.map fun l=>l.map fun _=>()):=RL.weak (E:=eV) (E':=eVs) _ h O fun _ _ h=>eV.shape h
def PtrL {α:Type} (E:ER α) (S:Nat->Prop) (w:World) (p:Addr) (x:α):Prop:=∃ e,E.R S w e x/\S p.block/\∀ j u,e.cells[j]?=some u->Live w (p.add j) u
theorem RL.atL {α:Type} {E:ER α} {hsz:0<E.sz} {S:Nat->Prop} {w:World} {v:Value} {l:List α} (h:(RL E hsz).R S w v l) {i:Nat} {x:α} (hi:l[i]?=some x):∃ ad c,v=.slice (some ad) l.length c/\PtrL E S w (ad.add (i*E.sz)) x:=by
 obtain ⟨es,h1,a,c,hv,h2,_,h3,h4⟩:=h
 have hlt:i<l.length:=(List.getElem?_eq_some_iff.1 hi).1
 obtain ⟨ad,ha,hS,hc⟩:=h4 (by omega)
 subst ha
 obtain ⟨e,he⟩:∃ e,es[i]?=some e:=⟨_,List.getElem?_eq_getElem (by rw [h1.1];exact hlt)⟩
 refine ⟨ad,c,hv,e,h1.2 i e x he hi,by rw [F5];exact hS,fun j u hu=>?_⟩
 rw [P9]
 refine hc _ u ?_
 have hj:j<E.sz:=by
  have hs:=h1.sz e (List.mem_iff_getElem?.2 ⟨i,he⟩)
  have:=(Array.getElem?_eq_some_iff.1 hu).1
  omega
 rw [C3 es i j e h1.sz he hj];exact hu
section
variable {P:Program} {ro:Option Nat} {N:Nat} {ds:List Deferred} {ops:Array Oper} {K:Env->World->Prop} {rest:List Oper} {σ:Env} {w:World} {d:Tmp} {ty:TypeId} {pos:String} {af:Array Edge} {α:Type} {E:ER α} {hsz:0<E.sz} {S:Nat->Prop} {v:Value} {l:List α}
theorem T6 {dd:Option Tmp} {gd:Option (Nat×Bool)} {t e:TypeId} {x ix:Operand} {k:IntKind} {i:Nat} {b:Bool} {sz n c:Nat} {ad:Addr} (ht:P.underlying t=some (.slice e)) (he:tyOf P e=some (b,sz)) (hx:ev σ x=some (.slice (some ad) n c))
  (hi:ev σ ix=some (.int k (i:Int))) (hlt:i<n):Vl P ⟨dd,.indexAddr t x ix,ty,pos,af,gd⟩ σ w (.pointer (some (ad.add (i*sz)))):=by
 refine ⟨(by intro _ h;cases h),fun ρ hρ=>?_⟩
 have h1:=hρ x _ (by simp [Op.operands]) hx
 have h2:=hρ ix _ (by simp [Op.operands]) hi
 have hlt':(i:Int)<(n:Int):=by omega
 simp [execOp,h1,h2,Instr.indexAt,asIntOf,run_underlying ht,(G1 he w).2]
 intro hh;omega
theorem WL.ixL {t e:TypeId} {x ix:Operand} {k:IntKind} {i:Nat} {b:Bool} {y:α} (ht:P.underlying t=some (.slice e)) (he:tyOf P e=some (b,E.sz)) (hd:Nat.blt d N=true) (hx:ev σ x=some v) (h:(RL E hsz).R S w v l)
  (hi:ev σ ix=some (.int k (i:Int))) (hy:l[i]?=some y) (kk:∀ p,PtrL E S w p y->WL P ro N ds ops K rest ((d,.pointer (some p))::σ) w) :
  WL P ro N ds ops K (⟨some d,.indexAddr t x ix,ty,pos,af,none⟩::rest) σ w:=by
 obtain ⟨ad,c,rfl,hp⟩:=RL.atL h hy
 exact WL.vl O hd (T6 ht he hx hi (List.getElem?_eq_some_iff.1 hy).1) (kk _ hp)
theorem WL.stL {t:TypeId} {x y:Operand} {p:Addr} {n:Nat} {a:Bool} {u:Value} {z:α} (ht:tyOf P t=some (a,n)) (hx:ev σ x=some (.pointer (some p))) (hy:ev σ y=some u) (hn:u.cells.size=n) (hp:PtrL E S w p z)
  (hk:∀ e:Value,E.R S w e z->∀ (j:Nat) (c:Value),u.cells[j]?=some c->∃ c0:Value,e.cells[j]?=some c0/\kd w c0 c) (h1:∀ c∈u.cells.toList,one1 c=true) (kk:∀ w',Sim (kd w) w w'->Chg S w w'->WL P ro N ds ops K rest σ w') :
  WL P ro N ds ops K (⟨none,.store t x y,ty,pos,af,none⟩::rest) σ w:=by
 obtain ⟨e,he,hS,hc⟩:=hp
 exact WL.gv O O (BM1 kd_refl ht hx hy hn (fun j c hj=>by
  obtain ⟨c0,h0,hkd⟩:=hk e he j c hj
  exact ⟨c0,hc j c0 h0,hkd⟩) h1) fun _ w' ⟨hs,hu⟩=>kk w' hs (Chg.upd hu hS)
end
end Go.Kx
namespace Go.Proofs.YtggegpiffjbngaaGreat
open Go Go.Kx Go.RowKit
section
variable {W W':World} {v va vb:Value} {n c n' c' L L':Nat} {a b m:List (List QV)} {x y:List QV}
end
end Go.Proofs.YtggegpiffjbngaaGreat
namespace Go.Kx
open Go Go.RowKit
section
variable {α:Type} {E:ER α} {t:TypeId} {S:Nat->Prop} {w w':World} {g:Nat} {l:List α}
end
end Go.Kx
namespace Go.Proofs.YtggegpiffjbngaaGreat
open Go Go.Kx Go.RowKit
end Go.Proofs.YtggegpiffjbngaaGreat
namespace Go.Kx
open Go Go.RowKit
theorem eMs.loc {S:Nat->Prop} {w:World} {v:Value} {rows:List (List Unit)} {row:List Unit} {i:Nat} (h:eMs.R S w v rows) (hi:rows[i]?=some row):∃ ad c vr,v=.slice (some ad) rows.length c/\w.cell? (ad.add (i*1))=some vr/\eVs.R S w vr row:=by
 obtain ⟨ad,c,hv,_,e,he,_,hc⟩:=RL.at_ h hi
 have h0:=eVs.shp he
 have hce:=BK1 (show one1 e=true from h0)
 exact ⟨ad,c,e,hv,by have:=hc 0 e (by rw [hce];rfl);rwa [show (ad.add (i*eVs.sz)).add 0=ad.add (i*1) from rfl] at this,he⟩
theorem eVs.loc {S:Nat->Prop} {w:World} {v:Value} {row:List Unit} {k:Nat} (h:eVs.R S w v row) (hk:row[k]?=some ()):∃ ad c s t l1 l2,v=.slice (some ad) row.length c/\PtrL eQs S w (ad.add (k*4)) ()/\w.cell? (((ad.add (k*4)).add 0).add 1)=some s/\eWs.R S w s l1/\w.cell? (((ad.add (k*4)).add 2).add 1)=some t/\eWs.R S w t l2:=by
 obtain ⟨ad,c,hv,hp⟩:=RL.atL h hk
 have hp':=hp
 obtain ⟨e,⟨b,s,d,t,l1,l2,rfl,h1,h2⟩,_,hc⟩:=hp'
 exact ⟨ad,c,s,t,l1,l2,hv,hp,by rw [P9];exact (hc 1 s O).1,h1,by rw [P9];exact (hc 3 t O).1,h2⟩
theorem BB1 {S:Nat->Prop} {w:World} {n:Int} (e:Value) (he:eAny.R S w e ()) (j:Nat) (c:Value) (hj:(Value.int .u32 n).cells[j]?=some c):∃ c0:Value,e.cells[j]?=some c0/\kd w c0 c:=by
 obtain ⟨m,rfl⟩:=he
 cases j with
 | zero=>exact ⟨.int .u32 m,rfl,.inr (.inl ⟨⟨m,rfl⟩,n,by simpa [Value.cells] using hj.symm⟩)⟩
 | succ j=>simp [Value.cells] at hj
theorem kd_rat {S:Nat->Prop} {w:World} (e:Value) (he:eQs.R S w e ()) (j:Nat) (c:Value) (hj:zq.cells[j]?=some c):∃ c0:Value,e.cells[j]?=some c0/\kd w c0 c:=by
 obtain ⟨b,s,d,t,l1,l2,rfl,h1,h2⟩:=he
 match j with
 | 0=>exact ⟨.bool b,rfl,.inr (.inr (.inl ⟨⟨b,rfl⟩,false,by simpa [Value.cells] using hj.symm⟩))⟩
 | 1=>exact ⟨s,rfl,.inr (.inr (.inr ⟨⟨l1,eWs.mono (fun _ _ _=>trivial) h1⟩,by simpa [Value.cells] using hj.symm⟩))⟩
 | 2=>exact ⟨.bool d,rfl,.inr (.inr (.inl ⟨⟨d,rfl⟩,false,by simpa [Value.cells] using hj.symm⟩))⟩
 | 3=>exact ⟨t,rfl,.inr (.inr (.inr ⟨⟨l2,eWs.mono (fun _ _ _=>trivial) h2⟩,by simpa [Value.cells] using hj.symm⟩))⟩
 | j+4=>simp [Value.cells] at hj
end Go.Kx
namespace Go.Proofs.YtggegpiffjbngaaGreat
open Go Go.Kx Go.RowKit
theorem AL4:Ent Tryz.prog 23:=A0 Tryz.func23 (by kernel_rfl) rfl
set_option maxRecDepth 8000 in
theorem AK8 {S:Nat->Prop} {w:World} {v:Value} {rows:List (List Unit)} (h:eMs.R S w v rows):Calls Tryz.prog 23 #[v] w fun e w'=>∃ u,e=.returned u/\Chg S w w':=by
 obtain ⟨_,_,_,_,hrl⟩:=RL.len h
 refine enterG Tryz.func23 O Tryz.ntmps23 O (.beg (.goC O ?_))
 refine .lp (α:=Nat) [0] O (fun i=>[(2,.int .i64 (i:Nat))]) (fun i W=>Chg S w W/\eMs.R S W v rows/\i<=rows.length) (fun i=>rows.length-i) 0 (lc1 O) ⟨Chg.refl _,h,Nat.zero_le _⟩ ?_
 rintro i W ⟨hC,hM,hi⟩
 refine .go O (.lenR un_M O O hM ?_)
 rcases Nat.lt_or_ge i rows.length with hlt | hge
 rotate_left
 ·exact .lssF O O O (by omega) (.goE O (.plain [] Tryz.results23 trivial hC))
 have hgi:rows[i]?=some (rows.getD i []):=A7 hlt
 generalize rows.getD i []=row at hgi
 have hrow:row.length<=9223372036854775807:=by
  obtain ⟨_,_,_,_,_,hr⟩:=eMs.loc hM hgi
  obtain ⟨_,_,_,_,hl⟩:=RL.len hr
  exact hl
 refine .lssT O O O (by omega) (.goC O ?_)
 refine .lp (α:=Nat) [0,2] O (fun k=>[(3,.int .i64 (k:Nat))]) (fun k W=>Chg S w W/\eMs.R S W v rows/\k<=row.length) (fun k=>row.length-k) 0 (lc1 O) ⟨hC,hM,Nat.zero_le _⟩ ?_
 clear hC hM
 rintro k W ⟨hC,hM,hk⟩
 obtain ⟨ad,cm,vr,hv,hvr,hr⟩:=eMs.loc hM hgi
 refine .go O (.vl O O (T6 un_M ty_V (congrArg some hv) O hlt) ?_)
 refine .vl O O (Y2 ty_V O hvr) (.lenR un_V O O hr ?_)
 rcases Nat.lt_or_ge k row.length with hltk | hgek
 rotate_left
 ·exact .lssF O O O (by omega) (.go O (.inc O O O (by omega) (.goN O (.mk (i+1) O (lc1 O) ⟨⟨hC,hM,hlt⟩,by show rows.length-(i+1)<rows.length-i;omega⟩))))
 have hgk:row[k]?=some ():=List.getElem?_eq_getElem hltk
 refine .lssT O O O (by omega) (.goC O ?_)
 clear hv hvr hr
 refine .lp (α:=Nat) [0,2,3] O (fun j=>[(4,.int .i64 (j:Nat))]) (fun j W=>Chg S w W/\eMs.R S W v rows/\j<=9223372036854775807) (fun j=>9223372036854775807-j) 0 (lc1 O) ⟨hC,hM,Nat.zero_le _⟩ ?_
 clear hC hM
 rintro j W ⟨hC,hM,hj⟩
 have hM0:=hM
 obtain ⟨ad,cm,vr,hv,hvr,hr⟩:=eMs.loc hM hgi
 obtain ⟨ad2,cr,sv,tv,l1,l2,rfl,hq,hsc,hs,htc,ht⟩:=eVs.loc hr hgk
 obtain ⟨asl,csl,hsv,_,hsl⟩:=RL.len hs
 refine .go O (.vl O O (T6 un_M ty_V (congrArg some hv) O hlt) (.vl O O (Y2 ty_V O hvr) (.go O (.vl O O (T6 un_V ty_Q O O hltk) (.faP M9 O O (.faP D0 O O (.vl O O (Y2 ty_W O hsc) (.lenR un_W O O hs ?_))))))))
 rcases Nat.lt_or_ge j l1.length with hltj | hgej
 ·have hgj:l1[j]?=some ():=List.getElem?_eq_getElem hltj
  refine .lssT O O O (by omega) (.go O (.vl O O (T6 un_M ty_V (congrArg some hv) O hlt) (.vl O O (Y2 ty_V O hvr) (.go O (.vl O O (T6 un_V ty_Q O O hltk) (.faP M9 O O (.faP D0 O O (.vl O O (Y2 ty_W O hsc) (.go O (.ixL (i:=j) un_W A6 O O hs O hgj fun p3 hp3=>?_))))))))))
  refine .stL A6 O O O hp3 BB1 (by simp [Value.cells,one1]) fun W3 hsim hchg=>?_
  exact .go O (.inc O O O (by omega) (.goN O (.mk (j+1) O (lc1 O) ⟨⟨hC.trans hchg,eMs.sim hM0 hsim,by show j+1<=_;omega⟩,by show 9223372036854775807-(j+1)<9223372036854775807-j;omega⟩)))
 refine .lssF O O O (by omega) (.goC O ?_)
 clear hj hgej hv hvr hr hq hsc hs htc ht hsv hsl hM0
 refine .lp (α:=Nat) [0,2,3] O (fun j=>[(5,.int .i64 (j:Nat))]) (fun j W=>Chg S w W/\eMs.R S W v rows/\j<=9223372036854775807) (fun j=>9223372036854775807-j) 0 (lc1 O) ⟨hC,hM,Nat.zero_le _⟩ ?_
 clear hC hM
 rintro j W ⟨hC,hM,hj⟩
 have hM0:=hM
 obtain ⟨ad,cm,vr,hv,hvr,hr⟩:=eMs.loc hM hgi
 obtain ⟨ad2,cr,sv,tv,l1,l2,rfl,hq,hsc,hs,htc,ht⟩:=eVs.loc hr hgk
 obtain ⟨asl,csl,hsv,_,hsl⟩:=RL.len ht
 refine .go O (.vl O O (T6 un_M ty_V (congrArg some hv) O hlt) (.vl O O (Y2 ty_V O hvr) (.go O (.vl O O (T6 un_V ty_Q O O hltk) (.faP M8 O O (.faP D0 O O (.vl O O (Y2 ty_W O htc) (.lenR un_W O O ht ?_))))))))
 rcases Nat.lt_or_ge j l2.length with hltj | hgej
 ·have hgj:l2[j]?=some ():=List.getElem?_eq_getElem hltj
  refine .lssT O O O (by omega) (.go O (.vl O O (T6 un_M ty_V (congrArg some hv) O hlt) (.vl O O (Y2 ty_V O hvr) (.go O (.vl O O (T6 un_V ty_Q O O hltk) (.faP M8 O O (.faP D0 O O (.vl O O (Y2 ty_W O htc) (.go O (.ixL (i:=j) un_W A6 O O ht O hgj fun p3 hp3=>?_))))))))))
  refine .stL A6 O O O hp3 BB1 (by simp [Value.cells,one1]) fun W3 hsim hchg=>?_
  exact .go O (.inc O O O (by omega) (.goN O (.mk (j+1) O (lc1 O) ⟨⟨hC.trans hchg,eMs.sim hM0 hsim,by show j+1<=_;omega⟩,by show 9223372036854775807-(j+1)<9223372036854775807-j;omega⟩)))
 refine .lssF O O O (by omega) (.go O ?_)
 refine .vl O O (T6 un_M ty_V (congrArg some hv) O hlt) (.vl O O (Y2 ty_V O hvr) (.go O (.bld _ O O AE4 (.vl O O (T6 un_V ty_Q O O hltk) ?_))))
 refine .stL (u:=zq) ty_Q O O O hq kd_rat (by simp [Value.cells,one1]) fun W3 hsim hchg=>?_
 exact .go O (.inc O O O (by omega) (.goN O (.mk (k+1) O (lc1 O) ⟨⟨hC.trans hchg,eMs.sim hM0 hsim,hltk⟩,by show row.length-(k+1)<row.length-k;omega⟩)))
set_option maxRecDepth 8000 in
theorem AD7 {w:World} {vn vo vx:Value} {n:NtV} {o:List Int} {x:List QV} (hn:eN.R (fun _=>True) w vn n) (ho:eI.R (fun _=>True) w vo o) (hx:eV.R (fun _=>True) w vx x):CR Tryz.prog 6 #[vn,vo,vx] w (Is (.bool true)):=by
 obtain ⟨s,rfl,hs,hb⟩:=hn
 have hn:eN.R (fun _=>True) w (.agg #[.int .i64 n.b,s]) n:=⟨s,rfl,hs,hb⟩
 obtain ⟨ax,cx,hvx,_,hxl⟩:=RL.len hx
 refine enter Tryz.func6 O Tryz.ntmps6 O (.beg (.go O (.box O O fun w1 b3 n1=>?_)))
 obtain ⟨e1,k3,hb3,hs1⟩:=n1
 refine .go O (.ldA ty_N O O k3 O (.go O (.bsl _ O O (by rw [hvx];exact BN3) fun w2 b17 n2=>?_)))
 have hl:eM.R (fun _=>True) w2 (.slice (some ⟨b17,0,none⟩) 1 1) [x]:=Ax0 [vx] [x] n2 upT (by rw [hvx]) O (by decide) (Els.snoc Els.nil (ER.ext eV hx e1))
 have x2:=e1.trans n2.1
 refine .call _ O Am5 O (Ak6 (hn.ext x2) (ho.ext x2) hl) fun v3 w3 e3 h3=>?_
 obtain ⟨bl,rfl,hlong⟩:=h3
 have x3:=x2.trans e3
 clear hl
 cases bl with
 | true =>
  refine .go O (.call _ O AL3 O AK7 fun v4 w4 e4 h4=>?_)
  subst h4
  exact .goE O (.plain [_] Tryz.results6 ⟨rfl,trivial⟩ ⟨x3.trans e4,rfl⟩)
 | false =>
 have k3:=k3.ext (n2.1.trans e3)
 have hk:vk 4 x:=(hlong O x (by simp)).vk hx
 have hx20:x.length<=20:=(hlong O x (by simp)).1
 have hqk:∀ q∈x,qok 1000000000 q:=fun q hq=>((hlong O x (by simp)).2 q hq).mono (by decide)
 refine .go O (.ldA ty_N O O k3 O (.go O ?_))
 refine .call _ O Ag2 O (Af4 upT (hn.ext x3) (ho.ext x3)) fun v4 w4 e4 h4=>?_
 obtain ⟨vm,ve,rfl,hm,rfl⟩:=h4
 have hm:eM.R (fun _=>True) w4 vm (if outE n o=0 then tabM (nwOf n o).B (nwOf n o).B (nwOf n o).Lm else []):=by
  by_cases hO:outE n o=0
  ·have ok:=T8 hO
   rw [if_pos hO] at hm
   rw [if_pos hO]
   obtain ⟨g,vs,base,rfl,_,_,hR⟩:=hm
   have hr:=hR.toR (T:=fun _=>True) trivial (fun _ _=>trivial) (fun _ _=>trivial) (by rw [B0];have:=ok.b6;omega)
   rw [B0,Nw.tab_Lk ok.ok] at hr
   exact hr
  ·rw [if_neg hO] at hm
   rw [if_neg hO]
   subst hm
   exact RL.nil
 have x4:=x3.trans e4
 have k3:=k3.ext e4
 refine .go O (.ldA ty_N O O k3 O (.go O ?_))
 refine .call _ O Ae4 O (Ab5 (L:=4) upT (hn.ext x4) (ho.ext x4) (ER.ext eV hx x4) hk (by decide) (by decide)) fun v5 w5 e5 h5=>?_
 obtain ⟨vb,ve,rfl,hby,rfl⟩:=h5
 have x5:=x4.trans e5
 have k3:=k3.ext e5
 refine .go O (.ldA ty_N O O k3 O (.go O ?_))
 refine .call _ O AW6 O (AV0 (L:=4) upT (hn.ext x5) (ho.ext x5) (ER.ext eV hx x5) hk (by decide) (by decide)) fun v6 w6 e6 h6=>?_
 obtain ⟨vf,ve,rfl,hof,rfl⟩:=h6
 have x6:=x5.trans e6
 have k3:=k3.ext e6
 refine .go O (.call _ O At9 O (Aq1 upT (ER.ext eV hx x6) hqk (by omega)) fun vi w7 e7 hi=>?_)
 have x7:=x6.trans e7
 have k3:=k3.ext e7
 have hm:=ER.ext eM hm ((e5.trans e6).trans e7)
 have hby:=ER.ext eV hby (e6.trans e7)
 have hof:=ER.ext eV hof e7
 have hn7:=hn.ext x7
 have ho7:=ho.ext x7
 have hx7:=ER.ext eV hx x7
 refine .goC O ?_
 refine .lp (α:=Nat) [1,2,3,7,8,9,10,11,12,13] O (fun r=>[(14,.int .i64 (r:Nat))]) (fun r W=>Ext w7 W/\r<=2) (fun r=>2-r) 0 (lc1 O) ⟨Ext.refl _,Nat.zero_le _⟩ ?_
 rintro r W ⟨hW,hr⟩
 have zW:=hW.size
 refine .go O ?_
 rcases Nat.lt_or_ge r 2 with hlt | hge
 rotate_left
 ·refine .lssF O O O (by omega) (.go O (.call _ O AL3 O AK7 fun v8 w8 e8 h8=>?_))
  subst h8
  exact .goE O (.plain [_] Tryz.results6 ⟨rfl,trivial⟩ ⟨(x7.trans hW).trans e8,rfl⟩)
 refine .lssT O O O (by omega) (.go O (.ldA ty_N O O (k3.ext hW) O (.go O ?_)))
 refine .call _ O AC5 O (AT7 (S:=fun _=>True) (T0:=fun k=>w7.heap.size<=k) upT (fun k hk=>by omega) (hn7.ext hW) (ho7.ext hW)) fun v8 W1 d1 h8=>?_
 obtain ⟨va,ve,rfl,ha,rfl⟩:=h8
 have ha:eM.R (fun k=>w7.heap.size<=k) W1 va (if outE n o=0 then tabM (nwOf n o).B (nwOf n o).B (nwOf n o).Lm else []):=by
  by_cases hO:outE n o=0
  ·have ok:=T8 hO
   have hB6:=ok.b6
   rw [if_pos hO] at ha
   rw [if_pos hO]
   exact (MBat.toF ha (fun k hk=>by omega) (by omega)).toR (fun k hk=>by omega) (B0 ..) (by omega)
  ·rw [if_neg hO] at ha
   rw [if_neg hO]
   subst ha
   exact RL.nil
 have hW1:=hW.trans d1
 have z1:=hW1.size
 refine .go O (.ldA ty_N O O (k3.ext hW1) O (.go O ?_))
 refine .call _ O Z6 O (Y8 (S:=fun _=>True) (T0:=fun k=>W1.heap.size<=k) (L:=4) upT (fun k hk=>hk) (hn7.ext hW1) (ho7.ext hW1) (ER.ext eV hi hW1) hk (by decide) (by decide)) fun v9 W2 d2 h9=>?_
 obtain ⟨vb2,ve,rfl,hb2,rfl⟩:=h9
 have hW2:=hW1.trans d2
 refine .go O (.ldA ty_N O O (k3.ext hW2) O (.go O ?_))
 refine .call _ O AS2 O (AQ6 (S:=fun _=>True) (T0:=fun k=>W1.heap.size<=k) (L:=4) upT (fun k hk=>by have:=d2.size;omega) (hn7.ext hW2) (ho7.ext hW2) (ER.ext eV hi hW2) hk (by decide) (by decide)) fun v10 W3 d3 h10=>?_
 obtain ⟨vc2,ve,rfl,hc2,rfl⟩:=h10
 have hW3:=hW2.trans d3
 have hb3:=ER.ext eV hb2 d3
 have ha3:=ER.ext eM (ER.lt eM ha) (d2.trans d3)
 refine .go O (.neqF O O O O (.go O (.neqF O O O O (.go O (.neqF O O O O (.go O ?_))))))
 refine .call _ O Ay1 O (isM_t (eM.mono (fun _ _ _=>trivial) ha3) (ER.ext eM hm hW3) O) fun v11 W4 d4 h11=>?_
 subst h11
 refine .go O (.call _ O R4 O (Aq4 (ER.ext eV (eV.mono (fun _ _ _=>trivial) hb3) d4) (ER.ext eV hby (hW3.trans d4)) O) fun v12 W5 d5 h12=>?_)
 subst h12
 refine .go O (.call _ O R4 O (Aq4 (ER.ext eV (eV.mono (fun _ _ _=>trivial) hc2) (d4.trans d5)) (ER.ext eV hof ((hW3.trans d4).trans d5)) O) fun v13 W6 d6 h13=>?_)
 subst h13
 have dd:=(d4.trans d5).trans d6
 have hW6:=hW3.trans dd
 refine .go O (.call _ O R4 O (Aq4 (ER.ext eV hi hW6) (ER.ext eV hx7 hW6) O) fun v14 W7 d7 h14=>?_)
 subst h14
 have d37:=dd.trans d7
 have hW7:=hW6.trans d7
 have ha7:=ER.ext eM ha3 d37
 have hb7:=ER.ext eV hb3 d37
 have hc7:=ER.ext eV hc2 d37
 refine .go O (.callG _ O AL4 O (AK8 (eM.shape ha7)) fun v15 W8 hC8=>?_)
 have hW8:Ext w7 W8:=Chg.below hC8 hW7 hW7.size fun k hk=>hk.1
 have hb8:=eV.keep (hC8.kp (S:=fun k=>W1.heap.size<=k) fun k hk h=>by have:=h.2;omega) hb7
 have hc8:=eV.keep (hC8.kp (S:=fun k=>W1.heap.size<=k) fun k hk h=>by have:=h.2;omega) hc7
 have z8:=hC8.size
 have z17:=((d2.trans d3).trans d37).size
 obtain ⟨_,_,hvb,_,_⟩:=RL.len hb8
 obtain ⟨_,_,hvc,_,_⟩:=RL.len hc8
 refine .go O (.bsl _ O O (by rw [hvb,hvc];exact bsl_M2) fun W9 b9 n9=>?_)
 have hbc:eM.R (fun k=>W1.heap.size<=k) W9 (.slice (some ⟨b9,0,none⟩) 2 2) [_,_]:=Ax0 [vb2,vc2] [_,_] n9 (fun k hk=>by omega) (by rw [hvb,hvc]) O (by decide) (Els.snoc (Els.snoc Els.nil hb8) hc8)
 have hW9:=hW8.trans n9.1
 refine .go O (.callG _ O AL4 O (AK8 (eM.shape hbc)) fun v16 W10 hC10=>?_)
 have hW10:Ext w7 W10:=Chg.below hC10 hW9 hW9.size fun k hk=>Nat.le_trans z1 hk
 exact .go O (.inc O O O (by omega) (.goN O (.mk (r+1) O (lc1 O) ⟨⟨hW10,hlt⟩,by show 2-(r+1)<2-r;omega⟩)))
end Go.Proofs.YtggegpiffjbngaaGreat
namespace Go.Kx
open Go Go.RowKit Go.ChangeShapes Go.WideShapes
section
variable {H:Type} {enc:TypeId×Value->H} {P:Program} {W:World}
def sh4 (P:Program) (t:TypeId):Option (List (TypeId×Nat)) :=
 match P.underlying t with
 | some (.struct fs)=>if fs.size=4 then some (fs.toList.map fun f=>(f.type,f.offset)) else none
 | _=>none
theorem BK0 {t ti tj:TypeId} (hs:sh4 P t=some [(ti,0),(ti,1),(tj,2),(tj,3)]) (hi:P.underlying ti=some (.int .i64)) (hj:P.underlying tj=some (.int .i64)) (hci:P.cellsOf ti=1) (hcj:P.cellsOf tj=1) (hct:P.cellsOf t=4):Opn enc P W eL t (fun _ _=>True):=by
 intro fuel cs x hx hfz
 unfold sh4 at hs
 split at hs
 ·rename_i fs hu
  split at hs
  ·rename_i hsz
   simp only [Option.some.injEq] at hs
   obtain ⟨l⟩:=fs
   match l,hsz with
   | [f0,f1,f2,f3],_ =>
    simp only [List.map_cons,List.map_nil,List.cons.injEq,Prod.mk.injEq,and_true] at hs
    obtain ⟨⟨h0,o0⟩,⟨h1,o1⟩,⟨h2,o2⟩,h3,o3⟩:=hs
    obtain ⟨y0,y1,y2,y3,n,rfl,hl,g0,g1,g2,g3⟩:=Joins.trod_struct4 hu hx
    rw [h0,o0,hci] at g0
    rw [h1,o1,hci] at g1
    rw [h2,o2,hcj] at g2
    rw [h3,o3,hcj] at g3
    rw [hct] at hl
    obtain ⟨c0,c1,c2,c3,rfl⟩:∃ c0 c1 c2 c3,cs=[c0,c1,c2,c3]:=by
     match cs,hl with
     | [c0,c1,c2,c3],_=>exact ⟨c0,c1,c2,c3,rfl⟩
    obtain ⟨n0,e0,_,w0⟩:=DataW.trod_int hi g0
    obtain ⟨n1,e1,_,w1⟩:=DataW.trod_int hi g1
    obtain ⟨n2,e2,_,w2⟩:=DataW.trod_int hj g2
    obtain ⟨n3,e3,_,w3⟩:=DataW.trod_int hj g3
    simp at e0 e1 e2 e3
    subst e0 e1 e2 e3
    exact ⟨.agg #[.int .i64 n0,.int .i64 n1,.int .i64 n2,.int .i64 n3],⟨n0,n1,n2,n3⟩,rfl,⟨rfl,AZ9 w0,AZ9 w1,AZ9 w2,AZ9 w3⟩,trivial⟩
  ·cases hs
 ·cases hs
theorem opn_N {t ti tl te:TypeId} (hs:sh2 P t=some ((ti,0),(tl,1))) (hi:P.underlying ti=some (.int .i64)) (hci:P.cellsOf ti=1) (hcl:P.cellsOf tl=1) (hct:P.cellsOf t=2) (hl:P.underlying tl=some (.slice te)) (hce:P.cellsOf te=4) (he:Opn enc P W eL te (fun _ _=>True)):Opn enc P W eN t (fun _ _=>True):=by
 intro fuel cs x hx hfz
 obtain ⟨y0,y1,n,rfl,hlen,h0,h1⟩:=Ab4 hs hx
 rw [hci] at h0
 rw [hcl] at h1
 rw [hct] at hlen
 obtain ⟨c0,c1,rfl⟩:∃ c0 c1,cs=[c0,c1]:=by
  match cs,hlen with
  | [c0,c1],_=>exact ⟨c0,c1,rfl⟩
 obtain ⟨b,hb',_,hw⟩:=DataW.trod_int hi h0
 simp at hb'
 subst hb'
 obtain ⟨e,l,he',hR,_⟩:=(Opn.slice (Z:=fun _ _=>True) (E:=eL) (by decide) hl hce he) n _ _ h1 hfz.right
 obtain ⟨a,c,rfl,_⟩:=RL.len hR
 simp [Value.cells] at he'
 subst he'
 exact ⟨.agg #[.int .i64 b,.slice a l.length c],⟨b,l⟩,rfl,⟨_,rfl,hR,AZ9 hw⟩,trivial⟩
end
end Go.Kx
namespace Go.Proofs.YtggegpiffjbngaaGreat
open Go Go.Kx Go.RowKit
section
variable {H:Type} {enc:TypeId×Value->H} {W:World}
theorem opnN:Opn enc Tryz.prog W eN 24 (fun _ _=>True):=opn_N (ti:=3) (tl:=22) (te:=58) (by kernel_rfl) AD1 (by kernel_rfl) (by kernel_rfl) (by kernel_rfl) I8 (by kernel_rfl) (BK0 (ti:=3) (tj:=2) (by kernel_rfl) AD1 Ab0 (by kernel_rfl) (by kernel_rfl) (by kernel_rfl))
theorem opnH:Opn enc Tryz.prog W eI 25 (ZL fun _ _=>True):=Opn.slice (by decide) un_I (by kernel_rfl) (opn_int AD1)
end
end Go.Proofs.YtggegpiffjbngaaGreat
