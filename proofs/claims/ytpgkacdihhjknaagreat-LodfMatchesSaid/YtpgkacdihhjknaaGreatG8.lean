/-
  What the claim leans on.
-/
import Derived.Test.YtpgkacdihhjknaaGreatG7
set_option linter.unusedVariables false
set_option linter.unusedSimpArgs false
set_option linter.unnecessarySimpa false
namespace Go.Proofs.YtpgkacdihhjknaaGreat
open Go Go.RowKit Tryz
set_option maxRecDepth 8000
variable {w:World}{vn v vo vm va vb:Value}{n:NtV}{l:List Nat}{k a B L C0:Nat}{o:List Int}{s:Nat->Bool}{f:Nat->Rat}{α:Type}
theorem BI1:Ent prog 171:=en func171
theorem BG2{S:Nat->Prop}(hn:eN.R S w vn n):CR prog 171 #[vn] w (Is (iW (AA2 n))):=by
 obtain⟨s,rfl,hs,hb⟩:=hn;obtain⟨_,_,_,_,hls⟩:=RL.len hs;refine enter func171 O ntmps171 O (.beg (.go O (.box O O λw1 b1 n1=>.go O (.fa F9 O O (.ld A5 O O n1.2.1 O ?_)))));obtain⟨e1,k1,hb1,hs1⟩:=n1;replace k1:Blk w1 b1 24 #[iW n.b,s]:=k1;have fin:∀ {W:World} {v:Int},Ext w W->v=AA2 n->(Ext w W/\Is (iW (AA2 n)) (iW v) W):=λe h=>⟨e,by rw[h]⟩;by_cases h1:n.b<1
 ·exact .lssT O O O h1 (.goE O (.plain [_] results171 ⟨rfl,trivial⟩ (fin e1 (by unfold AA2;rw[if_pos (.inl h1)]))))
 refine .lssF O O O h1 (.go O (.fa F9 O O (.go O (.ld A5 O O k1 O (.go O ?_)))));by_cases h6:6<n.b
 ·exact .gtrT O O O h6 (.goE O (.plain [_] results171 ⟨rfl,trivial⟩ (fin e1 (by unfold AA2;rw[if_pos (.inr h6)]))))
 refine .gtrF O O O h6 (.go O (.fa G5 O O (.ld J0 O O k1 O (.lenR I6 O O (hs.ext e1) ?_))));by_cases h10:10<n.ls.length
 ·exact .gtrT O O O (by omega) (.goE O (.plain [_] results171 ⟨rfl,trivial⟩ (fin e1 (by unfold AA2;rw[if_neg (by omega),if_pos h10]))))
 have hce:∀ {p:Prop} [Decidable p],(p<->BX7 n)->(AA2 n=if p then 0 else 1):=λ{p} _ h=>by
  unfold AA2;rw[if_neg (by omega),if_neg h10];by_cases hp:p
  ·rw[if_pos hp,if_pos (h.1 hp)]
  ·rw[if_neg hp,if_neg λh'=>hp (h.2 h')]
 refine .gtrF O O O (by omega) (.goC O ?_);refine .lp (α:=Nat) [1] O (λi=>[(3,iW (i:Nat))]) (λi W=>Ext w1 W/\i<=n.ls.length/\∀ j,j<i->∀ l,n.ls[j]?=some l->Bk0 n.b l) (λi=>n.ls.length-i) 0 (lc1 O) ⟨Ext.refl _,aC _,λj hj=>by omega⟩ ?_;rintro i W ⟨hW,hi,hall⟩;have k1:=k1.ext hW;refine .go O (.fa G5 O O (.ld J0 O O k1 O (.lenR I6 O O (hs.ext (e1.trans hW)) ?_)));rcases aB i n.ls.length with hlt | hge;rotate_left
 ·have:i=n.ls.length:=by omega
  subst this;exact .lssF O O O (by omega) (.goE O (.plain [_] results171 ⟨rfl,trivial⟩ (fin (e1.trans hW) (by rw[hce (p:=True) ⟨λ_=>λi hi=>hall i hi,λ_=>trivial⟩,if_pos trivial]))))
 have hgl:n.ls[i]?=some (n.ls.getD i ln0):=B0 hlt;generalize n.ls.getD i ln0=ln at hgl;have bad:∀ j,j<5->ck j n.b ln=false->1=AA2 n:=λj hj h=>by rw[hce (p:=False) ⟨λh=>h.elim,λhk=>by have:=hk i hlt ln hgl j hj;rw[h] at this;cases this⟩,if_neg (λh=>h)]
 refine .lssT O O O (by omega) (.go O (.fa G5 O O (.ld J0 O O k1 O (.go O (.ixN (i:=i) I6 L8 O O (hs.ext (e1.trans hW)) O hgl λp hp=>.ldE (E:=eL) L8 O O hp λvl hvl=>.alloc O Aa0 λW1 c n1'=>?_)))));obtain⟨d1,kc,hc,zs1⟩:=n1';refine .storeA (E:=eL) (S:=λk=>k≠c) (z:=ln) L8 O O kc O O hvl (λh=>h O) λW2 kc u2 hl2=>?_;obtain⟨rfl,_⟩:=hl2;replace kc:Blk W2 c 53 #[iW ln.f,iW ln.t,iW ln.x,iW ln.c]:=kc;have zW:=hW.size;have l1:=k1.lt;have hW2:Ext w1 W2:=u2.below (hW.trans d1) (by omega);have k1:Blk W2 b1 24 #[iW n.b,s]:=(k1.ext d1).upd u2 (by omega);have x2:=e1.trans hW2;refine .go O (.fa I5 O O (.go O (.ld A5 O O kc O (.go O (?_)))));by_cases g0:ln.f<0
 ·exact .lssT O O O g0 (.goE O (.p1 _ results171 O (fin x2 (bad 0 (by decide) (by simp[ck];omega)))))
 refine .lssF O O O g0 (.go O (.fa I5 O O (.go O (.ld A5 O O kc O (.go O (.fa F9 O O (.go O (.ld A5 O O k1 O (.go O (?_))))))))));by_cases g1:n.b<=ln.f
 ·exact .geqT O O O g1 (.goE O (.p1 _ results171 O (fin x2 (bad 0 (by decide) (by simp[ck];omega)))))
 refine .geqF O O O g1 (.go O (.fa I4 O O (.go O (.ld A5 O O kc O (.go O (?_))))));by_cases g2:ln.t<0
 ·exact .lssT O O O g2 (.goE O (.p1 _ results171 O (fin x2 (bad 1 (by decide) (by simp[ck];omega)))))
 refine .lssF O O O g2 (.go O (.fa I4 O O (.go O (.ld A5 O O kc O (.go O (.fa F9 O O (.go O (.ld A5 O O k1 O (.go O (?_))))))))));by_cases g3:n.b<=ln.t
 ·exact .geqT O O O g3 (.goE O (.p1 _ results171 O (fin x2 (bad 1 (by decide) (by simp[ck];omega)))))
 refine .geqF O O O g3 (.go O (.fa I5 O O (.go O (.ld A5 O O kc O (.go O (.fa I4 O O (.go O (.ld A5 O O kc O (.go O (?_))))))))));by_cases g4:ln.f=ln.t
 ·exact .eqlT O O O g4 (.goE O (.p1 _ results171 O (fin x2 (bad 2 (by decide) (by simp[ck];omega)))))
 refine .eqlF O O O g4 (.go O (.fa AI2 O O (.go O (.ld Z4 O O kc O (.go O (?_))))));by_cases g5:ln.x<1
 ·exact .lssT O O O g5 (.goE O (.p1 _ results171 O (fin x2 (bad 3 (by decide) (by simp[ck];omega)))))
 refine .lssF O O O g5 (.go O (.fa AI2 O O (.go O (.ld Z4 O O kc O (.go O (?_))))));by_cases g6:1000<ln.x
 ·exact .gtrT O O O g6 (.goE O (.p1 _ results171 O (fin x2 (bad 3 (by decide) (by simp[ck];omega)))))
 refine .gtrF O O O g6 (.go O (.fa Aw5 O O (.go O (.ld Z4 O O kc O (.go O (?_))))));by_cases g7:ln.c<0
 ·exact .lssT O O O g7 (.goE O (.p1 _ results171 O (fin x2 (bad 4 (by decide) (by simp[ck];omega)))))
 refine .lssF O O O g7 (.go O (.fa Aw5 O O (.go O (.ld Z4 O O kc O (.go O (?_))))));by_cases g8:1000000<ln.c
 ·exact .gtrT O O O g8 (.goE O (.p1 _ results171 O (fin x2 (bad 4 (by decide) (by simp[ck];omega)))))
 refine .gtrF O O O g8 (.go O (.inc O O O (by omega) (.goN O (.mk (i+1) O (lc1 O) ⟨⟨hW2,hlt,λj hj l hl=>?_⟩,by show n.ls.length-(i+1)<n.ls.length-i;omega⟩))));by_cases e:j=i
 ·subst e;rw[hgl] at hl
  cases hl;intro j hj;match j with
  | 0=>simp[ck];omega
  | 1=>simp[ck];omega
  | 2=>simp[ck];omega
  | 3=>simp[ck];omega
  | 4=>simp[ck];omega
 ·exact hall j (by omega) l hl
theorem AG6:Ent prog 117:=en func117
theorem AF6{S:Nat->Prop}{l:List Int}{k:Int}(h:eI.R S w v l):CR prog 117 #[v,iW k] w (Is (.bool (decide (k∈l)))):=by
 obtain⟨_,_,_,_,hll⟩:=RL.len h;refine enter func117 O ntmps117 O (.beg (.goC O (.lp (α:=Nat) [0,1] O (λi=>[(5,iW (i:Nat))]) (λi W=>Ext w W/\i<=l.length/\∀ j,j<i->l[j]?≠some k) (λi=>l.length-i) 0 (lc1 O) ⟨Ext.refl _,aC _,λj hj=>by omega⟩ ?_)));rintro i W ⟨hW,hi,hall⟩;refine .go O (.lenR C5 O O (ER.ext eI h hW) ?_);rcases aB i l.length with hlt | hge;rotate_left
 ·refine .lssF O O O (by omega) (.goE O (.plain [_] results117 ⟨rfl,trivial⟩ ⟨hW,?_⟩));refine congrArg Value.bool (decide_eq_false λhm=>?_).symm;obtain⟨j,hj⟩:=List.mem_iff_getElem?.1 hm;exact hall j (by have:=(List.getElem?_eq_some_iff.1 hj).1;omega) hj
 have hg:l[i]?=some (l.getD i 0):=B0 hlt;refine .lssT O O O (by omega) (.go O (.ixN (i:=i) C5 B5 O O (ER.ext eI h hW) O hg λq hq=>.ldE (E:=B8 .i64) B5 O O hq λe he=>.go O ?_));obtain⟨rfl,_⟩:=he;by_cases e:l.getD i 0=k
 ·refine .eqlT O O O e (.goE O (.plain [_] results117 ⟨rfl,trivial⟩ ⟨hW,?_⟩));exact congrArg Value.bool (decide_eq_true (List.mem_iff_getElem?.2 ⟨i,by rw[hg,e]⟩)).symm
 ·refine .eqlF O O O e (.go O (.inc O O O (by omega) (.goN O (.mk (i+1) O (lc1 O) ⟨⟨hW,hlt,λj hj=>?_⟩,by show l.length-(i+1)<l.length-i;omega⟩))));by_cases ej:j=i
  ·subst ej;rw[hg];exact λh=>e (Option.some.inj h)
  ·exact hall j (by omega)
theorem Y4:Ent prog 116:=en func116
theorem V6{S:Nat->Prop}(hn:eN.R S w vn n)(ho:eI.R S w vo o):CR prog 116 #[vn,vo] w (Is (iW (C8 n o))):=by
 obtain⟨s,rfl,hs,hb⟩:=hn;have hn:eN.R S w (.agg #[iW n.b,s]) n:=⟨s,rfl,hs,hb⟩;obtain⟨_,_,_,_,hll⟩:=RL.len ho;obtain⟨_,_,_,_,hls⟩:=RL.len hs;refine enter func116 O ntmps116 O (.beg (.go O (.box O O λw1 b2 n1=>.go O ?_)));obtain⟨e1,k2,hb2,hs1⟩:=n1;refine .ldA G2 O O k2 O (.call _ O BI1 O (BG2 (hn.ext e1)) λv3 w3 e3 h3=>.go O ?_);subst h3;have x3:=e1.trans e3;have k2:=k2.ext e3;by_cases hc:AA2 n=0;rotate_left
 ·exact .neqT O O O hc (.goE O (.plain [_] results116 ⟨rfl,trivial⟩ ⟨x3,by rw[BV8 hc];rfl⟩))
 have hoe:∀ {p:Prop} [Decidable p],(p<->AB5 n o)->(C8 n o=if p then 0 else 1):=λ{p} _ h=>by
  unfold C8;rw[if_neg (by simpa using hc)];by_cases hp:p
  ·rw[if_pos hp,if_pos (h.1 hp)]
  ·rw[if_neg hp,if_neg λh'=>hp (h.2 h')]
 refine .neqF O O O (by omega) (.goC O (.lp (α:=Nat) [1,2] O (λi=>[(6,iW (i:Nat))]) (λi W=>Ext w3 W/\i<=o.length/\∀ j,j<i->0<=o.getD j 0/\o.getD j 0<n.ls.length/\(0<j->o.getD (j-1) 0<o.getD j 0)) (λi=>o.length-i) 0 (lc1 O) ⟨Ext.refl _,aC _,λj hj=>by omega⟩ ?_));rintro i W ⟨hW,hi,hall⟩;refine .go O (.lenR C5 O O (ER.ext eI ho (x3.trans hW)) ?_);rcases aB i o.length with hlt | hge;rotate_left
 ·have:i=o.length:=by omega
  subst this;exact .lssF O O O (by omega) (.goE O (.plain [_] results116 ⟨rfl,trivial⟩ ⟨x3.trans hW,by rw[hoe (p:=True) ⟨λ_=>λi hi=>hall i hi,λ_=>trivial⟩,if_pos trivial];rfl⟩))
 have hg:o[i]?=some (o.getD i 0):=B0 hlt;have bad:¬ (0<=o.getD i 0/\o.getD i 0<n.ls.length/\(0<i->o.getD (i-1) 0<o.getD i 0))->(Is (iW (C8 n o))) (iW 1) W:=λh=>by rw[hoe (p:=False) ⟨λh=>h.elim,λhk=>h (hk i hlt)⟩,if_neg (λh=>h)]
 have hoW:=ER.ext eI ho (x3.trans hW);have hsW:=hs.ext (x3.trans hW);have k2:=k2.ext hW;refine .lssT O O O (by omega) (.goC O ?_);have hgp:0<i->o[i-1]?=some (o.getD (i-1) 0):=λh=>B0 (by omega);generalize o.getD i 0=x at hg bad hall;by_cases g0:x<0
 ·have hd:=True.intro;refine .par follows 28 [.inl _,.inl _,.inr (Ptr (B8 .i64) S x),.inl (iW x),.inl (.bool true),.inl (.bool true),.inl undef,.inl undef,.inl undef,.inl undef,.inl undef,.inl undef,.inl undef,.inl undef,.inl (.bool true),.inl (.bool true),.inl undef,.inl undef,.inl undef,.inl undef,.inl undef,.inl undef,.inl undef,.inl undef,.inl undef,.inl undef,.inl undef,.inl undef] [[],[],[(18,0),(19,1)],[(20,2)],[(21,3)],[(22,4)],[(23,5)],[(23,5)],[(24,6),(25,7),(23,5)],[(26,8),(23,5)],[(23,5)],[(28,10),(23,5)],[(29,11),(23,5)],[(27,9),(30,12),(23,5)],[(23,5),(31,13)],[(32,14)],[(33,15)],[(34,16),(33,15)],[(35,17),(33,15)],[(36,18)],[(36,18)],[(37,19),(38,20),(36,18)],[(39,21),(36,18)],[(36,18)],[(36,18)],[(42,24),(36,18)],[(41,23),(43,25),(36,18)],[(44,26),(36,18)]] (by kernel_rfl) ⟨mvo O,mvo O,λw e=>C4 (i:=i) C5 B5 O (ER.ext eI hoW e) O hg,λw e x2 hx2=>F7 A5 O hx2,λw e=>((Aq4 O O).eq (by rw[decide_eq_true (by omega)])).ob,mvo O,λw e=>rfl,λw e=>rfl,λw e=>rfl,λw e=>rfl,λw e=>rfl,λw e=>rfl,λw e=>rfl,λw e=>rfl,λw e=>(BM1 O O).ob,mvo O,λw e=>rfl,λw e=>rfl,λw e=>rfl,λw e=>rfl,λw e=>rfl,λw e=>rfl,λw e=>rfl,λw e=>rfl,λw e=>rfl,λw e=>rfl,λw e=>rfl,λw e=>rfl,trivial⟩ ?_;intro W3 d3 y2 hy2;exact .goE O (.p1 _ results116 O ⟨(x3.trans hW).trans d3,bad (by omega)⟩)
 by_cases g1:(n.ls.length:Int)<=x
 ·have hd:=True.intro;refine .par follows 28 [.inl _,.inl _,.inr (Ptr (B8 .i64) S x),.inl (iW x),.inl (.bool false),.inl (.bool false),.inl _,.inl _,.inr (Ptr (B8 .i64) S x),.inl (iW x),.inl _,.inl s,.inl (iW (n.ls.length:Nat)),.inl (.bool true),.inl (.bool true),.inl (.bool true),.inl undef,.inl undef,.inl undef,.inl undef,.inl undef,.inl undef,.inl undef,.inl undef,.inl undef,.inl undef,.inl undef,.inl undef] [[],[],[(18,0),(19,1)],[(20,2)],[(21,3)],[(22,4)],[(23,5)],[(23,5)],[(24,6),(25,7),(23,5)],[(26,8),(23,5)],[(23,5)],[(28,10),(23,5)],[(29,11),(23,5)],[(27,9),(30,12),(23,5)],[(23,5),(31,13)],[(32,14)],[(33,15)],[(34,16),(33,15)],[(35,17),(33,15)],[(36,18)],[(36,18)],[(37,19),(38,20),(36,18)],[(39,21),(36,18)],[(36,18)],[(36,18)],[(42,24),(36,18)],[(41,23),(43,25),(36,18)],[(44,26),(36,18)]] (by kernel_rfl) ⟨mvo O,mvo O,λw e=>C4 (i:=i) C5 B5 O (ER.ext eI hoW e) O hg,λw e x2 hx2=>F7 A5 O hx2,λw e=>((Aq4 O O).eq (by rw[decide_eq_false (by omega)])).ob,mvo O,mvo O,mvo O,λw e=>C4 (i:=i) C5 B5 O (ER.ext eI hoW e) O hg,λw e x8 hx8=>F7 A5 O hx8,fao G5 O,λw e=>(E2 J0 O (k2.ext e) O).ob,λw e=>(AA7 I6 O (hsW.ext e)).ob,λw e=>((BT3 O O).eq (by rw[decide_eq_true (by omega)])).ob,λw e=>(Aa5 O O).ob,mvo O,λw e=>rfl,λw e=>rfl,λw e=>rfl,λw e=>rfl,λw e=>rfl,λw e=>rfl,λw e=>rfl,λw e=>rfl,λw e=>rfl,λw e=>rfl,λw e=>rfl,λw e=>rfl,trivial⟩ ?_;intro W3 d3 y2 hy2 y8 hy8;exact .goE O (.p1 _ results116 O ⟨(x3.trans hW).trans d3,bad (by omega)⟩)
 have nxt:∀ {σ:Env},(0<i->o.getD (i-1) 0<x)->∀ j,j<i+1->0<=o.getD j 0/\o.getD j 0<n.ls.length/\(0<j->o.getD (j-1) 0<o.getD j 0):=λh j hj=>by
  by_cases e:j=i
  ·subst e;have:o.getD j 0=x:=by rw[aF,hg];rfl
   rw[this];exact⟨by omega,by omega,h⟩
  ·exact hall j (by omega)
 rcases aU i with hi0 | hi0
 ·have hd:=True.intro;refine .par follows 28 [.inl _,.inl _,.inr (Ptr (B8 .i64) S x),.inl (iW x),.inl (.bool false),.inl (.bool false),.inl _,.inl _,.inr (Ptr (B8 .i64) S x),.inl (iW x),.inl _,.inl s,.inl (iW (n.ls.length:Nat)),.inl (.bool false),.inl (.bool false),.inl (.bool false),.inl _,.inl (.bool false),.inl (.bool false),.inl undef,.inl undef,.inl undef,.inl undef,.inl undef,.inl undef,.inl undef,.inl undef,.inl undef] [[],[],[(18,0),(19,1)],[(20,2)],[(21,3)],[(22,4)],[(23,5)],[(23,5)],[(24,6),(25,7),(23,5)],[(26,8),(23,5)],[(23,5)],[(28,10),(23,5)],[(29,11),(23,5)],[(27,9),(30,12),(23,5)],[(23,5),(31,13)],[(32,14)],[(33,15)],[(34,16),(33,15)],[(35,17),(33,15)],[(36,18)],[(36,18)],[(37,19),(38,20),(36,18)],[(39,21),(36,18)],[(36,18)],[(36,18)],[(42,24),(36,18)],[(41,23),(43,25),(36,18)],[(44,26),(36,18)]] (by kernel_rfl) ⟨mvo O,mvo O,λw e=>C4 (i:=i) C5 B5 O (ER.ext eI hoW e) O hg,λw e x2 hx2=>F7 A5 O hx2,λw e=>((Aq4 O O).eq (by rw[decide_eq_false (by omega)])).ob,mvo O,mvo O,mvo O,λw e=>C4 (i:=i) C5 B5 O (ER.ext eI hoW e) O hg,λw e x8 hx8=>F7 A5 O hx8,fao G5 O,λw e=>(E2 J0 O (k2.ext e) O).ob,λw e=>(AA7 I6 O (hsW.ext e)).ob,λw e=>((BT3 O O).eq (by rw[decide_eq_false (by omega)])).ob,λw e=>(Aa5 O O).ob,mvo O,mvo O,λw e=>((Ac8 O O).eq (by rw[decide_eq_false (by omega)])).ob,mvo O,λw e=>rfl,λw e=>rfl,λw e=>rfl,λw e=>rfl,λw e=>rfl,λw e=>rfl,λw e=>rfl,λw e=>rfl,λw e=>rfl,trivial⟩ ?_;intro W3 d3 y2 hy2 y8 hy8;exact .go O (.inc O O O (by omega) (.goN O (.mk (i+1) O (lc1 O) ⟨⟨hW.trans d3,hlt,nxt (σ:=[]) (λh=>by omega)⟩,by show o.length-(i+1)<o.length-i;omega⟩)))
 by_cases g2:x<=o.getD (i-1) 0
 ·have hd:=True.intro;refine .par follows 28 [.inl _,.inl _,.inr (Ptr (B8 .i64) S x),.inl (iW x),.inl (.bool false),.inl (.bool false),.inl _,.inl _,.inr (Ptr (B8 .i64) S x),.inl (iW x),.inl _,.inl s,.inl (iW (n.ls.length:Nat)),.inl (.bool false),.inl (.bool false),.inl (.bool false),.inl _,.inl (.bool true),.inl (.bool true),.inl _,.inl _,.inr (Ptr (B8 .i64) S x),.inl (iW x),.inl _,.inl _,.inl (iW ((i-1:Nat):Int)),.inr (Ptr (B8 .i64) S (o.getD (i-1) 0)),.inl (iW (o.getD (i-1) 0))] [[],[],[(18,0),(19,1)],[(20,2)],[(21,3)],[(22,4)],[(23,5)],[(23,5)],[(24,6),(25,7),(23,5)],[(26,8),(23,5)],[(23,5)],[(28,10),(23,5)],[(29,11),(23,5)],[(27,9),(30,12),(23,5)],[(23,5),(31,13)],[(32,14)],[(33,15)],[(34,16),(33,15)],[(35,17),(33,15)],[(36,18)],[(36,18)],[(37,19),(38,20),(36,18)],[(39,21),(36,18)],[(36,18)],[(36,18)],[(42,24),(36,18)],[(41,23),(43,25),(36,18)],[(44,26),(36,18)]] (by kernel_rfl) ⟨mvo O,mvo O,λw e=>C4 (i:=i) C5 B5 O (ER.ext eI hoW e) O hg,λw e x2 hx2=>F7 A5 O hx2,λw e=>((Aq4 O O).eq (by rw[decide_eq_false (by omega)])).ob,mvo O,mvo O,mvo O,λw e=>C4 (i:=i) C5 B5 O (ER.ext eI hoW e) O hg,λw e x8 hx8=>F7 A5 O hx8,fao G5 O,λw e=>(E2 J0 O (k2.ext e) O).ob,λw e=>(AA7 I6 O (hsW.ext e)).ob,λw e=>((BT3 O O).eq (by rw[decide_eq_false (by omega)])).ob,λw e=>(Aa5 O O).ob,mvo O,mvo O,λw e=>((Ac8 O O).eq (by rw[decide_eq_true (by omega)])).ob,mvo O,mvo O,mvo O,λw e=>C4 (i:=i) C5 B5 O (ER.ext eI hoW e) O hg,λw e x21 hx21=>F7 A5 O hx21,mvo O,mvo O,λw e=>((AL5 O O).eq (by rw[wI (by omega)];congr 1;omega)).ob,λw e=>C4 (i:=i-1) C5 B5 O (ER.ext eI hoW e) O (hgp hi0),λw e x26 hx26=>F7 A5 O hx26,trivial⟩ ?_;intro W3 d3 y2 hy2 y8 hy8 y21 hy21 y26 hy26;exact .go O (.leqT O O O g2 (.goE O (.p1 _ results116 O ⟨(x3.trans hW).trans d3,bad (by omega)⟩)))
 refine .par follows 28 [.inl _,.inl _,.inr (Ptr (B8 .i64) S x),.inl (iW x),.inl (.bool false),.inl (.bool false),.inl _,.inl _,.inr (Ptr (B8 .i64) S x),.inl (iW x),.inl _,.inl s,.inl (iW (n.ls.length:Nat)),.inl (.bool false),.inl (.bool false),.inl (.bool false),.inl _,.inl (.bool true),.inl (.bool true),.inl _,.inl _,.inr (Ptr (B8 .i64) S x),.inl (iW x),.inl _,.inl _,.inl (iW ((i-1:Nat):Int)),.inr (Ptr (B8 .i64) S (o.getD (i-1) 0)),.inl (iW (o.getD (i-1) 0))] [[],[],[(18,0),(19,1)],[(20,2)],[(21,3)],[(22,4)],[(23,5)],[(23,5)],[(24,6),(25,7),(23,5)],[(26,8),(23,5)],[(23,5)],[(28,10),(23,5)],[(29,11),(23,5)],[(27,9),(30,12),(23,5)],[(23,5),(31,13)],[(32,14)],[(33,15)],[(34,16),(33,15)],[(35,17),(33,15)],[(36,18)],[(36,18)],[(37,19),(38,20),(36,18)],[(39,21),(36,18)],[(36,18)],[(36,18)],[(42,24),(36,18)],[(41,23),(43,25),(36,18)],[(44,26),(36,18)]] (by kernel_rfl) ⟨mvo O,mvo O,λw e=>C4 (i:=i) C5 B5 O (ER.ext eI hoW e) O hg,λw e x2 hx2=>F7 A5 O hx2,λw e=>((Aq4 O O).eq (by rw[decide_eq_false (by omega)])).ob,mvo O,mvo O,mvo O,λw e=>C4 (i:=i) C5 B5 O (ER.ext eI hoW e) O hg,λw e x8 hx8=>F7 A5 O hx8,fao G5 O,λw e=>(E2 J0 O (k2.ext e) O).ob,λw e=>(AA7 I6 O (hsW.ext e)).ob,λw e=>((BT3 O O).eq (by rw[decide_eq_false (by omega)])).ob,λw e=>(Aa5 O O).ob,mvo O,mvo O,λw e=>((Ac8 O O).eq (by rw[decide_eq_true (by omega)])).ob,mvo O,mvo O,mvo O,λw e=>C4 (i:=i) C5 B5 O (ER.ext eI hoW e) O hg,λw e x21 hx21=>F7 A5 O hx21,mvo O,mvo O,λw e=>((AL5 O O).eq (by rw[wI (by omega)];congr 1;omega)).ob,λw e=>C4 (i:=i-1) C5 B5 O (ER.ext eI hoW e) O (hgp hi0),λw e x26 hx26=>F7 A5 O hx26,trivial⟩ ?_;intro W3 d3 y2 hy2 y8 hy8 y21 hy21 y26 hy26;exact .go O (.leqF O O O g2 (.go O (.inc O O O (by omega) (.goN O (.mk (i+1) O (lc1 O) ⟨⟨hW.trans d3,hlt,nxt (σ:=[]) (λh=>by omega)⟩,by show o.length-(i+1)<o.length-i;omega⟩)))))
theorem AE5(h:AB5 n o)(k:Nat):((k:Int)∈o)<->k∈oN o:=by
 unfold oN;rw[eG];constructor
 ·exact λhm=>⟨_,hm,by simp⟩
 ·rintro⟨x,hm,rfl⟩;obtain⟨i,hi⟩:=List.mem_iff_getElem?.1 hm;have hlt:=(List.getElem?_eq_some_iff.1 hi).1;have e:o.getD i 0=x:=by rw[aF,hi];rfl
  have:=(h i hlt).1;rw[e] at this;rw[show ((x.toNat:Nat):Int)=x by omega];exact hm
theorem BE4:Ent prog 172:=en func172
theorem Az4{S:Nat->Prop}(up:Up S w)(hn:eN.R S w vn n)(ho:eI.R S w vo o)(hok:AB5 n o)(hl:n.ls.length<=1000):CR prog 172 #[vn,vo] w (eI.at S (A7 (inL n o))):=by
 obtain⟨s,rfl,hs,hb⟩:=hn;have ho0:=ER.lt eI ho;refine enter func172 O ntmps172 O (.beg (.go O (.box O O λw1 b2 n1=>.goC O ?_)));obtain⟨e1,k2,hb2,hs1⟩:=n1;replace k2:Blk w1 b2 24 #[iW n.b,s]:=k2;have hsW:∀ {W:World},Below w1.heap.size w1 W->eLs.R (λk=>S k/\k<w.heap.size) W s n.ls:=λe=>ER.ext eLs (ER.lt eLs hs) (e1.trans e);have hoW:∀ {W:World},Below w1.heap.size w1 W->eI.R (λk=>S k/\k<w.heap.size) W vo o:=λe=>ER.ext eI ho0 (e1.trans e);refine .lp (α:=Nat×Value) [1,2] O (λy=>[(5,y.2),(6,iW (y.1:Nat))]) (λy W=>Ext w1 W/\y.1<=n.ls.length/\B4 (B8 .i64) 3 w1.heap.size (λ_=>False) W y.2 (A7 (D7 (oN o) y.1))) (λy=>n.ls.length-y.1) (0,.slice none 0 0) (lc2 O O) ⟨Ext.refl _,aC _,B4.nil⟩ ?_;rintro⟨i,v⟩ W ⟨hW,hi,hO⟩;replace hW:Ext w1 W:=hW;replace hi:i<=n.ls.length:=hi;replace hO:B4 (B8 .i64) 3 w1.heap.size (λ_=>False) W v (A7 (D7 (oN o) i)):=hO;have k2:=k2.ext hW;refine .go O (.fa G5 O O (.ld J0 O O k2 O (.lenR I6 O O (hsW hW) ?_)));rcases aB i n.ls.length with hlt | hge;rotate_left
 ·have:i=n.ls.length:=by omega
  subst this;refine .lssF O O O (by omega) (.goE O (.plain [_] results172 ⟨rfl,trivial⟩ ⟨e1.trans hW,?_⟩));exact hO.toR (λk hk=>up k (by have:=e1.size;omega)) (λ_ h=>h.elim)
 refine .lssT O O O (by omega) (.go O (.call _ O AG6 O (AF6 (k:=((i:Nat):Int)) (hoW hW)) λv2 W2 d2 h2=>?_));subst h2;have hfs:=M4 (oN o) i;have hW2:=hW.trans d2;by_cases hm:i∈oN o
 ·rw[if_pos hm,bB] at hfs;rw[decide_eq_true ((AE5 hok i).2 hm)];exact .go O (.inc O O O (by omega) (.goN O (.mk (i+1,v) O (lc2 O O) ⟨⟨hW2,hlt,by show B4 _ _ _ _ W2 v (A7 (D7 (oN o) (i+1)));rw[hfs];exact hO.ext d2⟩,by show n.ls.length-(i+1)<n.ls.length-i;omega⟩)))
 ·rw[if_neg hm] at hfs;rw[decide_eq_false λh=>hm ((AE5 hok i).1 h)];have hlf:(D7 (oN o) i).length<=i:=Ab5 _ _;refine .go O (.bsl _ O O S7 λW3 b3 n3=>?_);obtain⟨d3,k3,hb3,hs3⟩:=n3;have hW3:=hW2.trans d3;refine .gv O O (V8 (E:=B8 .i64) (base:=w1.heap.size) (n:=((i:Nat):Int)) (e:=.int .i64 (i:Nat)) (by decide) C5 P6 O O O ((hO.ext d2).ext d3) k3 ⟨rfl,K8.2 (by omega)⟩ (by simp[A7];omega) (by decide) hW3.size) ?_;rintro v4 W4 ⟨hO4,g4,_⟩;have hW4:Ext w1 W4:=B4.below ((hO.ext d2).ext d3) g4 hW3 hW3.size;exact .go O (.inc O O O (by omega) (.goN O (.mk (i+1,v4) O (lc2 O O) ⟨⟨hW4,hlt,by show B4 _ _ _ _ W4 v4 (A7 (D7 (oN o) (i+1)));rw[hfs];unfold A7;rw[aM];exact hO4⟩,by show n.ls.length-(i+1)<n.ls.length-i;omega⟩)))
def AB3 (n:Nw) (s:Nat->Bool) (k:Nat):Nat->Bool:=if s (n.F k) || s (n.T k) then λb=>Nat.beq b (n.F k) || Nat.beq b (n.T k) || s b else s
def AM0 (n:Nw) (l:List Nat) (s:Nat->Bool):Nat->Bool:=l.foldl (AB3 n) s
def rit (n:Nw) (l:List Nat) (s:Nat->Bool):Nat->Nat->Bool
 | 0=>s
 | i+1=>AM0 n l (rit n l s i)
theorem Bb9(n:Nw)(l:List Nat)(k:Nat)(s:Nat->Bool):AM0 n (l++[k]) s=AB3 n (AM0 n l s) k:=by unfold AM0;rw[iL];rfl
theorem Ay6{n:Nw}{b:Nat}(h:s b=true):AB3 n s k b=true:=by
 unfold AB3;split
 ·simp[h]
 ·exact h
theorem Aj6 {n:Nw} {b:Nat}:∀ (l:List Nat) {s:Nat->Bool},s b=true->AM0 n l s b=true
 | [],_,h=>h
 | k::l,_,h=>Aj6 l (Ay6 h)
theorem Bb8{n:Nw}(hk:n.root (n.F k)=n.root (n.T k))(h:∀ b,s b=true->n.root b=n.root a):∀ b,AB3 n s k b=true->n.root b=n.root a:=by
 intro b hb;unfold AB3 at hb;split at hb
 ·rename_i h1;simp only[aX] at hb h1;have hF:n.root (n.F k)=n.root a:=by
   rcases h1 with h1 | h1
   ·exact h _ h1
   ·rw[hk];exact h _ h1
  rcases hb with (hb | hb) | hb
  ·rw[bH hb];exact hF
  ·rw[bH hb,<-hk];exact hF
  ·exact h b hb
 ·exact h b hb
theorem Ay8 {n:Nw} {a:Nat}:∀ (l:List Nat) {s:Nat->Bool},(∀ k∈l,n.root (n.F k)=n.root (n.T k))->(∀ b,s b=true->n.root b=n.root a)->∀ b,AM0 n l s b=true->n.root b=n.root a
 | [],_,_,h=>h
 | k::l,_,hl,h=>Ay8 l (λk' hk'=>hl k' (cG _ hk')) (Bb8 (hl k (cR ..)) h)
theorem Aj7 {n:Nw} {B:Nat}:∀ (l:List Nat) {s:Nat->Bool},(∀ k∈l,n.F k<B/\n.T k<B)->(∀ b,b<B->AM0 n l s b=true->s b=true)->∀ k∈l,s (n.F k)=s (n.T k)
 | [],_,_,_,k,hk=>by cases hk
 | j::l,s,hl,h,k,hk=>by
  have hj:=hl j (cR ..)
  have h1:∀ b,b<B->AB3 n s j b=true->s b=true:=λb hb hs=>h b hb (Aj6 l hs)
  rcases List.mem_cons.1 hk with rfl | hk
  ·by_cases hs:(s (n.F k) || s (n.T k))=true
   ·have hF:=h1 _ hj.1 (by unfold AB3;rw[if_pos hs];simp)
    have hT:=h1 _ hj.2 (by unfold AB3;rw[if_pos hs];simp)
    rw[hF,hT]
   ·simp only[aX,not_or,iK] at hs
    rw[hs.1,hs.2]
  ·have ih:=Aj7 (n:=n) (B:=B) l (s:=AB3 n s j) (λk' hk'=>hl k' (cG _ hk')) (λb hb hs=>Ay6 (h b hb hs)) k hk
   have hkB:=hl k (cG _ hk)
   have e:∀ b,b<B->AB3 n s j b=s b:=λb hb=>by
    cases hb':s b with
    | true=>exact Ay6 hb'
    | false =>
     cases hr:AB3 n s j b with
     | false=>rfl
     | true=>rw[h1 b hb hr] at hb';cases hb'
   rw[e _ hkB.1,e _ hkB.2] at ih
   exact ih
def BH4 (s:Nat->Bool):Nat->Nat
 | 0=>0
 | b+1=>BH4 s b+(if s b then 1 else 0)
theorem Bj9 (s:Nat->Bool):∀ B,BH4 s B<=B
 | 0=>aA _
 | B+1=>by have:=Bj9 s B;simp only[BH4];split<;>omega
theorem BL5 {s t:Nat->Bool} (h:∀ b,s b=true->t b=true):∀ B,BH4 s B<=BH4 t B
 | 0=>aA _
 | B+1=>by
  have:=BL5 h B
  simp only[BH4]
  by_cases hs:s B=true
  ·rw[if_pos hs,if_pos (h B hs)];omega
  ·rw[if_neg hs];split<;>omega
theorem BQ0 {s t:Nat->Bool} (h:∀ b,s b=true->t b=true) {c:Nat} (hs:s c=false) (ht:t c=true):∀ B,c<B->BH4 s B+1<=BH4 t B
 | 0,hc=>by omega
 | B+1,hc=>by
  simp only[BH4]
  by_cases e:c=B
  ·subst e
   rw[ht,hs]
   have:=BL5 h c
   simp;omega
  ·have:=BQ0 h hs ht B (by omega)
   by_cases hs':s B=true
   ·rw[if_pos hs',if_pos (h B hs')];omega
   ·rw[if_neg hs'];split<;>omega
theorem Bt8 {n:Nw} {l:List Nat} {s:Nat->Bool} {b:Nat} (h:s b=true):∀ i,rit n l s i b=true
 | 0=>h
 | i+1=>Aj6 l (Bt8 h i)
theorem rit_fix{n:Nw}(hl:∀ k∈l,n.F k<B/\n.T k<B){i:Nat}(h:∀ b,b<B->rit n l s (i+1) b=true->rit n l s i b=true):∀ k∈l,rit n l s i (n.F k)=rit n l s i (n.T k) :=
 Aj7 (B:=B) l hl h
theorem Ay7{n:Nw}(h:s (n.F k)=s (n.T k)):AB3 n s k=s:=by
 unfold AB3;split
 ·rename_i h1;rw[h,Bool.or_self] at h1;have hF:s (n.F k)=true:=by rw[h];exact h1
  funext b;by_cases e1:b=n.F k
  ·subst e1;simp[hF]
  ·by_cases e2:b=n.T k
   ·subst e2;simp[h1]
   ·simp[AK5 e1,AK5 e2]
 ·rfl
theorem Af6 {n:Nw}:∀ (l:List Nat) {s:Nat->Bool},(∀ k∈l,s (n.F k)=s (n.T k))->AM0 n l s=s
 | [],_,_=>rfl
 | k::l,s,h=>by
  show AM0 n l (AB3 n s k)=s
  rw[Ay7 (h k (cR ..))]
  exact Af6 l λk' hk'=>h k' (cG _ hk')
theorem Bc0{n:Nw}(hl:∀ k∈l,n.F k<B/\n.T k<B)(ha:a<B)(hs:s a=true):∀ k∈l,rit n l s B (n.F k)=rit n l s B (n.T k):=by
 have key:∀ i,(∀ k∈l,rit n l s i (n.F k)=rit n l s i (n.T k))\/i+1<=BH4 (rit n l s i) B:=by
  intro i;induction i with
  | zero =>
   right;have:=BQ0 (s:=λ_=>false) (t:=rit n l s 0) (λb h=>by cases h) (c:=a) rfl hs B ha;omega
  | succ i ih =>
   rcases ih with ih | ih
   ·left;have e:rit n l s (i+1)=rit n l s i:=Af6 l ih;rw[e];exact ih
   ·by_cases hst:∀ b,b<B->rit n l s (i+1) b=true->rit n l s i b=true
    ·left;have h1:=rit_fix hl hst;have e:rit n l s (i+1)=rit n l s i:=Af6 l h1;rw[e];exact h1
    ·right;obtain⟨b,hb⟩:=Classical.not_forall.1 hst;obtain⟨hb1,hb2⟩:=Classical.not_imp.1 hb;obtain⟨hb2,hb3⟩:=Classical.not_imp.1 hb2;have:=BQ0 (s:=rit n l s i) (t:=rit n l s (i+1)) (λc h=>Aj6 l h) (c:=b) (by simpa using hb3) hb2 B hb1;omega
 rcases key B with h | h
 ·exact h
 ·have:=Bj9 (rit n l s B) B;omega
theorem rit_iff{n:Nw}(ok:n.Ok)(hl:∀ k,k∈l<->k<n.M/\n.g k≠0){b:Nat}(ha:a<n.B):rit n l (λc=>Nat.beq c a) n.B b=true<->n.root b=n.root a:=by
 have hlB:∀ k∈l,n.F k<n.B/\n.T k<n.B:=λk hk=>⟨ok.f k ((hl k).1 hk).1,ok.t k ((hl k).1 hk).1⟩;have hs0:(λc=>Nat.beq c a) a=true:=by simp
 have hs1:∀ b,(λc=>Nat.beq c a) b=true->n.root b=n.root a:=λb hb=>by rw[bH hb]
 generalize (λc=>Nat.beq c a)=s0 at *;constructor
 ·have:∀ i b,rit n l s0 i b=true->n.root b=n.root a:=by
   intro i;induction i with
   | zero=>exact hs1
   | succ i ih=>exact Ay8 l (λk hk=>n.root_line ((hl k).1 hk).1 ((hl k).1 hk).2) ih
  exact this _ b
 ·intro hr;have hcl:=Bc0 (n:=n) (l:=l) hlB ha hs0;have hc:=n.root_const (θ:=λb=>if rit n l s0 n.B b then 1 else 0) (λk hk hg=>by rw[hcl k ((hl k).2 ⟨hk,hg⟩)])
  have h1:=hc a;have h2:=hc b;rw[hr,h1,if_pos (Bt8 hs0 _)] at h2;split at h2
  ·assumption
  ·exact absurd h2 (by decide)
theorem rsz_z{n:Int}(h:n.natAbs<=1208925819614629174706176):Rsz ((n:Int):Rat) 3:=Rsz.int _ (by
 have:(4294967296:Nat) ^ 3=79228162514264337593543950336:=by decide
 omega) (by decide)
abbrev eBs:ER (List Bool):=RL Z9
def bl (B:Nat) (s:Nat->Bool):List Bool:=(List.range B).map s
theorem AD8(B:Nat)(s:Nat->Bool):(bl B s).length=B:=by simp[bl]
theorem Bf2{i:Nat}(h:i<B):(bl B s)[i]?=some (s i):=by unfold bl;rw[aI,bA h];rfl
theorem BD6{t:Nat->Bool}(h:∀ b,b<B->s b=t b):bl B s=bl B t:=cK λb hb=>h b (List.mem_range.1 hb)
theorem Bf1{i:Nat}:(bl B s).set i true=bl B λb=>Nat.beq b i || s b:=by
 refine fT (by simp[bl]) λj h1 h2=>?_;rw[List.getElem_set];by_cases e:i=j
 ·subst e;simp[bl]
 ·have:Nat.beq j i=false:=by
   cases h:Nat.beq j i with
   | false=>rfl
   | true=>exact absurd (bH h).symm e
  rw[if_neg e];simp[bl,this]
theorem bl_none(B:Nat):List.replicate B false=bl B λ_=>false:=by refine fT (by simp[bl]) λj h1 h2=>?_;simp[bl]
theorem Bk5{n:Nw}(h:(s (n.F k) || s (n.T k))=true):((bl B s).set (n.F k) true).set (n.T k) true=bl B (AB3 n s k):=by
 rw[Bf1,Bf1];unfold AB3;rw[if_pos h];exact BD6 λb _=>by
  show (Nat.beq b (n.T k) || (Nat.beq b (n.F k) || s b))=(Nat.beq b (n.F k) || Nat.beq b (n.T k) || s b)
  cases Nat.beq b (n.T k)<;>cases Nat.beq b (n.F k)<;>rfl
theorem inL_iff(ok:nwOk n o)(k:Nat):k∈inL n o<->k<(A0 n o).M/\(A0 n o).g k≠0:=by
 unfold inL D7;rw[cL,cM];show k<n.ls.length/\_<->k<n.ls.length/\_;constructor
 ·rintro⟨h1,h2⟩;refine⟨h1,?_⟩;have hx:=ok.x k h1;have h2:k∉oN o:=by simpa using h2
  show (if k∈oN o then (0:Rat) else ((n.ls.getD k ln0).x:Rat)⁻¹)≠0;rw[if_neg h2];intro h;have h3:(((n.ls.getD k ln0).x:Int):Rat)≠0:=by intro h;have:=Rat.intCast_inj.1 (h.trans Rat.intCast_zero.symm);omega
  have:=fD _ h3;rw[h,aW] at this;exact absurd this (by decide)
 ·rintro⟨h1,h2⟩;refine⟨h1,?_⟩;have:k∉oN o:=λhm=>h2 (show (if k∈oN o then (0:Rat) else ((n.ls.getD k ln0).x:Rat)⁻¹)=0 by rw[if_pos hm]);simpa using this
theorem BI0:Ent prog 131:=en func131
theorem BG1{S:Nat->Prop}(up:Up S w)(hn:eN.R S w vn n)(ho:eI.R S w vo o)(ok:nwOk n o)(ha:a<(A0 n o).B):CR prog 131 #[vn,vo,iW (a:Nat)] w (eBs.at S (bl (A0 n o).B λb=>decide ((A0 n o).root b=(A0 n o).root a))):=by
 obtain⟨s,rfl,hs,hb⟩:=hn;have hn:eN.R S w (.agg #[iW n.b,s]) n:=⟨s,rfl,hs,hb⟩;have hnb:=ok.b;have hB6:=ok.b6;have hM:n.ls.length<=10:=ok.m;rw[hnb] at hn;rw[hnb];refine enter func131 O ntmps131 O (.beg (.go O (.box O O λw1 b3 n1=>.go O ?_)));obtain⟨e1,k3,hb3,hs1⟩:=n1;replace k3:Blk w1 b3 24 #[iW ((A0 n o).B:Nat),s]:=k3;refine .fa F9 O O (.go O (.ld A5 O O k3 O ?_));refine .make_ _ _ At4 By0 O (by decide) O O O (aA _) (by omega) (by omega) λw2 g n2=>?_;have f2:FB Z9 4 S w2 g (List.replicate (A0 n o).B false):=FB.made n2 rfl;obtain⟨e2,_,hg,hs2⟩:=n2;have k3:=k3.ext e2;have hsg:S g:=up g (by have:=e1.size;omega);refine .go O (.ixB (i:=a) At4 D6 O O O ha (.storeF (E:=Z9) (i:=a) (z:=true) (by decide) D6 O O f2 O (by rw[List.length_replicate];exact ha) (aD _) O λw3 f3 u3=>?_));rw[bl_none,Bf1] at f3;have hW3:Ext w1 w3:=u3.below e2 (by omega);have x3:=e1.trans hW3;have k3:=k3.upd u3 (by omega);have k3b:∀ {W:World},Ext w1 W->Blk W b3 24 #[iW ((A0 n o).B:Nat),s]:=λe=>(show Blk w1 b3 24 _ from by assumption).ext e;have hsW:∀ {W:World},Ext w1 W->eLs.R S W s n.ls:=λe=>ER.ext eLs hs (e1.trans e);have hnW:eN.R (λk=>k≠g) w3 (.agg #[iW ((A0 n o).B:Nat),s]) n:=ER.ext eN (eN.mono (λk _ h=>by have:=h.2;have:=e1.size;omega) (ER.lt eN hn)) x3;have hoW:eI.R (λk=>k≠g) w3 vo o:=ER.ext eI (eI.mono (λk _ h=>by have:=h.2;have:=e1.size;omega) (ER.lt eI ho)) x3;refine .go O (.ldA G2 O O k3 O (.go O (.call _ O BE4 O (Az4 (S:=(λk=>k≠g)) (λk hk=>by have:=u3.size;omega) hnW hoW ok.outs (by omega)) λvl w4 e4 hl=>?_)));have hL10:(inL n o).length<=10:=aG (AE6 n o) hM;have f4:=f3.ext e4;have hW4:=hW3.trans e4;generalize hI:(λc=>Nat.beq c a)=I0;have f4:FB Z9 4 S w4 g (bl (A0 n o).B I0):=by
  rw[<-hI];refine cast (congrArg _ (BD6 λb _=>?_)) f4;show (Nat.beq b a || false)=Nat.beq b a
  cases Nat.beq b a<;>rfl
 refine .goC O (.lp (α:=Nat) [3,7,8] O (λi=>[(9,iW (i:Nat))]) (λi W=>Ext w1 W/\i<=(A0 n o).B/\FB Z9 4 S W g (bl (A0 n o).B (rit (A0 n o) (inL n o) I0 i))/\eI.R (λk=>k≠g) W vl (A7 (inL n o))) (λi=>(A0 n o).B-i) 0 (lc1 O) ⟨hW4,aC _,f4,hl⟩ ?_);rintro i W ⟨hW,hi,fb,hl⟩;have k3:=k3b hW;have lg:=fb.lt;refine .go O (.fa F9 O O (.go O (.ld A5 O O k3 O (.go O ?_))));rcases aB i (A0 n o).B with hlt | hge;rotate_left
 ·have:i=(A0 n o).B:=by omega
  subst this;have r:=fb.toR (hsz:=by decide) (c:=(A0 n o).B) hsg (by rw[AD8];exact aA _) (by rw[AD8];omega);rw[AD8,<-hI] at r;refine .lssF O O O (by omega) (.goE O (.plain [_] results131 ⟨rfl,trivial⟩ ⟨e1.trans hW,?_⟩));have he:bl (A0 n o).B (rit (A0 n o) (inL n o) (λc=>Nat.beq c a) (A0 n o).B)=bl (A0 n o).B λb=>decide ((A0 n o).root b=(A0 n o).root a):=BD6 λb _=>Bool.eq_iff_iff.2 ((rit_iff ok.ok (inL_iff ok) ha).trans decide_eq_true_iff.symm);rw[he] at r;exact r
 refine .lssT O O O (by omega) (.goC O ?_);refine .lp (α:=Nat) [3,7,8,9] O (λj=>[(10,iW (j:Nat))]) (λj W'=>Ext w1 W'/\j<=(inL n o).length/\FB Z9 4 S W' g (bl (A0 n o).B (AM0 (A0 n o) ((inL n o).take j) (rit (A0 n o) (inL n o) I0 i)))/\eI.R (λk=>k≠g) W' vl (A7 (inL n o))) (λj=>(inL n o).length-j) 0 (lc1 O) ⟨hW,aC _,fb,hl⟩ ?_;clear fb hl k3 lg hW;rintro j W ⟨hW,hj,fb,hl⟩;have k3:=k3b hW;have lg:=fb.lt;have hpl:(A7 (inL n o)).length=(inL n o).length:=by simp[A7]
 refine .go O (.lenR C5 O O hl ?_);rw[hpl];rcases aB j (inL n o).length with hjl | hge;rotate_left
 ·have:j=(inL n o).length:=by omega
  subst this;rw[List.take_length] at fb;exact .lssF O O O (by omega) (.go O (.inc O O O (by omega) (.goN O (.mk (i+1) O (lc1 O) ⟨⟨hW,hlt,fb,hl⟩,by show (A0 n o).B-(i+1)<(A0 n o).B-i;omega⟩))))
 obtain⟨hgj,hkl,_⟩:=AM3 hjl;have htk:(inL n o).take (j+1)=(inL n o).take j++[(inL n o).getD j 0]:=by rw[cA,aE hjl,aF,aE hjl];rfl
 have hps:AM0 (A0 n o) ((inL n o).take (j+1)) (rit (A0 n o) (inL n o) I0 i)=AB3 (A0 n o) (AM0 (A0 n o) ((inL n o).take j) (rit (A0 n o) (inL n o) I0 i)) ((inL n o).getD j 0):=by rw[htk,Bb9]
 generalize (inL n o).getD j 0=k at hgj hkl hps;generalize AM0 (A0 n o) ((inL n o).take j) (rit (A0 n o) (inL n o) I0 i)=st at fb hps;have hgl:n.ls[k]?=some (n.ls.getD k ln0):=B0 hkl;have hF:=ok.f k hkl;have hT:=ok.t k hkl;have hFI:=ok.fI k hkl;have hTI:=ok.tI k hkl;generalize n.ls.getD k ln0=ln at hgl hFI hTI;refine .lssT O O O (by omega) (.goC O ?_);refine .par follows 9 [.inl _,.inl s,.inl _,.inl _,.inr (Ptr (B8 .i64) (λk=>k≠g) ((k:Nat):Int)),.inl (iW (k:Nat)),.inr (Ptr eL S ln),.inr (eL.at S ln),.inr (Ah4 W.heap.size 53 (Value.agg #[iW 0,iW 0,iW 0,iW 0]).cells)] [[],[(33,0)],[],[],[(35,2),(36,3)],[(37,4)],[(34,1),(38,5)],[(39,6)],[]] (by kernel_rfl) ⟨fao G5 O,λw e=>(E2 J0 O (k3.ext e) O).ob,mvo O,mvo O,λw e=>C4 (i:=j) C5 B5 O (ER.ext eI hl e) O hgj,λw e x4 hx4=>F7 A5 O hx4,λw e=>C4 (i:=k) I6 L8 O (hsW (hW.trans e)) O hgl,λw e x6 hx6=>K1 L8 O hx6,λw e=>R6 Aa0 e.size,trivial⟩ ?_;rintro W1 d1 _ _ _ _ vl7 hl7 _ ⟨c,rfl,hc,kc⟩;refine .storeA (E:=eL) (S:=λk=>k≠c) L8 O O kc O O hl7 (λh=>h O) λW2 kc u2 hl2=>?_;obtain⟨rfl,_⟩:=hl2;replace kc:Blk W2 c 53 #[iW ln.f,iW ln.t,iW ln.x,iW ln.c]:=kc;rw[hFI,hTI] at kc;have D:Ext W W2:=u2.below d1 hc;have hcg:c≠g:=by omega
 have hgc:g≠c:=λh=>hcg h.symm;have fb:=fb.ext D;have hl2:=ER.ext eI hl D;have hW2:=hW.trans D;have hg1:w1.heap.size<=g:=by omega
 refine .go O (.fa I5 O O (.go O (.ld A5 O O kc O (.go O (.ixB (i:=(A0 n o).F k) At4 D6 O O O hF (.ldF (E:=Z9) (i:=(A0 n o).F k) (by decide) D6 O O (aD _) fb (Bf2 hF) λe he=>?_))))));replace he:e=.bool (st ((A0 n o).F k)):=he;subst he
 cases hs1':st ((A0 n o).F k) with
 | true =>
  refine .go O (.fa I5 O O (.go O (.ld A5 O O kc O (.go O (.ixB (i:=(A0 n o).F k) At4 D6 O O O hF (.storeF (E:=Z9) (i:=(A0 n o).F k) (z:=true) (by decide) D6 O O fb O (by rw[AD8];exact hF) (aD _) O λW3 fb u3=>?_))))));have kc:=kc.upd u3 (by omega);refine .go O (.fa I4 O O (.go O (.ld A5 O O kc O (.go O (.ixB (i:=(A0 n o).T k) At4 D6 O O O hT (.storeF (E:=Z9) (i:=(A0 n o).T k) (z:=true) (by decide) D6 O O fb O (by rw[bV,AD8];exact hT) (aD _) O λW4 fb u4=>?_))))));rw[Bk5 (by rw[hs1'];rfl),<-hps] at fb;exact .go O (.inc O O O (by omega) (.goN O (.mk (j+1) O (lc1 O) ⟨⟨u4.below (u3.below hW2 (by omega)) (by omega),hjl,fb,eI.upd (eI.upd hl2 u3 (λh=>h O)) u4 (λh=>h O)⟩,by show (inL n o).length-(j+1)<(inL n o).length-j;omega⟩)))
 | false =>
 refine .go O (.fa I4 O O (.go O (.ld A5 O O kc O (.go O (.ixB (i:=(A0 n o).T k) At4 D6 O O O hT (.go O (.ldF (E:=Z9) (i:=(A0 n o).T k) (by decide) D6 O O (aD _) fb (Bf2 hT) λe he=>?_)))))));replace he:e=.bool (st ((A0 n o).T k)):=he;subst he
 cases hs2':st ((A0 n o).T k) with
 | true =>
  refine .go O (.fa I5 O O (.go O (.ld A5 O O kc O (.go O (.ixB (i:=(A0 n o).F k) At4 D6 O O O hF (.storeF (E:=Z9) (i:=(A0 n o).F k) (z:=true) (by decide) D6 O O fb O (by rw[AD8];exact hF) (aD _) O λW3 fb u3=>?_))))));have kc:=kc.upd u3 (by omega);refine .go O (.fa I4 O O (.go O (.ld A5 O O kc O (.go O (.ixB (i:=(A0 n o).T k) At4 D6 O O O hT (.storeF (E:=Z9) (i:=(A0 n o).T k) (z:=true) (by decide) D6 O O fb O (by rw[bV,AD8];exact hT) (aD _) O λW4 fb u4=>?_))))));rw[Bk5 (by rw[hs2'];cases st ((A0 n o).F k)<;>rfl),<-hps] at fb
  exact .go O (.inc O O O (by omega) (.goN O (.mk (j+1) O (lc1 O) ⟨⟨u4.below (u3.below hW2 (by omega)) (by omega),hjl,fb,eI.upd (eI.upd hl2 u3 (λh=>h O)) u4 (λh=>h O)⟩,by show (inL n o).length-(j+1)<(inL n o).length-j;omega⟩)))
 | false =>
 have hsm:AB3 (A0 n o) st k=st:=Ay7 (by rw[hs1',hs2']);rw[hsm] at hps;exact .go O (.inc O O O (by omega) (.goN O (.mk (j+1) O (lc1 O) ⟨⟨hW2,hjl,by show FB _ _ _ W2 _ (bl _ (AM0 _ ((inL n o).take (j+1)) _));rw[hps];exact fb,hl2⟩,by show (inL n o).length-(j+1)<(inL n o).length-j;omega⟩)))
theorem AT6:Ent prog 78:=en func78
theorem AS1{S:Nat->Prop}(up:Up S w)(hn:eN.R S w vn n)(ho:eI.R S w vo o) :
  CR prog 78 #[vn,vo] w (Two (eI.at S (if C8 n o=0 then AN7 (A0 n o).B (A0 n o).lab else [])) (Is (iW (C8 n o)))):=by
 obtain⟨s,rfl,hs,hb⟩:=hn;have hn:eN.R S w (.agg #[iW n.b,s]) n:=⟨s,rfl,hs,hb⟩;refine enter func78 O ntmps78 O (.beg (.go O (.box O O λw1 b2 n1=>.go O ?_)));obtain⟨e1,k2,hb2,hs1⟩:=n1;replace k2:Blk w1 b2 24 #[iW n.b,s]:=k2;refine .ldA G2 O O k2 O (.go O ?_);refine .call _ O Y4 O (V6 (hn.ext e1) (ho.ext e1)) λv3 w3 e3 h3=>?_;subst h3;have x3:=e1.trans e3;refine .go O ?_;by_cases hO:C8 n o=0;rotate_left
 ·refine .neqT O O O hO (.goE O (.plain [_,_] results78 ⟨rfl,rfl,trivial⟩ ⟨x3,_,_,rfl,?_,rfl⟩));rw[if_neg hO];exact RL.nil
 have ok:=K6 hO;have hnb:=ok.b;have hB6:=ok.b6;rw[if_pos hO,hO];have k2:=k2.ext e3;rw[hnb] at k2 hn;refine .neqF O O O O (.go O (.fa F9 O O (.go O (.ld A5 O O k2 O ?_))));refine .make_ _ _ C5 P6 O (by decide) O O O (aA _) (by omega) (by omega) λw4 g n4=>?_;have f4:FB (B8 .i64) 3 S w4 g (List.replicate (A0 n o).B (0:Int)):=FB.made n4 ⟨rfl,K8.2 (by decide)⟩;obtain⟨e4,_,hg,hs4⟩:=n4;have hsg:S g:=up g (by have:=x3.size;omega);have z3:=x3.size;have hnW:∀ {W:World},Ext w3 W->eN.R (λk=>k≠g) W (.agg #[iW ((A0 n o).B:Nat),s]) n:=λe=>ER.ext eN (eN.mono (λk _ h=>by have:=h.2;omega) (ER.lt eN hn)) (x3.trans e);have hoW:∀ {W:World},Ext w3 W->eI.R (λk=>k≠g) W vo o:=λe=>ER.ext eI (eI.mono (λk _ h=>by have:=h.2;omega) (ER.lt eI ho)) (x3.trans e);generalize hf:(λb=>(((A0 n o).lab b:Nat):Int))=f;refine .goC O ?_;refine .lp (α:=Nat) [1,2,7] O (λb=>[(8,iW ((A0 n o).cnt b:Nat)),(9,iW (b:Nat))]) (λb W=>Ext w3 W/\b<=(A0 n o).B/\FB (B8 .i64) 3 S W g (fil (A0 n o).B b f 0)) (λb=>(A0 n o).B-b) 0 (lc2 O O) ⟨e4,aC _,by rw[R8];exact f4⟩ ?_;rintro b W ⟨hW,hbB,fb⟩;have k2:=k2.ext hW;have lg:=fb.lt;refine .go O (.fa F9 O O (.go O (.ld A5 O O k2 O (.go O ?_))));rcases aB b (A0 n o).B with hlt | hge;rotate_left
 ·have:b=(A0 n o).B:=by omega
  subst this;rw[AI3] at fb;have r:=fb.toR (hsz:=by decide) (c:=(A0 n o).B) hsg (by simp) (by simp;omega);rw[dC,eE,<-hf] at r;exact .lssF O O O (by omega) (.goE O (.p2 results78 O O ⟨x3.trans hW,_,_,rfl,r,rfl⟩))
 refine .lssT O O O (by omega) (.go O (.ldA G2 O O k2 O (.go O ?_)));refine .call _ O BI0 O (BG1 (S:=λk=>k≠g) (a:=b) (λk hk=>by omega) (hnW hW) (hoW hW) ok hlt) λvr W1 d1 hr=>?_;have hW1:=hW.trans d1;have fb:=fb.ext d1;have hrb:=(A0 n o).root_le b;have hcb:=(A0 n o).cnt_le b;refine .goC O ?_;refine .lp (α:=Nat) [1,2,7,8,9,10] O (λc=>[(11,iW (c:Nat))]) (λc W'=>W'=W1/\c<=(A0 n o).root b) (λc=>(A0 n o).root b-c) 0 (lc1 O) ⟨rfl,aC _⟩ ?_;rintro c W' ⟨rfl,hc⟩;refine .go O (.ixN (i:=c) At4 D6 O O hr O (Bf2 (by omega)) λp hp=>.ldE (E:=Z9) D6 O O hp λe he=>?_);replace he:e=.bool (decide ((A0 n o).root c=(A0 n o).root b)):=he;subst he;by_cases hcr:(A0 n o).root c=(A0 n o).root b;rotate_left
 ·rw[decide_eq_false hcr];have hne:c≠(A0 n o).root b:=λh=>hcr (by rw[h,Nw.root_root]);exact .go O (.inc O O O (by omega) (.goN O (.mk (c+1) O (lc1 O) ⟨⟨rfl,by omega⟩,by show (A0 n o).root b-(c+1)<(A0 n o).root b-c;omega⟩)))
 rw[decide_eq_true hcr];have hce:c=(A0 n o).root b:=by have:=(A0 n o).root_le c;omega
 subst hce;refine .go O ?_;have hcs:=(A0 n o).cnt_succ b;by_cases hrr:(A0 n o).root b=b
 ·rw[if_pos hrr] at hcs;have hfb:f b=(((A0 n o).cnt b:Nat):Int):=by rw[<-hf];show (((A0 n o).lab b:Nat):Int)=_;rw[Nw.lab_root _ hrr]
  refine .eqlT O O O (by rw[hrr]) (.go O (.ixB (i:=b) C5 B5 O O O hlt (.storeF (E:=B8 .i64) (i:=b) (z:=f b) (by decide) B5 O O fb O (by rw[L7];exact hlt) (aD _) ⟨by rw[hfb],K8.2 (by omega)⟩ λW2 f2 u2=>?_)));rw[X5] at f2;refine .go O (.inc O O O (by omega) (.go O (.inc O O O (by omega) ?_)));exact .goN O (.mk (b+1) O (lc2 (by rw[hcs];rfl) O) ⟨⟨u2.below hW1 (by omega),hlt,f2⟩,by show (A0 n o).B-(b+1)<(A0 n o).B-b;omega⟩)
 ·rw[if_neg hrr,bP] at hcs;have hlb:f ((A0 n o).root b)=f b:=by rw[<-hf];show (((A0 n o).lab _:Nat):Int)=(((A0 n o).lab b:Nat):Int);rw[<-Nw.lab_of]
  refine .eqlF O O O (by omega) (.go O (.ixB (i:=(A0 n o).root b) C5 B5 O O O (by omega) (.ldF (E:=B8 .i64) (i:=(A0 n o).root b) (by decide) B5 O O (aD _) fb (Bj6 (by omega) (by omega)) λe he=>.ixB (i:=b) C5 B5 O O O hlt ?_)));rw[hlb] at he;refine .storeF (E:=B8 .i64) (i:=b) (z:=f b) (by decide) B5 O O fb O (by rw[L7];exact hlt) (aD _) he λW2 f2 u2=>?_;rw[X5] at f2;refine .go O (.inc O O O (by omega) ?_);exact .goN O (.mk (b+1) O (lc2 (by rw[hcs];rfl) O) ⟨⟨u2.below hW1 (by omega),hlt,f2⟩,by show (A0 n o).B-(b+1)<(A0 n o).B-b;omega⟩)
noncomputable def Al0 (n:NtV) (o:List Int):Nat:=if C8 n o=0 then (A0 n o).B else 0
theorem Bi5(n:NtV)(o:List Int):Al0 n o<=6:=by
 unfold Al0;split
 ·exact (K6 (by assumption)).b6
 ·omega
theorem BW4(n:NtV)(o:List Int):(if C8 n o=0 then AN7 (A0 n o).B (A0 n o).lab else [])=AN7 (Al0 n o) (A0 n o).lab:=by
 unfold Al0;split
 ·rfl
 ·rfl
def Nw.withTo (n:Nw) (k b:Nat):List Nat:=(List.range b).filter λc=>decide (n.lab c=k)
theorem Nw.withTo_succ(n:Nw)(k b:Nat):n.withTo k (b+1)=n.withTo k b++if n.lab b=k then [b] else []:=by
 unfold Nw.withTo;rw[aP,bS];by_cases h:n.lab b=k
 ·simp[h]
 ·simp[h]
theorem Nw.withTo_le(n:Nw)(k b:Nat):(n.withTo k b).length<=b:=by unfold Nw.withTo;exact aG (dO ..) (by rw[eE];exact aA _)
noncomputable def Az7 (n:NtV) (o:List Int):List (List Int):=(List.range ((A0 n o).refsTo (Al0 n o)).length).map λk=>A7 ((A0 n o).withTo k (Al0 n o))
theorem bsl_IIq{a:Option Addr}{n c:Nat}:Y7 prog 119 1 [(0,.slice a n c)]=some (25,#[.slice a n c]):=by kernel_rfl
theorem Am6:Ent prog 177:=en func177
theorem Aj9{S:Nat->Prop}(up:Up S w)(hn:eN.R S w vn n)(ho:eI.R S w vo o) :
  CR prog 177 #[vn,vo] w (Two (eI.at S (A7 ((A0 n o).refsTo (Al0 n o)))) (Is (iW (C8 n o)))):=by
 obtain⟨s,rfl,hs,hb⟩:=hn;have hn:eN.R S w (.agg #[iW n.b,s]) n:=⟨s,rfl,hs,hb⟩;refine enter func177 O ntmps177 O (.beg (.go O (.box O O λw1 b2 n1=>.go O ?_)));obtain⟨e1,k2,hb2,hs1⟩:=n1;refine .ldA G2 O O k2 O (.go O (.call _ O AT6 O (AS1 (up.ext e1.size) (hn.ext e1) (ho.ext e1)) λv3 w3 e3 h3=>?_));obtain⟨vl,ve,rfl,hl,he⟩:=h3;replace he:ve=.int .i64 (C8 n o):=he;subst he;rw[BW4] at hl;have hB6:=Bi5 n o;have x3:=e1.trans e3;have z3:=x3.size;generalize Al0 n o=B at hl hB6 ⊢;refine .goC O (.lp (α:=Nat×Value) [6,7] O (λy=>[(8,y.2),(9,iW (y.1:Nat))]) (λy W=>Ext w3 W/\y.1<=B/\B4 (B8 .i64) 3 w3.heap.size (λ_=>False) W y.2 (A7 ((A0 n o).refsTo y.1))) (λy=>B-y.1) (0,.slice none 0 0) (lc2 O O) ⟨Ext.refl _,aC _,B4.nil⟩ ?_);rintro⟨b,v⟩ W ⟨hW,hbB,hO⟩;replace hW:Ext w3 W:=hW;replace hbB:b<=B:=hbB;replace hO:B4 (B8 .i64) 3 w3.heap.size (λ_=>False) W v (A7 ((A0 n o).refsTo b)):=hO;refine .go O (.lenR C5 O O (ER.ext eI hl hW) ?_);rw[U1];rcases aB b B with hlt | hge;rotate_left
 ·have:b=B:=by omega
  subst this;exact .lssF O O O (by omega) (.goE O (.p2 results177 O O ⟨x3.trans hW,_,_,rfl,hO.toR (λk hk=>up k (by omega)) (λ_ h=>h.elim),rfl⟩))
 have hcl:=(A0 n o).cnt_le b;have hlen:(A7 ((A0 n o).refsTo b)).length=(A0 n o).cnt b:=by simp[A7,Nw.refsTo_len]
 have hrs:=(A0 n o).refsTo_succ b;refine .lssT O O O (by omega) (.go O (.ixN (i:=b) C5 B5 O O (ER.ext eI hl hW) O (Z1 hlt) λq hq=>.ldE (E:=B8 .i64) B5 O O hq λe he=>.go O (.lenR C5 O O (hO.toR (hsz:=by decide) (S:=λ_=>True) (λ_ _=>trivial) (λ_ h=>h.elim)) ?_)));obtain⟨rfl,_⟩:=he;rw[hlen];by_cases hr:(A0 n o).root b=b
 ·rw[if_pos hr] at hrs;have h1:=((A0 n o).lab_cnt b).2 hr;refine .eqlT O O O (by rw[h1]) (.go O (.bsl _ O O S7 λW3 b3 n3=>?_));obtain⟨d3,k3,hb3,hs3⟩:=n3;have hW3:=hW.trans d3;refine .gv O O (V8 (E:=B8 .i64) (base:=w3.heap.size) (n:=((b:Nat):Int)) (e:=.int .i64 (b:Nat)) (by decide) C5 P6 O O O (hO.ext d3) k3 ⟨rfl,K8.2 (by omega)⟩ (by rw[hlen];omega) (by decide) hW3.size) ?_;rintro v4 W4 ⟨hO4,g4,_⟩;have hW4:Ext w3 W4:=B4.below (hO.ext d3) g4 hW3 hW3.size;exact .go O (.inc O O O (by omega) (.goN O (.mk (b+1,v4) O (lc2 O O) ⟨⟨hW4,hlt,by show B4 _ _ _ _ W4 v4 (A7 ((A0 n o).refsTo (b+1)));rw[hrs];unfold A7;rw[aM];exact hO4⟩,by show B-(b+1)<B-b;omega⟩)))
 ·rw[if_neg hr,bB] at hrs;have h1:(A0 n o).lab b≠(A0 n o).cnt b:=λh=>hr (((A0 n o).lab_cnt b).1 h);exact .eqlF O O O (by omega) (.go O (.inc O O O (by omega) (.goN O (.mk (b+1,v) O (lc2 O O) ⟨⟨hW,hlt,by show B4 _ _ _ _ W v (A7 ((A0 n o).refsTo (b+1)));rw[hrs];exact hO⟩,by show B-(b+1)<B-b;omega⟩))))
theorem Av4:Ent prog 219:=en func219
theorem Au2{S:Nat->Prop}(up:Up S w)(hn:eN.R S w vn n)(ho:eI.R S w vo o) :
  CR prog 219 #[vn,vo] w (Two (eII.at S (Az7 n o)) (Is (iW (C8 n o)))):=by
 obtain⟨s,rfl,hs,hb⟩:=hn;have hn:eN.R S w (.agg #[iW n.b,s]) n:=⟨s,rfl,hs,hb⟩;refine enter func219 O ntmps219 O (.beg (.go O (.box O O λw1 b2 n1=>.go O ?_)));obtain⟨e1,k2,hb2,hs1⟩:=n1;refine .ldA G2 O O k2 O (.go O (.call _ O AT6 O (AS1 (up.ext e1.size) (hn.ext e1) (ho.ext e1)) λv3 w3 e3 h3=>?_));obtain⟨vl,ve,rfl,hl,he⟩:=h3;replace he:ve=.int .i64 (C8 n o):=he;subst he;rw[BW4] at hl;have x3:=e1.trans e3;have k2:=k2.ext e3;refine .go O (.ldA G2 O O k2 O (.go O (.call _ O Am6 O (Aj9 (up.ext x3.size) (hn.ext x3) (ho.ext x3)) λv4 w4 e4 h4=>?_)));obtain⟨vr,ve,rfl,hr,_⟩:=h4;have hl:=ER.ext eI hl e4;have hB6:=Bi5 n o;have x4:=x3.trans e4;have z4:=x4.size;unfold Az7;generalize Al0 n o=B at hl hr hB6 ⊢;have hrl:(A7 ((A0 n o).refsTo B)).length=((A0 n o).refsTo B).length:=by simp[A7]
 have hR6:((A0 n o).refsTo B).length<=6:=aG ((A0 n o).cnt_le B) hB6;generalize ((A0 n o).refsTo B).length=R at hrl hR6 ⊢;generalize hf:(λk=>A7 ((A0 n o).withTo k B))=f;refine .goC O (.lp (α:=Nat×Value) [6,7,8] O (λy=>[(10,y.2),(11,iW (y.1:Nat))]) (λy W=>Ext w4 W/\y.1<=R/\B4 eI 25 w4.heap.size S W y.2 ((List.range y.1).map f)) (λy=>R-y.1) (0,.slice none 0 0) (lc2 O O) ⟨Ext.refl _,aC _,B4.nil⟩ ?_);rintro⟨k,v⟩ W ⟨hW,hkR,hO⟩;replace hW:Ext w4 W:=hW;replace hkR:k<=R:=hkR;replace hO:B4 eI 25 w4.heap.size S W v ((List.range k).map f):=hO;have zW:=hW.size;refine .go O (.lenR C5 O O (ER.ext eI hr hW) ?_);rw[hrl];rcases aB k R with hlt | hge;rotate_left
 ·have:k=R:=by omega
  subst this;exact .lssF O O O (by omega) (.goE O (.p2 results219 O O ⟨x4.trans hW,_,_,rfl,hO.toR (λk hk=>up k (by omega)) (λ_ h=>h),rfl⟩))
 refine .lssT O O O (by omega) (.goC O (.lp (α:=Nat×Value) [6,7,8,10,11] O (λy=>[(12,y.2),(13,iW (y.1:Nat))]) (λy W'=>Ext W W'/\y.1<=B/\B4 (B8 .i64) 3 W.heap.size (λ_=>False) W' y.2 (A7 ((A0 n o).withTo k y.1))) (λy=>B-y.1) (0,.slice none 0 0) (lc2 O O) ⟨Ext.refl _,aC _,B4.nil⟩ ?_));rintro⟨b,u⟩ W' ⟨hW',hbB,hU⟩;replace hW':Ext W W':=hW';replace hbB:b<=B:=hbB;replace hU:B4 (B8 .i64) 3 W.heap.size (λ_=>False) W' u (A7 ((A0 n o).withTo k b)):=hU;have hl':=ER.ext eI hl (hW.trans hW');refine .go O (.lenR C5 O O hl' ?_);rw[U1];rcases aB b B with hbl | hge;rotate_left
 ·have:b=B:=by omega
  subst this;obtain⟨es,ho1,ho2⟩:=id hO;have hrow:eI.R (λk=>S k/\v.ownBlock≠some k) W' u (f k):=by rw[<-hf];exact hU.toR (λj hj=>⟨up j (by omega),λh=>by have:=(ho1.lt j h).2;omega⟩) (λ_ h=>h.elim)
  obtain⟨ar,cr,hvr,_⟩:=RL.len hrow;refine .lssF O O O (by omega) (.go O (.bsl _ O O (by rw[hvr];exact bsl_IIq) λW3 b3 n3=>?_));obtain⟨d3,k3,hb3,hs3⟩:=n3;have dd:=hW'.trans d3;have hW3:=hW.trans dd;have hk3:Blk W3 b3 25 u.cells:=by rw[hvr];exact k3
  refine .gv O O (L5 (E:=eI) (base:=w4.heap.size) (n:=f k) (e:=u) (by decide) BM4 info_IL O O O (hO.ext dd) hk3 (ER.ext eI hrow d3) (by simp;omega) (by decide) hW3.size) ?_;rintro v4 W4 ⟨hO4,g4⟩;have hW4:Ext w4 W4:=B4.below (hO.ext dd) g4 hW3 hW3.size;exact .go O (.inc O O O (by omega) (.goN O (.mk (k+1,v4) O (lc2 O O) ⟨⟨hW4,hlt,by show B4 _ _ _ _ W4 v4 ((List.range (k+1)).map f);rw[aP,aM];exact hO4⟩,by show R-(k+1)<R-k;omega⟩)))
 have hws:=(A0 n o).withTo_succ k b;have hwl:=(A0 n o).withTo_le k b;refine .lssT O O O (by omega) (.go O (.ixN (i:=b) C5 B5 O O hl' O (Z1 hbl) λq hq=>.ldE (E:=B8 .i64) B5 O O hq λe he=>.go O ?_));obtain⟨rfl,_⟩:=he;by_cases hlk:(A0 n o).lab b=k
 ·rw[if_pos hlk] at hws;refine .eqlT O O O (by rw[hlk]) (.go O (.bsl _ O O S7 λW3 b3 n3=>?_));obtain⟨d3,k3,hb3,hs3⟩:=n3;have hW3:=hW'.trans d3;refine .gv O O (V8 (E:=B8 .i64) (base:=W.heap.size) (n:=((b:Nat):Int)) (e:=.int .i64 (b:Nat)) (by decide) C5 P6 O O O (hU.ext d3) k3 ⟨rfl,K8.2 (by omega)⟩ (by simp[A7];omega) (by decide) hW3.size) ?_;rintro v4 W4 ⟨hO4,g4,_⟩;have hW4:Ext W W4:=B4.below (hU.ext d3) g4 hW3 hW3.size;exact .go O (.inc O O O (by omega) (.goN O (.mk (b+1,v4) O (lc2 O O) ⟨⟨hW4,hbl,by show B4 _ _ _ _ W4 v4 (A7 ((A0 n o).withTo k (b+1)));rw[hws];unfold A7;rw[aM];exact hO4⟩,by show B-(b+1)<B-b;omega⟩)))
 ·rw[if_neg hlk,bB] at hws;exact .eqlF O O O (by omega) (.go O (.inc O O O (by omega) (.goN O (.mk (b+1,u) O (lc2 O O) ⟨⟨hW',hbl,by show B4 _ _ _ _ W' u (A7 ((A0 n o).withTo k (b+1)));rw[hws];exact hU⟩,by show B-(b+1)<B-b;omega⟩))))
theorem BE3:Ent prog 217:=en func217
theorem Az3{S:Nat->Prop}{a b:Int}(up:Up S w)(hn:eN.R S w vn n)(ho:eI.R S w vo o) :
  CR prog 217 #[vn,vo,iW a,iW b] w (Two (Is (.bool (AL0 n o a b))) (Is (iW (X7 n o a b)))):=by
 obtain⟨s,rfl,hs,hb⟩:=hn;have hn:eN.R S w (.agg #[iW n.b,s]) n:=⟨s,rfl,hs,hb⟩;refine enter func217 O ntmps217 O (.beg (.go O (.box O O λw1 b3 n1=>.go O ?_)));obtain⟨e1,k3,hb3,hs1⟩:=n1;replace k3:Blk w1 b3 24 #[iW n.b,s]:=k3;refine .ldA G2 O O k3 O (.go O ?_);refine .call _ O AT6 O (AS1 (up.ext e1.size) (hn.ext e1) (ho.ext e1)) λv3 w3 e3 h3=>?_;obtain⟨vl,ve,rfl,hl,he⟩:=h3;replace he:ve=.int .i64 (C8 n o):=he;subst he;have x3:=e1.trans e3;have k3:=k3.ext e3;have hno:∀ {p:Int},X7 n o a b=p->p≠0->AL0 n o a b=false:=λh hp=>by unfold AL0;exact decide_eq_false λh'=>hp (h▸h'.1)
 refine .go O ?_;by_cases hO:C8 n o=0;rotate_left
 ·have hce:X7 n o a b=C8 n o:=by unfold X7;rw[if_pos hO]
  refine .neqT O O O hO (.goE O (.plain [_,_] results217 ⟨rfl,rfl,trivial⟩ ⟨x3,_,_,rfl,?_,by rw[hce]⟩));rw[hno hce hO]
 have ok:=K6 hO;have hnb:=ok.b;rw[if_pos hO] at hl;have bad:¬ (AR0 n a/\AR0 n b)->X7 n o a b=1:=λh=>by unfold X7;rw[if_neg (by simpa using hO),if_neg h]
 have out1:¬ (AR0 n a/\AR0 n b)->∀ {W:World},Ext w W->Ext w W/\Two (Is (.bool (AL0 n o a b))) (Is (iW (X7 n o a b))) (tup [.bool false,iW 1]) W:=λh W hx=>⟨hx,_,_,rfl,by rw[hno (bad h) (by decide)],by rw[bad h]⟩;refine .neqF O O O hO (.go O ?_);by_cases ha0:a<0
 ·exact .lssT O O O ha0 (.goE O (.p2 results217 O O (out1 (λh=>by have:=h.1.1;omega) x3)))
 refine .lssF O O O ha0 (.go O (.fa F9 O O (.go O (.ld A5 O O k3 O (.go O ?_)))));by_cases ha1:n.b<=a
 ·exact .geqT O O O ha1 (.goE O (.p2 results217 O O (out1 (λh=>by have:=h.1.2;omega) x3)))
 refine .geqF O O O ha1 (.go O ?_);by_cases hb0:b<0
 ·exact .lssT O O O hb0 (.goE O (.p2 results217 O O (out1 (λh=>by have:=h.2.1;omega) x3)))
 refine .lssF O O O hb0 (.go O (.fa F9 O O (.go O (.ld A5 O O k3 O (.go O ?_)))));by_cases hb1:n.b<=b
 ·exact .geqT O O O hb1 (.goE O (.p2 results217 O O (out1 (λh=>by have:=h.2.2;omega) x3)))
 have hce:X7 n o a b=0:=by unfold X7;rw[if_neg (by simpa using hO),if_pos ⟨⟨by omega,by omega⟩,by omega,by omega⟩]
 obtain⟨a',rfl⟩:=iM (show 0<=a by omega);obtain⟨b',rfl⟩:=iM (show 0<=b by omega);have hga:(AN7 (A0 n o).B (A0 n o).lab)[a']?=some (((A0 n o).lab a':Nat):Int):=Z1 (by omega);have hgb:(AN7 (A0 n o).B (A0 n o).lab)[b']?=some (((A0 n o).lab b':Nat):Int):=Z1 (by omega);have hle:=(A0 n o).lab_eq (a:=a') (b:=b') (by omega) (by omega);have hcb:AL0 n o (a':Nat) (b':Nat)=decide ((((A0 n o).lab a':Nat):Int)=(((A0 n o).lab b':Nat):Int)):=by
  unfold AL0;have hq:(X7 n o (a':Nat) (b':Nat)=0/\(A0 n o).root ((a':Nat):Int).toNat=(A0 n o).root ((b':Nat):Int).toNat)<->(((A0 n o).lab a':Nat):Int)=(((A0 n o).lab b':Nat):Int):=by
   constructor
   ·exact λh=>by have:=hle.2 h.2;omega
   ·exact λh=>⟨hce,hle.1 (by omega)⟩
  by_cases h:(((A0 n o).lab a':Nat):Int)=(((A0 n o).lab b':Nat):Int)
  ·rw[decide_eq_true h,decide_eq_true (hq.2 h)]
  ·rw[decide_eq_false h,decide_eq_false λh'=>h (hq.1 h')]
 rw[hcb,hce];refine .geqF O O O hb1 (.goC O ?_);refine .par follows 8 [.inl _,.inl _,.inr (Ptr (B8 .i64) S (((A0 n o).lab a':Nat):Int)),.inl (iW ((A0 n o).lab a':Nat)),.inl _,.inl _,.inr (Ptr (B8 .i64) S (((A0 n o).lab b':Nat):Int)),.inl (iW ((A0 n o).lab b':Nat))] [[],[],[(39,0),(40,1)],[(41,2)],[],[],[(43,4),(44,5)],[(45,6)]] (by kernel_rfl) ⟨mvo O,mvo O,λw e=>C4 (i:=a') C5 B5 O (ER.ext eI hl e) O hga,λw e x2 hx2=>F7 A5 O hx2,mvo O,mvo O,λw e=>C4 (i:=b') C5 B5 O (ER.ext eI hl e) O hgb,λw e x6 hx6=>F7 A5 O hx6,trivial⟩ ?_;intro W7 d7 y2 hy2 y6 hy6;by_cases h:(((A0 n o).lab a':Nat):Int)=(((A0 n o).lab b':Nat):Int)
 ·rw[decide_eq_true h];exact .eqlT O O O h (.goE O (.p2 results217 O O ⟨x3.trans d7,_,_,rfl,rfl,rfl⟩))
 ·rw[decide_eq_false h];exact .eqlF O O O h (.goE O (.p2 results217 O O ⟨x3.trans d7,_,_,rfl,rfl,rfl⟩))
section
variable {α:Type} {E:ER α} {t:TypeId} {base:Nat} {X X':Nat->Prop} {w w':World} {v:Value} {l:List α}
theorem B4.grownX {ob:Option Nat} (h:B4 E t base X w v l) (hg:w.grownBy w' ob) (hne:∀ b,v.ownBlock=some b->ob≠some b) (hX:∀ k,X k->k<w.heap.size->ob≠some k/\X' k):B4 E t base X' w' v l:=by
 obtain⟨es,h1,h2⟩:=h;refine⟨es,⟨h1.1,?_⟩,⟨h2.1,λi e x he hx=>?_⟩⟩
 ·rcases h1.2 with hn | ⟨g,cap,cur,hv,hb,hg',rest⟩
  ·exact .inl hn
  ·have hB:Blk w g t cur:=hg';exact .inr ⟨g,cap,cur,hv,hb,(hg.block g hB.lt (λe=>hne g (by rw[hv];rfl) e.symm)).trans hg',rest⟩
 ·have h3:=ER.lt E (h2.2 i e x he hx);have h4:=E.keep (w':=w') (λk c t f hS hk=>(hg.block k hS.2 (λe=>(hX k hS.1.1 hS.2).1 e.symm)).trans hk) h3;exact E.mono (λk _ hS=>⟨(hX k hS.1.1 hS.2).2,hS.1.2⟩) h4
theorem B4.updX {b:Nat} (h:B4 E t base X w v l) (hu:Upd w w' b) (hne:v.ownBlock≠some b) (hX:∀ k,X k->v.ownBlock≠some k->k≠b/\X' k):B4 E t base X' w' v l:=by
 obtain⟨es,h1,h2⟩:=h;refine⟨es,⟨h1.1,?_⟩,⟨h2.1,λi e x he hx=>?_⟩⟩
 ·rcases h1.2 with hn | ⟨g,cap,cur,hv,hb,hg',rest⟩
  ·exact .inl hn
  ·exact .inr ⟨g,cap,cur,hv,hb,(hu.block g (λe=>hne (by rw[hv,<-e];rfl))).trans hg',rest⟩
 ·have h4:=E.keep (Kp.upd hu (λhS=>(hX b hS.1 hS.2).1 O)) (h2.2 i e x he hx);exact E.mono (λk _ hS=>⟨(hX k hS.1 hS.2).2,hS.2⟩) h4
theorem B4.own_lt (h:B4 E t base X w v l) {b:Nat} (hb:v.ownBlock=some b):base<=b/\b<w.heap.size:=by obtain⟨es,h1,_⟩:=h;exact h1.lt b hb
end
def Ao2 (S:Nat->Prop) (g:Nat) (vs:List Value):Nat->Prop:=λk=>S k/\k≠g/\∀ u∈vs,u.ownBlock≠some k
structure RwI (S:Nat->Prop) (base g:Nat) (W:World) (vs:List Value) (ls:List (List QV)):Prop where
 out:FB Be3 26 (λ_=>True) W g vs
 len:vs.length=ls.length
 inn:∀ (i:Nat) (u:Value) (m:List QV),vs[i]?=some u->ls[i]?=some m->B4 eQ 39 base (Ao2 S g vs) W u m
 dis:∀ (i j:Nat) (u u':Value),i≠j->vs[i]?=some u->vs[j]?=some u'->∀ b,u.ownBlock=some b->u'.ownBlock≠some b
section
variable {S:Nat->Prop} {base g:Nat} {W W':World} {vs:List Value} {ls:List (List QV)}
theorem RwI.ext (h:RwI S base g W vs ls) (e:Ext W W'):RwI S base g W' vs ls:=⟨h.out.ext e,h.len,λi u m h1 h2=>(h.inn i u m h1 h2).ext e,h.dis⟩
theorem RwI.ls_get (h:RwI S base g W vs ls) {i:Nat} {u:Value} (hi:vs[i]?=some u):∃ m,ls[i]?=some m:=by have h1:=(List.getElem?_eq_some_iff.1 hi).1;rw[h.len] at h1;exact⟨_,aE h1⟩
theorem RwI.own_lt (h:RwI S base g W vs ls) {u:Value} (hu:u∈vs) {b:Nat} (hb:u.ownBlock=some b):base<=b/\b<W.heap.size:=by obtain⟨i,hi⟩:=List.mem_iff_getElem?.1 hu;obtain⟨m,hm⟩:=h.ls_get hi;exact (h.inn i u m hi hm).own_lt hb
theorem RwI.ne_g (h:RwI S base g W vs ls) {u:Value} (hu:u∈vs):u.ownBlock≠some g:=λhb=>by
 obtain⟨i,hi⟩:=List.mem_iff_getElem?.1 hu
 obtain⟨m,hm⟩:=h.ls_get hi
 obtain⟨_,c1,k1⟩:=(h.inn i u m hi hm).blk hb
 obtain⟨es,k2,_⟩:=h.out
 have e1:W.heap[g]?=some (.cells c1 39 (0,0)):=k1
 have e2:W.heap[g]?=some (.cells (cellsOf es).toArray 26 (0,0)):=k2
 rw[e1] at e2
 cases e2
theorem RwI.fresh {n:Nat} (f:FB Be3 26 (λ_=>True) W g (List.replicate n (.slice none 0 0))):RwI S base g W (List.replicate n (.slice none 0 0)) (List.replicate n []):=by
 refine⟨f,by simp,λi u m h1 h2=>?_,λi j u u' _ h1 _ b hb=>?_⟩
 ·rw[eA] at h1 h2;split at h1
  ·rw[if_pos (by assumption)] at h2
   cases h1;cases h2;exact B4.nil
  ·cases h1
 ·rw[eA] at h1;split at h1
  ·cases h1;cases hb
  ·cases h1
theorem RwI.step {W'':World} {i:Nat} {u v':Value} {m:List QV} {x:QV} (h:RwI S base g W vs ls) (hi:vs[i]?=some u) (hm:ls[i]?=some m) (hv:B4 eQ 39 base (Ao2 S g vs) W' v' (m++[x])) (hg:W.grownBy W' u.ownBlock) (hob:v'.ownBlock=u.ownBlock\/v'.ownBlock=some W.heap.size)
  (fb:FB Be3 26 (λ_=>True) W'' g (vs.set i v')) (hu:Upd W' W'' g):RwI S base g W'' (vs.set i v') (ls.set i (m++[x])):=by
 have hgl:=h.out.lt;have hum:u∈vs:=List.mem_iff_getElem?.2 ⟨i,hi⟩;have hil:=(List.getElem?_eq_some_iff.1 hi).1;have hvg:v'.ownBlock≠some g:=λe=>by
  rcases hob with h1 | h1
  ·rw[h1] at e;exact h.ne_g hum e
  ·rw[h1] at e;cases e;omega
 have mem:∀ u',u'∈vs.set i v'->u'=v'\/u'∈vs:=λu' hu'=>by
  rcases eT hu' with h1 | h1
  ·exact .inr h1
  ·exact .inl h1
 have old:∀ (j:Nat) (u':Value) (b:Nat),j≠i->vs[j]?=some u'->v'.ownBlock=some b->u'.ownBlock≠some b:=λj u' b hj h1 hb hb'=>by
  rcases hob with h2 | h2
  ·rw[h2] at hb;exact h.dis i j u u' (λe=>hj e.symm) hi h1 b hb hb'
  ·rw[h2] at hb;cases hb;have:=(h.own_lt (List.mem_iff_getElem?.2 ⟨j,h1⟩) hb').2;omega
 refine⟨fb,by rw[bV,bV,h.len],λj u' m' h1 h2=>?_,λj k u1 u2 hjk h1 h2 b hb=>?_⟩
 ·by_cases e:j=i
  ·subst e;rw[dM hil] at h1;rw[dM (by rw[<-h.len];exact hil)] at h2
   cases h1;cases h2;refine hv.updX hu hvg λk hk hne=>⟨hk.2.1,hk.1,hk.2.1,λu' hu'=>?_⟩;rcases mem u' hu' with rfl | h3
   ·exact hne
   ·exact hk.2.2 u' h3
  ·rw[bW (λh=>e h.symm)] at h1 h2;have hum':u'∈vs:=List.mem_iff_getElem?.2 ⟨j,h1⟩;have hj:=h.inn j u' m' h1 h2;have hj':B4 eQ 39 base (Ao2 S g (vs.set i v')) W' u' m':=hj.grownX hg (λb hb hb'=>h.dis i j u u' (λe'=>e e'.symm) hi h1 b hb' hb) λk hk hkl=>⟨hk.2.2 u hum,hk.1,hk.2.1,λu2 hu2=>by
    rcases mem u2 hu2 with rfl | h3
    ·rcases hob with h4 | h4
     ·rw[h4];exact hk.2.2 u hum
     ·rw[h4];intro e';cases e';omega
    ·exact hk.2.2 u2 h3⟩
   exact hj'.updX hu (h.ne_g hum') λk hk _=>⟨hk.2.1,hk⟩
 ·by_cases ej:j=i
  ·subst ej;rw[dM hil] at h1
   cases h1;rw[bW hjk] at h2;exact old k u2 b (λe=>hjk e.symm) h2 hb
  ·rw[bW (λh=>ej h.symm)] at h1;by_cases ek:k=i
   ·subst ek;rw[dM hil] at h2
    cases h2;intro hb';exact old j u1 b ej h1 hb' hb
   ·rw[bW (λh=>ek h.symm)] at h2;exact h.dis j k u1 u2 hjk h1 h2 b hb
end
theorem As3:Ent prog 267:=en func267
theorem Aq8{n:Int}:CR prog 267 #[iW n] w (Is (iW (AH2 n))):=by refine enter func267 O ntmps267 O (.sr (.an O O (.sr (.mv O O (.max_ O O O (.min_ O O O (.an O O (.ret (.plain [_] results267 ⟨rfl,trivial⟩ ⟨Ext.refl _,?_⟩)))))))));show Value.int .i64 (min (max n 0) 1024)=_;rw[show min (max n 0) 1024=((AH2 n:Nat):Int) by unfold AH2;omega]
theorem BZ3:Ent prog 245:=en func245
theorem BU8{S:Nat->Prop}{m:List (List QV)}{r c:Int}(up:Up S w)(hm:eM.R S w vm m)(hk:mk_ L m)(hL:1<=L)(hL2:L<=100000000) :
  CR prog 245 #[vm,iW r,iW c] w (λv W=>B4 eV 26 w.heap.size S W v (C6 (AH2 r) (AH2 c) (rm m))):=by
 have hr:=Al5 r;have hc:=Al5 c;refine enter func245 O ntmps245 O (.sr (.an O O (.sr (.mv O O ?_))));refine .call _ O As3 O Aq8 λv1 w1 e1 h1=>.mv O O ?_;subst h1;refine .call _ O As3 O Aq8 λv2 w2 e2 h2=>?_;subst h2;have x2:=e1.trans e2;refine .call _ O AA0 O (Z7 (S:=S) (up.ext x2.size) (by decide) (by decide)) λv3 w3 e3 h3=>.mv O O ?_;have x3:=x2.trans e3;have hk1:qk L (qc ((1:Int):Rat)):=AJ7 (Rsz.int 1 (bC (by decide) (aQ (by decide) hL)) hL);refine .call _ O BR4 O (BG4 (k:=qc ((1:Int):Rat)) (b:=[]) (f:=rm m) (up.ext x3.size) h3 (ER.ext eM hm x3) RL.nil (by omega) (by omega) λ{T W i j} u hk' ha hb hi hj=>by have:=Az6 (i:=i) (j:=j) (vb:=.slice none 0 0) u hk' ha hk1 hk hL hL2;rw[C3,Aa6,show (((1:Int):Rat))*rm m i j=rm m i j by grind] at this;exact this) λv4 w4 e4 h4=>.an O O (.ret ?_)
 exact .p1 _ results245 O ⟨x3.trans e4,B4.base h4 x3.size⟩
theorem BO2{p:List Nat}{c:Nat}(h:c∈p):∃ j,j<p.length/\p.getD j 0=c:=by obtain⟨j,hj⟩:=List.mem_iff_getElem?.1 h;exact⟨j,(List.getElem?_eq_some_iff.1 hj).1,by rw[aF,hj];rfl⟩
theorem BE5:Ent prog 224:=en func224
theorem Az5{S:Nat->Prop}{p:List Nat}(h:eI.R S w v (A7 p)):CR prog 224 #[v,iW (k:Nat)] w (Is (.bool (decide (k∈p)))):=by
 obtain⟨_,_,_,_,hl⟩:=RL.len h;have hpl:(A7 p).length=p.length:=by simp
 refine enter func224 O ntmps224 O (.sr (.an O O (.seq (.sr (.an O O (.block (.loop (α:=Nat) (λi=>[(0,v),(1,iW (k:Nat)),(5,iW (i:Nat))]) (λi W=>W=w/\i<=p.length/\∀ j,j<i->p.getD j 0≠k) (λi=>p.length-i) 0 ?_ ?_ ?_)))))))
 ·exact lkA rfl
 ·exact⟨rfl,aC _,λj hj=>absurd hj (bK _)⟩
 rintro i W ⟨rfl,hi,hall⟩;refine .seq (.sr (.mv O O (.mv O O (.lenR C5 O O h ?_))));rw[hpl];rcases aB i p.length with hlt | hge;rotate_left
 ·refine .lssF O O O (by omega) (.nil (.condF O (.exit (.sr (.an O O (.ret ?_))))));have hno:k∉p:=λhk=>by obtain⟨j,hj,e⟩:=BO2 hk;exact hall j (by omega) e
  exact .plain [_] results224 ⟨rfl,trivial⟩ ⟨Ext.refl _,by rw[decide_eq_false hno]<;>rfl⟩
 have hg:(A7 p)[i]?=some ((p.getD i 0:Nat):Int):=by rw[aI,B0 (z:=0) hlt];rfl
 refine .lssT O O O (by omega) (.nil (.condT O (.skip (.seq (.block (.sr (.mv O O (.mv O O (.ixN (i:=i) C5 B5 O O h O hg λq hq=>.ldE (E:=B8 .i64) B5 O O hq λe he=>.mv O O ?_)))))))));obtain⟨rfl,_⟩:=he;by_cases he:p.getD i 0=k
 ·refine .eqlT O O O (by omega) (.nil (.condT O (.sr (.an O O (.ret ?_)))));have hyes:k∈p:=he▸List.mem_iff_getElem?.2 ⟨i,B0 hlt⟩;exact .plain [_] results224 ⟨rfl,trivial⟩ ⟨Ext.refl _,by rw[decide_eq_true hyes]<;>rfl⟩
 ·refine .eqlF O O O (by omega) (.nil (.condF O (.skip (.region (.mv O O (.add O O O (.an O O ?_)))))));rw[wI (by omega)];refine⟨rfl,i+1,lkA rfl,⟨rfl,hlt,λj hj=>?_⟩,by show p.length-(i+1)<p.length-i;omega⟩;by_cases e:j=i
  ·subst e;exact he
  ·exact hall j (by omega)
theorem inv_q{b:QV}(h:pn b≠0):E3 ⟨zc (pd b),zc (pn b)⟩=(E3 b)⁻¹:=by
 have hp:=Q8 b;have h1:E3 b=Rat.divInt (pn b) (pd b):=rfl;rw[h1,Rat.inv_divInt];generalize pn b=n at h;generalize pd b=d at hp;unfold E3 pn pd;simp only[D0];rw[if_neg h];split
 ·rw[Rat.divInt_neg',Int.neg_neg]
 ·rfl
theorem AZ4:Ent prog 76:=en func76
theorem AW7{S:Nat->Prop}{a b:QV}(up:Up S w)(ha:eQ.R S w va a)(hb:eQ.R S w vb b)(hla:qok L a)(hlb:qok L b)(h1:1<=L)(hL:L<=400000000)(h0:E3 b≠0) :
  CR prog 76 #[va,vb] w (Two (eQ.at S (qc (E3 a*(E3 b)⁻¹))) (Is (iW 0))):=by
 have hva:=G8 O ha;have hvb:=G8 O hb;have hL9:L<=1000000000:=by omega
 have hbn:pn b≠0:=by intro h;apply h0;unfold E3;rw[h,Rat.zero_divInt]
 obtain⟨db1,db2⟩:=AM7 hb;have lnb:=Ak2 db1 hlb;have ldb:=Ar5 db2 hlb h1;have hri:Rsz (E3 b)⁻¹ L:=(Bt4 db1 db2 hlb h1).inv h1;refine enter func76 O ntmps76 O (.sr (.box O O λw1 b2 n1=>.box O O λw2 b3 n2=>.alloc O E8 λw3 b4 n3=>.an O O ?_));obtain⟨e1,k2,hb2,hs1⟩:=n1;obtain⟨e2,k3,hb3,hs2⟩:=n2;obtain⟨e3,k4,hb4,hs3⟩:=n3;have x3:=(e1.trans e2).trans e3;have k2:=(k2.ext e2).ext e3;have k3:=k3.ext e3;have hS4:¬ Sx S w.heap.size w3.heap.size b4:=Sx.no (by omega) (by omega);have up3:Up (Sx S w.heap.size w3.heap.size) w3:=Sx.up up (aA _) x3.size;have ha3:=(ha.par w3.heap.size).ext x3;have hb3':=(hb.par w3.heap.size).ext x3;have hout:∀ {W:World} {v:Value} {z:QV},eQ.R (Sx S w.heap.size w3.heap.size) W v z->eQ.R S W v z:=λh=>h.out;have hw4:w.heap.size<=b4:=by omega
 generalize hT:Sx S w.heap.size w3.heap.size=T at *;refine .seq (.sr (.ldA A3 O O k3 (eQ.csz hb) ?_));rw[<-hvb];refine .call _ O AT8 O (AS3 up3 hb3' hlb hL9) λv0 w0 e0 h00=>?_;subst h00;refine .eqlF O O O (λh=>hbn (Int.sign_eq_zero_iff_zero.1 h)) (.nil (.condF O (.skip (.seq ?_))));have hq:qok L ⟨zc (pd b),zc (pn b)⟩:=⟨AA4 ldb,AA4 lnb⟩;have up4:=up3.ext e0.size;refine .par follows 8 [.inl va,.inl vb,.inr (eZ.at T (zc (pd b))),.inl vb,.inr (eZ.at T (zc (pn b))),.inr (eQ.at T ⟨zc (pd b),zc (pn b)⟩),.inr (eQ.at T (qc (E3 b)⁻¹)),.inr (eQ.at T (qc (E3 a*(E3 b)⁻¹)))] [[],[],[(11,1)],[],[(13,3)],[(12,2),(14,4)],[(15,5)],[(10,0),(16,6)]] (by kernel_rfl) ⟨λw e=>((E1 A3 O ((k2.ext e0).ext e) (eQ.csz ha)).eq hva.symm).ob,λw e=>((E1 A3 O ((k3.ext e0).ext e) (eQ.csz hb)).eq hvb.symm).ob,λw e=>(A4 _ O2 O (N5 (up4.ext e.size) ((hb3'.ext e0).ext e) hlb hL9)).oa,λw e=>((E1 A3 O ((k3.ext e0).ext e) (eQ.csz hb)).eq hvb.symm).ob,λw e=>(A4 _ Q4 O (P9 (up4.ext e.size) ((hb3'.ext e0).ext e) hlb hL9)).oa,λw e x hx y hy=>by
   obtain⟨s,rfl,hs⟩:=hx;obtain⟨t,rfl,ht⟩:=hy;exact K5 (Bg5 [(0,.agg #[.bool (zc (pd b)).neg,s]),(1,.agg #[.bool (zc (pn b)).neg,t])] O BD4) ⟨s,t,rfl,hs,ht⟩ (G7 _ _ _),λw e x hx=>by
   have:=AO0 (up4.ext e.size) hx hq h1 hL9;rw[inv_q hbn] at this;exact (A4 _ AP0 O this).oa,λw e x hx=>by
   have:=AW6 (up4.ext e.size) ((ha3.ext e0).ext e) hx hla hri.toOk h1 hL;rw[C3] at this;exact (A4 _ AZ3 O this).oa,trivial⟩ ?_
 intro w5 e5 y2 _ y4 _ y5 _ y6 _ y7 h7;refine .storeA (E:=eQ) A3 O O ((k4.ext e0).ext e5) O O h7 hS4 λw6 k6 u6 h6=>.an O O (.ret ?_);exact .plain [_,_] results76 ⟨⟨_,rfl,H5 (E:=eQ) A3 O O k6 h6⟩,rfl,trivial⟩ ⟨u6.below ((x3.trans e0).trans e5) hw4,_,_,rfl,hout h6,rfl⟩
def Z0 (k:Int):Nat->Rat:=λi=>if (i:Int)=k then 1 else 0
theorem Y5:Ent prog 124:=en func124
theorem AS2{S:Nat->Prop}{n:Nat}{k:Int}(up:Up S w)(hn:n<=65536):CR prog 124 #[iW (n:Nat),iW k] w (λv W=>B4 eQ 39 w.heap.size S W v (tab n (Z0 k))):=by
 refine enter func124 O ntmps124 O ?_;refine .sr (.an O O (.sr (.an O O (.seq (.sr (.an O O ?_))))));generalize hf:(λi=>qc (Z0 k i))=f;refine .block (.loop (α:=Nat×Value) (λx=>[(0,iW (n:Nat)),(1,iW k),(5,x.2),(6,iW (x.1:Nat))]) (λx W=>Below w.heap.size w W/\x.1<=n/\B4 eQ 39 w.heap.size S W x.2 ((List.range x.1).map f)) (λx=>n-x.1) (0,.slice none 0 0) ?_ ?_ ?_)
 ·exact lkA rfl
 ·exact⟨Below.refl _ _,aC _,B4.nil⟩
 rintro⟨i,u⟩ W ⟨hB,hi,ho⟩;replace hB:Below w.heap.size w W:=hB;replace hi:i<=n:=hi;replace ho:B4 eQ 39 w.heap.size S W u ((List.range i).map f):=ho;have hsz:=hB.size;refine .seq (.sr (.mv O O (.mv O O ?_)));by_cases hlt:i<n;rotate_left
 ·refine .lssF O O O (by omega) (.mv O O (.gs O O O O O (.gs O O O O O (.pick O O O (.nil (.condF O (.exit (.sr (.mv O O (.an O O (.ret ?_)))))))))));have:i=n:=by omega
  subst this;refine .plain [_] results124 ⟨rfl,trivial⟩ ⟨hB,?_⟩;unfold tab;rw[hf];exact ho
 obtain⟨es,ho1,ho2⟩:=id ho;refine .lssT O O O (by omega) (.mv O O (.gr O O O O (.mv O O (.gr O O O O (.lssT O O O (by omega) (.pick O O O (.nil (.condT O (.skip (.seq (.block (.sr (.bld [] O O AC4 (.alloc O E8 λW1 b7 n1=>?_))))))))))))));obtain⟨e1,k7,hb7,hs1⟩:=n1;have hub:u.ownBlock≠some b7:=λh=>by have:=(ho1.lt b7 h).2;omega
 refine .storeA (E:=eQ) (S:=λk'=>(S k'/\u.ownBlock≠some k')/\k'≠b7) (z:=q0) A3 O O k7 O O ⟨_,_,rfl,RL.nil,RL.nil⟩ (λh=>h.2 O) λW2 k7 u2 h7=>.nil ?_;have x2:Ext W W2:=u2.below e1 (by omega);have hs2:=u2.size;refine .mid (α:=Value) (λ_=>[(0,iW (n:Nat)),(1,iW k),(5,u),(6,iW (i:Nat)),(7,pW b7)]) (λv W3=>Ext W W3/\Blk W3 b7 39 v.cells/\eQ.R (λk'=>(S k'/\u.ownBlock≠some k')/\k'≠b7) W3 v (f i)) ?_ ?_
 ·refine .sr (.mv O O (.mv O O ?_));by_cases hk:(i:Int)=k
  ·refine .eqlT O O O hk (.nil (.condT O (.region ?_)));refine .call _ O AA0 O (Z7 (S:=λk'=>(S k'/\u.ownBlock≠some k')/\k'≠b7) (λk' hk'=>⟨⟨up k' (by omega),λh=>by have:=(ho1.lt k' h).2;omega⟩,by omega⟩) (by decide) (by decide)) λv3 W3 e3 h3=>?_;refine .storeA (E:=eQ) A3 O O (k7.ext e3) O O h3 (λh=>h.2 O) λW4 k7 u4 h4=>.nil ?_;refine⟨rfl,v3,lkA rfl,u4.below (x2.trans e3) (by omega),k7,?_⟩;rw[<-hf];show eQ.R _ _ _ (qc (Z0 k i));unfold Z0;rw[if_pos hk];exact h4
  ·refine .eqlF O O O hk (.nil (.condF O (.skip (⟨rfl,_,lkA rfl,x2,k7,?_⟩))));rw[<-hf];show eQ.R _ _ _ (qc (Z0 k i));unfold Z0;rw[if_neg hk,Q7];exact h7
 rintro v W3 ⟨x3,k7,h7⟩;have hv:=G8 O h7;have hr':=h7;refine .region (.mv O O (.ldA A3 O O k7 (eQ.csz h7) ?_));rw[<-hv];obtain⟨s,t,rfl,_,_⟩:=hr';refine .bsl _ O O AD7 λW4 b4 n4=>?_;obtain⟨e4,k4,hb4,hs4⟩:=n4;have e14:=x3.trans e4;have hB4:Below w.heap.size w W4:=hB.trans (e14.mono hsz);refine .gv O O (L5 (E:=eQ) (base:=w.heap.size) (n:=f i) (by decide) C9 J4 O O O (ho.ext e14) k4 (eQ.mono (λk' _ h=>h.1) (h7.ext e4)) (by simp;omega) (by decide) hB4.size) ?_;rintro v5 W5 ⟨ho5,hg5⟩;refine .an O O (.region (.mv O O (.add O O O (.an O O ?_))));rw[wI (by omega)];refine⟨rfl,(i+1,v5),lkA rfl,⟨(ho.ext e14).below hg5 hB4 hB4.size,hlt,?_⟩,by show n-(i+1)<n-i;omega⟩;show B4 eQ 39 w.heap.size S W5 v5 ((List.range (i+1)).map f);rw[aP,aM];exact ho5
theorem Bf6:Ent prog 247:=en func247
theorem Bc1{S:Nat->Prop}{a b:QV}(up:Up S w)(ha:eQ.R S w va a)(hb:eQ.R S w vb b)(hla:qok L a)(hlb:qok L b)(h1:1<=L)(hL:L<=400000000)(h0:E3 b≠0) :
  CR prog 247 #[va,vb] w (eQ.at S (qc (E3 a*(E3 b)⁻¹))):=by
 have hva:=G8 O ha;have hvb:=G8 O hb;refine enter func247 O ntmps247 O (.sr (.box O O λw1 b2 n1=>.box O O λw2 b3 n2=>.alloc O E8 λw3 b4 n3=>.nil ?_));obtain⟨e1,k2,hb2,hs1⟩:=n1;obtain⟨e2,k3,hb3,hs2⟩:=n2;obtain⟨e3,k4,hb4,hs3⟩:=n3;have x3:=(e1.trans e2).trans e3;have k2:=(k2.ext e2).ext e3;have k3:=k3.ext e3;have up3:Up (λk=>S k/\k≠b4) w3:=λk hk=>⟨up k (by have:=x3.size;omega),by omega⟩;have ha3:eQ.R (λk=>S k/\k≠b4) w3 va a:=eQ.mono (λk _ h=>⟨h.1,by have:=h.2;omega⟩) ((ER.lt eQ ha).ext x3);have hb3':eQ.R (λk=>S k/\k≠b4) w3 vb b:=eQ.mono (λk _ h=>⟨h.1,by have:=h.2;omega⟩) ((ER.lt eQ hb).ext x3);refine .sr (.ldA A3 O O k2 (eQ.csz ha) (.ldA A3 O O k3 (eQ.csz hb) ?_));rw[<-hva,<-hvb];refine .call _ O AZ4 O (AW7 up3 ha3 hb3' hla hlb h1 hL h0) λv4 w4 e4 h4=>?_;obtain⟨vq,ve,rfl,hq,rfl⟩:=h4;refine .mv O O (.ext O O O (.ext O O O (.alloc O E8 λw5 b5 n5=>?_)));obtain⟨e5,k5,hb5,hs5⟩:=n5;refine .storeA (E:=eQ) A3 O O k5 O O (S:=λk=>(S k/\k≠b4)/\k<w4.heap.size) ((ER.lt eQ hq).ext e5) (λh=>by have:=h.2;omega) λw6 k5 u6 hq=>.an O O ?_;have x6:Ext w4 w6:=u6.below e5 (by omega);have hvq:=G8 O hq;refine .sr (.ldA A3 O O k5 (eQ.csz hq) ?_);rw[<-hvq];refine .storeA (E:=eQ) A3 O O ((k4.ext e4).ext x6) O O hq (λh=>h.1.2 O) λw7 k7 u7 h7=>.nil (.ret ?_);exact .cell results247 O A3 O O k7 h7 ⟨u7.below ((x3.trans e4).trans x6) (by omega),eQ.mono (λk _ h=>h.1.1) h7⟩
theorem Ah6:Ent prog 180:=en func180
theorem Af7{S:Nat->Prop}{k:Int}(ho:eI.R S w vo o):CR prog 180 #[vo,iW k] w (Is (.bool (!decide (k∈o)))):=by
 refine enter func180 O ntmps180 O (.beg (.go O (.call _ O AG6 O (AF6 ho) λv w1 e1 h1=>?_)));subst h1
 cases decide (k∈o)<;>exact .goE rfl (.p1 _ results180 rfl ⟨e1,rfl⟩)
theorem BD9:Ent prog 120:=en func120
theorem Ay9{S:Nat->Prop}{a:List QV}(up:Up S w)(hn:eN.R S w vn n)(ho:eI.R S w vo o)(ha:eV.R S w va a)(hka:vk L a)(hL1:1<=L)(hL:L<=100000000) :
  CR prog 120 #[vn,vo,va] w (Two (eV.at S (if sfE n o a.length=0 then tab n.ls.length ((A0 n o).fl (rv a)) else [])) (Is (iW (sfE n o a.length)))):=by
 obtain⟨s,rfl,hs,hb⟩:=hn;have hn:eN.R S w (.agg #[iW n.b,s]) n:=⟨s,rfl,hs,hb⟩;refine enter func120 O ntmps120 O (.beg (.go O (.box O O λw1 b3 n1=>.go O ?_)));obtain⟨e1,k3,hb3,hs1⟩:=n1;replace k3:Blk w1 b3 24 #[iW n.b,s]:=k3;refine .ldA G2 O O k3 O (.go O ?_);refine .call _ O Y4 O (V6 (hn.ext e1) (ho.ext e1)) λv3 w3 e3 h3=>?_;subst h3;have x3:=e1.trans e3;have k3:=k3.ext e3;refine .go O ?_;by_cases hO:C8 n o=0;rotate_left
 ·have hsf:sfE n o a.length=C8 n o:=by unfold sfE;rw[if_pos hO]
  refine .neqT O O O hO (.goE O (.plain [_,_] results120 ⟨rfl,rfl,trivial⟩ ⟨x3,_,_,rfl,?_,by rw[hsf]⟩));rw[if_neg (by rw[hsf];exact hO)];exact RL.nil
 have ok:=K6 hO;have hnb:=ok.b;have hM10:n.ls.length<=10:=ok.m;refine .neqF O O O hO (.go O (.lenR C9 O O (ER.ext eV ha x3) (.go O (.fa F9 O O (.go O (.ld A5 O O k3 O (.go O ?_)))))));by_cases hle:(a.length:Int)<=n.b;rotate_left
 ·have hsf:sfE n o a.length=5:=by unfold sfE;rw[if_neg (by simpa using hO),if_neg hle]
  refine .gtrT O O O (by omega) (.goE O (.plain [_,_] results120 ⟨rfl,rfl,trivial⟩ ⟨x3,_,_,rfl,?_,by rw[hsf]⟩));rw[if_neg (by rw[hsf];decide)];exact RL.nil
 have hsf:sfE n o a.length=0:=by unfold sfE;rw[if_neg (by simpa using hO),if_pos hle]
 rw[if_pos hsf,hsf];have z3:=x3.size;generalize hG:(λk=>qc ((A0 n o).fl (rv a) k))=G;have htab:tab n.ls.length ((A0 n o).fl (rv a))=(List.range n.ls.length).map G:=by rw[<-hG];rfl
 rw[htab];refine .gtrF O O O (by omega) (.goC O ?_);refine .lp (α:=Nat×Value) [1,2,3] O (λy=>[(9,y.2),(10,iW (y.1:Nat))]) (λy W=>Ext w3 W/\y.1<=n.ls.length/\B4 eQ 39 w3.heap.size S W y.2 ((List.range y.1).map G)) (λy=>n.ls.length-y.1) (0,.slice none 0 0) (lc2 O O) ⟨Ext.refl _,aC _,B4.nil⟩ ?_;rintro⟨i,u⟩ W ⟨hW,hi,hU⟩;replace hW:Ext w3 W:=hW;replace hi:i<=n.ls.length:=hi;replace hU:B4 eQ 39 w3.heap.size S W u ((List.range i).map G):=hU;have k3:=k3.ext hW;have zW:=hW.size;have hsW:∀ {W':World},Ext W W'->eLs.R S W' s n.ls:=λe=>ER.ext eLs hs (x3.trans (hW.trans e));refine .go O (.fa G5 O O (.go O (.ld J0 O O k3 O (.go O (.lenR I6 O O (hsW (Ext.refl _)) ?_)))));rcases aB i n.ls.length with hlt | hge;rotate_left
 ·have:i=n.ls.length:=by omega
  subst this;exact .lssF O O O (by omega) (.goE O (.p2 results120 O O ⟨x3.trans hW,_,_,rfl,hU.toR (λk hk=>up k (by omega)) (λ_ h=>h),rfl⟩))
 have hgl:n.ls[i]?=some (n.ls.getD i ln0):=B0 hlt;have hFI:=ok.fI i hlt;have hTI:=ok.tI i hlt;have hxx:=ok.x i hlt;have hGi:G i=qc ((A0 n o).fl (rv a) i):=by rw[<-hG]
 have hgi:(A0 n o).g i=if i∈oN o then 0 else ((n.ls.getD i ln0).x:Rat)⁻¹:=rfl;generalize n.ls.getD i ln0=ln at hgl hFI hTI hxx hgi;obtain⟨es,ho1,ho2⟩:=id hU;have hub:∀ k,u.ownBlock=some k->w3.heap.size<=k/\k<W.heap.size:=λk h=>ho1.lt k h;refine .lssT O O O (by omega) (.go O (.fa G5 O O (.go O (.ld J0 O O k3 O (.go O (.ixN (i:=i) I6 L8 O O (hsW (Ext.refl _)) O hgl λp hp=>.ldE (E:=eL) L8 O O hp λvl hvl=>.alloc O Aa0 λW1 c n1'=>?_))))));obtain⟨d1,kc,hc,zs1⟩:=n1';refine .storeA (E:=eL) (S:=λk=>k≠c) (z:=ln) L8 O O kc O O hvl (λh=>h O) λW2 kc u2 hl2=>?_;obtain⟨rfl,_⟩:=hl2;replace kc:Blk W2 c 53 #[iW ln.f,iW ln.t,iW ln.x,iW ln.c]:=kc;have D2:Ext W W2:=u2.below d1 (by omega);have z2:=D2.size;have z12:=u2.size;refine .go O (.bld _ O O AC4 (.alloc O E8 λW3 b n3=>?_));obtain⟨d3,kb,hb',zs3⟩:=n3;generalize hT:(λk=>(S k/\u.ownBlock≠some k)/\k≠b)=T;have hTb:¬ T b:=by rw[<-hT];exact λh=>h.2 rfl
 have hTS:∀ k,T k->S k/\u.ownBlock≠some k:=λk h=>by rw[<-hT] at h;exact h.1
 have zW3:W3.heap.size=b+1:=by omega
 have upT':∀ {W':World},W3.heap.size<=W'.heap.size->Up T W':=λh k hk=>by rw[<-hT];exact⟨⟨up k (by omega),λe=>by have:=(hub k e).2;omega⟩,by omega⟩
 have haT:∀ {W':World},Ext W W'->eV.R T W' va a:=λe=>ER.ext eV (eV.mono (S':=T) (λk _ h=>by rw[<-hT];exact⟨⟨h.1,λe=>by have:=(hub k e).1;have:=h.2;omega⟩,by have:=h.2;omega⟩) (ER.lt eV ha)) (x3.trans (hW.trans e));refine .storeA (E:=eQ) (S:=T) A3 O O kb O O AF1 hTb λW4 kb u4 hq4=>?_;have D4:Ext W W4:=u4.below (D2.trans d3) (by omega);have kc:=(kc.ext d3).upd u4 (by omega);have z4:W4.heap.size=W3.heap.size:=u4.size;refine .go O ?_;refine .call _ O Ah6 O (Af7 (ER.ext eI ho (x3.trans (hW.trans D4)))) λv5 W5 d5 h5=>?_;subst h5;have D5:=D4.trans d5;have kb:=kb.ext d5;have kc:=kc.ext d5;have hq5:=ER.ext eQ hq4 d5;have z5:=d5.size;by_cases hm:i∈oN o
 ·rw[decide_eq_true ((AE5 ok.outs i).2 hm)];rw[if_pos hm] at hgi;have hG0:G i=q0:=by rw[hGi];unfold Nw.fl;rw[hgi,bL,Q7]
  rw[<-hG0] at hq5;have hqv:=G8 (E:=eQ) O hq5;refine .go O (.ldA A3 O O kb (eQ.csz hq5) ?_);rw[<-hqv];refine .bsl _ O O AD7 λW8 b8 n8=>?_;obtain⟨d8,k8,hb8,hs8⟩:=n8;have D8:=D5.trans d8;have hW8:=hW.trans D8;refine .gv O O (L5 (E:=eQ) (base:=w3.heap.size) (n:=G i) (by decide) C9 J4 O O O (hU.ext D8) k8 (eQ.mono (λk _ h=>hTS k h) (ER.ext eQ hq5 d8)) (by simp;omega) (by decide) hW8.size) ?_;rintro v9 W9 ⟨hO9,g9⟩;have hW9:Ext w3 W9:=B4.below (hU.ext D8) g9 hW8 hW8.size;exact .go O (.inc O O O (by omega) (.goN O (.mk (i+1,v9) O (lc2 O O) ⟨⟨hW9,hlt,by show B4 _ _ _ _ W9 v9 ((List.range (i+1)).map G);rw[aP,aM];exact hO9⟩,by show n.ls.length-(i+1)<n.ls.length-i;omega⟩)))
 ·rw[decide_eq_false λh=>hm ((AE5 ok.outs i).1 h)];rw[if_neg hm] at hgi;rw[hFI,hTI] at kc;generalize hF:(A0 n o).F i=f at kc;generalize hTt:(A0 n o).T i=t at kc;have hx0:(((ln.x:Int):Rat))≠0:=by intro h;have:=Rat.intCast_inj.1 (h.trans Rat.intCast_zero.symm);omega
  have hGv:G i=qc ((rv a f-rv a t)*((ln.x:Int):Rat)⁻¹):=by rw[hGi];unfold Nw.fl;rw[hgi,hF,hTt,fG]
  have hsz:Rsz (rv a f-rv a t) (L+L+1):=by rw[cW];exact (hka.rsz hL1 f).add (Rsz.neg (hka.rsz hL1 t))
  have hxz:Rsz ((ln.x:Int):Rat) (L+L+1):=(rsz_z (by omega)).mono (by omega);refine .goC O ?_;refine .parL follows 16 [15] [.inl _,.inl _,.inl (iW (f:Nat)),.inr (eQ.at T (a.getD f q0)),.inl _,.inl _,.inl (iW (t:Nat)),.inr (eQ.at T (a.getD t q0)),.inr (eQ.at T (qc (rv a f-rv a t))),.inl _,.inl (iW ln.x),.inr (eQ.at T (qc ((ln.x:Int):Rat))),.inr (Two (eQ.at T (G i)) (Is (iW 0))),.inr (Two (eQ.at T (G i)) (Is (iW 0))),.inr (eQ.at T (G i)),.inl (iW 0)] [[],[],[(42,1)],[(41,0),(43,2)],[],[],[(46,5)],[(45,4),(47,6)],[(44,3),(48,7)],[],[(50,9)],[(51,10)],[(49,8),(52,11)],[(53,12)],[(40,13)],[(40,13)]] (by kernel_rfl) ⟨mvo O,fao I5 O,λw e=>(E2 A5 O (kc.ext e) O).ob,λw e=>(by have:=O6 (i:=((f:Nat):Int)) (haT (D5.trans e));rw[X9] at this;exact (A4 _ P2 O this).oa),mvo O,fao I4 O,λw e=>(E2 A5 O (kc.ext e) O).ob,λw e=>(by have:=O6 (i:=((t:Nat):Int)) (haT (D5.trans e));rw[X9] at this;exact (A4 _ P2 O this).oa),λw e x3 hx3 x7 hx7=>(by have:=AW4 (L:=L) (upT' (by have:=e.size;omega)) hx3 hx7 (hka.get hL1 f).1 (hka.get hL1 t) hL1 (by omega);exact (A4 _ AZ1 O this).oa),fao AI2 O,λw e=>(E2 Z4 O (kc.ext e) O).ob,λw e=>(A4 _ AA0 O (Z7 (upT' (by have:=e.size;omega)) (by omega) (by omega))).oa,λw e x8 hx8 x11 hx11=>(by have:=AW7 (L:=L+L+1) (upT' (by have:=e.size;omega)) hx8 hx11 hsz.toOk hxz.toOk (by omega) (by omega) (by rw[C3];exact hx0);rw[C3,C3,<-hGv] at this;exact (A4 _ AZ4 O this).ob (L3 (G7 _ _ _) (S9 _))),λw e x12 hx12=>K5 (v_mv O) hx12 (L3 (G7 _ _ _) (S9 _)),λw e x13 hx13=>by
   obtain⟨p1,q1,rfl,hp1,hq1⟩:=hx13;exact K5 (AA1 O O) hp1 (G7 _ _ _),λw e x13 hx13=>by
   obtain⟨p1,q1,rfl,hp1,hq1⟩:=hx13;exact ((AA1 O O).eq hq1).ob,trivial⟩ ?_
  intro W6 d6 y3 hy3 y7 hy7 y8 hy8 y11 hy11 y12 hy12 y13 hy13 y14 hy14;refine .storeA (E:=eQ) A3 O O (kb.ext d6) O (eQ.csz hq5) hy14 hTb λW7 kb u7 hq5=>?_;have D5:Ext W W7:=u7.below (D5.trans d6) (by omega);have hqv:=G8 (E:=eQ) O hq5;have z5:=D5.size;refine .go O (.ldA A3 O O kb (eQ.csz hq5) ?_);rw[<-hqv];have hq':=hq5;obtain⟨s1,t1,rfl,_,_⟩:=hq';refine .bsl _ O O AD7 λW8 b8 n8=>?_;obtain⟨d8,k8,hb8,hs8⟩:=n8;have D8:=D5.trans d8;have hW8:=hW.trans D8;refine .gv O O (L5 (E:=eQ) (base:=w3.heap.size) (n:=G i) (by decide) C9 J4 O O O (hU.ext D8) k8 (eQ.mono (λk _ h=>hTS k h) (ER.ext eQ hq5 d8)) (by simp;omega) (by decide) hW8.size) ?_;rintro v9 W9 ⟨hO9,g9⟩;have hW9:Ext w3 W9:=B4.below (hU.ext D8) g9 hW8 hW8.size;exact .go O (.inc O O O (by omega) (.goN O (.mk (i+1,v9) O (lc2 O O) ⟨⟨hW9,hlt,by show B4 _ _ _ _ W9 v9 ((List.range (i+1)).map G);rw[aP,aM];exact hO9⟩,by show n.ls.length-(i+1)<n.ls.length-i;omega⟩)))
def Nw.trm (n:Nw) (f:Nat->Rat) (b k:Nat):Rat:=n.inc k b*(if n.g k=0 then 0 else f k)
theorem Nw.trm_out{n:Nw}{b:Nat}(h:n.g k=0):n.trm f b k=0:=by unfold Nw.trm;rw[if_pos h,aW]
theorem Nw.trm_F{n:Nw}{b:Nat}(h:n.g k≠0)(hF:n.F k=b)(hT:n.T k≠b):n.trm f b k=f k:=by unfold Nw.trm Nw.inc dl;rw[if_neg h,if_pos hF,if_neg hT];grind
theorem Nw.trm_T{n:Nw}{b:Nat}(h:n.g k≠0)(hF:n.F k≠b)(hT:n.T k=b):n.trm f b k = - f k:=by unfold Nw.trm Nw.inc dl;rw[if_neg h,if_neg hF,if_pos hT];grind
theorem Nw.trm_no{n:Nw}{b:Nat}(hF:n.F k≠b)(hT:n.T k≠b):n.trm f b k=0:=by unfold Nw.trm Nw.inc dl;rw[if_neg hF,if_neg hT];grind
theorem g_out(h:k∈oN o):(A0 n o).g k=0:=show (if k∈oN o then (0:Rat) else ((n.ls.getD k ln0).x:Rat)⁻¹)=0 by rw[if_pos h]
theorem g_in(ok:nwOk n o)(hk:k<n.ls.length)(h:k∉oN o):(A0 n o).g k≠0:=by
 have hx:=ok.x k hk;show (if k∈oN o then (0:Rat) else ((n.ls.getD k ln0).x:Rat)⁻¹)≠0;rw[if_neg h];intro h;have h3:(((n.ls.getD k ln0).x:Int):Rat)≠0:=by intro h;have:=Rat.intCast_inj.1 (h.trans Rat.intCast_zero.symm);omega
 have:=fD _ h3;rw[h,aW] at this;exact absurd this (by decide)
theorem trm_rsz(ok:nwOk n o)(hL:1<=L)(hf:∀ k,Rsz (f k) L)(b:Nat)(hk:k<n.ls.length):Rsz ((A0 n o).trm f b k) L:=by
 by_cases hg:(A0 n o).g k=0
 ·rw[Nw.trm_out hg];exact Rsz.zero hL
 by_cases hF:(A0 n o).F k=b
 ·rw[Nw.trm_F hg hF (by have:=ok.ne k hk;omega)];exact hf k
 by_cases hT:(A0 n o).T k=b
 ·rw[Nw.trm_T hg hF hT];exact Rsz.neg (hf k)
 ·rw[Nw.trm_no hF hT];exact Rsz.zero hL
theorem BZ2:Ent prog 220:=en func220
theorem BU7{S:Nat->Prop}{vf:Value}{f:List QV}(up:Up S w)(hn:eN.R S w vn n)(ho:eI.R S w vo o)(hf:eV.R S w vf f)(hkf:vk L f)(hL1:1<=L)(hL:L<=10000000) :
  CR prog 220 #[vn,vo,vf] w (Two (eV.at S (if noE n o f.length=0 then tab (A0 n o).B ((A0 n o).offM (rv f)) else [])) (Is (iW (noE n o f.length)))):=by
 obtain⟨s,rfl,hs,hb⟩:=hn;have hn:eN.R S w (.agg #[iW n.b,s]) n:=⟨s,rfl,hs,hb⟩;obtain⟨_,_,_,_,hfl⟩:=RL.len hf;refine enter func220 O ntmps220 O (.beg (.go O (.box O O λw1 b3 n1=>.go O ?_)));obtain⟨e1,k3,hb3,hs1⟩:=n1;replace k3:Blk w1 b3 24 #[iW n.b,s]:=k3;refine .ldA G2 O O k3 O (.go O ?_);refine .call _ O Y4 O (V6 (hn.ext e1) (ho.ext e1)) λv3 w3 e3 h3=>?_;subst h3;have x3:=e1.trans e3;have k3:=k3.ext e3;refine .go O ?_;by_cases hO:C8 n o=0;rotate_left
 ·have hno:noE n o f.length=C8 n o:=by unfold noE;rw[if_pos hO]
  refine .neqT O O O hO (.goE O (.plain [_,_] results220 ⟨rfl,rfl,trivial⟩ ⟨x3,_,_,rfl,?_,by rw[hno]⟩));rw[if_neg (by rw[hno];exact hO)];exact RL.nil
 have ok:=K6 hO;have hnb:=ok.b;have hB6:=ok.b6;have hM10:n.ls.length<=10:=ok.m;have hs3:eLs.R S w3 s n.ls:=ER.ext eLs hs x3;refine .neqF O O O hO (.go O (.lenR C9 O O (ER.ext eV hf x3) (.go O (.fa G5 O O (.go O (.ld J0 O O k3 O (.go O (.lenR I6 O O hs3 ?_))))))));by_cases hle:f.length<=n.ls.length;rotate_left
 ·have hno:noE n o f.length=5:=by unfold noE;rw[if_neg (by simpa using hO),if_neg hle]
  refine .gtrT O O O (by omega) (.goE O (.plain [_,_] results220 ⟨rfl,rfl,trivial⟩ ⟨x3,_,_,rfl,?_,by rw[hno]⟩));rw[if_neg (by rw[hno];decide)];exact RL.nil
 have hno:noE n o f.length=0:=by unfold noE;rw[if_neg (by simpa using hO),if_pos hle]
 rw[if_pos hno,hno];rw[hnb] at k3;have z3:=x3.size;generalize hG:(λb=>qc ((A0 n o).offM (rv f) b))=G;have htab:tab (A0 n o).B ((A0 n o).offM (rv f))=(List.range (A0 n o).B).map G:=by rw[<-hG];rfl
 rw[htab];have hsum:∀ b i,i<=n.ls.length->Rsz (B9 i ((A0 n o).trm (rv f) b)) (1+10*(L+1)):=λb i hi=>(Aj0 λk hk=>trm_rsz ok hL1 (λk=>hkf.rsz hL1 k) b (by omega)).mono (by have:=bO (L+1) (aG hi hM10);omega)
 refine .gtrF O O O (by omega) (.goC O ?_);refine .lp (α:=Nat×Value) [1,2,3] O (λy=>[(9,y.2),(10,iW (y.1:Nat))]) (λy W=>Ext w3 W/\y.1<=(A0 n o).B/\B4 eQ 39 w3.heap.size S W y.2 ((List.range y.1).map G)) (λy=>(A0 n o).B-y.1) (0,.slice none 0 0) (lc2 O O) ⟨Ext.refl _,aC _,B4.nil⟩ ?_;rintro⟨b,u⟩ W ⟨hW,hi,hU⟩;replace hW:Ext w3 W:=hW;replace hi:b<=(A0 n o).B:=hi;replace hU:B4 eQ 39 w3.heap.size S W u ((List.range b).map G):=hU;have k3:=k3.ext hW;have zW:=hW.size;refine .go O (.fa F9 O O (.go O (.ld A5 O O k3 O (.go O ?_))));rcases aB b (A0 n o).B with hlt | hge;rotate_left
 ·have:b=(A0 n o).B:=by omega
  subst this;exact .lssF O O O (by omega) (.goE O (.p2 results220 O O ⟨x3.trans hW,_,_,rfl,hU.toR (λk hk=>up k (by omega)) (λ_ h=>h),rfl⟩))
 obtain⟨es,ho1,ho2⟩:=id hU;have hub:∀ k,u.ownBlock=some k->w3.heap.size<=k/\k<W.heap.size:=λk h=>ho1.lt k h;refine .lssT O O O (by omega) (.go O (.bld _ O O AC4 (.alloc O E8 λW3 c n3=>?_)));obtain⟨d3,kc,hc,zs3⟩:=n3;generalize hT:(λk=>(S k/\u.ownBlock≠some k)/\k≠c)=T;have hTc:¬ T c:=by rw[<-hT];exact λh=>h.2 rfl
 have hTS:∀ k,T k->S k/\u.ownBlock≠some k:=λk h=>by rw[<-hT] at h;exact h.1
 have upT':∀ {W':World},W3.heap.size<=W'.heap.size->Up T W':=λh k hk=>by rw[<-hT];exact⟨⟨up k (by omega),λe=>by have:=(hub k e).2;omega⟩,by omega⟩
 have hfT:∀ {W':World},Ext W W'->eV.R T W' vf f:=λe=>ER.ext eV (eV.mono (S':=T) (λk _ h=>by rw[<-hT];exact⟨⟨h.1,λe=>by have:=(hub k e).1;have:=h.2;omega⟩,by have:=h.2;omega⟩) (ER.lt eV hf)) (x3.trans (hW.trans e));have hsW:∀ {W':World},Ext W W'->eLs.R S W' s n.ls:=λe=>ER.ext eLs hs (x3.trans (hW.trans e));have hoW:∀ {W':World},Ext W W'->eI.R S W' vo o:=λe=>ER.ext eI ho (x3.trans (hW.trans e));have k3W:∀ {W':World},Ext W W'->Blk W' b3 24 #[iW ((A0 n o).B:Nat),s]:=λe=>k3.ext e;refine .storeA (E:=eQ) (S:=T) A3 O O kc O O AF1 hTc λW4 kc u4 hq4=>.goC O ?_;have D4:Ext W W4:=u4.below d3 (by omega);have z4:W4.heap.size=W3.heap.size:=u4.size;generalize hv:(λi=>B9 i ((A0 n o).trm (rv f) b))=v;have hv0:v 0=0:=by rw[<-hv];rfl
 have hvs:∀ i,v (i+1)=v i+(A0 n o).trm (rv f) b i:=λi=>by rw[<-hv];rfl
 have hvz:∀ i,i<=n.ls.length->Rsz (v i) (1+10*(L+1)):=λi hi=>by rw[<-hv];exact hsum b i hi
 have hGb:G b=qc (v n.ls.length):=by rw[<-hG,<-hv];rfl
 rw[<-Q7,<-hv0] at hq4;refine .lp (α:=Nat×Value) [1,2,3,9,10,11] O (λy=>[(12,iW (y.1:Nat))]) (λy W'=>Ext W W'/\W3.heap.size<=W'.heap.size/\y.1<=n.ls.length/\Blk W' c 39 y.2.cells/\eQ.R T W' y.2 (qc (v y.1))) (λy=>n.ls.length-y.1) (0,zq) (lc1 O) ⟨D4,by omega,aC _,kc,hq4⟩ ?_;clear kc hq4;rintro⟨i,y⟩ W5 ⟨hW5,zW5,hi,kc,hq⟩;replace hW5:Ext W W5:=hW5;replace zW5:W3.heap.size<=W5.heap.size:=zW5;replace hi:i<=n.ls.length:=hi;replace kc:Blk W5 c 39 y.cells:=kc;replace hq:eQ.R T W5 y (qc (v i)):=hq;refine .go O (.fa G5 O O (.go O (.ld J0 O O (k3W hW5) O (.go O (.lenR I6 O O (hsW hW5) ?_)))));rcases aB i n.ls.length with hil | hge;rotate_left
 ·have:i=n.ls.length:=by omega
  subst this;rw[<-hGb] at hq;have hqv:=G8 (E:=eQ) O hq;refine .lssF O O O (by omega) (.go O (.ldA A3 O O kc (eQ.csz hq) ?_));rw[<-hqv];have hq':=hq;obtain⟨s1,t1,rfl,_,_⟩:=hq';refine .bsl _ O O AD7 λW8 b8 n8=>?_;obtain⟨d8,k8,hb8,hs8⟩:=n8;have D8:=hW5.trans d8;have hW8:=hW.trans D8;refine .gv O O (L5 (E:=eQ) (base:=w3.heap.size) (n:=G b) (by decide) C9 J4 O O O (hU.ext D8) k8 (eQ.mono (λk _ h=>hTS k h) (ER.ext eQ hq d8)) (by simp;omega) (by decide) hW8.size) ?_;rintro v9 W9 ⟨hO9,g9⟩;have hW9:Ext w3 W9:=B4.below (hU.ext D8) g9 hW8 hW8.size;exact .go O (.inc O O O (by omega) (.goN O (.mk (b+1,v9) O (lc2 O O) ⟨⟨hW9,hlt,by show B4 _ _ _ _ W9 v9 ((List.range (b+1)).map G);rw[aP,aM];exact hO9⟩,by show (A0 n o).B-(b+1)<(A0 n o).B-b;omega⟩)))
 have hgl:n.ls[i]?=some (n.ls.getD i ln0):=B0 hil;have hFI:=ok.fI i hil;have hTI:=ok.tI i hil;have hne:=ok.ne i hil;generalize n.ls.getD i ln0=ln at hgl hFI hTI;have hvi:=hvz i hi;have hai:=hkf.get hL1 i;have hmid:Rsz (v i+rv f i) (1+10*(L+1)+L+1):=hvi.add (hkf.rsz hL1 i);generalize hmv:v i+(if i∉oN o/\(A0 n o).F i=b then rv f i else 0)=m;have hmz:Rsz m (1+10*(L+1)+L+1):=by
  rw[<-hmv];split
  ·exact hmid
  ·rw[dP];exact hvi.mono (by omega)
 have hfin:v (i+1)=m-(if i∉oN o/\(A0 n o).T i=b then rv f i else 0):=by
  rw[hvs,<-hmv];by_cases hm:i∈oN o
  ·rw[Nw.trm_out (g_out hm),if_neg (λh=>h.1 hm),if_neg (λh=>h.1 hm)];grind
  have hg:=g_in ok hil hm;by_cases hF:(A0 n o).F i=b
  ·rw[Nw.trm_F hg hF (by omega),if_pos ⟨hm,hF⟩,if_neg (λh=>hne (by omega))];grind
  by_cases hTt:(A0 n o).T i=b
  ·rw[Nw.trm_T hg hF hTt,if_neg (λh=>hF h.2),if_pos ⟨hm,hTt⟩];grind
  ·rw[Nw.trm_no hF hTt,if_neg (λh=>hF h.2),if_neg (λh=>hTt h.2)];grind
 refine .lssT O O O (by omega) (.goZ 14 O (.cut (α:=Value) 1 [1,2,3,9,10,11] O (λ_=>[(12,iW (i:Nat))]) (λy W'=>Ext W W'/\W3.heap.size<=W'.heap.size/\Blk W' c 39 y.cells/\eQ.R T W' y (qc m)) O ?_ ?_));rotate_left
 ·refine .go O ?_;refine .call _ O Ah6 O (Af7 (hoW hW5)) λv6 W6 d6 h6=>?_;subst h6;have hW6:=hW5.trans d6;have z6:=d6.size;have kc:=kc.ext d6;have hq:=ER.ext eQ hq d6;by_cases hm:i∈oN o
  ·rw[decide_eq_true ((AE5 ok.outs i).2 hm)];rw[if_neg (λh=>h.1 hm),dP] at hmv;rw[hmv] at hq;exact .goN O (.mk y O (lc1 O) ⟨hW6,by omega,kc,hq⟩)
  rw[decide_eq_false λh=>hm ((AE5 ok.outs i).1 h)];refine .go O (.fa G5 O O (.go O (.ld J0 O O (k3W hW6) O (.go O (.ixN (i:=i) I6 L8 O O (hsW hW6) O hgl λp hp=>.go O (.faP I5 O O (.go O (.ldE (E:=B8 .i64) A5 O O (hp.ln 0 (by decide)) λe he=>?_))))))));obtain⟨rfl,_⟩:=he;rw[show lnI ln 0=ln.f from rfl,hFI];refine .go O ?_;by_cases hF:(A0 n o).F i=b;rotate_left
  ·rw[if_neg (λh=>hF h.2),dP] at hmv;rw[hmv] at hq;exact .eqlF O O O (by omega) (.goN O (.mk y O (lc1 O) ⟨hW6,by omega,kc,hq⟩))
  rw[if_pos ⟨hm,hF⟩] at hmv;have hqv:=G8 (E:=eQ) O hq;refine .eqlT O O O (by omega) (.goC O ?_);refine .par follows 4 [.inl y,.inl _,.inl _,.inr (eQ.at T (f.getD i q0))] [[],[],[],[(53,1),(54,2)]] (by kernel_rfl) ⟨λw e=>((E1 A3 O (kc.ext e) (eQ.csz hq)).eq hqv.symm).ob,mvo O,mvo O,λw e=>(by have:=O6 (i:=((i:Nat):Int)) (hfT (hW6.trans e));rw[X9] at this;exact (A4 _ P2 O this).oa),trivial⟩ ?_;intro W7 d7 y3 hy3;have hop:=(by have:=AM1 (L:=1+10*(L+1)) (upT' (by have:=d7.size;omega):Up T W7) (ER.ext eQ hq d7) hy3 hvi.toOk (hai.1.mono (by omega)) (by omega) (by omega);rw[C3,show v i+E3 (f.getD i q0)=m from hmv] at this;exact this);refine .call _ O AN2 O hop λy8 W8 d8 hq8=>?_;have d78:=d7.trans d8;have z78:=d78.size;refine .storeA (E:=eQ) A3 O O (kc.ext d78) O (eQ.csz hq) hq8 hTc λW9 k9 u9 hq9=>?_;have z9:=u9.size;have hW9:Ext W W9:=u9.below (hW6.trans d78) (by omega);exact .goN O (.mk y8 O (lc1 O) ⟨hW9,by omega,k9,hq9⟩)
 clear hq kc zW5 hW5;rintro y W5 ⟨hW5,zW5,kc,hq⟩;refine .go O ?_;refine .call _ O Ah6 O (Af7 (hoW hW5)) λv6 W6 d6 h6=>?_;subst h6;have hW6:=hW5.trans d6;have z6:=d6.size;have kc:=kc.ext d6;have hq:=ER.ext eQ hq d6;by_cases hm:i∈oN o
 ·rw[decide_eq_true ((AE5 ok.outs i).2 hm)];rw[if_neg (λh=>h.1 hm),cW,Rat.neg_zero,dP] at hfin;rw[<-hfin] at hq;exact .go O (.inc O O O (by omega) (.goN O (.mk (i+1,y) O (lc1 O) ⟨⟨hW6,by omega,hil,kc,hq⟩,by show n.ls.length-(i+1)<n.ls.length-i;omega⟩)))
 ·rw[decide_eq_false λh=>hm ((AE5 ok.outs i).1 h)];refine .go O (.fa G5 O O (.go O (.ld J0 O O (k3W hW6) O (.go O (.ixN (i:=i) I6 L8 O O (hsW hW6) O hgl λp hp=>.go O (.faP I4 O O (.go O (.ldE (E:=B8 .i64) A5 O O (hp.ln 1 (by decide)) λe he=>?_))))))));obtain⟨rfl,_⟩:=he;rw[show lnI ln 1=ln.t from rfl,hTI];refine .go O ?_;by_cases hTt:(A0 n o).T i=b;rotate_left
  ·rw[if_neg (λh=>hTt h.2),cW,Rat.neg_zero,dP] at hfin;rw[<-hfin] at hq;exact .eqlF O O O (by omega) (.go O (.inc O O O (by omega) (.goN O (.mk (i+1,y) O (lc1 O) ⟨⟨hW6,by omega,hil,kc,hq⟩,by show n.ls.length-(i+1)<n.ls.length-i;omega⟩))))
  rw[if_pos ⟨hm,hTt⟩] at hfin;have hqv:=G8 (E:=eQ) O hq;refine .eqlT O O O (by omega) (.goC O ?_);refine .par follows 4 [.inl y,.inl _,.inl _,.inr (eQ.at T (f.getD i q0))] [[],[],[],[(71,1),(72,2)]] (by kernel_rfl) ⟨λw e=>((E1 A3 O (kc.ext e) (eQ.csz hq)).eq hqv.symm).ob,mvo O,mvo O,λw e=>(by have:=O6 (i:=((i:Nat):Int)) (hfT (hW6.trans e));rw[X9] at this;exact (A4 _ P2 O this).oa),trivial⟩ ?_;intro W7 d7 y3 hy3;have hop:=(by have:=AW4 (L:=1+10*(L+1)+L+1) (upT' (by have:=d7.size;omega):Up T W7) (ER.ext eQ hq d7) hy3 hmz.toOk (qk.mono hai (by omega)) (by omega) (by omega);rw[C3,show m-E3 (f.getD i q0)=v (i+1) from hfin.symm] at this;exact this);refine .call _ O AZ1 O hop λy8 W8 d8 hq8=>?_;have d78:=d7.trans d8;have z78:=d78.size;refine .storeA (E:=eQ) A3 O O (kc.ext d78) O (eQ.csz hq) hq8 hTc λW9 k9 u9 hq9=>?_;have z9:=u9.size;have hW9:Ext W W9:=u9.below (hW6.trans d78) (by omega);exact .go O (.inc O O O (by omega) (.goN O (.mk (i+1,y8) O (lc1 O) ⟨⟨hW9,by omega,hil,k9,hq9⟩,by show n.ls.length-(i+1)<n.ls.length-i;omega⟩)))
theorem Ay5 (n:Nw) (k:Nat) (g:Nat->Rat):∀ b,B9 (n.withTo k b).length (λj=>g ((n.withTo k b).getD j 0))=B9 b λc=>if n.lab c=k then g c else 0
 | 0=>rfl
 | b+1=>by
  have ih:=Ay5 n k g b
  rw[n.withTo_succ k b]
  show _=B9 b (λc=>if n.lab c=k then g c else 0)+if n.lab b=k then g b else 0
  by_cases h:n.lab b=k
  ·rw[if_pos h,if_pos h,aL]
   show B9 (n.withTo k b).length _+_=_
   rw[<-ih]
   congr 1
   ·refine A9 λj hj=>?_
    rw[aF,aF,bQ hj]
   ·show g ((n.withTo k b++[b]).getD (n.withTo k b).length 0)=g b
    rw[aF,bT (aA _),dX];rfl
  ·rw[if_neg h,if_neg h,bB,ih,dP]
theorem Bl6{n:Nw}{b j:Nat}(h:j<(n.withTo k b).length):(n.withTo k b).getD j 0<b:=by
 have hm:(n.withTo k b).getD j 0∈n.withTo k b:=by rw[aF,aE h];exact eD h
 unfold Nw.withTo at hm;exact List.mem_range.1 (List.mem_filter.1 hm).1
theorem BY3{n:Nw}{x:Nat->Rat}:n.bal x<->∀ k,k<(n.refsTo n.B).length->B9 (n.withTo k n.B).length (λj=>x ((n.withTo k n.B).getD j 0))=0:=by
 rw[Nw.bal_lab];constructor
 ·intro h k hk;rw[Ay5 n k x];exact h k (bC hk (n.cnt_le n.B))
 ·intro h j hj;rcases aB j (n.refsTo n.B).length with hlt | hge
  ·rw[<-Ay5 n j x];exact h j hlt
  ·refine H0 λc hc=>?_;rw[if_neg];intro e;have:=(n.refs_lab hc).2;have:n.lab c<(n.refsTo n.B).length:=this;omega
theorem Bm2(hO:C8 n o=0)(hk:k<((A0 n o).refsTo (A0 n o).B).length):(Az7 n o)[k]?=some (A7 ((A0 n o).withTo k (A0 n o).B)):=by unfold Az7 Al0;rw[if_pos hO,aI,bA hk];rfl
theorem Bm1(hO:C8 n o=0):(Az7 n o).length=((A0 n o).refsTo (A0 n o).B).length:=by unfold Az7 Al0;rw[if_pos hO];simp
theorem Bm6{j:Nat}(h:j<l.length):(A7 l)[j]?=some ((l.getD j 0:Nat):Int):=by unfold A7;rw[aI,aE h,aF,aE h];rfl
theorem Aq1:Ent prog 175:=en func175
open Classical in
theorem An9{S:Nat->Prop}{vx:Value}{x:List QV}(up:Up S w)(hn:eN.R S w vn n)(ho:eI.R S w vo o)(hx:eV.R S w vx x)(hkx:vk L x)(hL1:1<=L)(hL:L<=10000000) :
  CR prog 175 #[vn,vo,vx] w (Two (Is (.bool (decide (sfE n o x.length=0/\(A0 n o).bal (rv x))))) (Is (iW (sfE n o x.length)))):=by
 obtain⟨s,rfl,hs,hb⟩:=hn;have hn:eN.R S w (.agg #[iW n.b,s]) n:=⟨s,rfl,hs,hb⟩;refine enter func175 O ntmps175 O (.beg (.go O (.box O O λw1 b3 n1=>.go O ?_)));obtain⟨e1,k3,hb3,hs1⟩:=n1;replace k3:Blk w1 b3 24 #[iW n.b,s]:=k3;refine .ldA G2 O O k3 O (.go O (.call _ O Av4 O (Au2 (up.ext e1.size) (hn.ext e1) (ho.ext e1)) λv3 w3 e3 h3=>?_));obtain⟨vr,ve,rfl,hr,he⟩:=h3;replace he:ve=.int .i64 (C8 n o):=he;subst he;have x3:=e1.trans e3;have k3:=k3.ext e3;refine .go O ?_;by_cases hO:C8 n o=0;rotate_left
 ·have hsf:sfE n o x.length=C8 n o:=by unfold sfE;rw[if_pos hO]
  refine .neqT O O O hO (.goE O (.plain [_,_] results175 ⟨rfl,rfl,trivial⟩ ⟨x3,_,_,rfl,?_,by rw[hsf]⟩));exact congrArg Value.bool (decide_eq_false λh=>hO (hsf▸h.1)).symm
 have ok:=K6 hO;have hnb:=ok.b;have hB6:=ok.b6;refine .neqF O O O hO (.go O (.lenR C9 O O (ER.ext eV hx x3) (.go O (.fa F9 O O (.go O (.ld A5 O O k3 O (.go O ?_)))))));by_cases hle:(x.length:Int)<=n.b;rotate_left
 ·have hsf:sfE n o x.length=5:=by unfold sfE;rw[if_neg (by simpa using hO),if_neg hle]
  refine .gtrT O O O (by omega) (.goE O (.plain [_,_] results175 ⟨rfl,rfl,trivial⟩ ⟨x3,_,_,rfl,?_,by rw[hsf]⟩));exact congrArg Value.bool (decide_eq_false λh=>by rw[hsf] at h;exact absurd h.1 (by decide)).symm
 have hsf:sfE n o x.length=0:=by unfold sfE;rw[if_neg (by simpa using hO),if_pos hle]
 rw[hsf];have z3:=x3.size;have hRl:=Bm1 hO;have hR6:((A0 n o).refsTo (A0 n o).B).length<=6:=aG ((A0 n o).cnt_le _) hB6;refine .gtrF O O O (by omega) (.goC O ?_);refine .lp (α:=Nat) [2,8] O (λk=>[(10,iW (k:Nat))]) (λk W=>Ext w3 W/\k<=((A0 n o).refsTo (A0 n o).B).length/\∀ i,i<k->B9 ((A0 n o).withTo i (A0 n o).B).length (λj=>rv x (((A0 n o).withTo i (A0 n o).B).getD j 0))=0) (λk=>((A0 n o).refsTo (A0 n o).B).length-k) 0 (lc1 O) ⟨Ext.refl _,aC _,λi hi=>absurd hi (bK _)⟩ ?_;rintro k W ⟨hW,hk,hall⟩;have zW:=hW.size;refine .go O (.lenR BM4 O O (ER.ext eII hr hW) ?_);rw[hRl];rcases aB k ((A0 n o).refsTo (A0 n o).B).length with hlt | hge;rotate_left
 ·have:k=((A0 n o).refsTo (A0 n o).B).length:=by omega
  subst this;refine .lssF O O O (by omega) (.goE O (.plain [_,_] results175 ⟨rfl,rfl,trivial⟩ ⟨x3.trans hW,_,_,rfl,?_,rfl⟩));exact congrArg Value.bool (decide_eq_true ⟨rfl,BY3.2 hall⟩).symm
 have hgk:=Bm2 hO hlt;have hpl:(A7 ((A0 n o).withTo k (A0 n o).B)).length=((A0 n o).withTo k (A0 n o).B).length:=by simp[A7]
 have hwl:=(A0 n o).withTo_le k (A0 n o).B;generalize hl:(A0 n o).withTo k (A0 n o).B=l at hgk hpl hwl;refine .lssT O O O (by omega) (.go O (.bld _ O O AC4 (.alloc O E8 λW3 c n3=>?_)));obtain⟨d3,kc,hc,zs3⟩:=n3;generalize hT:(λk=>S k/\k≠c)=T;have hTc:¬ T c:=by rw[<-hT];exact λh=>h.2 rfl
 have hTS:∀ k,T k->S k:=λk h=>by rw[<-hT] at h;exact h.1
 have upT':∀ {W':World},W3.heap.size<=W'.heap.size->Up T W':=λh k hk=>by rw[<-hT];exact⟨up k (by omega),by omega⟩
 have hxT:∀ {W':World},Ext W W'->eV.R T W' vx x:=λe=>ER.ext eV (eV.mono (S':=T) (λk _ h=>by rw[<-hT];exact⟨h.1,by have:=h.2;omega⟩) (ER.lt eV hx)) (x3.trans (hW.trans e));have hrW:∀ {W':World},Ext W W'->eII.R S W' vr (Az7 n o):=λe=>ER.ext eII hr (hW.trans e);refine .storeA (E:=eQ) (S:=T) A3 O O kc O O AF1 hTc λW4 kc u4 hq4=>.goC O ?_;have D4:Ext W W4:=u4.below d3 (by omega);have z4:W4.heap.size=W3.heap.size:=u4.size;generalize hv:(λi=>B9 i λj=>rv x (l.getD j 0))=v;have hv0:v 0=0:=by rw[<-hv];rfl
 have hvs:∀ i,v (i+1)=v i+rv x (l.getD i 0):=λi=>by rw[<-hv];rfl
 have hvz:∀ i,i<=l.length->Rsz (v i) (1+6*(L+1)):=λi hi=>by rw[<-hv];refine (Aj0 λk hk=>hkx.rsz hL1 _).mono ?_;have:=bO (L+1) (show i<=6 by omega);omega
 have hGb:B9 l.length (λj=>rv x (l.getD j 0))=v l.length:=by rw[<-hv]
 rw[<-Q7,<-hv0] at hq4;refine .lp (α:=Nat×Value) [2,8,10,11] O (λy=>[(12,iW (y.1:Nat))]) (λy W'=>Ext W W'/\W3.heap.size<=W'.heap.size/\y.1<=l.length/\Blk W' c 39 y.2.cells/\eQ.R T W' y.2 (qc (v y.1))) (λy=>l.length-y.1) (0,zq) (lc1 O) ⟨D4,by omega,aC _,kc,hq4⟩ ?_;rintro⟨i,y⟩ W5 ⟨hW5,zW5,hi,kc,hq⟩;replace hW5:Ext W W5:=hW5;replace zW5:W3.heap.size<=W5.heap.size:=zW5;replace hi:i<=l.length:=hi;replace kc:Blk W5 c 39 y.cells:=kc;replace hq:eQ.R T W5 y (qc (v i)):=hq;have hqv:=G8 (E:=eQ) O hq;refine .go O (.ixN (i:=k) BM4 AN6 O O (hrW hW5) O hgk λp hp=>.go O (.ldE (E:=eI) AN6 O O hp λe he=>.go O (.lenR C5 O O he ?_)));rw[hpl];rcases aB i l.length with hil | hge;rotate_left
 ·have:i=l.length:=by omega
  subst this;refine .lssF O O O (by omega) (.go O (.ldA A3 O O kc (eQ.csz hq) ?_));rw[<-hqv];refine .call _ O AT8 O (AS3 (upT' (by omega)) hq (hvz _ hi).toOk (by omega)) λv7 W7 d7 h7=>?_;subst h7;have hW7:=hW.trans (hW5.trans d7);refine .go O ?_;rw[pn_qc];by_cases hz:v l.length=0
  ·rw[hz];exact .neqF O O O O (.go O (.inc O O O (by omega) (.goN O (.mk (k+1) O (lc1 O) ⟨⟨hW7,hlt,λi' hi'=>by
    rcases aB i' k with h | h
    ·exact hall i' h
    ·have:i'=k:=by omega
     subst this;rw[hl,hGb,hz]⟩,by show ((A0 n o).refsTo (A0 n o).B).length-(k+1)<((A0 n o).refsTo (A0 n o).B).length-k;omega⟩))))
  ·refine .neqT O O O (λh=>hz (Rat.num_eq_zero.1 (Int.sign_eq_zero_iff_zero.1 h))) (.goE O (.plain [_,_] results175 ⟨rfl,rfl,trivial⟩ ⟨x3.trans hW7,_,_,rfl,?_,rfl⟩));refine congrArg Value.bool (decide_eq_false λh=>hz ?_).symm;have:=BY3.1 h.2 k hlt;rw[hl,hGb] at this;exact this
 have hvi:=hvz i hi;have hgi:=Bm6 hil;have hbl:l.getD i 0<(A0 n o).B:=by rw[<-hl];rw[<-hl] at hil;exact Bl6 hil
 have hvn:=hvs i;generalize l.getD i 0=b at hgi hbl hvn;have hai:=hkx.get hL1 b;refine .lssT O O O (by omega) (.goC O ?_);refine .par follows 10 [.inl y,.inl _,.inl _,.inl _,.inr (Ptr eI S (A7 l)),.inr (eI.at S (A7 l)),.inl _,.inr (Ptr (B8 .i64) S ((b:Nat):Int)),.inl (iW (b:Nat)),.inr (eQ.at T (x.getD b q0))] [[],[],[],[],[(45,2),(46,3)],[(47,4)],[],[(48,5),(49,6)],[(50,7)],[(44,1),(51,8)]] (by kernel_rfl) ⟨λw e=>((E1 A3 O (kc.ext e) (eQ.csz hq)).eq hqv.symm).ob,mvo O,mvo O,mvo O,λw e=>C4 (i:=k) BM4 AN6 O (hrW (hW5.trans e)) O hgk,λw e x4 hx4=>K1 AN6 O hx4,mvo O,λw e x5 hx5=>C4 (i:=i) C5 B5 O hx5 O hgi,λw e x7 hx7=>F7 A5 O hx7,λw e=>(by have:=O6 (i:=((b:Nat):Int)) (hxT (hW5.trans e));rw[X9] at this;exact (A4 _ P2 O this).oa),trivial⟩ ?_;intro W7 d7 y4 hy4 y5 hy5 y7 hy7 y9 hy9;have hop:=AM1 (L:=1+6*(L+1)) (upT' (by have:=d7.size;omega):Up T W7) (ER.ext eQ hq d7) hy9 hvi.toOk (hai.1.mono (by omega)) (by omega) (by omega);rw[C3,show v i+E3 (x.getD b q0)=v (i+1) from hvn.symm] at hop;refine .call _ O AN2 O hop λy8 W8 d8 hq8=>?_;have d78:=d7.trans d8;have z78:=d78.size;refine .storeA (E:=eQ) A3 O O (kc.ext d78) O (eQ.csz hq) hq8 hTc λW9 k9 u9 hq9=>?_;have z9:=u9.size;have hW9:Ext W W9:=u9.below (hW5.trans d78) (by omega);exact .go O (.inc O O O (by omega) (.goN O (.mk (i+1,y8) O (lc1 O) ⟨⟨hW9,by omega,hil,k9,hq9⟩,by show l.length-(i+1)<l.length-i;omega⟩)))
section
variable {S:Nat->Prop} {base g:Nat} {W W':World} {vs:List Value} {ls:List (List QV)}
theorem RwI.low (h:RwI S base g W vs ls) (hg:base<=g) {k:Nat} (hk:k<base) (hS:S k):Ao2 S g vs k:=⟨hS,by omega,λu hu e=>by have:=(h.own_lt hu e).1;omega⟩
theorem RwI.up (h:RwI S base g W vs ls) {V:World} (hw:W.heap.size<=V.heap.size) (hS:Up S V):Up (Ao2 S g vs) V:=λk hk=>⟨hS k hk,by have:=h.out.lt;omega,λu hu e=>by have:=(h.own_lt hu e).2;omega⟩
theorem RwI.keep {α:Type} {E:ER α} {e:Value} {x:α} {W'':World} {i:Nat} {u v':Value} (h:RwI S base g W vs ls) (hi:vs[i]?=some u) (he:E.R (Ao2 S g vs) W e x) (hg:W.grownBy W' u.ownBlock) (hob:v'.ownBlock=u.ownBlock\/v'.ownBlock=some W.heap.size) (hu:Upd W' W'' g):E.R (Ao2 S g (vs.set i v')) W'' e x:=by
 have hum:u∈vs:=List.mem_iff_getElem?.2 ⟨i,hi⟩;have h3:=ER.lt E he;have h4:=E.keep (w':=W') (λk c t f hS hk=>(hg.block k hS.2 (λe'=>hS.1.2.2 u hum e'.symm)).trans hk) h3;have h5:=E.keep (Kp.upd hu (λhS=>hS.1.2.1 O)) h4;refine E.mono (λk _ hS=>⟨hS.1.1,hS.1.2.1,λu2 hu2=>?_⟩) h5;rcases eT hu2 with h6 | h6
 ·exact hS.1.2.2 u2 h6
 ·subst h6;rcases hob with h7 | h7
  ·rw[h7];exact hS.1.2.2 u hum
  ·rw[h7];intro e';cases e';have:=hS.2;omega
end
@[reducible] def OneP (X:Nat->Prop) (q:QV):Value->World->Prop:=λv W=>∃ b e,v=.slice (some ⟨b,0,none⟩) 1 1/\Blk W b 39 e.cells/\eQ.R X W e q
theorem ob_One{X:Nat->Prop}{σ:Env}{d:Option Tmp}{ty:TypeId}{pos:String}{af:Array Edge}{gd:Option (Nat×Bool)}{x:Operand}{u:Value}{q:QV}(hu:eQ.R X w u q)(hx:ev σ x=some u:=by rfl) :
  Gv prog ⟨d,.buildSlice 26 1 #[(0,x)],ty,pos,af,gd⟩ σ w λv' w'=>Ext w w'/\Sp.ok (.inr (OneP X q)) v' w':=by
 have hu':=hu;obtain⟨s1,t1,rfl,_,_⟩:=hu';refine (Ad7 (ps:=[(0,x)]) [(0,.agg #[.bool q.num.neg,s1,.bool q.den.neg,t1])] (by simp[evp,hx]) AD7).mono λv' w' ⟨b2,hv',n2⟩=>⟨n2.1,λw'' e=>⟨b2,.agg #[.bool q.num.neg,s1,.bool q.den.neg,t1],hv',n2.2.1.ext e,ER.ext eQ hu (n2.1.trans e)⟩⟩
def Nw.Lk (n:Nw) (b k:Nat):Rat:=n.offM (rv (tab n.M (n.fl (rv (tab n.B (Z0 (k:Nat))))))) b
theorem rv_uni{b:Nat}:rv (tab B (Z0 (k:Nat))) b=if b<B then (if b=k then 1 else 0) else 0:=by
 rw[L4];unfold Z0;by_cases h:b=k
 ·subst h;simp
 ·have:¬ ((b:Int)=(k:Int)):=by omega
  simp[h,this]
theorem Ay2(B k:Nat):vk 1 (tab B (Z0 (k:Nat))):=T7 λb _=>by
 unfold Z0
 split
 ·exact⟨by decide,by decide⟩
 ·exact Rsz.zero (aA _)
def AV3 {α:Type} (B b:Nat) (f g:Nat->α):List α:=(List.range B).map λj=>if j<b then f j else g j
theorem Bw4(B b:Nat)(f g:Nat->α):(AV3 B b f g).length=B:=by simp[AV3]
theorem Bw5{b:Nat}{f g:Nat->α}(h:b<B):(AV3 B b f g)[b]?=some (g b):=by unfold AV3;rw[aI,bA h,cY,if_neg (dZ b)]
theorem Bw3{b:Nat}{f g:Nat->α}:(AV3 B b f g).set b (f b)=AV3 B (b+1) f g:=by
 refine fT (by simp[AV3]) λj h1 h2=>?_;rw[List.getElem_set];by_cases e:b=j
 ·subst e;simp[AV3]
 ·rw[if_neg e];by_cases h:j<b
  ·simp[AV3,h,show j<b+1 by omega]
  ·simp[AV3,h,show ¬ j<b+1 by omega]
theorem Bm9(B:Nat)(f g:Nat->α):AV3 B 0 f g=(List.range B).map g:=by unfold AV3;exact cK λj _=>if_neg (bK j)
theorem Bw6(B:Nat)(f g:Nat->α):AV3 B B f g=(List.range B).map f:=by unfold AV3;exact cK λj hj=>if_pos (List.mem_range.1 hj)
theorem Av7{S:Nat->Prop}{n:Nat}{k:Int}(up:Up S w)(hn:n<=65536):CR prog 124 #[iW (n:Nat),iW k] w (eV.at S (tab n (Z0 k))) :=
 (AS2 up hn).mono λ_ _ _ hv=>hv.toR (λj hj=>up j hj) (λ_ h=>h)
theorem BH9:Ent prog 176:=en func176
theorem BG0{S:Nat->Prop}(up:Up S w)(hn:eN.R S w vn n)(ho:eI.R S w vo o) :
  CR prog 176 #[vn,vo] w (Two (λv W=>if C8 n o=0 then ∃ g vs base,v=.slice (some ⟨g,0,none⟩) (A0 n o).B (A0 n o).B/\w.heap.size<=base/\base<=g/\RwI S base g W vs (C6 (A0 n o).B (A0 n o).B (A0 n o).Lk) else v=.slice none 0 0) (Is (iW (C8 n o)))):=by
 obtain⟨s,rfl,hs,hb⟩:=hn;have hn:eN.R S w (.agg #[iW n.b,s]) n:=⟨s,rfl,hs,hb⟩;refine enter func176 O ntmps176 O (.beg (.go O (.box O O λw1 b2 n1=>.go O ?_)));obtain⟨e1,k2,hb2,hs1⟩:=n1;replace k2:Blk w1 b2 24 #[iW n.b,s]:=k2;refine .ldA G2 O O k2 O (.go O ?_);refine .call _ O Y4 O (V6 (hn.ext e1) (ho.ext e1)) λv3 w3 e3 h3=>?_;subst h3;have x3:=e1.trans e3;have k2:=k2.ext e3;refine .go O ?_;by_cases hO:C8 n o=0;rotate_left
 ·refine .neqT O O O hO (.goE O (.plain [_,_] results176 ⟨rfl,rfl,trivial⟩ ⟨x3,_,_,rfl,?_,rfl⟩));show if C8 n o=0 then _ else _;rw[if_neg hO]
 have ok:=K6 hO;have hnb:=ok.b;have hB6:=ok.b6;have hM10:n.ls.length<=10:=ok.m;rw[hnb] at k2 hn;have z3:=x3.size;refine .neqF O O O hO (.go O (.fa F9 O O (.go O (.ld A5 O O k2 O ?_))));refine .make_ _ _ E4 AD5 O (by decide) O O O (aA _) (by omega) (by omega) λw4 g n4=>?_;have f4:FB Be3 26 (λ_=>True) w4 g (List.replicate (A0 n o).B (Value.slice none 0 0)):=FB.made n4 ⟨rfl,none,0,0,rfl⟩;obtain⟨e4,_,hg,hs4⟩:=n4;have r4:RwI S w3.heap.size g w4 _ (List.replicate (A0 n o).B []):=RwI.fresh f4;have hz:List.replicate (A0 n o).B ([]:List QV)=C6 (A0 n o).B 0 (A0 n o).Lk:=by refine fT (by simp[C6]) λj h1 h2=>?_;simp[C6,tab]
 rw[hz] at r4;have hgb:w3.heap.size<=g:=by omega
 refine .goC O ?_;refine .lp (α:=Nat×List Value) [1,2,7] O (λy=>[(8,iW (y.1:Nat))]) (λy W=>Ext w3 W/\y.1<=(A0 n o).B/\RwI S w3.heap.size g W y.2 (C6 (A0 n o).B y.1 (A0 n o).Lk)) (λy=>(A0 n o).B-y.1) (0,_) (lc1 O) ⟨e4,aC _,r4⟩ ?_;rintro⟨k,vs⟩ W ⟨hW,hi,hR⟩;replace hW:Ext w3 W:=hW;replace hi:k<=(A0 n o).B:=hi;replace hR:RwI S w3.heap.size g W vs (C6 (A0 n o).B k (A0 n o).Lk):=hR;have k2W:∀ {W':World},Ext w3 W'->Blk W' b2 24 #[iW ((A0 n o).B:Nat),s]:=λe=>k2.ext e;have zW:=hW.size;refine .go O (.fa F9 O O (.go O (.ld A5 O O (k2W hW) O (.go O ?_))));rcases aB k (A0 n o).B with hlt | hge;rotate_left
 ·have:k=(A0 n o).B:=by omega
  subst this;refine .lssF O O O (by omega) (.goE O (.plain [_,_] results176 ⟨rfl,rfl,trivial⟩ ⟨x3.trans hW,_,_,rfl,?_,by rw[hO]⟩));show if C8 n o=0 then _ else _;rw[if_pos hO];exact⟨g,vs,w3.heap.size,rfl,z3,hgb,hR⟩
 generalize hX:Ao2 S g vs=X;have upX:∀ {W':World},W.heap.size<=W'.heap.size->Up X W':=λh=>by rw[<-hX];exact hR.up h λj hj=>up j (by omega)
 have hlow:∀ j,S j->j<w.heap.size->X j:=λj h1 h2=>by rw[<-hX];exact hR.low hgb (by omega) h1
 have hnX:∀ {W':World},Ext w3 W'->eN.R X W' (.agg #[iW ((A0 n o).B:Nat),s]) n:=λe=>ER.ext eN (eN.mono (λj _ h=>hlow j h.1 h.2) (ER.lt eN hn)) (x3.trans e);have hoX:∀ {W':World},Ext w3 W'->eI.R X W' vo o:=λe=>ER.ext eI (eI.mono (λj _ h=>hlow j h.1 h.2) (ER.lt eI ho)) (x3.trans e);have hsf:sfE n o (tab (A0 n o).B (Z0 (k:Nat))).length=0:=by unfold sfE;rw[A2,if_neg (by simpa using hO),if_pos (by omega)]
 have hfz:vk 4 (tab n.ls.length ((A0 n o).fl (rv (tab (A0 n o).B (Z0 (k:Nat)))))):=T7 λi _=>Bz0 ok (λc=>(Ay2 (A0 n o).B k).rsz (aA _) c) i;have hno:noE n o (tab n.ls.length ((A0 n o).fl (rv (tab (A0 n o).B (Z0 (k:Nat)))))).length=0:=by unfold noE;rw[A2,if_neg (by simpa using hO),if_pos (aA _)]
 generalize hfl:tab n.ls.length ((A0 n o).fl (rv (tab (A0 n o).B (Z0 (k:Nat)))))=fv at hfz hno;have hoff:(A0 n o).offM (rv fv)=λb=>(A0 n o).Lk b k:=by funext b;rw[<-hfl];rfl
 refine .lssT O O O (by omega) (.goC O ?_);refine .par follows 11 [.inl (.agg #[iW ((A0 n o).B:Nat),s]),.inl _,.inl _,.inl (iW ((A0 n o).B:Nat)),.inl _,.inr (eV.at X (tab (A0 n o).B (Z0 (k:Nat)))),.inr (Two (eV.at X fv) (Is (iW 0))),.inr (Two (eV.at X fv) (Is (iW 0))),.inr (eV.at X fv),.inl (iW 0),.inr (eV.at X fv)] [[],[],[],[(32,2)],[],[(33,3),(34,4)],[(30,0),(31,1),(35,5)],[(36,6)],[(29,7)],[(29,7)],[(37,8)]] (by kernel_rfl) ⟨λw e=>(E1 G2 O (k2W (hW.trans e)) O).ob,mvo O,fao F9 O,λw e=>(E2 A5 O (k2W (hW.trans e)) O).ob,mvo O,λw e=>(A4 _ Y5 O (Av7 (upX e.size) (by omega))).oa,λw e x5 hx5=>(by have:=Ay9 (L:=1) (upX e.size) (hnX (hW.trans e)) (hoX (hW.trans e)) hx5 (Ay2 _ _) (by decide) (by decide);rw[hsf,if_pos rfl,hfl] at this;exact (A4 _ BD9 O this).ob (L3 (G7 _ _ _) (S9 _))),λw e x6 hx6=>K5 (v_mv O) hx6 (L3 (G7 _ _ _) (S9 _)),λw e x7 hx7=>by
   obtain⟨p1,q1,rfl,hp1,hq1⟩:=hx7;exact K5 (AA1 O O) hp1 (G7 _ _ _),λw e x7 hx7=>by
   obtain⟨p1,q1,rfl,hp1,hq1⟩:=hx7;exact ((AA1 O O).eq hq1).ob,λw e x8 hx8=>K5 (AR9 O) hx8 (G7 _ _ _),trivial⟩ ?_
 intro W5 d5 y5 hy5 y6 hy6 y7 hy7 y8 hy8 vf hvf;have hW5:=hW.trans d5;refine .go O (.ldA G2 O O (k2W hW5) O (.go O ?_));have hoffc:=BU7 (L:=4) (upX d5.size) (hnX hW5) (hoX hW5) hvf hfz (by decide) (by decide);rw[hno,if_pos rfl,hoff] at hoffc;refine .call _ O BZ2 O hoffc λv6 W6 d6 h6=>?_;obtain⟨va,ve,rfl,ha,rfl⟩:=h6;have hW6:=hW5.trans d6;have hR:=(hR.ext d5).ext d6;replace ha:eV.R X W6 va (tab (A0 n o).B λb=>(A0 n o).Lk b k):=ha;rw[<-hX] at ha;have hmz:C6 (A0 n o).B k (A0 n o).Lk=AV3 (A0 n o).B 0 (λb=>tab (k+1) ((A0 n o).Lk b)) (λb=>tab k ((A0 n o).Lk b)):=by rw[Bm9];rfl
 have hma:AV3 (A0 n o).B (A0 n o).B (λb=>tab (k+1) ((A0 n o).Lk b)) (λb=>tab k ((A0 n o).Lk b))=C6 (A0 n o).B (k+1) (A0 n o).Lk:=by rw[Bw6];rfl
 rw[hmz] at hR;refine .goC O ?_;refine .lp (α:=Nat×List Value) [1,2,7,8,11] O (λy=>[(13,iW (y.1:Nat))]) (λy W'=>Ext w3 W'/\y.1<=(A0 n o).B/\RwI S w3.heap.size g W' y.2 (AV3 (A0 n o).B y.1 (λb=>tab (k+1) ((A0 n o).Lk b)) (λb=>tab k ((A0 n o).Lk b)))/\eV.R (Ao2 S g y.2) W' va (tab (A0 n o).B λb=>(A0 n o).Lk b k)) (λy=>(A0 n o).B-y.1) (0,vs) (lc1 O) ⟨hW6,aC _,hR,ha⟩ ?_;clear hR ha;rintro⟨b,us⟩ W7 ⟨hW7,hi7,hR,ha⟩;replace hW7:Ext w3 W7:=hW7;replace hi7:b<=(A0 n o).B:=hi7;replace hR:RwI S w3.heap.size g W7 us (AV3 (A0 n o).B b (λb=>tab (k+1) ((A0 n o).Lk b)) (λb=>tab k ((A0 n o).Lk b))):=hR;replace ha:eV.R (Ao2 S g us) W7 va (tab (A0 n o).B λb=>(A0 n o).Lk b k):=ha;refine .go O (.fa F9 O O (.go O (.ld A5 O O (k2W hW7) O (.go O ?_))));rcases aB b (A0 n o).B with hbl | hge;rotate_left
 ·have:b=(A0 n o).B:=by omega
  subst this;rw[hma] at hR;exact .lssF O O O (by omega) (.go O (.inc O O O (by omega) (.goN O (.mk (k+1,us) O (lc1 O) ⟨⟨hW7,hlt,hR⟩,by show (A0 n o).B-(k+1)<(A0 n o).B-k;omega⟩))))
 have hvl:b<us.length:=by rw[hR.len,Bw4];exact hbl
 have hu:=aE hvl;generalize us[b]=u at hu;have hum:u∈us:=List.mem_iff_getElem?.2 ⟨b,hu⟩;have hm:=Bw5 (f:=λb=>tab (k+1) ((A0 n o).Lk b)) (g:=λb=>tab k ((A0 n o).Lk b)) hbl;have hga:(tab (A0 n o).B λb=>(A0 n o).Lk b k)[b]?=some (qc ((A0 n o).Lk b k)):=H2 hbl;have htk:tab k ((A0 n o).Lk b)++[qc ((A0 n o).Lk b k)]=tab (k+1) ((A0 n o).Lk b):=by unfold tab;rw[aP,aM];rfl
 generalize qc ((A0 n o).Lk b k)=q at hga htk;refine .lssT O O O (by omega) (.goC O ?_);refine .parL follows 11 [0,1] [.inl _,.inl _,.inl _,.inl _,.inl (.pointer (some ⟨g,0+b*1,none⟩)),.inl u,.inl _,.inl _,.inr (Ptr eQ (Ao2 S g us) q),.inr (eQ.at (Ao2 S g us) q),.inr (OneP (Ao2 S g us) q)] [[],[],[],[],[(54,2),(55,3)],[(56,4)],[],[],[(58,6),(59,7)],[(60,8)],[(61,9)]] (by kernel_rfl) ⟨mvo O,mvo O,mvo O,mvo O,λw e=>(G6 (i:=b) E4 C2 O O hbl).ob,λw e=>(AJ8 (E:=Be3) (i:=b) (by decide) C2 O (aD _) (hR.out.ext e) hu).mono λv' w' ⟨e1,h⟩=>⟨e1,(h w' (Ext.refl _)).1⟩,mvo O,mvo O,λw e=>C4 (i:=b) C9 A3 O (ER.ext eV ha e) O hga,λw e x8 hx8=>K1 A3 O hx8,λw e x9 hx9=>ob_One hx9,trivial⟩ ?_;rintro W1 d1 y8 hy8 y9 hy9 _ ⟨bb,e9,rfl,kb9,he9⟩;have hW1:=hW7.trans d1;have hR1:=hR.ext d1;have hrow:=hR1.inn b u _ hu hm;refine .gv O O (V8 (E:=eQ) (base:=w3.heap.size) (n:=q) (e:=e9) (by decide) C9 J4 O O O hrow kb9 (eQ.mono (λj _ h=>⟨h,h.2.2 u hum⟩) he9) (by rw[A2];omega) (by decide) hW1.size) ?_;rintro v2 W2 ⟨hO2,g2,hob⟩;have fb2:FB Be3 26 (λ_=>True) W2 g us:=by obtain⟨es,hb,he⟩:=hR1.out;exact⟨es,hrow.gblk g2 hb (by decide),he.1,λi e x h1 h2=>he.2 i e x h1 h2⟩
 obtain⟨a2,c2,hv2⟩:=hO2.slice;refine .ixB (i:=b) E4 C2 O O O hbl (.storeF (E:=Be3) (i:=b) (z:=v2) (by decide) C2 O O fb2 O hvl (aD _) ⟨rfl,_,_,_,hv2⟩ λW3 fb3 u3=>?_);have hR3:=hR1.step hu hm hO2 g2 hob fb3 u3;rw[htk,Bw3 (f:=λb=>tab (k+1) ((A0 n o).Lk b))] at hR3;have ha3:=hR1.keep hu (ER.ext eV ha d1) g2 hob u3;have hW3:Ext w3 W3:=u3.below (B4.below hrow g2 hW1 hW1.size) hgb;exact .go O (.inc O O O (by omega) (.goN O (.mk (b+1,us.set b v2) O (lc1 O) ⟨⟨hW3,hbl,hR3,ha3⟩,by show (A0 n o).B-(b+1)<(A0 n o).B-b;omega⟩)))
theorem BJ6 (f:Nat->Rat) (k:Nat):∀ B,k<B->B9 B (λc=>f c*(if c=k then 1 else 0))=f k
 | B+1,h=>by
  show B9 B _+f B*(if B=k then 1 else 0)=f k
  by_cases e:B=k
  ·subst e
   rw[if_pos rfl,H0 λc hc=>by rw[if_neg (by omega),aW]]
   grind
  ·rw[if_neg e,BJ6 f k B (by omega)]
   grind
theorem Nw.Lk_Lm{n:Nw}(ok:n.Ok){b:Nat}(hk:k<n.B):n.Lk b k=n.Lm b k:=by unfold Nw.Lk;rw[Nw.offM_fl ok (rv (tab n.B (Z0 (k:Nat)))) _ (λi hi=>by rw[L4,if_pos hi]) b,<-Nw.lap_sum ok];rw[<-BJ6 (λc=>n.Lm b c) k n.B hk];exact A9 λc hc=>by rw[rv_uni,if_pos hc]
theorem Nw.tab_Lk{n:Nw}(ok:n.Ok):C6 n.B n.B n.Lk=C6 n.B n.B n.Lm:=E7 λb k _ hk=>Nw.Lk_Lm ok hk
section
variable {α:Type} {E:ER α} {t:TypeId} {S:Nat->Prop} {w w':World} {g:Nat} {l:List α}
theorem FP.blk (h:FP E t S w g l):∃ cs,Blk w g t cs:=by obtain⟨_,_,h,_⟩:=h;exact⟨_,h⟩
theorem FP.grow {v v':Value} (h:FP E t (λk=>S k/\v.ownBlock≠some k) w g l) (hg:w.grownBy w' v.ownBlock) (hw:v'.ownBlock=v.ownBlock\/v'.ownBlock=some w.heap.size) (hne:v.ownBlock≠some g):FP E t (λk=>S k/\v'.ownBlock≠some k) w' g l:=by
 have h1:FP E t (λk=>(S k/\v.ownBlock≠some k)/\k<w.heap.size) w g l:=h.mono λk hk hs=>⟨hs,hk⟩;have h2:=h1.chg (Chg.grown hg) hne λk hk=>hk.1.2;refine h2.mono λk _ hk=>⟨hk.1.1,?_⟩;rcases hw with e | e
 ·rw[e];exact hk.1.2
 ·rw[e];intro e';cases e';exact dZ _ hk.2
theorem B4.ne {β:Type} {F:ER β} {t':TypeId} {base:Nat} {X:Nat->Prop} {v:Value} {b:List β} {cs:Array Value} (h:B4 F t' base X w v b) (hb:Blk w g t cs) (ht:t'≠t):v.ownBlock≠some g:=by
 obtain⟨es,ho,_⟩:=h;rcases ho.2 with ⟨rfl,_⟩ | ⟨g',cap,cur,rfl,_,hg,_⟩
 ·intro e;cases e
 ·intro e;have:g'=g:=by simpa[Value.ownBlock] using e
  subst this;have e1:w.heap[g']?=some (.cells cs t (0,0)):=hb;rw[hg] at e1;cases e1;exact ht rfl
end
theorem B4.lt'{β:Type}{F:ER β}{t':TypeId}{base:Nat}{X:Nat->Prop}{b:List β}(h:B4 F t' base X w v b)(k:Nat)(hk:v.ownBlock=some k):k<w.heap.size:=by obtain⟨es,ho,_⟩:=h;exact (ho.lt k hk).2
theorem Bm4{f:RM}{col n i r:Nat}(h1:i<=r)(h2:r<i+n)(h3:f r col≠0)(h4:∀ k,i<=k->k<r->f k col=0):K4 f col n i=some r:=by
 cases h:K4 f col n i with
 | none=>exact absurd (AX2 h r h1 h2) h3
 | some r' =>
  obtain⟨a1,a2,a3,a4⟩:=N8 h;rcases iJ r r' with e | e | e
  ·exact absurd (a4 r h1 e) h3
  ·rw[e]
  ·exact absurd (h4 r' a1 e) a3
theorem Bm3{f:RM}{col n i:Nat}(h4:∀ k,i<=k->k<i+n->f k col=0):K4 f col n i=none:=by
 cases h:K4 f col n i with
 | none=>rfl
 | some r' =>
  obtain⟨a1,a2,a3,a4⟩:=N8 h;exact absurd (h4 r' a1 a2) a3
theorem AZ0:Ent prog 222:=en func222
theorem AW3{S:Nat->Prop}{m:List (List QV)}{n:Nat}(up:Up S w)(hm:eM.R S w vm m)(ok:eOk L n C0 m) :
  CR prog 222 #[vm] w (Two (eM.at S (AJ6 m)) (eI.at S (A7 (C7 m)))):=by
 have hnr:=ok.rows;have hc:=ok.cols;have hc1:=ok.c1;have hLl:=ok.le;refine enter func222 O ntmps222 O ?_;refine .sr (.asg O O (.an O O (.sr (.mv O O ?_))));refine .call _ O AI5 O (AH8 hm) λv1 w1 e1 h1=>.an O O ?_;subst h1;refine .sr (.mv O O (.mv O O (.lenR E4 O O (hm.ext e1) (.mv O O ?_))));refine .call _ O BZ3 O (BU8 (up.ext e1.size) (hm.ext e1) ok.k ok.l1 (by omega)) λvr w2 e2 h2=>.an O O ?_;have hcr:AH2 (m.length:Int)=m.length:=by unfold AH2;omega
 have hcc:AH2 (A1 m:Int)=A1 m:=by unfold AH2;omega
 rw[hcr,hcc] at h2;have h2:=B4.base h2 e1.size;have x2:=e1.trans e2;refine .sr (.an O O (.sr (.an O O ?_)));generalize hN:m.length=N at *;generalize hCc:A1 m=C at *;have hf:∀ i k,i<N->k<C->Rsz (rm m i k) L:=λi k _ _=>ok.k.rsz ok.l1 i k;rcases aU N with h0 | hpos
 ·have hm0:m=[]:=List.length_eq_zero_iff.1 (by omega);have hC0:C=0:=by rw[<-hCc,hm0];rfl
  have hp0:C7 m=[]:=by rw[hm0];rfl
  have hr0:AJ6 m=[]:=by rw[hm0];rfl
  subst hC0;have hl0:C6 N 0 (rm m)=[]:=by rw[h0];rfl
  rw[hl0] at h2;have hvr:eM.R S w2 vr []:=h2.toR (λk hk=>up k hk) (λ_ h=>h);rw[hp0,hr0];refine .seq (.sr (.an O O ?_));refine .block (.loop (α:=Unit) (λ_=>[(4,iW ((0:Nat):Int)),(5,vr),(6,.slice none 0 0),(7,iW 0),(8,iW 0)]) (λ_ W=>W=w2) (λ_=>0) () ?_ ?_ ?_)
  ·exact lkA rfl
  ·rfl
  rintro _ W rfl;refine .seq (.sr (.mv O O (.mv O O (.lssF O O O (by decide) (.nil (.condF O (.exit (.sr (.mv O O (.mv O O (.cut 0 0 E4 C2 O O hvr O ⟨_,rfl⟩ (aA _) (aC _) λv3 h3=>.mv O O (.asg O O (.an O O (.ret ?_))))))))))))));exact .p2 results222 O O ⟨x2,_,_,rfl,h3,RL.nil⟩
 obtain⟨g,cap,rfl,hcap,hcap2,hgB,fp⟩:=h2.fp (by rw[A8];exact hpos);rw[A8] at hcap ⊢;refine .mid (α:=Value) (λu=>[(5,.slice (some ⟨g,0,none⟩) N cap),(6,u),(7,iW ((C7 m).length:Nat))]) (λu W=>Ext w W/\B4 (B8 .i64) 3 w.heap.size (λ_=>False) W u (A7 (C7 m))/\FP eV 26 S W g (C6 N C (I7 m))) ?_ ?_
 ·refine .sr (.an O O ?_);refine .block (.loop (α:=Nat×Value) (λy=>[(4,iW (C:Nat)),(5,.slice (some ⟨g,0,none⟩) N cap),(6,y.2),(7,iW ((elim N (rm m) y.1).2.length:Nat)),(8,iW (y.1:Nat))])
   (λy W=>Ext w W/\y.1<=C/\B4 (B8 .i64) 3 w.heap.size (λ_=>False) W y.2 (A7 (elim N (rm m) y.1).2)/\FP eV 26 (λk=>S k/\y.2.ownBlock≠some k) W g (C6 N C (elim N (rm m) y.1).1)) (λy=>C-y.1) (0,.slice none 0 0) ?_ ?_ ?_)
  ·exact lkA rfl
  ·exact⟨x2,aC _,B4.nil,fp.mono λk _ h=>⟨h,λe=>by cases e⟩⟩
  rintro⟨c,u⟩ W ⟨hW,hcC,ho,fp⟩;replace hW:Ext w W:=hW;replace hcC:c<=C:=hcC;replace ho:B4 (B8 .i64) 3 w.heap.size (λ_=>False) W u (A7 (elim N (rm m) c).2):=ho;replace fp:FP eV 26 (λk=>S k/\u.ownBlock≠some k) W g (C6 N C (elim N (rm m) c).1):=fp;have hech:=AG0 N (rm m) c;have hql:=hech.len;have hqc:=hech.len_c;have hsg:=AQ7 (C:=C) ok.l1 hf c hcC;have hnext:elim N (rm m) (c+1)=Z8 N c (elim N (rm m) c):=rfl;generalize hE:elim N (rm m) c=E at *;obtain⟨f,p⟩:=E;simp only at ho fp hql hqc hsg;have hsz:=hW.size;refine .seq (.sr (.mv O O (.mv O O ?_)));rcases aB c C with hlt | hge;rotate_left
  ·refine .lssF O O O (by omega) (.nil (.condF O (.exit ?_)));have:c=C:=by omega
   subst this;have e1':C7 m=p:=by unfold C7;rw[hN,hCc,hE]
   have e2':I7 m=f:=by unfold I7;rw[hN,hCc,hE]
   rw[e1',e2'];exact⟨rfl,u,lkA rfl,hW,ho,fp.mono λk _ h=>h.1⟩
  refine .lssT O O O (by omega) (.nil (.condT O (.skip (.seq (.block (.sr (.mv O O (.an O O ?_))))))));have hugne:∀ {W':World} {l:List (List QV)} {S':Nat->Prop},B4 (B8 .i64) 3 w.heap.size (λ_=>False) W' u (A7 p)->FP eV 26 S' W' g l->u.ownBlock≠some g:=λh h'=>by obtain⟨cs,hb⟩:=h'.blk;exact h.ne hb (by decide)
  have hne:=hugne ho fp;have hB:1<=bd L p.length:=BQ6 ok.l1 _;have hBq:bd L p.length<=40000000:=by refine aG (Z3 L ?_) ok.bd;have:=ok.mn;omega
  refine .mid (α:=Nat) (λr=>[(4,iW (C:Nat)),(5,.slice (some ⟨g,0,none⟩) N cap),(6,u),(7,iW (p.length:Nat)),(8,iW (c:Nat)),(9,iW (r:Nat))]) (λr W'=>Ext W W'/\p.length<=r/\r<=N/\(∀ j,p.length<=j->j<r->f j c=0)/\(r<N->f r c≠0)) ?_ ?_
  ·refine .block (.loop (α:=Nat) (λr=>[(4,iW (C:Nat)),(5,.slice (some ⟨g,0,none⟩) N cap),(6,u),(7,iW (p.length:Nat)),(8,iW (c:Nat)),(9,iW (r:Nat))]) (λr W'=>Ext W W'/\p.length<=r/\r<=N/\(∀ j,p.length<=j->j<r->f j c=0)) (λr=>N-r) p.length ?_ ?_ ?_)
   ·exact lkA rfl
   ·exact⟨Ext.refl _,aA _,hql,λj h1 h2=>by omega⟩
   rintro r W1 ⟨hW1,hr1,hr2,hz⟩;refine .seq (.sr (.mv O O (.mv O O (.len E4 O O ?_))));rcases aB r N with hlr | hgr;rotate_left
   ·refine .lssF O O O (by omega) (.mv O O (.gs O O O O O (.gs O O O O O (.gs O O O O O (.gs O O O O O (.gs O O O O O (.gs O O O O O (.gs O O O O O (.gs O O O O O (.gs O O O O O (.pick O O O (.nil (.condF O (.exit ?_))))))))))))));exact⟨rfl,r,lkA rfl,hW1,hr1,hr2,hz,λh=>by omega⟩
   have fp1:=fp.ext hW1;refine .lssT O O O (by omega) (.mv O O (.gr O O O O (.mv O O (.gr O O O O (.mv O O (.gr O O O O (.ixB (i:=r) E4 C2 O O O hlr (.gr O O O O (.ldP (E:=eV) (i:=r) C2 O O (aD _) fp1 (F2 hlr) λer her=>.gr O O O O (.mv O O (.gr O O O O ?_)))))))))));refine .ixN (i:=c) C9 A3 O O her O (H2 hlt) λpp hp=>.gr O O O O (.ldE A3 O O hp λex hex=>.gr O O O O ?_);refine .call _ O AT8 O (AS3 (L:=bd L p.length) (λk hk=>⟨⟨up k (by have:=hW1.size;omega),λh=>by have:=(ho.lt' k h);have:=hW1.size;omega⟩,by have:=fp.lt;have:=hW1.size;omega⟩) hex (hsg r c hlr hlt).toOk (by omega)) λvs W2 e2 hvs=>.gr O O O O ?_;subst hvs;rw[<-BJ8,C3];by_cases hzr:f r c=0
   ·refine .eqlT O O O (AI8.2 hzr) (.pick O O O (.nil (.condT O (.skip (.block (.region (.mv O O (.add O O O (.an O O ?_)))))))));rw[wI (by omega)];refine⟨rfl,r+1,lkA rfl,⟨hW1.trans e2,by omega,hlr,λj h1 h2=>?_⟩,by show N-(r+1)<N-r;omega⟩;by_cases e:j=r
    ·rw[e];exact hzr
    ·exact hz j h1 (by omega)
   ·refine .eqlF O O O (λh=>hzr (AI8.1 h)) (.pick O O O (.nil (.condF O (.exit ?_))));exact⟨rfl,r,lkA rfl,hW1.trans e2,hr1,hr2,hz,λ_=>hzr⟩
  rintro r W1 ⟨hW1,hr1,hr2,hz,hnz⟩;have ho:=ho.ext hW1;have fp:=fp.ext hW1;have hW:=hW.trans hW1;have hsz:=hW.size;refine .seq (.sr (.mv O O (.mv O O (.len E4 O O ?_))));rcases aB r N with hrn | hrn;rotate_left
  ·refine .eqlT O O O (by omega) (.nil (.condT O (.exit (.region (.mv O O (.add O O O (.an O O ?_)))))));rw[wI (by omega)];have hst:elim N (rm m) (c+1)=(f,p):=by rw[hnext];unfold Z8;simp only;rw[Bm3 λk h1 h2=>hz k h1 (by omega)]
   refine⟨rfl,(c+1,u),?_,⟨hW,hlt,?_,?_⟩,by show C-(c+1)<C-c;omega⟩
   ·show ∀ t v,YtpgkacdihhjknaaGreat.look [(4,Value.int .i64 (C:Nat)),(5,.slice (some ⟨g,0,none⟩) N cap),(6,u),(7,iW ((elim N (rm m) (c+1)).2.length:Nat)),(8,iW ((c+1:Nat):Int))] t=some v->_;rw[hst];exact lkA rfl
   ·show B4 (B8 .i64) 3 w.heap.size (λ_=>False) W1 u (A7 (elim N (rm m) (c+1)).2);rw[hst];exact ho
   ·show FP eV 26 (λk=>S k/\u.ownBlock≠some k) W1 g (C6 N C (elim N (rm m) (c+1)).1);rw[hst];exact fp
  refine .eqlF O O O (by omega) (.nil (.condF O (.skip ?_)));have hqlt:p.length<N:=by omega
  have hpr:K4 f c (N-p.length) p.length=some r:=Bm4 hr1 (by omega) (hnz hrn) hz;have hst:elim N (rm m) (c+1)=(clr (swp f r p.length) p.length c,p++[c]):=by rw[hnext];unfold Z8;simp only;rw[hpr]
  refine .mid (α:=Unit) (λ_=>[(4,iW (C:Nat)),(5,.slice (some ⟨g,0,none⟩) N cap),(6,u),(7,iW (p.length:Nat)),(8,iW (c:Nat))]) (λ_ W'=>Ext w W'/\B4 (B8 .i64) 3 w.heap.size (λ_=>False) W' u (A7 p)/\FP eV 26 (λk=>S k/\u.ownBlock≠some k) W' g (C6 N C (swp f r p.length))) ?_ ?_
  ·refine .heldT follows true (λ_=>True) [some _,some (iW (p.length:Nat)),some _,some (iW (r:Nat)),some _,some (iW (r:Nat)),some (.pointer (some ⟨g,0+r*1,none⟩)),none,some _,some (iW (p.length:Nat)),some (.pointer (some ⟨g,0+p.length*1,none⟩)),none,some (.pointer (some ⟨g,0+p.length*1,none⟩)),none,some (.pointer (some ⟨g,0+r*1,none⟩)),none]
    (.two 7 (.one 11 (.one 13 (.one 15 .done))) 11 (.one 7 (.one 13 (.one 15 .done)))) (by kernel_rfl) (by kernel_rfl)
    ⟨λ_ _=>v_mv rfl,λ_ _=>v_mv rfl,λ_ _=>v_mv rfl,λ_ _=>v_mv rfl,λ_ _=>v_mv rfl,λ_ _=>v_mv rfl,λ_ _=>G6 (i:=r) E4 C2 O O hrn,λ_ _=>v_mv rfl,λ_ _=>v_mv rfl,λ_ _=>G6 (i:=p.length) E4 C2 O O hqlt,λ_ _=>G6 (i:=p.length) E4 C2 O O hqlt,λ_ _=>G6 (i:=r) E4 C2 O O hrn,trivial⟩ ?_
   intro W3 e3 _;obtain⟨x7,h7,p7⟩:=(fp.ext e3).at_ (F2 hrn);obtain⟨x11,h11,p11⟩:=(fp.ext e3).at_ (F2 hqlt);have q7:Ac3 W3 ⟨g,0+r*1,none⟩ x7:=by rw[aD];exact p7
   have q11:Ac3 W3 ⟨g,0+p.length*1,none⟩ x11:=by rw[aD];exact p11
   refine .gv2 (.gv O trivial O (AH4 (E:=eV) C2 O q7 h7).gv ?_) (.gv O trivial O (AH4 (E:=eV) C2 O q11 h11).gv ?_);all_goals
    rintro _ _ ⟨rfl,rfl⟩;refine .gv O trivial O (by first | exact (AH4 (E:=eV) C2 O q11 h11).gv | exact (AH4 (E:=eV) C2 O q7 h7).gv) ?_
    rintro _ _ ⟨rfl,rfl⟩;refine .gv O trivial O (AY0 (E:=eV) (i:=p.length) (by decide) C2 O O (fp.ext e3) O (by rw[A8];exact hqlt) (aD _) h7) ?_;rintro _ W4 ⟨f4,u4⟩;refine .gv O trivial O (AY0 (E:=eV) (i:=r) (by decide) C2 O O f4 O (by rw[bV,A8];exact hrn) (aD _) (ER.upd eV h11 u4 (λh=>h.2 O))) ?_;rintro _ W5 ⟨f5,u5⟩;refine .nil (.inl O) ?_;rw[R5 hqlt,R5 hrn] at f5;have e5:C6 N C (λj k=>if j=r then f p.length k else if j=p.length then f r k else f j k)=C6 N C (swp f r p.length):=E7 λi k _ _=>by
     unfold swp;by_cases e1:i=r
     ·rw[if_pos e1,if_pos e1]
     ·by_cases e2:i=p.length
      ·rw[if_neg e1,if_pos e2,if_neg e1,if_pos e2]
      ·rw[if_neg e1,if_neg e2,if_neg e1,if_neg e2]
    rw[e5] at f5;obtain⟨cs3,hb3⟩:=(fp.ext e3).blk;obtain⟨cs4,hb4⟩:=f4.blk;exact⟨rfl,(),lkA rfl,u5.below (u4.below (hW.trans e3) hgB) hgB,((ho.ext e3).upd u4 hb3 (by decide) (λh=>h)).upd u5 hb4 (by decide) (λh=>h),f5⟩
  rintro _ W2 ⟨hW2,ho,fp⟩;have hss:=BM6 (a:=r) (b:=p.length) hrn hqlt hsg;have hsq:swp f r p.length p.length c=f r c:=by
   unfold swp;by_cases e:p.length=r
   ·simp[e]
   ·simp[e]
  have hs0:swp f r p.length p.length c≠0:=by rw[hsq];exact hnz hrn
  generalize hs:swp f r p.length=s at *;generalize hq:p.length=q at *;have hgl:=fp.lt;have upW:∀ {W':World},Ext W2 W'->Up (λk=>(S k/\u.ownBlock≠some k)/\k≠g) W':=λe k hk=>⟨⟨up k (by have:=hW2.size;have:=e.size;omega),λh=>by have:=ho.lt' k h;have:=e.size;omega⟩,by have:=e.size;omega⟩;have h1k:qk (bd L q) (qc ((1:Int):Rat)):=AJ7 (Rsz.int 1 (bC (by decide) (aQ (by decide) hB)) hB);have hki:qk (bd L q) (qc (s q c)⁻¹):=AJ7 ((hss q c hqlt hlt).inv hB);have hkr:∀ i,i<N->vk (bd L q) (tab C (s i)):=λi hi=>T7 λk hk=>hss i k hi hk;refine .seq ?_;refine .par follows 16 [.inl _,.inl (iW (q:Nat)),.inr (eQ.at (λk=>(S k/\u.ownBlock≠some k)/\k≠g) (qc ((1:Int):Rat))),.inl _,.inl (iW (q:Nat)),.inl (.pointer (some ⟨g,0+q*1,none⟩)),.inr (eV.at (λk=>(S k/\u.ownBlock≠some k)/\k≠g) (tab C (s q))),.inl (iW (c:Nat)),.inr (Ptr eQ (λk=>(S k/\u.ownBlock≠some k)/\k≠g) (qc (s q c))),.inr (eQ.at (λk=>(S k/\u.ownBlock≠some k)/\k≠g) (qc (s q c))),.inr (eQ.at (λk=>(S k/\u.ownBlock≠some k)/\k≠g) (qc (s q c)⁻¹)),.inl _,.inl (iW (q:Nat)),.inl (.pointer (some ⟨g,0+q*1,none⟩)),.inr (eV.at (λk=>(S k/\u.ownBlock≠some k)/\k≠g) (tab C (s q))),.inr (eV.at (λk=>(S k/\u.ownBlock≠some k)/\k≠g) (tab C λk=>(s q c)⁻¹*s q k))]
   [[],[],[],[],[],[(62,3),(63,4)],[(64,5)],[],[(65,6),(66,7)],[(67,8)],[(61,2),(68,9)],[],[],[(70,11),(71,12)],[(72,13)],[(69,10),(73,14)]] (by kernel_rfl) ⟨mvo O,mvo O,λw e=>(A4 _ AA0 O (Z7 (upW e) (by decide) (by decide))).oa,mvo O,mvo O,λw e=>(G6 (i:=q) E4 C2 O O hqlt).ob,λw e=>Ao3 (E:=eV) (i:=q) C2 O (aD _) (fp.ext e) (F2 hqlt),mvo O,λw e x hx=>C4 (i:=c) C9 A3 O hx O (H2 hlt),λw e x hx=>K1 A3 O hx,λw e x hx y hy=>by
    have:=Bc1 (upW e) hx hy h1k.1 (hss q c hqlt hlt).toOk hB (by omega) (by rw[C3];exact hs0);rw[C3,C3,show ((1:Int):Rat)*(s q c)⁻¹=(s q c)⁻¹ by simp] at this;exact (A4 _ Bf6 O this).oa,mvo O,mvo O,λw e=>(G6 (i:=q) E4 C2 O O hqlt).ob,λw e=>Ao3 (E:=eV) (i:=q) C2 O (aD _) (fp.ext e) (F2 hqlt),λw e x hx y hy=>by
    have:=BG5 (upW e) hx hy hki (hkr q hqlt) hB (by omega) (by rw[A2];omega);rw[A2,C3,F5 (g:=λk=>(s q c)⁻¹*s q k) (λk hk=>by rw[L4,if_pos hk])] at this;exact (A4 _ BI4 O this).oa,trivial⟩ ?_
  intro W3 e3 y2 _ y6 _ y8 _ y9 _ y10 _ y14 _ y15 hy15;refine .ixB (i:=q) E4 C2 O O O hqlt (.storeP (E:=eV) (i:=q) (by decide) C2 O O (fp.ext e3) O (by rw[A8];exact hqlt) (aD _) hy15 λW4 f4 u4=>.nil ?_);obtain⟨cs3,hb3⟩:=(fp.ext e3).blk;rw[R5 hqlt,<-BD1] at f4;have ho4:=(ho.ext e3).upd u4 hb3 (by decide) (λh=>h);have hW4:Ext w W4:=u4.below (hW2.trans e3) hgB;have hs4:W2.heap.size<=W4.heap.size:=by have:=u4.size;have:=e3.size;omega
  have hur:vk (bd L q+bd L q) (tab C λk=>(s q c)⁻¹*s q k):=T7 λk hk=>((hss q c hqlt hlt).inv hB).mul (hss q k hqlt hk);refine .mid (α:=Unit) (λ_=>[(4,iW (C:Nat)),(5,.slice (some ⟨g,0,none⟩) N cap),(6,u),(7,iW (q:Nat)),(8,iW (c:Nat))]) (λ_ W'=>Ext w W'/\B4 (B8 .i64) 3 w.heap.size (λ_=>False) W' u (A7 p)/\FP eV 26 (λk=>S k/\u.ownBlock≠some k) W' g (C6 N C (clr s q c))) ?_ ?_
  ·refine .sr (.an O O ?_);refine .block (.loop (α:=Nat) (λi=>[(4,iW (C:Nat)),(5,.slice (some ⟨g,0,none⟩) N cap),(6,u),(7,iW (q:Nat)),(8,iW (c:Nat)),(10,iW (i:Nat))]) (λi W'=>Ext w W'/\W2.heap.size<=W'.heap.size/\i<=N/\B4 (B8 .i64) 3 w.heap.size (λ_=>False) W' u (A7 p)/\FP eV 26 (λk=>S k/\u.ownBlock≠some k) W' g (C6 N C (O1 s q c i))) (λi=>N-i) 0 ?_ ?_ ?_)
   ·exact lkA rfl
   ·exact⟨hW4,hs4,aC _,ho4,f4⟩
   rintro i Wa ⟨hWa,hsa,hi,hoa,fa⟩;refine .seq (.sr (.mv O O (.mv O O (.len E4 O O ?_))));rcases aB i N with hin | hin;rotate_left
   ·refine .lssF O O O (by omega) (.nil (.condF O (.exit ?_)));have:i=N:=by omega
    subst this;rw[BL6] at fa;exact⟨rfl,(),lkA rfl,hWa,hoa,fa⟩
   refine .lssT O O O (by omega) (.nil (.condT O (.skip (.seq (.block (.sr (.mv O O (.mv O O ?_))))))));by_cases hiq:i=q
   ·refine .neqF O O O (by omega) (.nil (.condF O (.skip (.region (.mv O O (.add O O O (.an O O ?_)))))));rw[wI (by omega)];refine⟨rfl,i+1,lkA rfl,⟨hWa,hsa,hin,hoa,?_⟩,by show N-(i+1)<N-i;omega⟩;have:C6 N C (O1 s q c (i+1))=C6 N C (O1 s q c i):=E7 λj k _ _=>by
     rw[AK3];by_cases ej:j=i
     ·simp only[ej,hiq,if_true];unfold O1;simp
     ·simp only[ej,if_false]
    rw[this];exact fa
   refine .neqT O O O (by omega) (.nil (.condT O ?_));have hrow:tab C (O1 s q c i i)=tab C (s i):=F5 λk _=>by unfold O1;rw[if_neg hiq,if_neg (by omega)]
   have hrq:tab C (O1 s q c i q)=tab C λk=>(s q c)⁻¹*s q k:=F5 λk _=>by unfold O1;rw[if_pos rfl]
   have upa:∀ {W':World},Ext Wa W'->Up (λk=>(S k/\u.ownBlock≠some k)/\k≠g) W':=λe k hk=>⟨⟨up k (by have:=hWa.size;have:=e.size;omega),λh=>by have:=hoa.lt' k h;have:=e.size;omega⟩,by have:=e.size;have:=fa.lt;omega⟩;refine .par follows 19 [.inl _,.inl (iW (i:Nat)),.inl _,.inl (iW (i:Nat)),.inl (.pointer (some ⟨g,0+i*1,none⟩)),.inr (eV.at (λk=>(S k/\u.ownBlock≠some k)/\k≠g) (tab C (s i))),.inl (iW (c:Nat)),.inr (Ptr eQ (λk=>(S k/\u.ownBlock≠some k)/\k≠g) (qc (s i c))),.inr (eQ.at (λk=>(S k/\u.ownBlock≠some k)/\k≠g) (qc (s i c))),.inr (eQ.at (λk=>(S k/\u.ownBlock≠some k)/\k≠g) (qc (-(s i c)))),.inl _,.inl (iW (q:Nat)),.inl (.pointer (some ⟨g,0+q*1,none⟩)),.inr (eV.at (λk=>(S k/\u.ownBlock≠some k)/\k≠g) (tab C λk=>(s q c)⁻¹*s q k)),.inl _,.inl (iW (i:Nat)),.inl (.pointer (some ⟨g,0+i*1,none⟩)),.inr (eV.at (λk=>(S k/\u.ownBlock≠some k)/\k≠g) (tab C (s i))),.inr (eV.at (λk=>(S k/\u.ownBlock≠some k)/\k≠g) (tab C λk => -(s i c)*((s q c)⁻¹*s q k)+s i k))]
    [[],[],[],[],[(87,2),(88,3)],[(89,4)],[],[(90,5),(91,6)],[(92,7)],[(93,8)],[],[],[(95,10),(96,11)],[(97,12)],[],[],[(99,14),(100,15)],[(101,16)],[(94,9),(98,13),(102,17)]] (by kernel_rfl) ⟨mvo O,mvo O,mvo O,mvo O,λw e=>(G6 (i:=i) E4 C2 O O hin).ob,λw e=>hrow▸Ao3 (E:=eV) (i:=i) C2 O (aD _) (fa.ext e) (F2 hin),mvo O,λw e x hx=>C4 (i:=c) C9 A3 O hx O (H2 hlt),λw e x hx=>K1 A3 O hx,λw e x hx=>by
     have:=AW5 (L:=bd L q) (upa e) hx (hss i c hin hlt).toOk hB (by omega);rw[C3] at this;exact (A4 _ AZ2 O this).oa,mvo O,mvo O,λw e=>(G6 (i:=q) E4 C2 O O hqlt).ob,λw e=>hrq▸Ao3 (E:=eV) (i:=q) C2 O (aD _) (fa.ext e) (F2 hqlt),mvo O,mvo O,λw e=>(G6 (i:=i) E4 C2 O O hin).ob,λw e=>hrow▸Ao3 (E:=eV) (i:=i) C2 O (aD _) (fa.ext e) (F2 hin),λw e x hx y hy z hz=>by
     have:=AG9 (L:=bd L q+bd L q) (upa e) hx hy hz (AJ7 ((hss i c hin hlt).neg.mono (by omega))) hur ((hkr i hin).mono (by omega)) (by omega) (by omega) (by rw[A2];omega) (by rw[A2];omega);rw[A2,A2,fV,C3,F5 (g:=λk => -(s i c)*((s q c)⁻¹*s q k)+s i k) (λk hk=>by rw[L4,L4,if_pos hk,if_pos hk])] at this;exact (A4 _ AH3 O this).oa,trivial⟩ ?_
   intro Wb eb z5 _ z7 _ z8 _ z9 _ z13 _ z17 _ z18 hz18;refine .ixB (i:=i) E4 C2 O O O hin (.storeP (E:=eV) (i:=i) (by decide) C2 O O (fa.ext eb) O (by rw[A8];exact hin) (aD _) hz18 λWc fc uc=>.nil ?_);obtain⟨csb,hbb⟩:=(fa.ext eb).blk;rw[R5 hin] at fc;refine .region (.mv O O (.add O O O (.an O O ?_)));rw[wI (by omega)];refine⟨rfl,i+1,lkA rfl,⟨uc.below (hWa.trans eb) hgB,by have:=uc.size;have:=eb.size;omega,hin,(hoa.ext eb).upd uc hbb (by decide) (λh=>h),?_⟩,by show N-(i+1)<N-i;omega⟩;rw[AK3];simp only[hiq,if_false];exact fc
  rintro _ Wx ⟨hWx,hox,fx⟩;refine .sr (.mv O O (.mv O O (.bsl [(0,iW (c:Nat))] O O S7 λWy by_ ny=>?_)));obtain⟨ey,ky,hby,hsy⟩:=ny;have hlen:(A7 p).length<=1000000000:=by simp;omega
  have hint:(B8 .i64).R (λk=>False/\u.ownBlock≠some k) Wy (iW (c:Nat)) (c:Int):=⟨rfl,gR (by decide:IntKind.min .i64<=0) (by omega),gR (by omega:(c:Int)<=1000) (by decide)⟩;refine .gv O O (V8 (E:=B8 .i64) (base:=w.heap.size) (n:=(c:Int)) (e:=.int .i64 (c:Nat)) (by decide) C5 P6 O O O (hox.ext ey) ky hint hlen (by decide) (by have:=ey.size;have:=hWx.size;omega)) ?_;rintro vq Wz ⟨hoz,hgz,hwz⟩;refine .an O O ?_;refine .region (.mv O O (.add O O O (.an O O ?_)));rw[wI (by omega)];refine .region (.mv O O (.add O O O (.an O O ?_)));rw[wI (by omega)];have hlq:(p++[c]).length=q+1:=by simp[hq]
  refine⟨rfl,(c+1,vq),?_,⟨(hox.ext ey).below hgz (hWx.trans ey) (by have:=ey.size;have:=hWx.size;omega),hlt,?_,?_⟩,by show C-(c+1)<C-c;omega⟩
  ·show ∀ t v,YtpgkacdihhjknaaGreat.look [(4,Value.int .i64 (C:Nat)),(5,.slice (some ⟨g,0,none⟩) N cap),(6,vq),(7,iW ((elim N (rm m) (c+1)).2.length:Nat)),(8,iW ((c+1:Nat):Int))] t=some v->_;rw[hst];simp only[hlq];exact lkA rfl
  ·show B4 (B8 .i64) 3 w.heap.size (λ_=>False) Wz vq (A7 (elim N (rm m) (c+1)).2);rw[hst];show B4 (B8 .i64) 3 w.heap.size (λ_=>False) Wz vq (A7 (p++[c]));rw[show A7 (p++[c])=A7 p++[(c:Int)] by simp];exact hoz
  ·show FP eV 26 (λk=>S k/\vq.ownBlock≠some k) Wz g (C6 N C (elim N (rm m) (c+1)).1);rw[hst];exact (fx.ext ey).grow hgz hwz hne
 rintro u W ⟨hW,ho,fp⟩;have hpl:(C7 m).length<=N:=by have:=(T1 m).len;rwa [hN] at this
 have hMW:eM.R S W (.slice (some ⟨g,0,none⟩) N cap) (C6 N C (I7 m)):=by have:=fp.toR (c:=cap) (hsz:=by decide) (up g hgB) (by rw[A8];exact hcap) (by rw[A8];omega);rwa [A8] at this
 refine .sr (.mv O O (.mv O O (.cut 0 (C7 m).length E4 C2 O O hMW O ⟨_,rfl⟩ (aC _) (by rw[A8];exact hpl) λv3 h3=>.mv O O (.asg O O (.an O O (.ret ?_))))));rw[cV,BJ4 hpl] at h3;refine .plain [_,_] results222 ⟨rfl,rfl,trivial⟩ ⟨hW,_,_,rfl,?_,ho.toR (λk hk=>up k hk) (λ_ h=>h.elim)⟩;unfold AJ6;rw[hCc];exact h3
theorem red_rz{m:List (List QV)}{n:Nat}(ok:eOk L n C0 m){i:Nat}(hi:i<(C7 m).length)(hk:k<A1 m):Rsz (I7 m i k) (bd L n):=red_rsz ok.k ok.l1 ok.mn i k (by have:=(T1 m).len;omega) hk
theorem BR3:Ent prog 225:=en func225
theorem BN5{S:Nat->Prop}{m:List (List QV)}{n:Nat}(up:Up S w)(hm:eM.R S w vm m)(ok:eOk L n C0 m) :
  CR prog 225 #[vm] w (eM.at S (Ad2 m)):=by
 have hnr:=ok.rows;have hc:=ok.cols;have hc1:=ok.c1;have hbd:=ok.bd;have he:=T1 m;have hpl:=he.len;refine enter func225 O ntmps225 O (.sr (.an O O (.sr (.mv O O (.call _ O AZ0 O (AW3 up hm ok) λv1 w1 e1 h1=>?_)))));obtain⟨vr,vp,rfl,hr,hp⟩:=h1;refine .mv O O (.ext O O O (.ext O O O (.asg O O (.an O O (.sr (.mv O O ?_))))));refine .call _ O AI5 O (AH8 (hm.ext e1)) λv2 w2 e2 h2=>.an O O (.sr (.an O O ?_));subst h2;have x2:=e1.trans e2;have hr2:eM.R (λk=>S k/\k<w2.heap.size) w2 vr (AJ6 m):=ER.lt eM (ER.ext eM hr e2);have hp2:eI.R (λk=>S k/\k<w2.heap.size) w2 vp (A7 (C7 m)):=ER.lt eI (ER.ext eI hp e2);have hrW:∀ {W:World},Ext w2 W->eM.R (λk=>S k/\k<w2.heap.size) W vr (AJ6 m):=λe=>ER.ext eM hr2 e;have hpW:∀ {W:World},Ext w2 W->eI.R (λk=>S k/\k<w2.heap.size) W vp (A7 (C7 m)):=λe=>ER.ext eI hp2 e;have hrl:(AJ6 m).length=(C7 m).length:=A8 ..;have hs2:=x2.size;have up2:=up.ext x2.size;generalize hG:(λk=>tab (A1 m) (nv (I7 m) (C7 m) k))=G;refine .mid (α:=Value) (λo=>[(6,o)]) (λo W=>Ext w2 W/\B4 eV 26 w2.heap.size S W o ((D7 (C7 m) (A1 m)).map G)) ?_ ?_
 ·refine .sr (.an O O ?_);refine .block (.loop (α:=Nat×Value) (λy=>[(3,vr),(4,vp),(5,iW (A1 m:Nat)),(6,y.2),(7,iW (y.1:Nat))]) (λy W=>Ext w2 W/\y.1<=A1 m/\B4 eV 26 w2.heap.size S W y.2 ((D7 (C7 m) y.1).map G)) (λy=>A1 m-y.1) (0,.slice none 0 0) ?_ ?_ ?_)
  ·exact lkA rfl
  ·exact⟨Ext.refl _,aC _,B4.nil⟩
  rintro⟨k,o⟩ W ⟨hW,hk,ho⟩;replace hW:Ext w2 W:=hW;replace hk:k<=A1 m:=hk;replace ho:B4 eV 26 w2.heap.size S W o ((D7 (C7 m) k).map G):=ho;have hsW:=hW.size;refine .seq (.sr (.mv O O (.mv O O ?_)));rcases aB k (A1 m) with hlt | hge;rotate_left
  ·refine .lssF O O O (by omega) (.nil (.condF O (.exit ?_)));have:k=A1 m:=by omega
   subst this;exact⟨rfl,o,lkA rfl,hW,ho⟩
  refine .lssT O O O (by omega) (.nil (.condT O (.skip (.seq (.block (.seq (.sr (.mv O O (.mv O O ?_)))))))));refine .call _ O BE5 O (Az5 (hpW hW)) λv3 W3 e3 h3=>.nil ?_;subst h3;have hW3:=hW.trans e3;by_cases hkp:k∈C7 m
  ·rw[decide_eq_true hkp];refine .condT O (.exit (.region (.mv O O (.add O O O (.an O O ?_)))));rw[wI (by omega)];refine⟨rfl,(k+1,o),lkA rfl,⟨hW3,hlt,?_⟩,by show A1 m-(k+1)<A1 m-k;omega⟩;show B4 eV 26 w2.heap.size S W3 o ((D7 (C7 m) (k+1)).map G);rw[M4,if_pos hkp,bB];exact ho.ext e3
  rw[decide_eq_false hkp];refine .condF O (.skip (.sr (.mv O O (.mv O O ?_))));have ho3:=ho.ext e3;have upU:Up (λk'=>S k'/\o.ownBlock≠some k') W3:=λk' hk'=>⟨up2 k' (by have:=hW3.size;omega),λh=>by have:=ho3.lt' k' h;omega⟩;refine .call _ O Y5 O (AS2 (k:=(k:Nat)) upU (by omega)) λvx W4 e4 h4=>.an O O ?_;obtain⟨g,cap,rfl,hcap,hcap2,hgB,fp⟩:=h4.fp (by rw[A2];omega);rw[A2] at hcap ⊢;have hW4:=hW3.trans e4;have ho4:=ho3.ext e4;have hu0:tab (A1 m) (Z0 (k:Nat))=tab (A1 m) (BA3 (I7 m) (C7 m) k 0):=F5 λc _=>by
   unfold Z0 BA3;show _=(if c=k then 1 else 0)-0;by_cases e:c=k
   ·rw[if_pos (by omega),if_pos e];grind
   ·rw[if_neg (by omega),if_neg e];grind
  rw[hu0] at fp;refine .mid (α:=Unit) (λ_=>[(3,vr),(4,vp),(5,iW (A1 m:Nat)),(6,o),(7,iW (k:Nat)),(8,.slice (some ⟨g,0,none⟩) (A1 m) cap)]) (λ_ W'=>Ext w2 W'/\Ext W3 W'/\FP eQ 39 (λk'=>S k'/\o.ownBlock≠some k') W' g (tab (A1 m) (nv (I7 m) (C7 m) k))) ?_ ?_
  ·refine .sr (.an O O ?_);refine .block (.loop (α:=Nat) (λi=>[(3,vr),(4,vp),(5,iW (A1 m:Nat)),(6,o),(7,iW (k:Nat)),(8,.slice (some ⟨g,0,none⟩) (A1 m) cap),(9,iW (i:Nat))]) (λi W'=>Ext w2 W'/\Ext W3 W'/\i<=(C7 m).length/\FP eQ 39 (λk'=>S k'/\o.ownBlock≠some k') W' g (tab (A1 m) (BA3 (I7 m) (C7 m) k i))) (λi=>(C7 m).length-i) 0 ?_ ?_ ?_)
   ·exact lkA rfl
   ·exact⟨hW4,e4,aC _,fp⟩
   rintro i W5 ⟨hW5,hX5,hi,fp⟩;refine .seq (.sr (.mv O O (.mv O O (.lenR E4 O O (hrW hW5) ?_))));rw[hrl];rcases aB i (C7 m).length with hli | hgi;rotate_left
   ·refine .lssF O O O (by omega) (.nil (.condF O (.exit ?_)));have:i=(C7 m).length:=by omega
    subst this;exact⟨rfl,(),lkA rfl,hW5,hX5,fp⟩
   have hg:(A7 (C7 m))[i]?=some (((C7 m).getD i 0:Nat):Int):=by rw[aI,B0 (z:=0) hli];rfl
   have hrg:(AJ6 m)[i]?=some (tab (A1 m) (I7 m i)):=F2 hli;have hpi:=he.lt i hli;have hT:∀ k',(S k'/\k'<w2.heap.size)->(S k'/\o.ownBlock≠some k')/\k'≠g:=λk' h=>⟨⟨h.1,λe=>by obtain⟨es,ho1,_⟩:=id ho4;have:=(ho1.lt k' e).1;have:=h.2;omega⟩,by have:=h.2;have:=hW3.size;omega⟩
   have upX:∀ {W':World},Ext W5 W'->Up (λk'=>(S k'/\o.ownBlock≠some k')/\k'≠g) W':=λe k' hk'=>⟨⟨up2 k' (by have:=hW5.size;have:=e.size;omega),λh=>by have:=ho3.lt' k' h;have:=hX5.size;have:=e.size;omega⟩,by have:=e.size;have:=fp.lt;omega⟩;refine .lssT O O O (by omega) (.nil (.condT O (.skip (.seq (.block ?_)))));refine .par follows 13 [.inl _,.inl _,.inl (iW (i:Nat)),.inr (Ptr (B8 .i64) (λk=>S k/\k<w2.heap.size) (((C7 m).getD i 0:Nat):Int)),.inl (iW (((C7 m).getD i 0:Nat):Int)),.inl _,.inl (iW (i:Nat)),.inr (Ptr eV (λk=>S k/\k<w2.heap.size) (tab (A1 m) (I7 m i))),.inr (eV.at (λk=>S k/\k<w2.heap.size) (tab (A1 m) (I7 m i))),.inl (iW (k:Nat)),.inr (Ptr eQ (λk=>S k/\k<w2.heap.size) (qc (I7 m i k))),.inr (eQ.at (λk=>S k/\k<w2.heap.size) (qc (I7 m i k))),.inr (eQ.at (λk'=>(S k'/\o.ownBlock≠some k')/\k'≠g) (qc (-(I7 m i k))))] [[],[],[],[(35,1),(36,2)],[(37,3)],[],[],[(39,5),(40,6)],[(41,7)],[],[(42,8),(43,9)],[(44,10)],[(45,11)]] (by kernel_rfl) ⟨mvo O,mvo O,mvo O,λw e=>C4 (i:=i) C5 B5 O (hpW (hW5.trans e)) O hg,λw e x hx=>F7 B5 O hx,mvo O,mvo O,λw e=>C4 (i:=i) E4 C2 O (hrW (hW5.trans e)) O hrg,λw e x hx=>K1 C2 O hx,mvo O,λw e x hx=>C4 (i:=k) C9 A3 O hx O (H2 hlt),λw e x hx=>K1 A3 O hx,λw e x hx=>by have:=AW5 (L:=bd L n) (upX e) (eQ.mono (λk' _ h=>hT k' h) hx) (red_rz ok hli hlt).toOk (BQ6 ok.l1 n) (by omega);rw[C3] at this;exact (A4 _ AZ2 O this).oa,trivial⟩ ?_
   intro W6 e6 y3 _ y7 _ y8 _ y10 _ y11 _ y12 hy12;refine .ixB (i:=(C7 m).getD i 0) C9 A3 O O O hpi (.storeP (E:=eQ) (i:=(C7 m).getD i 0) (by decide) A3 O O (fp.ext e6) O (by rw[A2];exact hpi) (aD _) hy12 λW7 f7 u7=>.nil ?_);have hset:(tab (A1 m) (BA3 (I7 m) (C7 m) k i)).set ((C7 m).getD i 0) (qc (-(I7 m i k)))=tab (A1 m) (BA3 (I7 m) (C7 m) k (i+1)):=by rw[AB1,BK4 he hli hkp (H6 hli)]
   rw[hset] at f7;refine .region (.mv O O (.add O O O (.an O O ?_)));rw[wI (by omega)];exact⟨rfl,i+1,lkA rfl,⟨u7.below (hW5.trans e6) (by have:=hW3.size;omega),u7.below (hX5.trans e6) hgB,hli,f7⟩,by show (C7 m).length-(i+1)<(C7 m).length-i;omega⟩
  rintro _ W5 ⟨hW5,hX5,fp⟩;have ho5:=ho3.lt_ hX5;have hrow:eV.R (λk'=>S k'/\o.ownBlock≠some k') W5 (.slice (some ⟨g,0,none⟩) (A1 m) cap) (tab (A1 m) (nv (I7 m) (C7 m) k)):=by have:=fp.toR (c:=cap) (hsz:=by decide) (upU g hgB) (by rw[A2];exact hcap) (by rw[A2];omega);rwa [A2] at this
  refine .region (.mv O O (.mv O O (.bsl _ O O Ah1 λWy by_ ny=>?_)));obtain⟨ey,ky,hby,hsy⟩:=ny;have hfl:(D7 (C7 m) k).length<=k:=by unfold D7;have:=dO (λk => !(decide (k∈C7 m))) (List.range k);simpa using this
  refine .gv O O (L5 (E:=eV) (base:=w2.heap.size) (n:=tab (A1 m) (nv (I7 m) (C7 m) k)) (e:=.slice (some ⟨g,0,none⟩) (A1 m) cap) (by decide) E4 AD5 O O O (ho5.ext ey) ky (ER.ext eV hrow ey) (by simp;omega) (by decide) (by have:=ey.size;have:=hW5.size;omega)) ?_;rintro v8 W8 ⟨ho8,hg8⟩;refine .an O O (.region (.mv O O (.add O O O (.an O O ?_))));rw[wI (by omega)];refine⟨rfl,(k+1,v8),lkA rfl,⟨(ho5.ext ey).below hg8 (hW5.trans ey) (by have:=ey.size;have:=hW5.size;omega),hlt,?_⟩,by show A1 m-(k+1)<A1 m-k;omega⟩;show B4 eV 26 w2.heap.size S W8 v8 ((D7 (C7 m) (k+1)).map G);rw[M4,if_neg hkp,aM,<-hG];rw[<-hG] at ho8;exact ho8
 rintro o W ⟨hW,ho⟩;refine .sr (.mv O O (.an O O (.ret (.plain [_] results225 ⟨rfl,trivial⟩ ⟨x2.trans hW,?_⟩))));unfold Ad2 AQ4;rw[hG];exact ho.toR (λk hk=>up2 k hk) (λ_ h=>h)
def AU4 (m:List (List QV)) (b:List QV) (i:Nat):List QV:=tab (A1 m) (rm m i)++[b.getD i q0]
def AJ1 (m:List (List QV)) (b:List QV):List (List QV):=(List.range (max m.length b.length)).map (AU4 m b)
section
variable {m:List (List QV)} {b:List QV}
theorem AV4:(AJ1 m b).length=max m.length b.length:=by simp[AJ1]
theorem AH5 (i:Nat):(AU4 m b i).length=A1 m+1:=by simp[AU4,A2]
theorem BI7 (i:Nat):(AJ1 m b).getD i []=if i<max m.length b.length then AU4 m b i else []:=by
 unfold AJ1;rw[aF,aI];by_cases h:i<max m.length b.length
 ·rw[if_pos h,bA h];rfl
 ·rw[if_neg h,aH (by simpa using h)];rfl
theorem Bt3 (i k:Nat):rv (AU4 m b i) k=if k<A1 m+1 then Am1 m b i k else 0:=by
 by_cases h1:k<A1 m
 ·rw[if_pos (by omega),BD7 h1];have:rv (tab (A1 m) (rm m i)) k=rm m i k:=by rw[L4,if_pos h1]
  rw[<-this];unfold rv AU4;rw[aF,bQ (by rw[A2];exact h1),<-aF]
 ·by_cases h2:k=A1 m
  ·subst h2;rw[if_pos (by omega),Ap4];unfold rv AU4;rw[aF,bT (by rw[A2];omega),A2];simp
  ·rw[if_neg (by omega),Af5 (by rw[AH5];omega)]
theorem rm_wide (i k:Nat):rm (AJ1 m b) i k=rm (H7 m b) i k:=by
 rw[Bt7];unfold rm;rw[BI7];by_cases h:i<max m.length b.length
 ·rw[if_pos h,Bt3];simp[h]
 ·rw[if_neg h,AS0,if_neg (by omega)]
theorem BI8:A1 (AJ1 m b)=A1 (H7 m b):=by
 rw[Am0];by_cases h:max m.length b.length=0
 ·rw[if_pos h];have:AJ1 m b=[]:=List.length_eq_zero_iff.1 (by rw[AV4];exact h);rw[this];rfl
 ·rw[if_neg h];refine Nat.le_antisymm (Ao9 λr hr=>?_) ?_
  ·obtain⟨i,_,rfl⟩:=List.mem_map.1 hr;rw[AH5];exact aA _
  ·have:=Be5 (AJ1 m b) 0;rwa [BI7,if_pos (by omega),AH5] at this
theorem Bu1:I7 (AJ1 m b)=I7 (H7 m b)/\C7 (AJ1 m b)=C7 (H7 m b):=by
 have e:rm (AJ1 m b)=rm (H7 m b):=by funext i k;exact rm_wide i k
 unfold I7 C7;rw[AV4,BI8,AF0,e];exact⟨rfl,rfl⟩
theorem wide_mk {L:Nat} (hm:mk_ L m) (hb:vk L b) (hL:1<=L):mk_ L (AJ1 m b):=by
 intro r hr q hq;obtain⟨i,_,rfl⟩:=List.mem_map.1 hr;rcases List.mem_append.1 hq with h | h
 ·exact T7 (λk _=>hm.rsz hL i k) q h
 ·rw[List.mem_singleton.1 h];exact hb.get hL i
end
theorem BR2:Ent prog 223:=en func223
theorem BN4{S:Nat->Prop}{m:List (List QV)}{b:List QV}(up:Up S w)(hm:eM.R S w vm m)(hb:eV.R S w vb b)(hkm:mk_ L m)(hL:1<=L)(hL2:L<=1000000000)(hr:m.length<=1000)(hl:b.length<=1000)(hc:A1 m<=1000) :
  CR prog 223 #[vm,vb] w (eM.at S (AJ1 m b)):=by
 refine enter func223 O ntmps223 O (.sr (.an O O (.sr (.mv O O (.call _ O AI5 O (AH8 hm) λv1 w1 e1 h1=>.an O O (.sr (.an O O ?_)))))));subst h1;have up1:=up.ext e1.size;have hm1:∀ {W:World},Ext w1 W->eM.R (λk=>S k/\k<w1.heap.size) W vm m:=λe=>ER.ext eM (ER.lt eM (ER.ext eM hm e1)) e;have hb1:∀ {W:World},Ext w1 W->eV.R (λk=>S k/\k<w1.heap.size) W vb b:=λe=>ER.ext eV (ER.lt eV (ER.ext eV hb e1)) e;refine .seq (.sr (.an O O (.block (.loop (α:=Nat×Value) (λy=>[(0,vm),(1,vb),(5,iW (A1 m:Nat)),(6,y.2),(7,iW (y.1:Nat))]) (λy W=>Ext w1 W/\y.1<=max m.length b.length/\B4 eV 26 w1.heap.size S W y.2 ((List.range y.1).map (AU4 m b))) (λy=>max m.length b.length-y.1) (0,.slice none 0 0) ?_ ?_ ?_))))
 ·exact lkA rfl
 ·exact⟨Ext.refl _,aC _,B4.nil⟩
 rintro⟨i,o⟩ W ⟨hW,hi,ho⟩;replace hW:Ext w1 W:=hW;replace hi:i<=max m.length b.length:=hi;replace ho:B4 eV 26 w1.heap.size S W o ((List.range i).map (AU4 m b)):=ho;have hsW:=hW.size;refine .mid (α:=Unit) (λ_=>[(0,vm),(1,vb),(5,iW (A1 m:Nat)),(6,o),(7,iW (i:Nat))]) (λ_ W'=>W'=W/\i<max m.length b.length) ?_ ?_
 ·refine .sr (.mv O O (.mv O O (.lenR E4 O O (hm1 hW) ?_)));rcases aB i m.length with h1 | h1
  ·refine .lssT O O O (by omega) (.mv O O (.gs O O O O O (.gs O O O O O (.gs O O O O O (.gs O O O O O (.pick O O O (.nil (.condT O (.skip ?_)))))))));exact⟨rfl,(),lkA rfl,rfl,by omega⟩
  ·refine .lssF O O O (by omega) (.mv O O (.gr O O O O (.mv O O (.gr O O O O (.mv O O (.gr O O O O (.lenR C9 O O (hb1 hW) (.gr O O O O ?_))))))));rcases aB i b.length with h2 | h2
   ·refine .lssT O O O (by omega) (.pick O O O (.nil (.condT O (.skip ?_))));exact⟨rfl,(),lkA rfl,rfl,by omega⟩
   ·refine .lssF O O O (by omega) (.pick O O O (.nil (.condF O (.exit (.sr (.mv O O (.an O O (.ret ?_))))))));have:i=max m.length b.length:=by omega
    subst this;exact .p1 _ results223 O ⟨e1.trans hW,ho.toR (λk hk=>up1 k hk) (λ_ h=>h)⟩
 rintro _ W' ⟨rfl,hlt⟩;obtain⟨es,ho1,ho2⟩:=id ho;have hTu:∀ k',S k'/\k'<w1.heap.size->S k'/\o.ownBlock≠some k':=λk' hk'=>⟨hk'.1,λh=>by have:=(ho1.lt k' h).1;have:=hk'.2;omega⟩;have upT':Up (λk'=>S k'/\o.ownBlock≠some k') W':=λk' hk'=>⟨up1 k' (by omega),λh=>by have:=(ho1.lt k' h).2;omega⟩;refine .seq (.block (.sr (.an O O (.mid (α:=Value) (λx=>[(0,vm),(1,vb),(5,iW (A1 m:Nat)),(6,o),(7,iW (i:Nat)),(8,x)]) (λx W2=>Ext W' W2/\B4 eQ 39 W'.heap.size (λk'=>S k'/\o.ownBlock≠some k') W2 x (tab (A1 m) (rm m i))) ?_ ?_))))
 ·refine .sr (.an O O ?_);generalize hg:(λj=>qc (rm m i j))=g;refine .block (.loop (α:=Nat×Value) (λx=>[(0,vm),(1,vb),(5,iW (A1 m:Nat)),(6,o),(7,iW (i:Nat)),(8,x.2),(9,iW (x.1:Nat))]) (λx W2=>Ext W' W2/\x.1<=A1 m/\B4 eQ 39 W'.heap.size (λk'=>S k'/\o.ownBlock≠some k') W2 x.2 ((List.range x.1).map g)) (λx=>A1 m-x.1) (0,.slice none 0 0) ?_ ?_ ?_)
  ·exact lkA rfl
  ·exact⟨Ext.refl _,aC _,B4.nil⟩
  rintro⟨j,x⟩ W2 ⟨hW2,hj,hx⟩;replace hW2:Ext W' W2:=hW2;replace hj:j<=A1 m:=hj;replace hx:B4 eQ 39 W'.heap.size (λk'=>S k'/\o.ownBlock≠some k') W2 x ((List.range j).map g):=hx;have hsz2:=hW2.size;refine .seq (.sr (.mv O O (.mv O O ?_)));by_cases hjl:j<A1 m;rotate_left
  ·refine .lssF O O O (by omega) (.nil (.condF O (.exit ?_)));have:j=A1 m:=by omega
   subst this;refine⟨rfl,x,lkA rfl,hW2,?_⟩;unfold tab;rw[hg];exact hx
  obtain⟨es',hx1,hx2⟩:=id hx;have upX:Up (λk'=>(S k'/\o.ownBlock≠some k')/\x.ownBlock≠some k') W2:=λk' hk'=>⟨upT' k' (by omega),λh=>by have:=(hx1.lt k' h).2;omega⟩;refine .lssT O O O (by omega) (.nil (.condT O (.skip (.seq (.block (.region (.mv O O (.mv O O (.mv O O (.mv O O ?_))))))))));refine .call _ O Ah7 O (Af8 (i:=(i:Nat)) (k:=(j:Nat)) upX (eM.mono (λk' _ h=>⟨hTu k' h,λe=>by have:=(hx1.lt k' e).1;have:=h.2;omega⟩) (hm1 (hW.trans hW2))) hkm hL hL2) λv2 W3 e2 h2=>?_;rw[Aa6] at h2;have hr':=h2;obtain⟨s2,t2,rfl,_,_⟩:=hr';refine .bsl _ O O AD7 λW4 b4 n4=>?_;obtain⟨e4,k4,hb4,hs4⟩:=n4;have e24:=e2.trans e4;have hW4:=hW2.trans e24;refine .gv O O (L5 (E:=eQ) (base:=W'.heap.size) (by decide) C9 J4 O O O (hx.ext e24) k4 (h2.ext e4) (by simp;omega) (by decide) hW4.size) ?_;rintro v5 W5 ⟨ho5,hg5⟩;refine .an O O (.region (.mv O O (.add O O O (.an O O ?_))));rw[wI (by omega)];refine⟨rfl,(j+1,v5),lkA rfl,⟨(hx.ext e24).below hg5 hW4 hW4.size,hjl,?_⟩,by show A1 m-(j+1)<A1 m-j;omega⟩;show B4 eQ 39 W'.heap.size (λk'=>S k'/\o.ownBlock≠some k') W5 v5 ((List.range (j+1)).map g);rw[aP,aM,<-hg];rw[<-hg] at ho5;exact ho5
 rintro x W2 ⟨hW2,hx⟩;obtain⟨es',hx1,hx2⟩:=id hx;refine .region (.mv O O (.mv O O (.mv O O (.mv O O ?_))));refine .call _ O P2 O (O6 (i:=(i:Nat)) (S:=λk'=>(S k'/\o.ownBlock≠some k')/\x.ownBlock≠some k') (eV.mono (λk' _ h=>⟨hTu k' h,λe=>by have:=(hx1.lt k' e).1;have:=h.2;omega⟩) (hb1 (hW.trans hW2)))) λv2 W3 e2 h2=>?_;rw[X9] at h2;have hr':=h2;obtain⟨s2,t2,rfl,_,_⟩:=hr';refine .bsl _ O O AD7 λW4 b4 n4=>?_;obtain⟨e4,k4,hb4,hs4⟩:=n4;have e24:=e2.trans e4;have hW4:=hW2.trans e24;refine .gv O O (L5 (E:=eQ) (base:=W'.heap.size) (n:=b.getD i q0) (by decide) C9 J4 O O O (hx.ext e24) k4 (h2.ext e4) (by rw[A2];omega) (by decide) hW4.size) ?_;rintro v5 W5 ⟨ho5,hg5⟩;have hW5:Ext W' W5:=(hx.ext e24).below hg5 hW4 hW4.size;have ho5r:=ho.lt_ hW5;have hrow:eV.R (λk'=>S k'/\o.ownBlock≠some k') W5 v5 (AU4 m b i):=ho5.toR (λk hk=>upT' k hk) (λ_ h=>h);obtain⟨ar,cr,hvr,_⟩:=RL.len hrow;rw[AH5] at hvr;subst hvr;refine .bsl _ O O Ah1 λW6 b6 n6=>?_;obtain⟨e6,k6,hb6,hs6⟩:=n6;have hW6:=hW.trans (hW5.trans e6);refine .gv O O (L5 (E:=eV) (base:=w1.heap.size) (n:=AU4 m b i) (e:=.slice ar (A1 m+1) cr) (by decide) E4 AD5 O O O (ho5r.ext e6) k6 (ER.ext eV hrow e6) (by simp;omega) (by decide) hW6.size) ?_;rintro v7 W7 ⟨ho7,hg7⟩;refine .an O O (.region (.mv O O (.add O O O (.an O O ?_))));rw[wI (by omega)];refine⟨rfl,(i+1,v7),lkA rfl,⟨(ho5r.ext e6).below hg7 hW6 hW6.size,hlt,?_⟩,by show max m.length b.length-(i+1)<max m.length b.length-i;omega⟩;show B4 eV 26 w1.heap.size S W7 v7 ((List.range (i+1)).map (AU4 m b));rw[aP,aM];exact ho7
theorem BI2:Ent prog 179:=en func179
theorem BG3{S:Nat->Prop}{m:List (List QV)}{b:List QV}{n:Nat}(up:Up S w)(hm:eM.R S w vm m)(hb:eV.R S w vb b)(hkm:mk_ L m)(hkb:vk L b)(hL:1<=L)(hr:m.length<=100)(hl:b.length<=100)(hc:A1 m<=90)(hmn:min (max m.length b.length) (A1 m+1)<=n)(hbd:bd L n<=40000000) :
  CR prog 179 #[vm,vb] w (Bl0 (eV.at S (if L9 m b then AN9 m b else [])) (eM.at S (if L9 m b then Ad2 m else [])) (Is (iW (if L9 m b then 0 else 8)))):=by
 have hL2:L<=40000000:=aG (Z3 L (aC n)) hbd;have hwc:=BI8 (m:=m) (b:=b);have hwl:=AV4 (m:=m) (b:=b);have hac:=AY7 m b;obtain⟨eF,eP⟩:=Bu1 (m:=m) (b:=b);have okw:eOk L n 100 (AJ1 m b):=⟨wide_mk hkm hkb hL,hL,hbd,by rw[hwl,hwc];omega,by omega,by omega,aA _⟩;have okm:eOk L n 100 m:=⟨hkm,hL,hbd,by omega,hr,by omega,aA _⟩;have he:=T1 (H7 m b);refine enter func179 O ntmps179 O ?_;refine .sr (.asg O O (.asg O O (.an O O (.sr (.mv O O ?_)))));refine .call _ O AI5 O (AH8 hm) λv1 w1 e1 h1=>.an O O (.sr (.mv O O (.mv O O ?_)));subst h1;refine .call _ O BR2 O (BN4 (up.ext e1.size) (hm.ext e1) (hb.ext e1) hkm hL (by omega) (by omega) (by omega) (by omega)) λv2 w2 e2 h2=>?_;have x2:=e1.trans e2;refine .call _ O AZ0 O (AW3 (up.ext x2.size) h2 okw) λv3 w3 e3 h3=>?_;obtain⟨vr,vp,rfl,hR,hP⟩:=h3;have x3:=x2.trans e3;have hRm:AJ6 (AJ1 m b)=C6 (C7 (H7 m b)).length (A1 (H7 m b)) (I7 (H7 m b)):=by unfold AJ6;rw[eF,eP,hwc]
 rw[hRm] at hR;rw[eP] at hP;refine .mv O O (.ext O O O (.ext O O O (.asg O O (.an O O (.seq (.sr (.mv O O (.mv O O ?_))))))));refine .call _ O BE5 O (Az5 hP) λv4 w4 e4 h4=>.nil ?_;subst h4;have x4:=x3.trans e4;by_cases hs:L9 m b;rotate_left
 ·rw[decide_eq_true (Classical.not_not.1 hs)];refine .condT O (.sr (.asg O O (.asg O O (.an O O (.ret ?_)))));refine .plain [_,_,_] results179 ⟨rfl,rfl,rfl,trivial⟩ ⟨x4,_,_,_,rfl,?_,?_,?_⟩
  ·rw[if_neg hs];exact RL.nil
  ·rw[if_neg hs];exact RL.nil
  ·show _=_;rw[if_neg hs]
 rw[decide_eq_false hs];have hplt:∀ j,j<(C7 (H7 m b)).length->(C7 (H7 m b)).getD j 0<A1 m:=λj hj=>by have h1:=he.lt j hj;have h2:(C7 (H7 m b)).getD j 0≠A1 m:=λe=>hs (e▸H6 hj);omega
 refine .condF O (.skip (.sr (.mv O O ?_)));refine .call _ O Y5 O (AS2 (k := -1) (up.ext x4.size) (by omega)) λvx w5 e5 h5=>.an O O ?_;have x5:=x4.trans e5;have hu0:tab (A1 m) (Z0 (-1))=tab (A1 m) (AH0 (I7 (H7 m b)) (C7 (H7 m b)) (A1 m) 0):=F5 λc _=>by unfold Z0 AH0;rw[if_neg (by omega)];rfl
 rw[hu0] at h5;have hR4:eM.R (λk=>S k/\k<w4.heap.size) w5 vr _:=ER.ext eM (ER.lt eM (ER.ext eM hR e4)) e5;have hP4:eI.R (λk=>S k/\k<w4.heap.size) w5 vp _:=ER.ext eI (ER.lt eI (ER.ext eI hP e4)) e5;refine .mid (α:=Value) (λx=>[(0,vm),(10,x)]) (λx W=>Ext w4 W/\eV.R S W x (AN9 m b)) ?_ ?_
 ·rcases aU (A1 m) with h0 | hpos
  ·have hp0:(C7 (H7 m b)).length=0:=Nat.eq_zero_of_not_pos λh=>by have:=hplt 0 h;omega
   have hx0:AN9 m b=[]:=List.length_eq_zero_iff.1 (by rw[BU3];exact h0);rw[show tab (A1 m) (AH0 (I7 (H7 m b)) (C7 (H7 m b)) (A1 m) 0)=[] from List.length_eq_zero_iff.1 (by rw[A2];exact h0)] at h5;refine .sr (.an O O ?_);refine .block (.loop (α:=Unit) (λ_=>[(0,vm),(8,vr),(10,vx),(11,iW 0)]) (λ_ W=>W=w5) (λ_=>0) () ?_ ?_ ?_)
   ·exact lkA rfl
   ·rfl
   rintro _ W rfl;refine .seq (.sr (.mv O O (.mv O O (.lenR E4 O O hR4 ?_))));rw[A8,hp0];refine .lssF O O O (by decide) (.nil (.condF O (.exit ?_)));rw[hx0];exact⟨rfl,vx,lkA rfl,e5,h5.toR (λk hk=>up k (by have:=x4.size;omega)) (λ_ h=>h)⟩
  obtain⟨g,cap,rfl,hcap,hcap2,hgB,fp⟩:=h5.fp (by rw[A2];exact hpos);rw[A2] at hcap ⊢;refine .sr (.an O O ?_);refine .block (.loop (α:=Nat) (λi=>[(0,vm),(7,iW (A1 m:Nat)),(8,vr),(9,vp),(10,.slice (some ⟨g,0,none⟩) (A1 m) cap),(11,iW (i:Nat))]) (λi W=>Ext w4 W/\i<=(C7 (H7 m b)).length/\eM.R (λk=>S k/\k<w4.heap.size) W vr (C6 (C7 (H7 m b)).length (A1 (H7 m b)) (I7 (H7 m b)))/\eI.R (λk=>S k/\k<w4.heap.size) W vp (A7 (C7 (H7 m b)))/\FP eQ 39 S W g (tab (A1 m) (AH0 (I7 (H7 m b)) (C7 (H7 m b)) (A1 m) i))) (λi=>(C7 (H7 m b)).length-i) 0 ?_ ?_ ?_)
  ·exact lkA rfl
  ·exact⟨e5,aC _,hR4,hP4,fp⟩
  rintro i W ⟨hW,hi,hRW,hPW,fp⟩;refine .seq (.sr (.mv O O (.mv O O (.lenR E4 O O hRW ?_))));rw[A8];rcases aB i (C7 (H7 m b)).length with hli | hgi;rotate_left
  ·refine .lssF O O O (by have:=he.len;rw[AF0] at this;omega) (.nil (.condF O (.exit ?_)));have:i=(C7 (H7 m b)).length:=by omega
   subst this;refine⟨rfl,_,lkA rfl,hW,?_⟩;have:=fp.toR (c:=cap) (hsz:=by decide) (up g (by have:=x4.size;omega)) (by rw[A2];exact hcap) (by rw[A2];omega);rw[A2] at this;exact this
  have hli2:i<max m.length b.length:=by have:=he.len;rw[AF0] at this;omega
  have hacp:A1 (H7 m b)=A1 m+1:=Ap3 (by omega);have hg:(A7 (C7 (H7 m b)))[i]?=some (((C7 (H7 m b)).getD i 0:Nat):Int):=by rw[aI,B0 (z:=0) hli];rfl
  refine .lssT O O O (by omega) (.nil (.condT O (.skip (.seq (.block ?_)))));refine .par follows 12 [.inl _,.inl _,.inl (iW (i:Nat)),.inr (Ptr (B8 .i64) (λk=>S k/\k<w4.heap.size) (((C7 (H7 m b)).getD i 0:Nat):Int)),.inl (iW (((C7 (H7 m b)).getD i 0:Nat):Int)),.inl _,.inl (iW (i:Nat)),.inr (Ptr eV (λk=>S k/\k<w4.heap.size) (tab (A1 (H7 m b)) (I7 (H7 m b) i))),.inr (eV.at (λk=>S k/\k<w4.heap.size) (tab (A1 (H7 m b)) (I7 (H7 m b) i))),.inl (iW (A1 m:Nat)),.inr (Ptr eQ (λk=>S k/\k<w4.heap.size) (qc (I7 (H7 m b) i (A1 m)))),.inr (eQ.at (λk=>S k/\k<w4.heap.size) (qc (I7 (H7 m b) i (A1 m))))] [[],[],[],[(33,1),(34,2)],[(35,3)],[],[],[(37,5),(38,6)],[(39,7)],[],[(40,8),(41,9)],[(42,10)]] (by kernel_rfl) ⟨mvo O,mvo O,mvo O,λw e=>C4 (i:=i) C5 B5 O (ER.ext eI hPW e) O hg,λw e x hx=>F7 B5 O hx,mvo O,mvo O,λw e=>C4 (i:=i) E4 C2 O (ER.ext eM hRW e) O (F2 hli),λw e x hx=>K1 C2 O hx,mvo O,λw e x hx=>C4 (i:=A1 m) C9 A3 O hx O (H2 (by omega)),λw e x hx=>K1 A3 O hx,trivial⟩ ?_;intro W6 e6 y3 _ y7 _ y8 _ y10 _ y11 hy11;have hg4:w4.heap.size<=g:=hgB;refine .ixB (i:=(C7 (H7 m b)).getD i 0) C9 A3 O O O (hplt i hli) (.storeP (E:=eQ) (i:=(C7 (H7 m b)).getD i 0) (by decide) A3 O O (fp.ext e6) O (by rw[A2];exact hplt i hli) (aD _) (eQ.mono (λk _ h=>⟨h.1,by have:=h.2;omega⟩) hy11) λW7 f7 u7=>.nil ?_);rw[AB1,<-Ar6 he hli] at f7;refine .region (.mv O O (.add O O O (.an O O ?_)));rw[wI (by have:=he.len;rw[AF0] at this;omega)];exact⟨rfl,i+1,lkA rfl,⟨u7.below (hW.trans e6) hg4,hli,ER.upd eM (ER.ext eM hRW e6) u7 (λh=>by have:=h.2;omega),ER.upd eI (ER.ext eI hPW e6) u7 (λh=>by have:=h.2;omega),f7⟩,by show (C7 (H7 m b)).length-(i+1)<(C7 (H7 m b)).length-i;omega⟩
 rintro x W ⟨hW,hx⟩;have xW:=x4.trans hW;refine .sr (.mv O O (.mv O O ?_));refine .call _ O BR3 O (BN5 (up.ext xW.size) (hm.ext xW) okm) λv7 w7 e7 h7=>.asg O O (.asg O O (.an O O (.ret ?_)));refine .plain [_,_,_] results179 ⟨rfl,rfl,rfl,trivial⟩ ⟨xW.trans e7,_,_,_,rfl,?_,?_,?_⟩
 ·rw[if_pos hs];exact ER.ext eV hx e7
 ·rw[if_pos hs];exact h7
 ·show _=_;rw[if_pos hs]
end Go.Proofs.YtpgkacdihhjknaaGreat
