/-
  What the claim leans on.
-/
import Derived.Test.YtggegpiffjbngaaGreatG8
import Derived.Lib.SmallJoins
set_option linter.unusedVariables false
namespace Go.Proofs.YtggegpiffjbngaaGreat
open Go Go.Kx Go.RowKit
set_option maxRecDepth 8000 in
theorem law18_ShiftMatches_c {w:World} {vn vo:Value} {n:NtV} {o:List Int} {a b:Int} (hn:eN.R (fun _=>True) w vn n) (ho:eI.R (fun _=>True) w vo o):CR Tryz.prog 3 #[vn,vo,.int .i64 a,.int .i64 b] w (Is (.bool true)):=by
 obtain ⟨s,rfl,hs,hb⟩:=hn
 have hn:eN.R (fun _=>True) w (.agg #[.int .i64 n.b,s]) n:=⟨s,rfl,hs,hb⟩
 obtain ⟨ao,co,hvo,_⟩:=RL.len ho
 refine enter Tryz.func3 O Tryz.ntmps3 O (.beg (.go O (.box O O fun w1 b3 n1=>?_)))
 obtain ⟨e1,k3,hb3,hs1⟩:=n1
 refine .go O (.ldA ty_N O O k3 O (.go O (.bsl _ O O (by rw [hvo];exact bsl_II1) fun w2 b17 n2=>?_)))
 have hl:eII.R (fun _=>True) w2 (.slice (some ⟨b17,0,none⟩) 1 1) [o]:=BU4 [vo] [o] n2 upT (by rw [hvo]) O (by decide) (Els.snoc Els.nil (ER.ext eI ho e1))
 have x2:=e1.trans n2.1
 refine .call _ O At4 O (Ar2 (hn.ext x2) hl) fun v3 w3 e3 h3=>?_
 obtain ⟨bl,rfl⟩:=h3
 have x3:=x2.trans e3
 clear hl
 cases bl with
 | true =>
  refine .go O (.call _ O E_law18_awake O law18_awake_c fun v4 w4 e4 h4=>?_)
  subst h4
  exact .goE O (.plain [_] Tryz.results3 ⟨rfl,trivial⟩ ⟨x3.trans e4,rfl⟩)
 | false =>
 have k3:=k3.ext (n2.1.trans e3)
 refine .go O (.ldA ty_N O O k3 O (.go O ?_))
 refine .call _ O Ac5 O (Ab7 upT (hn.ext x3) (ho.ext x3)) fun v5 w5 e5 h5=>?_
 obtain ⟨vm,ve,rfl,hm,he⟩:=h5
 replace he:ve=.int .i64 (outE n o):=he
 subst he
 have x5:=x3.trans e5
 have k3:=k3.ext e5
 refine .go O (.ldA ty_N O O k3 O (.go O ?_))
 refine .call _ O BO5 O (BO4 (a:=a) (b:=b) upT (hn.ext x5) (ho.ext x5)) fun v6 w7 e7 h6=>?_
 obtain ⟨vf,ve,rfl,hfl,he⟩:=h6
 replace he:ve=.int .i64 (btE n o a b):=he
 subst he
 have x7:=x5.trans e7
 have k3:=k3.ext e7
 have hm:=ER.ext eM hm e7
 have hn7:=hn.ext x7
 have ho7:=ho.ext x7
 refine .goC O ?_
 refine .lp (α:=Nat) [1,2,3,4,9,10,11,12] O (fun r=>[(13,.int .i64 (r:Nat))]) (fun r W=>Ext w7 W/\r<=2) (fun r=>2-r) 0 (lc1 O) ⟨Ext.refl _,Nat.zero_le _⟩ ?_
 rintro r W ⟨hW,hr⟩
 have zW:=hW.size
 refine .go O ?_
 rcases Nat.lt_or_ge r 2 with hlt | hge
 rotate_left
 ·refine .lssF O O O (by omega) (.go O (.call _ O E_law18_awake O law18_awake_c fun v8 w8 e8 h8=>?_))
  subst h8
  exact .goE O (.plain [_] Tryz.results3 ⟨rfl,trivial⟩ ⟨(x7.trans hW).trans e8,rfl⟩)
 refine .lssT O O O (by omega) (.go O (.ldA ty_N O O (k3.ext hW) O (.go O ?_)))
 refine .call _ O Y7 O (Ab4 (S:=fun _=>True) (T0:=fun k=>w7.heap.size<=k) upT (fun k hk=>by have:=hW.size;omega) (hn7.ext hW) (ho7.ext hW)) fun v8 W1 d1 h8=>?_
 obtain ⟨va2,ve,rfl,ha2,he⟩:=h8
 replace he:ve=.int .i64 (outE n o):=he
 subst he
 have hW1:=hW.trans d1
 have z1:=hW1.size
 refine .go O (.ldA ty_N O O (k3.ext hW1) O (.go O ?_))
 refine .call _ O Ac4 O (Ab5 (a:=a) (b:=b) (S:=fun _=>True) (T0:=fun k=>W1.heap.size<=k) upT (fun k hk=>hk) (hn7.ext hW1) (ho7.ext hW1)) fun v10 W3 d3 h10=>?_
 obtain ⟨vf2,ve,rfl,hf2,he⟩:=h10
 replace he:ve=.int .i64 (btE n o a b):=he
 subst he
 have hW3:=hW1.trans d3
 have ha3:=ER.ext eM (ER.lt eM ha2) d3
 refine .go O (.neqF O O O O (.go O (.neqF O O O O (.go O ?_))))
 refine .call _ O BF1 O (isM_t (eM.mono (fun _ _ _=>trivial) ha3) (ER.ext eM hm hW3) O) fun v11 W4 d4 h11=>?_
 subst h11
 refine .go O (.call _ O Aj3 O (isV_t (ER.ext eV (eV.mono (fun _ _ _=>trivial) hf2) d4) (ER.ext eV hfl (hW3.trans d4)) O) fun v12 W7 d5 h12=>?_)
 subst h12
 have d37:=d4.trans d5
 have hW7:=hW3.trans d37
 have ha7:=ER.ext eM ha3 d37
 have hf7:=ER.ext eV hf2 d37
 refine .go O (.callG _ O E_law17_Spoil O (law17_Spoil_c (eM.shape ha7)) fun v15 W8 hC8=>?_)
 have hW8:Ext w7 W8:=Chg.below hC8 hW7 hW7.size fun k hk=>hk.1
 have hf8:=eV.keep (hC8.kp (S:=fun k=>W1.heap.size<=k) fun k hk h=>by have:=h.2;omega) hf7
 have z8:=hC8.size
 have z17:=(d3.trans d37).size
 obtain ⟨_,_,hvf,_,_⟩:=RL.len hf8
 refine .go O (.bsl _ O O (by rw [hvf];exact As0) fun W9 b9 n9=>?_)
 have hbc:eM.R (fun k=>W1.heap.size<=k) W9 (.slice (some ⟨b9,0,none⟩) 1 1) [_]:=BU4 [vf2] [_] n9 (fun k hk=>by omega) (by rw [hvf]) O (by decide) (Els.snoc Els.nil hf8)
 have hW9:=hW8.trans n9.1
 refine .go O (.callG _ O E_law17_Spoil O (law17_Spoil_c (eM.shape hbc)) fun v16 W10 hC10=>?_)
 have hW10:Ext w7 W10:=Chg.below hC10 hW9 hW9.size fun k hk=>Nat.le_trans z1 hk
 exact .go O (.inc O O O (by omega) (.goN O (.mk (r+1) O (lc1 O) ⟨⟨hW10,hlt⟩,by show 2-(r+1)<2-r;omega⟩)))
end Go.Proofs.YtggegpiffjbngaaGreat
namespace Go.Kx
open Go Go.RowKit Go.ChangeShapes Go.WideShapes
section
variable {H:Type} {enc:TypeId×Value->H} {P:Program} {W:World}
def sh4 (P:Program) (t:TypeId):Option (List (TypeId×Nat)) :=
 match P.underlying t with
 | some (.struct fs)=>if fs.size=4 then some (fs.toList.map fun f=>(f.type,f.offset)) else none
 | _=>none
theorem opn_int4 {t ti tj:TypeId} (hs:sh4 P t=some [(ti,0),(ti,1),(tj,2),(tj,3)]) (hi:P.underlying ti=some (.int .i64)) (hj:P.underlying tj=some (.int .i64)) (hci:P.cellsOf ti=1) (hcj:P.cellsOf tj=1) (hct:P.cellsOf t=4):Opn enc P W eL t (fun _ _=>True):=by
 intro fuel cs x hx hfz
 unfold sh4 at hs
 split at hs
 ·rename_i fs hu
  split at hs
  ·rename_i hsz
   simp only [Option.some.injEq] at hs
   obtain ⟨l⟩:=fs
   match l,hsz with
   | [f0,f1,f2,f3],_ =>
    simp only [List.map_cons,List.map_nil,List.cons.injEq,Prod.mk.injEq,and_true] at hs
    obtain ⟨⟨h0,o0⟩,⟨h1,o1⟩,⟨h2,o2⟩,h3,o3⟩:=hs
    obtain ⟨y0,y1,y2,y3,n,rfl,hl,g0,g1,g2,g3⟩:=Joins.trod_struct4 hu hx
    rw [h0,o0,hci] at g0
    rw [h1,o1,hci] at g1
    rw [h2,o2,hcj] at g2
    rw [h3,o3,hcj] at g3
    rw [hct] at hl
    obtain ⟨c0,c1,c2,c3,rfl⟩:∃ c0 c1 c2 c3,cs=[c0,c1,c2,c3]:=by
     match cs,hl with
     | [c0,c1,c2,c3],_=>exact ⟨c0,c1,c2,c3,rfl⟩
    obtain ⟨n0,e0,_,w0⟩:=DataW.trod_int hi g0
    obtain ⟨n1,e1,_,w1⟩:=DataW.trod_int hi g1
    obtain ⟨n2,e2,_,w2⟩:=DataW.trod_int hj g2
    obtain ⟨n3,e3,_,w3⟩:=DataW.trod_int hj g3
    simp at e0 e1 e2 e3
    subst e0 e1 e2 e3
    exact ⟨.agg #[.int .i64 n0,.int .i64 n1,.int .i64 n2,.int .i64 n3],⟨n0,n1,n2,n3⟩,rfl,⟨rfl,BO9 w0,BO9 w1,BO9 w2,BO9 w3⟩,trivial⟩
  ·cases hs
 ·cases hs
theorem opn_N {t ti tl te:TypeId} (hs:sh2 P t=some ((ti,0),(tl,1))) (hi:P.underlying ti=some (.int .i64)) (hci:P.cellsOf ti=1) (hcl:P.cellsOf tl=1) (hct:P.cellsOf t=2) (hl:P.underlying tl=some (.slice te)) (hce:P.cellsOf te=4) (he:Opn enc P W eL te (fun _ _=>True)):Opn enc P W eN t (fun _ _=>True):=by
 intro fuel cs x hx hfz
 obtain ⟨y0,y1,n,rfl,hlen,h0,h1⟩:=Av3 hs hx
 rw [hci] at h0
 rw [hcl] at h1
 rw [hct] at hlen
 obtain ⟨c0,c1,rfl⟩:∃ c0 c1,cs=[c0,c1]:=by
  match cs,hlen with
  | [c0,c1],_=>exact ⟨c0,c1,rfl⟩
 obtain ⟨b,hb',_,hw⟩:=DataW.trod_int hi h0
 simp at hb'
 subst hb'
 obtain ⟨e,l,he',hR,_⟩:=(Opn.slice (Z:=fun _ _=>True) (E:=eL) (by decide) hl hce he) n _ _ h1 hfz.right
 obtain ⟨a,c,rfl,_⟩:=RL.len hR
 simp [Value.cells] at he'
 subst he'
 exact ⟨.agg #[.int .i64 b,.slice a l.length c],⟨b,l⟩,rfl,⟨_,rfl,hR,BO9 hw⟩,trivial⟩
end
end Go.Kx
namespace Go.Proofs.YtggegpiffjbngaaGreat
open Go Go.Kx Go.RowKit
section
variable {H:Type} {enc:TypeId×Value->H} {W:World}
theorem opnN:Opn enc Tryz.prog W eN 24 (fun _ _=>True):=opn_N (ti:=3) (tl:=22) (te:=58) (by kernel_rfl) AV5 (by kernel_rfl) (by kernel_rfl) (by kernel_rfl) K4 (by kernel_rfl) (opn_int4 (ti:=3) (tj:=2) (by kernel_rfl) AV5 Ap7 (by kernel_rfl) (by kernel_rfl) (by kernel_rfl))
theorem opnH:Opn enc Tryz.prog W eI 25 (ZL fun _ _=>True):=Opn.slice (by decide) un_I (by kernel_rfl) (opn_int AV5)
end
end Go.Proofs.YtggegpiffjbngaaGreat
