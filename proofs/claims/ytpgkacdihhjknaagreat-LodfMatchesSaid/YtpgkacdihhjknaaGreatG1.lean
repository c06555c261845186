/-
  What the claim leans on.
-/
import Derived.RangeFuncNested
import Derived.RangeFuncBound
import Derived.RangeFuncCalls
import Derived.RangeFuncLeaves
import Derived.WalkKit
import Derived.OwnWalkIn
import Derived.KernelRfl
import Derived.OrdersIn
import Derived.WalkSpells
set_option linter.unusedVariables false
set_option linter.unusedSimpArgs false
set_option linter.unnecessarySimpa false
namespace Go.Proofs.YtpgkacdihhjknaaGreat
open Go Go.RowKit
set_option maxHeartbeats 1600000
variable {d:Option Tmp}{f:FuncId}{args:Array Value}{B C:Nat}{p:Addr}{cs es:List Value}{α:Type}
abbrev aA:=@Nat.le_refl
abbrev aB:=@Nat.lt_or_ge
abbrev aC:=@Nat.zero_le
abbrev aD:=@Nat.zero_add
abbrev aE:=@List.getElem?_eq_getElem
abbrev aF:=@List.getD_eq_getElem?_getD
abbrev aG:=@Nat.le_trans
abbrev aH:=@List.getElem?_eq_none
abbrev aI:=@List.getElem?_map
abbrev aJ:=@Nat.mul_add
abbrev aK:=@List.take_of_length_le
abbrev aL:=@List.length_append
abbrev aM:=@List.map_append
abbrev aN:=@Nat.pow_succ
abbrev aO:=@Bool.and_eq_true
abbrev aP:=@List.range_succ
abbrev aQ:=@Nat.pow_le_pow_right
abbrev aR:=@List.all_eq_true
abbrev aS:=@List.length_cons
abbrev aT:=@Nat.mul_comm
abbrev aU:=@Nat.eq_zero_or_pos
abbrev aV:=@Nat.mul_le_mul_left
abbrev aW:=@Rat.mul_zero
abbrev aX:=@Bool.or_eq_true
abbrev aY:=@Nat.mod_lt
abbrev aZ:=@Nat.blt_eq
abbrev bA:=@List.getElem?_range
abbrev bB:=@List.append_nil
abbrev bC:=@Nat.lt_of_lt_of_le
abbrev bD:=@Nat.div_lt_iff_lt_mul
abbrev bE:=@Nat.div_add_mod
abbrev bF:=@Nat.mul_assoc
abbrev bG:=@Nat.pow_add
abbrev bH:=@Nat.eq_of_beq_eq_true
abbrev bI:=@Nat.lt_of_le_of_lt
abbrev bJ:=@Nat.mod_eq_of_lt
abbrev bK:=@Nat.not_lt_zero
abbrev bL:=@Rat.zero_mul
abbrev bM:=@Array.getElem?_setIfInBounds_ne
abbrev bN:=@List.getElem?_toArray
abbrev bO:=@Nat.mul_le_mul_right
abbrev bP:=@Nat.add_zero
abbrev bQ:=@List.getElem?_append_left
abbrev bR:=@Nat.pow_pos
abbrev bS:=@List.filter_append
abbrev bT:=@List.getElem?_append_right
abbrev bU:=@List.mem_zipIdx_iff_getElem?
abbrev bV:=@List.length_set
abbrev bW:=@List.getElem?_set_ne
abbrev bX:=@List.drop_eq_getElem_cons
abbrev bY:=@List.filter_cons_of_pos
abbrev bZ:=@Int.sign_eq_one_of_pos
abbrev cA:=@List.take_add_one
abbrev cB:=@List.filter_cons_of_neg
abbrev cC:=@Int.sign_eq_neg_one_of_neg
abbrev cD:=@List.drop_eq_nil_of_le
abbrev cE:=@Nat.mul_pos
abbrev cF:=@Nat.add_mul
abbrev cG:=@List.mem_cons_of_mem
abbrev cH:=@Nat.le_of_lt
abbrev cI:=@List.length_take
abbrev cJ:=@Nat.min_eq_left
abbrev cK:=@List.map_congr_left
abbrev cL:=@List.mem_filter
abbrev cM:=@List.mem_range
abbrev cN:=@List.length_nil
abbrev cO:=@Array.length_toList
abbrev cP:=@List.getElem?_take
abbrev cQ:=@Int.natCast_mul
abbrev cR:=@List.mem_cons_self
abbrev cS:=@List.append_assoc
abbrev cT:=@Nat.mul_one
abbrev cU:=@List.ext_getElem?
abbrev cV:=@List.drop_zero
abbrev cW:=@Rat.sub_eq_add_neg
abbrev cX:=@Array.getElem?_eq_none
abbrev cY:=@Option.map_some
abbrev cZ:=@Nat.add_assoc
abbrev dA:=@Nat.succ_mul
abbrev dB:=@List.getElem?_set
abbrev dC:=@List.length_map
abbrev dD:=@Nat.mul_le_mul
abbrev dE:=@Int.natAbs_mul
abbrev dF:=@Nat.mul_lt_mul''
abbrev dG:=@Rat.div_def
abbrev dH:=@List.mem_filterMap
abbrev dI:=@Bool.not_eq_true'
abbrev dJ:=@List.size_toArray
abbrev dK:=@Int.mul_pos
abbrev dL:=@Nat.gcd_comm
abbrev dM:=@List.getElem?_set_self
abbrev dN:=@Int.natCast_add
abbrev dO:=@List.length_filter_le
abbrev dP:=@Rat.add_zero
abbrev dQ:=@Nat.le_total
abbrev dR:=@Array.getElem?_eq_getElem
abbrev dS:=@Nat.le_of_not_lt
abbrev dT:=@List.map_cons
abbrev dU:=@List.drop_of_length_le
abbrev dV:=@Nat.div_le_self
abbrev dW:=@Nat.mul_zero
abbrev dX:=@Nat.sub_self
abbrev dY:=@Nat.max_eq_left
abbrev dZ:=@Nat.lt_irrefl
abbrev eA:=@List.getElem?_replicate
abbrev eB:=@Nat.div_eq_of_lt
abbrev eC:=@List.take_append_drop
abbrev eD:=@List.getElem_mem
abbrev eE:=@List.length_range
abbrev eG:=@List.mem_map
abbrev eJ:=@List.mem_append
abbrev eK:=@Nat.zero_mul
abbrev eO:=@List.mem_of_mem_take
abbrev eR:=@List.getElem?_drop
abbrev eS:=@Int.natCast_nonneg
abbrev eT:=@List.mem_or_eq_of_mem_set
abbrev eX:=@Nat.lt_trans
abbrev eY:=@Nat.lt_succ_self
abbrev fA:=@Int.neg_mul
abbrev fC:=@Int.mul_neg
abbrev fD:=@Rat.mul_inv_cancel
abbrev fE:=@Nat.min_eq_right
abbrev fF:=@Nat.max_eq_right
abbrev fG:=@Rat.mul_comm
abbrev fH:=@List.filter_nil
abbrev fJ:=@List.flatMap_cons
abbrev fK:=@Int.toNat_natCast
abbrev fL:=@List.getLast?_cons_cons
abbrev fM:=@Array.toArray_toList
abbrev fN:=@List.take_succ_eq_append_getElem
abbrev fO:=@Int.lt_trichotomy
abbrev fP:=@Nat.le_of_eq
abbrev fQ:=@Nat.lt_of_mul_lt_mul_left
abbrev fR:=@Nat.div_div_eq_div_mul
abbrev fS:=@Int.zero_sub
abbrev fT:=@List.ext_getElem
abbrev fU:=@Rat.mul_assoc
abbrev fV:=@Nat.max_self
abbrev fW:=@Rat.mul_one
abbrev fX:=@Rat.le_refl
abbrev fY:=@Option.bind_some
abbrev fZ:=@Array.all_eq_true'
abbrev gC:=@Array.ext_getElem?
abbrev gD:=@Bool.false_eq_true
abbrev gE:=@List.mem_cons
abbrev gF:=@List.cons_append
abbrev gG:=@List.replicate_succ
abbrev gH:=@Rat.num_divInt
abbrev gI:=@Int.natAbs_natCast
abbrev gJ:=@List.map_const'
abbrev gK:=@List.nil_append
abbrev gL:=@Nat.lt_mul_div_succ
abbrev gM:=@Nat.add_mul_div_left
abbrev gN:=@Nat.add_sub_cancel
abbrev gO:=@Int.lt_or_gt_of_ne
abbrev gP:=@List.set_append_right
abbrev gQ:=@List.mem_singleton
abbrev gR:=@Int.le_trans
abbrev gS:=@Rat.mul_nonneg
abbrev gT:=@Option.getD_some
abbrev gU:=@Array.getElem?_modify
abbrev gV:=@Array.getElem?_toList
abbrev gW:=@List.mem_of_mem_drop
abbrev gX:=@Nat.lt_of_not_le
abbrev gY:=@List.any_eq_true
abbrev gZ:=@Int.natAbs_add_le
abbrev iA:=@List.mem_append_left
abbrev iB:=@Nat.mul_lt_mul_of_pos_right
abbrev iC:=@Nat.le_succ_of_le
abbrev iD:=@Nat.gcd_zero_right
abbrev iE:=@Nat.gcd_pos_of_pos_right
abbrev iG:=@Nat.gcd_le_right
abbrev iH:=@Rat.divInt_mul_divInt
abbrev iI:=@List.replicate_zero
abbrev iJ:=@Nat.lt_trichotomy
abbrev iK:=@Bool.not_eq_true
abbrev iL:=@List.foldl_append
abbrev iM:=@Int.eq_ofNat_of_zero_le
abbrev iW (n:Int):Value:=.int .i64 n
abbrev pW (b:Nat):Value:=.pointer (some ⟨b,0,none⟩)
theorem O{α : Sort _}{a : α} : a = a := rfl
abbrev Env:=List (Nat×Value)
theorem AK5{a b:Nat}(h:a≠b):Nat.beq a b=false:=by
 cases hh:Nat.beq a b with
 | false=>rfl
 | true=>exact absurd (bH hh) h
def look:Env->Nat->Option Value
 | [],_=>none
 | (k,v)::r,t=>bif Nat.beq k t then some v else look r t
def ev (σ:Env):Operand->Option Value
 | .tmp t=>look σ t
 | .const v=>some v
 | .global g=>some (.pointer (some ⟨g,0,none⟩))
 | .func f=>some (.func (.func f) #[] #[])
structure Agr (N:Nat) (σ:Env) (ds:List Deferred) (a:Act):Prop where
 size:a.tmps.size=N
 defs:a.defers=ds
 slot:∀ t v,look σ t=some v->a.tmps.getD t undef=v
theorem Agr.ev{N:Nat}{σ:Env}{ds:List Deferred}{a:Act}(h:Agr N σ ds a){x:Operand}{v:Value}(hx:ev σ x=some v):a.eval x=v:=by
 cases x with
 | tmp t=>exact h.slot t v hx
 | const u=>simpa[YtpgkacdihhjknaaGreat.ev,Act.eval] using hx
 | global g=>simpa[YtpgkacdihhjknaaGreat.ev,Act.eval] using hx
 | func f=>simpa[YtpgkacdihhjknaaGreat.ev,Act.eval] using hx
def AP9 (d:Option Tmp) (v:Value) (σ:Env):Env:=match d with | some t=>(t,v)::σ | none=>σ
def dOk (N:Nat):Option Tmp->Bool | some t=>Nat.blt t N | none=>true
theorem Agr.put{N:Nat}{σ:Env}{ds:List Deferred}{a:Act}(h:Agr N σ ds a)(hd:dOk N d=true)(v:Value):Agr N (AP9 d v σ) ds (a.put d v):=by
 cases d with
 | none=>exact h
 | some t =>
  have ht:t<N:=by simpa[dOk,aZ] using hd
  refine⟨by simpa[Act.put] using h.size,by simpa[Act.put] using h.defs,λu x hx=>?_⟩;by_cases e:t=u
  ·subst e;have:look ((t,v)::σ) t=some v:=by simp[look]
   simp only[AP9] at hx;rw[this] at hx
   cases hx;simp[Act.put,h.size,ht]
  ·have hb:Nat.beq t u=false:=AK5 e;have hl:look σ u=some x:=by simpa[AP9,look,hb] using hx
   have:=h.slot u x hl;simpa[Act.put,bM e] using this
theorem Agr.weak{N:Nat}{σ σ':Env}{ds:List Deferred}{a:Act}(h:Agr N σ ds a)(hs:∀ t v,look σ' t=some v->look σ t=some v):Agr N σ' ds a :=
 ⟨h.size,h.defs,λt v hv=>h.slot t v (hs t v hv)⟩
abbrev wf (ro:Option Nat):Fence:={ fn:=λ_=>True,depth:=none,alive:=false,round:=ro }
theorem Ag9{ro:Option Nat}{n:Nat}{P:Program}{w:World}{R:Ending->World->Prop}:CallsIn (wf ro) n P f args w R<->Calls P f args w R:=by rw[<-callsIn_wide (n:=n)];exact Iff.rfl
def Gv (P:Program) (o:Oper) (σ:Env) (w:World) (R:Value->World->Prop):Prop :=
 (∀ c,o.op≠.defer c)/\∀ ρ:Operand->Value,(∀ x v,x∈o.op.operands->ev σ x=some v->ρ x=v) ->
  (∃ v w',(execOp ρ o).run P w=.ok (.value v) w'/\R v w') \/
  (∃ w',(execOp ρ o).run P w=.ok .skip w'/\R undef w') \/
  (∃ f args w',(execOp ρ o).run P w=.ok (.enter f args) w'/\Calls P f args w' λe w''=>∃ v,e=.returned v/\R v w'')
theorem Gv.mono{P:Program}{o:Oper}{σ:Env}{w:World}{R R':Value->World->Prop}(h:Gv P o σ w R)(hr:∀ v w',R v w'->R' v w'):Gv P o σ w R':=by
 refine⟨h.1,λρ hρ=>?_⟩;rcases h.2 ρ hρ with ⟨v,w',h1,h2⟩ | ⟨w',h1,h2⟩ | ⟨f,args,w',h1,h2⟩
 ·exact .inl ⟨v,w',h1,hr _ _ h2⟩
 ·exact .inr (.inl ⟨w',h1,hr _ _ h2⟩)
 ·exact .inr (.inr ⟨f,args,w',h1,h2.mono λe w'' ⟨v,he,hv⟩=>⟨v,he,hr _ _ hv⟩⟩)
theorem Aj5{ro:Option Nat}{ρ:Operand->Value}{o:Oper}(h:∀ c,o.op≠.defer c):o.semAt ro ρ=execOp ρ o:=Oper.semAt_eq ro ρ o h
theorem Gv.wp{P:Program}{ro:Option Nat}{o:Oper}{σ:Env}{w:World}{R:Value->World->Prop}(h:Gv P o σ w R){a:Act}(ha:∀ x v,x∈o.op.operands->ev σ x=some v->a.eval x=v){next:Act->World->Prop}{Q:Exit->Act->World->Prop}(hn:∀ v w',R v w'->next (a.put o.dst v) w'):o.wpIn (wf ro) 0 P a w next Q:=by
 refine⟨λ_ _=>trivial,?_⟩;show o.uponIn (wf ro) 0 P a next Q ((o.semAt ro a.eval).run P w)
 rw[Aj5 h.1];rcases h.2 a.eval ha with ⟨v,w',h1,h2⟩ | ⟨w',h1,h2⟩ | ⟨f,args,w',h1,h2⟩
 ·rw[h1];exact hn _ _ h2
 ·rw[h1];exact hn _ _ h2
 ·rw[h1];refine⟨λhh=>(by cases hh),Ag9.2 (h2.mono ?_)⟩;rintro e w'' ⟨v,rfl,hv⟩;exact hn _ _ hv
structure WL (P:Program) (ro:Option Nat) (N:Nat) (ds:List Deferred) (ops:Array Oper) (K:Env->World->Prop) (l:List Oper) (σ:Env) (w:World):Prop where
 out:∀ a,Agr N σ ds a->wpListIn (wf ro) 0 P ops (λe a w=>e=.normal/\∃ σ',Agr N σ' ds a/\K σ' w) l a w
section
variable {P:Program} {ro:Option Nat} {N:Nat} {ds:List Deferred} {ops:Array Oper} {K:Env->World->Prop} {rest:List Oper} {σ:Env} {w:World}
theorem WL.nil (h:K σ w):WL P ro N ds ops K [] σ w:=⟨λa ha=>⟨rfl,σ,ha,h⟩⟩
theorem WL.gv {o:Oper} {R:Value->World->Prop} (hg:o.guard=none) (hd:dOk N o.dst=true) (h:Gv P o σ w R)
  (k:∀ v w',R v w'->WL P ro N ds ops K rest (AP9 o.dst v σ) w'):WL P ro N ds ops K (o::rest) σ w:=by
 refine⟨λa ha=>wpListIn_plain hg λK' hK=>?_⟩;exact h.wp (λx v _ hx=>ha.ev hx) λv w' hr=>hK _ _ ((k v w' hr).out _ (ha.put hd v))
def Ad6 (ops:Array Oper) (j:Nat):Option Tmp:=(ops[j]?).bind (·.dst)
theorem Ax2 {a:Act} (ha:Agr N σ ds a) {j t:Nat} (hj:Ad6 ops j=some t) (ht:Nat.blt t N=true) {v:Value} (hv:look σ t=some v) :
  yielded ops a.tmps j=match v with | .bool b=>some b | _=>none:=by
 have h1:=ha.slot t v hv;have h2:t<a.tmps.size:=by rw[ha.size];simpa[aZ] using ht
 unfold yielded;unfold Ad6 at hj;rw[hj];have h3:a.tmps[t]?=some v:=by rw[dR h2];simp[dR h2] at h1;exact congrArg some h1
 simp only[fY,h3]
 cases v<;>rfl
theorem WL.grun {d:Option Tmp} {op:Op} {ty:TypeId} {pos:String} {af:Array Edge} {j t:Nat} {b:Bool} (hj:Ad6 ops j=some t) (ht:Nat.blt t N=true) (hv:look σ t=some (.bool b))
  (h:WL P ro N ds ops K (⟨d,op,ty,pos,af,none⟩::rest) σ w):WL P ro N ds ops K (⟨d,op,ty,pos,af,some (j,b)⟩::rest) σ w:=by
 refine⟨λa ha=>?_⟩;have h1:=h.out a ha;have hy:=Ax2 ha hj ht hv;simp only[wpListIn,Region.wanted,if_true] at h1;simp only[wpListIn,Region.wanted,hy,beq_self_eq_true,if_true];exact h1
theorem WL.gskip {o:Oper} {j t:Nat} {b:Bool} {v:Value} (hg:o.guard=some (j,b)) (hd:dOk N o.dst=true) (hj:Ad6 ops j=some t) (ht:Nat.blt t N=true) (hv:look σ t=some v)
  (hne:(match v with | .bool c=>some c | _=>none)≠some b) (h:WL P ro N ds ops K rest (AP9 o.dst undef σ) w):WL P ro N ds ops K (o::rest) σ w:=by
 refine⟨λa ha=>?_⟩;have hy:=Ax2 ha hj ht hv;have hw:Region.wanted o (yielded ops a.tmps)=false:=by simp only[Region.wanted,hg,hy];simpa using hne
 simp only[wpListIn,hw];exact⟨λ_ _=>trivial,h.out _ (ha.put hd undef)⟩
end
abbrev Pst:=Exit->Env->List Deferred->World->Prop
def lft (N:Nat) (Q:Pst):Exit->Act->World->Prop:=λe a w=>∃ σ ds,Agr N σ ds a/\Q e σ ds w
structure WC (P:Program) (ro:Option Nat) (N:Nat) (Q:Pst) (c:Code) (σ:Env) (ds:List Deferred) (w:World):Prop where
 out:∀ a,Agr N σ ds a->c.wpIn (wf ro) 0 P (lft N Q) a w
@[reducible] def thn (K:Env->List Deferred->World->Prop) (Q:Pst):Pst
 | .normal,σ,ds,w=>K σ ds w
 | e,σ,ds,w=>Q e σ ds w
@[reducible] def inb (id:Nat) (Q:Pst):Pst
 | .exit j,σ,ds,w=>bif Nat.beq j id then Q .normal σ ds w else Q (.exit j) σ ds w
 | e,σ,ds,w=>Q e σ ds w
section
variable {P:Program} {ro:Option Nat} {N:Nat} {Q:Pst} {σ:Env} {ds:List Deferred} {w:World}
theorem WC.weak {c:Code} (σ':Env) (hs:∀ t v,look σ' t=some v->look σ t=some v) (h:WC P ro N Q c σ' ds w):WC P ro N Q c σ ds w :=
 ⟨λa ha=>h.out a (ha.weak hs)⟩
theorem WC.mono {c:Code} {Q':Pst} (h:WC P ro N Q c σ ds w) (hq:∀ e σ ds w,Q e σ ds w->Q' e σ ds w):WC P ro N Q' c σ ds w :=
 ⟨λa ha=>wpIn_mono (h.out a ha) λe _ w' ⟨σ',ds',hag,h⟩=>⟨σ',ds',hag,hq e σ' ds' w' h⟩⟩
theorem WC.skip (h:Q .normal σ ds w):WC P ro N Q .skip σ ds w:=⟨λ_ ha=>wpIn_skip ⟨σ,ds,ha,h⟩⟩
theorem WC.exit {id:Nat} (h:Q (.exit id) σ ds w):WC P ro N Q (.exit id) σ ds w:=⟨λ_ ha=>wpIn_exit ⟨σ,ds,ha,h⟩⟩
theorem WC.ret (h:Q .ret σ ds w):WC P ro N Q .ret σ ds w:=⟨λ_ ha=>wpIn_ret ⟨σ,ds,ha,h⟩⟩
theorem WC.label {l:Nat} (h:Q .normal σ ds w):WC P ro N Q (.label l) σ ds w:=⟨λ_ ha=>wpIn_label ⟨σ,ds,ha,h⟩⟩
theorem WC.seq {x y:Code} (h:WC P ro N (thn (λσ ds w=>WC P ro N Q y σ ds w) Q) x σ ds w):WC P ro N Q (x.seq y) σ ds w:=by
 refine⟨λa ha=>wpIn_seq (wpIn_mono (h.out a ha) ?_)⟩;rintro e a' w' ⟨σ',ds',hag,hq⟩
 cases e with
 | normal=>exact WC.out hq a' hag
 | _=>exact⟨σ',ds',hag,hq⟩
theorem WC.block {id:Nat} {c:Code} (h:WC P ro N (inb id Q) c σ ds w):WC P ro N Q (.block id c) σ ds w:=by
 refine⟨λa ha=>wpIn_block (wpIn_mono (h.out a ha) ?_)⟩;rintro e a' w' ⟨σ',ds',hag,hq⟩
 cases e with
 | exit j =>
  by_cases e:j=id
  ·subst e;have hq':Q .normal σ' ds' w':=by simpa[inb] using hq
   simp only[Exit.inBlock,if_true];exact⟨σ',ds',hag,hq'⟩
  ·have hb:Nat.beq j id=false:=AK5 e;have hq':Q (.exit j) σ' ds' w':=by simpa[inb,hb] using hq
   simp only[Exit.inBlock,e,if_false];exact⟨σ',ds',hag,hq'⟩
 | _=>exact⟨σ',ds',hag,hq⟩
theorem WC.cond {c:Operand} {x y:Code} {b:Bool} (hc:ev σ c=some (.bool b)) (ht:b=true->WC P ro N Q x σ ds w) (hf:b=false->WC P ro N Q y σ ds w):WC P ro N Q (.cond c x y) σ ds w :=
 ⟨λa ha=>wpIn_cond_split (ha.ev hc) (λh=>(ht h).out a ha) (λh=>(hf h).out a ha)⟩
theorem WC.condT {c:Operand} {x y:Code} (hc:ev σ c=some (.bool true)) (h:WC P ro N Q x σ ds w):WC P ro N Q (.cond c x y) σ ds w :=
 WC.cond hc (λ_=>h) (λh=>by cases h)
theorem WC.condF {c:Operand} {x y:Code} (hc:ev σ c=some (.bool false)) (h:WC P ro N Q y σ ds w):WC P ro N Q (.cond c x y) σ ds w :=
 WC.cond hc (λh=>by cases h) (λ_=>h)
theorem WC.region {id:Nat} {l:List Oper} (h:WL P ro N ds l.toArray (λσ w=>Q .normal σ ds w) l σ w):WC P ro N Q (.region id l.toArray false) σ ds w:=by refine⟨λa ha=>wpIn_mono (wpIn_region_lit (h.out a ha)) ?_⟩;rintro e a' w' ⟨rfl,σ',hag,hk⟩;exact⟨σ',ds,hag,hk⟩
theorem WC.loop {α:Type} {c:Code} (E:α->Env) (F:α->World->Prop) (m:α->Nat) (x:α) (hE:∀ t v,look (E x) t=some v->look σ t=some v) (hF:F x w)
  (h:∀ x w,F x w->WC P ro N (thn (λσ' ds' w'=>ds'=ds/\∃ x',(∀ t v,look (E x') t=some v->look σ' t=some v)/\F x' w'/\m x'<m x) Q) c (E x) ds w):WC P ro N Q (.loop c) σ ds w:=by
 refine⟨λa ha=>?_⟩;have key:∀ k,∀ x w,m x=k->F x w->∀ a,Agr N (E x) ds a->(Code.loop c).wpIn (wf ro) 0 P (lft N Q) a w:=by
  intro k x w _ hx a ha;refine wpIn_loop (λa w=>∃ x,Agr N (E x) ds a/\F x w) (λa w=>Classical.epsilon λn=>(∃ x,Agr N (E x) ds a/\F x w/\m x=n)/\∀ n',(∃ x,Agr N (E x) ds a/\F x w/\m x=n')->n<=n') ⟨x,ha,hx⟩ ?_;intro a₁ w₁ ⟨x₁,ha₁,hx₁⟩;have hleast:∀ (a:Act) (w:World),(∃ x,Agr N (E x) ds a/\F x w)->(∃ x,Agr N (E x) ds a/\F x w/\m x=Classical.epsilon λn=>(∃ x,Agr N (E x) ds a/\F x w/\m x=n)/\∀ n',(∃ x,Agr N (E x) ds a/\F x w/\m x=n')->n<=n') /\
    ∀ x,Agr N (E x) ds a->F x w->(Classical.epsilon λn=>(∃ x,Agr N (E x) ds a/\F x w/\m x=n)/\∀ n',(∃ x,Agr N (E x) ds a/\F x w/\m x=n')->n<=n')<=m x:=by
   intro a w ⟨x,h1,h2⟩;have hex:∃ n,(∃ x,Agr N (E x) ds a/\F x w/\m x=n)/\∀ n',(∃ x,Agr N (E x) ds a/\F x w/\m x=n')->n<=n':=by
    have hp:∀ b,∀ x,m x<=b->Agr N (E x) ds a->F x w->∃ n,(∃ x,Agr N (E x) ds a/\F x w/\m x=n)/\∀ n',(∃ x,Agr N (E x) ds a/\F x w/\m x=n')->n<=n':=by
     intro b;induction b with
     | zero=>exact λx hb h1 h2=>⟨m x,⟨x,h1,h2,rfl⟩,λn' _=>by omega⟩
     | succ b ih =>
      intro x hb h1 h2;by_cases hh:∃ y,Agr N (E y) ds a/\F y w/\m y<m x
      ·obtain⟨y,h3,h4,h5⟩:=hh;exact ih y (by omega) h3 h4
      ·exact⟨m x,⟨x,h1,h2,rfl⟩,λn' ⟨y,h3,h4,h5⟩=>dS λhlt=>hh ⟨y,h3,h4,by omega⟩⟩
    exact hp (m x) x (aA _) h1 h2
   have hs:=Classical.epsilon_spec hex;exact⟨hs.1,λx h1 h2=>hs.2 _ ⟨x,h1,h2,rfl⟩⟩
  obtain⟨⟨x₂,ha₂,hx₂,hm₂⟩,_⟩:=hleast a₁ w₁ ⟨x₁,ha₁,hx₁⟩;refine wpIn_mono ((h x₂ w₁ hx₂).out a₁ ha₂) ?_;rintro e a' w' ⟨σ',ds',hag,hq⟩
  cases e with
  | normal =>
   obtain⟨rfl,x',hE',hF',hm'⟩:=hq;refine⟨⟨x',hag.weak hE',hF'⟩,?_⟩;have:=(hleast a' w' ⟨x',hag.weak hE',hF'⟩).2 x' (hag.weak hE') hF';omega
  | _=>exact⟨σ',ds',hag,hq⟩
 exact key _ x w O hF a (ha.weak hE)
end
abbrev Ext (w w':World):Prop:=Below w.heap.size w w'
theorem Ext.refl(w:World):Ext w w:=Below.refl _ w
theorem Ext.trans{a b c:World}(h:Ext a b)(k:Ext b c):Ext a c:=Below.trans h (Below.mono k h.size)
def CR (P:Program) (f:FuncId) (args:Array Value) (w:World) (R:Value->World->Prop):Prop :=
 Calls P f args w λe w'=>∃ v,e=.returned v/\Ext w w'/\R v w'
theorem CR.mono{P:Program}{w:World}{R R':Value->World->Prop}(h:CR P f args w R)(hr:∀ v w',Ext w w'->R v w'->R' v w'):CR P f args w R' :=
 Calls.mono h λ_ _ ⟨v,he,hx,hv⟩=>⟨v,he,hx,hr _ _ hx hv⟩
def BB9:Nat->List Value->Env
 | _,[]=>[]
 | k,v::r=>(k,v)::BB9 (k+1) r
theorem Bd1(l:List Value):∀ (k t:Nat) (v:Value),look (BB9 k l) t=some v->k<=t/\l[t-k]?=some v:=by
 induction l with
 | nil=>intro k t v h;simp[BB9,look] at h
 | cons x l ih =>
  intro k t v h;simp only[BB9,look] at h;by_cases e:k=t
  ·subst e;simp at h;subst h;simp
  ·have hb:Nat.beq k t=false:=AK5 e;simp only[hb,cond_false] at h;obtain⟨h1,h2⟩:=ih _ _ _ h;refine⟨by omega,?_⟩;have:t-k=(t-(k+1))+1:=by omega
   rw[this,List.getElem?_cons_succ];exact h2
def Res (P:Program) (σ:Env) (w:World):List ResultVar->List Value->Prop
 | [],[]=>True
 | .tmp t::rs,v::vs=>look σ t=some v/\Res P σ w rs vs
 | .cell a t::rs,v::vs=>(∃ p,look σ a=some (.pointer (some p))/\(loadVar t p).run P w=.ok v w)/\Res P σ w rs vs
 | _,_=>False
def tup:List Value->Value
 | [v]=>v
 | vs=>.tuple vs.toArray
def BK1 (tmps:Array Value):ResultVar->Sem Value
 | .tmp t=>pure (tmps.getD t undef)
 | .cell b t=>do loadVar t (<-asAddr (tmps.getD b undef))
theorem Aq5{P:Program}{fn:Func}{N:Nat}{σ:Env}{ds:List Deferred}{a:Act}{w:World}(ha:Agr N σ ds a){rs:List ResultVar}{vs:List Value}(hr:fn.results=rs.toArray)(h:Res P σ w rs vs) :
  (results fn a.tmps).run P w=.ok (tup vs) w:=by
 have key:∀ (rs:List ResultVar) (vs:List Value),Res P σ w rs vs->(rs.mapM (m:=Sem) (BK1 a.tmps)).run P w=.ok vs w:=by
  intro rs;induction rs with
  | nil=>intro vs h;cases vs with
   | nil=>simp[Sem.run_pure]
   | cons v vs=>exact h.elim
  | cons r rs ih =>
   intro vs h
   cases vs with
   | nil=>cases r<;>exact h.elim
   | cons v vs =>
    cases r with
    | tmp t =>
     obtain⟨h1,h2⟩:=h;have:=ha.slot t v h1;have e:(BK1 a.tmps (.tmp t)).run P w=.ok v w:=by simp only[BK1,this,Sem.run_pure]
     simp only[List.mapM_cons,Sem.run_bind,Sem.run_pure,Result.andThen_ok,e,ih vs h2]
    | cell b t =>
     obtain⟨⟨p,h1,h3⟩,h2⟩:=h;have:=ha.slot b _ h1;have e:(BK1 a.tmps (.cell b t)).run P w=.ok v w:=by unfold BK1;simp only[this,asAddr,Sem.run_bind,Sem.run_pure,Result.andThen_ok,h3]
     simp only[List.mapM_cons,Sem.run_bind,Sem.run_pure,Result.andThen_ok,e,ih vs h2]
 have hk:=key rs vs h;have he:results fn a.tmps=(do let vs <-fn.results.mapM (BK1 a.tmps);pure (if h:vs.size=1 then vs[0] else .tuple vs)):=by unfold results;congr 1
 rw[he,hr];simp only[List.mapM_toArray,Sem.run_bind,map_eq_pure_bind,Sem.run_pure,hk,Result.andThen_ok];match vs with
 | []=>rfl
 | [v]=>rfl
 | v::u::r=>simp[tup]
def Q3 (P:Program) (fn:Func) (N:Nat) (R:Value->World->Prop) (σ:Env) (ds:List Deferred) (w:World):Prop :=
 ∀ a,Agr N σ ds a->LeavesInM (wf none) 0 P fn a.tmps (λe w'=>∃ v,e=.returned v/\R v w') ds .returning w
theorem Q3.plain{P:Program}{fn:Func}{N:Nat}{R:Value->World->Prop}{σ:Env}{w:World}{rs:List ResultVar}(vs:List Value)(hr:fn.results=rs.toArray)(h:Res P σ w rs vs)(hR:R (tup vs) w):Q3 P fn N R σ [] w :=
 λ_ ha=>⟨_,Aq5 ha hr h,_,rfl,hR⟩
theorem Q3.mark{P:Program}{fn:Func}{N:Nat}{R:Value->World->Prop}{σ:Env}{w:World}{rs:List ResultVar}{D:Nat}(vs:List Value)(hr:fn.results=rs.toArray)(hD:w.heap[D]?=some (.deferred (some [])))(h:Res P σ (w.putObj D (.deferred none)) rs vs)(hR:R (tup vs) (w.putObj D (.deferred none))):Q3 P fn N R σ [{ target:=.collected D,args:=#[] }] w :=
 λ_ ha=>⟨by simp,.inl ⟨_,_,rfl,run_takeDeferred hD,_,Aq5 ha hr h,_,rfl,hR⟩⟩
@[reducible] def fin (P:Program) (fn:Func) (N:Nat) (R:Value->World->Prop):Pst
 | .normal,σ,ds,w=>Q3 P fn N R σ ds w
 | .ret,σ,ds,w=>Q3 P fn N R σ ds w
 | _,_,_,_=>False
theorem U8{P:Program}{fn:Func}{c:Code}{w:World}{R:Value->World->Prop}{N:Nat}(hf:P.funcs[f]?=some fn)(hb:fn.body=some c)(hn:fn.ntmps=N)(hsz:Nat.ble args.size N=true)(h:WC P none N (fin P fn N R) c (BB9 0 args.toList) [] w):Calls P f args w λe w'=>∃ v,e=.returned v/\R v w':=by
 have hag:Agr N (BB9 0 args.toList) [] { tmps:=args++Array.replicate (fn.ntmps-args.size) undef,defers:=[] }:=by
  have hsz:=Nat.le_of_ble_eq_true hsz;refine⟨by simp;omega,rfl,λt v hv=>?_⟩;obtain⟨_,h2⟩:=Bd1 _ _ _ _ hv;have h3:args[t]?=some v:=by simpa using h2
  have hlt:t<args.size:=by
   rcases aB t args.size with h | h
   ·exact h
   ·rw[cX h] at h3;cases h3
  simp[Array.getElem?_append,hlt];simpa[dR hlt] using h3
 refine callsIn_wide.1 (callsIn_of_wp_marks (F:=Fence.wide) (n:=0) hf hb trivial ?_ O);refine wpIn_mono (h.out _ hag) ?_;rintro e a' w' ⟨σ',ds',hag',hq⟩
 cases e with
 | normal=>have:=hq a' hag';rw[<-hag'.defs] at this;exact this
 | ret=>have:=hq a' hag';rw[<-hag'.defs] at this;exact this
 | _=>exact hq.elim
theorem enter{P:Program}{fn:Func}{c:Code}{w:World}{R:Value->World->Prop}{N:Nat}(hf:P.funcs[f]?=some fn)(hb:fn.body=some c)(hn:fn.ntmps=N)(hsz:Nat.ble args.size N=true)(h:WC P none N (fin P fn N λv w'=>Ext w w'/\R v w') c (BB9 0 args.toList) [] w):CR P f args w R:=U8 hf hb hn hsz h
abbrev Sp:=Value ⊕ (Value->World->Prop)
def Sp.ok:Sp->Value->World->Prop
 | .inl x,v,_=>v=x
 | .inr p,v,w=>∀ w',Ext w w'->p v w'
theorem Sp.ok_ext{s:Sp}{v:Value}{w w':World}(h:Sp.ok s v w)(e:Ext w w'):Sp.ok s v w':=by
 cases s with
 | inl x=>exact h
 | inr p=>exact λw'' e'=>h w'' (e.trans e')
def I3 (o:Oper) (j:Nat):Bool:=o.after.any λe=>Region.binds .any e && Nat.beq e.on j
def S4 (o:Oper):List Tmp:=o.op.operands.toList.filterMap fun | .tmp t=>some t | _=>none
def Au4 (ops:List Oper) (N i:Nat) (o:Oper) (dep:List (Tmp×Nat)):Bool :=
 dOk N o.dst && o.dst.isSome && (match o.guard with | none=>true | some (j,_)=>dep.any λp=>Nat.beq p.2 j) && (match o.op with | .defer _=>false | .select ..=>false | _=>true) &&
 dep.all (λp=>I3 o p.2 && (match ops[p.2]? with | some oj=>oj.dst == some p.1 | none=>false)) &&
 (S4 o).all λt=>dep.any (λp=>Nat.beq p.1 t) || ops.zipIdx.all λq=>q.1.dst != some t || Nat.beq q.2 i || I3 q.1 i
def Ag0 (i:Nat) (o:Oper):Bool:=o.after.all λe => !Region.binds .any e || Nat.blt e.on i
def AE7 (o:Oper):List Nat:=o.after.toList.filterMap λe=>bif Region.binds .any e then some e.on else none
def AY5 (ops:List Oper):Nat->List Nat->List Nat
 | 0,m=>m
 | i+1,m=>AY5 ops i (bif m.any (Nat.beq i) then ((ops[i]?).map AE7).getD []++m else m)
def Bv8 (ops:List Oper) (i:Nat) (o:Oper):Bool:=(List.range i).all λj=>(AY5 ops i (AE7 o)).any (Nat.beq j)
def P7 (ops:List Oper):List Tmp:=ops.filterMap (·.dst)
def Ag1:List Nat->Bool
 | []=>true
 | x::r=>r.all (λy => !Nat.beq x y) && Ag1 r
def BW0 (ops:List Oper) (N h:Nat) (deps:List (List (Tmp×Nat))):Bool :=
 ops.zipIdx.all (λq=>Ag0 q.2 q.1) && Ag1 (P7 (ops.take h)) &&
 ops.zipIdx.all (λq=>if Nat.blt q.2 h then Au4 (ops.take h) N q.2 q.1 (deps.getD q.2 []) else Bv8 ops q.2 q.1) &&
 Nat.ble h ops.length
def gOk (P:Program) (ops:List Oper) (o:Oper) (s:Sp) (w:World) (σ:Env):Prop :=
 match o.guard with
 | none=>Gv P o σ w λv w'=>Ext w w'/\Sp.ok s v w'
 | some (j,b)=>match (ops[j]?).bind (·.dst) with
  | none=>False
  | some t=>match look σ t with
   | none=>False
   | some (.bool c)=>bif Bool.xor c b then Sp.ok s undef w else Gv P o σ w λv w'=>Ext w w'/\Sp.ok s v w'
   | some _=>Sp.ok s undef w
def Be4 (sp:List Sp) (G:Env->Prop) (w:World):List (Tmp×Nat)->Env->Prop
 | [],σ=>G σ
 | (t,j)::r,σ=>match sp[j]? with
  | some (.inl v)=>Be4 sp G w r ((t,v)::σ)
  | some (.inr p)=>∀ v,p v w->Be4 sp G w r ((t,v)::σ)
  | none=>False
def Obs (P:Program) (w0:World) (σ0:Env) (ops:List Oper) (sp:List Sp):List Oper->List Sp->List (List (Tmp×Nat))->Prop
 | o::os,s::ss,d::dd=>(∀ w,Ext w0 w->Be4 sp (gOk P ops o s w) w d σ0)/\Obs P w0 σ0 ops sp os ss dd
 | [],[],[]=>True
 | _,_,_=>False
def Ac2 (K:Env->World->Prop) (w:World):List Oper->List Sp->Env->Prop
 | o::os,s::ss,σ=>match s with
  | .inl v=>Ac2 K w os ss (AP9 o.dst v σ)
  | .inr p=>∀ v,p v w->Ac2 K w os ss (AP9 o.dst v σ)
 | _,_,σ=>K σ w
theorem U4:∀ {l:List Nat},Ag1 l=true->l.Nodup
 | [],_=>List.nodup_nil
 | x::r,h=>by
  simp only[Ag1,aO,aR] at h
  refine List.nodup_cons.2 ⟨λhx=>?_,U4 h.2⟩
  have:=h.1 x hx
  simp at this
def cnt (listed:Array Bool):Nat->Nat
 | 0=>0
 | k+1=>cnt listed k+if listed.getD k true then 0 else 1
theorem BC9 (listed:Array Bool) (i:Nat):∀ k,cnt (listed.setIfInBounds i true) k<=cnt listed k
 | 0=>aA _
 | k+1=>by
  have ih:=BC9 listed i k
  simp only[cnt]
  by_cases e:i=k
  ·subst e
   have h1:(listed.setIfInBounds i true).getD i true=true:=by by_cases hi:i<listed.size<;>simp[hi]
   rw[h1];simp;omega
  ·have h1:(listed.setIfInBounds i true).getD k true=listed.getD k true:=by simp[bM e]
   rw[h1];omega
theorem AT4 (listed:Array Bool) (i:Nat) (hi:listed.getD i true=false):∀ k,i<k->cnt (listed.setIfInBounds i true) k<cnt listed k
 | 0,h=>by omega
 | k+1,h=>by
  simp only[cnt]
  by_cases e:i=k
  ·subst e
   have h1:(listed.setIfInBounds i true).getD i true=true:=by by_cases hi:i<listed.size<;>simp[hi]
   rw[h1,hi];have:=BC9 listed i i;simp;omega
  ·have h1:(listed.setIfInBounds i true).getD k true=listed.getD k true:=by simp[bM e]
   rw[h1];have:=AT4 listed i hi k (by omega);omega
theorem Al6 (listed:Array Bool):∀ k,cnt listed k=0->∀ i,i<k->listed.getD i true=true
 | 0,_,i,h=>by omega
 | k+1,h,i,hi=>by
  simp only[cnt] at h
  by_cases e:i=k
  ·subst e
   by_cases hh:listed.getD i true=true
   ·exact hh
   ·rw[if_neg hh] at h;omega
  ·exact Al6 listed k (by omega) i (by omega)
section
variable {P:Program} {ro:Option Nat} {N:Nat} {ds:List Deferred} {ops:List Oper} {K:Env->World->Prop} {σ0:Env} {w0:World} {h:Nat} {sp:List Sp} {deps:List (List (Tmp×Nat))} {a0:Act}
def isL (listed:Array Bool) (i:Nat):Prop:=listed.getD i false=true
structure InvA (N:Nat) (ds:List Deferred) (ops:List Oper) (w0:World) (h:Nat) (sp:List Sp) (a0:Act) (listed:Array Bool) (a:Act) (w:World):Prop where
 size:a.tmps.size=N
 defs:a.defers=ds
 ext:Ext w0 w
 vals:∀ (i:Nat) (o:Oper) (s:Sp) (t:Tmp),i<h->ops[i]?=some o->sp[i]?=some s->isL listed i->o.dst=some t->Sp.ok s (a.tmps.getD t undef) w
 old:∀ t,(∀ (i:Nat) (o:Oper),i<h->ops[i]?=some o->isL listed i->o.dst≠some t)->a.tmps.getD t undef=a0.tmps.getD t undef
 shut:∀ (i:Nat) (o:Oper),ops[i]?=some o->isL listed i->∀ j,I3 o j=true->isL listed j
 head:∀ i,h<=i->¬ isL listed i
theorem Obs.at_ {P:Program} {w0:World} {σ0:Env} {ops:List Oper} {sp:List Sp}:∀ {os:List Oper} {ss:List Sp} {dd:List (List (Tmp×Nat))},Obs P w0 σ0 ops sp os ss dd->∀ (i:Nat) (o:Oper),os[i]?=some o ->
  ∃ s d,ss[i]?=some s/\dd[i]?=some d/\∀ w,Ext w0 w->Be4 sp (gOk P ops o s w) w d σ0
 | [],_,_,_,i,o,hi=>by simp at hi
 | o'::os,[],_,h,i,o,hi=>by simp[Obs] at h
 | o'::os,s::ss,[],h,i,o,hi=>by simp[Obs] at h
 | o'::os,s::ss,d::dd,h,0,o,hi=>by
  simp at hi;subst hi
  exact⟨s,d,rfl,rfl,h.1⟩
 | o'::os,s::ss,d::dd,h,i+1,o,hi=>by
  obtain⟨s',d',h1,h2,h3⟩:=Obs.at_ h.2 i o (by simpa using hi)
  exact⟨s',d',by simpa using h1,by simpa using h2,h3⟩
theorem Obs.len {P:Program} {w0:World} {σ0:Env} {ops:List Oper} {sp:List Sp}:∀ {os:List Oper} {ss:List Sp} {dd:List (List (Tmp×Nat))},Obs P w0 σ0 ops sp os ss dd->ss.length=os.length
 | [],[],[],_=>rfl
 | [],[],_::_,h=>by simp[Obs] at h
 | [],_::_,_,h=>by simp[Obs] at h
 | o'::os,[],_,h=>by simp[Obs] at h
 | o'::os,s::ss,[],h=>by simp[Obs] at h
 | o'::os,s::ss,d::dd,h=>by simp[Obs.len h.2]
theorem O0 {o:Oper} {j:Nat}:I3 o j=true<->∃ e∈o.after,Region.binds .any e=true/\e.on=j:=by unfold I3;simp only[Array.any_eq_true',aO,Nat.beq_eq]
theorem AE9 {ops:List Oper} {listed:Array Bool} (shut:∀ (i:Nat) (o:Oper),ops[i]?=some o->isL listed i->∀ j,I3 o j=true->isL listed j) :
  ∀ (n:Nat) (m:List Nat),(∀ j∈m,isL listed j)->∀ j∈AY5 ops n m,isL listed j
 | 0,m,h,j,hj=>h j hj
 | n+1,m,h,j,hj=>by
  unfold AY5 at hj
  refine AE9 shut n _ (λk hk=>?_) j hj
  cases hc:m.any (Nat.beq n) with
  | false=>rw[hc] at hk;exact h k hk
  | true =>
   rw[hc] at hk
   simp only[cond_true,eJ] at hk
   rcases hk with hk | hk
   ·cases ho:ops[n]? with
    | none=>rw[ho] at hk;simp at hk
    | some o =>
     rw[ho] at hk
     simp only[cY,gT,AE7,dH] at hk
     obtain⟨e,he,hb⟩:=hk
     obtain⟨x,hx,hxe⟩:=List.any_eq_true.1 hc
     have hxn:n=x:=bH hxe
     subst hxn
     have hbb:Region.binds .any e=true:=by
      cases h':Region.binds .any e with
      | true=>rfl
      | false=>rw[h'] at hb;simp at hb
     rw[hbb] at hb
     simp at hb
     exact shut n o ho (h n hx) k (O0.2 ⟨e,by simpa using he,hbb,hb⟩)
   ·exact h k hk
theorem BC7 {sp:List Sp} {G:Env->Prop} {w:World} {val:Tmp->Value}:∀ (d:List (Tmp×Nat)) (σ:Env),Be4 sp G w d σ ->
  (∀ p∈d,∃ s,sp[p.2]?=some s/\Sp.ok s (val p.1) w) ->
  ∃ σ',G σ'/\(∀ t v,look σ' t=some v->v=val t\/(look σ t=some v/\∀ p∈d,p.1≠t))
 | [],σ,h,_=>⟨σ,h,λt v hv=>.inr ⟨hv,by simp⟩⟩
 | (t,j)::r,σ,h,hd=>by
  obtain⟨s,hs,hok⟩:=hd (t,j) (by simp)
  simp only at hs hok
  have step:∀ v,v=val t->Be4 sp G w r ((t,v)::σ)->∃ σ',G σ'/\(∀ u v,look σ' u=some v->v=val u\/(look σ u=some v/\∀ p∈(t,j)::r,p.1≠u)):=by
   intro v hv hq
   obtain⟨σ',hG,hl⟩:=BC7 r ((t,v)::σ) hq (λp hp=>hd p (by simp[hp]))
   refine⟨σ',hG,λu x hx=>?_⟩
   rcases hl u x hx with e | ⟨hx',hr⟩
   ·exact .inl e
   ·by_cases e:t=u
    ·subst e
     simp[look] at hx'
     exact .inl (by rw[<-hx',hv])
    ·simp only[look,AK5 e,cond_false] at hx'
     refine .inr ⟨hx',λp hp=>?_⟩
     rcases List.mem_cons.1 hp with rfl | hp
     ·exact e
     ·exact hr p hp
  simp only[Be4,hs] at h
  cases s with
  | inl x=>exact step x hok.symm h
  | inr p=>exact step (val t) O (h _ (hok w (Ext.refl w)))
theorem BX2 {w:World} {ds:List Deferred}:∀ (os:List Oper) (ss:List Sp) (σ:Env) (a:Act),ss.length=os.length->Ac2 K w os ss σ->(∀ o∈os,dOk N o.dst=true) ->
  (∀ (i:Nat) (o:Oper) (s:Sp) (t:Tmp),os[i]?=some o->ss[i]?=some s->o.dst=some t->Sp.ok s (a.tmps.getD t undef) w) ->
  (∀ t v,look σ t=some v->(∀ o∈os,o.dst≠some t)->a.tmps.getD t undef=v)->(P7 os).Nodup->a.tmps.size=N->a.defers=ds ->
  (∀ (i:Nat) (o:Oper) (s:Sp),os[i]?=some o->ss[i]?=some s->o.dst=none->Sp.ok s undef w) ->
  ∃ σ',Agr N σ' ds a/\K σ' w:=by
 intro os;induction os with
 | nil =>
  intro ss σ a hlen h _ _ hold _ hs hd _
  cases ss with
  | nil=>exact⟨σ,⟨hs,hd,λt v hv=>hold t v hv (by simp)⟩,h⟩
  | cons s ss=>simp at hlen
 | cons o os ih =>
  intro ss σ a hlen h hdok hval hold hnd hs hd hnone
  cases ss with
  | nil=>simp at hlen
  | cons s ss =>
   have fin:∀ v,(∀ t,o.dst=some t->a.tmps.getD t undef=v)->Ac2 K w os ss (AP9 o.dst v σ)->∃ σ',Agr N σ' ds a/\K σ' w:=by
    intro v hv hq;refine ih ss (AP9 o.dst v σ) a (by simpa using hlen) hq (λo' ho'=>hdok o' (by simp[ho'])) (λi o' s' t h1 h2 h3=>hval (i+1) o' s' t (by simpa using h1) (by simpa using h2) h3) ?_ ?_ hs hd
     (λi o' s' h1 h2 h3=>hnone (i+1) o' s' (by simpa using h1) (by simpa using h2) h3)
    ·intro t x hx hno
     cases ho:o.dst with
     | none=>rw[ho] at hx;exact hold t x hx (by simpa[ho] using hno)
     | some u =>
      rw[ho] at hx;by_cases e:u=t
      ·subst e;simp[AP9,look] at hx;rw[<-hx];exact hv u ho
      ·simp only[AP9,look,AK5 e,cond_false] at hx;exact hold t x hx (by simpa[ho,e] using hno)
    ·cases ho:o.dst with
     | none=>simpa[P7,ho] using hnd
     | some u =>
      have:(u::P7 os).Nodup:=by simpa[P7,ho] using hnd
      exact (List.nodup_cons.1 this).2
   cases s with
   | inl x =>
    refine fin x (λt ht=>hval 0 o (.inl x) t O O ht) h
   | inr p =>
    cases ho:o.dst with
    | none=>exact fin undef (λt ht=>by rw[ho] at ht;cases ht) (h undef (hnone 0 o (.inr p) rfl rfl ho w (Ext.refl w)))
    | some t=>exact fin (a.tmps.getD t undef) (λt' ht'=>by rw[ho] at ht';cases ht';rfl) (h _ (hval 0 o (.inr p) t rfl rfl ho w (Ext.refl w)))
theorem V7 {ops:Array Oper} {listed:Array Bool} {i:Nat}:i∈Region.ready .any ops listed<->i<ops.size/\listed.getD i true=false/\∀ o,ops[i]?=some o->∀ j,I3 o j=true->isL listed j:=by
 unfold Region.ready;rw[cL,cM];refine and_congr_right λhi=>?_;rw[dR hi];simp only[aO,dI,cY,gT,Option.some.injEq,forall_eq'];refine and_congr_right λ_=>?_;simp only[fZ,aX,dI,O0,isL];constructor
 ·rintro h j ⟨e,he,hb,rfl⟩;rcases h e he with h | h
  ·rw[hb] at h;cases h
  ·exact h
 ·intro h e he
  cases hb:Region.binds .any e with
  | false=>exact .inl rfl
  | true=>exact .inr (h e.on ⟨e,he,hb,rfl⟩)
theorem K0 {listed:Array Bool} {i:Nat} (h:i<listed.size):(listed.getD i true=false<->¬ isL listed i):=by unfold isL;simp[h]
theorem M1 {listed:Array Bool} {i j:Nat} (h:i<listed.size):isL (listed.setIfInBounds i true) j<->(i=j\/isL listed j):=by
 unfold isL;by_cases e:i=j
 ·subst e;simp[h]
 ·simp[bM e,e]
theorem cnt_le (listed:Array Bool):∀ k,cnt listed k<=k
 | 0=>aA _
 | k+1=>by
  have:=cnt_le listed k
  simp only[cnt]
  split<;>omega
end
def Vl (P:Program) (o:Oper) (σ:Env) (w:World) (v:Value):Prop :=
 (∀ c,o.op≠.defer c)/\∀ ρ:Operand->Value,(∀ x v,x∈o.op.operands->ev σ x=some v->ρ x=v)->(execOp ρ o).run P w=.ok (.value v) w
section
variable {P:Program} {ro:Option Nat} {N:Nat} {ds:List Deferred} {ops:Array Oper} {K:Env->World->Prop} {rest:List Oper} {σ:Env} {w:World} {o:Oper} {v:Value}
theorem Vl.gv (h:Vl P o σ w v):Gv P o σ w λv' w'=>v'=v/\w'=w:=⟨h.1,λρ hρ=>.inl ⟨v,w,h.2 ρ hρ,rfl,rfl⟩⟩
theorem WL.vl (hg:o.guard=none) (hd:dOk N o.dst=true) (h:Vl P o σ w v) (k:WL P ro N ds ops K rest (AP9 o.dst v σ) w):WL P ro N ds ops K (o::rest) σ w :=
 WL.gv hg hd h.gv λv' w' ⟨e1,e2⟩=>by subst e1;subst e2;exact k
theorem Vl.ob (h:Vl P o σ w v):Gv P o σ w λv' w'=>Ext w w'/\Sp.ok (.inl v) v' w':=h.gv.mono λv' w' ⟨e1,e2⟩=>by subst e2;exact⟨Ext.refl _,e1⟩
end
section
variable {P:Program} {σ:Env} {w:World} {d:Option Tmp} {ty:TypeId} {pos:String} {af:Array Edge} {g:Option (Nat×Bool)}
theorem v_mv {x:Operand} {v:Value} (h:ev σ x=some v):Vl P ⟨d,.move x,ty,pos,af,g⟩ σ w v :=
 ⟨(by intro _ h;cases h),λρ hρ=>by rw[<-hρ x v (by simp[Op.operands]) h];rfl⟩
theorem AR9 {x:Operand} {v:Value} (h:ev σ x=some v):Vl P ⟨d,.assign x,ty,pos,af,g⟩ σ w v :=
 ⟨(by intro _ h;cases h),λρ hρ=>by rw[<-hρ x v (by simp[Op.operands]) h];rfl⟩
theorem BM1 {c x y:Operand} {v:Value} (hc:ev σ c=some (.bool true)) (h:ev σ x=some v):Vl P ⟨d,.pick c x y,ty,pos,af,g⟩ σ w v :=
 ⟨(by intro _ h;cases h),λρ hρ=>by
  have h1:=hρ c _ (by simp[Op.operands]) hc
  have h2:=hρ x _ (by simp[Op.operands]) h
  simp[execOp,h1,h2,asBool]⟩
theorem Aa5 {c x y:Operand} {v:Value} (hc:ev σ c=some (.bool false)) (h:ev σ y=some v):Vl P ⟨d,.pick c x y,ty,pos,af,g⟩ σ w v :=
 ⟨(by intro _ h;cases h),λρ hρ=>by
  have h1:=hρ c _ (by simp[Op.operands]) hc
  have h2:=hρ y _ (by simp[Op.operands]) h
  simp[execOp,h1,h2,asBool]⟩
theorem v_mf {fn:Fn} {fs cs:Array Operand} {v:Value} (vf vc:List Value) (hf:fs.toList.map (ev σ)=vf.map some) (hc:cs.toList.map (ev σ)=vc.map some) (hv:v=.func fn vf.toArray vc.toArray) :
  Vl P ⟨d,.makeFunc fn fs cs,ty,pos,af,g⟩ σ w v:=by
 refine⟨(by intro _ h;cases h),λρ hρ=>?_⟩;have key:∀ (l:List Operand) (vs:List Value),(∀ x∈l,x∈fs++cs)->l.map (ev σ)=vs.map some->l.map ρ=vs:=by
  intro l;induction l with
  | nil=>intro vs _ h;cases vs with
   | nil=>rfl
   | cons=>simp at h
  | cons x l ih =>
   intro vs hm h
   cases vs with
   | nil=>simp at h
   | cons y vs =>
    simp only[dT,List.cons.injEq] at h ⊢;exact⟨hρ x y (by simpa[Op.operands] using hm x (by simp)) h.1,ih vs (λz hz=>hm z (by simp[hz])) h.2⟩
 have h1:=key fs.toList vf (λx hx=>by simp at hx;simp[hx]) hf;have h2:=key cs.toList vc (λx hx=>by simp at hx;simp[hx]) hc;have e1:fs.map ρ=vf.toArray:=by apply Array.toList_inj.1;simpa using h1
 have e2:cs.map ρ=vc.toArray:=by apply Array.toList_inj.1;simpa using h2
 simp[execOp,Instr.makeFunc,e1,e2,hv]
theorem AA8 {op:BinOp} {xt yt:TypeId} {x y:Operand} {vx vy v:Value} (hx:ev σ x=some vx) (hy:ev σ y=some vy)
  (hg:∀ (a b:Operand),(eqGuard op xt a b vx vy).run P w=.ok () w) (h:(binOp op xt vx vy).run P w=.ok v w):Vl P ⟨d,.binOp op xt x y yt,ty,pos,af,g⟩ σ w v :=
 ⟨(by intro _ h;cases h),λρ hρ=>by
  have h1:=hρ x _ (by simp[Op.operands]) hx
  have h2:=hρ y _ (by simp[Op.operands]) hy
  simp[execOp,h1,h2,hg,h]⟩
theorem J8 {op:BinOp} {t:TypeId} {k k':IntKind} {m n:Int} (a b:Operand):(eqGuard op t a b (.int k m) (.int k' n)).run P w=.ok () w:=by
 unfold eqGuard
 cases op<;>simp
theorem BA9 {op:BinOp} {t:TypeId} {m n:Bool} (a b:Operand):(eqGuard op t a b (.bool m) (.bool n)).run P w=.ok () w:=by
 unfold eqGuard
 cases op<;>simp
section
variable {xt yt:TypeId} {x y:Operand} {k:IntKind} {m n:Int}
theorem Bg6 (hx:ev σ x=some (.int k m)) (hy:ev σ y=some (.int k n)):Vl P ⟨d,.binOp .add xt x y yt,ty,pos,af,g⟩ σ w (.int k (k.wrap (m+n))) :=
 AA8 hx hy J8 (by simp[binOp,Op.intArith])
theorem AL5 (hx:ev σ x=some (.int k m)) (hy:ev σ y=some (.int k n)):Vl P ⟨d,.binOp .sub xt x y yt,ty,pos,af,g⟩ σ w (.int k (k.wrap (m-n))) :=
 AA8 hx hy J8 (by simp[binOp,Op.intArith])
theorem Br8 (hx:ev σ x=some (.int k m)) (hy:ev σ y=some (.int k n)):Vl P ⟨d,.binOp .mul xt x y yt,ty,pos,af,g⟩ σ w (.int k (k.wrap (m*n))) :=
 AA8 hx hy J8 (by simp[binOp,Op.intArith])
theorem Ay1 (hx:ev σ x=some (.int k m)) (hy:ev σ y=some (.int k n)) (hn:n≠0):Vl P ⟨d,.binOp .quo xt x y yt,ty,pos,af,g⟩ σ w (.int k (k.wrap (m.tdiv n))) :=
 AA8 hx hy J8 (by simp[binOp,Op.intDiv,hn])
theorem Ay0 (hx:ev σ x=some (.int k m)) (hy:ev σ y=some (.int k n)) (hn:n≠0):Vl P ⟨d,.binOp .rem xt x y yt,ty,pos,af,g⟩ σ w (.int k (m.tmod n)) :=
 AA8 hx hy J8 (by simp[binOp,Op.intDiv,hn])
theorem v_and (hx:ev σ x=some (.int k m)) (hy:ev σ y=some (.int k n)):Vl P ⟨d,.binOp .and xt x y yt,ty,pos,af,g⟩ σ w (.int k (k.wrap (BitVec.ofInt k.bits m &&& BitVec.ofInt k.bits n).toNat)) :=
 AA8 hx hy J8 (by simp[binOp,Op.intBits])
theorem v_or (hx:ev σ x=some (.int k m)) (hy:ev σ y=some (.int k n)):Vl P ⟨d,.binOp .or xt x y yt,ty,pos,af,g⟩ σ w (.int k (k.wrap (BitVec.ofInt k.bits m ||| BitVec.ofInt k.bits n).toNat)) :=
 AA8 hx hy J8 (by simp[binOp,Op.intBits])
theorem v_xor (hx:ev σ x=some (.int k m)) (hy:ev σ y=some (.int k n)):Vl P ⟨d,.binOp .xor xt x y yt,ty,pos,af,g⟩ σ w (.int k (k.wrap (BitVec.ofInt k.bits m ^^^ BitVec.ofInt k.bits n).toNat)) :=
 AA8 hx hy J8 (by simp[binOp,Op.intBits])
theorem Bg2 {k':IntKind} (hx:ev σ x=some (.int k m)) (hy:ev σ y=some (.int k' n)) (h0:0<=n):Vl P ⟨d,.binOp .shl xt x y yt,ty,pos,af,g⟩ σ w (.int k (k.wrap (m*2 ^ (min n.toNat k.bits)))) :=
 AA8 hx hy J8 (by simp[binOp,Op.shift,Int.not_lt.2 h0])
theorem v_shr {k':IntKind} (hx:ev σ x=some (.int k m)) (hy:ev σ y=some (.int k' n)) (h0:0<=n):Vl P ⟨d,.binOp .shr xt x y yt,ty,pos,af,g⟩ σ w (.int k (m.fdiv (2 ^ (min n.toNat k.bits)))) :=
 AA8 hx hy J8 (by simp[binOp,Op.shift,Int.not_lt.2 h0])
theorem Ai5 (hx:ev σ x=some (.int k m)) (hy:ev σ y=some (.int k n)):Vl P ⟨d,.binOp .eql xt x y yt,ty,pos,af,g⟩ σ w (.bool (m == n)) :=
 AA8 hx hy J8 (by simp[binOp,Op.intCmp])
theorem Br7 (hx:ev σ x=some (.int k m)) (hy:ev σ y=some (.int k n)):Vl P ⟨d,.binOp .neq xt x y yt,ty,pos,af,g⟩ σ w (.bool (m != n)) :=
 AA8 hx hy J8 (by simp[binOp,Op.intCmp])
theorem Aq4 (hx:ev σ x=some (.int k m)) (hy:ev σ y=some (.int k n)):Vl P ⟨d,.binOp .lss xt x y yt,ty,pos,af,g⟩ σ w (.bool (decide (m<n))) :=
 AA8 hx hy J8 (by simp[binOp,Op.intCmp])
theorem v_leq (hx:ev σ x=some (.int k m)) (hy:ev σ y=some (.int k n)):Vl P ⟨d,.binOp .leq xt x y yt,ty,pos,af,g⟩ σ w (.bool (decide (m<=n))) :=
 AA8 hx hy J8 (by simp[binOp,Op.intCmp])
theorem Ac8 (hx:ev σ x=some (.int k m)) (hy:ev σ y=some (.int k n)):Vl P ⟨d,.binOp .gtr xt x y yt,ty,pos,af,g⟩ σ w (.bool (decide (n<m))) :=
 AA8 hx hy J8 (by simp[binOp,Op.intCmp])
theorem BT3 (hx:ev σ x=some (.int k m)) (hy:ev σ y=some (.int k n)):Vl P ⟨d,.binOp .geq xt x y yt,ty,pos,af,g⟩ σ w (.bool (decide (n<=m))) :=
 AA8 hx hy J8 (by simp[binOp,Op.intCmp])
theorem v_neg (hx:ev σ x=some (.int k m)):Vl P ⟨d,.unOp .neg xt x,ty,pos,af,g⟩ σ w (.int k (k.wrap (0-m))) :=
 ⟨(by intro _ h;cases h),λρ hρ=>by
  have h1:=hρ x _ (by simp[Op.operands]) hx
  simp[execOp,h1,Op.unary,Op.intArith]⟩
theorem AL6 {k':IntKind} {s t:TypeId} {ds:TypeDesc} (hs:P.underlying s=some ds) (ht:P.underlying t=some (.int k')) (hx:ev σ x=some (.int k m)):Vl P ⟨d,.convert s t x,ty,pos,af,g⟩ σ w (.int k' (k'.wrap m)) :=
 ⟨(by intro _ h;cases h),λρ hρ=>by
  have h1:=hρ x _ (by simp[Op.operands]) hx
  simp[execOp,h1,convert,run_underlying hs,run_underlying ht,Conv.intToInt]⟩
end
theorem BJ1 {xt:TypeId} {x:Operand} {b:Bool} (hx:ev σ x=some (.bool b)):Vl P ⟨d,.unOp .not xt x,ty,pos,af,g⟩ σ w (.bool (!b)) :=
 ⟨(by intro _ h;cases h),λρ hρ=>by
  have h1:=hρ x _ (by simp[Op.operands]) hx
  simp[execOp,h1,Op.unary]⟩
theorem v_eqlB {xt yt:TypeId} {x y:Operand} {a b:Bool} (ht:P.underlying xt=some .bool) (hx:ev σ x=some (.bool a)) (hy:ev σ y=some (.bool b)):Vl P ⟨d,.binOp .eql xt x y yt,ty,pos,af,g⟩ σ w (.bool (a == b)) :=
 AA8 hx hy BA9 (run_eql_bool _ _ _ _ ht)
theorem BM2 {xt yt:TypeId} {x y:Operand} {a b:Bool} (ht:P.underlying xt=some .bool) (hx:ev σ x=some (.bool a)) (hy:ev σ y=some (.bool b)):Vl P ⟨d,.binOp .neq xt x y yt,ty,pos,af,g⟩ σ w (.bool (a != b)) :=
 AA8 hx hy BA9 (run_neq_bool _ _ _ _ ht)
theorem AA1 {x:Operand} {i:Nat} {vs:Array Value} {v:Value} (hx:ev σ x=some (.tuple vs)) (hi:vs[i]?=some v):Vl P ⟨d,.extract x i,ty,pos,af,g⟩ σ w v :=
 ⟨(by intro _ h;cases h),λρ hρ=>by
  have h1:=hρ x _ (by simp[Op.operands]) hx
  simp[execOp,h1,Instr.extract,hi]⟩
theorem v_len {t e:TypeId} {x:Operand} {a:Option Addr} {n c:Nat} (ht:P.underlying t=some (.slice e)) (hx:ev σ x=some (.slice a n c)) :
  Vl P ⟨d,.call { callee:=.builtin .len,args:=#[x],argTypes:=#[t] },ty,pos,af,g⟩ σ w (.int .i64 n) :=
 ⟨(by intro _ h;cases h),λρ hρ=>by
  have h1:=hρ x _ (by simp[Op.operands,Call.operands]) hx
  simp[execOp,h1,resolve,invoke,builtin,Builtin.len_,run_underlying ht,goInt]⟩
theorem v_min {ts:Array TypeId} {x y:Operand} {k:IntKind} {m n:Int} (hx:ev σ x=some (.int k m)) (hy:ev σ y=some (.int k n)) :
  Vl P ⟨d,.call { callee:=.builtin .min,args:=#[x,y],argTypes:=ts },ty,pos,af,g⟩ σ w (.int k (min m n)) :=
 ⟨(by intro _ h;cases h),λρ hρ=>by
  have h1:=hρ x _ (by simp[Op.operands,Call.operands]) hx
  have h2:=hρ y _ (by simp[Op.operands,Call.operands]) hy
  have e:(if n<m then n else m)=min m n:=by omega
  simp[execOp,h1,h2,resolve,invoke,builtin,Builtin.min_,Builtin.min2,e]⟩
theorem v_max {ts:Array TypeId} {x y:Operand} {k:IntKind} {m n:Int} (hx:ev σ x=some (.int k m)) (hy:ev σ y=some (.int k n)) :
  Vl P ⟨d,.call { callee:=.builtin .max,args:=#[x,y],argTypes:=ts },ty,pos,af,g⟩ σ w (.int k (max m n)) :=
 ⟨(by intro _ h;cases h),λρ hρ=>by
  have h1:=hρ x _ (by simp[Op.operands,Call.operands]) hx
  have h2:=hρ y _ (by simp[Op.operands,Call.operands]) hy
  have e:(if m<n then n else m)=max m n:=by omega
  simp[execOp,h1,h2,resolve,invoke,builtin,Builtin.max_,Builtin.max2,e]⟩
end
def wlI (P:Program) (ro:Option Nat) (fl:Bool) (I:World->Prop) (Q:Exit->Act->World->Prop):List Oper->Act->World->Prop
 | [],a,w=>(fl=true\/I w)/\Q .normal a w
 | o::rest,a,w=>I w/\o.wpIn (wf ro) 0 P a w (wlI P ro fl I Q rest) Q
structure WLI (P:Program) (ro:Option Nat) (N:Nat) (ds:List Deferred) (fl:Bool) (I:World->Prop) (K:Env->World->Prop) (l:List Oper) (σ:Env) (w:World):Prop where
 out:∀ a,Agr N σ ds a->wlI P ro fl I (λe a w=>e=.normal/\∃ σ',Agr N σ' ds a/\K σ' w) l a w
section
variable {P:Program} {ro:Option Nat} {N:Nat} {ds:List Deferred} {fl:Bool} {I:World->Prop} {K:Env->World->Prop} {rest:List Oper} {σ:Env} {w:World}
theorem WLI.nil (hI:fl=true\/I w) (h:K σ w):WLI P ro N ds fl I K [] σ w:=⟨λa ha=>⟨hI,rfl,σ,ha,h⟩⟩
theorem WLI.gv {o:Oper} {R:Value->World->Prop} (hI:I w) (hd:dOk N o.dst=true) (h:Gv P o σ w R) (k:∀ v w',R v w'->WLI P ro N ds fl I K rest (AP9 o.dst v σ) w'):WLI P ro N ds fl I K (o::rest) σ w :=
 ⟨λa ha=>⟨hI,h.wp (λx v _ hx=>ha.ev hx) λv w' hr=>(k v w' hr).out _ (ha.put hd v)⟩⟩
end
def S5 (ops:List Oper):Nat->Nat->Nat->Bool
 | 0,i,j=>(ops[i]?).any λo=>I3 o j
 | f+1,i,j=>(ops[i]?).any λo=>I3 o j || o.after.any λe=>Region.binds .any e && S5 ops f e.on j
def BG9:List Oper->List (Option Value)->Env->Env
 | o::os,some v::hs,σ=>BG9 os hs (AP9 o.dst v σ)
 | _::os,none::hs,σ=>BG9 os hs σ
 | _,_,σ=>σ
def tOps:List Oper->List (Option Value)->List Oper
 | o::os,none::hs=>o::tOps os hs
 | _::os,some _::hs=>tOps os hs
 | _,_=>[]
def isH (hv:List (Option Value)) (i:Nat):Bool:=((hv[i]?).getD none).isSome
def BN9 (ops:List Oper) (hv:List (Option Value)):Bool :=
 match ops.getLast? with
 | some o => !(isH hv (ops.length-1)) && (List.range (ops.length-1)).all λi=>(AY5 ops (ops.length-1) (AE7 o)).any (Nat.beq i)
 | none=>false
def Bv9 (ops:List Oper) (N:Nat) (fl:Bool) (hv:List (Option Value)):Bool :=
 (!fl || BN9 ops hv) && Nat.beq hv.length ops.length && ops.zipIdx.all (λq=>Ag0 q.2 q.1) && Ag1 (P7 ops) &&
 ops.zipIdx.all λq =>
  dOk N q.1.dst && (match q.1.guard with | none=>true | _=>false) && (match q.1.op with | .defer _=>false | .select ..=>false | _=>true) &&
  (bif isH hv q.2 then
   q.1.dst.isSome && (S4 q.1).all λt=>ops.zipIdx.all λr=>r.1.dst != some t || (bif isH hv r.2 then S5 ops 3 q.2 r.2 else S5 ops 3 r.2 q.2)
  else
   ((S4 q.1).all λt=>ops.zipIdx.all λr=>r.1.dst != some t || !(isH hv r.2) || S5 ops 3 q.2 r.2) &&
   (List.range q.2).all λj=>isH hv j || S5 ops 3 q.2 j)
def Bn7 (P:Program) (I:World->Prop) (σH:Env):List Oper->List (Option Value)->Prop
 | o::os,some v::hs=>(∀ w,I w->Vl P o σH w v)/\Bn7 P I σH os hs
 | _::os,none::hs=>Bn7 P I σH os hs
 | [],[]=>True
 | _,_=>False
theorem AS5 {ops:List Oper} {listed:Array Bool} (shut:∀ (i:Nat) (o:Oper),ops[i]?=some o->isL listed i->∀ j,I3 o j=true->isL listed j) :
  ∀ (f i j:Nat) (o:Oper),ops[i]?=some o->(∀ j,I3 o j=true->isL listed j)->S5 ops f i j=true->isL listed j
 | 0,i,j,o,ho,he,h=>by
  simp only[S5,ho,Option.any_some] at h
  exact he j h
 | f+1,i,j,o,ho,he,h=>by
  simp only[S5,ho,Option.any_some,aX] at h
  rcases h with h | h
  ·exact he j h
  ·simp only[Array.any_eq_true',aO] at h
   obtain⟨e,hm,hb,hr⟩:=h
   have hl:isL listed e.on:=he e.on (O0.2 ⟨e,hm,hb,rfl⟩)
   cases ho':ops[e.on]? with
   | none=>cases f<;>simp[S5,ho'] at hr
   | some o'=>exact AS5 shut f e.on j o' ho' (λj hj=>shut e.on o' ho' hl j hj) hr
theorem BG6{ops:List Oper}{hv:List (Option Value)}(hk:BN9 ops hv=true){listed:Array Bool}(shut:∀ (i:Nat) (o:Oper),ops[i]?=some o->isL listed i->∀ j,I3 o j=true->isL listed j)(hT:∀ i,i<ops.length->isH hv i=false->isL listed i):∀ i,i<ops.length->isL listed i:=by
 unfold BN9 at hk
 cases hl:ops.getLast? with
 | none=>rw[hl] at hk;cases hk
 | some o =>
  rw[hl] at hk;simp only[aO,dI,aR,cM] at hk;have hne:ops≠[]:=λe=>by rw[e] at hl;cases hl
  have hlen:0<ops.length:=List.length_pos_iff.2 hne;have ho:ops[ops.length-1]?=some o:=by rw[<-List.getLast?_eq_getElem?];exact hl
  have hL:=hT (ops.length-1) (by omega) hk.1;intro i hi;by_cases e:i=ops.length-1
  ·rw[e];exact hL
  ·obtain⟨x,hx,hxe⟩:=List.any_eq_true.1 (hk.2 i (by omega));have:i=x:=bH hxe;subst this;refine AE9 shut _ _ (λj hj=>?_) i hx;simp only[AE7,dH] at hj;obtain⟨e,he,hb⟩:=hj;have hbb:Region.binds .any e=true:=by
    cases h':Region.binds .any e with
    | true=>rfl
    | false=>rw[h'] at hb;simp at hb
   rw[hbb] at hb;simp at hb;exact shut _ o ho hL j (O0.2 ⟨e,by simpa using he,hbb,hb⟩)
theorem Ac4{P:Program}{ro:Option Nat}{o:Oper}{a a':Act}{w:World}{next next':Act->World->Prop}{Q:Exit->Act->World->Prop}(hnd:∀ c,o.op≠.defer c)(hns:∀ cs b,o.op≠.select cs b)(he:∀ x∈o.op.operands,a.eval x=a'.eval x)(hQ:∀ e a w,Q e a w->e=.normal)(hn2:∀ (dd:List Deferred) v w',next' (({ a' with defers:=dd++a'.defers }:Act).put o.dst v) w'->next (({ a with defers:=dd++a.defers }:Act).put o.dst v) w')(h:o.wpIn (wf ro) 0 P a' w next' Q):o.wpIn (wf ro) 0 P a w next Q:=by
 refine⟨λ_ _=>trivial,?_⟩;have h2:=h.2;show o.uponIn (wf ro) 0 P a next Q ((o.semAt ro a.eval).run P w)
 have h3:o.uponIn (wf ro) 0 P a' next' Q ((o.semAt ro a'.eval).run P w):=h2;rw[Aj5 hnd] at h3 ⊢;rw[execOp_congr o hns he];generalize hr:(execOp a'.eval o).run P w=r at h3;have hn:∀ v w',next' (a'.put o.dst v) w'->next (a.put o.dst v) w':=λv w'=>hn2 [] v w'
 have noP:∀ c (b:Act) (w:World),¬ Q (.panic c) b w:=λc b w hq=>by have:=hQ _ _ _ hq;cases this
 have noO:¬ LetsOut Q:=fun⟨b,w,hq⟩=>by have:=hQ _ _ _ hq;cases this
 cases r with
 | ok x w' =>
  cases x with
  | value v=>exact hn _ _ h3
  | skip=>exact hn _ _ h3
  | defer d=>exact hn2 [d] _ _ h3
  | enter f args =>
   refine⟨h3.1,h3.2.mono λe w'' hq=>?_⟩
   cases e with
   | returned v=>exact hn _ _ hq
   | panicked c=>exact absurd hq (noP _ _ _)
   | outgrown=>exact absurd hq noO
  | row r args=>exact⟨h3.1,h3.2.mono λv w'' hq=>hn _ _ hq⟩
  | round l f tmps as_ body =>
   refine⟨h3.1,h3.2.mono λe w'' hq=>?_⟩
   cases e with
   | returned v=>exact hn _ _ hq
   | panicked c=>exact absurd hq (noP _ _ _)
   | outgrown=>exact absurd hq noO
  | _=>exact h3.elim
 | halt x w' =>
  cases x with
  | panic v=>exact absurd h3 (noP _ _ _)
  | _=>exact h3.elim
def BP3:List Oper->List (Option Value)->Act->Act
 | o::os,some v::hs,a=>BP3 os hs (a.put o.dst v)
 | _::os,none::hs,a=>BP3 os hs a
 | _,_,a=>a
theorem BA8 {N:Nat} {ds:List Deferred}:∀ (os:List Oper) (hs:List (Option Value)) (σ:Env) (a:Act),(∀ o∈os,dOk N o.dst=true)->Agr N σ ds a->Agr N (BG9 os hs σ) ds (BP3 os hs a)
 | [],_,σ,a,_,h=>h
 | o::os,[],σ,a,_,h=>h
 | o::os,some v::hs,σ,a,hd,h=>BA8 os hs _ _ (λo' ho'=>hd o' (by simp[ho'])) (h.put (hd o (by simp)) v)
 | o::os,none::hs,σ,a,hd,h=>BA8 os hs σ a (λo' ho'=>hd o' (by simp[ho'])) h
theorem AP8{N:Nat}{a:Act}(hs:a.tmps.size=N){v:Value}{t:Tmp}:(a.put d v).tmps.size=N/\(a.put d v).defers=a.defers/\(d≠some t->(a.put d v).tmps.getD t undef=a.tmps.getD t undef)/\(d=some t->t<N->(a.put d v).tmps.getD t undef=v):=by
 cases d with
 | none=>exact⟨hs,rfl,λ_=>rfl,λh=>by cases h⟩
 | some u =>
  refine⟨by simpa[Act.put] using hs,rfl,λh=>?_,λh ht=>?_⟩
  ·have:u≠t:=λe=>h (by rw[e]);simp[Act.put,bM this]
  ·cases h;simp[Act.put,hs,ht]
theorem AK0 {N:Nat}:∀ (os:List Oper) (hs:List (Option Value)) (a:Act) (t:Tmp),a.tmps.size=N->(∀ (i:Nat) (o:Oper),os[i]?=some o->isH hs i=true->o.dst≠some t)->(BP3 os hs a).tmps.getD t undef=a.tmps.getD t undef
 | [],_,a,t,_,_=>rfl
 | o::os,[],a,t,_,_=>rfl
 | o::os,some v::hs,a,t,hsz,h=>by
  have h0:=h 0 o O rfl
  have hp:=AP8 (v:=v) (t:=t) (d:=o.dst) hsz
  rw[BP3,AK0 os hs _ t hp.1 (λi o' ho' hi=>h (i+1) o' (by simpa using ho') (by simpa[isH] using hi)),hp.2.2.1 h0]
 | o::os,none::hs,a,t,hsz,h=>by rw[BP3,AK0 os hs a t hsz (λi o' ho' hi=>h (i+1) o' (by simpa using ho') (by simpa[isH] using hi))]
theorem BA7 {N:Nat}:∀ (os:List Oper) (hs:List (Option Value)) (a:Act),a.tmps.size=N->(P7 os).Nodup->∀ (i:Nat) (o:Oper) (t:Tmp) (v:Value),os[i]?=some o->hs[i]?=some (some v)->o.dst=some t->t<N->(BP3 os hs a).tmps.getD t undef=v
 | [],_,a,_,_,i,o,t,v,ho,_,_,_=>by simp at ho
 | o'::os,[],a,_,_,i,o,t,v,_,hv,_,_=>by simp at hv
 | o'::os,h'::hs,a,hsz,hnd,i,o,t,v,ho,hv,hd,ht=>by
  have hnd':(P7 os).Nodup:=by
   cases hc:o'.dst with
   | none=>simpa[P7,hc] using hnd
   | some u =>
    have:(u::P7 os).Nodup:=by simpa[P7,hc] using hnd
    exact (List.nodup_cons.1 this).2
  cases i with
  | zero =>
   simp at ho hv;subst ho;subst hv;have hp:=AP8 (v:=v) (t:=t) (d:=o'.dst) hsz;have hno:t∉P7 os:=by
    have:(t::P7 os).Nodup:=by simpa[P7,hd] using hnd
    exact (List.nodup_cons.1 this).1
   rw[BP3,AK0 os hs _ t hp.1 (λi o2 ho2 _ hd2=>hno (List.mem_filterMap.2 ⟨o2,List.mem_iff_getElem?.2 ⟨i,ho2⟩,hd2⟩))];exact hp.2.2.2 hd ht
  | succ i =>
   cases h' with
   | none=>exact BA7 os hs a hsz hnd' i o t v (by simpa using ho) (by simpa using hv) hd ht
   | some u=>exact BA7 os hs _ (AP8 (v:=u) (t:=t) (d:=o'.dst) hsz).1 hnd' i o t v (by simpa using ho) (by simpa using hv) hd ht
theorem AE8{ops:List Oper}(h:(P7 ops).Nodup):∀ {x y:Nat} {ox oy:Oper} {t:Tmp},ops[x]?=some ox->ops[y]?=some oy->ox.dst=some t->oy.dst=some t->x=y:=by
 induction ops with
 | nil=>intro x y ox oy t hx;simp at hx
 | cons c l ihl =>
  intro x y ox oy t hx hy dx dy;have hin:∀ (z:Nat) (oz:Oper),l[z]?=some oz->oz.dst=some t->t∈P7 l:=λz oz hz dz=>List.mem_filterMap.2 ⟨oz,List.mem_iff_getElem?.2 ⟨z,hz⟩,dz⟩;have hcons:∀ oc:Oper,oc=c->oc.dst=some t->t∉P7 l:=by
   rintro oc rfl hc;have:(t::P7 l).Nodup:=by simpa[P7,hc] using h
   exact (List.nodup_cons.1 this).1
  have hn':(P7 l).Nodup:=by
   cases hc:c.dst with
   | none=>simpa[P7,hc] using h
   | some u =>
    have:(u::P7 l).Nodup:=by simpa[P7,hc] using h
    exact (List.nodup_cons.1 this).2
  cases x with
  | zero =>
   simp at hx
   cases y with
   | zero=>rfl
   | succ y=>exact absurd (hin y oy (by simpa using hy) dy) (hcons ox hx.symm dx)
  | succ x =>
   cases y with
   | zero=>simp at hy;exact absurd (hin x ox (by simpa using hx) dx) (hcons oy hy.symm dy)
   | succ y=>exact congrArg (·+1) (ihl hn' (by simpa using hx) (by simpa using hy) dx dy)
theorem BP2 {P:Program} {I:World->Prop} {σH:Env}:∀ {os:List Oper} {hs:List (Option Value)},Bn7 P I σH os hs->∀ (i:Nat) (o:Oper) (v:Value),os[i]?=some o->hs[i]?=some (some v)->∀ w,I w->Vl P o σH w v
 | [],_,_,i,o,v,ho,_=>by simp at ho
 | o'::os,[],h,i,o,v,_,hv=>by simp at hv
 | o'::os,some u::hs,h,0,o,v,ho,hv=>by simp at ho hv;subst ho;subst hv;exact h.1
 | o'::os,none::hs,h,0,o,v,ho,hv=>by simp at hv
 | o'::os,some u::hs,h,i+1,o,v,ho,hv=>BP2 h.2 i o v (by simpa using ho) (by simpa using hv)
 | o'::os,none::hs,h,i+1,o,v,ho,hv=>BP2 (hs:=hs) h i o v (by simpa using ho) (by simpa using hv)
theorem Ao4:∀ (os:List Oper) (hs:List (Option Value)) (σ:Env) (t:Tmp) (v:Value),look (BG9 os hs σ) t=some v ->
  (∃ (i:Nat) (o:Oper),os[i]?=some o/\hs[i]?=some (some v)/\o.dst=some t)\/(look σ t=some v/\∀ (i:Nat) (o:Oper),os[i]?=some o->isH hs i=true->o.dst≠some t)
 | [],_,σ,t,v,h=>.inr ⟨h,λi o ho=>by simp at ho⟩
 | o::os,[],σ,t,v,h=>.inr ⟨h,λi o _ hi=>by simp[isH] at hi⟩
 | o::os,none::hs,σ,t,v,h=>by
  rcases Ao4 os hs σ t v h with ⟨i,o',h1,h2,h3⟩ | ⟨h1,h2⟩
  ·exact .inl ⟨i+1,o',by simpa using h1,by simpa using h2,h3⟩
  ·refine .inr ⟨h1,λi o' ho' hi=>?_⟩
   cases i with
   | zero=>simp[isH] at hi
   | succ i=>exact h2 i o' (by simpa using ho') (by simpa[isH] using hi)
 | o::os,some u::hs,σ,t,v,h=>by
  rcases Ao4 os hs (AP9 o.dst u σ) t v h with ⟨i,o',h1,h2,h3⟩ | ⟨h1,h2⟩
  ·exact .inl ⟨i+1,o',by simpa using h1,by simpa using h2,h3⟩
  ·by_cases hd:o.dst=some t
   ·rw[hd] at h1
    simp[AP9,look] at h1
    subst h1
    exact .inl ⟨0,o,rfl,rfl,hd⟩
   ·have h1':look σ t=some v:=by
     cases ho:o.dst with
     | none=>rw[ho] at h1;exact h1
     | some k =>
      rw[ho] at h1 hd;have:k≠t:=λe=>hd (by rw[e]);simpa[AP9,look,AK5 this] using h1
    refine .inr ⟨h1',λi o' ho' hi=>?_⟩
    cases i with
    | zero=>simp at ho';subst ho';exact hd
    | succ i=>exact h2 i o' (by simpa using ho') (by simpa[isH] using hi)
theorem Bx5{hv:List (Option Value)}{i:Nat}(h:isH hv i=true):∃ v,hv[i]?=some (some v):=by
 unfold isH at h
 cases hh:hv[i]? with
 | none=>rw[hh] at h;simp at h
 | some x =>
  cases x with
  | none=>rw[hh] at h;simp at h
  | some v=>exact⟨v,rfl⟩
section
variable {P:Program} {ro:Option Nat} {N:Nat} {ds:List Deferred} {ops:List Oper} {I:World->Prop} {K:Env->World->Prop} {σ0:Env} {w0:World} {hv:List (Option Value)} {a0:Act} {Q:Exit->Act->World->Prop}
end
def Blk (w:World) (b:Nat) (t:TypeId) (cs:Array Value):Prop:=w.heap[b]?=some (.cells cs t (0,0))
structure Upd (w w':World) (b:Nat):Prop where
 os:w'.os=w.os
 tape:w'.tape=w.tape
 output:w'.output=w.output
 size:w'.heap.size=w.heap.size
 block:∀ k,k≠b->w'.heap[k]?=w.heap[k]?
theorem Upd.refl(w:World)(b:Nat):Upd w w b:=⟨rfl,rfl,rfl,rfl,λ_ _=>rfl⟩
theorem Upd.trans{a b c:World}{k:Nat}(h:Upd a b k)(h':Upd b c k):Upd a c k :=
 ⟨h'.os.trans h.os,h'.tape.trans h.tape,h'.output.trans h.output,h'.size.trans h.size,λi hi=>(h'.block i hi).trans (h.block i hi)⟩
theorem Upd.below{w0 w w':World}{b:Nat}(h:Upd w w' b)(hb:Below B w0 w)(hB:B<=b):Below B w0 w' :=
 hb.trans ⟨h.os,h.tape,h.output,by rw[h.size];exact aA _,λk hk=>h.block k (by omega)⟩
theorem Upd.setCell(w:World)(b off:Nat)(v:Value):Upd w (w.setCell ⟨b,off,none⟩ v) b :=
 ⟨rfl,rfl,rfl,by simp[World.setCell],λk hk=>Below.heap_setCell _ _ _ _ hk⟩
section
variable {w w':World} {b:Nat} {t:TypeId} {cs:Array Value}
theorem Blk.lt (h:Blk w b t cs):b<w.heap.size:=(Array.getElem?_eq_some_iff.1 h).1
theorem Blk.cell (h:Blk w b t cs) (i:Nat):w.cell? ⟨b,i,none⟩=cs[i]?:=by have h':w.heap[b]?=some (.cells cs t (0,0)):=h;simp[World.cell?,h']
theorem Blk.frozen (h:Blk w b t cs) (i:Nat):w.frozen? ⟨b,i,none⟩=false:=by have h':w.heap[b]?=some (.cells cs t (0,0)):=h;simp[World.frozen?,h']
theorem Blk.ext (h:Blk w b t cs) (e:Ext w w'):Blk w' b t cs:=(e.block b h.lt).trans h
theorem Blk.upd {c:Nat} (h:Blk w b t cs) (e:Upd w w' c) (hne:b≠c):Blk w' b t cs:=(e.block b hne).trans h
theorem Blk.set (h:Blk w b t cs) (i:Nat) (v:Value):Blk (w.setCell ⟨b,i,none⟩ v) b t (cs.setIfInBounds i v):=by have h':w.heap[b]?=some (.cells cs t (0,0)):=h;show (w.setCell ⟨b,i,none⟩ v).heap[b]?=_;simp[World.setCell,gU,h']
end
theorem S8(b off i:Nat):(⟨b,off,none⟩:Addr).add i=⟨b,off+i,none⟩:=by
 unfold Addr.add;split
 ·rename_i h;subst h;rfl
 ·rfl
def F6 (P:Program) (t:TypeId):Option (Bool×Nat) :=
 match P.underlying t,P.info? t with
 | some (.struct _),some i=>some (true,i.size)
 | some (.array _ _),some i=>some (true,i.size)
 | some _,some i=>some (false,i.size)
 | _,_=>none
theorem L0{P:Program}{t:TypeId}{b:Bool}{n:Nat}(h:F6 P t=some (b,n))(w:World):(isAgg t).run P w=.ok b w/\(sizeOf t).run P w=.ok n w:=by
 unfold F6 at h;split at h;all_goals first | (cases h;done) | skip
 all_goals
  rename_i hu hi
  cases h;try (have hi:=‹P.info? t=some _›)
  constructor
  ·simp[isAgg,run_underlying hu]
  ·simp[sizeOf,typeInfo,hi]
theorem AL9 {P:Program} {w:World} {p:Addr}:∀ (cs:List Value) (i:Nat) (acc:Array Value),(∀ j u,cs[j]?=some u->w.cell? (p.add (i+j))=some u) ->
  (loadCellsFrom p i cs.length acc).run P w=.ok (acc++cs.toArray) w
 | [],i,acc,_=>by simp[loadCellsFrom]
 | c::cs,i,acc,h=>by
  have h0:=h 0 c rfl
  rw[bP] at h0
  have ih:=AL9 (P:=P) (w:=w) (p:=p) cs (i+1) (acc.push c) (λj u hu=>by have:=h (j+1) u (by simpa using hu);rwa [show i+1+j=i+(j+1) by omega])
  simp only[aS,loadCellsFrom,Sem.run_bind,load,Sem.run,h0,Result.andThen_ok,ih]
  simp
theorem Q6{P:Program}{t:TypeId}{n:Nat}{w:World}{v:Value}(ht:F6 P t=some (false,n))(h:w.cell? p=some v):(loadVar t p).run P w=.ok v w:=by simp[loadVar,Sem.run_bind,(L0 ht w).1,load,Sem.run,h]
theorem V5{P:Program}{t:TypeId}{w:World}(ht:F6 P t=some (true,cs.length))(h:∀ j u,cs[j]?=some u->w.cell? (p.add j)=some u) :
  (loadVar t p).run P w=.ok (.agg cs.toArray) w:=by
 have:=AL9 (P:=P) (w:=w) (p:=p) cs 0 #[] (λj u hu=>by rw[aD];exact h j u hu);simp only[loadVar,Sem.run_bind,(L0 ht w).1,(L0 ht w).2,loadCells,Result.andThen_ok,this,if_true];simp
def H3:Value->Bool
 | .agg _ | .tuple _=>false
 | _=>true
theorem Bb7{P:Program}{w:World}{b i:Nat}{t:TypeId}{cs:Array Value}{v:Value}(hb:Blk w b t cs)(hi:i<cs.size)(hv:H3 v=true) :
  (store ⟨b,i,none⟩ v).run P w=.ok () (w.setCell ⟨b,i,none⟩ v):=by
 have h1:=hb.cell i;have h2:=hb.frozen i;rw[dR hi] at h1;unfold store
 cases v<;>first | (simp[H3] at hv;done) | simp[Sem.run,h1,h2]
def wrt (cs:Array Value) (off:Nat):List Value->Array Value
 | []=>cs
 | v::vs=>wrt (cs.setIfInBounds off v) (off+1) vs
theorem Aa1:∀ (vs:List Value) (cs:Array Value) (off i:Nat),off+vs.length<=cs.size->(wrt cs off vs)[i]?=if off<=i/\i<off+vs.length then vs[i-off]? else cs[i]?
 | [],cs,off,i,_=>by rw[if_neg (by simp only[cN];omega)];rfl
 | v::vs,cs,off,i,h=>by
  simp only[aS] at h
  rw[wrt,Aa1 vs _ _ _ (by simp;omega)]
  by_cases h1:off+1<=i/\i<off+1+vs.length
  ·rw[if_pos h1,if_pos (by simp;omega),show i-off=(i-(off+1))+1 by omega,List.getElem?_cons_succ]
  ·rw[if_neg h1]
   by_cases h2:i=off
   ·subst h2
    rw[if_pos (by simp)]
    have:i<cs.size:=by omega
    simp[this]
   ·rw[if_neg (by simp;omega),bM (by omega)]
theorem Aa2(vs:List Value)(cs:Array Value)(h:vs.length=cs.size):wrt cs 0 vs=vs.toArray:=by
 apply gC;intro i;rw[Aa1 vs cs 0 i (by omega)];by_cases hi:i<vs.length
 ·rw[if_pos (by omega)];simp
 ·rw[if_neg (by omega)];rw[cX (by omega),cX (by simp;omega)]
theorem AW2 {P:Program} {b off:Nat} {t:TypeId}:∀ (vs:List Value) (i:Nat) (w:World) (cs:Array Value),Blk w b t cs->off+i+vs.length<=cs.size->(∀ v∈vs,H3 v=true) ->
  ∃ w',(storeCells ⟨b,off,none⟩ vs i).run P w=.ok () w'/\Blk w' b t (wrt cs (off+i) vs)/\Upd w w' b
 | [],i,w,cs,hb,_,_=>⟨w,by simp[storeCells],hb,Upd.refl _ _⟩
 | v::vs,i,w,cs,hb,hle,h1=>by
  simp only[aS] at hle
  have hs:=Bb7 (P:=P) (v:=v) hb (i:=off+i) (by omega) (h1 v (by simp))
  obtain⟨w',hr,hb',hu⟩:=AW2 (P:=P) (off:=off) vs (i+1) _ _ (hb.set (off+i) v) (by simp;omega) (λu hu=>h1 u (by simp[hu]))
  refine⟨w',?_,by simpa[wrt,cZ] using hb',(Upd.setCell w b (off+i) v).trans hu⟩
  simp only[storeCells,Sem.run_bind,S8,hs,Result.andThen_ok,hr]
theorem BM9{P:Program}{t':TypeId}{a:Bool}{n:Nat}{w:World}{b off:Nat}{t:TypeId}{cs:Array Value}{v:Value}(ht:F6 P t'=some (a,n))(hb:Blk w b t cs)(hn:v.cells.size=n)(hle:off+n<=cs.size)(h1:∀ u∈v.cells.toList,H3 u=true) :
  ∃ w',(storeVar t' ⟨b,off,none⟩ v).run P w=.ok () w'/\Blk w' b t (wrt cs off v.cells.toList)/\Upd w w' b:=by
 obtain⟨w',hr,hb',hu⟩:=AW2 (P:=P) (off:=off) v.cells.toList 0 w cs hb (by simp[hn];omega) h1;refine⟨w',?_,by simpa using hb',hu⟩;simp[storeVar,Sem.run_bind,(L0 ht w).2,hn,hr]
def U7 (P:Program) (s:TypeId) (i:Nat):Option Nat :=
 match P.underlying s with
 | some (.struct fs)=>match fs[i]? with
  | some f=>match P.info? f.type with
   | some j=>bif Nat.beq j.size 0 then none else some f.offset
   | none=>none
  | none=>none
 | _=>none
section
variable {P:Program} {σ:Env} {w:World} {d:Option Tmp} {ty:TypeId} {pos:String} {af:Array Edge} {g:Option (Nat×Bool)}
theorem v_fa {s:TypeId} {x:Operand} {i b o off:Nat} (hf:U7 P s i=some off) (hx:ev σ x=some (.pointer (some ⟨b,o,none⟩))) :
  Vl P ⟨d,.fieldAddr s x i,ty,pos,af,g⟩ σ w (.pointer (some ⟨b,o+off,none⟩)):=by
 refine⟨(by intro _ h;cases h),λρ hρ=>?_⟩;have h1:=hρ x _ (by simp[Op.operands]) hx;unfold U7 at hf;split at hf
 ·rename_i fs hfs;split at hf
  ·rename_i f hff;split at hf
   ·rename_i j hj
    cases hz:Nat.beq j.size 0 with
    | true=>rw[hz] at hf;cases hf
    | false =>
     rw[hz] at hf;simp only[cond_false,Option.some.injEq] at hf;have hz':j.size≠0:=λe=>by rw[e] at hz;cases hz
     simp[execOp,h1,Instr.fieldAt,run_underlying hfs,hff,Instr.sureAddr,fieldPlace,sizeOf,typeInfo,hj,hz',S8,hf]
   ·cases hf
  ·cases hf
 ·cases hf
theorem E2 {t t':TypeId} {x:Operand} {b off n:Nat} {cs:Array Value} {v:Value} (ht:F6 P t=some (false,n)) (hx:ev σ x=some (.pointer (some ⟨b,off,none⟩))) (hb:Blk w b t' cs) (hc:cs[off]?=some v) :
  Vl P ⟨d,.load t x,ty,pos,af,g⟩ σ w v:=by
 refine⟨(by intro _ h;cases h),λρ hρ=>?_⟩;have h1:=hρ x _ (by simp[Op.operands]) hx;have h2:=Q6 (P:=P) (p:=⟨b,off,none⟩) ht ((hb.cell off).trans hc);simp[execOp,h1,Instr.loadAt,Instr.sureAddr,h2]
theorem Ai4 {t t':TypeId} {x:Operand} {b off:Nat} {cs:Array Value} (vs:List Value) (ht:F6 P t=some (true,vs.length)) (hx:ev σ x=some (.pointer (some ⟨b,off,none⟩))) (hb:Blk w b t' cs)
  (hc:∀ j u,vs[j]?=some u->cs[off+j]?=some u):Vl P ⟨d,.load t x,ty,pos,af,g⟩ σ w (.agg vs.toArray):=by
 refine⟨(by intro _ h;cases h),λρ hρ=>?_⟩;have h1:=hρ x _ (by simp[Op.operands]) hx;have h2:=V5 (P:=P) (p:=⟨b,off,none⟩) ht (λj u hu=>by rw[S8,hb.cell];exact hc j u hu);simp[execOp,h1,Instr.loadAt,Instr.sureAddr,h2]
theorem E1 {t t':TypeId} {x:Operand} {b n:Nat} {cs:Array Value} (ht:F6 P t=some (true,n)) (hx:ev σ x=some (.pointer (some ⟨b,0,none⟩))) (hb:Blk w b t' cs) (hn:cs.size=n) :
  Vl P ⟨d,.load t x,ty,pos,af,g⟩ σ w (.agg cs):=by
 have:=Ai4 (P:=P) (d:=d) (ty:=ty) (pos:=pos) (af:=af) (g:=g) cs.toList (by simpa[hn] using ht) hx hb (λj u hu=>by simpa using hu);simpa using this
theorem AJ2 {t:TypeId} {x:Operand} {p:Addr} {n:Nat} {v:Value} (ht:F6 P t=some (false,n)) (hx:ev σ x=some (.pointer (some p))) (hc:w.cell? p=some v) :
  Vl P ⟨d,.load t x,ty,pos,af,g⟩ σ w v:=by
 refine⟨(by intro _ h;cases h),λρ hρ=>?_⟩;have h1:=hρ x _ (by simp[Op.operands]) hx;have h2:=Q6 (P:=P) ht hc;simp[execOp,h1,Instr.loadAt,Instr.sureAddr,h2]
theorem v_ldPN {t:TypeId} {x:Operand} {p:Addr} {cs:List Value} (ht:F6 P t=some (true,cs.length)) (hx:ev σ x=some (.pointer (some p))) (hc:∀ j u,cs[j]?=some u->w.cell? (p.add j)=some u) :
  Vl P ⟨d,.load t x,ty,pos,af,g⟩ σ w (.agg cs.toArray):=by
 refine⟨(by intro _ h;cases h),λρ hρ=>?_⟩;have h1:=hρ x _ (by simp[Op.operands]) hx;have h2:=V5 (P:=P) ht hc;simp[execOp,h1,Instr.loadAt,Instr.sureAddr,h2]
theorem AJ0 (w:World) (o:Obj):Ext w (w.alloc o):=(Below.refl _ w).alloc (aA _) o
theorem Bp7 (w:World) (t:TypeId) (cs:Array Value):Blk (w.alloc (.cells cs t)) w.heap.size t cs:=World.alloc_heap_new w _
def New (w w':World) (b:Nat) (t:TypeId) (cs:Array Value):Prop:=Ext w w'/\Blk w' b t cs/\b=w.heap.size/\w'.heap.size=b+1
theorem Ab0 (w:World) (t:TypeId) (cs:Array Value):New w (w.alloc (.cells cs t)) w.heap.size t cs:=⟨AJ0 w _,Bp7 w t cs,rfl,World.size_alloc _ _⟩
theorem g_box {t:TypeId} {x:Operand} {v:Value} (hx:ev σ x=some v):Gv P ⟨d,.box t x,ty,pos,af,g⟩ σ w λv' w'=>∃ b,v'=.pointer (some ⟨b,0,none⟩)/\New w w' b t v.cells:=by refine⟨(by intro _ h;cases h),λρ hρ=>.inl ?_⟩;have h1:=hρ x _ (by simp[Op.operands]) hx;refine⟨_,_,?_,w.heap.size,rfl,Ab0 w t v.cells⟩;simp[execOp,h1,Instr.box,newVar,newRow]
def M0 (P:Program) (t:TypeId):Option Value:=(P.info? t).bind (·.zero)
theorem BP5 {t:TypeId} {z:Value} (hz:M0 P t=some z):Gv P ⟨d,.alloc t,ty,pos,af,g⟩ σ w λv' w'=>∃ b,v'=.pointer (some ⟨b,0,none⟩)/\New w w' b t z.cells:=by
 refine⟨(by intro _ h;cases h),λρ hρ=>.inl ?_⟩;refine⟨_,_,?_,w.heap.size,rfl,Ab0 w t z.cells⟩;unfold M0 at hz
 cases hi:P.info? t with
 | none=>rw[hi] at hz;cases hz
 | some i =>
  rw[hi] at hz;have hz':i.zero=some z:=hz;simp[execOp,Instr.alloc,zeroValue,typeInfo,hi,hz',newVar,newRow]
theorem T5 {t t':TypeId} {x y:Operand} {b off n:Nat} {a:Bool} {cs:Array Value} {v:Value} (ht:F6 P t=some (a,n)) (hx:ev σ x=some (.pointer (some ⟨b,off,none⟩))) (hy:ev σ y=some v) (hb:Blk w b t' cs)
  (hn:v.cells.size=n) (hle:off+n<=cs.size) (h1:∀ u∈v.cells.toList,H3 u=true) :
  Gv P ⟨d,.store t x y,ty,pos,af,g⟩ σ w λ_ w'=>Blk w' b t' (wrt cs off v.cells.toList)/\Upd w w' b:=by
 refine⟨(by intro _ h;cases h),λρ hρ=>.inr (.inl ?_)⟩;have e1:=hρ x _ (by simp[Op.operands]) hx;have e2:=hρ y _ (by simp[Op.operands]) hy;obtain⟨w',hr,hb',hu⟩:=BM9 (P:=P) ht hb hn hle h1;exact⟨w',by simp[execOp,e1,e2,Instr.storeAt,Instr.sureAddr,hr],hb',hu⟩
end
section
variable {P:Program} {ro:Option Nat} {N:Nat} {ds:List Deferred} {ops:Array Oper} {K:Env->World->Prop} {rest:List Oper} {σ:Env} {w:World} {d:Tmp} {ty:TypeId} {pos:String} {af:Array Edge}
theorem WL.box {t:TypeId} {x:Operand} {v:Value} (hd:Nat.blt d N=true) (hx:ev σ x=some v) (k:∀ w' b,New w w' b t v.cells->WL P ro N ds ops K rest ((d,.pointer (some ⟨b,0,none⟩))::σ) w') :
  WL P ro N ds ops K (⟨some d,.box t x,ty,pos,af,none⟩::rest) σ w :=
 WL.gv O hd (g_box hx) λv' w' ⟨b,hv,hn⟩=>by subst hv;exact k w' b hn
theorem WL.alloc {t:TypeId} {z:Value} (hd:Nat.blt d N=true) (hz:M0 P t=some z) (k:∀ w' b,New w w' b t z.cells->WL P ro N ds ops K rest ((d,.pointer (some ⟨b,0,none⟩))::σ) w') :
  WL P ro N ds ops K (⟨some d,.alloc t,ty,pos,af,none⟩::rest) σ w :=
 WL.gv O hd (BP5 hz) λv' w' ⟨b,hv,hn⟩=>by subst hv;exact k w' b hn
theorem WL.store {t t':TypeId} {x y:Operand} {b off n:Nat} {a:Bool} {cs:Array Value} {v:Value} (ht:F6 P t=some (a,n)) (hx:ev σ x=some (.pointer (some ⟨b,off,none⟩))) (hy:ev σ y=some v) (hb:Blk w b t' cs)
  (hn:v.cells.size=n) (hle:off+n<=cs.size) (h1:∀ u∈v.cells.toList,H3 u=true)
  (k:∀ w',Blk w' b t' (wrt cs off v.cells.toList)->Upd w w' b->WL P ro N ds ops K rest σ w') :
  WL P ro N ds ops K (⟨none,.store t x y,ty,pos,af,none⟩::rest) σ w :=
 WL.gv O O (T5 ht hx hy hb hn hle h1) λ_ w' ⟨h1,h2⟩=>k w' h1 h2
end
def Ent (P:Program) (f:FuncId):Prop:=∀ args w,(callFunc f args).run P w=.ok (.enter f args) w
theorem ent_of{P : Program}{fn : Func}(hf : P.funcs[f]? = some fn)(hn : (fn.name == "runtime.NumGoroutine") = false)(hb : fn.body.isNone = false) : Ent P f := by
 intro args w;simp only[callFunc,program,Sem.run_bind,Sem.run,Result.andThen_ok,hf,hn,hb,gD,if_false,Sem.run_pure]
section
variable {P:Program} {σ:Env} {w:World} {d:Option Tmp} {ty:TypeId} {pos:String} {af:Array Edge} {g:Option (Nat×Bool)}
def evs (σ:Env) (xs:List Operand) (vs:List Value):Prop:=xs.map (ev σ)=vs.map some
theorem AT1 {σ:Env} {ρ:Operand->Value}:∀ {xs:List Operand} {vs:List Value},(∀ x v,x∈xs->ev σ x=some v->ρ x=v)->evs σ xs vs->xs.map ρ=vs
 | [],[],_,_=>rfl
 | [],_::_,_,h=>by simp[evs] at h
 | _::_,[],_,h=>by simp[evs] at h
 | x::xs,v::vs,hρ,h=>by
  simp only[evs,dT,List.cons.injEq] at h
  simp only[dT,List.cons.injEq]
  exact⟨hρ x v (by simp) h.1,AT1 (λy u hy=>hρ y u (by simp[hy])) h.2⟩
theorem A4 {f:FuncId} {xs:List Operand} {ts:Array TypeId} (vs:List Value) {R:Value->World->Prop} (hf:Ent P f) (hx:xs.map (ev σ)=vs.map some) (hc:CR P f vs.toArray w R) :
  Gv P ⟨d,.call { callee:=.value (.func f),args:=xs.toArray,argTypes:=ts },ty,pos,af,g⟩ σ w λv w'=>Ext w w'/\R v w':=by
 refine⟨(by intro _ h;cases h),λρ hρ=>.inr (.inr ?_)⟩;have h1:ρ (.func f)=.func (.func f) #[] #[]:=hρ _ _ (by simp[Op.operands,Call.operands]) rfl;have h2:xs.map ρ=vs:=AT1 (σ:=σ) (λx v hx'=>hρ x v (by simp[Op.operands,Call.operands,hx'])) hx;refine⟨f,vs.toArray,w,?_,hc⟩;simp[execOp,resolve,h1,h2,Deferred.ofValue,invoke,hf _ _]
theorem g_callG {f:FuncId} {xs:List Operand} {ts:Array TypeId} (vs:List Value) {R:Value->World->Prop} (hf:Ent P f) (hx:xs.map (ev σ)=vs.map some) (hc:Calls P f vs.toArray w λe w'=>∃ v,e=.returned v/\R v w') :
  Gv P ⟨d,.call { callee:=.value (.func f),args:=xs.toArray,argTypes:=ts },ty,pos,af,g⟩ σ w R:=by
 refine⟨(by intro _ h;cases h),λρ hρ=>.inr (.inr ?_)⟩;have h1:ρ (.func f)=.func (.func f) #[] #[]:=hρ _ _ (by simp[Op.operands,Call.operands]) rfl;have h2:xs.map ρ=vs:=AT1 (σ:=σ) (λx v hx'=>hρ x v (by simp[Op.operands,Call.operands,hx'])) hx;refine⟨f,vs.toArray,w,?_,hc⟩;simp[execOp,resolve,h1,h2,Deferred.ofValue,invoke,hf _ _]
theorem AY1 {f:FuncId} {fx:Operand} {xs:List Operand} {ts:Array TypeId} {cap:Array Value} (vs:List Value) {R:Value->World->Prop} (hfx:ev σ fx=some (.func (.func f) #[] cap)) (hf:Ent P f) (hx:xs.map (ev σ)=vs.map some)
  (hc:Calls P f (vs.toArray++cap) w λe w'=>∃ v,e=.returned v/\R v w') :
  Gv P ⟨d,.call { callee:=.value fx,args:=xs.toArray,argTypes:=ts },ty,pos,af,g⟩ σ w R:=by
 refine⟨(by intro _ h;cases h),λρ hρ=>.inr (.inr ?_)⟩;have h1:=hρ fx _ (by simp[Op.operands,Call.operands]) hfx;have h2:xs.map ρ=vs:=AT1 (σ:=σ) (λx v hx'=>hρ x v (by simp[Op.operands,Call.operands,hx'])) hx;refine⟨f,vs.toArray++cap,w,?_,hc⟩;simp[execOp,resolve,h1,h2,Deferred.ofValue,invoke,hf _ _]
theorem Ab4 {f:FuncId} {fx:Operand} {xs:List Operand} {ts:Array TypeId} {cap:Array Value} (vs:List Value) {R:Value->World->Prop} (hfx:ev σ fx=some (.func (.func f) #[] cap)) (hf:Ent P f) (hx:xs.map (ev σ)=vs.map some)
  (hc:CR P f (vs.toArray++cap) w R) :
  Gv P ⟨d,.call { callee:=.value fx,args:=xs.toArray,argTypes:=ts },ty,pos,af,g⟩ σ w λv w'=>Ext w w'/\R v w':=by
 refine⟨(by intro _ h;cases h),λρ hρ=>.inr (.inr ?_)⟩;have h1:=hρ fx _ (by simp[Op.operands,Call.operands]) hfx;have h2:xs.map ρ=vs:=AT1 (σ:=σ) (λx v hx'=>hρ x v (by simp[Op.operands,Call.operands,hx'])) hx;refine⟨f,vs.toArray++cap,w,?_,hc⟩;simp[execOp,resolve,h1,h2,Deferred.ofValue,invoke,hf _ _]
end
section
variable {P:Program} {ro:Option Nat} {N:Nat} {ds:List Deferred} {ops:Array Oper} {K:Env->World->Prop} {rest:List Oper} {σ:Env} {w:World} {d:Tmp} {ty:TypeId} {pos:String} {af:Array Edge}
theorem WL.call {f:FuncId} {xs:List Operand} {ts:Array TypeId} (vs:List Value) {R:Value->World->Prop} (hd:Nat.blt d N=true) (hf:Ent P f) (hx:xs.map (ev σ)=vs.map some) (hc:CR P f vs.toArray w R)
  (k:∀ v w',Ext w w'->R v w'->WL P ro N ds ops K rest ((d,v)::σ) w') :
  WL P ro N ds ops K (⟨some d,.call { callee:=.value (.func f),args:=xs.toArray,argTypes:=ts },ty,pos,af,none⟩::rest) σ w :=
 WL.gv O hd (A4 vs hf hx hc) λv w' ⟨h1,h2⟩=>k v w' h1 h2
theorem WL.callv {f:FuncId} {fx:Operand} {xs:List Operand} {ts:Array TypeId} {cap:Array Value} (vs:List Value) {R:Value->World->Prop} (hd:Nat.blt d N=true) (hfx:ev σ fx=some (.func (.func f) #[] cap)) (hf:Ent P f)
  (hx:xs.map (ev σ)=vs.map some) (hc:CR P f (vs.toArray++cap) w R) (k:∀ v w',Ext w w'->R v w'->WL P ro N ds ops K rest ((d,v)::σ) w') :
  WL P ro N ds ops K (⟨some d,.call { callee:=.value fx,args:=xs.toArray,argTypes:=ts },ty,pos,af,none⟩::rest) σ w :=
 WL.gv O hd (Ab4 vs hfx hf hx hc) λv w' ⟨h1,h2⟩=>k v w' h1 h2
end
def Kp (S:Nat->Prop) (w w':World):Prop:=∀ k c t f,S k->w.heap[k]?=some (.cells c t f)->w'.heap[k]?=some (.cells c t f)
theorem Kp.ext{S:Nat->Prop}{w w':World}(e:Ext w w'):Kp S w w':=λk _ _ _ _ h=>(e.block k (Array.getElem?_eq_some_iff.1 h).1).trans h
theorem Kp.upd{S:Nat->Prop}{w w':World}{b:Nat}(hu:Upd w w' b)(hb:¬ S b):Kp S w w':=λk _ _ _ hS h=>(hu.block k (λe=>hb (e▸hS))).trans h
theorem Kp.cell{S:Nat->Prop}{w w':World}(h:Kp S w w'){v:Value}(hS:S p.block)(hc:w.cell? p=some v):w'.cell? p=some v:=by
 unfold World.cell? at hc ⊢;split at hc
 ·rename_i c e f hh;rw[h _ _ _ _ hS hh];exact hc
 ·cases hc
def AC6 (w:World) (p:Addr) (u:Value):Prop:=w.cell? p=some u/\w.frozen? p=false
theorem Kp.live{S:Nat->Prop}{w w':World}(h:Kp S w w'){v:Value}(hS:S p.block)(hc:AC6 w p v):AC6 w' p v:=by
 refine⟨h.cell hS hc.1,?_⟩;have h1:=hc.1;have h2:=hc.2;unfold World.cell? at h1;unfold World.frozen? at h2 ⊢;split at h1
 ·rename_i c e f hh;rw[hh] at h2;rw[h _ _ _ _ hS hh];exact h2
 ·cases h1
theorem Kp.blk{S:Nat->Prop}{w w':World}(h:Kp S w w'){b:Nat}{t:TypeId}{cs:Array Value}(hS:S b)(hb:Blk w b t cs):Blk w' b t cs:=h _ _ _ _ hS hb
structure ER (α:Type) where
 sz:Nat
 isA:Bool
 R:(Nat->Prop)->World->Value->α->Prop
 csz:∀ {S w e x},R S w e x->e.cells.size=sz
 one:∀ {S w e x},R S w e x->∀ u∈e.cells.toList,H3 u=true
 shp:∀ {S w e x},R S w e x->bif isA then e=.agg e.cells else H3 e=true
 keep:∀ {S:Nat->Prop} {w w':World} {e x},Kp S w w'->R S w e x->R S w' e x
 mono:∀ {S S':Nat->Prop} {w:World} {e x},(∀ k,k<w.heap.size->S k->S' k)->R S w e x->R S' w e x
section
variable {α:Type} (E:ER α)
theorem ER.ext {S:Nat->Prop} {w w':World} {e:Value} {x:α} (h:E.R S w e x) (hx:Ext w w'):E.R S w' e x:=E.keep (Kp.ext hx) h
theorem ER.upd {S:Nat->Prop} {w w':World} {e:Value} {x:α} {b:Nat} (h:E.R S w e x) (hu:Upd w w' b) (hb:¬ S b):E.R S w' e x :=
 E.keep (Kp.upd hu hb) h
end
def St (R:Value->World->Prop):Prop:=∀ v w w',Ext w w'->R v w->R v w'
@[reducible] def Is (c:Value):Value->World->Prop:=λv _=>v=c
@[reducible] def ER.at {α:Type} (E:ER α) (S:Nat->Prop) (x:α):Value->World->Prop:=λv w=>E.R S w v x
@[reducible] def Two (R1 R2:Value->World->Prop):Value->World->Prop:=λv w=>∃ a b,v=.tuple #[a,b]/\R1 a w/\R2 b w
@[reducible] def Bl0 (R1 R2 R3:Value->World->Prop):Value->World->Prop:=λv w=>∃ a b c,v=.tuple #[a,b,c]/\R1 a w/\R2 b w/\R3 c w
theorem S9(c:Value):St (Is c):=λ_ _ _ _ h=>h
theorem G7(E:ER α)(S:Nat->Prop)(x:α):St (E.at S x):=λ_ _ _ e h=>E.ext h e
theorem L3{R1 R2:Value->World->Prop}(h1:St R1)(h2:St R2):St (Two R1 R2):=λ_ _ _ e ⟨a,b,hv,x,y⟩=>⟨a,b,hv,h1 _ _ _ e x,h2 _ _ _ e y⟩
theorem Gv.ob{P:Program}{o:Oper}{σ:Env}{w:World}{R:Value->World->Prop}(h:Gv P o σ w λv w'=>Ext w w'/\R v w')(hs:St R):Gv P o σ w λv w'=>Ext w w'/\Sp.ok (.inr R) v w' :=
 h.mono λ_ _ ⟨h1,h2⟩=>⟨h1,λ_ e=>hs _ _ _ e h2⟩
theorem Gv.obIs{P:Program}{o:Oper}{σ:Env}{w:World}{c:Value}(h:Gv P o σ w λv w'=>Ext w w'/\Is c v w'):Gv P o σ w λv w'=>Ext w w'/\Sp.ok (.inl c) v w':=h
def B8 (k:IntKind):ER Int where
 sz:=1
 isA:=false
 R:=λ_ _ e x=>e=.int k x/\k.min<=x/\x<=k.max
 csz:=by rintro S w e x ⟨rfl,_⟩;rfl
 one:=by rintro S w e x ⟨rfl,_⟩ u hu;simp[Value.cells] at hu;subst hu;rfl
 shp:=by rintro S w e x ⟨rfl,_⟩;rfl
 keep:=λ_ h=>h
 mono:=λ_ h=>h
def AQ8:ER Nat where
 sz:=1
 isA:=false
 R:=λ_ _ e x=>e=.int .u32 x/\x<4294967296
 csz:=by rintro S w e x ⟨rfl,_⟩;rfl
 one:=by rintro S w e x ⟨rfl,_⟩ u hu;simp[Value.cells] at hu;subst hu;rfl
 shp:=by rintro S w e x ⟨rfl,_⟩;rfl
 keep:=λ_ h=>h
 mono:=λ_ h=>h
def Z9:ER Bool where
 sz:=1
 isA:=false
 R:=λ_ _ e x=>e=.bool x
 csz:=by rintro S w e x rfl;rfl
 one:=by rintro S w e x rfl u hu;simp[Value.cells] at hu;subst hu;rfl
 shp:=by rintro S w e x rfl;rfl
 keep:=λ_ h=>h
 mono:=λ_ h=>h
def Row (S:Nat->Prop) (w:World) (sz:Nat) (v:Value) (n:Nat) (cs:List Value):Prop :=
 ∃ a c,v=.slice a n c/\n<=c/\n<=9223372036854775807/\cs.length=n*sz/\(0<n->∃ ad:Addr,a=some ad/\S ad.block/\∀ j u,cs[j]?=some u->AC6 w (ad.add j) u)
theorem J9(a:Addr)(n:Nat):(a.add n).block=a.block:=by unfold Addr.add;split<;>rfl
theorem AC5(a:Addr)(i j:Nat):(a.add i).add j=a.add (i+j):=by unfold Addr.add;by_cases hi:i=0<;>by_cases hj:j=0<;>simp[hi,hj,cZ]
theorem Al8{w:World}{v:Value}(h:w.cell? p=some v):p.block<w.heap.size:=by
 unfold World.cell? at h;split at h
 ·rename_i hh;exact (Array.getElem?_eq_some_iff.1 hh).1
 ·cases h
theorem Ab8{w w':World}(h:w'.heap[p.block]?=w.heap[p.block]?):w'.cell? p=w.cell? p:=by simp[World.cell?,h]
theorem Row.keep{S:Nat->Prop}{w w':World}{sz n:Nat}{v:Value}(hk:Kp S w w')(h:Row S w sz v n cs):Row S w' sz v n cs:=by obtain⟨a,c,hv,h1,h2,h3,h4⟩:=h;refine⟨a,c,hv,h1,h2,h3,λhn=>?_⟩;obtain⟨ad,ha,hS,hc⟩:=h4 hn;refine⟨ad,ha,hS,λj u hu=>?_⟩;exact hk.live (p:=ad.add j) (by rw[J9];exact hS) (hc j u hu)
theorem Row.mono{S S':Nat->Prop}{w:World}{sz n:Nat}{v:Value}(hsz:0<sz)(hk:∀ k,k<w.heap.size->S k->S' k)(h:Row S w sz v n cs):Row S' w sz v n cs:=by
 obtain⟨a,c,hv,h1,h2,h3,h4⟩:=h;refine⟨a,c,hv,h1,h2,h3,λhn=>?_⟩;obtain⟨ad,ha,hS,hc⟩:=h4 hn;have hpos:0<cs.length:=by rw[h3];exact cE hn hsz
 have hlt:=Al8 (hc 0 _ (aE hpos)).1;rw[J9] at hlt;exact⟨ad,ha,hk _ hlt hS,hc⟩
abbrev cellsOf (es:List Value):List Value:=es.flatMap λe=>e.cells.toList
theorem F0 {sz:Nat}:∀ (es:List Value) (i j:Nat) (e:Value),(∀ e∈es,e.cells.size=sz)->es[i]?=some e->j<sz->(cellsOf es)[i*sz+j]?=e.cells[j]?
 | [],i,j,e,_,h,_=>by simp at h
 | x::es,0,j,e,hs,h,hj=>by
  simp at h;subst h
  have hx:x.cells.size=sz:=hs x (by simp)
  simp only[cellsOf,fJ,eK,aD]
  rw[bQ (by rw[cO];omega),gV]
 | x::es,i+1,j,e,hs,h,hj=>by
  have hx:x.cells.size=sz:=hs x (by simp)
  have ih:=F0 (sz:=sz) es i j e (λe he=>hs e (by simp[he])) (by simpa using h) hj
  simp only[cellsOf,fJ] at ih ⊢
  rw[bT (by simp[hx,dA];omega),<-ih]
  congr 1
  simp[hx,dA];omega
theorem E6 {sz:Nat}:∀ (es:List Value),(∀ e∈es,e.cells.size=sz)->(cellsOf es).length=es.length*sz
 | [],_=>by simp[cellsOf]
 | x::es,h=>by
  have ih:=E6 (sz:=sz) es (λe he=>h e (by simp[he]))
  have hx:=h x (by simp)
  simp only[cellsOf,fJ,aL,aS,dA] at ih ⊢
  rw[ih];simp[hx];omega
def Els {α:Type} (E:ER α) (S:Nat->Prop) (w:World) (es:List Value) (l:List α):Prop :=
 es.length=l.length/\∀ (i:Nat) (e:Value) (x:α),es[i]?=some e->l[i]?=some x->E.R S w e x
theorem Els.sz{E:ER α}{S:Nat->Prop}{w:World}{l:List α}(h:Els E S w es l):∀ e∈es,e.cells.size=E.sz:=by
 intro e he;obtain⟨i,hi⟩:=List.mem_iff_getElem?.1 he;have hlt:i<es.length:=by
  rcases aB i es.length with h | h
  ·exact h
  ·rw[aH h] at hi;cases hi
 exact E.csz (h.2 i e _ hi (aE (by rw[<-h.1];exact hlt)))
theorem Els.keep{E:ER α}{S:Nat->Prop}{w w':World}{l:List α}(hk:Kp S w w')(h:Els E S w es l):Els E S w' es l :=
 ⟨h.1,λi e x he hx=>E.keep hk (h.2 i e x he hx)⟩
theorem Els.ext{E:ER α}{S:Nat->Prop}{w w':World}{l:List α}(h:Els E S w es l)(hx:Ext w w'):Els E S w' es l:=h.keep (Kp.ext hx)
theorem Els.nil{E:ER α}{S:Nat->Prop}{w:World}:Els E S w [] ([]:List α):=⟨rfl,λi e x he=>by simp at he⟩
theorem Els.snoc{E:ER α}{S:Nat->Prop}{w:World}{l:List α}{e:Value}{x:α}(h:Els E S w es l)(he:E.R S w e x):Els E S w (es++[e]) (l++[x]):=by
 refine⟨by simp[h.1],λi e' x' h1 h2=>?_⟩;rcases aB i es.length with hi | hi
 ·rw[bQ hi] at h1;rw[bQ (by rw[<-h.1];exact hi)] at h2;exact h.2 i e' x' h1 h2
 ·rw[bT hi] at h1;rw[bT (by rw[<-h.1];exact hi)] at h2;rw[h.1] at h1
  cases hk:i-l.length with
  | zero=>rw[hk] at h1 h2;simp at h1 h2;subst h1;subst h2;exact he
  | succ k=>rw[hk] at h1;simp at h1
theorem Els.set{E:ER α}{S:Nat->Prop}{w:World}{l:List α}{e:Value}{x:α}(h:Els E S w es l)(i:Nat)(he:E.R S w e x):Els E S w (es.set i e) (l.set i x):=by
 refine⟨by simp[h.1],λj e' x' h1 h2=>?_⟩;rw[dB] at h1 h2;by_cases hij:i=j
 ·subst hij;rw[if_pos rfl] at h1 h2;split at h1
  ·split at h2
   ·cases h1;cases h2;exact he
   ·cases h2
  ·cases h1
 ·rw[if_neg hij] at h1 h2;exact h.2 j e' x' h1 h2
def RL {α:Type} (E:ER α) (hsz:0<E.sz:=by decide):ER (List α) where
 sz:=1
 isA:=false
 R:=λS w v l=>∃ es,Els E S w es l/\Row S w E.sz v l.length (cellsOf es)
 csz:=by rintro S w e x ⟨es,_,a,c,rfl,_⟩;rfl
 one:=by rintro S w e x ⟨es,_,a,c,rfl,_⟩ u hu;simp[Value.cells] at hu;subst hu;rfl
 shp:=by rintro S w e x ⟨es,_,a,c,rfl,_⟩;rfl
 keep:=λhk ⟨es,h1,h2⟩=>⟨es,h1.keep hk,h2.keep hk⟩
 mono:=λhk ⟨es,h1,h2⟩=>⟨es,⟨h1.1,λi e x he hx=>E.mono hk (h1.2 i e x he hx)⟩,h2.mono hsz hk⟩
def P5 {α:Type} (E:ER α) (S:Nat->Prop) (w:World) (p:Addr) (x:α):Prop :=
 ∃ e,E.R S w e x/\S p.block/\∀ j u,e.cells[j]?=some u->w.cell? (p.add j)=some u
theorem P5.keep{E:ER α}{S:Nat->Prop}{w w':World}{x:α}(hk:Kp S w w')(h:P5 E S w p x):P5 E S w' p x:=by obtain⟨e,h1,h2,h3⟩:=h;refine⟨e,E.keep hk h1,h2,λj u hu=>?_⟩;exact hk.cell (p:=p.add j) (by rw[J9];exact h2) (h3 j u hu)
theorem P5.ext{E:ER α}{S:Nat->Prop}{w w':World}{x:α}(h:P5 E S w p x)(e:Ext w w'):P5 E S w' p x:=h.keep (Kp.ext e)
section
variable {α:Type} {E:ER α} {hsz:0<E.sz} {S:Nat->Prop} {w:World} {v:Value} {l:List α}
theorem RL.len (h:(RL E hsz).R S w v l):∃ a c,v=.slice a l.length c/\l.length<=c/\l.length<=9223372036854775807:=by obtain⟨es,_,a,c,hv,h1,h2,_⟩:=h;exact⟨a,c,hv,h1,h2⟩
theorem RL.at_ (h:(RL E hsz).R S w v l) {i:Nat} {x:α} (hi:l[i]?=some x):∃ ad c,v=.slice (some ad) l.length c/\l.length<=c/\P5 E S w (ad.add (i*E.sz)) x:=by
 obtain⟨es,h1,a,c,hv,h2,_,h3,h4⟩:=h;have hlt:i<l.length:=by
  rcases aB i l.length with h | h
  ·exact h
  ·rw[aH h] at hi;cases hi
 obtain⟨ad,ha,hS,hc⟩:=h4 (by omega);subst ha;obtain⟨e,he⟩:∃ e,es[i]?=some e:=⟨_,aE (by rw[h1.1];exact hlt)⟩;refine⟨ad,c,hv,h2,e,h1.2 i e x he hi,by rw[J9];exact hS,λj u hu=>?_⟩;rw[AC5];refine (hc _ u ?_).1;have hj:j<E.sz:=by
  have hs:=h1.sz e (List.mem_iff_getElem?.2 ⟨i,he⟩);rcases aB j e.cells.size with h | h
  ·omega
  ·rw[cX h] at hu;cases hu
 rw[F0 es i j e h1.sz he hj];exact hu
theorem RL.nil {a:Option Addr} {c:Nat}:(RL E hsz).R S w (.slice a 0 c) [] :=
 ⟨[],Els.nil,a,c,rfl,aC _,aC _,by simp[cellsOf],λh=>absurd h (dZ 0)⟩
theorem RL.ofBlk {b:Nat} {t:TypeId} {cs:Array Value} {es:List Value} {c:Nat} (hb:Blk w b t cs) (hS:S b) (he:Els E S w es l) (hcs:∀ (j:Nat) (u:Value),(cellsOf es)[j]?=some u->cs[j]?=some u) (hc:l.length<=c) (hm:l.length<=9223372036854775807) :
  (RL E hsz).R S w (.slice (some ⟨b,0,none⟩) l.length c) l :=
 ⟨es,he,_,c,rfl,hc,hm,by rw[E6 es he.sz,he.1],λ_=>⟨_,rfl,hS,λj u hu=>⟨by rw[S8,aD,hb.cell];exact hcs j u hu,by rw[S8];exact hb.frozen _⟩⟩⟩
theorem RL.sub (h:(RL E hsz).R S w v l) {a:Option Addr} {n c:Nat} (hv:v=.slice a n c) (lo hi:Nat) (h1:lo<=hi) (h2:hi<=l.length) :
  (RL E hsz).R S w (.slice (if c=lo then a else a.map (·.add (lo*E.sz))) (hi-lo) (c-lo)) ((l.take hi).drop lo):=by
 obtain⟨es,he,a',c',hv',h3,h4,h5,h6⟩:=h;rw[hv'] at hv;injection hv with e1 e2 e3;subst e1;subst e2;subst e3;have hlen:((l.take hi).drop lo).length=hi-lo:=by simp;omega
 have hsz':∀ e∈(es.take hi).drop lo,e.cells.size=E.sz:=λe hx=>he.sz e (eO (gW hx));have hel:((es.take hi).drop lo).length=hi-lo:=by simp[he.1];omega
 refine⟨(es.take hi).drop lo,⟨by rw[hlen,hel],λi e x hx1 hx2=>?_⟩,_,c'-lo,by rw[hlen],by rw[hlen];omega,by rw[hlen];omega,?_,λhn=>?_⟩
 ·rw[eR,cP] at hx1 hx2;split at hx1
  ·rename_i hlt;rw[if_pos hlt] at hx2;exact he.2 _ e x hx1 hx2
  ·cases hx1
 ·rw[E6 _ hsz',hel,hlen]
 ·rw[hlen] at hn;obtain⟨ad,rfl,hS,hc⟩:=h6 (by omega);rw[if_neg (by omega)];refine⟨ad.add (lo*E.sz),rfl,by rw[J9];exact hS,λj u hu=>?_⟩;rw[AC5];refine hc _ u ?_;have hj:j<(hi-lo)*E.sz:=by
   rcases aB j ((hi-lo)*E.sz) with h | h
   ·exact h
   ·rw[aH (by rw[E6 _ hsz',hel];exact h)] at hu;cases hu
  have hq:j / E.sz<hi-lo:=(bD hsz).2 hj;have hr:j % E.sz<E.sz:=aY _ hsz;have hjd:j=(j / E.sz)*E.sz+j % E.sz:=by rw[aT];exact (bE j E.sz).symm
  obtain⟨e,hee⟩:∃ e,((es.take hi).drop lo)[j / E.sz]?=some e:=⟨_,aE (by rw[hel];exact hq)⟩;have hg:=F0 _ (j / E.sz) (j % E.sz) e hsz' hee hr;rw[<-hjd,hu] at hg;have hee':es[lo+j / E.sz]?=some e:=by
   rw[eR,cP] at hee;split at hee
   ·exact hee
   ·cases hee
  have hg2:=F0 es (lo+j / E.sz) (j % E.sz) e he.sz hee' hr;rw[<-hg] at hg2;rw[<-hg2];congr 1;rw[cF];omega
end
def Up (S:Nat->Prop) (w:World):Prop:=∀ k,w.heap.size<=k->S k
theorem Up.ext{S:Nat->Prop}{w w':World}(h:Up S w)(e:w.heap.size<=w'.heap.size):Up S w':=λk hk=>h k (by omega)
def Sx (S:Nat->Prop) (B C:Nat):Nat->Prop:=λk=>S k/\(k<B\/C<=k)
theorem Sx.up{S:Nat->Prop}{w w1:World}(h:Up S w)(h1:C<=w1.heap.size)(h2:w.heap.size<=w1.heap.size):Up (Sx S B C) w1:=λk hk=>⟨h k (by omega),.inr (by omega)⟩
theorem Sx.no{S:Nat->Prop}{b:Nat}(h1:B<=b)(h2:b<C):¬ Sx S B C b:=λh=>by rcases h.2 with h | h<;>omega
section
variable {α:Type} (E:ER α)
theorem ER.par {S:Nat->Prop} {w:World} {v:Value} {x:α} (h:E.R S w v x) (C:Nat):E.R (Sx S w.heap.size C) w v x:=E.mono (λ_ hk hs=>⟨hs,.inl hk⟩) h
theorem ER.lt {S:Nat->Prop} {w:World} {v:Value} {x:α} (h:E.R S w v x):E.R (λk=>S k/\k<w.heap.size) w v x:=E.mono (λ_ hk hs=>⟨hs,hk⟩) h
theorem ER.out {S:Nat->Prop} {B C:Nat} {w:World} {v:Value} {x:α} (h:E.R (Sx S B C) w v x):E.R S w v x:=E.mono (λ_ _ hs=>hs.1) h
end
section
variable {P:Program} {σ:Env} {w:World} {d:Option Tmp} {ty:TypeId} {pos:String} {af:Array Edge} {g:Option (Nat×Bool)} {α:Type} {E:ER α} {hsz:0<E.sz} {S:Nat->Prop} {v:Value} {l:List α}
theorem AA7 {t e:TypeId} {x:Operand} (ht:P.underlying t=some (.slice e)) (hx:ev σ x=some v) (h:(RL E hsz).R S w v l) :
  Vl P ⟨d,.call { callee:=.builtin .len,args:=#[x],argTypes:=#[t] },ty,pos,af,g⟩ σ w (.int .i64 l.length):=by
 obtain⟨a,c,hv,_⟩:=RL.len h;exact v_len ht (by rw[hx,hv])
theorem g_ix {t e:TypeId} {x ix:Operand} {k:IntKind} {i:Int} {b:Bool} {y:α} (ht:P.underlying t=some (.slice e)) (he:F6 P e=some (b,E.sz)) (hx:ev σ x=some v) (h:(RL E hsz).R S w v l)
  (hi:ev σ ix=some (.int k i)) (h0:0<=i) (hy:l[i.toNat]?=some y) :
  Gv P ⟨d,.indexAddr t x ix,ty,pos,af,g⟩ σ w λv' w'=>w'=w/\∃ p,v'=.pointer (some p)/\P5 E S w p y:=by
 refine⟨(by intro _ h;cases h),λρ hρ=>.inl ?_⟩;obtain⟨ad,c,hv,hc,hp⟩:=RL.at_ h hy;have h1:=hρ x _ (by simp[Op.operands]) hx;have h2:=hρ ix _ (by simp[Op.operands]) hi;have hlt:i.toNat<l.length:=by
  rcases aB i.toNat l.length with h | h
  ·exact h
  ·rw[aH h] at hy;cases hy
 refine⟨_,w,?_,rfl,_,rfl,hp⟩;have hlt':i<(l.length:Int):=by omega
 simp[execOp,h1,h2,hv,Instr.indexAt,asIntOf,run_underlying ht,h0,hlt',(L0 he w).2]
theorem P5.run {t:TypeId} {p:Addr} {y:α} (ht:F6 P t=some (E.isA,E.sz)) (hp:P5 E S w p y):∃ e,(loadVar t p).run P w=.ok e w/\E.R S w e y:=by
 obtain⟨e,h1,_,h3⟩:=hp;have hs:=E.shp h1;refine⟨e,?_,h1⟩
 cases hA:E.isA with
 | true =>
  rw[hA] at hs ht;simp only[cond_true] at hs;have:=V5 (P:=P) (w:=w) (p:=p) (cs:=e.cells.toList) (t:=t) (by rw[ht];simp[E.csz h1]) (λj u hu=>h3 j u (by simpa using hu));rw[this,hs];simp[Value.cells]
 | false =>
  rw[hA] at hs ht;simp only[cond_false] at hs;have h0:e.cells[0]?=some e:=by cases e<;>simp_all[H3,Value.cells]
  have:=h3 0 e h0;rw[show p.add 0=p from rfl] at this;exact Q6 ht this
theorem Bj3 {t:TypeId} {x:Operand} {p:Addr} {y:α} (ht:F6 P t=some (E.isA,E.sz)) (hx:ev σ x=some (.pointer (some p))) (hp:P5 E S w p y) :
  Gv P ⟨d,.load t x,ty,pos,af,g⟩ σ w λv' w'=>w'=w/\E.R S w v' y:=by
 refine⟨(by intro _ h;cases h),λρ hρ=>.inl ?_⟩;have h1:=hρ x _ (by simp[Op.operands]) hx;obtain⟨e,hr,he⟩:=P5.run ht hp;exact⟨e,w,by simp[execOp,h1,Instr.loadAt,Instr.sureAddr,hr],rfl,he⟩
theorem g_cut {t e:TypeId} {x:Operand} {b:Bool} (lo hi:Option Operand) (L H:Nat) (ht:P.underlying t=some (.slice e)) (he:F6 P e=some (b,E.sz)) (hx:ev σ x=some v) (h:(RL E hsz).R S w v l)
  (hlo:match lo with | none=>L=0 | some y=>∃ k,ev σ y=some (.int k (L:Int))) (hhi:match hi with | none=>H=l.length | some y=>∃ k,ev σ y=some (.int k (H:Int))) (h1:L<=H) (h2:H<=l.length) :
  Gv P ⟨d,.slice t x lo hi none,ty,pos,af,g⟩ σ w λv' w'=>w'=w/\(RL E hsz).R S w v' ((l.take H).drop L):=by
 refine⟨(by intro _ h;cases h),λρ hρ=>.inl ?_⟩;obtain⟨a,c,hv,hc,_⟩:=RL.len h;have e1:=hρ x _ (by simp[Op.operands]) hx;refine⟨_,w,?_,rfl,RL.sub h hv L H h1 h2⟩;have hlc:H<=c:=by omega
 have hb1:(Instr.sliceBounds true l.length c (lo.map ρ) (hi.map ρ) none).run P w=.ok (L,H,c) w:=by
  cases lo with
  | none =>
   cases hi with
   | none=>simp at hlo hhi;subst hlo;subst hhi;simp[Instr.sliceBounds]
   | some y =>
    simp at hlo;obtain⟨k,hk⟩:=hhi;have:=hρ y _ (by simp[Op.operands]) hk;subst hlo;simp[Instr.sliceBounds,Instr.sliceBound,this,asIntOf,Int.ofNat_le,hlc]
  | some z =>
   obtain⟨k',hk'⟩:=hlo;have e2:=hρ z _ (by simp[Op.operands]) hk'
   cases hi with
   | none =>
    simp at hhi;subst hhi;simp[Instr.sliceBounds,Instr.sliceBound,e2,asIntOf,h1]
   | some y =>
    obtain⟨k,hk⟩:=hhi;have:=hρ y _ (by simp[Op.operands]) hk;simp[Instr.sliceBounds,Instr.sliceBound,this,e2,asIntOf,hlc,h1]
 simp[execOp,e1,hv,Instr.sliceAt,run_underlying ht,Instr.slice,hb1,(L0 he w).2]
end
theorem BO4(z:Value)(n sz:Nat)(hz:z.cells.size=sz)(hsz:0<sz):madeCells z.cells (n*sz)=(cellsOf (List.replicate n z)).toArray:=by
 have hall:∀ e∈List.replicate n z,e.cells.size=sz:=λe he=>by rw[(List.mem_replicate.1 he).2];exact hz
 apply gC;intro i;have hR:(cellsOf (List.replicate n z)).toArray[i]?=(cellsOf (List.replicate n z))[i]?:=bN;rw[hR];rcases aB i (n*sz) with hi | hi
 ·have hq:i / sz<n:=(bD hsz).2 hi;have hr:i % sz<sz:=aY _ hsz;have he:(List.replicate n z)[i / sz]?=some z:=by rw[eA,if_pos hq]
  have:=F0 (List.replicate n z) (i / sz) (i % sz) z hall he hr;rw[show (i / sz)*sz+i % sz=i by rw[aT];exact bE i sz] at this;rw[this];simp[madeCells,hi,hz,hr]
 ·rw[cX (by simp[madeCells];omega),aH (by rw[E6 _ hall];simpa using hi)]
def O8 (P:Program) (t:TypeId):Option (Value×Nat×Nat):=(P.info? t).bind λi=>i.zero.map λz=>(z,i.size,i.bytes)
theorem AB9{P:Program}{t:TypeId}{z:Value}{sz by_:Nat}(h:O8 P t=some (z,sz,by_)):∃ i,P.info? t=some i/\i.zero=some z/\i.size=sz/\i.bytes=by_:=by
 unfold O8 at h
 cases hi:P.info? t with
 | none=>rw[hi] at h;cases h
 | some i =>
  rw[hi] at h;simp only[fY,Option.map_eq_some_iff,Prod.mk.injEq] at h;obtain⟨z',h1,h2,h3,h4⟩:=h;exact⟨i,rfl,by rw[h1,h2],h3,h4⟩
section
variable {P:Program} {σ:Env} {w:World} {d:Option Tmp} {ty:TypeId} {pos:String} {af:Array Edge} {g:Option (Nat×Bool)}
theorem By6 {t e:TypeId} {x y:Operand} {z:Value} {sz by_:Nat} (n c:Nat) {k k':IntKind} (ht:P.underlying t=some (.slice e)) (hi:O8 P e=some (z,sz,by_)) (hzs:z.cells.size=sz) (hsz:0<sz)
  (hx:ev σ x=some (.int k (n:Int))) (hy:ev σ y=some (.int k' (c:Int))) (hnc:n<=c) (hby:by_*c<=281474976710656) (hc:c<=9223372036854775807) :
  Gv P ⟨d,.makeSlice t x y,ty,pos,af,g⟩ σ w λv' w'=>∃ b,v'=.slice (some ⟨b,0,none⟩) n c/\New w w' b e (cellsOf (List.replicate c z)).toArray:=by
 obtain⟨i,hi0,hi1,hi2,hi3⟩:=AB9 hi;refine⟨(by intro _ h;cases h),λρ hρ=>.inl ?_⟩;have e1:=hρ x _ (by simp[Op.operands]) hx;have e2:=hρ y _ (by simp[Op.operands]) hy;have hb':(i.bytes:Int)*(c:Int)<=281474976710656:=by rw[hi3,<-cQ];omega
 have hr:=run_make (P:=P) w t e i z ht hi0 hi1 k k' n c (by omega) (by omega) hb' (by omega);rw[hi2,fK,fK,BO4 z c sz hzs hsz] at hr;exact⟨_,_,by simp[execOp,e1,e2,hr],_,rfl,Ab0 w e _⟩
theorem Ar7 {v:Value} (h:H3 v=true):v.oneCell'=true:=by cases v<;>simp_all[H3,Value.oneCell']
theorem BB1 {t e:TypeId} {x y:Operand} {z:Value} {sz by_ base:Nat} {v:Value} {n:Nat} {xs:List Value} {a:Addr} {m c:Nat} (news:List Value) (ht:P.underlying t=some (.slice e)) (hi:O8 P e=some (z,sz,by_))
  (hzs:z.cells.size=sz) (hsz:0<sz) (hx:ev σ x=some v) (hy:ev σ y=some (.slice (some a) m c)) (hown:w.ownsRow base e sz v n xs)
  (hl:news.length=m*sz) (hnews:∀ j u,news[j]?=some u->w.cell? (a.add j)=some u) (h1:∀ u∈news,H3 u=true) (h63:n+m<=9223372036854775807) (hby:(n+m)*by_<=140737488355328) (hbase:base<=w.heap.size) :
  Gv P ⟨d,.call { callee:=.builtin .append,args:=#[x,y],argTypes:=#[t,t] },ty,pos,af,g⟩ σ w λv' w'=>w'.ownsRow base e sz v' (n+m) (xs++news)/\w.grownBy w' v.ownBlock:=by
 obtain⟨i,hi0,hi1,hi2,hi3⟩:=AB9 hi;refine⟨(by intro _ h;cases h),λρ hρ=>.inl ?_⟩;have e1:=hρ x _ (by simp[Op.operands,Call.operands]) hx;have e2:=hρ y _ (by simp[Op.operands,Call.operands]) hy;obtain⟨v',w',hr,h2,h3,_⟩:=run_append_own (P:=P) w base t ty e i z sz by_ ht hi0 hi1 hi2 hi3 hzs hsz v n xs hown a m c news hl hnews (λu hu=>Ar7 (h1 u hu)) (by simpa[maxLen] using h63) hby hbase;exact⟨v',w',by simp[execOp,resolve,invoke,builtin,e1,e2,hr],h2,h3⟩
theorem By8 {t e:TypeId} {x y:Operand} {z:Value} {sz by_ base:Nat} {v:Value} {n:Nat} {xs:List Value} {c:Nat} (ht:P.underlying t=some (.slice e)) (hi:O8 P e=some (z,sz,by_))
  (hx:ev σ x=some v) (hy:ev σ y=some (.slice none 0 c)) (hown:w.ownsRow base e sz v n xs) :
  Vl P ⟨d,.call { callee:=.builtin .append,args:=#[x,y],argTypes:=#[t,t] },ty,pos,af,g⟩ σ w v:=by
 obtain⟨i,hi0,hi1,hi2,hi3⟩:=AB9 hi;refine⟨(by intro _ h;cases h),λρ hρ=>?_⟩;have e1:=hρ x _ (by simp[Op.operands,Call.operands]) hx;have e2:=hρ y _ (by simp[Op.operands,Call.operands]) hy;have hr:(Builtin.append_ #[t,t] ty #[v,.slice none 0 c]).run P w=.ok v w:=by
  rcases hown.2 with ⟨rfl,rfl⟩ | ⟨g,cap,cur,rfl,_,_,hnc,_⟩
  ·simp[Builtin.append_,run_underlying ht,sizeOf,typeInfo,hi0,Builtin.lenOf,Builtin.firstCells]
  ·simp[Builtin.append_,run_underlying ht,sizeOf,typeInfo,hi0,Builtin.lenOf,Builtin.firstCells,hnc,storeCells]
 simp[execOp,resolve,invoke,builtin,e1,e2,hr]
end
def BV6 (P:Program):List Field->Option (List (Nat×Nat))
 | []=>some []
 | f::fs=>match P.info? f.type,BV6 P fs with
  | some j,some r=>some ((f.offset,j.size)::r)
  | _,_=>none
theorem Bh0 {P:Program} {w:World}:∀ (fs:List Field) (r:List (Nat×Nat)),BV6 P fs=some r->(fs.mapM (m:=Sem) λf=>do pure (f.offset,<-sizeOf f.type)).run P w=.ok r w
 | [],r,h=>by simp[BV6] at h;subst h;simp
 | f::fs,r,h=>by
  unfold BV6 at h
  split at h
  ·rename_i j r' hj hr
   cases h
   have ih:=Bh0 (P:=P) (w:=w) fs r' hr
   have hs:(sizeOf f.type).run P w=.ok j.size w:=by simp[sizeOf,typeInfo,hj]
   simp only[List.mapM_cons,Sem.run_bind,hs,Sem.run_pure,Result.andThen_ok,ih]
  ·cases h
def AK4 (P:Program) (t:TypeId) (parts:List (Nat×Value)):Option (Array Value) :=
 match P.underlying t with
 | some (.struct fs)=>match M0 P t,BV6 P fs.toList with
  | some z,some r=>Instr.fill (r.toArray[·]?) z.cells parts
  | _,_=>none
 | _=>none
def evp (σ:Env):List (Nat×Operand)->Option (List (Nat×Value))
 | []=>some []
 | (i,x)::r=>match ev σ x,evp σ r with
  | some v,some vs=>some ((i,v)::vs)
  | _,_=>none
theorem BP8 {σ:Env} {ρ:Operand->Value}:∀ {ps:List (Nat×Operand)} {vs:List (Nat×Value)},(∀ x v,x∈ps.map (·.2)->ev σ x=some v->ρ x=v)->evp σ ps=some vs->ps.map (λp=>(p.1,ρ p.2))=vs
 | [],vs,_,h=>by simp[evp] at h;subst h;rfl
 | (i,x)::r,vs,hρ,h=>by
  unfold evp at h
  split at h
  ·rename_i v vs' hv hvs
   cases h
   simp only[dT,List.cons.injEq,Prod.mk.injEq,true_and]
   exact⟨hρ x v (by simp) hv,BP8 (λy u hy=>hρ y u (by simp only[dT,gE];exact .inr hy)) hvs⟩
  ·cases h
section
variable {P:Program} {σ:Env} {w:World} {d:Option Tmp} {ty:TypeId} {pos:String} {af:Array Edge} {g:Option (Nat×Bool)}
theorem Bg5 {t:TypeId} {ps:List (Nat×Operand)} (vs:List (Nat×Value)) {cs:Array Value} (hv:evp σ ps=some vs) (hc:AK4 P t vs=some cs):Vl P ⟨d,.build t ps.toArray,ty,pos,af,g⟩ σ w (.agg cs):=by
 refine⟨(by intro _ h;cases h),λρ hρ=>?_⟩;have hm:=BP8 (ρ:=ρ) (λx v hx=>hρ x v (by simpa[Op.operands] using hx)) hv;have hm':(ps.toArray.map λ(i,x)=>(i,ρ x))=vs.toArray:=by apply Array.toList_inj.1;simpa using hm
 unfold AK4 at hc;split at hc
 ·rename_i fs hfs;split at hc
  ·rename_i z r hz hr;unfold M0 at hz
   cases hi:P.info? t with
   | none=>rw[hi] at hz;cases hz
   | some i =>
    rw[hi] at hz;have hz':i.zero=some z:=hz;have hp:=Bh0 (P:=P) (w:=w) fs.toList r hr;have hp':(fs.mapM (m:=Sem) λf=>do pure (f.offset,<-sizeOf f.type)).run P w=.ok r.toArray w:=by
     have:fs=fs.toList.toArray:=by simp
     rw[this,List.mapM_toArray];simp only[map_eq_pure_bind,Sem.run_bind,hp,Result.andThen_ok,Sem.run_pure]
    simp only[execOp,Instr.build,hm',zeroValue,typeInfo,program,Sem.run_bind,Sem.run,hi,Sem.run_pure,Result.andThen_ok,hz',run_underlying hfs,hp',hc]
  ·cases hc
 ·cases hc
def Y7 (P:Program) (t:TypeId) (len:Nat) (parts:List (Nat×Value)):Option (TypeId×Array Value) :=
 match P.underlying t with
 | some (.slice e)=>match O8 P e with
  | some (z,sz,_)=>if len*sz > 2 ^ 24 then none else
   match Instr.fill (λi=>some (i*sz,sz)) ((Array.range (len*sz)).map ((if len*sz=0 then #[] else z.cells)[· % (if len*sz=0 then #[] else z.cells).size]!)) parts with
   | some cs=>some (e,cs)
   | none=>none
  | none=>none
 | _=>none
theorem Ad7 {t e:TypeId} {len:Nat} {ps:List (Nat×Operand)} (vs:List (Nat×Value)) {cs:Array Value} (hv:evp σ ps=some vs) (hc:Y7 P t len vs=some (e,cs)) :
  Gv P ⟨d,.buildSlice t len ps.toArray,ty,pos,af,g⟩ σ w λv' w'=>∃ b,v'=.slice (some ⟨b,0,none⟩) len len/\New w w' b e cs:=by
 refine⟨(by intro _ h;cases h),λρ hρ=>.inl ?_⟩;have hm:=BP8 (ρ:=ρ) (λx v hx=>hρ x v (by simpa[Op.operands] using hx)) hv;have hm':(ps.toArray.map λ(i,x)=>(i,ρ x))=vs.toArray:=by apply Array.toList_inj.1;simpa using hm
 refine⟨_,_,?_,w.heap.size,rfl,Ab0 w e cs⟩;unfold Y7 at hc;split at hc
 ·rename_i el hel;split at hc
  ·rename_i z sz by_ hi;obtain⟨i,hi0,hi1,hi2,hi3⟩:=AB9 hi;split at hc
   ·cases hc
   ·rename_i hle;split at hc
    ·rename_i cs' hf
     cases hc;by_cases h0:len*sz=0
     ·simp[h0,Array.range_zero'] at hf;simp[execOp,Instr.buildSlice,hm',run_underlying hel,sizeOf,typeInfo,hi0,hi2,h0,hf,newRow,Array.range_zero']
     ·simp only[h0,if_false] at hf;simp[execOp,Instr.buildSlice,hm',run_underlying hel,sizeOf,typeInfo,hi0,hi2,h0,hf,newRow,zeroValue,hi1];omega
    ·cases hc
  ·cases hc
 ·cases hc
def Bh8 (P:Program) (t:TypeId) (cs:Array Value) (i:Nat):Option Value :=
 match P.underlying t with
 | some (.struct fs)=>match fs[i]? with
  | some f=>match F6 P f.type with
   | some (true,n)=>some (.agg (cs.extract f.offset (f.offset+n)))
   | some (false,_)=>cs[f.offset]?
   | none=>none
  | none=>none
 | _=>none
theorem v_fd {t:TypeId} {x:Operand} {i:Nat} {cs:Array Value} {v:Value} (hx:ev σ x=some (.agg cs)) (hp:Bh8 P t cs i=some v):Vl P ⟨d,.field t x i,ty,pos,af,g⟩ σ w v:=by
 refine⟨(by intro _ h;cases h),λρ hρ=>?_⟩;have h1:=hρ x _ (by simp[Op.operands]) hx;unfold Bh8 at hp;split at hp
 ·rename_i fs hfs;split at hp
  ·rename_i f hff;split at hp
   ·rename_i n hn
    cases hp;simp[execOp,h1,Instr.field,run_underlying hfs,hff,part,asAgg,(L0 hn w).1,(L0 hn w).2]
   ·rename_i n hn;simp[execOp,h1,Instr.field,run_underlying hfs,hff,part,asAgg,(L0 hn w).1,hp]
   ·cases hp
  ·cases hp
 ·cases hp
end
@[reducible] def Ah4 (B:Nat) (t:TypeId) (cs:Array Value):Value->World->Prop:=λv W=>∃ b,v=.pointer (some ⟨b,0,none⟩)/\B<=b/\Blk W b t cs
def BP0 (o:Oper):Bool:=match o.op with | .alloc _=>true | _=>false
def Bg0 (P:Program) (w0:World):List Oper->List Sp->Prop
 | o::os,s::ss=>(BP0 o=true->∃ t z B,o.op=.alloc t/\o.guard=none/\M0 P t=some z/\s=.inr (Ah4 B t z.cells)/\B<=w0.heap.size)/\Bg0 P w0 os ss
 | _,_=>True
theorem Bg0.at_ {P:Program} {w0:World}:∀ {os:List Oper} {ss:List Sp},Bg0 P w0 os ss->∀ (i:Nat) (o:Oper) (s:Sp),os[i]?=some o->ss[i]?=some s->BP0 o=true->∃ t z B,o.op=.alloc t/\o.guard=none/\M0 P t=some z/\s=.inr (Ah4 B t z.cells)/\B<=w0.heap.size
 | [],ss,_,i,o,s,h1,_,_=>by simp at h1
 | o'::os,[],_,i,o,s,_,h2,_=>by simp at h2
 | o'::os,s'::ss,h,0,o,s,h1,h2,h3=>by simp at h1 h2;subst h1;subst h2;exact h.1 h3
 | o'::os,s'::ss,h,i+1,o,s,h1,h2,h3=>Bg0.at_ h.2 i o s (by simpa using h1) (by simpa using h2) h3
def Ba5 (ops:List Oper) (σ:Env):Prop:=∀ t t' v v',t≠t'->(∃ o∈ops,BP0 o=true/\o.dst=some t)->(∃ o∈ops,BP0 o=true/\o.dst=some t')->look σ t=some v->look σ t'=some v'->v≠v'
structure InvF (al:Bool) (N:Nat) (ds:List Deferred) (ops:List Oper) (w0:World) (h:Nat) (sp:List Sp) (a0:Act) (listed:Array Bool) (a:Act) (w:World):Prop where
 size:a.tmps.size=N
 defs:a.defers=ds
 ext:Ext w0 w
 vals:∀ (i:Nat) (o:Oper) (s:Sp) (t:Tmp),i<h->ops[i]?=some o->sp[i]?=some s->isL listed i->o.dst=some t->Sp.ok s (a.tmps.getD t undef) w
 old:∀ t,(∀ (i:Nat) (o:Oper),i<h->ops[i]?=some o->isL listed i->o.dst≠some t)->a.tmps.getD t undef=a0.tmps.getD t undef
 shut:∀ (i:Nat) (o:Oper),ops[i]?=some o->isL listed i->∀ j,I3 o j=true->isL listed j
 head:∀ i,h<=i->¬ isL listed i
 dis:al=true->∀ (i j:Nat) (oi oj:Oper) (t t':Tmp),i<h->j<h->i≠j->ops[i]?=some oi->ops[j]?=some oj->isL listed i->isL listed j->BP0 oi=true->BP0 oj=true->oi.dst=some t->oj.dst=some t'->a.tmps.getD t undef≠a.tmps.getD t' undef
 low:al=true->∀ (i:Nat) (o:Oper) (t:Tmp),i<h->ops[i]?=some o->isL listed i->BP0 o=true->o.dst=some t->∃ b,a.tmps.getD t undef=.pointer (some ⟨b,0,none⟩)/\b<w.heap.size
section
variable {P:Program} {ro:Option Nat} {N:Nat} {ds:List Deferred} {ops:List Oper} {K:Env->World->Prop} {σ0:Env} {w0:World} {h:Nat} {sp:List Sp} {deps:List (List (Tmp×Nat))} {a0:Act}
section
variable {Q:Exit->Act->World->Prop}
theorem Bu7 (al:Bool) (hchk:BW0 ops N h deps=true) (ha0:Agr N σ0 ds a0) (hob:Obs P w0 σ0 (ops.take h) sp (ops.take h) sp deps) (hal:al=true->Bg0 P w0 (ops.take h) sp)
  (hfin:∀ w,Ext w0 w->Ac2 (λσ w=>(al=true->Ba5 (ops.take h) σ)->∀ a,Agr N σ ds a->wpListIn (wf ro) 0 P ops.toArray Q (ops.drop h) a w) w (ops.take h) sp σ0) :
  ∀ (fuel:Nat) (listed:Array Bool) (a:Act) (w:World),listed.size=ops.length->cnt listed ops.length<=fuel ->
   (InvF al N ds ops w0 h sp a0 listed a w\/∃ p,h<=p/\p<=ops.length/\(∀ j,j<p->isL listed j)/\(∀ j,p<=j->¬ isL listed j)/\wpListIn (wf ro) 0 P ops.toArray Q (ops.drop p) a w) ->
   wpAnyIn (wf ro) 0 P .any ops.toArray Q fuel listed a w:=by
 simp only[BW0,aO,aR,Nat.ble_eq] at hchk;obtain⟨⟨⟨hback,hnd⟩,hall⟩,hle⟩:=hchk;have hback':∀ (i:Nat) (o:Oper),ops[i]?=some o->∀ j,I3 o j=true->j<i:=by
  intro i o hi j hj;have:=hback (o,i) (by rw[bU];exact hi);obtain⟨e,he,hb,rfl⟩:=O0.1 hj;simp only[Ag0,fZ,aX,dI,aZ] at this;rcases this e he with h | h
  ·rw[hb] at h;cases h
  ·exact h
 have hop:∀ (i:Nat) (o:Oper),i<h->ops[i]?=some o->Au4 (ops.take h) N i o (deps.getD i [])=true:=by intro i o hi ho;have:=hall (o,i) (by rw[bU];exact ho);simpa[aZ,hi] using this
 have htail:∀ (listed:Array Bool),(∀ (i:Nat) (o:Oper),ops[i]?=some o->isL listed i->∀ j,I3 o j=true->isL listed j)->∀ (i:Nat) (o:Oper),h<=i->ops[i]?=some o->(∀ j,I3 o j=true->isL listed j)->∀ j,j<i->isL listed j:=by
  intro listed shut i o hi ho hed j hj;have:=hall (o,i) (by rw[bU];exact ho);have hn:Nat.blt i h=false:=by
   cases hh:Nat.blt i h with
   | false=>rfl
   | true=>rw[aZ] at hh;omega
  simp only[hn,gD,if_false,Bv8,aR,cM] at this;obtain⟨x,hx,hxe⟩:=List.any_eq_true.1 (this j hj);have hxj:j=x:=bH hxe;subst hxj;refine AE9 shut _ _ (λk hk=>?_) j hx;simp only[AE7,dH] at hk;obtain⟨e,he,hb⟩:=hk;have hbb:Region.binds .any e=true:=by
   cases h':Region.binds .any e with
   | true=>rfl
   | false=>rw[h'] at hb;simp at hb
  rw[hbb] at hb;simp at hb;exact hed k (O0.2 ⟨e,by simpa using he,hbb,hb⟩)
 have htake:∀ i,i<h->(ops.take h)[i]?=ops[i]?:=λi hi=>by rw[cP,if_pos hi]
 have hlen:=Obs.len hob;have hlt:(ops.take h).length=h:=by simp;omega
 have toB:∀ listed a w,InvF al N ds ops w0 h sp a0 listed a w->(∀ i,i<h->isL listed i)->wpListIn (wf ro) 0 P ops.toArray Q (ops.drop h) a w:=by
  intro listed a w hI hl;have hmem:∀ o∈ops.take h,∃ i,i<h/\ops[i]?=some o:=by
   intro o ho;obtain⟨i,hi⟩:=List.mem_iff_getElem?.1 ho;have hi':i<h:=by
    rcases aB i h with hh | hh
    ·exact hh
    ·rw[aH (by omega)] at hi;cases hi
   exact⟨i,hi',by rw[<-htake i hi'];exact hi⟩
  have hsome:∀ o∈ops.take h,dOk N o.dst=true/\o.dst.isSome=true:=by intro o ho;obtain⟨i,hi,ho⟩:=hmem o ho;have:=hop i o hi ho;simp only[Au4,aO] at this;exact⟨this.1.1.1.1.1,this.1.1.1.1.2⟩
  obtain⟨σ',hag,hk⟩:=BX2 (N:=N) (ds:=ds) (ops.take h) sp σ0 a hlen (hfin w hI.ext) (λo ho=>(hsome o ho).1)
   (λi o s t h1 h2 h3=>by
    have hi':i<h:=by
     rcases aB i h with hh | hh
     ·exact hh
     ·rw[aH (by omega)] at h1;cases h1
    exact hI.vals i o s t hi' (by rw[<-htake i hi'];exact h1) h2 (hl i hi') h3)
   (λt v hv hno=>by rw[hI.old t (λi o hi ho _=>hno o (List.mem_iff_getElem?.2 ⟨i,by rw[htake i hi];exact ho⟩))];exact ha0.slot t v hv)
   (U4 hnd) hI.size hI.defs
   (λi o s h1 h2 h3=>by have:=(hsome o (List.mem_iff_getElem?.2 ⟨i,h1⟩)).2;rw[h3] at this;cases this)
  refine hk (λhA t t' v v' htt ⟨o,ho,hoa,hod⟩ ⟨o',ho',hoa',hod'⟩ hv hv'=>?_) a hag;obtain⟨i,hi,hio⟩:=hmem o ho;obtain⟨j,hj,hjo⟩:=hmem o' ho';have hij:i≠j:=by intro e;subst e;rw[hio] at hjo;cases hjo;rw[hod] at hod';cases hod';exact htt rfl
  have:=hI.dis hA i j o o' t t' hi hj hij hio hjo (hl i hi) (hl j hj) hoa hoa' hod hod';rw[hag.slot t v hv,hag.slot t' v' hv'] at this;exact this
 have allL:∀ listed:Array Bool,listed.size=ops.length->Region.ready .any ops.toArray listed=[]->∀ i,i<ops.length->isL listed i:=by
  intro listed hsz hr i;induction i using Nat.strongRecOn with
  | _ i ih =>
   intro hi;by_cases hh:isL listed i
   ·exact hh
   ·have:i∈Region.ready .any ops.toArray listed:=by refine V7.2 ⟨by simpa using hi,(K0 (by omega)).2 hh,λo ho j hj=>?_⟩;have:=hback' i o (by simpa using ho) j hj;exact ih j this (by omega)
    rw[hr] at this;cases this
 have done:∀ listed a w,(∀ i,i<ops.length->isL listed i)->(InvF al N ds ops w0 h sp a0 listed a w\/∃ p,h<=p/\p<=ops.length/\(∀ j,j<p->isL listed j)/\(∀ j,p<=j->¬ isL listed j)/\wpListIn (wf ro) 0 P ops.toArray Q (ops.drop p) a w)->Q .normal a w:=by
  intro listed a w hl hJ;rcases hJ with hI | ⟨p,hp,hpn,_,hno,hwp⟩
  ·have hn:ops.length<=h:=dS λhh=>hI.head h (aA _) (hl h hh);have:=toB listed a w hI (λi hi=>hl i (by omega));rw[dU hn] at this;exact this
  ·have hn:ops.length<=p:=dS λhh=>hno p (aA _) (hl p hh);rw[dU hn] at hwp;exact hwp
 intro fuel;induction fuel with
 | zero =>
  intro listed a w hsz hc hJ;have hl:∀ i,i<ops.length->isL listed i:=by
   intro i hi;have:=Al6 listed ops.length (by omega) i hi;by_cases hh:isL listed i
   ·exact hh
   ·have:=(K0 (by omega:i<listed.size)).2 hh;simp_all
  refine⟨?_,done listed a w hl hJ⟩;refine List.eq_nil_iff_forall_not_mem.2 λi hi=>?_;obtain⟨h1,h2,_⟩:=V7.1 hi;have h1':i<ops.length:=by simpa using h1
  exact (K0 (by omega)).1 h2 (hl i h1')
 | succ fuel ih =>
  intro listed a w hsz hc hJ;refine⟨λhr=>done listed a w (allL listed hsz hr) hJ,λi hi=>?_⟩;obtain⟨hin,hun,hed⟩:=V7.1 hi;have hin':i<ops.length:=by simpa using hin
  have hunl:¬ isL listed i:=(K0 (by omega)).1 hun;obtain⟨o,ho⟩:∃ o,ops[i]?=some o:=⟨_,aE hin'⟩;have hed':∀ j,I3 o j=true->isL listed j:=hed o (by simpa using ho);have hsz':(listed.setIfInBounds i true).size=ops.length:=by simpa using hsz
  have hcnt:cnt (listed.setIfInBounds i true) ops.length<=fuel:=by have:=AT4 listed i hun ops.length hin';omega
  have tailStep:h<=i->(∀ j,j<i->isL listed j)->(∀ j,i<=j->¬ isL listed j)->wpListIn (wf ro) 0 P ops.toArray Q (ops.drop i) a w ->
    wpOpIn (wf ro) 0 P ops.toArray Q i (wpAnyIn (wf ro) 0 P .any ops.toArray Q fuel (listed.setIfInBounds i true)) a w:=by
   intro hhi hlow hhigh hwp;have hd:ops.drop i=o::ops.drop (i+1):=by rw[bX hin'];congr 1;have:=aE hin';rw[ho] at this;exact (Option.some.inj this).symm
   rw[hd] at hwp;have hw2:wpOpIn (wf ro) 0 P ops.toArray Q i (wpListIn (wf ro) 0 P ops.toArray Q (ops.drop (i+1))) a w:=by unfold wpOpIn;simp only[bN,ho];simpa only[wpListIn] using hwp
   refine wpOpIn_mono (λa' w' hw'=>ih _ a' w' hsz' hcnt (.inr ⟨i+1,by omega,by omega,λj hj=>?_,λj hj=>?_,hw'⟩)) hw2
   ·rw[M1 (by omega)];by_cases e:i=j
    ·exact .inl e
    ·exact .inr (hlow j (by omega))
   ·rw[M1 (by omega)];rintro (e | e)
    ·omega
    ·exact hhigh j (by omega) e
  rcases hJ with hI | ⟨p,hp,hpn,hlow,hhigh,hwp⟩
  ·rcases aB i h with hih | hih
   ·-- an operation of the head
    have hok:=hop i o hih ho;simp only[Au4,aO,aR] at hok;obtain⟨⟨⟨⟨⟨hdk,hds⟩,hgd⟩,hndf⟩,hdep⟩,hrd⟩:=hok;obtain⟨s,d,hs,hd,hq⟩:=Obs.at_ hob i o (by rw[htake i hih];exact ho);have hdd:deps.getD i []=d:=by simp[hd]
    rw[hdd] at hdep hrd hgd;obtain⟨t0,ht0⟩:=Option.isSome_iff_exists.1 hds;obtain⟨σ',hG,hσ'⟩:=BC7 (val:=λt=>a.tmps.getD t undef) d σ0 (hq w hI.ext) (λp hp=>by
     have h1:=hdep p hp;obtain⟨h2,h3⟩:=h1;split at h3
     ·rename_i oj hoj;have hlj:=hed' _ h2;have hjh:p.2<h:=gX λhh=>hI.head _ hh hlj;obtain⟨s',hs'⟩:∃ s',sp[p.2]?=some s':=⟨_,aE (by omega)⟩;exact⟨s',hs',hI.vals p.2 oj s' p.1 hjh (by rw[<-htake _ hjh];exact hoj) hs' hlj (by simpa using h3)⟩
     ·cases h3)
    have hopnd:∀ x v,x∈o.op.operands->ev σ' x=some v->a.eval x=v:=by
     intro x v hx hv
     cases x with
     | const u=>simpa[YtpgkacdihhjknaaGreat.ev,Act.eval] using hv
     | global g=>simpa[YtpgkacdihhjknaaGreat.ev,Act.eval] using hv
     | func f=>simpa[YtpgkacdihhjknaaGreat.ev,Act.eval] using hv
     | tmp t =>
      rcases hσ' t v hv with e | ⟨hv0,hnd'⟩
      ·exact e.symm
      ·have hmem:t∈S4 o:=by unfold S4;rw[dH];exact⟨.tmp t,by simpa using hx,rfl⟩
       have hc:=hrd t hmem;simp only[aX] at hc;rcases hc with hc | hc
       ·obtain⟨p,hp,hpt⟩:=List.any_eq_true.1 hc;exact absurd (by simpa using hpt) (hnd' p hp)
       ·show a.tmps.getD t undef=v;rw[hI.old t (λi' o' hi' ho' hl' hdst=>?_),ha0.slot t v hv0];have:=List.all_eq_true.1 hc (o',i') (by rw[bU,htake i' hi'];exact ho');simp only[aX] at this;rcases this with (h1 | h1) | h1
        ·simp[hdst] at h1
        ·have:i'=i:=by simpa using h1
         subst this;exact hunl hl'
        ·exact hunl (hI.shut i' o' ho' hl' i h1)
    have next:∀ v w',Ext w w'->Sp.ok s v w'->(al=true->BP0 o=true->∃ b,v=.pointer (some ⟨b,0,none⟩)/\w.heap.size<=b/\b<w'.heap.size)->wpAnyIn (wf ro) 0 P .any ops.toArray Q fuel (listed.setIfInBounds i true) (a.put o.dst v) w':=by
     intro v w' he hv hfr;have htN:t0<N:=by simpa[ht0,dOk,aZ] using hdk
     have hself:(a.put o.dst v).tmps.getD t0 undef=v:=by simp[ht0,Act.put,hI.size,htN]
     have hinj:∀ (j:Nat) (oj:Oper) (t:Tmp),i≠j->j<h->ops[j]?=some oj->oj.dst=some t->(a.put o.dst v).tmps.getD t undef=a.tmps.getD t undef:=by
      intro j oj t e hj hoj hdj;have hne:t0≠t:=by intro e2;subst e2;exact e (AE8 (U4 hnd) (by rw[htake i hih];exact ho) (by rw[htake j hj];exact hoj) ht0 hdj)
      simp[ht0,Act.put,bM hne]
     refine ih _ _ _ hsz' hcnt (.inl ⟨by simpa[ht0,Act.put] using hI.size,by simpa[ht0,Act.put] using hI.defs,hI.ext.trans he,?_,?_,?_,?_,?_,?_⟩)
     ·intro j oj sj t hj hoj hsj hlj hdj;rw[M1 (by omega)] at hlj;have htN:t0<N:=by simpa[ht0,dOk,aZ] using hdk
      by_cases e:i=j
      ·subst e;rw[ho] at hoj;cases hoj;rw[hs] at hsj;cases hsj;rw[ht0] at hdj;cases hdj;have:(a.put o.dst v).tmps.getD t0 undef=v:=by simp[ht0,Act.put,hI.size,htN]
       rw[this];exact hv
      ·have hlj':=hlj.resolve_left e;have hne:t0≠t:=by
        intro e2;subst e2;have hnd2:=U4 hnd;have:∀ (l:List Oper) (x y:Nat) (ox oy:Oper),(P7 l).Nodup->l[x]?=some ox->l[y]?=some oy->ox.dst=some t0->oy.dst=some t0->x=y:=by
         intro l;induction l with
         | nil=>intro x y ox oy _ hx;simp at hx
         | cons c l ihl =>
          intro x y ox oy hn hx hy dx dy;have hin:∀ (z:Nat) (oz:Oper),l[z]?=some oz->oz.dst=some t0->t0∈P7 l:=λz oz hz dz=>List.mem_filterMap.2 ⟨oz,List.mem_iff_getElem?.2 ⟨z,hz⟩,dz⟩;have hcons:∀ oc:Oper,oc=c->oc.dst=some t0->t0∉P7 l/\(P7 l).Nodup:=by
           rintro oc rfl hc;have:(t0::P7 l).Nodup:=by simpa[P7,hc] using hn
           exact List.nodup_cons.1 this
          cases x with
          | zero =>
           simp at hx
           cases y with
           | zero=>rfl
           | succ y=>exact absurd (hin y oy (by simpa using hy) dy) (hcons ox hx.symm dx).1
          | succ x =>
           cases y with
           | zero=>simp at hy;exact absurd (hin x ox (by simpa using hx) dx) (hcons oy hy.symm dy).1
           | succ y =>
            have hn':(P7 l).Nodup:=by
             cases hc:c.dst with
             | none=>simpa[P7,hc] using hn
             | some u =>
              have:(u::P7 l).Nodup:=by simpa[P7,hc] using hn
              exact (List.nodup_cons.1 this).2
            exact congrArg (·+1) (ihl x y ox oy hn' (by simpa using hx) (by simpa using hy) dx dy)
        exact e (this (ops.take h) i j o oj hnd2 (by rw[htake i hih];exact ho) (by rw[htake j hj];exact hoj) ht0 hdj)
       have:(a.put o.dst v).tmps.getD t undef=a.tmps.getD t undef:=by simp[ht0,Act.put,bM hne]
       rw[this];exact Sp.ok_ext (hI.vals j oj sj t hj hoj hsj hlj' hdj) he
     ·intro t hno;have hne:t0≠t:=λe=>hno i o hih ho ((M1 (by omega)).2 (.inl O)) (e▸ht0);have:(a.put o.dst v).tmps.getD t undef=a.tmps.getD t undef:=by simp[ht0,Act.put,bM hne]
      rw[this];exact hI.old t λj oj hj hoj hlj=>hno j oj hj hoj ((M1 (by omega)).2 (.inr hlj))
     ·intro j oj hoj hlj k hk;rw[M1 (by omega)] at hlj ⊢;by_cases e:i=j
      ·subst e;rw[ho] at hoj;cases hoj;exact .inr (hed' k hk)
      ·exact .inr (hI.shut j oj hoj (hlj.resolve_left e) k hk)
     ·intro j hj;rw[M1 (by omega)];rintro (e | e)
      ·omega
      ·exact hI.head j hj e
     ·intro hA x y ox oy t t' hx hy hxy hox hoy hlx hly hax hay htx hty;rw[M1 (by omega)] at hlx hly;by_cases ex:i=x
      ·subst ex;rw[ho] at hox;cases hox;rw[ht0] at htx;cases htx;obtain⟨b,hb,hb1,hb2⟩:=hfr hA hax;rw[hself,hinj y oy t' hxy hy hoy hty];obtain⟨b',hb',hlt'⟩:=hI.low hA y oy t' hy hoy (hly.resolve_left hxy) hay hty;rw[hb,hb'];intro hh;injection hh with hh;injection hh with hh;injection hh with hh;omega
      ·by_cases ey:i=y
       ·subst ey;rw[ho] at hoy;cases hoy;rw[ht0] at hty;cases hty;obtain⟨b,hb,hb1,hb2⟩:=hfr hA hay;rw[hself,hinj x ox t ex hx hox htx];obtain⟨b',hb',hlt'⟩:=hI.low hA x ox t hx hox (hlx.resolve_left ex) hax htx;rw[hb,hb'];intro hh;injection hh with hh;injection hh with hh;injection hh with hh;omega
       ·rw[hinj x ox t ex hx hox htx,hinj y oy t' ey hy hoy hty];exact hI.dis hA x y ox oy t t' hx hy hxy hox hoy (hlx.resolve_left ex) (hly.resolve_left ey) hax hay htx hty
     ·intro hA x ox t hx hox hlx hax htx;rw[M1 (by omega)] at hlx;by_cases ex:i=x
      ·subst ex;rw[ho] at hox;cases hox;rw[ht0] at htx;cases htx;obtain⟨b,hb,hb1,hb2⟩:=hfr hA hax;exact⟨b,by rw[hself];exact hb,hb2⟩
      ·obtain⟨b',hb',hlt'⟩:=hI.low hA x ox t hx hox (hlx.resolve_left ex) hax htx;exact⟨b',by rw[hinj x ox t ex hx hox htx];exact hb',by have:=he.size;omega⟩
    unfold wpOpIn;simp only[bN,ho];by_cases hisa:al=true/\BP0 o=true
    ·obtain⟨ta,za,Ba,hopa,hga,hza,hsa,hBa⟩:=(hal hisa.1).at_ i o s (by rw[htake i hih];exact ho) hs hisa.2;rw[if_pos (by simp[Region.wanted,hga])];subst hsa;have hg:Gv P o σ' w (λv w'=>∃ b,v=.pointer (some ⟨b,0,none⟩)/\New w w' b ta za.cells):=by obtain⟨d1,op1,ty1,pos1,af1,g1⟩:=o;have hopa:op1=.alloc ta:=hopa;subst hopa;exact BP5 hza
     refine hg.wp hopnd λv w' hv=>?_;obtain⟨b,hb,hn⟩:=hv;have h2:=hn.2.2.1;have h3:=hn.2.2.2;exact next v w' hn.1 (λw'' e=>⟨b,hb,by have:=hI.ext.size;omega,hn.2.1.ext e⟩) (λ_ _=>⟨b,hb,by omega,by omega⟩)
    have run:Gv P o σ' w (λv w'=>Ext w w'/\Sp.ok s v w')->o.wpIn (wf ro) 0 P a w (wpAnyIn (wf ro) 0 P .any ops.toArray Q fuel (listed.setIfInBounds i true)) Q :=
     λhg=>hg.wp hopnd λv w' hv=>next v w' hv.1 hv.2 (λh1 h2=>absurd ⟨h1,h2⟩ hisa)
    cases hgu:o.guard with
    | none =>
     simp only[gOk,hgu] at hG;rw[if_pos (by simp[Region.wanted,hgu])];exact run hG
    | some g =>
     obtain⟨j,b⟩:=g;simp only[hgu] at hgd;obtain⟨p,hp,hpj⟩:=List.any_eq_true.1 hgd;have hpj':p.2=j:=by simpa using hpj
     have h1:=hdep p hp;obtain⟨h2,h3⟩:=h1;rw[hpj'] at h2 h3;split at h3
     ·rename_i oj hoj;have hdst:oj.dst=some p.1:=by simpa using h3
      have hjh:j<h:=by
       rcases aB j h with hh | hh
       ·exact hh
       ·rw[aH (by omega)] at hoj;cases hoj
      have hoj':ops[j]?=some oj:=by rw[<-htake j hjh];exact hoj
      simp only[gOk,hgu,hoj,fY,hdst] at hG;have hyv:∀ v,look σ' p.1=some v->a.tmps.getD p.1 undef=v:=by
       intro v hv;rcases hσ' p.1 v hv with e | ⟨_,hn⟩
       ·exact e.symm
       ·exact absurd O (hn p hp)
      have hpN:p.1<a.tmps.size:=by have:=hop j oj hjh hoj';simp only[Au4,aO] at this;have:=this.1.1.1.1.1;rw[hdst] at this;rw[hI.size];simpa[dOk,aZ] using this
      have hyd:∀ v,look σ' p.1=some v->yielded ops.toArray a.tmps j=match v with | .bool b=>some b | _=>none:=by
       intro v hv;have e1:=hyv v hv;have e2:a.tmps[p.1]?=some v:=by rw[dR hpN];simp[dR hpN] at e1;exact congrArg some e1
       unfold yielded;simp only[bN,hoj',fY,hdst,e2]
       cases v<;>rfl
      have skip:(∃ v,look σ' p.1=some v/\(match v with | .bool b=>some b | _=>none)≠some b)->Sp.ok s undef w ->
        (if Region.wanted o (yielded ops.toArray a.tmps)=true then o.wpIn (wf ro) 0 P a w (wpAnyIn (wf ro) 0 P .any ops.toArray Q fuel (listed.setIfInBounds i true)) Q
         else (∀ f,o.about P w a.eval=some f->(wf ro).fn f)/\wpAnyIn (wf ro) 0 P .any ops.toArray Q fuel (listed.setIfInBounds i true) (a.put o.dst undef) w):=by
       rintro⟨v,hv,hne⟩ hok;rw[if_neg (by simp only[Region.wanted,hgu,hyd v hv];simpa using hne)];exact⟨λ_ _=>trivial,next undef w (Ext.refl w) hok (λh1 h2=>absurd ⟨h1,h2⟩ hisa)⟩
      split at hG
      ·exact hG.elim
      ·rename_i c hc
       cases hx:Bool.xor c b with
       | true =>
        rw[hx] at hG;refine skip ⟨.bool c,hc,?_⟩ hG;intro e;simp only[Option.some.injEq] at e;subst e;simp at hx
       | false =>
        rw[hx] at hG;have hcb:c=b:=by cases c<;>cases b<;>simp_all
        rw[if_pos (by simp only[Region.wanted,hgu,hyd _ hc,hcb];simp)];exact run hG
      ·rename_i v hnb hv;refine skip ⟨v,hv,?_⟩ hG;intro e
       cases v with
       | bool c=>exact hnb c rfl
       | _=>cases e
     ·cases h3
   ·have hall':∀ j,j<i->isL listed j:=λj hj=>htail listed hI.shut i o hih ho hed' j hj;have e:i=h:=by
     rcases aB h i with hh | hh
     ·exact absurd (hall' h hh) (hI.head h (aA _))
     ·omega
    subst e;exact tailStep (aA _) hall' hI.head (toB listed a w hI hall')
  ·have hpi:p=i:=by
    have h1:p<=i:=dS λhh=>hunl (hlow i hh);rcases aB p i with hh | hh
    ·exact absurd (htail listed (λk ok hok hlk j hj=>hlow j (by have:=hback' k ok hok j hj;have:k<p:=gX (λh=>hhigh k h hlk);omega)) i o (by omega) ho hed' p hh) (hhigh p (aA _))
    ·omega
   subst hpi;exact tailStep hp hlow hhigh hwp
end
theorem WC.parA (al:Bool) {Q:Pst} {id:Nat} (hm:P.follows .mixedOrders=true) (h:Nat) (sp:List Sp) (deps:List (List (Tmp×Nat))) (hchk:BW0 ops N h deps=true)
  (hob:Obs P w0 σ0 (ops.take h) sp (ops.take h) sp deps) (hal:al=true->Bg0 P w0 (ops.take h) sp)
  (hfin:∀ w,Ext w0 w->Ac2 (λσ w=>(al=true->Ba5 (ops.take h) σ)->WL P ro N ds ops.toArray (λσ w=>Q .normal σ ds w) (ops.drop h) σ w) w (ops.take h) sp σ0):WC P ro N Q (.region id ops.toArray true) σ0 ds w0:=by
 refine⟨λa ha=>?_⟩;have main:(Code.region id ops.toArray true).wpIn (wf ro) 0 P (λe a w=>e=.normal/\∃ σ',Agr N σ' ds a/\Q .normal σ' ds w) a w0:=by
  refine wpIn_region_draw λt=>?_;simp only[Region.schedule,hm,Bool.true_or,if_true];refine wpAnyIn_sound ops.toArray.size t _ a _ ?_;have hfalse:∀ i,¬ isL (Array.replicate ops.toArray.size false) i:=by intro i;unfold isL;by_cases hi:i<ops.length<;>simp[hi]
  refine Bu7 al hchk ha hob hal (λw he=>?_) _ _ _ _ (by simp) (by simpa using cnt_le _ _) (.inl ⟨ha.size,ha.defs,(Below.refl _ w0).drew,λi o s t _ _ _ hl=>absurd hl (hfalse i),λt _=>rfl,λi o _ hl=>absurd hl (hfalse i),λi _=>hfalse i,λ_ i j oi oj t t' _ _ _ _ _ hl=>absurd hl (hfalse i),λ_ i o t _ _ hl=>absurd hl (hfalse i)⟩);have key:∀ (os:List Oper) (ss:List Sp) (σ:Env),Ac2 (λσ w=>(al=true->Ba5 (ops.take h) σ)->WL P ro N ds ops.toArray (λσ w=>Q .normal σ ds w) (ops.drop h) σ w) w os ss σ ->
    Ac2 (λσ w=>(al=true->Ba5 (ops.take h) σ)->∀ a,Agr N σ ds a->wpListIn (wf ro) 0 P ops.toArray (λe a w=>e=.normal/\∃ σ',Agr N σ' ds a/\Q .normal σ' ds w) (ops.drop h) a w) w os ss σ:=by
   intro os;induction os with
   | nil=>intro ss σ hq;exact λhA=>WL.out (hq hA)
   | cons o os ih =>
    intro ss σ hq
    cases ss with
    | nil=>exact λhA=>WL.out (hq hA)
    | cons s ss =>
     cases s with
     | inl v=>exact ih ss _ hq
     | inr p=>exact λv hv=>ih ss _ (hq v hv)
  exact key _ _ _ (hfin w he)
 refine wpIn_mono main ?_;rintro e a' w' ⟨rfl,σ',hag,hk⟩;exact⟨σ',ds,hag,hk⟩
theorem Al3 {K K':Env->World->Prop} {w:World} (hK:∀ σ,K σ w->K' σ w):∀ (os:List Oper) (ss:List Sp) (σ:Env),Ac2 K w os ss σ->Ac2 K' w os ss σ
 | [],_,σ,h=>hK σ h
 | _::_,[],σ,h=>hK σ h
 | _::os,.inl _::ss,_,h=>Al3 hK os ss _ h
 | _::os,.inr _::ss,_,h=>λv hv=>Al3 hK os ss _ (h v hv)
theorem WC.par {Q:Pst} {id:Nat} (hm:P.follows .mixedOrders=true) (h:Nat) (sp:List Sp) (deps:List (List (Tmp×Nat))) (hchk:BW0 ops N h deps=true)
  (hob:Obs P w0 σ0 (ops.take h) sp (ops.take h) sp deps)
  (hfin:∀ w,Ext w0 w->Ac2 (λσ w=>WL P ro N ds ops.toArray (λσ w=>Q .normal σ ds w) (ops.drop h) σ w) w (ops.take h) sp σ0):WC P ro N Q (.region id ops.toArray true) σ0 ds w0 :=
 .parA false hm h sp deps hchk hob (λh=>by cases h) λw e=>Al3 (λ_ h _=>h) _ _ _ (hfin w e)
theorem WC.parF {Q:Pst} {id:Nat} (hm:P.follows .mixedOrders=true) (h:Nat) (sp:List Sp) (deps:List (List (Tmp×Nat))) (hchk:BW0 ops N h deps=true)
  (hob:Obs P w0 σ0 (ops.take h) sp (ops.take h) sp deps) (hal:Bg0 P w0 (ops.take h) sp)
  (hfin:∀ w,Ext w0 w->Ac2 (λσ w=>Ba5 (ops.take h) σ->WL P ro N ds ops.toArray (λσ w=>Q .normal σ ds w) (ops.drop h) σ w) w (ops.take h) sp σ0):WC P ro N Q (.region id ops.toArray true) σ0 ds w0 :=
 .parA true hm h sp deps hchk hob (λ_=>hal) λw e=>Al3 (λ_ h hA=>h (hA O)) _ _ _ (hfin w e)
end
inductive Sch where
 | done
 | one (i:Nat) (n:Sch)
 | two (i:Nat) (n:Sch) (j:Nat) (m:Sch)
def wlT (P:Program) (ro:Option Nat) (ops:List Oper) (fl:Bool) (I:World->Prop) (Q:Exit->Act->World->Prop):Sch->Act->World->Prop
 | .done,a,w=>(fl=true\/I w)/\Q .normal a w
 | .one i n,a,w=>I w/\∃ o,ops[i]?=some o/\o.wpIn (wf ro) 0 P a w (wlT P ro ops fl I Q n) Q
 | .two i n j m,a,w=>I w/\(∃ o,ops[i]?=some o/\o.wpIn (wf ro) 0 P a w (wlT P ro ops fl I Q n) Q)/\(∃ o,ops[j]?=some o/\o.wpIn (wf ro) 0 P a w (wlT P ro ops fl I Q m) Q)
structure WLT (P:Program) (ro:Option Nat) (N:Nat) (ds:List Deferred) (ops:List Oper) (fl:Bool) (I:World->Prop) (K:Env->World->Prop) (s:Sch) (σ:Env) (w:World):Prop where
 out:∀ a,Agr N σ ds a->wlT P ro ops fl I (λe a w=>e=.normal/\∃ σ',Agr N σ' ds a/\K σ' w) s a w
section
variable {P:Program} {ro:Option Nat} {N:Nat} {ds:List Deferred} {ops:List Oper} {fl:Bool} {I:World->Prop} {K:Env->World->Prop} {σ:Env} {w:World} {n m:Sch} {i j:Nat}
theorem WLT.nil (hI:fl=true\/I w) (h:K σ w):WLT P ro N ds ops fl I K .done σ w:=⟨λa ha=>⟨hI,rfl,σ,ha,h⟩⟩
theorem WLT.gv {o:Oper} {R:Value->World->Prop} (ho:ops[i]?=some o) (hI:I w) (hd:dOk N o.dst=true) (h:Gv P o σ w R) (k:∀ v w',R v w'->WLT P ro N ds ops fl I K n (AP9 o.dst v σ) w'):WLT P ro N ds ops fl I K (.one i n) σ w :=
 ⟨λa ha=>⟨hI,o,ho,h.wp (λx v _ hx=>ha.ev hx) λv w' hr=>(k v w' hr).out _ (ha.put hd v)⟩⟩
theorem WLT.gv2 (h1:WLT P ro N ds ops fl I K (.one i n) σ w) (h2:WLT P ro N ds ops fl I K (.one j m) σ w):WLT P ro N ds ops fl I K (.two i n j m) σ w :=
 ⟨λa ha=>⟨(h1.out a ha).1,(h1.out a ha).2,(h2.out a ha).2⟩⟩
end
def BS9 (ops:List Oper) (rem:List Nat) (k:Nat):Bool:=rem.any λj=>S5 ops 3 k j
def AJ5 (ops:List Oper):List Nat->Sch->Bool
 | rem,.done=>rem.isEmpty
 | rem,.one i n => !rem.isEmpty && rem.all (λk=>Nat.beq k i || BS9 ops rem k) && AJ5 ops (rem.filter λk => !(Nat.beq k i)) n
 | rem,.two i n j m => !rem.isEmpty && rem.all (λk=>Nat.beq k i || Nat.beq k j || BS9 ops rem k) && AJ5 ops (rem.filter λk => !(Nat.beq k i)) n && AJ5 ops (rem.filter λk => !(Nat.beq k j)) m
def Bb6 (ops:List Oper) (hv:List (Option Value)):List Nat:=(List.range ops.length).filter λi => !(isH hv i)
theorem Ai9{ops:List Oper}{hv:List (Option Value)}{i:Nat}:i∈Bb6 ops hv<->i<ops.length/\isH hv i=false:=by unfold Bb6;rw[cL,cM];simp
def Ak5 (ops:List Oper) (N:Nat) (fl:Bool) (hv:List (Option Value)):Bool :=
 (!fl || BN9 ops hv) && Nat.beq hv.length ops.length && ops.zipIdx.all (λq=>Ag0 q.2 q.1) && Ag1 (P7 ops) &&
 ops.zipIdx.all λq =>
  dOk N q.1.dst && (match q.1.guard with | none=>true | _=>false) && (match q.1.op with | .defer _=>false | .select ..=>false | _=>true) &&
  (bif isH hv q.2 then
   q.1.dst.isSome && (S4 q.1).all λt=>ops.zipIdx.all λr=>r.1.dst != some t || (bif isH hv r.2 then S5 ops 3 q.2 r.2 else S5 ops 3 r.2 q.2)
  else
   (S4 q.1).all λt=>ops.zipIdx.all λr=>r.1.dst != some t || !(isH hv r.2) || S5 ops 3 q.2 r.2)
theorem wlT_I{P:Program}{ro:Option Nat}{ops:List Oper}{fl:Bool}{I:World->Prop}{Q:Exit->Act->World->Prop}{s:Sch}{a:Act}{w:World}(h:wlT P ro ops fl I Q s a w)(hl:fl=true->s≠.done):I w:=by
 cases s with
 | done=>exact h.1.resolve_left λe=>hl e rfl
 | one _ _=>exact h.1
 | two _ _ _ _=>exact h.1
theorem Bt2{P:Program}{ro:Option Nat}{ops:List Oper}{fl:Bool}{I:World->Prop}{Q:Exit->Act->World->Prop}{s:Sch}{a:Act}{w:World}{rem:List Nat}{i:Nat}{o:Oper}(hok:AJ5 ops rem s=true)(h:wlT P ro ops fl I Q s a w)(hi:i∈rem)(hr:∀ j,j∈rem->S5 ops 3 i j=false)(ho:ops[i]?=some o):∃ s',o.wpIn (wf ro) 0 P a w (wlT P ro ops fl I Q s') Q/\AJ5 ops (rem.filter λk => !(Nat.beq k i)) s'=true:=by
 have hnw:BS9 ops rem i=false:=by
  cases hw:BS9 ops rem i with
  | false=>rfl
  | true =>
   obtain⟨j,hj,hjr⟩:=List.any_eq_true.1 hw;rw[hr j hj] at hjr;cases hjr
 cases s with
 | done=>simp only[AJ5,List.isEmpty_iff] at hok;rw[hok] at hi;cases hi
 | one k n =>
  simp only[AJ5,aO,aR,aX] at hok;have:=hok.1.2 i hi;rw[hnw] at this;have e:i=k:=bH (this.resolve_right (by simp));subst e;obtain⟨_,o',ho',hw⟩:=h;rw[ho] at ho';cases ho';exact⟨n,hw,hok.2⟩
 | two k n l m =>
  simp only[AJ5,aO,aR,aX] at hok;have:=hok.1.1.2 i hi;rw[hnw] at this;rcases this.resolve_right (by simp) with e | e
  ·have e:=bH e;subst e;obtain⟨_,⟨o',ho',hw⟩,_⟩:=h;rw[ho] at ho';cases ho';exact⟨n,hw,hok.1.2⟩
  ·have e:=bH e;subst e;obtain⟨_,_,o',ho',hw⟩:=h;rw[ho] at ho';cases ho';exact⟨m,hw,hok.2⟩
structure InvT (P:Program) (ro:Option Nat) (N:Nat) (fl:Bool) (I:World->Prop) (Q:Exit->Act->World->Prop) (ops:List Oper) (hv:List (Option Value)) (a0:Act) (listed:Array Bool) (a a':Act) (q:List Nat×Sch) (w:World):Prop where
 sub:∀ i,i∈q.1->i<ops.length/\isH hv i=false
 ok:AJ5 ops q.1 q.2=true
 tl:∀ i,i<ops.length->isH hv i=false->(isL listed i<->¬ i∈q.1)
 wp:wlT P ro ops fl I Q q.2 a' w
 sz:a.tmps.size=N
 sz':a'.tmps.size=N
 df:a.defers=a'.defers
 hval:∀ (i:Nat) (o:Oper) (t:Tmp) (v:Value),ops[i]?=some o->hv[i]?=some (some v)->o.dst=some t->a'.tmps.getD t undef=v
 pend:∀ (i:Nat) (o:Oper) (t:Tmp),ops[i]?=some o->isH hv i=true->¬ isL listed i->o.dst=some t->a.tmps.getD t undef=a0.tmps.getD t undef
 same:∀ t,(∀ (i:Nat) (o:Oper),ops[i]?=some o->isH hv i=true->¬ isL listed i->o.dst≠some t)->a.tmps.getD t undef=a'.tmps.getD t undef
 old:∀ t,(∀ (i:Nat) (o:Oper),ops[i]?=some o->o.dst=some t->isH hv i=false/\¬ isL listed i)->a'.tmps.getD t undef=a0.tmps.getD t undef
 shut:∀ (i:Nat) (o:Oper),ops[i]?=some o->isL listed i->∀ j,I3 o j=true->isL listed j
section
variable {P:Program} {ro:Option Nat} {N:Nat} {ds:List Deferred} {ops:List Oper} {I:World->Prop} {K:Env->World->Prop} {σ0:Env} {w0:World} {hv:List (Option Value)} {a0:Act} {Q:Exit->Act->World->Prop}
theorem Bn6 {fl:Bool} (hchk:Ak5 ops N fl hv=true) (ha0:Agr N σ0 ds a0) (hob:Bn7 P I (BG9 ops hv σ0) ops hv) (hQ:∀ e a w,Q e a w->e=.normal) :
  ∀ (fuel:Nat) (listed:Array Bool) (a a':Act) (q:List Nat×Sch) (w:World),listed.size=ops.length->cnt listed ops.length<=fuel->InvT P ro N fl I Q ops hv a0 listed a a' q w ->
   wpAnyIn (wf ro) 0 P .any ops.toArray Q fuel listed a w:=by
 simp only[Ak5,aO,aR] at hchk;obtain⟨⟨⟨⟨hfl,hlen0⟩,hback⟩,hnd0⟩,hall⟩:=hchk;have hlen:hv.length=ops.length:=bH hlen0;have hnd:=U4 hnd0;have hback':∀ (i:Nat) (o:Oper),ops[i]?=some o->∀ j,I3 o j=true->j<i:=by
  intro i o hi j hj;have:=hback (o,i) (by rw[bU];exact hi);obtain⟨e,he,hb,rfl⟩:=O0.1 hj;simp only[Ag0,fZ,aX,dI,aZ] at this;rcases this e he with h | h
  ·rw[hb] at h;cases h
  ·exact h
 have allL:∀ listed:Array Bool,listed.size=ops.length->Region.ready .any ops.toArray listed=[]->∀ i,i<ops.length->isL listed i:=by
  intro listed hsz hr i;induction i using Nat.strongRecOn with
  | _ i ih =>
   intro hi;by_cases hh:isL listed i
   ·exact hh
   ·have:i∈Region.ready .any ops.toArray listed:=by refine V7.2 ⟨by simpa using hi,(K0 (by omega)).2 hh,λo ho j hj=>?_⟩;have:=hback' i o (by simpa using ho) j hj;exact ih j this (by omega)
    rw[hr] at this;cases this
 have done:∀ listed a a' q w,(∀ i,i<ops.length->isL listed i)->InvT P ro N fl I Q ops hv a0 listed a a' q w->Q .normal a w:=by
  intro listed a a' q w hl hI;have hq:q.1=[]:=List.eq_nil_iff_forall_not_mem.2 λi hi=>by obtain⟨h1,h2⟩:=hI.sub i hi;exact (hI.tl i h1 h2).1 (hl i h1) hi
  have hwp:=hI.wp;have hok:=hI.ok;rw[hq] at hok;have hdn:q.2=.done:=by
   cases hs:q.2 with
   | done=>rfl
   | one _ _=>rw[hs] at hok;simp[AJ5] at hok
   | two _ _ _ _=>rw[hs] at hok;simp[AJ5] at hok
  rw[hdn] at hwp;have haa:a=a':=by
   have ht:a.tmps=a'.tmps:=by
    apply Array.ext
    ·rw[hI.sz,hI.sz']
    ·intro i h1 h2;have:=hI.same i (λj o ho _ hn=>absurd (hl j (by
      rcases aB j ops.length with h | h
      ·exact h
      ·rw[aH h] at ho;cases ho)) hn)
     simpa[Array.getD_eq_getD_getElem?,h1,h2] using this
   cases a;cases a';simp only at ht;have hd:=hI.df;simp only at hd;rw[ht,hd]
  rw[haa];exact hwp.2
 intro fuel;induction fuel with
 | zero =>
  intro listed a a' q w hsz hc hI;have hl:∀ i,i<ops.length->isL listed i:=by
   intro i hi;have:=Al6 listed ops.length (by omega) i hi;by_cases hh:isL listed i
   ·exact hh
   ·have:=(K0 (by omega:i<listed.size)).2 hh;simp_all
  refine⟨?_,done listed a a' q w hl hI⟩;refine List.eq_nil_iff_forall_not_mem.2 λi hi=>?_;obtain⟨h1,h2,_⟩:=V7.1 hi;have h1':i<ops.length:=by simpa using h1
  exact (K0 (by omega)).1 h2 (hl i h1')
 | succ fuel ih =>
  intro listed a a' q w hsz hc hI;refine⟨λhr=>done listed a a' q w (allL listed hsz hr) hI,λi hi=>?_⟩;obtain⟨hin,hun,hed⟩:=V7.1 hi;have hin':i<ops.length:=by simpa using hin
  have hunl:¬ isL listed i:=(K0 (by omega)).1 hun;obtain⟨o,ho⟩:∃ o,ops[i]?=some o:=⟨_,aE hin'⟩;have hed':∀ j,I3 o j=true->isL listed j:=hed o (by simpa using ho);have hsz':(listed.setIfInBounds i true).size=ops.length:=by simpa using hsz
  have hcnt:cnt (listed.setIfInBounds i true) ops.length<=fuel:=by have:=AT4 listed i hun ops.length hin';omega
  have hset:∀ j,isL (listed.setIfInBounds i true) j<->(i=j\/isL listed j):=λj=>M1 (by omega);have hreach:∀ j,S5 ops 3 i j=true->isL listed j:=λj hj=>AS5 hI.shut 3 i j o ho hed' hj;have hshut':∀ (j:Nat) (oj:Oper),ops[j]?=some oj->isL (listed.setIfInBounds i true) j->∀ k,I3 oj k=true->isL (listed.setIfInBounds i true) k:=by
   intro j oj hoj hlj k hk;rw[hset] at hlj ⊢;by_cases e:i=j
   ·subst e;rw[ho] at hoj;cases hoj;exact .inr (hed' k hk)
   ·exact .inr (hI.shut j oj hoj (hlj.resolve_left e) k hk)
  have hck:=hall (o,i) (by rw[bU];exact ho);simp only at hck;obtain⟨⟨⟨hdk,hgd⟩,hop⟩,hcls⟩:=hck;have hgn:o.guard=none:=by
   cases hg:o.guard with
   | none=>rfl
   | some g=>rw[hg] at hgd;cases hgd
  have hnd':∀ c,o.op≠.defer c:=λc e=>by rw[e] at hop;cases hop
  have hns:∀ cs b,o.op≠.select cs b:=λcs b e=>by rw[e] at hop;cases hop
  have hw:Region.wanted o (yielded ops.toArray a.tmps)=true:=by simp[Region.wanted,hgn]
  unfold wpOpIn;simp only[bN,ho];rw[if_pos hw]
  cases hH:isH hv i with
  | true =>
   rw[hH] at hcls;simp only[cond_true,aO,aR] at hcls;obtain⟨hds,hrd⟩:=hcls;obtain⟨t0,ht0⟩:=Option.isSome_iff_exists.1 hds;obtain⟨v,hvv⟩:=Bx5 hH;have htN:t0<N:=by simpa[ht0,dOk,aZ] using hdk
   have hV:=BP2 hob i o v ho hvv w (wlT_I hI.wp λhft hnil=>by subst hft;refine hunl (BG6 (by simpa using hfl) hI.shut (λj hj hHj=>(hI.tl j hj hHj).2 ?_) i hin');have hok:=hI.ok;rw[hnil] at hok;simp only[AJ5,List.isEmpty_iff] at hok;rw[hok];simp)
   have hopn:∀ x u,x∈o.op.operands->ev (BG9 ops hv σ0) x=some u->a.eval x=u:=by
    intro x u hx hu
    cases x with
    | const c=>simpa[YtpgkacdihhjknaaGreat.ev,Act.eval] using hu
    | global g=>simpa[YtpgkacdihhjknaaGreat.ev,Act.eval] using hu
    | func f=>simpa[YtpgkacdihhjknaaGreat.ev,Act.eval] using hu
    | tmp t =>
     have hmem:t∈S4 o:=by unfold S4;rw[dH];exact⟨.tmp t,by simpa using hx,rfl⟩
     have hc:=hrd t hmem;show a.tmps.getD t undef=u;rcases Ao4 ops hv σ0 t u hu with ⟨j,oj,hoj,hvj,hdj⟩ | ⟨hl0,hno⟩
     ·have hc1:=hc (oj,j) (by rw[bU];exact hoj);have hHj:isH hv j=true:=by unfold isH;rw[hvj];rfl
      simp only[aX,hHj,cond_true] at hc1;have hlj:isL listed j:=by
       rcases hc1 with h1 | h1
       ·simp[hdj] at h1
       ·exact hreach j h1
      rw[hI.same t (λk ok hok _ hnl hdk'=>?_),hI.hval j oj t u hoj hvj hdj];have:=AE8 hnd hoj hok hdj hdk';subst this;exact hnl hlj
     ·have h1:a.tmps.getD t undef=a'.tmps.getD t undef:=hI.same t (λk ok hok hHk _ hdk'=>hno k ok hok hHk hdk');rw[h1,hI.old t (λk ok hok hdk'=>?_),ha0.slot t u hl0];have hHk:isH hv k=false:=by
       cases hh:isH hv k with
       | false=>rfl
       | true=>exact absurd hdk' (hno k ok hok hh)
      refine⟨hHk,λhlk=>?_⟩;have hc1:=hc (ok,k) (by rw[bU];exact hok);simp only[aX,hHk,cond_false] at hc1;rcases hc1 with h1 | h1
      ·simp[hdk'] at h1
      ·exact hunl (AS5 hI.shut 3 k i ok hok (λj hj=>hI.shut k ok hok hlk j hj) h1)
   refine hV.gv.wp hopn ?_;rintro v' w' ⟨rfl,rfl⟩;have hp:=λt=>AP8 (v:=v') (t:=t) (d:=o.dst) hI.sz;refine ih _ _ a' q _ hsz' hcnt ⟨hI.sub,hI.ok,λj hj hHj=>?_,hI.wp,(hp t0).1,hI.sz',(hp t0).2.1.trans hI.df,hI.hval,λj oj t hoj hHj hnl hdj=>?_,λt hno=>?_,λt hno=>?_,hshut'⟩
   ·rw[hset];constructor
    ·rintro (e | e)
     ·subst e;rw[hH] at hHj;cases hHj
     ·exact (hI.tl j hj hHj).1 e
    ·exact λh=>.inr ((hI.tl j hj hHj).2 h)
   ·rw[hset] at hnl;have hne:o.dst≠some t:=λe=>hnl (.inl (AE8 hnd ho hoj e hdj));rw[(hp t).2.2.1 hne];exact hI.pend j oj t hoj hHj (λh=>hnl (.inr h)) hdj
   ·by_cases e:o.dst=some t
    ·rw[ht0] at e;cases e;rw[(hp t0).2.2.2 ht0 htN,hI.hval i o t0 v' ho hvv ht0]
    ·rw[(hp t).2.2.1 e];refine hI.same t λj oj hoj hHj hnl hdj=>?_;refine hno j oj hoj hHj (λh=>?_) hdj;rw[hset] at h;rcases h with h | h
     ·subst h;rw[ho] at hoj;cases hoj;exact e hdj
     ·exact hnl h
   ·refine hI.old t λj oj hoj hdj=>?_;obtain⟨h1,h2⟩:=hno j oj hoj hdj;exact⟨h1,λh=>h2 ((hset j).2 (.inr h))⟩
  | false =>
   rw[hH] at hcls;simp only[cond_false,aR] at hcls;have hrd:=hcls;have hirem:i∈q.1:=Classical.byContradiction λh=>hunl ((hI.tl i hin' hH).2 h);have hnor:∀ j,j∈q.1->S5 ops 3 i j=false:=by
    intro j hj
    cases hr:S5 ops 3 i j with
    | false=>rfl
    | true =>
     obtain⟨h1,h2⟩:=hI.sub j hj;exact absurd hj ((hI.tl j h1 h2).1 (hreach j hr))
   obtain⟨sch,hwp,hok2⟩:=Bt2 hI.ok hI.wp hirem hnor ho;refine Ac4 hnd' hns (λx hx=>?_) hQ (λdd v w' hnx=>?_) hwp
   ·cases x with
    | const c=>rfl
    | global g=>rfl
    | func f=>rfl
    | tmp t =>
     have hmem:t∈S4 o:=by unfold S4;rw[dH];exact⟨.tmp t,by simpa using hx,rfl⟩
     refine hI.same t λj oj hoj hHj hnl hdj=>hnl ?_;have hc1:=hrd t hmem (oj,j) (by rw[bU];exact hoj);simp only[aX,hHj] at hc1;rcases hc1 with (h1 | h1) | h1
     ·simp[hdj] at h1
     ·simp at h1
     ·exact hreach j h1
   ·have hsa:({ a with defers:=dd++a.defers }:Act).tmps.size=N:=hI.sz;have hsa':({ a' with defers:=dd++a'.defers }:Act).tmps.size=N:=hI.sz';have hp:=λt=>AP8 (v:=v) (t:=t) (d:=o.dst) hsa;have hp':=λt=>AP8 (v:=v) (t:=t) (d:=o.dst) hsa';have hnoH:∀ (j:Nat) (oj:Oper) (t:Tmp),ops[j]?=some oj->isH hv j=true->oj.dst=some t->o.dst≠some t:=by intro j oj t hoj hHj hdj e;have:=AE8 hnd ho hoj e hdj;subst this;rw[hH] at hHj;cases hHj
    refine ih _ _ _ (q.1.filter (λk => !(Nat.beq k i)),sch) _ hsz' hcnt ⟨λj hj=>hI.sub j (List.mem_filter.1 hj).1,hok2,λj hj hHj=>?_,hnx,(hp 0).1,(hp' 0).1,?_,λj oj t u hoj hvj hdj=>?_,λj oj t hoj hHj hnl hdj=>?_,λt hno=>?_,λt hno=>?_,hshut'⟩
    ·rw[hset];constructor
     ·rintro (e | e) hm
      ·subst e;simpa using (List.mem_filter.1 hm).2
      ·exact (hI.tl j hj hHj).1 e (List.mem_filter.1 hm).1
     ·intro h;by_cases e:i=j
      ·exact .inl e
      ·refine .inr ((hI.tl j hj hHj).2 λhm=>h (List.mem_filter.2 ⟨hm,?_⟩));simp only[dI];exact AK5 (λe'=>e e'.symm)
    ·rw[(hp 0).2.1,(hp' 0).2.1];show dd++a.defers=dd++a'.defers;rw[hI.df]
    ·have hHj:isH hv j=true:=by unfold isH;rw[hvj];rfl
     rw[(hp' t).2.2.1 (hnoH j oj t hoj hHj hdj)];exact hI.hval j oj t u hoj hvj hdj
    ·rw[(hp t).2.2.1 (hnoH j oj t hoj hHj hdj)];exact hI.pend j oj t hoj hHj (λh=>hnl ((hset j).2 (.inr h))) hdj
    ·by_cases e:o.dst=some t
     ·have htN:t<N:=by simpa[e,dOk,aZ] using hdk
      rw[(hp t).2.2.2 e htN,(hp' t).2.2.2 e htN]
     ·rw[(hp t).2.2.1 e,(hp' t).2.2.1 e];refine hI.same t λj oj hoj hHj hnl hdj=>hno j oj hoj hHj (λh=>?_) hdj;rw[hset] at h;rcases h with h | h
      ·subst h;rw[hH] at hHj;cases hHj
      ·exact hnl h
    ·have e:o.dst≠some t:=λe=>(hno i o ho e).2 ((hset i).2 (.inl O));rw[(hp' t).2.2.1 e];refine hI.old t λj oj hoj hdj=>?_;obtain⟨h1,h2⟩:=hno j oj hoj hdj;exact⟨h1,λh=>h2 ((hset j).2 (.inr h))⟩
theorem WC.heldT {Q:Pst} {id:Nat} (hm:P.follows .mixedOrders=true) (fl:Bool) (I:World->Prop) (hv:List (Option Value)) (sch:Sch) (hchk:Ak5 ops N fl hv=true) (hsc:AJ5 ops (Bb6 ops hv) sch=true) (hob:Bn7 P I (BG9 ops hv σ0) ops hv)
  (hT:∀ w,Ext w0 w->w.heap=w0.heap->WLT P ro N ds ops fl I (λσ w=>Q .normal σ ds w) sch (BG9 ops hv σ0) w):WC P ro N Q (.region id ops.toArray true) σ0 ds w0:=by
 refine⟨λa ha=>?_⟩;have main:(Code.region id ops.toArray true).wpIn (wf ro) 0 P (λe a w=>e=.normal/\∃ σ',Agr N σ' ds a/\Q .normal σ' ds w) a w0:=by
  refine wpIn_region_draw λt=>?_;simp only[Region.schedule,hm,Bool.true_or,if_true];refine wpAnyIn_sound ops.toArray.size t _ a _ ?_;have hfalse:∀ i,¬ isL (Array.replicate ops.toArray.size false) i:=by intro i;unfold isL;by_cases hi:i<ops.length<;>simp[hi]
  have hc:=hchk;simp only[Ak5,aO,aR] at hc;obtain⟨⟨⟨⟨hfl,hlen0⟩,hback⟩,hnd0⟩,hall⟩:=hc;have hdk:∀ o∈ops,dOk N o.dst=true:=by intro o ho;obtain⟨i,hi⟩:=List.mem_iff_getElem?.1 ho;exact (hall (o,i) (by rw[bU];exact hi)).1.1.1
  have hag:=BA8 (N:=N) (ds:=ds) ops hv σ0 a hdk ha;have hdrew:Ext w0 { w0 with drawn:=w0.drawn+1 }:=(Below.refl _ w0).drew;refine Bn6 hchk ha hob (λe a w h=>h.1) _ _ a (BP3 ops hv a) (Bb6 ops hv,sch) _ (by simp) (by simpa using cnt_le _ _) ⟨λi hi=>Ai9.1 hi,hsc,λi h1 h2=>⟨λh=>absurd h (hfalse i),λh=>absurd (Ai9.2 ⟨h1,h2⟩) h⟩,(hT _ hdrew O).out _ hag,ha.size,hag.size,by rw[ha.defs,hag.defs],
   λi o t v ho hvi hd=>BA7 ops hv a ha.size (U4 hnd0) i o t v ho hvi hd ?_,λi o t _ _ _ _=>?_,λt hno=>?_,λt hno=>?_,λi o _ hl=>absurd hl (hfalse i)⟩
  ·have:=hdk o (List.mem_iff_getElem?.2 ⟨i,ho⟩);simpa[hd,dOk,aZ] using this
  ·rfl
  ·exact (AK0 ops hv a t ha.size (λi o ho hi=>hno i o ho hi (hfalse i))).symm
  ·exact AK0 ops hv a t ha.size (λi o ho hi hd=>by have:=(hno i o ho hd).1;rw[hi] at this;cases this)
 refine wpIn_mono main ?_;rintro e a' w' ⟨rfl,σ',hag,hk⟩;exact⟨σ',ds,hag,hk⟩
end
def BD2:List Nat->Sch
 | []=>.done
 | i::r=>.one i (BD2 r)
theorem BX8 {ops:List Oper}:∀ (l:List Nat),l.Nodup->l.Pairwise (λj k=>S5 ops 3 k j=true)->AJ5 ops l (BD2 l)=true
 | [],_,_=>rfl
 | i::r,hn,hp=>by
  obtain⟨h1,h2⟩:=List.nodup_cons.1 hn
  obtain⟨p1,p2⟩:=List.pairwise_cons.1 hp
  have hf:(i::r).filter (λk => !(Nat.beq k i))=r:=by
   rw[cB (by simp)]
   exact List.filter_eq_self.2 λk hk=>by
    cases hb:Nat.beq k i with
    | false=>rfl
    | true=>exact absurd (bH hb▸hk) h1
  simp only[BD2,AJ5,aO,aR,aX]
  refine⟨⟨rfl,λk hk=>?_⟩,by rw[hf];exact BX8 r h2 p2⟩
  rcases List.mem_cons.1 hk with rfl | hk
  ·exact .inl (by simp)
  ·exact .inr (by unfold BS9;rw[gY];exact⟨i,cR ..,p1 k hk⟩)
theorem Bk2 {P:Program} {ro:Option Nat} {ops:List Oper} {fl:Bool} {I:World->Prop} {Q:Exit->Act->World->Prop}:∀ (l:List Nat) (os:List Oper) (a:Act) (w:World),os.length=l.length->(∀ (k i:Nat),l[k]?=some i->ops[i]?=os[k]?)->wlI P ro fl I Q os a w->wlT P ro ops fl I Q (BD2 l) a w
 | [],[],_,_,_,_,h=>h
 | [],_::_,_,_,hl,_,_=>by cases hl
 | _::_,[],_,_,hl,_,_=>by cases hl
 | i::r,o::os,a,w,hl,hk,h=>⟨h.1,o,hk 0 i rfl,Oper.wpIn_mono (λa w h=>Bk2 r os a w (by simpa using hl) (λk j hj=>hk (k+1) j hj) h) h.2⟩
def tR:List Oper->List (Option Value)->Nat->List Nat
 | _::os,none::hs,n=>n::tR os hs (n+1)
 | _::os,some _::hs,n=>tR os hs (n+1)
 | _,_,_=>[]
theorem tR_eq:∀ (os:List Oper) (hv:List (Option Value)) (n:Nat),hv.length=os.length->(List.range' n os.length).filter (λi => !(isH hv (i-n)))=tR os hv n
 | [],_,_,_=>rfl
 | _::_,[],_,h=>by cases h
 | o::os,v::hs,n,h=>by
  have ih:=tR_eq os hs (n+1) (by simpa using h)
  have hc:(List.range' (n+1) os.length).filter (λi => !(isH (v::hs) (i-n)))=(List.range' (n+1) os.length).filter (λi => !(isH hs (i-(n+1)))):=by
   refine List.filter_congr λi hi=>?_
   have h1:=(List.mem_range'_1.1 hi).1
   have:i-n=(i-(n+1))+1:=by omega
   rw[this];rfl
  rw[aS,List.range'_succ]
  cases v with
  | none=>rw[bY (by simp[isH]),hc,ih];rfl
  | some v=>rw[cB (by simp[isH]),hc,ih];rfl
theorem Bb5 {ops:List Oper}:∀ (os:List Oper) (hv:List (Option Value)) (n:Nat),(∀ (k:Nat),os[k]?=ops[n+k]?)->(tOps os hv).length=(tR os hv n).length/\∀ (k i:Nat),(tR os hv n)[k]?=some i->ops[i]?=(tOps os hv)[k]?
 | [],hv,n,_=>by cases hv<;>exact⟨rfl,λk i h=>by cases h⟩
 | o::os,[],n,_=>⟨rfl,λk i h=>by cases h⟩
 | o::os,some v::hs,n,h=>Bb5 os hs (n+1) λk=>by have:=h (k+1);rw[show n+1+k=n+(k+1) by omega];exact this
 | o::os,none::hs,n,h=>by
  obtain⟨h1,h2⟩:=Bb5 (ops:=ops) os hs (n+1) λk=>by have:=h (k+1);rw[show n+1+k=n+(k+1) by omega];exact this
  refine⟨congrArg (·+1) h1,λk i hk=>?_⟩
  cases k with
  | zero=>cases hk;exact (h 0).symm
  | succ k=>exact h2 k i hk
section
variable {P:Program} {ro:Option Nat} {N:Nat} {ds:List Deferred} {ops:List Oper} {σ0:Env} {w0:World}
theorem WC.held {Q:Pst} {id:Nat} (hm:P.follows .mixedOrders=true) (fl:Bool) (I:World->Prop) (hv:List (Option Value)) (hchk:Bv9 ops N fl hv=true) (hob:Bn7 P I (BG9 ops hv σ0) ops hv)
  (hT:∀ w,Ext w0 w->w.heap=w0.heap->WLI P ro N ds fl I (λσ w=>Q .normal σ ds w) (tOps ops hv) (BG9 ops hv σ0) w):WC P ro N Q (.region id ops.toArray true) σ0 ds w0:=by
 have hc:=hchk;simp only[Bv9,aO,aR] at hc;obtain⟨⟨⟨⟨hfl,hlen0⟩,hback⟩,hnd0⟩,hall⟩:=hc;have hlen:=bH hlen0;have he:Bb6 ops hv=tR ops hv 0:=by have:=tR_eq ops hv 0 hlen;rw[<-List.range_eq_range'] at this;exact this
 obtain⟨t1,t2⟩:=Bb5 (ops:=ops) ops hv 0 λk=>by rw[aD]
 refine .heldT hm fl I hv (BD2 (Bb6 ops hv)) ?_ (BX8 _ ?_ ?_) hob λw e1 e2=>⟨λa ha=>Bk2 _ _ a w (by rw[he];exact t1) (by rw[he];exact t2) ((hT w e1 e2).out a ha)⟩
 ·simp only[Ak5,aO,aR];refine⟨⟨⟨⟨hfl,hlen0⟩,hback⟩,hnd0⟩,λq hq=>?_⟩;have:=hall q hq;refine⟨this.1,?_⟩
  cases hh:isH hv q.2 with
  | true=>have h2:=this.2;rw[hh] at h2;exact h2
  | false =>
   have h2:=this.2;rw[hh] at h2;simp only[cond_false,aO] at h2;exact h2.1
 ·exact List.Pairwise.filter _ List.nodup_range
 ·have hp:(Bb6 ops hv).Pairwise λj k=>j<k:=List.Pairwise.filter _ List.pairwise_lt_range;refine hp.imp_of_mem ?_
  ·intro j k hj hk hjk;obtain⟨hk1,hk2⟩:=Ai9.1 hk;have hj2:=(Ai9.1 hj).2;have hq:=(hall (ops[k],k) (by rw[bU];exact aE hk1)).2;rw[show isH hv ((ops[k],k):Oper×Nat).2=false from hk2] at hq;simp only[cond_false,aO,aR] at hq;have:=hq.2 j (List.mem_range.2 hjk);rw[hj2] at this;simpa using this
end
def val:List Nat->Nat
 | []=>0
 | x::r=>x+4294967296*val r
def dig (l:List Nat):Prop:=∀ x∈l,x<4294967296
def wds (n:Nat):List Nat:=if h:n=0 then [] else n % 4294967296::wds (n / 4294967296)
 termination_by n
 decreasing_by exact Nat.div_lt_self (by omega) (by omega)
def K2 (l:List Nat):List Nat:=(l.reverse.dropWhile (· == 0)).reverse
theorem AV9(l:List Nat):K2 (l++[0])=K2 l:=by simp[K2]
theorem Af3(l:List Nat)(x:Nat)(h:x≠0):K2 (l++[x])=l++[x]:=by
 have:(x == 0)=false:=by simpa using h
 simp[K2,this]
theorem AR7(l r:List Nat):val (l++r)=val l+4294967296 ^ l.length*val r:=by
 induction l with
 | nil=>simp[val]
 | cons x l ih =>
  simp only[gF,val,ih,aS,aN];rw[aJ,cZ];congr 2;rw[<-bF,aT 4294967296]
theorem Af1{l:List Nat}(h:dig l):val l<4294967296 ^ l.length:=by
 induction l with
 | nil=>simp[val]
 | cons x l ih =>
  have h1:=h x (by simp);have h2:=ih (λy hy=>h y (by simp[hy]));simp only[val,aS,aN];generalize 4294967296 ^ l.length=p at *;omega
theorem M7:wds 0=[]:=by unfold wds;simp
theorem AR4{n:Nat}(h:n≠0):wds n=n % 4294967296::wds (n / 4294967296):=by rw[wds];simp[h]
theorem E9(n:Nat):val (wds n)=n:=by
 induction n using Nat.strongRecOn with
 | _ n ih =>
  by_cases h:n=0
  ·subst h;simp[M7,val]
  ·rw[AR4 h,val,ih _ (Nat.div_lt_self (by omega) (by omega))];omega
theorem Aw7(n:Nat):dig (wds n):=by
 induction n using Nat.strongRecOn with
 | _ n ih =>
  by_cases h:n=0
  ·subst h;simp[M7,dig]
  ·rw[AR4 h];intro x hx;rcases List.mem_cons.1 hx with rfl | hx
   ·omega
   ·exact ih _ (Nat.div_lt_self (by omega) (by omega)) x hx
def can (l:List Nat):Prop:=∀ x,l.getLast?=some x->x≠0
theorem can_nil:can []:=by simp[can]
theorem Ab9(l:List Nat):can (K2 l):=by intro x hx;unfold K2 at hx;rw[List.getLast?_reverse] at hx;have:=List.head?_dropWhile_not (p:=λy:Nat=>y == 0) (l:=l.reverse);intro h0;subst h0;simp[hx] at this
theorem AD1{n:Nat}(h:n≠0):wds n≠[]:=by rw[AR4 h];simp
theorem Ax4{l:List Nat}(hd:dig l)(hc:can l):wds (val l)=l:=by
 induction l with
 | nil=>simp[val,M7]
 | cons x l ih =>
  have hx:=hd x (by simp);have hdl:dig l:=λy hy=>hd y (by simp[hy]);have hcl:can l:=by
   intro y hy;refine hc y ?_
   cases l with
   | nil=>simp at hy
   | cons z r=>rw[fL];exact hy
  have ih':=ih hdl hcl;have hne:val (x::l)≠0:=by
   intro h0;simp only[val] at h0;have hv:val l=0:=by omega
   have hl:l=[]:=by rw[<-ih',hv,M7]
   subst hl;exact hc x (by simp) (by omega)
  rw[AR4 hne];have e1:val (x::l) % 4294967296=x:=by simp only[val];omega
  have e2:val (x::l) / 4294967296=val l:=by simp only[val];omega
  rw[e1,e2,ih']
theorem AF4(l:List Nat):∃ k,l=K2 l++List.replicate k 0:=by
 induction h:l.length generalizing l with
 | zero=>have:l=[]:=List.length_eq_zero_iff.1 h;subst this;exact⟨0,rfl⟩
 | succ n ih =>
  rcases List.eq_nil_or_concat l with rfl | ⟨r,x,rfl⟩
  ·simp at h
  ·rw[List.concat_eq_append] at *;by_cases h0:x=0
   ·subst h0;obtain⟨k,hk⟩:=ih r (by simpa using h);refine⟨k+1,?_⟩;rw[AV9,List.replicate_succ',<-cS,<-hk]
   ·exact⟨0,by rw[Af3 _ _ h0];simp⟩
theorem AA6(k:Nat):val (List.replicate k 0)=0:=by
 induction k with
 | zero=>rfl
 | succ k ih=>simp[gG,val,ih]
theorem BI9(l:List Nat):val (K2 l)=val l:=by
 obtain⟨k,hk⟩:=AF4 l;have:val l=val (K2 l++List.replicate k 0):=by rw[<-hk]
 rw[this,AR7,AA6];simp
theorem Bp2{l:List Nat}(h:dig l):dig (K2 l):=by obtain⟨k,hk⟩:=AF4 l;intro x hx;exact h x (by rw[hk];simp[hx])
theorem L1{l:List Nat}(h:dig l):K2 l=wds (val l):=by rw[<-BI9 l];exact (Ax4 (Bp2 h) (Ab9 l)).symm
theorem can_wds(n:Nat):can (wds n):=by have:=L1 (Aw7 n);rw[E9] at this;rw[<-this];exact Ab9 _
theorem AI0(l:List Nat):(K2 l).length<=l.length:=by obtain⟨k,hk⟩:=AF4 l;have:=congrArg List.length hk;simp at this;omega
theorem Ae9{n L:Nat}(h:n<4294967296 ^ L):(wds n).length<=L:=by
 induction L generalizing n with
 | zero =>
  have:n=0:=by simpa using h
  subst this;simp[M7]
 | succ L ih =>
  by_cases h0:n=0
  ·subst h0;simp[M7]
  ·rw[AR4 h0,aS];have:n / 4294967296<4294967296 ^ L:=by rw[bD (by omega)];rw[aN] at h;exact h
   have:=ih this;omega
theorem AV6(n:Nat):n<4294967296 ^ (wds n).length:=by have:=Af1 (Aw7 n);rwa [E9] at this
theorem J1{l:List Nat}(h:dig l):(wds (val l)).length<=l.length:=by rw[<-L1 h];exact AI0 l
theorem Ba9{n:Nat}:wds n=[]<->n=0:=by
 constructor
 ·intro h;have:=E9 n;rw[h] at this;exact this.symm
 ·rintro rfl;exact M7
theorem wds_inj{m n:Nat}(h:wds m=wds n):m=n:=by rw[<-E9 m,h,E9]
theorem AP6{m n:Nat}(h:m<=n):(wds m).length<=(wds n).length:=Ae9 (bI h (AV6 n))
theorem AL4{l:List Nat}(h:dig l):K2 l=[]<->val l=0:=by rw[L1 h,Ba9]
theorem An6{n:Nat}(h:n<4294967296)(h0:n≠0):wds n=[n]:=by rw[AR4 h0,bJ h,eB h,M7]
theorem wds_two{n:Nat}(h:n<18446744073709551616)(h0:4294967296<=n):wds n=[n % 4294967296,n / 4294967296]:=by rw[AR4 (by omega),An6 (by omega) (by omega)]
theorem Aa3{l:List Nat}{i x:Nat}(h:l[i]?=some x):val l=val (l.take i)+4294967296 ^ i*(x+4294967296*val (l.drop (i+1))):=by
 have hlt:i<l.length:=by
  rcases aB i l.length with h' | h'
  ·exact h'
  ·rw[aH h'] at h;cases h
 have e:l=l.take i++(x::l.drop (i+1)):=by
  have hx:l[i]=x:=by rw[aE hlt] at h;exact Option.some.inj h
  rw[<-hx,<-bX hlt,eC]
 have hl:(l.take i).length=i:=by simp;omega
 conv=>lhs;rw[e]
 rw[AR7,hl,val]
theorem BJ0{l r:List Nat}{i x y:Nat}(hl:dig l)(hd:l.drop (i+1)=r.drop (i+1))(hx:l[i]?=some x)(hy:r[i]?=some y)(hxy:x<y):val l<val r:=by
 rw[Aa3 hx,Aa3 hy,hd];have hlt:i<l.length:=by
  rcases aB i l.length with h' | h'
  ·exact h'
  ·rw[aH h'] at hx;cases hx
 have h1:val (l.take i)<4294967296 ^ i:=by have:=Af1 (l:=l.take i) (λz hz=>hl z (eO hz));rwa [show (l.take i).length=i by simp;omega] at this
 generalize val (r.drop (i+1))=D;have h2:4294967296 ^ i*(x+4294967296*D+1)<=4294967296 ^ i*(y+4294967296*D):=aV _ (by omega);rw[aJ] at h2;omega
def AL1 (m n:Nat):Int:=if m<n then -1 else if n<m then 1 else 0
def BD0 (m n:Int):Int:=if m<n then -1 else if n<m then 1 else 0
theorem Ax5{m n:Nat}(h:(wds m).length<(wds n).length):m<n:=by
 rcases aB m n with h' | h'
 ·exact h'
 ·have:=AP6 h';omega
theorem mvo{P:Program}{σ:Env}{w0:World}{ty:TypeId}{pos:String}{af:Array Edge}{g:Option (Nat×Bool)}{x:Operand}{v:Value}(h:ev σ x=some v):∀ w,Ext w0 w->Gv P ⟨d,.move x,ty,pos,af,g⟩ σ w λv' w'=>Ext w w'/\Sp.ok (.inl v) v' w':=λw _=>(v_mv h).ob
theorem fao{P:Program}{σ:Env}{w0:World}{ty:TypeId}{pos:String}{af:Array Edge}{g:Option (Nat×Bool)}{s:TypeId}{x:Operand}{i b o off:Nat}(hf:U7 P s i=some off)(h:ev σ x=some (.pointer (some ⟨b,o,none⟩))):∀ w,Ext w0 w->Gv P ⟨d,.fieldAddr s x i,ty,pos,af,g⟩ σ w λv' w'=>Ext w w'/\Sp.ok (.inl (.pointer (some ⟨b,o+off,none⟩))) v' w':=λw _=>(v_fa hf h).ob
theorem en{P:Program}{fn:Func}(hf:P.funcs[f]?=some fn)(hn:(fn.name=="runtime.NumGoroutine")=false:=by kernel_rfl)(hb:fn.body.isNone=false:=by rfl):Ent P f:=ent_of hf hn hb
theorem Gv.oa{E:ER α}{S:Nat->Prop}{x:α}{P:Program}{o:Oper}{σ:Env}{w:World}(h:Gv P o σ w λv w'=>Ext w w'/\E.at S x v w'):Gv P o σ w λv w'=>Ext w w'/\Sp.ok (.inr (E.at S x)) v w':=h.ob (G7 _ _ _)
theorem Q3.p1{P:Program}{fn:Func}{N:Nat}{R:Value->World->Prop}{σ:Env}{w:World}{t:Tmp}(v:Value)(hr:fn.results=[ResultVar.tmp t].toArray)(h:look σ t=some v)(hR:R v w):Q3 P fn N R σ [] w:=.plain [v] hr ⟨h,trivial⟩ hR
theorem Q3.p2{P:Program}{fn:Func}{N:Nat}{R:Value->World->Prop}{σ:Env}{w:World}{t u:Tmp}{a b:Value}(hr:fn.results=[ResultVar.tmp t,.tmp u].toArray)(h:look σ t=some a)(h2:look σ u=some b)(hR:R (tup [a,b]) w):Q3 P fn N R σ [] w:=.plain [a,b] hr ⟨h,h2,trivial⟩ hR
section
variable {P:Program} {ro:Option Nat} {N:Nat} {ds:List Deferred} {ops:Array Oper} {K:Env->World->Prop} {rest:List Oper} {σ:Env} {w:World} {d:Tmp} {ty:TypeId} {pos:String} {af:Array Edge}
theorem WL.mv {x:Operand} {v:Value} (hd:Nat.blt d N=true) (h:ev σ x=some v) (k:WL P ro N ds ops K rest ((d,v)::σ) w):WL P ro N ds ops K (⟨some d,.move x,ty,pos,af,none⟩::rest) σ w:=WL.vl O hd (v_mv h) k
theorem WL.asg {x:Operand} {v:Value} (hd:Nat.blt d N=true) (h:ev σ x=some v) (k:WL P ro N ds ops K rest ((d,v)::σ) w):WL P ro N ds ops K (⟨some d,.assign x,ty,pos,af,none⟩::rest) σ w:=WL.vl O hd (AR9 h) k
theorem WC.sr {P:Program} {ro:Option Nat} {N:Nat} {Q:Pst} {σ:Env} {ds:List Deferred} {w:World} {id:Nat} {l:List Oper} {y:Code} (h:WL P ro N ds l.toArray (λσ w=>WC P ro N Q y σ ds w) l σ w):WC P ro N Q ((Code.region id l.toArray false).seq y) σ ds w:=WC.seq (WC.region h)
theorem WL.an {P:Program} {ro:Option Nat} {N:Nat} {ds:List Deferred} {ops:Array Oper} {K:Env->World->Prop} {σ:Env} {w:World} {d:Tmp} {x:Operand} {ty:TypeId} {pos:String} {af:Array Edge} {v:Value} (hd:Nat.blt d N=true) (hx:ev σ x=some v) (k:K ((d,v)::σ) w):WL P ro N ds ops K [⟨some d,.assign x,ty,pos,af,none⟩] σ w:=.asg hd hx (.nil k)
theorem WL.pick {c x y:Operand} {b:Bool} {v:Value} (hd:Nat.blt d N=true) (hc:ev σ c=some (.bool b)) (h:(bif b then ev σ x else ev σ y)=some v) (k:WL P ro N ds ops K rest ((d,v)::σ) w):WL P ro N ds ops K (⟨some d,.pick c x y,ty,pos,af,none⟩::rest) σ w:=by
 cases b with
 | true=>exact WL.vl O hd (BM1 hc h) k
 | false=>exact WL.vl O hd (Aa5 hc h) k
section
variable {xt yt:TypeId} {x y:Operand} {kk:IntKind} {m n:Int}
theorem WL.add (hd:Nat.blt d N=true) (hx:ev σ x=some (.int kk m)) (hy:ev σ y=some (.int kk n)) (k:WL P ro N ds ops K rest ((d,.int kk (kk.wrap (m+n)))::σ) w):WL P ro N ds ops K (⟨some d,.binOp .add xt x y yt,ty,pos,af,none⟩::rest) σ w:=WL.vl O hd (Bg6 hx hy) k
theorem WL.sub (hd:Nat.blt d N=true) (hx:ev σ x=some (.int kk m)) (hy:ev σ y=some (.int kk n)) (k:WL P ro N ds ops K rest ((d,.int kk (kk.wrap (m-n)))::σ) w):WL P ro N ds ops K (⟨some d,.binOp .sub xt x y yt,ty,pos,af,none⟩::rest) σ w:=WL.vl O hd (AL5 hx hy) k
theorem WL.mul (hd:Nat.blt d N=true) (hx:ev σ x=some (.int kk m)) (hy:ev σ y=some (.int kk n)) (k:WL P ro N ds ops K rest ((d,.int kk (kk.wrap (m*n)))::σ) w):WL P ro N ds ops K (⟨some d,.binOp .mul xt x y yt,ty,pos,af,none⟩::rest) σ w:=WL.vl O hd (Br8 hx hy) k
theorem WL.quo (hd:Nat.blt d N=true) (hx:ev σ x=some (.int kk m)) (hy:ev σ y=some (.int kk n)) (h0:n≠0) (k:WL P ro N ds ops K rest ((d,.int kk (kk.wrap (m.tdiv n)))::σ) w):WL P ro N ds ops K (⟨some d,.binOp .quo xt x y yt,ty,pos,af,none⟩::rest) σ w:=WL.vl O hd (Ay1 hx hy h0) k
theorem WL.rem (hd:Nat.blt d N=true) (hx:ev σ x=some (.int kk m)) (hy:ev σ y=some (.int kk n)) (h0:n≠0) (k:WL P ro N ds ops K rest ((d,.int kk (m.tmod n))::σ) w):WL P ro N ds ops K (⟨some d,.binOp .rem xt x y yt,ty,pos,af,none⟩::rest) σ w:=WL.vl O hd (Ay0 hx hy h0) k
theorem WL.and_ (hd:Nat.blt d N=true) (hx:ev σ x=some (.int kk m)) (hy:ev σ y=some (.int kk n)) (k:WL P ro N ds ops K rest ((d,.int kk (kk.wrap (BitVec.ofInt kk.bits m &&& BitVec.ofInt kk.bits n).toNat))::σ) w):WL P ro N ds ops K (⟨some d,.binOp .and xt x y yt,ty,pos,af,none⟩::rest) σ w:=WL.vl O hd (v_and hx hy) k
theorem WL.or_ (hd:Nat.blt d N=true) (hx:ev σ x=some (.int kk m)) (hy:ev σ y=some (.int kk n)) (k:WL P ro N ds ops K rest ((d,.int kk (kk.wrap (BitVec.ofInt kk.bits m ||| BitVec.ofInt kk.bits n).toNat))::σ) w):WL P ro N ds ops K (⟨some d,.binOp .or xt x y yt,ty,pos,af,none⟩::rest) σ w:=WL.vl O hd (v_or hx hy) k
theorem WL.xor_ (hd:Nat.blt d N=true) (hx:ev σ x=some (.int kk m)) (hy:ev σ y=some (.int kk n)) (k:WL P ro N ds ops K rest ((d,.int kk (kk.wrap (BitVec.ofInt kk.bits m ^^^ BitVec.ofInt kk.bits n).toNat))::σ) w):WL P ro N ds ops K (⟨some d,.binOp .xor xt x y yt,ty,pos,af,none⟩::rest) σ w:=WL.vl O hd (v_xor hx hy) k
theorem WL.shl {k':IntKind} (hd:Nat.blt d N=true) (hx:ev σ x=some (.int kk m)) (hy:ev σ y=some (.int k' n)) (h0:0<=n) (k:WL P ro N ds ops K rest ((d,.int kk (kk.wrap (m*2 ^ (min n.toNat kk.bits))))::σ) w):WL P ro N ds ops K (⟨some d,.binOp .shl xt x y yt,ty,pos,af,none⟩::rest) σ w:=WL.vl O hd (Bg2 hx hy h0) k
theorem WL.shr {k':IntKind} (hd:Nat.blt d N=true) (hx:ev σ x=some (.int kk m)) (hy:ev σ y=some (.int k' n)) (h0:0<=n) (k:WL P ro N ds ops K rest ((d,.int kk (m.fdiv (2 ^ (min n.toNat kk.bits))))::σ) w):WL P ro N ds ops K (⟨some d,.binOp .shr xt x y yt,ty,pos,af,none⟩::rest) σ w:=WL.vl O hd (v_shr hx hy h0) k
theorem WL.eql (hd:Nat.blt d N=true) (hx:ev σ x=some (.int kk m)) (hy:ev σ y=some (.int kk n)) (k:WL P ro N ds ops K rest ((d,.bool (m == n))::σ) w):WL P ro N ds ops K (⟨some d,.binOp .eql xt x y yt,ty,pos,af,none⟩::rest) σ w:=WL.vl O hd (Ai5 hx hy) k
theorem WL.neq (hd:Nat.blt d N=true) (hx:ev σ x=some (.int kk m)) (hy:ev σ y=some (.int kk n)) (k:WL P ro N ds ops K rest ((d,.bool (m != n))::σ) w):WL P ro N ds ops K (⟨some d,.binOp .neq xt x y yt,ty,pos,af,none⟩::rest) σ w:=WL.vl O hd (Br7 hx hy) k
theorem WL.lss (hd:Nat.blt d N=true) (hx:ev σ x=some (.int kk m)) (hy:ev σ y=some (.int kk n)) (k:WL P ro N ds ops K rest ((d,.bool (decide (m<n)))::σ) w):WL P ro N ds ops K (⟨some d,.binOp .lss xt x y yt,ty,pos,af,none⟩::rest) σ w:=WL.vl O hd (Aq4 hx hy) k
theorem WL.leq (hd:Nat.blt d N=true) (hx:ev σ x=some (.int kk m)) (hy:ev σ y=some (.int kk n)) (k:WL P ro N ds ops K rest ((d,.bool (decide (m<=n)))::σ) w):WL P ro N ds ops K (⟨some d,.binOp .leq xt x y yt,ty,pos,af,none⟩::rest) σ w:=WL.vl O hd (v_leq hx hy) k
theorem WL.gtr (hd:Nat.blt d N=true) (hx:ev σ x=some (.int kk m)) (hy:ev σ y=some (.int kk n)) (k:WL P ro N ds ops K rest ((d,.bool (decide (n<m)))::σ) w):WL P ro N ds ops K (⟨some d,.binOp .gtr xt x y yt,ty,pos,af,none⟩::rest) σ w:=WL.vl O hd (Ac8 hx hy) k
theorem WL.geq (hd:Nat.blt d N=true) (hx:ev σ x=some (.int kk m)) (hy:ev σ y=some (.int kk n)) (k:WL P ro N ds ops K rest ((d,.bool (decide (n<=m)))::σ) w):WL P ro N ds ops K (⟨some d,.binOp .geq xt x y yt,ty,pos,af,none⟩::rest) σ w:=WL.vl O hd (BT3 hx hy) k
theorem WL.lssT (hd:Nat.blt d N=true) (hx:ev σ x=some (.int kk m)) (hy:ev σ y=some (.int kk n)) (h:m<n) (k:WL P ro N ds ops K rest ((d,.bool true)::σ) w):WL P ro N ds ops K (⟨some d,.binOp .lss xt x y yt,ty,pos,af,none⟩::rest) σ w:=WL.lss hd hx hy (by simpa[h] using k)
theorem WL.lssF (hd:Nat.blt d N=true) (hx:ev σ x=some (.int kk m)) (hy:ev σ y=some (.int kk n)) (h:¬ m<n) (k:WL P ro N ds ops K rest ((d,.bool false)::σ) w):WL P ro N ds ops K (⟨some d,.binOp .lss xt x y yt,ty,pos,af,none⟩::rest) σ w:=WL.lss hd hx hy (by simpa[h] using k)
theorem WL.leqT (hd:Nat.blt d N=true) (hx:ev σ x=some (.int kk m)) (hy:ev σ y=some (.int kk n)) (h:m<=n) (k:WL P ro N ds ops K rest ((d,.bool true)::σ) w):WL P ro N ds ops K (⟨some d,.binOp .leq xt x y yt,ty,pos,af,none⟩::rest) σ w:=WL.leq hd hx hy (by simpa[h] using k)
theorem WL.leqF (hd:Nat.blt d N=true) (hx:ev σ x=some (.int kk m)) (hy:ev σ y=some (.int kk n)) (h:¬ m<=n) (k:WL P ro N ds ops K rest ((d,.bool false)::σ) w):WL P ro N ds ops K (⟨some d,.binOp .leq xt x y yt,ty,pos,af,none⟩::rest) σ w:=WL.leq hd hx hy (by simpa[h] using k)
theorem WL.gtrT (hd:Nat.blt d N=true) (hx:ev σ x=some (.int kk m)) (hy:ev σ y=some (.int kk n)) (h:n<m) (k:WL P ro N ds ops K rest ((d,.bool true)::σ) w):WL P ro N ds ops K (⟨some d,.binOp .gtr xt x y yt,ty,pos,af,none⟩::rest) σ w:=WL.gtr hd hx hy (by simpa[h] using k)
theorem WL.gtrF (hd:Nat.blt d N=true) (hx:ev σ x=some (.int kk m)) (hy:ev σ y=some (.int kk n)) (h:¬ n<m) (k:WL P ro N ds ops K rest ((d,.bool false)::σ) w):WL P ro N ds ops K (⟨some d,.binOp .gtr xt x y yt,ty,pos,af,none⟩::rest) σ w:=WL.gtr hd hx hy (by simpa[h] using k)
theorem WL.geqT (hd:Nat.blt d N=true) (hx:ev σ x=some (.int kk m)) (hy:ev σ y=some (.int kk n)) (h:n<=m) (k:WL P ro N ds ops K rest ((d,.bool true)::σ) w):WL P ro N ds ops K (⟨some d,.binOp .geq xt x y yt,ty,pos,af,none⟩::rest) σ w:=WL.geq hd hx hy (by simpa[h] using k)
theorem WL.geqF (hd:Nat.blt d N=true) (hx:ev σ x=some (.int kk m)) (hy:ev σ y=some (.int kk n)) (h:¬ n<=m) (k:WL P ro N ds ops K rest ((d,.bool false)::σ) w):WL P ro N ds ops K (⟨some d,.binOp .geq xt x y yt,ty,pos,af,none⟩::rest) σ w:=WL.geq hd hx hy (by simpa[h] using k)
theorem WL.eqlT (hd:Nat.blt d N=true) (hx:ev σ x=some (.int kk m)) (hy:ev σ y=some (.int kk n)) (h:m=n) (k:WL P ro N ds ops K rest ((d,.bool true)::σ) w):WL P ro N ds ops K (⟨some d,.binOp .eql xt x y yt,ty,pos,af,none⟩::rest) σ w:=WL.eql hd hx hy (by first | (rw[beq_iff_eq.2 h];exact k) | (rw[beq_eq_false_iff_ne.2 h];exact k))
theorem WL.eqlF (hd:Nat.blt d N=true) (hx:ev σ x=some (.int kk m)) (hy:ev σ y=some (.int kk n)) (h:m≠n) (k:WL P ro N ds ops K rest ((d,.bool false)::σ) w):WL P ro N ds ops K (⟨some d,.binOp .eql xt x y yt,ty,pos,af,none⟩::rest) σ w:=WL.eql hd hx hy (by first | (rw[beq_iff_eq.2 h];exact k) | (rw[beq_eq_false_iff_ne.2 h];exact k))
theorem WL.neqT (hd:Nat.blt d N=true) (hx:ev σ x=some (.int kk m)) (hy:ev σ y=some (.int kk n)) (h:m≠n) (k:WL P ro N ds ops K rest ((d,.bool true)::σ) w):WL P ro N ds ops K (⟨some d,.binOp .neq xt x y yt,ty,pos,af,none⟩::rest) σ w:=WL.neq hd hx hy (by first | (rw[bne_iff_ne.2 h];exact k) | (rw[h,bne_self_eq_false];exact k))
theorem WL.neqF (hd:Nat.blt d N=true) (hx:ev σ x=some (.int kk m)) (hy:ev σ y=some (.int kk n)) (h:m=n) (k:WL P ro N ds ops K rest ((d,.bool false)::σ) w):WL P ro N ds ops K (⟨some d,.binOp .neq xt x y yt,ty,pos,af,none⟩::rest) σ w:=WL.neq hd hx hy (by first | (rw[bne_iff_ne.2 h];exact k) | (rw[h,bne_self_eq_false];exact k))
theorem WL.neg (hd:Nat.blt d N=true) (hx:ev σ x=some (.int kk m)) (k:WL P ro N ds ops K rest ((d,.int kk (kk.wrap (0-m)))::σ) w):WL P ro N ds ops K (⟨some d,.unOp .neg xt x,ty,pos,af,none⟩::rest) σ w:=WL.vl O hd (v_neg hx) k
theorem WL.cvt {k':IntKind} {s t:TypeId} {dsc:TypeDesc} (hs:P.underlying s=some dsc) (ht:P.underlying t=some (.int k')) (hd:Nat.blt d N=true) (hx:ev σ x=some (.int kk m)) (k:WL P ro N ds ops K rest ((d,.int k' (k'.wrap m))::σ) w):WL P ro N ds ops K (⟨some d,.convert s t x,ty,pos,af,none⟩::rest) σ w:=WL.vl O hd (AL6 hs ht hx) k
theorem WL.min_ {ts:Array TypeId} (hd:Nat.blt d N=true) (hx:ev σ x=some (.int kk m)) (hy:ev σ y=some (.int kk n)) (k:WL P ro N ds ops K rest ((d,.int kk (min m n))::σ) w):WL P ro N ds ops K (⟨some d,.call { callee:=.builtin .min,args:=#[x,y],argTypes:=ts },ty,pos,af,none⟩::rest) σ w:=WL.vl O hd (v_min hx hy) k
theorem WL.max_ {ts:Array TypeId} (hd:Nat.blt d N=true) (hx:ev σ x=some (.int kk m)) (hy:ev σ y=some (.int kk n)) (k:WL P ro N ds ops K rest ((d,.int kk (max m n))::σ) w):WL P ro N ds ops K (⟨some d,.call { callee:=.builtin .max,args:=#[x,y],argTypes:=ts },ty,pos,af,none⟩::rest) σ w:=WL.vl O hd (v_max hx hy) k
end
theorem WL.not_ {xt:TypeId} {x:Operand} {b:Bool} (hd:Nat.blt d N=true) (hx:ev σ x=some (.bool b)) (k:WL P ro N ds ops K rest ((d,.bool (!b))::σ) w):WL P ro N ds ops K (⟨some d,.unOp .not xt x,ty,pos,af,none⟩::rest) σ w:=WL.vl O hd (BJ1 hx) k
theorem WL.eqlB {xt yt:TypeId} {x y:Operand} {a b:Bool} (ht:P.underlying xt=some .bool) (hd:Nat.blt d N=true) (hx:ev σ x=some (.bool a)) (hy:ev σ y=some (.bool b)) (k:WL P ro N ds ops K rest ((d,.bool (a == b))::σ) w):WL P ro N ds ops K (⟨some d,.binOp .eql xt x y yt,ty,pos,af,none⟩::rest) σ w:=WL.vl O hd (v_eqlB ht hx hy) k
theorem WL.neqB {xt yt:TypeId} {x y:Operand} {a b:Bool} (ht:P.underlying xt=some .bool) (hd:Nat.blt d N=true) (hx:ev σ x=some (.bool a)) (hy:ev σ y=some (.bool b)) (k:WL P ro N ds ops K rest ((d,.bool (a != b))::σ) w):WL P ro N ds ops K (⟨some d,.binOp .neq xt x y yt,ty,pos,af,none⟩::rest) σ w:=WL.vl O hd (BM2 ht hx hy) k
theorem WL.ext {x:Operand} {i:Nat} {vs:Array Value} {v:Value} (hd:Nat.blt d N=true) (hx:ev σ x=some (.tuple vs)) (hi:vs[i]?=some v) (k:WL P ro N ds ops K rest ((d,v)::σ) w):WL P ro N ds ops K (⟨some d,.extract x i,ty,pos,af,none⟩::rest) σ w:=WL.vl O hd (AA1 hx hi) k
theorem WL.fa {s:TypeId} {x:Operand} {i b o off:Nat} (hf:U7 P s i=some off) (hd:Nat.blt d N=true) (hx:ev σ x=some (.pointer (some ⟨b,o,none⟩))) (k:WL P ro N ds ops K rest ((d,.pointer (some ⟨b,o+off,none⟩))::σ) w) :
  WL P ro N ds ops K (⟨some d,.fieldAddr s x i,ty,pos,af,none⟩::rest) σ w:=WL.vl O hd (v_fa hf hx) k
theorem WL.ld {t t':TypeId} {x:Operand} {b off n:Nat} {cs:Array Value} {v:Value} (ht:F6 P t=some (false,n)) (hd:Nat.blt d N=true) (hx:ev σ x=some (.pointer (some ⟨b,off,none⟩))) (hb:Blk w b t' cs) (hc:cs[off]?=some v) (k:WL P ro N ds ops K rest ((d,v)::σ) w) :
  WL P ro N ds ops K (⟨some d,.load t x,ty,pos,af,none⟩::rest) σ w:=WL.vl O hd (E2 ht hx hb hc) k
theorem WL.ldA {t t':TypeId} {x:Operand} {b n:Nat} {cs:Array Value} (ht:F6 P t=some (true,n)) (hd:Nat.blt d N=true) (hx:ev σ x=some (.pointer (some ⟨b,0,none⟩))) (hb:Blk w b t' cs) (hn:cs.size=n) (k:WL P ro N ds ops K rest ((d,.agg cs)::σ) w) :
  WL P ro N ds ops K (⟨some d,.load t x,ty,pos,af,none⟩::rest) σ w:=WL.vl O hd (E1 ht hx hb hn) k
theorem WL.ldN {t t':TypeId} {x:Operand} {b off:Nat} {cs:Array Value} (vs:List Value) (ht:F6 P t=some (true,vs.length)) (hd:Nat.blt d N=true) (hx:ev σ x=some (.pointer (some ⟨b,off,none⟩))) (hb:Blk w b t' cs)
  (hc:∀ j u,vs[j]?=some u->cs[off+j]?=some u) (k:WL P ro N ds ops K rest ((d,.agg vs.toArray)::σ) w) :
  WL P ro N ds ops K (⟨some d,.load t x,ty,pos,af,none⟩::rest) σ w:=WL.vl O hd (Ai4 vs ht hx hb hc) k
theorem WL.mkf {fn:Fn} {fs cs:Array Operand} {v:Value} (vf vc:List Value) (hd:Nat.blt d N=true) (hf:fs.toList.map (ev σ)=vf.map some) (hc:cs.toList.map (ev σ)=vc.map some) (hv:v=.func fn vf.toArray vc.toArray) (k:WL P ro N ds ops K rest ((d,v)::σ) w) :
  WL P ro N ds ops K (⟨some d,.makeFunc fn fs cs,ty,pos,af,none⟩::rest) σ w:=WL.vl O hd (v_mf vf vc hf hc hv) k
theorem WL.bld {t:TypeId} {ps:List (Nat×Operand)} (vs:List (Nat×Value)) {cs:Array Value} (hd:Nat.blt d N=true) (hv:evp σ ps=some vs) (hc:AK4 P t vs=some cs) (k:WL P ro N ds ops K rest ((d,.agg cs)::σ) w) :
  WL P ro N ds ops K (⟨some d,.build t ps.toArray,ty,pos,af,none⟩::rest) σ w:=WL.vl O hd (Bg5 vs hv hc) k
theorem WL.bsl {t e:TypeId} {len:Nat} {ps:List (Nat×Operand)} (vs:List (Nat×Value)) {cs:Array Value} (hd:Nat.blt d N=true) (hv:evp σ ps=some vs) (hc:Y7 P t len vs=some (e,cs))
  (k:∀ w' b,New w w' b e cs->WL P ro N ds ops K rest ((d,.slice (some ⟨b,0,none⟩) len len)::σ) w') :
  WL P ro N ds ops K (⟨some d,.buildSlice t len ps.toArray,ty,pos,af,none⟩::rest) σ w :=
 WL.gv O hd (Ad7 vs hv hc) λv' w' ⟨b,hv,hn⟩=>by subst hv;exact k w' b hn
theorem WL.make_ {t e:TypeId} {x y:Operand} {z:Value} {sz by_:Nat} (n c:Nat) {k1 k2:IntKind} (ht:P.underlying t=some (.slice e)) (hi:O8 P e=some (z,sz,by_)) (hzs:z.cells.size=sz) (hsz:0<sz) (hd:Nat.blt d N=true)
  (hx:ev σ x=some (.int k1 (n:Int))) (hy:ev σ y=some (.int k2 (c:Int))) (hnc:n<=c) (hby:by_*c<=281474976710656) (hc:c<=9223372036854775807)
  (k:∀ w' b,New w w' b e (cellsOf (List.replicate c z)).toArray->WL P ro N ds ops K rest ((d,.slice (some ⟨b,0,none⟩) n c)::σ) w') :
  WL P ro N ds ops K (⟨some d,.makeSlice t x y,ty,pos,af,none⟩::rest) σ w :=
 WL.gv O hd (By6 n c ht hi hzs hsz hx hy hnc hby hc) λv' w' ⟨b,hv,hn⟩=>by subst hv;exact k w' b hn
section
variable {α:Type} {E:ER α} {hsz:0<E.sz} {S:Nat->Prop} {v:Value} {l:List α}
theorem WL.len {t e:TypeId} {x:Operand} {a:Option Addr} {n c:Nat} (ht:P.underlying t=some (.slice e)) (hd:Nat.blt d N=true) (hx:ev σ x=some (.slice a n c)) (k:WL P ro N ds ops K rest ((d,.int .i64 n)::σ) w) :
  WL P ro N ds ops K (⟨some d,.call { callee:=.builtin .len,args:=#[x],argTypes:=#[t] },ty,pos,af,none⟩::rest) σ w:=WL.vl O hd (v_len ht hx) k
theorem WL.lenR {t e:TypeId} {x:Operand} (ht:P.underlying t=some (.slice e)) (hd:Nat.blt d N=true) (hx:ev σ x=some v) (h:(RL E hsz).R S w v l) (k:WL P ro N ds ops K rest ((d,.int .i64 l.length)::σ) w) :
  WL P ro N ds ops K (⟨some d,.call { callee:=.builtin .len,args:=#[x],argTypes:=#[t] },ty,pos,af,none⟩::rest) σ w:=WL.vl O hd (AA7 ht hx h) k
theorem WL.ix {t e:TypeId} {x ix:Operand} {kk:IntKind} {i:Int} {b:Bool} {y:α} (ht:P.underlying t=some (.slice e)) (he:F6 P e=some (b,E.sz)) (hd:Nat.blt d N=true) (hx:ev σ x=some v) (h:(RL E hsz).R S w v l)
  (hi:ev σ ix=some (.int kk i)) (h0:0<=i) (hy:l[i.toNat]?=some y) (k:∀ p,P5 E S w p y->WL P ro N ds ops K rest ((d,.pointer (some p))::σ) w) :
  WL P ro N ds ops K (⟨some d,.indexAddr t x ix,ty,pos,af,none⟩::rest) σ w :=
 WL.gv O hd (g_ix ht he hx h hi h0 hy) λv' w' ⟨e1,p,e2,hp⟩=>by subst e1;subst e2;exact k p hp
theorem WL.ixN {t e:TypeId} {x ix:Operand} {kk:IntKind} {i:Nat} {b:Bool} {y:α} (ht:P.underlying t=some (.slice e)) (he:F6 P e=some (b,E.sz)) (hd:Nat.blt d N=true) (hx:ev σ x=some v) (h:(RL E hsz).R S w v l)
  (hi:ev σ ix=some (.int kk (i:Int))) (hy:l[i]?=some y) (k:∀ p,P5 E S w p y->WL P ro N ds ops K rest ((d,.pointer (some p))::σ) w) :
  WL P ro N ds ops K (⟨some d,.indexAddr t x ix,ty,pos,af,none⟩::rest) σ w:=WL.ix ht he hd hx h hi (eS _) (by simpa using hy) k
theorem WL.ldE {t:TypeId} {x:Operand} {p:Addr} {y:α} (ht:F6 P t=some (E.isA,E.sz)) (hd:Nat.blt d N=true) (hx:ev σ x=some (.pointer (some p))) (hp:P5 E S w p y) (k:∀ v,E.R S w v y->WL P ro N ds ops K rest ((d,v)::σ) w) :
  WL P ro N ds ops K (⟨some d,.load t x,ty,pos,af,none⟩::rest) σ w :=
 WL.gv O hd (Bj3 ht hx hp) λv' w' ⟨e1,hp⟩=>by subst e1;exact k v' hp
theorem WL.cut {t e:TypeId} {x:Operand} {b:Bool} {lo hi:Option Operand} (L H:Nat) (ht:P.underlying t=some (.slice e)) (he:F6 P e=some (b,E.sz)) (hd:Nat.blt d N=true) (hx:ev σ x=some v) (h:(RL E hsz).R S w v l)
  (hlo:match lo with | none=>L=0 | some y=>∃ k,ev σ y=some (.int k (L:Int))) (hhi:match hi with | none=>H=l.length | some y=>∃ k,ev σ y=some (.int k (H:Int))) (h1:L<=H) (h2:H<=l.length)
  (k:∀ v,(RL E hsz).R S w v ((l.take H).drop L)->WL P ro N ds ops K rest ((d,v)::σ) w) :
  WL P ro N ds ops K (⟨some d,.slice t x lo hi none,ty,pos,af,none⟩::rest) σ w :=
 WL.gv O hd (g_cut lo hi L H ht he hx h hlo hhi h1 h2) λv' w' ⟨e1,hp⟩=>by subst e1;exact k v' hp
end
theorem WL.gr {op:Op} {dd:Option Tmp} {j t:Nat} {b c:Bool} (hj:Ad6 ops j=some t) (ht:Nat.blt t N=true) (hv:look σ t=some (.bool c)) (hc:c=b)
  (h:WL P ro N ds ops K (⟨dd,op,ty,pos,af,none⟩::rest) σ w):WL P ro N ds ops K (⟨dd,op,ty,pos,af,some (j,b)⟩::rest) σ w:=by subst hc;exact WL.grun hj ht hv h
theorem WL.gs {op:Op} {dd:Option Tmp} {j t:Nat} {b c:Bool} (hj:Ad6 ops j=some t) (ht:Nat.blt t N=true) (hv:look σ t=some (.bool c)) (hc:c = !b) (hd:dOk N dd=true)
  (h:WL P ro N ds ops K rest (AP9 dd undef σ) w):WL P ro N ds ops K (⟨dd,op,ty,pos,af,some (j,b)⟩::rest) σ w :=
 WL.gskip rfl hd hj ht hv (by subst hc;cases b<;>simp) h
theorem WL.gu {op:Op} {dd:Option Tmp} {j t:Nat} {b:Bool} (hj:Ad6 ops j=some t) (ht:Nat.blt t N=true) (hv:look σ t=some undef) (hd:dOk N dd=true)
  (h:WL P ro N ds ops K rest (AP9 dd undef σ) w):WL P ro N ds ops K (⟨dd,op,ty,pos,af,some (j,b)⟩::rest) σ w :=
 WL.gskip O hd hj ht hv (by simp[undef]) h
end
@[reducible] def Ptr {α:Type} (E:ER α) (S:Nat->Prop) (y:α):Value->World->Prop:=λv w=>∃ p,v=.pointer (some p)/\P5 E S w p y
section
variable {P:Program} {σ:Env} {w:World} {d:Option Tmp} {ty:TypeId} {pos:String} {af:Array Edge} {g:Option (Nat×Bool)} {α:Type} {E:ER α} {hsz:0<E.sz} {S:Nat->Prop} {v:Value} {l:List α}
theorem BK3 {t e:TypeId} {x ix:Operand} {k:IntKind} {i:Int} {b:Bool} {y:α} (ht:P.underlying t=some (.slice e)) (he:F6 P e=some (b,E.sz)) (hx:ev σ x=some v) (h:(RL E hsz).R S w v l)
  (hi:ev σ ix=some (.int k i)) (h0:0<=i) (hy:l[i.toNat]?=some y) :
  Gv P ⟨d,.indexAddr t x ix,ty,pos,af,g⟩ σ w λv' w'=>Ext w w'/\Sp.ok (.inr (Ptr E S y)) v' w' :=
 (g_ix ht he hx h hi h0 hy).mono λv' w' ⟨e1,p,e2,hp⟩=>by subst e1;exact⟨Ext.refl _,λw'' e=>⟨p,e2,hp.ext e⟩⟩
theorem C4 {t e:TypeId} {x ix:Operand} {k:IntKind} {i:Nat} {b:Bool} {y:α} (ht:P.underlying t=some (.slice e)) (he:F6 P e=some (b,E.sz)) (hx:ev σ x=some v) (h:(RL E hsz).R S w v l)
  (hi:ev σ ix=some (.int k (i:Int))) (hy:l[i]?=some y) :
  Gv P ⟨d,.indexAddr t x ix,ty,pos,af,g⟩ σ w λv' w'=>Ext w w'/\Sp.ok (.inr (Ptr E S y)) v' w':=BK3 ht he hx h hi (eS _) (by simpa using hy)
theorem K1 {t:TypeId} {x:Operand} {u:Value} {y:α} (ht:F6 P t=some (E.isA,E.sz)) (hx:ev σ x=some u) (hp:Ptr E S y u w) :
  Gv P ⟨d,.load t x,ty,pos,af,g⟩ σ w λv' w'=>Ext w w'/\Sp.ok (.inr (E.at S y)) v' w':=by
 obtain⟨p,rfl,hp⟩:=hp;exact (Bj3 ht hx hp).mono λv' w' ⟨e1,h⟩=>by subst e1;exact⟨Ext.refl _,λw'' e=>E.ext h e⟩
theorem AB6 {t:TypeId} {x:Operand} {u:Value} {y:Nat} (ht:F6 P t=some (false,1)) (hx:ev σ x=some u) (hp:Ptr AQ8 S y u w) :
  Gv P ⟨d,.load t x,ty,pos,af,g⟩ σ w λv' w'=>Ext w w'/\Sp.ok (.inl (.int .u32 y)) v' w':=by
 obtain⟨p,rfl,hp⟩:=hp;exact (Bj3 ht hx hp).mono λv' w' ⟨e1,h⟩=>by subst e1;exact⟨Ext.refl _,h.1⟩
theorem F7 {t:TypeId} {x:Operand} {u:Value} {k:IntKind} {y:Int} (ht:F6 P t=some (false,1)) (hx:ev σ x=some u) (hp:Ptr (B8 k) S y u w) :
  Gv P ⟨d,.load t x,ty,pos,af,g⟩ σ w λv' w'=>Ext w w'/\Sp.ok (.inl (.int k y)) v' w':=by
 obtain⟨p,rfl,hp⟩:=hp;exact (Bj3 ht hx hp).mono λv' w' ⟨e1,h⟩=>by subst e1;exact⟨Ext.refl _,h.1⟩
end
theorem G8{E:ER α}(hA:E.isA=true){S:Nat->Prop}{w:World}{v:Value}{x:α}(h:E.R S w v x):v=.agg v.cells:=by have:=E.shp h;rw[hA] at this;exact this
section
variable {P:Program} {ro:Option Nat} {N:Nat} {ds:List Deferred} {ops:Array Oper} {K:Env->World->Prop} {rest:List Oper} {σ:Env} {w:World} {ty:TypeId} {pos:String} {af:Array Edge} {α:Type} {S:Nat->Prop}
theorem WL.storeA {E:ER α} {t t':TypeId} {x y:Operand} {b n:Nat} {a:Bool} {cs:Array Value} {v:Value} {z:α} (ht:F6 P t=some (a,n)) (hx:ev σ x=some (.pointer (some ⟨b,0,none⟩))) (hy:ev σ y=some v) (hb:Blk w b t' cs)
  (hn:E.sz=n) (hcs:cs.size=n) (hz:E.R S w v z) (hS:¬ S b) (k:∀ w',Blk w' b t' v.cells->Upd w w' b->E.R S w' v z->WL P ro N ds ops K rest σ w') :
  WL P ro N ds ops K (⟨none,.store t x y,ty,pos,af,none⟩::rest) σ w:=by
 have hs:=E.csz hz;refine WL.store ht hx hy hb (by omega) (by omega) (E.one hz) λw' h1 h2=>k w' ?_ h2 (E.upd hz h2 hS);rw[Aa2 _ _ (by simp;omega)] at h1;simpa using h1
end
theorem Q3.cell{P:Program}{fn:Func}{N:Nat}{R:Value->World->Prop}{σ:Env}{w:World}{s:Tmp}{t t':TypeId}{b n:Nat}{E:ER α}{S:Nat->Prop}{v:Value}{z:α}(hr:fn.results=#[.cell s t])(hs:look σ s=some (.pointer (some ⟨b,0,none⟩)))(ht:F6 P t=some (true,n))(hA:E.isA=true)(hn:E.sz=n)(hb:Blk w b t' v.cells)(hz:E.R S w v z)(hR:R v w):Q3 P fn N R σ [] w:=by refine Q3.plain (rs:=[.cell s t]) [v] (by simpa using hr) ⟨⟨_,hs,?_⟩,trivial⟩ hR;have hsz:=E.csz hz;have:=V5 (P:=P) (w:=w) (p:=⟨b,0,none⟩) (cs:=v.cells.toList) (t:=t) (by rw[ht];simp;omega) (λj u hu=>by rw[S8,hb.cell];simpa using hu);rw[this];have hv:=G8 hA hz;simp only[fM];rw[<-hv]
theorem ER.R.ext{E:ER α}{S:Nat->Prop}{w w':World}{e:Value}{x:α}(h:E.R S w e x)(hx:Ext w w'):E.R S w' e x:=E.ext h hx
theorem ER.R.upd{E:ER α}{S:Nat->Prop}{w w':World}{e:Value}{x:α}{b:Nat}(h:E.R S w e x)(hu:Upd w w' b)(hb:¬ S b):E.R S w' e x:=E.upd h hu hb
theorem ER.R.par{E:ER α}{S:Nat->Prop}{w:World}{v:Value}{x:α}(h:E.R S w v x)(C:Nat):E.R (Sx S w.heap.size C) w v x:=E.par h C
theorem ER.R.out{E:ER α}{S:Nat->Prop}{w:World}{v:Value}{x:α}(h:E.R (Sx S B C) w v x):E.R S w v x:=E.out h
theorem isI{k:IntKind}{a b:Int}{w:World}(h:a=b):Is (.int k b) (tup [.int k a]) w:=by subst h;rfl
theorem isB{a b:Bool}{w:World}(h:a=b):Is (.bool b) (tup [.bool a]) w:=by subst h;rfl
theorem wI{n:Int}(h : -9223372036854775808<=n/\n<=9223372036854775807):IntKind.i64.wrap n=n:=IntWalk.i64_in n h
theorem wU{n:Int}(h:0<=n/\n<=18446744073709551615):IntKind.u64.wrap n=n:=IntWalk.u64_in n h
theorem w32{n:Int}(h:0<=n/\n<=4294967295):IntKind.u32.wrap n=n:=IntWalk.u32_in n h
theorem Bn3{σ:Env}{t:Nat}{v:Value}:look σ t=some v->(t,v)∈σ:=by
 induction σ with
 | nil=>intro h;simp[look] at h
 | cons p σ ih =>
  obtain⟨k,u⟩:=p;intro h;simp only[look] at h
  cases hb:Nat.beq k t with
  | true=>rw[hb] at h;cases h;rw[bH hb];exact cR ..
  | false=>rw[hb] at h;exact cG _ (ih h)
inductive Bx' where
 | mk (σ:Env)
def BA1 (σ:Env):List Nat->Env->Bx'
 | [],acc=>.mk acc
 | t::ks,acc=>match look σ t with
  | some v=>BA1 σ ks ((t,v)::acc)
  | none=>BA1 σ ks acc
theorem Af9 {σ σ1:Env}:∀ (ks:List Nat) (acc:Env),BA1 σ ks acc=.mk σ1->(∀ p∈acc,look σ p.1=some p.2)->∀ p∈σ1,look σ p.1=some p.2
 | [],acc,h,ha=>by cases h;exact ha
 | t::ks,acc,h,ha=>by
  unfold BA1 at h
  cases hl:look σ t with
  | none=>rw[hl] at h;exact Af9 ks acc h ha
  | some v =>
   rw[hl] at h
   refine Af9 ks _ h λp hp=>?_
   rcases List.mem_cons.1 hp with rfl | hp
   ·exact hl
   ·exact ha p hp
def keysR:Env->List Nat->List Nat
 | [],l=>l
 | (t,_)::r,l=>keysR r (t::l)
theorem lkA{σ τ:Env}(h:BA1 σ (keysR τ []) []=.mk τ):∀ t v,look τ t=some v->look σ t=some v:=λt v hl=>Af9 _ [] h (λp hp=>by cases hp) _ (Bn3 hl)
theorem AX5{σ:Env}:∀ t v,look [] t=some v->look σ t=some v:=λt v h=>by simp[look] at h
theorem B7{σ σ':Env}{k:Nat}{u:Value}(h1:look σ k=some u)(h2:∀ t v,look σ' t=some v->look σ t=some v):∀ t v,look ((k,u)::σ') t=some v->look σ t=some v:=by
 intro t v h;by_cases e:k=t
 ·subst e;simp[look] at h;rw[<-h];exact h1
 ·simp only[look,AK5 e,cond_false] at h;exact h2 t v h
theorem BW9{P:Program}{w:World}{op:BinOp}{t:TypeId}{a a':Option Addr}{n c n' c':Nat}(x y:Operand):(eqGuard op t x y (.slice a n c) (.slice a' n' c')).run P w=.ok () w:=by
 unfold eqGuard
 cases op<;>simp
section
variable {P:Program} {ro:Option Nat} {N:Nat} {ds:List Deferred} {ops:Array Oper} {K:Env->World->Prop} {rest:List Oper} {σ:Env} {w:World} {d:Tmp} {ty:TypeId} {pos:String} {af:Array Edge}
theorem WL.eqNil {xt yt e:TypeId} {x y:Operand} {a:Option Addr} {n c:Nat} (ht:P.underlying xt=some (.slice e)) (hd:Nat.blt d N=true) (hx:ev σ x=some (.slice a n c)) (hy:ev σ y=some (.slice none 0 0))
  (k:WL P ro N ds ops K rest ((d,.bool a.isNone)::σ) w):WL P ro N ds ops K (⟨some d,.binOp .eql xt x y yt,ty,pos,af,none⟩::rest) σ w :=
 WL.vl O hd (AA8 hx hy BW9 (Lib.run_eql_slice_nil w xt e a n c 0 0 ht)) k
end
theorem RL.ofOwn{E:ER α}{hsz:0<E.sz}{S:Nat->Prop}{w:World}{base:Nat}{t:TypeId}{v:Value}{n:Nat}{l:List α}(h:w.ownsRow base t E.sz v n (cellsOf es))(hn:n=l.length)(he:Els E S w es l)(hS:∀ k,base<=k->S k):(RL E hsz).R S w v l:=by
 subst hn;rcases h.2 with ⟨rfl,h0⟩ | ⟨g,cap,cur,rfl,hbg,hg,hnc,hcm,hcs,htake⟩
 ·have:l=[]:=List.length_eq_zero_iff.1 h0;subst this;exact RL.nil
 ·refine RL.ofBlk (b:=g) (t:=t) (cs:=cur) (es:=es) hg (hS g hbg) he (λj u hu=>?_) hnc (by simp only[maxLen] at hcm;omega);rw[<-htake,cP] at hu;split at hu
  ·simpa using hu
  ·cases hu
structure ZV where
 neg:Bool
 w:List Nat
structure QV where
 num:ZV
 den:ZV
abbrev eW:ER (List Nat):=RL AQ8
def eZ:ER ZV where
 sz:=2
 isA:=true
 R:=λS w v z=>∃ s,v=.agg #[.bool z.neg,s]/\eW.R S w s z.w
 csz:=by rintro S w e x ⟨s,rfl,_⟩;rfl
 one:=by
  rintro S w e x ⟨s,rfl,h⟩ u hu
  have hs:=eW.shp h
  simp[Value.cells] at hu
  rcases hu with rfl | rfl
  ·rfl
  ·exact hs
 shp:=by rintro S w e x ⟨s,rfl,_⟩;rfl
 keep:=λhk ⟨s,h1,h2⟩=>⟨s,h1,eW.keep hk h2⟩
 mono:=λhk ⟨s,h1,h2⟩=>⟨s,h1,eW.mono hk h2⟩
def eQ:ER QV where
 sz:=4
 isA:=true
 R:=λS w v q=>∃ s t,v=.agg #[.bool q.num.neg,s,.bool q.den.neg,t]/\eW.R S w s q.num.w/\eW.R S w t q.den.w
 csz:=by rintro S w e x ⟨s,t,rfl,_⟩;rfl
 one:=by
  rintro S w e x ⟨s,t,rfl,h1,h2⟩ u hu
  have hs:=eW.shp h1
  have ht:=eW.shp h2
  simp[Value.cells] at hu
  rcases hu with rfl | rfl | rfl | rfl
  ·rfl
  ·exact hs
  ·rfl
  ·exact ht
 shp:=by rintro S w e x ⟨s,t,rfl,_⟩;rfl
 keep:=λhk ⟨s,t,h1,h2,h3⟩=>⟨s,t,h1,eW.keep hk h2,eW.keep hk h3⟩
 mono:=λhk ⟨s,t,h1,h2,h3⟩=>⟨s,t,h1,eW.mono hk h2,eW.mono hk h3⟩
abbrev eV:ER (List QV):=RL eQ
abbrev eM:ER (List (List QV)):=RL eV
theorem Af0{S:Nat->Prop}{w:World}{v:Value}{l:List Nat}(h:eW.R S w v l):l.length<=9223372036854775807:=by obtain⟨_,_,_,_,h⟩:=RL.len h;exact h
theorem K7{S:Nat->Prop}{w:World}{v:Value}{l:List Nat}(h:eW.R S w v l):∀ x∈l,x<4294967296:=by
 intro x hx;obtain⟨es,he,_⟩:=h;obtain⟨i,hi⟩:=List.mem_iff_getElem?.1 hx;have hlt:i<l.length:=by
  rcases aB i l.length with h | h
  ·exact h
  ·rw[aH h] at hi;cases hi
 exact (he.2 i _ x (aE (by rw[he.1];exact hlt)) hi).2
end Go.Proofs.YtpgkacdihhjknaaGreat
