/-
  vec: pairs vec: combine, Add, AddScaled vec: Add, AddScaled vec: Dot, Compare, Equal vec: Compare, Equal vec: Resize, Unit, FromInts
-/
import Derived.Test.YtgghedhmjhaieaaGreatG5
import Derived.Test.YtgghedhmjhaieaaGreatG2
set_option linter.unusedVariables false
namespace Go.Proofs.YtgghedhmjhaieaaGreat
open Go Go.Kx Go.RowKit

theorem E_vec_pairs : Ent Tryz.prog 81 := ent_of Tryz.func81 (by kernel_rfl) rfl
theorem vec_pairs_c {w : World} {va vb : Value} {n n' c c' : Nat} {a a' : Option Addr} (ha : va = .slice a n c) (hb : vb = .slice a' n' c') : CR Tryz.prog 81 #[va, vb] w (fun v w' => ∃ b1 b2, v = .func (.func 99) #[] #[.pointer (some ⟨b1, 0, none⟩), .pointer (some ⟨b2, 0, none⟩)] ∧
    Blk w' b1 23 #[va] ∧ Blk w' b2 23 #[vb] ∧ w.heap.size ≤ b1 ∧ w.heap.size ≤ b2) := by
  subst ha; subst hb
  refine enter Tryz.func81 rfl Tryz.ntmps81 rfl ?_
  refine .seq (.region ?_)
  refine .box rfl rfl fun w1 b1 n1 => ?_
  obtain ⟨e1, k1, hb1, hs1⟩ := n1
  refine .box rfl rfl fun w2 b2 n2 => .asg rfl rfl (.nil ?_)
  obtain ⟨e2, k2, hb2, hs2⟩ := n2
  refine .seq (.region ?_)
  refine .mkf [] [_, _] rfl rfl rfl rfl (.asg rfl rfl (.nil (.ret ?_)))
  exact .plain [_] Tryz.results81 ⟨rfl, trivial⟩ ⟨e1.trans e2, b1, b2, rfl, k1.ext e2, k2, by omega, by have := e1.size; omega⟩

theorem getD_get' {α : Type} {l : List α} {k : Nat} {z : α} (h : k < l.length) : l[k]? = some (l.getD k z) := by
  rw [List.getD_eq_getElem?_getD, List.getElem?_eq_getElem h]; rfl
theorem getD_out {α : Type} {l : List α} {k : Nat} {z : α} (h : l.length ≤ k) : l.getD k z = z := by
  rw [List.getD_eq_getElem?_getD, List.getElem?_eq_none h]; rfl

theorem E_vpairs1 : Ent Tryz.prog 99 := ent_of Tryz.func99 (by kernel_rfl) rfl
theorem vpairs1_c {S : Nat → Prop} {a b : List QV} {esa esb : List Value} {va vb : Value} {b1 b2 : Nat} (hla : a.length ≤ 9223372036854775806) (hlb : b.length ≤ 9223372036854775806) : Iter Tryz.prog 99 #[.pointer (some ⟨b1, 0, none⟩), .pointer (some ⟨b2, 0, none⟩)] (max a.length b.length)
    (fun k => [esa.getD k zq, esb.getD k zq]) (fun W => Blk W b1 23 #[va] ∧ Blk W b2 23 #[vb] ∧ EsR eQ S W va esa a ∧ EsR eQ S W vb esb b) := by
  intro l J X stJ stX hF hy W hJ
  have hF0 := hF 0 W hJ
  refine enterG Tryz.func99 rfl Tryz.ntmps99 rfl ?_
  refine .seq (.region (.ld ty_V rfl rfl hF0.1 rfl (.lenR un_V rfl rfl (hF0.2.2.1.toR (hsz := by decide)) (.ld ty_V rfl rfl hF0.2.1 rfl (.lenR un_V rfl rfl (hF0.2.2.2.toR (hsz := by decide)) (.max_ rfl rfl rfl (.mv rfl rfl (.nil ?_))))))))
  refine .block (.loop (α := Nat) (fun k => [(12, .int .i64 (k : Nat)), (11, .int .i64 ((max a.length b.length : Nat) : Int)), (0, .func (.yield l) #[] #[]), (1, .pointer (some ⟨b1, 0, none⟩)), (2, .pointer (some ⟨b2, 0, none⟩))]) (fun k W => J k W ∧ k ≤ max a.length b.length) (fun k => max a.length b.length - k) 0 ?_ ?_ ?_)
  · refine look_cons rfl (look_cons ?_ (look_cons rfl (look_cons rfl (look_cons rfl look_nil))))
    show some (Value.int .i64 (max (a.length : Int) (b.length : Int))) = _
    rw [show (max (a.length : Int) (b.length : Int)) = ((max a.length b.length : Nat) : Int) by omega]
  · exact ⟨hJ, Nat.zero_le _⟩
  · rintro k W ⟨hJ, hk⟩
    have hF := hF k W hJ
    obtain ⟨hB1, hB2, hA, hB⟩ := hF
    by_cases hlt : k < max a.length b.length
    · refine .seq (.region (.lssT rfl rfl rfl (by omega) (.nil (.seq (.condT rfl (.skip ?_))))))
      refine .seq (.block (.seq (.region (.mv rfl rfl (.asg rfl rfl (.nil (.seq (.region (.alloc rfl zero_Q fun w1 c5 n1 => .alloc rfl zero_Q fun w2 c6 n2 => .nil ?_)))))))))
      obtain ⟨e1, k5, hc5, hs1⟩ := n1
      obtain ⟨e2, k6, hc6, hs2⟩ := n2
      have x2 := e1.trans e2
      have k5 := k5.ext e2
      have hxa := ER.lt eQ (hA.get zq_R k)
      have hxb := ER.lt eQ (hB.get zq_R k)
      have hva := shpA rfl hxa
      have hvb := shpA rfl hxb
      refine .mid (α := Unit) (fun _ => [(5, .pointer (some ⟨c5, 0, none⟩)), (6, .pointer (some ⟨c6, 0, none⟩)), (4, .int .i64 (k : Nat)), (12, .int .i64 (k : Nat)), (11, .int .i64 ((max a.length b.length : Nat) : Int)), (0, .func (.yield l) #[] #[]), (1, .pointer (some ⟨b1, 0, none⟩)), (2, .pointer (some ⟨b2, 0, none⟩))])
        (fun _ W' => Ext W W' ∧ Blk W' c5 28 (esa.getD k zq).cells ∧ Blk W' c6 28 zq.cells) ?_ ?_
      · refine .seq (.region (.mv rfl rfl (.ld ty_V rfl rfl (hB1.ext x2) rfl (.lenR un_V rfl rfl ((hA.ext x2).toR (hsz := by decide)) ?_))))
        by_cases hlt : k < a.length
        · refine .lssT rfl rfl rfl (by omega) (.nil (.condT rfl (.region (.ld ty_V rfl rfl (hB1.ext x2) rfl (.mv rfl rfl ?_)))))
          refine .ixX un_V ty_Q rfl rfl (hA.ext x2) rfl (getD_get' (z := zq) (by rw [hA.1.1]; exact hlt)) fun p hp => .ldX (E := eQ) ty_Q rfl rfl hp (hxa.ext x2) ?_
          refine .storeA (E := eQ) ty_Q rfl rfl k5 rfl rfl (hxa.ext x2) (fun h => by have := h.2; omega) fun w3 k3 u3 h3 => .nil ⟨rfl, (), ?_, u3.below x2 (by omega), k3, k6.upd u3 (by omega)⟩
          exact look_cons rfl (look_cons rfl (look_cons rfl (look_cons rfl (look_cons rfl (look_cons rfl (look_cons rfl (look_cons rfl look_nil)))))))
        · refine .lssF rfl rfl rfl (by omega) (.nil (.condF rfl (.skip ⟨rfl, (), ?_, x2, ?_, k6⟩)))
          · exact look_cons rfl (look_cons rfl (look_cons rfl (look_cons rfl (look_cons rfl (look_cons rfl (look_cons rfl (look_cons rfl look_nil)))))))
          · rw [getD_out (by rw [hA.1.1]; omega)]; exact k5
      · rintro _ W' ⟨x3, k5, k6⟩
        refine .mid (α := Unit) (fun _ => [(5, .pointer (some ⟨c5, 0, none⟩)), (6, .pointer (some ⟨c6, 0, none⟩)), (12, .int .i64 (k : Nat)), (11, .int .i64 ((max a.length b.length : Nat) : Int)), (0, .func (.yield l) #[] #[]), (1, .pointer (some ⟨b1, 0, none⟩)), (2, .pointer (some ⟨b2, 0, none⟩))])
          (fun _ W' => Ext W W' ∧ Blk W' c5 28 (esa.getD k zq).cells ∧ Blk W' c6 28 (esb.getD k zq).cells) ?_ ?_
        · refine .seq (.region (.mv rfl rfl (.ld ty_V rfl rfl (hB2.ext x3) rfl (.lenR un_V rfl rfl ((hB.ext x3).toR (hsz := by decide)) ?_))))
          by_cases hlt : k < b.length
          · refine .lssT rfl rfl rfl (by omega) (.nil (.condT rfl (.region (.ld ty_V rfl rfl (hB2.ext x3) rfl (.mv rfl rfl ?_)))))
            refine .ixX un_V ty_Q rfl rfl (hB.ext x3) rfl (getD_get' (z := zq) (by rw [hB.1.1]; exact hlt)) fun p hp => .ldX (E := eQ) ty_Q rfl rfl hp (hxb.ext x3) ?_
            refine .storeA (E := eQ) ty_Q rfl rfl k6 rfl rfl (hxb.ext x3) (fun h => by have := h.2; omega) fun w3 k3 u3 h3 => .nil ⟨rfl, (), ?_, u3.below x3 (by omega), k5.upd u3 (by omega), k3⟩
            exact look_cons rfl (look_cons rfl (look_cons rfl (look_cons rfl (look_cons rfl (look_cons rfl (look_cons rfl look_nil))))))
          · refine .lssF rfl rfl rfl (by omega) (.nil (.condF rfl (.skip ⟨rfl, (), ?_, x3, k5, ?_⟩)))
            · exact look_cons rfl (look_cons rfl (look_cons rfl (look_cons rfl (look_cons rfl (look_cons rfl (look_cons rfl look_nil))))))
            · rw [getD_out (by rw [hB.1.1]; omega)]; exact k6
        · rintro _ W'' ⟨x4, k5, k6⟩
          refine .seq (.region (.mv rfl rfl (.ldA ty_Q rfl rfl k5 (eQ.csz hxa) (.ldA ty_Q rfl rfl k6 (eQ.csz hxb) ?_))))
          rw [← hva, ← hvb]
          refine .yld (l := l) [esa.getD k zq, esb.getD k zq] (R := fun v w' => (v = .bool true ∧ J (k + 1) w') ∨ (v = .bool false ∧ X w')) rfl rfl rfl ?_ ?_
          · refine YieldAt.mono (hy k _ hlt (stJ _ _ _ hJ x4)) ?_
            rintro e W' (⟨rfl, h⟩ | ⟨rfl, h⟩)
            · exact ⟨_, rfl, .inl ⟨rfl, h⟩⟩
            · exact ⟨_, rfl, .inr ⟨rfl, h⟩⟩
          · rintro v w' (⟨rfl, h⟩ | ⟨rfl, h⟩)
            · refine .not_ rfl rfl (.nil (.condF rfl (.skip (.region (.add rfl rfl rfl (.mv rfl rfl (.nil ?_)))))))
              rw [wI (by omega)]
              exact ⟨rfl, k + 1, look_cons rfl (look_cons rfl (look_cons rfl (look_cons rfl (look_cons rfl look_nil)))), ⟨h, by omega⟩, by omega⟩
            · refine .not_ rfl rfl (.nil (.condT rfl (.ret ?_)))
              exact .plain [] Tryz.results99 trivial (.inr h)
    · refine .seq (.region (.lssF rfl rfl rfl (by omega) (.nil (.seq (.condF rfl (.exit ?_))))))
      refine .plain [] Tryz.results99 trivial ?_
      have : k = max a.length b.length := by omega
      subst this; exact .inl hJ
end Go.Proofs.YtgghedhmjhaieaaGreat

namespace Go.Proofs.YtgghedhmjhaieaaGreat
open Go Go.Kx Go.RowKit

theorem ty_F2 : tyOf Tryz.prog 70 = some (false, 1) := by kernel_rfl
theorem bsl_V1 {x y z u : Value} : bslOf Tryz.prog 23 1 [(0, .agg #[x, y, z, u])] = some (28, #[x, y, z, u]) := by kernel_rfl

/-- elements on their way into a row -/
structure CmbJ (w0 : World) (S : Nat → Prop) (b5 b7 p1 p2 : Nat) (fv va vb : Value) (L : Nat → List QV) (k : Nat) (W : World) : Prop where
  low : Below w0.heap.size w0 W
  f : Blk W b5 70 #[fv]
  k1 : Blk W p1 23 #[va]
  k2 : Blk W p2 23 #[vb]
  acc : ∃ v, Blk W b7 23 #[v] ∧ OwnL eQ 28 w0.heap.size (fun k => S k ∧ k ≠ b7) W v (L k)
theorem CmbJ.sft {w0 : World} {S : Nat → Prop} {b5 b7 p1 p2 : Nat} {fv va vb : Value} {L : Nat → List QV} {k D : Nat} {W W' : World} (h : CmbJ w0 S b5 b7 p1 p2 fv va vb L k W) (hs : Sft D W W') (hD : w0.heap.size ≤ D) : CmbJ w0 S b5 b7 p1 p2 fv va vb L k W' := by
  obtain ⟨v, h1, h2⟩ := h.acc
  exact ⟨h.low.trans (hs.below.mono hD), hs.cells.blk trivial h.f, hs.cells.blk trivial h.k1, hs.cells.blk trivial h.k2, v, hs.cells.blk trivial h1, h2.kp hs.cells⟩

theorem E_vec_combine : Ent Tryz.prog 76 := ent_of Tryz.func76 (by kernel_rfl) rfl
theorem vec_combine_c {S : Nat → Prop} {w : World} {va vb : Value} {a b : List QV} {f : FuncId} {cap : Array Value} {g : Nat → QV} (up : Up S w) (ha : eV.R S w va a) (hb : eV.R S w vb b) (hla : a.length ≤ 1000000000) (hlb : b.length ≤ 1000000000) (hE : Ent Tryz.prog f)
    (hf : ∀ (W : World) (T : Nat → Prop) (i : Nat) (x y : Value), Below w.heap.size w W → (∀ k, S k → k < w.heap.size → T k) → Up T W → i < max a.length b.length → eQ.R T W x (a.getD i q0) → eQ.R T W y (b.getD i q0) → CR Tryz.prog f ([x, y].toArray ++ cap) W (eQ.at T (g i))) :
    CR Tryz.prog 76 #[va, vb, .func (.func f) #[] cap] w (eV.at S ((List.range (max a.length b.length)).map g)) := by
  obtain ⟨aa, ca, hva, _⟩ := RL.len ha
  obtain ⟨ab, cb, hvb, _⟩ := RL.len hb
  obtain ⟨esa, hA⟩ := RL.toEs ha
  obtain ⟨esb, hB⟩ := RL.toEs hb
  have hA0 := hA.mono (S' := fun k => S k ∧ k < w.heap.size) (by decide) (fun k hk hs => ⟨hs, hk⟩)
  have hB0 := hB.mono (S' := fun k => S k ∧ k < w.heap.size) (by decide) (fun k hk hs => ⟨hs, hk⟩)
  have hAB : ∀ {W : World}, Below w.heap.size w W → EsR eQ (fun k => S k ∧ k < w.heap.size) W va esa a ∧ EsR eQ (fun k => S k ∧ k < w.heap.size) W vb esb b := fun hL => ⟨hA0.keep (fun k c t f hk h => (hL.block k hk.2).trans h), hB0.keep (fun k c t f hk h => (hL.block k hk.2).trans h)⟩
  generalize hfv : Value.func (.func f) #[] cap = fv
  have hfv1 : fv.cells = #[fv] := by rw [← hfv]; rfl
  have hfv2 : one1 fv = true := by rw [← hfv]; rfl
  refine enter Tryz.func76 rfl Tryz.ntmps76 rfl ?_
  refine .seq (.region (.box rfl rfl fun w1 b5 n1 => .asg rfl rfl (.nil ?_)))
  obtain ⟨e1, k5, hb5, hs1⟩ := n1
  rw [hfv1] at k5
  refine .seq (.region (.mv rfl rfl (.lenR un_V rfl rfl (ha.ext e1) (.mv rfl rfl (.lenR un_V rfl rfl (hb.ext e1) (.max_ rfl rfl rfl ?_))))))
  rw [show (max (a.length : Int) (b.length : Int)) = ((max a.length b.length : Nat) : Int) by omega]
  refine .make_ 0 _ un_V info_Q rfl (by decide) rfl rfl rfl (Nat.zero_le _) (by omega) (by omega) fun w2 b2 n2 => ?_
  have o2 : ∀ {X : Nat → Prop}, OwnL eQ 28 w.heap.size X w2 (.slice (some ⟨b2, 0, none⟩) 0 (max a.length b.length)) [] := fun {X} => OwnL.made (by rfl) n2 (by omega) (by omega)
  obtain ⟨e2, k2, hb2, hs2⟩ := n2
  refine .alloc rfl zero_V fun w3 b7 n3 => ?_
  obtain ⟨e3, k7, hb7, hs3⟩ := n3
  refine .store ty_V rfl rfl k7 rfl (by simp [Value.cells]) (by simp [one1, Value.cells]) fun w4 k7' u4 => .nil ?_
  have x3 := (e1.trans e2).trans e3
  have x4 : Ext w w4 := u4.below x3 (by omega)
  have k5 := ((k5.ext e2).ext e3).upd u4 (show b5 ≠ b7 by omega)
  have o4 := ((o2 (X := fun k => S k ∧ k ≠ b7)).ext e3).upd u4 k7 (by decide) (fun h => h.2 rfl)
  refine .seq (.seq (.region (.mv rfl rfl (.mv rfl rfl ?_))))
  refine .call _ rfl E_vec_pairs rfl (vec_pairs_c hva hvb) fun v5 w5 e5 h5 => .nil ?_
  obtain ⟨p1, p2, rfl, kp1, kp2, hp1, hp2⟩ := h5
  have x5 := x4.trans e5
  have hs4 : w4.heap.size = w3.heap.size := u4.size
  have hs5 := e5.size
  refine .block (.rangeA (vpairs1_c (S := fun k => S k ∧ k < w.heap.size) (a := a) (b := b) (esa := esa) (esb := esb) (va := va) (vb := vb) (by omega) (by omega)) rfl E_vpairs1 (fun k => rfl) (by decide)
    (CmbJ w S b5 b7 p1 p2 fv va vb fun k => (List.range k).map g) (fun _ _ => False) (fun k W W' h hs => h.sft hs x5.size) (fun _ _ _ h _ => h.elim) (fun k W h => ⟨h.k1, h.k2, hAB h.low⟩) ?_ ?_ ?_ (fun _ _ h => h.elim))
  · exact ⟨x5, k5.ext e5, kp1, kp2, _, k7'.ext e5, o4.ext e5⟩
  · intro l k W hk hJ hsz
    obtain ⟨hA1, hB1⟩ := hAB hJ.low
    have hxa := hA1.get zq_R k
    have hxb := hB1.get zq_R k
    have hva' := shpA rfl hxa
    have hvb' := shpA rfl hxb
    have hlw := hJ.low.size
    obtain ⟨hlow, hf5, hp15, hp25, v, h7, ho⟩ := hJ
    have hown : ∀ k, v.ownBlock = some k → k < W.heap.size := by
      obtain ⟨es, ho1, ho2⟩ := ho
      exact fun k hk => (ho1.lt k hk).2
    refine .seq (.region (.alloc rfl zero_Q fun W1 c8 n8 => ?_))
    obtain ⟨e8, k8, hc8, hs8⟩ := n8
    refine .storeA (E := eQ) ty_Q rfl rfl k8 rfl rfl (hxa.ext e8) (fun h => by have := h.2; omega) fun W2 k8 u8 _ => .nil ?_
    have x8 : Ext W W2 := u8.below e8 (by omega)
    refine .region (.alloc rfl zero_Q fun W3 c9 n9 => ?_)
    obtain ⟨e9, k9, hc9, hs9⟩ := n9
    have hs8' := u8.size
    refine .storeA (E := eQ) ty_Q rfl rfl k9 rfl rfl ((hxb.ext x8).ext e9) (fun h => by have := h.2; omega) fun W4 k9 u9 _ => .nil ?_
    have x9 : Ext W W4 := u9.below (x8.trans e9) (by omega)
    have k8 := (k8.ext e9).upd u9 (show c8 ≠ c9 by omega)
    refine ⟨rfl, x9, fun W5 hsf hsz5 => ?_⟩
    have k8 := hsf.cells.blk trivial k8
    have k9 := hsf.cells.blk trivial k9
    clear hxa hxb hA1 hB1
    have hlow : Below w.heap.size w W5 := (hlow.trans (x9.mono hlw)).trans (hsf.below.mono x5.size)
    have hf5 := hsf.cells.blk trivial (hf5.ext x9)
    have hp15 := hsf.cells.blk trivial (hp15.ext x9)
    have hp25 := hsf.cells.blk trivial (hp25.ext x9)
    have h7 := hsf.cells.blk trivial (h7.ext x9)
    have ho := (ho.ext x9).kp hsf.cells
    obtain ⟨hA1, hB1⟩ := hAB hlow
    have hxa := hA1.get zq_R k
    have hxb := hB1.get zq_R k
    have hlw5 := hlow.size
    have hb7lt := h7.lt
    obtain ⟨ao, co, hvo⟩ := ho.slice
    refine .block (.held follows true (fun W' => Blk W' b7 23 #[v] ∧ Blk W' b5 70 #[fv] ∧ Blk W' c8 28 (esa.getD k zq).cells ∧ Blk W' c9 28 (esb.getD k zq).cells)
      [some v, some fv, some (esa.getD k zq), some (esb.getD k zq), none, none, none, none] (by kernel_rfl)
      ⟨fun _ h => v_ld ty_V rfl h.1 rfl, fun _ h => v_ld ty_F2 rfl h.2.1 rfl, fun _ h => (v_ldA ty_Q rfl h.2.2.1 (eQ.csz hxa)).eq hva'.symm, fun _ h => (v_ldA ty_Q rfl h.2.2.2 (eQ.csz hxb)).eq hvb'.symm, trivial⟩ ?_)
    intro W6 e6 hh6
    have hlow6 : Below w.heap.size w W6 := hlow.trans (e6.mono hlow.size)
    have h7 := h7.ext e6
    have hf5 := hf5.ext e6
    have hp15 := hp15.ext e6
    have hp25 := hp25.ext e6
    have k8 := k8.ext e6
    have k9 := k9.ext e6
    have ho := ho.ext e6
    have hxa := hxa.ext e6
    have hxb := hxb.ext e6
    have hs6 := e6.size
    obtain ⟨es, ho1, ho2⟩ := id ho
    have hT0 : ∀ k, S k → k < w.heap.size → (S k ∧ k ≠ b7) ∧ v.ownBlock ≠ some k := fun k hk hlt => ⟨⟨hk, by omega⟩, fun h => by have := (ho1.lt k h).1; omega⟩
    have hcall := hf W6 (fun k => (S k ∧ k ≠ b7) ∧ v.ownBlock ≠ some k) k (esa.getD k zq) (esb.getD k zq) hlow6 hT0 (fun k hk => ⟨⟨up k (by omega), by omega⟩, fun h => by have := (ho1.lt k h).2; omega⟩) hk
      (eQ.mono (fun k _ hk => hT0 k hk.1 hk.2) hxa) (eQ.mono (fun k _ hk => hT0 k hk.1 hk.2) hxb)
    subst hfv
    refine .gv ⟨h7, hf5, k8, k9⟩ rfl (g_callv [_, _] rfl hE rfl hcall) ?_
    rintro vr W7 ⟨e7, hr⟩
    have hr' := hr
    obtain ⟨s, t, rfl, _, _⟩ := hr'
    refine .gv ⟨h7.ext e7, hf5.ext e7, k8.ext e7, k9.ext e7⟩ rfl (g_bsl _ rfl bsl_V1) ?_
    rintro _ W8 ⟨b8, rfl, n8⟩
    obtain ⟨e8, kb8, hb8, hs8⟩ := n8
    have e78 := e7.trans e8
    have hlow8 : Below w.heap.size w W8 := hlow6.trans (e78.mono hlow6.size)
    have ho8 := ho.ext e78
    refine .gv ⟨h7.ext e78, hf5.ext e78, k8.ext e78, k9.ext e78⟩ rfl (g_appL (base := w.heap.size) (by decide) un_V info_Q rfl rfl rfl ho8 kb8 (hr.ext e8) (by simp; omega) (by decide) hlow8.size) ?_
    rintro v9 W9 ⟨ho9, hg9⟩
    have h79 := ho8.gblk hg9 (h7.ext e78) (by decide)
    have hf9 := ho8.gblk hg9 (hf5.ext e78) (by decide)
    have hp19 := ho8.gblk hg9 (hp15.ext e78) (by decide)
    have hp29 := ho8.gblk hg9 (hp25.ext e78) (by decide)
    have hlow9 := ho8.below hg9 hlow8 hlow8.size
    have oth9 : Oth W5 W9 := ((Oth.ext e6).trans (Oth.ext e78)).trans (ho8.oth hg9)
    obtain ⟨a9, c9', hv9⟩ := ho9.slice
    have hg8 : Blk W9 c8 28 (esa.getD k zq).cells := (hg9.block c8 (k8.ext e78).lt (fun e => by have := hown _ e.symm; omega)).trans (k8.ext e78)
    have hg9' : Blk W9 c9 28 (esb.getD k zq).cells := (hg9.block c9 (k9.ext e78).lt (fun e => by have := hown _ e.symm; omega)).trans (k9.ext e78)
    refine .gv ⟨h79, hf9, hg8, hg9'⟩ rfl (g_store ty_V rfl rfl h79 (by rw [hv9]; rfl) (by simp) (by rw [hv9]; simp [one1, Value.cells])) ?_
    rintro _ W10 ⟨k10, u10⟩
    refine .nil (.inl rfl) ?_
    have k10 : Blk W10 b7 23 #[v9] := by rw [hv9] at k10 ⊢; exact k10
    refine ⟨oth9.trans (Oth.upd u10 h79), u10.below hlow9 (by omega), hf9.upd u10 (by omega), hp19.upd u10 (by omega), hp29.upd u10 (by omega), v9, k10, ?_⟩
    have := ho9.upd u10 h79 (by decide) (fun h => h.2 rfl)
    rw [List.range_succ, List.map_append]
    exact this
  · intro W hJ hD
    obtain ⟨hlow, hf5, hp15, hp25, v, h7, ho⟩ := hJ
    refine .seq (.region (.ld ty_V rfl rfl h7 rfl (.asg rfl rfl (.nil (.ret ?_)))))
    refine .mark [_] Tryz.results76 hD ⟨rfl, trivial⟩ ⟨below_put hlow x5.size, (ho.kp (Kp.put hD rfl)).toR up (fun k hk => hk.1)⟩
end Go.Proofs.YtgghedhmjhaieaaGreat

namespace Go.Proofs.YtgghedhmjhaieaaGreat
open Go Go.Kx Go.RowKit

theorem E_vec_Add : Ent Tryz.prog 45 := ent_of Tryz.func45 (by kernel_rfl) rfl
theorem vec_Add_c {S : Nat → Prop} {w : World} {va vb : Value} {a b : List QV} {L : Nat} (up : Up S w) (ha : eV.R S w va a) (hb : eV.R S w vb b) (hla : a.length ≤ 1000000000) (hlb : b.length ≤ 1000000000) (hka : vk L a) (hkb : vk L b) (hL : 1 ≤ L) (hL2 : L ≤ 10000000000) :
    CR Tryz.prog 45 #[va, vb] w (eV.at S (tab (max a.length b.length) fun k => rv a k + rv b k)) := by
  refine enter Tryz.func45 rfl Tryz.ntmps45 rfl ?_
  refine .seq (.region (.asg rfl rfl (.nil (.seq (.region (.mv rfl rfl (.mv rfl rfl ?_)))))))
  refine .call _ rfl E_vec_combine rfl (vec_combine_c (g := fun k => qc (rv a k + rv b k)) up ha hb hla hlb E_frac_Add fun W T i x y hB hT hup hi hx hy => ?_) fun v1 w1 e1 h1 => .asg rfl rfl (.nil (.ret ?_))
  · exact frac_Add_c hup hx hy (hka.get hL i).1 (hkb.get hL i).1 hL (by omega)
  · exact .plain [_] Tryz.results45 ⟨rfl, trivial⟩ ⟨e1, h1⟩

theorem E_AddScaled1 : Ent Tryz.prog 83 := ent_of Tryz.func83 (by kernel_rfl) rfl
theorem AddScaled1_c {S : Nat → Prop} {w : World} {vq vx vy : Value} {q x y : QV} {b : Nat} {L : Nat} (up : Up S w) (hb : Blk w b 28 vq.cells) (hq : eQ.R S w vq q) (hx : eQ.R S w vx x) (hy : eQ.R S w vy y) (hkq : qk L q) (hkx : qk L x) (hky : qk L y) (hL : 1 ≤ L) (hL2 : L ≤ 10000000000) :
    CR Tryz.prog 83 #[vx, vy, .pointer (some ⟨b, 0, none⟩)] w (eQ.at S (qc (qval q * qval x + qval y))) := by
  have hvq := shpA rfl hq
  have hvx := shpA rfl hx
  have hvy := shpA rfl hy
  refine enter Tryz.func83 rfl Tryz.ntmps83 rfl ?_
  refine .seq (.region (.box rfl rfl fun w1 b3 n1 => .box rfl rfl fun w2 b4 n2 => .alloc rfl zero_Q fun w3 b5 n3 => .nil ?_))
  obtain ⟨e1, k3, hb3, hs1⟩ := n1
  obtain ⟨e2, k4, hb4, hs2⟩ := n2
  obtain ⟨e3, k5, hb5, hs3⟩ := n3
  have x3 := (e1.trans e2).trans e3
  have k3 := (k3.ext e2).ext e3
  have k4 := k4.ext e3
  have hb := hb.ext x3
  have hS5 : ¬ Sx S w.heap.size w3.heap.size b5 := Sx.no (by omega) (by omega)
  have up3 : Up (Sx S w.heap.size w3.heap.size) w3 := Sx.up up (Nat.le_refl _) x3.size
  have hq3 := (hq.par w3.heap.size).ext x3
  have hx3 := (hx.par w3.heap.size).ext x3
  have hy3 := (hy.par w3.heap.size).ext x3
  refine .seq (.held follows true (fun W => Blk W b 28 vq.cells ∧ Blk W b3 28 vx.cells ∧ Blk W b4 28 vy.cells)
    [some vq, some vx, none, some vy, none, none] (by kernel_rfl) ⟨fun _ h => (v_ldA ty_Q rfl h.1 (eQ.csz hq)).eq hvq.symm, fun _ h => (v_ldA ty_Q rfl h.2.1 (eQ.csz hx)).eq hvx.symm, fun _ h => (v_ldA ty_Q rfl h.2.2 (eQ.csz hy)).eq hvy.symm, trivial⟩ ?_)
  intro w4 e4 _
  refine .gv ⟨hb.ext e4, k3.ext e4, k4.ext e4⟩ rfl (g_call _ E_frac_Mul rfl (frac_Mul_c (up3.ext e4.size) (hq3.ext e4) (hx3.ext e4) hkq.1 hkx.1 hL (by omega))) ?_
  rintro v5 w5 ⟨e5, h5⟩
  have e45 := e4.trans e5
  have hkm : qk (L + L) (qc (qval q * qval x)) := qk_qc (hkq.2.mul hkx.2)
  refine .gv ⟨hb.ext e45, k3.ext e45, k4.ext e45⟩ rfl (g_call _ E_frac_Add rfl (frac_Add_c (up3.ext e45.size) h5 (hy3.ext e45) hkm.1 (hky.1.mono (by omega)) (by omega) (by omega))) ?_
  rintro v6 w6 ⟨e6, h6⟩
  rw [qval_qc] at h6
  have e46 := e45.trans e6
  have hc6 := eQ.csz h6
  refine .gv ⟨hb.ext e46, k3.ext e46, k4.ext e46⟩ rfl (g_store ty_Q rfl rfl (k5.ext e46) hc6 (Nat.le_refl _) (eQ.one h6)) ?_
  rintro _ w7 ⟨k7, u7⟩
  rw [wrt_all _ _ (by rw [Array.length_toList, hc6]; rfl)] at k7
  simp only [Array.toArray_toList] at k7
  refine .nil (.inl rfl) (.ret ?_)
  have h7 := h6.upd u7 hS5
  exact .cell Tryz.results83 rfl ty_Q rfl rfl k7 h7 ⟨u7.below (x3.trans e46) (by omega), h7.out⟩

theorem E_vec_AddScaled : Ent Tryz.prog 55 := ent_of Tryz.func55 (by kernel_rfl) rfl
theorem vec_AddScaled_c {S : Nat → Prop} {w : World} {vq va vb : Value} {q : QV} {a b : List QV} {L : Nat} (up : Up S w) (hq : eQ.R S w vq q) (ha : eV.R S w va a) (hb : eV.R S w vb b) (hla : a.length ≤ 1000000000) (hlb : b.length ≤ 1000000000) (hkq : qk L q) (hka : vk L a) (hkb : vk L b) (hL : 1 ≤ L) (hL2 : L ≤ 10000000000) :
    CR Tryz.prog 55 #[vq, va, vb] w (eV.at S (tab (max a.length b.length) fun k => qval q * rv a k + rv b k)) := by
  have hlq := ER.lt eQ hq
  refine enter Tryz.func55 rfl Tryz.ntmps55 rfl ?_
  refine .seq (.region (.box rfl rfl fun w1 b3 n1 => .asg rfl rfl (.nil ?_)))
  obtain ⟨e1, k3, hb3, hs1⟩ := n1
  refine .seq (.region (.mv rfl rfl (.mv rfl rfl (.mkf [] [_] rfl rfl rfl rfl ?_))))
  refine .call _ rfl E_vec_combine rfl (vec_combine_c (g := fun k => qc (qval q * rv a k + rv b k)) (up.ext e1.size) (ha.ext e1) (hb.ext e1) hla hlb E_AddScaled1 fun W T i x y hB hT hup hi hx hy => ?_) fun v1 w2 e2 h1 => .asg rfl rfl (.nil (.ret ?_))
  · refine AddScaled1_c hup ((hB.block b3 k3.lt).trans k3) ?_ hx hy hkq (hka.get hL i) (hkb.get hL i) hL hL2
    have hq1 : eQ.R (fun k => S k ∧ k < w.heap.size) W vq q := eQ.keep (fun k c t f hk h => ((e1.trans (hB.mono (Nat.le_refl _))).block k hk.2).trans h) hlq
    exact eQ.mono (fun k _ hk => hT k hk.1 (by have := e1.size; omega)) hq1
  · exact .plain [_] Tryz.results55 ⟨rfl, trivial⟩ ⟨e1.trans e2, h1⟩
end Go.Proofs.YtgghedhmjhaieaaGreat

namespace Go.Proofs.YtgghedhmjhaieaaGreat
open Go Go.Kx Go.RowKit

theorem ty_FD : tyOf Tryz.prog 81 = some (false, 1) := by kernel_rfl
theorem zero_FD : zeroOf Tryz.prog 81 = some .nilFunc := by kernel_rfl

theorem ob_cut {P : Program} {σ : Env} {w : World} {d : Option Tmp} {ty : TypeId} {pos : String} {af : Array Edge} {gd : Option (Nat × Bool)} {α : Type} {E : ER α} {hsz : 0 < E.sz} {S : Nat → Prop} {v : Value} {l : List α} {t e : TypeId} {x : Operand} {b : Bool} {lo hi : Option Operand} (L H : Nat) (ht : P.underlying t = some (.slice e)) (he : tyOf P e = some (b, E.sz)) (hx : ev σ x = some v) (h : (RL E hsz).R S w v l)
    (hlo : match lo with | none => L = 0 | some y => ∃ k, ev σ y = some (.int k (L : Int))) (hhi : match hi with | none => H = l.length | some y => ∃ k, ev σ y = some (.int k (H : Int))) (h1 : L ≤ H) (h2 : H ≤ l.length) :
    Gv P ⟨d, .slice t x lo hi none, ty, pos, af, gd⟩ σ w fun v' w' => Ext w w' ∧ Sp.ok (.inr ((RL E hsz).at S ((l.take H).drop L))) v' w' :=
  (g_cut lo hi L H ht he hx h hlo hhi h1 h2).mono fun v' w' ⟨e1, hp⟩ => by subst e1; exact ⟨Ext.refl _, fun w'' e => ER.ext _ hp e⟩

theorem E_Dot1 : Ent Tryz.prog 80 := ent_of Tryz.func80 (by kernel_rfl) rfl
theorem Dot1_c {S : Nat → Prop} {w : World} {vs vx vy : Value} {x y : QV} {r : Rat} {b : Nat} {L : Nat} (up : Up S w) (hSb : ¬ S b) (hb : Blk w b 28 vs.cells) (hs : eQ.R S w vs (qc r)) (hx : eQ.R S w vx x) (hy : eQ.R S w vy y) (hks : qk L (qc r)) (hkx : qk L x) (hky : qk L y) (hL : 1 ≤ L) (hL2 : L ≤ 10000000000) :
    Calls Tryz.prog 80 #[vx, vy, .pointer (some ⟨b, 0, none⟩)] w fun e w' => ∃ v, e = .returned v ∧ ∃ w1 vs', Ext w w1 ∧ Upd w1 w' b ∧ Blk w' b 28 vs'.cells ∧ eQ.R S w' vs' (qc (r + qval x * qval y)) := by
  have hvs := shpA rfl hs
  have hvx := shpA rfl hx
  have hvy := shpA rfl hy
  refine enterG Tryz.func80 rfl Tryz.ntmps80 rfl ?_
  refine .seq (.region (.box rfl rfl fun w1 b3 n1 => .box rfl rfl fun w2 b4 n2 => .nil ?_))
  obtain ⟨e1, k3, hb3, hs1⟩ := n1
  obtain ⟨e2, k4, hb4, hs2⟩ := n2
  have x2 := e1.trans e2
  have k3 := k3.ext e2
  have hbl := hb.lt
  refine .seq (.region (.ldA ty_Q rfl rfl k3 (eQ.csz hx) ?_))
  rw [← hvx]
  refine .call _ rfl E_frac_Sign rfl (frac_Sign_c (hx.ext x2)) fun v3 w3 e3 h3 => ?_
  subst h3
  have x3 := x2.trans e3
  have skip : ∀ {W : World}, Ext w W → qval x * qval y = 0 → ∃ w1 vs', Ext w w1 ∧ Upd w1 W b ∧ Blk W b 28 vs'.cells ∧ eQ.R S W vs' (qc (r + qval x * qval y)) := by
    intro W hW h0
    refine ⟨W, vs, hW, Upd.refl _ _, hb.ext hW, ?_⟩
    rw [h0, Rat.add_zero]; exact hs.ext hW
  by_cases h0 : qval x = 0
  · refine .neqF rfl rfl rfl (sgnR_zero.2 h0) (.mv rfl rfl (.gs rfl rfl rfl rfl rfl (.gs rfl rfl rfl rfl rfl (.gs rfl rfl rfl rfl rfl (.pick rfl rfl rfl (.nil (.condF rfl (.skip ?_))))))))
    exact .plain [] Tryz.results80 trivial (skip x3 (by rw [h0, Rat.zero_mul]))
  · refine .neqT rfl rfl rfl (fun h => h0 (sgnR_zero.1 h)) (.mv rfl rfl (.gr rfl rfl rfl rfl (.ldA ty_Q rfl rfl (k4.ext e3) (eQ.csz hy) ?_)))
    rw [← hvy]
    refine .gr rfl rfl rfl rfl (.call _ rfl E_frac_Sign rfl (frac_Sign_c (hy.ext x3)) fun v4 w4 e4 h4 => ?_)
    subst h4
    have x4 := x3.trans e4
    have e34 := e3.trans e4
    by_cases h1 : qval y = 0
    · refine .gr rfl rfl rfl rfl (.neqF rfl rfl rfl (sgnR_zero.2 h1) (.pick rfl rfl rfl (.nil (.condF rfl (.skip ?_)))))
      exact .plain [] Tryz.results80 trivial (skip x4 (by rw [h1, Rat.mul_zero]))
    · refine .gr rfl rfl rfl rfl (.neqT rfl rfl rfl (fun h => h1 (sgnR_zero.1 h)) (.pick rfl rfl rfl (.nil (.condT rfl ?_))))
      have k3 := k3.ext e34
      have k4 := k4.ext e34
      have hb := hb.ext x4
      have up4 := up.ext x4.size
      refine .held follows true (fun W => Blk W b 28 vs.cells ∧ Blk W b3 28 vx.cells ∧ Blk W b4 28 vy.cells)
        [some vs, some vx, some vy, none, none, none] (by kernel_rfl) ⟨fun _ h => (v_ldA ty_Q rfl h.1 (eQ.csz hs)).eq hvs.symm, fun _ h => (v_ldA ty_Q rfl h.2.1 (eQ.csz hx)).eq hvx.symm, fun _ h => (v_ldA ty_Q rfl h.2.2 (eQ.csz hy)).eq hvy.symm, trivial⟩ ?_
      intro w5 e5 _
      have x5 := x4.trans e5
      refine .gv ⟨hb.ext e5, k3.ext e5, k4.ext e5⟩ rfl (g_call _ E_frac_Mul rfl (frac_Mul_c (up4.ext e5.size) (hx.ext x5) (hy.ext x5) hkx.1 hky.1 hL (by omega))) ?_
      rintro v6 w6 ⟨e6, h6⟩
      have e56 := e5.trans e6
      have x6 := x5.trans e6
      have hkm : qk (L + L) (qc (qval x * qval y)) := qk_qc (hkx.2.mul hky.2)
      refine .gv ⟨hb.ext e56, k3.ext e56, k4.ext e56⟩ rfl (g_call _ E_frac_Add rfl (frac_Add_c (up4.ext e56.size) (hs.ext x6) h6 (hks.1.mono (by omega)) hkm.1 (by omega) (by omega))) ?_
      rintro v7 w7 ⟨e7, h7⟩
      rw [qval_qc, qval_qc] at h7
      have e57 := e56.trans e7
      have hc7 := eQ.csz h7
      refine .gv ⟨hb.ext e57, k3.ext e57, k4.ext e57⟩ rfl (g_store ty_Q rfl rfl (hb.ext e57) hc7 (by rw [eQ.csz hs]; exact Nat.le_refl _) (eQ.one h7)) ?_
      rintro _ w8 ⟨k8, u8⟩
      rw [wrt_all _ _ (by rw [Array.length_toList, hc7, eQ.csz hs])] at k8
      simp only [Array.toArray_toList] at k8
      refine .nil (.inl rfl) ?_
      exact .plain [] Tryz.results80 trivial ⟨w7, v7, x6.trans e7, u8, k8, h7.upd u8 hSb⟩

/-- a sum on its way -/
structure DotJ (w0 : World) (S : Nat → Prop) (b5 b6 p1 p2 : Nat) (va vb : Value) (f : Nat → Rat) (k : Nat) (W : World) : Prop where
  low : Below w0.heap.size w0 W
  fn : Blk W b6 81 #[.func (.func 80) #[] #[.pointer (some ⟨b5, 0, none⟩)]]
  k1 : Blk W p1 23 #[va]
  k2 : Blk W p2 23 #[vb]
  acc : ∃ vs, Blk W b5 28 vs.cells ∧ eQ.R (fun k => S k ∧ k ≠ b5) W vs (qc (f k))
  out : ∃ vz, Blk W (b5 - 1) 28 vz ∧ vz.size = 4
theorem DotJ.sft {w0 : World} {S : Nat → Prop} {b5 b6 p1 p2 : Nat} {va vb : Value} {f : Nat → Rat} {k D : Nat} {W W' : World} (h : DotJ w0 S b5 b6 p1 p2 va vb f k W) (hs : Sft D W W') (hD : w0.heap.size ≤ D) : DotJ w0 S b5 b6 p1 p2 va vb f k W' := by
  obtain ⟨v, h1, h2⟩ := h.acc
  obtain ⟨vz, h3, h4⟩ := h.out
  exact ⟨h.low.trans (hs.below.mono hD), hs.cells.blk trivial h.fn, hs.cells.blk trivial h.k1, hs.cells.blk trivial h.k2, ⟨v, hs.cells.blk trivial h1, eQ.keep (fun k c t f _ hc => hs.cells k c t f trivial hc) h2⟩, vz, hs.cells.blk trivial h3, h4⟩

theorem rv_take {a : List QV} {n k : Nat} (h : k < n) : rv ((a.take n).drop 0) k = rv a k := by
  unfold rv
  rw [List.drop_zero, List.getD_eq_getElem?_getD, List.getD_eq_getElem?_getD, List.getElem?_take, if_pos h]

theorem E_vec_Dot : Ent Tryz.prog 52 := ent_of Tryz.func52 (by kernel_rfl) rfl
theorem vec_Dot_c {S : Nat → Prop} {w : World} {va vb : Value} {a b : List QV} {L : Nat} (up : Up S w) (ha : eV.R S w va a) (hb : eV.R S w vb b) (hl : min a.length b.length ≤ 1000000) (hka : vk L a) (hkb : vk L b) (hL : 1 ≤ L) (hL2 : L ≤ 1000) :
    CR Tryz.prog 52 #[va, vb] w (eQ.at S (qc (sumN (min a.length b.length) fun k => rv a k * rv b k))) := by
  refine enter Tryz.func52 rfl Tryz.ntmps52 rfl ?_
  refine .seq (.region (.alloc rfl zero_Q fun w1 b4 n1 => .nil (.seq (.region (.alloc rfl zero_Q fun w2 b5 n2 => .nil (.seq (.region (.mkf [] [_] rfl rfl rfl rfl (.alloc rfl zero_FD fun w3 b6 n3 => ?_))))))))) 
  obtain ⟨e1, k4, hb4, hs1⟩ := n1
  obtain ⟨e2, k5, hb5, hs2⟩ := n2
  obtain ⟨e3, k6, hb6, hs3⟩ := n3
  refine .store ty_FD rfl rfl k6 rfl (by simp [Value.cells]) (by simp [one1, Value.cells]) fun w4 k6 u4 => .nil ?_
  have x3 := (e1.trans e2).trans e3
  have x4 : Ext w w4 := u4.below x3 (by omega)
  have k4 := ((k4.ext e2).ext e3).upd u4 (show b4 ≠ b6 by omega)
  have k5 := (k5.ext e3).upd u4 (show b5 ≠ b6 by omega)
  refine .seq (.region (.mv rfl rfl (.lenR un_V rfl rfl (ha.ext x4) (.mv rfl rfl (.lenR un_V rfl rfl (hb.ext x4) (.min_ rfl rfl rfl (.asg rfl rfl (.nil ?_))))))))
  rw [show (min (a.length : Int) (b.length : Int)) = ((min a.length b.length : Nat) : Int) by omega]
  generalize hn : min a.length b.length = n at *
  refine .seq (.seq ?_)
  have ha0 := ER.lt eV ha
  have hb0 := ER.lt eV hb
  generalize hS0 : (fun k => S k ∧ k < w.heap.size) = S0 at *
  have hS0' : ∀ k, S0 k → S k ∧ k < w.heap.size := fun k h => by rw [← hS0] at h; exact h
  refine .par follows 6 [.inl _, .inl _, .inr (eV.at S0 ((a.take n).drop 0)), .inl _, .inl _, .inr (eV.at S0 ((b.take n).drop 0))] [[], [], [(16, 0), (17, 1)], [], [], [(19, 3), (20, 4)]] (by kernel_rfl) ⟨
    fun w e => (v_mv rfl).ob, fun w e => (v_mv rfl).ob,
    fun w e => ob_cut 0 n un_V ty_Q rfl ((ER.ext eV ha0 x4).ext e) rfl ⟨_, rfl⟩ (Nat.zero_le _) (by omega),
    fun w e => (v_mv rfl).ob, fun w e => (v_mv rfl).ob,
    fun w e => ob_cut 0 n un_V ty_Q rfl ((ER.ext eV hb0 x4).ext e) rfl ⟨_, rfl⟩ (Nat.zero_le _) (by omega), trivial⟩ ?_
  intro w5 e5 va' ha' vb' hb'
  have la : ((a.take n).drop 0).length = n := by simp; omega
  have lb : ((b.take n).drop 0).length = n := by simp; omega
  obtain ⟨aa, ca, hva, _⟩ := RL.len ha'
  obtain ⟨ab, cb, hvb, _⟩ := RL.len hb'
  refine .call _ rfl E_vec_pairs rfl (vec_pairs_c hva hvb) fun v6 w6 e6 h6 => .nil ?_
  obtain ⟨p1, p2, rfl, kp1, kp2, hp1, hp2⟩ := h6
  have x5 := x4.trans e5
  have x6 := x5.trans e6
  have e46 := e5.trans e6
  have hs4 : w4.heap.size = w3.heap.size := u4.size
  have hs5 := e5.size
  have hs6 := e6.size
  obtain ⟨esa, hA⟩ := RL.toEs ha'
  obtain ⟨esb, hB⟩ := RL.toEs hb'
  have hAB : ∀ {W : World}, Below w.heap.size w W → EsR eQ S0 W va' esa ((a.take n).drop 0) ∧ EsR eQ S0 W vb' esb ((b.take n).drop 0) := fun hL =>
    ⟨hA.keep (fun k c t f hk h => ((hL.block k (hS0' k hk).2).trans (x5.block k (hS0' k hk).2).symm).trans h), hB.keep (fun k c t f hk h => ((hL.block k (hS0' k hk).2).trans (x5.block k (hS0' k hk).2).symm).trans h)⟩
  have hfk : ∀ k, k ≤ n → Rsz (sumN k fun k => rv a k * rv b k) (1 + k * (L + L + 1)) := fun k hk => sumN_rsz fun j hj => (hka.rsz hL j).mul (hkb.rsz hL j)
  refine .block (.rangeA (vpairs1_c (S := S0) (a := (a.take n).drop 0) (b := (b.take n).drop 0) (esa := esa) (esb := esb) (va := va') (vb := vb') (by omega) (by omega)) rfl E_vpairs1 (fun k => rfl) (by decide)
    (DotJ w (fun k => S k ∧ k ≠ b4) b5 b6 p1 p2 va' vb' fun k => sumN k fun k => rv a k * rv b k) (fun _ _ => False) (fun k W W' h hs => h.sft hs x6.size) (fun _ _ _ h _ => h.elim) (fun k W h => ⟨h.k1, h.k2, hAB h.low⟩) ?_ ?_ ?_ (fun _ _ h => h.elim))
  · refine ⟨x6, k6.ext e46, kp1, kp2, ⟨zq, k5.ext e46, ?_⟩, zq.cells, ?_, rfl⟩
    · show eQ.R _ _ zq (qc 0)
      rw [qc_zero]; exact zq_R
    · rw [show b5 - 1 = b4 by omega]; exact k4.ext e46
  · intro l k W hk hJ hsz
    rw [la, lb, Nat.max_self] at hk
    obtain ⟨hA1, hB1⟩ := hAB hJ.low
    have hxa := hA1.get zq_R k
    have hxb := hB1.get zq_R k
    have hva' := shpA rfl hxa
    have hvb' := shpA rfl hxb
    have hlw := hJ.low.size
    refine .seq (.region (.alloc rfl zero_Q fun W1 c8 n8 => ?_))
    obtain ⟨e8, k8, hc8, hs8⟩ := n8
    refine .storeA (E := eQ) ty_Q rfl rfl k8 rfl rfl (hxa.ext e8) (fun h => by have := (hS0' _ h).2; omega) fun W2 k8 u8 _ => .nil ?_
    have x8 : Ext W W2 := u8.below e8 (by omega)
    refine .region (.alloc rfl zero_Q fun W3 c9 n9 => ?_)
    obtain ⟨e9, k9, hc9, hs9⟩ := n9
    have hs8' := u8.size
    refine .storeA (E := eQ) ty_Q rfl rfl k9 rfl rfl ((hxb.ext x8).ext e9) (fun h => by have := (hS0' _ h).2; omega) fun W4 k9 u9 _ => .nil ?_
    have x9 : Ext W W4 := u9.below (x8.trans e9) (by omega)
    have k8 := (k8.ext e9).upd u9 (show c8 ≠ c9 by omega)
    refine ⟨rfl, x9, fun W5 hsf hsz5 => ?_⟩
    have hJ5 := (hJ.sft (Sft.ext x9 hsz) x6.size).sft hsf x6.size
    have k8 := hsf.cells.blk trivial k8
    have k9 := hsf.cells.blk trivial k9
    clear hJ hxa hxb hA1 hB1
    obtain ⟨hlow, hfn, hp15, hp25, ⟨vs, h5, hs⟩, vz, h4, hvz⟩ := hJ5
    obtain ⟨hA1, hB1⟩ := hAB hlow
    have hxa := hA1.get zq_R k
    have hxb := hB1.get zq_R k
    have hlw5 := hlow.size
    have hb5lt := h5.lt
    refine .block (.region (.ld ty_FD rfl rfl hfn rfl (.ldA ty_Q rfl rfl k8 (eQ.csz hxa) (.ldA ty_Q rfl rfl k9 (eQ.csz hxb) ?_))))
    rw [← hva', ← hvb']
    have hT0 : ∀ k, S0 k → (S k ∧ k ≠ b4) ∧ k ≠ b5 := fun k hk => ⟨⟨(hS0' k hk).1, by have := (hS0' k hk).2; omega⟩, by have := (hS0' k hk).2; omega⟩
    have hr := hfk k (by omega)
    have hbig : 1 + k * (L + L + 1) ≤ 5000000000 := by
      have : k * (L + L + 1) ≤ 1000000 * 2001 := Nat.mul_le_mul (by omega) (by omega)
      omega
    have hbig1 : L ≤ 1 + k * (L + L + 1) + L := by omega
    have hcall := Dot1_c (S := fun k => (S k ∧ k ≠ b4) ∧ k ≠ b5) (L := 1 + k * (L + L + 1) + L) (fun k hk => ⟨⟨up k (by omega), by omega⟩, by omega⟩) (fun h => h.2 rfl) h5 hs (eQ.mono (fun k _ hk => hT0 k hk) hxa) (eQ.mono (fun k _ hk => hT0 k hk) hxb) ((qk_qc hr).mono (by omega))
      (mem_getD (P := qk _) (fun q hq => (hka q (List.mem_of_mem_take (List.mem_of_mem_drop hq))).mono hbig1) (qk_q0 (by omega)) k) (mem_getD (P := qk _) (fun q hq => (hkb q (List.mem_of_mem_take (List.mem_of_mem_drop hq))).mono hbig1) (qk_q0 (by omega)) k) (by omega) (by omega)
    refine .callvG [_, _] rfl rfl E_Dot1 rfl hcall ?_
    rintro vr W7 ⟨W6, vs', e7, u7, k7, hr7⟩
    refine .nil ?_
    have hlow6 : Below w.heap.size w W6 := hlow.trans (e7.mono hlow.size)
    have hlow7 : Below w.heap.size w W7 := u7.below hlow6 (by omega)
    refine ⟨(Oth.ext e7).trans (Oth.upd u7 (h5.ext e7)), hlow7, (hfn.ext e7).upd u7 (by omega), (hp15.ext e7).upd u7 (by omega), (hp25.ext e7).upd u7 (by omega), ⟨vs', k7, ?_⟩, vz, (h4.ext e7).upd u7 (by omega), hvz⟩
    have e1 : qval (((a.take n).drop 0).getD k q0) = rv a k := rv_take hk
    have e2 : qval (((b.take n).drop 0).getD k q0) = rv b k := rv_take hk
    rw [e1, e2] at hr7
    exact hr7
  · intro W hJ hD
    rw [la, lb, Nat.max_self] at hJ
    obtain ⟨hlow, hfn, hp15, hp25, ⟨vs, h5, hs⟩, vz, h4, hvz⟩ := hJ
    have hb45 : b5 - 1 = b4 := by omega
    rw [hb45] at h4
    have hlws := hlow.size
    have hvs := shpA rfl hs
    refine .seq (.region (.ldA ty_Q rfl rfl h5 (eQ.csz hs) ?_))
    rw [← hvs]
    refine .storeA (E := eQ) ty_Q rfl rfl h4 rfl hvz hs (fun h => h.1.2 rfl) fun W2 k2 u2 h2 => .nil (.ret ?_)
    have hD2 := (Oth.upd u2 h4) _ _ hD rfl
    refine .mark [_] Tryz.results52 hD2 ⟨⟨_, rfl, load_cell (E := eQ) ty_Q rfl rfl ((Kp.put (S := fun _ => True) hD2 rfl).blk trivial k2) (eQ.keep (Kp.put hD2 rfl) h2)⟩, trivial⟩ ⟨below_put (u2.below hlow (by omega)) x6.size, ?_⟩
    exact eQ.mono (fun k _ hk => hk.1.1) (eQ.keep (Kp.put hD2 rfl) h2)
end Go.Proofs.YtgghedhmjhaieaaGreat

namespace Go.Proofs.YtgghedhmjhaieaaGreat
open Go Go.Kx Go.RowKit

theorem zero_int : zeroOf Tryz.prog 3 = some (.int .i64 0) := by kernel_rfl
/-- c compares a and b, from the first element on -/
def LexC (a b : List QV) (c : Int) : Prop := (c = 0 ∧ ∀ k, rv a k = rv b k) ∨ ∃ j, (∀ k, k < j → rv a k = rv b k) ∧ rv a j ≠ rv b j ∧ c = cmpR (rv a j) (rv b j)
@[reducible] def IsLex (a b : List QV) : Value → World → Prop := fun v _ => ∃ c, v = .int .i64 c ∧ LexC a b c
theorem LexC.zero {a b : List QV} {c : Int} (h : LexC a b c) : c = 0 ↔ ∀ k, rv a k = rv b k := by
  rcases h with ⟨h1, h2⟩ | ⟨j, h1, h2, h3⟩
  · exact ⟨fun _ => h2, fun _ => h1⟩
  · constructor
    · intro h0
      rw [h0] at h3
      exact absurd (cmpR_eq_zero.1 h3.symm) h2
    · intro h; exact absurd (h j) h2

structure CmpJ (w0 : World) (b4 p1 p2 : Nat) (va vb : Value) (a b : List QV) (k : Nat) (W : World) : Prop where
  low : Below w0.heap.size w0 W
  k1 : Blk W p1 23 #[va]
  k2 : Blk W p2 23 #[vb]
  out : Blk W b4 3 #[.int .i64 0]
  eq : ∀ j, j < k → rv a j = rv b j
theorem CmpJ.sft {w0 : World} {b4 p1 p2 : Nat} {va vb : Value} {a b : List QV} {k D : Nat} {W W' : World} (h : CmpJ w0 b4 p1 p2 va vb a b k W) (hs : Sft D W W') (hD : w0.heap.size ≤ D) : CmpJ w0 b4 p1 p2 va vb a b k W' :=
  ⟨h.low.trans (hs.below.mono hD), hs.cells.blk trivial h.k1, hs.cells.blk trivial h.k2, hs.cells.blk trivial h.out, h.eq⟩

theorem E_vec_Compare : Ent Tryz.prog 93 := ent_of Tryz.func93 (by kernel_rfl) rfl
theorem vec_Compare_c {S : Nat → Prop} {w : World} {va vb : Value} {a b : List QV} {L : Nat} (up : Up S w) (ha : eV.R S w va a) (hb : eV.R S w vb b) (hla : a.length ≤ 1000000000) (hlb : b.length ≤ 1000000000) (hka : vk L a) (hkb : vk L b) (hL : 1 ≤ L) (hL2 : L ≤ 10000000000) :
    CR Tryz.prog 93 #[va, vb] w (IsLex a b) := by
  obtain ⟨aa, ca, hva, _⟩ := RL.len ha
  obtain ⟨ab, cb, hvb, _⟩ := RL.len hb
  obtain ⟨esa, hA⟩ := RL.toEs ha
  obtain ⟨esb, hB⟩ := RL.toEs hb
  have hA0 := hA.mono (S' := fun k => S k ∧ k < w.heap.size) (by decide) (fun k hk hs => ⟨hs, hk⟩)
  have hB0 := hB.mono (S' := fun k => S k ∧ k < w.heap.size) (by decide) (fun k hk hs => ⟨hs, hk⟩)
  have hAB : ∀ {W : World}, Below w.heap.size w W → EsR eQ (fun k => S k ∧ k < w.heap.size) W va esa a ∧ EsR eQ (fun k => S k ∧ k < w.heap.size) W vb esb b := fun hL => ⟨hA0.keep (fun k c t f hk h => (hL.block k hk.2).trans h), hB0.keep (fun k c t f hk h => (hL.block k hk.2).trans h)⟩
  refine enter Tryz.func93 rfl Tryz.ntmps93 rfl ?_
  refine .seq (.region (.alloc rfl zero_int fun w1 b4 n1 => .nil ?_))
  obtain ⟨e1, k4, hb4, hs1⟩ := n1
  refine .seq (.seq (.region (.mv rfl rfl (.mv rfl rfl ?_))))
  refine .call _ rfl E_vec_pairs rfl (vec_pairs_c hva hvb) fun v2 w2 e2 h2 => .nil ?_
  obtain ⟨p1, p2, rfl, kp1, kp2, hp1, hp2⟩ := h2
  have x2 := e1.trans e2
  refine .block (.rangeA (vpairs1_c (S := fun k => S k ∧ k < w.heap.size) (a := a) (b := b) (esa := esa) (esb := esb) (va := va) (vb := vb) (by omega) (by omega)) rfl E_vpairs1 (fun k => rfl) (by decide)
    (CmpJ w b4 p1 p2 va vb a b) (fun c W => c = .ret ∧ Below w.heap.size w W ∧ ∃ x, Blk W b4 3 #[.int .i64 x] ∧ LexC a b x) (fun k W W' h hs => h.sft hs x2.size)
    (fun c W W' ⟨h1, h2, x, h3, h4⟩ hs => ⟨h1, h2.trans (hs.below.mono x2.size), x, hs.cells.blk trivial h3, h4⟩) (fun k W h => ⟨h.k1, h.k2, hAB h.low⟩) ?_ ?_ ?_ ?_)
  · exact ⟨x2, kp1, kp2, k4.ext e2, fun j hj => absurd hj (Nat.not_lt_zero _)⟩
  · intro l k W hk hJ hsz
    obtain ⟨hA1, hB1⟩ := hAB hJ.low
    have hxa := hA1.get zq_R k
    have hxb := hB1.get zq_R k
    have hva' := shpA rfl hxa
    have hvb' := shpA rfl hxb
    have hlw := hJ.low.size
    refine .seq (.region (.alloc rfl zero_Q fun W1 c8 n8 => ?_))
    obtain ⟨e8, k8, hc8, hs8⟩ := n8
    refine .storeA (E := eQ) ty_Q rfl rfl k8 rfl rfl (hxa.ext e8) (fun h => by have := h.2; omega) fun W2 k8 u8 _ => .nil ?_
    have x8 : Ext W W2 := u8.below e8 (by omega)
    refine .region (.alloc rfl zero_Q fun W3 c9 n9 => ?_)
    obtain ⟨e9, k9, hc9, hs9⟩ := n9
    have hs8' := u8.size
    refine .storeA (E := eQ) ty_Q rfl rfl k9 rfl rfl ((hxb.ext x8).ext e9) (fun h => by have := h.2; omega) fun W4 k9 u9 _ => .nil ?_
    have x9 : Ext W W4 := u9.below (x8.trans e9) (by omega)
    have k8 := (k8.ext e9).upd u9 (show c8 ≠ c9 by omega)
    refine ⟨rfl, x9, fun W5 hsf hsz5 => ?_⟩
    have hJ5 := (hJ.sft (Sft.ext x9 hsz) x2.size).sft hsf x2.size
    have k8 := hsf.cells.blk trivial k8
    have k9 := hsf.cells.blk trivial k9
    clear hJ hxa hxb hA1 hB1
    obtain ⟨hlow, hp15, hp25, h4, heq⟩ := hJ5
    obtain ⟨hA1, hB1⟩ := hAB hlow
    have hxa := hA1.get zq_R k
    have hxb := hB1.get zq_R k
    have hlw5 := hlow.size
    refine .block (.seq (.region (.ldA ty_Q rfl rfl k8 (eQ.csz hxa) (.ldA ty_Q rfl rfl k9 (eQ.csz hxb) ?_))))
    rw [← hva', ← hvb']
    have hxa' : eQ.R S W5 _ _ := eQ.mono (fun k _ hk => hk.1) hxa
    have hxb' : eQ.R S W5 _ _ := eQ.mono (fun k _ hk => hk.1) hxb
    refine .call _ rfl E_frac_Cmp rfl (frac_Cmp_c (up.ext hlw5) hxa' hxb' (hka.get hL k).1 (hkb.get hL k).1 hL (by omega)) fun v6 W6 e6 h6 => .asg rfl rfl (.nil ?_)
    subst h6
    have hlow6 : Below w.heap.size w W6 := hlow.trans (e6.mono hlow.size)
    refine .seq (.region (.mv rfl rfl ?_))
    by_cases h0 : cmpR (rv a k) (rv b k) = 0
    · refine .neqF rfl rfl rfl h0 (.nil (.condF rfl (.skip ?_)))
      refine ⟨Oth.ext e6, hlow6, hp15.ext e6, hp25.ext e6, h4.ext e6, fun j hj => ?_⟩
      by_cases e : j = k
      · subst e; exact cmpR_eq_zero.1 h0
      · exact heq j (by omega)
    · refine .neqT rfl rfl rfl h0 (.nil (.condT rfl (.seq (.region (.mv rfl rfl ?_)))))
      refine .store ty_int rfl rfl (h4.ext e6) rfl (by simp) (by simp [one1, Value.cells]) fun W7 k7 u7 => .nil (.ret ?_)
      exact ⟨(Oth.ext e6).trans (Oth.upd u7 (h4.ext e6)), rfl, u7.below hlow6 (by omega), _, k7, .inr ⟨k, heq, fun h => h0 (cmpR_eq_zero.2 h), rfl⟩⟩
  · intro W hJ hD
    obtain ⟨hlow, hp15, hp25, h4, heq⟩ := hJ
    refine .seq (.region (.store ty_int rfl rfl h4 rfl (by simp) (by simp [one1, Value.cells]) fun W2 k2 u2 => .nil (.ret ?_)))
    have hD2 := (Oth.upd u2 h4) _ _ hD rfl
    have k3 := (Kp.put (S := fun _ => True) (o' := .deferred none) hD2 rfl).blk trivial k2
    refine .mark [.int .i64 0] Tryz.results93 hD2 ⟨⟨_, rfl, run_loadVar1 ty_int ((k3.cell 0).trans rfl)⟩, trivial⟩ ⟨below_put (u2.below hlow (by omega)) x2.size, 0, rfl, .inl ⟨rfl, fun k => ?_⟩⟩
    rcases Nat.lt_or_ge k (max a.length b.length) with h | h
    · exact heq k h
    · rw [rv_out (by omega), rv_out (by omega)]
  · rintro c W ⟨rfl, hlow, x, hx, hlex⟩ hD
    refine .ret ?_
    have k3 := (Kp.put (S := fun _ => True) (o' := .deferred none) hD rfl).blk trivial hx
    exact .mark [.int .i64 x] Tryz.results93 hD ⟨⟨_, rfl, run_loadVar1 ty_int ((k3.cell 0).trans rfl)⟩, trivial⟩ ⟨below_put hlow x2.size, x, rfl, hlex⟩

def eqV (a b : List QV) : Prop := ∀ k, rv a k = rv b k
noncomputable instance (a b : List QV) : Decidable (eqV a b) := Classical.propDecidable _
theorem E_vec_Equal : Ent Tryz.prog 63 := ent_of Tryz.func63 (by kernel_rfl) rfl
theorem vec_Equal_c {S : Nat → Prop} {w : World} {va vb : Value} {a b : List QV} {L : Nat} (up : Up S w) (ha : eV.R S w va a) (hb : eV.R S w vb b) (hla : a.length ≤ 1000000000) (hlb : b.length ≤ 1000000000) (hka : vk L a) (hkb : vk L b) (hL : 1 ≤ L) (hL2 : L ≤ 10000000000) :
    CR Tryz.prog 63 #[va, vb] w (Is (.bool (decide (eqV a b)))) := by
  refine enter Tryz.func63 rfl Tryz.ntmps63 rfl ?_
  refine .seq (.region (.asg rfl rfl (.nil (.seq (.region (.mv rfl rfl (.mv rfl rfl ?_)))))))
  refine .call _ rfl E_vec_Compare rfl (vec_Compare_c up ha hb hla hlb hka hkb hL hL2) fun v1 w1 e1 h1 => ?_
  obtain ⟨c, rfl, hc⟩ := h1
  refine .eql rfl rfl rfl (.asg rfl rfl (.nil (.ret ?_)))
  refine .plain [_] Tryz.results63 ⟨rfl, trivial⟩ ⟨e1, isB ?_⟩
  by_cases h : eqV a b
  · rw [hc.zero.2 h]; simp [h]
  · have : c ≠ 0 := fun h' => h (hc.zero.1 h')
    simp [h, this]
end Go.Proofs.YtgghedhmjhaieaaGreat

namespace Go.Proofs.YtgghedhmjhaieaaGreat
open Go Go.Kx Go.RowKit

theorem un_L : Tryz.prog.underlying 53 = some (.slice 2) := by kernel_rfl
theorem ty_L : tyOf Tryz.prog 53 = some (false, 1) := by kernel_rfl
abbrev eI : ER (List Int) := RL (eInt .i64)

theorem eInt_bd {S : Nat → Prop} {w : World} {v : Value} {n : Int} (h : (eInt .i64).R S w v n) : v = .int .i64 n ∧ -9223372036854775808 ≤ n ∧ n ≤ 9223372036854775807 := by
  obtain ⟨h1, h2, h3⟩ := h
  exact ⟨h1, h2, h3⟩

theorem E_vec_FromInts : Ent Tryz.prog 40 := ent_of Tryz.func40 (by kernel_rfl) rfl
theorem vec_FromInts_c {S : Nat → Prop} {w : World} {vl : Value} {l : List Int} (up : Up S w) (hl : eI.R S w vl l) (hn : l.length ≤ 1000000000) :
    CR Tryz.prog 40 #[vl] w (eV.at S (tab l.length fun k => ((l.getD k 0 : Int) : Rat))) := by
  have hl0 := ER.lt eI hl
  have hL : ∀ {W : World}, Below w.heap.size w W → eI.R (fun k => S k ∧ k < w.heap.size) W vl l := fun hB => eI.keep (fun k c t f hk h => (hB.block k hk.2).trans h) hl0
  obtain ⟨al, cl, hvl, _⟩ := RL.len hl
  refine enter Tryz.func40 rfl Tryz.ntmps40 rfl ?_
  refine .seq (.region (.asg rfl rfl (.nil (.seq (.region (.mv rfl rfl (.lenR un_L rfl rfl hl ?_)))))))
  refine .make_ _ _ un_V info_Q rfl (by decide) rfl rfl rfl (Nat.le_refl _) (by omega) (by omega) fun w1 g n1 => .asg rfl rfl (.nil ?_)
  have f1 : FB eQ 28 S w1 g (List.replicate l.length q0) := FB.made n1 zq_R
  obtain ⟨e1, k1, hg, hs1⟩ := n1
  generalize hf : (fun k => qc ((l.getD k 0 : Int) : Rat)) = f
  refine .mid (α := Unit) (fun _ => [(3, .slice (some ⟨g, 0, none⟩) l.length l.length)]) (fun _ W => Below w.heap.size w W ∧ FB eQ 28 S W g ((List.range l.length).map f)) ?_ ?_
  · refine .seq (.region (.mv rfl rfl (.lenR un_L rfl rfl (hL e1) (.mv rfl rfl (.nil ?_)))))
    refine .block (.loop (α := Nat) (fun i => [(3, .slice (some ⟨g, 0, none⟩) l.length l.length), (9, vl), (10, .int .i64 (l.length : Nat)), (11, .int .i64 (i : Nat))])
      (fun i W => Below w.heap.size w W ∧ i ≤ l.length ∧ FB eQ 28 S W g (fil l.length i f q0)) (fun i => l.length - i) 0 ?_ ?_ ?_)
    · exact look_cons rfl (look_cons rfl (look_cons rfl (look_cons rfl look_nil)))
    · exact ⟨e1, Nat.zero_le _, by rw [fil_zero]; exact f1⟩
    · rintro i W ⟨hB, hi, hF⟩
      have hsz := hB.size
      have hgl := hF.lt
      by_cases hlt : i < l.length
      · refine .seq (.region (.lssT rfl rfl rfl (by omega) (.nil (.seq (.condT rfl (.skip (.seq (.block (.seq (.region (.mv rfl rfl ?_)))))))))))
        refine .ixN (i := i) un_L ty_i64 rfl rfl (hL hB) rfl (getD_get' (z := 0) hlt) fun p hp => .ldE ty_i64 rfl rfl hp fun e he => ?_
        obtain ⟨rfl, hb1, hb2⟩ := eInt_bd he
        refine .asg rfl rfl (.asg rfl rfl (.nil (.region (.mv rfl rfl (.mv rfl rfl (.mv rfl rfl ?_))))))
        refine .call _ rfl E_frac_FromInt64 rfl (frac_FromInt64_c (S := fun k => S k ∧ k ≠ g) (fun k hk => ⟨up k (by omega), by omega⟩) hb1 hb2) fun v2 W2 e2 h2 => ?_
        refine .ixB (i := i) un_V ty_Q rfl rfl rfl hlt ?_
        have hF2 := hF.ext e2
        refine .storeF (E := eQ) (i := i) (z := f i) (by decide) ty_Q rfl rfl hF2 rfl (by rw [fil_length]; exact hlt) (Nat.zero_add _) (by rw [← hf]; exact h2) fun W3 hF3 u3 => .nil ?_
        rw [fil_set] at hF3
        refine .region (.add rfl rfl rfl (.mv rfl rfl (.nil ?_)))
        rw [wI (by omega)]
        exact ⟨rfl, i + 1, look_cons rfl (look_cons rfl (look_cons rfl (look_cons rfl look_nil))), ⟨u3.below (hB.trans (e2.mono hsz)) (by omega), hlt, hF3⟩, by show l.length - (i + 1) < l.length - i; omega⟩
      · refine .seq (.region (.lssF rfl rfl rfl (by omega) (.nil (.seq (.condF rfl (.exit ?_))))))
        have : i = l.length := by omega
        subst this
        rw [fil_all] at hF
        exact ⟨rfl, (), look_cons rfl look_nil, hB, hF⟩
  · rintro _ W ⟨hB, hF⟩
    refine .seq (.region (.mv rfl rfl (.asg rfl rfl (.nil (.ret ?_)))))
    have hR := hF.toR (c := l.length) (hsz := by decide) (up g (by omega)) (by simp) (by simp; omega)
    have hlen : ((List.range l.length).map f).length = l.length := by simp
    rw [hlen] at hR
    refine .plain [_] Tryz.results40 ⟨rfl, trivial⟩ ⟨hB, ?_⟩
    unfold tab
    rw [hf]; exact hR

end Go.Proofs.YtgghedhmjhaieaaGreat
