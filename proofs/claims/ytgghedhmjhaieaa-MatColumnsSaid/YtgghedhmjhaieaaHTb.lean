/-
  law 04: MatRing
-/
import Derived.Test.YtgghedhmjhaieaaG9
namespace Go.Proofs.Ytgghedhmjhaieaa
open Go Go.Kx Go.RowKit

theorem bsl_MM2 {a a' : Option Addr} {n c n' c' : Nat} : bslOf Try.prog 61 2 [(0, .slice a n c), (1, .slice a' n' c')] = some (25, #[.slice a n c, .slice a' n' c']) := by kernel_rfl
theorem bsl_MM3 {a a' b : Option Addr} {n c n' c' m d : Nat} : bslOf Try.prog 61 3 [(0, .slice a n c), (1, .slice a' n' c'), (2, .slice b m d)] = some (25, #[.slice a n c, .slice a' n' c', .slice b m d]) := by kernel_rfl
theorem bsl_M2 {a a' : Option Addr} {n c n' c' : Nat} : bslOf Try.prog 25 2 [(0, .slice a n c), (1, .slice a' n' c')] = some (30, #[.slice a n c, .slice a' n' c']) := by kernel_rfl
/-- slices just laid in a row -/
theorem eS_new {α : Type} {E : ER α} {hsz : 0 < E.sz} {S : Nat → Prop} {w w' : World} {b : Nat} {t : TypeId} {cs : Array Value} {n : Nat} (vs : List Value) (ls : List (List α)) (hn : New w w' b t cs) (up : Up S w) (hcs : cs = vs.toArray) (hl : ls.length = n) (hm : n ≤ 1000) (h : Els (RL E hsz) S w vs ls) :
    (RL (RL E hsz) (show 0 < 1 by decide)).R S w' (.slice (some ⟨b, 0, none⟩) n n) ls := by
  subst hl
  refine RL.ofBlk (es := vs) hn.2.1 (up b (by have := hn.2.2.1; omega)) (h.ext hn.1) (fun j u hu => ?_) (Nat.le_refl _) (by omega)
  rw [hcs]
  have hv : ∀ v ∈ vs, v.cells = #[v] := by
    intro v hv
    obtain ⟨i, hi⟩ := List.mem_iff_getElem?.1 hv
    have hlt := mem_lt hi
    obtain ⟨a, c, rfl, _⟩ := RL.len (h.2 i v _ hi (List.getElem?_eq_getElem (by rw [← h.1]; exact hlt)))
    rfl
  have : cellsOf vs = vs := by
    clear h hcs hu
    induction vs with
    | nil => rfl
    | cons v vs ih => rw [cellsOf, List.flatMap_cons, hv v (by simp), ← cellsOf, ih fun u hu => hv u (by simp [hu])]; rfl
  rw [this] at hu
  simpa using hu

theorem E_law04_MatRing : Ent Try.prog 6 := ent_of Try.func6 (by kernel_rfl) rfl
theorem law04_MatRing_c {w : World} {va vb vc : Value} {a b c : List (List QV)} (ha : eM.R (fun _ => True) w va a) (hb : eM.R (fun _ => True) w vb b) (hc : eM.R (fun _ => True) w vc c) : CR Try.prog 6 #[va, vb, vc] w (Is (.bool true)) := by
  obtain ⟨aa, ca, hva, _⟩ := RL.len ha
  obtain ⟨ab, cb, hvb, _⟩ := RL.len hb
  obtain ⟨ac, cc, hvc, _⟩ := RL.len hc
  have hels : Els eM (fun _ => True) w [va, vb, vc] [a, b, c] := Els.snoc (Els.snoc (Els.snoc Els.nil ha) hb) hc
  refine enter Try.func6 rfl Try.ntmps6 rfl ?_
  refine .seq (.region (.asg rfl rfl (.nil (.seq (.seq (.region (.mv rfl rfl (.mv rfl rfl (.mv rfl rfl ?_)))))))))
  refine .bsl _ rfl rfl (by rw [hva, hvb, hvc]; exact bsl_MM3) fun w1 b1 n1 => ?_
  have hmm : eMM.R (fun _ => True) w1 (.slice (some ⟨b1, 0, none⟩) 3 3) [a, b, c] := eS_new [va, vb, vc] [a, b, c] n1 upT (by rw [hva, hvb, hvc]) rfl (by decide) hels
  refine .call _ rfl E_law04_Long rfl (law04_Long_c upT hmm) fun v2 w2 e2 h2 => .nil ?_
  obtain ⟨bb, rfl, hlong⟩ := h2
  have x2 := n1.1.trans e2
  cases bb with
  | true =>
    refine .condT rfl (.seq (.region ?_))
    refine .call _ rfl E_law04_alive rfl law04_alive_c fun v3 w3 e3 h3 => .asg rfl rfl (.nil (.ret ?_))
    exact .plain [_] Try.results6 ⟨rfl, trivial⟩ ⟨x2.trans e3, h3⟩
  | false =>
  have hl := hlong rfl
  have ma := (hl a (by simp)).mr (ha.ext x2)
  have mb := (hl b (by simp)).mr (hb.ext x2)
  have mc := (hl c (by simp)).mr (hc.ext x2)
  clear hlong hl hmm hels
  refine .condF rfl (.skip ?_)
  refine .seq (.region (.mv rfl rfl (.mv rfl rfl ?_)))
  refine .call _ rfl E_mat_Mul rfl (mulW 105 ma mb) fun v3 w3 e3 m3 => .mv rfl rfl (.mv rfl rfl ?_)
  refine .call _ rfl E_mat_Mul rfl (mulW 105 (mb.ext e3) (mc.ext e3)) fun v4 w4 e4 m4 => .asg rfl rfl (.asg rfl rfl (.nil ?_))
  have m3 := m3.ext e4
  have x4 := e3.trans e4
  refine .seq (.seq (.region (.mv rfl rfl (.mv rfl rfl ?_))))
  refine .call _ rfl E_mat_Mul rfl (mulW 2000 m3 ((mc.ext x4).lift (L' := 105) (by decide))) fun v5 w5 e5 m5 => .mv rfl rfl (.mv rfl rfl ?_)
  refine .call _ rfl E_mat_Mul rfl (mulW 2000 (((ma.ext x4).ext e5).lift (L' := 105) (by decide)) (m4.ext e5)) fun v6 w6 e6 m6 => ?_
  refine .call _ rfl E_mat_Equal rfl (eqW (m5.ext e6) m6 (he := mul_assocM a b c)) fun v7 w7 e7 h7 => ?_
  subst h7
  have x7 := ((x4.trans e5).trans e6).trans e7
  have y7 := (e5.trans e6).trans e7
  refine .not_ rfl rfl (.mv rfl rfl (.gr rfl rfl rfl rfl (.mv rfl rfl (.gr rfl rfl rfl rfl (.mv rfl rfl (.gr rfl rfl rfl rfl (.mv rfl rfl (.gr rfl rfl rfl rfl ?_))))))))
  refine .call _ rfl E_mat_Add rfl (addW 13 (mb.ext x7) (mc.ext x7)) fun v8 w8 e8 m8 => .gr rfl rfl rfl rfl ?_
  have x8 := x7.trans e8
  refine .call _ rfl E_mat_Mul rfl (mulW 2000 ((ma.ext x8).lift (L' := 13) (by decide)) m8) fun v9 w9 e9 m9 => ?_
  have x9 := x8.trans e9
  refine .gr rfl rfl rfl rfl (.mv rfl rfl (.gr rfl rfl rfl rfl (.mv rfl rfl (.gr rfl rfl rfl rfl (.mv rfl rfl (.gr rfl rfl rfl rfl ?_))))))
  refine .call _ rfl E_mat_Mul rfl (mulW 105 (ma.ext x9) (mc.ext x9)) fun v10 w10 e10 m10 => .gr rfl rfl rfl rfl ?_
  have y10 := ((y7.trans e8).trans e9).trans e10
  refine .call _ rfl E_mat_Add rfl (addW 2000 (m3.ext y10) m10) fun v11 w11 e11 m11 => .gr rfl rfl rfl rfl ?_
  refine .call _ rfl E_mat_Equal rfl (eqW ((m9.ext e10).ext e11) m11 (he := mul_addM a b c)) fun v12 w12 e12 h12 => ?_
  subst h12
  have x12 := ((x9.trans e10).trans e11).trans e12
  have y12 := (y10.trans e11).trans e12
  refine .gr rfl rfl rfl rfl (.not_ rfl rfl (.pick rfl rfl rfl (.mv rfl rfl (.gr rfl rfl rfl rfl (.mv rfl rfl (.gr rfl rfl rfl rfl (.mv rfl rfl (.gr rfl rfl rfl rfl ?_))))))))
  refine .call _ rfl E_mat_Add rfl (addW 13 (ma.ext x12) (mb.ext x12)) fun v13 w13 e13 m13 => .gr rfl rfl rfl rfl (.mv rfl rfl (.gr rfl rfl rfl rfl ?_))
  have x13 := x12.trans e13
  refine .call _ rfl E_mat_Mul rfl (mulW 2000 m13 ((mc.ext x13).lift (L' := 13) (by decide))) fun v14 w14 e14 m14 => .gr rfl rfl rfl rfl (.mv rfl rfl (.gr rfl rfl rfl rfl (.mv rfl rfl (.gr rfl rfl rfl rfl ?_))))
  have x14 := x13.trans e14
  refine .call _ rfl E_mat_Mul rfl (mulW 105 (ma.ext x14) (mc.ext x14)) fun v15 w15 e15 m15 => .gr rfl rfl rfl rfl (.mv rfl rfl (.gr rfl rfl rfl rfl ?_))
  have y15 := ((y12.trans e13).trans e14).trans e15
  refine .call _ rfl E_mat_Add rfl (addW 2000 m15 (m4.ext y15)) fun v16 w16 e16 m16 => .gr rfl rfl rfl rfl ?_
  refine .call _ rfl E_mat_Equal rfl (eqW ((m14.ext e15).ext e16) m16 (he := add_mulM a b c)) fun v17 w17 e17 h17 => ?_
  subst h17
  have x17 := ((x14.trans e15).trans e16).trans e17
  refine .gr rfl rfl rfl rfl (.not_ rfl rfl (.pick rfl rfl rfl (.nil (.condF rfl (.skip ?_)))))
  refine .seq (.region (.mv rfl rfl (.mv rfl rfl ?_)))
  refine .call _ rfl E_mat_Cols rfl (mat_Cols_c (ma.ext x17).r) fun v18 w18 e18 h18 => ?_
  subst h18
  have x18 := x17.trans e18
  refine .call _ rfl E_mat_Identity rfl (idW (n := 8) (L := 6) (colsOf a) ma.hc) fun v19 w19 e19 m19 => ?_
  have x19 := x18.trans e19
  refine .call _ rfl E_mat_Mul rfl (mulW 105 (ma.ext x19) m19) fun v20 w20 e20 m20 => .mv rfl rfl ?_
  have x20 := x19.trans e20
  refine .call _ rfl E_mat_Equal rfl (eqW m20 ((ma.ext x20).lift (L' := 105) (by decide)) (he := mul_idM a)) fun v21 w21 e21 h21 => ?_
  subst h21
  have x21 := x20.trans e21
  refine .mv rfl rfl (.gr rfl rfl rfl rfl (.mv rfl rfl (.gr rfl rfl rfl rfl (.lenR un_M rfl rfl (ma.ext x21).r (.gr rfl rfl rfl rfl ?_)))))
  refine .call _ rfl E_mat_Identity rfl (idW (n := 8) (L := 6) a.length ma.hn) fun v22 w22 e22 m22 => .gr rfl rfl rfl rfl (.mv rfl rfl (.gr rfl rfl rfl rfl ?_))
  have x22 := x21.trans e22
  refine .call _ rfl E_mat_Mul rfl (mulW 105 m22 (ma.ext x22)) fun v23 w23 e23 m23 => .gr rfl rfl rfl rfl (.mv rfl rfl (.gr rfl rfl rfl rfl ?_))
  have x23 := x22.trans e23
  refine .call _ rfl E_mat_Equal rfl (eqW m23 ((ma.ext x23).lift (L' := 105) (by decide)) (he := id_mulM a)) fun v24 w24 e24 h24 => ?_
  subst h24
  have x24 := x23.trans e24
  refine .pick rfl rfl rfl (.mv rfl rfl (.gr rfl rfl rfl rfl (.mv rfl rfl (.gr rfl rfl rfl rfl (.mv rfl rfl (.gr rfl rfl rfl rfl ?_))))))
  refine .call _ rfl E_mat_Add rfl (addW 13 (ma.ext x24) (mb.ext x24)) fun v25 w25 e25 m25 => .gr rfl rfl rfl rfl (.mv rfl rfl (.gr rfl rfl rfl rfl (.mv rfl rfl (.gr rfl rfl rfl rfl ?_))))
  have x25 := x24.trans e25
  refine .call _ rfl E_mat_Add rfl (addW 13 (mb.ext x25) (ma.ext x25)) fun v26 w26 e26 m26 => .gr rfl rfl rfl rfl ?_
  refine .call _ rfl E_mat_Equal rfl (eqW (m25.ext e26) m26 (he := add_commM a b)) fun v27 w27 e27 h27 => ?_
  subst h27
  have x27 := (x25.trans e26).trans e27
  refine .pick rfl rfl rfl (.mv rfl rfl (.gr rfl rfl rfl rfl ?_))
  refine .call _ rfl E_law04_alive rfl law04_alive_c fun v28 w28 e28 h28 => ?_
  subst h28
  refine .pick rfl rfl rfl (.asg rfl rfl (.nil (.ret ?_)))
  exact .plain [_] Try.results6 ⟨rfl, trivial⟩ ⟨x2.trans (x27.trans e28), rfl⟩
end Go.Proofs.Ytgghedhmjhaieaa
