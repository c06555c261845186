/-
  The references: Gcd, Div, Cmp of integers Regions that draw their order, with cells of their own that are known apart (printed by mkkv.py) The references: rational numbers: one, den, num, over, Least, Add, Mul, Neg, Sub, Sign, Cmp The references: rational numbers: Least, Add, Mul, Neg, Sub, Sign, Cmp The references: ref02 Sub, Cmp; vectors: At, Combine, Add, Scale, Dot The references: vectors: Combine, Add, Scale, Dot The references: matrices: At, row, place, made The references: matrices: place of a product, made, Mul, Turn, Beside The references: matrices: Mul, Turn, Beside, Times, Add The references: matrices: Add, Scale, Left The references: matrices: Left mat.Scale The laws' own copies: Own The laws' own copies: vectors and matrices Matrices with their bounds; the algebra of matrices: plain. law 04: MatRing law 05: long, tall; the references Of, Ints; vec.Sign law 05: the numbers of the examples law 05: alive; SolveExamples Solutions of linear equations: plain. law 05: what the answers of package solve satisfy; plain. law 05: what the walks of the laws share Elements that the call changes in place, in a row with room behind it. The references: cut, Fit, Unit, Div; by, in, Square The references: Unit, by The references: Reduce law 05: what inverses and determinants satisfy; plain. law 05: every solution; plain.
-/
import Derived.Test.YtccmemilofoamaaGreatG5
set_option linter.unusedVariables false
namespace Go.Kx
theorem gcd_step (a b : Nat) : Nat.gcd b (a % b) = Nat.gcd a b := by rw [Nat.gcd_comm b (a % b), ← Nat.gcd_rec, Nat.gcd_comm]
theorem cmpZ_sign {a b : ZV} (hs : (zval a).sign = (zval b).sign) : cmpI (zval a) (zval b) = if (zval a).sign < 0 then 0 - cmpN (val a.w) (val b.w) else cmpN (val a.w) (val b.w) := by
  have h1 := zval_natAbs a
  have h2 := zval_natAbs b
  generalize zval a = x at *
  generalize zval b = y at *
  rw [← h1, ← h2]
  rcases Int.lt_trichotomy x 0 with h | h | h
  · have e := Int.sign_eq_neg_one_of_neg h
    rw [e] at hs ⊢
    have hy : y < 0 := Int.sign_eq_neg_one_iff_neg.1 hs.symm
    rw [if_pos (by decide)]
    unfold cmpI cmpN
    split <;> split <;> (try split) <;> (try split) <;> omega
  · subst h
    rw [Int.sign_zero] at hs ⊢
    have hy : y = 0 := Int.sign_eq_zero_iff_zero.1 hs.symm
    subst hy
    decide
  · have e := Int.sign_eq_one_of_pos h
    rw [e] at hs ⊢
    have hy : 0 < y := Int.sign_eq_one_iff_pos.1 hs.symm
    rw [if_neg (by decide)]
    unfold cmpI cmpN
    split <;> split <;> (try split) <;> (try split) <;> omega
theorem cmpI_ne {x y : Int} (hs : x.sign ≠ y.sign) : cmpI x y = if x.sign < y.sign then -1 else 1 := by
  have hx := Int.lt_trichotomy x 0
  have hy := Int.lt_trichotomy y 0
  unfold cmpI
  rcases hx with h | h | h <;> rcases hy with h' | h' | h' <;> first
    | (rw [Int.sign_eq_neg_one_of_neg h, Int.sign_eq_neg_one_of_neg h'] at hs; exact absurd rfl hs)
    | (rw [Int.sign_eq_one_of_pos h, Int.sign_eq_one_of_pos h'] at hs; exact absurd rfl hs)
    | (rw [h, h'] at hs; exact absurd rfl hs)
    | (simp only [h, h', Int.sign_eq_neg_one_of_neg, Int.sign_eq_one_of_pos, Int.sign_zero]; (try split) <;> (try split) <;> (try simp_all) <;> omega)
end Go.Kx
namespace Go.Proofs.YtccmemilofoamaaGreat
open Go Go.Kx Go.RowKit

theorem E_ref01_Gcd : Ent Tryz.prog 141 := ent_of Tryz.func141 (by kernel_rfl) rfl
theorem ref01_Gcd_c {S : Nat → Prop} {w : World} {va vb : Value} {a b : ZV} (up : Up S w) (ha : eZ.R S w va a) (hb : eZ.R S w vb b) (hla : a.w.length ≤ 1000000000) (hlb : b.w.length ≤ 1000000000) : CR Tryz.prog 141 #[va, vb] w (eZ.at S (zc (Nat.gcd (val a.w) (val b.w) : Nat))) := by
  obtain ⟨s, rfl, hs⟩ := ha
  obtain ⟨t, rfl, ht⟩ := hb
  refine enter Tryz.func141 rfl Tryz.ntmps141 rfl ?_
  refine .seq (.region (.box rfl rfl fun w1 b2 n1 => .box rfl rfl fun w2 b3 n2 => .alloc rfl zero_Z fun w3 b4 n3 => .nil ?_))
  obtain ⟨e1, k2, hb2, hs1⟩ := n1
  obtain ⟨e2, k3, hb3, hs2⟩ := n2
  obtain ⟨e3, k4, hb4, hs3⟩ := n3
  have x3 := (e1.trans e2).trans e3
  have k2 := (k2.ext e2).ext e3
  have k3 := k3.ext e3
  have hS4 : ¬ Sx S w.heap.size w3.heap.size b4 := Sx.no (by omega) (by omega)
  have up3 : Up (Sx S w.heap.size w3.heap.size) w3 := Sx.up up (Nat.le_refl _) x3.size
  have hs' := (ER.par eW hs w3.heap.size).ext x3
  have ht' := (ER.par eW ht w3.heap.size).ext x3
  have l1 := hv_len hs hla
  have l2 := hv_len ht hlb
  have hout : ∀ {W : World} {v : Value} {z : ZV}, eZ.R (Sx S w.heap.size w3.heap.size) W v z → eZ.R S W v z := fun h => h.out
  generalize hT : Sx S w.heap.size w3.heap.size = T at *
  refine .seq ?_
  refine .par follows 6 [.inl _, .inl s, .inr (eHs.at T (hds (val a.w))), .inl _, .inl t, .inr (eHs.at T (hds (val b.w)))] [[], [(9, 0)], [(10, 1)], [], [(12, 3)], [(13, 4)]] (by kernel_rfl) ⟨
    fun w e => (v_fa fld_Z1 rfl).ob, fun w e => (v_ld ty_W rfl (k2.ext e) rfl).ob, fun w e => (g_call _ E_ref01_halves rfl (ref01_hv_c (up3.ext e.size) (hs'.ext e) hla)).ob (st_at _ _ _),
    fun w e => (v_fa fld_Z1 rfl).ob, fun w e => (v_ld ty_W rfl (k3.ext e) rfl).ob, fun w e => (g_call _ E_ref01_halves rfl (ref01_hv_c (up3.ext e.size) (ht'.ext e) hlb)).ob (st_at _ _ _), trivial⟩ ?_
  intro w4 e4 x hx y hy
  refine .asg rfl rfl (.asg rfl rfl (.nil ?_))
  generalize val a.w = A at *
  generalize val b.w = B at *
  refine .mid (α := Value) (fun p => [(4, .pointer (some ⟨b4, 0, none⟩)), (5, p)]) (fun p W => Ext w4 W ∧ eHs.R T W p (hds (Nat.gcd A B))) ?_ ?_
  · refine .block (.loop (α := (Nat × Nat) × Value × Value) (fun p => [(4, .pointer (some ⟨b4, 0, none⟩)), (5, p.2.1), (6, p.2.2)])
      (fun p W => Ext w4 W ∧ eHs.R T W p.2.1 (hds p.1.1) ∧ eHs.R T W p.2.2 (hds p.1.2) ∧ (hds p.1.1).length ≤ 2000000000 ∧ (hds p.1.2).length ≤ 2000000000 ∧ Nat.gcd p.1.1 p.1.2 = Nat.gcd A B) (fun p => p.1.2) ((A, B), x, y) ?_ ?_ ?_)
    · exact look_cons rfl (look_cons rfl (look_cons rfl look_nil))
    · exact ⟨.refl _, hx, hy, l1, l2, rfl⟩
    · rintro ⟨⟨m, n⟩, u, v⟩ W ⟨hW, hu, hv, hm, hn, hg⟩
      replace hW : Ext w4 W := hW
      replace hu : eHs.R T W u (hds m) := hu
      replace hv : eHs.R T W v (hds n) := hv
      replace hm : (hds m).length ≤ 2000000000 := hm
      replace hn : (hds n).length ≤ 2000000000 := hn
      replace hg : Nat.gcd m n = Nat.gcd A B := hg
      refine .weak [(4, .pointer (some ⟨b4, 0, none⟩)), (5, u), (6, v)] (fun t v h => h) ?_
      refine .seq (.seq (.region (.mv rfl rfl (.lenR un_H rfl rfl hv ?_))))
      by_cases h0 : n = 0
      · subst h0
        rw [hds_zero]
        refine .gtrF rfl rfl rfl (by simp) (.nil (.condF rfl (.exit ?_)))
        rw [Nat.gcd_zero_right] at hg
        exact ⟨rfl, u, look_cons rfl (look_cons rfl look_nil), hW, hg ▸ hu⟩
      · have hne : (hds n).length ≠ 0 := fun e => h0 (hds_eq_nil.1 (List.length_eq_zero_iff.1 e))
        refine .gtrT rfl rfl rfl (by omega) (.nil (.condT rfl (.skip (.block (.seq (.region (.mv rfl rfl (.mv rfl rfl ?_))))))))
        refine .call _ rfl E_ref01_div rfl (ref01_div_c ((up3.ext e4.size).ext hW.size) hu hv (by omega) (by omega) h0) fun z W2 f2 h2 => ?_
        obtain ⟨vq, vr, rfl, hq, hr⟩ := h2
        refine .mv rfl rfl (.ext rfl rfl rfl (.ext rfl rfl rfl (.asg rfl rfl (.asg rfl rfl (.nil ?_)))))
        refine .region (.mv rfl rfl (.mv rfl rfl (.asg rfl rfl (.asg rfl rfl (.nil ?_)))))
        have hlt : m % n < n := Nat.mod_lt _ (by omega)
        exact ⟨rfl, ((n, m % n), v, vr), look_cons rfl (look_cons rfl (look_cons rfl look_nil)), ⟨hW.trans f2, ER.ext eHs hv f2, hr, hn, Nat.le_trans (hds_len_mono (Nat.le_of_lt hlt)) hn, (gcd_step m n).trans hg⟩, hlt⟩
  · rintro u W ⟨hW, hu⟩
    have e5 := e4.trans hW
    have lg : (hds (Nat.gcd A B)).length ≤ 2000000001 := by
      have h1 : Nat.gcd A B ≤ A + B := by
        rcases Nat.eq_zero_or_pos A with h | h
        · subst h; rw [Nat.gcd_zero_left]; omega
        · have := Nat.gcd_le_left B h; omega
      exact Nat.le_trans (hds_len_mono h1) (hds_add_len l1 l2)
    refine .seq (.region (.mv rfl rfl ?_))
    refine .call _ rfl E_ref01_of rfl (ref01_of_c (up3.ext e5.size) hu (by omega)) fun v6 w6 e6 h6 => ?_
    rw [valH_hds] at h6
    have e56 := e5.trans e6
    refine .storeA (E := eZ) ty_Z rfl rfl (k4.ext e56) rfl rfl h6 hS4 fun w7 k7 u7 h7 => .nil (.ret ?_)
    exact .cell Tryz.results141 rfl ty_Z rfl rfl k7 h7 ⟨u7.below (x3.trans e56) (by omega), hout h7⟩

theorem E_ref01_Div : Ent Tryz.prog 142 := ent_of Tryz.func142 (by kernel_rfl) rfl
theorem ref01_Div_c {S : Nat → Prop} {w : World} {va vb : Value} {a b : ZV} (up : Up S w) (ha : eZ.R S w va a) (hb : eZ.R S w vb b) (hla : a.w.length ≤ 1000000000) (hlb : b.w.length ≤ 1000000000) (hb0 : zval b ≠ 0) :
    CR Tryz.prog 142 #[va, vb] w (Three (eZ.at S (zc (zval a / zval b))) (eZ.at S (zc (zval a % zval b))) (Is (.int .i64 0))) := by
  obtain ⟨s, rfl, hs⟩ := ha
  obtain ⟨t, rfl, ht⟩ := hb
  refine enter Tryz.func142 rfl Tryz.ntmps142 rfl ?_
  refine .seq (.region (.box rfl rfl fun w1 b2 n1 => .box rfl rfl fun w2 b3 n2 => .alloc rfl zero_Z fun w3 b4 n3 => .alloc rfl zero_Z fun w4 b5 n4 => .asg rfl rfl (.nil ?_)))
  obtain ⟨e1, k2, hb2, hs1⟩ := n1
  obtain ⟨e2, k3, hb3, hs2⟩ := n2
  obtain ⟨e3, k4, hb4, hs3⟩ := n3
  obtain ⟨e4, k5, hb5, hs4⟩ := n4
  have x4 := ((e1.trans e2).trans e3).trans e4
  have k2 := ((k2.ext e2).ext e3).ext e4
  have k3 := (k3.ext e3).ext e4
  have k4 := k4.ext e4
  have hS4 : ¬ Sx S w.heap.size w4.heap.size b4 := Sx.no (by omega) (by omega)
  have hS5 : ¬ Sx S w.heap.size w4.heap.size b5 := Sx.no (by omega) (by omega)
  have hne : b5 ≠ b4 := by omega
  have up4 : Up (Sx S w.heap.size w4.heap.size) w4 := Sx.up up (Nat.le_refl _) x4.size
  have hs' := (ER.par eW hs w4.heap.size).ext x4
  have ht' := (ER.par eW ht w4.heap.size).ext x4
  have l1 := hv_len hs hla
  have l2 := hv_len ht hlb
  have hout : ∀ {W : World} {v : Value} {z : ZV}, eZ.R (Sx S w.heap.size w4.heap.size) W v z → eZ.R S W v z := fun h => h.out
  generalize hT : Sx S w.heap.size w4.heap.size = T at *
  refine .seq ?_
  refine .par follows 6 [.inl _, .inl s, .inr (eHs.at T (hds (val a.w))), .inl _, .inl t, .inr (eHs.at T (hds (val b.w)))] [[], [(11, 0)], [(12, 1)], [], [(14, 3)], [(15, 4)]] (by kernel_rfl) ⟨
    fun w e => (v_fa fld_Z1 rfl).ob, fun w e => (v_ld ty_W rfl (k2.ext e) rfl).ob, fun w e => (g_call _ E_ref01_halves rfl (ref01_hv_c (up4.ext e.size) (hs'.ext e) hla)).ob (st_at _ _ _),
    fun w e => (v_fa fld_Z1 rfl).ob, fun w e => (v_ld ty_W rfl (k3.ext e) rfl).ob, fun w e => (g_call _ E_ref01_halves rfl (ref01_hv_c (up4.ext e.size) (ht'.ext e) hlb)).ob (st_at _ _ _), trivial⟩ ?_
  intro w5 e5 x hx y hy
  refine .asg rfl rfl (.asg rfl rfl (.nil ?_))
  have hB0 : 0 < val b.w := by
    rcases Nat.eq_zero_or_pos (val b.w) with h | h
    · exact absurd (by unfold zval sg; rw [h]; simp) hb0
    · exact h
  have eva := zval_mk a
  have evb := zval_mk b
  generalize val a.w = A at *
  generalize val b.w = B at *
  have hne0 : (hds B).length ≠ 0 := fun e => by have := hds_eq_nil.1 (List.length_eq_zero_iff.1 e); omega
  refine .seq (.seq (.region (.mv rfl rfl (.lenR un_H rfl rfl hy (.eqlF rfl rfl rfl (by omega) (.nil (.condF rfl (.skip ?_))))))))
  have up5 := up4.ext e5.size
  refine .seq (.region (.mv rfl rfl (.mv rfl rfl ?_)))
  refine .call _ rfl E_ref01_div rfl (ref01_div_c up5 hx hy (by omega) (by omega) (by omega)) fun z w6 e6 h6 => ?_
  obtain ⟨vq, vr, rfl, hq, hr⟩ := h6
  refine .mv rfl rfl (.ext rfl rfl rfl (.ext rfl rfl rfl (.asg rfl rfl (.asg rfl rfl (.nil ?_)))))
  have e56 := e5.trans e6
  have x6 := x4.trans e56
  have up6 := up5.ext e6.size
  have k2 := k2.ext e56
  have k3 := k3.ext e56
  have k4 := k4.ext e56
  have k5 := k5.ext e56
  have hy6 := ER.ext eHs hy e6
  have lq : (hds (A / B)).length ≤ 2000000000 := Nat.le_trans (hds_len_mono (Nat.div_le_self _ _)) l1
  have lr : (hds (A % B)).length ≤ 2000000000 := Nat.le_trans (hds_len_mono (Nat.mod_le _ _)) l1
  refine .mid (α := (Nat × Nat) × Value × Value) (fun z => [(2, .pointer (some ⟨b2, 0, none⟩)), (3, .pointer (some ⟨b3, 0, none⟩)), (4, .pointer (some ⟨b4, 0, none⟩)), (5, .pointer (some ⟨b5, 0, none⟩)), (9, z.2.1), (10, z.2.2)])
    (fun z W => Ext w6 W ∧ eHs.R T W z.2.1 (hds z.1.1) ∧ eHs.R T W z.2.2 (hds z.1.2) ∧ (hds z.1.1).length ≤ 2000000002 ∧ (hds z.1.2).length ≤ 2000000002 ∧ zval a / zval b = sg (a.neg != b.neg) z.1.1 ∧ zval a % zval b = sg false z.1.2) ?_ ?_
  · refine .seq (.region (.fa fld_Z0 rfl rfl (.ld ty_bool rfl rfl k2 rfl (.mv rfl rfl ?_))))
    cases hn : a.neg with
    | false =>
      refine .gs rfl rfl rfl rfl rfl (.gs rfl rfl rfl rfl rfl (.gs rfl rfl rfl rfl rfl (.pick rfl rfl rfl (.nil (.condF rfl (.skip ?_))))))
      obtain ⟨d1, d2⟩ := divmod_pos (p := false) (q := b.neg) (A := A) hB0 (.inl rfl)
      refine ⟨rfl, ((A / B, A % B), vq, vr), look_cons rfl (look_cons rfl (look_cons rfl (look_cons rfl (look_cons rfl (look_cons rfl look_nil))))), .refl _, hq, hr, Nat.le_trans lq (by omega), Nat.le_trans lr (by omega), ?_, ?_⟩
      · rw [eva, evb, hn]; exact d1
      · rw [eva, evb, hn]; exact d2
    | true =>
      refine .gr rfl rfl rfl rfl (.mv rfl rfl (.gr rfl rfl rfl rfl (.lenR un_H rfl rfl hr (.gr rfl rfl rfl rfl ?_))))
      by_cases h0 : A % B = 0
      · rw [h0, hds_zero]
        refine .gtrF rfl rfl rfl (by simp) (.pick rfl rfl rfl (.nil (.condF rfl (.skip ?_))))
        obtain ⟨d1, d2⟩ := divmod_pos (p := true) (q := b.neg) (A := A) hB0 (.inr h0)
        refine ⟨rfl, ((A / B, A % B), vq, vr), look_cons rfl (look_cons rfl (look_cons rfl (look_cons rfl (look_cons rfl (look_cons rfl look_nil))))), .refl _, hq, hr, Nat.le_trans lq (by omega), Nat.le_trans lr (by omega), ?_, ?_⟩
        · rw [eva, evb, hn]; exact d1
        · rw [eva, evb, hn]; exact d2
      · have hne : (hds (A % B)).length ≠ 0 := fun e => h0 (hds_eq_nil.1 (List.length_eq_zero_iff.1 e))
        refine .gtrT rfl rfl rfl (by omega) (.pick rfl rfl rfl (.nil (.condT rfl (.seq (.region (.mv rfl rfl (.bsl _ rfl rfl bsl_H1 fun w7 b7 n7 => ?_)))))))
        have hd1 : digH [1] := by intro x hx; simp at hx; omega
        have ho : OwnH 3 w6.heap.size w7 (.slice (some ⟨b7, 0, none⟩) 1 1) [1] := OwnH.lit (l := [1]) n7 (Nat.le_refl _) hd1 (by simp)
        obtain ⟨e7, _, _, _⟩ := n7
        refine .call _ rfl E_ref01_add rfl (ref01_add_c (S := T) (up6.ext e7.size) (ER.ext eHs hq e7) (ho.toR up6) (by omega) (by simp)) fun v8 w8 e8 h8 => .asg rfl rfl (.nil ?_)
        rw [valH_hds, show valH [1] = 1 by rfl] at h8
        have e78 := e7.trans e8
        refine .region (.mv rfl rfl (.mv rfl rfl ?_))
        have hm := Nat.mod_lt A hB0
        refine .call _ rfl E_ref01_sub rfl (ref01_sub_c (S := T) (up6.ext e78.size) (ER.ext eHs hy6 e78) (ER.ext eHs hr e78) (by omega) (by rw [valH_hds, valH_hds]; omega)) fun v9 w9 e9 h9 => .asg rfl rfl (.nil ?_)
        rw [valH_hds, valH_hds] at h9
        obtain ⟨d1, d2⟩ := divmod_neg (q := b.neg) (A := A) hB0 (by omega)
        refine ⟨rfl, ((A / B + 1, B - A % B), v8, v9), look_cons rfl (look_cons rfl (look_cons rfl (look_cons rfl (look_cons rfl (look_cons rfl look_nil))))), e78.trans e9, ER.ext eHs h8 e9, h9, ?_, ?_, ?_, ?_⟩
        · exact Nat.le_trans (hds_add_len lq (B := 1) (Nat.le_trans (hds_length (L := 1) (by decide)) (by omega))) (by omega)
        · exact Nat.le_trans (hds_len_mono (Nat.sub_le _ _)) (by omega)
        · rw [eva, evb, hn]; exact d1
        · rw [eva, evb, hn]; exact d2
  · rintro ⟨⟨q, r⟩, vq, vr⟩ W ⟨hW, hq, hr, lq, lr, d1, d2⟩
    replace hW : Ext w6 W := hW
    replace hq : eHs.R T W vq (hds q) := hq
    replace hr : eHs.R T W vr (hds r) := hr
    replace lq : (hds q).length ≤ 2000000002 := lq
    replace lr : (hds r).length ≤ 2000000002 := lr
    replace d1 : zval a / zval b = sg (a.neg != b.neg) q := d1
    replace d2 : zval a % zval b = sg false r := d2
    refine .weak [(2, .pointer (some ⟨b2, 0, none⟩)), (3, .pointer (some ⟨b3, 0, none⟩)), (4, .pointer (some ⟨b4, 0, none⟩)), (5, .pointer (some ⟨b5, 0, none⟩)), (9, vq), (10, vr)] (fun t v h => h) ?_
    have k2 := k2.ext hW
    have k3 := k3.ext hW
    have k4 := k4.ext hW
    have k5 := k5.ext hW
    have upW := up6.ext hW.size
    refine .seq (.region (.fa fld_Z0 rfl rfl (.ld ty_bool rfl rfl k2 rfl (.fa fld_Z0 rfl rfl (.ld ty_bool rfl rfl k3 rfl (.neqB un_bool rfl rfl rfl (.mv rfl rfl ?_)))))))
    refine .call _ rfl E_ref01_of rfl (ref01_of_c upW hq (by omega)) fun v7 w7 e7 h7 => .mv rfl rfl ?_
    rw [valH_hds, ← d1] at h7
    refine .call _ rfl E_ref01_of rfl (ref01_of_c (upW.ext e7.size) (ER.ext eHs hr e7) (by omega)) fun v8 w8 e8 h8 => ?_
    rw [valH_hds, ← d2] at h8
    have e78 := e7.trans e8
    refine .storeA (E := eZ) ty_Z rfl rfl (k4.ext e78) rfl rfl (ER.ext eZ h7 e8) hS4 fun w9 k9 u9 h9 => ?_
    refine .storeA (E := eZ) ty_Z rfl rfl ((k5.ext e78).upd u9 hne) rfl rfl (ER.upd eZ h8 u9 hS4) hS5 fun w10 k10 u10 h10 => .asg rfl rfl (.nil (.ret ?_))
    exact .plain [_, _, _] Tryz.results142 ⟨⟨_, rfl, load_cell (E := eZ) ty_Z rfl rfl (k9.upd u10 (Ne.symm hne)) (ER.upd eZ h9 u10 hS5)⟩, ⟨_, rfl, load_cell (E := eZ) ty_Z rfl rfl k10 h10⟩, rfl, trivial⟩
      ⟨u10.below (u9.below ((x6.trans hW).trans e78) (by omega)) (by omega), _, _, _, rfl, hout (ER.upd eZ h9 u10 hS5), hout h10, rfl⟩

theorem E_ref01_Cmp : Ent Tryz.prog 143 := ent_of Tryz.func143 (by kernel_rfl) rfl
theorem ref01_Cmp_c {S : Nat → Prop} {w : World} {va vb : Value} {a b : ZV} (up : Up S w) (ha : eZ.R S w va a) (hb : eZ.R S w vb b) (hla : a.w.length ≤ 1000000000) (hlb : b.w.length ≤ 1000000000) : CR Tryz.prog 143 #[va, vb] w (Is (.int .i64 (cmpI (zval a) (zval b)))) := by
  have ha0 := ha
  have hb0 := hb
  obtain ⟨s, rfl, hs⟩ := ha
  obtain ⟨t, rfl, ht⟩ := hb
  refine enter Tryz.func143 rfl Tryz.ntmps143 rfl ?_
  refine .seq (.region (.box rfl rfl fun w1 b2 n1 => .box rfl rfl fun w2 b3 n2 => .asg rfl rfl (.nil ?_)))
  obtain ⟨e1, k2, hb2, hs1⟩ := n1
  obtain ⟨e2, k3, hb3, hs2⟩ := n2
  have x2 := e1.trans e2
  have k2 := k2.ext e2
  have up2 := up.ext x2.size
  have ha2 := ER.ext eZ ha0 x2
  have hb2' := ER.ext eZ hb0 x2
  have eva := zval_mk a
  have evb := zval_mk b
  refine .seq (.seq ?_)
  refine .par follows 5 [.inl (.agg #[.bool a.neg, s]), .inl (.int .i64 (zval a).sign), .inl (.agg #[.bool b.neg, t]), .inl (.int .i64 (zval b).sign), .inl (.bool ((zval a).sign != (zval b).sign))] [[], [(6, 0)], [], [(8, 2)], [(7, 1), (9, 3)]] (by kernel_rfl) ⟨
    fun w e => (v_ldA ty_Z rfl (k2.ext e) rfl).ob, fun w e => g_call _ E_ref01_Sign rfl (ref01_Sign_c (up2.ext e.size) (ER.ext eZ ha2 e) hla),
    fun w e => (v_ldA ty_Z rfl (k3.ext e) rfl).ob, fun w e => g_call _ E_ref01_Sign rfl (ref01_Sign_c (up2.ext e.size) (ER.ext eZ hb2' e) hlb), fun w e => (v_neq rfl rfl).ob, trivial⟩ ?_
  intro w3 e3
  have x3 := x2.trans e3
  have up3 := up2.ext e3.size
  have k2 := k2.ext e3
  have k3 := k3.ext e3
  have ha3 := ER.ext eZ ha2 e3
  have hb3 := ER.ext eZ hb2' e3
  by_cases hsg : (zval a).sign = (zval b).sign
  · rw [show ((zval a).sign != (zval b).sign) = false by simpa using hsg]
    refine .nil (.condF rfl (.skip (.seq ?_)))
    have hs' := ER.ext eW hs x3
    have ht' := ER.ext eW ht x3
    have l1 := hv_len hs hla
    have l2 := hv_len ht hlb
    have hc := cmpZ_sign hsg
    refine .par follows 7 [.inl _, .inl s, .inr (eHs.at S (hds (val a.w))), .inl _, .inl t, .inr (eHs.at S (hds (val b.w))), .inl (.int .i64 (cmpN (valH (hds (val a.w))) (valH (hds (val b.w)))))] [[], [(16, 0)], [(17, 1)], [], [(19, 3)], [(20, 4)], [(18, 2), (21, 5)]] (by kernel_rfl) ⟨
      fun w e => (v_fa fld_Z1 rfl).ob, fun w e => (v_ld ty_W rfl (k2.ext e) rfl).ob, fun w e => (g_call _ E_ref01_halves rfl (ref01_hv_c (up3.ext e.size) (hs'.ext e) hla)).ob (st_at _ _ _),
      fun w e => (v_fa fld_Z1 rfl).ob, fun w e => (v_ld ty_W rfl (k3.ext e) rfl).ob, fun w e => (g_call _ E_ref01_halves rfl (ref01_hv_c (up3.ext e.size) (ht'.ext e) hlb)).ob (st_at _ _ _),
      fun w e x hx y hy => g_call _ E_ref01_cmp rfl (ref01_cmp_c hx hy (by omega) (by omega)), trivial⟩ ?_
    intro w4 e4 x hx y hy
    rw [valH_hds, valH_hds]
    refine .asg rfl rfl (.nil (.seq (.seq (.region (.ldA ty_Z rfl rfl (k2.ext e4) rfl ?_)))))
    refine .call _ rfl E_ref01_Sign rfl (ref01_Sign_c (up3.ext e4.size) (ER.ext eZ ha3 e4) hla) fun v5 w5 e5 h5 => ?_
    subst h5
    have x5 := (x3.trans e4).trans e5
    by_cases hn : (zval a).sign < 0
    · rw [if_pos hn] at hc
      refine .lssT rfl rfl rfl hn (.nil (.condT rfl (.seq (.region (.mv rfl rfl (.neg rfl rfl (.asg rfl rfl (.nil (.ret ?_)))))))))
      exact .plain [_] Tryz.results143 ⟨rfl, trivial⟩ ⟨x5, isI (by rw [hc, wI (by unfold cmpN; split <;> (try split) <;> omega)])⟩
    · rw [if_neg hn] at hc
      refine .lssF rfl rfl rfl hn (.nil (.condF rfl (.skip (.seq (.region (.mv rfl rfl (.asg rfl rfl (.nil (.ret ?_)))))))))
      exact .plain [_] Tryz.results143 ⟨rfl, trivial⟩ ⟨x5, isI (by rw [hc])⟩
  · rw [show ((zval a).sign != (zval b).sign) = true by simpa using hsg]
    refine .nil (.condT rfl (.seq (.seq ?_)))
    have hc := cmpI_ne hsg
    refine .par follows 5 [.inl (.agg #[.bool a.neg, s]), .inl (.int .i64 (zval a).sign), .inl (.agg #[.bool b.neg, t]), .inl (.int .i64 (zval b).sign), .inl (.bool (decide ((zval a).sign < (zval b).sign)))] [[], [(11, 0)], [], [(13, 2)], [(12, 1), (14, 3)]] (by kernel_rfl) ⟨
      fun w e => (v_ldA ty_Z rfl (k2.ext e) rfl).ob, fun w e => g_call _ E_ref01_Sign rfl (ref01_Sign_c (up3.ext e.size) (ER.ext eZ ha3 e) hla),
      fun w e => (v_ldA ty_Z rfl (k3.ext e) rfl).ob, fun w e => g_call _ E_ref01_Sign rfl (ref01_Sign_c (up3.ext e.size) (ER.ext eZ hb3 e) hlb), fun w e => (v_lss rfl rfl).ob, trivial⟩ ?_
    intro w4 e4
    by_cases hn : (zval a).sign < (zval b).sign
    · rw [if_pos hn] at hc
      rw [show decide ((zval a).sign < (zval b).sign) = true by simpa using hn]
      refine .nil (.condT rfl (.seq (.region (.asg rfl rfl (.nil (.ret ?_))))))
      exact .plain [_] Tryz.results143 ⟨rfl, trivial⟩ ⟨x3.trans e4, isI (by rw [hc])⟩
    · rw [if_neg hn] at hc
      rw [show decide ((zval a).sign < (zval b).sign) = false by simpa using hn]
      refine .nil (.condF rfl (.skip (.seq (.region (.asg rfl rfl (.nil (.ret ?_)))))))
      exact .plain [_] Tryz.results143 ⟨rfl, trivial⟩ ⟨x3.trans e4, isI (by rw [hc])⟩
end Go.Proofs.YtccmemilofoamaaGreat

namespace Go.Kx
open Go Go.RowKit
def isAl (o : Oper) : Bool := match o.op with | .alloc _ => true | _ => false
/-- the new cells of a region -/
def AlOk (P : Program) (w0 : World) : List Oper → List Sp → Prop
  | o :: os, s :: ss => (isAl o = true → ∃ t z B, o.op = .alloc t ∧ o.guard = none ∧ zeroOf P t = some z ∧ s = .inr (NewP B t z.cells) ∧ B ≤ w0.heap.size) ∧ AlOk P w0 os ss
  | _, _ => True
theorem AlOk.at_ {P : Program} {w0 : World} : ∀ {os : List Oper} {ss : List Sp}, AlOk P w0 os ss → ∀ (i : Nat) (o : Oper) (s : Sp), os[i]? = some o → ss[i]? = some s → isAl o = true → ∃ t z B, o.op = .alloc t ∧ o.guard = none ∧ zeroOf P t = some z ∧ s = .inr (NewP B t z.cells) ∧ B ≤ w0.heap.size
  | [], ss, _, i, o, s, h1, _, _ => by simp at h1
  | o' :: os, [], _, i, o, s, _, h2, _ => by simp at h2
  | o' :: os, s' :: ss, h, 0, o, s, h1, h2, h3 => by simp at h1 h2; subst h1; subst h2; exact h.1 h3
  | o' :: os, s' :: ss, h, i + 1, o, s, h1, h2, h3 => AlOk.at_ h.2 i o s (by simpa using h1) (by simpa using h2) h3
/-- the slots of the new cells hold different values -/
def Apart (ops : List Oper) (σ : Env) : Prop := ∀ t t' v v', t ≠ t' → (∃ o ∈ ops, isAl o = true ∧ o.dst = some t) → (∃ o ∈ ops, isAl o = true ∧ o.dst = some t') → look σ t = some v → look σ t' = some v' → v ≠ v'
/-- what holds while the head runs -/
structure InvF (N : Nat) (ds : List Deferred) (ops : List Oper) (w0 : World) (h : Nat) (sp : List Sp) (a0 : Act) (listed : Array Bool) (a : Act) (w : World) : Prop where
  size : a.tmps.size = N
  defs : a.defers = ds
  ext : Ext w0 w
  vals : ∀ (i : Nat) (o : Oper) (s : Sp) (t : Tmp), i < h → ops[i]? = some o → sp[i]? = some s → isL listed i → o.dst = some t → Sp.ok s (a.tmps.getD t undef) w
  old : ∀ t, (∀ (i : Nat) (o : Oper), i < h → ops[i]? = some o → isL listed i → o.dst ≠ some t) → a.tmps.getD t undef = a0.tmps.getD t undef
  shut : ∀ (i : Nat) (o : Oper), ops[i]? = some o → isL listed i → ∀ j, edgeTo o j = true → isL listed j
  head : ∀ i, h ≤ i → ¬ isL listed i
  dis : ∀ (i j : Nat) (oi oj : Oper) (t t' : Tmp), i < h → j < h → i ≠ j → ops[i]? = some oi → ops[j]? = some oj → isL listed i → isL listed j → isAl oi = true → isAl oj = true → oi.dst = some t → oj.dst = some t' → a.tmps.getD t undef ≠ a.tmps.getD t' undef
  low : ∀ (i : Nat) (o : Oper) (t : Tmp), i < h → ops[i]? = some o → isL listed i → isAl o = true → o.dst = some t → ∃ b, a.tmps.getD t undef = .pointer (some ⟨b, 0, none⟩) ∧ b < w.heap.size
section
variable {P : Program} {ro : Option Nat} {N : Nat} {ds : List Deferred} {ops : List Oper} {K : Env → World → Prop} {σ0 : Env} {w0 : World} {h : Nat} {sp : List Sp} {deps : List (List (Tmp × Nat))} {a0 : Act}
section
variable {Q : Exit → Act → World → Prop}
set_option maxHeartbeats 1600000 in
theorem parF_any (hchk : okPar ops N h deps = true) (ha0 : Agr N σ0 ds a0) (hob : Obs P w0 σ0 (ops.take h) sp (ops.take h) sp deps) (hal : AlOk P w0 (ops.take h) sp)
    (hfin : ∀ w, Ext w0 w → finQ (fun σ w => Apart (ops.take h) σ → ∀ a, Agr N σ ds a → wpListIn (wf ro) 0 P ops.toArray Q (ops.drop h) a w) w (ops.take h) sp σ0) :
    ∀ (fuel : Nat) (listed : Array Bool) (a : Act) (w : World), listed.size = ops.length → cnt listed ops.length ≤ fuel →
      (InvF N ds ops w0 h sp a0 listed a w ∨ ∃ p, h ≤ p ∧ p ≤ ops.length ∧ (∀ j, j < p → isL listed j) ∧ (∀ j, p ≤ j → ¬ isL listed j) ∧ wpListIn (wf ro) 0 P ops.toArray Q (ops.drop p) a w) →
      wpAnyIn (wf ro) 0 P .any ops.toArray Q fuel listed a w := by
  simp only [okPar, Bool.and_eq_true, List.all_eq_true, Nat.ble_eq] at hchk
  obtain ⟨⟨⟨hback, hnd⟩, hall⟩, hle⟩ := hchk
  have hback' : ∀ (i : Nat) (o : Oper), ops[i]? = some o → ∀ j, edgeTo o j = true → j < i := by
    intro i o hi j hj
    have := hback (o, i) (by rw [List.mem_zipIdx_iff_getElem?]; exact hi)
    obtain ⟨e, he, hb, rfl⟩ := edgeTo_spec.1 hj
    simp only [okBack, Array.all_eq_true', Bool.or_eq_true, Bool.not_eq_true', Nat.blt_eq] at this
    rcases this e he with h | h
    · rw [hb] at h; cases h
    · exact h
  have hop : ∀ (i : Nat) (o : Oper), i < h → ops[i]? = some o → okOp (ops.take h) N i o (deps.getD i []) = true := by
    intro i o hi ho
    have := hall (o, i) (by rw [List.mem_zipIdx_iff_getElem?]; exact ho)
    simpa [Nat.blt_eq, hi] using this
  have htail : ∀ (listed : Array Bool), (∀ (i : Nat) (o : Oper), ops[i]? = some o → isL listed i → ∀ j, edgeTo o j = true → isL listed j) → ∀ (i : Nat) (o : Oper), h ≤ i → ops[i]? = some o → (∀ j, edgeTo o j = true → isL listed j) → ∀ j, j < i → isL listed j := by
    intro listed shut i o hi ho hed j hj
    have := hall (o, i) (by rw [List.mem_zipIdx_iff_getElem?]; exact ho)
    have hn : Nat.blt i h = false := by
      cases hh : Nat.blt i h with
      | false => rfl
      | true => rw [Nat.blt_eq] at hh; omega
    simp only [hn, Bool.false_eq_true, if_false, okTail, List.all_eq_true, List.mem_range] at this
    obtain ⟨x, hx, hxe⟩ := List.any_eq_true.1 (this j hj)
    have hxj : j = x := Nat.eq_of_beq_eq_true hxe
    subst hxj
    refine closeB_listed shut _ _ (fun k hk => ?_) j hx
    simp only [edgesOf, List.mem_filterMap] at hk
    obtain ⟨e, he, hb⟩ := hk
    have hbb : Region.binds .any e = true := by
      cases h' : Region.binds .any e with
      | true => rfl
      | false => rw [h'] at hb; simp at hb
    rw [hbb] at hb
    simp at hb
    exact hed k (edgeTo_spec.2 ⟨e, by simpa using he, hbb, hb⟩)
  have htake : ∀ i, i < h → (ops.take h)[i]? = ops[i]? := fun i hi => by rw [List.getElem?_take, if_pos hi]
  have hlen := Obs.len hob
  have hlt : (ops.take h).length = h := by simp; omega
  -- all of the head has run
  have toB : ∀ listed a w, InvF N ds ops w0 h sp a0 listed a w → (∀ i, i < h → isL listed i) → wpListIn (wf ro) 0 P ops.toArray Q (ops.drop h) a w := by
    intro listed a w hI hl
    have hmem : ∀ o ∈ ops.take h, ∃ i, i < h ∧ ops[i]? = some o := by
      intro o ho
      obtain ⟨i, hi⟩ := List.mem_iff_getElem?.1 ho
      have hi' : i < h := by
        rcases Nat.lt_or_ge i h with hh | hh
        · exact hh
        · rw [List.getElem?_eq_none (by omega)] at hi; cases hi
      exact ⟨i, hi', by rw [← htake i hi']; exact hi⟩
    have hsome : ∀ o ∈ ops.take h, dOk N o.dst = true ∧ o.dst.isSome = true := by
      intro o ho
      obtain ⟨i, hi, ho⟩ := hmem o ho
      have := hop i o hi ho
      simp only [okOp, Bool.and_eq_true] at this
      exact ⟨this.1.1.1.1.1, this.1.1.1.1.2⟩
    obtain ⟨σ', hag, hk⟩ := finQ_use (N := N) (ds := ds) (ops.take h) sp σ0 a hlen (hfin w hI.ext) (fun o ho => (hsome o ho).1)
      (fun i o s t h1 h2 h3 => by
        have hi' : i < h := by
          rcases Nat.lt_or_ge i h with hh | hh
          · exact hh
          · rw [List.getElem?_eq_none (by omega)] at h1; cases h1
        exact hI.vals i o s t hi' (by rw [← htake i hi']; exact h1) h2 (hl i hi') h3)
      (fun t v hv hno => by
        rw [hI.old t (fun i o hi ho _ => hno o (List.mem_iff_getElem?.2 ⟨i, by rw [htake i hi]; exact ho⟩))]
        exact ha0.slot t v hv)
      (nodupB_spec hnd) hI.size hI.defs
      (fun i o s h1 h2 h3 => by
        have := (hsome o (List.mem_iff_getElem?.2 ⟨i, h1⟩)).2
        rw [h3] at this; cases this)
    refine hk (fun t t' v v' htt ⟨o, ho, hoa, hod⟩ ⟨o', ho', hoa', hod'⟩ hv hv' => ?_) a hag
    obtain ⟨i, hi, hio⟩ := hmem o ho
    obtain ⟨j, hj, hjo⟩ := hmem o' ho'
    have hij : i ≠ j := by
      intro e; subst e; rw [hio] at hjo; cases hjo; rw [hod] at hod'; cases hod'; exact htt rfl
    have := hI.dis i j o o' t t' hi hj hij hio hjo (hl i hi) (hl j hj) hoa hoa' hod hod'
    rw [hag.slot t v hv, hag.slot t' v' hv'] at this
    exact this
  -- where nothing is ready all has run
  have allL : ∀ listed : Array Bool, listed.size = ops.length → Region.ready .any ops.toArray listed = [] → ∀ i, i < ops.length → isL listed i := by
    intro listed hsz hr i
    induction i using Nat.strongRecOn with
    | _ i ih =>
      intro hi
      by_cases hh : isL listed i
      · exact hh
      · have : i ∈ Region.ready .any ops.toArray listed := by
          refine mem_ready.2 ⟨by simpa using hi, (getD_of_isL (by omega)).2 hh, fun o ho j hj => ?_⟩
          have := hback' i o (by simpa using ho) j hj
          exact ih j this (by omega)
        rw [hr] at this; cases this
  have done : ∀ listed a w, (∀ i, i < ops.length → isL listed i) → (InvF N ds ops w0 h sp a0 listed a w ∨ ∃ p, h ≤ p ∧ p ≤ ops.length ∧ (∀ j, j < p → isL listed j) ∧ (∀ j, p ≤ j → ¬ isL listed j) ∧ wpListIn (wf ro) 0 P ops.toArray Q (ops.drop p) a w) → Q .normal a w := by
    intro listed a w hl hJ
    rcases hJ with hI | ⟨p, hp, hpn, _, hno, hwp⟩
    · have hn : ops.length ≤ h := Nat.le_of_not_lt fun hh => hI.head h (Nat.le_refl _) (hl h hh)
      have := toB listed a w hI (fun i hi => hl i (by omega))
      rw [List.drop_of_length_le hn] at this
      exact this
    · have hn : ops.length ≤ p := Nat.le_of_not_lt fun hh => hno p (Nat.le_refl _) (hl p hh)
      rw [List.drop_of_length_le hn] at hwp
      exact hwp
  intro fuel
  induction fuel with
  | zero =>
    intro listed a w hsz hc hJ
    have hl : ∀ i, i < ops.length → isL listed i := by
      intro i hi
      have := cnt_zero listed ops.length (by omega) i hi
      by_cases hh : isL listed i
      · exact hh
      · have := (getD_of_isL (by omega : i < listed.size)).2 hh
        simp_all
    refine ⟨?_, done listed a w hl hJ⟩
    refine List.eq_nil_iff_forall_not_mem.2 fun i hi => ?_
    obtain ⟨h1, h2, _⟩ := mem_ready.1 hi
    have h1' : i < ops.length := by simpa using h1
    exact (getD_of_isL (by omega)).1 h2 (hl i h1')
  | succ fuel ih =>
    intro listed a w hsz hc hJ
    refine ⟨fun hr => done listed a w (allL listed hsz hr) hJ, fun i hi => ?_⟩
    obtain ⟨hin, hun, hed⟩ := mem_ready.1 hi
    have hin' : i < ops.length := by simpa using hin
    have hunl : ¬ isL listed i := (getD_of_isL (by omega)).1 hun
    obtain ⟨o, ho⟩ : ∃ o, ops[i]? = some o := ⟨_, List.getElem?_eq_getElem hin'⟩
    have hed' : ∀ j, edgeTo o j = true → isL listed j := hed o (by simpa using ho)
    have hsz' : (listed.setIfInBounds i true).size = ops.length := by simpa using hsz
    have hcnt : cnt (listed.setIfInBounds i true) ops.length ≤ fuel := by
      have := cnt_set_lt listed i hun ops.length hin'
      omega
    -- the tail's next
    have tailStep : h ≤ i → (∀ j, j < i → isL listed j) → (∀ j, i ≤ j → ¬ isL listed j) → wpListIn (wf ro) 0 P ops.toArray Q (ops.drop i) a w →
        wpOpIn (wf ro) 0 P ops.toArray Q i (wpAnyIn (wf ro) 0 P .any ops.toArray Q fuel (listed.setIfInBounds i true)) a w := by
      intro hhi hlow hhigh hwp
      have hd : ops.drop i = o :: ops.drop (i + 1) := by
        rw [List.drop_eq_getElem_cons hin']
        congr 1
        have := List.getElem?_eq_getElem hin'
        rw [ho] at this; exact (Option.some.inj this).symm
      rw [hd] at hwp
      have hw2 : wpOpIn (wf ro) 0 P ops.toArray Q i (wpListIn (wf ro) 0 P ops.toArray Q (ops.drop (i + 1))) a w := by
        unfold wpOpIn
        simp only [List.getElem?_toArray, ho]
        simpa only [wpListIn] using hwp
      refine wpOpIn_mono (fun a' w' hw' => ih _ a' w' hsz' hcnt (.inr ⟨i + 1, by omega, by omega, fun j hj => ?_, fun j hj => ?_, hw'⟩)) hw2
      · rw [isL_set (by omega)]
        by_cases e : i = j
        · exact .inl e
        · exact .inr (hlow j (by omega))
      · rw [isL_set (by omega)]
        rintro (e | e)
        · omega
        · exact hhigh j (by omega) e
    rcases hJ with hI | ⟨p, hp, hpn, hlow, hhigh, hwp⟩
    · rcases Nat.lt_or_ge i h with hih | hih
      · -- an operation of the head
        have hok := hop i o hih ho
        simp only [okOp, Bool.and_eq_true, List.all_eq_true] at hok
        obtain ⟨⟨⟨⟨⟨hdk, hds⟩, hgd⟩, hndf⟩, hdep⟩, hrd⟩ := hok
        obtain ⟨s, d, hs, hd, hq⟩ := Obs.at_ hob i o (by rw [htake i hih]; exact ho)
        have hdd : deps.getD i [] = d := by simp [hd]
        rw [hdd] at hdep hrd hgd
        obtain ⟨t0, ht0⟩ := Option.isSome_iff_exists.1 hds
        obtain ⟨σ', hG, hσ'⟩ := depQ_use (val := fun t => a.tmps.getD t undef) d σ0 (hq w hI.ext) (fun p hp => by
          have h1 := hdep p hp
          obtain ⟨h2, h3⟩ := h1
          split at h3
          · rename_i oj hoj
            have hlj := hed' _ h2
            have hjh : p.2 < h := Nat.lt_of_not_le fun hh => hI.head _ hh hlj
            obtain ⟨s', hs'⟩ : ∃ s', sp[p.2]? = some s' := ⟨_, List.getElem?_eq_getElem (by omega)⟩
            exact ⟨s', hs', hI.vals p.2 oj s' p.1 hjh (by rw [← htake _ hjh]; exact hoj) hs' hlj (by simpa using h3)⟩
          · cases h3)
        have hopnd : ∀ x v, x ∈ o.op.operands → ev σ' x = some v → a.eval x = v := by
          intro x v hx hv
          cases x with
          | const u => simpa [Kx.ev, Act.eval] using hv
          | global g => simpa [Kx.ev, Act.eval] using hv
          | func f => simpa [Kx.ev, Act.eval] using hv
          | tmp t =>
            rcases hσ' t v hv with e | ⟨hv0, hnd'⟩
            · exact e.symm
            · have hmem : t ∈ tmpsOf o := by
                unfold tmpsOf
                rw [List.mem_filterMap]
                exact ⟨.tmp t, by simpa using hx, rfl⟩
              have hc := hrd t hmem
              simp only [Bool.or_eq_true] at hc
              rcases hc with hc | hc
              · obtain ⟨p, hp, hpt⟩ := List.any_eq_true.1 hc
                exact absurd (by simpa using hpt) (hnd' p hp)
              · show a.tmps.getD t undef = v
                rw [hI.old t (fun i' o' hi' ho' hl' hdst => ?_), ha0.slot t v hv0]
                have := List.all_eq_true.1 hc (o', i') (by rw [List.mem_zipIdx_iff_getElem?, htake i' hi']; exact ho')
                simp only [Bool.or_eq_true] at this
                rcases this with (h1 | h1) | h1
                · simp [hdst] at h1
                · have : i' = i := by simpa using h1
                  subst this; exact hunl hl'
                · exact hunl (hI.shut i' o' ho' hl' i h1)
        -- what the frame is behind it
        have next : ∀ v w', Ext w w' → Sp.ok s v w' → (isAl o = true → ∃ b, v = .pointer (some ⟨b, 0, none⟩) ∧ w.heap.size ≤ b ∧ b < w'.heap.size) → wpAnyIn (wf ro) 0 P .any ops.toArray Q fuel (listed.setIfInBounds i true) (a.put o.dst v) w' := by
          intro v w' he hv hfr
          have htN : t0 < N := by simpa [ht0, dOk, Nat.blt_eq] using hdk
          have hself : (a.put o.dst v).tmps.getD t0 undef = v := by simp [ht0, Act.put, hI.size, htN]
          have hinj : ∀ (j : Nat) (oj : Oper) (t : Tmp), i ≠ j → j < h → ops[j]? = some oj → oj.dst = some t → (a.put o.dst v).tmps.getD t undef = a.tmps.getD t undef := by
            intro j oj t e hj hoj hdj
            have hne : t0 ≠ t := by
              intro e2
              subst e2
              exact e (dst_inj (nodupB_spec hnd) (by rw [htake i hih]; exact ho) (by rw [htake j hj]; exact hoj) ht0 hdj)
            simp [ht0, Act.put, Array.getElem?_setIfInBounds_ne hne]
          refine ih _ _ _ hsz' hcnt (.inl ⟨by simpa [ht0, Act.put] using hI.size, by simpa [ht0, Act.put] using hI.defs, hI.ext.trans he, ?_, ?_, ?_, ?_, ?_, ?_⟩)
          · intro j oj sj t hj hoj hsj hlj hdj
            rw [isL_set (by omega)] at hlj
            have htN : t0 < N := by simpa [ht0, dOk, Nat.blt_eq] using hdk
            by_cases e : i = j
            · subst e
              rw [ho] at hoj; cases hoj
              rw [hs] at hsj; cases hsj
              rw [ht0] at hdj; cases hdj
              have : (a.put o.dst v).tmps.getD t0 undef = v := by simp [ht0, Act.put, hI.size, htN]
              rw [this]; exact hv
            · have hlj' := hlj.resolve_left e
              have hne : t0 ≠ t := by
                intro e2
                subst e2
                have hnd2 := nodupB_spec hnd
                have : ∀ (l : List Oper) (x y : Nat) (ox oy : Oper), (dsts l).Nodup → l[x]? = some ox → l[y]? = some oy → ox.dst = some t0 → oy.dst = some t0 → x = y := by
                  intro l
                  induction l with
                  | nil => intro x y ox oy _ hx; simp at hx
                  | cons c l ihl =>
                    intro x y ox oy hn hx hy dx dy
                    have hin : ∀ (z : Nat) (oz : Oper), l[z]? = some oz → oz.dst = some t0 → t0 ∈ dsts l := fun z oz hz dz => List.mem_filterMap.2 ⟨oz, List.mem_iff_getElem?.2 ⟨z, hz⟩, dz⟩
                    have hcons : ∀ oc : Oper, oc = c → oc.dst = some t0 → t0 ∉ dsts l ∧ (dsts l).Nodup := by
                      rintro oc rfl hc
                      have : (t0 :: dsts l).Nodup := by simpa [dsts, hc] using hn
                      exact List.nodup_cons.1 this
                    cases x with
                    | zero =>
                      simp at hx
                      cases y with
                      | zero => rfl
                      | succ y => exact absurd (hin y oy (by simpa using hy) dy) (hcons ox hx.symm dx).1
                    | succ x =>
                      cases y with
                      | zero => simp at hy; exact absurd (hin x ox (by simpa using hx) dx) (hcons oy hy.symm dy).1
                      | succ y =>
                        have hn' : (dsts l).Nodup := by
                          cases hc : c.dst with
                          | none => simpa [dsts, hc] using hn
                          | some u => have : (u :: dsts l).Nodup := by simpa [dsts, hc] using hn
                                      exact (List.nodup_cons.1 this).2
                        exact congrArg (· + 1) (ihl x y ox oy hn' (by simpa using hx) (by simpa using hy) dx dy)
                exact e (this (ops.take h) i j o oj hnd2 (by rw [htake i hih]; exact ho) (by rw [htake j hj]; exact hoj) ht0 hdj)
              have : (a.put o.dst v).tmps.getD t undef = a.tmps.getD t undef := by simp [ht0, Act.put, Array.getElem?_setIfInBounds_ne hne]
              rw [this]
              exact Sp.ok_ext (hI.vals j oj sj t hj hoj hsj hlj' hdj) he
          · intro t hno
            have hne : t0 ≠ t := fun e => hno i o hih ho ((isL_set (by omega)).2 (.inl rfl)) (e ▸ ht0)
            have : (a.put o.dst v).tmps.getD t undef = a.tmps.getD t undef := by simp [ht0, Act.put, Array.getElem?_setIfInBounds_ne hne]
            rw [this]
            exact hI.old t fun j oj hj hoj hlj => hno j oj hj hoj ((isL_set (by omega)).2 (.inr hlj))
          · intro j oj hoj hlj k hk
            rw [isL_set (by omega)] at hlj ⊢
            by_cases e : i = j
            · subst e
              rw [ho] at hoj; cases hoj
              exact .inr (hed' k hk)
            · exact .inr (hI.shut j oj hoj (hlj.resolve_left e) k hk)
          · intro j hj
            rw [isL_set (by omega)]
            rintro (e | e)
            · omega
            · exact hI.head j hj e
          · intro x y ox oy t t' hx hy hxy hox hoy hlx hly hax hay htx hty
            rw [isL_set (by omega)] at hlx hly
            by_cases ex : i = x
            · subst ex
              rw [ho] at hox; cases hox
              rw [ht0] at htx; cases htx
              obtain ⟨b, hb, hb1, hb2⟩ := hfr hax
              rw [hself, hinj y oy t' hxy hy hoy hty]
              obtain ⟨b', hb', hlt'⟩ := hI.low y oy t' hy hoy (hly.resolve_left hxy) hay hty
              rw [hb, hb']
              intro hh; injection hh with hh; injection hh with hh; injection hh with hh; omega
            · by_cases ey : i = y
              · subst ey
                rw [ho] at hoy; cases hoy
                rw [ht0] at hty; cases hty
                obtain ⟨b, hb, hb1, hb2⟩ := hfr hay
                rw [hself, hinj x ox t ex hx hox htx]
                obtain ⟨b', hb', hlt'⟩ := hI.low x ox t hx hox (hlx.resolve_left ex) hax htx
                rw [hb, hb']
                intro hh; injection hh with hh; injection hh with hh; injection hh with hh; omega
              · rw [hinj x ox t ex hx hox htx, hinj y oy t' ey hy hoy hty]
                exact hI.dis x y ox oy t t' hx hy hxy hox hoy (hlx.resolve_left ex) (hly.resolve_left ey) hax hay htx hty
          · intro x ox t hx hox hlx hax htx
            rw [isL_set (by omega)] at hlx
            by_cases ex : i = x
            · subst ex
              rw [ho] at hox; cases hox
              rw [ht0] at htx; cases htx
              obtain ⟨b, hb, hb1, hb2⟩ := hfr hax
              exact ⟨b, by rw [hself]; exact hb, hb2⟩
            · obtain ⟨b', hb', hlt'⟩ := hI.low x ox t hx hox (hlx.resolve_left ex) hax htx
              exact ⟨b', by rw [hinj x ox t ex hx hox htx]; exact hb', by have := he.size; omega⟩
        unfold wpOpIn
        simp only [List.getElem?_toArray, ho]
        -- run or passed over
        have hal' := hal.at_ i o s (by rw [htake i hih]; exact ho) hs
        by_cases hisa : isAl o = true
        · obtain ⟨ta, za, Ba, hopa, hga, hza, hsa, hBa⟩ := hal' hisa
          rw [if_pos (by simp [Region.wanted, hga])]
          subst hsa
          have hg : Gv P o σ' w (fun v w' => ∃ b, v = .pointer (some ⟨b, 0, none⟩) ∧ New w w' b ta za.cells) := by
            obtain ⟨d1, op1, ty1, pos1, af1, g1⟩ := o
            have hopa : op1 = .alloc ta := hopa
            subst hopa
            exact g_alloc hza
          refine hg.wp hopnd fun v w' hv => ?_
          obtain ⟨b, hb, hn⟩ := hv
          have h2 := hn.2.2.1
          have h3 := hn.2.2.2
          exact next v w' hn.1 (fun w'' e => ⟨b, hb, by have := hI.ext.size; omega, hn.2.1.ext e⟩) (fun _ => ⟨b, hb, by omega, by omega⟩)
        have run : Gv P o σ' w (fun v w' => Ext w w' ∧ Sp.ok s v w') → o.wpIn (wf ro) 0 P a w (wpAnyIn (wf ro) 0 P .any ops.toArray Q fuel (listed.setIfInBounds i true)) Q :=
          fun hg => hg.wp hopnd fun v w' hv => next v w' hv.1 hv.2 (fun h => absurd h hisa)
        cases hgu : o.guard with
        | none =>
          simp only [gOk, hgu] at hG
          rw [if_pos (by simp [Region.wanted, hgu])]
          exact run hG
        | some g =>
          obtain ⟨j, b⟩ := g
          simp only [hgu] at hgd
          obtain ⟨p, hp, hpj⟩ := List.any_eq_true.1 hgd
          have hpj' : p.2 = j := by simpa using hpj
          have h1 := hdep p hp
          obtain ⟨h2, h3⟩ := h1
          rw [hpj'] at h2 h3
          split at h3
          · rename_i oj hoj
            have hdst : oj.dst = some p.1 := by simpa using h3
            have hjh : j < h := by
              rcases Nat.lt_or_ge j h with hh | hh
              · exact hh
              · rw [List.getElem?_eq_none (by omega)] at hoj; cases hoj
            have hoj' : ops[j]? = some oj := by rw [← htake j hjh]; exact hoj
            simp only [gOk, hgu, hoj, Option.bind_some, hdst] at hG
            have hyv : ∀ v, look σ' p.1 = some v → a.tmps.getD p.1 undef = v := by
              intro v hv
              rcases hσ' p.1 v hv with e | ⟨_, hn⟩
              · exact e.symm
              · exact absurd rfl (hn p hp)
            have hpN : p.1 < a.tmps.size := by
              have := hop j oj hjh hoj'
              simp only [okOp, Bool.and_eq_true] at this
              have := this.1.1.1.1.1
              rw [hdst] at this
              rw [hI.size]; simpa [dOk, Nat.blt_eq] using this
            have hyd : ∀ v, look σ' p.1 = some v → yielded ops.toArray a.tmps j = match v with | .bool b => some b | _ => none := by
              intro v hv
              have e1 := hyv v hv
              have e2 : a.tmps[p.1]? = some v := by
                rw [Array.getElem?_eq_getElem hpN]
                simp [Array.getElem?_eq_getElem hpN] at e1
                exact congrArg some e1
              unfold yielded
              simp only [List.getElem?_toArray, hoj', Option.bind_some, hdst, e2]
              cases v <;> rfl
            have skip : (∃ v, look σ' p.1 = some v ∧ (match v with | .bool b => some b | _ => none) ≠ some b) → Sp.ok s undef w →
                (if Region.wanted o (yielded ops.toArray a.tmps) = true then o.wpIn (wf ro) 0 P a w (wpAnyIn (wf ro) 0 P .any ops.toArray Q fuel (listed.setIfInBounds i true)) Q
                  else (∀ f, o.about P w a.eval = some f → (wf ro).fn f) ∧ wpAnyIn (wf ro) 0 P .any ops.toArray Q fuel (listed.setIfInBounds i true) (a.put o.dst undef) w) := by
              rintro ⟨v, hv, hne⟩ hok
              rw [if_neg (by simp only [Region.wanted, hgu, hyd v hv]; simpa using hne)]
              exact ⟨fun _ _ => trivial, next undef w (Ext.refl w) hok (fun h => absurd h hisa)⟩
            split at hG
            · exact hG.elim
            · rename_i c hc
              cases hx : Bool.xor c b with
              | true =>
                rw [hx] at hG
                refine skip ⟨.bool c, hc, ?_⟩ hG
                intro e
                simp only [Option.some.injEq] at e
                subst e; simp at hx
              | false =>
                rw [hx] at hG
                have hcb : c = b := by cases c <;> cases b <;> simp_all
                rw [if_pos (by simp only [Region.wanted, hgu, hyd _ hc, hcb]; simp)]
                exact run hG
            · rename_i v hnb hv
              refine skip ⟨v, hv, ?_⟩ hG
              intro e
              cases v with
              | bool c => exact hnb c rfl
              | _ => cases e
          · cases h3
      · have hall' : ∀ j, j < i → isL listed j := fun j hj => htail listed hI.shut i o hih ho hed' j hj
        have e : i = h := by
          rcases Nat.lt_or_ge h i with hh | hh
          · exact absurd (hall' h hh) (hI.head h (Nat.le_refl _))
          · omega
        subst e
        exact tailStep (Nat.le_refl _) hall' hI.head (toB listed a w hI hall')
    · have hpi : p = i := by
        have h1 : p ≤ i := Nat.le_of_not_lt fun hh => hunl (hlow i hh)
        rcases Nat.lt_or_ge p i with hh | hh
        · exact absurd (htail listed (fun k ok hok hlk j hj => hlow j (by have := hback' k ok hok j hj; have : k < p := Nat.lt_of_not_le (fun h => hhigh k h hlk); omega)) i o (by omega) ho hed' p hh) (hhigh p (Nat.le_refl _))
        · omega
      subst hpi
      exact tailStep hp hlow hhigh hwp
end

/-- **a region that draws its order** -/
theorem WC.parF {Q : Pst} {id : Nat} (hm : P.follows .mixedOrders = true) (h : Nat) (sp : List Sp) (deps : List (List (Tmp × Nat))) (hchk : okPar ops N h deps = true)
    (hob : Obs P w0 σ0 (ops.take h) sp (ops.take h) sp deps) (hal : AlOk P w0 (ops.take h) sp)
    (hfin : ∀ w, Ext w0 w → finQ (fun σ w => Apart (ops.take h) σ → WL P ro N ds ops.toArray (fun σ w => Q .normal σ ds w) (ops.drop h) σ w) w (ops.take h) sp σ0) : WC P ro N Q (.region id ops.toArray true) σ0 ds w0 := by
  refine ⟨fun a ha => ?_⟩
  have main : (Code.region id ops.toArray true).wpIn (wf ro) 0 P (fun e a w => e = .normal ∧ ∃ σ', Agr N σ' ds a ∧ Q .normal σ' ds w) a w0 := by
    refine wpIn_region_draw fun t => ?_
    simp only [Region.schedule, hm, Bool.true_or, if_true]
    refine wpAnyIn_sound ops.toArray.size t _ a _ ?_
    have hfalse : ∀ i, ¬ isL (Array.replicate ops.toArray.size false) i := by
      intro i
      unfold isL
      by_cases hi : i < ops.length <;> simp [hi]
    refine parF_any hchk ha hob hal (fun w he => ?_) _ _ _ _ (by simp) (by simpa using cnt_le _ _) (.inl ⟨ha.size, ha.defs, (Below.refl _ w0).drew, fun i o s t _ _ _ hl => absurd hl (hfalse i), fun t _ => rfl, fun i o _ hl => absurd hl (hfalse i), fun i _ => hfalse i, fun i j oi oj t t' _ _ _ _ _ hl => absurd hl (hfalse i), fun i o t _ _ hl => absurd hl (hfalse i)⟩)
    have key : ∀ (os : List Oper) (ss : List Sp) (σ : Env), finQ (fun σ w => Apart (ops.take h) σ → WL P ro N ds ops.toArray (fun σ w => Q .normal σ ds w) (ops.drop h) σ w) w os ss σ →
        finQ (fun σ w => Apart (ops.take h) σ → ∀ a, Agr N σ ds a → wpListIn (wf ro) 0 P ops.toArray (fun e a w => e = .normal ∧ ∃ σ', Agr N σ' ds a ∧ Q .normal σ' ds w) (ops.drop h) a w) w os ss σ := by
      intro os
      induction os with
      | nil => intro ss σ hq; exact fun hA => WL.out (hq hA)
      | cons o os ih =>
        intro ss σ hq
        cases ss with
        | nil => exact fun hA => WL.out (hq hA)
        | cons s ss =>
          cases s with
          | inl v => exact ih ss _ hq
          | inr p => exact fun v hv => ih ss _ (hq v hv)
    exact key _ _ _ (hfin w he)
  refine wpIn_mono main ?_
  rintro e a' w' ⟨rfl, σ', hag, hk⟩
  exact ⟨σ', ds, hag, hk⟩
end
end Go.Kx

namespace Go.Proofs.YtccmemilofoamaaGreat
open Go Go.Kx Go.RowKit

theorem E_ref02_one : Ent Tryz.prog 144 := ent_of Tryz.func144 (by kernel_rfl) rfl
theorem ref02_one_c {S : Nat → Prop} {w : World} (up : Up S w) : CR Tryz.prog 144 #[] w (eZ.at S (zc 1)) := by
  refine enter Tryz.func144 rfl Tryz.ntmps144 rfl ?_
  refine .seq (.region (.alloc rfl zero_Z fun w1 b1 n1 => .nil ?_))
  obtain ⟨e1, k1, hb1, hs1⟩ := n1
  have hS : ¬ Sx S w.heap.size w1.heap.size b1 := Sx.no (by omega) (by omega)
  have up1 : Up (Sx S w.heap.size w1.heap.size) w1 := Sx.up up (Nat.le_refl _) e1.size
  refine .seq (.region (.call _ rfl E_ref01_From rfl (ref01_From_c up1 (by decide) (by decide)) fun v2 w2 e2 h2 => ?_))
  refine .storeA (E := eZ) ty_Z rfl rfl (k1.ext e2) rfl rfl h2 hS fun w5 k5 u5 h5 => .nil (.ret ?_)
  exact .cell Tryz.results144 rfl ty_Z rfl rfl k5 h5 ⟨u5.below (e1.trans e2) (by omega), h5.out⟩

theorem E_ref02_den : Ent Tryz.prog 111 := ent_of Tryz.func111 (by kernel_rfl) rfl
theorem ref02_den_c {S : Nat → Prop} {w : World} {v : Value} {q : QV} {L : Nat} (up : Up S w) (h : eQ.R S w v q) (hl : qok L q) (hL : L ≤ 1000000000) : CR Tryz.prog 111 #[v] w (eZ.at S (zc (pd q))) := by
  obtain ⟨s, t, rfl, hn, hd⟩ := eQ_parts h
  refine enter Tryz.func111 rfl Tryz.ntmps111 rfl ?_
  refine .seq (.region (.box rfl rfl fun w1 b1 n1 => .alloc rfl zero_Z fun w2 b2 n2 => .nil ?_))
  obtain ⟨e1, k1, hb1, hs1⟩ := n1
  obtain ⟨e2, k2, hb2, hs2⟩ := n2
  have x2 := e1.trans e2
  have k1 := k1.ext e2
  have hS : ¬ Sx S w.heap.size w2.heap.size b2 := Sx.no (by omega) (by omega)
  have up2 : Up (Sx S w.heap.size w2.heap.size) w2 := Sx.up up (Nat.le_refl _) x2.size
  have hd2 := (ER.par eZ hd w2.heap.size).ext x2
  refine .seq (.seq (.region (.fa fld_Q1 rfl rfl (.ldN [.bool q.den.neg, t] ty_Z rfl rfl k1 two_off ?_))))
  refine .call _ rfl E_ref01_Sign rfl (ref01_Sign_c up2 hd2 (Nat.le_trans hl.2 hL)) fun v3 w3 e3 h3 => ?_
  subst h3
  have hp : zval q.den ≠ 0 → pd q = (val q.den.w : Nat) := by
    intro h0
    have := zval_natAbs q.den
    unfold pd; rw [if_neg h0]; split <;> omega
  by_cases h0 : zval q.den = 0
  · refine .eqlT rfl rfl rfl (by rw [h0]; rfl) (.nil (.condT rfl (.seq (.region ?_))))
    refine .call _ rfl E_ref02_one rfl (ref02_one_c (up2.ext e3.size)) fun v4 w4 e4 h4 => ?_
    refine .storeA (E := eZ) ty_Z rfl rfl ((k2.ext e3).ext e4) rfl rfl h4 hS fun w5 k5 u5 h5 => .nil (.ret ?_)
    exact .cell Tryz.results111 rfl ty_Z rfl rfl k5 h5 ⟨u5.below ((x2.trans e3).trans e4) (by omega), by rw [show pd q = 1 by unfold pd; rw [if_pos h0]]; exact h5.out⟩
  · refine .eqlF rfl rfl rfl (fun h => h0 (Int.sign_eq_zero_iff_zero.1 h)) (.nil (.condF rfl (.skip (.seq (.region (.fa fld_Q1 rfl rfl (.ldN [.bool q.den.neg, t] ty_Z rfl rfl (k1.ext e3) two_off ?_)))))))
    refine .call _ rfl E_ref01_Abs rfl (ref01_Abs_c (up2.ext e3.size) (ER.ext eZ hd2 e3) (Nat.le_trans hl.2 hL)) fun v4 w4 e4 h4 => ?_
    refine .storeA (E := eZ) ty_Z rfl rfl ((k2.ext e3).ext e4) rfl rfl h4 hS fun w5 k5 u5 h5 => .nil (.ret ?_)
    exact .cell Tryz.results111 rfl ty_Z rfl rfl k5 h5 ⟨u5.below ((x2.trans e3).trans e4) (by omega), by rw [hp h0]; exact h5.out⟩

theorem E_ref02_num : Ent Tryz.prog 110 := ent_of Tryz.func110 (by kernel_rfl) rfl
theorem ref02_num_c {S : Nat → Prop} {w : World} {v : Value} {q : QV} {L : Nat} (up : Up S w) (h : eQ.R S w v q) (hl : qok L q) (hL : L ≤ 1000000000) : CR Tryz.prog 110 #[v] w (eZ.at S (zc (pn q))) := by
  obtain ⟨s, t, rfl, hn, hd⟩ := eQ_parts h
  refine enter Tryz.func110 rfl Tryz.ntmps110 rfl ?_
  refine .seq (.region (.box rfl rfl fun w1 b1 n1 => .alloc rfl zero_Z fun w2 b2 n2 => .nil ?_))
  obtain ⟨e1, k1, hb1, hs1⟩ := n1
  obtain ⟨e2, k2, hb2, hs2⟩ := n2
  have x2 := e1.trans e2
  have k1 := k1.ext e2
  have hS : ¬ Sx S w.heap.size w2.heap.size b2 := Sx.no (by omega) (by omega)
  have up2 : Up (Sx S w.heap.size w2.heap.size) w2 := Sx.up up (Nat.le_refl _) x2.size
  have hd2 := (ER.par eZ hd w2.heap.size).ext x2
  have hn2 := (ER.par eZ hn w2.heap.size).ext x2
  refine .seq (.seq (.region (.fa fld_Q1 rfl rfl (.ldN [.bool q.den.neg, t] ty_Z rfl rfl k1 two_off ?_))))
  refine .call _ rfl E_ref01_Sign rfl (ref01_Sign_c up2 hd2 (Nat.le_trans hl.2 hL)) fun v3 w3 e3 h3 => ?_
  subst h3
  by_cases h0 : zval q.den < 0
  · refine .lssT rfl rfl rfl (by rw [Int.sign_eq_neg_one_of_neg h0]; decide) (.nil (.condT rfl (.seq (.region (.fa fld_Q0 rfl rfl (.ldN [.bool q.num.neg, s] ty_Z rfl rfl (k1.ext e3) two_on ?_))))))
    refine .call _ rfl E_ref01_Neg rfl (ref01_Neg_c (up2.ext e3.size) (ER.ext eZ hn2 e3) (Nat.le_trans hl.1 hL)) fun v4 w4 e4 h4 => ?_
    refine .storeA (E := eZ) ty_Z rfl rfl ((k2.ext e3).ext e4) rfl rfl h4 hS fun w5 k5 u5 h5 => .nil (.ret ?_)
    exact .cell Tryz.results110 rfl ty_Z rfl rfl k5 h5 ⟨u5.below ((x2.trans e3).trans e4) (by omega), by rw [show pn q = -zval q.num by unfold pn; rw [if_pos h0]]; exact h5.out⟩
  · refine .lssF rfl rfl rfl (fun h => h0 (Int.sign_neg_iff.1 h)) (.nil (.condF rfl (.skip (.seq (.region (.fa fld_Q0 rfl rfl (.ldN [.bool q.num.neg, s] ty_Z rfl rfl (k1.ext e3) two_on ?_)))))))
    refine .call _ rfl E_ref01_Least rfl (ref01_Least_c (up2.ext e3.size) (ER.ext eZ hn2 e3) (Nat.le_trans hl.1 (by omega))) fun v4 w4 e4 h4 => ?_
    refine .storeA (E := eZ) ty_Z rfl rfl ((k2.ext e3).ext e4) rfl rfl h4 hS fun w5 k5 u5 h5 => .nil (.ret ?_)
    exact .cell Tryz.results110 rfl ty_Z rfl rfl k5 h5 ⟨u5.below ((x2.trans e3).trans e4) (by omega), by rw [show pn q = zval q.num by unfold pn; rw [if_neg h0]]; exact h5.out⟩

theorem E_ref02_over : Ent Tryz.prog 108 := ent_of Tryz.func108 (by kernel_rfl) rfl
theorem ref02_over_c {S : Nat → Prop} {w : World} {va vb : Value} {a b : ZV} {L : Nat} (up : Up S w) (ha : eZ.R S w va a) (hb : eZ.R S w vb b) (hla : a.w.length ≤ L) (hlb : b.w.length ≤ L) (hL : L ≤ 1000000000) (hb0 : 0 < zval b) : CR Tryz.prog 108 #[va, vb] w (eQ.at S (qc (Rat.divInt (zval a) (zval b)))) := by
  have hda := eZ_dig ha
  have hdb := eZ_dig hb
  have hqc := qc_divInt (n := zval a) hb0
  have hga := zval_natAbs a
  have hgb := zval_natAbs b
  have hBp : 0 < val b.w := by omega
  have hla1 := zval_lt hda hla
  have hlb1 := zval_lt hdb hlb
  rw [hga] at hla1
  rw [hgb] at hlb1
  rw [hga, hgb] at hqc
  have hg1 : Nat.gcd (val a.w) (val b.w) ≤ val b.w := Nat.gcd_le_right _ hBp
  have hg0 : 0 < Nat.gcd (val a.w) (val b.w) := Nat.gcd_pos_of_pos_right _ hBp
  generalize hgg : Nat.gcd (val a.w) (val b.w) = g at *
  obtain ⟨s, rfl, hs⟩ := ha
  obtain ⟨t, rfl, ht⟩ := hb
  have ha : eZ.R S w (.agg #[.bool a.neg, s]) a := ⟨s, rfl, hs⟩
  have hb : eZ.R S w (.agg #[.bool b.neg, t]) b := ⟨t, rfl, ht⟩
  refine enter Tryz.func108 rfl Tryz.ntmps108 rfl ?_
  refine .seq (.region (.box rfl rfl fun w1 b2 n1 => .box rfl rfl fun w2 b3 n2 => .alloc rfl zero_Q fun w3 b4 n3 => .nil ?_))
  obtain ⟨e1, k2, hb2, hs1⟩ := n1
  obtain ⟨e2, k3, hb3, hs2⟩ := n2
  obtain ⟨e3, k4, hb4, hs3⟩ := n3
  have x3 := (e1.trans e2).trans e3
  have k2 := (k2.ext e2).ext e3
  have k3 := k3.ext e3
  have hS4 : ¬ Sx S w.heap.size w3.heap.size b4 := Sx.no (by omega) (by omega)
  have up3 : Up (Sx S w.heap.size w3.heap.size) w3 := Sx.up up (Nat.le_refl _) x3.size
  have ha3 := (ER.par eZ ha w3.heap.size).ext x3
  have hb3' := (ER.par eZ hb w3.heap.size).ext x3
  have hout : ∀ {W : World} {v : Value} {z : QV}, eQ.R (Sx S w.heap.size w3.heap.size) W v z → eQ.R S W v z := fun h => h.out
  generalize hT : Sx S w.heap.size w3.heap.size = T at *
  refine .seq (.region (.ldA ty_Z rfl rfl k2 rfl (.ldA ty_Z rfl rfl k3 rfl ?_)))
  refine .call _ rfl E_ref01_Gcd rfl (ref01_Gcd_c up3 ha3 hb3' (by omega) (by omega)) fun v4 w4 e4 h4 => ?_
  rw [hgg] at h4
  obtain ⟨s4, rfl, hs4⟩ := h4
  have h4 : eZ.R T w4 (.agg #[.bool (zc (g : Nat)).neg, s4]) (zc (g : Nat)) := ⟨s4, rfl, hs4⟩
  refine .alloc rfl zero_Z fun w5 b5 n5 => ?_
  obtain ⟨e5, k5, hb5, hs5⟩ := n5
  refine .storeA (E := eZ) ty_Z rfl rfl k5 rfl rfl (ER.ext eZ (ER.lt eZ h4) e5) (fun h => by have := h.2; omega) fun w6 k5 u6 _ => .nil ?_
  have e46 : Ext w4 w6 := u6.below e5 (by omega)
  have e36 := e4.trans e46
  have up6 := up3.ext e36.size
  have lg : (zc (g : Nat)).w.length ≤ 1000000000 := Nat.le_trans (zc_len (L := L) (by rw [Int.natAbs_natCast]; exact Nat.lt_of_le_of_lt hg1 hlb1)) hL
  have hgz : zval (zc ((g : Nat) : Int)) = (g : Int) := zval_zc _
  -- the two quotients
  refine .seq (.region (.ldA ty_Z rfl rfl (k2.ext e36) rfl (.ldA ty_Z rfl rfl k5 rfl ?_)))
  refine .call _ rfl E_ref01_Div rfl (ref01_Div_c up6 (ER.ext eZ ha3 e36) (ER.ext eZ h4 e46) (by omega) lg (by rw [hgz]; omega)) fun v7 w7 e7 h7 => ?_
  obtain ⟨vq, vr, _, rfl, hq, hr, rfl⟩ := h7
  rw [hgz] at hq hr
  obtain ⟨sq, rfl, hsq⟩ := hq
  have hq : eZ.R T w7 (.agg #[.bool (zc (zval a / (g : Nat))).neg, sq]) (zc (zval a / (g : Nat))) := ⟨sq, rfl, hsq⟩
  refine .mv rfl rfl (.ext rfl rfl rfl (.ext rfl rfl rfl (.ext rfl rfl rfl (.alloc rfl zero_Z fun w8 b6 n8 => .alloc rfl zero_Z fun w9 b7 n9 => ?_))))
  obtain ⟨e8, k6, hb6, hs8⟩ := n8
  obtain ⟨e9, k7, hb7, hs9⟩ := n9
  have e79 := e8.trans e9
  refine .storeA (E := eZ) ty_Z rfl rfl (k6.ext e9) rfl rfl (ER.ext eZ (ER.lt eZ hq) e79) (fun h => by have := h.2; omega) fun w10 k6 u10 _ => ?_
  have e710 : Ext w7 w10 := u10.below e79 (by omega)
  refine .storeA (E := eZ) ty_Z rfl rfl (k7.upd u10 (by omega)) rfl rfl (ER.ext eZ (ER.lt eZ hr) e710) (fun h => by have := h.2; omega) fun w11 k7 u11 _ => .asg rfl rfl (.nil ?_)
  have e711 : Ext w7 w11 := u11.below e710 (by omega)
  have k6 := k6.upd u11 (by omega)
  have e611 := e7.trans e711
  have up11 := up6.ext e611.size
  have k5 := k5.ext e611
  have e311 := e36.trans e611
  refine .seq (.region (.ldA ty_Z rfl rfl (k3.ext e311) rfl (.ldA ty_Z rfl rfl k5 rfl ?_)))
  refine .call _ rfl E_ref01_Div rfl (ref01_Div_c up11 (ER.ext eZ hb3' e311) (ER.ext eZ (ER.ext eZ h4 e46) e611) (by omega) lg (by rw [hgz]; omega)) fun v12 w12 e12 h12 => ?_
  obtain ⟨vd, ve, _, rfl, hd, he, rfl⟩ := h12
  rw [hgz] at hd he
  obtain ⟨sd, rfl, hsd⟩ := hd
  have hd : eZ.R T w12 (.agg #[.bool (zc (zval b / (g : Nat))).neg, sd]) (zc (zval b / (g : Nat))) := ⟨sd, rfl, hsd⟩
  refine .mv rfl rfl (.ext rfl rfl rfl (.ext rfl rfl rfl (.ext rfl rfl rfl (.alloc rfl zero_Z fun w13 b9 n13 => .alloc rfl zero_Z fun w14 b10 n14 => ?_))))
  obtain ⟨e13, k9, hb9, hs13⟩ := n13
  obtain ⟨e14, k10, hb10, hs14⟩ := n14
  have e1214 := e13.trans e14
  refine .storeA (E := eZ) ty_Z rfl rfl (k9.ext e14) rfl rfl (ER.ext eZ (ER.lt eZ hd) e1214) (fun h => by have := h.2; omega) fun w15 k9 u15 _ => ?_
  have e1215 : Ext w12 w15 := u15.below e1214 (by omega)
  refine .storeA (E := eZ) ty_Z rfl rfl (k10.upd u15 (by omega)) rfl rfl (ER.ext eZ (ER.lt eZ he) e1215) (fun h => by have := h.2; omega) fun w16 k10 u16 _ => .asg rfl rfl (.nil ?_)
  have e1216 : Ext w12 w16 := u16.below e1215 (by omega)
  have k9 := k9.upd u16 (by omega)
  have e1116 := e12.trans e1216
  have k6 := k6.ext e1116
  have up16 := up11.ext e1116.size
  have hd := ER.ext eZ hd e1216
  have hq := ER.ext eZ hq (e711.trans e1116)
  have hdl : (zc (zval b / (g : Nat))).w.length ≤ 1000000000 := Nat.le_trans (zc_len (L := L) (Nat.lt_of_le_of_lt (Int.natAbs_ediv_le_natAbs _ _) (by rw [hgb]; exact hlb1))) hL
  have e316 := e311.trans e1116
  have k4 := k4.ext e316
  refine .seq (.seq ?_)
  refine .par follows 4 [.inl (.agg #[.bool (zc (zval b / (g : Nat))).neg, sd]), .inr (eZ.at T (zc 1)), .inl (.int .i64 (cmpI (zval (zc (zval b / (g : Nat)))) (zval (zc 1)))), .inl (.bool (cmpI (zval (zc (zval b / (g : Nat)))) (zval (zc 1)) == 0))] [[], [], [(29, 0), (30, 1)], [(31, 2)]] (by kernel_rfl) ⟨
    fun w e => (v_ldA ty_Z rfl (k9.ext e) rfl).ob, fun w e => (g_call _ E_ref02_one rfl (ref02_one_c (up16.ext e.size))).ob (st_at _ _ _),
    fun w e x hx => g_call _ E_ref01_Cmp rfl (ref01_Cmp_c (up16.ext e.size) (ER.ext eZ hd e) hx hdl (Nat.le_trans (zc_len (L := 1) (by decide)) (by omega))), fun w e => (v_eql rfl rfl).ob, trivial⟩ ?_
  intro w17 e17 x1 hx1
  rw [zval_zc, zval_zc]
  have k4 := k4.ext e17
  have k6 := k6.ext e17
  have k9 := k9.ext e17
  obtain ⟨sq', he1, hsq'⟩ := ER.ext eZ hq e17
  obtain ⟨sd', he2, hsd'⟩ := ER.ext eZ hd e17
  injection he1 with he1
  injection he2 with he2
  simp at he1 he2
  subst he1
  subst he2
  have hxx := x3.trans (e316.trans e17)
  by_cases h1 : zval b / (g : Nat) = 1
  · rw [show (cmpI (zval b / (g : Nat)) 1 == 0) = true by rw [h1]; decide]
    rw [if_pos h1] at hqc
    have hfin : eQ.R T w17 (.agg #[.bool (zc (zval a / (g : Nat))).neg, sq, .bool false, .slice none 0 0]) (qc (Rat.divInt (zval a) (zval b))) := by
      rw [hqc]; exact ⟨sq, .slice none 0 0, rfl, hsq', RL.nil⟩
    refine .nil (.condT rfl (.seq (.region (.ldA ty_Z rfl rfl k6 rfl (.bld [(0, .agg #[.bool (zc (zval a / (g : Nat))).neg, sq])] rfl rfl bld_Q1 ?_)))))
    refine .storeA (E := eQ) ty_Q rfl rfl k4 rfl rfl hfin hS4 fun w18 k18 u18 h18 => .nil (.ret ?_)
    exact .cell Tryz.results108 rfl ty_Q rfl rfl k18 h18 ⟨u18.below hxx (by omega), hout h18⟩
  · rw [show (cmpI (zval b / (g : Nat)) 1 == 0) = false by unfold cmpI; split <;> (try split) <;> first | rfl | omega]
    rw [if_neg h1] at hqc
    have hfin : eQ.R T w17 (.agg #[.bool (zc (zval a / (g : Nat))).neg, sq, .bool (zc (zval b / (g : Nat))).neg, sd]) (qc (Rat.divInt (zval a) (zval b))) := by
      rw [hqc]; exact ⟨sq, sd, rfl, hsq', hsd'⟩
    refine .nil (.condF rfl (.skip (.seq (.region (.ldA ty_Z rfl rfl k6 rfl (.ldA ty_Z rfl rfl k9 rfl (.bld [(0, .agg #[.bool (zc (zval a / (g : Nat))).neg, sq]), (1, .agg #[.bool (zc (zval b / (g : Nat))).neg, sd])] rfl rfl bld_Q2 ?_)))))))
    refine .storeA (E := eQ) ty_Q rfl rfl k4 rfl rfl hfin hS4 fun w18 k18 u18 h18 => .nil (.ret ?_)
    exact .cell Tryz.results108 rfl ty_Q rfl rfl k18 h18 ⟨u18.below hxx (by omega), hout h18⟩
end Go.Proofs.YtccmemilofoamaaGreat

namespace Go.Kx
theorem pow_mulz {L m n : Nat} {x y : Int} (h1 : x.natAbs < L ^ m) (h2 : y.natAbs < L ^ n) : (x * y).natAbs < L ^ (m + n) := by
  rw [Int.natAbs_mul, Nat.pow_add]; exact Nat.mul_lt_mul'' h1 h2
theorem pow_addz {m : Nat} {x y : Int} (h1 : x.natAbs < 4294967296 ^ m) (h2 : y.natAbs < 4294967296 ^ m) : (x + y).natAbs < 4294967296 ^ (m + 1) := by
  have := Int.natAbs_add_le x y
  rw [Nat.pow_succ]; omega
end Go.Kx
namespace Go.Proofs.YtccmemilofoamaaGreat
open Go Go.Kx Go.RowKit

theorem zl {n : Int} {L K : Nat} (h : n.natAbs < 4294967296 ^ L) (hL : L ≤ K) : (zc n).w.length ≤ K := Nat.le_trans (zc_len h) hL
theorem eQ_digs {S : Nat → Prop} {w : World} {v : Value} {q : QV} (h : eQ.R S w v q) : dig q.num.w ∧ dig q.den.w := by
  obtain ⟨s, t, _, h1, h2⟩ := h
  exact ⟨eW_lt h1, eW_lt h2⟩

theorem E_ref02_Least : Ent Tryz.prog 106 := ent_of Tryz.func106 (by kernel_rfl) rfl
theorem ref02_Least_c {S : Nat → Prop} {w : World} {v : Value} {q : QV} {L : Nat} (up : Up S w) (h : eQ.R S w v q) (hl : qok L q) (h1 : 1 ≤ L) (hL : L ≤ 1000000000) : CR Tryz.prog 106 #[v] w (eQ.at S (qc (qval q))) := by
  obtain ⟨hd1, hd2⟩ := eQ_digs h
  have hln := pn_lt hd1 hl
  have hld := pd_lt hd2 hl h1
  have hpp := pd_pos q
  obtain ⟨s, t, rfl, hs, ht⟩ := h
  have h : eQ.R S w (.agg #[.bool q.num.neg, s, .bool q.den.neg, t]) q := ⟨s, t, rfl, hs, ht⟩
  refine enter Tryz.func106 rfl Tryz.ntmps106 rfl ?_
  refine .seq (.region (.box rfl rfl fun w1 b1 n1 => .alloc rfl zero_Q fun w2 b2 n2 => .nil ?_))
  obtain ⟨e1, k1, hb1, hs1⟩ := n1
  obtain ⟨e2, k2, hb2, hs2⟩ := n2
  have x2 := e1.trans e2
  have k1 := k1.ext e2
  have hS : ¬ Sx S w.heap.size w2.heap.size b2 := Sx.no (by omega) (by omega)
  have up2 : Up (Sx S w.heap.size w2.heap.size) w2 := Sx.up up (Nat.le_refl _) x2.size
  have h2 := (ER.par eQ h w2.heap.size).ext x2
  have hout : ∀ {W : World} {v : Value} {z : QV}, eQ.R (Sx S w.heap.size w2.heap.size) W v z → eQ.R S W v z := fun h => h.out
  generalize hT : Sx S w.heap.size w2.heap.size = T at *
  refine .seq ?_
  refine .par follows 5 [.inl _, .inr (eZ.at T (zc (pn q))), .inl _, .inr (eZ.at T (zc (pd q))), .inr (eQ.at T (qc (Rat.divInt (zval (zc (pn q))) (zval (zc (pd q))))))] [[], [(3, 0)], [], [(5, 2)], [(4, 1), (6, 3)]] (by kernel_rfl) ⟨
    fun w e => (v_ldA ty_Q rfl (k1.ext e) rfl).ob, fun w e => (g_call _ E_ref02_num rfl (ref02_num_c (up2.ext e.size) (ER.ext eQ h2 e) hl hL)).ob (st_at _ _ _),
    fun w e => (v_ldA ty_Q rfl (k1.ext e) rfl).ob, fun w e => (g_call _ E_ref02_den rfl (ref02_den_c (up2.ext e.size) (ER.ext eQ h2 e) hl hL)).ob (st_at _ _ _),
    fun w e x hx y hy => (g_call _ E_ref02_over rfl (ref02_over_c (up2.ext e.size) hx hy (zl hln (Nat.le_refl _)) (zl hld (Nat.le_refl _)) hL (by rw [zval_zc]; exact hpp))).ob (st_at _ _ _), trivial⟩ ?_
  intro w3 e3 x hx y hy z hz
  rw [zval_zc, zval_zc] at hz
  refine .storeA (E := eQ) ty_Q rfl rfl (k2.ext e3) rfl rfl hz hS fun w4 k4 u4 h4 => .nil (.ret ?_)
  exact .cell Tryz.results106 rfl ty_Q rfl rfl k4 h4 ⟨u4.below (x2.trans e3) (by omega), hout h4⟩

theorem E_ref02_Neg : Ent Tryz.prog 60 := ent_of Tryz.func60 (by kernel_rfl) rfl
theorem ref02_Neg_c {S : Nat → Prop} {w : World} {v : Value} {q : QV} {L : Nat} (up : Up S w) (h : eQ.R S w v q) (hl : qok L q) (h1 : 1 ≤ L) (hL : L ≤ 1000000000) : CR Tryz.prog 60 #[v] w (eQ.at S (qc (-qval q))) := by
  obtain ⟨hd1, hd2⟩ := eQ_digs h
  have hln := pn_lt hd1 hl
  have hld := pd_lt hd2 hl h1
  have hpp := pd_pos q
  obtain ⟨s, t, rfl, hs, ht⟩ := h
  have h : eQ.R S w (.agg #[.bool q.num.neg, s, .bool q.den.neg, t]) q := ⟨s, t, rfl, hs, ht⟩
  refine enter Tryz.func60 rfl Tryz.ntmps60 rfl ?_
  refine .seq (.region (.box rfl rfl fun w1 b1 n1 => .alloc rfl zero_Q fun w2 b2 n2 => .nil ?_))
  obtain ⟨e1, k1, hb1, hs1⟩ := n1
  obtain ⟨e2, k2, hb2, hs2⟩ := n2
  have x2 := e1.trans e2
  have k1 := k1.ext e2
  have hS : ¬ Sx S w.heap.size w2.heap.size b2 := Sx.no (by omega) (by omega)
  have up2 : Up (Sx S w.heap.size w2.heap.size) w2 := Sx.up up (Nat.le_refl _) x2.size
  have h2 := (ER.par eQ h w2.heap.size).ext x2
  have hout : ∀ {W : World} {v : Value} {z : QV}, eQ.R (Sx S w.heap.size w2.heap.size) W v z → eQ.R S W v z := fun h => h.out
  generalize hT : Sx S w.heap.size w2.heap.size = T at *
  refine .seq ?_
  refine .par follows 6 [.inl _, .inr (eZ.at T (zc (pn q))), .inr (eZ.at T (zc (-zval (zc (pn q))))), .inl _, .inr (eZ.at T (zc (pd q))), .inr (eQ.at T (qc (Rat.divInt (zval (zc (-zval (zc (pn q))))) (zval (zc (pd q))))))] [[], [(3, 0)], [(4, 1)], [], [(6, 3)], [(5, 2), (7, 4)]] (by kernel_rfl) ⟨
    fun w e => (v_ldA ty_Q rfl (k1.ext e) rfl).ob, fun w e => (g_call _ E_ref02_num rfl (ref02_num_c (up2.ext e.size) (ER.ext eQ h2 e) hl hL)).ob (st_at _ _ _),
    fun w e x hx => (g_call _ E_ref01_Neg rfl (ref01_Neg_c (up2.ext e.size) hx (zl hln hL))).ob (st_at _ _ _),
    fun w e => (v_ldA ty_Q rfl (k1.ext e) rfl).ob, fun w e => (g_call _ E_ref02_den rfl (ref02_den_c (up2.ext e.size) (ER.ext eQ h2 e) hl hL)).ob (st_at _ _ _),
    fun w e x hx y hy => (g_call _ E_ref02_over rfl (ref02_over_c (up2.ext e.size) hx hy (zl (by rw [zval_zc, Int.natAbs_neg]; exact hln) (Nat.le_refl _)) (zl hld (Nat.le_refl _)) hL (by rw [zval_zc]; exact hpp))).ob (st_at _ _ _), trivial⟩ ?_
  intro w3 e3 x hx y hy z hz u hu
  rw [zval_zc, zval_zc, zval_zc, ← Rat.neg_divInt] at hu
  refine .storeA (E := eQ) ty_Q rfl rfl (k2.ext e3) rfl rfl hu hS fun w4 k4 u4 h4 => .nil (.ret ?_)
  exact .cell Tryz.results60 rfl ty_Q rfl rfl k4 h4 ⟨u4.below (x2.trans e3) (by omega), hout h4⟩

theorem E_ref02_Sign : Ent Tryz.prog 74 := ent_of Tryz.func74 (by kernel_rfl) rfl
theorem ref02_Sign_c {S : Nat → Prop} {w : World} {v : Value} {q : QV} {L : Nat} (up : Up S w) (h : eQ.R S w v q) (hl : qok L q) (hL : L ≤ 1000000000) : CR Tryz.prog 74 #[v] w (Is (.int .i64 (pn q).sign)) := by
  obtain ⟨hd1, hd2⟩ := eQ_digs h
  have hln := pn_lt hd1 hl
  obtain ⟨s, t, rfl, hs, ht⟩ := h
  have h : eQ.R S w (.agg #[.bool q.num.neg, s, .bool q.den.neg, t]) q := ⟨s, t, rfl, hs, ht⟩
  refine enter Tryz.func74 rfl Tryz.ntmps74 rfl ?_
  refine .seq (.region (.box rfl rfl fun w1 b1 n1 => .asg rfl rfl (.nil ?_)))
  obtain ⟨e1, k1, hb1, hs1⟩ := n1
  refine .seq (.region (.ldA ty_Q rfl rfl k1 rfl ?_))
  refine .call _ rfl E_ref02_num rfl (ref02_num_c (up.ext e1.size) (ER.ext eQ h e1) hl hL) fun v2 w2 e2 h2 => ?_
  refine .call _ rfl E_ref01_Sign rfl (ref01_Sign_c ((up.ext e1.size).ext e2.size) h2 (zl hln hL)) fun v3 w3 e3 h3 => ?_
  subst h3
  refine .asg rfl rfl (.nil (.ret ?_))
  exact .plain [_] Tryz.results74 ⟨rfl, trivial⟩ ⟨(e1.trans e2).trans e3, isI (by rw [zval_zc])⟩

theorem E_ref02_Mul : Ent Tryz.prog 75 := ent_of Tryz.func75 (by kernel_rfl) rfl
theorem ref02_Mul_c {S : Nat → Prop} {w : World} {va vb : Value} {a b : QV} {L : Nat} (up : Up S w) (ha : eQ.R S w va a) (hb : eQ.R S w vb b) (hla : qok L a) (hlb : qok L b) (h1 : 1 ≤ L) (hL : L ≤ 400000000) : CR Tryz.prog 75 #[va, vb] w (eQ.at S (qc (qval a * qval b))) := by
  obtain ⟨da1, da2⟩ := eQ_digs ha
  obtain ⟨db1, db2⟩ := eQ_digs hb
  have lna := pn_lt da1 hla
  have lda := pd_lt da2 hla h1
  have lnb := pn_lt db1 hlb
  have ldb := pd_lt db2 hlb h1
  have ppa := pd_pos a
  have ppb := pd_pos b
  have hpp := Int.mul_pos ppa ppb
  have hL9 : L ≤ 1000000000 := by omega
  obtain ⟨s, t, rfl, hs, ht⟩ := ha
  have ha : eQ.R S w (.agg #[.bool a.num.neg, s, .bool a.den.neg, t]) a := ⟨s, t, rfl, hs, ht⟩
  obtain ⟨s', t', rfl, hs', ht'⟩ := hb
  have hb : eQ.R S w (.agg #[.bool b.num.neg, s', .bool b.den.neg, t']) b := ⟨s', t', rfl, hs', ht'⟩
  refine enter Tryz.func75 rfl Tryz.ntmps75 rfl ?_
  refine .seq (.region (.box rfl rfl fun w1 b2 n1 => .box rfl rfl fun w2 b3 n2 => .alloc rfl zero_Q fun w3 b4 n3 => .nil ?_))
  obtain ⟨e1, k2, hb2, hs1⟩ := n1
  obtain ⟨e2, k3, hb3, hs2⟩ := n2
  obtain ⟨e3, k4, hb4, hs3⟩ := n3
  have x3 := (e1.trans e2).trans e3
  have k2 := (k2.ext e2).ext e3
  have k3 := k3.ext e3
  have hS4 : ¬ Sx S w.heap.size w3.heap.size b4 := Sx.no (by omega) (by omega)
  have up3 : Up (Sx S w.heap.size w3.heap.size) w3 := Sx.up up (Nat.le_refl _) x3.size
  have ha3 := (ER.par eQ ha w3.heap.size).ext x3
  have hb3' := (ER.par eQ hb w3.heap.size).ext x3
  have hout : ∀ {W : World} {v : Value} {z : QV}, eQ.R (Sx S w.heap.size w3.heap.size) W v z → eQ.R S W v z := fun h => h.out
  generalize hT : Sx S w.heap.size w3.heap.size = T at *
  refine .seq ?_
  refine .par follows 11 [.inl _, .inr (eZ.at T (zc (pn a))), .inl _, .inr (eZ.at T (zc (pn b))), .inr (eZ.at T (zc (zval (zc (pn a)) * zval (zc (pn b))))), .inl _, .inr (eZ.at T (zc (pd a))), .inl _, .inr (eZ.at T (zc (pd b))), .inr (eZ.at T (zc (zval (zc (pd a)) * zval (zc (pd b))))),
      .inr (eQ.at T (qc (Rat.divInt (zval (zc (zval (zc (pn a)) * zval (zc (pn b))))) (zval (zc (zval (zc (pd a)) * zval (zc (pd b))))))))]
      [[], [(5, 0)], [], [(7, 2)], [(6, 1), (8, 3)], [], [(10, 5)], [], [(12, 7)], [(11, 6), (13, 8)], [(9, 4), (14, 9)]] (by kernel_rfl) ⟨
    fun w e => (v_ldA ty_Q rfl (k2.ext e) rfl).ob, fun w e => (g_call _ E_ref02_num rfl (ref02_num_c (up3.ext e.size) (ER.ext eQ ha3 e) hla hL9)).ob (st_at _ _ _),
    fun w e => (v_ldA ty_Q rfl (k3.ext e) rfl).ob, fun w e => (g_call _ E_ref02_num rfl (ref02_num_c (up3.ext e.size) (ER.ext eQ hb3' e) hlb hL9)).ob (st_at _ _ _),
    fun w e x hx y hy => (g_call _ E_ref01_Mul rfl (ref01_Mul_c (up3.ext e.size) hx hy (zl lna hL9) (zl lnb hL9))).ob (st_at _ _ _),
    fun w e => (v_ldA ty_Q rfl (k2.ext e) rfl).ob, fun w e => (g_call _ E_ref02_den rfl (ref02_den_c (up3.ext e.size) (ER.ext eQ ha3 e) hla hL9)).ob (st_at _ _ _),
    fun w e => (v_ldA ty_Q rfl (k3.ext e) rfl).ob, fun w e => (g_call _ E_ref02_den rfl (ref02_den_c (up3.ext e.size) (ER.ext eQ hb3' e) hlb hL9)).ob (st_at _ _ _),
    fun w e x hx y hy => (g_call _ E_ref01_Mul rfl (ref01_Mul_c (up3.ext e.size) hx hy (zl lda hL9) (zl ldb hL9))).ob (st_at _ _ _),
    fun w e x hx y hy => (g_call _ E_ref02_over rfl (ref02_over_c (up3.ext e.size) hx hy (zl (by rw [zval_zc, zval_zc]; exact pow_mulz lna lnb) (Nat.le_refl _)) (zl (by rw [zval_zc, zval_zc]; exact pow_mulz lda ldb) (Nat.le_refl _)) (by omega) (by rw [zval_zc, zval_zc, zval_zc]; exact hpp))).ob (st_at _ _ _), trivial⟩ ?_
  intro w4 e4 x1 _ x2 _ x3' _ x4 _ x5 _ x6 _ z hz
  rw [zval_zc, zval_zc, zval_zc, zval_zc, zval_zc, zval_zc, ← Rat.divInt_mul_divInt] at hz
  refine .storeA (E := eQ) ty_Q rfl rfl (k4.ext e4) rfl rfl hz hS4 fun w5 k5 u5 h5 => .nil (.ret ?_)
  exact .cell Tryz.results75 rfl ty_Q rfl rfl k5 h5 ⟨u5.below (x3.trans e4) (by omega), hout h5⟩

theorem E_ref02_Add : Ent Tryz.prog 76 := ent_of Tryz.func76 (by kernel_rfl) rfl
theorem ref02_Add_c {S : Nat → Prop} {w : World} {va vb : Value} {a b : QV} {L : Nat} (up : Up S w) (ha : eQ.R S w va a) (hb : eQ.R S w vb b) (hla : qok L a) (hlb : qok L b) (h1 : 1 ≤ L) (hL : L ≤ 400000000) : CR Tryz.prog 76 #[va, vb] w (eQ.at S (qc (qval a + qval b))) := by
  obtain ⟨da1, da2⟩ := eQ_digs ha
  obtain ⟨db1, db2⟩ := eQ_digs hb
  have lna := pn_lt da1 hla
  have lda := pd_lt da2 hla h1
  have lnb := pn_lt db1 hlb
  have ldb := pd_lt db2 hlb h1
  have ppa := pd_pos a
  have ppb := pd_pos b
  have hpp := Int.mul_pos ppa ppb
  have hL9 : L ≤ 1000000000 := by omega
  obtain ⟨s, t, rfl, hs, ht⟩ := ha
  have ha : eQ.R S w (.agg #[.bool a.num.neg, s, .bool a.den.neg, t]) a := ⟨s, t, rfl, hs, ht⟩
  obtain ⟨s', t', rfl, hs', ht'⟩ := hb
  have hb : eQ.R S w (.agg #[.bool b.num.neg, s', .bool b.den.neg, t']) b := ⟨s', t', rfl, hs', ht'⟩
  refine enter Tryz.func76 rfl Tryz.ntmps76 rfl ?_
  refine .seq (.region (.box rfl rfl fun w1 b2 n1 => .box rfl rfl fun w2 b3 n2 => .alloc rfl zero_Q fun w3 b4 n3 => .nil ?_))
  obtain ⟨e1, k2, hb2, hs1⟩ := n1
  obtain ⟨e2, k3, hb3, hs2⟩ := n2
  obtain ⟨e3, k4, hb4, hs3⟩ := n3
  have x3 := (e1.trans e2).trans e3
  have k2 := (k2.ext e2).ext e3
  have k3 := k3.ext e3
  have hS4 : ¬ Sx S w.heap.size w3.heap.size b4 := Sx.no (by omega) (by omega)
  have up3 : Up (Sx S w.heap.size w3.heap.size) w3 := Sx.up up (Nat.le_refl _) x3.size
  have ha3 := (ER.par eQ ha w3.heap.size).ext x3
  have hb3' := (ER.par eQ hb w3.heap.size).ext x3
  have hout : ∀ {W : World} {v : Value} {z : QV}, eQ.R (Sx S w.heap.size w3.heap.size) W v z → eQ.R S W v z := fun h => h.out
  generalize hT : Sx S w.heap.size w3.heap.size = T at *
  refine .seq ?_
  refine .parF follows 12 [.inl _, .inr (eZ.at T (zc (pn a))), .inl _, .inr (eZ.at T (zc (pd b))), .inr (eZ.at T (zc (zval (zc (pn a)) * zval (zc (pd b))))), .inl _, .inr (eZ.at T (zc (pn b))), .inl _, .inr (eZ.at T (zc (pd a))), .inr (eZ.at T (zc (zval (zc (pn b)) * zval (zc (pd a))))),
      .inr (NewP w3.heap.size 35 #[.bool false, .slice none 0 0]), .inr (NewP w3.heap.size 35 #[.bool false, .slice none 0 0])]
      [[], [(7, 0)], [], [(9, 2)], [(8, 1), (10, 3)], [], [(12, 5)], [], [(14, 7)], [(13, 6), (15, 8)], [], []] (by kernel_rfl) ⟨
    fun w e => (v_ldA ty_Q rfl (k2.ext e) rfl).ob, fun w e => (g_call _ E_ref02_num rfl (ref02_num_c (up3.ext e.size) (ER.ext eQ ha3 e) hla hL9)).ob (st_at _ _ _),
    fun w e => (v_ldA ty_Q rfl (k3.ext e) rfl).ob, fun w e => (g_call _ E_ref02_den rfl (ref02_den_c (up3.ext e.size) (ER.ext eQ hb3' e) hlb hL9)).ob (st_at _ _ _),
    fun w e x hx y hy => (g_call _ E_ref01_Mul rfl (ref01_Mul_c (up3.ext e.size) hx hy (zl lna hL9) (zl ldb hL9))).ob (st_at _ _ _),
    fun w e => (v_ldA ty_Q rfl (k3.ext e) rfl).ob, fun w e => (g_call _ E_ref02_num rfl (ref02_num_c (up3.ext e.size) (ER.ext eQ hb3' e) hlb hL9)).ob (st_at _ _ _),
    fun w e => (v_ldA ty_Q rfl (k2.ext e) rfl).ob, fun w e => (g_call _ E_ref02_den rfl (ref02_den_c (up3.ext e.size) (ER.ext eQ ha3 e) hla hL9)).ob (st_at _ _ _),
    fun w e x hx y hy => (g_call _ E_ref01_Mul rfl (ref01_Mul_c (up3.ext e.size) hx hy (zl lnb hL9) (zl lda hL9))).ob (st_at _ _ _),
    fun w e => ob_alloc zero_Z e.size, fun w e => ob_alloc zero_Z e.size, trivial⟩
    ⟨fun h => (by cases h), fun h => (by cases h), fun h => (by cases h), fun h => (by cases h), fun h => (by cases h), fun h => (by cases h), fun h => (by cases h), fun h => (by cases h), fun h => (by cases h), fun h => (by cases h),
     fun _ => ⟨_, _, _, rfl, rfl, zero_Z, rfl, Nat.le_refl _⟩, fun _ => ⟨_, _, _, rfl, rfl, zero_Z, rfl, Nat.le_refl _⟩, trivial⟩ ?_
  rintro w4 e4 x1 - x2 - v11 h11 x4 - x5 - v16 h16 _ ⟨b5, rfl, hb5, k5⟩ _ ⟨b6, rfl, hb6, k6⟩ hA
  have hne : b6 ≠ b5 := by
    intro e
    subst e
    exact hA 5 6 _ _ (by decide) ⟨_, List.mem_of_getElem? (i := 10) rfl, rfl, rfl⟩ ⟨_, List.mem_of_getElem? (i := 11) rfl, rfl, rfl⟩ rfl rfl rfl
  rw [zval_zc, zval_zc] at h11 h16
  have h16' := eZ_sep (eZ_sep h16 k5 zero_sep) k6 zero_sep
  have h11' := eZ_sep (eZ_sep h11 k5 zero_sep) k6 zero_sep
  refine .storeA (E := eZ) ty_Z rfl rfl k5 rfl rfl h11' (fun h => h.1.2 rfl) fun w5 k5 u5 h11 => ?_
  refine .storeA (E := eZ) ty_Z rfl rfl (k6.upd u5 hne) rfl rfl (ER.upd eZ h16' u5 (fun h => h.1.2 rfl)) (fun h => h.2 rfl) fun w6 k6 u6 h16 => .nil ?_
  have h11 := ER.upd eZ h11 u6 (fun h => h.2 rfl)
  have k5 := k5.upd u6 (Ne.symm hne)
  have e36 : Ext w3 w6 := u6.below (u5.below e4 hb5) hb6
  have x6 := x3.trans e36
  have k2 := k2.ext e36
  have k3 := k3.ext e36
  have k4 := k4.ext e36
  have up6 := up3.ext e36.size
  have ha6 := ER.ext eQ ha3 e36
  have hb6' := ER.ext eQ hb3' e36
  have h11 : eZ.R T w6 v11 (zc (pn a * pd b)) := ER.mono eZ (fun _ _ h => h.1.1) h11
  have h16 : eZ.R T w6 v16 (zc (pn b * pd a)) := ER.mono eZ (fun _ _ h => h.1.1) h16
  obtain ⟨s11, rfl, hs11⟩ := h11
  have h11 : eZ.R T w6 (.agg #[.bool (zc (pn a * pd b)).neg, s11]) (zc (pn a * pd b)) := ⟨s11, rfl, hs11⟩
  obtain ⟨s16, rfl, hs16⟩ := h16
  have h16 : eZ.R T w6 (.agg #[.bool (zc (pn b * pd a)).neg, s16]) (zc (pn b * pd a)) := ⟨s16, rfl, hs16⟩
  refine .seq ?_
  have m1 := pow_mulz lna ldb
  have m2 := pow_mulz lnb lda
  have m3 := pow_mulz lda ldb
  have m4 := pow_addz m1 m2
  have m5 : 4294967296 ^ (L + L) ≤ 4294967296 ^ (L + L + 1) := Nat.pow_le_pow_right (by decide) (by omega)
  refine .par follows 9 [.inl (.agg #[.bool (zc (pn a * pd b)).neg, s11]), .inl (.agg #[.bool (zc (pn b * pd a)).neg, s16]), .inr (eZ.at T (zc (zval (zc (pn a * pd b)) + zval (zc (pn b * pd a))))), .inl _, .inr (eZ.at T (zc (pd a))), .inl _, .inr (eZ.at T (zc (pd b))), .inr (eZ.at T (zc (zval (zc (pd a)) * zval (zc (pd b))))),
      .inr (eQ.at T (qc (Rat.divInt (zval (zc (zval (zc (pn a * pd b)) + zval (zc (pn b * pd a))))) (zval (zc (zval (zc (pd a)) * zval (zc (pd b))))))))]
      [[], [], [(17, 0), (18, 1)], [], [(20, 3)], [], [(22, 5)], [(21, 4), (23, 6)], [(19, 2), (24, 7)]] (by kernel_rfl) ⟨
    fun w e => (v_ldA ty_Z rfl (k5.ext e) rfl).ob, fun w e => (v_ldA ty_Z rfl (k6.ext e) rfl).ob,
    fun w e => (g_call _ E_ref01_Add rfl (ref01_Add_c (up6.ext e.size) (ER.ext eZ h11 e) (ER.ext eZ h16 e) (zl m1 (by omega)) (zl m2 (by omega)))).ob (st_at _ _ _),
    fun w e => (v_ldA ty_Q rfl (k2.ext e) rfl).ob, fun w e => (g_call _ E_ref02_den rfl (ref02_den_c (up6.ext e.size) (ER.ext eQ ha6 e) hla hL9)).ob (st_at _ _ _),
    fun w e => (v_ldA ty_Q rfl (k3.ext e) rfl).ob, fun w e => (g_call _ E_ref02_den rfl (ref02_den_c (up6.ext e.size) (ER.ext eQ hb6' e) hlb hL9)).ob (st_at _ _ _),
    fun w e x hx y hy => (g_call _ E_ref01_Mul rfl (ref01_Mul_c (up6.ext e.size) hx hy (zl lda hL9) (zl ldb hL9))).ob (st_at _ _ _),
    fun w e x hx y hy => (g_call _ E_ref02_over rfl (ref02_over_c (L := L + L + 1) (up6.ext e.size) hx hy (zl (by rw [zval_zc, zval_zc]; exact m4) (Nat.le_refl _)) (zl (by rw [zval_zc, zval_zc]; exact m3) (by omega)) (by omega) (by rw [zval_zc, zval_zc, zval_zc]; exact hpp))).ob (st_at _ _ _), trivial⟩ ?_
  intro w7 e7 x1 _ x2 _ x3' _ x4 _ z hz
  rw [zval_zc, zval_zc, zval_zc, zval_zc, zval_zc, zval_zc, ← Rat.divInt_add_divInt _ _ (by omega) (by omega)] at hz
  refine .storeA (E := eQ) ty_Q rfl rfl (k4.ext e7) rfl rfl hz hS4 fun w8 k8 u8 h8 => .nil (.ret ?_)
  exact .cell Tryz.results76 rfl ty_Q rfl rfl k8 h8 ⟨u8.below (x6.trans e7) (by omega), hout h8⟩
end Go.Proofs.YtccmemilofoamaaGreat

namespace Go.Kx
open Go Go.RowKit
/-- a new row of one element, among others -/
@[reducible] def NewE {α : Type} (E : ER α) (T : Nat → Prop) (B : Nat) (t : TypeId) (n : α) : Value → World → Prop := fun v W => ∃ b e, v = .slice (some ⟨b, 0, none⟩) 1 1 ∧ B ≤ b ∧ Blk W b t e.cells ∧ E.R T W e n
theorem ob_bslE {P : Program} {σ : Env} {w : World} {d : Option Tmp} {ty : TypeId} {pos : String} {af : Array Edge} {g : Option (Nat × Bool)} {α : Type} {E : ER α} {T : Nat → Prop} {n : α} {t te : TypeId} {B : Nat} {ps : List (Nat × Operand)} {x : Value} (hv : evp σ ps = some [(0, x)]) (hc : bslOf P t 1 [(0, x)] = some (te, x.cells)) (hx : E.R T w x n) (hB : B ≤ w.heap.size) :
    Gv P ⟨d, .buildSlice t 1 ps.toArray, ty, pos, af, g⟩ σ w fun v' w' => Ext w w' ∧ Sp.ok (.inr (NewE E T B te n)) v' w' :=
  (g_bsl _ hv hc).mono fun v' w' ⟨b, hv, hn⟩ => ⟨hn.1, fun w'' e => ⟨b, x, hv, by have := hn.2.2.1; omega, hn.2.1.ext e, E.ext (E.ext hx hn.1) e⟩⟩
def atI (a : List QV) (i : Int) : QV := if i < 0 then q0 else a.getD i.toNat q0
theorem atI_nat (a : List QV) (i : Nat) : atI a i = a.getD i q0 := by
  unfold atI; rw [if_neg (by omega)]; simp
end Go.Kx
namespace Go.Proofs.YtccmemilofoamaaGreat
open Go Go.Kx Go.RowKit

theorem E_ref03_At : Ent Tryz.prog 113 := ent_of Tryz.func113 (by kernel_rfl) rfl
theorem ref03_At_c {S : Nat → Prop} {w : World} {v : Value} {a : List QV} {i : Int} (h : eV.R S w v a) : CR Tryz.prog 113 #[v, .int .i64 i] w (eQ.at S (atI a i)) := by
  refine enter Tryz.func113 rfl Tryz.ntmps113 rfl ?_
  refine .seq (.region (.alloc rfl zero_Q fun w1 b4 n1 => .nil ?_))
  obtain ⟨e1, k4, hb4, hs1⟩ := n1
  have hS4 : ¬ Sx S w.heap.size w1.heap.size b4 := Sx.no (by omega) (by omega)
  have h1 := (ER.par eV h w1.heap.size).ext e1
  refine .seq (.seq (.region (.mv rfl rfl ?_)))
  by_cases h0 : 0 ≤ i
  · refine .geqT rfl rfl rfl h0 (.mv rfl rfl (.gr rfl rfl rfl rfl (.mv rfl rfl (.gr rfl rfl rfl rfl (.mv rfl rfl (.gr rfl rfl rfl rfl (.lenR un_V rfl rfl h1 (.gr rfl rfl rfl rfl ?_))))))))
    by_cases hl : i < a.length
    · refine .lssT rfl rfl rfl hl (.pick rfl rfl rfl (.nil (.condT rfl (.seq (.region (.mv rfl rfl (.mv rfl rfl ?_)))))))
      obtain ⟨j, rfl⟩ : ∃ j : Nat, i = j := ⟨i.toNat, by omega⟩
      refine .ixN (i := j) un_V ty_Q rfl rfl h1 rfl (getD_get' (z := q0) (by omega)) fun p hp => .ldE ty_Q rfl rfl hp fun e he => ?_
      refine .storeA (E := eQ) ty_Q rfl rfl k4 rfl rfl he hS4 fun w5 k5 u5 h5 => .nil (.ret ?_)
      exact .cell Tryz.results113 rfl ty_Q rfl rfl k5 h5 ⟨u5.below e1 (by omega), by rw [atI_nat]; exact h5.out⟩
    · refine .lssF rfl rfl rfl hl (.pick rfl rfl rfl (.nil (.condF rfl (.skip (.seq (.region (.bld [] rfl rfl bld_Q0 ?_)))))))
      have hq : eQ.R (Sx S w.heap.size w1.heap.size) w1 (.agg #[.bool false, .slice none 0 0, .bool false, .slice none 0 0]) q0 := ⟨_, _, rfl, RL.nil, RL.nil⟩
      refine .storeA (E := eQ) ty_Q rfl rfl k4 rfl rfl hq hS4 fun w5 k5 u5 h5 => .nil (.ret ?_)
      refine .cell Tryz.results113 rfl ty_Q rfl rfl k5 h5 ⟨u5.below e1 (by omega), ?_⟩
      rw [show atI a i = q0 by unfold atI; rw [if_neg (by omega), List.getD_eq_getElem?_getD, List.getElem?_eq_none (by omega)]; rfl]
      exact h5.out
  · refine .geqF rfl rfl rfl h0 (.mv rfl rfl (.gs rfl rfl rfl rfl rfl (.gs rfl rfl rfl rfl rfl (.gs rfl rfl rfl rfl rfl (.gs rfl rfl rfl rfl rfl (.pick rfl rfl rfl (.nil (.condF rfl (.skip (.seq (.region (.bld [] rfl rfl bld_Q0 ?_))))))))))))
    have hq : eQ.R (Sx S w.heap.size w1.heap.size) w1 (.agg #[.bool false, .slice none 0 0, .bool false, .slice none 0 0]) q0 := ⟨_, _, rfl, RL.nil, RL.nil⟩
    refine .storeA (E := eQ) ty_Q rfl rfl k4 rfl rfl hq hS4 fun w5 k5 u5 h5 => .nil (.ret ?_)
    refine .cell Tryz.results113 rfl ty_Q rfl rfl k5 h5 ⟨u5.below e1 (by omega), ?_⟩
    rw [show atI a i = q0 by unfold atI; rw [if_pos (by omega)]]
    exact h5.out
end Go.Proofs.YtccmemilofoamaaGreat

namespace Go.Proofs.YtccmemilofoamaaGreat
open Go Go.Kx Go.RowKit

theorem bslE_V {x y z u : Value} : bslOf Tryz.prog 23 1 [(0, .agg #[x, y, z, u])] = some (37, (Value.agg #[x, y, z, u]).cells) := by kernel_rfl

theorem E_ref03_Combine : Ent Tryz.prog 80 := ent_of Tryz.func80 (by kernel_rfl) rfl
theorem ref03_Combine_c {S : Nat → Prop} {w : World} {vk_ va vb : Value} {k : QV} {a b : List QV} {L : Nat} (up : Up S w) (hk : eQ.R S w vk_ k) (ha : eV.R S w va a) (hb : eV.R S w vb b) (hkk : qk L k) (hka : vk L a) (hkb : vk L b) (hL : 1 ≤ L) (hL2 : L ≤ 100000000) (hla : a.length ≤ 100000000) (hlb : b.length ≤ 100000000) :
    CR Tryz.prog 80 #[vk_, va, vb] w (eV.at S (tab (max a.length b.length) fun i => qval k * rv a i + rv b i)) := by
  obtain ⟨s, t, rfl, hs, ht⟩ := hk
  have hk : eQ.R S w (.agg #[.bool k.num.neg, s, .bool k.den.neg, t]) k := ⟨s, t, rfl, hs, ht⟩
  refine enter Tryz.func80 rfl Tryz.ntmps80 rfl ?_
  refine .seq (.region (.box rfl rfl fun w1 b3 n1 => .asg rfl rfl (.nil (.seq (.region (.asg rfl rfl (.nil (.seq (.seq (.region (.asg rfl rfl (.nil ?_))))))))))))
  obtain ⟨e1, k3, hb3, hs1⟩ := n1
  have hB1 : ∀ {W : World}, Ext w1 W → Kp (fun k => S k ∧ k < w1.heap.size) w1 W := fun hB k c t f hk h => (hB.block k hk.2).trans h
  have hK : ∀ {W : World}, Ext w1 W → eQ.R (fun k => S k ∧ k < w1.heap.size) W (.agg #[.bool k.num.neg, s, .bool k.den.neg, t]) k := fun hB => eQ.keep (hB1 hB) (ER.lt eQ (ER.ext eQ hk e1))
  have hA : ∀ {W : World}, Ext w1 W → eV.R (fun k => S k ∧ k < w1.heap.size) W va a := fun hB => eV.keep (hB1 hB) (ER.lt eV (ER.ext eV ha e1))
  have hBb : ∀ {W : World}, Ext w1 W → eV.R (fun k => S k ∧ k < w1.heap.size) W vb b := fun hB => eV.keep (hB1 hB) (ER.lt eV (ER.ext eV hb e1))
  have up1 := up.ext e1.size
  generalize hf : (fun i => qc (qval k * rv a i + rv b i)) = f
  generalize hM : max a.length b.length = M
  refine .block (.loop (α := Nat × Value) (fun x => [(1, va), (2, vb), (3, .pointer (some ⟨b3, 0, none⟩)), (7, x.2), (8, .int .i64 (x.1 : Nat))]) (fun x W => Ext w1 W ∧ x.1 ≤ M ∧ OwnL eQ 37 w1.heap.size S W x.2 ((List.range x.1).map f)) (fun x => M - x.1) (0, .slice none 0 0) ?_ ?_ ?_)
  · exact look_cons rfl (look_cons rfl (look_cons rfl (look_cons rfl (look_cons rfl look_nil))))
  · exact ⟨Ext.refl _, Nat.zero_le _, OwnL.nil⟩
  · rintro ⟨i, u⟩ W ⟨hB, hi, ho⟩
    replace hB : Ext w1 W := hB
    replace hi : i ≤ M := hi
    replace ho : OwnL eQ 37 w1.heap.size S W u ((List.range i).map f) := ho
    refine .weak [(1, va), (2, vb), (3, .pointer (some ⟨b3, 0, none⟩)), (7, u), (8, .int .i64 (i : Nat))] (fun t v h => h) ?_
    have hsz := hB.size
    have fin : i = M → Ext w W ∧ eV.at S (tab M fun i => qval k * rv a i + rv b i) u W := by
      intro h
      subst h
      refine ⟨e1.trans hB, ?_⟩
      unfold tab
      rw [hf]
      exact ho.toR (fun k hk => up1 k hk) (fun _ h => h)
    refine .mid (α := Unit) (fun _ => [(1, va), (2, vb), (3, .pointer (some ⟨b3, 0, none⟩)), (7, u), (8, .int .i64 (i : Nat))]) (fun _ W' => W' = W ∧ i < M) ?_ ?_
    · refine .seq (.region (.mv rfl rfl (.mv rfl rfl (.lenR un_V rfl rfl (hA hB) ?_))))
      by_cases h1 : i < a.length
      · refine .lssT rfl rfl rfl (by omega) (.mv rfl rfl (.gs rfl rfl rfl rfl rfl (.gs rfl rfl rfl rfl rfl (.gs rfl rfl rfl rfl rfl (.gs rfl rfl rfl rfl rfl (.pick rfl rfl rfl (.nil (.condT rfl (.skip ?_)))))))))
        exact ⟨rfl, (), look_cons rfl (look_cons rfl (look_cons rfl (look_cons rfl (look_cons rfl look_nil)))), rfl, by omega⟩
      · refine .lssF rfl rfl rfl (by omega) (.mv rfl rfl (.gr rfl rfl rfl rfl (.mv rfl rfl (.gr rfl rfl rfl rfl (.mv rfl rfl (.gr rfl rfl rfl rfl (.lenR un_V rfl rfl (hBb hB) (.gr rfl rfl rfl rfl ?_))))))))
        by_cases h2 : i < b.length
        · refine .lssT rfl rfl rfl (by omega) (.pick rfl rfl rfl (.nil (.condT rfl (.skip ?_))))
          exact ⟨rfl, (), look_cons rfl (look_cons rfl (look_cons rfl (look_cons rfl (look_cons rfl look_nil)))), rfl, by omega⟩
        · refine .lssF rfl rfl rfl (by omega) (.pick rfl rfl rfl (.nil (.condF rfl (.exit (.seq (.region (.mv rfl rfl (.asg rfl rfl (.nil (.ret ?_))))))))))
          exact .plain [_] Tryz.results80 ⟨rfl, trivial⟩ (fin (by omega))
    · rintro _ W' ⟨hWW, hlt⟩
      have hWW := hWW.symm
      subst hWW
      obtain ⟨es, ho1, ho2⟩ := id ho
      have hTu : ∀ k', S k' ∧ k' < w1.heap.size → S k' ∧ u.ownBlock ≠ some k' := fun k' hk' => ⟨hk'.1, fun h => by have := (ho1.lt k' h).1; have := hk'.2; omega⟩
      have hKT := eQ.mono (fun k' _ h => hTu k' h) (hK hB)
      have hAT := eV.mono (fun k' _ h => hTu k' h) (hA hB)
      have hBT := eV.mono (fun k' _ h => hTu k' h) (hBb hB)
      have upT : Up (fun k' => S k' ∧ u.ownBlock ≠ some k') W := fun k' hk' => ⟨up1 k' (by omega), fun h => by have := (ho1.lt k' h).2; omega⟩
      generalize hT : (fun k' => S k' ∧ u.ownBlock ≠ some k') = T at *
      have k3W := k3.ext hB
      have hai := (hka.get hL i).1
      have hbi := (hkb.get hL i).1
      have hm2 : Rsz (qval k * qval (atI a i)) (L + L) := by rw [atI_nat]; exact hkk.2.mul (hka.get hL i).2
      refine .seq (.block ?_)
      refine .par follows 11 [.inl u, .inl (.agg #[.bool k.num.neg, s, .bool k.den.neg, t]), .inl va, .inl (.int .i64 (i : Nat)), .inr (eQ.at T (atI a i)), .inr (eQ.at T (qc (qval k * qval (atI a i)))), .inl vb, .inl (.int .i64 (i : Nat)), .inr (eQ.at T (atI b i)), .inr (eQ.at T (qc (qval (qc (qval k * qval (atI a i))) + qval (atI b i)))), .inr (NewE eQ T W.heap.size 37 (qc (qval (qc (qval k * qval (atI a i))) + qval (atI b i))))]
          [[], [], [], [], [(23, 2), (24, 3)], [(22, 1), (25, 4)], [], [], [(27, 6), (28, 7)], [(26, 5), (29, 8)], [(30, 9)]] (by kernel_rfl) ⟨
        fun w e => (v_mv rfl).ob, fun w e => (v_ldA ty_Q rfl (k3W.ext e) rfl).ob, fun w e => (v_mv rfl).ob, fun w e => (v_mv rfl).ob,
        fun w e => (g_call _ E_ref03_At rfl (ref03_At_c (ER.ext eV hAT e))).ob (st_at _ _ _),
        fun w e x hx => (g_call _ E_ref02_Mul rfl (ref02_Mul_c (L := L) (upT.ext e.size) (ER.ext eQ hKT e) hx hkk.1 (by rw [atI_nat]; exact hai) hL (by omega))).ob (st_at _ _ _),
        fun w e => (v_mv rfl).ob, fun w e => (v_mv rfl).ob,
        fun w e => (g_call _ E_ref03_At rfl (ref03_At_c (ER.ext eV hBT e))).ob (st_at _ _ _),
        fun w e x hx y hy => (g_call _ E_ref02_Add rfl (ref02_Add_c (L := L + L) (upT.ext e.size) hx hy hm2.toOk (by rw [atI_nat]; exact hbi.mono (by omega)) (by omega) (by omega))).ob (st_at _ _ _),
        fun w e x hx => by
          obtain ⟨p1, p2, rfl, hp1, hp2⟩ := hx
          exact ob_bslE (E := eQ) (T := T) rfl bslE_V ⟨p1, p2, rfl, hp1, hp2⟩ e.size, trivial⟩ ?_
      rintro W2 e2 x1 - x2 - x3 - x4 - _ ⟨b5, e5, rfl, hb5, k5, h5⟩
      rw [qval_qc, atI_nat, atI_nat] at h5
      have hB2 := hB.trans e2
      subst hT
      refine .gv rfl rfl (g_appL (E := eQ) (base := w1.heap.size) (by decide) un_V info_Q rfl rfl rfl (ho.ext e2) k5 h5 (by simp; omega) (by decide) hB2.size) ?_
      rintro v4 W4 ⟨ho4, hg4⟩
      refine .asg rfl rfl (.nil (.region (.mv rfl rfl (.add rfl rfl rfl (.asg rfl rfl (.nil ?_))))))
      rw [wI (by omega)]
      refine ⟨rfl, (i + 1, v4), look_cons rfl (look_cons rfl (look_cons rfl (look_cons rfl (look_cons rfl look_nil)))), ⟨(ho.ext e2).below hg4 hB2 hB2.size, hlt, ?_⟩, by show M - (i + 1) < M - i; omega⟩
      show OwnL eQ 37 w1.heap.size S W4 v4 ((List.range (i + 1)).map f)
      rw [List.range_succ, List.map_append, ← hf]
      rw [← hf] at ho4
      exact ho4

theorem E_ref03_Scale : Ent Tryz.prog 78 := ent_of Tryz.func78 (by kernel_rfl) rfl
theorem ref03_Scale_c {S : Nat → Prop} {w : World} {vk_ va : Value} {k : QV} {a : List QV} {L : Nat} (up : Up S w) (hk : eQ.R S w vk_ k) (ha : eV.R S w va a) (hkk : qk L k) (hka : vk L a) (hL : 1 ≤ L) (hL2 : L ≤ 100000000) (hla : a.length ≤ 100000000) :
    CR Tryz.prog 78 #[vk_, va] w (eV.at S (tab a.length fun i => qval k * rv a i)) := by
  obtain ⟨s, t, rfl, hs, ht⟩ := hk
  have hk : eQ.R S w (.agg #[.bool k.num.neg, s, .bool k.den.neg, t]) k := ⟨s, t, rfl, hs, ht⟩
  refine enter Tryz.func78 rfl Tryz.ntmps78 rfl ?_
  refine .seq (.region (.box rfl rfl fun w1 b2 n1 => .asg rfl rfl (.nil ?_)))
  obtain ⟨e1, k2, hb2, hs1⟩ := n1
  refine .seq (.region (.ldA ty_Q rfl rfl k2 rfl (.mv rfl rfl ?_)))
  refine .call _ rfl E_ref03_Combine rfl (ref03_Combine_c (b := []) (up.ext e1.size) (ER.ext eQ hk e1) (ER.ext eV ha e1) RL.nil hkk hka vk_nil hL hL2 hla (by simp)) fun v2 w2 e2 h2 => .asg rfl rfl (.nil (.ret ?_))
  refine .plain [_] Tryz.results78 ⟨rfl, trivial⟩ ⟨e1.trans e2, ?_⟩
  have : (fun i => qval k * rv a i + rv [] i) = fun i => qval k * rv a i := by
    funext i; rw [rv_nil, Rat.add_zero]
  rw [this, show max a.length ([] : List QV).length = a.length by simp] at h2
  exact h2

end Go.Proofs.YtccmemilofoamaaGreat

namespace Go.Kx
theorem rmI_atI (m : List (List QV)) (i : Nat) (k : Int) : qval (atI (m.getD i []) k) = rmI m i k := by
  unfold rmI atI
  by_cases h : k < 0
  · rw [if_pos h, if_pos (.inr h)]; exact qval_q0
  · rw [if_neg h, if_neg (by omega)]; simp [rm, rv]
end Go.Kx
namespace Go.Proofs.YtccmemilofoamaaGreat
open Go Go.Kx Go.RowKit

theorem E_ref04_At : Ent Tryz.prog 73 := ent_of Tryz.func73 (by kernel_rfl) rfl
theorem ref04_At_c {S : Nat → Prop} {w : World} {vm : Value} {m : List (List QV)} {i k : Int} {L : Nat} (up : Up S w) (hm : eM.R S w vm m) (hk : mk_ L m) (hL : 1 ≤ L) (hL2 : L ≤ 1000000000) : CR Tryz.prog 73 #[vm, .int .i64 i, .int .i64 k] w (eQ.at S (qc (rmI m i k))) := by
  refine enter Tryz.func73 rfl Tryz.ntmps73 rfl ?_
  refine .seq (.region (.alloc rfl zero_Q fun w1 b6 n1 => .nil ?_))
  obtain ⟨e1, k6, hb6, hs1⟩ := n1
  have hS : ¬ Sx S w.heap.size w1.heap.size b6 := Sx.no (by omega) (by omega)
  have up1 : Up (Sx S w.heap.size w1.heap.size) w1 := Sx.up up (Nat.le_refl _) e1.size
  have h1 := (ER.par eM hm w1.heap.size).ext e1
  have hout : ∀ {W : World} {v : Value} {z : QV}, eQ.R (Sx S w.heap.size w1.heap.size) W v z → eQ.R S W v z := fun h => h.out
  generalize hT : Sx S w.heap.size w1.heap.size = T at *
  have hq : eQ.R T w1 (.agg #[.bool false, .slice none 0 0, .bool false, .slice none 0 0]) (qc 0) := by rw [qc_zero]; exact ⟨_, _, rfl, RL.nil, RL.nil⟩
  refine .seq (.seq (.region (.mv rfl rfl ?_)))
  by_cases h0 : i < 0
  · refine .lssT rfl rfl rfl h0 (.mv rfl rfl (.gs rfl rfl rfl rfl rfl (.gs rfl rfl rfl rfl rfl (.gs rfl rfl rfl rfl rfl (.gs rfl rfl rfl rfl rfl (.pick rfl rfl rfl (.nil (.condT rfl (.seq (.region (.bld [] rfl rfl bld_Q0 ?_)))))))))))
    refine .storeA (E := eQ) ty_Q rfl rfl k6 rfl rfl hq hS fun w5 k5 u5 h5 => .nil (.ret ?_)
    refine .cell Tryz.results73 rfl ty_Q rfl rfl k5 h5 ⟨u5.below e1 (by omega), ?_⟩
    rw [show rmI m i k = 0 by unfold rmI; rw [if_pos (.inl h0)]]
    exact hout h5
  · refine .lssF rfl rfl rfl h0 (.mv rfl rfl (.gr rfl rfl rfl rfl (.mv rfl rfl (.gr rfl rfl rfl rfl (.mv rfl rfl (.gr rfl rfl rfl rfl (.lenR un_M rfl rfl h1 (.gr rfl rfl rfl rfl ?_))))))))
    by_cases hl : (m.length : Int) ≤ i
    · refine .geqT rfl rfl rfl hl (.pick rfl rfl rfl (.nil (.condT rfl (.seq (.region (.bld [] rfl rfl bld_Q0 ?_))))))
      refine .storeA (E := eQ) ty_Q rfl rfl k6 rfl rfl hq hS fun w5 k5 u5 h5 => .nil (.ret ?_)
      refine .cell Tryz.results73 rfl ty_Q rfl rfl k5 h5 ⟨u5.below e1 (by omega), ?_⟩
      rw [show rmI m i k = 0 by unfold rmI; split; rfl; exact rm_out (by omega)]
      exact hout h5
    · refine .geqF rfl rfl rfl hl (.pick rfl rfl rfl (.nil (.condF rfl (.skip (.seq (.region (.mv rfl rfl (.mv rfl rfl ?_))))))))
      obtain ⟨j, rfl⟩ : ∃ j : Nat, i = j := ⟨i.toNat, by omega⟩
      refine .ixN (i := j) un_M ty_V rfl rfl h1 rfl (getD_get' (z := []) (by omega)) fun p hp => .ldE ty_V rfl rfl hp fun e he => .mv rfl rfl ?_
      refine .call _ rfl E_ref03_At rfl (ref03_At_c he) fun v2 w2 e2 h2 => ?_
      have hqa : qok L (atI (m.getD j []) k) := by
        unfold atI; split
        · exact (qk_q0 hL).1
        · exact ((hk.get j).get hL _).1
      refine .call _ rfl E_ref02_Least rfl (ref02_Least_c (up1.ext e2.size) h2 hqa hL hL2) fun v3 w3 e3 h3 => ?_
      rw [rmI_atI] at h3
      refine .storeA (E := eQ) ty_Q rfl rfl ((k6.ext e2).ext e3) rfl rfl h3 hS fun w5 k5 u5 h5 => .nil (.ret ?_)
      exact .cell Tryz.results73 rfl ty_Q rfl rfl k5 h5 ⟨u5.below ((e1.trans e2).trans e3) (by omega), hout h5⟩

theorem E_ref04_place : Ent Tryz.prog 148 := ent_of Tryz.func148 (by kernel_rfl) rfl
theorem ref04_place0_c {S : Nat → Prop} {w : World} {vk_ va vb : Value} {k : QV} {a : List (List QV)} {i j : Int} {L : Nat} (up : Up S w) (hk : eQ.R S w vk_ k) (ha : eM.R S w va a) (hkk : qk L k) (hka : mk_ L a) (hL : 1 ≤ L) (hL2 : L ≤ 100000000) :
    CR Tryz.prog 148 #[.int .u8 0, vk_, va, vb, .int .i64 i, .int .i64 j] w (eQ.at S (qc (qval k * rmI a i j))) := by
  obtain ⟨s, t, rfl, hs, ht⟩ := hk
  have hk : eQ.R S w (.agg #[.bool k.num.neg, s, .bool k.den.neg, t]) k := ⟨s, t, rfl, hs, ht⟩
  refine enter Tryz.func148 rfl Tryz.ntmps148 rfl ?_
  refine .seq (.region (.box rfl rfl fun w1 b7 n1 => .alloc rfl zero_Q fun w2 b12 n2 => .nil ?_))
  obtain ⟨e1, k7, hb7, hs1⟩ := n1
  obtain ⟨e2, k12, hb12, hs2⟩ := n2
  have x2 := e1.trans e2
  have k7 := k7.ext e2
  have hS : ¬ Sx S w.heap.size w2.heap.size b12 := Sx.no (by omega) (by omega)
  have up2 : Up (Sx S w.heap.size w2.heap.size) w2 := Sx.up up (Nat.le_refl _) x2.size
  have ha2 := (ER.par eM ha w2.heap.size).ext x2
  have hk2 := (ER.par eQ hk w2.heap.size).ext x2
  have hout : ∀ {W : World} {v : Value} {z : QV}, eQ.R (Sx S w.heap.size w2.heap.size) W v z → eQ.R S W v z := fun h => h.out
  generalize hT : Sx S w.heap.size w2.heap.size = T at *
  have hr : qok L (qc (rmI a i j)) := by
    unfold rmI; split
    · exact (Rsz.zero hL).toOk
    · exact (hka.rsz hL _ _).toOk
  refine .seq (.seq (.region (.mv rfl rfl (.nil (.block (.seq (.region (.eqlF rfl rfl rfl (by decide) (.asg rfl rfl (.nil (.condF rfl (.seq (.region (.eqlF rfl rfl rfl (by decide) (.asg rfl rfl (.nil (.condF rfl (.seq (.region (.eqlF rfl rfl rfl (by decide) (.asg rfl rfl (.nil (.condF rfl (.skip (.seq ?_)))))))))))))))))))))))))
  refine .par follows 6 [.inl (.agg #[.bool k.num.neg, s, .bool k.den.neg, t]), .inl va, .inl (.int .i64 i), .inl (.int .i64 j), .inr (eQ.at T (qc (rmI a i j))), .inr (eQ.at T (qc (qval k * qval (qc (rmI a i j)))))] [[], [], [], [], [(61, 1), (62, 2), (63, 3)], [(60, 0), (64, 4)]] (by kernel_rfl) ⟨
    fun w e => (v_ldA ty_Q rfl (k7.ext e) rfl).ob, fun w e => (v_mv rfl).ob, fun w e => (v_mv rfl).ob, fun w e => (v_mv rfl).ob,
    fun w e => (g_call _ E_ref04_At rfl (ref04_At_c (up2.ext e.size) (ER.ext eM ha2 e) hka hL (by omega))).ob (st_at _ _ _),
    fun w e x hx => (g_call _ E_ref02_Mul rfl (ref02_Mul_c (up2.ext e.size) (ER.ext eQ hk2 e) hx hkk.1 hr hL (by omega))).ob (st_at _ _ _), trivial⟩ ?_
  rintro w3 e3 x - z hz
  rw [qval_qc] at hz
  refine .storeA (E := eQ) ty_Q rfl rfl (k12.ext e3) rfl rfl hz hS fun w5 k5 u5 h5 => .nil (.ret ?_)
  exact .cell Tryz.results148 rfl ty_Q rfl rfl k5 h5 ⟨u5.below (x2.trans e3) (by omega), hout h5⟩

end Go.Proofs.YtccmemilofoamaaGreat

namespace Go.Proofs.YtccmemilofoamaaGreat
open Go Go.Kx Go.RowKit

theorem own_base {w : World} {v : Value} {t : TypeId} {sz n B B' : Nat} {xs : List Value} (h : w.ownsRow B t sz v n xs) (hB : B' ≤ B) : w.ownsRow B' t sz v n xs := by
  refine ⟨h.1, ?_⟩
  rcases h.2 with h | ⟨g, cap, cur, h1, h2, h3⟩
  · exact .inl h
  · exact .inr ⟨g, cap, cur, h1, Nat.le_trans hB h2, h3⟩
theorem OwnL.base {α : Type} {E : ER α} {t : TypeId} {B B' : Nat} {X : Nat → Prop} {w : World} {v : Value} {l : List α} (h : OwnL E t B X w v l) (hB : B' ≤ B) : OwnL E t B' X w v l := by
  obtain ⟨es, h1, h2⟩ := h
  exact ⟨es, own_base h1 hB, h2⟩
theorem E_ref04_made : Ent Tryz.prog 120 := ent_of Tryz.func120 (by kernel_rfl) rfl
theorem ref04_madeF_c {S : Nat → Prop} {w : World} {r c : Nat} {kind : Int} {vk_ va vb : Value} {k : QV} {a b : List (List QV)} {f : Nat → Nat → Rat} (up : Up S w) (hk : eQ.R S w vk_ k) (ha : eM.R S w va a) (hb : eM.R S w vb b) (hr : r ≤ 100000000) (hc : c ≤ 100000000)
    (hf : ∀ {T : Nat → Prop} {W : World} {i j : Nat}, Up T W → eQ.R T W vk_ k → eM.R T W va a → eM.R T W vb b → i < r → j < c → CR Tryz.prog 148 #[.int .u8 kind, vk_, va, vb, .int .i64 i, .int .i64 j] W (eQ.at T (qc (f i j)))) :
    CR Tryz.prog 120 #[.int .i64 r, .int .i64 c, .int .u8 kind, vk_, va, vb] w (fun v W => OwnL eV 23 w.heap.size S W v (tabM r c f)) := by
  obtain ⟨s, t, rfl, hs, ht⟩ := hk
  have hk : eQ.R S w (.agg #[.bool k.num.neg, s, .bool k.den.neg, t]) k := ⟨s, t, rfl, hs, ht⟩
  refine enter Tryz.func120 rfl Tryz.ntmps120 rfl ?_
  refine .seq (.region (.box rfl rfl fun w1 b9 n1 => .asg rfl rfl (.nil (.seq (.region (.asg rfl rfl (.nil (.seq (.seq (.region (.asg rfl rfl (.nil ?_))))))))))))
  obtain ⟨e1, k9, hb9, hs1⟩ := n1
  have hB1 : ∀ {W : World}, Ext w1 W → Kp (fun k => S k ∧ k < w1.heap.size) w1 W := fun hB k c t f hk h => (hB.block k hk.2).trans h
  have hK : ∀ {W : World}, Ext w1 W → eQ.R (fun k => S k ∧ k < w1.heap.size) W (.agg #[.bool k.num.neg, s, .bool k.den.neg, t]) k := fun hB => eQ.keep (hB1 hB) (ER.lt eQ (ER.ext eQ hk e1))
  have hA : ∀ {W : World}, Ext w1 W → eM.R (fun k => S k ∧ k < w1.heap.size) W va a := fun hB => eM.keep (hB1 hB) (ER.lt eM (ER.ext eM ha e1))
  have hBb : ∀ {W : World}, Ext w1 W → eM.R (fun k => S k ∧ k < w1.heap.size) W vb b := fun hB => eM.keep (hB1 hB) (ER.lt eM (ER.ext eM hb e1))
  have up1 := up.ext e1.size
  generalize hG : (fun i => tab c (f i)) = G
  refine .block (.loop (α := Nat × Value) (fun x => [(0, .int .i64 (r : Nat)), (1, .int .i64 (c : Nat)), (2, .int .u8 kind), (4, va), (5, vb), (9, .pointer (some ⟨b9, 0, none⟩)), (13, x.2), (14, .int .i64 (x.1 : Nat))]) (fun x W => Ext w1 W ∧ x.1 ≤ r ∧ OwnL eV 23 w1.heap.size S W x.2 ((List.range x.1).map G)) (fun x => r - x.1) (0, .slice none 0 0) ?_ ?_ ?_)
  · exact look_cons rfl (look_cons rfl (look_cons rfl (look_cons rfl (look_cons rfl (look_cons rfl (look_cons rfl (look_cons rfl look_nil)))))))
  · exact ⟨Ext.refl _, Nat.zero_le _, OwnL.nil⟩
  · rintro ⟨i, u⟩ W ⟨hB, hi, ho⟩
    replace hB : Ext w1 W := hB
    replace hi : i ≤ r := hi
    replace ho : OwnL eV 23 w1.heap.size S W u ((List.range i).map G) := ho
    refine .weak [(0, .int .i64 (r : Nat)), (1, .int .i64 (c : Nat)), (2, .int .u8 kind), (4, va), (5, vb), (9, .pointer (some ⟨b9, 0, none⟩)), (13, u), (14, .int .i64 (i : Nat))] (fun t v h => h) ?_
    have hsz := hB.size
    refine .seq (.seq (.region (.mv rfl rfl (.mv rfl rfl ?_))))
    by_cases hlt : i < r
    · refine .lssT rfl rfl rfl (by omega) (.nil (.condT rfl (.skip (.seq (.block (.seq (.region (.asg rfl rfl (.nil ?_)))))))))
      obtain ⟨es, ho1, ho2⟩ := id ho
      have hTu : ∀ k', S k' ∧ k' < w1.heap.size → S k' ∧ u.ownBlock ≠ some k' := fun k' hk' => ⟨hk'.1, fun h => by have := (ho1.lt k' h).1; have := hk'.2; omega⟩
      have upT : Up (fun k' => S k' ∧ u.ownBlock ≠ some k') W := fun k' hk' => ⟨up1 k' (by omega), fun h => by have := (ho1.lt k' h).2; omega⟩
      refine .mid (α := Value) (fun x => [(0, .int .i64 (r : Nat)), (1, .int .i64 (c : Nat)), (2, .int .u8 kind), (4, va), (5, vb), (9, .pointer (some ⟨b9, 0, none⟩)), (13, u), (14, .int .i64 (i : Nat)), (15, x)]) (fun x W' => Ext W W' ∧ eV.R (fun k' => S k' ∧ u.ownBlock ≠ some k') W' x (tab c (f i))) ?_ ?_
      · refine .seq (.region (.asg rfl rfl (.nil ?_)))
        generalize hg : (fun j => qc (f i j)) = g
        refine .block (.loop (α := Nat × Value) (fun x => [(0, .int .i64 (r : Nat)), (1, .int .i64 (c : Nat)), (2, .int .u8 kind), (4, va), (5, vb), (9, .pointer (some ⟨b9, 0, none⟩)), (13, u), (14, .int .i64 (i : Nat)), (15, x.2), (16, .int .i64 (x.1 : Nat))]) (fun x W' => Ext W W' ∧ x.1 ≤ c ∧ OwnL eQ 37 W.heap.size (fun k' => S k' ∧ u.ownBlock ≠ some k') W' x.2 ((List.range x.1).map g)) (fun x => c - x.1) (0, .slice none 0 0) ?_ ?_ ?_)
        · exact look_cons rfl (look_cons rfl (look_cons rfl (look_cons rfl (look_cons rfl (look_cons rfl (look_cons rfl (look_cons rfl (look_cons rfl (look_cons rfl look_nil)))))))))
        · exact ⟨Ext.refl _, Nat.zero_le _, OwnL.nil⟩
        · rintro ⟨j, x⟩ W' ⟨hW, hj, hx⟩
          replace hW : Ext W W' := hW
          replace hj : j ≤ c := hj
          replace hx : OwnL eQ 37 W.heap.size (fun k' => S k' ∧ u.ownBlock ≠ some k') W' x ((List.range j).map g) := hx
          refine .weak [(0, .int .i64 (r : Nat)), (1, .int .i64 (c : Nat)), (2, .int .u8 kind), (4, va), (5, vb), (9, .pointer (some ⟨b9, 0, none⟩)), (13, u), (14, .int .i64 (i : Nat)), (15, x), (16, .int .i64 (j : Nat))] (fun t v h => h) ?_
          have hsz' := hW.size
          have hBW := hB.trans hW
          refine .seq (.seq (.region (.mv rfl rfl (.mv rfl rfl ?_))))
          by_cases hjl : j < c
          · refine .lssT rfl rfl rfl (by omega) (.nil (.condT rfl (.skip (.seq (.block (.region (.mv rfl rfl (.mv rfl rfl (.ldA ty_Q rfl rfl (k9.ext hBW) rfl (.mv rfl rfl (.mv rfl rfl (.mv rfl rfl (.mv rfl rfl ?_)))))))))))))
            obtain ⟨es', hx1, hx2⟩ := id hx
            have hTx : ∀ k', S k' ∧ k' < w1.heap.size → (S k' ∧ u.ownBlock ≠ some k') ∧ x.ownBlock ≠ some k' := fun k' hk' => ⟨hTu k' hk', fun h => by have := (hx1.lt k' h).1; have := hk'.2; omega⟩
            have upX : Up (fun k' => (S k' ∧ u.ownBlock ≠ some k') ∧ x.ownBlock ≠ some k') W' := fun k' hk' => ⟨upT k' (by omega), fun h => by have := (hx1.lt k' h).2; omega⟩
            refine .call _ rfl E_ref04_place rfl (hf upX (eQ.mono (fun k' _ h => hTx k' h) (hK hBW)) (eM.mono (fun k' _ h => hTx k' h) (hA hBW)) (eM.mono (fun k' _ h => hTx k' h) (hBb hBW)) hlt hjl) fun v2 W2 e2 h2 => ?_
            have hr' := h2
            obtain ⟨s2, t2, rfl, _, _⟩ := hr'
            refine .bsl _ rfl rfl bsl_V1 fun W3 b3 n3 => ?_
            obtain ⟨e3, k3, hb3, hs3⟩ := n3
            have e23 := e2.trans e3
            have hW3 := hW.trans e23
            refine .gv rfl rfl (g_appL (E := eQ) (base := W.heap.size) (by decide) un_V info_Q rfl rfl rfl (hx.ext e23) k3 (h2.ext e3) (by simp; omega) (by decide) hW3.size) ?_
            rintro v4 W4 ⟨ho4, hg4⟩
            refine .asg rfl rfl (.nil (.region (.mv rfl rfl (.add rfl rfl rfl (.asg rfl rfl (.nil ?_))))))
            rw [wI (by omega)]
            refine ⟨rfl, (j + 1, v4), look_cons rfl (look_cons rfl (look_cons rfl (look_cons rfl (look_cons rfl (look_cons rfl (look_cons rfl (look_cons rfl (look_cons rfl (look_cons rfl look_nil))))))))), ⟨(hx.ext e23).below hg4 hW3 hW3.size, hjl, ?_⟩, by show c - (j + 1) < c - j; omega⟩
            show OwnL eQ 37 W.heap.size (fun k' => S k' ∧ u.ownBlock ≠ some k') W4 v4 ((List.range (j + 1)).map g)
            rw [List.range_succ, List.map_append, ← hg]
            rw [← hg] at ho4
            exact ho4
          · refine .lssF rfl rfl rfl (by omega) (.nil (.condF rfl (.exit ?_)))
            have : j = c := by omega
            subst this
            refine ⟨rfl, x, look_cons rfl (look_cons rfl (look_cons rfl (look_cons rfl (look_cons rfl (look_cons rfl (look_cons rfl (look_cons rfl (look_cons rfl look_nil)))))))), hW, ?_⟩
            unfold tab
            rw [hg]
            exact hx.toR (fun k hk => upT k hk) (fun _ h => h)
      · rintro x W' ⟨hW, hx⟩
        have hBW := hB.trans hW
        obtain ⟨ar, cr, hvr, _⟩ := RL.len hx
        rw [tab_length] at hvr
        subst hvr
        refine .region (.mv rfl rfl (.mv rfl rfl (.bsl _ rfl rfl bsl_M1 fun W3 b3 n3 => ?_)))
        obtain ⟨e3, k3, hb3, hs3⟩ := n3
        have e23 := hW.trans e3
        have hB3 := hB.trans e23
        refine .gv rfl rfl (g_appL (E := eV) (base := w1.heap.size) (n := tab c (f i)) (e := .slice ar c cr) (by decide) un_M info_V rfl rfl rfl (ho.ext e23) k3 (ER.ext eV hx e3) (by simp; omega) (by decide) hB3.size) ?_
        rintro v4 W4 ⟨ho4, hg4⟩
        refine .asg rfl rfl (.nil (.region (.mv rfl rfl (.add rfl rfl rfl (.asg rfl rfl (.nil ?_))))))
        rw [wI (by omega)]
        refine ⟨rfl, (i + 1, v4), look_cons rfl (look_cons rfl (look_cons rfl (look_cons rfl (look_cons rfl (look_cons rfl (look_cons rfl (look_cons rfl look_nil))))))), ⟨(ho.ext e23).below hg4 hB3 hB3.size, hlt, ?_⟩, by show r - (i + 1) < r - i; omega⟩
        show OwnL eV 23 w1.heap.size S W4 v4 ((List.range (i + 1)).map G)
        rw [List.range_succ, List.map_append, ← hG]
        rw [← hG] at ho4
        exact ho4
    · refine .lssF rfl rfl rfl (by omega) (.nil (.condF rfl (.exit (.seq (.region (.mv rfl rfl (.asg rfl rfl (.nil (.ret ?_)))))))))
      have : i = r := by omega
      subst this
      refine .plain [_] Tryz.results120 ⟨rfl, trivial⟩ ⟨e1.trans hB, ?_⟩
      unfold tabM
      rw [hG]
      exact OwnL.base ho e1.size
end Go.Proofs.YtccmemilofoamaaGreat

namespace Go.Proofs.YtccmemilofoamaaGreat
open Go Go.Kx Go.RowKit

end Go.Proofs.YtccmemilofoamaaGreat

namespace Go.Proofs.YtccmemilofoamaaGreat
open Go Go.Kx Go.RowKit

end Go.Proofs.YtccmemilofoamaaGreat

namespace Go.Proofs.YtccmemilofoamaaGreat
open Go Go.Kx Go.RowKit

end Go.Proofs.YtccmemilofoamaaGreat

namespace Go.Proofs.YtccmemilofoamaaGreat
open Go Go.Kx Go.RowKit

end Go.Proofs.YtccmemilofoamaaGreat

namespace Go.Kx
open Go Go.RowKit
section
variable {P : Program} {σ : Env} {w : World} {d : Option Tmp} {ty : TypeId} {pos : String} {af : Array Edge} {g : Option (Nat × Bool)}
/-- append(nil, s...) -/
theorem g_appWs {S : Nat → Prop} {t e : TypeId} {x y : Operand} {u : Value} {s : List Nat} (ht : P.underlying t = some (.slice e)) (hi : infoOf P e = some (.int .u32 0, 1, 4)) (hx : ev σ x = some (.slice none 0 0)) (hy : ev σ y = some u)
    (hs : eW.R S w u s) (hl2 : s.length ≤ 1000000000000) :
    Gv P ⟨d, .call { callee := .builtin .append, args := #[x, y], argTypes := #[t, t] }, ty, pos, af, g⟩ σ w fun v' w' => OwnW e w.heap.size w' v' s ∧ Ext w w' := by
  have hds : dig s := eW_lt hs
  have hown : OwnW e w.heap.size w (.slice none 0 0) [] := ⟨⟨rfl, .inl ⟨rfl, rfl⟩⟩, fun x hx => by cases hx⟩
  obtain ⟨es, he, a, c, rfl, hc, _, hcl, hcells⟩ := hs
  have hes : es = s.map wv := by
    apply List.ext_getElem?
    intro i
    rw [List.getElem?_map]
    cases hi : s[i]? with
    | none => rw [List.getElem?_eq_none (by rw [he.1]; exact List.getElem?_eq_none_iff.1 hi)]; rfl
    | some z =>
      have hlt : i < s.length := (List.getElem?_eq_some_iff.1 hi).1
      have hee := List.getElem?_eq_getElem (show i < es.length by rw [he.1]; exact hlt)
      obtain ⟨h1, _⟩ := he.2 i _ z hee hi
      rw [hee, h1]; rfl
  subst hes
  rw [cellsOf_map1 wv (fun _ => rfl)] at hcells hcl
  have hone : ∀ u ∈ s.map wv, one1 u = true := by
    intro u hu
    obtain ⟨z, _, rfl⟩ := List.mem_map.1 hu
    rfl
  cases a with
  | some ad =>
    have hcell : ∀ j u, (s.map wv)[j]? = some u → w.cell? (ad.add j) = some u := by
      intro j u hu
      have hpos : 0 < s.length := by
        cases s with
        | nil => simp at hu
        | cons z s => simp
      obtain ⟨ad', h1, _, h2⟩ := hcells hpos
      cases h1
      exact h2 j u hu
    exact (g_app (s.map wv) ht hi rfl (by decide) hx hy hown.1 (by simp) hcell hone (by simp; omega) (by simp; omega) (Nat.le_refl _)).mono fun v' w' ⟨h1, h2⟩ => ⟨⟨by simpa using h1, hds⟩, hown.below h2 (Below.refl _ _) (Nat.le_refl _)⟩
  | none =>
    have h0 : s = [] := by
      cases s with
      | nil => rfl
      | cons z s => obtain ⟨ad, h1, _⟩ := hcells (by simp); cases h1
    subst h0
    refine (g_app0 ht hi hx hy hown.1).gv.mono fun v' w' ⟨h1, h2⟩ => ?_
    subst h1; subst h2
    exact ⟨hown, Below.refl _ _⟩
end
end Go.Kx
namespace Go.Proofs.YtccmemilofoamaaGreat
open Go Go.Kx Go.RowKit

theorem E_law01_Own : Ent Tryz.prog 112 := ent_of Tryz.func112 (by kernel_rfl) rfl
theorem law01_Own_c {S : Nat → Prop} {w : World} {v : Value} {a : ZV} (up : Up S w) (h : eZ.R S w v a) (hl : a.w.length ≤ 1000000000) : CR Tryz.prog 112 #[v] w (eZ.at S a) := by
  obtain ⟨s, rfl, hs⟩ := h
  refine enter Tryz.func112 rfl Tryz.ntmps112 rfl ?_
  refine .seq (.region (.box rfl rfl fun w1 b1 n1 => .alloc rfl zero_Z fun w2 b2 n2 => .nil ?_))
  obtain ⟨e1, k1, hb1, hs1⟩ := n1
  obtain ⟨e2, k2, hb2, hs2⟩ := n2
  have x2 := e1.trans e2
  have k1 := k1.ext e2
  have hS2 : ¬ Sx S w.heap.size w2.heap.size b2 := Sx.no (by omega) (by omega)
  have up2 : Up (Sx S w.heap.size w2.heap.size) w2 := Sx.up up (Nat.le_refl _) x2.size
  have hs2' := (ER.par eW hs w2.heap.size).ext x2
  have hout : ∀ {W : World} {v : Value} {z : ZV}, eZ.R (Sx S w.heap.size w2.heap.size) W v z → eZ.R S W v z := fun h => h.out
  generalize hT : Sx S w.heap.size w2.heap.size = T at *
  refine .seq ?_
  refine .par follows 6 [.inl _, .inl (.bool a.neg), .inl _, .inl s, .inr (eW.at T a.w), .inr (eZ.at T a)] [[], [(3, 0)], [], [(5, 2)], [(6, 3)], [(4, 1), (7, 4)]] (by kernel_rfl) ⟨
    fun w e => (v_fa fld_Z0 rfl).ob, fun w e => (v_ld ty_bool rfl (k1.ext e) rfl).ob, fun w e => (v_fa fld_Z1 rfl).ob, fun w e => (v_ld ty_W rfl (k1.ext e) rfl).ob,
    fun w e => Gv.ob ((g_appWs un_W info_u32 rfl rfl (ER.ext eW hs2' e) (by omega)).mono fun v' w' ⟨h1, h2⟩ => ⟨h2, h1.toR (S := T) (fun k hk => up2 k (by have := e.size; omega))⟩) (st_at _ _ _),
    fun w e x hx => by
      obtain ⟨p, c, hv, _⟩ := RL.len hx
      have hz : eZ.R T w (.agg #[.bool a.neg, x]) a := ⟨x, rfl, hx⟩
      generalize a.w.length = nl at hv
      subst hv
      exact ob_vl (v_bld [(0, .bool a.neg), (1, .slice p nl c)] rfl bld_Z2) hz (st_at _ _ _), trivial⟩ ?_
  rintro w3 e3 x - z hz
  refine .storeA (E := eZ) ty_Z rfl rfl (k2.ext e3) rfl rfl hz hS2 fun w5 k5 u5 h5 => .nil (.ret ?_)
  exact .cell Tryz.results112 rfl ty_Z rfl rfl k5 h5 ⟨u5.below (x2.trans e3) (by omega), hout h5⟩

theorem E_law02_Own : Ent Tryz.prog 62 := ent_of Tryz.func62 (by kernel_rfl) rfl
theorem law02_Own_c {S : Nat → Prop} {w : World} {v : Value} {q : QV} (up : Up S w) (h : eQ.R S w v q) (hl : qok 1000000000 q) : CR Tryz.prog 62 #[v] w (eQ.at S q) := by
  obtain ⟨s, t, rfl, hn, hd⟩ := eQ_parts h
  refine enter Tryz.func62 rfl Tryz.ntmps62 rfl ?_
  refine .seq (.region (.box rfl rfl fun w1 b1 n1 => .alloc rfl zero_Q fun w2 b2 n2 => .nil ?_))
  obtain ⟨e1, k1, hb1, hs1⟩ := n1
  obtain ⟨e2, k2, hb2, hs2⟩ := n2
  have x2 := e1.trans e2
  have k1 := k1.ext e2
  have hS2 : ¬ Sx S w.heap.size w2.heap.size b2 := Sx.no (by omega) (by omega)
  have up2 : Up (Sx S w.heap.size w2.heap.size) w2 := Sx.up up (Nat.le_refl _) x2.size
  have hn2 := (ER.par eZ hn w2.heap.size).ext x2
  have hd2 := (ER.par eZ hd w2.heap.size).ext x2
  have hout : ∀ {W : World} {v : Value} {z : QV}, eQ.R (Sx S w.heap.size w2.heap.size) W v z → eQ.R S W v z := fun h => h.out
  generalize hT : Sx S w.heap.size w2.heap.size = T at *
  refine .seq ?_
  refine .par follows 7 [.inl _, .inl (.agg #[.bool q.num.neg, s]), .inr (eZ.at T q.num), .inl _, .inl (.agg #[.bool q.den.neg, t]), .inr (eZ.at T q.den), .inr (eQ.at T q)] [[], [(3, 0)], [(4, 1)], [], [(6, 3)], [(7, 4)], [(5, 2), (8, 5)]] (by kernel_rfl) ⟨
    fun w e => (v_fa fld_Q0 rfl).ob, fun w e => (v_ldN [.bool q.num.neg, s] ty_Z rfl (k1.ext e) two_on).ob,
    fun w e => (g_call _ E_law01_Own rfl (law01_Own_c (up2.ext e.size) (ER.ext eZ hn2 e) hl.1)).ob (st_at _ _ _),
    fun w e => (v_fa fld_Q1 rfl).ob, fun w e => (v_ldN [.bool q.den.neg, t] ty_Z rfl (k1.ext e) two_off).ob,
    fun w e => (g_call _ E_law01_Own rfl (law01_Own_c (up2.ext e.size) (ER.ext eZ hd2 e) hl.2)).ob (st_at _ _ _),
    fun w e x hx y hy => by
      obtain ⟨sx, rfl, hsx⟩ := hx
      obtain ⟨sy, rfl, hsy⟩ := hy
      exact ob_vl (v_bld [(0, .agg #[.bool q.num.neg, sx]), (1, .agg #[.bool q.den.neg, sy])] rfl bld_Q2) ⟨sx, sy, rfl, hsx, hsy⟩ (st_at _ _ _), trivial⟩ ?_
  rintro w3 e3 x - y - z hz
  refine .storeA (E := eQ) ty_Q rfl rfl (k2.ext e3) rfl rfl hz hS2 fun w5 k5 u5 h5 => .nil (.ret ?_)
  exact .cell Tryz.results62 rfl ty_Q rfl rfl k5 h5 ⟨u5.below (x2.trans e3) (by omega), hout h5⟩
end Go.Proofs.YtccmemilofoamaaGreat

namespace Go.Kx
theorem range_getD {α : Type} (l : List α) (z : α) : (List.range l.length).map (fun i => l.getD i z) = l := by
  apply List.ext_getElem?
  intro i
  by_cases h : i < l.length
  · simp [h, List.getD_eq_getElem?_getD]
  · rw [List.getElem?_eq_none (by simp; omega), List.getElem?_eq_none (by omega)]
end Go.Kx
namespace Go.Proofs.YtccmemilofoamaaGreat
open Go Go.Kx Go.RowKit

theorem E_law03_Own : Ent Tryz.prog 15 := ent_of Tryz.func15 (by kernel_rfl) rfl
theorem law03_Own_c {S : Nat → Prop} {w : World} {v : Value} {a : List QV} (up : Up S w) (h : eV.R S w v a) (hl : ∀ q ∈ a, qok 1000000000 q) (hll : a.length ≤ 1000000) : CR Tryz.prog 15 #[v] w (eV.at S a) := by
  have hA : ∀ {W : World}, Below w.heap.size w W → eV.R (fun k => S k ∧ k < w.heap.size) W v a := fun hB => eV.keep (fun k c t f hk h => (hB.block k hk.2).trans h) (ER.lt eV h)
  refine enter Tryz.func15 rfl Tryz.ntmps15 rfl ?_
  refine .seq (.region (.asg rfl rfl (.nil (.seq (.region (.asg rfl rfl (.nil (.seq (.seq (.region (.asg rfl rfl (.nil ?_))))))))))))
  refine .block (.loop (α := Nat × Value) (fun y => [(0, v), (3, y.2), (4, .int .i64 (y.1 : Nat))]) (fun y W => Below w.heap.size w W ∧ y.1 ≤ a.length ∧ OwnL eQ 37 w.heap.size S W y.2 ((List.range y.1).map fun i => a.getD i q0)) (fun y => a.length - y.1) (0, .slice none 0 0) ?_ ?_ ?_)
  · exact look_cons rfl (look_cons rfl (look_cons rfl look_nil))
  · exact ⟨Below.refl _ _, Nat.zero_le _, OwnL.nil⟩
  · rintro ⟨i, u⟩ W ⟨hB, hi, ho⟩
    replace hB : Below w.heap.size w W := hB
    replace hi : i ≤ a.length := hi
    replace ho : OwnL eQ 37 w.heap.size S W u ((List.range i).map fun i => a.getD i q0) := ho
    refine .weak [(0, v), (3, u), (4, .int .i64 (i : Nat))] (fun t v h => h) ?_
    have hsz := hB.size
    refine .seq (.seq (.region (.mv rfl rfl (.mv rfl rfl (.lenR un_V rfl rfl (hA hB) ?_)))))
    by_cases hlt : i < a.length
    · refine .lssT rfl rfl rfl (by omega) (.nil (.condT rfl (.skip (.seq (.block (.region (.mv rfl rfl (.mv rfl rfl (.mv rfl rfl ?_)))))))))
      refine .ixN (i := i) un_V ty_Q rfl rfl (hA hB) rfl (getD_get' (z := q0) hlt) fun p hp => .ldE ty_Q rfl rfl hp fun e he => ?_
      obtain ⟨es, ho1, ho2⟩ := id ho
      have hTu : ∀ k', S k' ∧ k' < w.heap.size → S k' ∧ u.ownBlock ≠ some k' := fun k' hk' => ⟨hk'.1, fun h => by have := (ho1.lt k' h).1; have := hk'.2; omega⟩
      refine .call _ rfl E_law02_Own rfl (law02_Own_c (S := fun k => S k ∧ u.ownBlock ≠ some k) (fun k hk => ⟨up k (by omega), fun h => by have := (ho1.lt k h).2; omega⟩) (eQ.mono (fun k _ h => hTu k h) he) (mem_getD (P := qok 1000000000) hl ⟨by simp [q0], by simp [q0]⟩ i)) fun v2 W2 e2 h2 => ?_
      have hr' := h2
      obtain ⟨s, t, rfl, _, _⟩ := hr'
      refine .bsl _ rfl rfl bsl_V1 fun W3 b3 n3 => ?_
      obtain ⟨e3, k3, hb3, hs3⟩ := n3
      have e23 := e2.trans e3
      have hB3 : Below w.heap.size w W3 := hB.trans (e23.mono hsz)
      refine .gv rfl rfl (g_appL (E := eQ) (base := w.heap.size) (by decide) un_V info_Q rfl rfl rfl (ho.ext e23) k3 (h2.ext e3) (by simp; omega) (by decide) hB3.size) ?_
      rintro v4 W4 ⟨ho4, hg4⟩
      refine .asg rfl rfl (.nil (.region (.mv rfl rfl (.add rfl rfl rfl (.asg rfl rfl (.nil ?_))))))
      rw [wI (by omega)]
      refine ⟨rfl, (i + 1, v4), look_cons rfl (look_cons rfl (look_cons rfl look_nil)), ⟨(ho.ext e23).below hg4 hB3 hB3.size, hlt, ?_⟩, by show a.length - (i + 1) < a.length - i; omega⟩
      show OwnL eQ 37 w.heap.size S W4 v4 ((List.range (i + 1)).map fun i => a.getD i q0)
      rw [List.range_succ, List.map_append]
      exact ho4
    · refine .lssF rfl rfl rfl (by omega) (.nil (.condF rfl (.exit (.seq (.region (.mv rfl rfl (.asg rfl rfl (.nil (.ret ?_)))))))))
      have : i = a.length := by omega
      subst this
      rw [range_getD] at ho
      exact .plain [_] Tryz.results15 ⟨rfl, trivial⟩ ⟨hB, ho.toR up (fun _ h => h)⟩

theorem E_law04_Own : Ent Tryz.prog 13 := ent_of Tryz.func13 (by kernel_rfl) rfl
theorem law04_Own_c {S : Nat → Prop} {w : World} {v : Value} {m : List (List QV)} (up : Up S w) (h : eM.R S w v m) (hl : ∀ r ∈ m, ∀ q ∈ r, qok 1000000000 q) (hll : m.length ≤ 1000000) (hlc : colsOf m ≤ 1000000) : CR Tryz.prog 13 #[v] w (eM.at S m) := by
  have hA : ∀ {W : World}, Below w.heap.size w W → eM.R (fun k => S k ∧ k < w.heap.size) W v m := fun hB => eM.keep (fun k c t f hk h => (hB.block k hk.2).trans h) (ER.lt eM h)
  refine enter Tryz.func13 rfl Tryz.ntmps13 rfl ?_
  refine .seq (.region (.asg rfl rfl (.nil (.seq (.region (.asg rfl rfl (.nil (.seq (.seq (.region (.asg rfl rfl (.nil ?_))))))))))))
  refine .block (.loop (α := Nat × Value) (fun y => [(0, v), (3, y.2), (4, .int .i64 (y.1 : Nat))]) (fun y W => Below w.heap.size w W ∧ y.1 ≤ m.length ∧ OwnL eV 23 w.heap.size S W y.2 ((List.range y.1).map fun i => m.getD i [])) (fun y => m.length - y.1) (0, .slice none 0 0) ?_ ?_ ?_)
  · exact look_cons rfl (look_cons rfl (look_cons rfl look_nil))
  · exact ⟨Below.refl _ _, Nat.zero_le _, OwnL.nil⟩
  · rintro ⟨i, u⟩ W ⟨hB, hi, ho⟩
    replace hB : Below w.heap.size w W := hB
    replace hi : i ≤ m.length := hi
    replace ho : OwnL eV 23 w.heap.size S W u ((List.range i).map fun i => m.getD i []) := ho
    refine .weak [(0, v), (3, u), (4, .int .i64 (i : Nat))] (fun t v h => h) ?_
    have hsz := hB.size
    refine .seq (.seq (.region (.mv rfl rfl (.mv rfl rfl (.lenR un_M rfl rfl (hA hB) ?_)))))
    by_cases hlt : i < m.length
    · refine .lssT rfl rfl rfl (by omega) (.nil (.condT rfl (.skip (.seq (.block (.region (.mv rfl rfl (.mv rfl rfl (.mv rfl rfl ?_)))))))))
      refine .ixN (i := i) un_M ty_V rfl rfl (hA hB) rfl (getD_get' (z := []) hlt) fun p hp => .ldE ty_V rfl rfl hp fun e he => ?_
      obtain ⟨es, ho1, ho2⟩ := id ho
      have hTu : ∀ k', S k' ∧ k' < w.heap.size → S k' ∧ u.ownBlock ≠ some k' := fun k' hk' => ⟨hk'.1, fun h => by have := (ho1.lt k' h).1; have := hk'.2; omega⟩
      refine .call _ rfl E_law03_Own rfl (law03_Own_c (S := fun k => S k ∧ u.ownBlock ≠ some k) (fun k hk => ⟨up k (by omega), fun h => by have := (ho1.lt k h).2; omega⟩) (eV.mono (fun k _ h => hTu k h) he) (mem_getD (P := fun r => ∀ q ∈ r, qok 1000000000 q) hl (fun q hq => by cases hq) i) (Nat.le_trans (colsOf_get m i) hlc)) fun v2 W2 e2 h2 => ?_
      obtain ⟨ar, cr, hvr, _⟩ := RL.len h2
      generalize hnr : (m.getD i []).length = nr at hvr
      subst hvr
      refine .bsl _ rfl rfl bsl_M1 fun W3 b3 n3 => ?_
      obtain ⟨e3, k3, hb3, hs3⟩ := n3
      have e23 := e2.trans e3
      have hB3 : Below w.heap.size w W3 := hB.trans (e23.mono hsz)
      refine .gv rfl rfl (g_appL (E := eV) (base := w.heap.size) (n := m.getD i []) (e := .slice ar nr cr) (by decide) un_M info_V rfl rfl rfl (ho.ext e23) k3 (h2.ext e3) (by simp; omega) (by decide) hB3.size) ?_
      rintro v4 W4 ⟨ho4, hg4⟩
      refine .asg rfl rfl (.nil (.region (.mv rfl rfl (.add rfl rfl rfl (.asg rfl rfl (.nil ?_))))))
      rw [wI (by omega)]
      refine ⟨rfl, (i + 1, v4), look_cons rfl (look_cons rfl (look_cons rfl look_nil)), ⟨(ho.ext e23).below hg4 hB3 hB3.size, hlt, ?_⟩, by show m.length - (i + 1) < m.length - i; omega⟩
      show OwnL eV 23 w.heap.size S W4 v4 ((List.range (i + 1)).map fun i => m.getD i [])
      rw [List.range_succ, List.map_append]
      exact ho4
    · refine .lssF rfl rfl rfl (by omega) (.nil (.condF rfl (.exit (.seq (.region (.mv rfl rfl (.asg rfl rfl (.nil (.ret ?_)))))))))
      have : i = m.length := by omega
      subst this
      rw [range_getD] at ho
      exact .plain [_] Tryz.results13 ⟨rfl, trivial⟩ ⟨hB, ho.toR up (fun _ h => h)⟩
end Go.Proofs.YtccmemilofoamaaGreat

namespace Go.Kx
open Go Go.RowKit
end Go.Kx
namespace Go.Proofs.YtccmemilofoamaaGreat
open Go Go.Kx Go.RowKit
structure MR (W : World) (v : Value) (n c L : Nat) (m : List (List QV)) : Prop where
  r : eM.R (fun _ => True) W v m
  hn : m.length ≤ n
  hc : colsOf m ≤ c
  hk : mk_ L m
structure VR (W : World) (v : Value) (n L : Nat) (a : List QV) : Prop where
  r : eV.R (fun _ => True) W v a
  hn : a.length ≤ n
  hk : vk L a
section
variable {W W' : World} {v va vb : Value} {n c n' c' L L' : Nat} {a b m : List (List QV)} {x y : List QV}
theorem MR.ext (h : MR W v n c L m) (e : Ext W W') : MR W' v n c L m := ⟨h.r.ext e, h.hn, h.hc, h.hk⟩
theorem VR.ext (h : VR W v n L x) (e : Ext W W') : VR W' v n L x := ⟨h.r.ext e, h.hn, h.hk⟩
theorem upT {W : World} : Up (fun _ => True) W := fun _ _ => trivial
end
/-- a matrix that is not long -/
theorem okM.mr {W : World} {v : Value} {m : List (List QV)} (h : okM m) (hr : eM.R (fun _ => True) W v m) : MR W v 8 8 6 m :=
  ⟨hr, h.1, h.2.1, eM_mk hr (fun r hr => (h.2.2 r hr).2) (by decide)⟩
theorem okV.vr {W : World} {v : Value} {a : List QV} (h : okV a) (hr : eV.R (fun _ => True) W v a) : VR W v 20 6 a := ⟨hr, h.1, eV_vk hr h.2 (by decide)⟩
end Go.Proofs.YtccmemilofoamaaGreat

namespace Go.Proofs.YtccmemilofoamaaGreat
open Go Go.Kx Go.RowKit

theorem bsl_M2 {a a' : Option Addr} {n c n' c' : Nat} : bslOf Tryz.prog 22 2 [(0, .slice a n c), (1, .slice a' n' c')] = some (23, #[.slice a n c, .slice a' n' c']) := by kernel_rfl
/-- slices just laid in a row -/
theorem eS_new {α : Type} {E : ER α} {hsz : 0 < E.sz} {S : Nat → Prop} {w w' : World} {b : Nat} {t : TypeId} {cs : Array Value} {n : Nat} (vs : List Value) (ls : List (List α)) (hn : New w w' b t cs) (up : Up S w) (hcs : cs = vs.toArray) (hl : ls.length = n) (hm : n ≤ 1000) (h : Els (RL E hsz) S w vs ls) :
    (RL (RL E hsz) (show 0 < 1 by decide)).R S w' (.slice (some ⟨b, 0, none⟩) n n) ls := by
  subst hl
  refine RL.ofBlk (es := vs) hn.2.1 (up b (by have := hn.2.2.1; omega)) (h.ext hn.1) (fun j u hu => ?_) (Nat.le_refl _) (by omega)
  rw [hcs]
  have hv : ∀ v ∈ vs, v.cells = #[v] := by
    intro v hv
    obtain ⟨i, hi⟩ := List.mem_iff_getElem?.1 hv
    have hlt := mem_lt hi
    obtain ⟨a, c, rfl, _⟩ := RL.len (h.2 i v _ hi (List.getElem?_eq_getElem (by rw [← h.1]; exact hlt)))
    rfl
  have : cellsOf vs = vs := by
    clear h hcs hu
    induction vs with
    | nil => rfl
    | cons v vs ih => rw [cellsOf, List.flatMap_cons, hv v (by simp), ← cellsOf, ih fun u hu => hv u (by simp [hu])]; rfl
  rw [this] at hu
  simpa using hu

end Go.Proofs.YtccmemilofoamaaGreat

namespace Go.Proofs.YtccmemilofoamaaGreat
open Go Go.Kx Go.RowKit

theorem E_law05_tall : Ent Tryz.prog 55 := ent_of Tryz.func55 (by kernel_rfl) rfl
theorem law05_tall_c {S : Nat → Prop} {w : World} {v : Value} {l : List (List QV)} (h : eM.R S w v l) : CR Tryz.prog 55 #[v] w (Lng (∀ r ∈ l, ∀ q ∈ r, qok 2 q)) := by
  obtain ⟨_, _, _, _, hl⟩ := RL.len h
  refine enter Tryz.func55 rfl Tryz.ntmps55 rfl ?_
  refine .seq (.region (.asg rfl rfl (.nil (.seq (.seq (.region (.asg rfl rfl (.nil ?_))))))))
  refine .block (.loop (α := Nat) (fun i => [(0, v), (3, .int .i64 (i : Nat))]) (fun i W => W = w ∧ i ≤ l.length ∧ ∀ j r, j < i → l[j]? = some r → ∀ q ∈ r, qok 2 q) (fun i => l.length - i) 0 ?_ ?_ ?_)
  · exact look_cons rfl (look_cons rfl look_nil)
  · exact ⟨rfl, Nat.zero_le _, fun j r hj => absurd hj (Nat.not_lt_zero _)⟩
  rintro i W ⟨rfl, hi, hall⟩
  refine .seq (.seq (.region (.mv rfl rfl (.mv rfl rfl (.lenR un_M rfl rfl h ?_)))))
  rcases Nat.lt_or_ge i l.length with hlt | hge
  rotate_left
  · refine .lssF rfl rfl rfl (by omega) (.nil (.condF rfl (.exit (.seq (.region (.asg rfl rfl (.nil (.ret ?_))))))))
    refine .plain [_] Tryz.results55 ⟨rfl, trivial⟩ ⟨.refl _, false, rfl, fun _ r hr => ?_⟩
    obtain ⟨j, hj⟩ := List.mem_iff_getElem?.1 hr
    exact hall j r (by have := mem_lt hj; omega) hj
  have hyy := List.getElem?_eq_getElem hlt
  generalize l[i] = r at hyy
  have hrl : r.length ≤ 9223372036854775807 := eM_le h hyy
  refine .lssT rfl rfl rfl (by omega) (.nil (.condT rfl (.skip (.seq (.block (.seq (.region (.asg rfl rfl (.nil ?_)))))))))
  refine .block (.loop (α := Nat) (fun k => [(0, v), (3, .int .i64 (i : Nat)), (4, .int .i64 (k : Nat))]) (fun k W' => W' = W ∧ k ≤ r.length ∧ ∀ j q, j < k → r[j]? = some q → qok 2 q) (fun k => r.length - k) 0 ?_ ?_ ?_)
  · exact look_cons rfl (look_cons rfl (look_cons rfl look_nil))
  · exact ⟨rfl, Nat.zero_le _, fun j r hj => absurd hj (Nat.not_lt_zero _)⟩
  rintro k W' ⟨rfl, hk, hall2⟩
  refine .seq (.seq (.region (.mv rfl rfl (.mv rfl rfl (.mv rfl rfl ?_)))))
  refine .ixN (i := i) un_M ty_V rfl rfl h rfl hyy fun p hp => .ldE ty_V rfl rfl hp fun e he => .lenR un_V rfl rfl he ?_
  rcases Nat.lt_or_ge k r.length with hlk | hgk
  rotate_left
  · refine .lssF rfl rfl rfl (by omega) (.nil (.condF rfl (.exit (.region (.mv rfl rfl (.add rfl rfl rfl (.asg rfl rfl (.nil ?_))))))))
    rw [wI (by omega)]
    refine ⟨rfl, i + 1, look_cons rfl (look_cons rfl look_nil), ⟨rfl, hlt, fun j r' hj hr' => ?_⟩, by show l.length - (i + 1) < l.length - i; omega⟩
    by_cases e : j = i
    · subst e; rw [hyy] at hr'; cases hr'
      intro q hq
      obtain ⟨j, hj⟩ := List.mem_iff_getElem?.1 hq
      exact hall2 j q (by have := mem_lt hj; omega) hj
    · exact hall j r' (by omega) hr'
  have hzz := List.getElem?_eq_getElem hlk
  generalize r[k] = q at hzz
  refine .lssT rfl rfl rfl (by omega) (.nil (.condT rfl (.skip (.seq (.block (.seq (.region (.mv rfl rfl (.mv rfl rfl ?_)))))))))
  refine .ixN (i := i) un_M ty_V rfl rfl h rfl hyy fun p2 hp2 => .ldE ty_V rfl rfl hp2 fun e2 he2 => .mv rfl rfl ?_
  refine .ixN (i := k) un_V ty_Q rfl rfl he2 rfl hzz fun p3 hp3 => .faP fld_Q0 rfl rfl (.faP fld_Z1 rfl rfl (.ldE (E := eW) ty_W rfl rfl hp3.qn.zw fun e3 he3 => .lenR un_W rfl rfl he3 ?_))
  have htrue : ∀ {σ : Env}, Kx.look σ 2 = some (.bool true) → Leave Tryz.prog Tryz.f55 44 (fun v w' => Ext W' w' ∧ Lng (∀ r ∈ l, ∀ q ∈ r, qok 2 q) v w') σ [] W' := by
    intro σ hl
    exact .plain [_] Tryz.results55 ⟨hl, trivial⟩ ⟨.refl _, true, rfl, fun h => by cases h⟩
  by_cases hn : q.num.w.length ≤ 2
  · refine .gtrF rfl rfl rfl (by omega) (.mv rfl rfl (.gr rfl rfl rfl rfl (.mv rfl rfl (.gr rfl rfl rfl rfl (.mv rfl rfl (.gr rfl rfl rfl rfl ?_))))))
    refine .ixN (i := i) un_M ty_V rfl rfl h rfl hyy fun p4 hp4 => .gr rfl rfl rfl rfl (.ldE ty_V rfl rfl hp4 fun e4 he4 => .gr rfl rfl rfl rfl (.mv rfl rfl (.gr rfl rfl rfl rfl ?_)))
    refine .ixN (i := k) un_V ty_Q rfl rfl he4 rfl hzz fun p5 hp5 => .gr rfl rfl rfl rfl (.faP fld_Q1 rfl rfl (.gr rfl rfl rfl rfl (.faP fld_Z1 rfl rfl (.gr rfl rfl rfl rfl (.ldE (E := eW) ty_W rfl rfl hp5.qd.zw fun e5 he5 => .gr rfl rfl rfl rfl (.lenR un_W rfl rfl he5 (.gr rfl rfl rfl rfl ?_)))))))
    by_cases hd : q.den.w.length ≤ 2
    · refine .gtrF rfl rfl rfl (by omega) (.pick rfl rfl rfl (.nil (.condF rfl (.skip (.region (.mv rfl rfl (.add rfl rfl rfl (.asg rfl rfl (.nil ?_)))))))))
      rw [wI (by omega)]
      refine ⟨rfl, k + 1, look_cons rfl (look_cons rfl (look_cons rfl look_nil)), ⟨rfl, hlk, fun j q' hj hq' => ?_⟩, by show r.length - (k + 1) < r.length - k; omega⟩
      by_cases e : j = k
      · subst e; rw [hzz] at hq'; cases hq'; exact ⟨hn, hd⟩
      · exact hall2 j q' (by omega) hq'
    · exact .gtrT rfl rfl rfl (by omega) (.pick rfl rfl rfl (.nil (.condT rfl (.seq (.region (.asg rfl rfl (.nil (.ret (htrue rfl)))))))))
  · refine .gtrT rfl rfl rfl (by omega) (.mv rfl rfl (.gs rfl rfl rfl rfl rfl (.gs rfl rfl rfl rfl rfl (.gs rfl rfl rfl rfl rfl (.gs rfl rfl rfl rfl rfl (.gs rfl rfl rfl rfl rfl (.gs rfl rfl rfl rfl rfl (.gs rfl rfl rfl rfl rfl (.gs rfl rfl rfl rfl rfl (.gs rfl rfl rfl rfl rfl (.gs rfl rfl rfl rfl rfl (.gs rfl rfl rfl rfl rfl ?_))))))))))))
    exact .pick rfl rfl rfl (.nil (.condT rfl (.seq (.region (.asg rfl rfl (.nil (.ret (htrue rfl))))))))

theorem bsl_MM1 {a : Option Addr} {n c : Nat} : bslOf Tryz.prog 113 1 [(0, .slice a n c)] = some (22, #[.slice a n c]) := by kernel_rfl
/-- what the laws of chapter 5 speak of -/
structure okM5 (m : List (List QV)) : Prop where
  rows : m.length ≤ 6
  cols : colsOf m ≤ 6
  q : ∀ r ∈ m, ∀ q ∈ r, qok 2 q
structure okV5 (b : List QV) : Prop where
  len : b.length ≤ 8
  q : ∀ q ∈ b, qok 2 q
theorem E_law05_long : Ent Tryz.prog 11 := ent_of Tryz.func11 (by kernel_rfl) rfl
theorem law05_long_c {w : World} {vm vl : Value} {m : List (List QV)} {l : List (List QV)} (hm : eM.R (fun _ => True) w vm m) (hl : eM.R (fun _ => True) w vl l) :
    CR Tryz.prog 11 #[vm, vl] w (Lng (okM5 m ∧ ∀ b ∈ l, okV5 b)) := by
  obtain ⟨am, cm, hvm, _, hml⟩ := RL.len hm
  obtain ⟨_, _, _, _, hll⟩ := RL.len hl
  refine enter Tryz.func11 rfl Tryz.ntmps11 rfl ?_
  have htrue : ∀ {σ : Env} {W : World}, Ext w W → Kx.look σ 4 = some (.bool true) → Leave Tryz.prog Tryz.f11 41 (fun v w' => Ext w w' ∧ Lng (okM5 m ∧ ∀ b ∈ l, okV5 b) v w') σ [] W := by
    intro σ W hW hl
    exact .plain [_] Tryz.results11 ⟨hl, trivial⟩ ⟨hW, true, rfl, fun h => by cases h⟩
  refine .seq (.region (.asg rfl rfl (.nil ?_)))
  refine .mid (α := Unit) (fun _ => [(0, vm), (1, vl), (4, .bool false)]) (fun _ W => Ext w W ∧ m.length ≤ 6 ∧ colsOf m ≤ 6) ?_ ?_
  · refine .seq (.region (.mv rfl rfl (.bsl [(0, vm)] rfl rfl (by rw [hvm]; exact bsl_MM1) fun w1 b1 n1 => ?_)))
    have hmm : eMM.R (fun _ => True) w1 (.slice (some ⟨b1, 0, none⟩) 1 1) [m] := eS_new [vm] [m] n1 upT (by rw [hvm]) rfl (by decide) (Els.snoc Els.nil hm)
    refine .call _ rfl E_law04_Long rfl (law04_Long_c upT hmm) fun v2 w2 e2 h2 => .mv rfl rfl ?_
    obtain ⟨bb, rfl, _⟩ := h2
    have x2 := n1.1.trans e2
    cases bb with
    | true =>
      refine .gs rfl rfl rfl rfl rfl (.gs rfl rfl rfl rfl rfl (.gs rfl rfl rfl rfl rfl (.pick rfl rfl rfl (.mv rfl rfl (.gs rfl rfl rfl rfl rfl (.gs rfl rfl rfl rfl rfl (.gs rfl rfl rfl rfl rfl (.pick rfl rfl rfl (.mv rfl rfl (.gs rfl rfl rfl rfl rfl (.gs rfl rfl rfl rfl rfl (.pick rfl rfl rfl (.nil (.condT rfl (.seq (.region (.asg rfl rfl (.nil (.ret ?_)))))))))))))))))))
      exact htrue x2 rfl
    | false =>
    refine .gr rfl rfl rfl rfl (.mv rfl rfl (.gr rfl rfl rfl rfl (.lenR un_M rfl rfl (hm.ext x2) (.gr rfl rfl rfl rfl ?_))))
    by_cases h6 : m.length ≤ 6
    rotate_left
    · refine .gtrT rfl rfl rfl (by omega) (.pick rfl rfl rfl (.mv rfl rfl (.gs rfl rfl rfl rfl rfl (.gs rfl rfl rfl rfl rfl (.gs rfl rfl rfl rfl rfl (.pick rfl rfl rfl (.mv rfl rfl (.gs rfl rfl rfl rfl rfl (.gs rfl rfl rfl rfl rfl (.pick rfl rfl rfl (.nil (.condT rfl (.seq (.region (.asg rfl rfl (.nil (.ret ?_)))))))))))))))))
      exact htrue x2 rfl
    refine .gtrF rfl rfl rfl (by omega) (.pick rfl rfl rfl (.mv rfl rfl (.gr rfl rfl rfl rfl (.mv rfl rfl (.gr rfl rfl rfl rfl ?_)))))
    refine .call _ rfl E_ref04_Cols rfl (ref04_Cols_c (hm.ext x2)) fun v3 w3 e3 h3 => .gr rfl rfl rfl rfl ?_
    subst h3
    have x3 := x2.trans e3
    by_cases hc6 : colsOf m ≤ 6
    rotate_left
    · refine .gtrT rfl rfl rfl (by omega) (.pick rfl rfl rfl (.mv rfl rfl (.gs rfl rfl rfl rfl rfl (.gs rfl rfl rfl rfl rfl (.pick rfl rfl rfl (.nil (.condT rfl (.seq (.region (.asg rfl rfl (.nil (.ret ?_))))))))))))
      exact htrue x3 rfl
    refine .gtrF rfl rfl rfl (by omega) (.pick rfl rfl rfl (.mv rfl rfl (.gr rfl rfl rfl rfl (.mv rfl rfl (.gr rfl rfl rfl rfl ?_)))))
    refine .call _ rfl E_law03_Long rfl (law03_Long_c upT (hl.ext x3)) fun v4 w4 e4 h4 => ?_
    obtain ⟨bb, rfl, _⟩ := h4
    cases bb with
    | true => exact .pick rfl rfl rfl (.nil (.condT rfl (.seq (.region (.asg rfl rfl (.nil (.ret (htrue (x3.trans e4) rfl))))))))
    | false =>
      refine .pick rfl rfl rfl (.nil (.condF rfl (.skip ?_)))
      exact ⟨rfl, (), look_cons rfl (look_cons rfl (look_cons rfl look_nil)), x3.trans e4, h6, hc6⟩
  rintro _ W1 ⟨x1, h6, hc6⟩
  refine .mid (α := Unit) (fun _ => [(0, vm), (1, vl)]) (fun _ W => W = W1 ∧ ∀ b ∈ l, b.length ≤ 8) ?_ ?_
  · refine .seq (.region (.asg rfl rfl (.nil ?_)))
    refine .block (.loop (α := Nat) (fun i => [(0, vm), (1, vl), (5, .int .i64 (i : Nat))]) (fun i W => W = W1 ∧ i ≤ l.length ∧ ∀ j r, j < i → l[j]? = some r → r.length ≤ 8) (fun i => l.length - i) 0 ?_ ?_ ?_)
    · exact look_cons rfl (look_cons rfl (look_cons rfl look_nil))
    · exact ⟨rfl, Nat.zero_le _, fun j r hj => absurd hj (Nat.not_lt_zero _)⟩
    rintro i W ⟨rfl, hi, hall⟩
    have hlW := hl.ext x1
    refine .seq (.seq (.region (.mv rfl rfl (.mv rfl rfl (.lenR un_M rfl rfl hlW ?_)))))
    rcases Nat.lt_or_ge i l.length with hlt | hge
    rotate_left
    · refine .lssF rfl rfl rfl (by omega) (.nil (.condF rfl (.exit ?_)))
      refine ⟨rfl, (), look_cons rfl (look_cons rfl look_nil), rfl, fun b hb => ?_⟩
      obtain ⟨j, hj⟩ := List.mem_iff_getElem?.1 hb
      exact hall j b (by have := mem_lt hj; omega) hj
    have hyy := List.getElem?_eq_getElem hlt
    generalize l[i] = r at hyy
    refine .lssT rfl rfl rfl (by omega) (.nil (.condT rfl (.skip (.seq (.block (.seq (.region (.mv rfl rfl (.mv rfl rfl ?_)))))))))
    refine .ixN (i := i) un_M ty_V rfl rfl hlW rfl hyy fun p hp => .ldE ty_V rfl rfl hp fun e he => .lenR un_V rfl rfl he ?_
    by_cases h8 : r.length ≤ 8
    · refine .gtrF rfl rfl rfl (by omega) (.nil (.condF rfl (.skip (.region (.mv rfl rfl (.add rfl rfl rfl (.asg rfl rfl (.nil ?_))))))))
      rw [wI (by omega)]
      refine ⟨rfl, i + 1, look_cons rfl (look_cons rfl (look_cons rfl look_nil)), ⟨rfl, hlt, fun j r' hj hr' => ?_⟩, by show l.length - (i + 1) < l.length - i; omega⟩
      by_cases e : j = i
      · subst e; rw [hyy] at hr'; cases hr'; exact h8
      · exact hall j r' (by omega) hr'
    · exact .gtrT rfl rfl rfl (by omega) (.nil (.condT rfl (.seq (.region (.asg rfl rfl (.nil (.ret (htrue x1 rfl))))))))
  rintro _ W ⟨rfl, hl8⟩
  refine .seq (.region (.mv rfl rfl ?_))
  refine .call _ rfl E_law05_tall rfl (law05_tall_c (hm.ext x1)) fun v2 w2 e2 h2 => .mv rfl rfl ?_
  obtain ⟨bb, rfl, ht⟩ := h2
  cases bb with
  | true =>
    refine .gs rfl rfl rfl rfl rfl (.gs rfl rfl rfl rfl rfl (.pick rfl rfl rfl (.asg rfl rfl (.nil (.ret ?_)))))
    exact .plain [_] Tryz.results11 ⟨rfl, trivial⟩ ⟨x1.trans e2, true, rfl, fun h => by cases h⟩
  | false =>
    refine .gr rfl rfl rfl rfl (.mv rfl rfl (.gr rfl rfl rfl rfl ?_))
    refine .call _ rfl E_law05_tall rfl (law05_tall_c ((hl.ext x1).ext e2)) fun v3 w3 e3 h3 => ?_
    obtain ⟨bb, rfl, ht2⟩ := h3
    refine .pick rfl rfl rfl (.asg rfl rfl (.nil (.ret ?_)))
    exact .plain [_] Tryz.results11 ⟨rfl, trivial⟩ ⟨(x1.trans e2).trans e3, bb, rfl, fun h => ⟨⟨h6, hc6, ht rfl⟩, fun b hb => ⟨hl8 b hb, ht2 h b hb⟩⟩⟩

/-- equality of lists of integers -/
theorem E_ref05_Ints : Ent Tryz.prog 27 := ent_of Tryz.func27 (by kernel_rfl) rfl
theorem ref05_Ints_c {S : Nat → Prop} {w : World} {va vb : Value} {a : List Int} (ha : eI.R S w va a) (hb : eI.R S w vb a) : CR Tryz.prog 27 #[va, vb] w (Is (.bool true)) := by
  obtain ⟨_, _, _, _, hl⟩ := RL.len ha
  refine enter Tryz.func27 rfl Tryz.ntmps27 rfl ?_
  refine .seq (.region (.asg rfl rfl (.nil (.seq (.seq (.region (.mv rfl rfl (.lenR un_I rfl rfl ha (.mv rfl rfl (.lenR un_I rfl rfl hb (.neqF rfl rfl rfl rfl (.nil (.condF rfl (.skip ?_))))))))))))) )
  refine .seq (.seq (.region (.asg rfl rfl (.nil ?_))))
  refine .block (.loop (α := Nat) (fun i => [(0, va), (1, vb), (5, .int .i64 (i : Nat))]) (fun i W => Ext w W ∧ i ≤ a.length) (fun i => a.length - i) 0 ?_ ?_ ?_)
  · exact look_cons rfl (look_cons rfl (look_cons rfl look_nil))
  · exact ⟨Ext.refl _, Nat.zero_le _⟩
  rintro i W ⟨hW, hi⟩
  have haW := ER.ext eI ha hW
  have hbW := ER.ext eI hb hW
  refine .seq (.seq (.region (.mv rfl rfl (.mv rfl rfl (.lenR un_I rfl rfl haW ?_)))))
  rcases Nat.lt_or_ge i a.length with hlt | hge
  rotate_left
  · refine .lssF rfl rfl rfl (by omega) (.nil (.condF rfl (.exit (.seq (.region (.asg rfl rfl (.nil (.ret ?_))))))))
    exact .plain [_] Tryz.results27 ⟨rfl, trivial⟩ ⟨hW, rfl⟩
  have hyy := List.getElem?_eq_getElem hlt
  generalize a[i] = r at hyy
  refine .lssT rfl rfl rfl (by omega) (.nil (.condT rfl (.skip (.seq (.block (.seq ?_))))))
  refine .par follows 8 [.inl va, .inl (.int .i64 (i : Nat)), .inr (Ptr (eInt .i64) S r), .inl (.int .i64 r), .inl vb, .inl (.int .i64 (i : Nat)), .inr (Ptr (eInt .i64) S r), .inl (.int .i64 r)] [[], [], [(17, 0), (18, 1)], [(19, 2)], [], [], [(21, 4), (22, 5)], [(23, 6)]] (by kernel_rfl) ⟨
    fun w e => (v_mv rfl).ob, fun w e => (v_mv rfl).ob, fun w e => ob_ixN (i := i) un_I ty_I1 rfl (ER.ext eI haW e) rfl hyy, fun w e p hp => ob_ldI ty_I1 rfl hp,
    fun w e => (v_mv rfl).ob, fun w e => (v_mv rfl).ob, fun w e => ob_ixN (i := i) un_I ty_I1 rfl (ER.ext eI hbW e) rfl hyy, fun w e p hp => ob_ldI ty_I1 rfl hp, trivial⟩ ?_
  intro W2 e2 x2 _ x6 _
  refine .neqF rfl rfl rfl rfl (.nil (.condF rfl (.skip (.region (.mv rfl rfl (.add rfl rfl rfl (.asg rfl rfl (.nil ?_))))))))
  rw [wI (by omega)]
  exact ⟨rfl, i + 1, look_cons rfl (look_cons rfl (look_cons rfl look_nil)), ⟨hW.trans e2, hlt⟩, by show a.length - (i + 1) < a.length - i; omega⟩

theorem E_ref02_Of : Ent Tryz.prog 58 := ent_of Tryz.func58 (by kernel_rfl) rfl
theorem ref02_Of_c {S : Nat → Prop} {w : World} {n d : Int} (up : Up S w) (hn : -9223372036854775808 ≤ n ∧ n ≤ 9223372036854775807) (hd : 0 < d ∧ d ≤ 9223372036854775807) : CR Tryz.prog 58 #[.int .i64 n, .int .i64 d] w (eQ.at S (qc (Rat.divInt n d))) := by
  refine enter Tryz.func58 rfl Tryz.ntmps58 rfl ?_
  refine .seq (.region (.alloc rfl zero_Q fun w1 b4 n1 => .nil (.seq (.region (.mv rfl rfl ?_)))))
  obtain ⟨e1, k4, hb4, hs1⟩ := n1
  have hS4 : ¬ Sx S w.heap.size w1.heap.size b4 := Sx.no (by omega) (by omega)
  have up1 : Up (Sx S w.heap.size w1.heap.size) w1 := Sx.up up (Nat.le_refl _) e1.size
  refine .call _ rfl E_ref01_From rfl (ref01_From_c up1 hn.1 hn.2) fun v2 w2 e2 h2 => .mv rfl rfl ?_
  refine .call _ rfl E_ref01_From rfl (ref01_From_c (up1.ext e2.size) (by omega) hd.2) fun v3 w3 e3 h3 => ?_
  obtain ⟨s, rfl, hs⟩ := ER.ext eZ h2 e3
  obtain ⟨t, rfl, ht⟩ := h3
  refine .bld _ rfl rfl bld_Q2 ?_
  have hq : eQ.R (Sx S w.heap.size w1.heap.size) w3 (.agg #[.bool (zc n).neg, s, .bool (zc d).neg, t]) ⟨zc n, zc d⟩ := ⟨s, t, rfl, hs, ht⟩
  have hok : qok 2 ⟨zc n, zc d⟩ := ⟨zc_len (by omega), zc_len (by omega)⟩
  have hv : qval ⟨zc n, zc d⟩ = Rat.divInt n d := by
    unfold qval pn pd
    simp only [zval_zc]
    rw [if_neg (by omega), if_neg (by omega), if_neg (by omega)]
  refine .call _ rfl E_ref02_Least rfl (ref02_Least_c (up1.ext (e2.trans e3).size) hq hok (by decide) (by decide)) fun v4 w4 e4 h4 => ?_
  rw [hv] at h4
  refine .storeA (E := eQ) ty_Q rfl rfl (((k4.ext e2).ext e3).ext e4) rfl rfl h4 hS4 fun w5 k5 u5 h5 => .nil (.ret ?_)
  exact .cell Tryz.results58 rfl ty_Q rfl rfl k5 h5 ⟨u5.below (((e1.trans e2).trans e3).trans e4) (by omega), h5.out⟩
end Go.Proofs.YtccmemilofoamaaGreat

namespace Go.Proofs.YtccmemilofoamaaGreat
open Go Go.Kx Go.RowKit
def cM (l : List (List Int)) : RM := fun i k => (((l.getD i []).getD k 0 : Int) : Rat)
theorem rm_ints (l : List (List Int)) : rm (intsM l) = cM l := by funext i k; exact rm_intsM l i k
abbrev l5m : List (List Int) := [[2, 4], [1, 3]]
abbrev l5s : List (List Int) := [[1, 2], [2, 4]]
theorem cols_m : colsOf (intsM l5m) = 2 := rfl
theorem cols_s : colsOf (intsM l5s) = 2 := rfl
theorem redP_s : redP (intsM l5s) = [0] := by
  unfold redP
  rw [rm_ints, cols_s, intsM_length]
  kernel_rfl
theorem redP_m : redP (intsM l5m) = [0, 1] := by
  unfold redP
  rw [rm_ints, cols_m, intsM_length]
  kernel_rfl
theorem redF_s (i k : Nat) : redF (intsM l5s) i k = (elim 2 (cM l5s) 2).1 i k := by
  unfold redF
  rw [rm_ints, cols_s, intsM_length]; rfl
theorem redM_s : redM (intsM l5s) = intsM [[1, 2]] := by
  unfold redM
  rw [redP_s, cols_s]
  have h0 : (elim 2 (cM l5s) 2).1 0 0 = (((([[1, 2]] : List (List Int)).getD 0 []).getD 0 0 : Int) : Rat) := by kernel_rfl
  have h1 : (elim 2 (cM l5s) 2).1 0 1 = (((([[1, 2]] : List (List Int)).getD 0 []).getD 1 0 : Int) : Rat) := by kernel_rfl
  refine tabM_ints rfl (fun i hi => ?_) (fun i k hi hk => ?_)
  · match i, hi with
    | 0, _ => rfl
  · rw [redF_s]
    match i, hi, k, hk with
    | 0, _, 0, _ => exact h0
    | 0, _, 1, _ => exact h1
theorem freeC_s : freeC (intsM l5s) = [1] := by unfold freeC; rw [redP_s, cols_s]; rfl
theorem freeC_m : freeC (intsM l5m) = [] := by unfold freeC; rw [redP_m, cols_m]; rfl
theorem null_s : nullM (intsM l5s) = intsM [[-2, 1]] := by
  unfold nullM
  rw [freeC_s, redP_s, cols_s]
  have h0 : nv (redF (intsM l5s)) [0] 1 0 = -2 := by
    unfold nv
    show (if (0 : Nat) = 1 then (1 : Rat) else 0) - (0 + (if [0].getD 0 0 = 0 then redF (intsM l5s) 0 1 else 0)) = -2
    rw [redF_s]
    kernel_rfl
  have h1 : nv (redF (intsM l5s)) [0] 1 1 = 1 := by
    unfold nv
    show (if (1 : Nat) = 1 then (1 : Rat) else 0) - (0 + (if [0].getD 0 0 = 1 then redF (intsM l5s) 0 1 else 0)) = 1
    rw [redF_s]
    kernel_rfl
  show [[qc (nv (redF (intsM l5s)) [0] 1 0), qc (nv (redF (intsM l5s)) [0] 1 1)]] = _
  rw [h0, h1]; rfl
theorem null_m : nullM (intsM l5m) = [] := by unfold nullM; rw [freeC_m]; rfl
/-- the augmented matrices -/
def cA (l : List (List Int)) (b : List Int) : RM := fun i k => if i < 2 ∧ k < 3 then (if k < 2 then cM l i k else ((b.getD i 0 : Int) : Rat)) else 0
theorem aug_ints {l : List (List Int)} {b : List Int} (hl : l.length = 2) (hb : b.length = 2) (hc : colsOf (intsM l) = 2) : (augM (intsM l) (intsV b)).length = 2 ∧ colsOf (augM (intsM l) (intsV b)) = 3 ∧ rm (augM (intsM l) (intsV b)) = cA l b := by
  have h1 : max (intsM l).length (intsV b).length = 2 := by rw [intsM_length, intsV_length, hl, hb]; rfl
  refine ⟨by rw [aug_len, h1], by rw [aug_cols, h1, hc]; rfl, ?_⟩
  funext i k
  unfold augM
  rw [rm_tabM, h1, hc]
  unfold cA augF
  rw [hc, rm_intsM, rv_intsV]; rfl
theorem red_aug {l : List (List Int)} {b : List Int} (hl : l.length = 2) (hb : b.length = 2) (hc : colsOf (intsM l) = 2) : redP (augM (intsM l) (intsV b)) = (elim 2 (cA l b) 3).2 ∧ redF (augM (intsM l) (intsV b)) = (elim 2 (cA l b) 3).1 := by
  obtain ⟨h1, h2, h3⟩ := aug_ints hl hb hc
  unfold redP redF
  rw [h1, h2, h3]
  exact ⟨rfl, rfl⟩
theorem solvable_1 : solvable (intsM l5m) (intsV [6, 4]) := by
  unfold solvable
  rw [(red_aug rfl rfl cols_m).1, cols_m, show (elim 2 (cA l5m [6, 4]) 3).2 = [0, 1] by kernel_rfl]; decide
theorem solvable_2 : ¬ solvable (intsM l5s) (intsV [1, 3]) := by
  unfold solvable
  rw [(red_aug rfl rfl cols_s).1, cols_s, show (elim 2 (cA l5s [1, 3]) 3).2 = [0, 2] by kernel_rfl]; decide
theorem solvable_3 : solvable (intsM l5s) (intsV [1, 2]) := by
  unfold solvable
  rw [(red_aug rfl rfl cols_s).1, cols_s, show (elim 2 (cA l5s [1, 2]) 3).2 = [0] by kernel_rfl]; decide
theorem solX_1 : solX (intsM l5m) (intsV [6, 4]) = intsV [1, 1] := by
  unfold solX
  rw [(red_aug rfl rfl cols_m).1, (red_aug rfl rfl cols_m).2, cols_m]
  have h0 : partF (elim 2 (cA l5m [6, 4]) 3).1 (elim 2 (cA l5m [6, 4]) 3).2 2 0 = 1 := by kernel_rfl
  have h1 : partF (elim 2 (cA l5m [6, 4]) 3).1 (elim 2 (cA l5m [6, 4]) 3).2 2 1 = 1 := by kernel_rfl
  show [qc (partF (elim 2 (cA l5m [6, 4]) 3).1 (elim 2 (cA l5m [6, 4]) 3).2 2 0), qc (partF (elim 2 (cA l5m [6, 4]) 3).1 (elim 2 (cA l5m [6, 4]) 3).2 2 1)] = _
  rw [h0, h1]; rfl
theorem solX_3 : solX (intsM l5s) (intsV [1, 2]) = intsV [1, 0] := by
  unfold solX
  rw [(red_aug rfl rfl cols_s).1, (red_aug rfl rfl cols_s).2, cols_s]
  have h0 : partF (elim 2 (cA l5s [1, 2]) 3).1 (elim 2 (cA l5s [1, 2]) 3).2 2 0 = 1 := by kernel_rfl
  have h1 : partF (elim 2 (cA l5s [1, 2]) 3).1 (elim 2 (cA l5s [1, 2]) 3).2 2 1 = 0 := by kernel_rfl
  show [qc (partF (elim 2 (cA l5s [1, 2]) 3).1 (elim 2 (cA l5s [1, 2]) 3).2 2 0), qc (partF (elim 2 (cA l5s [1, 2]) 3).1 (elim 2 (cA l5s [1, 2]) 3).2 2 1)] = _
  rw [h0, h1]; rfl
theorem det_m : detM (intsM l5m) = 2 := by
  unfold detM
  rw [rm_ints, intsM_length]
  kernel_rfl
theorem inv_m : invE (intsM l5m) = elim 2 (fun i k => if k < 2 then cM l5m i k else idR i (k - 2)) 2 := by
  unfold invE
  have : invF (intsM l5m) = fun i k => if k < 2 then cM l5m i k else idR i (k - 2) := by
    funext i k
    unfold invF
    rw [intsM_length, rm_intsM]; rfl
  rw [this, intsM_length]; rfl
theorem invertible_m : invertible (intsM l5m) := by
  unfold invertible
  rw [inv_m, intsM_length, show (elim 2 (fun i k => if k < 2 then cM l5m i k else idR i (k - 2)) 2).2 = [0, 1] by kernel_rfl]; decide
theorem invM_m : invM (intsM l5m) = [[qc (Rat.divInt 3 2), qc ((-2 : Int) : Rat)], [qc (-(Rat.divInt 1 2)), qc ((1 : Int) : Rat)]] := by
  unfold invM
  rw [intsM_length, inv_m]
  have h00 : (elim 2 (fun i k => if k < 2 then cM l5m i k else idR i (k - 2)) 2).1 0 2 = Rat.divInt 3 2 := by kernel_rfl
  have h01 : (elim 2 (fun i k => if k < 2 then cM l5m i k else idR i (k - 2)) 2).1 0 3 = ((-2 : Int) : Rat) := by kernel_rfl
  have h10 : (elim 2 (fun i k => if k < 2 then cM l5m i k else idR i (k - 2)) 2).1 1 2 = -(Rat.divInt 1 2) := by kernel_rfl
  have h11 : (elim 2 (fun i k => if k < 2 then cM l5m i k else idR i (k - 2)) 2).1 1 3 = ((1 : Int) : Rat) := by kernel_rfl
  show [[qc ((elim 2 (fun i k => if k < 2 then cM l5m i k else idR i (k - 2)) 2).1 0 2), qc ((elim 2 (fun i k => if k < 2 then cM l5m i k else idR i (k - 2)) 2).1 0 3)], [qc ((elim 2 (fun i k => if k < 2 then cM l5m i k else idR i (k - 2)) 2).1 1 2), qc ((elim 2 (fun i k => if k < 2 then cM l5m i k else idR i (k - 2)) 2).1 1 3)]] = _
  rw [h00, h01, h10, h11]
end Go.Proofs.YtccmemilofoamaaGreat

namespace Go.Proofs.YtccmemilofoamaaGreat
open Go Go.Kx Go.RowKit
theorem isM_t {w : World} {va vb : Value} {a b : List (List QV)} (ha : eM.R (fun _ => True) w va a) (hb : eM.R (fun _ => True) w vb b) (h : a = b) : CR Tryz.prog 20 #[va, vb] w (Is (.bool true)) := by
  have := ref04_Is_c ha hb
  rwa [same_true h] at this
theorem isV_t {w : World} {va vb : Value} {a b : List QV} (ha : eV.R (fun _ => True) w va a) (hb : eV.R (fun _ => True) w vb b) (h : a = b) : CR Tryz.prog 19 #[va, vb] w (Is (.bool true)) := by
  have := ref03_Is_c ha hb
  rwa [same_true h] at this
theorem isQ_t {w : World} {va vb : Value} {a b : QV} (ha : eQ.R (fun _ => True) w va a) (hb : eQ.R (fun _ => True) w vb b) (h : a = b) : CR Tryz.prog 22 #[va, vb] w (Is (.bool true)) := by
  have := ref02_Is_c ha hb
  rwa [same_true h] at this
theorem bsl_V2 {x y z u x' y' z' u' : Value} : bslOf Tryz.prog 23 2 [(0, .agg #[x, y, z, u]), (1, .agg #[x', y', z', u'])] = some (37, #[x, y, z, u, x', y', z', u']) := by kernel_rfl
theorem ok5 (l : List (List Int)) (h : ∀ r ∈ l, ∀ n ∈ r, -9223372036854775808 ≤ n ∧ n ≤ 9223372036854775807) (hl : l.length ≤ 2) (hc : colsOf (intsM l) ≤ 2) : eOk 2 2 2 (intsM l) := ⟨mk_intsM h, by decide, by decide, by omega, by rw [intsM_length]; omega, hc, by decide⟩

theorem ob_V2 {w : World} {σ : Env} {d : Option Tmp} {ty : TypeId} {pos : String} {af : Array Edge} {g : Option (Nat × Bool)} {x y : Operand} {u v : Value} {a b : QV} (hu : eQ.R (fun _ => True) w u a) (hv : eQ.R (fun _ => True) w v b) (hx : ev σ x = some u := by rfl) (hy : ev σ y = some v := by rfl) :
    Gv Tryz.prog ⟨d, .buildSlice 23 2 #[(0, x), (1, y)], ty, pos, af, g⟩ σ w fun v' w' => Ext w w' ∧ Sp.ok (.inr (eV.at (fun _ => True) [a, b])) v' w' := by
  have hu' := hu
  have hv' := hv
  obtain ⟨s, t, rfl, _, _⟩ := hu'
  obtain ⟨s', t', rfl, _, _⟩ := hv'
  refine (g_bsl (ps := [(0, x), (1, y)]) [(0, .agg #[.bool a.num.neg, s, .bool a.den.neg, t]), (1, .agg #[.bool b.num.neg, s', .bool b.den.neg, t'])] (by simp [evp, hx, hy]) bsl_V2).mono fun v' w' ⟨b2, hv', n2⟩ => ⟨n2.1, fun w'' e => ?_⟩
  have hz : eV.R (fun _ => True) w' (.slice (some ⟨b2, 0, none⟩) 2 2) [a, b] := by
    refine RL.ofBlk (l := [a, b]) (es := [.agg #[.bool a.num.neg, s, .bool a.den.neg, t], .agg #[.bool b.num.neg, s', .bool b.den.neg, t']]) n2.2.1 trivial (Els.snoc (Els.snoc Els.nil (ER.ext eQ hu n2.1)) (ER.ext eQ hv n2.1)) (fun j u hu => ?_) (Nat.le_refl _) (by simp)
    simpa [cellsOf, Value.cells] using hu
  rw [hv']
  exact ER.ext eV hz e
theorem ob_M2 {w : World} {σ : Env} {d : Option Tmp} {ty : TypeId} {pos : String} {af : Array Edge} {g : Option (Nat × Bool)} {x y : Operand} {u v : Value} {a b : List QV} (hu : eV.R (fun _ => True) w u a) (hv : eV.R (fun _ => True) w v b) (hx : ev σ x = some u := by rfl) (hy : ev σ y = some v := by rfl) :
    Gv Tryz.prog ⟨d, .buildSlice 22 2 #[(0, x), (1, y)], ty, pos, af, g⟩ σ w fun v' w' => Ext w w' ∧ Sp.ok (.inr (eM.at (fun _ => True) [a, b])) v' w' := by
  obtain ⟨a1, c1, h1, _⟩ := RL.len hu
  obtain ⟨a2, c2, h2, _⟩ := RL.len hv
  refine (g_bsl (ps := [(0, x), (1, y)]) [(0, u), (1, v)] (by simp [evp, hx, hy]) (cs := #[u, v]) (e := 23) (by rw [h1, h2]; exact bsl_M2)).mono fun v' w' ⟨b2, hv', n2⟩ => ⟨n2.1, fun w'' e => ?_⟩
  have := eS_new (E := eQ) (hsz := by decide) (n := 2) [u, v] [a, b] n2 upT rfl rfl (by decide) (Els.snoc (Els.snoc Els.nil hu) hv)
  rw [hv']
  exact ER.ext eM this e
theorem ob_L2 {w : World} {σ : Env} {d : Option Tmp} {ty : TypeId} {pos : String} {af : Array Edge} {g : Option (Nat × Bool)} {m n : Int} (h : (-9223372036854775808 ≤ m ∧ m ≤ 9223372036854775807) ∧ -9223372036854775808 ≤ n ∧ n ≤ 9223372036854775807) :
    Gv Tryz.prog ⟨d, .buildSlice 72 2 #[(0, .const (.int .i64 m)), (1, .const (.int .i64 n))], ty, pos, af, g⟩ σ w fun v' w' => Ext w w' ∧ Sp.ok (.inr (eI.at (fun _ => True) [m, n])) v' w' :=
  (g_bsl (ps := [(0, .const (.int .i64 m)), (1, .const (.int .i64 n))]) _ rfl bsl_L2).mono fun v' w' ⟨b2, hv', n2⟩ => ⟨n2.1, fun w'' e => by
    rw [hv']
    exact ER.ext eI (eI_new [m, n] 2 n2 upT rfl rfl (by intro x hx; simp at hx; rcases hx with rfl | rfl; exact h.1; exact h.2) (by omega)) e⟩

theorem E_law05_alive : Ent Tryz.prog 12 := ent_of Tryz.func12 (by kernel_rfl) rfl
theorem law05_alive_c {w : World} : CR Tryz.prog 12 #[] w (Is (.bool true)) := by
  have hkm : mk_ 2 (intsM l5m) := mk_intsM (by decide)
  have hks : mk_ 2 (intsM l5s) := mk_intsM (by decide)
  refine enter Tryz.func12 rfl Tryz.ntmps12 rfl ?_
  refine .seq (.region (.asg rfl rfl (.nil (.seq (.region (.asg rfl rfl (.nil ?_)))))))
  refine .seq (.region (.mv rfl rfl (.bsl _ rfl rfl bsl_L2 fun w1 b1 n1 => .bsl _ rfl rfl bsl_L2 fun w2 b2 n2 => .bsl _ rfl rfl bsl_LL2 fun w3 b3 n3 => ?_)))
  have h1 := eI_new [2, 4] 2 n1 upT rfl rfl (by decide) (by omega)
  have h2 := eI_new [1, 3] 2 n2 upT rfl rfl (by decide) (by omega)
  have h3 := eII_new2 n3 upT (h1.ext n2.1) h2
  refine .callv [_] rfl rfl E_ref04_Ints rfl (ref04_Ints_c upT h3 (by decide) (by decide)) fun vm w4 e4 hm => ?_
  have y4 := ((n1.1.trans n2.1).trans n3.1).trans e4
  refine .mv rfl rfl (.bsl _ rfl rfl bsl_L2 fun w5 b5 n5 => .bsl _ rfl rfl bsl_L2 fun w6 b6 n6 => .bsl _ rfl rfl bsl_LL2 fun w7 b7 n7 => ?_)
  have h5 := eI_new [1, 2] 2 n5 upT rfl rfl (by decide) (by omega)
  have h6 := eI_new [2, 4] 2 n6 upT rfl rfl (by decide) (by omega)
  have h7 := eII_new2 n7 upT (h5.ext n6.1) h6
  refine .callv [_] rfl rfl E_ref04_Ints rfl (ref04_Ints_c upT h7 (by decide) (by decide)) fun vs w8 e8 hs => .asg rfl rfl (.asg rfl rfl (.nil ?_))
  have y8 := ((n5.1.trans n6.1).trans n7.1).trans e8
  have x8 := y4.trans y8
  have hm := hm.ext y8
  clear h1 h2 h3 h5 h6 h7
  replace hm : eM.R (fun _ => True) w8 vm (intsM l5m) := hm
  replace hs : eM.R (fun _ => True) w8 vs (intsM l5s) := hs
  -- Solve(m, (6, 4))
  refine .seq (.region (.mv rfl rfl (.bsl _ rfl rfl bsl_L2 fun w9 b9 n9 => ?_)))
  have h9 := eI_new [6, 4] 2 n9 upT rfl rfl (by decide) (by omega)
  refine .call _ rfl E_vec_FromInts rfl (vec_FromInts_c upT h9 (by decide)) fun v10 w10 e10 h10 => ?_
  replace h10 : eV.R (fun _ => True) w10 v10 (intsV [6, 4]) := h10
  have y10 := n9.1.trans e10
  refine .call _ rfl E_solve_Solve rfl (solve_Solve_c (L := 2) (n := 2) upT (hm.ext y10) h10 hkm (vk_intsV (by decide)) (by decide) (by rw [intsM_length]; decide) (by rw [intsV_length]; decide) (by rw [cols_m]; decide) (by rw [intsM_length, intsV_length]; decide) (by decide)) fun v11 w11 e11 h11 => ?_
  obtain ⟨vx, vf, ve, rfl, hx, hf, he⟩ := h11
  rw [if_pos solvable_1] at he
  replace he : ve = .int .i64 0 := he
  subst he
  rw [if_pos solvable_1, solX_1] at hx
  rw [if_pos solvable_1, null_m] at hf
  have x11 := (x8.trans y10).trans e11
  have z11 := y10.trans e11
  have hm := hm.ext z11
  have hs := hs.ext z11
  refine .mv rfl rfl (.ext rfl rfl rfl (.ext rfl rfl rfl (.ext rfl rfl rfl (.asg rfl rfl (.asg rfl rfl (.asg rfl rfl (.nil ?_)))))))
  -- Reduce(s)
  refine .seq (.region (.mv rfl rfl ?_))
  refine .call _ rfl E_solve_Reduce rfl (solve_Reduce_c upT hs (ok5 l5s (by decide) (by decide) (by rw [cols_s]; decide))) fun v12 w12 e12 h12 => ?_
  obtain ⟨vr, vp, rfl, hr, hp⟩ := h12
  rw [redM_s] at hr
  rw [redP_s] at hp
  refine .mv rfl rfl (.ext rfl rfl rfl (.ext rfl rfl rfl (.asg rfl rfl (.asg rfl rfl (.nil ?_)))))
  -- NullSpace(s)
  refine .seq (.region (.mv rfl rfl ?_))
  refine .call _ rfl E_solve_NullSpace rfl (solve_NullSpace_c upT (hs.ext e12) (ok5 l5s (by decide) (by decide) (by rw [cols_s]; decide))) fun vn w13 e13 hn => .asg rfl rfl (.nil ?_)
  rw [null_s] at hn
  have z13 := e12.trans e13
  have hs := hs.ext z13
  have hm := hm.ext z13
  have hx := hx.ext z13
  have hf := hf.ext z13
  have hr := hr.ext e13
  have hp := hp.ext e13
  have x13 := x11.trans z13
  -- Solve(s, (1, 3))
  refine .seq (.region (.mv rfl rfl (.bsl _ rfl rfl bsl_L2 fun w14 b14 n14 => ?_)))
  have h14 := eI_new [1, 3] 2 n14 upT rfl rfl (by decide) (by omega)
  refine .call _ rfl E_vec_FromInts rfl (vec_FromInts_c upT h14 (by decide)) fun v15 w15 e15 h15 => ?_
  replace h15 : eV.R (fun _ => True) w15 v15 (intsV [1, 3]) := h15
  have y15 := n14.1.trans e15
  refine .call _ rfl E_solve_Solve rfl (solve_Solve_c (L := 2) (n := 2) upT (hs.ext y15) h15 hks (vk_intsV (by decide)) (by decide) (by rw [intsM_length]; decide) (by rw [intsV_length]; decide) (by rw [cols_s]; decide) (by rw [intsM_length, intsV_length]; decide) (by decide)) fun v16 w16 e16 h16 => ?_
  obtain ⟨_, _, ve2, rfl, _, _, he2⟩ := h16
  rw [if_neg solvable_2] at he2
  replace he2 : ve2 = .int .i64 8 := he2
  subst he2
  have z16 := y15.trans e16
  refine .mv rfl rfl (.ext rfl rfl rfl (.ext rfl rfl rfl (.ext rfl rfl rfl (.asg rfl rfl (.asg rfl rfl (.asg rfl rfl (.nil ?_)))))))
  -- Solve(s, (1, 2))
  refine .seq (.region (.mv rfl rfl (.bsl _ rfl rfl bsl_L2 fun w17 b17 n17 => ?_)))
  have h17 := eI_new [1, 2] 2 n17 upT rfl rfl (by decide) (by omega)
  refine .call _ rfl E_vec_FromInts rfl (vec_FromInts_c upT h17 (by decide)) fun v18 w18 e18 h18 => ?_
  replace h18 : eV.R (fun _ => True) w18 v18 (intsV [1, 2]) := h18
  have y18 := (z16.trans n17.1).trans e18
  refine .call _ rfl E_solve_Solve rfl (solve_Solve_c (L := 2) (n := 2) upT (hs.ext y18) h18 hks (vk_intsV (by decide)) (by decide) (by rw [intsM_length]; decide) (by rw [intsV_length]; decide) (by rw [cols_s]; decide) (by rw [intsM_length, intsV_length]; decide) (by decide)) fun v19 w19 e19 h19 => ?_
  obtain ⟨vz, _, ve3, rfl, hz, _, he3⟩ := h19
  rw [if_pos solvable_3] at he3
  replace he3 : ve3 = .int .i64 0 := he3
  subst he3
  rw [if_pos solvable_3, solX_3] at hz
  have z19 := y18.trans e19
  have hm := hm.ext z19
  refine .mv rfl rfl (.ext rfl rfl rfl (.ext rfl rfl rfl (.ext rfl rfl rfl (.asg rfl rfl (.asg rfl rfl (.asg rfl rfl (.nil ?_)))))))
  -- Det(m)
  refine .seq (.region (.mv rfl rfl ?_))
  refine .call _ rfl E_solve_Det rfl (solve_Det_c (L := 2) (n := 2) upT hm hkm (by decide) (by rw [intsM_length]; decide) (by rw [cols_m]; decide) (by decide) (by decide)) fun v20 w20 e20 h20 => ?_
  obtain ⟨vd, ve4, rfl, hd, he4⟩ := h20
  have hsq : colsOf (intsM l5m) = (intsM l5m).length := by rw [cols_m, intsM_length]; rfl
  rw [if_pos hsq] at he4
  replace he4 : ve4 = .int .i64 0 := he4
  subst he4
  rw [if_pos hsq, det_m] at hd
  refine .mv rfl rfl (.ext rfl rfl rfl (.ext rfl rfl rfl (.alloc rfl zero_Q fun w21 b16 n21 => ?_)))
  obtain ⟨e21, k16, hb16, hs21⟩ := n21
  refine .storeA (E := eQ) ty_Q rfl rfl k16 rfl rfl (S := fun k => True ∧ k < w20.heap.size) ((ER.lt eQ hd).ext e21) (fun h => by have := h.2; omega) fun w22 k16 u22 hd => .asg rfl rfl (.nil ?_)
  have x22 : Ext w20 w22 := u22.below e21 (by omega)
  have hdv := shpA rfl hd
  have hd : eQ.R (fun _ => True) w22 vd (qc 2) := eQ.mono (fun _ _ _ => trivial) hd
  -- Inverse(m)
  refine .seq (.region (.mv rfl rfl ?_))
  refine .call _ rfl E_solve_Inverse rfl (solve_Inverse_c (L := 2) (n := 2) upT ((hm.ext e20).ext x22) hkm (by decide) (by rw [intsM_length]; decide) (by rw [cols_m]; decide) (by decide) (by decide)) fun v23 w23 e23 h23 => ?_
  obtain ⟨vv, ve5, rfl, hv, he5⟩ := h23
  rw [if_pos hsq, if_pos invertible_m] at he5
  replace he5 : ve5 = .int .i64 0 := he5
  subst he5
  rw [if_pos ⟨hsq, invertible_m⟩, invM_m] at hv
  refine .mv rfl rfl (.ext rfl rfl rfl (.ext rfl rfl rfl (.asg rfl rfl (.asg rfl rfl (.nil ?_)))))
  have z23 := (e20.trans x22).trans e23
  have z13_23 := z19.trans z23
  have x23 := x13.trans z13_23
  have hx := hx.ext z13_23
  have hf := hf.ext z13_23
  have hr := hr.ext z13_23
  have hp := hp.ext z13_23
  have hn := hn.ext z13_23
  have hz := hz.ext z23
  have k16 := k16.ext e23
  have hd := hd.ext e23
  clear hs hm
  -- the first tests
  refine .seq (.seq (.region (.mv rfl rfl (.bsl _ rfl rfl bsl_L2 fun w24 b24 n24 => ?_))))
  have h24 := eI_new [1, 1] 2 n24 upT rfl rfl (by decide) (by omega)
  refine .call _ rfl E_vec_FromInts rfl (vec_FromInts_c upT h24 (by decide)) fun v25 w25 e25 h25 => ?_
  have y25 := n24.1.trans e25
  refine .call _ rfl E_ref03_Is rfl (isV_t (hx.ext y25) h25 rfl) fun v26 w26 e26 h26 => ?_
  subst h26
  have y26 := y25.trans e26
  refine .not_ rfl rfl (.mv rfl rfl (.gr rfl rfl rfl rfl (.mv rfl rfl (.gr rfl rfl rfl rfl (.lenR un_M rfl rfl (hf.ext y26) (.gr rfl rfl rfl rfl (.neqF rfl rfl rfl rfl (.pick rfl rfl rfl (.mv rfl rfl ?_)))))))))
  refine .gr rfl rfl rfl rfl (.mv rfl rfl (.gr rfl rfl rfl rfl (.neqF rfl rfl rfl rfl (.pick rfl rfl rfl (.mv rfl rfl ?_)))))
  refine .gr rfl rfl rfl rfl (.mv rfl rfl (.gr rfl rfl rfl rfl (.mv rfl rfl (.gr rfl rfl rfl rfl (.bsl _ rfl rfl bsl_L2 fun w27 b27 n27 => .gr rfl rfl rfl rfl (.bsl _ rfl rfl bsl_LL1 fun w28 b28 n28 => .gr rfl rfl rfl rfl ?_))))))
  have h27 := eI_new [1, 2] 2 n27 upT rfl rfl (by decide) (by omega)
  have h28 := eII_new1 n28 upT h27
  refine .callv [_] rfl rfl E_ref04_Ints rfl (ref04_Ints_c upT h28 (by decide) (by decide)) fun v29 w29 e29 h29 => .gr rfl rfl rfl rfl ?_
  have y29 := ((y26.trans n27.1).trans n28.1).trans e29
  refine .call _ rfl E_ref04_Is rfl (isM_t (hr.ext y29) h29 rfl) fun v30 w30 e30 h30 => .gr rfl rfl rfl rfl ?_
  subst h30
  have y30 := y29.trans e30
  refine .not_ rfl rfl (.pick rfl rfl rfl (.mv rfl rfl (.gr rfl rfl rfl rfl (.mv rfl rfl (.gr rfl rfl rfl rfl (.bsl _ rfl rfl bsl_I1 fun w31 b31 n31 => .gr rfl rfl rfl rfl ?_))))))
  have h31 := eI_new [0] 1 n31 upT rfl rfl (by decide) (by omega)
  have y31 := y30.trans n31.1
  refine .call _ rfl E_ref05_Ints rfl (ref05_Ints_c (a := [0]) (hp.ext y31) h31) fun v32 w32 e32 h32 => .gr rfl rfl rfl rfl ?_
  subst h32
  have y32 := y31.trans e32
  refine .not_ rfl rfl (.pick rfl rfl rfl (.mv rfl rfl (.gr rfl rfl rfl rfl (.mv rfl rfl (.gr rfl rfl rfl rfl (.mv rfl rfl (.gr rfl rfl rfl rfl (.bsl _ rfl rfl bsl_L2 fun w33 b33 n33 => .gr rfl rfl rfl rfl (.bsl _ rfl rfl bsl_LL1 fun w34 b34 n34 => .gr rfl rfl rfl rfl ?_)))))))))
  have h33 := eI_new [-2, 1] 2 n33 upT rfl rfl (by decide) (by omega)
  have h34 := eII_new1 n34 upT h33
  refine .callv [_] rfl rfl E_ref04_Ints rfl (ref04_Ints_c upT h34 (by decide) (by decide)) fun v35 w35 e35 h35 => .gr rfl rfl rfl rfl ?_
  have y35 := ((y32.trans n33.1).trans n34.1).trans e35
  refine .call _ rfl E_ref04_Is rfl (isM_t (hn.ext y35) h35 rfl) fun v36 w36 e36 h36 => .gr rfl rfl rfl rfl ?_
  subst h36
  have y36 := y35.trans e36
  refine .not_ rfl rfl (.pick rfl rfl rfl (.mv rfl rfl (.gr rfl rfl rfl rfl (.mv rfl rfl (.gr rfl rfl rfl rfl (.neqF rfl rfl rfl rfl (.pick rfl rfl rfl (.nil (.condF rfl (.skip ?_))))))))))
  have hz := hz.ext y36
  have hv := hv.ext y36
  have k16 := k16.ext y36
  have hd := hd.ext y36
  have x36 := x23.trans y36
  -- the half
  refine .seq (.region ?_)
  refine .call _ rfl E_ref02_Of rfl (ref02_Of_c upT (by decide) (by decide)) fun v37 w37 e37 h37 => .alloc rfl zero_Q fun w38 b20 n38 => ?_
  obtain ⟨e38, k20, hb20, hs38⟩ := n38
  refine .storeA (E := eQ) ty_Q rfl rfl k20 rfl rfl (S := fun k => True ∧ k < w37.heap.size) ((ER.lt eQ h37).ext e38) (fun h => by have := h.2; omega) fun w39 k20 u39 hh => .nil ?_
  have x39 : Ext w36 w39 := (e37.trans (u39.below e38 (by omega)))
  have hhv := shpA rfl hh
  have hh : eQ.R (fun _ => True) w39 v37 (qc (Rat.divInt 1 2)) := eQ.mono (fun _ _ _ => trivial) hh
  have hz := hz.ext x39
  have hv := hv.ext x39
  have k16 := k16.ext x39
  have hd := hd.ext x39
  have x39 := x36.trans x39
  refine .seq ?_
  refine .par follows 8 [.inr (eQ.at (fun _ => True) (qc (Rat.divInt 3 2))), .inr (eQ.at (fun _ => True) (qc ((-2 : Int) : Rat))), .inr (eV.at (fun _ => True) [qc (Rat.divInt 3 2), qc ((-2 : Int) : Rat)]), .inl v37, .inr (eQ.at (fun _ => True) (qc (-(Rat.divInt 1 2)))), .inr (eQ.at (fun _ => True) (qc ((1 : Int) : Rat))), .inr (eV.at (fun _ => True) [qc (-(Rat.divInt 1 2)), qc ((1 : Int) : Rat)]), .inr (eM.at (fun _ => True) [[qc (Rat.divInt 3 2), qc ((-2 : Int) : Rat)], [qc (-(Rat.divInt 1 2)), qc ((1 : Int) : Rat)]])]
    [[], [], [(116, 0), (117, 1)], [], [(119, 3)], [], [(120, 4), (121, 5)], [(118, 2), (122, 6)]] (by kernel_rfl) ⟨
    fun w e => (g_call _ E_ref02_Of rfl (ref02_Of_c upT (by decide) (by decide))).ob (st_at _ _ _),
    fun w e => (g_call _ E_ref02_Int rfl (ref02_Int_c upT (by decide) (by decide))).ob (st_at _ _ _),
    fun w e x hx y hy => ob_V2 hx hy,
    fun w e => ((v_ldA ty_Q rfl (k20.ext e) (eQ.csz hh)).eq hhv.symm).ob,
    fun w e => by
      have := ref02_Neg_c (L := 2) upT (ER.ext eQ hh e) (Rsz.toOk ⟨by decide +kernel, by decide +kernel⟩) (by decide) (by decide)
      rw [qval_qc] at this
      exact (g_call _ E_ref02_Neg rfl this).ob (st_at _ _ _),
    fun w e => (g_call _ E_ref02_Int rfl (ref02_Int_c upT (by decide) (by decide))).ob (st_at _ _ _),
    fun w e x hx y hy => ob_V2 hx hy,
    fun w e x hx y hy => ob_M2 hx hy, trivial⟩ ?_
  intro w40 e40 y0 _ y1 _ y2 _ y4 _ y5 _ y6 _ y7 hw
  refine .asg rfl rfl (.nil (.seq ?_))
  have hz := hz.ext e40
  have hv := hv.ext e40
  have k16 := k16.ext e40
  have hd := hd.ext e40
  have x40 := x39.trans e40
  refine .par follows 26 [.inl vz, .inr (eI.at (fun _ => True) [1, 0]), .inr (eV.at (fun _ => True) (intsV [1, 0])), .inl (.bool true), .inl (.bool true), .inl (.int .i64 0), .inl (.bool true), .inl (.bool true), .inl (.bool true), .inl vd, .inr (eQ.at (fun _ => True) (qc ((2 : Int) : Rat))), .inl (.bool true), .inl (.bool true), .inl (.bool true), .inl (.int .i64 0), .inl (.bool true), .inl (.bool true), .inl (.bool true), .inl vv, .inl y7, .inl (.bool true), .inl (.bool true), .inl (.bool true), .inl (.int .i64 0), .inl (.bool true), .inl (.bool true)]
    [[], [], [(125, 1)], [(124, 0), (126, 2)], [(127, 3)], [(128, 4)], [(129, 5), (128, 4)], [(128, 4), (130, 6)], [(131, 7)], [(132, 8)], [(132, 8)], [(133, 9), (134, 10), (132, 8)], [(132, 8), (135, 11)], [(136, 12)], [(137, 13)], [(138, 14), (137, 13)], [(137, 13), (139, 15)], [(140, 16)], [(141, 17)], [(141, 17)], [(142, 18), (143, 19), (141, 17)], [(141, 17), (144, 20)], [(145, 21)], [(146, 22)], [(147, 23), (146, 22)], [(146, 22), (148, 24)]] (by kernel_rfl) ⟨
    fun w e => (v_mv rfl).ob,
    fun w e => ob_L2 (by decide),
    fun w e x hx => (g_call _ E_vec_FromInts rfl (vec_FromInts_c upT hx (by decide))).ob (st_at _ _ _),
    fun w e x hx => (g_call _ E_ref03_Is rfl (isV_t (ER.ext eV hz e) hx rfl)).obIs,
    fun w e => (v_mv rfl).ob, fun w e => (v_mv rfl).ob, fun w e => (v_eql (m := 0) (n := 0) rfl rfl).ob, fun w e => (v_pickT rfl rfl).ob, fun w e => (v_mv rfl).ob,
    fun w e => ((v_ldA ty_Q rfl (k16.ext e) (eQ.csz hd)).eq hdv.symm).ob,
    fun w e => (g_call _ E_ref02_Int rfl (ref02_Int_c upT (by decide) (by decide))).ob (st_at _ _ _),
    fun w e x hx => (g_call _ E_ref02_Is rfl (isQ_t (ER.ext eQ hd e) hx rfl)).obIs,
    fun w e => (v_pickT rfl rfl).ob, fun w e => (v_mv rfl).ob, fun w e => (v_mv rfl).ob, fun w e => (v_eql (m := 0) (n := 0) rfl rfl).ob, fun w e => (v_pickT rfl rfl).ob, fun w e => (v_mv rfl).ob, fun w e => (v_mv rfl).ob, fun w e => (v_mv rfl).ob,
    fun w e => (g_call _ E_ref04_Is rfl (isM_t (ER.ext eM hv e) (ER.ext eM hw e) rfl)).obIs,
    fun w e => (v_pickT rfl rfl).ob, fun w e => (v_mv rfl).ob, fun w e => (v_mv rfl).ob, fun w e => (v_eql (m := 0) (n := 0) rfl rfl).ob, fun w e => (v_pickT rfl rfl).ob, trivial⟩ ?_
  intro w41 e41 y1 _ y2 _ y10 _
  refine .asg rfl rfl (.nil (.ret ?_))
  exact .plain [_] Tryz.results12 ⟨rfl, trivial⟩ ⟨x40.trans e41, rfl⟩

end Go.Proofs.YtccmemilofoamaaGreat

namespace Go.Kx
section
variable {n N C CA : Nat} {g A : RM} {p : List Nat}
end
end Go.Kx

namespace Go.Proofs.YtccmemilofoamaaGreat
open Go Go.Kx Go.RowKit
section
variable {m : List (List QV)} {b : List QV}
theorem red_rsz {L n : Nat} (hk : mk_ L m) (hL : 1 ≤ L) (hn : min m.length (colsOf m) ≤ n) (i k : Nat) (hi : i < m.length) (hc : k < colsOf m) : Rsz (redF m i k) (bd L n) :=
  (elim_rsz hL (fun i k _ _ => hk.rsz hL i k) (colsOf m) (Nat.le_refl _) i k hi hc).mono (bd_mono L (Nat.le_trans (by have h1 := (red_ech m).len_c; have h2 := (red_ech m).len; unfold redP at h1 h2; omega) hn))
end
end Go.Proofs.YtccmemilofoamaaGreat

namespace Go.Proofs.YtccmemilofoamaaGreat
open Go Go.Kx Go.RowKit
theorem okM5.mr {W : World} {v : Value} {m : List (List QV)} (h : okM5 m) (hr : eM.R (fun _ => True) W v m) : MR W v 6 6 2 m := ⟨hr, h.rows, h.cols, eM_mk hr h.q (by decide)⟩
theorem okV5.vr {W : World} {v : Value} {a : List QV} (h : okV5 a) (hr : eV.R (fun _ => True) W v a) : VR W v 8 2 a := ⟨hr, h.len, eV_vk hr h.q (by decide)⟩
section
variable {W W' : World} {v va vb : Value} {n c n' c' L L' : Nat} {a b m : List (List QV)} {x y : List QV}
end
end Go.Proofs.YtccmemilofoamaaGreat

namespace Go.Kx
open Go Go.RowKit

/-- the block g begins with the elements l; their own memory is S's, and not g -/
def FP {α : Type} (E : ER α) (t : TypeId) (S : Nat → Prop) (w : World) (g : Nat) (l : List α) : Prop :=
  ∃ es rest, Blk w g t (cellsOf es ++ rest).toArray ∧ Els E (fun k => S k ∧ k ≠ g) w es l

theorem cellsOf_setP {sz : Nat} (hsz : 0 < sz) (es rest : List Value) (i : Nat) (v : Value) (hs : ∀ e ∈ es, e.cells.size = sz) (hv : v.cells.size = sz) (hi : i < es.length) :
    wrt (cellsOf es ++ rest).toArray (i * sz) v.cells.toList = (cellsOf (es.set i v) ++ rest).toArray := by
  have h0 := cellsOf_set hsz es i v hs hv hi
  have hs' : ∀ e ∈ es.set i v, e.cells.size = sz := fun e he => by
    rcases List.mem_or_eq_of_mem_set he with h | h
    · exact hs e h
    · rw [h]; exact hv
  have hl := cellsOf_length es hs
  have hl' := cellsOf_length (es.set i v) hs'
  rw [List.length_set] at hl'
  have hle : i * sz + sz ≤ es.length * sz := by rw [← Nat.succ_mul]; exact Nat.mul_le_mul_right _ hi
  apply Array.ext_getElem?
  intro j
  rw [wrt_get _ _ _ _ (by simp only [Array.length_toList, hv, List.size_toArray, List.length_append, hl]; omega)]
  have h1 : (wrt (cellsOf es).toArray (i * sz) v.cells.toList)[j]? = (cellsOf (es.set i v)).toArray[j]? := by rw [h0]
  rw [wrt_get _ _ _ _ (by simp only [Array.length_toList, hv, List.size_toArray, hl]; exact hle)] at h1
  simp only [Array.length_toList, hv, List.getElem?_toArray, Array.getElem?_toList] at h1 ⊢
  rcases Nat.lt_or_ge j (es.length * sz) with hj | hj
  · rw [List.getElem?_append_left (by omega), List.getElem?_append_left (by omega)]; exact h1
  · rw [if_neg (by omega), List.getElem?_append_right (by omega), List.getElem?_append_right (by omega), hl, hl']

section
variable {α : Type} {E : ER α} {t : TypeId} {S X : Nat → Prop} {w w' : World} {g : Nat} {l : List α}
theorem FP.lt (h : FP E t S w g l) : g < w.heap.size := by obtain ⟨es, _, hb, _⟩ := h; exact hb.lt
theorem FP.kp (h : FP E t S w g l) (hk : Kp (fun _ => True) w w') : FP E t S w' g l := by
  obtain ⟨es, r, hb, he⟩ := h
  exact ⟨es, r, hk.blk trivial hb, he.keep fun k c t f _ hc => hk k c t f trivial hc⟩
theorem FP.ext (h : FP E t S w g l) (e : Ext w w') : FP E t S w' g l := h.kp (Kp.ext e)
theorem FP.upd {b : Nat} (h : FP E t S w g l) (u : Upd w w' b) (hne : g ≠ b) (hS : ¬ S b) : FP E t S w' g l := by
  obtain ⟨es, r, hb, he⟩ := h
  exact ⟨es, r, hb.upd u hne, he.keep (Kp.upd u fun h => hS h.1)⟩
theorem FP.mono {S' : Nat → Prop} (h : FP E t S w g l) (hk : ∀ k, k < w.heap.size → S k → S' k) : FP E t S' w g l := by
  obtain ⟨es, r, hb, he⟩ := h
  exact ⟨es, r, hb, he.1, fun i e x h1 h2 => E.mono (fun k hl hh => ⟨hk k hl hh.1, hh.2⟩) (he.2 i e x h1 h2)⟩
theorem FP.toR {hsz : 0 < E.sz} {c : Nat} (h : FP E t S w g l) (hS : S g) (hc : l.length ≤ c) (hm : l.length ≤ 9223372036854775807) : (RL E hsz).R S w (.slice (some ⟨g, 0, none⟩) l.length c) l := by
  obtain ⟨es, r, hb, he⟩ := h
  exact RL.ofBlk hb hS ⟨he.1, fun i e x h1 h2 => E.mono (fun k _ hh => hh.1) (he.2 i e x h1 h2)⟩ (fun j u hu => by
    rw [List.getElem?_toArray, List.getElem?_append_left (List.getElem?_eq_some_iff.1 hu).1]; exact hu) hc hm
theorem FP.chg (h : FP E t S w g l) (c : Chg X w w') (hg : ¬ X g) (hS : ∀ k, S k → ¬ X k) : FP E t S w' g l := by
  obtain ⟨es, r, hb, he⟩ := h
  exact ⟨es, r, c.blk hb hg, he.keep (c.kp fun k hk => hS k hk.1)⟩
theorem FP.at_ {i : Nat} {x : α} (h : FP E t S w g l) (hx : l[i]? = some x) : ∃ e, E.R (fun k => S k ∧ k ≠ g) w e x ∧ PtrX w ⟨g, i * E.sz, none⟩ e := by
  obtain ⟨es, r, hb, he⟩ := h
  have hlt : i < l.length := (List.getElem?_eq_some_iff.1 hx).1
  obtain ⟨e, hee⟩ : ∃ e, es[i]? = some e := ⟨_, List.getElem?_eq_getElem (by rw [he.1]; exact hlt)⟩
  refine ⟨e, he.2 i e x hee hx, fun j u hu => ?_⟩
  have hj : j < E.sz := by
    have hs := he.sz e (List.mem_iff_getElem?.2 ⟨i, hee⟩)
    rcases Nat.lt_or_ge j e.cells.size with h | h
    · omega
    · rw [Array.getElem?_eq_none h] at hu; cases hu
  have hg := cellsOf_get es i j e he.sz hee hj
  rw [hu] at hg
  rw [add_mk, hb.cell, List.getElem?_toArray, List.getElem?_append_left (List.getElem?_eq_some_iff.1 hg).1]
  exact hg
/-- a row that was appended to -/
theorem OwnL.fp {base : Nat} {v : Value} (h : OwnL E t base X w v l) (hne : 0 < l.length) : ∃ g cap, v = .slice (some ⟨g, 0, none⟩) l.length cap ∧ l.length ≤ cap ∧ cap ≤ 9223372036854775807 ∧ base ≤ g ∧ FP E t X w g l := by
  obtain ⟨es, ho, he⟩ := h
  rcases ho.2 with ⟨_, h0⟩ | ⟨g, cap, cur, hv, hb, hg, h1, h2, h3, h4⟩
  · omega
  · subst hv
    refine ⟨g, cap, rfl, h1, by simpa [maxLen] using h2, hb, es, cur.toList.drop (l.length * E.sz), ?_, he.1, fun i e x hi hx => E.mono (fun k _ hk => ⟨hk.1, fun e => hk.2 (by rw [e]; rfl)⟩) (he.2 i e x hi hx)⟩
    rw [← h4, List.take_append_drop]
    exact hg
end

section
variable {P : Program} {ro : Option Nat} {N : Nat} {ds : List Deferred} {ops : Array Oper} {K : Env → World → Prop} {rest : List Oper} {σ : Env} {w : World} {d : Tmp} {ty : TypeId} {pos : String} {af : Array Edge} {α : Type} {E : ER α} {S : Nat → Prop}
theorem g_storeP {dd : Option Tmp} {gd : Option (Nat × Bool)} {t t' : TypeId} {x y : Operand} {g i o n : Nat} {a : Bool} {l : List α} {v : Value} {z : α} (hsz : 0 < E.sz) (ht : tyOf P t = some (a, n)) (hx : ev σ x = some (.pointer (some ⟨g, o, none⟩))) (hy : ev σ y = some v) (hb : FP E t' S w g l)
    (hn : E.sz = n) (hi : i < l.length) (ho : o = i * E.sz) (hz : E.R (fun k => S k ∧ k ≠ g) w v z) :
    Gv P ⟨dd, .store t x y, ty, pos, af, gd⟩ σ w fun _ w' => FP E t' S w' g (l.set i z) ∧ Upd w w' g := by
  obtain ⟨es, r, hB, he⟩ := hb
  have hcs := E.csz hz
  subst ho
  have hl := cellsOf_length es he.sz
  have hie : i < es.length := by rw [he.1]; exact hi
  have hle : i * E.sz + n ≤ (cellsOf es ++ r).toArray.size := by
    have : i * E.sz + n ≤ es.length * E.sz := by rw [← hn, ← Nat.succ_mul]; exact Nat.mul_le_mul_right _ hie
    rw [List.size_toArray, List.length_append, hl]; omega
  refine (g_store ht hx hy hB (by omega) hle (E.one hz)).mono ?_
  rintro _ w' ⟨hB', u⟩
  rw [cellsOf_setP hsz es r i v he.sz hcs hie] at hB'
  refine ⟨⟨es.set i v, r, hB', ?_⟩, u⟩
  have := Els.set he i hz
  exact this.keep (Kp.upd u fun h => h.2 rfl)
theorem WL.storeP {t t' : TypeId} {x y : Operand} {g i o n : Nat} {a : Bool} {l : List α} {v : Value} {z : α} (hsz : 0 < E.sz) (ht : tyOf P t = some (a, n)) (hx : ev σ x = some (.pointer (some ⟨g, o, none⟩))) (hy : ev σ y = some v) (hb : FP E t' S w g l)
    (hn : E.sz = n) (hi : i < l.length) (ho : o = i * E.sz) (hz : E.R (fun k => S k ∧ k ≠ g) w v z) (k : ∀ w', FP E t' S w' g (l.set i z) → Upd w w' g → WL P ro N ds ops K rest σ w') :
    WL P ro N ds ops K (⟨none, .store t x y, ty, pos, af, none⟩ :: rest) σ w :=
  WL.gv rfl rfl (g_storeP hsz ht hx hy hb hn hi ho hz) fun _ w' ⟨h1, h2⟩ => k w' h1 h2
theorem ob_ldP {dd : Option Tmp} {gd : Option (Nat × Bool)} {t t' : TypeId} {x : Operand} {g i o : Nat} {l : List α} {z : α} (ht : tyOf P t = some (E.isA, E.sz)) (hx : ev σ x = some (.pointer (some ⟨g, o, none⟩))) (ho : o = i * E.sz) (hF : FP E t' S w g l) (hz : l[i]? = some z) :
    Gv P ⟨dd, .load t x, ty, pos, af, gd⟩ σ w fun v' w' => Ext w w' ∧ Sp.ok (.inr (E.at (fun k => S k ∧ k ≠ g) z)) v' w' := by
  subst ho
  obtain ⟨e, h1, h2⟩ := hF.at_ hz
  exact ob_vl (v_ldX ht hx h2 h1) h1 (st_at _ _ _)
theorem WL.ldP {t t' : TypeId} {x : Operand} {g i o : Nat} {l : List α} {z : α} (ht : tyOf P t = some (E.isA, E.sz)) (hd : Nat.blt d N = true) (hx : ev σ x = some (.pointer (some ⟨g, o, none⟩))) (ho : o = i * E.sz) (hF : FP E t' S w g l) (hz : l[i]? = some z)
    (k : ∀ e, E.R (fun k => S k ∧ k ≠ g) w e z → WL P ro N ds ops K rest ((d, e) :: σ) w) : WL P ro N ds ops K (⟨some d, .load t x, ty, pos, af, none⟩ :: rest) σ w := by
  subst ho
  obtain ⟨e, h1, h2⟩ := hF.at_ hz
  exact .ldX ht hd hx h2 h1 (k e h1)
end
end Go.Kx

namespace Go.Proofs.YtccmemilofoamaaGreat
open Go Go.Kx Go.RowKit
theorem E_ref04_cut : Ent Tryz.prog 124 := ent_of Tryz.func124 (by kernel_rfl) rfl
theorem ref04_cut_c {w : World} {n : Int} : CR Tryz.prog 124 #[.int .i64 n] w (Is (.int .i64 (cutN n))) := by
  refine enter Tryz.func124 rfl Tryz.ntmps124 rfl ?_
  refine .seq (.region (.asg rfl rfl (.nil (.seq (.region (.mv rfl rfl (.max_ rfl rfl rfl (.min_ rfl rfl rfl (.asg rfl rfl (.nil (.ret ?_)))))))))))
  refine .plain [_] Tryz.results124 ⟨rfl, trivial⟩ ⟨Ext.refl _, ?_⟩
  show Value.int .i64 (min (max n 0) 1024) = _
  rw [show min (max n 0) 1024 = ((cutN n : Nat) : Int) by unfold cutN; omega]
theorem E_ref04_Fit : Ent Tryz.prog 77 := ent_of Tryz.func77 (by kernel_rfl) rfl
theorem ref04_Fit_c {S : Nat → Prop} {w : World} {vm : Value} {m : List (List QV)} {r c : Int} {L : Nat} (up : Up S w) (hm : eM.R S w vm m) (hk : mk_ L m) (hL : 1 ≤ L) (hL2 : L ≤ 100000000) :
    CR Tryz.prog 77 #[vm, .int .i64 r, .int .i64 c] w (fun v W => OwnL eV 23 w.heap.size S W v (tabM (cutN r) (cutN c) (rm m))) := by
  have hr := cutN_le r
  have hc := cutN_le c
  refine enter Tryz.func77 rfl Tryz.ntmps77 rfl ?_
  refine .seq (.region (.asg rfl rfl (.nil (.seq (.region (.mv rfl rfl ?_))))))
  refine .call _ rfl E_ref04_cut rfl ref04_cut_c fun v1 w1 e1 h1 => .mv rfl rfl ?_
  subst h1
  refine .call _ rfl E_ref04_cut rfl ref04_cut_c fun v2 w2 e2 h2 => ?_
  subst h2
  have x2 := e1.trans e2
  refine .call _ rfl E_ref02_Int rfl (ref02_Int_c (S := S) (up.ext x2.size) (by decide) (by decide)) fun v3 w3 e3 h3 => .mv rfl rfl ?_
  have x3 := x2.trans e3
  have hk1 : qk L (qc ((1 : Int) : Rat)) := qk_qc (Rsz.int 1 (Nat.lt_of_lt_of_le (by decide) (Nat.pow_le_pow_right (by decide) hL)) hL)
  refine .call _ rfl E_ref04_made rfl (ref04_madeF_c (k := qc ((1 : Int) : Rat)) (b := []) (f := rm m) (up.ext x3.size) h3 (ER.ext eM hm x3) RL.nil (by omega) (by omega) fun {T W i j} u hk' ha hb hi hj => by
    have := ref04_place0_c (i := i) (j := j) (vb := .slice none 0 0) u hk' ha hk1 hk hL hL2
    rw [qval_qc, rmI_nat, show (((1 : Int) : Rat)) * rm m i j = rm m i j by grind] at this
    exact this) fun v4 w4 e4 h4 => .asg rfl rfl (.nil (.ret ?_))
  exact .plain [_] Tryz.results77 ⟨rfl, trivial⟩ ⟨x3.trans e4, OwnL.base h4 x3.size⟩
theorem mem_getD_ex' {p : List Nat} {c : Nat} (h : c ∈ p) : ∃ j, j < p.length ∧ p.getD j 0 = c := by
  obtain ⟨j, hj⟩ := List.mem_iff_getElem?.1 h
  exact ⟨j, (List.getElem?_eq_some_iff.1 hj).1, by rw [List.getD_eq_getElem?_getD, hj]; rfl⟩
theorem E_ref05_in : Ent Tryz.prog 64 := ent_of Tryz.func64 (by kernel_rfl) rfl
theorem ref05_in_c {S : Nat → Prop} {w : World} {v : Value} {p : List Nat} {k : Nat} (h : eI.R S w v (pInts p)) : CR Tryz.prog 64 #[v, .int .i64 (k : Nat)] w (Is (.bool (decide (k ∈ p)))) := by
  obtain ⟨_, _, _, _, hl⟩ := RL.len h
  have hpl : (pInts p).length = p.length := by simp
  refine enter Tryz.func64 rfl Tryz.ntmps64 rfl ?_
  refine .seq (.region (.asg rfl rfl (.nil (.seq (.seq (.region (.asg rfl rfl (.nil ?_))))))))
  refine .block (.loop (α := Nat) (fun i => [(0, v), (1, .int .i64 (k : Nat)), (5, .int .i64 (i : Nat))]) (fun i W => W = w ∧ i ≤ p.length ∧ ∀ j, j < i → p.getD j 0 ≠ k) (fun i => p.length - i) 0 ?_ ?_ ?_)
  · exact look_cons rfl (look_cons rfl (look_cons rfl look_nil))
  · exact ⟨rfl, Nat.zero_le _, fun j hj => absurd hj (Nat.not_lt_zero _)⟩
  rintro i W ⟨rfl, hi, hall⟩
  refine .seq (.seq (.region (.mv rfl rfl (.mv rfl rfl (.lenR un_I rfl rfl h ?_)))))
  rw [hpl]
  rcases Nat.lt_or_ge i p.length with hlt | hge
  rotate_left
  · refine .lssF rfl rfl rfl (by omega) (.nil (.condF rfl (.exit (.seq (.region (.asg rfl rfl (.nil (.ret ?_))))))))
    have hno : k ∉ p := fun hk => by
      obtain ⟨j, hj, e⟩ := mem_getD_ex' hk
      exact hall j (by omega) e
    exact .plain [_] Tryz.results64 ⟨rfl, trivial⟩ ⟨Ext.refl _, by rw [decide_eq_false hno] <;> rfl⟩
  have hg : (pInts p)[i]? = some ((p.getD i 0 : Nat) : Int) := by rw [List.getElem?_map, getD_get' (z := 0) hlt]; rfl
  refine .lssT rfl rfl rfl (by omega) (.nil (.condT rfl (.skip (.seq (.block (.seq (.region (.mv rfl rfl (.mv rfl rfl (.ixN (i := i) un_I ty_I1 rfl rfl h rfl hg fun q hq => .ldE (E := eInt .i64) ty_I1 rfl rfl hq fun e he => .mv rfl rfl ?_))))))))))
  obtain ⟨rfl, _⟩ := he
  by_cases he : p.getD i 0 = k
  · refine .eqlT rfl rfl rfl (by omega) (.nil (.condT rfl (.seq (.region (.asg rfl rfl (.nil (.ret ?_)))))))
    have hyes : k ∈ p := he ▸ List.mem_iff_getElem?.2 ⟨i, getD_get' hlt⟩
    exact .plain [_] Tryz.results64 ⟨rfl, trivial⟩ ⟨Ext.refl _, by rw [decide_eq_true hyes] <;> rfl⟩
  · refine .eqlF rfl rfl rfl (by omega) (.nil (.condF rfl (.skip (.region (.mv rfl rfl (.add rfl rfl rfl (.asg rfl rfl (.nil ?_))))))))
    rw [wI (by omega)]
    refine ⟨rfl, i + 1, look_cons rfl (look_cons rfl (look_cons rfl look_nil)), ⟨rfl, hlt, fun j hj => ?_⟩, by show p.length - (i + 1) < p.length - i; omega⟩
    by_cases e : j = i
    · subst e; exact he
    · exact hall j (by omega)
/-- a / b -/
theorem inv_q {b : QV} (h : pn b ≠ 0) : qval ⟨zc (pd b), zc (pn b)⟩ = (qval b)⁻¹ := by
  have hp := pd_pos b
  have h1 : qval b = Rat.divInt (pn b) (pd b) := rfl
  rw [h1, Rat.inv_divInt]
  generalize pn b = n at h
  generalize pd b = d at hp
  unfold qval pn pd
  simp only [zval_zc]
  rw [if_neg h]
  split
  · rw [Rat.divInt_neg', Int.neg_neg]
  · rfl
theorem E_ref02_Div : Ent Tryz.prog 125 := ent_of Tryz.func125 (by kernel_rfl) rfl
theorem ref02_Div_c {S : Nat → Prop} {w : World} {va vb : Value} {a b : QV} {L : Nat} (up : Up S w) (ha : eQ.R S w va a) (hb : eQ.R S w vb b) (hla : qok L a) (hlb : qok L b) (h1 : 1 ≤ L) (hL : L ≤ 400000000) (h0 : qval b ≠ 0) :
    CR Tryz.prog 125 #[va, vb] w (Two (eQ.at S (qc (qval a * (qval b)⁻¹))) (Is (.int .i64 0))) := by
  have hva := shpA rfl ha
  have hvb := shpA rfl hb
  have hL9 : L ≤ 1000000000 := by omega
  have hbn : pn b ≠ 0 := by
    intro h
    apply h0
    unfold qval
    rw [h, Rat.zero_divInt]
  obtain ⟨db1, db2⟩ := eQ_digs hb
  have lnb := pn_lt db1 hlb
  have ldb := pd_lt db2 hlb h1
  have hri : Rsz (qval b)⁻¹ L := (rsz_qval db1 db2 hlb h1).inv h1
  refine enter Tryz.func125 rfl Tryz.ntmps125 rfl ?_
  refine .seq (.region (.box rfl rfl fun w1 b2 n1 => .box rfl rfl fun w2 b3 n2 => .alloc rfl zero_Q fun w3 b4 n3 => .asg rfl rfl (.nil ?_)))
  obtain ⟨e1, k2, hb2, hs1⟩ := n1
  obtain ⟨e2, k3, hb3, hs2⟩ := n2
  obtain ⟨e3, k4, hb4, hs3⟩ := n3
  have x3 := (e1.trans e2).trans e3
  have k2 := (k2.ext e2).ext e3
  have k3 := k3.ext e3
  have hS4 : ¬ Sx S w.heap.size w3.heap.size b4 := Sx.no (by omega) (by omega)
  have up3 : Up (Sx S w.heap.size w3.heap.size) w3 := Sx.up up (Nat.le_refl _) x3.size
  have ha3 := (ha.par w3.heap.size).ext x3
  have hb3' := (hb.par w3.heap.size).ext x3
  have hout : ∀ {W : World} {v : Value} {z : QV}, eQ.R (Sx S w.heap.size w3.heap.size) W v z → eQ.R S W v z := fun h => h.out
  have hw4 : w.heap.size ≤ b4 := by omega
  generalize hT : Sx S w.heap.size w3.heap.size = T at *
  refine .seq (.seq (.region (.ldA ty_Q rfl rfl k3 (eQ.csz hb) ?_)))
  rw [← hvb]
  refine .call _ rfl E_ref02_Sign rfl (ref02_Sign_c up3 hb3' hlb hL9) fun v0 w0 e0 h00 => ?_
  subst h00
  refine .eqlF rfl rfl rfl (fun h => hbn (Int.sign_eq_zero_iff_zero.1 h)) (.nil (.condF rfl (.skip (.seq ?_))))
  have hq : qok L ⟨zc (pd b), zc (pn b)⟩ := ⟨zc_len ldb, zc_len lnb⟩
  have up4 := up3.ext e0.size
  refine .par follows 8 [.inl va, .inl vb, .inr (eZ.at T (zc (pd b))), .inl vb, .inr (eZ.at T (zc (pn b))), .inr (eQ.at T ⟨zc (pd b), zc (pn b)⟩), .inr (eQ.at T (qc (qval b)⁻¹)), .inr (eQ.at T (qc (qval a * (qval b)⁻¹)))] [[], [], [(11, 1)], [], [(13, 3)], [(12, 2), (14, 4)], [(15, 5)], [(10, 0), (16, 6)]] (by kernel_rfl) ⟨
    fun w e => ((v_ldA ty_Q rfl ((k2.ext e0).ext e) (eQ.csz ha)).eq hva.symm).ob,
    fun w e => ((v_ldA ty_Q rfl ((k3.ext e0).ext e) (eQ.csz hb)).eq hvb.symm).ob,
    fun w e => (g_call _ E_ref02_den rfl (ref02_den_c (up4.ext e.size) ((hb3'.ext e0).ext e) hlb hL9)).ob (st_at _ _ _),
    fun w e => ((v_ldA ty_Q rfl ((k3.ext e0).ext e) (eQ.csz hb)).eq hvb.symm).ob,
    fun w e => (g_call _ E_ref02_num rfl (ref02_num_c (up4.ext e.size) ((hb3'.ext e0).ext e) hlb hL9)).ob (st_at _ _ _),
    fun w e x hx y hy => by
      obtain ⟨s, rfl, hs⟩ := hx
      obtain ⟨t, rfl, ht⟩ := hy
      exact ob_vl (v_bld [(0, .agg #[.bool (zc (pd b)).neg, s]), (1, .agg #[.bool (zc (pn b)).neg, t])] rfl bld_Q2) ⟨s, t, rfl, hs, ht⟩ (st_at _ _ _),
    fun w e x hx => by
      have := ref02_Least_c (up4.ext e.size) hx hq h1 hL9
      rw [inv_q hbn] at this
      exact (g_call _ E_ref02_Least rfl this).ob (st_at _ _ _),
    fun w e x hx => by
      have := ref02_Mul_c (up4.ext e.size) ((ha3.ext e0).ext e) hx hla hri.toOk h1 hL
      rw [qval_qc] at this
      exact (g_call _ E_ref02_Mul rfl this).ob (st_at _ _ _), trivial⟩ ?_
  intro w5 e5 y2 _ y4 _ y5 _ y6 _ y7 h7
  refine .storeA (E := eQ) ty_Q rfl rfl ((k4.ext e0).ext e5) rfl rfl h7 hS4 fun w6 k6 u6 h6 => .asg rfl rfl (.nil (.ret ?_))
  exact .plain [_, _] Tryz.results125 ⟨⟨_, rfl, load_cell (E := eQ) ty_Q rfl rfl k6 h6⟩, rfl, trivial⟩ ⟨u6.below ((x3.trans e0).trans e5) hw4, _, _, rfl, hout h6, rfl⟩
end Go.Proofs.YtccmemilofoamaaGreat

namespace Go.Proofs.YtccmemilofoamaaGreat
open Go Go.Kx Go.RowKit
def uniR (k : Int) : Nat → Rat := fun i => if (i : Int) = k then 1 else 0
theorem E_ref03_Unit : Ent Tryz.prog 65 := ent_of Tryz.func65 (by kernel_rfl) rfl
theorem ref03_Unit_c {S : Nat → Prop} {w : World} {n : Nat} {k : Int} (up : Up S w) (hn : n ≤ 65536) : CR Tryz.prog 65 #[.int .i64 (n : Nat), .int .i64 k] w (fun v W => OwnL eQ 37 w.heap.size S W v (tab n (uniR k))) := by
  refine enter Tryz.func65 rfl Tryz.ntmps65 rfl ?_
  refine .seq (.region (.asg rfl rfl (.nil (.seq (.region (.asg rfl rfl (.nil (.seq (.seq (.region (.asg rfl rfl (.nil ?_))))))))))))
  generalize hf : (fun i => qc (uniR k i)) = f
  refine .block (.loop (α := Nat × Value) (fun x => [(0, .int .i64 (n : Nat)), (1, .int .i64 k), (5, x.2), (6, .int .i64 (x.1 : Nat))]) (fun x W => Below w.heap.size w W ∧ x.1 ≤ n ∧ OwnL eQ 37 w.heap.size S W x.2 ((List.range x.1).map f)) (fun x => n - x.1) (0, .slice none 0 0) ?_ ?_ ?_)
  · exact look_cons rfl (look_cons rfl (look_cons rfl (look_cons rfl look_nil)))
  · exact ⟨Below.refl _ _, Nat.zero_le _, OwnL.nil⟩
  rintro ⟨i, u⟩ W ⟨hB, hi, ho⟩
  replace hB : Below w.heap.size w W := hB
  replace hi : i ≤ n := hi
  replace ho : OwnL eQ 37 w.heap.size S W u ((List.range i).map f) := ho
  have hsz := hB.size
  refine .seq (.seq (.region (.mv rfl rfl (.mv rfl rfl ?_))))
  by_cases hlt : i < n
  rotate_left
  · refine .lssF rfl rfl rfl (by omega) (.mv rfl rfl (.gs rfl rfl rfl rfl rfl (.gs rfl rfl rfl rfl rfl (.pick rfl rfl rfl (.nil (.condF rfl (.exit (.seq (.region (.mv rfl rfl (.asg rfl rfl (.nil (.ret ?_)))))))))))))
    have : i = n := by omega
    subst this
    refine .plain [_] Tryz.results65 ⟨rfl, trivial⟩ ⟨hB, ?_⟩
    unfold tab
    rw [hf]
    exact ho
  obtain ⟨es, ho1, ho2⟩ := id ho
  refine .lssT rfl rfl rfl (by omega) (.mv rfl rfl (.gr rfl rfl rfl rfl (.mv rfl rfl (.gr rfl rfl rfl rfl (.lssT rfl rfl rfl (by omega) (.pick rfl rfl rfl (.nil (.condT rfl (.skip (.seq (.block (.seq (.region (.bld [] rfl rfl bld_Q0 (.alloc rfl zero_Q fun W1 b7 n1 => ?_)))))))))))))))
  obtain ⟨e1, k7, hb7, hs1⟩ := n1
  have hub : u.ownBlock ≠ some b7 := fun h => by have := (ho1.lt b7 h).2; omega
  refine .storeA (E := eQ) (S := fun k' => (S k' ∧ u.ownBlock ≠ some k') ∧ k' ≠ b7) (z := q0) ty_Q rfl rfl k7 rfl rfl ⟨_, _, rfl, RL.nil, RL.nil⟩ (fun h => h.2 rfl) fun W2 k7 u2 h7 => .nil ?_
  have x2 : Ext W W2 := u2.below e1 (by omega)
  have hs2 := u2.size
  refine .mid (α := Value) (fun _ => [(0, .int .i64 (n : Nat)), (1, .int .i64 k), (5, u), (6, .int .i64 (i : Nat)), (7, .pointer (some ⟨b7, 0, none⟩))]) (fun v W3 => Ext W W3 ∧ Blk W3 b7 37 v.cells ∧ eQ.R (fun k' => (S k' ∧ u.ownBlock ≠ some k') ∧ k' ≠ b7) W3 v (f i)) ?_ ?_
  · refine .seq (.region (.mv rfl rfl (.mv rfl rfl ?_)))
    by_cases hk : (i : Int) = k
    · refine .eqlT rfl rfl rfl hk (.nil (.condT rfl (.region ?_)))
      refine .call _ rfl E_ref02_Int rfl (ref02_Int_c (S := fun k' => (S k' ∧ u.ownBlock ≠ some k') ∧ k' ≠ b7) (fun k' hk' => ⟨⟨up k' (by omega), fun h => by have := (ho1.lt k' h).2; omega⟩, by omega⟩) (by decide) (by decide)) fun v3 W3 e3 h3 => ?_
      refine .storeA (E := eQ) ty_Q rfl rfl (k7.ext e3) rfl rfl h3 (fun h => h.2 rfl) fun W4 k7 u4 h4 => .nil ?_
      refine ⟨rfl, v3, look_cons rfl (look_cons rfl (look_cons rfl (look_cons rfl (look_cons rfl look_nil)))), u4.below (x2.trans e3) (by omega), k7, ?_⟩
      rw [← hf]
      show eQ.R _ _ _ (qc (uniR k i))
      unfold uniR
      rw [if_pos hk]
      exact h4
    · refine .eqlF rfl rfl rfl hk (.nil (.condF rfl (.skip ?_)))
      refine ⟨rfl, _, look_cons rfl (look_cons rfl (look_cons rfl (look_cons rfl (look_cons rfl look_nil)))), x2, k7, ?_⟩
      rw [← hf]
      show eQ.R _ _ _ (qc (uniR k i))
      unfold uniR
      rw [if_neg hk, qc_zero]
      exact h7
  rintro v W3 ⟨x3, k7, h7⟩
  have hv := shpA rfl h7
  have hr' := h7
  refine .region (.mv rfl rfl (.ldA ty_Q rfl rfl k7 (eQ.csz h7) ?_))
  rw [← hv]
  obtain ⟨s, t, rfl, _, _⟩ := hr'
  refine .bsl _ rfl rfl bsl_V1 fun W4 b4 n4 => ?_
  obtain ⟨e4, k4, hb4, hs4⟩ := n4
  have e14 := x3.trans e4
  have hB4 : Below w.heap.size w W4 := hB.trans (e14.mono hsz)
  refine .gv rfl rfl (g_appL (E := eQ) (base := w.heap.size) (n := f i) (by decide) un_V info_Q rfl rfl rfl (ho.ext e14) k4 (eQ.mono (fun k' _ h => h.1) (h7.ext e4)) (by simp; omega) (by decide) hB4.size) ?_
  rintro v5 W5 ⟨ho5, hg5⟩
  refine .asg rfl rfl (.nil (.region (.mv rfl rfl (.add rfl rfl rfl (.asg rfl rfl (.nil ?_))))))
  rw [wI (by omega)]
  refine ⟨rfl, (i + 1, v5), look_cons rfl (look_cons rfl (look_cons rfl (look_cons rfl look_nil))), ⟨(ho.ext e14).below hg5 hB4 hB4.size, hlt, ?_⟩, by show n - (i + 1) < n - i; omega⟩
  show OwnL eQ 37 w.heap.size S W5 v5 ((List.range (i + 1)).map f)
  rw [List.range_succ, List.map_append]
  exact ho5
theorem E_ref05_by : Ent Tryz.prog 79 := ent_of Tryz.func79 (by kernel_rfl) rfl
theorem ref05_by_c {S : Nat → Prop} {w : World} {va vb : Value} {a b : QV} {L : Nat} (up : Up S w) (ha : eQ.R S w va a) (hb : eQ.R S w vb b) (hla : qok L a) (hlb : qok L b) (h1 : 1 ≤ L) (hL : L ≤ 400000000) (h0 : qval b ≠ 0) :
    CR Tryz.prog 79 #[va, vb] w (eQ.at S (qc (qval a * (qval b)⁻¹))) := by
  have hva := shpA rfl ha
  have hvb := shpA rfl hb
  refine enter Tryz.func79 rfl Tryz.ntmps79 rfl ?_
  refine .seq (.region (.box rfl rfl fun w1 b2 n1 => .box rfl rfl fun w2 b3 n2 => .alloc rfl zero_Q fun w3 b4 n3 => .nil ?_))
  obtain ⟨e1, k2, hb2, hs1⟩ := n1
  obtain ⟨e2, k3, hb3, hs2⟩ := n2
  obtain ⟨e3, k4, hb4, hs3⟩ := n3
  have x3 := (e1.trans e2).trans e3
  have k2 := (k2.ext e2).ext e3
  have k3 := k3.ext e3
  have up3 : Up (fun k => S k ∧ k ≠ b4) w3 := fun k hk => ⟨up k (by have := x3.size; omega), by omega⟩
  have ha3 : eQ.R (fun k => S k ∧ k ≠ b4) w3 va a := eQ.mono (fun k _ h => ⟨h.1, by have := h.2; omega⟩) ((ER.lt eQ ha).ext x3)
  have hb3' : eQ.R (fun k => S k ∧ k ≠ b4) w3 vb b := eQ.mono (fun k _ h => ⟨h.1, by have := h.2; omega⟩) ((ER.lt eQ hb).ext x3)
  refine .seq (.region (.ldA ty_Q rfl rfl k2 (eQ.csz ha) (.ldA ty_Q rfl rfl k3 (eQ.csz hb) ?_)))
  rw [← hva, ← hvb]
  refine .call _ rfl E_ref02_Div rfl (ref02_Div_c up3 ha3 hb3' hla hlb h1 hL h0) fun v4 w4 e4 h4 => ?_
  obtain ⟨vq, ve, rfl, hq, rfl⟩ := h4
  refine .mv rfl rfl (.ext rfl rfl rfl (.ext rfl rfl rfl (.alloc rfl zero_Q fun w5 b5 n5 => ?_)))
  obtain ⟨e5, k5, hb5, hs5⟩ := n5
  refine .storeA (E := eQ) ty_Q rfl rfl k5 rfl rfl (S := fun k => (S k ∧ k ≠ b4) ∧ k < w4.heap.size) ((ER.lt eQ hq).ext e5) (fun h => by have := h.2; omega) fun w6 k5 u6 hq => .asg rfl rfl (.nil ?_)
  have x6 : Ext w4 w6 := u6.below e5 (by omega)
  have hvq := shpA rfl hq
  refine .seq (.region (.ldA ty_Q rfl rfl k5 (eQ.csz hq) ?_))
  rw [← hvq]
  have hb4l := k4.lt
  have hs4 := e4.size
  refine .storeA (E := eQ) ty_Q rfl rfl ((k4.ext e4).ext x6) rfl rfl hq (fun h => h.1.2 rfl) fun w7 k7 u7 h7 => .nil (.ret ?_)
  exact .cell Tryz.results79 rfl ty_Q rfl rfl k7 h7 ⟨u7.below ((x3.trans e4).trans x6) (by omega), eQ.mono (fun k _ h => h.1.1) h7⟩
end Go.Proofs.YtccmemilofoamaaGreat

namespace Go.Kx
open Go Go.RowKit
section
variable {α : Type} {E : ER α} {t : TypeId} {S : Nat → Prop} {w w' : World} {g : Nat} {l : List α}
theorem FP.blk (h : FP E t S w g l) : ∃ cs, Blk w g t cs := by obtain ⟨_, _, h, _⟩ := h; exact ⟨_, h⟩
/-- rows kept while another row grows -/
theorem FP.grow {v v' : Value} (h : FP E t (fun k => S k ∧ v.ownBlock ≠ some k) w g l) (hg : w.grownBy w' v.ownBlock) (hw : v'.ownBlock = v.ownBlock ∨ v'.ownBlock = some w.heap.size) (hne : v.ownBlock ≠ some g) : FP E t (fun k => S k ∧ v'.ownBlock ≠ some k) w' g l := by
  have h1 : FP E t (fun k => (S k ∧ v.ownBlock ≠ some k) ∧ k < w.heap.size) w g l := h.mono fun k hk hs => ⟨hs, hk⟩
  have h2 := h1.chg (Chg.grown hg) hne fun k hk => hk.1.2
  refine h2.mono fun k _ hk => ⟨hk.1.1, ?_⟩
  rcases hw with e | e
  · rw [e]; exact hk.1.2
  · rw [e]; intro e'; cases e'; exact Nat.lt_irrefl _ hk.2
theorem OwnL.ne {β : Type} {F : ER β} {t' : TypeId} {base : Nat} {X : Nat → Prop} {v : Value} {b : List β} {cs : Array Value} (h : OwnL F t' base X w v b) (hb : Blk w g t cs) (ht : t' ≠ t) : v.ownBlock ≠ some g := by
  obtain ⟨es, ho, _⟩ := h
  rcases ho.2 with ⟨rfl, _⟩ | ⟨g', cap, cur, rfl, _, hg, _⟩
  · intro e; cases e
  · intro e
    have : g' = g := by simpa [Value.ownBlock] using e
    subst this
    have e1 : w.heap[g']? = some (.cells cs t (0, 0)) := hb
    rw [hg] at e1; cases e1; exact ht rfl
end
theorem OwnL.lt' {β : Type} {F : ER β} {t' : TypeId} {base : Nat} {X : Nat → Prop} {w : World} {v : Value} {b : List β} (h : OwnL F t' base X w v b) (k : Nat) (hk : v.ownBlock = some k) : k < w.heap.size := by
  obtain ⟨es, ho, _⟩ := h
  exact (ho.lt k hk).2
theorem pivRow_is {f : RM} {col n i r : Nat} (h1 : i ≤ r) (h2 : r < i + n) (h3 : f r col ≠ 0) (h4 : ∀ k, i ≤ k → k < r → f k col = 0) : pivRow f col n i = some r := by
  cases h : pivRow f col n i with
  | none => exact absurd (pivRow_none h r h1 h2) h3
  | some r' =>
    obtain ⟨a1, a2, a3, a4⟩ := pivRow_some h
    rcases Nat.lt_trichotomy r r' with e | e | e
    · exact absurd (a4 r h1 e) h3
    · rw [e]
    · exact absurd (h4 r' a1 e) a3
theorem pivRow_no {f : RM} {col n i : Nat} (h4 : ∀ k, i ≤ k → k < i + n → f k col = 0) : pivRow f col n i = none := by
  cases h : pivRow f col n i with
  | none => rfl
  | some r' =>
    obtain ⟨a1, a2, a3, a4⟩ := pivRow_some h
    exact absurd (h4 r' a1 a2) a3
end Go.Kx
namespace Go.Proofs.YtccmemilofoamaaGreat
open Go Go.Kx Go.RowKit
theorem E_ref05_Reduce : Ent Tryz.prog 26 := ent_of Tryz.func26 (by kernel_rfl) rfl
theorem ref05_Reduce_c {S : Nat → Prop} {w : World} {vm : Value} {m : List (List QV)} {L n C0 : Nat} (up : Up S w) (hm : eM.R S w vm m) (ok : eOk L n C0 m) :
    CR Tryz.prog 26 #[vm] w (Two (eM.at S (redM m)) (eI.at S (pInts (redP m)))) := by
  have hnr := ok.rows
  have hc := ok.cols
  have hc1 := ok.c1
  have hLl := ok.le
  refine enter Tryz.func26 rfl Tryz.ntmps26 rfl ?_
  refine .seq (.region (.asg rfl rfl (.asg rfl rfl (.nil (.seq (.region (.mv rfl rfl ?_)))))))
  refine .call _ rfl E_ref04_Cols rfl (ref04_Cols_c hm) fun v1 w1 e1 h1 => .asg rfl rfl (.nil ?_)
  subst h1
  refine .seq (.region (.mv rfl rfl (.mv rfl rfl (.lenR un_M rfl rfl (hm.ext e1) (.mv rfl rfl ?_)))))
  refine .call _ rfl E_ref04_Fit rfl (ref04_Fit_c (up.ext e1.size) (hm.ext e1) ok.k ok.l1 (by omega)) fun vr w2 e2 h2 => .asg rfl rfl (.nil ?_)
  have hcr : cutN (m.length : Int) = m.length := by unfold cutN; omega
  have hcc : cutN (colsOf m : Int) = colsOf m := by unfold cutN; omega
  rw [hcr, hcc] at h2
  have h2 := OwnL.base h2 e1.size
  have x2 := e1.trans e2
  refine .seq (.region (.asg rfl rfl (.nil (.seq (.region (.asg rfl rfl (.nil ?_)))))))
  generalize hN : m.length = N at *
  generalize hCc : colsOf m = C at *
  have hf : ∀ i k, i < N → k < C → Rsz (rm m i k) L := fun i k _ _ => ok.k.rsz ok.l1 i k
  rcases Nat.eq_zero_or_pos N with h0 | hpos
  · have hm0 : m = [] := List.length_eq_zero_iff.1 (by omega)
    have hC0 : C = 0 := by rw [← hCc, hm0]; rfl
    have hp0 : redP m = [] := by rw [hm0]; rfl
    have hr0 : redM m = [] := by rw [hm0]; rfl
    subst hC0
    have hl0 : tabM N 0 (rm m) = [] := by rw [h0]; rfl
    rw [hl0] at h2
    have hvr : eM.R S w2 vr [] := h2.toR (fun k hk => up k hk) (fun _ h => h)
    rw [hp0, hr0]
    refine .seq (.seq (.region (.asg rfl rfl (.nil ?_))))
    refine .block (.loop (α := Unit) (fun _ => [(4, .int .i64 ((0 : Nat) : Int)), (5, vr), (6, .slice none 0 0), (7, .int .i64 0), (8, .int .i64 0)]) (fun _ W => W = w2) (fun _ => 0) () ?_ ?_ ?_)
    · exact look_cons rfl (look_cons rfl (look_cons rfl (look_cons rfl (look_cons rfl look_nil))))
    · rfl
    rintro _ W rfl
    refine .seq (.seq (.region (.mv rfl rfl (.mv rfl rfl (.lssF rfl rfl rfl (by decide) (.nil (.condF rfl (.exit (.seq (.region (.mv rfl rfl (.mv rfl rfl (.cut 0 0 un_M ty_V rfl rfl hvr rfl ⟨_, rfl⟩ (Nat.le_refl _) (Nat.zero_le _) fun v3 h3 => .mv rfl rfl (.asg rfl rfl (.asg rfl rfl (.nil (.ret ?_)))))))))))))))))
    exact .plain [_, _] Tryz.results26 ⟨rfl, rfl, trivial⟩ ⟨x2, _, _, rfl, h3, RL.nil⟩
  obtain ⟨g, cap, rfl, hcap, hcap2, hgB, fp⟩ := h2.fp (by rw [tabM_length]; exact hpos)
  rw [tabM_length] at hcap ⊢
  refine .mid (α := Value) (fun u => [(5, .slice (some ⟨g, 0, none⟩) N cap), (6, u), (7, .int .i64 ((redP m).length : Nat))]) (fun u W => Ext w W ∧ OwnL (eInt .i64) 3 w.heap.size (fun _ => False) W u (pInts (redP m)) ∧ FP eV 23 S W g (tabM N C (redF m))) ?_ ?_
  · refine .seq (.region (.asg rfl rfl (.nil ?_)))
    refine .block (.loop (α := Nat × Value) (fun y => [(4, .int .i64 (C : Nat)), (5, .slice (some ⟨g, 0, none⟩) N cap), (6, y.2), (7, .int .i64 ((elim N (rm m) y.1).2.length : Nat)), (8, .int .i64 (y.1 : Nat))])
      (fun y W => Ext w W ∧ y.1 ≤ C ∧ OwnL (eInt .i64) 3 w.heap.size (fun _ => False) W y.2 (pInts (elim N (rm m) y.1).2) ∧ FP eV 23 (fun k => S k ∧ y.2.ownBlock ≠ some k) W g (tabM N C (elim N (rm m) y.1).1)) (fun y => C - y.1) (0, .slice none 0 0) ?_ ?_ ?_)
    · exact look_cons rfl (look_cons rfl (look_cons rfl (look_cons rfl (look_cons rfl look_nil))))
    · exact ⟨x2, Nat.zero_le _, OwnL.nil, fp.mono fun k _ h => ⟨h, fun e => by cases e⟩⟩
    rintro ⟨c, u⟩ W ⟨hW, hcC, ho, fp⟩
    replace hW : Ext w W := hW
    replace hcC : c ≤ C := hcC
    replace ho : OwnL (eInt .i64) 3 w.heap.size (fun _ => False) W u (pInts (elim N (rm m) c).2) := ho
    replace fp : FP eV 23 (fun k => S k ∧ u.ownBlock ≠ some k) W g (tabM N C (elim N (rm m) c).1) := fp
    have hech := elim_ech N (rm m) c
    have hql := hech.len
    have hqc := hech.len_c
    have hsg := elim_rsz (C := C) ok.l1 hf c hcC
    have hnext : elim N (rm m) (c + 1) = estep N c (elim N (rm m) c) := rfl
    generalize hE : elim N (rm m) c = E at *
    obtain ⟨f, p⟩ := E
    simp only at ho fp hql hqc hsg
    have hsz := hW.size
    refine .seq (.seq (.region (.mv rfl rfl (.mv rfl rfl ?_))))
    rcases Nat.lt_or_ge c C with hlt | hge
    rotate_left
    · refine .lssF rfl rfl rfl (by omega) (.nil (.condF rfl (.exit ?_)))
      have : c = C := by omega
      subst this
      have e1' : redP m = p := by unfold redP; rw [hN, hCc, hE]
      have e2' : redF m = f := by unfold redF; rw [hN, hCc, hE]
      rw [e1', e2']
      exact ⟨rfl, u, look_cons rfl (look_cons rfl (look_cons rfl look_nil)), hW, ho, fp.mono fun k _ h => h.1⟩
    refine .lssT rfl rfl rfl (by omega) (.nil (.condT rfl (.skip (.seq (.block (.seq (.region (.mv rfl rfl (.asg rfl rfl (.nil ?_))))))))))
    have hugne : ∀ {W' : World} {l : List (List QV)} {S' : Nat → Prop}, OwnL (eInt .i64) 3 w.heap.size (fun _ => False) W' u (pInts p) → FP eV 23 S' W' g l → u.ownBlock ≠ some g := fun h h' => by
      obtain ⟨cs, hb⟩ := h'.blk
      exact h.ne hb (by decide)
    have hne := hugne ho fp
    have hB : 1 ≤ bd L p.length := bd_pos ok.l1 _
    have hBq : bd L p.length ≤ 40000000 := by
      refine Nat.le_trans (bd_mono L ?_) ok.bd
      have := ok.mn; omega
    -- the search of the pivot
    refine .mid (α := Nat) (fun r => [(4, .int .i64 (C : Nat)), (5, .slice (some ⟨g, 0, none⟩) N cap), (6, u), (7, .int .i64 (p.length : Nat)), (8, .int .i64 (c : Nat)), (9, .int .i64 (r : Nat))]) (fun r W' => Ext W W' ∧ p.length ≤ r ∧ r ≤ N ∧ (∀ j, p.length ≤ j → j < r → f j c = 0) ∧ (r < N → f r c ≠ 0)) ?_ ?_
    · refine .block (.loop (α := Nat) (fun r => [(4, .int .i64 (C : Nat)), (5, .slice (some ⟨g, 0, none⟩) N cap), (6, u), (7, .int .i64 (p.length : Nat)), (8, .int .i64 (c : Nat)), (9, .int .i64 (r : Nat))]) (fun r W' => Ext W W' ∧ p.length ≤ r ∧ r ≤ N ∧ (∀ j, p.length ≤ j → j < r → f j c = 0)) (fun r => N - r) p.length ?_ ?_ ?_)
      · exact look_cons rfl (look_cons rfl (look_cons rfl (look_cons rfl (look_cons rfl (look_cons rfl look_nil)))))
      · exact ⟨Ext.refl _, Nat.le_refl _, hql, fun j h1 h2 => by omega⟩
      rintro r W1 ⟨hW1, hr1, hr2, hz⟩
      refine .seq (.seq (.region (.mv rfl rfl (.mv rfl rfl (.len un_M rfl rfl ?_)))))
      rcases Nat.lt_or_ge r N with hlr | hgr
      rotate_left
      · refine .lssF rfl rfl rfl (by omega) (.mv rfl rfl (.gs rfl rfl rfl rfl rfl (.gs rfl rfl rfl rfl rfl (.gs rfl rfl rfl rfl rfl (.gs rfl rfl rfl rfl rfl (.gs rfl rfl rfl rfl rfl (.gs rfl rfl rfl rfl rfl (.gs rfl rfl rfl rfl rfl (.gs rfl rfl rfl rfl rfl (.gs rfl rfl rfl rfl rfl (.pick rfl rfl rfl (.nil (.condF rfl (.exit ?_))))))))))))))
        exact ⟨rfl, r, look_cons rfl (look_cons rfl (look_cons rfl (look_cons rfl (look_cons rfl (look_cons rfl look_nil))))), hW1, hr1, hr2, hz, fun h => by omega⟩
      have fp1 := fp.ext hW1
      refine .lssT rfl rfl rfl (by omega) (.mv rfl rfl (.gr rfl rfl rfl rfl (.mv rfl rfl (.gr rfl rfl rfl rfl (.mv rfl rfl (.gr rfl rfl rfl rfl (.ixB (i := r) un_M ty_V rfl rfl rfl hlr (.gr rfl rfl rfl rfl (.ldP (E := eV) (i := r) ty_V rfl rfl (Nat.zero_add _) fp1 (tabM_get hlr) fun er her => .gr rfl rfl rfl rfl (.mv rfl rfl (.gr rfl rfl rfl rfl ?_)))))))))))
      refine .ixN (i := c) un_V ty_Q rfl rfl her rfl (tab_get hlt) fun pp hp => .gr rfl rfl rfl rfl (.ldE ty_Q rfl rfl hp fun ex hex => .gr rfl rfl rfl rfl ?_)
      refine .call _ rfl E_ref02_Sign rfl (ref02_Sign_c (L := bd L p.length) (fun k hk => ⟨⟨up k (by have := hW1.size; omega), fun h => by have := (ho.lt' k h); have := hW1.size; omega⟩, by have := fp.lt; have := hW1.size; omega⟩) hex (hsg r c hlr hlt).toOk (by omega)) fun vs W2 e2 hvs => .gr rfl rfl rfl rfl ?_
      subst hvs
      rw [← sgnR_qval, qval_qc]
      by_cases hzr : f r c = 0
      · refine .eqlT rfl rfl rfl (sgnR_zero.2 hzr) (.pick rfl rfl rfl (.nil (.condT rfl (.skip (.block (.region (.mv rfl rfl (.add rfl rfl rfl (.asg rfl rfl (.nil ?_))))))))))
        rw [wI (by omega)]
        refine ⟨rfl, r + 1, look_cons rfl (look_cons rfl (look_cons rfl (look_cons rfl (look_cons rfl (look_cons rfl look_nil))))), ⟨hW1.trans e2, by omega, hlr, fun j h1 h2 => ?_⟩, by show N - (r + 1) < N - r; omega⟩
        by_cases e : j = r
        · rw [e]; exact hzr
        · exact hz j h1 (by omega)
      · refine .eqlF rfl rfl rfl (fun h => hzr (sgnR_zero.1 h)) (.pick rfl rfl rfl (.nil (.condF rfl (.exit ?_))))
        exact ⟨rfl, r, look_cons rfl (look_cons rfl (look_cons rfl (look_cons rfl (look_cons rfl (look_cons rfl look_nil))))), hW1.trans e2, hr1, hr2, hz, fun _ => hzr⟩
    rintro r W1 ⟨hW1, hr1, hr2, hz, hnz⟩
    have ho := ho.ext hW1
    have fp := fp.ext hW1
    have hW := hW.trans hW1
    have hsz := hW.size
    refine .seq (.seq (.region (.mv rfl rfl (.mv rfl rfl (.len un_M rfl rfl ?_)))))
    rcases Nat.lt_or_ge r N with hrn | hrn
    rotate_left
    · refine .eqlT rfl rfl rfl (by omega) (.nil (.condT rfl (.exit (.region (.mv rfl rfl (.add rfl rfl rfl (.asg rfl rfl (.nil ?_))))))))
      rw [wI (by omega)]
      have hst : elim N (rm m) (c + 1) = (f, p) := by
        rw [hnext]
        unfold estep
        simp only
        rw [pivRow_no fun k h1 h2 => hz k h1 (by omega)]
      refine ⟨rfl, (c + 1, u), ?_, ⟨hW, hlt, ?_, ?_⟩, by show C - (c + 1) < C - c; omega⟩
      · show ∀ t v, Kx.look [(4, Value.int .i64 (C : Nat)), (5, .slice (some ⟨g, 0, none⟩) N cap), (6, u), (7, .int .i64 ((elim N (rm m) (c + 1)).2.length : Nat)), (8, .int .i64 ((c + 1 : Nat) : Int))] t = some v → _
        rw [hst]
        exact look_cons rfl (look_cons rfl (look_cons rfl (look_cons rfl (look_cons rfl look_nil))))
      · show OwnL (eInt .i64) 3 w.heap.size (fun _ => False) W1 u (pInts (elim N (rm m) (c + 1)).2)
        rw [hst]; exact ho
      · show FP eV 23 (fun k => S k ∧ u.ownBlock ≠ some k) W1 g (tabM N C (elim N (rm m) (c + 1)).1)
        rw [hst]; exact fp
    refine .eqlF rfl rfl rfl (by omega) (.nil (.condF rfl (.skip ?_)))
    have hqlt : p.length < N := by omega
    have hpr : pivRow f c (N - p.length) p.length = some r := pivRow_is hr1 (by omega) (hnz hrn) hz
    have hst : elim N (rm m) (c + 1) = (clr (swp f r p.length) p.length c, p ++ [c]) := by
      rw [hnext]
      unfold estep
      simp only
      rw [hpr]
    -- the exchange
    refine .mid (α := Unit) (fun _ => [(4, .int .i64 (C : Nat)), (5, .slice (some ⟨g, 0, none⟩) N cap), (6, u), (7, .int .i64 (p.length : Nat)), (8, .int .i64 (c : Nat))]) (fun _ W' => Ext w W' ∧ OwnL (eInt .i64) 3 w.heap.size (fun _ => False) W' u (pInts p) ∧ FP eV 23 (fun k => S k ∧ u.ownBlock ≠ some k) W' g (tabM N C (swp f r p.length))) ?_ ?_
    · refine .heldT follows true (fun _ => True) [some _, some (.int .i64 (p.length : Nat)), some _, some (.int .i64 (r : Nat)), some _, some (.int .i64 (r : Nat)), some (.pointer (some ⟨g, 0 + r * 1, none⟩)), none, some _, some (.int .i64 (p.length : Nat)), some (.pointer (some ⟨g, 0 + p.length * 1, none⟩)), none, some (.pointer (some ⟨g, 0 + p.length * 1, none⟩)), none, some (.pointer (some ⟨g, 0 + r * 1, none⟩)), none]
        (.two 7 (.one 11 (.one 13 (.one 15 .done))) 11 (.one 7 (.one 13 (.one 15 .done)))) (by kernel_rfl) (by kernel_rfl)
        ⟨fun _ _ => v_mv rfl, fun _ _ => v_mv rfl, fun _ _ => v_mv rfl, fun _ _ => v_mv rfl, fun _ _ => v_mv rfl, fun _ _ => v_mv rfl, fun _ _ => v_ixB (i := r) un_M ty_V rfl rfl hrn, fun _ _ => v_mv rfl, fun _ _ => v_mv rfl, fun _ _ => v_ixB (i := p.length) un_M ty_V rfl rfl hqlt, fun _ _ => v_ixB (i := p.length) un_M ty_V rfl rfl hqlt, fun _ _ => v_ixB (i := r) un_M ty_V rfl rfl hrn, trivial⟩ ?_
      intro W3 e3 _
      obtain ⟨x7, h7, p7⟩ := (fp.ext e3).at_ (tabM_get hrn)
      obtain ⟨x11, h11, p11⟩ := (fp.ext e3).at_ (tabM_get hqlt)
      have q7 : PtrX W3 ⟨g, 0 + r * 1, none⟩ x7 := by rw [Nat.zero_add]; exact p7
      have q11 : PtrX W3 ⟨g, 0 + p.length * 1, none⟩ x11 := by rw [Nat.zero_add]; exact p11
      refine .gv2 (.gv rfl trivial rfl (v_ldX (E := eV) ty_V rfl q7 h7).gv ?_) (.gv rfl trivial rfl (v_ldX (E := eV) ty_V rfl q11 h11).gv ?_)
      all_goals
        rintro _ _ ⟨rfl, rfl⟩
        refine .gv rfl trivial rfl (by first | exact (v_ldX (E := eV) ty_V rfl q11 h11).gv | exact (v_ldX (E := eV) ty_V rfl q7 h7).gv) ?_
        rintro _ _ ⟨rfl, rfl⟩
        refine .gv rfl trivial rfl (g_storeP (E := eV) (i := p.length) (by decide) ty_V rfl rfl (fp.ext e3) rfl (by rw [tabM_length]; exact hqlt) (Nat.zero_add _) h7) ?_
        rintro _ W4 ⟨f4, u4⟩
        refine .gv rfl trivial rfl (g_storeP (E := eV) (i := r) (by decide) ty_V rfl rfl f4 rfl (by rw [List.length_set, tabM_length]; exact hrn) (Nat.zero_add _) (ER.upd eV h11 u4 (fun h => h.2 rfl))) ?_
        rintro _ W5 ⟨f5, u5⟩
        refine .nil (.inl rfl) ?_
        rw [tabM_set hqlt, tabM_set hrn] at f5
        have e5 : tabM N C (fun j k => if j = r then f p.length k else if j = p.length then f r k else f j k) = tabM N C (swp f r p.length) := tabM_congr' fun i k _ _ => by
          unfold swp
          by_cases e1 : i = r
          · rw [if_pos e1, if_pos e1]
          · by_cases e2 : i = p.length
            · rw [if_neg e1, if_pos e2, if_neg e1, if_pos e2]
            · rw [if_neg e1, if_neg e2, if_neg e1, if_neg e2]
        rw [e5] at f5
        obtain ⟨cs3, hb3⟩ := (fp.ext e3).blk
        obtain ⟨cs4, hb4⟩ := f4.blk
        exact ⟨rfl, (), look_cons rfl (look_cons rfl (look_cons rfl (look_cons rfl (look_cons rfl look_nil)))), u5.below (u4.below (hW.trans e3) hgB) hgB, ((ho.ext e3).upd u4 hb3 (by decide) (fun h => h)).upd u5 hb4 (by decide) (fun h => h), f5⟩
    rintro _ W2 ⟨hW2, ho, fp⟩
    have hss := swp_rsz (a := r) (b := p.length) hrn hqlt hsg
    have hsq : swp f r p.length p.length c = f r c := by
      unfold swp
      by_cases e : p.length = r
      · simp [e]
      · simp [e]
    have hs0 : swp f r p.length p.length c ≠ 0 := by rw [hsq]; exact hnz hrn
    generalize hs : swp f r p.length = s at *
    generalize hq : p.length = q at *
    have hgl := fp.lt
    have upW : ∀ {W' : World}, Ext W2 W' → Up (fun k => (S k ∧ u.ownBlock ≠ some k) ∧ k ≠ g) W' := fun e k hk => ⟨⟨up k (by have := hW2.size; have := e.size; omega), fun h => by have := ho.lt' k h; have := e.size; omega⟩, by have := e.size; omega⟩
    have h1k : qk (bd L q) (qc ((1 : Int) : Rat)) := qk_qc (Rsz.int 1 (Nat.lt_of_lt_of_le (by decide) (Nat.pow_le_pow_right (by decide) hB)) hB)
    have hki : qk (bd L q) (qc (s q c)⁻¹) := qk_qc ((hss q c hqlt hlt).inv hB)
    have hkr : ∀ i, i < N → vk (bd L q) (tab C (s i)) := fun i hi => vk_tab fun k hk => hss i k hi hk
    -- the row of the pivot
    refine .seq ?_
    refine .par follows 16 [.inl _, .inl (.int .i64 (q : Nat)), .inr (eQ.at (fun k => (S k ∧ u.ownBlock ≠ some k) ∧ k ≠ g) (qc ((1 : Int) : Rat))), .inl _, .inl (.int .i64 (q : Nat)), .inl (.pointer (some ⟨g, 0 + q * 1, none⟩)), .inr (eV.at (fun k => (S k ∧ u.ownBlock ≠ some k) ∧ k ≠ g) (tab C (s q))), .inl (.int .i64 (c : Nat)), .inr (Ptr eQ (fun k => (S k ∧ u.ownBlock ≠ some k) ∧ k ≠ g) (qc (s q c))), .inr (eQ.at (fun k => (S k ∧ u.ownBlock ≠ some k) ∧ k ≠ g) (qc (s q c))), .inr (eQ.at (fun k => (S k ∧ u.ownBlock ≠ some k) ∧ k ≠ g) (qc (s q c)⁻¹)), .inl _, .inl (.int .i64 (q : Nat)), .inl (.pointer (some ⟨g, 0 + q * 1, none⟩)), .inr (eV.at (fun k => (S k ∧ u.ownBlock ≠ some k) ∧ k ≠ g) (tab C (s q))), .inr (eV.at (fun k => (S k ∧ u.ownBlock ≠ some k) ∧ k ≠ g) (tab C fun k => (s q c)⁻¹ * s q k))]
      [[], [], [], [], [], [(62, 3), (63, 4)], [(64, 5)], [], [(65, 6), (66, 7)], [(67, 8)], [(61, 2), (68, 9)], [], [], [(70, 11), (71, 12)], [(72, 13)], [(69, 10), (73, 14)]] (by kernel_rfl) ⟨
      fun w e => (v_mv rfl).ob, fun w e => (v_mv rfl).ob,
      fun w e => (g_call _ E_ref02_Int rfl (ref02_Int_c (upW e) (by decide) (by decide))).ob (st_at _ _ _),
      fun w e => (v_mv rfl).ob, fun w e => (v_mv rfl).ob,
      fun w e => (v_ixB (i := q) un_M ty_V rfl rfl hqlt).ob,
      fun w e => ob_ldP (E := eV) (i := q) ty_V rfl (Nat.zero_add _) (fp.ext e) (tabM_get hqlt),
      fun w e => (v_mv rfl).ob,
      fun w e x hx => ob_ixN (i := c) un_V ty_Q rfl hx rfl (tab_get hlt),
      fun w e x hx => ob_ldE ty_Q rfl hx,
      fun w e x hx y hy => by
        have := ref05_by_c (upW e) hx hy h1k.1 (hss q c hqlt hlt).toOk hB (by omega) (by rw [qval_qc]; exact hs0)
        rw [qval_qc, qval_qc, show ((1 : Int) : Rat) * (s q c)⁻¹ = (s q c)⁻¹ by simp] at this
        exact (g_call _ E_ref05_by rfl this).ob (st_at _ _ _),
      fun w e => (v_mv rfl).ob, fun w e => (v_mv rfl).ob,
      fun w e => (v_ixB (i := q) un_M ty_V rfl rfl hqlt).ob,
      fun w e => ob_ldP (E := eV) (i := q) ty_V rfl (Nat.zero_add _) (fp.ext e) (tabM_get hqlt),
      fun w e x hx y hy => by
        have := ref03_Scale_c (upW e) hx hy hki (hkr q hqlt) hB (by omega) (by rw [tab_length]; omega)
        rw [tab_length, qval_qc, tab_congr (g := fun k => (s q c)⁻¹ * s q k) (fun k hk => by rw [rv_tab, if_pos hk])] at this
        exact (g_call _ E_ref03_Scale rfl this).ob (st_at _ _ _), trivial⟩ ?_
    intro W3 e3 y2 _ y6 _ y8 _ y9 _ y10 _ y14 _ y15 hy15
    refine .ixB (i := q) un_M ty_V rfl rfl rfl hqlt (.storeP (E := eV) (i := q) (by decide) ty_V rfl rfl (fp.ext e3) rfl (by rw [tabM_length]; exact hqlt) (Nat.zero_add _) hy15 fun W4 f4 u4 => .nil ?_)
    obtain ⟨cs3, hb3⟩ := (fp.ext e3).blk
    rw [tabM_set hqlt, ← clrTo_zero] at f4
    have ho4 := (ho.ext e3).upd u4 hb3 (by decide) (fun h => h)
    have hW4 : Ext w W4 := u4.below (hW2.trans e3) hgB
    have hs4 : W2.heap.size ≤ W4.heap.size := by have := u4.size; have := e3.size; omega
    have hur : vk (bd L q + bd L q) (tab C fun k => (s q c)⁻¹ * s q k) := vk_tab fun k hk => ((hss q c hqlt hlt).inv hB).mul (hss q k hqlt hk)
    -- the other rows
    refine .mid (α := Unit) (fun _ => [(4, .int .i64 (C : Nat)), (5, .slice (some ⟨g, 0, none⟩) N cap), (6, u), (7, .int .i64 (q : Nat)), (8, .int .i64 (c : Nat))]) (fun _ W' => Ext w W' ∧ OwnL (eInt .i64) 3 w.heap.size (fun _ => False) W' u (pInts p) ∧ FP eV 23 (fun k => S k ∧ u.ownBlock ≠ some k) W' g (tabM N C (clr s q c))) ?_ ?_
    · refine .seq (.region (.asg rfl rfl (.nil ?_)))
      refine .block (.loop (α := Nat) (fun i => [(4, .int .i64 (C : Nat)), (5, .slice (some ⟨g, 0, none⟩) N cap), (6, u), (7, .int .i64 (q : Nat)), (8, .int .i64 (c : Nat)), (10, .int .i64 (i : Nat))]) (fun i W' => Ext w W' ∧ W2.heap.size ≤ W'.heap.size ∧ i ≤ N ∧ OwnL (eInt .i64) 3 w.heap.size (fun _ => False) W' u (pInts p) ∧ FP eV 23 (fun k => S k ∧ u.ownBlock ≠ some k) W' g (tabM N C (clrTo s q c i))) (fun i => N - i) 0 ?_ ?_ ?_)
      · exact look_cons rfl (look_cons rfl (look_cons rfl (look_cons rfl (look_cons rfl (look_cons rfl look_nil)))))
      · exact ⟨hW4, hs4, Nat.zero_le _, ho4, f4⟩
      rintro i Wa ⟨hWa, hsa, hi, hoa, fa⟩
      refine .seq (.seq (.region (.mv rfl rfl (.mv rfl rfl (.len un_M rfl rfl ?_)))))
      rcases Nat.lt_or_ge i N with hin | hin
      rotate_left
      · refine .lssF rfl rfl rfl (by omega) (.nil (.condF rfl (.exit ?_)))
        have : i = N := by omega
        subst this
        rw [clrTo_all] at fa
        exact ⟨rfl, (), look_cons rfl (look_cons rfl (look_cons rfl (look_cons rfl (look_cons rfl look_nil)))), hWa, hoa, fa⟩
      refine .lssT rfl rfl rfl (by omega) (.nil (.condT rfl (.skip (.seq (.block (.seq (.region (.mv rfl rfl (.mv rfl rfl ?_)))))))))
      by_cases hiq : i = q
      · refine .neqF rfl rfl rfl (by omega) (.nil (.condF rfl (.skip (.region (.mv rfl rfl (.add rfl rfl rfl (.asg rfl rfl (.nil ?_))))))))
        rw [wI (by omega)]
        refine ⟨rfl, i + 1, look_cons rfl (look_cons rfl (look_cons rfl (look_cons rfl (look_cons rfl (look_cons rfl look_nil))))), ⟨hWa, hsa, hin, hoa, ?_⟩, by show N - (i + 1) < N - i; omega⟩
        have : tabM N C (clrTo s q c (i + 1)) = tabM N C (clrTo s q c i) := tabM_congr' fun j k _ _ => by
          rw [clrTo_succ]
          by_cases ej : j = i
          · simp only [ej, hiq, if_true]; unfold clrTo; simp
          · simp only [ej, if_false]
        rw [this]; exact fa
      refine .neqT rfl rfl rfl (by omega) (.nil (.condT rfl ?_))
      have hrow : tab C (clrTo s q c i i) = tab C (s i) := tab_congr fun k _ => by unfold clrTo; rw [if_neg hiq, if_neg (by omega)]
      have hrq : tab C (clrTo s q c i q) = tab C fun k => (s q c)⁻¹ * s q k := tab_congr fun k _ => by unfold clrTo; rw [if_pos rfl]
      have upa : ∀ {W' : World}, Ext Wa W' → Up (fun k => (S k ∧ u.ownBlock ≠ some k) ∧ k ≠ g) W' := fun e k hk => ⟨⟨up k (by have := hWa.size; have := e.size; omega), fun h => by have := hoa.lt' k h; have := e.size; omega⟩, by have := e.size; have := fa.lt; omega⟩
      refine .par follows 19 [.inl _, .inl (.int .i64 (i : Nat)), .inl _, .inl (.int .i64 (i : Nat)), .inl (.pointer (some ⟨g, 0 + i * 1, none⟩)), .inr (eV.at (fun k => (S k ∧ u.ownBlock ≠ some k) ∧ k ≠ g) (tab C (s i))), .inl (.int .i64 (c : Nat)), .inr (Ptr eQ (fun k => (S k ∧ u.ownBlock ≠ some k) ∧ k ≠ g) (qc (s i c))), .inr (eQ.at (fun k => (S k ∧ u.ownBlock ≠ some k) ∧ k ≠ g) (qc (s i c))), .inr (eQ.at (fun k => (S k ∧ u.ownBlock ≠ some k) ∧ k ≠ g) (qc (-(s i c)))), .inl _, .inl (.int .i64 (q : Nat)), .inl (.pointer (some ⟨g, 0 + q * 1, none⟩)), .inr (eV.at (fun k => (S k ∧ u.ownBlock ≠ some k) ∧ k ≠ g) (tab C fun k => (s q c)⁻¹ * s q k)), .inl _, .inl (.int .i64 (i : Nat)), .inl (.pointer (some ⟨g, 0 + i * 1, none⟩)), .inr (eV.at (fun k => (S k ∧ u.ownBlock ≠ some k) ∧ k ≠ g) (tab C (s i))), .inr (eV.at (fun k => (S k ∧ u.ownBlock ≠ some k) ∧ k ≠ g) (tab C fun k => -(s i c) * ((s q c)⁻¹ * s q k) + s i k))]
        [[], [], [], [], [(87, 2), (88, 3)], [(89, 4)], [], [(90, 5), (91, 6)], [(92, 7)], [(93, 8)], [], [], [(95, 10), (96, 11)], [(97, 12)], [], [], [(99, 14), (100, 15)], [(101, 16)], [(94, 9), (98, 13), (102, 17)]] (by kernel_rfl) ⟨
        fun w e => (v_mv rfl).ob, fun w e => (v_mv rfl).ob, fun w e => (v_mv rfl).ob, fun w e => (v_mv rfl).ob,
        fun w e => (v_ixB (i := i) un_M ty_V rfl rfl hin).ob,
        fun w e => hrow ▸ ob_ldP (E := eV) (i := i) ty_V rfl (Nat.zero_add _) (fa.ext e) (tabM_get hin),
        fun w e => (v_mv rfl).ob,
        fun w e x hx => ob_ixN (i := c) un_V ty_Q rfl hx rfl (tab_get hlt),
        fun w e x hx => ob_ldE ty_Q rfl hx,
        fun w e x hx => by
          have := ref02_Neg_c (L := bd L q) (upa e) hx (hss i c hin hlt).toOk hB (by omega)
          rw [qval_qc] at this
          exact (g_call _ E_ref02_Neg rfl this).ob (st_at _ _ _),
        fun w e => (v_mv rfl).ob, fun w e => (v_mv rfl).ob,
        fun w e => (v_ixB (i := q) un_M ty_V rfl rfl hqlt).ob,
        fun w e => hrq ▸ ob_ldP (E := eV) (i := q) ty_V rfl (Nat.zero_add _) (fa.ext e) (tabM_get hqlt),
        fun w e => (v_mv rfl).ob, fun w e => (v_mv rfl).ob,
        fun w e => (v_ixB (i := i) un_M ty_V rfl rfl hin).ob,
        fun w e => hrow ▸ ob_ldP (E := eV) (i := i) ty_V rfl (Nat.zero_add _) (fa.ext e) (tabM_get hin),
        fun w e x hx y hy z hz => by
          have := ref03_Combine_c (L := bd L q + bd L q) (upa e) hx hy hz (qk_qc ((hss i c hin hlt).neg.mono (by omega))) hur ((hkr i hin).mono (by omega)) (by omega) (by omega) (by rw [tab_length]; omega) (by rw [tab_length]; omega)
          rw [tab_length, tab_length, Nat.max_self, qval_qc, tab_congr (g := fun k => -(s i c) * ((s q c)⁻¹ * s q k) + s i k) (fun k hk => by rw [rv_tab, rv_tab, if_pos hk, if_pos hk])] at this
          exact (g_call _ E_ref03_Combine rfl this).ob (st_at _ _ _), trivial⟩ ?_
      intro Wb eb z5 _ z7 _ z8 _ z9 _ z13 _ z17 _ z18 hz18
      refine .ixB (i := i) un_M ty_V rfl rfl rfl hin (.storeP (E := eV) (i := i) (by decide) ty_V rfl rfl (fa.ext eb) rfl (by rw [tabM_length]; exact hin) (Nat.zero_add _) hz18 fun Wc fc uc => .nil ?_)
      obtain ⟨csb, hbb⟩ := (fa.ext eb).blk
      rw [tabM_set hin] at fc
      refine .region (.mv rfl rfl (.add rfl rfl rfl (.asg rfl rfl (.nil ?_))))
      rw [wI (by omega)]
      refine ⟨rfl, i + 1, look_cons rfl (look_cons rfl (look_cons rfl (look_cons rfl (look_cons rfl (look_cons rfl look_nil))))), ⟨uc.below (hWa.trans eb) hgB, by have := uc.size; have := eb.size; omega, hin, (hoa.ext eb).upd uc hbb (by decide) (fun h => h), ?_⟩, by show N - (i + 1) < N - i; omega⟩
      rw [clrTo_succ]
      simp only [hiq, if_false]
      exact fc
    rintro _ Wx ⟨hWx, hox, fx⟩
    refine .seq (.region (.mv rfl rfl (.mv rfl rfl (.bsl [(0, .int .i64 (c : Nat))] rfl rfl bsl_I1 fun Wy by_ ny => ?_))))
    obtain ⟨ey, ky, hby, hsy⟩ := ny
    have hlen : (pInts p).length ≤ 1000000000 := by simp; omega
    have hint : (eInt .i64).R (fun k => False ∧ u.ownBlock ≠ some k) Wy (.int .i64 (c : Nat)) (c : Int) := ⟨rfl, Int.le_trans (by decide : IntKind.min .i64 ≤ 0) (by omega), Int.le_trans (by omega : (c : Int) ≤ 1000) (by decide)⟩
    refine .gv rfl rfl (g_appLw (E := eInt .i64) (base := w.heap.size) (n := (c : Int)) (e := .int .i64 (c : Nat)) (by decide) un_I info_I rfl rfl rfl (hox.ext ey) ky hint hlen (by decide) (by have := ey.size; have := hWx.size; omega)) ?_
    rintro vq Wz ⟨hoz, hgz, hwz⟩
    refine .asg rfl rfl (.nil ?_)
    refine .region (.mv rfl rfl (.add rfl rfl rfl (.asg rfl rfl (.nil ?_))))
    rw [wI (by omega)]
    refine .region (.mv rfl rfl (.add rfl rfl rfl (.asg rfl rfl (.nil ?_))))
    rw [wI (by omega)]
    have hlq : (p ++ [c]).length = q + 1 := by simp [hq]
    refine ⟨rfl, (c + 1, vq), ?_, ⟨(hox.ext ey).below hgz (hWx.trans ey) (by have := ey.size; have := hWx.size; omega), hlt, ?_, ?_⟩, by show C - (c + 1) < C - c; omega⟩
    · show ∀ t v, Kx.look [(4, Value.int .i64 (C : Nat)), (5, .slice (some ⟨g, 0, none⟩) N cap), (6, vq), (7, .int .i64 ((elim N (rm m) (c + 1)).2.length : Nat)), (8, .int .i64 ((c + 1 : Nat) : Int))] t = some v → _
      rw [hst]
      simp only [hlq]
      exact look_cons rfl (look_cons rfl (look_cons rfl (look_cons rfl (look_cons rfl look_nil))))
    · show OwnL (eInt .i64) 3 w.heap.size (fun _ => False) Wz vq (pInts (elim N (rm m) (c + 1)).2)
      rw [hst]
      show OwnL (eInt .i64) 3 w.heap.size (fun _ => False) Wz vq (pInts (p ++ [c]))
      rw [show pInts (p ++ [c]) = pInts p ++ [(c : Int)] by simp]
      exact hoz
    · show FP eV 23 (fun k => S k ∧ vq.ownBlock ≠ some k) Wz g (tabM N C (elim N (rm m) (c + 1)).1)
      rw [hst]
      exact (fx.ext ey).grow hgz hwz hne
  rintro u W ⟨hW, ho, fp⟩
  have hpl : (redP m).length ≤ N := by have := (red_ech m).len; rwa [hN] at this
  have hMW : eM.R S W (.slice (some ⟨g, 0, none⟩) N cap) (tabM N C (redF m)) := by
    have := fp.toR (c := cap) (hsz := by decide) (up g hgB) (by rw [tabM_length]; exact hcap) (by rw [tabM_length]; omega)
    rwa [tabM_length] at this
  refine .seq (.region (.mv rfl rfl (.mv rfl rfl (.cut 0 (redP m).length un_M ty_V rfl rfl hMW rfl ⟨_, rfl⟩ (Nat.zero_le _) (by rw [tabM_length]; exact hpl) fun v3 h3 => .mv rfl rfl (.asg rfl rfl (.asg rfl rfl (.nil (.ret ?_))))))))
  rw [List.drop_zero, tabM_take hpl] at h3
  refine .plain [_, _] Tryz.results26 ⟨rfl, rfl, trivial⟩ ⟨hW, _, _, rfl, ?_, ho.toR (fun k hk => up k hk) (fun _ h => h.elim)⟩
  unfold redM
  rw [hCc]
  exact h3
end Go.Proofs.YtccmemilofoamaaGreat

namespace Go.Proofs.YtccmemilofoamaaGreat
open Go Go.Kx Go.RowKit
section
variable {m : List (List QV)} {b : List QV}
end
end Go.Proofs.YtccmemilofoamaaGreat

namespace Go.Proofs.YtccmemilofoamaaGreat
open Go Go.Kx Go.RowKit
theorem freeTo_succ (p : List Nat) (i : Nat) : freeTo p (i + 1) = freeTo p i ++ if i ∈ p then [] else [i] := by
  unfold freeTo
  rw [List.range_succ, List.filter_append]
  by_cases h : i ∈ p <;> simp [h]
section
variable {m : List (List QV)} {b z : List QV}
end
end Go.Proofs.YtccmemilofoamaaGreat
