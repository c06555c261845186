/-
  The references: Sign, Neg, Abs, Add, Mul, Cmp of integers The references: Gcd, Div, Cmp of integers Regions that draw their order, with cells of their own that are known apart (printed by mkkv.py) The references: rational numbers: one, den, num, over, Least, Add, Mul, Neg, Sub, Sign, Cmp The references: rational numbers: Least, Add, Mul, Neg, Sub, Sign, Cmp The references: ref02 Sub, Cmp; vectors: At, Combine, Add, Scale, Dot The references: vectors: Combine, Add, Scale, Dot The references: matrices: At, row, place, made The references: matrices: place of a product, made, Mul, Turn, Beside The references: matrices: Mul, Turn, Beside, Times, Add The references: matrices: Add, Scale, Left The references: matrices: Left vec.Scale mat.Scale The laws' own copies: Own The laws' own copies: vectors and matrices Elements that the call changes in place, in a row with room behind it. Elimination of rows: plain. Determinants: plain. Elimination of rows: how large the numbers grow; plain. frac: Div, Neg solve: pivotRow, ignored A region that draws its order in which some pure operations may come late, even behind the stores. solve: eliminate Loops that leave marks, the leaving behind several marks, a slice with three indexes. solve: Reduce, Rank, visit The references: cut, Fit, Unit, Div; by, in, Square The references: Unit, by The references: Lex, Same, Unit law 04: small, alive law 04: alive What is handed in, opened: a reading of data gives values. What is handed in, opened: matrices and vectors of this program. The laws' Long: whatever is not long is small.
-/
import Derived.Test.YteghbhdniimjbaaGreatG4
import Derived.ProofKit
import Derived.OpenShut
import Derived.Deep.Slices
set_option linter.unusedVariables false
namespace Go.Kx
theorem sg_neg (n : Bool) (v : Nat) : sg (!n) v = -(sg n v) := by cases n <;> simp [sg]
theorem sg_mulX (m n : Bool) (u v : Nat) : sg (m != n) (u * v) = sg m u * sg n v := by cases m <;> cases n <;> simp [sg, Int.neg_mul, Int.mul_neg]
theorem hds_add_len {A B K : Nat} (h1 : (hds A).length ≤ K) (h2 : (hds B).length ≤ K) : (hds (A + B)).length ≤ K + 1 := by
 have a1 := hds_lt A
 have a2 := hds_lt B
 have b1 : 65536 ^ (hds A).length ≤ 65536 ^ K := Nat.pow_le_pow_right (by omega) h1
 have b2 : 65536 ^ (hds B).length ≤ 65536 ^ K := Nat.pow_le_pow_right (by omega) h2
 exact hds_length (by rw [Nat.pow_succ]; omega)
theorem hds_mul_len (A B : Nat) : (hds (A * B)).length ≤ (hds A).length + (hds B).length := hds_length (by rw [Nat.pow_add]; exact Nat.mul_lt_mul'' (hds_lt A) (hds_lt B))
theorem sign_sg {n : Bool} {v : Nat} (h : v ≠ 0) : (sg n v).sign = if n then -1 else 1 := by
 cases n
 ·simp only [sg, Bool.false_eq_true, if_false]; rw [Int.sign_eq_one_of_pos (by omega)]
 ·simp only [sg, if_true]; rw [Int.sign_eq_neg_one_of_neg (by omega)]
theorem zval_mk (z : ZV) : zval z = sg z.neg (val z.w) := rfl
theorem hlv_len_le {l : List Nat} {L : Nat} (h : l.length ≤ L) : (hds (val l)).length ≤ 2 * L ∨ ¬ dig l := by
 by_cases hd : dig l
 ·left
  have h1 := valH_lt (digH_hlv hd)
  rw [valH_hlv, hlv_length] at h1
  have := hds_length h1
  omega
 ·exact .inr hd
end Go.Kx
namespace Go.Proofs.YteghbhdniimjbaaGreat
open Go Go.Kx Go.RowKit
/-- the digits of an integer's words -/
theorem ref01_hv_c {S : Nat → Prop} {w : World} {v : Value} {l : List Nat} (up : Up S w) (h : eW.R S w v l) (hl : l.length ≤ 1000000000) : CR Tryz.prog 226 #[v] w (eHs.at S (hds (val l))) := by
 have := ref01_halves_c up h (by omega)
 rwa [trimH (digH_hlv (eW_lt h)), valH_hlv] at this
theorem hv_len {S : Nat → Prop} {w : World} {v : Value} {l : List Nat} (h : eW.R S w v l) (hl : l.length ≤ 1000000000) : (hds (val l)).length ≤ 2000000000 := by
 rcases hlv_len_le hl with h' | h'
 ·exact h'
 ·exact absurd (eW_lt h) h'
theorem E_ref01_Sign : Ent Tryz.prog 199 := ent_of Tryz.func199 (by kernel_rfl) rfl
theorem ref01_Sign_c {S : Nat → Prop} {w : World} {v : Value} {a : ZV} (up : Up S w) (h : eZ.R S w v a) (hl : a.w.length ≤ 1000000000) : CR Tryz.prog 199 #[v] w (Is (.int .i64 (zval a).sign)) := by
 obtain ⟨s, rfl, hs⟩ := h
 refine enter Tryz.func199 rfl Tryz.ntmps199 rfl ?_
 refine .seq (.region (.box rfl rfl fun w1 b1 n1 => .asg rfl rfl (.nil ?_)))
 obtain ⟨e1, k1, hb1, hs1⟩ := n1
 refine .seq (.seq (.region (.fa fld_Z1 rfl rfl (.ld ty_W rfl rfl k1 rfl ?_))))
 refine .call _ rfl E_ref01_halves rfl (ref01_hv_c (up.ext e1.size) (hs.ext e1) hl) fun v2 w2 e2 h2 => .lenR un_H rfl rfl h2 ?_
 have x2 := e1.trans e2
 by_cases h0 : val a.w = 0
 ·rw [h0, hds_zero]
  refine .eqlT rfl rfl rfl rfl (.nil (.condT rfl (.seq (.region (.asg rfl rfl (.nil (.ret ?_)))))))
  refine .plain [_] Tryz.results199 ⟨rfl, trivial⟩ ⟨x2, isI ?_⟩
  rw [zval_mk, h0]; cases a.neg <;> rfl
 ·have hne : (hds (val a.w)).length ≠ 0 := fun e => h0 (hds_eq_nil.1 (List.length_eq_zero_iff.1 e))
  refine .eqlF rfl rfl rfl (by omega) (.nil (.condF rfl (.skip ?_)))
  refine .seq (.seq (.region (.fa fld_Z0 rfl rfl (.ld ty_bool rfl rfl (k1.ext e2) rfl (.nil ?_)))))
  have hz : (zval a).sign = if a.neg then -1 else 1 := by rw [zval_mk]; exact sign_sg h0
  cases hn : a.neg with
  | true =>
   rw [hn] at hz
   refine .condT rfl (.seq (.region (.asg rfl rfl (.nil (.ret ?_)))))
   exact .plain [_] Tryz.results199 ⟨rfl, trivial⟩ ⟨x2, isI (by rw [hz]; rfl)⟩
  | false =>
   rw [hn] at hz
   refine .condF rfl (.skip (.seq (.region (.asg rfl rfl (.nil (.ret ?_))))))
   exact .plain [_] Tryz.results199 ⟨rfl, trivial⟩ ⟨x2, isI (by rw [hz]; rfl)⟩
theorem E_ref01_Neg : Ent Tryz.prog 200 := ent_of Tryz.func200 (by kernel_rfl) rfl
theorem ref01_Neg_c {S : Nat → Prop} {w : World} {v : Value} {a : ZV} (up : Up S w) (h : eZ.R S w v a) (hl : a.w.length ≤ 1000000000) : CR Tryz.prog 200 #[v] w (eZ.at S (zc (-zval a))) := by
 obtain ⟨s, rfl, hs⟩ := h
 refine enter Tryz.func200 rfl Tryz.ntmps200 rfl ?_
 refine .seq (.region (.box rfl rfl fun w1 b1 n1 => .alloc rfl zero_Z fun w2 b2 n2 => .nil ?_))
 obtain ⟨e1, k1, hb1, hs1⟩ := n1
 obtain ⟨e2, k2, hb2, hs2⟩ := n2
 have x2 := e1.trans e2
 have k1 := k1.ext e2
 have hS2 : ¬ Sx S w.heap.size w2.heap.size b2 := Sx.no (by omega) (by omega)
 have up2 : Up (Sx S w.heap.size w2.heap.size) w2 := Sx.up up (Nat.le_refl _) x2.size
 have hs2' := (ER.par eW hs w2.heap.size).ext x2
 refine .seq ?_
 refine .par follows 6 [.inl _, .inl (.bool a.neg), .inl _, .inl _, .inl s, .inr (eHs.at (Sx S w.heap.size w2.heap.size) (hds (val a.w)))] [[], [(3, 0)], [(4, 1)], [], [(6, 3)], [(7, 4)]] (by kernel_rfl) ⟨
  fun w e => (v_fa fld_Z0 rfl).ob, fun w e => (v_ld ty_bool rfl (k1.ext e) rfl).ob, fun w e => (v_not rfl).ob, fun w e => (v_fa fld_Z1 rfl).ob, fun w e => (v_ld ty_W rfl (k1.ext e) rfl).ob,
  fun w e => (g_call _ E_ref01_halves rfl (ref01_hv_c (up2.ext e.size) (hs2'.ext e) hl)).ob (st_at _ _ _), trivial⟩ ?_
 intro w3 e3 x5 hx5
 have hlen := hv_len hs hl
 refine .call _ rfl E_ref01_of rfl (ref01_of_c (up2.ext e3.size) hx5 (by omega)) fun v4 w4 e4 h4 => ?_
 rw [valH_hds, sg_neg, ← zval_mk] at h4
 refine .storeA (E := eZ) ty_Z rfl rfl ((k2.ext e3).ext e4) rfl rfl h4 hS2 fun w5 k5 u5 h5 => .nil (.ret ?_)
 exact .cell Tryz.results200 rfl ty_Z rfl rfl k5 h5 ⟨u5.below ((x2.trans e3).trans e4) (by omega), h5.out⟩
theorem E_ref01_Abs : Ent Tryz.prog 202 := ent_of Tryz.func202 (by kernel_rfl) rfl
theorem ref01_Abs_c {S : Nat → Prop} {w : World} {v : Value} {a : ZV} (up : Up S w) (h : eZ.R S w v a) (hl : a.w.length ≤ 1000000000) : CR Tryz.prog 202 #[v] w (eZ.at S (zc (val a.w))) := by
 obtain ⟨s, rfl, hs⟩ := h
 refine enter Tryz.func202 rfl Tryz.ntmps202 rfl ?_
 refine .seq (.region (.box rfl rfl fun w1 b1 n1 => .alloc rfl zero_Z fun w2 b2 n2 => .nil ?_))
 obtain ⟨e1, k1, hb1, hs1⟩ := n1
 obtain ⟨e2, k2, hb2, hs2⟩ := n2
 have x2 := e1.trans e2
 have k1 := k1.ext e2
 have hS2 : ¬ Sx S w.heap.size w2.heap.size b2 := Sx.no (by omega) (by omega)
 have up2 : Up (Sx S w.heap.size w2.heap.size) w2 := Sx.up up (Nat.le_refl _) x2.size
 have hs2' := (ER.par eW hs w2.heap.size).ext x2
 refine .seq (.region (.fa fld_Z1 rfl rfl (.ld ty_W rfl rfl k1 rfl ?_)))
 refine .call _ rfl E_ref01_halves rfl (ref01_hv_c up2 hs2' hl) fun v3 w3 e3 h3 => ?_
 have hlen := hv_len hs hl
 refine .call _ rfl E_ref01_of rfl (ref01_of_c (up2.ext e3.size) h3 (by omega)) fun v4 w4 e4 h4 => ?_
 rw [valH_hds] at h4
 refine .storeA (E := eZ) ty_Z rfl rfl ((k2.ext e3).ext e4) rfl rfl h4 hS2 fun w5 k5 u5 h5 => .nil (.ret ?_)
 exact .cell Tryz.results202 rfl ty_Z rfl rfl k5 h5 ⟨u5.below ((x2.trans e3).trans e4) (by omega), h5.out⟩
theorem E_ref01_Mul : Ent Tryz.prog 233 := ent_of Tryz.func233 (by kernel_rfl) rfl
theorem ref01_Mul_c {S : Nat → Prop} {w : World} {va vb : Value} {a b : ZV} (up : Up S w) (ha : eZ.R S w va a) (hb : eZ.R S w vb b) (hla : a.w.length ≤ 1000000000) (hlb : b.w.length ≤ 1000000000) : CR Tryz.prog 233 #[va, vb] w (eZ.at S (zc (zval a * zval b))) := by
 obtain ⟨s, rfl, hs⟩ := ha
 obtain ⟨t, rfl, ht⟩ := hb
 refine enter Tryz.func233 rfl Tryz.ntmps233 rfl ?_
 refine .seq (.region (.box rfl rfl fun w1 b2 n1 => .box rfl rfl fun w2 b3 n2 => .alloc rfl zero_Z fun w3 b4 n3 => .nil ?_))
 obtain ⟨e1, k2, hb2, hs1⟩ := n1
 obtain ⟨e2, k3, hb3, hs2⟩ := n2
 obtain ⟨e3, k4, hb4, hs3⟩ := n3
 have x3 := (e1.trans e2).trans e3
 have k2 := (k2.ext e2).ext e3
 have k3 := k3.ext e3
 have hS4 : ¬ Sx S w.heap.size w3.heap.size b4 := Sx.no (by omega) (by omega)
 have up3 : Up (Sx S w.heap.size w3.heap.size) w3 := Sx.up up (Nat.le_refl _) x3.size
 have hs' := (ER.par eW hs w3.heap.size).ext x3
 have ht' := (ER.par eW ht w3.heap.size).ext x3
 have l1 := hv_len hs hla
 have l2 := hv_len ht hlb
 refine .seq ?_
 refine .par follows 12 [.inl _, .inl (.bool a.neg), .inl _, .inl (.bool b.neg), .inl (.bool (a.neg != b.neg)), .inl _, .inl s, .inr (eHs.at (Sx S w.heap.size w3.heap.size) (hds (val a.w))), .inl _, .inl t, .inr (eHs.at (Sx S w.heap.size w3.heap.size) (hds (val b.w))), .inr (eHs.at (Sx S w.heap.size w3.heap.size) (hds (valH (hds (val a.w)) * valH (hds (val b.w)))))] [[], [(5, 0)], [], [(7, 2)], [(6, 1), (8, 3)], [], [(10, 5)], [(11, 6)], [], [(13, 8)], [(14, 9)], [(12, 7), (15, 10)]] (by kernel_rfl) ⟨
  fun w e => (v_fa fld_Z0 rfl).ob, fun w e => (v_ld ty_bool rfl (k2.ext e) rfl).ob, fun w e => (v_fa fld_Z0 rfl).ob, fun w e => (v_ld ty_bool rfl (k3.ext e) rfl).ob, fun w e => (v_neqB un_bool rfl rfl).ob,
  fun w e => (v_fa fld_Z1 rfl).ob, fun w e => (v_ld ty_W rfl (k2.ext e) rfl).ob, fun w e => (g_call _ E_ref01_halves rfl (ref01_hv_c (up3.ext e.size) (hs'.ext e) hla)).ob (st_at _ _ _),
  fun w e => (v_fa fld_Z1 rfl).ob, fun w e => (v_ld ty_W rfl (k3.ext e) rfl).ob, fun w e => (g_call _ E_ref01_halves rfl (ref01_hv_c (up3.ext e.size) (ht'.ext e) hlb)).ob (st_at _ _ _),
  fun w e x hx y hy => (g_call _ E_ref01_mul rfl (ref01_mul_c (up3.ext e.size) hx hy (by omega) (by omega))).ob (st_at _ _ _), trivial⟩ ?_
 intro w4 e4 x7 hx7 x10 hx10 v5 h5
 rw [valH_hds, valH_hds] at h5
 have l3 := hds_mul_len (val a.w) (val b.w)
 have e45 := e4
 refine .call _ rfl E_ref01_of rfl (ref01_of_c (up3.ext e45.size) h5 (by omega)) fun v6 w6 e6 h6 => ?_
 rw [valH_hds, sg_mulX, ← zval_mk, ← zval_mk] at h6
 have e46 := e45.trans e6
 refine .storeA (E := eZ) ty_Z rfl rfl (k4.ext e46) rfl rfl h6 hS4 fun w7 k7 u7 h7 => .nil (.ret ?_)
 exact .cell Tryz.results233 rfl ty_Z rfl rfl k7 h7 ⟨u7.below (x3.trans e46) (by omega), h7.out⟩
theorem E_ref01_Add : Ent Tryz.prog 234 := ent_of Tryz.func234 (by kernel_rfl) rfl
theorem ref01_Add_c {S : Nat → Prop} {w : World} {va vb : Value} {a b : ZV} (up : Up S w) (ha : eZ.R S w va a) (hb : eZ.R S w vb b) (hla : a.w.length ≤ 1000000000) (hlb : b.w.length ≤ 1000000000) : CR Tryz.prog 234 #[va, vb] w (eZ.at S (zc (zval a + zval b))) := by
 obtain ⟨s, rfl, hs⟩ := ha
 obtain ⟨t, rfl, ht⟩ := hb
 refine enter Tryz.func234 rfl Tryz.ntmps234 rfl ?_
 refine .seq (.region (.box rfl rfl fun w1 b2 n1 => .box rfl rfl fun w2 b3 n2 => .alloc rfl zero_Z fun w3 b4 n3 => .nil ?_))
 obtain ⟨e1, k2, hb2, hs1⟩ := n1
 obtain ⟨e2, k3, hb3, hs2⟩ := n2
 obtain ⟨e3, k4, hb4, hs3⟩ := n3
 have x3 := (e1.trans e2).trans e3
 have k2 := (k2.ext e2).ext e3
 have k3 := k3.ext e3
 have hS4 : ¬ Sx S w.heap.size w3.heap.size b4 := Sx.no (by omega) (by omega)
 have up3 : Up (Sx S w.heap.size w3.heap.size) w3 := Sx.up up (Nat.le_refl _) x3.size
 have hs' := (ER.par eW hs w3.heap.size).ext x3
 have ht' := (ER.par eW ht w3.heap.size).ext x3
 have l1 := hv_len hs hla
 have l2 := hv_len ht hlb
 have hout : ∀ {W : World} {v : Value} {z : ZV}, eZ.R (Sx S w.heap.size w3.heap.size) W v z → eZ.R S W v z := fun h => h.out
 generalize hT : Sx S w.heap.size w3.heap.size = T at *
 refine .seq ?_
 refine .par follows 6 [.inl _, .inl s, .inr (eHs.at T (hds (val a.w))), .inl _, .inl t, .inr (eHs.at T (hds (val b.w)))] [[], [(7, 0)], [(8, 1)], [], [(10, 3)], [(11, 4)]] (by kernel_rfl) ⟨
  fun w e => (v_fa fld_Z1 rfl).ob, fun w e => (v_ld ty_W rfl (k2.ext e) rfl).ob, fun w e => (g_call _ E_ref01_halves rfl (ref01_hv_c (up3.ext e.size) (hs'.ext e) hla)).ob (st_at _ _ _),
  fun w e => (v_fa fld_Z1 rfl).ob, fun w e => (v_ld ty_W rfl (k3.ext e) rfl).ob, fun w e => (g_call _ E_ref01_halves rfl (ref01_hv_c (up3.ext e.size) (ht'.ext e) hlb)).ob (st_at _ _ _), trivial⟩ ?_
 intro w4 e4 x hx y hy
 refine .asg rfl rfl (.asg rfl rfl (.nil ?_))
 have up4 := up3.ext e4.size
 have k2 := k2.ext e4
 have k3 := k3.ext e4
 have k4 := k4.ext e4
 have x4 := x3.trans e4
 have eva := zval_mk a
 have evb := zval_mk b
 generalize val a.w = A at *
 generalize val b.w = B at *
 refine .seq (.seq (.region (.fa fld_Z0 rfl rfl (.ld ty_bool rfl rfl k2 rfl (.fa fld_Z0 rfl rfl (.ld ty_bool rfl rfl k3 rfl (.eqlB un_bool rfl rfl rfl (.nil ?_))))))))
 by_cases hn : a.neg = b.neg
 ·rw [show (a.neg == b.neg) = true by simp [hn]]
  refine .condT rfl (.seq ?_)
  refine .par follows 5 [.inl _, .inl (.bool a.neg), .inl _, .inl _, .inr (eHs.at T (hds (valH (hds A) + valH (hds B))))] [[], [(18, 0)], [], [], [(20, 2), (21, 3)]] (by kernel_rfl) ⟨
   fun w e => (v_fa fld_Z0 rfl).ob, fun w e => (v_ld ty_bool rfl (k2.ext e) rfl).ob, fun w e => (v_mv rfl).ob, fun w e => (v_mv rfl).ob,
   fun w e => (g_call _ E_ref01_add rfl (ref01_add_c (up4.ext e.size) (ER.ext eHs hx e) (ER.ext eHs hy e) (by omega) (by omega))).ob (st_at _ _ _), trivial⟩ ?_
  intro w5 e5 z hz
  rw [valH_hds, valH_hds] at hz
  have l3 := hds_add_len l1 l2
  refine .call _ rfl E_ref01_of rfl (ref01_of_c (up4.ext e5.size) hz (by omega)) fun v6 w6 e6 h6 => ?_
  rw [valH_hds] at h6
  have hval : sg a.neg (A + B) = zval a + zval b := by rw [eva, evb, ← hn]; cases a.neg <;> simp [sg] <;> omega
  rw [hval] at h6
  have e56 := e5.trans e6
  refine .storeA (E := eZ) ty_Z rfl rfl (k4.ext e56) rfl rfl h6 hS4 fun w7 k7 u7 h7 => .nil (.ret ?_)
  exact .cell Tryz.results234 rfl ty_Z rfl rfl k7 h7 ⟨u7.below (x4.trans e56) (by omega), hout h7⟩
 ·rw [show (a.neg == b.neg) = false by simpa using hn]
  refine .condF rfl (.skip (.seq (.seq (.region (.mv rfl rfl (.mv rfl rfl ?_))))))
  refine .call _ rfl E_ref01_cmp rfl (ref01_cmp_c hx hy (by omega) (by omega)) fun v5 w5 e5 h5 => ?_
  subst h5
  rw [valH_hds, valH_hds]
  have up5 := up4.ext e5.size
  have k2 := k2.ext e5
  have k3 := k3.ext e5
  have k4 := k4.ext e5
  have x5 := x4.trans e5
  have hx5 := ER.ext eHs hx e5
  have hy5 := ER.ext eHs hy e5
  by_cases hge : B ≤ A
  ·refine .geqT rfl rfl rfl (by unfold cmpN; split <;> (try split) <;> omega) (.nil (.condT rfl (.seq ?_)))
   refine .par follows 5 [.inl _, .inl (.bool a.neg), .inl _, .inl _, .inr (eHs.at T (hds (valH (hds A) - valH (hds B))))] [[], [(28, 0)], [], [], [(30, 2), (31, 3)]] (by kernel_rfl) ⟨
    fun w e => (v_fa fld_Z0 rfl).ob, fun w e => (v_ld ty_bool rfl (k2.ext e) rfl).ob, fun w e => (v_mv rfl).ob, fun w e => (v_mv rfl).ob,
    fun w e => (g_call _ E_ref01_sub rfl (ref01_sub_c (up5.ext e.size) (ER.ext eHs hx5 e) (ER.ext eHs hy5 e) (by omega) (by rw [valH_hds, valH_hds]; exact hge))).ob (st_at _ _ _), trivial⟩ ?_
   intro w6 e6 z hz
   rw [valH_hds, valH_hds] at hz
   have l3 : (hds (A - B)).length ≤ 2000000000 := Nat.le_trans (hds_len_mono (by omega)) l1
   refine .call _ rfl E_ref01_of rfl (ref01_of_c (up5.ext e6.size) hz (by omega)) fun v7 w7 e7 h7 => ?_
   rw [valH_hds] at h7
   have hval : sg a.neg (A - B) = zval a + zval b := by
    rw [eva, evb]
    cases h1 : a.neg <;> cases h2 : b.neg <;> rw [h1, h2] at hn <;> first | exact absurd rfl hn | (simp [sg]; omega)
   rw [hval] at h7
   have e67 := e6.trans e7
   refine .storeA (E := eZ) ty_Z rfl rfl (k4.ext e67) rfl rfl h7 hS4 fun w8 k8 u8 h8 => .nil (.ret ?_)
   exact .cell Tryz.results234 rfl ty_Z rfl rfl k8 h8 ⟨u8.below (x5.trans e67) (by omega), hout h8⟩
  ·refine .geqF rfl rfl rfl (by unfold cmpN; rw [if_pos (by omega)]; decide) (.nil (.condF rfl (.skip (.seq ?_))))
   refine .par follows 5 [.inl _, .inl (.bool b.neg), .inl _, .inl _, .inr (eHs.at T (hds (valH (hds B) - valH (hds A))))] [[], [(34, 0)], [], [], [(36, 2), (37, 3)]] (by kernel_rfl) ⟨
    fun w e => (v_fa fld_Z0 rfl).ob, fun w e => (v_ld ty_bool rfl (k3.ext e) rfl).ob, fun w e => (v_mv rfl).ob, fun w e => (v_mv rfl).ob,
    fun w e => (g_call _ E_ref01_sub rfl (ref01_sub_c (up5.ext e.size) (ER.ext eHs hy5 e) (ER.ext eHs hx5 e) (by omega) (by rw [valH_hds, valH_hds]; omega))).ob (st_at _ _ _), trivial⟩ ?_
   intro w6 e6 z hz
   rw [valH_hds, valH_hds] at hz
   have l3 : (hds (B - A)).length ≤ 2000000000 := Nat.le_trans (hds_len_mono (by omega)) l2
   refine .call _ rfl E_ref01_of rfl (ref01_of_c (up5.ext e6.size) hz (by omega)) fun v7 w7 e7 h7 => ?_
   rw [valH_hds] at h7
   have hval : sg b.neg (B - A) = zval a + zval b := by
    rw [eva, evb]
    cases h1 : a.neg <;> cases h2 : b.neg <;> rw [h1, h2] at hn <;> first | exact absurd rfl hn | (simp [sg]; omega)
   rw [hval] at h7
   have e67 := e6.trans e7
   refine .storeA (E := eZ) ty_Z rfl rfl (k4.ext e67) rfl rfl h7 hS4 fun w8 k8 u8 h8 => .nil (.ret ?_)
   exact .cell Tryz.results234 rfl ty_Z rfl rfl k8 h8 ⟨u8.below (x5.trans e67) (by omega), hout h8⟩
end Go.Proofs.YteghbhdniimjbaaGreat

namespace Go.Kx
theorem gcd_step (a b : Nat) : Nat.gcd b (a % b) = Nat.gcd a b := by rw [Nat.gcd_comm b (a % b), ← Nat.gcd_rec, Nat.gcd_comm]
theorem cmpZ_sign {a b : ZV} (hs : (zval a).sign = (zval b).sign) : cmpI (zval a) (zval b) = if (zval a).sign < 0 then 0 - cmpN (val a.w) (val b.w) else cmpN (val a.w) (val b.w) := by
 have h1 := zval_natAbs a
 have h2 := zval_natAbs b
 generalize zval a = x at *
 generalize zval b = y at *
 rw [← h1, ← h2]
 rcases Int.lt_trichotomy x 0 with h | h | h
 ·have e := Int.sign_eq_neg_one_of_neg h
  rw [e] at hs ⊢
  have hy : y < 0 := Int.sign_eq_neg_one_iff_neg.1 hs.symm
  rw [if_pos (by decide)]
  unfold cmpI cmpN
  split <;> split <;> (try split) <;> (try split) <;> omega
 ·subst h
  rw [Int.sign_zero] at hs ⊢
  have hy : y = 0 := Int.sign_eq_zero_iff_zero.1 hs.symm
  subst hy
  decide
 ·have e := Int.sign_eq_one_of_pos h
  rw [e] at hs ⊢
  have hy : 0 < y := Int.sign_eq_one_iff_pos.1 hs.symm
  rw [if_neg (by decide)]
  unfold cmpI cmpN
  split <;> split <;> (try split) <;> (try split) <;> omega
theorem cmpI_ne {x y : Int} (hs : x.sign ≠ y.sign) : cmpI x y = if x.sign < y.sign then -1 else 1 := by
 have hx := Int.lt_trichotomy x 0
 have hy := Int.lt_trichotomy y 0
 unfold cmpI
 rcases hx with h | h | h <;> rcases hy with h' | h' | h' <;> first
  | (rw [Int.sign_eq_neg_one_of_neg h, Int.sign_eq_neg_one_of_neg h'] at hs; exact absurd rfl hs)
  | (rw [Int.sign_eq_one_of_pos h, Int.sign_eq_one_of_pos h'] at hs; exact absurd rfl hs)
  | (rw [h, h'] at hs; exact absurd rfl hs)
  | (simp only [h, h', Int.sign_eq_neg_one_of_neg, Int.sign_eq_one_of_pos, Int.sign_zero]; (try split) <;> (try split) <;> (try simp_all) <;> omega)
end Go.Kx
namespace Go.Proofs.YteghbhdniimjbaaGreat
open Go Go.Kx Go.RowKit
theorem E_ref01_Gcd : Ent Tryz.prog 195 := ent_of Tryz.func195 (by kernel_rfl) rfl
theorem ref01_Gcd_c {S : Nat → Prop} {w : World} {va vb : Value} {a b : ZV} (up : Up S w) (ha : eZ.R S w va a) (hb : eZ.R S w vb b) (hla : a.w.length ≤ 1000000000) (hlb : b.w.length ≤ 1000000000) : CR Tryz.prog 195 #[va, vb] w (eZ.at S (zc (Nat.gcd (val a.w) (val b.w) : Nat))) := by
 obtain ⟨s, rfl, hs⟩ := ha
 obtain ⟨t, rfl, ht⟩ := hb
 refine enter Tryz.func195 rfl Tryz.ntmps195 rfl ?_
 refine .seq (.region (.box rfl rfl fun w1 b2 n1 => .box rfl rfl fun w2 b3 n2 => .alloc rfl zero_Z fun w3 b4 n3 => .nil ?_))
 obtain ⟨e1, k2, hb2, hs1⟩ := n1
 obtain ⟨e2, k3, hb3, hs2⟩ := n2
 obtain ⟨e3, k4, hb4, hs3⟩ := n3
 have x3 := (e1.trans e2).trans e3
 have k2 := (k2.ext e2).ext e3
 have k3 := k3.ext e3
 have hS4 : ¬ Sx S w.heap.size w3.heap.size b4 := Sx.no (by omega) (by omega)
 have up3 : Up (Sx S w.heap.size w3.heap.size) w3 := Sx.up up (Nat.le_refl _) x3.size
 have hs' := (ER.par eW hs w3.heap.size).ext x3
 have ht' := (ER.par eW ht w3.heap.size).ext x3
 have l1 := hv_len hs hla
 have l2 := hv_len ht hlb
 have hout : ∀ {W : World} {v : Value} {z : ZV}, eZ.R (Sx S w.heap.size w3.heap.size) W v z → eZ.R S W v z := fun h => h.out
 generalize hT : Sx S w.heap.size w3.heap.size = T at *
 refine .seq ?_
 refine .par follows 6 [.inl _, .inl s, .inr (eHs.at T (hds (val a.w))), .inl _, .inl t, .inr (eHs.at T (hds (val b.w)))] [[], [(9, 0)], [(10, 1)], [], [(12, 3)], [(13, 4)]] (by kernel_rfl) ⟨
  fun w e => (v_fa fld_Z1 rfl).ob, fun w e => (v_ld ty_W rfl (k2.ext e) rfl).ob, fun w e => (g_call _ E_ref01_halves rfl (ref01_hv_c (up3.ext e.size) (hs'.ext e) hla)).ob (st_at _ _ _),
  fun w e => (v_fa fld_Z1 rfl).ob, fun w e => (v_ld ty_W rfl (k3.ext e) rfl).ob, fun w e => (g_call _ E_ref01_halves rfl (ref01_hv_c (up3.ext e.size) (ht'.ext e) hlb)).ob (st_at _ _ _), trivial⟩ ?_
 intro w4 e4 x hx y hy
 refine .asg rfl rfl (.asg rfl rfl (.nil ?_))
 generalize val a.w = A at *
 generalize val b.w = B at *
 refine .mid (α := Value) (fun p => [(4, .pointer (some ⟨b4, 0, none⟩)), (5, p)]) (fun p W => Ext w4 W ∧ eHs.R T W p (hds (Nat.gcd A B))) ?_ ?_
 ·refine .block (.loop (α := (Nat × Nat) × Value × Value) (fun p => [(4, .pointer (some ⟨b4, 0, none⟩)), (5, p.2.1), (6, p.2.2)])
   (fun p W => Ext w4 W ∧ eHs.R T W p.2.1 (hds p.1.1) ∧ eHs.R T W p.2.2 (hds p.1.2) ∧ (hds p.1.1).length ≤ 2000000000 ∧ (hds p.1.2).length ≤ 2000000000 ∧ Nat.gcd p.1.1 p.1.2 = Nat.gcd A B) (fun p => p.1.2) ((A, B), x, y) ?_ ?_ ?_)
  ·exact look_cons rfl (look_cons rfl (look_cons rfl look_nil))
  ·exact ⟨.refl _, hx, hy, l1, l2, rfl⟩
  ·rintro ⟨⟨m, n⟩, u, v⟩ W ⟨hW, hu, hv, hm, hn, hg⟩
   replace hW : Ext w4 W := hW
   replace hu : eHs.R T W u (hds m) := hu
   replace hv : eHs.R T W v (hds n) := hv
   replace hm : (hds m).length ≤ 2000000000 := hm
   replace hn : (hds n).length ≤ 2000000000 := hn
   replace hg : Nat.gcd m n = Nat.gcd A B := hg
   refine .weak [(4, .pointer (some ⟨b4, 0, none⟩)), (5, u), (6, v)] (fun t v h => h) ?_
   refine .seq (.seq (.region (.mv rfl rfl (.lenR un_H rfl rfl hv ?_))))
   by_cases h0 : n = 0
   ·subst h0
    rw [hds_zero]
    refine .gtrF rfl rfl rfl (by simp) (.nil (.condF rfl (.exit ?_)))
    rw [Nat.gcd_zero_right] at hg
    exact ⟨rfl, u, look_cons rfl (look_cons rfl look_nil), hW, hg ▸ hu⟩
   ·have hne : (hds n).length ≠ 0 := fun e => h0 (hds_eq_nil.1 (List.length_eq_zero_iff.1 e))
    refine .gtrT rfl rfl rfl (by omega) (.nil (.condT rfl (.skip (.block (.seq (.region (.mv rfl rfl (.mv rfl rfl ?_))))))))
    refine .call _ rfl E_ref01_div rfl (ref01_div_c ((up3.ext e4.size).ext hW.size) hu hv (by omega) (by omega) h0) fun z W2 f2 h2 => ?_
    obtain ⟨vq, vr, rfl, hq, hr⟩ := h2
    refine .mv rfl rfl (.ext rfl rfl rfl (.ext rfl rfl rfl (.asg rfl rfl (.asg rfl rfl (.nil ?_)))))
    refine .region (.mv rfl rfl (.mv rfl rfl (.asg rfl rfl (.asg rfl rfl (.nil ?_)))))
    have hlt : m % n < n := Nat.mod_lt _ (by omega)
    exact ⟨rfl, ((n, m % n), v, vr), look_cons rfl (look_cons rfl (look_cons rfl look_nil)), ⟨hW.trans f2, ER.ext eHs hv f2, hr, hn, Nat.le_trans (hds_len_mono (Nat.le_of_lt hlt)) hn, (gcd_step m n).trans hg⟩, hlt⟩
 ·rintro u W ⟨hW, hu⟩
  have e5 := e4.trans hW
  have lg : (hds (Nat.gcd A B)).length ≤ 2000000001 := by
   have h1 : Nat.gcd A B ≤ A + B := by
    rcases Nat.eq_zero_or_pos A with h | h
    ·subst h; rw [Nat.gcd_zero_left]; omega
    ·have := Nat.gcd_le_left B h; omega
   exact Nat.le_trans (hds_len_mono h1) (hds_add_len l1 l2)
  refine .seq (.region (.mv rfl rfl ?_))
  refine .call _ rfl E_ref01_of rfl (ref01_of_c (up3.ext e5.size) hu (by omega)) fun v6 w6 e6 h6 => ?_
  rw [valH_hds] at h6
  have e56 := e5.trans e6
  refine .storeA (E := eZ) ty_Z rfl rfl (k4.ext e56) rfl rfl h6 hS4 fun w7 k7 u7 h7 => .nil (.ret ?_)
  exact .cell Tryz.results195 rfl ty_Z rfl rfl k7 h7 ⟨u7.below (x3.trans e56) (by omega), hout h7⟩
theorem E_ref01_Div : Ent Tryz.prog 196 := ent_of Tryz.func196 (by kernel_rfl) rfl
theorem ref01_Div_c {S : Nat → Prop} {w : World} {va vb : Value} {a b : ZV} (up : Up S w) (ha : eZ.R S w va a) (hb : eZ.R S w vb b) (hla : a.w.length ≤ 1000000000) (hlb : b.w.length ≤ 1000000000) (hb0 : zval b ≠ 0) :
  CR Tryz.prog 196 #[va, vb] w (Three (eZ.at S (zc (zval a / zval b))) (eZ.at S (zc (zval a % zval b))) (Is (.int .i64 0))) := by
 obtain ⟨s, rfl, hs⟩ := ha
 obtain ⟨t, rfl, ht⟩ := hb
 refine enter Tryz.func196 rfl Tryz.ntmps196 rfl ?_
 refine .seq (.region (.box rfl rfl fun w1 b2 n1 => .box rfl rfl fun w2 b3 n2 => .alloc rfl zero_Z fun w3 b4 n3 => .alloc rfl zero_Z fun w4 b5 n4 => .asg rfl rfl (.nil ?_)))
 obtain ⟨e1, k2, hb2, hs1⟩ := n1
 obtain ⟨e2, k3, hb3, hs2⟩ := n2
 obtain ⟨e3, k4, hb4, hs3⟩ := n3
 obtain ⟨e4, k5, hb5, hs4⟩ := n4
 have x4 := ((e1.trans e2).trans e3).trans e4
 have k2 := ((k2.ext e2).ext e3).ext e4
 have k3 := (k3.ext e3).ext e4
 have k4 := k4.ext e4
 have hS4 : ¬ Sx S w.heap.size w4.heap.size b4 := Sx.no (by omega) (by omega)
 have hS5 : ¬ Sx S w.heap.size w4.heap.size b5 := Sx.no (by omega) (by omega)
 have hne : b5 ≠ b4 := by omega
 have up4 : Up (Sx S w.heap.size w4.heap.size) w4 := Sx.up up (Nat.le_refl _) x4.size
 have hs' := (ER.par eW hs w4.heap.size).ext x4
 have ht' := (ER.par eW ht w4.heap.size).ext x4
 have l1 := hv_len hs hla
 have l2 := hv_len ht hlb
 have hout : ∀ {W : World} {v : Value} {z : ZV}, eZ.R (Sx S w.heap.size w4.heap.size) W v z → eZ.R S W v z := fun h => h.out
 generalize hT : Sx S w.heap.size w4.heap.size = T at *
 refine .seq ?_
 refine .par follows 6 [.inl _, .inl s, .inr (eHs.at T (hds (val a.w))), .inl _, .inl t, .inr (eHs.at T (hds (val b.w)))] [[], [(11, 0)], [(12, 1)], [], [(14, 3)], [(15, 4)]] (by kernel_rfl) ⟨
  fun w e => (v_fa fld_Z1 rfl).ob, fun w e => (v_ld ty_W rfl (k2.ext e) rfl).ob, fun w e => (g_call _ E_ref01_halves rfl (ref01_hv_c (up4.ext e.size) (hs'.ext e) hla)).ob (st_at _ _ _),
  fun w e => (v_fa fld_Z1 rfl).ob, fun w e => (v_ld ty_W rfl (k3.ext e) rfl).ob, fun w e => (g_call _ E_ref01_halves rfl (ref01_hv_c (up4.ext e.size) (ht'.ext e) hlb)).ob (st_at _ _ _), trivial⟩ ?_
 intro w5 e5 x hx y hy
 refine .asg rfl rfl (.asg rfl rfl (.nil ?_))
 have hB0 : 0 < val b.w := by
  rcases Nat.eq_zero_or_pos (val b.w) with h | h
  ·exact absurd (by unfold zval sg; rw [h]; simp) hb0
  ·exact h
 have eva := zval_mk a
 have evb := zval_mk b
 generalize val a.w = A at *
 generalize val b.w = B at *
 have hne0 : (hds B).length ≠ 0 := fun e => by have := hds_eq_nil.1 (List.length_eq_zero_iff.1 e); omega
 refine .seq (.seq (.region (.mv rfl rfl (.lenR un_H rfl rfl hy (.eqlF rfl rfl rfl (by omega) (.nil (.condF rfl (.skip ?_))))))))
 have up5 := up4.ext e5.size
 refine .seq (.region (.mv rfl rfl (.mv rfl rfl ?_)))
 refine .call _ rfl E_ref01_div rfl (ref01_div_c up5 hx hy (by omega) (by omega) (by omega)) fun z w6 e6 h6 => ?_
 obtain ⟨vq, vr, rfl, hq, hr⟩ := h6
 refine .mv rfl rfl (.ext rfl rfl rfl (.ext rfl rfl rfl (.asg rfl rfl (.asg rfl rfl (.nil ?_)))))
 have e56 := e5.trans e6
 have x6 := x4.trans e56
 have up6 := up5.ext e6.size
 have k2 := k2.ext e56
 have k3 := k3.ext e56
 have k4 := k4.ext e56
 have k5 := k5.ext e56
 have hy6 := ER.ext eHs hy e6
 have lq : (hds (A / B)).length ≤ 2000000000 := Nat.le_trans (hds_len_mono (Nat.div_le_self _ _)) l1
 have lr : (hds (A % B)).length ≤ 2000000000 := Nat.le_trans (hds_len_mono (Nat.mod_le _ _)) l1
 refine .mid (α := (Nat × Nat) × Value × Value) (fun z => [(2, .pointer (some ⟨b2, 0, none⟩)), (3, .pointer (some ⟨b3, 0, none⟩)), (4, .pointer (some ⟨b4, 0, none⟩)), (5, .pointer (some ⟨b5, 0, none⟩)), (9, z.2.1), (10, z.2.2)])
  (fun z W => Ext w6 W ∧ eHs.R T W z.2.1 (hds z.1.1) ∧ eHs.R T W z.2.2 (hds z.1.2) ∧ (hds z.1.1).length ≤ 2000000002 ∧ (hds z.1.2).length ≤ 2000000002 ∧ zval a / zval b = sg (a.neg != b.neg) z.1.1 ∧ zval a % zval b = sg false z.1.2) ?_ ?_
 ·refine .seq (.region (.fa fld_Z0 rfl rfl (.ld ty_bool rfl rfl k2 rfl (.mv rfl rfl ?_))))
  cases hn : a.neg with
  | false =>
   refine .gs rfl rfl rfl rfl rfl (.gs rfl rfl rfl rfl rfl (.gs rfl rfl rfl rfl rfl (.pick rfl rfl rfl (.nil (.condF rfl (.skip ?_))))))
   obtain ⟨d1, d2⟩ := divmod_pos (p := false) (q := b.neg) (A := A) hB0 (.inl rfl)
   refine ⟨rfl, ((A / B, A % B), vq, vr), look_cons rfl (look_cons rfl (look_cons rfl (look_cons rfl (look_cons rfl (look_cons rfl look_nil))))), .refl _, hq, hr, Nat.le_trans lq (by omega), Nat.le_trans lr (by omega), ?_, ?_⟩
   ·rw [eva, evb, hn]; exact d1
   ·rw [eva, evb, hn]; exact d2
  | true =>
   refine .gr rfl rfl rfl rfl (.mv rfl rfl (.gr rfl rfl rfl rfl (.lenR un_H rfl rfl hr (.gr rfl rfl rfl rfl ?_))))
   by_cases h0 : A % B = 0
   ·rw [h0, hds_zero]
    refine .gtrF rfl rfl rfl (by simp) (.pick rfl rfl rfl (.nil (.condF rfl (.skip ?_))))
    obtain ⟨d1, d2⟩ := divmod_pos (p := true) (q := b.neg) (A := A) hB0 (.inr h0)
    refine ⟨rfl, ((A / B, A % B), vq, vr), look_cons rfl (look_cons rfl (look_cons rfl (look_cons rfl (look_cons rfl (look_cons rfl look_nil))))), .refl _, hq, hr, Nat.le_trans lq (by omega), Nat.le_trans lr (by omega), ?_, ?_⟩
    ·rw [eva, evb, hn]; exact d1
    ·rw [eva, evb, hn]; exact d2
   ·have hne : (hds (A % B)).length ≠ 0 := fun e => h0 (hds_eq_nil.1 (List.length_eq_zero_iff.1 e))
    refine .gtrT rfl rfl rfl (by omega) (.pick rfl rfl rfl (.nil (.condT rfl (.seq (.region (.mv rfl rfl (.bsl _ rfl rfl bsl_H1 fun w7 b7 n7 => ?_)))))))
    have hd1 : digH [1] := by intro x hx; simp at hx; omega
    have ho : OwnH 3 w6.heap.size w7 (.slice (some ⟨b7, 0, none⟩) 1 1) [1] := OwnH.lit (l := [1]) n7 (Nat.le_refl _) hd1 (by simp)
    obtain ⟨e7, _, _, _⟩ := n7
    refine .call _ rfl E_ref01_add rfl (ref01_add_c (S := T) (up6.ext e7.size) (ER.ext eHs hq e7) (ho.toR up6) (by omega) (by simp)) fun v8 w8 e8 h8 => .asg rfl rfl (.nil ?_)
    rw [valH_hds, show valH [1] = 1 by rfl] at h8
    have e78 := e7.trans e8
    refine .region (.mv rfl rfl (.mv rfl rfl ?_))
    have hm := Nat.mod_lt A hB0
    refine .call _ rfl E_ref01_sub rfl (ref01_sub_c (S := T) (up6.ext e78.size) (ER.ext eHs hy6 e78) (ER.ext eHs hr e78) (by omega) (by rw [valH_hds, valH_hds]; omega)) fun v9 w9 e9 h9 => .asg rfl rfl (.nil ?_)
    rw [valH_hds, valH_hds] at h9
    obtain ⟨d1, d2⟩ := divmod_neg (q := b.neg) (A := A) hB0 (by omega)
    refine ⟨rfl, ((A / B + 1, B - A % B), v8, v9), look_cons rfl (look_cons rfl (look_cons rfl (look_cons rfl (look_cons rfl (look_cons rfl look_nil))))), e78.trans e9, ER.ext eHs h8 e9, h9, ?_, ?_, ?_, ?_⟩
    ·exact Nat.le_trans (hds_add_len lq (B := 1) (Nat.le_trans (hds_length (L := 1) (by decide)) (by omega))) (by omega)
    ·exact Nat.le_trans (hds_len_mono (Nat.sub_le _ _)) (by omega)
    ·rw [eva, evb, hn]; exact d1
    ·rw [eva, evb, hn]; exact d2
 ·rintro ⟨⟨q, r⟩, vq, vr⟩ W ⟨hW, hq, hr, lq, lr, d1, d2⟩
  replace hW : Ext w6 W := hW
  replace hq : eHs.R T W vq (hds q) := hq
  replace hr : eHs.R T W vr (hds r) := hr
  replace lq : (hds q).length ≤ 2000000002 := lq
  replace lr : (hds r).length ≤ 2000000002 := lr
  replace d1 : zval a / zval b = sg (a.neg != b.neg) q := d1
  replace d2 : zval a % zval b = sg false r := d2
  refine .weak [(2, .pointer (some ⟨b2, 0, none⟩)), (3, .pointer (some ⟨b3, 0, none⟩)), (4, .pointer (some ⟨b4, 0, none⟩)), (5, .pointer (some ⟨b5, 0, none⟩)), (9, vq), (10, vr)] (fun t v h => h) ?_
  have k2 := k2.ext hW
  have k3 := k3.ext hW
  have k4 := k4.ext hW
  have k5 := k5.ext hW
  have upW := up6.ext hW.size
  refine .seq (.region (.fa fld_Z0 rfl rfl (.ld ty_bool rfl rfl k2 rfl (.fa fld_Z0 rfl rfl (.ld ty_bool rfl rfl k3 rfl (.neqB un_bool rfl rfl rfl (.mv rfl rfl ?_)))))))
  refine .call _ rfl E_ref01_of rfl (ref01_of_c upW hq (by omega)) fun v7 w7 e7 h7 => .mv rfl rfl ?_
  rw [valH_hds, ← d1] at h7
  refine .call _ rfl E_ref01_of rfl (ref01_of_c (upW.ext e7.size) (ER.ext eHs hr e7) (by omega)) fun v8 w8 e8 h8 => ?_
  rw [valH_hds, ← d2] at h8
  have e78 := e7.trans e8
  refine .storeA (E := eZ) ty_Z rfl rfl (k4.ext e78) rfl rfl (ER.ext eZ h7 e8) hS4 fun w9 k9 u9 h9 => ?_
  refine .storeA (E := eZ) ty_Z rfl rfl ((k5.ext e78).upd u9 hne) rfl rfl (ER.upd eZ h8 u9 hS4) hS5 fun w10 k10 u10 h10 => .asg rfl rfl (.nil (.ret ?_))
  exact .plain [_, _, _] Tryz.results196 ⟨⟨_, rfl, load_cell (E := eZ) ty_Z rfl rfl (k9.upd u10 (Ne.symm hne)) (ER.upd eZ h9 u10 hS5)⟩, ⟨_, rfl, load_cell (E := eZ) ty_Z rfl rfl k10 h10⟩, rfl, trivial⟩
   ⟨u10.below (u9.below ((x6.trans hW).trans e78) (by omega)) (by omega), _, _, _, rfl, hout (ER.upd eZ h9 u10 hS5), hout h10, rfl⟩
theorem E_ref01_Cmp : Ent Tryz.prog 197 := ent_of Tryz.func197 (by kernel_rfl) rfl
theorem ref01_Cmp_c {S : Nat → Prop} {w : World} {va vb : Value} {a b : ZV} (up : Up S w) (ha : eZ.R S w va a) (hb : eZ.R S w vb b) (hla : a.w.length ≤ 1000000000) (hlb : b.w.length ≤ 1000000000) : CR Tryz.prog 197 #[va, vb] w (Is (.int .i64 (cmpI (zval a) (zval b)))) := by
 have ha0 := ha
 have hb0 := hb
 obtain ⟨s, rfl, hs⟩ := ha
 obtain ⟨t, rfl, ht⟩ := hb
 refine enter Tryz.func197 rfl Tryz.ntmps197 rfl ?_
 refine .seq (.region (.box rfl rfl fun w1 b2 n1 => .box rfl rfl fun w2 b3 n2 => .asg rfl rfl (.nil ?_)))
 obtain ⟨e1, k2, hb2, hs1⟩ := n1
 obtain ⟨e2, k3, hb3, hs2⟩ := n2
 have x2 := e1.trans e2
 have k2 := k2.ext e2
 have up2 := up.ext x2.size
 have ha2 := ER.ext eZ ha0 x2
 have hb2' := ER.ext eZ hb0 x2
 have eva := zval_mk a
 have evb := zval_mk b
 refine .seq (.seq ?_)
 refine .par follows 5 [.inl (.agg #[.bool a.neg, s]), .inl (.int .i64 (zval a).sign), .inl (.agg #[.bool b.neg, t]), .inl (.int .i64 (zval b).sign), .inl (.bool ((zval a).sign != (zval b).sign))] [[], [(6, 0)], [], [(8, 2)], [(7, 1), (9, 3)]] (by kernel_rfl) ⟨
  fun w e => (v_ldA ty_Z rfl (k2.ext e) rfl).ob, fun w e => g_call _ E_ref01_Sign rfl (ref01_Sign_c (up2.ext e.size) (ER.ext eZ ha2 e) hla),
  fun w e => (v_ldA ty_Z rfl (k3.ext e) rfl).ob, fun w e => g_call _ E_ref01_Sign rfl (ref01_Sign_c (up2.ext e.size) (ER.ext eZ hb2' e) hlb), fun w e => (v_neq rfl rfl).ob, trivial⟩ ?_
 intro w3 e3
 have x3 := x2.trans e3
 have up3 := up2.ext e3.size
 have k2 := k2.ext e3
 have k3 := k3.ext e3
 have ha3 := ER.ext eZ ha2 e3
 have hb3 := ER.ext eZ hb2' e3
 by_cases hsg : (zval a).sign = (zval b).sign
 ·rw [show ((zval a).sign != (zval b).sign) = false by simpa using hsg]
  refine .nil (.condF rfl (.skip (.seq ?_)))
  have hs' := ER.ext eW hs x3
  have ht' := ER.ext eW ht x3
  have l1 := hv_len hs hla
  have l2 := hv_len ht hlb
  have hc := cmpZ_sign hsg
  refine .par follows 7 [.inl _, .inl s, .inr (eHs.at S (hds (val a.w))), .inl _, .inl t, .inr (eHs.at S (hds (val b.w))), .inl (.int .i64 (cmpN (valH (hds (val a.w))) (valH (hds (val b.w)))))] [[], [(16, 0)], [(17, 1)], [], [(19, 3)], [(20, 4)], [(18, 2), (21, 5)]] (by kernel_rfl) ⟨
   fun w e => (v_fa fld_Z1 rfl).ob, fun w e => (v_ld ty_W rfl (k2.ext e) rfl).ob, fun w e => (g_call _ E_ref01_halves rfl (ref01_hv_c (up3.ext e.size) (hs'.ext e) hla)).ob (st_at _ _ _),
   fun w e => (v_fa fld_Z1 rfl).ob, fun w e => (v_ld ty_W rfl (k3.ext e) rfl).ob, fun w e => (g_call _ E_ref01_halves rfl (ref01_hv_c (up3.ext e.size) (ht'.ext e) hlb)).ob (st_at _ _ _),
   fun w e x hx y hy => g_call _ E_ref01_cmp rfl (ref01_cmp_c hx hy (by omega) (by omega)), trivial⟩ ?_
  intro w4 e4 x hx y hy
  rw [valH_hds, valH_hds]
  refine .asg rfl rfl (.nil (.seq (.seq (.region (.ldA ty_Z rfl rfl (k2.ext e4) rfl ?_)))))
  refine .call _ rfl E_ref01_Sign rfl (ref01_Sign_c (up3.ext e4.size) (ER.ext eZ ha3 e4) hla) fun v5 w5 e5 h5 => ?_
  subst h5
  have x5 := (x3.trans e4).trans e5
  by_cases hn : (zval a).sign < 0
  ·rw [if_pos hn] at hc
   refine .lssT rfl rfl rfl hn (.nil (.condT rfl (.seq (.region (.mv rfl rfl (.neg rfl rfl (.asg rfl rfl (.nil (.ret ?_)))))))))
   exact .plain [_] Tryz.results197 ⟨rfl, trivial⟩ ⟨x5, isI (by rw [hc, wI (by unfold cmpN; split <;> (try split) <;> omega)])⟩
  ·rw [if_neg hn] at hc
   refine .lssF rfl rfl rfl hn (.nil (.condF rfl (.skip (.seq (.region (.mv rfl rfl (.asg rfl rfl (.nil (.ret ?_)))))))))
   exact .plain [_] Tryz.results197 ⟨rfl, trivial⟩ ⟨x5, isI (by rw [hc])⟩
 ·rw [show ((zval a).sign != (zval b).sign) = true by simpa using hsg]
  refine .nil (.condT rfl (.seq (.seq ?_)))
  have hc := cmpI_ne hsg
  refine .par follows 5 [.inl (.agg #[.bool a.neg, s]), .inl (.int .i64 (zval a).sign), .inl (.agg #[.bool b.neg, t]), .inl (.int .i64 (zval b).sign), .inl (.bool (decide ((zval a).sign < (zval b).sign)))] [[], [(11, 0)], [], [(13, 2)], [(12, 1), (14, 3)]] (by kernel_rfl) ⟨
   fun w e => (v_ldA ty_Z rfl (k2.ext e) rfl).ob, fun w e => g_call _ E_ref01_Sign rfl (ref01_Sign_c (up3.ext e.size) (ER.ext eZ ha3 e) hla),
   fun w e => (v_ldA ty_Z rfl (k3.ext e) rfl).ob, fun w e => g_call _ E_ref01_Sign rfl (ref01_Sign_c (up3.ext e.size) (ER.ext eZ hb3 e) hlb), fun w e => (v_lss rfl rfl).ob, trivial⟩ ?_
  intro w4 e4
  by_cases hn : (zval a).sign < (zval b).sign
  ·rw [if_pos hn] at hc
   rw [show decide ((zval a).sign < (zval b).sign) = true by simpa using hn]
   refine .nil (.condT rfl (.seq (.region (.asg rfl rfl (.nil (.ret ?_))))))
   exact .plain [_] Tryz.results197 ⟨rfl, trivial⟩ ⟨x3.trans e4, isI (by rw [hc])⟩
  ·rw [if_neg hn] at hc
   rw [show decide ((zval a).sign < (zval b).sign) = false by simpa using hn]
   refine .nil (.condF rfl (.skip (.seq (.region (.asg rfl rfl (.nil (.ret ?_)))))))
   exact .plain [_] Tryz.results197 ⟨rfl, trivial⟩ ⟨x3.trans e4, isI (by rw [hc])⟩
end Go.Proofs.YteghbhdniimjbaaGreat

namespace Go.Kx
open Go Go.RowKit
def isAl (o : Oper) : Bool := match o.op with | .alloc _ => true | _ => false
/-- the new cells of a region -/
def AlOk (P : Program) (w0 : World) : List Oper → List Sp → Prop
 | o :: os, s :: ss => (isAl o = true → ∃ t z B, o.op = .alloc t ∧ o.guard = none ∧ zeroOf P t = some z ∧ s = .inr (NewP B t z.cells) ∧ B ≤ w0.heap.size) ∧ AlOk P w0 os ss
 | _, _ => True
theorem AlOk.at_ {P : Program} {w0 : World} : ∀ {os : List Oper} {ss : List Sp}, AlOk P w0 os ss → ∀ (i : Nat) (o : Oper) (s : Sp), os[i]? = some o → ss[i]? = some s → isAl o = true → ∃ t z B, o.op = .alloc t ∧ o.guard = none ∧ zeroOf P t = some z ∧ s = .inr (NewP B t z.cells) ∧ B ≤ w0.heap.size
 | [], ss, _, i, o, s, h1, _, _ => by simp at h1
 | o' :: os, [], _, i, o, s, _, h2, _ => by simp at h2
 | o' :: os, s' :: ss, h, 0, o, s, h1, h2, h3 => by simp at h1 h2; subst h1; subst h2; exact h.1 h3
 | o' :: os, s' :: ss, h, i + 1, o, s, h1, h2, h3 => AlOk.at_ h.2 i o s (by simpa using h1) (by simpa using h2) h3
/-- the slots of the new cells hold different values -/
def Apart (ops : List Oper) (σ : Env) : Prop := ∀ t t' v v', t ≠ t' → (∃ o ∈ ops, isAl o = true ∧ o.dst = some t) → (∃ o ∈ ops, isAl o = true ∧ o.dst = some t') → look σ t = some v → look σ t' = some v' → v ≠ v'
/-- what holds while the head runs -/
structure InvF (N : Nat) (ds : List Deferred) (ops : List Oper) (w0 : World) (h : Nat) (sp : List Sp) (a0 : Act) (listed : Array Bool) (a : Act) (w : World) : Prop where
 size : a.tmps.size = N
 defs : a.defers = ds
 ext : Ext w0 w
 vals : ∀ (i : Nat) (o : Oper) (s : Sp) (t : Tmp), i < h → ops[i]? = some o → sp[i]? = some s → isL listed i → o.dst = some t → Sp.ok s (a.tmps.getD t undef) w
 old : ∀ t, (∀ (i : Nat) (o : Oper), i < h → ops[i]? = some o → isL listed i → o.dst ≠ some t) → a.tmps.getD t undef = a0.tmps.getD t undef
 shut : ∀ (i : Nat) (o : Oper), ops[i]? = some o → isL listed i → ∀ j, edgeTo o j = true → isL listed j
 head : ∀ i, h ≤ i → ¬ isL listed i
 dis : ∀ (i j : Nat) (oi oj : Oper) (t t' : Tmp), i < h → j < h → i ≠ j → ops[i]? = some oi → ops[j]? = some oj → isL listed i → isL listed j → isAl oi = true → isAl oj = true → oi.dst = some t → oj.dst = some t' → a.tmps.getD t undef ≠ a.tmps.getD t' undef
 low : ∀ (i : Nat) (o : Oper) (t : Tmp), i < h → ops[i]? = some o → isL listed i → isAl o = true → o.dst = some t → ∃ b, a.tmps.getD t undef = .pointer (some ⟨b, 0, none⟩) ∧ b < w.heap.size
section
variable {P : Program} {ro : Option Nat} {N : Nat} {ds : List Deferred} {ops : List Oper} {K : Env → World → Prop} {σ0 : Env} {w0 : World} {h : Nat} {sp : List Sp} {deps : List (List (Tmp × Nat))} {a0 : Act}
section
variable {Q : Exit → Act → World → Prop}
set_option maxHeartbeats 1600000 in
theorem parF_any (hchk : okPar ops N h deps = true) (ha0 : Agr N σ0 ds a0) (hob : Obs P w0 σ0 (ops.take h) sp (ops.take h) sp deps) (hal : AlOk P w0 (ops.take h) sp)
    (hfin : ∀ w, Ext w0 w → finQ (fun σ w => Apart (ops.take h) σ → ∀ a, Agr N σ ds a → wpListIn (wf ro) 0 P ops.toArray Q (ops.drop h) a w) w (ops.take h) sp σ0) :
    ∀ (fuel : Nat) (listed : Array Bool) (a : Act) (w : World), listed.size = ops.length → cnt listed ops.length ≤ fuel →
      (InvF N ds ops w0 h sp a0 listed a w ∨ ∃ p, h ≤ p ∧ p ≤ ops.length ∧ (∀ j, j < p → isL listed j) ∧ (∀ j, p ≤ j → ¬ isL listed j) ∧ wpListIn (wf ro) 0 P ops.toArray Q (ops.drop p) a w) →
      wpAnyIn (wf ro) 0 P .any ops.toArray Q fuel listed a w := by
  simp only [okPar, Bool.and_eq_true, List.all_eq_true, Nat.ble_eq] at hchk
  obtain ⟨⟨⟨hback, hnd⟩, hall⟩, hle⟩ := hchk
  have hback' : ∀ (i : Nat) (o : Oper), ops[i]? = some o → ∀ j, edgeTo o j = true → j < i := by
    intro i o hi j hj
    have := hback (o, i) (by rw [List.mem_zipIdx_iff_getElem?]; exact hi)
    obtain ⟨e, he, hb, rfl⟩ := edgeTo_spec.1 hj
    simp only [okBack, Array.all_eq_true', Bool.or_eq_true, Bool.not_eq_true', Nat.blt_eq] at this
    rcases this e he with h | h
    · rw [hb] at h; cases h
    · exact h
  have hop : ∀ (i : Nat) (o : Oper), i < h → ops[i]? = some o → okOp (ops.take h) N i o (deps.getD i []) = true := by
    intro i o hi ho
    have := hall (o, i) (by rw [List.mem_zipIdx_iff_getElem?]; exact ho)
    simpa [Nat.blt_eq, hi] using this
  have htail : ∀ (listed : Array Bool), (∀ (i : Nat) (o : Oper), ops[i]? = some o → isL listed i → ∀ j, edgeTo o j = true → isL listed j) → ∀ (i : Nat) (o : Oper), h ≤ i → ops[i]? = some o → (∀ j, edgeTo o j = true → isL listed j) → ∀ j, j < i → isL listed j := by
    intro listed shut i o hi ho hed j hj
    have := hall (o, i) (by rw [List.mem_zipIdx_iff_getElem?]; exact ho)
    have hn : Nat.blt i h = false := by
      cases hh : Nat.blt i h with
      | false => rfl
      | true => rw [Nat.blt_eq] at hh; omega
    simp only [hn, Bool.false_eq_true, if_false, okTail, List.all_eq_true, List.mem_range] at this
    obtain ⟨x, hx, hxe⟩ := List.any_eq_true.1 (this j hj)
    have hxj : j = x := Nat.eq_of_beq_eq_true hxe
    subst hxj
    refine closeB_listed shut _ _ (fun k hk => ?_) j hx
    simp only [edgesOf, List.mem_filterMap] at hk
    obtain ⟨e, he, hb⟩ := hk
    have hbb : Region.binds .any e = true := by
      cases h' : Region.binds .any e with
      | true => rfl
      | false => rw [h'] at hb; simp at hb
    rw [hbb] at hb
    simp at hb
    exact hed k (edgeTo_spec.2 ⟨e, by simpa using he, hbb, hb⟩)
  have htake : ∀ i, i < h → (ops.take h)[i]? = ops[i]? := fun i hi => by rw [List.getElem?_take, if_pos hi]
  have hlen := Obs.len hob
  have hlt : (ops.take h).length = h := by simp; omega
  -- all of the head has run
  have toB : ∀ listed a w, InvF N ds ops w0 h sp a0 listed a w → (∀ i, i < h → isL listed i) → wpListIn (wf ro) 0 P ops.toArray Q (ops.drop h) a w := by
    intro listed a w hI hl
    have hmem : ∀ o ∈ ops.take h, ∃ i, i < h ∧ ops[i]? = some o := by
      intro o ho
      obtain ⟨i, hi⟩ := List.mem_iff_getElem?.1 ho
      have hi' : i < h := by
        rcases Nat.lt_or_ge i h with hh | hh
        · exact hh
        · rw [List.getElem?_eq_none (by omega)] at hi; cases hi
      exact ⟨i, hi', by rw [← htake i hi']; exact hi⟩
    have hsome : ∀ o ∈ ops.take h, dOk N o.dst = true ∧ o.dst.isSome = true := by
      intro o ho
      obtain ⟨i, hi, ho⟩ := hmem o ho
      have := hop i o hi ho
      simp only [okOp, Bool.and_eq_true] at this
      exact ⟨this.1.1.1.1.1, this.1.1.1.1.2⟩
    obtain ⟨σ', hag, hk⟩ := finQ_use (N := N) (ds := ds) (ops.take h) sp σ0 a hlen (hfin w hI.ext) (fun o ho => (hsome o ho).1)
      (fun i o s t h1 h2 h3 => by
        have hi' : i < h := by
          rcases Nat.lt_or_ge i h with hh | hh
          · exact hh
          · rw [List.getElem?_eq_none (by omega)] at h1; cases h1
        exact hI.vals i o s t hi' (by rw [← htake i hi']; exact h1) h2 (hl i hi') h3)
      (fun t v hv hno => by
        rw [hI.old t (fun i o hi ho _ => hno o (List.mem_iff_getElem?.2 ⟨i, by rw [htake i hi]; exact ho⟩))]
        exact ha0.slot t v hv)
      (nodupB_spec hnd) hI.size hI.defs
      (fun i o s h1 h2 h3 => by
        have := (hsome o (List.mem_iff_getElem?.2 ⟨i, h1⟩)).2
        rw [h3] at this; cases this)
    refine hk (fun t t' v v' htt ⟨o, ho, hoa, hod⟩ ⟨o', ho', hoa', hod'⟩ hv hv' => ?_) a hag
    obtain ⟨i, hi, hio⟩ := hmem o ho
    obtain ⟨j, hj, hjo⟩ := hmem o' ho'
    have hij : i ≠ j := by
      intro e; subst e; rw [hio] at hjo; cases hjo; rw [hod] at hod'; cases hod'; exact htt rfl
    have := hI.dis i j o o' t t' hi hj hij hio hjo (hl i hi) (hl j hj) hoa hoa' hod hod'
    rw [hag.slot t v hv, hag.slot t' v' hv'] at this
    exact this
  -- where nothing is ready all has run
  have allL : ∀ listed : Array Bool, listed.size = ops.length → Region.ready .any ops.toArray listed = [] → ∀ i, i < ops.length → isL listed i := by
    intro listed hsz hr i
    induction i using Nat.strongRecOn with
    | _ i ih =>
      intro hi
      by_cases hh : isL listed i
      · exact hh
      · have : i ∈ Region.ready .any ops.toArray listed := by
          refine mem_ready.2 ⟨by simpa using hi, (getD_of_isL (by omega)).2 hh, fun o ho j hj => ?_⟩
          have := hback' i o (by simpa using ho) j hj
          exact ih j this (by omega)
        rw [hr] at this; cases this
  have done : ∀ listed a w, (∀ i, i < ops.length → isL listed i) → (InvF N ds ops w0 h sp a0 listed a w ∨ ∃ p, h ≤ p ∧ p ≤ ops.length ∧ (∀ j, j < p → isL listed j) ∧ (∀ j, p ≤ j → ¬ isL listed j) ∧ wpListIn (wf ro) 0 P ops.toArray Q (ops.drop p) a w) → Q .normal a w := by
    intro listed a w hl hJ
    rcases hJ with hI | ⟨p, hp, hpn, _, hno, hwp⟩
    · have hn : ops.length ≤ h := Nat.le_of_not_lt fun hh => hI.head h (Nat.le_refl _) (hl h hh)
      have := toB listed a w hI (fun i hi => hl i (by omega))
      rw [List.drop_of_length_le hn] at this
      exact this
    · have hn : ops.length ≤ p := Nat.le_of_not_lt fun hh => hno p (Nat.le_refl _) (hl p hh)
      rw [List.drop_of_length_le hn] at hwp
      exact hwp
  intro fuel
  induction fuel with
  | zero =>
    intro listed a w hsz hc hJ
    have hl : ∀ i, i < ops.length → isL listed i := by
      intro i hi
      have := cnt_zero listed ops.length (by omega) i hi
      by_cases hh : isL listed i
      · exact hh
      · have := (getD_of_isL (by omega : i < listed.size)).2 hh
        simp_all
    refine ⟨?_, done listed a w hl hJ⟩
    refine List.eq_nil_iff_forall_not_mem.2 fun i hi => ?_
    obtain ⟨h1, h2, _⟩ := mem_ready.1 hi
    have h1' : i < ops.length := by simpa using h1
    exact (getD_of_isL (by omega)).1 h2 (hl i h1')
  | succ fuel ih =>
    intro listed a w hsz hc hJ
    refine ⟨fun hr => done listed a w (allL listed hsz hr) hJ, fun i hi => ?_⟩
    obtain ⟨hin, hun, hed⟩ := mem_ready.1 hi
    have hin' : i < ops.length := by simpa using hin
    have hunl : ¬ isL listed i := (getD_of_isL (by omega)).1 hun
    obtain ⟨o, ho⟩ : ∃ o, ops[i]? = some o := ⟨_, List.getElem?_eq_getElem hin'⟩
    have hed' : ∀ j, edgeTo o j = true → isL listed j := hed o (by simpa using ho)
    have hsz' : (listed.setIfInBounds i true).size = ops.length := by simpa using hsz
    have hcnt : cnt (listed.setIfInBounds i true) ops.length ≤ fuel := by
      have := cnt_set_lt listed i hun ops.length hin'
      omega
    -- the tail's next
    have tailStep : h ≤ i → (∀ j, j < i → isL listed j) → (∀ j, i ≤ j → ¬ isL listed j) → wpListIn (wf ro) 0 P ops.toArray Q (ops.drop i) a w →
        wpOpIn (wf ro) 0 P ops.toArray Q i (wpAnyIn (wf ro) 0 P .any ops.toArray Q fuel (listed.setIfInBounds i true)) a w := by
      intro hhi hlow hhigh hwp
      have hd : ops.drop i = o :: ops.drop (i + 1) := by
        rw [List.drop_eq_getElem_cons hin']
        congr 1
        have := List.getElem?_eq_getElem hin'
        rw [ho] at this; exact (Option.some.inj this).symm
      rw [hd] at hwp
      have hw2 : wpOpIn (wf ro) 0 P ops.toArray Q i (wpListIn (wf ro) 0 P ops.toArray Q (ops.drop (i + 1))) a w := by
        unfold wpOpIn
        simp only [List.getElem?_toArray, ho]
        simpa only [wpListIn] using hwp
      refine wpOpIn_mono (fun a' w' hw' => ih _ a' w' hsz' hcnt (.inr ⟨i + 1, by omega, by omega, fun j hj => ?_, fun j hj => ?_, hw'⟩)) hw2
      · rw [isL_set (by omega)]
        by_cases e : i = j
        · exact .inl e
        · exact .inr (hlow j (by omega))
      · rw [isL_set (by omega)]
        rintro (e | e)
        · omega
        · exact hhigh j (by omega) e
    rcases hJ with hI | ⟨p, hp, hpn, hlow, hhigh, hwp⟩
    · rcases Nat.lt_or_ge i h with hih | hih
      · -- an operation of the head
        have hok := hop i o hih ho
        simp only [okOp, Bool.and_eq_true, List.all_eq_true] at hok
        obtain ⟨⟨⟨⟨⟨hdk, hds⟩, hgd⟩, hndf⟩, hdep⟩, hrd⟩ := hok
        obtain ⟨s, d, hs, hd, hq⟩ := Obs.at_ hob i o (by rw [htake i hih]; exact ho)
        have hdd : deps.getD i [] = d := by simp [hd]
        rw [hdd] at hdep hrd hgd
        obtain ⟨t0, ht0⟩ := Option.isSome_iff_exists.1 hds
        obtain ⟨σ', hG, hσ'⟩ := depQ_use (val := fun t => a.tmps.getD t undef) d σ0 (hq w hI.ext) (fun p hp => by
          have h1 := hdep p hp
          obtain ⟨h2, h3⟩ := h1
          split at h3
          · rename_i oj hoj
            have hlj := hed' _ h2
            have hjh : p.2 < h := Nat.lt_of_not_le fun hh => hI.head _ hh hlj
            obtain ⟨s', hs'⟩ : ∃ s', sp[p.2]? = some s' := ⟨_, List.getElem?_eq_getElem (by omega)⟩
            exact ⟨s', hs', hI.vals p.2 oj s' p.1 hjh (by rw [← htake _ hjh]; exact hoj) hs' hlj (by simpa using h3)⟩
          · cases h3)
        have hopnd : ∀ x v, x ∈ o.op.operands → ev σ' x = some v → a.eval x = v := by
          intro x v hx hv
          cases x with
          | const u => simpa [Kx.ev, Act.eval] using hv
          | global g => simpa [Kx.ev, Act.eval] using hv
          | func f => simpa [Kx.ev, Act.eval] using hv
          | tmp t =>
            rcases hσ' t v hv with e | ⟨hv0, hnd'⟩
            · exact e.symm
            · have hmem : t ∈ tmpsOf o := by
                unfold tmpsOf
                rw [List.mem_filterMap]
                exact ⟨.tmp t, by simpa using hx, rfl⟩
              have hc := hrd t hmem
              simp only [Bool.or_eq_true] at hc
              rcases hc with hc | hc
              · obtain ⟨p, hp, hpt⟩ := List.any_eq_true.1 hc
                exact absurd (by simpa using hpt) (hnd' p hp)
              · show a.tmps.getD t undef = v
                rw [hI.old t (fun i' o' hi' ho' hl' hdst => ?_), ha0.slot t v hv0]
                have := List.all_eq_true.1 hc (o', i') (by rw [List.mem_zipIdx_iff_getElem?, htake i' hi']; exact ho')
                simp only [Bool.or_eq_true] at this
                rcases this with (h1 | h1) | h1
                · simp [hdst] at h1
                · have : i' = i := by simpa using h1
                  subst this; exact hunl hl'
                · exact hunl (hI.shut i' o' ho' hl' i h1)
        -- what the frame is behind it
        have next : ∀ v w', Ext w w' → Sp.ok s v w' → (isAl o = true → ∃ b, v = .pointer (some ⟨b, 0, none⟩) ∧ w.heap.size ≤ b ∧ b < w'.heap.size) → wpAnyIn (wf ro) 0 P .any ops.toArray Q fuel (listed.setIfInBounds i true) (a.put o.dst v) w' := by
          intro v w' he hv hfr
          have htN : t0 < N := by simpa [ht0, dOk, Nat.blt_eq] using hdk
          have hself : (a.put o.dst v).tmps.getD t0 undef = v := by simp [ht0, Act.put, hI.size, htN]
          have hinj : ∀ (j : Nat) (oj : Oper) (t : Tmp), i ≠ j → j < h → ops[j]? = some oj → oj.dst = some t → (a.put o.dst v).tmps.getD t undef = a.tmps.getD t undef := by
            intro j oj t e hj hoj hdj
            have hne : t0 ≠ t := by
              intro e2
              subst e2
              exact e (dst_inj (nodupB_spec hnd) (by rw [htake i hih]; exact ho) (by rw [htake j hj]; exact hoj) ht0 hdj)
            simp [ht0, Act.put, Array.getElem?_setIfInBounds_ne hne]
          refine ih _ _ _ hsz' hcnt (.inl ⟨by simpa [ht0, Act.put] using hI.size, by simpa [ht0, Act.put] using hI.defs, hI.ext.trans he, ?_, ?_, ?_, ?_, ?_, ?_⟩)
          · intro j oj sj t hj hoj hsj hlj hdj
            rw [isL_set (by omega)] at hlj
            have htN : t0 < N := by simpa [ht0, dOk, Nat.blt_eq] using hdk
            by_cases e : i = j
            · subst e
              rw [ho] at hoj; cases hoj
              rw [hs] at hsj; cases hsj
              rw [ht0] at hdj; cases hdj
              have : (a.put o.dst v).tmps.getD t0 undef = v := by simp [ht0, Act.put, hI.size, htN]
              rw [this]; exact hv
            · have hlj' := hlj.resolve_left e
              have hne : t0 ≠ t := by
                intro e2
                subst e2
                have hnd2 := nodupB_spec hnd
                have : ∀ (l : List Oper) (x y : Nat) (ox oy : Oper), (dsts l).Nodup → l[x]? = some ox → l[y]? = some oy → ox.dst = some t0 → oy.dst = some t0 → x = y := by
                  intro l
                  induction l with
                  | nil => intro x y ox oy _ hx; simp at hx
                  | cons c l ihl =>
                    intro x y ox oy hn hx hy dx dy
                    have hin : ∀ (z : Nat) (oz : Oper), l[z]? = some oz → oz.dst = some t0 → t0 ∈ dsts l := fun z oz hz dz => List.mem_filterMap.2 ⟨oz, List.mem_iff_getElem?.2 ⟨z, hz⟩, dz⟩
                    have hcons : ∀ oc : Oper, oc = c → oc.dst = some t0 → t0 ∉ dsts l ∧ (dsts l).Nodup := by
                      rintro oc rfl hc
                      have : (t0 :: dsts l).Nodup := by simpa [dsts, hc] using hn
                      exact List.nodup_cons.1 this
                    cases x with
                    | zero =>
                      simp at hx
                      cases y with
                      | zero => rfl
                      | succ y => exact absurd (hin y oy (by simpa using hy) dy) (hcons ox hx.symm dx).1
                    | succ x =>
                      cases y with
                      | zero => simp at hy; exact absurd (hin x ox (by simpa using hx) dx) (hcons oy hy.symm dy).1
                      | succ y =>
                        have hn' : (dsts l).Nodup := by
                          cases hc : c.dst with
                          | none => simpa [dsts, hc] using hn
                          | some u => have : (u :: dsts l).Nodup := by simpa [dsts, hc] using hn
                                      exact (List.nodup_cons.1 this).2
                        exact congrArg (· + 1) (ihl x y ox oy hn' (by simpa using hx) (by simpa using hy) dx dy)
                exact e (this (ops.take h) i j o oj hnd2 (by rw [htake i hih]; exact ho) (by rw [htake j hj]; exact hoj) ht0 hdj)
              have : (a.put o.dst v).tmps.getD t undef = a.tmps.getD t undef := by simp [ht0, Act.put, Array.getElem?_setIfInBounds_ne hne]
              rw [this]
              exact Sp.ok_ext (hI.vals j oj sj t hj hoj hsj hlj' hdj) he
          · intro t hno
            have hne : t0 ≠ t := fun e => hno i o hih ho ((isL_set (by omega)).2 (.inl rfl)) (e ▸ ht0)
            have : (a.put o.dst v).tmps.getD t undef = a.tmps.getD t undef := by simp [ht0, Act.put, Array.getElem?_setIfInBounds_ne hne]
            rw [this]
            exact hI.old t fun j oj hj hoj hlj => hno j oj hj hoj ((isL_set (by omega)).2 (.inr hlj))
          · intro j oj hoj hlj k hk
            rw [isL_set (by omega)] at hlj ⊢
            by_cases e : i = j
            · subst e
              rw [ho] at hoj; cases hoj
              exact .inr (hed' k hk)
            · exact .inr (hI.shut j oj hoj (hlj.resolve_left e) k hk)
          · intro j hj
            rw [isL_set (by omega)]
            rintro (e | e)
            · omega
            · exact hI.head j hj e
          · intro x y ox oy t t' hx hy hxy hox hoy hlx hly hax hay htx hty
            rw [isL_set (by omega)] at hlx hly
            by_cases ex : i = x
            · subst ex
              rw [ho] at hox; cases hox
              rw [ht0] at htx; cases htx
              obtain ⟨b, hb, hb1, hb2⟩ := hfr hax
              rw [hself, hinj y oy t' hxy hy hoy hty]
              obtain ⟨b', hb', hlt'⟩ := hI.low y oy t' hy hoy (hly.resolve_left hxy) hay hty
              rw [hb, hb']
              intro hh; injection hh with hh; injection hh with hh; injection hh with hh; omega
            · by_cases ey : i = y
              · subst ey
                rw [ho] at hoy; cases hoy
                rw [ht0] at hty; cases hty
                obtain ⟨b, hb, hb1, hb2⟩ := hfr hay
                rw [hself, hinj x ox t ex hx hox htx]
                obtain ⟨b', hb', hlt'⟩ := hI.low x ox t hx hox (hlx.resolve_left ex) hax htx
                rw [hb, hb']
                intro hh; injection hh with hh; injection hh with hh; injection hh with hh; omega
              · rw [hinj x ox t ex hx hox htx, hinj y oy t' ey hy hoy hty]
                exact hI.dis x y ox oy t t' hx hy hxy hox hoy (hlx.resolve_left ex) (hly.resolve_left ey) hax hay htx hty
          · intro x ox t hx hox hlx hax htx
            rw [isL_set (by omega)] at hlx
            by_cases ex : i = x
            · subst ex
              rw [ho] at hox; cases hox
              rw [ht0] at htx; cases htx
              obtain ⟨b, hb, hb1, hb2⟩ := hfr hax
              exact ⟨b, by rw [hself]; exact hb, hb2⟩
            · obtain ⟨b', hb', hlt'⟩ := hI.low x ox t hx hox (hlx.resolve_left ex) hax htx
              exact ⟨b', by rw [hinj x ox t ex hx hox htx]; exact hb', by have := he.size; omega⟩
        unfold wpOpIn
        simp only [List.getElem?_toArray, ho]
        -- run or passed over
        have hal' := hal.at_ i o s (by rw [htake i hih]; exact ho) hs
        by_cases hisa : isAl o = true
        · obtain ⟨ta, za, Ba, hopa, hga, hza, hsa, hBa⟩ := hal' hisa
          rw [if_pos (by simp [Region.wanted, hga])]
          subst hsa
          have hg : Gv P o σ' w (fun v w' => ∃ b, v = .pointer (some ⟨b, 0, none⟩) ∧ New w w' b ta za.cells) := by
            obtain ⟨d1, op1, ty1, pos1, af1, g1⟩ := o
            have hopa : op1 = .alloc ta := hopa
            subst hopa
            exact g_alloc hza
          refine hg.wp hopnd fun v w' hv => ?_
          obtain ⟨b, hb, hn⟩ := hv
          have h2 := hn.2.2.1
          have h3 := hn.2.2.2
          exact next v w' hn.1 (fun w'' e => ⟨b, hb, by have := hI.ext.size; omega, hn.2.1.ext e⟩) (fun _ => ⟨b, hb, by omega, by omega⟩)
        have run : Gv P o σ' w (fun v w' => Ext w w' ∧ Sp.ok s v w') → o.wpIn (wf ro) 0 P a w (wpAnyIn (wf ro) 0 P .any ops.toArray Q fuel (listed.setIfInBounds i true)) Q :=
          fun hg => hg.wp hopnd fun v w' hv => next v w' hv.1 hv.2 (fun h => absurd h hisa)
        cases hgu : o.guard with
        | none =>
          simp only [gOk, hgu] at hG
          rw [if_pos (by simp [Region.wanted, hgu])]
          exact run hG
        | some g =>
          obtain ⟨j, b⟩ := g
          simp only [hgu] at hgd
          obtain ⟨p, hp, hpj⟩ := List.any_eq_true.1 hgd
          have hpj' : p.2 = j := by simpa using hpj
          have h1 := hdep p hp
          obtain ⟨h2, h3⟩ := h1
          rw [hpj'] at h2 h3
          split at h3
          · rename_i oj hoj
            have hdst : oj.dst = some p.1 := by simpa using h3
            have hjh : j < h := by
              rcases Nat.lt_or_ge j h with hh | hh
              · exact hh
              · rw [List.getElem?_eq_none (by omega)] at hoj; cases hoj
            have hoj' : ops[j]? = some oj := by rw [← htake j hjh]; exact hoj
            simp only [gOk, hgu, hoj, Option.bind_some, hdst] at hG
            have hyv : ∀ v, look σ' p.1 = some v → a.tmps.getD p.1 undef = v := by
              intro v hv
              rcases hσ' p.1 v hv with e | ⟨_, hn⟩
              · exact e.symm
              · exact absurd rfl (hn p hp)
            have hpN : p.1 < a.tmps.size := by
              have := hop j oj hjh hoj'
              simp only [okOp, Bool.and_eq_true] at this
              have := this.1.1.1.1.1
              rw [hdst] at this
              rw [hI.size]; simpa [dOk, Nat.blt_eq] using this
            have hyd : ∀ v, look σ' p.1 = some v → yielded ops.toArray a.tmps j = match v with | .bool b => some b | _ => none := by
              intro v hv
              have e1 := hyv v hv
              have e2 : a.tmps[p.1]? = some v := by
                rw [Array.getElem?_eq_getElem hpN]
                simp [Array.getElem?_eq_getElem hpN] at e1
                exact congrArg some e1
              unfold yielded
              simp only [List.getElem?_toArray, hoj', Option.bind_some, hdst, e2]
              cases v <;> rfl
            have skip : (∃ v, look σ' p.1 = some v ∧ (match v with | .bool b => some b | _ => none) ≠ some b) → Sp.ok s undef w →
                (if Region.wanted o (yielded ops.toArray a.tmps) = true then o.wpIn (wf ro) 0 P a w (wpAnyIn (wf ro) 0 P .any ops.toArray Q fuel (listed.setIfInBounds i true)) Q
                  else (∀ f, o.about P w a.eval = some f → (wf ro).fn f) ∧ wpAnyIn (wf ro) 0 P .any ops.toArray Q fuel (listed.setIfInBounds i true) (a.put o.dst undef) w) := by
              rintro ⟨v, hv, hne⟩ hok
              rw [if_neg (by simp only [Region.wanted, hgu, hyd v hv]; simpa using hne)]
              exact ⟨fun _ _ => trivial, next undef w (Ext.refl w) hok (fun h => absurd h hisa)⟩
            split at hG
            · exact hG.elim
            · rename_i c hc
              cases hx : Bool.xor c b with
              | true =>
                rw [hx] at hG
                refine skip ⟨.bool c, hc, ?_⟩ hG
                intro e
                simp only [Option.some.injEq] at e
                subst e; simp at hx
              | false =>
                rw [hx] at hG
                have hcb : c = b := by cases c <;> cases b <;> simp_all
                rw [if_pos (by simp only [Region.wanted, hgu, hyd _ hc, hcb]; simp)]
                exact run hG
            · rename_i v hnb hv
              refine skip ⟨v, hv, ?_⟩ hG
              intro e
              cases v with
              | bool c => exact hnb c rfl
              | _ => cases e
          · cases h3
      · have hall' : ∀ j, j < i → isL listed j := fun j hj => htail listed hI.shut i o hih ho hed' j hj
        have e : i = h := by
          rcases Nat.lt_or_ge h i with hh | hh
          · exact absurd (hall' h hh) (hI.head h (Nat.le_refl _))
          · omega
        subst e
        exact tailStep (Nat.le_refl _) hall' hI.head (toB listed a w hI hall')
    · have hpi : p = i := by
        have h1 : p ≤ i := Nat.le_of_not_lt fun hh => hunl (hlow i hh)
        rcases Nat.lt_or_ge p i with hh | hh
        · exact absurd (htail listed (fun k ok hok hlk j hj => hlow j (by have := hback' k ok hok j hj; have : k < p := Nat.lt_of_not_le (fun h => hhigh k h hlk); omega)) i o (by omega) ho hed' p hh) (hhigh p (Nat.le_refl _))
        · omega
      subst hpi
      exact tailStep hp hlow hhigh hwp
end
/-- **a region that draws its order** -/
theorem WC.parF {Q : Pst} {id : Nat} (hm : P.follows .mixedOrders = true) (h : Nat) (sp : List Sp) (deps : List (List (Tmp × Nat))) (hchk : okPar ops N h deps = true)
  (hob : Obs P w0 σ0 (ops.take h) sp (ops.take h) sp deps) (hal : AlOk P w0 (ops.take h) sp)
  (hfin : ∀ w, Ext w0 w → finQ (fun σ w => Apart (ops.take h) σ → WL P ro N ds ops.toArray (fun σ w => Q .normal σ ds w) (ops.drop h) σ w) w (ops.take h) sp σ0) : WC P ro N Q (.region id ops.toArray true) σ0 ds w0 := by
 refine ⟨fun a ha => ?_⟩
 have main : (Code.region id ops.toArray true).wpIn (wf ro) 0 P (fun e a w => e = .normal ∧ ∃ σ', Agr N σ' ds a ∧ Q .normal σ' ds w) a w0 := by
  refine wpIn_region_draw fun t => ?_
  simp only [Region.schedule, hm, Bool.true_or, if_true]
  refine wpAnyIn_sound ops.toArray.size t _ a _ ?_
  have hfalse : ∀ i, ¬ isL (Array.replicate ops.toArray.size false) i := by
   intro i
   unfold isL
   by_cases hi : i < ops.length <;> simp [hi]
  refine parF_any hchk ha hob hal (fun w he => ?_) _ _ _ _ (by simp) (by simpa using cnt_le _ _) (.inl ⟨ha.size, ha.defs, (Below.refl _ w0).drew, fun i o s t _ _ _ hl => absurd hl (hfalse i), fun t _ => rfl, fun i o _ hl => absurd hl (hfalse i), fun i _ => hfalse i, fun i j oi oj t t' _ _ _ _ _ hl => absurd hl (hfalse i), fun i o t _ _ hl => absurd hl (hfalse i)⟩)
  have key : ∀ (os : List Oper) (ss : List Sp) (σ : Env), finQ (fun σ w => Apart (ops.take h) σ → WL P ro N ds ops.toArray (fun σ w => Q .normal σ ds w) (ops.drop h) σ w) w os ss σ →
    finQ (fun σ w => Apart (ops.take h) σ → ∀ a, Agr N σ ds a → wpListIn (wf ro) 0 P ops.toArray (fun e a w => e = .normal ∧ ∃ σ', Agr N σ' ds a ∧ Q .normal σ' ds w) (ops.drop h) a w) w os ss σ := by
   intro os
   induction os with
   | nil => intro ss σ hq; exact fun hA => WL.out (hq hA)
   | cons o os ih =>
    intro ss σ hq
    cases ss with
    | nil => exact fun hA => WL.out (hq hA)
    | cons s ss =>
     cases s with
     | inl v => exact ih ss _ hq
     | inr p => exact fun v hv => ih ss _ (hq v hv)
  exact key _ _ _ (hfin w he)
 refine wpIn_mono main ?_
 rintro e a' w' ⟨rfl, σ', hag, hk⟩
 exact ⟨σ', ds, hag, hk⟩
end
end Go.Kx

namespace Go.Proofs.YteghbhdniimjbaaGreat
open Go Go.Kx Go.RowKit
theorem E_ref02_one : Ent Tryz.prog 198 := ent_of Tryz.func198 (by kernel_rfl) rfl
theorem ref02_one_c {S : Nat → Prop} {w : World} (up : Up S w) : CR Tryz.prog 198 #[] w (eZ.at S (zc 1)) := by
 refine enter Tryz.func198 rfl Tryz.ntmps198 rfl ?_
 refine .seq (.region (.alloc rfl zero_Z fun w1 b1 n1 => .nil ?_))
 obtain ⟨e1, k1, hb1, hs1⟩ := n1
 have hS : ¬ Sx S w.heap.size w1.heap.size b1 := Sx.no (by omega) (by omega)
 have up1 : Up (Sx S w.heap.size w1.heap.size) w1 := Sx.up up (Nat.le_refl _) e1.size
 refine .seq (.region (.call _ rfl E_ref01_From rfl (ref01_From_c up1 (by decide) (by decide)) fun v2 w2 e2 h2 => ?_))
 refine .storeA (E := eZ) ty_Z rfl rfl (k1.ext e2) rfl rfl h2 hS fun w5 k5 u5 h5 => .nil (.ret ?_)
 exact .cell Tryz.results198 rfl ty_Z rfl rfl k5 h5 ⟨u5.below (e1.trans e2) (by omega), h5.out⟩
theorem E_ref02_den : Ent Tryz.prog 157 := ent_of Tryz.func157 (by kernel_rfl) rfl
theorem ref02_den_c {S : Nat → Prop} {w : World} {v : Value} {q : QV} {L : Nat} (up : Up S w) (h : eQ.R S w v q) (hl : qok L q) (hL : L ≤ 1000000000) : CR Tryz.prog 157 #[v] w (eZ.at S (zc (pd q))) := by
 obtain ⟨s, t, rfl, hn, hd⟩ := eQ_parts h
 refine enter Tryz.func157 rfl Tryz.ntmps157 rfl ?_
 refine .seq (.region (.box rfl rfl fun w1 b1 n1 => .alloc rfl zero_Z fun w2 b2 n2 => .nil ?_))
 obtain ⟨e1, k1, hb1, hs1⟩ := n1
 obtain ⟨e2, k2, hb2, hs2⟩ := n2
 have x2 := e1.trans e2
 have k1 := k1.ext e2
 have hS : ¬ Sx S w.heap.size w2.heap.size b2 := Sx.no (by omega) (by omega)
 have up2 : Up (Sx S w.heap.size w2.heap.size) w2 := Sx.up up (Nat.le_refl _) x2.size
 have hd2 := (ER.par eZ hd w2.heap.size).ext x2
 refine .seq (.seq (.region (.fa fld_Q1 rfl rfl (.ldN [.bool q.den.neg, t] ty_Z rfl rfl k1 two_off ?_))))
 refine .call _ rfl E_ref01_Sign rfl (ref01_Sign_c up2 hd2 (Nat.le_trans hl.2 hL)) fun v3 w3 e3 h3 => ?_
 subst h3
 have hp : zval q.den ≠ 0 → pd q = (val q.den.w : Nat) := by
  intro h0
  have := zval_natAbs q.den
  unfold pd; rw [if_neg h0]; split <;> omega
 by_cases h0 : zval q.den = 0
 ·refine .eqlT rfl rfl rfl (by rw [h0]; rfl) (.nil (.condT rfl (.seq (.region ?_))))
  refine .call _ rfl E_ref02_one rfl (ref02_one_c (up2.ext e3.size)) fun v4 w4 e4 h4 => ?_
  refine .storeA (E := eZ) ty_Z rfl rfl ((k2.ext e3).ext e4) rfl rfl h4 hS fun w5 k5 u5 h5 => .nil (.ret ?_)
  exact .cell Tryz.results157 rfl ty_Z rfl rfl k5 h5 ⟨u5.below ((x2.trans e3).trans e4) (by omega), by rw [show pd q = 1 by unfold pd; rw [if_pos h0]]; exact h5.out⟩
 ·refine .eqlF rfl rfl rfl (fun h => h0 (Int.sign_eq_zero_iff_zero.1 h)) (.nil (.condF rfl (.skip (.seq (.region (.fa fld_Q1 rfl rfl (.ldN [.bool q.den.neg, t] ty_Z rfl rfl (k1.ext e3) two_off ?_)))))))
  refine .call _ rfl E_ref01_Abs rfl (ref01_Abs_c (up2.ext e3.size) (ER.ext eZ hd2 e3) (Nat.le_trans hl.2 hL)) fun v4 w4 e4 h4 => ?_
  refine .storeA (E := eZ) ty_Z rfl rfl ((k2.ext e3).ext e4) rfl rfl h4 hS fun w5 k5 u5 h5 => .nil (.ret ?_)
  exact .cell Tryz.results157 rfl ty_Z rfl rfl k5 h5 ⟨u5.below ((x2.trans e3).trans e4) (by omega), by rw [hp h0]; exact h5.out⟩
theorem E_ref02_num : Ent Tryz.prog 156 := ent_of Tryz.func156 (by kernel_rfl) rfl
theorem ref02_num_c {S : Nat → Prop} {w : World} {v : Value} {q : QV} {L : Nat} (up : Up S w) (h : eQ.R S w v q) (hl : qok L q) (hL : L ≤ 1000000000) : CR Tryz.prog 156 #[v] w (eZ.at S (zc (pn q))) := by
 obtain ⟨s, t, rfl, hn, hd⟩ := eQ_parts h
 refine enter Tryz.func156 rfl Tryz.ntmps156 rfl ?_
 refine .seq (.region (.box rfl rfl fun w1 b1 n1 => .alloc rfl zero_Z fun w2 b2 n2 => .nil ?_))
 obtain ⟨e1, k1, hb1, hs1⟩ := n1
 obtain ⟨e2, k2, hb2, hs2⟩ := n2
 have x2 := e1.trans e2
 have k1 := k1.ext e2
 have hS : ¬ Sx S w.heap.size w2.heap.size b2 := Sx.no (by omega) (by omega)
 have up2 : Up (Sx S w.heap.size w2.heap.size) w2 := Sx.up up (Nat.le_refl _) x2.size
 have hd2 := (ER.par eZ hd w2.heap.size).ext x2
 have hn2 := (ER.par eZ hn w2.heap.size).ext x2
 refine .seq (.seq (.region (.fa fld_Q1 rfl rfl (.ldN [.bool q.den.neg, t] ty_Z rfl rfl k1 two_off ?_))))
 refine .call _ rfl E_ref01_Sign rfl (ref01_Sign_c up2 hd2 (Nat.le_trans hl.2 hL)) fun v3 w3 e3 h3 => ?_
 subst h3
 by_cases h0 : zval q.den < 0
 ·refine .lssT rfl rfl rfl (by rw [Int.sign_eq_neg_one_of_neg h0]; decide) (.nil (.condT rfl (.seq (.region (.fa fld_Q0 rfl rfl (.ldN [.bool q.num.neg, s] ty_Z rfl rfl (k1.ext e3) two_on ?_))))))
  refine .call _ rfl E_ref01_Neg rfl (ref01_Neg_c (up2.ext e3.size) (ER.ext eZ hn2 e3) (Nat.le_trans hl.1 hL)) fun v4 w4 e4 h4 => ?_
  refine .storeA (E := eZ) ty_Z rfl rfl ((k2.ext e3).ext e4) rfl rfl h4 hS fun w5 k5 u5 h5 => .nil (.ret ?_)
  exact .cell Tryz.results156 rfl ty_Z rfl rfl k5 h5 ⟨u5.below ((x2.trans e3).trans e4) (by omega), by rw [show pn q = -zval q.num by unfold pn; rw [if_pos h0]]; exact h5.out⟩
 ·refine .lssF rfl rfl rfl (fun h => h0 (Int.sign_neg_iff.1 h)) (.nil (.condF rfl (.skip (.seq (.region (.fa fld_Q0 rfl rfl (.ldN [.bool q.num.neg, s] ty_Z rfl rfl (k1.ext e3) two_on ?_)))))))
  refine .call _ rfl E_ref01_Least rfl (ref01_Least_c (up2.ext e3.size) (ER.ext eZ hn2 e3) (Nat.le_trans hl.1 (by omega))) fun v4 w4 e4 h4 => ?_
  refine .storeA (E := eZ) ty_Z rfl rfl ((k2.ext e3).ext e4) rfl rfl h4 hS fun w5 k5 u5 h5 => .nil (.ret ?_)
  exact .cell Tryz.results156 rfl ty_Z rfl rfl k5 h5 ⟨u5.below ((x2.trans e3).trans e4) (by omega), by rw [show pn q = zval q.num by unfold pn; rw [if_neg h0]]; exact h5.out⟩
theorem E_ref02_over : Ent Tryz.prog 155 := ent_of Tryz.func155 (by kernel_rfl) rfl
theorem ref02_over_c {S : Nat → Prop} {w : World} {va vb : Value} {a b : ZV} {L : Nat} (up : Up S w) (ha : eZ.R S w va a) (hb : eZ.R S w vb b) (hla : a.w.length ≤ L) (hlb : b.w.length ≤ L) (hL : L ≤ 1000000000) (hb0 : 0 < zval b) : CR Tryz.prog 155 #[va, vb] w (eQ.at S (qc (Rat.divInt (zval a) (zval b)))) := by
 have hda := eZ_dig ha
 have hdb := eZ_dig hb
 have hqc := qc_divInt (n := zval a) hb0
 have hga := zval_natAbs a
 have hgb := zval_natAbs b
 have hBp : 0 < val b.w := by omega
 have hla1 := zval_lt hda hla
 have hlb1 := zval_lt hdb hlb
 rw [hga] at hla1
 rw [hgb] at hlb1
 rw [hga, hgb] at hqc
 have hg1 : Nat.gcd (val a.w) (val b.w) ≤ val b.w := Nat.gcd_le_right _ hBp
 have hg0 : 0 < Nat.gcd (val a.w) (val b.w) := Nat.gcd_pos_of_pos_right _ hBp
 generalize hgg : Nat.gcd (val a.w) (val b.w) = g at *
 obtain ⟨s, rfl, hs⟩ := ha
 obtain ⟨t, rfl, ht⟩ := hb
 have ha : eZ.R S w (.agg #[.bool a.neg, s]) a := ⟨s, rfl, hs⟩
 have hb : eZ.R S w (.agg #[.bool b.neg, t]) b := ⟨t, rfl, ht⟩
 refine enter Tryz.func155 rfl Tryz.ntmps155 rfl ?_
 refine .seq (.region (.box rfl rfl fun w1 b2 n1 => .box rfl rfl fun w2 b3 n2 => .alloc rfl zero_Q fun w3 b4 n3 => .nil ?_))
 obtain ⟨e1, k2, hb2, hs1⟩ := n1
 obtain ⟨e2, k3, hb3, hs2⟩ := n2
 obtain ⟨e3, k4, hb4, hs3⟩ := n3
 have x3 := (e1.trans e2).trans e3
 have k2 := (k2.ext e2).ext e3
 have k3 := k3.ext e3
 have hS4 : ¬ Sx S w.heap.size w3.heap.size b4 := Sx.no (by omega) (by omega)
 have up3 : Up (Sx S w.heap.size w3.heap.size) w3 := Sx.up up (Nat.le_refl _) x3.size
 have ha3 := (ER.par eZ ha w3.heap.size).ext x3
 have hb3' := (ER.par eZ hb w3.heap.size).ext x3
 have hout : ∀ {W : World} {v : Value} {z : QV}, eQ.R (Sx S w.heap.size w3.heap.size) W v z → eQ.R S W v z := fun h => h.out
 generalize hT : Sx S w.heap.size w3.heap.size = T at *
 refine .seq (.region (.ldA ty_Z rfl rfl k2 rfl (.ldA ty_Z rfl rfl k3 rfl ?_)))
 refine .call _ rfl E_ref01_Gcd rfl (ref01_Gcd_c up3 ha3 hb3' (by omega) (by omega)) fun v4 w4 e4 h4 => ?_
 rw [hgg] at h4
 obtain ⟨s4, rfl, hs4⟩ := h4
 have h4 : eZ.R T w4 (.agg #[.bool (zc (g : Nat)).neg, s4]) (zc (g : Nat)) := ⟨s4, rfl, hs4⟩
 refine .alloc rfl zero_Z fun w5 b5 n5 => ?_
 obtain ⟨e5, k5, hb5, hs5⟩ := n5
 refine .storeA (E := eZ) ty_Z rfl rfl k5 rfl rfl (ER.ext eZ (ER.lt eZ h4) e5) (fun h => by have := h.2; omega) fun w6 k5 u6 _ => .nil ?_
 have e46 : Ext w4 w6 := u6.below e5 (by omega)
 have e36 := e4.trans e46
 have up6 := up3.ext e36.size
 have lg : (zc (g : Nat)).w.length ≤ 1000000000 := Nat.le_trans (zc_len (L := L) (by rw [Int.natAbs_natCast]; exact Nat.lt_of_le_of_lt hg1 hlb1)) hL
 have hgz : zval (zc ((g : Nat) : Int)) = (g : Int) := zval_zc _
 refine .seq (.region (.ldA ty_Z rfl rfl (k2.ext e36) rfl (.ldA ty_Z rfl rfl k5 rfl ?_)))
 refine .call _ rfl E_ref01_Div rfl (ref01_Div_c up6 (ER.ext eZ ha3 e36) (ER.ext eZ h4 e46) (by omega) lg (by rw [hgz]; omega)) fun v7 w7 e7 h7 => ?_
 obtain ⟨vq, vr, _, rfl, hq, hr, rfl⟩ := h7
 rw [hgz] at hq hr
 obtain ⟨sq, rfl, hsq⟩ := hq
 have hq : eZ.R T w7 (.agg #[.bool (zc (zval a / (g : Nat))).neg, sq]) (zc (zval a / (g : Nat))) := ⟨sq, rfl, hsq⟩
 refine .mv rfl rfl (.ext rfl rfl rfl (.ext rfl rfl rfl (.ext rfl rfl rfl (.alloc rfl zero_Z fun w8 b6 n8 => .alloc rfl zero_Z fun w9 b7 n9 => ?_))))
 obtain ⟨e8, k6, hb6, hs8⟩ := n8
 obtain ⟨e9, k7, hb7, hs9⟩ := n9
 have e79 := e8.trans e9
 refine .storeA (E := eZ) ty_Z rfl rfl (k6.ext e9) rfl rfl (ER.ext eZ (ER.lt eZ hq) e79) (fun h => by have := h.2; omega) fun w10 k6 u10 _ => ?_
 have e710 : Ext w7 w10 := u10.below e79 (by omega)
 refine .storeA (E := eZ) ty_Z rfl rfl (k7.upd u10 (by omega)) rfl rfl (ER.ext eZ (ER.lt eZ hr) e710) (fun h => by have := h.2; omega) fun w11 k7 u11 _ => .asg rfl rfl (.nil ?_)
 have e711 : Ext w7 w11 := u11.below e710 (by omega)
 have k6 := k6.upd u11 (by omega)
 have e611 := e7.trans e711
 have up11 := up6.ext e611.size
 have k5 := k5.ext e611
 have e311 := e36.trans e611
 refine .seq (.region (.ldA ty_Z rfl rfl (k3.ext e311) rfl (.ldA ty_Z rfl rfl k5 rfl ?_)))
 refine .call _ rfl E_ref01_Div rfl (ref01_Div_c up11 (ER.ext eZ hb3' e311) (ER.ext eZ (ER.ext eZ h4 e46) e611) (by omega) lg (by rw [hgz]; omega)) fun v12 w12 e12 h12 => ?_
 obtain ⟨vd, ve, _, rfl, hd, he, rfl⟩ := h12
 rw [hgz] at hd he
 obtain ⟨sd, rfl, hsd⟩ := hd
 have hd : eZ.R T w12 (.agg #[.bool (zc (zval b / (g : Nat))).neg, sd]) (zc (zval b / (g : Nat))) := ⟨sd, rfl, hsd⟩
 refine .mv rfl rfl (.ext rfl rfl rfl (.ext rfl rfl rfl (.ext rfl rfl rfl (.alloc rfl zero_Z fun w13 b9 n13 => .alloc rfl zero_Z fun w14 b10 n14 => ?_))))
 obtain ⟨e13, k9, hb9, hs13⟩ := n13
 obtain ⟨e14, k10, hb10, hs14⟩ := n14
 have e1214 := e13.trans e14
 refine .storeA (E := eZ) ty_Z rfl rfl (k9.ext e14) rfl rfl (ER.ext eZ (ER.lt eZ hd) e1214) (fun h => by have := h.2; omega) fun w15 k9 u15 _ => ?_
 have e1215 : Ext w12 w15 := u15.below e1214 (by omega)
 refine .storeA (E := eZ) ty_Z rfl rfl (k10.upd u15 (by omega)) rfl rfl (ER.ext eZ (ER.lt eZ he) e1215) (fun h => by have := h.2; omega) fun w16 k10 u16 _ => .asg rfl rfl (.nil ?_)
 have e1216 : Ext w12 w16 := u16.below e1215 (by omega)
 have k9 := k9.upd u16 (by omega)
 have e1116 := e12.trans e1216
 have k6 := k6.ext e1116
 have up16 := up11.ext e1116.size
 have hd := ER.ext eZ hd e1216
 have hq := ER.ext eZ hq (e711.trans e1116)
 have hdl : (zc (zval b / (g : Nat))).w.length ≤ 1000000000 := Nat.le_trans (zc_len (L := L) (Nat.lt_of_le_of_lt (Int.natAbs_ediv_le_natAbs _ _) (by rw [hgb]; exact hlb1))) hL
 have e316 := e311.trans e1116
 have k4 := k4.ext e316
 refine .seq (.seq ?_)
 refine .par follows 4 [.inl (.agg #[.bool (zc (zval b / (g : Nat))).neg, sd]), .inr (eZ.at T (zc 1)), .inl (.int .i64 (cmpI (zval (zc (zval b / (g : Nat)))) (zval (zc 1)))), .inl (.bool (cmpI (zval (zc (zval b / (g : Nat)))) (zval (zc 1)) == 0))] [[], [], [(29, 0), (30, 1)], [(31, 2)]] (by kernel_rfl) ⟨
  fun w e => (v_ldA ty_Z rfl (k9.ext e) rfl).ob, fun w e => (g_call _ E_ref02_one rfl (ref02_one_c (up16.ext e.size))).ob (st_at _ _ _),
  fun w e x hx => g_call _ E_ref01_Cmp rfl (ref01_Cmp_c (up16.ext e.size) (ER.ext eZ hd e) hx hdl (Nat.le_trans (zc_len (L := 1) (by decide)) (by omega))), fun w e => (v_eql rfl rfl).ob, trivial⟩ ?_
 intro w17 e17 x1 hx1
 rw [zval_zc, zval_zc]
 have k4 := k4.ext e17
 have k6 := k6.ext e17
 have k9 := k9.ext e17
 obtain ⟨sq', he1, hsq'⟩ := ER.ext eZ hq e17
 obtain ⟨sd', he2, hsd'⟩ := ER.ext eZ hd e17
 injection he1 with he1
 injection he2 with he2
 simp at he1 he2
 subst he1
 subst he2
 have hxx := x3.trans (e316.trans e17)
 by_cases h1 : zval b / (g : Nat) = 1
 ·rw [show (cmpI (zval b / (g : Nat)) 1 == 0) = true by rw [h1]; decide]
  rw [if_pos h1] at hqc
  have hfin : eQ.R T w17 (.agg #[.bool (zc (zval a / (g : Nat))).neg, sq, .bool false, .slice none 0 0]) (qc (Rat.divInt (zval a) (zval b))) := by
   rw [hqc]; exact ⟨sq, .slice none 0 0, rfl, hsq', RL.nil⟩
  refine .nil (.condT rfl (.seq (.region (.ldA ty_Z rfl rfl k6 rfl (.bld [(0, .agg #[.bool (zc (zval a / (g : Nat))).neg, sq])] rfl rfl bld_Q1 ?_)))))
  refine .storeA (E := eQ) ty_Q rfl rfl k4 rfl rfl hfin hS4 fun w18 k18 u18 h18 => .nil (.ret ?_)
  exact .cell Tryz.results155 rfl ty_Q rfl rfl k18 h18 ⟨u18.below hxx (by omega), hout h18⟩
 ·rw [show (cmpI (zval b / (g : Nat)) 1 == 0) = false by unfold cmpI; split <;> (try split) <;> first | rfl | omega]
  rw [if_neg h1] at hqc
  have hfin : eQ.R T w17 (.agg #[.bool (zc (zval a / (g : Nat))).neg, sq, .bool (zc (zval b / (g : Nat))).neg, sd]) (qc (Rat.divInt (zval a) (zval b))) := by
   rw [hqc]; exact ⟨sq, sd, rfl, hsq', hsd'⟩
  refine .nil (.condF rfl (.skip (.seq (.region (.ldA ty_Z rfl rfl k6 rfl (.ldA ty_Z rfl rfl k9 rfl (.bld [(0, .agg #[.bool (zc (zval a / (g : Nat))).neg, sq]), (1, .agg #[.bool (zc (zval b / (g : Nat))).neg, sd])] rfl rfl bld_Q2 ?_)))))))
  refine .storeA (E := eQ) ty_Q rfl rfl k4 rfl rfl hfin hS4 fun w18 k18 u18 h18 => .nil (.ret ?_)
  exact .cell Tryz.results155 rfl ty_Q rfl rfl k18 h18 ⟨u18.below hxx (by omega), hout h18⟩
end Go.Proofs.YteghbhdniimjbaaGreat

namespace Go.Kx
theorem pow_mulz {L m n : Nat} {x y : Int} (h1 : x.natAbs < L ^ m) (h2 : y.natAbs < L ^ n) : (x * y).natAbs < L ^ (m + n) := by
 rw [Int.natAbs_mul, Nat.pow_add]; exact Nat.mul_lt_mul'' h1 h2
theorem pow_addz {m : Nat} {x y : Int} (h1 : x.natAbs < 4294967296 ^ m) (h2 : y.natAbs < 4294967296 ^ m) : (x + y).natAbs < 4294967296 ^ (m + 1) := by
 have := Int.natAbs_add_le x y
 rw [Nat.pow_succ]; omega
end Go.Kx
namespace Go.Proofs.YteghbhdniimjbaaGreat
open Go Go.Kx Go.RowKit
theorem zl {n : Int} {L K : Nat} (h : n.natAbs < 4294967296 ^ L) (hL : L ≤ K) : (zc n).w.length ≤ K := Nat.le_trans (zc_len h) hL
theorem eQ_digs {S : Nat → Prop} {w : World} {v : Value} {q : QV} (h : eQ.R S w v q) : dig q.num.w ∧ dig q.den.w := by
 obtain ⟨s, t, _, h1, h2⟩ := h
 exact ⟨eW_lt h1, eW_lt h2⟩
theorem E_ref02_Least : Ent Tryz.prog 91 := ent_of Tryz.func91 (by kernel_rfl) rfl
theorem ref02_Least_c {S : Nat → Prop} {w : World} {v : Value} {q : QV} {L : Nat} (up : Up S w) (h : eQ.R S w v q) (hl : qok L q) (h1 : 1 ≤ L) (hL : L ≤ 1000000000) : CR Tryz.prog 91 #[v] w (eQ.at S (qc (qval q))) := by
 obtain ⟨hd1, hd2⟩ := eQ_digs h
 have hln := pn_lt hd1 hl
 have hld := pd_lt hd2 hl h1
 have hpp := pd_pos q
 obtain ⟨s, t, rfl, hs, ht⟩ := h
 have h : eQ.R S w (.agg #[.bool q.num.neg, s, .bool q.den.neg, t]) q := ⟨s, t, rfl, hs, ht⟩
 refine enter Tryz.func91 rfl Tryz.ntmps91 rfl ?_
 refine .seq (.region (.box rfl rfl fun w1 b1 n1 => .alloc rfl zero_Q fun w2 b2 n2 => .nil ?_))
 obtain ⟨e1, k1, hb1, hs1⟩ := n1
 obtain ⟨e2, k2, hb2, hs2⟩ := n2
 have x2 := e1.trans e2
 have k1 := k1.ext e2
 have hS : ¬ Sx S w.heap.size w2.heap.size b2 := Sx.no (by omega) (by omega)
 have up2 : Up (Sx S w.heap.size w2.heap.size) w2 := Sx.up up (Nat.le_refl _) x2.size
 have h2 := (ER.par eQ h w2.heap.size).ext x2
 have hout : ∀ {W : World} {v : Value} {z : QV}, eQ.R (Sx S w.heap.size w2.heap.size) W v z → eQ.R S W v z := fun h => h.out
 generalize hT : Sx S w.heap.size w2.heap.size = T at *
 refine .seq ?_
 refine .par follows 5 [.inl _, .inr (eZ.at T (zc (pn q))), .inl _, .inr (eZ.at T (zc (pd q))), .inr (eQ.at T (qc (Rat.divInt (zval (zc (pn q))) (zval (zc (pd q))))))] [[], [(3, 0)], [], [(5, 2)], [(4, 1), (6, 3)]] (by kernel_rfl) ⟨
  fun w e => (v_ldA ty_Q rfl (k1.ext e) rfl).ob, fun w e => (g_call _ E_ref02_num rfl (ref02_num_c (up2.ext e.size) (ER.ext eQ h2 e) hl hL)).ob (st_at _ _ _),
  fun w e => (v_ldA ty_Q rfl (k1.ext e) rfl).ob, fun w e => (g_call _ E_ref02_den rfl (ref02_den_c (up2.ext e.size) (ER.ext eQ h2 e) hl hL)).ob (st_at _ _ _),
  fun w e x hx y hy => (g_call _ E_ref02_over rfl (ref02_over_c (up2.ext e.size) hx hy (zl hln (Nat.le_refl _)) (zl hld (Nat.le_refl _)) hL (by rw [zval_zc]; exact hpp))).ob (st_at _ _ _), trivial⟩ ?_
 intro w3 e3 x hx y hy z hz
 rw [zval_zc, zval_zc] at hz
 refine .storeA (E := eQ) ty_Q rfl rfl (k2.ext e3) rfl rfl hz hS fun w4 k4 u4 h4 => .nil (.ret ?_)
 exact .cell Tryz.results91 rfl ty_Q rfl rfl k4 h4 ⟨u4.below (x2.trans e3) (by omega), hout h4⟩
theorem E_ref02_Neg : Ent Tryz.prog 232 := ent_of Tryz.func232 (by kernel_rfl) rfl
theorem ref02_Neg_c {S : Nat → Prop} {w : World} {v : Value} {q : QV} {L : Nat} (up : Up S w) (h : eQ.R S w v q) (hl : qok L q) (h1 : 1 ≤ L) (hL : L ≤ 1000000000) : CR Tryz.prog 232 #[v] w (eQ.at S (qc (-qval q))) := by
 obtain ⟨hd1, hd2⟩ := eQ_digs h
 have hln := pn_lt hd1 hl
 have hld := pd_lt hd2 hl h1
 have hpp := pd_pos q
 obtain ⟨s, t, rfl, hs, ht⟩ := h
 have h : eQ.R S w (.agg #[.bool q.num.neg, s, .bool q.den.neg, t]) q := ⟨s, t, rfl, hs, ht⟩
 refine enter Tryz.func232 rfl Tryz.ntmps232 rfl ?_
 refine .seq (.region (.box rfl rfl fun w1 b1 n1 => .alloc rfl zero_Q fun w2 b2 n2 => .nil ?_))
 obtain ⟨e1, k1, hb1, hs1⟩ := n1
 obtain ⟨e2, k2, hb2, hs2⟩ := n2
 have x2 := e1.trans e2
 have k1 := k1.ext e2
 have hS : ¬ Sx S w.heap.size w2.heap.size b2 := Sx.no (by omega) (by omega)
 have up2 : Up (Sx S w.heap.size w2.heap.size) w2 := Sx.up up (Nat.le_refl _) x2.size
 have h2 := (ER.par eQ h w2.heap.size).ext x2
 have hout : ∀ {W : World} {v : Value} {z : QV}, eQ.R (Sx S w.heap.size w2.heap.size) W v z → eQ.R S W v z := fun h => h.out
 generalize hT : Sx S w.heap.size w2.heap.size = T at *
 refine .seq ?_
 refine .par follows 6 [.inl _, .inr (eZ.at T (zc (pn q))), .inr (eZ.at T (zc (-zval (zc (pn q))))), .inl _, .inr (eZ.at T (zc (pd q))), .inr (eQ.at T (qc (Rat.divInt (zval (zc (-zval (zc (pn q))))) (zval (zc (pd q))))))] [[], [(3, 0)], [(4, 1)], [], [(6, 3)], [(5, 2), (7, 4)]] (by kernel_rfl) ⟨
  fun w e => (v_ldA ty_Q rfl (k1.ext e) rfl).ob, fun w e => (g_call _ E_ref02_num rfl (ref02_num_c (up2.ext e.size) (ER.ext eQ h2 e) hl hL)).ob (st_at _ _ _),
  fun w e x hx => (g_call _ E_ref01_Neg rfl (ref01_Neg_c (up2.ext e.size) hx (zl hln hL))).ob (st_at _ _ _),
  fun w e => (v_ldA ty_Q rfl (k1.ext e) rfl).ob, fun w e => (g_call _ E_ref02_den rfl (ref02_den_c (up2.ext e.size) (ER.ext eQ h2 e) hl hL)).ob (st_at _ _ _),
  fun w e x hx y hy => (g_call _ E_ref02_over rfl (ref02_over_c (up2.ext e.size) hx hy (zl (by rw [zval_zc, Int.natAbs_neg]; exact hln) (Nat.le_refl _)) (zl hld (Nat.le_refl _)) hL (by rw [zval_zc]; exact hpp))).ob (st_at _ _ _), trivial⟩ ?_
 intro w3 e3 x hx y hy z hz u hu
 rw [zval_zc, zval_zc, zval_zc, ← Rat.neg_divInt] at hu
 refine .storeA (E := eQ) ty_Q rfl rfl (k2.ext e3) rfl rfl hu hS fun w4 k4 u4 h4 => .nil (.ret ?_)
 exact .cell Tryz.results232 rfl ty_Q rfl rfl k4 h4 ⟨u4.below (x2.trans e3) (by omega), hout h4⟩
theorem E_ref02_Sign : Ent Tryz.prog 203 := ent_of Tryz.func203 (by kernel_rfl) rfl
theorem ref02_Sign_c {S : Nat → Prop} {w : World} {v : Value} {q : QV} {L : Nat} (up : Up S w) (h : eQ.R S w v q) (hl : qok L q) (hL : L ≤ 1000000000) : CR Tryz.prog 203 #[v] w (Is (.int .i64 (pn q).sign)) := by
 obtain ⟨hd1, hd2⟩ := eQ_digs h
 have hln := pn_lt hd1 hl
 obtain ⟨s, t, rfl, hs, ht⟩ := h
 have h : eQ.R S w (.agg #[.bool q.num.neg, s, .bool q.den.neg, t]) q := ⟨s, t, rfl, hs, ht⟩
 refine enter Tryz.func203 rfl Tryz.ntmps203 rfl ?_
 refine .seq (.region (.box rfl rfl fun w1 b1 n1 => .asg rfl rfl (.nil ?_)))
 obtain ⟨e1, k1, hb1, hs1⟩ := n1
 refine .seq (.region (.ldA ty_Q rfl rfl k1 rfl ?_))
 refine .call _ rfl E_ref02_num rfl (ref02_num_c (up.ext e1.size) (ER.ext eQ h e1) hl hL) fun v2 w2 e2 h2 => ?_
 refine .call _ rfl E_ref01_Sign rfl (ref01_Sign_c ((up.ext e1.size).ext e2.size) h2 (zl hln hL)) fun v3 w3 e3 h3 => ?_
 subst h3
 refine .asg rfl rfl (.nil (.ret ?_))
 exact .plain [_] Tryz.results203 ⟨rfl, trivial⟩ ⟨(e1.trans e2).trans e3, isI (by rw [zval_zc])⟩
theorem E_ref02_Mul : Ent Tryz.prog 206 := ent_of Tryz.func206 (by kernel_rfl) rfl
theorem ref02_Mul_c {S : Nat → Prop} {w : World} {va vb : Value} {a b : QV} {L : Nat} (up : Up S w) (ha : eQ.R S w va a) (hb : eQ.R S w vb b) (hla : qok L a) (hlb : qok L b) (h1 : 1 ≤ L) (hL : L ≤ 400000000) : CR Tryz.prog 206 #[va, vb] w (eQ.at S (qc (qval a * qval b))) := by
 obtain ⟨da1, da2⟩ := eQ_digs ha
 obtain ⟨db1, db2⟩ := eQ_digs hb
 have lna := pn_lt da1 hla
 have lda := pd_lt da2 hla h1
 have lnb := pn_lt db1 hlb
 have ldb := pd_lt db2 hlb h1
 have ppa := pd_pos a
 have ppb := pd_pos b
 have hpp := Int.mul_pos ppa ppb
 have hL9 : L ≤ 1000000000 := by omega
 obtain ⟨s, t, rfl, hs, ht⟩ := ha
 have ha : eQ.R S w (.agg #[.bool a.num.neg, s, .bool a.den.neg, t]) a := ⟨s, t, rfl, hs, ht⟩
 obtain ⟨s', t', rfl, hs', ht'⟩ := hb
 have hb : eQ.R S w (.agg #[.bool b.num.neg, s', .bool b.den.neg, t']) b := ⟨s', t', rfl, hs', ht'⟩
 refine enter Tryz.func206 rfl Tryz.ntmps206 rfl ?_
 refine .seq (.region (.box rfl rfl fun w1 b2 n1 => .box rfl rfl fun w2 b3 n2 => .alloc rfl zero_Q fun w3 b4 n3 => .nil ?_))
 obtain ⟨e1, k2, hb2, hs1⟩ := n1
 obtain ⟨e2, k3, hb3, hs2⟩ := n2
 obtain ⟨e3, k4, hb4, hs3⟩ := n3
 have x3 := (e1.trans e2).trans e3
 have k2 := (k2.ext e2).ext e3
 have k3 := k3.ext e3
 have hS4 : ¬ Sx S w.heap.size w3.heap.size b4 := Sx.no (by omega) (by omega)
 have up3 : Up (Sx S w.heap.size w3.heap.size) w3 := Sx.up up (Nat.le_refl _) x3.size
 have ha3 := (ER.par eQ ha w3.heap.size).ext x3
 have hb3' := (ER.par eQ hb w3.heap.size).ext x3
 have hout : ∀ {W : World} {v : Value} {z : QV}, eQ.R (Sx S w.heap.size w3.heap.size) W v z → eQ.R S W v z := fun h => h.out
 generalize hT : Sx S w.heap.size w3.heap.size = T at *
 refine .seq ?_
 refine .par follows 11 [.inl _, .inr (eZ.at T (zc (pn a))), .inl _, .inr (eZ.at T (zc (pn b))), .inr (eZ.at T (zc (zval (zc (pn a)) * zval (zc (pn b))))), .inl _, .inr (eZ.at T (zc (pd a))), .inl _, .inr (eZ.at T (zc (pd b))), .inr (eZ.at T (zc (zval (zc (pd a)) * zval (zc (pd b))))),
   .inr (eQ.at T (qc (Rat.divInt (zval (zc (zval (zc (pn a)) * zval (zc (pn b))))) (zval (zc (zval (zc (pd a)) * zval (zc (pd b))))))))]
   [[], [(5, 0)], [], [(7, 2)], [(6, 1), (8, 3)], [], [(10, 5)], [], [(12, 7)], [(11, 6), (13, 8)], [(9, 4), (14, 9)]] (by kernel_rfl) ⟨
  fun w e => (v_ldA ty_Q rfl (k2.ext e) rfl).ob, fun w e => (g_call _ E_ref02_num rfl (ref02_num_c (up3.ext e.size) (ER.ext eQ ha3 e) hla hL9)).ob (st_at _ _ _),
  fun w e => (v_ldA ty_Q rfl (k3.ext e) rfl).ob, fun w e => (g_call _ E_ref02_num rfl (ref02_num_c (up3.ext e.size) (ER.ext eQ hb3' e) hlb hL9)).ob (st_at _ _ _),
  fun w e x hx y hy => (g_call _ E_ref01_Mul rfl (ref01_Mul_c (up3.ext e.size) hx hy (zl lna hL9) (zl lnb hL9))).ob (st_at _ _ _),
  fun w e => (v_ldA ty_Q rfl (k2.ext e) rfl).ob, fun w e => (g_call _ E_ref02_den rfl (ref02_den_c (up3.ext e.size) (ER.ext eQ ha3 e) hla hL9)).ob (st_at _ _ _),
  fun w e => (v_ldA ty_Q rfl (k3.ext e) rfl).ob, fun w e => (g_call _ E_ref02_den rfl (ref02_den_c (up3.ext e.size) (ER.ext eQ hb3' e) hlb hL9)).ob (st_at _ _ _),
  fun w e x hx y hy => (g_call _ E_ref01_Mul rfl (ref01_Mul_c (up3.ext e.size) hx hy (zl lda hL9) (zl ldb hL9))).ob (st_at _ _ _),
  fun w e x hx y hy => (g_call _ E_ref02_over rfl (ref02_over_c (up3.ext e.size) hx hy (zl (by rw [zval_zc, zval_zc]; exact pow_mulz lna lnb) (Nat.le_refl _)) (zl (by rw [zval_zc, zval_zc]; exact pow_mulz lda ldb) (Nat.le_refl _)) (by omega) (by rw [zval_zc, zval_zc, zval_zc]; exact hpp))).ob (st_at _ _ _), trivial⟩ ?_
 intro w4 e4 x1 _ x2 _ x3' _ x4 _ x5 _ x6 _ z hz
 rw [zval_zc, zval_zc, zval_zc, zval_zc, zval_zc, zval_zc, ← Rat.divInt_mul_divInt] at hz
 refine .storeA (E := eQ) ty_Q rfl rfl (k4.ext e4) rfl rfl hz hS4 fun w5 k5 u5 h5 => .nil (.ret ?_)
 exact .cell Tryz.results206 rfl ty_Q rfl rfl k5 h5 ⟨u5.below (x3.trans e4) (by omega), hout h5⟩
theorem E_ref02_Add : Ent Tryz.prog 205 := ent_of Tryz.func205 (by kernel_rfl) rfl
theorem ref02_Add_c {S : Nat → Prop} {w : World} {va vb : Value} {a b : QV} {L : Nat} (up : Up S w) (ha : eQ.R S w va a) (hb : eQ.R S w vb b) (hla : qok L a) (hlb : qok L b) (h1 : 1 ≤ L) (hL : L ≤ 400000000) : CR Tryz.prog 205 #[va, vb] w (eQ.at S (qc (qval a + qval b))) := by
 obtain ⟨da1, da2⟩ := eQ_digs ha
 obtain ⟨db1, db2⟩ := eQ_digs hb
 have lna := pn_lt da1 hla
 have lda := pd_lt da2 hla h1
 have lnb := pn_lt db1 hlb
 have ldb := pd_lt db2 hlb h1
 have ppa := pd_pos a
 have ppb := pd_pos b
 have hpp := Int.mul_pos ppa ppb
 have hL9 : L ≤ 1000000000 := by omega
 obtain ⟨s, t, rfl, hs, ht⟩ := ha
 have ha : eQ.R S w (.agg #[.bool a.num.neg, s, .bool a.den.neg, t]) a := ⟨s, t, rfl, hs, ht⟩
 obtain ⟨s', t', rfl, hs', ht'⟩ := hb
 have hb : eQ.R S w (.agg #[.bool b.num.neg, s', .bool b.den.neg, t']) b := ⟨s', t', rfl, hs', ht'⟩
 refine enter Tryz.func205 rfl Tryz.ntmps205 rfl ?_
 refine .seq (.region (.box rfl rfl fun w1 b2 n1 => .box rfl rfl fun w2 b3 n2 => .alloc rfl zero_Q fun w3 b4 n3 => .nil ?_))
 obtain ⟨e1, k2, hb2, hs1⟩ := n1
 obtain ⟨e2, k3, hb3, hs2⟩ := n2
 obtain ⟨e3, k4, hb4, hs3⟩ := n3
 have x3 := (e1.trans e2).trans e3
 have k2 := (k2.ext e2).ext e3
 have k3 := k3.ext e3
 have hS4 : ¬ Sx S w.heap.size w3.heap.size b4 := Sx.no (by omega) (by omega)
 have up3 : Up (Sx S w.heap.size w3.heap.size) w3 := Sx.up up (Nat.le_refl _) x3.size
 have ha3 := (ER.par eQ ha w3.heap.size).ext x3
 have hb3' := (ER.par eQ hb w3.heap.size).ext x3
 have hout : ∀ {W : World} {v : Value} {z : QV}, eQ.R (Sx S w.heap.size w3.heap.size) W v z → eQ.R S W v z := fun h => h.out
 generalize hT : Sx S w.heap.size w3.heap.size = T at *
 refine .seq ?_
 refine .parF follows 12 [.inl _, .inr (eZ.at T (zc (pn a))), .inl _, .inr (eZ.at T (zc (pd b))), .inr (eZ.at T (zc (zval (zc (pn a)) * zval (zc (pd b))))), .inl _, .inr (eZ.at T (zc (pn b))), .inl _, .inr (eZ.at T (zc (pd a))), .inr (eZ.at T (zc (zval (zc (pn b)) * zval (zc (pd a))))),
   .inr (NewP w3.heap.size 30 #[.bool false, .slice none 0 0]), .inr (NewP w3.heap.size 30 #[.bool false, .slice none 0 0])]
   [[], [(7, 0)], [], [(9, 2)], [(8, 1), (10, 3)], [], [(12, 5)], [], [(14, 7)], [(13, 6), (15, 8)], [], []] (by kernel_rfl) ⟨
  fun w e => (v_ldA ty_Q rfl (k2.ext e) rfl).ob, fun w e => (g_call _ E_ref02_num rfl (ref02_num_c (up3.ext e.size) (ER.ext eQ ha3 e) hla hL9)).ob (st_at _ _ _),
  fun w e => (v_ldA ty_Q rfl (k3.ext e) rfl).ob, fun w e => (g_call _ E_ref02_den rfl (ref02_den_c (up3.ext e.size) (ER.ext eQ hb3' e) hlb hL9)).ob (st_at _ _ _),
  fun w e x hx y hy => (g_call _ E_ref01_Mul rfl (ref01_Mul_c (up3.ext e.size) hx hy (zl lna hL9) (zl ldb hL9))).ob (st_at _ _ _),
  fun w e => (v_ldA ty_Q rfl (k3.ext e) rfl).ob, fun w e => (g_call _ E_ref02_num rfl (ref02_num_c (up3.ext e.size) (ER.ext eQ hb3' e) hlb hL9)).ob (st_at _ _ _),
  fun w e => (v_ldA ty_Q rfl (k2.ext e) rfl).ob, fun w e => (g_call _ E_ref02_den rfl (ref02_den_c (up3.ext e.size) (ER.ext eQ ha3 e) hla hL9)).ob (st_at _ _ _),
  fun w e x hx y hy => (g_call _ E_ref01_Mul rfl (ref01_Mul_c (up3.ext e.size) hx hy (zl lnb hL9) (zl lda hL9))).ob (st_at _ _ _),
  fun w e => ob_alloc zero_Z e.size, fun w e => ob_alloc zero_Z e.size, trivial⟩
  ⟨fun h => (by cases h), fun h => (by cases h), fun h => (by cases h), fun h => (by cases h), fun h => (by cases h), fun h => (by cases h), fun h => (by cases h), fun h => (by cases h), fun h => (by cases h), fun h => (by cases h),
   fun _ => ⟨_, _, _, rfl, rfl, zero_Z, rfl, Nat.le_refl _⟩, fun _ => ⟨_, _, _, rfl, rfl, zero_Z, rfl, Nat.le_refl _⟩, trivial⟩ ?_
 rintro w4 e4 x1 - x2 - v11 h11 x4 - x5 - v16 h16 _ ⟨b5, rfl, hb5, k5⟩ _ ⟨b6, rfl, hb6, k6⟩ hA
 have hne : b6 ≠ b5 := by
  intro e
  subst e
  exact hA 5 6 _ _ (by decide) ⟨_, List.mem_of_getElem? (i := 10) rfl, rfl, rfl⟩ ⟨_, List.mem_of_getElem? (i := 11) rfl, rfl, rfl⟩ rfl rfl rfl
 rw [zval_zc, zval_zc] at h11 h16
 have h16' := eZ_sep (eZ_sep h16 k5 zero_sep) k6 zero_sep
 have h11' := eZ_sep (eZ_sep h11 k5 zero_sep) k6 zero_sep
 refine .storeA (E := eZ) ty_Z rfl rfl k5 rfl rfl h11' (fun h => h.1.2 rfl) fun w5 k5 u5 h11 => ?_
 refine .storeA (E := eZ) ty_Z rfl rfl (k6.upd u5 hne) rfl rfl (ER.upd eZ h16' u5 (fun h => h.1.2 rfl)) (fun h => h.2 rfl) fun w6 k6 u6 h16 => .nil ?_
 have h11 := ER.upd eZ h11 u6 (fun h => h.2 rfl)
 have k5 := k5.upd u6 (Ne.symm hne)
 have e36 : Ext w3 w6 := u6.below (u5.below e4 hb5) hb6
 have x6 := x3.trans e36
 have k2 := k2.ext e36
 have k3 := k3.ext e36
 have k4 := k4.ext e36
 have up6 := up3.ext e36.size
 have ha6 := ER.ext eQ ha3 e36
 have hb6' := ER.ext eQ hb3' e36
 have h11 : eZ.R T w6 v11 (zc (pn a * pd b)) := ER.mono eZ (fun _ _ h => h.1.1) h11
 have h16 : eZ.R T w6 v16 (zc (pn b * pd a)) := ER.mono eZ (fun _ _ h => h.1.1) h16
 obtain ⟨s11, rfl, hs11⟩ := h11
 have h11 : eZ.R T w6 (.agg #[.bool (zc (pn a * pd b)).neg, s11]) (zc (pn a * pd b)) := ⟨s11, rfl, hs11⟩
 obtain ⟨s16, rfl, hs16⟩ := h16
 have h16 : eZ.R T w6 (.agg #[.bool (zc (pn b * pd a)).neg, s16]) (zc (pn b * pd a)) := ⟨s16, rfl, hs16⟩
 refine .seq ?_
 have m1 := pow_mulz lna ldb
 have m2 := pow_mulz lnb lda
 have m3 := pow_mulz lda ldb
 have m4 := pow_addz m1 m2
 have m5 : 4294967296 ^ (L + L) ≤ 4294967296 ^ (L + L + 1) := Nat.pow_le_pow_right (by decide) (by omega)
 refine .par follows 9 [.inl (.agg #[.bool (zc (pn a * pd b)).neg, s11]), .inl (.agg #[.bool (zc (pn b * pd a)).neg, s16]), .inr (eZ.at T (zc (zval (zc (pn a * pd b)) + zval (zc (pn b * pd a))))), .inl _, .inr (eZ.at T (zc (pd a))), .inl _, .inr (eZ.at T (zc (pd b))), .inr (eZ.at T (zc (zval (zc (pd a)) * zval (zc (pd b))))),
   .inr (eQ.at T (qc (Rat.divInt (zval (zc (zval (zc (pn a * pd b)) + zval (zc (pn b * pd a))))) (zval (zc (zval (zc (pd a)) * zval (zc (pd b))))))))]
   [[], [], [(17, 0), (18, 1)], [], [(20, 3)], [], [(22, 5)], [(21, 4), (23, 6)], [(19, 2), (24, 7)]] (by kernel_rfl) ⟨
  fun w e => (v_ldA ty_Z rfl (k5.ext e) rfl).ob, fun w e => (v_ldA ty_Z rfl (k6.ext e) rfl).ob,
  fun w e => (g_call _ E_ref01_Add rfl (ref01_Add_c (up6.ext e.size) (ER.ext eZ h11 e) (ER.ext eZ h16 e) (zl m1 (by omega)) (zl m2 (by omega)))).ob (st_at _ _ _),
  fun w e => (v_ldA ty_Q rfl (k2.ext e) rfl).ob, fun w e => (g_call _ E_ref02_den rfl (ref02_den_c (up6.ext e.size) (ER.ext eQ ha6 e) hla hL9)).ob (st_at _ _ _),
  fun w e => (v_ldA ty_Q rfl (k3.ext e) rfl).ob, fun w e => (g_call _ E_ref02_den rfl (ref02_den_c (up6.ext e.size) (ER.ext eQ hb6' e) hlb hL9)).ob (st_at _ _ _),
  fun w e x hx y hy => (g_call _ E_ref01_Mul rfl (ref01_Mul_c (up6.ext e.size) hx hy (zl lda hL9) (zl ldb hL9))).ob (st_at _ _ _),
  fun w e x hx y hy => (g_call _ E_ref02_over rfl (ref02_over_c (L := L + L + 1) (up6.ext e.size) hx hy (zl (by rw [zval_zc, zval_zc]; exact m4) (Nat.le_refl _)) (zl (by rw [zval_zc, zval_zc]; exact m3) (by omega)) (by omega) (by rw [zval_zc, zval_zc, zval_zc]; exact hpp))).ob (st_at _ _ _), trivial⟩ ?_
 intro w7 e7 x1 _ x2 _ x3' _ x4 _ z hz
 rw [zval_zc, zval_zc, zval_zc, zval_zc, zval_zc, zval_zc, ← Rat.divInt_add_divInt _ _ (by omega) (by omega)] at hz
 refine .storeA (E := eQ) ty_Q rfl rfl (k4.ext e7) rfl rfl hz hS4 fun w8 k8 u8 h8 => .nil (.ret ?_)
 exact .cell Tryz.results205 rfl ty_Q rfl rfl k8 h8 ⟨u8.below (x6.trans e7) (by omega), hout h8⟩
end Go.Proofs.YteghbhdniimjbaaGreat

namespace Go.Kx
open Go Go.RowKit
def atI (a : List QV) (i : Int) : QV := if i < 0 then q0 else a.getD i.toNat q0
theorem atI_nat (a : List QV) (i : Nat) : atI a i = a.getD i q0 := by
 unfold atI; rw [if_neg (by omega)]; simp
end Go.Kx
namespace Go.Proofs.YteghbhdniimjbaaGreat
open Go Go.Kx Go.RowKit
theorem E_ref02_Sub : Ent Tryz.prog 204 := ent_of Tryz.func204 (by kernel_rfl) rfl
theorem ref02_Sub_c {S : Nat → Prop} {w : World} {va vb : Value} {a b : QV} {L : Nat} (up : Up S w) (ha : eQ.R S w va a) (hb : eQ.R S w vb b) (hla : qok L a) (hlb : qk L b) (h1 : 1 ≤ L) (hL : L ≤ 400000000) : CR Tryz.prog 204 #[va, vb] w (eQ.at S (qc (qval a - qval b))) := by
 obtain ⟨s, t, rfl, hs, ht⟩ := ha
 have ha : eQ.R S w (.agg #[.bool a.num.neg, s, .bool a.den.neg, t]) a := ⟨s, t, rfl, hs, ht⟩
 obtain ⟨s', t', rfl, hs', ht'⟩ := hb
 have hb : eQ.R S w (.agg #[.bool b.num.neg, s', .bool b.den.neg, t']) b := ⟨s', t', rfl, hs', ht'⟩
 refine enter Tryz.func204 rfl Tryz.ntmps204 rfl ?_
 refine .seq (.region (.box rfl rfl fun w1 b2 n1 => .box rfl rfl fun w2 b3 n2 => .alloc rfl zero_Q fun w3 b4 n3 => .nil ?_))
 obtain ⟨e1, k2, hb2, hs1⟩ := n1
 obtain ⟨e2, k3, hb3, hs2⟩ := n2
 obtain ⟨e3, k4, hb4, hs3⟩ := n3
 have x3 := (e1.trans e2).trans e3
 have k2 := (k2.ext e2).ext e3
 have k3 := k3.ext e3
 have hS4 : ¬ Sx S w.heap.size w3.heap.size b4 := Sx.no (by omega) (by omega)
 have up3 : Up (Sx S w.heap.size w3.heap.size) w3 := Sx.up up (Nat.le_refl _) x3.size
 have ha3 := (ER.par eQ ha w3.heap.size).ext x3
 have hb3' := (ER.par eQ hb w3.heap.size).ext x3
 have hout : ∀ {W : World} {v : Value} {z : QV}, eQ.R (Sx S w.heap.size w3.heap.size) W v z → eQ.R S W v z := fun h => h.out
 generalize hT : Sx S w.heap.size w3.heap.size = T at *
 refine .seq ?_
 refine .par follows 4 [.inl (.agg #[.bool a.num.neg, s, .bool a.den.neg, t]), .inl (.agg #[.bool b.num.neg, s', .bool b.den.neg, t']), .inr (eQ.at T (qc (-qval b))), .inr (eQ.at T (qc (qval a + qval (qc (-qval b)))))] [[], [], [(6, 1)], [(5, 0), (7, 2)]] (by kernel_rfl) ⟨
  fun w e => (v_ldA ty_Q rfl (k2.ext e) rfl).ob, fun w e => (v_ldA ty_Q rfl (k3.ext e) rfl).ob,
  fun w e => (g_call _ E_ref02_Neg rfl (ref02_Neg_c (up3.ext e.size) (ER.ext eQ hb3' e) hlb.1 h1 (by omega))).ob (st_at _ _ _),
  fun w e x hx => (g_call _ E_ref02_Add rfl (ref02_Add_c (up3.ext e.size) (ER.ext eQ ha3 e) hx hla (Rsz.toOk hlb.2.neg) h1 hL)).ob (st_at _ _ _), trivial⟩ ?_
 intro w4 e4 x _ z hz
 rw [qval_qc, ← Rat.sub_eq_add_neg] at hz
 refine .storeA (E := eQ) ty_Q rfl rfl (k4.ext e4) rfl rfl hz hS4 fun w5 k5 u5 h5 => .nil (.ret ?_)
 exact .cell Tryz.results204 rfl ty_Q rfl rfl k5 h5 ⟨u5.below (x3.trans e4) (by omega), hout h5⟩
theorem E_ref02_Cmp : Ent Tryz.prog 159 := ent_of Tryz.func159 (by kernel_rfl) rfl
theorem ref02_Cmp_c {S : Nat → Prop} {w : World} {va vb : Value} {a b : QV} {L : Nat} (up : Up S w) (ha : eQ.R S w va a) (hb : eQ.R S w vb b) (hla : qk L a) (hlb : qk L b) (h1 : 1 ≤ L) (hL : L ≤ 100000000) : CR Tryz.prog 159 #[va, vb] w (Is (.int .i64 (sgnR (qval a - qval b)))) := by
 obtain ⟨s, t, rfl, hs, ht⟩ := ha
 have ha : eQ.R S w (.agg #[.bool a.num.neg, s, .bool a.den.neg, t]) a := ⟨s, t, rfl, hs, ht⟩
 obtain ⟨s', t', rfl, hs', ht'⟩ := hb
 have hb : eQ.R S w (.agg #[.bool b.num.neg, s', .bool b.den.neg, t']) b := ⟨s', t', rfl, hs', ht'⟩
 refine enter Tryz.func159 rfl Tryz.ntmps159 rfl ?_
 refine .seq (.region (.box rfl rfl fun w1 b2 n1 => .box rfl rfl fun w2 b3 n2 => .asg rfl rfl (.nil ?_)))
 obtain ⟨e1, k2, hb2, hs1⟩ := n1
 obtain ⟨e2, k3, hb3, hs2⟩ := n2
 have x2 := e1.trans e2
 have up2 := up.ext x2.size
 refine .seq (.region (.ldA ty_Q rfl rfl (k2.ext e2) rfl (.ldA ty_Q rfl rfl k3 rfl ?_)))
 refine .call _ rfl E_ref02_Sub rfl (ref02_Sub_c up2 (ER.ext eQ ha x2) (ER.ext eQ hb x2) hla.1 hlb h1 (by omega)) fun v3 w3 e3 h3 => ?_
 have hr : Rsz (qval a - qval b) (L + L + 1) := by rw [Rat.sub_eq_add_neg]; exact hla.2.add hlb.2.neg
 refine .call _ rfl E_ref02_Sign rfl (ref02_Sign_c (up2.ext e3.size) h3 hr.toOk (by omega)) fun v4 w4 e4 h4 => ?_
 subst h4
 refine .asg rfl rfl (.nil (.ret ?_))
 exact .plain [_] Tryz.results159 ⟨rfl, trivial⟩ ⟨(x2.trans e3).trans e4, isI (by rw [pn_qc]; rfl)⟩
theorem E_ref03_At : Ent Tryz.prog 92 := ent_of Tryz.func92 (by kernel_rfl) rfl
theorem ref03_At_c {S : Nat → Prop} {w : World} {v : Value} {a : List QV} {i : Int} (h : eV.R S w v a) : CR Tryz.prog 92 #[v, .int .i64 i] w (eQ.at S (atI a i)) := by
 refine enter Tryz.func92 rfl Tryz.ntmps92 rfl ?_
 refine .seq (.region (.alloc rfl zero_Q fun w1 b4 n1 => .nil ?_))
 obtain ⟨e1, k4, hb4, hs1⟩ := n1
 have hS4 : ¬ Sx S w.heap.size w1.heap.size b4 := Sx.no (by omega) (by omega)
 have h1 := (ER.par eV h w1.heap.size).ext e1
 refine .seq (.seq (.region (.mv rfl rfl ?_)))
 by_cases h0 : 0 ≤ i
 ·refine .geqT rfl rfl rfl h0 (.mv rfl rfl (.gr rfl rfl rfl rfl (.mv rfl rfl (.gr rfl rfl rfl rfl (.mv rfl rfl (.gr rfl rfl rfl rfl (.lenR un_V rfl rfl h1 (.gr rfl rfl rfl rfl ?_))))))))
  by_cases hl : i < a.length
  ·refine .lssT rfl rfl rfl hl (.pick rfl rfl rfl (.nil (.condT rfl (.seq (.region (.mv rfl rfl (.mv rfl rfl ?_)))))))
   obtain ⟨j, rfl⟩ : ∃ j : Nat, i = j := ⟨i.toNat, by omega⟩
   refine .ixN (i := j) un_V ty_Q rfl rfl h1 rfl (getD_get' (z := q0) (by omega)) fun p hp => .ldE ty_Q rfl rfl hp fun e he => ?_
   refine .storeA (E := eQ) ty_Q rfl rfl k4 rfl rfl he hS4 fun w5 k5 u5 h5 => .nil (.ret ?_)
   exact .cell Tryz.results92 rfl ty_Q rfl rfl k5 h5 ⟨u5.below e1 (by omega), by rw [atI_nat]; exact h5.out⟩
  ·refine .lssF rfl rfl rfl hl (.pick rfl rfl rfl (.nil (.condF rfl (.skip (.seq (.region (.bld [] rfl rfl bld_Q0 ?_)))))))
   have hq : eQ.R (Sx S w.heap.size w1.heap.size) w1 (.agg #[.bool false, .slice none 0 0, .bool false, .slice none 0 0]) q0 := ⟨_, _, rfl, RL.nil, RL.nil⟩
   refine .storeA (E := eQ) ty_Q rfl rfl k4 rfl rfl hq hS4 fun w5 k5 u5 h5 => .nil (.ret ?_)
   refine .cell Tryz.results92 rfl ty_Q rfl rfl k5 h5 ⟨u5.below e1 (by omega), ?_⟩
   rw [show atI a i = q0 by unfold atI; rw [if_neg (by omega), List.getD_eq_getElem?_getD, List.getElem?_eq_none (by omega)]; rfl]
   exact h5.out
 ·refine .geqF rfl rfl rfl h0 (.mv rfl rfl (.gs rfl rfl rfl rfl rfl (.gs rfl rfl rfl rfl rfl (.gs rfl rfl rfl rfl rfl (.gs rfl rfl rfl rfl rfl (.pick rfl rfl rfl (.nil (.condF rfl (.skip (.seq (.region (.bld [] rfl rfl bld_Q0 ?_))))))))))))
  have hq : eQ.R (Sx S w.heap.size w1.heap.size) w1 (.agg #[.bool false, .slice none 0 0, .bool false, .slice none 0 0]) q0 := ⟨_, _, rfl, RL.nil, RL.nil⟩
  refine .storeA (E := eQ) ty_Q rfl rfl k4 rfl rfl hq hS4 fun w5 k5 u5 h5 => .nil (.ret ?_)
  refine .cell Tryz.results92 rfl ty_Q rfl rfl k5 h5 ⟨u5.below e1 (by omega), ?_⟩
  rw [show atI a i = q0 by unfold atI; rw [if_pos (by omega)]]
  exact h5.out
end Go.Proofs.YteghbhdniimjbaaGreat

namespace Go.Proofs.YteghbhdniimjbaaGreat
open Go Go.Kx Go.RowKit
end Go.Proofs.YteghbhdniimjbaaGreat

namespace Go.Kx
theorem rmI_atI (m : List (List QV)) (i : Nat) (k : Int) : qval (atI (m.getD i []) k) = rmI m i k := by
 unfold rmI atI
 by_cases h : k < 0
 ·rw [if_pos h, if_pos (.inr h)]; exact qval_q0
 ·rw [if_neg h, if_neg (by omega)]; simp [rm, rv]
end Go.Kx
namespace Go.Proofs.YteghbhdniimjbaaGreat
open Go Go.Kx Go.RowKit
theorem E_ref04_At : Ent Tryz.prog 22 := ent_of Tryz.func22 (by kernel_rfl) rfl
theorem ref04_At_c {S : Nat → Prop} {w : World} {vm : Value} {m : List (List QV)} {i k : Int} {L : Nat} (up : Up S w) (hm : eM.R S w vm m) (hk : mk_ L m) (hL : 1 ≤ L) (hL2 : L ≤ 1000000000) : CR Tryz.prog 22 #[vm, .int .i64 i, .int .i64 k] w (eQ.at S (qc (rmI m i k))) := by
 refine enter Tryz.func22 rfl Tryz.ntmps22 rfl ?_
 refine .seq (.region (.alloc rfl zero_Q fun w1 b6 n1 => .nil ?_))
 obtain ⟨e1, k6, hb6, hs1⟩ := n1
 have hS : ¬ Sx S w.heap.size w1.heap.size b6 := Sx.no (by omega) (by omega)
 have up1 : Up (Sx S w.heap.size w1.heap.size) w1 := Sx.up up (Nat.le_refl _) e1.size
 have h1 := (ER.par eM hm w1.heap.size).ext e1
 have hout : ∀ {W : World} {v : Value} {z : QV}, eQ.R (Sx S w.heap.size w1.heap.size) W v z → eQ.R S W v z := fun h => h.out
 generalize hT : Sx S w.heap.size w1.heap.size = T at *
 have hq : eQ.R T w1 (.agg #[.bool false, .slice none 0 0, .bool false, .slice none 0 0]) (qc 0) := by rw [qc_zero]; exact ⟨_, _, rfl, RL.nil, RL.nil⟩
 refine .seq (.seq (.region (.mv rfl rfl ?_)))
 by_cases h0 : i < 0
 ·refine .lssT rfl rfl rfl h0 (.mv rfl rfl (.gs rfl rfl rfl rfl rfl (.gs rfl rfl rfl rfl rfl (.gs rfl rfl rfl rfl rfl (.gs rfl rfl rfl rfl rfl (.pick rfl rfl rfl (.nil (.condT rfl (.seq (.region (.bld [] rfl rfl bld_Q0 ?_)))))))))))
  refine .storeA (E := eQ) ty_Q rfl rfl k6 rfl rfl hq hS fun w5 k5 u5 h5 => .nil (.ret ?_)
  refine .cell Tryz.results22 rfl ty_Q rfl rfl k5 h5 ⟨u5.below e1 (by omega), ?_⟩
  rw [show rmI m i k = 0 by unfold rmI; rw [if_pos (.inl h0)]]
  exact hout h5
 ·refine .lssF rfl rfl rfl h0 (.mv rfl rfl (.gr rfl rfl rfl rfl (.mv rfl rfl (.gr rfl rfl rfl rfl (.mv rfl rfl (.gr rfl rfl rfl rfl (.lenR un_M rfl rfl h1 (.gr rfl rfl rfl rfl ?_))))))))
  by_cases hl : (m.length : Int) ≤ i
  ·refine .geqT rfl rfl rfl hl (.pick rfl rfl rfl (.nil (.condT rfl (.seq (.region (.bld [] rfl rfl bld_Q0 ?_))))))
   refine .storeA (E := eQ) ty_Q rfl rfl k6 rfl rfl hq hS fun w5 k5 u5 h5 => .nil (.ret ?_)
   refine .cell Tryz.results22 rfl ty_Q rfl rfl k5 h5 ⟨u5.below e1 (by omega), ?_⟩
   rw [show rmI m i k = 0 by unfold rmI; split; rfl; exact rm_out (by omega)]
   exact hout h5
  ·refine .geqF rfl rfl rfl hl (.pick rfl rfl rfl (.nil (.condF rfl (.skip (.seq (.region (.mv rfl rfl (.mv rfl rfl ?_))))))))
   obtain ⟨j, rfl⟩ : ∃ j : Nat, i = j := ⟨i.toNat, by omega⟩
   refine .ixN (i := j) un_M ty_V rfl rfl h1 rfl (getD_get' (z := []) (by omega)) fun p hp => .ldE ty_V rfl rfl hp fun e he => .mv rfl rfl ?_
   refine .call _ rfl E_ref03_At rfl (ref03_At_c he) fun v2 w2 e2 h2 => ?_
   have hqa : qok L (atI (m.getD j []) k) := by
    unfold atI; split
    ·exact (qk_q0 hL).1
    ·exact ((hk.get j).get hL _).1
   refine .call _ rfl E_ref02_Least rfl (ref02_Least_c (up1.ext e2.size) h2 hqa hL hL2) fun v3 w3 e3 h3 => ?_
   rw [rmI_atI] at h3
   refine .storeA (E := eQ) ty_Q rfl rfl ((k6.ext e2).ext e3) rfl rfl h3 hS fun w5 k5 u5 h5 => .nil (.ret ?_)
   exact .cell Tryz.results22 rfl ty_Q rfl rfl k5 h5 ⟨u5.below ((e1.trans e2).trans e3) (by omega), hout h5⟩
theorem E_ref04_row : Ent Tryz.prog 95 := ent_of Tryz.func95 (by kernel_rfl) rfl
theorem ref04_row_c {S : Nat → Prop} {w : World} {vm : Value} {m : List (List QV)} {i : Nat} (hm : eM.R S w vm m) : CR Tryz.prog 95 #[vm, .int .i64 i] w (eV.at S (m.getD i [])) := by
 refine enter Tryz.func95 rfl Tryz.ntmps95 rfl ?_
 refine .seq (.region (.asg rfl rfl (.nil (.seq (.seq (.region (.mv rfl rfl (.mv rfl rfl (.lenR un_M rfl rfl hm ?_)))))))))
 by_cases hl : i < m.length
 ·refine .lssT rfl rfl rfl (by omega) (.nil (.condT rfl (.seq (.region (.mv rfl rfl (.mv rfl rfl ?_))))))
  refine .ixN (i := i) un_M ty_V rfl rfl hm rfl (getD_get' (z := []) hl) fun p hp => .ldE ty_V rfl rfl hp fun e he => .asg rfl rfl (.nil (.ret ?_))
  exact .plain [_] Tryz.results95 ⟨rfl, trivial⟩ ⟨Ext.refl _, he⟩
 ·refine .lssF rfl rfl rfl (by omega) (.nil (.condF rfl (.skip (.seq (.region (.asg rfl rfl (.nil (.ret ?_))))))))
  refine .plain [_] Tryz.results95 ⟨rfl, trivial⟩ ⟨Ext.refl _, ?_⟩
  rw [show m.getD i [] = [] by rw [List.getD_eq_getElem?_getD, List.getElem?_eq_none (by omega)]; rfl]
  exact RL.nil
theorem E_ref04_place : Ent Tryz.prog 160 := ent_of Tryz.func160 (by kernel_rfl) rfl
theorem ref04_place1_c {S : Nat → Prop} {w : World} {vk_ va vb : Value} {k : QV} {a : List (List QV)} {i j : Int} {L : Nat} (up : Up S w) (hk : eQ.R S w vk_ k) (ha : eM.R S w va a) (hka : mk_ L a) (hL : 1 ≤ L) (hL2 : L ≤ 1000000000) :
  CR Tryz.prog 160 #[.int .u8 1, vk_, va, vb, .int .i64 i, .int .i64 j] w (eQ.at S (qc (rmI a j i))) := by
 obtain ⟨s, t, rfl, hs, ht⟩ := hk
 refine enter Tryz.func160 rfl Tryz.ntmps160 rfl ?_
 refine .seq (.region (.box rfl rfl fun w1 b7 n1 => .alloc rfl zero_Q fun w2 b12 n2 => .nil ?_))
 obtain ⟨e1, k7, hb7, hs1⟩ := n1
 obtain ⟨e2, k12, hb12, hs2⟩ := n2
 have x2 := e1.trans e2
 have hS : ¬ Sx S w.heap.size w2.heap.size b12 := Sx.no (by omega) (by omega)
 have up2 : Up (Sx S w.heap.size w2.heap.size) w2 := Sx.up up (Nat.le_refl _) x2.size
 have ha2 := (ER.par eM ha w2.heap.size).ext x2
 refine .seq (.seq (.region (.mv rfl rfl (.nil (.block (.seq (.region (.eqlT rfl rfl rfl rfl (.asg rfl rfl (.nil (.condT rfl (.seq (.region (.mv rfl rfl (.mv rfl rfl (.mv rfl rfl ?_))))))))))))))))
 refine .call _ rfl E_ref04_At rfl (ref04_At_c up2 ha2 hka hL hL2) fun v3 w3 e3 h3 => ?_
 refine .storeA (E := eQ) ty_Q rfl rfl (k12.ext e3) rfl rfl h3 hS fun w5 k5 u5 h5 => .nil (.ret ?_)
 exact .cell Tryz.results160 rfl ty_Q rfl rfl k5 h5 ⟨u5.below (x2.trans e3) (by omega), h5.out⟩
theorem ref04_place0_c {S : Nat → Prop} {w : World} {vk_ va vb : Value} {k : QV} {a : List (List QV)} {i j : Int} {L : Nat} (up : Up S w) (hk : eQ.R S w vk_ k) (ha : eM.R S w va a) (hkk : qk L k) (hka : mk_ L a) (hL : 1 ≤ L) (hL2 : L ≤ 100000000) :
  CR Tryz.prog 160 #[.int .u8 0, vk_, va, vb, .int .i64 i, .int .i64 j] w (eQ.at S (qc (qval k * rmI a i j))) := by
 obtain ⟨s, t, rfl, hs, ht⟩ := hk
 have hk : eQ.R S w (.agg #[.bool k.num.neg, s, .bool k.den.neg, t]) k := ⟨s, t, rfl, hs, ht⟩
 refine enter Tryz.func160 rfl Tryz.ntmps160 rfl ?_
 refine .seq (.region (.box rfl rfl fun w1 b7 n1 => .alloc rfl zero_Q fun w2 b12 n2 => .nil ?_))
 obtain ⟨e1, k7, hb7, hs1⟩ := n1
 obtain ⟨e2, k12, hb12, hs2⟩ := n2
 have x2 := e1.trans e2
 have k7 := k7.ext e2
 have hS : ¬ Sx S w.heap.size w2.heap.size b12 := Sx.no (by omega) (by omega)
 have up2 : Up (Sx S w.heap.size w2.heap.size) w2 := Sx.up up (Nat.le_refl _) x2.size
 have ha2 := (ER.par eM ha w2.heap.size).ext x2
 have hk2 := (ER.par eQ hk w2.heap.size).ext x2
 have hout : ∀ {W : World} {v : Value} {z : QV}, eQ.R (Sx S w.heap.size w2.heap.size) W v z → eQ.R S W v z := fun h => h.out
 generalize hT : Sx S w.heap.size w2.heap.size = T at *
 have hr : qok L (qc (rmI a i j)) := by
  unfold rmI; split
  ·exact (Rsz.zero hL).toOk
  ·exact (hka.rsz hL _ _).toOk
 refine .seq (.seq (.region (.mv rfl rfl (.nil (.block (.seq (.region (.eqlF rfl rfl rfl (by decide) (.asg rfl rfl (.nil (.condF rfl (.seq (.region (.eqlF rfl rfl rfl (by decide) (.asg rfl rfl (.nil (.condF rfl (.seq (.region (.eqlF rfl rfl rfl (by decide) (.asg rfl rfl (.nil (.condF rfl (.skip (.seq ?_)))))))))))))))))))))))))
 refine .par follows 6 [.inl (.agg #[.bool k.num.neg, s, .bool k.den.neg, t]), .inl va, .inl (.int .i64 i), .inl (.int .i64 j), .inr (eQ.at T (qc (rmI a i j))), .inr (eQ.at T (qc (qval k * qval (qc (rmI a i j)))))] [[], [], [], [], [(61, 1), (62, 2), (63, 3)], [(60, 0), (64, 4)]] (by kernel_rfl) ⟨
  fun w e => (v_ldA ty_Q rfl (k7.ext e) rfl).ob, fun w e => (v_mv rfl).ob, fun w e => (v_mv rfl).ob, fun w e => (v_mv rfl).ob,
  fun w e => (g_call _ E_ref04_At rfl (ref04_At_c (up2.ext e.size) (ER.ext eM ha2 e) hka hL (by omega))).ob (st_at _ _ _),
  fun w e x hx => (g_call _ E_ref02_Mul rfl (ref02_Mul_c (up2.ext e.size) (ER.ext eQ hk2 e) hx hkk.1 hr hL (by omega))).ob (st_at _ _ _), trivial⟩ ?_
 rintro w3 e3 x - z hz
 rw [qval_qc] at hz
 refine .storeA (E := eQ) ty_Q rfl rfl (k12.ext e3) rfl rfl hz hS fun w5 k5 u5 h5 => .nil (.ret ?_)
 exact .cell Tryz.results160 rfl ty_Q rfl rfl k5 h5 ⟨u5.below (x2.trans e3) (by omega), hout h5⟩
end Go.Proofs.YteghbhdniimjbaaGreat

namespace Go.Proofs.YteghbhdniimjbaaGreat
open Go Go.Kx Go.RowKit
theorem own_base {w : World} {v : Value} {t : TypeId} {sz n B B' : Nat} {xs : List Value} (h : w.ownsRow B t sz v n xs) (hB : B' ≤ B) : w.ownsRow B' t sz v n xs := by
 refine ⟨h.1, ?_⟩
 rcases h.2 with h | ⟨g, cap, cur, h1, h2, h3⟩
 ·exact .inl h
 ·exact .inr ⟨g, cap, cur, h1, Nat.le_trans hB h2, h3⟩
theorem OwnL.base {α : Type} {E : ER α} {t : TypeId} {B B' : Nat} {X : Nat → Prop} {w : World} {v : Value} {l : List α} (h : OwnL E t B X w v l) (hB : B' ≤ B) : OwnL E t B' X w v l := by
 obtain ⟨es, h1, h2⟩ := h
 exact ⟨es, own_base h1 hB, h2⟩
theorem E_ref04_made : Ent Tryz.prog 99 := ent_of Tryz.func99 (by kernel_rfl) rfl
theorem ref04_madeF_c {S : Nat → Prop} {w : World} {r c : Nat} {kind : Int} {vk_ va vb : Value} {k : QV} {a b : List (List QV)} {f : Nat → Nat → Rat} (up : Up S w) (hk : eQ.R S w vk_ k) (ha : eM.R S w va a) (hb : eM.R S w vb b) (hr : r ≤ 100000000) (hc : c ≤ 100000000)
  (hf : ∀ {T : Nat → Prop} {W : World} {i j : Nat}, Up T W → eQ.R T W vk_ k → eM.R T W va a → eM.R T W vb b → i < r → j < c → CR Tryz.prog 160 #[.int .u8 kind, vk_, va, vb, .int .i64 i, .int .i64 j] W (eQ.at T (qc (f i j)))) :
  CR Tryz.prog 99 #[.int .i64 r, .int .i64 c, .int .u8 kind, vk_, va, vb] w (fun v W => OwnL eV 42 w.heap.size S W v (tabM r c f)) := by
 obtain ⟨s, t, rfl, hs, ht⟩ := hk
 have hk : eQ.R S w (.agg #[.bool k.num.neg, s, .bool k.den.neg, t]) k := ⟨s, t, rfl, hs, ht⟩
 refine enter Tryz.func99 rfl Tryz.ntmps99 rfl ?_
 refine .seq (.region (.box rfl rfl fun w1 b9 n1 => .asg rfl rfl (.nil (.seq (.region (.asg rfl rfl (.nil (.seq (.seq (.region (.asg rfl rfl (.nil ?_))))))))))))
 obtain ⟨e1, k9, hb9, hs1⟩ := n1
 have hB1 : ∀ {W : World}, Ext w1 W → Kp (fun k => S k ∧ k < w1.heap.size) w1 W := fun hB k c t f hk h => (hB.block k hk.2).trans h
 have hK : ∀ {W : World}, Ext w1 W → eQ.R (fun k => S k ∧ k < w1.heap.size) W (.agg #[.bool k.num.neg, s, .bool k.den.neg, t]) k := fun hB => eQ.keep (hB1 hB) (ER.lt eQ (ER.ext eQ hk e1))
 have hA : ∀ {W : World}, Ext w1 W → eM.R (fun k => S k ∧ k < w1.heap.size) W va a := fun hB => eM.keep (hB1 hB) (ER.lt eM (ER.ext eM ha e1))
 have hBb : ∀ {W : World}, Ext w1 W → eM.R (fun k => S k ∧ k < w1.heap.size) W vb b := fun hB => eM.keep (hB1 hB) (ER.lt eM (ER.ext eM hb e1))
 have up1 := up.ext e1.size
 generalize hG : (fun i => tab c (f i)) = G
 refine .block (.loop (α := Nat × Value) (fun x => [(0, .int .i64 (r : Nat)), (1, .int .i64 (c : Nat)), (2, .int .u8 kind), (4, va), (5, vb), (9, .pointer (some ⟨b9, 0, none⟩)), (13, x.2), (14, .int .i64 (x.1 : Nat))]) (fun x W => Ext w1 W ∧ x.1 ≤ r ∧ OwnL eV 42 w1.heap.size S W x.2 ((List.range x.1).map G)) (fun x => r - x.1) (0, .slice none 0 0) ?_ ?_ ?_)
 ·exact look_cons rfl (look_cons rfl (look_cons rfl (look_cons rfl (look_cons rfl (look_cons rfl (look_cons rfl (look_cons rfl look_nil)))))))
 ·exact ⟨Ext.refl _, Nat.zero_le _, OwnL.nil⟩
 ·rintro ⟨i, u⟩ W ⟨hB, hi, ho⟩
  replace hB : Ext w1 W := hB
  replace hi : i ≤ r := hi
  replace ho : OwnL eV 42 w1.heap.size S W u ((List.range i).map G) := ho
  refine .weak [(0, .int .i64 (r : Nat)), (1, .int .i64 (c : Nat)), (2, .int .u8 kind), (4, va), (5, vb), (9, .pointer (some ⟨b9, 0, none⟩)), (13, u), (14, .int .i64 (i : Nat))] (fun t v h => h) ?_
  have hsz := hB.size
  refine .seq (.seq (.region (.mv rfl rfl (.mv rfl rfl ?_))))
  by_cases hlt : i < r
  ·refine .lssT rfl rfl rfl (by omega) (.nil (.condT rfl (.skip (.seq (.block (.seq (.region (.asg rfl rfl (.nil ?_)))))))))
   obtain ⟨es, ho1, ho2⟩ := id ho
   have hTu : ∀ k', S k' ∧ k' < w1.heap.size → S k' ∧ u.ownBlock ≠ some k' := fun k' hk' => ⟨hk'.1, fun h => by have := (ho1.lt k' h).1; have := hk'.2; omega⟩
   have upT : Up (fun k' => S k' ∧ u.ownBlock ≠ some k') W := fun k' hk' => ⟨up1 k' (by omega), fun h => by have := (ho1.lt k' h).2; omega⟩
   refine .mid (α := Value) (fun x => [(0, .int .i64 (r : Nat)), (1, .int .i64 (c : Nat)), (2, .int .u8 kind), (4, va), (5, vb), (9, .pointer (some ⟨b9, 0, none⟩)), (13, u), (14, .int .i64 (i : Nat)), (15, x)]) (fun x W' => Ext W W' ∧ eV.R (fun k' => S k' ∧ u.ownBlock ≠ some k') W' x (tab c (f i))) ?_ ?_
   ·refine .seq (.region (.asg rfl rfl (.nil ?_)))
    generalize hg : (fun j => qc (f i j)) = g
    refine .block (.loop (α := Nat × Value) (fun x => [(0, .int .i64 (r : Nat)), (1, .int .i64 (c : Nat)), (2, .int .u8 kind), (4, va), (5, vb), (9, .pointer (some ⟨b9, 0, none⟩)), (13, u), (14, .int .i64 (i : Nat)), (15, x.2), (16, .int .i64 (x.1 : Nat))]) (fun x W' => Ext W W' ∧ x.1 ≤ c ∧ OwnL eQ 32 W.heap.size (fun k' => S k' ∧ u.ownBlock ≠ some k') W' x.2 ((List.range x.1).map g)) (fun x => c - x.1) (0, .slice none 0 0) ?_ ?_ ?_)
    ·exact look_cons rfl (look_cons rfl (look_cons rfl (look_cons rfl (look_cons rfl (look_cons rfl (look_cons rfl (look_cons rfl (look_cons rfl (look_cons rfl look_nil)))))))))
    ·exact ⟨Ext.refl _, Nat.zero_le _, OwnL.nil⟩
    ·rintro ⟨j, x⟩ W' ⟨hW, hj, hx⟩
     replace hW : Ext W W' := hW
     replace hj : j ≤ c := hj
     replace hx : OwnL eQ 32 W.heap.size (fun k' => S k' ∧ u.ownBlock ≠ some k') W' x ((List.range j).map g) := hx
     refine .weak [(0, .int .i64 (r : Nat)), (1, .int .i64 (c : Nat)), (2, .int .u8 kind), (4, va), (5, vb), (9, .pointer (some ⟨b9, 0, none⟩)), (13, u), (14, .int .i64 (i : Nat)), (15, x), (16, .int .i64 (j : Nat))] (fun t v h => h) ?_
     have hsz' := hW.size
     have hBW := hB.trans hW
     refine .seq (.seq (.region (.mv rfl rfl (.mv rfl rfl ?_))))
     by_cases hjl : j < c
     ·refine .lssT rfl rfl rfl (by omega) (.nil (.condT rfl (.skip (.seq (.block (.region (.mv rfl rfl (.mv rfl rfl (.ldA ty_Q rfl rfl (k9.ext hBW) rfl (.mv rfl rfl (.mv rfl rfl (.mv rfl rfl (.mv rfl rfl ?_)))))))))))))
      obtain ⟨es', hx1, hx2⟩ := id hx
      have hTx : ∀ k', S k' ∧ k' < w1.heap.size → (S k' ∧ u.ownBlock ≠ some k') ∧ x.ownBlock ≠ some k' := fun k' hk' => ⟨hTu k' hk', fun h => by have := (hx1.lt k' h).1; have := hk'.2; omega⟩
      have upX : Up (fun k' => (S k' ∧ u.ownBlock ≠ some k') ∧ x.ownBlock ≠ some k') W' := fun k' hk' => ⟨upT k' (by omega), fun h => by have := (hx1.lt k' h).2; omega⟩
      refine .call _ rfl E_ref04_place rfl (hf upX (eQ.mono (fun k' _ h => hTx k' h) (hK hBW)) (eM.mono (fun k' _ h => hTx k' h) (hA hBW)) (eM.mono (fun k' _ h => hTx k' h) (hBb hBW)) hlt hjl) fun v2 W2 e2 h2 => ?_
      have hr' := h2
      obtain ⟨s2, t2, rfl, _, _⟩ := hr'
      refine .bsl _ rfl rfl bsl_V1 fun W3 b3 n3 => ?_
      obtain ⟨e3, k3, hb3, hs3⟩ := n3
      have e23 := e2.trans e3
      have hW3 := hW.trans e23
      refine .gv rfl rfl (g_appL (E := eQ) (base := W.heap.size) (by decide) un_V info_Q rfl rfl rfl (hx.ext e23) k3 (h2.ext e3) (by simp; omega) (by decide) hW3.size) ?_
      rintro v4 W4 ⟨ho4, hg4⟩
      refine .asg rfl rfl (.nil (.region (.mv rfl rfl (.add rfl rfl rfl (.asg rfl rfl (.nil ?_))))))
      rw [wI (by omega)]
      refine ⟨rfl, (j + 1, v4), look_cons rfl (look_cons rfl (look_cons rfl (look_cons rfl (look_cons rfl (look_cons rfl (look_cons rfl (look_cons rfl (look_cons rfl (look_cons rfl look_nil))))))))), ⟨(hx.ext e23).below hg4 hW3 hW3.size, hjl, ?_⟩, by show c - (j + 1) < c - j; omega⟩
      show OwnL eQ 32 W.heap.size (fun k' => S k' ∧ u.ownBlock ≠ some k') W4 v4 ((List.range (j + 1)).map g)
      rw [List.range_succ, List.map_append, ← hg]
      rw [← hg] at ho4
      exact ho4
     ·refine .lssF rfl rfl rfl (by omega) (.nil (.condF rfl (.exit ?_)))
      have : j = c := by omega
      subst this
      refine ⟨rfl, x, look_cons rfl (look_cons rfl (look_cons rfl (look_cons rfl (look_cons rfl (look_cons rfl (look_cons rfl (look_cons rfl (look_cons rfl look_nil)))))))), hW, ?_⟩
      unfold tab
      rw [hg]
      exact hx.toR (fun k hk => upT k hk) (fun _ h => h)
   ·rintro x W' ⟨hW, hx⟩
    have hBW := hB.trans hW
    obtain ⟨ar, cr, hvr, _⟩ := RL.len hx
    rw [tab_length] at hvr
    subst hvr
    refine .region (.mv rfl rfl (.mv rfl rfl (.bsl _ rfl rfl bsl_M1 fun W3 b3 n3 => ?_)))
    obtain ⟨e3, k3, hb3, hs3⟩ := n3
    have e23 := hW.trans e3
    have hB3 := hB.trans e23
    refine .gv rfl rfl (g_appL (E := eV) (base := w1.heap.size) (n := tab c (f i)) (e := .slice ar c cr) (by decide) un_M info_V rfl rfl rfl (ho.ext e23) k3 (ER.ext eV hx e3) (by simp; omega) (by decide) hB3.size) ?_
    rintro v4 W4 ⟨ho4, hg4⟩
    refine .asg rfl rfl (.nil (.region (.mv rfl rfl (.add rfl rfl rfl (.asg rfl rfl (.nil ?_))))))
    rw [wI (by omega)]
    refine ⟨rfl, (i + 1, v4), look_cons rfl (look_cons rfl (look_cons rfl (look_cons rfl (look_cons rfl (look_cons rfl (look_cons rfl (look_cons rfl look_nil))))))), ⟨(ho.ext e23).below hg4 hB3 hB3.size, hlt, ?_⟩, by show r - (i + 1) < r - i; omega⟩
    show OwnL eV 42 w1.heap.size S W4 v4 ((List.range (i + 1)).map G)
    rw [List.range_succ, List.map_append, ← hG]
    rw [← hG] at ho4
    exact ho4
  ·refine .lssF rfl rfl rfl (by omega) (.nil (.condF rfl (.exit (.seq (.region (.mv rfl rfl (.asg rfl rfl (.nil (.ret ?_)))))))))
   have : i = r := by omega
   subst this
   refine .plain [_] Tryz.results99 ⟨rfl, trivial⟩ ⟨e1.trans hB, ?_⟩
   unfold tabM
   rw [hG]
   exact OwnL.base ho e1.size
theorem ref04_made_c {S : Nat → Prop} {w : World} {r c : Nat} {kind : Int} {vk_ va vb : Value} {k : QV} {a b : List (List QV)} {f : Nat → Nat → Rat} (up : Up S w) (hk : eQ.R S w vk_ k) (ha : eM.R S w va a) (hb : eM.R S w vb b) (hr : r ≤ 100000000) (hc : c ≤ 100000000)
  (hf : ∀ {T : Nat → Prop} {W : World} {i j : Nat}, Up T W → eQ.R T W vk_ k → eM.R T W va a → eM.R T W vb b → i < r → j < c → CR Tryz.prog 160 #[.int .u8 kind, vk_, va, vb, .int .i64 i, .int .i64 j] W (eQ.at T (qc (f i j)))) :
  CR Tryz.prog 99 #[.int .i64 r, .int .i64 c, .int .u8 kind, vk_, va, vb] w (eM.at S (tabM r c f)) :=
 (ref04_madeF_c up hk ha hb hr hc hf).mono fun _ _ _ h => h.toR (fun k hk => up k hk) (fun _ h => h)
end Go.Proofs.YteghbhdniimjbaaGreat

namespace Go.Proofs.YteghbhdniimjbaaGreat
open Go Go.Kx Go.RowKit
theorem E_ref04_Turn : Ent Tryz.prog 29 := ent_of Tryz.func29 (by kernel_rfl) rfl
theorem ref04_Turn_c {S : Nat → Prop} {w : World} {va : Value} {a : List (List QV)} {L : Nat} (up : Up S w) (ha : eM.R S w va a) (hka : mk_ L a) (hL : 1 ≤ L) (hL2 : L ≤ 1000000000) (hra : a.length ≤ 100000000) (hca : colsOf a ≤ 100000000) :
  CR Tryz.prog 29 #[va] w (eM.at S (tabM (colsOf a) a.length fun i k => rm a k i)) := by
 refine enter Tryz.func29 rfl Tryz.ntmps29 rfl ?_
 refine .seq (.region (.asg rfl rfl (.nil (.seq (.region (.mv rfl rfl ?_))))))
 refine .call _ rfl E_ref04_Cols rfl (ref04_Cols_c ha) fun v1 w1 e1 h1 => ?_
 subst h1
 refine .mv rfl rfl (.lenR un_M rfl rfl (ER.ext eM ha e1) (.bld [] rfl rfl bld_Q0 (.mv rfl rfl ?_)))
 refine .call _ rfl E_ref04_made rfl (ref04_made_c (k := q0) (b := []) (f := fun i k => rm a k i) (up.ext e1.size) ⟨_, _, rfl, RL.nil, RL.nil⟩ (ER.ext eM ha e1) RL.nil (by omega) (by omega) fun {T W i j} u hk ha hb hi hj => by
  have := ref04_place1_c (i := i) (j := j) (vb := .slice none 0 0) u hk ha hka hL hL2
  rwa [rmI_nat] at this) fun v2 w2 e2 h2 => .asg rfl rfl (.nil (.ret ?_))
 exact .plain [_] Tryz.results29 ⟨rfl, trivial⟩ ⟨e1.trans e2, h2⟩
end Go.Proofs.YteghbhdniimjbaaGreat

namespace Go.Proofs.YteghbhdniimjbaaGreat
open Go Go.Kx Go.RowKit
end Go.Proofs.YteghbhdniimjbaaGreat

namespace Go.Proofs.YteghbhdniimjbaaGreat
open Go Go.Kx Go.RowKit
end Go.Proofs.YteghbhdniimjbaaGreat

namespace Go.Proofs.YteghbhdniimjbaaGreat
open Go Go.Kx Go.RowKit
end Go.Proofs.YteghbhdniimjbaaGreat

namespace Go.Proofs.YteghbhdniimjbaaGreat
open Go Go.Kx Go.RowKit
end Go.Proofs.YteghbhdniimjbaaGreat

namespace Go.Kx
open Go Go.RowKit
section
variable {P : Program} {σ : Env} {w : World} {d : Option Tmp} {ty : TypeId} {pos : String} {af : Array Edge} {g : Option (Nat × Bool)}
/-- append(nil, s...) -/
theorem g_appWs {S : Nat → Prop} {t e : TypeId} {x y : Operand} {u : Value} {s : List Nat} (ht : P.underlying t = some (.slice e)) (hi : infoOf P e = some (.int .u32 0, 1, 4)) (hx : ev σ x = some (.slice none 0 0)) (hy : ev σ y = some u)
  (hs : eW.R S w u s) (hl2 : s.length ≤ 1000000000000) :
  Gv P ⟨d, .call { callee := .builtin .append, args := #[x, y], argTypes := #[t, t] }, ty, pos, af, g⟩ σ w fun v' w' => OwnW e w.heap.size w' v' s ∧ Ext w w' := by
 have hds : dig s := eW_lt hs
 have hown : OwnW e w.heap.size w (.slice none 0 0) [] := ⟨⟨rfl, .inl ⟨rfl, rfl⟩⟩, fun x hx => by cases hx⟩
 obtain ⟨es, he, a, c, rfl, hc, _, hcl, hcells⟩ := hs
 have hes : es = s.map wv := by
  apply List.ext_getElem?
  intro i
  rw [List.getElem?_map]
  cases hi : s[i]? with
  | none => rw [List.getElem?_eq_none (by rw [he.1]; exact List.getElem?_eq_none_iff.1 hi)]; rfl
  | some z =>
   have hlt : i < s.length := (List.getElem?_eq_some_iff.1 hi).1
   have hee := List.getElem?_eq_getElem (show i < es.length by rw [he.1]; exact hlt)
   obtain ⟨h1, _⟩ := he.2 i _ z hee hi
   rw [hee, h1]; rfl
 subst hes
 rw [cellsOf_map1 wv (fun _ => rfl)] at hcells hcl
 have hone : ∀ u ∈ s.map wv, one1 u = true := by
  intro u hu
  obtain ⟨z, _, rfl⟩ := List.mem_map.1 hu
  rfl
 cases a with
 | some ad =>
  have hcell : ∀ j u, (s.map wv)[j]? = some u → w.cell? (ad.add j) = some u := by
   intro j u hu
   have hpos : 0 < s.length := by
    cases s with
    | nil => simp at hu
    | cons z s => simp
   obtain ⟨ad', h1, _, h2⟩ := hcells hpos
   cases h1
   exact h2 j u hu
  exact (g_app (s.map wv) ht hi rfl (by decide) hx hy hown.1 (by simp) hcell hone (by simp; omega) (by simp; omega) (Nat.le_refl _)).mono fun v' w' ⟨h1, h2⟩ => ⟨⟨by simpa using h1, hds⟩, hown.below h2 (Below.refl _ _) (Nat.le_refl _)⟩
 | none =>
  have h0 : s = [] := by
   cases s with
   | nil => rfl
   | cons z s => obtain ⟨ad, h1, _⟩ := hcells (by simp); cases h1
  subst h0
  refine (g_app0 ht hi hx hy hown.1).gv.mono fun v' w' ⟨h1, h2⟩ => ?_
  subst h1; subst h2
  exact ⟨hown, Below.refl _ _⟩
end
end Go.Kx
namespace Go.Proofs.YteghbhdniimjbaaGreat
open Go Go.Kx Go.RowKit
theorem E_law01_Own : Ent Tryz.prog 193 := ent_of Tryz.func193 (by kernel_rfl) rfl
theorem law01_Own_c {S : Nat → Prop} {w : World} {v : Value} {a : ZV} (up : Up S w) (h : eZ.R S w v a) (hl : a.w.length ≤ 1000000000) : CR Tryz.prog 193 #[v] w (eZ.at S a) := by
 obtain ⟨s, rfl, hs⟩ := h
 refine enter Tryz.func193 rfl Tryz.ntmps193 rfl ?_
 refine .seq (.region (.box rfl rfl fun w1 b1 n1 => .alloc rfl zero_Z fun w2 b2 n2 => .nil ?_))
 obtain ⟨e1, k1, hb1, hs1⟩ := n1
 obtain ⟨e2, k2, hb2, hs2⟩ := n2
 have x2 := e1.trans e2
 have k1 := k1.ext e2
 have hS2 : ¬ Sx S w.heap.size w2.heap.size b2 := Sx.no (by omega) (by omega)
 have up2 : Up (Sx S w.heap.size w2.heap.size) w2 := Sx.up up (Nat.le_refl _) x2.size
 have hs2' := (ER.par eW hs w2.heap.size).ext x2
 have hout : ∀ {W : World} {v : Value} {z : ZV}, eZ.R (Sx S w.heap.size w2.heap.size) W v z → eZ.R S W v z := fun h => h.out
 generalize hT : Sx S w.heap.size w2.heap.size = T at *
 refine .seq ?_
 refine .par follows 6 [.inl _, .inl (.bool a.neg), .inl _, .inl s, .inr (eW.at T a.w), .inr (eZ.at T a)] [[], [(3, 0)], [], [(5, 2)], [(6, 3)], [(4, 1), (7, 4)]] (by kernel_rfl) ⟨
  fun w e => (v_fa fld_Z0 rfl).ob, fun w e => (v_ld ty_bool rfl (k1.ext e) rfl).ob, fun w e => (v_fa fld_Z1 rfl).ob, fun w e => (v_ld ty_W rfl (k1.ext e) rfl).ob,
  fun w e => Gv.ob ((g_appWs un_W info_u32 rfl rfl (ER.ext eW hs2' e) (by omega)).mono fun v' w' ⟨h1, h2⟩ => ⟨h2, h1.toR (S := T) (fun k hk => up2 k (by have := e.size; omega))⟩) (st_at _ _ _),
  fun w e x hx => by
   obtain ⟨p, c, hv, _⟩ := RL.len hx
   have hz : eZ.R T w (.agg #[.bool a.neg, x]) a := ⟨x, rfl, hx⟩
   generalize a.w.length = nl at hv
   subst hv
   exact ob_vl (v_bld [(0, .bool a.neg), (1, .slice p nl c)] rfl bld_Z2) hz (st_at _ _ _), trivial⟩ ?_
 rintro w3 e3 x - z hz
 refine .storeA (E := eZ) ty_Z rfl rfl (k2.ext e3) rfl rfl hz hS2 fun w5 k5 u5 h5 => .nil (.ret ?_)
 exact .cell Tryz.results193 rfl ty_Z rfl rfl k5 h5 ⟨u5.below (x2.trans e3) (by omega), hout h5⟩
theorem E_law02_Own : Ent Tryz.prog 153 := ent_of Tryz.func153 (by kernel_rfl) rfl
theorem law02_Own_c {S : Nat → Prop} {w : World} {v : Value} {q : QV} (up : Up S w) (h : eQ.R S w v q) (hl : qok 1000000000 q) : CR Tryz.prog 153 #[v] w (eQ.at S q) := by
 obtain ⟨s, t, rfl, hn, hd⟩ := eQ_parts h
 refine enter Tryz.func153 rfl Tryz.ntmps153 rfl ?_
 refine .seq (.region (.box rfl rfl fun w1 b1 n1 => .alloc rfl zero_Q fun w2 b2 n2 => .nil ?_))
 obtain ⟨e1, k1, hb1, hs1⟩ := n1
 obtain ⟨e2, k2, hb2, hs2⟩ := n2
 have x2 := e1.trans e2
 have k1 := k1.ext e2
 have hS2 : ¬ Sx S w.heap.size w2.heap.size b2 := Sx.no (by omega) (by omega)
 have up2 : Up (Sx S w.heap.size w2.heap.size) w2 := Sx.up up (Nat.le_refl _) x2.size
 have hn2 := (ER.par eZ hn w2.heap.size).ext x2
 have hd2 := (ER.par eZ hd w2.heap.size).ext x2
 have hout : ∀ {W : World} {v : Value} {z : QV}, eQ.R (Sx S w.heap.size w2.heap.size) W v z → eQ.R S W v z := fun h => h.out
 generalize hT : Sx S w.heap.size w2.heap.size = T at *
 refine .seq ?_
 refine .par follows 7 [.inl _, .inl (.agg #[.bool q.num.neg, s]), .inr (eZ.at T q.num), .inl _, .inl (.agg #[.bool q.den.neg, t]), .inr (eZ.at T q.den), .inr (eQ.at T q)] [[], [(3, 0)], [(4, 1)], [], [(6, 3)], [(7, 4)], [(5, 2), (8, 5)]] (by kernel_rfl) ⟨
  fun w e => (v_fa fld_Q0 rfl).ob, fun w e => (v_ldN [.bool q.num.neg, s] ty_Z rfl (k1.ext e) two_on).ob,
  fun w e => (g_call _ E_law01_Own rfl (law01_Own_c (up2.ext e.size) (ER.ext eZ hn2 e) hl.1)).ob (st_at _ _ _),
  fun w e => (v_fa fld_Q1 rfl).ob, fun w e => (v_ldN [.bool q.den.neg, t] ty_Z rfl (k1.ext e) two_off).ob,
  fun w e => (g_call _ E_law01_Own rfl (law01_Own_c (up2.ext e.size) (ER.ext eZ hd2 e) hl.2)).ob (st_at _ _ _),
  fun w e x hx y hy => by
   obtain ⟨sx, rfl, hsx⟩ := hx
   obtain ⟨sy, rfl, hsy⟩ := hy
   exact ob_vl (v_bld [(0, .agg #[.bool q.num.neg, sx]), (1, .agg #[.bool q.den.neg, sy])] rfl bld_Q2) ⟨sx, sy, rfl, hsx, hsy⟩ (st_at _ _ _), trivial⟩ ?_
 rintro w3 e3 x - y - z hz
 refine .storeA (E := eQ) ty_Q rfl rfl (k2.ext e3) rfl rfl hz hS2 fun w5 k5 u5 h5 => .nil (.ret ?_)
 exact .cell Tryz.results153 rfl ty_Q rfl rfl k5 h5 ⟨u5.below (x2.trans e3) (by omega), hout h5⟩
end Go.Proofs.YteghbhdniimjbaaGreat

namespace Go.Kx
theorem range_getD {α : Type} (l : List α) (z : α) : (List.range l.length).map (fun i => l.getD i z) = l := by
 apply List.ext_getElem?
 intro i
 by_cases h : i < l.length
 ·simp [h, List.getD_eq_getElem?_getD]
 ·rw [List.getElem?_eq_none (by simp; omega), List.getElem?_eq_none (by omega)]
end Go.Kx
namespace Go.Proofs.YteghbhdniimjbaaGreat
open Go Go.Kx Go.RowKit
theorem E_law03_Own : Ent Tryz.prog 87 := ent_of Tryz.func87 (by kernel_rfl) rfl
theorem law03_Own_c {S : Nat → Prop} {w : World} {v : Value} {a : List QV} (up : Up S w) (h : eV.R S w v a) (hl : ∀ q ∈ a, qok 1000000000 q) (hll : a.length ≤ 1000000) : CR Tryz.prog 87 #[v] w (eV.at S a) := by
 have hA : ∀ {W : World}, Below w.heap.size w W → eV.R (fun k => S k ∧ k < w.heap.size) W v a := fun hB => eV.keep (fun k c t f hk h => (hB.block k hk.2).trans h) (ER.lt eV h)
 refine enter Tryz.func87 rfl Tryz.ntmps87 rfl ?_
 refine .seq (.region (.asg rfl rfl (.nil (.seq (.region (.asg rfl rfl (.nil (.seq (.seq (.region (.asg rfl rfl (.nil ?_))))))))))))
 refine .block (.loop (α := Nat × Value) (fun y => [(0, v), (3, y.2), (4, .int .i64 (y.1 : Nat))]) (fun y W => Below w.heap.size w W ∧ y.1 ≤ a.length ∧ OwnL eQ 32 w.heap.size S W y.2 ((List.range y.1).map fun i => a.getD i q0)) (fun y => a.length - y.1) (0, .slice none 0 0) ?_ ?_ ?_)
 ·exact look_cons rfl (look_cons rfl (look_cons rfl look_nil))
 ·exact ⟨Below.refl _ _, Nat.zero_le _, OwnL.nil⟩
 ·rintro ⟨i, u⟩ W ⟨hB, hi, ho⟩
  replace hB : Below w.heap.size w W := hB
  replace hi : i ≤ a.length := hi
  replace ho : OwnL eQ 32 w.heap.size S W u ((List.range i).map fun i => a.getD i q0) := ho
  refine .weak [(0, v), (3, u), (4, .int .i64 (i : Nat))] (fun t v h => h) ?_
  have hsz := hB.size
  refine .seq (.seq (.region (.mv rfl rfl (.mv rfl rfl (.lenR un_V rfl rfl (hA hB) ?_)))))
  by_cases hlt : i < a.length
  ·refine .lssT rfl rfl rfl (by omega) (.nil (.condT rfl (.skip (.seq (.block (.region (.mv rfl rfl (.mv rfl rfl (.mv rfl rfl ?_)))))))))
   refine .ixN (i := i) un_V ty_Q rfl rfl (hA hB) rfl (getD_get' (z := q0) hlt) fun p hp => .ldE ty_Q rfl rfl hp fun e he => ?_
   obtain ⟨es, ho1, ho2⟩ := id ho
   have hTu : ∀ k', S k' ∧ k' < w.heap.size → S k' ∧ u.ownBlock ≠ some k' := fun k' hk' => ⟨hk'.1, fun h => by have := (ho1.lt k' h).1; have := hk'.2; omega⟩
   refine .call _ rfl E_law02_Own rfl (law02_Own_c (S := fun k => S k ∧ u.ownBlock ≠ some k) (fun k hk => ⟨up k (by omega), fun h => by have := (ho1.lt k h).2; omega⟩) (eQ.mono (fun k _ h => hTu k h) he) (mem_getD (P := qok 1000000000) hl ⟨by simp [q0], by simp [q0]⟩ i)) fun v2 W2 e2 h2 => ?_
   have hr' := h2
   obtain ⟨s, t, rfl, _, _⟩ := hr'
   refine .bsl _ rfl rfl bsl_V1 fun W3 b3 n3 => ?_
   obtain ⟨e3, k3, hb3, hs3⟩ := n3
   have e23 := e2.trans e3
   have hB3 : Below w.heap.size w W3 := hB.trans (e23.mono hsz)
   refine .gv rfl rfl (g_appL (E := eQ) (base := w.heap.size) (by decide) un_V info_Q rfl rfl rfl (ho.ext e23) k3 (h2.ext e3) (by simp; omega) (by decide) hB3.size) ?_
   rintro v4 W4 ⟨ho4, hg4⟩
   refine .asg rfl rfl (.nil (.region (.mv rfl rfl (.add rfl rfl rfl (.asg rfl rfl (.nil ?_))))))
   rw [wI (by omega)]
   refine ⟨rfl, (i + 1, v4), look_cons rfl (look_cons rfl (look_cons rfl look_nil)), ⟨(ho.ext e23).below hg4 hB3 hB3.size, hlt, ?_⟩, by show a.length - (i + 1) < a.length - i; omega⟩
   show OwnL eQ 32 w.heap.size S W4 v4 ((List.range (i + 1)).map fun i => a.getD i q0)
   rw [List.range_succ, List.map_append]
   exact ho4
  ·refine .lssF rfl rfl rfl (by omega) (.nil (.condF rfl (.exit (.seq (.region (.mv rfl rfl (.asg rfl rfl (.nil (.ret ?_)))))))))
   have : i = a.length := by omega
   subst this
   rw [range_getD] at ho
   exact .plain [_] Tryz.results87 ⟨rfl, trivial⟩ ⟨hB, ho.toR up (fun _ h => h)⟩
theorem E_law04_Own : Ent Tryz.prog 17 := ent_of Tryz.func17 (by kernel_rfl) rfl
theorem law04_Own_c {S : Nat → Prop} {w : World} {v : Value} {m : List (List QV)} (up : Up S w) (h : eM.R S w v m) (hl : ∀ r ∈ m, ∀ q ∈ r, qok 1000000000 q) (hll : m.length ≤ 1000000) (hlc : colsOf m ≤ 1000000) : CR Tryz.prog 17 #[v] w (eM.at S m) := by
 have hA : ∀ {W : World}, Below w.heap.size w W → eM.R (fun k => S k ∧ k < w.heap.size) W v m := fun hB => eM.keep (fun k c t f hk h => (hB.block k hk.2).trans h) (ER.lt eM h)
 refine enter Tryz.func17 rfl Tryz.ntmps17 rfl ?_
 refine .seq (.region (.asg rfl rfl (.nil (.seq (.region (.asg rfl rfl (.nil (.seq (.seq (.region (.asg rfl rfl (.nil ?_))))))))))))
 refine .block (.loop (α := Nat × Value) (fun y => [(0, v), (3, y.2), (4, .int .i64 (y.1 : Nat))]) (fun y W => Below w.heap.size w W ∧ y.1 ≤ m.length ∧ OwnL eV 42 w.heap.size S W y.2 ((List.range y.1).map fun i => m.getD i [])) (fun y => m.length - y.1) (0, .slice none 0 0) ?_ ?_ ?_)
 ·exact look_cons rfl (look_cons rfl (look_cons rfl look_nil))
 ·exact ⟨Below.refl _ _, Nat.zero_le _, OwnL.nil⟩
 ·rintro ⟨i, u⟩ W ⟨hB, hi, ho⟩
  replace hB : Below w.heap.size w W := hB
  replace hi : i ≤ m.length := hi
  replace ho : OwnL eV 42 w.heap.size S W u ((List.range i).map fun i => m.getD i []) := ho
  refine .weak [(0, v), (3, u), (4, .int .i64 (i : Nat))] (fun t v h => h) ?_
  have hsz := hB.size
  refine .seq (.seq (.region (.mv rfl rfl (.mv rfl rfl (.lenR un_M rfl rfl (hA hB) ?_)))))
  by_cases hlt : i < m.length
  ·refine .lssT rfl rfl rfl (by omega) (.nil (.condT rfl (.skip (.seq (.block (.region (.mv rfl rfl (.mv rfl rfl (.mv rfl rfl ?_)))))))))
   refine .ixN (i := i) un_M ty_V rfl rfl (hA hB) rfl (getD_get' (z := []) hlt) fun p hp => .ldE ty_V rfl rfl hp fun e he => ?_
   obtain ⟨es, ho1, ho2⟩ := id ho
   have hTu : ∀ k', S k' ∧ k' < w.heap.size → S k' ∧ u.ownBlock ≠ some k' := fun k' hk' => ⟨hk'.1, fun h => by have := (ho1.lt k' h).1; have := hk'.2; omega⟩
   refine .call _ rfl E_law03_Own rfl (law03_Own_c (S := fun k => S k ∧ u.ownBlock ≠ some k) (fun k hk => ⟨up k (by omega), fun h => by have := (ho1.lt k h).2; omega⟩) (eV.mono (fun k _ h => hTu k h) he) (mem_getD (P := fun r => ∀ q ∈ r, qok 1000000000 q) hl (fun q hq => by cases hq) i) (Nat.le_trans (colsOf_get m i) hlc)) fun v2 W2 e2 h2 => ?_
   obtain ⟨ar, cr, hvr, _⟩ := RL.len h2
   generalize hnr : (m.getD i []).length = nr at hvr
   subst hvr
   refine .bsl _ rfl rfl bsl_M1 fun W3 b3 n3 => ?_
   obtain ⟨e3, k3, hb3, hs3⟩ := n3
   have e23 := e2.trans e3
   have hB3 : Below w.heap.size w W3 := hB.trans (e23.mono hsz)
   refine .gv rfl rfl (g_appL (E := eV) (base := w.heap.size) (n := m.getD i []) (e := .slice ar nr cr) (by decide) un_M info_V rfl rfl rfl (ho.ext e23) k3 (h2.ext e3) (by simp; omega) (by decide) hB3.size) ?_
   rintro v4 W4 ⟨ho4, hg4⟩
   refine .asg rfl rfl (.nil (.region (.mv rfl rfl (.add rfl rfl rfl (.asg rfl rfl (.nil ?_))))))
   rw [wI (by omega)]
   refine ⟨rfl, (i + 1, v4), look_cons rfl (look_cons rfl (look_cons rfl look_nil)), ⟨(ho.ext e23).below hg4 hB3 hB3.size, hlt, ?_⟩, by show m.length - (i + 1) < m.length - i; omega⟩
   show OwnL eV 42 w.heap.size S W4 v4 ((List.range (i + 1)).map fun i => m.getD i [])
   rw [List.range_succ, List.map_append]
   exact ho4
  ·refine .lssF rfl rfl rfl (by omega) (.nil (.condF rfl (.exit (.seq (.region (.mv rfl rfl (.asg rfl rfl (.nil (.ret ?_)))))))))
   have : i = m.length := by omega
   subst this
   rw [range_getD] at ho
   exact .plain [_] Tryz.results17 ⟨rfl, trivial⟩ ⟨hB, ho.toR up (fun _ h => h)⟩
end Go.Proofs.YteghbhdniimjbaaGreat

namespace Go.Kx
open Go Go.RowKit
/-- the block g begins with the elements l; their own memory is S's, and not g -/
def FP {α : Type} (E : ER α) (t : TypeId) (S : Nat → Prop) (w : World) (g : Nat) (l : List α) : Prop :=
 ∃ es rest, Blk w g t (cellsOf es ++ rest).toArray ∧ Els E (fun k => S k ∧ k ≠ g) w es l
section
variable {α : Type} {E : ER α} {t : TypeId} {S X : Nat → Prop} {w w' : World} {g : Nat} {l : List α}
theorem FP.lt (h : FP E t S w g l) : g < w.heap.size := by obtain ⟨es, _, hb, _⟩ := h; exact hb.lt
theorem FP.kp (h : FP E t S w g l) (hk : Kp (fun _ => True) w w') : FP E t S w' g l := by
 obtain ⟨es, r, hb, he⟩ := h
 exact ⟨es, r, hk.blk trivial hb, he.keep fun k c t f _ hc => hk k c t f trivial hc⟩
theorem FP.ext (h : FP E t S w g l) (e : Ext w w') : FP E t S w' g l := h.kp (Kp.ext e)
theorem FP.upd {b : Nat} (h : FP E t S w g l) (u : Upd w w' b) (hne : g ≠ b) (hS : ¬ S b) : FP E t S w' g l := by
 obtain ⟨es, r, hb, he⟩ := h
 exact ⟨es, r, hb.upd u hne, he.keep (Kp.upd u fun h => hS h.1)⟩
theorem FP.mono {S' : Nat → Prop} (h : FP E t S w g l) (hk : ∀ k, k < w.heap.size → S k → S' k) : FP E t S' w g l := by
 obtain ⟨es, r, hb, he⟩ := h
 exact ⟨es, r, hb, he.1, fun i e x h1 h2 => E.mono (fun k hl hh => ⟨hk k hl hh.1, hh.2⟩) (he.2 i e x h1 h2)⟩
theorem FP.toR {hsz : 0 < E.sz} {c : Nat} (h : FP E t S w g l) (hS : S g) (hc : l.length ≤ c) (hm : l.length ≤ 9223372036854775807) : (RL E hsz).R S w (.slice (some ⟨g, 0, none⟩) l.length c) l := by
 obtain ⟨es, r, hb, he⟩ := h
 exact RL.ofBlk hb hS ⟨he.1, fun i e x h1 h2 => E.mono (fun k _ hh => hh.1) (he.2 i e x h1 h2)⟩ (fun j u hu => by
  rw [List.getElem?_toArray, List.getElem?_append_left (List.getElem?_eq_some_iff.1 hu).1]; exact hu) hc hm
theorem FP.at_ {i : Nat} {x : α} (h : FP E t S w g l) (hx : l[i]? = some x) : ∃ e, E.R (fun k => S k ∧ k ≠ g) w e x ∧ PtrX w ⟨g, i * E.sz, none⟩ e := by
 obtain ⟨es, r, hb, he⟩ := h
 have hlt : i < l.length := (List.getElem?_eq_some_iff.1 hx).1
 obtain ⟨e, hee⟩ : ∃ e, es[i]? = some e := ⟨_, List.getElem?_eq_getElem (by rw [he.1]; exact hlt)⟩
 refine ⟨e, he.2 i e x hee hx, fun j u hu => ?_⟩
 have hj : j < E.sz := by
  have hs := he.sz e (List.mem_iff_getElem?.2 ⟨i, hee⟩)
  rcases Nat.lt_or_ge j e.cells.size with h | h
  ·omega
  ·rw [Array.getElem?_eq_none h] at hu; cases hu
 have hg := cellsOf_get es i j e he.sz hee hj
 rw [hu] at hg
 rw [add_mk, hb.cell, List.getElem?_toArray, List.getElem?_append_left (List.getElem?_eq_some_iff.1 hg).1]
 exact hg
end
section
variable {P : Program} {ro : Option Nat} {N : Nat} {ds : List Deferred} {ops : Array Oper} {K : Env → World → Prop} {rest : List Oper} {σ : Env} {w : World} {d : Tmp} {ty : TypeId} {pos : String} {af : Array Edge} {α : Type} {E : ER α} {S : Nat → Prop}
end
end Go.Kx

namespace Go.Kx
abbrev RM := Nat → Nat → Rat
/-- v is a combination of the n rows of f, in the columns below C -/
def Spn (n C : Nat) (f : RM) (v : Nat → Rat) : Prop := ∃ t : Nat → Rat, ∀ k, k < C → v k = sumN n fun i => t i * f i k
section
variable {n C m : Nat} {f g : RM} {u v : Nat → Rat}
theorem Spn.row {i : Nat} (h : i < n) : Spn n C f (f i) := by
 refine ⟨fun t => if t = i then 1 else 0, fun k _ => ?_⟩
 rw [sumN_single (i := i) (fun t _ ht => by simp only [ht, if_false, Rat.zero_mul]), if_pos h]
 simp
theorem Spn.zero : Spn n C f (fun _ => 0) := ⟨fun _ => 0, fun k _ => (sumN_zero' fun i _ => Rat.zero_mul _).symm⟩
theorem Spn.congr (h : Spn n C f u) (e : ∀ k, k < C → v k = u k) : Spn n C f v := by
 obtain ⟨t, ht⟩ := h
 exact ⟨t, fun k hk => by rw [e k hk, ht k hk]⟩
theorem Spn.add (h : Spn n C f u) (h' : Spn n C f v) : Spn n C f (fun k => u k + v k) := by
 obtain ⟨t, ht⟩ := h
 obtain ⟨s, hs⟩ := h'
 refine ⟨fun i => t i + s i, fun k hk => ?_⟩
 show u k + v k = _
 rw [ht k hk, hs k hk, ← sumN_add]
 exact sumN_congr fun i _ => by grind
theorem Spn.mul (c : Rat) (h : Spn n C f u) : Spn n C f (fun k => c * u k) := by
 obtain ⟨t, ht⟩ := h
 refine ⟨fun i => c * t i, fun k hk => ?_⟩
 show c * u k = _
 rw [ht k hk, ← sumN_mul]
 exact sumN_congr fun i _ => by grind
theorem Spn.sum (c : Nat → Rat) (h : ∀ i, i < m → Spn n C f (g i)) : Spn n C f (fun k => sumN m fun i => c i * g i k) := by
 induction m with
 | zero => exact Spn.zero
 | succ m ih => exact (ih fun i hi => h i (by omega)).add ((h m (by omega)).mul (c m))
theorem Spn.trans (h : Spn m C g v) (hg : ∀ i, i < m → Spn n C f (g i)) : Spn n C f v := by
 obtain ⟨t, ht⟩ := h
 exact (Spn.sum t hg).congr ht
theorem Spn.less {C' : Nat} (h : Spn n C f v) (hc : C' ≤ C) : Spn n C' f v := by
 obtain ⟨t, ht⟩ := h
 exact ⟨t, fun k hk => ht k (by omega)⟩
end
/-- the first row from i on, among n, that is not 0 in the column -/
def pivRow (f : RM) (col : Nat) : Nat → Nat → Option Nat
 | 0, _ => none
 | n + 1, i => if f i col = 0 then pivRow f col n (i + 1) else some i
theorem pivRow_none {f : RM} {col : Nat} : ∀ {n i : Nat}, pivRow f col n i = none → ∀ k, i ≤ k → k < i + n → f k col = 0
 | 0, i, _, k, h1, h2 => by omega
 | n + 1, i, h, k, h1, h2 => by
  unfold pivRow at h
  split at h
  ·rename_i h0
   by_cases e : k = i
   ·rw [e]; exact h0
   ·exact pivRow_none h k (by omega) (by omega)
  ·cases h
theorem pivRow_some {f : RM} {col : Nat} : ∀ {n i r : Nat}, pivRow f col n i = some r → i ≤ r ∧ r < i + n ∧ f r col ≠ 0 ∧ ∀ k, i ≤ k → k < r → f k col = 0
 | 0, i, r, h => by cases h
 | n + 1, i, r, h => by
  unfold pivRow at h
  split at h
  ·rename_i h0
   obtain ⟨h1, h2, h3, h4⟩ := pivRow_some h
   refine ⟨by omega, by omega, h3, fun k hk hr => ?_⟩
   by_cases e : k = i
   ·rw [e]; exact h0
   ·exact h4 k (by omega) hr
  ·rename_i h0
   cases h
   exact ⟨Nat.le_refl _, by omega, h0, fun k h1 h2 => by omega⟩
def swp (f : RM) (a b : Nat) : RM := fun i => if i = a then f b else if i = b then f a else f i
def clr (f : RM) (p col : Nat) : RM := fun i k => if i = p then (f p col)⁻¹ * f p k else -(f i col) * ((f p col)⁻¹ * f p k) + f i k
def estep (n col : Nat) (s : RM × List Nat) : RM × List Nat :=
 match pivRow s.1 col (n - s.2.length) s.2.length with
 | none => s
 | some r => (clr (swp s.1 r s.2.length) s.2.length col, s.2 ++ [col])
def elim (n : Nat) (f : RM) : Nat → RM × List Nat
 | 0 => (f, [])
 | c + 1 => estep n c (elim n f c)
section
variable {n C a b : Nat} {f : RM}
end
theorem getD_snoc_lt {p : List Nat} {c j : Nat} (h : j < p.length) : (p ++ [c]).getD j 0 = p.getD j 0 := by
 simp [List.getD_eq_getElem?_getD, List.getElem?_append_left h]
theorem getD_snoc_eq {p : List Nat} {c : Nat} : (p ++ [c]).getD p.length 0 = c := by
 simp [List.getD_eq_getElem?_getD]
/-- reduced row echelon form in the columns below c, with the pivots p -/
structure Ech (n c : Nat) (g : RM) (p : List Nat) : Prop where
 len : p.length ≤ n
 lt : ∀ j, j < p.length → p.getD j 0 < c
 inc : ∀ j, j + 1 < p.length → p.getD j 0 < p.getD (j + 1) 0
 one : ∀ i j, i < n → j < p.length → g i (p.getD j 0) = if i = j then 1 else 0
 low : ∀ i k, i < p.length → k < p.getD i 0 → g i k = 0
 nil : ∀ i k, p.length ≤ i → i < n → k < c → g i k = 0
theorem Ech.mono {n c : Nat} {g : RM} {p : List Nat} (h : Ech n c g p) : ∀ {i j : Nat}, i < j → j < p.length → p.getD i 0 < p.getD j 0 := by
 intro i j hij hj
 induction j with
 | zero => omega
 | succ j ih =>
  have h1 := h.inc j hj
  by_cases e : i = j
  ·subst e; exact h1
  ·have := ih (by omega) (by omega); omega
theorem Ech.inj {n c : Nat} {g : RM} {p : List Nat} (h : Ech n c g p) {i j : Nat} (hi : i < p.length) (hj : j < p.length) (e : p.getD i 0 = p.getD j 0) : i = j := by
 rcases Nat.lt_trichotomy i j with h1 | h1 | h1
 ·have := h.mono h1 hj; omega
 ·exact h1
 ·have := h.mono h1 hi; omega
theorem Ech.start (n : Nat) (f : RM) : Ech n 0 f [] :=
 ⟨Nat.zero_le _, fun j h => absurd h (Nat.not_lt_zero _), fun j h => absurd h (Nat.not_lt_zero _), fun i j _ h => absurd h (Nat.not_lt_zero _), fun i k h => absurd h (Nat.not_lt_zero _), fun i k _ _ h => absurd h (Nat.not_lt_zero _)⟩
theorem Ech.step {n c : Nat} {s : RM × List Nat} (h : Ech n c s.1 s.2) : Ech n (c + 1) (estep n c s).1 (estep n c s).2 := by
 obtain ⟨g, p⟩ := s
 replace h : Ech n c g p := h
 unfold estep
 simp only
 split
 ·rename_i hn
  refine ⟨h.len, fun j hj => Nat.lt_succ_of_lt (h.lt j hj), h.inc, h.one, h.low, fun i k h1 h2 h3 => ?_⟩
  by_cases hk : k = c
  ·subst hk
   have := h.len
   exact pivRow_none hn i h1 (by omega)
  ·exact h.nil i k h1 h2 (by omega)
 ·rename_i r hr
  obtain ⟨h1, h2, h3, _⟩ := pivRow_some hr
  have hq := h.len
  have hrn : r < n := by omega
  have hqn : p.length < n := by omega
  have sq : ∀ k, swp g r p.length p.length k = g r k := fun k => by
   unfold swp
   by_cases e : p.length = r
   ·simp [← e]
   ·simp [e]
  have sl : ∀ i k, i < p.length → swp g r p.length i k = g i k := fun i k hi => by
   unfold swp
   rw [if_neg (by omega), if_neg (by omega)]
  have sh : ∀ i, p.length ≤ i → i < n → ∃ t, p.length ≤ t ∧ t < n ∧ ∀ k, swp g r p.length i k = g t k := fun i hi hn => by
   unfold swp
   by_cases e1 : i = r
   ·exact ⟨p.length, Nat.le_refl _, hqn, fun k => by simp [e1]⟩
   ·by_cases e2 : i = p.length
    ·exact ⟨r, h1, hrn, fun k => by rw [if_neg e1, if_pos e2]⟩
    ·exact ⟨i, hi, hn, fun k => by simp [e1, e2]⟩
  have zr : ∀ k, k < c → g r k = 0 := fun k hk => h.nil r k h1 hrn hk
  have cq : ∀ k, clr (swp g r p.length) p.length c p.length k = (g r c)⁻¹ * g r k := fun k => by
   unfold clr; rw [if_pos rfl, sq, sq]
  have ci : ∀ i k, i ≠ p.length → clr (swp g r p.length) p.length c i k = -(swp g r p.length i c) * ((g r c)⁻¹ * g r k) + swp g r p.length i k := fun i k hi => by
   unfold clr; rw [if_neg hi, sq, sq]
  have one1 : (g r c)⁻¹ * g r c = 1 := Rat.inv_mul_cancel _ h3
  show Ech n (c + 1) (clr (swp g r p.length) p.length c) (p ++ [c])
  refine ⟨by simp; omega, fun j hj => ?_, fun j hj => ?_, fun i j hi hj => ?_, fun i k hi hk => ?_, fun i k hi hn hk => ?_⟩
  ·simp only [List.length_append, List.length_cons, List.length_nil] at hj
   by_cases e : j = p.length
   ·subst e; rw [getD_snoc_eq]; omega
   ·rw [getD_snoc_lt (by omega)]; have := h.lt j (by omega); omega
  ·simp only [List.length_append, List.length_cons, List.length_nil] at hj
   rw [getD_snoc_lt (by omega)]
   by_cases e : j + 1 = p.length
   ·rw [e, getD_snoc_eq]; exact h.lt j (by omega)
   ·rw [getD_snoc_lt (by omega)]; exact h.inc j (by omega)
  ·simp only [List.length_append, List.length_cons, List.length_nil] at hj
   by_cases e : j = p.length
   ·subst e
    rw [getD_snoc_eq]
    by_cases ei : i = p.length
    ·rw [ei, cq, one1, if_pos rfl]
    ·rw [ci i c ei, one1, if_neg ei]; grind
   ·rw [getD_snoc_lt (by omega)]
    have hj' : j < p.length := by omega
    have hz : g r (p.getD j 0) = 0 := zr _ (h.lt j hj')
    by_cases ei : i = p.length
    ·rw [ei, cq, hz, Rat.mul_zero, if_neg (by omega)]
    ·rw [ci _ _ ei, hz, Rat.mul_zero, Rat.mul_zero, Rat.zero_add]
     by_cases hi' : i < p.length
     ·rw [sl i _ hi', h.one i j hi hj']
     ·obtain ⟨t, ht1, ht2, ht3⟩ := sh i (by omega) hi
      rw [ht3, h.one t j ht2 hj', if_neg (by omega), if_neg (by omega)]
  ·simp only [List.length_append, List.length_cons, List.length_nil] at hi
   by_cases e : i = p.length
   ·subst e
    rw [getD_snoc_eq] at hk
    rw [cq, zr k hk, Rat.mul_zero]
   ·have hi' : i < p.length := by omega
    rw [getD_snoc_lt hi'] at hk
    have := h.lt i hi'
    rw [ci i k e, zr k (by omega), Rat.mul_zero, Rat.mul_zero, Rat.zero_add, sl i k hi', h.low i k hi' hk]
  ·simp only [List.length_append, List.length_cons, List.length_nil] at hi
   rw [ci i k (by omega)]
   obtain ⟨t, ht1, ht2, ht3⟩ := sh i (by omega) hn
   by_cases e : k = c
   ·subst e; rw [one1]; grind
   ·rw [zr k (by omega), Rat.mul_zero, Rat.mul_zero, Rat.zero_add, ht3, h.nil t k ht1 ht2 (by omega)]
theorem elim_ech (n : Nat) (f : RM) : ∀ c, Ech n c (elim n f c).1 (elim n f c).2
 | 0 => Ech.start n f
 | c + 1 => (elim_ech n f c).step
/-- the rows are combinations of each other -/
def Req (n C : Nat) (f g : RM) : Prop := (∀ i, i < n → Spn n C f (g i)) ∧ (∀ i, i < n → Spn n C g (f i))
theorem Req.refl (n C : Nat) (f : RM) : Req n C f f := ⟨fun _ h => Spn.row h, fun _ h => Spn.row h⟩
theorem Req.trans {n C : Nat} {f g h : RM} (a : Req n C f g) (b : Req n C g h) : Req n C f h :=
 ⟨fun i hi => (b.1 i hi).trans a.1, fun i hi => (a.2 i hi).trans b.2⟩
def Agf (n C : Nat) (f g : RM) : Prop := ∀ i k, i < n → k < C → f i k = g i k
section
variable {n C : Nat} {g f : RM} {p : List Nat} {v : Nat → Rat}
end
end Go.Kx

namespace Go.Kx
def mulRow (f : RM) (r : Nat) (c : Rat) : RM := fun i k => if i = r then c * f i k else f i k
def addRow (f : RM) (a b : Nat) (c : Rat) : RM := fun i k => if i = a then f a k + c * f b k else f i k
def pos (k b : Nat) : Nat := if b < k then b else b - 1
def estepD (n col : Nat) (s : RM × List Nat) (d : Rat) : Rat :=
 match pivRow s.1 col (n - s.2.length) s.2.length with
 | none => d
 | some r => (if r = s.2.length then d else -d) * s.1 r col
def elimD (n : Nat) (f : RM) : Nat → Rat
 | 0 => 1
 | c + 1 => estepD n c (elim n f c) (elimD n f c)
structure RowOp (n : Nat) (D : RM → Rat) : Prop where
 congr : ∀ f g, Agf n n f g → D f = D g
 swap : ∀ f a b, a < n → b < n → a ≠ b → D (swp f a b) = - D f
 mul : ∀ f r c, r < n → D (mulRow f r c) = c * D f
 add : ∀ f a b c, a < n → b < n → a ≠ b → D (addRow f a b c) = D f
/-- rows below m are cleared -/
def clrTo (f : RM) (p col m : Nat) : RM := fun i k => if i = p then (f p col)⁻¹ * f p k else if i < m then -(f i col) * ((f p col)⁻¹ * f p k) + f i k else f i k
theorem RowOp.clr {n : Nat} {D : RM → Rat} (h : RowOp n D) {f : RM} {p col : Nat} (hp : p < n) (h0 : f p col ≠ 0) : D f = f p col * D (clr f p col) := by
 have key : ∀ m, m ≤ n → D (clrTo f p col m) = (f p col)⁻¹ * D f := by
  intro m
  induction m with
  | zero =>
   intro _
   rw [← h.mul f p _ hp]
   refine h.congr _ _ fun i k _ _ => ?_
   unfold clrTo mulRow
   by_cases e : i = p
   ·simp [e]
   ·simp [e]
  | succ m ih =>
   intro hm
   rw [← ih (by omega)]
   by_cases e : m = p
   ·refine h.congr _ _ fun i k _ _ => ?_
    unfold clrTo
    by_cases ei : i = p
    ·simp [ei]
    ·rw [if_neg ei, if_neg ei]
     by_cases hi : i < m
     ·rw [if_pos hi, if_pos (by omega)]
     ·rw [if_neg hi, if_neg (by omega)]
   ·rw [← h.add (clrTo f p col m) m p (-(f m col)) (by omega) hp e]
    refine h.congr _ _ fun i k _ _ => ?_
    unfold addRow clrTo
    by_cases ei : i = m
    ·subst ei
     rw [if_neg e, if_pos (by omega), if_pos rfl, if_neg e, if_neg (by omega), if_pos rfl]; grind
    ·rw [if_neg ei]
     by_cases ep : i = p
     ·rw [if_pos ep, if_pos ep]
     ·rw [if_neg ep, if_neg ep]
      by_cases hi : i < m
      ·rw [if_pos hi, if_pos (by omega)]
      ·rw [if_neg hi, if_neg (by omega)]
 have e : D (Kx.clr f p col) = D (clrTo f p col n) := h.congr _ _ fun i k hi _ => by
  unfold Kx.clr clrTo
  by_cases ei : i = p
  ·simp [ei]
  ·simp [ei, hi]
 rw [e, key n (Nat.le_refl _), ← Rat.mul_assoc, Rat.mul_inv_cancel _ h0, Rat.one_mul]
theorem RowOp.elim {n : Nat} {D : RM → Rat} (h : RowOp n D) (f : RM) : ∀ c, D f = elimD n f c * D (elim n f c).1
 | 0 => by show D f = 1 * D f; rw [Rat.one_mul]
 | c + 1 => by
  rw [RowOp.elim h f c]
  have hl := (elim_ech n f c).len
  have e1 : Kx.elim n f (c + 1) = estep n c (Kx.elim n f c) := rfl
  have e2 : elimD n f (c + 1) = estepD n c (Kx.elim n f c) (elimD n f c) := rfl
  rw [e1, e2]
  unfold estepD estep
  cases hr : pivRow (Kx.elim n f c).1 c (n - (Kx.elim n f c).2.length) (Kx.elim n f c).2.length with
  | none => rfl
  | some r =>
   obtain ⟨h1, h2, h3, _⟩ := pivRow_some hr
   simp only
   generalize (Kx.elim n f c).1 = g at *
   generalize (Kx.elim n f c).2.length = q at *
   have sq : swp g r q q c = g r c := by
    unfold swp
    by_cases e : q = r
    ·simp [e]
    ·simp [e]
   have hD := h.clr (f := swp g r q) (p := q) (col := c) (by omega) (by rw [sq]; exact h3)
   rw [sq] at hD
   by_cases e : r = q
   ·have : D (swp g r q) = D g := h.congr _ _ fun i k _ _ => by
     unfold swp
     by_cases ei : i = q
     ·simp [e, ei]
     ·simp [e, ei]
    rw [if_pos e, ← this, hD]; grind
   ·have : D (swp g r q) = - D g := h.swap g r q (by omega) (by omega) e
    have h4 : D g = - D (swp g r q) := by rw [this]; grind
    rw [if_neg e, h4, hD]; grind
end Go.Kx

namespace Go.Kx
def bd (L : Nat) : Nat → Nat
 | 0 => L
 | k + 1 => 4 * bd L k + 1
theorem bd_le (L k : Nat) : bd L k ≤ bd L (k + 1) := by rw [bd]; omega
theorem bd_mono (L : Nat) {j k : Nat} (h : j ≤ k) : bd L j ≤ bd L k := by
 induction k with
 | zero => rw [show j = 0 by omega]; exact Nat.le_refl _
 | succ k ih =>
  by_cases e : j = k + 1
  ·rw [e]; exact Nat.le_refl _
  ·exact Nat.le_trans (ih (by omega)) (bd_le L k)
end Go.Kx
namespace Go.Kx
end Go.Kx

namespace Go.Proofs.YteghbhdniimjbaaGreat
open Go Go.Kx Go.RowKit
end Go.Proofs.YteghbhdniimjbaaGreat

namespace Go.Proofs.YteghbhdniimjbaaGreat
open Go Go.Kx Go.RowKit
end Go.Proofs.YteghbhdniimjbaaGreat

namespace Go.Kx
open Go Go.RowKit
/-- an operation that depends on its operands alone -/
def PureAt (P : Program) (o : Oper) (ρ : Operand → Value) (v : Value) : Prop := ∀ ρ' : Operand → Value, (∀ x ∈ o.op.operands, ρ' x = ρ x) → ∀ w, (execOp ρ' o).run P w = .ok (.value v) w
section
variable {P : Program} {ro : Option Nat} {N : Nat} {ds : List Deferred} {ops : List Oper} {K : Env → World → Prop} {σ0 : Env} {w0 : World} {h : Nat} {sp : List Sp} {deps : List (List (Tmp × Nat))} {a0 : Act}
/-- behind one more operation of the head -/
theorem InvA.next {listed : Array Bool} {a : Act} {w w' : World} {i : Nat} {o : Oper} {s : Sp} {t0 : Tmp} {v : Value} (hI : InvA N ds ops w0 h sp a0 listed a w) (hsz : listed.size = ops.length) (hnd : (dsts ops).Nodup) (hih : i < h) (hin : i < ops.length) (ho : ops[i]? = some o)
  (hs : sp[i]? = some s) (ht0 : o.dst = some t0) (htN : t0 < N) (hed' : ∀ j, edgeTo o j = true → isL listed j) (he : Ext w w') (hv : Sp.ok s v w') : InvA N ds ops w0 h sp a0 (listed.setIfInBounds i true) (a.put o.dst v) w' := by
 refine ⟨by simpa [ht0, Act.put] using hI.size, by simpa [ht0, Act.put] using hI.defs, hI.ext.trans he, ?_, ?_, ?_, ?_⟩
 ·intro j oj sj t hj hoj hsj hlj hdj
  rw [isL_set (by omega)] at hlj
  by_cases e : i = j
  ·subst e
   rw [ho] at hoj; cases hoj
   rw [hs] at hsj; cases hsj
   rw [ht0] at hdj; cases hdj
   have : (a.put o.dst v).tmps.getD t0 undef = v := by simp [ht0, Act.put, hI.size, htN]
   rw [this]; exact hv
  ·have hlj' := hlj.resolve_left e
   have hne : t0 ≠ t := by
    intro e2
    subst e2
    exact e (dst_inj hnd ho hoj ht0 hdj)
   have : (a.put o.dst v).tmps.getD t undef = a.tmps.getD t undef := by simp [ht0, Act.put, Array.getElem?_setIfInBounds_ne hne]
   rw [this]
   exact Sp.ok_ext (hI.vals j oj sj t hj hoj hsj hlj' hdj) he
 ·intro t hno
  have hne : t0 ≠ t := fun e => hno i o hih ho ((isL_set (by omega)).2 (.inl rfl)) (e ▸ ht0)
  have : (a.put o.dst v).tmps.getD t undef = a.tmps.getD t undef := by simp [ht0, Act.put, Array.getElem?_setIfInBounds_ne hne]
  rw [this]
  exact hI.old t fun j oj hj hoj hlj => hno j oj hj hoj ((isL_set (by omega)).2 (.inr hlj))
 ·intro j oj hoj hlj k hk
  rw [isL_set (by omega)] at hlj ⊢
  by_cases e : i = j
  ·subst e
   rw [ho] at hoj; cases hoj
   exact .inr (hed' k hk)
  ·exact .inr (hI.shut j oj hoj (hlj.resolve_left e) k hk)
 ·intro j hj
  rw [isL_set (by omega)]
  rintro (e | e)
  ·omega
  ·exact hI.head j hj e
theorem PureAt.congr {P : Program} {o : Oper} {ρ ρ' : Operand → Value} {v : Value} (h : PureAt P o ρ v) (e : ∀ x ∈ o.op.operands, ρ' x = ρ x) : PureAt P o ρ' v := fun ρ'' h' w => h ρ'' (fun x hx => by rw [h' x hx, e x hx]) w
end
end Go.Kx

namespace Go.Kx
open Go Go.RowKit
/-- the set without the blocks of Z -/
abbrev but (S Z : Nat → Prop) : Nat → Prop := fun k => S k ∧ ¬ Z k
section
variable {α : Type} {E : ER α} {t : TypeId} {S : Nat → Prop} {w w' : World} {g : Nat} {l : List α}
end
end Go.Kx
namespace Go.Proofs.YteghbhdniimjbaaGreat
open Go Go.Kx Go.RowKit
abbrev pInts (p : List Nat) : List Int := p.map fun (k : Nat) => (k : Int)
end Go.Proofs.YteghbhdniimjbaaGreat

namespace Go.Kx
open Go Go.RowKit
section
variable {P : Program} {ro : Option Nat} {N : Nat} {Q : Pst} {σ : Env} {ds : List Deferred} {w : World}
end
section
variable {P : Program} {ro : Option Nat} {N : Nat} {ds : List Deferred} {ops : Array Oper} {K : Env → World → Prop} {rest : List Oper} {σ : Env} {w : World} {d : Tmp} {ty : TypeId} {pos : String} {af : Array Edge}
theorem RL.first {α : Type} {E : ER α} {hsz : 0 < E.sz} {S : Nat → Prop} {a : Option Addr} {n c H c' : Nat} {l : List α} (h : (RL E hsz).R S w (.slice a n c) l) (hH : H ≤ l.length) (hc : H ≤ c') : (RL E hsz).R S w (.slice a H c') (l.take H) := by
 have h1 := RL.sub h rfl 0 H (Nat.zero_le _) hH
 obtain ⟨es, he, a', c'', hv, h3, h4, h5, h6⟩ := h1
 have hl : ((l.take H).drop 0).length = H := by simp; omega
 rw [List.drop_zero] at *
 refine ⟨es, he, a, c', by rw [show (l.take H).length = H by simp; omega], by rw [show (l.take H).length = H by simp; omega]; exact hc, h4, h5, fun hn => ?_⟩
 obtain ⟨ad, ha, hS, hcl⟩ := h6 hn
 refine ⟨ad, ?_, hS, hcl⟩
 simp only [Nat.sub_zero, Nat.zero_mul] at hv
 injection hv with e1 e2 e3
 rw [← ha, ← e1]
 obtain ⟨_, _, _, hv2, hcc, _⟩ := h
 split
 ·rfl
 ·cases a with
  | none => rfl
  | some x => rfl
end
/-! a matrix with a new row h at i that is still being filled -/
def FBx (t : TypeId) (S : Nat → Prop) (w : World) (gb h i : Nat) (hv : Value) (l : List (List QV)) : Prop :=
 ∃ es, Blk w gb t (cellsOf es).toArray ∧ es.length = l.length ∧ (∀ e ∈ es, e.cells.size = 1) ∧ es[i]? = some hv ∧ ∀ (j : Nat) (e : Value) (x : List QV), j ≠ i → es[j]? = some e → l[j]? = some x → eV.R (fun k => (S k ∧ k ≠ gb) ∧ k ≠ h) w e x
section
variable {t : TypeId} {S : Nat → Prop} {w w' : World} {gb h i : Nat} {hv : Value} {l : List (List QV)}
theorem FBx.keep (hF : FBx t S w gb h i hv l) (hk : Kp (fun k => k ≠ h) w w') (hg : gb ≠ h) : FBx t S w' gb h i hv l := by
 obtain ⟨es, h1, h2, h3, h4, h5⟩ := hF
 exact ⟨es, hk.blk hg h1, h2, h3, h4, fun j e x hj he hx => eV.keep (fun k c t f hh hc => hk k c t f hh.2 hc) (h5 j e x hj he hx)⟩
theorem FBx.done {r : List QV} (hF : FBx t S w gb h i hv l) (hr : eV.R (fun k => S k ∧ k ≠ gb) w hv r) : FB eV t S w gb (l.set i r) := by
 obtain ⟨es, h1, h2, h3, h4, h5⟩ := hF
 refine ⟨es, h1, by simp [h2], fun j e x he hx => ?_⟩
 by_cases hj : j = i
 ·subst hj
  rw [h4] at he; cases he
  rw [List.getElem?_set_self (by rw [← h2]; exact (List.getElem?_eq_some_iff.1 h4).1)] at hx
  cases hx; exact hr
 ·rw [List.getElem?_set_ne (fun e => hj e.symm)] at hx
  exact eV.mono (fun k _ hk => hk.1) (h5 j e x hj he hx)
/-- the store of the new row's slice -/
theorem FBx.start {P : Program} {σ : Env} {ty : TypeId} {pos : String} {af : Array Edge} {dd : Option Tmp} {gd : Option (Nat × Bool)} {tt : TypeId} {x y : Operand} {w1 : World} {tq : TypeId} {cs : Array Value} {n c : Nat} (ht : tyOf P tt = some (false, 1)) (hF : FB eV t S w gb l) (hn : New w w1 h tq cs) (hi : i < l.length)
  (hx : ev σ x = some (.pointer (some ⟨gb, 0 + i * 1, none⟩))) (hy : ev σ y = some (.slice (some ⟨h, 0, none⟩) n c)) :
  Gv P ⟨dd, .store tt x y, ty, pos, af, gd⟩ σ w1 fun _ w' => FBx t S w' gb h i (.slice (some ⟨h, 0, none⟩) n c) l ∧ Upd w1 w' gb ∧ Blk w' h tq cs ∧ gb ≠ h := by
 obtain ⟨e1, k1, hh, hs⟩ := hn
 have hlt := hF.lt
 obtain ⟨es, hb, hels⟩ := hF
 have hesz := hels.sz
 have hle : i * 1 + 1 ≤ (cellsOf es).toArray.size := by
  rw [List.size_toArray, cellsOf_length es hesz, hels.1]; show i * 1 + 1 ≤ l.length * 1; omega
 refine (g_store (n := 1) ht (by rw [hx, Nat.zero_add]) hy (hb.ext e1) rfl hle (by simp [one1, Value.cells])).mono ?_
 rintro _ w2 ⟨hB', u⟩
 have hset := cellsOf_set (sz := 1) (by decide) es i (.slice (some ⟨h, 0, none⟩) n c) hesz rfl (by rw [hels.1]; exact hi)
 have hne : gb ≠ h := by omega
 rw [hset] at hB'
 refine ⟨⟨es.set i (.slice (some ⟨h, 0, none⟩) n c), hB', by simp [hels.1], fun e he => ?_, ?_, fun j e x hj he hx' => ?_⟩, u, k1.upd u (fun e => hne e.symm), hne⟩
 ·rcases List.mem_or_eq_of_mem_set he with h' | h'
  ·exact hesz e h'
  ·rw [h']; rfl
 ·rw [List.getElem?_set_self (by rw [hels.1]; exact hi)]
 ·rw [List.getElem?_set_ne (fun e => hj e.symm)] at he
  have h1 := ER.lt eV (hels.2 j e x he hx')
  have h2 := (ER.ext eV h1 e1).upd u (fun hh => hh.1.2 rfl)
  exact eV.mono (fun k _ hk => ⟨hk.1, by have := hk.2; omega⟩) h2
end
end Go.Kx

namespace Go.Kx
open Go Go.RowKit
/-- the reduced form of a matrix and its pivots -/
def redF (m : List (List QV)) : RM := (elim m.length (rm m) (colsOf m)).1
def redP (m : List (List QV)) : List Nat := (elim m.length (rm m) (colsOf m)).2
def redM (m : List (List QV)) : List (List QV) := tabM (redP m).length (colsOf m) (redF m)
end Go.Kx
namespace Go.Proofs.YteghbhdniimjbaaGreat
open Go Go.Kx Go.RowKit
/-- matrices that elimination may take -/
structure eOk (L n C : Nat) (m : List (List QV)) : Prop where
 k : mk_ L m
 l1 : 1 ≤ L
 bd : bd L n ≤ 40000000
 mn : min m.length (colsOf m) ≤ n
 rows : m.length ≤ 100
 cols : colsOf m ≤ C
 c1 : C ≤ 100
theorem eOk.le {L n C : Nat} {m : List (List QV)} (h : eOk L n C m) : L ≤ 40000000 := Nat.le_trans (bd_mono L (Nat.zero_le n)) h.bd
end Go.Proofs.YteghbhdniimjbaaGreat

namespace Go.Proofs.YteghbhdniimjbaaGreat
open Go Go.Kx Go.RowKit
theorem E_ref04_cut : Ent Tryz.prog 100 := ent_of Tryz.func100 (by kernel_rfl) rfl
theorem ref04_cut_c {w : World} {n : Int} : CR Tryz.prog 100 #[.int .i64 n] w (Is (.int .i64 (cutN n))) := by
 refine enter Tryz.func100 rfl Tryz.ntmps100 rfl ?_
 refine .seq (.region (.asg rfl rfl (.nil (.seq (.region (.mv rfl rfl (.max_ rfl rfl rfl (.min_ rfl rfl rfl (.asg rfl rfl (.nil (.ret ?_)))))))))))
 refine .plain [_] Tryz.results100 ⟨rfl, trivial⟩ ⟨Ext.refl _, ?_⟩
 show Value.int .i64 (min (max n 0) 1024) = _
 rw [show min (max n 0) 1024 = ((cutN n : Nat) : Int) by unfold cutN; omega]
theorem E_ref04_Fit : Ent Tryz.prog 27 := ent_of Tryz.func27 (by kernel_rfl) rfl
theorem ref04_Fit_c {S : Nat → Prop} {w : World} {vm : Value} {m : List (List QV)} {r c : Int} {L : Nat} (up : Up S w) (hm : eM.R S w vm m) (hk : mk_ L m) (hL : 1 ≤ L) (hL2 : L ≤ 100000000) :
  CR Tryz.prog 27 #[vm, .int .i64 r, .int .i64 c] w (fun v W => OwnL eV 42 w.heap.size S W v (tabM (cutN r) (cutN c) (rm m))) := by
 have hr := cutN_le r
 have hc := cutN_le c
 refine enter Tryz.func27 rfl Tryz.ntmps27 rfl ?_
 refine .seq (.region (.asg rfl rfl (.nil (.seq (.region (.mv rfl rfl ?_))))))
 refine .call _ rfl E_ref04_cut rfl ref04_cut_c fun v1 w1 e1 h1 => .mv rfl rfl ?_
 subst h1
 refine .call _ rfl E_ref04_cut rfl ref04_cut_c fun v2 w2 e2 h2 => ?_
 subst h2
 have x2 := e1.trans e2
 refine .call _ rfl E_ref02_Int rfl (ref02_Int_c (S := S) (up.ext x2.size) (by decide) (by decide)) fun v3 w3 e3 h3 => .mv rfl rfl ?_
 have x3 := x2.trans e3
 have hk1 : qk L (qc ((1 : Int) : Rat)) := qk_qc (Rsz.int 1 (Nat.lt_of_lt_of_le (by decide) (Nat.pow_le_pow_right (by decide) hL)) hL)
 refine .call _ rfl E_ref04_made rfl (ref04_madeF_c (k := qc ((1 : Int) : Rat)) (b := []) (f := rm m) (up.ext x3.size) h3 (ER.ext eM hm x3) RL.nil (by omega) (by omega) fun {T W i j} u hk' ha hb hi hj => by
  have := ref04_place0_c (i := i) (j := j) (vb := .slice none 0 0) u hk' ha hk1 hk hL hL2
  rw [qval_qc, rmI_nat, show (((1 : Int) : Rat)) * rm m i j = rm m i j by grind] at this
  exact this) fun v4 w4 e4 h4 => .asg rfl rfl (.nil (.ret ?_))
 exact .plain [_] Tryz.results27 ⟨rfl, trivial⟩ ⟨x3.trans e4, OwnL.base h4 x3.size⟩
end Go.Proofs.YteghbhdniimjbaaGreat

namespace Go.Proofs.YteghbhdniimjbaaGreat
open Go Go.Kx Go.RowKit
def uniR (k : Int) : Nat → Rat := fun i => if (i : Int) = k then 1 else 0
theorem E_ref03_Unit : Ent Tryz.prog 104 := ent_of Tryz.func104 (by kernel_rfl) rfl
theorem ref03_Unit_c {S : Nat → Prop} {w : World} {n : Nat} {k : Int} (up : Up S w) (hn : n ≤ 65536) : CR Tryz.prog 104 #[.int .i64 (n : Nat), .int .i64 k] w (fun v W => OwnL eQ 32 w.heap.size S W v (tab n (uniR k))) := by
 refine enter Tryz.func104 rfl Tryz.ntmps104 rfl ?_
 refine .seq (.region (.asg rfl rfl (.nil (.seq (.region (.asg rfl rfl (.nil (.seq (.seq (.region (.asg rfl rfl (.nil ?_))))))))))))
 generalize hf : (fun i => qc (uniR k i)) = f
 refine .block (.loop (α := Nat × Value) (fun x => [(0, .int .i64 (n : Nat)), (1, .int .i64 k), (5, x.2), (6, .int .i64 (x.1 : Nat))]) (fun x W => Below w.heap.size w W ∧ x.1 ≤ n ∧ OwnL eQ 32 w.heap.size S W x.2 ((List.range x.1).map f)) (fun x => n - x.1) (0, .slice none 0 0) ?_ ?_ ?_)
 ·exact look_cons rfl (look_cons rfl (look_cons rfl (look_cons rfl look_nil)))
 ·exact ⟨Below.refl _ _, Nat.zero_le _, OwnL.nil⟩
 rintro ⟨i, u⟩ W ⟨hB, hi, ho⟩
 replace hB : Below w.heap.size w W := hB
 replace hi : i ≤ n := hi
 replace ho : OwnL eQ 32 w.heap.size S W u ((List.range i).map f) := ho
 have hsz := hB.size
 refine .seq (.seq (.region (.mv rfl rfl (.mv rfl rfl ?_))))
 by_cases hlt : i < n
 rotate_left
 ·refine .lssF rfl rfl rfl (by omega) (.mv rfl rfl (.gs rfl rfl rfl rfl rfl (.gs rfl rfl rfl rfl rfl (.pick rfl rfl rfl (.nil (.condF rfl (.exit (.seq (.region (.mv rfl rfl (.asg rfl rfl (.nil (.ret ?_)))))))))))))
  have : i = n := by omega
  subst this
  refine .plain [_] Tryz.results104 ⟨rfl, trivial⟩ ⟨hB, ?_⟩
  unfold tab
  rw [hf]
  exact ho
 obtain ⟨es, ho1, ho2⟩ := id ho
 refine .lssT rfl rfl rfl (by omega) (.mv rfl rfl (.gr rfl rfl rfl rfl (.mv rfl rfl (.gr rfl rfl rfl rfl (.lssT rfl rfl rfl (by omega) (.pick rfl rfl rfl (.nil (.condT rfl (.skip (.seq (.block (.seq (.region (.bld [] rfl rfl bld_Q0 (.alloc rfl zero_Q fun W1 b7 n1 => ?_)))))))))))))))
 obtain ⟨e1, k7, hb7, hs1⟩ := n1
 have hub : u.ownBlock ≠ some b7 := fun h => by have := (ho1.lt b7 h).2; omega
 refine .storeA (E := eQ) (S := fun k' => (S k' ∧ u.ownBlock ≠ some k') ∧ k' ≠ b7) (z := q0) ty_Q rfl rfl k7 rfl rfl ⟨_, _, rfl, RL.nil, RL.nil⟩ (fun h => h.2 rfl) fun W2 k7 u2 h7 => .nil ?_
 have x2 : Ext W W2 := u2.below e1 (by omega)
 have hs2 := u2.size
 refine .mid (α := Value) (fun _ => [(0, .int .i64 (n : Nat)), (1, .int .i64 k), (5, u), (6, .int .i64 (i : Nat)), (7, .pointer (some ⟨b7, 0, none⟩))]) (fun v W3 => Ext W W3 ∧ Blk W3 b7 32 v.cells ∧ eQ.R (fun k' => (S k' ∧ u.ownBlock ≠ some k') ∧ k' ≠ b7) W3 v (f i)) ?_ ?_
 ·refine .seq (.region (.mv rfl rfl (.mv rfl rfl ?_)))
  by_cases hk : (i : Int) = k
  ·refine .eqlT rfl rfl rfl hk (.nil (.condT rfl (.region ?_)))
   refine .call _ rfl E_ref02_Int rfl (ref02_Int_c (S := fun k' => (S k' ∧ u.ownBlock ≠ some k') ∧ k' ≠ b7) (fun k' hk' => ⟨⟨up k' (by omega), fun h => by have := (ho1.lt k' h).2; omega⟩, by omega⟩) (by decide) (by decide)) fun v3 W3 e3 h3 => ?_
   refine .storeA (E := eQ) ty_Q rfl rfl (k7.ext e3) rfl rfl h3 (fun h => h.2 rfl) fun W4 k7 u4 h4 => .nil ?_
   refine ⟨rfl, v3, look_cons rfl (look_cons rfl (look_cons rfl (look_cons rfl (look_cons rfl look_nil)))), u4.below (x2.trans e3) (by omega), k7, ?_⟩
   rw [← hf]
   show eQ.R _ _ _ (qc (uniR k i))
   unfold uniR
   rw [if_pos hk]
   exact h4
  ·refine .eqlF rfl rfl rfl hk (.nil (.condF rfl (.skip ?_)))
   refine ⟨rfl, _, look_cons rfl (look_cons rfl (look_cons rfl (look_cons rfl (look_cons rfl look_nil)))), x2, k7, ?_⟩
   rw [← hf]
   show eQ.R _ _ _ (qc (uniR k i))
   unfold uniR
   rw [if_neg hk, qc_zero]
   exact h7
 rintro v W3 ⟨x3, k7, h7⟩
 have hv := shpA rfl h7
 have hr' := h7
 refine .region (.mv rfl rfl (.ldA ty_Q rfl rfl k7 (eQ.csz h7) ?_))
 rw [← hv]
 obtain ⟨s, t, rfl, _, _⟩ := hr'
 refine .bsl _ rfl rfl bsl_V1 fun W4 b4 n4 => ?_
 obtain ⟨e4, k4, hb4, hs4⟩ := n4
 have e14 := x3.trans e4
 have hB4 : Below w.heap.size w W4 := hB.trans (e14.mono hsz)
 refine .gv rfl rfl (g_appL (E := eQ) (base := w.heap.size) (n := f i) (by decide) un_V info_Q rfl rfl rfl (ho.ext e14) k4 (eQ.mono (fun k' _ h => h.1) (h7.ext e4)) (by simp; omega) (by decide) hB4.size) ?_
 rintro v5 W5 ⟨ho5, hg5⟩
 refine .asg rfl rfl (.nil (.region (.mv rfl rfl (.add rfl rfl rfl (.asg rfl rfl (.nil ?_))))))
 rw [wI (by omega)]
 refine ⟨rfl, (i + 1, v5), look_cons rfl (look_cons rfl (look_cons rfl (look_cons rfl look_nil))), ⟨(ho.ext e14).below hg5 hB4 hB4.size, hlt, ?_⟩, by show n - (i + 1) < n - i; omega⟩
 show OwnL eQ 32 w.heap.size S W5 v5 ((List.range (i + 1)).map f)
 rw [List.range_succ, List.map_append]
 exact ho5
end Go.Proofs.YteghbhdniimjbaaGreat

namespace Go.Proofs.YteghbhdniimjbaaGreat
open Go Go.Kx Go.RowKit
theorem sgnR_0 {x : Rat} : sgnR x = 0 ↔ x = 0 := by
 unfold sgnR
 rw [Int.sign_eq_zero_iff_zero]
 exact Rat.num_eq_zero
theorem E_ref03_Lex : Ent Tryz.prog 94 := ent_of Tryz.func94 (by kernel_rfl) rfl
theorem ref03_Lex_c {S : Nat → Prop} {w : World} {va vb : Value} {a b : List QV} {L : Nat} (up : Up S w) (ha : eV.R S w va a) (hb : eV.R S w vb b) (hka : vk L a) (hkb : vk L b) (hL : 1 ≤ L) (hL2 : L ≤ 100000000) :
  CR Tryz.prog 94 #[va, vb] w (fun v _ => ∃ c : Int, v = .int .i64 c ∧ (c = 0 ↔ eqV a b)) := by
 obtain ⟨_, _, _, _, hla⟩ := RL.len ha
 obtain ⟨_, _, _, _, hlb⟩ := RL.len hb
 refine enter Tryz.func94 rfl Tryz.ntmps94 rfl ?_
 refine .seq (.region (.asg rfl rfl (.nil (.seq (.seq (.region (.asg rfl rfl (.nil ?_))))))))
 refine .block (.loop (α := Nat) (fun i => [(0, va), (1, vb), (5, .int .i64 (i : Nat))]) (fun i W => Ext w W ∧ i ≤ max a.length b.length ∧ ∀ j, j < i → rv a j = rv b j) (fun i => max a.length b.length - i) 0 ?_ ?_ ?_)
 ·exact look_cons rfl (look_cons rfl (look_cons rfl look_nil))
 ·exact ⟨Ext.refl _, Nat.zero_le _, fun j hj => absurd hj (Nat.not_lt_zero _)⟩
 rintro i W ⟨hW, hi, hall⟩
 refine .mid (α := Unit) (fun _ => [(0, va), (1, vb), (5, .int .i64 (i : Nat))]) (fun _ W' => W' = W ∧ i < max a.length b.length) ?_ ?_
 ·refine .seq (.region (.mv rfl rfl (.mv rfl rfl (.lenR un_V rfl rfl (ha.ext hW) ?_))))
  rcases Nat.lt_or_ge i a.length with h1 | h1
  ·refine .lssT rfl rfl rfl (by omega) (.mv rfl rfl (.gs rfl rfl rfl rfl rfl (.gs rfl rfl rfl rfl rfl (.gs rfl rfl rfl rfl rfl (.gs rfl rfl rfl rfl rfl (.pick rfl rfl rfl (.nil (.condT rfl (.skip ?_)))))))))
   exact ⟨rfl, (), look_cons rfl (look_cons rfl (look_cons rfl look_nil)), rfl, by omega⟩
  ·refine .lssF rfl rfl rfl (by omega) (.mv rfl rfl (.gr rfl rfl rfl rfl (.mv rfl rfl (.gr rfl rfl rfl rfl (.mv rfl rfl (.gr rfl rfl rfl rfl (.lenR un_V rfl rfl (hb.ext hW) (.gr rfl rfl rfl rfl ?_))))))))
   rcases Nat.lt_or_ge i b.length with h2 | h2
   ·refine .lssT rfl rfl rfl (by omega) (.pick rfl rfl rfl (.nil (.condT rfl (.skip ?_))))
    exact ⟨rfl, (), look_cons rfl (look_cons rfl (look_cons rfl look_nil)), rfl, by omega⟩
   ·refine .lssF rfl rfl rfl (by omega) (.pick rfl rfl rfl (.nil (.condF rfl (.exit (.seq (.region (.asg rfl rfl (.nil (.ret ?_)))))))))
    refine .plain [_] Tryz.results94 ⟨rfl, trivial⟩ ⟨hW, _, rfl, ?_⟩
    refine ⟨fun _ k => ?_, fun _ => rfl⟩
    rcases Nat.lt_or_ge k i with hk | hk
    ·exact hall k hk
    ·rw [rv_out (by omega), rv_out (by omega)]
 rintro _ W' ⟨rfl, hlt⟩
 refine .seq (.block (.seq (.region (.mv rfl rfl (.mv rfl rfl ?_)))))
 refine .call _ rfl E_ref03_At rfl (ref03_At_c (i := (i : Nat)) (ha.ext hW)) fun v1 w1 e1 h1 => .mv rfl rfl (.mv rfl rfl ?_)
 refine .call _ rfl E_ref03_At rfl (ref03_At_c (i := (i : Nat)) ((hb.ext hW).ext e1)) fun v2 w2 e2 h2 => ?_
 rw [atI_nat] at h1 h2
 refine .call _ rfl E_ref02_Cmp rfl (ref02_Cmp_c (L := L) (up.ext ((hW.trans e1).trans e2).size) (ER.ext eQ h1 e2) h2 (hka.get hL i) (hkb.get hL i) hL hL2) fun v3 w3 e3 h3 => .asg rfl rfl (.nil ?_)
 subst h3
 have xW := ((hW.trans e1).trans e2).trans e3
 refine .seq (.region (.mv rfl rfl ?_))
 by_cases hc : sgnR (qval (a.getD i q0) - qval (b.getD i q0)) = 0
 ·refine .neqF rfl rfl rfl hc (.nil (.condF rfl (.skip (.region (.mv rfl rfl (.add rfl rfl rfl (.asg rfl rfl (.nil ?_))))))))
  rw [wI (by omega)]
  refine ⟨rfl, i + 1, look_cons rfl (look_cons rfl (look_cons rfl look_nil)), ⟨xW, hlt, fun j hj => ?_⟩, by show max a.length b.length - (i + 1) < max a.length b.length - i; omega⟩
  by_cases e : j = i
  ·subst e
   have := sgnR_0.1 hc
   show qval (a.getD j q0) = qval (b.getD j q0)
   grind
  ·exact hall j (by omega)
 ·refine .neqT rfl rfl rfl hc (.nil (.condT rfl (.seq (.region (.mv rfl rfl (.asg rfl rfl (.nil (.ret ?_))))))))
  refine .plain [_] Tryz.results94 ⟨rfl, trivial⟩ ⟨xW, _, rfl, fun h => absurd h hc, fun h => absurd (sgnR_0.2 ?_) hc⟩
  have := h i
  unfold rv at this
  grind
theorem E_ref04_Same : Ent Tryz.prog 24 := ent_of Tryz.func24 (by kernel_rfl) rfl
theorem ref04_Same_c {S : Nat → Prop} {w : World} {va vb : Value} {a b : List (List QV)} {L : Nat} (up : Up S w) (ha : eM.R S w va a) (hb : eM.R S w vb b) (hka : mk_ L a) (hkb : mk_ L b) (hL : 1 ≤ L) (hL2 : L ≤ 100000000) :
  CR Tryz.prog 24 #[va, vb] w (Is (.bool (decide (eqM a b)))) := by
 obtain ⟨_, _, _, _, hla⟩ := RL.len ha
 obtain ⟨_, _, _, _, hlb⟩ := RL.len hb
 refine enter Tryz.func24 rfl Tryz.ntmps24 rfl ?_
 refine .seq (.region (.asg rfl rfl (.nil (.seq (.seq (.region (.asg rfl rfl (.nil ?_))))))))
 refine .block (.loop (α := Nat) (fun i => [(0, va), (1, vb), (5, .int .i64 (i : Nat))]) (fun i W => Ext w W ∧ i ≤ max a.length b.length ∧ ∀ j, j < i → ∀ k, rm a j k = rm b j k) (fun i => max a.length b.length - i) 0 ?_ ?_ ?_)
 ·exact look_cons rfl (look_cons rfl (look_cons rfl look_nil))
 ·exact ⟨Ext.refl _, Nat.zero_le _, fun j hj => absurd hj (Nat.not_lt_zero _)⟩
 rintro i W ⟨hW, hi, hall⟩
 refine .mid (α := Unit) (fun _ => [(0, va), (1, vb), (5, .int .i64 (i : Nat))]) (fun _ W' => W' = W ∧ i < max a.length b.length) ?_ ?_
 ·refine .seq (.region (.mv rfl rfl (.mv rfl rfl (.lenR un_M rfl rfl (ha.ext hW) ?_))))
  rcases Nat.lt_or_ge i a.length with h1 | h1
  ·refine .lssT rfl rfl rfl (by omega) (.mv rfl rfl (.gs rfl rfl rfl rfl rfl (.gs rfl rfl rfl rfl rfl (.gs rfl rfl rfl rfl rfl (.gs rfl rfl rfl rfl rfl (.pick rfl rfl rfl (.nil (.condT rfl (.skip ?_)))))))))
   exact ⟨rfl, (), look_cons rfl (look_cons rfl (look_cons rfl look_nil)), rfl, by omega⟩
  ·refine .lssF rfl rfl rfl (by omega) (.mv rfl rfl (.gr rfl rfl rfl rfl (.mv rfl rfl (.gr rfl rfl rfl rfl (.mv rfl rfl (.gr rfl rfl rfl rfl (.lenR un_M rfl rfl (hb.ext hW) (.gr rfl rfl rfl rfl ?_))))))))
   rcases Nat.lt_or_ge i b.length with h2 | h2
   ·refine .lssT rfl rfl rfl (by omega) (.pick rfl rfl rfl (.nil (.condT rfl (.skip ?_))))
    exact ⟨rfl, (), look_cons rfl (look_cons rfl (look_cons rfl look_nil)), rfl, by omega⟩
   ·refine .lssF rfl rfl rfl (by omega) (.pick rfl rfl rfl (.nil (.condF rfl (.exit (.seq (.region (.asg rfl rfl (.nil (.ret ?_)))))))))
    refine .plain [_] Tryz.results24 ⟨rfl, trivial⟩ ⟨hW, ?_⟩
    have hq : eqM a b := fun j k => by
     rcases Nat.lt_or_ge j i with hj | hj
     ·exact hall j hj k
     ·rw [rm_out (by omega), rm_out (by omega)]
    rw [decide_eq_true hq]; rfl
 rintro _ W' ⟨rfl, hlt⟩
 refine .seq (.block (.seq (.region (.mv rfl rfl (.mv rfl rfl ?_)))))
 refine .call _ rfl E_ref04_row rfl (ref04_row_c (i := i) (ha.ext hW)) fun v1 w1 e1 h1 => .mv rfl rfl (.mv rfl rfl ?_)
 refine .call _ rfl E_ref04_row rfl (ref04_row_c (i := i) ((hb.ext hW).ext e1)) fun v2 w2 e2 h2 => ?_
 refine .call _ rfl E_ref03_Lex rfl (ref03_Lex_c (L := L) (up.ext ((hW.trans e1).trans e2).size) (ER.ext eV h1 e2) h2 (hka.get i) (hkb.get i) hL hL2) fun v3 w3 e3 h3 => ?_
 obtain ⟨c, rfl, hc⟩ := h3
 have xW := ((hW.trans e1).trans e2).trans e3
 by_cases h0 : c = 0
 ·refine .neqF rfl rfl rfl h0 (.nil (.condF rfl (.skip (.region (.mv rfl rfl (.add rfl rfl rfl (.asg rfl rfl (.nil ?_))))))))
  rw [wI (by omega)]
  refine ⟨rfl, i + 1, look_cons rfl (look_cons rfl (look_cons rfl look_nil)), ⟨xW, hlt, fun j hj => ?_⟩, by show max a.length b.length - (i + 1) < max a.length b.length - i; omega⟩
  by_cases e : j = i
  ·subst e; exact hc.1 h0
  ·exact hall j (by omega)
 ·refine .neqT rfl rfl rfl h0 (.nil (.condT rfl (.seq (.region (.asg rfl rfl (.nil (.ret ?_)))))))
  refine .plain [_] Tryz.results24 ⟨rfl, trivial⟩ ⟨xW, ?_⟩
  rw [decide_eq_false fun h => h0 (hc.2 fun k => h i k)]; rfl
theorem E_ref04_Unit : Ent Tryz.prog 31 := ent_of Tryz.func31 (by kernel_rfl) rfl
theorem ref04_Unit_c {S : Nat → Prop} {w : World} {n : Int} (up : Up S w) : CR Tryz.prog 31 #[.int .i64 n] w (eM.at S (tabM (cutN n) (cutN n) idn)) := by
 have hn := cutN_le n
 refine enter Tryz.func31 rfl Tryz.ntmps31 rfl ?_
 refine .seq (.region (.asg rfl rfl (.nil (.seq (.region (.asg rfl rfl (.nil (.seq (.seq (.region (.asg rfl rfl (.nil ?_))))))))))))
 generalize hG : (fun i : Nat => tab (cutN n) (uniR (i : Nat))) = G
 have hGl : ∀ b, (G b).length = cutN n := fun b => by rw [← hG]; exact tab_length ..
 refine .block (.loop (α := Nat × Value) (fun y => [(0, .int .i64 n), (3, y.2), (4, .int .i64 (y.1 : Nat))]) (fun y W => Ext w W ∧ y.1 ≤ cutN n ∧ OwnL eV 42 w.heap.size S W y.2 ((List.range y.1).map G)) (fun y => cutN n - y.1) (0, .slice none 0 0) ?_ ?_ ?_)
 ·exact look_cons rfl (look_cons rfl (look_cons rfl look_nil))
 ·exact ⟨Ext.refl _, Nat.zero_le _, OwnL.nil⟩
 rintro ⟨i, v⟩ W ⟨hW, hi, hown⟩
 replace hW : Ext w W := hW
 replace hi : i ≤ cutN n := hi
 replace hown : OwnL eV 42 w.heap.size S W v ((List.range i).map G) := hown
 refine .seq (.seq (.region (.mv rfl rfl (.mv rfl rfl ?_))))
 refine .call _ rfl E_ref04_cut rfl ref04_cut_c fun v1 w1 e1 h1 => ?_
 subst h1
 have hown := hown.ext e1
 have x1 := hW.trans e1
 rcases Nat.lt_or_ge i (cutN n) with hlt | hge
 rotate_left
 ·refine .lssF rfl rfl rfl (by omega) (.nil (.condF rfl (.exit (.seq (.region (.mv rfl rfl (.asg rfl rfl (.nil (.ret ?_)))))))))
  have : i = cutN n := by omega
  subst this
  refine .plain [_] Tryz.results31 ⟨rfl, trivial⟩ ⟨x1, ?_⟩
  have := hown.toR (S := S) (hsz := by decide) (fun k hk => up k hk) (fun _ h => h)
  have e : (List.range (cutN n)).map G = tabM (cutN n) (cutN n) idn := by
   rw [← hG]
   exact List.map_congr_left fun i _ => tab_congr fun k _ => by unfold uniR idn; split <;> split <;> first | rfl | omega
  rw [e] at this
  exact this
 refine .lssT rfl rfl rfl (by omega) (.nil (.condT rfl (.skip (.seq (.block (.region (.mv rfl rfl (.mv rfl rfl ?_))))))))
 refine .call _ rfl E_ref04_cut rfl ref04_cut_c fun v2 w2 e2 h2 => .mv rfl rfl ?_
 subst h2
 have hown := hown.ext e2
 have x2 := x1.trans e2
 obtain ⟨es, ho1, _⟩ := id hown
 have upT : Up (fun k => S k ∧ v.ownBlock ≠ some k) w2 := fun k hk => ⟨up k (by have := x2.size; omega), fun e => by have := (ho1.lt k e).2; omega⟩
 refine .call _ rfl E_ref03_Unit rfl (ref03_Unit_c (k := (i : Nat)) upT (by omega)) fun v3 w3 e3 h3 => ?_
 have hc : eV.R (fun k => S k ∧ v.ownBlock ≠ some k) w3 v3 (G i) := by
  rw [← hG]
  exact h3.toR (fun k hk => upT k hk) (fun _ h => h)
 obtain ⟨ac, cc, hvc, _⟩ := RL.len hc
 rw [hGl] at hvc
 subst hvc
 refine .bsl _ rfl rfl bsl_M1 fun w4 by_ ny => ?_
 obtain ⟨ey, ky, hby, hsy⟩ := ny
 have f2 := e3.trans ey
 have x4 := x2.trans f2
 refine .gv rfl rfl (g_appL (E := eV) (base := w.heap.size) (n := G i) (e := .slice ac (cutN n) cc) (by decide) un_M info_V rfl rfl rfl (hown.ext f2) ky (ER.ext eV hc ey) (by simp; omega) (by decide) x4.size) ?_
 rintro v8 W8 ⟨ho8, hg8⟩
 refine .asg rfl rfl (.nil (.region (.mv rfl rfl (.add rfl rfl rfl (.asg rfl rfl (.nil ?_))))))
 rw [wI (by omega)]
 refine ⟨rfl, (i + 1, v8), look_cons rfl (look_cons rfl (look_cons rfl look_nil)), ⟨(hown.ext f2).below hg8 x4 x4.size, hlt, ?_⟩, by show cutN n - (i + 1) < cutN n - i; omega⟩
 show OwnL eV 42 w.heap.size S W8 v8 ((List.range (i + 1)).map G)
 rw [List.range_succ, List.map_append]
 exact ho8
end Go.Proofs.YteghbhdniimjbaaGreat

namespace Go.Kx
open Go Go.RowKit
def sumZ : Nat → (Nat → Int) → Int
 | 0, _ => 0
 | n + 1, f => sumZ n f + f n
theorem sumN_int (n : Nat) (f : Nat → Int) : sumN n (fun k => ((f k : Int) : Rat)) = ((sumZ n f : Int) : Rat) := by
 induction n with
 | zero => rfl
 | succ n ih => rw [sumN, sumZ, ih, Rat.intCast_add]
theorem rv_intsV (l : List Int) (k : Nat) : rv (intsV l) k = ((l.getD k 0 : Int) : Rat) := by
 unfold intsV
 rw [rv_tab]
 split
 ·rfl
 ·rename_i h
  rw [List.getD_eq_getElem?_getD, List.getElem?_eq_none (by omega)]; rfl
theorem intsV_length (l : List Int) : (intsV l).length = l.length := tab_length _ _
theorem intsM_length (l : List (List Int)) : (intsM l).length = l.length := by simp [intsM]
theorem getD_intsM (l : List (List Int)) (i : Nat) : (intsM l).getD i [] = intsV (l.getD i []) := by
 unfold intsM
 rw [List.getD_eq_getElem?_getD, List.getElem?_map]
 by_cases h : i < l.length
 ·rw [List.getElem?_range h]; rfl
 ·rw [List.getElem?_eq_none (by simpa using h), List.getD_eq_getElem?_getD, List.getElem?_eq_none (by omega)]; rfl
theorem rm_intsM (l : List (List Int)) (i k : Nat) : rm (intsM l) i k = (((l.getD i []).getD k 0 : Int) : Rat) := by
 unfold rm; rw [getD_intsM, rv_intsV]
theorem tab_ints {n : Nat} {f : Nat → Rat} {l : List Int} (hn : n = l.length) (h : ∀ k, k < n → f k = ((l.getD k 0 : Int) : Rat)) : tab n f = intsV l := by
 subst hn; exact tab_congr h
theorem tabM_ints {n c : Nat} {f : Nat → Nat → Rat} {l : List (List Int)} (hn : n = l.length) (hc : ∀ i, i < n → (l.getD i []).length = c) (h : ∀ i k, i < n → k < c → f i k = (((l.getD i []).getD k 0 : Int) : Rat)) : tabM n c f = intsM l := by
 subst hn
 unfold tabM intsM
 apply List.map_congr_left
 intro i hi
 have hi := List.mem_range.1 hi
 exact tab_ints (hc i hi).symm fun k hk => h i k hi hk
theorem vk_intsV {l : List Int} (h : ∀ n ∈ l, -9223372036854775808 ≤ n ∧ n ≤ 9223372036854775807) : vk 2 (intsV l) :=
 vk_tab fun k _ => Rsz.int _ (by
  have := mem_getD (P := fun n : Int => -9223372036854775808 ≤ n ∧ n ≤ 9223372036854775807) (z := 0) h (by omega) k
  show (l.getD k 0).natAbs < 18446744073709551616
  omega) (by omega)
theorem mk_intsM {l : List (List Int)} (h : ∀ r ∈ l, ∀ n ∈ r, -9223372036854775808 ≤ n ∧ n ≤ 9223372036854775807) : mk_ 2 (intsM l) := by
 intro r hr
 obtain ⟨i, _, rfl⟩ := List.mem_map.1 hr
 exact vk_intsV (mem_getD (P := fun r : List Int => ∀ n ∈ r, -9223372036854775808 ≤ n ∧ n ≤ 9223372036854775807) h (fun n hn => by cases hn) i)
abbrev iv (n : Int) : Value := .int .i64 n
end Go.Kx
namespace Go.Proofs.YteghbhdniimjbaaGreat
open Go Go.Kx Go.RowKit
theorem bsl_L1 {x : Int} : bslOf Tryz.prog 103 1 [(0, .int .i64 x)] = some (2, #[.int .i64 x]) := by kernel_rfl
theorem bsl_L2 {x y : Int} : bslOf Tryz.prog 103 2 [(0, .int .i64 x), (1, .int .i64 y)] = some (2, #[.int .i64 x, .int .i64 y]) := by kernel_rfl
theorem bsl_L3 {x y z : Int} : bslOf Tryz.prog 103 3 [(0, .int .i64 x), (1, .int .i64 y), (2, .int .i64 z)] = some (2, #[.int .i64 x, .int .i64 y, .int .i64 z]) := by kernel_rfl
theorem bsl_LL1 {a : Option Addr} {n c : Nat} : bslOf Tryz.prog 105 1 [(0, .slice a n c)] = some (103, #[.slice a n c]) := by kernel_rfl
theorem bsl_LL2 {a a' : Option Addr} {n c n' c' : Nat} : bslOf Tryz.prog 105 2 [(0, .slice a n c), (1, .slice a' n' c')] = some (103, #[.slice a n c, .slice a' n' c']) := by kernel_rfl
theorem eI_new {S : Nat → Prop} {w w' : World} {b : Nat} {t : TypeId} {cs : Array Value} (l : List Int) (n : Nat) (hn : New w w' b t cs) (up : Up S w) (hcs : cs = (l.map iv).toArray) (hl : l.length = n) (hd : ∀ x ∈ l, -9223372036854775808 ≤ x ∧ x ≤ 9223372036854775807) (hm : n ≤ 1000) :
  eI.R S w' (.slice (some ⟨b, 0, none⟩) n n) l := by
 subst hl
 refine RL.ofBlk (es := l.map iv) hn.2.1 (up b (by have := hn.2.2.1; omega)) ⟨by simp, fun i e x he hx => ?_⟩ (fun j u hu => ?_) (Nat.le_refl _) (by omega)
 ·rw [List.getElem?_map, hx] at he
  simp at he
  have := hd x (List.mem_iff_getElem?.2 ⟨i, hx⟩)
  exact ⟨he.symm, this.1, this.2⟩
 ·rw [cellsOf_map1 iv (fun _ => rfl)] at hu
  rw [hcs]; simpa using hu
theorem eII_new1 {S : Nat → Prop} {w w' : World} {b : Nat} {t : TypeId} {v : Value} {r : List Int} (hn : New w w' b t #[v]) (up : Up S w) (h : eI.R S w v r) : eII.R S w' (.slice (some ⟨b, 0, none⟩) 1 1) [r] := by
 obtain ⟨a, c, hv, _⟩ := RL.len h
 refine RL.ofBlk (l := [r]) (es := [v]) hn.2.1 (up b (by have := hn.2.2.1; omega)) (Els.snoc Els.nil (ER.ext eI h hn.1)) (fun j u hu => ?_) (Nat.le_refl _) (by simp)
 rw [hv] at hu ⊢; simpa [cellsOf, Value.cells] using hu
theorem eII_new2 {S : Nat → Prop} {w w' : World} {b : Nat} {t : TypeId} {v v' : Value} {r r' : List Int} (hn : New w w' b t #[v, v']) (up : Up S w) (h : eI.R S w v r) (h' : eI.R S w v' r') : eII.R S w' (.slice (some ⟨b, 0, none⟩) 2 2) [r, r'] := by
 obtain ⟨a, c, hv, _⟩ := RL.len h
 obtain ⟨a', c', hv', _⟩ := RL.len h'
 refine RL.ofBlk (l := [r, r']) (es := [v, v']) hn.2.1 (up b (by have := hn.2.2.1; omega)) (Els.snoc (Els.snoc Els.nil (ER.ext eI h hn.1)) (ER.ext eI h' hn.1)) (fun j u hu => ?_) (Nat.le_refl _) (by simp)
 rw [hv, hv'] at hu ⊢; simpa [cellsOf, Value.cells] using hu
abbrev sml : List (List Int) := [[1, 2], [3]]
theorem E_law04_small : Ent Tryz.prog 80 := ent_of Tryz.func80 (by kernel_rfl) rfl
theorem law04_small_c {S : Nat → Prop} {w : World} (up : Up S w) : CR Tryz.prog 80 #[] w (eM.at S (intsM sml)) := by
 refine enter Tryz.func80 rfl Tryz.ntmps80 rfl ?_
 refine .seq (.region (.asg rfl rfl (.nil (.seq (.region ?_)))))
 refine .bsl _ rfl rfl bsl_L2 fun w1 b1 n1 => .bsl _ rfl rfl bsl_L1 fun w2 b2 n2 => .bsl _ rfl rfl bsl_LL2 fun w3 b3 n3 => ?_
 have h1 := eI_new [1, 2] 2 n1 up rfl rfl (by decide) (by omega)
 have h2 := eI_new [3] 1 n2 (up.ext n1.1.size) rfl rfl (by decide) (by omega)
 have h3 := eII_new2 n3 ((up.ext n1.1.size).ext n2.1.size) (h1.ext n2.1) h2
 refine .call _ rfl E_ref04_Ints rfl (ref04_Ints_c (((up.ext n1.1.size).ext n2.1.size).ext n3.1.size) h3 (by decide) (by decide)) fun v4 w4 e4 h4 => .asg rfl rfl (.nil (.ret ?_))
 exact .plain [_] Tryz.results80 ⟨rfl, trivial⟩ ⟨((n1.1.trans n2.1).trans n3.1).trans e4, h4⟩
theorem cols_sml : colsOf (intsM sml) = 2 := by rfl
theorem x_mulvec : (tab (intsM sml).length fun i => sumN (intsV [5, 7]).length fun k => rm (intsM sml) i k * rv (intsV [5, 7]) k) = intsV [19, 15] := by
 refine tab_ints (by rw [intsM_length]; rfl) fun i hi => ?_
 simp only [rm_intsM, rv_intsV, ← Rat.intCast_mul]
 rw [sumN_int, intsV_length]
 rw [intsM_length] at hi
 match i, hi with
 | 0, _ => rfl
 | 1, _ => rfl
theorem x_vecmul : tab (colsOf (intsM sml)) (vmul (intsV [1, 1]) (intsM sml)) = intsV [4, 2] := by
 refine tab_ints cols_sml fun i hi => ?_
 unfold vmul
 simp only [rm_intsM, rv_intsV, ← Rat.intCast_mul]
 rw [sumN_int, intsM_length]
 rw [cols_sml] at hi
 match i, hi with
 | 0, _ => rfl
 | 1, _ => rfl
theorem x_trans : (tabM (colsOf (intsM sml)) (intsM sml).length fun i k => rm (intsM sml) k i) = intsM [[1, 3], [2, 0]] := by
 refine tabM_ints cols_sml (fun i hi => ?_) (fun i k hi hk => ?_)
 ·rw [cols_sml] at hi
  rw [intsM_length]
  match i, hi with
  | 0, _ => rfl
  | 1, _ => rfl
 ·rw [cols_sml] at hi
  rw [intsM_length] at hk
  rw [rm_intsM]
  match i, hi, k, hk with
  | 0, _, 0, _ => rfl
  | 0, _, 1, _ => rfl
  | 1, _, 0, _ => rfl
  | 1, _, 1, _ => rfl
theorem x_mul : tabM (intsM sml).length (colsOf (intsM sml)) (mmul (intsM sml) (intsM sml)) = intsM [[7, 2], [3, 6]] := by
 refine tabM_ints (by rw [intsM_length]; rfl) (fun i hi => ?_) (fun i k hi hk => ?_)
 ·rw [intsM_length] at hi
  rw [cols_sml]
  match i, hi with
  | 0, _ => rfl
  | 1, _ => rfl
 ·rw [cols_sml] at hk
  rw [intsM_length] at hi
  unfold mmul
  simp only [rm_intsM, ← Rat.intCast_mul]
  rw [sumN_int, intsM_length]
  match i, hi, k, hk with
  | 0, _, 0, _ => rfl
  | 0, _, 1, _ => rfl
  | 1, _, 0, _ => rfl
  | 1, _, 1, _ => rfl
theorem x_cat : tabM (max (intsM sml).length (intsM [[9]]).length) (colsOf (intsM sml) + colsOf (intsM [[9]])) (catM (intsM sml) (intsM [[9]])) = intsM [[1, 2, 9], [3, 0, 0]] := by
 have hr : max (intsM sml).length (intsM [[9]]).length = 2 := by rw [intsM_length, intsM_length]; rfl
 have hc : colsOf (intsM sml) + colsOf (intsM [[9]]) = 3 := by rw [cols_sml]; rfl
 refine tabM_ints hr (fun i hi => ?_) (fun i k hi hk => ?_)
 ·rw [hr] at hi
  rw [hc]
  match i, hi with
  | 0, _ => rfl
  | 1, _ => rfl
 ·rw [hr] at hi
  rw [hc] at hk
  unfold catM
  rw [cols_sml, rm_intsM, rm_intsM]
  match i, hi, k, hk with
  | 0, _, 0, _ => rfl
  | 0, _, 1, _ => rfl
  | 0, _, 2, _ => rfl
  | 1, _, 0, _ => rfl
  | 1, _, 1, _ => rfl
  | 1, _, 2, _ => rfl
end Go.Proofs.YteghbhdniimjbaaGreat

namespace Go.Proofs.YteghbhdniimjbaaGreat
open Go Go.Kx Go.RowKit
theorem E_law04_alive : Ent Tryz.prog 16 := ent_of Tryz.func16 (by kernel_rfl) rfl
theorem law04_alive_c {w : World} : CR Tryz.prog 16 #[] w (Is (.bool true)) := by
 have up : ∀ {W : World}, Up (fun _ => True) W := fun _ _ => trivial
 have hks : mk_ 2 (intsM sml) := mk_intsM (by decide)
 refine enter Tryz.func16 rfl Tryz.ntmps16 rfl ?_
 refine .seq (.region (.asg rfl rfl (.nil (.seq (.region ?_)))))
 refine .call _ rfl E_law04_small rfl (law04_small_c up) fun vm w1 e1 hm => .asg rfl rfl (.nil (.seq (.region (.asg rfl rfl (.nil ?_)))))
 refine .seq (.seq (.region (.mv rfl rfl ?_)))
 refine .call _ rfl E_mat_Cols rfl (mat_Cols_c hm) fun v2 w2 e2 h2 => ?_
 subst h2
 rw [cols_sml]
 refine .neqF rfl rfl rfl rfl (.mv rfl rfl (.gr rfl rfl rfl rfl (.mv rfl rfl (.gr rfl rfl rfl rfl (.bsl _ rfl rfl bsl_L2 fun w3 b3 n3 => ?_)))))
 have h3 := eI_new [5, 7] 2 n3 up rfl rfl (by decide) (by omega)
 have x3 := e2.trans n3.1
 refine .gr rfl rfl rfl rfl (.call _ rfl E_vec_FromInts rfl (vec_FromInts_c up h3 (by decide)) fun v4 w4 e4 h4 => ?_)
 replace h4 : eV.R (fun _ => True) w4 v4 (intsV [5, 7]) := h4
 have x4 := x3.trans e4
 refine .gr rfl rfl rfl rfl (.call _ rfl E_mat_MulVec rfl (mat_MulVec_c up (hm.ext x4) h4 hks (vk_intsV (by decide)) (by omega) (by omega) (by rw [intsM_length]; decide) (by rw [intsV_length]; decide)) fun v5 w5 e5 h5 => ?_)
 rw [x_mulvec] at h5
 refine .gr rfl rfl rfl rfl (.bsl _ rfl rfl bsl_L2 fun w6 b6 n6 => ?_)
 have h6 := eI_new [19, 15] 2 n6 up rfl rfl (by decide) (by omega)
 refine .gr rfl rfl rfl rfl (.call _ rfl E_ref03_Ints rfl (ref03_Ints_c up h6 (by decide)) fun v7 w7 e7 h7 => ?_)
 refine .gr rfl rfl rfl rfl (.call _ rfl E_ref03_Is rfl (ref03_Is_c ((h5.ext n6.1).ext e7) h7) fun v8 w8 e8 h8 => ?_)
 subst h8
 rw [same_self]
 have x8 := (((x4.trans e5).trans n6.1).trans e7).trans e8
 refine .gr rfl rfl rfl rfl (.not_ rfl rfl (.pick rfl rfl rfl (.mv rfl rfl ?_)))
 refine .gr rfl rfl rfl rfl (.bsl _ rfl rfl bsl_L2 fun w9 b9 n9 => ?_)
 have h9 := eI_new [1, 1] 2 n9 up rfl rfl (by decide) (by omega)
 refine .gr rfl rfl rfl rfl (.call _ rfl E_vec_FromInts rfl (vec_FromInts_c up h9 (by decide)) fun v10 w10 e10 h10 => ?_)
 replace h10 : eV.R (fun _ => True) w10 v10 (intsV [1, 1]) := h10
 have x10 := (x8.trans n9.1).trans e10
 refine .gr rfl rfl rfl rfl (.mv rfl rfl (.gr rfl rfl rfl rfl (.call _ rfl E_mat_VecMul rfl (mat_VecMul_c up h10 (hm.ext x10) (vk_intsV (by decide)) hks (by omega) (by omega) (by rw [intsM_length, intsV_length]; decide) (by rw [cols_sml]; decide)) fun v11 w11 e11 h11 => ?_)))
 rw [x_vecmul] at h11
 refine .gr rfl rfl rfl rfl (.bsl _ rfl rfl bsl_L2 fun w12 b12 n12 => ?_)
 have h12 := eI_new [4, 2] 2 n12 up rfl rfl (by decide) (by omega)
 refine .gr rfl rfl rfl rfl (.call _ rfl E_ref03_Ints rfl (ref03_Ints_c up h12 (by decide)) fun v13 w13 e13 h13 => ?_)
 refine .gr rfl rfl rfl rfl (.call _ rfl E_ref03_Is rfl (ref03_Is_c ((h11.ext n12.1).ext e13) h13) fun v14 w14 e14 h14 => ?_)
 subst h14
 rw [same_self]
 have x14 := (((x10.trans e11).trans n12.1).trans e13).trans e14
 refine .gr rfl rfl rfl rfl (.not_ rfl rfl (.pick rfl rfl rfl (.nil (.condF rfl (.skip ?_)))))
 refine .seq (.region (.mv rfl rfl ?_))
 refine .call _ rfl E_mat_Transpose rfl (mat_Transpose_c up (hm.ext x14) hks (by omega) (by omega) (by rw [intsM_length]; decide) (by rw [cols_sml]; decide)) fun v15 w15 e15 h15 => ?_
 rw [x_trans] at h15
 refine .mv rfl rfl (.bsl _ rfl rfl bsl_L2 fun w16 b16 n16 => .bsl _ rfl rfl bsl_L2 fun w17 b17 n17 => .bsl _ rfl rfl bsl_LL2 fun w18 b18 n18 => ?_)
 have h16 := eI_new [1, 3] 2 n16 up rfl rfl (by decide) (by omega)
 have h17 := eI_new [2, 0] 2 n17 up rfl rfl (by decide) (by omega)
 have h18 := eII_new2 n18 up (h16.ext n17.1) h17
 refine .callv [_] rfl rfl E_ref04_Ints rfl (ref04_Ints_c up h18 (by decide) (by decide)) fun v19 w19 e19 h19 => ?_
 have y19 := ((n16.1.trans n17.1).trans n18.1).trans e19
 refine .call _ rfl E_ref04_Is rfl (ref04_Is_c (h15.ext y19) h19) fun v20 w20 e20 h20 => ?_
 subst h20
 rw [same_self]
 have x20 := ((x14.trans e15).trans y19).trans e20
 refine .mv rfl rfl (.gr rfl rfl rfl rfl (.mv rfl rfl (.gr rfl rfl rfl rfl (.mv rfl rfl ?_))))
 refine .gr rfl rfl rfl rfl (.call _ rfl E_mat_Mul rfl (mat_Mul_c up (hm.ext x20) (hm.ext x20) hks hks (by omega) (by omega) (by rw [intsM_length]; decide) (by rw [intsM_length]; decide) (by rw [cols_sml]; decide)) fun v21 w21 e21 h21 => ?_)
 rw [x_mul] at h21
 refine .gr rfl rfl rfl rfl (.mv rfl rfl (.gr rfl rfl rfl rfl (.bsl _ rfl rfl bsl_L2 fun w22 b22 n22 => .gr rfl rfl rfl rfl (.bsl _ rfl rfl bsl_L2 fun w23 b23 n23 => .gr rfl rfl rfl rfl (.bsl _ rfl rfl bsl_LL2 fun w24 b24 n24 => ?_)))))
 have h22 := eI_new [7, 2] 2 n22 up rfl rfl (by decide) (by omega)
 have h23 := eI_new [3, 6] 2 n23 up rfl rfl (by decide) (by omega)
 have h24 := eII_new2 n24 up (h22.ext n23.1) h23
 refine .gr rfl rfl rfl rfl (.callv [_] rfl rfl E_ref04_Ints rfl (ref04_Ints_c up h24 (by decide) (by decide)) fun v25 w25 e25 h25 => ?_)
 have y25 := ((n22.1.trans n23.1).trans n24.1).trans e25
 refine .gr rfl rfl rfl rfl (.call _ rfl E_ref04_Is rfl (ref04_Is_c (h21.ext y25) h25) fun v26 w26 e26 h26 => ?_)
 subst h26
 rw [same_self]
 have x26 := ((x20.trans e21).trans y25).trans e26
 refine .pick rfl rfl rfl (.mv rfl rfl (.gr rfl rfl rfl rfl (.mv rfl rfl (.gr rfl rfl rfl rfl (.mv rfl rfl ?_)))))
 refine .gr rfl rfl rfl rfl (.bsl _ rfl rfl bsl_L1 fun w27 b27 n27 => .gr rfl rfl rfl rfl (.bsl _ rfl rfl bsl_LL1 fun w28 b28 n28 => ?_))
 have h27 := eI_new [9] 1 n27 up rfl rfl (by decide) (by omega)
 have h28 := eII_new1 n28 up h27
 refine .gr rfl rfl rfl rfl (.callv [_] rfl rfl E_ref04_Ints rfl (ref04_Ints_c up h28 (by decide) (by decide)) fun v29 w29 e29 h29 => ?_)
 have x29 := ((x26.trans n27.1).trans n28.1).trans e29
 have hk9 : mk_ 2 (intsM [[9]]) := mk_intsM (by decide)
 refine .gr rfl rfl rfl rfl (.call _ rfl E_mat_Concat rfl (mat_Concat_c up (hm.ext x29) h29 hks hk9 (by omega) (by omega) (by rw [intsM_length]; decide) (by rw [intsM_length]; decide) (by rw [cols_sml]; decide) (by decide)) fun v30 w30 e30 h30 => ?_)
 rw [x_cat] at h30
 refine .gr rfl rfl rfl rfl (.mv rfl rfl (.gr rfl rfl rfl rfl (.bsl _ rfl rfl bsl_L3 fun w31 b31 n31 => .gr rfl rfl rfl rfl (.bsl _ rfl rfl bsl_L3 fun w32 b32 n32 => .gr rfl rfl rfl rfl (.bsl _ rfl rfl bsl_LL2 fun w33 b33 n33 => ?_)))))
 have h31 := eI_new [1, 2, 9] 3 n31 up rfl rfl (by decide) (by omega)
 have h32 := eI_new [3, 0, 0] 3 n32 up rfl rfl (by decide) (by omega)
 have h33 := eII_new2 n33 up (h31.ext n32.1) h32
 refine .gr rfl rfl rfl rfl (.callv [_] rfl rfl E_ref04_Ints rfl (ref04_Ints_c up h33 (by decide) (by decide)) fun v34 w34 e34 h34 => ?_)
 have y34 := ((n31.1.trans n32.1).trans n33.1).trans e34
 refine .gr rfl rfl rfl rfl (.call _ rfl E_ref04_Is rfl (ref04_Is_c (h30.ext y34) h34) fun v35 w35 e35 h35 => ?_)
 subst h35
 rw [same_self]
 refine .pick rfl rfl rfl (.asg rfl rfl (.nil (.ret ?_)))
 exact .plain [_] Tryz.results16 ⟨rfl, trivial⟩ ⟨e1.trans (((x29.trans e30).trans y34).trans e35), rfl⟩
end Go.Proofs.YteghbhdniimjbaaGreat

namespace Go.Kx
open Go Go.RowKit Go.ChangeShapes Go.WideShapes
theorem list_of {β : Type} {p : Nat → β → Prop} : ∀ n, (∀ i, i < n → ∃ y, p i y) → ∃ ys : List β, ys.length = n ∧ ∀ i y, ys[i]? = some y → p i y
 | 0, _ => ⟨[], rfl, fun i y h => by simp at h⟩
 | n + 1, h => by
  obtain ⟨ys, hl, hy⟩ := list_of n fun i hi => h i (by omega)
  obtain ⟨y, hp⟩ := h n (by omega)
  refine ⟨ys ++ [y], by simp [hl], fun i z hz => ?_⟩
  rcases Nat.lt_or_ge i ys.length with hi | hi
  ·rw [List.getElem?_append_left hi] at hz; exact hy i z hz
  ·rw [List.getElem?_append_right hi] at hz
   cases hk : i - ys.length with
   | zero => rw [hk] at hz; simp at hz; subst hz; rw [show i = n by omega]; exact hp
   | succ k => rw [hk] at hz; simp at hz
section
variable {H : Type} {enc : TypeId × Value → H} {P : Program} {W : World}
/-- whatever reads as data of type t is a value that stands for something; Z: how the two go together -/
def Opn (enc : TypeId × Value → H) (P : Program) (W : World) {α : Type} (E : ER α) (t : TypeId) (Z : DataW H → α → Prop) : Prop :=
 ∀ (fuel : Nat) (cs : List Value) (x : DataW H × List MemPlace), DataW.trod enc P W 0 (fun _ => true) true fuel t cs = some x → ∃ e a, e.cells.toList = cs ∧ E.R (fun _ => True) W e a ∧ Z x.1 a
def ZL {α : Type} (Z : DataW H → α → Prop) (d : DataW H) (l : List α) : Prop :=
 (d = .nil ∧ l = []) ∨ ∃ elems spare, d = .slice elems spare ∧ elems.length = l.length ∧ ∀ (i : Nat) d' x, elems[i]? = some d' → l[i]? = some x → Z d' x
theorem Opn.slice {α : Type} {E : ER α} {t e : TypeId} {Z : DataW H → α → Prop} (hsz : 0 < E.sz) (ht : P.underlying t = some (.slice e)) (hc : P.cellsOf e = E.sz) (h : Opn enc P W E e Z) : Opn enc P W (RL E hsz) t (ZL Z) := by
 intro fuel cs x hx
 rcases Deep.open_slice ht hx with ⟨rfl, rfl⟩ | ⟨a, len, cap, m, n, D, Pl, rfl, _, hl, hcap, hm, rfl, hel⟩
 ·exact ⟨.slice none 0 0, [], rfl, RL.nil, .inl ⟨rfl, rfl⟩⟩
 ·have hlm : len ≤ m := by rw [hm]; simp; exact hl
  obtain ⟨ys, hyl, hys⟩ := list_of (p := fun i (y : Value × α) => E.R (fun _ => True) W y.1 y.2 ∧ (∀ j u, y.1.cells[j]? = some u → W.cell? ((a.add (i * E.sz)).add j) = some u) ∧ Z (D i) y.2) len fun i hi => by
   obtain ⟨cs', h1, h2⟩ := hel i (by omega)
   rw [hc] at h1
   obtain ⟨_, hlen, hcell⟩ := World.cells?_some h1
   obtain ⟨e, x, he, hR, hZ⟩ := h n cs' _ h2
   refine ⟨(e, x), hR, fun j u hu => ?_, hZ⟩
   have hj : j < E.sz := by
    rcases Nat.lt_or_ge j e.cells.size with h | h
    ·rw [← hlen, ← he]; simpa using h
    ·rw [Array.getElem?_eq_none h] at hu; cases hu
   rw [hcell j hj, ← he]; simpa using hu
  have hels : Els E (fun _ => True) W (ys.map (·.1)) (ys.map (·.2)) := by
   refine ⟨by simp, fun i e x he hx => ?_⟩
   rw [List.getElem?_map] at he hx
   cases hy : ys[i]? with
   | none => rw [hy] at he; cases he
   | some y => rw [hy] at he hx; cases he; cases hx; exact (hys i y hy).1
  refine ⟨.slice (some a) len cap, ys.map (·.2), rfl, ⟨ys.map (·.1), hels, some a, cap, by simp [hyl], by simp [hyl]; exact hl, by simp [hyl]; simp only [maxLen] at hcap; omega, by rw [cellsOf_length _ hels.sz]; simp, fun _ => ⟨a, rfl, trivial, fun j u hu => ?_⟩⟩, .inr ⟨_, _, rfl, by simp [hyl], fun i d' x hd hx => ?_⟩⟩
  ·have hjl : j < len * E.sz := by
    rcases Nat.lt_or_ge j (len * E.sz) with h | h
    ·exact h
    ·rw [List.getElem?_eq_none (by rw [cellsOf_length _ hels.sz]; simpa [hyl] using h)] at hu; cases hu
   have hq : j / E.sz < len := (Nat.div_lt_iff_lt_mul hsz).2 hjl
   have hr : j % E.sz < E.sz := Nat.mod_lt _ hsz
   have hjd : (j / E.sz) * E.sz + j % E.sz = j := by rw [Nat.mul_comm]; exact Nat.div_add_mod j E.sz
   obtain ⟨y, hy⟩ : ∃ y, ys[j / E.sz]? = some y := ⟨_, List.getElem?_eq_getElem (by rw [hyl]; exact hq)⟩
   have hg := cellsOf_get (ys.map (·.1)) (j / E.sz) (j % E.sz) y.1 hels.sz (by rw [List.getElem?_map, hy]; rfl) hr
   rw [hjd, hu] at hg
   have := (hys _ y hy).2.1 (j % E.sz) u hg.symm
   rw [add_add, hjd] at this
   exact this
  ·rw [List.getElem?_map] at hx
   cases hy : ys[i]? with
   | none => rw [hy] at hx; cases hx
   | some y =>
    rw [hy] at hx; cases hx
    have hi : i < len := by
     rcases Nat.lt_or_ge i ys.length with h | h
     ·omega
     ·rw [List.getElem?_eq_none h] at hy; cases hy
    rw [List.getElem?_map, List.getElem?_range hi] at hd
    cases hd
    exact (hys i y hy).2.2
theorem Opn.mono {α : Type} {E : ER α} {t : TypeId} {Z Z' : DataW H → α → Prop} (h : Opn enc P W E t Z) (hz : ∀ d a, Z d a → Z' d a) : Opn enc P W E t Z' := fun fuel cs x hx => by
 obtain ⟨e, a, h1, h2, h3⟩ := h fuel cs x hx
 exact ⟨e, a, h1, h2, hz _ _ h3⟩
theorem wf_bd {k : IntKind} {n : Int} (h : (Lit.int k n).wf = true) : k.min ≤ n ∧ n ≤ k.max := by
 simpa [Lit.wf] using h
theorem opn_u32 {t : TypeId} (ht : P.underlying t = some (.int .u32)) : Opn enc P W eU32 t (fun _ _ => True) := by
 intro fuel cs x hx
 obtain ⟨n, rfl, rfl, hw⟩ := DataW.trod_int ht hx
 have := wf_bd hw
 simp [IntKind.min, IntKind.max, IntKind.signed, IntKind.bits] at this
 exact ⟨.int .u32 n, n.toNat, rfl, ⟨by rw [Int.toNat_of_nonneg this.1], by omega⟩, trivial⟩
def sh2 (P : Program) (t : TypeId) : Option ((TypeId × Nat) × (TypeId × Nat)) :=
 match P.underlying t with
 | some (.struct fs) => match fs.toList with
  | [f0, f1] => some ((f0.type, f0.offset), (f1.type, f1.offset))
  | _ => none
 | _ => none
theorem sh2_open {t t0 t1 : TypeId} {o0 o1 fuel : Nat} {cs : List Value} {x : DataW H × List MemPlace} (hs : sh2 P t = some ((t0, o0), (t1, o1))) (hx : DataW.trod enc P W 0 (fun _ => true) true fuel t cs = some x) :
  ∃ y0 y1 n, x = (.agg [y0.1, y1.1], y0.2 ++ y1.2) ∧ cs.length = P.cellsOf t ∧ DataW.trod enc P W 0 (fun _ => true) true n t0 ((cs.drop o0).take (P.cellsOf t0)) = some y0 ∧ DataW.trod enc P W 0 (fun _ => true) true n t1 ((cs.drop o1).take (P.cellsOf t1)) = some y1 := by
 unfold sh2 at hs
 split at hs
 ·rename_i fs hu
  split at hs
  ·rename_i f0 f1 hl
   simp only [Option.some.injEq, Prod.mk.injEq] at hs
   obtain ⟨⟨rfl, rfl⟩, rfl, rfl⟩ := hs
   have : fs = #[f0, f1] := by apply Array.toList_inj.1; simpa using hl
   subst this
   exact trod_struct2 hu hx
  ·cases hs
 ·cases hs
theorem opn_Z {t tb tw te : TypeId} (hs : sh2 P t = some ((tb, 0), (tw, 1))) (hb : P.underlying tb = some .bool) (hcb : P.cellsOf tb = 1) (hcw : P.cellsOf tw = 1) (hct : P.cellsOf t = 2) (hw : P.underlying tw = some (.slice te)) (hce : P.cellsOf te = 1) (he : P.underlying te = some (.int .u32)) : Opn enc P W eZ t (fun _ _ => True) := by
 intro fuel cs x hx
 obtain ⟨y0, y1, n, rfl, hl, h0, h1⟩ := sh2_open hs hx
 rw [hcb] at h0
 rw [hcw] at h1
 rw [hct] at hl
 obtain ⟨c0, c1, rfl⟩ : ∃ c0 c1, cs = [c0, c1] := by
  match cs, hl with
  | [c0, c1], _ => exact ⟨c0, c1, rfl⟩
 obtain ⟨b, hb', _⟩ := DataW.trod_bool hb h0
 simp at hb'
 subst hb'
 obtain ⟨e, l, he', hR, _⟩ := (Opn.slice (Z := fun _ _ => True) (E := eU32) (by decide) hw hce (opn_u32 he)) n _ _ h1
 obtain ⟨a, c, rfl, _⟩ := RL.len hR
 simp [Value.cells] at he'
 subst he'
 exact ⟨.agg #[.bool b, .slice a l.length c], ⟨b, l⟩, rfl, ⟨_, rfl, hR⟩, trivial⟩
theorem opn_Q {t tz : TypeId} (hs : sh2 P t = some ((tz, 0), (tz, 2))) (hcz : P.cellsOf tz = 2) (hct : P.cellsOf t = 4) (hz : Opn enc P W eZ tz (fun _ _ => True)) : Opn enc P W eQ t (fun _ _ => True) := by
 intro fuel cs x hx
 obtain ⟨y0, y1, n, rfl, hl, h0, h1⟩ := sh2_open hs hx
 rw [hcz] at h0 h1
 rw [hct] at hl
 obtain ⟨c0, c1, c2, c3, rfl⟩ : ∃ c0 c1 c2 c3, cs = [c0, c1, c2, c3] := by
  match cs, hl with
  | [c0, c1, c2, c3], _ => exact ⟨c0, c1, c2, c3, rfl⟩
 obtain ⟨e, z, he, ⟨s, rfl, hs⟩, _⟩ := hz n _ _ h0
 obtain ⟨e', z', he', ⟨s', rfl, hs'⟩, _⟩ := hz n _ _ h1
 simp [Value.cells] at he he'
 obtain ⟨rfl, rfl⟩ := he
 obtain ⟨rfl, rfl⟩ := he'
 exact ⟨_, ⟨z, z'⟩, rfl, ⟨s, s', rfl, hs, hs'⟩, trivial⟩
/-- an argument that is a slice -/
theorem Opn.arg {α : Type} {E : ER α} {hsz : 0 < E.sz} {t e : TypeId} {Z : DataW H → List α → Prop} {r : Reach} {b0 : Nat} {v : Value} {d : DataW H} {ps : List MemPlace} (ht : P.underlying t = some (.slice e)) (h : Opn enc P W (RL E hsz) t Z)
  (hval : Value.okWide P W r b0 t v) (hd : DataW.Trod enc P W 0 (fun _ => true) true t v d ps) : ∃ l, (RL E hsz).R (fun _ => True) W v l ∧ Z d l := by
 obtain ⟨a, n, c, rfl⟩ := okWide_slice ht hval
 obtain ⟨fuel, hf⟩ := hd
 obtain ⟨e', l, h1, h2, h3⟩ := h fuel _ _ hf
 obtain ⟨a', c', rfl, _⟩ := RL.len h2
 simp [Value.cells] at h1
 obtain ⟨rfl, rfl, rfl⟩ := h1
 exact ⟨l, h2, h3⟩
end
end Go.Kx

namespace Go.Proofs.YteghbhdniimjbaaGreat
open Go Go.Kx Go.RowKit
section
variable {H : Type} {enc : TypeId × Value → H} {W : World}
theorem opnQ : Opn enc Tryz.prog W eQ 32 (fun _ _ => True) := opn_Q (tz := 30) (by kernel_rfl) (by kernel_rfl) (by kernel_rfl) (opn_Z (tb := 4) (tw := 28) (te := 79) (by kernel_rfl) un_bool (by kernel_rfl) (by kernel_rfl) (by kernel_rfl) un_W (by kernel_rfl) un_u32)
theorem opnV : Opn enc Tryz.prog W eV 42 (fun _ _ => True) := (Opn.slice (by decide) un_V (by kernel_rfl) opnQ).mono fun _ _ _ => trivial
theorem opnM : Opn enc Tryz.prog W eM 22 (fun _ _ => True) := (Opn.slice (by decide) un_M (by kernel_rfl) opnV).mono fun _ _ _ => trivial
end
end Go.Proofs.YteghbhdniimjbaaGreat

namespace Go.Kx
open Go Go.RowKit
section
variable {P : Program} {σ : Env} {w : World} {d : Option Tmp} {ty : TypeId} {pos : String} {af : Array Edge} {g : Option (Nat × Bool)}
theorem v_faP {s : TypeId} {x : Operand} {i off : Nat} {p : Addr} (hf : fldOf P s i = some off) (hx : ev σ x = some (.pointer (some p))) : Vl P ⟨d, .fieldAddr s x i, ty, pos, af, g⟩ σ w (.pointer (some (p.add off))) := by
 refine ⟨(by intro _ h; cases h), fun ρ hρ => ?_⟩
 have h1 := hρ x _ (by simp [Op.operands]) hx
 unfold fldOf at hf
 split at hf
 ·rename_i fs hfs
  split at hf
  ·rename_i f hff
   split at hf
   ·rename_i j hj
    cases hz : Nat.beq j.size 0 with
    | true => rw [hz] at hf; cases hf
    | false =>
     rw [hz] at hf
     simp only [cond_false, Option.some.injEq] at hf
     have hz' : j.size ≠ 0 := fun e => by rw [e] at hz; cases hz
     simp [execOp, h1, Instr.fieldAt, run_underlying hfs, hff, Instr.sureAddr, fieldPlace, sizeOf, typeInfo, hj, hz', hf]
   ·cases hf
  ·cases hf
 ·cases hf
end
theorem PtrTo.zw {S : Nat → Prop} {w : World} {p : Addr} {z : ZV} (h : PtrTo eZ S w p z) : PtrTo eW S w (p.add 1) z.w := by
 obtain ⟨e, ⟨s, rfl, hs⟩, h2, h3⟩ := h
 obtain ⟨a, c, hv, _⟩ := RL.len hs
 refine ⟨s, hs, by rw [block_add]; exact h2, fun j u hu => ?_⟩
 rw [hv] at hu
 have hj : j = 0 := by
  cases j with
  | zero => rfl
  | succ j => simp [Value.cells] at hu
 subst hj
 rw [add_add]
 refine h3 1 u ?_
 rw [hv]; simpa [Value.cells] using hu
theorem PtrTo.qn {S : Nat → Prop} {w : World} {p : Addr} {q : QV} (h : PtrTo eQ S w p q) : PtrTo eZ S w (p.add 0) q.num := by
 obtain ⟨e, ⟨s, t, rfl, hs, ht⟩, h2, h3⟩ := h
 refine ⟨.agg #[.bool q.num.neg, s], ⟨s, rfl, hs⟩, by rw [block_add]; exact h2, fun j u hu => ?_⟩
 rw [add_add]
 refine h3 _ u ?_
 match j with
 | 0 => simpa [Value.cells] using hu
 | 1 => simpa [Value.cells] using hu
 | j + 2 => simp [Value.cells] at hu
theorem PtrTo.qd {S : Nat → Prop} {w : World} {p : Addr} {q : QV} (h : PtrTo eQ S w p q) : PtrTo eZ S w (p.add 2) q.den := by
 obtain ⟨e, ⟨s, t, rfl, hs, ht⟩, h2, h3⟩ := h
 refine ⟨.agg #[.bool q.den.neg, t], ⟨t, rfl, ht⟩, by rw [block_add]; exact h2, fun j u hu => ?_⟩
 rw [add_add]
 refine h3 _ u ?_
 match j with
 | 0 => simpa [Value.cells] using hu
 | 1 => simpa [Value.cells] using hu
 | j + 2 => simp [Value.cells] at hu
section
variable {P : Program} {ro : Option Nat} {N : Nat} {ds : List Deferred} {ops : Array Oper} {K : Env → World → Prop} {rest : List Oper} {σ : Env} {w : World} {d : Tmp} {ty : TypeId} {pos : String} {af : Array Edge}
theorem WL.faP {s : TypeId} {x : Operand} {i off : Nat} {p : Addr} (hf : fldOf P s i = some off) (hd : Nat.blt d N = true) (hx : ev σ x = some (.pointer (some p))) (k : WL P ro N ds ops K rest ((d, .pointer (some (p.add off))) :: σ) w) :
  WL P ro N ds ops K (⟨some d, .fieldAddr s x i, ty, pos, af, none⟩ :: rest) σ w := WL.vl rfl hd (v_faP hf hx) k
end
section
variable {P : Program} {σ : Env} {w : World} {d : Option Tmp} {ty : TypeId} {pos : String} {af : Array Edge} {g : Option (Nat × Bool)} {S : Nat → Prop}
theorem ob_qn {s : TypeId} {x : Operand} {i : Nat} {u : Value} {q : QV} (hf : fldOf P s i = some 0) (hx : ev σ x = some u) (hp : Ptr eQ S q u w) :
  Gv P ⟨d, .fieldAddr s x i, ty, pos, af, g⟩ σ w fun v' w' => Ext w w' ∧ Sp.ok (.inr (Ptr eZ S q.num)) v' w' := by
 obtain ⟨p, rfl, hp⟩ := hp
 exact (v_faP hf hx).gv.mono fun v' w' ⟨e1, e2⟩ => by subst e2; exact ⟨Ext.refl _, fun w'' e => ⟨_, e1, hp.qn.ext e⟩⟩
theorem ob_qd {s : TypeId} {x : Operand} {i : Nat} {u : Value} {q : QV} (hf : fldOf P s i = some 2) (hx : ev σ x = some u) (hp : Ptr eQ S q u w) :
  Gv P ⟨d, .fieldAddr s x i, ty, pos, af, g⟩ σ w fun v' w' => Ext w w' ∧ Sp.ok (.inr (Ptr eZ S q.den)) v' w' := by
 obtain ⟨p, rfl, hp⟩ := hp
 exact (v_faP hf hx).gv.mono fun v' w' ⟨e1, e2⟩ => by subst e2; exact ⟨Ext.refl _, fun w'' e => ⟨_, e1, hp.qd.ext e⟩⟩
end
theorem ob_zw {P : Program} {σ : Env} {w : World} {d : Option Tmp} {ty : TypeId} {pos : String} {af : Array Edge} {g : Option (Nat × Bool)} {S : Nat → Prop} {s : TypeId} {x : Operand} {i : Nat} {u : Value} {z : ZV} (hf : fldOf P s i = some 1) (hx : ev σ x = some u) (hp : Ptr eZ S z u w) :
  Gv P ⟨d, .fieldAddr s x i, ty, pos, af, g⟩ σ w fun v' w' => Ext w w' ∧ Sp.ok (.inr (Ptr eW S z.w)) v' w' := by
 obtain ⟨p, rfl, hp⟩ := hp
 exact (v_faP hf hx).gv.mono fun v' w' ⟨e1, e2⟩ => by subst e2; exact ⟨Ext.refl _, fun w'' e => ⟨_, e1, hp.zw.ext e⟩⟩
/-- a bool that tells, if false, that Q holds -/
@[reducible] def Lng (Q : Prop) : Value → World → Prop := fun v _ => ∃ b, v = .bool b ∧ (b = false → Q)
end Go.Kx
namespace Go.Proofs.YteghbhdniimjbaaGreat
open Go Go.Kx Go.RowKit
theorem un_Zs : Tryz.prog.underlying 226 = some (.slice 30) := by kernel_rfl
theorem bsl_Zs2 {x y x' y' : Value} : bslOf Tryz.prog 226 2 [(0, .agg #[x, y]), (1, .agg #[x', y'])] = some (30, #[x, y, x', y']) := by kernel_rfl
abbrev eZs : ER (List ZV) := RL eZ
def lg1 (l : List ZV) : Bool := l.any fun z => decide (12 < z.w.length)
theorem E_law01_Long : Ent Tryz.prog 192 := ent_of Tryz.func192 (by kernel_rfl) rfl
theorem law01_Long_c {S : Nat → Prop} {w : World} {v : Value} {l : List ZV} (h : eZs.R S w v l) : CR Tryz.prog 192 #[v] w (Is (.bool (lg1 l))) := by
 obtain ⟨_, _, _, _, hl⟩ := RL.len h
 refine enter Tryz.func192 rfl Tryz.ntmps192 rfl ?_
 refine .seq (.region (.asg rfl rfl (.nil (.seq (.seq (.region (.asg rfl rfl (.nil ?_))))))))
 refine .block (.loop (α := Nat) (fun i => [(0, v), (3, .int .i64 (i : Nat))]) (fun i W => W = w ∧ i ≤ l.length ∧ ∀ j z, j < i → l[j]? = some z → ¬ 12 < z.w.length) (fun i => l.length - i) 0 ?_ ?_ ?_)
 ·exact look_cons rfl (look_cons rfl look_nil)
 ·exact ⟨rfl, Nat.zero_le _, fun j z hj => absurd hj (Nat.not_lt_zero _)⟩
 ·rintro i W ⟨rfl, hi, hall⟩
  refine .seq (.seq (.region (.mv rfl rfl (.mv rfl rfl (.lenR un_Zs rfl rfl h ?_)))))
  by_cases hlt : i < l.length
  ·have hyy := List.getElem?_eq_getElem hlt
   generalize l[i] = z at hyy
   refine .lssT rfl rfl rfl (by omega) (.nil (.condT rfl (.skip (.seq (.block (.seq (.region (.mv rfl rfl (.mv rfl rfl ?_)))))))))
   refine .ixN (i := i) un_Zs ty_Z rfl rfl h rfl hyy fun p hp => .faP fld_Z1 rfl rfl (.ldE (E := eW) ty_W rfl rfl hp.zw fun e he => .lenR un_W rfl rfl he ?_)
   by_cases hz : 12 < z.w.length
   ·refine .gtrT rfl rfl rfl (by omega) (.nil (.condT rfl (.seq (.region (.asg rfl rfl (.nil (.ret ?_)))))))
    refine .plain [_] Tryz.results192 ⟨rfl, trivial⟩ ⟨.refl _, isB ?_⟩
    symm
    exact List.any_eq_true.2 ⟨z, List.mem_iff_getElem?.2 ⟨i, hyy⟩, decide_eq_true hz⟩
   ·refine .gtrF rfl rfl rfl (by omega) (.nil (.condF rfl (.skip (.region (.mv rfl rfl (.add rfl rfl rfl (.asg rfl rfl (.nil ?_))))))))
    rw [wI (by omega)]
    refine ⟨rfl, i + 1, look_cons rfl (look_cons rfl look_nil), ⟨rfl, hlt, fun j z' hj hz' => ?_⟩, by show l.length - (i + 1) < l.length - i; omega⟩
    by_cases e : j = i
    ·subst e; rw [hyy] at hz'; cases hz'; exact hz
    ·exact hall j z' (by omega) hz'
  ·refine .lssF rfl rfl rfl (by omega) (.nil (.condF rfl (.exit (.seq (.region (.asg rfl rfl (.nil (.ret ?_))))))))
   refine .plain [_] Tryz.results192 ⟨rfl, trivial⟩ ⟨.refl _, isB ?_⟩
   symm
   refine List.any_eq_false.2 fun z hz => ?_
   obtain ⟨j, hj⟩ := List.mem_iff_getElem?.1 hz
   have hjl : j < l.length := by
    rcases Nat.lt_or_ge j l.length with h | h
    ·exact h
    ·rw [List.getElem?_eq_none h] at hj; cases hj
   have := hall j z (by omega) hj
   simpa using this
theorem ob_zs2 {S : Nat → Prop} {w : World} {σ : Env} {d : Option Tmp} {ty : TypeId} {pos : String} {af : Array Edge} {g : Option (Nat × Bool)} {x y : Operand} {u v : Value} {a b : ZV} (up : Up S w) (hu : eZ.R S w u a) (hv : eZ.R S w v b) (hx : ev σ x = some u := by rfl) (hy : ev σ y = some v := by rfl) :
  Gv Tryz.prog ⟨d, .buildSlice 226 2 #[(0, x), (1, y)], ty, pos, af, g⟩ σ w fun v' w' => Ext w w' ∧ Sp.ok (.inr (eZs.at S [a, b])) v' w' := by
 have hu' := hu
 have hv' := hv
 obtain ⟨s, rfl, hs⟩ := hu'
 obtain ⟨t, rfl, ht⟩ := hv'
 refine (g_bsl (ps := [(0, x), (1, y)]) [(0, .agg #[.bool a.neg, s]), (1, .agg #[.bool b.neg, t])] (by simp [evp, hx, hy]) bsl_Zs2).mono fun v' w' ⟨b2, hv', n2⟩ => ⟨n2.1, fun w'' e => ?_⟩
 have hz : eZs.R S w' (.slice (some ⟨b2, 0, none⟩) 2 2) [a, b] := by
  refine RL.ofBlk (l := [a, b]) (es := [.agg #[.bool a.neg, s], .agg #[.bool b.neg, t]]) n2.2.1 (up b2 (by have := n2.2.2.1; omega)) (Els.snoc (Els.snoc Els.nil (ER.ext eZ hu n2.1)) (ER.ext eZ hv n2.1)) (fun j u hu => ?_) (Nat.le_refl _) (by simp)
  simpa [cellsOf, Value.cells] using hu
 rw [hv']
 exact ER.ext eZs hz e
theorem E_law02_Long : Ent Tryz.prog 151 := ent_of Tryz.func151 (by kernel_rfl) rfl
theorem law02_Long_c {S : Nat → Prop} {w : World} {v : Value} {l : List QV} (up : Up S w) (h : eV.R S w v l) : CR Tryz.prog 151 #[v] w (Lng (∀ q ∈ l, qok 6 q)) := by
 obtain ⟨_, _, _, _, hl⟩ := RL.len h
 refine enter Tryz.func151 rfl Tryz.ntmps151 rfl ?_
 refine .seq (.region (.asg rfl rfl (.nil (.seq (.seq (.region (.asg rfl rfl (.nil ?_))))))))
 refine .block (.loop (α := Nat) (fun i => [(0, v), (3, .int .i64 (i : Nat))]) (fun i W => Ext w W ∧ i ≤ l.length ∧ ∀ j q, j < i → l[j]? = some q → qok 6 q) (fun i => l.length - i) 0 ?_ ?_ ?_)
 ·exact look_cons rfl (look_cons rfl look_nil)
 ·exact ⟨.refl _, Nat.zero_le _, fun j q hj => absurd hj (Nat.not_lt_zero _)⟩
 ·rintro i W ⟨hW, hi, hall⟩
  have hW' := h.ext hW
  refine .seq (.seq (.region (.mv rfl rfl (.mv rfl rfl (.lenR un_V rfl rfl hW' ?_)))))
  by_cases hlt : i < l.length
  ·have hyy := List.getElem?_eq_getElem hlt
   generalize l[i] = q at hyy
   refine .lssT rfl rfl rfl (by omega) (.nil (.condT rfl (.skip (.seq (.block (.seq ?_))))))
   have htrue : ∀ {σ : Env} {W3 : World}, Ext w W3 → Kx.look σ 2 = some (.bool true) → Leave Tryz.prog Tryz.f151 42 (fun v w' => Ext w w' ∧ Lng (∀ q ∈ l, qok 6 q) v w') σ [] W3 := by
    intro σ W3 hW3 hl
    exact .plain [_] Tryz.results151 ⟨hl, trivial⟩ ⟨hW3, true, rfl, fun h => by cases h⟩
   have upW := up.ext hW.size
   cases hb : lg1 [q.num, q.den] with
   | true =>
    refine .par follows 25 [.inl _, .inl _, .inr (Ptr eQ S q), .inr (Ptr eZ S q.num), .inr (eZ.at S q.num), .inl _, .inl _, .inr (Ptr eQ S q), .inr (Ptr eZ S q.den), .inr (eZ.at S q.den), .inr (eZs.at S [q.num, q.den]), .inl (.bool true), .inl (.bool true), .inl (undef), .inl (undef), .inl (undef), .inl (undef), .inl (undef), .inl (undef), .inl (undef), .inl (undef), .inl (.bool true), .inl (.bool true), .inl (undef), .inl (undef)] [[], [], [(10, 0), (11, 1)], [(12, 2)], [(13, 3)], [], [], [(15, 5), (16, 6)], [(17, 7)], [(18, 8)], [(14, 4), (19, 9)], [(20, 10)], [(21, 11)], [(22, 12)], [(22, 12)], [(23, 13), (24, 14), (22, 12)], [(25, 15), (22, 12)], [(26, 16), (22, 12)], [(27, 17), (22, 12)], [(28, 18), (22, 12)], [(29, 19), (22, 12)], [(22, 12), (30, 20)], [(31, 21)], [(32, 22)], [(32, 22)]] (by kernel_rfl) ⟨
     fun w e => (v_mv rfl).ob,
     fun w e => (v_mv rfl).ob,
     fun w e => ob_ixN un_V ty_Q rfl (hW'.ext e) rfl hyy,
     fun w e x hx => ob_qn fld_Q0 rfl hx,
     fun w e x hx => ob_ldE ty_Z rfl hx,
     fun w e => (v_mv rfl).ob,
     fun w e => (v_mv rfl).ob,
     fun w e => ob_ixN un_V ty_Q rfl (hW'.ext e) rfl hyy,
     fun w e x hx => ob_qd fld_Q1 rfl hx,
     fun w e x hx => ob_ldE ty_Z rfl hx,
     fun w e x hx y hy => ob_zs2 (upW.ext e.size) hx hy,
     fun w e x hx => (g_call _ E_law01_Long rfl (by have := law01_Long_c hx; rw [hb] at this; exact this)).obIs,
     fun w e => (v_mv rfl).ob,
     fun w e => rfl,
     fun w e => rfl,
     fun w e => rfl,
     fun w e => rfl,
     fun w e => rfl,
     fun w e => rfl,
     fun w e => rfl,
     fun w e => rfl,
     fun w e => (v_pickT rfl rfl).ob,
     fun w e => (v_mv rfl).ob,
     fun w e => rfl,
     fun w e => rfl,
     trivial⟩ ?_
    intro W1 e1 x2 _ x3 _ x4 _ x7 _ x8 _ x9 _ x10 _
    have hW1 := hW.trans e1
    have h1 := h.ext hW1
    refine .gs rfl rfl rfl rfl rfl (.gs rfl rfl rfl rfl rfl (.gs rfl rfl rfl rfl rfl (.gs rfl rfl rfl rfl rfl (.gs rfl rfl rfl rfl rfl (.gs rfl rfl rfl rfl rfl (.pick rfl rfl rfl (.nil ?_)))))))
    exact .condT rfl (.seq (.region (.asg rfl rfl (.nil (.ret (htrue hW1 rfl))))))
   | false =>
    by_cases hn : q.num.w.length ≤ 6
    ·refine .par follows 25 [.inl _, .inl _, .inr (Ptr eQ S q), .inr (Ptr eZ S q.num), .inr (eZ.at S q.num), .inl _, .inl _, .inr (Ptr eQ S q), .inr (Ptr eZ S q.den), .inr (eZ.at S q.den), .inr (eZs.at S [q.num, q.den]), .inl (.bool false), .inl (.bool false), .inl _, .inl _, .inr (Ptr eQ S q), .inr (Ptr eZ S q.num), .inr (Ptr eW S q.num.w), .inr (eW.at S q.num.w), .inl (.int .i64 q.num.w.length), .inl (.bool false), .inl (.bool false), .inl (.bool false), .inl _, .inl _] [[], [], [(10, 0), (11, 1)], [(12, 2)], [(13, 3)], [], [], [(15, 5), (16, 6)], [(17, 7)], [(18, 8)], [(14, 4), (19, 9)], [(20, 10)], [(21, 11)], [(22, 12)], [(22, 12)], [(23, 13), (24, 14), (22, 12)], [(25, 15), (22, 12)], [(26, 16), (22, 12)], [(27, 17), (22, 12)], [(28, 18), (22, 12)], [(29, 19), (22, 12)], [(22, 12), (30, 20)], [(31, 21)], [(32, 22)], [(32, 22)]] (by kernel_rfl) ⟨
      fun w e => (v_mv rfl).ob,
      fun w e => (v_mv rfl).ob,
      fun w e => ob_ixN un_V ty_Q rfl (hW'.ext e) rfl hyy,
      fun w e x hx => ob_qn fld_Q0 rfl hx,
      fun w e x hx => ob_ldE ty_Z rfl hx,
      fun w e => (v_mv rfl).ob,
      fun w e => (v_mv rfl).ob,
      fun w e => ob_ixN un_V ty_Q rfl (hW'.ext e) rfl hyy,
      fun w e x hx => ob_qd fld_Q1 rfl hx,
      fun w e x hx => ob_ldE ty_Z rfl hx,
      fun w e x hx y hy => ob_zs2 (upW.ext e.size) hx hy,
      fun w e x hx => (g_call _ E_law01_Long rfl (by have := law01_Long_c hx; rw [hb] at this; exact this)).obIs,
      fun w e => (v_mv rfl).ob,
      fun w e => (v_mv rfl).ob,
      fun w e => (v_mv rfl).ob,
      fun w e => ob_ixN un_V ty_Q rfl (hW'.ext e) rfl hyy,
      fun w e x hx => ob_qn fld_Q0 rfl hx,
      fun w e x hx => ob_zw fld_Z1 rfl hx,
      fun w e x hx => ob_ldE ty_W rfl hx,
      fun w e x hx => (v_lenR un_W rfl hx).ob,
      fun w e => ((v_gtr rfl rfl).eq (by rw [decide_eq_false (by omega)])).ob,
      fun w e => (v_pickF rfl rfl).ob,
      fun w e => (v_mv rfl).ob,
      fun w e => (v_mv rfl).ob,
      fun w e => (v_mv rfl).ob,
      trivial⟩ ?_
     intro W1 e1 x2 _ x3 _ x4 _ x7 _ x8 _ x9 _ x10 _ x15 _ x16 _ x17 _ x18 _
     have hW1 := hW.trans e1
     have h1 := h.ext hW1
     refine .gr rfl rfl rfl rfl ?_
     refine .ixN (i := i) un_V ty_Q rfl rfl h1 rfl hyy fun p' hp' => ?_
     refine .gr rfl rfl rfl rfl (.faP fld_Q1 rfl rfl (.gr rfl rfl rfl rfl (.faP fld_Z1 rfl rfl (.gr rfl rfl rfl rfl (.ldE (E := eW) ty_W rfl rfl hp'.qd.zw fun e' he' => .gr rfl rfl rfl rfl (.lenR un_W rfl rfl he' (.gr rfl rfl rfl rfl ?_)))))))
     by_cases hd : q.den.w.length ≤ 6
     ·refine .gtrF rfl rfl rfl (by omega) (.pick rfl rfl rfl (.nil (.condF rfl (.skip (.region (.mv rfl rfl (.add rfl rfl rfl (.asg rfl rfl (.nil ?_)))))))))
      rw [wI (by omega)]
      refine ⟨rfl, i + 1, look_cons rfl (look_cons rfl look_nil), ⟨hW1, hlt, fun j q' hj hq' => ?_⟩, by show l.length - (i + 1) < l.length - i; omega⟩
      by_cases e : j = i
      ·subst e; rw [hyy] at hq'; cases hq'; exact ⟨hn, hd⟩
      ·exact hall j q' (by omega) hq'
     ·refine .gtrT rfl rfl rfl (by omega) (.pick rfl rfl rfl (.nil ?_))
      exact .condT rfl (.seq (.region (.asg rfl rfl (.nil (.ret (htrue hW1 rfl))))))
    ·refine .par follows 25 [.inl _, .inl _, .inr (Ptr eQ S q), .inr (Ptr eZ S q.num), .inr (eZ.at S q.num), .inl _, .inl _, .inr (Ptr eQ S q), .inr (Ptr eZ S q.den), .inr (eZ.at S q.den), .inr (eZs.at S [q.num, q.den]), .inl (.bool false), .inl (.bool false), .inl _, .inl _, .inr (Ptr eQ S q), .inr (Ptr eZ S q.num), .inr (Ptr eW S q.num.w), .inr (eW.at S q.num.w), .inl (.int .i64 q.num.w.length), .inl (.bool true), .inl (.bool true), .inl (.bool true), .inl (undef), .inl (undef)] [[], [], [(10, 0), (11, 1)], [(12, 2)], [(13, 3)], [], [], [(15, 5), (16, 6)], [(17, 7)], [(18, 8)], [(14, 4), (19, 9)], [(20, 10)], [(21, 11)], [(22, 12)], [(22, 12)], [(23, 13), (24, 14), (22, 12)], [(25, 15), (22, 12)], [(26, 16), (22, 12)], [(27, 17), (22, 12)], [(28, 18), (22, 12)], [(29, 19), (22, 12)], [(22, 12), (30, 20)], [(31, 21)], [(32, 22)], [(32, 22)]] (by kernel_rfl) ⟨
      fun w e => (v_mv rfl).ob,
      fun w e => (v_mv rfl).ob,
      fun w e => ob_ixN un_V ty_Q rfl (hW'.ext e) rfl hyy,
      fun w e x hx => ob_qn fld_Q0 rfl hx,
      fun w e x hx => ob_ldE ty_Z rfl hx,
      fun w e => (v_mv rfl).ob,
      fun w e => (v_mv rfl).ob,
      fun w e => ob_ixN un_V ty_Q rfl (hW'.ext e) rfl hyy,
      fun w e x hx => ob_qd fld_Q1 rfl hx,
      fun w e x hx => ob_ldE ty_Z rfl hx,
      fun w e x hx y hy => ob_zs2 (upW.ext e.size) hx hy,
      fun w e x hx => (g_call _ E_law01_Long rfl (by have := law01_Long_c hx; rw [hb] at this; exact this)).obIs,
      fun w e => (v_mv rfl).ob,
      fun w e => (v_mv rfl).ob,
      fun w e => (v_mv rfl).ob,
      fun w e => ob_ixN un_V ty_Q rfl (hW'.ext e) rfl hyy,
      fun w e x hx => ob_qn fld_Q0 rfl hx,
      fun w e x hx => ob_zw fld_Z1 rfl hx,
      fun w e x hx => ob_ldE ty_W rfl hx,
      fun w e x hx => (v_lenR un_W rfl hx).ob,
      fun w e => ((v_gtr rfl rfl).eq (by rw [decide_eq_true (by omega)])).ob,
      fun w e => (v_pickF rfl rfl).ob,
      fun w e => (v_mv rfl).ob,
      fun w e => rfl,
      fun w e => rfl,
      trivial⟩ ?_
     intro W1 e1 x2 _ x3 _ x4 _ x7 _ x8 _ x9 _ x10 _ x15 _ x16 _ x17 _ x18 _
     have hW1 := hW.trans e1
     have h1 := h.ext hW1
     refine .gs rfl rfl rfl rfl rfl (.gs rfl rfl rfl rfl rfl (.gs rfl rfl rfl rfl rfl (.gs rfl rfl rfl rfl rfl (.gs rfl rfl rfl rfl rfl (.gs rfl rfl rfl rfl rfl (.pick rfl rfl rfl (.nil ?_)))))))
     exact .condT rfl (.seq (.region (.asg rfl rfl (.nil (.ret (htrue hW1 rfl))))))
  ·refine .lssF rfl rfl rfl (by omega) (.nil (.condF rfl (.exit (.seq (.region (.asg rfl rfl (.nil (.ret ?_))))))))
   refine .plain [_] Tryz.results151 ⟨rfl, trivial⟩ ⟨hW, false, rfl, fun _ q hq => ?_⟩
   obtain ⟨j, hj⟩ := List.mem_iff_getElem?.1 hq
   have hjl : j < l.length := by
    rcases Nat.lt_or_ge j l.length with h | h
    ·exact h
    ·rw [List.getElem?_eq_none h] at hj; cases hj
   exact hall j q (by omega) hj
end Go.Proofs.YteghbhdniimjbaaGreat
