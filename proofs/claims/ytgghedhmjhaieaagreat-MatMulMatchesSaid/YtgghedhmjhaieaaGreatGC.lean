/-
  The references: matrices: At, row, place, made The references: matrices: place of a product, made, Mul, Turn, Beside The references: matrices: Mul, Turn, Beside, Times, Add The references: matrices: Add, Scale, Left The references: matrices: Left vec.Scale, mat.Scale The laws' own copies: Own The laws' own copies: vectors and matrices
-/
import Derived.Test.YtgghedhmjhaieaaGreatGB
set_option linter.unusedVariables false
namespace Go.Kx
theorem rmI_atI (m : List (List QV)) (i : Nat) (k : Int) : qval (atI (m.getD i []) k) = rmI m i k := by
  unfold rmI atI
  by_cases h : k < 0
  · rw [if_pos h, if_pos (.inr h)]; exact qval_q0
  · rw [if_neg h, if_neg (by omega)]; simp [rm, rv]
end Go.Kx
namespace Go.Proofs.YtgghedhmjhaieaaGreat
open Go Go.Kx Go.RowKit

theorem E_ref04_At : Ent Tryz.prog 28 := ent_of Tryz.func28 (by kernel_rfl) rfl
theorem ref04_At_c {S : Nat → Prop} {w : World} {vm : Value} {m : List (List QV)} {i k : Int} {L : Nat} (up : Up S w) (hm : eM.R S w vm m) (hk : mk_ L m) (hL : 1 ≤ L) (hL2 : L ≤ 1000000000) : CR Tryz.prog 28 #[vm, .int .i64 i, .int .i64 k] w (eQ.at S (qc (rmI m i k))) := by
  refine enter Tryz.func28 rfl Tryz.ntmps28 rfl ?_
  refine .seq (.region (.alloc rfl zero_Q fun w1 b6 n1 => .nil ?_))
  obtain ⟨e1, k6, hb6, hs1⟩ := n1
  have hS : ¬ Sx S w.heap.size w1.heap.size b6 := Sx.no (by omega) (by omega)
  have up1 : Up (Sx S w.heap.size w1.heap.size) w1 := Sx.up up (Nat.le_refl _) e1.size
  have h1 := (ER.par eM hm w1.heap.size).ext e1
  have hout : ∀ {W : World} {v : Value} {z : QV}, eQ.R (Sx S w.heap.size w1.heap.size) W v z → eQ.R S W v z := fun h => h.out
  generalize hT : Sx S w.heap.size w1.heap.size = T at *
  have hq : eQ.R T w1 (.agg #[.bool false, .slice none 0 0, .bool false, .slice none 0 0]) (qc 0) := by rw [qc_zero]; exact ⟨_, _, rfl, RL.nil, RL.nil⟩
  refine .seq (.seq (.region (.mv rfl rfl ?_)))
  by_cases h0 : i < 0
  · refine .lssT rfl rfl rfl h0 (.mv rfl rfl (.gs rfl rfl rfl rfl rfl (.gs rfl rfl rfl rfl rfl (.gs rfl rfl rfl rfl rfl (.gs rfl rfl rfl rfl rfl (.pick rfl rfl rfl (.nil (.condT rfl (.seq (.region (.bld [] rfl rfl bld_Q0 ?_)))))))))))
    refine .storeA (E := eQ) ty_Q rfl rfl k6 rfl rfl hq hS fun w5 k5 u5 h5 => .nil (.ret ?_)
    refine .cell Tryz.results28 rfl ty_Q rfl rfl k5 h5 ⟨u5.below e1 (by omega), ?_⟩
    rw [show rmI m i k = 0 by unfold rmI; rw [if_pos (.inl h0)]]
    exact hout h5
  · refine .lssF rfl rfl rfl h0 (.mv rfl rfl (.gr rfl rfl rfl rfl (.mv rfl rfl (.gr rfl rfl rfl rfl (.mv rfl rfl (.gr rfl rfl rfl rfl (.lenR un_M rfl rfl h1 (.gr rfl rfl rfl rfl ?_))))))))
    by_cases hl : (m.length : Int) ≤ i
    · refine .geqT rfl rfl rfl hl (.pick rfl rfl rfl (.nil (.condT rfl (.seq (.region (.bld [] rfl rfl bld_Q0 ?_))))))
      refine .storeA (E := eQ) ty_Q rfl rfl k6 rfl rfl hq hS fun w5 k5 u5 h5 => .nil (.ret ?_)
      refine .cell Tryz.results28 rfl ty_Q rfl rfl k5 h5 ⟨u5.below e1 (by omega), ?_⟩
      rw [show rmI m i k = 0 by unfold rmI; split; rfl; exact rm_out (by omega)]
      exact hout h5
    · refine .geqF rfl rfl rfl hl (.pick rfl rfl rfl (.nil (.condF rfl (.skip (.seq (.region (.mv rfl rfl (.mv rfl rfl ?_))))))))
      obtain ⟨j, rfl⟩ : ∃ j : Nat, i = j := ⟨i.toNat, by omega⟩
      refine .ixN (i := j) un_M ty_V rfl rfl h1 rfl (getD_get' (z := []) (by omega)) fun p hp => .ldE ty_V rfl rfl hp fun e he => .mv rfl rfl ?_
      refine .call _ rfl E_ref03_At rfl (ref03_At_c he) fun v2 w2 e2 h2 => ?_
      have hqa : qok L (atI (m.getD j []) k) := by
        unfold atI; split
        · exact (qk_q0 hL).1
        · exact ((hk.get j).get hL _).1
      refine .call _ rfl E_ref02_Least rfl (ref02_Least_c (up1.ext e2.size) h2 hqa hL hL2) fun v3 w3 e3 h3 => ?_
      rw [rmI_atI] at h3
      refine .storeA (E := eQ) ty_Q rfl rfl ((k6.ext e2).ext e3) rfl rfl h3 hS fun w5 k5 u5 h5 => .nil (.ret ?_)
      exact .cell Tryz.results28 rfl ty_Q rfl rfl k5 h5 ⟨u5.below ((e1.trans e2).trans e3) (by omega), hout h5⟩

theorem E_ref04_row : Ent Tryz.prog 47 := ent_of Tryz.func47 (by kernel_rfl) rfl
theorem ref04_row_c {S : Nat → Prop} {w : World} {vm : Value} {m : List (List QV)} {i : Nat} (hm : eM.R S w vm m) : CR Tryz.prog 47 #[vm, .int .i64 i] w (eV.at S (m.getD i [])) := by
  refine enter Tryz.func47 rfl Tryz.ntmps47 rfl ?_
  refine .seq (.region (.asg rfl rfl (.nil (.seq (.seq (.region (.mv rfl rfl (.mv rfl rfl (.lenR un_M rfl rfl hm ?_)))))))))
  by_cases hl : i < m.length
  · refine .lssT rfl rfl rfl (by omega) (.nil (.condT rfl (.seq (.region (.mv rfl rfl (.mv rfl rfl ?_))))))
    refine .ixN (i := i) un_M ty_V rfl rfl hm rfl (getD_get' (z := []) hl) fun p hp => .ldE ty_V rfl rfl hp fun e he => .asg rfl rfl (.nil (.ret ?_))
    exact .plain [_] Tryz.results47 ⟨rfl, trivial⟩ ⟨Ext.refl _, he⟩
  · refine .lssF rfl rfl rfl (by omega) (.nil (.condF rfl (.skip (.seq (.region (.asg rfl rfl (.nil (.ret ?_))))))))
    refine .plain [_] Tryz.results47 ⟨rfl, trivial⟩ ⟨Ext.refl _, ?_⟩
    rw [show m.getD i [] = [] by rw [List.getD_eq_getElem?_getD, List.getElem?_eq_none (by omega)]; rfl]
    exact RL.nil

theorem E_ref04_place : Ent Tryz.prog 74 := ent_of Tryz.func74 (by kernel_rfl) rfl
theorem ref04_place1_c {S : Nat → Prop} {w : World} {vk_ va vb : Value} {k : QV} {a : List (List QV)} {i j : Int} {L : Nat} (up : Up S w) (hk : eQ.R S w vk_ k) (ha : eM.R S w va a) (hka : mk_ L a) (hL : 1 ≤ L) (hL2 : L ≤ 1000000000) :
    CR Tryz.prog 74 #[.int .u8 1, vk_, va, vb, .int .i64 i, .int .i64 j] w (eQ.at S (qc (rmI a j i))) := by
  obtain ⟨s, t, rfl, hs, ht⟩ := hk
  refine enter Tryz.func74 rfl Tryz.ntmps74 rfl ?_
  refine .seq (.region (.box rfl rfl fun w1 b7 n1 => .alloc rfl zero_Q fun w2 b12 n2 => .nil ?_))
  obtain ⟨e1, k7, hb7, hs1⟩ := n1
  obtain ⟨e2, k12, hb12, hs2⟩ := n2
  have x2 := e1.trans e2
  have hS : ¬ Sx S w.heap.size w2.heap.size b12 := Sx.no (by omega) (by omega)
  have up2 : Up (Sx S w.heap.size w2.heap.size) w2 := Sx.up up (Nat.le_refl _) x2.size
  have ha2 := (ER.par eM ha w2.heap.size).ext x2
  refine .seq (.seq (.region (.mv rfl rfl (.nil (.block (.seq (.region (.eqlT rfl rfl rfl rfl (.asg rfl rfl (.nil (.condT rfl (.seq (.region (.mv rfl rfl (.mv rfl rfl (.mv rfl rfl ?_))))))))))))))))
  refine .call _ rfl E_ref04_At rfl (ref04_At_c up2 ha2 hka hL hL2) fun v3 w3 e3 h3 => ?_
  refine .storeA (E := eQ) ty_Q rfl rfl (k12.ext e3) rfl rfl h3 hS fun w5 k5 u5 h5 => .nil (.ret ?_)
  exact .cell Tryz.results74 rfl ty_Q rfl rfl k5 h5 ⟨u5.below (x2.trans e3) (by omega), h5.out⟩

theorem ref04_place0_c {S : Nat → Prop} {w : World} {vk_ va vb : Value} {k : QV} {a : List (List QV)} {i j : Int} {L : Nat} (up : Up S w) (hk : eQ.R S w vk_ k) (ha : eM.R S w va a) (hkk : qk L k) (hka : mk_ L a) (hL : 1 ≤ L) (hL2 : L ≤ 100000000) :
    CR Tryz.prog 74 #[.int .u8 0, vk_, va, vb, .int .i64 i, .int .i64 j] w (eQ.at S (qc (qval k * rmI a i j))) := by
  obtain ⟨s, t, rfl, hs, ht⟩ := hk
  have hk : eQ.R S w (.agg #[.bool k.num.neg, s, .bool k.den.neg, t]) k := ⟨s, t, rfl, hs, ht⟩
  refine enter Tryz.func74 rfl Tryz.ntmps74 rfl ?_
  refine .seq (.region (.box rfl rfl fun w1 b7 n1 => .alloc rfl zero_Q fun w2 b12 n2 => .nil ?_))
  obtain ⟨e1, k7, hb7, hs1⟩ := n1
  obtain ⟨e2, k12, hb12, hs2⟩ := n2
  have x2 := e1.trans e2
  have k7 := k7.ext e2
  have hS : ¬ Sx S w.heap.size w2.heap.size b12 := Sx.no (by omega) (by omega)
  have up2 : Up (Sx S w.heap.size w2.heap.size) w2 := Sx.up up (Nat.le_refl _) x2.size
  have ha2 := (ER.par eM ha w2.heap.size).ext x2
  have hk2 := (ER.par eQ hk w2.heap.size).ext x2
  have hout : ∀ {W : World} {v : Value} {z : QV}, eQ.R (Sx S w.heap.size w2.heap.size) W v z → eQ.R S W v z := fun h => h.out
  generalize hT : Sx S w.heap.size w2.heap.size = T at *
  have hr : qok L (qc (rmI a i j)) := by
    unfold rmI; split
    · exact (Rsz.zero hL).toOk
    · exact (hka.rsz hL _ _).toOk
  refine .seq (.seq (.region (.mv rfl rfl (.nil (.block (.seq (.region (.eqlF rfl rfl rfl (by decide) (.asg rfl rfl (.nil (.condF rfl (.seq (.region (.eqlF rfl rfl rfl (by decide) (.asg rfl rfl (.nil (.condF rfl (.seq (.region (.eqlF rfl rfl rfl (by decide) (.asg rfl rfl (.nil (.condF rfl (.skip (.seq ?_)))))))))))))))))))))))))
  refine .par follows 6 [.inl (.agg #[.bool k.num.neg, s, .bool k.den.neg, t]), .inl va, .inl (.int .i64 i), .inl (.int .i64 j), .inr (eQ.at T (qc (rmI a i j))), .inr (eQ.at T (qc (qval k * qval (qc (rmI a i j)))))] [[], [], [], [], [(61, 1), (62, 2), (63, 3)], [(60, 0), (64, 4)]] (by kernel_rfl) ⟨
    fun w e => (v_ldA ty_Q rfl (k7.ext e) rfl).ob, fun w e => (v_mv rfl).ob, fun w e => (v_mv rfl).ob, fun w e => (v_mv rfl).ob,
    fun w e => (g_call _ E_ref04_At rfl (ref04_At_c (up2.ext e.size) (ER.ext eM ha2 e) hka hL (by omega))).ob (st_at _ _ _),
    fun w e x hx => (g_call _ E_ref02_Mul rfl (ref02_Mul_c (up2.ext e.size) (ER.ext eQ hk2 e) hx hkk.1 hr hL (by omega))).ob (st_at _ _ _), trivial⟩ ?_
  rintro w3 e3 x - z hz
  rw [qval_qc] at hz
  refine .storeA (E := eQ) ty_Q rfl rfl (k12.ext e3) rfl rfl hz hS fun w5 k5 u5 h5 => .nil (.ret ?_)
  exact .cell Tryz.results74 rfl ty_Q rfl rfl k5 h5 ⟨u5.below (x2.trans e3) (by omega), hout h5⟩

theorem ref04_place3_c {S : Nat → Prop} {w : World} {vk_ va vb : Value} {k : QV} {a b : List (List QV)} {i j : Nat} {L : Nat} (up : Up S w) (hk : eQ.R S w vk_ k) (ha : eM.R S w va a) (hb : eM.R S w vb b) (hka : mk_ L a) (hkb : mk_ L b) (hL : 1 ≤ L) (hL2 : L ≤ 1000000000) (hj : j ≤ 1000000000) :
    CR Tryz.prog 74 #[.int .u8 3, vk_, va, vb, .int .i64 i, .int .i64 j] w (eQ.at S (qc (catM a b i j))) := by
  obtain ⟨s, t, rfl, hs, ht⟩ := hk
  refine enter Tryz.func74 rfl Tryz.ntmps74 rfl ?_
  refine .seq (.region (.box rfl rfl fun w1 b7 n1 => .alloc rfl zero_Q fun w2 b12 n2 => .nil ?_))
  obtain ⟨e1, k7, hb7, hs1⟩ := n1
  obtain ⟨e2, k12, hb12, hs2⟩ := n2
  have x2 := e1.trans e2
  have hS : ¬ Sx S w.heap.size w2.heap.size b12 := Sx.no (by omega) (by omega)
  have up2 : Up (Sx S w.heap.size w2.heap.size) w2 := Sx.up up (Nat.le_refl _) x2.size
  have ha2 := (ER.par eM ha w2.heap.size).ext x2
  have hb2 := (ER.par eM hb w2.heap.size).ext x2
  refine .seq (.seq (.region (.mv rfl rfl (.nil (.block (.seq (.region (.eqlF rfl rfl rfl (by decide) (.asg rfl rfl (.nil (.condF rfl (.seq (.region (.eqlF rfl rfl rfl (by decide) (.asg rfl rfl (.nil (.condF rfl (.seq (.region (.eqlT rfl rfl rfl rfl (.asg rfl rfl (.nil (.condT rfl (.seq (.seq (.region (.mv rfl rfl (.mv rfl rfl ?_))))))))))))))))))))))))))))
  refine .call _ rfl E_ref04_Cols rfl (ref04_Cols_c ha2) fun v3 w3 e3 h3 => ?_
  subst h3
  by_cases h : j < colsOf a
  · refine .lssT rfl rfl rfl (by omega) (.nil (.condT rfl (.seq (.region (.mv rfl rfl (.mv rfl rfl (.mv rfl rfl ?_)))))))
    refine .call _ rfl E_ref04_At rfl (ref04_At_c (up2.ext e3.size) (ER.ext eM ha2 e3) hka hL hL2) fun v4 w4 e4 h4 => ?_
    refine .storeA (E := eQ) ty_Q rfl rfl ((k12.ext e3).ext e4) rfl rfl h4 hS fun w5 k5 u5 h5 => .nil (.ret ?_)
    refine .cell Tryz.results74 rfl ty_Q rfl rfl k5 h5 ⟨u5.below ((x2.trans e3).trans e4) (by omega), ?_⟩
    rw [show catM a b i j = rmI a i j by unfold catM; rw [if_pos h, rmI_nat]]
    exact h5.out
  · refine .lssF rfl rfl rfl (by omega) (.nil (.condF rfl (.skip (.seq (.region (.mv rfl rfl (.mv rfl rfl (.mv rfl rfl (.mv rfl rfl ?_)))))))))
    refine .call _ rfl E_ref04_Cols rfl (ref04_Cols_c (ER.ext eM ha2 e3)) fun v4 w4 e4 h4 => ?_
    subst h4
    refine .sub rfl rfl rfl ?_
    rw [wI (by omega), show (j : Int) - (colsOf a : Int) = ((j - colsOf a : Nat) : Int) by omega]
    have e34 := e3.trans e4
    refine .call _ rfl E_ref04_At rfl (ref04_At_c (up2.ext e34.size) (ER.ext eM hb2 e34) hkb hL hL2) fun v5 w5 e5 h5 => ?_
    refine .storeA (E := eQ) ty_Q rfl rfl ((k12.ext e34).ext e5) rfl rfl h5 hS fun w6 k6 u6 h6 => .nil (.ret ?_)
    refine .cell Tryz.results74 rfl ty_Q rfl rfl k6 h6 ⟨u6.below ((x2.trans e34).trans e5) (by omega), ?_⟩
    rw [show catM a b i j = rmI b i (j - colsOf a : Nat) by unfold catM; rw [if_neg h, rmI_nat]]
    exact h6.out
end Go.Proofs.YtgghedhmjhaieaaGreat

namespace Go.Proofs.YtgghedhmjhaieaaGreat
open Go Go.Kx Go.RowKit

theorem ref04_place2_c {S : Nat → Prop} {w : World} {vk_ va vb : Value} {k : QV} {a b : List (List QV)} {i j : Nat} {L : Nat} (up : Up S w) (hk : eQ.R S w vk_ k) (ha : eM.R S w va a) (hb : eM.R S w vb b) (hka : mk_ L a) (hkb : mk_ L b) (hL : 1 ≤ L) (hL2 : L ≤ 1000) (hca : colsOf a ≤ 10000) :
    CR Tryz.prog 74 #[.int .u8 2, vk_, va, vb, .int .i64 i, .int .i64 j] w (eQ.at S (qc (sumN (colsOf a) fun n => rm a i n * rm b n j))) := by
  obtain ⟨s, t, rfl, hs, ht⟩ := hk
  refine enter Tryz.func74 rfl Tryz.ntmps74 rfl ?_
  refine .seq (.region (.box rfl rfl fun w1 b7 n1 => .alloc rfl zero_Q fun w1' b12 n1' => .nil ?_))
  obtain ⟨e1, k7, hb7, hs1⟩ := n1
  obtain ⟨e1', k4, hb12, hs1'⟩ := n1'
  refine .seq (.seq (.region (.mv rfl rfl (.nil (.block (.seq (.region (.eqlF rfl rfl rfl (by decide) (.asg rfl rfl (.nil (.condF rfl (.seq (.region (.eqlT rfl rfl rfl rfl (.asg rfl rfl (.nil (.condT rfl (.seq (.region (.bld [] rfl rfl bld_Q0 (.alloc rfl zero_Q fun w2 b5 n2 => ?_)))))))))))))))))))))
  obtain ⟨e2, k5, hb5, hs2⟩ := n2
  have x2 := (e1.trans e1').trans e2
  have k4 := k4.ext e2
  have hS4 : ¬ Sx S w.heap.size w2.heap.size b12 := Sx.no (by omega) (by omega)
  have hS5 : ¬ Sx S w.heap.size w2.heap.size b5 := Sx.no (by omega) (by omega)
  have hne : b12 ≠ b5 := by omega
  have up2 : Up (Sx S w.heap.size w2.heap.size) w2 := Sx.up up (Nat.le_refl _) x2.size
  have ha2 := (ER.par eM ha w2.heap.size).ext x2
  have hb2' := (ER.par eM hb w2.heap.size).ext x2
  have hout : ∀ {W : World} {v : Value} {z : QV}, eQ.R (Sx S w.heap.size w2.heap.size) W v z → eQ.R S W v z := fun h => h.out
  generalize hT : Sx S w.heap.size w2.heap.size = T at *
  have hq : eQ.R T w2 (.agg #[.bool false, .slice none 0 0, .bool false, .slice none 0 0]) (qc 0) := by rw [qc_zero]; exact ⟨_, _, rfl, RL.nil, RL.nil⟩
  refine .storeA (E := eQ) ty_Q rfl rfl k5 rfl rfl hq hS5 fun w3 k5 u3 h3 => .nil ?_
  have k4 := k4.upd u3 hne
  have hB3 : Below w.heap.size w w3 := u3.below x2 (by omega)
  have ha3 := ER.upd eM ha2 u3 hS5
  have hb3' := ER.upd eM hb2' u3 hS5
  have up3 : Up T w3 := fun k hk => up2 k (by have := u3.size; omega)
  generalize hf : (fun n => rm a i n * rm b n j) = f
  refine .seq (.seq (.region (.asg rfl rfl (.nil ?_))))
  refine .block (.loop (α := Nat × Value) (fun x => [(2, va), (3, vb), (4, .int .i64 (i : Nat)), (5, .int .i64 (j : Nat)), (12, .pointer (some ⟨b12, 0, none⟩)), (13, .pointer (some ⟨b5, 0, none⟩)), (14, .int .i64 (x.1 : Nat))])
    (fun x W => Below w.heap.size w W ∧ Up T W ∧ x.1 ≤ colsOf a ∧ Blk W b12 28 (Value.agg #[.bool false, .slice none 0 0, .bool false, .slice none 0 0]).cells ∧ Blk W b5 28 x.2.cells ∧ eQ.R T W x.2 (qc (sumN x.1 f)) ∧ eM.R T W va a ∧ eM.R T W vb b) (fun x => colsOf a - x.1) (0, .agg #[.bool false, .slice none 0 0, .bool false, .slice none 0 0]) ?_ ?_ ?_)
  · exact look_cons rfl (look_cons rfl (look_cons rfl (look_cons rfl (look_cons rfl (look_cons rfl (look_cons rfl look_nil))))))
  · exact ⟨hB3, up3, Nat.zero_le _, k4, k5, h3, ha3, hb3'⟩
  · rintro ⟨n, u⟩ W ⟨hB, upW, hn, k4, k5, hu, haW, hbW⟩
    replace hB : Below w.heap.size w W := hB
    replace hn : n ≤ colsOf a := hn
    replace k5 : Blk W b5 28 u.cells := k5
    replace hu : eQ.R T W u (qc (sumN n f)) := hu
    refine .weak [(2, va), (3, vb), (4, .int .i64 (i : Nat)), (5, .int .i64 (j : Nat)), (12, .pointer (some ⟨b12, 0, none⟩)), (13, .pointer (some ⟨b5, 0, none⟩)), (14, .int .i64 (n : Nat))] (fun t v h => h) ?_
    have hsz := hB.size
    obtain ⟨s, t, rfl, hs, ht⟩ := hu
    have hu : eQ.R T W (.agg #[.bool (qc (sumN n f)).num.neg, s, .bool (qc (sumN n f)).den.neg, t]) (qc (sumN n f)) := ⟨s, t, rfl, hs, ht⟩
    refine .seq (.seq (.region (.mv rfl rfl (.mv rfl rfl ?_))))
    refine .call _ rfl E_ref04_Cols rfl (ref04_Cols_c haW) fun v4 W1 f1 h4 => ?_
    subst h4
    have hB1 : Below w.heap.size w W1 := hB.trans (f1.mono hsz)
    have hsz1 := hB1.size
    have upW1 := upW.ext f1.size
    have k4 := k4.ext f1
    have k5 := k5.ext f1
    have hu1 := ER.ext eQ hu f1
    have haW := ER.ext eM haW f1
    have hbW := ER.ext eM hbW f1
    by_cases hlt : n < colsOf a
    · refine .lssT rfl rfl rfl (by omega) (.nil (.condT rfl (.skip (.seq (.block ?_)))))
      have hai := hka.rsz hL i n
      have hbi := hkb.rsz hL n j
      have hsum : Rsz (sumN n f) (1 + n * (L + L + 1)) := sumN_rsz fun k _ => by rw [← hf]; exact (hka.rsz hL i k).mul (hkb.rsz hL k j)
      have hbig : 1 + n * (L + L + 1) ≤ 100000000 := by
        have := Nat.mul_le_mul (show n ≤ 10000 by omega) (show L + L + 1 ≤ 2001 by omega)
        omega
      have hm2 : Rsz (qval (qc (rmI a i n)) * qval (qc (rmI b n j))) (L + L) := by rw [qval_qc, qval_qc, rmI_nat, rmI_nat]; exact hai.mul hbi
      refine .par follows 11 [.inl (.agg #[.bool (qc (sumN n f)).num.neg, s, .bool (qc (sumN n f)).den.neg, t]), .inl va, .inl (.int .i64 (i : Nat)), .inl (.int .i64 (n : Nat)), .inr (eQ.at T (qc (rmI a i n))), .inl vb, .inl (.int .i64 (n : Nat)), .inl (.int .i64 (j : Nat)), .inr (eQ.at T (qc (rmI b n j))), .inr (eQ.at T (qc (qval (qc (rmI a i n)) * qval (qc (rmI b n j))))), .inr (eQ.at T (qc (qval (qc (sumN n f)) + qval (qc (qval (qc (rmI a i n)) * qval (qc (rmI b n j)))))))]
          [[], [], [], [], [(32, 1), (33, 2), (34, 3)], [], [], [], [(36, 5), (37, 6), (38, 7)], [(35, 4), (39, 8)], [(31, 0), (40, 9)]] (by kernel_rfl) ⟨
        fun w e => (v_ldA ty_Q rfl (k5.ext e) rfl).ob, fun w e => (v_mv rfl).ob, fun w e => (v_mv rfl).ob, fun w e => (v_mv rfl).ob,
        fun w e => (g_call _ E_ref04_At rfl (ref04_At_c (upW1.ext e.size) (ER.ext eM haW e) hka hL (by omega))).ob (st_at _ _ _),
        fun w e => (v_mv rfl).ob, fun w e => (v_mv rfl).ob, fun w e => (v_mv rfl).ob,
        fun w e => (g_call _ E_ref04_At rfl (ref04_At_c (upW1.ext e.size) (ER.ext eM hbW e) hkb hL (by omega))).ob (st_at _ _ _),
        fun w e x hx y hy => (g_call _ E_ref02_Mul rfl (ref02_Mul_c (L := L) (upW1.ext e.size) hx hy (by rw [rmI_nat]; exact hai.toOk) (by rw [rmI_nat]; exact hbi.toOk) hL (by omega))).ob (st_at _ _ _),
        fun w e y hy => (g_call _ E_ref02_Add rfl (ref02_Add_c (L := 1 + n * (L + L + 1) + (L + L)) (upW1.ext e.size) (ER.ext eQ hu1 e) hy (hsum.toOk.mono (by omega)) (hm2.toOk.mono (by omega)) (by omega) (by omega))).ob (st_at _ _ _), trivial⟩ ?_
      rintro W2 e2 x1 - x2 - x3 - z hz
      rw [qval_qc, qval_qc, qval_qc, qval_qc, rmI_nat, rmI_nat] at hz
      refine .storeA (E := eQ) ty_Q rfl rfl (k5.ext e2) rfl rfl hz hS5 fun W3 k5 u3 h3 => .nil ?_
      refine .region (.mv rfl rfl (.add rfl rfl rfl (.asg rfl rfl (.nil ?_))))
      rw [wI (by omega)]
      refine ⟨rfl, (n + 1, z), look_cons rfl (look_cons rfl (look_cons rfl (look_cons rfl (look_cons rfl (look_cons rfl (look_cons rfl look_nil)))))), ⟨u3.below (hB1.trans (e2.mono hsz1)) (by omega), fun k hk => upW1 k (by have := u3.size; have := e2.size; omega), hlt, (k4.ext e2).upd u3 hne, k5, ?_, ER.upd eM (ER.ext eM haW e2) u3 hS5, ER.upd eM (ER.ext eM hbW e2) u3 hS5⟩, by show colsOf a - (n + 1) < colsOf a - n; omega⟩
      show eQ.R T W3 z (qc (sumN (n + 1) f))
      rw [show sumN (n + 1) f = sumN n f + rm a i n * rm b n j by rw [← hf]; rfl]
      exact h3
    · refine .lssF rfl rfl rfl (by omega) (.nil (.condF rfl (.exit (.seq (.region (.ldA ty_Q rfl rfl k5 rfl ?_))))))
      have : n = colsOf a := by omega
      subst this
      refine .storeA (E := eQ) ty_Q rfl rfl k4 rfl rfl hu1 hS4 fun W3 k3 u3 h3 => .nil (.ret ?_)
      exact .cell Tryz.results74 rfl ty_Q rfl rfl k3 h3 ⟨u3.below hB1 (by omega), hout h3⟩

theorem E_ref04_made : Ent Tryz.prog 43 := ent_of Tryz.func43 (by kernel_rfl) rfl
theorem ref04_made_c {S : Nat → Prop} {w : World} {r c : Nat} {kind : Int} {vk_ va vb : Value} {k : QV} {a b : List (List QV)} {f : Nat → Nat → Rat} (up : Up S w) (hk : eQ.R S w vk_ k) (ha : eM.R S w va a) (hb : eM.R S w vb b) (hr : r ≤ 100000000) (hc : c ≤ 100000000)
    (hf : ∀ {T : Nat → Prop} {W : World} {i j : Nat}, Up T W → eQ.R T W vk_ k → eM.R T W va a → eM.R T W vb b → i < r → j < c → CR Tryz.prog 74 #[.int .u8 kind, vk_, va, vb, .int .i64 i, .int .i64 j] W (eQ.at T (qc (f i j)))) :
    CR Tryz.prog 43 #[.int .i64 r, .int .i64 c, .int .u8 kind, vk_, va, vb] w (eM.at S (tabM r c f)) := by
  obtain ⟨s, t, rfl, hs, ht⟩ := hk
  have hk : eQ.R S w (.agg #[.bool k.num.neg, s, .bool k.den.neg, t]) k := ⟨s, t, rfl, hs, ht⟩
  refine enter Tryz.func43 rfl Tryz.ntmps43 rfl ?_
  refine .seq (.region (.box rfl rfl fun w1 b9 n1 => .asg rfl rfl (.nil (.seq (.region (.asg rfl rfl (.nil (.seq (.seq (.region (.asg rfl rfl (.nil ?_))))))))))))
  obtain ⟨e1, k9, hb9, hs1⟩ := n1
  have hB1 : ∀ {W : World}, Ext w1 W → Kp (fun k => S k ∧ k < w1.heap.size) w1 W := fun hB k c t f hk h => (hB.block k hk.2).trans h
  have hK : ∀ {W : World}, Ext w1 W → eQ.R (fun k => S k ∧ k < w1.heap.size) W (.agg #[.bool k.num.neg, s, .bool k.den.neg, t]) k := fun hB => eQ.keep (hB1 hB) (ER.lt eQ (ER.ext eQ hk e1))
  have hA : ∀ {W : World}, Ext w1 W → eM.R (fun k => S k ∧ k < w1.heap.size) W va a := fun hB => eM.keep (hB1 hB) (ER.lt eM (ER.ext eM ha e1))
  have hBb : ∀ {W : World}, Ext w1 W → eM.R (fun k => S k ∧ k < w1.heap.size) W vb b := fun hB => eM.keep (hB1 hB) (ER.lt eM (ER.ext eM hb e1))
  have up1 := up.ext e1.size
  generalize hG : (fun i => tab c (f i)) = G
  refine .block (.loop (α := Nat × Value) (fun x => [(0, .int .i64 (r : Nat)), (1, .int .i64 (c : Nat)), (2, .int .u8 kind), (4, va), (5, vb), (9, .pointer (some ⟨b9, 0, none⟩)), (13, x.2), (14, .int .i64 (x.1 : Nat))]) (fun x W => Ext w1 W ∧ x.1 ≤ r ∧ OwnL eV 23 w1.heap.size S W x.2 ((List.range x.1).map G)) (fun x => r - x.1) (0, .slice none 0 0) ?_ ?_ ?_)
  · exact look_cons rfl (look_cons rfl (look_cons rfl (look_cons rfl (look_cons rfl (look_cons rfl (look_cons rfl (look_cons rfl look_nil)))))))
  · exact ⟨Ext.refl _, Nat.zero_le _, OwnL.nil⟩
  · rintro ⟨i, u⟩ W ⟨hB, hi, ho⟩
    replace hB : Ext w1 W := hB
    replace hi : i ≤ r := hi
    replace ho : OwnL eV 23 w1.heap.size S W u ((List.range i).map G) := ho
    refine .weak [(0, .int .i64 (r : Nat)), (1, .int .i64 (c : Nat)), (2, .int .u8 kind), (4, va), (5, vb), (9, .pointer (some ⟨b9, 0, none⟩)), (13, u), (14, .int .i64 (i : Nat))] (fun t v h => h) ?_
    have hsz := hB.size
    refine .seq (.seq (.region (.mv rfl rfl (.mv rfl rfl ?_))))
    by_cases hlt : i < r
    · refine .lssT rfl rfl rfl (by omega) (.nil (.condT rfl (.skip (.seq (.block (.seq (.region (.asg rfl rfl (.nil ?_)))))))))
      obtain ⟨es, ho1, ho2⟩ := id ho
      have hTu : ∀ k', S k' ∧ k' < w1.heap.size → S k' ∧ u.ownBlock ≠ some k' := fun k' hk' => ⟨hk'.1, fun h => by have := (ho1.lt k' h).1; have := hk'.2; omega⟩
      have upT : Up (fun k' => S k' ∧ u.ownBlock ≠ some k') W := fun k' hk' => ⟨up1 k' (by omega), fun h => by have := (ho1.lt k' h).2; omega⟩
      refine .mid (α := Value) (fun x => [(0, .int .i64 (r : Nat)), (1, .int .i64 (c : Nat)), (2, .int .u8 kind), (4, va), (5, vb), (9, .pointer (some ⟨b9, 0, none⟩)), (13, u), (14, .int .i64 (i : Nat)), (15, x)]) (fun x W' => Ext W W' ∧ eV.R (fun k' => S k' ∧ u.ownBlock ≠ some k') W' x (tab c (f i))) ?_ ?_
      · refine .seq (.region (.asg rfl rfl (.nil ?_)))
        generalize hg : (fun j => qc (f i j)) = g
        refine .block (.loop (α := Nat × Value) (fun x => [(0, .int .i64 (r : Nat)), (1, .int .i64 (c : Nat)), (2, .int .u8 kind), (4, va), (5, vb), (9, .pointer (some ⟨b9, 0, none⟩)), (13, u), (14, .int .i64 (i : Nat)), (15, x.2), (16, .int .i64 (x.1 : Nat))]) (fun x W' => Ext W W' ∧ x.1 ≤ c ∧ OwnL eQ 28 W.heap.size (fun k' => S k' ∧ u.ownBlock ≠ some k') W' x.2 ((List.range x.1).map g)) (fun x => c - x.1) (0, .slice none 0 0) ?_ ?_ ?_)
        · exact look_cons rfl (look_cons rfl (look_cons rfl (look_cons rfl (look_cons rfl (look_cons rfl (look_cons rfl (look_cons rfl (look_cons rfl (look_cons rfl look_nil)))))))))
        · exact ⟨Ext.refl _, Nat.zero_le _, OwnL.nil⟩
        · rintro ⟨j, x⟩ W' ⟨hW, hj, hx⟩
          replace hW : Ext W W' := hW
          replace hj : j ≤ c := hj
          replace hx : OwnL eQ 28 W.heap.size (fun k' => S k' ∧ u.ownBlock ≠ some k') W' x ((List.range j).map g) := hx
          refine .weak [(0, .int .i64 (r : Nat)), (1, .int .i64 (c : Nat)), (2, .int .u8 kind), (4, va), (5, vb), (9, .pointer (some ⟨b9, 0, none⟩)), (13, u), (14, .int .i64 (i : Nat)), (15, x), (16, .int .i64 (j : Nat))] (fun t v h => h) ?_
          have hsz' := hW.size
          have hBW := hB.trans hW
          refine .seq (.seq (.region (.mv rfl rfl (.mv rfl rfl ?_))))
          by_cases hjl : j < c
          · refine .lssT rfl rfl rfl (by omega) (.nil (.condT rfl (.skip (.seq (.block (.region (.mv rfl rfl (.mv rfl rfl (.ldA ty_Q rfl rfl (k9.ext hBW) rfl (.mv rfl rfl (.mv rfl rfl (.mv rfl rfl (.mv rfl rfl ?_)))))))))))))
            obtain ⟨es', hx1, hx2⟩ := id hx
            have hTx : ∀ k', S k' ∧ k' < w1.heap.size → (S k' ∧ u.ownBlock ≠ some k') ∧ x.ownBlock ≠ some k' := fun k' hk' => ⟨hTu k' hk', fun h => by have := (hx1.lt k' h).1; have := hk'.2; omega⟩
            have upX : Up (fun k' => (S k' ∧ u.ownBlock ≠ some k') ∧ x.ownBlock ≠ some k') W' := fun k' hk' => ⟨upT k' (by omega), fun h => by have := (hx1.lt k' h).2; omega⟩
            refine .call _ rfl E_ref04_place rfl (hf upX (eQ.mono (fun k' _ h => hTx k' h) (hK hBW)) (eM.mono (fun k' _ h => hTx k' h) (hA hBW)) (eM.mono (fun k' _ h => hTx k' h) (hBb hBW)) hlt hjl) fun v2 W2 e2 h2 => ?_
            have hr' := h2
            obtain ⟨s2, t2, rfl, _, _⟩ := hr'
            refine .bsl _ rfl rfl bsl_V1 fun W3 b3 n3 => ?_
            obtain ⟨e3, k3, hb3, hs3⟩ := n3
            have e23 := e2.trans e3
            have hW3 := hW.trans e23
            refine .gv rfl rfl (g_appL (E := eQ) (base := W.heap.size) (by decide) un_V info_Q rfl rfl rfl (hx.ext e23) k3 (h2.ext e3) (by simp; omega) (by decide) hW3.size) ?_
            rintro v4 W4 ⟨ho4, hg4⟩
            refine .asg rfl rfl (.nil (.region (.mv rfl rfl (.add rfl rfl rfl (.asg rfl rfl (.nil ?_))))))
            rw [wI (by omega)]
            refine ⟨rfl, (j + 1, v4), look_cons rfl (look_cons rfl (look_cons rfl (look_cons rfl (look_cons rfl (look_cons rfl (look_cons rfl (look_cons rfl (look_cons rfl (look_cons rfl look_nil))))))))), ⟨(hx.ext e23).below hg4 hW3 hW3.size, hjl, ?_⟩, by show c - (j + 1) < c - j; omega⟩
            show OwnL eQ 28 W.heap.size (fun k' => S k' ∧ u.ownBlock ≠ some k') W4 v4 ((List.range (j + 1)).map g)
            rw [List.range_succ, List.map_append, ← hg]
            rw [← hg] at ho4
            exact ho4
          · refine .lssF rfl rfl rfl (by omega) (.nil (.condF rfl (.exit ?_)))
            have : j = c := by omega
            subst this
            refine ⟨rfl, x, look_cons rfl (look_cons rfl (look_cons rfl (look_cons rfl (look_cons rfl (look_cons rfl (look_cons rfl (look_cons rfl (look_cons rfl look_nil)))))))), hW, ?_⟩
            unfold tab
            rw [hg]
            exact hx.toR (fun k hk => upT k hk) (fun _ h => h)
      · rintro x W' ⟨hW, hx⟩
        have hBW := hB.trans hW
        obtain ⟨ar, cr, hvr, _⟩ := RL.len hx
        rw [tab_length] at hvr
        subst hvr
        refine .region (.mv rfl rfl (.mv rfl rfl (.bsl _ rfl rfl bsl_M1 fun W3 b3 n3 => ?_)))
        obtain ⟨e3, k3, hb3, hs3⟩ := n3
        have e23 := hW.trans e3
        have hB3 := hB.trans e23
        refine .gv rfl rfl (g_appL (E := eV) (base := w1.heap.size) (n := tab c (f i)) (e := .slice ar c cr) (by decide) un_M info_V rfl rfl rfl (ho.ext e23) k3 (ER.ext eV hx e3) (by simp; omega) (by decide) hB3.size) ?_
        rintro v4 W4 ⟨ho4, hg4⟩
        refine .asg rfl rfl (.nil (.region (.mv rfl rfl (.add rfl rfl rfl (.asg rfl rfl (.nil ?_))))))
        rw [wI (by omega)]
        refine ⟨rfl, (i + 1, v4), look_cons rfl (look_cons rfl (look_cons rfl (look_cons rfl (look_cons rfl (look_cons rfl (look_cons rfl (look_cons rfl look_nil))))))), ⟨(ho.ext e23).below hg4 hB3 hB3.size, hlt, ?_⟩, by show r - (i + 1) < r - i; omega⟩
        show OwnL eV 23 w1.heap.size S W4 v4 ((List.range (i + 1)).map G)
        rw [List.range_succ, List.map_append, ← hG]
        rw [← hG] at ho4
        exact ho4
    · refine .lssF rfl rfl rfl (by omega) (.nil (.condF rfl (.exit (.seq (.region (.mv rfl rfl (.asg rfl rfl (.nil (.ret ?_)))))))))
      have : i = r := by omega
      subst this
      refine .plain [_] Tryz.results43 ⟨rfl, trivial⟩ ⟨e1.trans hB, ?_⟩
      unfold tabM
      rw [hG]
      exact ho.toR (fun k hk => up1 k hk) (fun _ h => h)
end Go.Proofs.YtgghedhmjhaieaaGreat

namespace Go.Proofs.YtgghedhmjhaieaaGreat
open Go Go.Kx Go.RowKit

theorem mmul_cols (a b : List (List QV)) (i j : Nat) : sumN (colsOf a) (fun n => rm a i n * rm b n j) = mmul a b i j := by
  unfold mmul
  rw [← sumN_ext (n := colsOf a) (m := max (colsOf a) b.length) (Nat.le_max_left _ _) (fun k h _ => by rw [rm_outc h, Rat.zero_mul])]
  rw [← sumN_ext (n := b.length) (m := max (colsOf a) b.length) (Nat.le_max_right _ _) (fun k h _ => by rw [rm_out h, Rat.mul_zero])]

theorem E_ref04_Mul : Ent Tryz.prog 12 := ent_of Tryz.func12 (by kernel_rfl) rfl
theorem ref04_Mul_c {S : Nat → Prop} {w : World} {va vb : Value} {a b : List (List QV)} {L : Nat} (up : Up S w) (ha : eM.R S w va a) (hb : eM.R S w vb b) (hka : mk_ L a) (hkb : mk_ L b) (hL : 1 ≤ L) (hL2 : L ≤ 1000) (hra : a.length ≤ 1000000) (hca : colsOf a ≤ 10000) (hcb : colsOf b ≤ 1000000) :
    CR Tryz.prog 12 #[va, vb] w (eM.at S (tabM a.length (colsOf b) (mmul a b))) := by
  refine enter Tryz.func12 rfl Tryz.ntmps12 rfl ?_
  refine .seq (.region (.asg rfl rfl (.nil (.seq (.region (.mv rfl rfl (.lenR un_M rfl rfl ha (.mv rfl rfl ?_))))))))
  refine .call _ rfl E_ref04_Cols rfl (ref04_Cols_c hb) fun v1 w1 e1 h1 => ?_
  subst h1
  refine .bld [] rfl rfl bld_Q0 (.mv rfl rfl (.mv rfl rfl ?_))
  refine .call _ rfl E_ref04_made rfl (ref04_made_c (k := q0) (f := mmul a b) (up.ext e1.size) ⟨_, _, rfl, RL.nil, RL.nil⟩ (ER.ext eM ha e1) (ER.ext eM hb e1) (by omega) (by omega) fun {T W i j} u hk ha hb hi hj => by
    rw [← mmul_cols]; exact ref04_place2_c u hk ha hb hka hkb hL hL2 hca) fun v2 w2 e2 h2 => .asg rfl rfl (.nil (.ret ?_))
  exact .plain [_] Tryz.results12 ⟨rfl, trivial⟩ ⟨e1.trans e2, h2⟩

theorem E_ref04_Turn : Ent Tryz.prog 34 := ent_of Tryz.func34 (by kernel_rfl) rfl
theorem ref04_Turn_c {S : Nat → Prop} {w : World} {va : Value} {a : List (List QV)} {L : Nat} (up : Up S w) (ha : eM.R S w va a) (hka : mk_ L a) (hL : 1 ≤ L) (hL2 : L ≤ 1000000000) (hra : a.length ≤ 100000000) (hca : colsOf a ≤ 100000000) :
    CR Tryz.prog 34 #[va] w (eM.at S (tabM (colsOf a) a.length fun i k => rm a k i)) := by
  refine enter Tryz.func34 rfl Tryz.ntmps34 rfl ?_
  refine .seq (.region (.asg rfl rfl (.nil (.seq (.region (.mv rfl rfl ?_))))))
  refine .call _ rfl E_ref04_Cols rfl (ref04_Cols_c ha) fun v1 w1 e1 h1 => ?_
  subst h1
  refine .mv rfl rfl (.lenR un_M rfl rfl (ER.ext eM ha e1) (.bld [] rfl rfl bld_Q0 (.mv rfl rfl ?_)))
  refine .call _ rfl E_ref04_made rfl (ref04_made_c (k := q0) (b := []) (f := fun i k => rm a k i) (up.ext e1.size) ⟨_, _, rfl, RL.nil, RL.nil⟩ (ER.ext eM ha e1) RL.nil (by omega) (by omega) fun {T W i j} u hk ha hb hi hj => by
    have := ref04_place1_c (i := i) (j := j) (vb := .slice none 0 0) u hk ha hka hL hL2
    rwa [rmI_nat] at this) fun v2 w2 e2 h2 => .asg rfl rfl (.nil (.ret ?_))
  exact .plain [_] Tryz.results34 ⟨rfl, trivial⟩ ⟨e1.trans e2, h2⟩

theorem E_ref04_Beside : Ent Tryz.prog 18 := ent_of Tryz.func18 (by kernel_rfl) rfl
theorem ref04_Beside_c {S : Nat → Prop} {w : World} {va vb : Value} {a b : List (List QV)} {L : Nat} (up : Up S w) (ha : eM.R S w va a) (hb : eM.R S w vb b) (hka : mk_ L a) (hkb : mk_ L b) (hL : 1 ≤ L) (hL2 : L ≤ 1000000000) (hra : a.length ≤ 1000000) (hrb : b.length ≤ 1000000) (hca : colsOf a ≤ 1000000) (hcb : colsOf b ≤ 1000000) :
    CR Tryz.prog 18 #[va, vb] w (eM.at S (tabM (max a.length b.length) (colsOf a + colsOf b) (catM a b))) := by
  refine enter Tryz.func18 rfl Tryz.ntmps18 rfl ?_
  refine .seq (.region (.asg rfl rfl (.nil (.seq (.region (.mv rfl rfl (.lenR un_M rfl rfl ha (.mv rfl rfl (.lenR un_M rfl rfl hb (.max_ rfl rfl rfl (.mv rfl rfl ?_)))))))))))
  refine .call _ rfl E_ref04_Cols rfl (ref04_Cols_c ha) fun v1 w1 e1 h1 => .mv rfl rfl ?_
  subst h1
  refine .call _ rfl E_ref04_Cols rfl (ref04_Cols_c (ER.ext eM hb e1)) fun v2 w2 e2 h2 => ?_
  subst h2
  have e12 := e1.trans e2
  refine .add rfl rfl rfl (.bld [] rfl rfl bld_Q0 (.mv rfl rfl (.mv rfl rfl ?_)))
  rw [wI (by omega), show (max (a.length : Int) (b.length : Int)) = ((max a.length b.length : Nat) : Int) by omega, show (colsOf a : Int) + (colsOf b : Int) = ((colsOf a + colsOf b : Nat) : Int) by omega]
  refine .call _ rfl E_ref04_made rfl (ref04_made_c (k := q0) (f := catM a b) (up.ext e12.size) ⟨_, _, rfl, RL.nil, RL.nil⟩ (ER.ext eM ha e12) (ER.ext eM hb e12) (by omega) (by omega) fun {T W i j} u hk ha hb hi hj =>
    ref04_place3_c u hk ha hb hka hkb hL hL2 (by omega)) fun v2 w2 e2 h2 => .asg rfl rfl (.nil (.ret ?_))
  exact .plain [_] Tryz.results18 ⟨rfl, trivial⟩ ⟨e12.trans e2, h2⟩

theorem E_ref04_Times : Ent Tryz.prog 21 := ent_of Tryz.func21 (by kernel_rfl) rfl
theorem ref04_Times_c {S : Nat → Prop} {w : World} {vm vx : Value} {m : List (List QV)} {x : List QV} {L : Nat} (up : Up S w) (hm : eM.R S w vm m) (hx : eV.R S w vx x) (hkm : mk_ L m) (hkx : vk L x) (hL : 1 ≤ L) (hL2 : L ≤ 1000) (hr : m.length ≤ 1000000) (hc : colsOf m ≤ 10000) :
    CR Tryz.prog 21 #[vm, vx] w (eV.at S (tab m.length fun i => sumN (m.getD i []).length fun k => rm m i k * rv x k)) := by
  have hA : ∀ {W : World}, Below w.heap.size w W → eM.R (fun k => S k ∧ k < w.heap.size) W vm m := fun hB => eM.keep (fun k c t f hk h => (hB.block k hk.2).trans h) (ER.lt eM hm)
  have hX : ∀ {W : World}, Below w.heap.size w W → eV.R (fun k => S k ∧ k < w.heap.size) W vx x := fun hB => eV.keep (fun k c t f hk h => (hB.block k hk.2).trans h) (ER.lt eV hx)
  refine enter Tryz.func21 rfl Tryz.ntmps21 rfl ?_
  refine .seq (.region (.asg rfl rfl (.nil (.seq (.region (.asg rfl rfl (.nil (.seq (.seq (.region (.asg rfl rfl (.nil ?_))))))))))))
  generalize hf : (fun i => qc (sumN (m.getD i []).length fun k => rm m i k * rv x k)) = f
  refine .block (.loop (α := Nat × Value) (fun y => [(0, vm), (1, vx), (5, y.2), (6, .int .i64 (y.1 : Nat))]) (fun y W => Below w.heap.size w W ∧ y.1 ≤ m.length ∧ OwnL eQ 28 w.heap.size S W y.2 ((List.range y.1).map f)) (fun y => m.length - y.1) (0, .slice none 0 0) ?_ ?_ ?_)
  · exact look_cons rfl (look_cons rfl (look_cons rfl (look_cons rfl look_nil)))
  · exact ⟨Below.refl _ _, Nat.zero_le _, OwnL.nil⟩
  · rintro ⟨i, u⟩ W ⟨hB, hi, ho⟩
    replace hB : Below w.heap.size w W := hB
    replace hi : i ≤ m.length := hi
    replace ho : OwnL eQ 28 w.heap.size S W u ((List.range i).map f) := ho
    refine .weak [(0, vm), (1, vx), (5, u), (6, .int .i64 (i : Nat))] (fun t v h => h) ?_
    have hsz := hB.size
    refine .seq (.seq (.region (.mv rfl rfl (.mv rfl rfl (.lenR un_M rfl rfl (hA hB) ?_)))))
    by_cases hlt : i < m.length
    · refine .lssT rfl rfl rfl (by omega) (.nil (.condT rfl (.skip (.seq (.block (.region (.mv rfl rfl (.mv rfl rfl (.mv rfl rfl ?_)))))))))
      refine .ixN (i := i) un_M ty_V rfl rfl (hA hB) rfl (getD_get' (z := []) hlt) fun p hp => .ldE ty_V rfl rfl hp fun e he => .mv rfl rfl ?_
      obtain ⟨es, ho1, ho2⟩ := id ho
      have hTu : ∀ k', S k' ∧ k' < w.heap.size → S k' ∧ u.ownBlock ≠ some k' := fun k' hk' => ⟨hk'.1, fun h => by have := (ho1.lt k' h).1; have := hk'.2; omega⟩
      refine .call _ rfl E_ref03_Dot rfl (ref03_Dot_c (S := fun k => S k ∧ u.ownBlock ≠ some k) (fun k hk => ⟨up k (by omega), fun h => by have := (ho1.lt k h).2; omega⟩) (eV.mono (fun k _ h => hTu k h) he) (eV.mono (fun k _ h => hTu k h) (hX hB)) (hkm.get i) hkx hL hL2 (Nat.le_trans (colsOf_get m i) hc)) fun v2 W2 e2 h2 => ?_
      have hr' := h2
      obtain ⟨s, t, rfl, _, _⟩ := hr'
      refine .bsl _ rfl rfl bsl_V1 fun W3 b3 n3 => ?_
      obtain ⟨e3, k3, hb3, hs3⟩ := n3
      have e23 := e2.trans e3
      have hB3 : Below w.heap.size w W3 := hB.trans (e23.mono hsz)
      refine .gv rfl rfl (g_appL (E := eQ) (base := w.heap.size) (by decide) un_V info_Q rfl rfl rfl (ho.ext e23) k3 (h2.ext e3) (by simp; omega) (by decide) hB3.size) ?_
      rintro v4 W4 ⟨ho4, hg4⟩
      refine .asg rfl rfl (.nil (.region (.mv rfl rfl (.add rfl rfl rfl (.asg rfl rfl (.nil ?_))))))
      rw [wI (by omega)]
      refine ⟨rfl, (i + 1, v4), look_cons rfl (look_cons rfl (look_cons rfl (look_cons rfl look_nil))), ⟨(ho.ext e23).below hg4 hB3 hB3.size, hlt, ?_⟩, by show m.length - (i + 1) < m.length - i; omega⟩
      show OwnL eQ 28 w.heap.size S W4 v4 ((List.range (i + 1)).map f)
      rw [List.range_succ, List.map_append, ← hf]
      rw [← hf] at ho4
      exact ho4
    · refine .lssF rfl rfl rfl (by omega) (.nil (.condF rfl (.exit (.seq (.region (.mv rfl rfl (.asg rfl rfl (.nil (.ret ?_)))))))))
      have : i = m.length := by omega
      subst this
      refine .plain [_] Tryz.results21 ⟨rfl, trivial⟩ ⟨hB, ?_⟩
      unfold tab
      rw [hf]
      exact ho.toR up (fun _ h => h)
end Go.Proofs.YtgghedhmjhaieaaGreat

namespace Go.Proofs.YtgghedhmjhaieaaGreat
open Go Go.Kx Go.RowKit

theorem bslE_M {a : Option Addr} {n c : Nat} : bslOf Tryz.prog 22 1 [(0, .slice a n c)] = some (23, (Value.slice a n c).cells) := by kernel_rfl

theorem E_ref04_Add : Ent Tryz.prog 14 := ent_of Tryz.func14 (by kernel_rfl) rfl
theorem ref04_Add_c {S : Nat → Prop} {w : World} {va vb : Value} {a b : List (List QV)} {L : Nat} (up : Up S w) (ha : eM.R S w va a) (hb : eM.R S w vb b) (hka : mk_ L a) (hkb : mk_ L b) (hL : 1 ≤ L) (hL2 : L ≤ 100000000) (hra : a.length ≤ 1000000) (hrb : b.length ≤ 1000000) (hca : colsOf a ≤ 1000000) (hcb : colsOf b ≤ 1000000) :
    CR Tryz.prog 14 #[va, vb] w (eM.at S (addM a b)) := by
  have hA : ∀ {W : World}, Below w.heap.size w W → eM.R (fun k => S k ∧ k < w.heap.size) W va a := fun hB => eM.keep (fun k c t f hk h => (hB.block k hk.2).trans h) (ER.lt eM ha)
  have hBb : ∀ {W : World}, Below w.heap.size w W → eM.R (fun k => S k ∧ k < w.heap.size) W vb b := fun hB => eM.keep (fun k c t f hk h => (hB.block k hk.2).trans h) (ER.lt eM hb)
  refine enter Tryz.func14 rfl Tryz.ntmps14 rfl ?_
  refine .seq (.region (.asg rfl rfl (.nil (.seq (.region (.asg rfl rfl (.nil (.seq (.seq (.region (.asg rfl rfl (.nil ?_))))))))))))
  generalize hM : max a.length b.length = M
  refine .block (.loop (α := Nat × Value) (fun x => [(0, va), (1, vb), (5, x.2), (6, .int .i64 (x.1 : Nat))]) (fun x W => Below w.heap.size w W ∧ x.1 ≤ M ∧ OwnL eV 23 w.heap.size S W x.2 ((List.range x.1).map (addR a b))) (fun x => M - x.1) (0, .slice none 0 0) ?_ ?_ ?_)
  · exact look_cons rfl (look_cons rfl (look_cons rfl (look_cons rfl look_nil)))
  · exact ⟨Below.refl _ _, Nat.zero_le _, OwnL.nil⟩
  · rintro ⟨i, u⟩ W ⟨hB, hi, ho⟩
    replace hB : Below w.heap.size w W := hB
    replace hi : i ≤ M := hi
    replace ho : OwnL eV 23 w.heap.size S W u ((List.range i).map (addR a b)) := ho
    refine .weak [(0, va), (1, vb), (5, u), (6, .int .i64 (i : Nat))] (fun t v h => h) ?_
    have hsz := hB.size
    have fin : i = M → Ext w W ∧ eM.at S (addM a b) u W := by
      intro h
      subst h
      refine ⟨hB, ?_⟩
      unfold addM
      rw [hM]
      exact ho.toR up (fun _ h => h)
    refine .mid (α := Unit) (fun _ => [(0, va), (1, vb), (5, u), (6, .int .i64 (i : Nat))]) (fun _ W' => W' = W ∧ i < M) ?_ ?_
    · refine .seq (.region (.mv rfl rfl (.mv rfl rfl (.lenR un_M rfl rfl (hA hB) ?_))))
      by_cases h1 : i < a.length
      · refine .lssT rfl rfl rfl (by omega) (.mv rfl rfl (.gs rfl rfl rfl rfl rfl (.gs rfl rfl rfl rfl rfl (.gs rfl rfl rfl rfl rfl (.gs rfl rfl rfl rfl rfl (.pick rfl rfl rfl (.nil (.condT rfl (.skip ?_)))))))))
        exact ⟨rfl, (), look_cons rfl (look_cons rfl (look_cons rfl (look_cons rfl look_nil))), rfl, by omega⟩
      · refine .lssF rfl rfl rfl (by omega) (.mv rfl rfl (.gr rfl rfl rfl rfl (.mv rfl rfl (.gr rfl rfl rfl rfl (.mv rfl rfl (.gr rfl rfl rfl rfl (.lenR un_M rfl rfl (hBb hB) (.gr rfl rfl rfl rfl ?_))))))))
        by_cases h2 : i < b.length
        · refine .lssT rfl rfl rfl (by omega) (.pick rfl rfl rfl (.nil (.condT rfl (.skip ?_))))
          exact ⟨rfl, (), look_cons rfl (look_cons rfl (look_cons rfl (look_cons rfl look_nil))), rfl, by omega⟩
        · refine .lssF rfl rfl rfl (by omega) (.pick rfl rfl rfl (.nil (.condF rfl (.exit (.seq (.region (.mv rfl rfl (.asg rfl rfl (.nil (.ret ?_))))))))))
          exact .plain [_] Tryz.results14 ⟨rfl, trivial⟩ (fin (by omega))
    · rintro _ W' ⟨hWW, hlt⟩
      have hWW := hWW.symm
      subst hWW
      obtain ⟨es, ho1, ho2⟩ := id ho
      have hTu : ∀ k', S k' ∧ k' < w.heap.size → S k' ∧ u.ownBlock ≠ some k' := fun k' hk' => ⟨hk'.1, fun h => by have := (ho1.lt k' h).1; have := hk'.2; omega⟩
      have upT : Up (fun k' => S k' ∧ u.ownBlock ≠ some k') W := fun k' hk' => ⟨up k' (by omega), fun h => by have := (ho1.lt k' h).2; omega⟩
      have hAT := eM.mono (fun k' _ h => hTu k' h) (hA hB)
      have hBT := eM.mono (fun k' _ h => hTu k' h) (hBb hB)
      refine .seq (.block (.region (.mv rfl rfl (.mv rfl rfl (.mv rfl rfl ?_)))))
      refine .call _ rfl E_ref04_row rfl (ref04_row_c hAT) fun v1 W1 f1 h1 => .mv rfl rfl (.mv rfl rfl ?_)
      refine .call _ rfl E_ref04_row rfl (ref04_row_c (ER.ext eM hBT f1)) fun v2 W2 f2 h2 => ?_
      have f12 := f1.trans f2
      refine .call _ rfl E_ref03_Add rfl (ref03_Add_c (upT.ext f12.size) (ER.ext eV h1 f2) h2 (hka.get i) (hkb.get i) hL hL2 (Nat.le_trans (colsOf_get a i) (by omega)) (Nat.le_trans (colsOf_get b i) (by omega))) fun v3 W3 f3 h3 => ?_
      obtain ⟨ar, cr, hvr, _⟩ := RL.len h3
      generalize hnr : (tab (max (a.getD i []).length (b.getD i []).length) fun k => rv (a.getD i []) k + rv (b.getD i []) k).length = nr at hvr
      subst hvr
      refine .bsl _ rfl rfl bsl_M1 fun W4 b4 n4 => ?_
      obtain ⟨e4, k4, hb4, hs4⟩ := n4
      have e14 := (f12.trans f3).trans e4
      have hB3 : Below w.heap.size w W4 := hB.trans (e14.mono hsz)
      refine .gv rfl rfl (g_appL (E := eV) (base := w.heap.size) (n := addR a b i) (e := .slice ar nr cr) (by decide) un_M info_V rfl rfl rfl (ho.ext e14) k4 (ER.ext eV h3 e4) (by simp; omega) (by decide) hB3.size) ?_
      rintro v5 W5 ⟨ho4, hg4⟩
      refine .asg rfl rfl (.nil (.region (.mv rfl rfl (.add rfl rfl rfl (.asg rfl rfl (.nil ?_))))))
      rw [wI (by omega)]
      refine ⟨rfl, (i + 1, v5), look_cons rfl (look_cons rfl (look_cons rfl (look_cons rfl look_nil))), ⟨(ho.ext e14).below hg4 hB3 hB3.size, hlt, ?_⟩, by show M - (i + 1) < M - i; omega⟩
      show OwnL eV 23 w.heap.size S W5 v5 ((List.range (i + 1)).map (addR a b))
      rw [List.range_succ, List.map_append]
      exact ho4

theorem E_ref04_Scale : Ent Tryz.prog 16 := ent_of Tryz.func16 (by kernel_rfl) rfl
def sclR (k : QV) (m : List (List QV)) (i : Nat) : List QV := tab (m.getD i []).length fun j => qval k * rm m i j
theorem ref04_Scale_c {S : Nat → Prop} {w : World} {vk_ vm : Value} {k : QV} {m : List (List QV)} {L : Nat} (up : Up S w) (hk : eQ.R S w vk_ k) (hm : eM.R S w vm m) (hkk : qk L k) (hkm : mk_ L m) (hL : 1 ≤ L) (hL2 : L ≤ 100000000) (hr : m.length ≤ 1000000) (hc : colsOf m ≤ 1000000) :
    CR Tryz.prog 16 #[vk_, vm] w (eM.at S ((List.range m.length).map (sclR k m))) := by
  obtain ⟨s, t, rfl, hs, ht⟩ := hk
  have hk : eQ.R S w (.agg #[.bool k.num.neg, s, .bool k.den.neg, t]) k := ⟨s, t, rfl, hs, ht⟩
  refine enter Tryz.func16 rfl Tryz.ntmps16 rfl ?_
  refine .seq (.region (.box rfl rfl fun w1 b2 n1 => .asg rfl rfl (.nil (.seq (.region (.asg rfl rfl (.nil (.seq (.seq (.region (.asg rfl rfl (.nil ?_))))))))))))
  obtain ⟨e1, k2, hb2, hs1⟩ := n1
  have hB1 : ∀ {W : World}, Ext w1 W → Kp (fun k => S k ∧ k < w1.heap.size) w1 W := fun hB k c t f hk h => (hB.block k hk.2).trans h
  have hK : ∀ {W : World}, Ext w1 W → eQ.R (fun k => S k ∧ k < w1.heap.size) W (.agg #[.bool k.num.neg, s, .bool k.den.neg, t]) k := fun hB => eQ.keep (hB1 hB) (ER.lt eQ (ER.ext eQ hk e1))
  have hA : ∀ {W : World}, Ext w1 W → eM.R (fun k => S k ∧ k < w1.heap.size) W vm m := fun hB => eM.keep (hB1 hB) (ER.lt eM (ER.ext eM hm e1))
  have up1 := up.ext e1.size
  refine .block (.loop (α := Nat × Value) (fun x => [(1, vm), (2, .pointer (some ⟨b2, 0, none⟩)), (5, x.2), (6, .int .i64 (x.1 : Nat))]) (fun x W => Ext w1 W ∧ x.1 ≤ m.length ∧ OwnL eV 23 w1.heap.size S W x.2 ((List.range x.1).map (sclR k m))) (fun x => m.length - x.1) (0, .slice none 0 0) ?_ ?_ ?_)
  · exact look_cons rfl (look_cons rfl (look_cons rfl (look_cons rfl look_nil)))
  · exact ⟨Ext.refl _, Nat.zero_le _, OwnL.nil⟩
  · rintro ⟨i, u⟩ W ⟨hB, hi, ho⟩
    replace hB : Ext w1 W := hB
    replace hi : i ≤ m.length := hi
    replace ho : OwnL eV 23 w1.heap.size S W u ((List.range i).map (sclR k m)) := ho
    refine .weak [(1, vm), (2, .pointer (some ⟨b2, 0, none⟩)), (5, u), (6, .int .i64 (i : Nat))] (fun t v h => h) ?_
    have hsz := hB.size
    refine .seq (.seq (.region (.mv rfl rfl (.mv rfl rfl (.lenR un_M rfl rfl (hA hB) ?_)))))
    by_cases hlt : i < m.length
    · refine .lssT rfl rfl rfl (by omega) (.nil (.condT rfl (.skip (.seq (.block ?_)))))
      obtain ⟨es, ho1, ho2⟩ := id ho
      have hTu : ∀ k', S k' ∧ k' < w1.heap.size → S k' ∧ u.ownBlock ≠ some k' := fun k' hk' => ⟨hk'.1, fun h => by have := (ho1.lt k' h).1; have := hk'.2; omega⟩
      have upT : Up (fun k' => S k' ∧ u.ownBlock ≠ some k') W := fun k' hk' => ⟨up1 k' (by omega), fun h => by have := (ho1.lt k' h).2; omega⟩
      have hAT := eM.mono (fun k' _ h => hTu k' h) (hA hB)
      have hKT := eQ.mono (fun k' _ h => hTu k' h) (hK hB)
      generalize hT : (fun k' => S k' ∧ u.ownBlock ≠ some k') = T at *
      have k2W := k2.ext hB
      have hge := getD_get' (l := m) (z := []) hlt
      refine .par follows 8 [.inl u, .inl (.agg #[.bool k.num.neg, s, .bool k.den.neg, t]), .inl vm, .inl (.int .i64 (i : Nat)), .inr (Ptr eV T (m.getD i [])), .inr (eV.at T (m.getD i [])), .inr (eV.at T (sclR k m i)), .inr (NewE eV T W.heap.size 23 (sclR k m i))] [[], [], [], [], [(15, 2), (16, 3)], [(17, 4)], [(14, 1), (18, 5)], [(19, 6)]] (by kernel_rfl) ⟨
        fun w e => (v_mv rfl).ob, fun w e => (v_ldA ty_Q rfl (k2W.ext e) rfl).ob, fun w e => (v_mv rfl).ob, fun w e => (v_mv rfl).ob,
        fun w e => ob_ixN un_M ty_V rfl (ER.ext eM hAT e) rfl hge, fun w e x hx => ob_ldE ty_V rfl hx,
        fun w e x hx => (g_call _ E_ref03_Scale rfl (ref03_Scale_c (upT.ext e.size) (ER.ext eQ hKT e) hx hkk (hkm.get i) hL hL2 (Nat.le_trans (colsOf_get m i) (by omega)))).ob (st_at _ _ _),
        fun w e x hx => by
          have hx' : eV.R T w x (sclR k m i) := hx
          obtain ⟨ar, cr, hvr, _⟩ := RL.len hx'
          generalize (sclR k m i).length = nr at hvr
          subst hvr
          exact ob_bslE (E := eV) (T := T) rfl bslE_M hx' e.size, trivial⟩ ?_
      rintro W2 e2 x1 - x2 - x3 - _ ⟨b5, e5, rfl, hb5, k5, h5⟩
      have hB2 := hB.trans e2
      subst hT
      refine .gv rfl rfl (g_appL (E := eV) (base := w1.heap.size) (n := sclR k m i) (e := e5) (by decide) un_M info_V rfl rfl rfl (ho.ext e2) k5 h5 (by simp; omega) (by decide) hB2.size) ?_
      rintro v4 W4 ⟨ho4, hg4⟩
      refine .asg rfl rfl (.nil (.region (.mv rfl rfl (.add rfl rfl rfl (.asg rfl rfl (.nil ?_))))))
      rw [wI (by omega)]
      refine ⟨rfl, (i + 1, v4), look_cons rfl (look_cons rfl (look_cons rfl (look_cons rfl look_nil))), ⟨(ho.ext e2).below hg4 hB2 hB2.size, hlt, ?_⟩, by show m.length - (i + 1) < m.length - i; omega⟩
      show OwnL eV 23 w1.heap.size S W4 v4 ((List.range (i + 1)).map (sclR k m))
      rw [List.range_succ, List.map_append]
      exact ho4
    · refine .lssF rfl rfl rfl (by omega) (.nil (.condF rfl (.exit (.seq (.region (.mv rfl rfl (.asg rfl rfl (.nil (.ret ?_)))))))))
      have : i = m.length := by omega
      subst this
      refine .plain [_] Tryz.results16 ⟨rfl, trivial⟩ ⟨e1.trans hB, ?_⟩
      exact ho.toR (fun k hk => up1 k hk) (fun _ h => h)
end Go.Proofs.YtgghedhmjhaieaaGreat

namespace Go.Proofs.YtgghedhmjhaieaaGreat
open Go Go.Kx Go.RowKit

theorem E_ref04_Left : Ent Tryz.prog 23 := ent_of Tryz.func23 (by kernel_rfl) rfl
theorem ref04_Left_c {S : Nat → Prop} {w : World} {vy vm : Value} {y : List QV} {m : List (List QV)} {L : Nat} (up : Up S w) (hy : eV.R S w vy y) (hm : eM.R S w vm m) (hky : vk L y) (hkm : mk_ L m) (hL : 1 ≤ L) (hL2 : L ≤ 1000) (hr : m.length ≤ 10000) (hc : colsOf m ≤ 1000000) :
    CR Tryz.prog 23 #[vy, vm] w (eV.at S (tab (colsOf m) (vmul y m))) := by
  have hA : ∀ {W : World}, Below w.heap.size w W → eM.R (fun k => S k ∧ k < w.heap.size) W vm m := fun hB => eM.keep (fun k c t f hk h => (hB.block k hk.2).trans h) (ER.lt eM hm)
  have hY : ∀ {W : World}, Below w.heap.size w W → eV.R (fun k => S k ∧ k < w.heap.size) W vy y := fun hB => eV.keep (fun k c t f hk h => (hB.block k hk.2).trans h) (ER.lt eV hy)
  refine enter Tryz.func23 rfl Tryz.ntmps23 rfl ?_
  refine .seq (.region (.asg rfl rfl (.nil (.seq (.region (.asg rfl rfl (.nil (.seq (.seq (.region (.asg rfl rfl (.nil ?_))))))))))))
  generalize hG : (fun k => qc (vmul y m k)) = G
  refine .block (.loop (α := Nat × Value) (fun x => [(0, vy), (1, vm), (5, x.2), (6, .int .i64 (x.1 : Nat))]) (fun x W => Below w.heap.size w W ∧ x.1 ≤ colsOf m ∧ OwnL eQ 28 w.heap.size S W x.2 ((List.range x.1).map G)) (fun x => colsOf m - x.1) (0, .slice none 0 0) ?_ ?_ ?_)
  · exact look_cons rfl (look_cons rfl (look_cons rfl (look_cons rfl look_nil)))
  · exact ⟨Below.refl _ _, Nat.zero_le _, OwnL.nil⟩
  · rintro ⟨j, u⟩ W0 ⟨hB, hj, ho⟩
    replace hB : Below w.heap.size w W0 := hB
    replace hj : j ≤ colsOf m := hj
    replace ho : OwnL eQ 28 w.heap.size S W0 u ((List.range j).map G) := ho
    refine .weak [(0, vy), (1, vm), (5, u), (6, .int .i64 (j : Nat))] (fun t v h => h) ?_
    have hsz0 := hB.size
    refine .seq (.seq (.region (.mv rfl rfl (.mv rfl rfl ?_))))
    refine .call _ rfl E_ref04_Cols rfl (ref04_Cols_c (hA hB)) fun v4 W f1 h4 => ?_
    subst h4
    have hB : Below w.heap.size w W := hB.trans (f1.mono hsz0)
    have ho := ho.ext f1
    have hsz := hB.size
    by_cases hlt : j < colsOf m
    · refine .lssT rfl rfl rfl (by omega) (.nil (.condT rfl (.skip (.seq (.block (.seq (.region (.bld [] rfl rfl bld_Q0 (.alloc rfl zero_Q fun w2 b7 n2 => ?_)))))))))
      obtain ⟨e2, k7, hb7, hs2⟩ := n2
      obtain ⟨es, ho1, ho2⟩ := id ho
      have hTu : ∀ k', S k' ∧ k' < w.heap.size → (S k' ∧ u.ownBlock ≠ some k') ∧ k' ≠ b7 := fun k' hk' => ⟨⟨hk'.1, fun h => by have := (ho1.lt k' h).1; have := hk'.2; omega⟩, by have := hk'.2; omega⟩
      have upT : Up (fun k' => (S k' ∧ u.ownBlock ≠ some k') ∧ k' ≠ b7) w2 := fun k' hk' => ⟨⟨up k' (by omega), fun h => by have := (ho1.lt k' h).2; omega⟩, by omega⟩
      have hq : eQ.R (fun k' => (S k' ∧ u.ownBlock ≠ some k') ∧ k' ≠ b7) w2 (.agg #[.bool false, .slice none 0 0, .bool false, .slice none 0 0]) (qc 0) := by rw [qc_zero]; exact ⟨_, _, rfl, RL.nil, RL.nil⟩
      refine .storeA (E := eQ) ty_Q rfl rfl k7 rfl rfl hq (fun h => h.2 rfl) fun w3 k7 u3 h3 => .nil ?_
      have e3 : Ext W w3 := u3.below e2 (by omega)
      have up3 : Up (fun k' => (S k' ∧ u.ownBlock ≠ some k') ∧ k' ≠ b7) w3 := fun k hk => upT k (by have := u3.size; omega)
      generalize hf : (fun i => rv y i * rm m i j) = f
      refine .mid (α := Value) (fun x => [(0, vy), (1, vm), (5, u), (6, .int .i64 (j : Nat)), (7, .pointer (some ⟨b7, 0, none⟩))]) (fun x W' => Ext W W' ∧ Up (fun k' => (S k' ∧ u.ownBlock ≠ some k') ∧ k' ≠ b7) W' ∧ Blk W' b7 28 x.cells ∧ eQ.R (fun k' => (S k' ∧ u.ownBlock ≠ some k') ∧ k' ≠ b7) W' x (qc (sumN m.length f))) ?_ ?_
      · refine .seq (.region (.asg rfl rfl (.nil ?_)))
        refine .block (.loop (α := Nat × Value) (fun x => [(0, vy), (1, vm), (5, u), (6, .int .i64 (j : Nat)), (7, .pointer (some ⟨b7, 0, none⟩)), (8, .int .i64 (x.1 : Nat))])
          (fun x W' => Ext W W' ∧ Up (fun k' => (S k' ∧ u.ownBlock ≠ some k') ∧ k' ≠ b7) W' ∧ x.1 ≤ m.length ∧ Blk W' b7 28 x.2.cells ∧ eQ.R (fun k' => (S k' ∧ u.ownBlock ≠ some k') ∧ k' ≠ b7) W' x.2 (qc (sumN x.1 f))) (fun x => m.length - x.1) (0, .agg #[.bool false, .slice none 0 0, .bool false, .slice none 0 0]) ?_ ?_ ?_)
        · exact look_cons rfl (look_cons rfl (look_cons rfl (look_cons rfl (look_cons rfl (look_cons rfl look_nil)))))
        · exact ⟨e3, up3, Nat.zero_le _, k7, h3⟩
        · rintro ⟨n, x⟩ W' ⟨hW, upW, hn, k7, hu⟩
          replace hW : Ext W W' := hW
          replace hn : n ≤ m.length := hn
          replace k7 : Blk W' b7 28 x.cells := k7
          replace hu : eQ.R (fun k' => (S k' ∧ u.ownBlock ≠ some k') ∧ k' ≠ b7) W' x (qc (sumN n f)) := hu
          refine .weak [(0, vy), (1, vm), (5, u), (6, .int .i64 (j : Nat)), (7, .pointer (some ⟨b7, 0, none⟩)), (8, .int .i64 (n : Nat))] (fun t v h => h) ?_
          have hBW : Below w.heap.size w W' := hB.trans (hW.mono hsz)
          have hszW := hW.size
          obtain ⟨s, t, rfl, hs, ht⟩ := hu
          have hu : eQ.R (fun k' => (S k' ∧ u.ownBlock ≠ some k') ∧ k' ≠ b7) W' (.agg #[.bool (qc (sumN n f)).num.neg, s, .bool (qc (sumN n f)).den.neg, t]) (qc (sumN n f)) := ⟨s, t, rfl, hs, ht⟩
          have haW := eM.mono (fun k' _ h => hTu k' h) (hA hBW)
          have hyW := eV.mono (fun k' _ h => hTu k' h) (hY hBW)
          have hS7 : ¬ (fun k' => (S k' ∧ u.ownBlock ≠ some k') ∧ k' ≠ b7) b7 := fun h => h.2 rfl
          generalize hT : (fun k' => (S k' ∧ u.ownBlock ≠ some k') ∧ k' ≠ b7) = T at *
          refine .seq (.seq (.region (.mv rfl rfl (.mv rfl rfl (.lenR un_M rfl rfl haW ?_)))))
          by_cases hnl : n < m.length
          · refine .lssT rfl rfl rfl (by omega) (.nil (.condT rfl (.skip (.seq (.block ?_)))))
            have hai := hky.get hL n
            have hbi := hkm.rsz hL n j
            have hsum : Rsz (sumN n f) (1 + n * (L + L + 1)) := sumN_rsz fun k _ => by rw [← hf]; exact (hky.rsz hL k).mul (hkm.rsz hL k j)
            have hbig : 1 + n * (L + L + 1) ≤ 100000000 := by
              have := Nat.mul_le_mul (show n ≤ 10000 by omega) (show L + L + 1 ≤ 2001 by omega)
              omega
            have hm2 : Rsz (qval (atI y n) * qval (qc (rmI m n j))) (L + L) := by rw [qval_qc, rmI_nat, atI_nat]; exact hai.2.mul hbi
            refine .par follows 10 [.inl (.agg #[.bool (qc (sumN n f)).num.neg, s, .bool (qc (sumN n f)).den.neg, t]), .inl vy, .inl (.int .i64 (n : Nat)), .inr (eQ.at T (atI y n)), .inl vm, .inl (.int .i64 (n : Nat)), .inl (.int .i64 (j : Nat)), .inr (eQ.at T (qc (rmI m n j))), .inr (eQ.at T (qc (qval (atI y n) * qval (qc (rmI m n j))))), .inr (eQ.at T (qc (qval (qc (sumN n f)) + qval (qc (qval (atI y n) * qval (qc (rmI m n j)))))))]
                [[], [], [], [(23, 1), (24, 2)], [], [], [], [(26, 4), (27, 5), (28, 6)], [(25, 3), (29, 7)], [(22, 0), (30, 8)]] (by kernel_rfl) ⟨
              fun w e => (v_ldA ty_Q rfl (k7.ext e) rfl).ob, fun w e => (v_mv rfl).ob, fun w e => (v_mv rfl).ob,
              fun w e => (g_call _ E_ref03_At rfl (ref03_At_c (ER.ext eV hyW e))).ob (st_at _ _ _),
              fun w e => (v_mv rfl).ob, fun w e => (v_mv rfl).ob, fun w e => (v_mv rfl).ob,
              fun w e => (g_call _ E_ref04_At rfl (ref04_At_c (upW.ext e.size) (ER.ext eM haW e) hkm hL (by omega))).ob (st_at _ _ _),
              fun w e x hx y hy => (g_call _ E_ref02_Mul rfl (ref02_Mul_c (L := L) (upW.ext e.size) hx hy (by rw [atI_nat]; exact hai.1) (by rw [rmI_nat]; exact hbi.toOk) hL (by omega))).ob (st_at _ _ _),
              fun w e y hy => (g_call _ E_ref02_Add rfl (ref02_Add_c (L := 1 + n * (L + L + 1) + (L + L)) (upW.ext e.size) (ER.ext eQ hu e) hy (hsum.toOk.mono (by omega)) (hm2.toOk.mono (by omega)) (by omega) (by omega))).ob (st_at _ _ _), trivial⟩ ?_
            rintro W2 e2 x1 - x2 - x3 - z hz
            rw [qval_qc, qval_qc, qval_qc, rmI_nat, atI_nat] at hz
            refine .storeA (E := eQ) ty_Q rfl rfl (k7.ext e2) rfl rfl hz hS7 fun W3 k7 u3 h3 => .nil ?_
            refine .region (.mv rfl rfl (.add rfl rfl rfl (.asg rfl rfl (.nil ?_))))
            rw [wI (by omega)]
            refine ⟨rfl, (n + 1, z), look_cons rfl (look_cons rfl (look_cons rfl (look_cons rfl (look_cons rfl (look_cons rfl look_nil))))), ⟨u3.below (hW.trans e2) (by omega), fun k hk => upW k (by have := u3.size; have := e2.size; omega), hnl, k7, ?_⟩, by show m.length - (n + 1) < m.length - n; omega⟩
            show eQ.R T W3 z (qc (sumN (n + 1) f))
            rw [show sumN (n + 1) f = sumN n f + rv y n * rm m n j by rw [← hf]; rfl]
            exact h3
          · refine .lssF rfl rfl rfl (by omega) (.nil (.condF rfl (.exit ?_)))
            have : n = m.length := by omega
            subst this
            exact ⟨rfl, _, look_cons rfl (look_cons rfl (look_cons rfl (look_cons rfl (look_cons rfl look_nil)))), hW, upW, k7, hu⟩
      · rintro x W' ⟨hW, upW, k7, hu⟩
        obtain ⟨s, t, rfl, hs, ht⟩ := hu
        have hu : eQ.R (fun k' => S k' ∧ u.ownBlock ≠ some k') W' (.agg #[.bool (qc (sumN m.length f)).num.neg, s, .bool (qc (sumN m.length f)).den.neg, t]) (qc (sumN m.length f)) := ER.mono eQ (fun _ _ h => h.1) (⟨s, t, rfl, hs, ht⟩ : eQ.R (fun k' => (S k' ∧ u.ownBlock ≠ some k') ∧ k' ≠ b7) W' _ _)
        refine .region (.mv rfl rfl (.ldA ty_Q rfl rfl k7 rfl (.bsl _ rfl rfl bsl_V1 fun W3 b3 n3 => ?_)))
        obtain ⟨e3, k3, hb3, hs3⟩ := n3
        have e23 := hW.trans e3
        have hB3 : Below w.heap.size w W3 := hB.trans (e23.mono hsz)
        refine .gv rfl rfl (g_appL (E := eQ) (base := w.heap.size) (by decide) un_V info_Q rfl rfl rfl (ho.ext e23) k3 (ER.ext eQ hu e3) (by simp; omega) (by decide) hB3.size) ?_
        rintro v4 W4 ⟨ho4, hg4⟩
        refine .asg rfl rfl (.nil (.region (.mv rfl rfl (.add rfl rfl rfl (.asg rfl rfl (.nil ?_))))))
        rw [wI (by omega)]
        refine ⟨rfl, (j + 1, v4), look_cons rfl (look_cons rfl (look_cons rfl (look_cons rfl look_nil))), ⟨(ho.ext e23).below hg4 hB3 hB3.size, hlt, ?_⟩, by show colsOf m - (j + 1) < colsOf m - j; omega⟩
        show OwnL eQ 28 w.heap.size S W4 v4 ((List.range (j + 1)).map G)
        rw [List.range_succ, List.map_append, ← hG]
        rw [← hG] at ho4
        rw [← hf] at ho4
        exact ho4
    · refine .lssF rfl rfl rfl (by omega) (.nil (.condF rfl (.exit (.seq (.region (.mv rfl rfl (.asg rfl rfl (.nil (.ret ?_)))))))))
      have : j = colsOf m := by omega
      subst this
      refine .plain [_] Tryz.results23 ⟨rfl, trivial⟩ ⟨hB, ?_⟩
      unfold tab
      rw [hG]
      exact ho.toR up (fun _ h => h)
end Go.Proofs.YtgghedhmjhaieaaGreat

namespace Go.Proofs.YtgghedhmjhaieaaGreat
open Go Go.Kx Go.RowKit

theorem E_vec_Scale : Ent Tryz.prog 48 := ent_of Tryz.func48 (by kernel_rfl) rfl
theorem vec_Scale_c {S : Nat → Prop} {w : World} {vk_ va : Value} {k : QV} {a : List QV} {L : Nat} (up : Up S w) (hk : eQ.R S w vk_ k) (ha : eV.R S w va a) (hkk : qk L k) (hka : vk L a) (hL : 1 ≤ L) (hL2 : L ≤ 100000000) (hla : a.length ≤ 100000000) :
    CR Tryz.prog 48 #[vk_, va] w (eV.at S (tab a.length fun i => qval k * rv a i)) := by
  obtain ⟨s, t, rfl, hs, ht⟩ := hk
  have hk : eQ.R S w (.agg #[.bool k.num.neg, s, .bool k.den.neg, t]) k := ⟨s, t, rfl, hs, ht⟩
  refine enter Tryz.func48 rfl Tryz.ntmps48 rfl ?_
  refine .seq (.region (.box rfl rfl fun w1 b2 n1 => .asg rfl rfl (.nil ?_)))
  obtain ⟨e1, k2, hb2, hs1⟩ := n1
  have hB1 : ∀ {W : World}, Ext w1 W → Kp (fun k => S k ∧ k < w1.heap.size) w1 W := fun hB k c t f hk h => (hB.block k hk.2).trans h
  have hK : ∀ {W : World}, Ext w1 W → eQ.R (fun k => S k ∧ k < w1.heap.size) W (.agg #[.bool k.num.neg, s, .bool k.den.neg, t]) k := fun hB => eQ.keep (hB1 hB) (ER.lt eQ (ER.ext eQ hk e1))
  have hA : ∀ {W : World}, Ext w1 W → eV.R (fun k => S k ∧ k < w1.heap.size) W va a := fun hB => eV.keep (hB1 hB) (ER.lt eV (ER.ext eV ha e1))
  have up1 := up.ext e1.size
  refine .seq (.region (.mv rfl rfl (.lenR un_V rfl rfl (hA (Ext.refl _)) ?_)))
  refine .make_ _ _ un_V info_Q rfl (by decide) rfl rfl rfl (Nat.le_refl _) (by omega) (by omega) fun w2 g n2 => .asg rfl rfl (.nil ?_)
  have f2 : FB eQ 28 S w2 g (List.replicate a.length q0) := FB.made n2 ⟨_, _, rfl, RL.nil, RL.nil⟩
  obtain ⟨e2, _, hg, hs2⟩ := n2
  generalize hf : (fun i => qc (qval k * rv a i)) = f
  refine .seq (.seq (.region (.mv rfl rfl (.lenR un_V rfl rfl (hA e2) (.mv rfl rfl (.nil ?_))))))
  refine .block (.loop (α := Nat) (fun i => [(2, .pointer (some ⟨b2, 0, none⟩)), (5, .slice (some ⟨g, 0, none⟩) a.length a.length), (11, va), (12, .int .i64 (a.length : Nat)), (13, .int .i64 (i : Nat))])
    (fun i W => Ext w1 W ∧ i ≤ a.length ∧ FB eQ 28 S W g (fil a.length i f q0)) (fun i => a.length - i) 0 ?_ ?_ ?_)
  · exact look_cons rfl (look_cons rfl (look_cons rfl (look_cons rfl (look_cons rfl look_nil))))
  · exact ⟨e2, Nat.zero_le _, by rw [fil_zero]; exact f2⟩
  · rintro i W ⟨hB, hi, hF⟩
    have hsz := hB.size
    have hgl := hF.lt
    refine .seq (.region ?_)
    by_cases hlt : i < a.length
    · refine .lssT rfl rfl rfl (by omega) (.nil (.seq (.condT rfl (.skip (.seq (.block (.seq (.region (.mv rfl rfl ?_)))))))))
      refine .ixN (i := i) un_V ty_Q rfl rfl (hA hB) rfl (getD_get' (z := q0) hlt) fun p hp => .ldE ty_Q rfl rfl hp fun e he => .alloc rfl zero_Q fun W2 b7 n7 => .asg rfl rfl ?_
      obtain ⟨s2, t2, rfl, hs2', ht2'⟩ := he
      have he : eQ.R (fun k => S k ∧ k < w1.heap.size) W (.agg #[.bool (a.getD i q0).num.neg, s2, .bool (a.getD i q0).den.neg, t2]) (a.getD i q0) := ⟨s2, t2, rfl, hs2', ht2'⟩
      obtain ⟨e3, k7, hb7, hs7⟩ := n7
      refine .storeA (E := eQ) ty_Q rfl rfl k7 rfl rfl (ER.ext eQ he e3) (fun h => by have := h.2; omega) fun W3 k7 u7 he3 => .nil ?_
      have hW3 : Ext W W3 := u7.below e3 (by omega)
      have hB3 : Ext w1 W3 := hB.trans hW3
      have hF3 : FB eQ 28 S W3 g (fil a.length i f q0) := (((hF.mono (S' := fun k => S k ∧ k < W.heap.size) (fun k hk hs => ⟨hs, hk⟩)).ext e3).upd u7 (by omega) (fun h => by have := h.2; omega)).mono (fun k _ h => h.1)
      have hsz3 := hW3.size
      have hTg : ∀ k', S k' ∧ k' < w1.heap.size → S k' ∧ k' ≠ g := fun k' hk' => ⟨hk'.1, by have := hk'.2; omega⟩
      refine .region (.mv rfl rfl (.mv rfl rfl (.ldA ty_Q rfl rfl (k2.ext hB3) rfl (.ldA ty_Q rfl rfl k7 rfl ?_))))
      refine .call _ rfl E_frac_Mul rfl (frac_Mul_c (S := fun k' => S k' ∧ k' ≠ g) (fun k' hk' => ⟨up1 k' (by omega), by omega⟩) (eQ.mono (fun k' _ h => hTg k' h) (hK hB3)) (eQ.mono (fun k' _ h => hTg k' h) he3) hkk.1 (hka.get hL i).1 hL (by omega)) fun v4 W4 e4 h4 => ?_
      refine .ixB (i := i) un_V ty_Q rfl rfl rfl hlt ?_
      refine .gv rfl rfl (g_storeF (E := eQ) (i := i) (by decide) ty_Q rfl rfl (hF3.ext e4) rfl (by rw [fil_length]; exact hlt) (Nat.zero_add _) h4) ?_
      rintro _ W5 ⟨hF5, u5⟩
      refine .nil (.region (.add rfl rfl rfl (.mv rfl rfl (.nil ?_))))
      rw [wI (by omega)]
      refine ⟨rfl, i + 1, look_cons rfl (look_cons rfl (look_cons rfl (look_cons rfl (look_cons rfl look_nil)))), ⟨u5.below (hB3.trans e4) (by omega), hlt, ?_⟩, by show a.length - (i + 1) < a.length - i; omega⟩
      have hfi : qc (qval k * qval (a.getD i q0)) = f i := by rw [← hf]; rfl
      rw [hfi, fil_set] at hF5
      exact hF5
    · refine .lssF rfl rfl rfl (by omega) (.nil (.seq (.condF rfl (.exit (.seq (.region (.mv rfl rfl (.asg rfl rfl (.nil (.ret ?_))))))))))
      have : i = a.length := by omega
      subst this
      rw [fil_all] at hF
      refine .plain [_] Tryz.results48 ⟨rfl, trivial⟩ ⟨e1.trans hB, ?_⟩
      have := hF.toR (c := a.length) (hsz := by decide) (up1 g (by omega)) (by simp) (by simp; omega)
      rw [show ((List.range a.length).map f).length = a.length by simp] at this
      unfold tab
      rw [hf]
      exact this

theorem E_mat_Scale : Ent Tryz.prog 15 := ent_of Tryz.func15 (by kernel_rfl) rfl
theorem mat_Scale_c {S : Nat → Prop} {w : World} {vk_ vm : Value} {k : QV} {m : List (List QV)} {L : Nat} (up : Up S w) (hk : eQ.R S w vk_ k) (hm : eM.R S w vm m) (hkk : qk L k) (hkm : mk_ L m) (hL : 1 ≤ L) (hL2 : L ≤ 100000000) (hr : m.length ≤ 1000000) (hc : colsOf m ≤ 1000000) :
    CR Tryz.prog 15 #[vk_, vm] w (eM.at S ((List.range m.length).map (sclR k m))) := by
  obtain ⟨s, t, rfl, hs, ht⟩ := hk
  have hk : eQ.R S w (.agg #[.bool k.num.neg, s, .bool k.den.neg, t]) k := ⟨s, t, rfl, hs, ht⟩
  refine enter Tryz.func15 rfl Tryz.ntmps15 rfl ?_
  refine .seq (.region (.box rfl rfl fun w1 b2 n1 => .asg rfl rfl (.nil ?_)))
  obtain ⟨e1, k2, hb2, hs1⟩ := n1
  have hB1 : ∀ {W : World}, Ext w1 W → Kp (fun k => S k ∧ k < w1.heap.size) w1 W := fun hB k c t f hk h => (hB.block k hk.2).trans h
  have hK : ∀ {W : World}, Ext w1 W → eQ.R (fun k => S k ∧ k < w1.heap.size) W (.agg #[.bool k.num.neg, s, .bool k.den.neg, t]) k := fun hB => eQ.keep (hB1 hB) (ER.lt eQ (ER.ext eQ hk e1))
  have hA : ∀ {W : World}, Ext w1 W → eM.R (fun k => S k ∧ k < w1.heap.size) W vm m := fun hB => eM.keep (hB1 hB) (ER.lt eM (ER.ext eM hm e1))
  have up1 := up.ext e1.size
  refine .seq (.region (.mv rfl rfl (.lenR un_M rfl rfl (hA (Ext.refl _)) ?_)))
  refine .make_ _ _ un_M info_V rfl (by decide) rfl rfl rfl (Nat.le_refl _) (by omega) (by omega) fun w2 g n2 => .asg rfl rfl (.nil ?_)
  have f2 : FB eV 23 S w2 g (List.replicate m.length []) := FB.made n2 RL.nil
  obtain ⟨e2, _, hg, hs2⟩ := n2
  refine .seq (.seq (.region (.mv rfl rfl (.lenR un_M rfl rfl (hA e2) (.mv rfl rfl (.nil ?_))))))
  refine .block (.loop (α := Nat) (fun i => [(2, .pointer (some ⟨b2, 0, none⟩)), (5, .slice (some ⟨g, 0, none⟩) m.length m.length), (11, vm), (12, .int .i64 (m.length : Nat)), (13, .int .i64 (i : Nat))])
    (fun i W => Ext w1 W ∧ i ≤ m.length ∧ FB eV 23 S W g (fil m.length i (sclR k m) [])) (fun i => m.length - i) 0 ?_ ?_ ?_)
  · exact look_cons rfl (look_cons rfl (look_cons rfl (look_cons rfl (look_cons rfl look_nil))))
  · exact ⟨e2, Nat.zero_le _, by rw [fil_zero]; exact f2⟩
  · rintro i W ⟨hB, hi, hF⟩
    have hsz := hB.size
    have hgl := hF.lt
    refine .seq (.region ?_)
    by_cases hlt : i < m.length
    · refine .lssT rfl rfl rfl (by omega) (.nil (.seq (.condT rfl (.skip (.seq (.block (.seq (.region (.mv rfl rfl ?_)))))))))
      refine .ixN (i := i) un_M ty_V rfl rfl (hA hB) rfl (getD_get' (z := []) hlt) fun p hp => .ldE ty_V rfl rfl hp fun e he => .asg rfl rfl (.asg rfl rfl (.nil ?_))
      have hTg : ∀ k', S k' ∧ k' < w1.heap.size → S k' ∧ k' ≠ g := fun k' hk' => ⟨hk'.1, by have := hk'.2; omega⟩
      refine .region (.mv rfl rfl (.mv rfl rfl (.ldA ty_Q rfl rfl (k2.ext hB) rfl (.mv rfl rfl ?_))))
      refine .call _ rfl E_vec_Scale rfl (vec_Scale_c (S := fun k' => S k' ∧ k' ≠ g) (fun k' hk' => ⟨up1 k' (by omega), by omega⟩) (eQ.mono (fun k' _ h => hTg k' h) (hK hB)) (eV.mono (fun k' _ h => hTg k' h) he) hkk (hkm.get i) hL hL2 (Nat.le_trans (colsOf_get m i) (by omega))) fun v4 W4 e4 h4 => ?_
      refine .ixB (i := i) un_M ty_V rfl rfl rfl hlt ?_
      refine .gv rfl rfl (g_storeF (E := eV) (i := i) (z := sclR k m i) (by decide) ty_V rfl rfl (hF.ext e4) rfl (by rw [fil_length]; exact hlt) (Nat.zero_add _) h4) ?_
      rintro _ W5 ⟨hF5, u5⟩
      refine .nil (.region (.add rfl rfl rfl (.mv rfl rfl (.nil ?_))))
      rw [wI (by omega)]
      refine ⟨rfl, i + 1, look_cons rfl (look_cons rfl (look_cons rfl (look_cons rfl (look_cons rfl look_nil)))), ⟨u5.below (hB.trans e4) (by omega), hlt, ?_⟩, by show m.length - (i + 1) < m.length - i; omega⟩
      rw [fil_set] at hF5
      exact hF5
    · refine .lssF rfl rfl rfl (by omega) (.nil (.seq (.condF rfl (.exit (.seq (.region (.mv rfl rfl (.asg rfl rfl (.nil (.ret ?_))))))))))
      have : i = m.length := by omega
      subst this
      rw [fil_all] at hF
      refine .plain [_] Tryz.results15 ⟨rfl, trivial⟩ ⟨e1.trans hB, ?_⟩
      have := hF.toR (c := m.length) (hsz := by decide) (up1 g (by omega)) (by simp) (by simp; omega)
      rw [show ((List.range m.length).map (sclR k m)).length = m.length by simp] at this
      exact this
end Go.Proofs.YtgghedhmjhaieaaGreat

namespace Go.Kx
open Go Go.RowKit
section
variable {P : Program} {σ : Env} {w : World} {d : Option Tmp} {ty : TypeId} {pos : String} {af : Array Edge} {g : Option (Nat × Bool)}
/-- append(nil, s...) -/
theorem g_appWs {S : Nat → Prop} {t e : TypeId} {x y : Operand} {u : Value} {s : List Nat} (ht : P.underlying t = some (.slice e)) (hi : infoOf P e = some (.int .u32 0, 1, 4)) (hx : ev σ x = some (.slice none 0 0)) (hy : ev σ y = some u)
    (hs : eW.R S w u s) (hl2 : s.length ≤ 1000000000000) :
    Gv P ⟨d, .call { callee := .builtin .append, args := #[x, y], argTypes := #[t, t] }, ty, pos, af, g⟩ σ w fun v' w' => OwnW e w.heap.size w' v' s ∧ Ext w w' := by
  have hds : dig s := eW_lt hs
  have hown : OwnW e w.heap.size w (.slice none 0 0) [] := ⟨⟨rfl, .inl ⟨rfl, rfl⟩⟩, fun x hx => by cases hx⟩
  obtain ⟨es, he, a, c, rfl, hc, _, hcl, hcells⟩ := hs
  have hes : es = s.map wv := by
    apply List.ext_getElem?
    intro i
    rw [List.getElem?_map]
    cases hi : s[i]? with
    | none => rw [List.getElem?_eq_none (by rw [he.1]; exact List.getElem?_eq_none_iff.1 hi)]; rfl
    | some z =>
      have hlt : i < s.length := (List.getElem?_eq_some_iff.1 hi).1
      have hee := List.getElem?_eq_getElem (show i < es.length by rw [he.1]; exact hlt)
      obtain ⟨h1, _⟩ := he.2 i _ z hee hi
      rw [hee, h1]; rfl
  subst hes
  rw [cellsOf_map1 wv (fun _ => rfl)] at hcells hcl
  have hone : ∀ u ∈ s.map wv, one1 u = true := by
    intro u hu
    obtain ⟨z, _, rfl⟩ := List.mem_map.1 hu
    rfl
  cases a with
  | some ad =>
    have hcell : ∀ j u, (s.map wv)[j]? = some u → w.cell? (ad.add j) = some u := by
      intro j u hu
      have hpos : 0 < s.length := by
        cases s with
        | nil => simp at hu
        | cons z s => simp
      obtain ⟨ad', h1, _, h2⟩ := hcells hpos
      cases h1
      exact h2 j u hu
    exact (g_app (s.map wv) ht hi rfl (by decide) hx hy hown.1 (by simp) hcell hone (by simp; omega) (by simp; omega) (Nat.le_refl _)).mono fun v' w' ⟨h1, h2⟩ => ⟨⟨by simpa using h1, hds⟩, hown.below h2 (Below.refl _ _) (Nat.le_refl _)⟩
  | none =>
    have h0 : s = [] := by
      cases s with
      | nil => rfl
      | cons z s => obtain ⟨ad, h1, _⟩ := hcells (by simp); cases h1
    subst h0
    refine (g_app0 ht hi hx hy hown.1).gv.mono fun v' w' ⟨h1, h2⟩ => ?_
    subst h1; subst h2
    exact ⟨hown, Below.refl _ _⟩
end
end Go.Kx
namespace Go.Proofs.YtgghedhmjhaieaaGreat
open Go Go.Kx Go.RowKit

theorem E_law01_Own : Ent Tryz.prog 97 := ent_of Tryz.func97 (by kernel_rfl) rfl
theorem law01_Own_c {S : Nat → Prop} {w : World} {v : Value} {a : ZV} (up : Up S w) (h : eZ.R S w v a) (hl : a.w.length ≤ 1000000000) : CR Tryz.prog 97 #[v] w (eZ.at S a) := by
  obtain ⟨s, rfl, hs⟩ := h
  refine enter Tryz.func97 rfl Tryz.ntmps97 rfl ?_
  refine .seq (.region (.box rfl rfl fun w1 b1 n1 => .alloc rfl zero_Z fun w2 b2 n2 => .nil ?_))
  obtain ⟨e1, k1, hb1, hs1⟩ := n1
  obtain ⟨e2, k2, hb2, hs2⟩ := n2
  have x2 := e1.trans e2
  have k1 := k1.ext e2
  have hS2 : ¬ Sx S w.heap.size w2.heap.size b2 := Sx.no (by omega) (by omega)
  have up2 : Up (Sx S w.heap.size w2.heap.size) w2 := Sx.up up (Nat.le_refl _) x2.size
  have hs2' := (ER.par eW hs w2.heap.size).ext x2
  have hout : ∀ {W : World} {v : Value} {z : ZV}, eZ.R (Sx S w.heap.size w2.heap.size) W v z → eZ.R S W v z := fun h => h.out
  generalize hT : Sx S w.heap.size w2.heap.size = T at *
  refine .seq ?_
  refine .par follows 6 [.inl _, .inl (.bool a.neg), .inl _, .inl s, .inr (eW.at T a.w), .inr (eZ.at T a)] [[], [(3, 0)], [], [(5, 2)], [(6, 3)], [(4, 1), (7, 4)]] (by kernel_rfl) ⟨
    fun w e => (v_fa fld_Z0 rfl).ob, fun w e => (v_ld ty_bool rfl (k1.ext e) rfl).ob, fun w e => (v_fa fld_Z1 rfl).ob, fun w e => (v_ld ty_W rfl (k1.ext e) rfl).ob,
    fun w e => Gv.ob ((g_appWs un_W info_u32 rfl rfl (ER.ext eW hs2' e) (by omega)).mono fun v' w' ⟨h1, h2⟩ => ⟨h2, h1.toR (S := T) (fun k hk => up2 k (by have := e.size; omega))⟩) (st_at _ _ _),
    fun w e x hx => by
      obtain ⟨p, c, hv, _⟩ := RL.len hx
      have hz : eZ.R T w (.agg #[.bool a.neg, x]) a := ⟨x, rfl, hx⟩
      generalize a.w.length = nl at hv
      subst hv
      exact ob_vl (v_bld [(0, .bool a.neg), (1, .slice p nl c)] rfl bld_Z2) hz (st_at _ _ _), trivial⟩ ?_
  rintro w3 e3 x - z hz
  refine .storeA (E := eZ) ty_Z rfl rfl (k2.ext e3) rfl rfl hz hS2 fun w5 k5 u5 h5 => .nil (.ret ?_)
  exact .cell Tryz.results97 rfl ty_Z rfl rfl k5 h5 ⟨u5.below (x2.trans e3) (by omega), hout h5⟩

theorem E_law02_Own : Ent Tryz.prog 73 := ent_of Tryz.func73 (by kernel_rfl) rfl
theorem law02_Own_c {S : Nat → Prop} {w : World} {v : Value} {q : QV} (up : Up S w) (h : eQ.R S w v q) (hl : qok 1000000000 q) : CR Tryz.prog 73 #[v] w (eQ.at S q) := by
  obtain ⟨s, t, rfl, hn, hd⟩ := eQ_parts h
  refine enter Tryz.func73 rfl Tryz.ntmps73 rfl ?_
  refine .seq (.region (.box rfl rfl fun w1 b1 n1 => .alloc rfl zero_Q fun w2 b2 n2 => .nil ?_))
  obtain ⟨e1, k1, hb1, hs1⟩ := n1
  obtain ⟨e2, k2, hb2, hs2⟩ := n2
  have x2 := e1.trans e2
  have k1 := k1.ext e2
  have hS2 : ¬ Sx S w.heap.size w2.heap.size b2 := Sx.no (by omega) (by omega)
  have up2 : Up (Sx S w.heap.size w2.heap.size) w2 := Sx.up up (Nat.le_refl _) x2.size
  have hn2 := (ER.par eZ hn w2.heap.size).ext x2
  have hd2 := (ER.par eZ hd w2.heap.size).ext x2
  have hout : ∀ {W : World} {v : Value} {z : QV}, eQ.R (Sx S w.heap.size w2.heap.size) W v z → eQ.R S W v z := fun h => h.out
  generalize hT : Sx S w.heap.size w2.heap.size = T at *
  refine .seq ?_
  refine .par follows 7 [.inl _, .inl (.agg #[.bool q.num.neg, s]), .inr (eZ.at T q.num), .inl _, .inl (.agg #[.bool q.den.neg, t]), .inr (eZ.at T q.den), .inr (eQ.at T q)] [[], [(3, 0)], [(4, 1)], [], [(6, 3)], [(7, 4)], [(5, 2), (8, 5)]] (by kernel_rfl) ⟨
    fun w e => (v_fa fld_Q0 rfl).ob, fun w e => (v_ldN [.bool q.num.neg, s] ty_Z rfl (k1.ext e) two_on).ob,
    fun w e => (g_call _ E_law01_Own rfl (law01_Own_c (up2.ext e.size) (ER.ext eZ hn2 e) hl.1)).ob (st_at _ _ _),
    fun w e => (v_fa fld_Q1 rfl).ob, fun w e => (v_ldN [.bool q.den.neg, t] ty_Z rfl (k1.ext e) two_off).ob,
    fun w e => (g_call _ E_law01_Own rfl (law01_Own_c (up2.ext e.size) (ER.ext eZ hd2 e) hl.2)).ob (st_at _ _ _),
    fun w e x hx y hy => by
      obtain ⟨sx, rfl, hsx⟩ := hx
      obtain ⟨sy, rfl, hsy⟩ := hy
      exact ob_vl (v_bld [(0, .agg #[.bool q.num.neg, sx]), (1, .agg #[.bool q.den.neg, sy])] rfl bld_Q2) ⟨sx, sy, rfl, hsx, hsy⟩ (st_at _ _ _), trivial⟩ ?_
  rintro w3 e3 x - y - z hz
  refine .storeA (E := eQ) ty_Q rfl rfl (k2.ext e3) rfl rfl hz hS2 fun w5 k5 u5 h5 => .nil (.ret ?_)
  exact .cell Tryz.results73 rfl ty_Q rfl rfl k5 h5 ⟨u5.below (x2.trans e3) (by omega), hout h5⟩
end Go.Proofs.YtgghedhmjhaieaaGreat

namespace Go.Kx
theorem range_getD {α : Type} (l : List α) (z : α) : (List.range l.length).map (fun i => l.getD i z) = l := by
  apply List.ext_getElem?
  intro i
  by_cases h : i < l.length
  · simp [h, List.getD_eq_getElem?_getD]
  · rw [List.getElem?_eq_none (by simp; omega), List.getElem?_eq_none (by omega)]
end Go.Kx
namespace Go.Proofs.YtgghedhmjhaieaaGreat
open Go Go.Kx Go.RowKit

theorem E_law03_Own : Ent Tryz.prog 42 := ent_of Tryz.func42 (by kernel_rfl) rfl
theorem law03_Own_c {S : Nat → Prop} {w : World} {v : Value} {a : List QV} (up : Up S w) (h : eV.R S w v a) (hl : ∀ q ∈ a, qok 1000000000 q) (hll : a.length ≤ 1000000) : CR Tryz.prog 42 #[v] w (eV.at S a) := by
  have hA : ∀ {W : World}, Below w.heap.size w W → eV.R (fun k => S k ∧ k < w.heap.size) W v a := fun hB => eV.keep (fun k c t f hk h => (hB.block k hk.2).trans h) (ER.lt eV h)
  refine enter Tryz.func42 rfl Tryz.ntmps42 rfl ?_
  refine .seq (.region (.asg rfl rfl (.nil (.seq (.region (.asg rfl rfl (.nil (.seq (.seq (.region (.asg rfl rfl (.nil ?_))))))))))))
  refine .block (.loop (α := Nat × Value) (fun y => [(0, v), (3, y.2), (4, .int .i64 (y.1 : Nat))]) (fun y W => Below w.heap.size w W ∧ y.1 ≤ a.length ∧ OwnL eQ 28 w.heap.size S W y.2 ((List.range y.1).map fun i => a.getD i q0)) (fun y => a.length - y.1) (0, .slice none 0 0) ?_ ?_ ?_)
  · exact look_cons rfl (look_cons rfl (look_cons rfl look_nil))
  · exact ⟨Below.refl _ _, Nat.zero_le _, OwnL.nil⟩
  · rintro ⟨i, u⟩ W ⟨hB, hi, ho⟩
    replace hB : Below w.heap.size w W := hB
    replace hi : i ≤ a.length := hi
    replace ho : OwnL eQ 28 w.heap.size S W u ((List.range i).map fun i => a.getD i q0) := ho
    refine .weak [(0, v), (3, u), (4, .int .i64 (i : Nat))] (fun t v h => h) ?_
    have hsz := hB.size
    refine .seq (.seq (.region (.mv rfl rfl (.mv rfl rfl (.lenR un_V rfl rfl (hA hB) ?_)))))
    by_cases hlt : i < a.length
    · refine .lssT rfl rfl rfl (by omega) (.nil (.condT rfl (.skip (.seq (.block (.region (.mv rfl rfl (.mv rfl rfl (.mv rfl rfl ?_)))))))))
      refine .ixN (i := i) un_V ty_Q rfl rfl (hA hB) rfl (getD_get' (z := q0) hlt) fun p hp => .ldE ty_Q rfl rfl hp fun e he => ?_
      obtain ⟨es, ho1, ho2⟩ := id ho
      have hTu : ∀ k', S k' ∧ k' < w.heap.size → S k' ∧ u.ownBlock ≠ some k' := fun k' hk' => ⟨hk'.1, fun h => by have := (ho1.lt k' h).1; have := hk'.2; omega⟩
      refine .call _ rfl E_law02_Own rfl (law02_Own_c (S := fun k => S k ∧ u.ownBlock ≠ some k) (fun k hk => ⟨up k (by omega), fun h => by have := (ho1.lt k h).2; omega⟩) (eQ.mono (fun k _ h => hTu k h) he) (mem_getD (P := qok 1000000000) hl ⟨by simp [q0], by simp [q0]⟩ i)) fun v2 W2 e2 h2 => ?_
      have hr' := h2
      obtain ⟨s, t, rfl, _, _⟩ := hr'
      refine .bsl _ rfl rfl bsl_V1 fun W3 b3 n3 => ?_
      obtain ⟨e3, k3, hb3, hs3⟩ := n3
      have e23 := e2.trans e3
      have hB3 : Below w.heap.size w W3 := hB.trans (e23.mono hsz)
      refine .gv rfl rfl (g_appL (E := eQ) (base := w.heap.size) (by decide) un_V info_Q rfl rfl rfl (ho.ext e23) k3 (h2.ext e3) (by simp; omega) (by decide) hB3.size) ?_
      rintro v4 W4 ⟨ho4, hg4⟩
      refine .asg rfl rfl (.nil (.region (.mv rfl rfl (.add rfl rfl rfl (.asg rfl rfl (.nil ?_))))))
      rw [wI (by omega)]
      refine ⟨rfl, (i + 1, v4), look_cons rfl (look_cons rfl (look_cons rfl look_nil)), ⟨(ho.ext e23).below hg4 hB3 hB3.size, hlt, ?_⟩, by show a.length - (i + 1) < a.length - i; omega⟩
      show OwnL eQ 28 w.heap.size S W4 v4 ((List.range (i + 1)).map fun i => a.getD i q0)
      rw [List.range_succ, List.map_append]
      exact ho4
    · refine .lssF rfl rfl rfl (by omega) (.nil (.condF rfl (.exit (.seq (.region (.mv rfl rfl (.asg rfl rfl (.nil (.ret ?_)))))))))
      have : i = a.length := by omega
      subst this
      rw [range_getD] at ho
      exact .plain [_] Tryz.results42 ⟨rfl, trivial⟩ ⟨hB, ho.toR up (fun _ h => h)⟩

theorem E_law04_Own : Ent Tryz.prog 9 := ent_of Tryz.func9 (by kernel_rfl) rfl
theorem law04_Own_c {S : Nat → Prop} {w : World} {v : Value} {m : List (List QV)} (up : Up S w) (h : eM.R S w v m) (hl : ∀ r ∈ m, ∀ q ∈ r, qok 1000000000 q) (hll : m.length ≤ 1000000) (hlc : colsOf m ≤ 1000000) : CR Tryz.prog 9 #[v] w (eM.at S m) := by
  have hA : ∀ {W : World}, Below w.heap.size w W → eM.R (fun k => S k ∧ k < w.heap.size) W v m := fun hB => eM.keep (fun k c t f hk h => (hB.block k hk.2).trans h) (ER.lt eM h)
  refine enter Tryz.func9 rfl Tryz.ntmps9 rfl ?_
  refine .seq (.region (.asg rfl rfl (.nil (.seq (.region (.asg rfl rfl (.nil (.seq (.seq (.region (.asg rfl rfl (.nil ?_))))))))))))
  refine .block (.loop (α := Nat × Value) (fun y => [(0, v), (3, y.2), (4, .int .i64 (y.1 : Nat))]) (fun y W => Below w.heap.size w W ∧ y.1 ≤ m.length ∧ OwnL eV 23 w.heap.size S W y.2 ((List.range y.1).map fun i => m.getD i [])) (fun y => m.length - y.1) (0, .slice none 0 0) ?_ ?_ ?_)
  · exact look_cons rfl (look_cons rfl (look_cons rfl look_nil))
  · exact ⟨Below.refl _ _, Nat.zero_le _, OwnL.nil⟩
  · rintro ⟨i, u⟩ W ⟨hB, hi, ho⟩
    replace hB : Below w.heap.size w W := hB
    replace hi : i ≤ m.length := hi
    replace ho : OwnL eV 23 w.heap.size S W u ((List.range i).map fun i => m.getD i []) := ho
    refine .weak [(0, v), (3, u), (4, .int .i64 (i : Nat))] (fun t v h => h) ?_
    have hsz := hB.size
    refine .seq (.seq (.region (.mv rfl rfl (.mv rfl rfl (.lenR un_M rfl rfl (hA hB) ?_)))))
    by_cases hlt : i < m.length
    · refine .lssT rfl rfl rfl (by omega) (.nil (.condT rfl (.skip (.seq (.block (.region (.mv rfl rfl (.mv rfl rfl (.mv rfl rfl ?_)))))))))
      refine .ixN (i := i) un_M ty_V rfl rfl (hA hB) rfl (getD_get' (z := []) hlt) fun p hp => .ldE ty_V rfl rfl hp fun e he => ?_
      obtain ⟨es, ho1, ho2⟩ := id ho
      have hTu : ∀ k', S k' ∧ k' < w.heap.size → S k' ∧ u.ownBlock ≠ some k' := fun k' hk' => ⟨hk'.1, fun h => by have := (ho1.lt k' h).1; have := hk'.2; omega⟩
      refine .call _ rfl E_law03_Own rfl (law03_Own_c (S := fun k => S k ∧ u.ownBlock ≠ some k) (fun k hk => ⟨up k (by omega), fun h => by have := (ho1.lt k h).2; omega⟩) (eV.mono (fun k _ h => hTu k h) he) (mem_getD (P := fun r => ∀ q ∈ r, qok 1000000000 q) hl (fun q hq => by cases hq) i) (Nat.le_trans (colsOf_get m i) hlc)) fun v2 W2 e2 h2 => ?_
      obtain ⟨ar, cr, hvr, _⟩ := RL.len h2
      generalize hnr : (m.getD i []).length = nr at hvr
      subst hvr
      refine .bsl _ rfl rfl bsl_M1 fun W3 b3 n3 => ?_
      obtain ⟨e3, k3, hb3, hs3⟩ := n3
      have e23 := e2.trans e3
      have hB3 : Below w.heap.size w W3 := hB.trans (e23.mono hsz)
      refine .gv rfl rfl (g_appL (E := eV) (base := w.heap.size) (n := m.getD i []) (e := .slice ar nr cr) (by decide) un_M info_V rfl rfl rfl (ho.ext e23) k3 (h2.ext e3) (by simp; omega) (by decide) hB3.size) ?_
      rintro v4 W4 ⟨ho4, hg4⟩
      refine .asg rfl rfl (.nil (.region (.mv rfl rfl (.add rfl rfl rfl (.asg rfl rfl (.nil ?_))))))
      rw [wI (by omega)]
      refine ⟨rfl, (i + 1, v4), look_cons rfl (look_cons rfl (look_cons rfl look_nil)), ⟨(ho.ext e23).below hg4 hB3 hB3.size, hlt, ?_⟩, by show m.length - (i + 1) < m.length - i; omega⟩
      show OwnL eV 23 w.heap.size S W4 v4 ((List.range (i + 1)).map fun i => m.getD i [])
      rw [List.range_succ, List.map_append]
      exact ho4
    · refine .lssF rfl rfl rfl (by omega) (.nil (.condF rfl (.exit (.seq (.region (.mv rfl rfl (.asg rfl rfl (.nil (.ret ?_)))))))))
      have : i = m.length := by omega
      subst this
      rw [range_getD] at ho
      exact .plain [_] Tryz.results9 ⟨rfl, trivial⟩ ⟨hB, ho.toR up (fun _ h => h)⟩
end Go.Proofs.YtgghedhmjhaieaaGreat
