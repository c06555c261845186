/-
  frac: parts, short frac: ratio, reduce frac: operations, calculate frac: the closures of the table, Add, Sub, Mul frac: FromInt64, Canonical, Sign, sign, Cmp, Equal
-/
import Derived.Test.YtgghedhmjhaieaaGreatG4
import Derived.Test.YtgghedhmjhaieaaGreatG2
set_option linter.unusedVariables false
namespace Go.Proofs.YtgghedhmjhaieaaGreat
open Go Go.Kx Go.RowKit

/-- the two integers of a rational -/
theorem eQ_parts {S : Nat → Prop} {w : World} {v : Value} {q : QV} (h : eQ.R S w v q) : ∃ s t, v = .agg #[.bool q.num.neg, s, .bool q.den.neg, t] ∧ eZ.R S w (.agg #[.bool q.num.neg, s]) q.num ∧ eZ.R S w (.agg #[.bool q.den.neg, t]) q.den := by
  obtain ⟨s, t, hv, h1, h2⟩ := h
  exact ⟨s, t, hv, ⟨s, rfl, h1⟩, ⟨t, rfl, h2⟩⟩
theorem eZ_dig {S : Nat → Prop} {w : World} {v : Value} {z : ZV} (h : eZ.R S w v z) : dig z.w := by
  obtain ⟨s, _, hs⟩ := h
  exact eW_lt hs

theorem E_frac_parts : Ent Tryz.prog 92 := ent_of Tryz.func92 (by kernel_rfl) rfl
theorem frac_parts_c {S : Nat → Prop} {w : World} {v : Value} {q : QV} {L : Nat} (up : Up S w) (h : eQ.R S w v q) (hl : qok L q) (hL : 1 ≤ L) (hL2 : L ≤ 1000000000000) : CR Tryz.prog 92 #[v] w (Two (Zv S (pn q) L) (Zv S (pd q) L)) := by
  obtain ⟨s, t, rfl, hn, hd⟩ := eQ_parts h
  have hdn := eZ_dig hn
  have hdd := eZ_dig hd
  refine enter Tryz.func92 rfl Tryz.ntmps92 rfl ?_
  refine .seq (.region (.box rfl rfl fun w1 b1 n1 => .alloc rfl zero_Z fun w2 b2 n2 => .alloc rfl zero_Z fun w3 b3 n3 => .nil ?_))
  obtain ⟨e1, k1, hb1, hs1⟩ := n1
  obtain ⟨e2, k2, hb2, hs2⟩ := n2
  obtain ⟨e3, k3, hb3, hs3⟩ := n3
  have x3 := (e1.trans e2).trans e3
  have k1 := (k1.ext e2).ext e3
  have k2 := k2.ext e3
  have hS2 : ¬ Sx S w.heap.size w3.heap.size b2 := Sx.no (by omega) (by omega)
  have hS3 : ¬ Sx S w.heap.size w3.heap.size b3 := Sx.no (by omega) (by omega)
  have up3 : Up (Sx S w.heap.size w3.heap.size) w3 := Sx.up up (Nat.le_refl _) x3.size
  have hn3 := (hn.par w3.heap.size).ext x3
  have hd3 := (hd.par w3.heap.size).ext x3
  have hne23 : b3 ≠ b2 := by omega
  have hne21 : b1 ≠ b2 := by omega
  have hout : ∀ {W : World} {v : Value} {n : Int}, (eZn L).R (Sx S w.heap.size w3.heap.size) W v n → Zv S n L v W := fun h => Zv.out h
  generalize hT : Sx S w.heap.size w3.heap.size = T at *
  -- the end: both cells are filled
  have fin2 : ∀ {σ : Env} {W : World} {u v : Value} {m n : Int}, Ext w W → Blk W b2 26 u.cells → Blk W b3 26 v.cells → (eZn L).R T W u m → (eZn L).R T W v n → m = pn q → n = pd q → Kx.look σ 2 = some (.pointer (some ⟨b2, 0, none⟩)) → Kx.look σ 3 = some (.pointer (some ⟨b3, 0, none⟩)) →
      Leave Tryz.prog Tryz.f92 24 (fun v w' => Ext w w' ∧ Two (Zv S (pn q) L) (Zv S (pd q) L) v w') σ [] W := by
    intro σ W u v m n hx hb hb' hu hv hm hn h2 h3
    subst hm; subst hn
    exact .plain [_, _] Tryz.results92 ⟨⟨_, h2, load_cell (E := eZn L) ty_Z rfl rfl hb hu⟩, ⟨_, h3, load_cell (E := eZn L) ty_Z rfl rfl hb' hv⟩, trivial⟩ ⟨hx, u, v, rfl, hout hu, hout hv⟩
  refine .seq (.seq (.region (.fa fld_Q1 rfl rfl (.ldN [.bool q.den.neg, t] ty_Z rfl rfl k1 (by intro j u hu; match j with | 0 => exact hu | 1 => exact hu | j + 2 => simp at hu) ?_))))
  refine .call _ rfl E_whole_Sign rfl (whole_Sign_c hd3) fun v4 w4 e4 h4 => .nil ?_
  subst h4
  have hn4 := hn3.ext e4
  have hd4 := hd3.ext e4
  have k1 := k1.ext e4
  have k2 := k2.ext e4
  have k3 := k3.ext e4
  have x4 := x3.trans e4
  have up4 := up3.ext e4.size
  refine .block (.seq (.region ?_))
  by_cases h0 : zval q.den = 0
  · refine .eqlT rfl rfl rfl (by rw [h0]; rfl) (.asg rfl rfl (.nil (.condT rfl (.seq ?_))))
    refine .par follows 3 [.inl _, .inl (.agg #[.bool q.num.neg, s]), .inr (eZ.at T (zc 1))] [[], [(9, 0)], []] (by kernel_rfl) ⟨
      fun w e => (v_fa fld_Q0 rfl).ob,
      fun w e => (v_ldN [.bool q.num.neg, s] ty_Z rfl (k1.ext e) (by intro j u hu; match j with | 0 => exact hu | 1 => exact hu | j + 2 => simp at hu)).ob,
      fun w e => (g_call _ E_whole_FromInt64 rfl (whole_FromInt64_c (n := 1) (up4.ext e.size) (by omega) (by omega))).ob (st_at _ _ _), trivial⟩ ?_
    intro w5 e5 x2 hx2
    have hA : (eZn L).R T w5 (.agg #[.bool q.num.neg, s]) (zval q.num) := ⟨q.num, hn4.ext e5, rfl, hl.1⟩
    have h1 : (eZn L).R T w5 x2 1 := Zv.of hx2 (by have : 4294967296 ^ 1 ≤ 4294967296 ^ L := Nat.pow_le_pow_right (by omega) hL; show 1 < _; omega)
    refine .storeA (E := eZn L) ty_Z rfl rfl (k2.ext e5) rfl rfl hA hS2 fun w6 k6 u6 h6 => ?_
    refine .storeA (E := eZn L) ty_Z rfl rfl ((k3.ext e5).upd u6 hne23) rfl rfl (h1.upd u6 hS2) hS3 fun w7 k7 u7 h7 => .nil (.ret ?_)
    refine fin2 (u7.below (u6.below (x4.trans e5) (by omega)) (by omega)) (k6.upd u7 (Ne.symm hne23)) k7 (h6.upd u7 hS3) h7 ?_ ?_ rfl rfl
    · unfold pn; rw [h0]; simp
    · unfold pd; rw [h0]; simp
  · have hs0 : (zval q.den).sign ≠ 0 := fun h => h0 (Int.sign_eq_zero_iff_zero.1 h)
    refine .eqlF rfl rfl rfl hs0 (.asg rfl rfl (.nil (.condF rfl (.seq (.region ?_)))))
    by_cases h1 : zval q.den < 0
    · refine .eqlT rfl rfl rfl (Int.sign_eq_neg_one_of_neg h1) (.asg rfl rfl (.nil (.condT rfl (.seq ?_))))
      refine .held follows true (fun W => Blk W b1 28 #[.bool q.num.neg, s, .bool q.den.neg, t]) [some _, some (.agg #[.bool q.num.neg, s]), none, some _, some (.agg #[.bool q.den.neg, t]), none, none, none] (by kernel_rfl) ⟨
        fun _ _ => v_fa fld_Q0 rfl,
        fun _ h => v_ldN [.bool q.num.neg, s] ty_Z rfl h (by intro j u hu; match j with | 0 => exact hu | 1 => exact hu | j + 2 => simp at hu),
        fun _ _ => v_fa fld_Q1 rfl,
        fun _ h => v_ldN [.bool q.den.neg, t] ty_Z rfl h (by intro j u hu; match j with | 0 => exact hu | 1 => exact hu | j + 2 => simp at hu), trivial⟩ ?_
      intro w5 e5 _
      refine .gv (k1.ext e5) rfl (g_call _ E_whole_Neg rfl (whole_Neg_c (up4.ext e5.size) (hn4.ext e5) (Nat.le_trans hl.1 (by omega)))) ?_
      rintro vn w6 ⟨e6, hvn⟩
      have e56 := e5.trans e6
      refine .gv (k1.ext e56) rfl (g_call _ E_whole_Neg rfl (whole_Neg_c (up4.ext e56.size) (hd4.ext e56) (Nat.le_trans hl.2 (by omega)))) ?_
      rintro vd w7 ⟨e7, hvd⟩
      have e57 := e56.trans e7
      have hA : (eZn L).R T w7 vn (-zval q.num) := Zv.of (hvn.ext e7) (by have := zval_lt hdn hl.1; omega)
      have hB : (eZn L).R T w7 vd (-zval q.den) := Zv.of hvd (by have := zval_lt hdd hl.2; omega)
      have hca := (eZn L).csz hA
      have hcb := (eZn L).csz hB
      refine .gv (k1.ext e57) rfl (g_store ty_Z rfl rfl (k2.ext e57) hca (Nat.le_refl _) ((eZn L).one hA)) ?_
      rintro _ w8 ⟨k8, u8⟩
      rw [wrt_all _ _ (by rw [Array.length_toList, hca]; rfl)] at k8
      refine .gv ((k1.ext e57).upd u8 hne21) rfl (g_store ty_Z rfl rfl ((k3.ext e57).upd u8 hne23) hcb (Nat.le_refl _) ((eZn L).one hB)) ?_
      rintro _ w9 ⟨k9, u9⟩
      rw [wrt_all _ _ (by rw [Array.length_toList, hcb]; rfl)] at k9
      refine .nil (.inl rfl) (.ret ?_)
      simp only [Array.toArray_toList] at k8 k9
      refine fin2 (u9.below (u8.below (x4.trans e57) (by omega)) (by omega)) (k8.upd u9 (Ne.symm hne23)) k9 ((hA.upd u8 hS2).upd u9 hS3) ((hB.upd u8 hS2).upd u9 hS3) ?_ ?_ rfl rfl
      · unfold pn; rw [if_pos h1]
      · unfold pd; rw [if_neg h0, if_pos h1]
    · have hs1 : (zval q.den).sign ≠ -1 := by rw [Int.sign_eq_one_of_pos (by omega)]; decide
      refine .eqlF rfl rfl rfl hs1 (.asg rfl rfl (.nil (.condF rfl (.skip (.seq ?_)))))
      refine .held follows true (fun W => Blk W b1 28 #[.bool q.num.neg, s, .bool q.den.neg, t]) [some _, some (.agg #[.bool q.num.neg, s]), some _, some (.agg #[.bool q.den.neg, t]), none, none] (by kernel_rfl) ⟨
        fun _ _ => v_fa fld_Q0 rfl,
        fun _ h => v_ldN [.bool q.num.neg, s] ty_Z rfl h (by intro j u hu; match j with | 0 => exact hu | 1 => exact hu | j + 2 => simp at hu),
        fun _ _ => v_fa fld_Q1 rfl,
        fun _ h => v_ldN [.bool q.den.neg, t] ty_Z rfl h (by intro j u hu; match j with | 0 => exact hu | 1 => exact hu | j + 2 => simp at hu), trivial⟩ ?_
      intro w7 e57 _
      have hA : (eZn L).R T w7 (.agg #[.bool q.num.neg, s]) (zval q.num) := ⟨q.num, hn4.ext e57, rfl, hl.1⟩
      have hB : (eZn L).R T w7 (.agg #[.bool q.den.neg, t]) (zval q.den) := ⟨q.den, hd4.ext e57, rfl, hl.2⟩
      have hca := (eZn L).csz hA
      have hcb := (eZn L).csz hB
      refine .gv (k1.ext e57) rfl (g_store ty_Z rfl rfl (k2.ext e57) hca (Nat.le_refl _) ((eZn L).one hA)) ?_
      rintro _ w8 ⟨k8, u8⟩
      rw [wrt_all _ _ (by rw [Array.length_toList, hca]; rfl)] at k8
      refine .gv ((k1.ext e57).upd u8 hne21) rfl (g_store ty_Z rfl rfl ((k3.ext e57).upd u8 hne23) hcb (Nat.le_refl _) ((eZn L).one hB)) ?_
      rintro _ w9 ⟨k9, u9⟩
      rw [wrt_all _ _ (by rw [Array.length_toList, hcb]; rfl)] at k9
      refine .nil (.inl rfl) (.ret ?_)
      simp only [Array.toArray_toList] at k8 k9
      refine fin2 (u9.below (u8.below (x4.trans e57) (by omega)) (by omega)) (k8.upd u9 (Ne.symm hne23)) k9 ((hA.upd u8 hS2).upd u9 hS3) ((hB.upd u8 hS2).upd u9 hS3) ?_ ?_ rfl rfl
      · unfold pn; rw [if_neg h1]
      · unfold pd; rw [if_neg h0, if_neg h1]

def shortB (q : QV) : Bool := decide (-2147483648 < zval q.num ∧ zval q.num < 2147483648 ∧ -2147483648 < zval q.den ∧ zval q.den < 2147483648)
def shortV (q : QV) : Value := if shortB q then .tuple #[.int .i64 (pn q), .int .i64 (pd q), .bool true] else .tuple #[.int .i64 0, .int .i64 0, .bool false]

theorem E_frac_short : Ent Tryz.prog 89 := ent_of Tryz.func89 (by kernel_rfl) rfl
theorem frac_short_c {S : Nat → Prop} {w : World} {v : Value} {q : QV} (h : eQ.R S w v q) : CR Tryz.prog 89 #[v] w (Is (shortV q)) := by
  obtain ⟨s, t, rfl, hn, hd⟩ := eQ_parts h
  refine enter Tryz.func89 rfl Tryz.ntmps89 rfl ?_
  refine .seq (.region (.box rfl rfl fun w1 b1 n1 => .asg rfl rfl (.asg rfl rfl (.asg rfl rfl (.nil ?_)))))
  obtain ⟨e1, k1, hb1, hs1⟩ := n1
  refine .seq (.region (.fa fld_Q0 rfl rfl (.ldN [.bool q.num.neg, s] ty_Z rfl rfl k1 (by intro j u hu; match j with | 0 => exact hu | 1 => exact hu | j + 2 => simp at hu) ?_)))
  refine .call _ rfl E_whole_Int64 rfl (whole_Int64_c (hn.ext e1)) fun v2 w2 e2 h2 => ?_
  subst h2
  refine .mv rfl rfl (.ext rfl rfl rfl (.ext rfl rfl rfl (.asg rfl rfl (.asg rfl rfl (.nil ?_)))))
  have x2 := e1.trans e2
  refine .seq (.region (.fa fld_Q1 rfl rfl (.ldN [.bool q.den.neg, t] ty_Z rfl rfl (k1.ext e2) (by intro j u hu; match j with | 0 => exact hu | 1 => exact hu | j + 2 => simp at hu) ?_)))
  refine .call _ rfl E_whole_Int64 rfl (whole_Int64_c (hd.ext x2)) fun v3 w3 e3 h3 => ?_
  subst h3
  refine .mv rfl rfl (.ext rfl rfl rfl (.ext rfl rfl rfl (.asg rfl rfl (.asg rfl rfl (.nil ?_)))))
  have x3 := x2.trans e3
  have hF : ∀ {W : World}, shortB q = false → Is (shortV q) (tup [.int .i64 0, .int .i64 0, .bool false]) W := by
    intro W h; unfold shortV; rw [h]; rfl
  refine .seq (.seq (.region (.mv rfl rfl (.not_ rfl rfl (.mv rfl rfl ?_)))))
  by_cases hno : i64ok (zval q.num) = true
  · rw [hno]
    refine .gr rfl rfl rfl rfl (.mv rfl rfl (.gr rfl rfl rfl rfl (.not_ rfl rfl (.pick rfl rfl rfl (.mv rfl rfl ?_)))))
    by_cases hdo : i64ok (zval q.den) = true
    · rw [hdo]
      have en : i64v (zval q.num) = zval q.num := by rw [i64v, hno]; rfl
      have ed : i64v (zval q.den) = zval q.den := by rw [i64v, hdo]; rfl
      rw [en, ed]
      refine .gr rfl rfl rfl rfl (.mv rfl rfl (.gr rfl rfl rfl rfl ?_))
      by_cases h1 : zval q.num ≤ -2147483648
      · refine .leqT rfl rfl rfl h1 (.pick rfl rfl rfl (.mv rfl rfl (.gs rfl rfl rfl rfl rfl (.gs rfl rfl rfl rfl rfl (.pick rfl rfl rfl (.mv rfl rfl (.gs rfl rfl rfl rfl rfl (.gs rfl rfl rfl rfl rfl (.pick rfl rfl rfl (.mv rfl rfl (.gs rfl rfl rfl rfl rfl (.gs rfl rfl rfl rfl rfl (.pick rfl rfl rfl (.nil (.condT rfl (.seq (.region (.asg rfl rfl (.asg rfl rfl (.asg rfl rfl (.nil (.ret ?_))))))))))))))))))))))
        exact .plain [_, _, _] Tryz.results89 ⟨rfl, rfl, rfl, trivial⟩ ⟨x3, hF (by simp [shortB]; omega)⟩
      refine .leqF rfl rfl rfl h1 (.pick rfl rfl rfl (.mv rfl rfl (.gr rfl rfl rfl rfl (.mv rfl rfl (.gr rfl rfl rfl rfl ?_)))))
      by_cases h2 : 2147483648 ≤ zval q.num
      · refine .geqT rfl rfl rfl h2 (.pick rfl rfl rfl (.mv rfl rfl (.gs rfl rfl rfl rfl rfl (.gs rfl rfl rfl rfl rfl (.pick rfl rfl rfl (.mv rfl rfl (.gs rfl rfl rfl rfl rfl (.gs rfl rfl rfl rfl rfl (.pick rfl rfl rfl (.nil (.condT rfl (.seq (.region (.asg rfl rfl (.asg rfl rfl (.asg rfl rfl (.nil (.ret ?_))))))))))))))))))
        exact .plain [_, _, _] Tryz.results89 ⟨rfl, rfl, rfl, trivial⟩ ⟨x3, hF (by simp [shortB]; omega)⟩
      refine .geqF rfl rfl rfl h2 (.pick rfl rfl rfl (.mv rfl rfl (.gr rfl rfl rfl rfl (.mv rfl rfl (.gr rfl rfl rfl rfl ?_)))))
      by_cases h3 : zval q.den ≤ -2147483648
      · refine .leqT rfl rfl rfl h3 (.pick rfl rfl rfl (.mv rfl rfl (.gs rfl rfl rfl rfl rfl (.gs rfl rfl rfl rfl rfl (.pick rfl rfl rfl (.nil (.condT rfl (.seq (.region (.asg rfl rfl (.asg rfl rfl (.asg rfl rfl (.nil (.ret ?_))))))))))))))
        exact .plain [_, _, _] Tryz.results89 ⟨rfl, rfl, rfl, trivial⟩ ⟨x3, hF (by simp [shortB]; omega)⟩
      refine .leqF rfl rfl rfl h3 (.pick rfl rfl rfl (.mv rfl rfl (.gr rfl rfl rfl rfl (.mv rfl rfl (.gr rfl rfl rfl rfl ?_)))))
      by_cases h4 : 2147483648 ≤ zval q.den
      · refine .geqT rfl rfl rfl h4 (.pick rfl rfl rfl (.nil (.condT rfl (.seq (.region (.asg rfl rfl (.asg rfl rfl (.asg rfl rfl (.nil (.ret ?_))))))))))
        exact .plain [_, _, _] Tryz.results89 ⟨rfl, rfl, rfl, trivial⟩ ⟨x3, hF (by simp [shortB]; omega)⟩
      refine .geqF rfl rfl rfl h4 (.pick rfl rfl rfl (.nil (.condF rfl (.skip ?_))))
      have hb : shortB q = true := by simp [shortB]; omega
      have hT : ∀ {W : World} {m n : Int}, m = pn q → n = pd q → Is (shortV q) (tup [.int .i64 m, .int .i64 n, .bool true]) W := by
        intro W m n hm hn; subst hm; subst hn; unfold shortV; rw [hb]; rfl
      refine .mid (α := Unit) (fun _ => [(2, .int .i64 (pn q)), (3, .int .i64 (pd q))]) (fun _ W => W = w3) ?_ ?_
      · refine .block (.seq (.region (.mv rfl rfl ?_)))
        by_cases h0 : zval q.den = 0
        · refine .eqlT rfl rfl rfl h0 (.asg rfl rfl (.nil (.condT rfl (.region (.asg rfl rfl (.nil ?_))))))
          have e1 : pn q = zval q.num := by unfold pn; rw [if_neg (by omega)]
          have e2 : pd q = 1 := by unfold pd; rw [if_pos h0]
          rw [e1, e2]
          exact ⟨rfl, (), look_cons rfl (look_cons rfl look_nil), rfl⟩
        · refine .eqlF rfl rfl rfl h0 (.asg rfl rfl (.nil (.condF rfl (.seq (.region (.mv rfl rfl ?_))))))
          by_cases h5 : zval q.den < 0
          · refine .lssT rfl rfl rfl h5 (.asg rfl rfl (.nil (.condT rfl (.region (.mv rfl rfl (.neg rfl rfl (.mv rfl rfl (.neg rfl rfl (.asg rfl rfl (.asg rfl rfl (.nil ?_))))))))))) 
            have e1 : pn q = -zval q.num := by unfold pn; rw [if_pos h5]
            have e2 : pd q = -zval q.den := by unfold pd; rw [if_neg h0, if_pos h5]
            rw [e1, e2, wI (n := 0 - zval q.num) (by omega), wI (n := 0 - zval q.den) (by omega), Int.zero_sub, Int.zero_sub]
            exact ⟨rfl, (), look_cons rfl (look_cons rfl look_nil), rfl⟩
          · refine .lssF rfl rfl rfl h5 (.asg rfl rfl (.nil (.condF rfl (.skip ?_))))
            have e1 : pn q = zval q.num := by unfold pn; rw [if_neg h5]
            have e2 : pd q = zval q.den := by unfold pd; rw [if_neg h0, if_neg h5]
            rw [e1, e2]
            exact ⟨rfl, (), look_cons rfl (look_cons rfl look_nil), rfl⟩
      · rintro _ _ rfl
        refine .seq (.region (.mv rfl rfl (.mv rfl rfl (.asg rfl rfl (.asg rfl rfl (.asg rfl rfl (.nil (.ret ?_))))))))
        exact .plain [_, _, _] Tryz.results89 ⟨rfl, rfl, rfl, trivial⟩ ⟨x3, hT rfl rfl⟩
    · have hdo' : i64ok (zval q.den) = false := by simpa using hdo
      rw [hdo']
      refine .gs rfl rfl rfl rfl rfl (.gs rfl rfl rfl rfl rfl (.pick rfl rfl rfl (.mv rfl rfl (.gs rfl rfl rfl rfl rfl (.gs rfl rfl rfl rfl rfl (.pick rfl rfl rfl (.mv rfl rfl (.gs rfl rfl rfl rfl rfl (.gs rfl rfl rfl rfl rfl (.pick rfl rfl rfl (.mv rfl rfl (.gs rfl rfl rfl rfl rfl (.gs rfl rfl rfl rfl rfl (.pick rfl rfl rfl (.nil (.condT rfl (.seq (.region (.asg rfl rfl (.asg rfl rfl (.asg rfl rfl (.nil (.ret ?_)))))))))))))))))))))))
      exact .plain [_, _, _] Tryz.results89 ⟨rfl, rfl, rfl, trivial⟩ ⟨x3, hF (by simp [i64ok] at hdo'; simp [shortB]; omega)⟩
  · have hno' : i64ok (zval q.num) = false := by simpa using hno
    rw [hno']
    refine .gs rfl rfl rfl rfl rfl (.gs rfl rfl rfl rfl rfl (.pick rfl rfl rfl (.mv rfl rfl (.gs rfl rfl rfl rfl rfl (.gs rfl rfl rfl rfl rfl (.pick rfl rfl rfl (.mv rfl rfl (.gs rfl rfl rfl rfl rfl (.gs rfl rfl rfl rfl rfl (.pick rfl rfl rfl (.mv rfl rfl (.gs rfl rfl rfl rfl rfl (.gs rfl rfl rfl rfl rfl (.pick rfl rfl rfl (.mv rfl rfl (.gs rfl rfl rfl rfl rfl (.gs rfl rfl rfl rfl rfl (.pick rfl rfl rfl (.nil (.condT rfl (.seq (.region (.asg rfl rfl (.asg rfl rfl (.asg rfl rfl (.nil (.ret ?_)))))))))))))))))))))))))))
    exact .plain [_, _, _] Tryz.results89 ⟨rfl, rfl, rfl, trivial⟩ ⟨x3, hF (by simp [i64ok] at hno'; simp [shortB]; omega)⟩
end Go.Proofs.YtgghedhmjhaieaaGreat

namespace Go.Proofs.YtgghedhmjhaieaaGreat
open Go Go.Kx Go.RowKit

theorem tdiv_gcd {n g : Int} (h : g ∣ n) : n.tdiv g = n / g := Int.tdiv_eq_ediv_of_dvd h
theorem ediv_abs_le (n g : Int) : (n / g).natAbs ≤ n.natAbs := Int.natAbs_ediv_le_natAbs n g

theorem E_frac_ratio : Ent Tryz.prog 90 := ent_of Tryz.func90 (by kernel_rfl) rfl
theorem frac_ratio_c {S : Nat → Prop} {w : World} {n d : Int} (up : Up S w) (hd : 0 < d) (hd2 : d ≤ 9223372036854775807) (hn1 : -9223372036854775807 ≤ n) (hn2 : n ≤ 9223372036854775807) :
    CR Tryz.prog 90 #[.int .i64 n, .int .i64 d] w (eQ.at S (qc (Rat.divInt n d))) := by
  have hdvd1 : ((Nat.gcd n.natAbs d.natAbs : Nat) : Int) ∣ n := Int.ofNat_dvd_left.2 (Nat.gcd_dvd_left _ _)
  have hdvd2 : ((Nat.gcd n.natAbs d.natAbs : Nat) : Int) ∣ d := Int.ofNat_dvd_left.2 (Nat.gcd_dvd_right _ _)
  have hG0 : 0 < Nat.gcd n.natAbs d.natAbs := Nat.gcd_pos_of_pos_right _ (by omega)
  have hGd : Nat.gcd n.natAbs d.natAbs ≤ d.natAbs := Nat.gcd_le_right _ (by omega)
  have hqc := qc_divInt (n := n) hd
  refine enter Tryz.func90 rfl Tryz.ntmps90 rfl ?_
  refine .seq (.region (.alloc rfl zero_Q fun w1 b1 n1 => .nil ?_))
  obtain ⟨e1, k1, hb1, hs1⟩ := n1
  have hS : ¬ Sx S w.heap.size w1.heap.size b1 := Sx.no (by omega) (by omega)
  have up1 : Up (Sx S w.heap.size w1.heap.size) w1 := Sx.up up (Nat.le_refl _) e1.size
  have hout : ∀ {W : World} {v : Value} {z : QV}, eQ.R (Sx S w.heap.size w1.heap.size) W v z → eQ.R S W v z := fun h => h.out
  generalize hT : Sx S w.heap.size w1.heap.size = T at *
  refine .seq (.region (.mv rfl rfl (.mv rfl rfl (.asg rfl rfl (.asg rfl rfl (.nil ?_))))))
  refine .mid (α := Int) (fun m => [(0, .int .i64 n), (1, .int .i64 d), (4, .pointer (some ⟨b1, 0, none⟩)), (5, .int .i64 m)]) (fun m W => Ext w1 W ∧ m.natAbs = Nat.gcd n.natAbs d.natAbs) ?_ ?_
  · refine .block (.loop (α := Int × Int) (fun x => [(0, .int .i64 n), (1, .int .i64 d), (4, .pointer (some ⟨b1, 0, none⟩)), (5, .int .i64 x.1), (6, .int .i64 x.2)]) (fun x W => Ext w1 W ∧ Nat.gcd x.1.natAbs x.2.natAbs = Nat.gcd n.natAbs d.natAbs) (fun x => x.2.natAbs) (n, d) ?_ ?_ ?_)
    · exact look_cons rfl (look_cons rfl (look_cons rfl (look_cons rfl (look_cons rfl look_nil))))
    · exact ⟨.refl _, rfl⟩
    · rintro ⟨p, q⟩ W ⟨hW, hg⟩
      replace hg : Nat.gcd p.natAbs q.natAbs = Nat.gcd n.natAbs d.natAbs := hg
      by_cases hq : q = 0
      · subst hq
        refine .seq (.seq (.region (.mv rfl rfl (.neqF rfl rfl rfl rfl (.nil (.condF rfl (.exit ?_)))))))
        refine ⟨rfl, p, look_cons rfl (look_cons rfl (look_cons rfl (look_cons rfl look_nil))), hW, ?_⟩
        rw [← hg]; simp
      · refine .seq (.seq (.region (.mv rfl rfl (.neqT rfl rfl rfl hq (.nil (.condT rfl (.skip (.block ?_))))))))
        refine .par follows 5 [.inl (.int .i64 q), .inl (.int .i64 p), .inl (.int .i64 q), .inl (.int .i64 (p.tmod q)), .inl (.int .i64 q)] [[], [], [], [(12, 1), (13, 2)], [(11, 0)]] (by kernel_rfl) ⟨
          fun w e => (v_mv rfl).ob,
          fun w e => (v_mv rfl).ob,
          fun w e => (v_mv rfl).ob,
          fun w e => (v_rem rfl rfl hq).ob,
          fun w e => (v_as rfl).ob, trivial⟩ ?_
        intro w2 e2
        refine .asg rfl rfl (.nil ?_)
        have hmod : (p.tmod q).natAbs = p.natAbs % q.natAbs := Int.natAbs_tmod p q
        refine ⟨rfl, (q, p.tmod q), look_cons rfl (look_cons rfl (look_cons rfl (look_cons rfl (look_cons rfl look_nil)))), ⟨hW.trans e2, ?_⟩, ?_⟩
        · show Nat.gcd q.natAbs (p.tmod q).natAbs = _
          rw [hmod, ← hg, Nat.gcd_comm p.natAbs, Nat.gcd_rec q.natAbs p.natAbs, Nat.gcd_comm]
        · show (p.tmod q).natAbs < q.natAbs
          rw [hmod]; exact Nat.mod_lt _ (by omega)
  · rintro m W ⟨hW, hm⟩
    generalize hG : Nat.gcd n.natAbs d.natAbs = G at *
    refine .mid (α := Unit) (fun _ => [(0, .int .i64 n), (1, .int .i64 d), (4, .pointer (some ⟨b1, 0, none⟩)), (5, .int .i64 (G : Nat))]) (fun _ W' => W' = W) ?_ ?_
    · refine .seq (.region (.mv rfl rfl ?_))
      by_cases h0 : m < 0
      · refine .lssT rfl rfl rfl h0 (.nil (.condT rfl (.region (.mv rfl rfl (.neg rfl rfl ?_)))))
        rw [wI (n := 0 - m) (by omega), show 0 - m = (G : Int) by omega]
        exact .asg rfl rfl (.nil ⟨rfl, (), look_cons rfl (look_cons rfl (look_cons rfl (look_cons rfl look_nil))), rfl⟩)
      · refine .lssF rfl rfl rfl h0 (.nil (.condF rfl (.skip ?_)))
        have : m = (G : Int) := by omega
        subst this
        exact ⟨rfl, (), look_cons rfl (look_cons rfl (look_cons rfl (look_cons rfl look_nil))), rfl⟩
    · rintro _ _ rfl
      have upW := up1.ext hW.size
      have kW := k1.ext hW
      have hr1 : IntKind.i64.wrap (n.tdiv (G : Int)) = n / (G : Int) := by
        rw [tdiv_gcd hdvd1]
        have := ediv_abs_le n G
        exact wI (by omega)
      have hr2 : IntKind.i64.wrap (d.tdiv (G : Int)) = d / (G : Int) := by
        rw [tdiv_gcd hdvd2]
        have := ediv_abs_le d G
        exact wI (by omega)
      have hb1 := ediv_abs_le n G
      have hb2 := ediv_abs_le d G
      have hdG : G * (d / (G : Int)) = d := Int.mul_ediv_cancel' hdvd2
      refine .seq (.seq (.region (.mv rfl rfl (.mv rfl rfl ?_))))
      by_cases hGd' : (G : Int) = d
      · refine .eqlT rfl rfl rfl hGd' (.nil (.condT rfl (.seq (.region (.mv rfl rfl (.mv rfl rfl (.quo rfl rfl rfl (by omega) ?_)))))))
        rw [hr1]
        refine .call _ rfl E_whole_FromInt64 rfl (whole_FromInt64_c upW (by omega) (by omega)) fun v2 w2 e2 h2 => ?_
        obtain ⟨s, rfl, hs⟩ := h2
        refine .bld _ rfl rfl bld_Q1 ?_
        have hq : eQ.R T w2 (.agg #[.bool (zc (n / (G : Int))).neg, s, .bool false, .slice none 0 0]) (qc (Rat.divInt n d)) := by
          rw [hqc, if_pos (by rw [hGd']; exact Int.ediv_self (by omega))]
          exact ⟨s, _, rfl, hs, RL.nil⟩
        refine .storeA (E := eQ) ty_Q rfl rfl (kW.ext e2) rfl rfl hq hS fun w3 k3 u3 h3 => .nil (.ret ?_)
        exact .cell Tryz.results90 rfl ty_Q rfl rfl k3 h3 ⟨u3.below ((e1.trans hW).trans e2) (by omega), hout h3⟩
      · refine .eqlF rfl rfl rfl hGd' (.nil (.condF rfl (.skip (.seq ?_))))
        have hne1 : ¬ d / (G : Int) = 1 := fun h => hGd' (by rw [h, Int.mul_one] at hdG; exact hdG)
        refine .par follows 9 [.inl _, .inl _, .inl (.int .i64 (n / (G : Int))), .inr (eZ.at T (zc (n / (G : Int)))), .inl _, .inl _, .inl (.int .i64 (d / (G : Int))), .inr (eZ.at T (zc (d / (G : Int)))), .inr (eQ.at T (qc (Rat.divInt n d)))] [[], [], [(27, 0), (28, 1)], [(29, 2)], [], [], [(31, 4), (32, 5)], [(33, 6)], [(30, 3), (34, 7)]] (by kernel_rfl) ⟨
          fun w e => (v_mv rfl).ob,
          fun w e => (v_mv rfl).ob,
          fun w e => ((v_quo rfl rfl (by omega)).eq (by rw [hr1])).ob,
          fun w e => (g_call _ E_whole_FromInt64 rfl (whole_FromInt64_c (upW.ext e.size) (by omega) (by omega))).ob (st_at _ _ _),
          fun w e => (v_mv rfl).ob,
          fun w e => (v_mv rfl).ob,
          fun w e => ((v_quo rfl rfl (by omega)).eq (by rw [hr2])).ob,
          fun w e => (g_call _ E_whole_FromInt64 rfl (whole_FromInt64_c (upW.ext e.size) (by omega) (by omega))).ob (st_at _ _ _),
          fun w e x3 hx3 x7 hx7 => by
            obtain ⟨s, rfl, hs⟩ := hx3
            obtain ⟨t, rfl, ht⟩ := hx7
            refine ob_vl (v_bld _ rfl bld_Q2) ?_ (st_at _ _ _)
            rw [hqc, if_neg hne1]
            exact ⟨s, t, rfl, hs, ht⟩, trivial⟩ ?_
        intro w2 e2 x3 hx3 x7 hx7 x8 hx8
        refine .storeA (E := eQ) ty_Q rfl rfl (kW.ext e2) rfl rfl hx8 hS fun w3 k3 u3 h3 => .nil (.ret ?_)
        exact .cell Tryz.results90 rfl ty_Q rfl rfl k3 h3 ⟨u3.below ((e1.trans hW).trans e2) (by omega), hout h3⟩

theorem zv_divisor {m n : Int} (hn : n ≠ 0) : zval (zc ((Nat.gcd m.natAbs n.natAbs : Nat) : Int)) ≠ 0 := by
  rw [zval_zc]
  have := Nat.gcd_pos_of_pos_right m.natAbs (show 0 < n.natAbs by omega)
  omega

theorem E_frac_reduce : Ent Tryz.prog 91 := ent_of Tryz.func91 (by kernel_rfl) rfl
theorem frac_reduce_c {S : Nat → Prop} {w : World} {vm vn : Value} {m n : Int} {L : Nat} (up : Up S w) (hm : Zv S m L vm w) (hn : Zv S n L vn w) (hn0 : n ≠ 0) (hL : L ≤ 1000000000000) :
    CR Tryz.prog 91 #[vm, vn] w (eQ.at S (qc (Rat.divInt m n))) := by
  replace hm : (eZn L).R S w vm m := hm
  replace hn : (eZn L).R S w vn n := hn
  refine enter Tryz.func91 rfl Tryz.ntmps91 rfl ?_
  refine .seq (.region (.box rfl rfl fun w1 b2 n1 => .box rfl rfl fun w2 b3 n2 => .alloc rfl zero_Q fun w3 b4 n3 => .nil ?_))
  obtain ⟨e1, k2, hb2, hs1⟩ := n1
  obtain ⟨e2, k3, hb3, hs2⟩ := n2
  obtain ⟨e3, k4, hb4, hs3⟩ := n3
  have x3 := (e1.trans e2).trans e3
  have k2 := (k2.ext e2).ext e3
  have k3 := k3.ext e3
  have hS2 : ¬ Sx S w.heap.size w3.heap.size b2 := Sx.no (by omega) (by omega)
  have hS3 : ¬ Sx S w.heap.size w3.heap.size b3 := Sx.no (by omega) (by omega)
  have hS4 : ¬ Sx S w.heap.size w3.heap.size b4 := Sx.no (by omega) (by omega)
  have up3 : Up (Sx S w.heap.size w3.heap.size) w3 := Sx.up up (Nat.le_refl _) x3.size
  have hm3 := (hm.par w3.heap.size).ext x3
  have hn3 := (hn.par w3.heap.size).ext x3
  have hout : ∀ {W : World} {v : Value} {z : QV}, eQ.R (Sx S w.heap.size w3.heap.size) W v z → eQ.R S W v z := fun h => h.out
  have hne32 : b3 ≠ b2 := by omega
  have hne42 : b4 ≠ b2 := by omega
  have hne43 : b4 ≠ b3 := by omega
  have hw2 : w.heap.size ≤ b2 := by omega
  have hw3 : w.heap.size ≤ b3 := by omega
  have hw4 : w.heap.size ≤ b4 := by omega
  have hc2 : b2 < w3.heap.size := by omega
  have hc3 : b3 < w3.heap.size := by omega
  have hc4 : b4 < w3.heap.size := by omega
  clear hb2 hb3 hb4
  generalize hT : Sx S w.heap.size w3.heap.size = T at *
  refine .mid (α := (Value × Int) × (Value × Int)) (fun _ => [(2, .pointer (some ⟨b2, 0, none⟩)), (3, .pointer (some ⟨b3, 0, none⟩)), (4, .pointer (some ⟨b4, 0, none⟩))])
    (fun x W => Below w.heap.size w W ∧ w3.heap.size ≤ W.heap.size ∧ Blk W b2 26 x.1.1.cells ∧ Blk W b3 26 x.2.1.cells ∧ Blk W b4 28 #[.bool false, .slice none 0 0, .bool false, .slice none 0 0] ∧ (eZn L).R T W x.1.1 x.1.2 ∧ (eZn L).R T W x.2.1 x.2.2 ∧ 0 < x.2.2 ∧ Rat.divInt x.1.2 x.2.2 = Rat.divInt m n) ?_ ?_
  · obtain ⟨zn, hzn, hznv, hznl⟩ := hn3
    obtain ⟨zm, hzm, hzmv, hzml⟩ := hm3
    have hvn := shpA rfl hzn
    have hvm := shpA rfl hzm
    refine .seq (.region (.ldA ty_Z rfl rfl k3 (eZ.csz hzn) ?_))
    rw [← hvn]
    refine .call _ rfl E_whole_Sign rfl (whole_Sign_c hzn) fun v4 w4 e4 h4 => ?_
    subst h4
    rw [hznv]
    have x4 := x3.trans e4
    have k2 := k2.ext e4
    have k3 := k3.ext e4
    have k4 := k4.ext e4
    have up4 := up3.ext e4.size
    have hzn4 := hzn.ext e4
    have hzm4 := hzm.ext e4
    have hdn := eZ_dig hzn
    have hdm := eZ_dig hzm
    by_cases h0 : n < 0
    · refine .lssT rfl rfl rfl (by rw [Int.sign_eq_neg_one_of_neg h0]; decide) (.nil (.condT rfl ?_))
      refine .par follows 4 [.inl vm, .inr (eZ.at T (zc (-zval zm))), .inl vn, .inr (eZ.at T (zc (-zval zn)))] [[], [(11, 0)], [], [(13, 2)]] (by kernel_rfl) ⟨
        fun w e => ((v_ldA ty_Z rfl (k2.ext e) (eZ.csz hzm)).eq hvm.symm).ob,
        fun w e => (g_call _ E_whole_Neg rfl (whole_Neg_c (up4.ext e.size) (hzm4.ext e) (by omega))).ob (st_at _ _ _),
        fun w e => ((v_ldA ty_Z rfl (k3.ext e) (eZ.csz hzn)).eq hvn.symm).ob,
        fun w e => (g_call _ E_whole_Neg rfl (whole_Neg_c (up4.ext e.size) (hzn4.ext e) (by omega))).ob (st_at _ _ _), trivial⟩ ?_
      intro w5 e5 x1 hx1 x3' hx3
      have hA : (eZn L).R T w5 x1 (-m) := by rw [← hzmv]; exact Zv.of hx1 (by have := zval_lt hdm hzml; omega)
      have hB : (eZn L).R T w5 x3' (-n) := by rw [← hznv]; exact Zv.of hx3 (by have := zval_lt hdn hznl; omega)
      refine .storeA (E := eZn L) ty_Z rfl rfl (k2.ext e5) rfl (eZ.csz hzm) hA hS2 fun w6 k6 u6 h6 => ?_
      refine .storeA (E := eZn L) ty_Z rfl rfl ((k3.ext e5).upd u6 hne32) rfl (eZ.csz hzn) (hB.upd u6 hS2) hS3 fun w7 k7 u7 h7 => .nil ?_
      refine ⟨rfl, ((x1, -m), (x3', -n)), look_cons rfl (look_cons rfl (look_cons rfl look_nil)), u7.below (u6.below (x4.trans e5) hw2) hw3, ?_, k6.upd u7 (Ne.symm hne32), k7, ((k4.ext e5).upd u6 hne42).upd u7 hne43, h6.upd u7 hS3, h7, by show 0 < -n; omega, Rat.neg_divInt_neg m n⟩
      rw [u7.size, u6.size]; exact (e4.trans e5).size
    · refine .lssF rfl rfl rfl (by rw [Int.sign_eq_one_of_pos (by omega)]; decide) (.nil (.condF rfl (.skip ?_)))
      exact ⟨rfl, ((vm, m), (vn, n)), look_cons rfl (look_cons rfl (look_cons rfl look_nil)), x4, e4.size, k2, k3, k4, ⟨zm, hzm4, hzmv, hzml⟩, ⟨zn, hzn4, hznv, hznl⟩, by show 0 < n; omega, rfl⟩
  · rintro ⟨⟨um, m'⟩, ⟨un, n'⟩⟩ W ⟨hB, hsz, k2, k3, k4, hm, hn, hpos, hdiv⟩
    replace hm : (eZn L).R T W um m' := hm
    replace hn : (eZn L).R T W un n' := hn
    replace hpos : 0 < n' := hpos
    replace hdiv : Rat.divInt m' n' = Rat.divInt m n := hdiv
    rw [← hdiv]
    replace k2 : Blk W b2 26 um.cells := k2
    replace k3 : Blk W b3 26 un.cells := k3
    have upW := up3.ext hsz
    obtain ⟨zn, hzn, hznv, hznl⟩ := hn
    obtain ⟨zm, hzm, hzmv, hzml⟩ := hm
    have hvn := shpA rfl hzn
    have hvm := shpA rfl hzm
    have hdn := eZ_dig hzn
    have hdm := eZ_dig hzm
    refine .seq (.region (.ldA ty_Z rfl rfl k2 (eZ.csz hzm) (.ldA ty_Z rfl rfl k3 (eZ.csz hzn) ?_)))
    rw [← hvn, ← hvm]
    refine .call _ rfl E_whole_GCD rfl (whole_GCD_c upW hzm hzn (by omega) (by omega)) fun vg w5 e5 h5 => ?_
    have hgv : Nat.gcd (val zm.w) (val zn.w) = Nat.gcd m'.natAbs n'.natAbs := by rw [← zval_natAbs, ← zval_natAbs, hzmv, hznv]
    rw [hgv] at h5
    have hgl : (zc ((Nat.gcd m'.natAbs n'.natAbs : Nat) : Int)).w.length ≤ L := by
      refine zc_len ?_
      have h1 := Nat.gcd_le_right m'.natAbs (show 0 < n'.natAbs by omega)
      have h2 := zval_lt hdn hznl
      rw [hznv] at h2
      simp only [Int.natAbs_natCast]
      omega
    refine .alloc rfl zero_Z fun w6 b5 n6 => ?_
    obtain ⟨e6, k6, hb5, hs6⟩ := n6
    have e56 := e5.trans e6
    have hS5' : ¬ Sx T w5.heap.size w6.heap.size b5 := Sx.no (by omega) (by omega)
    have h5' := (h5.par w6.heap.size).ext e6
    have hzm6 := ((hzm.ext e5).par w6.heap.size).ext e6
    have hzn6 := ((hzn.ext e5).par w6.heap.size).ext e6
    have hS2' : ¬ Sx T w5.heap.size w6.heap.size b2 := fun h => hS2 h.1
    have hS3' : ¬ Sx T w5.heap.size w6.heap.size b3 := fun h => hS3 h.1
    have hS4' : ¬ Sx T w5.heap.size w6.heap.size b4 := fun h => hS4 h.1
    have hout' : ∀ {W : World} {v : Value} {z : QV}, eQ.R (Sx T w5.heap.size w6.heap.size) W v z → eQ.R S W v z := fun h => hout h.out
    have up6 : Up (Sx T w5.heap.size w6.heap.size) w6 := Sx.up (upW.ext e5.size) (Nat.le_refl _) e6.size
    have hB6 : Below w.heap.size w w6 := hB.trans (e56.mono hB.size)
    have hn52 : b5 ≠ b2 := by have := e5.size; omega
    have hn53 : b5 ≠ b3 := by have := e5.size; omega
    have hn54 : b5 ≠ b4 := by have := e5.size; omega
    have hw5 : w.heap.size ≤ b5 := by have := hB.size; have := e5.size; omega
    generalize hT2 : Sx T w5.heap.size w6.heap.size = T2 at *
    refine .storeA ty_Z rfl rfl k6 rfl rfl h5' hS5' fun w7 k7 u7 h7 => .nil ?_
    have up7 : Up T2 w7 := up6.ext (by rw [u7.size]; exact Nat.le_refl _)
    have hB7 := u7.below hB6 hw5
    have hzm7 := hzm6.upd u7 hS5'
    have hzn7 := hzn6.upd u7 hS5'
    have k2 := (k2.ext e56).upd u7 (Ne.symm hn52)
    have k3 := (k3.ext e56).upd u7 (Ne.symm hn53)
    have k4 := (k4.ext e56).upd u7 (Ne.symm hn54)
    have hvg := shpA rfl h7
    have hg0 := zv_divisor (m := m') (n := n') (by omega)
    generalize hG : Nat.gcd m'.natAbs n'.natAbs = G at *
    -- the numerator
    refine .seq (.region (.ldA ty_Z rfl rfl k2 (eZ.csz hzm) (.ldA ty_Z rfl rfl k7 (eZ.csz h7) ?_)))
    rw [← hvm, ← hvg]
    refine .call _ rfl E_whole_DivMod rfl (whole_DivMod_c up7 hzm7 h7 (by omega) (by omega) hg0) fun v8 w8 e8 h8 => ?_
    obtain ⟨qm, rm, _, rfl, hqm, _, rfl⟩ := h8
    refine .mv rfl rfl (.ext rfl rfl rfl (.ext rfl rfl rfl (.ext rfl rfl rfl ?_)))
    rw [hzmv, zval_zc] at hqm
    refine .storeA (E := eZ) ty_Z rfl rfl (k2.ext e8) rfl (eZ.csz hzm) hqm hS2' fun w9 k9 u9 h9 => .nil ?_
    have up9 : Up T2 w9 := (up7.ext e8.size).ext (by rw [u9.size]; exact Nat.le_refl _)
    have hB9 : Below w.heap.size w w9 := u9.below (hB7.trans (e8.mono hB7.size)) hw2
    have k3 := (k3.ext e8).upd u9 hne32
    have k5 := (k7.ext e8).upd u9 hn52
    have k4 := (k4.ext e8).upd u9 hne42
    have hg9 := (h7.ext e8).upd u9 hS2'
    have hzn9 := (hzn7.ext e8).upd u9 hS2'
    -- the denominator
    refine .seq (.region (.ldA ty_Z rfl rfl k3 (eZ.csz hzn) (.ldA ty_Z rfl rfl k5 (eZ.csz h7) ?_)))
    rw [← hvn, ← hvg]
    refine .call _ rfl E_whole_DivMod rfl (whole_DivMod_c up9 hzn9 hg9 (by omega) (by omega) hg0) fun v10 w10 e10 h10 => ?_
    obtain ⟨qn, rn, _, rfl, hqn, _, rfl⟩ := h10
    refine .mv rfl rfl (.ext rfl rfl rfl (.ext rfl rfl rfl (.ext rfl rfl rfl ?_)))
    rw [hznv, zval_zc] at hqn
    refine .storeA (E := eZ) ty_Z rfl rfl (k3.ext e10) rfl (eZ.csz hzn) hqn hS3' fun w11 k11 u11 h11 => .nil ?_
    have hB11 : Below w.heap.size w w11 := u11.below (hB9.trans (e10.mono hB9.size)) hw3
    have k9 := (k9.ext e10).upd u11 (Ne.symm hne32)
    have k4 := (k4.ext e10).upd u11 hne43
    have h9 := (h9.ext e10).upd u11 hS3'
    have hqc := qc_divInt (n := m') hpos
    rw [hG] at hqc
    have hvqm := shpA rfl h9
    have hvqn := shpA rfl h11
    refine .mid (α := Value) (fun _ => [(2, .pointer (some ⟨b2, 0, none⟩)), (3, .pointer (some ⟨b3, 0, none⟩)), (4, .pointer (some ⟨b4, 0, none⟩))])
      (fun x W => Below w.heap.size w W ∧ Blk W b2 26 qm.cells ∧ Blk W b3 26 x.cells ∧ Blk W b4 28 #[.bool false, .slice none 0 0, .bool false, .slice none 0 0] ∧ eZ.R T2 W qm (zc (m' / (G : Int))) ∧ eZ.R T2 W x (if n' / (G : Int) = 1 then ⟨false, []⟩ else zc (n' / (G : Int)))) ?_ ?_
    · refine .seq (.region (.ldA ty_Z rfl rfl k11 (eZ.csz h11) ?_))
      rw [← hvqn]
      refine .call _ rfl E_whole_Int64 rfl (whole_Int64_c h11) fun v12 w12 e12 h12 => ?_
      subst h12
      refine .mv rfl rfl (.ext rfl rfl rfl (.ext rfl rfl rfl (.asg rfl rfl (.asg rfl rfl (.nil ?_)))))
      rw [zval_zc]
      have hB12 : Below w.heap.size w w12 := hB11.trans (e12.mono hB11.size)
      refine .seq (.region (.mv rfl rfl (.mv rfl rfl ?_)))
      have hno : ∀ {σ : Env}, (∀ t v, Kx.look [(2, .pointer (some ⟨b2, 0, none⟩)), (3, .pointer (some ⟨b3, 0, none⟩)), (4, .pointer (some ⟨b4, 0, none⟩))] t = some v → Kx.look σ t = some v) → n' / (G : Int) ≠ 1 → (([] : List Deferred) = [] ∧ ∃ x : Value, (∀ t v, Kx.look [(2, .pointer (some ⟨b2, 0, none⟩)), (3, .pointer (some ⟨b3, 0, none⟩)), (4, .pointer (some ⟨b4, 0, none⟩))] t = some v → Kx.look σ t = some v) ∧
          Below w.heap.size w w12 ∧ Blk w12 b2 26 qm.cells ∧ Blk w12 b3 26 x.cells ∧ Blk w12 b4 28 #[.bool false, .slice none 0 0, .bool false, .slice none 0 0] ∧ eZ.R T2 w12 qm (zc (m' / (G : Int))) ∧ eZ.R T2 w12 x (if n' / (G : Int) = 1 then ⟨false, []⟩ else zc (n' / (G : Int)))) := by
        intro σ hσ h1
        refine ⟨rfl, qn, hσ, hB12, k9.ext e12, k11.ext e12, k4.ext e12, h9.ext e12, ?_⟩
        rw [if_neg h1]; exact h11.ext e12
      cases hok : i64ok (n' / (G : Int)) with
      | false =>
        refine .gs rfl rfl rfl rfl rfl (.gs rfl rfl rfl rfl rfl (.pick rfl rfl rfl (.nil (.condF rfl (.skip (hno (look_cons rfl (look_cons rfl (look_cons rfl look_nil))) ?_))))))
        intro h; rw [h] at hok; simp [i64ok] at hok
      | true =>
        have ev' : i64v (n' / (G : Int)) = n' / (G : Int) := by rw [i64v, hok]; rfl
        rw [ev']
        by_cases h1 : n' / (G : Int) = 1
        · refine .gr rfl rfl rfl rfl (.mv rfl rfl (.gr rfl rfl rfl rfl (.eqlT rfl rfl rfl h1 (.pick rfl rfl rfl (.nil (.condT rfl (.region (.bld _ rfl rfl bld_Z0 ?_))))))))
          have hz : eZ.R T2 w12 (.agg #[.bool false, .slice none 0 0]) ⟨false, []⟩ := ⟨_, rfl, RL.nil⟩
          refine .storeA (E := eZ) ty_Z rfl rfl (k11.ext e12) rfl (eZ.csz h11) hz hS3' fun w13 k13 u13 h13 => .nil ?_
          refine ⟨rfl, _, look_cons rfl (look_cons rfl (look_cons rfl look_nil)), u13.below hB12 hw3, (k9.ext e12).upd u13 (Ne.symm hne32), k13, (k4.ext e12).upd u13 hne43, (h9.ext e12).upd u13 hS3', ?_⟩
          rw [if_pos h1]; exact h13
        · refine .gr rfl rfl rfl rfl (.mv rfl rfl (.gr rfl rfl rfl rfl (.eqlF rfl rfl rfl h1 (.pick rfl rfl rfl (.nil (.condF rfl (.skip (hno (look_cons rfl (look_cons rfl (look_cons rfl look_nil))) h1)))))))) 
    · rintro x W ⟨hB12, k2, k3, k4, hA, hC⟩
      obtain ⟨s, rfl, hs⟩ := hA
      obtain ⟨t, rfl, ht⟩ := hC
      refine .seq (.region (.ldA ty_Z rfl rfl k2 rfl (.ldA ty_Z rfl rfl k3 rfl (.bld _ rfl rfl bld_Q2 ?_))))
      have hq : eQ.R T2 W (.agg #[.bool (zc (m' / (G : Int))).neg, s, .bool (if n' / (G : Int) = 1 then (⟨false, []⟩ : ZV) else zc (n' / (G : Int))).neg, t]) (qc (Rat.divInt m' n')) := by
        rw [hqc]
        exact ⟨s, t, rfl, hs, ht⟩
      refine .storeA (E := eQ) ty_Q rfl rfl k4 rfl rfl hq hS4' fun w13 k13 u13 h13 => .nil (.ret ?_)
      exact .cell Tryz.results91 rfl ty_Q rfl rfl k13 h13 ⟨u13.below hB12 hw4, hout' h13⟩
end Go.Proofs.YtgghedhmjhaieaaGreat

namespace Go.Proofs.YtgghedhmjhaieaaGreat
open Go Go.Kx Go.RowKit

theorem un_op : Tryz.prog.underlying 117 = some (.map 5 116) := by kernel_rfl
theorem bld_op {f : FuncId} : bldOf Tryz.prog 116 [(0, .func (.func f) #[] #[])] = some #[.func (.func f) #[] #[]] := by kernel_rfl
theorem prt_op {f : FuncId} : prtOf Tryz.prog 116 #[.func (.func f) #[] #[]] 0 = some (.func (.func f) #[] #[]) := by kernel_rfl
abbrev opE (k : Int) (f c : Nat) : MapEntry := { key := .int .u8 k, val := .agg #[.func (.func f) #[] #[]], born := c }
def opTab : Array MapEntry := #[opE 43 140 0, opE 45 142 1, opE 42 144 2, opE 47 145 3]
@[reducible] def IsTab : Value → World → Prop := fun v w => ∃ r, v = .map (some r) ∧ MapAt w r opTab 4
theorem st_tab : St IsTab := fun _ _ _ e ⟨r, h1, h2⟩ => ⟨r, h1, h2.ext e⟩

theorem E_frac_operations : Ent Tryz.prog 123 := ent_of Tryz.func123 (by kernel_rfl) rfl
theorem frac_operations_c {w : World} : CR Tryz.prog 123 #[] w IsTab := by
  refine enter Tryz.func123 rfl Tryz.ntmps123 rfl ?_
  refine .seq (.region (.asg rfl rfl (.nil (.seq (.region ?_)))))
  refine .gv rfl rfl g_mkmap ?_
  rintro _ w1 ⟨rfl, e1, m1⟩
  refine .bld _ rfl rfl bld_op (.gv rfl rfl (g_ins un_op un_u8 rfl rfl rfl m1 rfl) ?_)
  rintro _ _ rfl
  have m2 := m1.put (es' := #[].push (opE 43 140 0)) (c' := 1)
  have x2 := put_below (o := .map (#[].push (opE 43 140 0)) 1) e1 (Nat.le_refl _)
  refine .bld _ rfl rfl bld_op (.gv rfl rfl (g_ins un_op un_u8 rfl rfl rfl m2 rfl) ?_)
  rintro _ _ rfl
  have m3 := m2.put (es' := (#[].push (opE 43 140 0)).push (opE 45 142 1)) (c' := 2)
  have x3 := put_below (o := .map ((#[].push (opE 43 140 0)).push (opE 45 142 1)) 2) x2 (Nat.le_refl _)
  refine .bld _ rfl rfl bld_op (.gv rfl rfl (g_ins un_op un_u8 rfl rfl rfl m3 rfl) ?_)
  rintro _ _ rfl
  have m4 := m3.put (es' := ((#[].push (opE 43 140 0)).push (opE 45 142 1)).push (opE 42 144 2)) (c' := 3)
  have x4 := put_below (o := .map (((#[].push (opE 43 140 0)).push (opE 45 142 1)).push (opE 42 144 2)) 3) x3 (Nat.le_refl _)
  refine .bld _ rfl rfl bld_op (.gv rfl rfl (g_ins un_op un_u8 rfl rfl rfl m4 rfl) ?_)
  rintro _ _ rfl
  have m5 := m4.put (es' := opTab) (c' := 4)
  have x5 := put_below (o := .map opTab 4) x4 (Nat.le_refl _)
  refine .mv rfl rfl (.asg rfl rfl (.nil (.ret ?_)))
  exact .plain [_] Tryz.results123 ⟨rfl, trivial⟩ ⟨x5, _, rfl, m5⟩

theorem E_frac_calculate : Ent Tryz.prog 98 := ent_of Tryz.func98 (by kernel_rfl) rfl
theorem frac_calculate_c {S : Nat → Prop} {w : World} {va vb : Value} {a b : QV} {L : Nat} {k : Int} {i : Nat} {f : FuncId} {N D : Int} (up : Up S w) (ha : eQ.R S w va a) (hb : eQ.R S w vb b) (hla : qok L a) (hlb : qok L b) (hL : 1 ≤ L) (hL2 : L ≤ 100000000000)
    (hE : Ent Tryz.prog f) (hf : Instr.findNow (.int .u8) (.int .u8 k) opTab.toList 0 = some (some (i, .agg #[.func (.func f) #[] #[]])))
    (hop : ∀ {T : Nat → Prop} {W : World} {u1 u2 u3 u4 : Value}, Up T W → Zv T (pn a) L u1 W → Zv T (pd a) L u2 W → Zv T (pn b) L u3 W → Zv T (pd b) L u4 W → CR Tryz.prog f #[u1, u2, u3, u4] W (Two (Zv T N (2 * L + 1)) (Zv T D (2 * L + 1)))) (hD : D ≠ 0) :
    CR Tryz.prog 98 #[.int .u8 k, va, vb] w (eQ.at S (qc (Rat.divInt N D))) := by
  have hva := shpA rfl ha
  have hvb := shpA rfl hb
  refine enter Tryz.func98 rfl Tryz.ntmps98 rfl ?_
  refine .seq (.region (.box rfl rfl fun w1 b4 n1 => .box rfl rfl fun w2 b5 n2 => .alloc rfl zero_Q fun w3 b6 n3 => .nil ?_))
  obtain ⟨e1, k4, hb4, hs1⟩ := n1
  obtain ⟨e2, k5, hb5, hs2⟩ := n2
  obtain ⟨e3, k6, hb6, hs3⟩ := n3
  have x3 := (e1.trans e2).trans e3
  have k4 := (k4.ext e2).ext e3
  have k5 := k5.ext e3
  have hS6 : ¬ Sx S w.heap.size w3.heap.size b6 := Sx.no (by omega) (by omega)
  have hS5 : ¬ Sx S w.heap.size w3.heap.size b5 := Sx.no (by omega) (by omega)
  have up3 : Up (Sx S w.heap.size w3.heap.size) w3 := Sx.up up (Nat.le_refl _) x3.size
  have ha3 := (ha.par w3.heap.size).ext x3
  have hb3 := (hb.par w3.heap.size).ext x3
  have hout : ∀ {W : World} {v : Value} {z : QV}, eQ.R (Sx S w.heap.size w3.heap.size) W v z → eQ.R S W v z := fun h => h.out
  have hw6 : w.heap.size ≤ b6 := by omega
  have hc6 : b6 < w3.heap.size := by omega
  have hc5 : b5 < w3.heap.size := by omega
  generalize hT : Sx S w.heap.size w3.heap.size = T at *
  -- the parts of a
  refine .seq (.region (.ldA ty_Q rfl rfl k4 (eQ.csz ha) ?_))
  rw [← hva]
  refine .call _ rfl E_frac_parts rfl (frac_parts_c up3 ha3 hla hL (by omega)) fun v4 w4 e4 h4 => ?_
  obtain ⟨u1, u2, rfl, h1, h2⟩ := h4
  replace h1 : (eZn L).R T w4 u1 (pn a) := h1
  replace h2 : (eZn L).R T w4 u2 (pd a) := h2
  refine .mv rfl rfl (.ext rfl rfl rfl (.ext rfl rfl rfl (.alloc rfl zero_Z fun w5 b7 n5 => .alloc rfl zero_Z fun w6 b8 n6 => ?_)))
  obtain ⟨e5, k7, hb7, hs5⟩ := n5
  obtain ⟨e6, k8, hb8, hs6⟩ := n6
  have e56 := e5.trans e6
  have k7 := k7.ext e6
  have hs4 := e4.size
  have hS7 : ¬ Sx T w4.heap.size w6.heap.size b7 := Sx.no (by omega) (by omega)
  have hS8 : ¬ Sx T w4.heap.size w6.heap.size b8 := Sx.no (by omega) (by omega)
  have h16 := (h1.par w6.heap.size).ext e56
  have h26 := (h2.par w6.heap.size).ext e56
  have hb6' := ((hb3.ext e4).par w6.heap.size).ext e56
  have up6 : Up (Sx T w4.heap.size w6.heap.size) w6 := Sx.up (up3.ext e4.size) (Nat.le_refl _) e56.size
  have hout : ∀ {W : World} {v : Value} {z : QV}, eQ.R (Sx T w4.heap.size w6.heap.size) W v z → eQ.R S W v z := fun h => hout h.out
  have hS6 : ¬ Sx T w4.heap.size w6.heap.size b6 := fun h => hS6 h.1
  have hS5 : ¬ Sx T w4.heap.size w6.heap.size b5 := fun h => hS5 h.1
  have hc7 : b7 < w6.heap.size := by omega
  have hc8 : b8 < w6.heap.size := by omega
  have hn78 : b8 ≠ b7 := by omega
  have hw7 : w.heap.size ≤ b7 := by have := x3.size; omega
  have hw8 : w.heap.size ≤ b8 := by have := x3.size; omega
  have hn57 : b5 ≠ b7 := by omega
  have hn58 : b5 ≠ b8 := by omega
  have hn67 : b6 ≠ b7 := by omega
  have hn68 : b6 ≠ b8 := by omega
  generalize hT2 : Sx T w4.heap.size w6.heap.size = T2 at *
  refine .storeA (E := eZn L) ty_Z rfl rfl k7 rfl rfl h16 hS7 fun w7 k7 u7 h17 => ?_
  refine .storeA (E := eZn L) ty_Z rfl rfl (k8.upd u7 hn78) rfl rfl (h26.upd u7 hS7) hS8 fun w8 k8 u8 h28 => .nil ?_
  have h18 := h17.upd u8 hS8
  have k7 := k7.upd u8 (Ne.symm hn78)
  have x6 := (x3.trans e4).trans e56
  have x8 : Ext w w8 := u8.below (u7.below x6 hw7) hw8
  have k5 := (((k5.ext e4).ext e56).upd u7 hn57).upd u8 hn58
  have k6 := (((k6.ext e4).ext e56).upd u7 hn67).upd u8 hn68
  have hb8' := (hb6'.upd u7 hS7).upd u8 hS8
  have up8 : Up T2 w8 := up6.ext (by rw [u8.size, u7.size]; exact Nat.le_refl _)
  have hs8 : w8.heap.size = w6.heap.size := by rw [u8.size, u7.size]
  -- the parts of b
  refine .seq (.region (.ldA ty_Q rfl rfl k5 (eQ.csz hb) ?_))
  rw [← hvb]
  refine .call _ rfl E_frac_parts rfl (frac_parts_c up8 hb8' hlb hL (by omega)) fun v9 w9 e9 h9 => ?_
  obtain ⟨u3, u4, rfl, h3, h4⟩ := h9
  replace h3 : (eZn L).R T2 w9 u3 (pn b) := h3
  replace h4 : (eZn L).R T2 w9 u4 (pd b) := h4
  refine .mv rfl rfl (.ext rfl rfl rfl (.ext rfl rfl rfl (.alloc rfl zero_Z fun w10 b9 n10 => .alloc rfl zero_Z fun w11 b10 n11 => ?_)))
  obtain ⟨e10, k9, hb9, hs10⟩ := n10
  obtain ⟨e11, k10, hb10, hs11⟩ := n11
  have e1011 := e10.trans e11
  have k9 := k9.ext e11
  have hs9 := e9.size
  have hS9 : ¬ Sx T2 w9.heap.size w11.heap.size b9 := Sx.no (by omega) (by omega)
  have hS10 : ¬ Sx T2 w9.heap.size w11.heap.size b10 := Sx.no (by omega) (by omega)
  have h1' := ((h18.ext e9).par w11.heap.size).ext e1011
  have h2' := ((h28.ext e9).par w11.heap.size).ext e1011
  have h3' := (h3.par w11.heap.size).ext e1011
  have h4' := (h4.par w11.heap.size).ext e1011
  have up11 : Up (Sx T2 w9.heap.size w11.heap.size) w11 := Sx.up (up8.ext e9.size) (Nat.le_refl _) e1011.size
  have hout : ∀ {W : World} {v : Value} {z : QV}, eQ.R (Sx T2 w9.heap.size w11.heap.size) W v z → eQ.R S W v z := fun h => hout h.out
  have hS6 : ¬ Sx T2 w9.heap.size w11.heap.size b6 := fun h => hS6 h.1
  have hn910 : b10 ≠ b9 := by omega
  have hw9 : w.heap.size ≤ b9 := by have := x8.size; omega
  have hw10 : w.heap.size ≤ b10 := by have := x8.size; omega
  have n79 : b7 ≠ b9 := by omega
  have n710 : b7 ≠ b10 := by omega
  have n89 : b8 ≠ b9 := by omega
  have n810 : b8 ≠ b10 := by omega
  have n69 : b6 ≠ b9 := by omega
  have n610 : b6 ≠ b10 := by omega
  generalize hT3 : Sx T2 w9.heap.size w11.heap.size = T3 at *
  refine .storeA (E := eZn L) ty_Z rfl rfl k9 rfl rfl h3' hS9 fun w12 k9 u12 h312 => ?_
  refine .storeA (E := eZn L) ty_Z rfl rfl (k10.upd u12 hn910) rfl rfl (h4'.upd u12 hS9) hS10 fun w13 k10 u13 h413 => .nil ?_
  have h313 := h312.upd u13 hS10
  have k9 := k9.upd u13 (Ne.symm hn910)
  have x11 := (x8.trans e9).trans e1011
  have x13 : Ext w w13 := u13.below (u12.below x11 hw9) hw10
  have h113 := (h1'.upd u12 hS9).upd u13 hS10
  have h213 := (h2'.upd u12 hS9).upd u13 hS10
  have k7 := (((k7.ext e9).ext e1011).upd u12 n79).upd u13 n710
  have k8 := (((k8.ext e9).ext e1011).upd u12 n89).upd u13 n810
  have k6 := (((k6.ext e9).ext e1011).upd u12 n69).upd u13 n610
  have up13 : Up T3 w13 := up11.ext (by rw [u13.size, u12.size]; exact Nat.le_refl _)
  have hv1 := shpA (E := eZn L) rfl h113
  have hv2 := shpA (E := eZn L) rfl h213
  have hv3 := shpA (E := eZn L) rfl h313
  have hv4 := shpA (E := eZn L) rfl h413
  refine .seq ?_
  refine .par follows 12 [.inr IsTab, .inl (.int .u8 k), .inl (.agg #[.func (.func f) #[] #[]]), .inl (.func (.func f) #[] #[]), .inl u1, .inl u2, .inl u3, .inl u4, .inr (Two (Zv T3 N (2 * L + 1)) (Zv T3 D (2 * L + 1))), .inr (Zv T3 N (2 * L + 1)), .inr (Zv T3 D (2 * L + 1)), .inr (eQ.at T3 (qc (Rat.divInt N D)))]
    [[], [], [(21, 0), (22, 1)], [(23, 2)], [], [], [], [], [(24, 3), (25, 4), (26, 5), (27, 6), (28, 7)], [(29, 8)], [(29, 8)], [(30, 9), (31, 10)]] (by kernel_rfl) ⟨
    fun w e => (g_call [] E_frac_operations rfl frac_operations_c).ob st_tab,
    fun w e => (v_mv rfl).ob,
    fun w e x0 hx0 => by
      obtain ⟨r, rfl, hr⟩ := hx0
      exact (v_lkp un_op un_u8 rfl rfl hr hf).ob,
    fun w e => (v_fd rfl prt_op).ob,
    fun w e => ((v_ldA ty_Z rfl (k7.ext e) ((eZn L).csz h113)).eq hv1.symm).ob,
    fun w e => ((v_ldA ty_Z rfl (k8.ext e) ((eZn L).csz h213)).eq hv2.symm).ob,
    fun w e => ((v_ldA ty_Z rfl (k9.ext e) ((eZn L).csz h313)).eq hv3.symm).ob,
    fun w e => ((v_ldA ty_Z rfl (k10.ext e) ((eZn L).csz h413)).eq hv4.symm).ob,
    fun w e => (g_callv [u1, u2, u3, u4] rfl hE rfl (by simpa using hop (up13.ext e.size) (Zv.ext h113 e) (Zv.ext h213 e) (Zv.ext h313 e) (Zv.ext h413 e))).ob (st_two (st_zv _ _ _) (st_zv _ _ _)),
    fun w e x8 hx8 => by
      obtain ⟨p, q, rfl, hp, hq⟩ := hx8
      exact ob_vl (v_ex rfl rfl) hp (st_zv _ _ _),
    fun w e x8 hx8 => by
      obtain ⟨p, q, rfl, hp, hq⟩ := hx8
      exact ob_vl (v_ex rfl rfl) hq (st_zv _ _ _),
    fun w e x9 hx9 x10 hx10 => (g_call _ E_frac_reduce rfl (frac_reduce_c (up13.ext e.size) hx9 hx10 hD (by omega))).ob (st_at _ _ _), trivial⟩ ?_
  intro w14 e14 x0 hx0 x8 hx8 x9 hx9 x10 hx10 x11 hx11
  refine .storeA (E := eQ) ty_Q rfl rfl (k6.ext e14) rfl rfl hx11 hS6 fun w15 k15 u15 h15 => .nil (.ret ?_)
  exact .cell Tryz.results98 rfl ty_Q rfl rfl k15 h15 ⟨u15.below (x13.trans e14) hw6, hout h15⟩
end Go.Proofs.YtgghedhmjhaieaaGreat

namespace Go.Proofs.YtgghedhmjhaieaaGreat
open Go Go.Kx Go.RowKit

theorem mul_lt {m n : Int} {L : Nat} (hm : m.natAbs < 4294967296 ^ L) (hn : n.natAbs < 4294967296 ^ L) : (m * n).natAbs < 4294967296 ^ (2 * L) := by
  rw [Int.natAbs_mul, show 2 * L = L + L by omega, Nat.pow_add]
  exact Nat.mul_lt_mul'' hm hn
theorem sum_lt {m n : Int} {L : Nat} (hm : m.natAbs < 4294967296 ^ L) (hn : n.natAbs < 4294967296 ^ L) : (m + n).natAbs < 4294967296 ^ (L + 1) := by
  have := Int.natAbs_add_le m n
  rw [Nat.pow_succ]; omega
theorem dif_lt {m n : Int} {L : Nat} (hm : m.natAbs < 4294967296 ^ L) (hn : n.natAbs < 4294967296 ^ L) : (m - n).natAbs < 4294967296 ^ (L + 1) := by
  have := Int.natAbs_sub_le m n
  rw [Nat.pow_succ]; omega
theorem up_lt {m : Int} {L M : Nat} (h : m.natAbs < 4294967296 ^ L) (hl : L ≤ M) : m.natAbs < 4294967296 ^ M := Nat.lt_of_lt_of_le h (Nat.pow_le_pow_right (by omega) hl)

theorem E_op1 : Ent Tryz.prog 140 := ent_of Tryz.func140 (by kernel_rfl) rfl
theorem op1_c {S : Nat → Prop} {w : World} {u1 u2 u3 u4 : Value} {m1 m2 m3 m4 : Int} {L : Nat} (hL2 : L ≤ 100000000000) (up : Up S w) (h1 : Zv S m1 L u1 w) (h2 : Zv S m2 L u2 w) (h3 : Zv S m3 L u3 w) (h4 : Zv S m4 L u4 w) :
    CR Tryz.prog 140 #[u1, u2, u3, u4] w (Two (Zv S (m1 * m4 + m3 * m2) (2 * L + 1)) (Zv S (m2 * m4) (2 * L + 1))) := by
  have l1 := h1.lt
  have l2 := h2.lt
  have l3 := h3.lt
  have l4 := h4.lt
  obtain ⟨z1, h1, rfl, hl1⟩ := h1
  obtain ⟨z2, h2, rfl, hl2⟩ := h2
  obtain ⟨z3, h3, rfl, hl3⟩ := h3
  obtain ⟨z4, h4, rfl, hl4⟩ := h4
  have hv1 := shpA rfl h1
  have hv2 := shpA rfl h2
  have hv3 := shpA rfl h3
  have hv4 := shpA rfl h4
  refine enter Tryz.func140 rfl Tryz.ntmps140 rfl ?_
  refine .seq (.region (.box rfl rfl fun w1 b4 n1 => .box rfl rfl fun w2 b5 n2 => .box rfl rfl fun w3 b6 n3 => .box rfl rfl fun w4 b7 n4 => .alloc rfl zero_Z fun w5 b8 n5 => .alloc rfl zero_Z fun w6 b9 n6 => .nil ?_))
  obtain ⟨e1, k4, hb4, hs1⟩ := n1
  obtain ⟨e2, k5, hb5, hs2⟩ := n2
  obtain ⟨e3, k6, hb6, hs3⟩ := n3
  obtain ⟨e4, k7, hb7, hs4⟩ := n4
  obtain ⟨e5, k8, hb8, hs5⟩ := n5
  obtain ⟨e6, k9, hb9, hs6⟩ := n6
  have e56 := e5.trans e6
  have e46 := e4.trans e56
  have e36 := e3.trans e46
  have e26 := e2.trans e36
  have x6 := e1.trans e26
  have k4 := k4.ext e26
  have k5 := k5.ext e36
  have k6 := k6.ext e46
  have k7 := k7.ext e56
  have k8 := k8.ext e6
  have hS8 : ¬ Sx S w.heap.size w6.heap.size b8 := Sx.no (by omega) (by omega)
  have hS9 : ¬ Sx S w.heap.size w6.heap.size b9 := Sx.no (by omega) (by omega)
  have up6 : Up (Sx S w.heap.size w6.heap.size) w6 := Sx.up up (Nat.le_refl _) x6.size
  have h1 := (h1.par w6.heap.size).ext x6
  have h2 := (h2.par w6.heap.size).ext x6
  have h3 := (h3.par w6.heap.size).ext x6
  have h4 := (h4.par w6.heap.size).ext x6
  have hout : ∀ {W : World} {v : Value} {n : Int}, (eZn (2 * L + 1)).R (Sx S w.heap.size w6.heap.size) W v n → Zv S n (2 * L + 1) v W := fun h => Zv.out h
  have hn89 : b9 ≠ b8 := by omega
  have hw8 : w.heap.size ≤ b8 := by omega
  have hw9 : w.heap.size ≤ b9 := by omega
  generalize hT : Sx S w.heap.size w6.heap.size = T at *
  refine .seq ?_
  refine .par follows 9 [.inl u1, .inl u4, .inr (eZ.at T (zc (zval z1 * zval z4))), .inl u3, .inl u2, .inr (eZ.at T (zc (zval z3 * zval z2))), .inr (eZ.at T (zc (zval z1 * zval z4 + zval z3 * zval z2))), .inl u2, .inl u4] [[], [], [(10, 0), (11, 1)], [], [], [(13, 3), (14, 4)], [(12, 2), (15, 5)], [], []] (by kernel_rfl) ⟨
    fun w e => ((v_ldA ty_Z rfl (k4.ext e) (eZ.csz h1)).eq hv1.symm).ob,
    fun w e => ((v_ldA ty_Z rfl (k7.ext e) (eZ.csz h4)).eq hv4.symm).ob,
    fun w e => (g_call _ E_whole_Mul rfl (whole_Mul_c (up6.ext e.size) (h1.ext e) (h4.ext e) (by omega) (by omega))).ob (st_at _ _ _),
    fun w e => ((v_ldA ty_Z rfl (k6.ext e) (eZ.csz h3)).eq hv3.symm).ob,
    fun w e => ((v_ldA ty_Z rfl (k5.ext e) (eZ.csz h2)).eq hv2.symm).ob,
    fun w e => (g_call _ E_whole_Mul rfl (whole_Mul_c (up6.ext e.size) (h3.ext e) (h2.ext e) (by omega) (by omega))).ob (st_at _ _ _),
    fun w e x2 hx2 x5 hx5 => (g_call _ E_whole_Add rfl (by
      have := whole_Add_c (up6.ext e.size) hx2 hx5 (Nat.le_trans (zc_len (mul_lt l1 l4)) (by omega)) (Nat.le_trans (zc_len (mul_lt l3 l2)) (by omega))
      rw [zval_zc, zval_zc] at this
      exact this)).ob (st_at _ _ _),
    fun w e => ((v_ldA ty_Z rfl (k5.ext e) (eZ.csz h2)).eq hv2.symm).ob,
    fun w e => ((v_ldA ty_Z rfl (k7.ext e) (eZ.csz h4)).eq hv4.symm).ob, trivial⟩ ?_
  intro w7 e7 x2 hx2 x5 hx5 x6' hx6
  refine .call _ rfl E_whole_Mul rfl (whole_Mul_c (up6.ext e7.size) (h2.ext e7) (h4.ext e7) (by omega) (by omega)) fun v8 w8 e8 h8 => ?_
  have e78 := e7.trans e8
  have hA : (eZn (2 * L + 1)).R T w8 x6' (zval z1 * zval z4 + zval z3 * zval z2) := Zv.of (hx6.ext e8) (sum_lt (mul_lt l1 l4) (mul_lt l3 l2))
  have hB : (eZn (2 * L + 1)).R T w8 v8 (zval z2 * zval z4) := Zv.of h8 (up_lt (mul_lt l2 l4) (by omega))
  refine .storeA (E := eZn (2 * L + 1)) ty_Z rfl rfl (k8.ext e78) rfl rfl hA hS8 fun w9 k8' u9 h9 => ?_
  refine .storeA (E := eZn (2 * L + 1)) ty_Z rfl rfl ((k9.ext e78).upd u9 hn89) rfl rfl (hB.upd u9 hS8) hS9 fun w10 k10 u10 h10 => .nil (.ret ?_)
  exact .plain [_, _] Tryz.results140 ⟨⟨_, rfl, load_cell (E := eZn (2 * L + 1)) ty_Z rfl rfl (k8'.upd u10 (Ne.symm hn89)) (h9.upd u10 hS9)⟩, ⟨_, rfl, load_cell (E := eZn (2 * L + 1)) ty_Z rfl rfl k10 h10⟩, trivial⟩ ⟨u10.below (u9.below (x6.trans e78) hw8) hw9, _, _, rfl, hout (h9.upd u10 hS9), hout h10⟩

theorem E_op3 : Ent Tryz.prog 144 := ent_of Tryz.func144 (by kernel_rfl) rfl
theorem op3_c {S : Nat → Prop} {w : World} {u1 u2 u3 u4 : Value} {m1 m2 m3 m4 : Int} {L : Nat} (hL2 : L ≤ 100000000000) (up : Up S w) (h1 : Zv S m1 L u1 w) (h2 : Zv S m2 L u2 w) (h3 : Zv S m3 L u3 w) (h4 : Zv S m4 L u4 w) :
    CR Tryz.prog 144 #[u1, u2, u3, u4] w (Two (Zv S (m1 * m3) (2 * L + 1)) (Zv S (m2 * m4) (2 * L + 1))) := by
  have l1 := h1.lt
  have l2 := h2.lt
  have l3 := h3.lt
  have l4 := h4.lt
  obtain ⟨z1, h1, rfl, hl1⟩ := h1
  obtain ⟨z2, h2, rfl, hl2⟩ := h2
  obtain ⟨z3, h3, rfl, hl3⟩ := h3
  obtain ⟨z4, h4, rfl, hl4⟩ := h4
  have hv1 := shpA rfl h1
  have hv2 := shpA rfl h2
  have hv3 := shpA rfl h3
  have hv4 := shpA rfl h4
  refine enter Tryz.func144 rfl Tryz.ntmps144 rfl ?_
  refine .seq (.region (.box rfl rfl fun w1 b4 n1 => .box rfl rfl fun w2 b5 n2 => .box rfl rfl fun w3 b6 n3 => .box rfl rfl fun w4 b7 n4 => .alloc rfl zero_Z fun w5 b8 n5 => .alloc rfl zero_Z fun w6 b9 n6 => .nil ?_))
  obtain ⟨e1, k4, hb4, hs1⟩ := n1
  obtain ⟨e2, k5, hb5, hs2⟩ := n2
  obtain ⟨e3, k6, hb6, hs3⟩ := n3
  obtain ⟨e4, k7, hb7, hs4⟩ := n4
  obtain ⟨e5, k8, hb8, hs5⟩ := n5
  obtain ⟨e6, k9, hb9, hs6⟩ := n6
  have e56 := e5.trans e6
  have e46 := e4.trans e56
  have e36 := e3.trans e46
  have e26 := e2.trans e36
  have x6 := e1.trans e26
  have k4 := k4.ext e26
  have k5 := k5.ext e36
  have k6 := k6.ext e46
  have k7 := k7.ext e56
  have k8 := k8.ext e6
  have hS8 : ¬ Sx S w.heap.size w6.heap.size b8 := Sx.no (by omega) (by omega)
  have hS9 : ¬ Sx S w.heap.size w6.heap.size b9 := Sx.no (by omega) (by omega)
  have up6 : Up (Sx S w.heap.size w6.heap.size) w6 := Sx.up up (Nat.le_refl _) x6.size
  have h1 := (h1.par w6.heap.size).ext x6
  have h2 := (h2.par w6.heap.size).ext x6
  have h3 := (h3.par w6.heap.size).ext x6
  have h4 := (h4.par w6.heap.size).ext x6
  have hout : ∀ {W : World} {v : Value} {n : Int}, (eZn (2 * L + 1)).R (Sx S w.heap.size w6.heap.size) W v n → Zv S n (2 * L + 1) v W := fun h => Zv.out h
  have hn89 : b9 ≠ b8 := by omega
  have hw8 : w.heap.size ≤ b8 := by omega
  have hw9 : w.heap.size ≤ b9 := by omega
  generalize hT : Sx S w.heap.size w6.heap.size = T at *
  refine .seq ?_
  refine .par follows 5 [.inl u1, .inl u3, .inr (eZ.at T (zc (zval z1 * zval z3))), .inl u2, .inl u4] [[], [], [(10, 0), (11, 1)], [], []] (by kernel_rfl) ⟨
    fun w e => ((v_ldA ty_Z rfl (k4.ext e) (eZ.csz h1)).eq hv1.symm).ob,
    fun w e => ((v_ldA ty_Z rfl (k6.ext e) (eZ.csz h3)).eq hv3.symm).ob,
    fun w e => (g_call _ E_whole_Mul rfl (whole_Mul_c (up6.ext e.size) (h1.ext e) (h3.ext e) (by omega) (by omega))).ob (st_at _ _ _),
    fun w e => ((v_ldA ty_Z rfl (k5.ext e) (eZ.csz h2)).eq hv2.symm).ob,
    fun w e => ((v_ldA ty_Z rfl (k7.ext e) (eZ.csz h4)).eq hv4.symm).ob, trivial⟩ ?_
  intro w7 e7 x2 hx2
  refine .call _ rfl E_whole_Mul rfl (whole_Mul_c (up6.ext e7.size) (h2.ext e7) (h4.ext e7) (by omega) (by omega)) fun v8 w8 e8 h8 => ?_
  have e78 := e7.trans e8
  have hA : (eZn (2 * L + 1)).R T w8 x2 (zval z1 * zval z3) := Zv.of (hx2.ext e8) (up_lt (mul_lt l1 l3) (by omega))
  have hB : (eZn (2 * L + 1)).R T w8 v8 (zval z2 * zval z4) := Zv.of h8 (up_lt (mul_lt l2 l4) (by omega))
  refine .storeA (E := eZn (2 * L + 1)) ty_Z rfl rfl (k8.ext e78) rfl rfl hA hS8 fun w9 k8' u9 h9 => ?_
  refine .storeA (E := eZn (2 * L + 1)) ty_Z rfl rfl ((k9.ext e78).upd u9 hn89) rfl rfl (hB.upd u9 hS8) hS9 fun w10 k10 u10 h10 => .nil (.ret ?_)
  exact .plain [_, _] Tryz.results144 ⟨⟨_, rfl, load_cell (E := eZn (2 * L + 1)) ty_Z rfl rfl (k8'.upd u10 (Ne.symm hn89)) (h9.upd u10 hS9)⟩, ⟨_, rfl, load_cell (E := eZn (2 * L + 1)) ty_Z rfl rfl k10 h10⟩, trivial⟩ ⟨u10.below (u9.below (x6.trans e78) hw8) hw9, _, _, rfl, hout (h9.upd u10 hS9), hout h10⟩

theorem short_b {q : QV} (h : shortB q = true) : -2147483648 < pn q ∧ pn q < 2147483648 ∧ 0 < pd q ∧ pd q < 2147483648 := by
  simp only [shortB, decide_eq_true_eq] at h
  have := pd_pos q
  unfold pn pd at *
  refine ⟨?_, ?_, ?_, ?_⟩ <;> split <;> (try split) <;> omega
theorem prod_b {x y : Int} (h1 : -2147483648 < x) (h2 : x < 2147483648) (h3 : -2147483648 < y) (h4 : y < 2147483648) : -4611686014132420609 ≤ x * y ∧ x * y ≤ 4611686014132420609 := by
  have h : (x * y).natAbs ≤ 2147483647 * 2147483647 := by
    rw [Int.natAbs_mul]
    exact Nat.mul_le_mul (by omega) (by omega)
  omega

theorem E_frac_Add : Ent Tryz.prog 77 := ent_of Tryz.func77 (by kernel_rfl) rfl
theorem frac_Add_c {S : Nat → Prop} {w : World} {va vb : Value} {a b : QV} {L : Nat} (up : Up S w) (ha : eQ.R S w va a) (hb : eQ.R S w vb b) (hla : qok L a) (hlb : qok L b) (hL : 1 ≤ L) (hL2 : L ≤ 100000000000) :
    CR Tryz.prog 77 #[va, vb] w (eQ.at S (qc (qval a + qval b))) := by
  have hva := shpA rfl ha
  have hvb := shpA rfl hb
  have hpa := pd_pos a
  have hpb := pd_pos b
  have hpp : 0 < pd a * pd b := Int.mul_pos hpa hpb
  have hval : qval a + qval b = Rat.divInt (pn a * pd b + pn b * pd a) (pd a * pd b) := by
    unfold qval
    rw [Rat.divInt_add_divInt _ _ (by omega) (by omega)]
  rw [hval]
  refine enter Tryz.func77 rfl Tryz.ntmps77 rfl ?_
  refine .seq (.region (.box rfl rfl fun w1 b2 n1 => .box rfl rfl fun w2 b3 n2 => .alloc rfl zero_Q fun w3 b4 n3 => .nil ?_))
  obtain ⟨e1, k2, hb2, hs1⟩ := n1
  obtain ⟨e2, k3, hb3, hs2⟩ := n2
  obtain ⟨e3, k4, hb4, hs3⟩ := n3
  have x3 := (e1.trans e2).trans e3
  have k2 := (k2.ext e2).ext e3
  have k3 := k3.ext e3
  have hS4 : ¬ Sx S w.heap.size w3.heap.size b4 := Sx.no (by omega) (by omega)
  have up3 : Up (Sx S w.heap.size w3.heap.size) w3 := Sx.up up (Nat.le_refl _) x3.size
  have ha3 := (ha.par w3.heap.size).ext x3
  have hb3' := (hb.par w3.heap.size).ext x3
  have hout : ∀ {W : World} {v : Value} {z : QV}, eQ.R (Sx S w.heap.size w3.heap.size) W v z → eQ.R S W v z := fun h => h.out
  have hw4 : w.heap.size ≤ b4 := by omega
  generalize hT : Sx S w.heap.size w3.heap.size = T at *
  refine .seq (.region (.ldA ty_Q rfl rfl k2 (eQ.csz ha) ?_))
  rw [← hva]
  refine .call _ rfl E_frac_short rfl (frac_short_c ha3) fun v4 w4 e4 h4 => ?_
  subst h4
  have k2 := k2.ext e4
  have k3 := k3.ext e4
  have k4 := k4.ext e4
  have ha4 := ha3.ext e4
  have hb4' := hb3'.ext e4
  have up4 := up3.ext e4.size
  have x4 := x3.trans e4
  -- the way by the table
  have slow : ∀ {W : World}, Ext w4 W → CR Tryz.prog 98 #[.int .u8 43, va, vb] W (eQ.at T (qc (Rat.divInt (pn a * pd b + pn b * pd a) (pd a * pd b)))) := fun e =>
    frac_calculate_c (up4.ext e.size) (ha4.ext e) (hb4'.ext e) hla hlb hL hL2 E_op1 rfl (fun u h1 h2 h3 h4 => op1_c hL2 u h1 h2 h3 h4) (by omega)
  unfold shortV
  cases hsa : shortB a with
  | false =>
    refine .mv rfl rfl (.ext rfl rfl rfl (.ext rfl rfl rfl (.ext rfl rfl rfl (.asg rfl rfl (.asg rfl rfl (.asg rfl rfl (.nil ?_)))))))
    refine .seq (.region (.ldA ty_Q rfl rfl k3 (eQ.csz hb) ?_))
    rw [← hvb]
    refine .call _ rfl E_frac_short rfl (frac_short_c hb4') fun v5 w5 e5 h5 => ?_
    subst h5
    obtain ⟨y1, y2, y3, hy⟩ : ∃ y1 y2 y3, shortV b = .tuple #[y1, y2, y3] := by unfold shortV; split <;> exact ⟨_, _, _, rfl⟩
    rw [hy]
    refine .mv rfl rfl (.ext rfl rfl rfl (.ext rfl rfl rfl (.ext rfl rfl rfl (.asg rfl rfl (.asg rfl rfl (.asg rfl rfl (.nil ?_)))))))
    refine .seq (.seq (.region (.mv rfl rfl (.mv rfl rfl (.gs rfl rfl rfl rfl rfl (.pick rfl rfl rfl (.nil (.condF rfl (.skip ?_)))))))))
    refine .seq (.region (.ldA ty_Q rfl rfl (k2.ext e5) (eQ.csz ha) (.ldA ty_Q rfl rfl (k3.ext e5) (eQ.csz hb) ?_)))
    rw [← hva, ← hvb]
    refine .call _ rfl E_frac_calculate rfl (slow e5) fun v6 w6 e6 h6 => ?_
    refine .storeA (E := eQ) ty_Q rfl rfl ((k4.ext e5).ext e6) rfl rfl h6 hS4 fun w7 k7 u7 h7 => .nil (.ret ?_)
    exact .cell Tryz.results77 rfl ty_Q rfl rfl k7 h7 ⟨u7.below ((x4.trans e5).trans e6) hw4, hout h7⟩
  | true =>
    refine .mv rfl rfl (.ext rfl rfl rfl (.ext rfl rfl rfl (.ext rfl rfl rfl (.asg rfl rfl (.asg rfl rfl (.asg rfl rfl (.nil ?_)))))))
    refine .seq (.region (.ldA ty_Q rfl rfl k3 (eQ.csz hb) ?_))
    rw [← hvb]
    refine .call _ rfl E_frac_short rfl (frac_short_c hb4') fun v5 w5 e5 h5 => ?_
    subst h5
    unfold shortV
    cases hsb : shortB b with
    | false =>
      refine .mv rfl rfl (.ext rfl rfl rfl (.ext rfl rfl rfl (.ext rfl rfl rfl (.asg rfl rfl (.asg rfl rfl (.asg rfl rfl (.nil ?_)))))))
      refine .seq (.seq (.region (.mv rfl rfl (.mv rfl rfl (.gr rfl rfl rfl rfl (.mv rfl rfl (.pick rfl rfl rfl (.nil (.condF rfl (.skip ?_))))))))))
      refine .seq (.region (.ldA ty_Q rfl rfl (k2.ext e5) (eQ.csz ha) (.ldA ty_Q rfl rfl (k3.ext e5) (eQ.csz hb) ?_)))
      rw [← hva, ← hvb]
      refine .call _ rfl E_frac_calculate rfl (slow e5) fun v6 w6 e6 h6 => ?_
      refine .storeA (E := eQ) ty_Q rfl rfl ((k4.ext e5).ext e6) rfl rfl h6 hS4 fun w7 k7 u7 h7 => .nil (.ret ?_)
      exact .cell Tryz.results77 rfl ty_Q rfl rfl k7 h7 ⟨u7.below ((x4.trans e5).trans e6) hw4, hout h7⟩
    | true =>
      have ba := short_b hsa
      have bb := short_b hsb
      refine .mv rfl rfl (.ext rfl rfl rfl (.ext rfl rfl rfl (.ext rfl rfl rfl (.asg rfl rfl (.asg rfl rfl (.asg rfl rfl (.nil ?_)))))))
      refine .seq (.seq (.region (.mv rfl rfl (.mv rfl rfl (.gr rfl rfl rfl rfl (.mv rfl rfl (.pick rfl rfl rfl (.nil (.condT rfl (.seq (.region ?_)))))))))))
      generalize pn a = an at *
      generalize pn b = bn at *
      generalize pd a = ad at *
      generalize pd b = bd at *
      have m1 := prod_b (x := an) (y := bd) (by omega) (by omega) (by omega) (by omega)
      have m2 := prod_b (x := bn) (y := ad) (by omega) (by omega) (by omega) (by omega)
      have m3 := prod_b (x := ad) (y := bd) (by omega) (by omega) (by omega) (by omega)
      have m4 := prod_b (x := an) (y := bn) (by omega) (by omega) (by omega) (by omega)
      refine .mv rfl rfl (.mv rfl rfl (.mul rfl rfl rfl (.mv rfl rfl (.mv rfl rfl (.mul rfl rfl rfl (.add rfl rfl rfl (.mv rfl rfl (.mv rfl rfl (.mul rfl rfl rfl ?_)))))))))
      rw [wI (n := an * bd) (by omega), wI (n := bn * ad) (by omega), wI (n := ad * bd) (by omega), wI (n := an * bd + bn * ad) (by omega)]
      refine .call _ rfl E_frac_ratio rfl (frac_ratio_c (up4.ext e5.size) hpp (by omega) (by omega) (by omega)) fun v6 w6 e6 h6 => ?_
      refine .storeA (E := eQ) ty_Q rfl rfl ((k4.ext e5).ext e6) rfl rfl h6 hS4 fun w7 k7 u7 h7 => .nil (.ret ?_)
      exact .cell Tryz.results77 rfl ty_Q rfl rfl k7 h7 ⟨u7.below ((x4.trans e5).trans e6) hw4, hout h7⟩

theorem E_frac_Mul : Ent Tryz.prog 79 := ent_of Tryz.func79 (by kernel_rfl) rfl
theorem frac_Mul_c {S : Nat → Prop} {w : World} {va vb : Value} {a b : QV} {L : Nat} (up : Up S w) (ha : eQ.R S w va a) (hb : eQ.R S w vb b) (hla : qok L a) (hlb : qok L b) (hL : 1 ≤ L) (hL2 : L ≤ 100000000000) :
    CR Tryz.prog 79 #[va, vb] w (eQ.at S (qc (qval a * qval b))) := by
  have hva := shpA rfl ha
  have hvb := shpA rfl hb
  have hpa := pd_pos a
  have hpb := pd_pos b
  have hpp : 0 < pd a * pd b := Int.mul_pos hpa hpb
  have hval : qval a * qval b = Rat.divInt (pn a * pn b) (pd a * pd b) := by
    unfold qval
    rw [Rat.divInt_mul_divInt]
  rw [hval]
  refine enter Tryz.func79 rfl Tryz.ntmps79 rfl ?_
  refine .seq (.region (.box rfl rfl fun w1 b2 n1 => .box rfl rfl fun w2 b3 n2 => .alloc rfl zero_Q fun w3 b4 n3 => .nil ?_))
  obtain ⟨e1, k2, hb2, hs1⟩ := n1
  obtain ⟨e2, k3, hb3, hs2⟩ := n2
  obtain ⟨e3, k4, hb4, hs3⟩ := n3
  have x3 := (e1.trans e2).trans e3
  have k2 := (k2.ext e2).ext e3
  have k3 := k3.ext e3
  have hS4 : ¬ Sx S w.heap.size w3.heap.size b4 := Sx.no (by omega) (by omega)
  have up3 : Up (Sx S w.heap.size w3.heap.size) w3 := Sx.up up (Nat.le_refl _) x3.size
  have ha3 := (ha.par w3.heap.size).ext x3
  have hb3' := (hb.par w3.heap.size).ext x3
  have hout : ∀ {W : World} {v : Value} {z : QV}, eQ.R (Sx S w.heap.size w3.heap.size) W v z → eQ.R S W v z := fun h => h.out
  have hw4 : w.heap.size ≤ b4 := by omega
  generalize hT : Sx S w.heap.size w3.heap.size = T at *
  refine .seq (.region (.ldA ty_Q rfl rfl k2 (eQ.csz ha) ?_))
  rw [← hva]
  refine .call _ rfl E_frac_short rfl (frac_short_c ha3) fun v4 w4 e4 h4 => ?_
  subst h4
  have k2 := k2.ext e4
  have k3 := k3.ext e4
  have k4 := k4.ext e4
  have ha4 := ha3.ext e4
  have hb4' := hb3'.ext e4
  have up4 := up3.ext e4.size
  have x4 := x3.trans e4
  -- the way by the table
  have slow : ∀ {W : World}, Ext w4 W → CR Tryz.prog 98 #[.int .u8 42, va, vb] W (eQ.at T (qc (Rat.divInt (pn a * pn b) (pd a * pd b)))) := fun e =>
    frac_calculate_c (up4.ext e.size) (ha4.ext e) (hb4'.ext e) hla hlb hL hL2 E_op3 rfl (fun u h1 h2 h3 h4 => op3_c hL2 u h1 h2 h3 h4) (by omega)
  unfold shortV
  cases hsa : shortB a with
  | false =>
    refine .mv rfl rfl (.ext rfl rfl rfl (.ext rfl rfl rfl (.ext rfl rfl rfl (.asg rfl rfl (.asg rfl rfl (.asg rfl rfl (.nil ?_)))))))
    refine .seq (.region (.ldA ty_Q rfl rfl k3 (eQ.csz hb) ?_))
    rw [← hvb]
    refine .call _ rfl E_frac_short rfl (frac_short_c hb4') fun v5 w5 e5 h5 => ?_
    subst h5
    obtain ⟨y1, y2, y3, hy⟩ : ∃ y1 y2 y3, shortV b = .tuple #[y1, y2, y3] := by unfold shortV; split <;> exact ⟨_, _, _, rfl⟩
    rw [hy]
    refine .mv rfl rfl (.ext rfl rfl rfl (.ext rfl rfl rfl (.ext rfl rfl rfl (.asg rfl rfl (.asg rfl rfl (.asg rfl rfl (.nil ?_)))))))
    refine .seq (.seq (.region (.mv rfl rfl (.mv rfl rfl (.gs rfl rfl rfl rfl rfl (.pick rfl rfl rfl (.nil (.condF rfl (.skip ?_)))))))))
    refine .seq (.region (.ldA ty_Q rfl rfl (k2.ext e5) (eQ.csz ha) (.ldA ty_Q rfl rfl (k3.ext e5) (eQ.csz hb) ?_)))
    rw [← hva, ← hvb]
    refine .call _ rfl E_frac_calculate rfl (slow e5) fun v6 w6 e6 h6 => ?_
    refine .storeA (E := eQ) ty_Q rfl rfl ((k4.ext e5).ext e6) rfl rfl h6 hS4 fun w7 k7 u7 h7 => .nil (.ret ?_)
    exact .cell Tryz.results79 rfl ty_Q rfl rfl k7 h7 ⟨u7.below ((x4.trans e5).trans e6) hw4, hout h7⟩
  | true =>
    refine .mv rfl rfl (.ext rfl rfl rfl (.ext rfl rfl rfl (.ext rfl rfl rfl (.asg rfl rfl (.asg rfl rfl (.asg rfl rfl (.nil ?_)))))))
    refine .seq (.region (.ldA ty_Q rfl rfl k3 (eQ.csz hb) ?_))
    rw [← hvb]
    refine .call _ rfl E_frac_short rfl (frac_short_c hb4') fun v5 w5 e5 h5 => ?_
    subst h5
    unfold shortV
    cases hsb : shortB b with
    | false =>
      refine .mv rfl rfl (.ext rfl rfl rfl (.ext rfl rfl rfl (.ext rfl rfl rfl (.asg rfl rfl (.asg rfl rfl (.asg rfl rfl (.nil ?_)))))))
      refine .seq (.seq (.region (.mv rfl rfl (.mv rfl rfl (.gr rfl rfl rfl rfl (.mv rfl rfl (.pick rfl rfl rfl (.nil (.condF rfl (.skip ?_))))))))))
      refine .seq (.region (.ldA ty_Q rfl rfl (k2.ext e5) (eQ.csz ha) (.ldA ty_Q rfl rfl (k3.ext e5) (eQ.csz hb) ?_)))
      rw [← hva, ← hvb]
      refine .call _ rfl E_frac_calculate rfl (slow e5) fun v6 w6 e6 h6 => ?_
      refine .storeA (E := eQ) ty_Q rfl rfl ((k4.ext e5).ext e6) rfl rfl h6 hS4 fun w7 k7 u7 h7 => .nil (.ret ?_)
      exact .cell Tryz.results79 rfl ty_Q rfl rfl k7 h7 ⟨u7.below ((x4.trans e5).trans e6) hw4, hout h7⟩
    | true =>
      have ba := short_b hsa
      have bb := short_b hsb
      refine .mv rfl rfl (.ext rfl rfl rfl (.ext rfl rfl rfl (.ext rfl rfl rfl (.asg rfl rfl (.asg rfl rfl (.asg rfl rfl (.nil ?_)))))))
      refine .seq (.seq (.region (.mv rfl rfl (.mv rfl rfl (.gr rfl rfl rfl rfl (.mv rfl rfl (.pick rfl rfl rfl (.nil (.condT rfl (.seq (.region ?_)))))))))))
      generalize pn a = an at *
      generalize pn b = bn at *
      generalize pd a = ad at *
      generalize pd b = bd at *
      have m1 := prod_b (x := an) (y := bd) (by omega) (by omega) (by omega) (by omega)
      have m2 := prod_b (x := bn) (y := ad) (by omega) (by omega) (by omega) (by omega)
      have m3 := prod_b (x := ad) (y := bd) (by omega) (by omega) (by omega) (by omega)
      have m4 := prod_b (x := an) (y := bn) (by omega) (by omega) (by omega) (by omega)
      refine .mv rfl rfl (.mv rfl rfl (.mul rfl rfl rfl (.mv rfl rfl (.mv rfl rfl (.mul rfl rfl rfl ?_)))))
      rw [wI (n := an * bn) (by omega), wI (n := ad * bd) (by omega)]
      refine .call _ rfl E_frac_ratio rfl (frac_ratio_c (up4.ext e5.size) hpp (by omega) (by omega) (by omega)) fun v6 w6 e6 h6 => ?_
      refine .storeA (E := eQ) ty_Q rfl rfl ((k4.ext e5).ext e6) rfl rfl h6 hS4 fun w7 k7 u7 h7 => .nil (.ret ?_)
      exact .cell Tryz.results79 rfl ty_Q rfl rfl k7 h7 ⟨u7.below ((x4.trans e5).trans e6) hw4, hout h7⟩
end Go.Proofs.YtgghedhmjhaieaaGreat

namespace Go.Proofs.YtgghedhmjhaieaaGreat
open Go Go.Kx Go.RowKit

theorem E_frac_FromInt64 : Ent Tryz.prog 71 := ent_of Tryz.func71 (by kernel_rfl) rfl
theorem frac_FromInt64_c {S : Nat → Prop} {w : World} {n : Int} (up : Up S w) (h1 : -9223372036854775808 ≤ n) (h2 : n ≤ 9223372036854775807) : CR Tryz.prog 71 #[.int .i64 n] w (eQ.at S (qc (n : Rat))) := by
  refine enter Tryz.func71 rfl Tryz.ntmps71 rfl ?_
  refine .seq (.region (.alloc rfl zero_Q fun w1 b1 n1 => .nil ?_))
  obtain ⟨e1, k1, hb1, hs1⟩ := n1
  have hS : ¬ Sx S w.heap.size w1.heap.size b1 := Sx.no (by omega) (by omega)
  have up1 : Up (Sx S w.heap.size w1.heap.size) w1 := Sx.up up (Nat.le_refl _) e1.size
  refine .seq (.region (.mv rfl rfl ?_))
  refine .call _ rfl E_whole_FromInt64 rfl (whole_FromInt64_c up1 h1 h2) fun v2 w2 e2 h2 => ?_
  obtain ⟨s, rfl, hs⟩ := h2
  refine .bld _ rfl rfl bld_Q1 ?_
  have hq : eQ.R (Sx S w.heap.size w1.heap.size) w2 (.agg #[.bool (zc n).neg, s, .bool false, .slice none 0 0]) (qc (n : Rat)) := by
    rw [qc_int]
    exact ⟨s, _, rfl, hs, RL.nil⟩
  refine .storeA (E := eQ) ty_Q rfl rfl (k1.ext e2) rfl rfl hq hS fun w3 k3 u3 h3 => .nil (.ret ?_)
  exact .cell Tryz.results71 rfl ty_Q rfl rfl k3 h3 ⟨u3.below (e1.trans e2) (by omega), h3.out⟩

theorem E_frac_Canonical : Ent Tryz.prog 61 := ent_of Tryz.func61 (by kernel_rfl) rfl
theorem frac_Canonical_c {S : Nat → Prop} {w : World} {va : Value} {a : QV} {L : Nat} (up : Up S w) (ha : eQ.R S w va a) (hla : qok L a) (hL : 1 ≤ L) (hL2 : L ≤ 1000000000000) : CR Tryz.prog 61 #[va] w (eQ.at S (qc (qval a))) := by
  have hva := shpA rfl ha
  have hpa := pd_pos a
  refine enter Tryz.func61 rfl Tryz.ntmps61 rfl ?_
  refine .seq (.region (.box rfl rfl fun w1 b1 n1 => .alloc rfl zero_Q fun w2 b2 n2 => .nil ?_))
  obtain ⟨e1, k1, hb1, hs1⟩ := n1
  obtain ⟨e2, k2, hb2, hs2⟩ := n2
  have x2 := e1.trans e2
  have k1 := k1.ext e2
  have hS : ¬ Sx S w.heap.size w2.heap.size b2 := Sx.no (by omega) (by omega)
  have up2 : Up (Sx S w.heap.size w2.heap.size) w2 := Sx.up up (Nat.le_refl _) x2.size
  have ha2 := (ha.par w2.heap.size).ext x2
  have hout : ∀ {W : World} {v : Value} {z : QV}, eQ.R (Sx S w.heap.size w2.heap.size) W v z → eQ.R S W v z := fun h => h.out
  generalize hT : Sx S w.heap.size w2.heap.size = T at *
  refine .seq (.seq (.region (.ldA ty_Q rfl rfl k1 (eQ.csz ha) ?_)))
  rw [← hva]
  refine .call _ rfl E_frac_short rfl (frac_short_c ha2) fun v3 w3 e3 h3 => ?_
  subst h3
  unfold shortV
  cases hsa : shortB a with
  | true =>
    have ba := short_b hsa
    refine .mv rfl rfl (.ext rfl rfl rfl (.ext rfl rfl rfl (.ext rfl rfl rfl (.asg rfl rfl (.asg rfl rfl (.asg rfl rfl (.nil ?_)))))))
    refine .seq (.region (.mv rfl rfl (.nil (.condT rfl (.seq (.region (.mv rfl rfl (.mv rfl rfl ?_))))))))
    refine .call _ rfl E_frac_ratio rfl (frac_ratio_c (up2.ext e3.size) hpa (by omega) (by omega) (by omega)) fun v4 w4 e4 h4 => ?_
    refine .storeA (E := eQ) ty_Q rfl rfl ((k2.ext e3).ext e4) rfl rfl h4 hS fun w5 k5 u5 h5 => .nil (.ret ?_)
    exact .cell Tryz.results61 rfl ty_Q rfl rfl k5 h5 ⟨u5.below ((x2.trans e3).trans e4) (by omega), hout h5⟩
  | false =>
    refine .mv rfl rfl (.ext rfl rfl rfl (.ext rfl rfl rfl (.ext rfl rfl rfl (.asg rfl rfl (.asg rfl rfl (.asg rfl rfl (.nil ?_)))))))
    refine .seq (.region (.mv rfl rfl (.nil (.condF rfl (.skip ?_)))))
    refine .seq (.region (.ldA ty_Q rfl rfl (k1.ext e3) (eQ.csz ha) ?_))
    rw [← hva]
    refine .call _ rfl E_frac_parts rfl (frac_parts_c (up2.ext e3.size) (ha2.ext e3) hla hL hL2) fun v4 w4 e4 h4 => ?_
    obtain ⟨u1, u2, rfl, h1, h2⟩ := h4
    refine .ext rfl rfl rfl (.ext rfl rfl rfl ?_)
    refine .call _ rfl E_frac_reduce rfl (frac_reduce_c ((up2.ext e3.size).ext e4.size) h1 h2 (by omega) hL2) fun v5 w5 e5 h5 => ?_
    refine .storeA (E := eQ) ty_Q rfl rfl (((k2.ext e3).ext e4).ext e5) rfl rfl h5 hS fun w6 k6 u6 h6 => .nil (.ret ?_)
    exact .cell Tryz.results61 rfl ty_Q rfl rfl k6 h6 ⟨u6.below (((x2.trans e3).trans e4).trans e5) (by omega), hout h6⟩

theorem E_frac_Sign : Ent Tryz.prog 54 := ent_of Tryz.func54 (by kernel_rfl) rfl
theorem frac_Sign_c {S : Nat → Prop} {w : World} {va : Value} {a : QV} (ha : eQ.R S w va a) : CR Tryz.prog 54 #[va] w (Is (.int .i64 (sgnR (qval a)))) := by
  rw [sgnR_qval]
  obtain ⟨s, t, rfl, hn, hd⟩ := eQ_parts ha
  refine enter Tryz.func54 rfl Tryz.ntmps54 rfl ?_
  refine .seq (.region (.box rfl rfl fun w1 b1 n1 => .asg rfl rfl (.nil ?_)))
  obtain ⟨e1, k1, hb1, hs1⟩ := n1
  refine .seq (.seq (.region (.fa fld_Q1 rfl rfl (.ldN [.bool a.den.neg, t] ty_Z rfl rfl k1 (by intro j u hu; match j with | 0 => exact hu | 1 => exact hu | j + 2 => simp at hu) ?_))))
  refine .call _ rfl E_whole_Sign rfl (whole_Sign_c (hd.ext e1)) fun v2 w2 e2 h2 => ?_
  subst h2
  have x2 := e1.trans e2
  by_cases h0 : zval a.den < 0
  · refine .lssT rfl rfl rfl (by rw [Int.sign_eq_neg_one_of_neg h0]; decide) (.nil (.condT rfl (.seq (.region ?_))))
    refine .fa fld_Q0 rfl rfl (.ldN [.bool a.num.neg, s] ty_Z rfl rfl (k1.ext e2) (by intro j u hu; match j with | 0 => exact hu | 1 => exact hu | j + 2 => simp at hu) ?_)
    refine .call _ rfl E_whole_Sign rfl (whole_Sign_c (hn.ext x2)) fun v3 w3 e3 h3 => ?_
    subst h3
    refine .neg rfl rfl (.asg rfl rfl (.nil (.ret ?_)))
    have hp : pn a = -zval a.num := by unfold pn; rw [if_pos h0]
    refine .plain [_] Tryz.results54 ⟨rfl, trivial⟩ ⟨x2.trans e3, isI ?_⟩
    rw [hp, Int.sign_neg]
    have : -1 ≤ (zval a.num).sign ∧ (zval a.num).sign ≤ 1 := by
      rcases Int.lt_trichotomy (zval a.num) 0 with h | h | h
      · rw [Int.sign_eq_neg_one_of_neg h]; decide
      · rw [h]; decide
      · rw [Int.sign_eq_one_of_pos h]; decide
    rw [wI (by omega), Int.zero_sub]
  · have hs : ¬ (zval a.den).sign < 0 := fun h => h0 (Int.sign_neg_iff.1 h)
    refine .lssF rfl rfl rfl hs (.nil (.condF rfl (.skip (.seq (.region ?_)))))
    refine .fa fld_Q0 rfl rfl (.ldN [.bool a.num.neg, s] ty_Z rfl rfl (k1.ext e2) (by intro j u hu; match j with | 0 => exact hu | 1 => exact hu | j + 2 => simp at hu) ?_)
    refine .call _ rfl E_whole_Sign rfl (whole_Sign_c (hn.ext x2)) fun v3 w3 e3 h3 => ?_
    subst h3
    refine .asg rfl rfl (.nil (.ret ?_))
    have hp : pn a = zval a.num := by unfold pn; rw [if_neg h0]
    exact .plain [_] Tryz.results54 ⟨rfl, trivial⟩ ⟨x2.trans e3, isI (by rw [hp])⟩

theorem E_frac_sign : Ent Tryz.prog 136 := ent_of Tryz.func136 (by kernel_rfl) rfl
theorem frac_sign_c {w : World} {n : Int} : CR Tryz.prog 136 #[.int .i64 n] w (Is (.int .i64 n.sign)) := by
  refine enter Tryz.func136 rfl Tryz.ntmps136 rfl ?_
  refine .seq (.region (.asg rfl rfl (.nil (.seq (.block (.seq (.region (.mv rfl rfl ?_))))))))
  by_cases h : n < 0
  · refine .lssT rfl rfl rfl h (.asg rfl rfl (.nil (.condT rfl (.seq (.region (.asg rfl rfl (.nil (.ret ?_))))))))
    exact .plain [_] Tryz.results136 ⟨rfl, trivial⟩ ⟨.refl _, isI (by rw [Int.sign_eq_neg_one_of_neg h])⟩
  refine .lssF rfl rfl rfl h (.asg rfl rfl (.nil (.condF rfl (.seq (.region (.mv rfl rfl ?_))))))
  by_cases h' : 0 < n
  · refine .gtrT rfl rfl rfl h' (.asg rfl rfl (.nil (.condT rfl (.seq (.region (.asg rfl rfl (.nil (.ret ?_))))))))
    exact .plain [_] Tryz.results136 ⟨rfl, trivial⟩ ⟨.refl _, isI (by rw [Int.sign_eq_one_of_pos h'])⟩
  refine .gtrF rfl rfl rfl h' (.asg rfl rfl (.nil (.condF rfl (.skip (.seq (.region (.asg rfl rfl (.nil (.ret ?_)))))))))
  exact .plain [_] Tryz.results136 ⟨rfl, trivial⟩ ⟨.refl _, isI (by rw [show n = 0 by omega]; rfl)⟩

theorem E_frac_Cmp : Ent Tryz.prog 119 := ent_of Tryz.func119 (by kernel_rfl) rfl
theorem frac_Cmp_c {S : Nat → Prop} {w : World} {va vb : Value} {a b : QV} {L : Nat} (up : Up S w) (ha : eQ.R S w va a) (hb : eQ.R S w vb b) (hla : qok L a) (hlb : qok L b) (hL : 1 ≤ L) (hL2 : L ≤ 100000000000) :
    CR Tryz.prog 119 #[va, vb] w (Is (.int .i64 (cmpR (qval a) (qval b)))) := by
  rw [cmpR_qval]
  have hva := shpA rfl ha
  have hvb := shpA rfl hb
  have hpa := pd_pos a
  have hpb := pd_pos b
  refine enter Tryz.func119 rfl Tryz.ntmps119 rfl ?_
  refine .seq (.region (.box rfl rfl fun w1 b4 n1 => .box rfl rfl fun w2 b5 n2 => .asg rfl rfl (.nil ?_)))
  obtain ⟨e1, k4, hb4, hs1⟩ := n1
  obtain ⟨e2, k5, hb5, hs2⟩ := n2
  have x3 := e1.trans e2
  have k4 := k4.ext e2
  have hS5 : ¬ Sx S w.heap.size w2.heap.size b5 := Sx.no (by omega) (by omega)
  have up3 : Up (Sx S w.heap.size w2.heap.size) w2 := Sx.up up (Nat.le_refl _) x3.size
  have ha3 := (ha.par w2.heap.size).ext x3
  have hb3 := (hb.par w2.heap.size).ext x3
  have hc5 : b5 < w2.heap.size := by omega
  generalize hT : Sx S w.heap.size w2.heap.size = T at *
  -- the parts of a
  refine .seq (.region (.ldA ty_Q rfl rfl k4 (eQ.csz ha) ?_))
  rw [← hva]
  refine .call _ rfl E_frac_parts rfl (frac_parts_c up3 ha3 hla hL (by omega)) fun v4 w4 e4 h4 => ?_
  obtain ⟨u1, u2, rfl, h1, h2⟩ := h4
  replace h1 : (eZn L).R T w4 u1 (pn a) := h1
  replace h2 : (eZn L).R T w4 u2 (pd a) := h2
  refine .mv rfl rfl (.ext rfl rfl rfl (.ext rfl rfl rfl (.alloc rfl zero_Z fun w5 b7 n5 => .alloc rfl zero_Z fun w6 b8 n6 => ?_)))
  obtain ⟨e5, k7, hb7, hs5⟩ := n5
  obtain ⟨e6, k8, hb8, hs6⟩ := n6
  have e56 := e5.trans e6
  have k7 := k7.ext e6
  have hs4 := e4.size
  have hS7 : ¬ Sx T w4.heap.size w6.heap.size b7 := Sx.no (by omega) (by omega)
  have hS8 : ¬ Sx T w4.heap.size w6.heap.size b8 := Sx.no (by omega) (by omega)
  have h16 := (h1.par w6.heap.size).ext e56
  have h26 := (h2.par w6.heap.size).ext e56
  have hb6' := ((hb3.ext e4).par w6.heap.size).ext e56
  have up6 : Up (Sx T w4.heap.size w6.heap.size) w6 := Sx.up (up3.ext e4.size) (Nat.le_refl _) e56.size
  have hn78 : b8 ≠ b7 := by omega
  have hw7 : w.heap.size ≤ b7 := by have := x3.size; omega
  have hw8 : w.heap.size ≤ b8 := by have := x3.size; omega
  have hn57 : b5 ≠ b7 := by omega
  have hn58 : b5 ≠ b8 := by omega
  have hc7 : b7 < w6.heap.size := by omega
  have hc8 : b8 < w6.heap.size := by omega
  generalize hT2 : Sx T w4.heap.size w6.heap.size = T2 at *
  refine .storeA (E := eZn L) ty_Z rfl rfl k7 rfl rfl h16 hS7 fun w7 k7 u7 h17 => ?_
  refine .storeA (E := eZn L) ty_Z rfl rfl (k8.upd u7 hn78) rfl rfl (h26.upd u7 hS7) hS8 fun w8 k8 u8 h28 => .nil ?_
  have h18 := h17.upd u8 hS8
  have k7 := k7.upd u8 (Ne.symm hn78)
  have x6 := (x3.trans e4).trans e56
  have x8 : Ext w w8 := u8.below (u7.below x6 hw7) hw8
  have k5 := (((k5.ext e4).ext e56).upd u7 hn57).upd u8 hn58
  have hb8' := (hb6'.upd u7 hS7).upd u8 hS8
  have up8 : Up T2 w8 := up6.ext (by rw [u8.size, u7.size]; exact Nat.le_refl _)
  have hs8 : w8.heap.size = w6.heap.size := by rw [u8.size, u7.size]
  -- the parts of b
  refine .seq (.region (.ldA ty_Q rfl rfl k5 (eQ.csz hb) ?_))
  rw [← hvb]
  refine .call _ rfl E_frac_parts rfl (frac_parts_c up8 hb8' hlb hL (by omega)) fun v9 w9 e9 h9 => ?_
  obtain ⟨u3, u4, rfl, h3, h4⟩ := h9
  replace h3 : (eZn L).R T2 w9 u3 (pn b) := h3
  replace h4 : (eZn L).R T2 w9 u4 (pd b) := h4
  refine .mv rfl rfl (.ext rfl rfl rfl (.ext rfl rfl rfl (.alloc rfl zero_Z fun w10 b9 n10 => .alloc rfl zero_Z fun w11 b10 n11 => ?_)))
  obtain ⟨e10, k9, hb9, hs10⟩ := n10
  obtain ⟨e11, k10, hb10, hs11⟩ := n11
  have e1011 := e10.trans e11
  have k9 := k9.ext e11
  have hs9 := e9.size
  have hS9 : ¬ Sx T2 w9.heap.size w11.heap.size b9 := Sx.no (by omega) (by omega)
  have hS10 : ¬ Sx T2 w9.heap.size w11.heap.size b10 := Sx.no (by omega) (by omega)
  have h1' := ((h18.ext e9).par w11.heap.size).ext e1011
  have h2' := ((h28.ext e9).par w11.heap.size).ext e1011
  have h3' := (h3.par w11.heap.size).ext e1011
  have h4' := (h4.par w11.heap.size).ext e1011
  have up11 : Up (Sx T2 w9.heap.size w11.heap.size) w11 := Sx.up (up8.ext e9.size) (Nat.le_refl _) e1011.size
  have hn910 : b10 ≠ b9 := by omega
  have hw9 : w.heap.size ≤ b9 := by have := x8.size; omega
  have hw10 : w.heap.size ≤ b10 := by have := x8.size; omega
  have n79 : b7 ≠ b9 := by omega
  have n710 : b7 ≠ b10 := by omega
  have n89 : b8 ≠ b9 := by omega
  have n810 : b8 ≠ b10 := by omega
  generalize hT3 : Sx T2 w9.heap.size w11.heap.size = T3 at *
  refine .storeA (E := eZn L) ty_Z rfl rfl k9 rfl rfl h3' hS9 fun w12 k9 u12 h312 => ?_
  refine .storeA (E := eZn L) ty_Z rfl rfl (k10.upd u12 hn910) rfl rfl (h4'.upd u12 hS9) hS10 fun w13 k10 u13 h413 => .nil ?_
  have h313 := h312.upd u13 hS10
  have k9 := k9.upd u13 (Ne.symm hn910)
  have x11 := (x8.trans e9).trans e1011
  have x13 : Ext w w13 := u13.below (u12.below x11 hw9) hw10
  have h113 := (h1'.upd u12 hS9).upd u13 hS10
  have h213 := (h2'.upd u12 hS9).upd u13 hS10
  have k7 := (((k7.ext e9).ext e1011).upd u12 n79).upd u13 n710
  have k8 := (((k8.ext e9).ext e1011).upd u12 n89).upd u13 n810
  have up13 : Up T3 w13 := up11.ext (by rw [u13.size, u12.size]; exact Nat.le_refl _)
  have hv1 := shpA (E := eZn L) rfl h113
  have hv2 := shpA (E := eZn L) rfl h213
  have hv3 := shpA (E := eZn L) rfl h313
  have hv4 := shpA (E := eZn L) rfl h413
  have l1 := Zv.lt h113
  have l2 := Zv.lt h213
  have l3 := Zv.lt h313
  have l4 := Zv.lt h413
  obtain ⟨z1, h1, hz1, hl1⟩ := h113
  obtain ⟨z2, h2, hz2, hl2⟩ := h213
  obtain ⟨z3, h3, hz3, hl3⟩ := h313
  obtain ⟨z4, h4, hz4, hl4⟩ := h413
  have sa : (pn a * pd b).sign = (pn a).sign := sign_mul_pos hpb
  have sb : (pn b * pd a).sign = (pn b).sign := sign_mul_pos hpa
  have bs : ∀ n : Int, -1 ≤ n.sign ∧ n.sign ≤ 1 := by
    intro n
    rcases Int.lt_trichotomy n 0 with h | h | h
    · rw [Int.sign_eq_neg_one_of_neg h]; decide
    · rw [h]; decide
    · rw [Int.sign_eq_one_of_pos h]; decide
  have b1 := bs (pn a)
  have b2 := bs (pn b)
  refine .mid (α := Unit) (fun _ => [(5, .pointer (some ⟨b7, 0, none⟩)), (6, .pointer (some ⟨b8, 0, none⟩)), (7, .pointer (some ⟨b9, 0, none⟩)), (8, .pointer (some ⟨b10, 0, none⟩))]) (fun _ W => Ext w13 W) ?_ ?_
  · refine .seq ?_
    refine .par follows 3 [.inl u1, .inl (.int .i64 (pn a).sign), .inl u3] [[], [(21, 0)], []] (by kernel_rfl) ⟨
      fun w e => ((v_ldA ty_Z rfl (k7.ext e) (eZ.csz h1)).eq hv1.symm).ob,
      fun w e => (g_call _ E_whole_Sign rfl (by have := whole_Sign_c (h1.ext e); rw [hz1] at this; exact this)).obIs,
      fun w e => ((v_ldA ty_Z rfl (k9.ext e) (eZ.csz h3)).eq hv3.symm).ob, trivial⟩ ?_
    intro w14 e14
    refine .call _ rfl E_whole_Sign rfl (whole_Sign_c (h3.ext e14)) fun v15 w15 e15 h15 => ?_
    subst h15
    rw [hz3]
    refine .asg rfl rfl (.asg rfl rfl (.nil ?_))
    have e1315 := e14.trans e15
    refine .seq (.region (.mv rfl rfl (.mv rfl rfl ?_)))
    have hend : ∀ {σ : Env}, (pn a).sign ≠ (pn b).sign ∨ (pn a).sign = 0 → Kx.look σ 9 = some (.int .i64 (pn a).sign) → Kx.look σ 10 = some (.int .i64 (pn b).sign) → True := fun _ _ _ => trivial
    by_cases hne : (pn a).sign = (pn b).sign
    · refine .neqF rfl rfl rfl hne (.mv rfl rfl (.gr rfl rfl rfl rfl (.mv rfl rfl (.gr rfl rfl rfl rfl ?_))))
      by_cases h0 : (pn a).sign = 0
      · refine .eqlT rfl rfl rfl h0 (.pick rfl rfl rfl (.nil (.condT rfl (.seq (.region (.mv rfl rfl (.mv rfl rfl (.sub rfl rfl rfl ?_))))))))
        rw [wI (by omega)]
        refine .call _ rfl E_frac_sign rfl frac_sign_c fun v16 w16 e16 h16 => ?_
        subst h16
        refine .asg rfl rfl (.nil (.ret ?_))
        exact .plain [_] Tryz.results119 ⟨rfl, trivial⟩ ⟨(x13.trans e1315).trans e16, isI (by rw [cmpI_of_signs (by rw [sa, sb]; exact .inr h0), sa, sb])⟩
      · refine .eqlF rfl rfl rfl h0 (.pick rfl rfl rfl (.nil (.condF rfl (.skip ?_))))
        exact ⟨rfl, (), look_cons rfl (look_cons rfl (look_cons rfl (look_cons rfl look_nil))), e1315⟩
    · refine .neqT rfl rfl rfl hne (.mv rfl rfl (.gs rfl rfl rfl rfl rfl (.gs rfl rfl rfl rfl rfl (.pick rfl rfl rfl (.nil (.condT rfl (.seq (.region (.mv rfl rfl (.mv rfl rfl (.sub rfl rfl rfl ?_)))))))))))
      rw [wI (by omega)]
      refine .call _ rfl E_frac_sign rfl frac_sign_c fun v16 w16 e16 h16 => ?_
      subst h16
      refine .asg rfl rfl (.nil (.ret ?_))
      exact .plain [_] Tryz.results119 ⟨rfl, trivial⟩ ⟨(x13.trans e1315).trans e16, isI (by rw [cmpI_of_signs (by rw [sa, sb]; exact .inl hne), sa, sb])⟩
  · intro _ W hW
    have k7 := k7.ext hW
    have k8 := k8.ext hW
    have k9 := k9.ext hW
    have k10 := k10.ext hW
    have h1W := h1.ext hW
    have h2W := h2.ext hW
    have h3W := h3.ext hW
    have h4W := h4.ext hW
    have upW := up13.ext hW.size
    refine .seq ?_
    refine .par follows 5 [.inl u1, .inl u4, .inr (eZ.at T3 (zc (pn a * pd b))), .inl u3, .inl u2] [[], [], [(36, 0), (37, 1)], [], []] (by kernel_rfl) ⟨
      fun w e => ((v_ldA ty_Z rfl (k7.ext e) (eZ.csz h1)).eq hv1.symm).ob,
      fun w e => ((v_ldA ty_Z rfl (k10.ext e) (eZ.csz h4)).eq hv4.symm).ob,
      fun w e => (g_call _ E_whole_Mul rfl (by have := whole_Mul_c (upW.ext e.size) (h1W.ext e) (h4W.ext e) (by omega) (by omega); rw [hz1, hz4] at this; exact this)).ob (st_at _ _ _),
      fun w e => ((v_ldA ty_Z rfl (k9.ext e) (eZ.csz h3)).eq hv3.symm).ob,
      fun w e => ((v_ldA ty_Z rfl (k8.ext e) (eZ.csz h2)).eq hv2.symm).ob, trivial⟩ ?_
    intro w14 e14 x2 hx2
    refine .call _ rfl E_whole_Mul rfl (whole_Mul_c (upW.ext e14.size) (h3W.ext e14) (h2W.ext e14) (by omega) (by omega)) fun v15 w15 e15 h15 => ?_
    refine .call _ rfl E_whole_Cmp rfl (whole_Cmp_c (hx2.ext e15) h15) fun v16 w16 e16 h16 => ?_
    subst h16
    refine .asg rfl rfl (.nil (.ret ?_))
    exact .plain [_] Tryz.results119 ⟨rfl, trivial⟩ ⟨(((x13.trans hW).trans e14).trans e15).trans e16, isI (by rw [zval_zc, zval_zc, hz2, hz3])⟩

end Go.Proofs.YtgghedhmjhaieaaGreat
