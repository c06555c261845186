/-
  math/bits: Len32, LeadingZeros32; whole: shortDiv; slices.Clone, what is its own whole: estimate, subtractMultiple whole: longDiv whole: divWords, signedSum, Add, Sub, Mul, Cmp whole: divWords, DivMod, GCD whole: DivMod, GCD
-/
import Derived.Test.YtgghedhmjhaieaaGreatG3
import Derived.Test.YtgghedhmjhaieaaGreatG2
import Derived.Test.YtgghedhmjhaieaaGreatG1
set_option linter.unusedVariables false
namespace Go.Proofs.YtgghedhmjhaieaaGreat
open Go Go.Kx Go.RowKit

theorem v_istr {P : Program} {σ : Env} {w : World} {d : Option Tmp} {ty : TypeId} {pos : String} {af : Array Edge} {g : Option (Nat × Bool)} {t : TypeId} {x ix : Operand} {s : ByteArray} {k : IntKind} {i : Nat} {b : UInt8} (ht : P.underlying t = some .string) (hx : ev σ x = some (.string s))
    (hi : ev σ ix = some (.int k (i : Int))) (hb : s[i]? = some b) : Vl P ⟨d, .index t x ix, ty, pos, af, g⟩ σ w (.int .u8 b.toNat) := by
  refine ⟨(by intro _ h; cases h), fun ρ hρ => ?_⟩
  have h1 := hρ x _ (by simp [Op.operands]) hx
  have h2 := hρ ix _ (by simp [Op.operands]) hi
  simp [execOp, h1, h2, Instr.index, asIntOf, run_underlying ht, hb]

theorem un_str : Tryz.prog.underlying 9 = some .string := by kernel_rfl
theorem un_u8 : Tryz.prog.underlying 5 = some (.int .u8) := by kernel_rfl

/-- what Len32 says of x: x is less than 2^L -/
@[reducible] def LenP (x : Nat) : Value → World → Prop := fun v _ => ∃ L : Nat, v = .int .i64 L ∧ L ≤ 32 ∧ x < 2 ^ L ∧ (0 < x → 0 < L)

theorem E_Len32 : Ent Tryz.prog 159 := ent_of Tryz.func159 (by kernel_rfl) rfl
theorem Len32_c {w : World} {x : Nat} (hx : x < 4294967296) : CR Tryz.prog 159 #[.int .u32 x] w (LenP x) := by
  refine enter Tryz.func159 rfl Tryz.ntmps159 rfl ?_
  refine .seq (.region (.asg rfl rfl (.nil ?_)))
  refine .mid (α := Nat × Nat) (fun y => [(0, .int .u32 (y.1 : Nat)), (2, .int .i64 (y.2 : Nat))]) (fun y W => W = w ∧ y.1 < 65536 ∧ y.2 ≤ 16 ∧ (∀ L, y.1 < 2 ^ L → x < 2 ^ (y.2 + L)) ∧ (0 < x → 0 < y.1 + y.2)) ?_ ?_
  · refine .seq (.region (.mv rfl rfl ?_))
    by_cases h : 65536 ≤ x
    · refine .geqT rfl rfl rfl (by omega) (.nil (.condT rfl (.seq (.region (.mv rfl rfl (.shr rfl rfl rfl (by decide) (.asg rfl rfl (.nil (.region (.asg rfl rfl (.nil ?_)))))))))))
      have : ((x : Int).fdiv ((2 : Int) ^ (min (16 : Int).toNat IntKind.u32.bits))) = ((x / 65536 : Nat) : Int) := fdiv_nat x 16
      rw [this]
      refine ⟨rfl, (x / 65536, 16), look_cons rfl (look_cons rfl look_nil), rfl, by show x / 65536 < 65536; omega, Nat.le_refl _, fun L hL => ?_, fun _ => by show 0 < x / 65536 + 16; omega⟩
      replace hL : x / 65536 < 2 ^ L := hL
      rw [Nat.div_lt_iff_lt_mul (by omega)] at hL
      show x < 2 ^ (16 + L)
      rw [Nat.pow_add]; omega
    · refine .geqF rfl rfl rfl (by omega) (.nil (.condF rfl (.skip ?_)))
      exact ⟨rfl, (x, 0), look_cons rfl (look_cons rfl look_nil), rfl, by show x < 65536; omega, Nat.zero_le _, fun L hL => by simpa using hL, fun h => by show 0 < x + 0; omega⟩
  · rintro ⟨y, n⟩ W ⟨rfl, hy, hn, hL, h0⟩
    replace hy : y < 65536 := hy
    replace hn : n ≤ 16 := hn
    replace hL : ∀ L, y < 2 ^ L → x < 2 ^ (n + L) := hL
    replace h0 : 0 < x → 0 < y + n := h0
    refine .mid (α := Nat × Nat) (fun y => [(0, .int .u32 (y.1 : Nat)), (2, .int .i64 (y.2 : Nat))]) (fun y W' => W' = W ∧ y.1 < 256 ∧ y.2 ≤ 24 ∧ (∀ L, y.1 < 2 ^ L → x < 2 ^ (y.2 + L)) ∧ (0 < x → 0 < y.1 + y.2)) ?_ ?_
    · refine .seq (.region (.mv rfl rfl ?_))
      by_cases h : 256 ≤ y
      · refine .geqT rfl rfl rfl (by show (256 : Int) ≤ (y : Int); omega) (.nil (.condT rfl (.seq (.region (.mv rfl rfl (.shr (m := (y : Int)) rfl rfl rfl (by decide) (.asg rfl rfl (.nil (.region (.mv rfl rfl (.add (m := (n : Int)) rfl rfl rfl (.asg rfl rfl (.nil ?_)))))))))))))
        have : ((y : Int).fdiv ((2 : Int) ^ (min (8 : Int).toNat IntKind.u32.bits))) = ((y / 256 : Nat) : Int) := fdiv_nat y 8
        rw [this, wI (by omega)]
        refine ⟨rfl, (y / 256, n + 8), look_cons rfl (look_cons rfl look_nil), rfl, by show y / 256 < 256; omega, by show n + 8 ≤ 24; omega, fun L hL' => ?_, fun _ => by show 0 < y / 256 + (n + 8); omega⟩
        replace hL' : y / 256 < 2 ^ L := hL'
        rw [Nat.div_lt_iff_lt_mul (by omega)] at hL'
        show x < 2 ^ (n + 8 + L)
        rw [Nat.add_assoc]
        refine hL _ ?_
        rw [Nat.pow_add]; omega
      · refine .geqF rfl rfl rfl (by show ¬ (256 : Int) ≤ (y : Int); omega) (.nil (.condF rfl (.skip ?_)))
        exact ⟨rfl, (y, n), look_cons rfl (look_cons rfl look_nil), rfl, by show y < 256; omega, by show n ≤ 24; omega, hL, h0⟩
    · rintro ⟨y, n⟩ W ⟨rfl, hy, hn, hL, h0⟩
      replace hy : y < 256 := hy
      replace hn : n ≤ 24 := hn
      replace hL : ∀ L, y < 2 ^ L → x < 2 ^ (n + L) := hL
      replace h0 : 0 < x → 0 < y + n := h0
      refine .seq (.region (.mv rfl rfl (.mv rfl rfl (.cvt (m := (y : Int)) un_u32 un_u8 rfl rfl ?_))))
      rw [show IntKind.u8.wrap (y : Int) = (y : Int) by rw [IntKind.wrap_u8]; omega]
      have hall : ∀ s : ByteArray, ((List.range 256).all fun i => match s[i]? with | some b => Nat.blt i (2 ^ b.toNat) && Nat.ble b.toNat 8 && (Nat.beq i 0 || Nat.blt 0 b.toNat) | none => false) = true → ∃ b, s[y]? = some b ∧ y < 2 ^ b.toNat ∧ b.toNat ≤ 8 ∧ (0 < y → 0 < b.toNat) := by
        intro s hs
        have := List.all_eq_true.1 hs y (List.mem_range.2 hy)
        cases hb : s[y]? with
        | none => rw [hb] at this; cases this
        | some b =>
          rw [hb] at this
          simp only [Bool.and_eq_true, Bool.or_eq_true, Nat.blt_eq, Nat.ble_eq, Nat.beq_eq] at this
          exact ⟨b, rfl, this.1.1, this.1.2, fun h => this.2.resolve_left (by omega)⟩
      obtain ⟨b, hb1, hb2, hb3, hb4⟩ := hall _ (by kernel_rfl)
      refine .gv rfl rfl (v_istr (i := y) un_str rfl rfl hb1).gv ?_
      rintro _ _ ⟨rfl, rfl⟩
      refine .cvt un_u8 un_int rfl rfl (.add rfl rfl rfl (.asg rfl rfl (.nil (.ret ?_))))
      rw [wI (n := ((b.toNat : Nat) : Int)) (by omega), wI (by omega), ← Int.natCast_add]
      refine .plain [_] Tryz.results159 ⟨rfl, trivial⟩ ⟨.refl _, n + b.toNat, rfl, by omega, hL _ hb2, fun h => ?_⟩
      have := h0 h
      rcases Nat.eq_zero_or_pos n with h' | h'
      · have := hb4 (by omega); omega
      · omega

theorem E_LeadingZeros32 : Ent Tryz.prog 153 := ent_of Tryz.func153 (by kernel_rfl) rfl
theorem LeadingZeros32_c {w : World} {x : Nat} (hx : x < 4294967296) (h0 : 0 < x) : CR Tryz.prog 153 #[.int .u32 x] w (fun v _ => ∃ s : Nat, v = .int .i64 s ∧ s ≤ 31 ∧ x * 2 ^ s < 4294967296) := by
  refine enter Tryz.func153 rfl Tryz.ntmps153 rfl ?_
  refine .seq (.region (.asg rfl rfl (.nil (.seq (.region (.mv rfl rfl ?_))))))
  refine .call _ rfl E_Len32 rfl (Len32_c hx) fun v w1 e1 h1 => ?_
  obtain ⟨L, rfl, hL, hxL, hL0⟩ := h1
  refine .sub rfl rfl rfl (.asg rfl rfl (.nil (.ret ?_)))
  rw [wI (by omega), show ((32 : Int) - (L : Int)) = ((32 - L : Nat) : Int) by omega]
  refine .plain [_] Tryz.results153 ⟨rfl, trivial⟩ ⟨e1, 32 - L, rfl, by have := hL0 h0; omega, ?_⟩
  have : 2 ^ L * 2 ^ (32 - L) = 4294967296 := by rw [← Nat.pow_add, show L + (32 - L) = 32 by omega]
  rw [← this]
  exact Nat.mul_lt_mul_of_pos_right hxL (Nat.pow_pos (by omega))

theorem E_whole_shortDiv : Ent Tryz.prog 147 := ent_of Tryz.func147 (by kernel_rfl) rfl
theorem whole_shortDiv_c {w : World} {g c : Nat} {U : List Nat} {d : Nat} (ho : OB 89 w g U) (hd0 : 0 < d) (hd : d < 4294967296) (hl : U.length ≤ 1099511627776) :
    Calls Tryz.prog 147 #[.slice (some ⟨g, 0, none⟩) U.length c, .int .u64 d] w fun e w' => ∃ v, e = .returned v ∧ (v = .int .u64 (val U % d : Nat) ∧ Upd w w' g ∧ ∃ V, OB 89 w' g V ∧ V.length = U.length ∧ val V = val U / d) := by
  refine enterG Tryz.func147 rfl Tryz.ntmps147 rfl ?_
  refine .seq (.region (.asg rfl rfl (.nil (.seq (.region (.asg rfl rfl (.nil ?_)))))))
  refine .mid (α := List Nat) (fun V => [(5, .int .u64 (val U % d : Nat))]) (fun V W => Upd w W g ∧ OB 89 W g V ∧ V.length = U.length ∧ val V = val U / d) ?_ ?_
  · refine .seq (.region (.mv rfl rfl (.len un_W rfl rfl (.sub rfl rfl rfl (.asg rfl rfl (.nil ?_))))))
    rw [wI (by omega)]
    refine .block (.loop (α := Nat × List Nat × Nat) (fun x => [(0, .slice (some ⟨g, 0, none⟩) U.length c), (1, .int .u64 d), (5, .int .u64 (x.2.2 : Nat)), (6, .int .i64 ((x.1 : Int) - 1))])
      (fun x W => Upd w W g ∧ OB 89 W g x.2.1 ∧ x.2.1.length = U.length ∧ x.1 ≤ U.length ∧ x.2.1.take x.1 = U.take x.1 ∧ x.2.2 < d ∧ val (x.2.1.drop x.1) * d + x.2.2 = val (U.drop x.1)) (fun x => x.1) (U.length, U, 0) ?_ ?_ ?_)
    · exact look_cons rfl (look_cons rfl (look_cons rfl (look_cons rfl look_nil)))
    · refine ⟨Upd.refl _ _, ho, rfl, Nat.le_refl _, rfl, hd0, ?_⟩
      show val (U.drop U.length) * d + 0 = val (U.drop U.length)
      rw [List.drop_of_length_le (Nat.le_refl _)]; simp [val]
    · rintro ⟨j, V, r⟩ W ⟨hu, ho, hV, hj, ht, hr, hv⟩
      replace ho : OB 89 W g V := ho
      replace hV : V.length = U.length := hV
      replace hj : j ≤ U.length := hj
      replace ht : V.take j = U.take j := ht
      replace hr : r < d := hr
      replace hv : val (V.drop j) * d + r = val (U.drop j) := hv
      rcases Nat.eq_zero_or_pos j with hj0 | hj0
      · subst hj0
        refine .seq (.seq (.region (.mv rfl rfl (.geqF rfl rfl rfl (by show ¬ (0 : Int) ≤ ((0 : Nat) : Int) - 1; omega) (.nil (.condF rfl (.exit ?_)))))))
        simp only [List.drop_zero] at hv
        have h1 : val U % d = r := by rw [← hv, Nat.mul_comm, Nat.mul_add_mod, Nat.mod_eq_of_lt hr]
        have h2 : val U / d = val V := by rw [← hv, Nat.mul_comm, Nat.mul_add_div hd0, Nat.div_eq_of_lt hr]; omega
        rw [h1, h2]
        exact ⟨rfl, V, look_cons rfl look_nil, hu, ho, hV, rfl⟩
      · obtain ⟨i, rfl⟩ : ∃ i, j = i + 1 := ⟨j - 1, by omega⟩
        have hi : ((i + 1 : Nat) : Int) - 1 = (i : Int) := by omega
        have hgi : V[i]? = some (V.getD i 0) := getD_get (by omega)
        have hdi := dig_getD ho.1 i
        generalize hx : V.getD i 0 = x at *
        refine .seq (.seq (.region (.mv (v := .int .i64 (i : Int)) rfl (by rw [← hi]; rfl) (.geqT rfl rfl rfl (by omega) (.nil (.condT rfl (.skip (.seq (.block (.seq (.region ?_))))))))))) 
        refine .mv rfl rfl (.shl (m := (r : Int)) rfl rfl rfl (by decide) ?_)
        rw [shl32 r (by omega)]
        refine .mv rfl rfl (.mv (v := .int .i64 (i : Int)) rfl (by rw [← hi]; rfl) (.ixB un_W ty_u32 rfl rfl rfl (by omega) ?_))
        rw [show 0 + i * 1 = i by omega]
        refine .ldO ty_u32 rfl rfl ho hgi (.cvt un_u32 un_u64 rfl rfl ?_)
        rw [wU (n := (x : Int)) (by omega)]
        refine .or_ rfl rfl rfl ?_
        rw [or_hi r x hdi (by omega)]
        have hlt : x + 4294967296 * r < 4294967296 * d := by
          have : 4294967296 * (r + 1) ≤ 4294967296 * d := Nat.mul_le_mul_left _ hr
          omega
        have hq : (x + 4294967296 * r) / d < 4294967296 := by
          rw [Nat.div_lt_iff_lt_mul hd0]; exact hlt
        have hq64 : x + 4294967296 * r < 18446744073709551616 := by omega
        refine .asg rfl rfl (.nil (.seq (.region (.mv rfl rfl (.mv (v := .int .i64 (i : Int)) rfl (by rw [← hi]; rfl) (.mv rfl rfl (.mv rfl rfl (.quo rfl rfl rfl (by omega) ?_))))))))
        rw [tdiv_nat, wrap64_nat, Nat.mod_eq_of_lt (Nat.lt_trans hq (by omega))]
        refine .cvt un_u64 un_u32 rfl rfl ?_
        rw [wrap32_nat, Nat.mod_eq_of_lt hq]
        refine .ixB un_W ty_u32 rfl rfl rfl (by omega) ?_
        rw [show 0 + i * 1 = i by omega]
        refine .stO ty_u32 rfl rfl rfl ho (by omega) hq fun W2 ho2 u2 => .nil (.region (.mv rfl rfl (.mv rfl rfl (.rem rfl rfl rfl (by omega) ?_))))
        rw [tmod_nat]
        refine .asg rfl rfl (.nil (.region (.mv (v := .int .i64 (i : Int)) rfl (by rw [← hi]; rfl) (.sub rfl rfl rfl (.asg rfl rfl (.nil ?_))))))
        rw [wI (n := (i : Int) - 1) (by omega)]
        refine ⟨rfl, (i, V.set i ((x + 4294967296 * r) / d), (x + 4294967296 * r) % d), look_cons rfl (look_cons rfl (look_cons rfl (look_cons rfl look_nil))), ⟨hu.trans u2, ho2, by simp [hV], by show i ≤ U.length; omega, ?_, Nat.mod_lt _ hd0, ?_⟩, Nat.lt_succ_self i⟩
        · show (V.set i _).take i = U.take i
          rw [List.take_set_of_le (Nat.le_refl _)]
          have := congrArg (List.take i) ht
          rw [List.take_take, List.take_take] at this
          simpa using this
        · show val ((V.set i ((x + 4294967296 * r) / d)).drop i) * d + (x + 4294967296 * r) % d = val (U.drop i)
          have hUi : U[i]? = some x := by
            have := congrArg (fun l => l[i]?) ht
            simp only [List.getElem?_take] at this
            rw [if_pos (by omega), if_pos (by omega)] at this
            rw [← this]; exact hgi
          have e1 : (V.set i ((x + 4294967296 * r) / d)).drop i = ((x + 4294967296 * r) / d) :: V.drop (i + 1) := by
            rw [List.drop_eq_getElem_cons (by simp; omega), List.getElem_set_self, List.drop_set_of_lt (by omega)]
          have e2 : U.drop i = x :: U.drop (i + 1) := by
            rw [List.drop_eq_getElem_cons (by omega)]
            rw [List.getElem?_eq_getElem (by omega)] at hUi
            rw [Option.some.inj hUi]
          rw [e1, e2, val, val, ← hv]
          have hdm := Nat.div_add_mod (x + 4294967296 * r) d
          generalize (x + 4294967296 * r) / d = q at *
          generalize (x + 4294967296 * r) % d = m at *
          rw [Nat.add_mul, Nat.mul_add, Nat.mul_comm q d, Nat.mul_assoc]
          omega
  · rintro V W ⟨hu, ho, hV, hv⟩
    refine .seq (.region (.mv rfl rfl (.asg rfl rfl (.nil (.ret ?_)))))
    exact .plain [_] Tryz.results147 ⟨rfl, trivial⟩ ⟨rfl, hu, V, ho, hV, hv⟩
end Go.Proofs.YtgghedhmjhaieaaGreat

namespace Go.Proofs.YtgghedhmjhaieaaGreat
open Go Go.Kx Go.RowKit

theorem E_whole_estimate : Ent Tryz.prog 155 := ent_of Tryz.func155 (by kernel_rfl) rfl
theorem whole_estimate_c {S : Nat → Prop} {w : World} {vu vv : Value} {u v : List Nat} {m : Nat} (hu : eW.R S w vu u) (hv : eW.R S w vv v) (hlu : u.length = m + 3) (hlv : v.length = m + 2) (hm : m ≤ 1099511627776) (h1 : 0 < v.getD (m + 1) 0) (hlt : val u < 4294967296 * val v) :
    CR Tryz.prog 155 #[vu, vv] w (fun x _ => ∃ q : Nat, x = .int .u64 q ∧ q < 4294967296 ∧ val u / val v ≤ q ∧ q ≤ val u / val v + 1) := by
  have hdu : dig u := eW_lt hu
  have hdv : dig v := eW_lt hv
  have eU := val_top3 hlu
  have eV := val_top2 hlv
  have hU0 := val_take_lt hdu m (by omega)
  have hV0 := val_take_lt hdv m (by omega)
  have d0 := dig_getD hdu m
  have d1 := dig_getD hdu (m + 1)
  have d2 := dig_getD hdu (m + 2)
  have c1 := dig_getD hdv (m + 1)
  have c2 := dig_getD hdv m
  have g0 : u[m]? = some (u.getD m 0) := getD_get (by omega)
  have g1 : u[m + 1]? = some (u.getD (m + 1) 0) := getD_get (by omega)
  have g2 : u[m + 2]? = some (u.getD (m + 2) 0) := getD_get (by omega)
  have f1 : v[m + 1]? = some (v.getD (m + 1) 0) := getD_get (by omega)
  have f2 : v[m]? = some (v.getD m 0) := getD_get (by omega)
  generalize val (u.take m) = U0 at *
  generalize val (v.take m) = V0 at *
  generalize u.getD m 0 = u0 at *
  generalize u.getD (m + 1) 0 = u1 at *
  generalize u.getD (m + 2) 0 = u2 at *
  generalize v.getD (m + 1) 0 = v1 at *
  generalize v.getD m 0 = v2 at *
  have hp : 0 < 4294967296 ^ m := Nat.pow_pos (by omega)
  generalize htop : u1 + 4294967296 * u2 = top at *
  have hwn1 : IntKind.i64.wrap ((v.length : Int) - 1) = ((m + 1 : Nat) : Int) := by rw [wI (by omega)]; omega
  have hwn2 : IntKind.i64.wrap ((v.length : Int) - 2) = ((m : Nat) : Int) := by rw [wI (by omega)]; omega
  refine enter Tryz.func155 rfl Tryz.ntmps155 rfl ?_
  refine .seq (.region (.asg rfl rfl (.nil (.seq (.region (.mv rfl rfl (.lenR un_W rfl rfl hv (.asg rfl rfl (.nil ?_)))))))))
  refine .seq ?_
  refine .par follows 13 [.inl _, .inl _, .inr (Ptr eU32 S u2), .inl (.int .u32 u2), .inl _, .inl _, .inl _, .inl _, .inl _, .inr (Ptr eU32 S u1), .inl (.int .u32 u1), .inl _, .inl _] [[], [], [(13, 0), (14, 1)], [(15, 2)], [(16, 3)], [(17, 4)], [], [], [(20, 7)], [(19, 6), (21, 8)], [(22, 9)], [(23, 10)], [(18, 5), (24, 11)]] (by kernel_rfl) ⟨
    fun w e => (v_mv rfl).ob,
    fun w e => (v_mv rfl).ob,
    fun w e => ob_ixN un_W ty_u32 rfl (hu.ext e) rfl (by rw [hlv]; exact g2),
    fun w e x hx => ob_ldU ty_u32 rfl hx,
    fun w e => (v_cvt un_u32 un_u64 rfl).ob,
    fun w e => (v_shl rfl rfl (by decide)).ob,
    fun w e => (v_mv rfl).ob,
    fun w e => (v_mv rfl).ob,
    fun w e => (v_sub rfl rfl).ob,
    fun w e => ob_ix un_W ty_u32 rfl (hu.ext e) rfl (by rw [hwn1]; omega) (by rw [hwn1]; exact g1),
    fun w e x hx => ob_ldU ty_u32 rfl hx,
    fun w e => (v_cvt un_u32 un_u64 rfl).ob,
    fun w e => (v_or rfl rfl).ob, trivial⟩ ?_
  intro w1 e1 _ _ _ _
  refine .asg rfl rfl (.nil ?_)
  rw [wU (n := (u2 : Int)) (by omega), wU (n := (u1 : Int)) (by omega), shl32 u2 d2, or_hi u2 u1 d1 d2, htop]
  refine .seq ?_
  refine .par follows 13 [.inl _, .inl _, .inl _, .inr (Ptr eU32 S v1), .inl (.int .u32 v1), .inl _, .inl _, .inl _, .inl _, .inr (Ptr eU32 S v2), .inl (.int .u32 v2), .inl _, .inl _] [[], [], [(27, 1)], [(26, 0), (28, 2)], [(29, 3)], [(30, 4)], [], [], [(33, 7)], [(32, 6), (34, 8)], [(35, 9)], [(36, 10)], [(31, 5)]] (by kernel_rfl) ⟨
    fun w e => (v_mv rfl).ob,
    fun w e => (v_mv rfl).ob,
    fun w e => (v_sub rfl rfl).ob,
    fun w e => ob_ix un_W ty_u32 rfl (hv.ext (e1.trans e)) rfl (by rw [hwn1]; omega) (by rw [hwn1]; exact f1),
    fun w e x hx => ob_ldU ty_u32 rfl hx,
    fun w e => (v_cvt un_u32 un_u64 rfl).ob,
    fun w e => (v_mv rfl).ob,
    fun w e => (v_mv rfl).ob,
    fun w e => (v_sub rfl rfl).ob,
    fun w e => ob_ix un_W ty_u32 rfl (hv.ext (e1.trans e)) rfl (by rw [hwn2]; omega) (by rw [hwn2]; exact f2),
    fun w e x hx => ob_ldU ty_u32 rfl hx,
    fun w e => (v_cvt un_u32 un_u64 rfl).ob,
    fun w e => (v_as rfl).ob, trivial⟩ ?_
  intro w2 e2 _ _ _ _
  refine .asg rfl rfl (.nil ?_)
  rw [wU (n := (v1 : Int)) (by omega), wU (n := (v2 : Int)) (by omega)]
  refine .seq ?_
  refine .par follows 7 [.inl _, .inl _, .inl _, .inl _, .inl _, .inl _, .inl _] [[], [], [(38, 0), (39, 1)], [], [], [(41, 3), (42, 4)], [(40, 2)]] (by kernel_rfl) ⟨
    fun w e => (v_mv rfl).ob,
    fun w e => (v_mv rfl).ob,
    fun w e => (v_quo rfl rfl (by omega)).ob,
    fun w e => (v_mv rfl).ob,
    fun w e => (v_mv rfl).ob,
    fun w e => (v_rem rfl rfl (by omega)).ob,
    fun w e => (v_as rfl).ob, trivial⟩ ?_
  intro w3 e3
  refine .asg rfl rfl (.nil ?_)
  have htop64 : top < 18446744073709551616 := by omega
  rw [tdiv_nat, tmod_nat, wrap64_nat, Nat.mod_eq_of_lt (Nat.lt_of_le_of_lt (Nat.div_le_self _ _) htop64)]
  have x3 := (e1.trans e2).trans e3
  have hu3 := hu.ext x3
  refine .mid (α := Nat) (fun q => [(9, .int .u64 q)]) (fun q W => W = w3 ∧ q < 4294967296 ∧ val u / val v ≤ q ∧ q ≤ val u / val v + 1) ?_ ?_
  · refine .block (.loop (α := Nat × Nat) (fun x => [(9, .int .u64 (x.1 : Nat)), (10, .int .u64 (x.2 : Nat)), (7, .int .u64 v1), (8, .int .u64 v2), (0, vu), (5, .int .i64 (v.length : Nat))])
      (fun x W => W = w3 ∧ x.1 * v1 + x.2 = top ∧ val u / val v ≤ x.1 ∧ x.2 < 4294967296) (fun x => x.1) (top / v1, top % v1) ?_ ?_ ?_)
    · exact look_cons rfl (look_cons rfl (look_cons rfl (look_cons rfl (look_cons rfl (look_cons rfl look_nil)))))
    · refine ⟨rfl, ?_, est_start hp (by omega) eU eV hU0 d0 h1, ?_⟩
      · show top / v1 * v1 + top % v1 = top
        rw [Nat.mul_comm]; exact Nat.div_add_mod _ _
      · show top % v1 < 4294967296
        have := Nat.mod_lt top h1; omega
    · rintro ⟨g, r⟩ W ⟨rfl, ht, hq, hr⟩
      replace ht : g * v1 + r = top := ht
      replace hq : val u / val v ≤ g := hq
      replace hr : r < 4294967296 := hr
      have hg64 : g < 18446744073709551616 := by
        have := Nat.le_mul_of_pos_right g h1
        omega
      have hVp : 0 < val v := by
        rcases Nat.eq_zero_or_pos (val v) with h | h
        · rw [h] at hlt; omega
        · exact h
      refine .mid (α := Unit) (fun _ => [(9, .int .u64 (g : Nat)), (10, .int .u64 (r : Nat)), (7, .int .u64 v1), (8, .int .u64 v2), (0, vu), (5, .int .i64 (v.length : Nat))]) (fun _ W' => W' = W ∧ val u / val v < g) ?_ ?_
      · refine .seq (.region (.mv rfl rfl (.shr (m := (g : Int)) rfl rfl rfl (by decide) ?_)))
        rw [fdiv32 g]
        by_cases hgB : g < 4294967296
        · refine .neqF rfl rfl rfl (by omega) (.mv rfl rfl ?_)
          refine .gr rfl rfl rfl rfl (.mv rfl rfl (.gr rfl rfl rfl rfl (.mv rfl rfl (.gr rfl rfl rfl rfl (.mul (m := (g : Int)) (n := (v2 : Int)) rfl rfl rfl ?_)))))
          have hgv : g * v2 ≤ 4294967295 * 4294967295 := Nat.mul_le_mul (by omega) (by omega)
          rw [← Int.natCast_mul, wU (n := ((g * v2 : Nat) : Int)) (by omega)]
          refine .gr rfl rfl rfl rfl (.mv rfl rfl (.gr rfl rfl rfl rfl (.shl (m := (r : Int)) rfl rfl rfl (by decide) ?_)))
          rw [shl32 r hr]
          refine .gr rfl rfl rfl rfl (.mv rfl rfl (.gr rfl rfl rfl rfl (.mv rfl rfl (.gr rfl rfl rfl rfl (.sub (m := (v.length : Int)) rfl rfl rfl ?_)))))
          rw [hwn2]
          refine .gr rfl rfl rfl rfl (.ixN un_W ty_u32 rfl rfl hu3 rfl g0 fun p hp' => .gr rfl rfl rfl rfl (.ldE ty_u32 rfl rfl hp' fun e he => ?_))
          obtain ⟨rfl, _⟩ := he
          refine .gr rfl rfl rfl rfl (.cvt un_u32 un_u64 rfl rfl ?_)
          rw [wU (n := (u0 : Int)) (by omega)]
          refine .gr rfl rfl rfl rfl (.or_ rfl rfl rfl ?_)
          rw [or_hi r u0 d0 hr]
          by_cases hc : u0 + 4294967296 * r < g * v2
          · refine .gr rfl rfl rfl rfl (.gtrT rfl rfl rfl (by omega) (.pick rfl rfl rfl (.nil (.condT rfl (.skip ?_)))))
            exact ⟨rfl, (), look_cons rfl (look_cons rfl (look_cons rfl (look_cons rfl (look_cons rfl (look_cons rfl look_nil))))), rfl, est_down hp (by omega) eU eV hU0 h1 ht (by omega)⟩
          · refine .gr rfl rfl rfl rfl (.gtrF rfl rfl rfl (by omega) (.pick rfl rfl rfl (.nil (.condF rfl (.exit ?_)))))
            exact ⟨rfl, g, look_cons rfl look_nil, rfl, hgB, hq, est_stop hp (by omega) eU eV hV0 h1 ht hgB (by omega)⟩
        · refine .neqT rfl rfl rfl (by omega) (.mv rfl rfl ?_)
          refine .gs rfl rfl rfl rfl rfl (.gs rfl rfl rfl rfl rfl (.gs rfl rfl rfl rfl rfl (.gs rfl rfl rfl rfl rfl (.gs rfl rfl rfl rfl rfl (.gs rfl rfl rfl rfl rfl (.gs rfl rfl rfl rfl rfl ?_))))))
          refine .gs rfl rfl rfl rfl rfl (.gs rfl rfl rfl rfl rfl (.gs rfl rfl rfl rfl rfl (.gs rfl rfl rfl rfl rfl (.gs rfl rfl rfl rfl rfl (.gs rfl rfl rfl rfl rfl ?_)))))
          refine .pick rfl rfl rfl (.nil (.condT rfl (.skip ?_)))
          refine ⟨rfl, (), look_cons rfl (look_cons rfl (look_cons rfl (look_cons rfl (look_cons rfl (look_cons rfl look_nil))))), rfl, ?_⟩
          have : val u / val v < 4294967296 := by rw [Nat.div_lt_iff_lt_mul hVp]; exact hlt
          exact Nat.lt_of_lt_of_le this (Nat.le_of_not_lt hgB)
      · rintro _ W' ⟨rfl, hlt'⟩
        have hg0 : 0 < g := Nat.lt_of_le_of_lt (Nat.zero_le _) hlt'
        obtain ⟨g, rfl⟩ : ∃ k, g = k + 1 := ⟨g - 1, (Nat.succ_pred_eq_of_pos hg0).symm⟩
        have hle' : val u / val v ≤ g := Nat.le_of_lt_succ hlt'
        have ht' : g * v1 + (r + v1) = top := by rw [Nat.add_mul] at ht; omega
        refine .block (.seq (.region (.mv rfl rfl (.sub (m := ((g + 1 : Nat) : Int)) rfl rfl rfl ?_))))
        rw [show IntKind.u64.wrap (((g + 1 : Nat) : Int) - 1) = (g : Int) by rw [wU (by omega)]; omega]
        refine .asg rfl rfl (.nil (.seq (.region (.mv rfl rfl (.mv rfl rfl (.add (m := (r : Int)) (n := (v1 : Int)) rfl rfl rfl ?_))))))
        rw [← Int.natCast_add, wU (n := ((r + v1 : Nat) : Int)) (by omega)]
        refine .asg rfl rfl (.nil (.seq (.region (.mv rfl rfl (.shr (m := ((r + v1 : Nat) : Int)) rfl rfl rfl (by decide) ?_)))))
        rw [fdiv32]
        by_cases hrB : r + v1 < 4294967296
        · refine .neqF rfl rfl rfl (by omega) (.nil (.condF rfl (.skip ?_)))
          exact ⟨rfl, (g, r + v1), look_cons rfl (look_cons rfl (look_cons rfl (look_cons rfl (look_cons rfl (look_cons rfl look_nil))))), ⟨rfl, ht', hle', hrB⟩, Nat.lt_succ_self g⟩
        · refine .neqT rfl rfl rfl (by omega) (.nil (.condT rfl (.exit ?_)))
          have hgB := est_small hp (by omega) eU eV hV0 c2 ht' hlt (by omega)
          exact ⟨rfl, g, look_cons rfl look_nil, rfl, hgB, hle', Nat.le_succ_of_le (est_break hp (by omega) eU eV hV0 c2 h1 ht' hgB (by omega))⟩
  · rintro q W ⟨rfl, h2, h3, h4⟩
    refine .seq (.region (.mv rfl rfl (.asg rfl rfl (.nil (.ret ?_)))))
    exact .plain [_] Tryz.results155 ⟨rfl, trivial⟩ ⟨x3, q, rfl, h2, h3, h4⟩

theorem grown_ext {w w' : World} {r : Option Nat} (e : Ext w w') : w.grownBy w' r := ⟨e.os, e.tape, e.output, e.size, fun k hk _ => e.block k hk⟩
theorem grown_upd {w w1 w2 : World} {g b : Nat} (h : w.grownBy w1 (some g)) (u : Upd w1 w2 b) (hb : b = g ∨ w.heap.size ≤ b) : w.grownBy w2 (some g) :=
  ⟨u.os.trans h.os, u.tape.trans h.tape, u.output.trans h.output, by rw [u.size]; exact h.size, fun k hk hne => (u.block k (fun e => by
    subst e
    rcases hb with rfl | hb
    · exact hne rfl
    · omega)).trans (h.block k hk hne)⟩
theorem grown_trans {w w1 w2 : World} {r : Option Nat} (h : w.grownBy w1 r) (h' : w1.grownBy w2 r) : w.grownBy w2 r :=
  ⟨h'.os.trans h.os, h'.tape.trans h.tape, h'.output.trans h.output, Nat.le_trans h.size h'.size, fun k hk hne => (h'.block k (Nat.lt_of_lt_of_le hk h.size) hne).trans (h.block k hk hne)⟩
theorem kp_grown {S : Nat → Prop} {w w' : World} {g : Nat} (h : w.grownBy w' (some g)) (hS : ¬ S g) : Kp S w w' := fun k _ _ _ hs hk => (h.block k (Array.getElem?_eq_some_iff.1 hk).1 (fun e => hS (by cases e; exact hs))).trans hk
theorem below_grown {B : Nat} {w0 w w' : World} {g : Nat} (hb : Below B w0 w) (h : w.grownBy w' (some g)) (hg : B ≤ g) (hB : B ≤ w.heap.size) : Below B w0 w' := hb.grown h hB (fun k hk => by cases hk; exact hg)

theorem sub_step {x p b : Nat} (hx : x < 4294967296) (hp : p < 4294967296) (hb : b ≤ 1) : ∃ D y b' : Nat, IntKind.u64.wrap (IntKind.u64.wrap ((x : Int) - (p : Int)) - (b : Int)) = (D : Int) ∧ D % 4294967296 = y ∧ D / 2 ^ 63 = b' ∧ y < 4294967296 ∧ b' ≤ 1 ∧ y + p + b = x + 4294967296 * b' := by
  rw [IntKind.wrap_u64, IntKind.wrap_u64]
  by_cases h : p + b ≤ x
  · exact ⟨x - p - b, x - p - b, 0, by omega, by omega, by omega, by omega, by omega, by omega⟩
  · exact ⟨18446744073709551616 + x - p - b, 4294967296 + x - p - b, 1, by omega, by omega, by omega, by omega, by omega, by omega⟩

theorem E_whole_subtractMultiple : Ent Tryz.prog 156 := ent_of Tryz.func156 (by kernel_rfl) rfl
theorem whole_subtractMultiple_c {S : Nat → Prop} {w : World} {g k c n f : Nat} {U v : List Nat} {vv : Value} (ho : OB 89 w g U) (hv : eW.R S w vv v) (hS : ¬ S g) (hn : v.length = n) (hk : k + (n + 1) ≤ U.length) (hl : U.length ≤ 4398046511104) (hf : f < 4294967296) :
    Calls Tryz.prog 156 #[.slice (some ⟨g, k, none⟩) (n + 1) c, vv, .int .u64 f] w fun e w' => ∃ x, e = .returned x ∧ ∃ (V : List Nat) (bo : Nat), (x = .bool (decide (bo = 1)) ∧ bo ≤ 1 ∧ w.grownBy w' (some g) ∧ OB 89 w' g V ∧ V.length = U.length ∧
      (∀ j, k + (n + 1) ≤ j → V.getD j 0 = U.getD j 0) ∧ val V + 4294967296 ^ k * (val v * f) = val U + 4294967296 ^ (k + (n + 1)) * bo) := by
  have hdv : dig v := eW_lt hv
  refine enterG Tryz.func156 rfl Tryz.ntmps156 rfl ?_
  refine .seq (.region (.asg rfl rfl (.nil (.seq (.region (.asg rfl rfl (.nil (.seq (.region ?_)))))))))
  refine .call [.int .u64 (0 : Nat)] rfl E_whole_carrier rfl whole_carrier_c fun v1 w1 e1 h1 => .asg rfl rfl (.nil ?_)
  obtain ⟨bx, rfl, kx, hbx⟩ := h1
  have hgx : g ≠ bx := by have := ho.lt; omega
  refine .mid (α := List Nat × Nat) (fun x => [(7, .int .u64 (x.2 : Nat))]) (fun x W => x.2 ≤ 1 ∧ w.grownBy W (some g) ∧ OB 89 W g x.1 ∧ x.1.length = U.length ∧
      (∀ j, k + (n + 1) ≤ j → x.1.getD j 0 = U.getD j 0) ∧ val x.1 + 4294967296 ^ k * (val v * f) = val U + 4294967296 ^ (k + (n + 1)) * x.2) ?_ ?_
  · refine .seq (.region (.mv rfl rfl (.len un_W rfl rfl (.mv rfl rfl (.nil ?_)))))
    refine .block (.loop (α := Nat × List Nat × Nat × Nat) (fun x => [(0, .slice (some ⟨g, k, none⟩) (n + 1) c), (1, vv), (2, .int .u64 f), (7, .int .u64 (x.2.2.2 : Nat)), (8, carV bx), (14, .int .i64 ((n + 1 : Nat) : Int)), (15, .int .i64 (x.1 : Nat))])
      (fun x W => x.1 ≤ n + 1 ∧ w.grownBy W (some g) ∧ OB 89 W g x.2.1 ∧ x.2.1.length = U.length ∧ cBlk W bx x.2.2.1 ∧ x.2.2.1 < 4294967296 ∧ (x.1 = n + 1 → x.2.2.1 = 0) ∧ x.2.2.2 ≤ 1 ∧ (∀ j, k + (n + 1) ≤ j → x.2.1.getD j 0 = U.getD j 0) ∧
        val x.2.1 + 4294967296 ^ k * (val (v.take x.1) * f) = val U + 4294967296 ^ (k + x.1) * (x.2.2.2 + x.2.2.1)) (fun x => n + 1 - x.1) (0, U, 0, 0) ?_ ?_ ?_)
    · exact look_cons rfl (look_cons rfl (look_cons rfl (look_cons rfl (look_cons rfl (look_cons rfl (look_cons rfl look_nil))))))
    · refine ⟨Nat.zero_le _, grown_ext e1, ho.ext e1, rfl, kx, ?_, fun h => rfl, Nat.zero_le _, fun _ _ => rfl, ?_⟩
      · show 0 < 4294967296; omega
      · simp [val]
    · rintro ⟨i, V, cc, bo⟩ W ⟨hi, hG, hO, hV, hcx, hc, hc0, hbo, hhi, hval⟩
      replace hi : i ≤ n + 1 := hi
      replace hG : w.grownBy W (some g) := hG
      replace hO : OB 89 W g V := hO
      replace hV : V.length = U.length := hV
      replace hcx : cBlk W bx cc := hcx
      replace hc : cc < 4294967296 := hc
      replace hc0 : i = n + 1 → cc = 0 := hc0
      replace hbo : bo ≤ 1 := hbo
      replace hhi : ∀ j, k + (n + 1) ≤ j → V.getD j 0 = U.getD j 0 := hhi
      replace hval : val V + 4294967296 ^ k * (val (v.take i) * f) = val U + 4294967296 ^ (k + i) * (bo + cc) := hval
      by_cases hlt : i < n + 1
      · refine .seq (.region (.lssT rfl rfl rfl (by show (i : Int) < ((n + 1 : Nat) : Int); omega) (.nil (.seq (.condT rfl (.skip (.seq (.block (.seq (.region (.mv rfl rfl (.asg rfl rfl (.nil (.seq (.region (.asg rfl rfl (.nil ?_))))))))))))))))) 
        have hvd := dig_getD hdv i
        have hvf : v.getD i 0 * f ≤ 4294967295 * 4294967295 := Nat.mul_le_mul (by omega) (by omega)
        have hvW := eW.keep (kp_grown hG hS) hv
        refine .mid (α := Unit) (fun _ => [(0, .slice (some ⟨g, k, none⟩) (n + 1) c), (1, vv), (2, .int .u64 f), (7, .int .u64 (bo : Nat)), (8, carV bx), (9, .int .i64 (i : Nat)), (10, .int .u64 (v.getD i 0 * f : Nat)), (14, .int .i64 ((n + 1 : Nat) : Int)), (15, .int .i64 (i : Nat))]) (fun _ W' => W' = W) ?_ ?_
        · refine .seq (.region (.mv rfl rfl (.mv rfl rfl (.lenR un_W rfl rfl hvW ?_))))
          by_cases hin : i < n
          · refine .lssT rfl rfl rfl (by show (i : Int) < (v.length : Int); omega) (.nil (.condT rfl (.region (.mv rfl rfl (.mv rfl rfl ?_)))))
            refine .ixN (i := i) un_W ty_u32 rfl rfl hvW rfl (getD_get (by omega)) fun p hp => .ldE ty_u32 rfl rfl hp fun e he => ?_
            obtain ⟨rfl, hx⟩ := he
            refine .cvt un_u32 un_u64 rfl rfl (.mv rfl rfl (.mul rfl rfl rfl ?_))
            rw [wU (n := ((v.getD i 0 : Nat) : Int)) (by omega), ← Int.natCast_mul, wU (n := ((v.getD i 0 * f : Nat) : Int)) (by omega)]
            exact .asg rfl rfl (.nil ⟨rfl, (), look_cons rfl (look_cons rfl (look_cons rfl (look_cons rfl (look_cons rfl (look_cons rfl (look_cons rfl (look_cons rfl (look_cons rfl look_nil)))))))), rfl⟩)
          · refine .lssF rfl rfl rfl (by show ¬ (i : Int) < (v.length : Int); omega) (.nil (.condF rfl (.skip ⟨rfl, (), ?_, rfl⟩)))
            have : v.getD i 0 = 0 := by rw [List.getD_eq_getElem?_getD, List.getElem?_eq_none (by omega)]; rfl
            rw [this, Nat.zero_mul]
            exact look_cons rfl (look_cons rfl (look_cons rfl (look_cons rfl (look_cons rfl (look_cons rfl (look_cons rfl (look_cons rfl (look_cons rfl look_nil))))))))
        · rintro _ W' rfl
          have hgi : V[k + i]? = some (V.getD (k + i) 0) := getD_get (by omega)
          have hxd := dig_getD hO.1 (k + i)
          generalize hx : V.getD (k + i) 0 = x at *
          generalize hpr : v.getD i 0 * f = pr at *
          refine .seq (.held follows true (fun W'' => OB 89 W'' g V) [some _, some _, some _, some (wv x), some _, some _, some _, none, none, none, some _, none, none] (by kernel_rfl) ⟨
            fun _ _ => v_mv rfl, fun _ _ => v_mv rfl, fun _ _ => v_ixW (i := i) un_W ty_u32 rfl rfl (by omega), fun _ h => v_ldO ty_u32 rfl h hgi, fun _ _ => v_cvt un_u32 un_u64 rfl, fun _ _ => v_mv rfl, fun _ _ => v_mv rfl, fun _ _ => v_mv rfl, trivial⟩ ?_)
          intro W1 e1 _
          rw [wU (n := (x : Int)) (by omega)]
          have hcx1 := hcx.ext e1
          refine .gv (hO.ext e1) rfl (g_callvG [.int .u64 pr] rfl E_carrier1 rfl (carrier1_c hcx1 (by omega))) ?_
          rintro _ W2 ⟨rfl, u2, hx2⟩
          have hO2 := (hO.ext e1).upd u2 hgx
          have hG2 := grown_upd (grown_trans hG (grown_ext e1)) u2 (.inr hbx)
          refine .gv hO2 rfl (v_cvt un_u32 un_u64 rfl).gv ?_
          rintro _ _ ⟨rfl, rfl⟩
          rw [wU (n := (((pr + cc) % 4294967296 : Nat) : Int)) (by omega)]
          refine .gv hO2 rfl (v_sub rfl rfl).gv ?_
          rintro _ _ ⟨rfl, rfl⟩
          refine .gv hO2 rfl (v_sub rfl rfl).gv ?_
          rintro _ _ ⟨rfl, rfl⟩
          obtain ⟨D, y, bo', hD, hy, hb', hy1, hb1, hsum⟩ := sub_step (p := (pr + cc) % 4294967296) hxd (Nat.mod_lt _ (by omega)) hbo
          rw [hD]
          refine .gv hO2 rfl (v_as rfl).gv ?_
          rintro _ _ ⟨rfl, rfl⟩
          refine .nil (.inl rfl) ?_
          refine .seq (.region (.mv rfl rfl (.mv rfl rfl (.mv rfl rfl (.cvt un_u64 un_u32 rfl rfl ?_)))))
          rw [wrap32_nat, hy]
          refine .ixW (i := i) un_W ty_u32 rfl rfl rfl (by omega) ?_
          refine .stO ty_u32 rfl rfl rfl hO2 (by omega) hy1 fun W3 ho3 u3 => .nil (.region (.mv rfl rfl (.shr rfl rfl rfl (by decide) ?_)))
          rw [show ((D : Int).fdiv ((2 : Int) ^ (min (63 : Int).toNat IntKind.u64.bits))) = ((D / 2 ^ 63 : Nat) : Int) from fdiv_nat D 63, hb']
          refine .asg rfl rfl (.nil (.region (.add (m := (i : Int)) rfl rfl rfl (.mv rfl rfl (.nil ?_)))))
          rw [wI (n := (i : Int) + 1) (by omega)]
          refine ⟨rfl, (i + 1, V.set (k + i) y, (pr + cc) / 4294967296, bo'), look_cons rfl (look_cons rfl (look_cons rfl (look_cons rfl (look_cons rfl (look_cons rfl (look_cons rfl look_nil)))))), ⟨hlt, grown_upd hG2 u3 (.inl rfl), ho3, by simp [hV], hx2.upd u3 (Ne.symm hgx), ?_, ?_, hb1, ?_, ?_⟩, by show n + 1 - (i + 1) < n + 1 - i; omega⟩
          · show (pr + cc) / 4294967296 < 4294967296
            rw [Nat.div_lt_iff_lt_mul (by omega)]; omega
          · intro h
            show (pr + cc) / 4294967296 = 0
            have hin : i = n := by have : i + 1 = n + 1 := h; omega
            have : v.getD i 0 = 0 := by rw [List.getD_eq_getElem?_getD, List.getElem?_eq_none (by omega)]; rfl
            rw [this, Nat.zero_mul] at hpr
            rw [← hpr, Nat.zero_add, Nat.div_eq_of_lt hc]
          · intro j hj
            show (V.set (k + i) y).getD j 0 = U.getD j 0
            rw [List.getD_eq_getElem?_getD, List.getElem?_set_ne (by omega), ← List.getD_eq_getElem?_getD]
            exact hhi j hj
          · show val (V.set (k + i) y) + 4294967296 ^ k * (val (v.take (i + 1)) * f) = val U + 4294967296 ^ (k + (i + 1)) * (bo' + (pr + cc) / 4294967296)
            have h1 := val_set y hgi
            have hdm := Nat.div_add_mod (pr + cc) 4294967296
            generalize (pr + cc) / 4294967296 = q at *
            generalize (pr + cc) % 4294967296 = z at *
            have h2 : 4294967296 ^ k * (val (v.take (i + 1)) * f) = 4294967296 ^ k * (val (v.take i) * f) + 4294967296 ^ (k + i) * pr := by
              rw [val_take_succ, ← hpr, Nat.pow_add]; grind
            have h3 : 4294967296 ^ (k + i) * y + 4294967296 ^ (k + i) * z + 4294967296 ^ (k + i) * bo = 4294967296 ^ (k + i) * x + 4294967296 ^ (k + (i + 1)) * bo' := by
              have := congrArg (4294967296 ^ (k + i) * ·) hsum
              simp only [Nat.mul_add] at this
              rw [← Nat.add_assoc k i 1, Nat.pow_succ, Nat.mul_assoc]
              exact this
            have h4 : 4294967296 ^ (k + i) * pr + 4294967296 ^ (k + i) * cc = 4294967296 ^ (k + (i + 1)) * q + 4294967296 ^ (k + i) * z := by
              have := congrArg (4294967296 ^ (k + i) * ·) hdm
              simp only [Nat.mul_add] at this
              rw [← Nat.add_assoc k i 1, Nat.pow_succ, Nat.mul_assoc]
              omega
            rw [h2, Nat.mul_add (4294967296 ^ (k + (i + 1)))]
            rw [Nat.mul_add (4294967296 ^ (k + i))] at hval
            omega
      · refine .seq (.region (.lssF rfl rfl rfl (by show ¬ (i : Int) < ((n + 1 : Nat) : Int); omega) (.nil (.seq (.condF rfl (.exit ?_))))))
        have : i = n + 1 := by omega
        subst this
        rw [List.take_of_length_le (by omega), hc0 rfl] at hval
        exact ⟨rfl, (V, bo), look_cons rfl look_nil, hbo, hG, hO, hV, hhi, hval⟩
  · rintro ⟨V, bo⟩ W ⟨hbo, hG, hO, hV, hhi, hval⟩
    replace hbo : bo ≤ 1 := hbo
    refine .seq (.region (.mv rfl rfl (.neq (m := (bo : Int)) rfl rfl rfl (.asg rfl rfl (.nil (.ret ?_))))))
    refine .plain [_] Tryz.results156 ⟨rfl, trivial⟩ ⟨V, bo, ?_, hbo, hG, hO, hV, hhi, hval⟩
    rcases (show bo = 0 ∨ bo = 1 by omega) with h | h <;> subst h <;> rfl

end Go.Proofs.YtgghedhmjhaieaaGreat

namespace Go.Proofs.YtgghedhmjhaieaaGreat
open Go Go.Kx Go.RowKit

/-- the state of the long division -/
structure LdF (w : World) (gu gq gv : Nat) (vv : Value) (lu lq : Nat) (vl : List Nat) (A : Nat) (j : Nat) (U Q : List Nat) (W : World) : Prop where
  low : Below w.heap.size w W
  u : OB 89 W gu U
  q : OB 89 W gq Q
  v : eW.R (fun i => i = gv) W vv vl
  lu : U.length = lu
  lq : Q.length = lq
  eq : val U + val vl * val Q = A
  zq : ∀ i, i < j → Q.getD i 0 = 0
  lt : val U < 4294967296 ^ j * val vl

theorem eW_blk_lt {S : Nat → Prop} {w : World} {g o n c : Nat} {l : List Nat} (h : eW.R S w (.slice (some ⟨g, o, none⟩) n c) l) (hne : 0 < l.length) : g < w.heap.size := by
  obtain ⟨x, hx⟩ : ∃ x, l[0]? = some x := ⟨_, List.getElem?_eq_getElem hne⟩
  obtain ⟨ad, c', hv, _, e, he, _, hc⟩ := RL.at_ h hx
  cases hv
  have h0 : e.cells[0]? = some e := by obtain ⟨rfl, _⟩ := he; rfl
  have := cell_lt (hc 0 e h0)
  rw [block_add, block_add] at this
  exact this

/-- one digit is right: the guess was right, or one too high and set right -/
theorem digit_ok {p X U V q g bo V1 : Nat} (hV : 0 < V) (hp : 0 < p) (hq : U / p / V = q) (hg1 : q ≤ g) (hg2 : g ≤ q + 1) (hs : V1 + p * (V * g) = U + X * bo) (hbo : bo ≤ 1) (hV1 : V1 < X) (hX : U < X) :
    (bo = 0 → g = q ∧ V1 + p * (V * q) = U) ∧ (bo = 1 → g = q + 1 ∧ ∀ c V2, V2 + X * c = V1 + p * V → V2 < X → c ≤ 1 → V2 + p * (V * q) = U) := by
  have hq1 : p * (V * q) ≤ U := by
    rw [← hq, Nat.div_div_eq_div_mul, ← Nat.mul_assoc]; exact Nat.mul_div_le U (p * V)
  have hq2 : U < p * (V * (q + 1)) := by
    rw [← hq, Nat.div_div_eq_div_mul, ← Nat.mul_assoc]; exact Nat.lt_mul_div_succ U (Nat.mul_pos hp hV)
  rcases (show g = q ∨ g = q + 1 by omega) with rfl | rfl
  · constructor
    · rintro rfl; exact ⟨rfl, by omega⟩
    · rintro rfl; omega
  · constructor
    · rintro rfl; omega
    · rintro rfl
      refine ⟨rfl, fun c V2 h1 h2 h3 => ?_⟩
      have e : p * (V * (q + 1)) = p * (V * q) + p * V := by grind
      rw [e] at hs hq2
      rcases (show c = 0 ∨ c = 1 by omega) with rfl | rfl
      · omega
      · omega

theorem E_whole_longDiv : Ent Tryz.prog 148 := ent_of Tryz.func148 (by kernel_rfl) rfl
set_option maxHeartbeats 3200000 in
theorem whole_longDiv_c {S : Nat → Prop} {w : World} {va vb : Value} {a b : List Nat} {m : Nat} (up : Up S w) (ha : eW.R S w va a) (hb : eW.R S w vb b) (hla : a.length ≤ 1099511627776) (hlb : b.length = m + 2) (hab : b.length ≤ a.length) (htop : 0 < b.getD (m + 1) 0) :
    CR Tryz.prog 148 #[va, vb] w (Two (Wv S (val a / val b) (a.length + 1)) (Wv S (val a % val b) (a.length + 1))) := by
  have hda : dig a := eW_lt ha
  have hdb : dig b := eW_lt hb
  have htd := dig_getD hdb (m + 1)
  have gb : b[m + 1]? = some (b.getD (m + 1) 0) := getD_get (by omega)
  have hbtop : 4294967296 ^ (m + 1) ≤ val b := top_ge hlb htop
  have hp0 : 0 < 4294967296 ^ (m + 1) := Nat.pow_pos (by omega)
  have hwn1 : IntKind.i64.wrap ((b.length : Int) - 1) = ((m + 1 : Nat) : Int) := by rw [wI (by omega)]; omega
  refine enter Tryz.func148 rfl Tryz.ntmps148 rfl ?_
  refine .seq (.region (.asg rfl rfl (.asg rfl rfl (.nil (.seq (.region (.mv rfl rfl (.lenR un_W rfl rfl hb (.asg rfl rfl (.nil ?_))))))))))
  refine .seq (.region (.mv rfl rfl (.mv rfl rfl (.sub rfl rfl rfl ?_))))
  rw [hwn1]
  refine .ixN un_W ty_u32 rfl rfl hb rfl gb fun p hp => .ldE ty_u32 rfl rfl hp fun e he => ?_
  obtain ⟨rfl, _⟩ := he
  refine .call _ rfl E_LeadingZeros32 rfl (LeadingZeros32_c htd htop) fun v1 w1 e1 h1 => ?_
  obtain ⟨s, rfl, hs, htops⟩ := h1
  refine .cvt un_int un_uint rfl rfl ?_
  rw [wU (n := (s : Int)) (by omega)]
  refine .asg rfl rfl (.nil ?_)
  -- the shifted words
  refine .mid (α := Value × Value) (fun x => [(0, va), (6, .int .i64 (b.length : Nat)), (7, .int .u64 (s : Nat)), (8, x.1), (9, x.2)]) (fun x W => Ext w W ∧ ∃ gu cu gv cv U0 V0, x.1 = .slice (some ⟨gu, 0, none⟩) (a.length + 1) cu ∧ x.2 = .slice (some ⟨gv, 0, none⟩) b.length cv ∧
      OB 89 W gu U0 ∧ OB 89 W gv V0 ∧ gu ≠ gv ∧ w.heap.size ≤ gu ∧ val U0 = val a * 2 ^ s ∧ U0.length = a.length + 1 ∧ val V0 = val b * 2 ^ s ∧ V0.length = b.length + 1 ∧ a.length + 1 ≤ cu ∧ cu ≤ 9223372036854775807 ∧ b.length + 1 ≤ cv ∧ cv ≤ 9223372036854775807) ?_ ?_
  · refine .heldT follows true (fun _ => True) [some _, some _, none, some _, some _, none, some _, none, none, none] (.one 2 (.one 5 (.two 7 (.one 8 (.one 9 .done)) 8 (.one 7 (.one 9 .done))))) (by kernel_rfl) (by kernel_rfl) ⟨fun _ _ => v_mv rfl, fun _ _ => v_mv rfl, fun _ _ => v_mv rfl, fun _ _ => v_mv rfl, fun _ _ => v_mv rfl, trivial⟩ ?_
    intro w1' e1' _
    have x1 := e1.trans e1'
    refine .gv rfl trivial rfl (g_call _ E_whole_shiftLeft rfl (whole_shiftLeft_c (ha.ext x1) hla hs)) ?_
    rintro vu w2 ⟨e2, U0, hou, hvu, hlu⟩
    refine .gv rfl trivial rfl (g_call _ E_whole_shiftLeft rfl (whole_shiftLeft_c (hb.ext (x1.trans e2)) (by omega) hs)) ?_
    rintro vs w3 ⟨e3, V0, hov, hvv, hlv⟩
    obtain ⟨gu, cu, rfl, hcu1, hcu2, hgu, obu⟩ := hou.ob (by intro h; rw [h] at hlu; simp at hlu)
    obtain ⟨gv, cv, rfl, hcv1, hcv2, hgv, obv⟩ := hov.ob (by intro h; rw [h] at hlv; simp at hlv)
    have hgu2 : gu < w2.heap.size := obu.lt
    have hguv : gu ≠ gv := by omega
    have hres : ∀ σ : Env, (∀ t v, Kx.look [(0, va), (6, .int .i64 (b.length : Nat)), (7, .int .u64 (s : Nat)), (8, .slice (some ⟨gu, 0, none⟩) U0.length cu), (9, .slice (some ⟨gv, 0 + 0 * 1, none⟩) (b.length - 0) (cv - 0))] t = some v → Kx.look σ t = some v) →
        ([] : List Deferred) = [] ∧ ∃ x : Value × Value, (∀ t v, Kx.look [(0, va), (6, .int .i64 (b.length : Nat)), (7, .int .u64 (s : Nat)), (8, x.1), (9, x.2)] t = some v → Kx.look σ t = some v) ∧ Ext w w3 ∧ ∃ gu cu gv cv U0 V0, x.1 = .slice (some ⟨gu, 0, none⟩) (a.length + 1) cu ∧ x.2 = .slice (some ⟨gv, 0, none⟩) b.length cv ∧
      OB 89 w3 gu U0 ∧ OB 89 w3 gv V0 ∧ gu ≠ gv ∧ w.heap.size ≤ gu ∧ val U0 = val a * 2 ^ s ∧ U0.length = a.length + 1 ∧ val V0 = val b * 2 ^ s ∧ V0.length = b.length + 1 ∧ a.length + 1 ≤ cu ∧ cu ≤ 9223372036854775807 ∧ b.length + 1 ≤ cv ∧ cv ≤ 9223372036854775807 :=
      fun σ h => ⟨rfl, (_, _), h, (x1.trans e2).trans e3, gu, cu, gv, cv, U0, V0, by rw [hlu], rfl, obu.ext e3, obv, hguv, Nat.le_trans x1.size hgu, hvu, hlu, hvv, hlv, by omega, hcu2, by omega, hcv2⟩
    refine .gv2 (.gv rfl trivial rfl (v_cutB none (some _) 0 b.length un_W ty_u32 rfl rfl ⟨.i64, rfl⟩ (Nat.zero_le _) (by omega) (by omega)).gv ?_) (.gv rfl trivial rfl (v_as rfl).gv ?_)
    · rintro _ _ ⟨rfl, rfl⟩
      refine .gv rfl trivial rfl (v_as rfl).gv ?_
      rintro _ _ ⟨rfl, rfl⟩
      refine .gv rfl trivial rfl (v_as rfl).gv ?_
      rintro _ _ ⟨rfl, rfl⟩
      exact .nil (.inl rfl) (hres _ (look_cons rfl (look_cons rfl (look_cons rfl (look_cons rfl (look_cons rfl look_nil))))))
    · rintro _ _ ⟨rfl, rfl⟩
      refine .gv rfl trivial rfl (v_cutB none (some _) 0 b.length un_W ty_u32 rfl rfl ⟨.i64, rfl⟩ (Nat.zero_le _) (by omega) (by omega)).gv ?_
      rintro _ _ ⟨rfl, rfl⟩
      refine .gv rfl trivial rfl (v_as rfl).gv ?_
      rintro _ _ ⟨rfl, rfl⟩
      exact .nil (.inl rfl) (hres _ (look_cons rfl (look_cons rfl (look_cons rfl (look_cons rfl (look_cons rfl look_nil))))))
  rintro ⟨vu, vs⟩ w3 ⟨x3, gu, cu, gv, cv, U0, V0, hvus, hvss, obu, obv, hguv, hwgu, hvu, hlu, hvv, hlv, hcu1, hcu2, hcv1, hcv2⟩
  replace hvus : vu = .slice (some ⟨gu, 0, none⟩) (a.length + 1) cu := hvus
  replace hvss : vs = .slice (some ⟨gv, 0, none⟩) b.length cv := hvss
  subst hvus
  subst hvss
  have hps : 0 < 2 ^ s := Nat.pow_pos (by omega)
  have hvlt : val V0 < 4294967296 ^ b.length := by
    rw [hvv, hlb]; exact top_fits hdb hlb hs htops
  have hvl := obv.toR (S := fun i => i = gv) rfl 0 b.length cv (by omega) (by omega) (by omega)
  rw [List.drop_zero] at hvl
  have hvlv : val (V0.take b.length) = val b * 2 ^ s := by rw [val_take_of_lt (by omega) hvlt, hvv]
  have hvll : (V0.take b.length).length = m + 2 := by rw [List.length_take]; omega
  have hVlt : val (V0.take b.length) < 4294967296 ^ (m + 2) := by rw [hvlv]; exact top_fits hdb hlb hs htops
  have hV1 := top_pos (dig_take obv.1 b.length) hvll (by rw [hvlv]; exact Nat.le_trans hbtop (Nat.le_mul_of_pos_right _ hps))
  generalize V0.take b.length = vl at *
  have hVp : 0 < val vl := by
    have := Nat.mul_pos (Nat.lt_of_lt_of_le hp0 hbtop) hps
    omega
  -- the quotient's words
  refine .seq (.region (.mv rfl rfl (.lenR un_W rfl rfl (ha.ext x3) (.mv rfl rfl (.sub rfl rfl rfl ?_)))))
  rw [wI (n := (a.length : Int) - (b.length : Int)) (by omega)]
  refine .add rfl rfl rfl ?_
  rw [show IntKind.i64.wrap ((a.length : Int) - (b.length : Int) + 1) = ((a.length - b.length + 1 : Nat) : Int) by rw [wI (by omega)]; omega]
  refine .make_ _ _ un_W info_u32 rfl (by decide) rfl rfl rfl (Nat.le_refl _) (by omega) (by omega) fun w4 gq n4 => .asg rfl rfl (.nil ?_)
  have obq : OB 89 w4 gq (List.replicate (a.length - b.length + 1) 0) := OB.made n4
  obtain ⟨e4, k4, hgq, hs4⟩ := n4
  have x4 := x3.trans e4
  have obu4 := obu.ext e4
  have hvl4 := hvl.ext e4
  have hgvlt : gv < w3.heap.size := obv.lt
  have hgult : gu < w3.heap.size := obu.lt
  have hguq : gu ≠ gq := by omega
  have hgqv : gq ≠ gv := by omega
  have hwgq : w.heap.size ≤ gq := by have := x3.size; omega
  generalize hlu' : a.length + 1 = lu at *
  generalize hlq : a.length - b.length + 1 = lq at *
  have f4 : LdF w gu gq gv (.slice (some ⟨gv, 0, none⟩) b.length cv) lu lq vl (val a * 2 ^ s) lq U0 (List.replicate lq 0) w4 := by
    refine ⟨x4, obu4, obq, hvl4, hlu, by simp, by rw [val_replicate0, hvu]; omega, fun i _ => ?_, ?_⟩
    · rw [List.getD_eq_getElem?_getD, List.getElem?_replicate]; split <;> rfl
    · rw [hvu, hvlv, ← Nat.mul_assoc]
      refine Nat.mul_lt_mul_of_pos_right ?_ hps
      have h1 := val_lt hda
      have h2 : 4294967296 ^ a.length = 4294967296 ^ lq * 4294967296 ^ (m + 1) := by rw [← Nat.pow_add]; congr 1; omega
      have h3 := Nat.mul_le_mul_left (4294967296 ^ lq) hbtop
      omega
  refine .mid (α := List Nat × List Nat) (fun x => [(4, .slice (some ⟨gq, 0, none⟩) lq lq), (6, .int .i64 (b.length : Nat)), (7, .int .u64 (s : Nat)), (8, .slice (some ⟨gu, 0, none⟩) lu cu)]) (fun x W => LdF w gu gq gv (.slice (some ⟨gv, 0, none⟩) b.length cv) lu lq vl (val a * 2 ^ s) 0 x.1 x.2 W) ?_ ?_
  · refine .seq (.region (.mv rfl rfl (.lenR un_W rfl rfl (ha.ext x4) (.mv rfl rfl (.sub rfl rfl rfl ?_)))))
    rw [show IntKind.i64.wrap ((a.length : Int) - (b.length : Int)) = (lq : Int) - 1 by rw [wI (by omega)]; omega]
    refine .asg rfl rfl (.nil ?_)
    refine .block (.loop (α := Nat × List Nat × List Nat) (fun x => [(4, .slice (some ⟨gq, 0, none⟩) lq lq), (6, .int .i64 (b.length : Nat)), (7, .int .u64 (s : Nat)), (8, .slice (some ⟨gu, 0, none⟩) lu cu), (9, .slice (some ⟨gv, 0, none⟩) b.length cv), (10, .int .i64 ((x.1 : Int) - 1))])
      (fun x W => x.1 ≤ lq ∧ LdF w gu gq gv (.slice (some ⟨gv, 0, none⟩) b.length cv) lu lq vl (val a * 2 ^ s) x.1 x.2.1 x.2.2 W) (fun x => x.1) (lq, U0, List.replicate lq 0) ?_ ?_ ?_)
    · exact look_cons rfl (look_cons rfl (look_cons rfl (look_cons rfl (look_cons rfl (look_cons rfl look_nil)))))
    · exact ⟨Nat.le_refl _, f4⟩
    · rintro ⟨j, U, Q⟩ W ⟨hj, hF⟩
      replace hj : j ≤ lq := hj
      replace hF : LdF w gu gq gv (.slice (some ⟨gv, 0, none⟩) b.length cv) lu lq vl (val a * 2 ^ s) j U Q W := hF
      rcases Nat.eq_zero_or_pos j with hj0 | hj0
      · subst hj0
        refine .seq (.seq (.region (.mv rfl rfl (.geqF rfl rfl rfl (by show ¬ (0 : Int) ≤ ((0 : Nat) : Int) - 1; omega) (.nil (.condF rfl (.exit ?_)))))))
        exact ⟨rfl, (U, Q), look_cons rfl (look_cons rfl (look_cons rfl (look_cons rfl look_nil))), hF⟩
      · obtain ⟨k, rfl⟩ : ∃ i, j = i + 1 := ⟨j - 1, by omega⟩
        have hi : ((k + 1 : Nat) : Int) - 1 = (k : Int) := by omega
        refine .seq (.seq (.region (.mv (v := .int .i64 (k : Int)) rfl (by rw [← hi]; rfl) (.geqT rfl rfl rfl (by omega) (.nil (.condT rfl (.skip (.seq (.block (.seq (.region ?_)))))))))))
        have hkn : k + (b.length + 1) ≤ lu := by omega
        have hkn' : k + (m + 3) ≤ U.length := by rw [hF.lu]; omega
        have hX : val U < 4294967296 ^ (k + (b.length + 1)) := by
          have h1 : 4294967296 ^ (k + 1) * val vl < 4294967296 ^ (k + 1) * 4294967296 ^ (m + 2) := Nat.mul_lt_mul_of_pos_left hVlt (Nat.pow_pos (by omega))
          rw [← Nat.pow_add, show k + 1 + (m + 2) = k + (b.length + 1) by omega] at h1
          exact Nat.lt_trans hF.lt h1
        have hpk : 0 < 4294967296 ^ k := Nat.pow_pos (by omega)
        have hwin : val ((U.drop k).take (b.length + 1)) = val U / 4294967296 ^ k := val_window hF.u.1 (by rw [hF.lu]; exact hkn) hX
        have hwl : ((U.drop k).take (b.length + 1)).length = m + 3 := by rw [List.length_take, List.length_drop]; omega
        have hwlt : val ((U.drop k).take (b.length + 1)) < 4294967296 * val vl := by
          rw [hwin, Nat.div_lt_iff_lt_mul hpk]
          have h1 := hF.lt
          rw [Nat.pow_succ] at h1
          have e : 4294967296 * val vl * 4294967296 ^ k = 4294967296 ^ k * 4294967296 * val vl := by grind
          omega
        have hw1 : IntKind.i64.wrap ((k : Int) + (b.length : Int)) = ((k + b.length : Nat) : Int) := by rw [wI (by omega)]; omega
        have hw2 : IntKind.i64.wrap (((k + b.length : Nat) : Int) + 1) = ((k + b.length + 1 : Nat) : Int) := by rw [wI (by omega)]; omega
        refine .mv rfl rfl (.mv (v := .int .i64 (k : Int)) rfl (by rw [← hi]; rfl) (.mv (v := .int .i64 (k : Int)) rfl (by rw [← hi]; rfl) (.mv rfl rfl (.add rfl rfl rfl ?_))))
        rw [hw1]
        refine .add rfl rfl rfl ?_
        rw [hw2]
        refine .cutB k (k + b.length + 1) un_W ty_u32 rfl rfl ⟨.i64, rfl⟩ ⟨.i64, rfl⟩ (by omega) (by omega) (by omega) ?_
        rw [show 0 + k * 1 = k by omega, show k + b.length + 1 - k = b.length + 1 by omega]
        have hwR := hF.u.toR (S := fun i => i = gu ∨ i = gv) (.inl rfl) k (b.length + 1) (cu - k) (by rw [hF.lu]; exact hkn) (by omega) (by omega)
        refine .mv rfl rfl (.call _ rfl E_whole_estimate rfl (whole_estimate_c hwR (eW.mono (fun _ _ h => .inr h) hF.v) hwl hvll (by omega) hV1 hwlt) fun xg w5 e5 h5 => ?_)
        obtain ⟨gs, rfl, hgs, hg1, hg2⟩ := h5
        rw [hwin] at hg1 hg2
        refine .asg rfl rfl (.nil ?_)
        refine .mid (α := Nat × List Nat) (fun x => [(4, .slice (some ⟨gq, 0, none⟩) lq lq), (6, .int .i64 (b.length : Nat)), (7, .int .u64 (s : Nat)), (8, .slice (some ⟨gu, 0, none⟩) lu cu), (9, .slice (some ⟨gv, 0, none⟩) b.length cv), (10, .int .i64 (k : Int)), (11, .int .u64 (x.1 : Nat))])
          (fun x W => Below w.heap.size w W ∧ OB 89 W gu x.2 ∧ OB 89 W gq Q ∧ eW.R (fun i => i = gv) W (.slice (some ⟨gv, 0, none⟩) b.length cv) vl ∧ x.2.length = lu ∧ x.1 < 4294967296 ∧ val x.2 + 4294967296 ^ k * (val vl * x.1) = val U ∧ val x.2 < 4294967296 ^ k * val vl) ?_ ?_
        · refine .seq (.region (.mv rfl rfl (.mv (v := .int .i64 (k : Int)) rfl (by rw [← hi]; rfl) (.mv (v := .int .i64 (k : Int)) rfl (by rw [← hi]; rfl) (.mv rfl rfl (.add rfl rfl rfl ?_))))))
          rw [hw1]
          refine .add rfl rfl rfl ?_
          rw [hw2]
          refine .cutB k (k + b.length + 1) un_W ty_u32 rfl rfl ⟨.i64, rfl⟩ ⟨.i64, rfl⟩ (by omega) (by omega) (by omega) ?_
          rw [show 0 + k * 1 = k by omega, show k + b.length + 1 - k = b.length + 1 by omega]
          refine .mv rfl rfl (.mv rfl rfl ?_)
          have hB5 : Below w.heap.size w w5 := hF.low.trans (e5.mono hF.low.size)
          refine .callG _ rfl E_whole_subtractMultiple rfl (whole_subtractMultiple_c (hF.u.ext e5) (hF.v.ext e5) (fun h => hguv h) (by omega) (by rw [hF.lu]; exact hkn) (by rw [hF.lu]; omega) hgs) ?_
          rintro _ w6 ⟨V1, bo, rfl, hbo, hG6, ob6, hl6, hhi6, hval6⟩
          have hB6 : Below w.heap.size w w6 := below_grown hB5 hG6 hwgu hB5.size
          have hq6 : OB 89 w6 gq Q := by
            obtain ⟨hd, cs, hb', hc⟩ := hF.q.ext e5
            exact ⟨hd, cs, (hG6.block gq hb'.lt (fun e => hguq (by cases e; rfl))).trans hb', hc⟩
          have hv6 := eW.keep (kp_grown hG6 (S := fun i => i = gv) hguv) (hF.v.ext e5)
          have hV1X : val V1 < 4294967296 ^ (k + (b.length + 1)) := val_congr_hi hl6 ob6.1 hhi6 hX
          obtain ⟨dg0, dg1⟩ := digit_ok hVp hpk rfl hg1 hg2 hval6 hbo hV1X hX
          have hlast : ∀ U2 : List Nat, val U2 + 4294967296 ^ k * (val vl * (val U / 4294967296 ^ k / val vl)) = val U → val U2 < 4294967296 ^ k * val vl := by
            intro U2 h
            have : val U < 4294967296 ^ k * (val vl * (val U / 4294967296 ^ k / val vl + 1)) := by
              rw [Nat.div_div_eq_div_mul, ← Nat.mul_assoc]; exact Nat.lt_mul_div_succ _ (Nat.mul_pos hpk hVp)
            rw [Nat.mul_add (val vl), Nat.mul_add, Nat.mul_one] at this
            omega
          rcases (show bo = 0 ∨ bo = 1 by omega) with h0 | h0
          · subst h0
            obtain ⟨hgq', hvq⟩ := dg0 rfl
            refine .nil (.condF rfl (.skip ⟨rfl, (gs, V1), ?_, hB6, ob6, hq6, hv6, hl6.trans hF.lu, hgs, ?_, ?_⟩))
            · exact look_cons rfl (look_cons rfl (look_cons rfl (look_cons rfl (look_cons rfl (look_cons (by rw [← hi]; rfl) (look_cons rfl look_nil))))))
            · show val V1 + 4294967296 ^ k * (val vl * gs) = val U
              rw [hgq']; exact hvq
            · exact hlast V1 hvq
          · subst h0
            obtain ⟨hgq', hadd⟩ := dg1 rfl
            refine .nil (.condT rfl (.seq (.region (.mv rfl rfl (.sub rfl rfl rfl ?_)))))
            have hgs1 : 1 ≤ gs := by rw [hgq']; exact Nat.succ_le_succ (Nat.zero_le _)
            rw [show IntKind.u64.wrap ((gs : Int) - 1) = ((gs - 1 : Nat) : Int) by rw [wU (by omega)]; omega]
            refine .asg rfl rfl (.nil (.seq (.region ?_)))
            refine .call [.int .u64 (0 : Nat)] rfl E_whole_carrier rfl whole_carrier_c fun v7 w7 e7 h7 => .asg rfl rfl (.nil ?_)
            obtain ⟨bx, rfl, kx, hbx⟩ := h7
            have hB7 : Below w.heap.size w w7 := hB6.trans (e7.mono hB6.size)
            have hgux : gu ≠ bx := by have := ob6.lt; omega
            have hgqx : gq ≠ bx := by have := hq6.lt; omega
            have hgvx : gv ≠ bx := by have := hG6.size; have := e5.size; have := hF.low.size; have := x4.size; have : gv < w6.heap.size := eW_blk_lt hv6 (by omega); omega
            have hwbx : w.heap.size ≤ bx := Nat.le_trans hB6.size hbx
            refine .mid (α := List Nat × Nat) (fun x => [(4, .slice (some ⟨gq, 0, none⟩) lq lq), (6, .int .i64 (b.length : Nat)), (7, .int .u64 (s : Nat)), (8, .slice (some ⟨gu, 0, none⟩) lu cu), (9, .slice (some ⟨gv, 0, none⟩) b.length cv), (10, .int .i64 (k : Int)), (11, .int .u64 ((gs - 1 : Nat) : Int)), (12, carV bx)])
              (fun x W => Below w.heap.size w W ∧ OB 89 W gu x.1 ∧ OB 89 W gq Q ∧ eW.R (fun i => i = gv) W (.slice (some ⟨gv, 0, none⟩) b.length cv) vl ∧ x.1.length = lu ∧ cBlk W bx x.2 ∧ x.2 ≤ 1 ∧ (∀ j, k + (b.length + 1) ≤ j → x.1.getD j 0 = U.getD j 0) ∧ val x.1 + 4294967296 ^ (k + b.length) * x.2 = val V1 + 4294967296 ^ k * val vl) ?_ ?_
            · refine .seq (.region (.mv rfl rfl (.lenR un_W rfl rfl (hv6.ext e7) (.mv rfl rfl (.nil ?_)))))
              rw [show vl.length = b.length by omega]
              refine .block (.loop (α := Nat × List Nat × Nat) (fun x => [(4, .slice (some ⟨gq, 0, none⟩) lq lq), (6, .int .i64 (b.length : Nat)), (7, .int .u64 (s : Nat)), (8, .slice (some ⟨gu, 0, none⟩) lu cu), (9, .slice (some ⟨gv, 0, none⟩) b.length cv), (10, .int .i64 (k : Int)), (11, .int .u64 ((gs - 1 : Nat) : Int)), (12, carV bx), (69, .slice (some ⟨gv, 0, none⟩) b.length cv), (70, .int .i64 (b.length : Nat)), (71, .int .i64 (x.1 : Nat))])
                (fun x W => x.1 ≤ b.length ∧ Below w.heap.size w W ∧ OB 89 W gu x.2.1 ∧ OB 89 W gq Q ∧ eW.R (fun i => i = gv) W (.slice (some ⟨gv, 0, none⟩) b.length cv) vl ∧ x.2.1.length = lu ∧ cBlk W bx x.2.2 ∧ x.2.2 ≤ 1 ∧ (∀ j, k + (b.length + 1) ≤ j → x.2.1.getD j 0 = U.getD j 0) ∧ val x.2.1 + 4294967296 ^ (k + x.1) * x.2.2 = val V1 + 4294967296 ^ k * val (vl.take x.1)) (fun x => b.length - x.1) (0, V1, 0) ?_ ?_ ?_)
              · exact look_cons rfl (look_cons rfl (look_cons rfl (look_cons rfl (look_cons rfl (look_cons (by rw [← hi]; rfl) (look_cons rfl (look_cons rfl (look_cons rfl (look_cons rfl (look_cons rfl look_nil))))))))))
              · exact ⟨Nat.zero_le _, hB7, ob6.ext e7, hq6.ext e7, hv6.ext e7, hl6.trans hF.lu, kx, Nat.zero_le _, hhi6, by simp [val]⟩
              · rintro ⟨i, Z, c⟩ W8 ⟨hib, hB8, ob8, hq8, hv8, hl8, hcx, hc, hhi8, hval8⟩
                replace hib : i ≤ b.length := hib
                replace ob8 : OB 89 W8 gu Z := ob8
                replace hl8 : Z.length = lu := hl8
                replace hcx : cBlk W8 bx c := hcx
                replace hc : c ≤ 1 := hc
                replace hhi8 : ∀ j, k + (b.length + 1) ≤ j → Z.getD j 0 = U.getD j 0 := hhi8
                replace hval8 : val Z + 4294967296 ^ (k + i) * c = val V1 + 4294967296 ^ k * val (vl.take i) := hval8
                by_cases hlt : i < b.length
                · refine .seq (.region (.lssT rfl rfl rfl (by show (i : Int) < (b.length : Int); omega) (.nil (.seq (.condT rfl (.skip (.seq (.block (.seq (.region (.mv rfl rfl ?_)))))))))))
                  refine .ixN (i := i) un_W ty_u32 rfl rfl hv8 rfl (getD_get (by omega)) fun p hp => .ldE ty_u32 rfl rfl hp fun e he => ?_
                  obtain ⟨rfl, hyy⟩ := he
                  have hgi : Z[k + i]? = some (Z.getD (k + i) 0) := getD_get (by omega)
                  have hxx := dig_getD ob8.1 (k + i)
                  generalize hy : vl.getD i 0 = y at *
                  generalize hx : Z.getD (k + i) 0 = x at *
                  have hki : IntKind.i64.wrap ((k : Int) + (i : Int)) = ((k + i : Nat) : Int) := by rw [wI (by omega)]; omega
                  refine .asg rfl rfl (.asg rfl rfl (.nil (.region ?_)))
                  refine .mv rfl rfl (.mv rfl rfl (.mv rfl rfl (.add (m := (k : Int)) (n := (i : Int)) rfl rfl rfl ?_)))
                  rw [hki]
                  refine .mv rfl rfl (.mv rfl rfl (.mv rfl rfl (.mv rfl rfl (.add (m := (k : Int)) (n := (i : Int)) rfl rfl rfl ?_))))
                  rw [hki]
                  refine .ixW un_W ty_u32 rfl rfl rfl (by omega) ?_
                  rw [Nat.zero_add]
                  refine .ldO ty_u32 rfl rfl ob8 hgi (.cvt un_u32 un_u64 rfl rfl (.mv rfl rfl (.cvt un_u32 un_u64 rfl rfl (.add rfl rfl rfl ?_))))
                  rw [wU (n := (x : Int)) (by omega), wU (n := (y : Int)) (by omega), ← Int.natCast_add, wU (n := ((x + y : Nat) : Int)) (by omega)]
                  refine .callvG [_] rfl rfl E_carrier1 rfl (carrier1_c hcx (by omega)) ?_
                  rintro _ W9 ⟨rfl, u9, hcx9⟩
                  refine .ixW un_W ty_u32 rfl rfl rfl (by omega) ?_
                  rw [Nat.zero_add]
                  refine .stO ty_u32 rfl rfl rfl (ob8.upd u9 hgux) (by omega) (by omega) fun W10 ob10 u10 => .nil (.region (.add (m := (i : Int)) rfl rfl rfl (.mv rfl rfl (.nil ?_))))
                  rw [wI (n := (i : Int) + 1) (by omega)]
                  refine ⟨rfl, (i + 1, _, _), look_cons rfl (look_cons rfl (look_cons rfl (look_cons rfl (look_cons rfl (look_cons rfl (look_cons rfl (look_cons rfl (look_cons rfl (look_cons rfl (look_cons rfl look_nil)))))))))), ⟨hlt, u10.below (u9.below hB8 hwbx) hwgu, ob10, (hq8.upd u9 hgqx).upd u10 (Ne.symm hguq), (hv8.upd u9 (fun h => hgvx h.symm)).upd u10 hguv, by simp [hl8], hcx9.upd u10 (Ne.symm hgux), ?_, ?_, ?_⟩, by show b.length - (i + 1) < b.length - i; omega⟩
                  · show (x + y + c) / 4294967296 ≤ 1
                    omega
                  · intro j hj
                    show (Z.set (k + i) ((x + y + c) % 4294967296)).getD j 0 = U.getD j 0
                    rw [List.getD_eq_getElem?_getD, List.getElem?_set_ne (by omega), ← List.getD_eq_getElem?_getD]
                    exact hhi8 j hj
                  · show val (Z.set (k + i) ((x + y + c) % 4294967296)) + 4294967296 ^ (k + (i + 1)) * ((x + y + c) / 4294967296) = val V1 + 4294967296 ^ k * val (vl.take (i + 1))
                    rw [← Nat.add_assoc k i 1, Nat.pow_succ]
                    refine add_step (val_set _ hgi) (Nat.div_add_mod _ _) hval8 ?_
                    rw [val_take_succ, hy, Nat.pow_add]
                    grind
                · refine .seq (.region (.lssF rfl rfl rfl (by show ¬ (i : Int) < (b.length : Int); omega) (.nil (.seq (.condF rfl (.exit ?_))))))
                  have : i = b.length := by omega
                  subst this
                  rw [List.take_of_length_le (by omega)] at hval8
                  exact ⟨rfl, (Z, c), look_cons rfl (look_cons rfl (look_cons rfl (look_cons rfl (look_cons rfl (look_cons rfl (look_cons rfl (look_cons rfl look_nil))))))), hB8, ob8, hq8, hv8, hl8, hcx, hc, hhi8, hval8⟩
            · rintro ⟨Z, c⟩ W8 ⟨hB8, ob8, hq8, hv8, hl8, hcx, hc, hhi8, hval8⟩
              replace ob8 : OB 89 W8 gu Z := ob8
              replace hl8 : Z.length = lu := hl8
              replace hcx : cBlk W8 bx c := hcx
              replace hc : c ≤ 1 := hc
              replace hhi8 : ∀ j, k + (b.length + 1) ≤ j → Z.getD j 0 = U.getD j 0 := hhi8
              replace hval8 : val Z + 4294967296 ^ (k + b.length) * c = val V1 + 4294967296 ^ k * val vl := hval8
              have hgi : Z[k + b.length]? = some (Z.getD (k + b.length) 0) := getD_get (by omega)
              have hxx := dig_getD ob8.1 (k + b.length)
              generalize hx : Z.getD (k + b.length) 0 = x at *
              refine .region (.mv rfl rfl (.mv rfl rfl (.mv rfl rfl (.add (m := (k : Int)) (n := (b.length : Int)) rfl rfl rfl ?_))))
              rw [hw1]
              refine .mv rfl rfl (.mv rfl rfl (.mv rfl rfl (.mv rfl rfl (.add (m := (k : Int)) (n := (b.length : Int)) rfl rfl rfl ?_))))
              rw [hw1]
              refine .ixW un_W ty_u32 rfl rfl rfl (by omega) ?_
              rw [Nat.zero_add]
              refine .ldO ty_u32 rfl rfl ob8 hgi (.cvt un_u32 un_u64 rfl rfl ?_)
              rw [wU (n := (x : Int)) (by omega)]
              refine .callvG [_] rfl rfl E_carrier1 rfl (carrier1_c hcx (by omega)) ?_
              rintro _ W9 ⟨rfl, u9, hcx9⟩
              refine .ixW un_W ty_u32 rfl rfl rfl (by omega) ?_
              rw [Nat.zero_add]
              refine .stO ty_u32 rfl rfl rfl (ob8.upd u9 hgux) (by omega) (by omega) fun W10 ob10 u10 => .nil ?_
              have hsum : val (Z.set (k + b.length) ((x + c) % 4294967296)) + 4294967296 ^ (k + (b.length + 1)) * ((x + c) / 4294967296) = val V1 + 4294967296 ^ k * val vl := by
                rw [← Nat.add_assoc k b.length 1, Nat.pow_succ]
                exact add_step (y := 0) (val_set _ hgi) (by rw [Nat.add_zero]; exact Nat.div_add_mod _ _) hval8 (by omega)
              have hhi10 : ∀ j, k + (b.length + 1) ≤ j → (Z.set (k + b.length) ((x + c) % 4294967296)).getD j 0 = U.getD j 0 := by
                intro j hj
                rw [List.getD_eq_getElem?_getD, List.getElem?_set_ne (by omega), ← List.getD_eq_getElem?_getD]
                exact hhi8 j hj
              have hres := hadd _ _ hsum (val_congr_hi (by simp [hl8, hF.lu]) ob10.1 hhi10 hX) (by omega)
              refine ⟨rfl, (gs - 1, _), look_cons rfl (look_cons rfl (look_cons rfl (look_cons rfl (look_cons rfl (look_cons rfl (look_cons rfl look_nil)))))), u10.below (u9.below hB8 hwbx) hwgu, ob10, (hq8.upd u9 hgqx).upd u10 (Ne.symm hguq), (hv8.upd u9 (fun h => hgvx h.symm)).upd u10 hguv, by simp [hl8], by show gs - 1 < 4294967296; omega, ?_, hlast _ hres⟩
              show _ + 4294967296 ^ k * (val vl * (gs - 1)) = val U
              rw [hgq', Nat.add_sub_cancel]; exact hres
        · rintro ⟨dg, U2⟩ W6 ⟨hB6, ob6, hq6, hv6, hl6, hdg, hval6, hlt6⟩
          replace hdg : dg < 4294967296 := hdg
          replace hval6 : val U2 + 4294967296 ^ k * (val vl * dg) = val U := hval6
          refine .region (.mv rfl rfl (.mv rfl rfl (.mv rfl rfl (.cvt (m := (dg : Int)) un_u64 un_u32 rfl rfl ?_))))
          rw [wrap32_nat, Nat.mod_eq_of_lt hdg]
          refine .ixW (i := k) un_W ty_u32 rfl rfl rfl (by omega) ?_
          rw [Nat.zero_add]
          refine .stO ty_u32 rfl rfl rfl hq6 (by rw [hF.lq]; omega) hdg fun W7 ob7 u7 => .nil (.region (.mv rfl rfl (.sub (m := (k : Int)) rfl rfl rfl (.asg rfl rfl (.nil ?_)))))
          rw [wI (n := (k : Int) - 1) (by omega)]
          refine ⟨rfl, (k, U2, Q.set k dg), look_cons rfl (look_cons rfl (look_cons rfl (look_cons rfl (look_cons rfl (look_cons rfl look_nil))))), ⟨by show k ≤ lq; omega, u7.below hB6 hwgq, ob6.upd u7 hguq, ob7, hv6.upd u7 hgqv, hl6, by simp [hF.lq], ?_, ?_, hlt6⟩, Nat.lt_succ_self k⟩
          · show val U2 + val vl * val (Q.set k dg) = val a * 2 ^ s
            have h1 := val_set dg (getD_get (l := Q) (k := k) (by rw [hF.lq]; omega))
            rw [hF.zq k (by omega), Nat.mul_zero, Nat.add_zero] at h1
            rw [h1, ← hF.eq, ← hval6, Nat.mul_add]
            grind
          · intro i hi'
            have hi' : i < k := hi'
            show (Q.set k dg).getD i 0 = 0
            rw [List.getD_eq_getElem?_getD, List.getElem?_set_ne (by omega), ← List.getD_eq_getElem?_getD]
            exact hF.zq i (by omega)
  · rintro ⟨U, Q⟩ W ⟨hB, hu, hq, hv, hlU, hlQ, heq, hzq, hUlt⟩
    replace hu : OB 89 W gu U := hu
    replace hq : OB 89 W gq Q := hq
    replace hlU : U.length = lu := hlU
    replace hlQ : Q.length = lq := hlQ
    replace heq : val U + val vl * val Q = val a * 2 ^ s := heq
    replace hUlt : val U < val vl := by have : val U < 4294967296 ^ 0 * val vl := hUlt; omega
    refine .seq (.region (.mv rfl rfl (.make_ b.length b.length un_W info_u32 rfl (by decide) rfl rfl rfl (Nat.le_refl _) (by omega) (by omega) fun w5 gr n5 => .asg rfl rfl (.nil ?_))))
    have obr : OB 89 w5 gr (List.replicate b.length 0) := OB.made n5
    obtain ⟨e5, k5, hgr, hs5⟩ := n5
    have hgur : gu ≠ gr := by have := hu.lt; omega
    have hgqr : gq ≠ gr := by have := hq.lt; omega
    have hwgr : w.heap.size ≤ gr := by have := hB.size; omega
    obtain ⟨hdiv, hmod⟩ := div_end (A := val a) (b := val b) (s := s) (U := val U) (q := val Q) (by omega) (by rw [← hvlv]; exact heq) (by rw [← hvlv]; exact hUlt)
    refine .mid (α := List Nat) (fun _ => [(4, .slice (some ⟨gq, 0, none⟩) lq lq), (5, .slice (some ⟨gr, 0, none⟩) b.length b.length)]) (fun R W' => Below w.heap.size w W' ∧ OB 89 W' gq Q ∧ OB 89 W' gr R ∧ R.length = b.length ∧ val R = val U / 2 ^ s) ?_ ?_
    · refine .seq (.region (.mv rfl rfl (.mv rfl rfl (.nil ?_))))
      refine .block (.loop (α := Nat × List Nat) (fun x => [(4, .slice (some ⟨gq, 0, none⟩) lq lq), (5, .slice (some ⟨gr, 0, none⟩) b.length b.length), (7, .int .u64 (s : Nat)), (8, .slice (some ⟨gu, 0, none⟩) lu cu), (115, .int .i64 (b.length : Nat)), (116, .int .i64 (x.1 : Nat))])
        (fun x W' => x.1 ≤ b.length ∧ Below w.heap.size w W' ∧ OB 89 W' gu U ∧ OB 89 W' gq Q ∧ OB 89 W' gr x.2 ∧ x.2.length = b.length ∧ val x.2 = (val U / 2 ^ s) % 4294967296 ^ x.1 ∧ ∀ j, x.1 ≤ j → x.2.getD j 0 = 0) (fun x => b.length - x.1) (0, List.replicate b.length 0) ?_ ?_ ?_)
      · exact look_cons rfl (look_cons rfl (look_cons rfl (look_cons rfl (look_cons rfl (look_cons rfl look_nil)))))
      · refine ⟨Nat.zero_le _, hB.trans (e5.mono hB.size), hu.ext e5, hq.ext e5, obr, by simp, ?_, fun j _ => ?_⟩
        · show val (List.replicate b.length 0) = _ % 4294967296 ^ 0
          rw [val_replicate0, Nat.pow_zero, Nat.mod_one]
        · show (List.replicate b.length 0).getD j 0 = 0
          rw [List.getD_eq_getElem?_getD, List.getElem?_replicate]; split <;> rfl
      · rintro ⟨i, R⟩ W6 ⟨hi, hB6, hu6, hq6, hr6, hlR, hvR, hzR⟩
        replace hi : i ≤ b.length := hi
        replace hr6 : OB 89 W6 gr R := hr6
        replace hlR : R.length = b.length := hlR
        replace hvR : val R = (val U / 2 ^ s) % 4294967296 ^ i := hvR
        replace hzR : ∀ j, i ≤ j → R.getD j 0 = 0 := hzR
        by_cases hlt : i < b.length
        · refine .seq (.region (.lssT rfl rfl rfl (by show (i : Int) < (b.length : Int); omega) (.nil (.seq (.condT rfl (.skip (.seq (.block (.seq (.region (.mv rfl rfl (.asg rfl rfl (.nil ?_)))))))))))))
          have g0 : U[i]? = some (U.getD i 0) := getD_get (by omega)
          have g1 : U[i + 1]? = some (U.getD (i + 1) 0) := getD_get (by omega)
          have d0 := dig_getD hu.1 i
          have d1 := dig_getD hu.1 (i + 1)
          have hdig := shr_digit (i := i) hu.1 hs (by omega)
          generalize U.getD i 0 = x0 at *
          generalize U.getD (i + 1) 0 = x1 at *
          refine .held follows true (fun W' => OB 89 W' gu U) [some _, some (.int .i64 (i : Nat)), some _, some (.int .i64 (i : Nat)), some (.pointer (some ⟨gu, i, none⟩)), some (wv x0), some (.int .u64 (x0 : Nat)), some _, some (.int .i64 (i : Nat)), some (.int .i64 ((i + 1 : Nat) : Int)), some (.pointer (some ⟨gu, i + 1, none⟩)), some (wv x1), some (.int .u64 (x1 : Nat)),
            some (.int .u64 ((x1 * 4294967296 : Nat) : Int)), some (.int .u64 ((x0 + 4294967296 * x1 : Nat) : Int)), some _, some (.int .u64 (((x0 + 4294967296 * x1) / 2 ^ s : Nat) : Int)), some (wv (((x0 + 4294967296 * x1) / 2 ^ s) % 4294967296)), some (.pointer (some ⟨gr, i, none⟩)), none] (by kernel_rfl) ⟨
            fun _ _ => v_mv rfl, fun _ _ => v_mv rfl, fun _ _ => v_mv rfl, fun _ _ => v_mv rfl, fun _ _ => (v_ixW (i := i) un_W ty_u32 rfl rfl (by omega)).eq (by rw [Nat.zero_add]), fun _ h => v_ldO ty_u32 rfl h g0, fun _ _ => (v_cvt un_u32 un_u64 rfl).eq (by rw [wU (by omega)]),
            fun _ _ => v_mv rfl, fun _ _ => v_mv rfl, fun _ _ => (v_add (m := (i : Int)) rfl rfl).eq (by rw [wI (by omega)]; rfl), fun _ _ => (v_ixW (i := i + 1) un_W ty_u32 rfl rfl (by omega)).eq (by rw [Nat.zero_add]), fun _ h => v_ldO ty_u32 rfl h g1, fun _ _ => (v_cvt un_u32 un_u64 rfl).eq (by rw [wU (by omega)]),
            fun _ _ => (v_shl rfl rfl (by decide)).eq (by rw [shl32 x1 d1]), fun _ _ => (v_or rfl rfl).eq (by rw [or_nat _ _ (by omega) (by omega), or32 x0 x1 d0]), fun _ _ => v_mv rfl, fun _ _ => (v_shr rfl rfl (by omega)).eq (by rw [shr_nat _ _ (by omega)]), fun _ _ => (v_cvt un_u64 un_u32 rfl).eq (by rw [wrap32_nat]), fun _ _ => (v_ixW (i := i) un_W ty_u32 rfl rfl (by omega)).eq (by rw [Nat.zero_add]), trivial⟩ ?_
          intro W7 e7 _
          refine .gv (hu6.ext e7) rfl (g_stO ty_u32 rfl rfl (hr6.ext e7) (by omega) (Nat.mod_lt _ (by omega))) ?_
          rintro _ W8 ⟨hr8, u8⟩
          refine .nil (.inl rfl) (.region (.add (m := (i : Int)) rfl rfl rfl (.mv rfl rfl (.nil ?_))))
          rw [wI (n := (i : Int) + 1) (by omega)]
          refine ⟨rfl, (i + 1, _), look_cons rfl (look_cons rfl (look_cons rfl (look_cons rfl (look_cons rfl (look_cons rfl look_nil))))), ⟨hlt, u8.below (hB6.trans (e7.mono hB6.size)) hwgr, (hu6.ext e7).upd u8 hgur, (hq6.ext e7).upd u8 hgqr, hr8, by simp [hlR], ?_, ?_⟩, by show b.length - (i + 1) < b.length - i; omega⟩
          · show val (R.set i (((x0 + 4294967296 * x1) / 2 ^ s) % 4294967296)) = (val U / 2 ^ s) % 4294967296 ^ (i + 1)
            have h1 := val_set (((x0 + 4294967296 * x1) / 2 ^ s) % 4294967296) (getD_get (l := R) (k := i) (by omega))
            rw [hzR i (Nat.le_refl _), Nat.mul_zero, Nat.add_zero] at h1
            rw [h1, hdig, hvR]
          · intro j hj
            have hj : i + 1 ≤ j := hj
            show (R.set i (((x0 + 4294967296 * x1) / 2 ^ s) % 4294967296)).getD j 0 = 0
            rw [List.getD_eq_getElem?_getD, List.getElem?_set_ne (by omega), ← List.getD_eq_getElem?_getD]
            exact hzR j (by omega)
        · refine .seq (.region (.lssF rfl rfl rfl (by show ¬ (i : Int) < (b.length : Int); omega) (.nil (.seq (.condF rfl (.exit ?_))))))
          have : i = b.length := by omega
          subst this
          refine ⟨rfl, R, look_cons rfl (look_cons rfl look_nil), hB6, hq6, hr6, hlR, ?_⟩
          rw [hvR, Nat.mod_eq_of_lt]
          refine Nat.lt_of_le_of_lt (Nat.div_le_self _ _) ?_
          rw [hlb]; omega
    · rintro R W6 ⟨hB6, hq6, hr6, hlR, hvR⟩
      refine .seq (.region (.mv rfl rfl (.mv rfl rfl (.asg rfl rfl (.asg rfl rfl (.nil (.ret ?_)))))))
      refine .plain [_, _] Tryz.results148 ⟨rfl, rfl, trivial⟩ ⟨hB6, _, _, rfl, ⟨Q, ?_, hdiv.symm, by omega⟩, ⟨R, ?_, by rw [hvR, hmod], by omega⟩⟩
      · have := hq6.toR0 (S := S) (c := lq) (up gq (by omega)) (by omega) (by omega)
        rw [hlQ] at this; exact this
      · have := hr6.toR0 (S := S) (c := b.length) (up gr (by omega)) (by omega) (by omega)
        rw [hlR] at this; exact this
end Go.Proofs.YtgghedhmjhaieaaGreat

namespace Go.Proofs.YtgghedhmjhaieaaGreat
open Go Go.Kx Go.RowKit

theorem sg_add (b : Bool) (m n : Nat) : sg b (m + n) = sg b m + sg b n := by cases b <;> simp [sg] <;> omega
theorem sg_sub (b : Bool) (m n : Nat) (h : n ≤ m) : sg b (m - n) = sg b m + sg (!b) n := by cases b <;> simp [sg] <;> omega
theorem sg_natAbs (b : Bool) (n : Nat) : (sg b n).natAbs = n := by cases b <;> simp [sg]
theorem cmpN_neg {m n : Nat} : cmpN m n < 0 ↔ m < n := by unfold cmpN; split <;> (try split) <;> omega

theorem E_whole_signedSum : Ent Tryz.prog 152 := ent_of Tryz.func152 (by kernel_rfl) rfl
theorem whole_signedSum_c {S : Nat → Prop} {w : World} {va vb : Value} {m n : Nat} {p q : Bool} (up : Up S w) (ha : eW.R S w va (wds m)) (hb : eW.R S w vb (wds n)) (hla : (wds m).length ≤ 1099511627776) (hlb : (wds n).length ≤ 1099511627776) :
    CR Tryz.prog 152 #[.bool p, va, .bool q, vb] w (eZ.at S (zc (sg p m + sg q n))) := by
  refine enter Tryz.func152 rfl Tryz.ntmps152 rfl ?_
  refine .seq (.region (.alloc rfl zero_Z fun w1 b1 n1 => .nil ?_))
  obtain ⟨e1, k1, hb1, hs1⟩ := n1
  have hS : ¬ Sx S w.heap.size w1.heap.size b1 := Sx.no (by omega) (by omega)
  have up1 : Up (Sx S w.heap.size w1.heap.size) w1 := Sx.up up (Nat.le_refl _) e1.size
  have ha1 := (ha.par w1.heap.size).ext e1
  have hb1' := (hb.par w1.heap.size).ext e1
  refine .seq (.seq (.region (.mv rfl rfl (.mv rfl rfl (.eqlB un_bool rfl rfl rfl (.nil ?_))))))
  by_cases hpq : p = q
  · subst hpq
    refine .condT (by rw [beq_self_eq_true]; rfl) (.seq (.region (.mv rfl rfl (.mv rfl rfl (.mv rfl rfl ?_)))))
    refine .call _ rfl E_whole_addWords rfl (whole_addWords_c up1 ha1 hb1' hla hlb) fun v2 w2 e2 h2 => ?_
    obtain ⟨r, hr, hv, hl⟩ := h2
    refine .call _ rfl E_whole_build rfl (whole_build_c (up1.ext e2.size) hr) fun v3 w3 e3 h3 => ?_
    refine .storeA ty_Z rfl rfl ((k1.ext e2).ext e3) rfl rfl h3 hS fun w4 k4 u4 h4 => .nil (.ret ?_)
    refine .cell Tryz.results152 rfl ty_Z rfl rfl k4 h4 ⟨u4.below ((e1.trans e2).trans e3) (by omega), ?_⟩
    rw [← sg_add, show m + n = val r by rw [hv, val_wds, val_wds]]
    exact h4.out
  · have hq : q = !p := by cases p <;> cases q <;> simp_all
    subst hq
    refine .condF (by cases p <;> rfl) (.skip (.seq (.seq (.region (.mv rfl rfl (.mv rfl rfl ?_))))))
    refine .call _ rfl E_whole_compareWords rfl (whole_compareWords_c ha1 hb1') fun v2 w2 e2 h2 => ?_
    subst h2
    have ha2 := ha1.ext e2
    have hb2 := hb1'.ext e2
    have up2 := up1.ext e2.size
    by_cases hlt : m < n
    · refine .lssT rfl rfl rfl (cmpN_neg.2 hlt) (.nil (.condT rfl (.seq (.region (.mv rfl rfl (.mv rfl rfl (.mv rfl rfl ?_)))))))
      refine .call _ rfl E_whole_subWords rfl (whole_subWords_c up2 hb2 ha2 hlb hla (by rw [val_wds, val_wds]; omega)) fun v3 w3 e3 h3 => ?_
      obtain ⟨r, hr, hv, hl⟩ := h3
      refine .call _ rfl E_whole_build rfl (whole_build_c (up2.ext e3.size) hr) fun v4 w4 e4 h4 => ?_
      refine .storeA ty_Z rfl rfl (((k1.ext e2).ext e3).ext e4) rfl rfl h4 hS fun w5 k5 u5 h5 => .nil (.ret ?_)
      refine .cell Tryz.results152 rfl ty_Z rfl rfl k5 h5 ⟨u5.below (((e1.trans e2).trans e3).trans e4) (by omega), ?_⟩
      rw [show sg p m + sg (!p) n = sg (!p) (val r) by
        rw [hv, val_wds, val_wds, sg_sub _ _ _ (by omega), Bool.not_not, Int.add_comm]]
      exact h5.out
    · refine .lssF rfl rfl rfl (fun h => hlt (cmpN_neg.1 h)) (.nil (.condF rfl (.skip (.seq (.region (.mv rfl rfl (.mv rfl rfl (.mv rfl rfl ?_))))))))
      refine .call _ rfl E_whole_subWords rfl (whole_subWords_c up2 ha2 hb2 hla hlb (by rw [val_wds, val_wds]; omega)) fun v3 w3 e3 h3 => ?_
      obtain ⟨r, hr, hv, hl⟩ := h3
      refine .call _ rfl E_whole_build rfl (whole_build_c (up2.ext e3.size) hr) fun v4 w4 e4 h4 => ?_
      refine .storeA ty_Z rfl rfl (((k1.ext e2).ext e3).ext e4) rfl rfl h4 hS fun w5 k5 u5 h5 => .nil (.ret ?_)
      refine .cell Tryz.results152 rfl ty_Z rfl rfl k5 h5 ⟨u5.below (((e1.trans e2).trans e3).trans e4) (by omega), ?_⟩
      rw [show sg p m + sg (!p) n = sg p (val r) by
        rw [hv, val_wds, val_wds, sg_sub _ _ _ (by omega)]]
      exact h5.out

theorem i64ok_iff {n : Int} : i64ok n = true ↔ -9223372036854775808 ≤ n ∧ n ≤ 9223372036854775807 := by simp [i64ok]

theorem E_whole_Add : Ent Tryz.prog 141 := ent_of Tryz.func141 (by kernel_rfl) rfl
theorem whole_Add_c {S : Nat → Prop} {w : World} {va vb : Value} {x y : ZV} (up : Up S w) (ha : eZ.R S w va x) (hb : eZ.R S w vb y) (hla : x.w.length ≤ 1099511627776) (hlb : y.w.length ≤ 1099511627776) :
    CR Tryz.prog 141 #[va, vb] w (eZ.at S (zc (zval x + zval y))) := by
  obtain ⟨sa, rfl, hsa⟩ := ha
  obtain ⟨sb, rfl, hsb⟩ := hb
  have hda : dig x.w := eW_lt hsa
  have hdb : dig y.w := eW_lt hsb
  refine enter Tryz.func141 rfl Tryz.ntmps141 rfl ?_
  refine .seq (.region (.box rfl rfl fun w1 b1 n1 => .box rfl rfl fun w2 b2 n2 => .alloc rfl zero_Z fun w3 b3 n3 => .nil ?_))
  obtain ⟨e1, k1, hb1, hs1⟩ := n1
  obtain ⟨e2, k2, hb2, hs2⟩ := n2
  obtain ⟨e3, k3, hb3, hs3⟩ := n3
  have x3 := (e1.trans e2).trans e3
  have k1 := (k1.ext e2).ext e3
  have k2 := k2.ext e3
  have hS : ¬ Sx S w.heap.size w3.heap.size b3 := Sx.no (by omega) (by omega)
  have up3 : Up (Sx S w.heap.size w3.heap.size) w3 := Sx.up up (Nat.le_refl _) x3.size
  have hsa3 := (hsa.par w3.heap.size).ext x3
  have hsb3 := (hsb.par w3.heap.size).ext x3
  refine .seq (.region (.ldA ty_Z rfl rfl k1 rfl ?_))
  refine .call _ rfl E_whole_Int64 rfl (whole_Int64_c (z := x) ⟨sa, rfl, hsa3⟩) fun v4 w4 e4 h4 => ?_
  subst h4
  refine .mv rfl rfl (.ext rfl rfl rfl (.ext rfl rfl rfl (.asg rfl rfl (.asg rfl rfl (.nil ?_)))))
  refine .seq (.region (.ldA ty_Z rfl rfl (k2.ext e4) rfl ?_))
  refine .call _ rfl E_whole_Int64 rfl (whole_Int64_c (z := y) ⟨sb, rfl, hsb3.ext e4⟩) fun v5 w5 e5 h5 => ?_
  subst h5
  refine .mv rfl rfl (.ext rfl rfl rfl (.ext rfl rfl rfl (.asg rfl rfl (.asg rfl rfl (.nil ?_)))))
  have x35 := e4.trans e5
  have x5 := x3.trans x35
  have up5 := up3.ext x35.size
  refine .mid (α := Unit) (fun _ => [(2, .pointer (some ⟨b1, 0, none⟩)), (3, .pointer (some ⟨b2, 0, none⟩)), (4, .pointer (some ⟨b3, 0, none⟩))]) (fun _ W => W = w5) ?_ ?_
  · refine .seq (.region (.mv rfl rfl (.mv rfl rfl ?_)))
    cases hx : i64ok (zval x) with
    | false =>
      refine .gs rfl rfl rfl rfl rfl (.pick rfl rfl rfl (.nil (.condF rfl (.skip ?_))))
      exact ⟨rfl, (), look_cons rfl (look_cons rfl (look_cons rfl look_nil)), rfl⟩
    | true =>
      have hx' := i64ok_iff.1 hx
      refine .gr rfl rfl rfl rfl (.mv rfl rfl (.pick rfl rfl rfl (.nil ?_)))
      cases hy : i64ok (zval y) with
      | false =>
        refine .condF rfl (.skip ?_)
        exact ⟨rfl, (), look_cons rfl (look_cons rfl (look_cons rfl look_nil)), rfl⟩
      | true =>
        have hy' := i64ok_iff.1 hy
        have ex : i64v (zval x) = zval x := by rw [i64v, hx]; rfl
        have ey : i64v (zval y) = zval y := by rw [i64v, hy]; rfl
        rw [ex, ey]
        refine .condT rfl (.seq (.region (.mv rfl rfl (.mv rfl rfl (.add rfl rfl rfl (.asg rfl rfl (.nil ?_)))))))
        refine .seq (.region (.mv rfl rfl (.mv rfl rfl (.xor_ rfl rfl rfl (.mv rfl rfl (.mv rfl rfl (.xor_ rfl rfl rfl (.and_ rfl rfl rfl (.geq rfl rfl rfl (.nil ?_))))))))))
        refine .cond rfl (fun hc => ?_) (fun hc => .skip ⟨rfl, (), look_cons rfl (look_cons rfl (look_cons rfl look_nil)), rfl⟩)
        have hsum := add_ok hx'.1 hx'.2 hy'.1 hy'.2 (of_decide_eq_true hc)
        refine .seq (.region (.mv rfl rfl ?_))
        have hr : -9223372036854775808 ≤ IntKind.i64.wrap (zval x + zval y) ∧ IntKind.i64.wrap (zval x + zval y) ≤ 9223372036854775807 := by rw [IntKind.wrap_i64]; omega
        refine .call _ rfl E_whole_FromInt64 rfl (whole_FromInt64_c up5 hr.1 hr.2) fun v6 w6 e6 h6 => ?_
        refine .storeA ty_Z rfl rfl ((k3.ext x35).ext e6) rfl rfl h6 hS fun w7 k7 u7 h7 => .nil (.ret ?_)
        refine .cell Tryz.results141 rfl ty_Z rfl rfl k7 h7 ⟨u7.below (x5.trans e6) (by omega), ?_⟩
        rw [hsum] at h7
        exact h7.out
  · rintro _ _ rfl
    have hsa5 := hsa3.ext x35
    have hsb5 := hsb3.ext x35
    have k1 := k1.ext x35
    have k2 := k2.ext x35
    refine .seq ?_
    refine .par follows 11 [.inl _, .inl _, .inl _, .inl _, .inr (eW.at (Sx S w.heap.size w3.heap.size) (wds (val x.w))), .inl _, .inl _, .inl _, .inl _, .inr (eW.at (Sx S w.heap.size w3.heap.size) (wds (val y.w))), .inr (eZ.at (Sx S w.heap.size w3.heap.size) (zc (sg x.neg (val x.w) + sg y.neg (val y.w))))]
      [[], [(37, 0)], [], [(39, 2)], [(40, 3)], [], [(42, 5)], [], [(44, 7)], [(45, 8)], [(38, 1), (41, 4), (43, 6), (46, 9)]] (by kernel_rfl) ⟨
      fun w e => (v_fa fld_Z0 rfl).ob,
      fun w e => (v_ld ty_bool rfl (k1.ext e) rfl).ob,
      fun w e => (v_fa fld_Z1 rfl).ob,
      fun w e => (v_ld ty_W rfl (k1.ext e) rfl).ob,
      fun w e => (g_call _ E_whole_trim rfl (by rw [← trimL_eq hda]; exact whole_trim_c (hsa5.ext e))).ob (st_at _ _ _),
      fun w e => (v_fa fld_Z0 rfl).ob,
      fun w e => (v_ld ty_bool rfl (k2.ext e) rfl).ob,
      fun w e => (v_fa fld_Z1 rfl).ob,
      fun w e => (v_ld ty_W rfl (k2.ext e) rfl).ob,
      fun w e => (g_call _ E_whole_trim rfl (by rw [← trimL_eq hdb]; exact whole_trim_c (hsb5.ext e))).ob (st_at _ _ _),
      fun w e x4 hx4 x9 hx9 => (g_call _ E_whole_signedSum rfl (whole_signedSum_c (up5.ext e.size) hx4 hx9 (Nat.le_trans (wds_length_le hda) hla) (Nat.le_trans (wds_length_le hdb) hlb))).ob (st_at _ _ _), trivial⟩ ?_
    intro w6 e6 x4 hx4 x9 hx9 x10 hx10
    refine .storeA ty_Z rfl rfl ((k3.ext x35).ext e6) rfl rfl hx10 hS fun w7 k7 u7 h7 => .nil (.ret ?_)
    refine .cell Tryz.results141 rfl ty_Z rfl rfl k7 h7 ⟨u7.below (x5.trans e6) (by omega), h7.out⟩

theorem E_whole_Sub : Ent Tryz.prog 143 := ent_of Tryz.func143 (by kernel_rfl) rfl
theorem whole_Sub_c {S : Nat → Prop} {w : World} {va vb : Value} {x y : ZV} (up : Up S w) (ha : eZ.R S w va x) (hb : eZ.R S w vb y) (hla : x.w.length ≤ 1099511627776) (hlb : y.w.length ≤ 1099511627776) :
    CR Tryz.prog 143 #[va, vb] w (eZ.at S (zc (zval x - zval y))) := by
  obtain ⟨sa, rfl, hsa⟩ := ha
  obtain ⟨sb, rfl, hsb⟩ := hb
  have hda : dig x.w := eW_lt hsa
  have hdb : dig y.w := eW_lt hsb
  refine enter Tryz.func143 rfl Tryz.ntmps143 rfl ?_
  refine .seq (.region (.box rfl rfl fun w1 b1 n1 => .box rfl rfl fun w2 b2 n2 => .alloc rfl zero_Z fun w3 b3 n3 => .nil ?_))
  obtain ⟨e1, k1, hb1, hs1⟩ := n1
  obtain ⟨e2, k2, hb2, hs2⟩ := n2
  obtain ⟨e3, k3, hb3, hs3⟩ := n3
  have x3 := (e1.trans e2).trans e3
  have k1 := (k1.ext e2).ext e3
  have k2 := k2.ext e3
  have hS : ¬ Sx S w.heap.size w3.heap.size b3 := Sx.no (by omega) (by omega)
  have up3 : Up (Sx S w.heap.size w3.heap.size) w3 := Sx.up up (Nat.le_refl _) x3.size
  have hsa3 := (hsa.par w3.heap.size).ext x3
  have hsb3 := (hsb.par w3.heap.size).ext x3
  refine .seq (.region (.ldA ty_Z rfl rfl k1 rfl ?_))
  refine .call _ rfl E_whole_Int64 rfl (whole_Int64_c (z := x) ⟨sa, rfl, hsa3⟩) fun v4 w4 e4 h4 => ?_
  subst h4
  refine .mv rfl rfl (.ext rfl rfl rfl (.ext rfl rfl rfl (.asg rfl rfl (.asg rfl rfl (.nil ?_)))))
  refine .seq (.region (.ldA ty_Z rfl rfl (k2.ext e4) rfl ?_))
  refine .call _ rfl E_whole_Int64 rfl (whole_Int64_c (z := y) ⟨sb, rfl, hsb3.ext e4⟩) fun v5 w5 e5 h5 => ?_
  subst h5
  refine .mv rfl rfl (.ext rfl rfl rfl (.ext rfl rfl rfl (.asg rfl rfl (.asg rfl rfl (.nil ?_)))))
  have x35 := e4.trans e5
  have x5 := x3.trans x35
  have up5 := up3.ext x35.size
  refine .mid (α := Unit) (fun _ => [(2, .pointer (some ⟨b1, 0, none⟩)), (3, .pointer (some ⟨b2, 0, none⟩)), (4, .pointer (some ⟨b3, 0, none⟩))]) (fun _ W => W = w5) ?_ ?_
  · refine .seq (.region (.mv rfl rfl (.mv rfl rfl ?_)))
    cases hx : i64ok (zval x) with
    | false =>
      refine .gs rfl rfl rfl rfl rfl (.pick rfl rfl rfl (.nil (.condF rfl (.skip ?_))))
      exact ⟨rfl, (), look_cons rfl (look_cons rfl (look_cons rfl look_nil)), rfl⟩
    | true =>
      have hx' := i64ok_iff.1 hx
      refine .gr rfl rfl rfl rfl (.mv rfl rfl (.pick rfl rfl rfl (.nil ?_)))
      cases hy : i64ok (zval y) with
      | false =>
        refine .condF rfl (.skip ?_)
        exact ⟨rfl, (), look_cons rfl (look_cons rfl (look_cons rfl look_nil)), rfl⟩
      | true =>
        have hy' := i64ok_iff.1 hy
        have ex : i64v (zval x) = zval x := by rw [i64v, hx]; rfl
        have ey : i64v (zval y) = zval y := by rw [i64v, hy]; rfl
        rw [ex, ey]
        refine .condT rfl (.seq (.region (.mv rfl rfl (.mv rfl rfl (.sub rfl rfl rfl (.asg rfl rfl (.nil ?_)))))))
        refine .seq (.region (.mv rfl rfl (.mv rfl rfl (.xor_ rfl rfl rfl (.mv rfl rfl (.mv rfl rfl (.xor_ rfl rfl rfl (.and_ rfl rfl rfl (.geq rfl rfl rfl (.nil ?_))))))))))
        refine .cond rfl (fun hc => ?_) (fun hc => .skip ⟨rfl, (), look_cons rfl (look_cons rfl (look_cons rfl look_nil)), rfl⟩)
        have hsum := sub_ok hx'.1 hx'.2 hy'.1 hy'.2 (of_decide_eq_true hc)
        refine .seq (.region (.mv rfl rfl ?_))
        have hr : -9223372036854775808 ≤ IntKind.i64.wrap (zval x - zval y) ∧ IntKind.i64.wrap (zval x - zval y) ≤ 9223372036854775807 := by rw [IntKind.wrap_i64]; omega
        refine .call _ rfl E_whole_FromInt64 rfl (whole_FromInt64_c up5 hr.1 hr.2) fun v6 w6 e6 h6 => ?_
        refine .storeA ty_Z rfl rfl ((k3.ext x35).ext e6) rfl rfl h6 hS fun w7 k7 u7 h7 => .nil (.ret ?_)
        refine .cell Tryz.results143 rfl ty_Z rfl rfl k7 h7 ⟨u7.below (x5.trans e6) (by omega), ?_⟩
        rw [hsum] at h7
        exact h7.out
  · rintro _ _ rfl
    have hsa5 := hsa3.ext x35
    have hsb5 := hsb3.ext x35
    have k1 := k1.ext x35
    have k2 := k2.ext x35
    refine .seq ?_
    refine .par follows 12 [.inl _, .inl _, .inl _, .inl _, .inr (eW.at (Sx S w.heap.size w3.heap.size) (wds (val x.w))), .inl _, .inl _, .inl _, .inl _, .inl _, .inr (eW.at (Sx S w.heap.size w3.heap.size) (wds (val y.w))), .inr (eZ.at (Sx S w.heap.size w3.heap.size) (zc (sg x.neg (val x.w) + sg (!y.neg) (val y.w))))]
      [[], [(37, 0)], [], [(39, 2)], [(40, 3)], [], [(42, 5)], [(43, 6)], [], [(45, 8)], [(46, 9)], [(38, 1), (41, 4), (44, 7), (47, 10)]] (by kernel_rfl) ⟨
      fun w e => (v_fa fld_Z0 rfl).ob,
      fun w e => (v_ld ty_bool rfl (k1.ext e) rfl).ob,
      fun w e => (v_fa fld_Z1 rfl).ob,
      fun w e => (v_ld ty_W rfl (k1.ext e) rfl).ob,
      fun w e => (g_call _ E_whole_trim rfl (by rw [← trimL_eq hda]; exact whole_trim_c (hsa5.ext e))).ob (st_at _ _ _),
      fun w e => (v_fa fld_Z0 rfl).ob,
      fun w e => (v_ld ty_bool rfl (k2.ext e) rfl).ob,
      fun w e => (v_not rfl).ob,
      fun w e => (v_fa fld_Z1 rfl).ob,
      fun w e => (v_ld ty_W rfl (k2.ext e) rfl).ob,
      fun w e => (g_call _ E_whole_trim rfl (by rw [← trimL_eq hdb]; exact whole_trim_c (hsb5.ext e))).ob (st_at _ _ _),
      fun w e x4 hx4 x9 hx9 => (g_call _ E_whole_signedSum rfl (whole_signedSum_c (up5.ext e.size) hx4 hx9 (Nat.le_trans (wds_length_le hda) hla) (Nat.le_trans (wds_length_le hdb) hlb))).ob (st_at _ _ _), trivial⟩ ?_
    intro w6 e6 x4 hx4 x9 hx9 x10 hx10
    refine .storeA ty_Z rfl rfl ((k3.ext x35).ext e6) rfl rfl hx10 hS fun w7 k7 u7 h7 => .nil (.ret ?_)
    refine .cell Tryz.results143 rfl ty_Z rfl rfl k7 h7 ⟨u7.below (x5.trans e6) (by omega), ?_⟩
    rw [show zval x - zval y = sg x.neg (val x.w) + sg (!y.neg) (val y.w) by unfold zval sg; cases x.neg <;> cases y.neg <;> simp <;> omega]
    exact h7.out

theorem sg_mul (a b : Bool) (m n : Nat) : sg (a != b) (m * n) = sg a m * sg b n := by
  cases a <;> cases b <;> simp [sg, Int.natCast_mul, Int.neg_mul, Int.mul_neg]

theorem E_whole_Mul : Ent Tryz.prog 138 := ent_of Tryz.func138 (by kernel_rfl) rfl
theorem whole_Mul_c {S : Nat → Prop} {w : World} {va vb : Value} {x y : ZV} (up : Up S w) (ha : eZ.R S w va x) (hb : eZ.R S w vb y) (hla : x.w.length ≤ 1099511627776) (hlb : y.w.length ≤ 1099511627776) :
    CR Tryz.prog 138 #[va, vb] w (eZ.at S (zc (zval x * zval y))) := by
  obtain ⟨sa, rfl, hsa⟩ := ha
  obtain ⟨sb, rfl, hsb⟩ := hb
  have hda : dig x.w := eW_lt hsa
  have hdb : dig y.w := eW_lt hsb
  have hla' := Nat.le_trans (wds_length_le hda) hla
  have hlb' := Nat.le_trans (wds_length_le hdb) hlb
  refine enter Tryz.func138 rfl Tryz.ntmps138 rfl ?_
  refine .seq (.region (.box rfl rfl fun w1 b1 n1 => .box rfl rfl fun w2 b2 n2 => .alloc rfl zero_Z fun w3 b3 n3 => .nil ?_))
  obtain ⟨e1, k1, hb1, hs1⟩ := n1
  obtain ⟨e2, k2, hb2, hs2⟩ := n2
  obtain ⟨e3, k3, hb3, hs3⟩ := n3
  have x3 := (e1.trans e2).trans e3
  have k1 := (k1.ext e2).ext e3
  have k2 := k2.ext e3
  have hS : ¬ Sx S w.heap.size w3.heap.size b3 := Sx.no (by omega) (by omega)
  have up3 : Up (Sx S w.heap.size w3.heap.size) w3 := Sx.up up (Nat.le_refl _) x3.size
  have hsa3 := (hsa.par w3.heap.size).ext x3
  have hsb3 := (hsb.par w3.heap.size).ext x3
  generalize hT : Sx S w.heap.size w3.heap.size = T at *
  have hprod : zval x * zval y = sg (x.neg != y.neg) (val x.w * val y.w) := by rw [sg_mul]; rfl
  refine .seq ?_
  refine .par follows 7 [.inl _, .inl _, .inr (eW.at T (wds (val x.w))), .inl _, .inl _, .inr (eW.at T (wds (val y.w))), .inr (eW.at T (wds (val x.w)))] [[], [(7, 0)], [(8, 1)], [], [(10, 3)], [(11, 4)], [(9, 2)]] (by kernel_rfl) ⟨
    fun w e => (v_fa fld_Z1 rfl).ob,
    fun w e => (v_ld ty_W rfl (k1.ext e) rfl).ob,
    fun w e => (g_call _ E_whole_trim rfl (by rw [← trimL_eq hda]; exact whole_trim_c (hsa3.ext e))).ob (st_at _ _ _),
    fun w e => (v_fa fld_Z1 rfl).ob,
    fun w e => (v_ld ty_W rfl (k2.ext e) rfl).ob,
    fun w e => (g_call _ E_whole_trim rfl (by rw [← trimL_eq hdb]; exact whole_trim_c (hsb3.ext e))).ob (st_at _ _ _),
    fun w e x2 hx2 => ob_as rfl hx2 (st_at _ _ _), trivial⟩ ?_
  intro w4 e4 u2 hu2 u5 hu5 u6 hu6
  refine .asg rfl rfl (.nil ?_)
  have x4 := x3.trans e4
  have up4 := up3.ext e4.size
  have k1 := k1.ext e4
  have k2 := k2.ext e4
  have k3 := k3.ext e4
  have hla1 := wI_len hu6
  have hlb1 := wI_len hu5
  refine .mid (α := Unit) (fun _ => [(2, .pointer (some ⟨b1, 0, none⟩)), (3, .pointer (some ⟨b2, 0, none⟩)), (4, .pointer (some ⟨b3, 0, none⟩)), (5, u6), (6, u5)]) (fun _ W => W = w4) ?_ ?_
  · refine .seq (.region (.mv rfl rfl (.lenR un_W rfl rfl hu6 ?_)))
    by_cases h1 : (wds (val x.w)).length ≤ 1
    · refine .leqT rfl rfl rfl (by omega) (.mv rfl rfl (.gr rfl rfl rfl rfl (.mv rfl rfl (.gr rfl rfl rfl rfl (.lenR un_W rfl rfl hu5 (.gr rfl rfl rfl rfl ?_))))))
      by_cases h2 : (wds (val y.w)).length ≤ 1
      · refine .leqT rfl rfl rfl (by omega) (.pick rfl rfl rfl (.nil (.condT rfl (.seq ?_))))
        have hxl : val x.w < 4294967296 := by
          have h3 := wds_lt (val x.w)
          have h4 : 4294967296 ^ (wds (val x.w)).length ≤ 4294967296 ^ 1 := Nat.pow_le_pow_right (by omega) h1
          omega
        have hyl : val y.w < 4294967296 := by
          have h3 := wds_lt (val y.w)
          have h4 : 4294967296 ^ (wds (val y.w)).length ≤ 4294967296 ^ 1 := Nat.pow_le_pow_right (by omega) h2
          omega
        have hxy : val x.w * val y.w ≤ 4294967295 * 4294967295 := Nat.mul_le_mul (by omega) (by omega)
        refine .par follows 11 [.inl _, .inl _, .inl _, .inl _, .inl _, .inl _, .inl (.int .u64 (val x.w : Nat)), .inl _, .inl (.int .u64 (val y.w : Nat)), .inl (.int .u64 ((val x.w * val y.w : Nat) : Int)), .inr (eZ.at T (zc (sg (x.neg != y.neg) (val x.w * val y.w))))]
          [[], [(21, 0)], [], [(23, 2)], [(22, 1), (24, 3)], [], [(26, 5)], [], [(28, 7)], [(27, 6), (29, 8)], [(25, 4), (30, 9)]] (by kernel_rfl) ⟨
          fun w e => (v_fa fld_Z0 rfl).ob,
          fun w e => (v_ld ty_bool rfl (k1.ext e) rfl).ob,
          fun w e => (v_fa fld_Z0 rfl).ob,
          fun w e => (v_ld ty_bool rfl (k2.ext e) rfl).ob,
          fun w e => (v_neqB un_bool rfl rfl).ob,
          fun w e => (v_mv rfl).ob,
          fun w e => (g_call _ E_whole_low rfl (by have := whole_low_c (hu6.ext e) (by omega); rw [val_wds] at this; exact this)).obIs,
          fun w e => (v_mv rfl).ob,
          fun w e => (g_call _ E_whole_low rfl (by have := whole_low_c (hu5.ext e) (by omega); rw [val_wds] at this; exact this)).obIs,
          fun w e => ((v_mul rfl rfl).eq (by rw [← Int.natCast_mul, wU (by omega)])).ob,
          fun w e => (g_call _ E_whole_small rfl (whole_small_c (up4.ext e.size) (by omega))).ob (st_at _ _ _), trivial⟩ ?_
        intro w5 e5 x10 hx10
        refine .storeA ty_Z rfl rfl (k3.ext e5) rfl rfl hx10 hS fun w6 k6 u6 h6 => .nil (.ret ?_)
        refine .cell Tryz.results138 rfl ty_Z rfl rfl k6 h6 ⟨u6.below (x4.trans e5) (by omega), ?_⟩
        subst hT
        rw [hprod]
        exact h6.out
      · refine .leqF rfl rfl rfl (by omega) (.pick rfl rfl rfl (.nil (.condF rfl (.skip ?_))))
        exact ⟨rfl, (), look_cons rfl (look_cons rfl (look_cons rfl (look_cons rfl (look_cons rfl look_nil)))), rfl⟩
    · refine .leqF rfl rfl rfl (by omega) (.mv rfl rfl (.gs rfl rfl rfl rfl rfl (.gs rfl rfl rfl rfl rfl (.gs rfl rfl rfl rfl rfl (.pick rfl rfl rfl (.nil (.condF rfl (.skip ?_))))))))
      exact ⟨rfl, (), look_cons rfl (look_cons rfl (look_cons rfl (look_cons rfl (look_cons rfl look_nil)))), rfl⟩
  · rintro _ _ rfl
    refine .seq ?_
    refine .par follows 9 [.inl _, .inl _, .inl _, .inl _, .inl _, .inl _, .inl _, .inr (Wv T (val x.w * val y.w) (1099511627776 + 1099511627776)), .inr (eZ.at T (zc (sg (x.neg != y.neg) (val x.w * val y.w))))] [[], [(32, 0)], [], [(34, 2)], [(33, 1), (35, 3)], [], [], [(37, 5), (38, 6)], [(36, 4), (39, 7)]] (by kernel_rfl) ⟨
      fun w e => (v_fa fld_Z0 rfl).ob,
      fun w e => (v_ld ty_bool rfl (k1.ext e) rfl).ob,
      fun w e => (v_fa fld_Z0 rfl).ob,
      fun w e => (v_ld ty_bool rfl (k2.ext e) rfl).ob,
      fun w e => (v_neqB un_bool rfl rfl).ob,
      fun w e => (v_mv rfl).ob,
      fun w e => (v_mv rfl).ob,
      fun w e => (g_call _ E_whole_mulWords rfl ((whole_mulWords_c (up4.ext e.size) (hu6.ext e) (hu5.ext e) hla' hlb').mono fun v w' _ ⟨r, h1, h2, h3⟩ => ⟨r, h1, by rw [h2, val_wds, val_wds], by omega⟩)).ob (st_wv _ _ _),
      fun w e x7 hx7 => (g_call _ E_whole_build rfl (by obtain ⟨r, h1, h2, h3⟩ := hx7; have := whole_build_c (neg := x.neg != y.neg) (up4.ext e.size) h1; rw [h2] at this; exact this)).ob (st_at _ _ _), trivial⟩ ?_
    intro w5 e5 x7 hx7 x8 hx8
    refine .storeA ty_Z rfl rfl (k3.ext e5) rfl rfl hx8 hS fun w6 k6 u6 h6 => .nil (.ret ?_)
    refine .cell Tryz.results138 rfl ty_Z rfl rfl k6 h6 ⟨u6.below (x4.trans e5) (by omega), ?_⟩
    subst hT
    rw [hprod]
    exact h6.out

theorem zval_pos {x : ZV} (h : 0 ≤ zval x) : zval x = (val x.w : Int) := by
  unfold zval sg at *; cases hn : x.neg <;> simp [hn] at * ; omega
theorem zval_neg {x : ZV} (h : zval x < 0) : zval x = -(val x.w : Int) := by
  unfold zval sg at *; cases hn : x.neg <;> simp [hn] at * ; omega
theorem cmpI_sign {m n : Int} (h : m.sign < n.sign) : cmpI m n = -1 := by
  unfold cmpI
  rw [if_pos]
  rcases Int.lt_trichotomy m 0 with h1 | h1 | h1 <;> rcases Int.lt_trichotomy n 0 with h2 | h2 | h2 <;> simp_all [Int.sign_eq_neg_one_of_neg, Int.sign_eq_one_of_pos] <;> omega
theorem cmpI_sign' {m n : Int} (h : n.sign < m.sign) : cmpI m n = 1 := by
  have : n < m := by
    rcases Int.lt_trichotomy m 0 with h1 | h1 | h1 <;> rcases Int.lt_trichotomy n 0 with h2 | h2 | h2 <;> simp_all [Int.sign_eq_neg_one_of_neg, Int.sign_eq_one_of_pos] <;> omega
  unfold cmpI
  rw [if_neg (by omega), if_pos this]

theorem E_whole_Cmp : Ent Tryz.prog 137 := ent_of Tryz.func137 (by kernel_rfl) rfl
theorem whole_Cmp_c {S : Nat → Prop} {w : World} {va vb : Value} {x y : ZV} (ha : eZ.R S w va x) (hb : eZ.R S w vb y) :
    CR Tryz.prog 137 #[va, vb] w (Is (.int .i64 (cmpI (zval x) (zval y)))) := by
  obtain ⟨sa, rfl, hsa⟩ := ha
  obtain ⟨sb, rfl, hsb⟩ := hb
  have hda : dig x.w := eW_lt hsa
  have hdb : dig y.w := eW_lt hsb
  refine enter Tryz.func137 rfl Tryz.ntmps137 rfl ?_
  refine .seq (.region (.box rfl rfl fun w1 b1 n1 => .box rfl rfl fun w2 b2 n2 => .asg rfl rfl (.nil ?_)))
  obtain ⟨e1, k1, hb1, hs1⟩ := n1
  obtain ⟨e2, k2, hb2, hs2⟩ := n2
  have x2 := e1.trans e2
  have k1 := k1.ext e2
  have hsa2 := hsa.ext x2
  have hsb2 := hsb.ext x2
  refine .seq ?_
  refine .par follows 5 [.inl _, .inl (.int .i64 (zval x).sign), .inl _, .inl (.int .i64 (zval y).sign), .inl _] [[], [(7, 0)], [], [(9, 2)], [(8, 1)]] (by kernel_rfl) ⟨
    fun w e => (v_ldA ty_Z rfl (k1.ext e) rfl).ob,
    fun w e => (g_call _ E_whole_Sign rfl (whole_Sign_c (z := x) ⟨sa, rfl, hsa2.ext e⟩)).obIs,
    fun w e => (v_ldA ty_Z rfl (k2.ext e) rfl).ob,
    fun w e => (g_call _ E_whole_Sign rfl (whole_Sign_c (z := y) ⟨sb, rfl, hsb2.ext e⟩)).obIs,
    fun w e => (v_as rfl).ob, trivial⟩ ?_
  intro w3 e3
  refine .asg rfl rfl (.nil ?_)
  have x3 := x2.trans e3
  have k1 := k1.ext e3
  have k2 := k2.ext e3
  have hsa3 := hsa2.ext e3
  have hsb3 := hsb2.ext e3
  refine .seq (.block (.seq (.region (.mv rfl rfl (.mv rfl rfl ?_)))))
  by_cases h1 : (zval x).sign < (zval y).sign
  · refine .lssT rfl rfl rfl h1 (.asg rfl rfl (.nil (.condT rfl (.seq (.region (.asg rfl rfl (.nil (.ret ?_))))))))
    exact .plain [_] Tryz.results137 ⟨rfl, trivial⟩ ⟨x3, isI (cmpI_sign h1).symm⟩
  refine .lssF rfl rfl rfl h1 (.asg rfl rfl (.nil (.condF rfl (.seq (.region (.mv rfl rfl (.mv rfl rfl ?_)))))))
  by_cases h2 : (zval y).sign < (zval x).sign
  · refine .gtrT rfl rfl rfl h2 (.asg rfl rfl (.nil (.condT rfl (.seq (.region (.asg rfl rfl (.nil (.ret ?_))))))))
    exact .plain [_] Tryz.results137 ⟨rfl, trivial⟩ ⟨x3, isI (cmpI_sign' h2).symm⟩
  refine .gtrF rfl rfl rfl h2 (.asg rfl rfl (.nil (.condF rfl (.seq (.region (.mv rfl rfl ?_))))))
  have hs : (zval x).sign = (zval y).sign := by omega
  by_cases h3 : (zval x).sign < 0
  · refine .lssT rfl rfl rfl h3 (.asg rfl rfl (.nil (.condT rfl (.seq ?_))))
    refine .par follows 7 [.inl _, .inl _, .inr (eW.at S (wds (val y.w))), .inl _, .inl _, .inr (eW.at S (wds (val x.w))), .inl (.int .i64 (cmpN (val y.w) (val x.w)))] [[], [(22, 0)], [(23, 1)], [], [(25, 3)], [(26, 4)], [(24, 2), (27, 5)]] (by kernel_rfl) ⟨
      fun w e => (v_fa fld_Z1 rfl).ob,
      fun w e => (v_ld ty_W rfl (k2.ext e) rfl).ob,
      fun w e => (g_call _ E_whole_trim rfl (by rw [← trimL_eq hdb]; exact whole_trim_c (hsb3.ext e))).ob (st_at _ _ _),
      fun w e => (v_fa fld_Z1 rfl).ob,
      fun w e => (v_ld ty_W rfl (k1.ext e) rfl).ob,
      fun w e => (g_call _ E_whole_trim rfl (by rw [← trimL_eq hda]; exact whole_trim_c (hsa3.ext e))).ob (st_at _ _ _),
      fun w e x2 hx2 x5 hx5 => (g_call _ E_whole_compareWords rfl (whole_compareWords_c hx2 hx5)).obIs, trivial⟩ ?_
    intro w4 e4 _ _ _ _
    refine .asg rfl rfl (.nil (.ret ?_))
    refine .plain [_] Tryz.results137 ⟨rfl, trivial⟩ ⟨x3.trans e4, isI ?_⟩
    have hx : zval x < 0 := Int.sign_neg_iff.1 h3
    have hy : zval y < 0 := Int.sign_neg_iff.1 (by omega)
    have ex := zval_neg hx
    have ey := zval_neg hy
    rw [ex, ey]; unfold cmpN cmpI; split <;> (try split) <;> (try split) <;> (try split) <;> omega
  · refine .lssF rfl rfl rfl h3 (.asg rfl rfl (.nil (.condF rfl (.skip (.seq ?_)))))
    refine .par follows 7 [.inl _, .inl _, .inr (eW.at S (wds (val x.w))), .inl _, .inl _, .inr (eW.at S (wds (val y.w))), .inl (.int .i64 (cmpN (val x.w) (val y.w)))] [[], [(29, 0)], [(30, 1)], [], [(32, 3)], [(33, 4)], [(31, 2), (34, 5)]] (by kernel_rfl) ⟨
      fun w e => (v_fa fld_Z1 rfl).ob,
      fun w e => (v_ld ty_W rfl (k1.ext e) rfl).ob,
      fun w e => (g_call _ E_whole_trim rfl (by rw [← trimL_eq hda]; exact whole_trim_c (hsa3.ext e))).ob (st_at _ _ _),
      fun w e => (v_fa fld_Z1 rfl).ob,
      fun w e => (v_ld ty_W rfl (k2.ext e) rfl).ob,
      fun w e => (g_call _ E_whole_trim rfl (by rw [← trimL_eq hdb]; exact whole_trim_c (hsb3.ext e))).ob (st_at _ _ _),
      fun w e x2 hx2 x5 hx5 => (g_call _ E_whole_compareWords rfl (whole_compareWords_c hx2 hx5)).obIs, trivial⟩ ?_
    intro w4 e4 _ _ _ _
    refine .asg rfl rfl (.nil (.ret ?_))
    refine .plain [_] Tryz.results137 ⟨rfl, trivial⟩ ⟨x3.trans e4, isI ?_⟩
    have hx : 0 ≤ zval x := Int.not_lt.1 fun h => h3 (Int.sign_neg_iff.2 h)
    have hy : 0 ≤ zval y := Int.not_lt.1 fun h => h3 (by rw [hs]; exact Int.sign_neg_iff.2 h)
    have ex := zval_pos hx
    have ey := zval_pos hy
    rw [ex, ey]; unfold cmpN cmpI; split <;> (try split) <;> (try split) <;> (try split) <;> omega
end Go.Proofs.YtgghedhmjhaieaaGreat

namespace Go.Proofs.YtgghedhmjhaieaaGreat
open Go Go.Kx Go.RowKit

theorem cells_words {S : Nat → Prop} {w : World} {es : List Value} {l : List Nat} (h : Els eU32 S w es l) : es = l.map wv := by
  apply List.ext_getElem?
  intro i
  rw [List.getElem?_map]
  rcases Nat.lt_or_ge i l.length with hi | hi
  · have hi' : i < es.length := by rw [h.1]; exact hi
    have := h.2 i es[i] l[i] (List.getElem?_eq_getElem hi') (List.getElem?_eq_getElem hi)
    rw [List.getElem?_eq_getElem hi', List.getElem?_eq_getElem hi, Option.map_some]
    exact congrArg some this.1
  · rw [List.getElem?_eq_none hi, List.getElem?_eq_none (by rw [h.1]; exact hi)]; rfl

theorem Clone_o {S : Nat → Prop} {w : World} {v : Value} {l : List Nat} (h : eW.R S w v l) (hl : l.length ≤ 1099511627776) : CR Tryz.prog 132 #[v] w (fun v' w' => OwnW 89 w.heap.size w' v' l) := by
  have hdl : dig l := eW_lt h
  refine enter Tryz.func132 rfl Tryz.ntmps132 rfl ?_
  refine .seq (.region (.asg rfl rfl (.nil ?_)))
  obtain ⟨es, he, a, c, rfl, hc, hm, hlen, hcell⟩ := h
  have hes := cells_words he
  subst hes
  refine .seq (.seq (.region (.mv rfl rfl (.eqNil un_W rfl rfl rfl (.nil ?_)))))
  cases a with
  | none =>
    refine .condT rfl (.seq (.region (.asg rfl rfl (.nil (.ret ?_)))))
    have : l = [] := by
      cases l with
      | nil => rfl
      | cons x l => obtain ⟨ad, h, _⟩ := hcell (by simp); cases h
    subst this
    exact .plain [_] Tryz.results132 ⟨rfl, trivial⟩ ⟨.refl _, ⟨rfl, .inl ⟨rfl, rfl⟩⟩, by simp [dig]⟩
  | some ad =>
    refine .condF rfl (.skip (.seq (.region ?_)))
    refine .bsl _ rfl rfl bsl_W0 fun w1 b1 n1 => ?_
    obtain ⟨e1, k1, hb1, hs1⟩ := n1
    have hcell1 : ∀ j u, (cellsOf (l.map wv))[j]? = some u → w1.cell? (ad.add j) = some u := by
      intro j u hu
      rcases Nat.eq_zero_or_pos l.length with h0 | h0
      · rw [h0, Nat.zero_mul] at hlen
        have : cellsOf (l.map wv) = [] := List.length_eq_zero_iff.1 hlen
        rw [this] at hu; simp at hu
      · obtain ⟨ad', h1, _, h2⟩ := hcell h0
        cases h1
        have := h2 j u hu
        have hlt := cell_lt this
        exact (cell_same (p := ad.add j) (e1.block _ hlt)).trans this
    have hown : w1.ownsRow w.heap.size 89 1 (.slice (some ⟨b1, 0, none⟩) 0 0) 0 [] := ⟨rfl, .inr ⟨b1, 0, #[], rfl, by omega, k1, Nat.le_refl _, Nat.zero_le _, rfl, rfl⟩⟩
    rw [cellsOf_map1 wv (fun _ => rfl)] at hcell1 hlen
    have hon : ∀ u ∈ l.map wv, one1 u = true := by
      intro u hu
      obtain ⟨x, _, rfl⟩ := List.mem_map.1 hu
      rfl
    refine .mv rfl rfl ?_
    refine .gv rfl rfl (g_app (l.map wv) un_W info_u32 rfl (by decide) rfl rfl hown hlen hcell1 hon (by omega) (by omega) (by omega)) ?_
    rintro v2 w2 ⟨ho, hg⟩
    refine .asg rfl rfl (.nil (.ret ?_))
    have hx : Ext w w2 := Below.grown e1 hg e1.size (fun k hk => by simp [Value.ownBlock] at hk; omega)
    simp only [List.nil_append, Nat.zero_add] at ho
    exact .plain [_] Tryz.results132 ⟨rfl, trivial⟩ ⟨hx, ho, hdl⟩

theorem prt_Z1 {x y : Value} (hy : one1 y = true) : prtOf Tryz.prog 26 #[x, y] 1 = some y := by kernel_rfl

theorem E_whole_divWords : Ent Tryz.prog 133 := ent_of Tryz.func133 (by kernel_rfl) rfl
theorem whole_divWords_c {S : Nat → Prop} {w : World} {va vb : Value} {m n : Nat} (up : Up S w) (ha : eW.R S w va (wds m)) (hb : eW.R S w vb (wds n)) (hla : (wds m).length ≤ 1099511627776) (hn : 0 < n) :
    CR Tryz.prog 133 #[va, vb] w (Two (Wv S (m / n) ((wds m).length + 1)) (Wv S (m % n) ((wds m).length + 1))) := by
  refine enter Tryz.func133 rfl Tryz.ntmps133 rfl ?_
  refine .seq (.region (.asg rfl rfl (.asg rfl rfl (.nil ?_))))
  refine .seq (.block (.seq (.region (.mv rfl rfl (.mv rfl rfl ?_)))))
  refine .call _ rfl E_whole_compareWords rfl (whole_compareWords_c ha hb) fun v1 w1 e1 h1 => ?_
  subst h1
  have ha1 := ha.ext e1
  have hb1 := hb.ext e1
  have up1 := up.ext e1.size
  by_cases hlt : m < n
  · refine .lssT rfl rfl rfl (cmpN_neg.2 hlt) (.asg rfl rfl (.nil (.condT rfl (.seq (.region (.mv rfl rfl ?_))))))
    refine .call _ rfl E_Clone rfl (Clone_c up1 ha1 hla) fun v2 w2 e2 h2 => .asg rfl rfl (.asg rfl rfl (.nil (.ret ?_)))
    refine .plain [_, _] Tryz.results133 ⟨rfl, rfl, trivial⟩ ⟨e1.trans e2, _, _, rfl, ⟨[], RL.nil, ?_, by simp⟩, ⟨_, h2, ?_, by omega⟩⟩
    · rw [Nat.div_eq_of_lt hlt]; rfl
    · rw [val_wds, Nat.mod_eq_of_lt hlt]
  have hle : (wds n).length ≤ (wds m).length := wds_mono (by omega)
  have hn1 : 1 ≤ (wds n).length := by
    have := wds_ne_nil (n := n) (by omega)
    have := List.length_pos_iff.2 this
    omega
  refine .lssF rfl rfl rfl (fun h => hlt (cmpN_neg.1 h)) (.asg rfl rfl (.nil (.condF rfl (.seq (.region (.mv rfl rfl (.lenR un_W rfl rfl ha1 ?_)))))))
  by_cases h2 : (wds m).length ≤ 2
  · refine .leqT rfl rfl rfl (by omega) (.asg rfl rfl (.nil (.condT rfl (.seq (.region (.mv rfl rfl ?_))))))
    have hm64 : m < 18446744073709551616 := by
      have h3 := wds_lt m
      have h4 : 4294967296 ^ (wds m).length ≤ 4294967296 ^ 2 := Nat.pow_le_pow_right (by omega) h2
      omega
    refine .call _ rfl E_whole_low rfl (whole_low_c ha1 h2) fun v2 w2 e2 h2' => ?_
    subst h2'
    refine .mv rfl rfl (.call _ rfl E_whole_low rfl (whole_low_c (hb1.ext e2) (by omega)) fun v3 w3 e3 h3 => ?_)
    subst h3
    rw [val_wds, val_wds]
    refine .asg rfl rfl (.asg rfl rfl (.nil (.seq ?_)))
    have x3 := (e1.trans e2).trans e3
    have up3 := up.ext x3.size
    have hq : m / n < 18446744073709551616 := Nat.lt_of_le_of_lt (Nat.div_le_self _ _) hm64
    have hr : m % n < 18446744073709551616 := Nat.lt_of_le_of_lt (Nat.mod_le _ _) hm64
    have hfd : ∀ {σ : Env} {W : World} {d : Option Tmp} {ty : TypeId} {pos : String} {af : Array Edge} {x : Operand} {u : Value} {k : Nat}, ev σ x = some u → eZ.R S W u (zc (sg false k)) → Gv Tryz.prog ⟨d, .field 26 x 1, ty, pos, af, none⟩ σ W fun v' w' => Ext W w' ∧ Sp.ok (.inr (eW.at S (wds k))) v' w' := by
      intro σ W d ty pos af x u k hx hz
      obtain ⟨s, rfl, hs⟩ := hz
      have hk : (zc (sg false k)).w = wds k := by simp [zc, sg]
      rw [hk] at hs
      exact ob_vl (v_fd hx (prt_Z1 (eW.shp hs))) hs (st_at _ _ _)
    refine .par follows 11 [.inl _, .inl _, .inl (.int .u64 ((m / n : Nat) : Int)), .inr (eZ.at S (zc (sg false (m / n)))), .inr (eW.at S (wds (m / n))), .inl _, .inl _, .inl (.int .u64 ((m % n : Nat) : Int)), .inr (eZ.at S (zc (sg false (m % n)))), .inr (eW.at S (wds (m % n))), .inr (eW.at S (wds (m / n)))] [[], [], [(24, 0), (25, 1)], [(26, 2)], [(27, 3)], [], [], [(29, 5), (30, 6)], [(31, 7)], [(32, 8)], [(28, 4)]] (by kernel_rfl) ⟨
      fun w e => (v_mv rfl).ob,
      fun w e => (v_mv rfl).ob,
      fun w e => ((v_quo rfl rfl (by omega)).eq (by rw [tdiv_nat, wrap64_nat, Nat.mod_eq_of_lt hq])).ob,
      fun w e => (g_call _ E_whole_small rfl (whole_small_c (up3.ext e.size) hq)).ob (st_at _ _ _),
      fun w e x3 hx3 => hfd rfl hx3,
      fun w e => (v_mv rfl).ob,
      fun w e => (v_mv rfl).ob,
      fun w e => ((v_rem rfl rfl (by omega)).eq (by rw [tmod_nat])).ob,
      fun w e => (g_call _ E_whole_small rfl (whole_small_c (up3.ext e.size) hr)).ob (st_at _ _ _),
      fun w e x8 hx8 => hfd rfl hx8,
      fun w e x4 hx4 => ob_as rfl hx4 (st_at _ _ _), trivial⟩ ?_
    intro w4 e4 _ _ _ _ _ _ u9 hu9 u10 hu10
    refine .asg rfl rfl (.nil (.ret ?_))
    exact .plain [_, _] Tryz.results133 ⟨rfl, rfl, trivial⟩ ⟨x3.trans e4, _, _, rfl, ⟨_, hu10, val_wds _, Nat.le_succ_of_le (wds_mono (Nat.div_le_self _ _))⟩, ⟨_, hu9, val_wds _, Nat.le_succ_of_le (wds_mono (Nat.mod_le _ _))⟩⟩
  refine .leqF rfl rfl rfl (by omega) (.asg rfl rfl (.nil (.condF rfl (.seq (.region (.mv rfl rfl (.lenR un_W rfl rfl hb1 ?_)))))))
  by_cases h3 : (wds n).length = 1
  · refine .eqlT rfl rfl rfl (by omega) (.asg rfl rfl (.nil (.condT rfl (.seq (.region (.mv rfl rfl ?_))))))
    refine .call _ rfl E_Clone rfl (Clone_o ha1 hla) fun v2 w2 e2 o2 => .asg rfl rfl (.nil ?_)
    obtain ⟨g, cap, rfl, hc1, hc2, hg, ob⟩ := o2.ob (by intro h; rw [h] at h2; simp at h2)
    have hn32 : n < 4294967296 := by
      have h4 := wds_lt n
      rw [h3] at h4; omega
    have hwn : wds n = [n] := wds_small hn32 (by omega)
    refine .seq (.region (.mv rfl rfl (.mv rfl rfl ?_)))
    have hb2 := hb1.ext e2
    rw [hwn] at hb2
    refine .ix un_W ty_u32 rfl rfl hb2 rfl (by decide) (y := n) rfl fun p hp => .ldE ty_u32 rfl rfl hp fun e he => ?_
    obtain ⟨rfl, _⟩ := he
    refine .cvt un_u32 un_u64 rfl rfl ?_
    rw [wU (n := (n : Int)) (by omega)]
    refine .callG _ rfl E_whole_shortDiv rfl (whole_shortDiv_c ob hn hn32 hla) ?_
    rintro _ w3 ⟨rfl, u3, V, obV, hlV, hvV⟩
    rw [val_wds] at hvV ⊢
    refine .asg rfl rfl (.nil (.seq (.region (.mv rfl rfl (.mv rfl rfl (.cvt un_u64 un_u32 rfl rfl ?_))))))
    have hmn : m % n < 4294967296 := Nat.lt_trans (Nat.mod_lt _ hn) hn32
    rw [wrap32_nat, Nat.mod_eq_of_lt hmn]
    refine .bsl _ rfl rfl bsl_W1 fun w4 b4 n4 => .asg rfl rfl (.asg rfl rfl (.nil (.ret ?_)))
    obtain ⟨e4, k4, hb4, hs4⟩ := n4
    have hx3 : Ext w w3 := u3.below (e1.trans e2) (by have := e1.size; omega)
    have hR := (obV.ext e4).toR0 (S := S) (c := cap) (up g (by have := e1.size; omega)) (by omega) (by omega)
    rw [hlV] at hR
    have hR2 : eW.R S w4 (.slice (some ⟨b4, 0, none⟩) 1 1) [m % n] := eW_new (l := [m % n]) (t := 89) k4 (up b4 (by have := hx3.size; omega)) (by simp [dig, hmn]) (Nat.le_refl 1) (by simp)
    exact .plain [_, _] Tryz.results133 ⟨rfl, rfl, trivial⟩ ⟨hx3.trans e4, _, _, rfl, ⟨V, hR, hvV, by omega⟩, ⟨_, hR2, by simp [val], by simp⟩⟩
  refine .eqlF rfl rfl rfl (by omega) (.asg rfl rfl (.nil (.condF rfl (.skip (.seq (.region (.mv rfl rfl (.mv rfl rfl ?_))))))))
  have htop : 0 < (wds n).getD ((wds n).length - 2 + 1) 0 := by
    have hc := can_wds n
    have h5 : (wds n)[(wds n).length - 1]? = some ((wds n).getD ((wds n).length - 2 + 1) 0) := by
      rw [show (wds n).length - 2 + 1 = (wds n).length - 1 by omega]
      exact getD_get (by omega)
    have := hc _ (by rw [List.getLast?_eq_getElem?]; exact h5)
    omega
  refine .call _ rfl E_whole_longDiv rfl (whole_longDiv_c (m := (wds n).length - 2) up1 ha1 hb1 hla (by omega) hle htop) fun v2 w2 e2 h2 => ?_
  obtain ⟨q, r, rfl, hq, hr⟩ := h2
  rw [val_wds, val_wds] at hq hr
  refine .ext rfl rfl rfl (.ext rfl rfl rfl (.asg rfl rfl (.asg rfl rfl (.nil (.ret ?_)))))
  exact .plain [_, _] Tryz.results133 ⟨rfl, rfl, trivial⟩ ⟨e1.trans e2, _, _, rfl, hq, hr⟩
end Go.Proofs.YtgghedhmjhaieaaGreat

namespace Go.Proofs.YtgghedhmjhaieaaGreat
open Go Go.Kx Go.RowKit

/-- a result that lies in a cell -/
theorem load_cell {P : Program} {w : World} {t t' : TypeId} {b n : Nat} {α : Type} {E : ER α} {S : Nat → Prop} {v : Value} {z : α} (ht : tyOf P t = some (true, n)) (hA : E.isA = true) (hn : E.sz = n) (hb : Blk w b t' v.cells) (hz : E.R S w v z) : (loadVar t ⟨b, 0, none⟩).run P w = .ok v w := by
  have hsz := E.csz hz
  have := run_loadVarN (P := P) (w := w) (p := ⟨b, 0, none⟩) (cs := v.cells.toList) (t := t) (by rw [ht]; simp; omega) (fun j u hu => by rw [add_mk, hb.cell]; simpa using hu)
  rw [this]
  have hv := shpA hA hz
  simp only [Array.toArray_toList]
  rw [← hv]

theorem ediv_unique {a b q r : Int} (hb : b ≠ 0) (h : a = b * q + r) (h0 : 0 ≤ r) (h1 : r < b.natAbs) : a / b = q ∧ a % b = r := by
  subst h
  have hz : r / b = 0 := by
    rcases Int.lt_or_gt_of_ne hb with h | h
    · have : r / b = -(r / -b) := by rw [Int.ediv_neg, Int.neg_neg]
      rw [this, Int.ediv_eq_zero_of_lt h0 (by omega)]; rfl
    · exact Int.ediv_eq_zero_of_lt h0 (by omega)
  have hm : r % b = r := by
    have := Int.emod_def r b
    rw [hz] at this; omega
  constructor
  · rw [Int.add_comm, Int.add_mul_ediv_left _ _ hb, hz]; omega
  · rw [Int.add_comm, Int.add_mul_emod_self_left, hm]

/-- the Euclidean quotient and rest by magnitudes -/
theorem divmod_pos {p q : Bool} {A B : Nat} (hB : 0 < B) (h : p = false ∨ A % B = 0) : sg p A / sg q B = sg (p != q) (A / B) ∧ sg p A % sg q B = sg false (A % B) := by
  have hd := Nat.div_add_mod A B
  have hm := Nat.mod_lt A hB
  generalize A / B = d at *
  generalize A % B = m at *
  subst hd
  refine ediv_unique (by cases q <;> simp [sg] <;> omega) ?_ (Int.natCast_nonneg m) (by rw [sg_natAbs]; show (m : Int) < (B : Int); omega)
  cases p with
  | false => cases q <;> simp [sg, Int.natCast_mul, Int.neg_mul, Int.mul_neg]
  | true =>
    have hm0 : m = 0 := h.resolve_left (by simp)
    subst hm0
    cases q <;> simp [sg, Int.natCast_mul, Int.neg_mul, Int.mul_neg]
theorem divmod_neg {q : Bool} {A B : Nat} (hB : 0 < B) (h : 0 < A % B) : sg true A / sg q B = sg (true != q) (A / B + 1) ∧ sg true A % sg q B = sg false (B - A % B) := by
  have hd := Nat.div_add_mod A B
  have hm := Nat.mod_lt A hB
  generalize A / B = d at *
  generalize A % B = m at *
  subst hd
  refine ediv_unique (by cases q <;> simp [sg] <;> omega) ?_ (Int.natCast_nonneg _) (by rw [sg_natAbs]; show ((B - m : Nat) : Int) < (B : Int); omega)
  have e : ((B : Int) * ((d : Int) + 1)) = (B : Int) * d + B := by rw [Int.mul_add, Int.mul_one]
  have e2 : ((B - m : Nat) : Int) = (B : Int) - m := by omega
  cases q <;> simp [sg, Int.natCast_mul, Int.neg_mul, Int.mul_neg, e, e2] <;> omega

theorem E_whole_DivMod : Ent Tryz.prog 118 := ent_of Tryz.func118 (by kernel_rfl) rfl
theorem whole_DivMod_c {S : Nat → Prop} {w : World} {va vb : Value} {x y : ZV} (up : Up S w) (ha : eZ.R S w va x) (hb : eZ.R S w vb y) (hla : x.w.length ≤ 1000000000000) (hlb : y.w.length ≤ 1000000000000) (hy : zval y ≠ 0) :
    CR Tryz.prog 118 #[va, vb] w (Three (eZ.at S (zc (zval x / zval y))) (eZ.at S (zc (zval x % zval y))) (Is (.int .i64 0))) := by
  obtain ⟨sa, rfl, hsa⟩ := ha
  obtain ⟨sb, rfl, hsb⟩ := hb
  have hda : dig x.w := eW_lt hsa
  have hdb : dig y.w := eW_lt hsb
  have hla' := Nat.le_trans (wds_length_le hda) hla
  have hlb' := Nat.le_trans (wds_length_le hdb) hlb
  have hy0 : 0 < val y.w := by
    rcases Nat.eq_zero_or_pos (val y.w) with h | h
    · exact absurd (by unfold zval sg; rw [h]; simp) hy
    · exact h
  refine enter Tryz.func118 rfl Tryz.ntmps118 rfl ?_
  refine .seq (.region (.box rfl rfl fun w1 b1 n1 => .box rfl rfl fun w2 b2 n2 => .alloc rfl zero_Z fun w3 b3 n3 => .alloc rfl zero_Z fun w4 b4 n4 => .asg rfl rfl (.nil ?_)))
  obtain ⟨e1, k1, hb1, hs1⟩ := n1
  obtain ⟨e2, k2, hb2, hs2⟩ := n2
  obtain ⟨e3, k3, hb3, hs3⟩ := n3
  obtain ⟨e4, k4, hb4, hs4⟩ := n4
  have x4 := ((e1.trans e2).trans e3).trans e4
  have k1 := ((k1.ext e2).ext e3).ext e4
  have k2 := (k2.ext e3).ext e4
  have k3 := k3.ext e4
  have hS3 : ¬ Sx S w.heap.size w4.heap.size b3 := Sx.no (by omega) (by omega)
  have hS4 : ¬ Sx S w.heap.size w4.heap.size b4 := Sx.no (by omega) (by omega)
  have up4 : Up (Sx S w.heap.size w4.heap.size) w4 := Sx.up up (Nat.le_refl _) x4.size
  have hsa4 := (hsa.par w4.heap.size).ext x4
  have hsb4 := (hsb.par w4.heap.size).ext x4
  have hout : ∀ {W : World} {v : Value} {z : ZV}, eZ.R (Sx S w.heap.size w4.heap.size) W v z → eZ.R S W v z := fun h => h.out
  generalize hT : Sx S w.heap.size w4.heap.size = T at *
  refine .seq ?_
  refine .par follows 7 [.inl _, .inl _, .inr (eW.at T (wds (val x.w))), .inl _, .inl _, .inr (eW.at T (wds (val y.w))), .inr (eW.at T (wds (val x.w)))] [[], [(11, 0)], [(12, 1)], [], [(14, 3)], [(15, 4)], [(13, 2)]] (by kernel_rfl) ⟨
    fun w e => (v_fa fld_Z1 rfl).ob,
    fun w e => (v_ld ty_W rfl (k1.ext e) rfl).ob,
    fun w e => (g_call _ E_whole_trim rfl (by rw [← trimL_eq hda]; exact whole_trim_c (hsa4.ext e))).ob (st_at _ _ _),
    fun w e => (v_fa fld_Z1 rfl).ob,
    fun w e => (v_ld ty_W rfl (k2.ext e) rfl).ob,
    fun w e => (g_call _ E_whole_trim rfl (by rw [← trimL_eq hdb]; exact whole_trim_c (hsb4.ext e))).ob (st_at _ _ _),
    fun w e x2 hx2 => ob_as rfl hx2 (st_at _ _ _), trivial⟩ ?_
  intro w5 e5 u2 hu2 u5 hu5 u6 hu6
  refine .asg rfl rfl (.nil ?_)
  have x5 := x4.trans e5
  have up5 := up4.ext e5.size
  have hne : (wds (val y.w)).length ≠ 0 := by
    have := List.length_pos_iff.2 (wds_ne_nil (n := val y.w) (by omega)); omega
  refine .seq (.seq (.region (.mv rfl rfl (.lenR un_W rfl rfl hu5 (.eqlF rfl rfl rfl (by omega) (.nil (.condF rfl (.skip ?_))))))))
  refine .seq (.region (.mv rfl rfl (.mv rfl rfl ?_)))
  refine .call _ rfl E_whole_divWords rfl (whole_divWords_c up5 hu6 hu5 (by omega) hy0) fun v6 w6 e6 h6 => ?_
  obtain ⟨vq, vr, rfl, ⟨q, hq, hqv, hql⟩, ⟨r, hr, hrv, hrl⟩⟩ := h6
  refine .mv rfl rfl (.ext rfl rfl rfl (.ext rfl rfl rfl (.asg rfl rfl (.asg rfl rfl (.nil ?_)))))
  have hrd : dig r := eW_lt hr
  refine .seq (.region (.mv rfl rfl ?_))
  refine .call _ rfl E_whole_trim rfl (whole_trim_c hr) fun vt w7 e7 ht => .asg rfl rfl (.nil ?_)
  rw [trimL_eq hrd, hrv] at ht
  have e67 := e6.trans e7
  have x7 := x5.trans e67
  have up7 := up5.ext e67.size
  have hq7 := hq.ext e7
  have k1 := (k1.ext e5).ext e67
  have k2 := (k2.ext e5).ext e67
  have k3 := (k3.ext e5).ext e67
  have k4 := (k4.ext e5).ext e67
  have hu57 := hu5.ext e67
  have hl7 := wI_len ht
  have hrl' : (wds (val x.w % val y.w)).length ≤ (wds (val y.w)).length := wds_mono (Nat.le_of_lt (Nat.mod_lt _ hy0))
  -- the rest is not negative
  refine .mid (α := Value × Value) (fun z => [(2, .pointer (some ⟨b1, 0, none⟩)), (3, .pointer (some ⟨b2, 0, none⟩)), (4, .pointer (some ⟨b3, 0, none⟩)), (5, .pointer (some ⟨b4, 0, none⟩)), (9, z.1), (10, z.2)])
    (fun z W => Ext w7 W ∧ ∃ q r, eW.R T W z.1 q ∧ eW.R T W z.2 r ∧ zval x / zval y = sg (x.neg != y.neg) (val q) ∧ zval x % zval y = sg false (val r)) ?_ ?_
  · refine .seq (.region (.fa fld_Z0 rfl rfl (.ld ty_bool rfl rfl k1 rfl (.mv rfl rfl ?_))))
    cases hn : x.neg with
    | false =>
      refine .gs rfl rfl rfl rfl rfl (.gs rfl rfl rfl rfl rfl (.gs rfl rfl rfl rfl rfl (.pick rfl rfl rfl (.nil (.condF rfl (.skip ?_))))))
      obtain ⟨d1, d2⟩ := divmod_pos (p := false) (q := y.neg) (A := val x.w) hy0 (.inl rfl)
      refine ⟨rfl, (vq, vt), look_cons rfl (look_cons rfl (look_cons rfl (look_cons rfl (look_cons rfl (look_cons rfl look_nil))))), .refl _, q, _, hq7, ht, ?_, ?_⟩
      · unfold zval; rw [hn, hqv]; exact d1
      · unfold zval; rw [hn, val_wds]; exact d2
    | true =>
      refine .gr rfl rfl rfl rfl (.mv rfl rfl (.gr rfl rfl rfl rfl (.lenR un_W rfl rfl ht (.gr rfl rfl rfl rfl ?_))))
      rcases Nat.eq_zero_or_pos (val x.w % val y.w) with h0 | h0
      · have h0' : (wds (val x.w % val y.w)).length = 0 := by rw [h0, wds_zero]; rfl
        refine .gtrF rfl rfl rfl (by omega) (.pick rfl rfl rfl (.nil (.condF rfl (.skip ?_))))
        obtain ⟨d1, d2⟩ := divmod_pos (p := true) (q := y.neg) (A := val x.w) hy0 (.inr h0)
        refine ⟨rfl, (vq, vt), look_cons rfl (look_cons rfl (look_cons rfl (look_cons rfl (look_cons rfl (look_cons rfl look_nil))))), .refl _, q, _, hq7, ht, ?_, ?_⟩
        · unfold zval; rw [hn, hqv]; exact d1
        · unfold zval; rw [hn, val_wds]; exact d2
      · have h0' := List.length_pos_iff.2 (wds_ne_nil (n := val x.w % val y.w) (by omega))
        refine .gtrT rfl rfl rfl (by omega) (.pick rfl rfl rfl (.nil (.condT rfl (.seq (.region (.mv rfl rfl ?_))))))
        refine .bsl _ rfl rfl bsl_W1 fun w8 b8 n8 => ?_
        obtain ⟨e8, k8, hb8, hs8⟩ := n8
        have h1 : eW.R T w8 (.slice (some ⟨b8, 0, none⟩) 1 1) [1] := eW_new (l := [1]) (t := 89) k8 (up7 b8 (by omega)) (by simp [dig]) (Nat.le_refl 1) (by simp)
        refine .call _ rfl E_whole_addWords rfl (whole_addWords_c (up7.ext e8.size) (hq7.ext e8) h1 (by omega) (by simp)) fun v9 w9 e9 h9 => .asg rfl rfl (.nil (.region (.mv rfl rfl (.mv rfl rfl ?_))))
        obtain ⟨q', hq', hqv', hql'⟩ := h9
        have e79 := e8.trans e9
        refine .call _ rfl E_whole_subWords rfl (whole_subWords_c (up7.ext e79.size) (hu57.ext e79) (ht.ext e79) (by omega) (by omega) (by rw [val_wds, val_wds]; exact Nat.le_of_lt (Nat.mod_lt _ hy0))) fun v10 w10 e10 h10 => .asg rfl rfl (.nil ?_)
        obtain ⟨r', hr', hrv', hrl''⟩ := h10
        obtain ⟨d1, d2⟩ := divmod_neg (q := y.neg) (A := val x.w) hy0 h0
        refine ⟨rfl, (v9, v10), look_cons rfl (look_cons rfl (look_cons rfl (look_cons rfl (look_cons rfl (look_cons rfl look_nil))))), e79.trans e10, q', r', hq'.ext e10, hr', ?_, ?_⟩
        · unfold zval; rw [hn, hqv', hqv]; simp only [val]; rw [Nat.mul_zero, Nat.add_zero]; exact d1
        · unfold zval; rw [hn, hrv', val_wds, val_wds]; exact d2
  · rintro ⟨vq, vr⟩ W ⟨e8, q, r, hq, hr, hdq, hdr⟩
    replace hq : eW.R T W vq q := hq
    replace hr : eW.R T W vr r := hr
    have k1 := k1.ext e8
    have k2 := k2.ext e8
    have up8 := up7.ext e8.size
    refine .seq (.region (.fa fld_Z0 rfl rfl (.ld ty_bool rfl rfl k1 rfl (.fa fld_Z0 rfl rfl (.ld ty_bool rfl rfl k2 rfl (.neqB un_bool rfl rfl rfl (.mv rfl rfl ?_)))))))
    refine .call _ rfl E_whole_build rfl (whole_build_c up8 hq) fun v9 w9 e9 h9 => .mv rfl rfl ?_
    refine .call _ rfl E_whole_build rfl (whole_build_c (up8.ext e9.size) (hr.ext e9)) fun v10 w10 e10 h10 => ?_
    have e910 := e9.trans e10
    have k3 := (k3.ext e8).ext e910
    have k4 := (k4.ext e8).ext e910
    refine .storeA ty_Z rfl rfl k3 rfl rfl (h9.ext e10) hS3 fun w11 k11 u11 h11 => ?_
    have hne34 : b4 ≠ b3 := by omega
    refine .storeA ty_Z rfl rfl (k4.upd u11 hne34) rfl rfl (h10.upd u11 hS3) hS4 fun w12 k12 u12 h12 => .asg rfl rfl (.nil (.ret ?_))
    have h11' := h11.upd u12 hS4
    have k11' := k11.upd u12 (Ne.symm hne34)
    rw [hdq, hdr]
    refine .plain [_, _, _] Tryz.results118 ⟨⟨_, rfl, load_cell (E := eZ) ty_Z rfl rfl k11' h11'⟩, ⟨_, rfl, load_cell (E := eZ) ty_Z rfl rfl k12 h12⟩, rfl, trivial⟩ ⟨?_, _, _, _, rfl, hout h11', hout h12, rfl⟩
    exact u12.below (u11.below (((x7.trans e8).trans e910)) (by omega)) (by omega)

theorem E_whole_GCD : Ent Tryz.prog 117 := ent_of Tryz.func117 (by kernel_rfl) rfl
theorem whole_GCD_c {S : Nat → Prop} {w : World} {va vb : Value} {x y : ZV} (up : Up S w) (ha : eZ.R S w va x) (hb : eZ.R S w vb y) (hla : x.w.length ≤ 1000000000000) (hlb : y.w.length ≤ 1000000000000) :
    CR Tryz.prog 117 #[va, vb] w (eZ.at S (zc (Nat.gcd (val x.w) (val y.w) : Nat))) := by
  obtain ⟨sa, rfl, hsa⟩ := ha
  obtain ⟨sb, rfl, hsb⟩ := hb
  have hda : dig x.w := eW_lt hsa
  have hdb : dig y.w := eW_lt hsb
  have hla' := Nat.le_trans (wds_length_le hda) hla
  have hlb' := Nat.le_trans (wds_length_le hdb) hlb
  refine enter Tryz.func117 rfl Tryz.ntmps117 rfl ?_
  refine .seq (.region (.box rfl rfl fun w1 b1 n1 => .box rfl rfl fun w2 b2 n2 => .alloc rfl zero_Z fun w3 b3 n3 => .nil ?_))
  obtain ⟨e1, k1, hb1, hs1⟩ := n1
  obtain ⟨e2, k2, hb2, hs2⟩ := n2
  obtain ⟨e3, k3, hb3, hs3⟩ := n3
  have x3 := (e1.trans e2).trans e3
  have k1 := (k1.ext e2).ext e3
  have k2 := k2.ext e3
  have hS : ¬ Sx S w.heap.size w3.heap.size b3 := Sx.no (by omega) (by omega)
  have up3 : Up (Sx S w.heap.size w3.heap.size) w3 := Sx.up up (Nat.le_refl _) x3.size
  have hsa3 := (hsa.par w3.heap.size).ext x3
  have hsb3 := (hsb.par w3.heap.size).ext x3
  have hout : ∀ {W : World} {v : Value} {z : ZV}, eZ.R (Sx S w.heap.size w3.heap.size) W v z → eZ.R S W v z := fun h => h.out
  generalize hT : Sx S w.heap.size w3.heap.size = T at *
  refine .seq ?_
  refine .par follows 7 [.inl _, .inl _, .inr (eW.at T (wds (val x.w))), .inl _, .inl _, .inr (eW.at T (wds (val y.w))), .inr (eW.at T (wds (val x.w)))] [[], [(11, 0)], [(12, 1)], [], [(14, 3)], [(15, 4)], [(13, 2)]] (by kernel_rfl) ⟨
    fun w e => (v_fa fld_Z1 rfl).ob,
    fun w e => (v_ld ty_W rfl (k1.ext e) rfl).ob,
    fun w e => (g_call _ E_whole_trim rfl (by rw [← trimL_eq hda]; exact whole_trim_c (hsa3.ext e))).ob (st_at _ _ _),
    fun w e => (v_fa fld_Z1 rfl).ob,
    fun w e => (v_ld ty_W rfl (k2.ext e) rfl).ob,
    fun w e => (g_call _ E_whole_trim rfl (by rw [← trimL_eq hdb]; exact whole_trim_c (hsb3.ext e))).ob (st_at _ _ _),
    fun w e x2 hx2 => ob_as rfl hx2 (st_at _ _ _), trivial⟩ ?_
  intro w4 e4 u2 hu2 u5 hu5 u6 hu6
  refine .asg rfl rfl (.nil ?_)
  have x4 := x3.trans e4
  have up4 := up3.ext e4.size
  have k4 := k3.ext e4
  generalize hG : Nat.gcd (val x.w) (val y.w) = G at *
  refine .mid (α := Value × Value) (fun z => [(4, .pointer (some ⟨b3, 0, none⟩)), (5, z.1), (6, z.2)]) (fun z W => Ext w4 W ∧ ∃ m n, eW.R T W z.1 (wds m) ∧ eW.R T W z.2 (wds n) ∧ Nat.gcd m n = G ∧ (wds m).length ≤ 1000000000000 ∧ (n = 0 ∨ ((wds m).length ≤ 2 ∧ (wds n).length ≤ 2))) ?_ ?_
  · refine .block (.loop (α := Nat × Nat × Value × Value) (fun z => [(4, .pointer (some ⟨b3, 0, none⟩)), (5, z.2.2.1), (6, z.2.2.2)]) (fun z W => Ext w4 W ∧ eW.R T W z.2.2.1 (wds z.1) ∧ eW.R T W z.2.2.2 (wds z.2.1) ∧ Nat.gcd z.1 z.2.1 = G ∧ (wds z.1).length ≤ 1000000000000 ∧ (wds z.2.1).length ≤ 1000000000000) (fun z => z.2.1) (val x.w, val y.w, u6, u5) ?_ ?_ ?_)
    · exact look_cons rfl (look_cons rfl (look_cons rfl look_nil))
    · exact ⟨.refl _, hu6, hu5, hG, hla', hlb'⟩
    · rintro ⟨m, n, v5, v6⟩ W ⟨hW, h5, h6, hg, hl5, hl6⟩
      replace h5 : eW.R T W v5 (wds m) := h5
      replace h6 : eW.R T W v6 (wds n) := h6
      replace hg : Nat.gcd m n = G := hg
      replace hl5 : (wds m).length ≤ 1000000000000 := hl5
      replace hl6 : (wds n).length ≤ 1000000000000 := hl6
      refine .mid (α := Unit) (fun _ => [(4, .pointer (some ⟨b3, 0, none⟩)), (5, v5), (6, v6)]) (fun _ W' => W' = W ∧ 0 < n) ?_ ?_
      · refine .seq (.region (.mv rfl rfl (.lenR un_W rfl rfl h6 ?_)))
        rcases Nat.eq_zero_or_pos n with hn | hn
        · subst hn
          rw [wds_zero]
          refine .gtrF rfl rfl rfl (by decide) (.mv rfl rfl ?_)
          refine .gs rfl rfl rfl rfl rfl (.gs rfl rfl rfl rfl rfl (.gs rfl rfl rfl rfl rfl (.gs rfl rfl rfl rfl rfl ?_)))
          refine .gu rfl rfl rfl rfl (.gu rfl rfl rfl rfl (.gu rfl rfl rfl rfl (.gs rfl rfl rfl rfl rfl (.pick rfl rfl rfl (.nil (.condF rfl (.exit ?_)))))))
          exact ⟨rfl, (v5, v6), look_cons rfl (look_cons rfl (look_cons rfl look_nil)), hW, m, 0, h5, h6, hg, hl5, .inl rfl⟩
        · have hn0 := List.length_pos_iff.2 (wds_ne_nil (n := n) (by omega))
          refine .gtrT rfl rfl rfl (by omega) (.mv rfl rfl (.gr rfl rfl rfl rfl (.mv rfl rfl (.gr rfl rfl rfl rfl (.lenR un_W rfl rfl h5 (.gr rfl rfl rfl rfl ?_))))))
          by_cases hm2 : 2 < (wds m).length
          · refine .gtrT rfl rfl rfl (by omega) (.gr rfl rfl rfl rfl (.mv rfl rfl (.gs rfl rfl rfl rfl rfl (.gs rfl rfl rfl rfl rfl (.gs rfl rfl rfl rfl rfl (.gr rfl rfl rfl rfl (.pick rfl rfl rfl (.pick rfl rfl rfl (.nil (.condT rfl (.skip ?_)))))))))))
            exact ⟨rfl, (), look_cons rfl (look_cons rfl (look_cons rfl look_nil)), rfl, hn⟩
          · refine .gtrF rfl rfl rfl (by omega) (.gr rfl rfl rfl rfl (.mv rfl rfl (.gr rfl rfl rfl rfl (.mv rfl rfl (.gr rfl rfl rfl rfl (.lenR un_W rfl rfl h6 (.gr rfl rfl rfl rfl ?_)))))))
            by_cases hn2 : 2 < (wds n).length
            · refine .gtrT rfl rfl rfl (by omega) (.gr rfl rfl rfl rfl (.pick rfl rfl rfl (.pick rfl rfl rfl (.nil (.condT rfl (.skip ?_))))))
              exact ⟨rfl, (), look_cons rfl (look_cons rfl (look_cons rfl look_nil)), rfl, hn⟩
            · refine .gtrF rfl rfl rfl (by omega) (.gr rfl rfl rfl rfl (.pick rfl rfl rfl (.pick rfl rfl rfl (.nil (.condF rfl (.exit ?_))))))
              exact ⟨rfl, (v5, v6), look_cons rfl (look_cons rfl (look_cons rfl look_nil)), hW, m, n, h5, h6, hg, hl5, .inr ⟨by omega, by omega⟩⟩
      · rintro _ W' ⟨rfl, hn⟩
        refine .block (.seq (.region (.mv rfl rfl (.mv rfl rfl ?_))))
        refine .call _ rfl E_whole_divWords rfl (whole_divWords_c (up4.ext hW.size) h5 h6 (by omega) hn) fun v7 w7 e7 h7 => ?_
        obtain ⟨vq, vr, rfl, _, ⟨r, hr, hrv, hrl⟩⟩ := h7
        refine .mv rfl rfl (.ext rfl rfl rfl (.ext rfl rfl rfl (.asg rfl rfl (.asg rfl rfl (.nil (.region (.mv rfl rfl (.mv rfl rfl ?_))))))))
        have hrd : dig r := eW_lt hr
        refine .call _ rfl E_whole_trim rfl (whole_trim_c hr) fun vt w8 e8 ht => .asg rfl rfl (.asg rfl rfl (.nil ?_))
        rw [trimL_eq hrd, hrv] at ht
        have hlt := Nat.mod_lt m hn
        refine ⟨rfl, (n, m % n, v6, vt), look_cons rfl (look_cons rfl (look_cons rfl look_nil)), ⟨(hW.trans e7).trans e8, (h6.ext e7).ext e8, ht, ?_, hl6, ?_⟩, hlt⟩
        · show Nat.gcd n (m % n) = G
          rw [← hg, Nat.gcd_comm m n, Nat.gcd_rec n m, Nat.gcd_comm]
        · exact Nat.le_trans (wds_mono (Nat.le_of_lt hlt)) hl6
  · rintro ⟨v5, v6⟩ W ⟨hW, m, n, h5, h6, hg, hl5, hend⟩
    replace h5 : eW.R T W v5 (wds m) := h5
    replace h6 : eW.R T W v6 (wds n) := h6
    have upW := up4.ext hW.size
    have xW := x4.trans hW
    have kW := k4.ext hW
    refine .seq (.seq (.region (.mv rfl rfl (.lenR un_W rfl rfl h6 ?_))))
    rcases Nat.eq_zero_or_pos n with hn | hn
    · subst hn
      rw [wds_zero]
      refine .eqlT rfl rfl rfl rfl (.nil (.condT rfl (.seq (.region (.mv rfl rfl ?_)))))
      refine .call _ rfl E_Clone rfl (Clone_c upW h5 (by omega)) fun v7 w7 e7 h7 => ?_
      refine .call _ rfl E_whole_build rfl (whole_build_c (upW.ext e7.size) h7) fun v8 w8 e8 h8 => ?_
      refine .storeA ty_Z rfl rfl ((kW.ext e7).ext e8) rfl rfl h8 hS fun w9 k9 u9 h9 => .nil (.ret ?_)
      refine .cell Tryz.results117 rfl ty_Z rfl rfl k9 h9 ⟨u9.below ((xW.trans e7).trans e8) (by omega), ?_⟩
      rw [val_wds] at h9
      rw [← hg, Nat.gcd_zero_right]
      exact hout h9
    · have hn0 := List.length_pos_iff.2 (wds_ne_nil (n := n) (by omega))
      obtain ⟨hm2, hn2⟩ := hend.resolve_left (by omega)
      have hm64 : m < 18446744073709551616 := by
        have h3 := wds_lt m
        have h4 : 4294967296 ^ (wds m).length ≤ 4294967296 ^ 2 := Nat.pow_le_pow_right (by omega) hm2
        omega
      have hn64 : n < 18446744073709551616 := by
        have h3 := wds_lt n
        have h4 : 4294967296 ^ (wds n).length ≤ 4294967296 ^ 2 := Nat.pow_le_pow_right (by omega) hn2
        omega
      refine .eqlF rfl rfl rfl (by omega) (.nil (.condF rfl (.skip (.seq (.region (.mv rfl rfl ?_))))))
      refine .call _ rfl E_whole_low rfl (whole_low_c h5 hm2) fun v7 w7 e7 h7 => ?_
      subst h7
      refine .mv rfl rfl (.call _ rfl E_whole_low rfl (whole_low_c (h6.ext e7) hn2) fun v8 w8 e8 h8 => ?_)
      subst h8
      rw [val_wds, val_wds]
      refine .asg rfl rfl (.asg rfl rfl (.nil ?_))
      have x8 := (xW.trans e7).trans e8
      have up8 := (upW.ext e7.size).ext e8.size
      have k8 := (kW.ext e7).ext e8
      refine .mid (α := Unit) (fun _ => [(4, .pointer (some ⟨b3, 0, none⟩)), (9, .int .u64 (G : Nat))]) (fun _ W' => Ext w8 W' ∧ G < 18446744073709551616) ?_ ?_
      · refine .block (.loop (α := Nat × Nat) (fun z => [(4, .pointer (some ⟨b3, 0, none⟩)), (9, .int .u64 (z.1 : Nat)), (10, .int .u64 (z.2 : Nat))]) (fun z W' => Ext w8 W' ∧ Nat.gcd z.1 z.2 = G ∧ z.1 < 18446744073709551616 ∧ z.2 < 18446744073709551616) (fun z => z.2) (m, n) ?_ ?_ ?_)
        · exact look_cons rfl (look_cons rfl (look_cons rfl look_nil))
        · exact ⟨.refl _, hg, hm64, hn64⟩
        · rintro ⟨m, n⟩ W' ⟨hW', hg, hm, hn⟩
          replace hg : Nat.gcd m n = G := hg
          replace hm : m < 18446744073709551616 := hm
          replace hn : n < 18446744073709551616 := hn
          rcases Nat.eq_zero_or_pos n with h0 | h0
          · subst h0
            refine .seq (.seq (.region (.mv rfl rfl (.gtrF rfl rfl rfl (by show ¬ (0 : Int) < ((0 : Nat) : Int); omega) (.nil (.condF rfl (.exit ?_)))))))
            rw [Nat.gcd_zero_right] at hg
            subst hg
            exact ⟨rfl, (), look_cons rfl (look_cons rfl look_nil), hW', hm⟩
          · refine .seq (.seq (.region (.mv rfl rfl (.gtrT rfl rfl rfl (by show (0 : Int) < (n : Int); omega) (.nil (.condT rfl (.skip (.block ?_))))))))
            refine .par follows 5 [.inl (.int .u64 (n : Nat)), .inl (.int .u64 (m : Nat)), .inl (.int .u64 (n : Nat)), .inl (.int .u64 ((m % n : Nat) : Int)), .inl (.int .u64 (n : Nat))] [[], [], [], [(52, 1), (53, 2)], [(51, 0)]] (by kernel_rfl) ⟨
              fun w e => (v_mv rfl).ob,
              fun w e => (v_mv rfl).ob,
              fun w e => (v_mv rfl).ob,
              fun w e => ((v_rem rfl rfl (by omega)).eq (by rw [tmod_nat])).ob,
              fun w e => (v_as rfl).ob, trivial⟩ ?_
            intro w9 e9
            refine .asg rfl rfl (.nil ?_)
            have hlt := Nat.mod_lt m h0
            refine ⟨rfl, (n, m % n), look_cons rfl (look_cons rfl (look_cons rfl look_nil)), ⟨hW'.trans e9, ?_, hn, Nat.lt_trans hlt hn⟩, hlt⟩
            show Nat.gcd n (m % n) = G
            rw [← hg, Nat.gcd_comm m n, Nat.gcd_rec n m, Nat.gcd_comm]
      · rintro _ W' ⟨hW', hG64⟩
        refine .seq (.region (.mv rfl rfl ?_))
        refine .call _ rfl E_whole_small rfl (whole_small_c (neg := false) (up8.ext hW'.size) hG64) fun v9 w9 e9 h9 => ?_
        refine .storeA ty_Z rfl rfl ((k8.ext hW').ext e9) rfl rfl h9 hS fun w10 k10 u10 h10 => .nil (.ret ?_)
        exact .cell Tryz.results117 rfl ty_Z rfl rfl k10 h10 ⟨u10.below ((x8.trans hW').trans e9) (by omega), hout h10⟩
end Go.Proofs.YtgghedhmjhaieaaGreat
