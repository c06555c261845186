/-
  The seat's own tables: types by their names. whole: trim, build, small, low, compareWords, FromInt64 whole: low, compareWords, Clone, Sign, Cmp, Int64, Neg whole: Clone, Sign, Int64, Neg, Cmp whole: carrier, pairs whole: addWords, subWords whole: shiftLeft, mulWords, shortDiv
-/
import Derived.Test.YtgghedhmjhaieaaGreatG2
import Derived.Test.YtgghedhmjhaieaaGreatProg
set_option linter.unusedVariables false
namespace Go.Proofs.YtgghedhmjhaieaaGreat
open Go Go.Kx

theorem follows : Tryz.prog.follows .mixedOrders = true := by kernel_rfl
-- bool, int, ..
theorem ty_bool : tyOf Tryz.prog 4 = some (false, 1) := by kernel_rfl
theorem un_bool : Tryz.prog.underlying 4 = some .bool := by kernel_rfl
theorem un_int : Tryz.prog.underlying 3 = some (.int .i64) := by kernel_rfl
theorem un_i64 : Tryz.prog.underlying 2 = some (.int .i64) := by kernel_rfl
theorem un_u64 : Tryz.prog.underlying 112 = some (.int .u64) := by kernel_rfl
theorem un_u32 : Tryz.prog.underlying 89 = some (.int .u32) := by kernel_rfl
theorem un_uint : Tryz.prog.underlying 131 = some (.int .u64) := by kernel_rfl
theorem ty_int : tyOf Tryz.prog 3 = some (false, 1) := by kernel_rfl
theorem ty_i64 : tyOf Tryz.prog 2 = some (false, 1) := by kernel_rfl
theorem ty_u64 : tyOf Tryz.prog 112 = some (false, 1) := by kernel_rfl
theorem ty_u32 : tyOf Tryz.prog 89 = some (false, 1) := by kernel_rfl
theorem info_u32 : infoOf Tryz.prog 89 = some (.int .u32 0, 1, 4) := by kernel_rfl
-- words
theorem un_W : Tryz.prog.underlying 24 = some (.slice 89) := by kernel_rfl
theorem ty_W : tyOf Tryz.prog 24 = some (false, 1) := by kernel_rfl
theorem zero_W : zeroOf Tryz.prog 24 = some (.slice none 0 0) := by kernel_rfl
-- integers
theorem ty_Z : tyOf Tryz.prog 26 = some (true, 2) := by kernel_rfl
theorem zero_Z : zeroOf Tryz.prog 26 = some (.agg #[.bool false, .slice none 0 0]) := by kernel_rfl
theorem fld_Z0 : fldOf Tryz.prog 26 0 = some 0 := by kernel_rfl
theorem fld_Z1 : fldOf Tryz.prog 26 1 = some 1 := by kernel_rfl
-- rationals
theorem ty_Q : tyOf Tryz.prog 28 = some (true, 4) := by kernel_rfl
theorem zero_Q : zeroOf Tryz.prog 28 = some (.agg #[.bool false, .slice none 0 0, .bool false, .slice none 0 0]) := by kernel_rfl
theorem info_Q : infoOf Tryz.prog 28 = some (.agg #[.bool false, .slice none 0 0, .bool false, .slice none 0 0], 4, 64) := by kernel_rfl
theorem fld_Q0 : fldOf Tryz.prog 28 0 = some 0 := by kernel_rfl
theorem fld_Q1 : fldOf Tryz.prog 28 1 = some 2 := by kernel_rfl
-- vectors
theorem un_V : Tryz.prog.underlying 23 = some (.slice 28) := by kernel_rfl
theorem ty_V : tyOf Tryz.prog 23 = some (false, 1) := by kernel_rfl
theorem zero_V : zeroOf Tryz.prog 23 = some (.slice none 0 0) := by kernel_rfl
theorem info_V : infoOf Tryz.prog 23 = some (.slice none 0 0, 1, 24) := by kernel_rfl
theorem un_M : Tryz.prog.underlying 22 = some (.slice 23) := by kernel_rfl
theorem ty_M : tyOf Tryz.prog 22 = some (false, 1) := by kernel_rfl
theorem zero_M : zeroOf Tryz.prog 22 = some (.slice none 0 0) := by kernel_rfl
-- literals
theorem bld_Z0 : bldOf Tryz.prog 26 [] = some #[.bool false, .slice none 0 0] := by kernel_rfl
theorem bld_Z2 {b : Bool} {a : Option Addr} {n c : Nat} : bldOf Tryz.prog 26 [(0, .bool b), (1, .slice a n c)] = some #[.bool b, .slice a n c] := by kernel_rfl
theorem bld_Q0 : bldOf Tryz.prog 28 [] = some #[.bool false, .slice none 0 0, .bool false, .slice none 0 0] := by kernel_rfl
theorem bld_Q1 {x y : Value} : bldOf Tryz.prog 28 [(0, .agg #[x, y])] = some #[x, y, .bool false, .slice none 0 0] := by kernel_rfl
theorem bld_Q2 {x y x' y' : Value} : bldOf Tryz.prog 28 [(0, .agg #[x, y]), (1, .agg #[x', y'])] = some #[x, y, x', y'] := by kernel_rfl
theorem bsl_W0 : bslOf Tryz.prog 24 0 [] = some (89, #[]) := by kernel_rfl
theorem bsl_W1 {x : Int} : bslOf Tryz.prog 24 1 [(0, .int .u32 x)] = some (89, #[.int .u32 x]) := by kernel_rfl
theorem bsl_W2 {x y : Int} : bslOf Tryz.prog 24 2 [(0, .int .u32 x), (1, .int .u32 y)] = some (89, #[.int .u32 x, .int .u32 y]) := by kernel_rfl
end Go.Proofs.YtgghedhmjhaieaaGreat

namespace Go.Proofs.YtgghedhmjhaieaaGreat
open Go Go.Kx Go.RowKit

theorem E_whole_trim : Ent Tryz.prog 100 := ent_of Tryz.func100 (by kernel_rfl) rfl
theorem whole_trim_c {S : Nat → Prop} {w : World} {v : Value} {l : List Nat} (h : eW.R S w v l) : CR Tryz.prog 100 #[v] w (eW.at S (trimL l)) := by
  refine enter Tryz.func100 rfl Tryz.ntmps100 rfl ?_
  refine .seq ?_
  refine .region ?_  -- region 0
  refine .asg rfl rfl ?_
  refine .nil ?_
  refine .seq ?_
  refine .block ?_  -- block 0
  refine .loop (α := Value × List Nat) (fun x => [(0, x.1)]) (fun x w' => w' = w ∧ eW.R S w x.1 x.2 ∧ trimL x.2 = trimL l) (fun x => x.2.length) (v, l) ?_ ?_ ?_
  · exact look_cons rfl look_nil
  · exact ⟨rfl, h, rfl⟩
  · rintro ⟨u, r⟩ w' ⟨rfl, hu, hr⟩
    replace hu : eW.R S w' u r := hu
    replace hr : trimL r = trimL l := hr
    have hlen := wI_len hu
    refine .seq ?_
    refine .seq ?_
    refine .region ?_  -- region 1
    rcases List.eq_nil_or_concat r with rfl | ⟨r', x, rfl⟩
    · refine .mv rfl rfl (.lenR un_W rfl rfl hu (.gtrF rfl rfl rfl (by simp) (.mv rfl rfl ?_)))
      refine .gs rfl rfl rfl rfl rfl (.gs rfl rfl rfl rfl rfl (.gs rfl rfl rfl rfl rfl (.gs rfl rfl rfl rfl rfl (.gs rfl rfl rfl rfl rfl (.gs rfl rfl rfl rfl rfl (.gs rfl rfl rfl rfl rfl ?_))))))
      refine .pick rfl rfl rfl (.nil ?_)
      refine .condF rfl (.exit ?_)
      refine .seq (.region ?_)
      refine .mv rfl rfl (.asg rfl rfl (.nil ?_))
      refine .ret ?_
      exact .plain [u] Tryz.results100 ⟨rfl, trivial⟩ ⟨.refl _, hr ▸ hu⟩
    · have hl : (r' ++ [x]).length = r'.length + 1 := by simp
      rw [List.concat_eq_append] at *
      rw [hl] at hlen
      have h1 : IntKind.i64.wrap (((r' ++ [x]).length : Nat) - 1 : Int) = (r'.length : Int) := by rw [wI (by omega)]; omega
      refine .mv rfl rfl (.lenR un_W rfl rfl hu (.gtrT rfl rfl rfl (by omega) (.mv rfl rfl ?_)))
      refine .gr rfl rfl rfl rfl (.mv rfl rfl (.gr rfl rfl rfl rfl (.mv rfl rfl (.gr rfl rfl rfl rfl (.lenR un_W rfl rfl hu (.gr rfl rfl rfl rfl (.sub rfl rfl rfl (.gr rfl rfl rfl rfl ?_))))))))
      refine .ix un_W ty_u32 rfl rfl hu rfl (by omega) (y := x) (by rw [h1]; simp) fun p hp => ?_
      refine .gr rfl rfl rfl rfl ?_
      refine .ldE ty_u32 rfl rfl hp fun e he => ?_
      obtain ⟨rfl, hx⟩ := he
      refine .gr rfl rfl rfl rfl ?_
      by_cases h0 : x = 0
      · refine .eqlT rfl rfl rfl (by omega) (.pick rfl rfl rfl (.nil ?_))
        refine .condT rfl (.skip (.block (.region ?_)))
        refine .mv rfl rfl (.mv rfl rfl (.lenR un_W rfl rfl hu (.sub rfl rfl rfl ?_)))
        refine .cut 0 r'.length un_W ty_u32 rfl rfl hu rfl ⟨_, by rw [← h1]; rfl⟩ (by omega) (by omega) fun v2 hv2 => ?_
        refine .asg rfl rfl (.nil ?_)
        refine ⟨rfl, (v2, r'), look_cons rfl look_nil, ⟨rfl, by simpa using hv2, ?_⟩, by simp⟩
        rw [← hr, h0, trimL_snoc0]
      · refine .eqlF rfl rfl rfl (by omega) (.pick rfl rfl rfl (.nil ?_))
        refine .condF rfl (.exit ?_)
        refine .seq (.region ?_)
        refine .mv rfl rfl (.asg rfl rfl (.nil ?_))
        refine .ret ?_
        exact .plain [u] Tryz.results100 ⟨rfl, trivial⟩ ⟨.refl _, by rw [← hr, trimL_snoc _ _ h0]; exact hu⟩

theorem E_whole_build : Ent Tryz.prog 131 := ent_of Tryz.func131 (by kernel_rfl) rfl
theorem whole_build_c {S : Nat → Prop} {w : World} {v : Value} {l : List Nat} {neg : Bool} (up : Up S w) (h : eW.R S w v l) : CR Tryz.prog 131 #[.bool neg, v] w (eZ.at S (zc (sg neg (val l)))) := by
  have hd : dig l := eW_lt h
  refine enter Tryz.func131 rfl Tryz.ntmps131 rfl ?_
  refine .seq (.region ?_)  -- region 0
  refine .alloc rfl zero_Z fun w1 b1 n1 => .nil ?_
  obtain ⟨e1, k1, hb1, hs1⟩ := n1
  have h1 := (h.par w1.heap.size).ext e1
  refine .seq (.region ?_)  -- region 1
  refine .mv rfl rfl ?_
  refine .call _ rfl E_whole_trim rfl (whole_trim_c h1) fun v2 w2 e2 h2 => .asg rfl rfl (.nil ?_)
  have k2 := k1.ext e2
  have hx : Ext w w2 := e1.trans e2
  have hS : ¬ Sx S w.heap.size w1.heap.size b1 := Sx.no (by omega) (by omega)
  refine .seq (.seq (.region ?_))  -- region 2
  by_cases h0 : trimL l = []
  · rw [h0] at h2
    refine .mv rfl rfl (.lenR un_W rfl rfl h2 (.eqlT rfl rfl rfl rfl (.nil (.condT rfl (.seq (.region ?_))))))
    have hz : eZ.R (Sx S w.heap.size w1.heap.size) w2 (.agg #[.bool false, .slice none 0 0]) ⟨false, []⟩ := ⟨_, rfl, RL.nil⟩
    refine .bld _ rfl rfl bld_Z0 ?_
    refine .storeA ty_Z rfl rfl k2 rfl rfl hz hS fun w3 k3 u3 h3 => .nil (.ret ?_)
    refine .cell Tryz.results131 rfl ty_Z rfl rfl k3 h3 ⟨u3.below hx (by omega), ?_⟩
    rw [(val_nil_iff hd).1 h0, zc_sg_zero]
    exact h3.out
  · refine .mv rfl rfl (.lenR un_W rfl rfl h2 (.eqlF rfl rfl rfl (by simpa using h0) (.nil (.condF rfl (.skip (.seq (.region ?_)))))))
    have hz : eZ.R (Sx S w.heap.size w1.heap.size) w2 (.agg #[.bool neg, v2]) ⟨neg, trimL l⟩ := ⟨_, rfl, h2⟩
    obtain ⟨a, c, rfl, _⟩ := RL.len h2
    refine .mv rfl rfl (.mv rfl rfl (.bld _ rfl rfl bld_Z2 ?_))
    refine .storeA ty_Z rfl rfl k2 rfl rfl hz hS fun w3 k3 u3 h3 => .nil (.ret ?_)
    refine .cell Tryz.results131 rfl ty_Z rfl rfl k3 h3 ⟨u3.below hx (by omega), ?_⟩
    rw [zc_sg neg (fun h => h0 ((val_nil_iff hd).2 h)), ← trimL_eq hd]
    exact h3.out

theorem E_whole_small : Ent Tryz.prog 122 := ent_of Tryz.func122 (by kernel_rfl) rfl
theorem whole_small_c {S : Nat → Prop} {w : World} {n : Nat} {neg : Bool} (up : Up S w) (hn : n < 18446744073709551616) : CR Tryz.prog 122 #[.bool neg, .int .u64 n] w (eZ.at S (zc (sg neg n))) := by
  refine enter Tryz.func122 rfl Tryz.ntmps122 rfl ?_
  refine .seq (.region ?_)  -- region 0
  refine .alloc rfl zero_Z fun w1 b1 n1 => .nil ?_
  obtain ⟨e1, k1, hb1, hs1⟩ := n1
  have hS : ¬ Sx S w.heap.size w1.heap.size b1 := Sx.no (by omega) (by omega)
  refine .seq (.block (.seq (.region ?_)))  -- region 1
  by_cases h0 : n = 0
  · subst h0
    refine .mv rfl rfl (.eqlT rfl rfl rfl rfl (.asg rfl rfl (.nil (.condT rfl (.seq (.region ?_))))))
    have hz : eZ.R (Sx S w.heap.size w1.heap.size) w1 (.agg #[.bool false, .slice none 0 0]) ⟨false, []⟩ := ⟨_, rfl, RL.nil⟩
    refine .bld _ rfl rfl bld_Z0 ?_
    refine .storeA ty_Z rfl rfl k1 rfl rfl hz hS fun w3 k3 u3 h3 => .nil (.ret ?_)
    refine .cell Tryz.results122 rfl ty_Z rfl rfl k3 h3 ⟨u3.below e1 (by omega), ?_⟩
    rw [zc_sg_zero]
    exact h3.out
  · refine .mv rfl rfl (.eqlF rfl rfl rfl (by omega) (.asg rfl rfl (.nil (.condF rfl (.seq (.region ?_))))))
    by_cases h1 : n < 4294967296
    · refine .mv rfl rfl (.shr rfl rfl rfl (by decide) (.eqlT rfl rfl rfl (by rw [fdiv32]; omega) (.asg rfl rfl (.nil (.condT rfl (.seq (.region ?_)))))))
      refine .mv rfl rfl (.mv rfl rfl (.cvt un_u64 un_u32 rfl rfl ?_))
      refine .bsl _ rfl rfl bsl_W1 fun w2 b2 n2 => ?_
      obtain ⟨e2, k2, hb2, hs2⟩ := n2
      have hw : eW.R (Sx S w.heap.size w1.heap.size) w2 (.slice (some ⟨b2, 0, none⟩) 1 1) [n] :=
        eW_new (l := [n]) (t := 89) (by rw [wrap32_nat, Nat.mod_eq_of_lt h1] at k2; exact k2) ⟨up _ (by omega), .inr (by omega)⟩ (by simp [dig, h1]) (Nat.le_refl 1) (by simp)
      have hz : eZ.R (Sx S w.heap.size w1.heap.size) w2 (.agg #[.bool neg, .slice (some ⟨b2, 0, none⟩) 1 1]) ⟨neg, [n]⟩ := ⟨_, rfl, hw⟩
      refine .bld _ rfl rfl bld_Z2 ?_
      refine .storeA ty_Z rfl rfl (k1.ext e2) rfl rfl hz hS fun w3 k3 u3 h3 => .nil (.ret ?_)
      refine .cell Tryz.results122 rfl ty_Z rfl rfl k3 h3 ⟨u3.below (e1.trans e2) (by omega), ?_⟩
      rw [zc_sg neg h0, wds_small h1 h0]
      exact h3.out
    · refine .mv rfl rfl (.shr rfl rfl rfl (by decide) (.eqlF rfl rfl rfl (by rw [fdiv32]; omega) (.asg rfl rfl (.nil (.condF rfl (.skip (.seq (.region ?_))))))))
      refine .mv rfl rfl (.mv rfl rfl (.cvt un_u64 un_u32 rfl rfl (.mv rfl rfl (.shr rfl rfl rfl (by decide) (.cvt un_u64 un_u32 rfl rfl ?_)))))
      refine .bsl _ rfl rfl bsl_W2 fun w2 b2 n2 => ?_
      obtain ⟨e2, k2, hb2, hs2⟩ := n2
      have hw : eW.R (Sx S w.heap.size w1.heap.size) w2 (.slice (some ⟨b2, 0, none⟩) 2 2) [n % 4294967296, n / 4294967296] :=
        eW_new (l := [n % 4294967296, n / 4294967296]) (t := 89) (by rw [fdiv32, wrap32_nat, wrap32_nat, Nat.mod_eq_of_lt (show n / 4294967296 < 4294967296 by omega)] at k2; exact k2) ⟨up _ (by omega), .inr (by omega)⟩
          (by simp [dig]; omega) (Nat.le_refl 2) (by simp)
      have hz : eZ.R (Sx S w.heap.size w1.heap.size) w2 (.agg #[.bool neg, .slice (some ⟨b2, 0, none⟩) 2 2]) ⟨neg, [n % 4294967296, n / 4294967296]⟩ := ⟨_, rfl, hw⟩
      refine .bld _ rfl rfl bld_Z2 ?_
      refine .storeA ty_Z rfl rfl (k1.ext e2) rfl rfl hz hS fun w3 k3 u3 h3 => .nil (.ret ?_)
      refine .cell Tryz.results122 rfl ty_Z rfl rfl k3 h3 ⟨u3.below (e1.trans e2) (by omega), ?_⟩
      rw [zc_sg neg h0, wds_two hn (by omega)]
      exact h3.out

theorem E_whole_FromInt64 : Ent Tryz.prog 96 := ent_of Tryz.func96 (by kernel_rfl) rfl
theorem whole_FromInt64_c {S : Nat → Prop} {w : World} {n : Int} (up : Up S w) (h1 : -9223372036854775808 ≤ n) (h2 : n ≤ 9223372036854775807) : CR Tryz.prog 96 #[.int .i64 n] w (eZ.at S (zc n)) := by
  refine enter Tryz.func96 rfl Tryz.ntmps96 rfl ?_
  refine .seq (.region ?_)  -- region 0
  refine .alloc rfl zero_Z fun w1 b1 n1 => .nil ?_
  obtain ⟨e1, k1, hb1, hs1⟩ := n1
  have hS : ¬ Sx S w.heap.size w1.heap.size b1 := Sx.no (by omega) (by omega)
  have up1 : Up (Sx S w.heap.size w1.heap.size) w1 := Sx.up up (Nat.le_refl _) e1.size
  refine .seq (.region ?_)  -- region 1
  refine .mv rfl rfl (.cvt un_i64 un_u64 rfl rfl (.asg rfl rfl (.nil ?_)))
  refine .seq (.seq (.region ?_))  -- region 2
  by_cases h0 : n < 0
  · refine .mv rfl rfl (.lssT rfl rfl rfl h0 (.nil (.condT rfl (.region ?_))))
    have hneg : IntKind.u64.wrap (0 - IntKind.u64.wrap n) = ((n.natAbs : Nat) : Int) := by
      rw [IntKind.wrap_u64, IntKind.wrap_u64]; omega
    refine .mv rfl rfl (.neg rfl rfl (.asg rfl rfl (.nil (.seq (.region ?_)))))
    rw [hneg]
    refine .mv rfl rfl (.lssT rfl rfl rfl h0 (.mv rfl rfl ?_))
    refine .call _ rfl E_whole_small rfl (whole_small_c up1 (by omega)) fun v2 w2 e2 h2 => ?_
    refine .storeA ty_Z rfl rfl (k1.ext e2) rfl rfl h2 hS fun w3 k3 u3 h3 => .nil (.ret ?_)
    refine .cell Tryz.results96 rfl ty_Z rfl rfl k3 h3 ⟨u3.below (e1.trans e2) (by omega), ?_⟩
    rw [show n = sg true n.natAbs by simp [sg]; omega]
    exact h3.out
  · refine .mv rfl rfl (.lssF rfl rfl rfl h0 (.nil (.condF rfl (.skip (.seq (.region ?_))))))
    have hneg : IntKind.u64.wrap n = ((n.natAbs : Nat) : Int) := by rw [IntKind.wrap_u64]; omega
    rw [hneg]
    refine .mv rfl rfl (.lssF rfl rfl rfl h0 (.mv rfl rfl ?_))
    refine .call _ rfl E_whole_small rfl (whole_small_c up1 (by omega)) fun v2 w2 e2 h2 => ?_
    refine .storeA ty_Z rfl rfl (k1.ext e2) rfl rfl h2 hS fun w3 k3 u3 h3 => .nil (.ret ?_)
    refine .cell Tryz.results96 rfl ty_Z rfl rfl k3 h3 ⟨u3.below (e1.trans e2) (by omega), ?_⟩
    rw [show n = sg false n.natAbs by simp [sg]; omega]
    exact h3.out
end Go.Proofs.YtgghedhmjhaieaaGreat

namespace Go.Proofs.YtgghedhmjhaieaaGreat
open Go Go.Kx Go.RowKit

theorem E_whole_low : Ent Tryz.prog 130 := ent_of Tryz.func130 (by kernel_rfl) rfl
theorem whole_low_c {S : Nat → Prop} {w : World} {v : Value} {l : List Nat} (h : eW.R S w v l) (hl : l.length ≤ 2) : CR Tryz.prog 130 #[v] w (Is (.int .u64 (val l))) := by
  have hd : dig l := eW_lt h
  refine enter Tryz.func130 rfl Tryz.ntmps130 rfl ?_
  refine .seq (.region (.asg rfl rfl (.nil ?_)))
  refine .seq (.seq (.region (.mv rfl rfl (.lenR un_W rfl rfl h (.nil ?_)))))
  refine .block (.seq (.region ?_))  -- region 2
  match l, h, hl, hd with
  | [], h, _, _ =>
    refine .eqlT rfl rfl rfl rfl (.asg rfl rfl (.nil (.condT rfl (.seq (.region (.asg rfl rfl (.nil (.ret ?_))))))))
    exact .plain [_] Tryz.results130 ⟨rfl, trivial⟩ ⟨.refl _, rfl⟩
  | [x], h, _, hd =>
    have hx : x < 4294967296 := hd x (by simp)
    refine .eqlF rfl rfl rfl (by simp) (.asg rfl rfl (.nil (.condF rfl (.seq (.region ?_)))))
    refine .eqlT rfl rfl rfl rfl (.asg rfl rfl (.nil (.condT rfl (.seq (.region (.mv rfl rfl ?_))))))
    refine .ix un_W ty_u32 rfl rfl h rfl (by decide) (y := x) rfl fun p hp => ?_
    refine .ldE ty_u32 rfl rfl hp fun e he => ?_
    obtain ⟨rfl, _⟩ := he
    refine .cvt un_u32 un_u64 rfl rfl (.asg rfl rfl (.nil (.ret ?_)))
    refine .plain [_] Tryz.results130 ⟨rfl, trivial⟩ ⟨.refl _, ?_⟩
    show Value.int .u64 _ = _
    rw [wU (by omega)]
    simp [val]
  | [x, y], h, _, hd =>
    have hx : x < 4294967296 := hd x (by simp)
    have hy : y < 4294967296 := hd y (by simp)
    refine .eqlF rfl rfl rfl (by simp) (.asg rfl rfl (.nil (.condF rfl (.seq (.region ?_)))))
    refine .eqlF rfl rfl rfl (by simp) (.asg rfl rfl (.nil (.condF rfl (.skip (.seq ?_)))))
    refine .par follows 10 [.inl _, .inr (Ptr eU32 S x), .inl (.int .u32 x), .inl _, .inl _, .inr (Ptr eU32 S y), .inl (.int .u32 y), .inl _, .inl _, .inl _] [[], [(13, 0)], [(14, 1)], [(15, 2)], [], [(17, 4)], [(18, 5)], [(19, 6)], [(20, 7)], [(16, 3), (21, 8)]] (by kernel_rfl) ⟨fun w e => (v_mv rfl).ob,
      fun w e => ob_ix un_W ty_u32 rfl (h.ext e) rfl (by decide) rfl,
      fun w e x1 hx1 => ob_ldU ty_u32 rfl hx1,
      fun w e => (v_cvt un_u32 un_u64 rfl).ob,
      fun w e => (v_mv rfl).ob,
      fun w e => ob_ix un_W ty_u32 rfl (h.ext e) rfl (by decide) rfl,
      fun w e x1 hx1 => ob_ldU ty_u32 rfl hx1,
      fun w e => (v_cvt un_u32 un_u64 rfl).ob,
      fun w e => (v_shl rfl rfl (by decide)).ob,
      fun w e => (v_or rfl rfl).ob, trivial⟩ ?_
    intro w1 e1 x1 hx1 x5 hx5
    refine .asg rfl rfl (.nil (.ret ?_))
    refine .plain [_] Tryz.results130 ⟨rfl, trivial⟩ ⟨e1, ?_⟩
    show Value.int .u64 _ = _
    rw [wU (n := (x : Int)) (by omega), wU (n := (y : Int)) (by omega), shl32 y hy, or_nat x _ (by omega) (by omega), or32 x y hx]
    simp [val]

theorem E_whole_compareWords : Ent Tryz.prog 146 := ent_of Tryz.func146 (by kernel_rfl) rfl
theorem whole_compareWords_c {S : Nat → Prop} {w : World} {va vb : Value} {m n : Nat} (ha : eW.R S w va (wds m)) (hb : eW.R S w vb (wds n)) : CR Tryz.prog 146 #[va, vb] w (Is (.int .i64 (cmpN m n))) := by
  have hla := wI_len ha
  refine enter Tryz.func146 rfl Tryz.ntmps146 rfl ?_
  refine .seq (.region (.asg rfl rfl (.nil ?_)))
  refine .seq (.seq (.region (.mv rfl rfl (.lenR un_W rfl rfl ha (.mv rfl rfl (.lenR un_W rfl rfl hb ?_))))))
  by_cases hne : (wds m).length = (wds n).length
  · refine .neqF rfl rfl rfl (by omega) (.nil (.condF rfl (.skip (.seq (.seq (.region (.mv rfl rfl (.lenR un_W rfl rfl ha (.sub rfl rfl rfl (.asg rfl rfl (.nil ?_)))))))))))
    rw [wI (by omega)]
    refine .block ?_
    refine .loop (α := Nat) (fun k => [(0, va), (1, vb), (5, .int .i64 ((k : Int) - 1))]) (fun k w' => Ext w w' ∧ k ≤ (wds m).length ∧ (wds m).drop k = (wds n).drop k) (fun k => k) (wds m).length ?_ ?_ ?_
    · exact look_cons rfl (look_cons rfl (look_cons rfl look_nil))
    · exact ⟨.refl _, Nat.le_refl _, by rw [List.drop_of_length_le (Nat.le_refl _), List.drop_of_length_le (by omega)]⟩
    · rintro k w' ⟨x, hk, hd⟩
      cases k with
      | zero =>
        refine .seq (.seq (.region (.mv rfl rfl (.geqF rfl rfl rfl (by omega) (.nil (.condF rfl (.exit ?_)))))))
        refine .seq (.region (.asg rfl rfl (.nil (.ret ?_))))
        refine .plain [_] Tryz.results146 ⟨rfl, trivial⟩ ⟨x, ?_⟩
        have e : m = n := wds_inj (by simpa using hd)
        exact isI (by simp [cmpN, e])
      | succ j =>
        have hj : (((j + 1 : Nat) : Int) - 1) = (j : Int) := by omega
        refine .weak [(0, va), (1, vb), (5, .int .i64 (j : Int))] (look_cons rfl (look_cons rfl (look_cons (by rw [← hj]; rfl) look_nil))) ?_
        obtain ⟨p, hp⟩ : ∃ p, (wds m)[j]? = some p := ⟨_, List.getElem?_eq_getElem (by omega)⟩
        obtain ⟨q, hq⟩ : ∃ q, (wds n)[j]? = some q := ⟨_, List.getElem?_eq_getElem (by omega)⟩
        refine .seq (.seq (.region (.mv rfl rfl (.geqT rfl rfl rfl (by omega) (.nil (.condT rfl (.skip (.seq (.block (.seq ?_))))))))))
        refine .par follows 9 [.inl _, .inl _, .inr (Ptr eU32 S p), .inl (.int .u32 p), .inl _, .inl _, .inr (Ptr eU32 S q), .inl (.int .u32 q), .inl _] [[], [], [(23, 0), (24, 1)], [(25, 2)], [], [], [(27, 4), (28, 5)], [(29, 6)], [(26, 3), (30, 7)]] (by kernel_rfl) ⟨fun w e => (v_mv rfl).ob,
          fun w e => (v_mv rfl).ob,
          fun w e => ob_ixN un_W ty_u32 rfl (ha.ext (x.trans e)) rfl hp,
          fun w e x1 hx1 => ob_ldU ty_u32 rfl hx1,
          fun w e => (v_mv rfl).ob,
          fun w e => (v_mv rfl).ob,
          fun w e => ob_ixN un_W ty_u32 rfl (hb.ext (x.trans e)) rfl hq,
          fun w e x1 hx1 => ob_ldU ty_u32 rfl hx1,
          fun w e => (v_neq rfl rfl).ob, trivial⟩ ?_
        intro w1 e1 x1 hx1 x5 hx5
        refine .nil ?_
        have x1 := x.trans e1
        by_cases hpq : p = q
        · subst hpq
          refine .cond rfl (fun hc => absurd hc (by simp)) (fun hc => .skip ?_)
          refine .region (.mv rfl rfl (.sub rfl rfl rfl (.asg rfl rfl (.nil ?_))))
          rw [wI (by omega)]
          refine ⟨rfl, j, look_cons rfl (look_cons rfl (look_cons rfl look_nil)), ⟨x1, by omega, ?_⟩, by omega⟩
          have h1 : j < (wds m).length := by omega
          have h2 : j < (wds n).length := by omega
          rw [List.drop_eq_getElem_cons h1, List.drop_eq_getElem_cons h2, hd]
          rw [List.getElem?_eq_getElem h1] at hp
          rw [List.getElem?_eq_getElem h2] at hq
          rw [Option.some.inj hp, Option.some.inj hq]
        · refine .cond rfl (fun hc => ?_) (fun hc => absurd hc (by simp; omega))
          refine .seq (.seq ?_)
          refine .par follows 9 [.inl _, .inl _, .inr (Ptr eU32 S p), .inl (.int .u32 p), .inl _, .inl _, .inr (Ptr eU32 S q), .inl (.int .u32 q), .inl _] [[], [], [(32, 0), (33, 1)], [(34, 2)], [], [], [(36, 4), (37, 5)], [(38, 6)], [(35, 3), (39, 7)]] (by kernel_rfl) ⟨fun w e => (v_mv rfl).ob,
            fun w e => (v_mv rfl).ob,
            fun w e => ob_ixN un_W ty_u32 rfl (ha.ext (x1.trans e)) rfl hp,
            fun w e x1 hx1 => ob_ldU ty_u32 rfl hx1,
            fun w e => (v_mv rfl).ob,
            fun w e => (v_mv rfl).ob,
            fun w e => ob_ixN un_W ty_u32 rfl (hb.ext (x1.trans e)) rfl hq,
            fun w e x1 hx1 => ob_ldU ty_u32 rfl hx1,
            fun w e => (v_lss rfl rfl).ob, trivial⟩ ?_
          intro w2 e2 x1' hx1' x5' hx5'
          refine .nil ?_
          have hxx := x1.trans e2
          by_cases hlt : p < q
          · refine .cond rfl (fun hc => ?_) (fun hc => absurd hc (by simp; omega))
            refine .seq (.region (.asg rfl rfl (.nil (.ret ?_))))
            refine .plain [_] Tryz.results146 ⟨rfl, trivial⟩ ⟨hxx, ?_⟩
            have := val_lt_of (dig_wds m) hd hp hq hlt
            rw [val_wds, val_wds] at this
            exact isI (by simp [cmpN, this])
          · refine .cond rfl (fun hc => absurd hc (by simp; omega)) (fun hc => .skip ?_)
            refine .seq (.region (.asg rfl rfl (.nil (.ret ?_))))
            refine .plain [_] Tryz.results146 ⟨rfl, trivial⟩ ⟨hxx, ?_⟩
            have := val_lt_of (dig_wds n) hd.symm hq hp (by omega)
            rw [val_wds, val_wds] at this
            have h' : ¬ m < n := by omega
            exact isI (by simp [cmpN, this, h'])
  · refine .neqT rfl rfl rfl (by omega) (.nil (.condT rfl (.seq (.seq (.region (.mv rfl rfl (.lenR un_W rfl rfl ha (.mv rfl rfl (.lenR un_W rfl rfl hb ?_)))))))))
    by_cases hlt : (wds m).length < (wds n).length
    · refine .lssT rfl rfl rfl (by omega) (.nil (.condT rfl (.seq (.region (.asg rfl rfl (.nil (.ret ?_)))))))
      refine .plain [_] Tryz.results146 ⟨rfl, trivial⟩ ⟨.refl _, ?_⟩
      exact isI (by simp [cmpN, wds_len_lt hlt])
    · refine .lssF rfl rfl rfl (by omega) (.nil (.condF rfl (.skip (.seq (.region (.asg rfl rfl (.nil (.ret ?_))))))))
      refine .plain [_] Tryz.results146 ⟨rfl, trivial⟩ ⟨.refl _, ?_⟩
      have := wds_len_lt (m := n) (n := m) (by omega)
      have h' : ¬ m < n := by omega
      exact isI (by simp [cmpN, this, h'])
end Go.Proofs.YtgghedhmjhaieaaGreat

namespace Go.Proofs.YtgghedhmjhaieaaGreat
open Go Go.Kx Go.RowKit

theorem E_Clone : Ent Tryz.prog 132 := ent_of Tryz.func132 (by kernel_rfl) rfl
theorem Clone_c {S : Nat → Prop} {w : World} {v : Value} {l : List Nat} (up : Up S w) (h : eW.R S w v l) (hl : l.length ≤ 1099511627776) : CR Tryz.prog 132 #[v] w (eW.at S l) := by
  refine enter Tryz.func132 rfl Tryz.ntmps132 rfl ?_
  refine .seq (.region (.asg rfl rfl (.nil ?_)))
  obtain ⟨es, he, a, c, rfl, hc, hm, hlen, hcell⟩ := h
  refine .seq (.seq (.region (.mv rfl rfl (.eqNil un_W rfl rfl rfl (.nil ?_)))))
  cases a with
  | none =>
    refine .condT rfl (.seq (.region (.asg rfl rfl (.nil (.ret ?_)))))
    have : l = [] := by
      cases l with
      | nil => rfl
      | cons x l => obtain ⟨ad, h, _⟩ := hcell (by simp); cases h
    subst this
    exact .plain [_] Tryz.results132 ⟨rfl, trivial⟩ ⟨.refl _, RL.nil⟩
  | some ad =>
    refine .condF rfl (.skip (.seq (.region ?_)))
    refine .bsl _ rfl rfl bsl_W0 fun w1 b1 n1 => ?_
    obtain ⟨e1, k1, hb1, hs1⟩ := n1
    have hcell1 : ∀ j u, (cellsOf es)[j]? = some u → w1.cell? (ad.add j) = some u := by
      intro j u hu
      rcases Nat.eq_zero_or_pos l.length with h0 | h0
      · rw [h0, Nat.zero_mul] at hlen
        have : cellsOf es = [] := List.length_eq_zero_iff.1 hlen
        rw [this] at hu; simp at hu
      · obtain ⟨ad', h1, _, h2⟩ := hcell h0
        cases h1
        have := h2 j u hu
        have hlt := cell_lt this
        exact (cell_same (p := ad.add j) (e1.block _ hlt)).trans this
    have hown : w1.ownsRow w.heap.size 89 1 (.slice (some ⟨b1, 0, none⟩) 0 0) 0 [] := ⟨rfl, .inr ⟨b1, 0, #[], rfl, by omega, k1, Nat.le_refl _, Nat.zero_le _, rfl, rfl⟩⟩
    have hon : ∀ u ∈ cellsOf es, one1 u = true := by
      intro u hu
      obtain ⟨e', he', hu'⟩ := List.mem_flatMap.1 hu
      obtain ⟨i, hi⟩ := List.mem_iff_getElem?.1 he'
      have hi' : i < es.length := by
        rcases Nat.lt_or_ge i es.length with h | h
        · exact h
        · rw [List.getElem?_eq_none h] at hi; cases hi
      exact eU32.one (he.2 i e' _ hi (List.getElem?_eq_getElem (by rw [← he.1]; exact hi'))) u hu'
    refine .mv rfl rfl ?_
    refine .gv rfl rfl (g_app (cellsOf es) un_W info_u32 rfl (by decide) rfl rfl hown hlen hcell1 hon (by omega) (by omega) (by omega)) ?_
    rintro v2 w2 ⟨ho, hg⟩
    refine .asg rfl rfl (.nil (.ret ?_))
    have hx : Ext w w2 := Below.grown e1 hg e1.size (fun k hk => by simp [Value.ownBlock] at hk; omega)
    simp only [List.nil_append, Nat.zero_add] at ho
    exact .plain [_] Tryz.results132 ⟨rfl, trivial⟩ ⟨hx, RL.ofOwn (E := eU32) (es := es) ho rfl ⟨he.1, he.2⟩ up⟩

theorem E_whole_Sign : Ent Tryz.prog 82 := ent_of Tryz.func82 (by kernel_rfl) rfl
theorem whole_Sign_c {S : Nat → Prop} {w : World} {v : Value} {z : ZV} (h : eZ.R S w v z) : CR Tryz.prog 82 #[v] w (Is (.int .i64 (zval z).sign)) := by
  obtain ⟨s, rfl, hs⟩ := h
  have hd : dig z.w := eW_lt hs
  refine enter Tryz.func82 rfl Tryz.ntmps82 rfl ?_
  refine .seq (.region ?_)
  refine .box rfl rfl fun w1 b1 n1 => .asg rfl rfl (.nil ?_)
  obtain ⟨e1, k1, hb1, hs1⟩ := n1
  refine .seq (.block (.seq (.region (.fa fld_Z1 rfl rfl (.ld ty_W rfl rfl k1 rfl ?_)))))
  refine .call _ rfl E_whole_trim rfl (whole_trim_c (hs.ext e1)) fun v2 w2 e2 h2 => ?_
  have k2 := k1.ext e2
  have hx := e1.trans e2
  by_cases h0 : val z.w = 0
  · rw [(val_nil_iff hd).2 h0] at h2
    refine .lenR un_W rfl rfl h2 (.eqlT rfl rfl rfl rfl (.asg rfl rfl (.nil (.condT rfl (.seq (.region (.asg rfl rfl (.nil (.ret ?_)))))))))
    exact .plain [_] Tryz.results82 ⟨rfl, trivial⟩ ⟨hx, isI (by unfold zval sg; rw [h0]; simp)⟩
  · have hne : trimL z.w ≠ [] := fun h => h0 ((val_nil_iff hd).1 h)
    refine .lenR un_W rfl rfl h2 (.eqlF rfl rfl rfl (by simpa using hne) (.asg rfl rfl (.nil (.condF rfl (.seq (.region ?_))))))
    refine .fa fld_Z0 rfl rfl (.ld ty_bool rfl rfl k2 rfl (.asg rfl rfl (.nil ?_)))
    cases hn : z.neg with
    | true =>
      refine .condT rfl (.seq (.region (.asg rfl rfl (.nil (.ret ?_)))))
      exact .plain [_] Tryz.results82 ⟨rfl, trivial⟩ ⟨hx, isI (by unfold zval sg; rw [hn]; simp only [if_true]; rw [Int.sign_eq_neg_one_of_neg (by omega)])⟩
    | false =>
      refine .condF rfl (.skip (.seq (.region (.asg rfl rfl (.nil (.ret ?_))))))
      exact .plain [_] Tryz.results82 ⟨rfl, trivial⟩ ⟨hx, isI (by unfold zval sg; rw [hn]; simp only [Bool.false_eq_true, if_false]; rw [Int.sign_eq_one_of_pos (by omega)])⟩

/-- in int64's range -/
def i64ok (n : Int) : Bool := decide (-9223372036854775808 ≤ n ∧ n ≤ 9223372036854775807)
def i64v (n : Int) : Int := if i64ok n then n else 0

theorem E_whole_Int64 : Ent Tryz.prog 115 := ent_of Tryz.func115 (by kernel_rfl) rfl
theorem whole_Int64_c {S : Nat → Prop} {w : World} {v : Value} {z : ZV} (h : eZ.R S w v z) : CR Tryz.prog 115 #[v] w (Is (.tuple #[.int .i64 (i64v (zval z)), .bool (i64ok (zval z))])) := by
  obtain ⟨s, rfl, hs⟩ := h
  have hd : dig z.w := eW_lt hs
  have htr := trimL_eq hd
  refine enter Tryz.func115 rfl Tryz.ntmps115 rfl ?_
  refine .seq (.region ?_)
  refine .box rfl rfl fun w1 b1 n1 => .asg rfl rfl (.asg rfl rfl (.nil ?_))
  obtain ⟨e1, k1, hb1, hs1⟩ := n1
  refine .seq (.region (.fa fld_Z1 rfl rfl (.ld ty_W rfl rfl k1 rfl ?_)))
  refine .call _ rfl E_whole_trim rfl (whole_trim_c (hs.ext e1)) fun v2 w2 e2 h2 => .asg rfl rfl (.nil ?_)
  have k2 := k1.ext e2
  have hx := e1.trans e2
  rw [htr] at h2
  have hN : ∀ (a : Int) (b : Bool) (w' : World), i64v (zval z) = a → i64ok (zval z) = b → Is (.tuple #[.int .i64 (i64v (zval z)), .bool (i64ok (zval z))]) (tup [.int .i64 a, .bool b]) w' := by
    rintro a b w' rfl rfl; rfl
  refine .seq (.seq (.region (.mv rfl rfl (.lenR un_W rfl rfl h2 ?_))))
  by_cases hl : (wds (val z.w)).length ≤ 2
  · have hlt : val z.w < 18446744073709551616 := by
      have h1 := wds_lt (val z.w)
      have h2 : 4294967296 ^ (wds (val z.w)).length ≤ 4294967296 ^ 2 := Nat.pow_le_pow_right (by omega) hl
      omega
    refine .gtrF rfl rfl rfl (by omega) (.nil (.condF rfl (.skip (.seq (.region (.mv rfl rfl ?_))))))
    refine .call _ rfl E_whole_low rfl (whole_low_c h2 hl) fun v3 w3 e3 h3 => ?_
    obtain rfl := h3
    rw [val_wds]
    have k3 := k2.ext e3
    have hx3 := hx.trans e3
    refine .asg rfl rfl (.nil (.seq (.seq (.region (.fa fld_Z0 rfl rfl (.ld ty_bool rfl rfl k3 rfl (.nil ?_)))))))
    cases hn : z.neg with
    | true =>
      have hz : zval z = -(val z.w : Int) := by unfold zval sg; rw [hn]; rfl
      refine .condT rfl (.seq (.seq (.region (.mv rfl rfl ?_))))
      by_cases hb : val z.w ≤ 9223372036854775808
      · refine .gtrF rfl rfl rfl (by omega) (.nil (.condF rfl (.skip (.seq (.region (.mv rfl rfl (.neg rfl rfl (.cvt un_u64 un_i64 rfl rfl (.asg rfl rfl (.asg rfl rfl (.nil (.ret ?_)))))))))))) 
        refine .plain [_, _] Tryz.results115 ⟨rfl, rfl, trivial⟩ ⟨hx3, hN _ _ _ ?_ ?_⟩
        · have : i64ok (zval z) = true := by rw [hz]; simp [i64ok]; omega
          rw [i64v, this, if_pos rfl, hz, IntKind.wrap_u64, IntKind.wrap_i64]; omega
        · rw [hz]; simp [i64ok]; omega
      · refine .gtrT rfl rfl rfl (by omega) (.nil (.condT rfl (.seq (.region (.asg rfl rfl (.asg rfl rfl (.nil (.ret ?_))))))))
        have : i64ok (zval z) = false := by rw [hz]; simp [i64ok]; omega
        exact .plain [_, _] Tryz.results115 ⟨rfl, rfl, trivial⟩ ⟨hx3, hN _ _ _ (by simp [i64v, this]) this⟩
    | false =>
      have hz : zval z = (val z.w : Int) := by unfold zval sg; rw [hn]; rfl
      refine .condF rfl (.skip (.seq (.seq (.region (.mv rfl rfl ?_)))))
      by_cases hb : val z.w < 9223372036854775808
      · refine .geqF rfl rfl rfl (by omega) (.nil (.condF rfl (.skip (.seq (.region (.mv rfl rfl (.cvt un_u64 un_i64 rfl rfl (.asg rfl rfl (.asg rfl rfl (.nil (.ret ?_)))))))))))
        refine .plain [_, _] Tryz.results115 ⟨rfl, rfl, trivial⟩ ⟨hx3, hN _ _ _ ?_ ?_⟩
        · have : i64ok (zval z) = true := by rw [hz]; simp [i64ok]; omega
          rw [i64v, this, if_pos rfl, hz, wI (by omega)]
        · rw [hz]; simp [i64ok]; omega
      · refine .geqT rfl rfl rfl (by omega) (.nil (.condT rfl (.seq (.region (.asg rfl rfl (.asg rfl rfl (.nil (.ret ?_))))))))
        have : i64ok (zval z) = false := by rw [hz]; simp [i64ok]; omega
        exact .plain [_, _] Tryz.results115 ⟨rfl, rfl, trivial⟩ ⟨hx3, hN _ _ _ (by simp [i64v, this]) this⟩
  · have hge : 18446744073709551616 ≤ val z.w := by
      rcases Nat.lt_or_ge (val z.w) 18446744073709551616 with h | h
      · exact absurd (wds_length (L := 2) h) hl
      · exact h
    refine .gtrT rfl rfl rfl (by omega) (.nil (.condT rfl (.seq (.region (.asg rfl rfl (.asg rfl rfl (.nil (.ret ?_))))))))
    have : i64ok (zval z) = false := by
      unfold zval sg
      split <;> (simp [i64ok]; omega)
    exact .plain [_, _] Tryz.results115 ⟨rfl, rfl, trivial⟩ ⟨hx, hN _ _ _ (by simp [i64v, this]) this⟩

theorem E_whole_Neg : Ent Tryz.prog 116 := ent_of Tryz.func116 (by kernel_rfl) rfl
theorem whole_Neg_c {S : Nat → Prop} {w : World} {v : Value} {z : ZV} (up : Up S w) (h : eZ.R S w v z) (hl : z.w.length ≤ 1099511627776) : CR Tryz.prog 116 #[v] w (eZ.at S (zc (- zval z))) := by
  obtain ⟨s, rfl, hs⟩ := h
  have hd : dig z.w := eW_lt hs
  refine enter Tryz.func116 rfl Tryz.ntmps116 rfl ?_
  refine .seq (.region ?_)
  refine .box rfl rfl fun w1 b1 n1 => ?_
  obtain ⟨e1, k1, hb1, hs1⟩ := n1
  refine .alloc rfl zero_Z fun w2 b2 n2 => .nil ?_
  obtain ⟨e2, k2, hb2, hs2⟩ := n2
  have k1 := k1.ext e2
  have hx := e1.trans e2
  have hp := (hs.par w2.heap.size).ext hx
  have upx : Up (Sx S w.heap.size w2.heap.size) w2 := Sx.up up (Nat.le_refl _) hx.size
  refine .seq ?_
  refine .par follows 8 [.inl _, .inl _, .inl _, .inl _, .inl _, .inr (eW.at (Sx S w.heap.size w2.heap.size) (trimL z.w)), .inr (eW.at (Sx S w.heap.size w2.heap.size) (trimL z.w)), .inr (eZ.at (Sx S w.heap.size w2.heap.size) (zc (sg (!z.neg) (val (trimL z.w)))))]
    [[], [(3, 0)], [(4, 1)], [], [(6, 3)], [(7, 4)], [(8, 5)], [(5, 2), (9, 6)]] (by kernel_rfl) ⟨
    fun w e => (v_fa fld_Z0 rfl).ob,
    fun w e => (v_ld ty_bool rfl (k1.ext e) rfl).ob,
    fun w e => (v_not rfl).ob,
    fun w e => (v_fa fld_Z1 rfl).ob,
    fun w e => (v_ld ty_W rfl (k1.ext e) rfl).ob,
    fun w e => (g_call _ E_whole_trim rfl (whole_trim_c (hp.ext e))).ob (st_at _ _ _),
    fun w e x5 hx5 => (g_call _ E_Clone rfl (Clone_c (upx.ext e.size) hx5 (Nat.le_trans (length_trimL _) hl))).ob (st_at _ _ _),
    fun w e x6 hx6 => (g_call _ E_whole_build rfl (whole_build_c (upx.ext e.size) hx6)).ob (st_at _ _ _), trivial⟩ ?_
  intro w3 e3 x5 hx5 x6 hx6 x7 hx7
  refine .storeA ty_Z rfl rfl (k2.ext e3) rfl rfl hx7 (Sx.no (by omega) (by omega)) fun w4 k4 u4 h4 => .nil (.ret ?_)
  refine .cell Tryz.results116 rfl ty_Z rfl rfl k4 h4 ⟨u4.below (hx.trans e3) (by omega), ?_⟩
  have : zc (- zval z) = zc (sg (!z.neg) (val (trimL z.w))) := by
    rw [val_trimL]; unfold zval sg; cases z.neg <;> simp
  rw [this]
  exact h4.out
end Go.Proofs.YtgghedhmjhaieaaGreat

namespace Go.Proofs.YtgghedhmjhaieaaGreat
open Go Go.Kx Go.RowKit

theorem ty_F : tyOf Tryz.prog 134 = some (false, 1) := by kernel_rfl
theorem zero_F : zeroOf Tryz.prog 134 = some .nilFunc := by kernel_rfl

/-- a carrier, its carry in the block b -/
abbrev carV (b : Nat) : Value := .func (.func 157) #[] #[.pointer (some ⟨b, 0, none⟩)]
abbrev cBlk (w : World) (b c : Nat) : Prop := Blk w b 112 #[.int .u64 c]

theorem E_whole_carrier : Ent Tryz.prog 149 := ent_of Tryz.func149 (by kernel_rfl) rfl
theorem whole_carrier_c {w : World} {c : Nat} : CR Tryz.prog 149 #[.int .u64 c] w (fun v w' => ∃ b, v = carV b ∧ cBlk w' b c ∧ w.heap.size ≤ b) := by
  refine enter Tryz.func149 rfl Tryz.ntmps149 rfl ?_
  refine .seq (.region ?_)
  refine .box rfl rfl fun w1 b1 n1 => .asg rfl rfl (.nil ?_)
  obtain ⟨e1, k1, hb1, hs1⟩ := n1
  refine .seq (.region ?_)
  refine .mkf [] [_] rfl rfl rfl rfl (.asg rfl rfl (.nil (.ret ?_)))
  exact .plain [_] Tryz.results149 ⟨rfl, trivial⟩ ⟨e1, b1, rfl, k1, by omega⟩

theorem E_carrier1 : Ent Tryz.prog 157 := ent_of Tryz.func157 (by kernel_rfl) rfl
theorem carrier1_c {w : World} {b x c : Nat} (hb : cBlk w b c) (h : x + c < 18446744073709551616) :
    Calls Tryz.prog 157 (#[.int .u64 x] ++ #[.pointer (some ⟨b, 0, none⟩)]) w fun e w' => ∃ v, e = .returned v ∧ (v = wv ((x + c) % 4294967296) ∧ Upd w w' b ∧ cBlk w' b ((x + c) / 4294967296)) := by
  refine enterG Tryz.func157 rfl Tryz.ntmps157 rfl ?_
  refine .seq (.region (.asg rfl rfl (.nil ?_)))
  refine .seq (.region (.mv rfl rfl (.ld ty_u64 rfl rfl hb rfl (.add rfl rfl rfl (.asg rfl rfl (.nil ?_))))))
  rw [wU (by omega), ← Int.natCast_add]
  refine .seq (.region (.mv rfl rfl (.shr rfl rfl rfl (by omega) ?_)))
  rw [fdiv32]
  refine .store ty_u64 rfl rfl hb rfl (by simp) (by simp [one1, Value.cells]) fun w1 k1 u1 => .nil ?_
  refine .seq (.region (.mv rfl rfl (.cvt un_u64 un_u32 rfl rfl (.asg rfl rfl (.nil (.ret ?_))))))
  rw [wrap32_nat]
  exact .plain [_] Tryz.results157 ⟨rfl, trivial⟩ ⟨rfl, u1, k1⟩

theorem E_whole_pairs : Ent Tryz.prog 150 := ent_of Tryz.func150 (by kernel_rfl) rfl
theorem whole_pairs_c {w : World} {va vb : Value} {n n' c c' : Nat} {a a' : Option Addr} (ha : va = .slice a n c) (hb : vb = .slice a' n' c') : CR Tryz.prog 150 #[va, vb] w (fun v w' => ∃ b1 b2, v = .func (.func 158) #[] #[.pointer (some ⟨b1, 0, none⟩), .pointer (some ⟨b2, 0, none⟩)] ∧
    Blk w' b1 24 #[va] ∧ Blk w' b2 24 #[vb] ∧ w.heap.size ≤ b1 ∧ w.heap.size ≤ b2) := by
  subst ha; subst hb
  refine enter Tryz.func150 rfl Tryz.ntmps150 rfl ?_
  refine .seq (.region ?_)
  refine .box rfl rfl fun w1 b1 n1 => ?_
  obtain ⟨e1, k1, hb1, hs1⟩ := n1
  refine .box rfl rfl fun w2 b2 n2 => .asg rfl rfl (.nil ?_)
  obtain ⟨e2, k2, hb2, hs2⟩ := n2
  refine .seq (.region ?_)
  refine .mkf [] [_, _] rfl rfl rfl rfl (.asg rfl rfl (.nil (.ret ?_)))
  exact .plain [_] Tryz.results150 ⟨rfl, trivial⟩ ⟨e1.trans e2, b1, b2, rfl, k1.ext e2, k2, by omega, by have := e1.size; omega⟩

theorem E_pairs1 : Ent Tryz.prog 158 := ent_of Tryz.func158 (by kernel_rfl) rfl
theorem pairs1_c {S : Nat → Prop} {a b : List Nat} {va vb : Value} {b1 b2 : Nat} (hla : a.length ≤ 9223372036854775806) (hlb : b.length ≤ 9223372036854775806) : Iter Tryz.prog 158 #[.pointer (some ⟨b1, 0, none⟩), .pointer (some ⟨b2, 0, none⟩)] (max a.length b.length)
    (fun k => [.int .u64 (a.getD k 0), .int .u64 (b.getD k 0)]) (fun W => Blk W b1 24 #[va] ∧ Blk W b2 24 #[vb] ∧ eW.R S W va a ∧ eW.R S W vb b) := by
  intro l J X stJ stX hF hy W hJ
  have hF0 := hF 0 W hJ
  refine enterG Tryz.func158 rfl Tryz.ntmps158 rfl ?_
  refine .seq (.region (.ld ty_W rfl rfl hF0.1 rfl (.lenR un_W rfl rfl hF0.2.2.1 (.ld ty_W rfl rfl hF0.2.1 rfl (.lenR un_W rfl rfl hF0.2.2.2 (.max_ rfl rfl rfl (.mv rfl rfl (.nil ?_))))))))
  refine .block (.loop (α := Nat) (fun k => [(12, .int .i64 (k : Nat)), (11, .int .i64 ((max a.length b.length : Nat) : Int)), (0, .func (.yield l) #[] #[]), (1, .pointer (some ⟨b1, 0, none⟩)), (2, .pointer (some ⟨b2, 0, none⟩))]) (fun k W => J k W ∧ k ≤ max a.length b.length) (fun k => max a.length b.length - k) 0 ?_ ?_ ?_)
  · refine look_cons rfl (look_cons ?_ (look_cons rfl (look_cons rfl (look_cons rfl look_nil))))
    show some (Value.int .i64 (max (a.length : Int) (b.length : Int))) = _
    rw [show (max (a.length : Int) (b.length : Int)) = ((max a.length b.length : Nat) : Int) by omega]
  · exact ⟨hJ, Nat.zero_le _⟩
  · rintro k W ⟨hJ, hk⟩
    have hF := hF k W hJ
    by_cases hlt : k < max a.length b.length
    · refine .seq (.region (.lssT rfl rfl rfl (by omega) (.nil (.seq (.condT rfl (.skip ?_))))))
      refine .seq (.block (.seq (.region (.mv rfl rfl (.asg rfl rfl (.nil (.seq (.region (.asg rfl rfl (.asg rfl rfl (.nil ?_)))))))))))
      refine .mid (α := Unit) (fun _ => [(5, .int .u64 (a.getD k 0)), (6, .int .u64 0), (4, .int .i64 (k : Nat)), (12, .int .i64 (k : Nat)), (11, .int .i64 ((max a.length b.length : Nat) : Int)), (0, .func (.yield l) #[] #[]), (1, .pointer (some ⟨b1, 0, none⟩)), (2, .pointer (some ⟨b2, 0, none⟩))]) (fun _ W' => W' = W) ?_ ?_
      · refine .seq (.region (.mv rfl rfl (.ld ty_W rfl rfl hF.1 rfl (.lenR un_W rfl rfl hF.2.2.1 ?_))))
        by_cases hlt : k < a.length
        · refine .lssT rfl rfl rfl (by omega) (.nil (.condT rfl (.region (.ld ty_W rfl rfl hF.1 rfl (.mv rfl rfl ?_)))))
          refine .ixN un_W ty_u32 rfl rfl hF.2.2.1 rfl (List.getElem?_eq_getElem hlt) fun p hp => .ldE ty_u32 rfl rfl hp fun e he => ?_
          obtain ⟨rfl, hx⟩ := he
          refine .cvt un_u32 un_u64 rfl rfl (.asg rfl rfl (.nil ⟨rfl, (), ?_, rfl⟩))
          rw [wU (by omega)]
          refine look_cons ?_ (look_cons rfl (look_cons rfl (look_cons rfl (look_cons rfl (look_cons rfl (look_cons rfl (look_cons rfl look_nil)))))))
          rw [List.getD_eq_getElem?_getD (l := a), List.getElem?_eq_getElem hlt]; rfl
        · refine .lssF rfl rfl rfl (by omega) (.nil (.condF rfl (.skip ⟨rfl, (), ?_, rfl⟩)))
          refine look_cons ?_ (look_cons rfl (look_cons rfl (look_cons rfl (look_cons rfl (look_cons rfl (look_cons rfl (look_cons rfl look_nil)))))))
          rw [List.getD_eq_getElem?_getD (l := a), List.getElem?_eq_none (by omega : a.length ≤ k)]; rfl
      · rintro _ W' rfl
        refine .mid (α := Unit) (fun _ => [(5, .int .u64 (a.getD k 0)), (6, .int .u64 (b.getD k 0)), (12, .int .i64 (k : Nat)), (11, .int .i64 ((max a.length b.length : Nat) : Int)), (0, .func (.yield l) #[] #[]), (1, .pointer (some ⟨b1, 0, none⟩)), (2, .pointer (some ⟨b2, 0, none⟩))]) (fun _ W'' => W'' = W') ?_ ?_
        · refine .seq (.region (.mv rfl rfl (.ld ty_W rfl rfl hF.2.1 rfl (.lenR un_W rfl rfl hF.2.2.2 ?_))))
          by_cases hlt : k < b.length
          · refine .lssT rfl rfl rfl (by omega) (.nil (.condT rfl (.region (.ld ty_W rfl rfl hF.2.1 rfl (.mv rfl rfl ?_)))))
            refine .ixN un_W ty_u32 rfl rfl hF.2.2.2 rfl (List.getElem?_eq_getElem hlt) fun p hp => .ldE ty_u32 rfl rfl hp fun e he => ?_
            obtain ⟨rfl, hx⟩ := he
            refine .cvt un_u32 un_u64 rfl rfl (.asg rfl rfl (.nil ⟨rfl, (), ?_, rfl⟩))
            rw [wU (by omega)]
            refine look_cons rfl (look_cons ?_ (look_cons rfl (look_cons rfl (look_cons rfl (look_cons rfl (look_cons rfl look_nil))))))
            rw [List.getD_eq_getElem?_getD (l := b), List.getElem?_eq_getElem hlt]; rfl
          · refine .lssF rfl rfl rfl (by omega) (.nil (.condF rfl (.skip ⟨rfl, (), ?_, rfl⟩)))
            refine look_cons rfl (look_cons ?_ (look_cons rfl (look_cons rfl (look_cons rfl (look_cons rfl (look_cons rfl look_nil))))))
            rw [List.getD_eq_getElem?_getD (l := b), List.getElem?_eq_none (by omega : b.length ≤ k)]; rfl
        · rintro _ W'' rfl
          refine .seq (.region (.mv rfl rfl (.mv rfl rfl (.mv rfl rfl ?_))))
          refine .yld (l := l) [.int .u64 (a.getD k 0), .int .u64 (b.getD k 0)] (R := fun v w' => (v = .bool true ∧ J (k + 1) w') ∨ (v = .bool false ∧ X w')) rfl rfl rfl ?_ ?_
          · refine YieldAt.mono (hy k _ hlt hJ) ?_
            rintro e W' (⟨rfl, h⟩ | ⟨rfl, h⟩)
            · exact ⟨_, rfl, .inl ⟨rfl, h⟩⟩
            · exact ⟨_, rfl, .inr ⟨rfl, h⟩⟩
          · rintro v w' (⟨rfl, h⟩ | ⟨rfl, h⟩)
            · refine .not_ rfl rfl (.nil (.condF rfl (.skip (.region (.add rfl rfl rfl (.mv rfl rfl (.nil ?_)))))))
              rw [wI (by omega)]
              exact ⟨rfl, k + 1, look_cons rfl (look_cons rfl (look_cons rfl (look_cons rfl (look_cons rfl look_nil)))), ⟨h, by omega⟩, by omega⟩
            · refine .not_ rfl rfl (.nil (.condT rfl (.ret ?_)))
              exact .plain [] Tryz.results158 trivial (.inr h)
    · refine .seq (.region (.lssF rfl rfl rfl (by omega) (.nil (.seq (.condF rfl (.exit ?_))))))
      refine .plain [] Tryz.results158 trivial ?_
      have : k = max a.length b.length := by omega
      subst this; exact .inl hJ
end Go.Proofs.YtgghedhmjhaieaaGreat

namespace Go.Proofs.YtgghedhmjhaieaaGreat
open Go Go.Kx Go.RowKit

/-- a sum on its way -/
structure AddJ (w0 : World) (b5 b6 bx p1 p2 : Nat) (va vb : Value) (Rel : Nat → List Nat → Nat → Prop) (k : Nat) (W : World) : Prop where
  low : Below w0.heap.size w0 W
  f : Blk W b6 134 #[carV bx]
  k1 : Blk W p1 24 #[va]
  k2 : Blk W p2 24 #[vb]
  acc : ∃ v r c, Blk W b5 24 #[v] ∧ OwnW 89 w0.heap.size W v r ∧ cBlk W bx c ∧ Rel k r c

theorem AddJ.sft {w0 : World} {b5 b6 bx p1 p2 : Nat} {va vb : Value} {Rel : Nat → List Nat → Nat → Prop} {k D : Nat} {W W' : World} (h : AddJ w0 b5 b6 bx p1 p2 va vb Rel k W) (hs : Sft D W W') (hD : w0.heap.size ≤ D) : AddJ w0 b5 b6 bx p1 p2 va vb Rel k W' := by
  obtain ⟨v, r, c, h1, h2, h3, h4⟩ := h.acc
  exact ⟨h.low.trans (hs.below.mono hD), hs.cells.blk trivial h.f, hs.cells.blk trivial h.k1, hs.cells.blk trivial h.k2, v, r, c, hs.cells.blk trivial h1, h2.kp hs.cells, hs.cells.blk trivial h3, h4⟩

theorem E_whole_addWords : Ent Tryz.prog 134 := ent_of Tryz.func134 (by kernel_rfl) rfl
theorem whole_addWords_c {S : Nat → Prop} {w : World} {va vb : Value} {a b : List Nat} (up : Up S w) (ha : eW.R S w va a) (hb : eW.R S w vb b) (hla : a.length ≤ 1099511627776) (hlb : b.length ≤ 1099511627776) :
    CR Tryz.prog 134 #[va, vb] w (Wv S (val a + val b) (max a.length b.length + 1)) := by
  have hda : dig a := eW_lt ha
  have hdb : dig b := eW_lt hb
  obtain ⟨aa, ca, hva, _⟩ := RL.len ha
  obtain ⟨ab, cb, hvb, _⟩ := RL.len hb
  refine enter Tryz.func134 rfl Tryz.ntmps134 rfl ?_
  refine .seq (.region (.asg rfl rfl (.nil ?_)))
  refine .seq (.region (.mv rfl rfl (.lenR un_W rfl rfl ha (.mv rfl rfl (.lenR un_W rfl rfl hb (.max_ rfl rfl rfl (.add rfl rfl rfl ?_)))))))
  rw [show IntKind.i64.wrap (max (a.length : Int) (b.length : Int) + 1) = ((max a.length b.length + 1 : Nat) : Int) by rw [wI (by omega)]; omega]
  refine .make_ 0 _ un_W info_u32 rfl (by decide) rfl rfl rfl (Nat.zero_le _) (by omega) (by omega) fun w1 b1 n1 => ?_
  have o1 : OwnW 89 w.heap.size w1 _ [] := OwnW.made n1 (Nat.le_refl _) (by omega)
  obtain ⟨e1, k1, hb1, hs1⟩ := n1
  refine .alloc rfl zero_W fun w2 b5 n2 => ?_
  obtain ⟨e2, k2, hb5, hs2⟩ := n2
  have o2 := o1.ext e2
  refine .store ty_W rfl rfl k2 rfl (by simp [Value.cells]) (by simp [one1, Value.cells]) fun w3 k3 u3 => .nil ?_
  have o3 := o2.upd u3 k2 (by decide)
  have x3 : Ext w w3 := u3.below (e1.trans e2) (by omega)
  refine .seq (.region ?_)
  refine .call [.int .u64 (0 : Nat)] rfl E_whole_carrier rfl whole_carrier_c fun v4 w4 e4 h4 => ?_
  obtain ⟨bx, rfl, kx, hbx⟩ := h4
  refine .alloc rfl zero_F fun w5 b6 n5 => ?_
  obtain ⟨e5, k5, hb6, hs5⟩ := n5
  have kx5 := kx.ext e5
  refine .store ty_F rfl rfl k5 rfl (by simp [Value.cells]) (by simp [one1, Value.cells]) fun w6 k6 u6 => .nil ?_
  have hbx6 : bx ≠ b6 := by have := kx.lt; omega
  have s2 : b5 < w3.heap.size := k3.lt
  have s4 : w3.heap.size ≤ w4.heap.size := e4.size
  have hb56 : b5 ≠ b6 := by omega
  have kx6 := kx5.upd u6 hbx6
  have k56 := ((k3.ext e4).ext e5).upd u6 hb56
  have o6 := ((o3.ext e4).ext e5).upd u6 k5 (by decide)
  have x6 : Ext w w6 := u6.below ((x3.trans e4).trans e5) (by have := x3.size; omega)
  refine .seq (.seq (.region (.mv rfl rfl (.mv rfl rfl ?_))))
  refine .call _ rfl E_whole_pairs rfl (whole_pairs_c hva hvb) fun v7 w7 e7 h7 => .nil ?_
  obtain ⟨p1, p2, rfl, kp1, kp2, hp1, hp2⟩ := h7
  have x7 := x6.trans e7
  have hlt5 : b5 < w6.heap.size := k56.lt
  have hlt6 : b6 < w6.heap.size := k6.lt
  have hlta := (ER.lt _ ha)
  have hltb := (ER.lt _ hb)
  have hS : ∀ {W : World}, Below w.heap.size w W → eW.R (fun k => S k ∧ k < w.heap.size) W va a ∧ eW.R (fun k => S k ∧ k < w.heap.size) W vb b := fun hB => ⟨eW.keep (fun k c t f hk h => (hB.block k hk.2).trans h) hlta, eW.keep (fun k c t f hk h => (hB.block k hk.2).trans h) hltb⟩
  refine .block (.range (pairs1_c (S := fun k => S k ∧ k < w.heap.size) (a := a) (b := b) (va := va) (vb := vb) (by omega) (by omega)) rfl E_pairs1 (fun k => rfl) (by decide)
    (AddJ w b5 b6 bx p1 p2 va vb fun k r c => r.length = k ∧ c ≤ 1 ∧ val r + 4294967296 ^ k * c = val (a.take k) + val (b.take k)) (fun _ _ => False) (fun k W W' h hs => h.sft hs x7.size) (fun _ _ _ h _ => h.elim) (fun k W h => ⟨h.k1, h.k2, hS h.low⟩) ?_ ?_ ?_ (fun _ _ h => h.elim))
  · exact ⟨x7, k6.ext e7, kp1, kp2, _, [], 0, k56.ext e7, o6.ext e7, kx6.ext e7, rfl, by omega, by simp [val]⟩
  · intro l k W hk hJ
    refine .seq (.region (.asg rfl rfl (.nil (.region (.asg rfl rfl (.nil ⟨rfl, rfl, fun W hJ hsz => ?_⟩))))))
    obtain ⟨hlow, hf, hp1, hp2, v, r, c, h5, ho, hx, hr1, hr2, hr3⟩ := hJ
    have hxa := dig_getD hda k
    have hxb := dig_getD hdb k
    refine .block (.held follows true (fun W' => Blk W' b5 24 #[v] ∧ Blk W' b6 134 #[carV bx])
      [some _, some _, some _, some _, some _, none, none, none, none] (by kernel_rfl) ⟨fun _ h => v_ld ty_W rfl h.1 rfl, fun _ h => v_ld ty_F rfl h.2 rfl, fun _ _ => v_mv rfl, fun _ _ => v_mv rfl, fun _ _ => v_add rfl rfl, trivial⟩ ?_)
    intro W1 e1 hh1
    have h5 := h5.ext e1
    have hf := hf.ext e1
    have ho := ho.ext e1
    have hx := hx.ext e1
    have hp1 := hp1.ext e1
    have hp2 := hp2.ext e1
    have hlow1 : Below w.heap.size w W1 := hlow.trans (e1.mono hlow.size)
    rw [wU (by omega), ← Int.natCast_add]
    have hbxf : b6 ≠ bx := fun h => hbx6 h.symm
    refine .gv ⟨h5, hf⟩ rfl (g_callvG [_] rfl E_carrier1 rfl (carrier1_c hx (by omega))) ?_
    rintro _ W2 ⟨rfl, u2, hx2⟩
    have hb5x : b5 ≠ bx := by omega
    have h5 := h5.upd u2 hb5x
    have hf := hf.upd u2 hbxf
    have ho := ho.upd u2 hx (by decide)
    have oth : Oth W W2 := (Oth.ext e1).trans (Oth.upd u2 hx)
    have hxp1 : p1 ≠ bx := by have := kx6.lt; omega
    have hxp2 : p2 ≠ bx := by have := kx6.lt; omega
    have hp1 := hp1.upd u2 hxp1
    have hp2 := hp2.upd u2 hxp2
    have hlow2 : Below w.heap.size w W2 := u2.below hlow1 (by have := x3.size; omega)
    refine .gv ⟨h5, hf⟩ rfl (g_bsl _ rfl bsl_W1) ?_
    rintro _ W3 ⟨b3, rfl, n3⟩
    obtain ⟨e3, k3, hb3, hs3⟩ := n3
    have hlow3 : Below w.heap.size w W3 := hlow2.trans (e3.mono hlow2.size)
    refine .gv ⟨h5.ext e3, hf.ext e3⟩ rfl (g_appW (base := w.heap.size) un_W info_u32 rfl rfl (ho.ext e3) k3 (by omega) (by omega) hlow3.size) ?_
    rintro v4 W4 ⟨ho4, hg4⟩
    have h54 := (ho.ext e3).gblk hg4 (h5.ext e3) (by decide)
    have hf4 := (ho.ext e3).gblk hg4 (hf.ext e3) (by decide)
    have hp14 := (ho.ext e3).gblk hg4 (hp1.ext e3) (by decide)
    have hp24 := (ho.ext e3).gblk hg4 (hp2.ext e3) (by decide)
    have hx4 := (ho.ext e3).gblk hg4 (hx2.ext e3) (by decide)
    have hlow4 := (ho.ext e3).below hg4 hlow3 hlow3.size
    have oth4 := (oth.trans (Oth.ext e3)).trans ((ho.ext e3).oth hg4)
    have hv4 : ∃ a n c, v4 = .slice a n c := by
      rcases ho4.1.2 with ⟨rfl, _⟩ | ⟨g, cap, cur, rfl, _⟩ <;> exact ⟨_, _, _, rfl⟩
    obtain ⟨a4, n4, c4, rfl⟩ := hv4
    refine .gv ⟨h54, hf4⟩ rfl (g_store ty_W rfl rfl h54 rfl (by simp) (by simp [one1, Value.cells])) ?_
    rintro _ W5 ⟨k5, u5⟩
    refine .nil (.inl rfl) ?_
    refine ⟨oth4.trans (Oth.upd u5 h54), u5.below hlow4 (by have := x3.size; omega), hf4.upd u5 (Ne.symm hb56), hp14.upd u5 (by omega), hp24.upd u5 (by omega), _, _, _, k5, ho4.upd u5 h54 (by decide), hx4.upd u5 (Ne.symm hb5x), by simp [hr1], by omega, ?_⟩
    rw [val_snoc, val_take_succ, val_take_succ, hr1]
    have hdm := Nat.div_add_mod (a.getD k 0 + b.getD k 0 + c) 4294967296
    generalize (a.getD k 0 + b.getD k 0 + c) / 4294967296 = q at *
    generalize (a.getD k 0 + b.getD k 0 + c) % 4294967296 = m at *
    have : 4294967296 ^ k * m + 4294967296 ^ (k + 1) * q = 4294967296 ^ k * (a.getD k 0 + b.getD k 0 + c) := by
      rw [← hdm, Nat.pow_succ]; grind
    rw [Nat.mul_add, Nat.mul_add] at this
    omega
  · intro W hJ hD
    obtain ⟨hlow, hf, hp1, hp2, v, r, c, h5, ho, hx, hr1, hr2, hr3⟩ := hJ
    rw [List.take_of_length_le (by omega), List.take_of_length_le (by omega)] at hr3
    refine .seq (.held follows true (fun W' => Blk W' b5 24 #[v] ∧ Blk W' b6 134 #[carV bx])
      [some _, some _, none, none, none, none] (by kernel_rfl) ⟨fun _ h => v_ld ty_W rfl h.1 rfl, fun _ h => v_ld ty_F rfl h.2 rfl, trivial⟩ ?_)
    intro W1 e1 hh1
    have h5 := h5.ext e1
    have hf := hf.ext e1
    have ho := ho.ext e1
    have hx := hx.ext e1
    have hlow1 : Below w.heap.size w W1 := hlow.trans (e1.mono hlow.size)
    have hD1 := (Oth.ext e1) _ _ hD rfl
    refine .gv ⟨h5, hf⟩ rfl (g_callvG [.int .u64 (0 : Nat)] rfl E_carrier1 rfl (carrier1_c hx (by omega))) ?_
    rintro _ W2 ⟨rfl, u2, hx2⟩
    have hb5x : b5 ≠ bx := by omega
    have h5 := h5.upd u2 hb5x
    have hf := hf.upd u2 (Ne.symm hbx6)
    have hD2 := (Oth.upd u2 hx) _ _ hD1 rfl
    have ho := ho.upd u2 hx (by decide)
    have hlow2 : Below w.heap.size w W2 := u2.below hlow1 (by have := x3.size; omega)
    refine .gv ⟨h5, hf⟩ rfl (g_bsl _ rfl bsl_W1) ?_
    rintro _ W3 ⟨b3, rfl, n3⟩
    obtain ⟨e3, k3, hb3, hs3⟩ := n3
    have hlow3 : Below w.heap.size w W3 := hlow2.trans (e3.mono hlow2.size)
    refine .gv ⟨h5.ext e3, hf.ext e3⟩ rfl (g_appW (base := w.heap.size) un_W info_u32 rfl rfl (ho.ext e3) k3 (by omega) (by omega) hlow3.size) ?_
    rintro v4 W4 ⟨ho4, hg4⟩
    have h54 := (ho.ext e3).gblk hg4 (h5.ext e3) (by decide)
    have hf4 := (ho.ext e3).gblk hg4 (hf.ext e3) (by decide)
    have hlow4 := (ho.ext e3).below hg4 hlow3 hlow3.size
    have hD4 := ((Oth.ext e3).trans ((ho.ext e3).oth hg4)) _ _ hD2 rfl
    refine .gv ⟨h54, hf4⟩ rfl (v_as rfl).gv ?_
    rintro _ _ ⟨rfl, rfl⟩
    refine .nil (.inl rfl) (.ret ?_)
    refine .mark [_] Tryz.results134 hD4 ⟨rfl, trivial⟩ ⟨below_put hlow4 x7.size, _, (ho4.kp (Kp.put hD4 rfl)).toR up, ?_, by simp; omega⟩
    rw [val_snoc, hr1, ← hr3, Nat.zero_add, Nat.mod_eq_of_lt (by omega)]
theorem E_whole_subWords : Ent Tryz.prog 135 := ent_of Tryz.func135 (by kernel_rfl) rfl
theorem whole_subWords_c {S : Nat → Prop} {w : World} {va vb : Value} {a b : List Nat} (up : Up S w) (ha : eW.R S w va a) (hb : eW.R S w vb b) (hla : a.length ≤ 1099511627776) (hlb : b.length ≤ 1099511627776) (hab : val b ≤ val a) :
    CR Tryz.prog 135 #[va, vb] w (Wv S (val a - val b) (max a.length b.length)) := by
  have hda : dig a := eW_lt ha
  have hdb : dig b := eW_lt hb
  obtain ⟨aa, ca, hva, _⟩ := RL.len ha
  obtain ⟨ab, cb, hvb, _⟩ := RL.len hb
  refine enter Tryz.func135 rfl Tryz.ntmps135 rfl ?_
  refine .seq (.region (.asg rfl rfl (.nil ?_)))
  refine .seq (.region (.mv rfl rfl (.lenR un_W rfl rfl ha ?_)))
  refine .make_ 0 _ un_W info_u32 rfl (by decide) rfl rfl rfl (Nat.zero_le _) (by omega) (by omega) fun w1 b1 n1 => ?_
  have o1 : OwnW 89 w.heap.size w1 _ [] := OwnW.made n1 (Nat.le_refl _) (by omega)
  obtain ⟨e1, k1, hb1, hs1⟩ := n1
  refine .alloc rfl zero_W fun w2 b5 n2 => ?_
  obtain ⟨e2, k2, hb5, hs2⟩ := n2
  have o2 := o1.ext e2
  refine .store ty_W rfl rfl k2 rfl (by simp [Value.cells]) (by simp [one1, Value.cells]) fun w3 k3 u3 => .nil ?_
  have o3 := o2.upd u3 k2 (by decide)
  have x3 : Ext w w3 := u3.below (e1.trans e2) (by omega)
  refine .seq (.region ?_)
  refine .call [.int .u64 (1 : Nat)] rfl E_whole_carrier rfl whole_carrier_c fun v4 w4 e4 h4 => ?_
  obtain ⟨bx, rfl, kx, hbx⟩ := h4
  refine .alloc rfl zero_F fun w5 b6 n5 => ?_
  obtain ⟨e5, k5, hb6, hs5⟩ := n5
  have kx5 := kx.ext e5
  refine .store ty_F rfl rfl k5 rfl (by simp [Value.cells]) (by simp [one1, Value.cells]) fun w6 k6 u6 => .nil ?_
  have hbx6 : bx ≠ b6 := by have := kx.lt; omega
  have s2 : b5 < w3.heap.size := k3.lt
  have s4 : w3.heap.size ≤ w4.heap.size := e4.size
  have hb56 : b5 ≠ b6 := by omega
  have kx6 := kx5.upd u6 hbx6
  have k56 := ((k3.ext e4).ext e5).upd u6 hb56
  have o6 := ((o3.ext e4).ext e5).upd u6 k5 (by decide)
  have x6 : Ext w w6 := u6.below ((x3.trans e4).trans e5) (by have := x3.size; omega)
  refine .seq (.seq (.region (.mv rfl rfl (.mv rfl rfl ?_))))
  refine .call _ rfl E_whole_pairs rfl (whole_pairs_c hva hvb) fun v7 w7 e7 h7 => .nil ?_
  obtain ⟨p1, p2, rfl, kp1, kp2, hp1, hp2⟩ := h7
  have x7 := x6.trans e7
  have hlt5 : b5 < w6.heap.size := k56.lt
  have hlt6 : b6 < w6.heap.size := k6.lt
  have hlta := (ER.lt _ ha)
  have hltb := (ER.lt _ hb)
  have hS : ∀ {W : World}, Below w.heap.size w W → eW.R (fun k => S k ∧ k < w.heap.size) W va a ∧ eW.R (fun k => S k ∧ k < w.heap.size) W vb b := fun hB => ⟨eW.keep (fun k c t f hk h => (hB.block k hk.2).trans h) hlta, eW.keep (fun k c t f hk h => (hB.block k hk.2).trans h) hltb⟩
  refine .block (.range (pairs1_c (S := fun k => S k ∧ k < w.heap.size) (a := a) (b := b) (va := va) (vb := vb) (by omega) (by omega)) rfl E_pairs1 (fun k => rfl) (by decide)
    (AddJ w b5 b6 bx p1 p2 va vb fun k r c => r.length = k ∧ c ≤ 1 ∧ val r + 4294967296 ^ k * c + val (b.take k) = val (a.take k) + 4294967296 ^ k) (fun _ _ => False) (fun k W W' h hs => h.sft hs x7.size) (fun _ _ _ h _ => h.elim) (fun k W h => ⟨h.k1, h.k2, hS h.low⟩) ?_ ?_ ?_ (fun _ _ h => h.elim))
  · exact ⟨x7, k6.ext e7, kp1, kp2, _, [], 1, k56.ext e7, o6.ext e7, kx6.ext e7, rfl, by omega, by simp [val]⟩
  · intro l k W hk hJ
    refine .seq (.region (.asg rfl rfl (.nil (.region (.asg rfl rfl (.nil ⟨rfl, rfl, fun W hJ hsz => ?_⟩))))))
    obtain ⟨hlow, hf, hp1, hp2, v, r, c, h5, ho, hx, hr1, hr2, hr3⟩ := hJ
    have hxa := dig_getD hda k
    have hxb := dig_getD hdb k
    refine .block (.held follows true (fun W' => Blk W' b5 24 #[v] ∧ Blk W' b6 134 #[carV bx])
      [some _, some _, some _, some _, some _, some _, none, none, none, none] (by kernel_rfl) ⟨fun _ h => v_ld ty_W rfl h.1 rfl, fun _ h => v_ld ty_F rfl h.2 rfl, fun _ _ => v_mv rfl, fun _ _ => v_mv rfl, fun _ _ => v_sub rfl rfl, fun _ _ => v_add rfl rfl, trivial⟩ ?_)
    intro W1 e1 hh1
    have h5 := h5.ext e1
    have hf := hf.ext e1
    have ho := ho.ext e1
    have hx := hx.ext e1
    have hp1 := hp1.ext e1
    have hp2 := hp2.ext e1
    have hlow1 : Below w.heap.size w W1 := hlow.trans (e1.mono hlow.size)
    rw [show IntKind.u64.wrap (((a.getD k 0 : Nat) : Int) + IntKind.u64.wrap (4294967295 - ((b.getD k 0 : Nat) : Int))) = ((a.getD k 0 + (4294967295 - b.getD k 0) : Nat) : Int) by rw [wU (n := 4294967295 - _) (by omega), wU (by omega)]; omega]
    have hbxf : b6 ≠ bx := fun h => hbx6 h.symm
    refine .gv ⟨h5, hf⟩ rfl (g_callvG [_] rfl E_carrier1 rfl (carrier1_c hx (by omega))) ?_
    rintro _ W2 ⟨rfl, u2, hx2⟩
    have hb5x : b5 ≠ bx := by omega
    have h5 := h5.upd u2 hb5x
    have hf := hf.upd u2 hbxf
    have ho := ho.upd u2 hx (by decide)
    have oth : Oth W W2 := (Oth.ext e1).trans (Oth.upd u2 hx)
    have hxp1 : p1 ≠ bx := by have := kx6.lt; omega
    have hxp2 : p2 ≠ bx := by have := kx6.lt; omega
    have hp1 := hp1.upd u2 hxp1
    have hp2 := hp2.upd u2 hxp2
    have hlow2 : Below w.heap.size w W2 := u2.below hlow1 (by have := x3.size; omega)
    refine .gv ⟨h5, hf⟩ rfl (g_bsl _ rfl bsl_W1) ?_
    rintro _ W3 ⟨b3, rfl, n3⟩
    obtain ⟨e3, k3, hb3, hs3⟩ := n3
    have hlow3 : Below w.heap.size w W3 := hlow2.trans (e3.mono hlow2.size)
    refine .gv ⟨h5.ext e3, hf.ext e3⟩ rfl (g_appW (base := w.heap.size) un_W info_u32 rfl rfl (ho.ext e3) k3 (by omega) (by omega) hlow3.size) ?_
    rintro v4 W4 ⟨ho4, hg4⟩
    have h54 := (ho.ext e3).gblk hg4 (h5.ext e3) (by decide)
    have hf4 := (ho.ext e3).gblk hg4 (hf.ext e3) (by decide)
    have hp14 := (ho.ext e3).gblk hg4 (hp1.ext e3) (by decide)
    have hp24 := (ho.ext e3).gblk hg4 (hp2.ext e3) (by decide)
    have hx4 := (ho.ext e3).gblk hg4 (hx2.ext e3) (by decide)
    have hlow4 := (ho.ext e3).below hg4 hlow3 hlow3.size
    have oth4 := (oth.trans (Oth.ext e3)).trans ((ho.ext e3).oth hg4)
    have hv4 : ∃ a n c, v4 = .slice a n c := by
      rcases ho4.1.2 with ⟨rfl, _⟩ | ⟨g, cap, cur, rfl, _⟩ <;> exact ⟨_, _, _, rfl⟩
    obtain ⟨a4, n4, c4, rfl⟩ := hv4
    refine .gv ⟨h54, hf4⟩ rfl (g_store ty_W rfl rfl h54 rfl (by simp) (by simp [one1, Value.cells])) ?_
    rintro _ W5 ⟨k5, u5⟩
    refine .nil (.inl rfl) ?_
    refine ⟨oth4.trans (Oth.upd u5 h54), u5.below hlow4 (by have := x3.size; omega), hf4.upd u5 (Ne.symm hb56), hp14.upd u5 (by omega), hp24.upd u5 (by omega), _, _, _, k5, ho4.upd u5 h54 (by decide), hx4.upd u5 (Ne.symm hb5x), by simp [hr1], by omega, ?_⟩
    rw [val_snoc, val_take_succ, val_take_succ, hr1]
    have hdm := Nat.div_add_mod (a.getD k 0 + (4294967295 - b.getD k 0) + c) 4294967296
    generalize hq : (a.getD k 0 + (4294967295 - b.getD k 0) + c) / 4294967296 = q at *
    generalize hm : (a.getD k 0 + (4294967295 - b.getD k 0) + c) % 4294967296 = m at *
    have h1 : 4294967296 ^ k * m + 4294967296 ^ (k + 1) * q = 4294967296 ^ k * (a.getD k 0 + (4294967295 - b.getD k 0) + c) := by
      rw [← hdm, Nat.pow_succ]; grind
    have h2 : 4294967296 ^ k * (a.getD k 0 + (4294967295 - b.getD k 0) + c) + 4294967296 ^ k * b.getD k 0 + 4294967296 ^ k = 4294967296 ^ k * a.getD k 0 + 4294967296 ^ k * c + 4294967296 ^ (k + 1) := by
      have : a.getD k 0 + (4294967295 - b.getD k 0) + c + b.getD k 0 + 1 = a.getD k 0 + c + 4294967296 := by omega
      have := congrArg (4294967296 ^ k * ·) this
      simp only [Nat.mul_add, Nat.mul_one] at this
      rw [Nat.pow_succ, Nat.mul_add, Nat.mul_add]
      omega
    omega
  · intro W hJ hD
    obtain ⟨hlow, hf, hp1, hp2, v, r, c, h5, ho, hx, hr1, hr2, hr3⟩ := hJ
    rw [List.take_of_length_le (by omega), List.take_of_length_le (by omega)] at hr3
    refine .seq (.region (.ld ty_W rfl rfl h5 rfl (.asg rfl rfl (.nil (.ret ?_)))))
    refine .mark [_] Tryz.results135 hD ⟨rfl, trivial⟩ ⟨below_put hlow x7.size, r, (ho.kp (Kp.put hD rfl)).toR up, ?_, by omega⟩
    have hlt := val_lt ho.2
    rw [hr1] at hlt
    have hc1 : c = 1 := by
      rcases Nat.lt_or_ge c 1 with h | h
      · have : c = 0 := by omega
        subst this
        rw [Nat.mul_zero] at hr3
        omega
      · omega
    subst hc1
    rw [Nat.mul_one] at hr3
    omega

end Go.Proofs.YtgghedhmjhaieaaGreat

namespace Go.Proofs.YtgghedhmjhaieaaGreat
open Go Go.Kx Go.RowKit

theorem getD_get {l : List Nat} {k : Nat} (h : k < l.length) : l[k]? = some (l.getD k 0) := by
  rw [List.getD_eq_getElem?_getD, List.getElem?_eq_getElem h]; rfl

theorem E_whole_shiftLeft : Ent Tryz.prog 154 := ent_of Tryz.func154 (by kernel_rfl) rfl
theorem whole_shiftLeft_c {S : Nat → Prop} {w : World} {va : Value} {a : List Nat} {s : Nat} (ha : eW.R S w va a) (hla : a.length ≤ 1099511627776) (hs : s ≤ 31) :
    CR Tryz.prog 154 #[va, .int .u64 s] w (fun v w' => ∃ r, OwnW 89 w.heap.size w' v r ∧ val r = val a * 2 ^ s ∧ r.length = a.length + 1) := by
  have hda : dig a := eW_lt ha
  have hp : 0 < 2 ^ s := Nat.pow_pos (by omega)
  have hp31 : 2 ^ s ≤ 2 ^ 31 := Nat.pow_le_pow_right (by omega) hs
  refine enter Tryz.func154 rfl Tryz.ntmps154 rfl ?_
  refine .seq (.region (.asg rfl rfl (.nil ?_)))
  refine .seq (.region ?_)
  refine .call [.int .u64 (0 : Nat)] rfl E_whole_carrier rfl whole_carrier_c fun v1 w1 e1 h1 => .asg rfl rfl (.nil ?_)
  obtain ⟨bx, rfl, kx, hbx⟩ := h1
  have ha1 := ha.ext e1
  refine .seq (.region (.mv rfl rfl (.lenR un_W rfl rfl ha1 (.add rfl rfl rfl ?_))))
  rw [show IntKind.i64.wrap ((a.length : Int) + 1) = ((a.length + 1 : Nat) : Int) by rw [wI (by omega)]; omega]
  refine .make_ 0 _ un_W info_u32 rfl (by decide) rfl rfl rfl (Nat.zero_le _) (by omega) (by omega) fun w2 b2 n2 => .asg rfl rfl (.nil ?_)
  have o2 : OwnW 89 w.heap.size w2 _ [] := OwnW.made n2 e1.size (by omega)
  obtain ⟨e2, k2, hb2, hs2⟩ := n2
  have x2 := e1.trans e2
  have hlt := ER.lt _ ha
  have hS : ∀ {W : World}, Below w.heap.size w W → eW.R (fun k => S k ∧ k < w.heap.size) W va a := fun hB => eW.keep (fun k c t f hk h => (hB.block k hk.2).trans h) hlt
  refine .mid (α := Value × List Nat) (fun x => [(6, x.1), (5, carV bx)]) (fun x W => Below w.heap.size w W ∧ x.2.length = a.length ∧ OwnW 89 w.heap.size W x.1 x.2 ∧ ∃ c, cBlk W bx c ∧ c < 2 ^ s ∧ val x.2 + 4294967296 ^ a.length * c = val a * 2 ^ s) ?_ ?_
  · refine .seq (.region (.mv rfl rfl (.lenR un_W rfl rfl (hS x2) (.mv rfl rfl (.nil ?_)))))
    refine .block (.loop (α := Nat × Value × List Nat × Nat) (fun x => [(6, x.2.1), (5, carV bx), (14, va), (15, .int .i64 (a.length : Nat)), (16, .int .i64 (x.1 : Nat)), (1, .int .u64 s)])
      (fun x W => Below w.heap.size w W ∧ x.1 ≤ a.length ∧ x.2.2.1.length = x.1 ∧ OwnW 89 w.heap.size W x.2.1 x.2.2.1 ∧ cBlk W bx x.2.2.2 ∧ x.2.2.2 < 2 ^ s ∧ val x.2.2.1 + 4294967296 ^ x.1 * x.2.2.2 = val (a.take x.1) * 2 ^ s) (fun x => a.length - x.1) (0, .slice (some ⟨b2, 0, none⟩) 0 (a.length + 1), [], 0) ?_ ?_ ?_)
    · exact look_cons rfl (look_cons rfl (look_cons rfl (look_cons rfl (look_cons rfl (look_cons rfl look_nil)))))
    · exact ⟨x2, Nat.zero_le _, rfl, o2, kx.ext e2, hp, by simp [val]⟩
    · rintro ⟨i, v, r, c⟩ W ⟨hB, hi, hr, ho, hx, hc, hv⟩
      replace hB : Below w.heap.size w W := hB
      replace hi : i ≤ a.length := hi
      replace hr : r.length = i := hr
      replace ho : OwnW 89 w.heap.size W v r := ho
      replace hx : cBlk W bx c := hx
      replace hc : c < 2 ^ s := hc
      replace hv : val r + 4294967296 ^ i * c = val (a.take i) * 2 ^ s := hv
      by_cases hlt : i < a.length
      · refine .seq (.region (.lssT rfl rfl rfl (by omega) (.nil (.seq (.condT rfl (.skip (.seq (.block (.seq (.region ?_)))))))))) 
        refine .ixN (i := i) un_W ty_u32 rfl rfl (hS hB) rfl (getD_get hlt) fun p hp => .ldE ty_u32 rfl rfl hp fun e he => ?_
        obtain ⟨rfl, hxx⟩ := he
        refine .asg rfl rfl (.nil (.region (.mv rfl rfl (.mv rfl rfl (.mv rfl rfl (.cvt un_u32 un_u64 rfl rfl (.mv rfl rfl (.shl rfl rfl rfl (by omega) ?_))))))))
        rw [wU (n := ((a.getD i 0 : Nat) : Int)) (by omega), shl_nat _ _ hs hxx]
        have hm := Nat.mul_le_mul (show a.getD i 0 ≤ 4294967295 by omega) (Nat.le_refl (2 ^ s))
        refine .callvG [_] rfl rfl E_carrier1 rfl (carrier1_c hx (by omega)) ?_
        rintro _ W2 ⟨rfl, u2, hx2⟩
        have ho2 := ho.upd u2 hx (by decide)
        have hB2 : Below w.heap.size w W2 := u2.below hB hbx
        refine .bsl _ rfl rfl bsl_W1 fun W3 b3 n3 => ?_
        obtain ⟨e3, k3, hb3, hs3⟩ := n3
        have hB3 : Below w.heap.size w W3 := hB2.trans (e3.mono hB2.size)
        refine .gv rfl rfl (g_appW (base := w.heap.size) un_W info_u32 rfl rfl (ho2.ext e3) k3 (by omega) (by omega) hB3.size) ?_
        rintro v4 W4 ⟨ho4, hg4⟩
        refine .asg rfl rfl (.nil (.region (.add rfl rfl rfl (.mv rfl rfl (.nil ?_)))))
        rw [wI (by omega)]
        refine ⟨rfl, (i + 1, v4, _, _), look_cons rfl (look_cons rfl (look_cons rfl (look_cons rfl (look_cons rfl (look_cons rfl look_nil))))), ⟨(ho2.ext e3).below hg4 hB3 hB3.size, hlt, by simp [hr], ho4, (ho2.ext e3).gblk hg4 (hx2.ext e3) (by decide), ?_, ?_⟩, by show a.length - (i + 1) < a.length - i; omega⟩
        · show (a.getD i 0 * 2 ^ s + c) / 4294967296 < 2 ^ s
          rw [Nat.div_lt_iff_lt_mul (by omega)]
          omega
        · show val (r ++ [(a.getD i 0 * 2 ^ s + c) % 4294967296]) + 4294967296 ^ (i + 1) * ((a.getD i 0 * 2 ^ s + c) / 4294967296) = val (a.take (i + 1)) * 2 ^ s
          rw [val_snoc, val_take_succ, hr, Nat.add_mul, ← hv]
          have hdm := Nat.div_add_mod (a.getD i 0 * 2 ^ s + c) 4294967296
          generalize (a.getD i 0 * 2 ^ s + c) / 4294967296 = q at *
          generalize (a.getD i 0 * 2 ^ s + c) % 4294967296 = m at *
          have : 4294967296 ^ i * m + 4294967296 ^ (i + 1) * q = 4294967296 ^ i * (a.getD i 0 * 2 ^ s + c) := by
            rw [← hdm, Nat.pow_succ]; grind
          rw [Nat.mul_add, ← Nat.mul_assoc] at this
          omega
      · refine .seq (.region (.lssF rfl rfl rfl (by omega) (.nil (.seq (.condF rfl (.exit ?_))))))
        have : i = a.length := by omega
        subst this
        rw [List.take_of_length_le (Nat.le_refl _)] at hv
        exact ⟨rfl, (v, r), look_cons rfl (look_cons rfl look_nil), hB, hr, ho, c, hx, hc, hv⟩
  · rintro ⟨v, r⟩ W ⟨hB, hr, ho, c, hx, hc, hv⟩
    replace hr : r.length = a.length := hr
    replace ho : OwnW 89 w.heap.size W v r := ho
    replace hv : val r + 4294967296 ^ a.length * c = val a * 2 ^ s := hv
    refine .seq (.region (.mv rfl rfl (.mv rfl rfl ?_)))
    refine .callvG [.int .u64 (0 : Nat)] rfl rfl E_carrier1 rfl (carrier1_c hx (by omega)) ?_
    rintro _ W2 ⟨rfl, u2, hx2⟩
    have ho2 := ho.upd u2 hx (by decide)
    have hB2 : Below w.heap.size w W2 := u2.below hB hbx
    refine .bsl _ rfl rfl bsl_W1 fun W3 b3 n3 => ?_
    obtain ⟨e3, k3, hb3, hs3⟩ := n3
    have hB3 : Below w.heap.size w W3 := hB2.trans (e3.mono hB2.size)
    refine .gv rfl rfl (g_appW (base := w.heap.size) un_W info_u32 rfl rfl (ho2.ext e3) k3 (by omega) (by omega) hB3.size) ?_
    rintro v4 W4 ⟨ho4, hg4⟩
    refine .asg rfl rfl (.nil (.ret ?_))
    refine .plain [_] Tryz.results154 ⟨rfl, trivial⟩ ⟨(ho2.ext e3).below hg4 hB3 hB3.size, _, ho4, ?_, by simp [hr]⟩
    rw [val_snoc, hr, ← hv, Nat.zero_add, Nat.mod_eq_of_lt (by omega)]

theorem E_whole_mulWords : Ent Tryz.prog 151 := ent_of Tryz.func151 (by kernel_rfl) rfl
theorem whole_mulWords_c {S : Nat → Prop} {w : World} {va vb : Value} {a b : List Nat} (up : Up S w) (ha : eW.R S w va a) (hb : eW.R S w vb b) (hla : a.length ≤ 1099511627776) (hlb : b.length ≤ 1099511627776) :
    CR Tryz.prog 151 #[va, vb] w (Wv S (val a * val b) (a.length + b.length)) := by
  have hda : dig a := eW_lt ha
  have hdb : dig b := eW_lt hb
  have hlta := ER.lt _ ha
  have hltb := ER.lt _ hb
  have hSa : ∀ {W : World}, Below w.heap.size w W → eW.R (fun k => S k ∧ k < w.heap.size) W va a := fun hB => eW.keep (fun k c t f hk h => (hB.block k hk.2).trans h) hlta
  have hSb : ∀ {W : World}, Below w.heap.size w W → eW.R (fun k => S k ∧ k < w.heap.size) W vb b := fun hB => eW.keep (fun k c t f hk h => (hB.block k hk.2).trans h) hltb
  refine enter Tryz.func151 rfl Tryz.ntmps151 rfl ?_
  refine .seq (.region (.asg rfl rfl (.nil ?_)))
  refine .seq (.region (.mv rfl rfl (.lenR un_W rfl rfl ha (.mv rfl rfl (.lenR un_W rfl rfl hb (.add rfl rfl rfl ?_))))))
  rw [show IntKind.i64.wrap ((a.length : Int) + (b.length : Int)) = ((a.length + b.length : Nat) : Int) by rw [wI (by omega)]; omega]
  refine .make_ _ _ un_W info_u32 rfl (by decide) rfl rfl rfl (Nat.le_refl _) (by omega) (by omega) fun w1 g n1 => .asg rfl rfl (.nil ?_)
  have o1 : OB 89 w1 g (List.replicate (a.length + b.length) 0) := OB.made n1
  obtain ⟨e1, k1, hg, hs1⟩ := n1
  generalize hL : a.length + b.length = L at *
  refine .mid (α := List Nat) (fun p => [(5, .slice (some ⟨g, 0, none⟩) L L)]) (fun p W => Below w.heap.size w W ∧ p.length = L ∧ OB 89 W g p ∧ val p = val a * val b) ?_ ?_
  · refine .seq (.region (.mv rfl rfl (.lenR un_W rfl rfl (hSa e1) (.mv rfl rfl (.nil ?_)))))
    refine .block (.loop (α := Nat × List Nat) (fun x => [(5, .slice (some ⟨g, 0, none⟩) L L), (17, va), (18, .int .i64 (a.length : Nat)), (19, .int .i64 (x.1 : Nat)), (1, vb)])
      (fun x W => Below w.heap.size w W ∧ x.1 ≤ a.length ∧ x.2.length = L ∧ OB 89 W g x.2 ∧ val x.2 = val (a.take x.1) * val b ∧ ∀ j, x.1 + b.length ≤ j → x.2.getD j 0 = 0) (fun x => a.length - x.1) (0, List.replicate L 0) ?_ ?_ ?_)
    · exact look_cons rfl (look_cons rfl (look_cons rfl (look_cons rfl (look_cons rfl look_nil))))
    · refine ⟨e1, Nat.zero_le _, by simp, o1, by simp [val, val_replicate0], fun j _ => ?_⟩
      rw [List.getD_eq_getElem?_getD, List.getElem?_replicate]; split <;> rfl
    · rintro ⟨i, p⟩ W ⟨hB, hi, hp, ho, hv, hz⟩
      replace hi : i ≤ a.length := hi
      replace hp : p.length = L := hp
      replace ho : OB 89 W g p := ho
      replace hv : val p = val (a.take i) * val b := hv
      replace hz : ∀ j, i + b.length ≤ j → p.getD j 0 = 0 := hz
      by_cases hlt : i < a.length
      · refine .seq (.region (.lssT rfl rfl rfl (by omega) (.nil (.seq (.condT rfl (.skip (.seq (.block (.seq (.region (.mv rfl rfl ?_))))))))))) 
        refine .ixN (i := i) un_W ty_u32 rfl rfl (hSa hB) rfl (getD_get hlt) fun q hq => .ldE ty_u32 rfl rfl hq fun e he => ?_
        obtain ⟨rfl, hxx⟩ := he
        generalize hx : a.getD i 0 = x at *
        refine .asg rfl rfl (.asg rfl rfl (.nil (.seq (.region ?_))))
        refine .call [.int .u64 (0 : Nat)] rfl E_whole_carrier rfl whole_carrier_c fun v1 w1 e1 h1 => .asg rfl rfl (.nil ?_)
        obtain ⟨bx, rfl, kx, hbx⟩ := h1
        have hB1 : Below w.heap.size w w1 := hB.trans (e1.mono hB.size)
        have hgx : g ≠ bx := by have := ho.lt; omega
        have hwbx : w.heap.size ≤ bx := Nat.le_trans hB.size hbx
        refine .mid (α := List Nat × Nat) (fun _ => [(5, .slice (some ⟨g, 0, none⟩) L L), (17, va), (18, .int .i64 (a.length : Nat)), (19, .int .i64 (i : Nat)), (1, vb), (6, .int .i64 (i : Nat)), (8, carV bx)])
          (fun y W => Below w.heap.size w W ∧ y.1.length = L ∧ OB 89 W g y.1 ∧ cBlk W bx y.2 ∧ y.2 < 4294967296 ∧ val y.1 + 4294967296 ^ (i + b.length) * y.2 = val p + 4294967296 ^ i * (x * val b) ∧ ∀ j, i + b.length ≤ j → y.1.getD j 0 = 0) ?_ ?_
        · refine .seq (.region (.mv rfl rfl (.lenR un_W rfl rfl (hSb hB1) (.mv rfl rfl (.nil ?_)))))
          refine .block (.loop (α := Nat × List Nat × Nat) (fun z => [(5, .slice (some ⟨g, 0, none⟩) L L), (17, va), (18, .int .i64 (a.length : Nat)), (19, .int .i64 (i : Nat)), (1, vb), (6, .int .i64 (i : Nat)), (7, wv x), (8, carV bx), (25, vb), (26, .int .i64 (b.length : Nat)), (27, .int .i64 (z.1 : Nat))])
            (fun z W => Below w.heap.size w W ∧ z.1 ≤ b.length ∧ z.2.1.length = L ∧ OB 89 W g z.2.1 ∧ cBlk W bx z.2.2 ∧ z.2.2 < 4294967296 ∧ val z.2.1 + 4294967296 ^ (i + z.1) * z.2.2 = val p + 4294967296 ^ i * (x * val (b.take z.1)) ∧ ∀ j, i + b.length ≤ j → z.2.1.getD j 0 = 0) (fun z => b.length - z.1) (0, p, 0) ?_ ?_ ?_)
          · exact look_cons rfl (look_cons rfl (look_cons rfl (look_cons rfl (look_cons rfl (look_cons rfl (look_cons rfl (look_cons rfl (look_cons rfl (look_cons rfl (look_cons rfl look_nil))))))))))
          · exact ⟨hB1, Nat.zero_le _, hp, ho.ext e1, kx, by show 0 < 4294967296; omega, by simp [val], hz⟩
          · rintro ⟨k, u, c⟩ W ⟨hB, hk, hu, ho, hcx, hc, hv, hz⟩
            replace hk : k ≤ b.length := hk
            replace hu : u.length = L := hu
            replace ho : OB 89 W g u := ho
            replace hcx : cBlk W bx c := hcx
            replace hc : c < 4294967296 := hc
            replace hv : val u + 4294967296 ^ (i + k) * c = val p + 4294967296 ^ i * (x * val (b.take k)) := hv
            replace hz : ∀ j, i + b.length ≤ j → u.getD j 0 = 0 := hz
            by_cases hltk : k < b.length
            · refine .seq (.region (.lssT rfl rfl rfl (by omega) (.nil (.seq (.condT rfl (.skip (.seq (.block (.seq (.region (.mv rfl rfl ?_)))))))))))
              refine .ixN (i := k) un_W ty_u32 rfl rfl (hSb hB) rfl (getD_get hltk) fun q hq => .ldE ty_u32 rfl rfl hq fun e he => ?_
              obtain ⟨rfl, hyy⟩ := he
              generalize hy : b.getD k 0 = y at *
              refine .asg rfl rfl (.asg rfl rfl (.nil (.region ?_)))
              have hik : IntKind.i64.wrap ((i : Int) + (k : Int)) = ((i + k : Nat) : Int) := by rw [wI (by omega)]; omega
              have hgu : u[i + k]? = some (u.getD (i + k) 0) := getD_get (by omega)
              have hud := dig_getD ho.1 (i + k)
              refine .mv rfl rfl (.mv rfl rfl (.mv rfl rfl (.add (m := (i : Int)) (n := (k : Int)) rfl rfl rfl ?_)))
              rw [hik]
              refine .mv rfl rfl (.mv rfl rfl (.mv rfl rfl (.mv rfl rfl (.add (m := (i : Int)) (n := (k : Int)) rfl rfl rfl ?_))))
              rw [hik]
              refine .ixB un_W ty_u32 rfl rfl rfl (by omega) ?_
              rw [show 0 + (i + k) * 1 = i + k by omega]
              refine .ldO ty_u32 rfl rfl ho hgu ?_
              refine .cvt un_u32 un_u64 rfl rfl (.mv rfl rfl (.cvt un_u32 un_u64 rfl rfl (.mv rfl rfl (.cvt un_u32 un_u64 rfl rfl (.mul rfl rfl rfl (.add rfl rfl rfl ?_))))))
              generalize hm : u.getD (i + k) 0 = m at *
              have hxy : x * y ≤ 4294967295 * 4294967295 := Nat.mul_le_mul (by omega) (by omega)
              rw [wU (n := (m : Int)) (by omega), wU (n := (x : Int)) (by omega), wU (n := (y : Int)) (by omega), ← Int.natCast_mul, wU (n := ((x * y : Nat) : Int)) (by omega), ← Int.natCast_add, wU (n := ((m + x * y : Nat) : Int)) (by omega)]
              refine .callvG [_] rfl rfl E_carrier1 rfl (carrier1_c hcx (by omega)) ?_
              rintro _ W2 ⟨rfl, u2, hx2⟩
              have hB2 : Below w.heap.size w W2 := u2.below hB hwbx
              refine .ixB un_W ty_u32 rfl rfl rfl (by omega) ?_
              rw [show 0 + (i + k) * 1 = i + k by omega]
              refine .stO ty_u32 rfl rfl rfl (ho.upd u2 hgx) (by omega) (by omega) fun W3 ho3 u3 => .nil ?_
              refine .region (.add (m := (k : Int)) rfl rfl rfl (.mv rfl rfl (.nil ?_)))
              rw [wI (n := (k : Int) + 1) (by omega)]
              refine ⟨rfl, (k + 1, _, _), look_cons rfl (look_cons rfl (look_cons rfl (look_cons rfl (look_cons rfl (look_cons rfl (look_cons rfl (look_cons rfl (look_cons rfl (look_cons rfl (look_cons rfl look_nil)))))))))), ⟨u3.below hB2 (by have := e1.size; have := hg; omega), hltk, by simp [hu], ho3, hx2.upd u3 (Ne.symm hgx), ?_, ?_, ?_⟩, by show b.length - (k + 1) < b.length - k; omega⟩
              · show (m + x * y + c) / 4294967296 < 4294967296
                rw [Nat.div_lt_iff_lt_mul (by omega)]
                omega
              · show val (u.set (i + k) ((m + x * y + c) % 4294967296)) + 4294967296 ^ (i + (k + 1)) * ((m + x * y + c) / 4294967296) = val p + 4294967296 ^ i * (x * val (b.take (k + 1)))
                have h1 := val_set ((m + x * y + c) % 4294967296) hgu
                rw [val_take_succ, hy]
                have hdm := Nat.div_add_mod (m + x * y + c) 4294967296
                generalize (m + x * y + c) / 4294967296 = q at *
                generalize (m + x * y + c) % 4294967296 = r at *
                have h2 : 4294967296 ^ (i + k) * r + 4294967296 ^ (i + (k + 1)) * q = 4294967296 ^ (i + k) * (m + x * y + c) := by
                  rw [← hdm, ← Nat.add_assoc, Nat.pow_succ]; grind
                have h3 : 4294967296 ^ i * (x * (val (b.take k) + 4294967296 ^ k * y)) = 4294967296 ^ i * (x * val (b.take k)) + 4294967296 ^ (i + k) * (x * y) := by
                  rw [Nat.pow_add]; grind
                rw [h3]
                rw [Nat.mul_add, Nat.mul_add] at h2
                omega
              · intro j hj
                show (u.set (i + k) ((m + x * y + c) % 4294967296)).getD j 0 = 0
                rw [List.getD_eq_getElem?_getD, List.getElem?_set_ne (by omega), ← List.getD_eq_getElem?_getD]
                exact hz j hj
            · refine .seq (.region (.lssF rfl rfl rfl (by omega) (.nil (.seq (.condF rfl (.exit ?_))))))
              have : k = b.length := by omega
              subst this
              rw [List.take_of_length_le (Nat.le_refl _)] at hv
              exact ⟨rfl, (u, c), look_cons rfl (look_cons rfl (look_cons rfl (look_cons rfl (look_cons rfl (look_cons rfl (look_cons rfl look_nil)))))), hB, hu, ho, hcx, hc, hv, hz⟩
        · rintro ⟨u, c⟩ W ⟨hB, hu, ho, hcx, hc, hv, hz⟩
          replace hu : u.length = L := hu
          replace ho : OB 89 W g u := ho
          replace hcx : cBlk W bx c := hcx
          replace hc : c < 4294967296 := hc
          replace hv : val u + 4294967296 ^ (i + b.length) * c = val p + 4294967296 ^ i * (x * val b) := hv
          replace hz : ∀ j, i + b.length ≤ j → u.getD j 0 = 0 := hz
          have hib : IntKind.i64.wrap ((i : Int) + (b.length : Int)) = ((i + b.length : Nat) : Int) := by rw [wI (by omega)]; omega
          refine .region (.mv rfl rfl (.mv rfl rfl (.mv rfl rfl (.lenR un_W rfl rfl (hSb hB) (.add rfl rfl rfl ?_)))))
          rw [hib]
          refine .mv rfl rfl (.callvG [.int .u64 (0 : Nat)] rfl rfl E_carrier1 rfl (carrier1_c hcx (by omega)) ?_)
          rintro _ W2 ⟨rfl, u2, hx2⟩
          rw [Nat.zero_add, Nat.mod_eq_of_lt hc]
          refine .ixB un_W ty_u32 rfl rfl rfl (by omega) ?_
          rw [show 0 + (i + b.length) * 1 = i + b.length by omega]
          refine .stO ty_u32 rfl rfl rfl (ho.upd u2 hgx) (by omega) hc fun W3 ho3 u3 => .nil (.region (.add (m := (i : Int)) rfl rfl rfl (.mv rfl rfl (.nil ?_))))
          rw [wI (n := (i : Int) + 1) (by omega)]
          have hB2 : Below w.heap.size w W2 := u2.below hB hwbx
          refine ⟨rfl, (i + 1, u.set (i + b.length) c), look_cons rfl (look_cons rfl (look_cons rfl (look_cons rfl (look_cons rfl look_nil)))), ⟨u3.below hB2 (by omega), hlt, by simp [hu], ho3, ?_, ?_⟩, by show a.length - (i + 1) < a.length - i; omega⟩
          · show val (u.set (i + b.length) c) = val (a.take (i + 1)) * val b
            have h1 := val_set c (getD_get (l := u) (k := i + b.length) (by omega))
            rw [hz _ (Nat.le_refl _)] at h1
            rw [val_take_succ, hx, Nat.add_mul, Nat.mul_assoc]
            replace hv0 : val p = val (a.take i) * val b := by assumption
            omega
          · intro j hj
            have hj : i + 1 + b.length ≤ j := hj
            show (u.set (i + b.length) c).getD j 0 = 0
            rw [List.getD_eq_getElem?_getD, List.getElem?_set_ne (by omega), ← List.getD_eq_getElem?_getD]
            exact hz j (by omega)
      · refine .seq (.region (.lssF rfl rfl rfl (by omega) (.nil (.seq (.condF rfl (.exit ?_))))))
        have : i = a.length := by omega
        subst this
        rw [List.take_of_length_le (Nat.le_refl _)] at hv
        exact ⟨rfl, p, look_cons rfl look_nil, hB, hp, ho, hv⟩
  · rintro p W ⟨hB, hp, ho, hv⟩
    subst hp
    refine .seq (.region (.mv rfl rfl (.asg rfl rfl (.nil (.ret ?_)))))
    refine .plain [_] Tryz.results151 ⟨rfl, trivial⟩ ⟨hB, p, ho.toR0 (up g (by omega)) (Nat.le_refl _) (by omega), hv, by omega⟩
end Go.Proofs.YtgghedhmjhaieaaGreat
